/- A part of the proof. -/
import Derived.Test.YtkanpclgnhdbiaaGreatDoorTicketOrderCard1
import Derived.Conc.Beside
import Derived.Conc.CrowdTrace
import Derived.Conc.CrowdComm
set_option linter.all false
set_option maxRecDepth 4000
set_option maxHeartbeats 4000000
open Array renaming getElem?_append_right->X8,getElem?_eq_getElem->SJ,getElem?_eq_some_iff->SS,getElem?_map->WF,getElem?_modify->Wj,getElem?_setIfInBounds_ne->SR,getElem?_setIfInBounds_self_of_lt->S9,getElem_mem->XX,mem_append->Ut,size_append->XE
open Bool renaming false_eq_true->TM,true_and->U5
open Classical renaming byContradiction->Tt
open Go renaming Addr->U4,Code->T7,Deferred->UX,Event->Uq,FuncId->TN,Goroutine->SH,IntKind->TU,LoopState->aa_,MemOp->Wd,Operand->Tl,Program->SK,ResultVar->UM,Touch->YK,Trace->Ui,Value->SO,World->Tq
open Go.BinOp renaming neq->VW
open Go.Conc renaming Deaf->US,Deaf_other->atA,Knows->Wn,QuitsD->Y5,act?_of->ah_,act?_old->X7,deaf_succ->ac_,getElem?_append_cases->Xm,getElem?_stand->Ya,heard_old->Wr,knows_own->Zb,lt_of_act?->Wc,lt_size_of_getElem?->TH,mem_ofEvents->TK,mem_of_getElem?->XW,ofEvent_cell0->apH,offersAt_of_not_blocked->UV,offersAt_ph->Zl,served->T1,touch_mute->ZX,touch_of->UU,woken_run->Yl
open Go.Conc.QuitsD renaming status->ZF
open Go.ConcN renaming le_sumTo->WC,sumTo_congr->Vl
open Go.Event renaming mute->WH
open Go.GoStatus renaming blocked->aty
open Go.Goroutine renaming again->YV
open Go.IntKind renaming i64->SF
open Go.MemAct renaming low_mono->Zi,ofEvent->Ts,touch?->We
open Go.MemAct.mark renaming injEq->ak'
open Go.MemOp renaming ofEvents->Te
open Go.Obj renaming deferred->atI
open Go.Op renaming equal->Xj
open Go.Proofs.Tryz renaming f107->aj',f109->aj_,f89->an',f97->att,prog->SC
open Go.Trace renaming g?->WA
open Go.Value renaming int->SG
open Go.World renaming cell?->Uy,setCell->Xl
open Int renaming toNat->X_
open List renaming append_assoc->SD,append_nil->SZ,cons_append->VE,drop->UD,drop_append->Vv,drop_append_of_le_length->Wq,drop_drop->ae_,drop_eq_getElem_cons->TW,drop_eq_nil_of_le->TO,drop_length->ZH,drop_zero->XA,ext_getElem?->Yo,flatMap_append->Vs,flatMap_cons->Uo,foldl->ad',foldl_append->XP,foldl_cons->UY,getD_eq_getElem?_getD->SE,getElem?_append_left->SW,getElem?_append_right->Tg,getElem?_drop->Ul,getElem?_eq_getElem->SP,getElem?_eq_some_iff->SN,getElem?_map->Tj,getElem?_set->UT,getElem?_set_ne->T5,getElem?_set_self->W_,getElem?_take->Ua,getElem_mem->VF,getLastD_eq_getLast?->Vh,length_append->SQ,length_drop->Uk,length_map->To,length_set->TQ,map->U2,mapM_cons->Ue,mapM_nil->UF,map_append->TF,map_congr_left->VA,map_cons->UW,map_drop->ai',map_flatMap->Vu,map_map->X2,map_singleton->Y9,map_take->VU,mem_append->SV,mem_append_left->Th,mem_append_right->S5,mem_cons->SL,mem_flatMap->S6,mem_flatten->XO,mem_iff_getElem?->UP,mem_map->Tn,mem_of_getElem?->Tf,mem_of_mem_take->Wu,mem_or_eq_of_mem_set->UJ,mem_replicate->Xy,mem_singleton->Tb,mem_toArray->TJ,nil_append->Uw,nodup_append->U8,not_mem_nil->S4,range->S0,range'->T4,range'_append_1->Y7,range'_succ->VR,range_eq_range'->Vo,range_succ->Vk,replicate->TL,replicate_succ->Wv,set_append_left->Wz,set_append_right->UO,set_cons_succ->UC,set_cons_zero->TY,set_set->W9,take->Un,take_add_one->VJ,take_append_drop->Vg,take_append_of_le_length->Tw,take_length->TP,take_of_length_le->SY,take_set->Z7,take_succ->Wy,take_succ_cons->VQ,take_take->U1,take_zero->an_
open List.Perm renaming refl->ae'
open Nat renaming add_sub_cancel->VH,add_sub_cancel_left->UR,add_zero->UK,eq_zero_or_pos->UZ,le_of_eq->WI,le_refl->SU,le_trans->UB,lt_of_lt_of_le->Td,lt_trans->Wo,mul_one->ZP,pow_le_pow_right->ZO,reduceAdd->SX,strongRecOn->Yn,sub_self->U6,sub_zero->Z0,zero_add->Wt
open Option renaming bind_eq_bind->TS,getD_some->S8,map_eq_some_iff->Tp,pure_def->Uf,toList_some->YO
open Option.some renaming inj->VX,injEq->Tm
open Prod.mk renaming injEq->U0
namespace Go.Gg
open Go.Conc Go.Proofs Go.Gg.Tk
namespace Tk
def jq.l (b:jq):List AV:=[iv b.min,iv b.max]
def jq.av (b:jq):AV:=.agg b.l
def aH.l (y:aH):List AV:=[iv y.number.min,iv y.number.max,iv y.hour.min,iv y.hour.max]
def aH.av (y:aH):AV:=.agg y.l
def Seen.l (s:Seen):List AV:=[iv s.hour,iv s.next.min,iv s.next.max]
def Seen.av (s:Seen):AV:=.agg s.l
def bk (xs:List Int):AV:=.sl xs.length (xs.map iv) .shut
def yG (ls:List (List Int)):AV:=.sl ls.length (ls.map bk) .shut
def bi (xs:List aH):AV:=.sl xs.length (xs.flatMap aH.l) .shut
def ek (xs:List Seen):AV:=.sl xs.length (xs.flatMap Seen.l) .shut
def aj.l (x:aj):List AV:=[iv x.first,iv x.hours,iv x.an,ek x.seen,bi x.pieces,bi x.aB]
def aj.av (x:aj):AV:=.agg x.l
theorem aH.len(b:aH):b.l.length=4:=rfl
theorem Seen.len(b:Seen):b.l.length=3:=rfl
end Tk
section
variable {i:Nat}
theorem fN{xs:List Int}{x:Int}(h:xs[i]?=some x):AV.shift i (.rp (xs.map iv))=some (.rp (iv x::(xs.drop (i+1)).map iv)):=by have:=aci (f:=iv) h;rwa [ZP]at this
theorem acf{xs:List (List Int)}{x:List Int}(h:xs[i]?=some x):AV.shift i (.rp (xs.map bk))=some (.rp (bk x::(xs.drop (i+1)).map bk)):=by have:=aci (f:=bk) h;rwa [ZP]at this
theorem G5{xs:List aH}{x:aH}(h:xs[i]?=some x):AV.shift (i* 4) (.rp (xs.flatMap aH.l))=some (.rp (iv x.number.min::iv x.number.max::iv x.hour.min::iv x.hour.max::(xs.drop (i+1)).flatMap aH.l)):=ach aH.len h
theorem acg{xs:List Seen}{x:Seen}(h:xs[i]?=some x):AV.shift (i* 3) (.rp (xs.flatMap Seen.l))=some (.rp (iv x.hour::iv x.next.min::iv x.next.max::(xs.drop (i+1)).flatMap Seen.l)):=ach Seen.len h
end
theorem zV(n:Nat)(xs:List Int):Lt n (bk xs)=True:=by simp[bk,tw,eG]
theorem aaF(n:Nat)(xs:List (List Int)):Lt n (yG xs)=True:=by
 simp only[yG,tw,Tn,eq_iff_iff,iff_true]
 rintro a ⟨b,_,rfl⟩
 rw[zV];trivial
theorem Gh(n:Nat)(xs:List aH):Lt n (bi xs)=True:=by
 simp only[bi,tw,S6,eq_iff_iff,iff_true]
 rintro a ⟨b,_,h⟩
 simp only[aH.l,SL,S4,or_false]at h;rcases h with rfl|rfl|rfl|rfl<;>exact .val _
theorem aaG(n:Nat)(xs:List Seen):Lt n (ek xs)=True:=by
 simp only[ek,tw,S6,eq_iff_iff,iff_true]
 rintro a ⟨b,_,h⟩
 simp only[Seen.l,SL,S4,or_false]at h;rcases h with rfl|rfl|rfl<;>exact .val _
theorem aaE(n:Nat)(x:aj):∀a∈x.l,Lt n a:=by
 intro a ha;simp only[aj.l,SL,S4,or_false]at ha;rcases ha with rfl|rfl|rfl|rfl|rfl|rfl
 ·exact .val _
 ·exact .val _
 ·exact .val _
 ·rw[aaG];trivial
 ·rw[Gh];trivial
 ·rw[Gh];trivial
theorem Gi(n:Nat)(x:aj):Lt n x.av=True:=by simp only[aj.av,tu,eq_iff_iff,iff_true];exact aaE n x
open Go.Conc Go.Proofs Go.Gg.Tk
namespace Tk
structure mD (h:List Int):Prop where
 len:h.length=4
 lo:∀a∈h,0<=a
 hi:∀a∈h,a<=1000
 span:h.getD 3 0<=h.getD 0 0+9
theorem mD.out{h:List Int}(k:mD h):∃a b c d,h=[a,b,c,d]/\(0<=a/\a<=1000)/\(0<=b/\b<=1000)/\(0<=c/\c<=1000)/\(0<=d/\d<=1000)/\d<=a+9:=by
 match h,k with
 |[a,b,c,d],k=>exact⟨a,b,c,d,rfl,⟨k.lo a (by simp),k.hi a (by simp)⟩,⟨k.lo b (by simp),k.hi b (by simp)⟩,⟨k.lo c (by simp),k.hi c (by simp)⟩,⟨k.lo d (by simp),k.hi d (by simp)⟩,by simpa using k.span⟩
theorem aiw{h:List Int}{y:aH}{n:Nat}(hn:(h.getD 3 0-h.getD 0 0).toNat<=n):lH h y n=false:=by
 unfold lH;rw[show decide (h.getD 0 0+(n:Int)<h.getD 3 0)=false from decide_eq_false (by omega)];rfl
theorem aix{h:List Int}{y:aH}(hs:h.getD 3 0<=h.getD 0 0+9):b_ h y=jw (lH h y) (h.getD 3 0-h.getD 0 0).toNat:=by
 apply Nat.eq_of_testBit_eq;intro i;unfold b_;rw[A_,A_];by_cases hi:i<(h.getD 3 0-h.getD 0 0).toNat
 ·have h9:i<9:=by omega
  rw[decide_eq_true hi,decide_eq_true h9]
 ·rw[aiw (by omega)];simp
theorem PL(h:List Int)(y:aH):b_ h y<512:=D_ (n:=9)
end Tk
theorem vG{α:Type}{xs:List α}{i:Nat}{x:α}(h:xs[i]?=some x):xs.drop i=x::xs.drop (i+1):=by
 obtain⟨h1,h2⟩:=SN.1 h;rw[TW h1,h2]
section
variable {lv:Bool}{H:List aa}{k kp:AV->List aa->Prop}
theorem I2{b:jq}{n:Int}(hk:k (bv (kL b n)) H):bc lv SC 88 H [b.av,iv n] k kp:=by
 refine bH (rs:=[.tmp 4]) (nt:=15) Tryz.f88 λhH hA=> ?_;simp only[br,SX,jq.av,jq.l];refine ai ?_;refine ai ?_;refine xi (λh=> ?_) (λh=> ?_)
 ·(try simp only[seval]);refine aZ ?_;exact k_ hH (by simpa[kL,h]using hk)
 ·(try simp only[seval]);refine aZ ?_;exact k_ hH (by simpa[kL,h]using hk)
theorem PG{h:List Int}{n:Int}(h4:h.length=4)(hk:k (iv (gK h n)) H):bc lv SC 90 H [.agg (h.map iv),iv n] k kp:=by
 refine bH (rs:=[.tmp 4]) (nt:=24) Tryz.f90 λhH hA=> ?_;simp only[br,SX];have qe:(h.map iv).length=4:=by simp[h4]
 refine ai ?_;refine ai ?_;refine cJ ?_;refine tX 3 (λi:Nat=>[(6,iv i)]) (λ_=>_) (λi=>gK h n=dK i (h.drop i) n) rfl (λcp dz i cW hi R hR=> ?_);refine ai ?_;refine aD ?_;refine⟨λhc=> ?_,λhc=> ?_⟩
 ·
  have p_:i<3:=by omega
  obtain⟨a,ha⟩:=cz (xs:=h) (i:=i) (by omega);obtain⟨b,hb⟩:=cz (xs:=h) (i:=i+1) (by omega);have e4:(0<=(i:Int)/\(i:Int)<4)=True:=by simp;omega
  have Pl:(0<=(i:Int)+1/\(i:Int)+1<4)=True:=by simp;omega
  have hw:SF.wrap ((i:Int)+1)=(i:Int)+1:=bI _ (by omega);have pj:((i:Int)+1).toNat=i+1:=by omega
  have lw:dK i (h.drop i) n=if a<=n/\n<b then(i:Int)else dK (i+1) (h.drop (i+1)) n:=by
   rw[vG ha,vG hb];simp only[dK]
  refine aN ?_;refine ai ?_;refine ak ?_;simp only[seval,e4,Pl,hw,pj,kW ha,kW hb];refine xi (λh2=> ?_) (λh2=> ?_)
  ·(try simp only[seval,e4,Pl,hw,pj,kW ha,kW hb]);refine aD ?_;refine⟨λh3=> ?_,λh3=> ?_⟩
   ·refine ai ?_;refine aZ ?_;rw[hi,lw,if_pos ⟨of_decide_eq_true h2,h3⟩]at hk;exact k_ hH hk
   ·refine aN ?_;refine ak ?_;simp only[seval,hw];refine hR _ ⟨by omega,?_,dE⟩;rw[hi,lw,if_neg (λq=>h3 q.2)]
  ·(try simp only[seval]);refine aD ?_;refine aN ?_;refine ak ?_;simp only[seval,hw];refine hR _ ⟨by omega,?_,dE⟩;rw[hi,lw,if_neg (λq=>by simp at h2;omega)]
 ·
  have:i=3:=by omega
  subst this;refine bU ?_;refine ai ?_;refine aZ ?_;have hm:dK 3 (h.drop 3) n= -1:=by
   match h,h4 with
   |[a,b,c,d],_=>rfl
  rw[hi,hm]at hk;exact k_ hH hk
theorem ug{m n:Nat}(hm:m<65536)(hk:k (bv (m.testBit n)) H):bc lv SC 67 H [wv m,iv n] k kp:=by
 refine bH (rs:=[.tmp 4]) (nt:=10) Tryz.f67 λhH hA=> ?_;simp only[br,SX];refine ai ?_;refine ak ?_;simp only[seval,A4,ad9];refine aZ ?_;refine cm ?_;rw[ajl hm];exact hk
theorem uh{m n:Nat}(hm:m<65536)(hn:n<16)(hk:k (wv (m|||2^n)) H):bc lv SC 68 H [wv m,iv n] k kp:=by
 refine bH (rs:=[.tmp 4]) (nt:=9) Tryz.f68 λhH hA=> ?_;simp only[br,SX];refine ai ?_;refine ak ?_;simp only[seval,aek,A3];refine aZ ?_;refine cm ?_;rw[arE hm hn];exact hk
theorem Ep{h:List Int}{y:aH}(hh:mD h)(hk:k (wv (b_ h y)) H):bc lv SC 65 H [.agg (h.map iv),y.av] k kp:=by
 refine bH (rs:=[.tmp 4]) (nt:=34) Tryz.f65 λhH hA=> ?_;simp only[br,SX,aH.av,aH.l];obtain⟨a,b,c,d,rfl,ha,hb,hc,hd,hs⟩:=hh.out;have oY:b_ [a,b,c,d] y=jw (lH [a,b,c,d] y) (d-a).toNat:=aix hs;have hz:wv (jw (lH [a,b,c,d] y) 0)=wv 0:=rfl;refine ai ?_;refine ai ?_;refine ai ?_;refine cJ ?_;refine gP (d-a).toNat (λi:Nat=>[(6,iv (a+i)),(5,wv (jw (lH [a,b,c,d] y) i))]) (λ_=>_) (λi=>True) (λ_ _=>rfl) (by rw[hz];simp only[seval];simp[bA,Wk.refl];exact Wk.refl _) rfl (λ_ _ _=>rfl) trivial (λcp dz i cW hi R hR=> ?_);refine ai ?_;refine aD ?_;have bX:jw (lH [a,b,c,d] y) i<65536:=Td D_ (UB (ZO (by omega) (show i<=16 by omega)) (by decide));refine⟨λhc=> ?_,λhc=> ?_⟩
 ·
  have hlt:i<(d-a).toNat:=by omega
  have hw:SF.wrap (a+(i:Int)+1)=a+((i+1:Nat):Int):=by rw[bI _ (by omega)];push_cast;omega
  have gY:SF.wrap (a+(i:Int)-a)=(i:Int):=by rw[bI _ (by omega)];omega
  have ER:lH [a,b,c,d] y i=(kL y.number (a+i)&&kL y.hour (gK [a,b,c,d] (a+i))):=by
   unfold lH;rw[show decide ([a,b,c,d].getD 0 0+(i:Int)<[a,b,c,d].getD 3 0)=true from decide_eq_true (show a+(i:Int)<d by omega),U5];rfl
  refine aN ?_;refine cJ ?_;refine eO 12 ?_;simp only[seval];refine iG (bv (kL y.number (a+i))) (cO (I2 (b:=y.number) ⟨rfl,rfl⟩)) ?_;(try simp only[seval]);refine xi (λh2=> ?_) (λh2=> ?_)
  ·(try simp only[seval]);refine iG (iv (gK [a,b,c,d] (a+i))) (cO (PG (h:=[a,b,c,d]) rfl ⟨rfl,rfl⟩)) ?_;(try simp only[seval]);refine iG (bv (kL y.hour (gK [a,b,c,d] (a+i)))) (cO (I2 (b:=y.hour) ⟨rfl,rfl⟩)) ?_;(try simp only[seval]);refine aD ?_;rw[h2,U5]at ER;refine⟨λh3=> ?_,λh3=> ?_⟩
   ·refine ak ?_;simp only[seval,gY];refine aK ((uh bX (show i<16 by omega) ?_));(try simp only[seval]);refine ak ?_;simp only[seval,hw];refine hR _ ⟨by omega,trivial,?_⟩;rw[show jw (lH [a,b,c,d] y) (i+1)=jw (lH [a,b,c,d] y) i|||2^i from by rw[jw,ER,h3];rfl];exact dE
   ·refine aN ?_;refine ak ?_;simp only[seval,hw];refine hR _ ⟨by omega,trivial,?_⟩;rw[show jw (lH [a,b,c,d] y) (i+1)=jw (lH [a,b,c,d] y) i from by rw[jw,ER,h3];rfl];exact dE
  ·(try simp only[seval]);refine aD ?_;refine aN ?_;refine ak ?_;simp only[seval,hw];refine hR _ ⟨by omega,trivial,?_⟩;rw[show jw (lH [a,b,c,d] y) (i+1)=jw (lH [a,b,c,d] y) i from by rw[jw,ER,show kL y.number (a+i)=false by simpa using h2];rfl];exact dE
 ·have:i=(d-a).toNat:=by omega
  subst this;refine bU ?_;refine ai ?_;refine aZ ?_;rw[oY]at hk;exact k_ hH hk
end
open Go.Conc Go.Proofs Go.Gg.Tk
namespace Tk
structure va (b:jq)(hi:Int):Prop where
 min:0<=b.min
 le:b.min<=b.max
 max:b.max<=hi
structure HN (x:aj)(y:aH):Prop where
 number:va y.number 99
 hour:va y.hour (x.hours-1)
structure aj.Ok (x:aj):Prop where
 first:0<=x.first/\x.first<=90
 hours:1<=x.hours/\x.hours<=3
 an:1<=x.an/\x.an<=3
 Ai:x.seen.length<=3
 cT:x.pieces.length<=4
 fi:x.aB.length<=3
 seen:∀s∈x.seen,(0<=s.hour/\s.hour<=x.hours)/\va s.next 99
 piece:∀y∈x.pieces,HN x y
 stub:∀y∈x.aB,HN x y
def tF (hour:Nat)(n:Int)(s:Seen):Bool:= !decide (s.hour=hour)||kL s.next n
theorem abT(x:aj)(hour:Nat)(n:Int):rV x hour n=x.seen.all (tF hour n):=rfl
end Tk
theorem fF{H L:List aa}{i:Nat}{x:aa}(h:H[i]?=some x):(H++L)[i]?=some x:=by rw[SW (SN.1 h).1];exact h
theorem aW(Hs L:List aa)(i:Nat):(Hs++L)[Hs.length+i]?=L[i]?:=by rw[Tg (by omega)];congr 1;omega
theorem ez(Hs L:List aa)(i:Nat)(y:aa):(Hs++L).set (Hs.length+i) y=Hs++L.set i y:=by rw[UO _ _ (by omega)];congr 2;omega
section
variable {lv:Bool}{H:List aa}{k kp:AV->List aa->Prop}
theorem PF{x:aj}{h:List Int}{hour ir ih:Nat}{n:Int}(hx:x.Ok)(h4:h.length=4)(hn:h[hour]?=some n)(hr:H[ir]?=some (.cells x.l 76))(hi:H[ih]?=some (.cells (h.map iv) 83))(hk:k (bv (rV x hour n)) H):bc lv SC 87 H [iv hour,.op ir 0,.op ih 0] k kp:=by
 refine bH (rs:=[.tmp 4]) (nt:=29) Tryz.f87 λhH hA=> ?_;simp only[br,SX];have o6:hour<4:=by have:=eX hn;omega
 have b4:(0<=(hour:Int)/\(hour:Int)<4)=True:=by simp;omega
 have hlen:=hx.Ai;have xO:∀L:List aa,(H++L)[ir]?=some (.cells x.l 76):=λL=>fF hr;have cG:∀L:List aa,(H++L)[ih]?=some (.cells (h.map iv) 83):=λL=>fF hi;have bO:x.l=[iv x.first,iv x.hours,iv x.an,ek x.seen,bi x.pieces,bi x.aB]:=rfl;refine ai ?_;refine ak ?_;simp only[seval,hr,bO,ek];refine cJ ?_;refine tX x.seen.length (λi:Nat=>[(11,iv i)]) (λ_=>H) (λi=>x.seen.all (tF hour n)=(x.seen.drop i).all (tF hour n)) rfl (λcp dz i cW hI R hR=> ?_);refine ai ?_;refine aD ?_;refine⟨λhc=> ?_,λhc=> ?_⟩
 ·
  have bG:i<x.seen.length:=by omega
  obtain⟨s,hs⟩:=cz bG;have lw:x.seen.all (tF hour n)=(tF hour n s&&(x.seen.drop (i+1)).all (tF hour n)):=by rw[hI,vG hs];rfl
  have hw:SF.wrap ((i:Int)+1)=((i+1:Nat):Int):=by rw[bI _ (by omega)];rfl
  refine aN ?_;refine ak ?_;simp only[seval,acg hs,jR bG];refine eO 13 ?_;simp only[seval,cG,b4,kW hn];refine xi (λh2=> ?_) (λh2=> ?_)
  ·(try simp only[seval,cG,b4,kW hn]);refine iG (bv (kL s.next n)) (cO (I2 (b:=s.next) ⟨rfl,rfl⟩)) ?_;(try simp only[seval]);refine aD ?_;have hp:tF hour n s=kL s.next n:=(by unfold tF;rw[decide_eq_true (show s.hour=(hour:Int) by simpa using h2)];rfl);rw[hp]at lw;refine⟨λh3=> ?_,λh3=> ?_⟩
   ·refine ai ?_;refine aZ ?_;rw[abT,lw,h3]at hk;exact k_ hH hk
   ·refine aN ?_;refine ak ?_;simp only[seval,hw];refine hR _ ⟨bG,?_,(abK cp)⟩;rw[lw,h3];rfl
  ·(try simp only[seval]);refine aD ?_;refine aN ?_;have hp:tF hour n s=true:=(by unfold tF;rw[decide_eq_false (show ¬s.hour=(hour:Int) by simpa using h2)];rfl);rw[hp]at lw;refine ak ?_;simp only[seval,hw];refine hR _ ⟨bG,?_,(abK cp)⟩;rw[lw];rfl
 ·
  have:i=x.seen.length:=by omega
  subst this;refine bU ?_;refine ai ?_;refine aZ ?_;rw[abT,hI,ZH]at hk;exact cm hk
end
open Go.Conc Go.Proofs Go.Gg.Tk
theorem Jd{α:Type}(g:Nat->List α)(i:Nat):(S0 (i+1)).flatMap g=(S0 i).flatMap g++g i:=by
 rw[Vk,Vs];simp
theorem Jc{α:Type}(g:Nat->List α){i n:Nat}(h:i<n):(S0 n).flatMap g=(S0 i).flatMap g++(g i++(T4 (i+1) (n-(i+1))).flatMap g):=by
 have:S0 n=S0 i++(i::T4 (i+1) (n-(i+1))):=by
  rw[Vo,Vo,<- VR];have:=Y7 (s:=0) (m:=i) (n:=n-(i+1)+1);rw[Wt]at this;rw[this];congr 1;omega
 rw[this,Vs,Uo]
theorem Na{α:Type}{l:List α}{i:Nat}{v:α}(h:i<l.length):(l.set i v).take (i+1)=l.take i++[v]:=by
 rw[Wy,Z7,UT,if_pos rfl,if_pos h,List.set_eq_of_length_le (by simp;omega)];rfl
namespace Tk
def jb (h:List Int)(hour j:Nat)(n:Int):List Int:=h.take hour++TL j n++h.drop (hour+j)
theorem Es{h:List Int}{hour j:Nat}{n:Int}(hj:hour+j<=h.length):(jb h hour j n).length=h.length:=by simp[jb];omega
theorem aio(h:List Int)(hour:Nat)(n:Int):jb h hour 0 n=h:=by simp[jb]
theorem I4{h:List Int}{hour j:Nat}{n:Int}(hj:hour+j<h.length):(jb h hour j n).set (hour+j) n=jb h hour (j+1) n:=by
 unfold jb;have hl:(h.take hour++TL j n).length=hour+j:=by simp;omega
 rw[UO _ _ (by omega),hl,U6,List.replicate_succ'];rw[TW hj,TY,SD,SD,SD];rfl
theorem ain{h:List Int}{hour j:Nat}{n:Int}(hn:h[hour]?=some n)(hj:hour+j<=h.length):(jb h hour j n)[hour]?=some n:=by
 have hl:=eX hn;unfold jb;rw[SD,Tg (by simp;omega)];have:hour-(h.take hour).length=0:=by simp;omega
 rw[this];cases j with
 |zero=>simpa using hn
 |succ j=>simp[Wv]
theorem aim{h pre:List Int}{hour:Nat}{n:Int}(h4:h.length=4)(hn:h[hour]?=some n)(hp:pre=h.take (hour+1)):jb h hour (4-hour) n=cL pre:=by
 have hl:=eX hn;have e:pre=h.take hour++[n]:=by rw[hp,Wy,hn];rfl
 unfold jb cL;rw[TO (by omega),SZ,e];have h1:(h.take hour++[n]).length=hour+1:=by simp;omega
 rw[h1,show (h.take hour++[n]).getLastD 0=n by simp[Vh],SD];congr 1;rw[show 4-hour=(4-(hour+1))+1 by omega,Wv];rfl
theorem abv{h pre:List Int}{hour:Nat}{n:Int}(hn:h[hour]?=some n)(hp:pre=h.take (hour+1)):pre.length=hour+1/\pre.getLastD 0=n:=by
 have hl:=eX hn;have e:pre=h.take hour++[n]:=by rw[hp,Wy,hn];rfl
 subst e;exact⟨by simp;omega,by simp[Vh]⟩
end Tk
open Go.Conc Go.Proofs Go.Gg.Tk
section
variable {lv:Bool}
def qa (yv:AV)(N ir it:Nat)(h:List Int):List aa:=[.cells [yv] 130,.cells (h.map iv) 83,.cells [.fn (.func 87) [] [.op ir 0,.op (N+1) 0]] 68,.cells [.fn (.func 89) [] [.op (N+2) 0,.op ir 0,.op (N+1) 0,.op N 0,.op it 0,.op (N+3) 0]] 68]
theorem ah9{x:aj}{bh N ir it:Nat}{yv pv:AV}{S:Type}{f:S->List Int->dF S}{Gf:S->List aa}{I:S->Prop}{A:List Int->Prop}(hx:x.Ok)(hY:jP lv SC yv f Gf N I A pv)(hr:∀σ L,(Gf σ++L)[ir]?=some (.cells x.l 76))(ht:∀σ L,(Gf σ++L)[it]?=some (.cells [iv bh] 3))(lS:bh<=3):
  ∀(d hour:Nat)(h pre:List Int)(n0:Int)(σ:S)(M:List aa)(k kp:AV->List aa->Prop),d+hour=x.hours.toNat->h.length=4->h[hour]?=some n0->(0<=n0/\n0<=90+3* hour)->pre=h.take (hour+1)->I σ->(∀a∈mQ x bh d pre,A a)->
   (∀h',h'.length=4->h'.take (hour+1)=pre->c_ Gf pv k kp (qa yv N ir it h'++M) (bC f (mQ x bh d pre) σ))->
   bc lv SC 89 (Gf σ++(qa yv N ir it h++M)) [iv hour,.op (N+2) 0,.op ir 0,.op (N+1) 0,.op N 0,.op it 0,.op (N+3) 0] k kp:=by
 intro d;induction d with
 |zero=>
  intro hour h pre n0 σ M k kp o4 h4 oC hb hp hI hA hk;refine bH (rs:=[.tmp 8]) (nt:=61) an' λhH uj=> ?_;simp only[br,SX];obtain⟨dp,uw⟩:=abv oC hp;have o6:hour<4:=by have:=eX oC;omega
  have Kf:=hx.hours;have bO:x.l=[iv x.first,iv x.hours,iv x.an,ek x.seen,bi x.pieces,bi x.aB]:=rfl;have g0:∀(σ:S)(L:List aa),(Gf σ++L)[N]?=L[0]?:=λσ L=>hY.get σ L 0;have g1:∀(σ:S)(L:List aa),(Gf σ++L)[N+1]?=L[1]?:=λσ L=>hY.get σ L 1;have g2:∀(σ:S)(L:List aa),(Gf σ++L)[N+2]?=L[2]?:=λσ L=>hY.get σ L 2;have s1:∀(σ:S)(L:List aa) x,(Gf σ++L).set (N+1) x=Gf σ++L.set 1 x:=λσ L x=>hY.set σ L 1 x;rw[mQ,dp,uw,VH]at hA hk;refine ai ?_;refine ak ?_;simp only[seval,g2,qa];refine aK ((PF (x:=x) (h:=h) (n:=n0) hx h4 oC (hr _ _) (by rw[g1];rfl) ?_));(try simp only[seval]);refine aD ?_;refine⟨λhs=> ?_,λhs=> ?_⟩
  ·refine ai ?_;refine aZ ?_;have:=hk h h4 hp.symm;rw[hs]at this;simp only[TM,if_false,bC,c_]at this;exact cm this
  ·rw[if_pos hs]at hA hk;rw[MQ]at hk;have Q3:(hour:Int)=x.hours:=(by omega);refine aN ?_;refine ak ?_;simp only[seval,hr,bO];refine aD ?_;refine⟨λhc=> ?_,λhc=>by exfalso;simp at hc;omega⟩;refine ai ?_;refine cJ ?_;refine gP (4-hour) (λj:Nat=>[(9,iv ((hour+j:Nat):Int))]) (λj=>Gf σ++(qa yv N ir it (jb h hour j n0)++M)) (λj=>True) (λ_ _=>rfl) (by simp only[seval];simp[bA,Wk.refl]) (by rw[aio];rfl) (λm _ _=>by simp[qa]) trivial (λcp dz j o_ hj R hR=> ?_);refine ai ?_;refine aD ?_;refine⟨λhc=> ?_,λhc=> ?_⟩
   ·have eR:j<4-hour:=(by omega);have bb:(0<=(hour:Int)/\(hour:Int)<4)=True:=(by simp;omega);have bj:(0<=(hour:Int)+(j:Int)/\(hour:Int)+(j:Int)<4)=True:=(by simp;omega);have Cd:((hour:Int)+(j:Int)).toNat=hour+j:=(by omega);have me:(jb h hour j n0).length=4:=(by rw[Es (by omega),h4]);have mf:(U2 iv (jb h hour j n0)).length=4:=(by rw[To,me]);have hw:SF.wrap ((hour:Int)+(j:Int)+1)=(hour:Int)+((j+1:Nat):Int):=(by rw[bI _ (by omega)];push_cast;omega);refine aN ?_;refine ak ?_;simp only[seval,g1,s1,qa,bb,bj,Cd,mf,kW (ain oC (show hour+j<=h.length by omega))];refine⟨by omega,?_⟩;rw[wC (by omega),I4 (by omega)];refine ak ?_;simp only[seval,hw];exact hR _ ⟨eR,trivial,dE⟩
   ·have:j=4-hour:=(by omega);subst this;have FA:=aim h4 oC hp;rw[FA];have Fz:(cL pre).length=4:=(by rw[<- FA,Es (by omega),h4]);have s8:((cL pre).map iv).length=4:=(by rw[To,Fz]);have nK:(cL pre).take (hour+1)=pre:=(by unfold cL;rw[Tw (by omega),SY (by omega)]);refine bU ?_;refine ak ?_;simp only[seval,g0,g1,qa,s8];rw[SY (i:=4) (l:=(cL pre).map iv) (by rw[s8];exact SU _)];refine w7 (hY.call σ (cL pre) (qa yv N ir it (cL pre)++M) _ _ hI (hA _ (by simp)) ?_);have aE:=hk (cL pre) Fz nK;cases hf:f σ (cL pre)with
    |go σ'=>
     rw[hf]at aE;simp only[c_]at aE⊢;(try simp only[seval]);refine aZ ?_;exact cm aE
    |stop σ'=>
     rw[hf]at aE;simp only[c_]at aE⊢;(try simp only[seval]);refine aZ ?_;exact cm aE
    |bad σ'=>
     rw[hf]at aE;simp only[c_]at aE⊢;exact cm aE
 |succ d ih=>
  intro hour h pre n0 σ M k kp o4 h4 oC hb hp hI hA hk;refine bH (rs:=[.tmp 8]) (nt:=61) an' λhH uj=> ?_;simp only[br,SX];obtain⟨dp,uw⟩:=abv oC hp;have Kf:=hx.hours;have hpr:=hx.an;have Q2:hour<3:=by omega
  have bO:x.l=[iv x.first,iv x.hours,iv x.an,ek x.seen,bi x.pieces,bi x.aB]:=rfl;have g1:∀(σ:S)(L:List aa),(Gf σ++L)[N+1]?=L[1]?:=λσ L=>hY.get σ L 1;have g2:∀(σ:S)(L:List aa),(Gf σ++L)[N+2]?=L[2]?:=λσ L=>hY.get σ L 2;have g3:∀(σ:S)(L:List aa),(Gf σ++L)[N+3]?=L[3]?:=λσ L=>hY.get σ L 3;have s1:∀(σ:S)(L:List aa) x,(Gf σ++L).set (N+1) x=Gf σ++L.set 1 x:=λσ L x=>hY.set σ L 1 x;rw[mQ,dp,uw,VH]at hA hk;refine ai ?_;refine ak ?_;simp only[seval,g2,qa];refine aK ((PF (x:=x) (h:=h) (n:=n0) hx h4 oC (hr _ _) (by rw[g1];rfl) ?_));(try simp only[seval]);refine aD ?_;refine⟨λhs=> ?_,λhs=> ?_⟩
  ·refine ai ?_;refine aZ ?_;have:=hk h h4 hp.symm;rw[hs]at this;simp only[TM,if_false,bC,c_]at this;exact cm this
  ·rw[if_pos hs]at hA hk;have Q3:¬(hour:Int)=x.hours:=(by omega);refine aN ?_;refine ak ?_;simp only[seval,hr,bO];refine aD ?_;refine⟨λhc=>by exfalso;exact Q3 hc,λhc=> ?_⟩;refine aN ?_;refine ak ?_;simp only[seval,hr,bO,bI (x.an+1) (by omega)];generalize hg:(λn:Nat=>if hour+1=1/\n≠bh then[]else mQ x bh d (pre++[n0+(n:Int)]))=g at hA hk;refine cJ ?_;refine yL (measure λm:Nat×S×List Int=>(x.an.toNat+1)-m.1).wf (λm=>[(37,iv (m.1:Nat))]) (λm=>Gf m.2.1++(qa yv N ir it m.2.2++M)) (λm=>m.1<=x.an.toNat+1/\bC f ((S0 m.1).flatMap g) σ=.go m.2.1/\m.2.2.length=4/\m.2.2.take (hour+1)=pre) (0,σ,h) (λ_ _=>rfl) (by intro p hp;simp at hp;subst hp;exact⟨_,rfl,Wk.refl _⟩) rfl (λ_ _=>by simp[qa,hY.len]) ⟨by omega,rfl,h4,hp.symm⟩ (λcp dz m am R hR=> ?_);obtain⟨i,τ,hq⟩:=m;obtain⟨hi,bL,zC,zD⟩:=am;replace hi:i<=x.an.toNat+1:=hi;replace bL:bC f ((S0 i).flatMap g) σ=.go τ:=bL;replace zC:hq.length=4:=zC;replace zD:hq.take (hour+1)=pre:=zD;have FF:hq[hour]?=some n0:=by
    have h1:(hq.take (hour+1))[hour]?=some n0:=(by rw[zD,hp,Ua,if_pos (by omega)];exact oC);rwa [Ua,if_pos (by omega)]at h1
   refine ai ?_;refine aD ?_;refine⟨λhc=> ?_,λhc=> ?_⟩
   ·have bG:i<x.an.toNat+1:=(by omega);have bZ:SF.wrap ((i:Int)+1)=((i+1:Nat):Int):=(by rw[bI _ (by omega)];rfl);have rI:=Jc g bG;have td:=Jd g i;have BF:I τ:=Ah (A:=A) hY.inv _ σ τ (λa ha=>hA a (by rw[rI];exact Th _ ha)) hI bL;refine aN ?_;refine ai ?_;have hqm:(U2 iv hq).length=4:=(by rw[To,zC]);have bb:(0<=(hour:Int)/\(hour:Int)<4)=True:=(by simp;omega);have bb1:(0<=(hour:Int)+1/\(hour:Int)+1<4)=True:=(by simp;omega);have pj:((hour:Int)+1).toNat=hour+1:=(by omega);have Sk:SF.wrap ((hour:Int)+1)=(hour:Int)+1:=bI _ (by omega);have K8:SF.wrap (n0+(i:Int))=n0+(i:Int):=bI _ (by omega);refine ak ?_;simp only[seval,ht];refine xi (λh2=> ?ga) (λh2=> ?gb)
    case' ga=>
     (try simp only[seval,ht]);refine aD ?_;refine⟨λh3=> ?gc,λh3=> ?gd⟩
     case gc=>
      have aM:g i=[]:=(by rw[<- hg];exact if_pos ⟨by simp at h2;omega,by omega⟩);refine bU ?_;refine ak ?_;simp only[seval,bZ];exact hR _ ⟨(i+1,τ,hq),(by show x.an.toNat+1-(i+1)<x.an.toNat+1-i;omega),⟨by omega,by rw[td,aM,SZ];exact bL,zC,zD⟩,dE⟩
    case' gb=>
     (try simp only[seval]);refine aD ?_
    all_goals
     have aM:g i=mQ x bh d (pre++[n0+(i:Int)]):=by
      rw[<- hg];refine if_neg ?_
      rintro⟨q1,q2⟩
      first|(simp at h3;omega)|(simp at h2;omega)
     refine aN ?_;refine ak ?_;simp only[seval,g1,s1,qa,bb,bb1,pj,Sk,K8,hqm,kW FF];refine⟨by omega,?_⟩;rw[wC (show hour+1<hq.length by omega)];refine ak ?_;simp only[seval,g3,Sk];have akH:(hq.set (hour+1) (n0+(i:Int))).length=4:=(by rw[TQ,zC]);have hqt:pre++[n0+(i:Int)]=(hq.set (hour+1) (n0+(i:Int))).take (hour+1+1):=(by rw[Na (by omega),zD]);refine aK ((ih (hour+1) (hq.set (hour+1) (n0+(i:Int))) (pre++[n0+(i:Int)]) (n0+(i:Int)) τ M _ _ (by omega) akH (by rw[UT,if_pos rfl,if_pos (by omega)]) (by omega) hqt BF (λa ha=>hA a (by rw[rI,aM];exact S5 _ (Th _ ha))) (λh' rc akG=> ?_)));have KM:h'.take (hour+1)=pre:=by
      have e:h'.take (hour+1)=(h'.take (hour+1+1)).take (hour+1):=(by rw[U1];congr 1;omega);rw[e,akG,Tw (WI dp.symm),SY (WI dp)]
     have zM:bC f ((S0 (x.an.toNat+1)).flatMap g) σ=match bC f (g i) τ with
       |.go s'=>bC f ((T4 (i+1) (x.an.toNat+1-(i+1))).flatMap g) s'
       |r=>r:=by
      rw[rI,qA,bL];exact qA f (g i) _ τ
     rw[<- aM];cases hf:bC f (g i) τ with
     |go τ'=>
      simp only[c_];(try simp only[seval]);refine aD ?_;refine aN ?_;refine ak ?_;simp only[seval,bZ];exact hR _ ⟨(i+1,τ',h'),(by show x.an.toNat+1-(i+1)<x.an.toNat+1-i;omega),⟨by omega,by rw[td,qA,bL];exact hf,rc,KM⟩,dE⟩
     |stop τ'=>
      simp only[c_];(try simp only[seval]);refine aD ?_;refine ai ?_;refine aZ ?_;have aE:=hk h' rc KM;rw[zM,hf]at aE;exact cm aE
     |bad τ'=>
      simp only[c_];have aE:=hk h' rc KM;rw[zM,hf]at aE;exact cm aE
   ·have cS:i=x.an.toNat+1:=(by omega);subst cS;have aE:=hk hq zC zD;rw[bL]at aE;refine bU ?_;refine ai ?_;refine aZ ?_;exact cm aE
theorem uV{P:SK}{yv pv:AV}{S:Type}{f:S->List Int->dF S}{Gf:S->List aa}{N:Nat}{I:S->Prop}{A:List Int->Prop}{k:AV->List aa->Prop}(hY:jP lv P yv f Gf N I A pv){σ σ':S}{L:List aa}{a:AV}(hH:bQ (Gf σ))(ha:∀n,Lt n a)(hk:k a (Gf σ')):cw (Gf σ).length (Gf σ'++L) a k:=by
 refine jU (H':=Gf σ') (Wk.refl _) rfl (by rw[hY.len,hY.len];exact SU _) ?_ (ha _) hk;have:=hY.am (σ:=σ) (M:=[]) (by simpa using hH) σ';simpa using this
theorem IZ{H:List aa}{k kp:AV->List aa->Prop}{x:aj}{n:Int}(hk:k (.fn (.func 86) [] [.op H.length 0,.op (H.length+1) 0]) (H++[.cells x.l 76,.cells [iv n] 3])):bc lv SC 64 H [x.av,iv n] k kp:=by
 refine bH (rs:=[.tmp 4]) (nt:=6) Tryz.f64 λhH hA=> ?_;simp only[br,SX,aj.av];refine ai ?_;refine ak ?_;simp only[seval,Ue,UF,Uf,TS];refine aZ ?_;exact cm hk
theorem I1{x:aj}{bh N ir it:Nat}{yv pv:AV}{S:Type}{f:S->List Int->dF S}{Gf:S->List aa}{I:S->Prop}{A:List Int->Prop}{σ:S}{k kp:AV->List aa->Prop}(hx:x.Ok)(hY:jP lv SC yv f Gf N I A pv)(hr:∀σ L,(Gf σ++L)[ir]?=some (.cells x.l 76))(ht:∀σ L,(Gf σ++L)[it]?=some (.cells [iv bh] 3))(lS:bh<=3)
  (nL:∀n,Lt n pv) (hI:I σ) (hA:∀a∈kG x bh,A a) (hk:gg Gf pv k kp [] (bC f (kG x bh) σ)):bc lv SC 86 (Gf σ) [yv,.op ir 0,.op it 0] k kp:=by
 refine bH (rs:=[]) (nt:=15) Tryz.f86 λhH uj=> ?_;simp only[br,SX];have hN:=hY.len σ;have bO:x.l=[iv x.first,iv x.hours,iv x.an,ek x.seen,bi x.pieces,bi x.aB]:=rfl;refine ak ?_;simp only[seval,hY.parts];refine ai ?_;refine ak ?_;simp only[seval,Ue,UF,Uf,TS];refine ai ?_;refine ak ?_;simp only[seval,Ue,UF,Uf,TS];refine ak ?_;simp only[seval,hr,bO];refine ai ?_;have h0:=hx.first;have hh:=hx.hours;have KL:[x.first]=Un (0+1) [x.first,0,0,0]:=rfl;refine aK (?_);rw[hN];refine ah9 (x:=x) (bh:=bh) hx hY hr ht lS x.hours.toNat 0 [x.first,0,0,0] [x.first] x.first σ [] _ _ rfl rfl rfl (by omega) KL hI hA (λh' rc zA=> ?_);change c_ Gf pv _ _ _ (bC f (kG x bh) σ);have rQ:∀n,Lt n (.aJ []):=λn=>by simp[iE]
 cases hf:bC f (kG x bh) σ with
 |go s=>
  rw[hf]at hk;simp only[c_,gg]at hk⊢;rw[SZ]at hk;(try simp only[seval]);rw[<- hN];exact uV hY hH rQ hk
 |stop s=>
  rw[hf]at hk;simp only[c_,gg]at hk⊢;rw[SZ]at hk;(try simp only[seval]);rw[<- hN];exact uV hY hH rQ hk
 |bad s=>
  rw[hf]at hk;simp only[c_,gg]at hk⊢;rw[SZ]at hk;rw[<- hN];exact uV hY hH nL hk
end
theorem Pe{α:Type}{l:List α}{i j:Nat}{v:α}(h:i<j):(l.set i v).drop j=l.drop j:=by
 apply Yo;intro k;rw[Ul,Ul,T5 (by omega)]
theorem yV{α:Type}{g:α->AV}{xs:List α}{i:Nat}{x:α}(h:xs[i]?=some x):(xs.map g).drop i=g x::(xs.drop (i+1)).map g:=by
 rw[<- ai',vG h,UW]
namespace Tk
def acO (k:Nat):List Int:=TL (4-k) (-1)++[-1, -1, -1]
structure oP (h:List Int)(k p:Nat)(t:List Nat)(tc:List Int):Prop where
 len:tc.length=11
 pre:tc.take (4+p)=h++t.map λn:Nat=>(n:Int)
 tl:tc.drop (4+k)=acO k
theorem oP.all{h:List Int}{k:Nat}{t:List Nat}{tc:List Int}(ht:t.length=k)(n:oP h k k t tc):tc=dW h t:=by
 have:=Vg (4+k) tc;rw[n.pre,n.tl]at this;rw[<- this];unfold dW kQ acO;rw[ht];simp[SD]
theorem oP.back{h:List Int}{k p:Nat}{t:List Nat}{n:Nat}{tc:List Int}(h4:h.length=4)(ht:t.length=p)(q:oP h k (p+1) (t++[n]) tc):oP h k p t tc:=by
 refine⟨q.len,?_,q.tl⟩;have e:tc.take (4+p)=(tc.take (4+(p+1))).take (4+p):=by rw[U1];congr 1;omega
 rw[e,q.pre,TF,<- SD,Tw (by simp[h4,ht]),SY (by simp[h4,ht])]
theorem oP.next{h:List Int}{k p:Nat}{t:List Nat}{n:Nat}{tc:List Int}(hp:p<k)(hk:k<=4)(q:oP h k p t tc):oP h k (p+1) (t++[n]) (tc.set (4+p) (n:Int)):=by
 refine⟨by rw[TQ];exact q.len,?_,?_⟩
 ·rw[show 4+(p+1)=(4+p)+1 by omega,Na (by rw[q.len];omega),q.pre];simp
 ·rw[Pe (by omega)];exact q.tl
theorem anb{h:List Int}{q:Nat}{qs:List Nat}{u:Nat}{t:List Nat}:(kN (q::qs) u t).map (dW h)=(S0 9).flatMap λn=>if u.testBit n|| !q.testBit n then[]else(kN qs (u|||2^n) (t++[n])).map (dW h):=by
 rw[kN,Vu];congr 1;funext n;split<;>rfl
end Tk
section
variable {lv:Bool}
def tz (yv:AV)(N ir:Nat)(ps:List Nat)(tc:List Int):List aa:=[.cells [yv] 132,.cells (tc.map iv) 86,.cells (ps.map λn=>wv n) 80,.cells [.fn (.func 107) [] [.op ir 0,.op N 0,.op (N+1) 0,.op (N+2) 0,.op (N+3) 0]] 157]
theorem ahl{x:aj}{h ps N ir:_}{yv pv:AV}{S:Type}{f:S->List Int->dF S}{Gf:S->List aa}{I:S->Prop}{A:List Int->Prop}(hx:x.Ok)(h4:h.length=4)(hY:jP lv SC yv f Gf N I A pv)(hr:∀σ L,(Gf σ++L)[ir]?=some (.cells x.l 76))(rE:ps=x.pieces.map (b_ h)++TL (4-x.pieces.length) 0):
  ∀(d p u:Nat)(t:List Nat)(tc:List Int)(σ:S)(M:List aa)(k kp:AV->List aa->Prop),d+p=x.pieces.length->u<65536->t.length=p->oP h x.pieces.length p t tc->I σ->(∀a∈(kN ((x.pieces.map (b_ h)).drop p) u t).map (dW h),A a)->
   (∀eA,oP h x.pieces.length p t eA->c_ Gf pv k kp (tz yv N ir ps eA++M) (bC f ((kN ((x.pieces.map (b_ h)).drop p) u t).map (dW h)) σ))->
   bc lv SC 107 (Gf σ++(tz yv N ir ps tc++M)) [iv p,wv u,.op ir 0,.op N 0,.op (N+1) 0,.op (N+2) 0,.op (N+3) 0] k kp:=by
 intro d;induction d with
 |zero=>
  intro p u t tc σ M k kp JU hu ht hT hI hA hk;refine bH (rs:=[.tmp 9]) (nt:=47) aj' λhH uj=> ?_;simp only[br,SX];have bO:x.l=[iv x.first,iv x.hours,iv x.an,ek x.seen,bi x.pieces,bi x.aB]:=rfl;have g0:∀(σ:S)(L:List aa),(Gf σ++L)[N]?=L[0]?:=λσ L=>hY.get σ L 0;have g1:∀(σ:S)(L:List aa),(Gf σ++L)[N+1]?=L[1]?:=λσ L=>hY.get σ L 1;have dp:p=x.pieces.length:=by omega
  have vW:(x.pieces.map (b_ h)).drop p=[]:=TO (by simp;omega);rw[vW,kN]at hA hk;rw[Y9]at hA hk;rw[MQ]at hk;have xS:tc=dW h t:=by subst dp;exact hT.all ht
  have j9:(tc.map iv).length=11:=by rw[To,hT.len]
  refine ai ?_;(repeat apply gQ);refine Oh ?_;refine ak ?_;simp only[seval,hr,bO,bi];refine aD ?_;refine⟨λhc=> ?_,λhc=>by exfalso;simp at hc;omega⟩;refine ak ?_;simp only[seval,g0,g1,tz,j9];rw[SY (i:=11) (l:=tc.map iv) (by rw[j9];exact SU _)];rw[<- xS]at hA hk;have aE:=hk tc hT;refine w7 (hY.call σ tc (tz yv N ir ps tc++M) _ _ hI (hA _ (by simp)) ?_);cases hf:f σ tc with
  |go σ'=>
   rw[hf]at aE;simp only[c_]at aE⊢;(try simp only[seval]);refine aZ ?_;exact cm aE
  |stop σ'=>
   rw[hf]at aE;simp only[c_]at aE⊢;(try simp only[seval]);refine aZ ?_;exact cm aE
  |bad σ'=>
   rw[hf]at aE;simp only[c_]at aE⊢;exact cm aE
 |succ d ih=>
  intro p u t tc σ M k kp JU hu ht hT hI hA hk;refine bH (rs:=[.tmp 9]) (nt:=47) aj' λhH uj=> ?_;simp only[br,SX];have bO:x.l=[iv x.first,iv x.hours,iv x.an,ek x.seen,bi x.pieces,bi x.aB]:=rfl;have g1:∀(σ:S)(L:List aa),(Gf σ++L)[N+1]?=L[1]?:=λσ L=>hY.get σ L 1;have g2:∀(σ:S)(L:List aa),(Gf σ++L)[N+2]?=L[2]?:=λσ L=>hY.get σ L 2;have g3:∀(σ:S)(L:List aa),(Gf σ++L)[N+3]?=L[3]?:=λσ L=>hY.get σ L 3;have s1:∀(σ:S)(L:List aa) x,(Gf σ++L).set (N+1) x=Gf σ++L.set 1 x:=λσ L x=>hY.set σ L 1 x;have lq:=hx.cT;have Fz:p<4:=by omega
  obtain⟨y,hy⟩:=cz (xs:=x.pieces) (i:=p) (by omega);have uH:(x.pieces.map (b_ h))[p]?=some (b_ h y):=by rw[Tj,hy];rfl
  have iB:ps[p]?=some (b_ h y):=by rw[rE,SW (by simp;omega)];exact uH
  have mi:b_ h y<65536:=Wo (PL h y) (by decide);have aC:¬(p:Int)=(x.pieces.length:Int):=by omega
  rw[vG uH,anb]at hA hk;generalize hg:(λn=>if u.testBit n|| !(b_ h y).testBit n then[]else(kN ((x.pieces.map (b_ h)).drop (p+1)) (u|||2^n) (t++[n])).map (dW h))=g at hA hk;refine ai ?_;(repeat apply gQ);refine Oh ?_;refine ak ?_;simp only[seval,hr,bO,bi];refine aD ?_;refine⟨λhc=>by exfalso;exact aC (by simpa using hc),λhc=> ?_⟩;refine aN ?_;(repeat apply gQ);refine Od ?_;simp only[seval];refine ai ?_;refine cJ ?_;refine yL (measure λm:Nat×S×List Int=>9-m.1).wf (λm=>[(20,iv (m.1:Nat))]) (λm=>Gf m.2.1++(tz yv N ir ps m.2.2++M)) (λm=>m.1<=9/\bC f ((S0 m.1).flatMap g) σ=.go m.2.1/\oP h x.pieces.length p t m.2.2) (0,σ,tc) (λ_ _=>rfl) (by intro p hp;simp at hp;subst hp;exact⟨_,rfl,Wk.refl _⟩) rfl (λ_ _=>by simp[tz,hY.len]) ⟨by omega,rfl,hT⟩ (λcp dz m am R hR=> ?_);obtain⟨i,τ,tq⟩:=m;obtain⟨hi,bL,lJ⟩:=am;replace hi:i<=9:=hi;replace bL:bC f ((S0 i).flatMap g) σ=.go τ:=bL;replace lJ:oP h x.pieces.length p t tq:=lJ;refine ai ?_;refine aD ?_;refine⟨λhc=> ?_,λhc=> ?_⟩
  ·have bG:i<9:=(by omega);have bZ:SF.wrap ((i:Int)+1)=((i+1:Nat):Int):=(by rw[bI _ (by omega)];rfl);have rI:=Jc g bG;have td:=Jd g i;have BF:I τ:=Ah (A:=A) hY.inv _ σ τ (λa ha=>hA a (by rw[rI];exact Th _ ha)) hI bL;have b4:(0<=(p:Int)/\(p:Int)<4)=True:=(by simp;omega);have C_:(u.testBit i|| !(b_ h y).testBit i)=true->g i=[]:=λe=>(by rw[<- hg];exact if_pos e);have Jk:(u.testBit i|| !(b_ h y).testBit i)=false->g i=(kN ((x.pieces.map (b_ h)).drop (p+1)) (u|||2^i) (t++[i])).map (dW h):=λe=>(by rw[<- hg];exact if_neg (by rw[e];simp));refine aN ?_;refine ai ?_;refine ak ?_;simp only[seval,g2,tz,b4,yV iB];refine aK ((ug hu ?_));(try simp only[seval,g2,tz,b4,yV iB]);refine xi (λh2=> ?_) (λh2=> ?_)
   ·(try simp only[seval,g2,tz,b4,yV iB]);refine aK ((ug mi ?_));(try simp only[seval]);refine aD ?_;refine⟨λh3=> ?_,λh3=> ?_⟩
    ·have aM:=C_ (by rw[h2];simpa using h3);refine bU ?_;refine ak ?_;simp only[seval,bZ];exact hR _ ⟨(i+1,τ,tq),(by show 9-(i+1)<9-i;omega),⟨by omega,by rw[td,aM,SZ];exact bL,lJ⟩,dE⟩
    ·have aM:=Jk (by rw[h2];simpa using h3);have j9:(tq.map iv).length=11:=(by rw[To,lJ.len]);have If:4+p<tq.length:=(by rw[lJ.len];omega);have FV:SF.wrap ((p:Int)+1)=((p+1:Nat):Int):=(by rw[bI _ (by omega)];rfl);refine aN ?_;refine ak ?_;simp only[seval,g1,s1,tz,b4];refine⟨by omega,?_⟩;rw[wC If];refine eO 6 ?_;simp only[seval,g3,FV];refine iG (wv (u|||2^i)) (cO (uh hu (show i<16 by omega) ⟨rfl,rfl⟩)) ?_;rw[FV];have jZ:u|||2^i<65536:=pD hu (wH (by omega));refine aK ((ih (p+1) (u|||2^i) (t++[i]) (tq.set (4+p) (i:Int)) τ M _ _ (by omega) jZ (by simp[ht]) (lJ.next (by omega) lq) BF (λa ha=>hA a (by rw[rI,aM];exact S5 _ (Th _ ha))) (λeA sO=> ?_)));have BI:=sO.back h4 ht;have zM:bC f ((S0 9).flatMap g) σ=match bC f (g i) τ with
       |.go s'=>bC f ((T4 (i+1) (9-(i+1))).flatMap g) s'
       |r=>r:=by
      rw[rI,qA,bL];exact qA f (g i) _ τ
     rw[<- aM];have aE:=hk eA BI;rw[zM]at aE;cases hf:bC f (g i) τ with
     |go τ'=>
      simp only[c_];(try simp only[seval]);refine aD ?_;refine aN ?_;refine ak ?_;simp only[seval,bZ];exact hR _ ⟨(i+1,τ',eA),(by show 9-(i+1)<9-i;omega),⟨by omega,by rw[td,qA,bL];exact hf,BI⟩,dE⟩
     |stop τ'=>
      rw[hf]at aE;simp only[c_]at aE⊢;(try simp only[seval]);refine aD ?_;refine ai ?_;refine aZ ?_;exact cm aE
     |bad τ'=>
      rw[hf]at aE;simp only[c_]at aE⊢;exact cm aE
   ·(try simp only[seval]);refine aD ?_;have aM:=C_ (by rw[show u.testBit i=true by simpa using h2];rfl);refine bU ?_;refine ak ?_;simp only[seval,bZ];exact hR _ ⟨(i+1,τ,tq),(by show 9-(i+1)<9-i;omega),⟨by omega,by rw[td,aM,SZ];exact bL,lJ⟩,dE⟩
  ·have cS:i=9:=(by omega);subst cS;have aE:=hk tq lJ;rw[bL]at aE;refine bU ?_;refine ai ?_;refine aZ ?_;exact cm aE
end
open Go.Conc Go.Proofs Go.Gg.Tk
theorem MX{α:Type}{g:α->AV}{xs:List α}{i:Nat}{y:α}(h:i<xs.length):(xs.map g).take i++[g y]++(xs.map g).drop (i+1)=(xs.set i y).map g:=by
 rw[List.map_set,List.set_eq_take_append_cons_drop,if_pos (by simpa using h)];simp
namespace Tk
def pQ (l:List Nat)(i:Nat):List Nat:=l.take i++TL (4-i) 0
theorem afA{l:List Nat}{i q:Nat}(h:l[i]?=some q)(hl:l.length<=4):(pQ l i).set i q=pQ l (i+1):=by
 have hi:=eX h;unfold pQ;rw[UO _ _ (by simp;omega),show i-(l.take i).length=0 by simp;omega,show 4-i=(4-(i+1))+1 by omega,Wv,TY,Wy,h];simp
theorem afz{l:List Nat}{i:Nat}(hi:i<=l.length)(hl:l.length<=4):(pQ l i).length=4:=by simp[pQ];omega
theorem afy{l:List Nat}:pQ l l.length=l++TL (4-l.length) 0:=by simp[pQ]
end Tk
theorem RD{H L:List aa}{c c':aa}(h:bQ (H++(L++[c])))(hc:∀n,fj n c'):bQ (H++(L++[c'])):=λz hz=>by
 have hl:(H++(L++[c'])).length=(H++(L++[c])).length:=by simp
 rw[hl];rcases SV.1 hz with h'|h'
 ·exact h z (Th _ h')
 ·rcases SV.1 h' with h'|h'
  ·exact h z (S5 _ (Th _ h'))
  ·rw[Tb.1 h'];exact hc _
theorem abe(l:List Nat)(t n:Nat):fj n (.cells (l.map λn=>wv n) t):=by
 intro a ha;obtain⟨x,_,rfl⟩:=Tn.1 ha;exact .val _
theorem anq(l:List Int)(t n:Nat):fj n (.cells (l.map iv) t):=by
 intro a ha;obtain⟨x,_,rfl⟩:=Tn.1 ha;exact .val _
section
variable {lv:Bool}
theorem aia{H:List aa}{k kp:AV->List aa->Prop}{x:aj}{h:List Int}(hk:k (.fn (.func 106) [] [.op (H.length+1) 0,.op H.length 0]) (H++[.cells x.l 76,.cells (h.map iv) 83])):bc lv SC 92 H [x.av,.agg (h.map iv)] k kp:=by
 refine bH (rs:=[.tmp 4]) (nt:=6) Tryz.f92 λhH hA=> ?_;simp only[br,SX,aj.av];refine ai ?_;refine ak ?_;simp only[seval,Ue,UF,Uf,TS];refine aZ ?_;exact cm hk
theorem ahk{x:aj}{h:List Int}{N ir ih:Nat}{yv pv:AV}{S:Type}{f:S->List Int->dF S}{Gf:S->List aa}{I:S->Prop}{A:List Int->Prop}{σ:S}{k kp:AV->List aa->Prop}(hx:x.Ok)(hh:mD h)(hY:jP lv SC yv f Gf N I A pv)(hr:∀σ L,(Gf σ++L)[ir]?=some (.cells x.l 76))(hi:∀σ L,(Gf σ++L)[ih]?=some (.cells (h.map iv) 83))
  (nL:∀n,Lt n pv) (hI:I σ) (hA:∀a∈(f_ x h).map (dW h),A a) (hk:gg Gf pv k kp [] (bC f ((f_ x h).map (dW h)) σ)):bc lv SC 106 (Gf σ) [yv,.op ih 0,.op ir 0] k kp:=by
 refine bH (rs:=[]) (nt:=45) Tryz.f106 λhH uj=> ?_;simp only[br,SX];have hN:=hY.len σ;have lq:=hx.cT;have bO:x.l=[iv x.first,iv x.hours,iv x.an,ek x.seen,bi x.pieces,bi x.aB]:=rfl;obtain⟨a,b,c,d,rfl,ha,hb,hc,hd,hs⟩:=hh.out;have okH:∀L:List aa,(∀z∈L,∀n,fj n z)->bQ (Gf σ++L):=λL hL z hz=>by
  rcases SV.1 hz with h|h
  ·exact(hH z h).mono (by simp)
  ·exact hL z h _
 refine ak ?_;simp only[seval,hY.parts];refine ak ?_;simp only[seval,hi];refine ai ?_;refine cJ ?_;refine gP 4 (λi:Nat=>[(13,iv i)]) (λi=>Gf σ++[.cells [yv] 132,.cells ((jb [a,b,c,d,0,0,0,0,0,0,0] 4 i (-1)).map iv) 86]) (λi=>True) (λ_ _=>rfl) (by simp only[seval];simp[bA,Wk.refl]) rfl (λ_ _ _=>by simp) trivial (λcp dz i cW _ R hR=> ?_);refine ai ?_;refine aD ?_;refine⟨λhc=> ?_,λhc=> ?_⟩
 ·have bG:i<4:=by omega
  have b4:(0<=(i:Int)/\(i:Int)<4)=True:=by simp;omega
  have bZ:SF.wrap ((i:Int)+1)=((i+1:Nat):Int):=by rw[bI _ (by omega)];rfl
  have me:(jb [a,b,c,d,0,0,0,0,0,0,0] 4 i (-1)).length=11:=Es (by show 4+i<=11;omega);have mf:((jb [a,b,c,d,0,0,0,0,0,0,0] 4 i (-1)).map iv).length=11:=by rw[To,me]
  refine aN ?_;refine ai ?_;refine ak ?_;simp only[seval,b4,mf];refine⟨by omega,?_⟩;rw[wC (show 4+i<(jb [a,b,c,d,0,0,0,0,0,0,0] 4 i (-1)).length by omega),I4 (by show 4+i<11;omega)];refine ak ?_;simp only[seval,bZ];exact hR _ ⟨bG,trivial,dE⟩
 have:i=4:=by omega
 subst this;clear hc cW;refine bU ?_;refine ai ?_;rw[show jb [a,b,c,d,0,0,0,0,0,0,0] 4 4 (-1)=[a,b,c,d, -1, -1, -1, -1,0,0,0]from rfl];refine cJ ?_;refine gP 3 (λi:Nat=>[(20,iv i)]) (λi=>Gf σ++[.cells [yv] 132,.cells ((jb [a,b,c,d, -1, -1, -1, -1,0,0,0] 8 i (-1)).map iv) 86]) (λi=>True) (λ_ _=>rfl) (by simp only[seval];simp[bA,Wk.refl]) rfl (λ_ _ _=>by simp) trivial (λcp dz i cW _ R hR=> ?_);refine ai ?_;refine aD ?_;refine⟨λhc=> ?_,λhc=> ?_⟩
 ·have bG:i<3:=by omega
  have b4:(0<=(i:Int)/\(i:Int)<3)=True:=by simp;omega
  have bZ:SF.wrap ((i:Int)+1)=((i+1:Nat):Int):=by rw[bI _ (by omega)];rfl
  have me:(jb [a,b,c,d, -1, -1, -1, -1,0,0,0] 8 i (-1)).length=11:=Es (by show 8+i<=11;omega);have mf:((jb [a,b,c,d, -1, -1, -1, -1,0,0,0] 8 i (-1)).map iv).length=11:=by rw[To,me]
  refine aN ?_;refine ai ?_;refine ak ?_;simp only[seval,b4,mf];refine⟨by omega,?_⟩;rw[wC (show 8+i<(jb [a,b,c,d, -1, -1, -1, -1,0,0,0] 8 i (-1)).length by omega),I4 (by show 8+i<11;omega)];refine ak ?_;simp only[seval,bZ];exact hR _ ⟨bG,trivial,dE⟩
 have:i=3:=by omega
 subst this;clear hc cW;refine bU ?_;rw[show jb [a,b,c,d, -1, -1, -1, -1,0,0,0] 8 3 (-1)=[a,b,c,d, -1, -1, -1, -1, -1, -1, -1]from rfl];refine ai ?_;refine ak ?_;simp only[seval,hr,bO,bi];refine cJ ?_;refine gP x.pieces.length (λi:Nat=>[(31,iv i)]) (λi=>Gf σ++[.cells [yv] 132,.cells ([a,b,c,d, -1, -1, -1, -1, -1, -1, -1].map iv) 86,.cells ((pQ (x.pieces.map (b_ [a,b,c,d])) i).map λn=>wv n) 80]) (λi=>True) (λ_ _=>rfl) (by simp only[seval];simp[bA,Wk.refl]) rfl (λ_ _ _=>by simp) trivial (λcp dz i cW _ R hR=> ?_);refine ai ?_;refine aD ?_;refine⟨λhc=> ?_,λhc=> ?_⟩
 ·have bG:i<x.pieces.length:=by omega
  obtain⟨y,hy⟩:=cz bG;have uH:(x.pieces.map (b_ [a,b,c,d]))[i]?=some (b_ [a,b,c,d] y):=by rw[Tj,hy];rfl
  have b4:(0<=(i:Int)/\(i:Int)<4)=True:=by simp;omega
  have bZ:SF.wrap ((i:Int)+1)=((i+1:Nat):Int):=by rw[bI _ (by omega)];rfl
  have bX:(pQ (x.pieces.map (b_ [a,b,c,d])) i).length=4:=afz (by simp;omega) (by simpa using lq);have vU:((pQ (x.pieces.map (b_ [a,b,c,d])) i).map λn=>wv n).length=4:=by rw[To,bX]
  refine aN ?_;refine ak ?_;simp only[seval,G5 hy,jR bG];refine ak ?_;simp only[seval,hi,b4];refine aK ((Ep (h:=[a,b,c,d]) (y:=y) hh ?_));(try simp only[seval,b4,vU]);refine⟨by omega,?_⟩;rw[MX (g:=λn=>wv n) (show i<(pQ (x.pieces.map (b_ [a,b,c,d])) i).length by omega),afA uH (by simpa using lq)];refine ak ?_;simp only[seval,bZ];exact hR _ ⟨bG,trivial,Ag (qv rfl rfl) (by simp only[seval];simp[bA,Wk.refl]) (RD (L:=[_,_]) cp (abe _ _)) (by simp[eG])⟩
 have:i=x.pieces.length:=by omega
 subst this;clear hc cW;refine bU ?_;refine ai ?_;refine ak ?_;simp only[seval,Ue,UF,Uf,TS];refine ai ?_;have rE:pQ (x.pieces.map (b_ [a,b,c,d])) x.pieces.length=x.pieces.map (b_ [a,b,c,d])++TL (4-x.pieces.length) 0:=by
  have:=afy (l:=x.pieces.map (b_ [a,b,c,d]));simpa using this
 refine aK (?_);rw[hN];have rQ:∀n,Lt n (.aJ []):=λn=>by simp[iE]
 have hT0:∀eA,oP [a,b,c,d] x.pieces.length 0 [] eA->True:=λ_ _=>trivial;refine ahl (x:=x) (h:=[a,b,c,d]) hx rfl hY hr rE x.pieces.length 0 0 [] [a,b,c,d, -1, -1, -1, -1, -1, -1, -1] σ [] _ _ rfl (by decide) rfl ⟨rfl,rfl,?_⟩ hI hA (λeA sO=> ?_)
 ·have:x.pieces.length=0\/x.pieces.length=1\/x.pieces.length=2\/x.pieces.length=3\/x.pieces.length=4:=by omega
  rcases this with e|e|e|e|e<;>rw[e]<;>rfl
 change c_ Gf pv _ _ _ (bC f ((f_ x [a,b,c,d]).map (dW [a,b,c,d])) σ);cases hf:bC f ((f_ x [a,b,c,d]).map (dW [a,b,c,d])) σ with
 |go s=>
  rw[hf]at hk;simp only[c_,gg]at hk⊢;rw[SZ]at hk;(try simp only[seval]);rw[<- hN];exact uV hY hH rQ hk
 |stop s=>
  rw[hf]at hk;simp only[c_,gg]at hk⊢;rw[SZ]at hk;(try simp only[seval]);rw[<- hN];exact uV hY hH rQ hk
 |bad s=>
  rw[hf]at hk;simp only[c_,gg]at hk⊢;rw[SZ]at hk;rw[<- hN];exact uV hY hH nL hk
end
open Go.Conc Go.Proofs Go.Gg.Tk
namespace Tk
structure n9 (h:List Int)(ns:List Nat)(k s:Nat)(o:List Nat)(tc:List Int):Prop where
 len:tc.length=11
 pre:tc.take (8+s)=h++kQ 4 ns++o.map λn:Nat=>(n:Int)
 tl:tc.drop (8+k)=TL (3-k) (-1)
theorem n9.all{h:List Int}{ns:List Nat}{k:Nat}{o:List Nat}{tc:List Int}(ho:o.length=k)(n:n9 h ns k k o tc):tc=di h ns o:=by
 have:=Vg (8+k) tc;rw[n.pre,n.tl]at this;rw[<- this];unfold di
 conv=>rhs;unfold kQ
 rw[ho,SD];rfl
theorem Ad{k:Nat}{l:List Nat}(h:l.length<=k):(kQ k l).length=k:=by simp[kQ];omega
theorem n9.back{h:List Int}{ns:List Nat}{k s:Nat}{o:List Nat}{n:Nat}{tc:List Int}(h4:h.length=4)(hn:ns.length<=4)(ho:o.length=s)(q:n9 h ns k (s+1) (o++[n]) tc):n9 h ns k s o tc:=by
 refine⟨q.len,?_,q.tl⟩;have e:tc.take (8+s)=(tc.take (8+(s+1))).take (8+s):=by rw[U1];congr 1;omega
 have hp:=Ad hn;rw[e,q.pre,TF,<- SD,Tw (by simp[h4,ho,hp];omega),SY (by simp[h4,ho,hp];omega)]
theorem n9.next{h:List Int}{ns:List Nat}{k s:Nat}{o:List Nat}{n:Nat}{tc:List Int}(hp:s<k)(hk:k<=3)(q:n9 h ns k s o tc):n9 h ns k (s+1) (o++[n]) (tc.set (8+s) (n:Int)):=by
 refine⟨by rw[TQ];exact q.len,?_,?_⟩
 ·rw[show 8+(s+1)=(8+s)+1 by omega,Na (by rw[q.len];omega),q.pre];simp
 ·rw[Pe (by omega)];exact q.tl
theorem n9.num{h:List Int}{ns:List Nat}{k s p:Nat}{o:List Nat}{tc:List Int}(h4:h.length=4)(hn:ns.length<=4)(hp:p<ns.length)(q:n9 h ns k s o tc):tc[4+p]?=some ((ns.getD p 0:Nat):Int):=by
 have h1:(tc.take (8+s))[4+p]?=some ((ns.getD p 0:Nat):Int):=by
  rw[q.pre,SD,Tg (by omega),h4,show 4+p-4=p by omega,SW (by rw[Ad hn];omega)];unfold kQ;rw[SW (by simpa using hp),Tj,SE,SP hp];rfl
 rwa [Ua,if_pos (by omega)]at h1
theorem anF{h:List Int}{ns:List Nat}{k q:Nat}{qs:List Nat}{u:Nat}{o:List Nat}:(mw k ns (q::qs) u o).map (di h ns)=(S0 k).flatMap λp=>if u.testBit p|| !q.testBit (ns.getD p 0)then[]else(mw k ns qs (u|||2^p) (o++[p])).map (di h ns):=by
 rw[mw,Vu];congr 1;funext n;split<;>rfl
end Tk
open Go.Conc Go.Proofs Go.Gg.Tk
section
variable {lv:Bool}
def ye (yv:AV)(N ir it is:Nat):List aa:=[.cells [yv] 132,.cells [.fn (.func 109) [] [.op ir 0,.op N 0,.op it 0,.op is 0,.op (N+1) 0]] 157]
theorem ahn{x:aj}{h:List Int}{ns qs:List Nat}{N ir it is:Nat}{yv pv:AV}{S:Type}{f:S->List Int->dF S}{Gf:List Int->S->List aa}{I:S->Prop}{A:List Int->Prop}(hx:x.Ok)(h4:h.length=4)(jf:ns.length=x.pieces.length)(hY:∀tc,jP lv SC yv f (Gf tc) N I A pv)(hr:∀tc σ L,(Gf tc σ++L)[ir]?=some (.cells x.l 76))
  (ht:∀tc σ L,(Gf tc σ++L)[it]?=some (.cells (tc.map iv) 86)) (dV:∀tc eA σ L,(Gf tc σ++L).set it (.cells (eA.map iv) 86)=Gf eA σ++L) (hs:∀tc σ L,(Gf tc σ++L)[is]?=some (.cells (qs.map λn=>wv n) 81)) (zE:∃r,qs=x.aB.map (b_ h)++r) (xN:qs.length=3):
  ∀(d s u:Nat)(o:List Nat)(tc:List Int)(σ:S)(M:List aa)(k kp:AV->List aa->Prop),d+s=x.aB.length->u<65536->o.length=s->n9 h ns x.aB.length s o tc->I σ->(∀a∈(mw x.pieces.length ns ((x.aB.map (b_ h)).drop s) u o).map (di h ns),A a)->
   (∀eA,n9 h ns x.aB.length s o eA->c_ (Gf eA) pv k kp (ye yv N ir it is++M) (bC f ((mw x.pieces.length ns ((x.aB.map (b_ h)).drop s) u o).map (di h ns)) σ))->
   bc lv SC 109 (Gf tc σ++(ye yv N ir it is++M)) [iv s,wv u,.op ir 0,.op N 0,.op it 0,.op is 0,.op (N+1) 0] k kp:=by
 intro d;induction d with
 |zero=>
  intro s u o tc σ M k kp o5 hu ho hT hI hA hk;refine bH (rs:=[.tmp 9]) (nt:=54) aj_ λhH uj=> ?_;simp only[br,SX];have bO:x.l=[iv x.first,iv x.hours,iv x.an,ek x.seen,bi x.pieces,bi x.aB]:=rfl;have g0:∀(tc:List Int)(σ:S)(L:List aa),(Gf tc σ++L)[N]?=L[0]?:=λtc σ L=>(hY tc).get σ L 0;have dp:s=x.aB.length:=by omega
  have vW:(x.aB.map (b_ h)).drop s=[]:=TO (by simp;omega);rw[vW,mw]at hA hk;rw[Y9]at hA hk;rw[MQ]at hk;have xS:tc=di h ns o:=by subst dp;exact hT.all ho
  have j9:(tc.map iv).length=11:=by rw[To,hT.len]
  refine ai ?_;refine ak ?_;simp only[seval,hr,bO,bi];refine aD ?_;refine⟨λhc=> ?_,λhc=>by exfalso;simp at hc;omega⟩;refine ak ?_;simp only[seval,g0,ht,ye,j9];rw[SY (i:=11) (l:=tc.map iv) (by rw[j9];exact SU _)];rw[<- xS]at hA hk;have aE:=hk tc hT;refine w7 ((hY tc).call σ tc (ye yv N ir it is++M) _ _ hI (hA _ (by simp)) ?_);cases hf:f σ tc with
  |go σ'=>
   rw[hf]at aE;simp only[c_]at aE⊢;(try simp only[seval]);refine aZ ?_;exact cm aE
  |stop σ'=>
   rw[hf]at aE;simp only[c_]at aE⊢;(try simp only[seval]);refine aZ ?_;exact cm aE
  |bad σ'=>
   rw[hf]at aE;simp only[c_]at aE⊢;exact cm aE
 |succ d ihd=>
  intro s u o tc σ M k kp o5 hu ho hT hI hA hk;refine bH (rs:=[.tmp 9]) (nt:=54) aj_ λhH uj=> ?_;simp only[br,SX];have bO:x.l=[iv x.first,iv x.hours,iv x.an,ek x.seen,bi x.pieces,bi x.aB]:=rfl;have g1:∀(tc:List Int)(σ:S)(L:List aa),(Gf tc σ++L)[N+1]?=L[1]?:=λtc σ L=>(hY tc).get σ L 1;have lq:=hx.cT;have xP:=hx.fi;obtain⟨y,hy⟩:=cz (xs:=x.aB) (i:=s) (by omega);have uH:(x.aB.map (b_ h))[s]?=some (b_ h y):=by rw[Tj,hy];rfl
  have iB:qs[s]?=some (b_ h y):=by obtain⟨r,e⟩:=zE;rw[e,SW (by simp;omega)];exact uH
  have mi:b_ h y<65536:=Wo (PL h y) (by decide);have aC:¬(s:Int)=(x.aB.length:Int):=by omega
  rw[vG uH,anF]at hA hk;generalize hg:(λp=>if u.testBit p|| !(b_ h y).testBit (ns.getD p 0)then[]else(mw x.pieces.length ns ((x.aB.map (b_ h)).drop (s+1)) (u|||2^p) (o++[p])).map (di h ns))=g at hA hk;refine ai ?_;refine ak ?_;simp only[seval,hr,bO,bi];refine aD ?_;refine⟨λhc=>by exfalso;exact aC (by simpa using hc),λhc=> ?_⟩;refine aN ?_;refine ak ?_;simp only[seval,hr,bO,bi];refine cJ ?_;refine yL (measure λm:Nat×S×List Int=>x.pieces.length-m.1).wf (λm=>[(24,iv (m.1:Nat))]) (λm=>Gf m.2.2 m.2.1++(ye yv N ir it is++M)) (λm=>m.1<=x.pieces.length/\bC f ((S0 m.1).flatMap g) σ=.go m.2.1/\n9 h ns x.aB.length s o m.2.2) (0,σ,tc) (λ_ _=>rfl) (by intro p hp;simp at hp;subst hp;exact⟨_,rfl,Wk.refl _⟩) rfl (λ_ _=>by simp[ye,(hY _).len]) ⟨by omega,rfl,hT⟩ (λcp dz m am R hR=> ?_);obtain⟨i,τ,tq⟩:=m;obtain⟨hi,bL,lJ⟩:=am;replace hi:i<=x.pieces.length:=hi;replace bL:bC f ((S0 i).flatMap g) σ=.go τ:=bL;replace lJ:n9 h ns x.aB.length s o tq:=lJ;refine ai ?_;refine aD ?_;refine⟨λhc=> ?_,λhc=> ?_⟩
  ·have bG:i<x.pieces.length:=(by omega);have bZ:SF.wrap ((i:Int)+1)=((i+1:Nat):Int):=(by rw[bI _ (by omega)];rfl);have hws:SF.wrap ((s:Int)+1)=((s+1:Nat):Int):=(by rw[bI _ (by omega)];rfl);have rI:=Jc g bG;have td:=Jd g i;have BF:I τ:=Ah (A:=A) (hY tc).inv _ σ τ (λa ha=>hA a (by rw[rI];exact Th _ ha)) hI bL;have b3:(0<=(s:Int)/\(s:Int)<3)=True:=(by simp;omega);have b4:(0<=(i:Int)/\(i:Int)<4)=True:=(by simp;omega);have C_:(u.testBit i|| !(b_ h y).testBit (ns.getD i 0))=true->g i=[]:=λe=>(by rw[<- hg];exact if_pos e);have Jk:(u.testBit i|| !(b_ h y).testBit (ns.getD i 0))=false->g i=(mw x.pieces.length ns ((x.aB.map (b_ h)).drop (s+1)) (u|||2^i) (o++[i])).map (di h ns):=λe=>(by rw[<- hg];exact if_neg (by rw[e];simp));have Rz:=lJ.num h4 (by omega) (show i<ns.length by omega);refine aN ?_;refine ai ?_;refine eO 14 ?_;simp only[seval,ht,hs,b3,b4,yV iB,kW Rz];refine iG (bv (u.testBit i)) (cO (ug hu ⟨rfl,rfl⟩)) ?_;(try simp only[seval]);refine xi (λh2=> ?_) (λh2=> ?_)
   ·(try simp only[seval,ht,hs,b3,b4,yV iB,kW Rz]);refine iG (bv ((b_ h y).testBit (ns.getD i 0))) (cO (ug mi ⟨rfl,rfl⟩)) ?_;(try simp only[seval]);refine aD ?_;refine⟨λh3=> ?_,λh3=> ?_⟩
    ·have aM:=C_ (by rw[h2];simpa using h3);refine bU ?_;refine ak ?_;simp only[seval,bZ];exact hR _ ⟨(i+1,τ,tq),(by show x.pieces.length-(i+1)<x.pieces.length-i;omega),⟨by omega,by rw[td,aM,SZ];exact bL,lJ⟩,dE⟩
    ·have aM:=Jk (by rw[h2];simpa using h3);have j9:(tq.map iv).length=11:=(by rw[To,lJ.len]);have If:8+s<tq.length:=(by rw[lJ.len];omega);refine aN ?_;refine ak ?_;simp only[seval,ht,b3,j9];refine⟨by omega,?_⟩;rw[wC If,dV];refine eO 6 ?_;simp only[seval,g1,ye];refine iG (wv (u|||2^i)) (cO (uh hu (show i<16 by omega) ⟨rfl,rfl⟩)) ?_;rw[hws];have jZ:u|||2^i<65536:=pD hu (wH (by omega));refine aK ((ihd (s+1) (u|||2^i) (o++[i]) (tq.set (8+s) (i:Int)) τ M _ _ (by omega) jZ (by simp[ho]) (lJ.next (by omega) xP) BF (λa ha=>hA a (by rw[rI,aM];exact S5 _ (Th _ ha))) (λeA sO=> ?_)));have BI:=sO.back h4 (by omega) ho;have zM:bC f ((S0 x.pieces.length).flatMap g) σ=match bC f (g i) τ with
       |.go s'=>bC f ((T4 (i+1) (x.pieces.length-(i+1))).flatMap g) s'
       |r=>r:=by
      rw[rI,qA,bL];exact qA f (g i) _ τ
     rw[<- aM];have aE:=hk eA BI;rw[zM]at aE;cases hf:bC f (g i) τ with
     |go τ'=>
      simp only[c_];(try simp only[seval]);refine aD ?_;refine aN ?_;refine ak ?_;simp only[seval,bZ];exact hR _ ⟨(i+1,τ',eA),(by show x.pieces.length-(i+1)<x.pieces.length-i;omega),⟨by omega,by rw[td,qA,bL];exact hf,BI⟩,dE⟩
     |stop τ'=>
      rw[hf]at aE;simp only[c_]at aE⊢;(try simp only[seval]);refine aD ?_;refine ai ?_;refine aZ ?_;exact cm aE
     |bad τ'=>
      rw[hf]at aE;simp only[c_]at aE⊢;exact cm aE
   ·(try simp only[seval]);refine aD ?_;have aM:=C_ (by rw[show u.testBit i=true by simpa using h2];rfl);refine bU ?_;refine ak ?_;simp only[seval,bZ];exact hR _ ⟨(i+1,τ,tq),(by show x.pieces.length-(i+1)<x.pieces.length-i;omega),⟨by omega,by rw[td,aM,SZ];exact bL,lJ⟩,dE⟩
  ·have cS:i=x.pieces.length:=(by omega);subst cS;have aE:=hk tq lJ;rw[bL]at aE;refine bU ?_;refine ai ?_;refine aZ ?_;exact cm aE
theorem aib{H:List aa}{k kp:AV->List aa->Prop}{x:aj}{tc:List Int}{qs:List Nat}(hk:k (.fn (.func 108) [] [.op H.length 0,.op (H.length+1) 0,.op (H.length+2) 0]) (H++[.cells x.l 76,.cells (tc.map iv) 86,.cells (qs.map λn=>wv n) 81])):bc lv SC 93 H [x.av,.agg (tc.map iv),.agg (qs.map λn=>wv n)] k kp:=by
 refine bH (rs:=[.tmp 6]) (nt:=8) Tryz.f93 λhH hA=> ?_;simp only[br,SX,aj.av];refine ai ?_;refine ak ?_;simp only[seval,Ue,UF,Uf,TS];refine aZ ?_;exact cm hk
theorem ahm{x:aj}{h:List Int}{ns qs:List Nat}{N ir it is:Nat}{yv pv:AV}{S:Type}{f:S->List Int->dF S}{Gf:List Int->S->List aa}{I:S->Prop}{A:List Int->Prop}{tc:List Int}{σ:S}{k kp:AV->List aa->Prop}(hx:x.Ok)(h4:h.length=4)(jf:ns.length=x.pieces.length)(hY:∀tc,jP lv SC yv f (Gf tc) N I A pv)(hr:∀tc σ L,(Gf tc σ++L)[ir]?=some (.cells x.l 76))
  (ht:∀tc σ L,(Gf tc σ++L)[it]?=some (.cells (tc.map iv) 86)) (dV:∀tc eA σ L,(Gf tc σ++L).set it (.cells (eA.map iv) 86)=Gf eA σ++L) (hs:∀tc σ L,(Gf tc σ++L)[is]?=some (.cells (qs.map λn=>wv n) 81)) (zE:∃r,qs=x.aB.map (b_ h)++r) (xN:qs.length=3)
  (am:∀m tc eA σ,(∀z∈Gf tc σ,fj m z)->∀z∈Gf eA σ,fj m z) (nL:∀n,Lt n pv) (xS:tc=dW h ns) (hI:I σ) (hA:∀a∈(iy x h ns).map (di h ns),A a) (hk:∀eA,eA.length=11->gg (Gf eA) pv k kp [] (bC f ((iy x h ns).map (di h ns)) σ)):bc lv SC 108 (Gf tc σ) [yv,.op ir 0,.op it 0,.op is 0] k kp:=by
 refine bH (rs:=[]) (nt:=9) Tryz.f108 λhH uj=> ?_;simp only[br,SX];have hN:=(hY tc).len σ;have lq:=hx.cT;have xP:=hx.fi;refine ak ?_;simp only[seval,(hY tc).parts];refine ai ?_;refine ak ?_;simp only[seval,Ue,UF,Uf,TS];refine ai ?_;refine aK (?_);rw[hN];have rQ:∀n,Lt n (.aJ []):=λn=>by simp[iE]
 have dp:=Ad (k:=4) (l:=ns) (by omega);have cut:∀(eA:List Int)(σ':S)(L:List aa)(a:AV)(k:AV->List aa->Prop),(∀n,Lt n a)->k a (Gf eA σ')->cw (Gf tc σ).length (Gf eA σ'++L) a k:=λeA σ' L a k ha aE=>by
  refine jU (H':=Gf eA σ') (Wk.refl _) rfl (by rw[(hY eA).len,(hY tc).len];exact SU _) ?_ (ha _) aE;intro z hz;have h1:∀z∈Gf eA σ,fj N z:=am N tc eA σ (λw hw=>by have:=hH w hw;rwa [hN]at this);rw[(hY eA).len];exact(hY eA).ok N σ σ' h1 z hz
 refine ahn (x:=x) (h:=h) (ns:=ns) (qs:=qs) hx h4 jf hY hr ht dV hs zE xN x.aB.length 0 0 [] tc σ [] _ _ rfl (by decide) rfl ⟨?_,?_,?_⟩ hI hA (λeA sO=> ?_)
 ·rw[xS];simp[dW,h4,dp]
 ·rw[xS];unfold dW;rw[List.map_nil,SZ,Tw (by simp[h4,dp]),SY (by simp[h4,dp])]
 ·rw[xS];unfold dW;rw[Vv,TO (by simp[h4,dp]),Uw];have:(h++kQ 4 ns).length=8:=by simp[h4,dp]
  rw[this];have:x.aB.length=0\/x.aB.length=1\/x.aB.length=2\/x.aB.length=3:=by omega
  rcases this with e|e|e|e<;>rw[e]<;>rfl
 have hk:=hk eA sO.len;change c_ (Gf eA) pv _ _ _ (bC f ((iy x h ns).map (di h ns)) σ);cases hf:bC f ((iy x h ns).map (di h ns)) σ with
 |go s=>
  rw[hf]at hk;simp only[c_,gg]at hk⊢;rw[SZ]at hk;(try simp only[seval]);rw[<- hN];exact cut _ _ _ _ _ rQ hk
 |stop s=>
  rw[hf]at hk;simp only[c_,gg]at hk⊢;rw[SZ]at hk;(try simp only[seval]);rw[<- hN];exact cut _ _ _ _ _ rQ hk
 |bad s=>
  rw[hf]at hk;simp only[c_,gg]at hk⊢;rw[SZ]at hk;rw[<- hN];exact cut _ _ _ _ _ nL hk
end
section
variable {lv:Bool}{P:SK}{s:AS}{ms:List Nat}{bs:List UX}{nt:Nat}
theorem afh{f:Tl}{ps:Array Tmp}{bM body:T7}{fv:AV}{Φ:ao->AS->List Nat->Prop}(hf:s.ev f=some fv)
  (h:∀(l fn:Nat)(T:List (Nat×AV))(ag bo:T7),T=s.T->ag=bM->bo=body->iY lv P fv (s.H++[.obj (.deferred (some [])),.loop l .ready none fn T nt ps ag bo s.H.length]) [.fn (.yield l) [] []]
   (λ_ H'=>∃st pe fE T' jl gC gh fw gk,H'[s.H.length+1]?=some (.loop l st pe fE T' jl gC gh fw gk)/\st≠ .busy/\sv Φ ⟨s.T,H'.set (s.H.length+1) .gone⟩ (s.H.length::ms) pe)
   (λpv H'=>Φ (.panic pv) ⟨s.T,H'⟩ (s.H.length::ms))):mC lv P nt (.rangeFunc f ps bM body) s ms Φ:=afg hf λl fn=>h l fn _ _ _ rfl rfl rfl
theorem Ic{f:Tl}{ps:Array Tmp}{bM body:T7}{fv:AV}{Φ:ao->AS->List Nat->Prop}(hf:s.ev f=some fv)
  (h:∀(l fn:Nat)(T:List (Nat×AV))(ag bo:T7),T=s.T->ag=bM->bo=body->iY lv P fv (s.H++[.obj (.deferred (some [])),.loop l .ready none fn T nt ps ag bo s.H.length]) [.fn (.yield l) [] []]
   (λ_ H'=>∃st pe fE T' jl gC gh fw gk,H'[s.H.length+1]?=some (.loop l st pe fE T' jl gC gh fw gk)/\st≠ .busy/\sv Φ ⟨s.T,H'.set (s.H.length+1) .gone⟩ (s.H.length::ms) pe)
   (λpv H'=>Φ (.panic pv) ⟨s.T,H'⟩ (s.H.length::ms))):kz lv P nt bs (.rangeFunc f ps bM body) s ms Φ:=afk hf λl fn=>h l fn _ _ _ rfl rfl rfl
theorem D6{f:Tl}{ps:Array Tmp}{bM body:T7}{fv:AV}{Φ:ao->AS->Prop}{l0:Nat}(F0:Nat){Je L_ df:Nat}{M3:aa_}{Mm:Option T7}{T0:List (Nat×AV)}{MG:Array Tmp}{H7 Ii:T7}(hf:s.ev f=some fv)(h0:s.H[F0]?=some (.loop l0 M3 Mm Je T0 L_ MG H7 Ii df))
  (h:∀(l fn:Nat)(T:List (Nat×AV))(ag bo:T7),T=s.T->ag=bM->bo=body->iY lv P fv (s.H++[.loop l .ready none fn T nt ps ag bo df]) [.fn (.yield l) [] []]
   (λ_ H'=>∃st pe fE T' jl gC gh fw gk,H'[s.H.length]?=some (.loop l st pe fE T' jl gC gh fw gk)/\st≠ .busy/\tS Φ ⟨s.T,H'.set s.H.length .gone⟩ pe)
   (λpv H'=>Φ (.panic pv) ⟨s.T,H'⟩)):aX lv P (some l0) nt (.rangeFunc f ps bM body) s Φ:=ae5 hf h0 λl fn=>h l fn _ _ _ rfl rfl rfl
end
section
variable {P:SK}
theorem GM(Φ:ao->AS->List Nat->Prop)(s:AS)(ms:List Nat):sv Φ s ms none=Φ .normal s ms:=by rw[sv]
theorem an2(Φ:ao->AS->List Nat->Prop)(s:AS)(ms:List Nat):sv Φ s ms (some .ret)=Φ .ret s ms:=by rw[sv]
theorem GN(Φ:ao->AS->Prop)(s:AS):tS Φ s none=Φ .normal s:=by rw[tS]
theorem an4(Φ:ao->AS->Prop)(s:AS):tS Φ s (some .ret)=Φ .ret s:=by rw[tS]
theorem an3(Φ:ao->AS->Prop)(s:AS)(i:Nat):tS Φ s (some (.exit i))=Φ (.exit i) s:=by rw[tS]
theorem afG(id:Nat)(Φ:ao->AS->List Nat->Prop)(s:AS)(ms:List Nat):ao.pS id Φ .ret s ms=Φ .ret s ms:=by rw[ao.pS];simp
theorem afF(id:Nat)(Φ:ao->AS->List Nat->Prop)(pv:AV)(s:AS)(ms:List Nat):ao.pS id Φ (.panic pv) s ms=Φ (.panic pv) s ms:=by rw[ao.pS];simp
theorem aql(Φ:ao->AS->List Nat->Prop)(pv:AV)(s:AS)(ms:List Nat):ao.uZ Φ (.panic pv) s ms=Φ (.panic pv) s ms:=by rw[ao.uZ];simp
theorem aq1(K:AS->List Nat->Prop)(Φ:ao->AS->List Nat->Prop)(pv:AV)(s:AS)(ms:List Nat):ao.r6 K Φ (.panic pv) s ms=Φ (.panic pv) s ms:=by rw[ao.r6];simp
theorem aiD(rs:List UM)(n:Nat)(k kp:AV->List aa->Prop)(s:AS)(ms:List Nat):sk P rs n k kp .normal s ms=ap (iK ms s.H) λH'=>ap (g_ P ⟨s.T,H'⟩ rs) λl=>cw n H' (iU l) k:=by rw[sk]
theorem aiE(rs:List UM)(n:Nat)(k kp:AV->List aa->Prop)(pv:AV)(s:AS)(ms:List Nat):sk P rs n k kp (.panic pv) s ms=ap (iK ms s.H) λH'=>cw n H' pv kp:=by rw[sk]
attribute [seval] afG afF aql aq1 aiD aiE
end
inductive Lp where
 |ready
 |ret
 |exit (i:Nat)
 |busy
def Lp.st:Lp->aa_
 |.ready=> .ready
 |.ret=> .done
 |.exit _=> .done
 |.busy=> .busy
def Lp.pe:Lp->Option T7
 |.ready=>none
 |.ret=>some .ret
 |.exit i=>some (.exit i)
 |.busy=>none
namespace Tk
def dF.map {S T:Type}(g:S->T):dF S->dF T
 |.go s=> .go (g s)
 |.stop s=> .stop (g s)
 |.bad s=> .bad (g s)
def dF.fin {S:Type}:dF S->Bool×S
 |.go s=>(false,s)
 |.stop s=>(false,s)
 |.bad s=>(true,s)
end Tk
theorem MN{S:Type}{Gf:S->List aa}{pv:AV}{k kp:AV->List aa->Prop}{M:List aa}{r r':dF S}(h:r.fin=r'.fin)(hk:gg Gf pv k kp M r):gg Gf pv k kp M r':=by
 cases r<;>cases r'<;>simp only[dF.fin,U0]at h<;>first
  |(obtain⟨_,rfl⟩:=h;exact hk)
  |(exact absurd h.1 (by decide))
end Go.Gg
namespace Go.Gg.Tk
open Go.Gg
def iV {S:Type}(f:S->List Int->dF S)(deep:Int)(m:S×Lp)(b:List Int):dF (S×Lp):=match f m.1 b with
 |.go σ=>if deep=0 then .stop (σ,.ret)else if deep=1 then .stop (σ,.exit 3)else .go (σ,.ready)
 |.stop σ=> .stop (σ,.ret)
 |.bad σ=> .bad (σ,.busy)
def kV {S:Type}:dF (S×Lp)->dF (S×Lp)
 |.go m=> .go (m.1,.ready)
 |.stop (σ,.ret)=> .stop (σ,.ret)
 |.stop (σ,_)=> .go (σ,.ready)
 |.bad m=> .bad (m.1,.busy)
def pG {S:Type}(f:S->List Int->dF S)(deep:Int)(L:List Int->List (List Int))(m:S×Lp)(a:List Int):dF (S×Lp):=kV (bC (iV f deep) (L a) (m.1,.ready))
def rT (deep:Int)(ll:List (List (List Int))):List (List Int):=if deep=0 then ll.flatten.take 1 else if deep=1 then(ll.map (·.take 1)).flatten else ll.flatten
theorem are{S:Type}{f:S->List Int->dF S}{σ:S}{l:Lp}:∀(M:List (List Int)),bC (iV f 0) M (σ,l)=match M with
  |[]=> .go (σ,l)
  |b::_=>match f σ b with
   |.go τ=> .stop (τ,.ret)
   |.stop τ=> .stop (τ,.ret)
   |.bad τ=> .bad (τ,.busy)
 |[]=>rfl
 |b::M=>by
  simp only[bC,iV];cases f σ b<;>simp
theorem arf{S:Type}{f:S->List Int->dF S}{σ:S}{l:Lp}:∀(M:List (List Int)),bC (iV f 1) M (σ,l)=match M with
  |[]=> .go (σ,l)
  |b::_=>match f σ b with
   |.go τ=> .stop (τ,.exit 3)
   |.stop τ=> .stop (τ,.ret)
   |.bad τ=> .bad (τ,.busy)
 |[]=>rfl
 |b::M=>by
  simp only[bC,iV];cases f σ b<;>simp
theorem ac3{S:Type}{f:S->List Int->dF S}{deep:Int}(h0:deep≠0)(h1:deep≠1):∀(M:List (List Int))(σ:S),bC (iV f deep) M (σ,.ready)=match bC f M σ with
  |.go τ=> .go (τ,.ready)
  |.stop τ=> .stop (τ,.ret)
  |.bad τ=> .bad (τ,.busy)
 |[],σ=>rfl
 |b::M,σ=>by
  simp only[bC,iV,h0,h1,if_false];cases f σ b with
  |go τ=>exact ac3 h0 h1 M τ
  |stop τ=>rfl
  |bad τ=>rfl
theorem ac4{S:Type}{f:S->List Int->dF S}{deep:Int}{L:List Int->List (List Int)}:∀(l:List (List Int))(σ:S),((bC (pG f deep L) l (σ,.ready)).map Prod.fst).fin=(bC f (rT deep (l.map L)) σ).fin/\(∀m,bC (pG f deep L) l (σ,.ready)=.go m->m.2=.ready)
 |[],σ=>by
  have:rT deep (([]:List (List Int)).map L)=[]:=by
   unfold rT;by_cases h0:deep=0
   ·rw[if_pos h0];rfl
   ·by_cases h1:deep=1
    ·rw[if_neg h0,if_pos h1];rfl
    ·rw[if_neg h0,if_neg h1];rfl
  rw[this];exact⟨rfl,λm h=>by cases h;rfl⟩
 |a::l,σ=>by
  have ih:=ac4 (f:=f) (deep:=deep) (L:=L) l;by_cases h0:deep=0
  ·subst h0;have hp:rT 0 ((a::l).map L)=(L a++(l.map L).flatten).take 1:=rfl;have ln:rT 0 (l.map L)=((l.map L).flatten).take 1:=rfl;rw[hp];simp only[bC,pG,are];cases hL:L a with
   |nil=>
    simp only[kV,Uw];rw[<- ln];exact ih σ
   |cons b M=>
    simp only[VE,VQ,an_];cases hf:f σ b with
    |go τ=>simp only[kV,bC,hf];exact⟨rfl,λm h=>by cases h⟩
    |stop τ=>simp only[kV,bC,hf];exact⟨rfl,λm h=>by cases h⟩
    |bad τ=>simp only[kV,bC,hf];exact⟨rfl,λm h=>by cases h⟩
  by_cases h1:deep=1
  ·subst h1;have hp:rT 1 ((a::l).map L)=(L a).take 1++rT 1 (l.map L):=rfl;rw[hp,qA];simp only[bC,pG,arf];cases hL:L a with
   |nil=>
    simp only[kV,List.take_nil,bC];exact ih σ
   |cons b M=>
    simp only[VQ,an_,bC];cases hf:f σ b with
    |go τ=>simp only[kV];exact ih τ
    |stop τ=>simp only[kV];exact⟨rfl,λm h=>by cases h⟩
    |bad τ=>simp only[kV];exact⟨rfl,λm h=>by cases h⟩
  ·have hp:rT deep ((a::l).map L)=L a++rT deep (l.map L):=(by unfold rT;rw[if_neg h0,if_neg h1,if_neg h0,if_neg h1];rfl);rw[hp,qA];simp only[bC,pG];rw[ac3 h0 h1];cases hf:bC f (L a) σ with
   |go τ=>simp only[kV];exact ih τ
   |stop τ=>simp only[kV];exact⟨rfl,λm h=>by cases h⟩
   |bad τ=>simp only[kV];exact⟨rfl,λm h=>by cases h⟩
theorem MR{S α:Type}{F:S->α->dF S}:∀{l:List α}{s s':S},bC F l s=.stop s'->∃t a,F t a=.stop s'
 |[],s,s',h=>by cases h
 |a::l,s,s',h=>by
  simp only[bC]at h;cases hf:F s a with
  |go t=>rw[hf]at h;exact MR h
  |stop t=>rw[hf]at h;cases h;exact⟨s,a,hf⟩
  |bad t=>rw[hf]at h;cases h
theorem ard{S:Type}{f:S->List Int->dF S}{deep:Int}{L:List Int->List (List Int)}{m m':S×Lp}{a:List Int}(h:pG f deep L m a=.stop m'):m'.2=.ret:=by
 unfold pG at h;generalize bC (iV f deep) (L a) (m.1,.ready)=r at h;cases r with
 |go q=>cases h
 |bad q=>cases h
 |stop q=>
  obtain⟨s,lp⟩:=q;cases lp<;>cases h;rfl
theorem ari{S:Type}{f:S->List Int->dF S}{deep:Int}{m m':S×Lp}{a:List Int}(h:iV f deep m a=.stop m'):m'.2=.ret\/m'.2=.exit 3:=by
 unfold iV at h;cases hf:f m.1 a with
 |go q=>
  rw[hf]at h;dsimp only at h;by_cases h0:deep=0
  ·rw[if_pos h0]at h;cases h;exact .inl rfl
  ·rw[if_neg h0]at h;by_cases h1:deep=1
   ·rw[if_pos h1]at h;cases h;exact .inr rfl
   ·rw[if_neg h1]at h;cases h
 |stop q=>rw[hf]at h;cases h;exact .inl rfl
 |bad q=>rw[hf]at h;cases h
theorem arh{S:Type}{f:S->List Int->dF S}{deep:Int}{m m':S×Lp}{a:List Int}(h:iV f deep m a=.go m'):m'.2=.ready:=by
 unfold iV at h;cases hf:f m.1 a with
 |go q=>
  rw[hf]at h;dsimp only at h;by_cases h0:deep=0
  ·rw[if_pos h0]at h;cases h
  ·rw[if_neg h0]at h;by_cases h1:deep=1
   ·rw[if_pos h1]at h;cases h
   ·rw[if_neg h1]at h;cases h;rfl
 |stop q=>rw[hf]at h;cases h
 |bad q=>rw[hf]at h;cases h
theorem abM{S α:Type}{F:S->α->dF S}{J:S->Prop}{A:α->Prop}(hi:∀s a s',J s->A a->F s a=.go s'->J s'):∀{l:List α}{s s':S},(∀a∈l,A a)->J s->bC F l s=.stop s'->∃t a,J t/\A a/\F t a=.stop s'
 |[],s,s',_,_,h=>by cases h
 |a::l,s,s',ha,hs,h=>by
  simp only[bC]at h;cases hf:F s a with
  |go t=>rw[hf]at h;exact abM hi (λb hb=>ha b (by simp[hb])) (hi s a t hs (ha a (by simp)) hf) h
  |stop t=>rw[hf]at h;cases h;exact⟨s,a,hs,ha a (by simp),hf⟩
  |bad t=>rw[hf]at h;cases h
theorem De{S:Type}{f:S->List Int->dF S}{deep:Int}{I:S->Prop}{A:List Int->Prop}(hi:∀s a s',I s->A a->f s a=.go s'->I s'){m m':S×Lp}{a:List Int}(hm:I m.1)(ha:A a)(h:iV f deep m a=.go m'\/iV f deep m a=.stop m'/\m'.2≠ .ret):I m'.1:=by
 unfold iV at h;cases hf:f m.1 a with
 |go q=>
  have hq:=hi _ _ _ hm ha hf;rw[hf]at h;dsimp only at h;by_cases h0:deep=0
  ·rw[if_pos h0]at h;rcases h with h|⟨h,h2⟩
   ·cases h
   ·cases h;exact hq
  ·rw[if_neg h0]at h;by_cases h1:deep=1
   ·rw[if_pos h1]at h;rcases h with h|⟨h,h2⟩
    ·cases h
    ·cases h;exact hq
   ·rw[if_neg h1]at h;rcases h with h|⟨h,h2⟩
    ·cases h;exact hq
    ·cases h
 |stop q=>
  rw[hf]at h;rcases h with h|⟨h,h2⟩
  ·cases h
  ·cases h;exact absurd rfl h2
 |bad q=>
  rw[hf]at h;rcases h with h|⟨h,h2⟩
  ·cases h
  ·cases h
theorem aes{S:Type}{f:S->List Int->dF S}{deep:Int}{I:S->Prop}{A:List Int->Prop}(hi:∀s a s',I s->A a->f s a=.go s'->I s'){l:List (List Int)}{σ:S}{m:S×Lp}(hl:∀a∈l,A a)(hs:I σ)(h:kV (bC (iV f deep) l (σ,.ready))=.go m):I m.1/\m.2=.ready:=by
 cases hr:bC (iV f deep) l (σ,.ready)with
 |go q=>
  rw[hr]at h;cases h;exact⟨Ah (f:=iV f deep) (s':=q) (I:=λm:S×Lp=>I m.1) (A:=A) (λs a s' h1 h2 h3=>De hi h1 h2 (.inl h3)) l _ hl hs hr,rfl⟩
 |stop q=>
  obtain⟨t,a,h1,h2,h3⟩:=abM (J:=λm:S×Lp=>I m.1) (A:=A) (λs a s' h1 h2 h3=>De hi h1 h2 (.inl h3)) hl hs hr;rw[hr]at h;obtain⟨q1,q2⟩:=q;cases q2 with
  |ret=>cases h
  |ready=>cases h;exact⟨De (m':=(q1,.ready)) hi h1 h2 (.inr ⟨h3,by simp⟩),rfl⟩
  |exit i=>cases h;exact⟨De (m':=(q1,.exit i)) hi h1 h2 (.inr ⟨h3,by simp⟩),rfl⟩
  |busy=>cases h;exact⟨De (m':=(q1,.busy)) hi h1 h2 (.inr ⟨h3,by simp⟩),rfl⟩
 |bad q=>rw[hr]at h;cases h
end Go.Gg.Tk
namespace Go.Gg
open Go.Conc Go.Proofs Go.Gg.Tk
namespace Tk
def nh (l:List Nat)(i:Nat):List Nat:=l.take i++TL (3-i) 0
theorem afx{l:List Nat}{i q:Nat}(h:l[i]?=some q)(hl:l.length<=3):(nh l i).set i q=nh l (i+1):=by
 have hi:=eX h;unfold nh;rw[UO _ _ (by simp;omega),show i-(l.take i).length=0 by simp;omega,show 3-i=(3-(i+1))+1 by omega,Wv,TY,Wy,h];simp
theorem Ou{l:List Nat}{i:Nat}(hi:i<=l.length)(hl:l.length<=3):(nh l i).length=3:=by simp[nh];omega
theorem afw{l:List Nat}:nh l l.length=l++TL (3-l.length) 0:=by simp[nh]
theorem aa7:∀{qs:List Nat}{u:Nat}{t ns:List Nat},ns∈kN qs u t->ns.length=t.length+qs.length
 |[],u,t,ns,h=>by
  simp only[kN,Tb]at h;subst h;rfl
 |q::qs,u,t,ns,h=>by
  simp only[kN,S6]at h;obtain⟨n,_,h⟩:=h;split at h
  ·cases h
  ·have:=aa7 h;simp at this⊢;omega
theorem Ma{x:aj}{h:List Int}{ns:List Nat}(hm:ns∈f_ x h):ns.length=x.pieces.length:=by
 have:=aa7 hm;simpa using this
def Gr (k:Nat)(a:List Int):List Nat:=((a.drop 4).take k).map X_
theorem am9{h:List Int}{ns:List Nat}(h4:h.length=4):Gr ns.length (dW h ns)=ns:=by
 unfold Gr dW kQ;rw[SD,Vv,TO (by omega),h4,Uw,U6,XA,SD,Tw (by simp),SY (by simp),X2]
 conv=>rhs;rw[<- List.map_id ns]
 exact VA λn _=>by simp
def uK (x:aj)(h:List Int)(a:List Int):List (List Int):=(iy x h (Gr x.pieces.length a)).map (di h (Gr x.pieces.length a))
theorem Lm{x:aj}{h:List Int}{ns:List Nat}(h4:h.length=4)(hn:ns.length=x.pieces.length):uK x h (dW h ns)=(iy x h ns).map (di h ns):=by
 unfold uK;rw[<- hn,am9 h4]
theorem arn{x:aj}{h:List Int}{deep:Int}(h4:h.length=4):jo x deep h=rT deep (((f_ x h).map (dW h)).map (uK x h)):=by
 rw[X2];have:(f_ x h).map (uK x h∘dW h)=(f_ x h).map λns=>(iy x h ns).map λos=>di h ns os:=VA λns hm=>Lm h4 (Ma hm);rw[this];rfl
end Tk
section
variable {lv:Bool}
theorem I0{H:List aa}{k kp:AV->List aa->Prop}{x:aj}{h:List Int}{deep:Int}(hk:k (.fn (.func 91) [] [.op H.length 0,.op (H.length+1) 0,.op (H.length+2) 0]) (H++[.cells x.l 76,.cells (h.map iv) 83,.cells [iv deep] 3])):bc lv SC 66 H [x.av,.agg (h.map iv),iv deep] k kp:=by
 refine bH (rs:=[.tmp 6]) (nt:=8) Tryz.f66 λhH hA=> ?_;simp only[br,SX,aj.av];refine ai ?_;refine ak ?_;simp only[seval,Ue,UF,Uf,TS];refine aZ ?_;exact cm hk
theorem I3{x:aj}{h:List Int}{deep:Int}{N ir ih id:Nat}{yv pv:AV}{S:Type}{f:S->List Int->dF S}{Gf:S->List aa}{I:S->Prop}{A:List Int->Prop}{σ:S}{k kp:AV->List aa->Prop}(hx:x.Ok)(hh:mD h)(hY:jP lv SC yv f Gf N I A pv)(hr:∀σ L,(Gf σ++L)[ir]?=some (.cells x.l 76))(hi:∀σ L,(Gf σ++L)[ih]?=some (.cells (h.map iv) 83))(hd:∀σ L,(Gf σ++L)[id]?=some (.cells [iv deep] 3))
  (nL:∀n,Lt n pv) (hI:I σ) (pZ:∀a,A a->a.length=11) (hA:∀ns∈f_ x h,∀a∈(iy x h ns).map (di h ns),A a) (hk:gg Gf pv k kp [] (bC f (jo x deep h) σ)):bc lv SC 91 (Gf σ) [yv,.op ir 0,.op ih 0,.op id 0] k kp:=by
 refine PS (rs:=[]) (nt:=44) F.f91 rfl rfl rfl (by simp) λhH uj=> ?_;simp only[br,SX];have hN:=hY.len σ;have xP:=hx.fi;have bO:x.l=[iv x.first,iv x.hours,iv x.an,ek x.seen,bi x.pieces,bi x.aB]:=rfl;have nw:(h.map iv).length=4:=by rw[To,hh.len]
 refine ng ?_;refine ak ?_;simp only[seval,hY.parts];refine afi ?_;refine ng ?_;refine ai ?_;refine Ib ?_;refine ng ?_;refine ak ?_;simp only[seval,hr,bO,bi];refine Ia ?_;refine cJ ?_;refine gP x.aB.length (λi:Nat=>[(14,iv i)]) (λi=>Gf σ++[.cells [yv] 132,.cells ((nh (x.aB.map (b_ h)) i).map λn=>wv n) 81]) (λi=>True) (λ_ _=>rfl) (by simp only[seval];simp[bA,Wk.refl]) rfl (λ_ _ _=>by simp) trivial (λcp dz i cW _ R hR=> ?_);refine ai ?_;refine aD ?_;refine⟨λhc=> ?_,λhc=> ?_⟩
 ·have bG:i<x.aB.length:=by omega
  obtain⟨y,hy⟩:=cz bG;have uH:(x.aB.map (b_ h))[i]?=some (b_ h y):=by rw[Tj,hy];rfl
  have b3:(0<=(i:Int)/\(i:Int)<3)=True:=by simp;omega
  have bZ:SF.wrap ((i:Int)+1)=((i+1:Nat):Int):=by rw[bI _ (by omega)];rfl
  have bX:(nh (x.aB.map (b_ h)) i).length=3:=Ou (by simp;omega) (by simpa using xP);have vU:((nh (x.aB.map (b_ h)) i).map λn=>wv n).length=3:=by rw[To,bX]
  refine aN ?_;refine ak ?_;simp only[seval,G5 hy,jR bG];refine ak ?_;simp only[seval,hi,nw];rw[SY (i:=4) (l:=h.map iv) (by rw[nw];exact SU _)];refine aK ((Ep (h:=h) (y:=y) hh ?_));(try simp only[seval,b3,vU]);refine⟨by omega,?_⟩;rw[MX (g:=λn=>wv n) (show i<(nh (x.aB.map (b_ h)) i).length by omega),afx uH (by simpa using xP)];refine ak ?_;simp only[seval,bZ];exact hR _ ⟨bG,trivial,Ag (qv rfl rfl) (by simp only[seval];simp[bA,Wk.refl]) (RD (L:=[_]) cp (abe _ _)) (by simp[eG])⟩
 have:i=x.aB.length:=by omega
 subst this;clear hc cW;refine bU ?_;have zE:∃r,nh (x.aB.map (b_ h)) x.aB.length=x.aB.map (b_ h)++r:=⟨_,by
  have:=afw (l:=x.aB.map (b_ h));simpa using this⟩
 have xN:(nh (x.aB.map (b_ h)) x.aB.length).length=3:=Ou (by simp) (by simpa using xP);have KN:((nh (x.aB.map (b_ h)) x.aB.length).map λn=>wv n).length=3:=by rw[To,xN]
 generalize nh (x.aB.map (b_ h)) x.aB.length=qs at zE xN KN;refine ng ?_;(repeat apply gQ);refine Od ?_;simp only[seval];refine ng ?_;refine ak ?_;simp only[seval,hr,bO,hi,nw];rw[SY (i:=4) (l:=h.map iv) (by rw[nw];exact SU _)];refine aK ((aia (x:=x) (h:=h) ?_));(try simp only[seval]);refine aff ?_;refine afh (by rfl) λl fn T ag bo hT xq p8=> ?_;(try simp only[seval]);rw[hN]at hT⊢;have h4:=hh.len;have ajg:jP lv SC (.fn (.yield l) [] []) (pG f deep (uK x h)) (λm:S×Lp=>Gf m.1++[.cells [yv] 132,.cells (qs.map λn=>wv n) 81,.cells x.l 76,.cells (h.map iv) 83,.obj (.deferred (some [])),.loop l m.2.st m.2.pe fn T 44 #[28] ag bo (N+4)]) (N+6) (λm=>I m.1/\m.2=.ready) (λa=>∃ns∈f_ x h,a=dW h ns) pv:=by
  have g3:∀(σ:S)(L:List aa),(Gf σ++L)[N+1]?=L[1]?:=λσ L=>hY.get σ L 1;have g5:∀(σ:S)(L:List aa),(Gf σ++L)[N+5]?=L[5]?:=λσ L=>hY.get σ L 5;have s5:∀(σ:S)(L:List aa) y,(Gf σ++L).set (N+5) y=Gf σ++L.set 5 y:=λσ L y=>hY.set σ L 5 y;refine⟨λm a M k kp hm ha dH=> ?_,λm a m' hm ha he=> ?_,λm=>by simp[hY.len],λq m m' hz z fh=> ?_,rfl,rfl,rfl⟩
  ·obtain⟨σ,lp⟩:=m;obtain⟨Ju,gW⟩:=hm;replace Ju:I σ:=Ju;replace gW:lp=.ready:=gW;subst gW;obtain⟨ns,jf,rfl⟩:=ha;have jX:=Ma jf;have qq:(dW h ns).length=11:=(by simp[dW,h4,Ad (k:=4) (l:=ns) (by have:=hx.cT;omega)]);have zL:((dW h ns).map iv).length=11:=(by rw[To,qq]);obtain⟨Lo,ld⟩:∃Lo,Lo=aa.loop l .busy none fn T 44 #[28] ag bo (N+4):=⟨_,rfl⟩;obtain⟨P1,dA⟩:∃P1:S->List aa,∀σ,P1 σ=Gf σ++([.cells [yv] 132,.cells (qs.map λn=>wv n) 81,.cells x.l 76,.cells (h.map iv) 83,.obj (.deferred (some [])),Lo]++M):=⟨_,λ_=>rfl⟩;have eE:∀σ,(P1 σ).length=N+6+M.length:=λσ=>(by rw[dA];simp[hY.len];omega);have pg:∀(σ:S)(L:List aa)(i:Nat),i<6->(P1 σ++L)[N+i]?=[aa.cells [yv] 132,.cells (qs.map λn=>wv n) 81,.cells x.l 76,.cells (h.map iv) 83,.obj (.deferred (some [])),Lo][i]?:=λσ L i Kh=>by
    rw[dA,SD,hY.get,SD,SW (by simpa using Kh)]
   have pr:∀(σ:S)(L:List aa),(P1 σ++L)[ir]?=some (.cells x.l 76):=λσ L=>(by rw[dA,SD];exact hr σ _);have pd:∀(σ:S)(L:List aa),(P1 σ++L)[id]?=some (.cells [iv deep] 3):=λσ L=>(by rw[dA,SD];exact hd σ _);have pb:∀(σ:S)(L:List aa)(i:Nat),(P1 σ++L)[N+6+M.length+i]?=L[i]?:=λσ L i=>(by rw[<- eE σ,aW]);have wz:∀(σ:S)(L:List aa),(P1 σ++L)[N+6+M.length]?=L[0]?:=λσ L=>pb σ L 0;have pg1:∀(σ:S)(L:List aa),(P1 σ++L)[N+1]?=some (.cells (qs.map λn=>wv n) 81):=λσ L=>pg σ L 1 (by omega);have pg0:∀(σ:S)(L:List aa),(P1 σ++L)[N]?=some (.cells [yv] 132):=λσ L=>pg σ L 0 (by omega);have QO:∀(τ:S)(lp:Lp),bQ (Gf σ++(([aa.cells [yv] 132,.cells (qs.map λn=>wv n) 81,.cells x.l 76,.cells (h.map iv) 83,.obj (.deferred (some [])),.loop l .ready none fn T 44 #[28] ag bo (N+4)]:List aa)++M))->bQ (Gf τ++(([aa.cells [yv] 132,.cells (qs.map λn=>wv n) 81,.cells x.l 76,.cells (h.map iv) 83,.obj (.deferred (some [])),.loop l lp.st lp.pe fn T 44 #[28] ag bo (N+4)]:List aa)++M)):=λτ lp im z hz=>by
    have hlen:(Gf τ++(([aa.cells [yv] 132,.cells (qs.map λn=>wv n) 81,.cells x.l 76,.cells (h.map iv) 83,.obj (.deferred (some [])),.loop l lp.st lp.pe fn T 44 #[28] ag bo (N+4)]:List aa)++M)).length=(Gf σ++(([aa.cells [yv] 132,.cells (qs.map λn=>wv n) 81,.cells x.l 76,.cells (h.map iv) 83,.obj (.deferred (some [])),.loop l .ready none fn T 44 #[28] ag bo (N+4)]:List aa)++M)).length:=(by simp[hY.len]);have hl:=im (.loop l .ready none fn T 44 #[28] ag bo (N+4)) (by simp);rw[hlen];rcases SV.1 hz with h'|h'
    ·exact hY.ok _ σ τ (λw hw=>im w (Th _ hw)) z h'
    ·rcases SV.1 h' with h'|h'
     ·simp only[SL,S4,or_false]at h';rcases h' with rfl|rfl|rfl|rfl|rfl|rfl
      ·exact im _ (by simp)
      ·exact im _ (by simp)
      ·exact im _ (by simp)
      ·exact im _ (by simp)
      ·exact im _ (by simp)
      ·exact hl
     ·exact im z (S5 _ (S5 _ h'))
   have I6:bQ (Gf σ++(([aa.cells [yv] 132,.cells (qs.map λn=>wv n) 81,.cells x.l 76,.cells (h.map iv) 83,.obj (.deferred (some [])),.loop l .ready none fn T 44 #[28] ag bo (N+4)]:List aa)++M))->∀(τ:S)(lp:Lp)(b':Bool)(TT:List (Nat×AV))(L:List aa),k (bv b') ((Gf τ++[.cells [yv] 132,.cells (qs.map λn=>wv n) 81,.cells x.l 76,.cells (h.map iv) 83,.obj (.deferred (some [])),.loop l lp.st lp.pe fn T 44 #[28] ag bo (N+4)])++M)->oQ (N+5) (N+6+M.length) k lp.st lp.pe b' ⟨TT,P1 τ++L⟩:=λim τ lp b' TT L dH=>by
    refine⟨l,.busy,none,fn,T,44,#[28],ag,bo,N+4,by show (P1 τ++L)[_]?=_;rw[pg τ _ 5 (by omega),ld];rfl,?_⟩;show cw (N+6+M.length) ((P1 τ++L).set _ _) _ k;rw[dA,SD,s5];rw[SD]at dH;exact jU (G:=L) (Wk.refl _) (by simp) (by simp[hY.len];omega) (QO τ lp im) (.val _) dH
   have aiq:bQ (Gf σ++(([aa.cells [yv] 132,.cells (qs.map λn=>wv n) 81,.cells x.l 76,.cells (h.map iv) 83,.obj (.deferred (some [])),.loop l .ready none fn T 44 #[28] ag bo (N+4)]:List aa)++M))->∀(τ:S)(L:List aa),kp pv ((Gf τ++[.cells [yv] 132,.cells (qs.map λn=>wv n) 81,.cells x.l 76,.cells (h.map iv) 83,.obj (.deferred (some [])),.loop l Lp.busy.st Lp.busy.pe fn T 44 #[28] ag bo (N+4)])++M)->cw (N+6+M.length) (P1 τ++L) pv kp:=λim τ L dH=>by
    rw[SD]at dH;rw[dA,ld];exact jU (G:=L) (Wk.refl _) rfl (by simp[hY.len];omega) (QO τ .busy im) (nL _) dH
   subst hT xq p8;rw[SD];refine vC (id:=N+5) (by rw[g5];rfl) rfl (by kernel_rfl) λoo Jp=> ?_;simp only[sf];have vX:UD 11 [iv 0,iv 0,iv 0,iv 0,iv 0,iv 0,iv 0,iv 0,iv 0,iv 0,iv 0]=[]:=rfl;refine ak ?_;simp only[seval,qq,vX];unfold tT;refine⟨none,fn,_,44,#[28],_,_,_,by rw[g5];rfl,?_⟩;dsimp only;rw[s5];simp only[UC,TY];rw[<- ld];have xk:(Gf σ).length+(M.length+1+1+1+1+1+1)=N+6+M.length:=(by rw[hY.len];omega);rw[xk];have xB:∀z:aa,Gf σ++aa.cells [yv] 132::aa.cells (U2 (λn=>wv n) qs) 81::aa.cells x.l 76::aa.cells (U2 iv h) 83::aa.obj (atI (some []))::Lo::(M++[z])=P1 σ++[z]:=λz=>(by rw[dA];simp);rw[xB];refine ak ?_;simp only[seval,pr,bO,wz,pg1,zL,qq,KN,xN];rw[SY (i:=11) (l:=(dW h ns).map iv) (by rw[zL];exact SU _),SY (i:=3) (l:=qs.map λn=>wv n) (by rw[KN];exact SU _)];refine aK ((aib (x:=x) (tc:=dW h ns) (qs:=qs) ?_));(try simp only[seval]);refine cJ ?_;have qe:∀(σ:S)(a b c d:aa),(P1 σ++[a,b,c,d]).length=N+6+M.length+4:=λσ a b c d=>(by simp[eE]);refine D6 (N+5) (by rfl) (by show (P1 σ++_)[N+5]?=_;rw[pg σ _ 5 (by omega),ld];rfl) λl2 eW T2 gE gF oq xr xv=> ?_;simp only[seval];rw[eE]at oq⊢;have zZ:∀(σ τ:S)(L L':List aa),L'.length=L.length->(∀q,(∀z∈L,fj q z)->∀z∈L',fj q z)->bQ (P1 σ++L)->bQ (P1 τ++L'):=λσ τ L L' hl hL hH z hz=>by
    have hlen:(P1 τ++L').length=(P1 σ++L).length:=(by simp[eE,hl]);rw[hlen];rcases SV.1 hz with h'|h'
    ·rw[dA]at h';rcases SV.1 h' with h'|h'
     ·exact hY.ok _ σ τ (λw hw=>hH w (Th _ (by rw[dA];exact Th _ hw))) z h'
     ·exact hH z (Th _ (by rw[dA];exact S5 _ h'))
    ·exact hL _ (λw hw=>hH w (S5 _ hw)) z h'
   have xp:∀tc:List Int,jP lv SC (.fn (.yield l2) [] []) (iV f deep) (λm:S×Lp=>P1 m.1++[.cells ((dW h ns).map iv) 86,.cells x.l 76,.cells (tc.map iv) 86,.cells (qs.map λn=>wv n) 81,.loop l2 m.2.st m.2.pe eW T2 44 #[33] gE gF (N+4)]) (N+6+M.length+5) (λm=>I m.1/\m.2=.ready) A pv:=λtc=>by
    refine⟨λm b M2 k2 xZ hm hb lj=> ?_,λm b m' hm hb he=> ?_,λm=>by simp[eE],λq m m' hz z fh=> ?_,rfl,rfl,rfl⟩
    ·obtain⟨σ',lp⟩:=m;obtain⟨Jv,gW⟩:=hm;replace Jv:I σ':=Jv;replace gW:lp=.ready:=gW;subst gW;have bX:b.length=11:=pZ b hb;have vU:(b.map iv).length=11:=(by rw[To,bX]);obtain⟨pK,sM⟩:∃Lo,Lo=aa.loop l2 .busy none eW T2 44 #[33] gE gF (N+4):=⟨_,rfl⟩;obtain⟨Q1,gp⟩:∃Q1:S->List aa,∀σ,Q1 σ=P1 σ++([.cells ((dW h ns).map iv) 86,.cells x.l 76,.cells (tc.map iv) 86,.cells (qs.map λn=>wv n) 81,pK]++M2):=⟨_,λ_=>rfl⟩;obtain⟨C,hC⟩:∃C,C=N+6+M.length+5+M2.length:=⟨_,rfl⟩;have JB:∀σ,(Q1 σ).length=C:=λσ=>(by rw[gp,hC];simp[eE];omega);have lZ:∀(σ:S)(L:List aa),(P1 σ++L)[N+6+M.length+4]?=L[4]?:=λσ L=>pb σ L 4;have pF:∀(σ:S)(L:List aa)(y:aa),(P1 σ++L).set (N+6+M.length+4) y=P1 σ++L.set 4 y:=λσ L y=>(by rw[<- eE σ,ez]);have qN:∀(σ:S)(L:List aa),(Q1 σ++L)[N]?=some (.cells [yv] 132):=λσ L=>(by rw[gp,SD];exact pg0 σ _);have qd:∀(σ:S)(L:List aa),(Q1 σ++L)[id]?=some (.cells [iv deep] 3):=λσ L=>(by rw[gp,SD];exact pd σ _);have q4:∀(σ:S)(L:List aa),(Q1 σ++L)[N+6+M.length+4]?=some pK:=λσ L=>(by rw[gp,SD,lZ];rfl);have qc:∀(σ:S)(L:List aa),(Q1 σ++L)[C]?=L[0]?:=λσ L=>(by rw[<- JB σ];exact aW _ L 0);have MK:∀(σ:S)(L:List aa)(y:aa),(Q1 σ++L).set (N+6+M.length+4) y=(P1 σ++([.cells ((dW h ns).map iv) 86,.cells x.l 76,.cells (tc.map iv) 86,.cells (qs.map λn=>wv n) 81,y]++M2))++L:=λσ L y=>(by rw[gp,SD,pF];simp);obtain⟨Mz,EJ⟩:∃Mz:List aa,∀σ,Q1 σ++[.cells (b.map iv) 86]=Gf σ++Mz:=⟨_,λσ=>by rw[gp,dA,SD,SD]⟩;have eK:∀(τ:S)(lp:Lp),bQ (P1 σ'++([.cells ((dW h ns).map iv) 86,.cells x.l 76,.cells (tc.map iv) 86,.cells (qs.map λn=>wv n) 81,.loop l2 .ready none eW T2 44 #[33] gE gF (N+4)]++M2))->bQ (P1 τ++([.cells ((dW h ns).map iv) 86,.cells x.l 76,.cells (tc.map iv) 86,.cells (qs.map λn=>wv n) 81,.loop l2 lp.st lp.pe eW T2 44 #[33] gE gF (N+4)]++M2)):=λτ lp im=>zZ σ' τ _ _ (by simp) (λq hz z fh=>by
      have hl:=hz (.loop l2 .ready none eW T2 44 #[33] gE gF (N+4)) (by simp);rcases SV.1 fh with h'|h'
      ·simp only[SL,S4,or_false]at h';rcases h' with rfl|rfl|rfl|rfl|rfl
       ·exact hz _ (by simp)
       ·exact hz _ (by simp)
       ·exact hz _ (by simp)
       ·exact hz _ (by simp)
       ·exact hl
      ·exact hz _ (S5 _ h')) im
     have gA:c_ (λm:S×Lp=>P1 m.1++[.cells ((dW h ns).map iv) 86,.cells x.l 76,.cells (tc.map iv) 86,.cells (qs.map λn=>wv n) 81,.loop l2 m.2.st m.2.pe eW T2 44 #[33] gE gF (N+4)]) pv k2 xZ M2 (iV f deep (σ',.ready) b):=lj;have J4:∀z:aa,P1 σ'++(aa.cells (U2 iv (dW h ns)) 86::aa.cells x.l 76::aa.cells (U2 iv tc) 86::aa.cells (U2 (λn=>wv n) qs) 81::pK::(M2++[z]))=Q1 σ'++[z]:=λz=>(by rw[gp];simp);have Eu:bQ (P1 σ'++([.cells ((dW h ns).map iv) 86,.cells x.l 76,.cells (tc.map iv) 86,.cells (qs.map λn=>wv n) 81,.loop l2 .ready none eW T2 44 #[33] gE gF (N+4)]++M2))->∀(τ:S)(lp:Lp)(b':Bool)(TT:List (Nat×AV)),k2 (bv b') ((P1 τ++[.cells ((dW h ns).map iv) 86,.cells x.l 76,.cells (tc.map iv) 86,.cells (qs.map λn=>wv n) 81,.loop l2 lp.st lp.pe eW T2 44 #[33] gE gF (N+4)])++M2)->oQ (N+6+M.length+4) C k2 lp.st lp.pe b' ⟨TT,Gf τ++Mz⟩:=λim τ lp b' TT dH=>by
      refine⟨l2,.busy,none,eW,T2,44,#[33],gE,gF,N+4,by show (Gf τ++Mz)[_]?=_;rw[<- EJ,q4,sM],?_⟩;show cw C ((Gf τ++Mz).set _ _) _ k2;rw[<- EJ,MK];rw[SD]at dH;exact jU (G:=[.cells (b.map iv) 86]) (Wk.refl _) rfl (by rw[hC];simp[eE];omega) (eK τ lp im) (.val _) dH
     have aip:bQ (P1 σ'++([.cells ((dW h ns).map iv) 86,.cells x.l 76,.cells (tc.map iv) 86,.cells (qs.map λn=>wv n) 81,.loop l2 .ready none eW T2 44 #[33] gE gF (N+4)]++M2))->∀τ:S,xZ pv ((P1 τ++[.cells ((dW h ns).map iv) 86,.cells x.l 76,.cells (tc.map iv) 86,.cells (qs.map λn=>wv n) 81,.loop l2 Lp.busy.st Lp.busy.pe eW T2 44 #[33] gE gF (N+4)])++M2)->cw C (Gf τ++Mz) pv xZ:=λim τ dH=>by
      rw[<- EJ,gp,sM];rw[SD]at dH;exact jU (G:=[.cells (b.map iv) 86]) (Wk.refl _) rfl (by rw[hC];simp[eE];omega) (eK τ .busy im) (nL _) dH
     subst oq xr xv;rw[SD];refine vC (id:=N+6+M.length+4) (by rw[lZ];rfl) rfl (by kernel_rfl) λrh Jq=> ?_;simp only[sf];refine ak ?_;simp only[seval,bX,vX];unfold tT;refine⟨none,eW,_,44,#[33],_,_,_,by rw[lZ];rfl,?_⟩;dsimp only;rw[pF];simp only[UC,TY];rw[<- sM];have Bx:(P1 σ').length+(M2.length+1+1+1+1+1)=C:=(by rw[eE,hC];omega);rw[Bx,J4];refine ak ?_;simp only[seval,qN,qc,bX,vU];rw[SY (i:=11) (l:=b.map iv) (by rw[vU];exact SU _),EJ];refine w7 (hY.call σ' b Mz _ _ Jv hb ?_);unfold iV at gA;rw[show f (σ',Lp.ready).1 b=f σ' b from rfl]at gA;cases hf:f σ' b with
     |go τ=>
      rw[hf]at gA;dsimp only at gA;simp only[c_];(try simp only[seval,hd]);refine aD ?_;refine⟨λh0=> ?_,λh0=> ?_⟩
      ·replace h0:deep=0:=(by simpa using h0);rw[if_pos h0]at gA;simp only[c_]at gA;refine aZ ?_;exact Eu rh τ .ret false _ gA
      ·replace h0:¬deep=0:=(by simpa using h0);rw[if_neg h0]at gA;refine aN ?_;refine ak ?_;simp only[seval,hd];refine aD ?_;refine⟨λh1=> ?_,λh1=> ?_⟩
       ·replace h1:deep=1:=(by simpa using h1);rw[if_pos h1]at gA;simp only[c_]at gA;refine bU ?_;exact Eu rh τ (.exit 3) false _ gA
       ·replace h1:¬deep=1:=(by simpa using h1);rw[if_neg h1]at gA;simp only[c_]at gA;refine aN ?_;exact Eu rh τ .ready true _ gA
     |stop τ=>
      rw[hf]at gA;dsimp only at gA;simp only[c_]at gA⊢;(try simp only[seval]);refine aD ?_;refine aZ ?_;exact Eu rh τ .ret false _ gA
     |bad τ=>
      rw[hf]at gA;dsimp only at gA;simp only[c_]at gA⊢;exact aip rh τ gA
    ·obtain⟨σ',lp⟩:=m;obtain⟨τ,CN⟩:=m';unfold iV at he;have hi:=(hY.inv σ' b τ hm.1 hb);cases hf:f σ' b with
     |go τ'=>
      rw[show f (σ',lp).1 b=f σ' b from rfl,hf]at he;dsimp only at he;by_cases h0:deep=0
      ·rw[if_pos h0]at he;cases he
      ·rw[if_neg h0]at he;by_cases h1:deep=1
       ·rw[if_pos h1]at he;cases he
       ·rw[if_neg h1]at he;cases he;exact⟨hi hf,rfl⟩
     |stop τ'=>rw[show f (σ',lp).1 b=f σ' b from rfl,hf]at he;cases he
     |bad τ'=>rw[show f (σ',lp).1 b=f σ' b from rfl,hf]at he;cases he
    ·rcases SV.1 fh with h'|h'
     ·rw[dA]at h';rcases SV.1 h' with h'|h'
      ·exact hY.ok q m.1 m'.1 (λw hw=>hz w (Th _ (by rw[dA];exact Th _ hw))) z h'
      ·exact hz z (Th _ (by rw[dA];exact S5 _ h'))
     ·have hl:=hz _ (S5 _ (Tf (i:=4) rfl));simp only[SL,S4,or_false]at h';rcases h' with rfl|rfl|rfl|rfl|rfl
      ·exact hz _ (S5 _ (by simp))
      ·exact hz _ (S5 _ (by simp))
      ·exact hz _ (S5 _ (by simp))
      ·exact hz _ (S5 _ (by simp))
      ·exact hl
   have e1:pG f deep (uK x h) (σ,.ready) (dW h ns)=kV (bC (iV f deep) ((iy x h ns).map (di h ns)) (σ,.ready)):=(by unfold pG;rw[Lm h4 jX]);rw[e1]at dH;refine cO (ahm (x:=x) (h:=h) (ns:=ns) (qs:=qs) (N:=N+6+M.length+5) (ir:=N+6+M.length+1) (it:=N+6+M.length+2) (is:=N+6+M.length+3) (tc:=dW h ns) (σ:=(σ,Lp.ready)) hx h4 jX xp (λtc m L=> ?_) (λtc m L=> ?_) (λtc eA m L=> ?_) (λtc m L=> ?_) zE xN (λq tc eA m hz z fh=> ?_) nL rfl ⟨Ju,rfl⟩ (hA ns jf) (λeA as9=> ?_))
   ·rw[SD];exact pb _ _ 1
   ·rw[SD];exact pb _ _ 2
   ·rw[SD,<- eE m.1,ez,SD];rfl
   ·rw[SD];exact pb _ _ 3
   ·rcases SV.1 fh with h'|h'
    ·exact hz z (Th _ h')
    ·simp only[SL,S4,or_false]at h';rcases h' with rfl|rfl|rfl|rfl|rfl
     ·exact hz _ (by simp)
     ·exact hz _ (by simp)
     ·exact anq _ _ _
     ·exact hz _ (by simp)
     ·exact hz _ (by simp)
   have lZ:∀(σ:S)(L:List aa),(P1 σ++L)[N+6+M.length+4]?=L[4]?:=λσ L=>pb σ L 4;have pF:∀(σ:S)(L:List aa)(y:aa),(P1 σ++L).set (N+6+M.length+4) y=P1 σ++L.set 4 y:=λσ L y=>(by rw[<- eE σ,ez]);cases cW:bC (iV f deep) ((iy x h ns).map (di h ns)) (σ,.ready)with
   |go m=>
    obtain⟨τ,lp⟩:=m;have gW:lp=.ready:=Ah (I:=λm:S×Lp=>m.2=.ready) (A:=λ_=>True) (λs a s' _ _ e=>arh e) _ _ _ (λ_ _=>trivial) rfl cW;subst gW;rw[cW]at dH;simp only[kV,c_]at dH;simp only[gg,SZ];refine⟨.ready,none,_,_,_,_,_,_,_,by rw[lZ];rfl,by decide,?_⟩;rw[pF,GN];(try simp only[seval]);exact I6 oo τ .ready true _ _ dH
   |stop m=>
    obtain⟨τ,lp⟩:=m;have gW:lp=.ret\/lp=.exit 3:=by
     obtain⟨_,_,q⟩:=MR cW;exact ari q
    rw[cW]at dH;rcases gW with rfl|rfl
    ·simp only[kV,c_]at dH;simp only[gg,SZ];refine⟨.done,some .ret,_,_,_,_,_,_,_,by rw[lZ];rfl,by decide,?_⟩;rw[pF,an4];(try simp only[seval]);exact I6 oo τ .ret false _ _ dH
    ·simp only[kV,c_]at dH;simp only[gg,SZ];refine⟨.done,some (.exit 3),_,_,_,_,_,_,_,by rw[lZ];rfl,by decide,?_⟩;rw[pF,an3];(try simp only[seval]);exact I6 oo τ .ready true _ _ dH
   |bad m=>
    obtain⟨τ,lp⟩:=m;rw[cW]at dH;simp only[kV,c_]at dH;simp only[gg,SZ];exact aiq oo τ _ dH
  ·obtain⟨σ',lp⟩:=m;obtain⟨τ,CN⟩:=m';obtain⟨ns,jf,rfl⟩:=ha;have e1:pG f deep (uK x h) (σ',lp) (dW h ns)=kV (bC (iV f deep) ((iy x h ns).map (di h ns)) (σ',.ready)):=(by unfold pG;rw[Lm h4 (Ma jf)]);rw[e1]at he;exact aes hY.inv (hA ns jf) hm.1 he
  ·rcases SV.1 fh with h'|h'
   ·exact hY.ok q m.1 m'.1 (λw hw=>hz w (Th _ hw)) z h'
   ·have hl:=hz _ (S5 _ (Tf (i:=5) rfl));simp only[SL,S4,or_false]at h';rcases h' with rfl|rfl|rfl|rfl|rfl|rfl
    ·exact hz _ (S5 _ (by simp))
    ·exact hz _ (S5 _ (by simp))
    ·exact hz _ (S5 _ (by simp))
    ·exact hz _ (S5 _ (by simp))
    ·exact hz _ (S5 _ (by simp))
    ·exact hl
 obtain⟨eo,uC⟩:=ac4 (f:=f) (deep:=deep) (L:=uK x h) ((f_ x h).map (dW h)) σ;rw[<- arn h4]at eo;have g4:∀(σ:S)(L:List aa),(Gf σ++L)[N+4]?=L[4]?:=λσ L=>hY.get σ L 4;have g5:∀(σ:S)(L:List aa),(Gf σ++L)[N+4+1]?=L[5]?:=λσ L=>hY.get σ L 5;have s4:∀(σ:S)(L:List aa) y,(Gf σ++L).set (N+4) y=Gf σ++L.set 4 y:=λσ L y=>hY.set σ L 4 y;have s5:∀(σ:S)(L:List aa) y,(Gf σ++L).set (N+4+1) y=Gf σ++L.set 5 y:=λσ L y=>hY.set σ L 5 y;have rQ:∀n,Lt n (.aJ []):=λn=>by simp[iE]
 refine cO (ahk (x:=x) (h:=h) (N:=N+6) (ir:=N+2) (ih:=N+3) (σ:=(σ,Lp.ready)) hx hh ajg (λm L=> ?_) (λm L=> ?_) nL ⟨hI,rfl⟩ (λa ha=> ?_) ?_)
 ·rw[SD,hY.get m.1 _ 2];rfl
 ·rw[SD,hY.get m.1 _ 3];rfl
 ·obtain⟨ns,h1,rfl⟩:=Tn.1 ha;exact⟨ns,h1,rfl⟩
 cases bL:bC (pG f deep (uK x h)) ((f_ x h).map (dW h)) (σ,.ready)with
 |go m=>
  obtain⟨σ',lp⟩:=m;have gW:lp=.ready:=uC _ bL;subst gW;rw[bL]at eo;have aE:=MN (r':=.go σ') eo.symm hk;simp only[gg,SZ]at aE⊢;refine⟨.ready,none,_,_,_,_,_,_,_,by rw[g5];rfl,by decide,?_⟩;rw[s5];simp only[UC,TY];rw[GM];(try simp only[seval]);rw[y9 (by rw[g4];rfl),y_,s4];(try simp only[seval]);rw[<- hN];exact uV hY hH rQ aE
 |stop m=>
  obtain⟨σ',lp⟩:=m;have gW:lp=.ret:=by
   obtain⟨_,_,q⟩:=MR bL;exact ard q
  subst gW;rw[bL]at eo;have aE:=MN (r':=.stop σ') eo.symm hk;simp only[gg,SZ]at aE⊢;refine⟨.done,some .ret,_,_,_,_,_,_,_,by rw[g5];rfl,by decide,?_⟩;rw[s5];simp only[UC,TY];rw[an2];(try simp only[seval]);rw[y9 (by rw[g4];rfl),y_,s4];(try simp only[seval]);rw[<- hN];exact uV hY hH rQ aE
 |bad m=>
  obtain⟨σ',lp⟩:=m;rw[bL]at eo;have aE:=MN (r':=.bad σ') eo.symm hk;simp only[gg,SZ]at aE⊢;rw[y9 (by rw[g4];rfl),y_,s4];rw[ww,<- hN];exact uV hY hH nL aE
end
open Go.Conc Go.Proofs Go.Gg.Tk
namespace Tk
def mL (x y:Int):Int:=if x<y then -1 else if y<x then 1 else 0
def og:List Int->List Int->Int
 |a::l,b::m=>if mL a b≠0 then mL a b else og l m
 |[],[]=>0
 |[],_::_=> -1
 |_::_,[]=>1
def sB (a b:List Int):Bool:=if a.take 4=b.take 4 then(if og ((a.drop 4).take 4) ((b.drop 4).take 4)≠0 then decide (og ((a.drop 4).take 4) ((b.drop 4).take 4)<0)else decide (og (a.drop 8) (b.drop 8)<0))else decide (og (a.take 4) (b.take 4)<0)
end Tk
theorem El{ca pa ra:List AV}{xs:List Int}{o i:Nat}{x:Int}(hc:ca=pa++(xs.map iv++ra))(ho:pa.length=o)(h:xs[i]?=some x):ca.drop (o+i)=iv x::((xs.drop (i+1)).map iv++ra):=by
 subst hc ho;rw[Vv,TO (by omega),Uw,show pa.length+i-pa.length=i by omega,Vv,kW h,show i-(xs.map iv).length=0 by have:=eX h;simp;omega,XA];rfl
section
variable {lv:Bool}{H:List aa}{k kp:AV->List aa->Prop}
theorem Pw{x:Int}(hk:k (bv false) H):bc lv SC 143 H [iv x] k kp:=by
 refine bH (rs:=[.tmp 2]) (nt:=6) Tryz.f143 λhH hA=> ?_;simp only[br,SX];refine ai ?_;refine ak ?_;simp only[seval,bne_self_eq_false];refine aZ ?_;refine cm ?_;simpa using hk
theorem ahq{x y:Int}(hk:k (iv (mL x y)) H):bc lv SC 142 H [iv x,iv y] k kp:=by
 refine bH (rs:=[.tmp 4]) (nt:=20) Tryz.f142 λhH hA=> ?_;simp only[br,SX];refine ai ?_;refine ai ?_;refine aK ((Pw ?_));(try simp only[seval]);refine ai ?_;refine aK ((Pw ?_));(try simp only[seval]);refine ai ?_;refine aD ?_;refine aN ?_;refine ai ?_;refine aD ?_;refine aN ?_;refine ai ?_;refine aD ?_;refine⟨λh=> ?_,λh=> ?_⟩
 ·refine ai ?_;refine aZ ?_;rw[mL,if_pos h]at hk;exact cm hk
 ·refine aN ?_;refine ai ?_;refine aD ?_;refine⟨λh2=> ?_,λh2=> ?_⟩
  ·refine ai ?_;refine aZ ?_;rw[mL,if_neg h,if_pos h2]at hk;exact cm hk
  ·refine aN ?_;refine ai ?_;refine aZ ?_;rw[mL,if_neg h,if_neg h2]at hk;exact cm hk
theorem IW{xs ys:List Int}{ia oa ib ob ta tb:Nat}{ca cb pa ra pb rb:List AV}(ha:H[ia]?=some (.cells ca ta))(hb:H[ib]?=some (.cells cb tb))(hca:ca=pa++(xs.map iv++ra))(KH:pa.length=oa)(hcb:cb=pb++(ys.map iv++rb))(hpb:pb.length=ob)(hl:ys.length=xs.length)(h4:xs.length<=4)(hk:k (iv (og xs ys)) H):
  bc lv SC 138 H [.bK ia oa xs.length xs.length,.bK ib ob ys.length ys.length] k kp:=by
 refine bH (rs:=[.tmp 4]) (nt:=36) Tryz.f138 λhH hA=> ?_;simp only[br,SX];refine ai ?_;refine ai ?_;refine cJ ?_;refine tX xs.length (λi:Nat=>[(11,iv i)]) (λ_=>H) (λi=>og xs ys=og (xs.drop i) (ys.drop i)) rfl (λcp dz i cW hI R hR=> ?_);refine ai ?_;refine aD ?_;refine⟨λh=> ?_,λh=> ?_⟩
 ·have bG:i<xs.length:=by omega
  obtain⟨x,hx⟩:=cz bG;obtain⟨y,hy⟩:=cz (xs:=ys) (i:=i) (by omega);have bZ:SF.wrap ((i:Int)+1)=((i+1:Nat):Int):=by rw[bI _ (by omega)];rfl
  have lw:og xs ys=if mL x y≠0 then mL x y else og (xs.drop (i+1)) (ys.drop (i+1)):=by rw[hI,vG hx,vG hy,og]
  refine aN ?_;refine ak ?_;simp only[seval,ha,jR bG,El hca KH hx];refine ai ?_;refine aD ?_;refine⟨λh2=>by exfalso;omega,λh2=> ?_⟩;refine aN ?_;refine ak ?_;simp only[seval,hb,jR (show i<ys.length by omega),El hcb hpb hy];refine ai ?_;refine aK ((ahq ?_));(try simp only[seval]);refine ai ?_;refine aD ?_;refine⟨λh3=> ?_,λh3=> ?_⟩
  ·refine ai ?_;refine aZ ?_;rw[lw,if_pos (by simpa using h3)]at hk;exact cm hk
  ·refine aN ?_;refine ak ?_;simp only[seval,bZ];refine hR _ ⟨bG,?_,dE⟩;rw[lw,if_neg (by simpa using h3)]
 ·have cS:i=xs.length:=by omega
  subst cS;refine bU ?_;refine ak ?_;simp only[seval,hl];refine aD ?_;refine⟨λh2=>by exfalso;omega,λh2=> ?_⟩;refine aN ?_;refine ai ?_;refine aZ ?_;rw[hI,ZH,TO (WI hl),og]at hk;exact cm hk
theorem F.Di:SC.underlying 83=some (.array 4 3):=by kernel_rfl
theorem F.u3:SC.underlying 3=some (.int .i64):=by kernel_rfl
theorem aee{P:SK}{t e:TypeId}{k0:TU}{n:Nat}{xs ys:List Int}(ht:P.underlying t=some (.array n e))(he:P.underlying e=some (.int k0))(hs:(P.info? e).map (·.size)=some 1)(hg:P.eqGuardType P.depth t=false)(hx:xs.length=n)(hy:ys.length=n)(k:AV->Prop):
  dw P .neq t (.agg (xs.map iv)) (.agg (ys.map iv)) k=k (bv (!(xs==ys))):=by
 obtain⟨i,hi,hs⟩:=Tp.1 hs;have wa:=acI ht he hi hs hx hy;have e:dw P .neq t (.agg (xs.map iv)) (.agg (ys.map iv)) k=((VW=.eql\/VW=.neq)/\ap (AV.raw (.agg (xs.map iv))) λX=>ap (AV.raw (.agg (ys.map iv))) λY=>xc X Y=true/\P.eqGuardType P.depth t=false/\∃e,cD P (Xj t X Y) e/\k (.val (.bool (if VW== .neq then !e else e)))):=rfl;rw[e,yf,yf,ww,ww];apply propext;constructor
 ·rintro⟨_,_,_,b,h1,h2⟩
  rw[wa.uniq h1];exact h2
 ·intro h;exact⟨.inr rfl,rfl,hg,_,wa,h⟩
theorem F.Sq:(SC.info? 3).map (·.size)=some 1:=by kernel_rfl
theorem F.g83:SC.eqGuardType SC.depth 83=false:=by kernel_rfl
theorem aho{a b:List Int}(ha:a.length=11)(hb:b.length=11)(hk:k (bv (sB a b)) H):bc lv SC 128 H [.agg (a.map iv),.agg (b.map iv)] k kp:=by
 refine bH (rs:=[.tmp 4]) (nt:=32) Tryz.f128 λhH hA=> ?_;simp only[br,SX];have ham:(a.map iv).length=11:=by rw[To,ha]
 have vU:(b.map iv).length=11:=by rw[To,hb]
 have ea:a.map iv=(a.take 4).map iv++(((a.drop 4).take 4).map iv++(a.drop 8).map iv):=by
  rw[<- TF,<- TF];congr 1;have:(a.drop 4).take 4++a.drop 8=a.drop 4:=by
   conv=>rhs;rw[<- Vg 4 (a.drop 4)]
   rw[ae_]
  rw[this,Vg]
 have eb:b.map iv=(b.take 4).map iv++(((b.drop 4).take 4).map iv++(b.drop 8).map iv):=by
  rw[<- TF,<- TF];congr 1;have:(b.drop 4).take 4++b.drop 8=b.drop 4:=by
   conv=>rhs;rw[<- Vg 4 (b.drop 4)]
   rw[ae_]
  rw[this,Vg]
 refine ai ?_;refine ak ?_;simp only[seval,ham,vU,ha,hb];have FN:(a.take 4).length=4:=by simp[ha]
 have K0:(b.take 4).length=4:=by simp[hb]
 have KY:((a.drop 4).take 4).length=4:=by simp[ha]
 have R_:((b.drop 4).take 4).length=4:=by simp[hb]
 have KZ:(a.drop 8).length=3:=by simp[ha]
 have Sa:(b.drop 8).length=3:=by simp[hb]
 rw[<- VU,<- VU,aee F.Di F.u3 F.Sq F.g83 FN K0];refine aD ?_;refine⟨λh=> ?_,λh=> ?_⟩
 ·refine eO 4 ?_;simp only[seval];have c1:=λk kp=>IW (lv:=lv) (k:=k) (kp:=kp) (H:=H++[.cells (a.map iv) 86,.cells (b.map iv) 86]) (xs:=a.take 4) (ys:=b.take 4) (ia:=H.length) (ib:=H.length+1) (oa:=0) (ob:=0) (pa:=[]) (pb:=[]) (aW H _ 0) (aW H _ 1) ea rfl eb rfl (by rw[FN,K0]) (by rw[FN];exact SU _);simp only[FN,K0]at c1;refine aK ((c1 _ _ ?_));(try simp only[seval]);refine aZ ?_;rw[sB,if_neg (by simpa using h)]at hk;exact k_ hH hk
 ·have h:=(by simpa using h:a.take 4=b.take 4);rw[sB,if_pos h]at hk;refine aN ?_;refine eO 4 ?_;simp only[seval];have c2:=λk kp=>IW (lv:=lv) (k:=k) (kp:=kp) (H:=H++[.cells (a.map iv) 86,.cells (b.map iv) 86]) (xs:=(a.drop 4).take 4) (ys:=(b.drop 4).take 4) (ia:=H.length) (ib:=H.length+1) (oa:=4) (ob:=4) (pa:=(a.take 4).map iv) (pb:=(b.take 4).map iv) (aW H _ 0) (aW H _ 1) ea (by simp[ha]) eb (by simp[hb]) (by rw[KY,R_]) (by rw[KY];exact SU _);simp only[KY,R_]at c2;refine aK ((c2 _ _ ?_));(try simp only[seval]);refine ai ?_;refine aD ?_;refine⟨λh2=> ?_,λh2=> ?_⟩
  ·refine ai ?_;refine aZ ?_;rw[if_pos (by simpa using h2)]at hk;exact k_ hH hk
  ·refine aN ?_;rw[if_neg (by simpa using h2)]at hk;refine eO 4 ?_;simp only[seval];have c3:=λk kp=>IW (lv:=lv) (k:=k) (kp:=kp) (H:=H++[.cells (a.map iv) 86,.cells (b.map iv) 86]) (xs:=a.drop 8) (ys:=b.drop 8) (ia:=H.length) (ib:=H.length+1) (oa:=8) (ob:=8) (pa:=(a.take 4).map iv++((a.drop 4).take 4).map iv) (pb:=(b.take 4).map iv++((b.drop 4).take 4).map iv) (ra:=[]) (rb:=[]) (aW H _ 0) (aW H _ 1) (by rw[ea];simp) (by simp[ha]) (by rw[eb];simp) (by simp[hb]) (by rw[KZ,Sa]) (by rw[KZ];omega);simp only[KZ,Sa]at c3;refine aK ((c3 _ _ ?_));(try simp only[seval]);refine aZ ?_;exact k_ hH hk
end
open Go.Conc Go.Proofs Go.Gg.Tk
theorem Gn{α:Type}{g:α->AV}{ca pa ra:List AV}{xs:List α}{o i:Nat}{x:α}(hc:ca=pa++(xs.map g++ra))(ho:pa.length=o)(h:xs[i]?=some x):ca.drop (o+i)=g x::((xs.drop (i+1)).map g++ra):=by
 subst hc ho;rw[Vv,TO (by omega),Uw,show pa.length+i-pa.length=i by omega,Vv,yV h,show i-(xs.map g).length=0 by have:=eX h;simp;omega,XA];rfl
theorem Gp{α:Type}{g:α->AV}{ca pa ra:List AV}{xs:List α}{o i:Nat}{y:α}(hc:ca=pa++(xs.map g++ra))(ho:pa.length=o)(h:i<xs.length):ca.take (o+i)++[g y]++ca.drop (o+i+1)=pa++((xs.set i y).map g++ra):=by
 subst hc ho;have h1:(pa++(xs.map g++ra)).take (pa.length+i)=pa++(xs.map g).take i:=by
  rw[List.take_append,SY (by omega),show pa.length+i-pa.length=i by omega,Tw (by simp;omega)]
 have h2:(pa++(xs.map g++ra)).drop (pa.length+i+1)=(xs.map g).drop (i+1)++ra:=by
  rw[Vv,TO (by omega),Uw,show pa.length+i+1-pa.length=i+1 by omega,Wq (by simp;omega)]
 rw[h1,h2,<- MX h];simp[SD]
namespace Tk
def Kn.l (F:Kn)(mp:Nat):List AV:=bv F.has:: .mp mp::(F.aA.map (λn=>wv n)++(F.hours.map (λn=>wv n)++(F.less.map (λn=>wv n)++(F.aV.map (λn=>wv n)++F.first.map iv))))
structure bF (F:Kn):Prop where
 aA:F.aA.length=4
 hours:F.hours.length=4
 less:F.less.length=4
 aV:F.aV.length=3
 first:F.first.length=11
 mv:∀n∈F.aA,n<65536
 mb:∀n∈F.hours,n<65536
 lV:∀n∈F.less,n<65536
 lX:∀n∈F.aV,n<65536
 h4:∀h∈F.aL,h.length=4
theorem Kn.len{F:Kn}(h:bF F)(mp:Nat):(F.l mp).length=28:=by simp[Kn.l,h.aA,h.hours,h.less,h.aV,h.first]
theorem Kn.Gu{F:Kn}{mp p n:Nat}(h:F.aA[p]?=some n):(F.l mp).drop (2+p)=wv n::((F.aA.drop (p+1)).map (λn=>wv n)++(F.hours.map (λn=>wv n)++(F.less.map (λn=>wv n)++(F.aV.map (λn=>wv n)++F.first.map iv)))):=Gn (pa:=[bv F.has,.mp mp]) rfl rfl h
theorem Kn.aba{F:Kn}{mp p v:Nat}(h:p<F.aA.length):(F.l mp).take (2+p)++[wv v]++(F.l mp).drop (2+p+1)=({F with aA:=F.aA.set p v}:Kn).l mp:=Gp (g:=λn=>wv n) (pa:=[bv F.has,.mp mp]) rfl rfl h
theorem Kn.Fx{F:Kn}(k:bF F){mp p n:Nat}(h:F.hours[p]?=some n):(F.l mp).drop (6+p)=wv n::((F.hours.drop (p+1)).map (λn=>wv n)++(F.less.map (λn=>wv n)++(F.aV.map (λn=>wv n)++F.first.map iv))):=Gn (pa:=bv F.has:: .mp mp::F.aA.map (λn=>wv n)) rfl (by simp[k.aA]) h
theorem Kn.RM{F:Kn}(k:bF F){mp p v:Nat}(h:p<F.hours.length):(F.l mp).take (6+p)++[wv v]++(F.l mp).drop (6+p+1)=({F with hours:=F.hours.set p v}:Kn).l mp:=Gp (g:=λn=>wv n) (pa:=bv F.has:: .mp mp::F.aA.map (λn=>wv n)) rfl (by simp[k.aA]) h
theorem Kn.CK{F:Kn}(k:bF F){mp p n:Nat}(h:F.less[p]?=some n):(F.l mp).drop (10+p)=wv n::((F.less.drop (p+1)).map (λn=>wv n)++(F.aV.map (λn=>wv n)++F.first.map iv)):=Gn (pa:=bv F.has:: .mp mp::(F.aA.map (λn=>wv n)++F.hours.map (λn=>wv n))) (by simp[Kn.l]) (by simp[k.aA,k.hours]) h
theorem Kn.aau{F:Kn}(k:bF F){mp p v:Nat}(h:p<F.less.length):(F.l mp).take (10+p)++[wv v]++(F.l mp).drop (10+p+1)=({F with less:=F.less.set p v}:Kn).l mp:=by
 have:=Gp (g:=λn=>wv n) (ca:=F.l mp) (y:=v) (pa:=bv F.has:: .mp mp::(F.aA.map (λn=>wv n)++F.hours.map (λn=>wv n))) (ra:=F.aV.map (λn=>wv n)++F.first.map iv) (by simp[Kn.l]) (show _=10 by simp[k.aA,k.hours]) h;rw[this];simp[Kn.l]
theorem Kn.C1{F:Kn}(k:bF F){mp p n:Nat}(h:F.aV[p]?=some n):(F.l mp).drop (14+p)=wv n::((F.aV.drop (p+1)).map (λn=>wv n)++F.first.map iv):=Gn (pa:=bv F.has:: .mp mp::(F.aA.map (λn=>wv n)++(F.hours.map (λn=>wv n)++F.less.map (λn=>wv n)))) (by simp[Kn.l]) (by simp[k.aA,k.hours,k.less]) h
theorem Kn.abr{F:Kn}(k:bF F){mp p v:Nat}(h:p<F.aV.length):(F.l mp).take (14+p)++[wv v]++(F.l mp).drop (14+p+1)=({F with aV:=F.aV.set p v}:Kn).l mp:=by
 have:=Gp (g:=λn=>wv n) (ca:=F.l mp) (y:=v) (pa:=bv F.has:: .mp mp::(F.aA.map (λn=>wv n)++(F.hours.map (λn=>wv n)++F.less.map (λn=>wv n)))) (ra:=F.first.map iv) (by simp[Kn.l]) (show _=14 by simp[k.aA,k.hours,k.less]) h;rw[this];simp[Kn.l]
theorem Kn.Bu{F:Kn}{mp:Nat}:(F.l mp)[0]?=some (bv F.has):=rfl
theorem Kn.agA{F:Kn}{mp:Nat}:(F.l mp).drop 1=.mp mp::(F.aA.map (λn=>wv n)++(F.hours.map (λn=>wv n)++(F.less.map (λn=>wv n)++(F.aV.map (λn=>wv n)++F.first.map iv)))):=rfl
theorem Kn.apR{F:Kn}{mp:Nat}:(F.l mp).take 0++[bv true]++(F.l mp).drop (0+1)=({F with has:=true}:Kn).l mp:=rfl
theorem Kn.ab5{F:Kn}(k:bF F){mp:Nat}{t:List Int}(ht:t.length=11):(F.l mp).take 17++t.map iv++(F.l mp).drop (17+11)=({F with first:=t}:Kn).l mp:=by
 have e:F.l mp=(bv F.has:: .mp mp::(F.aA.map (λn=>wv n)++(F.hours.map (λn=>wv n)++(F.less.map (λn=>wv n)++F.aV.map (λn=>wv n)))))++F.first.map iv:=by simp[Kn.l]
 have hl:(bv F.has::AV.mp mp::(F.aA.map (λn=>wv n)++(F.hours.map (λn=>wv n)++(F.less.map (λn=>wv n)++F.aV.map (λn=>wv n))))).length=17:=by simp[k.aA,k.hours,k.less,k.aV]
 rw[TO (by rw[Kn.len k];omega),e,Tw (by omega),SY (by omega),SZ];simp[Kn.l]
structure jv (x:aj)(t:List Int):Prop where
 len:t.length=11
 bu:mD (t.take 4)
 num:∀p,p<x.pieces.length->∃n:Nat,t[4+p]?=some (n:Int)/\n<9/\0<=gK (t.take 4) (n+t.getD 0 0)
 own:∀s,s<x.aB.length->∃o:Nat,t[8+s]?=some (o:Int)/\o<4
end Tk
def setH (hs:List (List Int)):aa:=.obj (.map (hs.zipIdx.map eI).toArray hs.length)
theorem qC{H:List aa}{i:Nat}{x:aa}(h:H[i]?=some x):H.set i x=H:=by
 apply Yo;intro j;rw[UT];split
 ·rename_i e;subst e;rw[if_pos (eX h)];exact h.symm
 ·rfl
theorem uY{H L:List aa}{i:Nat}{x:aa}(h:i<H.length):(H++L).set i x=H.set i x++L:=Wz _ _ h
section
variable {lv:Bool}{H:List aa}{k kp:AV->List aa->Prop}
theorem Ot{F:Kn}{t:List Int}(h:bF F)(ht:t.length=11):bF (jQ F t):=by
 unfold jQ;split
 ·exact h
 ·exact⟨h.aA,h.hours,h.less,h.aV,ht,h.mv,h.mb,h.lV,h.lX,h.h4⟩
theorem CO{l:List Nat}{i v:Nat}(h:∀n∈l,n<65536)(hv:v<65536):∀n∈l.set i v,n<65536:=λn hn=>by
 rcases UJ hn with h'|rfl
 ·exact h n h'
 ·exact hv
theorem Tk.bF.G3{G:Kn}(h:bF G){i v:Nat}(hv:v<65536):bF {G with aV:=G.aV.set i v}:=⟨h.aA,h.hours,h.less,by simp[h.aV],h.first,h.mv,h.mb,h.lV,CO h.lX hv,h.h4⟩
theorem Tk.bF.aca{G:Kn}(h:bF G){i v:Nat}(hv:v<65536):bF {G with aA:=G.aA.set i v}:=⟨by simp[h.aA],h.hours,h.less,h.aV,h.first,CO h.mv hv,h.mb,h.lV,h.lX,h.h4⟩
theorem Tk.bF.ab8{G:Kn}(h:bF G){i v:Nat}(hv:v<65536):bF {G with hours:=G.hours.set i v}:=⟨h.aA,by simp[h.hours],h.less,h.aV,h.first,h.mv,CO h.mb hv,h.lV,h.lX,h.h4⟩
theorem Tk.bF.ab9{G:Kn}(h:bF G){i v:Nat}(hv:v<65536):bF {G with less:=G.less.set i v}:=⟨h.aA,h.hours,by simp[h.less],h.aV,h.first,h.mv,h.mb,CO h.lV hv,h.lX,h.h4⟩
theorem DX{l:List Nat}{i n v:Nat}(h:l[i]?=some n):oR l i v=l.set i (n|||2^v):=by
 unfold oR;rw[SE,h];rfl
theorem ab7(hs:List (List Int)):setH hs=.obj (.map (hs.zipIdx.map eI).toArray hs.length):=rfl
theorem ab6(hs:List (List Int))(h:List Int):setH (hs++[h])=.obj (.map ((hs.zipIdx++[(h,hs.length)]).map eI).toArray (hs.length+1)):=by
 rw[ab7,List.zipIdx_append,SQ];simp
theorem Ds{α:Type}{l:List α}{y:α×Nat}(h:y∈l.zipIdx):y.1∈l:=by
 obtain⟨a,b⟩:=y;have:=List.mem_zipIdx h;simp at this;rw[this.2];exact VF _
theorem I7{x:List Int}{hs:List (List Int)}:(pX x hs.zipIdx 0=none/\x∉hs)\/(∃i b,pX x hs.zipIdx 0=some (i,.bool true)/\hs.zipIdx[i]?=some (x,b)/\x∈hs):=by
 cases h:pX x hs.zipIdx 0 with
 |none=>
  refine .inl ⟨rfl,λhm=> ?_⟩;obtain⟨i,hi⟩:=UP.1 hm;have:(x,i)∈hs.zipIdx:=UP.2 ⟨i,by rw[List.getElem?_zipIdx,hi];simp⟩;exact PH h _ this rfl
 |some p=>
  obtain⟨i,v⟩:=p;obtain⟨b,_,h2,rfl⟩:=PI h;rw[Z0]at h2;exact .inr ⟨i,b,rfl,h2,Ds (y:=(x,b)) (Tf h2)⟩
theorem F.i3:∃i,SC.info? 3=some i/\i.size=1:=by
 obtain⟨i,h1,h2⟩:=Tp.1 F.Sq;exact⟨i,h1,h2⟩
theorem uW{H L:List aa}{i:Nat}{z:aa}(h:i<H.length):(H.set i z++L)[i]?=some z:=by
 rw[SW (by simpa using h),UT,if_pos rfl,if_pos h]
theorem uX{H L:List aa}{i:Nat}{z y:aa}(h:i<H.length):(H.set i z++L).set i y=H.set i y++L:=by
 rw[uY (by simpa using h),W9]
theorem aif{x:aj}{t:List Int}{deep:Int}{fp mp:Nat}{Q:Kn}(hx:x.Ok)(ht:jv x t)(hQ:bF Q)(mf:fp≠mp)(hf:H[fp]?=some (.cells (Q.l mp) 88))(hm:H[mp]?=some (setH Q.aL))(hk:k (.aJ []) ((H.set fp (.cells ((ej x deep Q t).l mp) 88)).set mp (setH (ej x deep Q t).aL))):bc lv SC 99 H [.op fp 0,x.av,.agg (t.map iv),iv deep] k kp:=by
 refine bH (rs:=[]) (nt:=135) Tryz.f99 λhH hA=> ?_;simp only[br,SX,aj.av];have j9:=ht.len;have Jm:(t.map iv).length=11:=by rw[To,j9]
 have me:=eX hf;have B_:=eX hm;have Rf:=Kn.len hQ mp;have bO:x.l=[iv x.first,iv x.hours,iv x.an,ek x.seen,bi x.pieces,bi x.aB]:=rfl;have dB:∀(L:List aa) i,(H++L)[H.length+i]?=L[i]?:=λL i=>aW H L i;obtain⟨R1,p7⟩:∃R1,R1=jQ Q t:=⟨_,rfl⟩;have ny:bF R1:=by rw[p7];exact Ot hQ j9
 have BH:R1.aL=Q.aL:=by rw[p7];unfold jQ;split<;>rfl
 obtain⟨H1,lI⟩:∃H1,H1=H.set fp (.cells (R1.l mp) 88):=⟨_,rfl⟩;have cX:H1.length=H.length:=by rw[lI,TQ]
 have xj:H1[fp]?=some (.cells (R1.l mp) 88):=by rw[lI,UT,if_pos rfl,if_pos me]
 have ED:H1[mp]?=some (setH R1.aL):=by rw[lI,T5 mf,BH];exact hm
 have akv:∀G:Kn,∀hs:List (List Int),bQ ((H1.set fp (.cells (G.l mp) 88)).set mp (setH hs)):=λG hs=>by
  have hl:((H1.set fp (.cells (G.l mp) 88)).set mp (setH hs)).length=H.length:=by rw[TQ,TQ,cX]
  intro z hz;rw[hl];rcases UJ hz with hz|rfl
  ·rcases UJ hz with hz|rfl
   ·rw[lI]at hz;rcases UJ hz with hz|rfl
    ·exact hH z hz
    ·intro a ha;simp only[Kn.l,SL,SV,Tn]at ha;rcases ha with rfl|rfl|⟨_,_,rfl⟩|⟨_,_,rfl⟩|⟨_,_,rfl⟩|⟨_,_,rfl⟩|⟨_,_,rfl⟩
     ·exact .val _
     ·exact .mp (by omega)
     all_goals exact .val _
   ·intro a ha;simp only[Kn.l,SL,SV,Tn]at ha;rcases ha with rfl|rfl|⟨_,_,rfl⟩|⟨_,_,rfl⟩|⟨_,_,rfl⟩|⟨_,_,rfl⟩|⟨_,_,rfl⟩
    ·exact .val _
    ·exact .mp (by omega)
    all_goals exact .val _
  ·trivial
 have gV:k (.aJ []) ((H1.set fp (.cells ((ej x deep Q t).l mp) 88)).set mp (setH (ej x deep Q t).aL)):=by rw[lI,W9];exact hk
 have eo:∀(G:Kn)(hs:List (List Int))(L:List aa),ej x deep Q t=G->G.aL=hs->cw H1.length ((H1.set fp (.cells (G.l mp) 88)).set mp (setH hs)++L) (.aJ []) k:=λG hs L hG gr=>by
  subst hG gr;exact jU (Wk.refl _) rfl (by rw[TQ,TQ,cX];exact SU _) (akv _ _) (by simp[iE]) gV
 have aF:ej x deep Q t=(if deep=2 then{R1 with aV:=mW t x.aB.length R1.aV}else if deep=0 then{R1 with aL:=jG R1.aL (t.take 4)}else{R1 with aA:=rR t x.pieces.length R1.aA,hours:=rD t x.pieces.length R1.hours,less:=py t x.pieces.length x.pieces.length R1.less}):=by rw[p7];rfl
 rw[aF]at eo;clear hk gV aF;refine ai ?_;refine ak ?_;simp only[seval,fF hf,Kn.Bu];refine aD ?_;refine⟨λhc=> ?ga,λhc=> ?gb⟩
 case' ga=>
  have e1:R1={Q with has:=true,first:=t}:=by rw[p7];unfold jQ;rw[hc];rfl
  have eH:∀L:List aa,(H++L).set fp (.cells (({Q with has:=true}:Kn).l mp) 88)=H.set fp (.cells (({Q with has:=true}:Kn).l mp) 88)++L:=λL=>uY me;have EL:bF {Q with has:=true}:=⟨hQ.aA,hQ.hours,hQ.less,hQ.aV,hQ.first,hQ.mv,hQ.mb,hQ.lV,hQ.lX,hQ.h4⟩;have aka:=Kn.len EL mp;have GY:=Kn.ab5 EL (mp:=mp) (t:=t) j9;have zK:Un 11 (t.map iv)=t.map iv:=SY (by omega);have ajU:∀(z:aa)(L:List aa),(H.set fp z++L)[H.length+1]?=L[1]?:=λz L=>by have:=aW (H.set fp z) L 1;rwa [TQ]at this
  refine qU [5,8] [0,1,2,3,4,5,6,7,8] [⟨0,false,[],[]⟩,⟨1,false,[],[([5],[5])]⟩,⟨2,false,[],[([5],[5])]⟩,⟨3,false,[],[]⟩,⟨4,false,[],[]⟩,⟨5,true,[5],[]⟩,⟨6,false,[5],[]⟩,⟨7,false,[5],[]⟩,⟨8,true,[5,8],[]⟩] (λD=>bif isDone 8 D then H1++[.cells x.l 76,.cells (t.map iv) 86]else bif isDone 5 D then H.set fp (.cells (({Q with has:=true}:Kn).l mp) 88)++[.cells x.l 76,.cells (t.map iv) 86]else H++[.cells x.l 76,.cells (t.map iv) 86]) ?_;simp only[seval,fF hf,uW me,uX me,uY me,Rf,aka,j9,Jm,zK,ajU];have eL:(AV.val (.bool true)::(Un 16 (UD 1 (Q.l mp))++t.map iv++UD 27 (UD 1 (Q.l mp))))=R1.l mp:=by rw[e1];exact GY
  refine⟨by rfl,by rw[Uk,Rf];omega,by rw[eL,lI],?_⟩;rw[eL,<- lI,<- cX]
 case' gb=>
  have e1:R1=Q:=by rw[p7];unfold jQ;rw[hc];rfl
  have IK:H1=H:=by rw[lI,e1];exact qC hf
  refine aN ?_;rw[<- IK]
 all_goals
  clear hc e1;have lN:fp<H1.length:=by omega
  have aS:∀(L:List aa),(H1++L)[H1.length]?=L[0]?:=λL=>aW H1 L 0;have de:∀(L:List aa),(H1++L)[H1.length+1]?=L[1]?:=λL=>aW H1 L 1;have dM:∀(z:aa)(L:List aa),(H1.set fp z++L)[H1.length]?=L[0]?:=λz L=>by have:=aW (H1.set fp z) L 0;rwa [TQ]at this
  have dD:∀(z:aa)(L:List aa),(H1.set fp z++L)[H1.length+1]?=L[1]?:=λz L=>by have:=aW (H1.set fp z) L 1;rwa [TQ]at this
  have FH:∀G:Kn,G.aL=R1.aL->(H1.set fp (.cells (G.l mp) 88)).set mp (setH R1.aL)=H1.set fp (.cells (G.l mp) 88):=λG _=>qC (by rw[T5 mf];exact ED);refine ai ?_;refine ai ?_;refine aD ?_;refine⟨λh2=> ?_,λh2=> ?_⟩
  ·
   replace h2:deep=2:=(by simpa using h2);have xP:=hx.fi;rw[if_pos h2]at eo;refine ak ?_;simp only[seval,aS,bO,bi];refine cJ ?_;refine gP x.aB.length (λi:Nat=>[(30,iv i)]) (λi=>H1.set fp (.cells (({R1 with aV:=mW t i R1.aV}:Kn).l mp) 88)++[.cells x.l 76,.cells (t.map iv) 86]) (λi=>bF {R1 with aV:=mW t i R1.aV}) (λ_ _=>rfl) (by simp only[seval];simp[bA,Wk.refl]) (by rw[show ({R1 with aV:=mW t 0 R1.aV}:Kn)=R1 from rfl,qC xj];rfl) (λ_ _ _=>by simp) ny (λcp dz i cW am R hR=> ?_);refine ai ?_;refine aD ?_;refine⟨λh3=> ?_,λh3=> ?_⟩
   ·have bG:i<x.aB.length:=(by omega);obtain⟨o,ho,ho4⟩:=ht.own i bG;have qt:rY t i=o:=(by unfold rY;rw[SE,ho];rfl);obtain⟨n,hn⟩:=cz (xs:=mW t i R1.aV) (i:=i) (by have:=am.aV;simp only at this;omega);have Cb:n<65536:=am.lX n (Tf hn);have b3:(0<=(i:Int)/\(i:Int)<3)=True:=(by simp;omega);have bZ:SF.wrap ((i:Int)+1)=((i+1:Nat):Int):=(by rw[bI _ (by omega)];rfl);have zB:=Kn.C1 am (mp:=mp) (p:=i) (n:=n) hn;have rE:=Kn.abr am (mp:=mp) (p:=i) (v:=n|||2^o) (eX hn);have dp:=Kn.len am mp;refine aN ?_;refine ai ?_;refine eO 15 ?_;simp only[seval,dD,uW lN,uX lN,b3,zB,kW ho];refine iG (wv (n|||2^o)) (cO (uh Cb (show o<16 by omega) ⟨rfl,rfl⟩)) ?_;(try simp only[seval,uW lN,uX lN,b3,dp]);refine⟨by omega,?_⟩;rw[rE];refine ak ?_;simp only[seval,bZ];have dg:mW t (i+1) R1.aV=(mW t i R1.aV).set i (n|||2^o):=(by rw[mW,qt,DX hn]);refine hR _ ⟨bG,?_,?_⟩
    ·rw[dg];exact am.G3 (pD Cb (wH (by omega)))
    ·rw[dg];exact dE
   ·have cS:i=x.aB.length:=(by omega);subst cS;have:=eo _ R1.aL [.cells x.l 76,.cells (t.map iv) 86] rfl rfl;rw[FH {R1 with aV:=mW t x.aB.length R1.aV} rfl]at this;refine bU ?_;refine aZ ?_;exact this
  ·replace h2:¬deep=2:=(by simpa using h2);rw[if_neg h2]at eo;refine ai ?_;refine aD ?_;refine⟨λh3=> ?_,λh3=> ?_⟩
   ·
    replace h3:deep=0:=(by simpa using h3);rw[if_pos h3]at eo;have Cq:(t.take 4).length=4:=(by simp[j9]);have rB:∀L:List aa,(H1++L)[mp]?=some (.obj (.map (R1.aL.zipIdx.map eI).toArray R1.aL.length)):=λL=>fF ED;have hfp:∀L:List aa,(H1++L)[fp]?=some (.cells (R1.l mp) 88):=λL=>fF xj;have Rt:mp<H1.length:=(by omega);obtain⟨i3,p_,po⟩:=F.i3;have Jn:∀y∈R1.aL.zipIdx,y.1.length=4:=λy hy=>ny.h4 _ (Ds hy);have Fa:=acK (ts:=R1.aL.zipIdx) F.Di F.u3 p_ po Cq Jn;have EW:=λb=>acG (b:=b) (k:=.i64) (d:=9998) F.Di F.u3 p_ po Cq;refine eO 6 ?_;simp only[seval,hfp,de,rB,Kn.agA,j9,Jm];rw[<- VU];refine ew (yf _) (ew rfl ⟨EW _,_,Fa,?_,?_⟩)
    ·intro i v xE;rcases I7 (x:=t.take 4) (hs:=R1.aL)with⟨h,_⟩|⟨i',b,h,h2,_⟩
     ·rw[h]at xE;cases xE
     ·rw[h]at xE;cases xE;rw[Tj,h2];exact apx _
    ·rcases I7 (x:=t.take 4) (hs:=R1.aL)with⟨h,hn⟩|⟨i',b,h,h2,hn⟩
     ·rw[h,abz,uY Rt];have:=eo _ _ [.cells x.l 76,.cells (t.map iv) 86] rfl rfl;rw[show jG R1.aL (t.take 4)=R1.aL++[t.take 4] by rw[jG,if_neg hn],ab6]at this;rw[show H1.set fp (.cells (({R1 with aL:=R1.aL++[t.take 4]}:Kn).l mp) 88)=H1 from qC xj]at this;refine aZ ?_;exact this
     ·rw[h,aoe h2,uY Rt];have:=eo _ _ [.cells x.l 76,.cells (t.map iv) 86] rfl rfl;rw[show jG R1.aL (t.take 4)=R1.aL by rw[jG,if_pos hn],ab7]at this;rw[show H1.set fp (.cells (({R1 with aL:=R1.aL}:Kn).l mp) 88)=H1 from qC xj]at this;refine aZ ?_;exact this
   ·
    replace h3:¬deep=0:=(by simpa using h3);rw[if_neg h3]at eo;refine aN ?_;have lq:=hx.cT;obtain⟨P,hP⟩:∃P:Nat->Kn,∀p,P p={R1 with aA:=rR t p R1.aA,hours:=rD t p R1.hours,less:=py t x.pieces.length p R1.less}:=⟨_,λ_=>rfl⟩;obtain⟨P',EK⟩:∃P':Nat->Nat->Kn,∀p q,P' p q={R1 with aA:=rR t (p+1) R1.aA,hours:=rD t (p+1) R1.hours,less:=pz t p q (py t x.pieces.length p R1.less)}:=⟨_,λ_ _=>rfl⟩;have Qn:P 0=R1:=(by rw[hP];rfl);have hPs:∀p,P' p x.pieces.length=P (p+1):=λp=>(by rw[hP,EK];rfl);refine ak ?_;simp only[seval,aS,bO,bi];refine cJ ?_;refine gP x.pieces.length (λi:Nat=>[(62,iv i)]) (λi=>H1.set fp (.cells ((P i).l mp) 88)++[.cells x.l 76,.cells (t.map iv) 86]) (λi=>bF (P i)) (λ_ _=>rfl) (by simp only[seval];simp[bA,Wk.refl]) (by rw[Qn,qC xj];rfl) (λ_ _ _=>by simp) (by rw[Qn];exact ny) (λcp dz p cW am R hR=> ?_);refine ai ?_;refine aD ?_;refine⟨λh=> ?_,λh=> ?_⟩
    ·have dp:p<x.pieces.length:=(by omega);obtain⟨o,ho,ho9,qt⟩:=ht.num p dp;obtain⟨n,hn⟩:=cz (xs:=(P p).aA) (i:=p) (by have:=am.aA;omega);obtain⟨m,fX⟩:=cz (xs:=(P p).hours) (i:=p) (by have:=am.hours;omega);have Cb:n<65536:=am.mv n (Tf hn);have Rm:m<65536:=am.mb m (Tf fX);have b4:(0<=(p:Int)/\(p:Int)<4)=True:=(by simp;omega);have bZ:SF.wrap ((p:Int)+1)=((p+1:Nat):Int):=(by rw[bI _ (by omega)];rfl);have zB:=Kn.Gu (mp:=mp) hn;have rE:=Kn.aba (mp:=mp) (p:=p) (v:=n|||2^o) (eX hn);have RV:=Kn.len am mp;have lS:mz t p=o:=(by unfold mz;rw[SE,ho];rfl);refine aN ?_;refine ai ?_;refine eO 15 ?_;simp only[seval,dD,uW lN,uX lN,b4,zB,kW ho];refine iG (wv (n|||2^o)) (cO (uh Cb (show o<16 by omega) ⟨rfl,rfl⟩)) ?_;(try simp only[seval,uW lN,uX lN,b4,RV]);refine⟨by omega,?_⟩;rw[rE];obtain⟨c0,xw⟩:=cz (xs:=t) (i:=0) (by omega);have EU:t.getD 0 0=c0:=(by rw[SE,xw];rfl);rw[EU]at qt;have QJ:c0∈t.take 4:=by
      match t,j9,xw with
      |a::t',_,xw=>cases xw;simp
     have pc:=ht.bu.lo c0 QJ;have Ff:=ht.bu.hi c0 QJ;have gY:SF.wrap ((o:Int)+c0)=(o:Int)+c0:=bI _ (by omega);have ajs:(t.map iv)[0]?=some (iv c0):=(by rw[Tj,xw];rfl);obtain⟨u,hu⟩:=Int.eq_ofNat_of_zero_le qt;have hu4:u<4:=by
      have h5:gK (t.take 4) ((o:Int)+c0)<0+(t.take 4).length:=acZ;rw[ht.bu.len,hu]at h5;omega
     have hth:tK t p=u:=by
      unfold tK;rw[SE,ho,EU];simp only[S8];rw[hu];rfl
     obtain⟨G1,BA⟩:∃G1,G1=({P p with aA:=(P p).aA.set p (n|||2^o)}:Kn):=⟨_,rfl⟩;have BB:bF G1:=(by rw[BA];exact am.aca (pD Cb (wH (by omega))));have B9:G1.hours[p]?=some m:=(by rw[BA];exact fX);rw[<- BA];have RU:=Kn.Fx BB (mp:=mp) B9;have RY:=Kn.RM BB (mp:=mp) (p:=p) (v:=m|||2^u) (eX B9);have RX:=Kn.len BB mp;refine eO 22 ?_;simp only[seval,dD,uW lN,uX lN,b4,RU,kW ho,Jm,j9,gY];rw[<- VU];refine ew ajs ?_;(try simp only[seval,gY]);refine iG (iv u) (cO (PG (h:=t.take 4) (n:=(o:Int)+c0) ht.bu.len ⟨by rw[hu],rfl⟩)) ?_;refine iG (wv (m|||2^u)) (cO (uh Rm (show u<16 by omega) ⟨rfl,rfl⟩)) ?_;(try simp only[seval,uW lN,uX lN,b4,RX]);refine⟨by omega,?_⟩;rw[RY];have JA:({G1 with hours:=G1.hours.set p (m|||2^u)}:Kn)=P' p 0:=by
      rw[BA,EK];simp only[hP]at hn fX⊢;rw[rR,lS,DX hn,rD,hth,DX fX];rfl
     have ajf:bF (P' p 0):=(by rw[<- JA];exact BB.ab8 (pD Rm (wH (by omega))));rw[JA];clear rE zB RV BB B9 RU RY RX JA BA hn fX am;refine ak ?_;simp only[seval,dM,bO,bi];refine cJ ?_;refine gP x.pieces.length (λi:Nat=>[(108,iv i)]) (λi=>H1.set fp (.cells ((P' p i).l mp) 88)++[.cells x.l 76,.cells (t.map iv) 86]) (λi=>bF (P' p i)) (λ_ _=>rfl) (by simp only[seval];simp[bA,Wk.refl]) rfl (λ_ _ _=>by simp) ajf (λQj asR q FF pn R' Qp=> ?_);refine ai ?_;refine aD ?_;refine⟨λh=> ?_,λh=> ?_⟩
     ·have mi:q<x.pieces.length:=(by omega);obtain⟨o2,RA,as3,_⟩:=ht.num q mi;have b4q:(0<=(q:Int)/\(q:Int)<4)=True:=(by simp;omega);have wc:SF.wrap ((q:Int)+1)=((q+1:Nat):Int):=(by rw[bI _ (by omega)];rfl);have dg:P' p (q+1)={P' p q with less:=if o<o2 then oR (P' p q).less p q else(P' p q).less}:=by
       rw[EK,EK,pz];simp only[SE,ho,RA,S8];by_cases hlt:o<o2
       ·rw[if_pos (by omega),if_pos hlt]
       ·rw[if_neg (by omega),if_neg hlt]
      refine aN ?_;refine ai ?_;refine eO 8 ?_;simp only[seval,dD,b4,b4q,kW ho,kW RA];refine aD ?_;refine⟨λh=> ?_,λh=> ?_⟩
      ·have hlt:o<o2:=(by simpa using h);rw[if_pos hlt]at dg;obtain⟨v,hv⟩:=cz (xs:=(P' p q).less) (i:=p) (by have:=pn.less;omega);have FR:v<65536:=pn.lV v (Tf hv);have akB:=Kn.CK pn (mp:=mp) hv;have akF:=Kn.aau pn (mp:=mp) (p:=p) (v:=v|||2^q) (eX hv);have akE:=Kn.len pn mp;rw[DX hv]at dg;refine eO 12 ?_;simp only[seval,uW lN,uX lN,b4,akB];refine iG (wv (v|||2^q)) (cO (uh FR (show q<16 by omega) ⟨rfl,rfl⟩)) ?_;(try simp only[seval,uW lN,uX lN,b4,akE]);refine⟨by omega,?_⟩;rw[akF,<- dg];refine ak ?_;simp only[seval,wc];refine Qp _ ⟨mi,?_,?_⟩
       ·rw[dg];exact pn.ab9 (pD FR (wH (by omega)))
       ·exact dE
      ·have hlt:¬o<o2:=(by simpa using h);rw[if_neg hlt]at dg;refine aN ?_;refine ak ?_;simp only[seval,wc];rw[show ({P' p q with less:=(P' p q).less}:Kn)=P' p q from rfl]at dg;refine Qp _ ⟨mi,?_,?_⟩
       ·rw[dg];exact pn
       ·rw[dg];exact dE
     ·have hqe:q=x.pieces.length:=(by omega);subst hqe;rw[hPs]at pn⊢;refine bU ?_;refine ak ?_;simp only[seval,bZ];exact hR _ ⟨dp,pn,dE⟩
    ·have dY:p=x.pieces.length:=(by omega);subst dY;have:=eo _ R1.aL [.cells x.l 76,.cells (t.map iv) 86] rfl rfl;rw[<- hP,FH (P _) (by rw[hP])]at this;refine bU ?_;exact this
end
open Go.Conc Go.Proofs Go.Gg.Tk
namespace Tk
def fJ (F:Kn)(hs:List (List Int))(G:Kn):Kn:=if G.has then⟨true,hs.foldl jG F.aL,kP F.aA G.aA,kP F.hours G.hours,kP F.less G.less,kP F.aV G.aV,if F.has=false\/sB G.first F.first then G.first else F.first⟩else F
def nS (l m:List Nat):Nat->List Nat
 |0=>l
 |i+1=>(nS l m i).set i ((nS l m i).getD i 0|||m.getD i 0)
end Tk
theorem GG{l m:List Nat}{i a b:Nat}(ha:(nS l m i)[i]?=some a)(hb:m[i]?=some b):nS l m (i+1)=(nS l m i).set i (a|||b):=by
 rw[nS,SE,SE,ha,hb];rfl
theorem anz{l m:List Nat}(h:l.length=m.length){i:Nat}(hi:i<=l.length):nS l m i=kP (l.take i) (m.take i)++l.drop i:=by
 induction i with
 |zero=>simp[nS,kP]
 |succ i ih=>
  have hl:i<l.length:=by omega
  have hm:i<m.length:=by omega
  have e1:(kP (l.take i) (m.take i)).length=i:=by simp[kP];omega
  have e2:(nS l m i).getD i 0=l[i]:=by
   rw[ih (by omega),SE,Tg (by omega),e1];simp[hl]
  rw[nS,e2,ih (by omega),UO _ _ (by omega),e1,U6,SE,SP hm,S8,TW hl,TY,VJ,VJ,SP hl,SP hm,YO,YO];unfold kP;rw[List.zipWith_append (by simp;omega)];simp
theorem GF{l m:List Nat}(h:l.length=m.length){n:Nat}(hn:l.length=n):nS l m n=kP l m:=by
 subst hn;rw[anz h (SU _),h,TP,TO (by omega),SZ,<- h,TP]
theorem ahh{lv:Bool}{H:List aa}{k kp:AV->List aa->Prop}{fp mp mg:Nat}{Q G:Kn}(hQ:bF Q)(hG:bF G)(mf:fp≠mp)(v5:mg≠mp)(hf:H[fp]?=some (.cells (Q.l mp) 88))(hm:H[mp]?=some (setH Q.aL))(hg:H[mg]?=some (setH G.aL))(v9:G.aL.Nodup)(hk:∀hs:List (List Int),hs.Perm G.aL->k (.aJ []) ((H.set fp (.cells ((fJ Q hs G).l mp) 88)).set mp (setH (fJ Q hs G).aL))):bc lv SC 102 H [.op fp 0,.agg (G.l mg)] k kp:=by
 refine bH (rs:=[]) (nt:=121) Tryz.f102 λhH hA=> ?_;simp only[br,SX];have me:=eX hf;have B_:=eX hm;have oz:=eX hg;have Fb:=Kn.len hG mg;have FE:=Kn.len hQ mp;have sT:(G.l mg).drop 17=G.first.map iv:=by
  have e:G.l mg=(bv G.has:: .mp mg::(G.aA.map (λn=>wv n)++(G.hours.map (λn=>wv n)++(G.less.map (λn=>wv n)++G.aV.map (λn=>wv n)))))++G.first.map iv:=by simp[Kn.l]
  rw[e,Wq (by simp[hG.aA,hG.hours,hG.less,hG.aV]),TO (by simp[hG.aA,hG.hours,hG.less,hG.aV])];rfl
 refine ai ?_;refine ak ?_;simp only[seval,Kn.Bu];refine aD ?_;refine⟨λh=> ?_,λh=> ?_⟩
 ·
  have J_:G.has=false:=by simpa using h
  have:=hk G.aL (ae' _);rw[fJ,J_]at this;simp only[TM,if_false]at this;rw[qC hf,qC hm]at this;refine aZ ?_;exact iJ hH (Wk.refl _) (by simp[iE]) this
 ·have J_:G.has=true:=by simpa using h
  refine aN ?_;obtain⟨R1,p7⟩:∃R1,R1=(if Q.has=false\/sB G.first Q.first=true then{Q with first:=G.first}else Q):=⟨_,rfl⟩;have ny:bF R1:=by
   rw[p7];split
   ·exact⟨hQ.aA,hQ.hours,hQ.less,hQ.aV,hG.first,hQ.mv,hQ.mb,hQ.lV,hQ.lX,hQ.h4⟩
   ·exact hQ
  have BH:R1.aL=Q.aL:=by rw[p7];split<;>rfl
  obtain⟨H1,lI⟩:∃H1,H1=H.set fp (.cells (R1.l mp) 88):=⟨_,rfl⟩;have aS:∀(L:List aa),(H++L)[H.length]?=L[0]?:=λL=>aW H L 0;have dM:∀(z:aa)(L:List aa),(H.set fp z++L)[H.length]?=L[0]?:=λz L=>by have:=aW (H.set fp z) L 0;rwa [TQ]at this
  have j9:=hG.first;have zK:Un 11 (G.first.map iv)=G.first.map iv:=SY (by rw[To];omega);have GY:Un 17 (Q.l mp)++G.first.map iv++UD 28 (Q.l mp)=({Q with first:=G.first}:Kn).l mp:=Kn.ab5 hQ j9;have RZ:(Q.l mp).drop 17=Q.first.map iv:=by
   have e:Q.l mp=(bv Q.has:: .mp mp::(Q.aA.map (λn=>wv n)++(Q.hours.map (λn=>wv n)++(Q.less.map (λn=>wv n)++Q.aV.map (λn=>wv n)))))++Q.first.map iv:=(by simp[Kn.l]);rw[e,Wq (by simp[hQ.aA,hQ.hours,hQ.less,hQ.aV]),TO (by simp[hQ.aA,hQ.hours,hQ.less,hQ.aV])];rfl
  have Sc:Un 11 (Q.first.map iv)=Q.first.map iv:=SY (by rw[To,hQ.first];exact SU _);have cX:H1.length=H.length:=by rw[lI,TQ]
  cases FD:Q.has
  case' true=>
   refine eO 12 ?_;simp only[seval,fF hf,Kn.Bu,FD,aS,sT,RZ,Fb,FE,zK,Sc];refine⟨by omega,by have:=hQ.first;omega,?_⟩;refine aK ((aho hG.first hQ.first ?_));(try simp only[seval]);refine aD ?_;refine⟨λhb=> ?tt,λhb=> ?tf⟩
  case' false=>
   refine eO 12 ?_;simp only[seval,fF hf,Kn.Bu,FD,aS,sT,RZ,Fb,FE,zK,Sc];refine aD ?_
  case' tt=>
   have e1:R1={Q with first:=G.first}:=(by rw[p7,if_pos (.inr hb)]);refine ak ?_;simp only[seval,fF hf,aS,sT,Fb,FE,zK,j9,uY me];rw[GY,<- e1,<- lI,<- cX]
  case' tf=>
   have e1:R1=Q:=(by rw[p7,if_neg (by rw[FD,hb];simp)]);have IK:H1=H:=(by rw[lI,e1];exact qC hf);refine aN ?_;rw[<- IK]
  case' false=>
   have e1:R1={Q with first:=G.first}:=(by rw[p7,if_pos (.inl FD)]);refine ak ?_;simp only[seval,fF hf,aS,sT,Fb,FE,zK,j9,uY me];rw[GY,<- e1,<- lI,<- cX]
  all_goals
   clear e1;have lN:fp<H1.length:=(by omega);have xj:H1[fp]?=some (.cells (R1.l mp) 88):=(by rw[lI,UT,if_pos rfl,if_pos me]);have ED:H1[mp]?=some (setH R1.aL):=(by rw[lI,T5 mf,BH];exact hm);have QY:fp≠mg:=λe=>(by subst e;rw[hf]at hg;cases hg);have h1g:H1[mg]?=some (setH G.aL):=(by rw[lI,T5 QY];exact hg);obtain⟨R2,sN⟩:∃R2,R2=({R1 with has:=true}:Kn):=⟨_,rfl⟩;have eL:AV.val (.bool true)::UD 1 (R1.l mp)=R2.l mp:=(by rw[sN];rfl);have JC:R2.aL=Q.aL:=(by rw[sN];exact BH);have ul:bF R2:=(by rw[sN];exact⟨ny.aA,ny.hours,ny.less,ny.aV,ny.first,ny.mv,ny.mb,ny.lV,ny.lX,ny.h4⟩);refine ak ?_;simp only[seval,fF xj,uY lN,Kn.apR];refine⟨by have:=Kn.len ny mp;omega,?_⟩;rw[eL];obtain⟨B,hB⟩:∃B:Kn->List (List Int)->List aa,∀K hs,B K hs=(H1.set fp (.cells (K.l mp) 88)).set mp (setH hs):=⟨_,λ_ _=>rfl⟩;have fS:∀K hs,(B K hs).length=H1.length:=λK hs=>(by rw[hB,TQ,TQ]);have Qg:∀K hs (L:List aa),(B K hs++L)[mp]?=some (.obj (.map (hs.zipIdx.map eI).toArray hs.length)):=λK hs L=>by
    rw[SW (by rw[fS];omega),hB,UT,if_pos rfl,if_pos (by rw[TQ];omega)];rfl
   have EF:∀K hs (L:List aa),(B K hs++L)[mg]?=some (.obj (.map (G.aL.zipIdx.map eI).toArray G.aL.length)):=λK hs L=>by
    rw[SW (by rw[fS];omega),hB,T5 (λe=>v5 e.symm),T5 QY,h1g];rfl
   have oi:∀K hs (L:List aa),(B K hs++L)[fp]?=some (.cells (K.l mp) 88):=λK hs L=>by
    rw[SW (by rw[fS];omega),hB,T5 (λe=>mf e.symm),UT,if_pos rfl,if_pos (by omega)]
   have ajd:∀K hs mj (L:List aa),(B K hs++L).set mp (setH mj)=B K mj++L:=λK hs mj L=>by
    rw[Wz _ _ (by rw[fS];omega),hB,hB,W9]
   have EG:∀K hs K' (L:List aa),(B K hs++L).set fp (.cells (K'.l mp) 88)=B K' hs++L:=λK hs K' L=>by
    rw[Wz _ _ (by rw[fS];omega),hB,hB,List.set_comm _ _ (λe=>mf e.symm),W9]
   have Qh:H1.set fp (.cells (R2.l mp) 88)=B R2 R2.aL:=by
    rw[hB];symm;exact qC (by rw[T5 mf,ED,JC,BH])
   have aS:∀K hs (L:List aa),(B K hs++L)[H1.length]?=L[0]?:=λK hs L=>(by rw[<- fS K hs];exact aW _ L 0);have de:∀K hs (L:List aa),(B K hs++L)[H1.length+1]?=L[1]?:=λK hs L=>(by rw[<- fS K hs];exact aW _ L 1);have ki:∀K hs (L:List aa),(B K hs++L)[H1.length+2]?=L[2]?:=λK hs L=>(by rw[<- fS K hs];exact aW _ L 2);have J7:(G.l mg).drop 1=.mp mg::((G.l mg).drop 2):=rfl;have Ql:∀K:Kn,(K.l mp).drop 1=.mp mp::((K.l mp).drop 2):=λ_=>rfl;have ce:∀(K:Kn)(hs:List (List Int)),bQ (B K hs):=λK hs=>by
    intro z hz;rw[fS];rw[hB]at hz;rcases UJ hz with hz|rfl
    ·rcases UJ hz with hz|rfl
     ·rw[lI]at hz;rcases UJ hz with hz|rfl
      ·exact cX▸hH z hz
      ·intro a ha;simp only[Kn.l,SL,SV,Tn]at ha;rcases ha with rfl|rfl|⟨_,_,rfl⟩|⟨_,_,rfl⟩|⟨_,_,rfl⟩|⟨_,_,rfl⟩|⟨_,_,rfl⟩
       ·exact .val _
       ·exact .mp (by omega)
       all_goals exact .val _
     ·intro a ha;simp only[Kn.l,SL,SV,Tn]at ha;rcases ha with rfl|rfl|⟨_,_,rfl⟩|⟨_,_,rfl⟩|⟨_,_,rfl⟩|⟨_,_,rfl⟩|⟨_,_,rfl⟩
      ·exact .val _
      ·exact .mp (by omega)
      all_goals exact .val _
    ·trivial
   have eo:∀(hs:List (List Int))(K:Kn)(L:List aa),hs.Perm G.aL->fJ Q hs G=K->cw H1.length (B K K.aL++L) (.aJ []) k:=λhs K L hp hK=>by
    have:=hk hs hp;rw[hK]at this;subst hK;refine jU (Wk.refl _) rfl (by rw[fS];exact SU _) (ce _ _) (by simp[iE]) ?_;rw[hB,lI,W9];exact this
   rw[Qh];clear hk Qh;refine ak ?_;simp only[seval,aS,J7,EF];rw[fS];have QF:∀K hs (L:List aa) z,(B K hs++L).set (H1.length+1) z=B K hs++L.set 1 z:=λK hs L z=>by
    rw[UO _ _ (by rw[fS];omega),fS,UR]
   have ajr:∀K hs (L:List aa) z,(B K hs++L).set (H1.length+2) z=B K hs++L.set 2 z:=λK hs L z=>by
    rw[UO _ _ (by rw[fS];omega),fS,UR]
   obtain⟨ts,dV⟩:∃ts,ts=G.aL.zipIdx:=⟨_,rfl⟩;obtain⟨ck,EX⟩:∃ck,ck=G.aL.length:=⟨_,rfl⟩;rw[<- dV,<- EX]at EF;rw[<- EX];have hb:∀y∈ts,y.2<ck:=λy hy=>(by rw[dV]at hy;have:=List.snd_lt_add_of_mem_zipIdx hy;omega);have Cc:(ts.map (·.2)).Nodup:=(by rw[dV,show (λy:List Int×Nat=>y.2)=Prod.snd from rfl,List.zipIdx_map_snd];exact List.nodup_range');have h4:∀y∈ts,y.1.length=4:=λy hy=>(by rw[dV]at hy;exact hG.h4 _ (Ds hy));have dX:=OD ts ck hb;have K3:ts.map (·.1)=G.aL:=(by rw[dV,show (λy:List Int×Nat=>y.1)=Prod.fst from rfl,List.zipIdx_map_fst]);clear dV;obtain⟨ac,EO⟩:∃ac:List (List Int×Nat)->List (List Int),∀vs,ac vs=vs.foldl (λa y=>jG a y.1) R2.aL:=⟨_,λ_=>rfl⟩;have Qy:ac []=R2.aL:=(by rw[EO];rfl);have JD:∀vs y,ac (vs++[y])=jG (ac vs) y.1:=λvs y=>(by rw[EO,EO,XP];rfl);obtain⟨i3,p_,po⟩:=F.i3;refine cJ ?_;refine yL (measure λvs:List (List Int×Nat)=>ts.length-vs.length).wf (λvs=>[]) (λvs=>B R2 (ac vs)++[.cells (G.l mg) 88,.iter mg ck (vs.map (·.2)).toArray ck]) (λvs=>(vs.map (·.2)).Nodup/\(∀y∈vs,y∈ts)/\∀h∈ac vs,h.length=4) [] (λ_ _=>rfl) (by simp) (by rw[Qy];rfl) (λ_ _=>by simp[fS]) ⟨by simp,by simp,by rw[Qy,JC];exact hQ.h4⟩ (λcp dz vs am R hR=> ?_);refine ak ?_;simp only[seval,de,EF,QF];refine⟨dX.elim .inl (λh=> .inr (.inl h)),λe he hn=> ?_,λhs=> ?_⟩
   ·obtain⟨y,hy,rfl⟩:∃y∈ts,eI y=e:=(by simpa using he);refine aD ?_;refine aN ?_;refine cJ ?_;have sL:=h4 y hy;have JL:(eI y).born=y.2:=rfl;have hlen:(y.1.map iv).length=4:=(by simp[sL]);have JV:UD 4 [AV.val (SG SF 0),AV.val (SG SF 0),AV.val (SG SF 0),AV.val (SG SF 0)]=[]:=rfl;refine ak ?_;simp only[seval,de,EF,QF,ajr,ki,fS,Array.back?_push,JL,PK Cc hy,abc,sL,hlen,JV];refine eO 10 ?_;simp only[seval,oi,Ql,Qg,ki,hlen,sL];have Sb:Un 4 (y.1.map iv)=y.1.map iv:=SY (by omega);have Jn:∀z∈(ac vs).zipIdx,z.1.length=4:=λz hz=>am.2.2 _ (Ds hz);have Fa:=acK (ts:=(ac vs).zipIdx) F.Di F.u3 p_ po sL Jn;have EW:=λb=>acG (b:=b) (k:=.i64) (d:=9998) F.Di F.u3 p_ po sL;have FC:((vs.map (·.2)).toArray.push y.2)=((vs++[y]).map (·.2)).toArray:=(by simp);have La:y.2∉vs.map (·.2):=(by simpa[eI]using hn);have sZ:((vs++[y]).map (·.2)).Nodup/\(∀z∈vs++[y],z∈ts)/\∀h∈ac (vs++[y]),h.length=4:=by
     refine⟨?_,λz hz=> ?_,λh hh=> ?_⟩
     ·rw[TF,U8];refine⟨am.1,by simp,λa ha b hb=> ?_⟩;simp at hb;subst hb;intro e;subst e;exact La ha
     ·rcases SV.1 hz with h|h
      ·exact am.2.1 z h
      ·rw[Tb.1 h];exact hy
     ·rw[JD,jG]at hh;split at hh
      ·exact am.2.2 _ hh
      ·rcases SV.1 hh with h'|h'
       ·exact am.2.2 _ h'
       ·rw[Tb.1 h'];exact sL
    have hlen:vs.length<ts.length:=by
     have h1:(vs++[y]).Nodup:=CS _ sZ.1;have:=h1.length_le_of_subset sZ.2.1;simp at this;omega
    have rG:ts.length-(vs++[y]).length<ts.length-vs.length:=(by simp;omega);have Fv:∀sn,bQ (B R2 (ac (vs++[y]))++[aa.cells (G.l mg) 88,aa.iter mg ck sn ck]):=λsn z hz=>by
     rcases SV.1 hz with h|h
     ·exact(ce _ _ z h).mono (by simp)
     ·have Jt:∀a∈G.l mg,Lt H1.length a:=λa ha=>by
       simp only[Kn.l,SL,SV,Tn]at ha;rcases ha with rfl|rfl|⟨_,_,rfl⟩|⟨_,_,rfl⟩|⟨_,_,rfl⟩|⟨_,_,rfl⟩|⟨_,_,rfl⟩
       ·exact .val _
       ·exact .mp (by omega)
       all_goals exact .val _
      simp only[SL,S4,or_false]at h;rcases h with rfl|rfl
      ·intro a ha;exact(Jt a ha).mono (by simp[fS])
      ·show mg<_;simp[fS];omega
    rw[Sb];refine ew F.NS (ew (yf _) ⟨EW _,_,Fa,?_⟩);rcases I7 (x:=y.1) (hs:=ac vs)with⟨h,xK⟩|⟨i',b,h,h2,xK⟩
    ·rw[h];(try simp only[seval,AV.found]);refine ai ?_;refine aD ?_;refine eO 5 ?_;simp only[seval,oi,Ql,Qg,ki,hlen,sL];rw[Sb];refine ew (yf _) (ew rfl ⟨EW _,_,Fa,?_,?_⟩)
     ·intro i v xE;rw[h]at xE;cases xE
     ·rw[h,abz,<- ab6,ajd,show ac vs++[y.1]=ac (vs++[y]) by rw[JD,jG,if_neg xK],FC];refine hR _ ⟨vs++[y],rG,sZ,?_⟩;exact Ag (qv rfl rfl) (by simp only[seval]<;>simp[bA,Wk.refl]) (Fv _) (by simp[eG])
    ·rw[h];(try simp only[seval,AV.found]);refine ai ?_;refine aD ?_;refine aN ?_;rw[show ac vs=ac (vs++[y]) by rw[JD,jG,if_pos xK],FC];refine hR _ ⟨vs++[y],rG,sZ,?_⟩;exact Ag (qv rfl rfl) (by simp only[seval]<;>simp[bA,Wk.refl]) (Fv _) (by simp[eG])
   ·have hp:vs.Perm ts:=abU am.1 Cc am.2.1 λy hy=>by
     have:=hs (eI y) (by simp;exact⟨y.1,y.2,hy,rfl⟩) (hb y hy);simpa[eI]using this
    refine aD ?_;refine bU ?_;obtain⟨K,hK⟩:∃K:Nat->Nat->Kn,∀i j,K i j={R2 with aA:=nS R2.aA G.aA i,hours:=nS R2.hours G.hours i,less:=nS R2.less G.less i,aV:=nS R2.aV G.aV j}:=⟨_,λ_ _=>rfl⟩;have Qk:K 0 0=R2:=(by rw[hK];rfl);refine ai ?_;refine cJ ?_;refine gP 4 (λi:Nat=>[(57,iv i)]) (λi=>B (K i 0) (ac vs)++[.cells (G.l mg) 88,.iter mg ck (vs.map (·.2)).toArray ck]) (λi=>bF (K i 0)) (λ_ _=>rfl) (by simp only[seval];simp[bA,Wk.refl]) (by rw[Qk]) (λ_ _ _=>by simp[fS]) (by rw[Qk];exact ul) (λasO asS i cW uA R hR=> ?_);refine ai ?_;refine aD ?_;refine⟨λh=> ?_,λh=> ?_⟩
    ·have bG:i<4:=(by omega);obtain⟨a1,ri⟩:=cz (xs:=(K i 0).aA) (i:=i) (by have:=uA.aA;omega);obtain⟨a2,BJ⟩:=cz (xs:=(K i 0).hours) (i:=i) (by have:=uA.hours;omega);obtain⟨a3,EN⟩:=cz (xs:=(K i 0).less) (i:=i) (by have:=uA.less;omega);obtain⟨c1,dt⟩:=cz (xs:=G.aA) (i:=i) (by have:=hG.aA;omega);obtain⟨c2,cE⟩:=cz (xs:=G.hours) (i:=i) (by have:=hG.hours;omega);obtain⟨c3,dS⟩:=cz (xs:=G.less) (i:=i) (by have:=hG.less;omega);have CG:=uA.mv _ (Tf ri);have la2:=uA.mb _ (Tf BJ);have la3:=uA.lV _ (Tf EN);have CI:=hG.mv _ (Tf dt);have lc2:=hG.mb _ (Tf cE);have lc3:=hG.lV _ (Tf dS);have b4:(0<=(i:Int)/\(i:Int)<4)=True:=(by simp;omega);have bZ:SF.wrap ((i:Int)+1)=((i+1:Nat):Int):=(by rw[bI _ (by omega)];rfl);refine aN ?_;refine ai ?_;obtain⟨Ka,BG⟩:∃Ka,Ka=({K i 0 with aA:=(K i 0).aA.set i (a1|||c1)}:Kn):=⟨_,rfl⟩;have Gw:bF Ka:=(by rw[BG];exact uA.aca (pD CG CI));have sa:=Kn.aba (F:=K i 0) (mp:=mp) (p:=i) (v:=a1|||c1) (eX ri);rw[<- BG]at sa;refine eO 13 ?_;simp only[seval,oi,aS,b4,Kn.Gu ri,Kn.Gu dt,A3,GH CG CI,Kn.len uA mp];refine⟨by omega,?_⟩;rw[sa,EG];obtain⟨Kb,EI⟩:∃Kb,Kb=({Ka with hours:=Ka.hours.set i (a2|||c2)}:Kn):=⟨_,rfl⟩;have Gx:bF Kb:=(by rw[EI];exact Gw.ab8 (pD la2 lc2));have xu:Ka.hours[i]?=some a2:=(by rw[BG];exact BJ);have sb:=Kn.RM Gw (mp:=mp) (p:=i) (v:=a2|||c2) (eX xu);rw[<- EI]at sb;refine eO 13 ?_;simp only[seval,oi,aS,b4,Kn.Fx Gw xu,Kn.Fx hG cE,A3,GH la2 lc2,Kn.len Gw mp];refine⟨by omega,?_⟩;rw[sb,EG];have EQ:Kb.less[i]?=some a3:=(by rw[EI,BG];exact EN);have sc:=Kn.aau Gx (mp:=mp) (p:=i) (v:=a3|||c3) (eX EQ);have xn:({Kb with less:=Kb.less.set i (a3|||c3)}:Kn)=K (i+1) 0:=by
      rw[EI,BG,hK (i+1)];simp only[hK]at ri BJ EN⊢;rw[GG ri dt,GG BJ cE,GG EN dS]
     have Md:bF (K (i+1) 0):=(by rw[<- xn];exact Gx.ab9 (pD la3 lc3));rw[xn]at sc;refine eO 13 ?_;simp only[seval,oi,aS,b4,Kn.CK Gx EQ,Kn.CK hG dS,A3,GH la3 lc3,Kn.len Gx mp];refine⟨by omega,?_⟩;rw[sc,EG];refine ak ?_;simp only[seval,bZ];exact hR _ ⟨bG,Md,dE⟩
    ·have cS:i=4:=(by omega);subst cS;refine bU ?_;refine ai ?_;refine cJ ?_;refine gP 3 (λi:Nat=>[(103,iv i)]) (λj=>B (K 4 j) (ac vs)++[.cells (G.l mg) 88,.iter mg ck (vs.map (·.2)).toArray ck]) (λj=>bF (K 4 j)) (λ_ _=>rfl) (by simp only[seval];simp[bA,Wk.refl]) rfl (λ_ _ _=>by simp[fS]) uA (λasP asT j o_ zy R hR=> ?_);refine ai ?_;refine aD ?_;refine⟨λh=> ?_,λh=> ?_⟩
     ·have eR:j<3:=(by omega);obtain⟨a1,ri⟩:=cz (xs:=(K 4 j).aV) (i:=j) (by have:=zy.aV;omega);obtain⟨c1,dt⟩:=cz (xs:=G.aV) (i:=j) (by have:=hG.aV;omega);have CG:=zy.lX _ (Tf ri);have CI:=hG.lX _ (Tf dt);have b3:(0<=(j:Int)/\(j:Int)<3)=True:=(by simp;omega);have bZ:SF.wrap ((j:Int)+1)=((j+1:Nat):Int):=(by rw[bI _ (by omega)];rfl);refine aN ?_;refine ai ?_;have sa:=Kn.abr zy (mp:=mp) (p:=j) (v:=a1|||c1) (eX ri);have xn:({K 4 j with aV:=(K 4 j).aV.set j (a1|||c1)}:Kn)=K 4 (j+1):=by
       rw[hK 4 (j+1)];simp only[hK]at ri⊢;rw[GG ri dt]
      have Md:bF (K 4 (j+1)):=(by rw[<- xn];exact zy.G3 (pD CG CI));rw[xn]at sa;refine eO 13 ?_;simp only[seval,oi,aS,b3,Kn.C1 zy ri,Kn.C1 hG dt,A3,GH CG CI,Kn.len zy mp];refine⟨by omega,?_⟩;rw[sa,EG];refine ak ?_;simp only[seval,bZ];exact hR _ ⟨eR,Md,dE⟩
     ·have Km:j=3:=(by omega);subst Km;refine bU ?_;have KJ:(vs.map (·.1)).Perm G.aL:=by
       have:=hp.map (·.1);rw[K3]at this;exact this
      have aji:ac vs=(vs.map (·.1)).foldl jG Q.aL:=(by rw[EO,JC,List.foldl_map]);have hJ:fJ Q (vs.map (·.1)) G={K 4 3 with aL:=ac vs}:=by
       have e2:R2=⟨true,Q.aL,Q.aA,Q.hours,Q.less,Q.aV,if Q.has=false\/sB G.first Q.first=true then G.first else Q.first⟩:=by
        rw[sN,p7];split<;>rfl
       rw[fJ,if_pos J_,hK,GF (by rw[ul.aA,hG.aA]) ul.aA,GF (by rw[ul.hours,hG.hours]) ul.hours,GF (by rw[ul.less,hG.less]) ul.less,GF (by rw[ul.aV,hG.aV]) ul.aV,aji,e2]
      have:=eo (vs.map (·.1)) _ [.cells (G.l mg) 88,.iter mg ck (vs.map (·.2)).toArray ck] KJ hJ;rw[show B ({K 4 3 with aL:=ac vs}:Kn) (ac vs)=B (K 4 3) (ac vs) by rw[hB,hB];rfl]at this;exact this
open Go.Conc Go.Proofs Go.Gg.Tk
namespace Tk
theorem yH{l:List Nat}{i v:Nat}:(oR l i v).length=l.length:=by simp[oR]
theorem DY{l:List Nat}{i v:Nat}(h:∀n∈l,n<65536)(hv:v<16):∀n∈oR l i v,n<65536:=by
 refine CO h (pD ?_ (wH hv));rw[SE];cases hi:l[i]?with
 |none=>exact(by decide:0<65536)
 |some a=>exact h _ (Tf hi)
theorem aqM{x:aj}{t:List Int}(ht:jv x t){p:Nat}(hp:p<x.pieces.length):mz t p<16:=by
 obtain⟨n,h1,h2,_⟩:=ht.num p hp;unfold mz;rw[SE,h1];show n<16;omega
theorem aqL{t:List Int}(h:t.length=11){p:Nat}:tK t p<16:=by
 unfold tK;have h5:gK (t.take 4) (t.getD (4+p) 0+t.getD 0 0)<0+(t.take 4).length:=acZ;have:(t.take 4).length=4:=by simp[h]
 omega
theorem aqN{x:aj}{t:List Int}(ht:jv x t){s:Nat}(hs:s<x.aB.length):rY t s<16:=by
 obtain⟨n,h1,h2⟩:=ht.own s hs;unfold rY;rw[SE,h1];show n<16;omega
theorem abq{x:aj}{t:List Int}(ht:jv x t){l:List Nat}(hl:∀n∈l,n<65536):∀{s:Nat},s<=x.aB.length->(mW t s l).length=l.length/\∀n∈mW t s l,n<65536
 |0,_=>⟨rfl,hl⟩
 |s+1,h=>by
  obtain⟨h1,h2⟩:=abq ht hl (s:=s) (by omega);exact⟨yH.trans h1,DY h2 (aqN ht (by omega))⟩
theorem aa5{x:aj}{t:List Int}(ht:jv x t){l:List Nat}(hl:∀n∈l,n<65536):∀{s:Nat},s<=x.pieces.length->(rR t s l).length=l.length/\∀n∈rR t s l,n<65536
 |0,_=>⟨rfl,hl⟩
 |s+1,h=>by
  obtain⟨h1,h2⟩:=aa5 ht hl (s:=s) (by omega);exact⟨yH.trans h1,DY h2 (aqM ht (by omega))⟩
theorem RJ{t:List Int}(ht:t.length=11){l:List Nat}(hl:∀n∈l,n<65536):∀{s:Nat},(rD t s l).length=l.length/\∀n∈rD t s l,n<65536
 |0=>⟨rfl,hl⟩
 |s+1=>by
  obtain⟨h1,h2⟩:=RJ ht hl (s:=s);exact⟨yH.trans h1,DY h2 (aqL ht)⟩
theorem aas{t:List Int}{p:Nat}{l:List Nat}(hl:∀n∈l,n<65536):∀{q:Nat},q<=4->(pz t p q l).length=l.length/\∀n∈pz t p q l,n<65536
 |0,_=>⟨rfl,hl⟩
 |q+1,h=>by
  obtain⟨h1,h2⟩:=aas hl (q:=q) (t:=t) (p:=p) (by omega);unfold pz;split
  ·exact⟨yH.trans h1,DY h2 (by omega)⟩
  ·exact⟨h1,h2⟩
theorem aaq{t:List Int}{k:Nat}(hk:k<=4){l:List Nat}(hl:∀n∈l,n<65536):∀{p:Nat},(py t k p l).length=l.length/\∀n∈py t k p l,n<65536
 |0=>⟨rfl,hl⟩
 |p+1=>by
  obtain⟨h1,h2⟩:=aaq hk hl (p:=p) (t:=t);obtain⟨h3,h4⟩:=aas h2 (t:=t) (p:=p) hk;exact⟨h3.trans h1,h4⟩
theorem abw{hs:List (List Int)}{h:List Int}(h1:∀y∈hs,y.length=4)(h2:h.length=4):∀y∈jG hs h,y.length=4:=λy hy=>by
 unfold jG at hy;split at hy
 ·exact h1 y hy
 ·rcases SV.1 hy with h'|h'
  ·exact h1 y h'
  ·rw[Tb.1 h'];exact h2
theorem M_{x:aj}{deep:Int}{Q:Kn}{t:List Int}(hx:x.Ok)(ht:jv x t)(hQ:bF Q):bF (ej x deep Q t):=by
 have hB:=Ot hQ ht.len;unfold ej;dsimp only;generalize jQ Q t=R at hB;split
 ·obtain⟨h1,h2⟩:=abq ht hB.lX (SU _);exact⟨hB.aA,hB.hours,hB.less,h1.trans hB.aV,hB.first,hB.mv,hB.mb,hB.lV,h2,hB.h4⟩
 ·split
  ·exact⟨hB.aA,hB.hours,hB.less,hB.aV,hB.first,hB.mv,hB.mb,hB.lV,hB.lX,abw hB.h4 (by simp[ht.len])⟩
  ·obtain⟨h1,h2⟩:=aa5 ht hB.mv (SU _);obtain⟨h3,h4⟩:=RJ ht.len hB.mb (s:=x.pieces.length);obtain⟨h5,h6⟩:=aaq (t:=t) hx.cT hB.lV (p:=x.pieces.length);exact⟨h1.trans hB.aA,h3.trans hB.hours,h5.trans hB.less,hB.aV,hB.first,h2,h4,h6,hB.lX,hB.h4⟩
theorem Nj{x:aj}{deep:Int}{h t:List Int}(ht:t∈jo x deep h):∃ns∈f_ x h,t∈(iy x h ns).map (di h ns):=by
 have key:t∈((f_ x h).map λns=>(iy x h ns).map λos=>di h ns os).flatten:=by
  unfold jo at ht;dsimp only at ht;split at ht
  ·exact Wu ht
  ·split at ht
   ·obtain⟨l,h1,h2⟩:=XO.1 ht;obtain⟨m,h3,rfl⟩:=Tn.1 h1;exact XO.2 ⟨m,h3,Wu h2⟩
   ·exact ht
 obtain⟨l,h1,h2⟩:=XO.1 key;obtain⟨ns,h3,rfl⟩:=Tn.1 h1;exact⟨ns,h3,h2⟩
theorem CF:bF Kn.zero:=by
 have h0:∀k:Nat,∀n∈TL k 0,n<65536:=λk n h=>by rw[(Xy.1 h).2];decide
 exact⟨rfl,rfl,rfl,rfl,rfl,h0 4,h0 4,h0 4,h0 3,λh hh=>by cases hh⟩
theorem Jf{x:aj}{deep:Int}(hx:x.Ok):∀{ts:List (List Int)}{Q:Kn},(∀t∈ts,jv x t)->bF Q->bF (ts.foldl (ej x deep) Q)
 |[],Q,_,h=>h
 |t::ts,Q,ht,h=>by rw[UY];exact Jf hx (λu hu=>ht u (by simp[hu])) (M_ hx (ht t (by simp)) h)
end Tk
theorem xY{K:Kn}{mp m:Nat}(h:mp<m):∀a∈K.l mp,Lt m a:=λa ha=>by
 simp only[Kn.l,SL,SV,Tn]at ha;rcases ha with rfl|rfl|⟨_,_,rfl⟩|⟨_,_,rfl⟩|⟨_,_,rfl⟩|⟨_,_,rfl⟩|⟨_,_,rfl⟩
 ·exact .val _
 ·exact .mp h
 all_goals exact .val _
theorem F7{K:Kn}{mp m:Nat}(h:∀a∈K.l mp,Lt m a):mp<m:=by
 cases h (.mp mp) (by simp[Kn.l]);assumption
def cs:T7->T7
 |.seq _ c=>c
 |_=> .skip
def cf:T7->T7
 |.seq c _=>c
 |_=> .skip
noncomputable def aae:T7:=att.body.getD .skip
def uM (x:aj)(bh:Nat)(deep:Int)(c:Nat)(w:SO):List (Nat×AV):=[(12,.fn (.func 86) [] [.op 2 0,.op 3 0]),(5,.op 1 0),(0,.val w),(1,.rp x.l),(2,.rp [iv bh]),(3,.rp [iv deep]),(4,.rp [.val (.chan (some c))])]
def wh (x:aj)(bh:Nat)(K:Kn):List aa:=[setH K.aL,.cells (K.l 0) 88,.cells x.l 76,.cells [iv bh] 3]
theorem aly{lv:Bool}{x:aj}{bh c:Nat}{w:SO}{deep:Int}{bs:List UX}(hx:x.Ok)(lS:bh<=3)(hA:∀h∈kG x bh,mD h/\∀ns∈f_ x h,∀a∈(iy x h ns).map (di h ns),jv x a)(Φ:ao->AS->List Nat->Prop)(hΦ:Φ .normal ⟨uM x bh deep c w,wh x bh (gL x deep bh)++[.obj (.deferred (some [])),.gone]⟩ [4]):
  kz lv SC 25 bs (cs (cf (cs (cs aae)))) ⟨uM x bh deep c w,wh x bh Kn.zero⟩ [] Φ:=by
 unfold aae att;dsimp only[S8,cs,cf];refine w5 ?_;refine Ic (by rfl) λl fn T ag bo hT xq p8=> ?_;(try simp only[seval,wh]);simp only[uM,iv]at hT;have bO:x.l=[iv x.first,iv x.hours,iv x.an,ek x.seen,bi x.pieces,bi x.aB]:=rfl;obtain⟨Gf,uk⟩:∃Gf:Kn->List aa,∀K,Gf K=[setH K.aL,.cells (K.l 0) 88,.cells x.l 76,.cells [iv bh] 3,.obj (.deferred (some [])),.loop l .ready none fn T 25 #[13] ag bo 4]:=⟨_,λ_=>rfl⟩;have Jt:∀K,(Gf K).length=6:=λK=>by rw[uk];rfl
 have aje:∀m K K',(∀z∈Gf K,fj m z)->∀z∈Gf K',fj m z:=λm K K' hz z fh=>by
  rw[uk]at hz fh;have h1:=hz (.cells (K.l 0) 88) (by simp);simp only[SL,S4,or_false]at fh;rcases fh with rfl|rfl|rfl|rfl|rfl|rfl
  ·trivial
  ·exact xY (F7 h1)
  ·exact hz _ (by simp)
  ·exact hz _ (by simp)
  ·exact hz _ (by simp)
  ·exact hz _ (by simp)
 have hY:jP lv SC (.fn (.yield l) [] []) (λK h=> .go ((jo x deep h).foldl (ej x deep) K)) Gf 6 bF (λh=>mD h/\∀ns∈f_ x h,∀a∈(iy x h ns).map (di h ns),jv x a) (.aJ []):=by
  refine⟨λK h M k kp hK ha dH=> ?_,λK h K' hK ha he=> ?_,Jt,aje,rfl,rfl,rfl⟩
  ·obtain⟨o6,Cr⟩:=ha;have h4:=o6.len;have nw:(h.map iv).length=4:=(by rw[To,h4]);obtain⟨Lo,ld⟩:∃Lo,Lo=aa.loop l .busy none fn T 25 #[13] ag bo 4:=⟨_,rfl⟩;obtain⟨P1,dA⟩:∃P1:Kn->List aa,∀K,P1 K=[setH K.aL,.cells (K.l 0) 88,.cells x.l 76,.cells [iv bh] 3,.obj (.deferred (some [])),Lo]++M:=⟨_,λ_=>rfl⟩;have eE:∀K,(P1 K).length=6+M.length:=λK=>(by rw[dA];simp;omega);have pg:∀(K:Kn)(L:List aa)(i:Nat),i<6->(P1 K++L)[i]?=[setH K.aL,aa.cells (K.l 0) 88,.cells x.l 76,.cells [iv bh] 3,.obj (.deferred (some [])),Lo][i]?:=λK L i Kh=>by
    rw[dA,SD,SW (by simpa using Kh)]
   have pb:∀(K:Kn)(L:List aa)(i:Nat),(P1 K++L)[6+M.length+i]?=L[i]?:=λK L i=>(by rw[<- eE K,aW]);have wz:∀(K:Kn)(L:List aa),(P1 K++L)[6+M.length]?=L[0]?:=λK L=>pb K L 0;have pF:∀(K:Kn)(L:List aa)(y:aa),(P1 K++L).set (6+M.length+4) y=P1 K++L.set 4 y:=λK L y=>(by rw[<- eE K,ez]);have s5:∀(K:Kn)(L:List aa) y,(P1 K++L).set 5 y=[setH K.aL,.cells (K.l 0) 88,.cells x.l 76,.cells [iv bh] 3,.obj (.deferred (some [])),y]++M++L:=λK L y=>(by rw[dA];rfl);have zZ:∀(K K':Kn)(L L':List aa),L'.length=L.length->(∀q,(∀z∈L,fj q z)->∀z∈L',fj q z)->bQ (P1 K++L)->bQ (P1 K'++L'):=λK K' L L' hl hL hH z hz=>by
    have hlen:(P1 K'++L').length=(P1 K++L).length:=(by simp[eE,hl]);rw[hlen];rcases SV.1 hz with h'|h'
    ·rw[dA]at h';rcases SV.1 h' with h'|h'
     ·have h1:=hH (.cells (K.l 0) 88) (by rw[dA];simp);have hq:∀w∈[setH K.aL,aa.cells (K.l 0) 88,.cells x.l 76,.cells [iv bh] 3,.obj (.deferred (some [])),Lo],fj (P1 K++L).length w:=λw hw=>hH w (by rw[dA,SD];exact Th _ hw);simp only[SL,S4,or_false]at h';rcases h' with rfl|rfl|rfl|rfl|rfl|rfl
      ·trivial
      ·exact xY (F7 h1)
      ·exact hq _ (by simp)
      ·exact hq _ (by simp)
      ·exact hq _ (by simp)
      ·exact hq _ (by simp)
     ·exact hH z (by rw[dA];simp[h'])
    ·exact hL _ (λw hw=>hH w (S5 _ hw)) z h'
   simp only[c_]at dH;rw[uk]at dH;rw[uk];subst hT xq p8;refine vC (id:=5) (by rfl) rfl (by kernel_rfl) λoo Jp=> ?_;simp only[sf];have vX:UD 4 [iv 0,iv 0,iv 0,iv 0]=[]:=rfl;refine ak ?_;simp only[seval,uM,h4,vX];unfold tT;refine⟨none,fn,_,25,#[13],_,_,_,by rfl,?_⟩;dsimp only;simp only[UC,TY];rw[<- ld];have xk:M.length+1+1+1+1+1+1=6+M.length:=(by omega);rw[xk];have xB:∀z:aa,(setH K.aL::aa.cells (K.l 0) 88::aa.cells x.l 76::aa.cells [AV.val (SG SF ↑bh)] 3::aa.obj (atI (some []))::Lo::(M++[z]))=P1 K++[z]:=λz=>(by rw[dA];rfl);rw[xB];refine ak ?_;simp only[seval,bO,wz,h4,nw];rw[SY (i:=4) (l:=h.map iv) (by rw[nw];exact SU _)];refine aK ((I0 (x:=x) (h:=h) (deep:=deep) ?_));(try simp only[seval]);refine cJ ?_;have qe:∀(K:Kn)(a b c d:aa),(P1 K++[a,b,c,d]).length=6+M.length+4:=λK a b c d=>(by simp[eE]);refine D6 5 (by rfl) (by show (P1 K++_)[5]?=_;rw[pg K _ 5 (by omega),ld];rfl) λl2 eW T2 gE gF oq xr xv=> ?_;simp only[seval];rw[eE]at oq⊢;have xp:jP lv SC (.fn (.yield l2) [] []) (λK t=> .go (ej x deep K t)) (λK=>P1 K++[.cells (h.map iv) 83,.cells x.l 76,.cells (h.map iv) 83,.cells [iv deep] 3,.loop l2 .ready none eW T2 25 #[18] gE gF 4]) (6+M.length+5) bF (jv x) (.aJ []):=by
    refine⟨λK' t M2 k2 xZ Jw ht lj=> ?_,λK' t AG Jw ht he=> ?_,λK'=>by simp[eE],λq K' AG hz z fh=> ?_,rfl,rfl,rfl⟩
    ·have qq:=ht.len;have zL:(t.map iv).length=11:=(by rw[To,qq]);obtain⟨pK,sM⟩:∃Lo,Lo=aa.loop l2 .busy none eW T2 25 #[18] gE gF 4:=⟨_,rfl⟩;obtain⟨Q1,gp⟩:∃Q1:Kn->List aa,∀K,Q1 K=P1 K++([.cells (h.map iv) 83,.cells x.l 76,.cells (h.map iv) 83,.cells [iv deep] 3,pK]++M2):=⟨_,λ_=>rfl⟩;obtain⟨C,hC⟩:∃C,C=6+M.length+5+M2.length:=⟨_,rfl⟩;have JB:∀K,(Q1 K).length=C:=λK=>(by rw[gp,hC];simp[eE];omega);have lZ:∀(K:Kn)(L:List aa),(P1 K++L)[6+M.length+4]?=L[4]?:=λK L=>pb K L 4;have q0:∀(K:Kn)(L:List aa),(Q1 K++L)[0]?=some (setH K.aL):=λK L=>(by rw[gp,SD];exact pg K _ 0 (by omega));have q1:∀(K:Kn)(L:List aa),(Q1 K++L)[1]?=some (.cells (K.l 0) 88):=λK L=>(by rw[gp,SD];exact pg K _ 1 (by omega));have q4:∀(K:Kn)(L:List aa),(Q1 K++L)[6+M.length+4]?=some pK:=λK L=>(by rw[gp,SD,lZ];rfl);have qc:∀(K:Kn)(L:List aa),(Q1 K++L)[C]?=L[0]?:=λK L=>(by rw[<- JB K];exact aW _ L 0);have MK:∀(K:Kn)(L:List aa)(y:aa),(Q1 K++L).set (6+M.length+4) y=(P1 K++([.cells (h.map iv) 83,.cells x.l 76,.cells (h.map iv) 83,.cells [iv deep] 3,y]++M2))++L:=λK L y=>(by rw[gp,SD,pF];simp);have aoQ:∀(K K':Kn)(L:List aa),((Q1 K++L).set 1 (.cells (K'.l 0) 88)).set 0 (setH K'.aL)=Q1 K'++L:=λK K' L=>(by rw[gp,gp,dA,dA];rfl);have eK:∀(AG:Kn),bQ (P1 K'++([.cells (h.map iv) 83,.cells x.l 76,.cells (h.map iv) 83,.cells [iv deep] 3,.loop l2 .ready none eW T2 25 #[18] gE gF 4]++M2))->bQ (P1 AG++([.cells (h.map iv) 83,.cells x.l 76,.cells (h.map iv) 83,.cells [iv deep] 3,.loop l2 .ready none eW T2 25 #[18] gE gF 4]++M2)):=λAG im=>zZ K' AG _ _ rfl (λq hz=>hz) im;simp only[c_]at lj;have J4:∀z:aa,P1 K'++(aa.cells (U2 iv h) 83::aa.cells x.l 76::aa.cells (U2 iv h) 83::aa.cells [AV.val (SG SF deep)] 3::pK::(M2++[z]))=Q1 K'++[z]:=λz=>(by rw[gp];simp[iv]);subst oq xr xv;rw[SD];refine vC (id:=6+M.length+4) (by rw[lZ];rfl) rfl (by kernel_rfl) λrh Jq=> ?_;simp only[sf];have BW:UD 11 [iv 0,iv 0,iv 0,iv 0,iv 0,iv 0,iv 0,iv 0,iv 0,iv 0,iv 0]=[]:=rfl;refine ak ?_;simp only[seval,qq,BW];unfold tT;refine⟨none,eW,_,25,#[18],_,_,_,by rw[lZ];rfl,?_⟩;dsimp only;rw[pF];simp only[UC,TY];rw[<- sM];have Bx:(P1 K').length+(M2.length+1+1+1+1+1)=C:=(by rw[eE,hC];omega);rw[Bx];have iO:∀z:aa,(P1 K'++aa.cells (U2 iv h) 83::aa.cells x.l 76::aa.cells (U2 iv h) 83::aa.cells [AV.val (SG SF deep)] 3::pK::(M2++[z]))=Q1 K'++[z]:=J4;rw[iO];refine ak ?_;simp only[seval,bO,qc,qq,zL];rw[SY (i:=11) (l:=t.map iv) (by rw[zL];exact SU _)];refine aK ((aif (x:=x) (t:=t) (deep:=deep) (fp:=1) (mp:=0) (Q:=K') hx ht Jw (by decide) (q1 K' _) (q0 K' _) ?_));rw[aoQ];(try simp only[seval]);show oQ _ _ _ _ _ _ _;refine⟨l2,.busy,none,eW,_,25,#[18],_,_,4,by show (Q1 _++_)[_]?=_;rw[q4,sM],?_⟩;show cw C ((Q1 _++_).set _ _) _ k2;rw[MK];rw[SD]at lj;exact jU (G:=[.cells (t.map iv) 86]) (Wk.refl _) rfl (by rw[hC];simp[eE];omega) (eK _ rh) (.val _) lj
    ·cases he;exact M_ hx ht Jw
    ·rcases SV.1 fh with h'|h'
     ·have h1:=hz (.cells (K'.l 0) 88) (by rw[dA];simp);rw[dA]at h';rcases SV.1 h' with h'|h'
      ·simp only[SL,S4,or_false]at h';rcases h' with rfl|rfl|rfl|rfl|rfl|rfl
       ·trivial
       ·exact xY (F7 h1)
       all_goals exact hz _ (by rw[dA];simp)
      ·exact hz z (by rw[dA];simp[h'])
     ·exact hz z (S5 _ h')
   refine cO (I3 (x:=x) (h:=h) (deep:=deep) (ir:=6+M.length+1) (ih:=6+M.length+1+1) (id:=6+M.length+1+2) (σ:=K) hx o6 xp (λK L=> ?_) (λK L=> ?_) (λK L=> ?_) (λn=>by simp[iE]) hK (λa ha=>ha.len) Cr ?_)
   ·rw[SD];exact pb _ _ 1
   ·rw[SD];exact pb _ _ 2
   ·rw[SD];exact pb _ _ 3
   rw[C3 (g:=ej x deep) (λ_ _=>rfl)];simp only[gg,SZ];have lZ:∀(K:Kn)(L:List aa),(P1 K++L)[6+M.length+4]?=L[4]?:=λK L=>pb K L 4;refine⟨.ready,none,_,_,_,_,_,_,_,by rw[lZ];rfl,by decide,?_⟩;rw[pF,GN];(try simp only[seval]);show oQ _ _ _ _ _ _ _;have asQ:=ld;refine⟨l,.busy,none,fn,_,25,#[13],_,_,4,by show (P1 _++_)[_]?=_;rw[pg _ _ 5 (by omega),ld];rfl,?_⟩;show cw (6+M.length) ((P1 _++_).set _ _) _ k;rw[s5];refine jU (G:=[.cells (h.map iv) 83,.cells x.l 76,.cells (h.map iv) 83,.cells [iv deep] 3,.gone]) (Wk.refl _) rfl (by simp;omega) ?_ (.val _) dH;intro z hz;have h1:=oo (.cells (K.l 0) 88) (by simp);have hlen:∀(y:aa),([setH (ad' (ej x deep) K (jo x deep h)).aL,aa.cells ((ad' (ej x deep) K (jo x deep h)).l 0) 88,.cells x.l 76,.cells [iv bh] 3,.obj (.deferred (some [])),y]++M).length=(setH K.aL::aa.cells (K.l 0) 88::aa.cells x.l 76:: .cells [iv bh] 3:: .obj (.deferred (some []))::y::M).length:=λy=>rfl;rcases SV.1 hz with h'|h'
   ·simp only[SL,S4,or_false]at h';rcases h' with rfl|rfl|rfl|rfl|rfl|rfl
    ·trivial
    ·exact xY (F7 h1)
    all_goals exact oo _ (by simp)
   ·exact oo z (by simp[h'])
  ·cases he;exact Jf hx (λt ht=>by obtain⟨ns,h1,h2⟩:=Nj ht;exact ha.2 ns h1 t h2) hK
 have hgo:bC (λK h=>dF.go ((jo x deep h).foldl (ej x deep) K)) (kG x bh) Kn.zero=.go (gL x deep bh):=by
  rw[C3 (g:=λK h=>(jo x deep h).foldl (ej x deep) K) (λ_ _=>rfl),gL,List.foldl_flatMap]
 refine Ij (by kernel_rfl) ?_;have e0:=uk Kn.zero;simp only[iv]at e0;rw[<- e0];refine I1 (lv:=lv) (x:=x) (bh:=bh) (N:=6) (ir:=2) (it:=3) (σ:=Kn.zero) hx hY (λK L=>by rw[uk];rfl) (λK L=>by rw[uk];rfl) lS (λn=>by simp[iE]) CF hA ?_;rw[hgo];simp only[gg,SZ];refine⟨.ready,none,_,_,_,_,_,_,_,by rw[uk];rfl,by decide,?_⟩;rw[uk,GM];exact hΦ
open Go.Conc
inductive Ht where
 |z
 |s (f:Tq->Ht)
inductive AE:Ht->Ht->Prop where
 |mk (f:Tq->Ht) (w:Tq):AE (f w) (.s f)
theorem ak9:WellFounded AE:=by
 refine⟨λh=> ?_⟩;induction h with
 |z=>exact⟨_,λy hy=>by cases hy⟩
 |s f ih=>exact⟨_,λy hy=>by cases hy with|mk _ w=>exact ih w⟩
inductive lG (P:SK):Ht->View->SH->Prop where
 |step {f:Tq->Ht} {V V₁:View} {g:SH} (G':Tq->SH) (W':Tq->Tq) (E':Tq->Array Uq) (V':Tq->View) (hs:g.status=.running) (hg:ee V V₁)
   (h1:∀w,Sat V₁ w->stepG P false g w=.go (G' w) (W' w) (E' w)) (h2:∀w,Sat V₁ w->dj V₁ w (V' w) (W' w) (E' w)) (h3:∀w,Sat V₁ w->lG P (f w) (V' w) (G' w)):lG P (.s f) V g
 |send {h:Ht} {V V₁:View} {g:SH} (c Wg:Nat) (sp:Spec) (S:List Spec) (v z:SO) (B:Nat->Bool) (hs:g.status=.running) (hg:ee V V₁) (hr:V₁.role=.work c Wg (sp::S)) (hd:V₁.deaf=0) (ho:g.offers=none)
   (h1:∀w,Sat V₁ w->stepG P false g w=.comm g #[scase c v z] true .send w #[]) (h2:sp v V₁.ab (λb=>if B b then V₁.own b else none))
   (h3:lG P h {V₁ with own:=λb=>if B b then none else V₁.own b,role:=.work c Wg S} (T1 g undef)):lG P (.s λ_=>h) V g
 |done {V V₁:View} {g:SH} (c Wg:Nat) (hg:ee V V₁) (hr:V₁.role=.work c Wg []) (hd:V₁.deaf=0) (h1:DI P Wg g):lG P (.s λ_=> .z) V g
 |slip {h:Ht} {V V₁:View} {g g':SH} (c Wg:Nat) (hs:g.status=.running) (hg:ee V V₁) (hr:V₁.role=.work c Wg []) (h1:∀w st,Sat V₁ w->WgAt P Wg w st 0->stepG P false g w=.go g' w #[]) (h3:lG P h V₁ g'):lG P (.s λ_=>h) V g
theorem lG.running{P:SK}{h:Ht}{V:View}{g:SH}(k:lG P h V g):g.status=.running:=by
 cases k with
 |step _ _ _ _ hs=>exact hs
 |send _ _ _ _ _ _ _ hs=>exact hs
 |done _ _ _ _ _ h1=>exact h1.1
 |slip _ _ hs=>exact hs
open Classical in
theorem arH(P:SK):yr P false (λV g=>∃h,lG P h V g)where
 step V g hs h:=by
  have hc:∀w,∃h' g' w' es V',Sat V w->stepG P false g w=.go g' w' es/\dj V w V' w' es/\lG P h' V' g':=by
   intro w;by_cases hw:Sat V w
   ·obtain⟨g',w',es,V',h1,h2,h',h3⟩:=h w hw;exact⟨h',g',w',es,V',λ_=>⟨h1,h2,h3⟩⟩
   ·exact⟨.z,g,w,#[],V,λx=>absurd x hw⟩
  have oZ:=λw=>(hc w).choose_spec.choose_spec.choose_spec.choose_spec.choose_spec;exact⟨.s λw=>(hc w).choose,.step (λw=>(hc w).choose_spec.choose) (λw=>(hc w).choose_spec.choose_spec.choose) (λw=>(hc w).choose_spec.choose_spec.choose_spec.choose)
   (λw=>(hc w).choose_spec.choose_spec.choose_spec.choose_spec.choose) hs (ee.refl V) (λw hw=>(oZ w hw).1) (λw hw=>(oZ w hw).2.1) (λw hw=>(oZ w hw).2.2)⟩
 ghost V V' g hg h:=by
  obtain⟨h,hk⟩:=h;cases hk with
  |step a b c d e f x y z=>exact⟨_,.step a b c d e (hg.trans f) x y z⟩
  |send a b c d e f m n o p q r s t u=>exact⟨_,.send a b c d e f m n (hg.trans o) p q r s t u⟩
  |done a b o p q r=>exact⟨_,.done a b (hg.trans o) p q r⟩
  |slip a b f o p q r=>exact⟨_,.slip a b f (hg.trans o) p q r⟩
 send V g c Wg sp S v z B h1 h2 h3 h4 h5 h6 h7:=by
  obtain⟨h,hk⟩:=h7;exact⟨_,.send c Wg sp S v z B h3 (ee.refl V) h1 h2 h4 h5 h6 hk⟩
 done V g c Wg h1 h2 h3:=⟨_,.done c Wg (ee.refl V) h1 h2 h3⟩
 slip V g g' c Wg h1 h2 h3 h4:=by
  obtain⟨h,hk⟩:=h4;exact⟨_,.slip c Wg h2 (ee.refl V) h1 h3 hk⟩
structure yF where
 a:Nat
 h:Ht
 n:Nat
def qP:yF->yF->Prop:=λx y=>x.a<y.a\/(x.a=y.a/\(AE x.h y.h\/(x.h=y.h/\x.n<y.n)))
theorem aoV:WellFounded qP:=by
 refine⟨λ⟨a,h,n⟩=> ?_⟩;induction a using Yn generalizing h n with
 |_ a iha=>
  induction h using ak9.induction generalizing n with
  |_ h ihh=>
   induction n using Yn with
   |_ n Lj=>
    refine⟨_,λ⟨a',h',n'⟩ hlt=> ?_⟩;rcases hlt with x|⟨rfl,x|⟨rfl,x⟩⟩
    ·exact iha a' x h' n'
    ·exact ihh h' x n'
    ·exact Lj n' x
def AR (N:Nat)(f' f:Nat->yF):Prop:=∃i,i<N/\qP (f' i) (f i)/\∀j,j≠i->f' j=f j
theorem ap0(N:Nat):WellFounded (AR N):=by
 refine⟨?_⟩;induction N with
 |zero=>intro f;exact⟨_,λf' ⟨i,hi,_⟩=>by omega⟩
 |succ N ih=>
  have key:∀x:yF,∀f,f N=x->Acc (AR (N+1)) f:=by
   intro x;induction x using aoV.induction with
   |_ x ihx=>
    intro f hf;have inner:∀f,Acc (AR N) f->f N=x->Acc (AR (N+1)) f:=by
     intro f ha;induction ha with
     |intro f _ Li=>
      intro hf;refine⟨_,λf' ⟨i,hi,hlt,ho⟩=> ?_⟩;by_cases fA:i=N
      ·subst fA;exact ihx (f' i) (hf▸hlt) f' rfl
      ·exact Li f' ⟨i,by omega,hlt,ho⟩ ((ho N (Ne.symm fA)).trans hf)
    exact inner f (ih f) hf
  exactλf=>key (f N) f rfl
def AL (N:Nat)(x y:(Nat->yF)×Nat):Prop:=AR N x.1 y.1\/(x.1=y.1/\x.2<y.2)
theorem aaP(N:Nat):WellFounded (AL N):=by
 refine⟨λ⟨f,n⟩=> ?_⟩;induction f using(ap0 N).induction generalizing n with
 |_ f Li=>
  induction n using Yn with
  |_ n Lj=>
   refine⟨_,λ⟨f',n'⟩ hlt=> ?_⟩;rcases hlt with x|⟨x,y⟩
   ·exact Li f' x n'
   ·have x':f'=f:=x;subst x';exact Lj n' y
open Go.ConcN
structure TI (t:Ui)(B N:Nat)(rd wr:Nat->Loc->Prop)(Sh:Loc->Prop)(act:Nat->Prop)(ic:Nat):Prop where
 nr:∀said,¬Race said t
 low:∀op∈t,op.act.low B
 gs:∀op∈t,op.g<N
 norel:∀op∈t,∀a,op.act≠ .mark (.release a)
 kr:∀i,i<N->∀l,rd i l->PermW t i l
 kw:∀i,i<N->∀l,wr i l->Perm t i l
 sp:∀idx a,touchAt t idx=some a->Sh a.loc->(a.kind=.plain->∀i,act i->Wn t i idx)/\(a.kind=.said->Wn t ic idx)
def Fit (B:Nat)(rd wr:Nat->Loc->Prop)(Sh:Loc->Prop)(act:Nat->Prop)(ic i:Nat)(x:YK):Prop:=
 (Sh x.loc/\x.kind=.atomic/\act i)\/(Sh x.loc/\x.kind=.said/\i=ic/\act i)\/(¬Sh x.loc/\(wr i x.loc\/(rd i x.loc/\x.write=false)\/¬x.loc.low B))
theorem amE{B:Nat}{m:MemAct}(h:m.low B){x:YK}(hx:m.touch?=some x):x.loc.low B:=by
 cases m with
 |access e=>simp only[We,Tm]at hx;subst hx;exact h
 |mark m=>cases m<;>simp[We]at hx<;>(subst hx;exact h)
 |_=>simp[We]at hx
theorem Ni{t:Ui}{B:Nat}(h:∀op∈t,op.act.low B){idx:Nat}{a:YK}(ha:touchAt t idx=some a):a.loc.low B:=by
 obtain⟨x,hx,FW⟩:=UU ha;exact amE (h x (XW hx)) FW
theorem Ar{t u:Ui}{idx:Nat}{a:YK}(h:touchAt (t++u) idx=some a):touchAt t idx=some a\/(t.size<=idx/\∃op∈u,(t++u)[idx]?=some op/\op.act.touch?=some a):=by
 obtain⟨x,hx,FW⟩:=UU h;rcases Xm hx with⟨_,jF⟩|⟨hi,hu⟩
 ·exact .inl (by rw[touchAt_of jF];exact FW)
 ·exact .inr ⟨hi,x,hu,hx,FW⟩
theorem TI.app{t:Ui}{B N B':Nat}{rd wr rd' wr':Nat->Loc->Prop}{Sh:Loc->Prop}{act:Nat->Prop}{ic:Nat}(h:TI t B N rd wr Sh act ic){u:Ui}{i:Nat}(hi:i<N)(hu:∀op∈u,op.g=i)
  (hf:∀op∈u,∀x,op.act.touch?=some x->Fit B rd wr Sh act ic i x) (hl:∀op∈u,op.act.low B') (hB:B<=B') (hn:∀op∈u,∀a,op.act≠ .mark (.release a))
  (KP:∀j l,j≠i->rd' j l->rd j l) (rN:∀j l,j≠i->wr' j l->wr j l) (hri:∀l,rd' i l->l.low B->rd i l\/wr i l) (xV:∀l,wr' i l->l.low B->wr i l)
  (ex:∀l j,j≠i->(wr i l->¬rd j l/\¬wr j l)/\(rd i l->¬wr j l)) (G6:∀l j,Sh l->¬rd j l/\¬wr j l) (aaA:∀j l,rd j l\/wr j l->l.low B):
  TI (t++u) B' N rd' wr' Sh act ic where
 nr said:=by
  refine noRace_append (h.nr said) hu λidx a ha op au b hb hc=> ?_;have ba:=hc;obtain⟨cX,_,Ks,qe⟩:=hc;rcases hf op au b hb with⟨h1,h2,h3⟩|⟨h1,h2,h3,h4⟩|⟨_,h2|⟨h2,h3⟩|h2⟩
  ·rw[h2]at qe;rcases qe with x|x|⟨_,_,x⟩
   ·exact(h.sp idx a ha (cX▸h1)).1 x i h3
   ·cases x
   ·cases x
  ·rw[h2]at qe;rcases qe with x|x|⟨_,x,_⟩
   ·exact(h.sp idx a ha (cX▸h1)).1 x i h4
   ·cases x
   ·rw[h3];exact(h.sp idx a ha (cX▸h1)).2 x
  ·exact h.kw i hi _ h2 idx a ha cX
  ·exact h.kr i hi _ h2 idx a ha cX (by rw[h3]at Ks;simpa using Ks)
  ·exact absurd (cX▸Ni h.low ha) h2
 low op au:=(Ut.1 au).elim (λx=>Zi hB (h.low op x)) (hl op)
 gs op au:=(Ut.1 au).elim (h.gs op) (λx=>by rw[hu op x];exact hi)
 norel op au:=(Ut.1 au).elim (h.norel op) (hn op)
 kr j hj l uD:=by
  by_cases cx:j=i
  ·subst cx;intro idx a ha eP hw;rcases Ar ha with gq|⟨_,op,au,db,hx⟩
   ·have iq:l.low B:=eP▸Ni h.low gq;rcases hri l uD iq with x|x
    ·exact(h.kr j hj l x idx a gq eP hw).app u
    ·exact(h.kw j hj l x idx a gq eP).app u
   ·have:=Zb db;rwa [hu op au]at this
  ·have Cl:=KP j l cx uD;refine(h.kr j hj l Cl).app λop au b hb bX hw=> ?_;exfalso;rcases hf op au b hb with⟨h1,_⟩|⟨h1,_⟩|⟨_,h2|⟨_,h3⟩|h2⟩
   ·exact(G6 l j (bX▸h1)).1 Cl
   ·exact(G6 l j (bX▸h1)).1 Cl
   ·exact((ex l j cx).1 (bX▸h2)).1 Cl
   ·rw[h3]at hw;cases hw
   ·exact h2 (bX▸aaA j l (.inl Cl))
 kw j hj l rM:=by
  by_cases cx:j=i
  ·subst cx;intro idx a ha eP;rcases Ar ha with gq|⟨_,op,au,db,hx⟩
   ·exact(h.kw j hj l (xV l rM (eP▸Ni h.low gq)) idx a gq eP).app u
   ·have:=Zb db;rwa [hu op au]at this
  ·have pq:=rN j l cx rM;refine(h.kw j hj l pq).app λop au b hb bX=> ?_;exfalso;rcases hf op au b hb with⟨h1,_⟩|⟨h1,_⟩|⟨_,h2|⟨h2,_⟩|h2⟩
   ·exact(G6 l j (bX▸h1)).2 pq
   ·exact(G6 l j (bX▸h1)).2 pq
   ·exact((ex l j cx).1 (bX▸h2)).2 pq
   ·exact(ex l j cx).2 (bX▸h2) pq
   ·exact h2 (bX▸aaA j l (.inr pq))
 sp idx a ha dU:=by
  rcases Ar ha with gq|⟨_,op,au,db,hx⟩
  ·exact⟨λhp j hj=>((h.sp idx a gq dU).1 hp j hj).app u,λhp=>((h.sp idx a gq dU).2 hp).app u⟩
  ·rcases hf op au a hx with⟨_,h2,_⟩|⟨_,h2,h3,_⟩|⟨h1,_⟩
   ·exact⟨λhp=>absurd (h2.symm.trans hp) (by simp),λhp=>absurd (h2.symm.trans hp) (by simp)⟩
   ·refine⟨λhp=>absurd (h2.symm.trans hp) (by simp),λ_=> ?_⟩;have:=Zb db;rw[hu op au,h3]at this;exact this
   ·exact absurd dU h1
theorem TI.weaken{t:Ui}{B N B':Nat}{rd wr rd' wr':Nat->Loc->Prop}{Sh NQ:Loc->Prop}{act act':Nat->Prop}{ic kJ:Nat}(h:TI t B N rd wr Sh act ic)(hB:B<=B')
  (KP:∀i l,i<N->rd' i l->rd i l\/wr i l) (rN:∀i l,i<N->wr' i l->wr i l)
  (xR:∀idx a,touchAt t idx=some a->NQ a.loc->(a.kind=.plain->∀i,act' i->Wn t i idx)/\(a.kind=.said->Wn t kJ idx)):TI t B' N rd' wr' NQ act' kJ:=
 ⟨h.nr,λop au=>Zi hB (h.low op au),h.gs,h.norel,λi hi l x=>(KP i l hi x).elim (h.kr i hi l) (λy=>PermW.of (h.kw i hi l y)),λi hi l x=>h.kw i hi l (rN i l hi x),xR⟩
theorem am8{t u:Ui}(h:∀said,¬Race said t)(hn:∀op∈u,op.act.touch?=none):∀said,¬Race said (t++u):=by
 intro said
 rintro⟨i,j,kq,⟨a,b,ha,hb,hc⟩,n1,n2⟩
 have old:∀{k:Nat}{x:YK},((t++u).act? k).bind (·.touch?)=some x->k<t.size/\(t.act? k).bind (·.touch?)=some x:=by
  intro k x hx;obtain⟨y,hy,Lb⟩:=UU hx;rcases Xm hy with⟨hk,pt⟩|⟨_,hyu⟩
  ·exact⟨hk,by simp[Trace.act?,pt,Lb]⟩
  ·rw[hn y hyu]at Lb;cases Lb
 exact h said ⟨i,j,kq,⟨a,b,(old ha).2,(old hb).2,hc⟩,λe=>n1 (hb_app u e),λe=>n2 (hb_app u e)⟩
theorem As{t u:Ui}(hn:∀op∈u,op.act.touch?=none){idx:Nat}{a:YK}(h:touchAt (t++u) idx=some a):touchAt t idx=some a:=by
 rcases Ar h with h|⟨_,op,au,_,hx⟩
 ·exact h
 ·rw[hn op au]at hx;cases hx
theorem TI.mute{t:Ui}{B N N':Nat}{rd wr rd' wr':Nat->Loc->Prop}{Sh:Loc->Prop}{act act':Nat->Prop}{ic kJ:Nat}(h:TI t B N rd wr Sh act ic){u:Ui}(hn:∀op∈u,op.act.touch?=none)(hl:∀op∈u,op.act.low B)(hg:∀op∈u,op.g<N')(hN:N<=N')
  (rC:∀op∈u,∀a,op.act≠ .mark (.release a))
  (kr:∀i,i<N'->∀l,rd' i l->∀idx a,touchAt t idx=some a->a.loc=l->a.write=true->Wn (t++u) i idx) (kw:∀i,i<N'->∀l,wr' i l->∀idx a,touchAt t idx=some a->a.loc=l->Wn (t++u) i idx)
  (sp:∀idx a,touchAt t idx=some a->Sh a.loc->(a.kind=.plain->∀i,act' i->Wn (t++u) i idx)/\(a.kind=.said->Wn (t++u) kJ idx)):TI (t++u) B N' rd' wr' Sh act' kJ:=
 ⟨am8 h.nr hn,λop au=>(Ut.1 au).elim (h.low op) (hl op),λop au=>(Ut.1 au).elim (λx=>Td (h.gs op x) hN) (hg op),λop au=>(Ut.1 au).elim (h.norel op) (rC op),
  λi hi l x idx a ha=>kr i hi l x idx a (As hn ha),λi hi l x idx a ha=>kw i hi l x idx a (As hn ha),λidx a ha=>sp idx a (As hn ha)⟩
theorem q_{t u:Ui}{k:Nat}{x:Wd}(h:u[k]?=some x):(t++u)[t.size+k]?=some x:=by
 rw[X8 (by omega)];simpa using h
theorem heard_new{t u:Ui}{k g:Nat}{x:Wd}(h:u[k]?=some x)(hx:x.g=g)(hd:(t++u).deaf g (t.size+k)=0):(t++u).heard (t.size+k):=⟨g,by simp[WA,q_ h,hx],hd⟩
def still (m:MemAct):Prop:=m≠ .mark .disable/\m≠ .mark .enable
theorem Iv{g d:Nat}{y:Wd}(h:still y.act):deafStep g d y=d:=by
 unfold deafStep;obtain⟨_,_,_,act⟩:=y;cases act with
 |mark m=>cases m<;>first|rfl|exact absurd rfl h.1|exact absurd rfl h.2
 |_=>rfl
theorem uc{t u:Ui}{g:Nat}(hs:∀op∈u,still op.act):∀{k:Nat},k<=u.size->(t++u).deaf g (t.size+k)=US t g:=by
 intro k;induction k with
 |zero=>intro _;exact deaf_old (SU _)
 |succ k ih=>
  intro hk;have hlt:k<u.size:=by omega
  have hy:u[k]?=some u[k]:=SJ hlt;have e:=ac_ (g:=g) (q_ (t:=t) hy);rw[show t.size+(k+1)=t.size+k+1 from rfl,e,ih (by omega),Iv (hs _ (XX hlt))]
theorem Deaf_still{t u:Ui}{g:Nat}(hs:∀op∈u,still op.act):US (t++u) g=US t g:=by
 have:=uc (t:=t) (g:=g) hs (SU u.size);unfold US;rw[XE];exact this
theorem amQ{t u:Ui}{k c s:Nat}{x0 x1 x2 x3:Wd}(hu:u=#[x0,x1,x2,x3]) (h0:x0.g=k/\x0.act=.send c s) (h1:still x1.act) (h2:still x2.act) (h3:x3.g=0/\x3.act=.recvDone c s) (dk:US t k=0) (d0:US t 0=0) {idx:Nat} (h:Wn t k idx):Wn (t++u) 0 idx:=by
 have hs:∀op∈u,still op.act:=by
  subst hu;intro op au;simp only[TJ,SL,S4,or_false]at au;rcases au with rfl|rfl|rfl|rfl
  ·rw[h0.2];exact⟨by simp,by simp⟩
  ·exact h1
  ·exact h2
  ·rw[h3.2];exact⟨by simp,by simp⟩
 have e0:u[0]?=some x0:=by subst hu;rfl
 have e3:u[3]?=some x3:=by subst hu;rfl
 have aU:u.size=4:=by subst hu;rfl
 have g0:=q_ (t:=t) e0;have g3:=q_ (t:=t) e3;have hh0:(t++u).heard (t.size+0):=heard_new e0 h0.1 (by rw[uc hs (by omega)];exact dk);have Q2:(t++u).heard (t.size+3):=heard_new e3 h3.1 (by rw[uc hs (by omega)];exact d0);have hb:HappensBefore (t++u) idx (t.size+0):=h.hb_new (by omega) g0 h0.1;exact⟨_,x3,g3,h3.1,.inr (hb.trans (.single (.inr ⟨.handOver (c:=c) (k:=s) (by rw[ah_ g0,h0.2]) (by rw[ah_ g3,h3.2]),hh0,Q2⟩)))⟩
theorem aen{t:Ui}{a:U4}{r q i:Nat}{y:Wd}(hr:t.act? r=some (.mark (.releaseMerge a)))(hh:t.heard r)(hn:∀op∈t,∀a,op.act≠ .mark (.release a))(hy:y.g=q/\y.act=.mark (.acquire a))(hd:US t q=0)(hb:Before t i r):Wn (t++#[y]) q i:=by
 have e:(#[y]:Ui)[0]?=some y:=rfl;have g:=q_ (t:=t) e;have uD:=Wc hr;have aT:∀op∈(#[y]:Ui),still op.act:=by
  intro op au;simp only[TJ,SL,S4,or_false]at au;subst au;rw[hy.2];exact⟨by simp,by simp⟩
 have Kg:(t++#[y]).heard (t.size+0):=heard_new e hy.1 (by rw[uc aT (by simp)];exact hd);refine⟨_,y,g,hy.1,.inr ((hb.app #[y]).hb (.single (.inr ⟨.marked (a:=a) (by omega) (.inr (by rw[X7 uD];exact hr)) (by rw[ah_ g,hy.2]) (λk gV ce e'=> ?_),(Wr uD).2 hh,Kg⟩)))⟩;obtain⟨op,ho,hoa⟩:=Tp.1 e';rcases Xm ho with⟨_,aO⟩|⟨hk,_⟩
 ·exact hn op (XW aO) a hoa
 ·omega
theorem af4{t:Ui}{c p q i:Nat}{y:Wd}(hp:t.act? p=some (.close c))(hh:t.heard p)(hy:y.g=q/\y.act=.recvClosed c)(hd:US t q=0)(hb:Before t i p):Wn (t++#[y]) q i:=by
 have e:(#[y]:Ui)[0]?=some y:=rfl;have g:=q_ (t:=t) e;have dp:=Wc hp;have aT:∀op∈(#[y]:Ui),still op.act:=by
  intro op au;simp only[TJ,SL,S4,or_false]at au;subst au;rw[hy.2];exact⟨by simp,by simp⟩
 have Kg:(t++#[y]).heard (t.size+0):=heard_new e hy.1 (by rw[uc aT (by simp)];exact hd);exact⟨_,y,g,hy.1,.inr ((hb.app #[y]).hb (.single (.inr ⟨.closed (c:=c) (by rw[X7 dp];exact hp) (by rw[ah_ g,hy.2]),(Wr dp).2 hh,Kg⟩)))⟩
def jM (U V:View):Prop:=∀b,U.own b≠none->V.own b=none/\∀o,V.ab b o≠none->U.ab b o≠none
def gN (V:View):Loc->Prop
 |.cell a=>V.own a.block≠none\/V.ab a.block a.off≠none
 |.obj r=>V.own r≠none
 |_=>False
def jN (V:View):Loc->Prop
 |.cell a=>V.own a.block≠none/\V.ab a.block a.off=none
 |.obj r=>V.own r≠none
 |_=>False
theorem jN.rd{V:View}:∀{l:Loc},jN V l->gN V l
 |.cell _,h=> .inl h.1
 |.obj _,h=>h
theorem dj.others{V V' U:View}{w w':Tq}{es:Array Uq}(s:dj V w V' w' es)(hV:Sat V w)(h:Sat U w)(d:jM V U):Sat U w':=by
 refine⟨λb o v e=> ?_,λb x e=> ?_⟩
 ·have hc:=h.ab b o v e;have hb:=h.CA e;cases ho:V.own b with
  |none=>
   have:=s.frame b hb ho;simp only[Uy,this]at hc⊢;exact hc
  |some x=>
   have hp:=(d b (by rw[ho];simp)).2 o (by rw[e];simp);cases hi:V.ab b o with
   |none=>exact absurd hi hp
   |some v'=>
    have e1:=hV.ab b o v' hi;rw[hc]at e1;cases e1;exact s.sat.ab b o v (s.ab b o v hi)
 ·have hb:=h.lt e;have ho:V.own b=none:=by
   cases ho:V.own b with
   |none=>rfl
   |some y=>rw[(d b (by rw[ho];simp)).1]at e;cases e
  rw[s.frame b hb ho];exact h.own b x e
theorem dj.vE{V V' U:View}{w w':Tq}{es:Array Uq}(s:dj V w V' w' es)(h:Sat U w)(d:jM V U)(d':jM U V):jM V' U/\jM U V':=by
 have key:∀b,V'.own b≠none->V.own b≠none\/w.heap.size<=b:=by
  intro b hb;by_cases hlt:b<w.heap.size
  ·exact .inl λe=>hb (s.own b hlt e)
  ·exact .inr (by omega)
 refine⟨λb hb=> ?_,λb hb=> ?_⟩
 ·rcases key b hb with x|x
  ·refine⟨(d b x).1,λo ho=> ?_⟩;have:=(d b x).2 o ho;cases e:V.ab b o with
   |none=>exact absurd e this
   |some v=>rw[s.ab b o v e];simp
  ·have:=h.fresh x;exact⟨this.1,λo ho=>absurd (this.2 o) ho⟩
 ·have hlt:b<w.heap.size:=by
   cases e:U.own b with
   |none=>exact absurd e hb
   |some x=>exact h.lt e
  refine⟨?_,λo ho=> ?_⟩
  ·exact s.own b hlt (d' b hb).1
  ·cases e:V'.ab b o with
   |none=>exact absurd e ho
   |some v=>
    rcases s.kK b o v e with x|x|x
    ·exact(d' b hb).2 o (by rw[x];simp)
    ·exact absurd (d' b hb).1 x
    ·omega
theorem ee.vE{V V' U:View}(g:ee V V')(d:jM V U)(d':jM U V):jM V' U/\jM U V':=by
 refine⟨λb hb=> ?_,λb hb=>⟨g.own b (d' b hb).1,λo ho=> ?_⟩⟩
 ·have x:V.own b≠none:=λe=>hb (g.own b e);refine⟨(d b x).1,λo ho=> ?_⟩;cases e:V.ab b o with
  |none=>exact absurd e ((d b x).2 o ho)
  |some v=>rw[g.ab b o v e];simp
 ·cases e:V'.ab b o with
  |none=>exact absurd e ho
  |some v=>
   rcases g.kK b o v e with x|x
   ·exact(d' b hb).2 o (by rw[x];simp)
   ·exact absurd (d' b hb).1 x
theorem ee.rd{V V':View}(g:ee V V'):∀{l:Loc},gN V' l->gN V l
 |.cell a,h=>by
  rcases h with h|h
  ·exact .inl λe=>h (g.own _ e)
  ·cases e:V'.ab a.block a.off with
   |none=>exact absurd e h
   |some v=>exact(g.kK _ _ _ e).elim (λx=> .inr (by rw[x];simp)) .inl
 |.obj _,h=>λe=>h (g.own _ e)
theorem ee.wr{V V':View}(g:ee V V'):∀{l:Loc},jN V' l->jN V l
 |.cell a,h=>⟨λe=>h.1 (g.own _ e),by
  cases e:V.ab a.block a.off with
  |none=>rfl
  |some v=>exact absurd (g.ab _ _ _ e) (by rw[h.2];simp)⟩
 |.obj _,h=>λe=>h (g.own _ e)
theorem gN.low{V:View}{w:Tq}(h:Sat V w):∀{l:Loc},gN V l->l.low w.heap.size
 |.cell a,x=>by
  rcases x with x|x
  ·cases e:V.own a.block with
   |none=>exact absurd e x
   |some y=>exact h.lt e
  ·cases e:V.ab a.block a.off with
   |none=>exact absurd e x
   |some y=>exact h.CA e
 |.obj r,x=>by
  cases e:V.own r with
  |none=>exact absurd e x
  |some y=>exact h.lt e
theorem dj.rd{V V':View}{w w':Tq}{es:Array Uq}(s:dj V w V' w' es):∀{l:Loc},gN V' l->l.low w.heap.size->gN V l
 |.cell a,h,hl=>by
  have eS:a.block<w.heap.size:=hl;rcases h with h|h
  ·exact .inl λe=>h (s.own _ eS e)
  ·cases e:V'.ab a.block a.off with
   |none=>exact absurd e h
   |some v=>
    rcases s.kK _ _ _ e with x|x|x
    ·exact .inr (by rw[x];simp)
    ·exact .inl x
    ·omega
 |.obj r,h,hl=>λe=>h (s.own _ hl e)
theorem dj.wr{V V':View}{w w':Tq}{es:Array Uq}(s:dj V w V' w' es):∀{l:Loc},jN V' l->l.low w.heap.size->jN V l
 |.cell a,h,hl=>⟨λe=>h.1 (s.own _ hl e),by
  cases e:V.ab a.block a.off with
  |none=>rfl
  |some v=>exact absurd (s.ab _ _ _ e) (by rw[h.2];simp)⟩
 |.obj r,h,hl=>λe=>h (s.own _ hl e)
theorem agp{U V:View}(d:jM U V)(d':jM V U)(l:Loc):(jN U l->¬gN V l/\¬jN V l)/\(gN U l->¬jN V l):=by
 cases l with
 |cell a=>
  refine⟨λh=> ?_,λh=> ?_⟩
  ·have:=d _ h.1;refine⟨λx=> ?_,λx=>x.1 this.1⟩;rcases x with x|x
   ·exact x this.1
   ·exact this.2 _ x h.2
  ·intro x;have:=d' _ x.1;rcases h with h|h
   ·exact h this.1
   ·exact this.2 _ h x.2
 |obj r=>exact⟨λh=>⟨λx=>x (d r h).1,λx=>x (d r h).1⟩,λh x=>h (d' r x).1⟩
 |_=>exact⟨λh=>h.elim,λh=>h.elim⟩
def qQ (c Wg:Nat):Loc->Prop
 |.cell a=>a.block=Wg
 |.obj r=>r=c
 |_=>False
structure Core (VV:Nat->View)(N:Nat)(w:Tq)(t:Ui)(Sh:Loc->Prop)(act:Nat->Prop)(ic n0:Nat)(W0:Tq):Prop where
 sat:∀i,i<N->Sat (VV i) w
 dx:∀i j,i<N->j<N->i≠j->jM (VV i) (VV j)
 ti:TI t w.heap.size N (λi l=>i<N/\gN (VV i) l/\¬Sh l) (λi l=>i<N/\jN (VV i) l/\¬Sh l) Sh act ic
 tape:w.tape=W0.tape
 os:w.os=W0.os
 out:w.output=W0.output
 old:∀b,b<n0->w.heap[b]?=W0.heap[b]?
 jm:∀i,i<N->∀b,b<n0->(VV i).own b=none
 n0:n0<=w.heap.size
def upd {α:Type}(f:Nat->α)(i:Nat)(x:α):Nat->α:=λj=>if j=i then x else f j
theorem bw{α:Type}(f:Nat->α)(i:Nat)(x:α):upd f i x i=x:=by simp[upd]
theorem a_{α:Type}(f:Nat->α){i j:Nat}(x:α)(h:j≠i):upd f i x j=f j:=by simp[upd,h]
section
variable {VV:Nat->View}{N:Nat}{w w':Tq}{t:Ui}{Sh:Loc->Prop}{act:Nat->Prop}{ic n0 i:Nat}{W0:Tq}
theorem Core.draw(h:Core VV N w t Sh act ic n0 W0)(d:Nat):Core VV N (w.at d) t Sh act ic n0 W0:=
 ⟨λi hi=>⟨(h.sat i hi).ab,(h.sat i hi).own⟩,h.dx,h.ti,h.tape,h.os,h.out,h.old,h.jm,h.n0⟩
theorem IS{V:View}{B:Nat}{e:Uq}(he:mZ V B e){x:YK}(hx:(Ts e).touch?=some x):(jN V x.loc\/(gN V x.loc/\x.write=false)\/¬x.loc.low B)/\
  (∀c,V.role.chan=some c->x.loc≠ .obj c)/\(∀Wg a,V.role.group=some Wg->x.loc=.cell a->a.block=Wg->x.kind≠ .plain):=by
 obtain⟨l,wr,s⟩:=e;cases l with
 |cell a=>
  simp only[apH,We,Tm]at hx;subst hx;cases wr with
  |false=>
   refine⟨?_,λc _=>by simp,λWg a' hr ha hb=> ?_⟩
   ·rcases he.1 with h|h|h
    ·exact .inr (.inr (by show ¬a.block<B;omega))
    ·exact .inr (.inl ⟨.inl h,rfl⟩)
    ·exact .inr (.inl ⟨.inr h,rfl⟩)
   ·cases ha;rcases he.2 with h|h
    ·subst h;simp
    ·subst hb;exact absurd hr h
  |true=>
   refine⟨?_,λc _=>by simp,λWg a' hr ha hb=> ?_⟩
   ·rcases he.1 with h|h
    ·exact .inr (.inr (by show ¬a.block<B;omega))
    ·exact .inl h
   ·cases ha;rcases he.2 with h|h
    ·subst h;simp
    ·subst hb;exact absurd hr h
 |obj r=>
  obtain⟨⟨rfl,h2⟩,h3⟩:=he;have e1:Ts ⟨.obj r,wr,false⟩=.access ⟨.obj r,wr,false⟩:=by cases wr<;>rfl
  rw[e1]at hx;simp only[We,Tm]at hx;subst hx;refine⟨?_,λc hc e=> ?_,λWg a _ ha=>by cases ha⟩
  ·rcases h2 with h|h
   ·exact .inr (.inr (by show ¬r<B;omega))
   ·exact .inl h
  ·cases e;exact h3 hc
 |mark m=>
  have e1:Ts ⟨.mark m,wr,s⟩=.mark m:=by cases wr<;>cases s<;>rfl
  rw[e1]at hx;cases m<;>simp only[We,Tm,reduceCtorEq]at hx
  all_goals
   subst hx;refine⟨?_,λc _=>by simp,λWg a' _ _ _=>by simp⟩;have kj:mF V B _:=he;rcases kj with h|h
   ·exact .inr (.inr (by simp only[Loc.low];omega))
   ·exact .inl h
 |_=>exact he.elim
theorem Core.Pt(h:Core VV N w t Sh act ic n0 W0)(l:Loc){i j:Nat}(hi:i<N)(hj:j≠i):
  ((i<N/\jN (VV i) l/\¬Sh l)->¬(j<N/\gN (VV j) l/\¬Sh l)/\¬(j<N/\jN (VV j) l/\¬Sh l))/\((i<N/\gN (VV i) l/\¬Sh l)->¬(j<N/\jN (VV j) l/\¬Sh l)):=by
 by_cases B4:j<N
 ·have:=agp (h.dx i j hi B4 (Ne.symm hj)) (h.dx j i B4 hi hj) l;exact⟨λ⟨_,x,_⟩=>⟨λ⟨_,y,_⟩=>(this.1 x).1 y,λ⟨_,y,_⟩=>(this.1 x).2 y⟩,λ⟨_,x,_⟩ ⟨_,y,_⟩=>this.2 x y⟩
 ·exact⟨λ_=>⟨λ⟨y,_⟩=>B4 y,λ⟨y,_⟩=>B4 y⟩,λ_ ⟨y,_⟩=>B4 y⟩
theorem Core.step(h:Core VV N w t Sh act ic n0 W0)(hi:i<N){V':View}{es:Array Uq}(s:dj (VV i) w V' w' es)
  (dU:∀e∈es,∀x,(Ts e).touch?=some x->Sh x.loc->(x.kind=.atomic/\act i)\/(x.kind=.said/\i=ic/\act i)) (fn:TN) (pos:String):
  Core (upd VV i V') N w' (t++Te i fn pos es) Sh act ic n0 W0 where
 sat j hj:=by
  by_cases cx:j=i
  ·subst cx;rw[bw];exact s.sat
  ·rw[a_ _ _ cx];exact s.others (h.sat i hi) (h.sat j hj) (h.dx i j hi hj (Ne.symm cx))
 dx a b ha hb dl:=by
  by_cases nz:a=i
  ·subst nz;have vR:b≠a:=Ne.symm dl;rw[bw,a_ _ _ vR];exact(s.vE (h.sat b hb) (h.dx a b ha hb dl) (h.dx b a hb ha vR)).1
  ·by_cases iM:b=i
   ·subst iM;rw[bw,a_ _ _ nz];exact(s.vE (h.sat a ha) (h.dx b a hb ha (Ne.symm dl)) (h.dx a b ha hb dl)).2
   ·rw[a_ _ _ nz,a_ _ _ iM];exact h.dx a b ha hb dl
 ti:=by
  refine h.ti.app hi (λop au=>by obtain⟨e,_,rfl⟩:=TK au;rfl) (λop au x hx=> ?_) (λop au=>by obtain⟨e,he,rfl⟩:=TK au;exact s.low e he) s.size (λop au a=> ?_)
   (λj l hj ⟨x,y⟩=>by rw[a_ _ _ hj]at y;exact⟨x,y⟩) (λj l hj ⟨x,y⟩=>by rw[a_ _ _ hj]at y;exact⟨x,y⟩)
   (λl ⟨x,y,z⟩ hl=>by rw[bw]at y;exact .inl ⟨x,s.rd y hl,z⟩) (λl ⟨x,y,z⟩ hl=>by rw[bw]at y;exact⟨x,s.wr y hl,z⟩)
   (λl j hj=>h.Pt l hi hj) (λl j hs=>⟨λx=>x.2.2 hs,λx=>x.2.2 hs⟩) (λj l x=>x.elim (λy=>gN.low (h.sat j y.1) y.2.1) (λy=>gN.low (h.sat j y.1) y.2.1.rd))
  ·obtain⟨e,he,rfl⟩:=TK au;by_cases hs:Sh x.loc
   ·rcases dU e he x hx hs with⟨a,b⟩|⟨a,b,c⟩
    ·exact .inl ⟨hs,a,b⟩
    ·exact .inr (.inl ⟨hs,a,b,c⟩)
   ·refine .inr (.inr ⟨hs,?_⟩);rcases(IS (s.fl e he) hx).1 with x'|⟨x',y⟩|x'
    ·exact .inl ⟨hi,x',hs⟩
    ·exact .inr (.inl ⟨⟨hi,x',hs⟩,y⟩)
    ·exact .inr (.inr x')
  ·obtain⟨e,he,rfl⟩:=TK au;intro e';have hk:=s.fl e he;obtain⟨l,wr,sy⟩:=e;cases l with
   |mark m=>
    have e1:Ts ⟨.mark m,wr,sy⟩=.mark m:=(by cases wr<;>cases sy<;>rfl);simp only[e1,ak']at e';subst e';exact hk
   |cell a'=>simp[apH]at e'
   |obj r=>cases wr<;>cases sy<;>simp[Ts]at e'
   |_=>exact hk
 tape:=s.tape.trans h.tape
 os:=s.os.trans h.os
 out:=s.output.trans h.out
 old b hb:=(s.frame b (Td hb h.n0) (h.jm i hi b hb)).trans (h.old b hb)
 jm j hj b hb:=by
  by_cases cx:j=i
  ·subst cx;rw[bw];exact s.own b (Td hb h.n0) (h.jm j hj b hb)
  ·rw[a_ _ _ cx];exact h.jm j hj b hb
 n0:=UB h.n0 s.size
theorem Core.ghost(h:Core VV N w t Sh act ic n0 W0)(hi:i<N){V':View}(g:ee (VV i) V'):Core (upd VV i V') N w t Sh act ic n0 W0 where
 sat j hj:=by
  by_cases cx:j=i
  ·subst cx;rw[bw];exact g.sat _ (h.sat j hj)
  ·rw[a_ _ _ cx];exact h.sat j hj
 dx a b ha hb dl:=by
  by_cases nz:a=i
  ·subst nz;have vR:b≠a:=Ne.symm dl;rw[bw,a_ _ _ vR];exact(g.vE (h.dx a b ha hb dl) (h.dx b a hb ha vR)).1
  ·by_cases iM:b=i
   ·subst iM;rw[bw,a_ _ _ nz];exact(g.vE (h.dx b a hb ha (Ne.symm dl)) (h.dx a b ha hb dl)).2
   ·rw[a_ _ _ nz,a_ _ _ iM];exact h.dx a b ha hb dl
 ti:=h.ti.weaken (SU _) (λj l _ ⟨x,y,z⟩=>by
   by_cases cx:j=i
   ·subst cx;rw[bw]at y;exact .inl ⟨x,g.rd y,z⟩
   ·rw[a_ _ _ cx]at y;exact .inl ⟨x,y,z⟩) (λj l _ ⟨x,y,z⟩=>by
   by_cases cx:j=i
   ·subst cx;rw[bw]at y;exact⟨x,g.wr y,z⟩
   ·rw[a_ _ _ cx]at y;exact⟨x,y,z⟩) h.ti.sp
 tape:=h.tape
 os:=h.os
 out:=h.out
 old:=h.old
 jm j hj b hb:=by
  by_cases cx:j=i
  ·subst cx;rw[bw];exact g.own b (h.jm j hj b hb)
  ·rw[a_ _ _ cx];exact h.jm j hj b hb
 n0:=h.n0
def mE (V' V:View):Prop:=(∀b,V'.own b=none\/V'.own b=V.own b)/\(∀b o,V'.ab b o=none\/V'.ab b o=V.ab b o)/\(∀b,V'.own b≠none->∀o,V'.ab b o=V.ab b o)
theorem mE.sat{V V':View}(l:mE V' V){w:Tq}(h:Sat V w):Sat V' w:=
 ⟨λb o v e=>h.ab b o v (by rcases l.2.1 b o with x|x<;>rw[x]at e;cases e;exact e),λb x e=>h.own b x (by rcases l.1 b with y|y<;>rw[y]at e;cases e;exact e)⟩
theorem mE.rd{V V':View}(k:mE V' V):∀{l:Loc},gN V' l->gN V l
 |.cell a,h=>h.imp (λx y=>by rcases k.1 a.block with z|z;exact x z;exact x (z.trans y)) (λx y=>by rcases k.2.1 a.block a.off with z|z;exact x z;exact x (z.trans y))
 |.obj r,h=>λy=>by rcases k.1 r with z|z;exact h z;exact h (z.trans y)
theorem mE.wr{V V':View}(k:mE V' V):∀{l:Loc},jN V' l->jN V l
 |.cell a,h=>⟨λy=>by rcases k.1 a.block with z|z;exact h.1 z;exact h.1 (z.trans y),by rw[<- k.2.2 _ h.1];exact h.2⟩
 |.obj r,h=>λy=>by rcases k.1 r with z|z;exact h z;exact h (z.trans y)
theorem mE.vE{V V' U:View}(k:mE V' V)(d:jM V U)(d':jM U V):jM V' U/\jM U V':=by
 refine⟨λb hb=> ?_,λb hb=>⟨?_,λo ho=> ?_⟩⟩
 ·have x:V.own b≠none:=λy=>by rcases k.1 b with z|z;exact hb z;exact hb (z.trans y)
  exact⟨(d b x).1,λo ho=>by rw[k.2.2 b hb];exact(d b x).2 o ho⟩
 ·rcases k.1 b with z|z;exact z;exact z.trans (d' b hb).1
 ·exact(d' b hb).2 o λy=>by rcases k.2.1 b o with z|z;exact ho z;exact ho (z.trans y)
theorem Core.less(h:Core VV N w t Sh act ic n0 W0)(hi:i<N){V':View}(k:mE V' (VV i)):Core (upd VV i V') N w t Sh act ic n0 W0 where
 sat j hj:=by
  by_cases cx:j=i
  ·subst cx;rw[bw];exact k.sat (h.sat j hj)
  ·rw[a_ _ _ cx];exact h.sat j hj
 dx a b ha hb dl:=by
  by_cases nz:a=i
  ·subst nz;have vR:b≠a:=Ne.symm dl;rw[bw,a_ _ _ vR];exact(k.vE (h.dx a b ha hb dl) (h.dx b a hb ha vR)).1
  ·by_cases iM:b=i
   ·subst iM;rw[bw,a_ _ _ nz];exact(k.vE (h.dx b a hb ha (Ne.symm dl)) (h.dx a b ha hb dl)).2
   ·rw[a_ _ _ nz,a_ _ _ iM];exact h.dx a b ha hb dl
 ti:=h.ti.weaken (SU _) (λj l _ ⟨x,y,z⟩=>by
   by_cases cx:j=i
   ·subst cx;rw[bw]at y;exact .inl ⟨x,k.rd y,z⟩
   ·rw[a_ _ _ cx]at y;exact .inl ⟨x,y,z⟩) (λj l _ ⟨x,y,z⟩=>by
   by_cases cx:j=i
   ·subst cx;rw[bw]at y;exact⟨x,k.wr y,z⟩
   ·rw[a_ _ _ cx]at y;exact⟨x,y,z⟩) h.ti.sp
 tape:=h.tape
 os:=h.os
 out:=h.out
 old:=h.old
 jm j hj b hb:=by
  by_cases cx:j=i
  ·subst cx;rw[bw];rcases k.1 b with z|z;exact z;exact z.trans (h.jm j hj b hb)
  ·rw[a_ _ _ cx];exact h.jm j hj b hb
 n0:=h.n0
theorem Core.tG(h:Core VV N w t Sh act ic n0 W0)(hi:i<N){es:Array Uq}(cr:∀e∈es,∀x,(Ts e).touch?=some x->Fit w.heap.size (λi l=>i<N/\gN (VV i) l/\¬Sh l) (λi l=>i<N/\jN (VV i) l/\¬Sh l) Sh act ic i x)
  (iq:∀e∈es,(Ts e).low w.heap.size) (rC:∀e∈es,∀a,Ts e≠ .mark (.release a)) (SB:Nat->Prop) (KT:∀b,SB b->n0<=b/\∀j,j<N->(VV j).own b=none/\∀o,(VV j).ab b o=none)
  (aU:w'.heap.size=w.heap.size) (jd:∀b,¬SB b->w'.heap[b]?=w.heap[b]?) (ht:w'.tape=w.tape) (ho:w'.os=w.os) (hu:w'.output=w.output) (fn:TN) (pos:String):
  Core VV N w' (t++Te i fn pos es) Sh act ic n0 W0 where
 sat j hj:=by
  have hs:=h.sat j hj;refine⟨λb o v e=> ?_,λb x e=> ?_⟩
  ·have hb:¬SB b:=λx=>(by rw[((KT b x).2 j hj).2 o]at e;cases e);have:=hs.ab b o v e;simp only[Uy,jd b hb];exact this
  ·have hb:¬SB b:=λy=>(by rw[((KT b y).2 j hj).1]at e;cases e);rw[jd b hb];exact hs.own b x e
 dx:=h.dx
 ti:=by
  rw[aU];refine h.ti.app hi (λop au=>by obtain⟨e,_,rfl⟩:=TK au;rfl) (λop au x hx=>by obtain⟨e,he,rfl⟩:=TK au;exact cr e he x hx) (λop au=>by obtain⟨e,he,rfl⟩:=TK au;exact iq e he) (SU _) (λop au a=>by obtain⟨e,he,rfl⟩:=TK au;exact rC e he a)
   (λj l _ x=>x) (λj l _ x=>x) (λl x _=> .inl x) (λl x _=>x) (λl j hj=>h.Pt l hi hj) (λl j hs=>⟨λx=>x.2.2 hs,λx=>x.2.2 hs⟩) (λj l x=>x.elim (λy=>gN.low (h.sat j y.1) y.2.1) (λy=>gN.low (h.sat j y.1) y.2.1.rd))
 tape:=ht.trans h.tape
 os:=ho.trans h.os
 out:=hu.trans h.out
 old b hb:=(jd b (λx=>by have:=(KT b x).1;omega)).trans (h.old b hb)
 jm:=h.jm
 n0:=by rw[aU];exact h.n0
theorem Core.quiet(h:Core VV N w t Sh act ic n0 W0)(hi:i<N){es:Array Uq}(JZ:∀e∈es,(Ts e).touch?=none/\(Ts e).low w.heap.size/\∀a,Ts e≠ .mark (.release a))(fn:TN)(pos:String):
  Core VV N w (t++Te i fn pos es) Sh act ic n0 W0:=
 h.tG hi (λe he x hx=>by rw[(JZ e he).1]at hx;cases hx) (λe he=>(JZ e he).2.1) (λe he=>(JZ e he).2.2) (λ_=>False) (λb x=>x.elim) rfl (λ_ _=>rfl) rfl rfl rfl fn pos
theorem Core.role(h:Core VV N w t Sh act ic n0 W0)(hi:i<N){V':View}(h1:V'.ab=(VV i).ab)(h2:V'.own=(VV i).own):Core (upd VV i V') N w t Sh act ic n0 W0:=
 h.less hi ⟨λb=> .inr (by rw[h2]),λb o=> .inr (by rw[h1]),λb _ o=>by rw[h1]⟩
end
inductive GS where
 |gone (q:Nat)
 |work (j:Nat) (h:Ht) (V:View)
 |nU (j:Nat) (h:Ht) (V V':View) (g0:SH) (v z:SO)
 |add (n:Nat)
 |load (n:Nat)
 |store (n:Nat)
 |my (n:Nat)
 |head (k n:Nat)
 |ma (v n:Nat)
 |said (n:Nat)
 |ik (n:Nat)
 |last (n:Nat)
 |acq (n:Nat)
 |look (n:Nat)
 |close (n:Nat)
def noView:View:={ab:=λ_ _=>none,own:=λ_=>none,deaf:=0,role:=.plain}
def GS.view (Im:cC):GS->View
 |.work _ _ V=>V
 |.nU _ _ V _ _ _ _=>V
 |.head .. |.ma .. |.said _|.ik _|.last _|.acq _|.look _=>{noView with ab:=Im}
 |_=>noView
def GS.cnt:GS->Nat
 |.work .. |.nU .. |.add _=>1
 |_=>0
def GS.late:GS->Nat
 |.load _|.store _|.my _=>1
 |_=>0
def GS.idx:GS->Option Nat
 |.work j _ _=>some j
 |.nU j _ _ _ _ _ _=>some j
 |_=>none
def GS.shape:GS->GS
 |.gone _=> .gone 0
 |.work j _ _=> .work j .z noView
 |.nU j _ _ _ _ _ _=> .work j .z noView
 |.add _=> .add 0
 |.load _=> .load 0
 |.store _=> .store 0
 |.my _=> .my 0
 |.head k _=> .head k 0
 |.ma v _=> .ma v 0
 |.said _=> .said 0
 |.ik _=> .ik 0
 |.last _=> .last 0
 |.acq _=> .acq 0
 |.look _=> .look 0
 |.close _=> .close 0
theorem GS.nj:∀K:GS,K.shape.cnt=K.cnt:=by intro K;cases K<;>rfl
theorem GS.mu:∀K:GS,K.shape.late=K.late:=by intro K;cases K<;>rfl
theorem GS.F1:∀K:GS,K.shape.idx=K.idx:=by intro K;cases K<;>rfl
def GS.ni:GS->Bool
 |.head .. |.ma .. |.said _|.ik _|.last _|.acq _|.look _|.close _=>true
 |_=>false
theorem GS.OO:∀K:GS,K.shape.ni=K.ni:=by intro K;cases K<;>rfl
def GS.dc:GS->yF
 |.gone q=>⟨0,.z,q⟩
 |.work _ h V=>⟨11+2* (match V.role with|.work _ _ S=>S.length|_=>0),h,0⟩
 |.nU _ h V _ _ _ _=>⟨10+2* (match V.role with|.work _ _ S=>S.length|_=>0),h,0⟩
 |.add n=>⟨8,.z,n⟩
 |.load n=>⟨7,.z,n⟩
 |.store n=>⟨6,.z,n⟩
 |.my n=>⟨5,.z,n⟩
 |.head k n=>⟨100+3* k,.z,n⟩
 |.ma v n=>⟨102+3* v,.z,n⟩
 |.said n=>⟨60,.z,n⟩
 |.ik n=>⟨50,.z,n⟩
 |.last n=>⟨40,.z,n⟩
 |.acq n=>⟨30,.z,n⟩
 |.look n=>⟨20,.z,n⟩
 |.close n=>⟨15,.z,n⟩
section
variable (P:SK)(c Wg:Nat)(Im:cC)(Ss:List (List Spec))
def Dt (v d:Nat)(g:SH):Prop:=d=1/\g.status=.running/\
 (∃g',(∀w,WgAt P Wg w ((v:Int)* KK) 0->stepG P false g w=.go g' (w.setCell (ec Wg) (.int .u64 ((v:Int)* KK+1))) #[ja (ec Wg),kZ (ec Wg)])/\∃n,ii P Wg (Du P Im c Wg) n 1 g')/\
 (∀u:Nat,u<v->∃g',(∀w,WgAt P Wg w ((u:Int)* KK) 0->stepG P false g w=.go g' w #[ja (ec Wg)])/\∃n,cU P (eN P Im c Wg v) n 1 g')
theorem eN.succ{k d:Nat}{g:SH}(h:eN P Im c Wg (k+1) d g):d=1/\g.status=.running/\∀v:Nat,v<=k->v<=4->∃g',(∀w,WgAt P Wg w ((v:Int)* KK) 0->stepG P false g w=.go g' w #[ja (ec Wg)])/\
  (v=0->∃n,ii P Wg (tN P Im c Wg) n 1 g')/\(v≠0->∃n,cU P (Dt P c Wg Im v) n 1 g'):=by
 rw[eN]at h;exact h
theorem eN.zero{d:Nat}{g:SH}(h:eN P Im c Wg 0 d g):False:=by
 rw[eN]at h;exact h
def GS.is:GS->Nat->SH->Prop
 |.gone q,d,g=>Y5 P q d g
 |.work j h V,d,g=>d=V.deaf/\lG P h V g/\∃S,Ss[j]?=some S/\V.role=.work c Wg S
 |.nU j h V V' g0 v z,d,g=>d=0/\V.deaf=0/\g=parked g0 #[scase c v z] .send/\lG P h V' (T1 g0 undef)/\∃sp S,∃B:Nat->Bool,Ss[j]?=some (sp::S)/\V.role=.work c Wg (sp::S)/\
   sp v V.ab (λb=>if B b then V.own b else none)/\V'={V with own:=λb=>if B b then none else V.own b,role:=.work c Wg S}
 |.add n,d,g=>cU P (AC P Wg) n d g
 |.load n,d,g=>cU P (Dw P Wg) n d g
 |.store n,d,g=>cU P (Dy P Wg) n d g
 |.my n,d,g=>cU P (Dx P Wg) n d g
 |.head k n,d,g=>cU P (eN P Im c Wg k) n d g
 |.ma v n,d,g=>cU P (Dt P c Wg Im v) n d g
 |.said n,d,g=>ii P Wg (Du P Im c Wg) n d g
 |.ik n,d,g=>cU P (Dv P Im c Wg) n d g\/(n=0/\∃g1,g={g1 with status:=.blocked}/\Dv P Im c Wg d g1)
 |.last n,d,g=>cU P (HH P Im c Wg) n d g
 |.acq n,d,g=>ii P Wg (tN P Im c Wg) n d g
 |.look n,d,g=>cU P (HI P Im c) n d g
 |.close n,d,g=>cU P (HG P c) n d g
end
theorem cU.running{P:SK}{Stop:Nat->SH->Prop}(hs:∀d g,Stop d g->g.status=.running):∀{n d:Nat}{g:SH},cU P Stop n d g->g.status=.running
 |0,_,_,h=>hs _ _ h
 |_+1,_,_,h=>h.elim (hs _ _) (λx=>x.1)
theorem ii.running{P:SK}{Wg:Nat}{Stop:Nat->SH->Prop}(hs:∀d g,Stop d g->g.status=.running):∀{n d:Nat}{g:SH},ii P Wg Stop n d g->g.status=.running
 |0,_,_,h=>hs _ _ h
 |_+1,_,_,h=>h.elim (hs _ _) (λx=>x.1)
theorem QV{P:SK}{Im:cC}{c Wg:Nat}:∀{k d:Nat}{g:SH},eN P Im c Wg k d g->g.status=.running
 |0,_,_,h=>(eN.zero P c Wg Im h).elim
 |_+1,_,_,h=>(eN.succ P c Wg Im h).2.1
theorem GS.runs{P:SK}{c Wg:Nat}{Im:cC}{Ss:List (List Spec)}{K:GS}{d:Nat}{g:SH}(h:K.is P c Wg Im Ss d g):
  g.status=.running\/g.status=.finished/\(∃q,K=.gone q)\/(∃j h V V' g0 v z,K=.nU j h V V' g0 v z)\/((∃n,K=.ik n)/\g.status=.blocked/\g.offers=none):=by
 cases K with
 |gone q=>exact(ZF h).elim .inl (λx=> .inr (.inl ⟨x,q,rfl⟩))
 |work j h' V=>exact .inl h.2.1.running
 |nU j h' V V' g0 v z=>exact .inr (.inr (.inl ⟨j,h',V,V',g0,v,z,rfl⟩))
 |add n=>exact .inl (cU.running (λd g x=>x.2.1) h)
 |load n=>exact .inl (cU.running (λd g x=>x.2.1) h)
 |store n=>exact .inl (cU.running (λd g x=>x.2.1) h)
 |my n=>exact .inl (cU.running (λd g x=>x.2.1) h)
 |head k n=>exact .inl (cU.running (λd g x=>QV x) h)
 |ma v n=>exact .inl (cU.running (λd g x=>x.2.1) h)
 |said n=>exact .inl (ii.running (λd g x=>x.2.1) h)
 |ik n=>
  rcases h with h|⟨_,g1,rfl,h⟩
  ·exact .inl (cU.running (λd g x=>x.2.1) h)
  ·exact .inr (.inr (.inr ⟨⟨n,rfl⟩,rfl,h.2.2.1⟩))
 |last n=>exact .inl (cU.running (λd g x=>x.2.1) h)
 |acq n=>exact .inl (ii.running (λd g x=>x.2.1) h)
 |look n=>exact .inl (cU.running (λd g x=>x.2.1) h)
 |close n=>exact .inl (cU.running (λd g x=>x.2.1) h)
structure Rel (Wg:Nat)(t:Ui)(i r:Nat):Prop where
 act:t.act? r=some (.mark (.releaseMerge (ec Wg)))
 g:t.g? r=some i
 heard:t.heard r
theorem Rel.app{Wg:Nat}{t u:Ui}{i r:Nat}(h:Rel Wg t i r):Rel Wg (t++u) i r:=
 have hr:=Wc h.act
 ⟨by rw[X7 hr];exact h.act,by rw[g?_old hr];exact h.g,(Wr hr).2 h.heard⟩
inductive eC where
 |early
 |got
 |shut (p:Nat)
 deriving DecidableEq
def wN (Wg:Nat)(t:Ui)(K:Nat->GS)(ic:Nat):eC->Nat->Prop
 |.early,idx=>∃i,t.g? idx=some i/\0<i/\(((K i).idx.isSome=true)\/(i=ic)\/∃r,Rel Wg t i r/\idx<=r)
 |.got,idx=>Wn t ic idx
 |.shut p,idx=>Before t idx p
def Rest (Wg:Nat)(t:Ui)(K:Nat->GS)(ic:Nat)(st:Option eC):Prop:=
 ∀idx a,touchAt t idx=some a->a.loc.isMemory=true->Wn t 0 idx\/(a.kind=.atomic/\¬t.heard idx)\/∃s,st=some s/\wN Wg t K ic s idx
def Mode (P:SK)(c Wg N:Nat)(w:Tq)(gs:Array SH)(t:Ui)(K:Nat->GS)(ic:Nat)(s:eC):Prop:=
 let cn:Nat:=sumTo N λi=>(K i).cnt;let la:Nat:=sumTo N λi=>(K i).late;let opn:=∃n,w.heap[c]?=some (.chan 0 #[] false n n false)
 (opn/\s=.early/\la=0/\cn<=4/\WgAt P Wg w ((cn:Int)* KK) 0/\((∃k,(K ic).shape=.head k 0/\cn<k)\/(∃v,(K ic).shape=.ma v 0/\cn<=v/\0<v)))\/
 (opn/\s=.early/\la=0/\1<=cn/\cn<=4/\WgAt P Wg w ((cn:Int)* KK+1) 0/\((K ic).shape=.said 0\/(K ic).shape=.ik 0))\/
 (opn/\s=.early/\la=1/\cn=0/\((K ic).shape=.said 0\/(K ic).shape=.ik 0)/\(∀i,i<N->((K i).shape=.load 0\/(K i).shape=.store 0)->WgAt P Wg w 1 0)/\(∀i,i<N->(K i).shape=.my 0->WgAt P Wg w 0 0))\/
 (opn/\s=.early/\la=0/\cn=0/\WgAt P Wg w 0 1/\(∀g,gs[ic]?=some g->g.status=.running)/\((K ic).shape=.said 0\/(K ic).shape=.ik 0))\/
 (opn/\s=.early/\la=0/\cn=0/\WgAt P Wg w 0 0/\((K ic).shape=.last 0\/(K ic).shape=.acq 0))\/
 (opn/\s=.got/\la=0/\cn=0/\((K ic).shape=.look 0\/(K ic).shape=.close 0))\/
 ((∃p n,s=.shut p/\t.act? p=some (.close c)/\t.heard p/\w.heap[c]?=some (.chan 0 #[] true n n false))/\la=0/\cn=0/\(K ic).shape=.gone 0)
def kB (gs:Array SH)(g:SH):Prop:=∃g0,gs[0]?=some g0/\g0.status=.running/\g0.frame=g.frame/\g0.callers=g.callers/\g0.dying=g.dying
def n5 (gs:Array SH)(g:SH)(c:Nat):Prop:=∃g0 z,gs[0]?=some (parked g0 #[rcase c z] (.recv true))/\g0.frame=g.frame/\g0.callers=g.callers/\g0.dying=g.dying
structure Phase where
 c:Nat
 Wg:Nat
 Ss:List (List Spec)
 recv:Bool
def bD (V:View)(Im:cC)(K:Nat->GS):Nat->View:=λi=>if i=0 then V else(K i).view Im
structure Inv (P:SK)(n0:Nat)(W0:Tq)(V:View)(gs:Array SH)(w:Tq)(t:Ui)(K:Nat->GS)(Im:cC)(ic:Nat)(ph:Option Phase)(st:Option eC):Prop where
 pos:0<gs.size
 k0:K 0=.gone 0
 d0:US t 0=V.deaf
 «is» : ∀ i g, 0 < i -> gs[i]? = some g -> match ph with
  |some p=>(K i).is P p.c p.Wg Im p.Ss (US t i) g
  |none=>∃q,K i=.gone q/\Y5 P q (US t i) g
 core:Core (bD V Im K) gs.size w t (match ph with|some p=>qQ p.c p.Wg|none=>λ_=>False)
  (λi=>match ph with|some p=>if p.recv then 0<i/\i<gs.size/\((K i).idx.isSome=true\/i=ic\/(K i).cnt=1\/(K i).late=1)else i=0\/(i<gs.size/\(K i).idx.isSome=true)|none=>False) ic n0 W0
 rest:Rest (match ph with|some p=>p.Wg|none=>0) t K ic st
 phase:match ph with
  |none=>st=none
  |some p=>n0<=p.c/\n0<=p.Wg/\p.c≠p.Wg/\p.c<w.heap.size/\p.Wg<w.heap.size/\p.Ss.length<=4/\
   (∀i,0<i->((K i).view Im).own p.c=none/\(∀o,((K i).view Im).ab p.c o=none)/\((K i).view Im).own p.Wg=none/\(∀o,((K i).view Im).ab p.Wg o=none)/\((K i).ni=true->i=ic))/\
   (∀i i' j,0<i->i<gs.size->0<i'->i'<gs.size->(K i).idx=some j->(K i').idx=some j->i=i')/\
   (∀j S,p.Ss[j]?=some S->S≠[]->∃i,0<i/\i<gs.size/\(K i).idx=some j)/\
   (if p.recv then(V.own p.c=none/\(∀o,V.ab p.c o=none)/\V.own p.Wg=none/\(∀o,V.ab p.Wg o=none))/\0<ic/\ic<gs.size/\(∃s,st=some s/\Mode P p.c p.Wg gs.size w gs t K ic s)
    else V.own p.c=some (.chan 0 #[] false 0 0 false)/\ic=0/\st=some .early/\(∀i,0<i->i<gs.size->(K i).idx.isSome=true\/∃q,K i=.gone q)/\(∀S∈p.Ss,S≠[])/\(sumTo gs.size λi=>(K i).cnt)=p.Ss.length)
theorem Ap(K:Nat->GS)(k:GS)(φ:GS->Nat){i N:Nat}(hi:i<N):sumTo N (λa=>φ (upd K i k a))+φ (K i)=sumTo N (λa=>φ (K a))+φ k:=sumTo_upd K k φ hi
theorem lA(K:Nat->GS)(k:GS)(φ:GS->Nat){i N:Nat}(h:φ k=φ (K i)):sumTo N (λa=>φ (upd K i k a))=sumTo N (λa=>φ (K a)):=
 Vl λa _=>by by_cases ha:a=i;subst ha;rw[bw,h];rw[a_ _ _ ha]
theorem Core.A6{VV:Nat->View}{N:Nat}{w:Tq}{t:Ui}{Sh:Loc->Prop}{act act':Nat->Prop}{ic n0:Nat}{W0:Tq}(h:Core VV N w t Sh act ic n0 W0)(ha:∀i,act' i->act i):Core VV N w t Sh act' ic n0 W0:=
 ⟨h.sat,h.dx,h.ti.weaken (SU _) (λ_ _ _ x=> .inl x) (λ_ _ _ x=>x) (λidx a x y=>⟨λhp i hi=>(h.ti.sp idx a x y).1 hp i (ha i hi),(h.ti.sp idx a x y).2⟩),h.tape,h.os,h.out,h.old,h.jm,h.n0⟩
theorem Core.congr{VV DT:Nat->View}{N:Nat}{w:Tq}{t:Ui}{Sh:Loc->Prop}{act:Nat->Prop}{ic n0:Nat}{W0:Tq}(h:Core VV N w t Sh act ic n0 W0)(e:∀i,i<N->DT i=VV i):Core DT N w t Sh act ic n0 W0:=
 ⟨λi hi=>by rw[e i hi];exact h.sat i hi,λi j hi hj kq=>by rw[e i hi,e j hj];exact h.dx i j hi hj kq,
  h.ti.weaken (SU _) (λi l hi ⟨x,y,z⟩=> .inl ⟨x,by rw[<- e i hi];exact y,z⟩) (λi l hi ⟨x,y,z⟩=>⟨x,by rw[<- e i hi];exact y,z⟩) h.ti.sp,h.tape,h.os,h.out,h.old,λi hi b hb=>by rw[e i hi];exact h.jm i hi b hb,h.n0⟩
theorem Nl(V:View)(Im:cC)(K:Nat->GS){i:Nat}(hi:0<i)(k:GS):bD V Im (upd K i k)=upd (bD V Im K) i (k.view Im):=by
 funext j;by_cases hj:j=i
 ·subst hj;rw[bw];simp[bD,bw];omega
 ·rw[a_ _ _ hj];simp[bD,a_ _ _ hj]
theorem Sz{P:SK}{c Wg:Nat}{Im:cC}{Ss:List (List Spec)}{k:GS}{d:Nat}{x g g':SH}{w':Tq}(ho:(∃n,w'.heap[c]?=some (.chan 0 #[] false n n false))\/k.idx=none) (h:k.is P c Wg Im Ss d x):
  k.is P c Wg Im Ss d (woken P g g' w' x):=by
 rcases GS.runs h with hr|⟨hf,q,rfl⟩|⟨j,h',V,V',g0,v,z,rfl⟩|⟨⟨n,rfl⟩,hb,hof⟩
 ·rw[Yl hr];exact h
 ·rw[woken_quitsD h];exact h
 ·rcases ho with⟨n,ho⟩|ho
  ·obtain⟨h1,h2,rfl,h4⟩:=h;rw[woken_send_open _ _ ho];exact⟨h1,h2,rfl,h4⟩
  ·cases ho
 ·rcases h with h|⟨hn,g1,rfl,h⟩
  ·rw[cU.running (λd g x=>x.2.1) h]at hb;cases hb
  ·unfold woken;split
   ·subst hn;refine .inl ?_;have e:({g1 with status:=aty}:SH).again w'=g1:=by
     obtain⟨f,cs,s,dy,o⟩:=g1;have h2:=h.2.1;have h3:=h.2.2.1;simp only at h2 h3;subst h2 h3;rfl
    rw[e];exact h
   ·exact .inr ⟨hn,g1,rfl,h⟩
theorem L4{P:SK}{gs:Array SH}{g:SH}{w':Tq}{i:Nat}{gi bB:SH}(hi:0<i)(h:kB gs g):kB ((gs.map (woken P gi bB w')).setIfInBounds i bB) g:=by
 obtain⟨g0,h0,h1,h2⟩:=h;exact⟨g0,by rw[SR (by omega),WF,h0];simp[Yl h1],h1,h2⟩
theorem Ml{P:SK}{gs:Array SH}{g:SH}{w':Tq}{i c:Nat}{gi bB:SH}(hi:0<i)(h:n5 gs g c)(ho:∃n,w'.heap[c]?=some (.chan 0 #[] false n n false)):n5 ((gs.map (woken P gi bB w')).setIfInBounds i bB) g c:=by
 obtain⟨g0,z,h0,h2⟩:=h;obtain⟨n,ho⟩:=ho;exact⟨g0,z,by rw[SR (by omega),WF,h0];simp[woken_recv_open _ _ ho],h2⟩
theorem anK{P:SK}{gs:Array SH}{g:SH}{w':Tq}{i c:Nat}{gi bB:SH}(hi:0<i)(h:n5 gs g c)(hw:mayWake P gi=true)(hs:bB.status=.running\/bB.status=.finished)(ho:∃n,w'.heap[c]?=some (.chan 0 #[] true n n false)):
  kB ((gs.map (woken P gi bB w')).setIfInBounds i bB) g:=by
 obtain⟨g0,z,h0,h2⟩:=h;obtain⟨n,ho⟩:=ho;refine⟨{parked g0 #[rcase c z] (.recv true)with status:=.running},?_,rfl,h2⟩;rw[SR (by omega),WF,h0];have:woken P gi bB w' (parked g0 #[rcase c z] (.recv true))={parked g0 #[rcase c z] (.recv true)with status:=.running}:=by
  unfold woken;have hc:(mayWake P gi&&bB.status != .blocked&&bB.status != .waiting)=true:=by rcases hs with hs|hs<;>simp[hw,hs]
  rw[if_pos hc,again_recv_closed ho]
 simp[this]
def yD (w:Tq)(c:Nat):Prop:=∃n,w.heap[c]?=some (.chan 0 #[] false n n false)
def HR (gs gs':Array SH)(w w':Tq)(g:SH)(c:Nat):Prop:=(kB gs g->kB gs' g)/\(n5 gs g c->yD w c->kB gs' g\/(n5 gs' g c/\yD w' c))
def Calm (gs:Array SH):Prop:=∀i x,0<i->gs[i]?=some x->x.status=.blocked->x.offers=none
def flag (gs:Array SH)(ic:Nat):Nat:=if(gs[ic]?).any (·.status== .running)then 1 else 0
def iZ (p:Phase)(N ic:Nat)(K:Nat->GS)(i:Nat):Prop:=if p.recv then 0<i/\i<N/\((K i).idx.isSome=true\/i=ic\/(K i).cnt=1\/(K i).late=1)else i=0\/(i<N/\(K i).idx.isSome=true)
section
variable {P:SK}{n0:Nat}{W0:Tq}{V:View}{gs:Array SH}{w:Tq}{t:Ui}{K:Nat->GS}{Im:cC}{ic:Nat}{ph:Option Phase}{st:Option eC}
structure gD (P:SK)(n0:Nat)(W0:Tq)(V:View)(gs:Array SH)(w:Tq)(sl:Option (Nat×Nat))(t:Ui)(K:Nat->GS)(Im:cC)(ic:Nat)(ph:Option Phase)(st:Option eC)(i:Nat):Prop where
 intro::
 atr:∃gs' w' ops K' st',runT P (crowd gs w sl) i=(.next (crowd gs' w' sl),ops)/\gs'.size=gs.size/\Inv P n0 W0 V gs' w' (t++ops) K' Im ic ph st'/\(∀g c,(∀p,ph=some p->p.c=c)->HR gs gs' w w' g c)/\(∀g c,n5 gs g c->Calm gs->Calm gs')/\
  AL gs.size ((λj=>(K' j).dc),flag gs' ic) ((λj=>(K j).dc),flag gs ic)
theorem getElem?_next{gi bB:SH}{w':Tq}{i j:Nat}{x:SH}(hlt:i<gs.size)(h:((gs.map (woken P gi bB w')).setIfInBounds i bB)[j]?=some x):(j=i/\x=bB)\/(j≠i/\∃y,gs[j]?=some y/\x=woken P gi bB w' y):=by
 by_cases cx:j=i
 ·subst cx;rw[S9 (by simpa using hlt)]at h;exact .inl ⟨rfl,(VX h).symm⟩
 ·rw[SR (Ne.symm cx),WF]at h;obtain⟨y,hy,rfl⟩:=Tp.1 h;exact .inr ⟨cx,y,hy,rfl⟩
theorem Rest.app{Wg:Nat}{t u:Ui}{K K':Nat->GS}{ic:Nat}{s s':eC}(h:Rest Wg t K ic (some s))(hold:∀idx a,touchAt t idx=some a->wN Wg t K ic s idx->Wn (t++u) 0 idx\/wN Wg (t++u) K' ic s' idx)
  (v_:∀idx a,t.size<=idx->(∃op∈u,(t++u)[idx]?=some op/\op.act.touch?=some a)->a.loc.isMemory=true->Wn (t++u) 0 idx\/(a.kind=.atomic/\¬(t++u).heard idx)\/wN Wg (t++u) K' ic s' idx):Rest Wg (t++u) K' ic (some s'):=by
 intro idx a ha hm;rcases Ar ha with gq|⟨hi,hx⟩
 ·obtain⟨op,au,_⟩:=UU gq;rcases h idx a gq hm with x|⟨x,y⟩|⟨s1,dD,x⟩
  ·exact .inl (x.app u)
  ·exact .inr (.inl ⟨x,λz=>y ((Wr (TH au)).1 z)⟩)
  ·cases dD;exact(hold idx a gq x).imp id λy=> .inr ⟨s',rfl,y⟩
 ·exact(v_ idx a hi hx hm).imp id (λy=>y.imp id λz=>⟨s',rfl,z⟩)
theorem wN.app{Wg:Nat}{t u:Ui}{K K':Nat->GS}{ic idx:Nat}{s:eC}(db:idx<t.size)(h:wN Wg t K ic s idx)(hK:∀i,t.g? idx=some i->0<i->(K i).idx.isSome=true->(K' i).idx.isSome=true\/∃r,Rel Wg (t++u) i r/\idx<=r):wN Wg (t++u) K' ic s idx:=by
 cases s with
 |early=>
  obtain⟨i,hg,h0,hx⟩:=h;refine⟨i,by rw[g?_old db];exact hg,h0,?_⟩;rcases hx with x|x|⟨r,x,y⟩
  ·exact(hK i hg h0 x).imp id .inr
  ·exact .inr (.inl x)
  ·exact .inr (.inr ⟨r,x.app,y⟩)
 |got=>exact Knows.app u h
 |shut p=>exact Before.app u h
end
def rX (ph:Option Phase):Loc->Prop:=match ph with|some p=>qQ p.c p.Wg|none=>λ_=>False
def nd (ph:Option Phase)(N ic:Nat)(K:Nat->GS):Nat->Prop:=λi=>match ph with|some p=>iZ p N ic K i|none=>False
def Av (ph:Option Phase):Nat:=match ph with|some p=>p.Wg|none=>0
section
variable {P:SK}{n0:Nat}{W0:Tq}{V:View}{gs:Array SH}{w w':Tq}{sl:Option (Nat×Nat)}{t:Ui}{K:Nat->GS}{Im:cC}{ic:Nat}{ph:Option Phase}{st st':Option eC}
def yE (P:SK)(n0:Nat)(V:View)(gs:Array SH)(w:Tq)(t:Ui)(K:Nat->GS)(Im:cC)(ic:Nat)(ph:Option Phase)(st:Option eC):Prop:=match ph with
  |none=>st=none
  |some p=>n0<=p.c/\n0<=p.Wg/\p.c≠p.Wg/\p.c<w.heap.size/\p.Wg<w.heap.size/\p.Ss.length<=4/\
   (∀i,0<i->((K i).view Im).own p.c=none/\(∀o,((K i).view Im).ab p.c o=none)/\((K i).view Im).own p.Wg=none/\(∀o,((K i).view Im).ab p.Wg o=none)/\((K i).ni=true->i=ic))/\
   (∀i i' j,0<i->i<gs.size->0<i'->i'<gs.size->(K i).idx=some j->(K i').idx=some j->i=i')/\
   (∀j S,p.Ss[j]?=some S->S≠[]->∃i,0<i/\i<gs.size/\(K i).idx=some j)/\
   (if p.recv then(V.own p.c=none/\(∀o,V.ab p.c o=none)/\V.own p.Wg=none/\(∀o,V.ab p.Wg o=none))/\0<ic/\ic<gs.size/\(∃s,st=some s/\Mode P p.c p.Wg gs.size w gs t K ic s)
    else V.own p.c=some (.chan 0 #[] false 0 0 false)/\ic=0/\st=some .early/\(∀i,0<i->i<gs.size->(K i).idx.isSome=true\/∃q,K i=.gone q)/\(∀S∈p.Ss,S≠[])/\(sumTo gs.size λi=>(K i).cnt)=p.Ss.length)
def AF (P:SK)(Im:cC)(ph:Option Phase)(k:GS)(d:Nat)(g:SH):Prop:=match ph with
  |some p=>k.is P p.c p.Wg Im p.Ss d g
  |none=>∃q,k=.gone q/\Y5 P q d g
theorem Inv.mk'(pos:0<gs.size)(k0:K 0=.gone 0)(d0:US t 0=V.deaf)(dn:∀i g,0<i->gs[i]?=some g->AF P Im ph (K i) (US t i) g)
  (hc:Core (bD V Im K) gs.size w t (rX ph) (nd ph gs.size ic K) ic n0 W0) (hr:Rest (Av ph) t K ic st) (hp:yE P n0 V gs w t K Im ic ph st):Inv P n0 W0 V gs w t K Im ic ph st:=by
 cases ph with
 |none=>exact⟨pos,k0,d0,dn,hc,hr,hp⟩
 |some p=>exact⟨pos,k0,d0,dn,hc,hr,hp⟩
theorem Inv.out(h:Inv P n0 W0 V gs w t K Im ic ph st):(∀i g,0<i->gs[i]?=some g->AF P Im ph (K i) (US t i) g)/\Core (bD V Im K) gs.size w t (rX ph) (nd ph gs.size ic K) ic n0 W0/\Rest (Av ph) t K ic st/\yE P n0 V gs w t K Im ic ph st:=by
 cases ph with
 |none=>exact⟨h.is,h.core,h.rest,h.phase⟩
 |some p=>exact⟨h.is,h.core,h.rest,h.phase⟩
theorem afW{y:SH}(hy:y.status=.blocked->y.offers=none):(y.again w').status=.blocked->(y.again w').offers=none:=by
 obtain⟨f,cs,s,d,o⟩:=y;unfold YV;cases s<;>cases o<;>simp_all
theorem afX{g g' y:SH}(hy:y.status=.blocked->y.offers=none)(hb:(woken P g g' w' y).status=.blocked):(woken P g g' w' y).offers=none:=by
 unfold woken at hb⊢;split
 ·rename_i hh;rw[if_pos hh]at hb;exact afW hy hb
 ·rename_i hh;rw[if_neg hh]at hb;exact hy hb
theorem Inv.aaR(h:Inv P n0 W0 V gs w t K Im ic ph st){i:Nat}{gi bB:SH}{es:Array Uq}{k':GS}(hi:0<i)(aM:gs[i]?=some gi)(aT:stepG P false gi w=.go bB w' es)
  (hk:AF P Im ph k' (deafBehind (US t i) es) bB) (sR:bB.status=.blocked->bB.offers=none) (gI:∀p,ph=some p->(∃n,w'.heap[p.c]?=some (.chan 0 #[] false n n false))\/(∀j,0<j->j<gs.size->j≠i->(K j).idx=none))
  (xz:Core (bD V Im (upd K i k')) gs.size w' (t++Te i gi.frame.fn gi.frame.place es) (rX ph) (nd ph gs.size ic (upd K i k')) ic n0 W0)
  (kI:Rest (Av ph) (t++Te i gi.frame.fn gi.frame.place es) (upd K i k') ic st')
  (Ch:yE P n0 V ((gs.map (woken P gi bB w')).setIfInBounds i bB) w' (t++Te i gi.frame.fn gi.frame.place es) (upd K i k') Im ic ph st')
  (jD:AL gs.size ((λj=>(upd K i k' j).dc),flag ((gs.map (woken P gi bB w')).setIfInBounds i bB) ic) ((λj=>(K j).dc),flag gs ic))
  (pi:∀g c,(∀p,ph=some p->p.c=c)->HR gs ((gs.map (woken P gi bB w')).setIfInBounds i bB) w w' g c):gD P n0 W0 V gs w sl t K Im ic ph st i:=by
 have hlt:i<gs.size:=(SS.1 aM).1;have eY:(i==0)=false:=by simp;omega
 have aU:((gs.map (woken P gi bB w')).setIfInBounds i bB).size=gs.size:=by simp
 have Co:∀op∈Te i gi.frame.fn gi.frame.place es,op.g=i:=λop au=>by obtain⟨e,_,rfl⟩:=TK au;rfl
 refine⟨_,w',_,upd K i k',st',runT_crowd_go (P:=P) (sl:=sl) aM (by rw[eY];exact aT),aU,?_,pi,?_,jD⟩
 rotate_left
 ·intro g c _ hc j x hj hx hb;rcases getElem?_next hlt hx with⟨_,rfl⟩|⟨_,y,hy,rfl⟩
  ·exact sR hb
  ·exact afX (hc j y hj hy) hb
 refine Inv.mk' (by rw[aU];exact h.pos) (by rw[a_ _ _ (by omega)];exact h.k0) ?_ (λj x hj hx=> ?_) (by rw[aU];exact xz) kI Ch
 ·rw[atA t (g:=0) (g':=i) (by omega) _ Co];exact h.d0
 ·rcases getElem?_next hlt hx with⟨rfl,rfl⟩|⟨cx,y,hy,rfl⟩
  ·rw[bw,Deaf_own];exact hk
  ·rw[a_ _ _ cx,atA t (g:=j) (g':=i) (Ne.symm cx) _ Co];have Cv:=h.out.1 j y hj hy;have Ko:j<gs.size:=(SS.1 hy).1;cases ph with
   |none=>
    obtain⟨q,hq,pt⟩:=Cv;exact⟨q,hq,by rw[woken_quitsD pt];exact pt⟩
   |some p=>
    refine Sz ?_ Cv;rcases gI p rfl with x|x
    ·exact .inl x
    ·exact .inr (x j hj Ko cx)
theorem Inv.next(h:Inv P n0 W0 V gs w t K Im ic ph st){i:Nat}{gi bB:SH}{es:Array Uq}{k':GS}(hi:0<i)(aM:gs[i]?=some gi)(aT:stepG P false gi w=.go bB w' es)
  (hk:AF P Im ph k' (deafBehind (US t i) es) bB) (sR:bB.status=.blocked->bB.offers=none) (gI:∀p,ph=some p->(∃n,w'.heap[p.c]?=some (.chan 0 #[] false n n false))\/(∀j,0<j->j<gs.size->j≠i->(K j).idx=none))
  (xz:Core (bD V Im (upd K i k')) gs.size w' (t++Te i gi.frame.fn gi.frame.place es) (rX ph) (nd ph gs.size ic (upd K i k')) ic n0 W0)
  (kI:Rest (Av ph) (t++Te i gi.frame.fn gi.frame.place es) (upd K i k') ic st')
  (Ch:yE P n0 V ((gs.map (woken P gi bB w')).setIfInBounds i bB) w' (t++Te i gi.frame.fn gi.frame.place es) (upd K i k') Im ic ph st')
  (uB:qP k'.dc (K i).dc)
  (pi:∀g c,(∀p,ph=some p->p.c=c)->HR gs ((gs.map (woken P gi bB w')).setIfInBounds i bB) w w' g c):gD P n0 W0 V gs w sl t K Im ic ph st i:=
 h.aaR hi aM aT hk sR gI xz kI Ch (.inl ⟨i,(SS.1 aM).1,by simpa only[bw]using uB,λj hj=>by show (upd K i k' j).dc=(K j).dc;rw[a_ _ _ hj]⟩) pi
theorem amZ{B:Nat}{e:Uq}(h:e.mute=true):(Ts e).touch?=none/\(Ts e).low B/\∀a,Ts e≠ .mark (.release a):=by
 refine⟨ZX h,low_mute h B,λa=> ?_⟩;obtain⟨l,wr,sy⟩:=e;cases l with
 |mark m=>cases m<;>cases wr<;>cases sy<;>simp_all[Ts,WH]
 |_=>simp[WH]at h
theorem Mode.keep{c Wg N:Nat}{gs':Array SH}{u:Ui}{K':Nat->GS}{s:eC}(h:Mode P c Wg N w gs t K ic s)(hs:∀j,(K' j).shape=(K j).shape)(hc:w'.heap[c]?=w.heap[c]?)(hW:w'.heap[Wg]?=w.heap[Wg]?)
  (hr:(∀g,gs[ic]?=some g->g.status=.running)->∀g,gs'[ic]?=some g->g.status=.running):Mode P c Wg N w' gs' (t++u) K' ic s:=by
 have e1:sumTo N (λi=>(K' i).cnt)=sumTo N λi=>(K i).cnt:=Vl λi _=>by rw[<- GS.nj,hs i,GS.nj]
 have e2:sumTo N (λi=>(K' i).late)=sumTo N λi=>(K i).late:=Vl λi _=>by rw[<- GS.mu,hs i,GS.mu]
 have e3:∀st sm,WgAt P Wg w' st sm=WgAt P Wg w st sm:=λst sm=>by unfold WgAt;rw[hW]
 unfold Mode at h⊢;simp only[e1,e2,e3,hs,hc];rcases h with h|h|h|h|h|h|h
 ·exact .inl h
 ·exact .inr (.inl h)
 ·exact .inr (.inr (.inl h))
 ·exact .inr (.inr (.inr (.inl ⟨h.1,h.2.1,h.2.2.1,h.2.2.2.1,h.2.2.2.2.1,hr h.2.2.2.2.2.1,h.2.2.2.2.2.2⟩)))
 ·exact .inr (.inr (.inr (.inr (.inl h))))
 ·exact .inr (.inr (.inr (.inr (.inr (.inl h)))))
 ·obtain⟨⟨p,n,a,b,c',d⟩,e⟩:=h;exact .inr (.inr (.inr (.inr (.inr (.inr ⟨⟨p,n,a,by rw[X7 (Wc b)];exact b,(Wr (Wc b)).2 c',d⟩,e⟩)))))
theorem abN{i:Nat}{gi bB:SH}(hlt:i<gs.size)(hg:bB.status=.running)(h:∀g,gs[ic]?=some g->g.status=.running):∀g,((gs.map (woken P gi bB w')).setIfInBounds i bB)[ic]?=some g->g.status=.running:=by
 intro g J6;rcases getElem?_next hlt J6 with⟨_,rfl⟩|⟨_,y,hy,rfl⟩
 ·exact hg
 ·rw[Yl (h y hy)];exact h y hy
theorem GS.Sr{k:GS}(h:k.cnt=0):k.idx=none:=by
 cases k<;>first|rfl|(simp[GS.cnt]at h)
theorem Inv.opens(h:Inv P n0 W0 V gs w t K Im ic ph st){p:Phase}(hp:ph=some p):(∃n,w.heap[p.c]?=some (.chan 0 #[] false n n false))\/((∀j,0<j->j<gs.size->(K j).idx=none)/\(∃n,w.heap[p.c]?=some (.chan 0 #[] true n n false))/\p.recv=true):=by
 subst hp;obtain⟨_,hc,_,gJ⟩:=h.out;obtain⟨_,_,_,_,_,_,_,_,_,hx⟩:=gJ;by_cases hr:p.recv=true
 ·rw[if_pos hr]at hx;obtain⟨_,_,_,s,_,hm⟩:=hx;rcases hm with h|h|h|h|h|h|h
  ·exact .inl h.1
  ·exact .inl h.1
  ·exact .inl h.1
  ·exact .inl h.1
  ·exact .inl h.1
  ·exact .inl h.1
  ·obtain⟨⟨_,n,_,_,_,hn⟩,_,gR,_⟩:=h;refine .inr ⟨λj hj gU=> ?_,⟨n,hn⟩,hr⟩;have hle:(K j).cnt<=sumTo gs.size λi=>(K i).cnt:=WC (f:=λi=>(K i).cnt) gU;exact GS.Sr (by omega)
 ·rw[if_neg hr]at hx;have:=(hc.sat 0 h.pos).own p.c _ (by simp only[bD,if_true];exact hx.1);exact .inl ⟨0,this⟩
theorem Inv.slip(h:Inv P n0 W0 V gs w t K Im ic ph st){i:Nat}{gi bB:SH}{es:Array Uq}{k':GS}(hi:0<i)(aM:gs[i]?=some gi)(aT:stepG P false gi w=.go bB w es)(jD:∀e∈es,e.mute=true)
  (hk:AF P Im ph k' (deafBehind (US t i) es) bB) (sR:bB.status=.blocked->bB.offers=none) (dU:k'.shape=(K i).shape) (mm:k'.view Im=(K i).view Im) (bL:(K i).shape=.ik 0\/(K i).shape=.said 0->bB.status=.running) (uB:qP k'.dc (K i).dc):gD P n0 W0 V gs w sl t K Im ic ph st i:=by
 have hlt:i<gs.size:=(SS.1 aM).1;obtain⟨_,hc,hr,hp⟩:=h.out;have db:∀j,((upd K i k') j).idx=(K j).idx:=λj=>by
  by_cases hj:j=i
  ·subst hj;rw[bw,<- GS.F1,dU,GS.F1]
  ·rw[a_ _ _ hj]
 have lP:∀j,((upd K i k') j).shape=(K j).shape:=λj=>by
  by_cases hj:j=i
  ·subst hj;rw[bw,dU]
  ·rw[a_ _ _ hj]
 have Sj:∀j,((upd K i k') j).view Im=(K j).view Im:=λj=>by
  by_cases hj:j=i
  ·subst hj;rw[bw,mm]
  ·rw[a_ _ _ hj]
 have oY:∀j,((upd K i k') j).cnt=(K j).cnt:=λj=>by rw[<- GS.nj,lP,GS.nj]
 have v8:∀j,((upd K i k') j).late=(K j).late:=λj=>by rw[<- GS.mu,lP,GS.mu]
 refine h.next (st':=st) hi aM aT hk sR (λp zA=>(h.opens zA).imp id λx j a b _=>x.1 j a b) ?_ ?_ ?_ uB ?_
 ·refine((hc.quiet hlt (λe he=>amZ (jD e he)) gi.frame.fn gi.frame.place).congr λj hj=> ?_).A6 λj hj=> ?_
  ·simp only[bD,Sj]
  ·cases ph with
   |none=>exact hj
   |some p=>simpa only[nd,iZ,db,oY,v8]using hj
 ·cases st with
  |none=>
   intro idx a ha hm;have gq:=As (λop au=>by obtain⟨e,he,rfl⟩:=TK au;exact ZX (jD e he)) ha;obtain⟨op,au,_⟩:=UU gq;rcases hr idx a gq hm with x|⟨x,y⟩|⟨_,z,_⟩
   ·exact .inl (x.app _)
   ·exact .inr (.inl ⟨x,λz=>y ((Wr (TH au)).1 z)⟩)
   ·cases z
  |some s=>
   refine hr.app (λidx a ha hx=> .inr (hx.app (by obtain⟨op,au,_⟩:=UU ha;exact TH au) λj _ _ hj=> .inl (by rw[db];exact hj))) (λidx a _ ⟨op,au,_,hx⟩ _=> ?_);obtain⟨e,he,rfl⟩:=TK au;rw[ZX (jD e he)]at hx;cases hx
 ·cases ph with
  |none=>exact hp
  |some p=>
   obtain⟨a1,a2,a3,a4,a5,a6,a7,a8,a9,bW⟩:=hp;refine⟨a1,a2,a3,a4,a5,a6,λj hj=>by rw[Sj,<- GS.OO,lP,GS.OO];exact a7 j hj,λj j' m b1 b2 b3 b4 b5 b6=>a8 j j' m b1 (by simpa using b2) b3 (by simpa using b4) (by rw[<- db];exact b5) (by rw[<- db];exact b6),λj S b1 b2=> ?_,?_⟩
   ·obtain⟨m,c1,c2,c3⟩:=a9 j S b1 b2;exact⟨m,c1,by simpa using c2,by rw[db];exact c3⟩
   ·split
    ·rename_i aI;rw[if_pos aI]at bW;obtain⟨c1,c2,c3,s,c4,c5⟩:=bW;refine⟨c1,c2,by simpa using c3,s,c4,?_⟩;have aU:((gs.map (woken P gi bB w)).setIfInBounds i bB).size=gs.size:=(by simp);rw[aU];by_cases fV:i=ic/\bB.status≠ .running
     ·
      obtain⟨rfl,rC⟩:=fV;unfold Mode at c5⊢;have e1:sumTo gs.size (λj=>((upd K i k') j).cnt)=sumTo gs.size λj=>(K j).cnt:=Vl λj _=>oY j;have e2:sumTo gs.size (λj=>((upd K i k') j).late)=sumTo gs.size λj=>(K j).late:=Vl λj _=>v8 j;simp only[e1,e2,lP];rcases c5 with h|h|h|h|h|h|h
      ·exact .inl h
      ·exact .inr (.inl h)
      ·exact .inr (.inr (.inl h))
      ·exact absurd (bL h.2.2.2.2.2.2.symm) rC
      ·exact .inr (.inr (.inr (.inr (.inl h))))
      ·exact .inr (.inr (.inr (.inr (.inr (.inl h)))))
      ·obtain⟨⟨p,n,a,b,c',d⟩,e⟩:=h;exact .inr (.inr (.inr (.inr (.inr (.inr ⟨⟨p,n,a,by rw[X7 (Wc b)];exact b,(Wr (Wc b)).2 c',d⟩,e⟩)))))
     ·refine c5.keep lP rfl rfl λrH g hg=> ?_;rcases getElem?_next hlt hg with⟨rfl,rfl⟩|⟨_,y,hy,rfl⟩
      ·exact Tt λx=>fV ⟨rfl,x⟩
      ·rw[Yl (rH y hy)];exact rH y hy
    ·rename_i aI;rw[if_neg aI]at bW;refine⟨bW.1,bW.2.1,bW.2.2.1,λj b1 b2=> ?_,bW.2.2.2.2.1,?_⟩
     rotate_left
     ·rw[show ((gs.map (woken P gi bB w)).setIfInBounds i bB).size=gs.size by simp,Vl λj _=>oY j];exact bW.2.2.2.2.2
     rcases bW.2.2.2.1 j b1 (by simpa using b2)with x|⟨q,x⟩
     ·exact .inl (by rw[db];exact x)
     ·by_cases hj:j=i
      ·subst hj;rw[bw];rw[x]at dU;cases k'<;>simp[GS.shape]at dU;exact .inr ⟨_,rfl⟩
      ·rw[a_ _ _ hj];exact .inr ⟨q,x⟩
 ·intro g c _;exact⟨L4 hi,λjh ho=> .inr ⟨Ml hi jh ho,ho⟩⟩
end
section
variable {P:SK}{n0:Nat}{W0:Tq}{V:View}{gs:Array SH}{w w':Tq}{sl:Option (Nat×Nat)}{t:Ui}{K:Nat->GS}{Im:cC}{ic:Nat}{p:Phase}{st st':Option eC}
def jr (p:Phase)(U:View):Prop:=U.own p.c=none/\(∀o,U.ab p.c o=none)/\U.own p.Wg=none/\(∀o,U.ab p.Wg o=none)
theorem jr.step{U U':View}{es:Array Uq}(b:jr p U)(s:dj U w U' w' es)(hc:p.c<w.heap.size)(hW:p.Wg<w.heap.size):jr p U':=by
 have key:∀b,b<w.heap.size->U.own b=none->(∀o,U.ab b o=none)->U'.own b=none/\∀o,U'.ab b o=none:=by
  intro b hb ho hi;refine⟨s.own b hb ho,λo=> ?_⟩;cases e:U'.ab b o with
  |none=>rfl
  |some v=>
   rcases s.kK b o v e with x|x|x
   ·rw[hi o]at x;cases x
   ·exact absurd ho x
   ·omega
 have k1:=key p.c hc b.1 b.2.1;have k2:=key p.Wg hW b.2.2.1 b.2.2.2;exact⟨k1.1,k1.2,k2.1,k2.2⟩
theorem jr.zX{U:View}(b:jr p U){l:Loc}(h:gN U l):¬qQ p.c p.Wg l:=by
 intro hs;cases l with
 |cell a=>
  have e:a.block=p.Wg:=hs;rcases h with h|h
  ·exact h (by rw[e];exact b.2.2.1)
  ·exact h (by rw[e];exact b.2.2.2 _)
 |obj r=>have e:r=p.c:=hs;exact h (by rw[e];exact b.1)
 |_=>exact hs
theorem jr.ghost{U U':View}(b:jr p U)(g:ee U U'):jr p U':=by
 have key:∀b,U.own b=none->(∀o,U.ab b o=none)->U'.own b=none/\∀o,U'.ab b o=none:=by
  intro b ho hi;refine⟨g.own b ho,λo=> ?_⟩;cases e:U'.ab b o with
  |none=>rfl
  |some v=>
   rcases g.kK b o v e with x|x
   ·rw[hi o]at x;cases x
   ·exact absurd ho x
 have k1:=key p.c b.1 b.2.1;have k2:=key p.Wg b.2.2.1 b.2.2.2;exact⟨k1.1,k1.2,k2.1,k2.2⟩
theorem afD:jr p noView:=⟨rfl,λ_=>rfl,rfl,λ_=>rfl⟩
theorem Inv.blind(h:Inv P n0 W0 V gs w t K Im ic (some p) st){i:Nat}(hi:0<i):jr p ((K i).view Im):=let x:=h.phase.2.2.2.2.2.2.1 i hi;⟨x.1,x.2.1,x.2.2.1,x.2.2.2.1⟩
theorem Inv.rZ(h:Inv P n0 W0 V gs w t K Im ic (some p) st){i:Nat}(hi:0<i)(hc:(K i).ni=true):i=ic:=(h.phase.2.2.2.2.2.2.1 i hi).2.2.2.2 hc
theorem Inv.low(h:Inv P n0 W0 V gs w t K Im ic (some p) st):p.c<w.heap.size/\p.Wg<w.heap.size:=⟨h.phase.2.2.2.1,h.phase.2.2.2.2.1⟩
theorem ace(hc:p.c<w.heap.size)(hW:p.Wg<w.heap.size){l:Loc}(h:qQ p.c p.Wg l):l.low w.heap.size:=by
 cases l with
 |cell a=>show a.block<_;rw[show a.block=p.Wg from h];exact hW
 |obj r=>show r<_;rw[show r=p.c from h];exact hc
 |_=>exact h.elim
theorem Inv.af9(h:Inv P n0 W0 V gs w t K Im ic (some p) st)(hr:p.recv=true){i:Nat}(hlt:i<gs.size)(hk:(K i).cnt=1):∃s,WgAt P p.Wg w s 0:=by
 obtain⟨_,_,_,_,_,_,_,_,_,hx⟩:=h.phase;rw[if_pos hr]at hx;obtain⟨_,_,_,s,hs,hm⟩:=hx;have hle:(K i).cnt<=sumTo gs.size λi=>(K i).cnt:=WC (f:=λi=>(K i).cnt) hlt;rcases hm with h|h|h|h|h|h|h
 ·exact⟨_,h.2.2.2.2.1⟩
 ·exact⟨_,h.2.2.2.2.2.1⟩
 ·have:=h.2.2.2.1;omega
 ·have:=h.2.2.2.1;omega
 ·have:=h.2.2.2.1;omega
 ·have:=h.2.2.2.1;omega
 ·have:=h.2.2.1;omega
theorem Inv.NW(h:Inv P n0 W0 V gs w t K Im ic (some p) st)(hr:p.recv=true){n:Nat}(hk:K ic=.acq n\/K ic=.said n):∃x y,WgAt P p.Wg w x y:=by
 obtain⟨_,_,_,_,_,_,_,_,_,hx⟩:=h.phase;rw[if_pos hr]at hx;obtain⟨_,_,_,s,hs,hm⟩:=hx;unfold Mode at hm;rcases hm with h|h|h|h|h|h|h
 ·exact⟨_,_,h.2.2.2.2.1⟩
 ·exact⟨_,_,h.2.2.2.2.2.1⟩
 ·have key:∀N,0<(sumTo N λi=>(K i).late)->∃i,i<N/\(K i).late≠0:=by
   intro N;induction N with
   |zero=>intro h;exact absurd h (by simp[sumTo])
   |succ N ih=>
    intro h;by_cases h0:(K N).late=0
    ·simp only[sumTo,h0]at h;obtain⟨i,hi,hl⟩:=ih (by omega);exact⟨i,by omega,hl⟩
    ·exact⟨N,by omega,h0⟩
  have:=key gs.size (by have:=h.2.2.1;omega);obtain⟨i,hi,hl⟩:=this;cases lc:K i<;>rw[lc]at hl<;>first
   |exact⟨_,_,h.2.2.2.2.2.1 i hi (by rw[lc];exact .inl rfl)⟩
   |exact⟨_,_,h.2.2.2.2.2.1 i hi (by rw[lc];exact .inr rfl)⟩
   |exact⟨_,_,h.2.2.2.2.2.2 i hi (by rw[lc];rfl)⟩
   |exact absurd rfl hl
 ·exact⟨_,_,h.2.2.2.2.1⟩
 ·exact⟨_,_,h.2.2.2.2.1⟩
 ·exfalso;rcases hk with hk|hk<;>rw[hk]at h<;>rcases h.2.2.2.2 with h|h<;>cases h
 ·exfalso;rcases hk with hk|hk<;>rw[hk]at h<;>cases h.2.2.2
theorem Inv.counted(h:Inv P n0 W0 V gs w t K Im ic (some p) st){i:Nat}(_hi:0<i)(hlt:i<gs.size)(hk:(K i).cnt=1):(∃n,w.heap[p.c]?=some (.chan 0 #[] false n n false))/\st=some .early:=by
 have gJ:=h.phase;obtain⟨_,_,_,_,_,_,_,_,_,hx⟩:=gJ;by_cases hr:p.recv=true
 ·rw[if_pos hr]at hx;obtain⟨_,_,_,s,hs,hm⟩:=hx;have hle:(K i).cnt<=sumTo gs.size λi=>(K i).cnt:=WC (f:=λi=>(K i).cnt) hlt;rcases hm with h|h|h|h|h|h|h
  ·exact⟨h.1,by rw[hs,h.2.1]⟩
  ·exact⟨h.1,by rw[hs,h.2.1]⟩
  ·exact⟨h.1,by rw[hs,h.2.1]⟩
  ·exact⟨h.1,by rw[hs,h.2.1]⟩
  ·exact⟨h.1,by rw[hs,h.2.1]⟩
  ·have:=h.2.2.2.1;omega
  ·have:=h.2.2.1;omega
 ·rw[if_neg hr]at hx;have:=(h.core.sat 0 h.pos).own p.c _ (by simp only[bD,if_true];exact hx.1);exact⟨⟨0,this⟩,hx.2.2.1⟩
theorem Inv.Mn(h:Inv P n0 W0 V gs w t K Im ic (some p) st){i:Nat}{k':GS}{gs':Array SH}{t':Ui}(aU:gs'.size=gs.size)(gr:w.heap.size<=w'.heap.size)(hb:jr p (k'.view Im))(xx:k'.ni=true->i=ic)
  (db:k'.idx=(K i).idx\/(k'.idx=none/\∀j,(K i).idx=some j->p.Ss[j]?=some []))
  (eo:if p.recv then∃s,st'=some s/\Mode P p.c p.Wg gs.size w' gs' t' (upd K i k') ic s
    else st'=some .early/\k'.idx.isSome=true/\k'.cnt=(K i).cnt):yE P n0 V gs' w' t' (upd K i k') Im ic (some p) st':=by
 obtain⟨a1,a2,a3,a4,a5,a6,a7,a8,a9,bW⟩:=h.phase;have sW:∀j m,((upd K i k') j).idx=some m->(K j).idx=some m:=by
  intro j m hj;by_cases cx:j=i
  ·subst cx;rw[bw]at hj;rcases db with x|⟨x,_⟩
   ·rw[<- x];exact hj
   ·rw[x]at hj;cases hj
  ·rw[a_ _ _ cx]at hj;exact hj
 refine⟨a1,a2,a3,Td a4 gr,Td a5 gr,a6,λj hj=> ?_,λj j' m b1 b2 b3 b4 b5 b6=>a8 j j' m b1 (aU▸b2) b3 (aU▸b4) (sW _ _ b5) (sW _ _ b6),λj S b1 b2=> ?_,?_⟩
 ·by_cases cx:j=i
  ·subst cx;rw[bw];exact⟨hb.1,hb.2.1,hb.2.2.1,hb.2.2.2,xx⟩
  ·rw[a_ _ _ cx];exact a7 j hj
 ·obtain⟨m,c1,c2,c3⟩:=a9 j S b1 b2;refine⟨m,c1,by rw[aU];exact c2,?_⟩;by_cases cY:m=i
  ·subst cY;rw[bw];rcases db with x|⟨_,x⟩
   ·rw[x];exact c3
   ·have:=x j c3;rw[this]at b1;cases b1;exact absurd rfl b2
  ·rw[a_ _ _ cY];exact c3
 ·split
  ·rename_i aI;rw[if_pos aI]at bW eo;obtain⟨c1,c2,c3,_⟩:=bW;exact⟨c1,c2,by rw[aU];exact c3,by rw[aU];exact eo⟩
  ·rename_i aI;rw[if_neg aI]at bW eo;obtain⟨c1,c2,_,c4,c5⟩:=bW;refine⟨c1,c2,eo.1,λj b1 b2=> ?_,c5.1,by rw[aU,lA K k' GS.cnt eo.2.2];exact c5.2⟩;by_cases cx:j=i
   ·subst cx;rw[bw];exact .inl eo.2.1
   ·rw[a_ _ _ cx];exact c4 j b1 (aU▸b2)
theorem Inv.adi(h:Inv P n0 W0 V gs w t K Im ic (some p) st){i j:Nat}{gi bB:SH}{es:Array Uq}{hh h':Ht}{Vi V':View}(hi:0<i)(aM:gs[i]?=some gi)(hK:K i=.work j hh Vi)(aT:stepG P false gi w=.go bB w' es)
  (s:dj Vi w V' w' es) (hk:lG P h' V' bB) (mh:AE h' hh):gD P n0 W0 V gs w sl t K Im ic (some p) st i:=by
 have hlt:i<gs.size:=(SS.1 aM).1;have dn:=h.is i gi hi aM;simp only[hK,GS.is]at dn;obtain⟨hd,_,S,hS,ji⟩:=dn;have gR:(K i).cnt=1:=by rw[hK];rfl
 obtain⟨⟨n,gI⟩,lr⟩:=h.counted hi hlt gR;have iq:=h.low;have bX:jr p Vi:=by have:=h.blind hi;rw[hK]at this;exact this
 have ajp:=bX.step s iq.1 iq.2;have mm:bD V Im K i=Vi:=by simp[bD,hK,GS.view];omega
 have fe:w'.heap[p.c]?=w.heap[p.c]?:=s.frame p.c iq.1 bX.1;have hWh:w'.heap[p.Wg]?=w.heap[p.Wg]?:=s.frame p.Wg iq.2 bX.2.2.1;have lP:∀m,((upd K i (.work j h' V')) m).shape=(K m).shape:=λm=>by
  by_cases hm:m=i
  ·subst hm;rw[bw,hK];rfl
  ·rw[a_ _ _ hm]
 have db:∀m,((upd K i (.work j h' V')) m).idx=(K m).idx:=λm=>by rw[<- GS.F1,lP,GS.F1]
 have oY:∀m,((upd K i (.work j h' V')) m).cnt=(K m).cnt:=λm=>by rw[<- GS.nj,lP,GS.nj]
 have v8:∀m,((upd K i (.work j h' V')) m).late=(K m).late:=λm=>by rw[<- GS.mu,lP,GS.mu]
 have bY:V'.role=Vi.role:=s.role;refine h.next (k':=.work j h' V') (st':=st) hi aM aT ⟨by rw[hd,s.deaf],hk,S,hS,bY.trans ji⟩ (λx=>by rw[hk.running]at x;cases x) (λq hq=>by cases hq;exact .inl ⟨n,by rw[fe];exact gI⟩) ?_ ?_ ?_ ?_ ?_
 ·rw[Nl V Im K hi];refine(Core.step (V':=V') h.core hlt (by rw[mm];exact s) (λe he x hx hs=> ?_) gi.frame.fn gi.frame.place).A6 λm hm=> ?_
  ·exfalso;rcases(IS (s.fl e he) hx).1 with y|⟨y,_⟩|y
   ·exact bX.zX y.rd hs
   ·exact bX.zX y hs
   ·exact y (ace iq.1 iq.2 hs)
  ·simpa only[nd,iZ,db,oY,v8]using hm
 ·rw[lr];have hr:Rest (Av (some p)) t K ic st:=h.out.2.2.1;rw[lr]at hr;refine hr.app (λidx a ha hx=> .inr (hx.app (by obtain⟨op,au,_⟩:=UU ha;exact TH au) λm _ _ hm=> .inl (by rw[db];exact hm))) (λidx a _ ⟨op,au,xC,_⟩ _=> .inr (.inr ⟨i,?_,hi,.inl ?_⟩))
  ·obtain⟨e,_,rfl⟩:=TK au;simp[WA,xC]
  ·rw[bw];rfl
 ·refine h.Mn (by simp) s.size ajp (λx=>by cases x) (.inl (by rw[hK];rfl)) ?_;have hx:=h.phase.2.2.2.2.2.2.2.2.2;split
  ·rename_i aI;rw[if_pos aI]at hx;obtain⟨_,_,_,s',mj,hm⟩:=hx;exact⟨s',mj,hm.keep lP fe hWh λrH=>abN hlt hk.running rH⟩
  ·exact⟨lr,rfl,by rw[hK];rfl⟩
 ·rw[hK];refine .inr ⟨by simp[GS.dc,bY],.inl mh⟩
 ·intro g c JR;have ho:yD w' c:=⟨n,by rw[<- JR p rfl,fe];exact gI⟩;exact⟨L4 hi,λjh _=> .inr ⟨Ml hi jh ho,ho⟩⟩
end
def nP (V:View)(I':cC)(O':AN)(r:m_):View:=
 {V with ab:=λb o=>match V.ab b o with|some x=>some x|none=>I' b o,own:=λb=>match V.own b with|some x=>some x|none=>O' b,role:=r}
def lY (B:Nat->Bool)(U:View):AN:=λb=>if B b then U.own b else none
def lU (B:Nat->Bool)(U:View)(r:m_):View:={U with own:=λb=>if B b then none else U.own b,role:=r}
section
variable {P:SK}{n0:Nat}{W0:Tq}{V:View}{gs gs':Array SH}{w w':Tq}{sl:Option (Nat×Nat)}{t:Ui}{K:Nat->GS}{Im:cC}{ic:Nat}{p:Phase}{st:Option eC}
theorem abd{k:GS}{d:Nat}{x:SH}(h:k.is P p.c p.Wg Im p.Ss d x)(r:Nat):offersAt x r false=[]:=by
 rcases GS.runs h with hr|⟨hf,_⟩|⟨j,h',V,V',g0,v,z,rfl⟩|⟨_,hb,ho⟩
 ·exact UV (by rw[hr];simp) r false
 ·exact UV (by rw[hf];simp) r false
 ·obtain⟨_,_,rfl,_⟩:=h;exact offersAt_parked_send' _ _ _ _ _ _
 ·unfold offersAt;simp[hb,ho]
theorem amJ{g:SH}(h:kB gs g){x:SH}(hx:gs[0]?=some x)(r:Nat)(s:Bool):offersAt x r s=[]:=by
 obtain⟨g0,h0,h1,_⟩:=h;rw[h0]at hx;cases hx;exact UV (by rw[h1];simp) r s
theorem Inv.arM(h:Inv P n0 W0 V gs w t K Im ic (some p) st){g:SH}(hm:kB gs g){i j:Nat}{gi:SH}{hh h':Ht}{Vi V₁:View}{sp:Spec}{S:List Spec}{v z:SO}{B:Nat->Bool}(hi:0<i)(aM:gs[i]?=some gi)
  (hK:K i=.work j hh Vi) (hg:ee Vi V₁) (hr:V₁.role=.work p.c p.Wg (sp::S)) (hd:V₁.deaf=0) (aT:stepG P false gi w=.comm gi #[scase p.c v z] true .send w #[])
  (xR:sp v V₁.ab (lY B V₁)) (hk:lG P h' (lU B V₁ (.work p.c p.Wg S)) (T1 gi undef)):gD P n0 W0 V gs w sl t K Im ic (some p) st i:=by
 have hlt:i<gs.size:=(SS.1 aM).1;have dn:=h.is i gi hi aM;simp only[hK,GS.is]at dn;obtain⟨bz,_,S',hS,ji⟩:=dn;have gR:(K i).cnt=1:=by rw[hK];rfl
 obtain⟨⟨n,gI⟩,lr⟩:=h.counted hi hlt gR;have eY:(i==0)=false:=by simp;omega
 have er:m_.work p.c p.Wg S'=.work p.c p.Wg (sp::S):=by rw[<- ji,<- hg.role,hr]
 cases er;let k':GS:=.nU j h' V₁ (lU B V₁ (.work p.c p.Wg S)) gi v z;have hw:=crowd_waits (P:=P) (sl:=sl) (i:=i) aM (by rw[eY];exact aT) (λcc jc=>by
  simp only[TJ,SL,S4,or_false]at jc;subst jc;refine ways_send_none gI (by simp) (partners_nil λm x hx=> ?_);rcases Ya gs i m x hx with⟨_,rfl⟩|⟨_,jF⟩
  ·exact Zl _ _
  ·rcases UZ m with rfl|iQ
   ·exact amJ hm jF _ _
   ·exact abd (h.is m x iQ jF) _)
 have mm:bD V Im K i=Vi:=by simp[bD,hK,GS.view];omega
 have bX:jr p Vi:=by have:=h.blind hi;rw[hK]at this;exact this
 have db:∀m,((upd K i k') m).idx=(K m).idx:=λm=>by
  by_cases hm:m=i
  ·subst hm;rw[bw,hK];rfl
  ·rw[a_ _ _ hm]
 have lP:∀m,((upd K i k') m).shape=(K m).shape:=λm=>by
  by_cases hm:m=i
  ·subst hm;rw[bw,hK];rfl
  ·rw[a_ _ _ hm]
 have oY:∀m,((upd K i k') m).cnt=(K m).cnt:=λm=>by rw[<- GS.nj,lP,GS.nj]
 have v8:∀m,((upd K i k') m).late=(K m).late:=λm=>by rw[<- GS.mu,lP,GS.mu]
 have e0:t++Te i gi.frame.fn gi.frame.place #[]=t:=by simp[Te]
 have aU:(gs.setIfInBounds i (parked gi #[scase p.c v z] .send)).size=gs.size:=by simp
 refine⟨_,w,_,upd K i k',st,hw,aU,?_,λg' c _=>⟨λ⟨g0,a,b⟩=>⟨g0,by rw[SR (by omega)];exact a,b⟩,λ⟨g0,z',a,b⟩ ho=> .inr ⟨⟨g0,z',by rw[SR (by omega)];exact a,b⟩,ho⟩⟩,λg' c ⟨g1,z',a,_⟩ _=>(by obtain⟨g0,h0,h1,_⟩:=hm;rw[a]at h0;cases h0;cases h1),
  .inl ⟨i,hlt,?_,λm hm=>by show (upd K i k' m).dc=(K m).dc;rw[a_ _ _ hm]⟩⟩
 ·rw[e0];refine Inv.mk' (by rw[aU];exact h.pos) (by rw[a_ _ _ (by omega)];exact h.k0) h.d0 (λm x hm hx=> ?_) ?_ ?_ ?_
  ·by_cases cY:m=i
   ·subst cY;rw[S9 hlt]at hx;cases hx;rw[bw];exact⟨by rw[bz,<- hg.deaf,hd],hd,rfl,hk,sp,S,B,hS,hr,xR,rfl⟩
   ·rw[SR (Ne.symm cY)]at hx;rw[a_ _ _ cY];exact h.is m x hm hx
  ·rw[aU,Nl V Im K hi];exact(Core.ghost (V':=V₁) h.core hlt (by rw[mm];exact hg)).A6 λm hm=>by simpa only[nd,iZ,db,oY,v8]using hm
  ·have hr:Rest (Av (some p)) t K ic st:=h.out.2.2.1;rw[lr]at hr⊢;have:=hr.app (u:=#[]) (K':=upd K i k') (s':=.early) (λidx a ha hx=> .inr (hx.app (by obtain⟨op,au,_⟩:=UU ha;exact TH au) λm _ _ hm=> .inl (by rw[db];exact hm))) (λidx a _ ⟨op,au,_⟩ _=>by simp at au);simpa using this
  ·refine h.Mn aU (SU _) (bX.ghost hg) (λx=>by cases x) (.inl (by rw[hK];rfl)) ?_;have hx:=h.phase.2.2.2.2.2.2.2.2.2;split
   ·rename_i aI;rw[if_pos aI]at hx;obtain⟨_,gw,_,s',mj,fX⟩:=hx;refine⟨s',mj,?_⟩;have:=fX.keep (w':=w) (gs':=gs.setIfInBounds i (parked gi #[scase p.c v z] .send)) (u:=#[]) lP rfl rfl λrH x hx=>by
     by_cases fV:ic=i
     ·subst fV;exfalso;unfold Mode at fX;have aC:∀s:GS,(K ic).shape=s->s=.work j .z noView:=λs e=>(by rw[<- e,hK];rfl);rcases fX with h|h|h|h|h|h|h
      ·rcases h.2.2.2.2.2 with⟨_,e,_⟩|⟨_,e,_⟩<;>cases aC _ e
      ·rcases h.2.2.2.2.2.2 with e|e<;>cases aC _ e
      ·rcases h.2.2.2.2.1 with e|e<;>cases aC _ e
      ·rcases h.2.2.2.2.2.2 with e|e<;>cases aC _ e
      ·rcases h.2.2.2.2.2 with e|e<;>cases aC _ e
      ·rcases h.2.2.2.2 with e|e<;>cases aC _ e
      ·cases aC _ h.2.2.2
     ·rw[SR (Ne.symm fV)]at hx;exact rH x hx
    simpa using this
   ·exact⟨lr,rfl,by rw[hK];rfl⟩
 ·show qP (upd K i k' i).dc (K i).dc;rw[hK];refine .inl ?_;simp only[bw,k',GS.dc,hr,ji];omega
theorem Mode.alI{c Wg N:Nat}{u:Ui}{K':Nat->GS}{s:eC}(h:Mode P c Wg N w gs t K ic s)(gR:1<=sumTo N λi=>(K i).cnt)(hs:∀j,(K' j).shape=(K j).shape)(ho:∃n,w'.heap[c]?=some (.chan 0 #[] false n n false)) (hW:w'.heap[Wg]?=w.heap[Wg]?):Mode P c Wg N w' gs' (t++u) K' ic s:=by
 have e1:sumTo N (λi=>(K' i).cnt)=sumTo N λi=>(K i).cnt:=Vl λi _=>by rw[<- GS.nj,hs i,GS.nj]
 have e2:sumTo N (λi=>(K' i).late)=sumTo N λi=>(K i).late:=Vl λi _=>by rw[<- GS.mu,hs i,GS.mu]
 have e3:∀st sm,WgAt P Wg w' st sm=WgAt P Wg w st sm:=λst sm=>by unfold WgAt;rw[hW]
 unfold Mode at h⊢;simp only[e1,e2,e3,hs];rcases h with h|h|h|h|h|h|h
 ·exact .inl ⟨ho,h.2⟩
 ·exact .inr (.inl ⟨ho,h.2⟩)
 ·have:=h.2.2.2.1;omega
 ·have:=h.2.2.2.1;omega
 ·have:=h.2.2.2.1;omega
 ·have:=h.2.2.2.1;omega
 ·have:=h.2.2.1;omega
theorem Inv.met(h:Inv P n0 W0 V gs w t K Im ic (some p) st)(aI:p.recv=true)(iL:V.deaf=0){i j:Nat}{h':Ht}{V₁:View}{gi:SH}{sp:Spec}{S:List Spec}{B:Nat->Bool}(hi:0<i)(hlt:i<gs.size)
  (xD:(K i).idx=some j) (hg:ee ((K i).view Im) V₁) (hr:V₁.role=.work p.c p.Wg (sp::S)) (hd:V₁.deaf=0) (ox:US t i=0) (hS:p.Ss[j]?=some (sp::S))
  (hk:lG P h' (lU B V₁ (.work p.c p.Wg S)) (T1 gi undef)) (aU:gs'.size=gs.size) (aM:gs'[i]?=some (T1 gi undef)) (hgo:∀m,m≠i->0<m->gs'[m]?=gs[m]?)
  {u:Ui} {x0 x1 x2 x3:Wd} (hu:u=#[x0,x1,x2,x3]) {s:Nat} (h0:x0.g=i/\x0.act=.send p.c s) (h1:x1.g=0/\x1.act=.recv p.c s 0) (h2:x2.g=i/\x2.act=.sendDone p.c s) (h3:x3.g=0/\x3.act=.recvDone p.c s)
  (bZ:w'.heap.size=w.heap.size) (gY:∀b,b≠p.c->w'.heap[b]?=w.heap[b]?) (wc:∃n,w'.heap[p.c]?=some (.chan 0 #[] false n n false)) (FT:w'.tape=w.tape) (hw5:w'.os=w.os) (hw6:w'.output=w.output):
  (∀b,V.own b≠none->lY B V₁ b=none)/\(∀b o,V.own b≠none->V₁.ab b o≠none->V.ab b o≠none)/\
  Inv P n0 W0 (nP V V₁.ab (lY B V₁) (.recv p.c p.Wg (p.Ss.set j S))) gs' w' (t++u) (upd K i (.work j h' (lU B V₁ (.work p.c p.Wg S)))) Im ic (some {p with Ss:=p.Ss.set j S}) st:=by
 obtain⟨dn,hc,kI,gJ⟩:=h.out;obtain⟨a1,a2,a3,a4,a5,a6,a7,a8,a9,bW⟩:=gJ;rw[if_pos aI]at bW;obtain⟨⟨c1,c2,c3,c4⟩,c5,c6,s',c7,c8⟩:=bW;have BO:jr p V:=⟨c1,c2,c3,c4⟩;have vQ:=(h.blind hi).ghost hg;have mm:bD V Im K i=(K i).view Im:=by simp[bD];omega
 have cZ:bD V Im K 0=V:=by simp[bD]
 have dt:Core (upd (bD V Im K) i V₁) gs.size w t (rX (some p)) (nd (some p) gs.size ic K) ic n0 W0:=hc.ghost hlt (by rw[mm];exact hg);have dD:Sat V₁ w:=by have:=dt.sat i hlt;rwa [bw]at this
 have dM:Sat V w:=by have:=dt.sat 0 h.pos;rwa [a_ _ _ (by omega),cZ]at this
 have Ef:jM V V₁:=by have:=dt.dx 0 i h.pos hlt (by omega);rwa [a_ _ _ (show 0≠i by omega),bw,cZ]at this
 have O9:jM V₁ V:=by have:=dt.dx i 0 hlt h.pos (by omega);rwa [bw,a_ _ _ (show 0≠i by omega),cZ]at this
 have ajR:∀b,V.own b≠none->lY B V₁ b=none:=λb hb=>by
  unfold lY;split
  ·exact(Ef b hb).1
  ·rfl
 refine⟨ajR,λb o hb=>(Ef b hb).2 o,?_⟩;have jD:∀op∈u,op.act.touch?=none/\still op.act/\(op.g=0\/op.g=i)/\op.act.low w.heap.size/\∀a,op.act≠ .mark (.release a):=by
  intro op au;rw[hu]at au;simp only[TJ,SL,S4,or_false]at au;rcases au with rfl|rfl|rfl|rfl
  ·rw[h0.2,h0.1];exact⟨rfl,⟨by simp,by simp⟩,.inr rfl,a4,by simp⟩
  ·rw[h1.2,h1.1];exact⟨rfl,⟨by simp,by simp⟩,.inl rfl,a4,by simp⟩
  ·rw[h2.2,h2.1];exact⟨rfl,⟨by simp,by simp⟩,.inr rfl,a4,by simp⟩
  ·rw[h3.2,h3.1];exact⟨rfl,⟨by simp,by simp⟩,.inl rfl,a4,by simp⟩
 have nM:∀op∈u,still op.act:=λop au=>(jD op au).2.1;have ur:∀m,US (t++u) m=US t m:=λm=>Deaf_still nM;have d00:US t 0=0:=by rw[h.d0,iL]
 have bS:∀idx,Wn t i idx->Wn (t++u) 0 idx:=λidx hx=>amQ hu h0 (jD x1 (by rw[hu];simp)).2.1 (jD x2 (by rw[hu];simp)).2.1 h3 ox d00 hx;let k':GS:=.work j h' (lU B V₁ (.work p.c p.Wg S));let V':View:=nP V V₁.ab (lY B V₁) (.recv p.c p.Wg (p.Ss.set j S));have db:∀m,((upd K i k') m).idx=(K m).idx:=λm=>by
  by_cases hm:m=i
  ·subst hm;rw[bw,xD];rfl
  ·rw[a_ _ _ hm]
 have dU:(K i).shape=.work j .z noView:=by
  cases lc:K i<;>rw[lc]at xD<;>simp[GS.idx]at xD
  ·subst xD;rfl
  ·subst xD;rfl
 have lP:∀m,((upd K i k') m).shape=(K m).shape:=λm=>by
  by_cases hm:m=i
  ·subst hm;rw[bw,dU];rfl
  ·rw[a_ _ _ hm]
 have oY:∀m,((upd K i k') m).cnt=(K m).cnt:=λm=>by rw[<- GS.nj,lP,GS.nj]
 have v8:∀m,((upd K i k') m).late=(K m).late:=λm=>by rw[<- GS.mu,lP,GS.mu]
 have gR:(K i).cnt=1:=by rw[<- GS.nj,dU];rfl
 have lr:=(h.counted hi hlt gR).2;have se:bD V' Im (upd K i k') 0=V':=by simp[bD]
 have wI:bD V' Im (upd K i k') i=lU B V₁ (.work p.c p.Wg S):=by simp[bD,bw,k',GS.view];omega
 have wJ:∀m,m≠0->m≠i->bD V' Im (upd K i k') m=upd (bD V Im K) i V₁ m:=λm h1 h2=>by simp[bD,a_ _ _ h2,h1]
 have CY:upd (bD V Im K) i V₁ 0=V:=by rw[a_ _ _ (by omega),cZ]
 have wu:upd (bD V Im K) i V₁ i=V₁:=bw _ _ _;have kE:∀{U:View},jr p U->Sat U w->Sat U w':=λ{U} hb hs=>⟨λb o v e=>by
   have aC:b≠p.c:=λx=>(by rw[x,hb.2.1 o]at e;cases e);have:=hs.ab b o v e;simp only[Uy,gY b aC]at this⊢;exact this,λb x e=>by
   have aC:b≠p.c:=λy=>(by rw[y,hb.1]at e;cases e);rw[gY b aC];exact hs.own b x e⟩
 have ak2:Sat V' w:=⟨λb o v e=>by
   simp only[V',nP]at e;split at e
   ·rename_i x hx;cases e;exact dM.ab b o _ hx
   ·exact dD.ab b o v e,λb x e=>by
   simp only[V',nP]at e;split at e
   ·rename_i y hy;cases e;exact dM.own b _ hy
   ·unfold lY at e;split at e
    ·exact dD.own b x e
    ·cases e⟩
 have BP:jr p V':=⟨by simp[V',nP,c1,lY,vQ.1],λo=>by simp[V',nP,c2,vQ.2.1],by simp[V',nP,c3,lY,vQ.2.2.1],λo=>by simp[V',nP,c4,vQ.2.2.2]⟩;have hsK:Sat (lU B V₁ (.work p.c p.Wg S)) w:=⟨dD.ab,λb x e=>by
   simp only[lU]at e;split at e
   ·cases e
   ·exact dD.own b x e⟩
 have BN:jr p (lU B V₁ (.work p.c p.Wg S)):=⟨by simp[lU,vQ.1],vQ.2.1,by simp[lU,vQ.2.2.1],vQ.2.2.2⟩;have z9:∀b,V'.own b≠none->V.own b≠none\/(B b=true/\V₁.own b≠none):=λb hb=>by
  simp only[V',nP]at hb;split at hb
  ·rename_i y hy;exact .inl (by rw[hy];simp)
  ·unfold lY at hb;split at hb
   ·rename_i hB;exact .inr ⟨hB,hb⟩
   ·exact absurd rfl hb
 have uJ:∀b o,V'.ab b o≠none<->(V.ab b o≠none\/V₁.ab b o≠none):=λb o=>by
  simp only[V',nP];cases e:V.ab b o with
  |some x=>simp
  |none=>simp
 have z_:∀b,(lU B V₁ (.work p.c p.Wg S)).own b≠none->B b=false/\V₁.own b≠none:=λb hb=>by
  simp only[lU]at hb;split at hb
  ·exact absurd rfl hb
  ·rename_i hB;exact⟨by simpa using hB,hb⟩
 have xz:Core (bD V' Im (upd K i k')) gs.size w' (t++u) (rX (some p)) (nd (some p) gs.size ic K) ic n0 W0:=by
  refine⟨λm hm=> ?_,λa b ha hb dl=> ?_,?_,FT.trans hc.tape,hw5.trans hc.os,hw6.trans hc.out,λb hb=>(gY b (by omega)).trans (hc.old b hb),λm hm b hb=> ?_,by rw[bZ];exact hc.n0⟩
  ·by_cases iQ:m=0
   ·subst iQ;rw[se];exact kE BP ak2
   ·by_cases cY:m=i
    ·subst cY;rw[wI];exact kE BN hsK
    ·rw[wJ m iQ cY,a_ _ _ cY];have:=hc.sat m hm;refine kE ?_ this;have e:bD V Im K m=(K m).view Im:=(by simp[bD,iQ]);rw[e];exact h.blind (by omega)
  ·
   have dm:∀m,m<gs.size->m≠0->m≠i->jM (upd (bD V Im K) i V₁ m) V/\jM V (upd (bD V Im K) i V₁ m)/\jM (upd (bD V Im K) i V₁ m) V₁/\jM V₁ (upd (bD V Im K) i V₁ m):=λm hm h1 h2=>
    ⟨by have:=dt.dx m 0 hm h.pos h1;rwa [CY]at this,by have:=dt.dx 0 m h.pos hm (Ne.symm h1);rwa [CY]at this,by have:=dt.dx m i hm hlt h2;rwa [wu]at this,by have:=dt.dx i m hlt hm (Ne.symm h2);rwa [wu]at this⟩
   by_cases zh:a=0
   ·subst zh;by_cases iM:b=i
    ·subst iM;rw[se,wI];intro q hq;rcases z9 q hq with x|⟨hB,x⟩
     ·refine⟨?_,λo ho=>(uJ q o).2 (.inl ((Ef q x).2 o ho))⟩;simp only[lU];split
      ·rfl
      ·exact(Ef q x).1
     ·refine⟨by simp only[lU,hB,if_true],λo ho=>(uJ q o).2 (.inr ho)⟩
    ·have sQ:b≠0:=Ne.symm dl;rw[se,wJ b sQ iM];obtain⟨_,e2,_,e4⟩:=dm b hb sQ iM;intro q hq;rcases z9 q hq with x|⟨_,x⟩
     ·exact⟨(e2 q x).1,λo ho=>(uJ q o).2 (.inl ((e2 q x).2 o ho))⟩
     ·exact⟨(e4 q x).1,λo ho=>(uJ q o).2 (.inr ((e4 q x).2 o ho))⟩
   ·by_cases nz:a=i
    ·subst nz;by_cases sQ:b=0
     ·subst sQ;rw[se,wI];intro q hq;obtain⟨hB,x⟩:=z_ q hq;refine⟨?_,λo ho=> ?_⟩
      ·simp only[V',nP,(O9 q x).1,lY,hB];rfl
      ·rcases(uJ q o).1 ho with y|y
       ·exact(O9 q x).2 o y
       ·exact y
     ·rw[wI,wJ b sQ (Ne.symm dl)];obtain⟨_,_,_,e4⟩:=dm b hb sQ (Ne.symm dl);intro q hq;exact e4 q (z_ q hq).2
    ·rw[wJ a zh nz];obtain⟨e1,e2,e3,e4⟩:=dm a ha zh nz;by_cases sQ:b=0
     ·subst sQ;rw[se];intro q hq;refine⟨?_,λo ho=>((uJ q o).1 ho).elim ((e1 q hq).2 o) ((e3 q hq).2 o)⟩;simp only[V',nP,(e1 q hq).1,lY,(e3 q hq).1,ite_self]
     ·by_cases iM:b=i
      ·subst iM;rw[wI];intro q hq;refine⟨?_,(e3 q hq).2⟩;simp only[lU,(e3 q hq).1,ite_self]
      ·rw[wJ b sQ iM];exact dt.dx a b ha hb dl
  ·rw[bZ];refine dt.ti.mute (λop au=>(jD op au).1) (λop au=>(jD op au).2.2.2.1) (λop au=>((jD op au).2.2.1).elim (λx=>by rw[x];exact h.pos) (λx=>by rw[x];exact hlt)) (SU _) (λop au=>(jD op au).2.2.2.2) (λm hm l hl idx a ha eP rN=> ?_) (λm hm l hl idx a ha eP=> ?_) (λidx a ha dU=>⟨λhp m hm=>((dt.ti.sp idx a ha dU).1 hp m hm).app u,λhp=>((dt.ti.sp idx a ha dU).2 hp).app u⟩)
   ·obtain⟨_,cX,nG⟩:=hl;by_cases iQ:m=0
    ·subst iQ;rw[se]at cX;have:gN V l\/gN V₁ l:=by
      cases l with
      |cell a'=>
       rcases cX with x|x
       ·exact(z9 _ x).imp .inl (λy=> .inl y.2)
       ·exact((uJ _ _).1 x).imp .inr .inr
      |obj r=>exact(z9 _ cX).imp id (λy=>y.2)
      |_=>exact cX.elim
     rcases this with x|x
     ·exact(dt.ti.kr 0 h.pos l ⟨h.pos,by rw[CY];exact x,nG⟩ idx a ha eP rN).app u
     ·exact bS idx (dt.ti.kr i hlt l ⟨hlt,by rw[wu];exact x,nG⟩ idx a ha eP rN)
    ·by_cases cY:m=i
     ·subst cY;rw[wI]at cX;have:gN V₁ l:=by
       cases l with
       |cell a'=>exact cX.imp (λx=>(z_ _ x).2) id
       |obj r=>exact(z_ _ cX).2
       |_=>exact cX.elim
      exact(dt.ti.kr m hm l ⟨hm,by rw[wu];exact this,nG⟩ idx a ha eP rN).app u
     ·rw[wJ m iQ cY]at cX;exact(dt.ti.kr m hm l ⟨hm,cX,nG⟩ idx a ha eP rN).app u
   ·obtain⟨_,cX,nG⟩:=hl;by_cases iQ:m=0
    ·subst iQ;rw[se]at cX;have:jN V l\/jN V₁ l:=by
      cases l with
      |cell a'=>
       have fU:V.ab a'.block a'.off=none:=by
        cases e:V.ab a'.block a'.off with
        |none=>rfl
        |some x=>exact absurd cX.2 ((uJ _ _).2 (.inl (by rw[e];simp)))
       have uu:V₁.ab a'.block a'.off=none:=by
        cases e:V₁.ab a'.block a'.off with
        |none=>rfl
        |some x=>exact absurd cX.2 ((uJ _ _).2 (.inr (by rw[e];simp)))
       exact(z9 _ cX.1).imp (λx=>⟨x,fU⟩) (λx=>⟨x.2,uu⟩)
      |obj r=>exact(z9 _ cX).imp id (λy=>y.2)
      |_=>exact cX.elim
     rcases this with x|x
     ·exact(dt.ti.kw 0 h.pos l ⟨h.pos,by rw[CY];exact x,nG⟩ idx a ha eP).app u
     ·exact bS idx (dt.ti.kw i hlt l ⟨hlt,by rw[wu];exact x,nG⟩ idx a ha eP)
    ·by_cases cY:m=i
     ·subst cY;rw[wI]at cX;have:jN V₁ l:=by
       cases l with
       |cell a'=>exact⟨(z_ _ cX.1).2,cX.2⟩
       |obj r=>exact(z_ _ cX).2
       |_=>exact cX.elim
      exact(dt.ti.kw m hm l ⟨hm,by rw[wu];exact this,nG⟩ idx a ha eP).app u
     ·rw[wJ m iQ cY]at cX;exact(dt.ti.kw m hm l ⟨hm,cX,nG⟩ idx a ha eP).app u
  ·by_cases iQ:m=0
   ·subst iQ;rw[se];have e1:=dt.jm 0 h.pos b hb;have e2:=dt.jm i hlt b hb;rw[CY]at e1;rw[wu]at e2;simp[V',nP,e1,lY,e2]
   ·by_cases cY:m=i
    ·subst cY;rw[wI];have e2:=dt.jm m hm b hb;rw[wu]at e2;simp[lU,e2]
    ·rw[wJ m iQ cY];exact dt.jm m hm b hb
 refine Inv.mk' (by rw[aU];exact h.pos) (by rw[a_ _ _ (by omega)];exact h.k0) (by rw[ur];exact h.d0) (λm x hm hx=> ?_) ?_ ?_ ?_
 ·show (upd K i k' m).is P p.c p.Wg Im (p.Ss.set j S) (US (t++u) m) x;rw[ur];by_cases cY:m=i
  ·subst cY;rw[aM]at hx;cases hx;rw[bw];have eR:j<p.Ss.length:=(SN.1 hS).1;exact⟨by rw[ox];exact hd.symm,hk,S,by simp[W_ eR],rfl⟩
  ·rw[hgo m cY hm]at hx;rw[a_ _ _ cY];have zP:=dn m x hm hx;have B_:m<gs.size:=(SS.1 hx).1;have aC:(K m).idx≠some j:=λe=>cY (a8 m i j hm B_ hi hlt e xD);cases Jx:K m with
   |work j2 h2 V2=>
    rw[Jx]at zP aC;obtain⟨b1,b2,S2,b3,b4⟩:=zP;exact⟨b1,b2,S2,by rw[T5 (λe=>aC (by rw[e];rfl))];exact b3,b4⟩
   |nU j2 h2 V2 V3 g2 v2 z2=>
    rw[Jx]at zP aC;obtain⟨b1,b2,b3,b4,sp2,S2,B2,b5,b6⟩:=zP;exact⟨b1,b2,b3,b4,sp2,S2,B2,by rw[T5 (λe=>aC (by rw[e];rfl))];exact b5,b6⟩
   |_=>rw[Jx]at zP;exact zP
 ·rw[aU];refine xz.A6 λm hm=> ?_;have fX:iZ p gs.size ic (upd K i k') m:=hm;show iZ p gs.size ic K m;unfold iZ at fX⊢;rw[db,oY,v8]at fX;exact fX
 ·show Rest p.Wg (t++u) (upd K i k') ic st;have xO:Rest p.Wg t K ic st:=kI;rw[lr]at xO⊢;exact xO.app (λidx a ha hx=> .inr (hx.app (by obtain⟨op,au,_⟩:=UU ha;exact TH au) λm _ _ hm=> .inl (by rw[db];exact hm))) (λidx a _ ⟨op,au,_,hx⟩ _=>by rw[(jD op au).1]at hx;cases hx)
 ·refine⟨a1,a2,a3,by rw[bZ];exact a4,by rw[bZ];exact a5,by simpa using a6,λm hm=> ?_,λm m' q b1 b2 b3 b4 b5 b6=>a8 m m' q b1 (aU▸b2) b3 (aU▸b4) (by rw[<- db];exact b5) (by rw[<- db];exact b6),λq S2 b1 b2=> ?_,?_⟩
  ·by_cases cY:m=i
   ·subst cY;rw[bw];exact⟨BN.1,BN.2.1,BN.2.2.1,BN.2.2.2,λx=>by cases x⟩
   ·rw[a_ _ _ cY];exact a7 m hm
  ·rw[aU];by_cases hq:q=j
   ·subst hq;exact⟨i,hi,hlt,by rw[db];exact xD⟩
   ·have Ie:p.Ss[q]?=some S2:=by
     have:=b1;rwa [show ({p with Ss:=p.Ss.set j S}:Phase).Ss=p.Ss.set j S from rfl,T5 (Ne.symm hq)]at this
    obtain⟨m,e1,e2,e3⟩:=a9 q S2 Ie b2;exact⟨m,e1,e2,by rw[db];exact e3⟩
  ·show if p.recv=true then _ else _;rw[if_pos aI];refine⟨⟨BP.1,BP.2.1,BP.2.2.1,BP.2.2.2⟩,c5,by rw[aU];exact c6,s',c7,?_⟩;have hle:(K i).cnt<=sumTo gs.size λi=>(K i).cnt:=WC (f:=λi=>(K i).cnt) hlt;rw[aU];exact c8.alI (by omega) lP wc (gY _ (Ne.symm a3))
end
section
variable {P:SK}{n0:Nat}{W0:Tq}{V:View}{gs gs':Array SH}{w w':Tq}{sl:Option (Nat×Nat)}{t:Ui}{K:Nat->GS}{Im:cC}{ic:Nat}{p:Phase}{st st':Option eC}
theorem Inv.tG(h:Inv P n0 W0 V gs w t K Im ic (some p) st)(aI:p.recv=true){i:Nat}{gi bB:SH}{es:Array Uq}{k':GS}{s':eC}(hi:0<i)(aM:gs[i]?=some gi)(aT:stepG P false gi w=.go bB w' es)
  (hk:k'.is P p.c p.Wg Im p.Ss (deafBehind (US t i) es) bB) (qg:mE (k'.view Im) ((K i).view Im))
  (xx:k'.ni=true->i=ic) (db:k'.idx=none) (xC:∀j,(K i).idx=some j->p.Ss[j]?=some []/\∃r,Rel p.Wg (t++Te i gi.frame.fn gi.frame.place es) i r/\t.size<=r)
  (j_:i=ic\/(K i).idx.isSome=true\/(K i).cnt=1\/(K i).late=1)
  (cr:∀e∈es,∀x,(Ts e).touch?=some x->(qQ p.c p.Wg x.loc/\x.kind=.atomic)\/(qQ p.c p.Wg x.loc/\x.kind=.said/\i=ic)\/(¬qQ p.c p.Wg x.loc/\gN ((K i).view Im) x.loc/\x.write=false))
  (iq:∀e∈es,(Ts e).low w.heap.size) (rC:∀e∈es,∀a,Ts e≠ .mark (.release a))
  (aU:w'.heap.size=w.heap.size) (jd:∀b,b≠p.c->b≠p.Wg->w'.heap[b]?=w.heap[b]?) (ht:w'.tape=w.tape) (ho:w'.os=w.os) (hu:w'.output=w.output)
  (xJ:Mode P p.c p.Wg gs.size w' ((gs.map (woken P gi bB w')).setIfInBounds i bB) (t++Te i gi.frame.fn gi.frame.place es) (upd K i k') ic s')
  (gI:(∃n,w'.heap[p.c]?=some (.chan 0 #[] false n n false))\/((∀j,0<j->j<gs.size->j≠i->(K j).idx=none)/\∀g,n5 gs g p.c->kB ((gs.map (woken P gi bB w')).setIfInBounds i bB) g))
  (kI:Rest p.Wg (t++Te i gi.frame.fn gi.frame.place es) (upd K i k') ic (some s'))
  (jD:AL gs.size ((λj=>(upd K i k' j).dc),flag ((gs.map (woken P gi bB w')).setIfInBounds i bB) ic) ((λj=>(K j).dc),flag gs ic)):gD P n0 W0 V gs w sl t K Im ic (some p) st i:=by
 have hlt:i<gs.size:=(SS.1 aM).1;obtain⟨_,hc,_,hp⟩:=h.out;obtain⟨a1,a2,a3,a4,a5,a6,a7,a8,a9,bW⟩:=hp;rw[if_pos aI]at bW;obtain⟨c1,c2,c3,_⟩:=bW;have qu:bD V Im K i=(K i).view Im:=by simp[bD];omega
 have BO:∀j,j<gs.size->jr p (bD V Im K j):=λj _=>by
  by_cases hj:j=0
  ·subst hj;rw[show bD V Im K 0=V by simp[bD]];exact⟨c1.1,c1.2.1,c1.2.2.1,c1.2.2.2⟩
  ·simp only[bD,hj,if_false];exact h.blind (by omega)
 have Qz:nd (some p) gs.size ic K i:=by
  show iZ p gs.size ic K i;unfold iZ;rw[if_pos aI];exact⟨hi,hlt,by rcases j_ with x|x|x|x;exact .inr (.inl x);exact .inl x;exact .inr (.inr (.inl x));exact .inr (.inr (.inr x))⟩
 refine h.aaR (st':=some s') hi aM aT hk (λhb=> ?_) (λq hq=>by cases hq;exact gI.imp id And.left) ?_ kI ?_ jD ?_
 ·rcases GS.runs hk with x|⟨x,_⟩|⟨_,_,_,_,_,_,_,e⟩|⟨_,_,x⟩
  ·rw[x]at hb;cases hb
  ·rw[x]at hb;cases hb
  ·rw[e]at db;cases db
  ·exact x
 ·rw[Nl V Im K hi];have dU:=hc.tG hlt (es:=es) (w':=w') (λe he x hx=>by
    rcases cr e he x hx with⟨x1,x2⟩|⟨x1,x2,x3⟩|⟨x1,x2,x3⟩
    ·exact .inl ⟨x1,x2,Qz⟩
    ·exact .inr (.inl ⟨x1,x2,x3,Qz⟩)
    ·exact .inr (.inr ⟨x1,.inr (.inl ⟨⟨hlt,by rw[qu];exact x2,x1⟩,x3⟩)⟩)) iq rC (λb=>b=p.c\/b=p.Wg)
   (λb hb=>by
    rcases hb with rfl|rfl
    ·exact⟨a1,λj hj=>⟨(BO j hj).1,(BO j hj).2.1⟩⟩
    ·exact⟨a2,λj hj=>⟨(BO j hj).2.2.1,(BO j hj).2.2.2⟩⟩) aU (λb hb=>jd b (λx=>hb (.inl x)) (λx=>hb (.inr x))) ht ho hu gi.frame.fn gi.frame.place
  refine(dU.less (V':=k'.view Im) hlt (by rw[qu];exact qg)).A6 λm hm=> ?_;have fX:iZ p gs.size ic (upd K i k') m:=hm;show iZ p gs.size ic K m;unfold iZ at fX⊢;rw[if_pos aI]at fX⊢;by_cases cY:m=i
  ·subst cY;exact⟨hi,hlt,by rcases j_ with x|x|x|x;exact .inr (.inl x);exact .inl x;exact .inr (.inr (.inl x));exact .inr (.inr (.inr x))⟩
  ·rw[a_ _ _ cY]at fX;exact fX
 ·refine h.Mn (by simp) (by omega) ?_ xx (.inr ⟨db,λj hj=>(xC j hj).1⟩) ?_
  ·have hb:=h.blind hi;exact⟨(qg.1 _).elim id (λx=>x.trans hb.1),λo=>(qg.2.1 _ o).elim id (λx=>x.trans (hb.2.1 o)),(qg.1 _).elim id (λx=>x.trans hb.2.2.1),λo=>(qg.2.1 _ o).elim id (λx=>x.trans (hb.2.2.2 o))⟩
  ·rw[if_pos aI];exact⟨s',rfl,xJ⟩
 ·intro g c JR;refine⟨L4 hi,λjh _=> ?_⟩;rw[<- JR p rfl]at jh⊢;rcases gI with x|⟨_,x⟩
  ·exact .inr ⟨Ml hi jh x,x⟩
  ·exact .inl (x g jh)
theorem Mode.alH{c Wg N:Nat}{u:Ui}{K':Nat->GS}{s:eC}(h:Mode P c Wg N w gs t K ic s)(e1:sumTo N (λi=>(K' i).cnt)=sumTo N λi=>(K i).cnt)(e2:sumTo N (λi=>(K' i).late)=sumTo N λi=>(K i).late)
  (e4:(K' ic).shape=(K ic).shape) (e5:∀i,i<N->((K' i).shape=.load 0\/(K' i).shape=.store 0)->((K i).shape=.load 0\/(K i).shape=.store 0)) (e6:∀i,i<N->(K' i).shape=.my 0->(K i).shape=.my 0) (hc:w'.heap[c]?=w.heap[c]?) (hW:w'.heap[Wg]?=w.heap[Wg]?)
  (hr:(∀g,gs[ic]?=some g->g.status=.running)->∀g,gs'[ic]?=some g->g.status=.running):Mode P c Wg N w' gs' (t++u) K' ic s:=by
 have e3:∀st sm,WgAt P Wg w' st sm=WgAt P Wg w st sm:=λst sm=>by unfold WgAt;rw[hW]
 unfold Mode at h⊢;simp only[e1,e2,e3,e4,hc];rcases h with h|h|h|h|h|h|h
 ·exact .inl h
 ·exact .inr (.inl h)
 ·exact .inr (.inr (.inl ⟨h.1,h.2.1,h.2.2.1,h.2.2.2.1,h.2.2.2.2.1,λi hi x=>h.2.2.2.2.2.1 i hi (e5 i hi x),λi hi x=>h.2.2.2.2.2.2 i hi (e6 i hi x)⟩))
 ·exact .inr (.inr (.inr (.inl ⟨h.1,h.2.1,h.2.2.1,h.2.2.2.1,h.2.2.2.2.1,hr h.2.2.2.2.2.1,h.2.2.2.2.2.2⟩)))
 ·exact .inr (.inr (.inr (.inr (.inl h))))
 ·exact .inr (.inr (.inr (.inr (.inr (.inl h)))))
 ·obtain⟨⟨p,n,a,b,c',d⟩,e⟩:=h;exact .inr (.inr (.inr (.inr (.inr (.inr ⟨⟨p,n,a,by rw[X7 (Wc b)];exact b,(Wr (Wc b)).2 c',d⟩,e⟩)))))
theorem Mode.waits{c Wg N:Nat}{s:eC}(h:Mode P c Wg N w gs t K ic s):(K ic).cnt=0/\(K ic).late=0:=by
 rw[<- GS.nj,<- GS.mu];rcases h with h|h|h|h|h|h|h
 ·rcases h.2.2.2.2.2 with⟨_,e,_⟩|⟨_,e,_⟩<;>rw[e]<;>exact⟨rfl,rfl⟩
 ·rcases h.2.2.2.2.2.2 with e|e<;>rw[e]<;>exact⟨rfl,rfl⟩
 ·rcases h.2.2.2.2.1 with e|e<;>rw[e]<;>exact⟨rfl,rfl⟩
 ·rcases h.2.2.2.2.2.2 with e|e<;>rw[e]<;>exact⟨rfl,rfl⟩
 ·rcases h.2.2.2.2.2 with e|e<;>rw[e]<;>exact⟨rfl,rfl⟩
 ·rcases h.2.2.2.2 with e|e<;>rw[e]<;>exact⟨rfl,rfl⟩
 ·rw[h.2.2.2];exact⟨rfl,rfl⟩
theorem yb{i:Nat}{k':GS}{a b:Nat}(hlt:i<gs.size)(hr:qP k'.dc (K i).dc):AL gs.size ((λj=>(upd K i k' j).dc),a) ((λj=>(K j).dc),b):=
 .inl ⟨i,hlt,by simpa only[bw]using hr,λj hj=>by show (upd K i k' j).dc=(K j).dc;rw[a_ _ _ hj]⟩
theorem Inv.mode(h:Inv P n0 W0 V gs w t K Im ic (some p) st)(aI:p.recv=true):∃s,st=some s/\0<ic/\ic<gs.size/\Mode P p.c p.Wg gs.size w gs t K ic s:=by
 have hx:=h.phase.2.2.2.2.2.2.2.2.2;rw[if_pos aI]at hx;obtain⟨_,h1,h2,s,h3,h4⟩:=hx;exact⟨s,h3,h1,h2,h4⟩
theorem ofEvents_one{i:Nat}{fn:TN}{pos:String}{e:Uq}:Te i fn pos #[e]=#[{g:=i,fn,pos,act:=.ofEvent e}]:=by simp[Te]
theorem OU{t u:Ui}{g:Nat}:(t++u).deaf g t.size=US t g:=deaf_old (SU _)
theorem Gc(U:View):mE noView U:=⟨λ_=> .inl rfl,λ_ _=> .inl rfl,λb hb=>absurd rfl hb⟩
theorem Inv.release(h:Inv P n0 W0 V gs w t K Im ic (some p) st)(aI:p.recv=true){i j:Nat}{gi:SH}{hh:Ht}{Vi V₁:View}{c Wg:Nat}(hi:0<i)(aM:gs[i]?=some gi)(hK:K i=.work j hh Vi)(hg:ee Vi V₁)
  (hr:V₁.role=.work c Wg []) (hd:V₁.deaf=0) (hf:DI P Wg gi):gD P n0 W0 V gs w sl t K Im ic (some p) st i:=by
 have hlt:i<gs.size:=(SS.1 aM).1;have dn:=h.is i gi hi aM;simp only[hK,GS.is]at dn;obtain⟨bz,_,S,hS,ji⟩:=dn;rw[hg.role,ji]at hr;cases hr;have gR:(K i).cnt=1:=by rw[hK];rfl
 obtain⟨⟨n,gI⟩,lr⟩:=h.counted hi hlt gR;obtain⟨s,hs,gw,iP,hm⟩:=h.mode aI;rw[lr]at hs;cases hs;obtain⟨bL,g',lw,m,dN⟩:=hf;have aC:i≠ic:=λe=>by have:=(Mode.waits hm).1;rw[<- e,gR]at this;cases this
 have aS:US t i=0:=by rw[bz,<- hg.deaf,hd]
 have rG:Rel p.Wg (t++Te i gi.frame.fn gi.frame.place #[j7 (.releaseMerge (ec p.Wg))]) i t.size:=by
  rw[ofEvents_one];have e:(#[({g:=i,fn:=gi.frame.fn,pos:=gi.frame.place,act:=.ofEvent (j7 (.releaseMerge (ec p.Wg)))}:Wd)]:Ui)[0]?=some _:=rfl;have g0:=q_ (t:=t) e;exact⟨ah_ g0,by simp[WA,g0],heard_new e rfl (by rw[show t.size+0=t.size from rfl,OU];exact aS)⟩
 have nJ:∀e∈#[j7 (.releaseMerge (ec p.Wg))],e=j7 (.releaseMerge (ec p.Wg)):=λe he=>by simpa using he
 refine h.tG aI (k':=.add m) (s':=.early) hi aM (lw w) ?_ (by rw[hK];exact Gc _) (λx=>by cases x) rfl (λj' gH=> ?_) (.inr (.inr (.inl gR))) (λe he x hx=> ?_) (λe he=> ?_) (λe he a=> ?_) rfl (λ_ _ _=>rfl) rfl rfl rfl ?_ (.inl ⟨n,gI⟩) ?_ (yb hlt ?_)
 ·show cU P (AC P p.Wg) m _ g';rw[aS];exact dN
 ·rw[hK]at gH;cases gH;exact⟨hS,t.size,rG,SU _⟩
 ·rw[nJ e he]at hx;cases hx
 ·rw[nJ e he];exact h.low.2
 ·rw[nJ e he];simp[j7,Ts]
 ·refine hm.alH (lA K _ GS.cnt (by rw[gR];rfl)) (lA K _ GS.late (by rw[hK];rfl)) (by rw[a_ _ _ (Ne.symm aC)]) (λm hm=> ?_) (λm hm=> ?_) rfl rfl (abN hlt ?_)
  ·by_cases cY:m=i
   ·subst cY;rw[bw];intro x;rcases x with x|x<;>cases x
   ·rw[a_ _ _ cY];exact id
  ·by_cases cY:m=i
   ·subst cY;rw[bw];intro x;cases x
   ·rw[a_ _ _ cY];exact id
  ·exact cU.running (λd g x=>x.2.1) dN
 ·have hr:Rest p.Wg t K ic st:=h.out.2.2.1;rw[lr]at hr;refine hr.app (λidx a ha hx=> .inr (hx.app (by obtain⟨op,au,_⟩:=UU ha;exact TH au) λm v5 _ hm=> ?_)) (λidx a _ ⟨op,au,_,hx⟩ _=> ?_)
  ·by_cases cY:m=i
   ·subst cY;exact .inr ⟨t.size,rG,by obtain⟨op,au,_⟩:=UU ha;exact Nat.le_of_lt (TH au)⟩
   ·rw[a_ _ _ cY];exact .inl hm
  ·rw[ofEvents_one]at au;simp only[TJ,SL,S4,or_false]at au;subst au;cases hx
 ·rw[hK];refine .inl ?_;simp only[GS.dc,ji];omega
def Atom (a:U4)(es:Array Uq):Prop:=es=#[ja a]\/es=#[kZ a]\/es=#[ja a,kZ a]\/es=Aj a
theorem Atom.mem{a:U4}{es:Array Uq}(h:Atom a es){e:Uq}(he:e∈es):e=ja a\/e=kZ a\/e=j7 .disable\/e=j7 .enable:=by
 rcases h with rfl|rfl|rfl|rfl<;>simp only[Aj,TJ,SL,S4,or_false]at he
 ·exact .inl he
 ·exact .inr (.inl he)
 ·exact he.imp id .inl
 ·rcases he with x|x|x|x
  ·exact .inr (.inr (.inl x))
  ·exact .inl x
  ·exact .inr (.inl x)
  ·exact .inr (.inr (.inr x))
theorem Atom.behind{a:U4}{es:Array Uq}(h:Atom a es):deafBehind 1 es=1:=by
 rcases h with rfl|rfl|rfl|rfl<;>rfl
theorem Atom.touch{a:U4}{es:Array Uq}(h:Atom a es){e:Uq}(he:e∈es){x:YK}(hx:(Ts e).touch?=some x):x.loc=.cell a/\x.kind=.atomic:=by
 rcases h.mem he with rfl|rfl|rfl|rfl
 ·cases hx;exact⟨rfl,rfl⟩
 ·cases hx;exact⟨rfl,rfl⟩
 ·cases hx
 ·cases hx
theorem Atom.low{a:U4}{es:Array Uq}(h:Atom a es){n:Nat}(ha:a.block<n){e:Uq}(he:e∈es):(Ts e).low n:=by
 rcases h.mem he with rfl|rfl|rfl|rfl
 ·exact ha
 ·exact ha
 ·trivial
 ·trivial
theorem Atom.norel{a:U4}{es:Array Uq}(h:Atom a es){e:Uq}(he:e∈es)(b:U4):Ts e≠ .mark (.release b):=by
 rcases h.mem he with rfl|rfl|rfl|rfl<;>simp[ja,kZ,j7,Ts]
theorem Atom.arz{a:U4}{es:Array Uq}(h:Atom a es){i:Nat}{fn:TN}{pos:String}(hd:US t i=1){idx:Nat}{op:Wd}{x:YK}(db:t.size<=idx)(au:(t++Te i fn pos es)[idx]?=some op)(hx:op.act.touch?=some x):
  ¬(t++Te i fn pos es).heard idx:=by
 obtain⟨k,rfl⟩:∃k,idx=t.size+k:=⟨idx-t.size,by omega⟩;have s7:(Te i fn pos es)[k]?=some op:=by rw[X8 (by omega)]at au;simpa using au
 have aM:op.g=i:=by obtain⟨e,_,rfl⟩:=TK (XW s7);rfl
 rintro⟨g,hg,hz⟩
 have:g=i:=by simp[WA,au,aM]at hg;exact hg.symm
 subst this;have Ao:∀y:Wd,y.act=Ts (ja a)\/y.act=Ts (kZ a)->still y.act:=λy hy=>by rcases hy with e|e<;>rw[e]<;>exact⟨by simp[ja,kZ,Ts],by simp[ja,kZ,Ts]⟩
 rcases h with rfl|rfl|rfl|rfl
 ·have:=uc (t:=t) (u:=Te g fn pos #[ja a]) (g:=g) (λop au=>by obtain⟨e,he,rfl⟩:=TK au;simp only[TJ,SL,S4,or_false]at he;subst he;exact Ao _ (.inl rfl)) (k:=k) (by have:=TH s7;omega);omega
 ·have:=uc (t:=t) (u:=Te g fn pos #[kZ a]) (g:=g) (λop au=>by obtain⟨e,he,rfl⟩:=TK au;simp only[TJ,SL,S4,or_false]at he;subst he;exact Ao _ (.inr rfl)) (k:=k) (by have:=TH s7;omega);omega
 ·have:=uc (t:=t) (u:=Te g fn pos #[ja a,kZ a]) (g:=g) (λop au=>by obtain⟨e,he,rfl⟩:=TK au;simp only[TJ,SL,S4,or_false]at he;rcases he with rfl|rfl;exact Ao _ (.inl rfl);exact Ao _ (.inr rfl)) (k:=k) (by have:=TH s7;omega);omega
 ·
  have eu:Te g fn pos (Aj a)=#[{g,fn,pos,act:=.mark .disable},{g,fn,pos,act:=.ofEvent (ja a)},{g,fn,pos,act:=.ofEvent (kZ a)},{g,fn,pos,act:=.mark .enable}]:=by simp[Te,Aj,j7,Ts]
  rw[eu]at s7 hz;have d0:(t++#[({g,fn,pos,act:=.mark .disable}:Wd),{g,fn,pos,act:=.ofEvent (ja a)},{g,fn,pos,act:=.ofEvent (kZ a)},{g,fn,pos,act:=.mark .enable}]).deaf g t.size=1:=by rw[OU];exact hd
  have d1:=ac_ (g:=g) (q_ (t:=t) (show (#[({g,fn,pos,act:=.mark .disable}:Wd),{g,fn,pos,act:=.ofEvent (ja a)},{g,fn,pos,act:=.ofEvent (kZ a)},{g,fn,pos,act:=.mark .enable}]:Ui)[0]?=some _ from rfl));have d2:=ac_ (g:=g) (q_ (t:=t) (show (#[({g,fn,pos,act:=.mark .disable}:Wd),{g,fn,pos,act:=.ofEvent (ja a)},{g,fn,pos,act:=.ofEvent (kZ a)},{g,fn,pos,act:=.mark .enable}]:Ui)[1]?=some _ from rfl));have d3:=ac_ (g:=g) (q_ (t:=t) (show (#[({g,fn,pos,act:=.mark .disable}:Wd),{g,fn,pos,act:=.ofEvent (ja a)},{g,fn,pos,act:=.ofEvent (kZ a)},{g,fn,pos,act:=.mark .enable}]:Ui)[2]?=some _ from rfl));rw[Iv (Ao _ (.inl rfl))]at d2;rw[Iv (Ao _ (.inr rfl))]at d3;simp only[UK]at d1;rw[d0]at d1;have d1:=d1.trans (show deafStep g 1 {g,fn,pos,act:=.mark .disable}=2 by simp[deafStep]);have hk:k<4:=by have:=TH s7;simpa using this
  match k,hk with
  |0,_=>simp at s7;subst s7;cases hx
  |1,_=>rw[d1]at hz;omega
  |2,_=>rw[show t.size+2=t.size+1+1 from rfl,d2,d1]at hz;omega
  |3,_=>simp at s7;subst s7;cases hx
theorem Rest.atom{Wg:Nat}{s:eC}(hr:Rest Wg t K ic (some s)){a:U4}{es:Array Uq}(h:Atom a es){i:Nat}{fn:TN}{pos:String}(hd:US t i=1){K':Nat->GS}(db:∀m,(K' m).idx=(K m).idx):Rest Wg (t++Te i fn pos es) K' ic (some s):=by
 refine hr.app (λidx a ha hx=> .inr (hx.app (by obtain⟨op,au,_⟩:=UU ha;exact TH au) λm _ _ hm=> .inl (by rw[db];exact hm))) (λidx x hi ⟨op,au,xC,hx⟩ _=> .inr (.inl ⟨?_,h.arz hd hi xC hx⟩));obtain⟨e,he,rfl⟩:=TK au;exact(h.touch he hx).2
theorem WgAt.G4{Wg:Nat}{a b:Int}(h:WgAt P Wg w a b)(v:Int):WgAt P Wg (w.setCell (ec Wg) (.int .u64 v)) v b:=by
 unfold WgAt at h⊢;unfold Xl;rw[Wj];simp[ec,h,wgBlock]
theorem WgAt.acd{Wg:Nat}{a b:Int}(h:WgAt P Wg w a b)(v:Int):WgAt P Wg (w.setCell (oJ Wg) (.int .u32 v)) a v:=by
 unfold WgAt at h⊢;unfold Xl;rw[Wj];simp[oJ,h,wgBlock]
theorem WgAt.inj{Wg:Nat}{a b a' b':Int}(h:WgAt P Wg w a b)(k:WgAt P Wg w a' b'):a=a'/\b=b':=by
 unfold WgAt at h k;rw[h]at k;simp[wgBlock]at k;exact k
theorem Inv.D5(h:Inv P n0 W0 V gs w t K Im ic (some p) st)(aI:p.recv=true){i:Nat}{gi bB:SH}{es:Array Uq}{k':GS}{s:eC}{a:U4}(hs:st=some s)(hi:0<i)(aM:gs[i]?=some gi)(aT:stepG P false gi w=.go bB w' es)(hd:US t i=1)
  (ha:Atom a es) (zi:a=ec p.Wg\/a=oJ p.Wg) (nO:w'=w\/∃x,w'=w.setCell a x) (hk:k'.is P p.c p.Wg Im p.Ss 1 bB) (qg:mE (k'.view Im) ((K i).view Im)) (xx:k'.ni=true->i=ic) (db:k'.idx=none) (uv:(K i).idx=none)
  (j_:i=ic\/(K i).cnt=1\/(K i).late=1) (gI:∃n,w.heap[p.c]?=some (.chan 0 #[] false n n false))
  (xJ:Mode P p.c p.Wg gs.size w' ((gs.map (woken P gi bB w')).setIfInBounds i bB) (t++Te i gi.frame.fn gi.frame.place es) (upd K i k') ic s) (uB:qP k'.dc (K i).dc):gD P n0 W0 V gs w sl t K Im ic (some p) st i:=by
 have hlt:i<gs.size:=(SS.1 aM).1;have vT:a.block=p.Wg:=by rcases zi with rfl|rfl<;>rfl
 have rk:p.c≠p.Wg:=h.phase.2.2.1;have jd:∀b,b≠p.Wg->w'.heap[b]?=w.heap[b]?:=λb hb=>by
  rcases nO with rfl|⟨x,rfl⟩
  ·rfl
  ·exact vY _ _ _ (by rw[vT];exact Ne.symm hb)
 have aU:w'.heap.size=w.heap.size:=by rcases nO with rfl|⟨x,rfl⟩;rfl;exact C9 _ _ _
 refine h.tG aI hi aM aT (by rw[hd,ha.behind];exact hk) qg xx db (λj hj=>by rw[uv]at hj;cases hj) (j_.imp id .inr) (λe he x hx=> .inl ?_) (λe he=>ha.low (by rw[vT];exact h.low.2) he) (λe he b=>ha.norel he b) aU (λb _ hb=>jd b hb)
  (by rcases nO with rfl|⟨x,rfl⟩<;>rfl) (by rcases nO with rfl|⟨x,rfl⟩<;>rfl) (by rcases nO with rfl|⟨x,rfl⟩<;>rfl) xJ (.inl (by rw[jd _ rk];exact gI)) ?_ (yb hlt uB)
 ·have:=ha.touch he hx;exact⟨by rw[this.1];exact vT,this.2⟩
 ·have hr:Rest p.Wg t K ic st:=h.out.2.2.1;rw[hs]at hr;exact hr.atom ha hd λm=>by
   by_cases hm:m=i
   ·subst hm;rw[bw,db,uv]
   ·rw[a_ _ _ hm]
theorem Inv.aeq(h:Inv P n0 W0 V gs w t K Im ic (some p) st)(aI:p.recv=true){i n:Nat}{gi:SH}(hi:0<i)(aM:gs[i]?=some gi)(hK:K i=.add n)(jE:AC P p.Wg (US t i) gi):gD P n0 W0 V gs w sl t K Im ic (some p) st i:=by
 have hlt:i<gs.size:=(SS.1 aM).1;obtain⟨s,hs,gw,iP,hm⟩:=h.mode aI;have gR:(K i).cnt=1:=by rw[hK];rfl
 have eM:(K i).late=0:=by rw[hK];rfl
 have uv:(K i).idx=none:=by rw[hK];rfl
 have gI:=(h.counted hi hlt gR).1;have aC:ic≠i:=λe=>by have:=(Mode.waits hm).1;rw[e,gR]at this;cases this
 obtain⟨hd,bL,FK⟩:=jE;have hle:(K i).cnt<=sumTo gs.size λi=>(K i).cnt:=WC (f:=λi=>(K i).cnt) hlt;have rk:p.c≠p.Wg:=h.phase.2.2.1;have hq:∀(k':GS),sumTo gs.size (λa=>(upd K i k' a).cnt)+(K i).cnt=sumTo gs.size (λa=>(K a).cnt)+k'.cnt:=λk'=>Ap K k' GS.cnt hlt;have s_:∀(k':GS),sumTo gs.size (λa=>(upd K i k' a).late)+(K i).late=sumTo gs.size (λa=>(K a).late)+k'.late:=λk'=>Ap K k' GS.late hlt;have qg:∀k':GS,k'.view Im=noView->mE (k'.view Im) ((K i).view Im):=λk' e=>by rw[e];exact Gc _
 have leave:∀(wt v:Nat),wt<=1->v+1=(sumTo gs.size λi=>(K i).cnt)->v<4->¬(v=0/\wt=1)->s=.early->(sumTo gs.size λi=>(K i).late)=0->WgAt P p.Wg w (((v+1:Nat):Int)* KK+wt) 0->
   ((wt=0/\((∃k,(K ic).shape=.head k 0/\v<k)\/(∃u,(K ic).shape=.ma u 0/\v<=u/\0<u)))\/(wt=1/\((K ic).shape=.said 0\/(K ic).shape=.ik 0)))->gD P n0 W0 V gs w sl t K Im ic (some p) st i:=by
  intro wt v uG hv FR fq R5 asY hW aY;obtain⟨g',aT,_,mi⟩:=FK v wt uG FR;obtain⟨q,mi⟩:=mi fq;have Ck:=hq (.gone q);have Cj:=s_ (.gone q);simp only[gR,eM]at Ck Cj;rw[show (GS.gone q).cnt=0 from rfl]at Ck;rw[show (GS.gone q).late=0 from rfl]at Cj;refine h.D5 aI (k':=.gone q) (a:=ec p.Wg) hs hi aM (aT w hW) hd (.inr (.inr (.inl rfl))) (.inl rfl) (.inr ⟨_,rfl⟩) mi (qg _ rfl) (λx=>by cases x) rfl uv (.inr (.inl gR)) gI ?_ (by rw[hK];exact .inl (by simp[GS.dc]));have vL:=hW.G4 ((v:Int)* KK+wt);unfold Mode;simp only[a_ _ _ aC];have IL:sumTo gs.size (λa=>(upd K i (.gone q) a).cnt)=v:=by omega
  have IP:sumTo gs.size (λa=>(upd K i (.gone q) a).late)=0:=by omega
  simp only[IL,IP];have ho:∃n,(w.setCell (ec p.Wg) (.int .u64 ((v:Int)* KK+wt))).heap[p.c]?=some (.chan 0 #[] false n n false):=by
   obtain⟨n,hn⟩:=gI;exact⟨n,by rw[vY _ _ _ (Ne.symm rk)];exact hn⟩
  rcases aY with⟨rfl,aY⟩|⟨rfl,aY⟩
  ·exact .inl ⟨ho,R5,trivial,by omega,by simpa using vL,aY⟩
  ·exact .inr (.inl ⟨ho,R5,trivial,by omega,by omega,by simpa using vL,aY⟩)
 unfold Mode at hm;rcases hm with m|m|m|m|m|m|m
 ·obtain⟨m1,m2,m3,m4,m5,m6⟩:=m;refine leave 0 ((sumTo gs.size λi=>(K i).cnt)-1) (by omega) (by omega) (by omega) (by omega) m2 m3 ?_ (.inl ⟨rfl,?_⟩)
  ·rw[show (sumTo gs.size λi=>(K i).cnt)-1+1=(sumTo gs.size λi=>(K i).cnt) by omega];simpa using m5
  ·rcases m6 with⟨k,e1,e2⟩|⟨u,e1,e2,e3⟩
   ·exact .inl ⟨k,e1,by omega⟩
   ·exact .inr ⟨u,e1,by omega,e3⟩
 ·obtain⟨m1,m2,m3,m4,m5,m6,m7⟩:=m;by_cases hv:(sumTo gs.size λi=>(K i).cnt)=1
  ·
   obtain⟨g',aT,je,_⟩:=FK 0 1 (by omega) (by omega);obtain⟨n',je⟩:=je ⟨rfl,rfl⟩;have Ck:=hq (.load n');have Cj:=s_ (.load n');simp only[gR,eM]at Ck Cj;rw[show (GS.load n').cnt=0 from rfl]at Ck;rw[show (GS.load n').late=1 from rfl]at Cj;rw[hv]at m6;have hW:WgAt P p.Wg w (((0+1:Nat):Int)* KK+(1:Nat)) 0:=(by simpa using m6);refine h.D5 aI (k':=.load n') (a:=ec p.Wg) hs hi aM (aT w hW) hd (.inr (.inr (.inl rfl))) (.inl rfl) (.inr ⟨_,rfl⟩) je (qg _ rfl) (λx=>by cases x) rfl uv (.inr (.inl gR)) gI ?_ (by rw[hK];exact .inl (by simp[GS.dc]));have vL:=hW.G4 (((0:Nat):Int)* KK+(1:Nat));unfold Mode;simp only[a_ _ _ aC];have IL:sumTo gs.size (λa=>(upd K i (.load n') a).cnt)=0:=(by omega);have IP:sumTo gs.size (λa=>(upd K i (.load n') a).late)=1:=(by omega);simp only[IL,IP];have ho:∃n,(w.setCell (ec p.Wg) (.int .u64 (((0:Nat):Int)* KK+(1:Nat)))).heap[p.c]?=some (.chan 0 #[] false n n false):=by
    obtain⟨n,hn⟩:=gI;exact⟨n,by rw[vY _ _ _ (Ne.symm rk)];exact hn⟩
   refine .inr (.inr (.inl ⟨ho,m2,trivial,trivial,m7,λ_ _ _=>by simpa using vL,λm hm qn=> ?_⟩));exfalso;have cY:m≠i:=λe=>(by subst e;rw[bw]at qn;cases qn);rw[a_ _ _ cY]at qn;have Ri:(K m).late<=sumTo gs.size λi=>(K i).late:=WC (f:=λi=>(K i).late) hm;rw[m3,<- GS.mu,qn]at Ri;simp[GS.late]at Ri
  ·refine leave 1 ((sumTo gs.size λi=>(K i).cnt)-1) (by omega) (by omega) (by omega) (by omega) m2 m3 ?_ (.inr ⟨rfl,m7⟩);rw[show (sumTo gs.size λi=>(K i).cnt)-1+1=(sumTo gs.size λi=>(K i).cnt) by omega];simpa using m6
 ·have:=m.2.2.2.1;omega
 ·have:=m.2.2.2.1;omega
 ·have:=m.2.2.2.1;omega
 ·have:=m.2.2.2.1;omega
 ·have:=m.2.2.1;omega
theorem Mode.CH{c Wg N:Nat}{s:eC}(hm:Mode P c Wg N w gs t K ic s){i:Nat}(hlt:i<N)(eM:(K i).late=1):
  (∃n,w.heap[c]?=some (.chan 0 #[] false n n false))/\s=.early/\(sumTo N λi=>(K i).late)=1/\(sumTo N λi=>(K i).cnt)=0/\((K ic).shape=.said 0\/(K ic).shape=.ik 0)/\
  (((K i).shape=.load 0\/(K i).shape=.store 0)->WgAt P Wg w 1 0)/\((K i).shape=.my 0->WgAt P Wg w 0 0):=by
 have hle:(K i).late<=sumTo N λi=>(K i).late:=WC (f:=λi=>(K i).late) hlt;unfold Mode at hm;rcases hm with m|m|m|m|m|m|m
 ·have:=m.2.2.1;omega
 ·have:=m.2.2.1;omega
 ·exact⟨m.1,m.2.1,m.2.2.1,m.2.2.2.1,m.2.2.2.2.1,m.2.2.2.2.2.1 i hlt,m.2.2.2.2.2.2 i hlt⟩
 ·have:=m.2.2.1;omega
 ·have:=m.2.2.1;omega
 ·have:=m.2.2.1;omega
 ·have:=m.2.1;omega
theorem abf{N:Nat}(h:(sumTo N λi=>(K i).late)=1){i m:Nat}(hi:i<N)(hm:m<N)(aC:m≠i)(eM:(K i).late=1):(K m).late=0:=by
 have:=Ap K (.gone 0) GS.late hi;have h2:((upd K i (.gone 0)) m).late<=sumTo N λa=>(upd K i (.gone 0) a).late:=WC (f:=λa=>(upd K i (.gone 0) a).late) hm;rw[a_ _ _ aC]at h2;simp only[eM,h,show (GS.gone 0).late=0 from rfl]at this;omega
theorem Inv.LO(h:Inv P n0 W0 V gs w t K Im ic (some p) st)(aI:p.recv=true){i:Nat}{gi bB:SH}{es:Array Uq}{k':GS}{a:U4}(hi:0<i)(aM:gs[i]?=some gi)(aT:stepG P false gi w=.go bB w' es)(hd:US t i=1)
  (ha:Atom a es) (zi:a=ec p.Wg\/a=oJ p.Wg) (nO:w'=w\/∃x,w'=w.setCell a x) (hk:k'.is P p.c p.Wg Im p.Ss 1 bB) (hv:k'.view Im=noView) (db:k'.idx=none) (uv:(K i).idx=none) (oY:(K i).cnt=0) (ajD:k'.cnt=0) (xx:k'.ni=false) (eM:(K i).late=1)
  (vZ:(k'.late=1/\((k'.shape=.load 0\/k'.shape=.store 0)->WgAt P p.Wg w' 1 0)/\(k'.shape=.my 0->WgAt P p.Wg w' 0 0))\/
   (k'.late=0/\WgAt P p.Wg w' 0 1/\∀g,((gs.map (woken P gi bB w')).setIfInBounds i bB)[ic]?=some g->g.status=.running)) (uB:qP k'.dc (K i).dc):gD P n0 W0 V gs w sl t K Im ic (some p) st i:=by
 have hlt:i<gs.size:=(SS.1 aM).1;obtain⟨s,hs,gw,iP,hm⟩:=h.mode aI;obtain⟨m1,m2,m3,m4,m5,m6,m7⟩:=hm.CH hlt eM;have aC:ic≠i:=λe=>by have:=(Mode.waits hm).2;rw[e,eM]at this;cases this
 have rk:p.c≠p.Wg:=h.phase.2.2.1;have vT:a.block=p.Wg:=by rcases zi with rfl|rfl<;>rfl
 have jd:∀b,b≠p.Wg->w'.heap[b]?=w.heap[b]?:=λb hb=>by
  rcases nO with rfl|⟨x,rfl⟩
  ·rfl
  ·exact vY _ _ _ (by rw[vT];exact Ne.symm hb)
 refine h.D5 aI hs hi aM aT hd ha zi nO hk (by rw[hv];exact Gc _) (λx=>by rw[xx]at x;cases x) db uv (.inr (.inr eM)) m1 ?_ uB;have e1:sumTo gs.size (λa=>(upd K i k' a).cnt)=0:=by have:=Ap K k' GS.cnt hlt;simp only[oY,ajD,m4]at this;omega
 unfold Mode;simp only[a_ _ _ aC,e1,jd _ rk];rcases vZ with⟨x1,x2,x3⟩|⟨x1,x2,x3⟩
 ·have e2:sumTo gs.size (λa=>(upd K i k' a).late)=1:=by have:=Ap K k' GS.late hlt;simp only[eM,x1,m3]at this;omega
  refine .inr (.inr (.inl ⟨m1,m2,e2,trivial,m5,λm hm dU=> ?_,λm hm dU=> ?_⟩))
  ·by_cases cY:m=i
   ·subst cY;rw[bw]at dU;exact x2 dU
   ·rw[a_ _ _ cY]at dU;have:=abf m3 hlt hm cY eM;rw[<- GS.mu]at this;rcases dU with e|e<;>rw[e]at this<;>cases this
  ·by_cases cY:m=i
   ·subst cY;rw[bw]at dU;exact x3 dU
   ·rw[a_ _ _ cY]at dU;have:=abf m3 hlt hm cY eM;rw[<- GS.mu,dU]at this;cases this
 ·have e2:sumTo gs.size (λa=>(upd K i k' a).late)=0:=by have:=Ap K k' GS.late hlt;simp only[eM,x1,m3]at this;omega
  exact .inr (.inr (.inr (.inl ⟨m1,m2,e2,trivial,x2,x3,m5⟩)))
theorem Inv.amx(h:Inv P n0 W0 V gs w t K Im ic (some p) st)(aI:p.recv=true){i n:Nat}{gi:SH}(hi:0<i)(aM:gs[i]?=some gi)(hK:K i=.load n)(jE:Dw P p.Wg (US t i) gi):gD P n0 W0 V gs w sl t K Im ic (some p) st i:=by
 have hlt:i<gs.size:=(SS.1 aM).1;obtain⟨s,hs,gw,iP,hm⟩:=h.mode aI;have eM:(K i).late=1:=by rw[hK];rfl
 obtain⟨m1,m2,m3,m4,m5,m6,m7⟩:=hm.CH hlt eM;obtain⟨hd,bL,g',aT,n',dN⟩:=jE;have hW:=m6 (by rw[hK];exact .inl rfl);exact h.LO aI (k':=.store n') (a:=ec p.Wg) hi aM (aT w hW) hd (.inl rfl) (.inl rfl) (.inl rfl) dN rfl rfl (by rw[hK];rfl) (by rw[hK];rfl) rfl rfl eM (.inl ⟨rfl,λ_=>hW,λx=>by cases x⟩) (by rw[hK];exact .inl (by simp[GS.dc]))
theorem Inv.aqB(h:Inv P n0 W0 V gs w t K Im ic (some p) st)(aI:p.recv=true){i n:Nat}{gi:SH}(hi:0<i)(aM:gs[i]?=some gi)(hK:K i=.store n)(jE:Dy P p.Wg (US t i) gi):gD P n0 W0 V gs w sl t K Im ic (some p) st i:=by
 have hlt:i<gs.size:=(SS.1 aM).1;obtain⟨s,hs,gw,iP,hm⟩:=h.mode aI;have eM:(K i).late=1:=by rw[hK];rfl
 obtain⟨m1,m2,m3,m4,m5,m6,m7⟩:=hm.CH hlt eM;obtain⟨hd,bL,g',aT,n',dN⟩:=jE;have hW:=m6 (by rw[hK];exact .inr rfl);exact h.LO aI (k':=.my n') (a:=ec p.Wg) hi aM (aT w hW) hd (.inr (.inl rfl)) (.inl rfl) (.inr ⟨_,rfl⟩) dN rfl rfl (by rw[hK];rfl) (by rw[hK];rfl) rfl rfl eM (.inl ⟨rfl,λx=>(x.elim (λy=>by cases y) (λy=>by cases y)),λ_=>hW.G4 0⟩) (by rw[hK];exact .inl (by simp[GS.dc]))
theorem Inv.apP(h:Inv P n0 W0 V gs w t K Im ic (some p) st)(aI:p.recv=true){i n:Nat}{gi:SH}(hi:0<i)(aM:gs[i]?=some gi)(hK:K i=.my n)(jE:Dx P p.Wg (US t i) gi):gD P n0 W0 V gs w sl t K Im ic (some p) st i:=by
 have hlt:i<gs.size:=(SS.1 aM).1;obtain⟨s,hs,gw,iP,hm⟩:=h.mode aI;have eM:(K i).late=1:=by rw[hK];rfl
 obtain⟨m1,m2,m3,m4,m5,m6,m7⟩:=hm.CH hlt eM;obtain⟨hd,bL,Kw,g',aT,q,mi⟩:=jE;have hW:=m7 (by rw[hK];rfl);have aC:ic≠i:=λe=>by have:=(Mode.waits hm).2;rw[e,eM]at this;cases this
 refine h.LO aI (k':=.gone q) (a:=oJ p.Wg) hi aM (aT w hW) hd (.inr (.inr (.inr rfl))) (.inr rfl) (.inr ⟨_,rfl⟩) mi rfl rfl (by rw[hK];rfl) (by rw[hK];rfl) rfl rfl eM (.inr ⟨rfl,hW.acd 1,λg hg=> ?_⟩) (by rw[hK];exact .inl (by simp[GS.dc]));rcases getElem?_next hlt hg with⟨e,_⟩|⟨_,y,hy,rfl⟩
 ·exact absurd e aC
 ·have xF:=h.is ic y gw hy;simp only at xF;have dU:(∃n,K ic=.said n)\/∃n,K ic=.ik n:=by
   cases xn:K ic<;>rw[xn]at m5<;>simp[GS.shape]at m5
   ·exact .inl ⟨_,rfl⟩
   ·exact .inr ⟨_,rfl⟩
  rcases dU with⟨n1,e⟩|⟨n1,e⟩
  ·rw[e]at xF;have hr:y.status=.running:=ii.running (λd g x=>x.2.1) xF;rw[Yl hr];exact hr
  ·rw[e]at xF;rcases xF with xF|⟨_,g1,rfl,J7⟩
   ·have hr:y.status=.running:=cU.running (λd g x=>x.2.1) xF;rw[Yl hr];exact hr
   ·have Kd:g'.status=.running\/g'.status=.finished:=ZF mi;unfold woken;have ajC:(mayWake P gi&&g'.status != .blocked&&g'.status != .waiting)=true:=(by rcases Kd with hs|hs<;>simp[Kw,hs]);rw[if_pos ajC];unfold YV;have:=J7.2.2.1;simp[this]
theorem Mode.aeX{c Wg N k:Nat}{s:eC}(hm:Mode P c Wg N w gs t K ic s)(e:(K ic).shape=.head k 0):
  (∃n,w.heap[c]?=some (.chan 0 #[] false n n false))/\s=.early/\(sumTo N λi=>(K i).late)=0/\(sumTo N λi=>(K i).cnt)<=4/\WgAt P Wg w (((sumTo N λi=>(K i).cnt:Nat):Int)* KK) 0/\(sumTo N λi=>(K i).cnt)<k:=by
 unfold Mode at hm;simp only[e]at hm;rcases hm with m|m|m|m|m|m|m
 ·obtain⟨a,b,c,d,f,x⟩:=m;refine⟨a,b,c,d,f,?_⟩;rcases x with⟨k',x,y⟩|⟨v,x,_⟩
  ·cases x;exact y
  ·cases x
 ·rcases m.2.2.2.2.2.2 with x|x<;>cases x
 ·rcases m.2.2.2.2.1 with x|x<;>cases x
 ·rcases m.2.2.2.2.2.2 with x|x<;>cases x
 ·rcases m.2.2.2.2.2 with x|x<;>cases x
 ·rcases m.2.2.2.2 with x|x<;>cases x
 ·cases m.2.2.2
theorem Mode.aeW{c Wg N v:Nat}{s:eC}(hm:Mode P c Wg N w gs t K ic s)(e:(K ic).shape=.ma v 0):
  (∃n,w.heap[c]?=some (.chan 0 #[] false n n false))/\s=.early/\(sumTo N λi=>(K i).late)=0/\(sumTo N λi=>(K i).cnt)<=4/\WgAt P Wg w (((sumTo N λi=>(K i).cnt:Nat):Int)* KK) 0/\(sumTo N λi=>(K i).cnt)<=v/\0<v:=by
 unfold Mode at hm;simp only[e]at hm;rcases hm with m|m|m|m|m|m|m
 ·obtain⟨a,b,c,d,f,x⟩:=m;refine⟨a,b,c,d,f,?_⟩;rcases x with⟨k',x,y⟩|⟨v,x,y⟩
  ·cases x
  ·cases x;exact y
 ·rcases m.2.2.2.2.2.2 with x|x<;>cases x
 ·rcases m.2.2.2.2.1 with x|x<;>cases x
 ·rcases m.2.2.2.2.2.2 with x|x<;>cases x
 ·rcases m.2.2.2.2.2 with x|x<;>cases x
 ·rcases m.2.2.2.2 with x|x<;>cases x
 ·cases m.2.2.2
theorem Mode.N5{c Wg N:Nat}{s:eC}(hm:Mode P c Wg N w gs t K ic s)(e:(K ic).shape=.last 0\/(K ic).shape=.acq 0):
  (∃n,w.heap[c]?=some (.chan 0 #[] false n n false))/\s=.early/\(sumTo N λi=>(K i).late)=0/\(sumTo N λi=>(K i).cnt)=0/\WgAt P Wg w 0 0:=by
 unfold Mode at hm;rcases hm with m|m|m|m|m|m|m
 ·rcases m.2.2.2.2.2 with⟨_,x,_⟩|⟨_,x,_⟩<;>rcases e with e|e<;>rw[e]at x<;>cases x
 ·rcases m.2.2.2.2.2.2 with x|x<;>rcases e with e|e<;>rw[e]at x<;>cases x
 ·rcases m.2.2.2.2.1 with x|x<;>rcases e with e|e<;>rw[e]at x<;>cases x
 ·rcases m.2.2.2.2.2.2 with x|x<;>rcases e with e|e<;>rw[e]at x<;>cases x
 ·exact⟨m.1,m.2.1,m.2.2.1,m.2.2.2.1,m.2.2.2.2.1⟩
 ·rcases m.2.2.2.2 with x|x<;>rcases e with e|e<;>rw[e]at x<;>cases x
 ·have x:=m.2.2.2;rcases e with e|e<;>rw[e]at x<;>cases x
theorem Mode.N6{c Wg N:Nat}{s:eC}(hm:Mode P c Wg N w gs t K ic s)(e:(K ic).shape=.look 0\/(K ic).shape=.close 0):
  (∃n,w.heap[c]?=some (.chan 0 #[] false n n false))/\s=.got/\(sumTo N λi=>(K i).late)=0/\(sumTo N λi=>(K i).cnt)=0:=by
 unfold Mode at hm;rcases hm with m|m|m|m|m|m|m
 ·rcases m.2.2.2.2.2 with⟨_,x,_⟩|⟨_,x,_⟩<;>rcases e with e|e<;>rw[e]at x<;>cases x
 ·rcases m.2.2.2.2.2.2 with x|x<;>rcases e with e|e<;>rw[e]at x<;>cases x
 ·rcases m.2.2.2.2.1 with x|x<;>rcases e with e|e<;>rw[e]at x<;>cases x
 ·rcases m.2.2.2.2.2.2 with x|x<;>rcases e with e|e<;>rw[e]at x<;>cases x
 ·rcases m.2.2.2.2.2 with x|x<;>rcases e with e|e<;>rw[e]at x<;>cases x
 ·exact⟨m.1,m.2.1,m.2.2.1,m.2.2.2.1⟩
 ·have x:=m.2.2.2;rcases e with e|e<;>rw[e]at x<;>cases x
theorem Mode.N7{c Wg N:Nat}{s:eC}(hm:Mode P c Wg N w gs t K ic s)(e:(K ic).shape=.said 0\/(K ic).shape=.ik 0):
  (∃n,w.heap[c]?=some (.chan 0 #[] false n n false))/\s=.early/\((∃st,WgAt P Wg w st 0)\/((sumTo N λi=>(K i).late)=0/\(sumTo N λi=>(K i).cnt)=0/\WgAt P Wg w 0 1))/\
  ∀{w':Tq}{gs':Array SH}{u:Ui}{k':GS},(k'.shape=.said 0\/k'.shape=.ik 0)->w'.heap[c]?=w.heap[c]?->w'.heap[Wg]?=w.heap[Wg]?->(WgAt P Wg w 0 1->∀g,gs'[ic]?=some g->g.status=.running)->ic<N->Mode P c Wg N w' gs' (t++u) (upd K ic k') ic s:=by
 have wait:∀{k:GS},(k.shape=.said 0\/k.shape=.ik 0)->k.cnt=0/\k.late=0:=λ{k} h=>by rw[<- GS.nj,<- GS.mu];rcases h with h|h<;>rw[h]<;>exact⟨rfl,rfl⟩
 have tail:∀(w':Tq)(gs':Array SH)(u:Ui)(k':GS),(k'.shape=.said 0\/k'.shape=.ik 0)->w'.heap[c]?=w.heap[c]?->w'.heap[Wg]?=w.heap[Wg]?->(WgAt P Wg w 0 1->∀g,gs'[ic]?=some g->g.status=.running)->ic<N->Mode P c Wg N w' gs' (t++u) (upd K ic k') ic s:=by
  intro w' gs' u k' hk hc hW hr fV;have e1:sumTo N (λi=>(upd K ic k' i).cnt)=sumTo N λi=>(K i).cnt:=lA K k' GS.cnt (by rw[(wait hk).1,(wait e).1]);have e2:sumTo N (λi=>(upd K ic k' i).late)=sumTo N λi=>(K i).late:=lA K k' GS.late (by rw[(wait hk).2,(wait e).2]);have e3:∀st sm,WgAt P Wg w' st sm=WgAt P Wg w st sm:=λst sm=>by unfold WgAt;rw[hW]
  have e5:∀i (q:GS),(q=.load 0\/q=.store 0\/q=.my 0)->(upd K ic k' i).shape=q->(K i).shape=q:=λi q hq hs=>by
   by_cases hi:i=ic
   ·subst hi;rw[bw]at hs;rcases hk with x|x<;>rw[x]at hs<;>subst hs<;>rcases hq with y|y|y<;>cases y
   ·rw[a_ _ _ hi]at hs;exact hs
  unfold Mode at hm⊢;simp only[e1,e2,e3,hc,bw];rcases hm with m|m|m|m|m|m|m
  ·rcases m.2.2.2.2.2 with⟨_,x,_⟩|⟨_,x,_⟩<;>rcases e with e|e<;>rw[e]at x<;>cases x
  ·exact .inr (.inl ⟨m.1,m.2.1,m.2.2.1,m.2.2.2.1,m.2.2.2.2.1,m.2.2.2.2.2.1,hk⟩)
  ·exact .inr (.inr (.inl ⟨m.1,m.2.1,m.2.2.1,m.2.2.2.1,hk,λi hi x=>m.2.2.2.2.2.1 i hi (x.imp (e5 i _ (.inl rfl)) (e5 i _ (.inr (.inl rfl)))),λi hi x=>m.2.2.2.2.2.2 i hi (e5 i _ (.inr (.inr rfl)) x)⟩))
  ·exact .inr (.inr (.inr (.inl ⟨m.1,m.2.1,m.2.2.1,m.2.2.2.1,m.2.2.2.2.1,hr m.2.2.2.2.1,hk⟩)))
  ·rcases m.2.2.2.2.2 with x|x<;>rcases e with e|e<;>rw[e]at x<;>cases x
  ·rcases m.2.2.2.2 with x|x<;>rcases e with e|e<;>rw[e]at x<;>cases x
  ·have x:=m.2.2.2;rcases e with e|e<;>rw[e]at x<;>cases x
 have iQ:=hm;unfold Mode at hm;rcases hm with m|m|m|m|m|m|m
 ·rcases m.2.2.2.2.2 with⟨_,x,_⟩|⟨_,x,_⟩<;>rcases e with e|e<;>rw[e]at x<;>cases x
 ·exact⟨m.1,m.2.1,.inl ⟨_,m.2.2.2.2.2.1⟩,λ{w'} {gs'} {u} {k'}=>tail w' gs' u k'⟩
 ·refine⟨m.1,m.2.1,.inl ?_,λ{w'} {gs'} {u} {k'}=>tail w' gs' u k'⟩;have:∃i,i<N/\(K i).late=1:=by
   apply Tt;intro fq;have hz:sumTo N (λi=>(K i).late)=sumTo N λ_=>0:=Vl λi hi=>by
    have aC:¬(K i).late=1:=λx=>fq ⟨i,hi,x⟩;cases lc:K i<;>rw[lc]at aC<;>first|rfl|exact absurd rfl aC
   have h0:sumTo N (λ_=>0)=0:=by
    have:∀N,sumTo N (λ_=>0)=0:=λN=>(by induction N with|zero=>rfl|succ N ih=>simp[sumTo,ih]);exact this N
   have:=m.2.2.1;omega
  obtain⟨i,hi,eM⟩:=this;obtain⟨_,_,_,_,_,m6,m7⟩:=iQ.CH hi eM;cases lc:K i<;>rw[lc]at eM m6 m7<;>simp[GS.late]at eM
  ·exact⟨1,m6 (.inl rfl)⟩
  ·exact⟨1,m6 (.inr rfl)⟩
  ·exact⟨0,m7 rfl⟩
 ·exact⟨m.1,m.2.1,.inr ⟨m.2.2.1,m.2.2.2.1,m.2.2.2.2.1⟩,λ{w'} {gs'} {u} {k'}=>tail w' gs' u k'⟩
 ·rcases m.2.2.2.2.2 with x|x<;>rcases e with e|e<;>rw[e]at x<;>cases x
 ·rcases m.2.2.2.2 with x|x<;>rcases e with e|e<;>rw[e]at x<;>cases x
 ·have x:=m.2.2.2;rcases e with e|e<;>rw[e]at x<;>cases x
end
end Go.Gg
