/- For every list of numbers, TicketAll returns true and does not panic, in any order in which its goroutines run; errors.errorType starts as the text of the program lays it. -/
import Derived.Test.YtkanpclgnhdbiaaGreatDoorTicketAllCard4
import Derived.Conc.LeavingOf
import Derived.Conc.Holds
import Derived.ProofKit
import Derived.Test.YtkanpclgnhdbiaaGreatDoorChecked
import Derived.Test.YtkanpclgnhdbiaaGreatDoorRows
import Derived.LaidMore
import Derived.SevenTiedAt
import Derived.Test.YtkanpclgnhdbiaaGreatDoorTie
import Derived.Test.YtkanpclgnhdbiaaGreatDoorCards
set_option linter.all false
set_option maxRecDepth 4000
set_option maxHeartbeats 4000000
open Bool renaming and_eq_true->Uh,and_self->axp,eq_iff_iff->Vh,false_and->Wj,false_eq_true->UD,false_or->Y_,not_eq_true'->U0,not_false->Yt,not_true->af',or_eq_true->X_,or_false->ZE,true_and->Vt,true_or->Z1
open Char renaming ofNat->af_
open Go renaming ChangeSpec->aw_,Code->U_,DataW->axI,Func->ZD,FuncId->UW,OpenClaim->Zi,Program->Tl,ReturnsInLeavingWide->Yz,Value->Uf,World->Uu
open Go.Addr renaming add->ayc
open Go.ChangeSpec renaming post_blind->axU,witness_shaped->axT
open Go.Claim7 renaming isSixth->an',new_of_sixth->ZL,tied_new_at->ZZ
open Go.Conc renaming Good->X0
open Go.DataW renaming weightsEach->ae_
open Go.DataW.Whole renaming of_heap->axH
open Go.Input renaming okWide->aw6
open Go.IntKind renaming i64->Tg
open Go.OpenClaim renaming holds_of_wide_leaving->axX
open Go.OpenSpec renaming ofChange->WS
open Go.PathCond renaming test->ax6
open Go.Program renaming headLifts->ayg,liftsFinal->ayf,make->aye,mayEnter->ayd
open Go.Proofs.Tryz renaming checked->VD,f14->WH,f15->Yk,f17->axR,f49->axQ,f50->ZW,func14->ZV,prog->S_
open Go.Value renaming agg->UC,cells->axi,int->Th,okWide->Zw,slice->UO
open Go.World renaming doorLaid->ap_
open Int renaming add_zero->axM,le_refl->Xw,mul_le_mul->axt,toNat_natCast->WU
open List renaming all_eq_true->UB,any_append->aw2,any_eq_true->U5,append_assoc->Te,append_eq->WG,append_nil->To,contains_nil->apT,drop->U4,dropLast_concat_getLast->Y6,eq_nil_of_length_eq_zero->VG,filter_append->XO,filter_congr->Wm,filter_cons->Y5,filter_cons_of_neg->XX,filter_cons_of_pos->XW,filter_eq_nil_iff->ZQ,filter_nil->apH,flatMap_append->Vf,flatMap_assoc->al',flatMap_cons->UV,flatMap_map->W3,flatMap_singleton->ZB,foldl_append->Xo,foldl_cons->VO,foldl_nil->axa,forall_mem_cons->VQ,getD_eq_getElem?_getD->Tf,getElem?_eq_getElem->Tw,getElem?_eq_some_iff->Tq,getElem?_map->Ut,getElem?_of_mem->Wy,getElem?_range->av',getElem?_take->Vm,getLast?_eq_getElem?->Zv,getLastD_eq_getLast?->WB,head?_cons->av_,length->ab',length_append->Tt,length_cons->Ve,length_drop->Vr,length_dropLast->ZP,length_filter_le->WX,length_map->Ue,length_nil->VL,length_pos_iff->Wp,length_range->Y4,length_singleton->UJ,length_take->Ux,map_append->Uq,map_cons->Wd,map_flatMap->WQ,map_map->XN,mem_cons->Tm,mem_filter->Vl,mem_flatMap->T9,mem_map->Uo,mem_of_getElem?->T8,mem_of_mem_take->W5,mem_range->UN,mem_singleton->Ub,nodup_cons->Xe,nodup_iff_pairwise_ne->Vz,not_mem_nil->T7,pairwise_cons->aa',pairwise_iff_getElem->Zu,pairwise_map->YJ,range->T1,range_succ->VW,take->VN,take_add_one->UZ,take_length->Un,take_of_length_le->Tx,take_sublist->ag',take_zero->Z'
open List.Nodup renaming sublist->Zp
open Nat renaming add_assoc->Wa,add_comm->axK,add_mul->Wu,add_sub_cancel->Xi,add_zero->VA,eq_zero_or_pos->Vu,le_refl->Ts,le_trans->UK,lt_or_ge->Z_,lt_trichotomy->YZ,mul_le_mul_right->UI,mul_one->YE,pow_le_pow_right->VY,pow_succ->axf,reduceAdd->Tu,zero_le->YX,zero_mul->axJ
open Option renaming getD_some->Ua,map_eq_some_iff->Uv
open Option.some renaming inj->WV
open Prod.mk renaming injEq->We
namespace Go.Gg
open Go.Conc Go.Proofs Go.Gg.Tk
section
variable {lv:Bool}{k kp:SF}{Gf:bp->SA}{t N:Nat}{τ:bp}{b:Int}
def akj{pm:Nat}(hT:dU Gf t N)(hτ:τ.Ok b)(hb:b<2^10)(ur:pm<=4)(hk:∀(x:ak)(aK ap bR:SD)(τ':bp),x.Ok->x.pieces.length<=pm->aK.length<=4->ap.length<=4->bR.length<=3->τ'.Ok (b+200)->k (.aL [x.av,aO aK,aO ap,aO bR]) (Gf τ')):ba lv S_ 15 (Gf τ) [.op t 0,iv pm,bv false] k kp:=by
 refine bH (rs:=[.cell 6 26,.tmp 7,.tmp 8,.tmp 9]) (nt:=240) Yk λhH hA=> ?_;simp only[bm,Tu];have vE:∀o:aa,dU (λτ=>Gf τ++[o]) t (N+1):=λo=>hT.more [o];have ow:∀τ (L:SA)(j:Nat),(Gf τ++L)[N+j]?=L[j]?:=λτ L j=>by rw[<- hT.len τ,aW]
 have dz:∀τ (L:SA)(j:Nat)(y:aa),(Gf τ++L).set (N+j) y=Gf τ++L.set j y:=λτ L j y=>by rw[<- hT.len τ,dB]
 have N2:∀τ (L:SA),(Gf τ++L)[N]?=L[0]?:=λτ L=>ow τ L 0;have N4:∀τ (L:SA)(y:aa),(Gf τ++L).set N y=Gf τ++L.set 0 y:=λτ L y=>dz τ L 0 y;refine ah ?_;refine ah ?_;refine aG (pP (vE _) hτ (by omega) (by omega) ?_);have r1:=lV τ 90;generalize dt τ 90=u1 at r1⊢;(try simp only[seval,zE4,uO]);refine aG (LB (ns:=[0,1,10,u1]) (vE _) hτ.tick (by omega) (by simp) (by simp) ?_);have r2:=Ll (tick τ) (ns:=[0,1,10,u1]) (by simp);simp only[Tm,T7,or_false]at r2;generalize xc (tick τ) [0,1,10,u1]=first at r2⊢
 (try simp only[seval]);refine aG (aaA (lo:=1) (hi:=3) (vE _) hτ.tick.tick (by omega) (by decide) (by decide) ?_);have r3:=af1 (tick (tick τ)) (show (1:Int)<=3 by decide);generalize CF (tick (tick τ)) 1 3=hours at r3⊢;(try simp only[seval,zE4,uO]);refine aG (LB (ns:=[1,2,2,3]) (vE _) hτ.tick.tick.tick (by omega) (by simp) (by simp) ?_);have r4:=Ll (tick (tick (tick τ))) (ns:=[1,2,2,3]) (by simp);simp only[Tm,T7,or_false]at r4;generalize xc (tick (tick (tick τ))) [1,2,2,3]=am at r4⊢;have oY:0<=first/\first<=90:=by omega
 have xJ:1<=am/\am<=3:=by omega
 clear r1 r2 r4;have hσ:(tick (tick (tick (tick τ)))).Ok (b+4):=hτ.tick.tick.tick.tick.mono (by omega);generalize tick (tick (tick (tick τ)))=σ at hσ⊢;(try simp only[seval,hT.len,ow,dz,N2,N4]);refine ab ?_;simp only[seval,ow,z1,uN]
 (repeat apply fu);refine nh (t:=11) (sz:=1) (el:=3) (by simp only[seval]<;>rfl) ?_
 simp only[seval,hT.len]
 (repeat apply fu);refine ah0 (id:=N+1) (j:=3) (sz:=3) (iB:=61) (by simp only[seval,ow]<;>rfl) rfl ?_
 simp only[seval,dz,hT.len];refine KB [11,10,6,0,1,2] ?_;show aS _ _ _ _ _ ⟨[(11,.sl 1 [iv first] (.opn (N+2))),(10,.op (N+1) 0),(6,.op N 0),(0,.op t 0),(1,iv pm),(2,bv false)],_⟩ _;obtain⟨zc,E_⟩:∃zc:aa,zc=.cells [iv 0,iv 0,iv 0,.sl 0 [] .exact,.sl 0 [] .exact,.sl 0 [] .exact] 26:=⟨_,rfl⟩;simp only[iv]at E_;rw[<- E_];obtain⟨hn,hhn⟩:∃hn:Nat,hours=hn:=⟨hours.toNat,by omega⟩;subst hhn;refine ah ?_;refine bF ?_;refine ej hn (λi:Nat=>[(11,.sl (i+1) ((lG σ first am i).1.map iv) (.opn (N+2))),(12,iv i)]) (λi=>Gf (lG σ first am i).2++[zc,.cells [iv first,iv hn,iv am,.sl 0 [] (.opn (N+3)),.sl 0 [] .exact,.sl 0 [] .exact] 26,.tail (i+1) 1 3,.tail 0 3 61]) (λi=>True) (λ_ _=>rfl) (by simp only[lG];simp only[seval];simp[bh,Wk.refl]) rfl (λ_ _ _=>by simp[hT.len]) trivial (λbz bE i ce _ R hR=> ?_)
 ·clear bz bE;have aq:=ab1 σ first (am:=am) (by omega) i
  have rk:=ab2 hσ first am i
  have cU:lG σ first am (i+1)=((lG σ first am i).1++[(lG σ first am i).1.getD i 0+yc (lG σ first am i).2 am],tick (tick (lG σ first am i).2)):=rfl
  have uk:=aq.ge (by omega) i (Ts _);generalize lG σ first am i=m at aq rk cU uk hR⊢
  obtain⟨l,ρ⟩:=m;dsimp only at aq rk cU uk⊢;have fI:=aq.len;refine ab ?_;simp only[seval,ow];refine aB ?_;refine⟨λh=> ?_,λh=> ?_⟩
  ·as_aux_lemma=>
   have bk:i<hn:=(by omega);obtain⟨w,hw⟩:=bA (xs:=l) (i:=i) (by omega);have jC:l.getD i 0=w:=(by rw[Tf,hw];rfl);rw[jC]at cU uk;have aP:=afa ρ (am:=am) (by omega);have hsd:yc ρ am=xc (tick ρ) [0,am,dt ρ am]:=rfl;obtain⟨v,hv⟩:∃v,v=yc ρ am:=⟨_,rfl⟩;rw[<- hv]at cU aP hsd;have EU:Tg.wrap (w+v)=w+v:=Og (afX uk aP oY xJ (by omega));have gA:=TN i (by omega);have dV:(0<=(i:Int)/\(i:Int)<(i:Int)+1)=True:=(by simp;omega);have jU:∀L:SA,dU (λτ=>Gf τ++L) t (N+L.length):=λL=>hT.more L;refine aE ?_;refine bF ?_;obtain⟨X,hX⟩:∃X:Nat->SA,∀a,X a=[zc,.cells [iv first,iv hn,iv am,.sl 0 [] (.opn (N+3)),.sl 0 [] .exact,.sl 0 [] .exact] 26,.tail a 1 3,.tail 0 3 61]:=⟨_,λ_=>rfl⟩;have hXe:=(hX (i+1)).symm;simp only[iv]at hXe;have x1:∀τ a,(Gf τ++X a)[N+1]?=some (.cells [iv first,iv hn,iv am,.sl 0 [] (.opn (N+3)),.sl 0 [] .exact,.sl 0 [] .exact] 26):=λτ a=>(by rw[ow,hX];rfl);have x2:∀τ a,(Gf τ++X a)[N+2]?=some (.tail a 1 3):=λτ a=>(by rw[ow,hX];rfl);have QM:∀τ a a',(Gf τ++X a).set (N+2) (.tail a' 1 3)=Gf τ++X a':=λτ a a'=>(by rw[dz,hX,hX];rfl);rw[hXe];refine lY [11,13,16] (T1 18) (λD=>bif isDone 16 D then Gf (tick (tick ρ))++X (i+1+1)else bif isDone 13 D then Gf (tick (tick ρ))++X (i+1)else bif isDone 11 D then Gf (tick ρ)++X (i+1)else Gf ρ++X (i+1)) ?_;simp only[seval,QS,FK,z1,uN,x1,x2,QM,dp hw,dV,EU,fI];refine tV _ _ (cP (pP (jU (X (i+1))) rk (by omega) (by omega) ⟨rfl,rfl⟩)) ?_;(try simp only[seval,QS,FK,z1,uN,x1,x2,QM,dp hw,dV,EU,fI]);refine tV (iv v) _ (cP (LB (ns:=[0,am,dt ρ am]) (jU (X (i+1))) rk.tick (by omega) (by simp) (by simp) ⟨by rw[hsd],rfl⟩)) ?_;(try simp only[seval,QS,FK,z1,uN,x1,x2,QM,dp hw,dV,EU,fI]);refine⟨by omega,?_⟩;refine ab ?_;simp only[seval,gA];refine hR _ ⟨bk,trivial,?_⟩;rw[cU,Uq,hX];exact bX
  ·as_aux_lemma=>
   have dK:i=hn:=(by omega);subst dK;clear hR;refine bD ?_;obtain⟨w,hw⟩:=bA (xs:=l) (i:=i) (by omega);have jC:l.getD i 0=w:=(by rw[Tf,hw];rfl);have Iw:first<=w/\w<=first+9:=by
    rw[jC]at uk;have:am* (i:Int)<=3* 3:=axt (by omega) (by omega) (by omega) (by omega);generalize am* (i:Int)=q at uk this;omega
   obtain⟨mn,oi⟩:∃mn:Nat,w-first=mn:=⟨(w-first).toNat,by omega⟩
   have Nr:mn<=9:=(by omega);have xP:Tg.wrap (w-first)=mn:=(by rw[Og (by omega),oi]);have dV:(0<=(i:Int)/\(i:Int)<(i:Int)+1)=True:=(by simp;omega);refine eA 8 ?_;simp only[seval,ow,dp hw,dV,xP];have jU:∀L:SA,dU (λτ=>Gf τ++L) t (N+L.length):=λL=>hT.more L;refine ah ?_;refine aG (aaE (n:=mn) (jU _) rk (by omega) (by omega) ?_);have rh:=adz ρ mn;have rk:=I4 rk mn mn;generalize iQ ρ mn mn=m2 at rh rk⊢;obtain⟨order,ρ⟩:=m2;dsimp only at rh rk⊢;(try simp only[seval]);refine ah ?_
   (repeat apply fu);refine nh (t:=15) (sz:=1) (el:=3) (by simp only[seval]<;>rfl) ?_
   simp only[seval,hT.len]
   (repeat apply fu);refine nh (t:=16) (sz:=1) (el:=3) (by simp only[seval]<;>rfl) ?_
   simp only[seval,hT.len];refine KB [16,15,14,13,11,10,6,0,1,2] ?_;show aS _ _ _ _ _ ⟨[(16,.sl 0 [] (.opn (N+5))),(15,.sl 0 [] (.opn (N+4))),(14,aO order),(13,iv mn),(11,.sl (i+1) (l.map iv) (.opn (N+2))),(10,.op (N+1) 0),(6,.op N 0),(0,.op t 0),(1,iv pm),(2,bv false)],_⟩ _;obtain⟨YY,hYY⟩:∃YY:SC->Nat->Nat->Nat->SA,∀r c d e,YY r c d e=[zc,.cells r 26,.tail (i+1) 1 3,.tail c 3 61,.tail d 1 3,.tail e 1 3]:=⟨_,λ_ _ _ _=>rfl⟩;have hY:YW Gf N zc YY:=avy hT hYY;have hY0:[zc,.cells [iv first,iv i,iv am,.sl 0 [] (.opn (N+3)),.sl 0 [] .exact,.sl 0 [] .exact] 26,.tail (i+1) 1 3,.tail 0 3 61,.tail 0 1 3,.tail 0 1 3]=YY [iv first,iv i,iv am,.sl 0 [] (.opn (N+3)),.sl 0 [] .exact,.sl 0 [] .exact] 0 0 0++[]:=(by rw[hYY];rfl);simp only[iv]at hY0;rw[hY0];refine ah ?_;refine Dj (α:=Nat×bp) (λy=>⟨[(16,.sl 0 [] (.opn (N+5))),(15,.sl y.1 ((k_ first order y.1).map iv) (.opn (N+4))),(13,iv mn),(11,.sl (i+1) (l.map iv) (.opn (N+2))),(10,.op (N+1) 0),(6,.op N 0),(0,.op t 0),(2,bv false)],Gf y.2++(YY [iv first,iv i,iv am,.sl 0 [] (.opn (N+3)),fY (N+6) y.1,.sl 0 [] .exact] 0 y.1 0++gO y.1 (gp (kR l i (λj=>first+order.getD j 0) ρ y.1).1))⟩) (λy=>y.1<=pm/\y.1<=mn/\y.2.Ok (b+60)) ?_ (λy hy=> ?_)
   ·exact akn hT hY (λτ'=>hT.aq hH τ') hb ur (by omega) oY fI Nr rh (rk.mono (by omega))
   ·as_aux_lemma=>
    obtain⟨np,ρ1⟩:=y;obtain⟨ano,anp,Oe⟩:=hy;dsimp only at ano anp Oe⊢;have If:(kR l i (λj=>first+order.getD j 0) ρ np).1.length=np:=Bl _ _ _ _ _;have aco:∀(p:Nat) z,(kR l i (λj=>first+order.getD j 0) ρ np).1[p]?=some z->∃τ,z=l7 τ l (first+order.getD p 0) i:=λp z hz=>My (P:=λn z=>∃τ,z=l7 τ l n i) (λτ n=>⟨τ,rfl⟩) np p z hz;generalize(kR l i (λj=>first+order.getD j 0) ρ np).1=dQ at If aco⊢;have iV:=adK first order np
    have uo:∀n∈k_ first order np,first<=n/\n<w:=λn hn=>by
     unfold k_ at hn;obtain⟨p,hp,rfl⟩:=Uo.1 hn;have hp:=UN.1 hp;obtain⟨o,ho⟩:=bA (xs:=order) (i:=p) (by rw[rh.len];omega);have:=rh.Jt o (uI ho);rw[Tf,ho];simp only[Ua];omega
    have H_:(k_ first order np).Nodup:=by
     have e:k_ first order np=(order.take np).map λo=>first+o:=by
      unfold k_;refine ap3 (by rw[Ue,Ux,rh.len];omega) λp hp=> ?_;rw[Ut,Vm,if_pos hp,Tf];obtain⟨o,ho⟩:=bA (xs:=order) (i:=p) (by rw[rh.len];omega);rw[ho];rfl
     rw[e];have h1:(order.take np).Nodup:=Zp (ag' _ _) rh.nodup;rw[Vz,YJ];exact(Vz.1 h1).imp λh e=>h (by omega)
    have hng:∀p,p<np->(k_ first order np).getD p 0=first+order.getD p 0:=λp hp=>by
     unfold k_;rw[Tf,Ut,av' hp];rfl
    generalize k_ first order np=ap at iV uo H_ hng⊢
    refine ah ?_;refine aG (aaE (n:=np) (jU _) Oe (by omega) (by omega) ?_);have us:=adz ρ1 np;have zJ:=I4 Oe np np;generalize iQ ρ1 np np=m3 at us zJ⊢;obtain⟨iI,ρ2⟩:=m3;dsimp only at us zJ⊢;have zJ:ρ2.Ok (b+64):=zJ.mono (by omega);(try simp only[seval]);have hwe:aO iI=.sl np (iI.map iv) .shut:=(by rw[aO,us.len]);rw[hwe];refine ah ?_;refine Dj (α:=Nat×bp) (λy=>⟨[(16,.sl y.1 ((iI.take y.1).map iv) (.opn (N+5))),(15,.sl np (ap.map iv) (.opn (N+4))),(13,iv mn),(11,.sl (i+1) (l.map iv) (.opn (N+2))),(10,.op (N+1) 0),(6,.op N 0),(0,.op t 0),(2,bv false)],Gf y.2++(YY [iv first,iv i,iv am,.sl 0 [] (.opn (N+3)),fY (N+6) np,fY (N+6+np) y.1] 0 np y.1++(gO np (gp dQ)++gO y.1 (gp (kR l i (λj=>ap.getD (iI.getD j 0).toNat 0) ρ2 y.1).1)))⟩) (λy=>y.1<=np/\y.1<=3/\y.2.Ok (b+90)) ?_ (λy hy=> ?_)
    ·exact mB (s':=⟨[(19,iv 0),(18,.sl np (iI.map iv) .shut),(16,.sl 0 [] (.opn (N+5))),(15,.sl np (ap.map iv) (.opn (N+4))),(13,iv mn),(11,.sl (i+1) (l.map iv) (.opn (N+2))),(10,.op (N+1) 0),(6,.op N 0),(0,.op t 0),(2,bv false)],Gf ρ2++(YY [iv first,iv i,iv am,.sl 0 [] (.opn (N+3)),fY (N+6) np,.sl 0 [] .exact] 0 np 0++gO np (gp dQ))⟩) (dY (by simp only[seval];simp[bh,Wk.refl]) rfl) (aki hT hY (yU _ _) hb (by omega) oY Iw fI (by omega) iV uo us zJ)
    ·as_aux_lemma=>
     obtain⟨ns,ρ3⟩:=y;obtain⟨anq,anr,Of⟩:=hy;dsimp only at anq anr Of⊢;have ov:(kR l i (λj=>ap.getD (iI.getD j 0).toNat 0) ρ2 ns).1.length=ns:=Bl _ _ _ _ _;have acy:∀(s:Nat) z,(kR l i (λj=>ap.getD (iI.getD j 0).toNat 0) ρ2 ns).1[s]?=some z->∃τ,z=l7 τ l (ap.getD (iI.getD s 0).toNat 0) i:=λs z hz=>My (P:=λn z=>∃τ,z=l7 τ l n i) (λτ n=>⟨τ,rfl⟩) ns s z hz;generalize(kR l i (λj=>ap.getD (iI.getD j 0).toNat 0) ρ2 ns).1=dC at ov acy⊢;have oz:=us.len;have aH:(iI.take ns).length=ns:=(by rw[Ux];omega);have eW:∀v∈iI.take ns,0<=v/\v<(np:Int):=λv hv=>us.Jt v (W5 hv);have anE:(iI.take ns).Nodup:=Zp (ag' _ _) us.nodup;have acm:∀s,s<ns->(iI.take ns).getD s 0=iI.getD s 0:=λs hs=>by
      rw[Tf,Tf,Vm,if_pos hs]
     generalize iI.take ns=bR at aH eW anE acm⊢;refine ah ?_;refine aG (pP (n:=2) (jU _) Of (by omega) (by omega) ?_);have iC:=lV ρ3 2;generalize dt ρ3 2=u2 at iC⊢;obtain⟨cn,rfl⟩:∃cn:Nat,u2=cn:=⟨u2.toNat,by omega⟩;have IC:=Of.tick;generalize tick ρ3=ρ4 at IC⊢;(try simp only[seval]);have lK:∀z∈dQ,wO i z:=λz hz=>by
      obtain⟨p,hp⟩:=Wy hz;have cr:=(Tq.1 hp).1;obtain⟨τ',rfl⟩:=aco p z hp;rw[<- hng p (by omega)];have:=Mx aq (by omega) oY xJ (n:=ap.getD p 0) (by rw[jC];exact uo _ (A7 (by omega))) τ';exact⟨this.num,this.hour⟩
     have htv:∀z∈dC,wO i z:=λz hz=>by
      obtain⟨s,hs⟩:=Wy hz;have cu:=(Tq.1 hs).1;obtain⟨τ',rfl⟩:=acy s z hs;rw[<- acm s (by omega)];have ho:=eW _ (A7 (l:=bR) (i:=s) (by omega));have:=Mx aq (by omega) oY xJ (n:=ap.getD (bR.getD s 0).toNat 0) (by rw[jC];exact uo _ (A7 (by omega))) τ';exact⟨this.num,this.hour⟩
     refine Dj (α:=List Seen×bp) (λy=>⟨[(16,.sl ns (bR.map iv) (.opn (N+5))),(15,.sl np (ap.map iv) (.opn (N+4))),(13,iv mn),(11,.sl (i+1) (l.map iv) (.opn (N+2))),(10,.op (N+1) 0),(6,.op N 0),(0,.op t 0),(2,bv false)],Gf y.2++(YY [iv first,iv i,iv am,.sl y.1.length (y.1.flatMap Seen.l) (.opn (N+3)),fY (N+6) np,fY (N+6+np) ns] y.1.length np ns++(gO np (gp dQ)++gO ns (gp dC)))⟩) (λy=>y.1.length<=2/\(∀s∈y.1,0<=s.hour/\s.hour<=i/\∃τ,s.next=nP τ (l.getD s.hour.toNat 0) 1 0 99)/\y.2.Ok (b+97)) ?_ (λy hy=> ?_)
     ·refine mB (s':=⟨[(20,iv cn),(16,.sl ns (bR.map iv) (.opn (N+5))),(15,.sl np (ap.map iv) (.opn (N+4))),(13,iv mn),(11,.sl (i+1) (l.map iv) (.opn (N+2))),(10,.op (N+1) 0),(6,.op N 0),(0,.op t 0),(2,bv false)],Gf ρ4++(YY [iv first,iv i,iv am,.sl 0 [] (.opn (N+3)),fY (N+6) np,fY (N+6+np) ns] 0 np ns++(gO np (gp dQ)++gO ns (gp dC)))⟩) (dY (by simp only[seval];simp[bh,Wk.refl]) rfl) (akl hT hY hb (by omega) oY xJ aq (by omega) (IC.mono (by omega)))
     obtain⟨ss,ρ5⟩:=y;obtain⟨ep,ft,qb⟩:=hy;dsimp only at ep ft qb⊢;refine ah ?_;refine aB ?_;refine aE ?_;refine mB (s':=⟨[(16,.sl ns (bR.map iv) (.opn (N+5))),(15,.sl np (ap.map iv) (.opn (N+4))),(13,iv mn),(11,.sl (i+1) (l.map iv) (.opn (N+2))),(10,.op (N+1) 0),(6,.op N 0),(0,.op t 0),(2,bv false)],Gf ρ5++(YY [iv first,iv i,iv am,.sl ss.length (ss.flatMap Seen.l) (.opn (N+3)),fY (N+6) np,fY (N+6+np) ns] ss.length np ns++(gO np (gp dQ)++gO ns (gp dC)))⟩) (dY (by simp only[seval];simp[bh,Wk.refl]) rfl) (akm hT hY (yU _ _) hb oY Nr (by omega) ov htv qb λaud ρ6 NY zD hρ6=>akk hT hY hb (by omega) (by omega) If lK hρ6 λarl ρ7 hp1 kj hρ7=>akh hT (λτ'=>hT.aq hH τ') hY E_ fI hp1 iV NY aH rfl (hk ⟨first,i,am,ss,arl,aud⟩ l ap bR ρ7 ⟨oY,by dsimp only;omega,xJ,by dsimp only;omega,by dsimp only;omega,by dsimp only;omega,λs hs=> ?_,λy hy=> ?_,λy hy=> ?_⟩ (by dsimp only;omega) (by omega) (by omega) (by omega) (hρ7.mono (by omega))))
     ·obtain⟨h1,h2,τ',h3⟩:=ft s hs;have ht:=aq.top oY xJ (by omega) s.hour.toNat (by omega);rw[h3];exact⟨⟨h1,h2⟩,(Df (by omega) (by omega)).1⟩
     ·exact⟨(kj y hy).1,(kj y hy).2⟩
     ·exact⟨(zD y hy).1,(zD y hy).2⟩
end
section
variable {lv:Bool}{H:SA}{k kp:SF}
end
def oC (n:Nat):Nat->List (SD)
 |0=>[[]]
 |k+1=>(T1 n).flatMap λi:Nat=>(oC n k).map ((i:Int)::·)
def uG (n kk j:Nat):List (SD):=(T1 j).flatMap λi:Nat=>(oC n kk).map ((i:Int)::·)
def adh(n kk j:Nat):uG n kk (j+1)=uG n kk j++(oC n kk).map ((j:Int)::·):=by
 unfold uG;rw[VW,Vf];simp
def OT:∀n,n<=4->∀k,k<=4->(oC n k).length<=256/\∀r∈oC n k,r.length=k/\∀i∈r,0<=i/\i<n:=by decide+kernel
def adg(n kk:Nat)(h:(oC n kk).length<=256):∀j,(uG n kk j).length<=256* j
 |0=>by simp[uG]
 |j+1=>by
  have h1:=adg n kk h j;rw[adh,Tt,Ue];omega
section
variable {lv:Bool}
def aaJ:∀(kk:Nat){n:Nat}{H:SA}{k kp:SF},n<=4->kk<=4->k (lr (oC n kk)) H->ba lv S_ 49 H [iv n,iv kk] k kp
 |0,n,H,k,kp,hn,dR,hk=>by
  refine bH (rs:=[.tmp 4]) (nt:=38) axQ λhH hA=> ?_;simp only[bm,Tu];refine ah ?_;refine ab ?_;simp only[seval,beq_self_eq_true];refine aB ?_;refine ab ?_;simp only[seval,wL,z9];refine aT ?_;exact jS (b:=lr [[]]) (H':=H) (G:=[]) (QD (.cons (ff _ _ _) .nil)) (by simp) (Ts _) hH (by rw[B6];trivial) hk
 |kk+1,n,H,k,kp,hn,dR,hk=>by
  refine bH (rs:=[.tmp 4]) (nt:=38) axQ λhH hA=> ?_;simp only[bm,Tu];have hz:(((kk:Int)+1)==0)=false:=by simp;omega
  have iX:Tg.wrap ((kk:Int)+1-1)=kk:=by rw[a_ _ (by omega)];omega
  refine ah ?_;refine ab ?_;simp only[seval,hz];refine aB ?_;refine aE ?_;refine ah ?_
  (repeat apply fu);refine nh (t:=5) (sz:=1) (el:=22) (by simp only[seval]<;>rfl) ?_
  refine ab ?_;simp only[seval,iX];refine aG (aaJ kk hn (by omega) ?_);(try simp only[seval,lr]);have HQ:=OT n hn kk (by omega);have hlen:=adg n kk HQ.1;have qf:=adh n kk;have eT:uG n kk n=oC n (kk+1):=rfl;generalize oC n kk=l at HQ qf⊢;obtain⟨awy,hlr⟩:=HQ;refine ah ?_;refine bF ?_;refine ej n (λj:Nat=>[(5,.sl (uG n kk j).length ((uG n kk j).map aO) (.opn H.length)),(7,iv j)]) (λj=>H++[.tail (uG n kk j).length 1 22]) (λi=>True) (λ_ _=>rfl) (by simp only[seval];simp[bh,Wk.refl];exact Wk.refl _) rfl (λ_ _ _=>by simp) trivial (λbz bE j mI hj R hR=> ?_);clear bz bE;refine ah ?_;refine aB ?_;refine⟨λh=> ?_,λh=> ?_⟩
  ·have dW:j<n:=(by omega);have c_:Tg.wrap ((j:Int)+1)=j+1:=a_ _ (by omega);have EQ:=qf j;have fI:=hlen j;generalize uG n kk j=o at EQ fI hR⊢;refine aE ?_;refine ah ?_;refine bF ?_;refine ej l.length (λx:Nat=>[(5,.sl (o.length+x) ((o++(l.take x).map ((j:Int)::·)).map aO) (.opn H.length)),(8,iv x)]) (λx=>H++[.tail (o.length+x) 1 22]) (λi=>True) (λ_ _=>rfl) (by simp only[seval];simp[bh,Wk.refl]) (by simp) (λ_ _ _=>by simp) trivial (λbz bE x EW hx R2 eY=> ?_);clear bz bE;refine ah ?_;refine aB ?_;refine⟨λh2=> ?_,λh2=> ?_⟩
   ·have b9:x<l.length:=(by omega);obtain⟨r,hr⟩:=bA b9;have uv:=(hlr r (uI hr)).1;have uz:Tg.wrap ((x:Int)+1)=x+1:=a_ _ (by omega);have rf:((o++(l.take x).map ((j:Int)::·)).map aO).length=o.length+x:=(by simp;omega);have cW:(o++(l.take (x+1)).map ((j:Int)::·)).map aO=(o++(l.take x).map ((j:Int)::·)).map aO++[aO ((j:Int)::r)]:=by
     rw[ap4 _ hr,<- Te,Uq];rfl
    have NM:(r.map iv).length=r.length:=Ue ..;refine aE ?_;refine ab ?_;simp only[seval,z1,wL,z9,wF hr,jx b9,rf,NM,aO]
    first|refine⟨by omega,by simp;omega,by omega,?_⟩|refine⟨by omega,by omega,?_⟩
    refine ab ?_;simp only[seval,uz];refine eY _ ⟨b9,trivial,?_⟩;rw[cW];refine qy [.tail (1+r.length) 1 3] (jZ rfl rfl) ?_ (EC hH _ _ _) ?_ (by simp[Wa])
    ·(try simp only[seval]);exact⟨⟨_,rfl,have h:=F8 (l:=(o++(l.take x).map ((j:Int)::·)).map aO) (show Wk (.sl (1+r.length) (iv (j:Int)::r.map iv) (.opn (H.length+1))) (aO ((j:Int)::r)) by rw[aO,axK];exact ff _ _ _);Ap h.len h.at⟩,_,rfl,Wk.refl _⟩
    ·rw[<- cW];simp only[VQ,dj,Fu,iv];simp
   ·have eC:x=l.length:=(by omega);subst eC;refine bD ?_;refine ab ?_;simp only[seval,c_];refine hR _ ⟨dW,trivial,?_⟩;rw[EQ];simp only[Un,Tt,Ue];exact bX
  ·have vS:j=n:=(by omega);subst vS;refine bD ?_;refine ah ?_;refine aT ?_;rw[eT];exact f_ (b:=lr (oC j (kk+1))) hH (ff _ _ _) (by rw[B6];trivial) hk
end
section
variable {lv:Bool}{H:SA}{k kp:SF}
end
end Go.Gg
namespace Go.Gg.Tk
def ext:SD->SD->SD
 |pre,[]=>pre
 |pre,i::st=>ext (pre++[pre.getLastD 0+i]) st
def aau:∀(st pre:SD)(a:Int),ext pre (st++[a])=ext pre st++[(ext pre st).getLastD 0+a]
 |[],pre,a=>rfl
 |i::st,pre,a=>aau st _ a
def vr (x:ak):Nat->SD->List (SD)
 |0,pre=>[pre]
 |d+1,pre=>(T1 (x.am.toNat+1)).flatMap λn:Nat=>vr x d (pre++[pre.getLastD 0+(n:Int)])
def aaw(x:ak):∀(d:Nat)(pre:SD),vr x d pre=(oC (x.am.toNat+1) d).map (ext pre)
 |0,pre=>rfl
 |d+1,pre=>by
  unfold vr oC;rw[WQ];refine vw λn _=> ?_;rw[aaw x d,XN];rfl
def Lv(x:ak):∀(d:Nat)(pre h:SD),h∈vr x d pre->h.take pre.length=pre
 |0,pre,h,hm=>by
  rw[vr,Ub]at hm;subst hm;exact Un
 |d+1,pre,h,hm=>by
  unfold vr at hm;obtain⟨n,_,hm⟩:=T9.1 hm;have:=Lv x d _ h hm;rw[Tt,UJ]at this;exact(Cy.1 this).1
def tS (x:ak):Nat->Nat->SD->Bool
 |k,0,h=>mW x k (h.getD k 0)
 |k,d+1,h=>mW x k (h.getD k 0)&&tS x (k+1) d h
def abW(x:ak):∀(d:Nat)(pre:SD),pre≠[]->jD x d pre=(vr x d pre).filter (tS x (pre.length-1) d)
 |0,pre,hp=>by
  unfold jD vr;rw[zO hp Un];by_cases h:mW x (pre.length-1) (pre.getD (pre.length-1) 0)=true
  ·rw[if_pos h,XW (by unfold tS;exact h)];rfl
  ·rw[if_neg h,XX (by unfold tS;exact h)];rfl
 |d+1,pre,hp=>by
  have hl:0<pre.length:=Wp.2 hp;by_cases h:mW x (pre.length-1) (pre.getLastD 0)=true
  ·unfold jD vr;rw[if_pos h,List.filter_flatMap];refine vw λn _=> ?_;rw[abW x d _ (by simp),Tt,UJ];refine Wm λg hg=> ?_;have hg:=Lv x d _ g hg;rw[Tt,UJ]at hg;have hg:=(Cy.1 hg).1;rw[zO hp hg]at h
   conv=>rhs;unfold tS
   rw[h,Vt,Xi,Nat.sub_add_cancel hl]
  ·unfold jD;rw[if_neg h];symm;rw[ZQ];intro g hg;have hg:=Lv x _ _ g hg;rw[zO hp hg]at h;unfold tS;rw[Uh];exactλe=>h e.1
def x_ (x:ak)(h:SD):Bool:=x.seen.all λs=>iq s.next (h.getD s.hour.toNat 0)
def R6(x:ak)(h:SD):∀(d k:Nat),tS x k d h=true<->∀j,k<=j->j<=k+d->mW x j (h.getD j 0)=true
 |0,k=>by
  unfold tS;refine⟨λe j h1 h2=>by rw[show j=k by omega];exact e,λe=>e k (Ts _) (by omega)⟩
 |d+1,k=>by
  unfold tS;rw[Uh,R6 x h d (k+1)];refine⟨λe j h1 h2=> ?_,λe=>⟨e k (Ts _) (by omega),λj h1 h2=>e j (by omega) (by omega)⟩⟩;by_cases hj:j=k
  ·rw[hj];exact e.1
  ·exact e.2 j (by omega) (by omega)
def asY{x:ak}(hx:x.Ok)(h:SD):x_ x h=tS x 0 x.hours.toNat h:=by
 rw[Vh,R6];unfold x_ mW;rw[UB];refine⟨λe j _ hj=>UB.2 λs hs=> ?_,λe s hs=> ?_⟩
 ·rw[X_,U0,decide_eq_false_iff_not];by_cases v5:s.hour=j
  ·right;have:=e s hs;rw[v5,WU]at this;exact this
  ·exact .inl v5
 ·have dP:=(hx.seen s hs).1;have:=UB.1 (e s.hour.toNat (YX _) (by omega)) s hs;rw[X_,U0,decide_eq_false_iff_not]at this;rcases this with h|h
  ·omega
  ·exact h
def am5{x:ak}(hx:x.Ok):aM x=((oC (x.am.toNat+1) x.hours.toNat).map (ext [x.first])).filter (x_ x):=by
 unfold aM;rw[abW _ _ _ (by simp),aaw];refine Wm λg _=> ?_;rw[asY hx];rfl
def nW (x:ak)(l:SO):List Tr:=l.flatMap λst=>if x_ x (ext [x.first] st)=true then gY x (ext [x.first] st)else[]
def LV{α β:Type}{p:α->Bool}{f:α->List β}:∀l:List α,(l.filter p).flatMap f=l.flatMap λa=>if p a=true then f a else[]
 |[]=>rfl
 |a::l=>by
  by_cases h:p a=true
  ·rw[XW h,UV,UV,LV l,if_pos h]
  ·rw[XX h,UV,LV l,if_neg h];rfl
def aam{x:ak}(hx:x.Ok):nW x (oC (x.am.toNat+1) x.hours.toNat)=bc x:=by
 unfold bc nW;rw[am5 hx,LV,W3]
def uS (h:SD)(y:aD)(t:SD):List (SD):=((FC h).filter λn=>fits h y n&& !t.contains n).map λn=>t++[n]
def aba(h:SD):∀(ys:SY)(L:SO),ys.foldl (λL y=>L.flatMap (uS h y)) L=L.flatMap (lS h ys)
 |[],L=>by
  rw[axa,show lS h []=λt=>[t]from rfl];simp
 |y::ys,L=>by
  rw[VO,aba h ys,al'];refine vw λt _=> ?_;unfold uS;rw[W3];rfl
def jG (h:SD)(ys:SY):List (SD):=ys.foldl (λL y=>L.flatMap (uS h y)) [[]]
def IX(h:SD)(ys:SY):jG h ys=lS h ys []:=by
 unfold jG;rw[aba,ZB]
def adr(h:SD)(ys:SY)(y:aD):jG h (ys++[y])=(jG h ys).flatMap (uS h y):=by
 unfold jG;rw[Xo];rfl
def uT (h ns:SD)(s:aD)(t:SE):List (SE):=((T1 ns.length).filter λp=>fits h s (ns.getD p 0)&& !t.contains p).map λp=>t++[p]
def abb(h ns:SD):∀(ss:SY)(L:List (SE)),ss.foldl (λL s=>L.flatMap (uT h ns s)) L=L.flatMap (nz h ns ss)
 |[],L=>by
  rw[axa,show nz h ns []=λt=>[t]from rfl];simp
 |s::ss,L=>by
  rw[VO,abb h ns ss,al'];refine vw λt _=> ?_;unfold uT;rw[W3];rfl
def mo (h ns:SD)(ss:SY):List (SE):=ss.foldl (λL s=>L.flatMap (uT h ns s)) [[]]
def O2(h ns:SD)(ss:SY):mo h ns ss=nz h ns ss []:=by
 unfold mo;rw[abb,ZB]
def ads(h ns:SD)(ss:SY)(s:aD):mo h ns (ss++[s])=(mo h ns ss).flatMap (uT h ns s):=by
 unfold mo;rw[Xo];rfl
end Go.Gg.Tk
namespace Go.Gg
open Go.Gg.Tk
namespace Tk
def stepJ (h:SD)(y:aD)(t:SD)(j:Nat):List (SD):=(((T1 j).map λi:Nat=>h.headD 0+(i:Int)).filter λn=>fits h y n&& !t.contains n).map λn=>t++[n]
def atU(h:SD)(y:aD)(t:SD)(j:Nat):stepJ h y t (j+1)=stepJ h y t j++if(fits h y (h.headD 0+(j:Int))&& !t.contains (h.headD 0+(j:Int)))=true then[t++[h.headD 0+(j:Int)]]else[]:=by
 unfold stepJ;rw[VW,Uq,XO,Uq];congr 1;simp only[Wd,List.map_nil,Y5,apH];split<;>rfl
def ae4(h:SD)(y:aD)(t:SD):stepJ h y t (h.getLastD 0-h.headD 0).toNat=uS h y t:=rfl
def ae5(h:SD)(y:aD)(t:SD)(j:Nat):(stepJ h y t j).length<=j:=by
 unfold stepJ;rw[Ue];refine UK (WX _ _) ?_;rw[Ue,Y4];exact Ts _
def tg (h:SD)(y:aD)(ls:SO)(i:Nat):List (SD):=(ls.take i).flatMap (uS h y)
def at7{h:SD}{y:aD}{ls:SO}{i:Nat}{t:SD}(ht:ls[i]?=some t):tg h y ls (i+1)=tg h y ls i++uS h y t:=by
 unfold tg;rw[UZ,ht,Vf];simp
def yS{α β:Type}{f:α->List β}{m:Nat}:∀{l:List α},(∀a∈l,(f a).length<=m)->(l.flatMap f).length<=l.length* m
 |[],_=>by simp
 |a::l,h=>by
  have h1:=h a (by simp);have h2:=yS (l:=l) λb hb=>h b (by simp[hb]);rw[UV,Tt,Ve,Wu];omega
def ae8{h:SD}(hs:h.getLastD 0-h.headD 0<=9)(y:aD)(t:SD):(uS h y t).length<=9:=by
 rw[<- ae4];have:=ae5 h y t (h.getLastD 0-h.headD 0).toNat;omega
def IY{h:SD}(hs:h.getLastD 0-h.headD 0<=9):∀n ys,ab' ys=n->(jG h ys).length<=9^n
 |0,ys,e=>by
  obtain rfl:=VG e;exact Ts 1
 |n+1,ys,e=>by
  have aF:ys≠[]:=λh=>by rw[h]at e;cases e
  rw[<- Y6 aF,adr];have h1:=IY hs n ys.dropLast (by rw[ZP];omega);have h2:=yS (l:=jG h ys.dropLast) (f:=uS h (ys.getLast aF)) λt _=>ae8 hs _ t;rw[axf];exact UK h2 (UI _ h1)
def at6{h:SD}(hs:h.getLastD 0-h.headD 0<=9)(y:aD)(ls:SO)(i:Nat):(tg h y ls i).length<=ls.length* 9:=by
 have h2:=yS (l:=ls.take i) (f:=uS h y) λt _=>ae8 hs _ t;have h3:(ls.take i).length<=ls.length:=by rw[Ux];omega
 exact UK h2 (UI _ h3)
def apV{h:SD}{ys:SY}{p:Nat}{y:aD}(hy:ys[p]?=some y):jG h (ys.take (p+1))=tg h y (jG h (ys.take p)) (jG h (ys.take p)).length:=by
 rw[UZ,hy];unfold tg;rw[Un];exact adr _ _ _
def Aj (h ns:SD)(s:aD)(t:SE)(j:Nat):List (SE):=((T1 j).filter λp=>fits h s (ns.getD p 0)&& !t.contains p).map λp=>t++[p]
def atV(h ns:SD)(s:aD)(t:SE)(j:Nat):Aj h ns s t (j+1)=Aj h ns s t j++if(fits h s (ns.getD j 0)&& !t.contains j)=true then[t++[j]]else[]:=by
 unfold Aj;rw[VW,XO,Uq];congr 1;simp only[Y5,apH];split<;>rfl
def ae6(h ns:SD)(s:aD)(t:SE):Aj h ns s t ns.length=uT h ns s t:=rfl
def ae7(h ns:SD)(s:aD)(t:SE)(j:Nat):(Aj h ns s t j).length<=j:=by
 unfold Aj;rw[Ue];refine UK (WX _ _) ?_;rw[Y4];exact Ts _
def th (h ns:SD)(s:aD)(ls:List (SE))(i:Nat):List (SE):=(ls.take i).flatMap (uT h ns s)
def aub{h ns:SD}{s:aD}{ls:List (SE)}{i:Nat}{t:SE}(ht:ls[i]?=some t):th h ns s ls (i+1)=th h ns s ls i++uT h ns s t:=by
 unfold th;rw[UZ,ht,Vf];simp
def ae9{h ns:SD}(hs:ns.length<=4)(s:aD)(t:SE):(uT h ns s t).length<=4:=by
 rw[<- ae6];have:=ae7 h ns s t ns.length;omega
def IZ{h ns:SD}(hs:ns.length<=4):∀n ys,ab' ys=n->(mo h ns ys).length<=4^n
 |0,ys,e=>by
  obtain rfl:=VG e;exact Ts 1
 |n+1,ys,e=>by
  have aF:ys≠[]:=λh=>by rw[h]at e;cases e
  rw[<- Y6 aF,ads];have h1:=IZ (h:=h) hs n ys.dropLast (by rw[ZP];omega);have h2:=yS (l:=mo h ns ys.dropLast) (f:=uT h ns (ys.getLast aF)) λt _=>ae9 hs _ t;rw[axf];exact UK h2 (UI _ h1)
def aua{h ns:SD}(hs:ns.length<=4)(s:aD)(ls:List (SE))(i:Nat):(th h ns s ls i).length<=ls.length* 4:=by
 have h2:=yS (l:=ls.take i) (f:=uT h ns s) λt _=>ae9 hs _ t;have h3:(ls.take i).length<=ls.length:=by rw[Ux];omega
 exact UK h2 (UI _ h3)
def apW{h ns:SD}{ss:SY}{p:Nat}{s:aD}(hs:ss[p]?=some s):mo h ns (ss.take (p+1))=th h ns s (mo h ns (ss.take p)) (mo h ns (ss.take p)).length:=by
 rw[UZ,hs];unfold th;rw[Un];exact ads _ _ _ _
def mE (x:ak)(h:SD)(ls:SO)(i:Nat):List Tr:=(ls.take i).flatMap (tu x h)
def ajV{x:ak}{h:SD}{ls:SO}{i:Nat}{t:SD}(ht:ls[i]?=some t):mE x h ls (i+1)=mE x h ls i++tu x h t:=by
 unfold mE;rw[UZ,ht,Vf];simp
def auY{x:ak}{h t:SD}(ht:t.length<=4)(hx:x.aC.length<=3):(tu x h t).length<=64:=by
 unfold tu;rw[Ue,<- O2];refine UK (IZ ht _ _ rfl) ?_;exact VY (by decide) hx
def aan{x:ak}{h:SD}{ls:SO}(hl:∀t∈ls,t.length<=4)(hx:x.aC.length<=3)(i:Nat):(mE x h ls i).length<=ls.length* 64:=by
 have h2:=yS (l:=ls.take i) (f:=tu x h) λt ht=>auY (hl t (W5 ht)) hx;have h3:(ls.take i).length<=ls.length:=by rw[Ux];omega
 exact UK h2 (UI _ h3)
def afN(x:ak)(h:SD):gY x h=mE x h (jG h x.pieces) (jG h x.pieces).length:=by
 unfold mE gY;rw[Un,IX]
end Tk
open Go.Conc Go.Proofs Go.Gg.Tk
noncomputable def yH:U_:=ZW.body.getD .skip
section
variable {lv:Bool}{H:SA}{k kp:SF}
def aaM{xs:SD}{e:End}(hl:xs.length<=2^30)(hk:k (.sl xs.length (xs.map iv) (.opn H.length)) (H++[.tail xs.length 1 3])):ba lv S_ 76 H [.sl xs.length (xs.map iv) e] k kp:=by
 refine bH (rs:=[.tmp 2]) (nt:=6) Tryz.f76 λhH hA=> ?_;simp only[bm,Tu];have hlen:(xs.map iv).length=xs.length:=by simp
 have Is:(xs.map iv).take xs.length=xs.map iv:=Tx (by omega);refine ah ?_;refine ab ?_;simp only[seval,Is,hlen];refine⟨hl,?_⟩;refine aT ?_;exact b8 hk
structure Gn (x:ak)(h:SD):Prop where
 len:(h.length:Int)=x.hours+1
 mono:qE h
 span:h.getLastD 0-h.headD 0<=9
 head:0<=h.headD 0/\h.headD 0<=90
def Tc{x:ak}:U4 4 x.l=[aR x.pieces,aR x.aC]:=rfl
def akI{x:ak}{h:SD}{Ψ:SI}(hx:x.Ok)(hh:Gn x h)(hH:bJ H):
  aS lv S_ none 155 (cs (cf (jf 2 yH))) ⟨[(6,iv 0),(5,.sl 1 [.sl 0 [] .exact] .exact),(2,.op H.length 0),(1,aO h)],H++[.cells x.l 26]⟩ (an.then (λs'=>∃_:Unit,True/\s'.Sub ⟨[(5,lr (jG h x.pieces)),(2,.op H.length 0),(1,aO h)],H++[.cells x.l 26]⟩) Ψ):=by
 have um:=hx.hours;have ou:=hx.dQ;have hlen:=hh.len;have acw:=hh.span;have amY:=hh.head;have hf:=λ(y:aD) (n:Int)=>aaW (h:=h) (y:=y) (n:=n) (by omega) (by omega) hh.mono;obtain⟨h0,Ep⟩:=bA (xs:=h) (i:=0) (by omega);have hhd:h.headD 0=h0:=by cases h with|nil=>cases Ep|cons a l=>cases Ep;rfl
 obtain⟨hN,HU⟩:=bA (xs:=h) (i:=x.hours.toNat) (by omega);have fC:h.getLastD 0=hN:=by
  rw[WB,Zv,show h.length-1=x.hours.toNat by omega,HU];rfl
 rw[hhd]at amY;obtain⟨B,hB⟩:∃B,B=H++[.cells x.l 26]:=⟨_,rfl⟩;have bN:∀L:SA,(B++L)[H.length]?=some (.cells x.l 26):=λL=>by rw[hB,Te];exact aW H _ 0
 have bn0:B[H.length]?=some (.cells x.l 26):=by have:=bN [];rwa[To]at this
 have bg:∀(L:SA),(B++L)[B.length]?=L[0]?:=λL=>aW B L 0;have bs:∀(L:SA)(y:aa),(B++L).set B.length y=B++L.set 0 y:=λL y=>dB B L 0 y;have kQ:bJ B:=by rw[hB];exact BD hH λz hz m=>by rw[Ub.1 hz];exact Fv m x
 rw[<- hB];have sQ:(0:Int)<=x.hours:=by omega
 obtain⟨hr,Er⟩:∃hr:Nat,x.hours=hr:=⟨x.hours.toNat,by omega⟩;have NO:x.hours.toNat=hr:=by omega
 rw[NO]at HU;have qU:((0:Int)<=0/\(0:Int)<h.length)=True:=by simp;omega
 have aml:((0:Int)<h.length)=True:=by simp;omega
 have HI:(0<=(hr:Int)/\(hr:Int)<h.length)=True:=by simp;omega
 have hsN:AV.shift (hr* 1) (.rp (h.map iv))=some (.rp (iv hN::(h.drop (hr+1)).map iv)):=by rw[YE];exact dp HU
 obtain⟨M,hM⟩:∃M:Nat,(h.getLastD 0-h.headD 0).toNat=M:=⟨_,rfl⟩;have hM9:M<=9:=by omega
 unfold yH ZW;dsimp only[Ua,jf,cs,cf];refine bF ?_;refine ej x.pieces.length (λp:Nat=>[(5,lr (jG h (x.pieces.take p))),(6,iv p)]) (λ_=>B) (λ_=>True) (λ_ _=>rfl) (by simp only[seval];simp only[bh,Wk.refl,and_true];exact QD (.cons (ff _ _ _) .nil)) rfl (λ_ _ _=>rfl) trivial (λbz bE p EE _ R hR=> ?_);clear bz bE;refine ab ?_;simp only[seval,bn0,Tc,aR];refine aB ?_;refine⟨λhc=> ?_,λhc=> ?_⟩
 ·have cr:p<x.pieces.length:=by omega
  have bK:=TN p (by omega)
  obtain⟨y,hy⟩:=bA cr;have hbp:(0<=(p:Int)/\(p:Int)<x.pieces.length)=True:=by simp;omega
  have pf:=Cu hy;have fI:=IY (h:=h) acw p (x.pieces.take p) (by rw[Ux];omega);have H5:(jG h (x.pieces.take p)).length<=729:=UK fI (VY (by decide) (show p<=3 by omega));have aH:=apV (h:=h) hy;rw[aH]at hR;have acD:∀t∈jG h (x.pieces.take p),t.length<2^20:=λt ht=>by
   rw[IX]at ht;have:=FE ht;rw[Ux]at this;simp at this;omega
  generalize jG h (x.pieces.take p)=ls at H5 acD hR⊢;clear fI aH;refine aE ?_;refine ah ?_
  (repeat apply fu);refine nh (t:=7) (sz:=1) (el:=22) (by simp only[seval]<;>rfl) ?_
  simp only[seval];refine ah ?_;refine bF ?_;refine ej ls.length (λi:Nat=>[(7,.sl (tg h y ls i).length ((tg h y ls i).map aO) (.opn B.length)),(8,iv i)]) (λi=>B++[.tail (tg h y ls i).length 1 22]) (λ_=>True) (λ_ _=>rfl) (by simp only[seval];simp[bh,Wk.refl];exact Wk.refl _) rfl (λ_ _ _=>by simp) trivial (λbz bE i ce _ R2 eY=> ?_);clear bz bE;have oz:=at6 (h:=h) acw y ls i;refine ab ?_;simp only[seval,lr];refine aB ?_;refine⟨λbZ=> ?_,λbZ=> ?_⟩
  ·have bk:i<ls.length:=(by omega);have c_:=TN i (by omega);obtain⟨t,ht⟩:=bA bk;have dV:(0<=(i:Int)/\(i:Int)<ls.length)=True:=(by simp;omega);have sM:=at7 (h:=h) (y:=y) ht;rw[sM]at eY;have zA:=λj=>ae5 h y t j;have uw:=ae4 h y t;rw[hM]at uw;rw[<- uw]at eY;have cU:=λj=>atU h y t j;rw[hhd]at cU;generalize tg h y ls i=L0 at oz eY⊢;generalize stepJ h y t=J at zA cU eY;have DY:J 0=[]:=VG (by have:=zA 0;omega);clear sM uw;refine aE ?_;refine ab ?_;simp only[seval,aO,dp Ep,qU,aml];refine bF ?_;refine ej M (λj:Nat=>[(7,.sl (L0++J j).length ((L0++J j).map aO) (.opn B.length)),(9,iv (h0+j))]) (λj=>B++[.tail (L0++J j).length 1 22]) (λ_=>True) (λ_ _=>rfl) (by rw[DY,To];simp only[seval];simp[bh,Wk.refl]) (by rw[DY,To]) (λ_ _ _=>by simp) trivial (λbz bE j mI _ R3 gK=> ?_);have an7:=zA j;have xL:=cU j;have Ev:(L0++J j).length<=8000:=(by rw[Tt];omega);refine ab ?_;simp only[seval,bN,Ta,Er,dp HU,HI];refine aB ?_;refine⟨λcQ=> ?_,λcQ=> ?_⟩
   ·have dW:j<M:=(by omega);have iX:Tg.wrap (h0+(j:Int)+1)=h0+((j+1:Nat):Int):=(by rw[a_ _ (by omega)];omega);refine aE ?_;refine ab ?_;simp only[seval,bN,Tc,aR,pf,hbp];refine aG (Ly (h:=h) (y:=y) (n:=h0+(j:Int)) (by omega) ?_);rw[hf y];cases j_:fits h y (h0+(j:Int))with
    |false=>
     have si:J (j+1)=J j:=(by rw[xL,j_];simp);(try simp only[seval]);refine aB ?_;refine aE ?_;refine ab ?_;simp only[seval,iX];refine gK _ ⟨dW,trivial,?_⟩;rw[si];exact bX
    |true=>
     have ox:t.length<2^20:=acD t (T8 ht);(try simp only[seval,wF ht,dV,aO]);refine aG (akw (xs:=t) (by omega) λv hv _ _=> ?_);(try simp only[seval]);refine aB ?_;refine⟨λjV=> ?_,λjV=> ?_⟩
     ·have re:(h0+(j:Int))∉t:=λhm=>by have:=hv.2 hm;first|omega|(simp at jV;omega)
      have si:L0++J (j+1)=(L0++J j)++[t++[h0+(j:Int)]]:=(by rw[xL,j_];simp[re]);rw[si]at gK;generalize L0++J j=W at Ev gK⊢;have ub:(W.map aO).length=W.length:=Ue _;refine ab ?_;simp only[seval,wF ht,dV,aO];refine aG (aaM (xs:=t) (by omega) ?_);(try simp only[seval,z1,uN,wL,bg,bs,ub]);refine⟨by omega,by omega,?_⟩;refine ab ?_;simp only[seval,iX];refine gK _ ⟨dW,trivial,?_⟩;rw[Tt,UJ,Uq];refine qy [.tail (t.length+1) 1 3] (jZ rfl rfl) ?_ (EC kQ _ _ _) ?_ (by simp)
      ·(try simp only[seval]);exact⟨⟨_,rfl,have h:=F8 (l:=W.map aO) (show Wk (.sl (t.length+1) (t.map iv++[iv (h0+(j:Int))]) (.opn (B.length+1))) (aO (t++[h0+(j:Int)])) by rw[aO,Tt,Uq];exact ff _ _ _);Ap h.len h.at⟩,_,rfl,Wk.refl _⟩
      ·rw[<- Uq];simp only[VQ,dj,Fu,iv];simp
     ·have re:(h0+(j:Int))∈t:=hv.1 (by first|omega|(simp at jV;omega));have si:J (j+1)=J j:=(by rw[xL,j_];simp[re]);refine aE ?_;refine ab ?_;simp only[seval,iX];refine gK _ ⟨dW,trivial,?_⟩;rw[si];exact bX
   ·have eC:j=M:=(by omega);subst eC;refine bD ?_;refine ab ?_;simp only[seval,c_];refine eY _ ⟨bk,trivial,bX⟩
  ·have eC:i=ls.length:=(by omega);subst eC;refine bD ?_;refine ah ?_;refine ab ?_;simp only[seval,bK];refine hR _ ⟨cr,trivial,?_⟩;refine qy [.tail (tg h y ls ls.length).length 1 22] (jZ rfl rfl) ?_ kQ ?_ rfl
   ·(try simp only[seval]);simp only[bh,Wk.refl,and_true];exact ff _ _ _
   ·simp only[VQ,dj,B6,iv];simp
 ·have eC:p=x.pieces.length:=by omega
  subst eC;rw[Un];refine bD ?_;exact⟨(),dY (by simp only[seval];simp[bh,Wk.refl]) rfl⟩
end
namespace Tk
def nl (os:SE):SD:=os.map λn:Nat=>(n:Int)
def Tr.al (u:Tr):SC:=[aO u.aK,aO u.ap,aO (nl u.bR)]
def lR (ls:List (SE)):SC:=ls.map λt=>aO (nl t)
end Tk
def Tr.GD(u:Tr):u.al.length=3:=rfl
def zA3:gZ (UC #[UO none 0 0,UO none 0 0,UO none 0 0]) 3=[.sl 0 [] .exact,.sl 0 [] .exact,.sl 0 [] .exact]:=rfl
def aqY:(3<=2^24)=True:=eq_true (by decide)
def Pa(ls:List (SE)):(lR ls).length=ls.length:=Ue _
def P9{ls:List (SE)}{i:Nat}{t:SE}(h:ls[i]?=some t):AV.shift i (.rp (lR ls))=some (.rp (aO (nl t)::lR (ls.drop (i+1)))):=by
 have:=Qb (f:=λt=>aO (nl t)) h;rwa[YE]at this
def sW(t:SE):(nl t).length=t.length:=Ue _
def aqp{t:SE}{j:Nat}:((j:Nat):Int)∈nl t<->j∈t:=by
 unfold nl;rw[Uo];constructor
 ·rintro⟨a,h,e⟩
  have:a=j:=by omega
  rw[<- this];exact h
 ·exactλh=>⟨j,h,rfl⟩
def apS(n m k:Nat)(ls:List (SE)):Lt n (.sl m (lR ls) (.opn k))=(k<n):=by
 have e:lR ls=(ls.map nl).map aO:=by unfold lR;rw[XN];rfl
 rw[e];exact Fu n m k _
def apU(n m:Nat)(ls:List (SE)):Lt n (.sl m (lR ls) .shut)=True:=by
 have e:lR ls=(ls.map nl).map aO:=by unfold lR;rw[XN];rfl
 rw[e,pq];have:=B6 n (ls.map nl);rw[lr,pq]at this;exact this
section
variable {lv:Bool}{H:SA}{k kp:SF}
def akx{o:SE}{n:Int}{e:End}(hl:o.length<2^20)(hk:k (iv (rW (nl o) n)) H):ba lv S_ 27 H [.sl o.length ((nl o).map iv) e,iv n] k kp:=by
 have:=aaB (lv:=lv) (H:=H) (k:=k) (kp:=kp) (xs:=nl o) (n:=n) (e:=e) (by rw[sW];omega) hk;rwa[sW]at this
def akY{o:SE}{e:End}(hl:o.length<2^20)(hk:k (.sl o.length ((nl o).map iv) (.opn H.length)) (H++[.tail o.length 1 3])):ba lv S_ 76 H [.sl o.length ((nl o).map iv) e] k kp:=by
 have:=aaM (lv:=lv) (H:=H) (k:=k) (kp:=kp) (xs:=nl o) (e:=e) (by rw[sW];omega) (by rw[sW];exact hk);rwa[sW]at this
abbrev TL:=List Tr
def akJ{x:ak}{h:SD}{ls:SO}{Ψ:SI}(hx:x.Ok)(hh:Gn x h)(hH:bJ H)(hls:ls.length<=6561)(hlt:∀t∈ls,t.length=x.pieces.length):
  aS lv S_ none 155 (cs (cf (jf 4 yH))) ⟨[(11,iv 0),(10,.sl 0 [] (.opn (H.length+1))),(5,lr ls),(2,.op H.length 0),(1,aO h)],H++[.cells x.l 26,.tail 0 3 39]⟩ (an.then (λs'=>∃_:Unit,True/\s'.Sub ⟨[(10,.sl (mE x h ls ls.length).length ((mE x h ls ls.length).flatMap Tr.al) (.opn (H.length+1)))],H++[.cells x.l 26,.tail (mE x h ls ls.length).length 3 39]⟩) Ψ):=by
 have um:=hx.hours;have ou:=hx.dQ;have aP:=hx.dC;have hlen:=hh.len;have hf:=λ(y:aD) (n:Int)=>aaW (h:=h) (y:=y) (n:=n) (by omega) (by omega) hh.mono;have n_:U4 5 x.l=[aR x.aC]:=rfl;have bN:∀L:SA,(H++L)[H.length]?=L[0]?:=λL=>aW H L 0;have aq:∀o,(∀m,e9 m o)->bJ (H++[.cells x.l 26,o]):=λo ho=>BD hH λz hz m=>by
  simp only[Tm,T7,or_false]at hz;rcases hz with rfl|rfl
  ·exact Fv m x
  ·exact ho m
 obtain⟨B,hB⟩:∃B:Nat->SA,∀m,B m=H++[.cells x.l 26,.tail m 3 39]:=⟨_,λ_=>rfl⟩;have c9:∀m,(B m).length=H.length+2:=λm=>by rw[hB];simp
 have b0:∀m L,(B m++L)[H.length]?=some (.cells x.l 26):=λm L=>by rw[hB,Te,bN];rfl
 have KI:∀m,(B m)[H.length]?=some (.cells x.l 26):=λm=>by rw[hB,bN];rfl
 have b1:∀m,(B m)[H.length+1]?=some (.tail m 3 39):=λm=>by rw[hB,aW];rfl
 have s1:∀m m',(B m).set (H.length+1) (.tail m' 3 39)=B m':=λm m'=>by rw[hB,hB,dB];rfl
 have bg:∀m (L:SA),(B m++L)[H.length+2]?=L[0]?:=λm L=>by rw[<- c9 m];exact aW (B m) L 0
 have bs:∀m (L:SA)(y:aa),(B m++L).set (H.length+2) y=B m++L.set 0 y:=λm L y=>by rw[<- c9 m];exact dB (B m) L 0 y
 have kQ:∀m,bJ (B m):=λm=>by rw[hB];exact aq _ λ_=>trivial
 have abQ:mE x h ls 0=[]:=rfl;rw[<- hB 0,<- hB];unfold yH ZW;dsimp only[Ua,jf,cs,cf];refine bF ?_;refine ej ls.length (λi:Nat=>[(10,.sl (mE x h ls i).length ((mE x h ls i).flatMap Tr.al) (.opn (H.length+1))),(11,iv i)]) (λi=>B (mE x h ls i).length) (λ_=>True) (λ_ _=>rfl) (by rw[abQ];simp only[seval];simp[bh,Wk.refl]) (by rw[abQ];rfl) (λ_ _ _=>by rw[c9,c9]) trivial (λbz bE i ce _ R hR=> ?_);clear bz bE;have N5:=aan (h:=h) (λt ht=>by rw[hlt t ht];exact ou) aP i;refine ab ?_;simp only[seval,lr];refine aB ?_;refine⟨λhc=> ?_,λhc=> ?_⟩
 ·have bk:i<ls.length:=by omega
  have bK:=TN i (by omega)
  obtain⟨t,ht⟩:=bA bk;have ox:=hlt t (T8 ht);have dV:(0<=(i:Int)/\(i:Int)<ls.length)=True:=by simp;omega
  have Bu:=ajV (x:=x) (h:=h) ht;rw[Bu]at hR;generalize mE x h ls i=E at N5 hR⊢;clear Bu;refine aE ?_;refine ab ?_;simp only[seval,wL,z9];refine ah ?_;refine bF ?_;refine ej x.aC.length (λs:Nat=>[(12,.sl (mo h t (x.aC.take s)).length (lR (mo h t (x.aC.take s))) .shut),(13,iv s)]) (λ_=>B E.length) (λ_=>True) (λ_ _=>rfl) (by simp only[seval];simp only[bh,Wk.refl,and_true];exact QD (.cons (ff _ _ _) .nil)) rfl (λ_ _ _=>rfl) trivial (λbz bE s xK _ R2 eY=> ?_);clear bz bE;refine ab ?_;simp only[seval,KI,n_,aR];refine aB ?_;refine⟨λbZ=> ?_,λbZ=> ?_⟩
  ·have cu:s<x.aC.length:=(by omega);have c_:=TN s (by omega);obtain⟨y,hy⟩:=bA cu;have HK:(0<=(s:Int)/\(s:Int)<x.aC.length)=True:=(by simp;omega);have pf:=Cu hy;have rf:=IZ (h:=h) (ns:=t) (by omega) s (x.aC.take s) (by rw[Ux];omega);have NB:(mo h t (x.aC.take s)).length<=16:=UK rf (VY (by decide) (show s<=2 by omega));have hot:∀o∈mo h t (x.aC.take s),o.length<2^20:=λo ho=>by
    rw[O2]at ho;have:=(Pl ho (by simp)).1;rw[Ux]at this;simp only[VL]at this;omega
   have aH:=apW (h:=h) (ns:=t) hy;rw[aH]at eY;generalize mo h t (x.aC.take s)=os at NB hot eY⊢;clear rf aH;refine aE ?_;refine ah ?_
   (repeat apply fu);refine nh (t:=14) (sz:=1) (el:=22) (by simp only[seval]<;>rfl) ?_
   simp only[seval,c9];refine ah ?_;refine bF ?_;refine ej os.length (λq:Nat=>[(14,.sl (th h t y os q).length (lR (th h t y os q)) (.opn (H.length+2))),(15,iv q)]) (λq=>B E.length++[.tail (th h t y os q).length 1 22]) (λ_=>True) (λ_ _=>rfl) (by simp only[seval];simp[bh,Wk.refl];exact Wk.refl _) rfl (λ_ _ _=>by simp) trivial (λbz bE q uu _ R3 gK=> ?_);clear bz bE;have oz:=aua (h:=h) (ns:=t) (by omega) y os q;refine ah ?_;refine aB ?_;refine⟨λcQ=> ?_,λcQ=> ?_⟩
   ·have fJ:q<os.length:=(by omega);have iX:=TN q (by omega);obtain⟨o,ho⟩:=bA fJ;have BG:=hot o (T8 ho);have oV:(0<=(q:Int)/\(q:Int)<os.length)=True:=(by simp;omega);have sM:=aub (h:=h) (ns:=t) (s:=y) ho;rw[sM]at gK;have zA:=λj=>ae7 h t y o j;have uw:=ae6 h t y o;rw[ox]at uw;rw[<- uw]at gK;have cU:=λj=>atV h t y o j;generalize th h t y os q=L0 at oz gK⊢;generalize Aj h t y o=J at zA cU gK;have DY:J 0=[]:=VG (by have:=zA 0;omega);clear sM uw;refine aE ?_;refine ah ?_;refine bF ?_;refine ej x.pieces.length (λj:Nat=>[(14,.sl (L0++J j).length (lR (L0++J j)) (.opn (H.length+2))),(16,iv j)]) (λj=>B E.length++[.tail (L0++J j).length 1 22]) (λ_=>True) (λ_ _=>rfl) (by rw[DY,To];simp only[seval];simp[bh,Wk.refl]) (by rw[DY,To]) (λ_ _ _=>by simp) trivial (λbz bE j mI _ R4 D3=> ?_);have an7:=zA j;have xL:=cU j;have Ev:(L0++J j).length<=100:=(by rw[Tt];omega);refine ab ?_;simp only[seval,b0,Tc,aR];refine aB ?_;refine⟨λjV=> ?_,λjV=> ?_⟩
    ·have dW:j<x.pieces.length:=(by omega);have uz:=TN j (by omega);obtain⟨n,hn⟩:=bA (xs:=t) (i:=j) (by omega);have xB:t.getD j 0=n:=(by rw[Tf,hn];rfl);rw[xB]at xL;have kS:(0<=(j:Int)/\(j:Int)<(t.length:Int))=True:=(by simp;omega);refine aE ?_;refine bF ?_;cases j_:fits h y n with
     |false=>
      have si:J (j+1)=J j:=(by rw[xL,j_];simp);refine eA 23 ?_;simp only[seval,b0,n_,aR,pf,HK,wF ht,dV,dp hn,kS,aO];refine fE (bv false) (cP (Ly (h:=h) (y:=y) (n:=n) (by omega) ⟨by rw[hf,j_],rfl⟩)) ?_;(try simp only[seval]);refine aB ?_;refine aE ?_;refine ab ?_;simp only[seval,uz];refine D3 _ ⟨dW,trivial,?_⟩;rw[si];exact bX
     |true=>
      refine eA 23 ?_;simp only[seval,b0,n_,aR,pf,HK,wF ht,dV,dp hn,kS,aO];refine fE (bv true) (cP (Ly (h:=h) (y:=y) (n:=n) (by omega) ⟨by rw[hf,j_],rfl⟩)) ?_;have aj:=(GH (nl o) j).1;(try simp only[seval,P9 ho,oV,Pa,aO,sW]);refine fE (iv (rW (nl o) j)) (cP (akx (o:=o) BG ⟨rfl,rfl⟩)) ?_;rw[aqp]at aj;generalize rW (nl o) j=v at aj⊢;(try simp only[seval]);refine aB ?_;refine⟨λcj=> ?_,λcj=> ?_⟩
      ·have re:j∉o:=λhm=>by have:=aj.2 hm;first|omega|(simp at cj;omega)
       have si:L0++J (j+1)=(L0++J j)++[o++[j]]:=(by rw[xL,j_];simp[re]);rw[si]at D3;generalize L0++J j=W at Ev D3⊢;have ub:=Pa W;refine ab ?_;simp only[seval,P9 ho,oV,aO,sW];refine aG (akY (o:=o) BG ?_);(try simp only[seval,z1,uN,wL,bg,bs,ub,sW]);refine⟨by omega,by omega,?_⟩;refine ab ?_;simp only[seval,uz];refine D3 _ ⟨dW,trivial,?_⟩;rw[Tt,UJ,show lR (W++[o++[j]])=lR W++[aO (nl (o++[j]))] by unfold lR;rw[Uq];rfl];refine qy [.tail (o.length+1) 1 3] (jZ rfl rfl) ?_ (EC (kQ _) _ _ _) ?_ (by simp)
       ·(try simp only[seval]);exact⟨⟨_,rfl,have h:=F8 (l:=lR W) (show Wk (.sl (o.length+1) ((nl o).map iv++[iv (j:Int)]) (.opn ((B E.length).length+1))) (aO (nl (o++[j]))) by rw[aO,sW,Tt,show nl (o++[j])=nl o++[(j:Int)] by unfold nl;rw[Uq];rfl,Uq];exact ff _ _ _);Ap h.len h.at⟩,_,rfl,Wk.refl _⟩
       ·rw[show lR W++[aO (nl (o++[j]))]=lR (W++[o++[j]]) by unfold lR;rw[Uq];rfl];simp only[VQ,dj,apS,iv];simp[c9]
      ·have re:j∈o:=aj.1 (by first|omega|(simp at cj;omega));have si:J (j+1)=J j:=(by rw[xL,j_];simp[re]);refine aE ?_;refine ab ?_;simp only[seval,uz];refine D3 _ ⟨dW,trivial,?_⟩;rw[si];exact bX
    ·have eC:j=x.pieces.length:=(by omega);subst eC;refine bD ?_;refine ab ?_;simp only[seval,iX];refine gK _ ⟨fJ,trivial,bX⟩
   ·have eC:q=os.length:=(by omega);subst eC;refine bD ?_;refine ah ?_;refine ab ?_;simp only[seval,c_];refine eY _ ⟨cu,trivial,?_⟩;refine qy [.tail (th h t y os os.length).length 1 22] (jZ rfl rfl) ?_ (kQ _) ?_ rfl
    ·(try simp only[seval]);simp only[bh,Wk.refl,and_true];exact ff _ _ _
    ·simp only[VQ,dj,apU,iv];simp
  ·have eC:s=x.aC.length:=(by omega);subst eC;rw[Un];refine bD ?_;refine ah ?_;have rf:=IZ (h:=h) (ns:=t) (by omega) _ x.aC rfl;have NB:(mo h t x.aC).length<=64:=UK rf (VY (by decide) aP);have re:tu x h t=(mo h t x.aC).map λos=>⟨h,t,os⟩:=(by rw[O2];rfl);rw[re]at hR;generalize mo h t x.aC=os at NB hR⊢;clear rf re;obtain⟨mk,mK⟩:∃mk:Nat->TL,∀q,mk q=(os.take q).map λo=>⟨h,t,o⟩:=⟨_,λ_=>rfl⟩;have eB:mk 0=[]:=(by rw[mK];rfl);have Ew:mk os.length=os.map λo=>⟨h,t,o⟩:=(by rw[mK,Un]);have sH:∀q,q<=os.length->(mk q).length=q:=λq hq=>(by rw[mK,Ue,Ux];omega);refine bF ?_;refine ej os.length (λq:Nat=>[(10,.sl (E++mk q).length ((E++mk q).flatMap Tr.al) (.opn (H.length+1))),(17,iv q)]) (λq=>B (E++mk q).length) (λ_=>True) (λ_ _=>rfl) (by rw[eB,To];simp only[seval];simp[bh,Wk.refl]) (by rw[eB,To]) (λ_ _ _=>by rw[c9,c9]) trivial (λbz bE q uu _ R5 Mu=> ?_);clear bz bE;refine ah ?_;refine aB ?_;refine⟨λcj=> ?_,λcj=> ?_⟩
   ·have fJ:q<os.length:=(by omega);have N7:=TN q (by omega);obtain⟨o,ho⟩:=bA fJ;have oV:(0<=(q:Int)/\(q:Int)<os.length)=True:=(by simp;omega);have oi:E++mk (q+1)=(E++mk q)++[⟨h,t,o⟩]:=(by rw[mK,mK,UZ,ho];simp);have ane:(E++mk q).length<=2^20:=(by rw[Tt,sH q (by omega)];omega);rw[oi]at Mu;generalize E++mk q=W at ane Mu⊢;have ub:(W.flatMap Tr.al).length=W.length* 3:=zQ Tr.GD _;refine aE ?_;refine bF ?_;refine lY [12] (T1 14) (λD=>bif isDone 12 D then B (W.length+1)else B W.length) ?_;simp only[seval,zA3,aqY,wF ht,dV,P9 ho,oV,b1,s1,ub,aO,Pa,sW];refine⟨by omega,?_⟩;refine ab ?_;simp only[seval,N7];refine Mu _ ⟨fJ,trivial,?_⟩;rw[Tt,UJ,Vf,show ([⟨h,t,o⟩]:TL).flatMap Tr.al=[.sl h.length (h.map iv) .shut,.sl t.length (t.map iv) .shut,.sl o.length ((nl o).map iv) .shut] by simp[Tr.al,aO,sW]];exact bX
   ·have eC:q=os.length:=(by omega);subst eC;refine bD ?_;rw[Ew]at*;refine ab ?_;simp only[seval,bK];refine hR _ ⟨bk,trivial,bX⟩
 ·have eC:i=ls.length:=by omega
  subst eC;refine bD ?_;exact⟨(),dY (by simp only[seval];simp[bh,Wk.refl]) rfl⟩
end
open Go.Gg.Tk
namespace Tk
def aav{first:Int}{st:SD}{i:Nat}{a:Int}(h:st[i]?=some a):ext [first] (st.take (i+1))=ext [first] (st.take i)++[(ext [first] (st.take i)).getLastD 0+a]:=by
 rw[UZ,h];exact aau _ _ _
def G8{first am:Int}{st:SD}(hs:∀a∈st,0<=a/\a<=am):∀i,i<=st.length->nF first am (ext [first] (st.take i)) i
 |0,_=>⟨rfl,rfl,λj hj=>absurd hj (by omega)⟩
 |i+1,hi=>by
  have ih:=G8 (first:=first) hs i (by omega);obtain⟨a,ha⟩:=bA (xs:=st) (i:=i) (by omega);have ud:=hs a (T8 ha);rw[aav ha,zN ih];generalize ext [first] (st.take i)=l at ih⊢;have hl:=ih.len;refine⟨by rw[Tt,hl];rfl,?_,λj hj=> ?_⟩
  ·rw[xg (by omega)];exact ih.head
  ·by_cases e:j=i
   ·subst e;rw[abj hl,xg (by omega)];omega
   ·rw[xg (by omega),xg (by omega)];exact ih.step j (by omega)
def ajS(x:ak)(l:SO)(st:SD):nW x (l++[st])=nW x l++if x_ x (ext [x.first] st)=true then gY x (ext [x.first] st)else[]:=by
 unfold nW;rw[Vf];simp
def aal{x:ak}{m:Nat}:∀{l:SO},(∀st∈l,(gY x (ext [x.first] st)).length<=m)->(nW x l).length<=l.length* m:=λ{l} h=>by
 unfold nW;refine yS λst hs=> ?_;split
 ·exact h st hs
 ·exact YX _
def afO{x:ak}{h:SD}(hx:x.Ok)(hs:h.getLastD 0-h.headD 0<=9):(gY x h).length<=419904:=by
 have hp:=hx.dQ;rw[afN];have h1:=IY hs _ x.pieces rfl;have h2:(jG h x.pieces).length<=6561:=UK h1 (VY (by decide) hp);have h3:=aan (x:=x) (h:=h) (ls:=jG h x.pieces) (λt ht=>by
  rw[IX]at ht;have:=FE ht;simp only[VL]at this;omega) hx.dC (jG h x.pieces).length
 omega
end Tk
open Go.Conc Go.Proofs Go.Gg.Tk
noncomputable def c17:U_:=axR.body.getD .skip
namespace Tk
def nd (l:TL):AV:=.sl l.length (l.flatMap Tr.al) .shut
end Tk
def O0(n:Nat)(l:TL):Lt n (nd l)=True:=by
 rw[nd,pq,eq_iff_iff];refine⟨λ_=>trivial,λ_ a ha=> ?_⟩;obtain⟨u,_,h⟩:=T9.1 ha;simp only[Tr.al,Tm,T7,or_false]at h;rcases h with rfl|rfl|rfl<;>(rw[xU];trivial)
def adm(n m k:Nat)(l:TL):Lt n (.sl m (l.flatMap Tr.al) (.opn k))=(k<n):=by
 rw[adp,eq_iff_iff];refine⟨λh=>h.1,λh=>⟨h,λa ha=> ?_⟩⟩;have:=O0 n l;rw[nd,pq]at this;exact this.mpr trivial a ha
section
variable {lv:Bool}{H:SA}{k kp:SF}
def akK{x:ak}{h:SD}{e:End}(hx:x.Ok)(hh:Gn x h)(hk:k (nd (gY x h)) H):ba lv S_ 50 H [x.av,.sl h.length (h.map iv) e] k kp:=by
 refine bH (rs:=[.tmp 4]) (nt:=155) ZW λhH hA=> ?_;simp only[bm,Tu];refine mB (s':=⟨[(1,aO h),(0,x.av)],H⟩) ?_ ?_
 ·exact dY (by simp only[VQ,T7,false_imp_iff,implies_true,List.forall_mem_nil,and_true];exact⟨⟨_,rfl,ff _ _ _⟩,⟨_,rfl,Wk.refl _⟩⟩) rfl
 simp only[ak.av];refine ah ?_;refine ab ?_;simp only[seval,wL,z9];refine ah ?_;refine Dj (α:=Unit) (λ_=>⟨[(5,lr (jG h x.pieces)),(2,.op H.length 0),(1,aO h)],H++[.cells x.l 26]⟩) (λ_=>True) ?_ (λ_ _=> ?_)
 ·refine mB (s':=⟨[(6,iv 0),(5,.sl 1 [.sl 0 [] .exact] .exact),(2,.op H.length 0),(1,aO h)],H++[.cells x.l 26]⟩) ?_ (akI hx hh hH);exact dY (by simp only[seval];simp[bh,Wk.refl]) rfl
 have fI:=IY (h:=h) hh.span _ x.pieces rfl;have H5:(jG h x.pieces).length<=6561:=UK fI (VY (by decide) hx.dQ);have hlt:∀t∈jG h x.pieces,t.length=x.pieces.length:=λt ht=>by
  rw[IX]at ht;have:=FE ht;simp only[VL]at this;omega
 have eT:=afN x h;generalize jG h x.pieces=ls at H5 hlt eT⊢;refine ah ?_
 (repeat apply fu);refine nh (t:=10) (sz:=3) (el:=39) (by simp only[seval]<;>rfl) ?_
 simp only[seval];refine ah ?_;refine Dj (α:=Unit) (λ_=>⟨[(10,.sl (mE x h ls ls.length).length ((mE x h ls ls.length).flatMap Tr.al) (.opn (H.length+1)))],H++[.cells x.l 26,.tail (mE x h ls ls.length).length 3 39]⟩) (λ_=>True) ?_ (λ_ _=> ?_)
 ·refine mB (s':=⟨[(11,iv 0),(10,.sl 0 [] (.opn (H.length+1))),(5,lr ls),(2,.op H.length 0),(1,aO h)],H++[.cells x.l 26,.tail 0 3 39]⟩) ?_ (akJ hx hh hH H5 hlt);exact dY (by simp only[seval];simp[bh,Wk.refl]) rfl
 rw[<- eT];refine ah ?_;refine aT ?_;exact f_ (b:=nd (gY x h)) hH (ff _ _ _) (by rw[O0];trivial) hk
def Td{x:ak}:U4 2 x.l=[iv x.am,dl x.seen,aR x.pieces,aR x.aC]:=rfl
def akq{x:ak}(hx:x.Ok)(hk:k (nd (bc x)) H):ba lv S_ 17 H [x.av] k kp:=by
 refine bH (rs:=[.tmp 2]) (nt:=93) axR λhH hA=> ?_;simp only[bm,Tu,ak.av];have um:=hx.hours;have EG:=hx.am;have ik:=hx.first;have xK:=hx.Ad;have sw:U4 3 x.l=[dl x.seen,aR x.pieces,aR x.aC]:=rfl;obtain⟨hr,Er⟩:∃hr:Nat,x.hours=hr:=⟨x.hours.toNat,by omega⟩;have NO:x.hours.toNat=hr:=by omega
 obtain⟨pn,EE⟩:∃pn:Nat,x.am+1=pn:=⟨(x.am+1).toNat,by omega⟩;have mL:x.am.toNat+1=pn:=by omega
 have bN:∀L:SA,(H++L)[H.length]?=L[0]?:=λL=>aW H L 0;refine ah ?_;refine KB [1,2] ?_;show aS _ _ _ _ _ ⟨[(1,.op H.length 0),(2,.sl 0 [] .exact)],_⟩ _;refine ah ?_
 (repeat apply fu);refine nh (t:=3) (sz:=3) (el:=39) (by simp only[seval]<;>rfl) ?_
 simp only[seval];have BY:Tg.wrap (x.am+1)=(pn:Int):=by rw[a_ _ (by omega)];exact EE
 refine ab ?_;simp only[seval,bN,Ta,Td,BY,Er];refine aG (aaJ hr (n:=pn) (by omega) (by omega) ?_);have cq:=aam hx;rw[NO,mL]at cq;obtain⟨an6,Il⟩:=OT pn (by omega) hr (by omega);generalize oC pn hr=steps at cq an6 Il⊢;(try simp only[seval]);obtain⟨B,hB⟩:∃B:Nat->SA,∀m,B m=H++[.cells x.l 26,.tail m 3 39]:=⟨_,λ_=>rfl⟩;have c9:∀m,(B m).length=H.length+2:=λm=>by rw[hB];simp
 have b0:∀m L,(B m++L)[H.length]?=some (.cells x.l 26):=λm L=>by rw[hB,Te,bN];rfl
 have KI:∀m,(B m)[H.length]?=some (.cells x.l 26):=λm=>by rw[hB,bN];rfl
 have b1:∀m L,(B m++L)[H.length+1]?=some (.tail m 3 39):=λm L=>by rw[hB,Te,aW];rfl
 have s1:∀m m' L,(B m++L).set (H.length+1) (.tail m' 3 39)=B m'++L:=λm m' L=>by rw[hB,hB,Te,dB,Te];rfl
 have bg:∀m (L:SA),(B m++L)[H.length+2]?=L[0]?:=λm L=>by rw[<- c9 m];exact aW (B m) L 0
 have bs:∀m (L:SA)(y:aa),(B m++L).set (H.length+2) y=B m++L.set 0 y:=λm L y=>by rw[<- c9 m];exact dB (B m) L 0 y
 have kQ:∀m,bJ (B m):=λm=>by
  rw[hB];refine BD hH λz hz m'=> ?_;simp only[Tm,T7,or_false]at hz;rcases hz with rfl|rfl
  ·exact Fv m' x
  ·trivial
 rw[<- hB 0];have hEl:∀i,(nW x (steps.take i)).length<=256* 419904:=λi=>by
  have h1:=aal (x:=x) (l:=steps.take i) (m:=419904) λst aP=>by
   have aP:=Il st (W5 aP);have hH:=G8 (first:=x.first) (am:=x.am) (st:=st) (λa ha=>by have:=aP.2 a ha;omega) hr (by omega);rw[Tx (by omega)]at hH;refine afO hx ?_;rw[zN hH,zk hH];have:=hH.top ik EG (by omega) hr (Ts _);omega
  have h2:(steps.take i).length<=256:=by rw[Ux];omega
  exact UK h1 (UI _ h2)
 refine ah ?_;refine bF ?_;refine ej steps.length (λi:Nat=>[(3,.sl (nW x (steps.take i)).length ((nW x (steps.take i)).flatMap Tr.al) (.opn (H.length+1))),(5,iv i)]) (λi=>B (nW x (steps.take i)).length) (λ_=>True) (λ_ _=>rfl) (by rw[Z',show nW x []=[]from rfl];simp only[seval];simp[bh,Wk.refl]) (by rw[Z'];rfl) (λ_ _ _=>by rw[c9,c9]) trivial (λbz bE i ce _ R hR=> ?_);clear bz bE;refine ab ?_;simp only[seval,lr];refine aB ?_;refine⟨λhc=> ?_,λhc=> ?_⟩
 ·have bk:i<steps.length:=by omega
  have bK:=TN i (by omega)
  obtain⟨st,aP⟩:=bA bk;obtain⟨cu,uw⟩:=Il st (T8 aP);have hEi:=hEl i;have hEs:nW x (steps.take (i+1))=nW x (steps.take i)++if x_ x (ext [x.first] st)=true then gY x (ext [x.first] st)else[]:=by
   rw[UZ,aP];exact ajS _ _ _
  have Ba:=hEl (i+1);rw[hEs]at hR Ba;generalize nW x (steps.take i)=E at hEi hR Ba⊢;clear hEs;have abR:=λj=>G8 (first:=x.first) (am:=x.am) (st:=st) (λa ha=>by have:=uw a ha;omega) j;obtain⟨G,hG⟩:∃G:Nat->SD,∀j,G j=ext [x.first] (st.take j):=⟨_,λ_=>rfl⟩;have hG0:G 0=[x.first]:=by rw[hG];rfl
  simp only[<- hG]at abR;have dV:(0<=(i:Int)/\(i:Int)<steps.length)=True:=by simp;omega
  refine aE ?_;refine ab ?_;simp only[seval,z1,uN,KI,TO]
  (repeat apply fu);refine nh (t:=6) (sz:=1) (el:=3) (by simp only[seval]<;>rfl) ?_
  simp only[seval,c9];refine ah ?_;refine bF ?_;refine ej hr (λj:Nat=>[(6,.sl (j+1) ((G j).map iv) (.opn (H.length+2))),(7,iv j)]) (λj=>B E.length++[.tail (j+1) 1 3]) (λ_=>True) (λ_ _=>rfl) (by rw[hG0];simp only[seval];simp[bh,Wk.refl]) rfl (λ_ _ _=>by simp) trivial (λbz bE j mI _ R2 eY=> ?_);clear bz bE;have tY:=abR j (by omega);refine ab ?_;simp only[seval,b0,Ta,Er];refine aB ?_;refine⟨λbZ=> ?_,λbZ=> ?_⟩
  ·have dW:j<hr:=(by omega);have c_:=TN j (by omega);obtain⟨a,ha⟩:=bA (xs:=st) (i:=j) (by omega);have ud:=uw a (T8 ha);have Mi:G (j+1)=G j++[(G j).getLastD 0+a]:=(by rw[hG,hG];exact aav ha);rw[zN tY]at Mi;have mi:=tY.top ik EG (by omega) j (Ts _);have tZ:=tY.len;obtain⟨w,hw⟩:=bA (xs:=G j) (i:=j) (by omega);have jC:(G j).getD j 0=w:=(by rw[Tf,hw];rfl);rw[jC]at Mi mi;have N_:Tg.wrap (w+a)=w+a:=a_ _ (by omega);rw[Mi,Uq]at eY;generalize G j=g at hw tZ eY⊢;have kS:(0<=(j:Int)/\(j:Int)<(j:Int)+1)=True:=(by simp;omega);have amn:(0<=(j:Int)/\(j:Int)<(st.length:Int))=True:=(by simp;omega);have kg:(g.map iv).length=j+1:=(by rw[Ue];exact tZ);refine aE ?_;refine bF ?_;refine lY [14] (T1 16) (λD=>bif isDone 14 D then B E.length++[.tail (j+1+1) 1 3]else B E.length++[.tail (j+1) 1 3]) ?_;simp only[seval,z1,uN,dp hw,wF aP,dp ha,dV,kS,amn,N_,bg,bs,kg,aO];refine⟨by omega,?_⟩;refine ab ?_;simp only[seval,c_];refine eY _ ⟨dW,trivial,bX⟩
  ·have eC:j=hr:=(by omega);subst eC;clear eY;have hGe:G j=ext [x.first] st:=(by rw[hG,Tx (by omega)]);rw[hGe]at tY;rw[hGe];have tZ:=tY.len;have v7:qE (ext [x.first] st):=tY.mono;have mi:=tY.top ik EG (by omega) j (Ts _);have hHR:Gn x (ext [x.first] st):=⟨by rw[tZ,Er];rfl,v7,by rw[zN tY,zk tY];omega,by rw[zk tY];exact ik⟩;generalize ext [x.first] st=g at tZ hHR hR Ba⊢;refine bD ?_;refine ah ?_;refine ah ?_;refine bF ?_;refine pL x.seen.length (λq:Nat=>[(8,bv ((x.seen.take q).all λs=>iq s.next (g.getD s.hour.toNat 0))),(9,iv q)]) (λ_=>B E.length++[.tail (j+1) 1 3]) (λ_=>True) trivial (λbz bE q uu _ R3 gK=> ?_);clear bz bE;refine ab ?_;simp only[seval,b0,sw,dl];refine aB ?_;refine⟨λcQ=> ?_,λcQ=> ?_⟩
   ·have fJ:q<x.seen.length:=(by omega);have iX:=TN q (by omega);obtain⟨y,hy⟩:=bA fJ;have hym:=hx.seen y (T8 hy);have NV:=P_ hy;have oV:(0<=(q:Int)/\(q:Int)<x.seen.length)=True:=(by simp;omega);have dz:((x.seen.take (q+1)).all λs=>iq s.next (g.getD s.hour.toNat 0))=(((x.seen.take q).all λs=>iq s.next (g.getD s.hour.toNat 0))&&iq y.next (g.getD y.hour.toNat 0)):=by
     rw[UZ,hy,List.all_append];simp
    rw[dz]at gK;obtain⟨yh,zI⟩:∃yh:Nat,y.hour=yh:=⟨y.hour.toNat,by omega⟩;obtain⟨n,hn⟩:=bA (xs:=g) (i:=yh) (by omega);have xB:g.getD y.hour.toNat 0=n:=(by rw[zI,WU,Tf,hn];rfl);rw[xB]at gK;have hby:(0<=(yh:Int)/\(yh:Int)<(j:Int)+1)=True:=(by simp;omega);generalize((x.seen.take q).all λs=>iq s.next (g.getD s.hour.toNat 0))=is at gK⊢;refine aE ?_;refine ab ?_;simp only[seval,b0,sw,dl,NV,oV,zI,dp hn,hby];have hib:iq y.next n=(decide (n>=y.next.min)&&decide (n<=y.next.max)):=rfl;cases is with
    |false=>
     refine ah ?_;refine ab ?_;simp only[seval,iX];refine gK _ ⟨fJ,trivial,?_⟩;rw[Wj];exact bX
    |true=>
     by_cases h1:n>=y.next.min
     ·have d1:decide (n>=y.next.min)=true:=decide_eq_true h1;refine ab ?_;simp only[seval,b0,sw,dl,NV,oV,d1];refine ab ?_;simp only[seval,iX];refine gK _ ⟨fJ,trivial,?_⟩;rw[hib,d1];exact bX
     ·have d1:decide (n>=y.next.min)=false:=decide_eq_false h1;refine ab ?_;simp only[seval,b0,sw,dl,NV,oV,d1];refine ab ?_;simp only[seval,iX];refine gK _ ⟨fJ,trivial,?_⟩;rw[hib,d1];exact bX
   ·have eC:q=x.seen.length:=(by omega);subst eC;clear gK;rw[Un];have an9:(x.seen.all λs=>iq s.next (g.getD s.hour.toNat 0))=x_ x g:=rfl;rw[an9];refine bD ?_;refine ah ?_;refine aB ?_;refine⟨λEO=> ?_,λEO=> ?_⟩
    ·rw[if_pos EO]at hR Ba;have hEf:(E.flatMap Tr.al).length=E.length* 3:=zQ Tr.GD _;have htf:((gY x g).flatMap Tr.al).length=(gY x g).length* 3:=zQ Tr.GD _;have hCl:((gY x g).flatMap Tr.al).take ((gY x g).length* 3)=(gY x g).flatMap Tr.al:=Tx (by omega);have iU:∀a∈(gY x g).flatMap Tr.al,a.leaf=true:=λa ha=>by
      obtain⟨u,_,h⟩:=T9.1 ha;simp only[Tr.al,Tm,T7,or_false]at h;rcases h with rfl|rfl|rfl<;>rfl
     rw[Tt]at Ba;refine ab ?_;simp only[seval,b0,TQ,TR];have yH:=λk' uE=>akK (lv:=lv) (k:=k') (kp:=uE) (H:=B E.length++[.tail (j+1) 1 3]) (x:=x) (h:=g) (e:=.opn (H.length+2)) hx hHR;rw[tZ]at yH;refine aG (yH _ _ ?_);generalize gY x g=C at hR htf hCl iU Ba⊢;(try simp only[seval,nd,b1,s1,hEf,htf,hCl]);refine⟨by omega,iU,?_⟩;refine ab ?_;simp only[seval,bK];refine hR _ ⟨bk,trivial,?_⟩;rw[Tt,Vf];refine qy [.tail (j+1) 1 3] (jZ rfl rfl) (by simp only[seval];simp[bh,Wk.refl]) (kQ _) ?_ rfl;rw[<- Vf,c9];simp only[VQ,adm,iv,dj];simp
    ·have EO:x_ x g=false:=(by simpa using EO);rw[EO]at hR;refine aE ?_;refine ab ?_;simp only[seval,bK];refine hR _ ⟨bk,trivial,?_⟩;rw[if_neg Bool.false_ne_true,To];exact qy [.tail (j+1) 1 3] (jZ rfl rfl) (by simp only[seval];simp[bh,Wk.refl]) (kQ _) (by simp[dj,c9,adm]) rfl
 ·have eC:i=steps.length:=by omega
  subst eC;rw[Un,cq];refine bD ?_;refine ah ?_;refine aT ?_;rw[hB];exact f_ (b:=nd (bc x)) hH (ff _ _ _) (by rw[O0];trivial) hk
end
open Go.Conc Go.Proofs Go.Gg.Tk
def aap:(bc gq).isEmpty=false:=by kernel_rfl
def ajZ{lo hi:Int}(h:Bounds (live gq) (λh=>h.getD 1 0) lo hi):lo=11/\hi=12:=by
 have k:Bounds (live gq) (λh=>h.getD 1 0) 11 12:=by
  rw[aj3];exact⟨⟨[10,11,13,14],by simp,rfl⟩,by decide,⟨[10,12,13,14],by simp,rfl⟩,by decide⟩
 exact h.uniq k
def aj2:DM gq 2=[0,2]:=by kernel_rfl
def z3:gZ (Th .i64 0) 3=[iv 0,iv 0,iv 0]:=rfl
def z4:gZ (Th .i64 0) 4=[iv 0,iv 0,iv 0,iv 0]:=rfl
section
variable {H:SA}{k kp:SF}
def aay(hm:H[0]?=some .main)(hk:k (bv true) H):ba true S_ 19 H [] k kp:=by
 have aF:bc gq≠[]:=λh=>by have:=aap;rw[h]at this;cases this
 refine bH (rs:=[.tmp 0]) (nt:=138) Tryz.f19 λhH hA=> ?_;simp only[bm,Tu];refine ah ?_;refine ah ?_;refine aG (yQ ?_);(try simp only[seval]);refine aG (aaz Ac hm ?_);rw[aj0];(try simp only[seval]);refine ah ?_;refine aG (yQ ?_);(try simp only[seval]);refine aG (Lz (hour:=1) Ac (by decide) hm (λh=>absurd h aF) (λlo hi _ hb=> ?_));obtain⟨rfl,rfl⟩:=ajZ hb;(try simp only[seval,TP,TV]);refine ah ?_;refine aG (yQ ?_);(try simp only[seval]);refine aG (aaD (q:=2) Ac (by decide) (fH hm) (λh=>absurd h aF) (λ_=> ?_));rw[show fi (rA gq 2) gq.first 16=[13,14]from aj4];(try simp only[seval]);refine ah ?_;refine aG (yQ ?_);(try simp only[seval]);refine aG (aaC (s:=0) (q:=0) Ac (by decide) (by decide) (fH hm) ?_);rw[aap,aaq.1,aaq.2,show vM true false=1 from rfl];(try simp only[seval]);refine ah ?_;refine aG (yQ ?_);(try simp only[seval]);refine aG (akv Ac (fH hm) (λh=>absurd h aF) (λ_=> ?_));rw[show DM gq gq.aC.length=[0,2]from aj2];(try simp only[seval]);refine ah ?_;refine aG (yQ ?_);(try simp only[seval]);refine aG (akz (x:=gq) (s:=1) (q:=0) (y:=⟨⟨10,15⟩,⟨2,2⟩⟩) Ac rfl (by decide) (λo ho=> ?_));rw[show AJ (gq.wo [((1:Nat):Int)]) ⟨⟨10,15⟩,⟨2,2⟩⟩ 0 (gq.am.toNat+1)=1 from ajY]at ho;subst ho;(try simp only[seval]);refine ah ?_;refine aG (akO ?_);(try simp only[seval]);refine aG (akA aqA (λl hl=> ?_) (λh=>by rw[aao]at h;cases h));rw[aao]at hl;cases hl;(try simp only[seval]);refine ah ?_;refine aG (yQ ?_);(try simp only[seval]);refine aG (aks Ac (fH hm) (λh=>absurd h aF) (λu l hu=> ?_));have ko:=aj1;rw[hu]at ko;cases ko;(try simp only[seval]);refine eA 77 ?_;simp only[seval,WG,TP,beq_self_eq_true];refine fE (.agg [iv 11,iv 12]) (cP (Dx ⟨rfl,rfl⟩)) ?_;have eQ:∀k,dH S_ .eql 46 (.agg [iv 11,iv 12]) (.agg [iv 11,iv 12]) k=k (bv true):=λk=>ag5 (P:=S_) (t:=46) (n:=2) (xs:=[11,12]) (ys:=[11,12]) (by kernel_rfl) (by kernel_rfl) rfl rfl k;simp only[iv,bv]at eQ;(try simp only[seval,eQ,WG,beq_self_eq_true,z2]);(try refine⟨by decide,?_⟩);refine fE (bv true) (cP (vt (xs:=[13,14]) (ys:=[13,14]) (e:=.shut) (e':=.exact) (by decide) ⟨by rw[decide_eq_true rfl],rfl⟩)) ?_;(try simp only[seval,WG,z1,z2,z3,z4]);(try refine⟨by decide,?_⟩);refine fE (bv true) (cP (vt (xs:=[0,2]) (ys:=[0,2]) (e:=.shut) (e':=.exact) (by decide) ⟨by rw[decide_eq_true rfl],rfl⟩)) ?_;(try simp only[seval,WG,z1,z2,z3,z4]);(try refine⟨by decide,?_⟩);refine fE (bv true) (cP (vt (xs:=[0]) (ys:=[0]) (e:=.shut) (e':=.exact) (by decide) ⟨by rw[decide_eq_true rfl],rfl⟩)) ?_;(try simp only[seval,WG,z1,z2,z3,z4]);(try refine⟨by decide,?_⟩);refine fE (bv true) (cP (vt (xs:=[10,11,13,14]) (ys:=[10,11,13,14]) (e:=.shut) (e':=.exact) (by decide) ⟨by rw[decide_eq_true rfl],rfl⟩)) ?_;(try simp only[seval,WG,z1,z2,z3,z4]);(try refine⟨by decide,?_⟩);refine fE (bv true) (cP (vt (xs:=[12,11,13]) (ys:=[12,11,13]) (e:=.shut) (e':=.exact) (by decide) ⟨by rw[decide_eq_true rfl],rfl⟩)) ?_;(try simp only[seval,WG,z1,z2,z3,z4]);(try refine⟨by decide,?_⟩);refine fE (bv true) (cP (vt (xs:=[0,2]) (ys:=[0,2]) (e:=.shut) (e':=.exact) (by decide) ⟨by rw[decide_eq_true rfl],rfl⟩)) ?_;(try simp only[seval,WG,z1,z2,z3,z4]);refine aT ?_;exact f_ hH (Wk.refl _) (.val _) hk
end
section
variable {lv:Bool}{k kp:SF}{Gf:bp->SA}{t N:Nat}{b:Int}
end
section
variable {lv:Bool}{k kp:SF}{Gf:bp->SA}{t N:Nat}{τ:bp}{b:Int}
end
def auO(m:Nat)(τ:bp):e9 m (An τ):=λa ha=>by
 simp only[Tm,T7,or_false]at ha;rcases ha with rfl|rfl|rfl
 ·rw[xU];trivial
 ·exact .val _
 ·exact .val _
section
variable {H:SA}{k kp:SF}
def Ah{l:TL}{i:Nat}{u:Tr}(h:l[i]?=some u):AV.shift (i* 3) (.rp (l.flatMap Tr.al))=some (.rp (aO u.aK::aO u.ap::aO (nl u.bR)::(l.drop (i+1)).flatMap Tr.al)):=Qa Tr.GD h
end
section
variable {lv:Bool}{H:SA}{k kp:SF}
end
def aor{n:Int}(h: -1000<=n/\n<=1000):Tg.wrap n=n:=a_ _ (by omega)
section
variable {H:SA}{k kp:SF}
end
variable {P:Tl}
section
variable {H:SA}{k kp:SF}
end
namespace Tk
def u6 (P:Int->Prop)(o:Int):Prop:=(o= -1/\∀d,¬P d)\/(0<=o/\P o/\∀d,P d->o<=d)
def u6.congr{P Q:Int->Prop}{o:Int}(h:∀d,P d<->Q d)(hP:u6 P o):u6 Q o:=by
 rcases hP with⟨e,h1⟩|⟨e,h1,h2⟩
 ·exact .inl ⟨e,λd hd=>h1 d ((h d).2 hd)⟩
 ·exact .inr ⟨e,(h o).1 h1,λd hd=>h2 d ((h d).2 hd)⟩
def u6.uniq{P:Int->Prop}{a b:Int}(ha:u6 P a)(hb:u6 P b):a=b:=by
 rcases ha with⟨e,h1⟩|⟨e,h1,h2⟩<;>rcases hb with⟨f,g1⟩|⟨f,g1,g2⟩
 ·omega
 ·exact absurd g1 (h1 _)
 ·exact absurd h1 (g1 _)
 ·have:=h2 _ g1;have:=g2 _ h1;omega
def u6.add{P:Int->Prop}{o m o':Int}(h:u6 P o)(hm:0<=m)(ho:o'=if o<0\/m<o then m else o):u6 (λd=>P d\/d=m) o':=by
 subst ho;right;rcases h with⟨e,h1⟩|⟨e,h1,h2⟩
 ·rw[if_pos (.inl (by omega))];exact⟨hm,.inr rfl,λd hd=>by
   rcases hd with hd|hd
   ·exact absurd hd (h1 d)
   ·omega⟩
 ·by_cases c:m<o
  ·rw[if_pos (.inr c)];exact⟨hm,.inr rfl,λd hd=>by
    rcases hd with hd|hd
    ·have:=h2 d hd;omega
    ·omega⟩
  ·rw[if_neg (by omega)];exact⟨e,.inl h1,λd hd=>by
    rcases hd with hd|hd
    ·exact h2 d hd
    ·omega⟩
end Tk
open Go.Gg.Tk
namespace Tk
end Tk
open Go.Gg.Tk
namespace Tk
def Before (l m:SD):Prop:=∃k,l.take k=m.take k/\k<l.length/\k<m.length/\l.getD k 0<m.getD k 0
end Tk
variable {x:ak}
def aqt(hx:x.Ok){u:Tr}(hu:u∈bc x){p:Nat}(hp:p<x.pieces.length):u.ap.getD p 0∈fi (Tk.rA x p) x.first 16:=by
 have ht:=(qt hx).1 hu;have h:=adM hx ht hp;refine RL.2 ⟨(u.ap.getD p 0-x.first).toNat,by omega,rU.2 ⟨u,hu,?_⟩,by omega⟩;rw[zk ht.aK];simp
open Go.Gg.Tk
namespace Tk
def lastH:Option (SD)->List Tr->Option (SD)
 |o,[]=>o
 |_,u::l=>lastH (some u.aK) l
def lx:Option (SD)->List Tr->Nat
 |_,[]=>0
 |o,u::l=>(if o=some u.aK then 0 else 1)+lx (some u.aK) l
def KU:∀(a b:TL)(o:Option (SD)),lx o (a++b)=lx o a+lx (lastH o a) b
 |[],b,o=>by simp[lx,lastH]
 |u::a,b,o=>by
  show _+lx _ (a++b)=_+lx _ a+_;rw[KU a,Wa];rfl
def ac0:∀(a b:TL)(o:Option (SD)),lastH o (a++b)=lastH (lastH o a) b
 |[],_,_=>rfl
 |_::a,b,_=>ac0 a b _
def aiP{h:SD}:∀(b:TL)(o:Option (SD)),(∀u∈b,u.aK=h)->b≠[]->o≠some h->lx o b=1/\lastH o b=some h
 |[],_,_,hn,_=>absurd rfl hn
 |u::b,o,hb,_,ho=>by
  have hu:=hb u (by simp);have key:∀(b:TL),(∀u∈b,u.aK=h)->lx (some h) b=0/\lastH (some h) b=some h:=by
   intro b;induction b with
   |nil=>intro _;exact⟨rfl,rfl⟩
   |cons w b ih=>
    intro hw;have e:=hw w (by simp);obtain⟨i1,i2⟩:=ih λv hv=>hw v (by simp[hv]);unfold lx lastH;rw[e,if_pos rfl,i1,i2];exact⟨rfl,rfl⟩
  obtain⟨k1,k2⟩:=key b λv hv=>hb v (by simp[hv]);unfold lx lastH;rw[hu,if_neg ho,k1,k2];exact⟨rfl,rfl⟩
def KV{f:SD->TL}(hf:∀h,∀u∈f h,u.aK=h):∀(hs:SO)(o:Option (SD)),hs.Nodup->(∀h∈hs,o≠some h)->lx o (hs.flatMap f)=(hs.filter λh=> !(f h).isEmpty).length
 |[],_,_,_=>rfl
 |h::hs,o,hn,ho=>by
  obtain⟨n1,n2⟩:=Xe.1 hn;rw[UV,KU,Y5];cases e:f h with
  |nil=>
   have:=KV hf hs o n2 λg hg=>ho g (by simp[hg]);simp only[lx,lastH,List.isEmpty_nil,af',UD,if_false];omega
  |cons u l=>
   obtain⟨b1,b2⟩:=aiP (f h) o (hf h) (by rw[e];simp) (ho h (by simp));rw[e]at b1 b2;rw[b1,b2,KV hf hs (some h) n2 λg hg e=>n1 (by cases e;exact hg)];simp only[List.isEmpty_cons,Yt,if_true,Ve];omega
def aiQ(x:ak):(lx none (bc x):Int)=cnt x:=by
 unfold bc cnt live;rw[KV (λh u hu=>ye hu) _ _ (ab4 x) λ_ _ e=>by cases e]
def aiR{T:TL}{i:Nat}{u:Tr}(hu:T[i]?=some u):lx none (T.take (i+1))=lx none (T.take i)+if lastH none (T.take i)=some u.aK then 0 else 1:=by
 rw[UZ,hu,KU];rfl
def ao0{T:TL}{i:Nat}{u:Tr}(hu:T[i]?=some u):lastH none (T.take (i+1))=some u.aK:=by
 rw[UZ,hu,ac0];rfl
def R7:∀(l:TL)(o:Option (SD)),lx o l<=l.length
 |[],_=>Ts _
 |u::l,o=>by
  have:=R7 l (some u.aK);unfold lx;rw[Ve];split<;>omega
def wid (v:Tr->Int)(L:TL)(b:eG):eG:=L.foldl (λb u=>⟨min b.min (v u),max b.max (v u)⟩) b
def avg(v:Tr->Int)(L:TL)(u:Tr)(b:eG):wid v (L++[u]) b=⟨min (wid v L b).min (v u),max (wid v L b).max (v u)⟩:=by
 unfold wid;rw[Xo];rfl
def af0{v:Tr->Int}{T:TL}{i:Nat}{u:Tr}(hu:T[i]?=some u)(b:eG):wid v (T.take (i+1)) b=⟨min (wid v (T.take i) b).min (v u),max (wid v (T.take i) b).max (v u)⟩:=by
 rw[UZ,hu];exact avg _ _ _ _
def afZ(v:Tr->Int):∀(L:TL)(b:eG),(wid v L b).min<=b.min/\b.max<=(wid v L b).max/\(∀u∈L,(wid v L b).min<=v u/\v u<=(wid v L b).max)/\((wid v L b).min=b.min\/∃u∈L,(wid v L b).min=v u)/\((wid v L b).max=b.max\/∃u∈L,(wid v L b).max=v u)
 |[],b=>⟨Xw _,Xw _,(λ_ h=>absurd h (by simp)),.inl rfl,.inl rfl⟩
 |w::L,b=>by
  obtain⟨h1,h2,h3,h4,h5⟩:=afZ v L ⟨min b.min (v w),max b.max (v w)⟩;have e:wid v (w::L) b=wid v L ⟨min b.min (v w),max b.max (v w)⟩:=rfl;rw[e];dsimp only at h1 h2 h4 h5;generalize wid v L ⟨min b.min (v w),max b.max (v w)⟩=B at h1 h2 h3 h4 h5;obtain⟨q1,q2⟩:=B;dsimp only at h1 h2 h3 h4 h5⊢;have g4:q1=b.min\/∃u∈w::L,q1=v u:=by
   rcases h4 with h4|⟨u,m,h4⟩
   ·clear h3 h5;by_cases c:b.min<=v w
    ·exact .inl (by omega)
    ·exact .inr ⟨w,by simp,by omega⟩
   ·exact .inr ⟨u,by simp[m],h4⟩
  have g5:q2=b.max\/∃u∈w::L,q2=v u:=by
   rcases h5 with h5|⟨u,m,h5⟩
   ·clear h3 h4 g4;by_cases c:v w<=b.max
    ·exact .inl (by omega)
    ·exact .inr ⟨w,by simp,by omega⟩
   ·exact .inr ⟨u,by simp[m],h5⟩
  clear h4 h5;refine⟨?_,?_,λu hu=> ?_,g4,g5⟩
  ·clear g4 g5 h3;omega
  ·clear g4 g5 h3;omega
  ·rcases Tm.1 hu with e|hu
   ·subst e;clear g4 g5 h3 hu;constructor<;>omega
   ·exact h3 u hu
def afY{x:ak}{f:SD->Int}{b:eG}{w:Tr}(hw:w∈bc x)(h1:b.min=f w.aK\/∀u∈bc x,f u.aK<=b.min)(h2:b.max=f w.aK\/∀u∈bc x,b.max<=f u.aK):Bounds (live x) f (wid (λu=>f u.aK) (bc x) b).min (wid (λu=>f u.aK) (bc x) b).max:=by
 obtain⟨s1,s2,s3,s4,s5⟩:=afZ (λu=>f u.aK) (bc x) b;generalize wid (λu=>f u.aK) (bc x) b=B at s1 s2 s3 s4 s5;have NU:=s3 w hw;obtain⟨q1,q2⟩:=B;dsimp only at s1 s2 s3 s4 s5 NU⊢;refine⟨?_,λh hh=> ?_,?_,λh hh=> ?_⟩
 ·rcases s4 with e|⟨u,hu,e⟩
  ·refine⟨w.aK,uH.2 ⟨w,hw,rfl⟩,?_⟩;rcases h1 with h|h
   ·omega
   ·have:=h w hw;omega
  ·exact⟨u.aK,uH.2 ⟨u,hu,rfl⟩,e⟩
 ·obtain⟨u,hu,rfl⟩:=uH.1 hh;exact(s3 u hu).1
 ·rcases s5 with e|⟨u,hu,e⟩
  ·refine⟨w.aK,uH.2 ⟨w,hw,rfl⟩,?_⟩;rcases h2 with h|h
   ·omega
   ·have:=h w hw;omega
  ·exact⟨u.aK,uH.2 ⟨u,hu,rfl⟩,e⟩
 ·obtain⟨u,hu,rfl⟩:=uH.1 hh;exact(s3 u hu).2
def Qe:∀{l m:SD},l.Pairwise (·<·)->m.Pairwise (·<·)->(∀a,a∈l<->a∈m)->l=m
 |[],[],_,_,_=>rfl
 |[],b::m,_,_,h=>absurd ((h b).2 (by simp)) (by simp)
 |a::l,[],_,_,h=>absurd ((h a).1 (by simp)) (by simp)
 |a::l,b::m,hl,hm,h=>by
  obtain⟨l1,l2⟩:=aa'.1 hl;obtain⟨m1,m2⟩:=aa'.1 hm;have e:a=b:=by
   rcases Tm.1 ((h a).1 (by simp))with e|e
   ·exact e
   ·rcases Tm.1 ((h b).2 (by simp))with e2|e2
    ·exact e2.symm
    ·have:=m1 a e;have:=l1 b e2;omega
  subst e;rw[Qe l2 m2 λc=> ?_];constructor
  ·intro hc;have:=l1 c hc;rcases Tm.1 ((h c).1 (by simp[hc]))with e|e
   ·omega
   ·exact e
  ·intro hc;have:=m1 c hc;rcases Tm.1 ((h c).2 (by simp[hc]))with e|e
   ·omega
   ·exact e
def afE{T:TL}(hT:T≠[])(P:Tr->Bool):Cz ((T.filter P).length:Nat) (T.length:Nat)=vM (T.any P) (T.any λu=> !P u):=by
 have BJ:0<T.length:=Wp.2 hT;have e0:T.any P=true<->0<(T.filter P).length:=by
  rw[U5,List.length_pos_iff_exists_mem];simp only[Vl]
 have e1:(T.any λu=> !P u)=true<->(T.filter P).length<T.length:=by
  have h:=List.length_filter_lt_length_iff_exists (l:=T) (p:=P);rw[h,U5];simp
 unfold Cz vM;have hle:=WX P T;generalize(T.filter P).length=c at e0 e1 hle⊢;cases h0:T.any P<;>cases h1:(T.any λu=> !P u)<;>rw[h0]at e0<;>rw[h1]at e1
 ·have a0:c=0:=by
   rcases Vu c with h|h
   ·exact h
   ·exact absurd (e0.2 h) (by simp)
  exact absurd (e1.2 (by omega)) (by simp)
 ·have a0:c=0:=by
   rcases Vu c with h|h
   ·exact h
   ·exact absurd (e0.2 h) (by simp)
  subst a0;rfl
 ·have a0:=e0.1 rfl;have a1:c=T.length:=by
   rcases Z_ c T.length with h|h
   ·exact absurd (e1.2 h) (by simp)
   ·omega
  rw[if_neg (by omega),if_pos (by rw[a1])];rfl
 ·have a0:=e0.1 rfl;have a1:=e1.1 rfl;rw[if_neg (by omega),if_neg (by omega)];rfl
def aaS{T:TL}{P:Tr->Bool}{i:Nat}{u:Tr}(hu:T[i]?=some u):((T.take (i+1)).filter P).length=((T.take i).filter P).length+if P u then 1 else 0:=by
 rw[UZ,hu,XO,Tt];cases h:P u<;>simp[h]
def Rf{T:TL}{P:Tr->Bool}{i:Nat}{u:Tr}(hu:T[i]?=some u):(T.take (i+1)).any P=((T.take i).any P||P u):=by
 rw[UZ,hu,aw2];simp
def RJ(f:Nat->Bool)(m:Int)(i:Nat):fi f m (i+1)=fi f m i++if f i then[(i:Int)+m]else[]:=by
 unfold fi;rw[VW,XO,Uq];cases h:f i<;>simp[h]
end Tk
open Go.Gg.Tk
namespace Tk
structure Inv (f g:Nat->Nat)(n:Nat):Prop where
 fl:∀i,i<n->f i<n
 gl:∀i,i<n->g i<n
 gf:∀i,i<n->g (f i)=i
 fg:∀i,i<n->f (g i)=i
def Inv.symm{f g:Nat->Nat}{n:Nat}(h:Inv f g n):Inv g f n:=⟨h.gl,h.fl,h.fg,h.gf⟩
def aqr{α:Type}{l:List α}(hn:l.Nodup){i j:Nat}(hi:i<l.length)(hj:j<l.length)(h:l[i]=l[j]):i=j:=by
 have hp:=Zu.1 (Vz.1 hn);rcases YZ i j with e|e|e
 ·exact absurd h (hp i j hi hj e)
 ·exact e
 ·exact absurd h.symm (hp j i hj hi e)
def getD_inj{l:SD}{i j:Nat}(hn:l.Nodup)(hi:i<l.length)(hj:j<l.length)(h:l.getD i 0=l.getD j 0):i=j:=by
 rw[Tf,Tf,Tw hi,Tw hj]at h;exact aqr hn hi hj h
variable {x:ak}{l:SY}{f g:Nat->Nat}
end Tk
open Go.Gg.Tk
namespace Tk
def GN{f:Nat->Bool}{m:Int}{i:Nat}{a:Int}:a∈fi f m i<->∃n:Nat,n<i/\f n=true/\a=(n:Int)+m:=by
 unfold fi;simp only[Uo,Vl,UN];constructor
 ·rintro⟨n,⟨h1,h2⟩,h3⟩;exact⟨n,h1,h2,h3.symm⟩
 ·rintro⟨n,h1,h2,h3⟩;exact⟨n,⟨h1,h2⟩,h3.symm⟩
end Tk
section
variable {x:ak}
def aqw(hx:x.Ok){p:Nat}(hp:p<x.pieces.length):fi (λn=>(bc x).any λu=>decide (u.ap.getD p 0=(n:Int))) 0 100=fi (rA x p) x.first 16:=by
 refine Qe (GQ _ _ _) (GQ _ _ _) λa=> ?_;have hf:=hx.first;rw[GN,GN];constructor
 ·rintro⟨n,h1,h2,h3⟩
  obtain⟨u,hu,e⟩:=U5.1 h2;have hm:=aqt hx hu hp;rw[of_decide_eq_true e,GN]at hm;obtain⟨m,m1,m2,m3⟩:=hm;exact⟨m,m1,m2,by omega⟩
 ·rintro⟨n,h1,h2,h3⟩
  unfold rA at h2;obtain⟨u,hu,e⟩:=rU.1 h2;have ht:=(qt hx).1 hu;have hb:=adM hx ht hp;have hd:u.aK.headD 0=x.first:=by
   have hl:=ht.aK.len;have h0:=ht.aK.head;cases hh:u.aK with
   |nil=>rw[hh]at hl;simp at hl
   |cons c l=>rw[hh]at h0;simpa using h0
  have e:=of_decide_eq_true e;rw[hd]at e;refine⟨(u.ap.getD p 0).toNat,by omega,U5.2 ⟨u,hu,decide_eq_true (by omega)⟩,by omega⟩
def anz(hx:x.Ok){p:Nat}(hp:p<x.pieces.length):fi (λn=>(bc x).any λu=>decide (mb u p=(n:Int))) 0 100=fi (uq x p) 0 16:=by
 refine Qe (GQ _ _ _) (GQ _ _ _) λa=> ?_;rw[anB hx hp,GN];constructor
 ·rintro⟨n,h1,h2,h3⟩
  obtain⟨u,hu,e⟩:=U5.1 h2;exact⟨u,hu,by rw[of_decide_eq_true e];omega⟩
 ·rintro⟨u,hu,rfl⟩
  have:=ND hx hu hp;exact⟨(mb u p).toNat,by omega,U5.2 ⟨u,hu,decide_eq_true (by omega)⟩,by omega⟩
def apt(hx:x.Ok){p q:Nat}(hp:p<x.pieces.length)(hq:q<x.pieces.length)(hn:p≠q):uF x q p=(bc x).any λu=> !decide (u.ap.getD p 0<u.ap.getD q 0):=by
 unfold uF yC;rw[Vh,U5,U5];constructor
 ·rintro⟨u,hu,e⟩
  have:=of_decide_eq_true e;exact⟨u,hu,by rw[decide_eq_false (by omega)];rfl⟩
 ·rintro⟨u,hu,e⟩
  have ht:=(qt hx).1 hu;refine⟨u,hu,decide_eq_true ?_⟩;have h1:¬u.ap.getD p 0<u.ap.getD q 0:=λh=>by rw[decide_eq_true h]at e;cases e
  have h2:u.ap.getD p 0≠u.ap.getD q 0:=λh=>hn (getD_inj ht.I6 (by rw[ht.sX];exact hp) (by rw[ht.sX];exact hq) h);omega
def apv(hx:x.Ok)(hT:bc x≠[]){p q:Nat}(hp:p<x.pieces.length)(hq:q<x.pieces.length)(hn:p≠q):vM (uF x p q) (uF x q p)=Cz (((bc x).filter λu=>decide (u.ap.getD p 0<u.ap.getD q 0)).length:Nat) ((bc x).length:Nat):=by
 rw[afE hT,apt hx hp hq hn];rfl
def aq1(hT:bc x≠[])(s q:Nat):vM (s7 x s q) (Cd x s q)=Cz (((bc x).filter λu=>decide (u.bR.getD s 0=q)).length:Nat) ((bc x).length:Nat):=by
 rw[afE hT];rfl
end
open Go.Gg.Tk
namespace Tk
def Qw{x:ak}(hx:x.Ok):(bc x).length<=2^40:=by
 have hp:=hx.am;have hh:=hx.hours;rw[<- aam hx];obtain⟨h1,h2⟩:=OT (x.am.toNat+1) (by omega) x.hours.toNat (by omega);refine UK (aal (m:=419904) λst aP=> ?_) (UK (UI _ h1) (by decide));have aP:=h2 st aP;have hH:=G8 (first:=x.first) (am:=x.am) (st:=st) (λa ha=>by have:=aP.2 a ha;omega) x.hours.toNat (by omega);rw[Tx (by omega)]at hH;refine afO hx ?_;rw[zN hH,zk hH];have:=hH.top hx.first hx.am (by omega) x.hours.toNat (Ts _);omega
end Tk
open Go.Conc Go.Proofs Go.Gg.Tk
noncomputable def AN:U_:=WH.body.getD .skip
section
variable {H:SA}{k kp:SF}
def akf{x:ak}{N:Nat}{G:SA}{Φ:SI}(hx:x.Ok)(aF:bc x≠[])(hN:N<G.length)(gN:∀L:SA,(G++L)[N]?=some (.cells x.l 26))(g0:∀L:SA,(G++L)[0]?=some .main)(hG:bJ G)(h9:aS true S_ none 394 (jf 9 AN) ⟨[(7,nd (bc x)),(3,.op N 0),(2,bv false)],G⟩ Φ):aS true S_ none 394 (jf 8 AN) ⟨[(7,nd (bc x)),(3,.op N 0),(2,bv false)],G⟩ Φ:=by
 unfold AN WH at h9⊢;dsimp only[Ua,jf,cs,cf]at h9⊢;have um:=hx.hours;have EG:=hx.am;have L8:G[N]?=some (.cells x.l 26):=by have:=gN [];rwa[To]at this
 obtain⟨M,hM⟩:∃M,G.length=M:=⟨_,rfl⟩;have gm:∀(L:SA)(j:Nat),(G++L)[M+j]?=L[j]?:=λL j=>by rw[<- hM];exact aW G L j
 have sm:∀(L:SA)(j:Nat)(y:aa),(G++L).set (M+j) y=G++L.set j y:=λL j y=>by rw[<- hM];exact dB G L j y
 have yW:∀(L:SA),(G++L)[M]?=L[0]?:=λL=>gm L 0;have FY:∀(L:SA)(y:aa),(G++L).set M y=G++L.set 0 y:=λL y=>sm L 0 y;obtain⟨hn,hhn⟩:∃hn:Nat,x.hours=hn:=⟨x.hours.toNat,by omega⟩;have v7:=Qw hx;obtain⟨T,hT⟩:∃T,T=bc x:=⟨_,rfl⟩;obtain⟨u0,xO⟩:∃u0,T[0]?=some u0:=by
  cases h:bc x with
  |nil=>exact absurd h aF
  |cons a l=>exact⟨a,by rw[hT,h];rfl⟩
 have eB:=T8 xO;have dP:=Ah xO;rw[axJ]at dP;have hTl:(0<(T.length:Int))=True:=eq_true (by
  have:=(Tq.1 xO).1;omega)
 rw[hT]at eB;have zC:=(qt hx).1 eB;have sD:=zC.aK.len;rw[<- hT]at h9 v7⊢;refine ah ?_;refine bF ?_;refine pL (hn+1) (λh:Nat=>[(14,iv h)]) (λ_=>G) (λ_=>True) trivial (λbz bE h ce _ R hR=> ?_);clear bE;refine ab ?_;simp only[seval,L8,Ta];refine aB ?_;refine⟨λhc=> ?_,λhc=> ?_⟩
 ·have bk:h<=hn:=by omega
  have bK:=TN h (by omega)
  obtain⟨v,hv⟩:=bA (xs:=u0.aK) (i:=h) (by omega);have hbh:(0<=(h:Int)/\(h:Int)<(u0.aK.length:Int))=True:=by simp;omega
  refine aE ?_;refine bF ?_;refine lY [15,16] (T1 17) (λD=>bif isDone 16 D then G++[.cells [iv v,iv v] 46]else bif isDone 15 D then G++[.cells [iv 0,iv 0] 46]else G) ?_;simp only[seval,nd,aO,dP,hTl,dp hv,hbh,yW,FY,hM];refine fE (.agg [iv v,iv v]) (cP (Dx ⟨rfl,rfl⟩)) ?_;refine⟨fE (.agg [iv v,iv v]) (cP (Dx ⟨rfl,rfl⟩)) rfl,?_⟩;(try simp only[seval]);have hM1:∀o:aa,(G++[o]).length=M+1:=λo=>by rw[Tt,hM];rfl
  have hap:∀o p:aa,G++[o]++[p]=G++[o,p]:=λo p=>by rw[Te];rfl
  refine ah ?_;refine aG (Dx ?_);(try simp only[seval,hM1,hap,sm]);obtain⟨A,hA⟩:∃A:Nat->eG,∀i,A i=wid (λu=>u.aK.getD h 0) (T.take i) ⟨v,v⟩:=⟨_,λ_=>rfl⟩;obtain⟨D,hD⟩:∃D:Nat->eG,∀i,D i=if h<hn then wid (λu=>u.aK.getD (h+1) 0-u.aK.getD h 0) (T.take i) ⟨3,0⟩else⟨3,0⟩:=⟨_,λ_=>rfl⟩;have A':A 0=⟨v,v⟩:=by rw[hA];rfl
  have hD0:D 0=⟨3,0⟩:=by rw[hD];split<;>rfl
  have sq:∀b:eG,b.l.length=2:=λ_=>rfl;have ze:∀b:eG,VN 2 b.l=b.l:=λ_=>rfl;have D1:∀L:SA,(G++L).length=M+L.length:=λL=>by rw[Tt,hM]
  refine ah ?_;refine bF ?_;refine ej T.length (λi:Nat=>[(17,iv i)]) (λi=>G++[.cells (A i).l 46,.cells (D i).l 46]) (λ_=>True) (λ_ _=>rfl) (by simp only[seval];simp[bh,Wk.refl]) (by rw[A',hD0];rfl) (λ_ _ _=>by simp) trivial (λxj bE i aww _ R2 eY=> ?_);clear xj bE;refine ab ?_;simp only[seval,nd];refine aB ?_;refine⟨λbZ=> ?_,λbZ=> ?_⟩
  ·have Nc:i<T.length:=(by omega);have c_:=TN i (by omega);obtain⟨u,hu⟩:=bA Nc;have pi:=T8 hu;rw[hT]at pi;have ht:=(qt hx).1 pi;have cR:=ht.aK.len;have dV:(0<=(i:Int)/\(i:Int)<T.length)=True:=(by simp;omega);have cU:=Ah hu;obtain⟨w,hw⟩:=bA (xs:=u.aK) (i:=h) (by omega);have jC:u.aK.getD h 0=w:=(by rw[Tf,hw];rfl);have vH:(0<=(h:Int)/\(h:Int)<(u.aK.length:Int))=True:=(by simp;omega);have hA1:A (i+1)=⟨min (A i).min w,max (A i).max w⟩:=by
    rw[hA,hA,af0 hu,jC]
   rw[hA1]at eY;refine aE ?_;refine bF ?_;refine lY [10] (T1 11) (λE=>bif isDone 10 E then G++[.cells [iv (min (A i).min w),iv (max (A i).max w)] 46,.cells (D i).l 46]else G++[.cells (A i).l 46,.cells (D i).l 46]) ?_;simp only[seval,yW,FY,cU,dV,aO,dp hw,vH,sq,ze];refine fE (.agg [iv (min (A i).min w),iv (max (A i).max w)]) (cP (aaG (b:=A i) (n:=w) ⟨rfl,rfl⟩)) ?_;(try simp only[seval,show ∀b:eG,U4 2 b.l=[]from λ_=>rfl]);refine ab ?_;simp only[seval,gN,Ta];refine aB ?_;refine⟨λcQ=> ?_,λcQ=> ?_⟩
   ·obtain⟨w2,qh⟩:=bA (xs:=u.aK) (i:=h+1) (by omega);have HS:u.aK.getD (h+1) 0=w2:=(by rw[Tf,qh];rfl);have ME:(0<=(h:Int)+1/\(h:Int)+1<(u.aK.length:Int))=True:=(by simp;omega);have Ix:Tg.wrap ((h:Int)+1)=((h+1:Nat):Int):=bK;have ft:=dp qh;have re:((h:Int)+1).toNat=h+1:=(by omega);have pf:=ht.aK.step h (by omega);rw[HS,jC]at pf;have zH:Tg.wrap (w2-w)=w2-w:=aor (by omega);have DT:D (i+1)=⟨min (D i).min (w2-w),max (D i).max (w2-w)⟩:=by
     rw[hD,hD,if_pos (by omega),if_pos (by omega),af0 hu,HS,jC]
    rw[DT]at eY;refine lY [20] (T1 21) (λE=>bif isDone 20 E then G++[.cells [iv (min (A i).min w),iv (max (A i).max w)] 46,.cells [iv (min (D i).min (w2-w)),iv (max (D i).max (w2-w))] 46]else G++[.cells [iv (min (A i).min w),iv (max (A i).max w)] 46,.cells (D i).l 46]) ?_;simp only[seval,gm,sm,cU,dV,aO,dp hw,ft,re,ME,Ix,zH,vH,sq,ze];refine fE (.agg [iv (min (D i).min (w2-w)),iv (max (D i).max (w2-w))]) (cP (aaG (b:=D i) (n:=w2-w) ⟨rfl,rfl⟩)) ?_;(try simp only[seval,show ∀b:eG,U4 2 b.l=[]from λ_=>rfl]);refine ab ?_;simp only[seval,c_];refine eY _ ⟨Nc,trivial,bX⟩
   ·have DT:D (i+1)=D i:=(by rw[hD,hD,if_neg (by omega),if_neg (by omega)]);rw[DT]at eY;refine aE ?_;refine ab ?_;simp only[seval,c_];refine eY _ ⟨Nc,trivial,bX⟩
  ·have eC:i=T.length:=(by omega);subst eC;refine bD ?_;have DO:=afY (f:=λg=>g.getD h 0) (b:=⟨v,v⟩) eB (.inl (by rw[Tf,hv];rfl)) (.inl (by rw[Tf,hv];rfl));rw[<- hT]at DO;have hAT:A T.length=wid (λu=>u.aK.getD h 0) T ⟨v,v⟩:=(by rw[hA,Un]);rw[<- hAT]at DO;have eQ:∀(p q:Int) k,dH S_ .neq 46 (.agg [iv p,iv q]) (.agg [iv p,iv q]) k=k (bv false):=λp q k=>by
    have:=ag6 (P:=S_) (t:=46) (n:=2) (xs:=[p,q]) (ys:=[p,q]) (by kernel_rfl) (by kernel_rfl) rfl rfl k;rw[beq_self_eq_true,af']at this;exact this
   simp only[iv,bv]at eQ;generalize A T.length=PA at hAT DO⊢;obtain⟨p1,p2⟩:=PA;dsimp only at DO;refine ab ?_;simp only[seval,gN,TQ,TR];refine aG (Lz (x:=x) (hour:=h) hx (by omega) (g0 _) (λh=>absurd h aF) (λa a' _ hb=> ?_));obtain⟨e1,e2⟩:=hb.uniq DO;subst e1 e2;(try simp only[seval,D1,sm]);have hDT:h<hn->D T.length=wid (λu=>u.aK.getD (h+1) 0-u.aK.getD h 0) T ⟨3,0⟩:=λh=>(by rw[hD,Un,if_pos h]);generalize D T.length=PD at hDT⊢;obtain⟨d1,d2⟩:=PD;(try simp only[seval,eG.l]);refine ab ?_;simp only[seval,gN,TQ,TR];refine aG (akG (x:=x) (hour:=h) hx (g0 _) (λhu=> ?_) (λ_ h=>absurd h aF) (λhu c c' _ hb5=> ?_))
   ·have e1:decide ((h:Int)<x.hours)=false:=decide_eq_false (by omega);have e2:((h:Int)==x.hours)=true:=(by rw[beq_iff_eq];omega);try simp only[seval,D1,sm]
    (repeat apply fu);refine KD (by kernel_rfl) ?_
    simp only[seval,gN,Ta,gm,yW,eQ,e1,e2,show ((0:Int)!=0)=false from rfl,show ((3:Int)!=3)=false from rfl];refine aB ?_;refine aE ?_;refine ab ?_;simp only[seval,bK];refine hR _ ⟨by omega,trivial,qy _ (jZ rfl rfl) (by simp only[seval];simp[bh,Wk.refl]) bz (by simp[dj]) rfl⟩
   ·have e1:decide ((h:Int)<x.hours)=true:=decide_eq_true (by omega);have e2:((h:Int)==x.hours)=false:=(by rw[beq_eq_false_iff_ne];omega);have aP:∀u∈bc x,0<=u.aK.getD (h+1) 0-u.aK.getD h 0/\u.aK.getD (h+1) 0-u.aK.getD h 0<=3:=λu hu=>by
     have:=((qt hx).1 hu).aK.step h (by omega);omega
    have abr:=afY (f:=λg=>g.getD (h+1) 0-g.getD h 0) (b:=⟨3,0⟩) eB (.inr λu hu=>(aP u hu).2) (.inr λu hu=>(aP u hu).1);rw[<- hT,<- hDT (by omega)]at abr;obtain⟨e3,e4⟩:=hb5.uniq abr;subst e3 e4;(try simp only[seval,D1,sm]);refine ab ?_;simp only[seval,gN,Ta,gm,yW,eQ,e1,e2,show ((0:Int)!=0)=false from rfl];refine aB ?_;refine aE ?_;refine ab ?_;simp only[seval,bK];refine hR _ ⟨by omega,trivial,qy _ (jZ rfl rfl) (by simp only[seval];simp[bh,Wk.refl]) bz (by simp[dj]) rfl⟩
 ·have eC:h=hn+1:=by omega
  subst eC;refine bD ?_;refine mB ?_ h9;exact dY (by simp only[seval];simp[bh,Wk.refl]) rfl
def akg{x:ak}{N:Nat}{G:SA}(hx:x.Ok)(aF:bc x≠[])(hN:N<G.length)(gN:∀L:SA,(G++L)[N]?=some (.cells x.l 26))(g0:∀L:SA,(G++L)[0]?=some .main)(hG:bJ G)(hH:bJ H)(hGH:∃L,G=H++L)(hk:k (bv true) H):aS true S_ none 394 (jf 9 AN) ⟨[(7,nd (bc x)),(3,.op N 0),(2,bv false)],G⟩ (tG S_ [.tmp 2] H.length k kp):=by
 unfold AN WH;dsimp only[Ua,jf,cs,cf,nd];have n_:U4 5 x.l=[aR x.aC]:=rfl;have ou:=hx.dQ;have sM:=hx.dC;have g00:G[0]?=some .main:=by have:=g0 [];rwa[To]at this
 have L8:G[N]?=some (.cells x.l 26):=by have:=gN [];rwa[To]at this
 obtain⟨M,hM⟩:∃M,G.length=M:=⟨_,rfl⟩;have gm:∀(L:SA)(j:Nat),(G++L)[M+j]?=L[j]?:=λL j=>by rw[<- hM];exact aW G L j
 have sm:∀(L:SA)(j:Nat)(y:aa),(G++L).set (M+j) y=G++L.set j y:=λL j y=>by rw[<- hM];exact dB G L j y
 have yW:∀(L:SA),(G++L)[M]?=L[0]?:=λL=>gm L 0;have FY:∀(L:SA)(y:aa),(G++L).set M y=G++L.set 0 y:=λL y=>sm L 0 y;have v7:=Qw hx;obtain⟨T,hT⟩:∃T,T=bc x:=⟨_,rfl⟩;rw[<- hT]at v7⊢;refine ah ?_;refine bF ?_;refine pL x.pieces.length (λp:Nat=>[(22,iv p)]) (λ_=>G) (λ_=>True) trivial (λbz bE p ce _ R hR=> ?_);clear bE;refine ab ?_;simp only[seval,L8,Tc,aR];refine aB ?_;refine⟨λhc=> ?_,λhc=> ?_⟩
 ·have cr:p<x.pieces.length:=by omega
  have bK:=TN p (by omega)
  refine aE ?_;refine ah ?_
  (repeat apply fu);refine nh (t:=23) (sz:=1) (el:=3) (by simp only[seval]<;>rfl) ?_
  (repeat apply fu);refine nh (t:=24) (sz:=1) (el:=3) (by simp only[seval]<;>rfl) ?_
  have D1:∀L:SA,(G++L).length=M+L.length:=λL=>by rw[Tt,hM]
  (try simp only[seval,hM,D1,Te]);obtain⟨LN,Be⟩:∃LN:Nat->SD,∀y,LN y=fi (λn=>T.any λu=>decide (u.ap.getD p 0=(n:Int))) 0 y:=⟨_,λ_=>rfl⟩;obtain⟨LH,Bd⟩:∃LH:Nat->SD,∀y,LH y=fi (λn=>T.any λu=>decide (mb u p=(n:Int))) 0 y:=⟨_,λ_=>rfl⟩;have abu:LN 0=[]:=by rw[Be];rfl
  have abt:LH 0=[]:=by rw[Bd];rfl
  refine ah ?_;refine bF ?_;refine ej 100 (λy:Nat=>[(23,.sl (LN y).length ((LN y).map iv) (.opn M)),(24,.sl (LH y).length ((LH y).map iv) (.opn (M+1))),(25,iv y)]) (λy=>G++[.tail (LN y).length 1 3,.tail (LH y).length 1 3]) (λ_=>True) (λ_ _=>rfl) (by rw[abu,abt];simp only[seval];simp[bh,Wk.refl]) (by rw[abu,abt];rfl) (λ_ _ _=>by simp) trivial (λxj bE y B0 _ R2 eY=> ?_);clear xj bE;refine ah ?_;refine aB ?_;refine⟨λbZ=> ?_,λbZ=> ?_⟩
  ·have uA:y<100:=(by omega);have c_:=TN y (by omega);obtain⟨OW,HB⟩:∃OW:Nat->Bool,∀i,OW i=(T.take i).any λu=>decide (u.ap.getD p 0=(y:Int)):=⟨_,λ_=>rfl⟩;obtain⟨IN,Hy⟩:∃IN:Nat->Bool,∀i,IN i=(T.take i).any λu=>decide (mb u p=(y:Int)):=⟨_,λ_=>rfl⟩;have amb:OW 0=false:=(by rw[HB];rfl);have ama:IN 0=false:=(by rw[Hy];rfl);refine aE ?_;refine ah ?_;refine ah ?_;refine bF ?_;refine ej T.length (λi:Nat=>[(26,bv (OW i)),(27,bv (IN i)),(28,iv i)]) (λ_=>G++[.tail (LN y).length 1 3,.tail (LH y).length 1 3]) (λ_=>True) (λ_ _=>rfl) (by rw[amb,ama];simp only[seval];simp[bh,Wk.refl]) rfl (λ_ _ _=>rfl) trivial (λBc bE i abU _ R3 gK=> ?_);clear Bc bE;refine ah ?_;refine aB ?_;refine⟨λcQ=> ?_,λcQ=> ?_⟩
   ·have bk:i<T.length:=(by omega);have iX:=TN i (by omega);obtain⟨u,hu⟩:=bA bk;have pi:=T8 hu;rw[hT]at pi;have ht:=(qt hx).1 pi;have cR:=ht.aK.len;have um:=hx.hours;have lI:=ht.sX;have dV:(0<=(i:Int)/\(i:Int)<T.length)=True:=(by simp;omega);have cU:=Ah hu;obtain⟨w,hw⟩:=bA (xs:=u.ap) (i:=p) (by omega);have jC:u.ap.getD p 0=w:=(by rw[Tf,hw];rfl);have vH:(0<=(p:Int)/\(p:Int)<(u.ap.length:Int))=True:=(by simp;omega);have hO1:OW (i+1)=(OW i||decide (w=(y:Int))):=(by rw[HB,HB,Rf hu,jC]);have hI1:IN (i+1)=(IN i||decide (mb u p=(y:Int))):=(by rw[Hy,Hy,Rf hu]);have aH:j3 u.aK w (u.aK.length-1)=mb u p:=by
     unfold mb;rw[jC];exact Qs (by omega) (by omega) ht.aK.mono
    rw[hO1,hI1]at gK;refine aE ?_;refine bF ?_;have MG:(w==(y:Int))=decide (w=(y:Int)):=(by rw[Vh];simp);have MH:(mb u p==(y:Int))=decide (mb u p=(y:Int)):=(by rw[Vh];simp);cases hO:OW i<;>cases hI:IN i
    all_goals
     rw[hO,hI]at gK;simp only[Z1,Y_]at gK;refine ab ?_;simp only[seval,cU,dV,aO,dp hw,vH,MG];refine eA 19 ?_;simp only[seval,cU,dV,aO,dp hw,vH]
     first
      |refine fE (iv (mb u p)) (cP (LA (by omega) ⟨by rw[aH],rfl⟩)) ?_
       try simp only[seval,MH]
      |skip
     refine ab ?_;simp only[seval,iX];refine gK _ ⟨bk,trivial,bX⟩
   ·have eC:i=T.length:=(by omega);subst eC;refine bD ?_;have hOT:OW T.length=T.any λu=>decide (u.ap.getD p 0=(y:Int)):=(by rw[HB,Un]);have hIT:IN T.length=T.any λu=>decide (mb u p=(y:Int)):=(by rw[Hy,Un]);have Mo:LN (y+1)=LN y++if OW T.length then[(y:Int)]else[]:=(by rw[Be,Be,RJ,hOT,axM]);have Mn:LH (y+1)=LH y++if IN T.length then[(y:Int)]else[]:=(by rw[Bd,Bd,RJ,hIT,axM]);have iV:(LN y).length<=y:=(by rw[Be];exact GP _ _ _);have hhl:(LH y).length<=y:=(by rw[Bd];exact GP _ _ _);cases hO:OW T.length<;>cases hI:IN T.length
    all_goals
     rw[hO]at Mo;rw[hI]at Mn;simp only[UD,if_true,if_false,To]at Mo Mn;rw[Mo,Mn]at eY;refine ah ?_;refine aB ?_
     first
      |skip
       refine ab ?_;simp only[seval,z1,gm,sm,yW,FY]
       first|refine⟨by decide,by omega,?_⟩|refine⟨by omega,?_⟩
      |skip
       refine aE ?_
     refine ah ?_;refine aB ?_
     first
      |skip
       refine ab ?_;simp only[seval,z1,gm,sm,yW,FY]
       first|refine⟨by decide,by omega,?_⟩|refine⟨by omega,?_⟩
      |skip
       refine aE ?_
     refine ab ?_;simp only[seval,c_];refine eY _ ⟨uA,trivial,?_⟩;simp only[Uq,Tt];exact bX
  ·have eC:y=100:=(by omega);subst eC;refine bD ?_;have hnA:LN 100=fi (rA x p) x.first 16:=(by rw[Be,hT];exact aqw hx cr);have hhA:LH 100=fi (uq x p) 0 16:=(by rw[Bd,hT];exact anz hx cr);have iV:(LN 100).length<=100:=(by rw[Be];exact GP _ _ _);have hhl:(LH 100).length<=100:=(by rw[Bd];exact GP _ _ _);rw[hnA]at iV;rw[hhA]at hhl;rw[hnA,hhA];refine ab ?_;simp only[seval,gN,TQ,TR];refine aG (aaD (q:=p) hx cr (g0 _) (λh=>absurd h aF) (λ_=> ?_));(try simp only[seval]);refine ab ?_;simp only[seval,gN,TQ,TR];refine aG (akE (q:=p) hx cr (g0 _) (λh=>absurd h aF) (λ_=> ?_));(try simp only[seval]);refine ab ?_;simp only[seval,show ((0:Int)!=0)=false from rfl];refine aG (vt (xs:=fi (rA x p) x.first 16) (ys:=fi (rA x p) x.first 16) (by omega) ?_);(try simp only[seval,decide_true]);refine aG (vt (xs:=fi (uq x p) 0 16) (ys:=fi (uq x p) 0 16) (by omega) ?_);(try simp only[seval,decide_true]);refine aB ?_;refine aE ?_;have hTn:T≠[]:=(by rw[hT];exact aF);have hTe:(bc x).isEmpty=false:=(by rw[List.isEmpty_eq_false_iff];exact aF);obtain⟨W,hW⟩:∃W,W=G++[aa.tail (fi (rA x p) x.first 16).length 1 3,.tail (fi (uq x p) 0 16).length 1 3]:=⟨_,rfl⟩;have wN:∀L:SA,(W++L)[N]?=some (.cells x.l 26):=λL=>(by rw[hW,Te];exact gN _);have JQ:W[N]?=some (.cells x.l 26):=(by have:=wN [];rwa[To]at this);have QA:W[0]?=some .main:=(by rw[hW];exact g0 _);rw[<- hW];refine ah ?_;refine bF ?_;refine pL x.pieces.length (λq:Nat=>[(33,iv q)]) (λ_=>W) (λ_=>True) trivial (λxj bE q uu _ R2 eY=> ?_);clear xj bE;refine ab ?_;simp only[seval,JQ,Tc,aR];refine aB ?_;refine⟨λbZ=> ?_,λbZ=> ?_⟩
   ·have fJ:q<x.pieces.length:=(by omega);have c_:=TN q (by omega);obtain⟨m,hm⟩:∃m:Nat->Nat,∀i,m i=((T.take i).filter λu=>decide (u.ap.getD p 0<u.ap.getD q 0)).length:=⟨_,λ_=>rfl⟩;have eB:m 0=0:=(by rw[hm];rfl);have Np:m T.length=(T.filter λu=>decide (u.ap.getD p 0<u.ap.getD q 0)).length:=(by rw[hm,Un]);refine aE ?_;refine ah ?_;refine ah ?_;refine bF ?_;refine ej T.length (λi:Nat=>[(34,iv (m i)),(35,iv i)]) (λ_=>W) (λ_=>True) (λ_ _=>rfl) (by rw[eB];simp only[seval];simp[bh,Wk.refl]) rfl (λ_ _ _=>rfl) trivial (λBc bE i abU _ R3 gK=> ?_);clear Bc bE;refine ah ?_;refine aB ?_;refine⟨λcQ=> ?_,λcQ=> ?_⟩
    ·have bk:i<T.length:=(by omega);have iX:=TN i (by omega);obtain⟨u,hu⟩:=bA bk;have pi:=T8 hu;rw[hT]at pi;have ht:=(qt hx).1 pi;have lI:=ht.sX;have dV:(0<=(i:Int)/\(i:Int)<T.length)=True:=(by simp;omega);have cU:=Ah hu;obtain⟨w,hw⟩:=bA (xs:=u.ap) (i:=p) (by omega);have jC:u.ap.getD p 0=w:=(by rw[Tf,hw];rfl);obtain⟨z,hz⟩:=bA (xs:=u.ap) (i:=q) (by omega);have hgz:u.ap.getD q 0=z:=(by rw[Tf,hz];rfl);have vH:(0<=(p:Int)/\(p:Int)<(u.ap.length:Int))=True:=(by simp;omega);have hbz:(0<=(q:Int)/\(q:Int)<(u.ap.length:Int))=True:=(by simp;omega);have sH:m i<=T.length:=(by rw[hm];exact UK (WX _ _) (by rw[Ux];omega));have xP:Tg.wrap ((m i:Int)+1)=((m i+1:Nat):Int):=(by rw[a_ _ (by omega)];rfl);have sF:m (i+1)=m i+if decide (w<z)then 1 else 0:=(by rw[hm,hm,aaS hu,jC,hgz]);refine aE ?_;refine bF ?_;refine eA 17 ?_;simp only[seval,cU,dV,aO,dp hw,dp hz,vH,hbz];cases hd:decide (w<z)
     all_goals
      rw[hd]at sF;simp only[UD,if_true,if_false,VA]at sF;rw[sF]at gK;refine aB ?_
      first
       |skip
        refine ab ?_;simp only[seval,xP]
       |skip
        refine aE ?_
      refine ab ?_;simp only[seval,iX];refine gK _ ⟨bk,trivial,bX⟩
    ·have eC:i=T.length:=(by omega);subst eC;refine bD ?_;refine ab ?_;simp only[seval,JQ,TQ,TR];by_cases kW:p=q
     ·have e1:((p:Int)!=(q:Int))=false:=(by rw[kW,bne_self_eq_false]);refine aG (aaF (a:=p) (b:=q) hx cr fJ QA (λ_=> ?_) (λh=>absurd kW h));try simp only[seval]
      (repeat apply fu);refine KD (by kernel_rfl) ?_
      simp only[seval,e1];refine aB ?_;refine aE ?_;refine ab ?_;simp only[seval,c_];refine eY _ ⟨fJ,trivial,bX⟩
     ·have e1:((p:Int)!=(q:Int))=true:=(by simp only[bne_iff_ne,ne_eq];omega);refine aG (aaF (a:=p) (b:=q) hx cr fJ QA (λh=>absurd h kW) (λ_=> ?_));rw[hTe,apv hx aF cr fJ kW,<- hT,<- Np];(try simp only[seval]);refine ab ?_;simp only[seval,e1,show ((0:Int)!=0)=false from rfl];refine aG (aaH ?_);(try simp only[seval,bne_self_eq_false]);refine aB ?_;refine aE ?_;refine ab ?_;simp only[seval,c_];refine eY _ ⟨fJ,trivial,bX⟩
   ·have eC:q=x.pieces.length:=(by omega);subst eC;refine bD ?_;refine ah ?_;refine bF ?_;refine pL x.aC.length (λs:Nat=>[(38,iv s)]) (λ_=>W) (λ_=>True) trivial (λxj bE s xK _ R2 eY=> ?_);clear xj bE;refine ab ?_;simp only[seval,JQ,n_,aR];refine aB ?_;refine⟨λbZ=> ?_,λbZ=> ?_⟩
    ·have cu:s<x.aC.length:=(by omega);have c_:=TN s (by omega);obtain⟨m,hm⟩:∃m:Nat->Nat,∀i,m i=((T.take i).filter λu=>decide (u.bR.getD s 0=p)).length:=⟨_,λ_=>rfl⟩;have eB:m 0=0:=(by rw[hm];rfl);have Np:m T.length=(T.filter λu=>decide (u.bR.getD s 0=p)).length:=(by rw[hm,Un]);refine aE ?_;refine ah ?_;refine ah ?_;refine bF ?_;refine ej T.length (λi:Nat=>[(39,iv (m i)),(40,iv i)]) (λ_=>W) (λ_=>True) (λ_ _=>rfl) (by rw[eB];simp only[seval];simp[bh,Wk.refl]) rfl (λ_ _ _=>rfl) trivial (λBc bE i abU _ R3 gK=> ?_);clear Bc bE;refine ah ?_;refine aB ?_;refine⟨λcQ=> ?_,λcQ=> ?_⟩
     ·have bk:i<T.length:=(by omega);have iX:=TN i (by omega);obtain⟨u,hu⟩:=bA bk;have pi:=T8 hu;rw[hT]at pi;have ht:=(qt hx).1 pi;have lI:=ht.z8;have dV:(0<=(i:Int)/\(i:Int)<T.length)=True:=(by simp;omega);have cU:=Ah hu;obtain⟨w,hw⟩:=bA (xs:=u.bR) (i:=s) (by omega);have jC:u.bR.getD s 0=w:=(by rw[Tf,hw];rfl);have hnw:(nl u.bR)[s]?=some (w:Int):=(by unfold nl;rw[Ut,hw];rfl);have vH:(0<=(s:Int)/\(s:Int)<((nl u.bR).length:Int))=True:=(by unfold nl;simp;omega);have sH:m i<=T.length:=(by rw[hm];exact UK (WX _ _) (by rw[Ux];omega));have xP:Tg.wrap ((m i:Int)+1)=((m i+1:Nat):Int):=(by rw[a_ _ (by omega)];rfl);have sF:m (i+1)=m i+if decide (w=p)then 1 else 0:=(by rw[hm,hm,aaS hu,jC]);have MG:((w:Int)==(p:Int))=decide (w=p):=(by rw[Vh];simp;omega);refine aE ?_;refine ab ?_;simp only[seval,cU,dV,aO,dp hnw,vH,MG];cases hd:decide (w=p)
      all_goals
       rw[hd]at sF;simp only[UD,if_true,if_false,VA]at sF;rw[sF]at gK;refine aB ?_
       first
        |skip
         refine ab ?_;simp only[seval,xP]
        |skip
         refine aE ?_
       refine ab ?_;simp only[seval,iX];refine gK _ ⟨bk,trivial,bX⟩
     ·have eC:i=T.length:=(by omega);subst eC;refine bD ?_;refine ab ?_;simp only[seval,JQ,TQ,TR];refine aG (aaC (s:=s) (q:=p) hx cu cr QA ?_);rw[hTe,aq1 aF,<- hT,<- Np];(try simp only[seval]);refine ab ?_;simp only[seval,show ((0:Int)!=0)=false from rfl];refine aG (aaH ?_);(try simp only[seval,bne_self_eq_false]);refine aB ?_;refine aE ?_;refine ab ?_;simp only[seval,c_];refine eY _ ⟨cu,trivial,bX⟩
    ·have eC:s=x.aC.length:=(by omega);subst eC;refine bD ?_;subst hW;refine ab ?_;simp only[seval,bK];refine hR _ ⟨cr,trivial,qy _ (jZ rfl rfl) (by simp only[seval];simp[bh,Wk.refl]) bz (by simp[dj]) rfl⟩
 ·have eC:p=x.pieces.length:=by omega
  subst eC;refine bD ?_;refine ah ?_;refine aG (aay g00 ?_);(try simp only[seval]);refine aT ?_;obtain⟨L,rfl⟩:=hGH;exact f_ hH (Wk.refl _) (.val _) hk
def ake{ap:SD}(hm:H[0]?=some .main)(hn:ap.length<=2^50)(hk:k (bv true) H):ba true S_ 14 H [aO ap] k kp:=by
 have oi:∀L:SA,(H++L)[0]?=some .main:=λL=>fH hm;refine bH (rs:=[.tmp 2]) (nt:=394) WH λhH hA=> ?_;simp only[bm,Tu];refine ah ?_;refine ah ?_;refine aG (akp ?_);(try simp only[seval]);refine aG (akj (pm:=3) (b:=0) (auN H) ⟨Xw _,Xw _,hn⟩ (by decide) (by decide) λx aK ap bR τ hx _ _ _ _ _=> ?_);have ou:=hx.dQ;have aP:=hx.dC;obtain⟨B,hB⟩:∃B,B=H++[An τ]:=⟨_,rfl⟩;rw[<- hB];have hBk:bJ B:=by
  rw[hB];refine BD hH λz hz m=> ?_;rw[Ub.1 hz];exact auO m τ
 have zt:∀L:SA,(B++L)[0]?=some .main:=λL=>by rw[hB,Te];exact oi _
 have b0:∀(L:SA),(B++L)[B.length]?=L[0]?:=λL=>aW B L 0;have s0:∀(L:SA)(y:aa),(B++L).set B.length y=B++L.set 0 y:=λL y=>dB B L 0 y;(try simp only[seval,ak.av,b0,s0,TQ]);refine⟨s_ x,?_⟩;refine ab ?_;simp only[seval,b0,TQ,TR];refine aG (akq hx ?_);(try simp only[seval]);refine ab ?_;simp only[seval,b0,TQ,TR];refine aG (aaz hx (zt _) ?_);(try simp only[seval]);refine ah ?_;have gz:=aiQ x;have v7:=Qw hx;obtain⟨T,hT⟩:∃T,T=bc x:=⟨_,rfl⟩;rw[<- hT]at gz v7⊢;obtain⟨m,eB⟩:∃m:Nat->Nat,∀i,m i=lx none (T.take i):=⟨_,λ_=>rfl⟩;have hmz:m 0=0:=eB 0;have hme:(m T.length:Int)=cnt x:=by rw[eB,Un];exact gz
 have sH:∀i,i<=T.length->m i<=i:=λi hi=>by
  rw[eB];have:=R7 (T.take i) none;rw[Ux]at this;omega
 refine ah ?_;refine bF ?_;refine ej T.length (λi:Nat=>[(10,iv (m i)),(11,iv i)]) (λ_=>B++[.cells x.l 26]) (λ_=>True) (λ_ _=>rfl) (by rw[hmz];simp only[seval];simp[bh,Wk.refl]) rfl (λ_ _ _=>rfl) trivial (λbz bE i ce _ R hR=> ?_);have hGk:=bz;clear bz bE;refine ab ?_;simp only[seval,nd];refine aB ?_;refine⟨λhc=> ?_,λhc=> ?_⟩
 ·have bk:i<T.length:=by omega
  have bK:=TN i (by omega)
  obtain⟨u,hu⟩:=bA bk;have pi:=T8 hu;rw[hT]at pi;have ht:=(qt hx).1 pi;have cR:=ht.aK.len;have um:=hx.hours;have dV:(0<=(i:Int)/\(i:Int)<T.length)=True:=by simp;omega
  have cU:=Ah hu;have cV:=sH i (by omega);have c_:Tg.wrap ((m i:Int)+1)=((m i+1:Nat):Int):=by rw[a_ _ (by omega)];rfl
  have o6:m (i+1)=m i+if lastH none (T.take i)=some u.aK then 0 else 1:=by rw[eB,eB];exact aiR hu
  refine aE ?_;refine bF ?_;rcases Vu i with eU|eU
  ·have hz:((i:Int)==0)=true:=(by rw[beq_iff_eq];omega);have Nm:lastH none (T.take i)=none:=(by rw[eU];rfl);rw[Nm,if_neg (by simp)]at o6;rw[o6]at hR;refine eA 17 ?_;simp only[seval,hz];refine aB ?_;refine ab ?_;simp only[seval,c_];refine ab ?_;simp only[seval,bK];refine hR _ ⟨bk,trivial,bX⟩
  ·obtain⟨j,hj⟩:∃j,i=j+1:=⟨i-1,by omega⟩;obtain⟨w,hw⟩:=bA (xs:=T) (i:=j) (by omega);have xP:=T8 hw;rw[hT]at xP;have htw:=(qt hx).1 xP;have lI:=htw.aK.len;have NU:=Ah hw;have kS:(0<=(j:Int)/\(j:Int)<T.length)=True:=(by simp;omega);have lO:Tg.wrap ((i:Int)-1)=(j:Int):=(by rw[a_ _ (by omega)];omega);have hz:((i:Int)==0)=false:=(by rw[beq_eq_false_iff_ne];omega);have Nm:lastH none (T.take i)=some w.aK:=(by rw[hj];exact ao0 hw);rw[Nm]at o6;rw[o6]at hR;refine eA 17 ?_;simp only[seval,hz,cU,NU,dV,kS,lO,aO];refine fE (bv (decide (u.aK=w.aK))) (cP (vt (by omega) ⟨rfl,rfl⟩)) ?_;(try simp only[seval]);by_cases he:u.aK=w.aK
   ·have d1:decide (u.aK=w.aK)=true:=decide_eq_true he;rw[he,if_pos rfl]at hR;(try simp only[seval,d1]);refine aB ?_;refine aE ?_;refine ab ?_;simp only[seval,bK];refine hR _ ⟨bk,trivial,bX⟩
   ·have d1:decide (u.aK=w.aK)=false:=decide_eq_false he;rw[if_neg λe=>he (WV e).symm]at hR;(try simp only[seval,d1]);refine aB ?_;refine ab ?_;simp only[seval,c_];refine ab ?_;simp only[seval,bK];refine hR _ ⟨bk,trivial,bX⟩
 ·have eC:i=T.length:=by omega
  subst eC;rw[hme];refine bD ?_;refine ab ?_;simp only[seval,bne_self_eq_false,show ((0:Int)!=0)=false from rfl];refine aB ?_;refine aE ?_;refine ah ?_;refine aB ?_;refine⟨λsr=> ?_,λsr=> ?_⟩
  ·have Mv:bc x=[]:=by
    cases h:bc x with
    |nil=>rfl
    |cons a l=>exact absurd ((Sa x).2 (by rw[h];simp)) (by omega)
   refine ab ?_;simp only[seval,b0,TQ,TR];refine aG (Lz (hour:=0) hx (by have:=hx.hours;omega) (zt _) (λ_=> ?_) (λ_ _ h=>absurd Mv h));(try simp only[seval]);refine ab ?_;simp only[seval,show ((11:Int)==11)=true from rfl];refine aG (aay (zt _) ?_);(try simp only[seval]);refine aT ?_;rw[hB,Te];exact f_ hH (Wk.refl _) (.val _) hk
  ·refine aE ?_;have aF:bc x≠[]:=λe=>by
    have:¬cnt x>0:=λh=>(Sa x).1 h e;have:cnt x>=0:=Int.natCast_nonneg _;rw[beq_eq_false_iff_ne]at sr;exact sr (by omega)
   rw[hT];have key:=akf (N:=B.length) (G:=B++[.cells x.l 26]) hx aF (by simp) (λL=>by rw[Te,b0];rfl) (λL=>by rw[Te];exact zt _) hGk (akg (k:=k) (kp:=kp) hx aF (by simp) (λL=>by rw[Te,b0];rfl) (λL=>by rw[Te];exact zt _) hGk hH ⟨_,by rw[hB,Te]⟩ hk);unfold AN WH at key;dsimp only[Ua,jf,cs,cf,nd]at key;refine mB ?_ key;exact dY (by simp only[seval];simp[bh,Wk.refl]) rfl
end
open Go.ChangeShapes Go.WideShapes Go.ChangeAt Go.RowKit
def F6 (W:Uu):View:=⟨λb o=>W.cell? ⟨b,o,none⟩,λ_=>none,0,.plain⟩
def Dv (W:Uu):Env:=⟨(F6 W).ai,1,λ_=>0,λ_ _=>(none,0),λ_=>0,λ_=>none,true⟩
def asV(W:Uu):Sat (F6 W) W:=⟨λ_ _ _ h=>h,λ_ _ h=>by cases h⟩
def aiW(W:Uu):Conc (Dv W) (F6 W) [.main]where
 I:=rfl
 n:=rfl
 obj:=λk x h=>by
  match k,h with
  |0,h=>cases h;exact rfl
  |k+1,h=>cases h
 inj:=λi j x y b hi hj h1 h2=>by
  match i,hi with
  |0,hi=>cases hi;cases h1
  |i+1,hi=>cases hi
 group:=λg h=>by cases h
 chan:=λc h=>by cases h
 top:=λ_=>⟨rfl,rfl⟩
 fr:=λb y h=>by cases h
def al0{f:UW}{W:Uu}{args:SG}{mA:SC}{Q:Uf->Prop}(hi:S_.inits.idxOf? f=none)(hd:cO (Dv W) mA args)(h:ba true S_ f [.main] mA (λa _=>∀E v,au E a v->Q v) (λ_ _=>False)):
  ∃M last o w' t',runNT S_ (M+1) (solo (G (Frame.enter S_ f args .normal) []) W) #[]=(.ended o w',t')/\runN S_ M (solo (G (Frame.enter S_ f args .normal) []) W)=.next last/\step S_ last=.ended o w'/\X0 S_ (λv w=>Q v/\Left W.heap.size W w) last o w' t':=
 alZ hi (V:=F6 W) rfl rfl rfl (asV W) (h (Dv W) (F6 W) args (aiW W) hd) λo V' r=>by
  cases o with
  |ret v=>
   obtain⟨av,E',H',_,cy,_,bx,_,hk⟩:=r;exact⟨cy,v,rfl,λw _ hl=>⟨hk _ _ bx,hl⟩⟩
  |panic ch=>
   obtain⟨pv,v,E',H',_,_,_,_,_,_,hf⟩:=r;exact hf.elim
def ai8{W:Uu}{b o len cap:Nat}{zs:SD}(hl:zs.length=len)(hc:len<=cap)(h:∀i,i<len->W.cell? ⟨b,o+i,none⟩=some (.int .i64 (zs.getD i 0))):au (Dv W) (aO zs) (.slice (some ⟨b,o,none⟩) len cap):=by
 subst hl;refine .sl b o cap (λi=> .int .i64 (zs.getD i 0)) hc trivial (λi hi=> ?_) (λi x hx=> ?_)
 ·exact h i (by simpa using hi)
 ·rw[Ut]at hx;obtain⟨z,hz,rfl⟩:=Uv.1 hx;rw[Tf,hz];exact .val _
def Left.below{W w:Uu}(h:Left W.heap.size W w):Below W.heap.size W w:=⟨h.os,h.tape,h.out,h.size,h.old⟩
def Tz.own:ownKnob S_.godebug=none:=by kernel_rfl
def Tz.laidOut:laidOutB S_=true:=by kernel_rfl
def Tz.JM:S_.underlying 22=some (.slice 3):=by kernel_rfl
def Tz.u3:S_.underlying 3=some (.int .i64):=by kernel_rfl
def Tz.u4:S_.underlying 4=some .bool:=by kernel_rfl
def Tz.c3:S_.cellsOf 3=1:=by kernel_rfl
def Tz.b3:S_.bytesOf 3=8:=by kernel_rfl
def Tz.r22:S_.readableRec 22=true:=by kernel_rfl
def Tz.OJ:22<S_.types.size:=of_decide_eq_true (by kernel_rfl)
def asv{H:Type}{enc:TypeId×Uf->H}{a:Assume}{C:Checked}{os:Os}{f:UW}{fn:ZD}{s:aw_}{conds:List PathCond}{apart fresh handsOn again:Bool}{X:Uu->Array Uf->Prop}
  (own:ownKnob C.prog.godebug=none) (started:os.Started) (zl:C.prog.funcs[f]?=some fn)
  (witness:∃(w:Uu)(tape:Tape)(i:Input),w.os=os/\(w.forCall tape i).Shaped C.prog/\i.vars=[]/\aw6 C.prog (w.forCall tape i) .any w.heap.size f i/\
   ((s.pre enc C.prog fn conds apart (w.forCall tape i).memory i.args/\X (w.forCall tape i).memory i.args)/\sizedMet enc C.prog fn (WS s) apart (w.forCall tape i).memory i.args)/\a.holds C.prog (lone (Frame.enter C.prog f i.args .normal) [] (w.forCall tape i)))
  (runs:∀(W:Uu)(base:Nat)(args:SG)(ds gs:List (axI H))(before:List MemPlace),
   (∀(j:Nat) t v,fn.params[j]?=some t->args[j]?=some v->Zw C.prog W .any base t v)->
   DataW.Whole enc C.prog fn.params.toList s.vars apart W args.toList ds gs before->
   conds.all (ax6 C.prog ⟨fn.params.toList,ds,s.plain.varTypes C.prog,gs⟩)=true->
   (ae_ C.prog (fn.params.toList++s.plain.varTypes C.prog) (ds++gs)).all (·<=reachBytes)=true->
   a.holds C.prog (lone (Frame.enter C.prog f args .normal) [] W)->
   ∃M last o w' t',runNT C.prog (M+1) (solo (G (Frame.enter C.prog f args .normal) []) W) #[]=(.ended o w',t')/\runN C.prog M (solo (G (Frame.enter C.prog f args .normal) []) W)=.next last/\
    step C.prog last=.ended o w'/\X0 C.prog (λv W'=>s.post enc C.prog fn apart fresh handsOn again W args v W') last o w' t'):
  Yz a C os f .any (λw args=>(s.pre enc C.prog fn conds apart w args/\X w args)/\sizedMet enc C.prog fn (WS s) apart w args) (s.post enc C.prog fn apart fresh handsOn again):=by
 refine returnsInLeavingWide_of_good own started witness ?_;intro w tape i _ _ _ aq NH am0;obtain⟨_,_,_,gg,amW,_,_,_,_,Iv⟩:=aq;have e:gg=fn:=WV (amW.symm.trans zl);subst e;obtain⟨⟨⟨ds,gs,before,hw,hc⟩,_⟩,hz⟩:=NH;have oy:=axH (w':=w.forCall tape i) (by rfl) hw;obtain⟨M,last,o,w',t',h1,h2,h3,h4⟩:=runs (w.forCall tape i) w.heap.size i.args ds gs before Iv oy hc (hz.weights hw) am0;exact⟨M,last,o,w',t',h1,h2,h3,h4.mono λv hp=>axU hp⟩
def agk (f:UW):Prop:=∀ap:SD,ap.length<=2^50->ba true S_ f [.main] [aO ap] (λa _=>a=bv true) (λ_ _=>False)
set_option maxRecDepth 100000 in
def aot{f:UW}{fn:ZD}{s:aw_}{X:Uu->Array Uf->Prop}(hf:S_.funcs[f]?=some fn)(hp:fn.params=#[22]) (hr:fn.resultTypes=#[4]) (hv:s.vars=[]) (hs:∀(H:Type)(d:axI H),s.fn H [d]={results:=[.lit (.bool true)],args:=[d]}) (hi:S_.inits.idxOf? f=none) (ana:agk f)
  (os:Os) (started:os.Started) (H:Type) (enc:TypeId×Uf->H)
  (aop:∃(w:Uu)(tape:Tape)(i:Input),w.os=os/\(w.forCall tape i).Shaped VD.prog/\i.vars=[]/\aw6 VD.prog (w.forCall tape i) .any w.heap.size f i/\
   ((s.pre enc VD.prog fn [] false (w.forCall tape i).memory i.args/\X (w.forCall tape i).memory i.args)/\sizedMet enc VD.prog fn (WS s) false (w.forCall tape i).memory i.args)/\({}:Assume).holds VD.prog (lone (Frame.enter VD.prog f i.args .normal) [] (w.forCall tape i))):
  Yz {} VD os f .any (λw args=>(s.pre enc S_ fn [] false w args/\X w args)/\sizedMet enc S_ fn (WS s) false w args) (s.post enc S_ fn false true false false):=by
 refine asv (C:=VD) Tz.own started hf aop ?_;intro W base args ds gs before acG hW _ NX _;have aZ:(ae_ S_ (fn.params.toList++s.plain.varTypes S_) (ds++gs)).all (·<=reachBytes)=true:=NX;clear NX;have Iv:∀(j:Nat) t v,fn.params[j]?=some t->args[j]?=some v->Zw S_ W .any base t v:=acG;have xk:=hW;obtain⟨p,q,A',hV,rfl,_,_⟩:=hW;have hA:DataW.TrodAll enc S_ W 0 (λ_=>true) true fn.params.toList args.toList ds p:=A';rw[hp]at hA Iv aZ;obtain⟨v0,d0,rfl,rfl,h0⟩:=trodAll_one hA;rw[hv]at hV;obtain⟨rfl,rfl⟩:=trodVars_none hV;have aq:=Iv 0 22 v0 rfl rfl;obtain⟨a0,len,cap,rfl⟩:=okWide_slice Tz.JM aq;have h0k:=h0;obtain⟨fuel,hfu⟩:=h0;clear A' acG;simp only[To]at xk;have hlt:∀x∈p,x.block<W.heap.size:=λx hx=>by simpa using xk.lt x hx
 have cS:∀(W':Uu),Below W.heap.size W W'->DataW.Trod enc S_ W' 0 (λb=>decide (b<W.heap.size)) true 22 (.slice a0 len cap) d0 p:=
  λW' hn=>Below.trod Tz.laidOut Tz.r22 Tz.OJ h0k hn hlt
 have close:∀ap:SD,ap.length<=2^50->au (Dv W) (aO ap) (.slice a0 len cap)->
   ∃M last o w' t',runNT VD.prog (M+1) (solo (G (Frame.enter VD.prog f #[.slice a0 len cap] .normal) []) W) #[]=(.ended o w',t')/\
    runN VD.prog M (solo (G (Frame.enter VD.prog f #[.slice a0 len cap] .normal) []) W)=.next last/\step VD.prog last=.ended o w'/\
    X0 VD.prog (λv W'=>s.post enc VD.prog fn false true false false W #[.slice a0 len cap] v W') last o w' t':=by
  intro ap hn hd;obtain⟨M,last,o,w',t',h1,h2,h3,h4⟩:=al0 (Q:=λv=>v=.bool true) (args:=#[.slice a0 len cap]) (mA:=[aO ap]) hi ⟨rfl,λi a e=>by
   match i,e with
   |0,e=>cases e;exact hd⟩ ((ana ap hn).mono (λa H' e E v bx=>by subst e;cases bx;rfl) λ_ _ h=>h)
  refine⟨M,last,o,w',t',h1,h2,h3,h4.mono λv ⟨hQ,hL⟩=> ?_⟩;subst hQ;have hb:=hL.below;refine⟨[d0],[],_,[],p,[],xk,?_,?_,by rw[hv];exact(by rw[show ([d0]++[]:List (axI H))=[d0]from rfl,hs];rfl),hb.frame _,λh=>by cases h⟩
  ·rw[show ([d0]++[]:List (axI H))=[d0]from rfl,hs,hr];exact trodAll_mk1 (shut_bool Tz.u4 true)
  ·rw[show ([d0]++[]:List (axI H))=[d0]from rfl,hs,hp];exact trodAll_mk1 (cS _ hb)
 rcases open_ints Tz.JM Tz.u3 Tz.c3 hfu with⟨pV,hx⟩|⟨a,awM,cap',zs,pV,_,hl,hm,hz,hx,MN,hwz⟩
 ·simp[axi]at pV;obtain⟨rfl,rfl,rfl⟩:=pV;exact close [] (by simp) (.nil trivial)
 ·simp[axi]at pV;obtain⟨rfl,rfl,rfl⟩:=pV;simp only[We]at hx;obtain⟨rfl,rfl⟩:=hx;simp only[if_true]at hz;have acx:a.spot=none:=by
   have:=aq;simp only[Zw,Tz.JM,Cell.okWide,Cell.ok]at this;exact this.2.2.2.1
  have awD:len* 8<=140737488355328:=by
   have:=sized_slice aZ (j:=0) (t:=22) (e:=3) rfl rfl Tz.JM;rw[Tz.b3]at this;simp only[lits,Ue,Ux,Vr,reachBytes]at this;omega
  obtain⟨bl,off,spot⟩:=a;simp only at acx;subst acx;have nv:(zs.take len).length=len:=by rw[Ux];omega
  refine close (zs.take len) (by rw[nv];omega) (ai8 nv hl λi hi=> ?_);have:=MN i (by omega);rw[show (ayc ⟨bl,off,none⟩ i)=⟨bl,off+i,none⟩ by simp[ayc]]at this;rw[this,Tf,Tf,List.getElem?_take_of_lt hi]
def acO:List (SE):=[99,117,116]::[97,116]::[[70,105,114,115,116],[87,105,100,101,114],[71,105,118,101,110],[65,112,97,114,116],[70,111,114,103,101,100],[82,101,97,100],[71,114,101,97,116,101,114],[77,105,120,101,100],[84,114,117,101],[83,116,101,112,115],[79,114,100,101,114],[65,108,108]].map ([103,108,97,100,115,116,111,110,101,47,103,108,97,100,115,116,111,110,101,108,97,119,48,49,46,84,105,99,107,101,116]++·)
def acN:SE:=[104,97,114,110,101,115,115,32,52,53,102,100,53,51,53,49,102,55,99,100,57,55,51,53,100,100,102,52,98,97,54,100,48,51,53,50,49,55,53,54,101,100,101,54,101,54,99,53,99,99,52,49,57,100,50,53,55,100,49,55,57,50,99,52,48,101,97,100,49,102,57,101]++acO.flatMap (32::·)
set_option maxRecDepth 100000 in
def ioL:S_.initOrder.toList=acN.map af_:=by
 have h:S_.initOrder=String.ofList (acN.map af_):=by kernel_rfl
 rw[h,String.toList_ofList]
def Ot:List (List Char):=acO.map λl=>l.map af_
set_option maxRecDepth 100000 in
def ioW:behindMainWord (wordsSigns S_.initOrder.toList)=Ot:=by
 rw[ioL]
 kernel_rfl
section
variable {P:Tl}{c:List Char}{rest:List (List Char)}
def ap6 (h : behindMainWord (wordsSigns P.initOrder.toList) = c :: rest) (hc : c = "cut".toList) (h1 : stripLifts liftWords (c :: rest) = ([], c :: rest)) (h2 : P.laysLater = false) (h3 : P.bearsReflect = false) (h4 : P.doorFits [] = true) : P.mayEnter = true := by
 unfold ayd;rw[h];subst hc;simp only[h1,h2,h3,h4,av_,beq_self_eq_true,apT,Yt,Y_,Bool.or_true,axp,Vt]
def amT (h : behindMainWord (wordsSigns P.initOrder.toList) = c :: rest) (hc : c = "cut".toList) (h1 : stripLifts liftWords (c :: rest) = ([], c :: rest)) : P.headLifts = [] := by
 unfold ayg;rw[h];simp only[h1,ite_self]
def apy (h : behindMainWord (wordsSigns P.initOrder.toList) = c :: rest) (hc : c = "cut".toList) (h1 : stripLifts liftWords (c :: rest) = ([], c :: rest)) : P.liftsFinal = false := by
 unfold ayf;rw[amT h hc h1, h];subst hc;simp only [av_, apT, ZE];have : (some "cut".toList == some "carried".toList) = false := by decide +kernel
 rw[this,Wj]
def ap0 (h : behindMainWord (wordsSigns P.initOrder.toList) = c :: rest) (hc : c = "cut".toList) : P.make = some .cut := by
 unfold aye;rw[h];subst hc;have e1 : ("cut".toList == "gc".toList) = false := by decide +kernel
 have e2 : ("cut".toList == "spec".toList) = false := by decide +kernel
 simp only[e1,e2,Bool.or_self,UD,if_false,beq_self_eq_true,Z1,if_true]
end
def IH:List Char:=Ot.headD []
def Oo:List (List Char):=Ot.tail
def Oq:behindMainWord (wordsSigns S_.initOrder.toList)=IH::Oo:=ioW.trans (by kernel_rfl)
def On : IH = "cut".toList := by kernel_rfl
def ioS:stripLifts liftWords (IH::Oo)=([],IH::Oo):=by kernel_rfl
def Tz.mayEnter:S_.mayEnter=true:=ap6 Oq On ioS (by kernel_rfl) (by kernel_rfl) (by kernel_rfl)
def Tz.apx:S_.liftsFinal=false:=apy Oq On ioS
def Tz.make:S_.make=some .cut:=ap0 Oq On
def aoG{P:Tl}{f:UW}{fn:ZD}{s:aw_}{c:Zi}
  (k0:(c.wf (WS s))=true)
  (k1:(laidOutB P)=true)
  (k2:(mapsRowed P)=true)
  (k3:(fn.params.all (P.readableRec ·))=true)
  (k4:(namedTie P c.named s.vars)=true)
  (k5:(c.stops==[])=true)
  (k6:(P.stops==[])=true)
  (k7:(c.knobs==[])=true)
  (k8:(P.stopKnobs==[])=true)
  (k9:(c.inPlace==P.inPlace f)=true)
  (Fc:(c.unfollowed==P.unfollowed f)=true)
  (Ox:(c.recurses==P.recurses f)=true)
  (B3:(c.named==P.varsNamed f)=true)
  (Oy:(c.maps==(fn.params.toList++s.plain.varTypes P).any (P.mapsRec ·))=true)
  (Fe:(c.ifaces==(fn.params.toList++s.plain.varTypes P).any (P.ifacesRec ·))=true)
  (Oz:(c.mapsOut==P.mapsAmong fn.resultTypes.toList)=true)
  (OA:(c.loops==(fn.params.toList++s.plain.varTypes P).any (P.loopsFrom ·))=true)
  (OC:(c.wideKeys==(fn.params.toList++s.plain.varTypes P++fn.resultTypes.toList).any (P.wideKeysFrom ·))=true)
  (k18:(s.vars.all (P.varReadable ·))=true)
  (k19:(fn.resultTypes.all (λt=>P.readableRec t&&decide (t<P.types.size)))=true)
  (OD:(c.ifacesOut==fn.resultTypes.toList.any (P.ifacesRec ·))=true)
  (OE:(c.loopsOut==fn.resultTypes.toList.any (P.loopsFrom ·))=true)
  (OF:(c.plainKeys==P.plainKeys)=true)
  (OG:(c.shortTexts.isNone)=true)
  (OH:(P.stopsHeard)=true)
  (OI:(P.mayEnter)=true)
  (k26:(c.lifted==P.liftsFinal)=true)
  (k27:(P.make==some c.make)=true)
  (k28:c.domain.isEmpty=true) (aoJ:c.kinds=[])
  (k29:(c.pinned==c.pinnedBy)=true)
  (k30:(c.veiled==(fn.params.toList++s.plain.varTypes P++fn.resultTypes.toList).any (P.veiledRec ·))=true)
  (k31:(c.veiledFits P fn.params.toList (fn.params.toList++s.plain.varTypes P++fn.resultTypes.toList))=true):joinedFacts P f fn s c=true:=by
 simp only[joinedFacts,k0,k1,k2,k3,k4,k5,k6,k7,k8,k9,Fc,Ox,B3,Oy,Fe,Oz,OA,OC,k18,k19,OD,OE,OF,OG,OH,OI,k26,k27,k28,aoJ,if_true,beq_self_eq_true,k29,k30,k31,axp]
def apw{c:Zi}(h:c.lifted=false):(c.lifted==S_.liftsFinal)=true:=by rw[Tz.apx,h];rfl
def ap1{c:Zi}(h:c.make=.cut):(S_.make==some c.make)=true:=by rw[Tz.make,h];rfl
end Go.Gg
namespace Go.Proofs.YtkanpclgnhdbiaaGreatDoor
open Go.Conc Go.Proofs Go.Gg
def auM(Lk:Looks){p:Pinned}{s:OpenSpec}{c:Zi}(al:List (List PathCond))(kinds:List LaidKind)(JH:Bool)(ud:Bool×String)(lk:Bool)
  (hc:c.holds p s) (ij:∀D∈al,(c.withDomain D).holds p s) (hw:c.wfByText s=true) (aom:∀D∈al,(c.withDomain D).wfByText s=true)
  (aoh:c.laidByTextAt Lk p kinds JH)
  (aP:c.start=.entering) (uo:c.noBlocks=false/\c.again=false) (hm:p.checked.prog.mainIs=some (ud.1,ud.2.toList)) (hn:(!ud.1&&ud.2.isEmpty&& !lk)=false)
  (hl:∀f fn,p.checked.prog.funcNamed c.func=some f->p.checked.prog.funcs[f]?=some fn->lk=p.checked.prog.looks []/\∀(j:Nat) t,fn.params[j]?=some t->p.checked.prog.wantsStandIn t=false)
  (hg:true=c.goesBy p.checked.prog):
  Claim7.holds p (.plain s) {stood:={row:=c,standIns:=[],harness:=ud,looks:=lk},kinds:=[],alts:=al,goes:=true,laidByText:=true,laidKinds:=kinds,laidTests:=JH,laidLooks:=Lk}:=by
 have h6:∀r:Zi,an' {stood:={row:=r,standIns:=[],harness:=ud,looks:=lk},kinds:=[]}=false:=λr=>by simpa[an']using hn
 refine⟨ZZ Lk kinds JH (ZL hc ud lk aP uo hm (h6 c) hl) hw,λD hD=> ?_,aoh,(λh=>by cases h),hg⟩;exact ZZ Lk kinds JH (ZL (ij D hD) ud lk aP uo hm (h6 _) hl) (aom D hD)
def ac2:S_.funcNamed Rows.ticketAllRow.func=some 14:=by kernel_rfl
def ao4:joinedFacts S_ 14 WH Rows.ticketAllSpec Rows.ticketAllRow=true:=
 aoG (by kernel_rfl) Tz.laidOut (by kernel_rfl) (by kernel_rfl) (by kernel_rfl) (by kernel_rfl) (by kernel_rfl) (by kernel_rfl) (by kernel_rfl) (by kernel_rfl) (by kernel_rfl) (by kernel_rfl) (by kernel_rfl) (by kernel_rfl) (by kernel_rfl) (by kernel_rfl) (by kernel_rfl) (by kernel_rfl) (by kernel_rfl) (by kernel_rfl) (by kernel_rfl) (by kernel_rfl) (by kernel_rfl) (by kernel_rfl) (by kernel_rfl) Tz.mayEnter (apw (by kernel_rfl)) (ap1 (by kernel_rfl)) (by kernel_rfl) (by kernel_rfl) (by kernel_rfl) (by kernel_rfl) (by kernel_rfl)
def ao3:WH.isInstance S_ Rows.ticketAllRow.origin Rows.ticketAllRow.targs:=of_decide_eq_true (by kernel_rfl)
def ao5:WH.isWrapper S_ Rows.ticketAllRow.wrapper Rows.ticketAllRow.mainSum:=by unfold Func.isWrapper;first|(rw[if_pos (by decide+kernel)];kernel_rfl)|(rw[if_neg (by decide+kernel)];exact⟨rfl,rfl⟩)
def ao2(os:Os)(args:SG):laidMetH S_ Rows.ticketAllRow.laid ((ap_ S_ 400 os).forCall (λ_ _=>0) ⟨#[],args,[]⟩).memory:=
 laidMetH_of_parts (laidMet_nil _ _) (by kernel_rfl)
def ao6(os:Os)(started:os.Started)(H:Type)(enc:TypeId×Uf->H):
  Yz {} VD os 14 .any (λw args=>(Rows.ticketAllSpec.pre enc S_ WH [] false w args/\laidMetH S_ Rows.ticketAllRow.laid w)/\sizedMet enc S_ WH (WS Rows.ticketAllSpec) false w args) (Rows.ticketAllSpec.post enc S_ WH false true false false):=
 aot (f:=14) (fn:=WH) (s:=Rows.ticketAllSpec) (X:=λw _=>laidMetH S_ Rows.ticketAllRow.laid w) ZV rfl rfl rfl (λ_ _=>rfl) (by kernel_rfl) (λap hn=>ake rfl hn rfl) os started H enc
  (axT (enc:=enc) (C:=VD) (os:=os) (X:=λw _=>laidMetH S_ Rows.ticketAllRow.laid w) false (ap_ S_ 400 os) #[.slice none 0 0] 8 rfl (World.shaped_of_RefB (by kernel_rfl) (by kernel_rfl)) (by kernel_rfl) (by kernel_rfl) (by kernel_rfl) (ao2 os _))
def auL:Rows.TicketAllSaid:=
 axX 14 WH rfl rfl rfl rfl rfl rfl rfl ⟨rfl,rfl,rfl,rfl,rfl⟩ rfl rfl rfl rfl rfl ac2 ZV ao4 ao3 ao5
  (λos started H enc _=>ao6 os started H enc)
theorem ticketAllCard_holds:Rows.TicketAllCardSaid:=
 auM .later [] [.handle] true (true, "45fd5351f7cd9735ddf4ba6d03521756ede6e6c5cc419d257d1792c40ead1f9e") true
  auL (λ_ h=>by cases h) (by kernel_rfl) (λ_ h=>by cases h) ticketAll_row_tie rfl ⟨rfl,rfl⟩ (by kernel_rfl) rfl
  (λf fn hf zl=>by
   obtain rfl:f=14:=WV (ac2.symm.trans hf)|>.symm;obtain rfl:fn=WH:=(WV (ZV.symm.trans zl)).symm;exact⟨by kernel_rfl,λj t ht=>by
    rw[show WH.params=#[22]from rfl]at ht;have h3:t=22:=by
     rcases j with _|j
     ·simpa using ht.symm
     ·simp at ht
    subst h3;exact(show S_.wantsStandIn 22=false by kernel_rfl)⟩)
  (by kernel_rfl)
end Go.Proofs.YtkanpclgnhdbiaaGreatDoor
