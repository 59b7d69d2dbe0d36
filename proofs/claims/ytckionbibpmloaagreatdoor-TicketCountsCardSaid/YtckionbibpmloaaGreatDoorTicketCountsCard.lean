/- For every argument, TicketCounts returns true and does not panic, in any order in which its goroutines run; errors.errorType starts as the text of the program lays it. -/
import Derived.Test.YtckionbibpmloaaGreatDoorTicketCountsCard4
import Derived.Conc.LeavingOf
import Derived.Conc.Holds
import Derived.ProofKit
import Derived.Test.YtckionbibpmloaaGreatDoorChecked
import Derived.LaidMore
import Derived.Test.YtckionbibpmloaaGreatDoorRows
import Derived.SevenTiedAt
import Derived.Test.YtckionbibpmloaaGreatDoorTie
import Derived.Test.YtckionbibpmloaaGreatDoorCards
set_option linter.all false
set_option maxRecDepth 4000
set_option maxHeartbeats 4000000
open Array renaming getD_eq_getD_getElem?->Th,getElem?_eq_some_iff->Tw,mem_of_getElem?->Z8
open Bool renaming and_false->awX,and_self->axn,eq_iff_iff->Ve,false_and->Ww,false_eq_true->UH,false_or->ar_,not_false->W5,not_true->Xn,or_false->axm,true_and->VO,true_or->axA
open Char renaming ofNat->aj_
open Go renaming Addr->Wy,ChangeSpec->aw_,Code->U5,DataW->ZD,Field->aw7,Func->aw5,FuncId->UR,IntKind->UZ,MemPlace->Yg,OpenClaim->Zt,Oper->Vp,Program->Tl,ReturnsInLeavingWide->YL,Value->T9,World->Us
open Go.ChangeSpec renaming post_blind->axU,witness_shaped->axT
open Go.Claim7 renaming isSixth->aq',new_of_sixth->ZX,tied_new_at->Z6
open Go.Conc renaming Good->YA
open Go.DataW renaming Trod->Yy,TrodAll->Xs,trod->Zh,trod_slice->an_,weightsEach->Xi
open Go.DataW.Whole renaming of_heap->axI
open Go.Input renaming okWide->aw4
open Go.IntKind renaming i64->Tg
open Go.OpenClaim renaming holds_of_wide_leaving->axY
open Go.OpenSpec renaming ofChange->WT
open Go.PathCond renaming test->ax5
open Go.Program renaming headLifts->aye,liftsFinal->ayd,make->ayc,mayEnter->ayb
open Go.Proofs.Tryz renaming checked->Wv,f3->XD,f47->Yu,f84->YP,func3->ag_,prog->BI
open Go.Proofs.YtckionbibpmloaaGreatDoor.Rows renaming laid_errors_errorType->Wu
open Go.Value renaming agg->Uy,cells->Y8,int->S_,okWide->WZ,slice->UP
open Go.World renaming cell?->VA,cells?_some->ae',doorLaid->at2
open Int renaming le_refl->YF,mul_le_mul->axt,toNat_natCast->WO
open List renaming all_eq_true->Uq,any_eq_true->VP,append_assoc->Ev,append_eq->WC,append_nil->Ts,cons_append->WX,contains_iff_mem->Xt,contains_nil->ats,drop->U7,drop_drop->axL,drop_eq_getElem_cons->UL,drop_eq_nil_of_le->UX,drop_zero->Wx,eq_nil_of_length_eq_zero->WS,filter_append->YO,filter_congr->WB,find?_cons->aw0,flatMap_append->VX,flatMap_cons->UT,forall_mem_cons->W3,getD_eq_getElem?_getD->Tf,getElem?_append_left->T6,getElem?_append_right->Uc,getElem?_cons_succ->VL,getElem?_eq_getElem->T4,getElem?_eq_some_iff->Tn,getElem?_map->Ur,getElem?_of_mem->Wl,getElem?_range->awZ,getElem?_set->VZ,getElem?_set_ne->Vd,getElem?_take->Vh,getLast?_eq_getElem?->XV,getLastD_eq_getLast?->Wc,head?_cons->awY,length_append->Tp,length_cons->U4,length_drop->Vm,length_map->Um,length_nil->Vz,length_set->UK,length_singleton->Uw,length_take->Vl,lookup->axf,map->We,map_append->UA,map_nil->Zk,mem_append->T1,mem_append_left->Uk,mem_append_right->T7,mem_cons->Tm,mem_cons_of_mem->Ue,mem_cons_self->UC,mem_filter->Vx,mem_flatMap->T8,mem_map->Uh,mem_of_getElem?->Un,mem_of_mem_take->YN,mem_or_eq_of_mem_set->VD,mem_range->UB,mem_singleton->Ub,nodup_iff_pairwise_ne->VJ,not_mem_nil->T5,pairwise_map->asI,range->Tt,replicate->UQ,set_append_left->VE,set_append_right->Vg,take->U9,take_add->axe,take_add_one->WY,take_append_drop->W2,take_length->Ux,take_of_length_le->Tu,take_sublist->ak',take_succ_eq_append_getElem->VH
open List.Nodup renaming sublist->ZA
open Nat renaming add_assoc->VY,add_sub_cancel->X7,add_sub_cancel_left->UU,add_zero->Vr,eq_zero_or_pos->Vf,le_refl->Tv,le_trans->UJ,pow_le_pow_right->XL,reduceAdd->Tq,sub_self->WV,succ_mul->WW,zero_add->WK,zero_le->YS,zero_mul->Y9
open Option renaming bind_eq_some_iff->Uj,getD_some->T_,map_eq_some_iff->Uu,toList_some->ZZ
open Option.some renaming inj->V_
open Prod.mk renaming injEq->VW
namespace Go.Gg
open Go.Conc Go.Proofs Go.Gg.Tk
def KJ{lv P r nt ops o s}{Φ:SI}(es ord:SE){pl:List pX}(Hf:SE->SA)(h:fI lv P Hf ops pl s (Φ .normal) ⟨0⟩)(ha:pP ops o:=by repeat first|exact .base|apply pP.add)(an:od nt o es ord=true:=by kernel_rfl)(cJ:IZ o es ord=pl:=by conv=>lhs;cbv)(h0:s.H=Hf []:=by first|rfl|simp only[seval]):DG lv P r nt ops o s Φ:=av8 ha es ord pl Hf an cJ h0 h
def jc (t:Tr):AV:=.agg [aV t.bG,aV t.aC,aV (gB t.bL)]
def mW (o:Option Tr):AV:=match o with
 |some t=> .aJ [jc t,bv true]
 |none=> .aJ [jc ⟨[],[],[]⟩,bv false]
section
variable {lv:Bool}
def acA(n:Nat)(t:Tr):Lt n (jc t)=True:=by unfold jc aV;rw[lT,eq_iff_iff,iff_true];intro a ha;simp only[Tm,T5,or_false]at ha;rcases ha with rfl|rfl|rfl<;>(rw[sX];intro a ha;obtain⟨v,_,rfl⟩:=Uh.1 ha;exact .val _)
def zL(n:Nat)(o:Option Tr):Lt n (mW o):=by
 cases o with
 |none=>show Lt n (.aJ [jc ⟨[],[],[]⟩,bv false]);rw[iw];intro a ha;simp only[Tm,T5,or_false]at ha;rcases ha with rfl|rfl;rw[acA];trivial;exact .val _
 |some t=>show Lt n (.aJ [jc t,bv true]);rw[iw];intro a ha;simp only[Tm,T5,or_false]at ha;rcases ha with rfl|rfl;rw[acA];trivial;exact .val _
def Te{H:List aa}:∀(L:SA)(y:aa),(H++L).set (H.length+4) y=H++L.set 4 y:=λL y=>cG H L 4 y
def Sq{x:aj}{w:Want}{h ns:SD}(hx:x.Ok)(nH:0<=w.x)(rM:w.kind=2->0<=w.y)(hh:h.length<=4)(gA:ns.length=x.pieces.length)(m:Nat)
  (ih:∀m',m'+1=m->∀{os:SE}{e1 e2 e3:End}{H:SA}{k kp:SF},os.length+m'=x.aq.length->k (mW (og (fH w) h ns (x.aq.drop os.length) os)) H->aS lv BI 84 H [x.av,w.av,qU h ns os e1 e2 e3] k kp):
  ∀{os:SE}{e1 e2 e3:End}{H:SA}{k kp:SF},os.length+m=x.aq.length->k (mW (og (fH w) h ns (x.aq.drop os.length) os)) H->aS lv BI 84 H [x.av,w.av,qU h ns os e1 e2 e3] k kp:=by
 intro os e1 e2 e3 H k kp By hk;refine br (rs:=[.cell 6 109,.tmp 7]) (nt:=144) YP λhH hA=> ?_;simp only[ba,Tq,aj.av,Want.av,Want.l,qU];have qw:=hx.ey;have zq:=hx.di;have lL:∀L:SA,(H++L).length=H.length+L.length:=λL=>Tp;have zB:Tg.wrap ((ns.length:Int)+os.length)=(ns.length:Int)+os.length:=bt _ (by omega);have zK:(gB os).length=os.length:=Um _;refine ab ?_;simp only[seval,TM];have ew:fH w ns os=true->og (fH w) h ns (x.aq.drop os.length) os=none:=λe=>by cases x.aq.drop os.length<;>(unfold og;rw[if_pos e])
 have go:fH w ns os=false->aW lv BI none 144 (lr 2 ((YP.body).getD .skip)) ⟨[(7,bv false),(6,.op (H.length+3) 0),(5,.op (H.length+2) 0),(4,.op (H.length+1) 0),(3,.op H.length 0)],H++[.cells x.l 25,.cells w.l 113,.cells [.sl h.length (h.map iv) e1,.sl ns.length (ns.map iv) e2,.sl os.length ((gB os).map iv) e3] 109,.cells [.sl 0 [] .exact,.sl 0 [] .exact,.sl 0 [] .exact] 109]⟩ (rX BI [.cell 6 109,.tmp 7] H.length k kp):=λhr=>by
  unfold YP;dsimp only[T_,lr,cs,cf];refine ab ?_;simp only[seval,TP];have d1:decide ((ns.length:Int)<x.pieces.length)=false:=decide_eq_false (by omega);refine ab ?_;simp only[seval,TM,aG,TN,d1];refine ao ?_;refine aF ?_;refine ab ?_;simp only[seval,TP];rcases Vf m with hm|hm
  ·have d2:((os.length:Int)==x.aq.length)=true:=(by rw[beq_iff_eq];omega);have hE:og (fH w) h ns (x.aq.drop os.length) os=some ⟨h,ns,os⟩:=by rw[UX (by omega)];unfold og;rw[hr];rfl
   rw[hE]at hk;refine ab ?_;simp only[seval,TN,d2];refine ao ?_;refine ab ?_;simp only[seval,TP,TW,Tb];refine jR ?_;simp only[seval,TW];exact dS (b:=mW (some ⟨h,ns,os⟩)) hH (wz (uP (.cons (dQ _ _ _) (.cons (dQ _ _ _) (.cons (show Wk _ (aV (gB os)) by rw[aV,zK];exact dQ _ _ _) .nil)))) (Wk.refl _)) (zL _ _) hk
  ·have d2:((os.length:Int)==x.aq.length)=false:=(by rw[beq_eq_false_iff_ne];omega);have cy:os.length<x.aq.length:=(by omega);obtain⟨s,hs⟩:=bF cy;have po:x.aq.drop os.length=s::x.aq.drop (os.length+1):=by rw[UL cy];congr 1;rw[T4 cy]at hs;exact V_ hs
   obtain⟨cd,yZ⟩:∃cd:Nat->Bool,cd=λp=>fits h s (ns.getD p 0)&& !os.contains p:=⟨_,rfl⟩;obtain⟨g,hg⟩:∃g:Nat->Option Tr,g=λp=>og (fH w) h ns (x.aq.drop (os.length+1)) (os++[p]):=⟨_,rfl⟩;have hE:og (fH w) h ns (x.aq.drop os.length) os=((Tt ns.length).filter cd).findSome? g:=by rw[po,yZ,hg];show (if fH w ns os=true then(none:Option Tr)else((Tt ns.length).filter λp=>fits h s (ns.getD p 0)&& !os.contains p).findSome? λp=>og (fH w) h ns (x.aq.drop (os.length+1)) (os++[p]))=_;rw[if_neg (by rw[hr];decide)]
   rw[hE]at hk;have jm:∀p:Nat,(gB os).contains (p:Int)=os.contains p:=λp=>by
    rw[Ve,Xt,Xt];unfold gB;rw[Uh];constructor
    ·rintro⟨q,hq,e⟩
     have:q=p:=(by omega);rw[<- this];exact hq
    ·intro hq;exact⟨p,hq,rfl⟩
   refine ab ?_;simp only[seval,TN,d2];refine ao ?_;refine aF ?_;refine ai ?_;refine bO ?_;refine nj ns.length (λp:Nat=>[(13,iv p)]) (λ_=>_) (λi=>((Tt i).filter cd).findSome? g=none) rfl (λbN cm p ce an RR hR=> ?_);clear cm;refine ab ?_;simp only[seval,TN];refine ao ?_;refine⟨λhc=> ?_,λhc=> ?_⟩
   ·have cJ:p<ns.length:=(by omega);have bz:=TL p (by omega);obtain⟨v,hv⟩:=bF cJ;have kU:ns.getD p 0=v:=(by rw[Tf,hv];rfl);have hbp:=fy cJ;have Hh:=fy cy;refine aF ?_;refine bO ?_;refine cS 20 ?_;simp only[seval,oR hs,dn hv,hbp,Hh,TN,TP];have hq:=λ{k kp} hk=>R7 (lv:=lv) (H:=H++[.cells x.l 25,.cells w.l 113,.cells [.sl h.length (h.map iv) e1,.sl ns.length (ns.map iv) e2,.sl os.length ((gB os).map iv) e3] 109,.cells [.sl 0 [] .exact,.sl 0 [] .exact,.sl 0 [] .exact] 109]) (k:=k) (kp:=kp) (xs:=gB os) (n:=(p:Int)) (e:=e3) (by rw[zK];omega) hk;rw[zK]at hq;refine dG (bv ((gB os).contains (p:Int))) (bX (hq ⟨rfl,rfl⟩)) ?_;rw[jm];have sD:cd p=(fits h s v&& !os.contains p):=(by rw[yZ];dsimp only;rw[kU]);have eU:(cd p=true->g p=none)->((Tt (p+1)).filter cd).findSome? g=none:=λh=>aat an h;cases c1:os.contains p with
    |true=>have nA:cd p=false:=(by rw[sD,c1,Xn,awX]);(try simp only[seval]);refine ao ?_;refine bT ?_;refine ab ?_;simp only[seval,bz];refine hR _ ⟨cJ,eU (λe=>by rw[nA]at e;cases e),cK⟩
    |false=>
    (try simp only[seval,oR hs,dn hv,hbp,Hh,TN,TP]);refine dG (bv (fits h s v)) (bX (Sr (y:=s) (by omega) ⟨rfl,rfl⟩)) ?_;cases c2:fits h s v with
    |false=>have nA:cd p=false:=(by rw[sD,c2,Ww]);(try simp only[seval]);refine ao ?_;refine bT ?_;refine ab ?_;simp only[seval,bz];refine hR _ ⟨cJ,eU (λe=>by rw[nA]at e;cases e),cK⟩
    |true=>
    have D5:cd p=true:=(by rw[sD,c1,c2];rfl);(try simp only[seval]);refine ao ?_;refine aF ?_;have vB:∀(L:SA),(H++L)[H.length+4]?=L[4]?:=λL=>aP H L 4;obtain⟨u,hu⟩:∃u,u=(g p).getD ⟨[],[],[]⟩:=⟨_,rfl⟩;have fu:mW (g p)=.aJ [jc u,bv (g p).isSome]:=(by rw[hu];cases g p<;>rfl);have aI:U9 os.length (We iv (gB os))=We iv (gB os):=Tu (by rw[Um,zK];exact Tv _);have ur:∀(e':End)(H':SA)(k kp:SF),k (.aJ [jc u,bv (g p).isSome]) H'->aS lv BI 84 H' [x.av,w.av,.agg [.sl h.length (h.map iv) e1,.sl ns.length (ns.map iv) e2,.sl (os.length+1) ((gB os).map iv++[iv (p:Int)]) e']] k kp:=λe' H' k kp hk=>by rw[<- fu]at hk;have:=ih (m-1) (by omega) (os:=os++[p]) (e1:=e1) (e2:=e2) (e3:=e') (H:=H') (k:=k) (kp:=kp) (by rw[Tp];simp;omega) (by rw[Tp,Uw];rw[hg]at hk;exact hk);unfold qU gB at this;rw[Tp,UA,UA]at this;exact this
    (repeat apply ii);refine Gk [9,12,18,19] [0,1,2,3,4,5,6,7,8,9,10,11,12,13,14,15,16,17,18,19,20] F.mixed (by kernel_rfl) ?_;refine qa 18 9 rfl ?ga ?gb
    case' ga=>refine KJ [9,12,18,19] (Tt 21) (λD=>H++(.cells x.l 25:: .cells w.l 113:: .cells [.sl h.length (h.map iv) e1,.sl ns.length (ns.map iv) e2,.sl os.length ((gB os).map iv) e3] 109:: .cells [.sl 0 [] .exact,.sl 0 [] .exact,.sl 0 [] .exact] 109::((bif isDone 12 D then[.tail (os.length+1) 1 3]else bif isDone 9 D then[.tail os.length 1 3]else[])++(bif isDone 19 D then[.cells [aV u.bG,aV u.aC,aV (gB u.bL)] 109]else bif isDone 18 D then[.cells [.sl 0 [] .exact,.sl 0 [] .exact,.sl 0 [] .exact] 109]else[])))) ?_;(try simp only[seval,TM,z1,TN,TO,TP,vB,Te,Tc,Td,lL,zK,Want.l,aG,aI,uI]);refine⟨by omega,by omega,by omega,?_⟩;refine dG (.aJ [jc u,bv (g p).isSome]) (bX (ur _ _ _ _ ⟨rfl,rfl⟩)) ?_;refine⟨dG (.aJ [jc u,bv (g p).isSome]) (bX (ur _ _ _ _ ⟨rfl,rfl⟩)) rfl,?_⟩;(try simp only[seval,jc]);refine⟨⟨rfl,rfl,rfl⟩,?_⟩
    case' gb=>refine KJ [18,9,12,19] [0,1,2,3,4,5,6,7,8,10,11,18,9,12,13,14,15,16,17,19,20] (λD=>H++(.cells x.l 25:: .cells w.l 113:: .cells [.sl h.length (h.map iv) e1,.sl ns.length (ns.map iv) e2,.sl os.length ((gB os).map iv) e3] 109:: .cells [.sl 0 [] .exact,.sl 0 [] .exact,.sl 0 [] .exact] 109::((bif isDone 19 D then[.cells [aV u.bG,aV u.aC,aV (gB u.bL)] 109]else bif isDone 18 D then[.cells [.sl 0 [] .exact,.sl 0 [] .exact,.sl 0 [] .exact] 109]else[])++(bif isDone 12 D then[.tail (os.length+1) 1 3]else bif isDone 9 D then[.tail os.length 1 3]else[])))) ?_;(try simp only[seval,TM,z1,TN,TO,TP,vB,Te,Tc,Td,lL,zK,Want.l,aG,aI,uI]);refine⟨by omega,by omega,?_⟩;refine dG (.aJ [jc u,bv (g p).isSome]) (bX (ur _ _ _ _ ⟨rfl,rfl⟩)) ?_;(try simp only[seval,jc]);refine⟨⟨rfl,rfl,rfl⟩,?_⟩
    all_goals
     cases lH:g p with
     |none=>(try simp only[seval]);refine ai ?_;refine ao ?_;refine aF ?_;refine ab ?_;simp only[seval,bz];refine hR _ ⟨cJ,eU (λ_=>lH),(Ft bN)⟩
     |some t=>have EE:u=t:=(by rw[hu,lH];rfl);rw[aas cJ an D5 lH]at hk;subst EE;(try simp only[seval]);refine ai ?_;refine ao ?_;refine ab ?_;simp only[seval,TW,Tb,vB,Tc];refine⟨⟨rfl,rfl,rfl⟩,?_⟩;refine jR ?_;simp only[seval,TW];exact dS (b:=mW (some u)) hH (Wk.refl _) (zL _ _) hk
   ·have sM:p=ns.length:=(by omega);subst sM;rw[an]at hk;refine bT ?_;refine ab ?_;simp only[seval,TW,Tb];refine jR ?_;simp only[seval,TW];exact dS (b:=mW none) hH (wz (uP (.cons (dQ _ _ _) (.cons (dQ _ _ _) (.cons (dQ _ _ _) .nil)))) (Wk.refl _)) (zL _ _) hk
 by_cases c0:0<ns.length+os.length
 ·have d0:decide ((ns.length:Int)+os.length>0)=true:=decide_eq_true (by omega);refine ab ?_;simp only[seval,TO,TP,zB,d0];refine aK (R8 (w:=w) (h:=h) (ns:=ns) (os:=os) (by omega) (by omega) nH rM ?_);have mM:fH w ns os=jL w ns os:=by unfold fH;rw[decide_eq_true (by omega),VO]
  cases hr:jL w ns os with
  |true=>rw[ew (by rw[mM,hr])]at hk;(try simp only[seval]);refine ao ?_;refine ab ?_;simp only[seval,TW,Tb];refine jR ?_;simp only[seval,TW];exact dS (b:=mW none) hH (wz (uP (.cons (dQ _ _ _) (.cons (dQ _ _ _) (.cons (dQ _ _ _) .nil)))) (Wk.refl _)) (zL _ _) hk
  |false=>(try simp only[seval]);refine ao ?_;refine aF ?_;refine nk ?_ (go (by rw[mM,hr]));exact ep (by simp only[seval];simp[bE,Wk.refl]) rfl
 ·have d0:decide ((ns.length:Int)+os.length>0)=false:=decide_eq_false (by omega);refine ab ?_;simp only[seval,TO,TP,zB,d0];refine ao ?_;refine aF ?_;refine nk ?_ (go (by unfold fH;rw[decide_eq_false (by omega)];rfl));exact ep (by simp only[seval];simp[bE,Wk.refl]) rfl
def Sp{x:aj}{w:Want}{h ns:SD}(hx:x.Ok)(nH:0<=w.x)(rM:w.kind=2->0<=w.y)(hh:h.length<=4)(gA:ns.length=x.pieces.length):∀(m:Nat){os:SE}{e1 e2 e3:End}{H:SA}{k kp:SF},os.length+m=x.aq.length->k (mW (og (fH w) h ns (x.aq.drop os.length) os)) H->aS lv BI 84 H [x.av,w.av,qU h ns os e1 e2 e3] k kp
 |0=>Sq hx nH rM hh gA 0 λm' h=>absurd h (by omega)
 |m+1=>Sq hx nH rM hh gA (m+1) λm' h'=>by
  obtain rfl:m'=m:=by omega
  exact Sp hx nH rM hh gA m'
end
section
variable {lv:Bool}{H:SA}{k kp:SF}
end
end Go.Gg
namespace Go.Gg.Tk
def ext:SD->SD->SD
 |pre,[]=>pre
 |pre,i::st=>ext (pre++[pre.getLastD 0+i]) st
end Go.Gg.Tk
namespace Go.Gg
open Go.Gg.Tk
namespace Tk
end Tk
open Go.Conc Go.Proofs Go.Gg.Tk
section
variable {lv:Bool}{H:SA}{k kp:SF}
structure F5 (x:aj)(h:SD):Prop where
 len:(h.length:Int)=x.hours+1
 mono:tF h
 span:h.getLastD 0-h.headD 0<=9
 head:0<=h.headD 0/\h.headD 0<=90
end
section
variable {lv:Bool}
def So{x:aj}{w:Want}{h:SD}(hx:x.Ok)(nH:0<=w.x)(rM:w.kind=2->0<=w.y)(hh:F5 x h)(m:Nat)
  (ih:∀m',m'+1=m->∀{ns:SD}{e1 e2 e3:End}{H:SA}{k kp:SF},ns.length+m'=x.pieces.length->k (mW (nu (fH w) h x.aq (x.pieces.drop ns.length) ns)) H->aS lv BI 84 H [x.av,w.av,qU h ns [] e1 e2 e3] k kp):
  ∀{ns:SD}{e1 e2 e3:End}{H:SA}{k kp:SF},ns.length+m=x.pieces.length->k (mW (nu (fH w) h x.aq (x.pieces.drop ns.length) ns)) H->aS lv BI 84 H [x.av,w.av,qU h ns [] e1 e2 e3] k kp:=by
 intro ns e1 e2 e3 H k kp gA hk;have sF:=hx.hours;have hlen:=hh.len;rcases Vf m with hm|hm;rw[UX (by omega)]at hk;unfold nu at hk;exact Sp hx nH rM (by omega) (by omega) x.aq.length (os:=[]) (by simp) (by rw[Vz,Wx];exact hk);refine br (rs:=[.cell 6 109,.tmp 7]) (nt:=144) YP λhH hA=> ?_;simp only[ba,Tq,aj.av,Want.av,Want.l,qU,gB,Zk,Vz];have qw:=hx.ey;have zq:=hx.di;have qz:=hh.span;have hhd:=hh.head;have lL:∀L:SA,(H++L).length=H.length+L.length:=λL=>Tp;have zB:Tg.wrap ((ns.length:Int)+(0:Nat))=(ns.length:Int)+(0:Nat):=bt _ (by omega);have pC:Tg.wrap ((ns.length:Int)+0)=(ns.length:Int):=by rw[Int.add_zero];exact bt _ (by omega)
 refine ab ?_;simp only[seval,TM];have ew:fH w ns []=true->nu (fH w) h x.aq (x.pieces.drop ns.length) ns=none:=λe=>by
  have bh:ns.length<x.pieces.length:=by omega
  rw[UL bh];unfold nu;rw[if_pos e]
 have go:fH w ns []=false->aW lv BI none 144 (lr 2 ((YP.body).getD .skip)) ⟨[(7,bv false),(6,.op (H.length+3) 0),(5,.op (H.length+2) 0),(4,.op (H.length+1) 0),(3,.op H.length 0)],H++[.cells x.l 25,.cells w.l 113,.cells [.sl h.length (h.map iv) e1,.sl ns.length (ns.map iv) e2,.sl 0 [] e3] 109,.cells [.sl 0 [] .exact,.sl 0 [] .exact,.sl 0 [] .exact] 109]⟩ (rX BI [.cell 6 109,.tmp 7] H.length k kp):=λhr=>by
  unfold YP;dsimp only[T_,lr,cs,cf];refine ab ?_;simp only[seval,TP];have d1:decide ((ns.length:Int)<x.pieces.length)=true:=decide_eq_true (by omega);refine ab ?_;simp only[seval,TM,aG,TN,d1];refine ao ?_;have cJ:ns.length<x.pieces.length:=by omega
  obtain⟨y,hy⟩:=bF cJ;have po:x.pieces.drop ns.length=y::x.pieces.drop (ns.length+1):=by rw[UL cJ];congr 1;rw[T4 cJ]at hy;exact V_ hy
  obtain⟨a,l,rfl⟩:∃a l,h=a::l:=by
   cases h with
   |nil=>simp at hlen;omega
   |cons a l=>exact⟨a,l,rfl⟩
  rw[List.headD_cons]at hhd qz;obtain⟨sp,abL⟩:∃sp:Nat,sp=((a::l).getLastD 0-a).toNat:=⟨_,rfl⟩;obtain⟨cd,yZ⟩:∃cd:Nat->Bool,cd=λi:Nat=>fits (a::l) y (a+(i:Int))&& !ns.contains (a+(i:Int)):=⟨_,rfl⟩;obtain⟨g,hg⟩:∃g:Nat->Option Tr,g=λi:Nat=>nu (fH w) (a::l) x.aq (x.pieces.drop (ns.length+1)) (ns++[a+(i:Int)]):=⟨_,rfl⟩;have hE:nu (fH w) (a::l) x.aq (x.pieces.drop ns.length) ns=((Tt sp).filter cd).findSome? g:=by rw[po,yZ,hg,abL];show (if fH w ns []=true then(none:Option Tr)else((xJ (a::l)).filter λn=>fits (a::l) y n&& !ns.contains n).findSome? λn=>nu (fH w) (a::l) x.aq (x.pieces.drop (ns.length+1)) (ns++[n]))=_;rw[if_neg (by rw[hr];decide),apZ];rfl
  rw[hE]at hk;have g0:(a::l)[0]?=some a:=rfl;have rA:(a::l)[x.hours.toNat]?=some ((a::l).getLastD 0):=by have e:x.hours.toNat=(a::l).length-1:=(by omega);rw[e,Wc,XV];rw[T4 (by simp)];rfl
  obtain⟨z,hz⟩:∃z,z=(a::l).getLastD 0:=⟨_,rfl⟩;rw[<- hz]at rA abL qz;have rl:(0:Int)<((a::l).length:Int):=by omega
  have ny:(0<=x.hours/\x.hours<((a::l).length:Int))=True:=by simp only[eq_iff_iff,iff_true];omega
  have hib:=fy cJ;have i0:=dn g0;have i1:=dn rA;generalize(a::l)=h at*;refine ab ?_;simp only[seval,TP,i0,rl];refine bO ?_;refine nj sp (λi:Nat=>[(9,iv (a+(i:Int)))]) (λ_=>_) (λi=>((Tt i).filter cd).findSome? g=none) rfl (λbN cm i ce an RR hR=> ?_);clear cm;have nw:0<=a+(i:Int)/\a+(i:Int)<=99:=by omega
  refine ab ?_;simp only[seval,TN,TP,ny,i1];refine ao ?_;refine⟨λhc=> ?_,λhc=> ?_⟩
  ·have bh:i<sp:=(by omega);have bz:Tg.wrap (a+(i:Int)+1)=a+((i+1:Nat):Int):=(by rw[bt _ (by omega)];omega);refine aF ?_;refine bO ?_;refine cS 16 ?_;simp only[seval,oR hy,hib,TN,TP];refine dG (bv (ns.contains (a+(i:Int)))) (bX (R7 (xs:=ns) (e:=e2) (by omega) ⟨rfl,rfl⟩)) ?_;have sD:cd i=(fits h y (a+(i:Int))&& !ns.contains (a+(i:Int))):=(by rw[yZ]);have eU:(cd i=true->g i=none)->((Tt (i+1)).filter cd).findSome? g=none:=λh=>aat an h;cases c1:ns.contains (a+(i:Int))with
   |true=>have nA:cd i=false:=(by rw[sD,c1,Xn,awX]);(try simp only[seval]);refine ao ?_;refine bT ?_;refine ab ?_;simp only[seval,bz];refine hR _ ⟨bh,eU (λe=>by rw[nA]at e;cases e),cK⟩
   |false=>
   (try simp only[seval,oR hy,hib,TN,TP]);refine dG (bv (fits h y (a+(i:Int)))) (bX (Sr (y:=y) (by omega) ⟨rfl,rfl⟩)) ?_;cases c2:fits h y (a+(i:Int))with
   |false=>have nA:cd i=false:=(by rw[sD,c2,Ww]);(try simp only[seval]);refine ao ?_;refine bT ?_;refine ab ?_;simp only[seval,bz];refine hR _ ⟨bh,eU (λe=>by rw[nA]at e;cases e),cK⟩
   |true=>
   have D5:cd i=true:=(by rw[sD,c1,c2];rfl);(try simp only[seval]);refine ao ?_;refine aF ?_;have vB:∀(L:SA),(H++L)[H.length+4]?=L[4]?:=λL=>aP H L 4;obtain⟨u,hu⟩:∃u,u=(g i).getD ⟨[],[],[]⟩:=⟨_,rfl⟩;have fu:mW (g i)=.aJ [jc u,bv (g i).isSome]:=(by rw[hu];cases g i<;>rfl);have aI:U9 ns.length (We iv ns)=We iv ns:=Tu (by rw[Um];exact Tv _);have ur:∀(e' AW:End)(H':SA)(k kp:SF),k (.aJ [jc u,bv (g i).isSome]) H'->aS lv BI 84 H' [x.av,w.av,.agg [.sl h.length (h.map iv) e1,.sl (ns.length+1) (ns.map iv++[iv (a+(i:Int))]) e',.sl 0 [] AW]] k kp:=λe' AW H' k kp hk=>by rw[<- fu]at hk;have:=ih (m-1) (by omega) (ns:=ns++[a+(i:Int)]) (e1:=e1) (e2:=e') (e3:=AW) (H:=H') (k:=k) (kp:=kp) (by rw[Tp];simp;omega) (by rw[Tp,Uw];rw[hg]at hk;exact hk);unfold qU gB at this;rw[Tp,UA]at this;exact this
   (repeat apply ii);refine Gk [7,10,16,17] [0,1,2,3,4,5,6,7,8,9,10,11,12,13,14,15,16,17,18] F.mixed (by kernel_rfl) ?_;refine qa 16 7 rfl ?ga ?gb
   case' ga=>refine KJ [7,10,16,17] (Tt 19) (λD=>H++(.cells x.l 25:: .cells w.l 113:: .cells [.sl h.length (h.map iv) e1,.sl ns.length (ns.map iv) e2,.sl 0 [] e3] 109:: .cells [.sl 0 [] .exact,.sl 0 [] .exact,.sl 0 [] .exact] 109::((bif isDone 10 D then[.tail (ns.length+1) 1 3]else bif isDone 7 D then[.tail ns.length 1 3]else[])++(bif isDone 17 D then[.cells [aV u.bG,aV u.aC,aV (gB u.bL)] 109]else bif isDone 16 D then[.cells [.sl 0 [] .exact,.sl 0 [] .exact,.sl 0 [] .exact] 109]else[])))) ?_;(try simp only[seval,TM,z1,TN,TO,TP,vB,Te,Tc,Td,lL,Want.l,aG,aI,uI]);refine⟨by omega,by omega,by omega,?_⟩;refine dG (.aJ [jc u,bv (g i).isSome]) (bX (ur _ _ _ _ _ ⟨rfl,rfl⟩)) ?_;refine⟨dG (.aJ [jc u,bv (g i).isSome]) (bX (ur _ _ _ _ _ ⟨rfl,rfl⟩)) rfl,?_⟩;(try simp only[seval,jc]);refine⟨⟨rfl,rfl,rfl⟩,?_⟩
   case' gb=>refine KJ [16,7,10,17] [0,1,2,3,4,5,6,8,9,16,7,10,11,12,13,14,15,17,18] (λD=>H++(.cells x.l 25:: .cells w.l 113:: .cells [.sl h.length (h.map iv) e1,.sl ns.length (ns.map iv) e2,.sl 0 [] e3] 109:: .cells [.sl 0 [] .exact,.sl 0 [] .exact,.sl 0 [] .exact] 109::((bif isDone 17 D then[.cells [aV u.bG,aV u.aC,aV (gB u.bL)] 109]else bif isDone 16 D then[.cells [.sl 0 [] .exact,.sl 0 [] .exact,.sl 0 [] .exact] 109]else[])++(bif isDone 10 D then[.tail (ns.length+1) 1 3]else bif isDone 7 D then[.tail ns.length 1 3]else[])))) ?_;(try simp only[seval,TM,z1,TN,TO,TP,vB,Te,Tc,Td,lL,Want.l,aG,aI,uI]);refine⟨by omega,by omega,?_⟩;refine dG (.aJ [jc u,bv (g i).isSome]) (bX (ur _ _ _ _ _ ⟨rfl,rfl⟩)) ?_;(try simp only[seval,jc]);refine⟨⟨rfl,rfl,rfl⟩,?_⟩
   all_goals
    cases lH:g i with
    |none=>(try simp only[seval]);refine ai ?_;refine ao ?_;refine aF ?_;refine ab ?_;simp only[seval,bz];refine hR _ ⟨bh,eU (λ_=>lH),(Ft bN)⟩
    |some t=>have EE:u=t:=(by rw[hu,lH];rfl);rw[aas bh an D5 lH]at hk;subst EE;(try simp only[seval]);refine ai ?_;refine ao ?_;refine ab ?_;simp only[seval,TW,Tb,vB,Tc];refine⟨⟨rfl,rfl,rfl⟩,?_⟩;refine jR ?_;simp only[seval,TW];exact dS (b:=mW (some u)) hH (Wk.refl _) (zL _ _) hk
  ·have sM:i=sp:=(by omega);subst sM;rw[an]at hk;refine bT ?_;refine ab ?_;simp only[seval,TW,Tb];refine jR ?_;simp only[seval,TW];exact dS (b:=mW none) hH (wz (uP (.cons (dQ _ _ _) (.cons (dQ _ _ _) (.cons (dQ _ _ _) .nil)))) (Wk.refl _)) (zL _ _) hk
 by_cases c0:0<ns.length
 ·have d0:decide ((ns.length:Int)>0)=true:=decide_eq_true (by omega);refine ab ?_;simp only[seval,TO,TP,pC,d0];refine aK (R8 (w:=w) (h:=h) (ns:=ns) (os:=[]) (by omega) (by simp) nH rM ?_);have mM:fH w ns []=jL w ns []:=by unfold fH;rw[decide_eq_true (by rw[Vz];omega),VO]
  cases hr:jL w ns []with
  |true=>rw[ew (by rw[mM,hr])]at hk;(try simp only[seval]);refine ao ?_;refine ab ?_;simp only[seval,TW,Tb];refine jR ?_;simp only[seval,TW];exact dS (b:=mW none) hH (wz (uP (.cons (dQ _ _ _) (.cons (dQ _ _ _) (.cons (dQ _ _ _) .nil)))) (Wk.refl _)) (zL _ _) hk
  |false=>(try simp only[seval]);refine ao ?_;refine aF ?_;refine nk ?_ (go (by rw[mM,hr]));exact ep (by simp only[seval];simp[bE,Wk.refl]) rfl
 ·have d0:decide ((ns.length:Int)>0)=false:=decide_eq_false (by omega);refine ab ?_;simp only[seval,TO,TP,pC,d0];refine ao ?_;refine aF ?_;refine nk ?_ (go (by unfold fH;rw[decide_eq_false (by rw[Vz];omega)];rfl));exact ep (by simp only[seval];simp[bE,Wk.refl]) rfl
def Sn{x:aj}{w:Want}{h:SD}(hx:x.Ok)(nH:0<=w.x)(rM:w.kind=2->0<=w.y)(hh:F5 x h):∀(m:Nat){ns:SD}{e1 e2 e3:End}{H:SA}{k kp:SF},ns.length+m=x.pieces.length->k (mW (nu (fH w) h x.aq (x.pieces.drop ns.length) ns)) H->aS lv BI 84 H [x.av,w.av,qU h ns [] e1 e2 e3] k kp
 |0=>So hx nH rM hh 0 λm' h=>absurd h (by omega)
 |m+1=>So hx nH rM hh (m+1) λm' h'=>by
  obtain rfl:m'=m:=by omega
  exact Sn hx nH rM hh m'
end
def amH{x:aj}(hx:x.Ok){h:SD}(hh:h∈aQ x):F5 x h:=by have h1:=((abh hx).1 hh).1;have nG:=h1.top hx.first hx.am (by have:=hx.hours;omega) x.hours.toNat (Tv _);have hl:=h1.len;have sF:=hx.hours;exact⟨by rw[hl];omega,h1.mono,by rw[ach h1,Mq h1];omega,by rw[Mq h1];exact hx.first⟩
namespace Tk
def abi (x:aj):List (SD):=(aQ x).filter λh=>(nu (fH ⟨0,0,0⟩) h x.aq x.pieces []).isSome
def amG(x:aj):abi x=live x:=by
 unfold abi live;refine WB λh _=> ?_;rw[alI];cases hh:nO x h with
 |nil=>rfl
 |cons a l=>rw[aw0,aqi _ rfl];rfl
variable {x:aj}
end Tk
open Go.Conc Go.Proofs Go.Gg.Tk
def amJ{x:aj}(hx:x.Ok):(aQ x).length<=64:=by
 have:=Hw (x:=x) (by have:=hx.am;omega) x.hours.toNat [x.first];have h3:x.hours.toNat<=3:=by have:=hx.hours;omega
 refine UJ this (UJ (XL (by omega) h3) (by decide))
section
variable {lv:Bool}
def akC{x:aj}{H:SA}{k kp:SF}(hx:x.Ok)(hk:k (ln (live x)) H):aS lv BI 56 H [x.av] k kp:=by
 refine br (rs:=[.tmp 2]) (nt:=39) Tryz.f56 λhH hA=> ?_;simp only[ba,Tq,aj.av];have sF:=hx.hours;have jD:=hx.first;have lL:∀L:SA,(H++L).length=H.length+L.length:=λL=>Tp;have fE:=amJ hx;refine ab ?_;simp only[seval,TM];refine ai ?_
 (repeat apply ii);refine tM (t:=3) (sz:=1) (el:=30) (by simp only[seval]<;>rfl) ?_;refine ab ?_;simp only[seval,TM,z1,uI,TN];refine aK (Sl hx x.hours.toNat (pre:=[x.first]) (v:=x.first) rfl (by simp;omega) (by simp;omega) ?_);rw[show eG x x.hours.toNat [x.first]=aQ x from rfl];obtain⟨l,hl⟩:∃l,l=aQ x:=⟨_,rfl⟩;have e_:∀h∈l,F5 x h:=λh hh=>amH hx (by rw[<- hl];exact hh);obtain⟨g,hg⟩:∃g:SD->Option Tr,g=λh=>nu (fH ⟨0,0,0⟩) h x.aq x.pieces []:=⟨_,rfl⟩;have hE:live x=l.filter λh=>(g h).isSome:=by rw[hl,hg,<- amG];rfl
 rw[hE]at hk;rw[<- hl]at fE⊢;clear hl;(try simp only[seval,ln]);refine ai ?_;refine bO ?_;have iV:∀i,((l.take i).filter λh=>(g h).isSome).length<=i:=λi=>UJ (List.length_filter_le _ _) (List.length_take_le ..);obtain⟨o,ho⟩:∃o:Nat->SS,o=λi=>(l.take i).filter λh=>(g h).isSome:=⟨_,rfl⟩;have vQ:∀i,(o i).length<=i:=λi=>by rw[ho];exact iV i
 have HG:o 0=[]:=by rw[ho];rfl
 have M8:o l.length=l.filter λh=>(g h).isSome:=by rw[ho];dsimp only;rw[Ux]
 have By:∀i h,l[i]?=some h->o (i+1)=o i++if(g h).isSome then[h]else[]:=λi h hh=>by rw[ho];dsimp only;obtain⟨hj,rfl⟩:=Tn.1 hh;rw[VH hj,YO,List.filter_cons,List.filter_nil]
 clear ho iV;refine gU l.length (λi:Nat=>[(5,iv (i:Int)),(3,.sl (o i).length ((o i).map aV) (.opn (H.length+1)))]) (λi=>H++[.cells x.l 25,.tail (o i).length 1 30]) (λi=>True) (λ_ _=>rfl) (by rw[HG];simp only[seval];simp[bE,Wk.refl]) (by rw[HG];rfl) (λ_ _ _=>by simp) trivial (λbN cm i ce an RR hR=> ?_);have abw:∀n,bJ (H++[.cells x.l 25,.tail n 1 30]):=λn=>HJ (H:=H) (L:=[.cells x.l 25]) (c:=.tail 0 1 30) (c':=.tail n 1 30) bN λ_=>trivial;clear cm;refine ai ?_;refine ao ?_;refine⟨λhc=> ?_,λhc=> ?_⟩
 ·have bh:i<l.length:=by omega
  obtain⟨h,hh⟩:=bF bh;have bz:=TL i (by omega);have dA:=fy bh;have hHR:=e_ h (sZ hh);have aU:=By i h hh;have awv:=vQ i;obtain⟨u,hu⟩:∃u,u=(g h).getD ⟨[],[],[]⟩:=⟨_,rfl⟩;have fu:mW (g h)=.aJ [jc u,bv (g h).isSome]:=by rw[hu];cases g h<;>rfl
  have ur:∀(H':SA)(k kp:SF),k (.aJ [jc u,bv (g h).isSome]) H'->aS lv BI 84 H' [x.av,.agg [iv 0,iv 0,iv 0],.agg [.sl h.length (h.map iv) .shut,.sl 0 [] .exact,.sl 0 [] .exact]] k kp:=λH' k kp hk=>by rw[<- fu]at hk;have:=Sn (lv:=lv) (w:=⟨0,0,0⟩) hx (by decide) (by decide) hHR x.pieces.length (ns:=[]) (e1:=.shut) (e2:=.exact) (e3:=.exact) (H:=H') (k:=k) (kp:=kp) (by simp) (by rw[Vz,Wx];rw[hg]at hk;exact hk);exact this
  refine aF ?_;refine bO ?_;refine mC [11,12] (Tt 14) (λD=>H++(.cells x.l 25:: .tail (o i).length 1 30::(bif isDone 12 D then[.cells [aV u.bG,aV u.aC,aV (gB u.bL)] 109]else bif isDone 11 D then[.cells [.sl 0 [] .exact,.sl 0 [] .exact,.sl 0 [] .exact] 109]else[]))) ?_;simp only[seval,TM,Jb hh,dA,TN,TO,TP,TU,lL,aV,aG];refine dG (.aJ [jc u,bv (g h).isSome]) (bX (ur _ _ _ ⟨rfl,rfl⟩)) ?_;refine⟨dG (.aJ [jc u,bv (g h).isSome]) (bX (ur _ _ _ ⟨rfl,rfl⟩)) rfl,?_⟩;(try simp only[seval,jc]);refine⟨⟨rfl,rfl,rfl⟩,rfl,?_⟩;cases lH:g h with
  |none=>rw[lH]at aU;simp only[Option.isSome_none,UH,if_false,Ts]at aU;(try simp only[seval]);refine ai ?_;refine ao ?_;refine aF ?_;refine ab ?_;simp only[seval,bz];refine hR _ ⟨bh,trivial,?_⟩;rw[aU];refine Ce [.cells [aV u.bG,aV u.aC,aV (gB u.bL)] 109] (oI rfl rfl) ?_ (abw _) ?_ (by simp[aV,TM,aG]);(try simp only[seval];simp[bE,Wk.refl]);simp only[W3,dF,EX,iv];simp
  |some t=>have EE:u=t:=(by rw[hu,lH];rfl);rw[lH]at aU;simp only[Option.isSome_some,if_true]at aU;subst EE;(try simp only[seval]);refine ai ?_;refine ao ?_;have a_:((o i).map aV).length=(o i).length:=Um _;refine ab ?_;simp only[seval,FR,uI,Jb hh,dA,TO,a_,aV];refine⟨by omega,?_⟩;refine ab ?_;simp only[seval,bz];refine hR _ ⟨bh,trivial,?_⟩;rw[aU];refine Ce [.cells [aV u.bG,aV u.aC,aV (gB u.bL)] 109] (oI rfl rfl) ?_ (abw _) ?_ (by simp[aV,TM,aG]);(try simp only[seval,UA,Tp,Uw,aV];simp[bE,Wk.refl]);simp only[W3,dF,EX,iv];simp
 ·have sM:i=l.length:=by omega
  subst sM;rw[M8];refine bT ?_;refine ai ?_;refine aH ?_;exact dS (b:=ln _) hH (dQ _ _ _) (by rw[BX];trivial) hk
end
namespace Tk
end Tk
open Go.Gg.Tk
variable {x:aj}{s:Seen}
namespace Tk
end Tk
open Go.Gg.Tk
namespace Tk
end Tk
open Go.Gg.Tk
namespace Tk
end Tk
open Go.Gg.Tk
def Gu (x:aj):Int:=if eK x=0 then cnt x else 0
open Go.Conc Go.Proofs
section
variable {lv:Bool}{H:SA}{k kp:SF}
def aj9{x:aj}(hk:k (.aJ [iv (Gu x),iv (eK x)]) H):aS lv BI 17 H [x.av] k kp:=by
 refine br (rs:=[.tmp 2,.tmp 3]) (nt:=13) Tryz.f17 λhH hA=> ?_;simp only[ba,Tq,aj.av];refine ab ?_;simp only[seval,TM];refine ab ?_;simp only[seval,TM,TN];refine aK (Sc (x:=x) ?_);(try simp only[seval]);unfold Gu at hk;by_cases c1:eK x=0
 ·rw[c1]at hk⊢;refine ab ?_;simp only[seval,show ((0:Int)!=0)=false from rfl];refine ao ?_;refine aF ?_;refine ab ?_;simp only[seval,TM,TN];refine aK (akC (wV.1 c1) ?_);(try simp only[seval,ln]);refine aH ?_;rw[if_pos rfl]at hk;exact dS hH (Wk.refl _) (by simp[iw,dF]) hk
 ·rw[if_neg c1]at hk;have d0:(eK x !=0)=true:=by simpa using c1
  refine ab ?_;simp only[seval,d0];refine ao ?_;refine ai ?_;refine aH ?_;exact dS hH (Wk.refl _) (by simp[iw,dF]) hk
end
section
variable {lv:Bool}{P:Tl}{r:SL}{o:Vp}{s:AS}{next:SV}{bad:AV->SV}
def ahg{nt id sz:Nat}{c:U5}{l:SC}{el:TypeId}{Φ:SI}(b_:s.H[id]?=some (.own sz l el))(h:aW lv P r nt c ⟨s.T,s.H.set id (.part l.length l el)⟩ Φ):aW lv P r nt c s Φ:=λE V a Q ak hQ=>by
 have hc:=ak.bx;obtain⟨⟨cs,eO,hd,_⟩,lI⟩:=hc.obj id _ b_;have g:eg V (V.fe (E.blk id) cs (λo=>decide (o<l.length))):=yN eO (λo _=>lI o);refine WP.ghost g ?_;have hI:∀b o v,E.I b o=some v->(V.fe (E.blk id) cs (λo=>decide (o<l.length))).ah b o=some v:=λb o v e=>by
  rw[hc.I]at e;have hb:b≠E.blk id:=λhb=>by rw[hb,lI]at e;cases e
  simp only[View.fe];rw[if_neg (λx=>hb x.1)];exact e
 have hle:E.Le {E with I:=(V.fe (E.blk id) cs (λo=>decide (o<l.length))).ah}:=⟨hI,Tv _,λ_ _=>rfl,λ_ _=>Tv _,λ_ _ _ _=>rfl,rfl,rfl⟩;have cg:Conc {E with I:=(V.fe (E.blk id) cs (λo=>decide (o<l.length))).ah} (V.fe (E.blk id) cs (λo=>decide (o<l.length))) (s.H.set id (.part l.length l el)):=by refine hc.ja id _ hle rfl (by rw[UK];exact hc.n) lS rfl (λ_ _ _=>rfl) (λb y ew hy=>⟨hy,λo=> ?_⟩) ⟨⟨cs,eO,hd.mono hle,λo ho=> ?_⟩,λo ho=> ?_⟩ (λb hb=> .inl ⟨_,b_,hb⟩);(have hb:b≠E.blk id:=λhb=>ew _ b_ (by rw[hb];rfl);simp only[View.fe];rw[if_neg (λx=>hb x.1)]);simp only[View.fe];rw[if_pos ⟨trivial,by simpa using ho⟩];simp only[View.fe];rw[if_neg (λx=>by have:=x.2;simp at this;omega)];exact lI o
 exact h _ _ a Q ⟨cg,ak.tok.mono hle,ak.size⟩ λae e E' aZ a' s' hk=>hQ ae e E' aZ a' s' ((⟨hle,rfl,rfl,rfl,rfl⟩:Kept E _ V (V.fe (E.blk id) cs (λo=>decide (o<l.length))) a a).trans hk)
end
section
variable {lv:Bool}{H:SA}{k kp:SF}
end
def ad9{ys:SY}{p:Nat}{y:aD}{s:Nat}{l:SC}(hp:p<ys.length)(e:y.l=l):U9 (p* 4) (ys.flatMap aD.l)++l++U7 (p* 4+4) (ys.flatMap aD.l)=(ys.set p y).flatMap aD.l:=by subst e;rw[List.set_eq_take_append_cons_drop,if_pos hp,VX,UT,Lv aD.len,show p* 4+4=(p+1)* 4 by omega,yK aD.len,Ev]
def as3{ys:SY}{p:Nat}{y:aD}(hy:ys[p]?=some y)(a b:Int):U9 (p* 4+0) (ys.flatMap aD.l)++[iv a,iv b]++U7 (p* 4+0+2) (ys.flatMap aD.l)=(ys.set p ⟨⟨a,b⟩,y.hour⟩).flatMap aD.l:=by
 obtain⟨hp,rfl⟩:=Tn.1 hy;rw[<- ad9 (s:=0) (p:=p) (y:=⟨⟨a,b⟩,ys[p].hour⟩) hp rfl];have e:U7 (p* 4+2) (ys.flatMap aD.l)=iv ys[p].hour.min::iv ys[p].hour.max::U7 (p* 4+4) (ys.flatMap aD.l):=by
  have h1:U7 (p* 4) (ys.flatMap aD.l)=ys[p].l++U7 (p* 4+4) (ys.flatMap aD.l):=by rw[yK aD.len,show p* 4+4=(p+1)* 4 by omega,yK aD.len,UL hp,UT]
  rw[<- axL,h1];rfl
 rw[Vr,e];simp[aD.l,eX.l]
section
variable {lv:Bool}{P:Tl}{r:SL}
def ahf{nt:Nat}{c:U5}{T:SH}{H:SA}{BR pE j cap:Nat}{ps:SY}{l:SC}{el:TypeId}{Φ:SI}(h1:H[BR]?=some (.own 4 (ps.flatMap aD.l) 68))(h2:H[pE]?=some (.cells l el))(aN:BR≠pE)(h3:l[j]?=some (.bB BR 0 ps.length cap))(h:aW lv P r nt c ⟨T,(H.set BR (.part (ps.length* 4) (ps.flatMap aD.l) 68)).set pE (.cells (l.set j (aG ps)) el)⟩ Φ):aW lv P r nt c ⟨T,H⟩ Φ:=by
 have hl:(ps.flatMap aD.l).length=ps.length* 4:=uC aD.len _;refine ahg (id:=BR) h1 ?_;have hlt:=(Tn.1 h1).1;refine Ke (id:=pE) (j:=j) (y:=aG ps) (el:=el) (by rw[Vd aN];exact h2) h3 ?_ ?_
 ·have e:aG ps=.sl ps.length ((ps.flatMap aD.l).take (ps.length* 4)) .shut:=by rw[Tu (by omega)];rfl
  rw[e];exact Jt (p:=(ps.flatMap aD.l).length) (l:=ps.flatMap aD.l) (el:=68) (by rw[VZ,if_pos rfl,if_pos hlt]) (by omega) (by omega)
 ·rw[hl];exact h
end
section
variable {lv:Bool}{P:Tl}{r:SL}{s:AS}
def ahe{nt:Nat}{α:Type}{lt:α->α->Prop}(wf:WellFounded lt){c:U5}{Φ:SI}(V:α->SH)(Hf:α->SA)(ok:α->Prop)(m0:α)
  (vL:∀m m',(V m).map (·.1)=(V m').map (·.1)) (ik:∀p∈V m0,∃b,look s.T p.1=some b/\Wk b p.2) (vr:Hf m0=s.H) (hl:∀m,ok m->s.H.length<=(Hf m).length) (hm:ok m0)
  (h:bJ s.H->(∀t a,look s.T t=some a->Lt s.H.length a)->∀m,ok m->∀R:SV,(∀s',(∃m',lt m' m/\ok m'/\sd s.T (V m) (V m') (Hf m') s')->R s')->aW lv P r nt c ⟨V m++s.T,Hf m⟩ (ap.then R Φ)):aW lv P r nt (.loop c) s Φ:=by
 have same:∀m m' t,look (V m) t=none->look (V m') t=none:=λm m' t h=>Om λp hp e=>by have h1:p.1∈(V m').map (·.1):=Uh.2 ⟨p,hp,rfl⟩;rw[vL m' m]at h1;obtain⟨q,hq,e'⟩:=Uh.1 h1;have h2:((V m).any λx=>x.1==t)=true:=VP.2 ⟨q,hq,by simp[e',e]⟩;obtain⟨a,ha⟩:=Ol h2;rw[h]at ha;cases ha
 intro E V0 a Q ak hQ;have hlt:∀t a,look s.T t=some a->Lt s.H.length a:=λt x e=>by rw[<- ak.bx.n];exact(ak.tok t x e).2.lt
 have h0:s.Sub ⟨V m0++s.T,Hf m0⟩:=⟨λt x e=>by
  rw[wb]at e;cases hl:look (V m0) t with
  |none=>rw[hl]at e;exact⟨x,e,Wk.refl x⟩
  |some y=>rw[hl]at e;cases e;exact ik (t,x) (pF hl),vr.symm⟩
 refine QI wf (s:=s) (λm=>⟨V m++s.T,Hf m⟩) ok m0 h0 hm hl (λm an=> ?_) E V0 a Q ak hQ;refine(h ak.bx.an hlt m an _ λ_ h=>h).mono λe s' hΦ=> ?_;cases e with
 |normal=>
  obtain⟨m',q1,q2,hk,hv,G,hG,ue⟩:=hΦ;have tok:∀t x,look (V m'++s.T) t=some x->∃b,look s'.T t=some b/\Wk b x/\(look (V m') t=some x\/look s.T t=some x):=λt x e=>by
   rw[wb]at e;cases hl:look (V m') t with
   |none=>rw[hl]at e;have hb:look (V m++s.T) t=some x:=(by rw[wb,same m' m t hl];exact e);exact⟨x,hk.look hb hl,Wk.refl x,.inr e⟩
   |some y=>rw[hl]at e;cases e;obtain⟨b,h1,h2⟩:=hv (t,x) (pF hl);exact⟨b,h1,h2,.inl rfl⟩
  refine⟨m',q1,q2,?_⟩;rcases ue with rfl|⟨oB,MV⟩;exact .inl ⟨λt x e=>by obtain⟨b,h1,h2,_⟩:=tok t x e;exact⟨b,h1,h2⟩,by rw[hG,Ts]⟩;refine .inr ⟨λt x e=> ?_,⟨G,hG⟩,oB⟩;obtain⟨b,h1,h2,h3⟩:=tok t x e;refine⟨b,h1,h2,?_⟩;rcases h3 with h3|h3;exact MV (t,x) (pF h3);show Lt (Hf m').length x;exact(hlt t x h3).mono (hl m' q2)
 |_=>exact hΦ
def QF{nt:Nat}{c:U5}{Φ:SI}(n:Nat)(V:Nat->SH)(Hf:Nat->SA)(ok:S7)
  (vL:∀m m',(V m).map (·.1)=(V m').map (·.1)) (ik:∀p∈V 0,∃b,look s.T p.1=some b/\Wk b p.2) (vr:Hf 0=s.H) (hl:∀m,m<=n->ok m->s.H.length<=(Hf m).length) (hm:ok 0)
  (h:bJ s.H->(∀t a,look s.T t=some a->Lt s.H.length a)->∀m,m<=n->ok m->∀R:SV,(∀s',(m<n/\ok (m+1)/\sd s.T (V m) (V (m+1)) (Hf (m+1)) s')->R s')->aW lv P r nt c ⟨V m++s.T,Hf m⟩ (ap.then R Φ)):aW lv P r nt (.loop c) s Φ:=by
 refine ahe (measure λi=>n-i).wf V Hf (λi=>i<=n/\ok i) 0 vL ik vr (λm h=>hl m h.1 h.2) ⟨YS _,hm⟩ (λh1 h2 m an R hR=> ?_);exact h h1 h2 m an.1 an.2 R λs' ⟨q1,q2,q3⟩=>hR s' ⟨m+1,(by show n-(m+1)<n-m;omega),⟨q1,q2⟩,q3⟩
end
def gO:Nat->aa->SA
 |0,_=>[]
 |n+1,o=>UQ n .gone++[o]
def yM:∀(n:Nat)(o:aa),(gO n o).length=n
 |0,_=>rfl
 |n+1,o=>by simp[gO]
def Dw(n:Nat)(o:aa)(R:SA):(gO (n+1) o++R)[n]?=some o:=by rw[T6 (by rw[yM];omega),gO,Uc (by simp)];simp
def Dx(n:Nat)(o o':aa)(R:SA):(gO (n+1) o++R).set n o'=gO (n+1) o'++R:=by rw[VE _ _ (by rw[yM];omega),gO,Vg _ _ (by simp)];simp[gO]
def aav(n:Nat)(o:aa):gO (n+1) .gone++[o]=gO (n+2) o:=by simp only[gO,List.replicate_succ']
def gk (j n:Nat):AV:=match n with
 |0=> .sl 0 [] .exact
 |n+1=> .bB (j+n) 0 (n+1) 0
def gC (l:SY):aa:=.own 4 (l.flatMap aD.l) 68
structure YW (Gf:bp->SA)(N:Nat)(zc:aa)(YY:SC->Nat->Nat->Nat->SA):Prop where
 len:∀r c d e,(YY r c d e).length=6
 n:∀τ r c d e G,(Gf τ++(YY r c d e++G)).length=N+6+G.length
 y0:∀τ r c d e G,(Gf τ++(YY r c d e++G))[N]?=some zc
 y1:∀τ r c d e G,(Gf τ++(YY r c d e++G))[N+1]?=some (.cells r 25)
 y3:∀τ r c d e G,(Gf τ++(YY r c d e++G))[N+3]?=some (.tail c 3 29)
 y4:∀τ r c d e G,(Gf τ++(YY r c d e++G))[N+4]?=some (.tail d 1 3)
 y5:∀τ r c d e G,(Gf τ++(YY r c d e++G))[N+5]?=some (.tail e 1 3)
 z1:∀τ r r' c d e G,(Gf τ++(YY r c d e++G)).set (N+1) (.cells r' 25)=Gf τ++(YY r' c d e++G)
 z3:∀τ r c c' d e G,(Gf τ++(YY r c d e++G)).set (N+3) (.tail c' 3 29)=Gf τ++(YY r c' d e++G)
 z4:∀τ r c d d' e G,(Gf τ++(YY r c d e++G)).set (N+4) (.tail d' 1 3)=Gf τ++(YY r c d' e++G)
 z5:∀τ r c d e e' G,(Gf τ++(YY r c d e++G)).set (N+5) (.tail e' 1 3)=Gf τ++(YY r c d e'++G)
 w:∀τ r c d e G m,(Gf τ++(YY r c d e++G))[N+6+m]?=G[m]?
 v:∀τ r c d e G m y,(Gf τ++(YY r c d e++G)).set (N+6+m) y=Gf τ++(YY r c d e++G.set m y)
 s0:∀r c d e y,∃L,(YY r c d e).set 0 y=y::L
section
variable {Gf:bp->SA}{N:Nat}{zc:aa}{YY:SC->Nat->Nat->Nat->SA}(h:YW Gf N zc YY)
include h
def YW.n0(τ r c d e):(Gf τ++YY r c d e).length=N+6:=by have:=h.n τ r c d e [];rwa[Ts]at this
def YW.w0(τ r c d e G):(Gf τ++(YY r c d e++G))[N+6]?=G[0]?:=h.w τ r c d e G 0
def YW.Ai(τ r c d e):(Gf τ++YY r c d e)[N+1]?=some (.cells r 25):=by have:=h.y1 τ r c d e [];rwa[Ts]at this
def YW.Aj(τ r r' c d e):(Gf τ++YY r c d e).set (N+1) (.cells r' 25)=Gf τ++YY r' c d e:=by have:=h.z1 τ r r' c d e [];rwa[Ts,Ts]at this
end
def avm{Gf:bp->SA}{t N:Nat}{zc o2:aa}{YY:SC->Nat->Nat->Nat->SA}(hT:dO Gf t N)(h:∀r c d e,YY r c d e=[zc,.cells r 25,o2,.tail c 3 29,.tail d 1 3,.tail e 1 3]):YW Gf N zc YY:=by
 have lO:∀τ (L:SA)(j:Nat),(Gf τ++L)[N+j]?=L[j]?:=λτ L j=>by rw[<- hT.len τ,aP]
 have d_:∀τ (L:SA)(j:Nat)(y:aa),(Gf τ++L).set (N+j) y=Gf τ++L.set j y:=λτ L j y=>by rw[<- hT.len τ,cG]
 have hl:∀r c d e,(YY r c d e).length=6:=λr c d e=>by rw[h];rfl
 refine⟨hl,λτ r c d e G=>by rw[Tp,Tp,hl,hT.len];omega,λτ r c d e G=> ?_,λτ r c d e G=>by rw[lO,h];rfl,λτ r c d e G=>by rw[lO,h];rfl,λτ r c d e G=>by rw[lO,h];rfl,λτ r c d e G=>by rw[lO,h];rfl,λτ r r' c d e G=>by rw[d_,h,h];rfl,λτ r c c' d e G=>by rw[d_,h,h];rfl,λτ r c d d' e G=>by rw[d_,h,h];rfl,λτ r c d e e' G=>by rw[d_,h,h];rfl,λτ r c d e G m=> ?_,λτ r c d e G m y=> ?_,λr c d e y=>⟨_,by rw[h];rfl⟩⟩;have:=lO τ (YY r c d e++G) 0;rw[Vr]at this;rw[this,h];rfl;rw[VY,lO,Uc (by rw[hl];omega),hl,UU];rw[VY,d_,Vg _ _ (by rw[hl];omega),hl,UU]
def wD (i:Int)(y:aD):Prop:=uS y.number 99/\uS y.hour (i-1)
def as1{ys:SY}{p:Nat}{y:aD}(hy:ys[p]?=some y)(a b:Int):U9 (p* 4+2) (ys.flatMap aD.l)++[iv a,iv b]++U7 (p* 4+2+2) (ys.flatMap aD.l)=(ys.set p ⟨y.number,⟨a,b⟩⟩).flatMap aD.l:=by
 obtain⟨hp,rfl⟩:=Tn.1 hy;rw[<- ad9 (s:=0) (p:=p) (y:=⟨ys[p].number,⟨a,b⟩⟩) hp rfl];have e:U9 (p* 4+2) (ys.flatMap aD.l)=U9 (p* 4) (ys.flatMap aD.l)++[iv ys[p].number.min,iv ys[p].number.max]:=by
  have h1:U7 (p* 4) (ys.flatMap aD.l)=ys[p].l++U7 (p* 4+4) (ys.flatMap aD.l):=by rw[yK aD.len,show p* 4+4=(p+1)* 4 by omega,yK aD.len,UL hp,UT]
  rw[axe,h1];rfl
 rw[e,show p* 4+2+2=p* 4+4 from rfl];simp[aD.l,eX.l]
section
variable {lv:Bool}{Gf:bp->SA}{t N:Nat}{b:Int}
def aku{i mn np ns c:Nat}{first am:Int}{sv pv Fl Fb qp:AV}{gP:SA}{di:SY}{ρ:bp}{zc:aa}{YY:SC->Nat->Nat->Nat->SA}{Φ:SI}(hT:dO Gf t N)(hY:YW Gf N zc YY)(lH:gP.length=np)(hb:b<2^10)(pq:0<=first/\first<=90)(oy:mn<=9)(gA:ns<=3)(cy:di.length=ns)(qy:∀y∈di,wD i y)(hρ:ρ.Ok (b+97))
  (hk:∀Af ρ',Af.length=ns->(∀y∈Af,wD i y)->ρ'.Ok (b+100)->aW lv BI none 240 (lr 13 o0) ⟨[(16,Fl),(15,Fb),(13,iv mn),(11,qp),(10,.op (N+1) 0),(6,.op N 0),(0,.op t 0),(2,bv false)],Gf ρ'++(YY [iv first,iv i,iv am,sv,pv,gk (N+6+np) ns] c np ns++(gP++gO ns (gC Af)))⟩ Φ):
  aW lv BI none 240 (lr 12 o0) ⟨[(16,Fl),(15,Fb),(13,iv mn),(11,qp),(10,.op (N+1) 0),(6,.op N 0),(0,.op t 0),(2,bv false)],Gf ρ++(YY [iv first,iv i,iv am,sv,pv,gk (N+6+np) ns] c np ns++(gP++gO ns (gC di)))⟩ Φ:=by
 obtain⟨vv,sx,y0,y1,y3,y4,y5,nP,Ak,Cy,Cz,ri,ua,cx⟩:=hY;have je:∀L:SA,dO (λτ=>Gf τ++L) t (N+L.length):=λL=>hT.more L;have w1:∀τ r c d e X m,(Gf τ++(YY r c d e++(gP++X)))[N+6+np+m]?=X[m]?:=λτ r c d e X m=>by rw[VY (N+6),ri,Uc (by omega),lH,UU]
 have v1:∀τ r c d e X m y,(Gf τ++(YY r c d e++(gP++X))).set (N+6+np+m) y=Gf τ++(YY r c d e++(gP++X.set m y)):=λτ r c d e X m y=>by rw[VY (N+6),ua,Vg _ _ (by omega),lH,UU]
 unfold o0 Yu at hk⊢;dsimp only[T_,lr,cs,cf]at hk⊢;rcases Vf ns with h0|h0;subst h0;have e0:gk (N+6+np) 0=.sl 0 [] .exact:=rfl;simp only[e0]at hk⊢;refine ab ?_;simp only[seval,y1];refine ab ?_;simp only[seval,decide_false,show decide ((0:Int)>0)=false from rfl];refine ao ?_;refine aF ?_;refine nk ?_ (hk di ρ cy qy (hρ.mono (by omega)));exact ep (by simp only[seval];simp[bE,Wk.refl]) rfl
 ·obtain⟨n2,rE⟩:∃n2,ns=n2+1:=⟨ns-1,by omega⟩;have Ew:gk (N+6+np) ns=.bB (N+6+np+n2) 0 ns 0:=by rw[rE];rfl
  have vG:∀o,(gO ns o)[n2]?=some o:=λo=>by rw[rE];have:=Dw n2 o [];rwa[Ts]at this
  have vV:∀o o',(gO ns o).set n2 o'=gO ns o':=λo o'=>by rw[rE];have:=Dx n2 o o' [];rwa[Ts,Ts]at this
  have hd:decide ((ns:Int)>0)=true:=by simp;omega
  rw[Ew];simp only[Ew]at hk;refine ab ?_;simp only[seval,y1];refine ab ?_;simp only[seval,hd];refine aK (GK (n:=3) (je _) hρ (by omega) (by decide) ?_);(try simp only[seval]);refine ao ?_;refine⟨λhc=> ?_,λhc=> ?_⟩
  ·have bz:Tg.wrap ((ns:Int)-1)=(ns:Int)-1:=bt _ (by omega);have f_:Tg.wrap (first+(mn:Int))=first+(mn:Int):=bt _ (by omega)
   have r1:=lX (tick ρ) ((ns:Int)-1);refine ab ?_;simp only[seval,bz];refine aK (qe (n:=(ns:Int)-1) (je _) hρ.tick (by omega) (by omega) ?_);obtain⟨q,hq⟩:∃q:Nat,dp (tick ρ) ((ns:Int)-1)=q:=⟨(dp (tick ρ) ((ns:Int)-1)).toNat,by omega⟩;rw[hq];have BC:q<ns:=(by omega);(try simp only[seval]);refine ab ?_;simp only[seval,y1,f_];have r2:=ae9 (tick (tick ρ)) (show first<=first+(mn:Int) by omega);refine aK (Sd (lo:=first) (hi:=first+(mn:Int)) (je _) hρ.tick.tick (by omega) (by omega) (by omega) ?_);generalize Cw (tick (tick ρ)) first (first+(mn:Int))=a at r2⊢
   (try simp only[seval]);obtain⟨y,hy⟩:=bF (xs:=di) (i:=q) (by omega);have H9:=qy y (Un hy);have zo:=as3 hy a a;simp only[iv]at zo;have DZ:(0<=(q:Int)/\(q:Int)<(ns:Int))=True:=(by simp;omega);unfold gC at hk⊢;refine ab ?_;simp only[seval,y1,w1,v1,vG,vV,DZ];refine⟨by rw[uC aD.len];omega,?_⟩;rw[zo];have ut:∀z∈di.set q ⟨⟨a,a⟩,y.hour⟩,wD i z:=λz hz=>by rcases VD hz with hz|rfl;exact qy z hz;exact⟨⟨by show 0<=a;omega,YF a,by show a<=99;omega⟩,H9.2⟩
   refine nk ?_ (hk (di.set q ⟨⟨a,a⟩,y.hour⟩) (tick (tick (tick ρ))) (by rw[UK];exact cy) ut (hρ.tick.tick.tick.mono (by omega)));exact ep (by simp only[seval];simp[bE,Wk.refl]) rfl
  ·refine aF ?_;refine nk ?_ (hk di (tick ρ) cy qy (hρ.tick.mono (by omega)));exact ep (by simp only[seval];simp[bE,Wk.refl]) rfl
def aks{i mn np ns c:Nat}{first am:Int}{sv tv Fl Fb qp:AV}{gS:SA}{di:SY}{ρ:bp}{zc:aa}{YY:SC->Nat->Nat->Nat->SA}{Φ:SI}(hT:dO Gf t N)(hY:YW Gf N zc YY)(hb:b<2^10)(hi:1<=i/\i<=3)(gA:np<=4)(cy:di.length=np)(qy:∀y∈di,wD i y)(hρ:ρ.Ok (b+100))
  (hk:∀Af ρ',Af.length=np->(∀y∈Af,wD i y)->ρ'.Ok (b+110)->aW lv BI none 240 (lr 14 o0) ⟨[(16,Fl),(15,Fb),(13,iv mn),(11,qp),(10,.op (N+1) 0),(6,.op N 0),(0,.op t 0),(2,bv false)],Gf ρ'++(YY [iv first,iv i,iv am,sv,gk (N+6) np,tv] c np ns++(gO np (gC Af)++gS))⟩ Φ):
  aW lv BI none 240 (lr 13 o0) ⟨[(16,Fl),(15,Fb),(13,iv mn),(11,qp),(10,.op (N+1) 0),(6,.op N 0),(0,.op t 0),(2,bv false)],Gf ρ++(YY [iv first,iv i,iv am,sv,gk (N+6) np,tv] c np ns++(gO np (gC di)++gS))⟩ Φ:=by
 obtain⟨vv,sx,y0,y1,y3,y4,y5,nP,Ak,Cy,Cz,ri,ua,cx⟩:=hY;have je:∀L:SA,dO (λτ=>Gf τ++L) t (N+L.length):=λL=>hT.more L;unfold o0 Yu at hk⊢;dsimp only[T_,lr,cs,cf]at hk⊢;rcases Vf np with h0|h0
 ·subst h0;have e0:gk (N+6) 0=.sl 0 [] .exact:=rfl;simp only[e0]at hk⊢;refine ab ?_;simp only[seval,y1];refine ab ?_;simp only[seval,decide_false,show decide ((0:Int)>0)=false from rfl];refine ao ?_;refine aF ?_;refine nk ?_ (hk di ρ cy qy (hρ.mono (by omega)));exact ep (by simp only[seval];simp[bE,Wk.refl]) rfl
 ·obtain⟨n2,rE⟩:∃n2,np=n2+1:=⟨np-1,by omega⟩;have Ew:gk (N+6) np=.bB (N+6+n2) 0 np 0:=by rw[rE];rfl
  have vG:∀o,(gO np o++gS)[n2]?=some o:=λo=>by rw[rE];exact Dw n2 o gS
  have vV:∀o o',(gO np o++gS).set n2 o'=gO np o'++gS:=λo o'=>by rw[rE];exact Dx n2 o o' gS
  have hd:decide ((np:Int)>0)=true:=by simp;omega
  rw[Ew];simp only[Ew]at hk;refine ab ?_;simp only[seval,y1];refine ab ?_;simp only[seval,hd];refine aK (GK (n:=4) (je _) hρ (by omega) (by decide) ?_);(try simp only[seval]);refine ao ?_;refine⟨λhc=> ?_,λhc=> ?_⟩
  ·have bz:Tg.wrap ((np:Int)-1)=(np:Int)-1:=bt _ (by omega);have f_:Tg.wrap (i-1)=i-1:=bt _ (by omega);have r1:=lX (tick ρ) ((np:Int)-1);refine ab ?_;simp only[seval,bz];refine aK (qe (n:=(np:Int)-1) (je _) hρ.tick (by omega) (by omega) ?_);obtain⟨q,hq⟩:∃q:Nat,dp (tick ρ) ((np:Int)-1)=q:=⟨(dp (tick ρ) ((np:Int)-1)).toNat,by omega⟩;rw[hq];have BC:q<np:=(by omega);(try simp only[seval]);have r2:=lX (tick (tick ρ)) (i-1);refine ab ?_;simp only[seval,y1,f_];refine aK (qe (n:=i-1) (je _) hρ.tick.tick (by omega) (by omega) ?_);generalize dp (tick (tick ρ)) (i-1)=a at r2⊢;(try simp only[seval]);obtain⟨y,hy⟩:=bF (xs:=di) (i:=q) (by omega);have H9:=qy y (Un hy);have zo:=as1 hy a a;simp only[iv]at zo;have DZ:(0<=(q:Int)/\(q:Int)<(np:Int))=True:=(by simp;omega);unfold gC at hk⊢;refine ab ?_;simp only[seval,y1,ri,ua,vG,vV,DZ];refine⟨by rw[uC aD.len];omega,?_⟩;rw[zo];have ut:∀z∈di.set q ⟨y.number,⟨a,a⟩⟩,wD i z:=λz hz=>by rcases VD hz with hz|rfl;exact qy z hz;exact⟨H9.1,⟨by show 0<=a;omega,YF a,by show a<=i-1;omega⟩⟩
   refine nk ?_ (hk (di.set q ⟨y.number,⟨a,a⟩⟩) (tick (tick (tick ρ))) (by rw[UK];exact cy) ut (hρ.tick.tick.tick.mono (by omega)));exact ep (by simp only[seval];simp[bE,Wk.refl]) rfl
  ·refine aF ?_;refine nk ?_ (hk di (tick ρ) cy qy (hρ.tick.mono (by omega)));exact ep (by simp only[seval];simp[bE,Wk.refl]) rfl
end
section
variable {lv:Bool}{H:SA}{k kp:SF}
end
namespace Tk
def yC (ss:SY)(ns:SD):Nat->List aD
 |0=>[]
 |i+1=>if(i:Int)∈ns then yC ss ns i else yC ss ns i++(ss[i]?).toList
def RF(ss:SY)(ns:SD):∀i,(yC ss ns i).length<=i
 |0=>Tv _
 |i+1=>by have:=RF ss ns i;unfold yC;split;omega;rw[Tp];have:(ss[i]?).toList.length<=1:=(by cases ss[i]?<;>simp);omega
def KN{ss:SY}{ns:SD}:∀{i:Nat}{y:aD},y∈yC ss ns i->y∈ss
 |0,y,h=>by cases h
 |i+1,y,h=>by
  unfold yC at h;split at h;exact KN h
  ·rcases T1.1 h with h|h;exact KN h
   ·cases hi:ss[i]?with
    |none=>rw[hi]at h;cases h
    |some z=>rw[hi]at h;simp only[ZZ,Ub]at h;rw[h];exact Un hi
def aj.wk (x:aj)(ns:SD):aj:={x with aq:=yC x.aq ns x.aq.length}
def aj.Ok.wk{x:aj}(h:x.Ok)(ns:SD):(x.wk ns).Ok:=⟨h.first,h.hours,h.am,h.qL,h.ey,UJ (RF _ _ _) h.di,h.seen,λy hy=>⟨(h.piece y hy).1,(h.piece y hy).2⟩,λy hy=>have k:=h.stub y (KN hy);⟨k.1,k.2⟩⟩
end Tk
open Go.Gg.Tk
open Go.Conc Go.Proofs
section
variable {lv:Bool}{H:SA}{k kp:SF}
end
section
variable {lv:Bool}
end
section
variable {lv:Bool}{H:SA}{k kp:SF}
def alW(x y:aD):(([x.number.min,x.number.max,x.hour.min,x.hour.max]:SD)==[y.number.min,y.number.max,y.hour.min,y.hour.max])=decide (x=y):=by rw[Ve,beq_iff_eq,decide_eq_true_eq];obtain⟨⟨a,b⟩,c,d⟩:=x;obtain⟨⟨a',b'⟩,c',d'⟩:=y;simp[and_assoc]
def asH(x y:Seen):(([x.hour,x.next.min,x.next.max]:SD)==[y.hour,y.next.min,y.next.max])=decide (x=y):=by rw[Ve,beq_iff_eq,decide_eq_true_eq];obtain⟨a,b,c⟩:=x;obtain⟨a',b',c'⟩:=y;simp
def agc(x y:aD)(k:SP):dx BI .neq 68 (.agg [iv x.number.min,iv x.number.max,iv x.hour.min,iv x.hour.max]) (.agg [iv y.number.min,iv y.number.max,iv y.hour.min,iv y.hour.max]) k=k (bv (!decide (x=y))):=by rw[<- alW];exact Qj (P:=BI) (t:=68) (n:=4) (xs:=[x.number.min,x.number.max,x.hour.min,x.hour.max]) (ys:=[y.number.min,y.number.max,y.hour.min,y.hour.max]) (by kernel_rfl) (by kernel_rfl) rfl rfl k
def agk(x y:Seen)(k:SP):dx BI .neq 29 (.agg [iv x.hour,iv x.next.min,iv x.next.max]) (.agg [iv y.hour,iv y.next.min,iv y.next.max]) k=k (bv (!decide (x=y))):=by rw[<- asH];exact Qj (P:=BI) (t:=29) (n:=3) (xs:=[x.hour,x.next.min,x.next.max]) (ys:=[y.hour,y.next.min,y.next.max]) (by kernel_rfl) (by kernel_rfl) rfl rfl k
def aeK{α:Type}{xs ys:List α}{i:Nat}{x y:α}(hx:xs[i]?=some x)(hy:ys[i]?=some y)(h:xs.take i=ys.take i)(e:x=y):xs.take (i+1)=ys.take (i+1):=by obtain⟨hj,rfl⟩:=Tn.1 hx;obtain⟨hk,rfl⟩:=Tn.1 hy;rw[VH hj,VH hk,h,e]
def Sj{xs ys:SY}(hx:xs.length<=2^20)(hk:k (bv (decide (xs=ys))) H):aS lv BI 64 H [aG xs,aG ys] k kp:=by
 refine br (rs:=[.tmp 4]) (nt:=26) Tryz.f64 λhH hA=> ?_;simp only[ba,Tq];refine ai ?_;refine ab ?_;simp only[seval,aG];refine ao ?_;refine⟨λh=> ?_,λh=> ?_⟩
 ·have h:xs≠ys:=λe=>by subst e;simp at h
  refine ai ?_;refine aH ?_;rw[decide_eq_false h]at hk;exact b8 hk
 ·have h:xs.length=ys.length:=by have h:(xs.length:Int)=ys.length:=(by simpa using h);omega
  refine aF ?_;refine ai ?_;refine bO ?_;refine nj xs.length (λi:Nat=>[(5,iv i)]) (λ_=>_) (λi=>xs.take i=ys.take i) (by simp) (λbN cm i ce hi R hR=> ?_);clear cm bN;refine ab ?_;simp only[seval,aG];refine ao ?_;refine⟨λh2=> ?_,λh2=> ?_⟩;have hlt:i<xs.length:=(by omega);obtain⟨x,mP⟩:=bF hlt;obtain⟨y,kI⟩:=bF (xs:=ys) (i:=i) (by omega);have bz:=TL i (by omega);refine aF ?_;refine bO ?_;refine cS 9 ?_;simp only[seval,oR mP,oR kI,fy hlt,fy (eF kI),aG,agc];by_cases h3:x=y;(try simp only[seval,show decide (x=y)=true from decide_eq_true h3,Xn]);refine ao ?_;refine aF ?_;refine ab ?_;simp only[seval,bz];exact hR _ ⟨hlt,aeK mP kI hi h3,cK⟩;((try simp only[seval,show decide (x=y)=false from decide_eq_false h3,W5]);refine ao ?_;have h4:xs≠ys:=λe=>(by subst e;rw[mP]at kI;cases kI;exact h3 rfl);refine ai ?_;refine aH ?_;rw[decide_eq_false h4]at hk;exact b8 hk);have nD:i=xs.length:=(by omega);subst nD;have h4:xs=ys:=(by rw[Ux,Tu (by omega)]at hi;exact hi);rw[decide_eq_true h4]at hk;refine bT ?_;refine ai ?_;refine aH ?_;exact b8 hk
def aka{x y:aj}(cX:x.seen.length<=2^20)(mI:x.pieces.length<=2^20)(Ef:x.aq.length<=2^20)(hk:k (bv (decide (x=y))) H):aS lv BI 20 H [x.av,y.av] k kp:=by
 refine br (rs:=[.tmp 4]) (nt:=68) Tryz.f20 λhH hA=> ?_;simp only[ba,Tq,aj.av];have Eh:y.l=[iv y.first,iv y.hours,iv y.am,bM y.seen,aG y.pieces,aG y.aq]:=rfl;have no:x≠y->∀L,cz H.length (H++L) (bv false) k:=λh L=>by rw[decide_eq_false h]at hk;exact cW hH hk
 obtain⟨c1,cV⟩:∃c,(x.first !=y.first)=c:=⟨_,rfl⟩;obtain⟨c2,cg⟩:∃c,(x.hours !=y.hours)=c:=⟨_,rfl⟩;obtain⟨c3,dJ⟩:∃c,(x.am !=y.am)=c:=⟨_,rfl⟩;obtain⟨c4,kj⟩:∃c,((x.seen.length:Int)!=y.seen.length)=c:=⟨_,rfl⟩;refine ab ?_;simp only[seval,TM,Eh];have bad:(c1||(c2||(c3||c4)))=true->x≠y:=λh e=>by subst e;rw[<- cV,<- cg,<- dJ,<- kj]at h;simp at h
 cases c1
 case' false=>cases c2
 case' false.false=>cases c3
 case' false.false.false=>cases c4
 case' true|false.true|false.false.true|false.false.false.true=>refine ab ?_;simp only[seval,cV,cg,dJ,kj,TN,TO,bM];refine ao ?_;refine ai ?_;refine aH ?_;exact no (bad rfl) _
 have e1:x.first=y.first:=by simpa using cV
 have e2:x.hours=y.hours:=by simpa using cg
 have e3:x.am=y.am:=by simpa using dJ
 have e4:x.seen.length=y.seen.length:=by
  have h:(x.seen.length:Int)=y.seen.length:=by simpa using kj
  omega
 refine ab ?_;simp only[seval,cV,cg,dJ,kj,TN,TO,bM];refine aK (Sj (xs:=x.pieces) (ys:=y.pieces) mI ?_);by_cases e5:x.pieces=y.pieces
 case' neg=>(try simp only[seval,show decide (x.pieces=y.pieces)=false from decide_eq_false e5,W5,LH,LD,LI,LF]);refine ao ?_;refine ai ?_;refine aH ?_;exact no (λe=>e5 (by rw[e])) _
 (try simp only[seval,show decide (x.pieces=y.pieces)=true from decide_eq_true e5,Xn,LH,LD,LI,LF,TN,TO]);refine aK (Sj (xs:=x.aq) (ys:=y.aq) Ef ?_);by_cases e6:x.aq=y.aq
 case' neg=>(try simp only[seval,show decide (x.aq=y.aq)=false from decide_eq_false e6,W5]);refine ao ?_;refine ai ?_;refine aH ?_;exact no (λe=>e6 (by rw[e])) _
 (try simp only[seval,show decide (x.aq=y.aq)=true from decide_eq_true e6,Xn]);refine ao ?_;refine aF ?_;refine ai ?_;refine bO ?_;refine nj x.seen.length (λi:Nat=>[(5,iv i)]) (λ_=>_) (λi=>x.seen.take i=y.seen.take i) (by simp) (λbN cm i ce hi R hR=> ?_);clear cm bN;refine ab ?_;simp only[seval,TN,bM];refine ao ?_;refine⟨λh2=> ?_,λh2=> ?_⟩
 ·have hlt:i<x.seen.length:=by omega
  obtain⟨a,mP⟩:=bF hlt;obtain⟨b,kI⟩:=bF (xs:=y.seen) (i:=i) (by omega);have bz:=TL i (by omega);refine aF ?_;refine bO ?_;refine cS 11 ?_;simp only[seval,Ad mP,Ad kI,fy hlt,fy (eF kI),TN,TO,bM,agk];by_cases h3:a=b;(try simp only[seval,show decide (a=b)=true from decide_eq_true h3,Xn]);refine ao ?_;refine aF ?_;refine ab ?_;simp only[seval,bz];exact hR _ ⟨hlt,aeK mP kI hi h3,cK⟩;((try simp only[seval,show decide (a=b)=false from decide_eq_false h3,W5]);refine ao ?_;have h4:x≠y:=λe=>(by subst e;rw[mP]at kI;cases kI;exact h3 rfl);refine ai ?_;refine aH ?_;exact no h4 _)
 ·have nD:i=x.seen.length:=by omega
  subst nD;have h4:x=y:=by rw[Ux,Tu (by omega)]at hi;obtain⟨a1,a2,a3,a4,a5,a6⟩:=x;obtain⟨b1,b2,b3,b4,b5,b6⟩:=y;dsimp only at*;subst e1 e2 e3 e5 e6 hi;rfl
  rw[decide_eq_true h4]at hk;refine bT ?_;refine ai ?_;refine aH ?_;exact cW hH hk
end
section
variable {lv:Bool}{k kp:SF}{Gf:bp->SA}{t N:Nat}{b:Int}
def akv{pm i mn:Nat}{first am:Int}{l order:SD}{ρ:bp}{zc:aa}{YY:SC->Nat->Nat->Nat->SA}{hz:Bool}{Ψ:SI}(hT:dO Gf t N)(hY:YW Gf N zc YY)(hH:∀τ,bJ (Gf τ))(hb:b<2^10)(uo:pm<=4)(hi:1<=i/\i<=3)(pq:0<=first/\first<=90)(fE:l.length=i+1)(M0:mn<=9)(rF:JR order mn)(rI:ρ.Ok (b+19)):
  aW lv BI none 240 (cs (cf (lr 7 o0))) ⟨[(17,iv 0),(16,.sl 0 [] (.opn (N+5))),(15,.sl 0 [] (.opn (N+4))),(14,aV order),(13,iv mn),(11,.sl (i+1) (l.map iv) (.opn (N+2))),(10,.op (N+1) 0),(6,.op N 0),(0,.op t 0),(1,iv pm),(2,bv hz)],Gf ρ++YY [iv first,iv i,iv am,.sl 0 [] (.opn (N+3)),.sl 0 [] .exact,.sl 0 [] .exact] 0 0 0⟩ (ap.then (λs'=>∃y:Nat×bp,(y.1<=pm/\y.1<=mn/\y.2.Ok (b+60))/\s'.Sub ⟨[(16,.sl 0 [] (.opn (N+5))),(15,.sl y.1 ((k_ first order y.1).map iv) (.opn (N+4))),(13,iv mn),(11,.sl (i+1) (l.map iv) (.opn (N+2))),(10,.op (N+1) 0),(6,.op N 0),(0,.op t 0),(2,bv hz)],Gf y.2++(YY [iv first,iv i,iv am,.sl 0 [] (.opn (N+3)),gk (N+6) y.1,.sl 0 [] .exact] 0 y.1 0++gO y.1 (gC (kR l i (λj=>first+order.getD j 0) ρ y.1).1))⟩) Ψ):=by
 have n0:=hY.n0;have w0:=hY.w0;have Fo:(1<=2^30)=True:=eq_true (by decide);have Ai:=hY.Ai;have Aj:=hY.Aj;obtain⟨vv,sx,y0,y1,y3,y4,y5,nP,Ak,Cy,Cz,ri,ua,cx⟩:=hY;have je:∀L:SA,dO (λτ=>Gf τ++L) t (N+L.length):=λL=>hT.more L;obtain⟨hv,Bs⟩:∃hv:Nat->List aD×bp,∀j,hv j=kR l i (λj=>first+order.getD j 0) ρ j:=⟨_,λ_=>rfl⟩;simp only[<- Bs];have hvl:∀j,(hv j).1.length=j:=λj=>by rw[Bs];exact Bg _ _ _ _ _
 have hvt:∀j:Nat,(hv j).2.Ok (b+19+5* j):=λj=>by rw[Bs];exact(L9 rI _ _ _ j).mono (by omega)
 have sQ:hv 0=([],ρ):=Bs 0;unfold o0 Yu;dsimp only[T_,lr,cs,cf];have HB:=acG mn pm;refine bO ?_;refine QF (min pm mn) (λj:Nat=>[(15,.sl j ((k_ first order j).map iv) (.opn (N+4))),(17,iv j)]) (λj=>Gf (hv j).2++(YY [iv first,iv i,iv am,.sl 0 [] (.opn (N+3)),gk (N+6) j,.sl 0 [] .exact] 0 j 0++gO j (gC (hv j).1))) (λ_=>True) (λ_ _=>rfl) (by simp only[k_,List.range_zero,Zk];simp only[seval];simp[bE,Wk.refl]) (by rw[sQ];simp[gO,gk]) (λ_ _ _=>by simp[hT.len,vv]) trivial (λbN cm j qq _ R hR=> ?_);clear bN cm;have lP:=hvt j;by_cases fM:j<min pm mn
 ·have hd:decide ((j:Int)<((min pm mn:Nat):Int))=true:=by simpa using fM
  refine ab ?_;simp only[seval,show (if(mn:Int)<(pm:Int)then(mn:Int)else(pm:Int))=((min pm mn:Nat):Int)from HB,hd];have eT:hv (j+1)=((hv j).1++[l_ (tick (hv j).2) l (first+order.getD j 0) i],tick (tick (tick (tick (tick (hv j).2))))):=by rw[Bs,Bs];rfl
  have qB:=hvl j;generalize Hr:hv j=hj at lP eT qB⊢;obtain⟨ps,ρj⟩:=hj;dsimp only at lP eT qB⊢;refine aK (GK (n:=6) (je _) lP (by omega) (by decide) ?_);(try simp only[seval]);refine ao ?_;refine⟨λhc=> ?_,λhc=> ?_⟩
  ·obtain⟨o,ho⟩:=bF (xs:=order) (i:=j) (by rw[rF.len];omega);have hor:=rF.I4 o (sZ ho);have hgo:order.getD j 0=o:=(by rw[Tf,ho];rfl);rw[hgo]at eT;have zB:Tg.wrap (first+o)=first+o:=NM (by omega)
   have zf:=TL j (by omega);have rn:(0<=(j:Int)/\(j:Int)<(order.length:Int))=True:=(by simp[rF.len];omega);have jm:=acS first order j
   have Em:We iv (k_ first order j)++[AV.val (S_ Tg (first+o))]=(k_ first order (j+1)).map iv:=(by rw[acT,hgo,UA];rfl);have zi:(k_ first order (j+1))[j]?=some (first+o):=(by rw[acT,hgo,Uc (by omega),jm,WV];rfl);have ma:(0<=(j:Int)/\(j:Int)<(j:Int)+1)=True:=(by simp;omega);refine aF ?_;refine bO ?_;refine cS 9 ?_;simp only[seval,z1,B8,y1,y4,Cy,aV,dn ho,rn,zB,jm];refine⟨by omega,?_⟩;rw[Em];obtain⟨n,hn⟩:∃n,n=first+o:=⟨_,rfl⟩
   rw[<- hn]at zi eT;have rK:=PI l n i;have va:=λ(L:SA) k kp=>Su (lv:=lv) (k:=k) (kp:=kp) (h:=l) (n:=n) (hours:=i) (e:=.opn (N+2)) (je L) lP.tick (by omega) (by omega) (by omega) (by omega) (by rw[fE,X7];omega);simp only[fE]at va;obtain⟨y,hy⟩:∃y,y=l_ (tick ρj) l n i:=⟨_,rfl⟩;rw[<- hy]at eT va;have xD:y.l=[iv y.number.min,iv y.number.max,iv y.hour.min,iv y.hour.max]:=rfl;have hyf:∀a∈y.l,a.leaf=true:=(by rw[xD];simp[AV.leaf,Value.one]);have eO:∀FP,FP=ps.flatMap aD.l->aa.own 4 (FP++y.l) 68=gC (hv (j+1)).1:=λFP qf=>(by rw[eT,gC,Lr,qf]);rcases Vf j with vJ|vJ
   ·subst vJ;obtain rfl:ps=[]:=WS qB;have cx:gk (N+6) 0=.sl 0 [] .exact:=rfl;have jE:∀o,gO 0 o=[]:=λ_=>rfl;rw[jE,Ts];refine mC [10,12,14] (Tt 15) (λD=>bif isDone 14 D then Gf (tick (tick (tick (tick (tick ρj)))))++(YY [iv first,iv i,iv am,.sl 0 [] (.opn (N+3)),.bB (N+6) 0 1 0,.sl 0 [] .exact] 0 1 0++[.own 4 y.l 68])else bif isDone 12 D then Gf (tick (tick (tick (tick (tick ρj)))))++(YY [iv first,iv i,iv am,.sl 0 [] (.opn (N+3)),.sl 0 [] .exact,.sl 0 [] .exact] 0 1 0++[.own 4 y.l 68])else bif isDone 10 D then Gf (tick (tick (tick (tick (tick ρj)))))++YY [iv first,iv i,iv am,.sl 0 [] (.opn (N+3)),.sl 0 [] .exact,.sl 0 [] .exact] 0 1 0 else Gf (tick ρj)++YY [iv first,iv i,iv am,.sl 0 [] (.opn (N+3)),.sl 0 [] .exact,.sl 0 [] .exact] 0 1 0) ?_;simp only[seval,ya,uJ,y1,sx,ri,nP,n0,w0,Fo,Ai,Aj,dn zi,ma,cx,Ev];refine sk y.av _ (bX (va _ _ _ ⟨rfl,rfl⟩)) ?_;(try simp only[seval,ya,uJ,y1,sx,ri,nP,n0,w0,Fo,Ai,Aj,dn zi,ma,cx,Ev,aD.av,xD]);refine ab ?_;simp only[seval,show Tg.wrap 1=1 from bt _ (by omega),show (0:Int)+1=1 from rfl];have e1:(hv (0+1)).2=tick (tick (tick (tick (tick ρj)))):=(by rw[eT]);have e2:gO (0+1) (gC (hv (0+1)).1)=[.own 4 [iv y.number.min,iv y.number.max,iv y.hour.min,iv y.hour.max] 68]:=(by rw[<- eO [] rfl];rfl);refine hR _ ⟨by omega,trivial,?_⟩;rw[e1,e2];exact cK
   ·obtain⟨n',jl⟩:∃n',j=n'+1:=⟨j-1,by omega⟩;have cy:gk (N+6) j=.bB (N+6+n') 0 j 0:=(by rw[jl];rfl);have vG:∀o,(gO j o)[n']?=some o:=λo=>(by rw[jl];have:=Dw n' o [];rwa[Ts]at this);have vV:∀o,(gO j o).set n' .gone=gO j .gone:=λo=>(by rw[jl];have:=Dx n' o .gone [];rwa[Ts,Ts]at this);have sE:∀a,gO j .gone++[a]=gO (j+1) a:=λa=>(by rw[jl];exact aav _ _);have ko:∀o,(gO j o).length=j:=yM j;have eO:=eO _ rfl;rw[cy];unfold gC;obtain⟨FP,qf⟩:∃FP,FP=ps.flatMap aD.l:=⟨_,rfl⟩;have w8:FP.length=j* 4:=(by rw[qf,Lq,qB]);rw[<- qf]at eO⊢;refine mC [10,12,14] (Tt 15) (λD=>bif isDone 14 D then Gf (tick (tick (tick (tick (tick ρj)))))++(YY [iv first,iv i,iv am,.sl 0 [] (.opn (N+3)),.bB (N+6+j) 0 (j+1) 0,.sl 0 [] .exact] 0 (j+1) 0++gO (j+1) (.own 4 (FP++y.l) 68))else bif isDone 12 D then Gf (tick (tick (tick (tick (tick ρj)))))++(YY [iv first,iv i,iv am,.sl 0 [] (.opn (N+3)),.bB (N+6+n') 0 j 0,.sl 0 [] .exact] 0 (j+1) 0++gO (j+1) (.own 4 (FP++y.l) 68))else bif isDone 10 D then Gf (tick (tick (tick (tick (tick ρj)))))++(YY [iv first,iv i,iv am,.sl 0 [] (.opn (N+3)),.bB (N+6+n') 0 j 0,.sl 0 [] .exact] 0 (j+1) 0++gO j (.own 4 FP 68))else Gf (tick ρj)++(YY [iv first,iv i,iv am,.sl 0 [] (.opn (N+3)),.bB (N+6+n') 0 j 0,.sl 0 [] .exact] 0 (j+1) 0++gO j (.own 4 FP 68))) ?_;simp only[seval,ya,uJ,y1,sx,ri,ua,nP,dn zi,ma,vG,vV,sE,ko,w8,Ev];refine sk y.av _ (bX (va _ _ _ ⟨rfl,rfl⟩)) ?_;(try simp only[seval,ya,uJ,y1,sx,ri,ua,nP,dn zi,ma,vG,vV,sE,ko,w8,Ev,aD.av,xD]);refine⟨vJ,by omega,?_⟩;refine ab ?_;simp only[seval,zf];refine hR _ ⟨by omega,trivial,?_⟩;rw[<- eO,show (hv (j+1)).2=tick (tick (tick (tick (tick ρj)))) by rw[eT]];exact cK
  ·refine bT ?_;exact⟨(j,tick ρj),⟨by dsimp only;omega,by dsimp only;omega,lP.tick.mono (by omega)⟩,ep (by simp only[seval];simp[bE,Wk.refl]) (by rw[Hr])⟩
 ·have hd:decide ((j:Int)<((min pm mn:Nat):Int))=false:=by simpa using fM
  refine ab ?_;simp only[seval,show (if(mn:Int)<(pm:Int)then(mn:Int)else(pm:Int))=((min pm mn:Nat):Int)from HB,hd];refine ao ?_;refine bT ?_;exact⟨(j,(hv j).2),⟨by dsimp only;omega,by dsimp only;omega,lP.mono (by omega)⟩,ep (by simp only[seval];simp[bE,Wk.refl]) rfl⟩
def akq{i np:Nat}{first am w:Int}{l aC iH:SD}{ρ2:bp}{zc:aa}{pv:AV}{gP:SA}{YY:SC->Nat->Nat->Nat->SA}{hz:Bool}{CN:AV}{Ψ:SI}(hT:dO Gf t N)(hY:YW Gf N zc YY)(lH:gP.length=np)(hb:b<2^10)(hi:1<=i/\i<=3)(pq:0<=first/\first<=90)(H5:first<=w/\w<=first+9)(fE:l.length=i+1)(En:np<=4)(jm:aC.length=np)(uk:∀n∈aC,first<=n/\n<w)(up:JR iH np)(zD:ρ2.Ok (b+64)):
  aW lv BI none 240 (cs (cf (lr 9 o0))) ⟨[(19,iv 0),(18,.sl np (iH.map iv) .shut),(16,.sl 0 [] (.opn (N+5))),(15,.sl np (aC.map iv) (.opn (N+4))),(13,CN),(11,.sl (i+1) (l.map iv) (.opn (N+2))),(10,.op (N+1) 0),(6,.op N 0),(0,.op t 0),(2,bv hz)],Gf ρ2++(YY [iv first,iv i,iv am,.sl 0 [] (.opn (N+3)),pv,.sl 0 [] .exact] 0 np 0++gP)⟩ (ap.then (λs'=>∃y:Nat×bp,(y.1<=np/\y.1<=3/\y.2.Ok (b+90))/\s'.Sub ⟨[(16,.sl y.1 ((iH.take y.1).map iv) (.opn (N+5))),(15,.sl np (aC.map iv) (.opn (N+4))),(13,CN),(11,.sl (i+1) (l.map iv) (.opn (N+2))),(10,.op (N+1) 0),(6,.op N 0),(0,.op t 0),(2,bv hz)],Gf y.2++(YY [iv first,iv i,iv am,.sl 0 [] (.opn (N+3)),pv,gk (N+6+np) y.1] 0 np y.1++(gP++gO y.1 (gC (kR l i (λj=>aC.getD (iH.getD j 0).toNat 0) ρ2 y.1).1)))⟩) Ψ):=by
 obtain⟨vv,sx,y0,y1,y3,y4,y5,nP,Ak,Cy,Cz,ri,ua,cx⟩:=hY;have Fo:(1<=2^30)=True:=eq_true (by decide);have n0:∀τ r c d e,(Gf τ++(YY r c d e++gP)).length=N+6+np:=λτ r c d e=>by rw[sx,lH]
 have n1:∀τ r c d e X,(Gf τ++(YY r c d e++(gP++X))).length=N+6+np+X.length:=λτ r c d e X=>by rw[sx,Tp,lH];omega
 have w1:∀τ r c d e X m,(Gf τ++(YY r c d e++(gP++X)))[N+6+np+m]?=X[m]?:=λτ r c d e X m=>by rw[VY (N+6),ri,Uc (by omega),lH,UU]
 have w0:∀τ r c d e X,(Gf τ++(YY r c d e++(gP++X)))[N+6+np]?=X[0]?:=λτ r c d e X=>w1 τ r c d e X 0;have v1:∀τ r c d e X m y,(Gf τ++(YY r c d e++(gP++X))).set (N+6+np+m) y=Gf τ++(YY r c d e++(gP++X.set m y)):=λτ r c d e X m y=>by rw[VY (N+6),ua,Vg _ _ (by omega),lH,UU]
 have je:∀L:SA,dO (λτ=>Gf τ++L) t (N+L.length):=λL=>hT.more L;obtain⟨hw,Bt⟩:∃hw:Nat->List aD×bp,∀j,hw j=kR l i (λj=>aC.getD (iH.getD j 0).toNat 0) ρ2 j:=⟨_,λ_=>rfl⟩;simp only[<- Bt];have sS:∀j,(hw j).1.length=j:=λj=>by rw[Bt];exact Bg _ _ _ _ _
 have vW:∀j:Nat,(hw j).2.Ok (b+64+5* j):=λj=>by rw[Bt];exact L9 zD _ _ _ j
 have pC:hw 0=([],ρ2):=Bt 0;have abX:=up.len;unfold o0 Yu;dsimp only[T_,lr,cs,cf];have abq:=acG 3 np;refine bO ?_;refine QF (min np 3) (λj:Nat=>[(16,.sl j ((iH.take j).map iv) (.opn (N+5))),(19,iv j)]) (λj=>Gf (hw j).2++(YY [iv first,iv i,iv am,.sl 0 [] (.opn (N+3)),pv,gk (N+6+np) j] 0 np j++(gP++gO j (gC (hw j).1)))) (λ_=>True) (λ_ _=>rfl) (by simp only[seval];simp[bE,Wk.refl]) (by rw[pC];simp[gO,gk]) (λ_ _ _=>by simp[hT.len,vv]) trivial (λbN cm j qq _ R hR=> ?_);clear bN cm;have lP:=vW j;by_cases fM:j<min np 3
 ·have hd:decide ((j:Int)<((min np 3:Nat):Int))=true:=by simpa using fM
  refine ab ?_;simp only[seval,aV,abX,show (if(3:Int)<(np:Int)then(3:Int)else(np:Int))=((min np 3:Nat):Int)from abq,hd];have eT:hw (j+1)=((hw j).1++[l_ (tick (hw j).2) l (aC.getD (iH.getD j 0).toNat 0) i],tick (tick (tick (tick (tick (hw j).2))))):=by rw[Bt,Bt];rfl
  have qB:=sS j;generalize Hr:hw j=hj at lP eT qB⊢;obtain⟨ts,ρj⟩:=hj;dsimp only at lP eT qB⊢;refine aK (GK (n:=3) (je _) lP (by omega) (by decide) ?_);(try simp only[seval]);refine ao ?_;refine⟨λhc=> ?_,λhc=> ?_⟩
  ·obtain⟨v,oG⟩:=bF (xs:=iH) (i:=j) (by omega);have hvr:=up.I4 v (sZ oG);obtain⟨v,rfl⟩:∃v':Nat,v=v':=⟨v.toNat,by omega⟩;have kU:iH.getD j 0=v:=(by rw[Tf,oG];rfl);rw[kU,WO]at eT;obtain⟨n,ul⟩:=bF (xs:=aC) (i:=v) (by omega);have Hp:aC.getD v 0=n:=(by rw[Tf,ul];rfl);rw[Hp]at eT;have sL:=uk n (sZ ul);have zf:=TL j (by omega);have ma:(0<=(j:Int)/\(j:Int)<(np:Int))=True:=(by simp;omega);have Bm:(0<=(v:Int)/\(v:Int)<(np:Int))=True:=(by simp;omega);have aI:(iH.take j).length=j:=(by rw[Vl];omega);have anT:(iH.take j).map iv++[AV.val (S_ Tg v)]=(iH.take (j+1)).map iv:=(by rw[WY,oG,UA];rfl);refine aF ?_;refine ab ?_;simp only[seval,z1,B8,y5,Cz,dn oG,ma,aI];refine⟨by omega,?_⟩;rw[anT];have rK:=PI l n i;have va:=λ(L:SA) k kp=>Su (lv:=lv) (k:=k) (kp:=kp) (h:=l) (n:=n) (hours:=i) (e:=.opn (N+2)) (je L) lP.tick (by omega) (by omega) (by omega) (by omega) (by rw[fE,X7];omega);simp only[fE]at va;obtain⟨y,hy⟩:∃y,y=l_ (tick ρj) l n i:=⟨_,rfl⟩;rw[<- hy]at eT va;have xD:y.l=[iv y.number.min,iv y.number.max,iv y.hour.min,iv y.hour.max]:=rfl;have eO:∀FP,FP=ts.flatMap aD.l->aa.own 4 (FP++y.l) 68=gC (hw (j+1)).1:=λFP qf=>(by rw[eT,gC,Lr,qf]);rcases Vf j with vJ|vJ
   ·subst vJ;obtain rfl:ts=[]:=WS qB;have cx:gk (N+6+np) 0=.sl 0 [] .exact:=rfl;have jE:∀o,gO 0 o=[]:=λ_=>rfl;have vK:(0<(np:Int))=True:=(by simp;omega);rw[cx,jE,Ts];refine mC [13,15,17] (Tt 18) (λD=>bif isDone 17 D then Gf (tick (tick (tick (tick (tick ρj)))))++(YY [iv first,iv i,iv am,.sl 0 [] (.opn (N+3)),pv,.bB (N+6+np) 0 1 0] 0 np 1++(gP++[.own 4 y.l 68]))else bif isDone 15 D then Gf (tick (tick (tick (tick (tick ρj)))))++(YY [iv first,iv i,iv am,.sl 0 [] (.opn (N+3)),pv,.sl 0 [] .exact] 0 np 1++(gP++[.own 4 y.l 68]))else bif isDone 13 D then Gf (tick (tick (tick (tick (tick ρj)))))++(YY [iv first,iv i,iv am,.sl 0 [] (.opn (N+3)),pv,.sl 0 [] .exact] 0 np 1++gP)else Gf (tick ρj)++(YY [iv first,iv i,iv am,.sl 0 [] (.opn (N+3)),pv,.sl 0 [] .exact] 0 np 1++gP)) ?_;simp only[seval,ya,uJ,y1,nP,dn oG,ma,dn ul,Bm,aV,jm,n0,w0,Fo,vK,Ev];refine sk y.av _ (bX (va _ _ _ ⟨rfl,rfl⟩)) ?_;(try simp only[seval,ya,uJ,y1,nP,dn oG,ma,dn ul,Bm,aV,jm,n0,w0,Fo,vK,Ev,aD.av,xD]);refine ab ?_;simp only[seval,show Tg.wrap 1=1 from bt _ (by omega),show (0:Int)+1=1 from rfl];have e1:(hw (0+1)).2=tick (tick (tick (tick (tick ρj)))):=(by rw[eT]);have e2:gO (0+1) (gC (hw (0+1)).1)=[.own 4 [iv y.number.min,iv y.number.max,iv y.hour.min,iv y.hour.max] 68]:=(by rw[<- eO [] rfl];rfl);refine hR _ ⟨by omega,trivial,?_⟩;rw[e1,e2];exact cK
   ·obtain⟨n2,rE⟩:∃n2,j=n2+1:=⟨j-1,by omega⟩;have cy:gk (N+6+np) j=.bB (N+6+np+n2) 0 j 0:=(by rw[rE];rfl);have vG:∀o,(gO j o)[n2]?=some o:=λo=>(by rw[rE];have:=Dw n2 o [];rwa[Ts]at this);have vV:∀o,(gO j o).set n2 .gone=gO j .gone:=λo=>(by rw[rE];have:=Dx n2 o .gone [];rwa[Ts,Ts]at this);have sE:∀a,gO j .gone++[a]=gO (j+1) a:=λa=>(by rw[rE];exact aav _ _);have ko:∀o,(gO j o).length=j:=yM j;have eO:=eO _ rfl;rw[cy];unfold gC;obtain⟨FP,qf⟩:∃FP,FP=ts.flatMap aD.l:=⟨_,rfl⟩;have w8:FP.length=j* 4:=(by rw[qf,Lq,qB]);rw[<- qf]at eO⊢;refine mC [13,15,17] (Tt 18) (λD=>bif isDone 17 D then Gf (tick (tick (tick (tick (tick ρj)))))++(YY [iv first,iv i,iv am,.sl 0 [] (.opn (N+3)),pv,.bB (N+6+np+j) 0 (j+1) 0] 0 np (j+1)++(gP++gO (j+1) (.own 4 (FP++y.l) 68)))else bif isDone 15 D then Gf (tick (tick (tick (tick (tick ρj)))))++(YY [iv first,iv i,iv am,.sl 0 [] (.opn (N+3)),pv,.bB (N+6+np+n2) 0 j 0] 0 np (j+1)++(gP++gO (j+1) (.own 4 (FP++y.l) 68)))else bif isDone 13 D then Gf (tick (tick (tick (tick (tick ρj)))))++(YY [iv first,iv i,iv am,.sl 0 [] (.opn (N+3)),pv,.bB (N+6+np+n2) 0 j 0] 0 np (j+1)++(gP++gO j (.own 4 FP 68)))else Gf (tick ρj)++(YY [iv first,iv i,iv am,.sl 0 [] (.opn (N+3)),pv,.bB (N+6+np+n2) 0 j 0] 0 np (j+1)++(gP++gO j (.own 4 FP 68)))) ?_;simp only[seval,ya,uJ,y1,nP,dn oG,ma,dn ul,Bm,aV,jm,n1,w1,v1,vG,vV,sE,ko,w8,Ev];refine sk y.av _ (bX (va _ _ _ ⟨rfl,rfl⟩)) ?_;(try simp only[seval,ya,uJ,y1,nP,dn oG,ma,dn ul,Bm,aV,jm,n1,w1,v1,vG,vV,sE,ko,w8,Ev,aD.av,xD]);refine⟨vJ,by omega,?_⟩;refine ab ?_;simp only[seval,zf];refine hR _ ⟨by omega,trivial,?_⟩;rw[<- eO,show (hw (j+1)).2=tick (tick (tick (tick (tick ρj)))) by rw[eT]];exact cK
  ·refine bT ?_;exact⟨(j,tick ρj),⟨by dsimp only;omega,by dsimp only;omega,lP.tick.mono (by omega)⟩,ep (by simp only[seval];simp[bE,Wk.refl]) (by rw[Hr])⟩
 ·have hd:decide ((j:Int)<((min np 3:Nat):Int))=false:=by simpa using fM
  refine ab ?_;simp only[seval,aV,abX,show (if(3:Int)<(np:Int)then(3:Int)else(np:Int))=((min np 3:Nat):Int)from abq,hd];refine ao ?_;refine bT ?_;exact⟨(j,(hw j).2),⟨by dsimp only;omega,by dsimp only;omega,lP.mono (by omega)⟩,ep (by simp only[seval];simp[bE,Wk.refl]) rfl⟩
def akt{i np ns cn:Nat}{first am:Int}{l aC bL:SD}{pv sv CN:AV}{G:SA}{EH:Bool}{ρ4:bp}{zc:aa}{YY:SC->Nat->Nat->Nat->SA}{Ψ:SI}(hT:dO Gf t N)(hY:YW Gf N zc YY)(hb:b<2^10)(hi:1<=i/\i<=3)(pq:0<=first/\first<=90)(xz:1<=am/\am<=3)(an:oT first am l i)(iB:cn<=2)(Ib:ρ4.Ok (b+91)):
  aW lv BI none 240 (cs (cf (lr 10 o0))) ⟨[(20,iv cn),(16,.sl ns (bL.map iv) (.opn (N+5))),(15,.sl np (aC.map iv) (.opn (N+4))),(13,CN),(11,.sl (i+1) (l.map iv) (.opn (N+2))),(10,.op (N+1) 0),(6,.op N 0),(0,.op t 0),(2,bv EH)],Gf ρ4++(YY [iv first,iv i,iv am,.sl 0 [] (.opn (N+3)),pv,sv] 0 np ns++G)⟩ (ap.then (λs'=>∃y:List Seen×bp,(y.1.length<=2/\(∀s∈y.1,0<=s.hour/\s.hour<=i/\∃τ,s.next=nZ τ (l.getD s.hour.toNat 0) 1 0 99)/\y.2.Ok (b+97))/\s'.Sub ⟨[(16,.sl ns (bL.map iv) (.opn (N+5))),(15,.sl np (aC.map iv) (.opn (N+4))),(13,CN),(11,.sl (i+1) (l.map iv) (.opn (N+2))),(10,.op (N+1) 0),(6,.op N 0),(0,.op t 0),(2,bv EH)],Gf y.2++(YY [iv first,iv i,iv am,.sl y.1.length (y.1.flatMap Seen.l) (.opn (N+3)),pv,sv] y.1.length np ns++G)⟩) Ψ):=by
 obtain⟨vv,sx,y0,y1,y3,y4,y5,nP,Ak,Cy,Cz,ri,ua,cx⟩:=hY;have je:∀L:SA,dO (λτ=>Gf τ++L) t (N+L.length):=λL=>hT.more L;have fE:=an.len;unfold o0 Yu;dsimp only[T_,lr,cs,cf];obtain⟨hz,Bu⟩:∃hz:Nat->List Seen×bp,∀j,hz j=td l i ρ4 j:=⟨_,λ_=>rfl⟩;have mQ:∀j,(hz j).1.length=j:=λj=>by rw[Bu];exact adR _ _ _ _
 have NJ:∀j:Nat,(hz j).2.Ok (b+91+3* j):=λj=>by rw[Bu];exact(adT Ib _ _ j).mono (by omega)
 have anZ:hz 0=([],ρ4):=Bu 0;refine bO ?_;refine gU cn (λj:Nat=>[(20,iv ((cn:Int)-j))]) (λj=>Gf (hz j).2++(YY [iv first,iv i,iv am,.sl j ((hz j).1.flatMap Seen.l) (.opn (N+3)),pv,sv] j np ns++G)) (λ_=>True) (λ_ _=>rfl) (by simp only[seval];simp[bE,Wk.refl]) (by rw[anZ];rfl) (λ_ _ _=>by simp[hT.len,vv]) trivial (λbN cm j qq _ R hR=> ?_);clear bN cm;have lP:=NJ j;refine ai ?_;refine ao ?_;refine⟨λhc=> ?_,λhc=> ?_⟩
 ·have fM:j<cn:=by omega
  have eT:hz (j+1)=((hz j).1++[⟨dp (hz j).2 i,nZ (tick (hz j).2) (l.getD (dp (hz j).2 i).toNat 0) 1 0 99⟩],tick (tick (tick (hz j).2))):=by rw[Bu,Bu];rfl
  have qB:=mQ j;generalize Hr:hz j=hj at lP eT qB⊢;obtain⟨ss,ρj⟩:=hj;dsimp only at lP eT qB⊢;have hur:=lX ρj i;obtain⟨u,hu⟩:∃u:Nat,dp ρj i=u:=⟨(dp ρj i).toNat,by omega⟩;rw[hu,WO]at eT;have hui:u<=i:=by omega
  obtain⟨n,MW⟩:=bF (xs:=l) (i:=u) (by omega);have Hp:l.getD u 0=n:=by rw[Tf,MW];rfl
  rw[Hp]at eT;have sL:=an.ge (by omega) u hui;rw[Hp]at sL;have awt:0<=n/\n<=1000:=by have:=ae8 (v:=0) sL (by omega) pq xz (by omega);omega
  have zf:Tg.wrap ((cn:Int)-j-1)=(cn:Int)-((j+1:Nat):Int):=by rw[bt _ (by omega)];omega
  have hbu:(0<=(u:Int)/\(u:Int)<(i:Int)+1)=True:=by simp;omega
  refine aF ?_;refine ab ?_;simp only[seval,y1];refine aK (qe (n:=i) (je _) lP (by omega) (by omega) ?_);rw[hu];(try simp only[seval]);have Q5:=λ(L:SA) k kp=>K7 (lv:=lv) (k:=k) (kp:=kp) (n:=n) (m:=1) (lo:=0) (hi:=99) (je L) lP.tick (by omega) (by omega) (by decide);obtain⟨y,hy⟩:∃y,y=nZ (tick ρj) n 1 0 99:=⟨_,rfl⟩;rw[<- hy]at eT Q5;obtain⟨FP,qf⟩:∃FP,FP=ss.flatMap Seen.l:=⟨_,rfl⟩;have w8:FP.length=j* 3:=by rw[qf,aad,qB]
  have hFQ:FP++[iv u,iv y.min,iv y.max]=(hz (j+1)).1.flatMap Seen.l:=by rw[eT,Lr,qf];rfl
  rw[<- qf];refine mC [9,12,14] (Tt 15) (λD=>bif isDone 14 D then Gf (tick (tick (tick ρj)))++(YY [iv first,iv i,iv am,.sl (j+1) (FP++[iv u,iv y.min,iv y.max]) (.opn (N+3)),pv,sv] (j+1) np ns++G)else bif isDone 12 D then Gf (tick (tick (tick ρj)))++(YY [iv first,iv i,iv am,.sl j FP (.opn (N+3)),pv,sv] (j+1) np ns++G)else bif isDone 9 D then Gf (tick (tick (tick ρj)))++(YY [iv first,iv i,iv am,.sl j FP (.opn (N+3)),pv,sv] j np ns++G)else Gf (tick ρj)++(YY [iv first,iv i,iv am,.sl j FP (.opn (N+3)),pv,sv] j np ns++G)) ?_;simp only[seval,zS1,Fp,y1,y3,nP,Ak,dn MW,hbu,w8,fE];have xD:y.l=[iv y.min,iv y.max]:=rfl;refine sk y.av _ (bX (Q5 _ _ _ ⟨rfl,rfl⟩)) ?_;(try simp only[seval,zS1,Fp,y1,y3,nP,Ak,dn MW,hbu,w8,fE,eX.av,xD]);refine⟨by omega,?_⟩;refine ab ?_;simp only[seval,zf];refine hR _ ⟨by omega,trivial,?_⟩;rw[<- hFQ,eT];exact cK
 ·have zg:j=cn:=by omega
  subst zg;clear hR;refine bT ?_;have cy:=mQ j;have Nr:∀s∈(hz j).1,0<=s.hour/\s.hour<=i/\∃τ,s.next=nZ τ (l.getD s.hour.toNat 0) 1 0 99:=by rw[Bu];exact adS (λτ=>by have:=lX τ i;omega) j
  refine⟨((hz j).1,(hz j).2),⟨by dsimp only;omega,Nr,lP.mono (by omega)⟩,ep (by simp only[seval];simp[bE,Wk.refl]) ?_⟩;dsimp only;rw[cy]
end
section
variable {lv:Bool}{P:Tl}{r:SL}
def QK{nt:Nat}{c:U5}{T:SH}{Φ:SI}{P0 Q0:SA}{M n pE j:Nat}{l:SY}{cl:SC}(hM:P0.length=M)(hl:l.length=n)(MM:P0[pE]?=some (.cells cl 25))(hj:cl[j]?=some (gk M n))(h:∀G',G'.length=n->aW lv P r nt c ⟨T,P0.set pE (.cells (cl.set j (aG l)) 25)++(G'++Q0)⟩ Φ):aW lv P r nt c ⟨T,P0++(gO n (gC l)++Q0)⟩ Φ:=by
 have hlt:=(Tn.1 MM).1
 match n,hl with
 |0,hl=>obtain rfl:l=[]:=WS hl;refine Ke (id:=pE) (j:=j) (y:=aG []) (el:=25) (l:=cl) (x:=.sl 0 [] .exact) ?_ hj (AA.of (dQ 0 [] .exact)) ?_;show (P0++([]++Q0))[pE]?=_;rw[T6 hlt];exact MM;show aW lv P r nt c ⟨T,(P0++([]++Q0)).set pE _⟩ Φ;rw[VE _ _ hlt];exact h [] rfl
 |n+1,hl=>refine ahf (BR:=M+n) (pE:=pE) (j:=j) (cap:=0) (ps:=l) (l:=cl) (el:=25) ?_ ?_ (by omega) (by rw[hl];exact hj) ?_;rw[<- hM,Uc (by omega),UU,Dw];rfl;rw[T6 hlt];exact MM;rw[Vg _ _ (by omega),<- hM,UU,Dx,VE _ _ hlt];exact h _ (yM _ _)
end
section
variable {lv:Bool}{k kp:SF}{Gf:bp->SA}{t N:Nat}{b:Int}
def akp{i mn np ns c:Nat}{first am:Int}{l aC bL:SD}{ss:List Seen}{ey di:SY}{ρ:bp}{zc:aa}{YY:SC->Nat->Nat->Nat->SA}(hT:dO Gf t N)(hH:∀τ,bJ (Gf τ))(hY:YW Gf N zc YY)(EI:zc=.cells [.val (.int .i64 0),.val (.int .i64 0),.val (.int .i64 0),.sl 0 [] .exact,.sl 0 [] .exact,.sl 0 [] .exact] 25)(fE:l.length=i+1)(HM:ey.length=np)(jm:aC.length=np)(oE:di.length=ns)(vQ:bL.length=ns)(hc:ss.length=c)
  (hk:k (.aJ [aj.av ⟨first,i,am,ss,ey,di⟩,aV l,aV aC,aV bL]) (Gf ρ)):
  aW lv BI none 240 (lr 14 o0) ⟨[(16,.sl ns (bL.map iv) (.opn (N+5))),(15,.sl np (aC.map iv) (.opn (N+4))),(13,iv mn),(11,.sl (i+1) (l.map iv) (.opn (N+2))),(10,.op (N+1) 0),(6,.op N 0),(0,.op t 0),(2,bv false)],Gf ρ++(YY [iv first,iv i,iv am,.sl c (ss.flatMap Seen.l) (.opn (N+3)),gk (N+6) np,gk (N+6+np) ns] c np ns++(gO np (gC ey)++gO ns (gC di)))⟩ (rX BI [.cell 6 25,.tmp 7,.tmp 8,.tmp 9] N k kp):=by
 have n0:=hY.n0;have Ai:=hY.Ai;have Aj:=hY.Aj;obtain⟨vv,sx,y0,y1,y3,y4,y5,nP,Ak,Cy,Cz,ri,ua,cx⟩:=hY;have NC:∀τ (L:SA)(y:aa),(Gf τ++L).set N y=Gf τ++L.set 0 y:=λτ L y=>by have:=cG (Gf τ) L 0 y;rwa[hT.len]at this
 have NA:∀τ (L:SA),(Gf τ++L)[N]?=L[0]?:=λτ L=>by have:=aP (Gf τ) L 0;rwa[hT.len]at this
 unfold o0 Yu;dsimp only[T_,lr,cs,cf];rw[<- Ev];refine QK (M:=N+6) (pE:=N+1) (j:=4) (n0 _ _ _ _ _) HM (Ai _ _ _ _ _) rfl λG1 yR=> ?_;rw[Aj,<- Ev,<- Ts (gO ns (gC di))];refine QK (M:=N+6+np) (pE:=N+1) (j:=5) (cl:=[iv first,iv i,iv am,.sl c (ss.flatMap Seen.l) (.opn (N+3)),aG ey,gk (N+6+np) ns]) (by rw[Tp,n0,yR]) oE (by rw[Ev];exact y1 _ _ _ _ _ _) rfl λG2 hG2=> ?_;rw[Ev,nP,Ev,Ev];obtain⟨r2,HQ⟩:∃r2,r2=[iv first,iv i,iv am,.sl c (ss.flatMap Seen.l) (.opn (N+3)),aG ey,aG di]:=⟨_,rfl⟩;rw[show ([iv first,iv i,iv am,.sl c (ss.flatMap Seen.l) (.opn (N+3)),aG ey,gk (N+6+np) ns]:SC).set 5 (aG di)=r2 by rw[HQ];rfl];have hr6:r2.length=6:=by rw[HQ];rfl
 have iD:U9 6 r2=r2:=Tu (by omega);have kG:∀a∈r2,a.leaf=true:=by rw[HQ];intro a ha;simp only[Tm,T5,or_false]at ha;rcases ha with rfl|rfl|rfl|rfl|rfl|rfl<;>rfl
 have y00:∀τ r c d e G,(Gf τ++(YY r c d e++G))[N]?=some (.cells [.val (.int .i64 0),.val (.int .i64 0),.val (.int .i64 0),.sl 0 [] .exact,.sl 0 [] .exact,.sl 0 [] .exact] 25):=λτ r c d e G=>by rw[y0,EI]
 refine ab ?_;simp only[seval,y1,y00,hr6,iD];refine⟨kG,?_⟩;rw[NC];obtain⟨LL,hLL⟩:=cx r2 c np ns (.cells r2 25);rw[VE _ _ (by rw[vv];omega),hLL,WX];refine jR ?_;simp only[seval,NA,hr6,iD];refine jy (b:=.aJ [aj.av ⟨first,i,am,ss,ey,di⟩,aV l,aV aC,aV bL]) (H':=Gf ρ) (afa ?_ ?_ ?_ ?_) rfl (by simp[hT.len]) (hH _) (by simp only[iw,Tm,T5,or_false,forall_eq_or_imp,forall_eq,BW,BV,and_self]) hk;rw[HQ,aj.av];refine uP (.cons (Wk.refl _) (.cons (Wk.refl _) (.cons (Wk.refl _) (.cons ?_ (.cons (Wk.refl _) (.cons (Wk.refl _) .nil))))));rw[<- hc];exact dQ _ _ _;rw[<- fE];exact dQ _ _ _;rw[<- jm];exact dQ _ _ _;rw[<- vQ];exact dQ _ _ _
end
section
variable {lv:Bool}{k kp:SF}{Gf:bp->SA}{t N:Nat}{τ:bp}{b:Int}
def akr{pm:Nat}(hT:dO Gf t N)(hτ:τ.Ok b)(hb:b<2^10)(uo:pm<=4)(hk:∀(x:aj)(bG aC bL:SD)(τ':bp),x.Ok->x.pieces.length<=pm->bG.length<=4->aC.length<=4->bL.length<=3->τ'.Ok (b+200)->k (.aJ [x.av,aV bG,aV aC,aV bL]) (Gf τ')):aS lv BI 47 (Gf τ) [.op t 0,iv pm,bv false] k kp:=by
 refine br (rs:=[.cell 6 25,.tmp 7,.tmp 8,.tmp 9]) (nt:=240) Yu λhH hA=> ?_;simp only[ba,Tq];have vu:∀o:aa,dO (λτ=>Gf τ++[o]) t (N+1):=λo=>hT.more [o];have lO:∀τ (L:SA)(j:Nat),(Gf τ++L)[N+j]?=L[j]?:=λτ L j=>by rw[<- hT.len τ,aP]
 have d_:∀τ (L:SA)(j:Nat)(y:aa),(Gf τ++L).set (N+j) y=Gf τ++L.set j y:=λτ L j y=>by rw[<- hT.len τ,cG]
 have NA:∀τ (L:SA),(Gf τ++L)[N]?=L[0]?:=λτ L=>lO τ L 0;have NC:∀τ (L:SA)(y:aa),(Gf τ++L).set N y=Gf τ++L.set 0 y:=λτ L y=>d_ τ L 0 y;refine ai ?_;refine ai ?_;refine aK (qe (vu _) hτ (by omega) (by omega) ?_);have r1:=lX τ 90;generalize dp τ 90=u1 at r1⊢;(try simp only[seval,zE4,uJ]);refine aK (Lc (ns:=[0,1,10,u1]) (vu _) hτ.tick (by omega) (by simp) (by simp) ?_);have r2:=KW (tick τ) (ns:=[0,1,10,u1]) (by simp);simp only[Tm,T5,or_false]at r2;generalize wZ (tick τ) [0,1,10,u1]=first at r2⊢
 (try simp only[seval]);refine aK (Sd (lo:=1) (hi:=3) (vu _) hτ.tick.tick (by omega) (by decide) (by decide) ?_);have r3:=ae9 (tick (tick τ)) (show (1:Int)<=3 by decide);generalize Cw (tick (tick τ)) 1 3=hours at r3⊢;(try simp only[seval,zE4,uJ]);refine aK (Lc (ns:=[1,2,2,3]) (vu _) hτ.tick.tick.tick (by omega) (by simp) (by simp) ?_);have r4:=KW (tick (tick (tick τ))) (ns:=[1,2,2,3]) (by simp);simp only[Tm,T5,or_false]at r4;generalize wZ (tick (tick (tick τ))) [1,2,2,3]=am at r4⊢;have pq:0<=first/\first<=90:=by omega
 have xz:1<=am/\am<=3:=by omega
 clear r1 r2 r4;have hσ:(tick (tick (tick (tick τ)))).Ok (b+4):=hτ.tick.tick.tick.tick.mono (by omega);generalize tick (tick (tick (tick τ)))=σ at hσ⊢;(try simp only[seval,hT.len,lO,d_,NA,NC]);refine ab ?_;simp only[seval,lO,z1,B8]
 (repeat apply ii);refine tM (t:=11) (sz:=1) (el:=3) (by simp only[seval]<;>rfl) ?_;simp only[seval,hT.len]
 (repeat apply ii);refine ahn (id:=N+1) (j:=3) (sz:=3) (gW:=29) (by simp only[seval,lO]<;>rfl) rfl ?_;simp only[seval,d_,hT.len];refine QJ [11,10,6,0,1,2] ?_;show aW _ _ _ _ _ ⟨[(11,.sl 1 [iv first] (.opn (N+2))),(10,.op (N+1) 0),(6,.op N 0),(0,.op t 0),(1,iv pm),(2,bv false)],_⟩ _;obtain⟨zc,EI⟩:∃zc:aa,zc=.cells [iv 0,iv 0,iv 0,.sl 0 [] .exact,.sl 0 [] .exact,.sl 0 [] .exact] 25:=⟨_,rfl⟩;simp only[iv]at EI;rw[<- EI];obtain⟨hn,hhn⟩:∃hn:Nat,hours=hn:=⟨hours.toNat,by omega⟩;subst hhn;refine ai ?_;refine bO ?_;refine gU hn (λi:Nat=>[(11,.sl (i+1) ((lJ σ first am i).1.map iv) (.opn (N+2))),(12,iv i)]) (λi=>Gf (lJ σ first am i).2++[zc,.cells [iv first,iv hn,iv am,.sl 0 [] (.opn (N+3)),.sl 0 [] .exact,.sl 0 [] .exact] 25,.tail (i+1) 1 3,.tail 0 3 29]) (λi=>True) (λ_ _=>rfl) (by simp only[lJ];simp only[seval];simp[bE,Wk.refl]) rfl (λ_ _ _=>by simp[hT.len]) trivial (λbN cm i ce _ R hR=> ?_)
 ·clear bN cm;have an:=abf σ first (am:=am) (by omega) i
  have rI:=abg hσ first am i
  have eT:lJ σ first am (i+1)=((lJ σ first am i).1++[(lJ σ first am i).1.getD i 0+xX (lJ σ first am i).2 am],tick (tick (lJ σ first am i).2)):=rfl
  have vF:=an.ge (by omega) i (Tv _);generalize lJ σ first am i=m at an rI eT vF hR⊢
  obtain⟨l,ρ⟩:=m;dsimp only at an rI eT vF⊢;have fE:=an.len;refine ab ?_;simp only[seval,lO];refine ao ?_;refine⟨λh=> ?_,λh=> ?_⟩;(as_aux_lemma=>have bh:i<hn:=(by omega);obtain⟨w,hw⟩:=bF (xs:=l) (i:=i) (by omega);have sE:l.getD i 0=w:=(by rw[Tf,hw];rfl);rw[sE]at eT vF;have aU:=ael ρ (am:=am) (by omega);have hsd:xX ρ am=wZ (tick ρ) [0,am,dp ρ am]:=rfl;obtain⟨v,hv⟩:∃v,v=xX ρ am:=⟨_,rfl⟩;rw[<- hv]at eT aU hsd;have EF:Tg.wrap (w+v)=w+v:=NM (ae8 vF aU pq xz (by omega));have e9:=TL i (by omega);have dA:(0<=(i:Int)/\(i:Int)<(i:Int)+1)=True:=(by simp;omega);have je:∀L:SA,dO (λτ=>Gf τ++L) t (N+L.length):=λL=>hT.more L;refine aF ?_;refine bO ?_;obtain⟨X,hX⟩:∃X:Nat->SA,∀a,X a=[zc,.cells [iv first,iv hn,iv am,.sl 0 [] (.opn (N+3)),.sl 0 [] .exact,.sl 0 [] .exact] 25,.tail a 1 3,.tail 0 3 29]:=⟨_,λ_=>rfl⟩;have hXe:=(hX (i+1)).symm;simp only[iv]at hXe;have x1:∀τ a,(Gf τ++X a)[N+1]?=some (.cells [iv first,iv hn,iv am,.sl 0 [] (.opn (N+3)),.sl 0 [] .exact,.sl 0 [] .exact] 25):=λτ a=>(by rw[lO,hX];rfl);have x2:∀τ a,(Gf τ++X a)[N+2]?=some (.tail a 1 3):=λτ a=>(by rw[lO,hX];rfl);have PX:∀τ a a',(Gf τ++X a).set (N+2) (.tail a' 1 3)=Gf τ++X a':=λτ a a'=>(by rw[d_,hX,hX];rfl);rw[hXe];refine mC [11,13,16] (Tt 18) (λD=>bif isDone 16 D then Gf (tick (tick ρ))++X (i+1+1)else bif isDone 13 D then Gf (tick (tick ρ))++X (i+1)else bif isDone 11 D then Gf (tick ρ)++X (i+1)else Gf ρ++X (i+1)) ?_;simp only[seval,P5,Fp,z1,B8,x1,x2,PX,dn hw,dA,EF,fE];refine sk _ _ (bX (qe (je (X (i+1))) rI (by omega) (by omega) ⟨rfl,rfl⟩)) ?_;(try simp only[seval,P5,Fp,z1,B8,x1,x2,PX,dn hw,dA,EF,fE]);refine sk (iv v) _ (bX (Lc (ns:=[0,am,dp ρ am]) (je (X (i+1))) rI.tick (by omega) (by simp) (by simp) ⟨by rw[hsd],rfl⟩)) ?_;(try simp only[seval,P5,Fp,z1,B8,x1,x2,PX,dn hw,dA,EF,fE]);refine⟨by omega,?_⟩;refine ab ?_;simp only[seval,e9];refine hR _ ⟨bh,trivial,?_⟩;rw[eT,UA,hX];exact cK)
  ·as_aux_lemma=>
   have dL:i=hn:=(by omega);subst dL;clear hR;refine bT ?_;obtain⟨w,hw⟩:=bF (xs:=l) (i:=i) (by omega);have sE:l.getD i 0=w:=(by rw[Tf,hw];rfl);have H5:first<=w/\w<=first+9:=by rw[sE]at vF;have:am* (i:Int)<=3* 3:=axt (by omega) (by omega) (by omega) (by omega);generalize am* (i:Int)=q at vF this;omega
   obtain⟨mn,oy⟩:∃mn:Nat,w-first=mn:=⟨(w-first).toNat,by omega⟩
   have M0:mn<=9:=(by omega);have hwm:Tg.wrap (w-first)=mn:=(by rw[NM (by omega),oy]);have dA:(0<=(i:Int)/\(i:Int)<(i:Int)+1)=True:=(by simp;omega);refine cS 8 ?_;simp only[seval,lO,dn hw,dA,hwm];have je:∀L:SA,dO (λτ=>Gf τ++L) t (N+L.length):=λL=>hT.more L;refine ai ?_;refine aK (St (n:=mn) (je _) rI (by omega) (by omega) ?_);have rF:=acI ρ mn;have rI:=IE rI mn mn;generalize iR ρ mn mn=m2 at rF rI⊢;obtain⟨order,ρ⟩:=m2;dsimp only at rF rI⊢;(try simp only[seval]);refine ai ?_
   (repeat apply ii);refine tM (t:=15) (sz:=1) (el:=3) (by simp only[seval]<;>rfl) ?_;simp only[seval,hT.len]
   (repeat apply ii);refine tM (t:=16) (sz:=1) (el:=3) (by simp only[seval]<;>rfl) ?_;simp only[seval,hT.len];refine QJ [16,15,14,13,11,10,6,0,1,2] ?_;show aW _ _ _ _ _ ⟨[(16,.sl 0 [] (.opn (N+5))),(15,.sl 0 [] (.opn (N+4))),(14,aV order),(13,iv mn),(11,.sl (i+1) (l.map iv) (.opn (N+2))),(10,.op (N+1) 0),(6,.op N 0),(0,.op t 0),(1,iv pm),(2,bv false)],_⟩ _;obtain⟨YY,hYY⟩:∃YY:SC->Nat->Nat->Nat->SA,∀r c d e,YY r c d e=[zc,.cells r 25,.tail (i+1) 1 3,.tail c 3 29,.tail d 1 3,.tail e 1 3]:=⟨_,λ_ _ _ _=>rfl⟩;have hY:YW Gf N zc YY:=avm hT hYY;have hY0:[zc,.cells [iv first,iv i,iv am,.sl 0 [] (.opn (N+3)),.sl 0 [] .exact,.sl 0 [] .exact] 25,.tail (i+1) 1 3,.tail 0 3 29,.tail 0 1 3,.tail 0 1 3]=YY [iv first,iv i,iv am,.sl 0 [] (.opn (N+3)),.sl 0 [] .exact,.sl 0 [] .exact] 0 0 0++[]:=(by rw[hYY];rfl);simp only[iv]at hY0;rw[hY0];refine ai ?_;refine Kc (α:=Nat×bp) (λy=>⟨[(16,.sl 0 [] (.opn (N+5))),(15,.sl y.1 ((k_ first order y.1).map iv) (.opn (N+4))),(13,iv mn),(11,.sl (i+1) (l.map iv) (.opn (N+2))),(10,.op (N+1) 0),(6,.op N 0),(0,.op t 0),(2,bv false)],Gf y.2++(YY [iv first,iv i,iv am,.sl 0 [] (.opn (N+3)),gk (N+6) y.1,.sl 0 [] .exact] 0 y.1 0++gO y.1 (gC (kR l i (λj=>first+order.getD j 0) ρ y.1).1))⟩) (λy=>y.1<=pm/\y.1<=mn/\y.2.Ok (b+60)) ?_ (λy hy=> ?_);exact akv hT hY (λτ'=>hT.an hH τ') hb uo (by omega) pq fE M0 rF (rI.mono (by omega))
   ·as_aux_lemma=>
    obtain⟨np,ρ1⟩:=y;obtain⟨am1,am2,NK⟩:=hy;dsimp only at am1 am2 NK⊢;have HM:(kR l i (λj=>first+order.getD j 0) ρ np).1.length=np:=Bg _ _ _ _ _;have abF:∀(p:Nat) z,(kR l i (λj=>first+order.getD j 0) ρ np).1[p]?=some z->∃τ,z=l_ τ l (first+order.getD p 0) i:=λp z hz=>L8 (P:=λn z=>∃τ,z=l_ τ l n i) (λτ n=>⟨τ,rfl⟩) np p z hz;generalize(kR l i (λj=>first+order.getD j 0) ρ np).1=ey at HM abF⊢;have jm:=acS first order np
    have uk:∀n∈k_ first order np,first<=n/\n<w:=λn hn=>by unfold k_ at hn;obtain⟨p,hp,rfl⟩:=Uh.1 hn;have hp:=UB.1 hp;obtain⟨o,ho⟩:=bF (xs:=order) (i:=p) (by rw[rF.len];omega);have:=rF.I4 o (sZ ho);rw[Tf,ho];simp only[T_];omega
    have HE:(k_ first order np).Nodup:=by
     have e:k_ first order np=(order.take np).map λo=>first+o:=by unfold k_;refine apx (by rw[Um,Vl,rF.len];omega) λp hp=> ?_;rw[Ur,Vh,if_pos hp,Tf];obtain⟨o,ho⟩:=bF (xs:=order) (i:=p) (by rw[rF.len];omega);rw[ho];rfl
     rw[e];have h1:(order.take np).Nodup:=ZA (ak' _ _) rF.nodup;rw[VJ,asI];exact(VJ.1 h1).imp λh e=>h (by omega)
    have hng:∀p,p<np->(k_ first order np).getD p 0=first+order.getD p 0:=λp hp=>by unfold k_;rw[Tf,Ur,awZ hp];rfl
    generalize k_ first order np=aC at jm uk HE hng⊢
    refine ai ?_;refine aK (St (n:=np) (je _) NK (by omega) (by omega) ?_);have up:=acI ρ1 np;have zD:=IE NK np np;generalize iR ρ1 np np=m3 at up zD⊢;obtain⟨iH,ρ2⟩:=m3;dsimp only at up zD⊢;have zD:ρ2.Ok (b+64):=zD.mono (by omega);(try simp only[seval]);have hwe:aV iH=.sl np (iH.map iv) .shut:=(by rw[aV,up.len]);rw[hwe];refine ai ?_;refine Kc (α:=Nat×bp) (λy=>⟨[(16,.sl y.1 ((iH.take y.1).map iv) (.opn (N+5))),(15,.sl np (aC.map iv) (.opn (N+4))),(13,iv mn),(11,.sl (i+1) (l.map iv) (.opn (N+2))),(10,.op (N+1) 0),(6,.op N 0),(0,.op t 0),(2,bv false)],Gf y.2++(YY [iv first,iv i,iv am,.sl 0 [] (.opn (N+3)),gk (N+6) np,gk (N+6+np) y.1] 0 np y.1++(gO np (gC ey)++gO y.1 (gC (kR l i (λj=>aC.getD (iH.getD j 0).toNat 0) ρ2 y.1).1)))⟩) (λy=>y.1<=np/\y.1<=3/\y.2.Ok (b+90)) ?_ (λy hy=> ?_);exact nk (s':=⟨[(19,iv 0),(18,.sl np (iH.map iv) .shut),(16,.sl 0 [] (.opn (N+5))),(15,.sl np (aC.map iv) (.opn (N+4))),(13,iv mn),(11,.sl (i+1) (l.map iv) (.opn (N+2))),(10,.op (N+1) 0),(6,.op N 0),(0,.op t 0),(2,bv false)],Gf ρ2++(YY [iv first,iv i,iv am,.sl 0 [] (.opn (N+3)),gk (N+6) np,.sl 0 [] .exact] 0 np 0++gO np (gC ey))⟩) (ep (by simp only[seval];simp[bE,Wk.refl]) rfl) (akq hT hY (yM _ _) hb (by omega) pq H5 fE (by omega) jm uk up zD)
    ·as_aux_lemma=>
     obtain⟨ns,ρ3⟩:=y;obtain⟨am3,am4,NL⟩:=hy;dsimp only at am3 am4 NL⊢;have oE:(kR l i (λj=>aC.getD (iH.getD j 0).toNat 0) ρ2 ns).1.length=ns:=Bg _ _ _ _ _;have abN:∀(s:Nat) z,(kR l i (λj=>aC.getD (iH.getD j 0).toNat 0) ρ2 ns).1[s]?=some z->∃τ,z=l_ τ l (aC.getD (iH.getD s 0).toNat 0) i:=λs z hz=>L8 (P:=λn z=>∃τ,z=l_ τ l n i) (λτ n=>⟨τ,rfl⟩) ns s z hz;generalize(kR l i (λj=>aC.getD (iH.getD j 0).toNat 0) ρ2 ns).1=di at oE abN⊢;have sS:=up.len;have aI:(iH.take ns).length=ns:=(by rw[Vl];omega);have eO:∀v∈iH.take ns,0<=v/\v<(np:Int):=λv hv=>up.I4 v (YN hv);have anf:(iH.take ns).Nodup:=ZA (ak' _ _) up.nodup;have abD:∀s,s<ns->(iH.take ns).getD s 0=iH.getD s 0:=λs hs=>by rw[Tf,Tf,Vh,if_pos hs]
     generalize iH.take ns=bL at aI eO anf abD⊢;refine ai ?_;refine aK (qe (n:=2) (je _) NL (by omega) (by omega) ?_);have iB:=lX ρ3 2;generalize dp ρ3 2=u2 at iB⊢;obtain⟨cn,rfl⟩:∃cn:Nat,u2=cn:=⟨u2.toNat,by omega⟩;have Ib:=NL.tick;generalize tick ρ3=ρ4 at Ib⊢;(try simp only[seval]);have mK:∀z∈ey,wD i z:=λz hz=>by obtain⟨p,hp⟩:=Wl hz;have cJ:=(Tn.1 hp).1;obtain⟨τ',rfl⟩:=abF p z hp;rw[<- hng p (by omega)];have:=L7 an (by omega) pq xz (n:=aC.getD p 0) (by rw[sE];exact uk _ (A8 (by omega))) τ';exact⟨this.num,this.hour⟩
     have htv:∀z∈di,wD i z:=λz hz=>by obtain⟨s,hs⟩:=Wl hz;have cy:=(Tn.1 hs).1;obtain⟨τ',rfl⟩:=abN s z hs;rw[<- abD s (by omega)];have ho:=eO _ (A8 (l:=bL) (i:=s) (by omega));have:=L7 an (by omega) pq xz (n:=aC.getD (bL.getD s 0).toNat 0) (by rw[sE];exact uk _ (A8 (by omega))) τ';exact⟨this.num,this.hour⟩
     refine Kc (α:=List Seen×bp) (λy=>⟨[(16,.sl ns (bL.map iv) (.opn (N+5))),(15,.sl np (aC.map iv) (.opn (N+4))),(13,iv mn),(11,.sl (i+1) (l.map iv) (.opn (N+2))),(10,.op (N+1) 0),(6,.op N 0),(0,.op t 0),(2,bv false)],Gf y.2++(YY [iv first,iv i,iv am,.sl y.1.length (y.1.flatMap Seen.l) (.opn (N+3)),gk (N+6) np,gk (N+6+np) ns] y.1.length np ns++(gO np (gC ey)++gO ns (gC di)))⟩) (λy=>y.1.length<=2/\(∀s∈y.1,0<=s.hour/\s.hour<=i/\∃τ,s.next=nZ τ (l.getD s.hour.toNat 0) 1 0 99)/\y.2.Ok (b+97)) ?_ (λy hy=> ?_);refine nk (s':=⟨[(20,iv cn),(16,.sl ns (bL.map iv) (.opn (N+5))),(15,.sl np (aC.map iv) (.opn (N+4))),(13,iv mn),(11,.sl (i+1) (l.map iv) (.opn (N+2))),(10,.op (N+1) 0),(6,.op N 0),(0,.op t 0),(2,bv false)],Gf ρ4++(YY [iv first,iv i,iv am,.sl 0 [] (.opn (N+3)),gk (N+6) np,gk (N+6+np) ns] 0 np ns++(gO np (gC ey)++gO ns (gC di)))⟩) (ep (by simp only[seval];simp[bE,Wk.refl]) rfl) (akt hT hY hb (by omega) pq xz an (by omega) (Ib.mono (by omega)));obtain⟨ss,ρ5⟩:=y;obtain⟨da,eJ,jH⟩:=hy;dsimp only at da eJ jH⊢;refine ai ?_;refine ao ?_;refine aF ?_;refine nk (s':=⟨[(16,.sl ns (bL.map iv) (.opn (N+5))),(15,.sl np (aC.map iv) (.opn (N+4))),(13,iv mn),(11,.sl (i+1) (l.map iv) (.opn (N+2))),(10,.op (N+1) 0),(6,.op N 0),(0,.op t 0),(2,bv false)],Gf ρ5++(YY [iv first,iv i,iv am,.sl ss.length (ss.flatMap Seen.l) (.opn (N+3)),gk (N+6) np,gk (N+6+np) ns] ss.length np ns++(gO np (gC ey)++gO ns (gC di)))⟩) (ep (by simp only[seval];simp[bE,Wk.refl]) rfl) (aku hT hY (yM _ _) hb pq M0 (by omega) oE htv jH λatS ρ6 Nv zu hρ6=>aks hT hY hb (by omega) (by omega) HM mK hρ6 λaqV ρ7 hp1 ku hρ7=>akp hT (λτ'=>hT.an hH τ') hY EI fE hp1 jm Nv aI rfl (hk ⟨first,i,am,ss,aqV,atS⟩ l aC bL ρ7 ⟨pq,by dsimp only;omega,xz,by dsimp only;omega,by dsimp only;omega,by dsimp only;omega,λs hs=> ?_,λy hy=> ?_,λy hy=> ?_⟩ (by dsimp only;omega) (by omega) (by omega) (by omega) (hρ7.mono (by omega))));obtain⟨h1,h2,τ',h3⟩:=eJ s hs;have ht:=an.top pq xz (by omega) s.hour.toNat (by omega);rw[h3];exact⟨⟨h1,h2⟩,(C_ (by omega) (by omega)).1⟩;exact⟨(ku y hy).1,(ku y hy).2⟩;exact⟨(zu y hy).1,(zu y hy).2⟩
end
section
variable {lv:Bool}{H:SA}{k kp:SF}
def aj3{x:aj}(zo:x.seen.length<=2^20)(qw:x.pieces.length<=2^20)(aU:x.aq.length<=2^20)(hk:k x.av H):aS lv BI 15 H [x.av] k kp:=by refine br (rs:=[.cell 2 25]) (nt:=19) Tryz.f15 λhH hA=> ?_;simp only[ba,Tq,aj.av];refine ab ?_;simp only[seval,TM];have tk1:U9 (x.seen.length* 3) (x.seen.flatMap Seen.l)=x.seen.flatMap Seen.l:=Tu (by rw[uC Seen.len];omega);have tk2:U9 (x.pieces.length* 4) (x.pieces.flatMap aD.l)=x.pieces.flatMap aD.l:=Tu (by rw[uC aD.len];omega);have tk3:U9 (x.aq.length* 4) (x.aq.flatMap aD.l)=x.aq.flatMap aD.l:=Tu (by rw[uC aD.len];omega);have n1:(x.seen.flatMap Seen.l).length=x.seen.length* 3:=uC Seen.len _;have n2:(x.pieces.flatMap aD.l).length=x.pieces.length* 4:=uC aD.len _;have n3:(x.aq.flatMap aD.l).length=x.aq.length* 4:=uC aD.len _;refine ab ?_;simp only[seval,TN,TS,bM,tk1,n1];refine⟨by omega,?_⟩;refine ab ?_;simp only[seval,TN,TS,aG,tk2,n2];refine⟨by omega,?_⟩;refine ab ?_;simp only[seval,TN,TS,aG,tk3,n3];refine⟨by omega,?_⟩;refine ab ?_;simp only[seval,TN,TO,TV];refine jR ?_;simp only[seval,TO];exact dS hH (b:=x.av) (uP (.cons (Wk.refl _) (.cons (Wk.refl _) (.cons (Wk.refl _) (.cons (dQ _ _ _) (.cons (dQ _ _ _) (.cons (dQ _ _ _) .nil))))))) (by rw[BW];trivial) hk
end
namespace Tk
structure aj.Small (x:aj):Prop where
 qL:x.seen.length<=20
 ey:x.pieces.length<=20
 di:x.aq.length<=20
end Tk
def Tk.aj.Ok.small{x:aj}(h:x.Ok):x.Small:=⟨UJ h.qL (by decide),UJ h.ey (by decide),UJ h.di (by decide)⟩
def C3 (l:List aj):AV:=.sl l.length (l.flatMap aj.l) .shut
def apq(n:Nat)(l:List aj):Lt n (C3 l):=by rw[C3,sX];intro a ha;obtain⟨x,_,h⟩:=T8.1 ha;exact On n x a h
def aj.aoY(x:aj):x.l.length=6:=rfl
def as4{xs:List aj}{i:Nat}{x:aj}(h:xs[i]?=some x):AV.shift (i* 6) (.rp (xs.flatMap aj.l))=some (.rp (iv x.first::iv x.hours::iv x.am::bM x.seen::aG x.pieces::aG x.aq::(xs.drop (i+1)).flatMap aj.l)):=Ps aj.aoY h
section
variable {lv:Bool}{H:SA}{k kp:SF}
def ajR{x:aj}(hk:k (bv (decide (x.seen.length>20)||(decide (x.pieces.length>20)||decide (x.aq.length>20)))) H):aS lv BI 11 H [x.av] k kp:=by
 refine br (rs:=[.tmp 2]) (nt:=19) Tryz.f11 λhH hA=> ?_;simp only[ba,Tq,aj.av];have e1:decide ((20:Int)<x.seen.length)=decide (x.seen.length>20):=by rw[Ve];simp;omega
 have e2:decide ((20:Int)<x.pieces.length)=decide (x.pieces.length>20):=by rw[Ve];simp;omega
 have e3:decide ((20:Int)<x.aq.length)=decide (x.aq.length>20):=by rw[Ve];simp;omega
 refine ab ?_;simp only[seval,TM];cases c1:decide (x.seen.length>20)
 case' false=>cases c2:decide (x.pieces.length>20)
 case' true=>have c2:=c1
 all_goals
  refine ab ?_;simp only[seval,TN,bM,aG,e1,e2,e3,c1,c2];refine aH ?_
  first|exact cW hH (by rw[c1,c2]at hk;exact hk)|exact cW hH (by rw[c1]at hk;exact hk)
end
section
variable {lv:Bool}{Gf:bp->SA}{t N:Nat}{τ:bp}{b:Int}{k kp:SF}
def aj0{x:aj}{s:Seen}(hT:dO Gf t N)(hτ:τ.Ok b)(hb:b<2^10)(hk:∀(z:aj)(τ':bp),z.Ok->τ'.Ok (b+200)->k (C3 [x,z,pO z s]) (Gf τ')):aS lv BI 13 (Gf τ) [x.av,s.av,.op t 0] k kp:=by
 refine br (rs:=[.tmp 6]) (nt:=24) Tryz.f13 λhH hA=> ?_;simp only[ba,Tq,aj.av,Seen.av,Seen.l];have lO:∀τ (L:SA)(j:Nat),(Gf τ++L)[N+j]?=L[j]?:=λτ L j=>by rw[<- hT.len τ,aP]
 have d_:∀τ (L:SA)(j:Nat)(y:aa),(Gf τ++L).set (N+j) y=Gf τ++L.set j y:=λτ L j y=>by rw[<- hT.len τ,cG]
 have h0:∀τ (L:SA),(Gf τ++L)[N]?=L[0]?:=λτ L=>lO τ L 0;have h1:∀τ (L:SA),(Gf τ++L)[N+1]?=L[1]?:=λτ L=>lO τ L 1;have h2:∀τ (L:SA),(Gf τ++L)[N+2]?=L[2]?:=λτ L=>lO τ L 2;have s2:∀τ (L:SA)(y:aa),(Gf τ++L).set (N+2) y=Gf τ++L.set 2 y:=λτ L y=>d_ τ L 2 y;have hHf:∀τ',bJ (Gf τ'):=λτ'=>hT.an hH τ';refine ab ?_;simp only[seval,TM,hT.len];refine ab ?_;simp only[seval,hT.len];have je:=hT.more [.cells [iv x.first,iv x.hours,iv x.am,bM x.seen,aG x.pieces,aG x.aq] 25,.cells [iv s.hour,iv s.next.min,iv s.next.max] 29];refine aK (akr (pm:=3) je hτ hb (by decide) λz bG aC bL τ' hz _ _ _ _ hτ'=> ?_);have zo:=hz.qL;have mQ:z.l=[iv z.first,iv z.hours,iv z.am,bM z.seen,aG z.pieces,aG z.aq]:=rfl;(try simp only[seval,aj.av,hT.len,h2,s2,mQ]);refine⟨⟨rfl,rfl,rfl⟩,?_⟩;have z18:gF (Uy #[S_ .i64 0,S_ .i64 0,S_ .i64 0,UP none 0 0,UP none 0 0,UP none 0 0]) 18=[iv 0,iv 0,iv 0,.sl 0 [] .exact,.sl 0 [] .exact,.sl 0 [] .exact,iv 0,iv 0,iv 0,.sl 0 [] .exact,.sl 0 [] .exact,.sl 0 [] .exact,iv 0,iv 0,iv 0,.sl 0 [] .exact,.sl 0 [] .exact,.sl 0 [] .exact]:=rfl;refine cS 6 ?_;simp only[seval,h0,h1,h2,z18];refine dG (.agg [iv (pO z s).first,iv (pO z s).hours,iv (pO z s).am,bM (pO z s).seen,aG (pO z s).pieces,aG (pO z s).aq]) (bX (akx (x:=z) (y:=s) (by omega) ⟨rfl,rfl⟩)) ?_;have hk:=hk z τ' hz hτ';generalize pO z s=w at hk⊢;(try simp only[seval]);(try refine⟨by decide,?_⟩);refine aH ?_;rw[<- hT.len τ'];exact dS (hHf τ') (b:=C3 [x,z,w]) (dQ _ _ _) (apq _ _) hk
end
open Go.Conc Go.Proofs Go.Gg.Tk
section
variable {H:SA}{k kp:SF}
def aj8{x:aj}(hm:H[0]?=some .main)(hc:eK x≠0)(jV:eK x≠11)(hk:k (.aJ [iv 0,iv (eK x)]) H):aS true BI 16 H [x.av] k kp:=by refine br (rs:=[.tmp 2,.tmp 3]) (nt:=19) Tryz.f16 λhH hA=> ?_;simp only[ba,Tq,aj.av];have hxr:lY.length=6:=rfl;have mQ:gp.length=28:=rfl;have he:vg x=eK x:=if_neg hc;refine ai ?_;refine ab ?_;simp only[seval,TN,TQ,TR];refine aK (Sf (x:=x) (b:=true) (dW hm) (λ_=>Gi) (.inl hc) ?_);rw[he];(try simp only[seval,hxr,mQ]);refine⟨afr,afn,?_⟩;refine ab ?_;simp only[seval,show (eK x==11)=false by simpa using jV];refine ao ?_;refine aF ?_;have EJ:U7 1 gp=.val (.map none)::U7 2 gp:=rfl;refine ab ?_;simp only[seval,TP,EJ];rw[afP _ _ _ F.JV];refine aH ?_;exact dS hH (Wk.refl _) (by simp[iw,dF]) hk
end
def QT(b:eX)(hi:Int){e:Int}(he:e≠11):fx b hi e≠11:=by unfold fx;split;exact he;split<;>decide
def aaO(hours:Int)(y:aD):gz hours y≠11:=by unfold gz;split<;>exact QT _ _ (by decide)
def asG(hours:Int)(s:Seen):iG hours s≠11:=by unfold iG;split;decide;exact QT _ _ (by decide)
def GO{α:Type}{f:α->Int}(h:∀a,f a≠11):∀l:List α,iM f l≠11
 |[]=>by unfold iM;decide
 |a::l=>by unfold iM;split;exact GO h l;exact h a
def aid(x:aj):eK x≠11:=by have h1:=GO (asG x.hours) x.seen;have h2:=GO (aaO x.hours) x.pieces;have h3:=GO (aaO x.hours) x.aq;unfold eK;split;decide;split;decide;split;exact h1;split;decide;split;exact h2;split;decide;exact h3
section
variable {H:SA}{k kp:SF}{x:aj}
def aj6(hm:H[0]?=some .main)(hk:k (.aJ [iv (Gu x),iv (eK x)]) H):aS true BI 16 H [x.av] k kp:=by unfold Gu at hk;by_cases c:eK x=0;rw[if_pos c,c]at hk;exact Sb (wV.1 c) hm hk;rw[if_neg c]at hk;exact aj8 hm c (aid x) hk
end
def RX:(cR gD).isEmpty=false:=by kernel_rfl
def ajw{lo hi:Int}(h:Bounds (live gD) (λh=>h.getD 1 0) lo hi):lo=11/\hi=12:=by
 have k:Bounds (live gD) (λh=>h.getD 1 0) 11 12:=by rw[ajA];exact⟨⟨[10,11,13,14],by simp,rfl⟩,by decide,⟨[10,12,13,14],by simp,rfl⟩,by decide⟩
 exact h.uniq k
def ajz:DC gD 2=[0,2]:=by kernel_rfl
def z3:gF (S_ .i64 0) 3=[iv 0,iv 0,iv 0]:=rfl
def z4:gF (S_ .i64 0) 4=[iv 0,iv 0,iv 0,iv 0]:=rfl
section
variable {H:SA}{k kp:SF}
def R_(hm:H[0]?=some .main)(hk:k (bv true) H):aS true BI 12 H [] k kp:=by
 have aN:cR gD≠[]:=λh=>by have:=RX;rw[h]at this;cases this
 refine br (rs:=[.tmp 0]) (nt:=138) Tryz.f12 λhH hA=> ?_;simp only[ba,Tq];refine ai ?_;refine ai ?_;refine aK (yH ?_);(try simp only[seval]);refine aK (Sb z8 hm ?_);rw[ajx];(try simp only[seval]);refine ai ?_;refine aK (yH ?_);(try simp only[seval]);refine aK (aki (hour:=1) z8 (by decide) hm (λh=>absurd h aN) (λlo hi _ hb=> ?_));obtain⟨rfl,rfl⟩:=ajw hb;(try simp only[seval,TN,TS]);refine ai ?_;refine aK (yH ?_);(try simp only[seval]);refine aK (ako (q:=2) z8 (by decide) (dW hm) (λh=>absurd h aN) (λ_=> ?_));rw[show yw (Ff gD 2) gD.first 16=[13,14]from ajB];(try simp only[seval]);refine ai ?_;refine aK (yH ?_);(try simp only[seval]);refine aK (akc (s:=0) (q:=0) z8 (by decide) (by decide) (dW hm) ?_);rw[RX,RY.1,RY.2,show vM true false=1 from rfl];(try simp only[seval]);refine ai ?_;refine aK (yH ?_);(try simp only[seval]);refine aK (ake z8 (dW hm) (λh=>absurd h aN) (λ_=> ?_));rw[show DC gD gD.aq.length=[0,2]from ajz];(try simp only[seval]);refine ai ?_;refine aK (yH ?_);(try simp only[seval]);refine aK (akf (x:=gD) (s:=1) (q:=0) (y:=⟨⟨10,15⟩,⟨2,2⟩⟩) z8 rfl (by decide) (dW hm) (λo ho=> ?_));rw[show AC (gD.wo [((1:Nat):Int)]) ⟨⟨10,15⟩,⟨2,2⟩⟩ 0 (gD.am.toNat+1)=1 from ajv]at ho;subst ho;(try simp only[seval]);refine ai ?_;refine aK (akz ?_);(try simp only[seval]);refine aK (akg ap5 (dW hm) (λl hl=> ?_) (λh=>by rw[RV]at h;cases h));rw[RV]at hl;cases hl;(try simp only[seval]);refine ai ?_;refine aK (yH ?_);(try simp only[seval]);refine aK (akk z8 (dW hm) (λh=>absurd h aN) (λu l hu=> ?_));have ml:=ajy;rw[hu]at ml;cases ml;(try simp only[seval]);refine cS 77 ?_;simp only[seval,WC,TN,beq_self_eq_true];refine dG (.agg [iv 11,iv 12]) (bX (akw ⟨rfl,rfl⟩)) ?_;have im:∀k,dx BI .eql 27 (.agg [iv 11,iv 12]) (.agg [iv 11,iv 12]) k=k (bv true):=λk=>agi (P:=BI) (t:=27) (n:=2) (xs:=[11,12]) (ys:=[11,12]) (by kernel_rfl) (by kernel_rfl) rfl rfl k;simp only[iv,bv]at im;(try simp only[seval,im,WC,beq_self_eq_true,z2]);(try refine⟨by decide,?_⟩);refine dG (bv true) (bX (A1 (xs:=[13,14]) (ys:=[13,14]) (e:=.shut) (e':=.exact) (by decide) ⟨by rw[decide_eq_true rfl],rfl⟩)) ?_;(try simp only[seval,WC,z1,z2,z3,z4]);(try refine⟨by decide,?_⟩);refine dG (bv true) (bX (A1 (xs:=[0,2]) (ys:=[0,2]) (e:=.shut) (e':=.exact) (by decide) ⟨by rw[decide_eq_true rfl],rfl⟩)) ?_;(try simp only[seval,WC,z1,z2,z3,z4]);(try refine⟨by decide,?_⟩);refine dG (bv true) (bX (A1 (xs:=[0]) (ys:=[0]) (e:=.shut) (e':=.exact) (by decide) ⟨by rw[decide_eq_true rfl],rfl⟩)) ?_;(try simp only[seval,WC,z1,z2,z3,z4]);(try refine⟨by decide,?_⟩);refine dG (bv true) (bX (A1 (xs:=[10,11,13,14]) (ys:=[10,11,13,14]) (e:=.shut) (e':=.exact) (by decide) ⟨by rw[decide_eq_true rfl],rfl⟩)) ?_;(try simp only[seval,WC,z1,z2,z3,z4]);(try refine⟨by decide,?_⟩);refine dG (bv true) (bX (A1 (xs:=[12,11,13]) (ys:=[12,11,13]) (e:=.shut) (e':=.exact) (by decide) ⟨by rw[decide_eq_true rfl],rfl⟩)) ?_;(try simp only[seval,WC,z1,z2,z3,z4]);(try refine⟨by decide,?_⟩);refine dG (bv true) (bX (A1 (xs:=[0,2]) (ys:=[0,2]) (e:=.shut) (e':=.exact) (by decide) ⟨by rw[decide_eq_true rfl],rfl⟩)) ?_;(try simp only[seval,WC,z1,z2,z3,z4]);refine aH ?_;exact dS hH (Wk.refl _) (.val _) hk
end
def auq{x z:aj}{s:Seen}(hx:x.Small)(hz:z.Ok):∀y∈[x,z,pO z s],y.Small:=λy hy=>by simp only[Tm,T5,or_false]at hy;rcases hy with rfl|rfl|rfl;exact hx;exact hz.small;exact⟨by unfold pO;rw[Tp];have:=hz.qL;simp;omega,hz.small.ey,hz.small.di⟩
def atd{x:aj}(h:(decide (x.seen.length>20)||(decide (x.pieces.length>20)||decide (x.aq.length>20)))=false):x.Small:=by simp only[Bool.or_eq_false_iff,decide_eq_false_iff_not]at h;exact⟨by omega,by omega,by omega⟩
section
variable {lv:Bool}{H:SA}{k kp:SF}
end
section
variable {H:SA}{k kp:SF}
def akl{x:aj}{s:Seen}{aC:SD}(hm:H[0]?=some .main)(hn:aC.length<=2^50)(hk:k (bv true) H):aS true BI 3 H [x.av,s.av,aV aC] k kp:=by
 have oy:∀L:SA,(H++L)[0]?=some .main:=λL=>dW hm;refine br (rs:=[.tmp 6]) (nt:=74) XD λhH hA=> ?_;simp only[ba,Tq,aj.av,Seen.av,Seen.l];refine ab ?_;simp only[seval,TM];refine ab ?_;simp only[seval,TN];refine aK (ajR (x:=x) ?_);cases hl:(decide (x.seen.length>20)||(decide (x.pieces.length>20)||decide (x.aq.length>20)))with
 |true=>(try simp only[seval]);refine ao ?_;refine ai ?_;refine aK (R_ (oy _) ?_);(try simp only[seval]);refine aH ?_;exact cW hH hk
 |false=>
 have Nr:=atd hl;clear hl;(try simp only[seval]);refine ao ?_;refine aF ?_;(repeat apply ii);refine Gk [3,4] [0,1,2,3,4,5] F.mixed (by kernel_rfl) ?_;refine p_ 4 [0,1,2,3] [5] [3] [] (λD=>bif isDone 3 D then H++[.cells [iv x.first,iv x.hours,iv x.am,bM x.seen,aG x.pieces,aG x.aq] 25,.cells [iv s.hour,iv s.next.min,iv s.next.max] 29,xZ ⟨aC,0,7640891576956012809⟩]else H++[.cells [iv x.first,iv x.hours,iv x.am,bM x.seen,aG x.pieces,aG x.aq] 25,.cells [iv s.hour,iv s.next.min,iv s.next.max] 29]) ?_;(try simp only[seval]);refine sk _ _ (bX (aj1 ⟨rfl,rfl⟩)) ?_;(try simp only[seval,Ev]);generalize cV:aa.cells [AV.val (S_ Tg x.first),AV.val (S_ Tg x.hours),AV.val (S_ Tg x.am),bM x.seen,aG x.pieces,aG x.aq] 25=o1;generalize cg:aa.cells [AV.val (S_ Tg s.hour),AV.val (S_ Tg s.next.min),AV.val (S_ Tg s.next.max)] 29=o2;have hT:dO (λτ=>H++[o1,o2,xZ τ]) (H.length+2) (H.length+3):=by have:=aut (H++[o1,o2]);simpa using this
 refine aK (aj0 (x:=x) (s:=s) (b:=0) hT ⟨YF _,YF _,hn⟩ (by decide) λz τ hz hτ=> ?_);obtain⟨rs,us⟩:∃rs,rs=[x,z,pO z s]:=⟨_,rfl⟩;have pB:rs.length=3:=by rw[us];rfl
 have hra:∀y∈rs,y.Small:=by rw[us];exact auq Nr hz
 rw[<- us];obtain⟨B,hB⟩:∃B,B=H++[o1,o2,xZ τ]:=⟨_,rfl⟩;rw[<- hB];have HA:∀L:SA,(B++L)[0]?=some .main:=λL=>by rw[hB,Ev];exact oy _
 have amT:B[0]?=some .main:=by rw[hB];exact oy _
 have b0:∀(L:SA),(B++L)[B.length]?=L[0]?:=λL=>aP B L 0;have s0:∀(L:SA)(y:aa),(B++L).set B.length y=B++L.set 0 y:=λL y=>cG B L 0 y;clear us cV cg hT;refine⟨λ_=>B,rfl,?_⟩;(try simp only[seval,C3,pB]);refine ai ?_;refine bO ?_;refine gU 3 (λi:Nat=>[(8,iv (i:Int))]) (λi=>_) (λi=>True) (λ_ _=>rfl) (by simp only[seval];simp[bE,Wk.refl]) rfl (λ_ _ _=>by simp) trivial (λbN cm i ce an RR hR=> ?_);clear cm;refine ai ?_;refine ao ?_;refine⟨λhc=> ?_,λhc=> ?_⟩
 ·have bh:i<rs.length:=by omega
  obtain⟨y,hy⟩:=bF bh;have bz:=TL i (by omega);have dA:(0<=(i:Int)/\(i:Int)<3)=True:=by simp only[eq_iff_iff,iff_true];omega
  have BP:=hra y (sZ hy);have dD:=as4 hy;have Eh:y.l=[iv y.first,iv y.hours,iv y.am,bM y.seen,aG y.pieces,aG y.aq]:=rfl;refine aF ?_;refine ab ?_;simp only[seval,dD,dA];refine aK (aj3 (x:=y) (UJ BP.qL (by decide)) (UJ BP.ey (by decide)) (UJ BP.di (by decide)) ?_);(try simp only[seval,aj.av,Eh,b0,s0]);refine⟨⟨rfl,rfl,rfl⟩,?_⟩;refine ab ?_;simp only[seval,b0];refine aK (aj6 (x:=y) (HA _) ?_);(try simp only[seval]);refine ab ?_;simp only[seval,dD,dA];refine aK (aj9 (x:=y) ?_);(try simp only[seval]);refine cS 27 ?_;simp only[seval,b0,dD,dA];refine dG (iv (eK y)) (bX (Dp (x:=y) (HA _) ⟨rfl,rfl⟩)) ?_;(try simp only[seval,b0,dD,dA]);refine dG (iv (eK y)) (bX (Sc (x:=y) ⟨rfl,rfl⟩)) ?_;(try simp only[seval,b0,dD,dA,bne_self_eq_false]);refine dG (bv true) (bX (aka (x:=y) (y:=y) (UJ BP.qL (by decide)) (UJ BP.ey (by decide)) (UJ BP.di (by decide)) ⟨by rw[decide_eq_true rfl],rfl⟩)) ?_;(try simp only[seval]);refine ao ?_;refine aF ?_;refine ab ?_;simp only[seval,bz];refine hR _ ⟨by omega,trivial,(Ft bN)⟩
 ·have sM:i=3:=by omega
  subst sM;refine bT ?_;refine ai ?_;refine aK (R_ amT ?_);(try simp only[seval]);refine aH ?_;rw[hB];exact cW hH hk
end
open Go.ChangeShapes Go.WideShapes Go.ChangeAt Go.RowKit
def Cu (W:Us):View:=⟨λb o=>W.cell? ⟨b,o,none⟩,λ_=>none,0,.plain⟩
def o5 (W:Us):Env:=⟨(Cu W).ah,1,λ_=>0,λ_ _=>(none,0),λ_=>0,λ_=>none,true⟩
def asD(W:Us):Sat (Cu W) W:=⟨λ_ _ _ h=>h,λ_ _ h=>by cases h⟩
def wF (W:Us):Prop:=W.cell? ⟨0,0,none⟩=some (.iface 209 (.agg #[.pointer (some ⟨1,92,none⟩)]))
def alE{W:Us}(h:wF W):Av (Cu W).ah:=λg v e=>by
 unfold DE at e;by_cases hg:g=0;subst hg;simp[axf]at e;subst e;exact h
 ·have:(g==0)=false:=by simpa using hg
  simp[axf,this]at e
def aii{W:Us}(hL:wF W):Conc (o5 W) (Cu W) [.main]where
 I:=rfl
 n:=rfl
 obj:=λk x h=>by
  match k,h with
  |0,h=>cases h;exact⟨rfl,alE hL⟩
  |k+1,h=>cases h
 inj:=λi j x y b hi hj h1 h2=>by
  match i,hi with
  |0,hi=>cases hi;cases h1
  |i+1,hi=>cases hi
 group:=λg h=>by cases h
 chan:=λc h=>by cases h
 top:=λ_=>⟨rfl,rfl⟩
 fr:=λb y h=>by cases h
def alH{f:UR}{W:Us}(hL:wF W){args:SG}{j9:SC}{Q:T9->Prop}(hi:BI.inits.idxOf? f=none)(hd:bR (o5 W) j9 args)(h:aS true BI f [.main] j9 (λa _=>∀E v,ay E a v->Q v) (λ_ _=>False)):
  ∃M last o w' t',runNT BI (M+1) (solo (G (Frame.enter BI f args .normal) []) W) #[]=(.ended o w',t')/\runN BI M (solo (G (Frame.enter BI f args .normal) []) W)=.next last/\step BI last=.ended o w'/\YA BI (λv w=>Q v/\Left W.heap.size W w) last o w' t':=
 alG hi (V:=Cu W) rfl rfl rfl (asD W) (h (o5 W) (Cu W) args (aii hL) hd) λo V' r=>by
  cases o with
  |ret v=>obtain⟨av,E',H',_,cr,_,bm,_,hk⟩:=r;exact⟨cr,v,rfl,λw _ hl=>⟨hk _ _ bm,hl⟩⟩
  |panic ch=>obtain⟨pv,v,E',H',_,_,_,_,_,_,hf⟩:=r;exact hf.elim
def Left.below{W w:Us}(h:Left W.heap.size W w):Below W.heap.size W w:=⟨h.os,h.tape,h.out,h.size,h.old⟩
def Tz.own:ownKnob BI.godebug=none:=by kernel_rfl
def Tz.laidOut:laidOutB BI=true:=by kernel_rfl
def Tz.Jp:BI.underlying 30=some (.slice 3):=by kernel_rfl
def Tz.u3:BI.underlying 3=some (.int .i64):=by kernel_rfl
def Tz.u4:BI.underlying 4=some .bool:=by kernel_rfl
def Tz.b3:BI.bytesOf 3=8:=by kernel_rfl
def asc{H:Type}{enc:TypeId×T9->H}{a:Assume}{C:Checked}{os:Os}{f:UR}{fn:aw5}{s:aw_}{conds:List PathCond}{apart fresh handsOn again:Bool}{X:Us->Array T9->Prop}
  (hX:∀w args,X w args->wF w) (own:ownKnob C.prog.godebug=none) (started:os.Started) (vE:C.prog.funcs[f]?=some fn)
  (witness:∃(w:Us)(tape:Tape)(i:Input),w.os=os/\(w.forCall tape i).Shaped C.prog/\i.vars=[]/\aw4 C.prog (w.forCall tape i) .any w.heap.size f i/\
   ((s.pre enc C.prog fn conds apart (w.forCall tape i).memory i.args/\X (w.forCall tape i).memory i.args)/\sizedMet enc C.prog fn (WT s) apart (w.forCall tape i).memory i.args)/\a.holds C.prog (lone (Frame.enter C.prog f i.args .normal) [] (w.forCall tape i)))
  (runs:∀(W:Us),wF W->∀(base:Nat)(args:SG)(ds gs:List (ZD H))(before:List Yg),
   (∀(j:Nat) t v,fn.params[j]?=some t->args[j]?=some v->WZ C.prog W .any base t v)->
   DataW.Whole enc C.prog fn.params.toList s.vars apart W args.toList ds gs before->
   conds.all (ax5 C.prog ⟨fn.params.toList,ds,s.plain.varTypes C.prog,gs⟩)=true->
   (Xi C.prog (fn.params.toList++s.plain.varTypes C.prog) (ds++gs)).all (·<=reachBytes)=true->
   a.holds C.prog (lone (Frame.enter C.prog f args .normal) [] W)->
   ∃M last o w' t',runNT C.prog (M+1) (solo (G (Frame.enter C.prog f args .normal) []) W) #[]=(.ended o w',t')/\runN C.prog M (solo (G (Frame.enter C.prog f args .normal) []) W)=.next last/\
    step C.prog last=.ended o w'/\YA C.prog (λv W'=>s.post enc C.prog fn apart fresh handsOn again W args v W') last o w' t'):
  YL a C os f .any (λw args=>(s.pre enc C.prog fn conds apart w args/\X w args)/\sizedMet enc C.prog fn (WT s) apart w args) (s.post enc C.prog fn apart fresh handsOn again):=by
 refine returnsInLeavingWide_of_good own started witness ?_;intro w tape i _ _ _ an Ni amD;obtain⟨_,_,_,gr,amB,_,_,_,_,zx⟩:=an;have e:gr=fn:=V_ (amB.symm.trans vE);subst e;obtain⟨⟨⟨ds,gs,before,hw,hc⟩,hx⟩,hz⟩:=Ni;have oF:=axI (w':=w.forCall tape i) (by rfl) hw;obtain⟨M,last,o,w',t',h1,h2,h3,h4⟩:=runs (w.forCall tape i) (by have h:=hX _ _ hx;exact h) w.heap.size i.args ds gs before zx oF hc (hz.weights hw) amD;exact⟨M,last,o,w',t',h1,h2,h3,h4.mono λv hp=>axU hp⟩
structure Rd (W:Us)(e:TypeId){α:Type}(f:α->SC)(n:Nat):Prop where
 cells:BI.cellsOf e=n
 len:∀a,(f a).length=n
 rd:∀{H:Type}{enc:TypeId×T9->H}{fuel:Nat}{cs:List T9}{x:ZD H×List Yg},Zh enc BI W 0 (λ_=>true) true fuel e cs=some x->∃a,bR (o5 W) (f a) cs.toArray
section
variable {W:Us}
def GC{E:Env}{a:AV}{v:T9}(h:ay E a v):bR E [a] [v].toArray:=⟨rfl,λi x e=>by
 match i,e with
 |0,e=>cases e;exact h⟩
def Rv{E:Env}{l m:SC}{xs ys:S6}(h:bR E l xs.toArray)(k:bR E m ys.toArray):bR E (l++m) (xs++ys).toArray:=by have:=AP h k;simpa using this
def ar0{e:TypeId}{k:UZ}(hu:BI.underlying e=some (.int k))(hc:BI.cellsOf e=1):Rd W e (λz:Int=>[AV.val (.int k z)]) 1 where
 cells:=hc
 len:=λ_=>rfl
 rd:=λh=>by obtain⟨n,rfl,_,_⟩:=DataW.trod_int hu h;exact⟨n,GC (.val _)⟩
def acw{α:Type}{Q:Nat->α->Prop}:∀n,(∀i,i<n->∃a,Q i a)->∃l:List α,l.length=n/\∀(i:Nat) a,l[i]?=some a->Q i a
 |0,_=>⟨[],rfl,λi a e=>by simp at e⟩
 |n+1,h=>by
  obtain⟨l,hl,hq⟩:=acw n λi hi=>h i (by omega);obtain⟨a,ha⟩:=h n (by omega);refine⟨l++[a],by simp[hl],λi b e=> ?_⟩;by_cases hi:i<n
  ·rw[T6 (by omega)]at e;exact hq i b e
  ·have sG:i=n:=(by have:=eF e;simp at this;omega);subst sG;rw[Uc (by omega),hl,WV]at e;cases e;exact ha
def aab{α:Type}{f:α->SC}{n:Nat}(hf:∀a,(f a).length=n):∀(l:List α)(q r:Nat),r<n->(l.flatMap f)[q* n+r]?=(l[q]?).bind λa=>(f a)[r]?
 |[],q,r,_=>by simp
 |a::l,0,r,h=>by rw[UT,Y9,WK,T6 (by rw[hf];exact h)];rfl
 |a::l,q+1,r,h=>by rw[UT,Uc (by rw[hf,WW];omega),hf,VL,<- aab hf l q r h];congr 1;rw[WW];omega
def aac{α:Type}{f:α->SC}{n:Nat}(hf:∀a,(f a).length=n):∀l:List α,(l.flatMap f).length=l.length* n
 |[]=>by simp
 |a::l=>by rw[UT,Tp,hf,aac hf l,U4,WW];omega
def ah9{a:Wy}{v:T9}(h:W.cell? a=some v):a.spot=none:=by unfold VA at h;split at h;split at h;cases h;(rename_i hs;simpa using hs);cases h
def add_zero(a:Wy):a.add 0=a:=by unfold Addr.add;simp
def Pf{α:Type}{t e:TypeId}{f:α->SC}{n:Nat}(hu:BI.underlying t=some (.slice e))(hc:BI.cellsOf t=1)(hR:Rd W e f n)(hn:0<n):Rd W t (λl:List α=>[AV.sl l.length (l.flatMap f) .shut]) 1 where
 cells:=hc
 len:=λ_=>rfl
 rd:=λ{H enc fuel cs x} h=>by
  rcases an_ hu h with⟨rfl,_⟩|⟨a,len,cap,elems,rest,m,_,rfl,_,_,hl,_,hlen,D_,qz,_⟩;exact⟨[],GC (.nil trivial)⟩
  ·have kX:=(qz rfl).2;have pB:=(qz rfl).1;have each:∀i,i<len->∃y cE,W.cells? 0 (a.add (i* n)) n=some cE/\bR (o5 W) (f y) cE.toArray:=λi hi=>by have h1:=D_ i hi;rw[hR.cells]at h1;obtain⟨z,hz⟩:=bF (xs:=elems) (i:=i) (by omega);rw[hz]at h1;obtain⟨cE,kT,hy⟩:=Uj.1 h1;obtain⟨y,hd⟩:=hR.rd hy;exact⟨y,cE,kT,hd⟩
   by_cases dT:cap=0;subst dT;have:len=0:=(by omega);subst this;exact⟨[],GC (.nil trivial)⟩
   ·have abM:a.spot=none:=by
     have one:∀cE,W.cells? 0 a n=some cE->a.spot=none:=λcE kT=>by obtain⟨_,aY,qh⟩:=ae' kT;obtain⟨v,hv⟩:=bF (xs:=cE) (i:=0) (by omega);have:=qh 0 hn;rw[hv,add_zero]at this;exact ah9 this
     by_cases hz:len=0;have h1:=kX 0 (by omega);rw[hR.cells,hz,WK,Y9,add_zero]at h1;obtain⟨z,hz⟩:=bF (xs:=rest) (i:=0) (by omega);rw[hz]at h1;obtain⟨cE,kT,_⟩:=Uj.1 h1;exact one cE kT;obtain⟨y,cE,kT,_⟩:=each 0 (by omega);rw[Y9,add_zero]at kT;exact one cE kT
    obtain⟨b,o,sp⟩:=a;simp only at abM;subst abM;obtain⟨l,fE,hq⟩:=acw (Q:=λi y=>∃cE,W.cells? 0 ((⟨b,o,none⟩:Wy).add (i* n)) n=some cE/\bR (o5 W) (f y) cE.toArray) len each;have Qw:∀(q r:Nat),q<len->r<n->∃(y:α)(cE:S6),l[q]?=some y/\cE.length=n/\bR (o5 W) (f y) cE.toArray/\W.cell? ⟨b,o+(q* n+r),none⟩=cE[r]?:=λq r hq1 hr=>by obtain⟨y,hy⟩:=bF (xs:=l) (i:=q) (by omega);obtain⟨cE,kT,hd⟩:=hq q y hy;obtain⟨_,aY,qh⟩:=ae' kT;refine⟨y,cE,hy,aY,hd,?_⟩;have:=qh r hr;rw[add_plain,add_plain,VY]at this;exact this
    refine⟨l,GC ?_⟩;have iV:=aac hR.len l;have hdiv:∀i,i<len* n->i/n<len/\i % n<n/\i/n* n+i % n=i:=λi hi=>⟨by rw[Nat.div_lt_iff_lt_mul hn];exact hi,Nat.mod_lt _ hn,by rw[Nat.mul_comm];exact Nat.div_add_mod i n⟩;rw[fE]at iV⊢;refine .sl b o cap (λi=>(W.cell? ⟨b,o+i,none⟩).getD undef) hl trivial (λi hi=> ?_) λi x hx=> ?_
    ·rw[iV]at hi;obtain⟨h1,h2,h3⟩:=hdiv i hi;obtain⟨y,cE,_,aY,_,qh⟩:=Qw _ _ h1 h2;rw[h3]at qh;obtain⟨v,hv⟩:=bF (xs:=cE) (i:=i % n) (by omega);rw[hv]at qh;show W.cell? ⟨b,o+i,none⟩=_;rw[qh];rfl
    ·have hi:=eF hx;rw[iV]at hi;obtain⟨h1,h2,h3⟩:=hdiv i hi;obtain⟨y,cE,hy,aY,hd,qh⟩:=Qw _ _ h1 h2;rw[<- h3,aab hR.len l _ _ h2,hy]at hx;have hx:(f y)[i % n]?=some x:=hx;rw[h3]at qh;obtain⟨v,hv⟩:=bF (xs:=cE) (i:=i % n) (by omega);rw[hv]at qh;rw[qh];have:=hd.2 _ x hx;rw[Th]at this;simpa[hv]using this
def fieldAt (P:Tl)(t i:Nat):Option (TypeId×Nat):=match P.underlying t with
 |some (.struct fs)=>(fs[i]?).map λf=>(f.type,f.offset)
 |_=>none
def Jl{H:Type}{enc:TypeId×T9->H}{t i ft off fuel:Nat}{cs:S6}{x:ZD H×List Yg}(hf:fieldAt BI t i=some (ft,off))(h:Zh enc BI W 0 (λ_=>true) true fuel t cs=some x):cs.length=BI.cellsOf t/\∃m y,Zh enc BI W 0 (λ_=>true) true m ft ((cs.drop off).take (BI.cellsOf ft))=some y:=by unfold fieldAt at hf;split at hf;rename_i fs hu;obtain⟨xs,n,_,_,hl,dU,hfs⟩:=DataW.trod_struct hu h;obtain⟨fd,hfd,e⟩:=Uu.1 hf;cases e;refine⟨hl,n,?_⟩;have:=hfs i fd hfd;obtain⟨y,hy⟩:=bF (xs:=xs) (i:=i) (by rw[dU];exact(Tw.1 hfd).1);exact⟨y,by rw[this,hy]⟩;cases hf
def Pg{α β γ:Type}{t ta tb na nb:Nat}{f:α->SC}{g:β->SC}{h:γ->SC}(fa:fieldAt BI t 0=some (ta,0))(fb:fieldAt BI t 1=some (tb,na))(hc:BI.cellsOf t=na+nb)(ha:Rd W ta f na)(hb:Rd W tb g nb)(mk:α->β->γ)(ox:∀a b,h (mk a b)=f a++g b)(hl:∀c,(h c).length=na+nb):Rd W t h (na+nb)where
 cells:=hc
 len:=hl
 rd:=λ{H enc fuel cs x} hd=>by
  obtain⟨aY,m,y,hy⟩:=Jl fa hd;obtain⟨_,m2,y2,zC⟩:=Jl fb hd;rw[ha.cells,Wx]at hy;rw[hb.cells]at zC;obtain⟨a,Ml⟩:=ha.rd hy;obtain⟨b,Mm⟩:=hb.rd zC;refine⟨mk a b,?_⟩;rw[ox];have e:cs=cs.take na++(cs.drop na).take nb:=by rw[Tu (l:=cs.drop na) (by rw[Vm,aY,hc];omega),W2]
  rw[e];exact Rv Ml Mm
structure wH (W:Us)(t:TypeId){α:Type}(f:α->SC)(n:Nat):Prop where
 rd:∀{H:Type}{enc:TypeId×T9->H}{fuel:Nat}{cs:List T9}{x:ZD H×List Yg},Zh enc BI W 0 (λ_=>true) true fuel t cs=some x->∃a,bR (o5 W) (f a) (cs.take n).toArray
def wH.nil{t:TypeId}:wH W t (λ_:Unit=>[]) 0 where
 rd:=λ_=>⟨(),rfl,λi x e=>by simp at e⟩
def wH.add{α β:Type}{t tb n m i:Nat}{f:α->SC}{g:β->SC}(h:wH W t f n)(hf:fieldAt BI t i=some (tb,n))(hb:Rd W tb g m):wH W t (λa:α×β=>f a.1++g a.2) (n+m)where
 rd:=λhd=>by obtain⟨a,ha⟩:=h.rd hd;obtain⟨_,m2,y2,zC⟩:=Jl hf hd;rw[hb.cells]at zC;obtain⟨b,Mm⟩:=hb.rd zC;refine⟨(a,b),?_⟩;rw[axe];exact Rv ha Mm
def wH.done{α δ:Type}{t n:Nat}{f:α->SC}{h:δ->SC}(hp:wH W t f n)(h0:∃i x,fieldAt BI t i=some x)(hc:BI.cellsOf t=n)(mk:α->δ)(ox:∀a,h (mk a)=f a)(hl:∀a,(h a).length=n):Rd W t h n where
 cells:=hc
 len:=hl
 rd:=λ{H enc fuel cs x} hd=>by obtain⟨a,ha⟩:=hp.rd hd;obtain⟨i,⟨ft,off⟩,hf⟩:=h0;obtain⟨aY,_⟩:=Jl hf hd;refine⟨mk a,?_⟩;rw[ox];rw[Tu (by rw[aY,hc];exact Tv _)]at ha;exact ha
end
def Qq{H:Type}{enc:TypeId×T9->H}{W W':Us}(hb:Below W.heap.size W W'):∀(ts:List TypeId)(vs:S6)(ds:List (ZD H))(ps:List Yg),(∀t∈ts,BI.readableRec t=true/\t<BI.types.size)->Xs enc BI W 0 (λ_=>true) true ts vs ds ps->(∀x∈ps,x.block<W.heap.size)->
  Xs enc BI W' 0 (λb=>decide (b<W.heap.size)) true ts vs ds ps
 |[],vs,ds,ps,_,h,_=>by obtain⟨rfl,rfl,rfl⟩:=trodAll_nil h;exact trodAll_mk0
 |t::ts,vs,ds,ps,ht,h,hlt=>by obtain⟨v,PM,d,ly,p,q,rfl,rfl,rfl,h1,h2⟩:=trodAll_cons h;have h0:=ht t UC;exact⟨p,q,Below.trod Tz.laidOut h0.1 h0.2 h1 hb λx hx=>hlt x (Uk _ hx),Qq hb ts PM ly q (λt h=>ht t (Ue _ h)) h2 λx hx=>hlt x (T7 _ hx),rfl⟩
def Qr{H:Type}{enc:TypeId×T9->H}{W:Us}:∀(ts:List TypeId)(vs:S6)(ds:List (ZD H))(ps:List Yg),Xs enc BI W 0 (λ_=>true) true ts vs ds ps->ds.length=ts.length
 |[],vs,ds,ps,h=>by obtain⟨rfl,rfl,rfl⟩:=trodAll_nil h;rfl
 |t::ts,vs,ds,ps,h=>by obtain⟨v,PM,d,ly,p,q,rfl,rfl,rfl,h1,h2⟩:=trodAll_cons h;rw[U4,U4,Qr ts PM ly q h2]
def P_ (f:UR)(ts:List TypeId):Prop:=∀(W:Us){H:Type}(enc:TypeId×T9->H)(args:SG)(ds:List (ZD H))(ps:List Yg)(base:Nat)(ws:List TypeId),(∀(j:Nat) t v,ts[j]?=some t->args[j]?=some v->WZ BI W .any base t v)->
 Xs enc BI W 0 (λ_=>true) true ts args.toList ds ps->(Xi BI (ts++ws) ds).all (·<=reachBytes)=true->∃j9,bR (o5 W) j9 args/\aS true BI f [.main] j9 (λa _=>a=bv true) (λ_ _=>False)
set_option maxRecDepth 100000 in
def agQ{f:UR}{fn:aw5}{s:aw_}{ts:List TypeId}{X:Us->Array T9->Prop}(hX:∀w args,X w args->wF w)(hf:BI.funcs[f]?=some fn)(hp:fn.params=ts.toArray)(hr:fn.resultTypes=#[4])(hv:s.vars=[])(hs:∀(H:Type)(ds:List (ZD H)),ds.length=ts.length->s.fn H ds={results:=[.lit (.bool true)],args:=ds})(hi:BI.inits.idxOf? f=none)
  (anB:∀t∈ts,BI.readableRec t=true/\t<BI.types.size) (amP:P_ f ts)
  (os:Os) (started:os.Started) (H:Type) (enc:TypeId×T9->H)
  (anY:∃(w:Us)(tape:Tape)(i:Input),w.os=os/\(w.forCall tape i).Shaped Wv.prog/\i.vars=[]/\aw4 Wv.prog (w.forCall tape i) .any w.heap.size f i/\
   ((s.pre enc Wv.prog fn [] false (w.forCall tape i).memory i.args/\X (w.forCall tape i).memory i.args)/\sizedMet enc Wv.prog fn (WT s) false (w.forCall tape i).memory i.args)/\({}:Assume).holds Wv.prog (lone (Frame.enter Wv.prog f i.args .normal) [] (w.forCall tape i))):
  YL {} Wv os f .any (λw args=>(s.pre enc BI fn [] false w args/\X w args)/\sizedMet enc BI fn (WT s) false w args) (s.post enc BI fn false true false false):=by
 refine asc (C:=Wv) hX Tz.own started hf anY ?_;intro W hLd base args ds gs before anV hW _ abO _;have zx:∀(j:Nat) t v,ts[j]?=some t->args[j]?=some v->WZ BI W .any base t v:=λj t v e=>anV j t v (by rw[hp];simpa using e);have w9:=hW;obtain⟨p,q,LN,hV,rfl,_,_⟩:=hW;have hA:Xs enc BI W 0 (λ_=>true) true ts args.toList ds p:=by have:Xs enc BI W 0 (λ_=>true) true fn.params.toList args.toList ds p:=LN;rw[hp]at this;simpa using this
 have xg:=Qr _ _ _ _ hA;rw[hv]at hV;obtain⟨rfl,rfl⟩:=trodVars_none hV;have a_:(Xi BI (ts++s.plain.varTypes BI) ds).all (·<=reachBytes)=true:=by have h:(Xi BI (fn.params.toList++s.plain.varTypes BI) (ds++[])).all (·<=reachBytes)=true:=abO;rw[Ts,hp]at h;simpa using h
 simp only[Ts]at w9;have hlt:∀x∈p,x.block<W.heap.size:=λx hx=>by simpa using w9.lt x hx
 obtain⟨j9,bm,vE⟩:=amP W enc args ds p base _ zx hA a_;obtain⟨M,last,o,w',t',h1,h2,h3,h4⟩:=alH hLd (Q:=λv=>v=.bool true) (args:=args) (j9:=j9) hi bm (vE.mono (λa H' e E v bm=>by subst e;cases bm;rfl) λ_ _ h=>h);refine⟨M,last,o,w',t',h1,h2,h3,h4.mono λv ⟨hQ,hL⟩=> ?_⟩;subst hQ;have hb:=hL.below;refine⟨ds,[],_,[],p,[],w9,?_,?_,by rw[hv];exact(by rw[Ts,hs H ds xg];rfl),hb.frame _,λh=>by cases h⟩;rw[Ts,hs H ds xg,hr];exact trodAll_mk1 (shut_bool Tz.u4 true)
 ·rw[Ts,hs H ds xg,hp];have e:ts.toArray.toList=ts:=by simp
  rw[e];exact Qq hb ts _ _ _ anB hA hlt
end Go.Gg
set_option maxRecDepth 100000
namespace Go.Gg
open Go.Conc Go.Proofs Go.ChangeShapes Go.WideShapes Go.ChangeAt Go.RowKit Go.Gg.Tk
def Rd.as{W:Us}{e:TypeId}{α:Type}{f g:α->SC}{n:Nat}(h:Rd W e f n)(he:∀a,f a=g a):Rd W e g n:=by have:f=g:=funext he;subst this;exact h
def Tz.et : BI.globalNamed "errors.errorType" = some 0 := by kernel_rfl
def Tz.rt : (BI.cutTypes.find? (·.1 == "internal/reflectlite.rtype")).map (·.2) = some 209 := by kernel_rfl
def Tz.size:BI.types.size=257:=by kernel_rfl
def Tz.aqn:((Tt 257).filter λt=>BI.rowNamed t [101,114,114,111,114])=[92]:=by kernel_rfl
def aox {W : Us} (h : laidMetH BI [("errors.errorType", Wu)] W) : wF W := by
 have h' : laidMet BI [] W /\ handlesMet BI [("errors.errorType", Wu)] W := h;obtain ⟨name, u, ty, e1, e2, e3, e4, e5⟩ := h'.2 _ (Ub.2 rfl);have en : name = [101, 114, 114, 111, 114] := (V_ e1).symm;subst en;obtain rfl := V_ (Tz.rt.symm.trans e2);have hm : ty ∈ (Tt 257).filter λt => BI.rowNamed t [101, 114, 114, 111, 114] := Vx.2 ⟨UB.2 (by rw[<- Tz.size]; exact e3), e4⟩;rw[Tz.aqn] at hm;obtain rfl := Ub.1 hm;have hh : typeHandle BI 92 = .pointer (some ⟨1, 92, none⟩) := by kernel_rfl
 rw[hh]at e5;unfold wF;simpa using World.var?_cell Tz.et e5 0
section
variable {W:Us}
def zX:Rd W 3 (λz:Int=>[iv z]) 1:=ar0 (by kernel_rfl) (by kernel_rfl)
def ak8(xs:SD):(xs.flatMap λz=>[iv z])=xs.map iv:=by
 induction xs with
 |nil=>rfl
 |cons x xs ih=>rw[UT,ih];rfl
def arX:Rd W 30 (λxs:SD=>[aV xs]) 1:=(Pf (by kernel_rfl) (by kernel_rfl) zX (by decide)).as λxs=>by rw[ak8];rfl
def Pe:Rd W 27 eX.l 2:=Pg (na:=1) (nb:=1) (by kernel_rfl) (by kernel_rfl) (by kernel_rfl) zX zX eX.mk (λ_ _=>rfl) (λ_=>rfl)
def adC:Rd W 29 Seen.l 3:=Pg (na:=1) (nb:=2) (by kernel_rfl) (by kernel_rfl) (by kernel_rfl) zX Pe Seen.mk (λ_ _=>rfl) (λ_=>rfl)
def arW:Rd W 68 aD.l 4:=Pg (na:=2) (nb:=2) (by kernel_rfl) (by kernel_rfl) (by kernel_rfl) Pe Pe aD.mk (λ_ _=>rfl) (λ_=>rfl)
def arZ:Rd W 22 (λxs:List Seen=>[bM xs]) 1:=Pf (by kernel_rfl) (by kernel_rfl) adC (by decide)
def adB:Rd W 23 (λxs:List aD=>[aG xs]) 1:=Pf (by kernel_rfl) (by kernel_rfl) arW (by decide)
def arY:Rd W 25 aj.l 6:=
 ((((((wH.nil.add (i:=0) (tb:=3) (by kernel_rfl) zX).add (i:=1) (tb:=3) (by kernel_rfl) zX).add (i:=2) (tb:=3) (by kernel_rfl) zX).add (i:=3) (tb:=22) (by kernel_rfl) arZ).add (i:=4) (tb:=23) (by kernel_rfl) adB).add (i:=5) (tb:=23) (by kernel_rfl) adB).done ⟨0,(3,0),by kernel_rfl⟩ (by kernel_rfl) (λa=>⟨a.1.1.1.1.1.2,a.1.1.1.1.2,a.1.1.1.2,a.1.1.2,a.1.2,a.2⟩) (λ_=>rfl) (λ_=>rfl)
section
variable {H:Type}{enc:TypeId×T9->H}{base:Nat}{t:TypeId}{v:T9}{d:ZD H}{p:List Yg}
def agP{α:Type}{e:TypeId}{f:α->AV}(hu:BI.underlying t=some (.slice e))(hR:Rd W t (λa=>[f a]) 1)(an:WZ BI W .any base t v)(h:Yy enc BI W 0 (λ_=>true) true t v d p):∃a,ay (o5 W) (f a) v:=by obtain⟨a,len,cap,rfl⟩:=okWide_slice hu an;obtain⟨fuel,h⟩:=h;obtain⟨x,hx⟩:=hR.rd h;exact⟨x,hx.2 0 _ rfl⟩
def Qt{α:Type}{fs:Array aw7}{f:α->SC}{n:Nat}(hu:BI.underlying t=some (.struct fs))(hR:Rd W t f n)(an:WZ BI W .any base t v)(h:Yy enc BI W 0 (λ_=>true) true t v d p):∃a,ay (o5 W) (.agg (f a)) v:=by obtain⟨cs,rfl,_⟩:=okWide_struct hu an;obtain⟨fuel,h⟩:=h;obtain⟨x,hx⟩:=hR.rd h;exact⟨x,.agg (by simpa[Y8]using hx.1) λi a e=>by simpa[Y8]using hx.2 i a e⟩
def EM (P:Tl)(t:TypeId):Bool:=match P.underlying t with
 |some (.struct _)=>true
 |_=>false
def EM.out{P:Tl}{t:TypeId}(h:EM P t=true):∃fs,P.underlying t=some (.struct fs):=by unfold EM at h;split at h;exact⟨_,by assumption⟩;cases h
def agN(an:WZ BI W .any base 25 v)(h:Yy enc BI W 0 (λ_=>true) true 25 v d p):∃x:aj,ay (o5 W) x.av v:=by obtain⟨fs,hu⟩:=EM.out (P:=BI) (t:=25) (by kernel_rfl);exact Qt hu arY an h
def agO(an:WZ BI W .any base 29 v)(h:Yy enc BI W 0 (λ_=>true) true 29 v d p):∃x:Seen,ay (o5 W) x.av v:=by obtain⟨fs,hu⟩:=EM.out (P:=BI) (t:=29) (by kernel_rfl);exact Qt hu adC an h
def agM{ds:List (ZD H)}{ts:List TypeId}{j:Nat}(an:WZ BI W .any base 30 v)(h:Yy enc BI W 0 (λ_=>true) true 30 v d p)(a_:(Xi BI ts ds).all (·<=reachBytes)=true)(ht:ts[j]?=some 30)(hd:ds[j]?=some d):∃zs,zs.length<=2^50/\ay (o5 W) (aV zs) v:=by
 obtain⟨zs,hz⟩:=agP Tz.Jp arX an h;refine⟨zs,?_,hz⟩;obtain⟨a,len,cap,rfl⟩:=okWide_slice Tz.Jp an;have mQ:zs.length=len:=by
  unfold aV at hz;generalize zs.length=m at hz⊢;generalize zs.map iv=l at hz;cases hz with
  |sl=>rfl
  |nil=>rfl
 obtain⟨fuel,h⟩:=h;rcases an_ Tz.Jp h with⟨e,_⟩|⟨a',awC,cap',elems,rest,n,_,e,ex,_,_,_,hlen,_⟩;simp[Y8]at e;obtain⟨_,rfl,_⟩:=e;rw[mQ];exact YS _;simp[Y8]at e;obtain⟨_,rfl,_⟩:=e;simp only[VW]at ex;obtain⟨rfl,_⟩:=ex;have:=sized_slice a_ ht hd Tz.Jp;rw[Tz.b3]at this;simp only[Um,reachBytes]at this;omega
end
end
def ab1:List (SE):=[99,117,116]::[97,116]::[[67,111,117,110,116,115],[80,97,105,114,115],[65,112,97,114,116,115],[72,111,117,114,115],[70,105,114,115,116,115],[78,117,109,98,101,114,115],[76,111,111,107],[75,110,111,119,110]].map ([103,108,97,100,115,116,111,110,101,47,103,108,97,100,115,116,111,110,101,108,97,119,48,49,46,84,105,99,107,101,116]++·)
def ab0:SE:=[104,97,114,110,101,115,115,32,102,57,102,49,51,99,49,57,48,52,53,56,98,50,56,101,52,53,54,57,51,50,48,50,49,54,49,52,100,57,49,97,49,49,54,49,49,53,100,51,49,53,53,48,54,99,99,53,56,50,49,56,56,56,53,101,53,56,101,54,99,55,98,97]++ab1.flatMap (32::·)
set_option maxRecDepth 100000 in
def ioL:BI.initOrder.toList=ab0.map aj_:=by
 have h:BI.initOrder=String.ofList (ab0.map aj_):=by kernel_rfl
 rw[h,String.toList_ofList]
def NW:List (List Char):=ab1.map λl=>l.map aj_
set_option maxRecDepth 100000 in
def ioW:behindMainWord (wordsSigns BI.initOrder.toList)=NW:=by
 rw[ioL]
 kernel_rfl
section
variable {P:Tl}{c:List Char}{rest:List (List Char)}
def apz (h : behindMainWord (wordsSigns P.initOrder.toList) = c :: rest) (hc : c = "cut".toList) (h1 : stripLifts liftWords (c :: rest) = ([], c :: rest)) (h2 : P.laysLater = false) (h3 : P.bearsReflect = false) (h4 : P.doorFits [] = true) : P.mayEnter = true := by unfold ayb;rw[h];subst hc;simp only[h1,h2,h3,h4,awY,beq_self_eq_true,ats,W5,ar_,Bool.or_true,axn,VO]
def amz (h : behindMainWord (wordsSigns P.initOrder.toList) = c :: rest) (hc : c = "cut".toList) (h1 : stripLifts liftWords (c :: rest) = ([], c :: rest)) : P.headLifts = [] := by unfold aye;rw[h];simp only[h1,ite_self]
def ao4 (h : behindMainWord (wordsSigns P.initOrder.toList) = c :: rest) (hc : c = "cut".toList) (h1 : stripLifts liftWords (c :: rest) = ([], c :: rest)) : P.liftsFinal = false := by
 unfold ayd;rw[amz h hc h1, h];subst hc;simp only [awY, ats, axm];have : (some "cut".toList == some "carried".toList) = false := by decide +kernel
 rw[this,Ww]
def apu (h : behindMainWord (wordsSigns P.initOrder.toList) = c :: rest) (hc : c = "cut".toList) : P.make = some .cut := by
 unfold ayc;rw[h];subst hc;have e1 : ("cut".toList == "gc".toList) = false := by decide +kernel
 have e2 : ("cut".toList == "spec".toList) = false := by decide +kernel
 simp only[e1,e2,Bool.or_self,UH,if_false,beq_self_eq_true,axA,if_true]
end
def Ii:List Char:=NW.headD []
def NU:List (List Char):=NW.tail
def NV:behindMainWord (wordsSigns BI.initOrder.toList)=Ii::NU:=ioW.trans (by kernel_rfl)
def NT : Ii = "cut".toList := by kernel_rfl
def ioS:stripLifts liftWords (Ii::NU)=([],Ii::NU):=by kernel_rfl
def Tz.mayEnter:BI.mayEnter=true:=apz NV NT ioS (by kernel_rfl) (by kernel_rfl) (by kernel_rfl)
def Tz.ao3:BI.liftsFinal=false:=ao4 NV NT ioS
def Tz.make:BI.make=some .cut:=apu NV NT
def aod{P:Tl}{f:UR}{fn:aw5}{s:aw_}{c:Zt}
  (k0:(c.wf (WT s))=true)
  (k1:(laidOutB P)=true)
  (k2:(mapsRowed P)=true)
  (k3:(fn.params.all (P.readableRec ·))=true)
  (k4:(namedTie P c.named s.vars)=true)
  (k5:(c.stops==[])=true)
  (k6:(P.stops==[])=true)
  (k7:(c.knobs==[])=true)
  (k8:(P.stopKnobs==[])=true)
  (k9:(c.inPlace==P.inPlace f)=true)
  (EN:(c.unfollowed==P.unfollowed f)=true)
  (NY:(c.recurses==P.recurses f)=true)
  (BS:(c.named==P.varsNamed f)=true)
  (NZ:(c.maps==(fn.params.toList++s.plain.varTypes P).any (P.mapsRec ·))=true)
  (EO:(c.ifaces==(fn.params.toList++s.plain.varTypes P).any (P.ifacesRec ·))=true)
  (N0:(c.mapsOut==P.mapsAmong fn.resultTypes.toList)=true)
  (N1:(c.loops==(fn.params.toList++s.plain.varTypes P).any (P.loopsFrom ·))=true)
  (N2:(c.wideKeys==(fn.params.toList++s.plain.varTypes P++fn.resultTypes.toList).any (P.wideKeysFrom ·))=true)
  (k18:(s.vars.all (P.varReadable ·))=true)
  (k19:(fn.resultTypes.all (λt=>P.readableRec t&&decide (t<P.types.size)))=true)
  (N3:(c.ifacesOut==fn.resultTypes.toList.any (P.ifacesRec ·))=true)
  (N4:(c.loopsOut==fn.resultTypes.toList.any (P.loopsFrom ·))=true)
  (N5:(c.plainKeys==P.plainKeys)=true)
  (N6:(c.shortTexts.isNone)=true)
  (N7:(P.stopsHeard)=true)
  (N8:(P.mayEnter)=true)
  (k26:(c.lifted==P.liftsFinal)=true)
  (k27:(P.make==some c.make)=true)
  (k28:c.domain.isEmpty=true) (aoh:c.kinds=[])
  (k29:(c.pinned==c.pinnedBy)=true)
  (k30:(c.veiled==(fn.params.toList++s.plain.varTypes P++fn.resultTypes.toList).any (P.veiledRec ·))=true)
  (k31:(c.veiledFits P fn.params.toList (fn.params.toList++s.plain.varTypes P++fn.resultTypes.toList))=true):joinedFacts P f fn s c=true:=by
 simp only[joinedFacts,k0,k1,k2,k3,k4,k5,k6,k7,k8,k9,EN,NY,BS,NZ,EO,N0,N1,N2,k18,k19,N3,N4,N5,N6,N7,N8,k26,k27,k28,aoh,if_true,beq_self_eq_true,k29,k30,k31,axn]
def ao2{c:Zt}(h:c.lifted=false):(c.lifted==BI.liftsFinal)=true:=by rw[Tz.ao3,h];rfl
def apv{c:Zt}(h:c.make=.cut):(BI.make==some c.make)=true:=by rw[Tz.make,h];rfl
end Go.Gg
namespace Go.Proofs.YtckionbibpmloaaGreatDoor
open Go.Conc Go.Proofs Go.Gg Go.ChangeShapes Go.Gg.Tk
def aus(Lk:Looks){p:Pinned}{s:OpenSpec}{c:Zt}(al:List (List PathCond))(kinds:List LaidKind)(Jk:Bool)(xa:Bool×String)(lk:Bool)
  (hc:c.holds p s) (io:∀D∈al,(c.withDomain D).holds p s) (hw:c.wfByText s=true) (anW:∀D∈al,(c.withDomain D).wfByText s=true)
  (anQ:c.laidByTextAt Lk p kinds Jk)
  (aU:c.start=.entering) (uk:c.noBlocks=false/\c.again=false) (hm:p.checked.prog.mainIs=some (xa.1,xa.2.toList)) (hn:(!xa.1&&xa.2.isEmpty&& !lk)=false)
  (hl:∀f fn,p.checked.prog.funcNamed c.func=some f->p.checked.prog.funcs[f]?=some fn->lk=p.checked.prog.looks []/\∀(j:Nat) t,fn.params[j]?=some t->p.checked.prog.wantsStandIn t=false)
  (hg:true=c.goesBy p.checked.prog):
  Claim7.holds p (.plain s) {stood:={row:=c,standIns:=[],harness:=xa,looks:=lk},kinds:=[],alts:=al,goes:=true,laidByText:=true,laidKinds:=kinds,laidTests:=Jk,laidLooks:=Lk}:=by
 have h6:∀r:Zt,aq' {stood:={row:=r,standIns:=[],harness:=xa,looks:=lk},kinds:=[]}=false:=λr=>by simpa[aq']using hn
 refine⟨Z6 Lk kinds Jk (ZX hc xa lk aU uk hm (h6 c) hl) hw,λD hD=> ?_,anQ,(λh=>by cases h),hg⟩;exact Z6 Lk kinds Jk (ZX (io D hD) xa lk aU uk hm (h6 _) hl) (anW D hD)
def acj:BI.funcNamed Rows.ticketCountsRow.func=some 3:=by kernel_rfl
def aoB:joinedFacts BI 3 XD Rows.ticketCountsSpec Rows.ticketCountsRow=true:=
 aod (by kernel_rfl) Tz.laidOut (by kernel_rfl) (by kernel_rfl) (by kernel_rfl) (by kernel_rfl) (by kernel_rfl) (by kernel_rfl) (by kernel_rfl) (by kernel_rfl) (by kernel_rfl) (by kernel_rfl) (by kernel_rfl) (by kernel_rfl) (by kernel_rfl) (by kernel_rfl) (by kernel_rfl) (by kernel_rfl) (by kernel_rfl) (by kernel_rfl) (by kernel_rfl) (by kernel_rfl) (by kernel_rfl) (by kernel_rfl) (by kernel_rfl) Tz.mayEnter (ao2 (by kernel_rfl)) (apv (by kernel_rfl)) (by kernel_rfl) (by kernel_rfl) (by kernel_rfl) (by kernel_rfl) (by kernel_rfl)
def aoA:XD.isInstance BI Rows.ticketCountsRow.origin Rows.ticketCountsRow.targs:=of_decide_eq_true (by kernel_rfl)
def aoC:XD.isWrapper BI Rows.ticketCountsRow.wrapper Rows.ticketCountsRow.mainSum:=by unfold Func.isWrapper;first|(rw[if_pos (by decide+kernel)];kernel_rfl)|(rw[if_neg (by decide+kernel)];exact⟨rfl,rfl⟩)
def aoz(os:Os)(args:SG):laidMetH BI Rows.ticketCountsRow.laid ((at2 BI 400 os).forCall (λ_ _=>0) ⟨#[],args,[]⟩).memory:=
 laidMetH_of_parts (laidMet_nil _ _) (by kernel_rfl)
def aoD:P_ 3 [25,29,30]:=λW {H} enc args ds ps base ws zx hA a_=>by
 obtain⟨v0,r0,d0,e0,p0,q0,ha,rfl,rfl,h0,hA⟩:=trodAll_cons hA;obtain⟨v1,r1,d1,e1,p1,q1,rfl,rfl,rfl,h1,hA⟩:=trodAll_cons hA;obtain⟨v2,r2,d2,e2,p2,q2,rfl,rfl,rfl,h2,hA⟩:=trodAll_cons hA;obtain⟨rfl,rfl,rfl⟩:=trodAll_nil hA;have cU:args=#[v0,v1,v2]:=by have:=congrArg List.toArray ha;simpa using this
 subst cU;obtain⟨x0,g0⟩:=agN (zx 0 25 v0 rfl rfl) h0;obtain⟨x1,g1⟩:=agO (zx 1 29 v1 rfl rfl) h1;obtain⟨x2,hn,g2⟩:=agM (j:=2) (zx 2 30 v2 rfl rfl) h2 a_ rfl rfl;refine⟨[x0.av,x1.av,aV x2],⟨rfl,λi a e=> ?_⟩,akl rfl hn rfl⟩
 match i,e with
 |0,e=>cases e;exact g0
 |1,e=>cases e;exact g1
 |2,e=>cases e;exact g2
def aoE(os:Os)(started:os.Started)(H:Type)(enc:TypeId×T9->H):
  YL {} Wv os 3 .any (λw args=>(Rows.ticketCountsSpec.pre enc BI XD [] false w args/\laidMetH BI Rows.ticketCountsRow.laid w)/\sizedMet enc BI XD (WT Rows.ticketCountsSpec) false w args) (Rows.ticketCountsSpec.post enc BI XD false true false false):=
 agQ (f:=3) (fn:=XD) (s:=Rows.ticketCountsSpec) (ts:=[25,29,30]) (X:=λw _=>laidMetH BI Rows.ticketCountsRow.laid w) (λ_ _ h=>aox h) ag_ rfl rfl rfl (λH ds h=>by
   match ds,h with
   |[a,b,c],_=>rfl) (by kernel_rfl) (λt ht=>⟨Uq.1 (by kernel_rfl:[25,29,30].all BI.readableRec=true) t (by revert ht;simp),of_decide_eq_true (Uq.1 (by kernel_rfl:[25,29,30].all (λt=>decide (t<BI.types.size))=true) t (by revert ht;simp))⟩) aoD os started H enc
  (axT (enc:=enc) (C:=Wv) (os:=os) (X:=λw _=>laidMetH BI Rows.ticketCountsRow.laid w) false (at2 BI 400 os) #[.agg #[.int .i64 0,.int .i64 0,.int .i64 0,.slice none 0 0,.slice none 0 0,.slice none 0 0],.agg #[.int .i64 0,.int .i64 0,.int .i64 0],.slice none 0 0] 8 rfl (World.shaped_of_RefB (by kernel_rfl) (by kernel_rfl)) (by kernel_rfl) (by kernel_rfl) (by kernel_rfl) (aoz os _))
def aur:Rows.TicketCountsSaid:=
 axY 3 XD rfl rfl rfl rfl rfl rfl rfl ⟨rfl,rfl,rfl,rfl,rfl⟩ rfl rfl rfl rfl rfl acj ag_ aoB aoA aoC
  (λos started H enc _=>aoE os started H enc)
theorem ticketCountsCard_holds:Rows.TicketCountsCardSaid:=
 aus .later [] [.handle] true (true, "f9f13c190458b28e456932021614d91a116115d315506cc58218885e58e6c7ba") true
  aur (λ_ h=>by cases h) (by kernel_rfl) (λ_ h=>by cases h) ticketCounts_row_tie rfl ⟨rfl,rfl⟩ (by kernel_rfl) rfl
  (λf fn hf vE=>by
   obtain rfl:f=3:=V_ (acj.symm.trans hf)|>.symm;obtain rfl:fn=XD:=(V_ (ag_.symm.trans vE)).symm;exact⟨by kernel_rfl,λj t ht=>by
    have h3:t∈[25,29,30]:=by
     have:=Z8 ht;rw[show XD.params=#[25,29,30]from rfl]at this
     revert this;simp
    simp only[Tm,T5,or_false]at h3;rcases h3 with rfl|rfl|rfl;exact(show BI.wantsStandIn 25=false by kernel_rfl);exact(show BI.wantsStandIn 29=false by kernel_rfl)
    ·exact(show BI.wantsStandIn 30=false by kernel_rfl)⟩)
  (by kernel_rfl)
end Go.Proofs.YtckionbibpmloaaGreatDoor
