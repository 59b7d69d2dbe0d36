/- A part of the proof. -/
import Derived.Test.YtkanpclgnhdbiaaGreatDoorTicketAllCard3
set_option linter.all false
set_option maxRecDepth 4000
set_option maxHeartbeats 4000000
open Array renaming getD_eq_getD_getElem?->Ti,getElem?_eq_getElem->Tn,getElem?_eq_some_iff->T5,getElem?_modify->Xn,getElem_mem->YV,replicate->UT
open Bool renaming and_eq_true->Uh,and_false->WJ,and_self->axp,eq_iff_iff->Vh,false_and->Wj,false_or->Y_,not_eq_true'->U0,or_false->ZE,true_and->Vt
open Classical renaming byContradiction->Uz
open Function renaming comp_apply->Xm
open Go renaming Code->U_,Oper->Vo,Program->Tl
open Go.IntKind renaming i64->Tg,u16->Uc
open Go.Obj renaming deferred->ayj
open Go.Proofs.Tryz renaming f15->Yk,f34->ats,f39->as',f53->axP,prog->S_
open Go.Region renaming linearise->ad_,schedule->W4,wanted->Up
open Go.Region.linearise renaming go->VJ
open Go.Value renaming agg->UC,bool->Yj,int->Th,slice->UO
open Int renaming add_zero->axM,le_refl->Xw,le_trans->YF,mul_le_mul->axt,toNat->Zc,toNat_natCast->WU,toNat_of_nonneg->ac_
open List renaming all_eq_true->UB,any_append->aw2,any_cons->ZT,any_eq_true->U5,append_assoc->Te,append_eq_nil_iff->ZC,append_nil->To,cons_append->Wv,contains_append->ZR,contains_eq_mem->Vw,contains_iff_mem->ZH,contains_nil->apT,countP_le_length->Z5,drop->U4,drop_append->WL,drop_append_of_le_length->Xt,drop_drop->axL,drop_eq_getElem_cons->UY,drop_length->asI,drop_of_length_le->XY,drop_zero->YA,eq_nil_of_length_eq_zero->VG,exists_mem_of_ne_nil->Zg,ext_getElem?->Zo,filter_append->XO,filter_congr->Wm,filter_cons->Y5,filter_eq_nil_iff->ZQ,flatMap_append->Vf,flatMap_assoc->al',flatMap_cons->UV,flatMap_def->XS,flatMap_eq_nil_iff->XR,flatMap_map->W3,foldl_append->Xo,foldl_cons->VO,forall_mem_cons->VQ,getD_cons_succ->Yi,getD_cons_zero->Yr,getD_eq_getElem?_getD->Tf,getElem?_append_left->T4,getElem?_append_right->Ud,getElem?_drop->Vs,getElem?_eq_getElem->Tw,getElem?_eq_none->Vy,getElem?_eq_some_iff->Tq,getElem?_map->Ut,getElem?_of_mem->Wy,getElem?_range->av',getElem?_set->VT,getElem?_set_ne->U6,getElem?_take->Vm,getElem_mem->W_,getLast?_eq_getElem?->Zv,getLastD_cons->al_,getLastD_eq_getLast?->WB,head?_append->XQ,head?_cons->av_,length->ab',length_append->Tt,length_cons->Ve,length_drop->Vr,length_eraseIdx_of_lt->Za,length_filter_le->WX,length_map->Ue,length_nil->VL,length_pos_iff->Wp,length_range->Y4,length_replicate->ZG,length_set->UM,length_singleton->UJ,length_take->Ux,map->Wn,mapM_cons->Vb,mapM_nil->VH,map_append->Uq,map_congr_left->WR,map_cons->Wd,map_flatMap->WQ,map_map->XN,map_take->Xd,mem_append->Tv,mem_append_left->Ul,mem_append_right->T_,mem_cons->Tm,mem_cons_of_mem->Uj,mem_cons_self->UH,mem_filter->Vl,mem_flatMap->T9,mem_iff_getElem?->VU,mem_map->Uo,mem_of_getElem?->T8,mem_of_mem_take->W5,mem_or_eq_of_mem_set->VF,mem_range->UN,mem_replicate->YL,mem_reverse->YK,mem_singleton->Ub,nil_append->VK,nodup_append->V_,nodup_cons->Xe,nodup_iff_pairwise_ne->Vz,nodup_nil->XM,nodup_range->Y1,not_mem_nil->T7,pairwise_iff_getElem->Zu,pairwise_map->YJ,range->T1,range'->Vd,range'_succ->W9,range_eq_range'->WE,range_succ->VW,range_zero->ao',replicate->UP,reverse_cons->ah_,set_append_left->VX,set_append_right->Va,set_cons_succ->VI,set_cons_zero->U7,set_eq_take_append_cons_drop->YO,take->VN,take_add_one->UZ,take_append_drop->Ww,take_append_of_le_length->UA,take_eq_nil_iff->ZO,take_length->Un,take_of_length_le->Tx,take_set->axg,take_succ_cons->Xb,take_succ_eq_append_getElem->Wx,take_take->Wh,take_zero->Z'
open List.Pairwise renaming filter->axh,imp->Zb,imp_of_mem->Yy
open List.Perm renaming nodup_iff->axV,refl->axs
open List.cons renaming injEq->ZS
open Nat renaming add_assoc->Wa,add_sub_cancel->Xi,add_sub_cancel_left->US,add_zero->VA,eq_zero_or_pos->Vu,le_refl->Ts,le_trans->UK,lt_irrefl->axA,lt_or_ge->Z_,lt_succ_self->Vv,min_eq_left->Xz,pow_le_pow_right->VY,reduceAdd->Tu,reduceSub->Zt,sub_self->Ws,sub_zero->aw',succ_mul->YD,testBit_or->Yq,testBit_two_pow->W8,zero_add->Xv,zero_le->YX,zero_testBit->XU
open Option renaming bind_eq_bind->UX,getD_some->Ua,map_some->VS,pure_def->Vk
open Option.some renaming injEq->Us
namespace Go.Gg
open Go.Conc Go.Proofs Go.Gg.Tk
namespace Tk
def w7 (hour:Nat)(hs:SO):fF:=hs.foldl (λb h=>b.add (h.getD (hour+1) 0-h.getD hour 0)) ⟨0,0,false⟩
def aef{P:TK}{hs:SO}{h:SD}(h1:∀y∈hs,P y)(h2:P h):∀y∈iZ hs h,P y:=λy hy=>by
 unfold iZ at hy;split at hy
 ·exact h1 y hy
 ·rcases Tv.1 hy with h'|h'
  ·exact h1 y h'
  ·rw[Ub.1 h'];exact h2
def auw{x:ak}{deep:Int}{Q:Kn}{t:SD}(ht:jd x t)(hn:∀h∈Q.aM,jO h):∀h∈(eg x deep Q t).aM,jO h:=by
 have hB:∀h∈(je Q t).aM,jO h:=by unfold je;split<;>exact hn
 unfold eg;dsimp only;generalize je Q t=R at hB;split
 ·exact hB
 ·split
  ·exact aef hB ht.aK
  ·exact hB
def aa9{x:ak}{deep:Int}:∀{ts:SO}{Q:Kn},(∀t∈ts,jd x t)->(∀h∈Q.aM,jO h)->∀h∈(ts.foldl (eg x deep) Q).aM,jO h
 |[],Q,_,h=>h
 |t::ts,Q,ht,h=>by rw[VO];exact aa9 (λu hu=>ht u (by simp[hu])) (auw (ht t (by simp)) h)
def abc{P:TK}:∀{l hs:SO},(∀y∈hs,P y)->(∀y∈l,P y)->∀y∈l.foldl iZ hs,P y
 |[],hs,h1,_=>h1
 |a::l,hs,h1,h2=>by rw[VO];exact abc (aef h1 (h2 a (by simp))) (λy hy=>h2 y (by simp[hy]))
def aoE{x:ak}{deep:Int}{js:SE}{D:Kn}(hA:wT x)(hj:∀j∈js,j<=3)(h:nH x deep js D):∀h∈D.aM,jO h:=by
 induction h with
 |nil=>intro h hh;cases hh
 |@snoc js F j hs h hp ih=>
  have ih:=ih λi hi=>hj i (by simp[hi]);unfold fW;split
  ·refine abc ih λy hy=> ?_;have mP:=hp.mem_iff.1 hy;refine aa9 (λt ht=> ?_) (λ_ hh=>by cases hh) y mP;obtain⟨g,h1,h2⟩:=T9.1 ht;obtain⟨ns,h3,h4⟩:=JI h2;exact(hA j (hj j (by simp)) g h1).2 ns h3 t h4
  ·exact ih
end Tk
def aoL{x:ak}{deep:Int}{D:Kn}(hx:x.Ok)(h:ez x deep D):∀h∈D.aM,jO h:=by
 obtain⟨p,js,h1,h2,h3,_⟩:=h;have:=hx.am;refine aoE (CC hx) (λj hj=> ?_) h3;have:=h2.mem_iff.1 hj;rw[UN]at this;omega
section
variable {lv:Bool}{H:SA}{k kp:SF}
def akX{x:ak}{hour:Nat}{ih ir:Nat}(hh:1<=x.hours/\x.hours<=3)(h1:H[ih]?=some (.cells [iv hour] 3))(hr:H[ir]?=some (.cells x.l 26))(hk:k (bv (decide ((hour:Int)<=x.hours-1))) H):ba lv S_ 75 H [.op ih 0,.op ir 0] k kp:=by
 refine bH (rs:=[.tmp 2]) (nt:=9) Tryz.f75 λhH hA=> ?_;simp only[bm,Tu];have hw:Tg.wrap (x.hours-1)=x.hours-1:=a_ _ (by omega);have ce:(!(decide ((hour:Int)<0)||decide ((hour:Int)>x.hours-1)))=decide ((hour:Int)<=x.hours-1):=by
  rw[Vh];simp
 refine ah ?_;refine ab ?_;simp only[seval,h1,hr,TO,hw];refine aG (sd ?_);(try simp only[seval]);refine aT ?_;rw[<- ce]at hk;exact b8 hk
def akF{x:ak}{hour:Nat}(hx:x.Ok)(hm:H[0]?=some .main)(hu:¬(hour:Int)<=x.hours-1->k (.aL [.agg [iv 0,iv 0],iv 3]) H)(hk:(hour:Int)<=x.hours-1->∀D,ez x 0 D->(D.has=false->k (.aL [.agg [iv 0,iv 0],iv 11]) H)/\(D.has=true->∀hs:SO,hs.Perm D.aM->k (.aL [.agg [iv (w7 hour hs).lo,iv (w7 hour hs).hi],iv 0]) H)):ba true S_ 41 H [x.av,iv hour] k kp:=by
 refine bH (rs:=[.cell 4 46,.tmp 5]) (nt:=43) Tryz.f41 λhH hA=> ?_;simp only[bm,Tu,ak.av];have hp:=hx.am;have um:=hx.hours;obtain⟨p,fU⟩:∃p:Nat,x.am=p:=⟨x.am.toNat,by omega⟩;refine ah ?_;refine ab ?_;simp only[seval,TP,TQ,TR,Vb,VH,Vk,UX];have hxr:pC.length=6:=rfl;have nv:jb.length=28:=rfl;have sq:∀L:SA,(H++L)[H.length+2]?=L[2]?:=TU;refine aG (xd (x:=x) (b:=decide ((hour:Int)<=x.hours-1)) hx fU (fH hm) (λL k kp hk=>cP (akX (x:=x) (hour:=hour) (by omega) (by rw[Te,TS];rfl) (by rw[Te,TP];rfl) hk)) (λMH=> ?_) λhbt js D L mp gR iN di q_ hg=> ?_)
 ·have aI:=hu (by simpa using MH);(try simp only[seval,hxr,nv]);refine⟨λa ha=>by simp only[pC,Tm,T7,or_false]at ha;rcases ha with rfl|rfl|rfl|rfl|rfl|rfl<;>rfl,λa ha=>by simp only[jb,Tm,Tv,YL]at ha;rcases ha with rfl|rfl|⟨_,rfl⟩|⟨_,rfl⟩<;>rfl,?_⟩;refine ab ?_;simp only[seval,show ((3:Int)!=0)=true from rfl];refine aB ?_;refine ab ?_;simp only[seval,TU,Tb];refine ng ?_;simp only[seval,TU];exact f_ hH (Wk.refl _) (by simp[iF,dj,qp]) aI
 have hh:(hour:Int)<=x.hours-1:=by simpa using hbt
 have kC:ez x 0 D:=⟨p,js,fU,gR,iN,di⟩;have eP:=Kn.len di mp;have iU:=sT D mp;obtain⟨gT,cp⟩:=hk hh D kC;obtain⟨Bf,j9⟩:∃Bf:SC->SA,∀l,Bf l=H++([aa.cells x.l 26,.cells [iv hour] 3,.cells l 46]++L):=⟨_,λ_=>rfl⟩;have nZ:H++[aa.cells x.l 26,.cells [iv hour] 3,.cells [iv 0,iv 0] 46]++L=Bf [iv 0,iv 0]:=by rw[j9,Te]
 obtain⟨N,hN⟩:∃N,N=H.length+3+L.length:=⟨_,rfl⟩;have c9:∀l,(Bf l).length=N:=λl=>by rw[j9,hN];simp;omega
 have b1:∀l (L':SA),(Bf l++L')[H.length+1]?=some (.cells [iv hour] 3):=λl L'=>by rw[j9,Te,TS];rfl
 have b2:∀l (L':SA),(Bf l++L')[H.length+2]?=some (.cells l 46):=λl L'=>by rw[j9,Te,TU];rfl
 have pM:∀l l' (L':SA),(Bf l++L').set (H.length+2) (.cells l' 46)=Bf l'++L':=λl l' L'=>by rw[j9,Te,Tb,j9];simp
 have bn:∀l (L':SA)(j:Nat),(Bf l++L')[N+j]?=L'[j]?:=λl L' j=>by rw[<- c9 l,aW]
 have rY:∀l (L':SA)(j:Nat)(y:aa),(Bf l++L').set (N+j) y=Bf l++L'.set j y:=λl L' j y=>by rw[<- c9 l,dB]
 rw[nZ]at hg⊢;have eI:∀(l:SC)(L':SA)(a b:Int)(m:Int),k (.aL [.agg [iv a,iv b],iv m]) H->cz H.length (Bf l++L') (.aL [.agg [iv a,iv b],iv m]) k:=λl L' a b m h=>by
  rw[j9,Te];exact f_ hH (Wk.refl _) (by simp[iF,dj,qp]) h
 (try simp only[seval,ak.av,TQ,eP,c9]);refine⟨s_ x,iU,?_⟩;cases fA:D.has with
 |false=>
  have hE:dN D=11:=by rw[dN,fA];rfl
  refine ab ?_;simp only[seval,hE,show ((11:Int)!=0)=true from rfl];refine aB ?_;refine ab ?_;simp only[seval,b2,pM];refine ng ?_;simp only[seval,b2];exact eI _ _ 0 0 11 (gT fA)
 |true=>
  have hE:dN D=0:=by rw[dN,fA];rfl
  refine ab ?_;simp only[seval,hE,show ((0:Int)!=0)=false from rfl];refine aB ?_;refine aE ?_;refine ab ?_;simp only[seval,c9];have od:(D.l mp).drop 1=.mp mp::((D.l mp).drop 2):=rfl;obtain⟨ts,dz⟩:∃ts,ts=D.aM.zipIdx:=⟨_,rfl⟩;obtain⟨ck,Br⟩:∃ck,ck=D.aM.length:=⟨_,rfl⟩;have sA:∀l (L':SA),(Bf l++L')[mp]?=some (.obj (.map (ts.map dS).toArray ck)):=λl L'=>by
   have h0:(Bf [iv 0,iv 0])[mp]?=some (setH D.aM):=hg;have aF:mp≠H.length+2:=λe=>by
    have:=b2 [iv 0,iv 0] [];rw[To,<- e,h0]at this;cases this
   have h1:(Bf l)[mp]?=some (setH D.aM):=by
    have:=pM [iv 0,iv 0] l [];rw[To,To]at this;rw[<- this,U6 (λe=>aF e.symm)];exact h0
   rw[dz,Br];exact fH h1
  have n5:∀y∈ts,y.2<ck:=λy hy=>by rw[dz]at hy;have:=List.snd_lt_add_of_mem_zipIdx hy;omega
  have xH:(ts.map (·.2)).Nodup:=by rw[dz,show (λy:SD×Nat=>y.2)=Prod.snd from rfl,List.zipIdx_map_snd];exact List.nodup_range'
  have h4:∀y∈ts,y.1.length=4:=λy hy=>by rw[dz]at hy;exact di.h4 _ (CJ hy)
  have eT:=KP ts ck n5;have BV:ts.map (·.1)=D.aM:=by rw[dz,show (λy:SD×Nat=>y.1)=Prod.fst from rfl,List.zipIdx_map_fst]
  clear dz;refine ab ?_;simp only[seval,c9,bn,od,sA];obtain⟨ec,dh⟩:∃ec:fF->Array Nat->SA,∀b sn,ec b sn=Bf [iv 0,iv 0]++[.cells x.l 76,.cells (D.l mp) 88,.cells b.l 112,.iter mp ck sn ck]:=⟨_,λ_ _=>rfl⟩;have p1:∀b sn (L':SA),(ec b sn++L')[H.length+1]?=some (.cells [iv hour] 3):=λb sn L'=>by rw[dh,Te];exact b1 _ _
  have p2:∀b sn (L':SA),(ec b sn++L')[N+2]?=some (.cells b.l 112):=λb sn L'=>by rw[dh,Te,bn];rfl
  have p3:∀b sn (L':SA),(ec b sn++L')[N+3]?=some (.iter mp ck sn ck):=λb sn L'=>by rw[dh,Te,bn];rfl
  have FI:∀b sn,(ec b sn)[N+3]?=some (.iter mp ck sn ck):=λb sn=>by have:=p3 b sn [];rwa[To]at this
  have p4:∀b sn (L':SA),(ec b sn++L')[N+4]?=L'[0]?:=λb sn L'=>by rw[dh,Te,bn];rfl
  have pm:∀b sn (L':SA),(ec b sn++L')[mp]?=some (.obj (.map (ts.map dS).toArray ck)):=λb sn L'=>by rw[dh,Te];exact sA _ _
  have z_:∀b sn,(ec b sn)[mp]?=some (.obj (.map (ts.map dS).toArray ck)):=λb sn=>by have:=pm b sn [];rwa[To]at this
  have s2:∀b sn b' (L':SA),(ec b sn++L').set (N+2) (.cells (fF.l b') 112)=ec b' sn++L':=λb sn b' L'=>by rw[dh,Te,rY,dh,Te];rfl
  have s3:∀b sn Ai,(ec b sn).set (N+3) (.iter mp ck Ai ck)=ec b Ai:=λb sn Ai=>by rw[dh,rY,dh];rfl
  have pl:∀b sn,(ec b sn).length=N+4:=λb sn=>by rw[dh];simp[c9]
  have aP:Bf [AV.val (Th Tg 0),AV.val (Th Tg 0)]++[.cells x.l 76,.cells (D.l mp) 88,.cells [AV.val (Th Tg 0),AV.val (Th Tg 0),AV.val (Yj false)] 112,.iter mp ck #[] ck]=ec ⟨0,0,false⟩ #[]:=by rw[dh];rfl
  rw[aP];have oZ:hour<3:=by omega
  have amZ:=aoL hx kC;have b4:(0<=(hour:Int)/\(hour:Int)<4)=True:=by simp;omega
  have PZ:∀b sn l,(ec b sn).set (H.length+2) (.cells l 46)=Bf l++[.cells x.l 76,.cells (D.l mp) 88,.cells b.l 112,.iter mp ck sn ck]:=λb sn l=>by rw[dh,pM]
  have Po:∀b sn,(ec b sn)[H.length+2]?=some (.cells [iv 0,iv 0] 46):=λb sn=>by rw[dh,b2]
  have Pn:∀b sn,(ec b sn)[N+2]?=some (.cells (fF.l b) 112):=λb sn=>by have:=p2 b sn [];rwa[To]at this
  refine bF ?_;refine yF (measure λvs:List (SD×Nat)=>ts.length-vs.length).wf (λvs=>[]) (λvs=>ec (w7 hour (vs.map (·.1))) (vs.map (·.2)).toArray) (λvs=>(vs.map (·.2)).Nodup/\∀y∈vs,y∈ts) [] (λ_ _=>rfl) (by simp) rfl (λ_ _=>by simp[pl]) ⟨by simp,by simp⟩ (λbz bE vs aq R hR=> ?_);refine ab ?_;simp only[seval,FI,z_,s3];refine⟨eT.elim .inl (λh=> .inr (.inl h)),λe he hn=> ?_,λhs=> ?_⟩
  ·obtain⟨y,hy,rfl⟩:∃y∈ts,dS y=e:=(by simpa using he);refine aB ?_;refine aE ?_;refine bF ?_;have pQ:=h4 y hy;have Eb:(dS y).born=y.2:=rfl;have hlen:(y.1.map iv).length=4:=(by simp[pQ]);have Eh:U4 4 [AV.val (Th Tg 0),AV.val (Th Tg 0),AV.val (Th Tg 0),AV.val (Th Tg 0)]=[]:=rfl;obtain⟨w,hw⟩:=bA (xs:=y.1) (i:=hour) (by omega);have zH:y.1.getD hour 0=w:=(by rw[Tf,hw];rfl);obtain⟨w2,c_⟩:=bA (xs:=y.1) (i:=hour+1) (by omega);have aoo:y.1.getD (hour+1) 0=w2:=(by rw[Tf,c_];rfl);have zI:=amZ y.1 (by rw[<- BV];exact Uo.2 ⟨y,hy,rfl⟩);have rq:=zI.lo w (T8 hw);have awK:=zI.hi w (T8 hw);have hwq:=zI.lo w2 (T8 c_);have awJ:=zI.hi w2 (T8 c_);have v9:Tg.wrap (w2-w)=w2-w:=a_ _ (by omega);have lO:Tg.wrap ((hour:Int)+1)=(hour:Int)+1:=a_ _ (by omega);have kX:((hour:Int)+1).toNat=hour+1:=(by omega);have b5:(0<=(hour:Int)+1/\(hour:Int)+1<4)=True:=(by simp;omega);have B0:y.2∉vs.map (·.2):=(by simpa[dS]using hn);have BK:((vs.map (·.2)).toArray.push y.2)=((vs++[y]).map (·.2)).toArray:=(by simp);have MK:(w7 hour (vs.map (·.1))).add (w2-w)=w7 hour ((vs++[y]).map (·.1)):=by
    unfold w7;rw[Uq,Xo];show _=fF.add _ (y.1.getD (hour+1) 0-y.1.getD hour 0);rw[zH,aoo]
   have pc:((vs++[y]).map (·.2)).Nodup/\∀z∈vs++[y],z∈ts:=by
    refine⟨?_,λz hz=> ?_⟩
    ·rw[Uq,V_];refine⟨aq.1,by simp,λa ha b hb=> ?_⟩;simp at hb;subst hb;intro e;subst e;exact B0 ha
    ·rcases Tv.1 hz with h|h
     ·exact aq.2 z h
     ·rw[Ub.1 h];exact hy
   have Ev:vs.length<ts.length:=by
    have h1:(vs++[y]).Nodup:=B8 _ pc.1;have:=h1.length_le_of_subset pc.2;simp at this;omega
   have qa:ts.length-(vs++[y]).length<ts.length-vs.length:=(by simp;omega);have BC:∀b sn,bJ (ec b sn):=λb sn z hz=>by
    have Hx:bJ (ec ⟨0,0,false⟩ #[]):=bz;rw[pl];rw[dh]at hz;have ce:∀z,z∈ec ⟨0,0,false⟩ #[]->e9 (N+4) z:=λz hz=>by
     have:=Hx z hz;rwa[pl]at this
    rcases Tv.1 hz with h|h
    ·exact ce z (by rw[dh];exact Ul _ h)
    ·simp only[Tm,T7,or_false]at h;rcases h with rfl|rfl|rfl|rfl
     ·exact ce _ (by rw[dh];simp)
     ·exact ce _ (by rw[dh];simp)
     ·intro a ha;simp only[fF.l,Tm,T7,or_false]at ha;rcases ha with rfl|rfl|rfl<;>exact .val _
     ·show mp<N+4;have:=e_ (z_ ⟨0,0,false⟩ #[]);rwa[pl]at this
   refine ab ?_;simp only[seval,FI,z_,s3,pl,p4,Eb,Array.back?_push,LQ xH hy,Pe,pQ,hlen,Eh];refine eA 7 ?_;simp only[seval,p1,p4,b4,b5,lO,kX,ky hw,ky c_,v9];refine aG (aaL (b:=w7 hour (vs.map (·.1))) (v:=w2-w) (i:=N+2) (p2 _ _ _) ?_);rw[s2,MK,BK];(try simp only[seval]);refine hR _ ⟨vs++[y],qa,pc,?_⟩;exact PW (jZ rfl rfl) (by simp only[seval]<;>simp[bh,Wk.refl]) (BC _ _) (by simp[dj])
  ·have lK:vs.Perm ts:=P2 aq.1 xH aq.2 λy hy=>by
    have:=hs (dS y) (by simp;exact⟨y.1,y.2,hy,rfl⟩) (n5 y hy);simpa[dS]using this
   have EF:(vs.map (·.1)).Perm D.aM:=by
    have:=lK.map (·.1);rw[BV]at this;exact this
   have aI:=cp fA _ EF;generalize xv:w7 hour (vs.map (·.1))=bv' at aI;refine aB ?_;refine bD ?_;refine ab ?_;simp only[seval,Pn,Po,PZ,fF.l,xv];refine ng ?_;simp only[seval,b2];exact eI _ _ _ _ 0 aI
end
open Go.Conc Go.Proofs Go.Gg.Tk
namespace Tk
def B5 (out n:Int):Int:=if 0<=n/\(out<0\/n<out)then n else out
def zP (l:SD):Int:=l.foldl B5 (-1)
def vz (aY:SE)(i:Nat):SD:=(T1 i).flatMap λs=>if 1<(fX (aY.getD s 0) 0 16).length then[-1]else fX (aY.getD s 0) 0 16
def abn(aY:SE)(i:Nat):vz aY (i+1)=vz aY i++(if 1<(fX (aY.getD i 0) 0 16).length then[-1]else fX (aY.getD i 0) 0 16):=by
 unfold vz;rw[VW,Vf];simp
def abm(aY:SE):∀i,(vz aY i).length<=i
 |0=>by simp[vz]
 |i+1=>by
  have:=abm aY i;rw[abn,Tt];split
  ·simp;omega
  ·omega
end Tk
def F7{a a' b b':AV}(h1:Wk a a')(h2:Wk b b'):Wk (.aL [a,b]) (.aL [a',b']):=λE v h=>by
 cases h with
 |aL hs h=>
  refine .aL hs λi x e=> ?_
  match i with
  |0=>cases e;exact h1 _ _ (h 0 a rfl)
  |1=>cases e;exact h2 _ _ (h 1 b rfl)
open Go.Conc Go.Proofs Go.Gg.Tk
section
variable {lv:Bool}{H:SA}{k kp:SF}
def TZ{x:ak}:U4 5 x.l=[.sl x.aC.length (x.aC.flatMap aD.l) .shut]:=rfl
def aku{x:ak}(hx:x.Ok)(hm:H[0]?=some .main)(hk:∀D,ez x 2 D->(D.has=false->k (.aL [aO [],iv 11]) H)/\(D.has=true->k (.aL [aO (vz D.aY x.aC.length),iv 0]) H)):ba true S_ 26 H [x.av] k kp:=by
 refine bH (rs:=[.tmp 2,.tmp 3]) (nt:=39) Tryz.f26 λhH hA=> ?_;simp only[bm,Tu,ak.av];have hp:=hx.am;have aP:=hx.dC;obtain⟨p,fU⟩:∃p:Nat,x.am=p:=⟨x.am.toNat,by omega⟩;refine ah ?_;refine ab ?_;simp only[seval,TP,TQ,TR];refine aG (xd (x:=x) hx fU (fH hm) GG (λh=>by cases h) λ_ js D L mp gR iN di q_ hg=> ?_);have kC:ez x 2 D:=⟨p,js,fU,gR,iN,di⟩;have eP:=Kn.len di mp;have iU:=sT D mp;obtain⟨gT,cp⟩:=hk D kC;obtain⟨Y,hY⟩:∃Y:SA,Y=[aa.cells x.l 26]++L:=⟨_,rfl⟩;obtain⟨B,hB⟩:∃B,B=H++Y:=⟨_,rfl⟩;have nZ:H++[aa.cells x.l 26]++L=B:=by rw[hB,hY,Te]
 have Bp:∀(L':SA),(B++L')[H.length]?=some (.cells x.l 26):=λL'=>by rw[hB,hY,Te,TP];rfl
 have bn:∀(L':SA)(j:Nat),(B++L')[B.length+j]?=L'[j]?:=λL' j=>aW B L' j;have rY:∀(L':SA)(j:Nat)(y:aa),(B++L').set (B.length+j) y=B++L'.set j y:=λL' j y=>dB B L' j y;have eI:∀(L':SA)(ns:SD)(e:End)(m:Int),k (.aL [aO ns,iv m]) H->cz H.length (B++L') (.aL [.sl ns.length (ns.map iv) e,iv m]) k:=λL' ns e m h=>by
  rw[hB,Te];exact f_ hH (F7 (ff _ _ _) (Wk.refl _)) (by simp[iF,dj,aO,pq]) h
 rw[nZ];clear nZ hg;(try simp only[seval,ak.av,TQ,eP]);refine⟨s_ x,iU,?_⟩;cases fA:D.has with
 |false=>
  have hE:dN D=11:=by rw[dN,fA];rfl
  refine ab ?_;simp only[seval,hE,show ((11:Int)!=0)=true from rfl];refine aB ?_;refine ah ?_;refine aT ?_;exact eI _ [] .exact 11 (gT fA)
 |true=>
  have hE:dN D=0:=by rw[dN,fA];rfl
  refine ab ?_;simp only[seval,hE,show ((0:Int)!=0)=false from rfl];refine aB ?_;refine aE ?_;refine ah ?_
  (repeat apply fu);refine nh (t:=7) (sz:=1) (el:=3) (by simp only[seval]<;>rfl) ?_
  refine ab ?_;simp only[seval,Bp,TZ];have Dm:∀(L':SA),(B++L')[B.length+1]?=L'[1]?:=λL'=>bn L' 1;have AL:∀(L':SA),(B++L')[B.length+2]?=L'[2]?:=λL'=>bn L' 2;have pM:∀(L':SA)(y:aa),(B++L').set (B.length+2) y=B++L'.set 2 y:=λL' y=>rY L' 2 y;obtain⟨gl,kg⟩:∃gl:Nat->SD,∀i,gl i=vz D.aY i:=⟨_,λ_=>rfl⟩;have Em:gl 0=[]:=by rw[kg];rfl
  have M6:∀i,(gl i).length<=i:=λi=>by rw[kg];exact abm _ _
  refine bF ?_;refine ej x.aC.length (λi:Nat=>[(7,.sl (gl i).length ((gl i).map iv) (.opn (B.length+2))),(22,iv i)]) (λi=>B++[.cells x.l 76,.cells (D.l mp) 88,.tail (gl i).length 1 3]) (λi=>True) (λ_ _=>rfl) (by rw[Em];simp only[seval];simp[bh,Wk.refl]) (by rw[Em];rfl) (λ_ _ _=>by simp) trivial (λbz bE i ce _ R hR=> ?_);refine ah ?_;refine aB ?_;refine⟨λh=> ?_,λh=> ?_⟩
  ·have bk:i<x.aC.length:=(by omega);obtain⟨u,hu⟩:=bA (xs:=D.aY) (i:=i) (by rw[di.aY];omega);have lu:=di.mq _ (T8 hu);have b3:(0<=(i:Int)/\(i:Int)<3)=True:=(by simp;omega);have gA:=TN i (by omega);have vL:=Kn.FL di (mp:=mp) hu;have cW:gl (i+1)=gl i++(if 1<(fX u 0 16).length then[-1]else fX u 0 16):=by
    rw[kg,kg,abn,Tf,hu];rfl
   have hli:=M6 i;have fI:=OS u 0 16;refine aE ?_;refine ah ?_;refine ab ?_;simp only[seval,Dm,b3,vL];refine aG (G_ lu (by decide) ?_);(try simp only[seval,aO]);refine ah ?_;refine aB ?_;refine⟨λhb=> ?_,λhb=> ?_⟩
   ·refine ab ?_;simp only[seval,z1];(try refine⟨by decide,?_⟩);refine ab ?_;simp only[seval,AL,pM];refine⟨by omega,?_⟩;refine ab ?_;simp only[seval,gA];have nj:1<(fX u 0 16).length:=(by have h2:(1:Int)<((fX u 0 16).length:Int):=(by simpa using hb);omega);rw[if_pos nj]at cW;refine hR _ ⟨bk,trivial,?_⟩;rw[cW,Uq,Tt];exact bX
   ·refine aE ?_;refine ab ?_;simp only[seval,AL,pM];refine⟨by omega,?_⟩;refine ab ?_;simp only[seval,gA];have nj:¬1<(fX u 0 16).length:=(by have h2:((fX u 0 16).length:Int)<=1:=(by simpa using hb);omega);rw[if_neg nj]at cW;refine hR _ ⟨bk,trivial,?_⟩;rw[cW,Uq,Tt];exact bX
  ·have dK:i=x.aC.length:=(by omega);subst dK;refine bD ?_;refine ah ?_;refine aT ?_;have aI:=cp fA;rw[<- kg]at aI;exact eI _ _ _ 0 aI
def akT{ns:SD}{e:End}(iW:ns.length<=16)(hk:k (iv (zP ns)) H):ba lv S_ 69 H [.sl ns.length (ns.map iv) e] k kp:=by
 refine bH (rs:=[.tmp 2]) (nt:=26) Tryz.f69 λhH hA=> ?_;simp only[bm,Tu];refine ah ?_;refine ah ?_;refine ah ?_;refine bF ?_;refine ej ns.length (λi:Nat=>[(3,iv (zP (ns.take i))),(8,iv i)]) (λ_=>_) (λi=>True) (λ_ _=>rfl) (by simp only[seval];simp[bh,Wk.refl];exact Wk.refl _) rfl (λ_ _ _=>rfl) trivial (λbz bE i ce _ R hR=> ?_);refine ah ?_;refine aB ?_;refine⟨λh=> ?_,λh=> ?_⟩
 ·have bk:i<ns.length:=by omega
  obtain⟨n,hn⟩:=bA bk;have gA:=TN i (by omega)
  have cW:zP (ns.take (i+1))=B5 (zP (ns.take i)) n:=by
   unfold zP;rw[UZ,hn,Xo];rfl
  generalize zP (ns.take i)=o at cW hR⊢;refine aE ?_;refine ab ?_;simp only[seval,dp hn,jx bk];by_cases c1:0<=n
  ·have d1:decide (n>=0)=true:=decide_eq_true c1;by_cases c2:o<0
   ·have d2:decide (o<0)=true:=decide_eq_true c2;refine ab ?_;simp only[seval,d1,d2];refine aB ?_;refine ah ?_;refine ab ?_;simp only[seval,gA];rw[B5,if_pos ⟨c1,.inl c2⟩]at cW;refine hR _ ⟨bk,trivial,?_⟩;rw[cW];exact bX
   ·have d2:decide (o<0)=false:=decide_eq_false c2;by_cases c3:n<o
    ·have d3:decide (n<o)=true:=decide_eq_true c3;refine ab ?_;simp only[seval,d1,d2,d3];refine aB ?_;refine ah ?_;refine ab ?_;simp only[seval,gA];rw[B5,if_pos ⟨c1,.inr c3⟩]at cW;refine hR _ ⟨bk,trivial,?_⟩;rw[cW];exact bX
    ·have d3:decide (n<o)=false:=decide_eq_false c3;refine ab ?_;simp only[seval,d1,d2,d3];refine aB ?_;refine aE ?_;refine ab ?_;simp only[seval,gA];rw[B5,if_neg (λhc=>hc.2.elim c2 c3)]at cW;refine hR _ ⟨bk,trivial,?_⟩;rw[cW];exact bX
  ·have d1:decide (n>=0)=false:=decide_eq_false c1;(repeat apply fu);refine KD (by kernel_rfl) ?_;simp only[seval,d1];refine aB ?_;refine aE ?_;refine ab ?_;simp only[seval,gA];rw[B5,if_neg (λhc=>c1 hc.1)]at cW;refine hR _ ⟨bk,trivial,?_⟩;rw[cW];exact bX
 ·have:i=ns.length:=by omega
  subst this;refine bD ?_;refine ah ?_;refine aT ?_;rw[Un];exact b8 hk
end
namespace Tk
def Cz (some all:Int):Int:=if some=0 then 2 else if some=all then 1 else 3
def aD.more (y:aD)(n:Int):aD:=⟨⟨y.number.min+n,y.number.max+n⟩,y.hour⟩
def j3 (h:SD)(n:Int):Nat->Int
 |0=> -1
 |i+1=>if h.getD i 0<=n/\n<h.getD (i+1) 0 then i else j3 h n i
end Tk
section
variable {lv:Bool}{H:SA}{k kp:SF}
def Dx{a b:Int}(hk:k (.agg [iv a,iv b]) H):ba lv S_ 24 H [iv a,iv b] k kp:=by
 refine bH (rs:=[.cell 4 46]) (nt:=8) Tryz.f24 λhH hA=> ?_;simp only[bm,Tu];refine ah ?_;refine ah ?_;refine aT ?_;exact f_ hH (Wk.refl _) (by simp[qp,dj]) hk
def aaG{b:eG}{n:Int}(hk:k (.agg [iv (min b.min n),iv (max b.max n)]) H):ba lv S_ 43 H [b.av,iv n] k kp:=by
 refine bH (rs:=[.cell 4 46]) (nt:=14) Tryz.f43 λhH hA=> ?_;simp only[bm,Tu,eG.av];have m1:(if n<b.min then n else b.min)=min b.min n:=by split<;>omega
 have m2:(if b.max<n then n else b.max)=max b.max n:=by split<;>omega
 refine ab ?_;simp only[seval,eG.l];refine ab ?_;simp only[seval,m1,m2];refine aG (Dx ?_);(try simp only[seval]);refine aT ?_;exact f_ hH (Wk.refl _) (by simp[qp,dj]) hk
def aaH{some all:Int}(hk:k (iv (Cz some all)) H):ba lv S_ 44 H [iv some,iv all] k kp:=by
 refine bH (rs:=[.tmp 4]) (nt:=10) Tryz.f44 λhH hA=> ?_;simp only[bm,Tu];unfold Cz at hk;refine ah ?_;refine ah ?_;refine aB ?_;refine⟨λh=> ?_,λh=> ?_⟩
 ·rw[if_pos (by simpa using h)]at hk;refine ah ?_;refine aT ?_;exact b8 hk
 ·rw[if_neg (by simpa using h)]at hk;refine aE ?_;refine ah ?_;refine aB ?_;refine⟨λh=> ?_,λh=> ?_⟩
  ·rw[if_pos (by simpa using h)]at hk;refine ah ?_;refine aT ?_;exact b8 hk
  ·rw[if_neg (by simpa using h)]at hk;refine aE ?_;refine ah ?_;refine aT ?_;exact b8 hk
def aaN{a b c:Int}(hk:k (Seen.av ⟨a,⟨b,c⟩⟩) H):ba lv S_ 78 H [iv a,iv b,iv c] k kp:=by
 refine bH (rs:=[.cell 6 61]) (nt:=12) Tryz.f78 λhH hA=> ?_;simp only[bm,Tu];refine ah ?_;refine ah ?_;refine aT ?_;exact f_ hH (Wk.refl _) (by simp[qp,dj]) hk
def se{a b c d:Int}(hk:k (aD.av ⟨⟨a,b⟩,⟨c,d⟩⟩) H):ba lv S_ 79 H [iv a,iv b,iv c,iv d] k kp:=by
 refine bH (rs:=[.cell 8 48]) (nt:=16) Tryz.f79 λhH hA=> ?_;simp only[bm,Tu];refine ah ?_;refine ah ?_;refine aT ?_;exact f_ hH (Wk.refl _) (by simp[qp,dj]) hk
def LA{h:SD}{n:Int}{e:End}(hl:h.length<=4)(hk:k (iv (j3 h n (h.length-1))) H):ba lv S_ 40 H [.sl h.length (h.map iv) e,iv n] k kp:=by
 refine bH (rs:=[.tmp 4]) (nt:=31) Tryz.f40 λhH hA=> ?_;simp only[bm,Tu];refine ah ?_;refine ah ?_;refine ah ?_;refine bF ?_;refine ej (h.length-1) (λi:Nat=>[(5,iv (j3 h n i)),(6,iv i)]) (λ_=>_) (λi=>True) (λ_ _=>rfl) (by simp only[seval];simp[bh,Wk.refl];exact Wk.refl _) rfl (λ_ _ _=>rfl) trivial (λbz bE i ce _ R hR=> ?_);have gA:=TN i (by omega)
 refine ab ?_;simp only[seval,gA];refine aB ?_;refine⟨λhc=> ?_,λhc=> ?_⟩
 ·have bk:i+1<h.length:=by omega
  obtain⟨a,ha⟩:=bA (xs:=h) (i:=i) (by omega);obtain⟨b,hb⟩:=bA (xs:=h) (i:=i+1) bk;have gL:h.getD i 0=a:=by rw[Tf,ha];rfl
  have dO:h.getD (i+1) 0=b:=by rw[Tf,hb];rfl
  have dV:=jx (show i<h.length by omega);have kS:(0<=(i:Int)+1/\(i:Int)+1<(h.length:Int))=True:=by simp;omega
  have kX:((i:Int)+1).toNat=i+1:=by omega
  have cW:j3 h n (i+1)=if a<=n/\n<b then(i:Int)else j3 h n i:=by rw[j3,gL,dO]
  refine aE ?_;refine bF ?_;by_cases c1:a<=n
  ·have d1:decide (a<=n)=true:=decide_eq_true c1;by_cases c2:n<b
   ·have d2:decide (n<b)=true:=decide_eq_true c2;refine ab ?_;simp only[seval,dp ha,dp hb,dV,kS,kX,d1,d2,gA];refine aB ?_;refine ah ?_;refine ab ?_;simp only[seval,gA];rw[if_pos ⟨c1,c2⟩]at cW;refine hR _ ⟨by omega,trivial,?_⟩;rw[cW];exact bX
   ·have d2:decide (n<b)=false:=decide_eq_false c2;refine ab ?_;simp only[seval,dp ha,dp hb,dV,kS,kX,d1,d2,gA];refine aB ?_;refine aE ?_;refine ab ?_;simp only[seval,gA];rw[if_neg (λhh=>c2 hh.2)]at cW;refine hR _ ⟨by omega,trivial,?_⟩;rw[cW];exact bX
  ·have d1:decide (a<=n)=false:=decide_eq_false c1;refine ab ?_;simp only[seval,dp ha,dV,d1];refine aB ?_;refine aE ?_;refine ab ?_;simp only[seval,gA];rw[if_neg (λhh=>c1 hh.1)]at cW;refine hR _ ⟨by omega,trivial,?_⟩;rw[cW];exact bX
 ·have dK:i=h.length-1:=by omega
  subst dK;refine bD ?_;refine ah ?_;refine aT ?_;exact b8 hk
end
open Go.Conc Go.Proofs Go.Gg.Tk
namespace Tk
def Hi (h:SD)(y:aD)(n:Int):Bool:=decide (j3 h n (h.length-1)>=0)&&(decide (n>=y.number.min)&&(decide (n<=y.number.max)&&(decide (j3 h n (h.length-1)>=y.hour.min)&&decide (j3 h n (h.length-1)<=y.hour.max))))
end Tk
section
variable {lv:Bool}{H:SA}{k kp:SF}
def Ly{h:SD}{y:aD}{n:Int}{e:End}(hl:h.length<=4)(hk:k (bv (Hi h y n)) H):ba lv S_ 30 H [.sl h.length (h.map iv) e,y.av,iv n] k kp:=by
 refine bH (rs:=[.tmp 6]) (nt:=41) Tryz.f30 λhH hA=> ?_;simp only[bm,Tu,aD.av];unfold Hi at hk;refine ab ?_;simp only[seval,aD.l];refine ah ?_;refine aG (LA (h:=h) (n:=n) hl ?_);generalize j3 h n (h.length-1)=tk at hk⊢;(try simp only[seval]);by_cases c1:tk>=0
 ·have d1:decide (tk>=0)=true:=decide_eq_true c1;by_cases c2:n>=y.number.min
  ·have d2:decide (n>=y.number.min)=true:=decide_eq_true c2;by_cases c3:n<=y.number.max
   ·have d3:decide (n<=y.number.max)=true:=decide_eq_true c3;by_cases c4:tk>=y.hour.min
    ·have d4:decide (tk>=y.hour.min)=true:=decide_eq_true c4;by_cases c5:tk<=y.hour.max
     ·have d5:decide (tk<=y.hour.max)=true:=decide_eq_true c5;refine ab ?_;simp only[seval,TP,d1,d2,d3,d4,d5];refine aT ?_;rw[d1,d2,d3,d4,d5]at hk;exact jg hH hk
     ·have d5:decide (tk<=y.hour.max)=false:=decide_eq_false c5;refine ab ?_;simp only[seval,TP,d1,d2,d3,d4,d5];refine aT ?_;rw[d1,d2,d3,d4,d5]at hk;simp only[WJ,Wj,Vt]at hk;exact jg hH hk
    ·have d4:decide (tk>=y.hour.min)=false:=decide_eq_false c4;refine ab ?_;simp only[seval,TP,d1,d2,d3,d4];refine aT ?_;rw[d1,d2,d3,d4]at hk;simp only[WJ,Wj,Vt]at hk;exact jg hH hk
   ·have d3:decide (n<=y.number.max)=false:=decide_eq_false c3;refine ab ?_;simp only[seval,TP,d1,d2,d3];refine aT ?_;rw[d1,d2,d3]at hk;simp only[WJ,Wj,Vt]at hk;exact jg hH hk
  ·have d2:decide (n>=y.number.min)=false:=decide_eq_false c2;refine ab ?_;simp only[seval,TP,d1,d2];refine aT ?_;rw[d1,d2]at hk;simp only[WJ,Wj,Vt]at hk;exact jg hH hk
 ·have d1:decide (tk>=0)=false:=decide_eq_false c1;refine ab ?_;simp only[seval,TP,d1];refine aT ?_;rw[d1]at hk;simp only[WJ,Wj,Vt]at hk;exact jg hH hk
end
open Go.Conc Go.Proofs Go.Gg.Tk
def xc (τ:bp)(ns:SD):Int:=ns.getD (dt τ (ns.length-1)).toNat 0
section
variable {lv:Bool}{H:SA}{k kp:SF}{Gf:bp->SA}{t N:Nat}{τ:bp}{b:Int}
def LB{ns:SD}{e:End}(hT:dU Gf t N)(hτ:τ.Ok b)(hb:b<2^60)(hn:1<=ns.length)(jm:ns.length<2^20)(hk:k (iv (xc τ ns)) (Gf (tick τ))):ba lv S_ 45 (Gf τ) [.op t 0,.sl ns.length (ns.map iv) e] k kp:=by
 refine bH (rs:=[.tmp 4]) (nt:=13) Tryz.f45 λhH hA=> ?_;simp only[bm,Tu];have bK:Tg.wrap ((ns.length:Int)-1)=(ns.length:Int)-1:=a_ _ (by omega);have hr:=lV τ ((ns.length:Int)-1);unfold xc at hk;obtain⟨j,hj⟩:=Int.eq_ofNat_of_zero_le hr.1;have dW:j<ns.length:=by omega
 obtain⟨v,hv⟩:=bA dW;rw[hj]at hk;have v8:ns.getD (j:Int).toNat 0=v:=by rw[WU,Tf,hv];rfl
 rw[v8]at hk;refine ah ?_;refine ab ?_;simp only[seval,bK];refine aG (pP hT hτ hb (by omega) ?_);rw[hj];(try simp only[seval,dp hv,jx dW]);refine aT ?_;exact b8 hk
end
def nP (τ:bp)(n m lo hi:Int):eG:=⟨max lo (n-dt τ m),min hi (n+dt (tick τ) m)⟩
def l7 (τ:bp)(h:SD)(n hours:Int):aD:=⟨nP τ n 2 0 99,nP (tick (tick τ)) (j3 h n (h.length-1)) 1 0 (hours-1)⟩
section
variable {lv:Bool}{k kp:SF}{Gf:bp->SA}{t N:Nat}{τ:bp}{b:Int}
def LC{n m lo hi:Int}(hT:dU Gf t N)(hτ:τ.Ok b)(hb:b<2^30)(hn: -1000<=n/\n<=1000)(hm:0<=m/\m<=3)(hk:k (nP τ n m lo hi).av (Gf (tick (tick τ)))):ba lv S_ 48 (Gf τ) [.op t 0,iv n,iv m,.agg [iv lo,iv hi]] k kp:=by
 refine bH (rs:=[.cell 8 46]) (nt:=26) Tryz.f48 λhH hA=> ?_;simp only[bm,Tu];have oS:dU (λτ=>Gf τ++[.cells [iv lo,iv hi] 46,.cells [iv 0,iv 0] 46]) t (N+2):=hT.more [_,_];have r1:=lV τ m;have r2:=lV (tick τ) m;have bK:Tg.wrap (n-dt τ m)=n-dt τ m:=a_ _ (by omega);have c_:Tg.wrap (n+dt (tick τ) m)=n+dt (tick τ) m:=a_ _ (by omega);have Ey:(if lo<n-dt τ m then n-dt τ m else lo)=max lo (n-dt τ m):=by split<;>omega
 have oi:(if n+dt (tick τ) m<hi then n+dt (tick τ) m else hi)=min hi (n+dt (tick τ) m):=by split<;>omega
 refine ah ?_;refine lY [5,13,17] (T1 18) (λD=>bif isDone 17 D then Gf (tick (tick τ))++[.cells [iv lo,iv hi] 46,.cells [iv (max lo (n-dt τ m)),iv (min hi (n+dt (tick τ) m))] 46]else bif isDone 13 D then Gf (tick (tick τ))++[.cells [iv lo,iv hi] 46,.cells [iv 0,iv 0] 46]else bif isDone 5 D then Gf (tick τ)++[.cells [iv lo,iv hi] 46,.cells [iv 0,iv 0] 46]else Gf τ++[.cells [iv lo,iv hi] 46,.cells [iv 0,iv 0] 46]) ?_;simp only[seval,hT.len,hT.g0,hT.g1,hT.g2,hT.g3,hT.h2,hT.h3,hT.s0,hT.s1,hT.s2,hT.s3,hT.t2,hT.t3,bK,c_,Ey,oi];refine tV _ _ (cP (pP (oS) hτ (by omega) (by omega) ⟨rfl,rfl⟩)) ?_;(try simp only[seval,hT.len,hT.g0,hT.g1,hT.g2,hT.g3,hT.h2,hT.h3,hT.s0,hT.s1,hT.s2,hT.s3,hT.t2,hT.t3,bK,c_,Ey,oi]);refine tV _ _ (cP (pP (oS) hτ.tick (by omega) (by omega) ⟨rfl,rfl⟩)) ?_;(try simp only[seval,hT.len,hT.g0,hT.g1,hT.g2,hT.g3,hT.h2,hT.h3,hT.s0,hT.s1,hT.s2,hT.s3,hT.t2,hT.t3,bK,c_,Ey,oi]);refine ng ?_;simp only[seval,hT.len,hT.g0,hT.g1,hT.g2,hT.g3,hT.h2,hT.h3,hT.s0,hT.s1,hT.s2,hT.s3,hT.t2,hT.t3];exact jS (b:=(nP τ n m lo hi).av) (H':=Gf (tick (tick τ))) (Wk.refl _) rfl (by simp[hT.len]) (hT.aq hH _) (by simp[eG.av,eG.l,qp,dj]) hk
def aaI{h:SD}{n hours:Int}{e:End}(hT:dU Gf t N)(hτ:τ.Ok b)(hb:b<2^20)(hl:h.length<=4)(hn: -1000<=n/\n<=1000)(hh:1<=hours/\hours<=3)(rl: -1<=j3 h n (h.length-1)/\j3 h n (h.length-1)<=4)(hk:k (l7 τ h n hours).av (Gf (tick (tick (tick (tick τ)))))):ba lv S_ 47 (Gf τ) [.op t 0,.sl h.length (h.map iv) e,iv n,iv hours] k kp:=by
 refine bH (rs:=[.cell 8 48]) (nt:=22) Tryz.f47 λhH hA=> ?_;simp only[bm,Tu];have vE:∀o:aa,dU (λτ=>Gf τ++[o]) t (N+1):=λo=>hT.more [o];have bK:Tg.wrap (hours-1)=hours-1:=a_ _ (by omega);refine ah ?_;refine ab ?_;simp only[seval,bK];refine aG (LC (n:=n) (m:=2) (lo:=0) (hi:=99) (vE _) hτ (by omega) hn (by decide) ?_);(try simp only[seval]);refine aG (LA (h:=h) (n:=n) hl ?_);(try simp only[seval,bK]);refine aG (LC (n:=j3 h n (h.length-1)) (m:=1) (lo:=0) (hi:=hours-1) (vE _) hτ.tick.tick (by omega) (by omega) (by decide) ?_);(try simp only[seval,hT.len,hT.g0,hT.g1,hT.g2,hT.g3,hT.h2,hT.h3,hT.s0,hT.s1,hT.s2,hT.s3,hT.t2,hT.t3,eG.av,eG.l]);refine ng ?_;simp only[seval,hT.len,hT.g0,hT.g1,hT.g2,hT.g3,hT.h2,hT.h3,hT.s0,hT.s1,hT.s2,hT.s3,hT.t2,hT.t3];exact jS (b:=(l7 τ h n hours).av) (H':=Gf (tick (tick (tick (tick τ))))) (Wk.refl _) rfl (by simp[hT.len]) (hT.aq hH _) (by simp[aD.av,aD.l,qp,dj]) hk
end
end Go.Gg
namespace Go.Gg.Tk
def qE:SD->Prop
 |a::b::l=>a<=b/\qE (b::l)
 |_=>True
def Qs{h:SD}{n:Int}(hl:2<=h.length)(o4:h.length<=4)(hm:qE h):j3 h n (h.length-1)=iu h n:=by
 match h,hl,o4,hm with
 |[a,b],_,_,hm=>
  simp only[iu,fM,j3,Ve,VL,Yr,Yi,Tu,Zt]
 |[a,b,c],_,_,hm=>
  obtain⟨h1,h2,_⟩:=hm;simp only[iu,fM,j3,Ve,VL,Yr,Yi,Tu,Zt];split<;>split<;>first|rfl|omega
 |[a,b,c,d],_,_,hm=>
  obtain⟨h1,h2,h3,_⟩:=hm;simp only[iu,fM,j3,Ve,VL,Yr,Yi,Tu,Zt];split<;>split<;>first|rfl|omega|(split<;>first|rfl|omega)
def aaW{h:SD}{y:aD}{n:Int}(hl:2<=h.length)(o4:h.length<=4)(hm:qE h):Hi h y n=fits h y n:=by
 unfold Hi fits iq;rw[Qs hl o4 hm,Vh];simp only[Uh,decide_eq_true_eq,ge_iff_le];constructor
 ·rintro⟨a,b,c,d,e⟩;exact⟨⟨a,b,c⟩,d,e⟩
 ·rintro⟨⟨a,b,c⟩,d,e⟩;exact⟨a,b,c,d,e⟩
end Go.Gg.Tk
namespace Go.Gg
open Go.Conc
section
variable {lv:Bool}{P:Tl}{r:SL}{o:Vo}{s:AS}{next:SV}{bad:AV->SV}
end
section
variable (lv:Bool)(P:Tl)(r:SL)
def C3:List Vo->AS->(SV)->(AV->SV)->Prop
 |[],s,K,_=>K s
 |o::rest,s,K,bad=>o.guard=none/\Step lv P r o s (λs'=>C3 rest s' K bad) bad
end
section
variable {lv:Bool}{P:Tl}{r:SL}{s:AS}
def ae1{nt:Nat}{all:SK}{Φ:SI}(dF:∀o∈all,∀d,o.dst=some d->d<nt)(oc:∀o∈all,r=none\/mQ o.op=false):∀(n k:Nat)(s:AS),k+n=all.size->C3 lv P r (all.toList.drop k) s (Φ .normal) (λpv s=>Φ (.panic pv) s)->
  ∀(E:Env)(V:View)(a:Act)(Q:SJ),At E V s a nt->(∀ae e E' V' a' s',Kept E E' V V' a a'->At E' V' s' a' nt->qB E' ae e->Φ ae s'->Q e a' V')->dD lv P r all Q (Vd k n) a V
 |0,k,s,hk,h,E,V,a,Q,aj,hQ=>by
  have:all.toList.drop k=[]:=by simp;omega
  rw[this]at h;exact hQ .normal .normal E V a s (Kept.refl E V a) aj trivial h
 |n+1,k,s,hk,h,E,V,a,Q,aj,hQ=>by
  have hlt:k<all.size:=by omega
  have hd:all.toList.drop k=all[k]::all.toList.drop (k+1):=by
   rw[UY (by simpa using hlt)];simp
  rw[hd]at h;have gk:all[k]∈all:=YV hlt;have ho:all[k]?=some all[k]:=Tn hlt;simp only[W9,dD,ho];obtain⟨hg,h⟩:=h;have hw:Up all[k] (yielded all a.tmps)=true:=by unfold Up;rw[hg]
  rw[if_pos hw];refine .inl (h E V a _ Q aj.bB aj.tok (λd e=>by rw[aj.size];exact dF _ gk d e) (oc _ gk) (λE' V' a' s' aI bw mN hn=> ?_) (λE' V' s' pv v aI bw mN bx hb=> ?_))
  ·exact ae1 dF oc n (k+1) s' (by omega) hn E' V' a' Q ⟨bw,mN,aI.size.trans aj.size⟩ (λae e bY aV cD dA gC dw he hΦ=>hQ ae e bY aV cD dA (aI.trans gC) dw he hΦ)
  ·exact hQ (.panic pv) (.panic _) E' V' a s' aI ⟨bw,mN,aj.size⟩ ⟨v,rfl,bx⟩ hb
def ahX{nt id:Nat}{ops:SK}{Φ:SI}(hd:j8 nt ops=true)(h:C3 lv P r ops.toList s (Φ .normal) (λpv s=>Φ (.panic pv) s)):aS lv P r nt (.region id ops false) s Φ:=by
 intro E V a Q aj hQ;refine wp_region ?_;rw[WE];exact ae1 (Φ:=Φ) (λo ho d e=>(j8.out hd ho).1 d e) (λo ho=> .inr (j8.out hd ho).2) ops.size 0 s (by omega) (by simpa using h) E V a Q aj hQ
end
section
variable {lv:Bool}{P:Tl}{r:SL}{o:Vo}{s:AS}{next:SV}{bad:AV->SV}
def KC{nt id:Nat}{c:U_}{l:SC}{el:TypeId}{Φ:SI}(cg:s.H[id]?=some (.cells l el))(h:aS lv P r nt c ⟨s.T,s.H.set id (.part l.length l el)⟩ Φ):aS lv P r nt c s Φ:=λE V a Q aj hQ=>by
 have hc:=aj.bB;obtain⟨⟨cs,eW,hd⟩,lF⟩:=hc.obj id _ cg;have g:ey V (V.fe (E.blk id) cs (λo=>decide (o<l.length))):=yV eW (λo _=>lF o);refine WP.ghost g ?_;have hI:∀b o v,E.I b o=some v->(V.fe (E.blk id) cs (λo=>decide (o<l.length))).ai b o=some v:=λb o v e=>by
  rw[hc.I]at e;have hb:b≠E.blk id:=λhb=>by rw[hb,lF]at e;cases e
  simp only[View.fe];rw[if_neg (λx=>hb x.1)];exact e
 have hle:E.Le {E with I:=(V.fe (E.blk id) cs (λo=>decide (o<l.length))).ai}:=⟨hI,Ts _,λ_ _=>rfl,λ_ _=>Ts _,λ_ _ _ _=>rfl,rfl,rfl⟩;have bZ:Conc {E with I:=(V.fe (E.blk id) cs (λo=>decide (o<l.length))).ai} (V.fe (E.blk id) cs (λo=>decide (o<l.length))) (s.H.set id (.part l.length l el)):=by
  refine hc.ja id _ hle rfl (by rw[UM];exact hc.n) lQ rfl (λ_ _ _=>rfl) (λb y fS hy=>⟨hy,λo=> ?_⟩) ⟨⟨cs,eW,(hd.mono hle).p,λo ho=> ?_⟩,λo ho=> ?_⟩ (λb hb=> .inl ⟨_,cg,hb⟩)
  ·have hb:b≠E.blk id:=λhb=>fS _ cg (by rw[hb];rfl);simp only[View.fe];rw[if_neg (λx=>hb x.1)]
  ·simp only[View.fe];rw[if_pos ⟨trivial,by simpa using ho⟩]
  ·simp only[View.fe];rw[if_neg (λx=>by have:=x.2;simp at this;omega)];exact lF o
 exact h _ _ a Q ⟨bZ,aj.tok.mono hle,aj.size⟩ λae e E' aV a' s' hk=>hQ ae e E' aV a' s' ((⟨hle,rfl,rfl,rfl,rfl⟩:Kept E _ V (V.fe (E.blk id) cs (λo=>decide (o<l.length))) a a).trans hk)
def AG (H:SA)(b a:AV):Prop:=∀E V v,Conc E V H->au E b v->au E a v
def AG.of{H:SA}{b a:AV}(h:Wk b a):AG H b a:=λE _ v _ d=>h E v d
def JR{H:SA}{id n cap m p:Nat}{l:SC}{el:TypeId}(cg:H[id]?=some (.part p l el))(hm:m<=p)(hp:p<=l.length):AG H (.bC id 0 n cap) (.sl n (l.take m) .shut):=λE V v hc hd=>by
 cases hd with
 |bC hi eo=>
  rename_i cap';obtain⟨⟨cs,ho,HP,vP⟩,_⟩:=hc.obj id _ cg;refine .sl (E.blk id) 0 cap' (λi=>cs.getD i undef) eo.1 trivial (λi cI=> ?_) (λi x hx=> ?_)
  ·rw[Ux]at cI;have hlt:i<cs.size:=(by have:=HP.1;omega);rw[hc.I,Xv,vP i (by omega),Ti,Tn hlt];rfl
  ·rw[Vm]at hx;split at hx
   ·exact HP.2 i x hx
   ·cases hx
def KE{nt id j:Nat}{c:U_}{l:SC}{x y:AV}{el:TypeId}{Φ:SI}(cg:s.H[id]?=some (.cells l el))(hj:l[j]?=some x)(hw:AG s.H x y)(h:aS lv P r nt c ⟨s.T,s.H.set id (.cells (l.set j y) el)⟩ Φ):aS lv P r nt c s Φ:=λE V a Q aj hQ=>by
 have hc:=aj.bB;obtain⟨⟨cs,eW,hd⟩,lF⟩:=hc.obj id _ cg;have bZ:Conc E V (s.H.set id (.cells (l.set j y) el)):=
  hc.ja id _ (Env.Le.refl _) hc.I (by rw[hc.n,UM]) lQ rfl (λ_ _ _=>rfl) (λb y _ hy=>⟨hy,λ_=>rfl⟩) ⟨⟨cs,eW,Sr hd hj (λv d=>hw E V v hc d)⟩,lF⟩ (λb dO=> .inl ⟨_,cg,dO⟩)
 exact h E V a Q ⟨bZ,aj.tok,aj.size⟩ hQ
def RA{nt t:Nat}{c:U_}{x y:AV}{Φ:SI}(ht:look s.T t=some x)(hw:AG s.H x y)(h:aS lv P r nt c ⟨(t,y)::s.T,s.H⟩ Φ):aS lv P r nt c s Φ:=λE V a Q aj hQ=>by
 refine h E V a Q ⟨aj.bB,λt' b e=> ?_,aj.size⟩ hQ;simp only[look]at e;split at e
 ·rename_i e';subst e';cases e;exact⟨(aj.tok t x ht).1,hw E V _ aj.bB (aj.tok t x ht).2⟩
 ·exact aj.tok t' b e
end
open Go.Proofs Go.Gg.Tk
def iQ (τ:bp)(n:Nat):Nat->SD×bp
 |0=>(UP n 0,τ)
 |i+1=>(((iQ τ n i).1.set i ((iQ τ n i).1.getD (dt (iQ τ n i).2 i).toNat 0)).set (dt (iQ τ n i).2 i).toNat i,tick (iQ τ n i).2)
def B7(τ:bp)(n:Nat):∀i,(iQ τ n i).1.length=n
 |0=>ZG
 |i+1=>by rw[iQ,UM,UM,B7 τ n i]
def I4{τ:bp}{b:Int}(h:τ.Ok b)(n:Nat):∀i:Nat,(iQ τ n i).2.Ok (b+i)
 |0=>h.mono (by simp)
 |i+1=>(I4 h n i).tick.mono (by simp;omega)
def aga(n:Nat):gZ (Th .i64 0) n=(UP n (0:Int)).map iv:=by
 have h:∀i∈T1 n,AV.qu ((Th Tg 0).cells[i % (Th Tg 0).cells.size]!)=iv 0:=λi _=>by
  rw[show (Th Tg 0).cells.size=1 from rfl,Nat.mod_one];rfl
 rw[List.map_replicate];unfold gZ;rw[WR h,List.map_const',Y4]
section
variable {lv:Bool}{k kp:SF}{Gf:bp->SA}{t N:Nat}{τ:bp}{b:Int}
def aaE{n:Nat}(hT:dU Gf t N)(hτ:τ.Ok b)(hb:b<2^30)(hn:n<=2^20)(hk:k (aO (iQ τ n n).1) (Gf (iQ τ n n).2)):ba lv S_ 37 (Gf τ) [.op t 0,iv n] k kp:=by
 refine bH (rs:=[.tmp 4]) (nt:=30) Tryz.f37 λhH hA=> ?_;simp only[bm,Tu];have vE:∀o:aa,dU (λτ=>Gf τ++[o]) t (N+1):=λo=>hT.more [o];refine ah ?_;refine ab ?_;simp only[seval,aga,hT.len];refine⟨by omega,by omega,?_⟩;refine ah ?_;refine bF ?_;refine ej n (λi:Nat=>[(6,iv i)]) (λi=>Gf (iQ τ n i).2++[.cells ((iQ τ n i).1.map iv) 3]) (λ_=>True) (λ_ _=>rfl) (by simp only[seval];simp[bh,Wk.refl]) rfl (λ_ _ _=>by simp[hT.len]) trivial (λbz bE i ce hi R hR=> ?_);clear bz bE;refine ah ?_;refine aB ?_;refine⟨λh=> ?_,λh=> ?_⟩
 ·have bk:i<n:=by omega
  have aq:=I4 hτ n i;have hlen:=B7 τ n i;have v9:Tg.wrap ((i:Int)+1)=i+1:=a_ _ (by omega);have cU:iQ τ n (i+1)=(((iQ τ n i).1.set i ((iQ τ n i).1.getD (dt (iQ τ n i).2 i).toNat 0)).set (dt (iQ τ n i).2 i).toNat i,tick (iQ τ n i).2):=rfl;generalize iQ τ n i=m at aq hlen cU⊢;obtain⟨l,σ⟩:=m;simp only at aq hlen cU;have hr:=lV σ i;refine aE ?_;refine ah ?_;refine aG (pP (vE _) aq (by omega) (by omega) ?_);(try simp only[seval]);generalize dt σ i=u at hr cU⊢;obtain⟨u,rfl⟩:∃w:Nat,u=w:=⟨u.toNat,by omega⟩;rw[WU]at cU;have hul:u<n:=by omega
  obtain⟨a,ha⟩:=bA (xs:=l) (i:=u) (by omega);have M1:l.getD u 0=a:=by rw[Tf,ha];rfl
  rw[M1]at cU;obtain⟨a2,D5⟩:=bA (xs:=l) (i:=i) (by omega);have Ia:(i+1<=l.length)=True:=by simp;omega
  have hou:(u+1<=(l.set i a).length)=True:=by simp;omega
  refine ab ?_;simp only[seval,jx bk,jx hul,hT.len,hT.g0,hT.g1,hT.g2,hT.g3,hT.h2,hT.h3,hT.s0,hT.s1,hT.s2,hT.s3,hT.t2,hT.t3,ky ha,Ue,Ia,ya (y:=a) (show i<l.length by omega)];refine ab ?_;simp only[seval,jx hul,hT.len,hT.g0,hT.g1,hT.g2,hT.g3,hT.h2,hT.h3,hT.s0,hT.s1,hT.s2,hT.s3,hT.t2,hT.t3,Ue,hou,ya (xs:=l.set i a) (y:=i) (show u<(l.set i a).length by simp;omega)];refine ab ?_;simp only[seval,v9];refine hR _ ⟨bk,trivial,?_⟩;rw[cU];exact bX
 ·have jl:i=n:=by omega
  subst jl;clear hR;refine bD ?_;have hlen:=B7 τ i i;generalize iQ τ i i=m at hlen hk⊢;obtain⟨l,σ⟩:=m;simp only at hlen hk
  (repeat apply fu);refine KC (id:=N) (by simp only[seval,hT.len,hT.g0,hT.g1,hT.g2,hT.g3,hT.h2,hT.h3,hT.s0,hT.s1,hT.s2,hT.s3,hT.t2,hT.t3]<;>rfl) ?_
  simp only[seval,hT.len,hT.g0,hT.g1,hT.g2,hT.g3,hT.h2,hT.h3,hT.s0,hT.s1,hT.s2,hT.s3,hT.t2,hT.t3]
  (repeat apply fu);refine RA (t:=5) (y:=aO l) (by simp only[seval]<;>rfl) ?_ ?_
  ·have e:aO l=.sl i ((l.map iv).take i) .shut:=by
    rw[Tx (by simp;omega),aO,hlen]
   rw[e];exact JR (p:=l.length) (by simp only[seval,hT.len,hT.g0,hT.g1,hT.g2,hT.g3,hT.h2,hT.h3,hT.s0,hT.s1,hT.s2,hT.s3,hT.t2,hT.t3]<;>rfl) (by omega) (by simp)
  refine ah ?_;refine aT ?_;exact jS (b:=aO l) (H':=Gf σ) (G:=[.part l.length (l.map iv) 3]) (Wk.refl _) rfl (by simp[hT.len]) (hT.aq hH σ) (by rw[xU];trivial) hk
end
structure Ki (p:SD)(n:Nat):Prop where
 len:p.length=n
 nodup:p.Nodup
 Jt:∀v∈p,0<=v/\v<(n:Int)
def set_perm{t:SD}{k:Nat}{a b:Int}(h:t[k]?=some a):(t.set k b++[a]).Perm (t++[b]):=by
 obtain⟨hk,rfl⟩:=Tq.1 h;have e:t=t.take k++t[k]::t.drop (k+1):=by rw[<- UY hk,Ww]
 rw[YO,if_pos hk]
 conv=>rhs;rw[e]
 rw[List.perm_iff_count];intro v;simp only[List.count_append,List.count_cons,List.count_nil];omega
def ady(τ:bp)(n:Nat):∀i:Nat,i<=n->((iQ τ n i).1.take i).Nodup/\∀v∈(iQ τ n i).1.take i,0<=v/\v<(i:Int)
 |0,_=>by simp
 |i+1,hi=>by
  obtain⟨h1,h2⟩:=ady τ n i (by omega);have hlen:=B7 τ n i;rw[iQ];generalize iQ τ n i=m at h1 h2 hlen⊢;obtain⟨l,σ⟩:=m;simp only at h1 h2 hlen⊢;have hr:=lV σ i;generalize dt σ i=u at hr⊢;obtain⟨k,rfl⟩:∃w:Nat,u=w:=⟨u.toNat,by omega⟩;rw[WU];obtain⟨a,ha⟩:=bA (xs:=l) (i:=k) (by omega);obtain⟨c,hc⟩:=bA (xs:=l) (i:=i) (by omega);have M1:l.getD k 0=a:=by rw[Tf,ha];rfl
  have xN:(l.take i).length=i:=by rw[Ux];omega
  have hp:(((l.set i a).set k (i:Int)).take (i+1)).Perm (l.take i++[(i:Int)]):=by
   rw[axg,axg,UZ,hc];show ((((l.take i)++[c]).set i a).set k (i:Int)).Perm _;rw[Va _ _ (by omega),xN,Ws];show (((l.take i)++[a]).set k (i:Int)).Perm _;by_cases e:k=i
   ·subst e;rw[Va _ _ (by omega),xN,Ws];exact axs _
   ·rw[VX _ _ (by omega)];exact set_perm (by rw[Vm,if_pos (by omega)];exact ha)
  rw[M1];refine⟨(axV hp).2 ?_,λv hv=> ?_⟩
  ·exact V_.2 ⟨h1,by simp,λx hx y hy e=>by
    have:=h2 x hx;simp at hy;omega⟩
  ·rcases Tv.1 (hp.mem_iff.1 hv)with hv|hv
   ·have:=h2 v hv;omega
   ·simp at hv;omega
def adz(τ:bp)(n:Nat):Ki (iQ τ n n).1 n:=by
 obtain⟨h1,h2⟩:=ady τ n n (Ts _);rw[Tx (by rw[B7];exact Ts _)]at h1 h2;exact⟨B7 τ n n,h1,h2⟩
def Df{τ:bp}{n m lo hi:Int}(hn:lo<=n/\n<=hi)(p7:0<=lo):tE (nP τ n m lo hi) hi/\iq (nP τ n m lo hi) n=true:=by
 have r1:=lV τ m;have r2:=lV (tick τ) m;unfold nP;refine⟨⟨?_,?_,?_⟩,?_⟩
 ·dsimp only;omega
 ·dsimp only;omega
 ·dsimp only;omega
 ·unfold iq;rw[Uh,decide_eq_true_eq,decide_eq_true_eq];dsimp only;omega
def Ll(τ:bp){ns:SD}(h:ns≠[]):xc τ ns∈ns:=by
 unfold xc;have hl:0<ns.length:=Wp.2 h;have r:=lV τ ((ns.length:Int)-1);have hi:(dt τ ((ns.length:Int)-1)).toNat<ns.length:=by omega
 rw[Tf,Tw hi];exact W_ hi
def yc (τ:bp)(am:Int):Int:=xc (tick τ) [0,am,dt τ am]
def afa(τ:bp){am:Int}(h:0<=am):0<=yc τ am/\yc τ am<=am:=by
 have r:=lV τ am;have:=Ll (tick τ) (ns:=[0,am,dt τ am]) (by simp);unfold yc;simp only[Tm,T7,or_false]at this;omega
def lG (τ:bp)(first am:Int):Nat->SD×bp
 |0=>([first],τ)
 |i+1=>((lG τ first am i).1++[(lG τ first am i).1.getD i 0+yc (lG τ first am i).2 am],tick (tick (lG τ first am i).2))
structure nF (first am:Int)(l:SD)(i:Nat):Prop where
 len:l.length=i+1
 head:l.getD 0 0=first
 step:∀j,j<i->l.getD j 0<=l.getD (j+1) 0/\l.getD (j+1) 0<=l.getD j 0+am
def xg{l:SD}{v:Int}{j:Nat}(h:j<l.length):(l++[v]).getD j 0=l.getD j 0:=by
 rw[Tf,Tf,T4 h]
def abj{l:SD}{v:Int}{j:Nat}(h:l.length=j):(l++[v]).getD j 0=v:=by
 subst h;rw[Tf,Ud (Ts _),Ws];rfl
def ab1(τ:bp)(first:Int){am:Int}(h:0<=am):∀i,nF first am (lG τ first am i).1 i
 |0=>⟨rfl,rfl,λj hj=>by omega⟩
 |i+1=>by
  have ih:=ab1 τ first h i
  rw[lG];have hs:=afa (lG τ first am i).2 h;generalize yc (lG τ first am i).2 am=v at hs⊢;generalize(lG τ first am i).1=l at ih⊢;have hl:=ih.len;refine⟨by rw[Tt,hl];rfl,by rw[xg (by omega)];exact ih.head,λj hj=> ?_⟩;by_cases cE:j<i
  ·rw[xg (by omega),xg (by omega)];exact ih.step j cE
  ·have:j=i:=(by omega);subst this;rw[xg (by omega),abj (by omega)];omega
def ab2{τ:bp}{b:Int}(h:τ.Ok b)(first am:Int):∀i:Nat,(lG τ first am i).2.Ok (b+2* i)
 |0=>h.mono (by simp)
 |i+1=>(ab2 h first am i).tick.tick.mono (by simp;omega)
def nF.ge{first am:Int}{l:SD}{i:Nat}(h:nF first am l i)(hp:0<=am):∀j,j<=i->first<=l.getD j 0/\l.getD j 0<=first+am* j
 |0,_=>by rw[h.head];simp
 |j+1,hj=>by
  have ih:=h.ge hp j (by omega);have:=h.step j (by omega);have e:am* ((j+1:Nat):Int)=am* j+am:=by rw[Int.natCast_add,Int.mul_add];simp
  omega
def k_ (first:Int)(order:SD)(i:Nat):SD:=(T1 i).map λj=>first+order.getD j 0
def adL(first:Int)(order:SD)(i:Nat):k_ first order (i+1)=k_ first order i++[first+order.getD i 0]:=by
 unfold k_;rw[VW,Uq];rfl
def adK(first:Int)(order:SD)(i:Nat):(k_ first order i).length=i:=by simp[k_]
def kR (h:SD)(hours:Int)(num:Nat->Int)(τ:bp):Nat->List aD×bp
 |0=>([],τ)
 |i+1=>((kR h hours num τ i).1++[l7 (tick (kR h hours num τ i).2) h (num i) hours],tick (tick (tick (tick (tick (kR h hours num τ i).2)))))
def Bl(h:SD)(hours:Int)(num:Nat->Int)(τ:bp):∀i,(kR h hours num τ i).1.length=i
 |0=>rfl
 |i+1=>by rw[kR,Tt,Bl h hours num τ i];rfl
def MA{τ:bp}{b:Int}(hτ:τ.Ok b)(h:SD)(hours:Int)(num:Nat->Int):∀i:Nat,(kR h hours num τ i).2.Ok (b+5* i)
 |0=>hτ.mono (by simp)
 |i+1=>(MA hτ h hours num i).tick.tick.tick.tick.tick.mono (by simp;omega)
def td (h:SD)(hours:Int)(τ:bp):Nat->List Seen×bp
 |0=>([],τ)
 |i+1=>((td h hours τ i).1++[⟨dt (td h hours τ i).2 hours,nP (tick (td h hours τ i).2) (h.getD (dt (td h hours τ i).2 hours).toNat 0) 1 0 99⟩],tick (tick (tick (td h hours τ i).2)))
def aeC(h:SD)(hours:Int)(τ:bp):∀i,(td h hours τ i).1.length=i
 |0=>rfl
 |i+1=>by rw[td,Tt,aeC h hours τ i];rfl
def aeE{τ:bp}{b:Int}(hτ:τ.Ok b)(h:SD)(hours:Int):∀i:Nat,(td h hours τ i).2.Ok (b+3* i)
 |0=>hτ.mono (by simp)
 |i+1=>(aeE hτ h hours i).tick.tick.tick.mono (by simp;omega)
def aeD{h:SD}{hours:Int}{τ:bp}(hu:∀τ,0<=dt τ hours/\dt τ hours<=hours):∀i,∀s∈(td h hours τ i).1,0<=s.hour/\s.hour<=hours/\∃σ,s.next=nP σ (h.getD s.hour.toNat 0) 1 0 99
 |0,s,hs=>by cases hs
 |i+1,s,hs=>by
  rw[td]at hs;rcases Tv.1 hs with hs|hs
  ·exact aeD hu i s hs
  ·rw[Ub]at hs;subst hs;exact⟨(hu _).1,(hu _).2,_,rfl⟩
structure Gm (h:SD)(hours n:Int)(y:aD):Prop where
 num:tE y.number 99
 hour:tE y.hour (hours-1)
 fits:fits h y n=true
def My{h:SD}{hours:Int}{num:Nat->Int}{τ:bp}{P:Int->aD->Prop}(hP:∀τ n,P n (l7 τ h n hours)):∀i j y,(kR h hours num τ i).1[j]?=some y->P (num j) y
 |0,j,y,hy=>by cases hy
 |i+1,j,y,hy=>by
  rw[kR]at hy;have hl:=Bl h hours num τ i;by_cases hj:j<i
  ·rw[T4 (by omega)]at hy;exact My hP i j y hy
  ·rw[Ud (by omega),hl]at hy;have:j=i:=(by have:=(Tq.1 hy).1;simp at this;omega);subst this;rw[Ws]at hy;cases hy;exact hP _ _
section
variable {lv:Bool}{P:Tl}{r:SL}{s:AS}
def Dj{nt:Nat}{x y:U_}{α:Type}{Φ Ψ:SI}(inv:α->AS)(ok:α->Prop)(h1:aS lv P r nt x s (an.then (λs'=>∃a,ok a/\s'.Sub (inv a)) Ψ))(h2:∀a,ok a->aS lv P r nt y (inv a) Φ):aS lv P r nt x s (an.then (λs'=>aS lv P r nt y s' Φ) Ψ):=
 h1.mono λe s' h=>by
  cases e with
  |normal=>
   obtain⟨a,h3,h4⟩:=h;exact mB h4 (h2 a h3)
  |_=>exact h
end
def QS:gZ (Th .i64 0) 3=[iv 0,iv 0,iv 0]:=rfl
def zE4:gZ (Th .i64 0) 4=[iv 0,iv 0,iv 0,iv 0]:=rfl
def yk:gZ (UC #[Th .i64 0,Th .i64 0,Th .i64 0,Th .i64 0]) 4=[iv 0,iv 0,iv 0,iv 0]:=rfl
def zS1:gZ (UC #[Th .i64 0,Th .i64 0,Th .i64 0]) 3=[iv 0,iv 0,iv 0]:=rfl
def FK:(3<=2^24)=True:=eq_true (by decide)
def uO:(4<=2^24)=True:=eq_true (by decide)
def uN:(1<=2^24)=True:=eq_true (by decide)
def afX{first am w v:Int}{i:Nat}(h1:first<=w/\w<=first+am* i)(h2:0<=v/\v<=am)(hf:0<=first/\first<=90)(hp:1<=am/\am<=3)(hi:i<=3):0<=w+v/\w+v<=1000:=by
 have:am* (i:Int)<=3* 3:=axt (by omega) (by omega) (by omega) (by omega);generalize am* (i:Int)=q at h1 this;omega
def Og{n:Int}(h:0<=n/\n<=1000):Tg.wrap n=n:=a_ _ (by omega)
def Qt(h:SD)(n:Int):∀m:Nat, -1<=j3 h n m/\j3 h n m<m
 |0=>by simp[j3]
 |m+1=>by
  have:=Qt h n m;unfold j3;split
  ·omega
  ·omega
def LX:∀l:SY,(l.flatMap aD.l).length=l.length* 4
 |[]=>rfl
 |a::l=>by rw[UV,Tt,LX l,aD.len,Ve];omega
def aaY:∀l:List Seen,(l.flatMap Seen.l).length=l.length* 3
 |[]=>rfl
 |a::l=>by rw[UV,Tt,aaY l,Seen.len,Ve];omega
def LY{α:Type}{f:α->SC}{l:List α}{a:α}:(l++[a]).flatMap f=l.flatMap f++f a:=by rw[Vf];simp
def ap3{α:Type}{f:Nat->α}{l:List α}{n:Nat}(hl:l.length=n)(h:∀i,i<n->l[i]?=some (f i)):(T1 n).map f=l:=by
 refine Zo λi=> ?_;rw[Ut];by_cases hi:i<n
 ·rw[av' hi,VS,h i hi]
 ·rw[Vy (by simp;omega),Vy (by omega)];rfl
def QZ (a b:Nat):Prop:=(if(a:Int)<(b:Int)then(a:Int)else(b:Int))=((min b a:Nat):Int)
def adx(a b:Nat):QZ a b:=by unfold QZ;split<;>omega
structure Made (pm:Nat)(x:ak)(aK ap bR:SD):Prop where
 first:0<=x.first/\x.first<=90
 hours:1<=x.hours/\x.hours<=3
 am:1<=x.am/\x.am<=3
 HY:nF x.first x.am aK x.hours.toNat
 aqf:x.pieces.length<=pm
 sX:ap.length=x.pieces.length
 num:∀n∈ap,x.first<=n/\n<aK.getD x.hours.toNat 0
 I6:ap.Nodup
 piece:∀(p:Nat) y,x.pieces[p]?=some y->∃τ,y=l7 τ aK (ap.getD p 0) x.hours
 z8:bR.length=x.aC.length
 aC:x.aC.length<=3
 own:∀v∈bR,0<=v/\v<(ap.length:Int)
 Pm:bR.Nodup
 stub:∀(s:Nat) y,x.aC[s]?=some y->∃τ,y=l7 τ aK (ap.getD (bR.getD s 0).toNat 0) x.hours
 Ad:x.seen.length<=2
 seen:∀s∈x.seen,0<=s.hour/\s.hour<=x.hours/\∃τ,s.next=nP τ (aK.getD s.hour.toNat 0) 1 0 99
structure YOk (Gf:bp->SA)(N:Nat)(zc:aa)(YY:SC->Nat->Nat->Nat->Nat->Nat->SA):Prop where
 len:∀r a b c d e,(YY r a b c d e).length=8
 y0:∀τ r a b c d e,(Gf τ++YY r a b c d e)[N]?=some zc
 y1:∀τ r a b c d e,(Gf τ++YY r a b c d e)[N+1]?=some (.cells r 26)
 y3:∀τ r a b c d e,(Gf τ++YY r a b c d e)[N+3]?=some (.tail a 4 48)
 y4:∀τ r a b c d e,(Gf τ++YY r a b c d e)[N+4]?=some (.tail b 4 48)
 y5:∀τ r a b c d e,(Gf τ++YY r a b c d e)[N+5]?=some (.tail c 3 61)
 y6:∀τ r a b c d e,(Gf τ++YY r a b c d e)[N+6]?=some (.tail d 1 3)
 y7:∀τ r a b c d e,(Gf τ++YY r a b c d e)[N+7]?=some (.tail e 1 3)
 z1:∀τ r r' a b c d e,(Gf τ++YY r a b c d e).set (N+1) (.cells r' 26)=Gf τ++YY r' a b c d e
 z3:∀τ r a a' b c d e,(Gf τ++YY r a b c d e).set (N+3) (.tail a' 4 48)=Gf τ++YY r a' b c d e
 z4:∀τ r a b b' c d e,(Gf τ++YY r a b c d e).set (N+4) (.tail b' 4 48)=Gf τ++YY r a b' c d e
 z5:∀τ r a b c c' d e,(Gf τ++YY r a b c d e).set (N+5) (.tail c' 3 61)=Gf τ++YY r a b c' d e
 z6:∀τ r a b c d d' e,(Gf τ++YY r a b c d e).set (N+6) (.tail d' 1 3)=Gf τ++YY r a b c d' e
 s0:∀r a b c d e y,∃L,(YY r a b c d e).set 0 y=y::L
 z7:∀τ r a b c d e e',(Gf τ++YY r a b c d e).set (N+7) (.tail e' 1 3)=Gf τ++YY r a b c d e'
noncomputable def oO:U_:=Yk.body.getD .skip
def jf:Nat->U_->U_
 |0,c=>c
 |n+1,c=>jf n (cs c)
section
variable {lv:Bool}{P:Tl}{r:SL}{o:Vo}{s:AS}{next:SV}{bad:AV->SV}
def ahU{nt id sz:Nat}{c:U_}{l:SC}{el:TypeId}{Φ:SI}(cg:s.H[id]?=some (.own sz l el))(h:aS lv P r nt c ⟨s.T,s.H.set id (.part l.length l el)⟩ Φ):aS lv P r nt c s Φ:=λE V a Q aj hQ=>by
 have hc:=aj.bB;obtain⟨⟨cs,eW,hd,_⟩,lF⟩:=hc.obj id _ cg;have g:ey V (V.fe (E.blk id) cs (λo=>decide (o<l.length))):=yV eW (λo _=>lF o);refine WP.ghost g ?_;have hI:∀b o v,E.I b o=some v->(V.fe (E.blk id) cs (λo=>decide (o<l.length))).ai b o=some v:=λb o v e=>by
  rw[hc.I]at e;have hb:b≠E.blk id:=λhb=>by rw[hb,lF]at e;cases e
  simp only[View.fe];rw[if_neg (λx=>hb x.1)];exact e
 have hle:E.Le {E with I:=(V.fe (E.blk id) cs (λo=>decide (o<l.length))).ai}:=⟨hI,Ts _,λ_ _=>rfl,λ_ _=>Ts _,λ_ _ _ _=>rfl,rfl,rfl⟩;have bZ:Conc {E with I:=(V.fe (E.blk id) cs (λo=>decide (o<l.length))).ai} (V.fe (E.blk id) cs (λo=>decide (o<l.length))) (s.H.set id (.part l.length l el)):=by
  refine hc.ja id _ hle rfl (by rw[UM];exact hc.n) lQ rfl (λ_ _ _=>rfl) (λb y fS hy=>⟨hy,λo=> ?_⟩) ⟨⟨cs,eW,hd.mono hle,λo ho=> ?_⟩,λo ho=> ?_⟩ (λb hb=> .inl ⟨_,cg,hb⟩)
  ·have hb:b≠E.blk id:=λhb=>fS _ cg (by rw[hb];rfl);simp only[View.fe];rw[if_neg (λx=>hb x.1)]
  ·simp only[View.fe];rw[if_pos ⟨trivial,by simpa using ho⟩]
  ·simp only[View.fe];rw[if_neg (λx=>by have:=x.2;simp at this;omega)];exact lF o
 exact h _ _ a Q ⟨bZ,aj.tok.mono hle,aj.size⟩ λae e E' aV a' s' hk=>hQ ae e E' aV a' s' ((⟨hle,rfl,rfl,rfl,rfl⟩:Kept E _ V (V.fe (E.blk id) cs (λo=>decide (o<l.length))) a a).trans hk)
end
section
variable {lv:Bool}{P:Tl}{r:SL}{s:AS}
def ahS{nt:Nat}{α:Type}{lt:α->α->Prop}(wf:WellFounded lt){c:U_}{Φ:SI}(V:α->SH)(Hf:α->SA)(ok:α->Prop)(m0:α)
  (vU:∀m m',(V m).map (·.1)=(V m').map (·.1)) (ii:∀p∈V m0,∃b,look s.T p.1=some b/\Wk b p.2) (vC:Hf m0=s.H) (hl:∀m,ok m->s.H.length<=(Hf m).length) (hm:ok m0)
  (h:bJ s.H->(∀t a,look s.T t=some a->Lt s.H.length a)->∀m,ok m->∀R:SV,(∀s',(∃m',lt m' m/\ok m'/\rQ s.T (V m) (V m') (Hf m') s')->R s')->aS lv P r nt c ⟨V m++s.T,Hf m⟩ (an.then R Φ)):aS lv P r nt (.loop c) s Φ:=by
 have same:∀m m' t,look (V m) t=none->look (V m') t=none:=λm m' t h=>OZ λp hp e=>by
  have h1:p.1∈(V m').map (·.1):=Uo.2 ⟨p,hp,rfl⟩;rw[vU m' m]at h1;obtain⟨q,hq,e'⟩:=Uo.1 h1;have h2:((V m).any λx=>x.1==t)=true:=U5.2 ⟨q,hq,by simp[e',e]⟩;obtain⟨a,ha⟩:=OY h2;rw[h]at ha;cases ha
 intro E V0 a Q aj hQ;have hlt:∀t a,look s.T t=some a->Lt s.H.length a:=λt x e=>by rw[<- aj.bB.n];exact(aj.tok t x e).2.lt
 have h0:s.Sub ⟨V m0++s.T,Hf m0⟩:=⟨λt x e=>by
  rw[wu]at e;cases hl:look (V m0) t with
  |none=>rw[hl]at e;exact⟨x,e,Wk.refl x⟩
  |some y=>rw[hl]at e;cases e;exact ii (t,x) (po hl),vC.symm⟩
 refine Ru wf (s:=s) (λm=>⟨V m++s.T,Hf m⟩) ok m0 h0 hm hl (λm aq=> ?_) E V0 a Q aj hQ;refine(h aj.bB.aq hlt m aq _ λ_ h=>h).mono λe s' hΦ=> ?_;cases e with
 |normal=>
  obtain⟨m',q1,q2,hk,hv,G,hG,ui⟩:=hΦ;have tok:∀t x,look (V m'++s.T) t=some x->∃b,look s'.T t=some b/\Wk b x/\(look (V m') t=some x\/look s.T t=some x):=λt x e=>by
   rw[wu]at e;cases hl:look (V m') t with
   |none=>
    rw[hl]at e;have hb:look (V m++s.T) t=some x:=(by rw[wu,same m' m t hl];exact e);exact⟨x,hk.look hb hl,Wk.refl x,.inr e⟩
   |some y=>
    rw[hl]at e;cases e;obtain⟨b,h1,h2⟩:=hv (t,x) (po hl);exact⟨b,h1,h2,.inl rfl⟩
  refine⟨m',q1,q2,?_⟩;rcases ui with rfl|⟨oq,Nn⟩
  ·exact .inl ⟨λt x e=>by obtain⟨b,h1,h2,_⟩:=tok t x e;exact⟨b,h1,h2⟩,by rw[hG,To]⟩
  ·refine .inr ⟨λt x e=> ?_,⟨G,hG⟩,oq⟩;obtain⟨b,h1,h2,h3⟩:=tok t x e;refine⟨b,h1,h2,?_⟩;rcases h3 with h3|h3
   ·exact Nn (t,x) (po h3)
   ·show Lt (Hf m').length x;exact(hlt t x h3).mono (hl m' q2)
 |_=>exact hΦ
def Rs{nt:Nat}{c:U_}{Φ:SI}(n:Nat)(V:Nat->SH)(Hf:Nat->SA)(ok:S7)
  (vU:∀m m',(V m).map (·.1)=(V m').map (·.1)) (ii:∀p∈V 0,∃b,look s.T p.1=some b/\Wk b p.2) (vC:Hf 0=s.H) (hl:∀m,m<=n->ok m->s.H.length<=(Hf m).length) (hm:ok 0)
  (h:bJ s.H->(∀t a,look s.T t=some a->Lt s.H.length a)->∀m,m<=n->ok m->∀R:SV,(∀s',(m<n/\ok (m+1)/\rQ s.T (V m) (V (m+1)) (Hf (m+1)) s')->R s')->aS lv P r nt c ⟨V m++s.T,Hf m⟩ (an.then R Φ)):aS lv P r nt (.loop c) s Φ:=by
 refine ahS (measure λi=>n-i).wf V Hf (λi=>i<=n/\ok i) 0 vU ii vC (λm h=>hl m h.1 h.2) ⟨YX _,hm⟩ (λh1 h2 m aq R hR=> ?_);exact h h1 h2 m aq.1 aq.2 R λs' ⟨q1,q2,q3⟩=>hR s' ⟨m+1,(by show n-(m+1)<n-m;omega),⟨q1,q2⟩,q3⟩
end
def gO:Nat->aa->SA
 |0,_=>[]
 |n+1,o=>UP n .gone++[o]
def yU:∀(n:Nat)(o:aa),(gO n o).length=n
 |0,_=>rfl
 |n+1,o=>by simp[gO]
def DI(n:Nat)(o:aa)(R:SA):(gO (n+1) o++R)[n]?=some o:=by
 rw[T4 (by rw[yU];omega),gO,Ud (by simp)];simp
def DJ(n:Nat)(o o':aa)(R:SA):(gO (n+1) o++R).set n o'=gO (n+1) o'++R:=by
 rw[VX _ _ (by rw[yU];omega),gO,Va _ _ (by simp)];simp[gO]
def abi(n:Nat)(o:aa):gO (n+1) .gone++[o]=gO (n+2) o:=by
 simp only[gO,List.replicate_succ']
def fY (j n:Nat):AV:=match n with
 |0=> .sl 0 [] .exact
 |n+1=> .bC (j+n) 0 (n+1) 0
def gp (l:SY):aa:=.own 4 (l.flatMap aD.l) 48
structure YW (Gf:bp->SA)(N:Nat)(zc:aa)(YY:SC->Nat->Nat->Nat->SA):Prop where
 len:∀r c d e,(YY r c d e).length=6
 n:∀τ r c d e G,(Gf τ++(YY r c d e++G)).length=N+6+G.length
 y0:∀τ r c d e G,(Gf τ++(YY r c d e++G))[N]?=some zc
 y1:∀τ r c d e G,(Gf τ++(YY r c d e++G))[N+1]?=some (.cells r 26)
 y3:∀τ r c d e G,(Gf τ++(YY r c d e++G))[N+3]?=some (.tail c 3 61)
 y4:∀τ r c d e G,(Gf τ++(YY r c d e++G))[N+4]?=some (.tail d 1 3)
 y5:∀τ r c d e G,(Gf τ++(YY r c d e++G))[N+5]?=some (.tail e 1 3)
 z1:∀τ r r' c d e G,(Gf τ++(YY r c d e++G)).set (N+1) (.cells r' 26)=Gf τ++(YY r' c d e++G)
 z3:∀τ r c c' d e G,(Gf τ++(YY r c d e++G)).set (N+3) (.tail c' 3 61)=Gf τ++(YY r c' d e++G)
 z4:∀τ r c d d' e G,(Gf τ++(YY r c d e++G)).set (N+4) (.tail d' 1 3)=Gf τ++(YY r c d' e++G)
 z5:∀τ r c d e e' G,(Gf τ++(YY r c d e++G)).set (N+5) (.tail e' 1 3)=Gf τ++(YY r c d e'++G)
 w:∀τ r c d e G m,(Gf τ++(YY r c d e++G))[N+6+m]?=G[m]?
 v:∀τ r c d e G m y,(Gf τ++(YY r c d e++G)).set (N+6+m) y=Gf τ++(YY r c d e++G.set m y)
 s0:∀r c d e y,∃L,(YY r c d e).set 0 y=y::L
section
variable {Gf:bp->SA}{N:Nat}{zc:aa}{YY:SC->Nat->Nat->Nat->SA}(h:YW Gf N zc YY)
include h
def YW.n0(τ r c d e):(Gf τ++YY r c d e).length=N+6:=by have:=h.n τ r c d e [];rwa[To]at this
def YW.w0(τ r c d e G):(Gf τ++(YY r c d e++G))[N+6]?=G[0]?:=h.w τ r c d e G 0
def YW.Aq(τ r c d e):(Gf τ++YY r c d e)[N+1]?=some (.cells r 26):=by have:=h.y1 τ r c d e [];rwa[To]at this
def YW.Ar(τ r r' c d e):(Gf τ++YY r c d e).set (N+1) (.cells r' 26)=Gf τ++YY r' c d e:=by have:=h.z1 τ r r' c d e [];rwa[To,To]at this
end
def avy{Gf:bp->SA}{t N:Nat}{zc o2:aa}{YY:SC->Nat->Nat->Nat->SA}(hT:dU Gf t N)(h:∀r c d e,YY r c d e=[zc,.cells r 26,o2,.tail c 3 61,.tail d 1 3,.tail e 1 3]):YW Gf N zc YY:=by
 have ow:∀τ (L:SA)(j:Nat),(Gf τ++L)[N+j]?=L[j]?:=λτ L j=>by rw[<- hT.len τ,aW]
 have dz:∀τ (L:SA)(j:Nat)(y:aa),(Gf τ++L).set (N+j) y=Gf τ++L.set j y:=λτ L j y=>by rw[<- hT.len τ,dB]
 have hl:∀r c d e,(YY r c d e).length=6:=λr c d e=>by rw[h];rfl
 refine⟨hl,λτ r c d e G=>by rw[Tt,Tt,hl,hT.len];omega,λτ r c d e G=> ?_,λτ r c d e G=>by rw[ow,h];rfl,λτ r c d e G=>by rw[ow,h];rfl,λτ r c d e G=>by rw[ow,h];rfl,λτ r c d e G=>by rw[ow,h];rfl,λτ r r' c d e G=>by rw[dz,h,h];rfl,λτ r c c' d e G=>by rw[dz,h,h];rfl,λτ r c d d' e G=>by rw[dz,h,h];rfl,λτ r c d e e' G=>by rw[dz,h,h];rfl,λτ r c d e G m=> ?_,λτ r c d e G m y=> ?_,λr c d e y=>⟨_,by rw[h];rfl⟩⟩
 ·have:=ow τ (YY r c d e++G) 0;rw[VA]at this;rw[this,h];rfl
 ·rw[Wa,ow,Ud (by rw[hl];omega),hl,US]
 ·rw[Wa,dz,Va _ _ (by rw[hl];omega),hl,US]
section
variable {lv:Bool}{k kp:SF}{Gf:bp->SA}{t N:Nat}{b:Int}
def akn{pm i mn:Nat}{first am:Int}{l order:SD}{ρ:bp}{zc:aa}{YY:SC->Nat->Nat->Nat->SA}{hz:Bool}{Ψ:SI}(hT:dU Gf t N)(hY:YW Gf N zc YY)(hH:∀τ,bJ (Gf τ))(hb:b<2^10)(ur:pm<=4)(hi:1<=i/\i<=3)(oY:0<=first/\first<=90)(fI:l.length=i+1)(Nr:mn<=9)(rh:Ki order mn)(rk:ρ.Ok (b+19)):
  aS lv S_ none 240 (cs (cf (jf 7 oO))) ⟨[(17,iv 0),(16,.sl 0 [] (.opn (N+5))),(15,.sl 0 [] (.opn (N+4))),(14,aO order),(13,iv mn),(11,.sl (i+1) (l.map iv) (.opn (N+2))),(10,.op (N+1) 0),(6,.op N 0),(0,.op t 0),(1,iv pm),(2,bv hz)],Gf ρ++YY [iv first,iv i,iv am,.sl 0 [] (.opn (N+3)),.sl 0 [] .exact,.sl 0 [] .exact] 0 0 0⟩ (an.then (λs'=>∃y:Nat×bp,(y.1<=pm/\y.1<=mn/\y.2.Ok (b+60))/\s'.Sub ⟨[(16,.sl 0 [] (.opn (N+5))),(15,.sl y.1 ((k_ first order y.1).map iv) (.opn (N+4))),(13,iv mn),(11,.sl (i+1) (l.map iv) (.opn (N+2))),(10,.op (N+1) 0),(6,.op N 0),(0,.op t 0),(2,bv hz)],Gf y.2++(YY [iv first,iv i,iv am,.sl 0 [] (.opn (N+3)),fY (N+6) y.1,.sl 0 [] .exact] 0 y.1 0++gO y.1 (gp (kR l i (λj=>first+order.getD j 0) ρ y.1).1))⟩) Ψ):=by
 have n0:=hY.n0;have w0:=hY.w0;have FJ:(1<=2^30)=True:=eq_true (by decide);have Aq:=hY.Aq;have Ar:=hY.Ar;obtain⟨vF,sj,y0,y1,y3,y4,y5,nC,As,CH,CI,qS,uc,dn⟩:=hY;have jU:∀L:SA,dU (λτ=>Gf τ++L) t (N+L.length):=λL=>hT.more L;obtain⟨hv,Bw⟩:∃hv:Nat->List aD×bp,∀j,hv j=kR l i (λj=>first+order.getD j 0) ρ j:=⟨_,λ_=>rfl⟩;simp only[<- Bw];have N5:∀j,(hv j).1.length=j:=λj=>by rw[Bw];exact Bl _ _ _ _ _
 have hvt:∀j:Nat,(hv j).2.Ok (b+19+5* j):=λj=>by rw[Bw];exact(MA rk _ _ _ j).mono (by omega)
 have sO:hv 0=([],ρ):=Bw 0;unfold oO Yk;dsimp only[Ua,jf,cs,cf];have H7:=adx mn pm;refine bF ?_;refine Rs (min pm mn) (λj:Nat=>[(15,.sl j ((k_ first order j).map iv) (.opn (N+4))),(17,iv j)]) (λj=>Gf (hv j).2++(YY [iv first,iv i,iv am,.sl 0 [] (.opn (N+3)),fY (N+6) j,.sl 0 [] .exact] 0 j 0++gO j (gp (hv j).1))) (λ_=>True) (λ_ _=>rfl) (by simp only[k_,ao',List.map_nil];simp only[seval];simp[bh,Wk.refl]) (by rw[sO];simp[gO,fY]) (λ_ _ _=>by simp[hT.len,vF]) trivial (λbz bE j mI _ R hR=> ?_);clear bz bE;have lN:=hvt j;by_cases dW:j<min pm mn
 ·have hd:decide ((j:Int)<((min pm mn:Nat):Int))=true:=by simpa using dW
  refine ab ?_;simp only[seval,show (if(mn:Int)<(pm:Int)then(mn:Int)else(pm:Int))=((min pm mn:Nat):Int)from H7,hd];have cU:hv (j+1)=((hv j).1++[l7 (tick (hv j).2) l (first+order.getD j 0) i],tick (tick (tick (tick (tick (hv j).2))))):=by rw[Bw,Bw];rfl
  have qi:=N5 j;generalize HW:hv j=hj at lN cU qi⊢;obtain⟨ps,ρj⟩:=hj;dsimp only at lN cU qi⊢;refine aG (G9 (n:=6) (jU _) lN (by omega) (by decide) ?_);(try simp only[seval]);refine aB ?_;refine⟨λhc=> ?_,λhc=> ?_⟩
  ·obtain⟨o,ho⟩:=bA (xs:=order) (i:=j) (by rw[rh.len];omega);have hor:=rh.Jt o (uI ho);have hgo:order.getD j 0=o:=(by rw[Tf,ho];rfl);rw[hgo]at cU;have N9:Tg.wrap (first+o)=first+o:=Og (by omega)
   have zr:=TN j (by omega);have n5:(0<=(j:Int)/\(j:Int)<(order.length:Int))=True:=(by simp[rh.len];omega);have iV:=adK first order j
   have EA:Wn iv (k_ first order j)++[AV.val (Th Tg (first+o))]=(k_ first order (j+1)).map iv:=(by rw[adL,hgo,Uq];rfl);have zv:(k_ first order (j+1))[j]?=some (first+o):=(by rw[adL,hgo,Ud (by omega),iV,Ws];rfl);have kS:(0<=(j:Int)/\(j:Int)<(j:Int)+1)=True:=(by simp;omega);refine aE ?_;refine bF ?_;refine eA 9 ?_;simp only[seval,z1,uN,y1,y4,CH,aO,dp ho,n5,N9,iV];refine⟨by omega,?_⟩;rw[EA];obtain⟨n,hn⟩:∃n,n=first+o:=⟨_,rfl⟩
   rw[<- hn]at zv cU;have rl:=Qt l n i;have vf:=λ(L:SA) k kp=>aaI (lv:=lv) (k:=k) (kp:=kp) (h:=l) (n:=n) (hours:=i) (e:=.opn (N+2)) (jU L) lN.tick (by omega) (by omega) (by omega) (by omega) (by rw[fI,Xi];omega);simp only[fI]at vf;obtain⟨y,hy⟩:∃y,y=l7 (tick ρj) l n i:=⟨_,rfl⟩;rw[<- hy]at cU vf;have uA:y.l=[iv y.number.min,iv y.number.max,iv y.hour.min,iv y.hour.max]:=rfl;have hyf:∀a∈y.l,a.leaf=true:=(by rw[uA];simp[AV.leaf,Value.one]);have eW:∀FP,FP=ps.flatMap aD.l->aa.own 4 (FP++y.l) 48=gp (hv (j+1)).1:=λFP pS=>(by rw[cU,gp,LY,pS]);rcases Vu j with vR|vR
   ·subst vR;obtain rfl:ps=[]:=VG qi;have dn:fY (N+6) 0=.sl 0 [] .exact:=rfl;have l8:∀o,gO 0 o=[]:=λ_=>rfl;rw[l8,To];refine lY [10,12,14] (T1 15) (λD=>bif isDone 14 D then Gf (tick (tick (tick (tick (tick ρj)))))++(YY [iv first,iv i,iv am,.sl 0 [] (.opn (N+3)),.bC (N+6) 0 1 0,.sl 0 [] .exact] 0 1 0++[.own 4 y.l 48])else bif isDone 12 D then Gf (tick (tick (tick (tick (tick ρj)))))++(YY [iv first,iv i,iv am,.sl 0 [] (.opn (N+3)),.sl 0 [] .exact,.sl 0 [] .exact] 0 1 0++[.own 4 y.l 48])else bif isDone 10 D then Gf (tick (tick (tick (tick (tick ρj)))))++YY [iv first,iv i,iv am,.sl 0 [] (.opn (N+3)),.sl 0 [] .exact,.sl 0 [] .exact] 0 1 0 else Gf (tick ρj)++YY [iv first,iv i,iv am,.sl 0 [] (.opn (N+3)),.sl 0 [] .exact,.sl 0 [] .exact] 0 1 0) ?_;simp only[seval,yk,uO,y1,sj,qS,nC,n0,w0,FJ,Aq,Ar,dp zv,kS,dn,Te];refine tV y.av _ (cP (vf _ _ _ ⟨rfl,rfl⟩)) ?_;(try simp only[seval,yk,uO,y1,sj,qS,nC,n0,w0,FJ,Aq,Ar,dp zv,kS,dn,Te,aD.av,uA]);refine ab ?_;simp only[seval,show Tg.wrap 1=1 from a_ _ (by omega),show (0:Int)+1=1 from rfl];have e1:(hv (0+1)).2=tick (tick (tick (tick (tick ρj)))):=(by rw[cU]);have e2:gO (0+1) (gp (hv (0+1)).1)=[.own 4 [iv y.number.min,iv y.number.max,iv y.hour.min,iv y.hour.max] 48]:=(by rw[<- eW [] rfl];rfl);refine hR _ ⟨by omega,trivial,?_⟩;rw[e1,e2];exact bX
   ·obtain⟨n',jm⟩:∃n',j=n'+1:=⟨j-1,by omega⟩;have cu:fY (N+6) j=.bC (N+6+n') 0 j 0:=(by rw[jm];rfl);have vO:∀o,(gO j o)[n']?=some o:=λo=>(by rw[jm];have:=DI n' o [];rwa[To]at this);have v6:∀o,(gO j o).set n' .gone=gO j .gone:=λo=>(by rw[jm];have:=DJ n' o .gone [];rwa[To,To]at this);have jC:∀a,gO j .gone++[a]=gO (j+1) a:=λa=>(by rw[jm];exact abi _ _);have kg:∀o,(gO j o).length=j:=yU j;have eW:=eW _ rfl;rw[cu];unfold gp;obtain⟨FP,pS⟩:∃FP,FP=ps.flatMap aD.l:=⟨_,rfl⟩;have xi:FP.length=j* 4:=(by rw[pS,LX,qi]);rw[<- pS]at eW⊢;refine lY [10,12,14] (T1 15) (λD=>bif isDone 14 D then Gf (tick (tick (tick (tick (tick ρj)))))++(YY [iv first,iv i,iv am,.sl 0 [] (.opn (N+3)),.bC (N+6+j) 0 (j+1) 0,.sl 0 [] .exact] 0 (j+1) 0++gO (j+1) (.own 4 (FP++y.l) 48))else bif isDone 12 D then Gf (tick (tick (tick (tick (tick ρj)))))++(YY [iv first,iv i,iv am,.sl 0 [] (.opn (N+3)),.bC (N+6+n') 0 j 0,.sl 0 [] .exact] 0 (j+1) 0++gO (j+1) (.own 4 (FP++y.l) 48))else bif isDone 10 D then Gf (tick (tick (tick (tick (tick ρj)))))++(YY [iv first,iv i,iv am,.sl 0 [] (.opn (N+3)),.bC (N+6+n') 0 j 0,.sl 0 [] .exact] 0 (j+1) 0++gO j (.own 4 FP 48))else Gf (tick ρj)++(YY [iv first,iv i,iv am,.sl 0 [] (.opn (N+3)),.bC (N+6+n') 0 j 0,.sl 0 [] .exact] 0 (j+1) 0++gO j (.own 4 FP 48))) ?_;simp only[seval,yk,uO,y1,sj,qS,uc,nC,dp zv,kS,vO,v6,jC,kg,xi,Te];refine tV y.av _ (cP (vf _ _ _ ⟨rfl,rfl⟩)) ?_;(try simp only[seval,yk,uO,y1,sj,qS,uc,nC,dp zv,kS,vO,v6,jC,kg,xi,Te,aD.av,uA]);refine⟨vR,by omega,?_⟩;refine ab ?_;simp only[seval,zr];refine hR _ ⟨by omega,trivial,?_⟩;rw[<- eW,show (hv (j+1)).2=tick (tick (tick (tick (tick ρj)))) by rw[cU]];exact bX
  ·refine bD ?_;exact⟨(j,tick ρj),⟨by dsimp only;omega,by dsimp only;omega,lN.tick.mono (by omega)⟩,dY (by simp only[seval];simp[bh,Wk.refl]) (by rw[HW])⟩
 ·have hd:decide ((j:Int)<((min pm mn:Nat):Int))=false:=by simpa using dW
  refine ab ?_;simp only[seval,show (if(mn:Int)<(pm:Int)then(mn:Int)else(pm:Int))=((min pm mn:Nat):Int)from H7,hd];refine aB ?_;refine bD ?_;exact⟨(j,(hv j).2),⟨by dsimp only;omega,by dsimp only;omega,lN.mono (by omega)⟩,dY (by simp only[seval];simp[bh,Wk.refl]) rfl⟩
def aki{i np:Nat}{first am w:Int}{l ap iI:SD}{ρ2:bp}{zc:aa}{pv:AV}{gP:SA}{YY:SC->Nat->Nat->Nat->SA}{hz:Bool}{CX:AV}{Ψ:SI}(hT:dU Gf t N)(hY:YW Gf N zc YY)(zn:gP.length=np)(hb:b<2^10)(hi:1<=i/\i<=3)(oY:0<=first/\first<=90)(Iw:first<=w/\w<=first+9)(fI:l.length=i+1)(EB:np<=4)(iV:ap.length=np)(uo:∀n∈ap,first<=n/\n<w)(us:Ki iI np)(zJ:ρ2.Ok (b+64)):
  aS lv S_ none 240 (cs (cf (jf 9 oO))) ⟨[(19,iv 0),(18,.sl np (iI.map iv) .shut),(16,.sl 0 [] (.opn (N+5))),(15,.sl np (ap.map iv) (.opn (N+4))),(13,CX),(11,.sl (i+1) (l.map iv) (.opn (N+2))),(10,.op (N+1) 0),(6,.op N 0),(0,.op t 0),(2,bv hz)],Gf ρ2++(YY [iv first,iv i,iv am,.sl 0 [] (.opn (N+3)),pv,.sl 0 [] .exact] 0 np 0++gP)⟩ (an.then (λs'=>∃y:Nat×bp,(y.1<=np/\y.1<=3/\y.2.Ok (b+90))/\s'.Sub ⟨[(16,.sl y.1 ((iI.take y.1).map iv) (.opn (N+5))),(15,.sl np (ap.map iv) (.opn (N+4))),(13,CX),(11,.sl (i+1) (l.map iv) (.opn (N+2))),(10,.op (N+1) 0),(6,.op N 0),(0,.op t 0),(2,bv hz)],Gf y.2++(YY [iv first,iv i,iv am,.sl 0 [] (.opn (N+3)),pv,fY (N+6+np) y.1] 0 np y.1++(gP++gO y.1 (gp (kR l i (λj=>ap.getD (iI.getD j 0).toNat 0) ρ2 y.1).1)))⟩) Ψ):=by
 obtain⟨vF,sj,y0,y1,y3,y4,y5,nC,As,CH,CI,qS,uc,dn⟩:=hY;have FJ:(1<=2^30)=True:=eq_true (by decide);have n0:∀τ r c d e,(Gf τ++(YY r c d e++gP)).length=N+6+np:=λτ r c d e=>by rw[sj,zn]
 have n1:∀τ r c d e X,(Gf τ++(YY r c d e++(gP++X))).length=N+6+np+X.length:=λτ r c d e X=>by rw[sj,Tt,zn];omega
 have w1:∀τ r c d e X m,(Gf τ++(YY r c d e++(gP++X)))[N+6+np+m]?=X[m]?:=λτ r c d e X m=>by rw[Wa (N+6),qS,Ud (by omega),zn,US]
 have w0:∀τ r c d e X,(Gf τ++(YY r c d e++(gP++X)))[N+6+np]?=X[0]?:=λτ r c d e X=>w1 τ r c d e X 0;have v1:∀τ r c d e X m y,(Gf τ++(YY r c d e++(gP++X))).set (N+6+np+m) y=Gf τ++(YY r c d e++(gP++X.set m y)):=λτ r c d e X m y=>by rw[Wa (N+6),uc,Va _ _ (by omega),zn,US]
 have jU:∀L:SA,dU (λτ=>Gf τ++L) t (N+L.length):=λL=>hT.more L;obtain⟨hw,Bx⟩:∃hw:Nat->List aD×bp,∀j,hw j=kR l i (λj=>ap.getD (iI.getD j 0).toNat 0) ρ2 j:=⟨_,λ_=>rfl⟩;simp only[<- Bx];have oz:∀j,(hw j).1.length=j:=λj=>by rw[Bx];exact Bl _ _ _ _ _
 have v_:∀j:Nat,(hw j).2.Ok (b+64+5* j):=λj=>by rw[Bx];exact MA zJ _ _ _ j
 have zG:hw 0=([],ρ2):=Bx 0;have acI:=us.len;unfold oO Yk;dsimp only[Ua,jf,cs,cf];have acb:=adx 3 np;refine bF ?_;refine Rs (min np 3) (λj:Nat=>[(16,.sl j ((iI.take j).map iv) (.opn (N+5))),(19,iv j)]) (λj=>Gf (hw j).2++(YY [iv first,iv i,iv am,.sl 0 [] (.opn (N+3)),pv,fY (N+6+np) j] 0 np j++(gP++gO j (gp (hw j).1)))) (λ_=>True) (λ_ _=>rfl) (by simp only[seval];simp[bh,Wk.refl]) (by rw[zG];simp[gO,fY]) (λ_ _ _=>by simp[hT.len,vF]) trivial (λbz bE j mI _ R hR=> ?_);clear bz bE;have lN:=v_ j;by_cases dW:j<min np 3
 ·have hd:decide ((j:Int)<((min np 3:Nat):Int))=true:=by simpa using dW
  refine ab ?_;simp only[seval,aO,acI,show (if(3:Int)<(np:Int)then(3:Int)else(np:Int))=((min np 3:Nat):Int)from acb,hd];have cU:hw (j+1)=((hw j).1++[l7 (tick (hw j).2) l (ap.getD (iI.getD j 0).toNat 0) i],tick (tick (tick (tick (tick (hw j).2))))):=by rw[Bx,Bx];rfl
  have qi:=oz j;generalize HW:hw j=hj at lN cU qi⊢;obtain⟨ts,ρj⟩:=hj;dsimp only at lN cU qi⊢;refine aG (G9 (n:=3) (jU _) lN (by omega) (by decide) ?_);(try simp only[seval]);refine aB ?_;refine⟨λhc=> ?_,λhc=> ?_⟩
  ·obtain⟨v,lO⟩:=bA (xs:=iI) (i:=j) (by omega);have hvr:=us.Jt v (uI lO);obtain⟨v,rfl⟩:∃v':Nat,v=v':=⟨v.toNat,by omega⟩;have Eo:iI.getD j 0=v:=(by rw[Tf,lO];rfl);rw[Eo,WU]at cU;obtain⟨n,BB⟩:=bA (xs:=ap) (i:=v) (by omega);have xB:ap.getD v 0=n:=(by rw[Tf,BB];rfl);rw[xB]at cU;have sI:=uo n (uI BB);have zr:=TN j (by omega);have kS:(0<=(j:Int)/\(j:Int)<(np:Int))=True:=(by simp;omega);have xv:(0<=(v:Int)/\(v:Int)<(np:Int))=True:=(by simp;omega);have aH:(iI.take j).length=j:=(by rw[Ux];omega);have aok:(iI.take j).map iv++[AV.val (Th Tg v)]=(iI.take (j+1)).map iv:=(by rw[UZ,lO,Uq];rfl);refine aE ?_;refine ab ?_;simp only[seval,z1,uN,y5,CI,dp lO,kS,aH];refine⟨by omega,?_⟩;rw[aok];have rl:=Qt l n i;have vf:=λ(L:SA) k kp=>aaI (lv:=lv) (k:=k) (kp:=kp) (h:=l) (n:=n) (hours:=i) (e:=.opn (N+2)) (jU L) lN.tick (by omega) (by omega) (by omega) (by omega) (by rw[fI,Xi];omega);simp only[fI]at vf;obtain⟨y,hy⟩:∃y,y=l7 (tick ρj) l n i:=⟨_,rfl⟩;rw[<- hy]at cU vf;have uA:y.l=[iv y.number.min,iv y.number.max,iv y.hour.min,iv y.hour.max]:=rfl;have eW:∀FP,FP=ts.flatMap aD.l->aa.own 4 (FP++y.l) 48=gp (hw (j+1)).1:=λFP pS=>(by rw[cU,gp,LY,pS]);rcases Vu j with vR|vR
   ·subst vR;obtain rfl:ts=[]:=VG qi;have dn:fY (N+6+np) 0=.sl 0 [] .exact:=rfl;have l8:∀o,gO 0 o=[]:=λ_=>rfl;have vT:(0<(np:Int))=True:=(by simp;omega);rw[dn,l8,To];refine lY [13,15,17] (T1 18) (λD=>bif isDone 17 D then Gf (tick (tick (tick (tick (tick ρj)))))++(YY [iv first,iv i,iv am,.sl 0 [] (.opn (N+3)),pv,.bC (N+6+np) 0 1 0] 0 np 1++(gP++[.own 4 y.l 48]))else bif isDone 15 D then Gf (tick (tick (tick (tick (tick ρj)))))++(YY [iv first,iv i,iv am,.sl 0 [] (.opn (N+3)),pv,.sl 0 [] .exact] 0 np 1++(gP++[.own 4 y.l 48]))else bif isDone 13 D then Gf (tick (tick (tick (tick (tick ρj)))))++(YY [iv first,iv i,iv am,.sl 0 [] (.opn (N+3)),pv,.sl 0 [] .exact] 0 np 1++gP)else Gf (tick ρj)++(YY [iv first,iv i,iv am,.sl 0 [] (.opn (N+3)),pv,.sl 0 [] .exact] 0 np 1++gP)) ?_;simp only[seval,yk,uO,y1,nC,dp lO,kS,dp BB,xv,aO,iV,n0,w0,FJ,vT,Te];refine tV y.av _ (cP (vf _ _ _ ⟨rfl,rfl⟩)) ?_;(try simp only[seval,yk,uO,y1,nC,dp lO,kS,dp BB,xv,aO,iV,n0,w0,FJ,vT,Te,aD.av,uA]);refine ab ?_;simp only[seval,show Tg.wrap 1=1 from a_ _ (by omega),show (0:Int)+1=1 from rfl];have e1:(hw (0+1)).2=tick (tick (tick (tick (tick ρj)))):=(by rw[cU]);have e2:gO (0+1) (gp (hw (0+1)).1)=[.own 4 [iv y.number.min,iv y.number.max,iv y.hour.min,iv y.hour.max] 48]:=(by rw[<- eW [] rfl];rfl);refine hR _ ⟨by omega,trivial,?_⟩;rw[e1,e2];exact bX
   ·obtain⟨n2,rc⟩:∃n2,j=n2+1:=⟨j-1,by omega⟩;have cu:fY (N+6+np) j=.bC (N+6+np+n2) 0 j 0:=(by rw[rc];rfl);have vO:∀o,(gO j o)[n2]?=some o:=λo=>(by rw[rc];have:=DI n2 o [];rwa[To]at this);have v6:∀o,(gO j o).set n2 .gone=gO j .gone:=λo=>(by rw[rc];have:=DJ n2 o .gone [];rwa[To,To]at this);have jC:∀a,gO j .gone++[a]=gO (j+1) a:=λa=>(by rw[rc];exact abi _ _);have kg:∀o,(gO j o).length=j:=yU j;have eW:=eW _ rfl;rw[cu];unfold gp;obtain⟨FP,pS⟩:∃FP,FP=ts.flatMap aD.l:=⟨_,rfl⟩;have xi:FP.length=j* 4:=(by rw[pS,LX,qi]);rw[<- pS]at eW⊢;refine lY [13,15,17] (T1 18) (λD=>bif isDone 17 D then Gf (tick (tick (tick (tick (tick ρj)))))++(YY [iv first,iv i,iv am,.sl 0 [] (.opn (N+3)),pv,.bC (N+6+np+j) 0 (j+1) 0] 0 np (j+1)++(gP++gO (j+1) (.own 4 (FP++y.l) 48)))else bif isDone 15 D then Gf (tick (tick (tick (tick (tick ρj)))))++(YY [iv first,iv i,iv am,.sl 0 [] (.opn (N+3)),pv,.bC (N+6+np+n2) 0 j 0] 0 np (j+1)++(gP++gO (j+1) (.own 4 (FP++y.l) 48)))else bif isDone 13 D then Gf (tick (tick (tick (tick (tick ρj)))))++(YY [iv first,iv i,iv am,.sl 0 [] (.opn (N+3)),pv,.bC (N+6+np+n2) 0 j 0] 0 np (j+1)++(gP++gO j (.own 4 FP 48)))else Gf (tick ρj)++(YY [iv first,iv i,iv am,.sl 0 [] (.opn (N+3)),pv,.bC (N+6+np+n2) 0 j 0] 0 np (j+1)++(gP++gO j (.own 4 FP 48)))) ?_;simp only[seval,yk,uO,y1,nC,dp lO,kS,dp BB,xv,aO,iV,n1,w1,v1,vO,v6,jC,kg,xi,Te];refine tV y.av _ (cP (vf _ _ _ ⟨rfl,rfl⟩)) ?_;(try simp only[seval,yk,uO,y1,nC,dp lO,kS,dp BB,xv,aO,iV,n1,w1,v1,vO,v6,jC,kg,xi,Te,aD.av,uA]);refine⟨vR,by omega,?_⟩;refine ab ?_;simp only[seval,zr];refine hR _ ⟨by omega,trivial,?_⟩;rw[<- eW,show (hw (j+1)).2=tick (tick (tick (tick (tick ρj)))) by rw[cU]];exact bX
  ·refine bD ?_;exact⟨(j,tick ρj),⟨by dsimp only;omega,by dsimp only;omega,lN.tick.mono (by omega)⟩,dY (by simp only[seval];simp[bh,Wk.refl]) (by rw[HW])⟩
 ·have hd:decide ((j:Int)<((min np 3:Nat):Int))=false:=by simpa using dW
  refine ab ?_;simp only[seval,aO,acI,show (if(3:Int)<(np:Int)then(3:Int)else(np:Int))=((min np 3:Nat):Int)from acb,hd];refine aB ?_;refine bD ?_;exact⟨(j,(hw j).2),⟨by dsimp only;omega,by dsimp only;omega,lN.mono (by omega)⟩,dY (by simp only[seval];simp[bh,Wk.refl]) rfl⟩
def akl{i np ns cn:Nat}{first am:Int}{l ap bR:SD}{pv sv CX:AV}{G:SA}{EZ:Bool}{ρ4:bp}{zc:aa}{YY:SC->Nat->Nat->Nat->SA}{Ψ:SI}(hT:dU Gf t N)(hY:YW Gf N zc YY)(hb:b<2^10)(hi:1<=i/\i<=3)(oY:0<=first/\first<=90)(xJ:1<=am/\am<=3)(aq:nF first am l i)(iC:cn<=2)(IC:ρ4.Ok (b+91)):
  aS lv S_ none 240 (cs (cf (jf 10 oO))) ⟨[(20,iv cn),(16,.sl ns (bR.map iv) (.opn (N+5))),(15,.sl np (ap.map iv) (.opn (N+4))),(13,CX),(11,.sl (i+1) (l.map iv) (.opn (N+2))),(10,.op (N+1) 0),(6,.op N 0),(0,.op t 0),(2,bv EZ)],Gf ρ4++(YY [iv first,iv i,iv am,.sl 0 [] (.opn (N+3)),pv,sv] 0 np ns++G)⟩ (an.then (λs'=>∃y:List Seen×bp,(y.1.length<=2/\(∀s∈y.1,0<=s.hour/\s.hour<=i/\∃τ,s.next=nP τ (l.getD s.hour.toNat 0) 1 0 99)/\y.2.Ok (b+97))/\s'.Sub ⟨[(16,.sl ns (bR.map iv) (.opn (N+5))),(15,.sl np (ap.map iv) (.opn (N+4))),(13,CX),(11,.sl (i+1) (l.map iv) (.opn (N+2))),(10,.op (N+1) 0),(6,.op N 0),(0,.op t 0),(2,bv EZ)],Gf y.2++(YY [iv first,iv i,iv am,.sl y.1.length (y.1.flatMap Seen.l) (.opn (N+3)),pv,sv] y.1.length np ns++G)⟩) Ψ):=by
 obtain⟨vF,sj,y0,y1,y3,y4,y5,nC,As,CH,CI,qS,uc,dn⟩:=hY;have jU:∀L:SA,dU (λτ=>Gf τ++L) t (N+L.length):=λL=>hT.more L;have fI:=aq.len;unfold oO Yk;dsimp only[Ua,jf,cs,cf];obtain⟨hz,By⟩:∃hz:Nat->List Seen×bp,∀j,hz j=td l i ρ4 j:=⟨_,λ_=>rfl⟩;have nv:∀j,(hz j).1.length=j:=λj=>by rw[By];exact aeC _ _ _ _
 have Od:∀j:Nat,(hz j).2.Ok (b+91+3* j):=λj=>by rw[By];exact(aeE IC _ _ j).mono (by omega)
 have aoq:hz 0=([],ρ4):=By 0;refine bF ?_;refine ej cn (λj:Nat=>[(20,iv ((cn:Int)-j))]) (λj=>Gf (hz j).2++(YY [iv first,iv i,iv am,.sl j ((hz j).1.flatMap Seen.l) (.opn (N+3)),pv,sv] j np ns++G)) (λ_=>True) (λ_ _=>rfl) (by simp only[seval];simp[bh,Wk.refl]) (by rw[aoq];rfl) (λ_ _ _=>by simp[hT.len,vF]) trivial (λbz bE j mI _ R hR=> ?_);clear bz bE;have lN:=Od j;refine ah ?_;refine aB ?_;refine⟨λhc=> ?_,λhc=> ?_⟩
 ·have dW:j<cn:=by omega
  have cU:hz (j+1)=((hz j).1++[⟨dt (hz j).2 i,nP (tick (hz j).2) (l.getD (dt (hz j).2 i).toNat 0) 1 0 99⟩],tick (tick (tick (hz j).2))):=by rw[By,By];rfl
  have qi:=nv j;generalize HW:hz j=hj at lN cU qi⊢;obtain⟨ss,ρj⟩:=hj;dsimp only at lN cU qi⊢;have hur:=lV ρj i;obtain⟨u,hu⟩:∃u:Nat,dt ρj i=u:=⟨(dt ρj i).toNat,by omega⟩;rw[hu,WU]at cU;have hui:u<=i:=by omega
  obtain⟨n,No⟩:=bA (xs:=l) (i:=u) (by omega);have xB:l.getD u 0=n:=by rw[Tf,No];rfl
  rw[xB]at cU;have sI:=aq.ge (by omega) u hui;rw[xB]at sI;have awB:0<=n/\n<=1000:=by
   have:=afX (v:=0) sI (by omega) oY xJ (by omega);omega
  have zr:Tg.wrap ((cn:Int)-j-1)=(cn:Int)-((j+1:Nat):Int):=by rw[a_ _ (by omega)];omega
  have hbu:(0<=(u:Int)/\(u:Int)<(i:Int)+1)=True:=by simp;omega
  refine aE ?_;refine ab ?_;simp only[seval,y1];refine aG (pP (n:=i) (jU _) lN (by omega) (by omega) ?_);rw[hu];(try simp only[seval]);have RS:=λ(L:SA) k kp=>LC (lv:=lv) (k:=k) (kp:=kp) (n:=n) (m:=1) (lo:=0) (hi:=99) (jU L) lN.tick (by omega) (by omega) (by decide);obtain⟨y,hy⟩:∃y,y=nP (tick ρj) n 1 0 99:=⟨_,rfl⟩;rw[<- hy]at cU RS;obtain⟨FP,pS⟩:∃FP,FP=ss.flatMap Seen.l:=⟨_,rfl⟩;have xi:FP.length=j* 3:=by rw[pS,aaY,qi]
  have hFQ:FP++[iv u,iv y.min,iv y.max]=(hz (j+1)).1.flatMap Seen.l:=by rw[cU,LY,pS];rfl
  rw[<- pS];refine lY [9,12,14] (T1 15) (λD=>bif isDone 14 D then Gf (tick (tick (tick ρj)))++(YY [iv first,iv i,iv am,.sl (j+1) (FP++[iv u,iv y.min,iv y.max]) (.opn (N+3)),pv,sv] (j+1) np ns++G)else bif isDone 12 D then Gf (tick (tick (tick ρj)))++(YY [iv first,iv i,iv am,.sl j FP (.opn (N+3)),pv,sv] (j+1) np ns++G)else bif isDone 9 D then Gf (tick (tick (tick ρj)))++(YY [iv first,iv i,iv am,.sl j FP (.opn (N+3)),pv,sv] j np ns++G)else Gf (tick ρj)++(YY [iv first,iv i,iv am,.sl j FP (.opn (N+3)),pv,sv] j np ns++G)) ?_;simp only[seval,zS1,FK,y1,y3,nC,As,dp No,hbu,xi,fI];have uA:y.l=[iv y.min,iv y.max]:=rfl;refine tV y.av _ (cP (RS _ _ _ ⟨rfl,rfl⟩)) ?_;(try simp only[seval,zS1,FK,y1,y3,nC,As,dp No,hbu,xi,fI,eG.av,uA]);refine⟨by omega,?_⟩;refine ab ?_;simp only[seval,zr];refine hR _ ⟨by omega,trivial,?_⟩;rw[<- hFQ,cU];exact bX
 ·have vS:j=cn:=by omega
  subst vS;clear hR;refine bD ?_;have cu:=nv j;have v7:∀s∈(hz j).1,0<=s.hour/\s.hour<=i/\∃τ,s.next=nP τ (l.getD s.hour.toNat 0) 1 0 99:=by
   rw[By];exact aeD (λτ=>by have:=lV τ i;omega) j
  refine⟨((hz j).1,(hz j).2),⟨by dsimp only;omega,v7,lN.mono (by omega)⟩,dY (by simp only[seval];simp[bh,Wk.refl]) ?_⟩;dsimp only;rw[cu]
end
section
variable (lv:Bool)(P:Tl)
def yl (s:AS)(o:Vo)(next:SV):Prop:=match o.op with
 |.buildSlice t len parts=>ao (qF P t) λ(e,sz,z)=>len* sz<=2^24/\ao (kA s parts.toList) λmA=>ao (oQ (iy.at (.elems sz)) (gZ z (len* sz)) mA) λl=>next ((⟨s.T,s.H++[.cells l e]⟩:AS).put o.dst (.bC s.H.length 0 len len))
 |.call c=>match c.callee with
  |.builtin .append=>match c.args.toList,c.argTypes.toList with
   |[x,y],[t,t']=>ao (jM P t t') λ(elem,sz,_)=>ao (s.ev x) λa=>ao (s.ev y) λb=>a.wY λn l e=>e=.exact/\ao (s.src sz b) λ(m,l')=>l.length=n* sz/\l'.length=m* sz/\n+m<=2^30/\0<m/\next ((⟨s.T,s.H++[.own sz (l++l') elem]⟩:AS).put o.dst (.bC s.H.length 0 (n+m) 0))
   |_,_=>False
  |_=>False
 |_=>False
def rN (m:Nat):Nat->List Vo->AS->(SV)->(AV->SV)->Prop
 |_,[],s,K,_=>K s
 |k,o::rest,s,K,bad=>o.guard=none/\(bif k==m then yl P s o (λs'=>rN m (k+1) rest s' K bad)else m8 lv P s o (λs'=>rN m (k+1) rest s' K bad) bad)
end
section
variable {lv:Bool}{P:Tl}{r:SL}{s:AS}
def yl.step{o:Vo}{next:SV}{bad:AV->SV}(h:yl P s o next):Step lv P r o s next bad:=by
 unfold yl at h;split at h
 ·rename_i t len parts ho;obtain⟨⟨e,sz,z⟩,h1,h2,h⟩:=h.out;obtain⟨mA,h3,h⟩:=h.out;obtain⟨l,h4,h⟩:=h.out;exact aff ho h1 h2 h3 h4 h
 ·rename_i c ho;split at h
  ·rename_i bi;split at h
   ·rename_i x y t t' ha dz;obtain⟨⟨elem,sz,z⟩,h1,hA⟩:=h.out;obtain⟨a,h2,hB⟩:=hA.out;obtain⟨b,h3,hC⟩:=hB.out;obtain⟨n,l,e,e1,e0,hD⟩:=Rh hC;subst e1 e0;obtain⟨⟨m,l'⟩,h4,h5,h6,h7,h8,h9⟩:=hD.out;exact afd ho bi (nO ha) (tw dz) h1 h2 h3 h4 h5 h6 h7 h8 h9
   ·exact h.elim
  ·exact h.elim
 ·exact h.elim
def rN.ae0{m:Nat}{K:SV}{bad:AV->SV}:∀(l:List Vo)(k:Nat)(s:AS),rN lv P m k l s K bad->C3 lv P r l s K bad
 |[],k,s,h=>h
 |o::rest,k,s,h=>by
  obtain⟨h1,h2⟩:=h;refine⟨h1,?_⟩;have hs:∀{s'},rN lv P m (k+1) rest s' K bad->C3 lv P r rest s' K bad:=λ{s'} h=>rN.ae0 rest (k+1) s' h;cases hkm:(k==m)<;>rw[hkm]at h2<;>simp only[cond_true,cond_false]at h2
  rotate_left
  ·exact(yl.step h2).mono (λ_ h=>hs h) (λ_ _ h=>h)
  ·exact(m8.sound (r:=r) h2).mono (λ_ h=>hs h) (λ_ _ h=>h)
def ahW{nt id:Nat}{ops:SK}{Φ:SI}(m:Nat)(hd:j8 nt ops=true)(h:rN lv P m 0 ops.toList s (Φ .normal) (λpv s=>Φ (.panic pv) s)):aS lv P r nt (.region id ops false) s Φ:=ahX hd (h.ae0 ops.toList 0 s)
end
def agQ:type_of% @yl.eq_1:=by intros;rw[yl.eq_1]
def aqz:type_of% @rN.eq_1:=by intros;rw[rN.eq_1]
def aqy:type_of% @rN.eq_2:=by intros;rw[rN.eq_2]
attribute [seval] agQ aqz aqy
end Go.Gg
namespace Go.Gg.Tk
def abZ{x:ak}{bu:Nat}:∀(d:Nat)(pre:SD),2<=pre.length->nq x bu d pre=(jD x d pre).map cM
 |0,pre,_=>by
  unfold nq jD;split<;>rfl
 |d+1,pre,h=>by
  unfold nq jD;split
  ·rw[WQ];congr 1;funext n;rw[if_neg (λhc=>by have:=hc.1;omega),abZ d _ (by simp;omega)]
  ·rfl
def aaZ{α:Type}{t:Nat}{f:Nat->List α}:∀m,((T1 m).flatMap λn=>if n≠t then[]else f n)=if t<m then f t else[]
 |0=>by simp
 |m+1=>by
  rw[VW,Vf,aaZ m];simp only[UV,List.flatMap_nil,To];by_cases h:m=t
  ·subst h;rw[if_neg (axA _),if_neg (by simp),if_pos (Vv _),VK]
  ·rw[if_pos h,To];by_cases h2:t<m
   ·rw[if_pos h2,if_pos (by omega)]
   ·rw[if_neg h2,if_neg (by omega)]
def ab3{x:ak}{bu:Nat}(hh:1<=x.hours)(ht:bu<x.am.toNat+1):kU x bu=(xC x bu).map cM:=by
 unfold kU xC;obtain⟨d,hd⟩:∃d,x.hours.toNat=d+1:=⟨x.hours.toNat-1,by omega⟩;rw[hd];unfold nq;simp only[UJ,Ws,Xi,true_and];rw[show ([x.first]:SD).getLastD 0=x.first from rfl];split
 ·rw[aaZ (t:=bu) (f:=λn=>nq x bu d ([x.first]++[x.first+(n:Int)])),if_pos ht,abZ d _ (by simp)];rfl
 ·rfl
def am4{x:ak}(hh:1<=x.hours):((T1 (x.am.toNat+1)).flatMap λt=>xC x t)=aM x:=by
 unfold aM xC;obtain⟨d,hd⟩:∃d,x.hours.toNat=d+1:=⟨x.hours.toNat-1,by omega⟩;rw[hd,Xi,show jD x (d+1) [x.first]=(if mW x 0 x.first then(T1 (x.am.toNat+1)).flatMap λn:Nat=>jD x d [x.first,x.first+(n:Int)]else[])from rfl];split
 ·rfl
 ·simp
end Go.Gg.Tk
namespace Go.Gg.Tk
def asf{p:Nat->Bool}{m k:Nat}(h:m<=k):((T1 k).filter λn=>decide (n<m)&&p n)=(T1 m).filter p:=by
 obtain⟨j,rfl⟩:=Nat.exists_eq_add_of_le h;rw[List.range_add,XO];have h1:((T1 j).map (m+·)).filter (λn=>decide (n<m)&&p n)=[]:=by
  rw[ZQ];intro a ha;obtain⟨b,_,rfl⟩:=Uo.1 ha;simp only[Uh,decide_eq_true_eq,not_and];exactλhlt=>absurd hlt (by omega)
 rw[h1,To];refine Wm λn hn=> ?_;rw[UN]at hn;simp[hn]
def LW{α:Type}{c:Nat->Bool}{f:Nat->List α}:∀l:SE,(l.flatMap λn=>if c n=true then[]else f n)=(l.filter λn=> !c n).flatMap f
 |[]=>rfl
 |n::l=>by
  rw[UV,Y5,LW l];cases hc:c n<;>simp
def uL (g:aD->Nat->Bool)(m:Nat):List aD->SE->List (SE)
 |[],t=>[t]
 |y::ys,t=>((T1 m).filter λn=>g y n&& !t.contains n).flatMap λn=>uL g m ys (t++[n])
def Pd{g:aD->Nat->Bool}{q:aD->Nat}{m:Nat}(hm:m<=9):∀(ys:SY)(u:Nat)(t:SE),(∀y∈ys,∀n,n<9->(q y).testBit n=(decide (n<m)&&g y n))->(∀n,u.testBit n=t.contains n)->lc (ys.map q) u t=uL g m ys t
 |[],u,t,_,_=>rfl
 |y::ys,u,t,hq,hu=>by
  rw[Wd,lc,uL];have e1:((T1 9).flatMap λn=>if(u.testBit n|| !(q y).testBit n)=true then[]else lc (ys.map q) (u|||2^n) (t++[n]))=((T1 9).filter λn=> !(u.testBit n|| !(q y).testBit n)).flatMap λn=>lc (ys.map q) (u|||2^n) (t++[n]):=LW _;rw[e1];have e2:((T1 9).filter λn=> !(u.testBit n|| !(q y).testBit n))=(T1 m).filter λn=>g y n&& !t.contains n:=by
   rw[<- asf hm];refine Wm λn hn=> ?_;rw[UN]at hn;rw[hu,hq y (by simp) n hn];cases t.contains n<;>cases decide (n<m)<;>cases g y n<;>rfl
  rw[e2];congr 1;funext n;refine Pd hm ys _ _ (λz hz=>hq z (by simp[hz])) λi=> ?_;rw[Yq,hu,W8,ZR];simp[eq_comm]
def adO{h:SD}{a:Int}{g:aD->Nat->Bool}{m:Nat}(hr:FC h=(T1 m).map λi:Nat=>a+(i:Int)):∀(ys:SY)(t:SE),(∀y∈ys,∀n,n<m->fits h y (a+(n:Int))=g y n)->lS h ys (t.map λi:Nat=>a+(i:Int))=(uL g m ys t).map λl=>l.map λi:Nat=>a+(i:Int)
 |[],t,_=>rfl
 |y::ys,t,hg=>by
  rw[lS,uL,hr,List.filter_map,W3,WQ];have e:(T1 m).filter ((λn=>fits h y n&& !(t.map λi:Nat=>a+(i:Int)).contains n)∘λi:Nat=>a+(i:Int))=(T1 m).filter λn=>g y n&& !t.contains n:=by
   refine Wm λn hn=> ?_;rw[UN]at hn;simp only[Xm];rw[hg y (by simp) n hn];congr 1;congr 1;rw[Vh,ZH,ZH,Uo];constructor
   ·rintro⟨i,h1,h2⟩
    have:i=n:=(by omega);rw[<- this];exact h1
   ·exactλh1=>⟨n,h1,rfl⟩
  rw[e];congr 1;funext n;have:=adO hr ys (t++[n]) (λz hz=>hg z (by simp[hz]));rw[Uq]at this;exact this
end Go.Gg.Tk
namespace Go.Gg.Tk
def ad1{h:SD}{ns:SE}{nl:SD}{q:aD->Nat}(hl:nl.length=ns.length):∀(ss:SY)(u:Nat)(t:SE),(∀s∈ss,∀p,p<ns.length->(q s).testBit (ns.getD p 0)=fits h s (nl.getD p 0))->(∀n,u.testBit n=t.contains n)->mV ns.length ns (ss.map q) u t=nz h nl ss t
 |[],u,t,_,_=>rfl
 |s::ss,u,t,hq,hu=>by
  rw[Wd,mV,nz,hl];have e1:((T1 ns.length).flatMap λp=>if(u.testBit p|| !(q s).testBit (ns.getD p 0))=true then[]else mV ns.length ns (ss.map q) (u|||2^p) (t++[p]))=((T1 ns.length).filter λp=> !(u.testBit p|| !(q s).testBit (ns.getD p 0))).flatMap λp=>mV ns.length ns (ss.map q) (u|||2^p) (t++[p]):=LW _;rw[e1];have e2:((T1 ns.length).filter λp=> !(u.testBit p|| !(q s).testBit (ns.getD p 0)))=(T1 ns.length).filter λp=>fits h s (nl.getD p 0)&& !t.contains p:=by
   refine Wm λp hp=> ?_;rw[UN]at hp;rw[hu,hq s (by simp) p hp];cases t.contains p<;>cases fits h s (nl.getD p 0)<;>rfl
  rw[e2];congr 1;funext p;refine ad1 hl ss _ _ (λz hz=>hq z (by simp[hz])) λi=> ?_;rw[Yq,hu,W8,ZR];simp[eq_comm]
def adS{g:aD->Nat->Bool}{m:Nat}:∀{ys:SY}{t ns:SE},ns∈uL g m ys t->(∀n∈t,n<m)->ns.length=t.length+ys.length/\∀n∈ns,n<m
 |[],t,ns,h,ht=>by
  simp only[uL,Ub]at h;subst h;exact⟨by simp,ht⟩
 |y::ys,t,ns,h,ht=>by
  simp only[uL,T9,Vl,UN]at h;obtain⟨n,⟨hn,_⟩,h⟩:=h;obtain⟨h1,h2⟩:=adS h (λk hk=>by
   rcases Tv.1 hk with h'|h'
   ·exact ht k h'
   ·rw[Ub.1 h'];exact hn)
  exact⟨by rw[h1];simp;omega,h2⟩
end Go.Gg.Tk
namespace Go.Gg.Tk
structure yo (x:ak)(h:SD):Prop where
 lo:2<=h.length
 hi:h.length<=4
 head:h.headD 0=x.first
 span:h.getLastD 0<=x.first+9
 pad:jO (cM h)
def Pp{h:SD}(hl:2<=h.length):(cM h).getD 0 0=h.headD 0:=by
 match h,hl with
 |a::b::l,_=>rfl
def ad6{h:SD}(hl:2<=h.length)(h4:h.length<=4):(cM h).getD 3 0=h.getLastD 0:=by
 match h,hl,h4 with
 |[a,b],_,_=>rfl
 |[a,b,c],_,_=>rfl
 |[a,b,c,d],_,_=>rfl
def ad7{h:SD}{n:Int}(hl:2<=h.length)(h4:h.length<=4):iu (cM h) n=iu h n:=by
 match h,hl,h4 with
 |[a,b],_,_=>exact Qq (i:=0) (k:=2) (z:=b) (h:=[a,b]) (n:=n) rfl (by simp)
 |[a,b,c],_,_=>exact Qq (i:=0) (k:=1) (z:=c) (h:=[a,b,c]) (n:=n) rfl (by simp)
 |[a,b,c,d],_,_=>exact Qq (i:=0) (k:=0) (z:=d) (h:=[a,b,c,d]) (n:=n) rfl (by simp)
def pt (h:SD):Nat:=(h.getLastD 0-h.headD 0).toNat
def KM{x:ak}{h:SD}(hh:yo x h)(y:aD){n:Nat}(hn:n<9):(cx (cM h) y).testBit n=(decide (n<pt h)&&fits h y (h.headD 0+(n:Int))):=by
 unfold cx;rw[Dk];unfold lZ fits;rw[Pp hh.lo,ad6 hh.lo hh.hi,ad7 hh.lo hh.hi];have e1:decide (n<9)=true:=decide_eq_true hn;have e2:decide (h.headD 0+(n:Int)<h.getLastD 0)=decide (n<pt h):=by
  unfold pt;rw[Vh];simp only[decide_eq_true_eq];omega
 rw[e1,e2,Vt];by_cases hm:n<pt h
 ·have e3:0<=iu h (h.headD 0+(n:Int)):=by
   unfold pt at hm;refine Qp (a:=h.headD 0) ?_ (by omega) (by omega);have:=hh.lo
   match h,this with
   |a::b::l,_=>rfl
  rw[decide_eq_true e3,decide_eq_true hm];simp
 ·rw[decide_eq_false hm];simp
def adN{x:ak}{h:SD}(hh:yo x h):lS h x.pieces []=(gE x (cM h)).map λl=>l.map λi:Nat=>h.headD 0+(i:Int):=by
 have H6:pt h<=9:=by unfold pt;have:=hh.span;have:=hh.head;omega
 have e1:gE x (cM h)=uL (λy n=>fits h y (h.headD 0+(n:Int))) (pt h) x.pieces []:=
  Pd H6 x.pieces 0 [] (λy _ n hn=>KM hh y hn) (by simp)
 rw[e1];exact adO (a:=h.headD 0) rfl x.pieces [] λy _ n _=>rfl
end Go.Gg.Tk
namespace Go.Gg.Tk
def aqu{x:ak}{h:SD}(hh:yo x h){ns:SE}(hn:ns∈gE x (cM h)):ns.length=x.pieces.length/\∀n∈ns,n<pt h:=by
 have H6:pt h<=9:=by unfold pt;have:=hh.span;have:=hh.head;omega
 have e1:gE x (cM h)=uL (λy n=>fits h y (h.headD 0+(n:Int))) (pt h) x.pieces []:=
  Pd H6 x.pieces 0 [] (λy _ n hn=>KM hh y hn) (by simp)
 rw[e1]at hn;have:=adS hn (by simp);exact⟨by simpa using this.1,this.2⟩
def aqW{x:ak}{h:SD}(hh:yo x h){ns:SE}(hn:ns∈gE x (cM h)):iR x (cM h) ns=nz h (ns.map λi:Nat=>h.headD 0+(i:Int)) x.aC []:=by
 obtain⟨h1,h2⟩:=aqu hh hn;have H6:pt h<=9:=by unfold pt;have:=hh.span;have:=hh.head;omega
 unfold iR;rw[<- h1];refine ad1 (by simp) x.aC 0 [] (λs _ p hp=> ?_) (by simp);have sx:ns.getD p 0=ns[p]:=by rw[Tf,Tw hp];rfl
 have hlt:=h2 ns[p] (W_ hp);have HS:(ns.map λi:Nat=>h.headD 0+(i:Int)).getD p 0=h.headD 0+(ns[p]:Int):=by
  rw[Tf,Ut,Tw hp];rfl
 rw[sx,HS,KM hh s (by omega),decide_eq_true hlt,Vt]
def ek (t:Tr):SD:=dq (cM t.aK) (t.ap.map λn=>(n-t.aK.headD 0).toNat) t.bR
def afP{x:ak}{h:SD}(hh:yo x h){ns:SE}(hn:ns∈gE x (cM h)):(tu x h (ns.map λi:Nat=>h.headD 0+(i:Int))).map ek=(iR x (cM h) ns).map (dq (cM h) ns):=by
 unfold tu;rw[XN,aqW hh hn];refine WR λos _=> ?_;unfold ek;simp only[Xm,XN];congr 1
 conv=>rhs;rw[<- List.map_id ns]
 refine WR λn _=> ?_;simp only[Xm,id];omega
def vw{α β:Type}{l:List α}{f g:α->List β}(h:∀a∈l,f a=g a):l.flatMap f=l.flatMap g:=by
 rw[XS,XS,WR h]
def afx{α:Type}:∀ll:List (List α),(ll.map (·.take 1)).flatten.take 1=ll.flatten.take 1
 |[]=>rfl
 |[]::ll=>by simpa using afx ll
 |(a::l)::ll=>by simp
def auZ{x:ak}{h:SD}{deep:Int}(hh:yo x h):jL x deep (cM h)=(tr x deep h).map ek:=by
 have e2:(gY x h).map ek=((gE x (cM h)).map λns=>(iR x (cM h) ns).map λos=>dq (cM h) ns os).flatten:=by
  unfold gY;rw[adN hh,W3,WQ,<- XS];exact vw λns hn=>afP hh hn
 have e1:(wH x h).map ek=(((gE x (cM h)).map λns=>(iR x (cM h) ns).map λos=>dq (cM h) ns os).map (·.take 1)).flatten:=by
  unfold wH;rw[adN hh,W3,WQ,XN,<- XS];refine vw λns hn=> ?_;simp only[Xm];rw[Xd,afP hh hn]
 unfold jL tr;dsimp only;split
 ·rw[Xd,e1,afx]
 ·split
  ·exact e1.symm
  ·exact e2.symm
end Go.Gg.Tk
namespace Go.Gg.Tk
def Bz{x:ak}:∀(d:Nat)(pre h:SD),pre≠[]->h∈jD x d pre->h.length=pre.length+d/\h.headD 0=pre.headD 0
 |0,pre,h,_,hm=>by
  unfold jD at hm;split at hm
  ·rw[Ub]at hm;subst hm;exact⟨rfl,rfl⟩
  ·cases hm
 |d+1,pre,h,hp,hm=>by
  unfold jD at hm;split at hm
  ·obtain⟨n,_,hm⟩:=T9.1 hm;obtain⟨h1,h2⟩:=Bz d _ h (by simp) hm;refine⟨by rw[h1];simp;omega,h2.trans ?_⟩
   match pre,hp with
   |a::l,_=>rfl
  ·cases hm
def abY{x:ak}{t:Nat}(hx:x.Ok)(ht:t<x.am.toNat+1){h:SD}(hm:h∈xC x t):yo x h:=by
 have hh:=hx.hours;have Ie:cM h∈kU x t:=by rw[ab3 hh.1 ht];exact Uo.2 ⟨h,hm,rfl⟩
 have h4:=abV hx Ie;unfold xC at hm;split at hm
 ·obtain⟨h1,h2⟩:=Bz _ _ _ (by simp) hm;have p7:2<=h.length:=by rw[h1];simp
  have HV:h.length<=4:=by rw[h1];simp;omega
  have A_:h.headD 0=x.first:=h2;refine⟨p7,HV,A_,?_,h4⟩;have:=h4.span;rw[Pp p7,ad6 p7 HV,A_]at this;exact this
 ·cases hm
def af5{x:ak}{deep:Int}(hx:x.Ok):((T1 (x.am.toNat+1)).flatMap λt=>JU x deep t)=(aM x).flatMap (tr x deep):=by
 unfold JU;rw[<- am4 hx.hours.1,al']
end Go.Gg.Tk
namespace Go.Gg.Tk
def Rb{l:SE}{i v p n:Nat}(hi:i<l.length):((pI l i v).getD p 0).testBit n=((l.getD p 0).testBit n||(decide (p=i)&&decide (n=v))):=by
 unfold pI;rw[Tf,VT];by_cases h:i=p
 ·subst h;rw[if_pos rfl,if_pos hi,Ua,Yq,W8];simp[eq_comm]
 ·rw[if_neg h,<- Tf];have:¬p=i:=λe=>h e.symm;simp[this]
def qH (v:Nat->Nat):Nat->SE->SE
 |0,l=>l
 |k+1,l=>pI (qH v k l) k (v k)
def adQ(t:SD)(l:SE):∀k,sY t k l=qH (mY t) k l
 |0=>rfl
 |k+1=>by rw[sY,qH,adQ t l k]
def acj(t:SD)(l:SE):∀k,sJ t k l=qH (uW t) k l
 |0=>rfl
 |k+1=>by rw[sJ,qH,acj t l k]
def ad8(t:SD)(l:SE):∀k,nA t k l=qH (tj t) k l
 |0=>rfl
 |k+1=>by rw[nA,qH,ad8 t l k]
def Rd(v:Nat->Nat)(l:SE):∀k,(qH v k l).length=l.length
 |0=>rfl
 |k+1=>by rw[qH,AH,Rd v l k]
def GC{v:Nat->Nat}{l:SE}{p n:Nat}:∀k,k<=l.length->((qH v k l).getD p 0).testBit n=((l.getD p 0).testBit n||(decide (p<k)&&decide (n=v p)))
 |0,_=>by simp[qH]
 |k+1,h=>by
  rw[qH,Rb (by rw[Rd];omega),GC k (by omega)];by_cases hp:p=k
  ·subst hp;simp
  ·have e:(p<k+1)<->p<k:=(by omega);simp[hp,e]
def Jc{l m:SE}{p n:Nat}(h:l.length=m.length):((ld l m).getD p 0).testBit n=((l.getD p 0).testBit n||(m.getD p 0).testBit n):=by
 unfold ld;rw[Tf,List.getElem?_zipWith,Tf,Tf];by_cases hp:p<l.length
 ·rw[Tw hp,Tw (by omega)];simp[Yq]
 ·rw[Vy (by omega),Vy (by omega)];simp
def aeh{hs:SO}{h g:SD}:g∈iZ hs h<->g∈hs\/g=h:=by
 unfold iZ;split
 ·rename_i hm;exact⟨.inl,λe=>e.elim id λe=>e▸hm⟩
 ·rw[Tv,Ub]
def aa3{g:SD}:∀{l hs:SO},g∈l.foldl iZ hs<->g∈hs\/g∈l
 |[],hs=>by simp
 |a::l,hs=>by
  rw[VO,aa3,aeh,Tm,or_assoc]
def aih(Q:Kn)(t:SD):(je Q t).has=true:=by
 unfold je;cases h:Q.has
 ·rfl
 ·rw[if_pos rfl];exact h
def afz(x:ak)(deep:Int)(Q:Kn)(t:SD):(eg x deep Q t).has=true:=by
 have:=aih Q t;unfold eg;dsimp only;split
 ·exact this
 ·split<;>exact this
def aa8{x:ak}{deep:Int}:∀(ts:SO)(Q:Kn),(ts.foldl (eg x deep) Q).has=(Q.has|| !ts.isEmpty)
 |[],Q=>by simp
 |t::ts,Q=>by rw[VO,aa8 ts,afz];simp
def aoB{F G:Kn}{hs:SO}:(fW F hs G).has=(F.has||G.has):=by
 unfold fW;cases h:G.has
 ·simp
 ·simp
end Go.Gg.Tk
namespace Go.Gg.Tk
def auq{x:ak}{Q:Kn}{t g:SD}:g∈(eg x 0 Q t).aM<->g∈Q.aM\/g=t.take 4:=by
 have hB:(je Q t).aM=Q.aM:=by unfold je;split<;>rfl
 unfold eg;dsimp only;rw[if_neg (by decide),if_pos rfl,aeh,hB]
def aa5{x:ak}{g:SD}:∀(ts:SO)(Q:Kn),g∈(ts.foldl (eg x 0) Q).aM<->g∈Q.aM\/∃t∈ts,g=t.take 4
 |[],Q=>by simp
 |t::ts,Q=>by
  rw[VO,aa5 ts,auq];constructor
  ·rintro((h|h)|⟨u,h1,h2⟩)
   ·exact .inl h
   ·exact .inr ⟨t,by simp,h⟩
   ·exact .inr ⟨u,by simp[h1],h2⟩
  ·rintro(h|⟨u,h1,h2⟩)
   ·exact .inl (.inl h)
   ·rcases Tm.1 h1 with rfl|h1
    ·exact .inl (.inr h2)
    ·exact .inr ⟨u,h1,h2⟩
def fx (x:ak)(deep:Int)(j:Nat):List (SD):=(kU x j).flatMap (jL x deep)
def JS(x:ak)(deep:Int)(j:Nat):iw x deep j=(fx x deep j).foldl (eg x deep) Kn.zero:=rfl
def F9(x:ak)(deep:Int)(j:Nat):(iw x deep j).has= !(fx x deep j).isEmpty:=by
 rw[JS,aa8];rfl
def avk{x:ak}{j:Nat}{g:SD}:g∈(iw x 0 j).aM<->∃t∈fx x 0 j,g=t.take 4:=by
 rw[JS,aa5];simp[Kn.zero]
def acU{x:ak}{deep:Int}{js:SE}{D:Kn}(h:nH x deep js D):D.has=js.any λj=> !(fx x deep j).isEmpty:=by
 induction h with
 |nil=>rfl
 |snoc h hp ih=>rw[aoB,ih,F9,aw2];simp
def aoC{x:ak}{js:SE}{D:Kn}{g:SD}(h:nH x 0 js D):g∈D.aM<->∃j∈js,∃t∈fx x 0 j,g=t.take 4:=by
 induction h with
 |nil=>simp[Kn.zero]
 |@snoc js F j hs h hp ih=>
  have key:g∈(fW F hs (iw x 0 j)).aM<->g∈F.aM\/∃t∈fx x 0 j,g=t.take 4:=by
   unfold fW;split
   ·show g∈hs.foldl iZ F.aM<->_;rw[aa3,hp.mem_iff,avk]
   ·rename_i hn;rw[F9]at hn;have:fx x 0 j=[]:=(by simpa using hn);rw[this];simp
  rw[key,ih];constructor
  ·rintro(⟨i,h1,h2⟩|h2)
   ·exact⟨i,by simp[h1],h2⟩
   ·exact⟨j,by simp,h2⟩
  ·rintro⟨i,h1,h2⟩
   rcases Tv.1 h1 with h1|h1
   ·exact .inl ⟨i,h1,h2⟩
   ·rw[Ub.1 h1]at h2;exact .inr h2
def aa4:∀{l hs:SO},hs.Nodup->(l.foldl iZ hs).Nodup
 |[],hs,h=>h
 |a::l,hs,h=>by rw[VO];exact aa4 (aei h)
def aoF{x:ak}{deep:Int}{js:SE}{D:Kn}(h:nH x deep js D):D.aM.Nodup:=by
 induction h with
 |nil=>exact XM
 |snoc h hp ih=>
  unfold fW;split
  ·exact aa4 ih
  ·exact ih
end Go.Gg.Tk
namespace Go.Gg.Tk
def Ho{x:ak}{deep:Int}{t:Nat}(hx:x.Ok)(ht:t<x.am.toNat+1):fx x deep t=(JU x deep t).map ek:=by
 unfold fx JU;rw[ab3 hx.hours.1 ht,W3,WQ];exact vw λh hm=>auZ (abY hx ht hm)
def pJ (x:ak)(deep:Int):List Tr:=(aM x).flatMap (tr x deep)
def B4{x:ak}{deep:Int}{js:SE}{p:Nat}(hx:x.Ok)(hp:x.am=p)(gR:js.Perm (T1 (p+1))){t:SD}:(∃j∈js,t∈fx x deep j)<->∃u∈pJ x deep,t=ek u:=by
 have mL:x.am.toNat=p:=by omega
 unfold pJ;rw[<- af5 hx,mL];constructor
 ·rintro⟨j,h1,h2⟩
  have hj:=gR.mem_iff.1 h1;rw[Ho hx (by rw[mL];simpa using hj)]at h2;obtain⟨u,h3,rfl⟩:=Uo.1 h2;exact⟨u,T9.2 ⟨j,hj,h3⟩,rfl⟩
 ·rintro⟨u,h1,rfl⟩
  obtain⟨j,hj,h3⟩:=T9.1 h1;refine⟨j,gR.mem_iff.2 hj,?_⟩;rw[Ho hx (by rw[mL];simpa using hj)];exact Uo.2 ⟨u,h3,rfl⟩
def Ao{x:ak}{deep:Int}{h:SD}{u:Tr}(hu:u∈tr x deep h):u∈gY x h:=by
 have h1:∀u,u∈wH x h->u∈gY x h:=λu hu=>by
  unfold wH at hu;obtain⟨ns,h1,h2⟩:=T9.1 hu;exact T9.2 ⟨ns,h1,W5 h2⟩
 unfold tr at hu;split at hu
 ·exact h1 u (W5 hu)
 ·split at hu
  ·exact h1 u hu
  ·exact hu
def ye{x:ak}{h:SD}{u:Tr}(hu:u∈gY x h):u.aK=h:=by
 obtain⟨ns,_,h2⟩:=T9.1 hu;obtain⟨os,_,rfl⟩:=Uo.1 h2;rfl
def aa0{α β:Type}{f:α->List β}:∀{l:List α},(l.flatMap λa=>(f a).take 1)=[]<->l.flatMap f=[]
 |[]=>by simp
 |a::l=>by
  rw[UV,UV,ZC,ZC,aa0,ZO];simp
def afM{x:ak}{deep:Int}{h:SD}:tr x deep h=[]<->gY x h=[]:=by
 have h1:wH x h=[]<->gY x h=[]:=aa0;unfold tr;split
 ·rw[ZO,h1];simp
 ·split
  ·exact h1
  ·exact Iff.rfl
def ahi{x:ak}{deep:Int}:pJ x deep=[]<->bc x=[]:=by
 unfold pJ bc;rw[XR,XR];exact forall_congr' λh=>forall_congr' λ_=>afM
def ahk{x:ak}{deep:Int}{js:SE}:(js.any λj=> !(fx x deep j).isEmpty)=true<->∃t,∃j∈js,t∈fx x deep j:=by
 rw[U5];constructor
 ·rintro⟨j,h1,h2⟩
  cases hg:fx x deep j with
  |nil=>rw[hg]at h2;cases h2
  |cons t l=>exact⟨t,j,h1,by rw[hg];simp⟩
 ·rintro⟨t,j,h1,h2⟩
  refine⟨j,h1,?_⟩;cases hg:fx x deep j with
  |nil=>rw[hg]at h2;cases h2
  |cons=>rfl
end Go.Gg.Tk
namespace Go.Gg
open Go.Gg.Tk
def Ff{x:ak}{deep:Int}{D:Kn}(hx:x.Ok)(h:ez x deep D):D.has= !(bc x).isEmpty:=by
 obtain⟨p,js,h1,h2,h3,_⟩:=h;rw[acU h3,Vh,ahk];have key:(∃t,∃j∈js,t∈fx x deep j)<->pJ x deep≠[]:=by
  constructor
  ·rintro⟨t,h⟩ he
   obtain⟨u,hu,_⟩:=(B4 hx h1 h2).1 h;rw[he]at hu;cases hu
  ·intro aF;obtain⟨u,hu⟩:=Zg _ aF;exact⟨ek u,(B4 hx h1 h2).2 ⟨u,hu,rfl⟩⟩
 rw[key,ne_eq,ahi];cases bc x<;>simp
def aoM{x:ak}{D:Kn}(hx:x.Ok)(h:ez x 0 D){g:SD}:g∈D.aM<->∃u∈bc x,g=(ek u).take 4:=by
 obtain⟨p,js,h1,h2,h3,_⟩:=h;rw[aoC h3];have e:(∃j∈js,∃t∈fx x 0 j,g=t.take 4)<->∃t,(∃j∈js,t∈fx x 0 j)/\g=t.take 4:=by
  constructor
  ·rintro⟨j,a,t,b,c⟩;exact⟨t,⟨j,a,b⟩,c⟩
  ·rintro⟨t,⟨j,a,b⟩,c⟩;exact⟨j,a,t,b,c⟩
 rw[e];have aH:∀u:Tr,u∈bc x->(ek u).take 4=cM u.aK:=λu hu=>by
  obtain⟨h,hm,ko⟩:=T9.1 hu;have hl:h.length=1+x.hours.toNat:=(Bz _ _ _ (by simp) hm).1;have hh:=hx.hours;have h4:(cM u.aK).length=4:=by
   rw[ye ko];simp[cM];omega
  unfold ek dq;rw[Te,UA (by omega),Tx (by omega)]
 have mh:∀u,u∈pJ x 0->u∈bc x:=λu hu=>by
  obtain⟨h,a,b⟩:=T9.1 hu;exact T9.2 ⟨h,a,Ao b⟩
 constructor
 ·rintro⟨t,a,rfl⟩
  obtain⟨u,hu,rfl⟩:=(B4 hx h1 h2).1 a;exact⟨u,mh u hu,rfl⟩
 ·rintro⟨u,hu,rfl⟩
  obtain⟨h,hm,ko⟩:=T9.1 hu;have aF:tr x 0 h≠[]:=λe=>by
   rw[afM]at e;rw[e]at ko;cases ko
  obtain⟨v,hv⟩:=Zg _ aF;have qh:v∈pJ x 0:=T9.2 ⟨h,hm,hv⟩;refine⟨ek v,(B4 hx h1 h2).2 ⟨v,qh,rfl⟩,?_⟩;rw[aH u hu,aH v (mh v qh),ye ko,ye (Ao hv)]
end Go.Gg
namespace Go.Gg.Tk
def GM(Q:Kn)(t:SD):(je Q t).ap=Q.ap/\(je Q t).hours=Q.hours/\(je Q t).less=Q.less/\(je Q t).aY=Q.aY:=by
 unfold je;split<;>exact⟨rfl,rfl,rfl,rfl⟩
def aut{x:ak}{Q:Kn}{t:SD}{p n:Nat}(hx:x.Ok)(hQ:bP Q)(hp:p<x.pieces.length):((eg x 1 Q t).ap.getD p 0).testBit n=((Q.ap.getD p 0).testBit n||decide (n=mY t p)):=by
 have h:(eg x 1 Q t).ap=sY t x.pieces.length Q.ap:=by
  rw[<- (GM Q t).1];rfl
 rw[h,adQ,GC _ (by rw[hQ.ap];exact hx.dQ),decide_eq_true hp,Vt]
def aur{x:ak}{Q:Kn}{t:SD}{p n:Nat}(hx:x.Ok)(hQ:bP Q)(hp:p<x.pieces.length):((eg x 1 Q t).hours.getD p 0).testBit n=((Q.hours.getD p 0).testBit n||decide (n=uW t p)):=by
 have h:(eg x 1 Q t).hours=sJ t x.pieces.length Q.hours:=by
  rw[<- (GM Q t).2.1];rfl
 rw[h,acj,GC _ (by rw[hQ.hours];exact hx.dQ),decide_eq_true hp,Vt]
def auu{x:ak}{Q:Kn}{t:SD}{s n:Nat}(hx:x.Ok)(hQ:bP Q)(hs:s<x.aC.length):((eg x 2 Q t).aY.getD s 0).testBit n=((Q.aY.getD s 0).testBit n||decide (n=tj t s)):=by
 have h:(eg x 2 Q t).aY=nA t x.aC.length Q.aY:=by
  rw[<- (GM Q t).2.2.2];rfl
 rw[h,ad8,GC _ (by rw[hQ.aY];exact hx.dC),decide_eq_true hs,Vt]
def aa6{x:ak}{deep:Int}(hx:x.Ok){f:Kn->Bool}{g:SD->Bool}(h:∀Q t,bP Q->jd x t->f (eg x deep Q t)=(f Q||g t)):∀(ts:SO)(Q:Kn),bP Q->(∀t∈ts,jd x t)->f (ts.foldl (eg x deep) Q)=(f Q||ts.any g)
 |[],Q,_,_=>by simp
 |t::ts,Q,hQ,ht=>by
  rw[VO,aa6 hx h ts _ (Qm hx (ht t (by simp)) hQ) (λu hu=>ht u (by simp[hu])),h Q t hQ (ht t (by simp)),ZT,Bool.or_assoc]
def abo{x:ak}{deep:Int}{j:Nat}(hx:x.Ok)(hj:j<=3){t:SD}(ht:t∈fx x deep j):jd x t:=by
 obtain⟨h,h1,h2⟩:=T9.1 ht;obtain⟨ns,h3,h4⟩:=JI h2;exact((CC hx) j hj h h1).2 ns h3 t h4
def aoD{x:ak}{deep:Int}(hx:x.Ok){f:Kn->Bool}{g:SD->Bool}(h0:f Kn.zero=false)(h:∀Q t,bP Q->jd x t->f (eg x deep Q t)=(f Q||g t))(hj:∀F G hs,bP F->bP G->G.has=true->f (fW F hs G)=(f F||f G)){js:SE}{D:Kn}(gR:∀j∈js,j<=3)(hD:nH x deep js D):bP D/\f D=js.any λj=>(fx x deep j).any g:=by
 induction hD with
 |nil=>exact⟨Fh,by simpa using h0⟩
 |@snoc js F j hs hJ hp ih=>
  obtain⟨nw,lP⟩:=ih λi hi=>gR i (by simp[hi]);have hj3:j<=3:=gR j (by simp);have aq:bP (iw x deep j):=QF hx ((CC hx) j hj3);refine⟨acR nw aq hp,?_⟩;have hw:f (iw x deep j)=(fx x deep j).any g:=by
   rw[JS,aa6 hx h _ _ Fh (λt ht=>abo hx hj3 ht),h0,Y_]
  rw[aw2,<- lP];simp only[ZT,List.any_nil,ZE];cases hG:(iw x deep j).has with
  |true=>rw[hj F _ hs nw aq hG,hw]
  |false=>
   have hn:fx x deep j=[]:=by
    rw[F9]at hG;simpa using hG
   rw[hn];unfold fW;rw[hG];simp
end Go.Gg.Tk
namespace Go.Gg
open Go.Gg.Tk
def II{x:ak}{deep:Int}(hx:x.Ok){f:Kn->Bool}{g:SD->Bool}(h0:f Kn.zero=false)(h:∀Q t,bP Q->jd x t->f (eg x deep Q t)=(f Q||g t))(hj:∀F G hs,bP F->bP G->G.has=true->f (fW F hs G)=(f F||f G)){D:Kn}(hD:ez x deep D):f D=true<->∃u∈pJ x deep,g (ek u)=true:=by
 obtain⟨p,js,h1,h2,h3,_⟩:=hD;have hp:=hx.am;have gR:∀j∈js,j<=3:=λj hm=>by
  have:=h2.mem_iff.1 hm;rw[UN]at this;omega
 rw[(aoD hx h0 h hj gR h3).2,U5];constructor
 ·rintro⟨j,a,b⟩
  obtain⟨t,c,d⟩:=U5.1 b;obtain⟨u,hu,rfl⟩:=(B4 hx h1 h2).1 ⟨j,a,c⟩;exact⟨u,hu,d⟩
 ·rintro⟨u,hu,d⟩
  obtain⟨j,a,c⟩:=(B4 hx h1 h2).2 ⟨u,hu,rfl⟩;exact⟨j,a,U5.2 ⟨_,c,d⟩⟩
def aoQ{x:ak}{D:Kn}{s n:Nat}(hx:x.Ok)(hD:ez x 2 D)(hs:s<x.aC.length):(D.aY.getD s 0).testBit n=true<->∃u∈bc x,tj (ek u) s=n:=by
 have aP:=hx.dC;have e:pJ x 2=bc x:=rfl;rw[<- e,II (f:=λK=>(K.aY.getD s 0).testBit n) (g:=λt=>decide (n=tj t s)) hx ?_ (λQ t hQ _=>auu hx hQ hs) (λF G mM hF hG hh=> ?_) hD]
 ·exact exists_congr λu=>and_congr_right λ_=>by rw[decide_eq_true_eq];exact eq_comm
 ·have:([0,0,0]:SE).getD s 0=0:=by
   match s,(show s<3 by omega)with
   |0,_=>rfl
   |1,_=>rfl
   |2,_=>rfl
  show (([0,0,0]:SE).getD s 0).testBit n=false;rw[this];exact XU n
 ·have e2:(fW F mM G).aY=ld F.aY G.aY:=by unfold fW;rw[if_pos hh]
  rw[e2];exact Jc (by rw[hF.aY,hG.aY])
def Kw{x:ak}{P:SD->TK}:(∃u∈pJ x 1,P u.aK u.ap)<->∃u∈bc x,P u.aK u.ap:=by
 constructor
 ·rintro⟨u,hu,hp⟩
  obtain⟨h,a,b⟩:=T9.1 hu;exact⟨u,T9.2 ⟨h,a,Ao b⟩,hp⟩
 ·rintro⟨u,hu,hp⟩
  obtain⟨h,a,b⟩:=T9.1 hu;obtain⟨ns,c,d⟩:=T9.1 b;obtain⟨os,c2,rfl⟩:=Uo.1 d;cases ho:nz h ns x.aC []with
  |nil=>rw[ho]at c2;cases c2
  |cons o os'=>
   refine⟨⟨h,ns,o⟩,T9.2 ⟨h,a,?_⟩,hp⟩;show _∈wH x h;refine T9.2 ⟨ns,c,?_⟩;unfold tu;rw[ho];simp
def FE{h:SD}:∀{ys:SY}{t ns:SD},ns∈lS h ys t->ns.length=t.length+ys.length
 |[],t,ns,hm=>by
  simp only[lS,Ub]at hm;subst hm;rfl
 |y::ys,t,ns,hm=>by
  simp only[lS,T9]at hm;obtain⟨n,_,hm⟩:=hm;have:=FE hm;simp at this⊢;omega
def wI{x:ak}(hx:x.Ok){u:Tr}(hu:u∈bc x):u.aK.length=1+x.hours.toNat/\u.ap.length=x.pieces.length:=by
 obtain⟨h,a,b⟩:=T9.1 hu;obtain⟨ns,c,d⟩:=T9.1 b;obtain⟨os,_,rfl⟩:=Uo.1 d;exact⟨(Bz _ _ _ (by simp) a).1,by simpa using FE c⟩
def x6{h:SD}(h4:h.length<=4):(cM h).length=4:=by simp[cM];omega
def ajA{x:ak}(hx:x.Ok){u:Tr}(hu:u∈bc x){p:Nat}(hp:p<x.pieces.length):mY (ek u) p=(u.ap.getD p 0-u.aK.headD 0).toNat:=by
 obtain⟨h1,h2⟩:=wI hx hu;have hh:=hx.hours;have h4:=x6 (h:=u.aK) (by omega);have cr:p<u.ap.length:=by omega
 have hg:(ek u)[4+p]?=some (((u.ap[p]-u.aK.headD 0).toNat:Nat):Int):=by
  unfold ek dq lg;rw[Te,Ud (by omega),h4,US,T4 (by simp;omega),T4 (by simpa using cr),Ut,Ut,Tw cr];rfl
 unfold mY;rw[Tf,hg,Tf,Tw cr];rfl
def QU{p:Nat}(hp:p<4):([0,0,0,0]:SE).getD p 0=0:=by
 match p,hp with
 |0,_=>rfl
 |1,_=>rfl
 |2,_=>rfl
 |3,_=>rfl
def aoP{x:ak}{D:Kn}{p n:Nat}(hx:x.Ok)(hD:ez x 1 D)(hp:p<x.pieces.length):(D.ap.getD p 0).testBit n=true<->∃u∈bc x,(u.ap.getD p 0-u.aK.headD 0).toNat=n:=by
 have lJ:=hx.dQ;rw[II (f:=λK=>(K.ap.getD p 0).testBit n) (g:=λt=>decide (n=mY t p)) hx ?_ (λQ t hQ _=>aut hx hQ hp) (λF G mM hF hG hh=> ?_) hD]
 ·rw[<- Kw (P:=λh ns=>(ns.getD p 0-h.headD 0).toNat=n)];refine exists_congr λu=>and_congr_right λhu=> ?_;obtain⟨h,a,b⟩:=T9.1 hu;have BW:u∈bc x:=T9.2 ⟨h,a,Ao b⟩;rw[decide_eq_true_eq,ajA hx BW hp];exact eq_comm
 ·show (([0,0,0,0]:SE).getD p 0).testBit n=false;rw[QU (by omega)];exact XU n
 ·have e2:(fW F mM G).ap=ld F.ap G.ap:=by unfold fW;rw[if_pos hh]
  rw[e2];exact Jc (by rw[hF.ap,hG.ap])
def adP{h:SD}:∀{ys:SY}{t ns:SD},ns∈lS h ys t->(∀n∈t,h.headD 0<=n)->∀n∈ns,h.headD 0<=n
 |[],t,ns,hm,ht=>by
  simp only[lS,Ub]at hm;subst hm;exact ht
 |y::ys,t,ns,hm,ht=>by
  simp only[lS,T9,Vl]at hm;obtain⟨n,⟨hn,_⟩,hm⟩:=hm;refine adP hm λk hk=> ?_;rcases Tv.1 hk with h'|h'
  ·exact ht k h'
  ·rw[Ub.1 h'];obtain⟨i,_,rfl⟩:=Uo.1 hn;omega
def afQ{x:ak}{u:Tr}(hu:u∈bc x):∀n∈u.ap,u.aK.headD 0<=n:=by
 obtain⟨h,a,b⟩:=T9.1 hu;obtain⟨ns,c,d⟩:=T9.1 b;obtain⟨os,_,rfl⟩:=Uo.1 d;exact adP c (by simp)
def ajz{x:ak}(hx:x.Ok){u:Tr}(hu:u∈bc x){p:Nat}(hp:p<x.pieces.length):uW (ek u) p=(iu u.aK (u.ap.getD p 0)).toNat:=by
 obtain⟨h1,h2⟩:=wI hx hu;have hh:=hx.hours;have h4:=x6 (h:=u.aK) (by omega);have cr:p<u.ap.length:=by omega
 have uk:=afQ hu u.ap[p] (W_ cr);have hg:(ek u)[4+p]?=some (((u.ap[p]-u.aK.headD 0).toNat:Nat):Int):=by
  unfold ek dq lg;rw[Te,Ud (by omega),h4,US,T4 (by simp;omega),T4 (by simpa using cr),Ut,Ut,Tw cr];rfl
 have aH:(ek u).take 4=cM u.aK:=by
  unfold ek dq;rw[Te,UA (by omega),Tx (by omega)]
 have h0:(ek u).getD 0 0=u.aK.headD 0:=by
  rw[<- Pp (by omega)];unfold ek dq;rw[Te,Tf,T4 (by omega),<- Tf]
 unfold uW;rw[aH,h0,Tf,hg,ad7 (by omega) (by omega),Tf,Tw cr];simp only[Ua];congr 2;omega
def aoN{x:ak}{D:Kn}{p n:Nat}(hx:x.Ok)(hD:ez x 1 D)(hp:p<x.pieces.length):(D.hours.getD p 0).testBit n=true<->∃u∈bc x,(iu u.aK (u.ap.getD p 0)).toNat=n:=by
 have lJ:=hx.dQ;rw[II (f:=λK=>(K.hours.getD p 0).testBit n) (g:=λt=>decide (n=uW t p)) hx ?_ (λQ t hQ _=>aur hx hQ hp) (λF G mM hF hG hh=> ?_) hD]
 ·rw[<- Kw (P:=λh ns=>(iu h (ns.getD p 0)).toNat=n)];refine exists_congr λu=>and_congr_right λhu=> ?_;obtain⟨h,a,b⟩:=T9.1 hu;have BW:u∈bc x:=T9.2 ⟨h,a,Ao b⟩;rw[decide_eq_true_eq,ajz hx BW hp];exact eq_comm
 ·show (([0,0,0,0]:SE).getD p 0).testBit n=false;rw[QU (by omega)];exact XU n
 ·have e2:(fW F mM G).hours=ld F.hours G.hours:=by unfold fW;rw[if_pos hh]
  rw[e2];exact Jc (by rw[hF.hours,hG.hours])
end Go.Gg
namespace Go.Gg.Tk
def HX{x:ak}:∀(d:Nat)(pre h:SD),h∈jD x d pre->h.take pre.length=pre
 |0,pre,h,hm=>by
  unfold jD at hm;split at hm
  ·rw[Ub]at hm;subst hm;exact Un
  ·cases hm
 |d+1,pre,h,hm=>by
  unfold jD at hm;split at hm
  ·obtain⟨n,_,hm⟩:=T9.1 hm;have:=HX d _ h hm;rw[Tt,UJ]at this;have h2:=congrArg (VN pre.length) this;rw[Wh,UA (Ts _),Un,Xz (by omega)]at h2;exact h2
  ·cases hm
def abX{x:ak}:∀(d:Nat)(pre:SD),(jD x d pre).Nodup
 |0,pre=>by
  unfold jD;split
  ·simp
  ·exact XM
 |d+1,pre=>by
  unfold jD;split
  ·unfold List.Nodup;rw[List.pairwise_flatMap];refine⟨λn _=>abX d _,?_⟩;refine Zb ?_ (Y1 (n:=x.am.toNat+1));intro a b eQ h ha g hb he;subst he;have h1:=HX d _ h ha;have h2:=HX d _ h hb;rw[Tt,UJ]at h1 h2;have h3:=h1.symm.trans h2;have:=List.append_cancel_left h3;simp at this;exact eQ (by omega)
  ·exact XM
def ab4(x:ak):(aM x).Nodup:=abX _ _
end Go.Gg.Tk
namespace Go.Gg
open Go.Gg.Tk
def auv(x:ak)(deep:Int)(Q:Kn)(t:SD):(eg x deep Q t).first=if Q.has=true then Q.first else t:=by
 have hB:(je Q t).first=if Q.has=true then Q.first else t:=by unfold je;split<;>rfl
 unfold eg;dsimp only;split
 ·exact hB
 ·split
  ·exact hB
  ·exact hB
def aa7{x:ak}{deep:Int}:∀(ts:SO)(Q:Kn),(ts.foldl (eg x deep) Q).first=if Q.has=true then Q.first else(match ts with|[]=>Q.first|t::_=>t)
 |[],Q=>by simp
 |t::ts,Q=>by
  rw[VO,aa7 ts,afz,if_pos rfl,auv]
def avl{x:ak}{deep:Int}{j:Nat}{t:SD}{l:SO}(h:fx x deep j=t::l):(iw x deep j).first=t:=by
 rw[JS,aa7,h];rfl
def aoA{Q G:Kn}{hs:SO}(h:G.has=true):(fW Q hs G).first=if Q.has=false\/tP G.first Q.first=true then G.first else Q.first:=by
 unfold fW;rw[if_pos h]
def aqZ{h:SD}{a b:Int}(hl:h.take 2=[a,b]):(cM h).take 4=a::b::((cM h).drop 2).take 2:=by
 match h,hl with
 |c::d::l,hl=>
  simp only[Xb,Z',ZS,and_true]at hl;obtain⟨rfl,rfl⟩:=hl;simp[cM]
def abp{x:ak}{deep:Int}{j:Nat}(hx:x.Ok)(hj:j<x.am.toNat+1){t:SD}(ht:t∈fx x deep j):∃l,t.take 4=x.first::(x.first+(j:Int))::l:=by
 rw[Ho hx hj]at ht;obtain⟨u,hu,rfl⟩:=Uo.1 ht;obtain⟨h,hm,hu⟩:=T9.1 hu;have hL:=abY hx hj hm;have ko:=ye (Ao hu);have h2:h.take 2=[x.first,x.first+(j:Int)]:=by
  unfold xC at hm;split at hm
  ·exact HX _ _ _ hm
  ·cases hm
 have e:(ek u).take 4=(cM h).take 4:=by
  unfold ek dq;rw[ko,Te,UA (by rw[x6 hL.hi];omega)]
 rw[e,aqZ h2];exact⟨_,rfl⟩
def alY{x:ak}{deep:Int}{i j:Nat}(hx:x.Ok)(hi:i<x.am.toNat+1)(hj:j<x.am.toNat+1)(kH:i≠j){t u:SD}(ht:t∈fx x deep i)(hu:u∈fx x deep j):tP t u=decide (i<j):=by
 obtain⟨l,h1⟩:=abp hx hi ht;obtain⟨m,h2⟩:=abp hx hj hu;have aF:t.take 4≠u.take 4:=by
  rw[h1,h2];simp only[ne_eq,ZS,true_and,not_and];intro h;omega
 unfold tP;rw[if_neg aF,h1,h2];by_cases h:i<j
 ·have e1:ni (x.first+(i:Int)) (x.first+(j:Int))= -1:=by unfold ni;rw[if_pos (by omega)]
  have e0:ni x.first x.first=0:=by unfold ni;simp
  simp[oP,e0,e1,h]
 ·have e1:ni (x.first+(i:Int)) (x.first+(j:Int))=1:=by unfold ni;rw[if_neg (by omega),if_pos (by omega)]
  have e0:ni x.first x.first=0:=by unfold ni;simp
  simp[oP,e0,e1,h]
def acT{x:ak}{deep:Int}{js:SE}{D:Kn}(hx:x.Ok)(hJ:nH x deep js D)(hn:js.Nodup)(hj:∀j∈js,j<x.am.toNat+1)(hh:D.has=true):∃j∈js,∃t l,fx x deep j=t::l/\D.first=t/\∀i∈js,fx x deep i≠[]->j<=i:=by
 induction hJ with
 |nil=>cases hh
 |@snoc js Q j hs hJ hp ih=>
  have jm:js.Nodup:=(V_.1 hn).1;have mI:j∉js:=λh=>(V_.1 hn).2.2 j h j (by simp) rfl;have ih':=ih jm (λi hi=>hj i (by simp[hi]));by_cases hG:fx x deep j=[]
  ·have hg:(iw x deep j).has=false:=(by rw[F9,hG];rfl);have hD:fW Q hs (iw x deep j)=Q:=(by unfold fW;rw[hg];rfl);rw[hD]at hh⊢;obtain⟨i,h1,t,l,h2,h3,h4⟩:=ih' hh;refine⟨i,by simp[h1],t,l,h2,h3,λk hk aF=> ?_⟩;rcases Tv.1 hk with hk|hk
   ·exact h4 k hk aF
   ·rw[Ub]at hk;subst hk;exact absurd hG aF
  ·obtain⟨t,l,ht⟩:∃t l,fx x deep j=t::l:=by
    cases hg:fx x deep j with
    |nil=>exact absurd hg hG
    |cons t l=>exact⟨t,l,rfl⟩
   have hg:(iw x deep j).has=true:=(by rw[F9,ht];rfl);rw[aoA hg,avl ht];by_cases hQ:Q.has=true
   ·obtain⟨i,h1,t',l',h2,h3,h4⟩:=ih' hQ;have hb:tP t Q.first=decide (j<i):=by
     rw[h3];exact alY hx (hj j (by simp)) (hj i (by simp[h1])) (λe=>mI (e▸h1)) (by rw[ht];simp) (by rw[h2];simp)
    by_cases kH:j<i
    ·rw[if_pos (.inr (by rw[hb];simpa using kH))];refine⟨j,by simp,t,l,ht,rfl,λk hk aF=> ?_⟩;rcases Tv.1 hk with hk|hk
     ·have:=h4 k hk aF;omega
     ·rw[Ub]at hk;omega
    ·rw[if_neg (by rw[hQ,hb];simpa using kH)];refine⟨i,by simp[h1],t',l',h2,h3,λk hk aF=> ?_⟩;rcases Tv.1 hk with hk|hk
     ·exact h4 k hk aF
     ·rw[Ub]at hk;omega
   ·rw[if_pos (.inl (by simpa using hQ))];refine⟨j,by simp,t,l,ht,rfl,λk hk aF=> ?_⟩;rcases Tv.1 hk with hk|hk
    ·have hQf:Q.has=js.any λj=> !(fx x deep j).isEmpty:=acU hJ;exfalso;apply hQ;rw[hQf,U5];refine⟨k,hk,?_⟩;cases hg:fx x deep k with
     |nil=>exact absurd hg aF
     |cons=>rfl
    ·rw[Ub]at hk;omega
def abP{α:Type}{f:Nat->List α}{j:Nat}{t:α}{l:List α}:∀{n:Nat},j<n->f j=t::l->(∀i,i<j->f i=[])->((T1 n).flatMap f).head?=some t
 |0,h,_,_=>absurd h (by omega)
 |n+1,h,hf,h0=>by
  rw[VW,Vf,XQ];by_cases hj:j<n
  ·rw[abP hj hf h0];rfl
  ·have e:j=n:=(by omega);subst e;have:(T1 j).flatMap f=[]:=by
    rw[XR];intro i hi;exact h0 i (UN.1 hi)
   rw[this];simp[hf]
def MT{α β:Type}{f g:α->List β}:∀(l:List α),(∀a,(f a).head?=(g a).head?)->(l.flatMap f).head?=(l.flatMap g).head?
 |[],_=>rfl
 |a::l,h=>by
  rw[UV,UV,XQ,XQ,h a,MT l h]
def afy{α:Type}(l:List α):(l.take 1).head?=l.head?:=by cases l<;>rfl
def ahh{x:ak}{deep:Int}:(pJ x deep).head?=(bc x).head?:=by
 refine MT _ λh=> ?_;have h1:(wH x h).head?=(gY x h).head?:=MT _ λns=>afy _;unfold tr;split
 ·rw[afy,h1]
 ·split
  ·exact h1
  ·rfl
def aoK{x:ak}{deep:Int}{D:Kn}(hx:x.Ok)(h:ez x deep D)(hh:D.has=true):∃u l,bc x=u::l/\D.first=ek u:=by
 obtain⟨p,js,h1,h2,h3,_⟩:=h;have mL:x.am.toNat=p:=by omega
 have hj:∀j∈js,j<x.am.toNat+1:=λj hj=>by rw[mL];exact UN.1 (h2.mem_iff.1 hj)
 obtain⟨j,a,t,l,b,c,d⟩:=acT hx h3 (h2.nodup_iff.2 Y1) hj hh;have hd:((T1 (p+1)).flatMap λj=>fx x deep j).head?=some t:=by
  refine abP (UN.1 (h2.mem_iff.1 a)) b λi hi=> ?_;cases hg:fx x deep i with
  |nil=>rfl
  |cons v w=>
   have:=d i (h2.mem_iff.2 (UN.2 (by have:=hj j a;omega))) (by rw[hg];simp);omega
 have he:((T1 (p+1)).flatMap λj=>fx x deep j)=(pJ x deep).map ek:=by
  unfold pJ;rw[<- af5 hx,mL,WQ];exact vw λi hi=>Ho hx (by rw[mL];exact UN.1 hi)
 rw[he,List.head?_map,ahh]at hd;cases ht:bc x with
 |nil=>rw[ht]at hd;cases hd
 |cons u l=>
  rw[ht]at hd;simp only[av_,VS,Us]at hd;exact⟨u,l,rfl,by rw[c,hd]⟩
namespace Tk
def live (x:ak):List (SD):=(aM x).filter λh=> !(gY x h).isEmpty
def cnt (x:ak):Int:=(live x).length
def uH{x:ak}{h:SD}:h∈live x<->∃u∈bc x,u.aK=h:=by
 unfold live;rw[Vl];constructor
 ·rintro⟨h1,h2⟩
  cases ht:gY x h with
  |nil=>rw[ht]at h2;cases h2
  |cons u l=>
   have hu:u∈gY x h:=(by rw[ht];simp);exact⟨u,T9.2 ⟨h,h1,hu⟩,ye hu⟩
 ·rintro⟨u,hu,rfl⟩
  obtain⟨h,a,b⟩:=T9.1 hu;have e:=ye b;subst e;refine⟨a,?_⟩;cases ht:gY x u.aK with
  |nil=>rw[ht]at b;cases b
  |cons=>rfl
def Ng{x:ak}{h:SD}(hm:h∈aM x):h.length=1+x.hours.toNat:=(Bz _ _ _ (by simp) hm).1
def Pr{h:SD}{n:Nat}(hl:h.length=n):(cM h).take n=h:=by
 subst hl;unfold cM;rw[UA (Ts _),Un]
def apA(x:ak):((live x).map cM).Nodup:=by
 have h:(live x).Nodup:=(ab4 x).filter _;rw[Vz,YJ];have h2:=Vz.1 h;refine Yy ?_ h2;intro a b ha hb aF e;have la:=Ng ((Vl.1 ha).1);have lb:=Ng ((Vl.1 hb).1);apply aF;rw[<- Pr la,e,Pr lb]
end Tk
def Lq{x:ak}(hx:x.Ok){u:Tr}(hu:u∈bc x):(ek u).take 4=cM u.aK:=by
 have hl:=(wI hx hu).1;have hh:=hx.hours;unfold ek dq;rw[Te,UA (by rw[x6 (by omega)];omega),Tx (by rw[x6 (by omega)];omega)]
def acX{x:ak}{D:Kn}(hx:x.Ok)(h:ez x 0 D):D.aM.Perm ((live x).map cM):=by
 have hn:D.aM.Nodup:=by obtain⟨p,js,h1,h2,h3,_⟩:=h;exact aoF h3
 refine(List.perm_ext_iff_of_nodup hn (apA x)).2 λg=> ?_;rw[aoM hx h,Uo];constructor
 ·rintro⟨u,hu,rfl⟩
  exact⟨u.aK,uH.2 ⟨u,hu,rfl⟩,(Lq hx hu).symm⟩
 ·rintro⟨h,hm,rfl⟩
  obtain⟨u,hu,rfl⟩:=uH.1 hm;exact⟨u,hu,(Lq hx hu).symm⟩
def wl{x:ak}{deep:Int}{D:Kn}(hx:x.Ok)(h:ez x deep D):D.has=false<->bc x=[]:=by
 rw[Ff hx h];cases bc x<;>simp
def OU{x:ak}:live x=[]<->bc x=[]:=by
 constructor
 ·intro h;cases ht:bc x with
  |nil=>rfl
  |cons u l=>
   have:u.aK∈live x:=uH.2 ⟨u,by rw[ht];simp,rfl⟩;rw[h]at this;cases this
 ·intro h;cases hl:live x with
  |nil=>rfl
  |cons a l=>
   obtain⟨u,hu,_⟩:=uH.1 (show a∈live x by rw[hl];simp);rw[h]at hu;cases hu
def count_eq{x:ak}{D:Kn}(hx:x.Ok)(h:ez x 0 D):(if D.has then(D.aM.length:Int)else 0)=cnt x:=by
 cases hD:D.has with
 |true=>rw[if_pos rfl,(acX hx h).length_eq,Ue];rfl
 |false=>
  have:=OU.2 ((wl hx h).1 hD);simp[cnt,this]
def aqa(a b:Int):min a b=a\/min a b=b:=by omega
def ap5(a b:Int):max a b=a\/max a b=b:=by omega
def RO(v:SD->Int):∀(hs:SO)(b:fF),b.is=true->(hs.foldl (λb h=>b.add (v h)) b).is=true/\((hs.foldl (λb h=>b.add (v h)) b).lo=b.lo\/∃h∈hs,(hs.foldl (λb h=>b.add (v h)) b).lo=v h)/\(hs.foldl (λb h=>b.add (v h)) b).lo<=b.lo/\(∀h∈hs,(hs.foldl (λb h=>b.add (v h)) b).lo<=v h)/\((hs.foldl (λb h=>b.add (v h)) b).hi=b.hi\/∃h∈hs,(hs.foldl (λb h=>b.add (v h)) b).hi=v h)/\b.hi<=(hs.foldl (λb h=>b.add (v h)) b).hi/\∀h∈hs,v h<=(hs.foldl (λb h=>b.add (v h)) b).hi
 |[],b,hb=>⟨hb,.inl rfl,Xw _,by simp,.inl rfl,Xw _,by simp⟩
 |g::hs,b,hb=>by
  have dO:b.add (v g)=⟨min b.lo (v g),max b.hi (v g),true⟩:=by unfold fF.add;rw[if_pos hb]
  obtain⟨h1,h2,h3,h4,h5,h6,h7⟩:=RO v hs (b.add (v g)) (by rw[dO]);rw[VO];generalize hs.foldl (λb h=>b.add (v h)) (b.add (v g))=R at*;rw[dO]at h2 h3 h5 h6;dsimp only at h2 h3 h5 h6;have m1:min b.lo (v g)=b.lo\/min b.lo (v g)=v g:=aqa _ _;have m2:max b.hi (v g)=b.hi\/max b.hi (v g)=v g:=ap5 _ _;refine⟨h1,?_,YF h3 (Int.min_le_left _ _),?_,?_,YF (Int.le_max_left _ _) h6,?_⟩
  ·rcases h2 with h2|⟨h,a,c⟩
   ·rcases m1 with m1|m1
    ·exact .inl (h2.trans m1)
    ·exact .inr ⟨g,by simp,h2.trans m1⟩
   ·exact .inr ⟨h,by simp[a],c⟩
  ·intro h hm;rcases Tm.1 hm with rfl|hm
   ·exact YF h3 (Int.min_le_right _ _)
   ·exact h4 h hm
  ·rcases h5 with h2|⟨h,a,c⟩
   ·rcases m2 with m1|m1
    ·exact .inl (h2.trans m1)
    ·exact .inr ⟨g,by simp,h2.trans m1⟩
   ·exact .inr ⟨h,by simp[a],c⟩
  ·intro h hm;rcases Tm.1 hm with rfl|hm
   ·exact YF (Int.le_max_right _ _) h6
   ·exact h7 h hm
namespace Tk
structure Bounds (hs:List (SD))(v:SD->Int)(lo hi:Int):Prop where
 IG:∃h∈hs,lo=v h
 le:∀h∈hs,lo<=v h
 IF:∃h∈hs,hi=v h
 ge:∀h∈hs,v h<=hi
def Bounds.uniq{hs:SO}{v:SD->Int}{a b c d:Int}(h:Bounds hs v a b)(k:Bounds hs v c d):a=c/\b=d:=by
 obtain⟨g1,m1,e1⟩:=h.IG;obtain⟨g2,m2,e2⟩:=h.IF;obtain⟨g3,m3,e3⟩:=k.IG;obtain⟨g4,m4,e4⟩:=k.IF;have:=h.le _ m3;have:=h.ge _ m4;have:=k.le _ m1;have:=k.ge _ m2;omega
def Bounds.aqJ{hs gs:SO}{v:SD->Int}{a b:Int}(h:Bounds hs v a b)(hp:hs.Perm gs):Bounds gs v a b:=by
 obtain⟨g1,m1,e1⟩:=h.IG;obtain⟨g2,m2,e2⟩:=h.IF;exact⟨⟨g1,hp.mem_iff.1 m1,e1⟩,λg hg=>h.le g (hp.mem_iff.2 hg),⟨g2,hp.mem_iff.1 m2,e2⟩,λg hg=>h.ge g (hp.mem_iff.2 hg)⟩
end Tk
def aiz{hs:SO}(v:SD->Int)(aF:hs≠[]):Bounds hs v (hs.foldl (λ(b:fF) h=>b.add (v h)) (⟨0,0,false⟩:fF)).lo (hs.foldl (λ(b:fF) h=>b.add (v h)) (⟨0,0,false⟩:fF)).hi:=by
 cases hs with
 |nil=>exact absurd rfl aF
 |cons g hs=>
  rw[VO,show fF.add ⟨0,0,false⟩ (v g)=⟨v g,v g,true⟩from rfl];obtain⟨_,h2,h3,h4,h5,h6,h7⟩:=RO v hs ⟨v g,v g,true⟩ rfl;generalize hs.foldl (λ(b:fF) h=>b.add (v h)) (⟨v g,v g,true⟩:fF)=R at*;dsimp only at h2 h3 h5 h6;refine⟨?_,?_,?_,?_⟩
  ·rcases h2 with h2|⟨h,a,c⟩
   ·exact⟨g,by simp,h2⟩
   ·exact⟨h,by simp[a],c⟩
  ·intro h hm;rcases Tm.1 hm with rfl|hm
   ·exact h3
   ·exact h4 h hm
  ·rcases h5 with h2|⟨h,a,c⟩
   ·exact⟨g,by simp,h2⟩
   ·exact⟨h,by simp[a],c⟩
  ·intro h hm;rcases Tm.1 hm with rfl|hm
   ·exact h6
   ·exact h7 h hm
open Go.Gg.Tk
def IP{t:SD}{p:Nat}{l:SE}:∀q,(qn t p q l).length=l.length
 |0=>rfl
 |q+1=>by
  unfold qn;split
  ·rw[AH,IP q]
  ·exact IP q
def ada{t:SD}{p i n:Nat}{l:SE}(hp:p<l.length):∀q,((qn t p q l).getD i 0).testBit n=((l.getD i 0).testBit n||(decide (i=p)&&(decide (n<q)&&decide (t.getD (4+p) 0<t.getD (4+n) 0))))
 |0=>by simp[qn]
 |q+1=>by
  have ih:=ada (t:=t) (i:=i) (n:=n) hp q;unfold qn;split
  ·rename_i h;rw[Rb (by rw[IP];exact hp),ih];by_cases hn:n=q
   ·subst hn;rw[decide_eq_true h,decide_eq_true (Vv n),decide_eq_false (axA n),decide_eq_true (rfl:n=n)];simp only[Wj,WJ,ZE,Bool.and_true]
   ·have e:decide (n<q+1)=decide (n<q):=(by rw[Vh];simp only[decide_eq_true_eq];omega);rw[e,decide_eq_false hn,WJ,ZE]
  ·rename_i h;rw[ih];by_cases hn:n=q
   ·subst hn;simp only[decide_eq_false h,WJ]
   ·have e:decide (n<q+1)=decide (n<q):=(by rw[Vh];simp only[decide_eq_true_eq];omega);rw[e]
def ac8{t:SD}{k:Nat}{l:SE}:∀p,(qk t k p l).length=l.length
 |0=>rfl
 |p+1=>by unfold qk;rw[IP,ac8 p]
def ac7{t:SD}{k i n:Nat}{l:SE}:∀p,p<=l.length->((qk t k p l).getD i 0).testBit n=((l.getD i 0).testBit n||(decide (i<p)&&(decide (n<k)&&decide (t.getD (4+i) 0<t.getD (4+n) 0))))
 |0,_=>by simp[qk]
 |p+1,h=>by
  unfold qk;rw[ada (by rw[ac8];omega),ac7 p (by omega)];by_cases hi:i=p
  ·subst hi;simp
  ·have e:(i<p+1)<->i<p:=(by omega);simp[hi,e]
def aus{x:ak}{Q:Kn}{t:SD}{p q:Nat}(hx:x.Ok)(hQ:bP Q)(hp:p<x.pieces.length)(hq:q<x.pieces.length):((eg x 1 Q t).less.getD p 0).testBit q=((Q.less.getD p 0).testBit q||decide (t.getD (4+p) 0<t.getD (4+q) 0)):=by
 have h:(eg x 1 Q t).less=qk t x.pieces.length x.pieces.length Q.less:=by
  rw[<- (GM Q t).2.2.1];rfl
 rw[h,ac7 _ (by rw[hQ.less];exact hx.dQ),decide_eq_true hp,decide_eq_true hq,Vt,Vt]
def Ln{x:ak}(hx:x.Ok){u:Tr}(hu:u∈bc x){p:Nat}(hp:p<x.pieces.length):(ek u).getD (4+p) 0=u.ap.getD p 0-u.aK.headD 0:=by
 obtain⟨h1,h2⟩:=wI hx hu;have hh:=hx.hours;have h4:=x6 (h:=u.aK) (by omega);have cr:p<u.ap.length:=by omega
 have uk:=afQ hu u.ap[p] (W_ cr);have hg:(ek u)[4+p]?=some (((u.ap[p]-u.aK.headD 0).toNat:Nat):Int):=by
  unfold ek dq lg;rw[Te,Ud (by omega),h4,US,T4 (by simp;omega),T4 (by simpa using cr),Ut,Ut,Tw cr];rfl
 rw[Tf,hg,Tf,Tw cr];simp only[Ua];omega
def aoO{x:ak}{D:Kn}{p q:Nat}(hx:x.Ok)(hD:ez x 1 D)(hp:p<x.pieces.length)(hq:q<x.pieces.length):(D.less.getD p 0).testBit q=true<->∃u∈bc x,u.ap.getD p 0<u.ap.getD q 0:=by
 have lJ:=hx.dQ;rw[II (f:=λK=>(K.less.getD p 0).testBit q) (g:=λt=>decide (t.getD (4+p) 0<t.getD (4+q) 0)) hx ?_ (λQ t hQ _=>aus hx hQ hp hq) (λF G mM hF hG hh=> ?_) hD]
 ·rw[<- Kw (P:=λ_ ns=>ns.getD p 0<ns.getD q 0)];refine exists_congr λu=>and_congr_right λhu=> ?_;obtain⟨h,a,b⟩:=T9.1 hu;have BW:u∈bc x:=T9.2 ⟨h,a,Ao b⟩;rw[decide_eq_true_eq,Ln hx BW hp,Ln hx BW hq];omega
 ·show (([0,0,0,0]:SE).getD p 0).testBit q=false;rw[QU (by omega)];exact XU q
 ·have e2:(fW F mM G).less=ld F.less G.less:=by unfold fW;rw[if_pos hh]
  rw[e2];exact Jc (by rw[hF.less,hG.less])
def Pl{h ns:SD}:∀{ss:SY}{t os:SE},os∈nz h ns ss t->(∀p∈t,p<ns.length)->os.length=t.length+ss.length/\∀p∈os,p<ns.length
 |[],t,os,hm,ht=>by
  simp only[nz,Ub]at hm;subst hm;exact⟨rfl,ht⟩
 |s::ss,t,os,hm,ht=>by
  simp only[nz,T9,Vl,UN]at hm;obtain⟨p,⟨hp,_⟩,hm⟩:=hm;have:=Pl hm λq hq=>by
   rcases Tv.1 hq with hq|hq
   ·exact ht q hq
   ·rw[Ub.1 hq];exact hp
  refine⟨?_,this.2⟩;rw[this.1];simp;omega
def JJ{x:ak}(hx:x.Ok){u:Tr}(hu:u∈bc x):u.bR.length=x.aC.length/\∀p∈u.bR,p<x.pieces.length:=by
 have h2:=(wI hx hu).2;obtain⟨h,a,b⟩:=T9.1 hu;obtain⟨ns,c,d⟩:=T9.1 b;obtain⟨os,e,rfl⟩:=Uo.1 d;have:=Pl e (by simp);dsimp only at h2⊢;rw[<- h2];exact⟨by simpa using this.1,this.2⟩
def ajB{x:ak}(hx:x.Ok){u:Tr}(hu:u∈bc x){s:Nat}(hs:s<x.aC.length):tj (ek u) s=u.bR.getD s 0:=by
 obtain⟨h1,h2⟩:=wI hx hu;have h3:=(JJ hx hu).1;have hh:=hx.hours;have lJ:=hx.dQ;have h4:=x6 (h:=u.aK) (by omega);have cu:s<u.bR.length:=by omega
 have hg:(ek u)[8+s]?=some ((u.bR[s]:Nat):Int):=by
  unfold ek dq lg;have h8:(cM u.aK++((u.ap.map λn=>(n-u.aK.headD 0).toNat).map (λn:Nat=>(n:Int))++UP (4-(u.ap.map λn=>(n-u.aK.headD 0).toNat).length) (-1))).length=8:=by simp[h4];omega
  rw[Ud (by omega),h8,US,T4 (by simpa using cu),Ut,Tw cu];rfl
 unfold tj;rw[Tf,hg,Tf,Tw cu];rfl
namespace Tk
def yC (x:ak)(f:Tr->Bool):Bool:=(bc x).any f
def rU{x:ak}{f:Tr->Bool}:yC x f=true<->∃u∈bc x,f u=true:=U5
def fi (f:Nat->Bool)(more:Int)(i:Nat):SD:=((T1 i).filter f).map λn:Nat=>(n:Int)+more
def rA (x:ak)(p n:Nat):Bool:=yC x λu=>decide ((u.ap.getD p 0-u.aK.headD 0).toNat=n)
def uq (x:ak)(p n:Nat):Bool:=yC x λu=>decide ((iu u.aK (u.ap.getD p 0)).toNat=n)
def uF (x:ak)(p q:Nat):Bool:=yC x λu=>decide (u.ap.getD p 0<u.ap.getD q 0)
def s7 (x:ak)(s q:Nat):Bool:=yC x λu=>decide (u.bR.getD s 0=q)
def Cd (x:ak)(s q:Nat):Bool:=yC x λu=> !decide (u.bR.getD s 0=q)
def OR{s:Nat}{f:Nat->Bool}{more:Int}{i:Nat}(h:∀n,n<i->s.testBit n=f n):fX s more i=fi f more i:=by
 unfold fX fi;congr 1;exact Wm λn hn=>h n (UN.1 hn)
end Tk
def aqx{x:ak}{D:Kn}{p:Nat}(hx:x.Ok)(hD:ez x 1 D)(hp:p<x.pieces.length)(n:Nat):(D.ap.getD p 0).testBit n=rA x p n:=by
 rw[Vh,aoP hx hD hp];unfold rA;rw[rU];simp only[decide_eq_true_eq]
def anA{x:ak}{D:Kn}{p:Nat}(hx:x.Ok)(hD:ez x 1 D)(hp:p<x.pieces.length)(n:Nat):(D.hours.getD p 0).testBit n=uq x p n:=by
 rw[Vh,aoN hx hD hp];unfold uq;rw[rU];simp only[decide_eq_true_eq]
def adc{x:ak}{D:Kn}{p q:Nat}(hx:x.Ok)(hD:ez x 1 D)(hp:p<x.pieces.length)(hq:q<x.pieces.length):(D.less.getD p 0).testBit q=uF x p q:=by
 rw[Vh,aoO hx hD hp hq];unfold uF;rw[rU];simp only[decide_eq_true_eq]
def Ps{x:ak}{D:Kn}{s:Nat}(hx:x.Ok)(hD:ez x 2 D)(hs:s<x.aC.length)(n:Nat):(D.aY.getD s 0).testBit n=s7 x s n:=by
 rw[Vh,aoQ hx hD hs];unfold s7;rw[rU];refine exists_congr λu=>and_congr_right λhu=> ?_;rw[ajB hx hu hs,decide_eq_true_eq]
def aq2{x:ak}{D:Kn}{s q:Nat}(hx:x.Ok)(hD:ez x 2 D)(hs:s<x.aC.length)(hh:D.has=true):(D.aY.getD s 0!=2^q)=Cd x s q:=by
 have hb:=Ps hx hD hs;rw[Vh,bne_iff_ne];unfold Cd;rw[rU];constructor
 ·intro aF;obtain⟨u,hu⟩:∃u,u∈bc x:=by
   rw[Ff hx hD]at hh;cases ht:bc x with
   |nil=>rw[ht]at hh;cases hh
   |cons u l=>exact⟨u,by simp⟩
  by_cases hu1:u.bR.getD s 0=q
  ·refine Uz λfS=>aF ?_;apply Nat.eq_of_testBit_eq;intro n;rw[hb,W8,Vh,decide_eq_true_eq];unfold s7;rw[rU];constructor
   ·rintro⟨v,hv,e⟩
    rw[decide_eq_true_eq]at e;refine Uz λuu=>fS ⟨v,hv,?_⟩;rw[e];simp;exactλh=>uu h.symm
   ·rintro rfl
    exact⟨u,hu,by rw[decide_eq_true_eq];exact hu1⟩
  ·exact⟨u,hu,by simpa using hu1⟩
 ·rintro⟨u,hu,h⟩ he
  have hp:s7 x s (u.bR.getD s 0)=true:=by
   unfold s7;rw[rU];exact⟨u,hu,by simp⟩
  rw[<- hb,he,W8,decide_eq_true_eq]at hp;rw[hp]at h;simp at h
def aq0{x:ak}{D:Kn}{s q:Nat}(hx:x.Ok)(hD:ez x 2 D)(hs:s<x.aC.length):(if D.has then vM ((D.aY.getD s 0).testBit q) (D.aY.getD s 0!=2^q)else 0)=if(bc x).isEmpty then 0 else vM (s7 x s q) (Cd x s q):=by
 have hh:=Ff hx hD;cases Mg:D.has with
 |true=>
  rw[Mg]at hh;have:(bc x).isEmpty=false:=by simpa using hh.symm
  rw[this,if_pos rfl,Ps hx hD hs,aq2 hx hD hs Mg];rfl
 |false=>
  rw[Mg]at hh;have:(bc x).isEmpty=true:=by simpa using hh.symm
  rw[this];rfl
def aig{x:ak}{D:Kn}{a b:Nat}(hx:x.Ok)(hD:ez x 1 D)(ha:a<x.pieces.length)(hb:b<x.pieces.length):(if D.has then vM ((D.less.getD a 0).testBit b) ((D.less.getD b 0).testBit a)else 0)=if(bc x).isEmpty then 0 else vM (uF x a b) (uF x b a):=by
 have hh:=Ff hx hD;rw[adc hx hD ha hb,adc hx hD hb ha,hh];cases (bc x).isEmpty<;>rfl
def RG{x:ak}{deep:Int}{D:Kn}(hx:x.Ok)(hD:ez x deep D):dN D=if(bc x).isEmpty then 11 else 0:=by
 have hh:=Ff hx hD;unfold dN;rw[hh];cases (bc x).isEmpty<;>rfl
open Go.Conc Go.Proofs Go.Gg.Tk
def F8{l:SC}{a b:AV}(h:Wk a b):rS (l++[a]) (l++[b]):=by
 induction l with
 |nil=>exact .cons h .nil
 |cons x l ih=>exact .cons (Wk.refl _) ih
def Fu(n m k:Nat)(bs:SO):Lt n (.sl m (bs.map aO) (.opn k))=(k<n):=by
 rw[adp,eq_iff_iff];refine⟨λh=>h.1,λh=>⟨h,λa ha=> ?_⟩⟩;have:=B6 n bs;rw[lr,pq]at this;exact this.mpr trivial a ha
def wL:gZ (UO none 0 0) 1=[.sl 0 [] .exact]:=rfl
def ap4{α β:Type}{xs:List α}{i:Nat}{x:α}(f:α->β)(h:xs[i]?=some x):(xs.take (i+1)).map f=(xs.take i).map f++[f x]:=by
 obtain⟨hj,rfl⟩:=Tq.1 h;rw[Wx hj,Uq];rfl
def EC{H:SA}(hH:bJ H)(n sz:Nat)(el:TypeId):bJ (H++[.tail n sz el]):=BD hH λz hz m=>by rw[Ub.1 hz];trivial
section
variable {lv:Bool}
end
namespace Tk
def jn (l:SD):Nat:=if l.length=0 then 0 else(l.getD (l.length-1) 0).toNat+1
def oB (n:Nat)(l:SD)(j:Nat):List (SD):=(T1 j).map λj:Nat=>l++[((jn l+j:Nat):Int)]
def oF (n:Nat):Nat->List (SD)
 |0=>[[]]
 |i+1=>oF n i++oB n ((oF n i).getD i []) (n-jn ((oF n i).getD i []))
def xT (n:Nat):List (SD):=oF n (2^n)
def aoU(n:Nat)(l:SD)(j:Nat):oB n l (j+1)=oB n l j++[l++[((jn l+j:Nat):Int)]]:=by
 unfold oB;rw[VW,Uq];rfl
def aqU:∀n,n<4->(∀i,i<2^n->i<(oF n i).length/\(∀l∈oF n i,l.length<=3/\∀y∈l,0<=y/\y<n))/\(∀i,i<2^n+1->(oF n i).length<=8)/\(oF n (2^n)).length=2^n:=by decide+kernel
end Tk
section
variable {lv:Bool}{H:SA}{k kp:SF}
def ak7{ns:SD}{e:End}(hn:ns.length<=2^20)(h0:ns=[]->k (.sl 0 [] .exact) H)(hk:k (.sl ns.length (ns.map iv) (.opn H.length)) (H++[.tail ns.length 1 3])):ba lv S_ 94 H [.sl ns.length (ns.map iv) e] k kp:=by
 refine bH (rs:=[.tmp 2]) (nt:=8) Tryz.f94 λhH hA=> ?_;simp only[bm,Tu];refine ah ?_;refine ah ?_;intro b hb;refine aB ?_;refine⟨λh=> ?_,λh=> ?_⟩
 ·
  refine ah ?_;refine aT ?_;have:ns=[]:=by
   cases ns with
   |nil=>rfl
   |cons x xs=>rw[hb (by simp)]at h;cases h
  exact jS (H':=H) (G:=[]) (Wk.refl _) (by simp) (Ts _) hH (by simp[O1]) (h0 this)
 ·
  refine aE ?_;refine ah ?_;refine⟨by omega,?_⟩;refine aT ?_;exact b8 hk
def akU{n:Nat}(hn:n<=3)(hk:k (lr (xT n)) H):ba lv S_ 70 H [iv n] k kp:=by
 refine bH (rs:=[.tmp 2]) (nt:=44) Tryz.f70 λhH hA=> ?_;simp only[bm,Tu];obtain⟨lE,jj,nm⟩:=aqU n (by omega);refine ah ?_;refine ab ?_;simp only[seval,wL,z9]
 (repeat apply fu);refine nh (t:=3) (sz:=1) (el:=22) (by simp only[seval]<;>rfl) ?_
 refine ah ?_;refine bF ?_;refine ej (2^n) (λi:Nat=>[(3,.sl (oF n i).length ((oF n i).map aO) (.opn H.length)),(4,iv i)]) (λi=>H++[.tail (oF n i).length 1 22]) (λi=>True) (λ_ _=>rfl) (by simp only[seval];simp[bh,Wk.refl];exact Ap (l:=[.sl 0 [] .exact]) (l':=[aO []]) rfl (rS.cons (ff _ _ _) .nil).at) rfl (λ_ _ _=>by simp) trivial (λbz bE i ce _ R hR=> ?_);clear bz bE;have bK:i<2^n->Tg.wrap ((i:Int)+1)=((i+1:Nat):Int):=λh=>by
  have:2^n<=2^3:=VY (by omega) hn;rw[a_ _ (by omega)];rfl
 refine ah ?_;refine aB ?_;refine⟨λh=> ?_,λh=> ?_⟩
 ·have bk:i<2^n:=by
   rcases Z_ i (2^n)with h'|h'
   ·exact h'
   ·have:i=2^n:=(by omega);subst this;rw[nm]at h;omega
  obtain⟨g1,g2⟩:=lE i bk;have g3:=jj i (by omega);have bK:=bK bk;obtain⟨l,hl⟩:=bA g1;have EQ:oF n (i+1)=oF n i++oB n l (n-jn l):=by
   rw[oF,Tf,hl];rfl
  obtain⟨Nl,hly⟩:=g2 l (uI hl);generalize oF n i=o at EQ hl g1 g3 hR⊢;refine aE ?_;refine ab ?_;simp only[seval,wF hl,jx g1];refine ah ?_;refine ab ?_;simp only[seval,aO];refine aB ?_;refine⟨λh=> ?p1,λh=> ?p2⟩
  case' p1=>
   have sD:0<l.length:=(by omega);obtain⟨y,hy⟩:=bA (xs:=l) (i:=l.length-1) (by omega);have Iz:=hly y (uI hy);have p7:jn l=y.toNat+1:=(by unfold jn;rw[if_neg (by omega),Tf,hy];rfl);have c_:Tg.wrap ((l.length:Int)-1)=((l.length-1:Nat):Int):=(by rw[a_ _ (by omega)];omega);have iX:Tg.wrap (y+1)=((jn l:Nat):Int):=(by rw[a_ _ (by omega),p7];omega);have nj:(0<=((l.length-1:Nat):Int)/\((l.length-1:Nat):Int)<l.length)=True:=(by simp;omega);refine ab ?_;simp only[seval,c_,dp hy,nj,iX];have hlz:jn l=jn l:=rfl
  case' p2=>
   have hlz:jn l=0:=(by unfold jn;rw[if_pos (by omega)]);refine aE ?_
  all_goals(
   refine ah ?_;refine bF ?_;refine ej (n-jn l) (λj:Nat=>[(3,.sl (o.length+j) ((o++oB n l j).map aO) (.opn H.length)),(7,iv (((jn l:Nat):Int)+j))]) (λj=>H++[.tail (o.length+j) 1 22]) (λi=>True) (λ_ _=>rfl) (by first|(simp only[seval];simp[bh,Wk.refl];done)|(simp only[seval,oB,ao'];simp[bh,Wk.refl,hlz])) (by simp) (λ_ _ _=>by simp) trivial (λbz bE j mI _ R2 eY=> ?_);clear bz bE;have hln:(n-jn l)<=3:=(by omega);refine ah ?_;refine aB ?_;refine⟨λh2=> ?_,λh2=> ?_⟩
   ·have dW:j<n-jn l:=(by omega);have cW:(o++oB n l (j+1)).map aO=(o++oB n l j).map aO++[aO (l++[((jn l:Nat):Int)+j])]:=(by rw[aoU,<- Te,Uq];rfl);have rf:((o++oB n l j).map aO).length=o.length+j:=(by simp[oB]);have uz:Tg.wrap (((jn l:Nat):Int)+j+1)=((jn l:Nat):Int)+((j+1:Nat):Int):=(by rw[a_ _ (by omega)];omega);refine aE ?_;refine ah ?_;refine aG (ak7 (ns:=l) (by omega) (λsD=> ?_) ?_)
    ·subst sD;try simp only[seval,z1,wL,z9,rf]
     first|refine⟨by decide,by omega,?_⟩|refine⟨by omega,?_⟩
     refine ab ?_;simp only[seval,uz];refine eY _ ⟨dW,trivial,?_⟩;rw[cW];refine qy [.tail 1 1 3] (jZ rfl rfl) ?_ (EC hH _ _ _) ?_ (by simp[Wa])
     ·(try simp only[seval]);exact⟨⟨_,rfl,have h:=F8 (l:=(o++oB n [] j).map aO) (show Wk (.sl 1 [iv (((jn []:Nat):Int)+j)] (.opn (H.length+1))) (aO ([]++[((jn []:Nat):Int)+j])) by exact ff _ _ _);Ap h.len h.at⟩,_,rfl,Wk.refl _⟩
     ·rw[<- cW];simp only[VQ,dj,Fu,iv];simp
    ·(try simp only[seval,z1,wL,z9,rf]);refine⟨by omega,by omega,?_⟩;refine ab ?_;simp only[seval,uz];refine eY _ ⟨dW,trivial,?_⟩;rw[cW];refine qy [.tail (l.length+1) 1 3] (jZ rfl rfl) ?_ (EC hH _ _ _) ?_ (by simp[Wa])
     ·(try simp only[seval]);exact⟨⟨_,rfl,have h:=F8 (l:=(o++oB n l j).map aO) (show Wk (.sl (l.length+1) (l.map iv++[iv (((jn l:Nat):Int)+j)]) (.opn (H.length+1))) (aO (l++[((jn l:Nat):Int)+j])) by rw[aO,Uq,Tt];exact ff _ _ _);Ap h.len h.at⟩,_,rfl,Wk.refl _⟩
     ·rw[<- cW];simp only[VQ,dj,Fu,iv];simp
   ·have vS:j=n-jn l:=(by omega);subst vS;refine bD ?_;refine ab ?_;simp only[seval,bK];refine hR _ ⟨bk,trivial,?_⟩;rw[EQ];have Et:(o++oB n l (n-jn l)).length=o.length+(n-jn l):=(by simp[oB]);rw[Et];exact bX)
 ·have jl:i=2^n:=by
   rcases Z_ i (2^n)with h'|h'
   ·have:=(lE i h').1;omega
   ·omega
  subst jl;refine bD ?_;refine ah ?_;refine aT ?_;exact f_ (b:=lr (xT n)) hH (ff _ _ _) (by rw[B6];trivial) hk
end
open Go.Conc Go.Proofs Go.Gg.Tk
def L2{α:Type}{f:α->SC}{s:Nat}(hf:∀a,(f a).length=s):∀(xs:List α)(n:Nat),(xs.flatMap f).take (n* s)=(xs.take n).flatMap f
 |[],n=>by simp
 |x::xs,0=>by simp
 |x::xs,n+1=>by
  rw[UV,Xb,UV,List.take_append,Tx (by rw[hf,YD];omega),hf,show (n+1)* s-s=n* s by rw[YD];omega,L2 hf xs n]
def yR{α:Type}{f:α->SC}{s:Nat}(hf:∀a,(f a).length=s):∀(xs:List α)(n:Nat),(xs.flatMap f).drop (n* s)=(xs.drop n).flatMap f
 |[],n=>by simp
 |x::xs,0=>by simp
 |x::xs,n+1=>by
  rw[UV,List.drop_succ_cons,WL,XY (by rw[hf,YD];omega),hf,show (n+1)* s-s=n* s by rw[YD];omega,yR hf xs n,VK]
namespace Tk
def vp (ss:SY)(ns:SD):List aD:=ns.foldr (λn l=>l.eraseIdx n.toNat) ss
def ak.wo (x:ak)(ns:SD):ak:={x with aC:=vp x.aC ns}
def uY (ns:SD)(m:Nat):Prop:=∀(i:Nat) n,ns[i]?=some n->0<=n/\n+(ns.length-i:Nat)<=m
def uY.tail{n:Int}{ns:SD}{m:Nat}(h:uY (n::ns) m):uY ns m:=λi k hk=>by
 have:=h (i+1) k hk;simp only[Ve]at this;exact⟨this.1,by omega⟩
def Ld{ss:SY}:∀{ns:SD},uY ns ss.length->(vp ss ns).length+ns.length=ss.length
 |[],_=>rfl
 |n::ns,h=>by
  have h1:=Ld h.tail;have h2:=h 0 n rfl;have e:vp ss (n::ns)=(vp ss ns).eraseIdx n.toNat:=rfl;simp only[Ve]at h2⊢;rw[e,Za (by omega)];omega
end Tk
section
variable {lv:Bool}{H:SA}{k kp:SF}
def TV{H:List aa}:∀(L:SA)(y:aa),(H++L).set H.length y=H++L.set 0 y:=λL y=>dB H L 0 y
def aaK{x:ak}{ns:SD}{e:End}(aP:x.aC.length<=3)(iW:uY ns x.aC.length)(hk:k (x.wo ns).av H):ba lv S_ 63 H [x.av,.sl ns.length (ns.map iv) e] k kp:=by
 have Nt:ns.length<=3:=by have:=Ld iW;omega
 refine bH (rs:=[.cell 4 76]) (nt:=32) Tryz.f63 λhH hA=> ?_;simp only[bm,Tu,ak.av];obtain⟨st,mf⟩:∃st:Nat->SY,∀j,st j=vp x.aC (ns.drop (ns.length-j)):=⟨_,λ_=>rfl⟩;have lL:st 0=x.aC:=by rw[mf,aw',asI];rfl
 have aoe:st ns.length=vp x.aC ns:=by rw[mf,Ws,YA]
 obtain⟨xl,b9⟩:∃xl:List aD->SC,∀ss,xl ss=[iv x.first,iv x.hours,iv x.am,dl x.seen,aR x.pieces,aR ss]:=⟨_,λ_=>rfl⟩;have sQ:x.l=xl x.aC:=by rw[b9];rfl
 have n_:∀ss,(xl ss).drop 5=[.sl ss.length (ss.flatMap aD.l) .shut]:=λss=>by rw[b9];rfl
 have ep:∀(L:SA)(y:aa),(H++L).set (H.length+1) y=H++L.set 1 y:=λL y=>dB H L 1 y;rw[sQ];refine ah ?_;have oz:Tg.wrap ((ns.length:Int)-1)=(ns.length:Int)-1:=a_ _ (by omega);refine ah ?_;refine bF ?_;refine ej ns.length (λj:Nat=>[(5,iv ((ns.length:Int)-1-j))]) (λj=>H++[.cells (xl (st j)) 26,.cells pC 76]) (λi=>True) (λ_ _=>rfl) (by simp only[seval,oz];simp[bh,Wk.refl]) (by rw[lL];rfl) (λ_ _ _=>by simp) trivial (λbz bE j mI _ R hR=> ?_);clear bE;refine ah ?_;refine aB ?_;refine⟨λh=> ?_,λh=> ?_⟩
 ·have dW:j<ns.length:=by omega
  obtain⟨i,hi⟩:∃i:Nat,i=ns.length-1-j:=⟨_,rfl⟩;have hii:(ns.length:Int)-1-j=i:=by omega
  obtain⟨n,hn⟩:=bA (xs:=ns) (i:=i) (by omega);obtain⟨o_,uo⟩:=iW i n hn;obtain⟨n,rfl⟩:∃m:Nat,n=m:=⟨n.toNat,by omega⟩;have cW:st (j+1)=(st j).eraseIdx n:=by
   rw[mf,mf,show ns.length-(j+1)=i by omega,show ns.length-j=i+1 by omega];obtain⟨hlt,rfl'⟩:=Tq.1 hn;rw[UY hlt,rfl'];rfl
  have cu:(st j).length+j=x.aC.length:=by
   have hd:uY (ns.drop (ns.length-j)) x.aC.length:=λq m hq=>by
    rw[Vs]at hq;have:=iW _ _ hq;rw[Vr];exact⟨this.1,by omega⟩
   have:=Ld hd;rw[<- mf,Vr]at this;omega
  have iV:n<(st j).length:=by omega
  generalize st j=ss at cW cu iV hR⊢;rw[hii];refine aE ?_;refine ab ?_;simp only[seval,dp hn,jx (show i<ns.length by omega)];have bK:=TN n (by omega)
  have mG:∀l:SY,(l.flatMap aD.l).length=l.length* 4:=λl=>by
   induction l with
   |nil=>rfl
   |cons a l ih=>rw[UV,Tt,ih,aD.len,Ve];omega
  have kX:((n:Int)+1).toNat=n+1:=by omega
  have Ny:((n:Int)+1==0)=false:=by simp;omega
  have lE:(ss.take n).length=n:=by rw[Ux];omega
  have jj:(ss.drop (n+1)).length=ss.length-(n+1):=Vr;have DT:∀l:SY,(ss.length-(n+1))=l.length->l.take (ss.length-(n+1))=l:=λl h=>by rw[h,Un]
  have hD2:(ss.drop (n+1)).take (ss.length-(n+1))=ss.drop (n+1):=DT _ jj.symm;refine eA 10 ?_;simp only[seval,TP,n_,bK,mG,kX,L2 aD.len,yR aD.len,lE,jj,beq_self_eq_true,axp,Wj,Ny,hD2,Un];refine⟨by omega,by omega,by omega,by omega,by omega,by rw[b9];simp,?_⟩;have Ej:(ss.eraseIdx n).length=n+(ss.length-(n+1)):=by rw[Za iV];omega
  have Ek:(ss.eraseIdx n).flatMap aD.l=(ss.take n).flatMap aD.l++(ss.drop (n+1)).flatMap aD.l:=by rw[List.eraseIdx_eq_take_drop_succ,Vf]
  rw[<- Ek,<- Ej];have pV:∀y y',((xl ss).take 5++[y]++(xl ss).drop 6).set 5 y'=((xl ss).take 5++[y']++(xl ss).drop 6):=λy y'=>by rw[b9];rfl
  have hcg:∀y,((xl ss).take 5++[y]++(xl ss).drop 6)[5]?=some y:=λy=>by rw[b9];rfl
  have hce:(xl ss).take 5++[aR (ss.eraseIdx n)]++(xl ss).drop 6=xl (ss.eraseIdx n):=by rw[b9,b9];rfl
  (repeat apply fu);refine ah2 (id:=H.length) (j:=5) (y:=aR (ss.eraseIdx n)) (by simp only[seval,TP]<;>rfl) (hcg _) (ff _ _ _) ?_
  simp only[seval,TV,pV,hce];have c_:Tg.wrap ((i:Int)-1)=(ns.length:Int)-1-((j+1:Nat):Int):=by rw[a_ _ (by omega)];omega
  refine ab ?_;simp only[seval,c_];refine hR _ ⟨dW,trivial,?_⟩;rw[cW];have pc:bJ (H++[.cells (xl (ss.eraseIdx n)) 26,.cells pC 76]):=BD hH λz hz m=>by
   simp only[Tm,T7,or_false]at hz;rcases hz with rfl|rfl
   ·rw[b9];exact Fv m {x with aC:=ss.eraseIdx n}
   ·intro a ha;simp only[pC,Tm,T7,or_false]at ha;rcases ha with rfl|rfl|rfl|rfl|rfl|rfl<;>simp[dj,O1]
  rw[<- hii];exact qy [.tail (ss.eraseIdx n).length 4 48] (jZ rfl rfl) (by simp only[seval];simp[bh,Wk.refl]) pc (by simp[dj]) (by rw[Te];rfl)
 ·have vS:j=ns.length:=by omega
  subst vS;refine bD ?_;have EW:(xl (st ns.length))=(x.wo ns).l:=by rw[b9,aoe];rfl
  rw[EW];have oz:(x.wo ns).l.length=6:=rfl;have v_:VN 6 (x.wo ns).l=(x.wo ns).l:=rfl;have nv:pC.length=6:=rfl;have Oc:U4 6 pC=[]:=rfl;refine ab ?_;simp only[seval,TP,ep,TS,oz,v_,nv,Oc];refine⟨s_ _,?_⟩;refine ng ?_;simp only[seval,TS];rw[v_];exact f_ (b:=(x.wo ns).av) hH (Wk.refl _) (by rw[IV];trivial) hk
end
open Go.Conc Go.Proofs Go.Gg.Tk
namespace Tk
def Ri (ns:SD)(m:Nat):Bool:=(T1 ns.length).all λi=>decide (0<=ns.getD i 0/\ns.getD i 0+(ns.length-i:Nat)<=m)
def ahJ{ns:SD}{m:Nat}(h:Ri ns m=true):uY ns m:=λi n hn=>by
 have hi:=(Tq.1 hn).1;have:=UB.1 h i (UN.2 hi);rw[decide_eq_true_eq,Tf,hn]at this;exact this
def adj:∀n,n<4->(xT n).length=2^n/\∀l∈xT n,Ri l n=true:=by decide+kernel
def apz{n:Nat}(hn:n<4){l:SD}(hl:l∈xT n):uY l n:=ahJ ((adj n hn).2 l hl)
def aab{ss:SY}:∀{ns:SD}{y:aD},y∈vp ss ns->y∈ss
 |[],y,h=>h
 |n::ns,y,h=>aab (ns:=ns) (List.mem_of_mem_eraseIdx h)
def aaa{ss:SY}:∀{ns:SD},(vp ss ns).length<=ss.length
 |[]=>Ts _
 |n::ns=>by
  have h1:=aaa (ss:=ss) (ns:=ns);have h2:=List.length_eraseIdx_le (vp ss ns) n.toNat;exact UK h2 h1
def ak.Ok.wo{x:ak}(h:x.Ok)(ns:SD):(x.wo ns).Ok:=⟨h.first,h.hours,h.am,h.Ad,h.dQ,UK aaa h.dC,h.seen,λy hy=>⟨(h.piece y hy).1,(h.piece y hy).2⟩,λy hy=>have k:=h.stub y (aab hy);⟨k.1,k.2⟩⟩
def Hj (x:ak):Option (SD):=(xT x.aC.length).find? λl=>w9 (x.wo l)
def aaV{α:Type}{p:α->Bool}:∀{l:List α}{i:Nat}{a:α},l[i]?=some a->p a=true->(∀j b,j<i->l[j]?=some b->p b=false)->l.find? p=some a
 |b::l,0,a,h,hp,_=>by cases h;rw[List.find?_cons_of_pos hp]
 |b::l,i+1,a,h,hp,h0=>by
  rw[List.find?_cons_of_neg (by rw[h0 0 b (by omega) rfl];simp)];exact aaV (i:=i) h hp λj c hj hc=>h0 (j+1) c (by omega) hc
def alo{α:Type}{p:α->Bool}{l:List α}(h:∀(j:Nat) b,l[j]?=some b->p b=false):l.find? p=none:=by
 rw[List.find?_eq_none];intro a ha;obtain⟨j,hj⟩:=Wy ha;rw[h j a hj];simp
end Tk
section
variable {lv:Bool}{H:SA}{k kp:SF}
def akA{x:ak}(hx:x.Ok)(gT:∀l,Hj x=some l->k (.aL [aO l,iv 0]) H)(cp:Hj x=none->k (.aL [aO [],iv 11]) H):ba lv S_ 32 H [x.av] k kp:=by
 refine bH (rs:=[.tmp 2,.tmp 3]) (nt:=27) Tryz.f32 λhH hA=> ?_;simp only[bm,Tu,ak.av];have aP:=hx.dC;refine ah ?_;refine ab ?_;simp only[seval,TP,TQ,TR];refine aG (Hb (x:=x) hx ?_);(try simp only[seval]);refine ab ?_;simp only[seval,show ((0:Int)!=0)=false from rfl];refine aB ?_;refine aE ?_;refine ab ?_;simp only[seval,TP,TZ];refine aG (akU (n:=x.aC.length) aP ?_);have fI:=(adj x.aC.length (by omega)).1;have fC:=λl hl=>apz (n:=x.aC.length) (by omega) (l:=l) hl;have xA:Hj x=(xT x.aC.length).find? λl=>w9 (x.wo l):=rfl;generalize xT x.aC.length=ls at fI fC xA⊢;have hp8:2^x.aC.length<=2^3:=VY (by omega) aP;(try simp only[seval,lr]);refine bF ?_;refine ej ls.length (λi:Nat=>[(17,iv i)]) (λi=>H++[.cells x.l 26]) (λi=>∀j b,j<i->ls[j]?=some b->w9 (x.wo b)=false) (λ_ _=>rfl) (by simp only[seval];simp[bh,Wk.refl]) rfl (λ_ _ _=>by simp) (λj b hj=>by omega) (λbz bE i ce aq R hR=> ?_);clear bz bE;refine ah ?_;refine aB ?_;refine⟨λh=> ?_,λh=> ?_⟩
 ·have bk:i<ls.length:=by omega
  obtain⟨l,hl⟩:=bA bk;have ij:=fC l (uI hl);have gA:=TN i (by omega)
  refine aE ?_;refine ab ?_;simp only[seval,wF hl,jx bk];refine ab ?_;simp only[seval,TP,TQ,TR];refine aG (aaK (x:=x) (ns:=l) aP ij ?_);(try simp only[seval]);refine aG (akV (x:=x.wo l) (hx.wo l) ?_);(try simp only[seval]);refine aB ?_;refine⟨λhc=> ?_,λhc=> ?_⟩
  ·refine ah ?_;refine aT ?_;exact f_ (b:=.aL [aO l,iv 0]) hH (F7 (Wk.refl _) (Wk.refl _)) (by simp[iF,dj,xU]) (gT l (by rw[xA];exact aaV hl hc aq))
  ·refine aE ?_;refine ab ?_;simp only[seval,gA];refine hR _ ⟨bk,λj b hj hb=> ?_,bX⟩;rcases Z_ j i with h'|h'
   ·exact aq j b h' hb
   ·have:j=i:=(by omega);subst this;rw[hl]at hb;cases hb;simpa using hc
 ·have jl:i=ls.length:=by omega
  subst jl;refine bD ?_;refine ah ?_;refine aT ?_;exact f_ (b:=.aL [aO [],iv 11]) hH (F7 (ff _ _ _) (Wk.refl _)) (by simp[iF,dj,xU]) (cp (by rw[xA];exact alo λj b hb=>aq j b (e_ hb) hb))
end
open Go.Conc
def behind (j:Nat)(o:Vo):Vo:={o with after:=o.after.push {on:=j,ground:=.data}}
def oM (ops:SK)(i j:Nat):Array Vo:=ops.modify i (behind j)
def ahc(ops:SK)(i j:Nat):(oM ops i j).size=ops.size:=by simp[oM]
def rT(ops:SK)(i j k:Nat):(oM ops i j)[k]?=if i=k then(ops[k]?).map (behind j)else ops[k]?:=by
 unfold oM;rw[Xn]
def aii(j:Nat)(o:Vo):cX (behind j o)=cX o++[j]:=by
 unfold cX behind;simp only[Array.toList_push,List.filterMap_append];rfl
def aeA{ops:SK}{i j:Nat}{X l:SE}(h:my ops X l):j∈X->my (oM ops i j) X l:=by
 induction h with
 |nil X h=>exactλ_=> .nil X λk hk=>h k (by rwa[ahc]at hk)
 |cons o ho hn hd mc ih=>
  rename_i X k l;intro hj;by_cases e:i=k
  ·exact .cons (behind j o) (by rw[rT,if_pos e,ho];rfl) hn (λq hq=>by
    rw[aii]at hq;rcases Tv.1 hq with hq|hq
    ·exact hd q hq
    ·rw[Ub.1 hq];exact hj) (ih (Uj _ hj))
  ·exact .cons o (by rw[rT,if_neg e];exact ho) hn hd (ih (Uj _ hj))
def asX{ops:SK}{i j:Nat}(kH:i≠j)(hi:i<ops.size){X l:SE}(h:my ops X l):i∉X->j∉X->my (oM ops i j) X l\/my (oM ops j i) X l:=by
 induction h with
 |nil X h=>exactλh1 _=>absurd (h i hi) h1
 |cons o ho hn hd mc ih=>
  rename_i X k l;intro h1 h2;by_cases e:k=i
  ·subst e;exact .inr (.cons o (by rw[rT,if_neg (Ne.symm kH)];exact ho) hn hd (aeA mc UH))
  ·by_cases e2:k=j
   ·subst e2;exact .inl (.cons o (by rw[rT,if_neg kH];exact ho) hn hd (aeA mc UH))
   ·rcases ih (λhm=>(Tm.1 hm).elim (λx=>e x.symm) h1) (λhm=>(Tm.1 hm).elim (λx=>e2 x.symm) h2)with q|q
    ·exact .inl (.cons o (by rw[rT,if_neg (Ne.symm e)];exact ho) hn hd q)
    ·exact .inr (.cons o (by rw[rT,if_neg (Ne.symm e2)];exact ho) hn hd q)
section
variable {lv:Bool}{P:Tl}{r:SL}{ops:SK}{nt:Nat}
def ahd(i j:Nat)(tmps:SG):yielded (oM ops i j) tmps=yielded ops tmps:=by
 funext k;unfold yielded;rw[rT];by_cases e:i=k
 ·rw[if_pos e];cases ops[k]?<;>rfl
 ·rw[if_neg e]
def Rc(i j:Nat)(Q:SJ):∀l:SE,dD lv P r (oM ops i j) Q l=dD lv P r ops Q l
 |[]=>rfl
 |k::l=>by
  funext a V;have ih:=Rc i j Q l;simp only[dD];rw[rT,ahd,ih];by_cases e:i=k
  ·rw[if_pos e];cases ho:ops[k]?with
   |none=>rfl
   |some o=>rfl
  ·rw[if_neg e]
def Ku(i j:Nat)(Hf:SE->SA)(K:SV)(t:CV K):∀(pl:List rO)(s:AS),gF lv P Hf (oM ops i j) pl s K t=gF lv P Hf ops pl s K t
 |[],_=>rfl
 |⟨k,false,_,l⟩::rest,s=>by
  have ih:=Ku i j Hf K t rest;simp only[gF,rT];have e:∀o,ao (some o) (λo=>AQ lv P s o λav=>BQ lv P Hf s.T o av l/\gF lv P Hf (oM ops i j) rest (s.put o.dst av) K t)=ao (some o) (λo=>AQ lv P s o λav=>BQ lv P Hf s.T o av l/\gF lv P Hf ops rest (s.put o.dst av) K t):=λo=>by
   simp only[ao,ih]
  have bq:∀(o:Vo) av,BQ lv P Hf s.T (behind j o) av l=BQ lv P Hf s.T o av l:=λo av=>by
   induction l with
   |nil=>rfl
   |cons p l lP=>exact congrArg (λx=>_/\x) (lP λo=>by simp only[ao,ih])
  split
  ·cases ops[k]?with
   |none=>rfl
   |some o=>
    simp only[VS,ao,ih,bq];rfl
  ·cases ops[k]?with
   |none=>rfl
   |some o=>exact e o
 |⟨k,true,D,l⟩::rest,s=>by
  have ih:=Ku i j Hf K t rest;simp only[gF,rT];have be:∀(o:Vo) av,BE lv P Hf s.T (behind j o) av l=BE lv P Hf s.T o av l:=λo av=>by
   induction l with
   |nil=>rfl
   |cons p l lP=>exact congrArg (λx=>_/\x) lP
  split
  ·cases ops[k]?with
   |none=>rfl
   |some o=>
    simp only[VS,ao,ih,be];rfl
  ·cases ops[k]?with
   |none=>rfl
   |some o=>simp only[ao,ih]
def ajm{es ord:SE}(aq:r_ nt ops es ord=true)(t:Nat):my ops [] (VJ .any ops ops.size t (UT ops.size false) []):=by
 have aq:=r_.out aq;obtain⟨xG,_,hlt⟩:=F1 aq.top;have ready:∀(ord X:SE),kK ops X ord=true->∀A i B,ord=A++i::B->∃o,ops[i]?=some o/\∀j∈cX o,j∈A\/j∈X:=by
  intro ord;induction ord with
  |nil=>intro X _ A i B e;cases A<;>cases e
  |cons x l ih=>
   intro X mi A i B e;simp only[kK,Uh,U0,Vw,decide_eq_false_iff_not]at mi;obtain⟨⟨h1,h2⟩,h3⟩:=mi;cases A with
   |nil=>
    have e1:x=i:=(by have:=congrArg List.head? e;simpa using this);rw[e1]at h2;cases ho:ops[i]?with
    |none=>rw[ho]at h2;cases h2
    |some o=>
     rw[ho]at h2;exact⟨o,rfl,λj hj=> .inr (by have:=UB.1 h2 j hj;simpa using this)⟩
   |cons y A=>
    cases e;obtain⟨o,ho,hb⟩:=ih (x::X) h3 A i B rfl;refine⟨o,ho,λj hj=> ?_⟩;rcases hb j hj with h|h
    ·exact .inl (Uj _ h)
    ·rcases Tm.1 h with rfl|h
     ·exact .inl (UH ..)
     ·exact .inr h
 exact OQ (ops:=ops) (λi o ho j hj=>by
   obtain⟨A,B,e⟩:=List.append_of_mem (aq.full i (T5.1 ho).1);obtain⟨o',bt,hb⟩:=ready ord [] aq.top A i B e;rw[ho]at bt;cases bt;rcases hb j hj with h|h
   ·exact hlt j (by rw[e];exact Ul _ h)
   ·cases h)
  (λX ⟨i,hi,hn⟩=>by
   obtain⟨A,i',B,e,h1,h2⟩:=LR (X:=X) ⟨i,aq.full i hi,hn⟩;obtain⟨o',bt,hb⟩:=ready ord [] aq.top A i' B e;refine⟨i',o',bt,h1,λj hj=> ?_⟩;rcases hb j hj with h|h
   ·exact h2 j h
   ·cases h)
  ops.size t (UT ops.size false) [] ⟨by simp,λi hi=>by simp[hi]⟩ (UK Z5 (by simp))
end
inductive rH (ops:Array Vo):Array Vo->Prop
 |base:rH ops ops
 |add {o:Array Vo} (h:rH ops o) (i j:Nat):rH ops (oM o i j)
section
variable {lv:Bool}{P:Tl}{r:SL}{ops o:SK}{nt:Nat}{s:AS}{Φ:SI}
def rH.wp(h:rH ops o)(Q:SJ)(l:SE):dD lv P r o Q l=dD lv P r ops Q l:=by
 induction h with
 |base=>rfl
 |add _ i j ih=>rw[Rc,ih]
def rH.RQ(h:rH ops o)(Hf:SE->SA)(K:SV)(t:CV K)(pl:List rO)(s:AS):gF lv P Hf o pl s K t=gF lv P Hf ops pl s K t:=by
 induction h with
 |base=>rfl
 |add _ i j ih=>rw[Ku,ih]
def DG (lv:Bool)(P:Tl)(r:SL)(nt:Nat)(ops o:SK)(s:AS)(Φ:SI):Prop:=
 ∀l E V a Q,my o [] l->At E V s a nt->(∀ae e E' V' a' s',Kept E E' V V' a a'->At E' V' s' a' nt->qB E' ae e->Φ ae s'->Q e a' V')->dD lv P r ops Q l a V
def r6(i j:Nat)(kH:(i !=j&&decide (i<o.size))=true)(h1:DG lv P r nt ops (oM o i j) s Φ)(h2:DG lv P r nt ops (oM o j i) s Φ):DG lv P r nt ops o s Φ:=λl E V a Q hs aj hQ=>by
 rw[Uh,bne_iff_ne,decide_eq_true_eq]at kH;rcases asX kH.1 kH.2 hs (by simp) (by simp)with hs|hs
 ·exact h1 l E V a Q hs aj hQ
 ·exact h2 l E V a Q hs aj hQ
def Rq{id:Nat}(es ord:SE)(hm:P.follows .mixedOrders=true)(aq:r_ nt ops es ord=true)(h:DG lv P r nt ops ops s Φ):aS lv P r nt (.region id ops true) s Φ:=by
 intro E V a Q aj hQ;refine QI λt=> ?_;rw[show W4 (P.follows .mixedOrders) ops t=VJ .any ops ops.size t (UT ops.size false) [] by unfold W4;rw[hm];simp[ad_]];exact h _ E V a Q (ajm aq t) aj hQ
end
def I1 (lv:Bool)(P:Tl)(o:Vo)(s:AS)(next:SV):Prop:=match o.op with
 |.call c=>match c.callee with
  |.value x=>ao (s.ev x) λtQ=>ao (fG s c.args.toList) λaJ=>CN lv P tQ s.H aJ (λb H'=>next ((⟨s.T,H'⟩:AS).put o.dst b)) (λ_ _=>False) ⟨0⟩
  |_=>False
 |_=>False
def adw (ops:SK)(A B:SE)(m:Nat):Bool:=
 let cl:=ig ops (A++m::B) []
 A.all (λi=>(nX cl m).contains i)&&B.all λi=>(nX cl i).contains m
def rH.get{ops o:SK}(h:rH ops o){m:Nat}{om:Vo}(hm:ops[m]?=some om):∃qv,o[m]?=some qv/\qv.op=om.op/\qv.dst=om.dst:=by
 induction h with
 |base=>exact⟨om,hm,rfl,rfl⟩
 |add _ i j ih=>
  obtain⟨q,h1,h2,h3⟩:=ih;rw[rT];split
  ·exact⟨behind j q,by rw[h1];rfl,h2,h3⟩
  ·exact⟨q,h1,h2,h3⟩
section
variable {lv:Bool}{P:Tl}{r:SL}{ops o:SK}{Hf:SE->SA}{T0:SH}{es ord:SE}{nt:Nat}{s:AS}{Φ:SI}
def Sz{f:Nat->AV}(aq:Ay nt ops ord)(G:SE)(az:∀i∈G,∀o,ops[i]?=some o->∀X',lm ops X'->i∉X'->(∀j∈cX o,j∈X')->OB lv P r ops Hf T0 es f i o X'){X l:SE}(hs:my ops X l):
  (∀i∈X,i<ops.size)->lm ops X->∀(E:Env)(V:View)(a:Act)(Q:SJ),At E V ⟨TX ops T0 f X,Hf (done es X)⟩ a nt->
   (∀E' V' a' X' l',Kept E E' V V' a a'->At E' V' ⟨TX ops T0 f X',Hf (done es X')⟩ a' nt->(∀i∈X',i<ops.size)->lm ops X'->(∀i∈X',i∈X\/i∈G)->(∀i∈X,i∈X')->my ops X' l'->(∀i zM,l'=i::zM->i∉G)->dD lv P r ops Q l' a' V')->dD lv P r ops Q l a V:=by
 induction hs with
 |nil X h=>
  intro hX hc E V a Q aj hQ;exact hQ E V a X [] (Kept.refl E V a) aj hX hc (λi hi=> .inl hi) (λi hi=>hi) (.nil X h) (λi zM e=>by cases e)
 |cons o ho hn hd mc ih=>
  rename_i X i l;intro hX hc E V a Q aj hQ;by_cases hG:i∈G
  ·have hi:i<ops.size:=(T5.1 ho).1;simp only[dD,ho];have oU:∀k∈i::X,k<ops.size:=λk hk=>(Tm.1 hk).elim (λe=>by rw[e];exact hi) (hX k);have bw:=hc.cons ho hd;have hw:Up o (yielded ops a.tmps)=true:=(by unfold Up;rw[aq.DN i o ho]);rw[if_pos hw];refine .inl ?_;have dF:∀d,o.dst=some d->d<a.tmps.size:=λd e=>(by rw[aj.size];exact aq.dst i o d ho e);have ma:=az i hG o ho X hc hn hd;have mh:∀{nc:SE},(∀j∈nc,j∈i::X\/j∈G)->∀j∈nc,j∈X\/j∈G:=λh j hj=>by
    rcases h j hj with h|h
    ·rcases Tm.1 h with rfl|h
     ·exact .inr hG
     ·exact .inl h
    ·exact .inr h
   unfold OB at ma;by_cases dK:i∈es
   ·rw[if_pos dK]at ma;have aP:=ma.step (r:=r) (bad:=λ_ _=>False);refine aP E V a _ Q aj.bB aj.tok dF (.inr (aq.w_ i o ho)) (λE' V' a' s' hk bZ ht e=> ?_) λ_ _ _ _ _ _ _ _ _ h=>h.elim;subst e;rw[yz ho rfl]at ht bZ;exact ih oU bw E' V' a' Q ⟨bZ,ht,hk.size.trans aj.size⟩ λbY aV cD nc zM aI dw w1 w2 w3 w4=>hQ bY aV cD nc zM (hk.trans aI) dw w1 w2 (mh w3) (λj hj=>w4 j (Uj _ hj))
   ·rw[if_neg dK]at ma;obtain⟨T,hT,hq⟩:=ma;refine hq E V a _ Q aj.bB (λt av e=>aj.tok t av (hT t av e)) (.inr (aq.w_ i o ho)) λE' V' v hle cy fz bZ hv=> ?_;have ht:cC E' ((⟨TX ops T0 f X,Hf (done es X)⟩:AS).put o.dst (f i)).T (a.put o.dst v).tmps:=cC.iG (s:=⟨TX ops T0 f X,Hf (done es X)⟩) (aj.tok.mono hle) dF hv;rw[yz ho rfl]at ht;refine ih oU bw E' V' (a.put o.dst v) Q ⟨by rw[Lb dK];exact bZ,ht,(eF _ _ _).trans aj.size⟩ λbY aV cD nc zM hk dw w1 w2 w3 w4=>
     hQ bY aV cD nc zM ⟨hle.trans hk.le,hk.size.trans (eF _ _ _),hk.defers.trans (put_defers _ _ _),hk.role.trans cy,hk.deaf.trans fz⟩ dw w1 w2 (mh w3) (λj hj=>w4 j (Uj _ hj))
  ·exact hQ E V a X (i::l) (Kept.refl E V a) aj hX hc (λi hi=> .inl hi) (λi hi=>hi) (.cons o ho hn hd mc) (λj zM e=>by cases e;exact hG)
def afF{ops:SK}:∀{A L X:SE},kK ops X (A++L)=true->kK ops X A=true/\kK ops (A.reverse++X) L=true
 |[],L,X,h=>⟨rfl,h⟩
 |i::A,L,X,h=>by
  rw[Wv,kK,Uh]at h;obtain⟨h1,h2⟩:=afF h.2;refine⟨by rw[kK,Uh];exact⟨h.1,h1⟩,?_⟩;rw[ah_,Te];exact h2
def afG{ops:SK}:∀{A X:SE},kK ops X A=true->lm ops X->lm ops (A.reverse++X)
 |[],X,h,hX=>hX
 |i::A,X,h,hX=>by
  have mi:=h;simp only[kK,Uh,U0,Vw,decide_eq_false_iff_not]at mi;obtain⟨⟨hi,h2⟩,h3⟩:=mi;cases ho:ops[i]?with
  |none=>rw[ho]at h2;cases h2
  |some o=>
   rw[ho]at h2;have hd:∀j∈cX o,j∈X:=λj hj=>(by have:=UB.1 h2 j hj;simpa using this);have:=afG h3 (hX.cons ho hd);rw[ah_,Te];exact this
def CZ (lv:Bool)(P:Tl)(ops:SK)(m:Nat)(Jo:List rO)(Φ:SI)(s1:AS):Prop:=ao (ops[m]?) λom=>I1 lv P om s1 λs2=>∃oI:SE->SA,s2.H=oI []/\gF lv P oI ops Jo s2 (Φ .normal) ⟨0⟩
def qM(m:Nat)(A B pO nV:SE){pl1 Jo:List rO}(pE:SE->SA)(h:gF lv P pE ops pl1 s (CZ lv P ops m Jo Φ) ⟨0⟩)(ha:rH ops o:=by repeat first|exact .base|apply rH.add)(aq:r_ nt o [] (A++m::B)=true:=by kernel_rfl)(HO:adw o A B m=true:=by kernel_rfl)(anG:rB (ig o (A++m::B) []) pO [] A=pl1:=by conv=>lhs;cbv)(anH:rB (ig o (A++m::B) []) nV (m::A.reverse) B=Jo:=by conv=>lhs;cbv)(amV:nV.all B.contains=true:=by kernel_rfl)(h0:s.H=pE []:=by rfl):DG lv P r nt ops o s Φ:=λl E V a Q hs aj hQ=>by
 subst anG anH;rw[<- ha.wp];rw[<- ha.RQ]at h;have aq:=r_.out aq;obtain⟨xG,_,hlt⟩:=F1 aq.top;obtain⟨tA,tB⟩:=afF aq.top;rw[To]at tB;have tB':kK o (m::A.reverse) B=true:=by
  rw[kK,Uh]at tB;exact tB.2
 unfold adw at HO;dsimp only at HO;rw[Uh,UB,UB]at HO;obtain⟨cA,cB⟩:=HO;have hmA:m∉A:=λhm=>(V_.1 xG).2.2 m hm m (by simp) rfl;have zt:m∉B:=(Xe.1 (V_.1 xG).2.1).1;have hAB:∀i∈B,i∉A:=λi hi hA=>(V_.1 xG).2.2 i hA i (by simp[hi]) rfl;have dn:s=⟨TX o s.T (λ_=> .val undef) [],pE (done pO [])⟩:=by
  have:done pO []=[]:=by simp[done]
  rw[this,<- h0];rfl
 have h':gF lv P pE o (rB (ig o (A++m::B) []) pO [] A) ⟨TX o s.T (λ_=> .val undef) [],pE (done pO [])⟩ (CZ lv P ops m (rB (ig o (A++m::B) []) nV (m::A.reverse) B) Φ) ⟨0⟩:=by rw[<- dn];exact h
 obtain⟨f,_,q2,q3⟩:=Dn (r:=r) aq A [] _ tA (λi hi=>by cases hi) h';have ue:At E V ⟨TX o s.T f [],pE (done pO [])⟩ a nt:=by
  have e:(⟨TX o s.T f [],pE (done pO [])⟩:AS)=s:=dn.symm;rw[e];exact aj
 refine Sz (Hf:=pE) (es:=pO) aq A q2 hs (by simp) (λi hi=>by cases hi) E V a Q ue λE1 V1 a1 X1 l1 gT xo hX1 dE NS _ ep Io=> ?_;have hmX:m∉X1:=λhm=>by
  rcases NS m hm with h|h
  ·cases h
  ·exact hmA h
 cases ep with
 |nil _ eT=>exact absurd (eT m (hlt m (by simp))) hmX
 |@cons _ i l2 qv ho hn hd mc=>
  have hi:i<o.size:=(T5.1 ho).1;have hiA:i∉A:=Io i l2 rfl;have l9:i=m:=by
   rcases Tv.1 (aq.full i hi)with h|h
   ·exact absurd h hiA
   ·rcases Tm.1 h with h|h
    ·exact h
    ·have:=cB i h;have hr:m∈nX (ig o (A++m::B) []) i:=(by simpa using this);exact absurd (Cj dE (AT hr) λo' bt k hk=>by rw[ho]at bt;cases bt;exact hd k hk) hmX
  subst l9;have hAX:∀j∈A,j∈X1:=λj hj=>by
   have:=cA j hj;have hr:j∈nX (ig o (A++i::B) []) i:=(by simpa using this);exact Cj dE (AT hr) λo' bt k hk=>by rw[ho]at bt;cases bt;exact hd k hk
  have Nq:∀j,j∈X1<->j∈A.reverse++[]:=λj=>by
   rw[To,YK];exact⟨λh=>(NS j h).elim (λh=>by cases h) id,hAX j⟩
  have MC:At E1 V1 ⟨TX o s.T f (A.reverse++[]),pE (done pO (A.reverse++[]))⟩ a1 nt:=by
   refine⟨?_,λt x e=> ?_,xo.size⟩
   ·rw[<- G5 Nq];exact xo.bB
   ·rw[<- Gu aq Nq]at e;exact xo.tok t x e
  simp only[dD,ho];have hw:Up qv (yielded o a1.tmps)=true:=by unfold Up;rw[aq.DN i qv ho]
  rw[if_pos hw];refine .inl ?_;have dF:∀d,qv.dst=some d->d<a1.tmps.size:=λd e=>by rw[xo.size];exact aq.dst i qv d ho e
  unfold CZ at q3;obtain⟨om,hom,q3⟩:=q3.out;obtain⟨om2,g1,g2,g3⟩:=ha.get hom;rw[ho]at g1;cases g1;unfold I1 at q3;obtain⟨c,x,amD,ams,q4⟩:∃c x,om.op=.call c/\c.callee=.value x/\ao ((⟨TX o s.T f (A.reverse++[]),pE (done pO (A.reverse++[]))⟩:AS).ev x) λtQ=>ao (fG ⟨TX o s.T f (A.reverse++[]),pE (done pO (A.reverse++[]))⟩ c.args.toList) λaJ=>CN lv P tQ (pE (done pO (A.reverse++[]))) aJ (λb H'=>∃oI:SE->SA,((⟨TX o s.T f (A.reverse++[]),H'⟩:AS).put om.dst b).H=oI []/\gF lv P oI ops (rB (ig o (A++i::B) []) nV (i::A.reverse) B) ((⟨TX o s.T f (A.reverse++[]),H'⟩:AS).put om.dst b) (Φ .normal) ⟨0⟩) (λ_ _=>False) ⟨0⟩:=by
   split at q3
   ·rename_i c hc;split at q3
    ·rename_i x hx;exact⟨c,x,hc,hx,q3⟩
    ·exact q3.elim
   ·exact q3.elim
  obtain⟨tQ,e1,q5⟩:=q4.out;obtain⟨aJ,e2,q6⟩:=q5.out;have lM:=Qi (lv:=lv) (P:=P) (r:=r) (o:=qv) (s:=⟨TX o s.T f (A.reverse++[]),pE (done pO (A.reverse++[]))⟩) (next:=λs2=>∃av H' oI,s2=(⟨TX o s.T f (A.reverse++[]),H'⟩:AS).put qv.dst av/\H'=oI []/\gF lv P oI ops (rB (ig o (A++i::B) []) nV (i::A.reverse) B) s2 (Φ .normal) ⟨0⟩) (bad:=λ_ _=>False) (g2.trans amD) ams e1 e2 (ju.mono q6 (λav H'=>by
    rintro⟨oI,w1,w2⟩
    rw[<- g3]at w1 w2;refine⟨av,H',oI,rfl,?_,w2⟩;rw[<- w1];cases qv.dst<;>rfl) (λ_ _ h=>h))
  refine lM E1 V1 a1 _ Q MC.bB MC.tok dF (.inr (aq.w_ i qv ho)) (λE2 V2 a2 s2 cp bZ zD e=> ?_) λ_ _ _ _ _ _ _ _ _ h=>h.elim;obtain⟨av,H',oI,rfl,hH',hb⟩:=e;obtain⟨f',hf'⟩:∃f':Nat->AV,f'=λj=>if j=i then av else f j:=⟨_,rfl⟩;have hff:∀j∈A.reverse++[],f j=f' j:=λj hj=>by
   have:j≠i:=λe=>hmA (by subst e;simpa using hj);rw[hf'];simp[this]
  have hp:(⟨TX o s.T f (A.reverse++[]),H'⟩:AS).put qv.dst av=⟨TX o s.T f' (i::A.reverse),oI (done nV (i::A.reverse))⟩:=by
   have pX:done nV (i::A.reverse)=[]:=by
    unfold done;rw[ZQ];intro j hj;have:=UB.1 amV j hj;have H2:j∈B:=(by simpa using this);have h1:j≠i:=λe=>zt (e▸H2);have h2:=hAB j H2;simp[h1,h2]
   rw[C5 hff,yz ho (by rw[hf'];simp),pX,hH',To]
  rw[hp]at hb bZ zD;rw[<- ha.RQ]at hb;have amy:lm o (i::A.reverse):=by
   have h1:=afG tA (X:=[]) (λi hi=>by cases hi);rw[To]at h1;exact h1.cons ho λj hj=>by
    have:=NS j (hd j hj);simpa using this
  obtain⟨f2,p1,p2,p3⟩:=Dn (r:=r) aq B (i::A.reverse) f' tB' amy hb;have ab9:∀j,j∈i::X1<->j∈i::A.reverse:=λj=>by
   have:=Nq j;rw[To]at this;rw[Tm,Tm,this]
  have vG:At E2 V2 ⟨TX o s.T f2 (i::X1),oI (done nV (i::X1))⟩ a2 nt:=by
   refine⟨?_,λt x e=> ?_,cp.size.trans MC.size⟩
   ·rw[G5 ab9];exact bZ
   ·rw[Gu aq ab9,C5 p1]at e;exact zD t x e
  refine Sz (Hf:=oI) (es:=nV) aq B p2 mc (λk hk=>(Tm.1 hk).elim (λe=>by rw[e];exact hi) (hX1 k)) (dE.cons ho hd) E2 V2 a2 Q vG λE3 V3 a3 X3 l3 xE qT hX3 cQ awF acf qb aod=> ?_;cases qb with
  |cons o3 Nz Nt sw awE=>
   rename_i j l4;exfalso;have hj:j<o.size:=(T5.1 Nz).1;have H2:=aod j l4 rfl;rcases Tv.1 (aq.full j hj)with h|h
   ·exact Nt (acf j (Uj _ (hAX j h)))
   ·rcases Tm.1 h with rfl|h
    ·exact Nt (acf j (UH ..))
    ·exact H2 h
  |nil _ eT=>
   have aca:∀j,j∈X3<->j∈B.reverse++i::A.reverse:=λj=>by
    rw[Tv,Tm,YK,YK];constructor
    ·intro h;have:=Tv.1 (aq.full j (hX3 j h));rw[Tm]at this;rcases this with h|h|h
     ·exact .inr (.inr h)
     ·exact .inr (.inl h)
     ·exact .inl h
    ·intro h;refine eT j (hlt j ?_);rw[Tv,Tm];rcases h with h|h|h
     ·exact .inr (.inr h)
     ·exact .inr (.inl h)
     ·exact .inl h
   refine hQ .normal .normal E3 V3 a3 _ ((gT.trans cp).trans xE) ⟨?_,λt x e=> ?_,qT.size⟩ trivial p3
   ·rw[<- G5 aca];exact qT.bB
   ·rw[<- Gu aq aca]at e;exact qT.tok t x e
end
def ap8:type_of% @I1.eq_1:=by intros;rw[I1.eq_1]
def ap9:type_of% @CZ.eq_1:=by intros;rw[CZ.eq_1]
attribute [seval] ap8 ap9
open Go.Proofs Go.Gg.Tk
def aeb{x:ak}{q:Nat}(hq:q<x.pieces.length):wy x [(q:Int)]=true:=by
 unfold wy;simp;omega
def Sw{lv:Bool}{P:Tl}{r:SL}{nt:Nat}{ops:SK}{s:AS}{Φ:SI}{α:Type}{ok:α->Prop}(st:α->AS)(rest:∀x,ok x->Φ .normal (st x))(h:(∀x,ok x->Φ .normal (st x))->DG lv P r nt ops ops s Φ):DG lv P r nt ops ops s Φ:=h rest
def aue{T V:SH}{H H':SA}(hH:H=H')(hv:∀p∈V,∃b,look T p.1=some b/\Wk b p.2):(⟨T,H⟩:AS).Sub ⟨V,H'⟩:=
 ⟨λt a e=>hv (t,a) (po e),hH⟩
def opsOf:U_->Array Vo
 |.region _ o _=>o
 |.seq a _=>opsOf a
 |_=>#[]
structure Bk (H:SA)(M:SC->SC->SA)(L:SA)(B:SC->SC->SA)(N:Nat):Prop where
 f:∀u v,B u v=H++(M u v++L)
 l:∀u v,(B u v).length=N
section
variable {H L:SA}{M B:SC->SC->SA}{N:Nat}
def Bk.n(h:Bk H M L B N)(u v:SC)(L':SA)(j:Nat):(B u v++L')[N+j]?=L'[j]?:=by rw[<- h.l u v,aW]
def Bk.s(h:Bk H M L B N)(u v:SC)(L':SA)(j:Nat)(y:aa):(B u v++L').set (N+j) y=B u v++L'.set j y:=by rw[<- h.l u v,dB]
def Bk.n0(h:Bk H M L B N)(u v:SC)(L':SA):(B u v++L')[N]?=L'[0]?:=h.n u v L' 0
def Bk.s0(h:Bk H M L B N)(u v:SC)(L':SA)(y:aa):(B u v++L').set N y=B u v++L'.set 0 y:=h.s u v L' 0 y
def Bk.n1(h:Bk H M L B N)(u v:SC)(L':SA):(B u v++L')[N+1]?=L'[1]?:=h.n u v L' 1
def Bk.s1(h:Bk H M L B N)(u v:SC)(L':SA)(y:aa):(B u v++L').set (N+1) y=B u v++L'.set 1 y:=h.s u v L' 1 y
def Bk.g(h:Bk H M L B N){j:Nat}{u v:SC}(hl:j<(M u v).length){a y:aa}{u' v':SC}(ha:(M u v)[j]?=some a)(hy:(M u v).set j y=M u' v')(L':SA):(B u v++L')[H.length+j]?=some a/\(B u v++L').set (H.length+j) y=B u' v'++L':=by
 rw[h.f,h.f,Te,Te,Te,Te,aW,dB,T4 hl,VX _ _ hl,hy];exact⟨ha,rfl⟩
def Bk.gu(h:Bk H M L B N)(j:Nat)(hl:∀u v,j<(M u v).length)(ha:∀u v,(M u v)[j]?=some (.cells u 76))(hy:∀u v w,(M u v).set j (.cells w 76)=M w v):(∀u v L',(B u v++L')[H.length+j]?=some (.cells u 76))/\(∀u v w L',(B u v++L').set (H.length+j) (.cells w 76)=B w v++L')/\(∀u v,(B u v)[H.length+j]?=some (.cells u 76))/\∀u v w,(B u v).set (H.length+j) (.cells w 76)=B w v:=by
 have k1:=λu v w L'=>h.g (hl u v) (ha u v) (hy u v w) L';have k2:=λu v w=>k1 u v w [];simp only[To]at k2;exact⟨λu v L'=>(k1 u v u L').1,λu v w L'=>(k1 u v w L').2,λu v=>(k2 u v u).1,λu v w=>(k2 u v w).2⟩
def Bk.gv(h:Bk H M L B N)(j:Nat)(hl:∀u v,j<(M u v).length)(ha:∀u v,(M u v)[j]?=some (.cells v 88))(hy:∀u v w,(M u v).set j (.cells w 88)=M u w):(∀u v L',(B u v++L')[H.length+j]?=some (.cells v 88))/\(∀u v w L',(B u v++L').set (H.length+j) (.cells w 88)=B u w++L')/\(∀u v,(B u v)[H.length+j]?=some (.cells v 88))/\∀u v w,(B u v).set (H.length+j) (.cells w 88)=B u w:=by
 have k1:=λu v w L'=>h.g (hl u v) (ha u v) (hy u v w) L';have k2:=λu v w=>k1 u v w [];simp only[To]at k2;exact⟨λu v L'=>(k1 u v v L').1,λu v w L'=>(k1 u v w L').2,λu v=>(k2 u v v).1,λu v w=>(k2 u v w).2⟩
def akL{x:ak}{p q:Nat}{G:SA}{k kp:SF}(i j:Nat)(M:SC->SC->SA)(u0 v0:SC)(hG:G=H++M u0 v0)(hx:x.Ok)(fU:x.am=p)(kW:wy x [(q:Int)]=true)(hm:H[0]?=some .main)(h1:(M u0 v0)[i]?=some (.cells [.sl 1 [iv q] .exact] 22))(h2:(M u0 v0)[j]?=some (.cells x.l 26))(hn:∀u v,(M u v).length=(M u0 v0).length)(hk:∀D L mp N B,ez x 1 D->bP D->(D.l mp).length=28->(∀a∈D.l mp,a.leaf=true)->Bk H M L B N->k (.aL [x.av,.agg (D.l mp),iv (dN D)]) (B u0 v0)):ba true S_ 51 G [x.av,iv 1,.fn (.func 80) [] [.op (H.length+i) 0,.op (H.length+j) 0]] k kp:=by
 subst hG;refine xd (x:=x) (b:=wy x [(q:Int)]) hx fU (fH hm) (λL k kp hk=>cP (Hd (x:=x) (ns:=[(q:Int)]) (e:=.exact) (il:=H.length+i) (ir:=H.length+j) hx (by simp) ?_ ?_ hk)) (λh=>by rw[kW]at h;cases h) λ_ js D L mp gR iN di q_ hg=> ?_
 ·rw[Te,aW];exact fH h1
 ·rw[Te,aW];exact fH h2
 ·have:=hk D L mp (H.length+(M u0 v0).length+L.length) (λu v=>H++(M u v++L)) ⟨p,js,fU,gR,iN,di⟩ di (Kn.len di mp) (sT D mp) ⟨λ_ _=>rfl,λu v=>by rw[Tt,Tt,hn];omega⟩;rw[Te];exact this
end
def zX (x:ak)(q:Nat)(u v:SC):Nat->SA
 |10=>[.cells u 76]
 |11=>[.cells v 88]
 |4=>[.cells x.l 26,.cells [.sl 1 [iv q] .exact] 22]
 |_=>[]
def zW (f:Nat->SA)(D:SE):SE->SA
 |[]=>[]
 |i::l=>(bif isDone i D then f i else[])++zW f D l
def pu (H:SA)(x:ak)(q:Nat)(u v:SC)(l:SE)(D:SE):SA:=H++(.cells x.l 26::zW (zX x q u v) D l)
def O9 (x:ak)(q:Nat)(Bf:SC->SC->SA)(u0 v0 u v:SC)(t D:SE):SA:=Bf (bif t.contains 10 then u0 else bif isDone 12 D then u else u0) (bif t.contains 11 then v0 else bif isDone 13 D then v else v0)++zW (zX x q (bif isDone 12 D then u else u0) (bif isDone 13 D then v else v0)) D t
def lf{P:Prop}{α:Type}(t:SE)(M:α)(ix:Nat->Nat)(h:∀t' M' ix',t=t'->M=M'->ix=ix'->P):P:=h t M ix rfl rfl rfl
def ry (x:ak)(q:Nat)(l:SE)(u v:SC):SA:=.cells x.l 26::l.flatMap (zX x q u v)
def adE{H:SA}{x:ak}{q nt:Nat}{ops:SK}{c:U_}{Ψ:SI}(ho:nt=27/\ops=opsOf (cs (as'.body.getD .skip))\/nt=29/\ops=opsOf (cs (ats.body.getD .skip)))(hx:x.Ok)(hq:q<x.pieces.length)(hm:H[0]?=some .main)(rest:∀y:Nat×Nat×Kn×SA,ez x 1 y.2.2.1/\bP y.2.2.1/\(∃L,y.2.2.2=H++L)/\y.2.2.2[H.length]?=some (.cells x.l 26)/\y.2.2.2[y.1]?=some (.cells (y.2.2.1.l y.2.1) 88)->an.then (λs'=>aS true S_ none nt c s' Ψ) Ψ .normal ⟨[(7,.op y.1 0),(8,iv (dN y.2.2.1)),(1,iv q),(2,.op H.length 0)],y.2.2.2⟩):DG true S_ none nt ops ops ⟨[(5,iv 0),(4,.sl 0 [] .exact),(2,.op H.length 0),(0,.agg x.l),(1,iv q)],H++[.cells x.l 26]⟩ (an.then (λs'=>aS true S_ none nt c s' Ψ) Ψ):=by
 rcases ho with⟨rfl,rfl⟩|⟨rfl,rfl⟩
 all_goals
  dsimp only[ats,as',Ua,cs,opsOf];have hp:=hx.am;have lJ:=hx.dQ;have kW:=aeb hq;obtain⟨p,fU⟩:∃p:Nat,x.am=p:=⟨x.am.toNat,by omega⟩;have Hr:(1<=2^24)=True:=eq_true (by decide);obtain⟨u0,hu⟩:∃u0:SC,u0=[.val (.int .i64 0),.val (.int .i64 0),.val (.int .i64 0),.sl 0 [] .exact,.sl 0 [] .exact,.sl 0 [] .exact]:=⟨_,rfl⟩;obtain⟨v0,hv⟩:∃v0:SC,v0=[.val (.bool false),.val (.map none),.val (.int .u16 0),.val (.int .u16 0),.val (.int .u16 0),.val (.int .u16 0),.val (.int .u16 0),.val (.int .u16 0),.val (.int .u16 0),.val (.int .u16 0),.val (.int .u16 0),.val (.int .u16 0),.val (.int .u16 0),.val (.int .u16 0),.val (.int .u16 0),.val (.int .u16 0),.val (.int .u16 0),.val (.int .i64 0),.val (.int .i64 0),.val (.int .i64 0),.val (.int .i64 0),.val (.int .i64 0),.val (.int .i64 0),.val (.int .i64 0),.val (.int .i64 0),.val (.int .i64 0),.val (.int .i64 0),.val (.int .i64 0)]:=⟨_,rfl⟩;have xO:=hu.symm;have sO:=hv.symm;have EZ:u0.length=6:=by rw[hu];rfl
  have IA:v0.length=28:=by rw[hv];rfl
  have hy0:U4 6 u0=[]:=by rw[hu];rfl
  have wa:U4 28 v0=[]:=by rw[hv];rfl
  refine r6 5 10 rfl (r6 5 11 rfl (r6 4 10 rfl (r6 4 11 rfl (r6 10 11 rfl (lf [] (ry x q [11,10,4]) (λ_=>H.length+1) λt M ix ht hM jl=>qM 5 [0,1,2,3,11,10,4] [6,7,8,9,12,13,14] [11,10,4] [12,13] (pu H x q u0 v0 [11,10,4]) ?_) (lf [] (ry x q [10,11,4]) (λ_=>H.length+2) λt M ix ht hM jl=>qM 5 [0,1,2,3,10,11,4] [6,7,8,9,12,13,14] [10,11,4] [12,13] (pu H x q u0 v0 [10,11,4]) ?_)) (lf [] (ry x q [10,4,11]) (λ_=>H.length+4) λt M ix ht hM jl=>qM 5 [0,1,2,3,10,4,11] [6,7,8,9,12,13,14] [10,4,11] [12,13] (pu H x q u0 v0 [10,4,11]) ?_)) (r6 4 11 rfl (lf [] (ry x q [11,4,10]) (λ_=>H.length+1) λt M ix ht hM jl=>qM 5 [0,1,2,3,11,4,10] [6,7,8,9,12,13,14] [11,4,10] [12,13] (pu H x q u0 v0 [11,4,10]) ?_) (r6 10 11 rfl (lf [] (ry x q [4,11,10]) (λ_=>H.length+3) λt M ix ht hM jl=>qM 5 [0,1,2,3,4,11,10] [6,7,8,9,12,13,14] [4,11,10] [12,13] (pu H x q u0 v0 [4,11,10]) ?_) (lf [] (ry x q [4,10,11]) (λ_=>H.length+4) λt M ix ht hM jl=>qM 5 [0,1,2,3,4,10,11] [6,7,8,9,12,13,14] [4,10,11] [12,13] (pu H x q u0 v0 [4,10,11]) ?_)))) (r6 4 10 rfl (lf [11] (ry x q [10,4]) (λN=>N) λt M ix ht hM jl=>qM 5 [0,1,2,3,10,4] [6,7,8,9,11,12,13,14] [10,4] [11,12,13] (pu H x q u0 v0 [10,4]) ?_) (lf [11] (ry x q [4,10]) (λN=>N) λt M ix ht hM jl=>qM 5 [0,1,2,3,4,10] [6,7,8,9,11,12,13,14] [4,10] [11,12,13] (pu H x q u0 v0 [4,10]) ?_))) (r6 5 11 rfl (r6 4 11 rfl (lf [10] (ry x q [11,4]) (λ_=>H.length+1) λt M ix ht hM jl=>qM 5 [0,1,2,3,11,4] [6,7,8,9,10,12,13,14] [11,4] [10,12,13] (pu H x q u0 v0 [11,4]) ?_) (lf [10] (ry x q [4,11]) (λ_=>H.length+3) λt M ix ht hM jl=>qM 5 [0,1,2,3,4,11] [6,7,8,9,10,12,13,14] [4,11] [10,12,13] (pu H x q u0 v0 [4,11]) ?_)) (r6 10 11 rfl (lf [11,10] (ry x q [4]) (λN=>N) λt M ix ht hM jl=>qM 5 [0,1,2,3,4] [6,7,8,9,11,10,12,13,14] [4] [11,10,12,13] (pu H x q u0 v0 [4]) ?_) (lf [10,11] (ry x q [4]) (λN=>N+1) λt M ix ht hM jl=>qM 5 [0,1,2,3,4] [6,7,8,9,10,11,12,13,14] [4] [10,11,12,13] (pu H x q u0 v0 [4]) ?_)))
  all_goals
   (try simp only[seval,pu,zW,zX,z1,TR,Hr,and_self,TP,xO,sO,TQ,Tt,Te]);refine tV _ _ (cP (Ha (x:=x) (ns:=[(q:Int)]) ⟨rfl,rfl⟩)) ?_;(try simp only[seval,pu,zW,zX,TP,xO,sO,TQ,Tt,Te,Wa]);refine aG (akL _ _ M u0 v0 (by subst hM;rfl) hx fU kW hm (by subst hM;rfl) (by subst hM;rfl) (by subst hM;exactλ_ _=>rfl) λD L mp N Bf kC di eP iU hB=> ?_);subst hM
   first
    |obtain⟨A3,Cm,A4,Cn⟩:=hB.gu 1 (λ_ _=>of_decide_eq_true rfl) (λ_ _=>rfl) λ_ _ _=>rfl
    |obtain⟨A3,Cm,A4,Cn⟩:=hB.gu 2 (λ_ _=>of_decide_eq_true rfl) (λ_ _=>rfl) λ_ _ _=>rfl
    |obtain⟨A3,Cm,A4,Cn⟩:=hB.gu 3 (λ_ _=>of_decide_eq_true rfl) (λ_ _=>rfl) λ_ _ _=>rfl
    |obtain⟨A3,Cm,A4,Cn⟩:=hB.gu 4 (λ_ _=>of_decide_eq_true rfl) (λ_ _=>rfl) λ_ _ _=>rfl
    |obtain⟨A3,Cm,A4,Cn⟩:=And.intro hB.l (And.intro hB.l (And.intro hB.l hB.l))
   first
    |obtain⟨A5,Co,A6,Cp⟩:=hB.gv 1 (λ_ _=>of_decide_eq_true rfl) (λ_ _=>rfl) λ_ _ _=>rfl
    |obtain⟨A5,Co,A6,Cp⟩:=hB.gv 2 (λ_ _=>of_decide_eq_true rfl) (λ_ _=>rfl) λ_ _ _=>rfl
    |obtain⟨A5,Co,A6,Cp⟩:=hB.gv 3 (λ_ _=>of_decide_eq_true rfl) (λ_ _=>rfl) λ_ _ _=>rfl
    |obtain⟨A5,Co,A6,Cp⟩:=hB.gv 4 (λ_ _=>of_decide_eq_true rfl) (λ_ _=>rfl) λ_ _ _=>rfl
    |obtain⟨A5,Co,A6,Cp⟩:=And.intro hB.l (And.intro hB.l (And.intro hB.l hB.l))
   have hR:=λG a b c=>rest (ix N,mp,D,G) ⟨kC,di,a,b,c⟩;refine⟨λDD=>O9 x q Bf u0 v0 x.l (D.l mp) t DD,by subst ht;simp only[seval,O9,zW,zX];first|done|rfl,?_⟩;subst ht jl;(try simp only[seval,O9,apT,List.contains_cons,zW,zX,xO,sO,hB.l,hB.n0,hB.s0,hB.n1,hB.s1,TQ,eP,EZ,IA,hy0,wa,ak.av,A3,Cm,A4,Cn,A5,Co,A6,Cp]);refine⟨s_ x,iU,?_⟩;exact mB (aue rfl (by simp only[seval];simp[bh,Wk.refl])) (hR _ ⟨_,by rw[hB.f]<;>first|rfl|rw[Te]⟩ (by rw[hB.f];first|exact aW H _ 0|(rw[Te];exact aW H _ 0)) (by simp only[seval,xO,sO,hB.l,hB.n0,hB.s0,hB.n1,hB.s1,TQ,eP,EZ,IA,hy0,wa,ak.av,A3,Cm,A4,Cn,A5,Co,A6,Cp]))
section
variable {lv:Bool}{H:SA}{k kp:SF}
def akB{x:ak}{q:Nat}(hx:x.Ok)(hq:q<x.pieces.length)(hm:H[0]?=some .main)(hk:∀D,ez x 1 D->(D.has=false->k (.aL [aO [],iv 11]) H)/\(D.has=true->k (.aL [aO (fX (D.ap.getD q 0) x.first 16),iv 0]) H)):ba true S_ 34 H [x.av,iv q] k kp:=by
 refine bH (rs:=[.tmp 4,.tmp 5]) (nt:=29) ats λhH hA=> ?_;simp only[bm,Tu,ak.av];have hp:=hx.am;have lJ:=hx.dQ;refine ah ?_;(repeat apply fu);refine Rq [4,10,11,12,13] [0,1,2,3,4,5,6,7,8,9,10,11,12,13,14] F.mixed (by kernel_rfl) ?_;refine Sw (α:=Nat×Nat×Kn×SA) (ok:=λy=>ez x 1 y.2.2.1/\bP y.2.2.1/\(∃L,y.2.2.2=H++L)/\y.2.2.2[H.length]?=some (.cells x.l 26)/\y.2.2.2[y.1]?=some (.cells (y.2.2.1.l y.2.1) 88)) (λy=>⟨[(7,.op y.1 0),(8,iv (dN y.2.2.1)),(1,iv q),(2,.op H.length 0)],y.2.2.2⟩) (λy hy=> ?_) (λrest=> ?_)
 ·obtain⟨i,mp,D,G⟩:=y;obtain⟨kC,di,⟨L0,hG⟩,Hw,DW⟩:=hy;dsimp only at hG Hw DW;obtain⟨gT,cp⟩:=hk D kC;have eI:∀(ns:SD)(e:End)(m:Int),k (.aL [aO ns,iv m]) H->cz H.length G (.aL [.sl ns.length (ns.map iv) e,iv m]) k:=λns e m h=>by
   rw[hG];exact f_ hH (F7 (ff _ _ _) (Wk.refl _)) (by simp[iF,dj,aO,pq]) h
  (try simp only[seval]);cases fA:D.has with
  |false=>
   have hE:dN D=11:=(by rw[dN,fA];rfl);refine ab ?_;simp only[seval,hE,show ((11:Int)!=0)=true from rfl];refine aB ?_;refine ah ?_;refine aT ?_;exact eI [] .exact 11 (gT fA)
  |true=>
   have hE:dN D=0:=(by rw[dN,fA];rfl);have cp:=cp fA;obtain⟨u,hu⟩:=bA (xs:=D.ap) (i:=q) (by rw[di.ap];omega);have lu:=di.mU _ (T8 hu);have ko:D.ap.getD q 0=u:=(by rw[Tf,hu];rfl);rw[ko]at cp;have b3:(0<=(q:Int)/\(q:Int)<4)=True:=(by simp;omega);have vL:=Kn.I7 (mp:=mp) hu;have ik:=hx.first;refine ab ?_;simp only[seval,hE,show ((0:Int)!=0)=false from rfl];refine aB ?_;refine aE ?_;refine eA 6 ?_;simp only[seval,Hw,DW,b3,vL,TO];refine aG (G_ lu (by omega) ?_);(try simp only[seval]);refine aT ?_;exact eI _ _ 0 cp
 ·exact adE (.inr ⟨rfl,rfl⟩) hx hq hm rest
def akD{x:ak}{q:Nat}(hx:x.Ok)(hq:q<x.pieces.length)(hm:H[0]?=some .main)(hk:∀D,ez x 1 D->(D.has=false->k (.aL [aO [],iv 11]) H)/\(D.has=true->k (.aL [aO (fX (D.hours.getD q 0) 0 16),iv 0]) H)):ba true S_ 39 H [x.av,iv q] k kp:=by
 refine bH (rs:=[.tmp 4,.tmp 5]) (nt:=27) as' λhH hA=> ?_;simp only[bm,Tu,ak.av];have hp:=hx.am;have lJ:=hx.dQ;refine ah ?_;(repeat apply fu);refine Rq [4,10,11,12,13] [0,1,2,3,4,5,6,7,8,9,10,11,12,13,14] F.mixed (by kernel_rfl) ?_;refine Sw (α:=Nat×Nat×Kn×SA) (ok:=λy=>ez x 1 y.2.2.1/\bP y.2.2.1/\(∃L,y.2.2.2=H++L)/\y.2.2.2[H.length]?=some (.cells x.l 26)/\y.2.2.2[y.1]?=some (.cells (y.2.2.1.l y.2.1) 88)) (λy=>⟨[(7,.op y.1 0),(8,iv (dN y.2.2.1)),(1,iv q),(2,.op H.length 0)],y.2.2.2⟩) (λy hy=> ?_) (λrest=> ?_)
 ·obtain⟨i,mp,D,G⟩:=y;obtain⟨kC,di,⟨L0,hG⟩,Hw,DW⟩:=hy;dsimp only at hG Hw DW;obtain⟨gT,cp⟩:=hk D kC;have eI:∀(ns:SD)(e:End)(m:Int),k (.aL [aO ns,iv m]) H->cz H.length G (.aL [.sl ns.length (ns.map iv) e,iv m]) k:=λns e m h=>by
   rw[hG];exact f_ hH (F7 (ff _ _ _) (Wk.refl _)) (by simp[iF,dj,aO,pq]) h
  (try simp only[seval]);cases fA:D.has with
  |false=>
   have hE:dN D=11:=(by rw[dN,fA];rfl);refine ab ?_;simp only[seval,hE,show ((11:Int)!=0)=true from rfl];refine aB ?_;refine ah ?_;refine aT ?_;exact eI [] .exact 11 (gT fA)
  |true=>
   have hE:dN D=0:=(by rw[dN,fA];rfl);have cp:=cp fA;obtain⟨u,hu⟩:=bA (xs:=D.hours) (i:=q) (by rw[di.hours];omega);have lu:=di.mF _ (T8 hu);have ko:D.hours.getD q 0=u:=(by rw[Tf,hu];rfl);rw[ko]at cp;have b3:(0<=(q:Int)/\(q:Int)<4)=True:=(by simp;omega);have vL:=Kn.Ib di (mp:=mp) hu;have ik:=hx.first;refine ab ?_;simp only[seval,hE,show ((0:Int)!=0)=false from rfl];refine aB ?_;refine aE ?_;refine ab ?_;simp only[seval,DW,b3,vL];refine aG (G_ lu (by omega) ?_);(try simp only[seval]);refine aT ?_;exact eI _ _ 0 cp
 ·exact adE (.inl ⟨rfl,rfl⟩) hx hq hm rest
end
def aoR{x:ak}{deep:Int}{D:Kn}(hx:x.Ok)(h:ez x deep D)(hh:D.has=true):jd x D.first:=by
 obtain⟨p,js,h1,h2,h3,_⟩:=h;have hp:=hx.am;have hj:∀j∈js,j<x.am.toNat+1:=λj hj=>by have:=UN.1 (h2.mem_iff.1 hj);omega
 obtain⟨j,a,t,l,b,c,d⟩:=acT hx h3 (h2.nodup_iff.2 Y1) hj hh;rw[c];exact abo (deep:=deep) (j:=j) hx (by have:=hj j a;omega) (by rw[b];simp)
namespace Tk
def tW (x:ak)(t:SD)(i:Nat):SD:=(T1 i).map λp=>t.getD (4+p) 0+x.first
def tX (t:SD)(i:Nat):SD:=(T1 i).map λs=>t.getD (8+s) 0
def alc(x:ak)(t:SD)(i:Nat):tW x t (i+1)=tW x t i++[t.getD (4+i) 0+x.first]:=by
 unfold tW;rw[VW,Uq];rfl
def ale(t:SD)(i:Nat):tX t (i+1)=tX t i++[t.getD (8+i) 0]:=by
 unfold tX;rw[VW,Uq];rfl
def alb(x:ak)(t:SD)(i:Nat):(tW x t i).length=i:=by simp[tW]
def ald(t:SD)(i:Nat):(tX t i).length=i:=by simp[tX]
end Tk
def af2{a a' b b' c c' d d':AV}(h1:Wk a a')(h2:Wk b b')(h3:Wk c c')(h4:Wk d d'):Wk (.aL [a,b,c,d]) (.aL [a',b',c',d']):=λE v h=>by
 cases h with
 |aL hs h=>
  refine .aL hs λi x e=> ?_
  match i with
  |0=>cases e;exact h1 _ _ (h 0 a rfl)
  |1=>cases e;exact h2 _ _ (h 1 b rfl)
  |2=>cases e;exact h3 _ _ (h 2 c rfl)
  |3=>cases e;exact h4 _ _ (h 3 d rfl)
section
variable {lv:Bool}{H:SA}{k kp:SF}
def Ta{x:ak}:U4 1 x.l=[iv x.hours,iv x.am,dl x.seen,aR x.pieces,aR x.aC]:=rfl
def akr{x:ak}(hx:x.Ok)(hm:H[0]?=some .main)(hk:∀D,ez x 0 D->(D.has=false->k (.aL [aO [],aO [],aO [],iv 11]) H)/\(D.has=true->k (.aL [aO (D.first.take (x.hours.toNat+1)),aO (tW x D.first x.pieces.length),aO (tX D.first x.aC.length),iv 0]) H)):ba true S_ 18 H [x.av] k kp:=by
 refine bH (rs:=[.tmp 2,.tmp 3,.tmp 4,.tmp 5]) (nt:=64) Tryz.f18 λhH hA=> ?_;simp only[bm,Tu,ak.av];have hp:=hx.am;have hh:=hx.hours;have lJ:=hx.dQ;have aP:=hx.dC;have ik:=hx.first;obtain⟨p,fU⟩:∃p:Nat,x.am=p:=⟨x.am.toNat,by omega⟩;refine ah ?_;refine ab ?_;simp only[seval,TP,TQ,TR];refine aG (xd (x:=x) hx fU (fH hm) GG (λh=>by cases h) λ_ js D L mp gR iN di q_ hg=> ?_);have kC:ez x 0 D:=⟨p,js,fU,gR,iN,di⟩;have eP:=Kn.len di mp;have iU:=sT D mp;obtain⟨gT,cp⟩:=hk D kC;obtain⟨Y,hY⟩:∃Y:SA,Y=[aa.cells x.l 26]++L:=⟨_,rfl⟩;obtain⟨B,hB⟩:∃B,B=H++Y:=⟨_,rfl⟩;have nZ:H++[aa.cells x.l 26]++L=B:=by rw[hB,hY,Te]
 have Bp:∀(L':SA),(B++L')[H.length]?=some (.cells x.l 26):=λL'=>by rw[hB,hY,Te,TP];rfl
 have bn:∀(L':SA)(j:Nat),(B++L')[B.length+j]?=L'[j]?:=λL' j=>aW B L' j;have rY:∀(L':SA)(j:Nat)(y:aa),(B++L').set (B.length+j) y=B++L'.set j y:=λL' j y=>dB B L' j y;have eI:∀(L':SA)(l1 l2 l3:SD)(e e' e'':End)(m:Int),k (.aL [aO l1,aO l2,aO l3,iv m]) H->cz H.length (B++L') (.aL [.sl l1.length (l1.map iv) e,.sl l2.length (l2.map iv) e',.sl l3.length (l3.map iv) e'',iv m]) k:=λL' l1 l2 l3 e e' e'' m h=>by
  rw[hB,Te];exact f_ hH (af2 (ff _ _ _) (ff _ _ _) (ff _ _ _) (Wk.refl _)) (by simp[iF,dj,aO,pq]) h
 rw[nZ];clear nZ hg;(try simp only[seval,ak.av,TQ,eP]);refine⟨s_ x,iU,?_⟩;cases fA:D.has with
 |false=>
  have hE:dN D=11:=by rw[dN,fA];rfl
  refine ab ?_;simp only[seval,hE,show ((11:Int)!=0)=true from rfl];refine aB ?_;refine ah ?_;refine aT ?_;exact eI _ [] [] [] .exact .exact .exact 11 (gT fA)
 |true=>
  have hE:dN D=0:=by rw[dN,fA];rfl
  have cp:=cp fA;have rl:=aoR hx kC fA;obtain⟨t,ht⟩:∃t,t=D.first:=⟨_,rfl⟩;rw[<- ht]at rl cp;have ox:=rl.len;obtain⟨pre,ab5,MM⟩:∃pre:SC,pre.length=17/\D.l mp=pre++(t.map iv++[]):=⟨bv D.has:: .mp mp::(D.ap.map (λn=>wv n)++(D.hours.map (λn=>wv n)++(D.less.map (λn=>wv n)++D.aY.map (λn=>wv n)))),by simp[di.ap,di.hours,di.less,di.aY],by rw[ht];simp[Kn.l]⟩;obtain⟨n,hn⟩:∃n:Nat,x.hours=n:=⟨x.hours.toNat,by omega⟩;have p9:x.hours+1=((n+1:Nat):Int):=by omega
  have bK:Tg.wrap (x.hours+1)=((n+1:Nat):Int):=by rw[a_ _ (by omega)];exact p9
  have vJ:U4 4 x.l=[.sl x.pieces.length (x.pieces.flatMap aD.l) .shut,.sl x.aC.length (x.aC.flatMap aD.l) .shut]:=rfl;refine ab ?_;simp only[seval,hE,show ((0:Int)!=0)=false from rfl];refine aB ?_;refine aE ?_;have Dm:∀(L':SA),(B++L')[B.length+1]?=L'[1]?:=λL'=>bn L' 1;have AL:∀(L':SA),(B++L')[B.length+2]?=L'[2]?:=λL'=>bn L' 2;have pM:∀(L':SA)(y:aa),(B++L').set (B.length+2) y=B++L'.set 2 y:=λL' y=>rY L' 2 y;have bn3:∀(L':SA),(B++L')[B.length+3]?=L'[3]?:=λL'=>bn L' 3;have bs3:∀(L':SA)(y:aa),(B++L').set (B.length+3) y=B++L'.set 3 y:=λL' y=>rY L' 3 y;have bn4:∀(L':SA),(B++L')[B.length+4]?=L'[4]?:=λL'=>bn L' 4;have bs4:∀(L':SA)(y:aa),(B++L').set (B.length+4) y=B++L'.set 4 y:=λL' y=>rY L' 4 y;refine ab ?_;simp only[seval,Bp,Ta,bK,aga];refine⟨by omega,by omega,?_⟩;have xx:(D.l mp).drop 17=t.map iv:=by rw[MM,To,Xt (by omega),XY (by omega),VK]
  have aoi:((n:Int)+1).toNat=n+1:=by omega
  have oi:min 4 (n+1)=n+1:=by omega
  have sH:min 4 11=4:=rfl;have ace:min (n+1) 4=n+1:=by omega
  have bi:VN (n+1) (VN 4 (Wn iv t))++U4 (n+1) (Wn iv (UP (n+1) 0))=(t.take (n+1)).map iv:=by rw[Wh,ace,XY (by simp),To,Xd]
  refine ab ?_;simp only[seval,xx,aoi,oi,sH,ox,ace,Ux,ZG,Dm,AL,pM];refine⟨by rw[<- Xd];exact of_eq_true (ac5 _),?_⟩;rw[bi];obtain⟨tl,N3⟩:∃tl,tl=t.take (n+1):=⟨_,rfl⟩;have acE:tl.length=n+1:=by rw[N3,Ux];omega
  have H_:x.hours.toNat=n:=by omega
  rw[H_,<- N3]at cp;rw[<- N3]
  (repeat apply fu);refine KC (id:=B.length+2) (by simp only[seval,AL]<;>rfl) ?_
  simp only[seval,pM,acE]
  (repeat apply fu);refine RA (t:=2) (y:=aO tl) (by simp only[seval]<;>rfl) ?_ ?_
  ·have e:aO tl=.sl (n+1) ((tl.map iv).take (n+1)) .shut:=by
    rw[Tx (by simp;omega),aO,acE]
   rw[e];exact JR (p:=n+1) (by simp only[seval,AL]<;>rfl) (by omega) (by simp;omega)
  (repeat apply fu);refine nh (t:=3) (sz:=1) (el:=3) (by simp only[seval]<;>rfl) ?_
  refine ab ?_;simp only[seval,Bp,vJ];obtain⟨gl,kg⟩:∃gl:Nat->SD,∀i,gl i=tW x t i:=⟨_,λ_=>rfl⟩;have Em:gl 0=[]:=by rw[kg];rfl
  have M6:∀i,(gl i).length=i:=λi=>by rw[kg];exact alb _ _ _
  refine bF ?_;refine ej x.pieces.length (λi:Nat=>[(3,.sl (gl i).length ((gl i).map iv) (.opn (B.length+3))),(31,iv i)]) (λi=>B++[.cells x.l 76,.cells (D.l mp) 88,.part (n+1) (tl.map iv) 3,.tail (gl i).length 1 3]) (λi=>True) (λ_ _=>rfl) (by rw[Em];simp only[seval];simp[bh,Wk.refl]) (by rw[Em];rfl) (λ_ _ _=>by simp) trivial (λbz bE i ce _ R hR=> ?_);refine ah ?_;refine aB ?_;refine⟨λh=> ?_,λh=> ?_⟩
  ·have bk:i<x.pieces.length:=(by omega);obtain⟨v,hv,hv9,_⟩:=rl.num i bk;have Eo:t.getD (4+i) 0=v:=(by rw[Tf,hv];rfl);have b3:(0<=(i:Int)/\(i:Int)<4)=True:=(by simp;omega);have gA:=TN i (by omega);have EU:Tg.wrap ((v:Int)+x.first)=v+x.first:=a_ _ (by omega);have Ei:(D.l mp).drop (21+i)=iv v::((t.drop (4+i+1)).map iv++[]):=by
    have:=G6 MM ab5 hv;rw[show 21+i=17+(4+i) by omega];exact this
   have cW:gl (i+1)=gl i++[(v:Int)+x.first]:=(by rw[kg,kg,alc,Eo]);have hli:=M6 i;refine aE ?_;refine ah ?_;refine eA 10 ?_;simp only[seval,z1,Bp,Dm,b3,Ei,EU,TO,bn3,bs3]
   first|refine⟨by decide,by omega,?_⟩|refine⟨by omega,?_⟩
   refine ab ?_;simp only[seval,gA];refine hR _ ⟨bk,trivial,?_⟩;rw[cW,Uq,Tt];exact bX
  ·have dK:i=x.pieces.length:=(by omega);subst dK;clear hR;refine bD ?_
   (repeat apply fu);refine nh (t:=4) (sz:=1) (el:=3) (by simp only[seval]<;>rfl) ?_
   have EW:(gl x.pieces.length)=tW x t x.pieces.length:=kg _;generalize gl x.pieces.length=nl at EW⊢;refine ab ?_;simp only[seval,Bp,TZ];obtain⟨go,hgo⟩:∃go:Nat->SD,∀i,go i=tX t i:=⟨_,λ_=>rfl⟩;have abS:go 0=[]:=(by rw[hgo];rfl);have amX:∀i,(go i).length=i:=λi=>(by rw[hgo];exact ald _ _);refine bF ?_;refine ej x.aC.length (λi:Nat=>[(4,.sl (go i).length ((go i).map iv) (.opn (B.length+4))),(49,iv i)]) (λi=>B++[.cells x.l 76,.cells (D.l mp) 88,.part (n+1) (tl.map iv) 3,.tail nl.length 1 3,.tail (go i).length 1 3]) (λi=>True) (λ_ _=>rfl) (by rw[abS];simp only[seval];simp[bh,Wk.refl]) (by rw[abS];rfl) (λ_ _ _=>by simp) trivial (λbz bE i ce _ R hR=> ?_);refine ah ?_;refine aB ?_;refine⟨λh=> ?_,λh=> ?_⟩
   ·have bk:i<x.aC.length:=(by omega);obtain⟨v,hv,hv9⟩:=rl.own i bk;have Eo:t.getD (8+i) 0=v:=(by rw[Tf,hv];rfl);have b3:(0<=(i:Int)/\(i:Int)<3)=True:=(by simp;omega);have gA:=TN i (by omega);have Ei:(D.l mp).drop (25+i)=iv v::((t.drop (8+i+1)).map iv++[]):=by
     have:=G6 MM ab5 hv;rw[show 25+i=17+(8+i) by omega];exact this
    have cW:go (i+1)=go i++[(v:Int)]:=(by rw[hgo,hgo,ale,Eo]);have hli:=amX i;refine aE ?_;refine ah ?_;refine ab ?_;simp only[seval,z1,Dm,b3,Ei,bn4,bs4]
    first|refine⟨by decide,by omega,?_⟩|refine⟨by omega,?_⟩
    refine ab ?_;simp only[seval,gA];refine hR _ ⟨bk,trivial,?_⟩;rw[cW,Uq,Tt];exact bX
   ·have dK:i=x.aC.length:=(by omega);subst dK;clear hR;refine bD ?_;have hxo:(go x.aC.length)=tX t x.aC.length:=hgo _;generalize go x.aC.length=ol at hxo⊢;refine ah ?_;refine aT ?_;rw[<- EW,<- hxo]at cp;exact eI _ tl nl ol .shut _ _ 0 cp
end
open Go.Conc Go.Proofs Go.Gg.Tk
namespace Tk
def adC (n:Int)(o k:Int):Int:=zP [o,max (k-n) (n-k)]
def Fz (l:SD)(n:Int)(o:Int):Int:=l.foldl (adC n) o
def rV (own q:Nat)(m:Int×Nat)(t:SD):Int×Nat:=if m.2.testBit (mY t q)then m else(Fz (fX own 0 16) (mY t q) m.1,m.2|||2^mY t q)
def wU (x:ak)(y:aD)(q:Nat)(o:Int)(h:SD):Int:=if cx h y=0 then o else((jL x 1 h).foldl (rV (cx h y) q) (o,0)).1
def AJ (x:ak)(y:aD)(q:Nat):Nat->Int
 |0=> -1
 |i+1=>(kU x i).foldl (wU x y q) (AJ x y q i)
def Kx (x:ak)(i:Nat):SA:=[.cells x.l 76,.cells [iv i] 3,.obj (.deferred (some [])),.gone]
def pK (x:ak):Nat->SA
 |0=>[]
 |i+1=>pK x i++Kx x i
def yD (n:Nat):Nat->SE
 |0=>[]
 |i+1=>(n+4* i+2)::yD n i
def Ky(x:ak):∀i,(pK x i).length=4* i
 |0=>rfl
 |i+1=>by rw[pK,Tt,Ky x i];rfl
def Rg(x:ak)(B:SA):∀(i:Nat)(L:SA),∃Y,jh (yD B.length i) (B++pK x i++L)=some (B++Y)
 |0,L=>⟨pK x 0++L,by rw[yD,A9,Te]⟩
 |i+1,L=>by
  have hl:(B++pK x i).length=B.length+4* i:=by rw[Tt,Ky]
  have e:B++pK x (i+1)++L=(B++pK x i)++(Kx x i++L):=by rw[pK];simp
  have hg:((B++pK x i)++(Kx x i++L))[B.length+4* i+2]?=some (.obj (.deferred (some []))):=by rw[<- hl,aW];rfl
  obtain⟨Y,hY⟩:=Rg x B i ([.cells x.l 76,.cells [iv i] 3,.gone,.gone]++L);refine⟨Y,?_⟩;rw[yD,e,A8 hg,<- hl,dB];exact hY
end Tk
def ah8{lv:Bool}{P:Tl}{nt:Nat}{c:U_}{s:AS}{ms:SE}{Φ:SN}(h:kL lv P nt [] c s ms Φ):m9 lv P nt c s ms Φ:=λE V a Q aj hd hQ=>
 h E V a Q aj ⟨by rw[To];exact hd.1,hd.2⟩ λae e E' V' a' s' cJ hk aX cH he hΦ=>hQ ae e E' V' a' s' cJ hk aX ⟨by have:=cH.1;rwa[To]at this,cH.2⟩ he hΦ
section
variable {lv:Bool}{H:SA}{k kp:SF}
def akz{x:ak}{s q:Nat}{y:aD}(hx:x.Ok)(hs:x.aC[s]?=some y)(hq:q<x.pieces.length)(hk:∀o:Int,o=AJ (x.wo [(s:Int)]) y q (x.am.toNat+1)->k (.aL [iv (if o<0 then 0 else o),iv (if o<0 then 11 else 0)]) H):ba lv S_ 31 H [x.av,iv s,iv q] k kp:=by
 refine aa1 (rs:=[.tmp 6,.tmp 7]) (nt:=97) F.f31 rfl rfl rfl (by simp) λhH hA=> ?_;simp only[bm,Tu,ak.av];have hp:=hx.am;have aP:=hx.dC;have lJ:=hx.dQ;have cu:=e_ hs;have kW:=aeb hq;obtain⟨p,fU⟩:∃p:Nat,x.am=p:=⟨x.am.toNat,by omega⟩;obtain⟨w,hw⟩:∃w,w=x.wo [(s:Int)]:=⟨_,rfl⟩;have Oa:w.Ok:=by rw[hw];exact hx.wo _
 have n_:∀(L:SA),(H++L)[H.length+5]?=L[5]?:=λL=>aW H L 5;have NP:∀(L:SA)(y:aa),(H++L).set (H.length+5) y=H++L.set 5 y:=λL y=>dB H L 5 y;have hd6:∀(L:SA),(H++L)[H.length+6]?=L[6]?:=λL=>aW H L 6;have hs6:∀(L:SA)(y:aa),(H++L).set (H.length+6) y=H++L.set 6 y:=λL y=>dB H L 6 y;have Eg:U4 2 x.l=[iv x.am,dl x.seen,aR x.pieces,aR x.aC]:=rfl;have Hr:(1<=2^24)=True:=eq_true (by decide);(try refine nQ ?_);refine ah ?_;(try refine nQ ?_);refine ab ?_;simp only[seval,TP,TQ,TR];refine aG (Hb (x:=x) hx ?_);(try simp only[seval]);(try refine nQ ?_);refine ab ?_;simp only[seval,show ((0:Int)!=0)=false from rfl];(try refine nQ ?_);refine aB ?_;refine aE ?_;(try refine nQ ?_);refine ab ?_;simp only[seval,z1,Hr,TP,TU,TQ,TR];refine aG (Ha (x:=x) (ns:=[(q:Int)]) ?_);have bK:Tg.wrap ((x.aC.length:Int)-1)=(x.aC.length:Int)-1:=a_ _ (by omega);have ho1:(decide ((s:Int)<0)||decide ((s:Int)>(x.aC.length:Int)-1))=false:=by simp;omega
 (try simp only[seval]);refine aG (Hd (x:=x) (ns:=[(q:Int)]) (e:=.exact) (il:=H.length+4) (ir:=H.length+3) hx (by simp) (by rw[TW];rfl) (by rw[TW];rfl) ?_);rw[kW];(try simp only[seval,TP,TS,TZ,bK]);refine aG (sd (n:=s) (lo:=0) (hi:=(x.aC.length:Int)-1) ?_);rw[ho1];(try simp only[seval]);(try refine nQ ?_);refine aB ?_;refine aE ?_;(try refine nQ ?_);have ami:uY [(s:Int)] x.aC.length:=λi n hn=>by
  match i,hn with
  |0,hn=>cases hn;simp;omega
 refine ab ?_;simp only[seval,z1,Hr,TP,TS,TQ,TR];refine aG (aaK (x:=x) (ns:=[(s:Int)]) aP ami ?_);rw[<- hw];have oz:w.l.length=6:=rfl;have v_:VN 6 w.l=w.l:=rfl;have hlw:w.l=[iv w.first,iv w.hours,iv w.am,dl w.seen,aR w.pieces,aR w.aC]:=rfl;have Oc:U4 6 [AV.val (Th Tg 0),AV.val (Th Tg 0),AV.val (Th Tg 0),AV.sl 0 [] .exact,AV.sl 0 [] .exact,AV.sl 0 [] .exact]=[]:=rfl;(try simp only[seval,ak.av,oz,v_,n_,NP,hd6,hs6,Oc]);refine⟨s_ w,?_⟩;have c_:Tg.wrap (x.am+1)=((p+1:Nat):Int):=by rw[fU,a_ _ (by omega)];rfl
 refine KG ?_;refine nQ ?_;refine ab ?_;simp only[seval,TP,Eg,c_];obtain⟨Bo,kQ⟩:∃Bo:Int->SA,∀o,Bo o=H++[.cells x.l 26,.cells [iv s] 3,.cells [iv q] 3,.cells x.l 26,.cells [.sl 1 [iv q] .exact] 22,.cells w.l 76,.cells [iv o] 3]:=⟨_,λ_=>rfl⟩;have c9:∀o,(Bo o).length=H.length+7:=λo=>by rw[kQ];simp
 have b0:∀o L,(Bo o++L)[H.length]?=some (.cells x.l 26):=λo L=>by rw[kQ,Te,TP];rfl
 have b1:∀o L,(Bo o++L)[H.length+1]?=some (.cells [iv s] 3):=λo L=>by rw[kQ,Te,TW];rfl
 have b2:∀o L,(Bo o++L)[H.length+2]?=some (.cells [iv q] 3):=λo L=>by rw[kQ,Te,TW];rfl
 have b5:∀o L,(Bo o++L)[H.length+5]?=some (.cells w.l 76):=λo L=>by rw[kQ,Te,TW];rfl
 have b6:∀o L,(Bo o++L)[H.length+6]?=some (.cells [iv o] 3):=λo L=>by rw[kQ,Te,TW];rfl
 have s6:∀o o' L,(Bo o++L).set (H.length+6) (.cells [iv o'] 3)=Bo o'++L:=λo o' L=>by rw[kQ,kQ,Te,Te,TY];rfl
 obtain⟨fo,xA⟩:∃fo:Nat->Int,∀i,fo i=AJ w y q i:=⟨_,λ_=>rfl⟩;refine ah8 ?_;refine yG ?_;refine RD (measure λi=>p+1-i).wf (λi:Nat=>⟨[(45,iv i),(44,iv ((p+1:Nat):Int)),(3,.op H.length 0),(4,.op (H.length+1) 0),(5,.op (H.length+2) 0),(9,.op (H.length+5) 0),(10,.op (H.length+6) 0)],Bo (fo i)++pK w i⟩) (λi=>yD (H.length+7) i) (λi=>i<=p+1) 0 (dY (by simp only[seval];simp[bh,Wk.refl]) (by rw[kQ,xA];show _=_++[];rw[To];rfl)) rfl (by omega) λi o0=> ?_;obtain⟨N,hN⟩:∃N,N=H.length+7+4* i:=⟨_,rfl⟩;obtain⟨AO,qP⟩:∃AO:Int->SA,∀o,AO o=Bo o++pK w i:=⟨_,λ_=>rfl⟩;have qQ:∀o,(AO o).length=N:=λo=>by rw[qP,Tt,c9,Ky,hN]
 have a0:∀o L,(AO o++L)[H.length]?=some (.cells x.l 26):=λo L=>by rw[qP,Te];exact b0 _ _
 have a1:∀o L,(AO o++L)[H.length+1]?=some (.cells [iv s] 3):=λo L=>by rw[qP,Te];exact b1 _ _
 have a2:∀o L,(AO o++L)[H.length+2]?=some (.cells [iv q] 3):=λo L=>by rw[qP,Te];exact b2 _ _
 have a5:∀o L,(AO o++L)[H.length+5]?=some (.cells w.l 76):=λo L=>by rw[qP,Te];exact b5 _ _
 have a50:∀o,(AO o)[H.length+5]?=some (.cells w.l 76):=λo=>by have:=a5 o [];rwa[To]at this
 have a6:∀o L,(AO o++L)[H.length+6]?=some (.cells [iv o] 3):=λo L=>by rw[qP,Te];exact b6 _ _
 have as6:∀o o' L,(AO o++L).set (H.length+6) (.cells [iv o'] 3)=AO o'++L:=λo o' L=>by rw[qP,qP,Te,Te];exact s6 _ _ _
 have ag:∀o (L:SA)(j:Nat),(AO o++L)[N+j]?=L[j]?:=λo L j=>by rw[<- qQ o,aW]
 have vc:∀o (L:SA)(j:Nat)(y:aa),(AO o++L).set (N+j) y=AO o++L.set j y:=λo L j y=>by rw[<- qQ o,dB]
 have Pf:∀m o o',(∀z∈AO o,e9 m z)->∀z∈AO o',e9 m z:=λm o o' hz z fD=>by
  rw[qP,kQ]at hz fD;simp only[Tv]at fD;rcases fD with(h'|h')|h'
  ·exact hz z (by simp[h'])
  ·simp only[Tm,T7,or_false]at h';rcases h' with rfl|rfl|rfl|rfl|rfl|rfl|rfl
   ·exact hz _ (by simp)
   ·exact hz _ (by simp)
   ·exact hz _ (by simp)
   ·exact hz _ (by simp)
   ·exact hz _ (by simp)
   ·exact hz _ (by simp)
   ·intro a ha;rw[Ub]at ha;subst ha;exact .val _
  ·exact hz z (by simp[h'])
 have okX:∀(X:SA) o o',bJ (AO o++X)->bJ (AO o'++X):=λX o o' hX z hz=>by
  have hlen:(AO o'++X).length=(AO o++X).length:=by simp[qQ]
  rw[hlen];rcases Tv.1 hz with h'|h'
  ·exact Pf _ o o' (λz hz=>hX z (Ul _ hz)) z h'
  ·exact hX z (T_ _ h')
 rw[<- qP];refine tO ?_;refine ah ?_;refine tO ?_;refine aB ?_;refine⟨λhc=> ?_,λhc=> ?_⟩
 ·have qV:i<=3:=by omega
  have Md:=CC Oa i qV;refine aE ?_;refine GL ?_;refine yG ?_;refine tO ?_;refine ah ?_;refine tO ?_;refine ab ?_;simp only[seval,a50,hlw];refine aG (LD (x:=w) (n:=i) ?_);rw[qQ];(try simp only[seval]);refine yG ?_;refine KH (by rfl) λl fn T Re bo hT zb n5=> ?_;(try simp only[seval]);rw[qQ];have hY:j6 lv S_ (.fn (.yield l) [] []) (λo h=> .go (wU w y q o h)) (λo=>AO o++[.cells w.l 76,.cells [iv i] 3,.obj (.deferred (some [])),.loop l .ready none fn T 97 #[51] Re bo (N+2)]) (N+4) (λ_=>True) (λh=>jO h/\∀ns∈gE w h,∀a∈(iR w h ns).map (dq h ns),jd w a) (.aL []):=by
   refine⟨λo h M k kp _ ha dR=> ?_,λ_ _ _ _ _ _=>trivial,λo=>by simp[qQ],λm o o' hz z fD=> ?_,rfl,rfl,rfl⟩
   ·obtain⟨oZ,ES⟩:=ha;have h4:=oZ.len;have nY:(h.map iv).length=4:=(by rw[Ue,h4]);simp only[db]at dR;obtain⟨Lo,lC⟩:∃Lo,Lo=aa.loop l .busy none fn T 97 #[51] Re bo (N+2):=⟨_,rfl⟩;obtain⟨C,hC⟩:∃C,C=N+4+M.length:=⟨_,rfl⟩;obtain⟨P1,dI⟩:∃P1:Int->SA,∀o,P1 o=AO o++([.cells w.l 76,.cells [iv i] 3,.obj (.deferred (some [])),Lo]++M):=⟨_,λ_=>rfl⟩;have eS:∀o,(P1 o).length=C:=λo=>(by rw[dI,hC];simp[qQ];omega);have p0:∀o L,(P1 o++L)[H.length]?=some (.cells x.l 26):=λo L=>(by rw[dI,Te];exact a0 _ _);have p1:∀o L,(P1 o++L)[H.length+1]?=some (.cells [iv s] 3):=λo L=>(by rw[dI,Te];exact a1 _ _);have p2:∀o L,(P1 o++L)[H.length+2]?=some (.cells [iv q] 3):=λo L=>(by rw[dI,Te];exact a2 _ _);have p5:∀o L,(P1 o++L)[H.length+5]?=some (.cells w.l 76):=λo L=>(by rw[dI,Te];exact a5 _ _);have p6:∀o L,(P1 o++L)[H.length+6]?=some (.cells [iv o] 3):=λo L=>(by rw[dI,Te];exact a6 _ _);have ps6:∀o o' L,(P1 o++L).set (H.length+6) (.cells [iv o'] 3)=P1 o'++L:=λo o' L=>(by rw[dI o,dI o',Te (AO o),Te (AO o')];exact as6 _ _ _);have Pw:∀o L,(P1 o++L)[N+3]?=some Lo:=λo L=>(by rw[dI,Te,ag];rfl);have PP:∀o (L:SA) y,(P1 o++L).set (N+3) y=AO o++([.cells w.l 76,.cells [iv i] 3,.obj (.deferred (some [])),y]++M)++L:=λo L y=>(by rw[dI,Te,vc];simp);have pb:∀o (L:SA)(j:Nat),(P1 o++L)[C+j]?=L[j]?:=λo L j=>(by rw[<- eS o,aW]);have x7:∀o (L:SA),(P1 o++L)[C]?=L[0]?:=λo L=>pb o L 0;have pb1:∀o (L:SA),(P1 o++L)[C+1]?=L[1]?:=λo L=>pb o L 1;have pb2:∀o (L:SA),(P1 o++L)[C+2]?=L[2]?:=λo L=>pb o L 2;have Ch:∀o (L:SA)(j:Nat)(y:aa),(P1 o++L).set (C+j) y=P1 o++L.set j y:=λo L j y=>(by rw[<- eS o,dB]);have ps1:∀o (L:SA)(y:aa),(P1 o++L).set (C+1) y=P1 o++L.set 1 y:=λo L y=>Ch o L 1 y;have ps2:∀o (L:SA)(y:aa),(P1 o++L).set (C+2) y=P1 o++L.set 2 y:=λo L y=>Ch o L 2 y;have Ca:∀m o o',(∀z∈P1 o,e9 m z)->∀z∈P1 o',e9 m z:=λm o o' hz z fD=>by
     rw[dI]at hz fD;rcases Tv.1 fD with h'|h'
     ·exact Pf m o o' (λz wc=>hz z (Ul _ wc)) z h'
     ·exact hz z (T_ _ h')
    subst hT zb n5;rw[Te];refine w8 (id:=N+3) (by rw[ag];rfl) rfl (by kernel_rfl) λoR Me=> ?_;simp only[tz];have xy:U4 4 [iv 0,iv 0,iv 0,iv 0]=[]:=rfl;refine ab ?_;simp only[seval,h4,xy];unfold va;refine⟨none,fn,_,97,#[51],_,_,_,by rw[ag];rfl,?_⟩;dsimp only;rw[vc];simp only[VI,U7];rw[<- lC];have yZ:(AO o).length+(M.length+1+1+1+1)=C:=(by rw[qQ,hC];omega);rw[yZ];have zm:∀z:aa,(AO o++aa.cells w.l 76::aa.cells [AV.val (Th Tg ↑i)] 3::aa.obj (ayj (some []))::Lo::(M++[z]))=P1 o++[z]:=λz=>(by rw[dI];simp[iv]);rw[zm];obtain⟨own,eW⟩:∃own,own=cx h y:=⟨_,rfl⟩;refine bF ?_;refine lY [7,8] (T1 9) (λD=>bif isDone 8 D then P1 o++[.cells (h.map iv) 83,.cells [wv own] 79]else bif isDone 7 D then P1 o++[.cells (h.map iv) 83,.cells [.val (.int .u16 0)] 79]else P1 o++[.cells (h.map iv) 83]) ?_;simp only[seval,eS,x7,pb1,ps1,p0,p1,h4,nY,TZ,Cu hs,jx cu];have hmE:VN 4 (Wn (λn=>AV.val (Th Tg n)) h)=h.map iv:=Tx (by rw[nY];exact Ts _);rw[hmE];refine fE (wv own) (cP (Hc (h:=h) (y:=y) oZ ⟨by rw[eW],rfl⟩)) ?_;refine⟨fE (wv own) (cP (Hc (h:=h) (y:=y) oZ ⟨by rw[eW],rfl⟩)) rfl,?_⟩;(try simp only[seval,wv]);have hm3:Wn (λn=>AV.val (Th Tg n)) h=h.map iv:=rfl;rw[hm3];refine ab ?_;simp only[seval,pb1];refine aB ?_;refine⟨λhz=> ?_,λhz=> ?_⟩
    ·refine bD ?_;have fD:own=0:=(by simpa using hz);have e1:wU w y q o h=o:=(by unfold wU;rw[<- eW,if_pos fD]);rw[e1]at dR;show pH _ _ _ _ _ _ _;refine⟨l,.busy,none,fn,_,97,#[51],_,_,N+2,by show (P1 _++_)[_]?=_;rw[Pw,lC],?_⟩;show cz C ((P1 _++_).set _ _) _ k;rw[PP];rw[Te]at dR;exact jS (G:=[.cells (h.map iv) 83,.cells [wv own] 79]) (Wk.refl _) rfl (by rw[hC];simp[qQ];omega) oR (.val _) dR
    ·refine aE ?_;refine ab ?_;simp only[seval,eS];refine ab ?_;simp only[seval,p5,x7,hlw,h4,nY];have ang:VN 4 (Wn iv h)=h.map iv:=Tx (by rw[nY];exact Ts _);rw[ang];refine aG (LF (x:=w) (h:=h) (deep:=1) ?_);(try simp only[seval]);have fD:own≠0:=(by simpa using hz);have ans:own<65536:=by
      rw[eW];have:cx h y<2^9:=GO;omega
     refine bF ?_;refine GJ (N+3) (by rfl) (by show (P1 _++_)[N+3]?=_;rw[Pw,lC]) λl2 fq T2 h_ ie oS zd zf=> ?_;simp only[seval];rw[eS]at oS⊢;have okm:∀v m m',(∀z∈[aa.cells (h.map iv) 83,.cells [wv own] 79,.cells [wv m] 79,.cells w.l 76,.cells (h.map iv) 83,.cells [iv 1] 3,.loop l2 .ready none fq T2 97 #[64] h_ ie (N+2)],e9 v z)->∀z∈[aa.cells (h.map iv) 83,.cells [wv own] 79,.cells [wv m'] 79,.cells w.l 76,.cells (h.map iv) 83,.cells [iv 1] 3,.loop l2 .ready none fq T2 97 #[64] h_ ie (N+2)],e9 v z:=λv m m' hz z fD=>by
      simp only[Tm,T7,or_false]at fD;rcases fD with rfl|rfl|rfl|rfl|rfl|rfl|rfl
      ·exact hz _ (by simp)
      ·exact hz _ (by simp)
      ·intro a ha;rw[Ub]at ha;subst ha;exact .val _
      ·exact hz _ (by simp)
      ·exact hz _ (by simp)
      ·exact hz _ (by simp)
      ·exact hz (.loop l2 .ready none fq T2 97 #[64] h_ ie (N+2)) (by simp)
     have za:j6 lv S_ (.fn (.yield l2) [] []) (λm t=> .go (rV own q m t)) (λm:Int×Nat=>P1 m.1++[.cells (h.map iv) 83,.cells [wv own] 79,.cells [wv m.2] 79,.cells w.l 76,.cells (h.map iv) 83,.cells [iv 1] 3,.loop l2 .ready none fq T2 97 #[64] h_ ie (N+2)]) (C+7) (λm=>m.2<65536) (jd w) (.aL []):=by
      refine⟨λm t M2 k2 zL hm ht lH=> ?_,λm t m' hm ht he=> ?_,λm=>by simp[eS],λv m m' hz z fD=> ?_,rfl,rfl,rfl⟩
      ·obtain⟨o2,met⟩:=m;replace hm:met<65536:=hm;have ox:=ht.len;have BT:(t.map iv).length=11:=(by rw[Ue,ox]);simp only[db]at lH;have BY:w.pieces.length=x.pieces.length:=(by rw[hw];rfl);obtain⟨n,kX,hn9,_⟩:=ht.num q (by rw[BY];exact hq);have Iq:mY t q=n:=(by unfold mY;rw[Tf,kX];rfl);obtain⟨qD,t_⟩:∃Lo,Lo=aa.loop l2 .busy none fq T2 97 #[64] h_ ie (N+2):=⟨_,rfl⟩;obtain⟨D,hD⟩:∃D,D=C+7+M2.length:=⟨_,rfl⟩;obtain⟨Q1,gJ⟩:∃Q1:Int->Nat->SA,∀o m,Q1 o m=P1 o++([.cells (h.map iv) 83,.cells [wv own] 79,.cells [wv m] 79,.cells w.l 76,.cells (h.map iv) 83,.cells [iv 1] 3,qD]++M2):=⟨_,λ_ _=>rfl⟩;have hQl:∀o m,(Q1 o m).length=D:=λo m=>(by rw[gJ,hD];simp[eS];omega);have q2:∀o m L,(Q1 o m++L)[H.length+2]?=some (.cells [iv q] 3):=λo m L=>(by rw[gJ,Te];exact p2 _ _);have q6:∀o m L,(Q1 o m++L)[H.length+6]?=some (.cells [iv o] 3):=λo m L=>(by rw[gJ,Te];exact p6 _ _);have qs6:∀o o' m L,(Q1 o m++L).set (H.length+6) (.cells [iv o'] 3)=Q1 o' m++L:=λo o' m L=>(by rw[gJ o,gJ o',Te (P1 o),Te (P1 o')];exact ps6 _ _ _);have qo:∀o m L,(Q1 o m++L)[C+1]?=some (.cells [wv own] 79):=λo m L=>(by rw[gJ,Te,pb];rfl);have qm:∀o m L,(Q1 o m++L)[C+2]?=some (.cells [wv m] 79):=λo m L=>(by rw[gJ,Te,pb];rfl);have qsm:∀o m m' L,(Q1 o m++L).set (C+2) (.cells [wv m'] 79)=Q1 o m'++L:=λo m m' L=>(by rw[gJ o m,gJ o m',Te (P1 o),Ch,Te (P1 o)];rfl);have ql:∀o m L,(Q1 o m++L)[C+6]?=some qD:=λo m L=>(by rw[gJ,Te,pb];rfl);have qsl:∀o m L y,(Q1 o m++L).set (C+6) y=(P1 o++([.cells (h.map iv) 83,.cells [wv own] 79,.cells [wv m] 79,.cells w.l 76,.cells (h.map iv) 83,.cells [iv 1] 3,y]++M2))++L:=λo m L y=>(by rw[gJ,Te,Ch];simp);have qc:∀o m (L:SA),(Q1 o m++L)[D]?=L[0]?:=λo m L=>(by rw[<- hQl o m];exact aW _ L 0);have Jk:∀o (L:SA),(P1 o++L)[C+6]?=L[6]?:=λo L=>pb o L 6;have ui:∀(o':Int)(m':Nat)(G:SA),bJ (P1 o2++([aa.cells (h.map iv) 83,.cells [wv own] 79,.cells [wv met] 79,.cells w.l 76,.cells (h.map iv) 83,.cells [iv 1] 3,.loop l2 .ready none fq T2 97 #[64] h_ ie (N+2)]++M2))->k2 (.val (.bool true)) (P1 o'++([aa.cells (h.map iv) 83,.cells [wv own] 79,.cells [wv m'] 79,.cells w.l 76,.cells (h.map iv) 83,.cells [iv 1] 3,.loop l2 .ready none fq T2 97 #[64] h_ ie (N+2)]++M2))->cz D ((Q1 o' m'++G).set (C+6) (.loop l2 .ready none fq T2 97 #[64] h_ ie (N+2))) (.val (.bool true)) k2:=λo' m' G aq aI=>by
        rw[qsl];refine jS (G:=G) (Wk.refl _) rfl (by rw[hD];simp[eS];omega) ?_ (.val _) aI;intro z hz;have hlen:(P1 o'++([aa.cells (h.map iv) 83,.cells [wv own] 79,.cells [wv m'] 79,.cells w.l 76,.cells (h.map iv) 83,.cells [iv 1] 3,.loop l2 .ready none fq T2 97 #[64] h_ ie (N+2)]++M2)).length=(P1 o2++([aa.cells (h.map iv) 83,.cells [wv own] 79,.cells [wv met] 79,.cells w.l 76,.cells (h.map iv) 83,.cells [iv 1] 3,.loop l2 .ready none fq T2 97 #[64] h_ ie (N+2)]++M2)).length:=(by simp[eS]);rw[hlen];rcases Tv.1 hz with h'|h'
        ·exact Ca _ o2 o' (λz hz=>aq z (Ul _ hz)) z h'
        ·rcases Tv.1 h' with h'|h'
         ·exact okm _ met m' (λz hz=>aq z (T_ _ (Ul _ hz))) z h'
         ·exact aq z (T_ _ (T_ _ h'))
       subst oS zd zf;rw[Te];refine w8 (id:=C+6) (by rw[Jk];rfl) rfl (by kernel_rfl) λsh Mf=> ?_;simp only[tz];have Eg:U4 11 [iv 0,iv 0,iv 0,iv 0,iv 0,iv 0,iv 0,iv 0,iv 0,iv 0,iv 0]=[]:=rfl;refine ab ?_;simp only[seval,ox,Eg];unfold va;refine⟨none,fq,_,97,#[64],_,_,_,by rw[Jk];rfl,?_⟩;dsimp only;rw[Ch];simp only[VI,U7];rw[<- t_];have DR:(P1 o2).length+(M2.length+1+1+1+1+1+1+1)=D:=(by rw[eS,hD];omega);rw[DR];have jj:∀z:aa,(P1 o2++aa.cells (Wn iv h) 83::aa.cells [AV.val (Th Uc ↑own)] 79::aa.cells [AV.val (Th Uc ↑met)] 79::aa.cells w.l 76::aa.cells (Wn iv h) 83::aa.cells [AV.val (Th Tg 1)] 3::qD::(M2++[z]))=Q1 o2 met++[z]:=λz=>(by rw[gJ];simp[iv]);rw[jj];have b4:(0<=(q:Int)/\(q:Int)<4)=True:=(by simp;omega);have pX:=ky (i:=4+q) kX;refine ab ?_;simp only[seval,q2,qc,b4,pX];refine ab ?_;simp only[seval,qm];refine aG (vu (m:=met) (n:=n) hm ?_);(try simp only[seval]);refine aB ?_;refine⟨λhb=> ?_,λhb=> ?_⟩
       ·refine bD ?_;have e1:rV own q (o2,met) t=(o2,met):=(by unfold rV;rw[Iq,if_pos hb]);rw[e1]at lH;rw[Te]at lH;show pH _ _ _ _ _ _ _;refine⟨l2,.busy,none,fq,_,97,#[64],_,_,N+2,by show (Q1 _ _++_)[_]?=_;rw[ql,t_],?_⟩;exact ui o2 met _ sh lH
       ·refine aE ?_;have dO:met.testBit n=false:=(by simpa using hb);have e1:rV own q (o2,met) t=(Fz (fX own 0 16) n o2,met|||2^n):=(by unfold rV;rw[Iq,if_neg (by simpa using hb)]);rw[e1]at lH;rw[Te]at lH;refine ab ?_;simp only[seval,qm];refine aG (vv (m:=met) (n:=n) hm (by omega) ?_);(try simp only[seval,qm,qsm,wv]);refine ab ?_;simp only[seval,qo];refine aG (G_ (s:=own) (more:=0) ans (by decide) ?_);(try simp only[seval,aO]);have hlb:∀v∈fX own 0 16,0<=v/\v<16:=λv hv=>by
         unfold fX at hv;obtain⟨j,hj,rfl⟩:=Uo.1 hv;have:=UN.1 (Vl.1 hj).1;omega
        have fI:=OS own 0 16;generalize fX own 0 16=ls at hlb fI lH⊢;obtain⟨oj,kV⟩:∃oj:Nat->Int,∀j,oj j=Fz (ls.take j) n o2:=⟨_,λ_=>rfl⟩;have anu:oj 0=o2:=(by rw[kV];rfl);generalize met|||2^n=adv at lH⊢;refine bF ?_;refine ej ls.length (λj:Nat=>[(78,iv j)]) (λj=>Q1 (oj j) adv++[.cells (t.map iv) 86]) (λ_=>True) (λ_ _=>rfl) (by simp only[seval];simp[bh,Wk.refl]) (by rw[anu]) (λ_ _ _=>by simp[hQl]) trivial (λbz bE j mI _ R hR=> ?_);clear bz bE;refine ah ?_;refine aB ?_;refine⟨λh1=> ?_,λh1=> ?_⟩
        ·have dW:j<ls.length:=(by omega);obtain⟨v,hv⟩:=bA dW;have hvb:=hlb v (uI hv);have cW:oj (j+1)=adC n (oj j) v:=by
          rw[kV,kV,Fz,Fz];obtain⟨am7,v8⟩:=Tq.1 hv;rw[Wx am7,Xo,v8];rfl
         have hwa:Tg.wrap (v-(n:Int))=v-n:=a_ _ (by omega);have Iw:Tg.wrap ((n:Int)-v)=n-v:=a_ _ (by omega);have gA:=TN j (by omega);have al7:(2<=2^24)=True:=eq_true (by decide);refine aE ?_;refine ab ?_;simp only[seval,dp hv,jx dW];refine ab ?_;simp only[seval,q6,z2,al7,hwa,Iw];have Ey:(if v-(n:Int)<(n:Int)-v then(n:Int)-v else v-(n:Int))=max (v-n) (n-v):=(by split<;>omega);rw[Ey];refine aG (akT (ns:=[oj j,max (v-n) (n-v)]) (by simp) ?_);(try simp only[seval,q6,qs6]);refine ab ?_;simp only[seval,gA];refine hR _ ⟨dW,trivial,?_⟩;rw[cW];exact bX
        ·have vS:j=ls.length:=(by omega);subst vS;refine bD ?_;show pH _ _ _ _ _ _ _;refine⟨l2,.busy,none,fq,_,97,#[64],_,_,N+2,by show (Q1 _ _++_)[_]?=_;rw[ql,t_],?_⟩;exact ui (oj ls.length) adv _ sh (by rw[kV,Un];exact lH)
      ·cases he;show (rV own q m t).2<65536;unfold rV;split
       ·exact hm
       ·obtain⟨n,kX,hn9,_⟩:=ht.num q (by rw[hw];exact hq);have Iq:mY t q=n:=(by unfold mY;rw[Tf,kX];rfl);rw[Iq];exact qw hm (yf (by omega))
      ·rcases Tv.1 fD with h'|h'
       ·exact Ca v m.1 m'.1 (λz wc=>hz z (Ul _ wc)) z h'
       ·exact okm v m.2 m'.2 (λz wc=>hz z (T_ _ wc)) z h'
     refine cP (LK (x:=w) (h:=h) (deep:=1) (ir:=C+3) (ih:=C+3+1) (id:=C+3+2) (σ:=(o,0)) Oa oZ za (λm L=> ?_) (λm L=> ?_) (λm L=> ?_) (λn=>by simp[iF]) (show (0:Nat)<65536 by decide) (λa ha=>ha.len) ES ?_)
     ·rw[Te];exact pb _ _ 3
     ·rw[Te];exact pb _ _ 4
     ·rw[Te];exact pb _ _ 5
     rw[FN (g:=rV own q) (λ_ _=>rfl)];simp only[gG,To];have e1:wU w y q o h=((jL w 1 h).foldl (rV own q) (o,0)).1:=(by unfold wU;rw[<- eW,if_neg fD]);generalize(jL w 1 h).foldl (rV own q) (o,0)=r at e1⊢;rw[e1]at dR;have Jk:∀o (L:SA),(P1 o++L)[C+6]?=L[6]?:=λo L=>pb o L 6;refine⟨.ready,none,_,_,_,_,_,_,_,by rw[Jk];rfl,by decide,?_⟩;rw[Ch,Jn];(try simp only[seval]);show pH _ _ _ _ _ _ _;refine⟨l,.busy,none,fn,_,97,#[51],_,_,N+2,by show (P1 _++_)[_]?=_;rw[Pw,lC],?_⟩;show cz C ((P1 _++_).set _ _) _ k;rw[PP];rw[Te]at dR;exact jS (G:=[.cells (h.map iv) 83,.cells [wv own] 79,.cells [wv r.2] 79,.cells w.l 76,.cells (h.map iv) 83,.cells [iv 1] 3,.gone]) (Wk.refl _) rfl (by rw[hC];simp[qQ];omega) (okX _ o r.1 oR) (.val _) dR
   ·rcases Tv.1 fD with h'|h'
    ·exact Pf m o o' (λz wc=>hz z (Ul _ wc)) z h'
    ·exact hz z (T_ _ h')
  refine cP (LI (x:=w) (bu:=i) (ir:=N) (it:=N+1) (σ:=fo i) Oa hY (λo L=> ?_) (λo L=> ?_) qV (λn=>by simp[iF]) trivial (λa ha=>Md a ha) ?_)
  ·rw[Te];exact ag _ _ 0
  ·rw[Te];exact ag _ _ 1
  rw[FN (g:=wU w y q) (λ_ _=>rfl)];simp only[gG,To];have hfx:(kU w i).foldl (wU w y q) (fo i)=fo (i+1):=by rw[xA,xA,AJ]
  rw[hfx];have v9:=TN i (by omega)
  refine⟨.ready,none,_,_,_,_,_,_,_,by show (AO _++_)[N+3]?=_;rw[ag];rfl,by decide,?_⟩;rw[show N+2+1=N+3 from rfl,vc,Jm];(try simp only[seval]);refine GK ?_;refine ab ?_;simp only[seval,v9];refine⟨i+1,?_,by omega,dY (by push_cast;simp only[seval];simp[bh,Wk.refl]) (by rw[qP,pK,Te];rfl),by rw[yD,hN]⟩;show p+1-(i+1)<p+1-i;omega
 ·have dK:i=p+1:=by omega
  subst dK;refine bD ?_;have Kt:∀o,(AO o)[H.length+6]?=some (.cells [iv o] 3):=λo=>by have:=a6 o [];rwa[To]at this
  have mL:x.am.toNat=p:=by omega
  rw[mL]at hk;have aI:=hk (fo (p+1)) (by rw[xA,hw]);generalize fo (p+1)=o at aI⊢;(try refine nQ ?_);refine ab ?_;simp only[seval,Kt];obtain⟨Y,xn⟩:=Rg w (Bo o) (p+1) [];rw[To,c9]at xn;have hYo:jh (yD (H.length+7) (p+1)) (AO o)=some (H++([.cells x.l 26,.cells [iv s] 3,.cells [iv q] 3,.cells x.l 26,.cells [.sl 1 [iv q] .exact] 22,.cells w.l 76,.cells [iv o] 3]++Y)):=by rw[qP,xn,kQ,Te]
  (try refine nQ ?_);refine aB ?_;refine⟨λho=> ?_,λho=> ?_⟩
  ·have bt:o<0:=(by simpa using ho);rw[if_pos bt,if_pos bt]at aI;refine ah ?_;refine aT ?_;refine eK hYo ?_;(try simp only[seval]);exact f_ hH (Wk.refl _) (by simp[iF,dj]) aI
  ·have bt:¬o<0:=(by simpa using ho);rw[if_neg bt,if_neg bt]at aI;refine aE ?_;refine KF ?_;have Kt:∀o,(AO o)[H.length+6]?=some (.cells [iv o] 3):=λo=>(by have:=a6 o [];rwa[To]at this);refine ab ?_;simp only[seval,Kt];refine aT ?_;refine eK hYo ?_;(try simp only[seval]);exact f_ hH (Wk.refl _) (by simp[iF,dj]) aI
end
open Go.Conc Go.Proofs Go.Gg.Tk
namespace Tk
def gq:ak:=⟨10,3,2,[⟨2,⟨12,13⟩⟩],[⟨⟨10,12⟩,⟨0,1⟩⟩,⟨⟨11,11⟩,⟨0,2⟩⟩,⟨⟨12,15⟩,⟨1,2⟩⟩],[⟨⟨12,12⟩,⟨0,2⟩⟩,⟨⟨10,15⟩,⟨2,2⟩⟩]⟩
def uM:ak:={gq with aC:=[⟨⟨15,15⟩,⟨0,0⟩⟩,⟨⟨10,15⟩,⟨2,2⟩⟩]}
end Tk
def age:gZ (UC #[Th .i64 0,Th .i64 0,Th .i64 0]) 3=[iv 0,iv 0,iv 0]:=rfl
def agd:gZ (UC #[Th .i64 0,Th .i64 0,Th .i64 0,Th .i64 0]) 12=UP 12 (iv 0):=rfl
def agc:gZ (UC #[Th .i64 0,Th .i64 0,Th .i64 0,Th .i64 0]) 8=[iv 0,iv 0,iv 0,iv 0,iv 0,iv 0,iv 0,iv 0]:=rfl
def aeu:UP 12 (iv 0)=[iv 0,iv 0,iv 0,iv 0,iv 0,iv 0,iv 0,iv 0,iv 0,iv 0,iv 0,iv 0]:=rfl
def ad4:(3<=2^24)=True:=eq_true (by decide)
def ad5:(8<=2^24)=True:=eq_true (by decide)
def ad3:(12<=2^24)=True:=eq_true (by decide)
section
variable {lv:Bool}{H:SA}{k kp:SF}
def yQ(hk:k gq.av H):ba lv S_ 53 H [] k kp:=by
 refine bH (rs:=[.cell 0 26]) (nt:=11) axP λhH hA=> ?_;simp only[bm,Tu];refine ah ?_;refine ah ?_;refine aG (aaN (a:=2) (b:=12) (c:=13) ?_);(try simp only[seval,Seen.av,Seen.l,eG.av,age,ad4]);refine aG (se (a:=10) (b:=12) (c:=0) (d:=1) ?_);(try simp only[seval]);refine aG (se (a:=11) (b:=11) (c:=0) (d:=2) ?_);(try simp only[seval]);refine aG (se (a:=12) (b:=15) (c:=1) (d:=2) ?_);(try simp only[seval,aD.av,aD.l,agd,aeu,ad3]);refine aG (se (a:=12) (b:=12) (c:=0) (d:=2) ?_);(try simp only[seval]);refine aG (se (a:=10) (b:=15) (c:=2) (d:=2) ?_);(try simp only[seval,aD.av,aD.l,agc,ad5,TP,TV]);refine ng ?_;simp only[seval,TP];refine f_ hH (b:=gq.av) (QC (.cons (Wk.refl _) (.cons (Wk.refl _) (.cons (Wk.refl _) (.cons (ff _ _ _) (.cons (ff _ _ _) (.cons (ff _ _ _) .nil))))))) (by rw[IV];trivial) hk
def akN(hk:∀X:aa,k (.agg [iv 10,iv 3,iv 2,.sl 1 (gq.seen.flatMap Seen.l) .exact,.sl 3 (gq.pieces.flatMap aD.l) .exact,.bC (H.length+1) 0 2 2]) (H++[X,.cells (gq.aC.flatMap aD.l) 48])):ba lv S_ 53 H [] k kp:=by
 refine bH (rs:=[.cell 0 26]) (nt:=11) axP λhH hA=> ?_;simp only[bm,Tu];refine ah ?_
 (repeat apply fu);refine ahW 8 (by kernel_rfl) ?_
 simp only[seval];refine aG (aaN (a:=2) (b:=12) (c:=13) ?_);(try simp only[seval,Seen.av,Seen.l,eG.av,age,ad4]);refine aG (se (a:=10) (b:=12) (c:=0) (d:=1) ?_);(try simp only[seval]);refine aG (se (a:=11) (b:=11) (c:=0) (d:=2) ?_);(try simp only[seval]);refine aG (se (a:=12) (b:=15) (c:=1) (d:=2) ?_);(try simp only[seval,aD.av,aD.l,agd,aeu,ad3]);refine aG (se (a:=12) (b:=12) (c:=0) (d:=2) ?_);(try simp only[seval]);refine aG (se (a:=10) (b:=15) (c:=2) (d:=2) ?_);(try simp only[seval,aD.av,aD.l,agc,ad5,TP,TV]);refine ng ?_;simp only[seval,TP];exact b8 (hk _)
def akO(hk:k uM.av H):ba lv S_ 54 H [] k kp:=by
 refine bH (rs:=[.cell 0 26]) (nt:=8) Tryz.f54 λhH hA=> ?_;simp only[bm,Tu];refine ah ?_;refine ah ?_;refine aG (akN (λX=> ?_));simp only[Te,Wv,VK];have sw:∀(L:SA),(H++L)[H.length+3]?=L[3]?:=λL=>aW H L 3;have qb:∀(L:SA)(y:aa),(H++L).set (H.length+3) y=H++L.set 3 y:=λL y=>dB H L 3 y;have hrx:gq.aC.flatMap aD.l=[iv 12,iv 12,iv 0,iv 2,iv 10,iv 15,iv 2,iv 2]:=rfl;rw[hrx];have e2:H.length+1+1=H.length+2:=rfl;(try simp only[seval,sw,qb,e2]);refine eA 4 ?_;simp only[seval,TU,Tb,sw];refine fE _ (cP (se (a:=15) (b:=15) (c:=0) (d:=0) ⟨rfl,rfl⟩)) ?_;(try simp only[seval,aD.av,aD.l,TU,Tb]);obtain⟨rs,EL⟩:∃rs,rs=uM.aC.flatMap aD.l:=⟨_,rfl⟩;have an5:[AV.val (Th Tg 15),AV.val (Th Tg 15),AV.val (Th Tg 0),AV.val (Th Tg 0),AV.val (Th Tg 10),AV.val (Th Tg 15),AV.val (Th Tg 2),AV.val (Th Tg 2)]=rs:=by rw[EL];rfl
 have uv:rs.length=8:=by rw[EL];rfl
 rw[an5];refine ab ?_;simp only[seval,TP,TV,sw]
 (repeat apply fu);refine KC (id:=H.length+2) (by simp only[seval,TU]<;>rfl) ?_
 simp only[seval,Tb,uv]
 (repeat apply fu);refine KE (id:=H.length) (j:=5) (y:=aR uM.aC) (by simp only[seval,TP]<;>rfl) rfl ?_ ?_
 ·have e:aR uM.aC=.sl 2 (rs.take 8) .shut:=by rw[Tx (by omega),EL];rfl
  rw[e];exact JR (p:=8) (by simp only[seval,TU]<;>rfl) (by omega) (by omega)
 (try simp only[seval,TV]);refine ng ?_;simp only[seval,TP];refine f_ hH (b:=uM.av) (QC (.cons (Wk.refl _) (.cons (Wk.refl _) (.cons (Wk.refl _) (.cons (ff _ _ _) (.cons (ff _ _ _) (.cons (Wk.refl _) .nil))))))) (by rw[IV];trivial) hk
end
open Go.Gg.Tk
def Ac:gq.Ok:=by
 refine⟨by decide,by decide,by decide,by decide,by decide,by decide,λs hs=> ?_,λy hy=> ?_,λy hy=> ?_⟩
 ·simp only[gq,Ub]at hs;subst hs;exact⟨by decide,by decide,by decide,by decide⟩
 ·simp only[gq,Tm,T7,or_false]at hy;rcases hy with rfl|rfl|rfl<;>exact⟨⟨by decide,by decide,by decide⟩,⟨by decide,by decide,by decide⟩⟩
 ·simp only[gq,Tm,T7,or_false]at hy;rcases hy with rfl|rfl<;>exact⟨⟨by decide,by decide,by decide⟩,⟨by decide,by decide,by decide⟩⟩
def aqA:uM.Ok:=by
 refine⟨by decide,by decide,by decide,by decide,by decide,by decide,λs hs=> ?_,λy hy=> ?_,λy hy=> ?_⟩
 ·simp only[uM,gq,Ub]at hs;subst hs;exact⟨by decide,by decide,by decide,by decide⟩
 ·simp only[uM,gq,Tm,T7,or_false]at hy;rcases hy with rfl|rfl|rfl<;>exact⟨⟨by decide,by decide,by decide⟩,⟨by decide,by decide,by decide⟩⟩
 ·simp only[uM,Tm,T7,or_false]at hy;rcases hy with rfl|rfl<;>exact⟨⟨by decide,by decide,by decide⟩,⟨by decide,by decide,by decide⟩⟩
def aj0:cnt gq=4:=by kernel_rfl
def aj3:live gq=[[10,11,13,14],[10,11,13,15],[10,12,13,14],[10,12,13,15]]:=by kernel_rfl
def aj1:(bc gq).head?=some ⟨[10,11,13,14],[12,11,13],[0,2]⟩:=by kernel_rfl
def aj4:fi (rA gq 2) 10 16=[13,14]:=by kernel_rfl
def aaq:s7 gq 0 0=true/\Cd gq 0 0=false:=by decide+kernel
def aao:Hj uM=some [0]:=by kernel_rfl
def ajY:AJ (gq.wo [1]) ⟨⟨10,15⟩,⟨2,2⟩⟩ 0 3=1:=by kernel_rfl
open Go.Conc Go.Proofs
def Tk.Bounds.of_map{l:SO}{g:SD->SD}{v w:SD->Int}{a b:Int}(h:Bounds (l.map g) v a b)(e:∀y∈l,v (g y)=w y):Bounds l w a b:=by
 obtain⟨g1,m1,e1⟩:=h.IG;obtain⟨g2,m2,e2⟩:=h.IF;obtain⟨y1,n1,rfl⟩:=Uo.1 m1;obtain⟨y2,n2,rfl⟩:=Uo.1 m2;exact⟨⟨y1,n1,e1.trans (e y1 n1)⟩,λy hy=>by rw[<- e y hy];exact h.le _ (Uo.2 ⟨y,hy,rfl⟩),⟨y2,n2,e2.trans (e y2 n2)⟩,λy hy=>by rw[<- e y hy];exact h.ge _ (Uo.2 ⟨y,hy,rfl⟩)⟩
def Pq{h:SD}{i:Nat}(hi:i<h.length):(cM h).getD i 0=h.getD i 0:=by
 unfold cM;rw[Tf,Tf,T4 hi]
def adk{x:ak}{h:SD}(hm:h∈live x):h.length=1+x.hours.toNat:=Ng (Vl.1 hm).1
def aec{x:ak}{D:Kn}(hx:x.Ok)(hD:ez x 0 D)(hh:D.has=true){hs:SO}(hp:hs.Perm D.aM)(v:SD->Int)(w:SD->Int)(e:∀y∈live x,v (cM y)=w y):Bounds (live x) w (hs.foldl (λb h=>b.add (v h)) (⟨0,0,false⟩:fF)).lo (hs.foldl (λb h=>b.add (v h)) (⟨0,0,false⟩:fF)).hi:=by
 have cr:=hp.trans (acX hx hD);have aF:hs≠[]:=λh=>by
  rw[h]at cr;have:=cr.length_eq;rw[Ue]at this;have h0:live x=[]:=VG this.symm;rw[(wl hx hD).2 (OU.1 h0)]at hh;cases hh
 exact((aiz v aF).aqJ cr).of_map e
def Fg{x:ak}{deep:Int}{D:Kn}(hx:x.Ok)(hD:ez x deep D)(hh:D.has=true):bc x≠[]:=λh=>by
 rw[(wl hx hD).2 h]at hh;cases hh
def adu{α:Type}{f:Nat->α}{l:List α}{n:Nat}(d:α)(hl:l.length=n)(h:∀i,i<n->f i=l.getD i d):(T1 n).map f=l:=by
 refine Zo λi=> ?_;rw[Ut];by_cases hi:i<n
 ·rw[av' hi,VS,h i hi,Tf,Tw (by omega)];rfl
 ·rw[Vy (by simp;omega),Vy (by omega)];rfl
def ajC{x:ak}(hx:x.Ok){u:Tr}(hu:u∈bc x){s:Nat}(hs:s<x.aC.length):(ek u).getD (8+s) 0=((u.bR.getD s 0:Nat):Int):=by
 obtain⟨h1,h2⟩:=wI hx hu;have h3:=(JJ hx hu).1;have hh:=hx.hours;have lJ:=hx.dQ;have h4:=x6 (h:=u.aK) (by omega);have cu:s<u.bR.length:=by omega
 have hg:(ek u)[8+s]?=some ((u.bR[s]:Nat):Int):=by
  unfold ek dq lg;have h8:(cM u.aK++((u.ap.map λn=>(n-u.aK.headD 0).toNat).map (λn:Nat=>(n:Int))++UP (4-(u.ap.map λn=>(n-u.aK.headD 0).toNat).length) (-1))).length=8:=by simp[h4];omega
  rw[Ud (by omega),h8,US,T4 (by simpa using cu),Ut,Tw cu];rfl
 rw[Tf,hg,Tf,Tw cu];rfl
def au1{x:ak}{u:Tr}(hu:u∈bc x):u.aK.headD 0=x.first:=by
 obtain⟨h,a,b⟩:=T9.1 hu;rw[ye b];exact(Bz _ _ _ (by simp) a).2
def alp{x:ak}(hx:x.Ok){u:Tr}(hu:u∈bc x):(ek u).take (x.hours.toNat+1)=u.aK:=by
 have hl:=(wI hx hu).1;have hh:=hx.hours;have h1:(ek u).take (x.hours.toNat+1)=((ek u).take 4).take (x.hours.toNat+1):=by rw[Wh,Xz (by omega)]
 rw[h1,Lq hx hu];exact Pr (by omega)
def alq{x:ak}(hx:x.Ok){u:Tr}(hu:u∈bc x):tW x (ek u) x.pieces.length=u.ap:=by
 unfold tW;refine adu 0 (wI hx hu).2 λi hi=> ?_;rw[Ln hx hu hi,au1 hu];omega
def alr{x:ak}(hx:x.Ok){u:Tr}(hu:u∈bc x):tX (ek u) x.aC.length=u.bR.map λn:Nat=>(n:Int):=by
 unfold tX;refine adu 0 (by rw[Ue];exact(JJ hx hu).1) λi hi=> ?_;have hl:=(JJ hx hu).1;rw[ajC hx hu hi,Tf,Tf,Ut,Tw (by omega)];rfl
section
variable {H:SA}{k kp:SF}{x:ak}
def aaz(hx:x.Ok)(hm:H[0]?=some .main)(hk:k (.aL [iv (cnt x),iv 0]) H):ba true S_ 21 H [x.av] k kp:=
 akt hx hm λD hD=>by rw[count_eq hx hD];exact hk
def Lz{hour:Nat}(hx:x.Ok)(hh:(hour:Int)<=x.hours)(hm:H[0]?=some .main)(h0:bc x=[]->k (.aL [.agg [iv 0,iv 0],iv 11]) H)(h1:∀lo hi,bc x≠[]->Bounds (live x) (λh=>h.getD hour 0) lo hi->k (.aL [.agg [iv lo,iv hi],iv 0]) H):ba true S_ 36 H [x.av,iv hour] k kp:=
 akC hx hh hm λD hD=>⟨λhn=>h0 ((wl hx hD).1 hn),λhy hs hp=>h1 _ _ (Fg hx hD hy) (aec hx hD hy hp (λh=>h.getD hour 0) _ λy mP=>Pq (by rw[adk mP];have:=hx.hours;omega))⟩
def akG{hour:Nat}(hx:x.Ok)(hm:H[0]?=some .main)(hu:¬(hour:Int)<=x.hours-1->k (.aL [.agg [iv 0,iv 0],iv 3]) H)(h0:(hour:Int)<=x.hours-1->bc x=[]->k (.aL [.agg [iv 0,iv 0],iv 11]) H)(h1:(hour:Int)<=x.hours-1->∀lo hi,bc x≠[]->Bounds (live x) (λh=>h.getD (hour+1) 0-h.getD hour 0) lo hi->k (.aL [.agg [iv lo,iv hi],iv 0]) H):ba true S_ 41 H [x.av,iv hour] k kp:=
 akF hx hm hu λhh D hD=>⟨λhn=>h0 hh ((wl hx hD).1 hn),λhy hs hp=>h1 hh _ _ (Fg hx hD hy) (aec hx hD hy hp (λh=>h.getD (hour+1) 0-h.getD hour 0) _ λy mP=>by
  have hl:=adk mP;have:=hx.hours;rw[Pq (by omega),Pq (by omega)])⟩
def aaD{q:Nat}(hx:x.Ok)(hq:q<x.pieces.length)(hm:H[0]?=some .main)(h0:bc x=[]->k (.aL [aO [],iv 11]) H)(h1:bc x≠[]->k (.aL [aO (fi (rA x q) x.first 16),iv 0]) H):ba true S_ 34 H [x.av,iv q] k kp:=
 akB hx hq hm λD hD=>⟨λhn=>h0 ((wl hx hD).1 hn),λhy=>by rw[OR λn _=>aqx hx hD hq n];exact h1 (Fg hx hD hy)⟩
def akE{q:Nat}(hx:x.Ok)(hq:q<x.pieces.length)(hm:H[0]?=some .main)(h0:bc x=[]->k (.aL [aO [],iv 11]) H)(h1:bc x≠[]->k (.aL [aO (fi (uq x q) 0 16),iv 0]) H):ba true S_ 39 H [x.av,iv q] k kp:=
 akD hx hq hm λD hD=>⟨λhn=>h0 ((wl hx hD).1 hn),λhy=>by rw[OR λn _=>anA hx hD hq n];exact h1 (Fg hx hD hy)⟩
def aaC{s q:Nat}(hx:x.Ok)(hs:s<x.aC.length)(hq:q<x.pieces.length)(hm:H[0]?=some .main)(hk:k (.aL [iv (if(bc x).isEmpty then 0 else vM (s7 x s q) (Cd x s q)),iv (if(bc x).isEmpty then 11 else 0)]) H):ba true S_ 28 H [x.av,iv s,iv q] k kp:=
 aky hx hs hq hm λD hD=>by rw[aq0 hx hD hs,RG hx hD];exact hk
def aaF{a b:Nat}(hx:x.Ok)(ha:a<x.pieces.length)(hb:b<x.pieces.length)(hm:H[0]?=some .main)(h0:a=b->k (.aL [iv 0,iv 8]) H)(hk:a≠b->k (.aL [iv (if(bc x).isEmpty then 0 else vM (uF x a b) (uF x b a)),iv (if(bc x).isEmpty then 11 else 0)]) H):ba true S_ 42 H [x.av,iv a,iv b] k kp:=
 akH hx ha hb hm h0 λeQ D hD=>by rw[aig hx hD ha hb,RG hx hD];exact hk eQ
def DM (x:ak)(i:Nat):SD:=(T1 i).flatMap λs=>if 1<(fi (s7 x s) 0 16).length then[-1]else fi (s7 x s) 0 16
def akv(hx:x.Ok)(hm:H[0]?=some .main)(h0:bc x=[]->k (.aL [aO [],iv 11]) H)(h1:bc x≠[]->k (.aL [aO (DM x x.aC.length),iv 0]) H):ba true S_ 26 H [x.av] k kp:=
 aku hx hm λD hD=>⟨λhn=>h0 ((wl hx hD).1 hn),λhy=>by
  have e:vz D.aY x.aC.length=DM x x.aC.length:=by
   unfold vz DM;refine vw λs hs=> ?_;rw[OR λn _=>Ps hx hD (UN.1 hs) n]
  rw[e];exact h1 (Fg hx hD hy)⟩
def aks(hx:x.Ok)(hm:H[0]?=some .main)(h0:bc x=[]->k (.aL [aO [],aO [],aO [],iv 11]) H)(h1:∀u l,bc x=u::l->k (.aL [aO u.aK,aO u.ap,aO (u.bR.map λn:Nat=>(n:Int)),iv 0]) H):ba true S_ 18 H [x.av] k kp:=
 akr hx hm λD hD=>⟨λhn=>h0 ((wl hx hD).1 hn),λhy=>by
  obtain⟨u,l,e1,e2⟩:=aoK hx hD hy;have hu:u∈bc x:=by rw[e1];simp
  rw[e2,alp hx hu,alq hx hu,alr hx hu];exact h1 u l e1⟩
end
section
variable {lv:Bool}{H:SA}{k kp:SF}
end
end Go.Gg
namespace Go.Gg.Tk
def zO{h pre:SD}(hp:pre≠[])(ht:h.take pre.length=pre):pre.getLastD 0=h.getD (pre.length-1) 0:=by
 have hl:0<pre.length:=Wp.2 hp;have e:pre[pre.length-1]?=h[pre.length-1]?:=by
  have:(h.take pre.length)[pre.length-1]?=pre[pre.length-1]?:=by rw[ht]
  rw[<- this,Vm,if_pos (by omega)]
 rw[Tf,<- e,WB,Zv]
def Good (x:ak)(k:Nat)(h:SD):Prop:=∀j,k<=j->j<h.length->mW x j (h.getD j 0)=true/\(j+1<h.length->∃n:Nat,n<x.am.toNat+1/\h.getD (j+1) 0=h.getD j 0+n)
def Cy{h pre:SD}{v:Int}:h.take (pre.length+1)=pre++[v]<->h.take pre.length=pre/\pre.length<h.length/\h.getD pre.length 0=v:=by
 constructor
 ·intro e;have hl:pre.length+1<=h.length:=by
   have:=congrArg ab' e;rw[Ux,Tt,UJ]at this;omega
  have h1:=congrArg (VN pre.length) e;rw[Wh,UA (Ts _),Un,Xz (by omega)]at h1;refine⟨h1,by omega,?_⟩;have h2:(h.take (pre.length+1))[pre.length]?=(pre++[v])[pre.length]?:=by rw[e]
  rw[Vm,if_pos (by omega),Ud (Ts _),Ws]at h2;rw[Tf,h2];rfl
 ·rintro⟨h1,h2,h3⟩
  rw[UZ,h1];congr 1;rw[Tf,Tw h2]at h3;rw[Tw h2,<- h3];rfl
def Nf{x:ak}:∀(d:Nat)(pre h:SD),pre≠[]->(h∈jD x d pre<->h.length=pre.length+d/\h.take pre.length=pre/\Good x (pre.length-1) h)
 |0,pre,h,hp=>by
  have hl:0<pre.length:=Wp.2 hp;unfold jD;constructor
  ·intro hm;split at hm
   ·rename_i hs;rw[Ub]at hm;subst hm;refine⟨rfl,Un,λj h1 h2=> ?_⟩;have:j=h.length-1:=(by omega);subst this;rw[zO hp Un]at hs;exact⟨hs,λh=>by omega⟩
   ·cases hm
  ·rintro⟨h1,h2,h3⟩
   have e:h=pre:=(by rw[<- h2,Tx (by omega)]);subst e;have:=(h3 (h.length-1) (Ts _) (by omega)).1;rw[<- zO hp Un]at this;rw[if_pos this];simp
 |d+1,pre,h,hp=>by
  have hl:0<pre.length:=Wp.2 hp;unfold jD;constructor
  ·intro hm;split at hm
   ·rename_i hs;obtain⟨n,hn,hm⟩:=T9.1 hm;rw[Nf d _ h (by simp)]at hm;obtain⟨h1,h2,h3⟩:=hm;rw[Tt,UJ]at h1 h2 h3;obtain⟨h4,h5,h6⟩:=Cy.1 h2;rw[zO hp h4]at hs h6;refine⟨by omega,h4,λj zr HZ=> ?_⟩;by_cases hj:j=pre.length-1
    ·subst hj;refine⟨hs,λ_=>⟨n,UN.1 hn,?_⟩⟩;rw[show pre.length-1+1=pre.length by omega];exact h6
    ·exact h3 j (by omega) HZ
   ·cases hm
  ·rintro⟨h1,h2,h3⟩
   obtain⟨hs,aP⟩:=h3 (pre.length-1) (Ts _) (by omega);obtain⟨n,hn,he⟩:=aP (by omega);rw[show pre.length-1+1=pre.length by omega]at he;rw[zO hp h2,if_pos hs];refine T9.2 ⟨n,UN.2 hn,?_⟩;rw[Nf d _ h (by simp),Tt,UJ];exact⟨by omega,Cy.2 ⟨h2,by omega,he⟩,λj zr HZ=>h3 j (by omega) HZ⟩
def aqe{h:SD}(hm:∀j,j+1<h.length->h.getD j 0<=h.getD (j+1) 0):qE h:=by
 induction h with
 |nil=>trivial
 |cons a l ih=>
  cases l with
  |nil=>trivial
  |cons b l=>
   refine⟨?_,ih λj hj=> ?_⟩
   ·have:=hm 0 (by simp);simpa using this
   ·have:=hm (j+1) (by simp at hj⊢;omega);simpa using this
def afH{n:Int}:∀(h:SD)(i:Nat),qE h->(0<=fM i h n<->h.headD 0<=n/\n<h.getLastD 0)
 |[],i,_=>by simp[fM]<;>omega
 |[a],i,_=>by simp[fM]<;>omega
 |a::b::l,i,hm=>by
  obtain⟨h1,h2⟩:=hm;have ih:=afH (n:=n) (b::l) (i+1) h2;have vV:(a::b::l).getLastD 0=(b::l).getLastD 0:=by simp[al_]
  rw[vV];unfold fM;split
  ·rename_i h;have cT:b<=(b::l).getLastD 0:=adA h2;constructor
   ·intro _;exact⟨h.1,by omega⟩
   ·intro _;omega
  ·rename_i h;rw[ih];have e1:(a::b::l).headD 0=a:=rfl;have e2:(b::l).headD 0=b:=rfl;rw[e1,e2];omega
where
 adA {b:Int}:∀{l:SD},qE (b::l)->b<=(b::l).getLastD 0
  |[],_=>by simp
  |c::l,hm=>by
   obtain⟨h1,h2⟩:=hm;have:=adA h2;have e:(b::c::l).getLastD 0=(c::l).getLastD 0:=(by simp[al_]);rw[e];omega
def Qu{h:SD}{n:Int}(hm:qE h):0<=iu h n<->h.headD 0<=n/\n<h.getLastD 0:=afH h 0 hm
def Qr{n:Int}:∀(h:SD)(i:Nat),0<=fM i h n->fM i h n+1<i+h.length
 |[],i,h=>by simp[fM]at h
 |[a],i,h=>by simp[fM]at h
 |a::b::l,i,h=>by
  unfold fM at h⊢;split
  ·simp;omega
  ·rename_i hn;rw[if_neg hn]at h;have:=Qr (b::l) (i+1) h;simp at this⊢;omega
def alu{h:SD}{y:aD}{n:Int}(hm:qE h)(hf:fits h y n=true):n∈FC h:=by
 unfold fits at hf;simp only[Uh,decide_eq_true_eq]at hf;obtain⟨h1,h2⟩:=(Qu hm).1 hf.1.1;unfold FC;refine Uo.2 ⟨(n-h.headD 0).toNat,UN.2 (by omega),by omega⟩
def abk{α:Type}[DecidableEq α]{l:List α}{d:α}{i:Nat}(hi:i<l.length):l.Nodup->l.getD i d∉l.take i:=λhn hm=>by
 obtain⟨j,hj⟩:=Wy hm;rw[Vm]at hj;split at hj
 ·rename_i cE;rw[Tf,Tw hi,Tw (by omega)]at hj;simp only[Ua,Us]at hj;have h2:=Vz.1 hn;exact(Zu.1 h2) j i (by omega) hi cE hj
 ·cases hj
def adH{α:Type}{l:List α}{d:α}(h:∀i,i<l.length->l.getD i d∉l.take i):l.Nodup:=by
 rw[Vz,Zu];intro i j hi hj kH e;refine h j hj ?_;rw[Tf,Tw hj,Ua,<- e];exact VU.2 ⟨i,by rw[Vm,if_pos kH,Tw hi]⟩
def JG{α:Type}{d:α}{h pre:List α}{v:α}:h.take (pre.length+1)=pre++[v]<->h.take pre.length=pre/\pre.length<h.length/\h.getD pre.length d=v:=by
 constructor
 ·intro e;have hl:pre.length+1<=h.length:=by
   have:=congrArg ab' e;rw[Ux,Tt,UJ]at this;omega
  have h1:=congrArg (VN pre.length) e;rw[Wh,UA (Ts _),Un,Xz (by omega)]at h1;refine⟨h1,by omega,?_⟩;have h2:(h.take (pre.length+1))[pre.length]?=(pre++[v])[pre.length]?:=by rw[e]
  rw[Vm,if_pos (by omega),Ud (Ts _),Ws]at h2;rw[Tf,h2];rfl
 ·rintro⟨h1,h2,h3⟩
  rw[UZ,h1];congr 1;rw[Tf,Tw h2]at h3;rw[Tw h2,<- h3];rfl
def I8{h:SD}(hm:qE h):∀(ys:SY)(t ns:SD),ns∈lS h ys t<->ns.length=t.length+ys.length/\ns.take t.length=t/\∀i y,ys[i]?=some y->fits h y (ns.getD (t.length+i) 0)=true/\ns.getD (t.length+i) 0∉ns.take (t.length+i)
 |[],t,ns=>by
  simp only[lS,Ub,VL,VA];constructor
  ·rintro rfl;exact⟨rfl,Un,λi y hy=>by cases hy⟩
  ·rintro⟨h1,h2,_⟩;rw[<- h2,Tx (by omega)]
 |y::ys,t,ns=>by
  simp only[lS,T9,Vl,Uh,U0,Ve];constructor
  ·rintro⟨n,⟨_,hf,ht⟩,gD⟩
   rw[I8 hm ys (t++[n]) ns]at gD;obtain⟨h1,h2,h3⟩:=gD;rw[Tt,UJ]at h1 h2 h3;obtain⟨h4,h5,h6⟩:=(JG (d:=0)).1 h2;refine⟨by omega,h4,λi z hz=> ?_⟩
   match i,hz with
   |0,hz=>
    cases hz;rw[VA,h6,h4];refine⟨hf,?_⟩;intro hc;rw[Vw]at ht;simp at ht;exact ht hc
   |i+1,hz=>
    have:=h3 i z hz;rw[show t.length+1+i=t.length+(i+1) by omega]at this;exact this
  ·rintro⟨h1,h2,h3⟩
   obtain⟨hf,hn⟩:=h3 0 y rfl;rw[VA]at hf hn;rw[h2]at hn;refine⟨ns.getD t.length 0,⟨alu hm hf,hf,by rw[Vw];simpa using hn⟩,?_⟩;rw[I8 hm ys _ ns,Tt,UJ];refine⟨by omega,(JG (d:=0)).2 ⟨h2,by omega,rfl⟩,λi z hz=> ?_⟩;have:=h3 (i+1) z hz;rw[show t.length+(i+1)=t.length+1+i by omega]at this;exact this
def Jj{h ns:SD}:∀(ss:SY)(t os:SE),os∈nz h ns ss t<->os.length=t.length+ss.length/\os.take t.length=t/\∀i s,ss[i]?=some s->fits h s (ns.getD (os.getD (t.length+i) 0) 0)=true/\os.getD (t.length+i) 0<ns.length/\os.getD (t.length+i) 0∉os.take (t.length+i)
 |[],t,os=>by
  simp only[nz,Ub,VL,VA];constructor
  ·rintro rfl;exact⟨rfl,Un,λi y hy=>by cases hy⟩
  ·rintro⟨h1,h2,_⟩;rw[<- h2,Tx (by omega)]
 |s::ss,t,os=>by
  simp only[nz,T9,Vl,Uh,U0,Ve,UN];constructor
  ·rintro⟨n,⟨hlt,hf,ht⟩,gD⟩
   rw[Jj ss (t++[n]) os]at gD;obtain⟨h1,h2,h3⟩:=gD;rw[Tt,UJ]at h1 h2 h3;obtain⟨h4,h5,h6⟩:=(JG (d:=0)).1 h2;refine⟨by omega,h4,λi z hz=> ?_⟩
   match i,hz with
   |0,hz=>
    cases hz;rw[VA,h6,h4];refine⟨hf,hlt,?_⟩;intro hc;rw[Vw]at ht;simp at ht;exact ht hc
   |i+1,hz=>
    have:=h3 i z hz;rw[show t.length+1+i=t.length+(i+1) by omega]at this;exact this
  ·rintro⟨h1,h2,h3⟩
   obtain⟨hf,hlt,hn⟩:=h3 0 s rfl;rw[VA]at hf hlt hn;rw[h2]at hn;refine⟨os.getD t.length 0,⟨hlt,hf,by rw[Vw];simpa using hn⟩,?_⟩;rw[Jj ss _ os,Tt,UJ];refine⟨by omega,(JG (d:=0)).2 ⟨h2,by omega,rfl⟩,λi z hz=> ?_⟩;have:=h3 (i+1) z hz;rw[show t.length+(i+1)=t.length+1+i by omega]at this;exact this
end Go.Gg.Tk
namespace Go.Gg
open Go.Gg.Tk
namespace Tk
structure Kj (x:ak)(u:Tr):Prop where
 aK:nF x.first x.am u.aK x.hours.toNat
 seen:∀s∈x.seen,iq s.next (u.aK.getD s.hour.toNat 0)=true
 sX:u.ap.length=x.pieces.length
 piece:∀(p:Nat) y,x.pieces[p]?=some y->fits u.aK y (u.ap.getD p 0)=true
 I6:u.ap.Nodup
 z8:u.bR.length=x.aC.length
 own:∀v∈u.bR,v<x.pieces.length
 stub:∀(s:Nat) y,x.aC[s]?=some y->fits u.aK y (u.ap.getD (u.bR.getD s 0) 0)=true
 Pm:u.bR.Nodup
def _root_.Go.Gg.nF.mono{first am:Int}{l:SD}{i:Nat}(h:nF first am l i):qE l:=aqe λj hj=>(h.step j (by have:=h.len;omega)).1
def am3{x:ak}(hx:x.Ok){h:SD}:h∈aM x<->nF x.first x.am h x.hours.toNat/\∀s∈x.seen,iq s.next (h.getD s.hour.toNat 0)=true:=by
 have hp:=hx.am;unfold aM;rw[Nf _ _ _ (by simp)];simp only[UJ];constructor
 ·rintro⟨h1,h2,h3⟩
  have h4:=(Cy (pre:=[]) (v:=x.first)).1 h2;refine⟨⟨by omega,h4.2.2,λj hj=> ?_⟩,λs hs=> ?_⟩
  ·obtain⟨n,hn,e⟩:=(h3 j (by omega) (by omega)).2 (by omega);omega
  ·have Il:=(hx.seen s hs).1;have:=(h3 s.hour.toNat (by omega) (by omega)).1;unfold mW at this;have:=UB.1 this s hs;have e:s.hour=(s.hour.toNat:Int):=(by omega);rw[<- e]at this;simpa using this
 ·rintro⟨h1,h2⟩
  have hl:=h1.len;refine⟨by omega,(Cy (pre:=[]) (v:=x.first)).2 ⟨rfl,by simp;omega,h1.head⟩,λj _ hj=>⟨?_,λHZ=> ?_⟩⟩
  ·unfold mW;rw[UB];intro s hs;by_cases e:s.hour=(j:Int)
   ·have:=h2 s hs;rw[show s.hour.toNat=j by omega]at this;rw[this];simp
   ·simp[e]
  ·have:=h1.step j (by omega);exact⟨(h.getD (j+1) 0-h.getD j 0).toNat,by omega,by omega⟩
def au2{x:ak}{u:Tr}:u∈bc x<->u.aK∈aM x/\u.ap∈lS u.aK x.pieces []/\u.bR∈nz u.aK u.ap x.aC []:=by
 constructor
 ·intro hu;obtain⟨h,a,b⟩:=T9.1 hu;obtain⟨ns,c,d⟩:=T9.1 b;obtain⟨os,e,rfl⟩:=Uo.1 d;exact⟨a,c,e⟩
 ·rintro⟨a,b,c⟩
  exact T9.2 ⟨u.aK,a,T9.2 ⟨u.ap,b,Uo.2 ⟨u.bR,c,rfl⟩⟩⟩
def alW{l:SE}{i:Nat}(h:i<l.length):l.getD i 0∈l:=by
 rw[Tf,Tw h];exact W_ h
def qt{x:ak}(hx:x.Ok){u:Tr}:u∈bc x<->Kj x u:=by
 rw[au2,am3 hx];constructor
 ·rintro⟨⟨h1,h2⟩,h3,h4⟩
  have hm:=h1.mono;rw[I8 hm]at h3;rw[Jj]at h4;simp only[VL,Xv]at h3 h4;obtain⟨a1,_,a3⟩:=h3;obtain⟨b1,_,b3⟩:=h4;refine⟨h1,h2,a1,λp y hy=>(a3 p y hy).1,adH (d:=0) λi hi=> ?_,b1,λv hv=> ?_,λs y hy=>(b3 s y hy).1,adH (d:=0) λi hi=> ?_⟩
  ·obtain⟨y,hy⟩:∃y,x.pieces[i]?=some y:=⟨_,Tw (by omega)⟩;exact(a3 i y hy).2
  ·obtain⟨i,hi⟩:=Wy hv;have bk:=(Tq.1 hi).1;obtain⟨y,hy⟩:∃y,x.aC[i]?=some y:=⟨_,Tw (by omega)⟩;have:=(b3 i y hy).2.1;rw[Tf,hi]at this;rw[<- a1];exact this
  ·obtain⟨y,hy⟩:∃y,x.aC[i]?=some y:=⟨_,Tw (by omega)⟩;exact(b3 i y hy).2.2
 ·intro h;refine⟨⟨h.aK,h.seen⟩,?_,?_⟩
  ·rw[I8 h.aK.mono];simp only[VL,Xv];refine⟨h.sX,rfl,λi y hy=>⟨h.piece i y hy,abk ?_ h.I6⟩⟩;have:=(Tq.1 hy).1;rw[h.sX];exact this
  ·rw[Jj];simp only[VL,Xv];refine⟨h.z8,rfl,λi y hy=> ?_⟩;have hi:=(Tq.1 hy).1;have vP:i<u.bR.length:=(by rw[h.z8];exact hi);exact⟨h.stub i y hy,by rw[h.sX];exact h.own _ (alW vP),abk vP h.Pm⟩
end Tk
open Go.Gg.Tk
def zN{first am:Int}{l:SD}{i:Nat}(h:nF first am l i):l.getLastD 0=l.getD i 0:=by
 have hl:=h.len;rw[WB,Zv,Tf,hl];rfl
def zk{first am:Int}{l:SD}{i:Nat}(h:nF first am l i):l.headD 0=first:=by
 have hl:=h.len;have:=h.head;cases l with
 |nil=>cases hl
 |cons a l=>exact this
def nF.top{first am:Int}{l:SD}{i:Nat}(h:nF first am l i)(hf:0<=first/\first<=90)(hp:1<=am/\am<=3)(hi:i<=3):∀j,j<=i->first<=l.getD j 0/\l.getD j 0<=first+9:=λj hj=>by
 have h1:=h.ge (by omega) j hj;have:am* (j:Int)<=3* 3:=axt (by omega) (by omega) (by omega) (by omega);generalize am* (j:Int)=q at h1 this;omega
def Mx{first am:Int}{l:SD}{i:Nat}(h:nF first am l i)(hi:1<=i/\i<=3)(hf:0<=first/\first<=90)(hp:1<=am/\am<=3){n:Int}(hn:first<=n/\n<l.getD i 0)(τ:bp):Gm l i n (l7 τ l n i):=by
 have hl:=h.len;have hm:=h.mono;have ht:=h.top hf hp hi.2 i (Ts _);have hk:=Qs (n:=n) (by omega) (by omega) hm;have h0:0<=iu l n:=(Qu hm).2 (by rw[zk h,zN h];exact hn);have h1:=Qr l 0 h0;have Ma:iu l n+1<l.length:=by have:fM 0 l n=iu l n:=rfl;omega
 have a1:=Df (τ:=τ) (n:=n) (m:=2) (lo:=0) (hi:=99) (by omega) (by omega);have a2:=Df (τ:=tick (tick τ)) (n:=iu l n) (m:=1) (lo:=0) (hi:=(i:Int)-1) (by omega) (by omega);refine⟨a1.1,?_,?_⟩
 ·unfold l7;rw[hk];exact a2.1
 ·unfold Tk.fits l7;rw[hk,Uh,Uh,decide_eq_true_eq];exact⟨⟨h0,a1.2⟩,a2.2⟩
variable {pm:Nat}{x:ak}{aK ap bR:SD}
def Made.abz(h:Made pm x aK ap bR){n:Int}(hn:n∈ap)(τ:bp):Gm aK x.hours n (l7 τ aK n x.hours):=by
 have hh:=h.hours;have:=Mx h.HY (by omega) h.first h.am (h.num n hn) τ;rw[ac_ (by omega)]at this;exact this
def A7{l:SD}{i:Nat}(h:i<l.length):l.getD i 0∈l:=by
 rw[Tf,Tw h];exact W_ h
def Made.Rm(h:Made pm x aK ap bR){p:Nat}{y:aD}(hy:x.pieces[p]?=some y):Gm aK x.hours (ap.getD p 0) y:=by
 obtain⟨τ,rfl⟩:=h.piece p y hy;exact h.abz (A7 (by rw[h.sX];exact(Tq.1 hy).1)) τ
def Made.Rn(h:Made pm x aK ap bR){s:Nat}{y:aD}(hy:x.aC[s]?=some y):Gm aK x.hours (ap.getD (bR.getD s 0).toNat 0) y:=by
 obtain⟨τ,rfl⟩:=h.stub s y hy;have hs:s<bR.length:=by rw[h.z8];exact(Tq.1 hy).1
 have:=h.own _ (A7 hs);exact h.abz (A7 (by omega)) τ
def Made.ok(h:Made pm x aK ap bR)(ur:pm<=4):x.Ok:=by
 have hh:=h.hours;refine⟨h.first,h.hours,h.am,by have:=h.Ad;omega,by have:=h.aqf;omega,h.aC,λs hs=> ?_,λy hy=> ?_,λy hy=> ?_⟩
 ·obtain⟨h1,h2,τ,h3⟩:=h.seen s hs;have ht:=h.HY.top h.first h.am (by omega) s.hour.toNat (by omega);have hf:=h.first;rw[h3];exact⟨⟨h1,h2⟩,(Df (by omega) (by omega)).1⟩
 ·obtain⟨p,hp⟩:=Wy hy;have:=h.Rm hp;exact⟨this.num,this.hour⟩
 ·obtain⟨p,hp⟩:=Wy hy;have:=h.Rn hp;exact⟨this.num,this.hour⟩
def aeq (aK ap bR:SD):Tr:=⟨aK,ap,bR.map Zc⟩
def Made.auX(h:Made pm x aK ap bR):Kj x (aeq aK ap bR):=by
 have hh:=h.hours;have p_:∀s,s<bR.length->(bR.map Zc).getD s 0=(bR.getD s 0).toNat:=λs hs=>by
  rw[Tf,Tf,Ut,Tw hs];rfl
 refine⟨h.HY,λs hs=> ?_,h.sX,λp y hy=>(h.Rm hy).fits,h.I6,by show (bR.map Zc).length=_;rw[Ue];exact h.z8,λv hv=> ?_,λs y hy=> ?_,?_⟩
 ·obtain⟨h1,h2,τ,h3⟩:=h.seen s hs;have ht:=h.HY.top h.first h.am (by omega) s.hour.toNat (by omega);have hf:=h.first;rw[h3];exact(Df (by show _<=aK.getD _ _/\_;omega) (by omega)).2
 ·obtain⟨w,hw,rfl⟩:=Uo.1 hv;have:=h.own w hw;have:=h.sX;omega
 ·have hs:s<bR.length:=by rw[h.z8];exact(Tq.1 hy).1
  show Tk.fits aK y (ap.getD ((bR.map Zc).getD s 0) 0)=true;rw[p_ s hs];exact(h.Rn hy).fits
 ·show (bR.map Zc).Nodup;rw[Vz,YJ];refine Yy ?_ (Vz.1 h.Pm);intro a c ha hc aF e;have h1:=h.own a ha;have h2:=h.own c hc;omega
def Made.mem(h:Made pm x aK ap bR)(ur:pm<=4):aeq aK ap bR∈bc x:=(qt (h.ok ur)).2 h.auX
def Made.ne(h:Made pm x aK ap bR)(ur:pm<=4):bc x≠[]:=λe=>by
 have:=h.mem ur;rw[e]at this;cases this
def RM{f:Nat->Bool}{m:Int}{i n:Nat}(hn:n<i)(h:f n=true):(n:Int)+m∈fi f m i:=
 Uo.2 ⟨n,Vl.2 ⟨UN.2 hn,h⟩,rfl⟩
def RL{f:Nat->Bool}{m v:Int}{i:Nat}:v∈fi f m i<->∃n:Nat,n<i/\f n=true/\v=(n:Int)+m:=by
 unfold fi;constructor
 ·intro h;obtain⟨n,hn,rfl⟩:=Uo.1 h;obtain⟨h1,h2⟩:=Vl.1 hn;exact⟨n,UN.1 h1,h2,rfl⟩
 ·rintro⟨n,h1,h2,rfl⟩
  exact RM h1 h2
variable {x:ak}
namespace Tk
end Tk
def GQ(f:Nat->Bool)(m:Int)(i:Nat):(fi f m i).Pairwise (·<·):=by
 unfold fi;rw[YJ];refine Zb ?_ (axh f List.pairwise_lt_range);intro a b h;omega
def GP(f:Nat->Bool)(m:Int)(i:Nat):(fi f m i).length<=i:=by
 unfold fi;rw[Ue];have:=WX f (T1 i);rwa[Y4]at this
variable {x:ak}
def mb (u:Tr)(p:Nat):Int:=iu u.aK (u.ap.getD p 0)
def ND(hx:x.Ok){u:Tr}(hu:u∈bc x){p:Nat}(hp:p<x.pieces.length):0<=mb u p/\mb u p<3:=by
 have h:=(qt hx).1 hu;have hh:=hx.hours;have hf:=h.piece p _ (Tw hp);unfold Tk.fits at hf;rw[Uh,Uh,decide_eq_true_eq]at hf;have h1:fM 0 u.aK (u.ap.getD p 0)=mb u p:=rfl;have h2:=Qr u.aK 0 hf.1.1;have h3:=h.aK.len;rw[h1]at h2;exact⟨hf.1.1,by omega⟩
def anB(hx:x.Ok){p:Nat}(hp:p<x.pieces.length){v:Int}:v∈fi (uq x p) 0 16<->∃u∈bc x,v=mb u p:=by
 constructor
 ·intro h;obtain⟨n,h1,h2,h3⟩:=RL.1 h;obtain⟨u,hu,e⟩:=rU.1 h2;have e:(mb u p).toNat=n:=of_decide_eq_true e;have:=ND hx hu hp;exact⟨u,hu,by omega⟩
 ·rintro⟨u,hu,rfl⟩
  have:=ND hx hu hp;have e:=RM (f:=uq x p) (m:=0) (i:=16) (n:=(mb u p).toNat) (by omega) (rU.2 ⟨u,hu,by unfold mb;simp⟩);rwa[axM,ac_ this.1]at e
open Go.Gg.Tk
variable {x:ak}
def Sa(x:ak):0<cnt x<->bc x≠[]:=by
 unfold cnt;rw[show (0:Int)<((live x).length:Int)<->live x≠[] by rw[<- Wp];omega];exact not_congr OU
def adM(hx:x.Ok){u:Tr}(hu:Kj x u){p:Nat}(hp:p<x.pieces.length):x.first<=u.ap.getD p 0/\u.ap.getD p 0<x.first+9:=by
 have hf:=hu.piece p _ (Tw hp);unfold Tk.fits at hf;rw[Uh,Uh,decide_eq_true_eq]at hf;have h:=(Qu hu.aK.mono).1 hf.1.1;rw[zk hu.aK,zN hu.aK]at h;have hh:=hx.hours;have:=hu.aK.top hx.first hx.am (by omega) x.hours.toNat (Ts _);omega
namespace Tk
def FU (x:ak)(p:Nat)(y:aD):ak:={x with pieces:=x.pieces.set p y}
end Tk
variable {x:ak}
open Go.Conc Go.Proofs Go.Gg.Tk
def aeT{ys:SY}{p:Nat}{y:aD}{s:Nat}{l:SC}(hp:p<ys.length)(e:y.l=l):VN (p* 4) (ys.flatMap aD.l)++l++U4 (p* 4+4) (ys.flatMap aD.l)=(ys.set p y).flatMap aD.l:=by
 subst e;rw[YO,if_pos hp,Vf,UV,L2 aD.len,show p* 4+4=(p+1)* 4 by omega,yR aD.len,Te]
def atj{ys:SY}{p:Nat}{y:aD}(hy:ys[p]?=some y)(a b:Int):VN (p* 4+0) (ys.flatMap aD.l)++[iv a,iv b]++U4 (p* 4+0+2) (ys.flatMap aD.l)=(ys.set p ⟨⟨a,b⟩,y.hour⟩).flatMap aD.l:=by
 obtain⟨hp,rfl⟩:=Tq.1 hy;rw[<- aeT (s:=0) (p:=p) (y:=⟨⟨a,b⟩,ys[p].hour⟩) hp rfl];have e:U4 (p* 4+2) (ys.flatMap aD.l)=iv ys[p].hour.min::iv ys[p].hour.max::U4 (p* 4+4) (ys.flatMap aD.l):=by
  have h1:U4 (p* 4) (ys.flatMap aD.l)=ys[p].l++U4 (p* 4+4) (ys.flatMap aD.l):=by
   rw[yR aD.len,show p* 4+4=(p+1)* 4 by omega,yR aD.len,UY hp,UV]
  rw[<- axL,h1];rfl
 rw[VA,e];simp[aD.l,eG.l]
section
variable {lv:Bool}{P:Tl}{r:SL}
def ahT{nt:Nat}{c:U_}{T:SH}{H:SA}{B1 pk j cap:Nat}{ps:SY}{l:SC}{el:TypeId}{Φ:SI}(h1:H[B1]?=some (.own 4 (ps.flatMap aD.l) 48))(h2:H[pk]?=some (.cells l el))(aF:B1≠pk)(h3:l[j]?=some (.bC B1 0 ps.length cap))(h:aS lv P r nt c ⟨T,(H.set B1 (.part (ps.length* 4) (ps.flatMap aD.l) 48)).set pk (.cells (l.set j (aR ps)) el)⟩ Φ):aS lv P r nt c ⟨T,H⟩ Φ:=by
 have hl:(ps.flatMap aD.l).length=ps.length* 4:=zQ aD.len _;refine ahU (id:=B1) h1 ?_;have hlt:=(Tq.1 h1).1;refine KE (id:=pk) (j:=j) (y:=aR ps) (el:=el) (by rw[U6 aF];exact h2) h3 ?_ ?_
 ·have e:aR ps=.sl ps.length ((ps.flatMap aD.l).take (ps.length* 4)) .shut:=by rw[Tx (by omega)];rfl
  rw[e];exact JR (p:=(ps.flatMap aD.l).length) (l:=ps.flatMap aD.l) (el:=48) (by rw[VT,if_pos rfl,if_pos hlt]) (by omega) (by omega)
 ·rw[hl];exact h
end
def wO (i:Int)(y:aD):Prop:=tE y.number 99/\tE y.hour (i-1)
def ati{ys:SY}{p:Nat}{y:aD}(hy:ys[p]?=some y)(a b:Int):VN (p* 4+2) (ys.flatMap aD.l)++[iv a,iv b]++U4 (p* 4+2+2) (ys.flatMap aD.l)=(ys.set p ⟨y.number,⟨a,b⟩⟩).flatMap aD.l:=by
 obtain⟨hp,rfl⟩:=Tq.1 hy;rw[<- aeT (s:=0) (p:=p) (y:=⟨ys[p].number,⟨a,b⟩⟩) hp rfl];have e:VN (p* 4+2) (ys.flatMap aD.l)=VN (p* 4) (ys.flatMap aD.l)++[iv ys[p].number.min,iv ys[p].number.max]:=by
  have h1:U4 (p* 4) (ys.flatMap aD.l)=ys[p].l++U4 (p* 4+4) (ys.flatMap aD.l):=by
   rw[yR aD.len,show p* 4+4=(p+1)* 4 by omega,yR aD.len,UY hp,UV]
  rw[List.take_add,h1];rfl
 rw[e,show p* 4+2+2=p* 4+4 from rfl];simp[aD.l,eG.l]
section
variable {lv:Bool}{Gf:bp->SA}{t N:Nat}{b:Int}
def akm{i mn np ns c:Nat}{first am:Int}{sv pv FH FA pZ:AV}{gP:SA}{dC:SY}{ρ:bp}{zc:aa}{YY:SC->Nat->Nat->Nat->SA}{Φ:SI}(hT:dU Gf t N)(hY:YW Gf N zc YY)(zn:gP.length=np)(hb:b<2^10)(oY:0<=first/\first<=90)(oi:mn<=9)(iW:ns<=3)(cu:dC.length=ns)(qe:∀y∈dC,wO i y)(hρ:ρ.Ok (b+97))
  (hk:∀Al ρ',Al.length=ns->(∀y∈Al,wO i y)->ρ'.Ok (b+100)->aS lv S_ none 240 (jf 13 oO) ⟨[(16,FH),(15,FA),(13,iv mn),(11,pZ),(10,.op (N+1) 0),(6,.op N 0),(0,.op t 0),(2,bv false)],Gf ρ'++(YY [iv first,iv i,iv am,sv,pv,fY (N+6+np) ns] c np ns++(gP++gO ns (gp Al)))⟩ Φ):
  aS lv S_ none 240 (jf 12 oO) ⟨[(16,FH),(15,FA),(13,iv mn),(11,pZ),(10,.op (N+1) 0),(6,.op N 0),(0,.op t 0),(2,bv false)],Gf ρ++(YY [iv first,iv i,iv am,sv,pv,fY (N+6+np) ns] c np ns++(gP++gO ns (gp dC)))⟩ Φ:=by
 obtain⟨vF,sj,y0,y1,y3,y4,y5,nC,As,CH,CI,qS,uc,dn⟩:=hY;have jU:∀L:SA,dU (λτ=>Gf τ++L) t (N+L.length):=λL=>hT.more L;have w1:∀τ r c d e X m,(Gf τ++(YY r c d e++(gP++X)))[N+6+np+m]?=X[m]?:=λτ r c d e X m=>by rw[Wa (N+6),qS,Ud (by omega),zn,US]
 have v1:∀τ r c d e X m y,(Gf τ++(YY r c d e++(gP++X))).set (N+6+np+m) y=Gf τ++(YY r c d e++(gP++X.set m y)):=λτ r c d e X m y=>by rw[Wa (N+6),uc,Va _ _ (by omega),zn,US]
 unfold oO Yk at hk⊢;dsimp only[Ua,jf,cs,cf]at hk⊢;rcases Vu ns with h0|h0
 ·subst h0;have e0:fY (N+6+np) 0=.sl 0 [] .exact:=rfl;simp only[e0]at hk⊢;refine ab ?_;simp only[seval,y1];refine ab ?_;simp only[seval,decide_false,show decide ((0:Int)>0)=false from rfl];refine aB ?_;refine aE ?_;refine mB ?_ (hk dC ρ cu qe (hρ.mono (by omega)));exact dY (by simp only[seval];simp[bh,Wk.refl]) rfl
 ·obtain⟨n2,rc⟩:∃n2,ns=n2+1:=⟨ns-1,by omega⟩;have EM:fY (N+6+np) ns=.bC (N+6+np+n2) 0 ns 0:=by rw[rc];rfl
  have vO:∀o,(gO ns o)[n2]?=some o:=λo=>by rw[rc];have:=DI n2 o [];rwa[To]at this
  have v6:∀o o',(gO ns o).set n2 o'=gO ns o':=λo o'=>by rw[rc];have:=DJ n2 o o' [];rwa[To,To]at this
  have hd:decide ((ns:Int)>0)=true:=by simp;omega
  rw[EM];simp only[EM]at hk;refine ab ?_;simp only[seval,y1];refine ab ?_;simp only[seval,hd];refine aG (G9 (n:=3) (jU _) hρ (by omega) (by decide) ?_);(try simp only[seval]);refine aB ?_;refine⟨λhc=> ?_,λhc=> ?_⟩
  ·have bK:Tg.wrap ((ns:Int)-1)=(ns:Int)-1:=a_ _ (by omega);have c_:Tg.wrap (first+(mn:Int))=first+(mn:Int):=a_ _ (by omega)
   have r1:=lV (tick ρ) ((ns:Int)-1);refine ab ?_;simp only[seval,bK];refine aG (pP (n:=(ns:Int)-1) (jU _) hρ.tick (by omega) (by omega) ?_);obtain⟨q,hq⟩:∃q:Nat,dt (tick ρ) ((ns:Int)-1)=q:=⟨(dt (tick ρ) ((ns:Int)-1)).toNat,by omega⟩;rw[hq];have uu:q<ns:=(by omega);(try simp only[seval]);refine ab ?_;simp only[seval,y1,c_];have r2:=af1 (tick (tick ρ)) (show first<=first+(mn:Int) by omega);refine aG (aaA (lo:=first) (hi:=first+(mn:Int)) (jU _) hρ.tick.tick (by omega) (by omega) (by omega) ?_);generalize CF (tick (tick ρ)) first (first+(mn:Int))=a at r2⊢
   (try simp only[seval]);obtain⟨y,hy⟩:=bA (xs:=dC) (i:=q) (by omega);have Iz:=qe y (T8 hy);have xK:=atj hy a a;simp only[iv]at xK;have oV:(0<=(q:Int)/\(q:Int)<(ns:Int))=True:=(by simp;omega);unfold gp at hk⊢;refine ab ?_;simp only[seval,y1,w1,v1,vO,v6,oV];refine⟨by rw[zQ aD.len];omega,?_⟩;rw[xK];have ux:∀z∈dC.set q ⟨⟨a,a⟩,y.hour⟩,wO i z:=λz hz=>by
    rcases VF hz with hz|rfl
    ·exact qe z hz
    ·exact⟨⟨by show 0<=a;omega,Xw a,by show a<=99;omega⟩,Iz.2⟩
   refine mB ?_ (hk (dC.set q ⟨⟨a,a⟩,y.hour⟩) (tick (tick (tick ρ))) (by rw[UM];exact cu) ux (hρ.tick.tick.tick.mono (by omega)));exact dY (by simp only[seval];simp[bh,Wk.refl]) rfl
  ·refine aE ?_;refine mB ?_ (hk dC (tick ρ) cu qe (hρ.tick.mono (by omega)));exact dY (by simp only[seval];simp[bh,Wk.refl]) rfl
def akk{i mn np ns c:Nat}{first am:Int}{sv tv FH FA pZ:AV}{gS:SA}{dC:SY}{ρ:bp}{zc:aa}{YY:SC->Nat->Nat->Nat->SA}{Φ:SI}(hT:dU Gf t N)(hY:YW Gf N zc YY)(hb:b<2^10)(hi:1<=i/\i<=3)(iW:np<=4)(cu:dC.length=np)(qe:∀y∈dC,wO i y)(hρ:ρ.Ok (b+100))
  (hk:∀Al ρ',Al.length=np->(∀y∈Al,wO i y)->ρ'.Ok (b+110)->aS lv S_ none 240 (jf 14 oO) ⟨[(16,FH),(15,FA),(13,iv mn),(11,pZ),(10,.op (N+1) 0),(6,.op N 0),(0,.op t 0),(2,bv false)],Gf ρ'++(YY [iv first,iv i,iv am,sv,fY (N+6) np,tv] c np ns++(gO np (gp Al)++gS))⟩ Φ):
  aS lv S_ none 240 (jf 13 oO) ⟨[(16,FH),(15,FA),(13,iv mn),(11,pZ),(10,.op (N+1) 0),(6,.op N 0),(0,.op t 0),(2,bv false)],Gf ρ++(YY [iv first,iv i,iv am,sv,fY (N+6) np,tv] c np ns++(gO np (gp dC)++gS))⟩ Φ:=by
 obtain⟨vF,sj,y0,y1,y3,y4,y5,nC,As,CH,CI,qS,uc,dn⟩:=hY;have jU:∀L:SA,dU (λτ=>Gf τ++L) t (N+L.length):=λL=>hT.more L;unfold oO Yk at hk⊢;dsimp only[Ua,jf,cs,cf]at hk⊢;rcases Vu np with h0|h0
 ·subst h0;have e0:fY (N+6) 0=.sl 0 [] .exact:=rfl;simp only[e0]at hk⊢;refine ab ?_;simp only[seval,y1];refine ab ?_;simp only[seval,decide_false,show decide ((0:Int)>0)=false from rfl];refine aB ?_;refine aE ?_;refine mB ?_ (hk dC ρ cu qe (hρ.mono (by omega)));exact dY (by simp only[seval];simp[bh,Wk.refl]) rfl
 ·obtain⟨n2,rc⟩:∃n2,np=n2+1:=⟨np-1,by omega⟩;have EM:fY (N+6) np=.bC (N+6+n2) 0 np 0:=by rw[rc];rfl
  have vO:∀o,(gO np o++gS)[n2]?=some o:=λo=>by rw[rc];exact DI n2 o gS
  have v6:∀o o',(gO np o++gS).set n2 o'=gO np o'++gS:=λo o'=>by rw[rc];exact DJ n2 o o' gS
  have hd:decide ((np:Int)>0)=true:=by simp;omega
  rw[EM];simp only[EM]at hk;refine ab ?_;simp only[seval,y1];refine ab ?_;simp only[seval,hd];refine aG (G9 (n:=4) (jU _) hρ (by omega) (by decide) ?_);(try simp only[seval]);refine aB ?_;refine⟨λhc=> ?_,λhc=> ?_⟩
  ·have bK:Tg.wrap ((np:Int)-1)=(np:Int)-1:=a_ _ (by omega);have c_:Tg.wrap (i-1)=i-1:=a_ _ (by omega);have r1:=lV (tick ρ) ((np:Int)-1);refine ab ?_;simp only[seval,bK];refine aG (pP (n:=(np:Int)-1) (jU _) hρ.tick (by omega) (by omega) ?_);obtain⟨q,hq⟩:∃q:Nat,dt (tick ρ) ((np:Int)-1)=q:=⟨(dt (tick ρ) ((np:Int)-1)).toNat,by omega⟩;rw[hq];have uu:q<np:=(by omega);(try simp only[seval]);have r2:=lV (tick (tick ρ)) (i-1);refine ab ?_;simp only[seval,y1,c_];refine aG (pP (n:=i-1) (jU _) hρ.tick.tick (by omega) (by omega) ?_);generalize dt (tick (tick ρ)) (i-1)=a at r2⊢;(try simp only[seval]);obtain⟨y,hy⟩:=bA (xs:=dC) (i:=q) (by omega);have Iz:=qe y (T8 hy);have xK:=ati hy a a;simp only[iv]at xK;have oV:(0<=(q:Int)/\(q:Int)<(np:Int))=True:=(by simp;omega);unfold gp at hk⊢;refine ab ?_;simp only[seval,y1,qS,uc,vO,v6,oV];refine⟨by rw[zQ aD.len];omega,?_⟩;rw[xK];have ux:∀z∈dC.set q ⟨y.number,⟨a,a⟩⟩,wO i z:=λz hz=>by
    rcases VF hz with hz|rfl
    ·exact qe z hz
    ·exact⟨Iz.1,⟨by show 0<=a;omega,Xw a,by show a<=i-1;omega⟩⟩
   refine mB ?_ (hk (dC.set q ⟨y.number,⟨a,a⟩⟩) (tick (tick (tick ρ))) (by rw[UM];exact cu) ux (hρ.tick.tick.tick.mono (by omega)));exact dY (by simp only[seval];simp[bh,Wk.refl]) rfl
  ·refine aE ?_;refine mB ?_ (hk dC (tick ρ) cu qe (hρ.tick.mono (by omega)));exact dY (by simp only[seval];simp[bh,Wk.refl]) rfl
end
section
variable {lv:Bool}{P:Tl}{r:SL}
def Rv{nt:Nat}{c:U_}{T:SH}{Φ:SI}{P0 Q0:SA}{M n pk j:Nat}{l:SY}{cl:SC}(hM:P0.length=M)(hl:l.length=n)(Na:P0[pk]?=some (.cells cl 26))(hj:cl[j]?=some (fY M n))(h:∀G',G'.length=n->aS lv P r nt c ⟨T,P0.set pk (.cells (cl.set j (aR l)) 26)++(G'++Q0)⟩ Φ):aS lv P r nt c ⟨T,P0++(gO n (gp l)++Q0)⟩ Φ:=by
 have hlt:=(Tq.1 Na).1
 match n,hl with
 |0,hl=>
  obtain rfl:l=[]:=VG hl;refine KE (id:=pk) (j:=j) (y:=aR []) (el:=26) (l:=cl) (x:=.sl 0 [] .exact) ?_ hj (AG.of (ff 0 [] .exact)) ?_
  ·show (P0++([]++Q0))[pk]?=_;rw[T4 hlt];exact Na
  ·show aS lv P r nt c ⟨T,(P0++([]++Q0)).set pk _⟩ Φ;rw[VX _ _ hlt];exact h [] rfl
 |n+1,hl=>
  refine ahT (B1:=M+n) (pk:=pk) (j:=j) (cap:=0) (ps:=l) (l:=cl) (el:=26) ?_ ?_ (by omega) (by rw[hl];exact hj) ?_
  ·rw[<- hM,Ud (by omega),US,DI];rfl
  ·rw[T4 hlt];exact Na
  ·rw[Va _ _ (by omega),<- hM,US,DJ,VX _ _ hlt];exact h _ (yU _ _)
end
section
variable {lv:Bool}{k kp:SF}{Gf:bp->SA}{t N:Nat}{b:Int}
def akh{i mn np ns c:Nat}{first am:Int}{l ap bR:SD}{ss:List Seen}{dQ dC:SY}{ρ:bp}{zc:aa}{YY:SC->Nat->Nat->Nat->SA}(hT:dU Gf t N)(hH:∀τ,bJ (Gf τ))(hY:YW Gf N zc YY)(E_:zc=.cells [.val (.int .i64 0),.val (.int .i64 0),.val (.int .i64 0),.sl 0 [] .exact,.sl 0 [] .exact,.sl 0 [] .exact] 26)(fI:l.length=i+1)(If:dQ.length=np)(iV:ap.length=np)(ov:dC.length=ns)(rf:bR.length=ns)(hc:ss.length=c)
  (hk:k (.aL [ak.av ⟨first,i,am,ss,dQ,dC⟩,aO l,aO ap,aO bR]) (Gf ρ)):
  aS lv S_ none 240 (jf 14 oO) ⟨[(16,.sl ns (bR.map iv) (.opn (N+5))),(15,.sl np (ap.map iv) (.opn (N+4))),(13,iv mn),(11,.sl (i+1) (l.map iv) (.opn (N+2))),(10,.op (N+1) 0),(6,.op N 0),(0,.op t 0),(2,bv false)],Gf ρ++(YY [iv first,iv i,iv am,.sl c (ss.flatMap Seen.l) (.opn (N+3)),fY (N+6) np,fY (N+6+np) ns] c np ns++(gO np (gp dQ)++gO ns (gp dC)))⟩ (tG S_ [.cell 6 26,.tmp 7,.tmp 8,.tmp 9] N k kp):=by
 have n0:=hY.n0;have Aq:=hY.Aq;have Ar:=hY.Ar;obtain⟨vF,sj,y0,y1,y3,y4,y5,nC,As,CH,CI,qS,uc,dn⟩:=hY;have N4:∀τ (L:SA)(y:aa),(Gf τ++L).set N y=Gf τ++L.set 0 y:=λτ L y=>by have:=dB (Gf τ) L 0 y;rwa[hT.len]at this
 have N2:∀τ (L:SA),(Gf τ++L)[N]?=L[0]?:=λτ L=>by have:=aW (Gf τ) L 0;rwa[hT.len]at this
 unfold oO Yk;dsimp only[Ua,jf,cs,cf];rw[<- Te];refine Rv (M:=N+6) (pk:=N+1) (j:=4) (n0 _ _ _ _ _) If (Aq _ _ _ _ _) rfl λG1 y8=> ?_;rw[Ar,<- Te,<- To (gO ns (gp dC))];refine Rv (M:=N+6+np) (pk:=N+1) (j:=5) (cl:=[iv first,iv i,iv am,.sl c (ss.flatMap Seen.l) (.opn (N+3)),aR dQ,fY (N+6+np) ns]) (by rw[Tt,n0,y8]) ov (by rw[Te];exact y1 _ _ _ _ _ _) rfl λG2 hG2=> ?_;rw[Te,nC,Te,Te];obtain⟨r2,Ii⟩:∃r2,r2=[iv first,iv i,iv am,.sl c (ss.flatMap Seen.l) (.opn (N+3)),aR dQ,aR dC]:=⟨_,rfl⟩;rw[show ([iv first,iv i,iv am,.sl c (ss.flatMap Seen.l) (.opn (N+3)),aR dQ,fY (N+6+np) ns]:SC).set 5 (aR dC)=r2 by rw[Ii];rfl];have hr6:r2.length=6:=by rw[Ii];rfl
 have dX:VN 6 r2=r2:=Tx (by omega);have iU:∀a∈r2,a.leaf=true:=by
  rw[Ii];intro a ha;simp only[Tm,T7,or_false]at ha;rcases ha with rfl|rfl|rfl|rfl|rfl|rfl<;>rfl
 have y00:∀τ r c d e G,(Gf τ++(YY r c d e++G))[N]?=some (.cells [.val (.int .i64 0),.val (.int .i64 0),.val (.int .i64 0),.sl 0 [] .exact,.sl 0 [] .exact,.sl 0 [] .exact] 26):=λτ r c d e G=>by rw[y0,E_]
 refine ab ?_;simp only[seval,y1,y00,hr6,dX];refine⟨iU,?_⟩;rw[N4];obtain⟨LL,hLL⟩:=dn r2 c np ns (.cells r2 26);rw[VX _ _ (by rw[vF];omega),hLL,Wv];refine ng ?_;simp only[seval,N2,hr6,dX];refine jS (b:=.aL [ak.av ⟨first,i,am,ss,dQ,dC⟩,aO l,aO ap,aO bR]) (H':=Gf ρ) (af2 ?_ ?_ ?_ ?_) rfl (by simp[hT.len]) (hH _) (by simp only[iF,Tm,T7,or_false,forall_eq_or_imp,forall_eq,IV,xU,and_self]) hk
 ·rw[Ii,ak.av];refine QC (.cons (Wk.refl _) (.cons (Wk.refl _) (.cons (Wk.refl _) (.cons ?_ (.cons (Wk.refl _) (.cons (Wk.refl _) .nil))))));rw[<- hc];exact ff _ _ _
 ·rw[<- fI];exact ff _ _ _
 ·rw[<- iV];exact ff _ _ _
 ·rw[<- rf];exact ff _ _ _
end
end Go.Gg
