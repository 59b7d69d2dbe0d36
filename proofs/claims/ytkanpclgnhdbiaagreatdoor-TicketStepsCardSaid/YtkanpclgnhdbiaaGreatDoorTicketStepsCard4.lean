/- A part of the proof. -/
import Derived.Test.YtkanpclgnhdbiaaGreatDoorTicketStepsCard3
set_option linter.all false
set_option maxRecDepth 4000
set_option maxHeartbeats 1000000
open Array renaming getD_eq_getD_getElem?->SH,getElem?_eq_getElem->SJ,getElem?_eq_some_iff->SP,getElem?_modify->VG,getElem_mem->Xd,replicate->TA
open Bool renaming and_eq_true->Td,and_self->Za,eq_iff_iff->UL,false_and->XR,false_or->YG,not_eq_true'->TL,true_and->U0
open Classical renaming byContradiction->To
open Function renaming comp_apply->VF
open Go.IntKind renaming i64->SE,u16->S0
open Go.Obj renaming deferred->ZU
open Go.Proofs.Tryz renaming f15->WT,f53->Zt,prog->SD
open Go.Region renaming linearise->Yl,schedule->Vo,wanted->Tf
open Go.Region.linearise renaming go->Uo
open Go.Value renaming agg->Tw,bool->WB,int->SG,slice->Uc
open Int renaming le_refl->YB,le_trans->WZ,mul_le_mul->Xx,toNat->Xp,toNat_natCast->U8
open List renaming all_eq_true->Tp,any_append->YK,any_cons->X6,any_eq_true->Uw,append_assoc->SC,append_eq_nil_iff->XP,append_nil->SI,cons_append->Vb,contains_append->X4,contains_eq_mem->Ub,contains_iff_mem->XV,countP_le_length->Ye,drop->Ud,drop_append->U4,drop_append_of_le_length->VJ,drop_eq_getElem_cons->TR,drop_of_length_le->Wj,drop_zero->WS,exists_mem_of_ne_nil->Xw,ext_getElem?->Zw,filter_congr->UU,filter_eq_nil_iff->XO,flatMap_append->U1,flatMap_cons->Ua,flatMap_def->We,flatMap_eq_nil_iff->Wd,flatMap_map->Wc,foldl_append->Xj,foldl_cons->Ux,forall_mem_cons->WA,getD_cons_succ->Wz,getD_cons_zero->WJ,getD_eq_getElem?_getD->SF,getElem?_append_left->SY,getElem?_append_right->Tg,getElem?_drop->T9,getElem?_eq_getElem->SV,getElem?_eq_none->Us,getElem?_eq_some_iff->SM,getElem?_map->Ti,getElem?_of_mem->Vg,getElem?_range->YV,getElem?_set->UD,getElem?_set_ne->TP,getElem?_take->TY,getElem_mem->VM,getLast?_eq_getElem?->Xu,getLastD_cons->YA,getLastD_eq_getLast?->UT,head?_append->Wb,head?_cons->YU,length->Y7,length_append->SQ,length_cons->T7,length_drop->T8,length_eraseIdx_of_lt->Xo,length_map->Tj,length_nil->UA,length_pos_iff->Vp,length_replicate->XU,length_set->TF,length_singleton->TQ,length_take->TW,map->UK,mapM_cons->TS,mapM_nil->Um,map_append->Tv,map_congr_left->U9,map_cons->UE,map_flatMap->U3,map_map->Xh,map_take->Vy,mem_append->SN,mem_append_left->Tb,mem_append_right->SZ,mem_cons->SK,mem_cons_of_mem->S9,mem_cons_self->Tu,mem_filter->Uh,mem_flatMap->S4,mem_iff_getElem?->Uz,mem_map->Th,mem_of_getElem?->S_,mem_of_mem_take->VL,mem_range->TH,mem_replicate->W6,mem_reverse->W5,mem_singleton->S5,nil_append->Up,nodup_append->UC,nodup_cons->Vv,nodup_iff_pairwise_ne->Ue,nodup_nil->V_,nodup_range->Xf,not_mem_nil->SU,pairwise_iff_getElem->Xt,pairwise_map->WR,range->SX,range'->TU,range'_succ->Vu,range_eq_range'->UX,range_succ->UV,range_zero->YJ,replicate->TG,reverse_cons->Ys,set_append_left->WQ,set_append_right->Uy,set_cons_succ->Un,set_cons_zero->TM,take->T_,take_add_one->Vh,take_append_drop->UR,take_append_of_le_length->Tq,take_eq_nil_iff->X2,take_length->TE,take_of_length_le->SW,take_set->Y6,take_sublist->Yr,take_succ_cons->Vt,take_succ_eq_append_getElem->W4,take_take->US,take_zero->Zr
open List.Nodup renaming sublist->XD
open List.Pairwise renaming imp->Y8,imp_of_mem->WO
open List.Perm renaming nodup_iff->Zx,refl->Ze
open List.cons renaming injEq->X5
open Nat renaming add_assoc->WY,add_sub_cancel->VA,add_sub_cancel_left->Ve,add_zero->Uv,le_refl->SO,le_trans->Ur,lt_or_ge->XT,lt_succ_self->Ug,min_eq_left->WI,pow_le_pow_right->WH,reduceAdd->SS,reduceSub->XH,sub_self->UP,sub_zero->Y1,succ_mul->WW,testBit_or->WG,testBit_two_pow->Vs,zero_add->VK,zero_testBit->YH
open Option renaming bind_eq_bind->TD,getD_some->S6,map_some->UB,pure_def->T5
open Option.some renaming injEq->Te
namespace Go.Gg
open Go.Conc Go.Proofs Go.Gg.Tk
namespace Tk
def u' (hour:Nat)(hs:List (List Int)):fu:=hs.foldl (λb h=>b.add (h.getD (hour+1) 0-h.getD hour 0)) ⟨0,0,false⟩
theorem aa9{P:List Int->Prop}{hs:List (List Int)}{h:List Int}(h1:∀y∈hs,P y)(h2:P h):∀y∈iG hs h,P y:=λy hy=>by
 unfold iG at hy;split at hy
 ·exact h1 y hy
 ·rcases SN.1 hy with h'|h'
  ·exact h1 y h'
  ·rw[S5.1 h'];exact h2
theorem aqp{x:ai}{deep:Int}{Q:Kn}{t:List Int}(ht:iL x t)(hn:∀h∈Q.aH,jz h):∀h∈(eF x deep Q t).aH,jz h:=by
 have hB:∀h∈(iM Q t).aH,jz h:=by unfold iM;split<;>exact hn
 unfold eF;dsimp only;generalize iM Q t=R at hB;split
 ·exact hB
 ·split
  ·exact aa9 hB ht.bH
  ·exact hB
theorem PA{x:ai}{deep:Int}:∀{ts:List (List Int)}{Q:Kn},(∀t∈ts,iL x t)->(∀h∈Q.aH,jz h)->∀h∈(ts.foldl (eF x deep) Q).aH,jz h
 |[],Q,_,h=>h
 |t::ts,Q,ht,h=>by rw[Ux];exact PA (λu hu=>ht u (by simp[hu])) (aqp (ht t (by simp)) h)
theorem PB{P:List Int->Prop}:∀{l hs:List (List Int)},(∀y∈hs,P y)->(∀y∈l,P y)->∀y∈l.foldl iG hs,P y
 |[],hs,h1,_=>h1
 |a::l,hs,h1,h2=>by rw[Ux];exact PB (aa9 h1 (h2 a (by simp))) (λy hy=>h2 y (by simp[hy]))
theorem ak4{x:ai}{deep:Int}{js:List Nat}{D:Kn}(hA:uV x)(hj:∀j∈js,j<=3)(h:m9 x deep js D):∀h∈D.aH,jz h:=by
 induction h with
 |nil=>intro h hh;cases hh
 |@snoc js F j hs h hp ih=>
  have ih:=ih λi hi=>hj i (by simp[hi]);unfold gS;split
  ·refine PB ih λy hy=> ?_;have mj:=hp.mem_iff.1 hy;refine PA (λt ht=> ?_) (λ_ hh=>by cases hh) y mj;obtain⟨g,h1,h2⟩:=S4.1 ht;obtain⟨ns,h3,h4⟩:=GQ h2;exact(hA j (hj j (by simp)) g h1).2 ns h3 t h4
  ·exact ih
end Tk
theorem alb{x:ai}{deep:Int}{D:Kn}(hx:x.Ok)(h:dZ x deep D):∀h∈D.aH,jz h:=by
 obtain⟨p,js,h1,h2,h3,_⟩:=h;have:=hx.am;refine ak4 (Am hx) (λj hj=> ?_) h3;have:=h2.mem_iff.1 hj;rw[TH]at this;omega
section
variable {lv:Bool}{H:List aa}{k kp:AV->List aa->Prop}
theorem ahA{x:ai}{hour:Nat}{ih ir:Nat}(hh:1<=x.hours/\x.hours<=3)(h1:H[ih]?=some (.cells [iv hour] 3))(hr:H[ir]?=some (.cells x.l 26))(hk:k (bv (decide ((hour:Int)<=x.hours-1))) H):bi lv SD 75 H [.op ih 0, .op ir 0] k kp:=by
 refine bI (rs:=[.tmp 2]) (nt:=9) Tryz.f75 λhH hA=> ?_;simp only[bp,SS];have bQ:x.l=[iv x.first,iv x.hours,iv x.am,ej x.seen,bk x.pieces,bk x.aB]:=rfl;have hw:SE.wrap (x.hours-1)=x.hours-1:=bD _ (by omega);have cw:(!(decide ((hour:Int)<0)||decide ((hour:Int)>x.hours-1)))=decide ((hour:Int)<=x.hours-1):=by
  rw[UL];simp
 refine ak ?_;refine aj ?_;simp only[seval,h1,hr,bQ,hw];refine aL ((qS ?_));(try simp only[seval]);refine a_ ?_;rw[<- cw]at hk;exact bY hk
theorem aho{x:ai}{hour:Nat}(hx:x.Ok)(hm:H[0]?=some .main)(hu:¬(hour:Int)<=x.hours-1->k (.aK [.agg [iv 0,iv 0],iv 3]) H)(hk:(hour:Int)<=x.hours-1->∀D,dZ x 0 D->(D.has=false->k (.aK [.agg [iv 0,iv 0],iv 11]) H)/\(D.has=true->∀hs:List (List Int),hs.Perm D.aH->k (.aK [.agg [iv (u' hour hs).lo,iv (u' hour hs).hi],iv 0]) H)):bi true SD 41 H [x.av,iv hour] k kp:=by
 refine bI (rs:=[.cell 4 46, .tmp 5]) (nt:=43) Tryz.f41 λhH hA=> ?_;simp only[bp,SS,ai.av];have hp:=hx.am;have zd:=hx.hours;obtain⟨p,dq⟩:∃p:Nat,x.am=p:=⟨x.am.toNat,by omega⟩;have aT:∀(L:List aa),(H++L)[H.length]?=L[0]?:=λL=>aS H L 0;have cZ:∀(L:List aa),(H++L)[H.length+1]?=L[1]?:=λL=>aS H L 1;have iB:∀(L:List aa),(H++L)[H.length+2]?=L[2]?:=λL=>aS H L 2;have fA:∀(L:List aa)(y:aa),(H++L).set (H.length+2) y=H++L.set 2 y:=λL y=>de H L 2 y;have br:x.l.length=6:=rfl;have eJ:T_ 6 x.l=x.l:=rfl;refine ak ?_;refine aj ?_;simp only[seval,aT,br,eJ,TS,Um,T5,TD];have hxr:oM.length=6:=rfl;have mS:iJ.length=28:=rfl;have vw:∀L:List aa,(H++L)[H.length+2]?=L[2]?:=iB;refine aL ((lC (x:=x) (b:=decide ((hour:Int)<=x.hours-1)) hx dq (ey hm) (λL k kp hk=>bT (ahA (x:=x) (hour:=hour) (by omega) (by rw[SC,cZ];rfl) (by rw[SC,aT];rfl) hk)) (λhbf=> ?_) λhbt js D L mp dp dL bA jX hg=> ?_))
 ·have aI:=hu (by simpa using hbf);(try simp only[seval,hxr,mS]);refine⟨λa ha=>by simp only[oM,SK,SU,or_false]at ha;rcases ha with rfl|rfl|rfl|rfl|rfl|rfl<;>rfl,λa ha=>by simp only[iJ,SK,SN,W6]at ha;rcases ha with rfl|rfl|⟨_,rfl⟩|⟨_,rfl⟩<;>rfl, ?_⟩;refine aj ?_;simp only[seval,show ((3:Int)!=0)=true from rfl];refine aC ?_;refine aj ?_;simp only[seval,iB,fA];refine mI ?_;simp only[seval,iB];exact je hH (Wk.refl _) (by simp[iV,eK,qp]) aI
 have hh:(hour:Int)<=x.hours-1:=by simpa using hbt
 have eM:dZ x 0 D:=⟨p,js,dq,dp,dL,bA⟩;have bU:=Kn.len bA mp;have eB:=kv D mp;obtain⟨gZ,cx⟩:=hk hh D eM;obtain⟨Bf,aN⟩:∃Bf:List AV->List aa,∀l,Bf l=H++([aa.cells x.l 26, .cells [iv hour] 3, .cells l 46]++L):=⟨_,λ_=>rfl⟩;have dE:H++[aa.cells x.l 26, .cells [iv hour] 3, .cells [iv 0,iv 0] 46]++L=Bf [iv 0,iv 0]:=by rw[aN,SC]
 obtain⟨N,hN⟩:∃N,N=H.length+3+L.length:=⟨_,rfl⟩;have ba:∀l,(Bf l).length=N:=λl=>by rw[aN,hN];simp;omega
 have b1:∀l (L':List aa),(Bf l++L')[H.length+1]?=some (.cells [iv hour] 3):=λl L'=>by rw[aN,SC,cZ];rfl
 have b2:∀l (L':List aa),(Bf l++L')[H.length+2]?=some (.cells l 46):=λl L'=>by rw[aN,SC,iB];rfl
 have oW:∀l l' (L':List aa),(Bf l++L').set (H.length+2) (.cells l' 46)=Bf l'++L':=λl l' L'=>by rw[aN,SC,fA,aN];simp
 have bn:∀l (L':List aa)(j:Nat),(Bf l++L')[N+j]?=L'[j]?:=λl L' j=>by rw[<- ba l,aS]
 have dJ:∀l (L':List aa)(j:Nat)(y:aa),(Bf l++L').set (N+j) y=Bf l++L'.set j y:=λl L' j y=>by rw[<- ba l,de]
 rw[dE]at hg⊢;have fj:∀(l:List AV)(L':List aa)(a b:Int)(m:Int),k (.aK [.agg [iv a,iv b],iv m]) H->cy H.length (Bf l++L') (.aK [.agg [iv a,iv b],iv m]) k:=λl L' a b m h=>by
  rw[aN,SC];exact je hH (Wk.refl _) (by simp[iV,eK,qp]) h
 (try simp only[seval,ai.av,br,bU,ba]);refine⟨ky x,eB, ?_⟩;cases gD:D.has with
 |false=>
  have hE:eX D=11:=by rw[eX,gD];rfl
  refine aj ?_;simp only[seval,hE,show ((11:Int)!=0)=true from rfl];refine aC ?_;refine aj ?_;simp only[seval,b2,oW];refine mI ?_;simp only[seval,b2];exact fj _ _ 0 0 11 (gZ gD)
 |true=>
  have hE:eX D=0:=by rw[eX,gD];rfl
  refine aj ?_;simp only[seval,hE,show ((0:Int)!=0)=false from rfl];refine aC ?_;refine aP ?_;refine aj ?_;simp only[seval,ba];have nC:(D.l mp).drop 1= .mp mp::((D.l mp).drop 2):=rfl;obtain⟨ts,di⟩:∃ts,ts=D.aH.zipIdx:=⟨_,rfl⟩;obtain⟨ck,y9⟩:∃ck,ck=D.aH.length:=⟨_,rfl⟩;have rh:∀l (L':List aa),(Bf l++L')[mp]?=some (.obj (.map (ts.map dN).toArray ck)):=λl L'=>by
   have h0:(Bf [iv 0,iv 0])[mp]?=some (setH D.aH):=hg;have aE:mp≠H.length+2:=λe=>by
    have:=b2 [iv 0,iv 0] [];rw[SI,<- e,h0]at this;cases this
   have h1:(Bf l)[mp]?=some (setH D.aH):=by
    have:=oW [iv 0,iv 0] l [];rw[SI,SI]at this;rw[<- this,TP (λe=>aE e.symm)];exact h0
   rw[di,y9];exact ey h1
  have nz:∀y∈ts,y.2<ck:=λy hy=>by rw[di]at hy;have:=List.snd_lt_add_of_mem_zipIdx hy;omega
  have vP:(ts.map (·.2)).Nodup:=by rw[di,show (λy:List Int×Nat=>y.2)=Prod.snd from rfl,List.zipIdx_map_snd];exact List.nodup_range'
  have h4:∀y∈ts,y.1.length=4:=λy hy=>by rw[di]at hy;exact bA.h4 _ (Aq hy)
  have fO:=HV ts ck nz;have zD:ts.map (·.1)=D.aH:=by rw[di,show (λy:List Int×Nat=>y.1)=Prod.fst from rfl,List.zipIdx_map_fst]
  clear di;refine aj ?_;simp only[seval,ba,bn,nC,rh];obtain⟨dU,db⟩:∃dU:fu->Array Nat->List aa,∀b sn,dU b sn=Bf [iv 0,iv 0]++[.cells x.l 76, .cells (D.l mp) 88, .cells b.l 112, .iter mp ck sn ck]:=⟨_,λ_ _=>rfl⟩;have p1:∀b sn (L':List aa),(dU b sn++L')[H.length+1]?=some (.cells [iv hour] 3):=λb sn L'=>by rw[db,SC];exact b1 _ _
  have p2:∀b sn (L':List aa),(dU b sn++L')[N+2]?=some (.cells b.l 112):=λb sn L'=>by rw[db,SC,bn];rfl
  have p3:∀b sn (L':List aa),(dU b sn++L')[N+3]?=some (.iter mp ck sn ck):=λb sn L'=>by rw[db,SC,bn];rfl
  have CU:∀b sn,(dU b sn)[N+3]?=some (.iter mp ck sn ck):=λb sn=>by have:=p3 b sn [];rwa [SI]at this
  have p4:∀b sn (L':List aa),(dU b sn++L')[N+4]?=L'[0]?:=λb sn L'=>by rw[db,SC,bn];rfl
  have pm:∀b sn (L':List aa),(dU b sn++L')[mp]?=some (.obj (.map (ts.map dN).toArray ck)):=λb sn L'=>by rw[db,SC];exact rh _ _
  have xU:∀b sn,(dU b sn)[mp]?=some (.obj (.map (ts.map dN).toArray ck)):=λb sn=>by have:=pm b sn [];rwa [SI]at this
  have s2:∀b sn b' (L':List aa),(dU b sn++L').set (N+2) (.cells (fu.l b') 112)=dU b' sn++L':=λb sn b' L'=>by rw[db,SC,dJ,db,SC];rfl
  have s3:∀b sn x8,(dU b sn).set (N+3) (.iter mp ck x8 ck)=dU b x8:=λb sn x8=>by rw[db,dJ,db];rfl
  have pl:∀b sn,(dU b sn).length=N+4:=λb sn=>by rw[db];simp[ba]
  have aQ:Bf [AV.val (SG SE 0),AV.val (SG SE 0)]++[.cells x.l 76, .cells (D.l mp) 88, .cells [AV.val (SG SE 0),AV.val (SG SE 0),AV.val (WB false)] 112, .iter mp ck #[] ck]=dU ⟨0,0,false⟩ #[]:=by rw[db];rfl
  rw[aQ];have ox:hour<3:=by omega
  have ajy:=alb hx eM;have b4:(0<=(hour:Int)/\(hour:Int)<4)=True:=by simp;omega
  have My:∀b sn l,(dU b sn).set (H.length+2) (.cells l 46)=Bf l++[.cells x.l 76, .cells (D.l mp) 88, .cells b.l 112, .iter mp ck sn ck]:=λb sn l=>by rw[db,oW]
  have LY:∀b sn,(dU b sn)[H.length+2]?=some (.cells [iv 0,iv 0] 46):=λb sn=>by rw[db,b2]
  have LW:∀b sn,(dU b sn)[N+2]?=some (.cells (fu.l b) 112):=λb sn=>by have:=p2 b sn [];rwa [SI]at this
  refine cN ?_;refine wN (measure λvs:List (List Int×Nat)=>ts.length-vs.length).wf (λvs=>[]) (λvs=>dU (u' hour (vs.map (·.1))) (vs.map (·.2)).toArray) (λvs=>(vs.map (·.2)).Nodup/\∀y∈vs,y∈ts) [] (λ_ _=>rfl) (by simp) rfl (λ_ _=>by simp[pl]) ⟨by simp,by simp⟩ (λcm dF vs ay R hR=> ?_);refine aj ?_;simp only[seval,CU,xU,s3];refine⟨fO.elim .inl (λh=> .inr (.inl h)),λe he hn=> ?_,λhs=> ?_⟩
  ·obtain⟨y,hy,rfl⟩:∃y∈ts,dN y=e:=(by simpa using he);refine aC ?_;refine aP ?_;refine cN ?_;have oZ:=h4 y hy;have BL:(dN y).born=y.2:=rfl;have hlen:(y.1.map iv).length=4:=(by simp[oZ]);have BS:Ud 4 [AV.val (SG SE 0),AV.val (SG SE 0),AV.val (SG SE 0),AV.val (SG SE 0)]=[]:=rfl;obtain⟨w,hw⟩:=cG (xs:=y.1) (i:=hour) (by omega);have Co:y.1.getD hour 0=w:=(by rw[SF,hw];rfl);obtain⟨w2,gH⟩:=cG (xs:=y.1) (i:=hour+1) (by omega);have akP:y.1.getD (hour+1) 0=w2:=(by rw[SF,gH];rfl);have FH:=ajy y.1 (by rw[<- zD];exact Th.2 ⟨y,hy,rfl⟩);have qk:=FH.lo w (S_ hw);have asJ:=FH.hi w (S_ hw);have hwq:=FH.lo w2 (S_ gH);have asH:=FH.hi w2 (S_ gH);have uo:SE.wrap (w2-w)=w2-w:=bD _ (by omega);have nN:SE.wrap ((hour:Int)+1)=(hour:Int)+1:=bD _ (by omega);have kJ:((hour:Int)+1).toNat=hour+1:=(by omega);have b5:(0<=(hour:Int)+1/\(hour:Int)+1<4)=True:=(by simp;omega);have Ct:y.2∉vs.map (·.2):=(by simpa[dN]using hn);have zq:((vs.map (·.2)).toArray.push y.2)=((vs++[y]).map (·.2)).toArray:=(by simp);have Jv:(u' hour (vs.map (·.1))).add (w2-w)=u' hour ((vs++[y]).map (·.1)):=by
    unfold u';rw[Tv,Xj];show _=fu.add _ (y.1.getD (hour+1) 0-y.1.getD hour 0);rw[Co,akP]
   have oB:((vs++[y]).map (·.2)).Nodup/\∀z∈vs++[y],z∈ts:=by
    refine⟨?_,λz hz=> ?_⟩
    ·rw[Tv,UC];refine⟨ay.1,by simp,λa ha b hb=> ?_⟩;simp at hb;subst hb;intro e;subst e;exact Ct ha
    ·rcases SN.1 hz with h|h
     ·exact ay.2 z h
     ·rw[S5.1 h];exact hy
   have ajK:vs.length<ts.length:=by
    have h1:(vs++[y]).Nodup:=zM _ oB.1;have:=h1.length_le_of_subset oB.2;simp at this;omega
   have pn:ts.length-(vs++[y]).length<ts.length-vs.length:=(by simp;omega);have zm:∀b sn,bL (dU b sn):=λb sn z hz=>by
    have Ev:bL (dU ⟨0,0,false⟩ #[]):=cm;rw[pl];rw[db]at hz;have cw:∀z,z∈dU ⟨0,0,false⟩ #[]->eR (N+4) z:=λz hz=>by
     have:=Ev z hz;rwa [pl]at this
    rcases SN.1 hz with h|h
    ·exact cw z (by rw[db];exact Tb _ h)
    ·simp only[SK,SU,or_false]at h;rcases h with rfl|rfl|rfl|rfl
     ·exact cw _ (by rw[db];simp)
     ·exact cw _ (by rw[db];simp)
     ·intro a ha;simp only[fu.l,SK,SU,or_false]at ha;rcases ha with rfl|rfl|rfl<;>exact .val _
     ·show mp<N+4;have:=eU (xU ⟨0,0,false⟩ #[]);rwa [pl]at this
   refine aj ?_;simp only[seval,CU,xU,s3,pl,p4,BL,Array.back?_push,IQ vP hy,LO,oZ,hlen,BS];refine eS 7 ?_;simp only[seval,p1,p4,b4,b5,nN,kJ,j7 hw,j7 gH,uo];refine aL ((Pc (b:=u' hour (vs.map (·.1))) (v:=w2-w) (i:=N+2) (p2 _ _ _) ?_));rw[s2,Jv,zq];(try simp only[seval]);refine hR _ ⟨vs++[y],pn,oB, ?_⟩;exact Mv (oE rfl rfl) (by simp only[seval]<;>simp[bB,Wk.refl]) (zm _ _) (by simp[eK])
  ·have me:vs.Perm ts:=MA ay.1 vP ay.2 λy hy=>by
    have:=hs (dN y) (by simp;exact⟨y.1,y.2,hy,rfl⟩) (nz y hy);simpa[dN]using this
   have Cc:(vs.map (·.1)).Perm D.aH:=by
    have:=me.map (·.1);rw[zD]at this;exact this
   have aI:=cx gD _ Cc;generalize yZ:u' hour (vs.map (·.1))=bv' at aI;refine aC ?_;refine cq ?_;refine aj ?_;simp only[seval,LW,LY,My,fu.l,yZ];refine mI ?_;simp only[seval,b2];exact fj _ _ _ _ 0 aI
end
open Go.Conc Go.Proofs Go.Gg.Tk
namespace Tk
def zI (out n:Int):Int:=if 0<=n/\(out<0\/n<out)then n else out
def xK (l:List Int):Int:=l.foldl zI (-1)
def tS (aV:List Nat)(i:Nat):List Int:=(SX i).flatMap λs=>if 1<(fQ (aV.getD s 0) 0 16).length then[-1]else fQ (aV.getD s 0) 0 16
theorem PM(aV:List Nat)(i:Nat):tS aV (i+1)=tS aV i++(if 1<(fQ (aV.getD i 0) 0 16).length then[-1]else fQ (aV.getD i 0) 0 16):=by
 unfold tS;rw[UV,U1];simp
theorem PL(aV:List Nat):∀i,(tS aV i).length<=i
 |0=>by simp[tS]
 |i+1=>by
  have:=PL aV i;rw[PM,SQ];split
  ·simp;omega
  ·omega
end Tk
theorem G0{a a' b b':AV}(h1:Wk a a')(h2:Wk b b'):Wk (.aK [a,b]) (.aK [a',b']):=λE v h=>by
 cases h with
 |aK hs h=>
  refine .aK hs λi x e=> ?_
  match i with
  |0=>cases e;exact h1 _ _ (h 0 a rfl)
  |1=>cases e;exact h2 _ _ (h 1 b rfl)
open Go.Conc Go.Proofs Go.Gg.Tk
section
variable {lv:Bool}{H:List aa}{k kp:AV->List aa->Prop}
theorem ahe{x:ai}(hx:x.Ok)(hm:H[0]?=some .main)(hk:∀D,dZ x 2 D->(D.has=false->k (.aK [bu [],iv 11]) H)/\(D.has=true->k (.aK [bu (tS D.aV x.aB.length),iv 0]) H)):bi true SD 26 H [x.av] k kp:=by
 refine bI (rs:=[.tmp 2, .tmp 3]) (nt:=39) Tryz.f26 λhH hA=> ?_;simp only[bp,SS,ai.av];have hp:=hx.am;have aQ:=hx.fD;obtain⟨p,dq⟩:∃p:Nat,x.am=p:=⟨x.am.toNat,by omega⟩;have bQ:x.l=[iv x.first,iv x.hours,iv x.am,ej x.seen,bk x.pieces,bk x.aB]:=rfl;have aT:∀(L:List aa),(H++L)[H.length]?=L[0]?:=λL=>aS H L 0;have br:x.l.length=6:=rfl;have eJ:T_ 6 x.l=x.l:=rfl;refine ak ?_;refine aj ?_;simp only[seval,aT,br,eJ];refine aL ((lC (x:=x) hx dq (ey hm) HJ (λh=>by cases h) λ_ js D L mp dp dL bA jX hg=> ?_));have eM:dZ x 2 D:=⟨p,js,dq,dp,dL,bA⟩;have bU:=Kn.len bA mp;have eB:=kv D mp;obtain⟨gZ,cx⟩:=hk D eM;obtain⟨Y,hY⟩:∃Y:List aa,Y=[aa.cells x.l 26]++L:=⟨_,rfl⟩;obtain⟨B,hB⟩:∃B,B=H++Y:=⟨_,rfl⟩;have dE:H++[aa.cells x.l 26]++L=B:=by rw[hB,hY,SC]
 have yY:∀(L':List aa),(B++L')[H.length]?=some (.cells x.l 26):=λL'=>by rw[hB,hY,SC,aT];rfl
 have bn:∀(L':List aa)(j:Nat),(B++L')[B.length+j]?=L'[j]?:=λL' j=>aS B L' j;have dJ:∀(L':List aa)(j:Nat)(y:aa),(B++L').set (B.length+j) y=B++L'.set j y:=λL' j y=>de B L' j y;have fj:∀(L':List aa)(ns:List Int)(e:End)(m:Int),k (.aK [bu ns,iv m]) H->cy H.length (B++L') (.aK [.sl ns.length (ns.map iv) e,iv m]) k:=λL' ns e m h=>by
  rw[hB,SC];exact je hH (G0 (jw _ _ _) (Wk.refl _)) (by simp[iV,eK,bu,uC]) h
 rw[dE];clear dE hg;(try simp only[seval,ai.av,br,bU]);refine⟨ky x,eB, ?_⟩;cases gD:D.has with
 |false=>
  have hE:eX D=11:=by rw[eX,gD];rfl
  refine aj ?_;simp only[seval,hE,show ((11:Int)!=0)=true from rfl];refine aC ?_;refine ak ?_;refine a_ ?_;exact fj _ [] .exact 11 (gZ gD)
 |true=>
  have hE:eX D=0:=by rw[eX,gD];rfl
  refine aj ?_;simp only[seval,hE,show ((0:Int)!=0)=false from rfl];refine aC ?_;refine aP ?_;refine ak ?_
  (repeat apply iA);refine u6 (t:=7) (sz:=1) (el:=3) (by simp only[seval]<;>rfl) ?_
  have t_:Ud 5 x.l=[.sl x.aB.length (x.aB.flatMap aG.l) .shut]:=rfl;refine aj ?_;simp only[seval,yY,t_];have ez:∀(L':List aa),(B++L')[B.length+1]?=L'[1]?:=λL'=>bn L' 1;have yx:∀(L':List aa),(B++L')[B.length+2]?=L'[2]?:=λL'=>bn L' 2;have oW:∀(L':List aa)(y:aa),(B++L').set (B.length+2) y=B++L'.set 2 y:=λL' y=>dJ L' 2 y;obtain⟨gl,ow⟩:∃gl:Nat->List Int,∀i,gl i=tS D.aV i:=⟨_,λ_=>rfl⟩;have BX:gl 0=[]:=by rw[ow];rfl
  have JR:∀i,(gl i).length<=i:=λi=>by rw[ow];exact PL _ _
  refine cN ?_;refine gM x.aB.length (λi:Nat=>[(7, .sl (gl i).length ((gl i).map iv) (.opn (B.length+2))),(22,iv i)]) (λi=>B++[.cells x.l 76, .cells (D.l mp) 88, .tail (gl i).length 1 3]) (λi=>True) (λ_ _=>rfl) (by rw[BX];simp only[seval];simp[bB,Wk.refl]) (by rw[BX];rfl) (λ_ _ _=>by simp) trivial (λcm dF i cw _ R hR=> ?_);refine ak ?_;refine aC ?_;refine⟨λh=> ?_,λh=> ?_⟩
  ·have bE:i<x.aB.length:=(by omega);obtain⟨u,hu⟩:=cG (xs:=D.aV) (i:=i) (by rw[bA.aV];omega);have lu:=bA.lU _ (S_ hu);have b3:(0<=(i:Int)/\(i:Int)<3)=True:=(by simp;omega);have f_:SE.wrap ((i:Int)+1)=((i+1:Nat):Int):=(by rw[bD _ (by omega)];rfl);have BT:=Kn.CW bA (mp:=mp) hu;have dc:gl (i+1)=gl i++(if 1<(fQ u 0 16).length then[-1]else fQ u 0 16):=by
    rw[ow,ow,PM,SF,hu];rfl
   have QW:=JR i;have jh:=Lu u 0 16;refine aP ?_;refine ak ?_;refine aj ?_;simp only[seval,ez,b3,BT];refine aL ((IF lu (by decide) ?_));(try simp only[seval,bu]);refine ak ?_;refine aC ?_;refine⟨λhb=> ?_,λhb=> ?_⟩
   ·refine aj ?_;simp only[seval,z1];(try refine⟨by decide, ?_⟩);refine aj ?_;simp only[seval,yx,oW];refine⟨by omega, ?_⟩;refine aj ?_;simp only[seval,f_];have oo:1<(fQ u 0 16).length:=(by have h2:(1:Int)<((fQ u 0 16).length:Int):=(by simpa using hb);omega);rw[if_pos oo]at dc;refine hR _ ⟨bE,trivial, ?_⟩;rw[dc,Tv,SQ];exact dR
   ·refine aP ?_;refine aj ?_;simp only[seval,yx,oW];refine⟨by omega, ?_⟩;refine aj ?_;simp only[seval,f_];have oo:¬1<(fQ u 0 16).length:=(by have h2:((fQ u 0 16).length:Int)<=1:=(by simpa using hb);omega);rw[if_neg oo]at dc;refine hR _ ⟨bE,trivial, ?_⟩;rw[dc,Tv,SQ];exact dR
  ·have dK:i=x.aB.length:=(by omega);subst dK;refine cq ?_;refine ak ?_;refine a_ ?_;have aI:=cx gD;rw[<- ow]at aI;exact fj _ _ _ 0 aI
theorem ahw{ns:List Int}{e:End}(ji:ns.length<=16)(hk:k (iv (xK ns)) H):bi lv SD 69 H [.sl ns.length (ns.map iv) e] k kp:=by
 refine bI (rs:=[.tmp 2]) (nt:=26) Tryz.f69 λhH hA=> ?_;simp only[bp,SS];refine ak ?_;refine ak ?_;refine ak ?_;refine cN ?_;refine gM ns.length (λi:Nat=>[(3,iv (xK (ns.take i))),(8,iv i)]) (λ_=>_) (λi=>True) (λ_ _=>rfl) (by simp only[seval];simp[bB,Wk.refl];exact Wk.refl _) rfl (λ_ _ _=>rfl) trivial (λcm dF i cw _ R hR=> ?_);refine ak ?_;refine aC ?_;refine⟨λh=> ?_,λh=> ?_⟩
 ·have bE:i<ns.length:=by omega
  obtain⟨n,hn⟩:=cG bE;have f_:SE.wrap ((i:Int)+1)=((i+1:Nat):Int):=by rw[bD _ (by omega)];rfl
  have dc:xK (ns.take (i+1))=zI (xK (ns.take i)) n:=by
   unfold xK;rw[Vh,hn,Xj];rfl
  generalize xK (ns.take i)=o at dc hR⊢;refine aP ?_;refine aj ?_;simp only[seval,h_ hn,jQ bE];by_cases c1:0<=n
  ·have d1:decide (n>=0)=true:=decide_eq_true c1;by_cases c2:o<0
   ·have d2:decide (o<0)=true:=decide_eq_true c2;refine aj ?_;simp only[seval,d1,d2];refine aC ?_;refine ak ?_;refine aj ?_;simp only[seval,f_];rw[zI,if_pos ⟨c1, .inl c2⟩]at dc;refine hR _ ⟨bE,trivial, ?_⟩;rw[dc];exact dR
   ·have d2:decide (o<0)=false:=decide_eq_false c2;by_cases c3:n<o
    ·have d3:decide (n<o)=true:=decide_eq_true c3;refine aj ?_;simp only[seval,d1,d2,d3];refine aC ?_;refine ak ?_;refine aj ?_;simp only[seval,f_];rw[zI,if_pos ⟨c1, .inr c3⟩]at dc;refine hR _ ⟨bE,trivial, ?_⟩;rw[dc];exact dR
    ·have d3:decide (n<o)=false:=decide_eq_false c3;refine aj ?_;simp only[seval,d1,d2,d3];refine aC ?_;refine aP ?_;refine aj ?_;simp only[seval,f_];rw[zI,if_neg (λhc=>hc.2.elim c2 c3)]at dc;refine hR _ ⟨bE,trivial, ?_⟩;rw[dc];exact dR
  ·have d1:decide (n>=0)=false:=decide_eq_false c1;(repeat apply iA);refine aeL (by kernel_rfl) ?_;simp only[seval,d1];refine aC ?_;refine aP ?_;refine aj ?_;simp only[seval,f_];rw[zI,if_neg (λhc=>c1 hc.1)]at dc;refine hR _ ⟨bE,trivial, ?_⟩;rw[dc];exact dR
 ·have:i=ns.length:=by omega
  subst this;refine cq ?_;refine ak ?_;refine a_ ?_;rw[TE];exact bY hk
end
namespace Tk
def aG.more (y:aG)(n:Int):aG:=⟨⟨y.number.min+n,y.number.max+n⟩,y.hour⟩
def lX (h:List Int)(n:Int):Nat->Int
 |0=> -1
 |i+1=>if h.getD i 0<=n/\n<h.getD (i+1) 0 then i else lX h n i
end Tk
section
variable {lv:Bool}{H:List aa}{k kp:AV->List aa->Prop}
theorem O8{a b:Int}(hk:k (.agg [iv a,iv b]) H):bi lv SD 24 H [iv a,iv b] k kp:=by
 refine bI (rs:=[.cell 4 46]) (nt:=8) Tryz.f24 λhH hA=> ?_;simp only[bp,SS];refine ak ?_;refine ak ?_;refine a_ ?_;exact je hH (Wk.refl _) (by simp[qp,eK]) hk
theorem Pd{a b c:Int}(hk:k (Seen.av ⟨a,⟨b,c⟩⟩) H):bi lv SD 78 H [iv a,iv b,iv c] k kp:=by
 refine bI (rs:=[.cell 6 61]) (nt:=12) Tryz.f78 λhH hA=> ?_;simp only[bp,SS];refine ak ?_;refine ak ?_;refine a_ ?_;exact je hH (Wk.refl _) (by simp[qp,eK]) hk
theorem qT{a b c d:Int}(hk:k (aG.av ⟨⟨a,b⟩,⟨c,d⟩⟩) H):bi lv SD 79 H [iv a,iv b,iv c,iv d] k kp:=by
 refine bI (rs:=[.cell 8 48]) (nt:=16) Tryz.f79 λhH hA=> ?_;simp only[bp,SS];refine ak ?_;refine ak ?_;refine a_ ?_;exact je hH (Wk.refl _) (by simp[qp,eK]) hk
theorem ahn{h:List Int}{n:Int}{e:End}(hl:h.length<=4)(hk:k (iv (lX h n (h.length-1))) H):bi lv SD 40 H [.sl h.length (h.map iv) e,iv n] k kp:=by
 refine bI (rs:=[.tmp 4]) (nt:=31) Tryz.f40 λhH hA=> ?_;simp only[bp,SS];refine ak ?_;refine ak ?_;refine ak ?_;refine cN ?_;refine gM (h.length-1) (λi:Nat=>[(5,iv (lX h n i)),(6,iv i)]) (λ_=>_) (λi=>True) (λ_ _=>rfl) (by simp only[seval];simp[bB,Wk.refl];exact Wk.refl _) rfl (λ_ _ _=>rfl) trivial (λcm dF i cw _ R hR=> ?_);have f_:SE.wrap ((i:Int)+1)=((i+1:Nat):Int):=by rw[bD _ (by omega)];rfl
 refine aj ?_;simp only[seval,f_];refine aC ?_;refine⟨λhc=> ?_,λhc=> ?_⟩
 ·have bE:i+1<h.length:=by omega
  obtain⟨a,ha⟩:=cG (xs:=h) (i:=i) (by omega);obtain⟨b,hb⟩:=cG (xs:=h) (i:=i+1) bE;have gC:h.getD i 0=a:=by rw[SF,ha];rfl
  have dG:h.getD (i+1) 0=b:=by rw[SF,hb];rfl
  have iP:=jQ (show i<h.length by omega);have tY:(0<=(i:Int)+1/\(i:Int)+1<(h.length:Int))=True:=by simp;omega
  have kJ:((i:Int)+1).toNat=i+1:=by omega
  have dc:lX h n (i+1)=if a<=n/\n<b then(i:Int)else lX h n i:=by rw[lX,gC,dG]
  refine aP ?_;refine cN ?_;by_cases c1:a<=n
  ·have d1:decide (a<=n)=true:=decide_eq_true c1;by_cases c2:n<b
   ·have d2:decide (n<b)=true:=decide_eq_true c2;refine aj ?_;simp only[seval,h_ ha,h_ hb,iP,tY,kJ,d1,d2,f_];refine aC ?_;refine ak ?_;refine aj ?_;simp only[seval,f_];rw[if_pos ⟨c1,c2⟩]at dc;refine hR _ ⟨by omega,trivial, ?_⟩;rw[dc];exact dR
   ·have d2:decide (n<b)=false:=decide_eq_false c2;refine aj ?_;simp only[seval,h_ ha,h_ hb,iP,tY,kJ,d1,d2,f_];refine aC ?_;refine aP ?_;refine aj ?_;simp only[seval,f_];rw[if_neg (λhh=>c2 hh.2)]at dc;refine hR _ ⟨by omega,trivial, ?_⟩;rw[dc];exact dR
  ·have d1:decide (a<=n)=false:=decide_eq_false c1;refine aj ?_;simp only[seval,h_ ha,iP,d1];refine aC ?_;refine aP ?_;refine aj ?_;simp only[seval,f_];rw[if_neg (λhh=>c1 hh.1)]at dc;refine hR _ ⟨by omega,trivial, ?_⟩;rw[dc];exact dR
 ·have dK:i=h.length-1:=by omega
  subst dK;refine cq ?_;refine ak ?_;refine a_ ?_;exact bY hk
end
open Go.Conc Go.Proofs Go.Gg.Tk
namespace Tk
end Tk
section
variable {lv:Bool}{H:List aa}{k kp:AV->List aa->Prop}
end
open Go.Conc Go.Proofs Go.Gg.Tk
def vg (τ:bt)(ns:List Int):Int:=ns.getD (dO τ (ns.length-1)).toNat 0
section
variable {lv:Bool}{H:List aa}{k kp:AV->List aa->Prop}{Gf:bt->List aa}{t N:Nat}{τ:bt}{b:Int}
theorem ID{ns:List Int}{e:End}(hT:ew Gf t N)(hτ:τ.Ok b)(hb:b<2^60)(hn:1<=ns.length)(kI:ns.length<2^20)(hk:k (iv (vg τ ns)) (Gf (tick τ))):bi lv SD 45 (Gf τ) [.op t 0, .sl ns.length (ns.map iv) e] k kp:=by
 refine bI (rs:=[.tmp 4]) (nt:=13) Tryz.f45 λhH hA=> ?_;simp only[bp,SS];have bX:SE.wrap ((ns.length:Int)-1)=(ns.length:Int)-1:=bD _ (by omega);have hr:=mZ τ ((ns.length:Int)-1);unfold vg at hk;obtain⟨j,hj⟩:=Int.eq_ofNat_of_zero_le hr.1;have fy:j<ns.length:=by omega
 obtain⟨v,hv⟩:=cG fy;rw[hj]at hk;have xD:ns.getD ((j:Int)).toNat 0=v:=by rw[U8,SF,hv];rfl
 rw[xD]at hk;refine ak ?_;refine aj ?_;simp only[seval,bX];refine aL ((sw hT hτ hb (by omega) ?_));rw[hj];(try simp only[seval,h_ hv,jQ fy]);refine a_ ?_;exact bY hk
end
def mG (τ:bt)(n m lo hi:Int):jx:=⟨max lo (n-dO τ m),min hi (n+dO (tick τ) m)⟩
def lG (τ:bt)(h:List Int)(n hours:Int):aG:=⟨mG τ n 2 0 99,mG (tick (tick τ)) (lX h n (h.length-1)) 1 0 (hours-1)⟩
section
variable {lv:Bool}{k kp:AV->List aa->Prop}{Gf:bt->List aa}{t N:Nat}{τ:bt}{b:Int}
theorem IE{n m lo hi:Int}(hT:ew Gf t N)(hτ:τ.Ok b)(hb:b<2^30)(hn: -1000<=n/\n<=1000)(hm:0<=m/\m<=3)(hk:k (mG τ n m lo hi).av (Gf (tick (tick τ)))):bi lv SD 48 (Gf τ) [.op t 0,iv n,iv m, .agg [iv lo,iv hi]] k kp:=by
 refine bI (rs:=[.cell 8 46]) (nt:=26) Tryz.f48 λhH hA=> ?_;simp only[bp,SS];have oh:ew (λτ=>Gf τ++[.cells [iv lo,iv hi] 46, .cells [iv 0,iv 0] 46]) t (N+2):=hT.more [_,_];have r1:=mZ τ m;have r2:=mZ (tick τ) m;have bX:SE.wrap (n-dO τ m)=n-dO τ m:=bD _ (by omega);have gH:SE.wrap (n+dO (tick τ) m)=n+dO (tick τ) m:=bD _ (by omega);have B5:(if lo<n-dO τ m then n-dO τ m else lo)=max lo (n-dO τ m):=by split<;>omega
 have qa:(if n+dO (tick τ) m<hi then n+dO (tick τ) m else hi)=min hi (n+dO (tick τ) m):=by split<;>omega
 refine ak ?_;refine qM [5,13,17] [0,1,2,3,4,5,6,7,8,9,10,11,12,13,14,15,16,17] [⟨0,false,[],[([5],[5]),([5,13],[5,13])]⟩,⟨1,false,[],[([5],[5]),([5,13],[5,13])]⟩,⟨2,false,[],[([5],[5]),([5,13],[5,13])]⟩,⟨3,false,[],[]⟩,⟨4,false,[],[]⟩,⟨5,true,[5],[]⟩,⟨6,false,[5],[([5,13],[5,13])]⟩,⟨7,false,[5],[([5,13],[5,13])]⟩,⟨8,false,[5],[([],[]),([5,13],[5,13])]⟩,⟨9,false,[5],[([],[]),([5,13],[5,13])]⟩,⟨10,false,[5],[([],[]),([5,13],[5,13])]⟩,⟨11,false,[5],[([],[])]⟩,⟨12,false,[5],[([],[])]⟩,⟨13,true,[5,13],[]⟩,⟨14,false,[5,13],[]⟩,⟨15,false,[5,13],[]⟩,⟨16,false,[5,13],[]⟩,⟨17,true,[5,13,17],[]⟩] (λD=>bif isDone 17 D then Gf (tick (tick τ))++[.cells [iv lo,iv hi] 46, .cells [iv (max lo (n-dO τ m)),iv (min hi (n+dO (tick τ) m))] 46]else bif isDone 13 D then Gf (tick (tick τ))++[.cells [iv lo,iv hi] 46, .cells [iv 0,iv 0] 46]else bif isDone 5 D then Gf (tick τ)++[.cells [iv lo,iv hi] 46, .cells [iv 0,iv 0] 46]else Gf τ++[.cells [iv lo,iv hi] 46, .cells [iv 0,iv 0] 46]) ?_;simp only[seval,hT.len,hT.g0,hT.g1,hT.g2,hT.g3,hT.h2,hT.h3,hT.s0,hT.s1,hT.s2,hT.s3,hT.t2,hT.t3,bX,gH,B5,qa];refine kW _ _ (bT (sw (oh) hτ (by omega) (by omega) ⟨rfl,rfl⟩)) ?_;(try simp only[seval,hT.len,hT.g0,hT.g1,hT.g2,hT.g3,hT.h2,hT.h3,hT.s0,hT.s1,hT.s2,hT.s3,hT.t2,hT.t3,bX,gH,B5,qa]);refine kW _ _ (bT (sw (oh) hτ.tick (by omega) (by omega) ⟨rfl,rfl⟩)) ?_;(try simp only[seval,hT.len,hT.g0,hT.g1,hT.g2,hT.g3,hT.h2,hT.h3,hT.s0,hT.s1,hT.s2,hT.s3,hT.t2,hT.t3,bX,gH,B5,qa]);refine mI ?_;simp only[seval,hT.len,hT.g0,hT.g1,hT.g2,hT.g3,hT.h2,hT.h3,hT.s0,hT.s1,hT.s2,hT.s3,hT.t2,hT.t3];exact jT (b:=(mG τ n m lo hi).av) (H':=Gf (tick (tick τ))) (Wk.refl _) rfl (by simp[hT.len]) (hT.ay hH _) (by simp[jx.av,jx.l,qp,eK]) hk
theorem Pa{h:List Int}{n hours:Int}{e:End}(hT:ew Gf t N)(hτ:τ.Ok b)(hb:b<2^20)(hl:h.length<=4)(hn: -1000<=n/\n<=1000)(hh:1<=hours/\hours<=3)(qi: -1<=lX h n (h.length-1)/\lX h n (h.length-1)<=4)(hk:k (lG τ h n hours).av (Gf (tick (tick (tick (tick τ)))))):bi lv SD 47 (Gf τ) [.op t 0, .sl h.length (h.map iv) e,iv n,iv hours] k kp:=by
 refine bI (rs:=[.cell 8 48]) (nt:=22) Tryz.f47 λhH hA=> ?_;simp only[bp,SS];have tW:∀o:aa,ew (λτ=>Gf τ++[o]) t (N+1):=λo=>hT.more [o];have bX:SE.wrap (hours-1)=hours-1:=bD _ (by omega);refine ak ?_;refine aj ?_;simp only[seval,bX];refine aL ((IE (n:=n) (m:=2) (lo:=0) (hi:=99) (tW _) hτ (by omega) hn (by decide) ?_));(try simp only[seval]);refine aL ((ahn (h:=h) (n:=n) hl ?_));(try simp only[seval,bX]);refine aL ((IE (n:=lX h n (h.length-1)) (m:=1) (lo:=0) (hi:=hours-1) (tW _) hτ.tick.tick (by omega) (by omega) (by decide) ?_));(try simp only[seval,hT.len,hT.g0,hT.g1,hT.g2,hT.g3,hT.h2,hT.h3,hT.s0,hT.s1,hT.s2,hT.s3,hT.t2,hT.t3,jx.av,jx.l]);refine mI ?_;simp only[seval,hT.len,hT.g0,hT.g1,hT.g2,hT.g3,hT.h2,hT.h3,hT.s0,hT.s1,hT.s2,hT.s3,hT.t2,hT.t3];exact jT (b:=(lG τ h n hours).av) (H':=Gf (tick (tick (tick (tick τ))))) (Wk.refl _) rfl (by simp[hT.len]) (hT.ay hH _) (by simp[aG.av,aG.l,qp,eK]) hk
end
end Go.Gg
namespace Go.Gg.Tk
def tC:List Int->Prop
 |a::b::l=>a<=b/\tC (b::l)
 |_=>True
theorem aqJ{h:List Int}{n:Int}(hl:2<=h.length)(p7:h.length<=4)(hm:tC h):lX h n (h.length-1)=ju h n:=by
 match h,hl,p7,hm with
 |[a,b],_,_,hm=>
  simp only[ju,fJ,lX,T7,UA,WJ,Wz,SS,XH]
 |[a,b,c],_,_,hm=>
  obtain⟨h1,h2,_⟩:=hm;simp only[ju,fJ,lX,T7,UA,WJ,Wz,SS,XH];split<;>split<;>first|rfl|omega
 |[a,b,c,d],_,_,hm=>
  obtain⟨h1,h2,h3,_⟩:=hm;simp only[ju,fJ,lX,T7,UA,WJ,Wz,SS,XH];split<;>split<;>first|rfl|omega|(split<;>first|rfl|omega)
end Go.Gg.Tk
namespace Go.Gg
open Go.Conc
section
variable {lv:Bool}{P:Program}{r:Option Nat}{o:Oper}{s:AS}{next:AS->Prop}{bad:AV->AS->Prop}
end
section
variable (lv:Bool)(P:Program)(r:Option Nat)
def AJ:List Oper->AS->(AS->Prop)->(AV->AS->Prop)->Prop
 |[],s,K,_=>K s
 |o::rest,s,K,bad=>o.guard=none/\Step lv P r o s (λs'=>AJ rest s' K bad) bad
end
section
variable {lv:Bool}{P:Program}{r:Option Nat}{s:AS}
theorem abZ{nt:Nat}{all:Array Oper}{Φ:ao->AS->Prop}(dn:∀o∈all,∀d,o.dst=some d->d<nt)(nB:∀o∈all,r=none\/ml o.op=false):∀(n k:Nat)(s:AS),k+n=all.size->AJ lv P r (all.toList.drop k) s (Φ .normal) (λpv s=>Φ (.panic pv) s)->
  ∀(E:Env)(V:View)(a:Act)(Q:Ex->Act->View->Prop),At E V s a nt->(∀ae e E' V' a' s',Kept E E' V V' a a'->At E' V' s' a' nt->pF E' ae e->Φ ae s'->Q e a' V')->dj lv P r all Q (TU k n) a V
 |0,k,s,hk,h,E,V,a,Q,ah,hQ=>by
  have:all.toList.drop k=[]:=by simp;omega
  rw[this]at h;exact hQ .normal .normal E V a s (Kept.refl E V a) ah trivial h
 |n+1,k,s,hk,h,E,V,a,Q,ah,hQ=>by
  have hlt:k<all.size:=by omega
  have hd:all.toList.drop k=all[k]::all.toList.drop (k+1):=by
   rw[TR (by simpa using hlt)];simp
  rw[hd]at h;have fP:all[k]∈all:=Xd hlt;have ho:all[k]?=some all[k]:=SJ hlt;simp only[Vu,dj,ho];obtain⟨hg,h⟩:=h;have hw:Tf all[k] (yielded all a.tmps)=true:=by unfold Tf;rw[hg]
  rw[if_pos hw];refine .inl (h E V a _ Q ah.bw ah.tok (λd e=>by rw[ah.size];exact dn _ fP d e) (nB _ fP) (λE' V' a' s' aI bc mh hn=> ?_) (λE' V' s' pv v aI bc mh bm hb=> ?_))
  ·exact abZ dn nB n (k+1) s' (by omega) hn E' V' a' Q ⟨bc,mh,aI.size.trans ah.size⟩ (λae e bR aU cC dA gg dx he hΦ=>hQ ae e bR aU cC dA (aI.trans gg) dx he hΦ)
  ·exact hQ (.panic pv) (.panic _) E' V' a s' aI ⟨bc,mh,ah.size⟩ ⟨v,rfl,bm⟩ hb
theorem aeK{nt id:Nat}{ops:Array Oper}{Φ:ao->AS->Prop}(hd:jS nt ops=true)(h:AJ lv P r ops.toList s (Φ .normal) (λpv s=>Φ (.panic pv) s)):aY lv P r nt (.region id ops false) s Φ:=by
 intro E V a Q ah hQ;refine wp_region ?_;rw[UX];exact abZ (Φ:=Φ) (λo ho d e=>(jS.out hd ho).1 d e) (λo ho=> .inr (jS.out hd ho).2) ops.size 0 s (by omega) (by simpa using h) E V a Q ah hQ
end
section
variable {lv:Bool}{P:Program}{r:Option Nat}{o:Oper}{s:AS}{next:AS->Prop}{bad:AV->AS->Prop}
theorem HL{nt id:Nat}{c:Code}{l:List AV}{el:TypeId}{Φ:ao->AS->Prop}(ce:s.H[id]?=some (.cells l el))(h:aY lv P r nt c ⟨s.T,s.H.set id (.part l.length l el)⟩ Φ):aY lv P r nt c s Φ:=λE V a Q ah hQ=>by
 have hc:=ah.bw;obtain⟨⟨cs,jj,hd⟩,nE⟩:=hc.obj id _ ce;have g:ep V (V.iw (E.blk id) cs (λo=>decide (o<l.length))):=yL jj (λo _=>nE o);refine WP.ghost g ?_;have hI:∀b o v,E.I b o=some v->(V.iw (E.blk id) cs (λo=>decide (o<l.length))).ab b o=some v:=λb o v e=>by
  rw[hc.I]at e;have hb:b≠E.blk id:=λhb=>by rw[hb,nE]at e;cases e
  simp only[View.iw];rw[if_neg (λx=>hb x.1)];exact e
 have hle:E.Le {E with I:=(V.iw (E.blk id) cs (λo=>decide (o<l.length))).ab}:=⟨hI,SO _,λ_ _=>rfl,λ_ _=>SO _,λ_ _ _ _=>rfl,rfl,rfl⟩;have cT:Conc {E with I:=(V.iw (E.blk id) cs (λo=>decide (o<l.length))).ab} (V.iw (E.blk id) cs (λo=>decide (o<l.length))) (s.H.set id (.part l.length l el)):=by
  refine hc.i_ id _ hle rfl (by rw[TF];exact hc.n) lS rfl (λ_ _ _=>rfl) (λb y gk hy=>⟨hy,λo=> ?_⟩) ⟨⟨cs,jj,(hd.mono hle).p,λo ho=> ?_⟩,λo ho=> ?_⟩ (λb hb=> .inl ⟨_,ce,hb⟩)
  ·have hb:b≠E.blk id:=λhb=>gk _ ce (by rw[hb];rfl);simp only[View.iw];rw[if_neg (λx=>hb x.1)]
  ·simp only[View.iw];rw[if_pos ⟨trivial,by simpa using ho⟩]
  ·simp only[View.iw];rw[if_neg (λx=>by have:=x.2;simp at this;omega)];exact nE o
 exact h _ _ a Q ⟨cT,ah.tok.mono hle,ah.size⟩ λae e E' aU a' s' hk=>hQ ae e E' aU a' s' ((⟨hle,rfl,rfl,rfl,rfl⟩:Kept E _ V (V.iw (E.blk id) cs (λo=>decide (o<l.length))) a a).trans hk)
def AN (H:List aa)(b a:AV):Prop:=∀E V v,Conc E V H->ap E b v->ap E a v
theorem AN.of{H:List aa}{b a:AV}(h:Wk b a):AN H b a:=λE _ v _ d=>h E v d
theorem M3{H:List aa}{id n cap m p:Nat}{l:List AV}{el:TypeId}(ce:H[id]?=some (.part p l el))(hm:m<=p)(hp:p<=l.length):AN H (.bJ id 0 n cap) (.sl n (l.take m) .shut):=λE V v hc hd=>by
 cases hd with
 |bJ hi ec=>
  rename_i cap';obtain⟨⟨cs,ho,EM,ud⟩,_⟩:=hc.obj id _ ce;refine .sl (E.blk id) 0 cap' (λi=>cs.getD i undef) ec.1 trivial (λi cF=> ?_) (λi x hx=> ?_)
  ·rw[TW]at cF;have hlt:i<cs.size:=(by have:=EM.1;omega);rw[hc.I,VK,ud i (by omega),SH,SJ hlt];rfl
  ·rw[TY]at hx;split at hx
   ·exact EM.2 i x hx
   ·cases hx
theorem aeP{nt id j:Nat}{c:Code}{l:List AV}{x y:AV}{el:TypeId}{Φ:ao->AS->Prop}(ce:s.H[id]?=some (.cells l el))(hj:l[j]?=some x)(hw:AN s.H x y)(h:aY lv P r nt c ⟨s.T,s.H.set id (.cells (l.set j y) el)⟩ Φ):aY lv P r nt c s Φ:=λE V a Q ah hQ=>by
 have hc:=ah.bw;obtain⟨⟨cs,jj,hd⟩,nE⟩:=hc.obj id _ ce;have cT:Conc E V (s.H.set id (.cells (l.set j y) el)):=
  hc.i_ id _ (Env.Le.refl _) hc.I (by rw[hc.n,TF]) lS rfl (λ_ _ _=>rfl) (λb y _ hy=>⟨hy,λ_=>rfl⟩) ⟨⟨cs,jj,OG hd hj (λv d=>hw E V v hc d)⟩,nE⟩ (λb dG=> .inl ⟨_,ce,dG⟩)
 exact h E V a Q ⟨cT,ah.tok,ah.size⟩ hQ
theorem NX{nt t:Nat}{c:Code}{x y:AV}{Φ:ao->AS->Prop}(ht:look s.T t=some x)(hw:AN s.H x y)(h:aY lv P r nt c ⟨(t,y)::s.T,s.H⟩ Φ):aY lv P r nt c s Φ:=λE V a Q ah hQ=>by
 refine h E V a Q ⟨ah.bw,λt' b e=> ?_,ah.size⟩ hQ;simp only[look]at e;split at e
 ·rename_i e';subst e';cases e;exact⟨(ah.tok t x ht).1,hw E V _ ah.bw (ah.tok t x ht).2⟩
 ·exact ah.tok t' b e
end
open Go.Proofs Go.Gg.Tk
def iq (τ:bt)(n:Nat):Nat->List Int×bt
 |0=>(TG n 0,τ)
 |i+1=>(((iq τ n i).1.set i ((iq τ n i).1.getD (dO (iq τ n i).2 i).toNat 0)).set (dO (iq τ n i).2 i).toNat i,tick (iq τ n i).2)
theorem zL(τ:bt)(n:Nat):∀i,(iq τ n i).1.length=n
 |0=>XU
 |i+1=>by rw[iq,TF,TF,zL τ n i]
theorem F7{τ:bt}{b:Int}(h:τ.Ok b)(n:Nat):∀i:Nat,(iq τ n i).2.Ok (b+i)
 |0=>h.mono (by simp)
 |i+1=>(F7 h n i).tick.mono (by simp;omega)
theorem acY(n:Nat):gU (SG .i64 0) n=(TG n (0:Int)).map iv:=by
 have h:∀i∈SX n,AV.py ((SG SE 0).cells[i % (SG SE 0).cells.size]!)=iv 0:=λi _=>by
  rw[show (SG SE 0).cells.size=1 from rfl,Nat.mod_one];rfl
 rw[List.map_replicate];unfold gU;rw[U9 h,List.map_const',List.length_range]
section
variable {lv:Bool}{k kp:AV->List aa->Prop}{Gf:bt->List aa}{t N:Nat}{τ:bt}{b:Int}
theorem O9{n:Nat}(hT:ew Gf t N)(hτ:τ.Ok b)(hb:b<2^30)(hn:n<=2^20)(hk:k (bu (iq τ n n).1) (Gf (iq τ n n).2)):bi lv SD 37 (Gf τ) [.op t 0,iv n] k kp:=by
 refine bI (rs:=[.tmp 4]) (nt:=30) Tryz.f37 λhH hA=> ?_;simp only[bp,SS];have tW:∀o:aa,ew (λτ=>Gf τ++[o]) t (N+1):=λo=>hT.more [o];refine ak ?_;refine aj ?_;simp only[seval,acY,hT.len];refine⟨by omega,by omega, ?_⟩;refine ak ?_;refine cN ?_;refine gM n (λi:Nat=>[(6,iv i)]) (λi=>Gf (iq τ n i).2++[.cells ((iq τ n i).1.map iv) 3]) (λ_=>True) (λ_ _=>rfl) (by simp only[seval];simp[bB,Wk.refl]) rfl (λ_ _ _=>by simp[hT.len]) trivial (λcm dF i cw hi R hR=> ?_);clear cm dF;refine ak ?_;refine aC ?_;refine⟨λh=> ?_,λh=> ?_⟩
 ·have bE:i<n:=by omega
  have ay:=F7 hτ n i;have hlen:=zL τ n i;have uo:SE.wrap ((i:Int)+1)=i+1:=bD _ (by omega);have e_:iq τ n (i+1)=(((iq τ n i).1.set i ((iq τ n i).1.getD (dO (iq τ n i).2 i).toNat 0)).set (dO (iq τ n i).2 i).toNat i,tick (iq τ n i).2):=rfl;generalize iq τ n i=m at ay hlen e_⊢;obtain⟨l,σ⟩:=m;simp only at ay hlen e_;have hr:=mZ σ i;refine aP ?_;refine ak ?_;refine aL ((sw (tW _) ay (by omega) (by omega) ?_));(try simp only[seval]);generalize dO σ i=u at hr e_⊢;obtain⟨u,rfl⟩:∃w:Nat,u=w:=⟨u.toNat,by omega⟩;rw[U8]at e_;have RO:u<n:=by omega
  obtain⟨a,ha⟩:=cG (xs:=l) (i:=u) (by omega);have JN:l.getD u 0=a:=by rw[SF,ha];rfl
  rw[JN]at e_;obtain⟨a2,BD⟩:=cG (xs:=l) (i:=i) (by omega);have Ff:(i+1<=l.length)=True:=by simp;omega
  have hou:(u+1<=(l.set i a).length)=True:=by simp;omega
  refine aj ?_;simp only[seval,jQ bE,jQ RO,hT.len,hT.g0,hT.g1,hT.g2,hT.g3,hT.h2,hT.h3,hT.s0,hT.s1,hT.s2,hT.s3,hT.t2,hT.t3,j7 ha,Tj,Ff,wh (y:=a) (show i<l.length by omega)];refine aj ?_;simp only[seval,jQ RO,hT.len,hT.g0,hT.g1,hT.g2,hT.g3,hT.h2,hT.h3,hT.s0,hT.s1,hT.s2,hT.s3,hT.t2,hT.t3,Tj,hou,wh (xs:=l.set i a) (y:=i) (show u<(l.set i a).length by simp;omega)];refine aj ?_;simp only[seval,uo];refine hR _ ⟨bE,trivial, ?_⟩;rw[e_];exact dR
 ·have sK:i=n:=by omega
  subst sK;clear hR;refine cq ?_;have hlen:=zL τ i i;generalize iq τ i i=m at hlen hk⊢;obtain⟨l,σ⟩:=m;simp only at hlen hk
  (repeat apply iA);refine HL (id:=N) (by simp only[seval,hT.len,hT.g0,hT.g1,hT.g2,hT.g3,hT.h2,hT.h3,hT.s0,hT.s1,hT.s2,hT.s3,hT.t2,hT.t3]<;>rfl) ?_
  simp only[seval,hT.len,hT.g0,hT.g1,hT.g2,hT.g3,hT.h2,hT.h3,hT.s0,hT.s1,hT.s2,hT.s3,hT.t2,hT.t3]
  (repeat apply iA);refine NX (t:=5) (y:=bu l) (by simp only[seval]<;>rfl) ?_ ?_
  ·have e:bu l= .sl i ((l.map iv).take i) .shut:=by
    rw[SW (by simp;omega),bu,hlen]
   rw[e];exact M3 (p:=l.length) (by simp only[seval,hT.len,hT.g0,hT.g1,hT.g2,hT.g3,hT.h2,hT.h3,hT.s0,hT.s1,hT.s2,hT.s3,hT.t2,hT.t3]<;>rfl) (by omega) (by simp)
  refine ak ?_;refine a_ ?_;exact jT (b:=bu l) (H':=Gf σ) (G:=[.part l.length (l.map iv) 3]) (Wk.refl _) rfl (by simp[hT.len]) (hT.ay hH σ) (by rw[xM];trivial) hk
end
structure Hu (p:List Int)(n:Nat):Prop where
 len:p.length=n
 nodup:p.Nodup
 Gw:∀v∈p,0<=v/\v<(n:Int)
theorem set_perm{t:List Int}{k:Nat}{a b:Int}(h:t[k]?=some a):(t.set k b++[a]).Perm (t++[b]):=by
 obtain⟨hk,rfl⟩:=SM.1 h;have e:t=t.take k++t[k]::t.drop (k+1):=by rw[<- TR hk,UR]
 rw[List.set_eq_take_append_cons_drop,if_pos hk]
 conv=>rhs;rw[e]
 rw[List.perm_iff_count];intro v;simp only[List.count_append,List.count_cons,List.count_nil];omega
theorem aar(τ:bt)(n:Nat):∀i:Nat,i<=n->((iq τ n i).1.take i).Nodup/\∀v∈(iq τ n i).1.take i,0<=v/\v<(i:Int)
 |0,_=>by simp
 |i+1,hi=>by
  obtain⟨h1,h2⟩:=aar τ n i (by omega);have hlen:=zL τ n i;rw[iq];generalize iq τ n i=m at h1 h2 hlen⊢;obtain⟨l,σ⟩:=m;simp only at h1 h2 hlen⊢;have hr:=mZ σ i;generalize dO σ i=u at hr⊢;obtain⟨k,rfl⟩:∃w:Nat,u=w:=⟨u.toNat,by omega⟩;rw[U8];obtain⟨a,ha⟩:=cG (xs:=l) (i:=k) (by omega);obtain⟨c,hc⟩:=cG (xs:=l) (i:=i) (by omega);have JN:l.getD k 0=a:=by rw[SF,ha];rfl
  have vU:(l.take i).length=i:=by rw[TW];omega
  have hp:(((l.set i a).set k (i:Int)).take (i+1)).Perm (l.take i++[(i:Int)]):=by
   rw[Y6,Y6,Vh,hc];show ((((l.take i)++[c]).set i a).set k (i:Int)).Perm _;rw[Uy _ _ (by omega),vU,UP];show (((l.take i)++[a]).set k (i:Int)).Perm _;by_cases e:k=i
   ·subst e;rw[Uy _ _ (by omega),vU,UP];exact Ze _
   ·rw[WQ _ _ (by omega)];exact set_perm (by rw[TY,if_pos (by omega)];exact ha)
  rw[JN];refine⟨(Zx hp).2 ?_,λv hv=> ?_⟩
  ·exact UC.2 ⟨h1,by simp,λx hx y hy e=>by
    have:=h2 x hx;simp at hy;omega⟩
  ·rcases SN.1 (hp.mem_iff.1 hv)with hv|hv
   ·have:=h2 v hv;omega
   ·simp at hv;omega
theorem aas(τ:bt)(n:Nat):Hu (iq τ n n).1 n:=by
 obtain⟨h1,h2⟩:=aar τ n n (SO _);rw[SW (by rw[zL];exact SO _)]at h1 h2;exact⟨zL τ n n,h1,h2⟩
theorem DV{τ:bt}{n m lo hi:Int}(hn:lo<=n/\n<=hi)(pc:0<=lo):uQ (mG τ n m lo hi) hi/\kM (mG τ n m lo hi) n=true:=by
 have r1:=mZ τ m;have r2:=mZ (tick τ) m;unfold mG;refine⟨⟨?_, ?_, ?_⟩, ?_⟩
 ·dsimp only;omega
 ·dsimp only;omega
 ·dsimp only;omega
 ·unfold kM;rw[Td,decide_eq_true_eq,decide_eq_true_eq];dsimp only;omega
theorem Iu(τ:bt){ns:List Int}(h:ns≠[]):vg τ ns∈ns:=by
 unfold vg;have hl:0<ns.length:=Vp.2 h;have r:=mZ τ ((ns.length:Int)-1);have hi:(dO τ ((ns.length:Int)-1)).toNat<ns.length:=by omega
 rw[SF,SV hi];exact VM hi
def wj (τ:bt)(am:Int):Int:=vg (tick τ) [0,am,dO τ am]
theorem ab2(τ:bt){am:Int}(h:0<=am):0<=wj τ am/\wj τ am<=am:=by
 have r:=mZ τ am;have:=Iu (tick τ) (ns:=[0,am,dO τ am]) (by simp);unfold wj;simp only[SK,SU,or_false]at this;omega
def ld (τ:bt)(first am:Int):Nat->List Int×bt
 |0=>([first],τ)
 |i+1=>((ld τ first am i).1++[(ld τ first am i).1.getD i 0+wj (ld τ first am i).2 am],tick (tick (ld τ first am i).2))
structure mC (first am:Int)(l:List Int)(i:Nat):Prop where
 len:l.length=i+1
 head:l.getD 0 0=first
 step:∀j,j<i->l.getD j 0<=l.getD (j+1) 0/\l.getD (j+1) 0<=l.getD j 0+am
theorem El{l:List Int}{v:Int}{j:Nat}(h:j<l.length):(l++[v]).getD j 0=l.getD j 0:=by
 rw[SF,SF,SY h]
theorem aix{l:List Int}{v:Int}{j:Nat}(h:l.length=j):(l++[v]).getD j 0=v:=by
 subst h;rw[SF,Tg (SO _),UP];rfl
theorem QN(τ:bt)(first:Int){am:Int}(h:0<=am):∀i,mC first am (ld τ first am i).1 i
 |0=>⟨rfl,rfl,λj hj=>by omega⟩
 |i+1=>by
  have ih:=QN τ first h i
  rw[ld];have hs:=ab2 (ld τ first am i).2 h;generalize wj (ld τ first am i).2 am=v at hs⊢;generalize(ld τ first am i).1=l at ih⊢;have hl:=ih.len;refine⟨by rw[SQ,hl];rfl,by rw[El (by omega)];exact ih.head,λj hj=> ?_⟩;by_cases cp:j<i
  ·rw[El (by omega),El (by omega)];exact ih.step j cp
  ·have:j=i:=(by omega);subst this;rw[El (by omega),aix (by omega)];omega
theorem QO{τ:bt}{b:Int}(h:τ.Ok b)(first am:Int):∀i:Nat,(ld τ first am i).2.Ok (b+2* i)
 |0=>h.mono (by simp)
 |i+1=>(QO h first am i).tick.tick.mono (by simp;omega)
theorem mC.ge{first am:Int}{l:List Int}{i:Nat}(h:mC first am l i)(hp:0<=am):∀j,j<=i->first<=l.getD j 0/\l.getD j 0<=first+am* j
 |0,_=>by rw[h.head];simp
 |j+1,hj=>by
  have ih:=h.ge hp j (by omega);have:=h.step j (by omega);have e:am* ((j+1:Nat):Int)=am* j+am:=by rw[Int.natCast_add,Int.mul_add];simp
  omega
def kN (first:Int)(order:List Int)(i:Nat):List Int:=(SX i).map λj=>first+order.getD j 0
theorem aaD(first:Int)(order:List Int)(i:Nat):kN first order (i+1)=kN first order i++[first+order.getD i 0]:=by
 unfold kN;rw[UV,Tv];rfl
theorem aaC(first:Int)(order:List Int)(i:Nat):(kN first order i).length=i:=by simp[kN]
def kE (h:List Int)(hours:Int)(num:Nat->Int)(τ:bt):Nat->List aG×bt
 |0=>([],τ)
 |i+1=>((kE h hours num τ i).1++[lG (tick (kE h hours num τ i).2) h (num i) hours],tick (tick (tick (tick (tick (kE h hours num τ i).2)))))
theorem yV(h:List Int)(hours:Int)(num:Nat->Int)(τ:bt):∀i,(kE h hours num τ i).1.length=i
 |0=>rfl
 |i+1=>by rw[kE,SQ,yV h hours num τ i];rfl
theorem Jp{τ:bt}{b:Int}(hτ:τ.Ok b)(h:List Int)(hours:Int)(num:Nat->Int):∀i:Nat,(kE h hours num τ i).2.Ok (b+5* i)
 |0=>hτ.mono (by simp)
 |i+1=>(Jp hτ h hours num i).tick.tick.tick.tick.tick.mono (by simp;omega)
def rN (h:List Int)(hours:Int)(τ:bt):Nat->List Seen×bt
 |0=>([],τ)
 |i+1=>((rN h hours τ i).1++[⟨dO (rN h hours τ i).2 hours,mG (tick (rN h hours τ i).2) (h.getD (dO (rN h hours τ i).2 hours).toNat 0) 1 0 99⟩],tick (tick (tick (rN h hours τ i).2)))
theorem abx(h:List Int)(hours:Int)(τ:bt):∀i,(rN h hours τ i).1.length=i
 |0=>rfl
 |i+1=>by rw[rN,SQ,abx h hours τ i];rfl
theorem abz{τ:bt}{b:Int}(hτ:τ.Ok b)(h:List Int)(hours:Int):∀i:Nat,(rN h hours τ i).2.Ok (b+3* i)
 |0=>hτ.mono (by simp)
 |i+1=>(abz hτ h hours i).tick.tick.tick.mono (by simp;omega)
theorem aby{h:List Int}{hours:Int}{τ:bt}(hu:∀τ,0<=dO τ hours/\dO τ hours<=hours):∀i,∀s∈(rN h hours τ i).1,0<=s.hour/\s.hour<=hours/\∃σ,s.next=mG σ (h.getD s.hour.toNat 0) 1 0 99
 |0,s,hs=>by cases hs
 |i+1,s,hs=>by
  rw[rN]at hs;rcases SN.1 hs with hs|hs
  ·exact aby hu i s hs
  ·rw[S5]at hs;subst hs;exact⟨(hu _).1,(hu _).2,_,rfl⟩
structure Dy (h:List Int)(hours n:Int)(y:aG):Prop where
 num:uQ y.number 99
 hour:uQ y.hour (hours-1)
 fits:fits h y n=true
theorem Jo{h:List Int}{hours:Int}{num:Nat->Int}{τ:bt}{P:Int->aG->Prop}(hP:∀τ n,P n (lG τ h n hours)):∀i j y,(kE h hours num τ i).1[j]?=some y->P (num j) y
 |0,j,y,hy=>by cases hy
 |i+1,j,y,hy=>by
  rw[kE]at hy;have hl:=yV h hours num τ i;by_cases hj:j<i
  ·rw[SY (by omega)]at hy;exact Jo hP i j y hy
  ·rw[Tg (by omega),hl]at hy;have:j=i:=(by have:=(SM.1 hy).1;simp at this;omega);subst this;rw[UP]at hy;cases hy;exact hP _ _
section
variable {lv:Bool}{P:Program}{r:Option Nat}{s:AS}
theorem HK{nt:Nat}{x y:Code}{α:Type}{Φ Ψ:ao->AS->Prop}(inv:α->AS)(ok:α->Prop)(h1:aY lv P r nt x s (ao.then (λs'=>∃a,ok a/\s'.Sub (inv a)) Ψ))(h2:∀a,ok a->aY lv P r nt y (inv a) Φ):aY lv P r nt x s (ao.then (λs'=>aY lv P r nt y s' Φ) Ψ):=
 h1.mono λe s' h=>by
  cases e with
  |normal=>
   obtain⟨a,h3,h4⟩:=h;exact mJ h4 (h2 a h3)
  |_=>exact h
end
theorem Nj:gU (SG .i64 0) 3=[iv 0,iv 0,iv 0]:=rfl
theorem zE4:gU (SG .i64 0) 4=[iv 0,iv 0,iv 0,iv 0]:=rfl
theorem Hh:gU (Tw #[SG .i64 0,SG .i64 0,SG .i64 0,SG .i64 0]) 4=[iv 0,iv 0,iv 0,iv 0]:=rfl
theorem zS1:gU (Tw #[SG .i64 0,SG .i64 0,SG .i64 0]) 3=[iv 0,iv 0,iv 0]:=rfl
theorem CV:(3<=2^24)=True:=eq_true (by decide)
theorem zY:(4<=2^24)=True:=eq_true (by decide)
theorem zX:(1<=2^24)=True:=eq_true (by decide)
theorem acP{first am w v:Int}{i:Nat}(h1:first<=w/\w<=first+am* i)(h2:0<=v/\v<=am)(hf:0<=first/\first<=90)(hp:1<=am/\am<=3)(hi:i<=3):0<=w+v/\w+v<=1000:=by
 have:am* (i:Int)<=3* 3:=Xx (by omega) (by omega) (by omega) (by omega);generalize am* (i:Int)=q at h1 this;omega
theorem KV{n:Int}(h:0<=n/\n<=1000):SE.wrap n=n:=bD _ (by omega)
theorem MW(h:List Int)(n:Int):∀m:Nat, -1<=lX h n m/\lX h n m<m
 |0=>by simp[lX]
 |m+1=>by
  have:=MW h n m;unfold lX;split
  ·omega
  ·omega
theorem IV:∀l:List aG,(l.flatMap aG.l).length=l.length* 4
 |[]=>rfl
 |a::l=>by rw[Ua,SQ,IV l,aG.len,T7];omega
theorem Po:∀l:List Seen,(l.flatMap Seen.l).length=l.length* 3
 |[]=>rfl
 |a::l=>by rw[Ua,SQ,Po l,Seen.len,T7];omega
theorem IW{α:Type}{f:α->List AV}{l:List α}{a:α}:(l++[a]).flatMap f=l.flatMap f++f a:=by rw[U1];simp
theorem amn{α:Type}{f:Nat->α}{l:List α}{n:Nat}(hl:l.length=n)(h:∀i,i<n->l[i]?=some (f i)):(SX n).map f=l:=by
 refine Zw λi=> ?_;rw[Ti];by_cases hi:i<n
 ·rw[YV hi,UB,h i hi]
 ·rw[Us (by simp;omega),Us (by omega)];rfl
def Nr (a b:Nat):Prop:=(if(a:Int)<(b:Int)then(a:Int)else(b:Int))=((min b a:Nat):Int)
theorem aaq(a b:Nat):Nr a b:=by unfold Nr;split<;>omega
structure Made (pm:Nat)(x:ai)(bH aA b9:List Int):Prop where
 first:0<=x.first/\x.first<=90
 hours:1<=x.hours/\x.hours<=3
 am:1<=x.am/\x.am<=3
 EX:mC x.first x.am bH x.hours.toNat
 amz:x.pieces.length<=pm
 xQ:aA.length=x.pieces.length
 num:∀n∈aA,x.first<=n/\n<bH.getD x.hours.toNat 0
 LM:aA.Nodup
 piece:∀(p:Nat) y,x.pieces[p]?=some y->∃τ,y=lG τ bH (aA.getD p 0) x.hours
 zW:b9.length=x.aB.length
 aB:x.aB.length<=3
 own:∀v∈b9,0<=v/\v<(aA.length:Int)
 LV:b9.Nodup
 stub:∀(s:Nat) y,x.aB[s]?=some y->∃τ,y=lG τ bH (aA.getD (b9.getD s 0).toNat 0) x.hours
 Ac:x.seen.length<=2
 seen:∀s∈x.seen,0<=s.hour/\s.hour<=x.hours/\∃τ,s.next=mG τ (bH.getD s.hour.toNat 0) 1 0 99
structure AP (Gf:bt->List aa)(N:Nat)(zc:aa)(YY:List AV->Nat->Nat->Nat->Nat->Nat->List aa):Prop where
 len:∀r a b c d e,(YY r a b c d e).length=8
 y0:∀τ r a b c d e,(Gf τ++YY r a b c d e)[N]?=some zc
 y1:∀τ r a b c d e,(Gf τ++YY r a b c d e)[N+1]?=some (.cells r 26)
 y3:∀τ r a b c d e,(Gf τ++YY r a b c d e)[N+3]?=some (.tail a 4 48)
 y4:∀τ r a b c d e,(Gf τ++YY r a b c d e)[N+4]?=some (.tail b 4 48)
 y5:∀τ r a b c d e,(Gf τ++YY r a b c d e)[N+5]?=some (.tail c 3 61)
 y6:∀τ r a b c d e,(Gf τ++YY r a b c d e)[N+6]?=some (.tail d 1 3)
 y7:∀τ r a b c d e,(Gf τ++YY r a b c d e)[N+7]?=some (.tail e 1 3)
 z1:∀τ r r' a b c d e,(Gf τ++YY r a b c d e).set (N+1) (.cells r' 26)=Gf τ++YY r' a b c d e
 z3:∀τ r a a' b c d e,(Gf τ++YY r a b c d e).set (N+3) (.tail a' 4 48)=Gf τ++YY r a' b c d e
 z4:∀τ r a b b' c d e,(Gf τ++YY r a b c d e).set (N+4) (.tail b' 4 48)=Gf τ++YY r a b' c d e
 z5:∀τ r a b c c' d e,(Gf τ++YY r a b c d e).set (N+5) (.tail c' 3 61)=Gf τ++YY r a b c' d e
 z6:∀τ r a b c d d' e,(Gf τ++YY r a b c d e).set (N+6) (.tail d' 1 3)=Gf τ++YY r a b c d' e
 s0:∀r a b c d e y,∃L,(YY r a b c d e).set 0 y=y::L
 z7:∀τ r a b c d e e',(Gf τ++YY r a b c d e).set (N+7) (.tail e' 1 3)=Gf τ++YY r a b c d e'
noncomputable def va:Code:=WT.body.getD .skip
def tM:Nat->Code->Code
 |0,c=>c
 |n+1,c=>tM n (cs c)
section
variable {lv:Bool}{k kp:AV->List aa->Prop}{Gf:bt->List aa}{t N:Nat}{b:Int}
theorem ag5{pm i mn:Nat}{first am:Int}{l order:List Int}{ρ:bt}{zc:aa}{YY:List AV->Nat->Nat->Nat->Nat->Nat->List aa}{Ψ:ao->AS->Prop}(hT:ew Gf t N)(hY:AP Gf N zc YY)(hb:b<2^10)(sO:pm<=4)(hi:1<=i/\i<=3)(re:0<=first/\first<=90)(jh:l.length=i+1)(Ra:mn<=9)(qb:Hu order mn)(qg:ρ.Ok (b+19)):
  aY lv SD none 240 (cs (cf (tM 7 va))) ⟨[(17,iv 0),(16, .sl 0 [] (.opn (N+7))),(15, .sl 0 [] (.opn (N+6))),(14,bu order),(13,iv mn),(11, .sl (i+1) (l.map iv) (.opn (N+2))),(10, .op (N+1) 0),(6, .op N 0),(0, .op t 0),(1,iv pm),(2,bv true)],Gf ρ++YY [iv first,iv i,iv am, .sl 0 [] (.opn (N+5)), .sl 0 [] (.opn (N+3)), .sl 0 [] (.opn (N+4))] 0 0 0 0 0⟩ (ao.then (λs'=>∃y:Nat×bt,(y.1<=pm/\y.1<=mn/\y.2.Ok (b+60))/\s'.Sub ⟨[(16, .sl 0 [] (.opn (N+7))),(15, .sl y.1 ((kN first order y.1).map iv) (.opn (N+6))),(13,iv mn),(11, .sl (i+1) (l.map iv) (.opn (N+2))),(10, .op (N+1) 0),(6, .op N 0),(0, .op t 0),(2,bv true)],Gf y.2++YY [iv first,iv i,iv am, .sl 0 [] (.opn (N+5)), .sl y.1 ((kE l i (λj=>first+order.getD j 0) ρ y.1).1.flatMap aG.l) (.opn (N+3)), .sl 0 [] (.opn (N+4))] y.1 0 0 y.1 0⟩) Ψ):=by
 obtain⟨yS,y0,y1,y3,y4,y5,y6,y7,uN,Dj,Dk,Dl,Hd,dV,He⟩:=hY;have mM:∀L:List aa,ew (λτ=>Gf τ++L) t (N+L.length):=λL=>hT.more L;obtain⟨hv,ze⟩:∃hv:Nat->List aG×bt,∀j,hv j=kE l i (λj=>first+order.getD j 0) ρ j:=⟨_,λ_=>rfl⟩;simp only[<- ze];have hvl:∀j,(hv j).1.length=j:=λj=>by rw[ze];exact yV _ _ _ _ _
 have hvt:∀j:Nat,(hv j).2.Ok (b+19+5* j):=λj=>by rw[ze];exact(Jp qg _ _ _ j).mono (by omega)
 have cW:hv 0=([],ρ):=ze 0;unfold va WT;dsimp only[S6,tM,cs,cf];have Fa:=aaq mn pm;refine cN ?_;refine gM (min pm mn) (λj:Nat=>[(15, .sl j ((kN first order j).map iv) (.opn (N+6))),(17,iv j)]) (λj=>Gf (hv j).2++YY [iv first,iv i,iv am, .sl 0 [] (.opn (N+5)), .sl j ((hv j).1.flatMap aG.l) (.opn (N+3)), .sl 0 [] (.opn (N+4))] j 0 0 j 0) (λ_=>True) (λ_ _=>rfl) (by simp only[kN,YJ,List.map_nil];simp only[seval];simp[bB,Wk.refl]) (by rw[cW];rfl) (λ_ _ _=>by simp[hT.len,yS]) trivial (λcm dF j o_ _ R hR=> ?_);clear cm dF;have lm:=hvt j;by_cases fy:j<min pm mn
 ·have hd:decide ((j:Int)<((min pm mn:Nat):Int))=true:=by simpa using fy
  refine aj ?_;simp only[seval,show (if(mn:Int)<(pm:Int)then(mn:Int)else(pm:Int))=((min pm mn:Nat):Int)from Fa,hd];have e_:hv (j+1)=((hv j).1++[lG (tick (hv j).2) l (first+order.getD j 0) i],tick (tick (tick (tick (tick (hv j).2))))):=by rw[ze,ze];rfl
  have rA:=hvl j;generalize EV:hv j=hj at lm e_ rA⊢;obtain⟨ps,ρj⟩:=hj;dsimp only at lm e_ rA⊢;refine aL ((O_ (n:=6) (mM _) lm (by omega) (by decide) ?_));(try simp only[seval]);refine aC ?_;refine⟨λhc=> ?_,λhc=> ?_⟩
  ·obtain⟨o,ho⟩:=cG (xs:=order) (i:=j) (by rw[qb.len];omega);have hor:=qb.Gw o (v7 ho);have hgo:order.getD j 0=o:=(by rw[SF,ho];rfl);rw[hgo]at e_;have KP:SE.wrap (first+o)=first+o:=KV (by omega)
   have xu:SE.wrap ((j:Int)+1)=((j+1:Nat):Int):=(by rw[bD _ (by omega)];rfl);have nz:(0<=(j:Int)/\(j:Int)<(order.length:Int))=True:=(by simp[qb.len];omega);have jY:=aaC first order j
   have B8:UK iv (kN first order j)++[AV.val (SG SE (first+o))]=(kN first order (j+1)).map iv:=(by rw[aaD,hgo,Tv];rfl);have B7:(kN first order (j+1))[j]?=some (first+o):=(by rw[aaD,hgo,Tg (by omega),jY,UP];rfl);have tY:(0<=(j:Int)/\(j:Int)<(j:Int)+1)=True:=(by simp;omega);refine aP ?_;refine cN ?_;refine eS 9 ?_;simp only[seval,z1,zX,y1,y6,Hd,bu,h_ ho,nz,KP,jY];refine⟨by omega, ?_⟩;rw[B8];obtain⟨n,hn⟩:∃n,n=first+o:=⟨_,rfl⟩
   rw[<- hn]at B7 e_;have qi:=MW l n i;have wQ:=λ(L:List aa) k kp=>Pa (lv:=lv) (k:=k) (kp:=kp) (h:=l) (n:=n) (hours:=i) (e:= .opn (N+2)) (mM L) lm.tick (by omega) (by omega) (by omega) (by omega) (by rw[jh,VA];omega);simp only[jh]at wQ;obtain⟨y,hy⟩:∃y,y=lG (tick ρj) l n i:=⟨_,rfl⟩;rw[<- hy]at e_ wQ;obtain⟨FP,qX⟩:∃FP,FP=ps.flatMap aG.l:=⟨_,rfl⟩;have vq:FP.length=j* 4:=(by rw[qX,IV,rA]);have Bv:FP++aG.l y=(hv (j+1)).1.flatMap aG.l:=(by rw[e_,IW,qX]);rw[<- qX];refine qM [10,12,14] [0,1,2,3,4,5,6,7,8,9,10,11,12,13,14] [⟨0,false,[],[([10],[10])]⟩,⟨1,false,[],[([10],[10])]⟩,⟨2,false,[],[]⟩,⟨3,false,[],[]⟩,⟨4,false,[],[]⟩,⟨5,false,[],[]⟩,⟨6,false,[],[]⟩,⟨7,false,[],[]⟩,⟨8,false,[],[]⟩,⟨9,false,[],[]⟩,⟨10,true,[10],[]⟩,⟨11,false,[10],[]⟩,⟨12,true,[10,12],[]⟩,⟨13,false,[10,12],[]⟩,⟨14,true,[10,12,14],[]⟩] (λD=>bif isDone 14 D then Gf (tick (tick (tick (tick (tick ρj)))))++YY [iv first,iv i,iv am, .sl 0 [] (.opn (N+5)), .sl (j+1) (FP++aG.l y) (.opn (N+3)), .sl 0 [] (.opn (N+4))] (j+1) 0 0 (j+1) 0 else bif isDone 12 D then Gf (tick (tick (tick (tick (tick ρj)))))++YY [iv first,iv i,iv am, .sl 0 [] (.opn (N+5)), .sl j FP (.opn (N+3)), .sl 0 [] (.opn (N+4))] (j+1) 0 0 (j+1) 0 else bif isDone 10 D then Gf (tick (tick (tick (tick (tick ρj)))))++YY [iv first,iv i,iv am, .sl 0 [] (.opn (N+5)), .sl j FP (.opn (N+3)), .sl 0 [] (.opn (N+4))] j 0 0 (j+1) 0 else Gf (tick ρj)++YY [iv first,iv i,iv am, .sl 0 [] (.opn (N+5)), .sl j FP (.opn (N+3)), .sl 0 [] (.opn (N+4))] j 0 0 (j+1) 0) ?_;simp only[seval,Hh,zY,y1,y3,uN,Dj,h_ B7,tY,vq];have Cs:y.l=[iv y.number.min,iv y.number.max,iv y.hour.min,iv y.hour.max]:=rfl;refine kW y.av _ (bT (wQ _ _ _ ⟨rfl,rfl⟩)) ?_;(try simp only[seval,Hh,zY,y1,y3,uN,Dj,h_ B7,tY,vq,aG.av,Cs]);refine⟨by omega, ?_⟩;refine aj ?_;simp only[seval,xu];refine hR _ ⟨by omega,trivial, ?_⟩;rw[<- Bv,e_];exact dR
  ·refine cq ?_;exact⟨(j,tick ρj),⟨by dsimp only;omega,by dsimp only;omega,lm.tick.mono (by omega)⟩,fW (by simp only[seval];simp[bB,Wk.refl]) (by rw[EV])⟩
 ·have hd:decide ((j:Int)<((min pm mn:Nat):Int))=false:=by simpa using fy
  refine aj ?_;simp only[seval,show (if(mn:Int)<(pm:Int)then(mn:Int)else(pm:Int))=((min pm mn:Nat):Int)from Fa,hd];refine aC ?_;refine cq ?_;exact⟨(j,(hv j).2),⟨by dsimp only;omega,by dsimp only;omega,lm.mono (by omega)⟩,fW (by simp only[seval];simp[bB,Wk.refl]) rfl⟩
theorem ag1{i np:Nat}{first am w:Int}{l aA ie:List Int}{dI:List aG}{ρ2:bt}{zc:aa}{YY:List AV->Nat->Nat->Nat->Nat->Nat->List aa}{Ψ:ao->AS->Prop}(hT:ew Gf t N)(hY:AP Gf N zc YY)(hb:b<2^10)(hi:1<=i/\i<=3)(re:0<=first/\first<=90)(FD:first<=w/\w<=first+9)(jh:l.length=i+1)(B_:np<=4)(jY:aA.length=np)(ui:∀n∈aA,first<=n/\n<w)(sP:Hu ie np)(xG:ρ2.Ok (b+64)):
  aY lv SD none 240 (cs (cf (tM 9 va))) ⟨[(19,iv 0),(18, .sl np (ie.map iv) .shut),(16, .sl 0 [] (.opn (N+7))),(15, .sl np (aA.map iv) (.opn (N+6))),(11, .sl (i+1) (l.map iv) (.opn (N+2))),(10, .op (N+1) 0),(6, .op N 0),(0, .op t 0),(2,bv true)],Gf ρ2++YY [iv first,iv i,iv am, .sl 0 [] (.opn (N+5)), .sl np (dI.flatMap aG.l) (.opn (N+3)), .sl 0 [] (.opn (N+4))] np 0 0 np 0⟩ (ao.then (λs'=>∃y:Nat×bt,(y.1<=np/\y.1<=3/\y.2.Ok (b+90))/\s'.Sub ⟨[(16, .sl y.1 ((ie.take y.1).map iv) (.opn (N+7))),(15, .sl np (aA.map iv) (.opn (N+6))),(11, .sl (i+1) (l.map iv) (.opn (N+2))),(10, .op (N+1) 0),(6, .op N 0),(0, .op t 0),(2,bv true)],Gf y.2++YY [iv first,iv i,iv am, .sl 0 [] (.opn (N+5)), .sl np (dI.flatMap aG.l) (.opn (N+3)), .sl y.1 ((kE l i (λj=>aA.getD (ie.getD j 0).toNat 0) ρ2 y.1).1.flatMap aG.l) (.opn (N+4))] np y.1 0 np y.1⟩) Ψ):=by
 obtain⟨yS,y0,y1,y3,y4,y5,y6,y7,uN,Dj,Dk,Dl,Hd,dV,He⟩:=hY;have mM:∀L:List aa,ew (λτ=>Gf τ++L) t (N+L.length):=λL=>hT.more L;obtain⟨hw,zf⟩:∃hw:Nat->List aG×bt,∀j,hw j=kE l i (λj=>aA.getD (ie.getD j 0).toNat 0) ρ2 j:=⟨_,λ_=>rfl⟩;simp only[<- zf];have rC:∀j,(hw j).1.length=j:=λj=>by rw[zf];exact yV _ _ _ _ _
 have up:∀j:Nat,(hw j).2.Ok (b+64+5* j):=λj=>by rw[zf];exact Jp xG _ _ _ j
 have xF:hw 0=([],ρ2):=zf 0;have RU:=sP.len;unfold va WT;dsimp only[S6,tM,cs,cf];have Q8:=aaq 3 np;refine cN ?_;refine gM (min np 3) (λj:Nat=>[(16, .sl j ((ie.take j).map iv) (.opn (N+7))),(19,iv j)]) (λj=>Gf (hw j).2++YY [iv first,iv i,iv am, .sl 0 [] (.opn (N+5)), .sl np (dI.flatMap aG.l) (.opn (N+3)), .sl j ((hw j).1.flatMap aG.l) (.opn (N+4))] np j 0 np j) (λ_=>True) (λ_ _=>rfl) (by simp only[seval];simp[bB,Wk.refl]) (by rw[xF];rfl) (λ_ _ _=>by simp[hT.len,yS]) trivial (λcm dF j o_ _ R hR=> ?_);clear cm dF;have lm:=up j;by_cases fy:j<min np 3
 ·have hd:decide ((j:Int)<((min np 3:Nat):Int))=true:=by simpa using fy
  refine aj ?_;simp only[seval,bu,RU,show (if(3:Int)<(np:Int)then(3:Int)else(np:Int))=((min np 3:Nat):Int)from Q8,hd];have e_:hw (j+1)=((hw j).1++[lG (tick (hw j).2) l (aA.getD (ie.getD j 0).toNat 0) i],tick (tick (tick (tick (tick (hw j).2))))):=by rw[zf,zf];rfl
  have rA:=rC j;generalize EV:hw j=hj at lm e_ rA⊢;obtain⟨ts,ρj⟩:=hj;dsimp only at lm e_ rA⊢;refine aL ((O_ (n:=3) (mM _) lm (by omega) (by decide) ?_));(try simp only[seval]);refine aC ?_;refine⟨λhc=> ?_,λhc=> ?_⟩
  ·obtain⟨v,nN⟩:=cG (xs:=ie) (i:=j) (by omega);have hvr:=sP.Gw v (v7 nN);obtain⟨v,rfl⟩:∃v':Nat,v=v':=⟨v.toNat,by omega⟩;have BY:ie.getD j 0=v:=(by rw[SF,nN];rfl);rw[BY,U8]at e_;obtain⟨n,Fe⟩:=cG (xs:=aA) (i:=v) (by omega);have ER:aA.getD v 0=n:=(by rw[SF,Fe];rfl);rw[ER]at e_;have rq:=ui n (v7 Fe);have xu:SE.wrap ((j:Int)+1)=((j+1:Nat):Int):=(by rw[bD _ (by omega)];rfl);have tY:(0<=(j:Int)/\(j:Int)<(np:Int))=True:=(by simp;omega);have yZ:(0<=(v:Int)/\(v:Int)<(np:Int))=True:=(by simp;omega);have aF:(ie.take j).length=j:=(by rw[TW];omega);have akL:(ie.take j).map iv++[AV.val (SG SE v)]=(ie.take (j+1)).map iv:=(by rw[Vh,nN,Tv];rfl);refine aP ?_;refine aj ?_;simp only[seval,z1,zX,y7,He,h_ nN,tY,aF];refine⟨by omega, ?_⟩;rw[akL];have qi:=MW l n i;have wQ:=λ(L:List aa) k kp=>Pa (lv:=lv) (k:=k) (kp:=kp) (h:=l) (n:=n) (hours:=i) (e:= .opn (N+2)) (mM L) lm.tick (by omega) (by omega) (by omega) (by omega) (by rw[jh,VA];omega);simp only[jh]at wQ;obtain⟨y,hy⟩:∃y,y=lG (tick ρj) l n i:=⟨_,rfl⟩;rw[<- hy]at e_ wQ;obtain⟨FP,qX⟩:∃FP,FP=ts.flatMap aG.l:=⟨_,rfl⟩;have vq:FP.length=j* 4:=(by rw[qX,IV,rA]);have Bv:FP++aG.l y=(hw (j+1)).1.flatMap aG.l:=(by rw[e_,IW,qX]);rw[<- qX];refine qM [13,15,17] [0,1,2,3,4,5,6,7,8,9,10,11,12,13,14,15,16,17] [⟨0,false,[],[([13],[13])]⟩,⟨1,false,[],[([13],[13])]⟩,⟨2,false,[],[]⟩,⟨3,false,[],[]⟩,⟨4,false,[],[]⟩,⟨5,false,[],[]⟩,⟨6,false,[],[]⟩,⟨7,false,[],[]⟩,⟨8,false,[],[]⟩,⟨9,false,[],[]⟩,⟨10,false,[],[]⟩,⟨11,false,[],[]⟩,⟨12,false,[],[]⟩,⟨13,true,[13],[]⟩,⟨14,false,[13],[]⟩,⟨15,true,[13,15],[]⟩,⟨16,false,[13,15],[]⟩,⟨17,true,[13,15,17],[]⟩] (λD=>bif isDone 17 D then Gf (tick (tick (tick (tick (tick ρj)))))++YY [iv first,iv i,iv am, .sl 0 [] (.opn (N+5)), .sl np (dI.flatMap aG.l) (.opn (N+3)), .sl (j+1) (FP++aG.l y) (.opn (N+4))] np (j+1) 0 np (j+1)else bif isDone 15 D then Gf (tick (tick (tick (tick (tick ρj)))))++YY [iv first,iv i,iv am, .sl 0 [] (.opn (N+5)), .sl np (dI.flatMap aG.l) (.opn (N+3)), .sl j FP (.opn (N+4))] np (j+1) 0 np (j+1)else bif isDone 13 D then Gf (tick (tick (tick (tick (tick ρj)))))++YY [iv first,iv i,iv am, .sl 0 [] (.opn (N+5)), .sl np (dI.flatMap aG.l) (.opn (N+3)), .sl j FP (.opn (N+4))] np j 0 np (j+1)else Gf (tick ρj)++YY [iv first,iv i,iv am, .sl 0 [] (.opn (N+5)), .sl np (dI.flatMap aG.l) (.opn (N+3)), .sl j FP (.opn (N+4))] np j 0 np (j+1)) ?_;simp only[seval,Hh,zY,y1,y4,uN,Dk,h_ nN,tY,h_ Fe,yZ,vq,bu,jY];have Cs:y.l=[iv y.number.min,iv y.number.max,iv y.hour.min,iv y.hour.max]:=rfl;refine kW y.av _ (bT (wQ _ _ _ ⟨rfl,rfl⟩)) ?_;(try simp only[seval,Hh,zY,y1,y4,uN,Dk,h_ nN,tY,h_ Fe,yZ,vq,bu,jY,aG.av,Cs]);refine⟨by omega, ?_⟩;refine aj ?_;simp only[seval,xu];refine hR _ ⟨by omega,trivial, ?_⟩;rw[<- Bv,e_];exact dR
  ·refine cq ?_;exact⟨(j,tick ρj),⟨by dsimp only;omega,by dsimp only;omega,lm.tick.mono (by omega)⟩,fW (by simp only[seval];simp[bB,Wk.refl]) (by rw[EV])⟩
 ·have hd:decide ((j:Int)<((min np 3:Nat):Int))=false:=by simpa using fy
  refine aj ?_;simp only[seval,bu,RU,show (if(3:Int)<(np:Int)then(3:Int)else(np:Int))=((min np 3:Nat):Int)from Q8,hd];refine aC ?_;refine cq ?_;exact⟨(j,(hw j).2),⟨by dsimp only;omega,by dsimp only;omega,lm.mono (by omega)⟩,fW (by simp only[seval];simp[bB,Wk.refl]) rfl⟩
theorem ag4{i np ns cn:Nat}{first am:Int}{l aA b9:List Int}{dI fD:List aG}{ρ4:bt}{zc:aa}{YY:List AV->Nat->Nat->Nat->Nat->Nat->List aa}{Ψ:ao->AS->Prop}(hT:ew Gf t N)(hY:AP Gf N zc YY)(hb:b<2^10)(hi:1<=i/\i<=3)(re:0<=first/\first<=90)(vS:1<=am/\am<=3)(ay:mC first am l i)(gY:cn<=2)(FJ:ρ4.Ok (b+91)):
  aY lv SD none 240 (cs (cf (tM 10 va))) ⟨[(20,iv cn),(16, .sl ns (b9.map iv) (.opn (N+7))),(15, .sl np (aA.map iv) (.opn (N+6))),(11, .sl (i+1) (l.map iv) (.opn (N+2))),(10, .op (N+1) 0),(6, .op N 0),(0, .op t 0),(2,bv true)],Gf ρ4++YY [iv first,iv i,iv am, .sl 0 [] (.opn (N+5)), .sl np (dI.flatMap aG.l) (.opn (N+3)), .sl ns (fD.flatMap aG.l) (.opn (N+4))] np ns 0 np ns⟩ (ao.then (λs'=>∃y:List Seen×bt,(y.1.length<=2/\(∀s∈y.1,0<=s.hour/\s.hour<=i/\∃τ,s.next=mG τ (l.getD s.hour.toNat 0) 1 0 99)/\y.2.Ok (b+97))/\s'.Sub ⟨[(16, .sl ns (b9.map iv) (.opn (N+7))),(15, .sl np (aA.map iv) (.opn (N+6))),(11, .sl (i+1) (l.map iv) (.opn (N+2))),(10, .op (N+1) 0),(6, .op N 0),(0, .op t 0),(2,bv true)],Gf y.2++YY [iv first,iv i,iv am, .sl y.1.length (y.1.flatMap Seen.l) (.opn (N+5)), .sl np (dI.flatMap aG.l) (.opn (N+3)), .sl ns (fD.flatMap aG.l) (.opn (N+4))] np ns y.1.length np ns⟩) Ψ):=by
 obtain⟨yS,y0,y1,y3,y4,y5,y6,y7,uN,Dj,Dk,Dl,Hd,dV,He⟩:=hY;have mM:∀L:List aa,ew (λτ=>Gf τ++L) t (N+L.length):=λL=>hT.more L;have jh:=ay.len;unfold va WT;dsimp only[S6,tM,cs,cf];obtain⟨hz,zg⟩:∃hz:Nat->List Seen×bt,∀j,hz j=rN l i ρ4 j:=⟨_,λ_=>rfl⟩;have mS:∀j,(hz j).1.length=j:=λj=>by rw[zg];exact abx _ _ _ _
 have KT:∀j:Nat,(hz j).2.Ok (b+91+3* j):=λj=>by rw[zg];exact(abz FJ _ _ j).mono (by omega)
 have iD:hz 0=([],ρ4):=zg 0;refine cN ?_;refine gM cn (λj:Nat=>[(20,iv ((cn:Int)-j))]) (λj=>Gf (hz j).2++YY [iv first,iv i,iv am, .sl j ((hz j).1.flatMap Seen.l) (.opn (N+5)), .sl np (dI.flatMap aG.l) (.opn (N+3)), .sl ns (fD.flatMap aG.l) (.opn (N+4))] np ns j np ns) (λ_=>True) (λ_ _=>rfl) (by simp only[seval];simp[bB,Wk.refl]) (by rw[iD];rfl) (λ_ _ _=>by simp[hT.len,yS]) trivial (λcm dF j o_ _ R hR=> ?_);clear cm dF;have lm:=KT j;refine ak ?_;refine aC ?_;refine⟨λhc=> ?_,λhc=> ?_⟩
 ·have fy:j<cn:=by omega
  have e_:hz (j+1)=((hz j).1++[⟨dO (hz j).2 i,mG (tick (hz j).2) (l.getD (dO (hz j).2 i).toNat 0) 1 0 99⟩],tick (tick (tick (hz j).2))):=by rw[zg,zg];rfl
  have rA:=mS j;generalize EV:hz j=hj at lm e_ rA⊢;obtain⟨ss,ρj⟩:=hj;dsimp only at lm e_ rA⊢;have hur:=mZ ρj i;obtain⟨u,hu⟩:∃u:Nat,dO ρj i=u:=⟨(dO ρj i).toNat,by omega⟩;rw[hu,U8]at e_;have hui:u<=i:=by omega
  obtain⟨n,J9⟩:=cG (xs:=l) (i:=u) (by omega);have ER:l.getD u 0=n:=by rw[SF,J9];rfl
  rw[ER]at e_;have rq:=ay.ge (by omega) u hui;rw[ER]at rq;have asz:0<=n/\n<=1000:=by
   have:=acP (v:=0) rq (by omega) re vS (by omega);omega
  have xu:SE.wrap ((cn:Int)-j-1)=(cn:Int)-((j+1:Nat):Int):=by rw[bD _ (by omega)];omega
  have Qj:(0<=(u:Int)/\(u:Int)<(i:Int)+1)=True:=by simp;omega
  refine aP ?_;refine aj ?_;simp only[seval,y1];refine aL ((sw (n:=i) (mM _) lm (by omega) (by omega) ?_));rw[hu];(try simp only[seval]);have Ob:=λ(L:List aa) k kp=>IE (lv:=lv) (k:=k) (kp:=kp) (n:=n) (m:=1) (lo:=0) (hi:=99) (mM L) lm.tick (by omega) (by omega) (by decide);obtain⟨y,hy⟩:∃y,y=mG (tick ρj) n 1 0 99:=⟨_,rfl⟩;rw[<- hy]at e_ Ob;obtain⟨FP,qX⟩:∃FP,FP=ss.flatMap Seen.l:=⟨_,rfl⟩;have vq:FP.length=j* 3:=by rw[qX,Po,rA]
  have Bv:FP++[iv u,iv y.min,iv y.max]=(hz (j+1)).1.flatMap Seen.l:=by rw[e_,IW,qX];rfl
  rw[<- qX];refine qM [9,12,14] [0,1,2,3,4,5,6,7,8,9,10,11,12,13,14] [⟨0,false,[],[([9],[9])]⟩,⟨1,false,[],[([9],[9])]⟩,⟨2,false,[],[([9],[9])]⟩,⟨3,false,[],[]⟩,⟨4,false,[],[]⟩,⟨5,false,[],[]⟩,⟨6,false,[],[]⟩,⟨7,false,[],[]⟩,⟨8,false,[],[]⟩,⟨9,true,[9],[]⟩,⟨10,false,[9],[]⟩,⟨11,false,[9],[]⟩,⟨12,true,[9,12],[]⟩,⟨13,false,[9,12],[]⟩,⟨14,true,[9,12,14],[]⟩] (λD=>bif isDone 14 D then Gf (tick (tick (tick ρj)))++YY [iv first,iv i,iv am, .sl (j+1) (FP++[iv u,iv y.min,iv y.max]) (.opn (N+5)), .sl np (dI.flatMap aG.l) (.opn (N+3)), .sl ns (fD.flatMap aG.l) (.opn (N+4))] np ns (j+1) np ns else bif isDone 12 D then Gf (tick (tick (tick ρj)))++YY [iv first,iv i,iv am, .sl j FP (.opn (N+5)), .sl np (dI.flatMap aG.l) (.opn (N+3)), .sl ns (fD.flatMap aG.l) (.opn (N+4))] np ns (j+1) np ns else bif isDone 9 D then Gf (tick (tick (tick ρj)))++YY [iv first,iv i,iv am, .sl j FP (.opn (N+5)), .sl np (dI.flatMap aG.l) (.opn (N+3)), .sl ns (fD.flatMap aG.l) (.opn (N+4))] np ns j np ns else Gf (tick ρj)++YY [iv first,iv i,iv am, .sl j FP (.opn (N+5)), .sl np (dI.flatMap aG.l) (.opn (N+3)), .sl ns (fD.flatMap aG.l) (.opn (N+4))] np ns j np ns) ?_;simp only[seval,zS1,CV,y1,y5,uN,Dl,h_ J9,Qj,vq,jh];have Cs:y.l=[iv y.min,iv y.max]:=rfl;refine kW y.av _ (bT (Ob _ _ _ ⟨rfl,rfl⟩)) ?_;(try simp only[seval,zS1,CV,y1,y5,uN,Dl,h_ J9,Qj,vq,jh,jx.av,Cs]);refine⟨by omega, ?_⟩;refine aj ?_;simp only[seval,xu];refine hR _ ⟨by omega,trivial, ?_⟩;rw[<- Bv,e_];exact dR
 ·have xv:j=cn:=by omega
  subst xv;clear hR;refine cq ?_;have dX:=mS j;have hsm:∀s∈(hz j).1,0<=s.hour/\s.hour<=i/\∃τ,s.next=mG τ (l.getD s.hour.toNat 0) 1 0 99:=by
   rw[zg];exact aby (λτ=>by have:=mZ τ i;omega) j
  refine⟨((hz j).1,(hz j).2),⟨by dsimp only;omega,hsm,lm.mono (by omega)⟩,fW (by simp only[seval];simp[bB,Wk.refl]) ?_⟩;dsimp only;rw[dX]
theorem arc{a a' b b' c c' d d':AV}(h1:Wk a a')(h2:Wk b b')(h3:Wk c c')(h4:Wk d d'):Wk (.aK [a,b,c,d]) (.aK [a',b',c',d']):=λE v h=>by
 cases h with
 |aK hs h=>
  refine .aK hs λi x e=> ?_
  match i with
  |0=>cases e;exact h1 _ _ (h 0 a rfl)
  |1=>cases e;exact h2 _ _ (h 1 b rfl)
  |2=>cases e;exact h3 _ _ (h 2 c rfl)
  |3=>cases e;exact h4 _ _ (h 3 d rfl)
theorem ag0{i np ns:Nat}{first am:Int}{l aA b9:List Int}{dI fD:List aG}{ρ3:bt}{zc:aa}{YY:List AV->Nat->Nat->Nat->Nat->Nat->List aa}(hT:ew Gf t N)(hH:∀τ,bL (Gf τ))(hY:AP Gf N zc YY)(Cv:zc= .cells [.val (.int .i64 0), .val (.int .i64 0), .val (.int .i64 0), .sl 0 [] .exact, .sl 0 [] .exact, .sl 0 [] .exact] 26)(hb:b<2^10)(hi:1<=i/\i<=3)(re:0<=first/\first<=90)(vS:1<=am/\am<=3)(ay:mC first am l i)(Cw:ρ3.Ok (b+90))(Fi:dI.length=np)(jY:aA.length=np)(nK:fD.length=ns)(aF:b9.length=ns)
  (hk:∀(ss:List Seen)(τ':bt),ss.length<=2->(∀s∈ss,0<=s.hour/\s.hour<=i/\∃τ,s.next=mG τ (l.getD s.hour.toNat 0) 1 0 99)->τ'.Ok (b+200)->k (.aK [ai.av ⟨first,i,am,ss,dI,fD⟩,bu l,bu aA,bu b9]) (Gf τ')):
  aY lv SD none 240 (tM 10 va) ⟨[(16, .sl ns (b9.map iv) (.opn (N+7))),(15, .sl np (aA.map iv) (.opn (N+6))),(11, .sl (i+1) (l.map iv) (.opn (N+2))),(10, .op (N+1) 0),(6, .op N 0),(0, .op t 0),(2,bv true)],Gf ρ3++YY [iv first,iv i,iv am, .sl 0 [] (.opn (N+5)), .sl np (dI.flatMap aG.l) (.opn (N+3)), .sl ns (fD.flatMap aG.l) (.opn (N+4))] np ns 0 np ns⟩ (tu SD [.cell 6 26, .tmp 7, .tmp 8, .tmp 9] N k kp):=by
 have hY':=hY;obtain⟨yS,y0,y1,y3,y4,y5,y6,y7,uN,Dj,Dk,Dl,Hd,dV,He⟩:=hY;have mM:∀L:List aa,ew (λτ=>Gf τ++L) t (N+L.length):=λL=>hT.more L;have KM:∀τ (L:List aa)(y:aa),(Gf τ++L).set N y=Gf τ++L.set 0 y:=λτ L y=>by have:=de (Gf τ) L 0 y;rwa [hT.len]at this
 have Fz:∀τ (L:List aa),(Gf τ++L)[N]?=L[0]?:=λτ L=>by have:=aS (Gf τ) L 0;rwa [hT.len]at this
 unfold va WT;dsimp only[S6,tM,cs,cf];refine ak ?_;refine aL ((sw (n:=2) (mM _) Cw (by omega) (by omega) ?_));have gY:=mZ ρ3 2;generalize dO ρ3 2=u2 at gY⊢;obtain⟨cn,rfl⟩:∃cn:Nat,u2=cn:=⟨u2.toNat,by omega⟩;have FJ:=Cw.tick;generalize tick ρ3=ρ4 at FJ⊢;(try simp only[seval]);refine HK (α:=List Seen×bt) (λy=>⟨[(16, .sl ns (b9.map iv) (.opn (N+7))),(15, .sl np (aA.map iv) (.opn (N+6))),(11, .sl (i+1) (l.map iv) (.opn (N+2))),(10, .op (N+1) 0),(6, .op N 0),(0, .op t 0),(2,bv true)],Gf y.2++YY [iv first,iv i,iv am, .sl y.1.length (y.1.flatMap Seen.l) (.opn (N+5)), .sl np (dI.flatMap aG.l) (.opn (N+3)), .sl ns (fD.flatMap aG.l) (.opn (N+4))] np ns y.1.length np ns⟩) (λy=>y.1.length<=2/\(∀s∈y.1,0<=s.hour/\s.hour<=i/\∃τ,s.next=mG τ (l.getD s.hour.toNat 0) 1 0 99)/\y.2.Ok (b+97)) ?_ (λy hy=> ?_)
 ·exact mJ (s':=⟨[(20,iv cn),(16, .sl ns (b9.map iv) (.opn (N+7))),(15, .sl np (aA.map iv) (.opn (N+6))),(11, .sl (i+1) (l.map iv) (.opn (N+2))),(10, .op (N+1) 0),(6, .op N 0),(0, .op t 0),(2,bv true)],Gf ρ4++YY [iv first,iv i,iv am, .sl 0 [] (.opn (N+5)), .sl np (dI.flatMap aG.l) (.opn (N+3)), .sl ns (fD.flatMap aG.l) (.opn (N+4))] np ns 0 np ns⟩) (fW (by simp only[seval];simp[bB,Wk.refl]) rfl) (ag4 hT hY' hb hi re vS ay (by omega) (FJ.mono (by omega)))
 obtain⟨ss,ρ5⟩:=y;obtain⟨dW,fA,pq⟩:=hy;dsimp only at dW fA pq⊢;have y00:∀τ r a b c d e,(Gf τ++YY r a b c d e)[N]?=some (.cells [.val (.int .i64 0), .val (.int .i64 0), .val (.int .i64 0), .sl 0 [] .exact, .sl 0 [] .exact, .sl 0 [] .exact] 26):=λτ r a b c d e=>by rw[y0,Cv]
 refine ak ?_;refine aC ?_;refine aj ?_;simp only[seval,y1,y00];rw[KM];obtain⟨LL,PZ⟩:=dV [iv first,iv i,iv am, .sl ss.length (ss.flatMap Seen.l) (.opn (N+5)), .sl np (dI.flatMap aG.l) (.opn (N+3)), .sl ns (fD.flatMap aG.l) (.opn (N+4))] np ns ss.length np ns (.cells [iv first,iv i,iv am, .sl ss.length (ss.flatMap Seen.l) (.opn (N+5)), .sl np (dI.flatMap aG.l) (.opn (N+3)), .sl ns (fD.flatMap aG.l) (.opn (N+4))] 26);simp only[iv]at PZ;rw[PZ];refine mI ?_;simp only[seval,Fz];have dM:=hk ss ρ5 dW fA (pq.mono (by omega));refine jT (b:= .aK [ai.av ⟨first,i,am,ss,dI,fD⟩,bu l,bu aA,bu b9]) (H':=Gf ρ5) (arc (M4 (.cons (Wk.refl _) (.cons (Wk.refl _) (.cons (Wk.refl _) (.cons (jw _ _ _) (.cons ?_ (.cons ?_ .nil))))))) ?_ ?_ ?_) rfl (by simp[hT.len]) (hH _) (by simp only[iV,SK,SU,or_false,forall_eq_or_imp,forall_eq,F1,xM,and_self]) dM
 ·rw[<- Fi];exact jw _ _ _
 ·rw[<- nK];exact jw _ _ _
 ·rw[<- ay.len];exact jw _ _ _
 ·rw[<- jY];exact jw _ _ _
 ·rw[<- aF];exact jw _ _ _
end
section
variable {lv:Bool}{k kp:AV->List aa->Prop}{Gf:bt->List aa}{t N:Nat}{τ:bt}{b:Int}
theorem ag3{pm:Nat}(hT:ew Gf t N)(hτ:τ.Ok b)(hb:b<2^10)(sO:pm<=4)(hk:∀x bH aA b9 τ',Made pm x bH aA b9->τ'.Ok (b+200)->k (.aK [x.av,bu bH,bu aA,bu b9]) (Gf τ')):bi lv SD 15 (Gf τ) [.op t 0,iv pm,bv true] k kp:=by
 refine bI (rs:=[.cell 6 26, .tmp 7, .tmp 8, .tmp 9]) (nt:=240) WT λhH hA=> ?_;simp only[bp,SS];have tW:∀o:aa,ew (λτ=>Gf τ++[o]) t (N+1):=λo=>hT.more [o];have mR:∀τ (L:List aa)(j:Nat),(Gf τ++L)[N+j]?=L[j]?:=λτ L j=>by rw[<- hT.len τ,aS]
 have di:∀τ (L:List aa)(j:Nat)(y:aa),(Gf τ++L).set (N+j) y=Gf τ++L.set j y:=λτ L j y=>by rw[<- hT.len τ,de]
 have Fz:∀τ (L:List aa),(Gf τ++L)[N]?=L[0]?:=λτ L=>mR τ L 0;have KM:∀τ (L:List aa)(y:aa),(Gf τ++L).set N y=Gf τ++L.set 0 y:=λτ L y=>di τ L 0 y;refine ak ?_;refine ak ?_;refine aL ((sw (tW _) hτ (by omega) (by omega) ?_));have r1:=mZ τ 90;generalize dO τ 90=u1 at r1⊢;(try simp only[seval,zE4,zY]);refine aL ((ID (ns:=[0,1,10,u1]) (tW _) hτ.tick (by omega) (by simp) (by simp) ?_));have r2:=Iu (tick τ) (ns:=[0,1,10,u1]) (by simp);simp only[SK,SU,or_false]at r2;generalize vg (tick τ) [0,1,10,u1]=first at r2⊢
 (try simp only[seval]);refine aL ((ahd (lo:=1) (hi:=3) (tW _) hτ.tick.tick (by omega) (by decide) (by decide) ?_));have r3:=arb (tick (tick τ)) (show (1:Int)<=3 by decide);generalize Dh (tick (tick τ)) 1 3=hours at r3⊢;(try simp only[seval,zE4,zY]);refine aL ((ID (ns:=[1,2,2,3]) (tW _) hτ.tick.tick.tick (by omega) (by simp) (by simp) ?_));have r4:=Iu (tick (tick (tick τ))) (ns:=[1,2,2,3]) (by simp);simp only[SK,SU,or_false]at r4;generalize vg (tick (tick (tick τ))) [1,2,2,3]=am at r4⊢;have re:0<=first/\first<=90:=by omega
 have vS:1<=am/\am<=3:=by omega
 clear r1 r2 r4;have hσ:(tick (tick (tick (tick τ)))).Ok (b+4):=hτ.tick.tick.tick.tick.mono (by omega);generalize tick (tick (tick (tick τ)))=σ at hσ⊢;(try simp only[seval,hT.len,mR,di,Fz,KM]);refine aj ?_;simp only[seval,mR,z1,zX]
 (repeat apply iA);refine u6 (t:=11) (sz:=1) (el:=3) (by simp only[seval]<;>rfl) ?_
 simp only[seval,hT.len]
 (repeat apply iA);refine HM (id:=N+1) (j:=4) (sz:=4) (gA:=48) (by simp only[seval,mR]<;>rfl) rfl ?_
 simp only[seval,di,hT.len]
 (repeat apply iA);refine HM (id:=N+1) (j:=5) (sz:=4) (gA:=48) (by simp only[seval,mR]<;>rfl) rfl ?_
 simp only[seval,di,hT.len]
 (repeat apply iA);refine HM (id:=N+1) (j:=3) (sz:=3) (gA:=61) (by simp only[seval,mR]<;>rfl) rfl ?_
 simp only[seval,di,hT.len];refine NS [11,10,6,0,1,2] ?_;show aY _ _ _ _ _ ⟨[(11, .sl 1 [iv first] (.opn (N+2))),(10, .op (N+1) 0),(6, .op N 0),(0, .op t 0),(1,iv pm),(2,bv true)],_⟩ _;obtain⟨zc,Cv⟩:∃zc:aa,zc= .cells [iv 0,iv 0,iv 0, .sl 0 [] .exact, .sl 0 [] .exact, .sl 0 [] .exact] 26:=⟨_,rfl⟩;simp only[iv]at Cv;rw[<- Cv];obtain⟨hn,QF⟩:∃hn:Nat,hours=hn:=⟨hours.toNat,by omega⟩;subst QF;refine ak ?_;refine cN ?_;refine gM hn (λi:Nat=>[(11, .sl (i+1) ((ld σ first am i).1.map iv) (.opn (N+2))),(12,iv i)]) (λi=>Gf (ld σ first am i).2++[zc, .cells [iv first,iv hn,iv am, .sl 0 [] (.opn (N+5)), .sl 0 [] (.opn (N+3)), .sl 0 [] (.opn (N+4))] 26, .tail (i+1) 1 3, .tail 0 4 48, .tail 0 4 48, .tail 0 3 61]) (λi=>True) (λ_ _=>rfl) (by simp only[ld];simp only[seval];simp[bB,Wk.refl]) rfl (λ_ _ _=>by simp[hT.len]) trivial (λcm dF i cw _ R hR=> ?_)
 ·clear cm dF;have ay:=QN σ first (am:=am) (by omega) i
  have qg:=QO hσ first am i
  have e_:ld σ first am (i+1)=((ld σ first am i).1++[(ld σ first am i).1.getD i 0+wj (ld σ first am i).2 am],tick (tick (ld σ first am i).2)):=rfl
  have uc:=ay.ge (by omega) i (SO _);generalize ld σ first am i=m at ay qg e_ uc hR⊢
  obtain⟨l,ρ⟩:=m;dsimp only at ay qg e_ uc⊢;have jh:=ay.len;refine aj ?_;simp only[seval,mR];refine aC ?_;refine⟨λh=> ?_,λh=> ?_⟩
  ·as_aux_lemma=>
   have bE:i<hn:=(by omega);obtain⟨w,hw⟩:=cG (xs:=l) (i:=i) (by omega);have ET:l.getD i 0=w:=(by rw[SF,hw];rfl);rw[ET]at e_ uc;have aQ:=ab2 ρ (am:=am) (by omega);have Rz:wj ρ am=vg (tick ρ) [0,am,dO ρ am]:=rfl;obtain⟨v,hv⟩:∃v,v=wj ρ am:=⟨_,rfl⟩;rw[<- hv]at e_ aQ Rz;have Cp:SE.wrap (w+v)=w+v:=KV (acP uc aQ re vS (by omega));have f_:SE.wrap ((i:Int)+1)=((i+1:Nat):Int):=(by rw[bD _ (by omega)];rfl);have iP:(0<=(i:Int)/\(i:Int)<(i:Int)+1)=True:=(by simp;omega);have mM:∀L:List aa,ew (λτ=>Gf τ++L) t (N+L.length):=λL=>hT.more L;refine aP ?_;refine cN ?_;obtain⟨X,hX⟩:∃X:Nat->List aa,∀a,X a=[zc, .cells [iv first,iv hn,iv am, .sl 0 [] (.opn (N+5)), .sl 0 [] (.opn (N+3)), .sl 0 [] (.opn (N+4))] 26, .tail a 1 3, .tail 0 4 48, .tail 0 4 48, .tail 0 3 61]:=⟨_,λ_=>rfl⟩;have P8:=(hX (i+1)).symm;simp only[iv]at P8;have x1:∀τ a,(Gf τ++X a)[N+1]?=some (.cells [iv first,iv hn,iv am, .sl 0 [] (.opn (N+5)), .sl 0 [] (.opn (N+3)), .sl 0 [] (.opn (N+4))] 26):=λτ a=>(by rw[mR,hX];rfl);have x2:∀τ a,(Gf τ++X a)[N+2]?=some (.tail a 1 3):=λτ a=>(by rw[mR,hX];rfl);have Nc:∀τ a a',(Gf τ++X a).set (N+2) (.tail a' 1 3)=Gf τ++X a':=λτ a a'=>(by rw[di,hX,hX];rfl);rw[P8];refine qM [11,13,16] [0,1,2,3,4,5,6,7,8,9,10,11,12,13,14,15,16,17] [⟨0,false,[],[([11],[11]),([11,13],[11,13])]⟩,⟨1,false,[],[([11],[11]),([11,13],[11,13])]⟩,⟨2,false,[],[([11],[11]),([11,13],[11,13])]⟩,⟨3,false,[],[([11],[11]),([11,13],[11,13])]⟩,⟨4,false,[],[([11],[11]),([11,13],[11,13])]⟩,⟨5,false,[],[([11],[11])]⟩,⟨6,false,[],[([11],[11])]⟩,⟨7,false,[],[([11],[11])]⟩,⟨8,false,[],[]⟩,⟨9,false,[],[]⟩,⟨10,false,[],[]⟩,⟨11,true,[11],[]⟩,⟨12,false,[11],[]⟩,⟨13,true,[11,13],[]⟩,⟨14,false,[11,13],[]⟩,⟨15,false,[11,13],[]⟩,⟨16,true,[11,13,16],[]⟩,⟨17,false,[11,13,16],[]⟩] (λD=>bif isDone 16 D then Gf (tick (tick ρ))++X (i+1+1)else bif isDone 13 D then Gf (tick (tick ρ))++X (i+1)else bif isDone 11 D then Gf (tick ρ)++X (i+1)else Gf ρ++X (i+1)) ?_;simp only[seval,Nj,CV,z1,zX,x1,x2,Nc,h_ hw,iP,Cp,jh];refine kW _ _ (bT (sw (mM (X (i+1))) qg (by omega) (by omega) ⟨rfl,rfl⟩)) ?_;(try simp only[seval,Nj,CV,z1,zX,x1,x2,Nc,h_ hw,iP,Cp,jh]);refine kW (iv v) _ (bT (ID (ns:=[0,am,dO ρ am]) (mM (X (i+1))) qg.tick (by omega) (by simp) (by simp) ⟨by rw[Rz],rfl⟩)) ?_;(try simp only[seval,Nj,CV,z1,zX,x1,x2,Nc,h_ hw,iP,Cp,jh]);refine⟨by omega, ?_⟩;refine aj ?_;simp only[seval,f_];refine hR _ ⟨bE,trivial, ?_⟩;rw[e_,Tv,hX];exact dR
  ·as_aux_lemma=>
   have dK:i=hn:=(by omega);subst dK;clear hR;refine cq ?_;obtain⟨w,hw⟩:=cG (xs:=l) (i:=i) (by omega);have ET:l.getD i 0=w:=(by rw[SF,hw];rfl);have FD:first<=w/\w<=first+9:=by
    rw[ET]at uc;have:am* (i:Int)<=3* 3:=Xx (by omega) (by omega) (by omega) (by omega);generalize am* (i:Int)=q at uc this;omega
   obtain⟨mn,qa⟩:∃mn:Nat,w-first=mn:=⟨(w-first).toNat,by omega⟩
   have Ra:mn<=9:=(by omega);have hwm:SE.wrap (w-first)=mn:=(by rw[KV (by omega),qa]);have iP:(0<=(i:Int)/\(i:Int)<(i:Int)+1)=True:=(by simp;omega);refine eS 8 ?_;simp only[seval,mR,h_ hw,iP,hwm];have mM:∀L:List aa,ew (λτ=>Gf τ++L) t (N+L.length):=λL=>hT.more L;refine ak ?_;refine aL ((O9 (n:=mn) (mM _) qg (by omega) (by omega) ?_));have qb:=aas ρ mn;have qg:=F7 qg mn mn;generalize iq ρ mn mn=m2 at qb qg⊢;obtain⟨order,ρ⟩:=m2;dsimp only at qb qg⊢;(try simp only[seval]);refine ak ?_
   (repeat apply iA);refine u6 (t:=15) (sz:=1) (el:=3) (by simp only[seval]<;>rfl) ?_
   simp only[seval,hT.len]
   (repeat apply iA);refine u6 (t:=16) (sz:=1) (el:=3) (by simp only[seval]<;>rfl) ?_
   simp only[seval,hT.len];refine NS [16,15,14,13,11,10,6,0,1,2] ?_;show aY _ _ _ _ _ ⟨[(16, .sl 0 [] (.opn (N+7))),(15, .sl 0 [] (.opn (N+6))),(14,bu order),(13,iv mn),(11, .sl (i+1) (l.map iv) (.opn (N+2))),(10, .op (N+1) 0),(6, .op N 0),(0, .op t 0),(1,iv pm),(2,bv true)],_⟩ _;obtain⟨YY,jU⟩:∃YY:List AV->Nat->Nat->Nat->Nat->Nat->List aa,∀r a b c d e,YY r a b c d e=[zc, .cells r 26, .tail (i+1) 1 3, .tail a 4 48, .tail b 4 48, .tail c 3 61, .tail d 1 3, .tail e 1 3]:=⟨_,λ_ _ _ _ _ _=>rfl⟩;have hY:AP Gf N zc YY:=by
    refine⟨λr a b c d e=>by rw[jU];rfl,λτ r a b c d e=>by rw[Fz,jU];rfl,λτ r a b c d e=>by rw[mR,jU];rfl,λτ r a b c d e=>by rw[mR,jU];rfl,λτ r a b c d e=>by rw[mR,jU];rfl,λτ r a b c d e=>by rw[mR,jU];rfl,λτ r a b c d e=>by rw[mR,jU];rfl,λτ r a b c d e=>by rw[mR,jU];rfl,λτ r r' a b c d e=>by rw[di,jU,jU];rfl,λτ r a a' b c d e=>by rw[di,jU,jU];rfl,λτ r a b b' c d e=>by rw[di,jU,jU];rfl,λτ r a b c c' d e=>by rw[di,jU,jU];rfl,λτ r a b c d d' e=>by rw[di,jU,jU];rfl,λr a b c d e y=>⟨_,by rw[jU];rfl⟩,λτ r a b c d e e'=>by rw[di,jU,jU];rfl⟩
   have P9:[zc, .cells [iv first,iv i,iv am, .sl 0 [] (.opn (N+5)), .sl 0 [] (.opn (N+3)), .sl 0 [] (.opn (N+4))] 26, .tail (i+1) 1 3, .tail 0 4 48, .tail 0 4 48, .tail 0 3 61, .tail 0 1 3, .tail 0 1 3]=YY [iv first,iv i,iv am, .sl 0 [] (.opn (N+5)), .sl 0 [] (.opn (N+3)), .sl 0 [] (.opn (N+4))] 0 0 0 0 0:=(by rw[jU]);simp only[iv]at P9;rw[P9];refine ak ?_;refine HK (α:=Nat×bt) (λy=>⟨[(16, .sl 0 [] (.opn (N+7))),(15, .sl y.1 ((kN first order y.1).map iv) (.opn (N+6))),(13,iv mn),(11, .sl (i+1) (l.map iv) (.opn (N+2))),(10, .op (N+1) 0),(6, .op N 0),(0, .op t 0),(2,bv true)],Gf y.2++YY [iv first,iv i,iv am, .sl 0 [] (.opn (N+5)), .sl y.1 ((kE l i (λj=>first+order.getD j 0) ρ y.1).1.flatMap aG.l) (.opn (N+3)), .sl 0 [] (.opn (N+4))] y.1 0 0 y.1 0⟩) (λy=>y.1<=pm/\y.1<=mn/\y.2.Ok (b+60)) ?_ (λy hy=> ?_)
   ·exact ag5 hT hY hb sO (by omega) re jh Ra qb (qg.mono (by omega))
   ·as_aux_lemma=>
    obtain⟨np,ρ1⟩:=y;obtain⟨ajW,ajX,KU⟩:=hy;dsimp only at ajW ajX KU⊢;have Fi:(kE l i (λj=>first+order.getD j 0) ρ np).1.length=np:=yV _ _ _ _ _;have Rr:∀(p:Nat) z,(kE l i (λj=>first+order.getD j 0) ρ np).1[p]?=some z->∃τ,z=lG τ l (first+order.getD p 0) i:=λp z hz=>Jo (P:=λn z=>∃τ,z=lG τ l n i) (λτ n=>⟨τ,rfl⟩) np p z hz;generalize(kE l i (λj=>first+order.getD j 0) ρ np).1=dI at Fi Rr⊢;have jY:=aaC first order np
    have ui:∀n∈kN first order np,first<=n/\n<w:=λn hn=>by
     unfold kN at hn;obtain⟨p,hp,rfl⟩:=Th.1 hn;have hp:=TH.1 hp;obtain⟨o,ho⟩:=cG (xs:=order) (i:=p) (by rw[qb.len];omega);have:=qb.Gw o (v7 ho);rw[SF,ho];simp only[S6];omega
    have B9:(kN first order np).Nodup:=by
     have e:kN first order np=(order.take np).map λo=>first+o:=by
      unfold kN;refine amn (by rw[Tj,TW,qb.len];omega) λp hp=> ?_;rw[Ti,TY,if_pos hp,SF];obtain⟨o,ho⟩:=cG (xs:=order) (i:=p) (by rw[qb.len];omega);rw[ho];rfl
     rw[e];have h1:(order.take np).Nodup:=XD (Yr _ _) qb.nodup;rw[Ue,WR];exact(Ue.1 h1).imp λh e=>h (by omega)
    have Rd:∀p,p<np->(kN first order np).getD p 0=first+order.getD p 0:=λp hp=>by
     unfold kN;rw[SF,Ti,YV hp];rfl
    generalize kN first order np=aA at jY ui B9 Rd⊢
    refine ak ?_;refine aL ((O9 (n:=np) (mM _) KU (by omega) (by omega) ?_));have sP:=aas ρ1 np;have xG:=F7 KU np np;generalize iq ρ1 np np=m3 at sP xG⊢;obtain⟨ie,ρ2⟩:=m3;dsimp only at sP xG⊢;have xG:ρ2.Ok (b+64):=xG.mono (by omega);(try simp only[seval]);have hwe:bu ie= .sl np (ie.map iv) .shut:=(by rw[bu,sP.len]);rw[hwe];refine ak ?_;refine HK (α:=Nat×bt) (λy=>⟨[(16, .sl y.1 ((ie.take y.1).map iv) (.opn (N+7))),(15, .sl np (aA.map iv) (.opn (N+6))),(11, .sl (i+1) (l.map iv) (.opn (N+2))),(10, .op (N+1) 0),(6, .op N 0),(0, .op t 0),(2,bv true)],Gf y.2++YY [iv first,iv i,iv am, .sl 0 [] (.opn (N+5)), .sl np (dI.flatMap aG.l) (.opn (N+3)), .sl y.1 ((kE l i (λj=>aA.getD (ie.getD j 0).toNat 0) ρ2 y.1).1.flatMap aG.l) (.opn (N+4))] np y.1 0 np y.1⟩) (λy=>y.1<=np/\y.1<=3/\y.2.Ok (b+90)) ?_ (λy hy=> ?_)
    ·exact mJ (s':=⟨[(19,iv 0),(18, .sl np (ie.map iv) .shut),(16, .sl 0 [] (.opn (N+7))),(15, .sl np (aA.map iv) (.opn (N+6))),(11, .sl (i+1) (l.map iv) (.opn (N+2))),(10, .op (N+1) 0),(6, .op N 0),(0, .op t 0),(2,bv true)],Gf ρ2++YY [iv first,iv i,iv am, .sl 0 [] (.opn (N+5)), .sl np (dI.flatMap aG.l) (.opn (N+3)), .sl 0 [] (.opn (N+4))] np 0 0 np 0⟩) (fW (by simp only[seval];simp[bB,Wk.refl]) rfl) (ag1 hT hY hb (by omega) re FD jh (by omega) jY ui sP xG)
    ·as_aux_lemma=>
     obtain⟨ns,ρ3⟩:=y;obtain⟨ajY,ajZ,Cw⟩:=hy;dsimp only at ajY ajZ Cw⊢;have nK:(kE l i (λj=>aA.getD (ie.getD j 0).toNat 0) ρ2 ns).1.length=ns:=yV _ _ _ _ _;have RE:∀(s:Nat) z,(kE l i (λj=>aA.getD (ie.getD j 0).toNat 0) ρ2 ns).1[s]?=some z->∃τ,z=lG τ l (aA.getD (ie.getD s 0).toNat 0) i:=λs z hz=>Jo (P:=λn z=>∃τ,z=lG τ l n i) (λτ n=>⟨τ,rfl⟩) ns s z hz;generalize(kE l i (λj=>aA.getD (ie.getD j 0).toNat 0) ρ2 ns).1=fD at nK RE⊢;have rC:=sP.len;have aF:(ie.take ns).length=ns:=(by rw[TW];omega);have jj:∀v∈ie.take ns,0<=v/\v<(np:Int):=λv hv=>sP.Gw v (VL hv);have Rn:(ie.take ns).Nodup:=XD (Yr _ _) sP.nodup;have Rm:∀s,s<ns->(ie.take ns).getD s 0=ie.getD s 0:=λs hs=>by
      rw[SF,SF,TY,if_pos hs]
     generalize ie.take ns=b9 at aF jj Rn Rm⊢;refine ag0 hT (λτ'=>hT.ay hH τ') hY Cv hb (by omega) re vS ay Cw Fi jY nK aF λss τ' h1 h2 h3=>hk _ l aA b9 τ' ⟨re,by dsimp only;omega,vS,by simpa using ay,by dsimp only;omega,by dsimp only;omega,λn hn=> ?_,B9,λp y hy=> ?_,by dsimp only;omega,by dsimp only;omega,λv hv=>by rw[jY];exact jj v hv,Rn,λs y hy=> ?_,h1,h2⟩ h3
     ·have:=ui n hn;dsimp only;rw[U8,ET];exact this
     ·dsimp only at hy;have hp:=(SM.1 hy).1;obtain⟨τ,e⟩:=Rr p y hy;exact⟨τ,by rw[Rd p (by omega)];exact e⟩
     ·dsimp only at hy;have hp:=(SM.1 hy).1;obtain⟨τ,e⟩:=RE s y hy;exact⟨τ,by rw[Rm s (by omega)];exact e⟩
end
end Go.Gg
namespace Go.Gg.Tk
theorem EW{x:ai}:∀(d:Nat)(pre h:List Int),h∈kG x d pre->h.take pre.length=pre
 |0,pre,h,hm=>by
  unfold kG at hm;split at hm
  ·rw[S5]at hm;subst hm;exact TE
  ·cases hm
 |d+1,pre,h,hm=>by
  unfold kG at hm;split at hm
  ·obtain⟨n,_,hm⟩:=S4.1 hm;have:=EW d _ h hm;rw[SQ,TQ]at this;have h2:=congrArg (T_ pre.length) this;rw[US,Tq (SO _),TE,WI (by omega)]at h2;exact h2
  ·cases hm
theorem QJ{x:ai}:∀(d:Nat)(pre:List Int),(kG x d pre).Nodup
 |0,pre=>by
  unfold kG;split
  ·simp
  ·exact V_
 |d+1,pre=>by
  unfold kG;split
  ·unfold List.Nodup;rw[List.pairwise_flatMap];refine⟨λn _=>QJ d _, ?_⟩;refine Y8 ?_ (Xf (n:=x.am.toNat+1));intro a b fN h ha g hb he;subst he;have h1:=EW d _ h ha;have h2:=EW d _ h hb;rw[SQ,TQ]at h1 h2;have h3:=h1.symm.trans h2;have:=List.append_cancel_left h3;simp at this;exact fN (by omega)
  ·exact V_
theorem ajD(x:ai):(aH x).Nodup:=QJ _ _
end Go.Gg.Tk
namespace Go.Gg.Tk
theorem FT{h pre:List Int}(hp:pre≠[])(ht:h.take pre.length=pre):pre.getLastD 0=h.getD (pre.length-1) 0:=by
 have hl:0<pre.length:=Vp.2 hp;have e:pre[pre.length-1]?=h[pre.length-1]?:=by
  have:(h.take pre.length)[pre.length-1]?=pre[pre.length-1]?:=by rw[ht]
  rw[<- this,TY,if_pos (by omega)]
 rw[SF,<- e,UT,Xu]
def Good (x:ai)(k:Nat)(h:List Int):Prop:=∀j,k<=j->j<h.length->rM x j (h.getD j 0)=true/\(j+1<h.length->∃n:Nat,n<x.am.toNat+1/\h.getD (j+1) 0=h.getD j 0+n)
theorem GN{h pre:List Int}{v:Int}:h.take (pre.length+1)=pre++[v]<->h.take pre.length=pre/\pre.length<h.length/\h.getD pre.length 0=v:=by
 constructor
 ·intro e;have hl:pre.length+1<=h.length:=by
   have:=congrArg Y7 e;rw[TW,SQ,TQ]at this;omega
  have h1:=congrArg (T_ pre.length) e;rw[US,Tq (SO _),TE,WI (by omega)]at h1;refine⟨h1,by omega, ?_⟩;have h2:(h.take (pre.length+1))[pre.length]?=(pre++[v])[pre.length]?:=by rw[e]
  rw[TY,if_pos (by omega),Tg (SO _),UP]at h2;rw[SF,h2];rfl
 ·rintro⟨h1,h2,h3⟩
  rw[Vh,h1];congr 1;rw[SF,SV h2]at h3;rw[SV h2,<- h3];rfl
theorem JZ{x:ai}:∀(d:Nat)(pre h:List Int),pre≠[]->(h∈kG x d pre<->h.length=pre.length+d/\h.take pre.length=pre/\Good x (pre.length-1) h)
 |0,pre,h,hp=>by
  have hl:0<pre.length:=Vp.2 hp;unfold kG;constructor
  ·intro hm;split at hm
   ·rename_i hs;rw[S5]at hm;subst hm;refine⟨rfl,TE,λj h1 h2=> ?_⟩;have:j=h.length-1:=(by omega);subst this;rw[FT hp TE]at hs;exact⟨hs,λh=>by omega⟩
   ·cases hm
  ·rintro⟨h1,h2,h3⟩
   have e:h=pre:=(by rw[<- h2,SW (by omega)]);subst e;have:=(h3 (h.length-1) (SO _) (by omega)).1;rw[<- FT hp TE]at this;rw[if_pos this];simp
 |d+1,pre,h,hp=>by
  have hl:0<pre.length:=Vp.2 hp;unfold kG;constructor
  ·intro hm;split at hm
   ·rename_i hs;obtain⟨n,hn,hm⟩:=S4.1 hm;rw[JZ d _ h (by simp)]at hm;obtain⟨h1,h2,h3⟩:=hm;rw[SQ,TQ]at h1 h2 h3;obtain⟨h4,h5,h6⟩:=GN.1 h2;rw[FT hp h4]at hs h6;refine⟨by omega,h4,λj xu EY=> ?_⟩;by_cases hj:j=pre.length-1
    ·subst hj;refine⟨hs,λ_=>⟨n,TH.1 hn, ?_⟩⟩;rw[show pre.length-1+1=pre.length by omega];exact h6
    ·exact h3 j (by omega) EY
   ·cases hm
  ·rintro⟨h1,h2,h3⟩
   obtain⟨hs,aQ⟩:=h3 (pre.length-1) (SO _) (by omega);obtain⟨n,hn,he⟩:=aQ (by omega);rw[show pre.length-1+1=pre.length by omega]at he;rw[FT hp h2,if_pos hs];refine S4.2 ⟨n,TH.2 hn, ?_⟩;rw[JZ d _ h (by simp),SQ,TQ];exact⟨by omega,GN.2 ⟨h2,by omega,he⟩,λj xu EY=>h3 j (by omega) EY⟩
theorem amy{h:List Int}(hm:∀j,j+1<h.length->h.getD j 0<=h.getD (j+1) 0):tC h:=by
 induction h with
 |nil=>trivial
 |cons a l ih=>
  cases l with
  |nil=>trivial
  |cons b l=>
   refine⟨?_,ih λj hj=> ?_⟩
   ·have:=hm 0 (by simp);simpa using this
   ·have:=hm (j+1) (by simp at hj⊢;omega);simpa using this
theorem acA{n:Int}:∀(h:List Int)(i:Nat),tC h->(0<=fJ i h n<->h.headD 0<=n/\n<h.getLastD 0)
 |[],i,_=>by simp[fJ]<;>omega
 |[a],i,_=>by simp[fJ]<;>omega
 |a::b::l,i,hm=>by
  obtain⟨h1,h2⟩:=hm;have ih:=acA (n:=n) (b::l) (i+1) h2;have uf:(a::b::l).getLastD 0=(b::l).getLastD 0:=by simp[YA]
  rw[uf];unfold fJ;split
  ·rename_i h;have cP:b<=(b::l).getLastD 0:=aat h2;constructor
   ·intro _;exact⟨h.1,by omega⟩
   ·intro _;omega
  ·rename_i h;rw[ih];have e1:(a::b::l).headD 0=a:=rfl;have e2:(b::l).headD 0=b:=rfl;rw[e1,e2];omega
where
 aat {b:Int}:∀{l:List Int},tC (b::l)->b<=(b::l).getLastD 0
  |[],_=>by simp
  |c::l,hm=>by
   obtain⟨h1,h2⟩:=hm;have:=aat h2;have e:(b::c::l).getLastD 0=(c::l).getLastD 0:=(by simp[YA]);rw[e];omega
theorem acD{h:List Int}{n:Int}(hm:tC h):0<=ju h n<->h.headD 0<=n/\n<h.getLastD 0:=acA h 0 hm
theorem acC{n:Int}:∀(h:List Int)(i:Nat),0<=fJ i h n->fJ i h n+1<i+h.length
 |[],i,h=>by simp[fJ]at h
 |[a],i,h=>by simp[fJ]at h
 |a::b::l,i,h=>by
  unfold fJ at h⊢;split
  ·simp;omega
  ·rename_i hn;rw[if_neg hn]at h;have:=acC (b::l) (i+1) h;simp at this⊢;omega
theorem ah5{h:List Int}{y:aG}{n:Int}(hm:tC h)(hf:fits h y n=true):n∈F9 h:=by
 unfold fits at hf;simp only[Td,decide_eq_true_eq]at hf;obtain⟨h1,h2⟩:=(acD hm).1 hf.1.1;unfold F9;refine Th.2 ⟨(n-h.headD 0).toNat,TH.2 (by omega),by omega⟩
theorem PJ{α:Type}[DecidableEq α]{l:List α}{d:α}{i:Nat}(hi:i<l.length):l.Nodup->l.getD i d∉l.take i:=λhn hm=>by
 obtain⟨j,hj⟩:=Vg hm;rw[TY]at hj;split at hj
 ·rename_i cp;rw[SF,SV hi,SV (by omega)]at hj;simp only[S6,Te]at hj;have h2:=Ue.1 hn;exact(Xt.1 h2) j i (by omega) hi cp hj
 ·cases hj
theorem aaz{α:Type}{l:List α}{d:α}(h:∀i,i<l.length->l.getD i d∉l.take i):l.Nodup:=by
 rw[Ue,Xt];intro i j hi hj kq e;refine h j hj ?_;rw[SF,SV hj,S6,<- e];exact Uz.2 ⟨i,by rw[TY,if_pos kq,SV hi]⟩
theorem GO{α:Type}{d:α}{h pre:List α}{v:α}:h.take (pre.length+1)=pre++[v]<->h.take pre.length=pre/\pre.length<h.length/\h.getD pre.length d=v:=by
 constructor
 ·intro e;have hl:pre.length+1<=h.length:=by
   have:=congrArg Y7 e;rw[TW,SQ,TQ]at this;omega
  have h1:=congrArg (T_ pre.length) e;rw[US,Tq (SO _),TE,WI (by omega)]at h1;refine⟨h1,by omega, ?_⟩;have h2:(h.take (pre.length+1))[pre.length]?=(pre++[v])[pre.length]?:=by rw[e]
  rw[TY,if_pos (by omega),Tg (SO _),UP]at h2;rw[SF,h2];rfl
 ·rintro⟨h1,h2,h3⟩
  rw[Vh,h1];congr 1;rw[SF,SV h2]at h3;rw[SV h2,<- h3];rfl
theorem F'{h:List Int}(hm:tC h):∀(ys:List aG)(t ns:List Int),ns∈mW h ys t<->ns.length=t.length+ys.length/\ns.take t.length=t/\∀i y,ys[i]?=some y->fits h y (ns.getD (t.length+i) 0)=true/\ns.getD (t.length+i) 0∉ns.take (t.length+i)
 |[],t,ns=>by
  simp only[mW,S5,UA,Uv];constructor
  ·rintro rfl;exact⟨rfl,TE,λi y hy=>by cases hy⟩
  ·rintro⟨h1,h2,_⟩;rw[<- h2,SW (by omega)]
 |y::ys,t,ns=>by
  simp only[mW,S4,Uh,Td,TL,T7];constructor
  ·rintro⟨n,⟨_,hf,ht⟩,gh⟩
   rw[F' hm ys (t++[n]) ns]at gh;obtain⟨h1,h2,h3⟩:=gh;rw[SQ,TQ]at h1 h2 h3;obtain⟨h4,h5,h6⟩:=(GO (d:=0)).1 h2;refine⟨by omega,h4,λi z hz=> ?_⟩
   match i,hz with
   |0,hz=>
    cases hz;rw[Uv,h6,h4];refine⟨hf, ?_⟩;intro hc;rw[Ub]at ht;simp at ht;exact ht hc
   |i+1,hz=>
    have:=h3 i z hz;rw[show t.length+1+i=t.length+(i+1) by omega]at this;exact this
  ·rintro⟨h1,h2,h3⟩
   obtain⟨hf,hn⟩:=h3 0 y rfl;rw[Uv]at hf hn;rw[h2]at hn;refine⟨ns.getD t.length 0,⟨ah5 hm hf,hf,by rw[Ub];simpa using hn⟩, ?_⟩;rw[F' hm ys _ ns,SQ,TQ];refine⟨by omega,(GO (d:=0)).2 ⟨h2,by omega,rfl⟩,λi z hz=> ?_⟩;have:=h3 (i+1) z hz;rw[show t.length+(i+1)=t.length+1+i by omega]at this;exact this
theorem Gm{h ns:List Int}:∀(ss:List aG)(t os:List Nat),os∈pB h ns ss t<->os.length=t.length+ss.length/\os.take t.length=t/\∀i s,ss[i]?=some s->fits h s (ns.getD (os.getD (t.length+i) 0) 0)=true/\os.getD (t.length+i) 0<ns.length/\os.getD (t.length+i) 0∉os.take (t.length+i)
 |[],t,os=>by
  simp only[pB,S5,UA,Uv];constructor
  ·rintro rfl;exact⟨rfl,TE,λi y hy=>by cases hy⟩
  ·rintro⟨h1,h2,_⟩;rw[<- h2,SW (by omega)]
 |s::ss,t,os=>by
  simp only[pB,S4,Uh,Td,TL,T7,TH];constructor
  ·rintro⟨n,⟨hlt,hf,ht⟩,gh⟩
   rw[Gm ss (t++[n]) os]at gh;obtain⟨h1,h2,h3⟩:=gh;rw[SQ,TQ]at h1 h2 h3;obtain⟨h4,h5,h6⟩:=(GO (d:=0)).1 h2;refine⟨by omega,h4,λi z hz=> ?_⟩
   match i,hz with
   |0,hz=>
    cases hz;rw[Uv,h6,h4];refine⟨hf,hlt, ?_⟩;intro hc;rw[Ub]at ht;simp at ht;exact ht hc
   |i+1,hz=>
    have:=h3 i z hz;rw[show t.length+1+i=t.length+(i+1) by omega]at this;exact this
  ·rintro⟨h1,h2,h3⟩
   obtain⟨hf,hlt,hn⟩:=h3 0 s rfl;rw[Uv]at hf hlt hn;rw[h2]at hn;refine⟨os.getD t.length 0,⟨hlt,hf,by rw[Ub];simpa using hn⟩, ?_⟩;rw[Gm ss _ os,SQ,TQ];refine⟨by omega,(GO (d:=0)).2 ⟨h2,by omega,rfl⟩,λi z hz=> ?_⟩;have:=h3 (i+1) z hz;rw[show t.length+(i+1)=t.length+1+i by omega]at this;exact this
end Go.Gg.Tk
namespace Go.Gg.Tk
theorem QL{x:ai}{bh:Nat}:∀(d:Nat)(pre:List Int),2<=pre.length->mP x bh d pre=(kG x d pre).map cM
 |0,pre,_=>by
  unfold mP kG;split<;>rfl
 |d+1,pre,h=>by
  unfold mP kG;split
  ·rw[U3];congr 1;funext n;rw[if_neg (λhc=>by have:=hc.1;omega),QL d _ (by simp;omega)]
  ·rfl
theorem Pp{α:Type}{t:Nat}{f:Nat->List α}:∀m,((SX m).flatMap λn=>if n≠t then[]else f n)=if t<m then f t else[]
 |0=>by simp
 |m+1=>by
  rw[UV,U1,Pp m];simp only[Ua,List.flatMap_nil,SI];by_cases h:m=t
  ·subst h;rw[if_neg (Nat.lt_irrefl _),if_neg (by simp),if_pos (Ug _),Up]
  ·rw[if_pos h,SI];by_cases h2:t<m
   ·rw[if_pos h2,if_pos (by omega)]
   ·rw[if_neg h2,if_neg (by omega)]
theorem QQ{x:ai}{bh:Nat}(hh:1<=x.hours)(ht:bh<x.am.toNat+1):kH x bh=(vJ x bh).map cM:=by
 unfold kH vJ;obtain⟨d,hd⟩:∃d,x.hours.toNat=d+1:=⟨x.hours.toNat-1,by omega⟩;rw[hd];unfold mP;simp only[TQ,UP,VA,true_and];rw[show ([x.first]:List Int).getLastD 0=x.first from rfl];split
 ·rw[Pp (t:=bh) (f:=λn=>mP x bh d ([x.first]++[x.first+(n:Int)])),if_pos ht,QL d _ (by simp)];rfl
 ·rfl
theorem ajC{x:ai}(hh:1<=x.hours):((SX (x.am.toNat+1)).flatMap λt=>vJ x t)=aH x:=by
 unfold aH vJ;obtain⟨d,hd⟩:∃d,x.hours.toNat=d+1:=⟨x.hours.toNat-1,by omega⟩;rw[hd,VA,show kG x (d+1) [x.first]=(if rM x 0 x.first then(SX (x.am.toNat+1)).flatMap λn:Nat=>kG x d [x.first,x.first+(n:Int)]else[])from rfl];split
 ·rfl
 ·simp
end Go.Gg.Tk
namespace Go.Gg.Tk
theorem aor{p:Nat->Bool}{m k:Nat}(h:m<=k):((SX k).filter λn=>decide (n<m)&&p n)=(SX m).filter p:=by
 obtain⟨j,rfl⟩:=Nat.exists_eq_add_of_le h;rw[List.range_add,List.filter_append];have h1:((SX j).map (m+·)).filter (λn=>decide (n<m)&&p n)=[]:=by
  rw[XO];intro a ha;obtain⟨b,_,rfl⟩:=Th.1 ha;simp only[Td,decide_eq_true_eq,not_and];exactλhlt=>absurd hlt (by omega)
 rw[h1,SI];refine UU λn hn=> ?_;rw[TH]at hn;simp[hn]
theorem IU{α:Type}{c:Nat->Bool}{f:Nat->List α}:∀l:List Nat,(l.flatMap λn=>if c n=true then[]else f n)=(l.filter λn=> !c n).flatMap f
 |[]=>rfl
 |n::l=>by
  rw[Ua,List.filter_cons,IU l];cases hc:c n<;>simp
def s8 (g:aG->Nat->Bool)(m:Nat):List aG->List Nat->List (List Nat)
 |[],t=>[t]
 |y::ys,t=>((SX m).filter λn=>g y n&& !t.contains n).flatMap λn=>s8 g m ys (t++[n])
theorem LN{g:aG->Nat->Bool}{q:aG->Nat}{m:Nat}(hm:m<=9):∀(ys:List aG)(u:Nat)(t:List Nat),(∀y∈ys,∀n,n<9->(q y).testBit n=(decide (n<m)&&g y n))->(∀n,u.testBit n=t.contains n)->kP (ys.map q) u t=s8 g m ys t
 |[],u,t,_,_=>rfl
 |y::ys,u,t,hq,hu=>by
  rw[UE,kP,s8];have e1:((SX 9).flatMap λn=>if(u.testBit n|| !(q y).testBit n)=true then[]else kP (ys.map q) (u|||2^n) (t++[n]))=((SX 9).filter λn=> !(u.testBit n|| !(q y).testBit n)).flatMap λn=>kP (ys.map q) (u|||2^n) (t++[n]):=IU _;rw[e1];have e2:((SX 9).filter λn=> !(u.testBit n|| !(q y).testBit n))=(SX m).filter λn=>g y n&& !t.contains n:=by
   rw[<- aor hm];refine UU λn hn=> ?_;rw[TH]at hn;rw[hu,hq y (by simp) n hn];cases t.contains n<;>cases decide (n<m)<;>cases g y n<;>rfl
  rw[e2];congr 1;funext n;refine LN hm ys _ _ (λz hz=>hq z (by simp[hz])) λi=> ?_;rw[WG,hu,Vs,X4];simp[eq_comm]
theorem aaF{h:List Int}{a:Int}{g:aG->Nat->Bool}{m:Nat}(hr:F9 h=(SX m).map λi:Nat=>a+(i:Int)):∀(ys:List aG)(t:List Nat),(∀y∈ys,∀n,n<m->fits h y (a+(n:Int))=g y n)->mW h ys (t.map λi:Nat=>a+(i:Int))=(s8 g m ys t).map λl=>l.map λi:Nat=>a+(i:Int)
 |[],t,_=>rfl
 |y::ys,t,hg=>by
  rw[mW,s8,hr,List.filter_map,Wc,U3];have e:(SX m).filter ((λn=>fits h y n&& !(t.map λi:Nat=>a+(i:Int)).contains n)∘λi:Nat=>a+(i:Int))=(SX m).filter λn=>g y n&& !t.contains n:=by
   refine UU λn hn=> ?_;rw[TH]at hn;simp only[VF];rw[hg y (by simp) n hn];congr 1;congr 1;rw[UL,XV,XV,Th];constructor
   ·rintro⟨i,h1,h2⟩
    have:i=n:=(by omega);rw[<- this];exact h1
   ·exactλh1=>⟨n,h1,rfl⟩
  rw[e];congr 1;funext n;have:=aaF hr ys (t++[n]) (λz hz=>hg z (by simp[hz]));rw[Tv]at this;exact this
end Go.Gg.Tk
namespace Go.Gg.Tk
theorem aaV{h:List Int}{ns:List Nat}{nl:List Int}{q:aG->Nat}(hl:nl.length=ns.length):∀(ss:List aG)(u:Nat)(t:List Nat),(∀s∈ss,∀p,p<ns.length->(q s).testBit (ns.getD p 0)=fits h s (nl.getD p 0))->(∀n,u.testBit n=t.contains n)->mu ns.length ns (ss.map q) u t=pB h nl ss t
 |[],u,t,_,_=>rfl
 |s::ss,u,t,hq,hu=>by
  rw[UE,mu,pB,hl];have e1:((SX ns.length).flatMap λp=>if(u.testBit p|| !(q s).testBit (ns.getD p 0))=true then[]else mu ns.length ns (ss.map q) (u|||2^p) (t++[p]))=((SX ns.length).filter λp=> !(u.testBit p|| !(q s).testBit (ns.getD p 0))).flatMap λp=>mu ns.length ns (ss.map q) (u|||2^p) (t++[p]):=IU _;rw[e1];have e2:((SX ns.length).filter λp=> !(u.testBit p|| !(q s).testBit (ns.getD p 0)))=(SX ns.length).filter λp=>fits h s (nl.getD p 0)&& !t.contains p:=by
   refine UU λp hp=> ?_;rw[TH]at hp;rw[hu,hq s (by simp) p hp];cases t.contains p<;>cases fits h s (nl.getD p 0)<;>rfl
  rw[e2];congr 1;funext p;refine aaV hl ss _ _ (λz hz=>hq z (by simp[hz])) λi=> ?_;rw[WG,hu,Vs,X4];simp[eq_comm]
theorem aaK{g:aG->Nat->Bool}{m:Nat}:∀{ys:List aG}{t ns:List Nat},ns∈s8 g m ys t->(∀n∈t,n<m)->ns.length=t.length+ys.length/\∀n∈ns,n<m
 |[],t,ns,h,ht=>by
  simp only[s8,S5]at h;subst h;exact⟨by simp,ht⟩
 |y::ys,t,ns,h,ht=>by
  simp only[s8,S4,Uh,TH]at h;obtain⟨n,⟨hn,_⟩,h⟩:=h;obtain⟨h1,h2⟩:=aaK h (λk hk=>by
   rcases SN.1 hk with h'|h'
   ·exact ht k h'
   ·rw[S5.1 h'];exact hn)
  exact⟨by rw[h1];simp;omega,h2⟩
end Go.Gg.Tk
namespace Go.Gg.Tk
structure wA (x:ai)(h:List Int):Prop where
 lo:2<=h.length
 hi:h.length<=4
 head:h.headD 0=x.first
 span:h.getLastD 0<=x.first+9
 pad:jz (cM h)
theorem aa0{h:List Int}(hl:2<=h.length):(cM h).getD 0 0=h.headD 0:=by
 match h,hl with
 |a::b::l,_=>rfl
theorem aa1{h:List Int}(hl:2<=h.length)(h4:h.length<=4):(cM h).getD 3 0=h.getLastD 0:=by
 match h,hl,h4 with
 |[a,b],_,_=>rfl
 |[a,b,c],_,_=>rfl
 |[a,b,c,d],_,_=>rfl
theorem ang{h:List Int}{n:Int}(hl:2<=h.length)(h4:h.length<=4):ju (cM h) n=ju h n:=by
 match h,hl,h4 with
 |[a,b],_,_=>exact MV (i:=0) (k:=2) (z:=b) (h:=[a,b]) (n:=n) rfl (by simp)
 |[a,b,c],_,_=>exact MV (i:=0) (k:=1) (z:=c) (h:=[a,b,c]) (n:=n) rfl (by simp)
 |[a,b,c,d],_,_=>exact MV (i:=0) (k:=0) (z:=d) (h:=[a,b,c,d]) (n:=n) rfl (by simp)
def oF (h:List Int):Nat:=(h.getLastD 0-h.headD 0).toNat
theorem HS{x:ai}{h:List Int}(hh:wA x h)(y:aG){n:Nat}(hn:n<9):(bZ (cM h) y).testBit n=(decide (n<oF h)&&fits h y (h.headD 0+(n:Int))):=by
 unfold bZ;rw[A6];unfold lD fits;rw[aa0 hh.lo,aa1 hh.lo hh.hi,ang hh.lo hh.hi];have e1:decide (n<9)=true:=decide_eq_true hn;have e2:decide (h.headD 0+(n:Int)<h.getLastD 0)=decide (n<oF h):=by
  unfold oF;rw[UL];simp only[decide_eq_true_eq];omega
 rw[e1,e2,U0];by_cases hm:n<oF h
 ·have e3:0<=ju h (h.headD 0+(n:Int)):=by
   unfold oF at hm;refine MU (a:=h.headD 0) ?_ (by omega) (by omega);have:=hh.lo
   match h,this with
   |a::b::l,_=>rfl
  rw[decide_eq_true e3,decide_eq_true hm];simp
 ·rw[decide_eq_false hm];simp
theorem aaE{x:ai}{h:List Int}(hh:wA x h):mW h x.pieces []=(gp x (cM h)).map λl=>l.map λi:Nat=>h.headD 0+(i:Int):=by
 have E_:oF h<=9:=by unfold oF;have:=hh.span;have:=hh.head;omega
 have e1:gp x (cM h)=s8 (λy n=>fits h y (h.headD 0+(n:Int))) (oF h) x.pieces []:=
  LN E_ x.pieces 0 [] (λy _ n hn=>HS hh y hn) (by simp)
 rw[e1];exact aaF (a:=h.headD 0) rfl x.pieces [] λy _ n _=>rfl
end Go.Gg.Tk
namespace Go.Gg.Tk
theorem amL{x:ai}{h:List Int}(hh:wA x h){ns:List Nat}(hn:ns∈gp x (cM h)):ns.length=x.pieces.length/\∀n∈ns,n<oF h:=by
 have E_:oF h<=9:=by unfold oF;have:=hh.span;have:=hh.head;omega
 have e1:gp x (cM h)=s8 (λy n=>fits h y (h.headD 0+(n:Int))) (oF h) x.pieces []:=
  LN E_ x.pieces 0 [] (λy _ n hn=>HS hh y hn) (by simp)
 rw[e1]at hn;have:=aaK hn (by simp);exact⟨by simpa using this.1,this.2⟩
theorem anc{x:ai}{h:List Int}(hh:wA x h){ns:List Nat}(hn:ns∈gp x (cM h)):iu x (cM h) ns=pB h (ns.map λi:Nat=>h.headD 0+(i:Int)) x.aB []:=by
 obtain⟨h1,h2⟩:=amL hh hn;have E_:oF h<=9:=by unfold oF;have:=hh.span;have:=hh.head;omega
 unfold iu;rw[<- h1];refine aaV (by simp) x.aB 0 [] (λs _ p hp=> ?_) (by simp);have rf:ns.getD p 0=ns[p]:=by rw[SF,SV hp];rfl
 have hlt:=h2 ns[p] (VM hp);have hg2:(ns.map λi:Nat=>h.headD 0+(i:Int)).getD p 0=h.headD 0+(ns[p]:Int):=by
  rw[SF,Ti,SV hp];rfl
 rw[rf,hg2,HS hh s (by omega),decide_eq_true hlt,U0]
def eT (t:Tr):List Int:=dB (cM t.bH) (t.aA.map λn=>(n-t.bH.headD 0).toNat) t.b9
theorem acI{x:ai}{h:List Int}(hh:wA x h){ns:List Nat}(hn:ns∈gp x (cM h)):(Dd x h (ns.map λi:Nat=>h.headD 0+(i:Int))).map eT=(iu x (cM h) ns).map (dB (cM h) ns):=by
 unfold Dd;rw[Xh,anc hh hn];refine U9 λos _=> ?_;unfold eT;simp only[VF,Xh];congr 1
 conv=>rhs;rw[<- List.map_id ns]
 refine U9 λn _=> ?_;simp only[VF,id];omega
theorem Bj{α β:Type}{l:List α}{f g:α->List β}(h:∀a∈l,f a=g a):l.flatMap f=l.flatMap g:=by
 rw[We,We,U9 h]
theorem acp{α:Type}:∀ll:List (List α),(ll.map (·.take 1)).flatten.take 1=ll.flatten.take 1
 |[]=>rfl
 |[]::ll=>by simpa using acp ll
 |(a::l)::ll=>by simp
theorem aqS{x:ai}{h:List Int}{deep:Int}(hh:wA x h):jv x deep (cM h)=(rS x deep h).map eT:=by
 have e2:(oL x h).map eT=(((gp x (cM h)).map λns=>(iu x (cM h) ns).map λos=>dB (cM h) ns os)).flatten:=by
  unfold oL;rw[aaE hh,Wc,U3,<- We];exact Bj λns hn=>acI hh hn
 have e1:(uM x h).map eT=(((gp x (cM h)).map λns=>(iu x (cM h) ns).map λos=>dB (cM h) ns os).map (·.take 1)).flatten:=by
  unfold uM;rw[aaE hh,Wc,U3,Xh,<- We];refine Bj λns hn=> ?_;simp only[VF];rw[Vy,acI hh hn]
 unfold jv rS;dsimp only;split
 ·rw[Vy,e1,acp]
 ·split
  ·exact e1.symm
  ·exact e2.symm
end Go.Gg.Tk
namespace Go.Gg.Tk
theorem zh{x:ai}:∀(d:Nat)(pre h:List Int),pre≠[]->h∈kG x d pre->h.length=pre.length+d/\h.headD 0=pre.headD 0
 |0,pre,h,_,hm=>by
  unfold kG at hm;split at hm
  ·rw[S5]at hm;subst hm;exact⟨rfl,rfl⟩
  ·cases hm
 |d+1,pre,h,hp,hm=>by
  unfold kG at hm;split at hm
  ·obtain⟨n,_,hm⟩:=S4.1 hm;obtain⟨h1,h2⟩:=zh d _ h (by simp) hm;refine⟨by rw[h1];simp;omega,h2.trans ?_⟩
   match pre,hp with
   |a::l,_=>rfl
  ·cases hm
theorem QK{x:ai}{t:Nat}(hx:x.Ok)(ht:t<x.am.toNat+1){h:List Int}(hm:h∈vJ x t):wA x h:=by
 have hh:=hx.hours;have Fh:cM h∈kH x t:=by rw[QQ hh.1 ht];exact Th.2 ⟨h,hm,rfl⟩
 have h4:=QI hx Fh;unfold vJ at hm;split at hm
 ·obtain⟨h1,h2⟩:=zh _ _ _ (by simp) hm;have pc:2<=h.length:=by rw[h1];simp
  have EU:h.length<=4:=by rw[h1];simp;omega
  have yO:h.headD 0=x.first:=h2;refine⟨pc,EU,yO, ?_,h4⟩;have:=h4.span;rw[aa0 pc,aa1 pc EU,yO]at this;exact this
 ·cases hm
theorem acT{x:ai}{deep:Int}(hx:x.Ok):((SX (x.am.toNat+1)).flatMap λt=>G3 x deep t)=(aH x).flatMap (rS x deep):=by
 unfold G3;rw[<- ajC hx.hours.1,List.flatMap_assoc]
end Go.Gg.Tk
namespace Go.Gg.Tk
theorem adZ{l:List Nat}{i v p n:Nat}(hi:i<l.length):((oT l i v).getD p 0).testBit n=((l.getD p 0).testBit n||(decide (p=i)&&decide (n=v))):=by
 unfold oT;rw[SF,UD];by_cases h:i=p
 ·subst h;rw[if_pos rfl,if_pos hi,S6,WG,Vs];simp[eq_comm]
 ·rw[if_neg h,<- SF];have:¬p=i:=λe=>h e.symm;simp[this]
def si (v:Nat->Nat):Nat->List Nat->List Nat
 |0,l=>l
 |k+1,l=>oT (si v k l) k (v k)
theorem aaI(t:List Int)(l:List Nat):∀k,rI t k l=si (my t) k l
 |0=>rfl
 |k+1=>by rw[rI,si,aaI t l k]
theorem aa2(t:List Int)(l:List Nat):∀k,mX t k l=si (rP t) k l
 |0=>rfl
 |k+1=>by rw[mX,si,aa2 t l k]
theorem NE(v:Nat->Nat)(l:List Nat):∀k,(si v k l).length=l.length
 |0=>rfl
 |k+1=>by rw[si,A2,NE v l k]
theorem HE{v:Nat->Nat}{l:List Nat}{p n:Nat}:∀k,k<=l.length->((si v k l).getD p 0).testBit n=((l.getD p 0).testBit n||(decide (p<k)&&decide (n=v p)))
 |0,_=>by simp[si]
 |k+1,h=>by
  rw[si,adZ (by rw[NE];omega),HE k (by omega)];by_cases hp:p=k
  ·subst hp;simp
  ·have e:(p<k+1)<->p<k:=(by omega);simp[hp,e]
theorem aaS{l m:List Nat}{p n:Nat}(h:l.length=m.length):((lT l m).getD p 0).testBit n=((l.getD p 0).testBit n||(m.getD p 0).testBit n):=by
 unfold lT;rw[SF,List.getElem?_zipWith,SF,SF];by_cases hp:p<l.length
 ·rw[SV hp,SV (by omega)];simp[WG]
 ·rw[Us (by omega),Us (by omega)];simp
theorem abb{hs:List (List Int)}{h g:List Int}:g∈iG hs h<->g∈hs\/g=h:=by
 unfold iG;split
 ·rename_i hm;exact⟨.inl,λe=>e.elim id λe=>e▸hm⟩
 ·rw[SN,S5]
theorem Pu{g:List Int}:∀{l hs:List (List Int)},g∈l.foldl iG hs<->g∈hs\/g∈l
 |[],hs=>by simp
 |a::l,hs=>by
  rw[Ux,Pu,abb,SK,or_assoc]
theorem ae5(Q:Kn)(t:List Int):(iM Q t).has=true:=by
 unfold iM;cases h:Q.has
 ·rfl
 ·rw[if_pos rfl];exact h
theorem acs(x:ai)(deep:Int)(Q:Kn)(t:List Int):(eF x deep Q t).has=true:=by
 have:=ae5 Q t;unfold eF;dsimp only;split
 ·exact this
 ·split<;>exact this
theorem Pz{x:ai}{deep:Int}:∀(ts:List (List Int))(Q:Kn),(ts.foldl (eF x deep) Q).has=(Q.has|| !ts.isEmpty)
 |[],Q=>by simp
 |t::ts,Q=>by rw[Ux,Pz ts,acs];simp
theorem ak1{F G:Kn}{hs:List (List Int)}:(gS F hs G).has=(F.has||G.has):=by
 unfold gS;cases h:G.has
 ·simp
 ·simp
end Go.Gg.Tk
namespace Go.Gg.Tk
theorem aql{x:ai}{Q:Kn}{t g:List Int}:g∈(eF x 0 Q t).aH<->g∈Q.aH\/g=t.take 4:=by
 have hB:(iM Q t).aH=Q.aH:=by unfold iM;split<;>rfl
 unfold eF;dsimp only;rw[if_neg (by decide),if_pos rfl,abb,hB]
theorem Pw{x:ai}{g:List Int}:∀(ts:List (List Int))(Q:Kn),g∈(ts.foldl (eF x 0) Q).aH<->g∈Q.aH\/∃t∈ts,g=t.take 4
 |[],Q=>by simp
 |t::ts,Q=>by
  rw[Ux,Pw ts,aql];constructor
  ·rintro((h|h)|⟨u,h1,h2⟩)
   ·exact .inl h
   ·exact .inr ⟨t,by simp,h⟩
   ·exact .inr ⟨u,by simp[h1],h2⟩
  ·rintro(h|⟨u,h1,h2⟩)
   ·exact .inl (.inl h)
   ·rcases SK.1 h1 with rfl|h1
    ·exact .inl (.inr h2)
    ·exact .inr ⟨u,h1,h2⟩
def fh (x:ai)(deep:Int)(j:Nat):List (List Int):=(kH x j).flatMap (jv x deep)
theorem G2(x:ai)(deep:Int)(j:Nat):gT x deep j=(fh x deep j).foldl (eF x deep) Kn.zero:=rfl
theorem Di(x:ai)(deep:Int)(j:Nat):(gT x deep j).has= !(fh x deep j).isEmpty:=by
 rw[G2,Pz];rfl
theorem arf{x:ai}{j:Nat}{g:List Int}:g∈(gT x 0 j).aH<->∃t∈fh x 0 j,g=t.take 4:=by
 rw[G2,Pw];simp[Kn.zero]
theorem Sd{x:ai}{deep:Int}{js:List Nat}{D:Kn}(h:m9 x deep js D):D.has=js.any λj=> !(fh x deep j).isEmpty:=by
 induction h with
 |nil=>rfl
 |snoc h hp ih=>rw[ak1,ih,Di,YK];simp
theorem ak2{x:ai}{js:List Nat}{D:Kn}{g:List Int}(h:m9 x 0 js D):g∈D.aH<->∃j∈js,∃t∈fh x 0 j,g=t.take 4:=by
 induction h with
 |nil=>simp[Kn.zero]
 |@snoc js F j hs h hp ih=>
  have key:g∈(gS F hs (gT x 0 j)).aH<->g∈F.aH\/∃t∈fh x 0 j,g=t.take 4:=by
   unfold gS;split
   ·show g∈hs.foldl iG F.aH<->_;rw[Pu,hp.mem_iff,arf]
   ·rename_i hn;rw[Di]at hn;have:fh x 0 j=[]:=(by simpa using hn);rw[this];simp
  rw[key,ih];constructor
  ·rintro(⟨i,h1,h2⟩|h2)
   ·exact⟨i,by simp[h1],h2⟩
   ·exact⟨j,by simp,h2⟩
  ·rintro⟨i,h1,h2⟩
   rcases SN.1 h1 with h1|h1
   ·exact .inl ⟨i,h1,h2⟩
   ·rw[S5.1 h1]at h2;exact .inr h2
theorem Pv:∀{l hs:List (List Int)},hs.Nodup->(l.foldl iG hs).Nodup
 |[],hs,h=>h
 |a::l,hs,h=>by rw[Ux];exact Pv (abc h)
theorem ak5{x:ai}{deep:Int}{js:List Nat}{D:Kn}(h:m9 x deep js D):D.aH.Nodup:=by
 induction h with
 |nil=>exact V_
 |snoc h hp ih=>
  unfold gS;split
  ·exact Pv ih
  ·exact ih
end Go.Gg.Tk
namespace Go.Gg.Tk
theorem Eo{x:ai}{deep:Int}{t:Nat}(hx:x.Ok)(ht:t<x.am.toNat+1):fh x deep t=(G3 x deep t).map eT:=by
 unfold fh G3;rw[QQ hx.hours.1 ht,Wc,U3];exact Bj λh hm=>aqS (QK hx ht hm)
def oU (x:ai)(deep:Int):List Tr:=(aH x).flatMap (rS x deep)
theorem zH{x:ai}{deep:Int}{js:List Nat}{p:Nat}(hx:x.Ok)(hp:x.am=p)(dp:js.Perm (SX (p+1))){t:List Int}:(∃j∈js,t∈fh x deep j)<->∃u∈oU x deep,t=eT u:=by
 have nJ:x.am.toNat=p:=by omega
 unfold oU;rw[<- acT hx,nJ];constructor
 ·rintro⟨j,h1,h2⟩
  have hj:=dp.mem_iff.1 h1;rw[Eo hx (by rw[nJ];simpa using hj)]at h2;obtain⟨u,h3,rfl⟩:=Th.1 h2;exact⟨u,S4.2 ⟨j,hj,h3⟩,rfl⟩
 ·rintro⟨u,h1,rfl⟩
  obtain⟨j,hj,h3⟩:=S4.1 h1;refine⟨j,dp.mem_iff.2 hj, ?_⟩;rw[Eo hx (by rw[nJ];simpa using hj)];exact Th.2 ⟨u,h3,rfl⟩
theorem Dc{x:ai}{deep:Int}{h:List Int}{u:Tr}(hu:u∈rS x deep h):u∈oL x h:=by
 have h1:∀u,u∈uM x h->u∈oL x h:=λu hu=>by
  unfold uM at hu;obtain⟨ns,h1,h2⟩:=S4.1 hu;exact S4.2 ⟨ns,h1,VL h2⟩
 unfold rS at hu;split at hu
 ·exact h1 u (VL hu)
 ·split at hu
  ·exact h1 u hu
  ·exact hu
theorem yb{x:ai}{h:List Int}{u:Tr}(hu:u∈oL x h):u.bH=h:=by
 obtain⟨ns,_,h2⟩:=S4.1 hu;obtain⟨os,_,rfl⟩:=Th.1 h2;rfl
theorem Pr{α β:Type}{f:α->List β}:∀{l:List α},(l.flatMap λa=>(f a).take 1)=[]<->l.flatMap f=[]
 |[]=>by simp
 |a::l=>by
  rw[Ua,Ua,XP,XP,Pr,X2];simp
theorem acH{x:ai}{deep:Int}{h:List Int}:rS x deep h=[]<->oL x h=[]:=by
 have h1:uM x h=[]<->oL x h=[]:=Pr;unfold rS;split
 ·rw[X2,h1];simp
 ·split
  ·exact h1
  ·exact Iff.rfl
theorem ad7{x:ai}{deep:Int}:oU x deep=[]<->cg x=[]:=by
 unfold oU cg;rw[Wd,Wd];exact forall_congr' λh=>forall_congr' λ_=>acH
theorem ad9{x:ai}{deep:Int}{js:List Nat}:(js.any λj=> !(fh x deep j).isEmpty)=true<->∃t,∃j∈js,t∈fh x deep j:=by
 rw[Uw];constructor
 ·rintro⟨j,h1,h2⟩
  cases hg:fh x deep j with
  |nil=>rw[hg]at h2;cases h2
  |cons t l=>exact⟨t,j,h1,by rw[hg];simp⟩
 ·rintro⟨t,j,h1,h2⟩
  refine⟨j,h1, ?_⟩;cases hg:fh x deep j with
  |nil=>rw[hg]at h2;cases h2
  |cons=>rfl
end Go.Gg.Tk
namespace Go.Gg
open Go.Gg.Tk
theorem FN{x:ai}{deep:Int}{D:Kn}(hx:x.Ok)(h:dZ x deep D):D.has= !(cg x).isEmpty:=by
 obtain⟨p,js,h1,h2,h3,_⟩:=h;rw[Sd h3,UL,ad9];have key:(∃t,∃j∈js,t∈fh x deep j)<->oU x deep≠[]:=by
  constructor
  ·rintro⟨t,h⟩ he
   obtain⟨u,hu,_⟩:=(zH hx h1 h2).1 h;rw[he]at hu;cases hu
  ·intro aE;obtain⟨u,hu⟩:=Xw _ aE;exact⟨eT u,(zH hx h1 h2).2 ⟨u,hu,rfl⟩⟩
 rw[key,ne_eq,ad7];cases cg x<;>simp
theorem alc{x:ai}{D:Kn}(hx:x.Ok)(h:dZ x 0 D){g:List Int}:g∈D.aH<->∃u∈cg x,g=(eT u).take 4:=by
 obtain⟨p,js,h1,h2,h3,_⟩:=h;rw[ak2 h3];have e:(∃j∈js,∃t∈fh x 0 j,g=t.take 4)<->∃t,(∃j∈js,t∈fh x 0 j)/\g=t.take 4:=by
  constructor
  ·rintro⟨j,a,t,b,c⟩;exact⟨t,⟨j,a,b⟩,c⟩
  ·rintro⟨t,⟨j,a,b⟩,c⟩;exact⟨j,a,t,b,c⟩
 rw[e];have aF:∀u:Tr,u∈cg x->(eT u).take 4=cM u.bH:=λu hu=>by
  obtain⟨h,hm,lP⟩:=S4.1 hu;have hl:h.length=1+x.hours.toNat:=(zh _ _ _ (by simp) hm).1;have hh:=hx.hours;have h4:(cM u.bH).length=4:=by
   rw[yb lP];simp[cM];omega
  unfold eT dB;rw[SC,Tq (by omega),SW (by omega)]
 have lO:∀u,u∈oU x 0->u∈cg x:=λu hu=>by
  obtain⟨h,a,b⟩:=S4.1 hu;exact S4.2 ⟨h,a,Dc b⟩
 constructor
 ·rintro⟨t,a,rfl⟩
  obtain⟨u,hu,rfl⟩:=(zH hx h1 h2).1 a;exact⟨u,lO u hu,rfl⟩
 ·rintro⟨u,hu,rfl⟩
  obtain⟨h,hm,lP⟩:=S4.1 hu;have aE:rS x 0 h≠[]:=λe=>by
   rw[acH]at e;rw[e]at lP;cases lP
  obtain⟨v,hv⟩:=Xw _ aE;have sU:v∈oU x 0:=S4.2 ⟨h,hm,hv⟩;refine⟨eT v,(zH hx h1 h2).2 ⟨v,sU,rfl⟩, ?_⟩;rw[aF u hu,aF v (lO v sU),yb lP,yb (Dc hv)]
end Go.Gg
namespace Go.Gg.Tk
theorem N3(Q:Kn)(t:List Int):(iM Q t).aA=Q.aA/\(iM Q t).hours=Q.hours/\(iM Q t).less=Q.less/\(iM Q t).aV=Q.aV:=by
 unfold iM;split<;>exact⟨rfl,rfl,rfl,rfl⟩
theorem aqm{x:ai}{Q:Kn}{t:List Int}{p n:Nat}(hx:x.Ok)(hQ:bP Q)(hp:p<x.pieces.length):((eF x 1 Q t).aA.getD p 0).testBit n=((Q.aA.getD p 0).testBit n||decide (n=my t p)):=by
 have h:(eF x 1 Q t).aA=rI t x.pieces.length Q.aA:=by
  rw[<- (N3 Q t).1];rfl
 rw[h,aaI,HE _ (by rw[hQ.aA];exact hx.dI),decide_eq_true hp,U0]
theorem aqn{x:ai}{Q:Kn}{t:List Int}{s n:Nat}(hx:x.Ok)(hQ:bP Q)(hs:s<x.aB.length):((eF x 2 Q t).aV.getD s 0).testBit n=((Q.aV.getD s 0).testBit n||decide (n=rP t s)):=by
 have h:(eF x 2 Q t).aV=mX t x.aB.length Q.aV:=by
  rw[<- (N3 Q t).2.2.2];rfl
 rw[h,aa2,HE _ (by rw[hQ.aV];exact hx.fD),decide_eq_true hs,U0]
theorem Px{x:ai}{deep:Int}(hx:x.Ok){f:Kn->Bool}{g:List Int->Bool}(h:∀Q t,bP Q->iL x t->f (eF x deep Q t)=(f Q||g t)):∀(ts:List (List Int))(Q:Kn),bP Q->(∀t∈ts,iL x t)->f (ts.foldl (eF x deep) Q)=(f Q||ts.any g)
 |[],Q,_,_=>by simp
 |t::ts,Q,hQ,ht=>by
  rw[Ux,Px hx h ts _ (MR hx (ht t (by simp)) hQ) (λu hu=>ht u (by simp[hu])),h Q t hQ (ht t (by simp)),X6,Bool.or_assoc]
theorem PN{x:ai}{deep:Int}{j:Nat}(hx:x.Ok)(hj:j<=3){t:List Int}(ht:t∈fh x deep j):iL x t:=by
 obtain⟨h,h1,h2⟩:=S4.1 ht;obtain⟨ns,h3,h4⟩:=GQ h2;exact((Am hx) j hj h h1).2 ns h3 t h4
theorem ak3{x:ai}{deep:Int}(hx:x.Ok){f:Kn->Bool}{g:List Int->Bool}(h0:f Kn.zero=false)(h:∀Q t,bP Q->iL x t->f (eF x deep Q t)=(f Q||g t))(hj:∀F G hs,bP F->bP G->G.has=true->f (gS F hs G)=(f F||f G)){js:List Nat}{D:Kn}(dp:∀j∈js,j<=3)(hD:m9 x deep js D):bP D/\f D=js.any λj=>(fh x deep j).any g:=by
 induction hD with
 |nil=>exact⟨CB,by simpa using h0⟩
 |@snoc js F j hs hJ hp ih=>
  obtain⟨mT,ln⟩:=ih λi hi=>dp i (by simp[hi]);have QR:j<=3:=dp j (by simp);have ay:bP (gT x deep j):=M7 hx ((Am hx) j QR);refine⟨Sa mT ay hp, ?_⟩;have hw:f (gT x deep j)=(fh x deep j).any g:=by
   rw[G2,Px hx h _ _ CB (λt ht=>PN hx QR ht),h0,YG]
  rw[YK,<- ln];simp only[X6,List.any_nil,Bool.or_false];cases hG:(gT x deep j).has with
  |true=>rw[hj F _ hs mT ay hG,hw]
  |false=>
   have hn:fh x deep j=[]:=by
    rw[Di]at hG;simpa using hG
   rw[hn];unfold gS;rw[hG];simp
end Go.Gg.Tk
namespace Go.Gg
open Go.Gg.Tk
theorem Si{x:ai}{deep:Int}(hx:x.Ok){f:Kn->Bool}{g:List Int->Bool}(h0:f Kn.zero=false)(h:∀Q t,bP Q->iL x t->f (eF x deep Q t)=(f Q||g t))(hj:∀F G hs,bP F->bP G->G.has=true->f (gS F hs G)=(f F||f G)){D:Kn}(hD:dZ x deep D):f D=true<->∃u∈oU x deep,g (eT u)=true:=by
 obtain⟨p,js,h1,h2,h3,_⟩:=hD;have hp:=hx.am;have dp:∀j∈js,j<=3:=λj hm=>by
  have:=h2.mem_iff.1 hm;rw[TH]at this;omega
 rw[(ak3 hx h0 h hj dp h3).2,Uw];constructor
 ·rintro⟨j,a,b⟩
  obtain⟨t,c,d⟩:=Uw.1 b;obtain⟨u,hu,rfl⟩:=(zH hx h1 h2).1 ⟨j,a,c⟩;exact⟨u,hu,d⟩
 ·rintro⟨u,hu,d⟩
  obtain⟨j,a,c⟩:=(zH hx h1 h2).2 ⟨u,hu,rfl⟩;exact⟨j,a,Uw.2 ⟨_,c,d⟩⟩
theorem ale{x:ai}{D:Kn}{s n:Nat}(hx:x.Ok)(hD:dZ x 2 D)(hs:s<x.aB.length):(D.aV.getD s 0).testBit n=true<->∃u∈cg x,rP (eT u) s=n:=by
 have aQ:=hx.fD;have e:oU x 2=cg x:=rfl;rw[<- e,Si (f:=λK=>(K.aV.getD s 0).testBit n) (g:=λt=>decide (n=rP t s)) hx ?_ (λQ t hQ _=>aqn hx hQ hs) (λF G po hF hG hh=> ?_) hD]
 ·exact exists_congr λu=>and_congr_right λ_=>by rw[decide_eq_true_eq];exact eq_comm
 ·have:([0,0,0]:List Nat).getD s 0=0:=by
   match s,(show s<3 by omega)with
   |0,_=>rfl
   |1,_=>rfl
   |2,_=>rfl
  show (([0,0,0]:List Nat).getD s 0).testBit n=false;rw[this];exact YH n
 ·have e2:(gS F po G).aV=lT F.aV G.aV:=by unfold gS;rw[if_pos hh]
  rw[e2];exact aaS (by rw[hF.aV,hG.aV])
theorem ad5{x:ai}{P:List Int->List Int->Prop}:(∃u∈oU x 1,P u.bH u.aA)<->∃u∈cg x,P u.bH u.aA:=by
 constructor
 ·rintro⟨u,hu,hp⟩
  obtain⟨h,a,b⟩:=S4.1 hu;exact⟨u,S4.2 ⟨h,a,Dc b⟩,hp⟩
 ·rintro⟨u,hu,hp⟩
  obtain⟨h,a,b⟩:=S4.1 hu;obtain⟨ns,c,d⟩:=S4.1 b;obtain⟨os,c2,rfl⟩:=Th.1 d;cases ho:pB h ns x.aB []with
  |nil=>rw[ho]at c2;cases c2
  |cons o os'=>
   refine⟨⟨h,ns,o⟩,S4.2 ⟨h,a, ?_⟩,hp⟩;show _∈uM x h;refine S4.2 ⟨ns,c, ?_⟩;unfold Dd;rw[ho];simp
theorem aaH{h:List Int}:∀{ys:List aG}{t ns:List Int},ns∈mW h ys t->ns.length=t.length+ys.length
 |[],t,ns,hm=>by
  simp only[mW,S5]at hm;subst hm;rfl
 |y::ys,t,ns,hm=>by
  simp only[mW,S4]at hm;obtain⟨n,_,hm⟩:=hm;have:=aaH hm;simp at this⊢;omega
theorem wm{x:ai}(hx:x.Ok){u:Tr}(hu:u∈cg x):u.bH.length=1+x.hours.toNat/\u.aA.length=x.pieces.length:=by
 obtain⟨h,a,b⟩:=S4.1 hu;obtain⟨ns,c,d⟩:=S4.1 b;obtain⟨os,_,rfl⟩:=Th.1 d;exact⟨(zh _ _ _ (by simp) a).1,by simpa using aaH c⟩
theorem xT{h:List Int}(h4:h.length<=4):(cM h).length=4:=by simp[cM];omega
theorem agn{x:ai}(hx:x.Ok){u:Tr}(hu:u∈cg x){p:Nat}(hp:p<x.pieces.length):my (eT u) p=(u.aA.getD p 0-u.bH.headD 0).toNat:=by
 obtain⟨h1,h2⟩:=wm hx hu;have hh:=hx.hours;have h4:=xT (h:=u.bH) (by omega);have dQ:p<u.aA.length:=by omega
 have hg:(eT u)[4+p]?=some (((u.aA[p]-u.bH.headD 0).toNat:Nat):Int):=by
  unfold eT dB lq;rw[SC,Tg (by omega),h4,Ve,SY (by simp;omega),SY (by simpa using dQ),Ti,Ti,SV dQ];rfl
 unfold my;rw[SF,hg,SF,SV dQ];rfl
theorem aru{p:Nat}(hp:p<4):([0,0,0,0]:List Nat).getD p 0=0:=by
 match p,hp with
 |0,_=>rfl
 |1,_=>rfl
 |2,_=>rfl
 |3,_=>rfl
theorem ald{x:ai}{D:Kn}{p n:Nat}(hx:x.Ok)(hD:dZ x 1 D)(hp:p<x.pieces.length):(D.aA.getD p 0).testBit n=true<->∃u∈cg x,(u.aA.getD p 0-u.bH.headD 0).toNat=n:=by
 have oC:=hx.dI;rw[Si (f:=λK=>(K.aA.getD p 0).testBit n) (g:=λt=>decide (n=my t p)) hx ?_ (λQ t hQ _=>aqm hx hQ hp) (λF G po hF hG hh=> ?_) hD]
 ·rw[<- ad5 (P:=λh ns=>(ns.getD p 0-h.headD 0).toNat=n)];refine exists_congr λu=>and_congr_right λhu=> ?_;obtain⟨h,a,b⟩:=S4.1 hu;have hu2:u∈cg x:=S4.2 ⟨h,a,Dc b⟩;rw[decide_eq_true_eq,agn hx hu2 hp];exact eq_comm
 ·show (([0,0,0,0]:List Nat).getD p 0).testBit n=false;rw[aru (by omega)];exact YH n
 ·have e2:(gS F po G).aA=lT F.aA G.aA:=by unfold gS;rw[if_pos hh]
  rw[e2];exact aaS (by rw[hF.aA,hG.aA])
theorem aaG{h:List Int}:∀{ys:List aG}{t ns:List Int},ns∈mW h ys t->(∀n∈t,h.headD 0<=n)->∀n∈ns,h.headD 0<=n
 |[],t,ns,hm,ht=>by
  simp only[mW,S5]at hm;subst hm;exact ht
 |y::ys,t,ns,hm,ht=>by
  simp only[mW,S4,Uh]at hm;obtain⟨n,⟨hn,_⟩,hm⟩:=hm;refine aaG hm λk hk=> ?_;rcases SN.1 hk with h'|h'
  ·exact ht k h'
  ·rw[S5.1 h'];obtain⟨i,_,rfl⟩:=Th.1 hn;omega
theorem aqU{x:ai}{u:Tr}(hu:u∈cg x):∀n∈u.aA,u.bH.headD 0<=n:=by
 obtain⟨h,a,b⟩:=S4.1 hu;obtain⟨ns,c,d⟩:=S4.1 b;obtain⟨os,_,rfl⟩:=Th.1 d;exact aaG c (by simp)
theorem agm{x:ai}(hx:x.Ok){u:Tr}(hu:u∈cg x){p:Nat}(hp:p<x.pieces.length):(eT u).getD (4+p) 0=u.aA.getD p 0-u.bH.headD 0:=by
 obtain⟨h1,h2⟩:=wm hx hu;have hh:=hx.hours;have h4:=xT (h:=u.bH) (by omega);have dQ:p<u.aA.length:=by omega
 have uc:=aqU hu u.aA[p] (VM dQ);have hg:(eT u)[4+p]?=some (((u.aA[p]-u.bH.headD 0).toNat:Nat):Int):=by
  unfold eT dB lq;rw[SC,Tg (by omega),h4,Ve,SY (by simp;omega),SY (by simpa using dQ),Ti,Ti,SV dQ];rfl
 rw[SF,hg,SF,SV dQ];simp only[S6];omega
namespace Tk
structure Nn (x:ai)(u:Tr):Prop where
 bH:mC x.first x.am u.bH x.hours.toNat
 seen:∀s∈x.seen,kM s.next (u.bH.getD s.hour.toNat 0)=true
 xQ:u.aA.length=x.pieces.length
 piece:∀(p:Nat) y,x.pieces[p]?=some y->fits u.bH y (u.aA.getD p 0)=true
 LM:u.aA.Nodup
 zW:u.b9.length=x.aB.length
 own:∀v∈u.b9,v<x.pieces.length
 stub:∀(s:Nat) y,x.aB[s]?=some y->fits u.bH y (u.aA.getD (u.b9.getD s 0) 0)=true
 LV:u.b9.Nodup
theorem _root_.Go.Gg.mC.mono{first am:Int}{l:List Int}{i:Nat}(h:mC first am l i):tC l:=amy λj hj=>(h.step j (by have:=h.len;omega)).1
theorem QP{x:ai}(hx:x.Ok){h:List Int}:h∈aH x<->mC x.first x.am h x.hours.toNat/\∀s∈x.seen,kM s.next (h.getD s.hour.toNat 0)=true:=by
 have hp:=hx.am;unfold aH;rw[JZ _ _ _ (by simp)];simp only[TQ];constructor
 ·rintro⟨h1,h2,h3⟩
  have h4:=(GN (pre:=[]) (v:=x.first)).1 h2;refine⟨⟨by omega,h4.2.2,λj hj=> ?_⟩,λs hs=> ?_⟩
  ·obtain⟨n,hn,e⟩:=(h3 j (by omega) (by omega)).2 (by omega);omega
  ·have hsr:=(hx.seen s hs).1;have:=(h3 s.hour.toNat (by omega) (by omega)).1;unfold rM at this;have:=Tp.1 this s hs;have e:s.hour=(s.hour.toNat:Int):=(by omega);rw[<- e]at this;simpa using this
 ·rintro⟨h1,h2⟩
  have hl:=h1.len;refine⟨by omega,(GN (pre:=[]) (v:=x.first)).2 ⟨rfl,by simp;omega,h1.head⟩,λj _ hj=>⟨?_,λEY=> ?_⟩⟩
  ·unfold rM;rw[Tp];intro s hs;by_cases e:s.hour=(j:Int)
   ·have:=h2 s hs;rw[show s.hour.toNat=j by omega]at this;rw[this];simp
   ·simp[e]
  ·have:=h1.step j (by omega);exact⟨(h.getD (j+1) 0-h.getD j 0).toNat,by omega,by omega⟩
theorem aqW{x:ai}{u:Tr}:u∈cg x<->u.bH∈aH x/\u.aA∈mW u.bH x.pieces []/\u.b9∈pB u.bH u.aA x.aB []:=by
 constructor
 ·intro hu;obtain⟨h,a,b⟩:=S4.1 hu;obtain⟨ns,c,d⟩:=S4.1 b;obtain⟨os,e,rfl⟩:=Th.1 d;exact⟨a,c,e⟩
 ·rintro⟨a,b,c⟩
  exact S4.2 ⟨u.bH,a,S4.2 ⟨u.aA,b,Th.2 ⟨u.b9,c,rfl⟩⟩⟩
theorem aiy{l:List Nat}{i:Nat}(h:i<l.length):l.getD i 0∈l:=by
 rw[SF,SV h];exact VM h
theorem amr{x:ai}(hx:x.Ok){u:Tr}:u∈cg x<->Nn x u:=by
 rw[aqW,QP hx];constructor
 ·rintro⟨⟨h1,h2⟩,h3,h4⟩
  have hm:=h1.mono;rw[F' hm]at h3;rw[Gm]at h4;simp only[UA,VK]at h3 h4;obtain⟨a1,_,a3⟩:=h3;obtain⟨b1,_,b3⟩:=h4;refine⟨h1,h2,a1,λp y hy=>(a3 p y hy).1,aaz (d:=0) λi hi=> ?_,b1,λv hv=> ?_,λs y hy=>(b3 s y hy).1,aaz (d:=0) λi hi=> ?_⟩
  ·obtain⟨y,hy⟩:∃y,x.pieces[i]?=some y:=⟨_,SV (by omega)⟩;exact(a3 i y hy).2
  ·obtain⟨i,hi⟩:=Vg hv;have bE:=(SM.1 hi).1;obtain⟨y,hy⟩:∃y,x.aB[i]?=some y:=⟨_,SV (by omega)⟩;have:=(b3 i y hy).2.1;rw[SF,hi]at this;rw[<- a1];exact this
  ·obtain⟨y,hy⟩:∃y,x.aB[i]?=some y:=⟨_,SV (by omega)⟩;exact(b3 i y hy).2.2
 ·intro h;refine⟨⟨h.bH,h.seen⟩, ?_, ?_⟩
  ·rw[F' h.bH.mono];simp only[UA,VK];refine⟨h.xQ,rfl,λi y hy=>⟨h.piece i y hy,PJ ?_ h.LM⟩⟩;have:=(SM.1 hy).1;rw[h.xQ];exact this
  ·rw[Gm];simp only[UA,VK];refine⟨h.zW,rfl,λi y hy=> ?_⟩;have hi:=(SM.1 hy).1;have ud:i<u.b9.length:=(by rw[h.zW];exact hi);exact⟨h.stub i y hy,by rw[h.xQ];exact h.own _ (aiy ud),PJ ud h.LV⟩
end Tk
open Go.Gg.Tk
theorem alp{first am:Int}{l:List Int}{i:Nat}(h:mC first am l i):l.getLastD 0=l.getD i 0:=by
 have hl:=h.len;rw[UT,Xu,SF,hl];rfl
theorem ajs{first am:Int}{l:List Int}{i:Nat}(h:mC first am l i):l.headD 0=first:=by
 have hl:=h.len;have:=h.head;cases l with
 |nil=>cases hl
 |cons a l=>exact this
theorem mC.top{first am:Int}{l:List Int}{i:Nat}(h:mC first am l i)(hf:0<=first/\first<=90)(hp:1<=am/\am<=3)(hi:i<=3):∀j,j<=i->first<=l.getD j 0/\l.getD j 0<=first+9:=λj hj=>by
 have h1:=h.ge (by omega) j hj;have:am* (j:Int)<=3* 3:=Xx (by omega) (by omega) (by omega) (by omega);generalize am* (j:Int)=q at h1 this;omega
theorem aiQ{first am:Int}{l:List Int}{i:Nat}(h:mC first am l i)(hi:1<=i/\i<=3)(hf:0<=first/\first<=90)(hp:1<=am/\am<=3){n:Int}(hn:first<=n/\n<l.getD i 0)(τ:bt):Dy l i n (lG τ l n i):=by
 have hl:=h.len;have hm:=h.mono;have ht:=h.top hf hp hi.2 i (SO _);have hk:=aqJ (n:=n) (by omega) (by omega) hm;have h0:0<=ju l n:=(acD hm).2 (by rw[ajs h,alp h];exact hn);have h1:=acC l 0 h0;have I6:ju l n+1<l.length:=by have:fJ 0 l n=ju l n:=rfl;omega
 have a1:=DV (τ:=τ) (n:=n) (m:=2) (lo:=0) (hi:=99) (by omega) (by omega);have a2:=DV (τ:=tick (tick τ)) (n:=ju l n) (m:=1) (lo:=0) (hi:=(i:Int)-1) (by omega) (by omega);refine⟨a1.1, ?_, ?_⟩
 ·unfold lG;rw[hk];exact a2.1
 ·unfold Tk.fits lG;rw[hk,Td,Td,decide_eq_true_eq];exact⟨⟨h0,a1.2⟩,a2.2⟩
variable {pm:Nat}{x:ai}{bH aA b9:List Int}
theorem Made.Qe(h:Made pm x bH aA b9){n:Int}(hn:n∈aA)(τ:bt):Dy bH x.hours n (lG τ bH n x.hours):=by
 have hh:=h.hours;have:=aiQ h.EX (by omega) h.first h.am (h.num n hn) τ;rw[Int.toNat_of_nonneg (by omega)]at this;exact this
theorem I3{l:List Int}{i:Nat}(h:i<l.length):l.getD i 0∈l:=by
 rw[SF,SV h];exact VM h
theorem Made.NM(h:Made pm x bH aA b9){p:Nat}{y:aG}(hy:x.pieces[p]?=some y):Dy bH x.hours (aA.getD p 0) y:=by
 obtain⟨τ,rfl⟩:=h.piece p y hy;exact h.Qe (I3 (by rw[h.xQ];exact(SM.1 hy).1)) τ
theorem Made.NN(h:Made pm x bH aA b9){s:Nat}{y:aG}(hy:x.aB[s]?=some y):Dy bH x.hours (aA.getD (b9.getD s 0).toNat 0) y:=by
 obtain⟨τ,rfl⟩:=h.stub s y hy;have hs:s<b9.length:=by rw[h.zW];exact(SM.1 hy).1
 have:=h.own _ (I3 hs);exact h.Qe (I3 (by omega)) τ
theorem Made.ok(h:Made pm x bH aA b9)(sO:pm<=4):x.Ok:=by
 have hh:=h.hours;refine⟨h.first,h.hours,h.am,by have:=h.Ac;omega,by have:=h.amz;omega,h.aB,λs hs=> ?_,λy hy=> ?_,λy hy=> ?_⟩
 ·obtain⟨h1,h2,τ,h3⟩:=h.seen s hs;have ht:=h.EX.top h.first h.am (by omega) s.hour.toNat (by omega);have hf:=h.first;rw[h3];exact⟨⟨h1,h2⟩,(DV (by omega) (by omega)).1⟩
 ·obtain⟨p,hp⟩:=Vg hy;have:=h.NM hp;exact⟨this.num,this.hour⟩
 ·obtain⟨p,hp⟩:=Vg hy;have:=h.NN hp;exact⟨this.num,this.hour⟩
def abk (bH aA b9:List Int):Tr:=⟨bH,aA,b9.map Xp⟩
theorem Made.aqR(h:Made pm x bH aA b9):Nn x (abk bH aA b9):=by
 have hh:=h.hours;have pj:∀s,s<b9.length->(b9.map Xp).getD s 0=(b9.getD s 0).toNat:=λs hs=>by
  rw[SF,SF,Ti,SV hs];rfl
 refine⟨h.EX,λs hs=> ?_,h.xQ,λp y hy=>(h.NM hy).fits,h.LM,by show (b9.map Xp).length=_;rw[Tj];exact h.zW,λv hv=> ?_,λs y hy=> ?_, ?_⟩
 ·obtain⟨h1,h2,τ,h3⟩:=h.seen s hs;have ht:=h.EX.top h.first h.am (by omega) s.hour.toNat (by omega);have hf:=h.first;rw[h3];exact(DV (by show _<=bH.getD _ _/\_;omega) (by omega)).2
 ·obtain⟨w,hw,rfl⟩:=Th.1 hv;have:=h.own w hw;have:=h.xQ;omega
 ·have hs:s<b9.length:=by rw[h.zW];exact(SM.1 hy).1
  show Tk.fits bH y (aA.getD ((b9.map Xp).getD s 0) 0)=true;rw[pj s hs];exact(h.NN hy).fits
 ·show (b9.map Xp).Nodup;rw[Ue,WR];refine WO ?_ (Ue.1 h.LV);intro a c ha hc aE e;have h1:=h.own a ha;have h2:=h.own c hc;omega
theorem Made.mem(h:Made pm x bH aA b9)(sO:pm<=4):abk bH aA b9∈cg x:=(amr (h.ok sO)).2 h.aqR
theorem Made.ne(h:Made pm x bH aA b9)(sO:pm<=4):cg x≠[]:=λe=>by
 have:=h.mem sO;rw[e]at this;cases this
theorem aqo(x:ai)(deep:Int)(Q:Kn)(t:List Int):(eF x deep Q t).first=if Q.has=true then Q.first else t:=by
 have hB:(iM Q t).first=if Q.has=true then Q.first else t:=by unfold iM;split<;>rfl
 unfold eF;dsimp only;split
 ·exact hB
 ·split
  ·exact hB
  ·exact hB
theorem Py{x:ai}{deep:Int}:∀(ts:List (List Int))(Q:Kn),(ts.foldl (eF x deep) Q).first=if Q.has=true then Q.first else(match ts with|[]=>Q.first|t::_=>t)
 |[],Q=>by simp
 |t::ts,Q=>by
  rw[Ux,Py ts,acs,if_pos rfl,aqo]
theorem arh{x:ai}{deep:Int}{j:Nat}{t:List Int}{l:List (List Int)}(h:fh x deep j=t::l):(gT x deep j).first=t:=by
 rw[G2,Py,h];rfl
theorem ak0{Q G:Kn}{hs:List (List Int)}(h:G.has=true):(gS Q hs G).first=if Q.has=false\/so G.first Q.first=true then G.first else Q.first:=by
 unfold gS;rw[if_pos h]
theorem anf{h:List Int}{a b:Int}(hl:h.take 2=[a,b]):(cM h).take 4=a::b::((cM h).drop 2).take 2:=by
 match h,hl with
 |c::d::l,hl=>
  simp only[Vt,Zr,X5,and_true]at hl;obtain⟨rfl,rfl⟩:=hl;simp[cM]
theorem PO{x:ai}{deep:Int}{j:Nat}(hx:x.Ok)(hj:j<x.am.toNat+1){t:List Int}(ht:t∈fh x deep j):∃l,t.take 4=x.first::(x.first+(j:Int))::l:=by
 rw[Eo hx hj]at ht;obtain⟨u,hu,rfl⟩:=Th.1 ht;obtain⟨h,hm,hu⟩:=S4.1 hu;have hL:=QK hx hj hm;have lP:=yb (Dc hu);have h2:h.take 2=[x.first,x.first+(j:Int)]:=by
  unfold vJ at hm;split at hm
  ·exact EW _ _ _ hm
  ·cases hm
 have e:(eT u).take 4=(cM h).take 4:=by
  unfold eT dB;rw[lP,SC,Tq (by rw[xT hL.hi];omega)]
 rw[e,anf h2];exact⟨_,rfl⟩
theorem aiA{x:ai}{deep:Int}{i j:Nat}(hx:x.Ok)(hi:i<x.am.toNat+1)(hj:j<x.am.toNat+1)(kq:i≠j){t u:List Int}(ht:t∈fh x deep i)(hu:u∈fh x deep j):so t u=decide (i<j):=by
 obtain⟨l,h1⟩:=PO hx hi ht;obtain⟨m,h2⟩:=PO hx hj hu;have aE:t.take 4≠u.take 4:=by
  rw[h1,h2];simp only[ne_eq,X5,true_and,not_and];intro h;omega
 unfold so;rw[if_neg aE,h1,h2];by_cases h:i<j
 ·have e1:mK (x.first+(i:Int)) (x.first+(j:Int))= -1:=by unfold mK;rw[if_pos (by omega)]
  have e0:mK x.first x.first=0:=by unfold mK;simp
  simp[n_,e0,e1,h]
 ·have e1:mK (x.first+(i:Int)) (x.first+(j:Int))=1:=by unfold mK;rw[if_neg (by omega),if_pos (by omega)]
  have e0:mK x.first x.first=0:=by unfold mK;simp
  simp[n_,e0,e1,h]
theorem Sc{x:ai}{deep:Int}{js:List Nat}{D:Kn}(hx:x.Ok)(hJ:m9 x deep js D)(hn:js.Nodup)(hj:∀j∈js,j<x.am.toNat+1)(hh:D.has=true):∃j∈js,∃t l,fh x deep j=t::l/\D.first=t/\∀i∈js,fh x deep i≠[]->j<=i:=by
 induction hJ with
 |nil=>cases hh
 |@snoc js Q j hs hJ hp ih=>
  have kI:js.Nodup:=(UC.1 hn).1;have o_:j∉js:=λh=>(UC.1 hn).2.2 j h j (by simp) rfl;have R4:=ih kI (λi hi=>hj i (by simp[hi]));by_cases hG:fh x deep j=[]
  ·have hg:(gT x deep j).has=false:=(by rw[Di,hG];rfl);have hD:gS Q hs (gT x deep j)=Q:=(by unfold gS;rw[hg];rfl);rw[hD]at hh⊢;obtain⟨i,h1,t,l,h2,h3,h4⟩:=R4 hh;refine⟨i,by simp[h1],t,l,h2,h3,λk hk aE=> ?_⟩;rcases SN.1 hk with hk|hk
   ·exact h4 k hk aE
   ·rw[S5]at hk;subst hk;exact absurd hG aE
  ·obtain⟨t,l,ht⟩:∃t l,fh x deep j=t::l:=by
    cases hg:fh x deep j with
    |nil=>exact absurd hg hG
    |cons t l=>exact⟨t,l,rfl⟩
   have hg:(gT x deep j).has=true:=(by rw[Di,ht];rfl);rw[ak0 hg,arh ht];by_cases hQ:Q.has=true
   ·obtain⟨i,h1,t',l',h2,h3,h4⟩:=R4 hQ;have hb:so t Q.first=decide (j<i):=by
     rw[h3];exact aiA hx (hj j (by simp)) (hj i (by simp[h1])) (λe=>o_ (e▸h1)) (by rw[ht];simp) (by rw[h2];simp)
    by_cases kq:j<i
    ·rw[if_pos (.inr (by rw[hb];simpa using kq))];refine⟨j,by simp,t,l,ht,rfl,λk hk aE=> ?_⟩;rcases SN.1 hk with hk|hk
     ·have:=h4 k hk aE;omega
     ·rw[S5]at hk;omega
    ·rw[if_neg (by rw[hQ,hb];simpa using kq)];refine⟨i,by simp[h1],t',l',h2,h3,λk hk aE=> ?_⟩;rcases SN.1 hk with hk|hk
     ·exact h4 k hk aE
     ·rw[S5]at hk;omega
   ·rw[if_pos (.inl (by simpa using hQ))];refine⟨j,by simp,t,l,ht,rfl,λk hk aE=> ?_⟩;rcases SN.1 hk with hk|hk
    ·have hQf:Q.has=js.any λj=> !(fh x deep j).isEmpty:=Sd hJ;exfalso;apply hQ;rw[hQf,Uw];refine⟨k,hk, ?_⟩;cases hg:fh x deep k with
     |nil=>exact absurd hg aE
     |cons=>rfl
    ·rw[S5]at hk;omega
theorem Qy{α:Type}{f:Nat->List α}{j:Nat}{t:α}{l:List α}:∀{n:Nat},j<n->f j=t::l->(∀i,i<j->f i=[])->((SX n).flatMap f).head?=some t
 |0,h,_,_=>absurd h (by omega)
 |n+1,h,hf,h0=>by
  rw[UV,U1,Wb];by_cases hj:j<n
  ·rw[Qy hj hf h0];rfl
  ·have e:j=n:=(by omega);subst e;have:(SX j).flatMap f=[]:=by
    rw[Wd];intro i hi;exact h0 i (TH.1 hi)
   rw[this];simp[hf]
theorem JF{α β:Type}{f g:α->List β}:∀(l:List α),(∀a,(f a).head?=(g a).head?)->(l.flatMap f).head?=(l.flatMap g).head?
 |[],_=>rfl
 |a::l,h=>by
  rw[Ua,Ua,Wb,Wb,h a,JF l h]
theorem acr{α:Type}(l:List α):(l.take 1).head?=l.head?:=by cases l<;>rfl
theorem ad6{x:ai}{deep:Int}:(oU x deep).head?=(cg x).head?:=by
 refine JF _ λh=> ?_;have h1:(uM x h).head?=(oL x h).head?:=JF _ λns=>acr _;unfold rS;split
 ·rw[acr,h1]
 ·split
  ·exact h1
  ·rfl
theorem ala{x:ai}{deep:Int}{D:Kn}(hx:x.Ok)(h:dZ x deep D)(hh:D.has=true):∃u l,cg x=u::l/\D.first=eT u:=by
 obtain⟨p,js,h1,h2,h3,_⟩:=h;have nJ:x.am.toNat=p:=by omega
 have hj:∀j∈js,j<x.am.toNat+1:=λj hj=>by rw[nJ];exact TH.1 (h2.mem_iff.1 hj)
 obtain⟨j,a,t,l,b,c,d⟩:=Sc hx h3 (h2.nodup_iff.2 Xf) hj hh;have hd:((SX (p+1)).flatMap λj=>fh x deep j).head?=some t:=by
  refine Qy (TH.1 (h2.mem_iff.1 a)) b λi hi=> ?_;cases hg:fh x deep i with
  |nil=>rfl
  |cons v w=>
   have:=d i (h2.mem_iff.2 (TH.2 (by have:=hj j a;omega))) (by rw[hg];simp);omega
 have he:((SX (p+1)).flatMap λj=>fh x deep j)=(oU x deep).map eT:=by
  unfold oU;rw[<- acT hx,nJ,U3];exact Bj λi hi=>Eo hx (by rw[nJ];exact TH.1 hi)
 rw[he,List.head?_map,ad6]at hd;cases ht:cg x with
 |nil=>rw[ht]at hd;cases hd
 |cons u l=>
  rw[ht]at hd;simp only[YU,UB,Te]at hd;exact⟨u,l,rfl,by rw[c,hd]⟩
namespace Tk
def live (x:ai):List (List Int):=(aH x).filter λh=> !(oL x h).isEmpty
def cnt (x:ai):Int:=(live x).length
theorem FX{x:ai}{h:List Int}:h∈live x<->∃u∈cg x,u.bH=h:=by
 unfold live;rw[Uh];constructor
 ·rintro⟨h1,h2⟩
  cases ht:oL x h with
  |nil=>rw[ht]at h2;cases h2
  |cons u l=>
   have hu:u∈oL x h:=(by rw[ht];simp);exact⟨u,S4.2 ⟨h,h1,hu⟩,yb hu⟩
 ·rintro⟨u,hu,rfl⟩
  obtain⟨h,a,b⟩:=S4.1 hu;have e:=yb b;subst e;refine⟨a, ?_⟩;cases ht:oL x u.bH with
  |nil=>rw[ht]at b;cases b
  |cons=>rfl
theorem J3{x:ai}{h:List Int}(hm:h∈aH x):h.length=1+x.hours.toNat:=(zh _ _ _ (by simp) hm).1
theorem L1{h:List Int}{n:Nat}(hl:h.length=n):(cM h).take n=h:=by
 subst hl;unfold cM;rw[Tq (SO _),TE]
theorem alY(x:ai):((live x).map cM).Nodup:=by
 have h:(live x).Nodup:=(ajD x).filter _;rw[Ue,WR];have h2:=Ue.1 h;refine WO ?_ h2;intro a b ha hb aE e;have la:=J3 ((Uh.1 ha).1);have lb:=J3 ((Uh.1 hb).1);apply aE;rw[<- L1 la,e,L1 lb]
end Tk
theorem Iw{x:ai}(hx:x.Ok){u:Tr}(hu:u∈cg x):(eT u).take 4=cM u.bH:=by
 have hl:=(wm hx hu).1;have hh:=hx.hours;unfold eT dB;rw[SC,Tq (by rw[xT (by omega)];omega),SW (by rw[xT (by omega)];omega)]
theorem Sj{x:ai}{D:Kn}(hx:x.Ok)(h:dZ x 0 D):D.aH.Perm ((live x).map cM):=by
 have hn:D.aH.Nodup:=by obtain⟨p,js,h1,h2,h3,_⟩:=h;exact ak5 h3
 refine(List.perm_ext_iff_of_nodup hn (alY x)).2 λg=> ?_;rw[alc hx h,Th];constructor
 ·rintro⟨u,hu,rfl⟩
  exact⟨u.bH,FX.2 ⟨u,hu,rfl⟩,(Iw hx hu).symm⟩
 ·rintro⟨h,hm,rfl⟩
  obtain⟨u,hu,rfl⟩:=FX.1 hm;exact⟨u,hu,(Iw hx hu).symm⟩
theorem vY{x:ai}{deep:Int}{D:Kn}(hx:x.Ok)(h:dZ x deep D):D.has=false<->cg x=[]:=by
 rw[FN hx h];cases cg x<;>simp
theorem Lv{x:ai}:live x=[]<->cg x=[]:=by
 constructor
 ·intro h;cases ht:cg x with
  |nil=>rfl
  |cons u l=>
   have:u.bH∈live x:=FX.2 ⟨u,by rw[ht];simp,rfl⟩;rw[h]at this;cases this
 ·intro h;cases hl:live x with
  |nil=>rfl
  |cons a l=>
   obtain⟨u,hu,_⟩:=FX.1 (show a∈live x by rw[hl];simp);rw[h]at hu;cases hu
theorem count_eq{x:ai}{D:Kn}(hx:x.Ok)(h:dZ x 0 D):(if D.has then(D.aH.length:Int)else 0)=cnt x:=by
 cases hD:D.has with
 |true=>rw[if_pos rfl,(Sj hx h).length_eq,Tj];rfl
 |false=>
  have:=Lv.2 ((vY hx h).1 hD);simp[cnt,this]
theorem amu(a b:Int):min a b=a\/min a b=b:=by omega
theorem amo(a b:Int):max a b=a\/max a b=b:=by omega
theorem N7(v:List Int->Int):∀(hs:List (List Int))(b:fu),b.is=true->(hs.foldl (λb h=>b.add (v h)) b).is=true/\((hs.foldl (λb h=>b.add (v h)) b).lo=b.lo\/∃h∈hs,(hs.foldl (λb h=>b.add (v h)) b).lo=v h)/\(hs.foldl (λb h=>b.add (v h)) b).lo<=b.lo/\(∀h∈hs,(hs.foldl (λb h=>b.add (v h)) b).lo<=v h)/\((hs.foldl (λb h=>b.add (v h)) b).hi=b.hi\/∃h∈hs,(hs.foldl (λb h=>b.add (v h)) b).hi=v h)/\b.hi<=(hs.foldl (λb h=>b.add (v h)) b).hi/\∀h∈hs,v h<=(hs.foldl (λb h=>b.add (v h)) b).hi
 |[],b,hb=>⟨hb, .inl rfl,YB _,by simp, .inl rfl,YB _,by simp⟩
 |g::hs,b,hb=>by
  have dG:b.add (v g)=⟨min b.lo (v g),max b.hi (v g),true⟩:=by unfold fu.add;rw[if_pos hb]
  obtain⟨h1,h2,h3,h4,h5,h6,h7⟩:=N7 v hs (b.add (v g)) (by rw[dG]);rw[Ux];generalize hs.foldl (λb h=>b.add (v h)) (b.add (v g))=R at*;rw[dG]at h2 h3 h5 h6;dsimp only at h2 h3 h5 h6;have m1:min b.lo (v g)=b.lo\/min b.lo (v g)=v g:=amu _ _;have m2:max b.hi (v g)=b.hi\/max b.hi (v g)=v g:=amo _ _;refine⟨h1, ?_,WZ h3 (Int.min_le_left _ _), ?_, ?_,WZ (Int.le_max_left _ _) h6, ?_⟩
  ·rcases h2 with h2|⟨h,a,c⟩
   ·rcases m1 with m1|m1
    ·exact .inl (h2.trans m1)
    ·exact .inr ⟨g,by simp,h2.trans m1⟩
   ·exact .inr ⟨h,by simp[a],c⟩
  ·intro h hm;rcases SK.1 hm with rfl|hm
   ·exact WZ h3 (Int.min_le_right _ _)
   ·exact h4 h hm
  ·rcases h5 with h2|⟨h,a,c⟩
   ·rcases m2 with m1|m1
    ·exact .inl (h2.trans m1)
    ·exact .inr ⟨g,by simp,h2.trans m1⟩
   ·exact .inr ⟨h,by simp[a],c⟩
  ·intro h hm;rcases SK.1 hm with rfl|hm
   ·exact WZ (Int.le_max_right _ _) h6
   ·exact h7 h hm
namespace Tk
structure Bounds (hs:List (List Int))(v:List Int->Int)(lo hi:Int):Prop where
 uu:∃h∈hs,lo=v h
 le:∀h∈hs,lo<=v h
 ut:∃h∈hs,hi=v h
 ge:∀h∈hs,v h<=hi
theorem Bounds.uniq{hs:List (List Int)}{v:List Int->Int}{a b c d:Int}(h:Bounds hs v a b)(k:Bounds hs v c d):a=c/\b=d:=by
 obtain⟨g1,m1,e1⟩:=h.uu;obtain⟨g2,m2,e2⟩:=h.ut;obtain⟨g3,m3,e3⟩:=k.uu;obtain⟨g4,m4,e4⟩:=k.ut;have:=h.le _ m3;have:=h.ge _ m4;have:=k.le _ m1;have:=k.ge _ m2;omega
theorem Bounds.amZ{hs gs:List (List Int)}{v:List Int->Int}{a b:Int}(h:Bounds hs v a b)(hp:hs.Perm gs):Bounds gs v a b:=by
 obtain⟨g1,m1,e1⟩:=h.uu;obtain⟨g2,m2,e2⟩:=h.ut;exact⟨⟨g1,hp.mem_iff.1 m1,e1⟩,λg hg=>h.le g (hp.mem_iff.2 hg),⟨g2,hp.mem_iff.1 m2,e2⟩,λg hg=>h.ge g (hp.mem_iff.2 hg)⟩
end Tk
theorem N6{hs:List (List Int)}(v:List Int->Int)(aE:hs≠[]):Bounds hs v (hs.foldl (λ(b:fu) h=>b.add (v h)) (⟨0,0,false⟩:fu)).lo (hs.foldl (λ(b:fu) h=>b.add (v h)) (⟨0,0,false⟩:fu)).hi:=by
 cases hs with
 |nil=>exact absurd rfl aE
 |cons g hs=>
  rw[Ux,show fu.add ⟨0,0,false⟩ (v g)=⟨v g,v g,true⟩from rfl];obtain⟨_,h2,h3,h4,h5,h6,h7⟩:=N7 v hs ⟨v g,v g,true⟩ rfl;generalize hs.foldl (λ(b:fu) h=>b.add (v h)) (⟨v g,v g,true⟩:fu)=R at*;dsimp only at h2 h3 h5 h6;refine⟨?_, ?_, ?_, ?_⟩
  ·rcases h2 with h2|⟨h,a,c⟩
   ·exact⟨g,by simp,h2⟩
   ·exact⟨h,by simp[a],c⟩
  ·intro h hm;rcases SK.1 hm with rfl|hm
   ·exact h3
   ·exact h4 h hm
  ·rcases h5 with h2|⟨h,a,c⟩
   ·exact⟨g,by simp,h2⟩
   ·exact⟨h,by simp[a],c⟩
  ·intro h hm;rcases SK.1 hm with rfl|hm
   ·exact h6
   ·exact h7 h hm
open Go.Gg.Tk
theorem aaU{h ns:List Int}:∀{ss:List aG}{t os:List Nat},os∈pB h ns ss t->(∀p∈t,p<ns.length)->os.length=t.length+ss.length/\∀p∈os,p<ns.length
 |[],t,os,hm,ht=>by
  simp only[pB,S5]at hm;subst hm;exact⟨rfl,ht⟩
 |s::ss,t,os,hm,ht=>by
  simp only[pB,S4,Uh,TH]at hm;obtain⟨p,⟨hp,_⟩,hm⟩:=hm;have:=aaU hm λq hq=>by
   rcases SN.1 hq with hq|hq
   ·exact ht q hq
   ·rw[S5.1 hq];exact hp
  refine⟨?_,this.2⟩;rw[this.1];simp;omega
theorem GR{x:ai}(hx:x.Ok){u:Tr}(hu:u∈cg x):u.b9.length=x.aB.length/\∀p∈u.b9,p<x.pieces.length:=by
 have h2:=(wm hx hu).2;obtain⟨h,a,b⟩:=S4.1 hu;obtain⟨ns,c,d⟩:=S4.1 b;obtain⟨os,e,rfl⟩:=Th.1 d;have:=aaU e (by simp);dsimp only at h2⊢;rw[<- h2];exact⟨by simpa using this.1,this.2⟩
theorem ago{x:ai}(hx:x.Ok){u:Tr}(hu:u∈cg x){s:Nat}(hs:s<x.aB.length):rP (eT u) s=u.b9.getD s 0:=by
 obtain⟨h1,h2⟩:=wm hx hu;have h3:=(GR hx hu).1;have hh:=hx.hours;have oC:=hx.dI;have h4:=xT (h:=u.bH) (by omega);have dX:s<u.b9.length:=by omega
 have hg:(eT u)[8+s]?=some ((u.b9[s]:Nat):Int):=by
  unfold eT dB lq;have h8:(cM u.bH++((u.aA.map λn=>(n-u.bH.headD 0).toNat).map (λn:Nat=>(n:Int))++TG (4-(u.aA.map λn=>(n-u.bH.headD 0).toNat).length) (-1))).length=8:=by simp[h4];omega
  rw[Tg (by omega),h8,Ve,SY (by simpa using dX),Ti,SV dX];rfl
 unfold rP;rw[SF,hg,SF,SV dX];rfl
namespace Tk
def DU (x:ai)(f:Tr->Bool):Bool:=(cg x).any f
theorem A3{x:ai}{f:Tr->Bool}:DU x f=true<->∃u∈cg x,f u=true:=Uw
def wP (f:Nat->Bool)(more:Int)(i:Nat):List Int:=((SX i).filter f).map λn:Nat=>(n:Int)+more
def CO (x:ai)(p n:Nat):Bool:=DU x λu=>decide ((u.aA.getD p 0-u.bH.headD 0).toNat=n)
def s_ (x:ai)(s q:Nat):Bool:=DU x λu=>decide (u.b9.getD s 0=q)
def CS (x:ai)(s q:Nat):Bool:=DU x λu=> !decide (u.b9.getD s 0=q)
theorem aaa{s:Nat}{f:Nat->Bool}{more:Int}{i:Nat}(h:∀n,n<i->s.testBit n=f n):fQ s more i=wP f more i:=by
 unfold fQ wP;congr 1;exact UU λn hn=>h n (TH.1 hn)
end Tk
theorem amN{x:ai}{D:Kn}{p:Nat}(hx:x.Ok)(hD:dZ x 1 D)(hp:p<x.pieces.length)(n:Nat):(D.aA.getD p 0).testBit n=CO x p n:=by
 rw[UL,ald hx hD hp];unfold CO;rw[A3];simp only[decide_eq_true_eq]
theorem L2{x:ai}{D:Kn}{s:Nat}(hx:x.Ok)(hD:dZ x 2 D)(hs:s<x.aB.length)(n:Nat):(D.aV.getD s 0).testBit n=s_ x s n:=by
 rw[UL,ale hx hD hs];unfold s_;rw[A3];refine exists_congr λu=>and_congr_right λhu=> ?_;rw[ago hx hu hs,decide_eq_true_eq]
theorem ani{x:ai}{D:Kn}{s q:Nat}(hx:x.Ok)(hD:dZ x 2 D)(hs:s<x.aB.length)(hh:D.has=true):(D.aV.getD s 0!=2^q)=CS x s q:=by
 have hb:=L2 hx hD hs;rw[UL,bne_iff_ne];unfold CS;rw[A3];constructor
 ·intro aE;obtain⟨u,hu⟩:∃u,u∈cg x:=by
   rw[FN hx hD]at hh;cases ht:cg x with
   |nil=>rw[ht]at hh;cases hh
   |cons u l=>exact⟨u,by simp⟩
  by_cases RN:u.b9.getD s 0=q
  ·refine To λgk=>aE ?_;apply Nat.eq_of_testBit_eq;intro n;rw[hb,Vs,UL,decide_eq_true_eq];unfold s_;rw[A3];constructor
   ·rintro⟨v,hv,e⟩
    rw[decide_eq_true_eq]at e;refine To λFo=>gk ⟨v,hv, ?_⟩;rw[e];simp;exactλh=>Fo h.symm
   ·rintro rfl
    exact⟨u,hu,by rw[decide_eq_true_eq];exact RN⟩
  ·exact⟨u,hu,by simpa using RN⟩
 ·rintro⟨u,hu,h⟩ he
  have hp:s_ x s (u.b9.getD s 0)=true:=by
   unfold s_;rw[A3];exact⟨u,hu,by simp⟩
  rw[<- hb,he,Vs,decide_eq_true_eq]at hp;rw[hp]at h;simp at h
theorem anh{x:ai}{D:Kn}{s q:Nat}(hx:x.Ok)(hD:dZ x 2 D)(hs:s<x.aB.length):(if D.has then vM ((D.aV.getD s 0).testBit q) (D.aV.getD s 0!=2^q)else 0)=if(cg x).isEmpty then 0 else vM (s_ x s q) (CS x s q):=by
 have hh:=FN hx hD;cases Jb:D.has with
 |true=>
  rw[Jb]at hh;have:(cg x).isEmpty=false:=by simpa using hh.symm
  rw[this,if_pos rfl,L2 hx hD hs,ani hx hD hs Jb];rfl
 |false=>
  rw[Jb]at hh;have:(cg x).isEmpty=true:=by simpa using hh.symm
  rw[this];rfl
theorem ae4{x:ai}{deep:Int}{D:Kn}(hx:x.Ok)(hD:dZ x deep D):eX D=if(cg x).isEmpty then 11 else 0:=by
 have hh:=FN hx hD;unfold eX;rw[hh];cases (cg x).isEmpty<;>rfl
open Go.Conc Go.Proofs Go.Gg.Tk
theorem acQ{l:List AV}{a b:AV}(h:Wk a b):sh (l++[a]) (l++[b]):=by
 induction l with
 |nil=>exact .cons h .nil
 |cons x l ih=>exact .cons (Wk.refl _) ih
theorem aaj(n m k:Nat)(bs:List (List Int)):Lt n (.sl m (bs.map bu) (.opn k))=(k<n):=by
 rw[amf,eq_iff_iff];refine⟨λh=>h.1,λh=>⟨h,λa ha=> ?_⟩⟩;have:=aak n bs;rw[yp,uC]at this;exact this.mpr trivial a ha
theorem Nl:gU (Uc none 0 0) 1=[.sl 0 [] .exact]:=rfl
theorem Rh{H:List aa}(hH:bL H)(n sz:Nat)(el:TypeId):bL (H++[.tail n sz el]):=Kl hH λz hz m=>by rw[S5.1 hz];trivial
section
variable {lv:Bool}
end
namespace Tk
def iU (l:List Int):Nat:=if l.length=0 then 0 else(l.getD (l.length-1) 0).toNat+1
def nP (n:Nat)(l:List Int)(j:Nat):List (List Int):=(SX j).map λj:Nat=>l++[((iU l+j:Nat):Int)]
def nS (n:Nat):Nat->List (List Int)
 |0=>[[]]
 |i+1=>nS n i++nP n ((nS n i).getD i []) (n-iU ((nS n i).getD i []))
def v6 (n:Nat):List (List Int):=nS n (2^n)
theorem ali(n:Nat)(l:List Int)(j:Nat):nP n l (j+1)=nP n l j++[l++[((iU l+j:Nat):Int)]]:=by
 unfold nP;rw[UV,Tv];rfl
theorem ana:∀n,n<4->(∀i,i<2^n->i<(nS n i).length/\(∀l∈nS n i,l.length<=3/\∀y∈l,0<=y/\y<n))/\(∀i,i<2^n+1->(nS n i).length<=8)/\(nS n (2^n)).length=2^n:=by decide+kernel
end Tk
section
variable {lv:Bool}{H:List aa}{k kp:AV->List aa->Prop}
theorem ahJ{ns:List Int}{e:End}(hn:ns.length<=2^20)(h0:ns=[]->k (.sl 0 [] .exact) H)(hk:k (.sl ns.length (ns.map iv) (.opn H.length)) (H++[.tail ns.length 1 3])):bi lv SD 94 H [.sl ns.length (ns.map iv) e] k kp:=by
 refine bI (rs:=[.tmp 2]) (nt:=8) Tryz.f94 λhH hA=> ?_;simp only[bp,SS];refine ak ?_;refine ak ?_;intro b hb;refine aC ?_;refine⟨λh=> ?_,λh=> ?_⟩
 ·
  refine ak ?_;refine a_ ?_;have:ns=[]:=by
   cases ns with
   |nil=>rfl
   |cons x xs=>rw[hb (by simp)]at h;cases h
  exact jT (H':=H) (G:=[]) (Wk.refl _) (by simp) (SO _) hH (by simp[Ly]) (h0 this)
 ·
  refine aP ?_;refine ak ?_;refine⟨by omega, ?_⟩;refine a_ ?_;exact bY hk
theorem ahx{n:Nat}(hn:n<=3)(hk:k (yp (v6 n)) H):bi lv SD 70 H [iv n] k kp:=by
 refine bI (rs:=[.tmp 2]) (nt:=44) Tryz.f70 λhH hA=> ?_;simp only[bp,SS];obtain⟨lc,iR,mO⟩:=ana n (by omega);refine ak ?_;refine aj ?_;simp only[seval,Nl,LX]
 (repeat apply iA);refine u6 (t:=3) (sz:=1) (el:=22) (by simp only[seval]<;>rfl) ?_
 refine ak ?_;refine cN ?_;refine gM (2^n) (λi:Nat=>[(3, .sl (nS n i).length ((nS n i).map bu) (.opn H.length)),(4,iv i)]) (λi=>H++[.tail (nS n i).length 1 22]) (λi=>True) (λ_ _=>rfl) (by simp only[seval];simp[bB,Wk.refl];exact M5 (l:=[.sl 0 [] .exact]) (l':=[bu []]) rfl (sh.cons (jw _ _ _) .nil).at) rfl (λ_ _ _=>by simp) trivial (λcm dF i cw _ R hR=> ?_);clear cm dF;have bX:i<2^n->SE.wrap ((i:Int)+1)=((i+1:Nat):Int):=λh=>by
  have:2^n<=2^3:=WH (by omega) hn;rw[bD _ (by omega)];rfl
 refine ak ?_;refine aC ?_;refine⟨λh=> ?_,λh=> ?_⟩
 ·have bE:i<2^n:=by
   rcases XT i (2^n)with h'|h'
   ·exact h'
   ·have:i=2^n:=(by omega);subst this;rw[mO]at h;omega
  obtain⟨g1,g2⟩:=lc i bE;have g3:=iR i (by omega);have bX:=bX bE;obtain⟨l,hl⟩:=cG g1;have RF:nS n (i+1)=nS n i++nP n l (n-iU l):=by
   rw[nS,SF,hl];rfl
  obtain⟨J8,hly⟩:=g2 l (v7 hl);generalize nS n i=o at RF hl g1 g3 hR⊢;refine aP ?_;refine aj ?_;simp only[seval,abQ hl,jQ g1];refine ak ?_;refine aj ?_;simp only[seval,bu];refine aC ?_;refine⟨λh=> ?p1,λh=> ?p2⟩
  case' p1=>
   have sL:0<l.length:=(by omega);obtain⟨y,hy⟩:=cG (xs:=l) (i:=l.length-1) (by omega);have hyb:=hly y (v7 hy);have pc:iU l=y.toNat+1:=(by unfold iU;rw[if_neg (by omega),SF,hy];rfl);have gH:SE.wrap ((l.length:Int)-1)=((l.length-1:Nat):Int):=(by rw[bD _ (by omega)];omega);have vV:SE.wrap (y+1)=((iU l:Nat):Int):=(by rw[bD _ (by omega),pc];omega);have oo:(0<=((l.length-1:Nat):Int)/\((l.length-1:Nat):Int)<l.length)=True:=(by simp;omega);refine aj ?_;simp only[seval,gH,h_ hy,oo,vV];have Q0:iU l=iU l:=rfl
  case' p2=>
   have Q0:iU l=0:=(by unfold iU;rw[if_pos (by omega)]);refine aP ?_
  all_goals(
   refine ak ?_;refine cN ?_;refine gM (n-iU l) (λj:Nat=>[(3, .sl (o.length+j) ((o++nP n l j).map bu) (.opn H.length)),(7,iv (((iU l:Nat):Int)+j))]) (λj=>H++[.tail (o.length+j) 1 22]) (λi=>True) (λ_ _=>rfl) (by first|(simp only[seval];simp[bB,Wk.refl];done)|(simp only[seval,nP,YJ];simp[bB,Wk.refl,Q0])) (by simp) (λ_ _ _=>by simp) trivial (λcm dF j o_ _ R2 xa=> ?_);clear cm dF;have QY:(n-iU l)<=3:=(by omega);refine ak ?_;refine aC ?_;refine⟨λh2=> ?_,λh2=> ?_⟩
   ·have fy:j<n-iU l:=(by omega);have dc:(o++nP n l (j+1)).map bu=(o++nP n l j).map bu++[bu (l++[((iU l:Nat):Int)+j])]:=(by rw[ali,<- SC,Tv];rfl);have Ri:((o++nP n l j).map bu).length=o.length+j:=(by simp[nP]);have FC:SE.wrap (((iU l:Nat):Int)+j+1)=((iU l:Nat):Int)+((j+1:Nat):Int):=(by rw[bD _ (by omega)];omega);refine aP ?_;refine ak ?_;refine aL ((ahJ (ns:=l) (by omega) (λsL=> ?_) ?_))
    ·subst sL;try simp only[seval,z1,Nl,LX,Ri]
     first|refine⟨by decide,by omega, ?_⟩|refine⟨by omega, ?_⟩
     refine aj ?_;simp only[seval,FC];refine xa _ ⟨fy,trivial, ?_⟩;rw[dc];refine Gy [.tail 1 1 3] (oE rfl rfl) ?_ (Rh hH _ _ _) ?_ (by simp[WY])
     ·(try simp only[seval]);exact⟨⟨_,rfl,have h:=acQ (l:=(o++nP n [] j).map bu) (show Wk (.sl 1 [iv (((iU []:Nat):Int)+j)] (.opn (H.length+1))) (bu ([]++[((iU []:Nat):Int)+j])) by exact jw _ _ _);M5 h.len h.at⟩,_,rfl,Wk.refl _⟩
     ·rw[<- dc];simp only[WA,eK,aaj,iv];simp
    ·(try simp only[seval,z1,Nl,LX,Ri]);refine⟨by omega,by omega, ?_⟩;refine aj ?_;simp only[seval,FC];refine xa _ ⟨fy,trivial, ?_⟩;rw[dc];refine Gy [.tail (l.length+1) 1 3] (oE rfl rfl) ?_ (Rh hH _ _ _) ?_ (by simp[WY])
     ·(try simp only[seval]);exact⟨⟨_,rfl,have h:=acQ (l:=(o++nP n l j).map bu) (show Wk (.sl (l.length+1) (l.map iv++[iv (((iU l:Nat):Int)+j)]) (.opn (H.length+1))) (bu (l++[((iU l:Nat):Int)+j])) by rw[bu,Tv,SQ];exact jw _ _ _);M5 h.len h.at⟩,_,rfl,Wk.refl _⟩
     ·rw[<- dc];simp only[WA,eK,aaj,iv];simp
   ·have xv:j=n-iU l:=(by omega);subst xv;refine cq ?_;refine aj ?_;simp only[seval,bX];refine hR _ ⟨bE,trivial, ?_⟩;rw[RF];have B1:(o++nP n l (n-iU l)).length=o.length+(n-iU l):=(by simp[nP]);rw[B1];exact dR)
 ·have sK:i=2^n:=by
   rcases XT i (2^n)with h'|h'
   ·have:=(lc i h').1;omega
   ·omega
  subst sK;refine cq ?_;refine ak ?_;refine a_ ?_;exact je (b:=yp (v6 n)) hH (jw _ _ _) (by rw[aak];trivial) hk
end
open Go.Conc Go.Proofs Go.Gg.Tk
theorem Pq{α:Type}{f:α->List AV}{s:Nat}(hf:∀a,(f a).length=s):∀(xs:List α)(n:Nat),(xs.flatMap f).take (n* s)=(xs.take n).flatMap f
 |[],n=>by simp
 |x::xs,0=>by simp
 |x::xs,n+1=>by
  rw[Ua,Vt,Ua,List.take_append,SW (by rw[hf,WW];omega),hf,show (n+1)* s-s=n* s by rw[WW];omega,Pq hf xs n]
theorem Pn{α:Type}{f:α->List AV}{s:Nat}(hf:∀a,(f a).length=s):∀(xs:List α)(n:Nat),(xs.flatMap f).drop (n* s)=(xs.drop n).flatMap f
 |[],n=>by simp
 |x::xs,0=>by simp
 |x::xs,n+1=>by
  rw[Ua,List.drop_succ_cons,U4,Wj (by rw[hf,WW];omega),hf,show (n+1)* s-s=n* s by rw[WW];omega,Pn hf xs n,Up]
namespace Tk
def tP (ss:List aG)(ns:List Int):List aG:=ns.foldr (λn l=>l.eraseIdx n.toNat) ss
def ai.wo (x:ai)(ns:List Int):ai:={x with aB:=tP x.aB ns}
def tp (ns:List Int)(m:Nat):Prop:=∀(i:Nat) n,ns[i]?=some n->0<=n/\n+(ns.length-i:Nat)<=m
theorem tp.tail{n:Int}{ns:List Int}{m:Nat}(h:tp (n::ns) m):tp ns m:=λi k hk=>by
 have:=h (i+1) k hk;simp only[T7]at this;exact⟨this.1,by omega⟩
theorem Io{ss:List aG}:∀{ns:List Int},tp ns ss.length->(tP ss ns).length+ns.length=ss.length
 |[],_=>rfl
 |n::ns,h=>by
  have h1:=Io h.tail;have h2:=h 0 n rfl;have e:tP ss (n::ns)=(tP ss ns).eraseIdx n.toNat:=rfl;simp only[T7]at h2⊢;rw[e,Xo (by omega)];omega
end Tk
section
variable {lv:Bool}{H:List aa}{k kp:AV->List aa->Prop}
theorem Pb{x:ai}{ns:List Int}{e:End}(aQ:x.aB.length<=3)(ji:tp ns x.aB.length)(hk:k (x.wo ns).av H):bi lv SD 63 H [x.av, .sl ns.length (ns.map iv) e] k kp:=by
 have Ke:ns.length<=3:=by have:=Io ji;omega
 refine bI (rs:=[.cell 4 76]) (nt:=32) Tryz.f63 λhH hA=> ?_;simp only[bp,SS,ai.av];obtain⟨st,lN⟩:∃st:Nat->List aG,∀j,st j=tP x.aB (ns.drop (ns.length-j)):=⟨_,λ_=>rfl⟩;have lh:st 0=x.aB:=by rw[lN,Y1,List.drop_length];rfl
 have akF:st ns.length=tP x.aB ns:=by rw[lN,UP,WS]
 obtain⟨xl,br⟩:∃xl:List aG->List AV,∀ss,xl ss=[iv x.first,iv x.hours,iv x.am,ej x.seen,bk x.pieces,bk ss]:=⟨_,λ_=>rfl⟩;have sV:x.l=xl x.aB:=by rw[br];rfl
 have t_:∀ss,(xl ss).drop 5=[.sl ss.length (ss.flatMap aG.l) .shut]:=λss=>by rw[br];rfl
 have aT:∀(L:List aa),(H++L)[H.length]?=L[0]?:=λL=>aS H L 0;have dV:∀(L:List aa)(y:aa),(H++L).set H.length y=H++L.set 0 y:=λL y=>de H L 0 y;have cZ:∀(L:List aa),(H++L)[H.length+1]?=L[1]?:=λL=>aS H L 1;have dW:∀(L:List aa)(y:aa),(H++L).set (H.length+1) y=H++L.set 1 y:=λL y=>de H L 1 y;rw[sV];refine ak ?_;have rC:SE.wrap ((ns.length:Int)-1)=(ns.length:Int)-1:=bD _ (by omega);refine ak ?_;refine cN ?_;refine gM ns.length (λj:Nat=>[(5,iv ((ns.length:Int)-1-j))]) (λj=>H++[.cells (xl (st j)) 26, .cells oM 76]) (λi=>True) (λ_ _=>rfl) (by simp only[seval,rC];simp[bB,Wk.refl]) (by rw[lh];rfl) (λ_ _ _=>by simp) trivial (λcm dF j o_ _ R hR=> ?_);clear dF;refine ak ?_;refine aC ?_;refine⟨λh=> ?_,λh=> ?_⟩
 ·have fy:j<ns.length:=by omega
  obtain⟨i,hi⟩:∃i:Nat,i=ns.length-1-j:=⟨_,rfl⟩;have QG:(ns.length:Int)-1-j=i:=by omega
  obtain⟨n,hn⟩:=cG (xs:=ns) (i:=i) (by omega);obtain⟨oA,ui⟩:=ji i n hn;obtain⟨n,rfl⟩:∃m:Nat,n=m:=⟨n.toNat,by omega⟩;have dc:st (j+1)=(st j).eraseIdx n:=by
   rw[lN,lN,show ns.length-(j+1)=i by omega,show ns.length-j=i+1 by omega];obtain⟨hlt,rfl'⟩:=SM.1 hn;rw[TR hlt,rfl'];rfl
  have dX:(st j).length+j=x.aB.length:=by
   have hd:tp (ns.drop (ns.length-j)) x.aB.length:=λq m hq=>by
    rw[T9]at hq;have:=ji _ _ hq;rw[T8];exact⟨this.1,by omega⟩
   have:=Io hd;rw[<- lN,T8]at this;omega
  have jY:n<(st j).length:=by omega
  generalize st j=ss at dc dX jY hR⊢;rw[QG];refine aP ?_;refine aj ?_;simp only[seval,h_ hn,jQ (show i<ns.length by omega)];have bX:SE.wrap ((n:Int)+1)=((n+1:Nat):Int):=by rw[bD _ (by omega)];rfl
  have ma:∀l:List aG,(l.flatMap aG.l).length=l.length* 4:=λl=>by
   induction l with
   |nil=>rfl
   |cons a l ih=>rw[Ua,SQ,ih,aG.len,T7];omega
  have kJ:((n:Int)+1).toNat=n+1:=by omega
  have Ki:((n:Int)+1==0)=false:=by simp;omega
  have lc:(ss.take n).length=n:=by rw[TW];omega
  have iR:(ss.drop (n+1)).length=ss.length-(n+1):=T8;have hD1:∀l:List aG,(ss.length-(n+1))=l.length->l.take (ss.length-(n+1))=l:=λl h=>by rw[h,TE]
  have hD2:(ss.drop (n+1)).take (ss.length-(n+1))=ss.drop (n+1):=hD1 _ iR.symm;refine eS 10 ?_;simp only[seval,aT,t_,bX,ma,kJ,Pq aG.len,Pn aG.len,lc,iR,beq_self_eq_true,Za,XR,Ki,hD2,TE];refine⟨by omega,by omega,by omega,by omega,by omega,by rw[br];simp, ?_⟩;have BU:(ss.eraseIdx n).length=n+(ss.length-(n+1)):=by rw[Xo jY];omega
  have BV:(ss.eraseIdx n).flatMap aG.l=(ss.take n).flatMap aG.l++(ss.drop (n+1)).flatMap aG.l:=by rw[List.eraseIdx_eq_take_drop_succ,U1]
  rw[<- BV,<- BU];have o4:∀y y',((xl ss).take 5++[y]++(xl ss).drop 6).set 5 y'=((xl ss).take 5++[y']++(xl ss).drop 6):=λy y'=>by rw[br];rfl
  have hcg:∀y,((xl ss).take 5++[y]++(xl ss).drop 6)[5]?=some y:=λy=>by rw[br];rfl
  have hce:(xl ss).take 5++[bk (ss.eraseIdx n)]++(xl ss).drop 6=xl (ss.eraseIdx n):=by rw[br,br];rfl
  (repeat apply iA);refine aeQ (id:=H.length) (j:=5) (y:=bk (ss.eraseIdx n)) (by simp only[seval,aT]<;>rfl) (hcg _) (jw _ _ _) ?_
  simp only[seval,dV,o4,hce];have gH:SE.wrap ((i:Int)-1)=(ns.length:Int)-1-((j+1:Nat):Int):=by rw[bD _ (by omega)];omega
  refine aj ?_;simp only[seval,gH];refine hR _ ⟨fy,trivial, ?_⟩;rw[dc];have oB:bL (H++[.cells (xl (ss.eraseIdx n)) 26, .cells oM 76]):=Kl hH λz hz m=>by
   simp only[SK,SU,or_false]at hz;rcases hz with rfl|rfl
   ·rw[br];exact Lz m {x with aB:=ss.eraseIdx n}
   ·intro a ha;simp only[oM,SK,SU,or_false]at ha;rcases ha with rfl|rfl|rfl|rfl|rfl|rfl<;>simp[eK,Ly]
  rw[<- QG];exact Gy [.tail (ss.eraseIdx n).length 4 48] (oE rfl rfl) (by simp only[seval];simp[bB,Wk.refl]) oB (by simp[eK]) (by rw[SC];rfl)
 ·have xv:j=ns.length:=by omega
  subst xv;refine cq ?_;have FG:(xl (st ns.length))=(x.wo ns).l:=by rw[br,akF];rfl
  rw[FG];have rC:(x.wo ns).l.length=6:=rfl;have up:T_ 6 (x.wo ns).l=(x.wo ns).l:=rfl;have mS:oM.length=6:=rfl;have KS:Ud 6 oM=[]:=rfl;refine aj ?_;simp only[seval,aT,dW,cZ,rC,up,mS,KS];refine⟨ky _, ?_⟩;refine mI ?_;simp only[seval,cZ];rw[up];exact je (b:=(x.wo ns).av) hH (Wk.refl _) (by rw[F1];trivial) hk
end
open Go.Conc Go.Proofs Go.Gg.Tk
namespace Tk
def NI (ns:List Int)(m:Nat):Bool:=(SX ns.length).all λi=>decide (0<=ns.getD i 0/\ns.getD i 0+(ns.length-i:Nat)<=m)
theorem aey{ns:List Int}{m:Nat}(h:NI ns m=true):tp ns m:=λi n hn=>by
 have hi:=(SM.1 hn).1;have:=Tp.1 h i (TH.2 hi);rw[decide_eq_true_eq,SF,hn]at this;exact this
theorem aac:∀n,n<4->(v6 n).length=2^n/\∀l∈v6 n,NI l n=true:=by decide+kernel
theorem alW{n:Nat}(hn:n<4){l:List Int}(hl:l∈v6 n):tp l n:=aey ((aac n hn).2 l hl)
theorem OO{ss:List aG}:∀{ns:List Int}{y:aG},y∈tP ss ns->y∈ss
 |[],y,h=>h
 |n::ns,y,h=>OO (ns:=ns) (List.mem_of_mem_eraseIdx h)
theorem ON{ss:List aG}:∀{ns:List Int},(tP ss ns).length<=ss.length
 |[]=>SO _
 |n::ns=>by
  have h1:=ON (ss:=ss) (ns:=ns);have h2:=List.length_eraseIdx_le (tP ss ns) n.toNat;exact Ur h2 h1
theorem ai.Ok.wo{x:ai}(h:x.Ok)(ns:List Int):(x.wo ns).Ok:=⟨h.first,h.hours,h.am,h.Ac,h.dI,Ur ON h.fD,h.seen,λy hy=>⟨(h.piece y hy).1,(h.piece y hy).2⟩,λy hy=>have k:=h.stub y (OO hy);⟨k.1,k.2⟩⟩
def Ej (x:ai):Option (List Int):=(v6 x.aB.length).find? λl=>vc (x.wo l)
theorem Pl{α:Type}{p:α->Bool}:∀{l:List α}{i:Nat}{a:α},l[i]?=some a->p a=true->(∀j b,j<i->l[j]?=some b->p b=false)->l.find? p=some a
 |b::l,0,a,h,hp,_=>by cases h;rw[List.find?_cons_of_pos hp]
 |b::l,i+1,a,h,hp,h0=>by
  rw[List.find?_cons_of_neg (by rw[h0 0 b (by omega) rfl];simp)];exact Pl (i:=i) h hp λj c hj hc=>h0 (j+1) c (by omega) hc
theorem ahZ{α:Type}{p:α->Bool}{l:List α}(h:∀(j:Nat) b,l[j]?=some b->p b=false):l.find? p=none:=by
 rw[List.find?_eq_none];intro a ha;obtain⟨j,hj⟩:=Vg ha;rw[h j a hj];simp
end Tk
section
variable {lv:Bool}{H:List aa}{k kp:AV->List aa->Prop}
theorem ahj{x:ai}(hx:x.Ok)(gZ:∀l,Ej x=some l->k (.aK [bu l,iv 0]) H)(cx:Ej x=none->k (.aK [bu [],iv 11]) H):bi lv SD 32 H [x.av] k kp:=by
 refine bI (rs:=[.tmp 2, .tmp 3]) (nt:=27) Tryz.f32 λhH hA=> ?_;simp only[bp,SS,ai.av];have aQ:=hx.fD;have bQ:x.l=[iv x.first,iv x.hours,iv x.am,ej x.seen,bk x.pieces,bk x.aB]:=rfl;have t_:Ud 5 x.l=[.sl x.aB.length (x.aB.flatMap aG.l) .shut]:=rfl;have aT:∀(L:List aa),(H++L)[H.length]?=L[0]?:=λL=>aS H L 0;have br:x.l.length=6:=rfl;have eJ:T_ 6 x.l=x.l:=rfl;refine ak ?_;refine aj ?_;simp only[seval,aT,br,eJ];refine aL ((IG (x:=x) hx ?_));(try simp only[seval]);refine aj ?_;simp only[seval,show ((0:Int)!=0)=false from rfl];refine aC ?_;refine aP ?_;refine aj ?_;simp only[seval,aT,t_];refine aL ((ahx (n:=x.aB.length) aQ ?_));have jh:=(aac x.aB.length (by omega)).1;have fz:=λl hl=>alW (n:=x.aB.length) (by omega) (l:=l) hl;have vI:Ej x=(v6 x.aB.length).find? λl=>vc (x.wo l):=rfl;generalize v6 x.aB.length=ls at jh fz vI⊢;have hp8:2^x.aB.length<=2^3:=WH (by omega) aQ;(try simp only[seval,yp]);refine cN ?_;refine gM ls.length (λi:Nat=>[(17,iv i)]) (λi=>H++[.cells x.l 26]) (λi=>∀j b,j<i->ls[j]?=some b->vc (x.wo b)=false) (λ_ _=>rfl) (by simp only[seval];simp[bB,Wk.refl]) rfl (λ_ _ _=>by simp) (λj b hj=>by omega) (λcm dF i cw ay R hR=> ?_);clear cm dF;refine ak ?_;refine aC ?_;refine⟨λh=> ?_,λh=> ?_⟩
 ·have bE:i<ls.length:=by omega
  obtain⟨l,hl⟩:=cG bE;have gP:=fz l (v7 hl);have f_:SE.wrap ((i:Int)+1)=((i+1:Nat):Int):=by rw[bD _ (by omega)];rfl
  refine aP ?_;refine aj ?_;simp only[seval,abQ hl,jQ bE];refine aj ?_;simp only[seval,aT,br,eJ];refine aL ((Pb (x:=x) (ns:=l) aQ gP ?_));(try simp only[seval]);refine aL ((ahy (x:=x.wo l) (hx.wo l) ?_));(try simp only[seval]);refine aC ?_;refine⟨λhc=> ?_,λhc=> ?_⟩
  ·refine ak ?_;refine a_ ?_;exact je (b:= .aK [bu l,iv 0]) hH (G0 (Wk.refl _) (Wk.refl _)) (by simp[iV,eK,xM]) (gZ l (by rw[vI];exact Pl hl hc ay))
  ·refine aP ?_;refine aj ?_;simp only[seval,f_];refine hR _ ⟨bE,λj b hj hb=> ?_,dR⟩;rcases XT j i with h'|h'
   ·exact ay j b h' hb
   ·have:j=i:=(by omega);subst this;rw[hl]at hb;cases hb;simpa using hc
 ·have sK:i=ls.length:=by omega
  subst sK;refine cq ?_;refine ak ?_;refine a_ ?_;exact je (b:= .aK [bu [],iv 11]) hH (G0 (jw _ _ _) (Wk.refl _)) (by simp[iV,eK,xM]) (cx (by rw[vI];exact ahZ λj b hb=>ay j b (eU hb) hb))
end
open Go.Conc
def behind (j:Nat)(o:Oper):Oper:={o with after:=o.after.push {on:=j,ground:= .data}}
def n5 (ops:Array Oper)(i j:Nat):Array Oper:=ops.modify i (behind j)
theorem ad0(ops:Array Oper)(i j:Nat):(n5 ops i j).size=ops.size:=by simp[n5]
theorem qK(ops:Array Oper)(i j k:Nat):(n5 ops i j)[k]?=if i=k then(ops[k]?).map (behind j)else ops[k]?:=by
 unfold n5;rw[VG]
theorem ae6(j:Nat)(o:Oper):cQ (behind j o)=cQ o++[j]:=by
 unfold cQ behind;simp only[Array.toList_push,List.filterMap_append];rfl
theorem abv{ops:Array Oper}{i j:Nat}{X l:List Nat}(h:l5 ops X l):j∈X->l5 (n5 ops i j) X l:=by
 induction h with
 |nil X h=>exactλ_=> .nil X λk hk=>h k (by rwa [ad0]at hk)
 |cons o ho hn hd lL ih=>
  rename_i X k l;intro hj;by_cases e:i=k
  ·exact .cons (behind j o) (by rw[qK,if_pos e,ho];rfl) hn (λq hq=>by
    rw[ae6]at hq;rcases SN.1 hq with hq|hq
    ·exact hd q hq
    ·rw[S5.1 hq];exact hj) (ih (S9 _ hj))
  ·exact .cons o (by rw[qK,if_neg e];exact ho) hn hd (ih (S9 _ hj))
theorem ao6{ops:Array Oper}{i j:Nat}(kq:i≠j)(hi:i<ops.size){X l:List Nat}(h:l5 ops X l):i∉X->j∉X->l5 (n5 ops i j) X l\/l5 (n5 ops j i) X l:=by
 induction h with
 |nil X h=>exactλh1 _=>absurd (h i hi) h1
 |cons o ho hn hd lL ih=>
  rename_i X k l;intro h1 h2;by_cases e:k=i
  ·subst e;exact .inr (.cons o (by rw[qK,if_neg (Ne.symm kq)];exact ho) hn hd (abv lL Tu))
  ·by_cases e2:k=j
   ·subst e2;exact .inl (.cons o (by rw[qK,if_neg kq];exact ho) hn hd (abv lL Tu))
   ·rcases ih (λhm=>(SK.1 hm).elim (λx=>e x.symm) h1) (λhm=>(SK.1 hm).elim (λx=>e2 x.symm) h2)with q|q
    ·exact .inl (.cons o (by rw[qK,if_neg (Ne.symm e)];exact ho) hn hd q)
    ·exact .inr (.cons o (by rw[qK,if_neg (Ne.symm e2)];exact ho) hn hd q)
section
variable {lv:Bool}{P:Program}{r:Option Nat}{ops:Array Oper}{nt:Nat}
theorem ad1(i j:Nat)(tmps:Array Value):yielded (n5 ops i j) tmps=yielded ops tmps:=by
 funext k;unfold yielded;rw[qK];by_cases e:i=k
 ·rw[if_pos e];cases ops[k]?<;>rfl
 ·rw[if_neg e]
theorem ND(i j:Nat)(Q:Ex->Act->View->Prop):∀l:List Nat,dj lv P r (n5 ops i j) Q l=dj lv P r ops Q l
 |[]=>rfl
 |k::l=>by
  funext a V;have ih:=ND i j Q l;simp only[dj];rw[qK,ad1,ih];by_cases e:i=k
  ·rw[if_pos e];cases ho:ops[k]?with
   |none=>rfl
   |some o=>rfl
  ·rw[if_neg e]
theorem HC(i j:Nat)(Hf:List Nat->List aa)(K:AS->Prop)(t:AC K):∀(pl:List qG)(s:AS),gu lv P Hf (n5 ops i j) pl s K t=gu lv P Hf ops pl s K t
 |[],_=>rfl
 |⟨k,false,_,l⟩::rest,s=>by
  have ih:=HC i j Hf K t rest;simp only[gu,qK];have e:∀o,an (some o) (λo=>AQ lv P s o λav=>BQ lv P Hf s.T o av l/\gu lv P Hf (n5 ops i j) rest (s.put o.dst av) K t)=an (some o) (λo=>AQ lv P s o λav=>BQ lv P Hf s.T o av l/\gu lv P Hf ops rest (s.put o.dst av) K t):=λo=>by
   simp only[an,ih]
  have bq:∀(o:Oper) av,BQ lv P Hf s.T (behind j o) av l=BQ lv P Hf s.T o av l:=λo av=>by
   induction l with
   |nil=>rfl
   |cons p l ln=>exact congrArg (λx=>_/\x) (ln λo=>by simp only[an,ih])
  split
  ·cases ops[k]?with
   |none=>rfl
   |some o=>
    simp only[UB,an,ih,bq];rfl
  ·cases ops[k]?with
   |none=>rfl
   |some o=>exact e o
 |⟨k,true,D,l⟩::rest,s=>by
  have ih:=HC i j Hf K t rest;simp only[gu,qK];have be:∀(o:Oper) av,BE lv P Hf s.T (behind j o) av l=BE lv P Hf s.T o av l:=λo av=>by
   induction l with
   |nil=>rfl
   |cons p l ln=>exact congrArg (λx=>_/\x) ln
  split
  ·cases ops[k]?with
   |none=>rfl
   |some o=>
    simp only[UB,an,ih,be];rfl
  ·cases ops[k]?with
   |none=>rfl
   |some o=>simp only[an,ih]
theorem af8{es ord:List Nat}(ay:qR nt ops es ord=true)(t:Nat):l5 ops [] (Uo .any ops ops.size t (TA ops.size false) []):=by
 have ay:=qR.out ay;obtain⟨vO,_,hlt⟩:=C_ ay.top;have ready:∀(ord X:List Nat),kz ops X ord=true->∀A i B,ord=A++i::B->∃o,ops[i]?=some o/\∀j∈cQ o,j∈A\/j∈X:=by
  intro ord;induction ord with
  |nil=>intro X _ A i B e;cases A<;>cases e
  |cons x l ih=>
   intro X nL A i B e;simp only[kz,Td,TL,Ub,decide_eq_false_iff_not]at nL;obtain⟨⟨h1,h2⟩,h3⟩:=nL;cases A with
   |nil=>
    have e1:x=i:=(by have:=congrArg List.head? e;simpa using this);rw[e1]at h2;cases ho:ops[i]?with
    |none=>rw[ho]at h2;cases h2
    |some o=>
     rw[ho]at h2;exact⟨o,rfl,λj hj=> .inr (by have:=Tp.1 h2 j hj;simpa using this)⟩
   |cons y A=>
    cases e;obtain⟨o,ho,hb⟩:=ih (x::X) h3 A i B rfl;refine⟨o,ho,λj hj=> ?_⟩;rcases hb j hj with h|h
    ·exact .inl (S9 _ h)
    ·rcases SK.1 h with rfl|h
     ·exact .inl (Tu ..)
     ·exact .inr h
 exact Ls (ops:=ops) (λi o ho j hj=>by
   obtain⟨A,B,e⟩:=List.append_of_mem (ay.full i (SP.1 ho).1);obtain⟨o',bf,hb⟩:=ready ord [] ay.top A i B e;rw[ho]at bf;cases bf;rcases hb j hj with h|h
   ·exact hlt j (by rw[e];exact Tb _ h)
   ·cases h)
  (λX ⟨i,hi,hn⟩=>by
   obtain⟨A,i',B,e,h1,h2⟩:=IR (X:=X) ⟨i,ay.full i hi,hn⟩;obtain⟨o',bf,hb⟩:=ready ord [] ay.top A i' B e;refine⟨i',o',bf,h1,λj hj=> ?_⟩;rcases hb j hj with h|h
   ·exact h2 j h
   ·cases h)
  ops.size t (TA ops.size false) [] ⟨by simp,λi hi=>by simp[hi]⟩ (Ur Ye (by simp))
end
inductive rY (ops:Array Oper):Array Oper->Prop
 |base:rY ops ops
 |add {o:Array Oper} (h:rY ops o) (i j:Nat):rY ops (n5 o i j)
section
variable {lv:Bool}{P:Program}{r:Option Nat}{ops o:Array Oper}{nt:Nat}{s:AS}{Φ:ao->AS->Prop}
theorem rY.wp(h:rY ops o)(Q:Ex->Act->View->Prop)(l:List Nat):dj lv P r o Q l=dj lv P r ops Q l:=by
 induction h with
 |base=>rfl
 |add _ i j ih=>rw[ND,ih]
theorem rY.N9(h:rY ops o)(Hf:List Nat->List aa)(K:AS->Prop)(t:AC K)(pl:List qG)(s:AS):gu lv P Hf o pl s K t=gu lv P Hf ops pl s K t:=by
 induction h with
 |base=>rfl
 |add _ i j ih=>rw[HC,ih]
def DG (lv:Bool)(P:Program)(r:Option Nat)(nt:Nat)(ops o:Array Oper)(s:AS)(Φ:ao->AS->Prop):Prop:=
 ∀l E V a Q,l5 o [] l->At E V s a nt->(∀ae e E' V' a' s',Kept E E' V V' a a'->At E' V' s' a' nt->pF E' ae e->Φ ae s'->Q e a' V')->dj lv P r ops Q l a V
theorem qQ(i j:Nat)(kq:(i !=j&&decide (i<o.size))=true)(h1:DG lv P r nt ops (n5 o i j) s Φ)(h2:DG lv P r nt ops (n5 o j i) s Φ):DG lv P r nt ops o s Φ:=λl E V a Q hs ah hQ=>by
 rw[Td,bne_iff_ne,decide_eq_true_eq]at kq;rcases ao6 kq.1 kq.2 hs (by simp) (by simp)with hs|hs
 ·exact h1 l E V a Q hs ah hQ
 ·exact h2 l E V a Q hs ah hQ
theorem aeG{id:Nat}(es ord:List Nat)(hm:P.follows .mixedOrders=true)(ay:qR nt ops es ord=true)(h:DG lv P r nt ops ops s Φ):aY lv P r nt (.region id ops true) s Φ:=by
 intro E V a Q ah hQ;refine M9 λt=> ?_;rw[show Vo (P.follows .mixedOrders) ops t=Uo .any ops ops.size t (TA ops.size false) [] by unfold Vo;rw[hm];simp[Yl]];exact h _ E V a Q (af8 ay t) ah hQ
end
def F4 (lv:Bool)(P:Program)(o:Oper)(s:AS)(next:AS->Prop):Prop:=match o.op with
 | .call c=>match c.callee with
  | .value x=>an (s.ev x) λsq=>an (fx s c.args.toList) λaD=>Av lv P sq s.H aD (λb H'=>next ((⟨s.T,H'⟩:AS).put o.dst b)) (λ_ _=>False) ⟨0⟩
  |_=>False
 |_=>False
def aap (ops:Array Oper)(A B:List Nat)(m:Nat):Bool:=
 let cl:=gO ops (A++m::B) []
 A.all (λi=>(nq cl m).contains i)&&B.all λi=>(nq cl i).contains m
theorem rY.get{ops o:Array Oper}(h:rY ops o){m:Nat}{om:Oper}(hm:ops[m]?=some om):∃pz,o[m]?=some pz/\pz.op=om.op/\pz.dst=om.dst:=by
 induction h with
 |base=>exact⟨om,hm,rfl,rfl⟩
 |add _ i j ih=>
  obtain⟨q,h1,h2,h3⟩:=ih;rw[qK];split
  ·exact⟨behind j q,by rw[h1];rfl,h2,h3⟩
  ·exact⟨q,h1,h2,h3⟩
section
variable {lv:Bool}{P:Program}{r:Option Nat}{ops o:Array Oper}{Hf:List Nat->List aa}{T0:List (Nat×AV)}{es ord:List Nat}{nt:Nat}{s:AS}{Φ:ao->AS->Prop}
theorem OM{f:Nat->AV}(ay:yg nt ops ord)(G:List Nat)(au:∀i∈G,∀o,ops[i]?=some o->∀X',kS ops X'->i∉X'->(∀j∈cQ o,j∈X')->OB lv P r ops Hf T0 es f i o X'){X l:List Nat}(hs:l5 ops X l):
  (∀i∈X,i<ops.size)->kS ops X->∀(E:Env)(V:View)(a:Act)(Q:Ex->Act->View->Prop),At E V ⟨TX ops T0 f X,Hf (done es X)⟩ a nt->
   (∀E' V' a' X' l',Kept E E' V V' a a'->At E' V' ⟨TX ops T0 f X',Hf (done es X')⟩ a' nt->(∀i∈X',i<ops.size)->kS ops X'->(∀i∈X',i∈X\/i∈G)->(∀i∈X,i∈X')->l5 ops X' l'->(∀i xJ,l'=i::xJ->i∉G)->dj lv P r ops Q l' a' V')->dj lv P r ops Q l a V:=by
 induction hs with
 |nil X h=>
  intro hX hc E V a Q ah hQ;exact hQ E V a X [] (Kept.refl E V a) ah hX hc (λi hi=> .inl hi) (λi hi=>hi) (.nil X h) (λi xJ e=>by cases e)
 |cons o ho hn hd lL ih=>
  rename_i X i l;intro hX hc E V a Q ah hQ;by_cases hG:i∈G
  ·have hi:i<ops.size:=(SP.1 ho).1;simp only[dj,ho];have o0:∀k∈i::X,k<ops.size:=λk hk=>(SK.1 hk).elim (λe=>by rw[e];exact hi) (hX k);have bc:=hc.cons ho hd;have hw:Tf o (yielded ops a.tmps)=true:=(by unfold Tf;rw[ay.Bs i o ho]);rw[if_pos hw];refine .inl ?_;have dn:∀d,o.dst=some d->d<a.tmps.size:=λd e=>(by rw[ah.size];exact ay.dst i o d ho e);have lJ:=au i hG o ho X hc hn hd;have lO:∀{n4:List Nat},(∀j∈n4,j∈i::X\/j∈G)->∀j∈n4,j∈X\/j∈G:=λh j hj=>by
    rcases h j hj with h|h
    ·rcases SK.1 h with rfl|h
     ·exact .inr hG
     ·exact .inl h
    ·exact .inr h
   unfold OB at lJ;by_cases dK:i∈es
   ·rw[if_pos dK]at lJ;have aQ:=lJ.step (r:=r) (bad:=λ_ _=>False);refine aQ E V a _ Q ah.bw ah.tok dn (.inr (ay.vd i o ho)) (λE' V' a' s' hk cT ht e=> ?_) λ_ _ _ _ _ _ _ _ _ h=>h.elim;subst e;rw[wH ho rfl]at ht cT;exact ih o0 bc E' V' a' Q ⟨cT,ht,hk.size.trans ah.size⟩ λbR aU cC n4 xJ aI dx w1 w2 w3 w4=>hQ bR aU cC n4 xJ (hk.trans aI) dx w1 w2 (lO w3) (λj hj=>w4 j (S9 _ hj))
   ·rw[if_neg dK]at lJ;obtain⟨T,hT,hq⟩:=lJ;refine hq E V a _ Q ah.bw (λt av e=>ah.tok t av (hT t av e)) (.inr (ay.vd i o ho)) λE' V' v hle b8 fl cT hv=> ?_;have ht:cj E' ((⟨TX ops T0 f X,Hf (done es X)⟩:AS).put o.dst (f i)).T (a.put o.dst v).tmps:=cj.hO (s:=⟨TX ops T0 f X,Hf (done es X)⟩) (ah.tok.mono hle) dn hv;rw[wH ho rfl]at ht;refine ih o0 bc E' V' (a.put o.dst v) Q ⟨by rw[Ik dK];exact cT,ht,(eD _ _ _).trans ah.size⟩ λbR aU cC n4 xJ hk dx w1 w2 w3 w4=>
     hQ bR aU cC n4 xJ ⟨hle.trans hk.le,hk.size.trans (eD _ _ _),hk.defers.trans (put_defers _ _ _),hk.role.trans b8,hk.deaf.trans fl⟩ dx w1 w2 (lO w3) (λj hj=>w4 j (S9 _ hj))
  ·exact hQ E V a X (i::l) (Kept.refl E V a) ah hX hc (λi hi=> .inl hi) (λi hi=>hi) (.cons o ho hn hd lL) (λj xJ e=>by cases e;exact hG)
theorem acy{ops:Array Oper}:∀{A L X:List Nat},kz ops X (A++L)=true->kz ops X A=true/\kz ops (A.reverse++X) L=true
 |[],L,X,h=>⟨rfl,h⟩
 |i::A,L,X,h=>by
  rw[Vb,kz,Td]at h;obtain⟨h1,h2⟩:=acy h.2;refine⟨by rw[kz,Td];exact⟨h.1,h1⟩, ?_⟩;rw[Ys,SC];exact h2
theorem acz{ops:Array Oper}:∀{A X:List Nat},kz ops X A=true->kS ops X->kS ops (A.reverse++X)
 |[],X,h,hX=>hX
 |i::A,X,h,hX=>by
  have nL:=h;simp only[kz,Td,TL,Ub,decide_eq_false_iff_not]at nL;obtain⟨⟨hi,h2⟩,h3⟩:=nL;cases ho:ops[i]?with
  |none=>rw[ho]at h2;cases h2
  |some o=>
   rw[ho]at h2;have hd:∀j∈cQ o,j∈X:=λj hj=>(by have:=Tp.1 h2 j hj;simpa using this);have:=acz h3 (hX.cons ho hd);rw[Ys,SC];exact this
def AF (lv:Bool)(P:Program)(ops:Array Oper)(m:Nat)(Gs:List qG)(Φ:ao->AS->Prop)(s1:AS):Prop:=an (ops[m]?) λom=>F4 lv P om s1 λs2=>∃nV:List Nat->List aa,s2.H=nV []/\gu lv P nV ops Gs s2 (Φ .normal) ⟨0⟩
theorem pN(ha:rY ops o)(m:Nat)(A B oY nm:List Nat)(pl1 Gs:List qG)(oP:List Nat->List aa)(ay:qR nt o [] (A++m::B)=true)(EL:aap o A B m=true)(aka:qt (gO o (A++m::B) []) oY [] A=pl1)(akb:qt (gO o (A++m::B) []) nm (m::A.reverse) B=Gs)(ajv:nm.all B.contains=true)(h0:s.H=oP [])
  (h:gu lv P oP ops pl1 s (AF lv P ops m Gs Φ) ⟨0⟩):DG lv P r nt ops o s Φ:=λl E V a Q hs ah hQ=>by
 subst aka akb;rw[<- ha.wp];rw[<- ha.N9]at h;have ay:=qR.out ay;obtain⟨vO,_,hlt⟩:=C_ ay.top;obtain⟨tA,tB⟩:=acy ay.top;rw[SI]at tB;have tB':kz o (m::A.reverse) B=true:=by
  rw[kz,Td]at tB;exact tB.2
 unfold aap at EL;dsimp only at EL;rw[Td,Tp,Tp]at EL;obtain⟨cA,cB⟩:=EL;have Q3:m∉A:=λhm=>(UC.1 vO).2.2 m hm m (by simp) rfl;have zl:m∉B:=(Vv.1 (UC.1 vO).2.1).1;have PQ:∀i∈B,i∉A:=λi hi hA=>(UC.1 vO).2.2 i hA i (by simp[hi]) rfl;have dV:s=⟨TX o s.T (λ_=> .val undef) [],oP (done oY [])⟩:=by
  have:done oY []=[]:=by simp[done]
  rw[this,<- h0];rfl
 have h':gu lv P oP o (qt (gO o (A++m::B) []) oY [] A) ⟨TX o s.T (λ_=> .val undef) [],oP (done oY [])⟩ (AF lv P ops m (qt (gO o (A++m::B) []) nm (m::A.reverse) B) Φ) ⟨0⟩:=by rw[<- dV];exact h
 obtain⟨f,_,q2,q3⟩:=A8 (r:=r) ay A [] _ tA (λi hi=>by cases hi) h';have sD:At E V ⟨TX o s.T f [],oP (done oY [])⟩ a nt:=by
  have e:(⟨TX o s.T f [],oP (done oY [])⟩:AS)=s:=dV.symm;rw[e];exact ah
 refine OM (Hf:=oP) (es:=oY) ay A q2 hs (by simp) (λi hi=>by cases hi) E V a Q sD λE1 V1 a1 X1 l1 gZ vv hX1 dl KD _ dW Ft=> ?_;have Q4:m∉X1:=λhm=>by
  rcases KD m hm with h|h
  ·cases h
  ·exact Q3 h
 cases dW with
 |nil _ fO=>exact absurd (fO m (hlt m (by simp))) Q4
 |@cons _ i l2 pz ho hn hd lL=>
  have hi:i<o.size:=(SP.1 ho).1;have hiA:i∉A:=Ft i l2 rfl;have lH:i=m:=by
   rcases SN.1 (ay.full i hi)with h|h
   ·exact absurd h hiA
   ·rcases SK.1 h with h|h
    ·exact h
    ·have:=cB i h;have hr:m∈nq (gO o (A++m::B) []) i:=(by simpa using this);exact absurd (z_ dl (yB hr) λo' bf k hk=>by rw[ho]at bf;cases bf;exact hd k hk) Q4
  subst lH;have PR:∀j∈A,j∈X1:=λj hj=>by
   have:=cA j hj;have hr:j∈nq (gO o (A++i::B) []) i:=(by simpa using this);exact z_ dl (yB hr) λo' bf k hk=>by rw[ho]at bf;cases bf;exact hd k hk
  have Kc:∀j,j∈X1<->j∈A.reverse++[]:=λj=>by
   rw[SI,W5];exact⟨λh=>(KD j h).elim (λh=>by cases h) id,PR j⟩
  have Jr:At E1 V1 ⟨TX o s.T f (A.reverse++[]),oP (done oY (A.reverse++[]))⟩ a1 nt:=by
   refine⟨?_,λt x e=> ?_,vv.size⟩
   ·rw[<- Ec Kc];exact vv.bw
   ·rw[<- DJ ay Kc]at e;exact vv.tok t x e
  simp only[dj,ho];have hw:Tf pz (yielded o a1.tmps)=true:=by unfold Tf;rw[ay.Bs i pz ho]
  rw[if_pos hw];refine .inl ?_;have dn:∀d,pz.dst=some d->d<a1.tmps.size:=λd e=>by rw[vv.size];exact ay.dst i pz d ho e
  unfold AF at q3;obtain⟨om,hom,q3⟩:=q3.out;obtain⟨om2,g1,g2,g3⟩:=ha.get hom;rw[ho]at g1;cases g1;unfold F4 at q3;obtain⟨c,x,ajc,ai1,q4⟩:∃c x,om.op= .call c/\c.callee= .value x/\an ((⟨TX o s.T f (A.reverse++[]),oP (done oY (A.reverse++[]))⟩:AS).ev x) λsq=>an (fx ⟨TX o s.T f (A.reverse++[]),oP (done oY (A.reverse++[]))⟩ c.args.toList) λaD=>Av lv P sq (oP (done oY (A.reverse++[]))) aD (λb H'=>∃nV:List Nat->List aa,((⟨TX o s.T f (A.reverse++[]),H'⟩:AS).put om.dst b).H=nV []/\gu lv P nV ops (qt (gO o (A++i::B) []) nm (i::A.reverse) B) ((⟨TX o s.T f (A.reverse++[]),H'⟩:AS).put om.dst b) (Φ .normal) ⟨0⟩) (λ_ _=>False) ⟨0⟩:=by
   split at q3
   ·rename_i c hc;split at q3
    ·rename_i x hx;exact⟨c,x,hc,hx,q3⟩
    ·exact q3.elim
   ·exact q3.elim
  obtain⟨sq,e1,q5⟩:=q4.out;obtain⟨aD,e2,q6⟩:=q5.out;have lj:=MN (lv:=lv) (P:=P) (r:=r) (o:=pz) (s:=⟨TX o s.T f (A.reverse++[]),oP (done oY (A.reverse++[]))⟩) (next:=λs2=>∃av H' nV,s2=(⟨TX o s.T f (A.reverse++[]),H'⟩:AS).put pz.dst av/\H'=nV []/\gu lv P nV ops (qt (gO o (A++i::B) []) nm (i::A.reverse) B) s2 (Φ .normal) ⟨0⟩) (bad:=λ_ _=>False) (g2.trans ajc) ai1 e1 e2 (ja.mono q6 (λav H'=>by
    rintro⟨nV,w1,w2⟩
    rw[<- g3]at w1 w2;refine⟨av,H',nV,rfl, ?_,w2⟩;rw[<- w1];cases pz.dst<;>rfl) (λ_ _ h=>h))
  refine lj E1 V1 a1 _ Q Jr.bw Jr.tok dn (.inr (ay.vd i pz ho)) (λE2 V2 a2 s2 cx cT Fv e=> ?_) λ_ _ _ _ _ _ _ _ _ h=>h.elim;obtain⟨av,H',nV,rfl,hH',hb⟩:=e;obtain⟨f',Qz⟩:∃f':Nat->AV,f'=λj=>if j=i then av else f j:=⟨_,rfl⟩;have hff:∀j∈A.reverse++[],f j=f' j:=λj hj=>by
   have:j≠i:=λe=>Q3 (by subst e;simpa using hj);rw[Qz];simp[this]
  have hp:(⟨TX o s.T f (A.reverse++[]),H'⟩:AS).put pz.dst av=⟨TX o s.T f' (i::A.reverse),nV (done nm (i::A.reverse))⟩:=by
   have o5:done nm (i::A.reverse)=[]:=by
    unfold done;rw[XO];intro j hj;have:=Tp.1 ajv j hj;have EZ:j∈B:=(by simpa using this);have h1:j≠i:=λe=>zl (e▸EZ);have h2:=PQ j EZ;simp[h1,h2]
   rw[AL hff,wH ho (by rw[Qz];simp),o5,hH',SI]
  rw[hp]at hb cT Fv;rw[<- ha.N9]at hb;have ai7:kS o (i::A.reverse):=by
   have h1:=acz tA (X:=[]) (λi hi=>by cases hi);rw[SI]at h1;exact h1.cons ho λj hj=>by
    have:=KD j (hd j hj);simpa using this
  obtain⟨f2,p1,p2,p3⟩:=A8 (r:=r) ay B (i::A.reverse) f' tB' ai7 hb;have Q6:∀j,j∈i::X1<->j∈i::A.reverse:=λj=>by
   have:=Kc j;rw[SI]at this;rw[SK,SK,this]
  have tX:At E2 V2 ⟨TX o s.T f2 (i::X1),nV (done nm (i::X1))⟩ a2 nt:=by
   refine⟨?_,λt x e=> ?_,cx.size.trans Jr.size⟩
   ·rw[Ec Q6];exact cT
   ·rw[DJ ay Q6,AL p1]at e;exact Fv t x e
  refine OM (Hf:=nV) (es:=nm) ay B p2 lL (λk hk=>(SK.1 hk).elim (λe=>by rw[e];exact hi) (hX1 k)) (dl.cons ho hd) E2 V2 a2 Q tX λE3 V3 a3 X3 l3 vL pU hX3 d_ asD Rb pq akE=> ?_;cases pq with
  |cons o3 Kj Ke za asC=>
   rename_i j l4;exfalso;have hj:j<o.size:=(SP.1 Kj).1;have EZ:=akE j l4 rfl;rcases SN.1 (ay.full j hj)with h|h
   ·exact Ke (Rb j (S9 _ (PR j h)))
   ·rcases SK.1 h with rfl|h
    ·exact Ke (Rb j (Tu ..))
    ·exact EZ h
  |nil _ fO=>
   have Q7:∀j,j∈X3<->j∈B.reverse++i::A.reverse:=λj=>by
    rw[SN,SK,W5,W5];constructor
    ·intro h;have:=SN.1 (ay.full j (hX3 j h));rw[SK]at this;rcases this with h|h|h
     ·exact .inr (.inr h)
     ·exact .inr (.inl h)
     ·exact .inl h
    ·intro h;refine fO j (hlt j ?_);rw[SN,SK];rcases h with h|h|h
     ·exact .inr (.inr h)
     ·exact .inr (.inl h)
     ·exact .inl h
   refine hQ .normal .normal E3 V3 a3 _ ((gZ.trans cx).trans vL) ⟨?_,λt x e=> ?_,pU.size⟩ trivial p3
   ·rw[<- Ec Q7];exact pU.bw
   ·rw[<- DJ ay Q7]at e;exact pU.tok t x e
end
theorem ams:type_of% @F4.eq_1:=by intros;rw[F4.eq_1]
theorem amt:type_of% @AF.eq_1:=by intros;rw[AF.eq_1]
attribute [seval] ams amt
open Go.Proofs Go.Gg.Tk
theorem aa5{x:ai}{q:Nat}(hq:q<x.pieces.length):mv x [(q:Int)]=true:=by
 unfold mv;simp;omega
theorem afY{lv:Bool}{P:Program}{r:Option Nat}{nt:Nat}{ops:Array Oper}{s:AS}{Φ:ao->AS->Prop}{α:Type}{ok:α->Prop}(st:α->AS)(rest:∀x,ok x->Φ .normal (st x))(h:(∀x,ok x->Φ .normal (st x))->DG lv P r nt ops ops s Φ):DG lv P r nt ops ops s Φ:=h rest
theorem qy{T V:List (Nat×AV)}{H H':List aa}(hH:H=H')(hv:∀p∈V,∃b,look T p.1=some b/\Wk b p.2):(⟨T,H⟩:AS).Sub ⟨V,H'⟩:=
 ⟨λt a e=>hv (t,a) (rG e),hH⟩
section
variable {lv:Bool}{H:List aa}{k kp:AV->List aa->Prop}
theorem ahk{x:ai}{q:Nat}(hx:x.Ok)(hq:q<x.pieces.length)(hm:H[0]?=some .main)(hk:∀D,dZ x 1 D->(D.has=false->k (.aK [bu [],iv 11]) H)/\(D.has=true->k (.aK [bu (fQ (D.aA.getD q 0) x.first 16),iv 0]) H)):bi true SD 34 H [x.av,iv q] k kp:=by
 refine bI (rs:=[.tmp 4, .tmp 5]) (nt:=29) Tryz.f34 λhH hA=> ?_;simp only[bp,SS,ai.av];have hp:=hx.am;have oC:=hx.dI;have jl:=aa5 hq;obtain⟨p,dq⟩:∃p:Nat,x.am=p:=⟨x.am.toNat,by omega⟩;have bQ:x.l=[iv x.first,iv x.hours,iv x.am,ej x.seen,bk x.pieces,bk x.aB]:=rfl;have bW:∀(L:List aa)(j:Nat),(H++L)[H.length+j]?=L[j]?:=λL j=>aS H L j;have jZ:∀(L:List aa)(j:Nat)(y:aa),(H++L).set (H.length+j) y=H++L.set j y:=λL j y=>de H L j y;have aT:∀(L:List aa),(H++L)[H.length]?=L[0]?:=λL=>aS H L 0;have br:x.l.length=6:=rfl;have nu:(1<=2^24)=True:=eq_true (by decide);have eJ:T_ 6 x.l=x.l:=rfl;obtain⟨u0,hu⟩:∃u0:List AV,u0=[.val (.int .i64 0), .val (.int .i64 0), .val (.int .i64 0), .sl 0 [] .exact, .sl 0 [] .exact, .sl 0 [] .exact]:=⟨_,rfl⟩;obtain⟨v0,hv⟩:∃v0:List AV,v0=[.val (.bool false), .val (.map none), .val (.int .u16 0), .val (.int .u16 0), .val (.int .u16 0), .val (.int .u16 0), .val (.int .u16 0), .val (.int .u16 0), .val (.int .u16 0), .val (.int .u16 0), .val (.int .u16 0), .val (.int .u16 0), .val (.int .u16 0), .val (.int .u16 0), .val (.int .u16 0), .val (.int .u16 0), .val (.int .u16 0), .val (.int .i64 0), .val (.int .i64 0), .val (.int .i64 0), .val (.int .i64 0), .val (.int .i64 0), .val (.int .i64 0), .val (.int .i64 0), .val (.int .i64 0), .val (.int .i64 0), .val (.int .i64 0), .val (.int .i64 0)]:=⟨_,rfl⟩;have dH:=hu.symm;have cW:=hv.symm;have iD:u0.length=6:=by rw[hu];rfl
 have iE:v0.length=28:=by rw[hv];rfl
 have jn:Ud 6 u0=[]:=by rw[hu];rfl
 have gn:Ud 28 v0=[]:=by rw[hv];rfl
 refine ak ?_;(repeat apply iA);refine aeG [4,10,11,12,13] [0,1,2,3,4,5,6,7,8,9,10,11,12,13,14] F.mixed (by kernel_rfl) ?_;refine afY (α:=Nat×Nat×Kn×List aa) (ok:=λy=>dZ x 1 y.2.2.1/\bP y.2.2.1/\(∃L,y.2.2.2=H++L)/\y.2.2.2[H.length]?=some (.cells x.l 26)/\y.2.2.2[y.1]?=some (.cells (y.2.2.1.l y.2.1) 88)) (λy=>⟨[(7, .op y.1 0),(8,iv (eX y.2.2.1)),(1,iv q),(2, .op H.length 0)],y.2.2.2⟩) (λy hy=> ?_) (λrest=> ?_)
 ·obtain⟨i,mp,D,G⟩:=y;obtain⟨eM,bA,⟨L0,hG⟩,PW,PV⟩:=hy;dsimp only at hG PW PV;obtain⟨gZ,cx⟩:=hk D eM;have fj:∀(ns:List Int)(e:End)(m:Int),k (.aK [bu ns,iv m]) H->cy H.length G (.aK [.sl ns.length (ns.map iv) e,iv m]) k:=λns e m h=>by
   rw[hG];exact je hH (G0 (jw _ _ _) (Wk.refl _)) (by simp[iV,eK,bu,uC]) h
  (try simp only[seval]);cases gD:D.has with
  |false=>
   have hE:eX D=11:=(by rw[eX,gD];rfl);refine aj ?_;simp only[seval,hE,show ((11:Int)!=0)=true from rfl];refine aC ?_;refine ak ?_;refine a_ ?_;exact fj [] .exact 11 (gZ gD)
  |true=>
   have hE:eX D=0:=(by rw[eX,gD];rfl);have cx:=cx gD;obtain⟨u,hu⟩:=cG (xs:=D.aA) (i:=q) (by rw[bA.aA];omega);have lu:=bA.mr _ (S_ hu);have lP:D.aA.getD q 0=u:=(by rw[SF,hu];rfl);rw[lP]at cx;have b3:(0<=(q:Int)/\(q:Int)<4)=True:=(by simp;omega);have BT:=Kn.F_ (mp:=mp) hu;have jG:=hx.first;refine aj ?_;simp only[seval,hE,show ((0:Int)!=0)=false from rfl];refine aC ?_;refine aP ?_;refine eS 6 ?_;simp only[seval,PW,PV,b3,BT,bQ];refine aL ((IF lu (by omega) ?_));(try simp only[seval]);refine a_ ?_;exact fj _ _ 0 cx
 ·refine qQ 5 10 rfl ?_ ?_
  ·refine qQ 5 11 rfl ?_ ?_
   ·refine qQ 4 10 rfl ?_ ?_
    ·refine qQ 4 11 rfl ?_ ?_
     ·refine qQ 10 11 rfl ?_ ?_
      ·refine pN (.add (.add (.add (.add (.add .base 5 10) 5 11) 4 10) 4 11) 10 11) 5 [0,1,2,3,11,10,4] [6,7,8,9,12,13,14] [11,10,4] [12,13] [⟨0,false,[],[([11],[11]),([11,10],[11,10]),([11,10,4],[11,10,4])]⟩,⟨1,false,[],[([11],[11]),([11,10],[11,10])]⟩,⟨2,false,[],[([11],[11]),([11,10],[11,10])]⟩,⟨3,false,[],[([11],[11]),([11,10],[11,10])]⟩,⟨11,true,[11],[]⟩,⟨10,true,[11,10],[]⟩,⟨4,true,[11,10,4],[]⟩] [⟨6,false,[],[]⟩,⟨7,false,[],[]⟩,⟨8,false,[],[([12],[12])]⟩,⟨9,false,[],[([12],[12]),([12,13],[12,13])]⟩,⟨12,true,[12],[]⟩,⟨13,true,[12,13],[]⟩,⟨14,false,[12,13],[]⟩] (λD=>bif isDone 4 D then H++[.cells x.l 26, .cells v0 88, .cells u0 76, .cells x.l 26, .cells [.sl 1 [iv q] .exact] 22]else bif isDone 10 D then H++[.cells x.l 26, .cells v0 88, .cells u0 76]else bif isDone 11 D then H++[.cells x.l 26, .cells v0 88]else H++[.cells x.l 26]) (by kernel_rfl) (by kernel_rfl) (by kernel_rfl) (by kernel_rfl) (by kernel_rfl) (by first|rfl|simp only[seval]) ?_;(try simp only[seval,z1,eJ,nu,and_self,aT,dH,cW,br,SQ]);refine kW _ _ (bT (oc (x:=x) (ns:=[(q:Int)]) ⟨rfl,rfl⟩)) ?_;(try simp only[seval,aT,dH,cW,br,SQ,SC]);refine aL ((lC (x:=x) (b:=mv x [(q:Int)]) hx dq (ey hm) (λL k kp hk=>bT (od (x:=x) (ns:=[(q:Int)]) (e:= .exact) (il:=H.length+4) (ir:=H.length+3) hx (by simp) (by rw[SC,bW];rfl) (by rw[SC,bW];rfl) hk)) (λh=>by rw[jl]at h;cases h) λ_ js D L mp dp dL bA jX hg=> ?_));have eM:dZ x 1 D:=⟨p,js,dq,dp,dL,bA⟩;have bU:=Kn.len bA mp;have eB:=kv D mp;obtain⟨N,hN⟩:∃N,N=H.length+5+L.length:=⟨_,rfl⟩;obtain⟨Bf,aN⟩:∃Bf:List AV->List AV->List aa,∀u v,Bf u v=H++([.cells x.l 26, .cells v 88, .cells u 76, .cells x.l 26, .cells [.sl 1 [iv q] .exact] 22]++L):=⟨_,λ_ _=>rfl⟩;have dE:H++[.cells x.l 26, .cells v0 88, .cells u0 76, .cells x.l 26, .cells [.sl 1 [iv q] .exact] 22]++L=Bf u0 v0:=(by rw[aN,SC]);have ba:∀u v,(Bf u v).length=N:=λu v=>(by rw[aN,hN];simp;omega);have bn:∀u v (L':List aa)(j:Nat),(Bf u v++L')[N+j]?=L'[j]?:=λu v L' j=>(by rw[<- ba u v,aS]);have dJ:∀u v (L':List aa)(j:Nat)(y:aa),(Bf u v++L').set (N+j) y=Bf u v++L'.set j y:=λu v L' j y=>(by rw[<- ba u v,de]);have fb:∀u v (L':List aa),(Bf u v++L')[N]?=L'[0]?:=λu v L'=>bn u v L' 0;have fe:∀u v (L':List aa)(y:aa),(Bf u v++L').set N y=Bf u v++L'.set 0 y:=λu v L' y=>dJ u v L' 0 y;have ez:∀u v (L':List aa),(Bf u v++L')[N+1]?=L'[1]?:=λu v L'=>bn u v L' 1;have ff:∀u v (L':List aa)(y:aa),(Bf u v++L').set (N+1) y=Bf u v++L'.set 1 y:=λu v L' y=>dJ u v L' 1 y;have fY:∀u v (L':List aa),(Bf u v++L')[H.length+2]?=some (.cells u 76):=λu v L'=>(by rw[aN,SC,bW];rfl);have gq:∀u v w (L':List aa),(Bf u v++L').set (H.length+2) (.cells w 76)=Bf w v++L':=λu v w L'=>(by rw[aN,aN,SC H,SC H,jZ];rfl);have jE:∀u v,(Bf u v)[H.length+2]?=some (.cells u 76):=λu v=>(by have:=fY u v [];rwa [SI]at this);have jK:∀u v w,(Bf u v).set (H.length+2) (.cells w 76)=Bf w v:=λu v w=>(by have:=gq u v w [];rwa [SI,SI]at this);have fZ:∀u v (L':List aa),(Bf u v++L')[H.length+1]?=some (.cells v 88):=λu v L'=>(by rw[aN,SC,bW];rfl);have gr:∀u v w (L':List aa),(Bf u v++L').set (H.length+1) (.cells w 88)=Bf u w++L':=λu v w L'=>(by rw[aN,aN,SC H,SC H,jZ];rfl);have jF:∀u v,(Bf u v)[H.length+1]?=some (.cells v 88):=λu v=>(by have:=fZ u v [];rwa [SI]at this);have jL:∀u v w,(Bf u v).set (H.length+1) (.cells w 88)=Bf u w:=λu v w=>(by have:=gr u v w [];rwa [SI,SI]at this);rw[dE];clear dE hg;refine⟨λDD=>bif isDone 13 DD then(Bf x.l (D.l mp))else bif isDone 12 DD then(Bf x.l v0)else Bf u0 v0,by first|rfl|simp only[seval], ?_⟩;try simp only[seval,dH,cW,ba,fb,fe,ez,ff,br,bU,iD,iE,jn,gn,ai.av,fY,gq,jE,jK,fZ,gr,jF,jL]
       first|refine⟨ky x,eB, ?_⟩|trace_state
       have hR:=rest (H.length+1,mp,D,(Bf x.l (D.l mp))) ⟨eM,bA,⟨_,by rw[aN]⟩,by rw[aN];exact aS H _ 0,by simp only[seval,dH,cW,ba,fb,fe,ez,ff,br,bU,iD,iE,jn,gn,ai.av,fY,gq,jE,jK,fZ,gr,jF,jL]⟩;exact mJ (qy rfl (by simp only[seval];simp[bB,Wk.refl])) hR
      ·refine pN (.add (.add (.add (.add (.add .base 5 10) 5 11) 4 10) 4 11) 11 10) 5 [0,1,2,3,10,11,4] [6,7,8,9,12,13,14] [10,11,4] [12,13] [⟨0,false,[],[([10],[10]),([10,11],[10,11]),([10,11,4],[10,11,4])]⟩,⟨1,false,[],[([10],[10]),([10,11],[10,11])]⟩,⟨2,false,[],[([10],[10]),([10,11],[10,11])]⟩,⟨3,false,[],[([10],[10]),([10,11],[10,11])]⟩,⟨10,true,[10],[]⟩,⟨11,true,[10,11],[]⟩,⟨4,true,[10,11,4],[]⟩] [⟨6,false,[],[]⟩,⟨7,false,[],[]⟩,⟨8,false,[],[([12],[12])]⟩,⟨9,false,[],[([12],[12]),([12,13],[12,13])]⟩,⟨12,true,[12],[]⟩,⟨13,true,[12,13],[]⟩,⟨14,false,[12,13],[]⟩] (λD=>bif isDone 4 D then H++[.cells x.l 26, .cells u0 76, .cells v0 88, .cells x.l 26, .cells [.sl 1 [iv q] .exact] 22]else bif isDone 11 D then H++[.cells x.l 26, .cells u0 76, .cells v0 88]else bif isDone 10 D then H++[.cells x.l 26, .cells u0 76]else H++[.cells x.l 26]) (by kernel_rfl) (by kernel_rfl) (by kernel_rfl) (by kernel_rfl) (by kernel_rfl) (by first|rfl|simp only[seval]) ?_;(try simp only[seval,z1,eJ,nu,and_self,aT,dH,cW,br,SQ]);refine kW _ _ (bT (oc (x:=x) (ns:=[(q:Int)]) ⟨rfl,rfl⟩)) ?_;(try simp only[seval,aT,dH,cW,br,SQ,SC]);refine aL ((lC (x:=x) (b:=mv x [(q:Int)]) hx dq (ey hm) (λL k kp hk=>bT (od (x:=x) (ns:=[(q:Int)]) (e:= .exact) (il:=H.length+4) (ir:=H.length+3) hx (by simp) (by rw[SC,bW];rfl) (by rw[SC,bW];rfl) hk)) (λh=>by rw[jl]at h;cases h) λ_ js D L mp dp dL bA jX hg=> ?_));have eM:dZ x 1 D:=⟨p,js,dq,dp,dL,bA⟩;have bU:=Kn.len bA mp;have eB:=kv D mp;obtain⟨N,hN⟩:∃N,N=H.length+5+L.length:=⟨_,rfl⟩;obtain⟨Bf,aN⟩:∃Bf:List AV->List AV->List aa,∀u v,Bf u v=H++([.cells x.l 26, .cells u 76, .cells v 88, .cells x.l 26, .cells [.sl 1 [iv q] .exact] 22]++L):=⟨_,λ_ _=>rfl⟩;have dE:H++[.cells x.l 26, .cells u0 76, .cells v0 88, .cells x.l 26, .cells [.sl 1 [iv q] .exact] 22]++L=Bf u0 v0:=(by rw[aN,SC]);have ba:∀u v,(Bf u v).length=N:=λu v=>(by rw[aN,hN];simp;omega);have bn:∀u v (L':List aa)(j:Nat),(Bf u v++L')[N+j]?=L'[j]?:=λu v L' j=>(by rw[<- ba u v,aS]);have dJ:∀u v (L':List aa)(j:Nat)(y:aa),(Bf u v++L').set (N+j) y=Bf u v++L'.set j y:=λu v L' j y=>(by rw[<- ba u v,de]);have fb:∀u v (L':List aa),(Bf u v++L')[N]?=L'[0]?:=λu v L'=>bn u v L' 0;have fe:∀u v (L':List aa)(y:aa),(Bf u v++L').set N y=Bf u v++L'.set 0 y:=λu v L' y=>dJ u v L' 0 y;have ez:∀u v (L':List aa),(Bf u v++L')[N+1]?=L'[1]?:=λu v L'=>bn u v L' 1;have ff:∀u v (L':List aa)(y:aa),(Bf u v++L').set (N+1) y=Bf u v++L'.set 1 y:=λu v L' y=>dJ u v L' 1 y;have fY:∀u v (L':List aa),(Bf u v++L')[H.length+1]?=some (.cells u 76):=λu v L'=>(by rw[aN,SC,bW];rfl);have gq:∀u v w (L':List aa),(Bf u v++L').set (H.length+1) (.cells w 76)=Bf w v++L':=λu v w L'=>(by rw[aN,aN,SC H,SC H,jZ];rfl);have jE:∀u v,(Bf u v)[H.length+1]?=some (.cells u 76):=λu v=>(by have:=fY u v [];rwa [SI]at this);have jK:∀u v w,(Bf u v).set (H.length+1) (.cells w 76)=Bf w v:=λu v w=>(by have:=gq u v w [];rwa [SI,SI]at this);have fZ:∀u v (L':List aa),(Bf u v++L')[H.length+2]?=some (.cells v 88):=λu v L'=>(by rw[aN,SC,bW];rfl);have gr:∀u v w (L':List aa),(Bf u v++L').set (H.length+2) (.cells w 88)=Bf u w++L':=λu v w L'=>(by rw[aN,aN,SC H,SC H,jZ];rfl);have jF:∀u v,(Bf u v)[H.length+2]?=some (.cells v 88):=λu v=>(by have:=fZ u v [];rwa [SI]at this);have jL:∀u v w,(Bf u v).set (H.length+2) (.cells w 88)=Bf u w:=λu v w=>(by have:=gr u v w [];rwa [SI,SI]at this);rw[dE];clear dE hg;refine⟨λDD=>bif isDone 13 DD then(Bf x.l (D.l mp))else bif isDone 12 DD then(Bf x.l v0)else Bf u0 v0,by first|rfl|simp only[seval], ?_⟩;try simp only[seval,dH,cW,ba,fb,fe,ez,ff,br,bU,iD,iE,jn,gn,ai.av,fY,gq,jE,jK,fZ,gr,jF,jL]
       first|refine⟨ky x,eB, ?_⟩|trace_state
       have hR:=rest (H.length+2,mp,D,(Bf x.l (D.l mp))) ⟨eM,bA,⟨_,by rw[aN]⟩,by rw[aN];exact aS H _ 0,by simp only[seval,dH,cW,ba,fb,fe,ez,ff,br,bU,iD,iE,jn,gn,ai.av,fY,gq,jE,jK,fZ,gr,jF,jL]⟩;exact mJ (qy rfl (by simp only[seval];simp[bB,Wk.refl])) hR
     ·refine pN (.add (.add (.add (.add .base 5 10) 5 11) 4 10) 11 4) 5 [0,1,2,3,10,4,11] [6,7,8,9,12,13,14] [10,4,11] [12,13] [⟨0,false,[],[([10],[10]),([10,4],[10,4]),([10,4,11],[10,4,11])]⟩,⟨1,false,[],[([10],[10])]⟩,⟨2,false,[],[([10],[10])]⟩,⟨3,false,[],[([10],[10])]⟩,⟨10,true,[10],[]⟩,⟨4,true,[10,4],[]⟩,⟨11,true,[10,4,11],[]⟩] [⟨6,false,[],[]⟩,⟨7,false,[],[]⟩,⟨8,false,[],[([12],[12])]⟩,⟨9,false,[],[([12],[12]),([12,13],[12,13])]⟩,⟨12,true,[12],[]⟩,⟨13,true,[12,13],[]⟩,⟨14,false,[12,13],[]⟩] (λD=>bif isDone 11 D then H++[.cells x.l 26, .cells u0 76, .cells x.l 26, .cells [.sl 1 [iv q] .exact] 22, .cells v0 88]else bif isDone 4 D then H++[.cells x.l 26, .cells u0 76, .cells x.l 26, .cells [.sl 1 [iv q] .exact] 22]else bif isDone 10 D then H++[.cells x.l 26, .cells u0 76]else H++[.cells x.l 26]) (by kernel_rfl) (by kernel_rfl) (by kernel_rfl) (by kernel_rfl) (by kernel_rfl) (by first|rfl|simp only[seval]) ?_;(try simp only[seval,z1,eJ,nu,and_self,aT,dH,cW,br,SQ]);refine kW _ _ (bT (oc (x:=x) (ns:=[(q:Int)]) ⟨rfl,rfl⟩)) ?_;(try simp only[seval,aT,dH,cW,br,SQ,SC]);refine aL ((lC (x:=x) (b:=mv x [(q:Int)]) hx dq (ey hm) (λL k kp hk=>bT (od (x:=x) (ns:=[(q:Int)]) (e:= .exact) (il:=H.length+3) (ir:=H.length+2) hx (by simp) (by rw[SC,bW];rfl) (by rw[SC,bW];rfl) hk)) (λh=>by rw[jl]at h;cases h) λ_ js D L mp dp dL bA jX hg=> ?_));have eM:dZ x 1 D:=⟨p,js,dq,dp,dL,bA⟩;have bU:=Kn.len bA mp;have eB:=kv D mp;obtain⟨N,hN⟩:∃N,N=H.length+5+L.length:=⟨_,rfl⟩;obtain⟨Bf,aN⟩:∃Bf:List AV->List AV->List aa,∀u v,Bf u v=H++([.cells x.l 26, .cells u 76, .cells x.l 26, .cells [.sl 1 [iv q] .exact] 22, .cells v 88]++L):=⟨_,λ_ _=>rfl⟩;have dE:H++[.cells x.l 26, .cells u0 76, .cells x.l 26, .cells [.sl 1 [iv q] .exact] 22, .cells v0 88]++L=Bf u0 v0:=(by rw[aN,SC]);have ba:∀u v,(Bf u v).length=N:=λu v=>(by rw[aN,hN];simp;omega);have bn:∀u v (L':List aa)(j:Nat),(Bf u v++L')[N+j]?=L'[j]?:=λu v L' j=>(by rw[<- ba u v,aS]);have dJ:∀u v (L':List aa)(j:Nat)(y:aa),(Bf u v++L').set (N+j) y=Bf u v++L'.set j y:=λu v L' j y=>(by rw[<- ba u v,de]);have fb:∀u v (L':List aa),(Bf u v++L')[N]?=L'[0]?:=λu v L'=>bn u v L' 0;have fe:∀u v (L':List aa)(y:aa),(Bf u v++L').set N y=Bf u v++L'.set 0 y:=λu v L' y=>dJ u v L' 0 y;have ez:∀u v (L':List aa),(Bf u v++L')[N+1]?=L'[1]?:=λu v L'=>bn u v L' 1;have ff:∀u v (L':List aa)(y:aa),(Bf u v++L').set (N+1) y=Bf u v++L'.set 1 y:=λu v L' y=>dJ u v L' 1 y;have fY:∀u v (L':List aa),(Bf u v++L')[H.length+1]?=some (.cells u 76):=λu v L'=>(by rw[aN,SC,bW];rfl);have gq:∀u v w (L':List aa),(Bf u v++L').set (H.length+1) (.cells w 76)=Bf w v++L':=λu v w L'=>(by rw[aN,aN,SC H,SC H,jZ];rfl);have jE:∀u v,(Bf u v)[H.length+1]?=some (.cells u 76):=λu v=>(by have:=fY u v [];rwa [SI]at this);have jK:∀u v w,(Bf u v).set (H.length+1) (.cells w 76)=Bf w v:=λu v w=>(by have:=gq u v w [];rwa [SI,SI]at this);have fZ:∀u v (L':List aa),(Bf u v++L')[H.length+4]?=some (.cells v 88):=λu v L'=>(by rw[aN,SC,bW];rfl);have gr:∀u v w (L':List aa),(Bf u v++L').set (H.length+4) (.cells w 88)=Bf u w++L':=λu v w L'=>(by rw[aN,aN,SC H,SC H,jZ];rfl);have jF:∀u v,(Bf u v)[H.length+4]?=some (.cells v 88):=λu v=>(by have:=fZ u v [];rwa [SI]at this);have jL:∀u v w,(Bf u v).set (H.length+4) (.cells w 88)=Bf u w:=λu v w=>(by have:=gr u v w [];rwa [SI,SI]at this);rw[dE];clear dE hg;refine⟨λDD=>bif isDone 13 DD then(Bf x.l (D.l mp))else bif isDone 12 DD then(Bf x.l v0)else Bf u0 v0,by first|rfl|simp only[seval], ?_⟩;try simp only[seval,dH,cW,ba,fb,fe,ez,ff,br,bU,iD,iE,jn,gn,ai.av,fY,gq,jE,jK,fZ,gr,jF,jL]
      first|refine⟨ky x,eB, ?_⟩|trace_state
      have hR:=rest (H.length+4,mp,D,(Bf x.l (D.l mp))) ⟨eM,bA,⟨_,by rw[aN]⟩,by rw[aN];exact aS H _ 0,by simp only[seval,dH,cW,ba,fb,fe,ez,ff,br,bU,iD,iE,jn,gn,ai.av,fY,gq,jE,jK,fZ,gr,jF,jL]⟩;exact mJ (qy rfl (by simp only[seval];simp[bB,Wk.refl])) hR
    ·refine qQ 4 11 rfl ?_ ?_
     ·refine pN (.add (.add (.add (.add .base 5 10) 5 11) 10 4) 4 11) 5 [0,1,2,3,11,4,10] [6,7,8,9,12,13,14] [11,4,10] [12,13] [⟨0,false,[],[([11],[11]),([11,4],[11,4]),([11,4,10],[11,4,10])]⟩,⟨1,false,[],[([11],[11])]⟩,⟨2,false,[],[([11],[11])]⟩,⟨3,false,[],[([11],[11])]⟩,⟨11,true,[11],[]⟩,⟨4,true,[11,4],[]⟩,⟨10,true,[11,4,10],[]⟩] [⟨6,false,[],[]⟩,⟨7,false,[],[]⟩,⟨8,false,[],[([12],[12])]⟩,⟨9,false,[],[([12],[12]),([12,13],[12,13])]⟩,⟨12,true,[12],[]⟩,⟨13,true,[12,13],[]⟩,⟨14,false,[12,13],[]⟩] (λD=>bif isDone 10 D then H++[.cells x.l 26, .cells v0 88, .cells x.l 26, .cells [.sl 1 [iv q] .exact] 22, .cells u0 76]else bif isDone 4 D then H++[.cells x.l 26, .cells v0 88, .cells x.l 26, .cells [.sl 1 [iv q] .exact] 22]else bif isDone 11 D then H++[.cells x.l 26, .cells v0 88]else H++[.cells x.l 26]) (by kernel_rfl) (by kernel_rfl) (by kernel_rfl) (by kernel_rfl) (by kernel_rfl) (by first|rfl|simp only[seval]) ?_;(try simp only[seval,z1,eJ,nu,and_self,aT,dH,cW,br,SQ]);refine kW _ _ (bT (oc (x:=x) (ns:=[(q:Int)]) ⟨rfl,rfl⟩)) ?_;(try simp only[seval,aT,dH,cW,br,SQ,SC]);refine aL ((lC (x:=x) (b:=mv x [(q:Int)]) hx dq (ey hm) (λL k kp hk=>bT (od (x:=x) (ns:=[(q:Int)]) (e:= .exact) (il:=H.length+3) (ir:=H.length+2) hx (by simp) (by rw[SC,bW];rfl) (by rw[SC,bW];rfl) hk)) (λh=>by rw[jl]at h;cases h) λ_ js D L mp dp dL bA jX hg=> ?_));have eM:dZ x 1 D:=⟨p,js,dq,dp,dL,bA⟩;have bU:=Kn.len bA mp;have eB:=kv D mp;obtain⟨N,hN⟩:∃N,N=H.length+5+L.length:=⟨_,rfl⟩;obtain⟨Bf,aN⟩:∃Bf:List AV->List AV->List aa,∀u v,Bf u v=H++([.cells x.l 26, .cells v 88, .cells x.l 26, .cells [.sl 1 [iv q] .exact] 22, .cells u 76]++L):=⟨_,λ_ _=>rfl⟩;have dE:H++[.cells x.l 26, .cells v0 88, .cells x.l 26, .cells [.sl 1 [iv q] .exact] 22, .cells u0 76]++L=Bf u0 v0:=(by rw[aN,SC]);have ba:∀u v,(Bf u v).length=N:=λu v=>(by rw[aN,hN];simp;omega);have bn:∀u v (L':List aa)(j:Nat),(Bf u v++L')[N+j]?=L'[j]?:=λu v L' j=>(by rw[<- ba u v,aS]);have dJ:∀u v (L':List aa)(j:Nat)(y:aa),(Bf u v++L').set (N+j) y=Bf u v++L'.set j y:=λu v L' j y=>(by rw[<- ba u v,de]);have fb:∀u v (L':List aa),(Bf u v++L')[N]?=L'[0]?:=λu v L'=>bn u v L' 0;have fe:∀u v (L':List aa)(y:aa),(Bf u v++L').set N y=Bf u v++L'.set 0 y:=λu v L' y=>dJ u v L' 0 y;have ez:∀u v (L':List aa),(Bf u v++L')[N+1]?=L'[1]?:=λu v L'=>bn u v L' 1;have ff:∀u v (L':List aa)(y:aa),(Bf u v++L').set (N+1) y=Bf u v++L'.set 1 y:=λu v L' y=>dJ u v L' 1 y;have fY:∀u v (L':List aa),(Bf u v++L')[H.length+4]?=some (.cells u 76):=λu v L'=>(by rw[aN,SC,bW];rfl);have gq:∀u v w (L':List aa),(Bf u v++L').set (H.length+4) (.cells w 76)=Bf w v++L':=λu v w L'=>(by rw[aN,aN,SC H,SC H,jZ];rfl);have jE:∀u v,(Bf u v)[H.length+4]?=some (.cells u 76):=λu v=>(by have:=fY u v [];rwa [SI]at this);have jK:∀u v w,(Bf u v).set (H.length+4) (.cells w 76)=Bf w v:=λu v w=>(by have:=gq u v w [];rwa [SI,SI]at this);have fZ:∀u v (L':List aa),(Bf u v++L')[H.length+1]?=some (.cells v 88):=λu v L'=>(by rw[aN,SC,bW];rfl);have gr:∀u v w (L':List aa),(Bf u v++L').set (H.length+1) (.cells w 88)=Bf u w++L':=λu v w L'=>(by rw[aN,aN,SC H,SC H,jZ];rfl);have jF:∀u v,(Bf u v)[H.length+1]?=some (.cells v 88):=λu v=>(by have:=fZ u v [];rwa [SI]at this);have jL:∀u v w,(Bf u v).set (H.length+1) (.cells w 88)=Bf u w:=λu v w=>(by have:=gr u v w [];rwa [SI,SI]at this);rw[dE];clear dE hg;refine⟨λDD=>bif isDone 13 DD then(Bf x.l (D.l mp))else bif isDone 12 DD then(Bf x.l v0)else Bf u0 v0,by first|rfl|simp only[seval], ?_⟩;try simp only[seval,dH,cW,ba,fb,fe,ez,ff,br,bU,iD,iE,jn,gn,ai.av,fY,gq,jE,jK,fZ,gr,jF,jL]
      first|refine⟨ky x,eB, ?_⟩|trace_state
      have hR:=rest (H.length+1,mp,D,(Bf x.l (D.l mp))) ⟨eM,bA,⟨_,by rw[aN]⟩,by rw[aN];exact aS H _ 0,by simp only[seval,dH,cW,ba,fb,fe,ez,ff,br,bU,iD,iE,jn,gn,ai.av,fY,gq,jE,jK,fZ,gr,jF,jL]⟩;exact mJ (qy rfl (by simp only[seval];simp[bB,Wk.refl])) hR
     ·refine qQ 10 11 rfl ?_ ?_
      ·refine pN (.add (.add (.add (.add (.add .base 5 10) 5 11) 10 4) 11 4) 10 11) 5 [0,1,2,3,4,11,10] [6,7,8,9,12,13,14] [4,11,10] [12,13] [⟨0,false,[],[([4],[4]),([4,11],[4,11]),([4,11,10],[4,11,10])]⟩,⟨1,false,[],[]⟩,⟨2,false,[],[]⟩,⟨3,false,[],[]⟩,⟨4,true,[4],[]⟩,⟨11,true,[4,11],[]⟩,⟨10,true,[4,11,10],[]⟩] [⟨6,false,[],[]⟩,⟨7,false,[],[]⟩,⟨8,false,[],[([12],[12])]⟩,⟨9,false,[],[([12],[12]),([12,13],[12,13])]⟩,⟨12,true,[12],[]⟩,⟨13,true,[12,13],[]⟩,⟨14,false,[12,13],[]⟩] (λD=>bif isDone 10 D then H++[.cells x.l 26, .cells x.l 26, .cells [.sl 1 [iv q] .exact] 22, .cells v0 88, .cells u0 76]else bif isDone 11 D then H++[.cells x.l 26, .cells x.l 26, .cells [.sl 1 [iv q] .exact] 22, .cells v0 88]else bif isDone 4 D then H++[.cells x.l 26, .cells x.l 26, .cells [.sl 1 [iv q] .exact] 22]else H++[.cells x.l 26]) (by kernel_rfl) (by kernel_rfl) (by kernel_rfl) (by kernel_rfl) (by kernel_rfl) (by first|rfl|simp only[seval]) ?_;(try simp only[seval,z1,eJ,nu,and_self,aT,dH,cW,br,SQ]);refine kW _ _ (bT (oc (x:=x) (ns:=[(q:Int)]) ⟨rfl,rfl⟩)) ?_;(try simp only[seval,aT,dH,cW,br,SQ,SC]);refine aL ((lC (x:=x) (b:=mv x [(q:Int)]) hx dq (ey hm) (λL k kp hk=>bT (od (x:=x) (ns:=[(q:Int)]) (e:= .exact) (il:=H.length+2) (ir:=H.length+1) hx (by simp) (by rw[SC,bW];rfl) (by rw[SC,bW];rfl) hk)) (λh=>by rw[jl]at h;cases h) λ_ js D L mp dp dL bA jX hg=> ?_));have eM:dZ x 1 D:=⟨p,js,dq,dp,dL,bA⟩;have bU:=Kn.len bA mp;have eB:=kv D mp;obtain⟨N,hN⟩:∃N,N=H.length+5+L.length:=⟨_,rfl⟩;obtain⟨Bf,aN⟩:∃Bf:List AV->List AV->List aa,∀u v,Bf u v=H++([.cells x.l 26, .cells x.l 26, .cells [.sl 1 [iv q] .exact] 22, .cells v 88, .cells u 76]++L):=⟨_,λ_ _=>rfl⟩;have dE:H++[.cells x.l 26, .cells x.l 26, .cells [.sl 1 [iv q] .exact] 22, .cells v0 88, .cells u0 76]++L=Bf u0 v0:=(by rw[aN,SC]);have ba:∀u v,(Bf u v).length=N:=λu v=>(by rw[aN,hN];simp;omega);have bn:∀u v (L':List aa)(j:Nat),(Bf u v++L')[N+j]?=L'[j]?:=λu v L' j=>(by rw[<- ba u v,aS]);have dJ:∀u v (L':List aa)(j:Nat)(y:aa),(Bf u v++L').set (N+j) y=Bf u v++L'.set j y:=λu v L' j y=>(by rw[<- ba u v,de]);have fb:∀u v (L':List aa),(Bf u v++L')[N]?=L'[0]?:=λu v L'=>bn u v L' 0;have fe:∀u v (L':List aa)(y:aa),(Bf u v++L').set N y=Bf u v++L'.set 0 y:=λu v L' y=>dJ u v L' 0 y;have ez:∀u v (L':List aa),(Bf u v++L')[N+1]?=L'[1]?:=λu v L'=>bn u v L' 1;have ff:∀u v (L':List aa)(y:aa),(Bf u v++L').set (N+1) y=Bf u v++L'.set 1 y:=λu v L' y=>dJ u v L' 1 y;have fY:∀u v (L':List aa),(Bf u v++L')[H.length+4]?=some (.cells u 76):=λu v L'=>(by rw[aN,SC,bW];rfl);have gq:∀u v w (L':List aa),(Bf u v++L').set (H.length+4) (.cells w 76)=Bf w v++L':=λu v w L'=>(by rw[aN,aN,SC H,SC H,jZ];rfl);have jE:∀u v,(Bf u v)[H.length+4]?=some (.cells u 76):=λu v=>(by have:=fY u v [];rwa [SI]at this);have jK:∀u v w,(Bf u v).set (H.length+4) (.cells w 76)=Bf w v:=λu v w=>(by have:=gq u v w [];rwa [SI,SI]at this);have fZ:∀u v (L':List aa),(Bf u v++L')[H.length+3]?=some (.cells v 88):=λu v L'=>(by rw[aN,SC,bW];rfl);have gr:∀u v w (L':List aa),(Bf u v++L').set (H.length+3) (.cells w 88)=Bf u w++L':=λu v w L'=>(by rw[aN,aN,SC H,SC H,jZ];rfl);have jF:∀u v,(Bf u v)[H.length+3]?=some (.cells v 88):=λu v=>(by have:=fZ u v [];rwa [SI]at this);have jL:∀u v w,(Bf u v).set (H.length+3) (.cells w 88)=Bf u w:=λu v w=>(by have:=gr u v w [];rwa [SI,SI]at this);rw[dE];clear dE hg;refine⟨λDD=>bif isDone 13 DD then(Bf x.l (D.l mp))else bif isDone 12 DD then(Bf x.l v0)else Bf u0 v0,by first|rfl|simp only[seval], ?_⟩;try simp only[seval,dH,cW,ba,fb,fe,ez,ff,br,bU,iD,iE,jn,gn,ai.av,fY,gq,jE,jK,fZ,gr,jF,jL]
       first|refine⟨ky x,eB, ?_⟩|trace_state
       have hR:=rest (H.length+3,mp,D,(Bf x.l (D.l mp))) ⟨eM,bA,⟨_,by rw[aN]⟩,by rw[aN];exact aS H _ 0,by simp only[seval,dH,cW,ba,fb,fe,ez,ff,br,bU,iD,iE,jn,gn,ai.av,fY,gq,jE,jK,fZ,gr,jF,jL]⟩;exact mJ (qy rfl (by simp only[seval];simp[bB,Wk.refl])) hR
      ·refine pN (.add (.add (.add (.add (.add .base 5 10) 5 11) 10 4) 11 4) 11 10) 5 [0,1,2,3,4,10,11] [6,7,8,9,12,13,14] [4,10,11] [12,13] [⟨0,false,[],[([4],[4]),([4,10],[4,10]),([4,10,11],[4,10,11])]⟩,⟨1,false,[],[]⟩,⟨2,false,[],[]⟩,⟨3,false,[],[]⟩,⟨4,true,[4],[]⟩,⟨10,true,[4,10],[]⟩,⟨11,true,[4,10,11],[]⟩] [⟨6,false,[],[]⟩,⟨7,false,[],[]⟩,⟨8,false,[],[([12],[12])]⟩,⟨9,false,[],[([12],[12]),([12,13],[12,13])]⟩,⟨12,true,[12],[]⟩,⟨13,true,[12,13],[]⟩,⟨14,false,[12,13],[]⟩] (λD=>bif isDone 11 D then H++[.cells x.l 26, .cells x.l 26, .cells [.sl 1 [iv q] .exact] 22, .cells u0 76, .cells v0 88]else bif isDone 10 D then H++[.cells x.l 26, .cells x.l 26, .cells [.sl 1 [iv q] .exact] 22, .cells u0 76]else bif isDone 4 D then H++[.cells x.l 26, .cells x.l 26, .cells [.sl 1 [iv q] .exact] 22]else H++[.cells x.l 26]) (by kernel_rfl) (by kernel_rfl) (by kernel_rfl) (by kernel_rfl) (by kernel_rfl) (by first|rfl|simp only[seval]) ?_;(try simp only[seval,z1,eJ,nu,and_self,aT,dH,cW,br,SQ]);refine kW _ _ (bT (oc (x:=x) (ns:=[(q:Int)]) ⟨rfl,rfl⟩)) ?_;(try simp only[seval,aT,dH,cW,br,SQ,SC]);refine aL ((lC (x:=x) (b:=mv x [(q:Int)]) hx dq (ey hm) (λL k kp hk=>bT (od (x:=x) (ns:=[(q:Int)]) (e:= .exact) (il:=H.length+2) (ir:=H.length+1) hx (by simp) (by rw[SC,bW];rfl) (by rw[SC,bW];rfl) hk)) (λh=>by rw[jl]at h;cases h) λ_ js D L mp dp dL bA jX hg=> ?_));have eM:dZ x 1 D:=⟨p,js,dq,dp,dL,bA⟩;have bU:=Kn.len bA mp;have eB:=kv D mp;obtain⟨N,hN⟩:∃N,N=H.length+5+L.length:=⟨_,rfl⟩;obtain⟨Bf,aN⟩:∃Bf:List AV->List AV->List aa,∀u v,Bf u v=H++([.cells x.l 26, .cells x.l 26, .cells [.sl 1 [iv q] .exact] 22, .cells u 76, .cells v 88]++L):=⟨_,λ_ _=>rfl⟩;have dE:H++[.cells x.l 26, .cells x.l 26, .cells [.sl 1 [iv q] .exact] 22, .cells u0 76, .cells v0 88]++L=Bf u0 v0:=(by rw[aN,SC]);have ba:∀u v,(Bf u v).length=N:=λu v=>(by rw[aN,hN];simp;omega);have bn:∀u v (L':List aa)(j:Nat),(Bf u v++L')[N+j]?=L'[j]?:=λu v L' j=>(by rw[<- ba u v,aS]);have dJ:∀u v (L':List aa)(j:Nat)(y:aa),(Bf u v++L').set (N+j) y=Bf u v++L'.set j y:=λu v L' j y=>(by rw[<- ba u v,de]);have fb:∀u v (L':List aa),(Bf u v++L')[N]?=L'[0]?:=λu v L'=>bn u v L' 0;have fe:∀u v (L':List aa)(y:aa),(Bf u v++L').set N y=Bf u v++L'.set 0 y:=λu v L' y=>dJ u v L' 0 y;have ez:∀u v (L':List aa),(Bf u v++L')[N+1]?=L'[1]?:=λu v L'=>bn u v L' 1;have ff:∀u v (L':List aa)(y:aa),(Bf u v++L').set (N+1) y=Bf u v++L'.set 1 y:=λu v L' y=>dJ u v L' 1 y;have fY:∀u v (L':List aa),(Bf u v++L')[H.length+3]?=some (.cells u 76):=λu v L'=>(by rw[aN,SC,bW];rfl);have gq:∀u v w (L':List aa),(Bf u v++L').set (H.length+3) (.cells w 76)=Bf w v++L':=λu v w L'=>(by rw[aN,aN,SC H,SC H,jZ];rfl);have jE:∀u v,(Bf u v)[H.length+3]?=some (.cells u 76):=λu v=>(by have:=fY u v [];rwa [SI]at this);have jK:∀u v w,(Bf u v).set (H.length+3) (.cells w 76)=Bf w v:=λu v w=>(by have:=gq u v w [];rwa [SI,SI]at this);have fZ:∀u v (L':List aa),(Bf u v++L')[H.length+4]?=some (.cells v 88):=λu v L'=>(by rw[aN,SC,bW];rfl);have gr:∀u v w (L':List aa),(Bf u v++L').set (H.length+4) (.cells w 88)=Bf u w++L':=λu v w L'=>(by rw[aN,aN,SC H,SC H,jZ];rfl);have jF:∀u v,(Bf u v)[H.length+4]?=some (.cells v 88):=λu v=>(by have:=fZ u v [];rwa [SI]at this);have jL:∀u v w,(Bf u v).set (H.length+4) (.cells w 88)=Bf u w:=λu v w=>(by have:=gr u v w [];rwa [SI,SI]at this);rw[dE];clear dE hg;refine⟨λDD=>bif isDone 13 DD then(Bf x.l (D.l mp))else bif isDone 12 DD then(Bf x.l v0)else Bf u0 v0,by first|rfl|simp only[seval], ?_⟩;try simp only[seval,dH,cW,ba,fb,fe,ez,ff,br,bU,iD,iE,jn,gn,ai.av,fY,gq,jE,jK,fZ,gr,jF,jL]
       first|refine⟨ky x,eB, ?_⟩|trace_state
       have hR:=rest (H.length+4,mp,D,(Bf x.l (D.l mp))) ⟨eM,bA,⟨_,by rw[aN]⟩,by rw[aN];exact aS H _ 0,by simp only[seval,dH,cW,ba,fb,fe,ez,ff,br,bU,iD,iE,jn,gn,ai.av,fY,gq,jE,jK,fZ,gr,jF,jL]⟩;exact mJ (qy rfl (by simp only[seval];simp[bB,Wk.refl])) hR
   ·refine qQ 4 10 rfl ?_ ?_
    ·refine pN (.add (.add (.add .base 5 10) 11 5) 4 10) 5 [0,1,2,3,10,4] [6,7,8,9,11,12,13,14] [10,4] [11,12,13] [⟨0,false,[],[([10],[10]),([10,4],[10,4])]⟩,⟨1,false,[],[([10],[10])]⟩,⟨2,false,[],[([10],[10])]⟩,⟨3,false,[],[([10],[10])]⟩,⟨10,true,[10],[]⟩,⟨4,true,[10,4],[]⟩] [⟨6,false,[],[([11],[11])]⟩,⟨7,false,[],[([11],[11])]⟩,⟨8,false,[],[([11],[11]),([11,12],[11,12])]⟩,⟨9,false,[],[([11],[11]),([11,12],[11,12]),([11,12,13],[11,12,13])]⟩,⟨11,true,[11],[]⟩,⟨12,true,[11,12],[]⟩,⟨13,true,[11,12,13],[]⟩,⟨14,false,[11,12,13],[]⟩] (λD=>bif isDone 4 D then H++[.cells x.l 26, .cells u0 76, .cells x.l 26, .cells [.sl 1 [iv q] .exact] 22]else bif isDone 10 D then H++[.cells x.l 26, .cells u0 76]else H++[.cells x.l 26]) (by kernel_rfl) (by kernel_rfl) (by kernel_rfl) (by kernel_rfl) (by kernel_rfl) (by first|rfl|simp only[seval]) ?_;(try simp only[seval,z1,eJ,nu,and_self,aT,dH,cW,br,SQ]);refine kW _ _ (bT (oc (x:=x) (ns:=[(q:Int)]) ⟨rfl,rfl⟩)) ?_;(try simp only[seval,aT,dH,cW,br,SQ,SC]);refine aL ((lC (x:=x) (b:=mv x [(q:Int)]) hx dq (ey hm) (λL k kp hk=>bT (od (x:=x) (ns:=[(q:Int)]) (e:= .exact) (il:=H.length+3) (ir:=H.length+2) hx (by simp) (by rw[SC,bW];rfl) (by rw[SC,bW];rfl) hk)) (λh=>by rw[jl]at h;cases h) λ_ js D L mp dp dL bA jX hg=> ?_));have eM:dZ x 1 D:=⟨p,js,dq,dp,dL,bA⟩;have bU:=Kn.len bA mp;have eB:=kv D mp;obtain⟨N,hN⟩:∃N,N=H.length+4+L.length:=⟨_,rfl⟩;obtain⟨Bf,aN⟩:∃Bf:List AV->List AV->List aa,∀u v,Bf u v=H++([.cells x.l 26, .cells u 76, .cells x.l 26, .cells [.sl 1 [iv q] .exact] 22]++L):=⟨_,λ_ _=>rfl⟩;have dE:H++[.cells x.l 26, .cells u0 76, .cells x.l 26, .cells [.sl 1 [iv q] .exact] 22]++L=Bf u0 v0:=(by rw[aN,SC]);have ba:∀u v,(Bf u v).length=N:=λu v=>(by rw[aN,hN];simp;omega);have bn:∀u v (L':List aa)(j:Nat),(Bf u v++L')[N+j]?=L'[j]?:=λu v L' j=>(by rw[<- ba u v,aS]);have dJ:∀u v (L':List aa)(j:Nat)(y:aa),(Bf u v++L').set (N+j) y=Bf u v++L'.set j y:=λu v L' j y=>(by rw[<- ba u v,de]);have fb:∀u v (L':List aa),(Bf u v++L')[N]?=L'[0]?:=λu v L'=>bn u v L' 0;have fe:∀u v (L':List aa)(y:aa),(Bf u v++L').set N y=Bf u v++L'.set 0 y:=λu v L' y=>dJ u v L' 0 y;have ez:∀u v (L':List aa),(Bf u v++L')[N+1]?=L'[1]?:=λu v L'=>bn u v L' 1;have ff:∀u v (L':List aa)(y:aa),(Bf u v++L').set (N+1) y=Bf u v++L'.set 1 y:=λu v L' y=>dJ u v L' 1 y;have fY:∀u v (L':List aa),(Bf u v++L')[H.length+1]?=some (.cells u 76):=λu v L'=>(by rw[aN,SC,bW];rfl);have gq:∀u v w (L':List aa),(Bf u v++L').set (H.length+1) (.cells w 76)=Bf w v++L':=λu v w L'=>(by rw[aN,aN,SC H,SC H,jZ];rfl);have jE:∀u v,(Bf u v)[H.length+1]?=some (.cells u 76):=λu v=>(by have:=fY u v [];rwa [SI]at this);have jK:∀u v w,(Bf u v).set (H.length+1) (.cells w 76)=Bf w v:=λu v w=>(by have:=gq u v w [];rwa [SI,SI]at this);rw[dE];clear dE hg;refine⟨λDD=>bif isDone 13 DD then(Bf x.l v0++[.cells (D.l mp) 88])else bif isDone 12 DD then(Bf x.l v0++[.cells v0 88])else bif isDone 11 DD then(Bf u0 v0++[.cells v0 88])else Bf u0 v0,by first|rfl|simp only[seval], ?_⟩;try simp only[seval,dH,cW,ba,fb,fe,ez,ff,br,bU,iD,iE,jn,gn,ai.av,fY,gq,jE,jK]
     first|refine⟨ky x,eB, ?_⟩|trace_state
     have hR:=rest (N,mp,D,(Bf x.l v0++[.cells (D.l mp) 88])) ⟨eM,bA,⟨_,by rw[aN]<;>rw[SC]⟩,by rw[aN];rw[SC];exact aS H _ 0,by simp only[seval,dH,cW,ba,fb,fe,ez,ff,br,bU,iD,iE,jn,gn,ai.av,fY,gq,jE,jK]⟩;exact mJ (qy rfl (by simp only[seval];simp[bB,Wk.refl])) hR
    ·refine pN (.add (.add (.add .base 5 10) 11 5) 10 4) 5 [0,1,2,3,4,10] [6,7,8,9,11,12,13,14] [4,10] [11,12,13] [⟨0,false,[],[([4],[4]),([4,10],[4,10])]⟩,⟨1,false,[],[]⟩,⟨2,false,[],[]⟩,⟨3,false,[],[]⟩,⟨4,true,[4],[]⟩,⟨10,true,[4,10],[]⟩] [⟨6,false,[],[([11],[11])]⟩,⟨7,false,[],[([11],[11])]⟩,⟨8,false,[],[([11],[11]),([11,12],[11,12])]⟩,⟨9,false,[],[([11],[11]),([11,12],[11,12]),([11,12,13],[11,12,13])]⟩,⟨11,true,[11],[]⟩,⟨12,true,[11,12],[]⟩,⟨13,true,[11,12,13],[]⟩,⟨14,false,[11,12,13],[]⟩] (λD=>bif isDone 10 D then H++[.cells x.l 26, .cells x.l 26, .cells [.sl 1 [iv q] .exact] 22, .cells u0 76]else bif isDone 4 D then H++[.cells x.l 26, .cells x.l 26, .cells [.sl 1 [iv q] .exact] 22]else H++[.cells x.l 26]) (by kernel_rfl) (by kernel_rfl) (by kernel_rfl) (by kernel_rfl) (by kernel_rfl) (by first|rfl|simp only[seval]) ?_;(try simp only[seval,z1,eJ,nu,and_self,aT,dH,cW,br,SQ]);refine kW _ _ (bT (oc (x:=x) (ns:=[(q:Int)]) ⟨rfl,rfl⟩)) ?_;(try simp only[seval,aT,dH,cW,br,SQ,SC]);refine aL ((lC (x:=x) (b:=mv x [(q:Int)]) hx dq (ey hm) (λL k kp hk=>bT (od (x:=x) (ns:=[(q:Int)]) (e:= .exact) (il:=H.length+2) (ir:=H.length+1) hx (by simp) (by rw[SC,bW];rfl) (by rw[SC,bW];rfl) hk)) (λh=>by rw[jl]at h;cases h) λ_ js D L mp dp dL bA jX hg=> ?_));have eM:dZ x 1 D:=⟨p,js,dq,dp,dL,bA⟩;have bU:=Kn.len bA mp;have eB:=kv D mp;obtain⟨N,hN⟩:∃N,N=H.length+4+L.length:=⟨_,rfl⟩;obtain⟨Bf,aN⟩:∃Bf:List AV->List AV->List aa,∀u v,Bf u v=H++([.cells x.l 26, .cells x.l 26, .cells [.sl 1 [iv q] .exact] 22, .cells u 76]++L):=⟨_,λ_ _=>rfl⟩;have dE:H++[.cells x.l 26, .cells x.l 26, .cells [.sl 1 [iv q] .exact] 22, .cells u0 76]++L=Bf u0 v0:=(by rw[aN,SC]);have ba:∀u v,(Bf u v).length=N:=λu v=>(by rw[aN,hN];simp;omega);have bn:∀u v (L':List aa)(j:Nat),(Bf u v++L')[N+j]?=L'[j]?:=λu v L' j=>(by rw[<- ba u v,aS]);have dJ:∀u v (L':List aa)(j:Nat)(y:aa),(Bf u v++L').set (N+j) y=Bf u v++L'.set j y:=λu v L' j y=>(by rw[<- ba u v,de]);have fb:∀u v (L':List aa),(Bf u v++L')[N]?=L'[0]?:=λu v L'=>bn u v L' 0;have fe:∀u v (L':List aa)(y:aa),(Bf u v++L').set N y=Bf u v++L'.set 0 y:=λu v L' y=>dJ u v L' 0 y;have ez:∀u v (L':List aa),(Bf u v++L')[N+1]?=L'[1]?:=λu v L'=>bn u v L' 1;have ff:∀u v (L':List aa)(y:aa),(Bf u v++L').set (N+1) y=Bf u v++L'.set 1 y:=λu v L' y=>dJ u v L' 1 y;have fY:∀u v (L':List aa),(Bf u v++L')[H.length+3]?=some (.cells u 76):=λu v L'=>(by rw[aN,SC,bW];rfl);have gq:∀u v w (L':List aa),(Bf u v++L').set (H.length+3) (.cells w 76)=Bf w v++L':=λu v w L'=>(by rw[aN,aN,SC H,SC H,jZ];rfl);have jE:∀u v,(Bf u v)[H.length+3]?=some (.cells u 76):=λu v=>(by have:=fY u v [];rwa [SI]at this);have jK:∀u v w,(Bf u v).set (H.length+3) (.cells w 76)=Bf w v:=λu v w=>(by have:=gq u v w [];rwa [SI,SI]at this);rw[dE];clear dE hg;refine⟨λDD=>bif isDone 13 DD then(Bf x.l v0++[.cells (D.l mp) 88])else bif isDone 12 DD then(Bf x.l v0++[.cells v0 88])else bif isDone 11 DD then(Bf u0 v0++[.cells v0 88])else Bf u0 v0,by first|rfl|simp only[seval], ?_⟩;try simp only[seval,dH,cW,ba,fb,fe,ez,ff,br,bU,iD,iE,jn,gn,ai.av,fY,gq,jE,jK]
     first|refine⟨ky x,eB, ?_⟩|trace_state
     have hR:=rest (N,mp,D,(Bf x.l v0++[.cells (D.l mp) 88])) ⟨eM,bA,⟨_,by rw[aN]<;>rw[SC]⟩,by rw[aN];rw[SC];exact aS H _ 0,by simp only[seval,dH,cW,ba,fb,fe,ez,ff,br,bU,iD,iE,jn,gn,ai.av,fY,gq,jE,jK]⟩;exact mJ (qy rfl (by simp only[seval];simp[bB,Wk.refl])) hR
  ·refine qQ 5 11 rfl ?_ ?_
   ·refine qQ 4 11 rfl ?_ ?_
    ·refine pN (.add (.add (.add .base 10 5) 5 11) 4 11) 5 [0,1,2,3,11,4] [6,7,8,9,10,12,13,14] [11,4] [10,12,13] [⟨0,false,[],[([11],[11]),([11,4],[11,4])]⟩,⟨1,false,[],[([11],[11])]⟩,⟨2,false,[],[([11],[11])]⟩,⟨3,false,[],[([11],[11])]⟩,⟨11,true,[11],[]⟩,⟨4,true,[11,4],[]⟩] [⟨6,false,[],[([10],[10])]⟩,⟨7,false,[],[([10],[10])]⟩,⟨8,false,[],[([10],[10]),([10,12],[10,12])]⟩,⟨9,false,[],[([10],[10]),([10,12],[10,12]),([10,12,13],[10,12,13])]⟩,⟨10,true,[10],[]⟩,⟨12,true,[10,12],[]⟩,⟨13,true,[10,12,13],[]⟩,⟨14,false,[10,12,13],[]⟩] (λD=>bif isDone 4 D then H++[.cells x.l 26, .cells v0 88, .cells x.l 26, .cells [.sl 1 [iv q] .exact] 22]else bif isDone 11 D then H++[.cells x.l 26, .cells v0 88]else H++[.cells x.l 26]) (by kernel_rfl) (by kernel_rfl) (by kernel_rfl) (by kernel_rfl) (by kernel_rfl) (by first|rfl|simp only[seval]) ?_;(try simp only[seval,z1,eJ,nu,and_self,aT,dH,cW,br,SQ]);refine kW _ _ (bT (oc (x:=x) (ns:=[(q:Int)]) ⟨rfl,rfl⟩)) ?_;(try simp only[seval,aT,dH,cW,br,SQ,SC]);refine aL ((lC (x:=x) (b:=mv x [(q:Int)]) hx dq (ey hm) (λL k kp hk=>bT (od (x:=x) (ns:=[(q:Int)]) (e:= .exact) (il:=H.length+3) (ir:=H.length+2) hx (by simp) (by rw[SC,bW];rfl) (by rw[SC,bW];rfl) hk)) (λh=>by rw[jl]at h;cases h) λ_ js D L mp dp dL bA jX hg=> ?_));have eM:dZ x 1 D:=⟨p,js,dq,dp,dL,bA⟩;have bU:=Kn.len bA mp;have eB:=kv D mp;obtain⟨N,hN⟩:∃N,N=H.length+4+L.length:=⟨_,rfl⟩;obtain⟨Bf,aN⟩:∃Bf:List AV->List AV->List aa,∀u v,Bf u v=H++([.cells x.l 26, .cells v 88, .cells x.l 26, .cells [.sl 1 [iv q] .exact] 22]++L):=⟨_,λ_ _=>rfl⟩;have dE:H++[.cells x.l 26, .cells v0 88, .cells x.l 26, .cells [.sl 1 [iv q] .exact] 22]++L=Bf u0 v0:=(by rw[aN,SC]);have ba:∀u v,(Bf u v).length=N:=λu v=>(by rw[aN,hN];simp;omega);have bn:∀u v (L':List aa)(j:Nat),(Bf u v++L')[N+j]?=L'[j]?:=λu v L' j=>(by rw[<- ba u v,aS]);have dJ:∀u v (L':List aa)(j:Nat)(y:aa),(Bf u v++L').set (N+j) y=Bf u v++L'.set j y:=λu v L' j y=>(by rw[<- ba u v,de]);have fb:∀u v (L':List aa),(Bf u v++L')[N]?=L'[0]?:=λu v L'=>bn u v L' 0;have fe:∀u v (L':List aa)(y:aa),(Bf u v++L').set N y=Bf u v++L'.set 0 y:=λu v L' y=>dJ u v L' 0 y;have ez:∀u v (L':List aa),(Bf u v++L')[N+1]?=L'[1]?:=λu v L'=>bn u v L' 1;have ff:∀u v (L':List aa)(y:aa),(Bf u v++L').set (N+1) y=Bf u v++L'.set 1 y:=λu v L' y=>dJ u v L' 1 y;have fZ:∀u v (L':List aa),(Bf u v++L')[H.length+1]?=some (.cells v 88):=λu v L'=>(by rw[aN,SC,bW];rfl);have gr:∀u v w (L':List aa),(Bf u v++L').set (H.length+1) (.cells w 88)=Bf u w++L':=λu v w L'=>(by rw[aN,aN,SC H,SC H,jZ];rfl);have jF:∀u v,(Bf u v)[H.length+1]?=some (.cells v 88):=λu v=>(by have:=fZ u v [];rwa [SI]at this);have jL:∀u v w,(Bf u v).set (H.length+1) (.cells w 88)=Bf u w:=λu v w=>(by have:=gr u v w [];rwa [SI,SI]at this);rw[dE];clear dE hg;refine⟨λDD=>bif isDone 13 DD then(Bf u0 (D.l mp)++[.cells x.l 76])else bif isDone 12 DD then(Bf u0 v0++[.cells x.l 76])else bif isDone 10 DD then(Bf u0 v0++[.cells u0 76])else Bf u0 v0,by first|rfl|simp only[seval], ?_⟩;try simp only[seval,dH,cW,ba,fb,fe,ez,ff,br,bU,iD,iE,jn,gn,ai.av,fZ,gr,jF,jL]
     first|refine⟨ky x,eB, ?_⟩|trace_state
     have hR:=rest (H.length+1,mp,D,(Bf u0 (D.l mp)++[.cells x.l 76])) ⟨eM,bA,⟨_,by rw[aN]<;>rw[SC]⟩,by rw[aN];rw[SC];exact aS H _ 0,by simp only[seval,dH,cW,ba,fb,fe,ez,ff,br,bU,iD,iE,jn,gn,ai.av,fZ,gr,jF,jL]⟩;exact mJ (qy rfl (by simp only[seval];simp[bB,Wk.refl])) hR
    ·refine pN (.add (.add (.add .base 10 5) 5 11) 11 4) 5 [0,1,2,3,4,11] [6,7,8,9,10,12,13,14] [4,11] [10,12,13] [⟨0,false,[],[([4],[4]),([4,11],[4,11])]⟩,⟨1,false,[],[]⟩,⟨2,false,[],[]⟩,⟨3,false,[],[]⟩,⟨4,true,[4],[]⟩,⟨11,true,[4,11],[]⟩] [⟨6,false,[],[([10],[10])]⟩,⟨7,false,[],[([10],[10])]⟩,⟨8,false,[],[([10],[10]),([10,12],[10,12])]⟩,⟨9,false,[],[([10],[10]),([10,12],[10,12]),([10,12,13],[10,12,13])]⟩,⟨10,true,[10],[]⟩,⟨12,true,[10,12],[]⟩,⟨13,true,[10,12,13],[]⟩,⟨14,false,[10,12,13],[]⟩] (λD=>bif isDone 11 D then H++[.cells x.l 26, .cells x.l 26, .cells [.sl 1 [iv q] .exact] 22, .cells v0 88]else bif isDone 4 D then H++[.cells x.l 26, .cells x.l 26, .cells [.sl 1 [iv q] .exact] 22]else H++[.cells x.l 26]) (by kernel_rfl) (by kernel_rfl) (by kernel_rfl) (by kernel_rfl) (by kernel_rfl) (by first|rfl|simp only[seval]) ?_;(try simp only[seval,z1,eJ,nu,and_self,aT,dH,cW,br,SQ]);refine kW _ _ (bT (oc (x:=x) (ns:=[(q:Int)]) ⟨rfl,rfl⟩)) ?_;(try simp only[seval,aT,dH,cW,br,SQ,SC]);refine aL ((lC (x:=x) (b:=mv x [(q:Int)]) hx dq (ey hm) (λL k kp hk=>bT (od (x:=x) (ns:=[(q:Int)]) (e:= .exact) (il:=H.length+2) (ir:=H.length+1) hx (by simp) (by rw[SC,bW];rfl) (by rw[SC,bW];rfl) hk)) (λh=>by rw[jl]at h;cases h) λ_ js D L mp dp dL bA jX hg=> ?_));have eM:dZ x 1 D:=⟨p,js,dq,dp,dL,bA⟩;have bU:=Kn.len bA mp;have eB:=kv D mp;obtain⟨N,hN⟩:∃N,N=H.length+4+L.length:=⟨_,rfl⟩;obtain⟨Bf,aN⟩:∃Bf:List AV->List AV->List aa,∀u v,Bf u v=H++([.cells x.l 26, .cells x.l 26, .cells [.sl 1 [iv q] .exact] 22, .cells v 88]++L):=⟨_,λ_ _=>rfl⟩;have dE:H++[.cells x.l 26, .cells x.l 26, .cells [.sl 1 [iv q] .exact] 22, .cells v0 88]++L=Bf u0 v0:=(by rw[aN,SC]);have ba:∀u v,(Bf u v).length=N:=λu v=>(by rw[aN,hN];simp;omega);have bn:∀u v (L':List aa)(j:Nat),(Bf u v++L')[N+j]?=L'[j]?:=λu v L' j=>(by rw[<- ba u v,aS]);have dJ:∀u v (L':List aa)(j:Nat)(y:aa),(Bf u v++L').set (N+j) y=Bf u v++L'.set j y:=λu v L' j y=>(by rw[<- ba u v,de]);have fb:∀u v (L':List aa),(Bf u v++L')[N]?=L'[0]?:=λu v L'=>bn u v L' 0;have fe:∀u v (L':List aa)(y:aa),(Bf u v++L').set N y=Bf u v++L'.set 0 y:=λu v L' y=>dJ u v L' 0 y;have ez:∀u v (L':List aa),(Bf u v++L')[N+1]?=L'[1]?:=λu v L'=>bn u v L' 1;have ff:∀u v (L':List aa)(y:aa),(Bf u v++L').set (N+1) y=Bf u v++L'.set 1 y:=λu v L' y=>dJ u v L' 1 y;have fZ:∀u v (L':List aa),(Bf u v++L')[H.length+3]?=some (.cells v 88):=λu v L'=>(by rw[aN,SC,bW];rfl);have gr:∀u v w (L':List aa),(Bf u v++L').set (H.length+3) (.cells w 88)=Bf u w++L':=λu v w L'=>(by rw[aN,aN,SC H,SC H,jZ];rfl);have jF:∀u v,(Bf u v)[H.length+3]?=some (.cells v 88):=λu v=>(by have:=fZ u v [];rwa [SI]at this);have jL:∀u v w,(Bf u v).set (H.length+3) (.cells w 88)=Bf u w:=λu v w=>(by have:=gr u v w [];rwa [SI,SI]at this);rw[dE];clear dE hg;refine⟨λDD=>bif isDone 13 DD then(Bf u0 (D.l mp)++[.cells x.l 76])else bif isDone 12 DD then(Bf u0 v0++[.cells x.l 76])else bif isDone 10 DD then(Bf u0 v0++[.cells u0 76])else Bf u0 v0,by first|rfl|simp only[seval], ?_⟩;try simp only[seval,dH,cW,ba,fb,fe,ez,ff,br,bU,iD,iE,jn,gn,ai.av,fZ,gr,jF,jL]
     first|refine⟨ky x,eB, ?_⟩|trace_state
     have hR:=rest (H.length+3,mp,D,(Bf u0 (D.l mp)++[.cells x.l 76])) ⟨eM,bA,⟨_,by rw[aN]<;>rw[SC]⟩,by rw[aN];rw[SC];exact aS H _ 0,by simp only[seval,dH,cW,ba,fb,fe,ez,ff,br,bU,iD,iE,jn,gn,ai.av,fZ,gr,jF,jL]⟩;exact mJ (qy rfl (by simp only[seval];simp[bB,Wk.refl])) hR
   ·refine qQ 10 11 rfl ?_ ?_
    ·refine pN (.add (.add (.add .base 10 5) 11 5) 10 11) 5 [0,1,2,3,4] [6,7,8,9,11,10,12,13,14] [4] [11,10,12,13] [⟨0,false,[],[([4],[4])]⟩,⟨1,false,[],[]⟩,⟨2,false,[],[]⟩,⟨3,false,[],[]⟩,⟨4,true,[4],[]⟩] [⟨6,false,[],[([11],[11]),([11,10],[11,10])]⟩,⟨7,false,[],[([11],[11]),([11,10],[11,10])]⟩,⟨8,false,[],[([11],[11]),([11,10],[11,10]),([11,10,12],[11,10,12])]⟩,⟨9,false,[],[([11],[11]),([11,10],[11,10]),([11,10,12],[11,10,12]),([11,10,12,13],[11,10,12,13])]⟩,⟨11,true,[11],[]⟩,⟨10,true,[11,10],[]⟩,⟨12,true,[11,10,12],[]⟩,⟨13,true,[11,10,12,13],[]⟩,⟨14,false,[11,10,12,13],[]⟩] (λD=>bif isDone 4 D then H++[.cells x.l 26, .cells x.l 26, .cells [.sl 1 [iv q] .exact] 22]else H++[.cells x.l 26]) (by kernel_rfl) (by kernel_rfl) (by kernel_rfl) (by kernel_rfl) (by kernel_rfl) (by first|rfl|simp only[seval]) ?_;(try simp only[seval,z1,eJ,nu,and_self,aT,dH,cW,br,SQ]);refine kW _ _ (bT (oc (x:=x) (ns:=[(q:Int)]) ⟨rfl,rfl⟩)) ?_;(try simp only[seval,aT,dH,cW,br,SQ,SC]);refine aL ((lC (x:=x) (b:=mv x [(q:Int)]) hx dq (ey hm) (λL k kp hk=>bT (od (x:=x) (ns:=[(q:Int)]) (e:= .exact) (il:=H.length+2) (ir:=H.length+1) hx (by simp) (by rw[SC,bW];rfl) (by rw[SC,bW];rfl) hk)) (λh=>by rw[jl]at h;cases h) λ_ js D L mp dp dL bA jX hg=> ?_));have eM:dZ x 1 D:=⟨p,js,dq,dp,dL,bA⟩;have bU:=Kn.len bA mp;have eB:=kv D mp;obtain⟨N,hN⟩:∃N,N=H.length+3+L.length:=⟨_,rfl⟩;obtain⟨Bf,aN⟩:∃Bf:List AV->List AV->List aa,∀u v,Bf u v=H++([.cells x.l 26, .cells x.l 26, .cells [.sl 1 [iv q] .exact] 22]++L):=⟨_,λ_ _=>rfl⟩;have dE:H++[.cells x.l 26, .cells x.l 26, .cells [.sl 1 [iv q] .exact] 22]++L=Bf u0 v0:=(by rw[aN,SC]);have ba:∀u v,(Bf u v).length=N:=λu v=>(by rw[aN,hN];simp;omega);have bn:∀u v (L':List aa)(j:Nat),(Bf u v++L')[N+j]?=L'[j]?:=λu v L' j=>(by rw[<- ba u v,aS]);have dJ:∀u v (L':List aa)(j:Nat)(y:aa),(Bf u v++L').set (N+j) y=Bf u v++L'.set j y:=λu v L' j y=>(by rw[<- ba u v,de]);have fb:∀u v (L':List aa),(Bf u v++L')[N]?=L'[0]?:=λu v L'=>bn u v L' 0;have fe:∀u v (L':List aa)(y:aa),(Bf u v++L').set N y=Bf u v++L'.set 0 y:=λu v L' y=>dJ u v L' 0 y;have ez:∀u v (L':List aa),(Bf u v++L')[N+1]?=L'[1]?:=λu v L'=>bn u v L' 1;have ff:∀u v (L':List aa)(y:aa),(Bf u v++L').set (N+1) y=Bf u v++L'.set 1 y:=λu v L' y=>dJ u v L' 1 y;rw[dE];clear dE hg;refine⟨λDD=>bif isDone 13 DD then(Bf u0 v0++[.cells (D.l mp) 88, .cells x.l 76])else bif isDone 12 DD then(Bf u0 v0++[.cells v0 88, .cells x.l 76])else bif isDone 10 DD then(Bf u0 v0++[.cells v0 88, .cells u0 76])else bif isDone 11 DD then(Bf u0 v0++[.cells v0 88])else Bf u0 v0,by first|rfl|simp only[seval], ?_⟩;try simp only[seval,dH,cW,ba,fb,fe,ez,ff,br,bU,iD,iE,jn,gn,ai.av]
     first|refine⟨ky x,eB, ?_⟩|trace_state
     have hR:=rest (N,mp,D,(Bf u0 v0++[.cells (D.l mp) 88, .cells x.l 76])) ⟨eM,bA,⟨_,by rw[aN]<;>rw[SC]⟩,by rw[aN];rw[SC];exact aS H _ 0,by simp only[seval,dH,cW,ba,fb,fe,ez,ff,br,bU,iD,iE,jn,gn,ai.av]⟩;exact mJ (qy rfl (by simp only[seval];simp[bB,Wk.refl])) hR
    ·refine pN (.add (.add (.add .base 10 5) 11 5) 11 10) 5 [0,1,2,3,4] [6,7,8,9,10,11,12,13,14] [4] [10,11,12,13] [⟨0,false,[],[([4],[4])]⟩,⟨1,false,[],[]⟩,⟨2,false,[],[]⟩,⟨3,false,[],[]⟩,⟨4,true,[4],[]⟩] [⟨6,false,[],[([10],[10]),([10,11],[10,11])]⟩,⟨7,false,[],[([10],[10]),([10,11],[10,11])]⟩,⟨8,false,[],[([10],[10]),([10,11],[10,11]),([10,11,12],[10,11,12])]⟩,⟨9,false,[],[([10],[10]),([10,11],[10,11]),([10,11,12],[10,11,12]),([10,11,12,13],[10,11,12,13])]⟩,⟨10,true,[10],[]⟩,⟨11,true,[10,11],[]⟩,⟨12,true,[10,11,12],[]⟩,⟨13,true,[10,11,12,13],[]⟩,⟨14,false,[10,11,12,13],[]⟩] (λD=>bif isDone 4 D then H++[.cells x.l 26, .cells x.l 26, .cells [.sl 1 [iv q] .exact] 22]else H++[.cells x.l 26]) (by kernel_rfl) (by kernel_rfl) (by kernel_rfl) (by kernel_rfl) (by kernel_rfl) (by first|rfl|simp only[seval]) ?_;(try simp only[seval,z1,eJ,nu,and_self,aT,dH,cW,br,SQ]);refine kW _ _ (bT (oc (x:=x) (ns:=[(q:Int)]) ⟨rfl,rfl⟩)) ?_;(try simp only[seval,aT,dH,cW,br,SQ,SC]);refine aL ((lC (x:=x) (b:=mv x [(q:Int)]) hx dq (ey hm) (λL k kp hk=>bT (od (x:=x) (ns:=[(q:Int)]) (e:= .exact) (il:=H.length+2) (ir:=H.length+1) hx (by simp) (by rw[SC,bW];rfl) (by rw[SC,bW];rfl) hk)) (λh=>by rw[jl]at h;cases h) λ_ js D L mp dp dL bA jX hg=> ?_));have eM:dZ x 1 D:=⟨p,js,dq,dp,dL,bA⟩;have bU:=Kn.len bA mp;have eB:=kv D mp;obtain⟨N,hN⟩:∃N,N=H.length+3+L.length:=⟨_,rfl⟩;obtain⟨Bf,aN⟩:∃Bf:List AV->List AV->List aa,∀u v,Bf u v=H++([.cells x.l 26, .cells x.l 26, .cells [.sl 1 [iv q] .exact] 22]++L):=⟨_,λ_ _=>rfl⟩;have dE:H++[.cells x.l 26, .cells x.l 26, .cells [.sl 1 [iv q] .exact] 22]++L=Bf u0 v0:=(by rw[aN,SC]);have ba:∀u v,(Bf u v).length=N:=λu v=>(by rw[aN,hN];simp;omega);have bn:∀u v (L':List aa)(j:Nat),(Bf u v++L')[N+j]?=L'[j]?:=λu v L' j=>(by rw[<- ba u v,aS]);have dJ:∀u v (L':List aa)(j:Nat)(y:aa),(Bf u v++L').set (N+j) y=Bf u v++L'.set j y:=λu v L' j y=>(by rw[<- ba u v,de]);have fb:∀u v (L':List aa),(Bf u v++L')[N]?=L'[0]?:=λu v L'=>bn u v L' 0;have fe:∀u v (L':List aa)(y:aa),(Bf u v++L').set N y=Bf u v++L'.set 0 y:=λu v L' y=>dJ u v L' 0 y;have ez:∀u v (L':List aa),(Bf u v++L')[N+1]?=L'[1]?:=λu v L'=>bn u v L' 1;have ff:∀u v (L':List aa)(y:aa),(Bf u v++L').set (N+1) y=Bf u v++L'.set 1 y:=λu v L' y=>dJ u v L' 1 y;rw[dE];clear dE hg;refine⟨λDD=>bif isDone 13 DD then(Bf u0 v0++[.cells x.l 76, .cells (D.l mp) 88])else bif isDone 12 DD then(Bf u0 v0++[.cells x.l 76, .cells v0 88])else bif isDone 11 DD then(Bf u0 v0++[.cells u0 76, .cells v0 88])else bif isDone 10 DD then(Bf u0 v0++[.cells u0 76])else Bf u0 v0,by first|rfl|simp only[seval], ?_⟩;try simp only[seval,dH,cW,ba,fb,fe,ez,ff,br,bU,iD,iE,jn,gn,ai.av]
     first|refine⟨ky x,eB, ?_⟩|trace_state
     have hR:=rest (N+1,mp,D,(Bf u0 v0++[.cells x.l 76, .cells (D.l mp) 88])) ⟨eM,bA,⟨_,by rw[aN]<;>rw[SC]⟩,by rw[aN];rw[SC];exact aS H _ 0,by simp only[seval,dH,cW,ba,fb,fe,ez,ff,br,bU,iD,iE,jn,gn,ai.av]⟩;exact mJ (qy rfl (by simp only[seval];simp[bB,Wk.refl])) hR
end
theorem alf{x:ai}{deep:Int}{D:Kn}(hx:x.Ok)(h:dZ x deep D)(hh:D.has=true):iL x D.first:=by
 obtain⟨p,js,h1,h2,h3,_⟩:=h;have hp:=hx.am;have hj:∀j∈js,j<x.am.toNat+1:=λj hj=>by have:=TH.1 (h2.mem_iff.1 hj);omega
 obtain⟨j,a,t,l,b,c,d⟩:=Sc hx h3 (h2.nodup_iff.2 Xf) hj hh;rw[c];exact PN (deep:=deep) (j:=j) hx (by have:=hj j a;omega) (by rw[b];simp)
namespace Tk
def sx (x:ai)(t:List Int)(i:Nat):List Int:=(SX i).map λp=>t.getD (4+p) 0+x.first
def sA (t:List Int)(i:Nat):List Int:=(SX i).map λs=>t.getD (8+s) 0
theorem ahO(x:ai)(t:List Int)(i:Nat):sx x t (i+1)=sx x t i++[t.getD (4+i) 0+x.first]:=by
 unfold sx;rw[UV,Tv];rfl
theorem ahQ(t:List Int)(i:Nat):sA t (i+1)=sA t i++[t.getD (8+i) 0]:=by
 unfold sA;rw[UV,Tv];rfl
theorem ahN(x:ai)(t:List Int)(i:Nat):(sx x t i).length=i:=by simp[sx]
theorem ahP(t:List Int)(i:Nat):(sA t i).length=i:=by simp[sA]
end Tk
theorem are{a a' b b' c c' d d':AV}(h1:Wk a a')(h2:Wk b b')(h3:Wk c c')(h4:Wk d d'):Wk (.aK [a,b,c,d]) (.aK [a',b',c',d']):=λE v h=>by
 cases h with
 |aK hs h=>
  refine .aK hs λi x e=> ?_
  match i with
  |0=>cases e;exact h1 _ _ (h 0 a rfl)
  |1=>cases e;exact h2 _ _ (h 1 b rfl)
  |2=>cases e;exact h3 _ _ (h 2 c rfl)
  |3=>cases e;exact h4 _ _ (h 3 d rfl)
section
variable {lv:Bool}{H:List aa}{k kp:AV->List aa->Prop}
theorem ag8{x:ai}(hx:x.Ok)(hm:H[0]?=some .main)(hk:∀D,dZ x 0 D->(D.has=false->k (.aK [bu [],bu [],bu [],iv 11]) H)/\(D.has=true->k (.aK [bu (D.first.take (x.hours.toNat+1)),bu (sx x D.first x.pieces.length),bu (sA D.first x.aB.length),iv 0]) H)):bi true SD 18 H [x.av] k kp:=by
 refine bI (rs:=[.tmp 2, .tmp 3, .tmp 4, .tmp 5]) (nt:=64) Tryz.f18 λhH hA=> ?_;simp only[bp,SS,ai.av];have hp:=hx.am;have hh:=hx.hours;have oC:=hx.dI;have aQ:=hx.fD;have jG:=hx.first;obtain⟨p,dq⟩:∃p:Nat,x.am=p:=⟨x.am.toNat,by omega⟩;have bQ:x.l=[iv x.first,iv x.hours,iv x.am,ej x.seen,bk x.pieces,bk x.aB]:=rfl;have aT:∀(L:List aa),(H++L)[H.length]?=L[0]?:=λL=>aS H L 0;have br:x.l.length=6:=rfl;have eJ:T_ 6 x.l=x.l:=rfl;refine ak ?_;refine aj ?_;simp only[seval,aT,br,eJ];refine aL ((lC (x:=x) hx dq (ey hm) HJ (λh=>by cases h) λ_ js D L mp dp dL bA jX hg=> ?_));have eM:dZ x 0 D:=⟨p,js,dq,dp,dL,bA⟩;have bU:=Kn.len bA mp;have eB:=kv D mp;obtain⟨gZ,cx⟩:=hk D eM;obtain⟨Y,hY⟩:∃Y:List aa,Y=[aa.cells x.l 26]++L:=⟨_,rfl⟩;obtain⟨B,hB⟩:∃B,B=H++Y:=⟨_,rfl⟩;have dE:H++[aa.cells x.l 26]++L=B:=by rw[hB,hY,SC]
 have yY:∀(L':List aa),(B++L')[H.length]?=some (.cells x.l 26):=λL'=>by rw[hB,hY,SC,aT];rfl
 have bn:∀(L':List aa)(j:Nat),(B++L')[B.length+j]?=L'[j]?:=λL' j=>aS B L' j;have dJ:∀(L':List aa)(j:Nat)(y:aa),(B++L').set (B.length+j) y=B++L'.set j y:=λL' j y=>de B L' j y;have fj:∀(L':List aa)(l1 l2 l3:List Int)(e e' OR:End)(m:Int),k (.aK [bu l1,bu l2,bu l3,iv m]) H->cy H.length (B++L') (.aK [.sl l1.length (l1.map iv) e, .sl l2.length (l2.map iv) e', .sl l3.length (l3.map iv) OR,iv m]) k:=λL' l1 l2 l3 e e' OR m h=>by
  rw[hB,SC];exact je hH (are (jw _ _ _) (jw _ _ _) (jw _ _ _) (Wk.refl _)) (by simp[iV,eK,bu,uC]) h
 rw[dE];clear dE hg;(try simp only[seval,ai.av,br,bU]);refine⟨ky x,eB, ?_⟩;cases gD:D.has with
 |false=>
  have hE:eX D=11:=by rw[eX,gD];rfl
  refine aj ?_;simp only[seval,hE,show ((11:Int)!=0)=true from rfl];refine aC ?_;refine ak ?_;refine a_ ?_;exact fj _ [] [] [] .exact .exact .exact 11 (gZ gD)
 |true=>
  have hE:eX D=0:=by rw[eX,gD];rfl
  have cx:=cx gD;have qi:=alf hx eM gD;obtain⟨t,ht⟩:∃t,t=D.first:=⟨_,rfl⟩;rw[<- ht]at qi cx;have qh:=qi.len;obtain⟨pre,QT,Jx⟩:∃pre:List AV,pre.length=17/\D.l mp=pre++(t.map iv++[]):=⟨bv D.has:: .mp mp::(D.aA.map (λn=>wv n)++(D.hours.map (λn=>wv n)++(D.less.map (λn=>wv n)++D.aV.map (λn=>wv n)))),by simp[bA.aA,bA.hours,bA.less,bA.aV],by rw[ht];simp[Kn.l]⟩;obtain⟨n,hn⟩:∃n:Nat,x.hours=n:=⟨x.hours.toNat,by omega⟩;have pi:x.hours+1=((n+1:Nat):Int):=by omega
  have bX:SE.wrap (x.hours+1)=((n+1:Nat):Int):=by rw[bD _ (by omega)];exact pi
  have cZ:Ud 1 x.l=[iv x.hours,iv x.am,ej x.seen,bk x.pieces,bk x.aB]:=rfl;have hd4:Ud 4 x.l=[.sl x.pieces.length (x.pieces.flatMap aG.l) .shut, .sl x.aB.length (x.aB.flatMap aG.l) .shut]:=rfl;have t_:Ud 5 x.l=[.sl x.aB.length (x.aB.flatMap aG.l) .shut]:=rfl;refine aj ?_;simp only[seval,hE,show ((0:Int)!=0)=false from rfl];refine aC ?_;refine aP ?_;have ez:∀(L':List aa),(B++L')[B.length+1]?=L'[1]?:=λL'=>bn L' 1;have yx:∀(L':List aa),(B++L')[B.length+2]?=L'[2]?:=λL'=>bn L' 2;have oW:∀(L':List aa)(y:aa),(B++L').set (B.length+2) y=B++L'.set 2 y:=λL' y=>dJ L' 2 y;have bn3:∀(L':List aa),(B++L')[B.length+3]?=L'[3]?:=λL'=>bn L' 3;have bs3:∀(L':List aa)(y:aa),(B++L').set (B.length+3) y=B++L'.set 3 y:=λL' y=>dJ L' 3 y;have bn4:∀(L':List aa),(B++L')[B.length+4]?=L'[4]?:=λL'=>bn L' 4;have bs4:∀(L':List aa)(y:aa),(B++L').set (B.length+4) y=B++L'.set 4 y:=λL' y=>dJ L' 4 y;refine aj ?_;simp only[seval,yY,cZ,bX,acY];refine⟨by omega,by omega, ?_⟩;have vE:(D.l mp).drop 17=t.map iv:=by rw[Jx,SI,VJ (by omega),Wj (by omega),Up]
  have akJ:((n:Int)+1).toNat=n+1:=by omega
  have qa:min 4 (n+1)=n+1:=by omega
  have B4:min 4 11=4:=rfl;have Q_:min (n+1) 4=n+1:=by omega
  have aX:T_ (n+1) (T_ 4 (UK iv t))++Ud (n+1) (UK iv (TG (n+1) 0))=(t.take (n+1)).map iv:=by rw[US,Q_,Wj (by simp),SI,Vy]
  refine aj ?_;simp only[seval,vE,akJ,qa,B4,qh,Q_,TW,XU,ez,yx,oW];refine⟨by rw[<- Vy];exact of_eq_true (Sv _), ?_⟩;rw[aX];obtain⟨tl,KL⟩:∃tl,tl=t.take (n+1):=⟨_,rfl⟩;have RM:tl.length=n+1:=by rw[KL,TW];omega
  have B9:x.hours.toNat=n:=by omega
  rw[B9,<- KL]at cx;rw[<- KL]
  (repeat apply iA);refine HL (id:=B.length+2) (by simp only[seval,yx]<;>rfl) ?_
  simp only[seval,oW,RM]
  (repeat apply iA);refine NX (t:=2) (y:=bu tl) (by simp only[seval]<;>rfl) ?_ ?_
  ·have e:bu tl= .sl (n+1) ((tl.map iv).take (n+1)) .shut:=by
    rw[SW (by simp;omega),bu,RM]
   rw[e];exact M3 (p:=n+1) (by simp only[seval,yx]<;>rfl) (by omega) (by simp;omega)
  (repeat apply iA);refine u6 (t:=3) (sz:=1) (el:=3) (by simp only[seval]<;>rfl) ?_
  refine aj ?_;simp only[seval,yY,hd4];obtain⟨gl,ow⟩:∃gl:Nat->List Int,∀i,gl i=sx x t i:=⟨_,λ_=>rfl⟩;have BX:gl 0=[]:=by rw[ow];rfl
  have JR:∀i,(gl i).length=i:=λi=>by rw[ow];exact ahN _ _ _
  refine cN ?_;refine gM x.pieces.length (λi:Nat=>[(3, .sl (gl i).length ((gl i).map iv) (.opn (B.length+3))),(31,iv i)]) (λi=>B++[.cells x.l 76, .cells (D.l mp) 88, .part (n+1) (tl.map iv) 3, .tail (gl i).length 1 3]) (λi=>True) (λ_ _=>rfl) (by rw[BX];simp only[seval];simp[bB,Wk.refl]) (by rw[BX];rfl) (λ_ _ _=>by simp) trivial (λcm dF i cw _ R hR=> ?_);refine ak ?_;refine aC ?_;refine⟨λh=> ?_,λh=> ?_⟩
  ·have bE:i<x.pieces.length:=(by omega);obtain⟨v,hv,hv9,_⟩:=qi.num i bE;have BY:t.getD (4+i) 0=v:=(by rw[SF,hv];rfl);have b3:(0<=(i:Int)/\(i:Int)<4)=True:=(by simp;omega);have f_:SE.wrap ((i:Int)+1)=((i+1:Nat):Int):=(by rw[bD _ (by omega)];rfl);have Cp:SE.wrap ((v:Int)+x.first)=v+x.first:=bD _ (by omega);have JE:(D.l mp).drop (21+i)=iv v::((t.drop (4+i+1)).map iv++[]):=by
    have:=Ed Jx QT hv;rw[show 21+i=17+(4+i) by omega];exact this
   have dc:gl (i+1)=gl i++[(v:Int)+x.first]:=(by rw[ow,ow,ahO,BY]);have QW:=JR i;refine aP ?_;refine ak ?_;refine eS 10 ?_;simp only[seval,z1,yY,ez,b3,JE,Cp,bQ,bn3,bs3]
   first|refine⟨by decide,by omega, ?_⟩|refine⟨by omega, ?_⟩
   refine aj ?_;simp only[seval,f_];refine hR _ ⟨bE,trivial, ?_⟩;rw[dc,Tv,SQ];exact dR
  ·have dK:i=x.pieces.length:=(by omega);subst dK;clear hR;refine cq ?_
   (repeat apply iA);refine u6 (t:=4) (sz:=1) (el:=3) (by simp only[seval]<;>rfl) ?_
   have FG:(gl x.pieces.length)=sx x t x.pieces.length:=ow _;generalize gl x.pieces.length=nl at FG⊢;refine aj ?_;simp only[seval,yY,t_];obtain⟨go,hgo⟩:∃go:Nat->List Int,∀i,go i=sA t i:=⟨_,λ_=>rfl⟩;have QB:go 0=[]:=(by rw[hgo];rfl);have ajx:∀i,(go i).length=i:=λi=>(by rw[hgo];exact ahP _ _);refine cN ?_;refine gM x.aB.length (λi:Nat=>[(4, .sl (go i).length ((go i).map iv) (.opn (B.length+4))),(49,iv i)]) (λi=>B++[.cells x.l 76, .cells (D.l mp) 88, .part (n+1) (tl.map iv) 3, .tail nl.length 1 3, .tail (go i).length 1 3]) (λi=>True) (λ_ _=>rfl) (by rw[QB];simp only[seval];simp[bB,Wk.refl]) (by rw[QB];rfl) (λ_ _ _=>by simp) trivial (λcm dF i cw _ R hR=> ?_);refine ak ?_;refine aC ?_;refine⟨λh=> ?_,λh=> ?_⟩
   ·have bE:i<x.aB.length:=(by omega);obtain⟨v,hv,hv9⟩:=qi.own i bE;have BY:t.getD (8+i) 0=v:=(by rw[SF,hv];rfl);have b3:(0<=(i:Int)/\(i:Int)<3)=True:=(by simp;omega);have f_:SE.wrap ((i:Int)+1)=((i+1:Nat):Int):=(by rw[bD _ (by omega)];rfl);have JE:(D.l mp).drop (25+i)=iv v::((t.drop (8+i+1)).map iv++[]):=by
     have:=Ed Jx QT hv;rw[show 25+i=17+(8+i) by omega];exact this
    have dc:go (i+1)=go i++[(v:Int)]:=(by rw[hgo,hgo,ahQ,BY]);have QW:=ajx i;refine aP ?_;refine ak ?_;refine aj ?_;simp only[seval,z1,ez,b3,JE,bn4,bs4]
    first|refine⟨by decide,by omega, ?_⟩|refine⟨by omega, ?_⟩
    refine aj ?_;simp only[seval,f_];refine hR _ ⟨bE,trivial, ?_⟩;rw[dc,Tv,SQ];exact dR
   ·have dK:i=x.aB.length:=(by omega);subst dK;clear hR;refine cq ?_;have RY:(go x.aB.length)=sA t x.aB.length:=hgo _;generalize go x.aB.length=ol at RY⊢;refine ak ?_;refine a_ ?_;rw[<- FG,<- RY]at cx;exact fj _ tl nl ol .shut _ _ 0 cx
end
open Go.Conc Go.Proofs Go.Gg.Tk
namespace Tk
def aav (n:Int)(o k:Int):Int:=xK [o,max (k-n) (n-k)]
def CM (l:List Int)(n:Int)(o:Int):Int:=l.foldl (aav n) o
def qL (own q:Nat)(m:Int×Nat)(t:List Int):Int×Nat:=if m.2.testBit (my t q)then m else(CM (fQ own 0 16) (my t q) m.1,m.2|||2^my t q)
def uW (x:ai)(y:aG)(q:Nat)(o:Int)(h:List Int):Int:=if bZ h y=0 then o else((jv x 1 h).foldl (qL (bZ h y) q) (o,0)).1
def yr (x:ai)(y:aG)(q:Nat):Nat->Int
 |0=> -1
 |i+1=>(kH x i).foldl (uW x y q) (yr x y q i)
def HF (x:ai)(i:Nat):List aa:=[.cells x.l 76, .cells [iv i] 3, .obj (.deferred (some [])), .gone]
def oV (x:ai):Nat->List aa
 |0=>[]
 |i+1=>oV x i++HF x i
def wK (n:Nat):Nat->List Nat
 |0=>[]
 |i+1=>(n+4* i+2)::wK n i
theorem HG(x:ai):∀i,(oV x i).length=4* i
 |0=>rfl
 |i+1=>by rw[oV,SQ,HG x i];rfl
theorem NG(x:ai)(B:List aa):∀(i:Nat)(L:List aa),∃Y,iN (wK B.length i) (B++oV x i++L)=some (B++Y)
 |0,L=>⟨oV x 0++L,by rw[wK,yN,SC]⟩
 |i+1,L=>by
  have hl:(B++oV x i).length=B.length+4* i:=by rw[SQ,HG]
  have e:B++oV x (i+1)++L=(B++oV x i)++(HF x i++L):=by rw[oV];simp
  have hg:((B++oV x i)++(HF x i++L))[B.length+4* i+2]?=some (.obj (.deferred (some []))):=by rw[<- hl,aS];rfl
  obtain⟨Y,hY⟩:=NG x B i ([.cells x.l 76, .cells [iv i] 3, .gone, .gone]++L);refine⟨Y, ?_⟩;rw[wK,e,yM hg,<- hl,de];exact hY
end Tk
theorem aeW{lv:Bool}{P:Program}{nt:Nat}{c:Code}{s:AS}{ms:List Nat}{Φ:ao->AS->List Nat->Prop}(h:kA lv P nt [] c s ms Φ):mB lv P nt c s ms Φ:=λE V a Q ah hd hQ=>
 h E V a Q ah ⟨by rw[SI];exact hd.1,hd.2⟩ λae e E' V' a' s' cH hk aR cE he hΦ=>hQ ae e E' V' a' s' cH hk aR ⟨by have:=cE.1;rwa [SI]at this,cE.2⟩ he hΦ
section
variable {lv:Bool}{H:List aa}{k kp:AV->List aa->Prop}
theorem ahi{x:ai}{s q:Nat}{y:aG}(hx:x.Ok)(hs:x.aB[s]?=some y)(hq:q<x.pieces.length)(hk:∀o:Int,o=yr (x.wo [(s:Int)]) y q (x.am.toNat+1)->k (.aK [iv (if o<0 then 0 else o),iv (if o<0 then 11 else 0)]) H):bi lv SD 31 H [x.av,iv s,iv q] k kp:=by
 refine Ps (rs:=[.tmp 6, .tmp 7]) (nt:=97) F.f31 rfl rfl rfl (by simp) λhH hA=> ?_;simp only[bp,SS,ai.av];have hp:=hx.am;have aQ:=hx.fD;have oC:=hx.dI;have dX:=eU hs;have jl:=aa5 hq;obtain⟨p,dq⟩:∃p:Nat,x.am=p:=⟨x.am.toNat,by omega⟩;obtain⟨w,hw⟩:∃w,w=x.wo [(s:Int)]:=⟨_,rfl⟩;have KQ:w.Ok:=by rw[hw];exact hx.wo _
 have bQ:x.l=[iv x.first,iv x.hours,iv x.am,ej x.seen,bk x.pieces,bk x.aB]:=rfl;have bW:∀(L:List aa)(j:Nat),(H++L)[H.length+j]?=L[j]?:=λL j=>aS H L j;have jZ:∀(L:List aa)(j:Nat)(y:aa),(H++L).set (H.length+j) y=H++L.set j y:=λL j y=>de H L j y;have aT:∀(L:List aa),(H++L)[H.length]?=L[0]?:=λL=>aS H L 0;have cZ:∀(L:List aa),(H++L)[H.length+1]?=L[1]?:=λL=>aS H L 1;have iB:∀(L:List aa),(H++L)[H.length+2]?=L[2]?:=λL=>aS H L 2;have t_:∀(L:List aa),(H++L)[H.length+5]?=L[5]?:=λL=>aS H L 5;have KA:∀(L:List aa)(y:aa),(H++L).set (H.length+5) y=H++L.set 5 y:=λL y=>de H L 5 y;have hd6:∀(L:List aa),(H++L)[H.length+6]?=L[6]?:=λL=>aS H L 6;have hs6:∀(L:List aa)(y:aa),(H++L).set (H.length+6) y=H++L.set 6 y:=λL y=>de H L 6 y;have br:x.l.length=6:=rfl;have eJ:T_ 6 x.l=x.l:=rfl;have Qu:Ud 5 x.l=[.sl x.aB.length (x.aB.flatMap aG.l) .shut]:=rfl;have BR:Ud 2 x.l=[iv x.am,ej x.seen,bk x.pieces,bk x.aB]:=rfl;have nu:(1<=2^24)=True:=eq_true (by decide);(try refine ng ?_);refine ak ?_;(try refine ng ?_);refine aj ?_;simp only[seval,aT,br,eJ];refine aL ((IG (x:=x) hx ?_));(try simp only[seval]);(try refine ng ?_);refine aj ?_;simp only[seval,show ((0:Int)!=0)=false from rfl];(try refine ng ?_);refine aC ?_;refine aP ?_;(try refine ng ?_);refine aj ?_;simp only[seval,z1,nu,aT,iB,br,eJ];refine aL ((oc (x:=x) (ns:=[(q:Int)]) ?_));have bX:SE.wrap ((x.aB.length:Int)-1)=(x.aB.length:Int)-1:=bD _ (by omega);have ho1:(decide ((s:Int)<0)||decide ((s:Int)>(x.aB.length:Int)-1))=false:=by simp;omega
 (try simp only[seval]);refine aL ((od (x:=x) (ns:=[(q:Int)]) (e:= .exact) (il:=H.length+4) (ir:=H.length+3) hx (by simp) (by rw[bW];rfl) (by rw[bW];rfl) ?_));rw[jl];(try simp only[seval,aT,cZ,Qu,bX]);refine aL ((qS (n:=s) (lo:=0) (hi:=(x.aB.length:Int)-1) ?_));rw[ho1];(try simp only[seval]);(try refine ng ?_);refine aC ?_;refine aP ?_;(try refine ng ?_);have aiT:tp [(s:Int)] x.aB.length:=λi n hn=>by
  match i,hn with
  |0,hn=>cases hn;simp;omega
 refine aj ?_;simp only[seval,z1,nu,aT,cZ,br,eJ];refine aL ((Pb (x:=x) (ns:=[(s:Int)]) aQ aiT ?_));rw[<- hw];have rC:w.l.length=6:=rfl;have up:T_ 6 w.l=w.l:=rfl;have QZ:w.l=[iv w.first,iv w.hours,iv w.am,ej w.seen,bk w.pieces,bk w.aB]:=rfl;have KS:Ud 6 [AV.val (SG SE 0),AV.val (SG SE 0),AV.val (SG SE 0),AV.sl 0 [] .exact,AV.sl 0 [] .exact,AV.sl 0 [] .exact]=[]:=rfl;(try simp only[seval,ai.av,rC,up,t_,KA,hd6,hs6,KS]);refine⟨ky w, ?_⟩;have gH:SE.wrap (x.am+1)=((p+1:Nat):Int):=by rw[dq,bD _ (by omega)];rfl
 refine HO ?_;refine ng ?_;refine aj ?_;simp only[seval,aT,BR,gH];obtain⟨Bo,qW⟩:∃Bo:Int->List aa,∀o,Bo o=H++[.cells x.l 26, .cells [iv s] 3, .cells [iv q] 3, .cells x.l 26, .cells [.sl 1 [iv q] .exact] 22, .cells w.l 76, .cells [iv o] 3]:=⟨_,λ_=>rfl⟩;have ba:∀o,(Bo o).length=H.length+7:=λo=>by rw[qW];simp
 have b0:∀o L,(Bo o++L)[H.length]?=some (.cells x.l 26):=λo L=>by rw[qW,SC,aT];rfl
 have b1:∀o L,(Bo o++L)[H.length+1]?=some (.cells [iv s] 3):=λo L=>by rw[qW,SC,bW];rfl
 have b2:∀o L,(Bo o++L)[H.length+2]?=some (.cells [iv q] 3):=λo L=>by rw[qW,SC,bW];rfl
 have b5:∀o L,(Bo o++L)[H.length+5]?=some (.cells w.l 76):=λo L=>by rw[qW,SC,bW];rfl
 have b6:∀o L,(Bo o++L)[H.length+6]?=some (.cells [iv o] 3):=λo L=>by rw[qW,SC,bW];rfl
 have s6:∀o o' L,(Bo o++L).set (H.length+6) (.cells [iv o'] 3)=Bo o'++L:=λo o' L=>by rw[qW,qW,SC,SC,jZ];rfl
 obtain⟨fo,vI⟩:∃fo:Nat->Int,∀i,fo i=yr w y q i:=⟨_,λ_=>rfl⟩;refine aeW ?_;refine wO ?_;refine NZ (measure λi=>p+1-i).wf (λi:Nat=>⟨[(45,iv i),(44,iv ((p+1:Nat):Int)),(3, .op H.length 0),(4, .op (H.length+1) 0),(5, .op (H.length+2) 0),(9, .op (H.length+5) 0),(10, .op (H.length+6) 0)],Bo (fo i)++oV w i⟩) (λi=>wK (H.length+7) i) (λi=>i<=p+1) 0 (fW (by simp only[seval];simp[bB,Wk.refl]) (by rw[qW,vI];show _=_++[];rw[SI];rfl)) rfl (by omega) λi pY=> ?_;obtain⟨N,hN⟩:∃N,N=H.length+7+4* i:=⟨_,rfl⟩;obtain⟨AO,pP⟩:∃AO:Int->List aa,∀o,AO o=Bo o++oV w i:=⟨_,λ_=>rfl⟩;have pQ:∀o,(AO o).length=N:=λo=>by rw[pP,SQ,ba,HG,hN]
 have a0:∀o L,(AO o++L)[H.length]?=some (.cells x.l 26):=λo L=>by rw[pP,SC];exact b0 _ _
 have a1:∀o L,(AO o++L)[H.length+1]?=some (.cells [iv s] 3):=λo L=>by rw[pP,SC];exact b1 _ _
 have a2:∀o L,(AO o++L)[H.length+2]?=some (.cells [iv q] 3):=λo L=>by rw[pP,SC];exact b2 _ _
 have a5:∀o L,(AO o++L)[H.length+5]?=some (.cells w.l 76):=λo L=>by rw[pP,SC];exact b5 _ _
 have a50:∀o,(AO o)[H.length+5]?=some (.cells w.l 76):=λo=>by have:=a5 o [];rwa [SI]at this
 have a6:∀o L,(AO o++L)[H.length+6]?=some (.cells [iv o] 3):=λo L=>by rw[pP,SC];exact b6 _ _
 have as6:∀o o' L,(AO o++L).set (H.length+6) (.cells [iv o'] 3)=AO o'++L:=λo o' L=>by rw[pP,pP,SC,SC];exact s6 _ _ _
 have ag:∀o (L:List aa)(j:Nat),(AO o++L)[N+j]?=L[j]?:=λo L j=>by rw[<- pQ o,aS]
 have tH:∀o (L:List aa)(j:Nat)(y:aa),(AO o++L).set (N+j) y=AO o++L.set j y:=λo L j y=>by rw[<- pQ o,de]
 have LP:∀m o o',(∀z∈AO o,eR m z)->∀z∈AO o',eR m z:=λm o o' hz z ft=>by
  rw[pP,qW]at hz ft;simp only[SN]at ft;rcases ft with(h'|h')|h'
  ·exact hz z (by simp[h'])
  ·simp only[SK,SU,or_false]at h';rcases h' with rfl|rfl|rfl|rfl|rfl|rfl|rfl
   ·exact hz _ (by simp)
   ·exact hz _ (by simp)
   ·exact hz _ (by simp)
   ·exact hz _ (by simp)
   ·exact hz _ (by simp)
   ·exact hz _ (by simp)
   ·intro a ha;rw[S5]at ha;subst ha;exact .val _
  ·exact hz z (by simp[h'])
 have okX:∀(X:List aa) o o',bL (AO o++X)->bL (AO o'++X):=λX o o' hX z hz=>by
  have hlen:(AO o'++X).length=(AO o++X).length:=by simp[pQ]
  rw[hlen];rcases SN.1 hz with h'|h'
  ·exact LP _ o o' (λz hz=>hX z (Tb _ hz)) z h'
  ·exact hX z (SZ _ h')
 rw[<- pP];refine sk ?_;refine ak ?_;refine sk ?_;refine aC ?_;refine⟨λhc=> ?_,λhc=> ?_⟩
 ·have pX:i<=3:=by omega
  have I9:=Am KQ i pX;refine aP ?_;refine D1 ?_;refine wO ?_;refine sk ?_;refine ak ?_;refine sk ?_;refine aj ?_;simp only[seval,a50,QZ];refine aL ((IH (x:=w) (n:=i) ?_));rw[pQ];(try simp only[seval]);refine wO ?_;refine HP (by rfl) λl fn T NF bo hT xd nz=> ?_;(try simp only[seval]);rw[pQ];have hY:jP lv SD (.fn (.yield l) [] []) (λo h=> .go (uW w y q o h)) (λo=>AO o++[.cells w.l 76, .cells [iv i] 3, .obj (.deferred (some [])), .loop l .ready none fn T 97 #[51] NF bo (N+2)]) (N+4) (λ_=>True) (λh=>jz h/\∀ns∈gp w h,∀a∈(iu w h ns).map (dB h ns),iL w a) (.aK []):=by
   refine⟨λo h M k kp _ ha dM=> ?_,λ_ _ _ _ _ _=>trivial,λo=>by simp[pQ],λm o o' hz z ft=> ?_,rfl,rfl,rfl⟩
   ·obtain⟨ox,Cm⟩:=ha;have h4:=ox.len;have nv:(h.map iv).length=4:=(by rw[Tj,h4]);simp only[cX]at dM;obtain⟨Lo,kZ⟩:∃Lo,Lo=aa.loop l .busy none fn T 97 #[51] NF bo (N+2):=⟨_,rfl⟩;obtain⟨C,hC⟩:∃C,C=N+4+M.length:=⟨_,rfl⟩;obtain⟨P1,dw⟩:∃P1:Int->List aa,∀o,P1 o=AO o++([.cells w.l 76, .cells [iv i] 3, .obj (.deferred (some [])),Lo]++M):=⟨_,λ_=>rfl⟩;have eN:∀o,(P1 o).length=C:=λo=>(by rw[dw,hC];simp[pQ];omega);have p0:∀o L,(P1 o++L)[H.length]?=some (.cells x.l 26):=λo L=>(by rw[dw,SC];exact a0 _ _);have p1:∀o L,(P1 o++L)[H.length+1]?=some (.cells [iv s] 3):=λo L=>(by rw[dw,SC];exact a1 _ _);have p2:∀o L,(P1 o++L)[H.length+2]?=some (.cells [iv q] 3):=λo L=>(by rw[dw,SC];exact a2 _ _);have p5:∀o L,(P1 o++L)[H.length+5]?=some (.cells w.l 76):=λo L=>(by rw[dw,SC];exact a5 _ _);have p6:∀o L,(P1 o++L)[H.length+6]?=some (.cells [iv o] 3):=λo L=>(by rw[dw,SC];exact a6 _ _);have ps6:∀o o' L,(P1 o++L).set (H.length+6) (.cells [iv o'] 3)=P1 o'++L:=λo o' L=>(by rw[dw o,dw o',SC (AO o),SC (AO o')];exact as6 _ _ _);have L7:∀o L,(P1 o++L)[N+3]?=some Lo:=λo L=>(by rw[dw,SC,ag];rfl);have Mn:∀o (L:List aa) y,(P1 o++L).set (N+3) y=AO o++([.cells w.l 76, .cells [iv i] 3, .obj (.deferred (some [])),y]++M)++L:=λo L y=>(by rw[dw,SC,tH];simp);have pb:∀o (L:List aa)(j:Nat),(P1 o++L)[C+j]?=L[j]?:=λo L j=>(by rw[<- eN o,aS]);have wb:∀o (L:List aa),(P1 o++L)[C]?=L[0]?:=λo L=>pb o L 0;have pb1:∀o (L:List aa),(P1 o++L)[C+1]?=L[1]?:=λo L=>pb o L 1;have pb2:∀o (L:List aa),(P1 o++L)[C+2]?=L[2]?:=λo L=>pb o L 2;have z8:∀o (L:List aa)(j:Nat)(y:aa),(P1 o++L).set (C+j) y=P1 o++L.set j y:=λo L j y=>(by rw[<- eN o,de]);have ps1:∀o (L:List aa)(y:aa),(P1 o++L).set (C+1) y=P1 o++L.set 1 y:=λo L y=>z8 o L 1 y;have ps2:∀o (L:List aa)(y:aa),(P1 o++L).set (C+2) y=P1 o++L.set 2 y:=λo L y=>z8 o L 2 y;have zP:∀m o o',(∀z∈P1 o,eR m z)->∀z∈P1 o',eR m z:=λm o o' hz z ft=>by
     rw[dw]at hz ft;rcases SN.1 ft with h'|h'
     ·exact LP m o o' (λz ur=>hz z (Tb _ ur)) z h'
     ·exact hz z (SZ _ h')
    subst hT xd nz;rw[SC];refine vb (id:=N+3) (by rw[ag];rfl) rfl (by kernel_rfl) λog I_=> ?_;simp only[rV];have vF:Ud 4 [iv 0,iv 0,iv 0,iv 0]=[]:=rfl;refine aj ?_;simp only[seval,h4,vF];unfold tE;refine⟨none,fn,_,97,#[51],_,_,_,by rw[ag];rfl, ?_⟩;dsimp only;rw[tH];simp only[Un,TM];rw[<- kZ];have w9:(AO o).length+(M.length+1+1+1+1)=C:=(by rw[pQ,hC];omega);rw[w9];have xn:∀z:aa,(AO o++aa.cells w.l 76::aa.cells [AV.val (SG SE ↑i)] 3::aa.obj (ZU (some []))::Lo::(M++[z]))=P1 o++[z]:=λz=>(by rw[dw];simp[iv]);rw[xn];obtain⟨own,jj⟩:∃own,own=bZ h y:=⟨_,rfl⟩;refine cN ?_;refine qM [7,8] [0,1,2,3,4,5,6,7,8] [⟨0,false,[],[([7],[7])]⟩,⟨1,false,[],[([7],[7])]⟩,⟨2,false,[],[([7],[7])]⟩,⟨3,false,[],[([7],[7])]⟩,⟨4,false,[],[([7],[7])]⟩,⟨5,false,[],[([7],[7])]⟩,⟨6,false,[],[([7],[7])]⟩,⟨7,true,[7],[]⟩,⟨8,true,[7,8],[]⟩] (λD=>bif isDone 8 D then P1 o++[.cells (h.map iv) 83, .cells [wv own] 79]else bif isDone 7 D then P1 o++[.cells (h.map iv) 83, .cells [.val (.int .u16 0)] 79]else P1 o++[.cells (h.map iv) 83]) ?_;simp only[seval,eN,wb,pb1,ps1,p0,p1,h4,nv,Qu,GG hs,jQ dX];have hmE:T_ 4 (UK (λn=>AV.val (SG SE n)) h)=h.map iv:=SW (by rw[nv];exact SO _);rw[hmE];refine iH (wv own) (bT (Ef (h:=h) (y:=y) ox ⟨by rw[jj],rfl⟩)) ?_;refine⟨iH (wv own) (bT (Ef (h:=h) (y:=y) ox ⟨by rw[jj],rfl⟩)) rfl, ?_⟩;(try simp only[seval,wv]);have hm3:UK (λn=>AV.val (SG SE n)) h=h.map iv:=rfl;rw[hm3];refine aj ?_;simp only[seval,pb1];refine aC ?_;refine⟨λhz=> ?_,λhz=> ?_⟩
    ·refine cq ?_;have ft:own=0:=(by simpa using hz);have e1:uW w y q o h=o:=(by unfold uW;rw[<- jj,if_pos ft]);rw[e1]at dM;show oS _ _ _ _ _ _ _;refine⟨l, .busy,none,fn,_,97,#[51],_,_,N+2,by show (P1 _++_)[_]?=_;rw[L7,kZ], ?_⟩;show cy C ((P1 _++_).set _ _) _ k;rw[Mn];rw[SC]at dM;exact jT (G:=[.cells (h.map iv) 83, .cells [wv own] 79]) (Wk.refl _) rfl (by rw[hC];simp[pQ];omega) og (.val _) dM
    ·refine aP ?_;refine aj ?_;simp only[seval,eN];refine aj ?_;simp only[seval,p5,wb,QZ,h4,nv];have ajO:T_ 4 (UK iv h)=h.map iv:=SW (by rw[nv];exact SO _);rw[ajO];refine aL ((II (x:=w) (h:=h) (deep:=1) ?_));(try simp only[seval]);have ft:own≠0:=(by simpa using hz);have aj0:own<65536:=by
      rw[jj];have:bZ h y<2^9:=D2;omega
     refine cN ?_;refine DY (N+3) (by rfl) (by show (P1 _++_)[N+3]?=_;rw[L7,kZ]) λl2 eZ T2 gL gN oh xe xf=> ?_;simp only[seval];rw[eN]at oh⊢;have okm:∀v m m',(∀z∈[aa.cells (h.map iv) 83, .cells [wv own] 79, .cells [wv m] 79, .cells w.l 76, .cells (h.map iv) 83, .cells [iv 1] 3, .loop l2 .ready none eZ T2 97 #[64] gL gN (N+2)],eR v z)->∀z∈[aa.cells (h.map iv) 83, .cells [wv own] 79, .cells [wv m'] 79, .cells w.l 76, .cells (h.map iv) 83, .cells [iv 1] 3, .loop l2 .ready none eZ T2 97 #[64] gL gN (N+2)],eR v z:=λv m m' hz z ft=>by
      simp only[SK,SU,or_false]at ft;rcases ft with rfl|rfl|rfl|rfl|rfl|rfl|rfl
      ·exact hz _ (by simp)
      ·exact hz _ (by simp)
      ·intro a ha;rw[S5]at ha;subst ha;exact .val _
      ·exact hz _ (by simp)
      ·exact hz _ (by simp)
      ·exact hz _ (by simp)
      ·exact hz (.loop l2 .ready none eZ T2 97 #[64] gL gN (N+2)) (by simp)
     have xc:jP lv SD (.fn (.yield l2) [] []) (λm t=> .go (qL own q m t)) (λm:Int×Nat=>P1 m.1++[.cells (h.map iv) 83, .cells [wv own] 79, .cells [wv m.2] 79, .cells w.l 76, .cells (h.map iv) 83, .cells [iv 1] 3, .loop l2 .ready none eZ T2 97 #[64] gL gN (N+2)]) (C+7) (λm=>m.2<65536) (iL w) (.aK []):=by
      refine⟨λm t M2 k2 xI hm ht lf=> ?_,λm t m' hm ht he=> ?_,λm=>by simp[eN],λv m m' hz z ft=> ?_,rfl,rfl,rfl⟩
      ·obtain⟨o2,met⟩:=m;replace hm:met<65536:=hm;have qh:=ht.len;have zB:(t.map iv).length=11:=(by rw[Tj,qh]);simp only[cX]at lf;have FE:w.pieces.length=x.pieces.length:=(by rw[hw];rfl);obtain⟨n,kJ,hn9,_⟩:=ht.num q (by rw[FE];exact hq);have Fw:my t q=n:=(by unfold my;rw[SF,kJ];rfl);obtain⟨pH,sB⟩:∃Lo,Lo=aa.loop l2 .busy none eZ T2 97 #[64] gL gN (N+2):=⟨_,rfl⟩;obtain⟨D,hD⟩:∃D,D=C+7+M2.length:=⟨_,rfl⟩;obtain⟨Q1,gB⟩:∃Q1:Int->Nat->List aa,∀o m,Q1 o m=P1 o++([.cells (h.map iv) 83, .cells [wv own] 79, .cells [wv m] 79, .cells w.l 76, .cells (h.map iv) 83, .cells [iv 1] 3,pH]++M2):=⟨_,λ_ _=>rfl⟩;have P2:∀o m,(Q1 o m).length=D:=λo m=>(by rw[gB,hD];simp[eN];omega);have q2:∀o m L,(Q1 o m++L)[H.length+2]?=some (.cells [iv q] 3):=λo m L=>(by rw[gB,SC];exact p2 _ _);have q6:∀o m L,(Q1 o m++L)[H.length+6]?=some (.cells [iv o] 3):=λo m L=>(by rw[gB,SC];exact p6 _ _);have qs6:∀o o' m L,(Q1 o m++L).set (H.length+6) (.cells [iv o'] 3)=Q1 o' m++L:=λo o' m L=>(by rw[gB o,gB o',SC (P1 o),SC (P1 o')];exact ps6 _ _ _);have qo:∀o m L,(Q1 o m++L)[C+1]?=some (.cells [wv own] 79):=λo m L=>(by rw[gB,SC,pb];rfl);have qm:∀o m L,(Q1 o m++L)[C+2]?=some (.cells [wv m] 79):=λo m L=>(by rw[gB,SC,pb];rfl);have qsm:∀o m m' L,(Q1 o m++L).set (C+2) (.cells [wv m'] 79)=Q1 o m'++L:=λo m m' L=>(by rw[gB o m,gB o m',SC (P1 o),z8,SC (P1 o)];rfl);have ql:∀o m L,(Q1 o m++L)[C+6]?=some pH:=λo m L=>(by rw[gB,SC,pb];rfl);have qsl:∀o m L y,(Q1 o m++L).set (C+6) y=(P1 o++([.cells (h.map iv) 83, .cells [wv own] 79, .cells [wv m] 79, .cells w.l 76, .cells (h.map iv) 83, .cells [iv 1] 3,y]++M2))++L:=λo m L y=>(by rw[gB,SC,z8];simp);have qc:∀o m (L:List aa),(Q1 o m++L)[D]?=L[0]?:=λo m L=>(by rw[<- P2 o m];exact aS _ L 0);have Gn:∀o (L:List aa),(P1 o++L)[C+6]?=L[6]?:=λo L=>pb o L 6;have vH:∀(o':Int)(m':Nat)(G:List aa),bL (P1 o2++([aa.cells (h.map iv) 83, .cells [wv own] 79, .cells [wv met] 79, .cells w.l 76, .cells (h.map iv) 83, .cells [iv 1] 3, .loop l2 .ready none eZ T2 97 #[64] gL gN (N+2)]++M2))->k2 (.val (.bool true)) (P1 o'++([aa.cells (h.map iv) 83, .cells [wv own] 79, .cells [wv m'] 79, .cells w.l 76, .cells (h.map iv) 83, .cells [iv 1] 3, .loop l2 .ready none eZ T2 97 #[64] gL gN (N+2)]++M2))->cy D ((Q1 o' m'++G).set (C+6) (.loop l2 .ready none eZ T2 97 #[64] gL gN (N+2))) (.val (.bool true)) k2:=λo' m' G ay aI=>by
        rw[qsl];refine jT (G:=G) (Wk.refl _) rfl (by rw[hD];simp[eN];omega) ?_ (.val _) aI;intro z hz;have hlen:(P1 o'++([aa.cells (h.map iv) 83, .cells [wv own] 79, .cells [wv m'] 79, .cells w.l 76, .cells (h.map iv) 83, .cells [iv 1] 3, .loop l2 .ready none eZ T2 97 #[64] gL gN (N+2)]++M2)).length=(P1 o2++([aa.cells (h.map iv) 83, .cells [wv own] 79, .cells [wv met] 79, .cells w.l 76, .cells (h.map iv) 83, .cells [iv 1] 3, .loop l2 .ready none eZ T2 97 #[64] gL gN (N+2)]++M2)).length:=(by simp[eN]);rw[hlen];rcases SN.1 hz with h'|h'
        ·exact zP _ o2 o' (λz hz=>ay z (Tb _ hz)) z h'
        ·rcases SN.1 h' with h'|h'
         ·exact okm _ met m' (λz hz=>ay z (SZ _ (Tb _ hz))) z h'
         ·exact ay z (SZ _ (SZ _ h'))
       subst oh xe xf;rw[SC];refine vb (id:=C+6) (by rw[Gn];rfl) rfl (by kernel_rfl) λqY Ja=> ?_;simp only[rV];have BR:Ud 11 [iv 0,iv 0,iv 0,iv 0,iv 0,iv 0,iv 0,iv 0,iv 0,iv 0,iv 0]=[]:=rfl;refine aj ?_;simp only[seval,qh,BR];unfold tE;refine⟨none,eZ,_,97,#[64],_,_,_,by rw[Gn];rfl, ?_⟩;dsimp only;rw[z8];simp only[Un,TM];rw[<- sB];have Bt:(P1 o2).length+(M2.length+1+1+1+1+1+1+1)=D:=(by rw[eN,hD];omega);rw[Bt];have iR:∀z:aa,(P1 o2++aa.cells (UK iv h) 83::aa.cells [AV.val (SG S0 ↑own)] 79::aa.cells [AV.val (SG S0 ↑met)] 79::aa.cells w.l 76::aa.cells (UK iv h) 83::aa.cells [AV.val (SG SE 1)] 3::pH::(M2++[z]))=Q1 o2 met++[z]:=λz=>(by rw[gB];simp[iv]);rw[iR];have b4:(0<=(q:Int)/\(q:Int)<4)=True:=(by simp;omega);have o5:=j7 (i:=4+q) kJ;refine aj ?_;simp only[seval,q2,qc,b4,o5];refine aj ?_;simp only[seval,qm];refine aL ((w5 (m:=met) (n:=n) hm ?_));(try simp only[seval]);refine aC ?_;refine⟨λhb=> ?_,λhb=> ?_⟩
       ·refine cq ?_;have e1:qL own q (o2,met) t=(o2,met):=(by unfold qL;rw[Fw,if_pos hb]);rw[e1]at lf;rw[SC]at lf;show oS _ _ _ _ _ _ _;refine⟨l2, .busy,none,eZ,_,97,#[64],_,_,N+2,by show (Q1 _ _++_)[_]?=_;rw[ql,sB], ?_⟩;exact vH o2 met _ qY lf
       ·refine aP ?_;have dG:met.testBit n=false:=(by simpa using hb);have e1:qL own q (o2,met) t=(CM (fQ own 0 16) n o2,met|||2^n):=(by unfold qL;rw[Fw,if_neg (by simpa using hb)]);rw[e1]at lf;rw[SC]at lf;refine aj ?_;simp only[seval,qm];refine aL ((tR (m:=met) (n:=n) hm (by omega) ?_));(try simp only[seval,qm,qsm,wv]);refine aj ?_;simp only[seval,qo];refine aL ((IF (s:=own) (more:=0) aj0 (by decide) ?_));(try simp only[seval,bu]);have QV:∀v∈fQ own 0 16,0<=v/\v<16:=λv hv=>by
         unfold fQ at hv;obtain⟨j,hj,rfl⟩:=Th.1 hv;have:=TH.1 (Uh.1 hj).1;omega
        have jh:=Lu own 0 16;generalize fQ own 0 16=ls at QV jh lf⊢;obtain⟨oj,lK⟩:∃oj:Nat->Int,∀j,oj j=CM (ls.take j) n o2:=⟨_,λ_=>rfl⟩;have aj2:oj 0=o2:=(by rw[lK];rfl);generalize met|||2^n=aao at lf⊢;refine cN ?_;refine gM ls.length (λj:Nat=>[(78,iv j)]) (λj=>Q1 (oj j) aao++[.cells (t.map iv) 86]) (λ_=>True) (λ_ _=>rfl) (by simp only[seval];simp[bB,Wk.refl]) (by rw[aj2]) (λ_ _ _=>by simp[P2]) trivial (λcm dF j o_ _ R hR=> ?_);clear cm dF;refine ak ?_;refine aC ?_;refine⟨λh1=> ?_,λh1=> ?_⟩
        ·have fy:j<ls.length:=(by omega);obtain⟨v,hv⟩:=cG fy;have hvb:=QV v (v7 hv);have dc:oj (j+1)=aav n (oj j) v:=by
          rw[lK,lK,CM,CM];obtain⟨ajF,xD⟩:=SM.1 hv;rw[W4 ajF,Xj,xD];rfl
         have hwa:SE.wrap (v-(n:Int))=v-n:=bD _ (by omega);have FD:SE.wrap ((n:Int)-v)=n-v:=bD _ (by omega);have f_:SE.wrap ((j:Int)+1)=((j+1:Nat):Int):=(by rw[bD _ (by omega)];rfl);have aiJ:(2<=2^24)=True:=eq_true (by decide);refine aP ?_;refine aj ?_;simp only[seval,h_ hv,jQ fy];refine aj ?_;simp only[seval,q6,z2,aiJ,hwa,FD];have B5:(if v-(n:Int)<(n:Int)-v then(n:Int)-v else v-(n:Int))=max (v-n) (n-v):=(by split<;>omega);rw[B5];refine aL ((ahw (ns:=[oj j,max (v-n) (n-v)]) (by simp) ?_));(try simp only[seval,q6,qs6]);refine aj ?_;simp only[seval,f_];refine hR _ ⟨fy,trivial, ?_⟩;rw[dc];exact dR
        ·have xv:j=ls.length:=(by omega);subst xv;refine cq ?_;show oS _ _ _ _ _ _ _;refine⟨l2, .busy,none,eZ,_,97,#[64],_,_,N+2,by show (Q1 _ _++_)[_]?=_;rw[ql,sB], ?_⟩;exact vH (oj ls.length) aao _ qY (by rw[lK,TE];exact lf)
      ·cases he;show (qL own q m t).2<65536;unfold qL;split
       ·exact hm
       ·obtain⟨n,kJ,hn9,_⟩:=ht.num q (by rw[hw];exact hq);have Fw:my t q=n:=(by unfold my;rw[SF,kJ];rfl);rw[Fw];exact pA hm (wn (by omega))
      ·rcases SN.1 ft with h'|h'
       ·exact zP v m.1 m'.1 (λz ur=>hz z (Tb _ ur)) z h'
       ·exact okm v m.2 m'.2 (λz ur=>hz z (SZ _ ur)) z h'
     refine bT (IL (x:=w) (h:=h) (deep:=1) (ir:=C+3) (ih:=C+3+1) (id:=C+3+2) (σ:=(o,0)) KQ ox xc (λm L=> ?_) (λm L=> ?_) (λm L=> ?_) (λn=>by simp[iV]) (show (0:Nat)<65536 by decide) (λa ha=>ha.len) Cm ?_)
     ·rw[SC];exact pb _ _ 3
     ·rw[SC];exact pb _ _ 4
     ·rw[SC];exact pb _ _ 5
     rw[CY (g:=qL own q) (λ_ _=>rfl)];simp only[gv,SI];have e1:uW w y q o h=((jv w 1 h).foldl (qL own q) (o,0)).1:=(by unfold uW;rw[<- jj,if_neg ft]);generalize(jv w 1 h).foldl (qL own q) (o,0)=r at e1⊢;rw[e1]at dM;have Gn:∀o (L:List aa),(P1 o++L)[C+6]?=L[6]?:=λo L=>pb o L 6;refine⟨.ready,none,_,_,_,_,_,_,_,by rw[Gn];rfl,by decide, ?_⟩;rw[z8,Gr];(try simp only[seval]);show oS _ _ _ _ _ _ _;refine⟨l, .busy,none,fn,_,97,#[51],_,_,N+2,by show (P1 _++_)[_]?=_;rw[L7,kZ], ?_⟩;show cy C ((P1 _++_).set _ _) _ k;rw[Mn];rw[SC]at dM;exact jT (G:=[.cells (h.map iv) 83, .cells [wv own] 79, .cells [wv r.2] 79, .cells w.l 76, .cells (h.map iv) 83, .cells [iv 1] 3, .gone]) (Wk.refl _) rfl (by rw[hC];simp[pQ];omega) (okX _ o r.1 og) (.val _) dM
   ·rcases SN.1 ft with h'|h'
    ·exact LP m o o' (λz ur=>hz z (Tb _ ur)) z h'
    ·exact hz z (SZ _ h')
  refine bT (IJ (x:=w) (bh:=i) (ir:=N) (it:=N+1) (σ:=fo i) KQ hY (λo L=> ?_) (λo L=> ?_) pX (λn=>by simp[iV]) trivial (λa ha=>I9 a ha) ?_)
  ·rw[SC];exact ag _ _ 0
  ·rw[SC];exact ag _ _ 1
  rw[CY (g:=uW w y q) (λ_ _=>rfl)];simp only[gv,SI];have hfx:(kH w i).foldl (uW w y q) (fo i)=fo (i+1):=by rw[vI,vI,yr]
  rw[hfx];have uo:SE.wrap ((i:Int)+1)=((i+1:Nat):Int):=by rw[bD _ (by omega)];rfl
  refine⟨.ready,none,_,_,_,_,_,_,_,by show (AO _++_)[N+3]?=_;rw[ag];rfl,by decide, ?_⟩;rw[show N+2+1=N+3 from rfl,tH,Gq];(try simp only[seval]);refine DZ ?_;refine aj ?_;simp only[seval,uo];refine⟨i+1, ?_,by omega,fW (by push_cast;simp only[seval];simp[bB,Wk.refl]) (by rw[pP,oV,SC];rfl),by rw[wK,hN]⟩;show p+1-(i+1)<p+1-i;omega
 ·have dK:i=p+1:=by omega
  subst dK;refine cq ?_;have HB:∀o,(AO o)[H.length+6]?=some (.cells [iv o] 3):=λo=>by have:=a6 o [];rwa [SI]at this
  have nJ:x.am.toNat=p:=by omega
  rw[nJ]at hk;have aI:=hk (fo (p+1)) (by rw[vI,hw]);generalize fo (p+1)=o at aI⊢;(try refine ng ?_);refine aj ?_;simp only[seval,HB];obtain⟨Y,vt⟩:=NG w (Bo o) (p+1) [];rw[SI,ba]at vt;have P_:iN (wK (H.length+7) (p+1)) (AO o)=some (H++([.cells x.l 26, .cells [iv s] 3, .cells [iv q] 3, .cells x.l 26, .cells [.sl 1 [iv q] .exact] 22, .cells w.l 76, .cells [iv o] 3]++Y)):=by rw[pP,vt,qW,SC]
  (try refine ng ?_);refine aC ?_;refine⟨λho=> ?_,λho=> ?_⟩
  ·have bf:o<0:=(by simpa using ho);rw[if_pos bf,if_pos bf]at aI;refine ak ?_;refine a_ ?_;refine eC P_ ?_;(try simp only[seval]);exact je hH (Wk.refl _) (by simp[iV,eK]) aI
  ·have bf:¬o<0:=(by simpa using ho);rw[if_neg bf,if_neg bf]at aI;refine aP ?_;refine HN ?_;have HB:∀o,(AO o)[H.length+6]?=some (.cells [iv o] 3):=λo=>(by have:=a6 o [];rwa [SI]at this);refine aj ?_;simp only[seval,HB];refine a_ ?_;refine eC P_ ?_;(try simp only[seval]);exact je hH (Wk.refl _) (by simp[iV,eK]) aI
end
open Go.Conc
section
variable (lv:Bool)(P:Program)
def ww (s:AS)(o:Oper)(next:AS->Prop):Prop:=match o.op with
 | .buildSlice t len parts=>an (qJ P t) λ(e,sz,z)=>len* sz<=2^24/\an (j9 s parts.toList) λl7=>an (oe (iz.at (.elems sz)) (gU z (len* sz)) l7) λl=>next ((⟨s.T,s.H++[.cells l e]⟩:AS).put o.dst (.bJ s.H.length 0 len len))
 | .call c=>match c.callee with
  | .builtin .append=>match c.args.toList,c.argTypes.toList with
   |[x,y],[t,t']=>an (jM P t t') λ(elem,sz,_)=>an (s.ev x) λa=>an (s.ev y) λb=>a.u5 λn l e=>e= .exact/\an (s.src sz b) λ(m,l')=>l.length=n* sz/\l'.length=m* sz/\n+m<=2^30/\0<m/\next ((⟨s.T,s.H++[.own sz (l++l') elem]⟩:AS).put o.dst (.bJ s.H.length 0 (n+m) 0))
   |_,_=>False
  |_=>False
 |_=>False
def qF (m:Nat):Nat->List Oper->AS->(AS->Prop)->(AV->AS->Prop)->Prop
 |_,[],s,K,_=>K s
 |k,o::rest,s,K,bad=>o.guard=none/\(bif k==m then ww P s o (λs'=>qF m (k+1) rest s' K bad)else mA lv P s o (λs'=>qF m (k+1) rest s' K bad) bad)
end
section
variable {lv:Bool}{P:Program}{r:Option Nat}{s:AS}
theorem ww.step{o:Oper}{next:AS->Prop}{bad:AV->AS->Prop}(h:ww P s o next):Step lv P r o s next bad:=by
 unfold ww at h;split at h
 ·rename_i t len parts ho;obtain⟨⟨e,sz,z⟩,h1,h2,h⟩:=h.out;obtain⟨l7,h3,h⟩:=h.out;obtain⟨l,h4,h⟩:=h.out;exact ab7 ho h1 h2 h3 h4 h
 ·rename_i c ho;split at h
  ·rename_i aX;split at h
   ·rename_i x y t t' ha di;obtain⟨⟨elem,sz,z⟩,h1,hA⟩:=h.out;obtain⟨a,h2,hB⟩:=hA.out;obtain⟨b,h3,hC⟩:=hB.out;obtain⟨n,l,e,e1,e0,hD⟩:=NH hC;subst e1 e0;obtain⟨⟨m,l'⟩,h4,h5,h6,h7,h8,h9⟩:=hD.out;exact ab5 ho aX (nf ha) (rT di) h1 h2 h3 h4 h5 h6 h7 h8 h9
   ·exact h.elim
  ·exact h.elim
 ·exact h.elim
theorem qF.abY{m:Nat}{K:AS->Prop}{bad:AV->AS->Prop}:∀(l:List Oper)(k:Nat)(s:AS),qF lv P m k l s K bad->AJ lv P r l s K bad
 |[],k,s,h=>h
 |o::rest,k,s,h=>by
  obtain⟨h1,h2⟩:=h;refine⟨h1, ?_⟩;have hs:∀{s'},qF lv P m (k+1) rest s' K bad->AJ lv P r rest s' K bad:=λ{s'} h=>qF.abY rest (k+1) s' h;cases hkm:(k==m)<;>rw[hkm]at h2<;>simp only[cond_true,cond_false]at h2
  rotate_left
  ·exact(ww.step h2).mono (λ_ h=>hs h) (λ_ _ h=>h)
  ·exact(mA.sound (r:=r) h2).mono (λ_ h=>hs h) (λ_ _ h=>h)
theorem aeJ{nt id:Nat}{ops:Array Oper}{Φ:ao->AS->Prop}(m:Nat)(hd:jS nt ops=true)(h:qF lv P m 0 ops.toList s (Φ .normal) (λpv s=>Φ (.panic pv) s)):aY lv P r nt (.region id ops false) s Φ:=aeK hd (h.abY ops.toList 0 s)
end
theorem adE:type_of% @ww.eq_1:=by intros;rw[ww.eq_1]
theorem amP:type_of% @qF.eq_1:=by intros;rw[qF.eq_1]
theorem amO:type_of% @qF.eq_2:=by intros;rw[qF.eq_2]
attribute [seval] adE amP amO
open Go.Proofs Go.Gg.Tk
namespace Tk
def fU:ai:=⟨10,3,2,[⟨2,⟨12,13⟩⟩],[⟨⟨10,12⟩,⟨0,1⟩⟩,⟨⟨11,11⟩,⟨0,2⟩⟩,⟨⟨12,15⟩,⟨1,2⟩⟩],[⟨⟨12,12⟩,⟨0,2⟩⟩,⟨⟨10,15⟩,⟨2,2⟩⟩]⟩
def s9:ai:={fU with aB:=[⟨⟨15,15⟩,⟨0,0⟩⟩,⟨⟨10,15⟩,⟨2,2⟩⟩]}
end Tk
theorem ac2:gU (Tw #[SG .i64 0,SG .i64 0,SG .i64 0]) 3=[iv 0,iv 0,iv 0]:=rfl
theorem ac1:gU (Tw #[SG .i64 0,SG .i64 0,SG .i64 0,SG .i64 0]) 12=TG 12 (iv 0):=rfl
theorem ac0:gU (Tw #[SG .i64 0,SG .i64 0,SG .i64 0,SG .i64 0]) 8=[iv 0,iv 0,iv 0,iv 0,iv 0,iv 0,iv 0,iv 0]:=rfl
theorem abo:TG 12 (iv 0)=[iv 0,iv 0,iv 0,iv 0,iv 0,iv 0,iv 0,iv 0,iv 0,iv 0,iv 0,iv 0]:=rfl
theorem aaY:(3<=2^24)=True:=eq_true (by decide)
theorem aaZ:(8<=2^24)=True:=eq_true (by decide)
theorem aaX:(12<=2^24)=True:=eq_true (by decide)
section
variable {lv:Bool}{H:List aa}{k kp:AV->List aa->Prop}
theorem wZ(hk:k fU.av H):bi lv SD 53 H [] k kp:=by
 refine bI (rs:=[.cell 0 26]) (nt:=11) Zt λhH hA=> ?_;simp only[bp,SS];refine ak ?_;refine ak ?_;refine aL ((Pd (a:=2) (b:=12) (c:=13) ?_));(try simp only[seval,Seen.av,Seen.l,jx.av,ac2,aaY]);refine aL ((qT (a:=10) (b:=12) (c:=0) (d:=1) ?_));(try simp only[seval]);refine aL ((qT (a:=11) (b:=11) (c:=0) (d:=2) ?_));(try simp only[seval]);refine aL ((qT (a:=12) (b:=15) (c:=1) (d:=2) ?_));(try simp only[seval,aG.av,aG.l,ac1,abo,aaX]);refine aL ((qT (a:=12) (b:=12) (c:=0) (d:=2) ?_));(try simp only[seval]);refine aL ((qT (a:=10) (b:=15) (c:=2) (d:=2) ?_));have aT:∀(L:List aa),(H++L)[H.length]?=L[0]?:=λL=>aS H L 0;have dV:∀(L:List aa)(y:aa),(H++L).set H.length y=H++L.set 0 y:=λL y=>de H L 0 y;(try simp only[seval,aG.av,aG.l,ac0,aaZ,aT,dV]);refine mI ?_;simp only[seval,aT];refine je hH (b:=fU.av) (M4 (.cons (Wk.refl _) (.cons (Wk.refl _) (.cons (Wk.refl _) (.cons (jw _ _ _) (.cons (jw _ _ _) (.cons (jw _ _ _) .nil))))))) (by rw[F1];trivial) hk
theorem ahr(hk:∀X:aa,k (.agg [iv 10,iv 3,iv 2, .sl 1 (fU.seen.flatMap Seen.l) .exact, .sl 3 (fU.pieces.flatMap aG.l) .exact, .bJ (H.length+1) 0 2 2]) (H++[X, .cells (fU.aB.flatMap aG.l) 48])):bi lv SD 53 H [] k kp:=by
 refine bI (rs:=[.cell 0 26]) (nt:=11) Zt λhH hA=> ?_;simp only[bp,SS];refine ak ?_
 (repeat apply iA);refine aeJ 8 (by kernel_rfl) ?_
 simp only[seval];refine aL ((Pd (a:=2) (b:=12) (c:=13) ?_));(try simp only[seval,Seen.av,Seen.l,jx.av,ac2,aaY]);refine aL ((qT (a:=10) (b:=12) (c:=0) (d:=1) ?_));(try simp only[seval]);refine aL ((qT (a:=11) (b:=11) (c:=0) (d:=2) ?_));(try simp only[seval]);refine aL ((qT (a:=12) (b:=15) (c:=1) (d:=2) ?_));(try simp only[seval,aG.av,aG.l,ac1,abo,aaX]);refine aL ((qT (a:=12) (b:=12) (c:=0) (d:=2) ?_));(try simp only[seval]);refine aL ((qT (a:=10) (b:=15) (c:=2) (d:=2) ?_));have aT:∀(L:List aa),(H++L)[H.length]?=L[0]?:=λL=>aS H L 0;have dV:∀(L:List aa)(y:aa),(H++L).set H.length y=H++L.set 0 y:=λL y=>de H L 0 y;(try simp only[seval,aG.av,aG.l,ac0,aaZ,aT,dV]);refine mI ?_;simp only[seval,aT];exact bY (hk _)
theorem ahs(hk:k s9.av H):bi lv SD 54 H [] k kp:=by
 refine bI (rs:=[.cell 0 26]) (nt:=8) Tryz.f54 λhH hA=> ?_;simp only[bp,SS];have bW:∀(L:List aa)(j:Nat),(H++L)[H.length+j]?=L[j]?:=λL j=>aS H L j;have jZ:∀(L:List aa)(j:Nat)(y:aa),(H++L).set (H.length+j) y=H++L.set j y:=λL j y=>de H L j y;have aT:∀(L:List aa),(H++L)[H.length]?=L[0]?:=λL=>aS H L 0;have dV:∀(L:List aa)(y:aa),(H++L).set H.length y=H++L.set 0 y:=λL y=>de H L 0 y;refine ak ?_;refine ak ?_;refine aL ((ahr (λX=> ?_)));simp only[SC,Vb,Up];have iB:∀(L:List aa),(H++L)[H.length+2]?=L[2]?:=λL=>aS H L 2;have fA:∀(L:List aa)(y:aa),(H++L).set (H.length+2) y=H++L.set 2 y:=λL y=>de H L 2 y;have za:∀(L:List aa),(H++L)[H.length+3]?=L[3]?:=λL=>aS H L 3;have pq:∀(L:List aa)(y:aa),(H++L).set (H.length+3) y=H++L.set 3 y:=λL y=>de H L 3 y;have hrx:fU.aB.flatMap aG.l=[iv 12,iv 12,iv 0,iv 2,iv 10,iv 15,iv 2,iv 2]:=rfl;rw[hrx];have e2:H.length+1+1=H.length+2:=rfl;(try simp only[seval,za,pq,e2]);refine eS 4 ?_;simp only[seval,iB,fA,za];refine iH _ (bT (qT (a:=15) (b:=15) (c:=0) (d:=0) ⟨rfl,rfl⟩)) ?_;(try simp only[seval,aG.av,aG.l,iB,fA]);obtain⟨rs,Ch⟩:∃rs,rs=s9.aB.flatMap aG.l:=⟨_,rfl⟩;have akz:[AV.val (SG SE 15),AV.val (SG SE 15),AV.val (SG SE 0),AV.val (SG SE 0),AV.val (SG SE 10),AV.val (SG SE 15),AV.val (SG SE 2),AV.val (SG SE 2)]=rs:=by rw[Ch];rfl
 have um:rs.length=8:=by rw[Ch];rfl
 rw[akz];refine aj ?_;simp only[seval,aT,dV,za]
 (repeat apply iA);refine HL (id:=H.length+2) (by simp only[seval,iB]<;>rfl) ?_
 simp only[seval,fA,um]
 (repeat apply iA);refine aeP (id:=H.length) (j:=5) (y:=bk s9.aB) (by simp only[seval,aT]<;>rfl) rfl ?_ ?_
 ·have e:bk s9.aB= .sl 2 (rs.take 8) .shut:=by rw[SW (by omega),Ch];rfl
  rw[e];exact M3 (p:=8) (by simp only[seval,iB]<;>rfl) (by omega) (by omega)
 (try simp only[seval,dV]);refine mI ?_;simp only[seval,aT];refine je hH (b:=s9.av) (M4 (.cons (Wk.refl _) (.cons (Wk.refl _) (.cons (Wk.refl _) (.cons (jw _ _ _) (.cons (jw _ _ _) (.cons (Wk.refl _) .nil))))))) (by rw[F1];trivial) hk
end
open Go.Gg.Tk
theorem xY:fU.Ok:=by
 refine⟨by decide,by decide,by decide,by decide,by decide,by decide,λs hs=> ?_,λy hy=> ?_,λy hy=> ?_⟩
 ·simp only[fU,S5]at hs;subst hs;exact⟨by decide,by decide,by decide,by decide⟩
 ·simp only[fU,SK,SU,or_false]at hy;rcases hy with rfl|rfl|rfl<;>exact⟨⟨by decide,by decide,by decide⟩,⟨by decide,by decide,by decide⟩⟩
 ·simp only[fU,SK,SU,or_false]at hy;rcases hy with rfl|rfl<;>exact⟨⟨by decide,by decide,by decide⟩,⟨by decide,by decide,by decide⟩⟩
theorem amQ:s9.Ok:=by
 refine⟨by decide,by decide,by decide,by decide,by decide,by decide,λs hs=> ?_,λy hy=> ?_,λy hy=> ?_⟩
 ·simp only[s9,fU,S5]at hs;subst hs;exact⟨by decide,by decide,by decide,by decide⟩
 ·simp only[s9,fU,SK,SU,or_false]at hy;rcases hy with rfl|rfl|rfl<;>exact⟨⟨by decide,by decide,by decide⟩,⟨by decide,by decide,by decide⟩⟩
 ·simp only[s9,SK,SU,or_false]at hy;rcases hy with rfl|rfl<;>exact⟨⟨by decide,by decide,by decide⟩,⟨by decide,by decide,by decide⟩⟩
theorem agL:cnt fU=4:=by kernel_rfl
theorem agO:live fU=[[10,11,13,14],[10,11,13,15],[10,12,13,14],[10,12,13,15]]:=by kernel_rfl
theorem agM:(cg fU).head?=some ⟨[10,11,13,14],[12,11,13],[0,2]⟩:=by kernel_rfl
theorem agP:wP (CO fU 2) 10 16=[13,14]:=by kernel_rfl
theorem O3:s_ fU 0 0=true/\CS fU 0 0=false:=by decide+kernel
theorem O1:Ej s9=some [0]:=by kernel_rfl
theorem agJ:yr (fU.wo [1]) ⟨⟨10,15⟩,⟨2,2⟩⟩ 0 3=1:=by kernel_rfl
end Go.Gg
