/- A part of the proof. -/
import Derived.Test.YtkanpclgnhdbiaaGreatDoorTicketFirstCard3
set_option linter.all false
set_option maxRecDepth 4000
set_option maxHeartbeats 4000000
open Array renaming getD_eq_getD_getElem?->SH,getElem?_eq_getElem->SJ,getElem?_eq_some_iff->SR,getElem?_modify->Wn,getElem_mem->XX,replicate->TP
open Bool renaming and_eq_true->Tg,and_false->WH,and_self->af',eq_iff_iff->Vh,false_and->Vq,false_or->ZD,not_eq_true'->T4,true_and->UP
open Classical renaming byContradiction->Tv
open Function renaming comp_apply->Wm
open Go renaming Code->Ub,Oper->Tx,Program->SI,Value->SQ
open Go.IntKind renaming i64->SD,u16->S6
open Go.Obj renaming deferred->avA
open Go.Proofs.Tryz renaming f15->WW,f34->ZT,f39->ar_,f49->aq',f53->aq_,prog->SA
open Go.Region renaming linearise->Zf,schedule->VP,wanted->Ti
open Go.Region.linearise renaming go->UM
open Go.Value renaming agg->TA,int->SF,slice->TL
open Int renaming le_refl->Xr,le_trans->XJ,mul_le_mul->Yh,toNat->Yb,toNat_natCast->VI
open List renaming all_eq_true->Tw,any_append->ZI,any_cons->YU,any_eq_true->UO,append_assoc->SC,append_eq_nil_iff->YC,append_nil->SO,cons_append->Vp,contains_append->YS,contains_eq_mem->Ut,contains_iff_mem->YI,countP_le_length->Y7,drop->T5,drop_append->VA,drop_append_of_le_length->Wt,drop_drop->ap_,drop_eq_getElem_cons->TY,drop_of_length_le->W2,drop_zero->XD,eq_nil_of_length_eq_zero->UI,exists_mem_of_ne_nil->Yg,ext_getElem?->Yp,filter_append->ZR,filter_congr->Ve,filter_cons->ZQ,filter_eq_nil_iff->YR,flatMap_append->Un,flatMap_assoc->Zy,flatMap_cons->T1,flatMap_def->WU,flatMap_eq_nil_iff->WT,flatMap_map->VO,foldl_append->Ya,foldl_cons->UY,forall_mem_cons->US,getD_cons_succ->Xk,getD_cons_zero->Xq,getD_eq_getElem?_getD->SE,getElem?_append_left->SY,getElem?_append_right->S_,getElem?_drop->Us,getElem?_eq_getElem->SX,getElem?_eq_none->Ux,getElem?_eq_some_iff->SN,getElem?_map->To,getElem?_of_mem->U6,getElem?_range->XC,getElem?_set->UV,getElem?_set_ne->Uc,getElem?_take->Uj,getElem_mem->Ww,getLast?_eq_getElem?->Yv,getLastD_cons->Zx,getLastD_eq_getLast?->Vv,head?_append->WS,head?_cons->ZZ,length->Ze,length_append->SL,length_cons->Ui,length_drop->Ur,length_eraseIdx_of_lt->X_,length_map->Ta,length_nil->UA,length_pos_iff->VW,length_range->ZY,length_replicate->YH,length_set->TJ,length_singleton->TG,length_take->TC,map->Vf,map_append->Tn,map_congr_left->VF,map_cons->U5,map_flatMap->VE,map_map->WR,map_take->Wa,mem_append->SS,mem_append_left->Th,mem_append_right->S4,mem_cons->SK,mem_cons_of_mem->Td,mem_cons_self->TF,mem_filter->Uy,mem_flatMap->S5,mem_iff_getElem?->UW,mem_map->Tm,mem_of_getElem?->S8,mem_of_mem_take->VQ,mem_or_eq_of_mem_set->UF,mem_range->TW,mem_reverse->XN,mem_singleton->S9,nil_append->UN,nodup_append->Vd,nodup_cons->VX,nodup_iff_pairwise_ne->Uv,nodup_nil->WQ,nodup_range->X0,not_mem_nil->SZ,pairwise_iff_getElem->Ye,pairwise_map->XA,range->S0,range'->Ug,range'_succ->VU,range_eq_range'->Vw,range_succ->U4,range_zero->ZG,replicate->TM,reverse_cons->Zo,set_append_left->UX,set_append_right->Ud,set_cons_succ->UK,set_cons_zero->T9,set_eq_take_append_cons_drop->XQ,take->Uh,take_add_one->Uq,take_append_drop->Vr,take_append_of_le_length->TB,take_eq_nil_iff->YP,take_length->Tp,take_of_length_le->SV,take_set->ab_,take_sublist->Zn,take_succ_cons->VZ,take_succ_eq_append_getElem->Vs,take_take->U9,take_zero->Za
open List.Nodup renaming sublist->Yq
open List.Pairwise renaming imp->ab',imp_of_mem->Xy
open List.Perm renaming nodup_iff->as',refl->ag'
open List.cons renaming injEq->YT
open Nat renaming add_assoc->U7,add_comm->apT,add_sub_cancel->Wh,add_sub_cancel_left->TZ,add_zero->UJ,eq_zero_or_pos->UL,le_refl->SP,le_trans->TV,lt_or_ge->YG,lt_succ_self->Uz,min_eq_left->WB,pow_le_pow_right->UZ,reduceAdd->SU,reduceSub->Yu,sub_self->Vl,sub_zero->Z8,succ_mul->XG,testBit_or->Xp,testBit_two_pow->VT,zero_add->Wv,zero_le->XY,zero_testBit->ZE
open Option renaming getD_some->S7,map_some->UU
open Option.some renaming injEq->Tl
namespace Go.Gg
open Go.Conc Go.Proofs Go.Gg.Tk
namespace Tk
def aB.more (y:aB)(n:Int):aB:=⟨⟨y.number.min+n,y.number.max+n⟩,y.hour⟩
def ku (h:List Int)(n:Int):Nat->Int
 |0=> -1
 |i+1=>if h.getD i 0<=n/\n<h.getD (i+1) 0 then i else ku h n i
end Tk
section
variable {lv:Bool}{H:List aa}{k kp:AV->List aa->Prop}
theorem aiZ{a b:Int}(hk:k (.agg [iv a,iv b]) H):bc lv SA 24 H [iv a,iv b] k kp:=by
 refine bD (rs:=[.cell 4 46]) (nt:=8) Tryz.f24 λhH hA=> ?_;simp only[bk,SU];refine aj ?_;refine aj ?_;refine aZ ?_;exact iH hH (Wk.refl _) (by simp[ul,ec]) hk
theorem Rh{a b c:Int}(hk:k (Seen.av ⟨a,⟨b,c⟩⟩) H):bc lv SA 78 H [iv a,iv b,iv c] k kp:=by
 refine bD (rs:=[.cell 6 61]) (nt:=12) Tryz.f78 λhH hA=> ?_;simp only[bk,SU];refine aj ?_;refine aj ?_;refine aZ ?_;exact iH hH (Wk.refl _) (by simp[ul,ec]) hk
theorem rP{a b c d:Int}(hk:k (aB.av ⟨⟨a,b⟩,⟨c,d⟩⟩) H):bc lv SA 79 H [iv a,iv b,iv c,iv d] k kp:=by
 refine bD (rs:=[.cell 8 48]) (nt:=16) Tryz.f79 λhH hA=> ?_;simp only[bk,SU];refine aj ?_;refine aj ?_;refine aZ ?_;exact iH hH (Wk.refl _) (by simp[ul,ec]) hk
theorem Rc{h:List Int}{n:Int}{e:End}(hl:h.length<=4)(hk:k (iv (ku h n (h.length-1))) H):bc lv SA 40 H [.sl h.length (h.map iv) e,iv n] k kp:=by
 refine bD (rs:=[.tmp 4]) (nt:=31) Tryz.f40 λhH hA=> ?_;simp only[bk,SU];refine aj ?_;refine aj ?_;refine aj ?_;refine bU ?_;refine eI (h.length-1) (λi:Nat=>[(5,iv (ku h n i)),(6,iv i)]) (λ_=>_) (λi=>True) (λ_ _=>rfl) (by simp only[seval];simp[a_,Wk.refl];exact Wk.refl _) rfl (λ_ _ _=>rfl) trivial (λbC bW i cK _ R hR=> ?_);have fW:SD.wrap ((i:Int)+1)=((i+1:Nat):Int):=by rw[br _ (by omega)];rfl
 refine ah ?_;simp only[seval,fW];refine aD ?_;refine⟨λhc=> ?_,λhc=> ?_⟩
 ·have bx:i+1<h.length:=by omega
  obtain⟨a,ha⟩:=bK (xs:=h) (i:=i) (by omega);obtain⟨b,hb⟩:=bK (xs:=h) (i:=i+1) bx;have gw:h.getD i 0=a:=by rw[SE,ha];rfl
  have dI:h.getD (i+1) 0=b:=by rw[SE,hb];rfl
  have fu:=jh (show i<h.length by omega);have lZ:(0<=(i:Int)+1/\(i:Int)+1<(h.length:Int))=True:=by simp;omega
  have mc:((i:Int)+1).toNat=i+1:=by omega
  have cT:ku h n (i+1)=if a<=n/\n<b then(i:Int)else ku h n i:=by rw[ku,gw,dI]
  refine aK ?_;refine bU ?_;by_cases c1:a<=n
  ·have d1:decide (a<=n)=true:=decide_eq_true c1;by_cases c2:n<b
   ·have d2:decide (n<b)=true:=decide_eq_true c2;refine ah ?_;simp only[seval,eg ha,eg hb,fu,lZ,mc,d1,d2,fW];refine aD ?_;refine aj ?_;refine ah ?_;simp only[seval,fW];rw[if_pos ⟨c1,c2⟩]at cT;refine hR _ ⟨by omega,trivial,?_⟩;rw[cT];exact cz
   ·have d2:decide (n<b)=false:=decide_eq_false c2;refine ah ?_;simp only[seval,eg ha,eg hb,fu,lZ,mc,d1,d2,fW];refine aD ?_;refine aK ?_;refine ah ?_;simp only[seval,fW];rw[if_neg (λhh=>c2 hh.2)]at cT;refine hR _ ⟨by omega,trivial,?_⟩;rw[cT];exact cz
  ·have d1:decide (a<=n)=false:=decide_eq_false c1;refine ah ?_;simp only[seval,eg ha,fu,d1];refine aD ?_;refine aK ?_;refine ah ?_;simp only[seval,fW];rw[if_neg (λhh=>c1 hh.1)]at cT;refine hR _ ⟨by omega,trivial,?_⟩;rw[cT];exact cz
 ·have dD:i=h.length-1:=by omega
  subst dD;refine bR ?_;refine aj ?_;refine aZ ?_;exact b8 hk
end
open Go.Conc Go.Proofs Go.Gg.Tk
namespace Tk
def F7 (h:List Int)(y:aB)(n:Int):Bool:=decide (ku h n (h.length-1)>=0)&&(decide (n>=y.number.min)&&(decide (n<=y.number.max)&&(decide (ku h n (h.length-1)>=y.hour.min)&&decide (ku h n (h.length-1)<=y.hour.max))))
end Tk
section
variable {lv:Bool}{H:List aa}{k kp:AV->List aa->Prop}
theorem Ke{h:List Int}{y:aB}{n:Int}{e:End}(hl:h.length<=4)(hk:k (bv (F7 h y n)) H):bc lv SA 30 H [.sl h.length (h.map iv) e,y.av,iv n] k kp:=by
 refine bD (rs:=[.tmp 6]) (nt:=41) Tryz.f30 λhH hA=> ?_;simp only[bk,SU,aB.av];have aS:∀(L:List aa),(H++L)[H.length]?=L[0]?:=λL=>aW H L 0;unfold F7 at hk;refine ah ?_;simp only[seval,aB.l];refine aj ?_;refine aH ((Rc (h:=h) (n:=n) hl ?_));generalize ku h n (h.length-1)=tk at hk⊢;(try simp only[seval]);by_cases c1:tk>=0
 ·have d1:decide (tk>=0)=true:=decide_eq_true c1;by_cases c2:n>=y.number.min
  ·have d2:decide (n>=y.number.min)=true:=decide_eq_true c2;by_cases c3:n<=y.number.max
   ·have d3:decide (n<=y.number.max)=true:=decide_eq_true c3;by_cases c4:tk>=y.hour.min
    ·have d4:decide (tk>=y.hour.min)=true:=decide_eq_true c4;by_cases c5:tk<=y.hour.max
     ·have d5:decide (tk<=y.hour.max)=true:=decide_eq_true c5;refine ah ?_;simp only[seval,aS,d1,d2,d3,d4,d5];refine aZ ?_;rw[d1,d2,d3,d4,d5]at hk;exact jj hH hk
     ·have d5:decide (tk<=y.hour.max)=false:=decide_eq_false c5;refine ah ?_;simp only[seval,aS,d1,d2,d3,d4,d5];refine aZ ?_;rw[d1,d2,d3,d4,d5]at hk;simp only[WH,Vq,UP]at hk;exact jj hH hk
    ·have d4:decide (tk>=y.hour.min)=false:=decide_eq_false c4;refine ah ?_;simp only[seval,aS,d1,d2,d3,d4];refine aZ ?_;rw[d1,d2,d3,d4]at hk;simp only[WH,Vq,UP]at hk;exact jj hH hk
   ·have d3:decide (n<=y.number.max)=false:=decide_eq_false c3;refine ah ?_;simp only[seval,aS,d1,d2,d3];refine aZ ?_;rw[d1,d2,d3]at hk;simp only[WH,Vq,UP]at hk;exact jj hH hk
  ·have d2:decide (n>=y.number.min)=false:=decide_eq_false c2;refine ah ?_;simp only[seval,aS,d1,d2];refine aZ ?_;rw[d1,d2]at hk;simp only[WH,Vq,UP]at hk;exact jj hH hk
 ·have d1:decide (tk>=0)=false:=decide_eq_false c1;refine ah ?_;simp only[seval,aS,d1];refine aZ ?_;rw[d1]at hk;simp only[WH,Vq,UP]at hk;exact jj hH hk
end
open Go.Conc Go.Proofs Go.Gg.Tk
def wF (τ:bh)(ns:List Int):Int:=ns.getD (dg τ (ns.length-1)).toNat 0
section
variable {lv:Bool}{H:List aa}{k kp:AV->List aa->Prop}{Gf:bh->List aa}{t N:Nat}{τ:bh}{b:Int}
theorem Kf{ns:List Int}{e:End}(hT:dO Gf t N)(hτ:τ.Ok b)(hb:b<2^60)(hn:1<=ns.length)(iY:ns.length<2^20)(hk:k (iv (wF τ ns)) (Gf (tick τ))):bc lv SA 45 (Gf τ) [.op t 0,.sl ns.length (ns.map iv) e] k kp:=by
 refine bD (rs:=[.tmp 4]) (nt:=13) Tryz.f45 λhH hA=> ?_;simp only[bk,SU];have bJ:SD.wrap ((ns.length:Int)-1)=(ns.length:Int)-1:=br _ (by omega);have hr:=lS τ ((ns.length:Int)-1);unfold wF at hk;obtain⟨j,hj⟩:=Int.eq_ofNat_of_zero_le hr.1;have dP:j<ns.length:=by omega
 obtain⟨v,hv⟩:=bK dP;rw[hj]at hk;have yV:ns.getD ((j:Int)).toNat 0=v:=by rw[VI,SE,hv];rfl
 rw[yV]at hk;refine aj ?_;refine ah ?_;simp only[seval,bJ];refine aH ((pF hT hτ hb (by omega) ?_));rw[hj];(try simp only[seval,eg hv,jh dP]);refine aZ ?_;exact b8 hk
end
def nH (τ:bh)(n m lo hi:Int):iS:=⟨max lo (n-dg τ m),min hi (n+dg (tick τ) m)⟩
def lY (τ:bh)(h:List Int)(n hours:Int):aB:=⟨nH τ n 2 0 99,nH (tick (tick τ)) (ku h n (h.length-1)) 1 0 (hours-1)⟩
section
variable {lv:Bool}{k kp:AV->List aa->Prop}{Gf:bh->List aa}{t N:Nat}{τ:bh}{b:Int}
theorem Kg{n m lo hi:Int}(hT:dO Gf t N)(hτ:τ.Ok b)(hb:b<2^30)(hn: -1000<=n/\n<=1000)(hm:0<=m/\m<=3)(hk:k (nH τ n m lo hi).av (Gf (tick (tick τ)))):bc lv SA 48 (Gf τ) [.op t 0,iv n,iv m,.agg [iv lo,iv hi]] k kp:=by
 refine bD (rs:=[.cell 8 46]) (nt:=26) Tryz.f48 λhH hA=> ?_;simp only[bk,SU];have oO:dO (λτ=>Gf τ++[.cells [iv lo,iv hi] 46,.cells [iv 0,iv 0] 46]) t (N+2):=hT.more [_,_];have r1:=lS τ m;have r2:=lS (tick τ) m;have bJ:SD.wrap (n-dg τ m)=n-dg τ m:=br _ (by omega);have eS:SD.wrap (n+dg (tick τ) m)=n+dg (tick τ) m:=br _ (by omega);have Dp:(if lo<n-dg τ m then n-dg τ m else lo)=max lo (n-dg τ m):=by split<;>omega
 have n3:(if n+dg (tick τ) m<hi then n+dg (tick τ) m else hi)=min hi (n+dg (tick τ) m):=by split<;>omega
 refine aj ?_;refine nI [5,13,17] [0,1,2,3,4,5,6,7,8,9,10,11,12,13,14,15,16,17] [⟨0,false,[],[([5],[5]),([5,13],[5,13])]⟩,⟨1,false,[],[([5],[5]),([5,13],[5,13])]⟩,⟨2,false,[],[([5],[5]),([5,13],[5,13])]⟩,⟨3,false,[],[]⟩,⟨4,false,[],[]⟩,⟨5,true,[5],[]⟩,⟨6,false,[5],[([5,13],[5,13])]⟩,⟨7,false,[5],[([5,13],[5,13])]⟩,⟨8,false,[5],[([],[]),([5,13],[5,13])]⟩,⟨9,false,[5],[([],[]),([5,13],[5,13])]⟩,⟨10,false,[5],[([],[]),([5,13],[5,13])]⟩,⟨11,false,[5],[([],[])]⟩,⟨12,false,[5],[([],[])]⟩,⟨13,true,[5,13],[]⟩,⟨14,false,[5,13],[]⟩,⟨15,false,[5,13],[]⟩,⟨16,false,[5,13],[]⟩,⟨17,true,[5,13,17],[]⟩] (λD=>bif isDone 17 D then Gf (tick (tick τ))++[.cells [iv lo,iv hi] 46,.cells [iv (max lo (n-dg τ m)),iv (min hi (n+dg (tick τ) m))] 46]else bif isDone 13 D then Gf (tick (tick τ))++[.cells [iv lo,iv hi] 46,.cells [iv 0,iv 0] 46]else bif isDone 5 D then Gf (tick τ)++[.cells [iv lo,iv hi] 46,.cells [iv 0,iv 0] 46]else Gf τ++[.cells [iv lo,iv hi] 46,.cells [iv 0,iv 0] 46]) ?_;simp only[seval,hT.len,hT.g0,hT.g1,hT.g2,hT.g3,hT.h2,hT.h3,hT.s0,hT.s1,hT.s2,hT.s3,hT.t2,hT.t3,bJ,eS,Dp,n3];refine kz _ _ (cC (pF (oO) hτ (by omega) (by omega) ⟨rfl,rfl⟩)) ?_;(try simp only[seval,hT.len,hT.g0,hT.g1,hT.g2,hT.g3,hT.h2,hT.h3,hT.s0,hT.s1,hT.s2,hT.s3,hT.t2,hT.t3,bJ,eS,Dp,n3]);refine kz _ _ (cC (pF (oO) hτ.tick (by omega) (by omega) ⟨rfl,rfl⟩)) ?_;(try simp only[seval,hT.len,hT.g0,hT.g1,hT.g2,hT.g3,hT.h2,hT.h3,hT.s0,hT.s1,hT.s2,hT.s3,hT.t2,hT.t3,bJ,eS,Dp,n3]);refine pC ?_;simp only[seval,hT.len,hT.g0,hT.g1,hT.g2,hT.g3,hT.h2,hT.h3,hT.s0,hT.s1,hT.s2,hT.s3,hT.t2,hT.t3];exact jI (b:=(nH τ n m lo hi).av) (H':=Gf (tick (tick τ))) (Wk.refl _) rfl (by simp[hT.len]) (hT.aq hH _) (by simp[iS.av,iS.l,ul,ec]) hk
theorem Rd{h:List Int}{n hours:Int}{e:End}(hT:dO Gf t N)(hτ:τ.Ok b)(hb:b<2^20)(hl:h.length<=4)(hn: -1000<=n/\n<=1000)(hh:1<=hours/\hours<=3)(qY: -1<=ku h n (h.length-1)/\ku h n (h.length-1)<=4)(hk:k (lY τ h n hours).av (Gf (tick (tick (tick (tick τ)))))):bc lv SA 47 (Gf τ) [.op t 0,.sl h.length (h.map iv) e,iv n,iv hours] k kp:=by
 refine bD (rs:=[.cell 8 48]) (nt:=22) Tryz.f47 λhH hA=> ?_;simp only[bk,SU];have vc:∀o:aa,dO (λτ=>Gf τ++[o]) t (N+1):=λo=>hT.more [o];have bJ:SD.wrap (hours-1)=hours-1:=br _ (by omega);refine aj ?_;refine ah ?_;simp only[seval,bJ];refine aH ((Kg (n:=n) (m:=2) (lo:=0) (hi:=99) (vc _) hτ (by omega) hn (by decide) ?_));(try simp only[seval]);refine aH ((Rc (h:=h) (n:=n) hl ?_));(try simp only[seval,bJ]);refine aH ((Kg (n:=ku h n (h.length-1)) (m:=1) (lo:=0) (hi:=hours-1) (vc _) hτ.tick.tick (by omega) (by omega) (by decide) ?_));(try simp only[seval,hT.len,hT.g0,hT.g1,hT.g2,hT.g3,hT.h2,hT.h3,hT.s0,hT.s1,hT.s2,hT.s3,hT.t2,hT.t3,iS.av,iS.l]);refine pC ?_;simp only[seval,hT.len,hT.g0,hT.g1,hT.g2,hT.g3,hT.h2,hT.h3,hT.s0,hT.s1,hT.s2,hT.s3,hT.t2,hT.t3];exact jI (b:=(lY τ h n hours).av) (H':=Gf (tick (tick (tick (tick τ))))) (Wk.refl _) rfl (by simp[hT.len]) (hT.aq hH _) (by simp[aB.av,aB.l,ul,ec]) hk
end
end Go.Gg
namespace Go.Gg.Tk
def qt:List Int->Prop
 |a::b::l=>a<=b/\qt (b::l)
 |_=>True
theorem aeg{h:List Int}{n:Int}(hl:2<=h.length)(oY:h.length<=4)(hm:qt h):ku h n (h.length-1)=jz h n:=by
 match h,hl,oY,hm with
 |[a,b],_,_,hm=>
  simp only[jz,fG,ku,Ui,UA,Xq,Xk,SU,Yu]
 |[a,b,c],_,_,hm=>
  obtain⟨h1,h2,_⟩:=hm;simp only[jz,fG,ku,Ui,UA,Xq,Xk,SU,Yu];split<;>split<;>first|rfl|omega
 |[a,b,c,d],_,_,hm=>
  obtain⟨h1,h2,h3,_⟩:=hm;simp only[jz,fG,ku,Ui,UA,Xq,Xk,SU,Yu];split<;>split<;>first|rfl|omega|(split<;>first|rfl|omega)
theorem Rq{h:List Int}{y:aB}{n:Int}(hl:2<=h.length)(oY:h.length<=4)(hm:qt h):F7 h y n=fits h y n:=by
 unfold F7 fits gT;rw[aeg hl oY hm,Vh];simp only[Tg,decide_eq_true_eq,ge_iff_le];constructor
 ·rintro⟨a,b,c,d,e⟩;exact⟨⟨a,b,c⟩,d,e⟩
 ·rintro⟨⟨a,b,c⟩,d,e⟩;exact⟨a,b,c,d,e⟩
end Go.Gg.Tk
namespace Go.Gg
open Go.Conc
section
variable {lv:Bool}{P:SI}{r:Option Nat}{o:Tx}{s:AS}{next:AS->Prop}{bad:AV->AS->Prop}
end
section
variable (lv:Bool)(P:SI)(r:Option Nat)
def B9:List Tx->AS->(AS->Prop)->(AV->AS->Prop)->Prop
 |[],s,K,_=>K s
 |o::rest,s,K,bad=>o.guard=none/\Step lv P r o s (λs'=>B9 rest s' K bad) bad
end
section
variable {lv:Bool}{P:SI}{r:Option Nat}{s:AS}
theorem adz{nt:Nat}{all:Array Tx}{Φ:an->AS->Prop}(dx:∀o∈all,∀d,o.dst=some d->d<nt)(nW:∀o∈all,r=none\/mL o.op=false):∀(n k:Nat)(s:AS),k+n=all.size->B9 lv P r (all.toList.drop k) s (Φ .normal) (λpv s=>Φ (.panic pv) s)->
  ∀(E:Env)(V:View)(a:Act)(Q:Ex->Act->View->Prop),At E V s a nt->(∀ae e E' V' a' s',Kept E E' V V' a a'->At E' V' s' a' nt->qn E' ae e->Φ ae s'->Q e a' V')->dq lv P r all Q (Ug k n) a V
 |0,k,s,hk,h,E,V,a,Q,ai,hQ=>by
  have:all.toList.drop k=[]:=by simp;omega
  rw[this]at h;exact hQ .normal .normal E V a s (Kept.refl E V a) ai trivial h
 |n+1,k,s,hk,h,E,V,a,Q,ai,hQ=>by
  have hlt:k<all.size:=by omega
  have hd:all.toList.drop k=all[k]::all.toList.drop (k+1):=by
   rw[TY (by simpa using hlt)];simp
  rw[hd]at h;have fL:all[k]∈all:=XX hlt;have ho:all[k]?=some all[k]:=SJ hlt;simp only[VU,dq,ho];obtain⟨hg,h⟩:=h;have hw:Ti all[k] (yielded all a.tmps)=true:=by unfold Ti;rw[hg]
  rw[if_pos hw];refine .inl (h E V a _ Q ai.bw ai.tok (λd e=>by rw[ai.size];exact dx _ fL d e) (nW _ fL) (λE' V' a' s' aJ bp mJ hn=> ?_) (λE' V' s' pv v aJ bp mJ bt hb=> ?_))
  ·exact adz dx nW n (k+1) s' (by omega) hn E' V' a' Q ⟨bp,mJ,aJ.size.trans ai.size⟩ (λae e bT aU cw dn fY di he hΦ=>hQ ae e bT aU cw dn (aJ.trans fY) di he hΦ)
  ·exact hQ (.panic pv) (.panic _) E' V' a s' aJ ⟨bp,mJ,ai.size⟩ ⟨v,rfl,bt⟩ hb
theorem agt{nt id:Nat}{ops:Array Tx}{Φ:an->AS->Prop}(hd:j9 nt ops=true)(h:B9 lv P r ops.toList s (Φ .normal) (λpv s=>Φ (.panic pv) s)):aQ lv P r nt (.region id ops false) s Φ:=by
 intro E V a Q ai hQ;refine wp_region ?_;rw[Vw];exact adz (Φ:=Φ) (λo ho d e=>(j9.out hd ho).1 d e) (λo ho=> .inr (j9.out hd ho).2) ops.size 0 s (by omega) (by simpa using h) E V a Q ai hQ
end
section
variable {lv:Bool}{P:SI}{r:Option Nat}{o:Tx}{s:AS}{next:AS->Prop}{bad:AV->AS->Prop}
theorem Jn{nt id:Nat}{c:Ub}{l:List AV}{el:TypeId}{Φ:an->AS->Prop}(bZ:s.H[id]?=some (.cells l el))(h:aQ lv P r nt c ⟨s.T,s.H.set id (.part l.length l el)⟩ Φ):aQ lv P r nt c s Φ:=λE V a Q ai hQ=>by
 have hc:=ai.bw;obtain⟨⟨cs,eE,hd⟩,lE⟩:=hc.obj id _ bZ;have g:d_ V (V.eT (E.blk id) cs (λo=>decide (o<l.length))):=yj eE (λo _=>lE o);refine WP.ghost g ?_;have hI:∀b o v,E.I b o=some v->(V.eT (E.blk id) cs (λo=>decide (o<l.length))).ab b o=some v:=λb o v e=>by
  rw[hc.I]at e;have hb:b≠E.blk id:=λhb=>by rw[hb,lE]at e;cases e
  simp only[View.eT];rw[if_neg (λx=>hb x.1)];exact e
 have hle:E.Le {E with I:=(V.eT (E.blk id) cs (λo=>decide (o<l.length))).ab}:=⟨hI,SP _,λ_ _=>rfl,λ_ _=>SP _,λ_ _ _ _=>rfl,rfl,rfl⟩;have cq:Conc {E with I:=(V.eT (E.blk id) cs (λo=>decide (o<l.length))).ab} (V.eT (E.blk id) cs (λo=>decide (o<l.length))) (s.H.set id (.part l.length l el)):=by
  refine hc.iQ id _ hle rfl (by rw[TJ];exact hc.n) lM rfl (λ_ _ _=>rfl) (λb y fD hy=>⟨hy,λo=> ?_⟩) ⟨⟨cs,eE,(hd.mono hle).p,λo ho=> ?_⟩,λo ho=> ?_⟩ (λb hb=> .inl ⟨_,bZ,hb⟩)
  ·have hb:b≠E.blk id:=λhb=>fD _ bZ (by rw[hb];rfl);simp only[View.eT];rw[if_neg (λx=>hb x.1)]
  ·simp only[View.eT];rw[if_pos ⟨trivial,by simpa using ho⟩]
  ·simp only[View.eT];rw[if_neg (λx=>by have:=x.2;simp at this;omega)];exact lE o
 exact h _ _ a Q ⟨cq,ai.tok.mono hle,ai.size⟩ λae e E' aU a' s' hk=>hQ ae e E' aU a' s' ((⟨hle,rfl,rfl,rfl,rfl⟩:Kept E _ V (V.eT (E.blk id) cs (λo=>decide (o<l.length))) a a).trans hk)
def zY (H:List aa)(b a:AV):Prop:=∀E V v,Conc E V H->ap E b v->ap E a v
theorem zY.of{H:List aa}{b a:AV}(h:Wk b a):zY H b a:=λE _ v _ d=>h E v d
theorem IH{H:List aa}{id n cap m p:Nat}{l:List AV}{el:TypeId}(bZ:H[id]?=some (.part p l el))(hm:m<=p)(hp:p<=l.length):zY H (.bz id 0 n cap) (.sl n (l.take m) .shut):=λE V v hc hd=>by
 cases hd with
 |bz hi dU=>
  rename_i cap';obtain⟨⟨cs,ho,GA,vp⟩,_⟩:=hc.obj id _ bZ;refine .sl (E.blk id) 0 cap' (λi=>cs.getD i undef) dU.1 trivial (λi cG=> ?_) (λi x hx=> ?_)
  ·rw[TC]at cG;have hlt:i<cs.size:=(by have:=GA.1;omega);rw[hc.I,Wv,vp i (by omega),SH,SJ hlt];rfl
  ·rw[Uj]at hx;split at hx
   ·exact GA.2 i x hx
   ·cases hx
theorem Jo{nt id j:Nat}{c:Ub}{l:List AV}{x y:AV}{el:TypeId}{Φ:an->AS->Prop}(bZ:s.H[id]?=some (.cells l el))(hj:l[j]?=some x)(hw:zY s.H x y)(h:aQ lv P r nt c ⟨s.T,s.H.set id (.cells (l.set j y) el)⟩ Φ):aQ lv P r nt c s Φ:=λE V a Q ai hQ=>by
 have hc:=ai.bw;obtain⟨⟨cs,eE,hd⟩,lE⟩:=hc.obj id _ bZ;have cq:Conc E V (s.H.set id (.cells (l.set j y) el)):=
  hc.iQ id _ (Env.Le.refl _) hc.I (by rw[hc.n,TJ]) lM rfl (λ_ _ _=>rfl) (λb y _ hy=>⟨hy,λ_=>rfl⟩) ⟨⟨cs,eE,Qz hd hj (λv d=>hw E V v hc d)⟩,lE⟩ (λb dI=> .inl ⟨_,bZ,dI⟩)
 exact h E V a Q ⟨cq,ai.tok,ai.size⟩ hQ
theorem PU{nt t:Nat}{c:Ub}{x y:AV}{Φ:an->AS->Prop}(ht:look s.T t=some x)(hw:zY s.H x y)(h:aQ lv P r nt c ⟨(t,y)::s.T,s.H⟩ Φ):aQ lv P r nt c s Φ:=λE V a Q ai hQ=>by
 refine h E V a Q ⟨ai.bw,λt' b e=> ?_,ai.size⟩ hQ;simp only[look]at e;split at e
 ·rename_i e';subst e';cases e;exact⟨(ai.tok t x ht).1,hw E V _ ai.bw (ai.tok t x ht).2⟩
 ·exact ai.tok t' b e
end
open Go.Proofs Go.Gg.Tk
def iD (τ:bh)(n:Nat):Nat->List Int×bh
 |0=>(TM n 0,τ)
 |i+1=>(((iD τ n i).1.set i ((iD τ n i).1.getD (dg (iD τ n i).2 i).toNat 0)).set (dg (iD τ n i).2 i).toNat i,tick (iD τ n i).2)
theorem Be(τ:bh)(n:Nat):∀i,(iD τ n i).1.length=n
 |0=>YH
 |i+1=>by rw[iD,TJ,TJ,Be τ n i]
theorem HR{τ:bh}{b:Int}(h:τ.Ok b)(n:Nat):∀i:Nat,(iD τ n i).2.Ok (b+i)
 |0=>h.mono (by simp)
 |i+1=>(HR h n i).tick.mono (by simp;omega)
theorem aeE(n:Nat):gG (SF .i64 0) n=(TM n (0:Int)).map iv:=by
 have h:∀i∈S0 n,AV.qf ((SF SD 0).cells[i % (SF SD 0).cells.size]!)=iv 0:=λi _=>by
  rw[show (SF SD 0).cells.size=1 from rfl,Nat.mod_one];rfl
 rw[List.map_replicate];unfold gG;rw[VF h,List.map_const',ZY]
section
variable {lv:Bool}{k kp:AV->List aa->Prop}{Gf:bh->List aa}{t N:Nat}{τ:bh}{b:Int}
theorem Rb{n:Nat}(hT:dO Gf t N)(hτ:τ.Ok b)(hb:b<2^30)(hn:n<=2^20)(hk:k (aL (iD τ n n).1) (Gf (iD τ n n).2)):bc lv SA 37 (Gf τ) [.op t 0,iv n] k kp:=by
 refine bD (rs:=[.tmp 4]) (nt:=30) Tryz.f37 λhH hA=> ?_;simp only[bk,SU];have vc:∀o:aa,dO (λτ=>Gf τ++[o]) t (N+1):=λo=>hT.more [o];refine aj ?_;refine ah ?_;simp only[seval,aeE,hT.len];refine⟨by omega,by omega,?_⟩;refine aj ?_;refine bU ?_;refine eI n (λi:Nat=>[(6,iv i)]) (λi=>Gf (iD τ n i).2++[.cells ((iD τ n i).1.map iv) 3]) (λ_=>True) (λ_ _=>rfl) (by simp only[seval];simp[a_,Wk.refl]) rfl (λ_ _ _=>by simp[hT.len]) trivial (λbC bW i cK hi R hR=> ?_);clear bC bW;refine aj ?_;refine aD ?_;refine⟨λh=> ?_,λh=> ?_⟩
 ·have bx:i<n:=by omega
  have aq:=HR hτ n i;have hlen:=Be τ n i;have yY:SD.wrap ((i:Int)+1)=i+1:=br _ (by omega);have dS:iD τ n (i+1)=(((iD τ n i).1.set i ((iD τ n i).1.getD (dg (iD τ n i).2 i).toNat 0)).set (dg (iD τ n i).2 i).toNat i,tick (iD τ n i).2):=rfl;generalize iD τ n i=m at aq hlen dS⊢;obtain⟨l,σ⟩:=m;simp only at aq hlen dS;have hr:=lS σ i;refine aK ?_;refine aj ?_;refine aH ((pF (vc _) aq (by omega) (by omega) ?_));(try simp only[seval]);generalize dg σ i=u at hr dS⊢;obtain⟨u,rfl⟩:∃w:Nat,u=w:=⟨u.toNat,by omega⟩;rw[VI]at dS;have hul:u<n:=by omega
  obtain⟨a,ha⟩:=bK (xs:=l) (i:=u) (by omega);have Lz:l.getD u 0=a:=by rw[SE,ha];rfl
  rw[Lz]at dS;obtain⟨a2,C0⟩:=bK (xs:=l) (i:=i) (by omega);have GX:(i+1<=l.length)=True:=by simp;omega
  have hou:(u+1<=(l.set i a).length)=True:=by simp;omega
  refine ah ?_;simp only[seval,jh bx,jh hul,hT.len,hT.g0,hT.g1,hT.g2,hT.g3,hT.h2,hT.h3,hT.s0,hT.s1,hT.s2,hT.s3,hT.t2,hT.t3,lw ha,Ta,GX,xu (y:=a) (show i<l.length by omega)];refine ah ?_;simp only[seval,jh hul,hT.len,hT.g0,hT.g1,hT.g2,hT.g3,hT.h2,hT.h3,hT.s0,hT.s1,hT.s2,hT.s3,hT.t2,hT.t3,Ta,hou,xu (xs:=l.set i a) (y:=i) (show u<(l.set i a).length by simp;omega)];refine ah ?_;simp only[seval,yY];refine hR _ ⟨bx,trivial,?_⟩;rw[dS];exact cz
 ·have qM:i=n:=by omega
  subst qM;clear hR;refine bR ?_;have hlen:=Be τ i i;generalize iD τ i i=m at hlen hk⊢;obtain⟨l,σ⟩:=m;simp only at hlen hk
  (repeat apply gp);refine Jn (id:=N) (by simp only[seval,hT.len,hT.g0,hT.g1,hT.g2,hT.g3,hT.h2,hT.h3,hT.s0,hT.s1,hT.s2,hT.s3,hT.t2,hT.t3]<;>rfl) ?_
  simp only[seval,hT.len,hT.g0,hT.g1,hT.g2,hT.g3,hT.h2,hT.h3,hT.s0,hT.s1,hT.s2,hT.s3,hT.t2,hT.t3]
  (repeat apply gp);refine PU (t:=5) (y:=aL l) (by simp only[seval]<;>rfl) ?_ ?_
  ·have e:aL l=.sl i ((l.map iv).take i) .shut:=by
    rw[SV (by simp;omega),aL,hlen]
   rw[e];exact IH (p:=l.length) (by simp only[seval,hT.len,hT.g0,hT.g1,hT.g2,hT.g3,hT.h2,hT.h3,hT.s0,hT.s1,hT.s2,hT.s3,hT.t2,hT.t3]<;>rfl) (by omega) (by simp)
  refine aj ?_;refine aZ ?_;exact jI (b:=aL l) (H':=Gf σ) (G:=[.part l.length (l.map iv) 3]) (Wk.refl _) rfl (by simp[hT.len]) (hT.aq hH σ) (by rw[zg];trivial) hk
end
structure I6 (p:List Int)(n:Nat):Prop where
 len:p.length=n
 nodup:p.Nodup
 Ij:∀v∈p,0<=v/\v<(n:Int)
theorem set_perm{t:List Int}{k:Nat}{a b:Int}(h:t[k]?=some a):(t.set k b++[a]).Perm (t++[b]):=by
 obtain⟨hk,rfl⟩:=SN.1 h;have e:t=t.take k++t[k]::t.drop (k+1):=by rw[<- TY hk,Vr]
 rw[XQ,if_pos hk]
 conv=>rhs;rw[e]
 rw[List.perm_iff_count];intro v;simp only[List.count_append,List.count_cons,List.count_nil];omega
theorem ab2(τ:bh)(n:Nat):∀i:Nat,i<=n->((iD τ n i).1.take i).Nodup/\∀v∈(iD τ n i).1.take i,0<=v/\v<(i:Int)
 |0,_=>by simp
 |i+1,hi=>by
  obtain⟨h1,h2⟩:=ab2 τ n i (by omega);have hlen:=Be τ n i;rw[iD];generalize iD τ n i=m at h1 h2 hlen⊢;obtain⟨l,σ⟩:=m;simp only at h1 h2 hlen⊢;have hr:=lS σ i;generalize dg σ i=u at hr⊢;obtain⟨k,rfl⟩:∃w:Nat,u=w:=⟨u.toNat,by omega⟩;rw[VI];obtain⟨a,ha⟩:=bK (xs:=l) (i:=k) (by omega);obtain⟨c,hc⟩:=bK (xs:=l) (i:=i) (by omega);have Lz:l.getD k 0=a:=by rw[SE,ha];rfl
  have xb:(l.take i).length=i:=by rw[TC];omega
  have hp:(((l.set i a).set k (i:Int)).take (i+1)).Perm (l.take i++[(i:Int)]):=by
   rw[ab_,ab_,Uq,hc];show ((((l.take i)++[c]).set i a).set k (i:Int)).Perm _;rw[Ud _ _ (by omega),xb,Vl];show (((l.take i)++[a]).set k (i:Int)).Perm _;by_cases e:k=i
   ·subst e;rw[Ud _ _ (by omega),xb,Vl];exact ag' _
   ·rw[UX _ _ (by omega)];exact set_perm (by rw[Uj,if_pos (by omega)];exact ha)
  rw[Lz];refine⟨(as' hp).2 ?_,λv hv=> ?_⟩
  ·exact Vd.2 ⟨h1,by simp,λx hx y hy e=>by
    have:=h2 x hx;simp at hy;omega⟩
  ·rcases SS.1 (hp.mem_iff.1 hv)with hv|hv
   ·have:=h2 v hv;omega
   ·simp at hv;omega
theorem ab3(τ:bh)(n:Nat):I6 (iD τ n n).1 n:=by
 obtain⟨h1,h2⟩:=ab2 τ n n (SP _);rw[SV (by rw[Be];exact SP _)]at h1 h2;exact⟨Be τ n n,h1,h2⟩
theorem Cn{τ:bh}{n m lo hi:Int}(hn:lo<=n/\n<=hi)(pQ:0<=lo):sT (nH τ n m lo hi) hi/\gT (nH τ n m lo hi) n=true:=by
 have r1:=lS τ m;have r2:=lS (tick τ) m;unfold nH;refine⟨⟨?_,?_,?_⟩,?_⟩
 ·dsimp only;omega
 ·dsimp only;omega
 ·dsimp only;omega
 ·unfold gT;rw[Tg,decide_eq_true_eq,decide_eq_true_eq];dsimp only;omega
theorem J4(τ:bh){ns:List Int}(h:ns≠[]):wF τ ns∈ns:=by
 unfold wF;have hl:0<ns.length:=VW.2 h;have r:=lS τ ((ns.length:Int)-1);have hi:(dg τ ((ns.length:Int)-1)).toNat<ns.length:=by omega
 rw[SE,SX hi];exact Ww hi
def xw (τ:bh)(am:Int):Int:=wF (tick τ) [0,am,dg τ am]
theorem adI(τ:bh){am:Int}(h:0<=am):0<=xw τ am/\xw τ am<=am:=by
 have r:=lS τ am;have:=J4 (tick τ) (ns:=[0,am,dg τ am]) (by simp);unfold xw;simp only[SK,SZ,or_false]at this;omega
def lF (τ:bh)(first am:Int):Nat->List Int×bh
 |0=>([first],τ)
 |i+1=>((lF τ first am i).1++[(lF τ first am i).1.getD i 0+xw (lF τ first am i).2 am],tick (tick (lF τ first am i).2))
structure ny (first am:Int)(l:List Int)(i:Nat):Prop where
 len:l.length=i+1
 head:l.getD 0 0=first
 step:∀j,j<i->l.getD j 0<=l.getD (j+1) 0/\l.getD (j+1) 0<=l.getD j 0+am
theorem wH{l:List Int}{v:Int}{j:Nat}(h:j<l.length):(l++[v]).getD j 0=l.getD j 0:=by
 rw[SE,SE,SY h]
theorem RQ{l:List Int}{v:Int}{j:Nat}(h:l.length=j):(l++[v]).getD j 0=v:=by
 subst h;rw[SE,S_ (SP _),Vl];rfl
theorem aaB(τ:bh)(first:Int){am:Int}(h:0<=am):∀i,ny first am (lF τ first am i).1 i
 |0=>⟨rfl,rfl,λj hj=>by omega⟩
 |i+1=>by
  have ih:=aaB τ first h i
  rw[lF];have hs:=adI (lF τ first am i).2 h;generalize xw (lF τ first am i).2 am=v at hs⊢;generalize(lF τ first am i).1=l at ih⊢;have hl:=ih.len;refine⟨by rw[SL,hl];rfl,by rw[wH (by omega)];exact ih.head,λj hj=> ?_⟩;by_cases cx:j<i
  ·rw[wH (by omega),wH (by omega)];exact ih.step j cx
  ·have:j=i:=(by omega);subst this;rw[wH (by omega),RQ (by omega)];omega
theorem aaC{τ:bh}{b:Int}(h:τ.Ok b)(first am:Int):∀i:Nat,(lF τ first am i).2.Ok (b+2* i)
 |0=>h.mono (by simp)
 |i+1=>(aaC h first am i).tick.tick.mono (by simp;omega)
theorem ny.ge{first am:Int}{l:List Int}{i:Nat}(h:ny first am l i)(hp:0<=am):∀j,j<=i->first<=l.getD j 0/\l.getD j 0<=first+am* j
 |0,_=>by rw[h.head];simp
 |j+1,hj=>by
  have ih:=h.ge hp j (by omega);have:=h.step j (by omega);have e:am* ((j+1:Nat):Int)=am* j+am:=by rw[Int.natCast_add,Int.mul_add];simp
  omega
def kZ (first:Int)(order:List Int)(i:Nat):List Int:=(S0 i).map λj=>first+order.getD j 0
theorem acf(first:Int)(order:List Int)(i:Nat):kZ first order (i+1)=kZ first order i++[first+order.getD i 0]:=by
 unfold kZ;rw[U4,Tn];rfl
theorem ace(first:Int)(order:List Int)(i:Nat):(kZ first order i).length=i:=by simp[kZ]
def kS (h:List Int)(hours:Int)(num:Nat->Int)(τ:bh):Nat->List aB×bh
 |0=>([],τ)
 |i+1=>((kS h hours num τ i).1++[lY (tick (kS h hours num τ i).2) h (num i) hours],tick (tick (tick (tick (tick (kS h hours num τ i).2)))))
theorem AA(h:List Int)(hours:Int)(num:Nat->Int)(τ:bh):∀i,(kS h hours num τ i).1.length=i
 |0=>rfl
 |i+1=>by rw[kS,SL,AA h hours num τ i];rfl
theorem K6{τ:bh}{b:Int}(hτ:τ.Ok b)(h:List Int)(hours:Int)(num:Nat->Int):∀i:Nat,(kS h hours num τ i).2.Ok (b+5* i)
 |0=>hτ.mono (by simp)
 |i+1=>(K6 hτ h hours num i).tick.tick.tick.tick.tick.mono (by simp;omega)
def sE (h:List Int)(hours:Int)(τ:bh):Nat->List Seen×bh
 |0=>([],τ)
 |i+1=>((sE h hours τ i).1++[⟨dg (sE h hours τ i).2 hours,nH (tick (sE h hours τ i).2) (h.getD (dg (sE h hours τ i).2 hours).toNat 0) 1 0 99⟩],tick (tick (tick (sE h hours τ i).2)))
theorem ac9(h:List Int)(hours:Int)(τ:bh):∀i,(sE h hours τ i).1.length=i
 |0=>rfl
 |i+1=>by rw[sE,SL,ac9 h hours τ i];rfl
theorem adb{τ:bh}{b:Int}(hτ:τ.Ok b)(h:List Int)(hours:Int):∀i:Nat,(sE h hours τ i).2.Ok (b+3* i)
 |0=>hτ.mono (by simp)
 |i+1=>(adb hτ h hours i).tick.tick.tick.mono (by simp;omega)
theorem ada{h:List Int}{hours:Int}{τ:bh}(hu:∀τ,0<=dg τ hours/\dg τ hours<=hours):∀i,∀s∈(sE h hours τ i).1,0<=s.hour/\s.hour<=hours/\∃σ,s.next=nH σ (h.getD s.hour.toNat 0) 1 0 99
 |0,s,hs=>by cases hs
 |i+1,s,hs=>by
  rw[sE]at hs;rcases SS.1 hs with hs|hs
  ·exact ada hu i s hs
  ·rw[S9]at hs;subst hs;exact⟨(hu _).1,(hu _).2,_,rfl⟩
structure Fp (h:List Int)(hours n:Int)(y:aB):Prop where
 num:sT y.number 99
 hour:sT y.hour (hours-1)
 fits:fits h y n=true
theorem K5{h:List Int}{hours:Int}{num:Nat->Int}{τ:bh}{P:Int->aB->Prop}(hP:∀τ n,P n (lY τ h n hours)):∀i j y,(kS h hours num τ i).1[j]?=some y->P (num j) y
 |0,j,y,hy=>by cases hy
 |i+1,j,y,hy=>by
  rw[kS]at hy;have hl:=AA h hours num τ i;by_cases hj:j<i
  ·rw[SY (by omega)]at hy;exact K5 hP i j y hy
  ·rw[S_ (by omega),hl]at hy;have:j=i:=(by have:=(SN.1 hy).1;simp at this;omega);subst this;rw[Vl]at hy;cases hy;exact hP _ _
section
variable {lv:Bool}{P:SI}{r:Option Nat}{s:AS}
theorem Cr{nt:Nat}{x y:Ub}{α:Type}{Φ Ψ:an->AS->Prop}(inv:α->AS)(ok:α->Prop)(h1:aQ lv P r nt x s (an.then (λs'=>∃a,ok a/\s'.Sub (inv a)) Ψ))(h2:∀a,ok a->aQ lv P r nt y (inv a) Φ):aQ lv P r nt x s (an.then (λs'=>aQ lv P r nt y s' Φ) Ψ):=
 h1.mono λe s' h=>by
  cases e with
  |normal=>
   obtain⟨a,h3,h4⟩:=h;exact iG h4 (h2 a h3)
  |_=>exact h
end
theorem Pf:gG (SF .i64 0) 3=[iv 0,iv 0,iv 0]:=rfl
theorem zE4:gG (SF .i64 0) 4=[iv 0,iv 0,iv 0,iv 0]:=rfl
theorem xD:gG (TA #[SF .i64 0,SF .i64 0,SF .i64 0,SF .i64 0]) 4=[iv 0,iv 0,iv 0,iv 0]:=rfl
theorem zS1:gG (TA #[SF .i64 0,SF .i64 0,SF .i64 0]) 3=[iv 0,iv 0,iv 0]:=rfl
theorem Ez:(3<=2^24)=True:=eq_true (by decide)
theorem us:(4<=2^24)=True:=eq_true (by decide)
theorem ur:(1<=2^24)=True:=eq_true (by decide)
theorem aeu{first am w v:Int}{i:Nat}(h1:first<=w/\w<=first+am* i)(h2:0<=v/\v<=am)(hf:0<=first/\first<=90)(hp:1<=am/\am<=3)(hi:i<=3):0<=w+v/\w+v<=1000:=by
 have:am* (i:Int)<=3* 3:=Yh (by omega) (by omega) (by omega) (by omega);generalize am* (i:Int)=q at h1 this;omega
theorem MV{n:Int}(h:0<=n/\n<=1000):SD.wrap n=n:=br _ (by omega)
theorem OU(h:List Int)(n:Int):∀m:Nat, -1<=ku h n m/\ku h n m<m
 |0=>by simp[ku]
 |m+1=>by
  have:=OU h n m;unfold ku;split
  ·omega
  ·omega
theorem Ky:∀l:List aB,(l.flatMap aB.l).length=l.length* 4
 |[]=>rfl
 |a::l=>by rw[T1,SL,Ky l,aB.len,Ui];omega
theorem Rt:∀l:List Seen,(l.flatMap Seen.l).length=l.length* 3
 |[]=>rfl
 |a::l=>by rw[T1,SL,Rt l,Seen.len,Ui];omega
theorem Kz{α:Type}{f:α->List AV}{l:List α}{a:α}:(l++[a]).flatMap f=l.flatMap f++f a:=by rw[Un];simp
theorem aoi{α:Type}{f:Nat->α}{l:List α}{n:Nat}(hl:l.length=n)(h:∀i,i<n->l[i]?=some (f i)):(S0 n).map f=l:=by
 refine Yp λi=> ?_;rw[To];by_cases hi:i<n
 ·rw[XC hi,UU,h i hi]
 ·rw[Ux (by simp;omega),Ux (by omega)];rfl
def Pn (a b:Nat):Prop:=(if(a:Int)<(b:Int)then(a:Int)else(b:Int))=((min b a:Nat):Int)
theorem ab1(a b:Nat):Pn a b:=by unfold Pn;split<;>omega
structure Made (pm:Nat)(x:ak)(bI aA bX:List Int):Prop where
 first:0<=x.first/\x.first<=90
 hours:1<=x.hours/\x.hours<=3
 am:1<=x.am/\x.am<=3
 GK:ny x.first x.am bI x.hours.toNat
 aou:x.pieces.length<=pm
 xi:aA.length=x.pieces.length
 num:∀n∈aA,x.first<=n/\n<bI.getD x.hours.toNat 0
 NL:aA.Nodup
 piece:∀(p:Nat) y,x.pieces[p]?=some y->∃τ,y=lY τ bI (aA.getD p 0) x.hours
 zn:bX.length=x.aC.length
 aC:x.aC.length<=3
 own:∀v∈bX,0<=v/\v<(aA.length:Int)
 NT:bX.Nodup
 stub:∀(s:Nat) y,x.aC[s]?=some y->∃τ,y=lY τ bI (aA.getD (bX.getD s 0).toNat 0) x.hours
 zw:x.seen.length<=2
 seen:∀s∈x.seen,0<=s.hour/\s.hour<=x.hours/\∃τ,s.next=nH τ (bI.getD s.hour.toNat 0) 1 0 99
structure YOk (Gf:bh->List aa)(N:Nat)(zc:aa)(YY:List AV->Nat->Nat->Nat->Nat->Nat->List aa):Prop where
 len:∀r a b c d e,(YY r a b c d e).length=8
 y0:∀τ r a b c d e,(Gf τ++YY r a b c d e)[N]?=some zc
 y1:∀τ r a b c d e,(Gf τ++YY r a b c d e)[N+1]?=some (.cells r 26)
 y3:∀τ r a b c d e,(Gf τ++YY r a b c d e)[N+3]?=some (.tail a 4 48)
 y4:∀τ r a b c d e,(Gf τ++YY r a b c d e)[N+4]?=some (.tail b 4 48)
 y5:∀τ r a b c d e,(Gf τ++YY r a b c d e)[N+5]?=some (.tail c 3 61)
 y6:∀τ r a b c d e,(Gf τ++YY r a b c d e)[N+6]?=some (.tail d 1 3)
 y7:∀τ r a b c d e,(Gf τ++YY r a b c d e)[N+7]?=some (.tail e 1 3)
 z1:∀τ r r' a b c d e,(Gf τ++YY r a b c d e).set (N+1) (.cells r' 26)=Gf τ++YY r' a b c d e
 z3:∀τ r a a' b c d e,(Gf τ++YY r a b c d e).set (N+3) (.tail a' 4 48)=Gf τ++YY r a' b c d e
 z4:∀τ r a b b' c d e,(Gf τ++YY r a b c d e).set (N+4) (.tail b' 4 48)=Gf τ++YY r a b' c d e
 z5:∀τ r a b c c' d e,(Gf τ++YY r a b c d e).set (N+5) (.tail c' 3 61)=Gf τ++YY r a b c' d e
 z6:∀τ r a b c d d' e,(Gf τ++YY r a b c d e).set (N+6) (.tail d' 1 3)=Gf τ++YY r a b c d' e
 s0:∀r a b c d e y,∃L,(YY r a b c d e).set 0 y=y::L
 z7:∀τ r a b c d e e',(Gf τ++YY r a b c d e).set (N+7) (.tail e' 1 3)=Gf τ++YY r a b c d e'
noncomputable def oI:Ub:=WW.body.getD .skip
def lq:Nat->Ub->Ub
 |0,c=>c
 |n+1,c=>lq n (cs c)
section
variable {lv:Bool}{P:SI}{r:Option Nat}{o:Tx}{s:AS}{next:AS->Prop}{bad:AV->AS->Prop}
theorem agq{nt id sz:Nat}{c:Ub}{l:List AV}{el:TypeId}{Φ:an->AS->Prop}(bZ:s.H[id]?=some (.own sz l el))(h:aQ lv P r nt c ⟨s.T,s.H.set id (.part l.length l el)⟩ Φ):aQ lv P r nt c s Φ:=λE V a Q ai hQ=>by
 have hc:=ai.bw;obtain⟨⟨cs,eE,hd,_⟩,lE⟩:=hc.obj id _ bZ;have g:d_ V (V.eT (E.blk id) cs (λo=>decide (o<l.length))):=yj eE (λo _=>lE o);refine WP.ghost g ?_;have hI:∀b o v,E.I b o=some v->(V.eT (E.blk id) cs (λo=>decide (o<l.length))).ab b o=some v:=λb o v e=>by
  rw[hc.I]at e;have hb:b≠E.blk id:=λhb=>by rw[hb,lE]at e;cases e
  simp only[View.eT];rw[if_neg (λx=>hb x.1)];exact e
 have hle:E.Le {E with I:=(V.eT (E.blk id) cs (λo=>decide (o<l.length))).ab}:=⟨hI,SP _,λ_ _=>rfl,λ_ _=>SP _,λ_ _ _ _=>rfl,rfl,rfl⟩;have cq:Conc {E with I:=(V.eT (E.blk id) cs (λo=>decide (o<l.length))).ab} (V.eT (E.blk id) cs (λo=>decide (o<l.length))) (s.H.set id (.part l.length l el)):=by
  refine hc.iQ id _ hle rfl (by rw[TJ];exact hc.n) lM rfl (λ_ _ _=>rfl) (λb y fD hy=>⟨hy,λo=> ?_⟩) ⟨⟨cs,eE,hd.mono hle,λo ho=> ?_⟩,λo ho=> ?_⟩ (λb hb=> .inl ⟨_,bZ,hb⟩)
  ·have hb:b≠E.blk id:=λhb=>fD _ bZ (by rw[hb];rfl);simp only[View.eT];rw[if_neg (λx=>hb x.1)]
  ·simp only[View.eT];rw[if_pos ⟨trivial,by simpa using ho⟩]
  ·simp only[View.eT];rw[if_neg (λx=>by have:=x.2;simp at this;omega)];exact lE o
 exact h _ _ a Q ⟨cq,ai.tok.mono hle,ai.size⟩ λae e E' aU a' s' hk=>hQ ae e E' aU a' s' ((⟨hle,rfl,rfl,rfl,rfl⟩:Kept E _ V (V.eT (E.blk id) cs (λo=>decide (o<l.length))) a a).trans hk)
end
section
variable {lv:Bool}{P:SI}{r:Option Nat}{s:AS}
theorem ago{nt:Nat}{α:Type}{lt:α->α->Prop}(wf:WellFounded lt){c:Ub}{Φ:an->AS->Prop}(V:α->List (Nat×AV))(Hf:α->List aa)(ok:α->Prop)(m0:α)
  (vv:∀m m',(V m).map (·.1)=(V m').map (·.1)) (gL:∀p∈V m0,∃b,look s.T p.1=some b/\Wk b p.2) (va:Hf m0=s.H) (hl:∀m,ok m->s.H.length<=(Hf m).length) (hm:ok m0)
  (h:bF s.H->(∀t a,look s.T t=some a->Lt s.H.length a)->∀m,ok m->∀R:AS->Prop,(∀s',(∃m',lt m' m/\ok m'/\rF s.T (V m) (V m') (Hf m') s')->R s')->aQ lv P r nt c ⟨V m++s.T,Hf m⟩ (an.then R Φ)):aQ lv P r nt (.loop c) s Φ:=by
 have same:∀m m' t,look (V m) t=none->look (V m') t=none:=λm m' t h=>Nw λp hp e=>by
  have h1:p.1∈(V m').map (·.1):=Tm.2 ⟨p,hp,rfl⟩;rw[vv m' m]at h1;obtain⟨q,hq,e'⟩:=Tm.1 h1;have h2:((V m).any λx=>x.1==t)=true:=UO.2 ⟨q,hq,by simp[e',e]⟩;obtain⟨a,ha⟩:=Nv h2;rw[h]at ha;cases ha
 intro E V0 a Q ai hQ;have hlt:∀t a,look s.T t=some a->Lt s.H.length a:=λt x e=>by rw[<- ai.bw.n];exact(ai.tok t x e).2.lt
 have h0:s.Sub ⟨V m0++s.T,Hf m0⟩:=⟨λt x e=>by
  rw[vV]at e;cases hl:look (V m0) t with
  |none=>rw[hl]at e;exact⟨x,e,Wk.refl x⟩
  |some y=>rw[hl]at e;cases e;exact gL (t,x) (o_ hl),va.symm⟩
 refine PO wf (s:=s) (λm=>⟨V m++s.T,Hf m⟩) ok m0 h0 hm hl (λm aq=> ?_) E V0 a Q ai hQ;refine(h ai.bw.aq hlt m aq _ λ_ h=>h).mono λe s' hΦ=> ?_;cases e with
 |normal=>
  obtain⟨m',q1,q2,hk,hv,G,hG,tN⟩:=hΦ;have tok:∀t x,look (V m'++s.T) t=some x->∃b,look s'.T t=some b/\Wk b x/\(look (V m') t=some x\/look s.T t=some x):=λt x e=>by
   rw[vV]at e;cases hl:look (V m') t with
   |none=>
    rw[hl]at e;have hb:look (V m++s.T) t=some x:=(by rw[vV,same m' m t hl];exact e);exact⟨x,hk.look hb hl,Wk.refl x,.inr e⟩
   |some y=>
    rw[hl]at e;cases e;obtain⟨b,h1,h2⟩:=hv (t,x) (o_ hl);exact⟨b,h1,h2,.inl rfl⟩
  refine⟨m',q1,q2,?_⟩;rcases tN with rfl|⟨n5,LV⟩
  ·exact .inl ⟨λt x e=>by obtain⟨b,h1,h2,_⟩:=tok t x e;exact⟨b,h1,h2⟩,by rw[hG,SO]⟩
  ·refine .inr ⟨λt x e=> ?_,⟨G,hG⟩,n5⟩;obtain⟨b,h1,h2,h3⟩:=tok t x e;refine⟨b,h1,h2,?_⟩;rcases h3 with h3|h3
   ·exact LV (t,x) (o_ h3)
   ·show Lt (Hf m').length x;exact(hlt t x h3).mono (hl m' q2)
 |_=>exact hΦ
theorem PM{nt:Nat}{c:Ub}{Φ:an->AS->Prop}(n:Nat)(V:Nat->List (Nat×AV))(Hf:Nat->List aa)(ok:Nat->Prop)
  (vv:∀m m',(V m).map (·.1)=(V m').map (·.1)) (gL:∀p∈V 0,∃b,look s.T p.1=some b/\Wk b p.2) (va:Hf 0=s.H) (hl:∀m,m<=n->ok m->s.H.length<=(Hf m).length) (hm:ok 0)
  (h:bF s.H->(∀t a,look s.T t=some a->Lt s.H.length a)->∀m,m<=n->ok m->∀R:AS->Prop,(∀s',(m<n/\ok (m+1)/\rF s.T (V m) (V (m+1)) (Hf (m+1)) s')->R s')->aQ lv P r nt c ⟨V m++s.T,Hf m⟩ (an.then R Φ)):aQ lv P r nt (.loop c) s Φ:=by
 refine ago (measure λi=>n-i).wf V Hf (λi=>i<=n/\ok i) 0 vv gL va (λm h=>hl m h.1 h.2) ⟨XY _,hm⟩ (λh1 h2 m aq R hR=> ?_);exact h h1 h2 m aq.1 aq.2 R λs' ⟨q1,q2,q3⟩=>hR s' ⟨m+1,(by show n-(m+1)<n-m;omega),⟨q1,q2⟩,q3⟩
end
def gO:Nat->aa->List aa
 |0,_=>[]
 |n+1,o=>TM n .gone++[o]
theorem yi:∀(n:Nat)(o:aa),(gO n o).length=n
 |0,_=>rfl
 |n+1,o=>by simp[gO]
theorem CK(n:Nat)(o:aa)(R:List aa):(gO (n+1) o++R)[n]?=some o:=by
 rw[SY (by rw[yi];omega),gO,S_ (by simp)];simp
theorem CL(n:Nat)(o o':aa)(R:List aa):(gO (n+1) o++R).set n o'=gO (n+1) o'++R:=by
 rw[UX _ _ (by rw[yi];omega),gO,Ud _ _ (by simp)];simp[gO]
theorem RP(n:Nat)(o:aa):gO (n+1) .gone++[o]=gO (n+2) o:=by
 simp only[gO,List.replicate_succ']
def fF (j n:Nat):AV:=match n with
 |0=> .sl 0 [] .exact
 |n+1=> .bz (j+n) 0 (n+1) 0
def fO (l:List aB):aa:=.own 4 (l.flatMap aB.l) 48
structure YW (Gf:bh->List aa)(N:Nat)(zc:aa)(YY:List AV->Nat->Nat->Nat->List aa):Prop where
 len:∀r c d e,(YY r c d e).length=6
 n:∀τ r c d e G,(Gf τ++(YY r c d e++G)).length=N+6+G.length
 y0:∀τ r c d e G,(Gf τ++(YY r c d e++G))[N]?=some zc
 y1:∀τ r c d e G,(Gf τ++(YY r c d e++G))[N+1]?=some (.cells r 26)
 y3:∀τ r c d e G,(Gf τ++(YY r c d e++G))[N+3]?=some (.tail c 3 61)
 y4:∀τ r c d e G,(Gf τ++(YY r c d e++G))[N+4]?=some (.tail d 1 3)
 y5:∀τ r c d e G,(Gf τ++(YY r c d e++G))[N+5]?=some (.tail e 1 3)
 z1:∀τ r r' c d e G,(Gf τ++(YY r c d e++G)).set (N+1) (.cells r' 26)=Gf τ++(YY r' c d e++G)
 z3:∀τ r c c' d e G,(Gf τ++(YY r c d e++G)).set (N+3) (.tail c' 3 61)=Gf τ++(YY r c' d e++G)
 z4:∀τ r c d d' e G,(Gf τ++(YY r c d e++G)).set (N+4) (.tail d' 1 3)=Gf τ++(YY r c d' e++G)
 z5:∀τ r c d e e' G,(Gf τ++(YY r c d e++G)).set (N+5) (.tail e' 1 3)=Gf τ++(YY r c d e'++G)
 w:∀τ r c d e G m,(Gf τ++(YY r c d e++G))[N+6+m]?=G[m]?
 v:∀τ r c d e G m y,(Gf τ++(YY r c d e++G)).set (N+6+m) y=Gf τ++(YY r c d e++G.set m y)
 s0:∀r c d e y,∃L,(YY r c d e).set 0 y=y::L
section
variable {Gf:bh->List aa}{N:Nat}{zc:aa}{YY:List AV->Nat->Nat->Nat->List aa}(h:YW Gf N zc YY)
include h
theorem YW.n0(τ r c d e):(Gf τ++YY r c d e).length=N+6:=by have:=h.n τ r c d e [];rwa [SO]at this
theorem YW.w0(τ r c d e G):(Gf τ++(YY r c d e++G))[N+6]?=G[0]?:=h.w τ r c d e G 0
theorem YW.zH(τ r c d e):(Gf τ++YY r c d e)[N+1]?=some (.cells r 26):=by have:=h.y1 τ r c d e [];rwa [SO]at this
theorem YW.zI(τ r r' c d e):(Gf τ++YY r c d e).set (N+1) (.cells r' 26)=Gf τ++YY r' c d e:=by have:=h.z1 τ r r' c d e [];rwa [SO,SO]at this
end
theorem atJ{Gf:bh->List aa}{t N:Nat}{zc o2:aa}{YY:List AV->Nat->Nat->Nat->List aa}(hT:dO Gf t N)(h:∀r c d e,YY r c d e=[zc,.cells r 26,o2,.tail c 3 61,.tail d 1 3,.tail e 1 3]):YW Gf N zc YY:=by
 have oc:∀τ (L:List aa)(j:Nat),(Gf τ++L)[N+j]?=L[j]?:=λτ L j=>by rw[<- hT.len τ,aW]
 have dX:∀τ (L:List aa)(j:Nat)(y:aa),(Gf τ++L).set (N+j) y=Gf τ++L.set j y:=λτ L j y=>by rw[<- hT.len τ,dL]
 have hl:∀r c d e,(YY r c d e).length=6:=λr c d e=>by rw[h];rfl
 refine⟨hl,λτ r c d e G=>by rw[SL,SL,hl,hT.len];omega,λτ r c d e G=> ?_,λτ r c d e G=>by rw[oc,h];rfl,λτ r c d e G=>by rw[oc,h];rfl,λτ r c d e G=>by rw[oc,h];rfl,λτ r c d e G=>by rw[oc,h];rfl,λτ r r' c d e G=>by rw[dX,h,h];rfl,λτ r c c' d e G=>by rw[dX,h,h];rfl,λτ r c d d' e G=>by rw[dX,h,h];rfl,λτ r c d e e' G=>by rw[dX,h,h];rfl,λτ r c d e G m=> ?_,λτ r c d e G m y=> ?_,λr c d e y=>⟨_,by rw[h];rfl⟩⟩
 ·have:=oc τ (YY r c d e++G) 0;rw[UJ]at this;rw[this,h];rfl
 ·rw[U7,oc,S_ (by rw[hl];omega),hl,TZ]
 ·rw[U7,dX,Ud _ _ (by rw[hl];omega),hl,TZ]
section
variable {lv:Bool}{k kp:AV->List aa->Prop}{Gf:bh->List aa}{t N:Nat}{b:Int}
theorem aiS{pm i mn:Nat}{first am:Int}{l order:List Int}{ρ:bh}{zc:aa}{YY:List AV->Nat->Nat->Nat->List aa}{hz:Bool}{Ψ:an->AS->Prop}(hT:dO Gf t N)(hY:YW Gf N zc YY)(hH:∀τ,bF (Gf τ))(hb:b<2^10)(tX:pm<=4)(hi:1<=i/\i<=3)(oV:0<=first/\first<=90)(fw:l.length=i+1)(LZ:mn<=9)(qT:I6 order mn)(qX:ρ.Ok (b+19)):
  aQ lv SA none 240 (cs (cf (lq 7 oI))) ⟨[(17,iv 0),(16,.sl 0 [] (.opn (N+5))),(15,.sl 0 [] (.opn (N+4))),(14,aL order),(13,iv mn),(11,.sl (i+1) (l.map iv) (.opn (N+2))),(10,.op (N+1) 0),(6,.op N 0),(0,.op t 0),(1,iv pm),(2,bv hz)],Gf ρ++YY [iv first,iv i,iv am,.sl 0 [] (.opn (N+3)),.sl 0 [] .exact,.sl 0 [] .exact] 0 0 0⟩ (an.then (λs'=>∃y:Nat×bh,(y.1<=pm/\y.1<=mn/\y.2.Ok (b+60))/\s'.Sub ⟨[(16,.sl 0 [] (.opn (N+5))),(15,.sl y.1 ((kZ first order y.1).map iv) (.opn (N+4))),(13,iv mn),(11,.sl (i+1) (l.map iv) (.opn (N+2))),(10,.op (N+1) 0),(6,.op N 0),(0,.op t 0),(2,bv hz)],Gf y.2++(YY [iv first,iv i,iv am,.sl 0 [] (.opn (N+3)),fF (N+6) y.1,.sl 0 [] .exact] 0 y.1 0++gO y.1 (fO (kS l i (λj=>first+order.getD j 0) ρ y.1).1))⟩) Ψ):=by
 have n0:=hY.n0;have w0:=hY.w0;have Ey:(1<=2^30)=True:=eq_true (by decide);have zH:=hY.zH;have zI:=hY.zI;obtain⟨vd,rU,y0,y1,y3,y4,y5,nv,zJ,BN,BO,qG,tH,de⟩:=hY;have jO:∀L:List aa,dO (λτ=>Gf τ++L) t (N+L.length):=λL=>hT.more L;obtain⟨hv,AL⟩:∃hv:Nat->List aB×bh,∀j,hv j=kS l i (λj=>first+order.getD j 0) ρ j:=⟨_,λ_=>rfl⟩;simp only[<- AL];have MG:∀j,(hv j).1.length=j:=λj=>by rw[AL];exact AA _ _ _ _ _
 have hvt:∀j:Nat,(hv j).2.Ok (b+19+5* j):=λj=>by rw[AL];exact(K6 qX _ _ _ j).mono (by omega)
 have cY:hv 0=([],ρ):=AL 0;unfold oI WW;dsimp only[S7,lq,cs,cf];have GR:=ab1 mn pm;refine bU ?_;refine PM (min pm mn) (λj:Nat=>[(15,.sl j ((kZ first order j).map iv) (.opn (N+4))),(17,iv j)]) (λj=>Gf (hv j).2++(YY [iv first,iv i,iv am,.sl 0 [] (.opn (N+3)),fF (N+6) j,.sl 0 [] .exact] 0 j 0++gO j (fO (hv j).1))) (λ_=>True) (λ_ _=>rfl) (by simp only[kZ,ZG,List.map_nil];simp only[seval];simp[a_,Wk.refl]) (by rw[cY];simp[gO,fF]) (λ_ _ _=>by simp[hT.len,vd]) trivial (λbC bW j mE _ R hR=> ?_);clear bC bW;have lJ:=hvt j;by_cases dP:j<min pm mn
 ·have hd:decide ((j:Int)<((min pm mn:Nat):Int))=true:=by simpa using dP
  refine ah ?_;simp only[seval,show (if(mn:Int)<(pm:Int)then(mn:Int)else(pm:Int))=((min pm mn:Nat):Int)from GR,hd];have dS:hv (j+1)=((hv j).1++[lY (tick (hv j).2) l (first+order.getD j 0) i],tick (tick (tick (tick (tick (hv j).2))))):=by rw[AL,AL];rfl
  have p9:=MG j;generalize GI:hv j=hj at lJ dS p9⊢;obtain⟨ps,ρj⟩:=hj;dsimp only at lJ dS p9⊢;refine aH ((F2 (n:=6) (jO _) lJ (by omega) (by decide) ?_));(try simp only[seval]);refine aD ?_;refine⟨λhc=> ?_,λhc=> ?_⟩
  ·obtain⟨o,ho⟩:=bK (xs:=order) (i:=j) (by rw[qT.len];omega);have hor:=qT.Ij o (um ho);have hgo:order.getD j 0=o:=(by rw[SE,ho];rfl);rw[hgo]at dS;have MM:SD.wrap (first+o)=first+o:=MV (by omega)
   have yJ:SD.wrap ((j:Int)+1)=((j+1:Nat):Int):=(by rw[br _ (by omega)];rfl);have qJ:(0<=(j:Int)/\(j:Int)<(order.length:Int))=True:=(by simp[qT.len];omega);have iZ:=ace first order j
   have Ds:Vf iv (kZ first order j)++[AV.val (SF SD (first+o))]=(kZ first order (j+1)).map iv:=(by rw[acf,hgo,Tn];rfl);have yM:(kZ first order (j+1))[j]?=some (first+o):=(by rw[acf,hgo,S_ (by omega),iZ,Vl];rfl);have lZ:(0<=(j:Int)/\(j:Int)<(j:Int)+1)=True:=(by simp;omega);refine aK ?_;refine bU ?_;refine eO 9 ?_;simp only[seval,z1,ur,y1,y4,BN,aL,eg ho,qJ,MM,iZ];refine⟨by omega,?_⟩;rw[Ds];obtain⟨n,hn⟩:∃n,n=first+o:=⟨_,rfl⟩
   rw[<- hn]at yM dS;have qY:=OU l n i;have uR:=λ(L:List aa) k kp=>Rd (lv:=lv) (k:=k) (kp:=kp) (h:=l) (n:=n) (hours:=i) (e:=.opn (N+2)) (jO L) lJ.tick (by omega) (by omega) (by omega) (by omega) (by rw[fw,Wh];omega);simp only[fw]at uR;obtain⟨y,hy⟩:∃y,y=lY (tick ρj) l n i:=⟨_,rfl⟩;rw[<- hy]at dS uR;have xd:y.l=[iv y.number.min,iv y.number.max,iv y.hour.min,iv y.hour.max]:=rfl;have hyf:∀a∈y.l,a.leaf=true:=(by rw[xd];simp[AV.leaf,Value.one]);have eE:∀FP,FP=ps.flatMap aB.l->aa.own 4 (FP++y.l) 48=fO (hv (j+1)).1:=λFP pG=>(by rw[dS,fO,Kz,pG]);rcases UL j with vr|vr
   ·subst vr;obtain rfl:ps=[]:=UI p9;have de:fF (N+6) 0=.sl 0 [] .exact:=rfl;have l5:∀o,gO 0 o=[]:=λ_=>rfl;rw[l5,SO];refine nI [10,12,14] [0,1,2,3,4,5,6,7,8,9,10,11,12,13,14] [⟨0,false,[],[([10],[10])]⟩,⟨1,false,[],[([10],[10])]⟩,⟨2,false,[],[]⟩,⟨3,false,[],[]⟩,⟨4,false,[],[]⟩,⟨5,false,[],[]⟩,⟨6,false,[],[]⟩,⟨7,false,[],[]⟩,⟨8,false,[],[]⟩,⟨9,false,[],[]⟩,⟨10,true,[10],[]⟩,⟨11,false,[10],[]⟩,⟨12,true,[10,12],[]⟩,⟨13,false,[10,12],[]⟩,⟨14,true,[10,12,14],[]⟩] (λD=>bif isDone 14 D then Gf (tick (tick (tick (tick (tick ρj)))))++(YY [iv first,iv i,iv am,.sl 0 [] (.opn (N+3)),.bz (N+6) 0 1 0,.sl 0 [] .exact] 0 1 0++[.own 4 y.l 48])else bif isDone 12 D then Gf (tick (tick (tick (tick (tick ρj)))))++(YY [iv first,iv i,iv am,.sl 0 [] (.opn (N+3)),.sl 0 [] .exact,.sl 0 [] .exact] 0 1 0++[.own 4 y.l 48])else bif isDone 10 D then Gf (tick (tick (tick (tick (tick ρj)))))++YY [iv first,iv i,iv am,.sl 0 [] (.opn (N+3)),.sl 0 [] .exact,.sl 0 [] .exact] 0 1 0 else Gf (tick ρj)++YY [iv first,iv i,iv am,.sl 0 [] (.opn (N+3)),.sl 0 [] .exact,.sl 0 [] .exact] 0 1 0) ?_;simp only[seval,xD,us,y1,rU,qG,nv,n0,w0,Ey,zH,zI,eg yM,lZ,de,SC];refine kz y.av _ (cC (uR _ _ _ ⟨rfl,rfl⟩)) ?_;(try simp only[seval,xD,us,y1,rU,qG,nv,n0,w0,Ey,zH,zI,eg yM,lZ,de,SC,aB.av,xd]);refine ah ?_;simp only[seval,show SD.wrap 1=1 from br _ (by omega),show (0:Int)+1=1 from rfl];have e1:(hv (0+1)).2=tick (tick (tick (tick (tick ρj)))):=(by rw[dS]);have e2:gO (0+1) (fO (hv (0+1)).1)=[.own 4 [iv y.number.min,iv y.number.max,iv y.hour.min,iv y.hour.max] 48]:=(by rw[<- eE [] rfl];rfl);refine hR _ ⟨by omega,trivial,?_⟩;rw[e1,e2];exact cz
   ·obtain⟨n',iY⟩:∃n',j=n'+1:=⟨j-1,by omega⟩;have cy:fF (N+6) j=.bz (N+6+n') 0 j 0:=(by rw[iY];rfl);have vo:∀o,(gO j o)[n']?=some o:=λo=>(by rw[iY];have:=CK n' o [];rwa [SO]at this);have vH:∀o,(gO j o).set n' .gone=gO j .gone:=λo=>(by rw[iY];have:=CL n' o .gone [];rwa [SO,SO]at this);have pN:∀a,gO j .gone++[a]=gO (j+1) a:=λa=>(by rw[iY];exact RP _ _);have kg:∀o,(gO j o).length=j:=yi j;have eE:=eE _ rfl;rw[cy];unfold fO;obtain⟨FP,pG⟩:∃FP,FP=ps.flatMap aB.l:=⟨_,rfl⟩;have wJ:FP.length=j* 4:=(by rw[pG,Ky,p9]);rw[<- pG]at eE⊢;refine nI [10,12,14] [0,1,2,3,4,5,6,7,8,9,10,11,12,13,14] [⟨0,false,[],[([10],[10])]⟩,⟨1,false,[],[([10],[10])]⟩,⟨2,false,[],[]⟩,⟨3,false,[],[]⟩,⟨4,false,[],[]⟩,⟨5,false,[],[]⟩,⟨6,false,[],[]⟩,⟨7,false,[],[]⟩,⟨8,false,[],[]⟩,⟨9,false,[],[]⟩,⟨10,true,[10],[]⟩,⟨11,false,[10],[]⟩,⟨12,true,[10,12],[]⟩,⟨13,false,[10,12],[]⟩,⟨14,true,[10,12,14],[]⟩] (λD=>bif isDone 14 D then Gf (tick (tick (tick (tick (tick ρj)))))++(YY [iv first,iv i,iv am,.sl 0 [] (.opn (N+3)),.bz (N+6+j) 0 (j+1) 0,.sl 0 [] .exact] 0 (j+1) 0++gO (j+1) (.own 4 (FP++y.l) 48))else bif isDone 12 D then Gf (tick (tick (tick (tick (tick ρj)))))++(YY [iv first,iv i,iv am,.sl 0 [] (.opn (N+3)),.bz (N+6+n') 0 j 0,.sl 0 [] .exact] 0 (j+1) 0++gO (j+1) (.own 4 (FP++y.l) 48))else bif isDone 10 D then Gf (tick (tick (tick (tick (tick ρj)))))++(YY [iv first,iv i,iv am,.sl 0 [] (.opn (N+3)),.bz (N+6+n') 0 j 0,.sl 0 [] .exact] 0 (j+1) 0++gO j (.own 4 FP 48))else Gf (tick ρj)++(YY [iv first,iv i,iv am,.sl 0 [] (.opn (N+3)),.bz (N+6+n') 0 j 0,.sl 0 [] .exact] 0 (j+1) 0++gO j (.own 4 FP 48))) ?_;simp only[seval,xD,us,y1,rU,qG,tH,nv,eg yM,lZ,vo,vH,pN,kg,wJ,SC];refine kz y.av _ (cC (uR _ _ _ ⟨rfl,rfl⟩)) ?_;(try simp only[seval,xD,us,y1,rU,qG,tH,nv,eg yM,lZ,vo,vH,pN,kg,wJ,SC,aB.av,xd]);refine⟨vr,by omega,?_⟩;refine ah ?_;simp only[seval,yJ];refine hR _ ⟨by omega,trivial,?_⟩;rw[<- eE,show (hv (j+1)).2=tick (tick (tick (tick (tick ρj)))) by rw[dS]];exact cz
  ·refine bR ?_;exact⟨(j,tick ρj),⟨by dsimp only;omega,by dsimp only;omega,lJ.tick.mono (by omega)⟩,dY (by simp only[seval];simp[a_,Wk.refl]) (by rw[GI])⟩
 ·have hd:decide ((j:Int)<((min pm mn:Nat):Int))=false:=by simpa using dP
  refine ah ?_;simp only[seval,show (if(mn:Int)<(pm:Int)then(mn:Int)else(pm:Int))=((min pm mn:Nat):Int)from GR,hd];refine aD ?_;refine bR ?_;exact⟨(j,(hv j).2),⟨by dsimp only;omega,by dsimp only;omega,lJ.mono (by omega)⟩,dY (by simp only[seval];simp[a_,Wk.refl]) rfl⟩
theorem aiN{i np:Nat}{first am w:Int}{l aA im:List Int}{ρ2:bh}{zc:aa}{pv:AV}{gP:List aa}{YY:List AV->Nat->Nat->Nat->List aa}{hz:Bool}{B3:AV}{Ψ:an->AS->Prop}(hT:dO Gf t N)(hY:YW Gf N zc YY)(yE:gP.length=np)(hb:b<2^10)(hi:1<=i/\i<=3)(oV:0<=first/\first<=90)(Hk:first<=w/\w<=first+9)(fw:l.length=i+1)(Dt:np<=4)(iZ:aA.length=np)(tT:∀n∈aA,first<=n/\n<w)(tY:I6 im np)(yZ:ρ2.Ok (b+64)):
  aQ lv SA none 240 (cs (cf (lq 9 oI))) ⟨[(19,iv 0),(18,.sl np (im.map iv) .shut),(16,.sl 0 [] (.opn (N+5))),(15,.sl np (aA.map iv) (.opn (N+4))),(13,B3),(11,.sl (i+1) (l.map iv) (.opn (N+2))),(10,.op (N+1) 0),(6,.op N 0),(0,.op t 0),(2,bv hz)],Gf ρ2++(YY [iv first,iv i,iv am,.sl 0 [] (.opn (N+3)),pv,.sl 0 [] .exact] 0 np 0++gP)⟩ (an.then (λs'=>∃y:Nat×bh,(y.1<=np/\y.1<=3/\y.2.Ok (b+90))/\s'.Sub ⟨[(16,.sl y.1 ((im.take y.1).map iv) (.opn (N+5))),(15,.sl np (aA.map iv) (.opn (N+4))),(13,B3),(11,.sl (i+1) (l.map iv) (.opn (N+2))),(10,.op (N+1) 0),(6,.op N 0),(0,.op t 0),(2,bv hz)],Gf y.2++(YY [iv first,iv i,iv am,.sl 0 [] (.opn (N+3)),pv,fF (N+6+np) y.1] 0 np y.1++(gP++gO y.1 (fO (kS l i (λj=>aA.getD (im.getD j 0).toNat 0) ρ2 y.1).1)))⟩) Ψ):=by
 obtain⟨vd,rU,y0,y1,y3,y4,y5,nv,zJ,BN,BO,qG,tH,de⟩:=hY;have Ey:(1<=2^30)=True:=eq_true (by decide);have n0:∀τ r c d e,(Gf τ++(YY r c d e++gP)).length=N+6+np:=λτ r c d e=>by rw[rU,yE]
 have n1:∀τ r c d e X,(Gf τ++(YY r c d e++(gP++X))).length=N+6+np+X.length:=λτ r c d e X=>by rw[rU,SL,yE];omega
 have w1:∀τ r c d e X m,(Gf τ++(YY r c d e++(gP++X)))[N+6+np+m]?=X[m]?:=λτ r c d e X m=>by rw[U7 (N+6),qG,S_ (by omega),yE,TZ]
 have w0:∀τ r c d e X,(Gf τ++(YY r c d e++(gP++X)))[N+6+np]?=X[0]?:=λτ r c d e X=>w1 τ r c d e X 0;have v1:∀τ r c d e X m y,(Gf τ++(YY r c d e++(gP++X))).set (N+6+np+m) y=Gf τ++(YY r c d e++(gP++X.set m y)):=λτ r c d e X m y=>by rw[U7 (N+6),tH,Ud _ _ (by omega),yE,TZ]
 have jO:∀L:List aa,dO (λτ=>Gf τ++L) t (N+L.length):=λL=>hT.more L;obtain⟨hw,AM⟩:∃hw:Nat->List aB×bh,∀j,hw j=kS l i (λj=>aA.getD (im.getD j 0).toNat 0) ρ2 j:=⟨_,λ_=>rfl⟩;simp only[<- AM];have oh:∀j,(hw j).1.length=j:=λj=>by rw[AM];exact AA _ _ _ _ _
 have vI:∀j:Nat,(hw j).2.Ok (b+64+5* j):=λj=>by rw[AM];exact K6 yZ _ _ _ j
 have yX:hw 0=([],ρ2):=AM 0;have abd:=tY.len;unfold oI WW;dsimp only[S7,lq,cs,cf];have aaK:=ab1 3 np;refine bU ?_;refine PM (min np 3) (λj:Nat=>[(16,.sl j ((im.take j).map iv) (.opn (N+5))),(19,iv j)]) (λj=>Gf (hw j).2++(YY [iv first,iv i,iv am,.sl 0 [] (.opn (N+3)),pv,fF (N+6+np) j] 0 np j++(gP++gO j (fO (hw j).1)))) (λ_=>True) (λ_ _=>rfl) (by simp only[seval];simp[a_,Wk.refl]) (by rw[yX];simp[gO,fF]) (λ_ _ _=>by simp[hT.len,vd]) trivial (λbC bW j mE _ R hR=> ?_);clear bC bW;have lJ:=vI j;by_cases dP:j<min np 3
 ·have hd:decide ((j:Int)<((min np 3:Nat):Int))=true:=by simpa using dP
  refine ah ?_;simp only[seval,aL,abd,show (if(3:Int)<(np:Int)then(3:Int)else(np:Int))=((min np 3:Nat):Int)from aaK,hd];have dS:hw (j+1)=((hw j).1++[lY (tick (hw j).2) l (aA.getD (im.getD j 0).toNat 0) i],tick (tick (tick (tick (tick (hw j).2))))):=by rw[AM,AM];rfl
  have p9:=oh j;generalize GI:hw j=hj at lJ dS p9⊢;obtain⟨ts,ρj⟩:=hj;dsimp only at lJ dS p9⊢;refine aH ((F2 (n:=3) (jO _) lJ (by omega) (by decide) ?_));(try simp only[seval]);refine aD ?_;refine⟨λhc=> ?_,λhc=> ?_⟩
  ·obtain⟨v,og⟩:=bK (xs:=im) (i:=j) (by omega);have hvr:=tY.Ij v (um og);obtain⟨v,rfl⟩:∃v':Nat,v=v':=⟨v.toNat,by omega⟩;have Dh:im.getD j 0=v:=(by rw[SE,og];rfl);rw[Dh,VI]at dS;obtain⟨n,AT⟩:=bK (xs:=aA) (i:=v) (by omega);have wX:aA.getD v 0=n:=(by rw[SE,AT];rfl);rw[wX]at dS;have sf:=tT n (um AT);have yJ:SD.wrap ((j:Int)+1)=((j+1:Nat):Int):=(by rw[br _ (by omega)];rfl);have lZ:(0<=(j:Int)/\(j:Int)<(np:Int))=True:=(by simp;omega);have AE:(0<=(v:Int)/\(v:Int)<(np:Int))=True:=(by simp;omega);have aE:(im.take j).length=j:=(by rw[TC];omega);have amH:(im.take j).map iv++[AV.val (SF SD v)]=(im.take (j+1)).map iv:=(by rw[Uq,og,Tn];rfl);refine aK ?_;refine ah ?_;simp only[seval,z1,ur,y5,BO,eg og,lZ,aE];refine⟨by omega,?_⟩;rw[amH];have qY:=OU l n i;have uR:=λ(L:List aa) k kp=>Rd (lv:=lv) (k:=k) (kp:=kp) (h:=l) (n:=n) (hours:=i) (e:=.opn (N+2)) (jO L) lJ.tick (by omega) (by omega) (by omega) (by omega) (by rw[fw,Wh];omega);simp only[fw]at uR;obtain⟨y,hy⟩:∃y,y=lY (tick ρj) l n i:=⟨_,rfl⟩;rw[<- hy]at dS uR;have xd:y.l=[iv y.number.min,iv y.number.max,iv y.hour.min,iv y.hour.max]:=rfl;have eE:∀FP,FP=ts.flatMap aB.l->aa.own 4 (FP++y.l) 48=fO (hw (j+1)).1:=λFP pG=>(by rw[dS,fO,Kz,pG]);rcases UL j with vr|vr
   ·subst vr;obtain rfl:ts=[]:=UI p9;have de:fF (N+6+np) 0=.sl 0 [] .exact:=rfl;have l5:∀o,gO 0 o=[]:=λ_=>rfl;have vu:(0<(np:Int))=True:=(by simp;omega);rw[de,l5,SO];refine nI [13,15,17] [0,1,2,3,4,5,6,7,8,9,10,11,12,13,14,15,16,17] [⟨0,false,[],[([13],[13])]⟩,⟨1,false,[],[([13],[13])]⟩,⟨2,false,[],[]⟩,⟨3,false,[],[]⟩,⟨4,false,[],[]⟩,⟨5,false,[],[]⟩,⟨6,false,[],[]⟩,⟨7,false,[],[]⟩,⟨8,false,[],[]⟩,⟨9,false,[],[]⟩,⟨10,false,[],[]⟩,⟨11,false,[],[]⟩,⟨12,false,[],[]⟩,⟨13,true,[13],[]⟩,⟨14,false,[13],[]⟩,⟨15,true,[13,15],[]⟩,⟨16,false,[13,15],[]⟩,⟨17,true,[13,15,17],[]⟩] (λD=>bif isDone 17 D then Gf (tick (tick (tick (tick (tick ρj)))))++(YY [iv first,iv i,iv am,.sl 0 [] (.opn (N+3)),pv,.bz (N+6+np) 0 1 0] 0 np 1++(gP++[.own 4 y.l 48]))else bif isDone 15 D then Gf (tick (tick (tick (tick (tick ρj)))))++(YY [iv first,iv i,iv am,.sl 0 [] (.opn (N+3)),pv,.sl 0 [] .exact] 0 np 1++(gP++[.own 4 y.l 48]))else bif isDone 13 D then Gf (tick (tick (tick (tick (tick ρj)))))++(YY [iv first,iv i,iv am,.sl 0 [] (.opn (N+3)),pv,.sl 0 [] .exact] 0 np 1++gP)else Gf (tick ρj)++(YY [iv first,iv i,iv am,.sl 0 [] (.opn (N+3)),pv,.sl 0 [] .exact] 0 np 1++gP)) ?_;simp only[seval,xD,us,y1,nv,eg og,lZ,eg AT,AE,aL,iZ,n0,w0,Ey,vu,SC];refine kz y.av _ (cC (uR _ _ _ ⟨rfl,rfl⟩)) ?_;(try simp only[seval,xD,us,y1,nv,eg og,lZ,eg AT,AE,aL,iZ,n0,w0,Ey,vu,SC,aB.av,xd]);refine ah ?_;simp only[seval,show SD.wrap 1=1 from br _ (by omega),show (0:Int)+1=1 from rfl];have e1:(hw (0+1)).2=tick (tick (tick (tick (tick ρj)))):=(by rw[dS]);have e2:gO (0+1) (fO (hw (0+1)).1)=[.own 4 [iv y.number.min,iv y.number.max,iv y.hour.min,iv y.hour.max] 48]:=(by rw[<- eE [] rfl];rfl);refine hR _ ⟨by omega,trivial,?_⟩;rw[e1,e2];exact cz
   ·obtain⟨n2,qR⟩:∃n2,j=n2+1:=⟨j-1,by omega⟩;have cy:fF (N+6+np) j=.bz (N+6+np+n2) 0 j 0:=(by rw[qR];rfl);have vo:∀o,(gO j o)[n2]?=some o:=λo=>(by rw[qR];have:=CK n2 o [];rwa [SO]at this);have vH:∀o,(gO j o).set n2 .gone=gO j .gone:=λo=>(by rw[qR];have:=CL n2 o .gone [];rwa [SO,SO]at this);have pN:∀a,gO j .gone++[a]=gO (j+1) a:=λa=>(by rw[qR];exact RP _ _);have kg:∀o,(gO j o).length=j:=yi j;have eE:=eE _ rfl;rw[cy];unfold fO;obtain⟨FP,pG⟩:∃FP,FP=ts.flatMap aB.l:=⟨_,rfl⟩;have wJ:FP.length=j* 4:=(by rw[pG,Ky,p9]);rw[<- pG]at eE⊢;refine nI [13,15,17] [0,1,2,3,4,5,6,7,8,9,10,11,12,13,14,15,16,17] [⟨0,false,[],[([13],[13])]⟩,⟨1,false,[],[([13],[13])]⟩,⟨2,false,[],[]⟩,⟨3,false,[],[]⟩,⟨4,false,[],[]⟩,⟨5,false,[],[]⟩,⟨6,false,[],[]⟩,⟨7,false,[],[]⟩,⟨8,false,[],[]⟩,⟨9,false,[],[]⟩,⟨10,false,[],[]⟩,⟨11,false,[],[]⟩,⟨12,false,[],[]⟩,⟨13,true,[13],[]⟩,⟨14,false,[13],[]⟩,⟨15,true,[13,15],[]⟩,⟨16,false,[13,15],[]⟩,⟨17,true,[13,15,17],[]⟩] (λD=>bif isDone 17 D then Gf (tick (tick (tick (tick (tick ρj)))))++(YY [iv first,iv i,iv am,.sl 0 [] (.opn (N+3)),pv,.bz (N+6+np+j) 0 (j+1) 0] 0 np (j+1)++(gP++gO (j+1) (.own 4 (FP++y.l) 48)))else bif isDone 15 D then Gf (tick (tick (tick (tick (tick ρj)))))++(YY [iv first,iv i,iv am,.sl 0 [] (.opn (N+3)),pv,.bz (N+6+np+n2) 0 j 0] 0 np (j+1)++(gP++gO (j+1) (.own 4 (FP++y.l) 48)))else bif isDone 13 D then Gf (tick (tick (tick (tick (tick ρj)))))++(YY [iv first,iv i,iv am,.sl 0 [] (.opn (N+3)),pv,.bz (N+6+np+n2) 0 j 0] 0 np (j+1)++(gP++gO j (.own 4 FP 48)))else Gf (tick ρj)++(YY [iv first,iv i,iv am,.sl 0 [] (.opn (N+3)),pv,.bz (N+6+np+n2) 0 j 0] 0 np (j+1)++(gP++gO j (.own 4 FP 48)))) ?_;simp only[seval,xD,us,y1,nv,eg og,lZ,eg AT,AE,aL,iZ,n1,w1,v1,vo,vH,pN,kg,wJ,SC];refine kz y.av _ (cC (uR _ _ _ ⟨rfl,rfl⟩)) ?_;(try simp only[seval,xD,us,y1,nv,eg og,lZ,eg AT,AE,aL,iZ,n1,w1,v1,vo,vH,pN,kg,wJ,SC,aB.av,xd]);refine⟨vr,by omega,?_⟩;refine ah ?_;simp only[seval,yJ];refine hR _ ⟨by omega,trivial,?_⟩;rw[<- eE,show (hw (j+1)).2=tick (tick (tick (tick (tick ρj)))) by rw[dS]];exact cz
  ·refine bR ?_;exact⟨(j,tick ρj),⟨by dsimp only;omega,by dsimp only;omega,lJ.tick.mono (by omega)⟩,dY (by simp only[seval];simp[a_,Wk.refl]) (by rw[GI])⟩
 ·have hd:decide ((j:Int)<((min np 3:Nat):Int))=false:=by simpa using dP
  refine ah ?_;simp only[seval,aL,abd,show (if(3:Int)<(np:Int)then(3:Int)else(np:Int))=((min np 3:Nat):Int)from aaK,hd];refine aD ?_;refine bR ?_;exact⟨(j,(hw j).2),⟨by dsimp only;omega,by dsimp only;omega,lJ.mono (by omega)⟩,dY (by simp only[seval];simp[a_,Wk.refl]) rfl⟩
theorem aiQ{i np ns cn:Nat}{first am:Int}{l aA bX:List Int}{pv sv B3:AV}{G:List aa}{iB:Bool}{ρ4:bh}{zc:aa}{YY:List AV->Nat->Nat->Nat->List aa}{Ψ:an->AS->Prop}(hT:dO Gf t N)(hY:YW Gf N zc YY)(hb:b<2^10)(hi:1<=i/\i<=3)(oV:0<=first/\first<=90)(w_:1<=am/\am<=3)(aq:ny first am l i)(gZ:cn<=2)(Hp:ρ4.Ok (b+91)):
  aQ lv SA none 240 (cs (cf (lq 10 oI))) ⟨[(20,iv cn),(16,.sl ns (bX.map iv) (.opn (N+5))),(15,.sl np (aA.map iv) (.opn (N+4))),(13,B3),(11,.sl (i+1) (l.map iv) (.opn (N+2))),(10,.op (N+1) 0),(6,.op N 0),(0,.op t 0),(2,bv iB)],Gf ρ4++(YY [iv first,iv i,iv am,.sl 0 [] (.opn (N+3)),pv,sv] 0 np ns++G)⟩ (an.then (λs'=>∃y:List Seen×bh,(y.1.length<=2/\(∀s∈y.1,0<=s.hour/\s.hour<=i/\∃τ,s.next=nH τ (l.getD s.hour.toNat 0) 1 0 99)/\y.2.Ok (b+97))/\s'.Sub ⟨[(16,.sl ns (bX.map iv) (.opn (N+5))),(15,.sl np (aA.map iv) (.opn (N+4))),(13,B3),(11,.sl (i+1) (l.map iv) (.opn (N+2))),(10,.op (N+1) 0),(6,.op N 0),(0,.op t 0),(2,bv iB)],Gf y.2++(YY [iv first,iv i,iv am,.sl y.1.length (y.1.flatMap Seen.l) (.opn (N+3)),pv,sv] y.1.length np ns++G)⟩) Ψ):=by
 obtain⟨vd,rU,y0,y1,y3,y4,y5,nv,zJ,BN,BO,qG,tH,de⟩:=hY;have jO:∀L:List aa,dO (λτ=>Gf τ++L) t (N+L.length):=λL=>hT.more L;have fw:=aq.len;unfold oI WW;dsimp only[S7,lq,cs,cf];obtain⟨hz,AN⟩:∃hz:Nat->List Seen×bh,∀j,hz j=sE l i ρ4 j:=⟨_,λ_=>rfl⟩;have o4:∀j,(hz j).1.length=j:=λj=>by rw[AN];exact ac9 _ _ _ _
 have MS:∀j:Nat,(hz j).2.Ok (b+91+3* j):=λj=>by rw[AN];exact(adb Hp _ _ j).mono (by omega)
 have amM:hz 0=([],ρ4):=AN 0;refine bU ?_;refine eI cn (λj:Nat=>[(20,iv ((cn:Int)-j))]) (λj=>Gf (hz j).2++(YY [iv first,iv i,iv am,.sl j ((hz j).1.flatMap Seen.l) (.opn (N+3)),pv,sv] j np ns++G)) (λ_=>True) (λ_ _=>rfl) (by simp only[seval];simp[a_,Wk.refl]) (by rw[amM];rfl) (λ_ _ _=>by simp[hT.len,vd]) trivial (λbC bW j mE _ R hR=> ?_);clear bC bW;have lJ:=MS j;refine aj ?_;refine aD ?_;refine⟨λhc=> ?_,λhc=> ?_⟩
 ·have dP:j<cn:=by omega
  have dS:hz (j+1)=((hz j).1++[⟨dg (hz j).2 i,nH (tick (hz j).2) (l.getD (dg (hz j).2 i).toNat 0) 1 0 99⟩],tick (tick (tick (hz j).2))):=by rw[AN,AN];rfl
  have p9:=o4 j;generalize GI:hz j=hj at lJ dS p9⊢;obtain⟨ss,ρj⟩:=hj;dsimp only at lJ dS p9⊢;have hur:=lS ρj i;obtain⟨u,hu⟩:∃u:Nat,dg ρj i=u:=⟨(dg ρj i).toNat,by omega⟩;rw[hu,VI]at dS;have hui:u<=i:=by omega
  obtain⟨n,LW⟩:=bK (xs:=l) (i:=u) (by omega);have wX:l.getD u 0=n:=by rw[SE,LW];rfl
  rw[wX]at dS;have sf:=aq.ge (by omega) u hui;rw[wX]at sf;have auQ:0<=n/\n<=1000:=by
   have:=aeu (v:=0) sf (by omega) oV w_ (by omega);omega
  have yJ:SD.wrap ((cn:Int)-j-1)=(cn:Int)-((j+1:Nat):Int):=by rw[br _ (by omega)];omega
  have hbu:(0<=(u:Int)/\(u:Int)<(i:Int)+1)=True:=by simp;omega
  refine aK ?_;refine ah ?_;simp only[seval,y1];refine aH ((pF (n:=i) (jO _) lJ (by omega) (by omega) ?_));rw[hu];(try simp only[seval]);have P_:=λ(L:List aa) k kp=>Kg (lv:=lv) (k:=k) (kp:=kp) (n:=n) (m:=1) (lo:=0) (hi:=99) (jO L) lJ.tick (by omega) (by omega) (by decide);obtain⟨y,hy⟩:∃y,y=nH (tick ρj) n 1 0 99:=⟨_,rfl⟩;rw[<- hy]at dS P_;obtain⟨FP,pG⟩:∃FP,FP=ss.flatMap Seen.l:=⟨_,rfl⟩;have wJ:FP.length=j* 3:=by rw[pG,Rt,p9]
  have hFQ:FP++[iv u,iv y.min,iv y.max]=(hz (j+1)).1.flatMap Seen.l:=by rw[dS,Kz,pG];rfl
  rw[<- pG];refine nI [9,12,14] [0,1,2,3,4,5,6,7,8,9,10,11,12,13,14] [⟨0,false,[],[([9],[9])]⟩,⟨1,false,[],[([9],[9])]⟩,⟨2,false,[],[([9],[9])]⟩,⟨3,false,[],[]⟩,⟨4,false,[],[]⟩,⟨5,false,[],[]⟩,⟨6,false,[],[]⟩,⟨7,false,[],[]⟩,⟨8,false,[],[]⟩,⟨9,true,[9],[]⟩,⟨10,false,[9],[]⟩,⟨11,false,[9],[]⟩,⟨12,true,[9,12],[]⟩,⟨13,false,[9,12],[]⟩,⟨14,true,[9,12,14],[]⟩] (λD=>bif isDone 14 D then Gf (tick (tick (tick ρj)))++(YY [iv first,iv i,iv am,.sl (j+1) (FP++[iv u,iv y.min,iv y.max]) (.opn (N+3)),pv,sv] (j+1) np ns++G)else bif isDone 12 D then Gf (tick (tick (tick ρj)))++(YY [iv first,iv i,iv am,.sl j FP (.opn (N+3)),pv,sv] (j+1) np ns++G)else bif isDone 9 D then Gf (tick (tick (tick ρj)))++(YY [iv first,iv i,iv am,.sl j FP (.opn (N+3)),pv,sv] j np ns++G)else Gf (tick ρj)++(YY [iv first,iv i,iv am,.sl j FP (.opn (N+3)),pv,sv] j np ns++G)) ?_;simp only[seval,zS1,Ez,y1,y3,nv,zJ,eg LW,hbu,wJ,fw];have xd:y.l=[iv y.min,iv y.max]:=rfl;refine kz y.av _ (cC (P_ _ _ _ ⟨rfl,rfl⟩)) ?_;(try simp only[seval,zS1,Ez,y1,y3,nv,zJ,eg LW,hbu,wJ,fw,iS.av,xd]);refine⟨by omega,?_⟩;refine ah ?_;simp only[seval,yJ];refine hR _ ⟨by omega,trivial,?_⟩;rw[<- hFQ,dS];exact cz
 ·have vt:j=cn:=by omega
  subst vt;clear hR;refine bR ?_;have cy:=o4 j;have Mr:∀s∈(hz j).1,0<=s.hour/\s.hour<=i/\∃τ,s.next=nH τ (l.getD s.hour.toNat 0) 1 0 99:=by
   rw[AN];exact ada (λτ=>by have:=lS τ i;omega) j
  refine⟨((hz j).1,(hz j).2),⟨by dsimp only;omega,Mr,lJ.mono (by omega)⟩,dY (by simp only[seval];simp[a_,Wk.refl]) ?_⟩;dsimp only;rw[cy]
end
section
variable (lv:Bool)(P:SI)
def xE (s:AS)(o:Tx)(next:AS->Prop):Prop:=match o.op with
 |.buildSlice t len parts=>ao (qu P t) λ(e,sz,z)=>len* sz<=2^24/\ao (kB s parts.toList) λmy=>ao (oL (iq.at (.elems sz)) (gG z (len* sz)) my) λl=>next ((⟨s.T,s.H++[.cells l e]⟩:AS).put o.dst (.bz s.H.length 0 len len))
 |.call c=>match c.callee with
  |.builtin .append=>match c.args.toList,c.argTypes.toList with
   |[x,y],[t,t']=>ao (jC P t t') λ(elem,sz,_)=>ao (s.ev x) λa=>ao (s.ev y) λb=>a.wu λn l e=>e=.exact/\ao (s.src sz b) λ(m,l')=>l.length=n* sz/\l'.length=m* sz/\n+m<=2^30/\0<m/\next ((⟨s.T,s.H++[.own sz (l++l') elem]⟩:AS).put o.dst (.bz s.H.length 0 (n+m) 0))
   |_,_=>False
  |_=>False
 |_=>False
def rC (m:Nat):Nat->List Tx->AS->(AS->Prop)->(AV->AS->Prop)->Prop
 |_,[],s,K,_=>K s
 |k,o::rest,s,K,bad=>o.guard=none/\(bif k==m then xE P s o (λs'=>rC m (k+1) rest s' K bad)else mV lv P s o (λs'=>rC m (k+1) rest s' K bad) bad)
end
section
variable {lv:Bool}{P:SI}{r:Option Nat}{s:AS}
theorem xE.step{o:Tx}{next:AS->Prop}{bad:AV->AS->Prop}(h:xE P s o next):Step lv P r o s next bad:=by
 unfold xE at h;split at h
 ·rename_i t len parts ho;obtain⟨⟨e,sz,z⟩,h1,h2,h⟩:=h.out;obtain⟨my,h3,h⟩:=h.out;obtain⟨l,h4,h⟩:=h.out;exact adN ho h1 h2 h3 h4 h
 ·rename_i c ho;split at h
  ·rename_i ba;split at h
   ·rename_i x y t t' ha dX;obtain⟨⟨elem,sz,z⟩,h1,hA⟩:=h.out;obtain⟨a,h2,hB⟩:=hA.out;obtain⟨b,h3,hC⟩:=hB.out;obtain⟨n,l,e,e1,e0,hD⟩:=PC hC;subst e1 e0;obtain⟨⟨m,l'⟩,h4,h5,h6,h7,h8,h9⟩:=hD.out;exact adL ho ba (nG ha) (sN dX) h1 h2 h3 h4 h5 h6 h7 h8 h9
   ·exact h.elim
  ·exact h.elim
 ·exact h.elim
theorem rC.ady{m:Nat}{K:AS->Prop}{bad:AV->AS->Prop}:∀(l:List Tx)(k:Nat)(s:AS),rC lv P m k l s K bad->B9 lv P r l s K bad
 |[],k,s,h=>h
 |o::rest,k,s,h=>by
  obtain⟨h1,h2⟩:=h;refine⟨h1,?_⟩;have hs:∀{s'},rC lv P m (k+1) rest s' K bad->B9 lv P r rest s' K bad:=λ{s'} h=>rC.ady rest (k+1) s' h;cases hkm:(k==m)<;>rw[hkm]at h2<;>simp only[cond_true,cond_false]at h2
  rotate_left
  ·exact(xE.step h2).mono (λ_ h=>hs h) (λ_ _ h=>h)
  ·exact(mV.sound (r:=r) h2).mono (λ_ h=>hs h) (λ_ _ h=>h)
theorem ags{nt id:Nat}{ops:Array Tx}{Φ:an->AS->Prop}(m:Nat)(hd:j9 nt ops=true)(h:rC lv P m 0 ops.toList s (Φ .normal) (λpv s=>Φ (.panic pv) s)):aQ lv P r nt (.region id ops false) s Φ:=agt hd (h.ady ops.toList 0 s)
end
theorem afj:type_of% @xE.eq_1:=by intros;rw[xE.eq_1]
theorem aoM:type_of% @rC.eq_1:=by intros;rw[rC.eq_1]
theorem aoL:type_of% @rC.eq_2:=by intros;rw[rC.eq_2]
attribute [seval] afj aoM aoL
end Go.Gg
namespace Go.Gg.Tk
theorem aaz{x:ak}{bm:Nat}:∀(d:Nat)(pre:List Int),2<=pre.length->nf x bm d pre=(jo x d pre).map cO
 |0,pre,_=>by
  unfold nf jo;split<;>rfl
 |d+1,pre,h=>by
  unfold nf jo;split
  ·rw[VE];congr 1;funext n;rw[if_neg (λhc=>by have:=hc.1;omega),aaz d _ (by simp;omega)]
  ·rfl
theorem Ru{α:Type}{t:Nat}{f:Nat->List α}:∀m,((S0 m).flatMap λn=>if n≠t then[]else f n)=if t<m then f t else[]
 |0=>by simp
 |m+1=>by
  rw[U4,Un,Ru m];simp only[T1,List.flatMap_nil,SO];by_cases h:m=t
  ·subst h;rw[if_neg (Nat.lt_irrefl _),if_neg (by simp),if_pos (Uz _),UN]
  ·rw[if_pos h,SO];by_cases h2:t<m
   ·rw[if_pos h2,if_pos (by omega)]
   ·rw[if_neg h2,if_neg (by omega)]
theorem aaD{x:ak}{bm:Nat}(hh:1<=x.hours)(ht:bm<x.am.toNat+1):kU x bm=(wY x bm).map cO:=by
 unfold kU wY;obtain⟨d,hd⟩:∃d,x.hours.toNat=d+1:=⟨x.hours.toNat-1,by omega⟩;rw[hd];unfold nf;simp only[TG,Vl,Wh,true_and];rw[show ([x.first]:List Int).getLastD 0=x.first from rfl];split
 ·rw[Ru (t:=bm) (f:=λn=>nf x bm d ([x.first]++[x.first+(n:Int)])),if_pos ht,aaz d _ (by simp)];rfl
 ·rfl
theorem alv{x:ak}(hh:1<=x.hours):((S0 (x.am.toNat+1)).flatMap λt=>wY x t)=aM x:=by
 unfold aM wY;obtain⟨d,hd⟩:∃d,x.hours.toNat=d+1:=⟨x.hours.toNat-1,by omega⟩;rw[hd,Wh,show jo x (d+1) [x.first]=(if mR x 0 x.first then(S0 (x.am.toNat+1)).flatMap λn:Nat=>jo x d [x.first,x.first+(n:Int)]else[])from rfl];split
 ·rfl
 ·simp
end Go.Gg.Tk
namespace Go.Gg.Tk
theorem aqv{p:Nat->Bool}{m k:Nat}(h:m<=k):((S0 k).filter λn=>decide (n<m)&&p n)=(S0 m).filter p:=by
 obtain⟨j,rfl⟩:=Nat.exists_eq_add_of_le h;rw[List.range_add,ZR];have h1:((S0 j).map (m+·)).filter (λn=>decide (n<m)&&p n)=[]:=by
  rw[YR];intro a ha;obtain⟨b,_,rfl⟩:=Tm.1 ha;simp only[Tg,decide_eq_true_eq,not_and];exactλhlt=>absurd hlt (by omega)
 rw[h1,SO];refine Ve λn hn=> ?_;rw[TW]at hn;simp[hn]
theorem Kx{α:Type}{c:Nat->Bool}{f:Nat->List α}:∀l:List Nat,(l.flatMap λn=>if c n=true then[]else f n)=(l.filter λn=> !c n).flatMap f
 |[]=>rfl
 |n::l=>by
  rw[T1,ZQ,Kx l];cases hc:c n<;>simp
def up (g:aB->Nat->Bool)(m:Nat):List aB->List Nat->List (List Nat)
 |[],t=>[t]
 |y::ys,t=>((S0 m).filter λn=>g y n&& !t.contains n).flatMap λn=>up g m ys (t++[n])
theorem NM{g:aB->Nat->Bool}{q:aB->Nat}{m:Nat}(hm:m<=9):∀(ys:List aB)(u:Nat)(t:List Nat),(∀y∈ys,∀n,n<9->(q y).testBit n=(decide (n<m)&&g y n))->(∀n,u.testBit n=t.contains n)->k_ (ys.map q) u t=up g m ys t
 |[],u,t,_,_=>rfl
 |y::ys,u,t,hq,hu=>by
  rw[U5,k_,up];have e1:((S0 9).flatMap λn=>if(u.testBit n|| !(q y).testBit n)=true then[]else k_ (ys.map q) (u|||2^n) (t++[n]))=((S0 9).filter λn=> !(u.testBit n|| !(q y).testBit n)).flatMap λn=>k_ (ys.map q) (u|||2^n) (t++[n]):=Kx _;rw[e1];have e2:((S0 9).filter λn=> !(u.testBit n|| !(q y).testBit n))=(S0 m).filter λn=>g y n&& !t.contains n:=by
   rw[<- aqv hm];refine Ve λn hn=> ?_;rw[TW]at hn;rw[hu,hq y (by simp) n hn];cases t.contains n<;>cases decide (n<m)<;>cases g y n<;>rfl
  rw[e2];congr 1;funext n;refine NM hm ys _ _ (λz hz=>hq z (by simp[hz])) λi=> ?_;rw[Xp,hu,VT,YS];simp[eq_comm]
theorem ach{h:List Int}{a:Int}{g:aB->Nat->Bool}{m:Nat}(hr:Eo h=(S0 m).map λi:Nat=>a+(i:Int)):∀(ys:List aB)(t:List Nat),(∀y∈ys,∀n,n<m->fits h y (a+(n:Int))=g y n)->lO h ys (t.map λi:Nat=>a+(i:Int))=(up g m ys t).map λl=>l.map λi:Nat=>a+(i:Int)
 |[],t,_=>rfl
 |y::ys,t,hg=>by
  rw[lO,up,hr,List.filter_map,VO,VE];have e:(S0 m).filter ((λn=>fits h y n&& !(t.map λi:Nat=>a+(i:Int)).contains n)∘λi:Nat=>a+(i:Int))=(S0 m).filter λn=>g y n&& !t.contains n:=by
   refine Ve λn hn=> ?_;rw[TW]at hn;simp only[Wm];rw[hg y (by simp) n hn];congr 1;congr 1;rw[Vh,YI,YI,Tm];constructor
   ·rintro⟨i,h1,h2⟩
    have:i=n:=(by omega);rw[<- this];exact h1
   ·exactλh1=>⟨n,h1,rfl⟩
  rw[e];congr 1;funext n;have:=ach hr ys (t++[n]) (λz hz=>hg z (by simp[hz]));rw[Tn]at this;exact this
end Go.Gg.Tk
namespace Go.Gg.Tk
theorem acy{h:List Int}{ns:List Nat}{nl:List Int}{q:aB->Nat}(hl:nl.length=ns.length):∀(ss:List aB)(u:Nat)(t:List Nat),(∀s∈ss,∀p,p<ns.length->(q s).testBit (ns.getD p 0)=fits h s (nl.getD p 0))->(∀n,u.testBit n=t.contains n)->mQ ns.length ns (ss.map q) u t=nm h nl ss t
 |[],u,t,_,_=>rfl
 |s::ss,u,t,hq,hu=>by
  rw[U5,mQ,nm,hl];have e1:((S0 ns.length).flatMap λp=>if(u.testBit p|| !(q s).testBit (ns.getD p 0))=true then[]else mQ ns.length ns (ss.map q) (u|||2^p) (t++[p]))=((S0 ns.length).filter λp=> !(u.testBit p|| !(q s).testBit (ns.getD p 0))).flatMap λp=>mQ ns.length ns (ss.map q) (u|||2^p) (t++[p]):=Kx _;rw[e1];have e2:((S0 ns.length).filter λp=> !(u.testBit p|| !(q s).testBit (ns.getD p 0)))=(S0 ns.length).filter λp=>fits h s (nl.getD p 0)&& !t.contains p:=by
   refine Ve λp hp=> ?_;rw[TW]at hp;rw[hu,hq s (by simp) p hp];cases t.contains p<;>cases fits h s (nl.getD p 0)<;>rfl
  rw[e2];congr 1;funext p;refine acy hl ss _ _ (λz hz=>hq z (by simp[hz])) λi=> ?_;rw[Xp,hu,VT,YS];simp[eq_comm]
theorem acl{g:aB->Nat->Bool}{m:Nat}:∀{ys:List aB}{t ns:List Nat},ns∈up g m ys t->(∀n∈t,n<m)->ns.length=t.length+ys.length/\∀n∈ns,n<m
 |[],t,ns,h,ht=>by
  simp only[up,S9]at h;subst h;exact⟨by simp,ht⟩
 |y::ys,t,ns,h,ht=>by
  simp only[up,S5,Uy,TW]at h;obtain⟨n,⟨hn,_⟩,h⟩:=h;obtain⟨h1,h2⟩:=acl h (λk hk=>by
   rcases SS.1 hk with h'|h'
   ·exact ht k h'
   ·rw[S9.1 h'];exact hn)
  exact⟨by rw[h1];simp;omega,h2⟩
end Go.Gg.Tk
namespace Go.Gg.Tk
structure xH (x:ak)(h:List Int):Prop where
 lo:2<=h.length
 hi:h.length<=4
 head:h.headD 0=x.first
 span:h.getLastD 0<=x.first+9
 pad:mX (cO h)
theorem acD{h:List Int}(hl:2<=h.length):(cO h).getD 0 0=h.headD 0:=by
 match h,hl with
 |a::b::l,_=>rfl
theorem acE{h:List Int}(hl:2<=h.length)(h4:h.length<=4):(cO h).getD 3 0=h.getLastD 0:=by
 match h,hl,h4 with
 |[a,b],_,_=>rfl
 |[a,b,c],_,_=>rfl
 |[a,b,c,d],_,_=>rfl
theorem ape{h:List Int}{n:Int}(hl:2<=h.length)(h4:h.length<=4):jz (cO h) n=jz h n:=by
 match h,hl,h4 with
 |[a,b],_,_=>exact OT (i:=0) (k:=2) (z:=b) (h:=[a,b]) (n:=n) rfl (by simp)
 |[a,b,c],_,_=>exact OT (i:=0) (k:=1) (z:=c) (h:=[a,b,c]) (n:=n) rfl (by simp)
 |[a,b,c,d],_,_=>exact OT (i:=0) (k:=0) (z:=d) (h:=[a,b,c,d]) (n:=n) rfl (by simp)
def pc (h:List Int):Nat:=(h.getLastD 0-h.headD 0).toNat
theorem Jv{x:ak}{h:List Int}(hh:xH x h)(y:aB){n:Nat}(hn:n<9):(cm (cO h) y).testBit n=(decide (n<pc h)&&fits h y (h.headD 0+(n:Int))):=by
 unfold cm;rw[Cs];unfold lV fits;rw[acD hh.lo,acE hh.lo hh.hi,ape hh.lo hh.hi];have e1:decide (n<9)=true:=decide_eq_true hn;have e2:decide (h.headD 0+(n:Int)<h.getLastD 0)=decide (n<pc h):=by
  unfold pc;rw[Vh];simp only[decide_eq_true_eq];omega
 rw[e1,e2,UP];by_cases hm:n<pc h
 ·have e3:0<=jz h (h.headD 0+(n:Int)):=by
   unfold pc at hm;refine OS (a:=h.headD 0) ?_ (by omega) (by omega);have:=hh.lo
   match h,this with
   |a::b::l,_=>rfl
  rw[decide_eq_true e3,decide_eq_true hm];simp
 ·rw[decide_eq_false hm];simp
theorem acg{x:ak}{h:List Int}(hh:xH x h):lO h x.pieces []=(gg x (cO h)).map λl=>l.map λi:Nat=>h.headD 0+(i:Int):=by
 have GQ:pc h<=9:=by unfold pc;have:=hh.span;have:=hh.head;omega
 have e1:gg x (cO h)=up (λy n=>fits h y (h.headD 0+(n:Int))) (pc h) x.pieces []:=
  NM GQ x.pieces 0 [] (λy _ n hn=>Jv hh y hn) (by simp)
 rw[e1];exact ach (a:=h.headD 0) rfl x.pieces [] λy _ n _=>rfl
end Go.Gg.Tk
namespace Go.Gg.Tk
theorem aoI{x:ak}{h:List Int}(hh:xH x h){ns:List Nat}(hn:ns∈gg x (cO h)):ns.length=x.pieces.length/\∀n∈ns,n<pc h:=by
 have GQ:pc h<=9:=by unfold pc;have:=hh.span;have:=hh.head;omega
 have e1:gg x (cO h)=up (λy n=>fits h y (h.headD 0+(n:Int))) (pc h) x.pieces []:=
  NM GQ x.pieces 0 [] (λy _ n hn=>Jv hh y hn) (by simp)
 rw[e1]at hn;have:=acl hn (by simp);exact⟨by simpa using this.1,this.2⟩
theorem ao9{x:ak}{h:List Int}(hh:xH x h){ns:List Nat}(hn:ns∈gg x (cO h)):iE x (cO h) ns=nm h (ns.map λi:Nat=>h.headD 0+(i:Int)) x.aC []:=by
 obtain⟨h1,h2⟩:=aoI hh hn;have GQ:pc h<=9:=by unfold pc;have:=hh.span;have:=hh.head;omega
 unfold iE;rw[<- h1];refine acy (by simp) x.aC 0 [] (λs _ p hp=> ?_) (by simp);have rZ:ns.getD p 0=ns[p]:=by rw[SE,SX hp];rfl
 have hlt:=h2 ns[p] (Ww hp);have hg2:(ns.map λi:Nat=>h.headD 0+(i:Int)).getD p 0=h.headD 0+(ns[p]:Int):=by
  rw[SE,To,SX hp];rfl
 rw[rZ,hg2,Jv hh s (by omega),decide_eq_true hlt,UP]
def eP (t:Tr):List Int:=dE (cO t.bI) (t.aA.map λn=>(n-t.bI.headD 0).toNat) t.bX
theorem aen{x:ak}{h:List Int}(hh:xH x h){ns:List Nat}(hn:ns∈gg x (cO h)):(sM x h (ns.map λi:Nat=>h.headD 0+(i:Int))).map eP=(iE x (cO h) ns).map (dE (cO h) ns):=by
 unfold sM;rw[WR,ao9 hh hn];refine VF λos _=> ?_;unfold eP;simp only[Wm,WR];congr 1
 conv=>rhs;rw[<- List.map_id ns]
 refine VF λn _=> ?_;simp only[Wm,id];omega
theorem u6{α β:Type}{l:List α}{f g:α->List β}(h:∀a∈l,f a=g a):l.flatMap f=l.flatMap g:=by
 rw[WU,WU,VF h]
theorem ad4{α:Type}:∀ll:List (List α),(ll.map (·.take 1)).flatten.take 1=ll.flatten.take 1
 |[]=>rfl
 |[]::ll=>by simpa using ad4 ll
 |(a::l)::ll=>by simp
theorem as9{x:ak}{h:List Int}{deep:Int}(hh:xH x h):jA x deep (cO h)=(sL x deep h).map eP:=by
 have e2:(gF x h).map eP=(((gg x (cO h)).map λns=>(iE x (cO h) ns).map λos=>dE (cO h) ns os)).flatten:=by
  unfold gF;rw[acg hh,VO,VE,<- WU];exact u6 λns hn=>aen hh hn
 have e1:(v9 x h).map eP=(((gg x (cO h)).map λns=>(iE x (cO h) ns).map λos=>dE (cO h) ns os).map (·.take 1)).flatten:=by
  unfold v9;rw[acg hh,VO,VE,WR,<- WU];refine u6 λns hn=> ?_;simp only[Wm];rw[Wa,aen hh hn]
 unfold jA sL;dsimp only;split
 ·rw[Wa,e1,ad4]
 ·split
  ·exact e1.symm
  ·exact e2.symm
end Go.Gg.Tk
namespace Go.Gg.Tk
theorem AP{x:ak}:∀(d:Nat)(pre h:List Int),pre≠[]->h∈jo x d pre->h.length=pre.length+d/\h.headD 0=pre.headD 0
 |0,pre,h,_,hm=>by
  unfold jo at hm;split at hm
  ·rw[S9]at hm;subst hm;exact⟨rfl,rfl⟩
  ·cases hm
 |d+1,pre,h,hp,hm=>by
  unfold jo at hm;split at hm
  ·obtain⟨n,_,hm⟩:=S5.1 hm;obtain⟨h1,h2⟩:=AP d _ h (by simp) hm;refine⟨by rw[h1];simp;omega,h2.trans ?_⟩
   match pre,hp with
   |a::l,_=>rfl
  ·cases hm
theorem aay{x:ak}{t:Nat}(hx:x.Ok)(ht:t<x.am.toNat+1){h:List Int}(hm:h∈wY x t):xH x h:=by
 have hh:=hx.hours;have G0:cO h∈kU x t:=by rw[aaD hh.1 ht];exact Tm.2 ⟨h,hm,rfl⟩
 have h4:=aav hx G0;unfold wY at hm;split at hm
 ·obtain⟨h1,h2⟩:=AP _ _ _ (by simp) hm;have pQ:2<=h.length:=by rw[h1];simp
  have GH:h.length<=4:=by rw[h1];simp;omega
  have As:h.headD 0=x.first:=h2;refine⟨pQ,GH,As,?_,h4⟩;have:=h4.span;rw[acD pQ,acE pQ GH,As]at this;exact this
 ·cases hm
theorem aez{x:ak}{deep:Int}(hx:x.Ok):((S0 (x.am.toNat+1)).flatMap λt=>IK x deep t)=(aM x).flatMap (sL x deep):=by
 unfold IK;rw[<- alv hx.hours.1,Zy]
end Go.Gg.Tk
namespace Go.Gg.Tk
theorem afE{l:List Nat}{i v p n:Nat}(hi:i<l.length):((pz l i v).getD p 0).testBit n=((l.getD p 0).testBit n||(decide (p=i)&&decide (n=v))):=by
 unfold pz;rw[SE,UV];by_cases h:i=p
 ·subst h;rw[if_pos rfl,if_pos hi,S7,Xp,VT];simp[eq_comm]
 ·rw[if_neg h,<- SE];have:¬p=i:=λe=>h e.symm;simp[this]
def s9 (v:Nat->Nat):Nat->List Nat->List Nat
 |0,l=>l
 |k+1,l=>pz (s9 v k l) k (v k)
theorem acj(t:List Int)(l:List Nat):∀k,sA t k l=s9 (mT t) k l
 |0=>rfl
 |k+1=>by rw[sA,s9,acj t l k]
theorem acF(t:List Int)(l:List Nat):∀k,nq t k l=s9 (sI t) k l
 |0=>rfl
 |k+1=>by rw[nq,s9,acF t l k]
theorem Pz(v:Nat->Nat)(l:List Nat):∀k,(s9 v k l).length=l.length
 |0=>rfl
 |k+1=>by rw[s9,Cl,Pz v l k]
theorem Jg{v:Nat->Nat}{l:List Nat}{p n:Nat}:∀k,k<=l.length->((s9 v k l).getD p 0).testBit n=((l.getD p 0).testBit n||(decide (p<k)&&decide (n=v p)))
 |0,_=>by simp[s9]
 |k+1,h=>by
  rw[s9,afE (by rw[Pz];omega),Jg k (by omega)];by_cases hp:p=k
  ·subst hp;simp
  ·have e:(p<k+1)<->p<k:=(by omega);simp[hp,e]
theorem acw{l m:List Nat}{p n:Nat}(h:l.length=m.length):((ml l m).getD p 0).testBit n=((l.getD p 0).testBit n||(m.getD p 0).testBit n):=by
 unfold ml;rw[SE,List.getElem?_zipWith,SE,SE];by_cases hp:p<l.length
 ·rw[SX hp,SX (by omega)];simp[Xp]
 ·rw[Ux (by omega),Ux (by omega)];simp
theorem acM{hs:List (List Int)}{h g:List Int}:g∈jW hs h<->g∈hs\/g=h:=by
 unfold jW;split
 ·rename_i hm;exact⟨.inl,λe=>e.elim id λe=>e▸hm⟩
 ·rw[SS,S9]
theorem Ry{g:List Int}:∀{l hs:List (List Int)},g∈l.foldl jW hs<->g∈hs\/g∈l
 |[],hs=>by simp
 |a::l,hs=>by
  rw[UY,Ry,acM,SK,or_assoc]
theorem agO(Q:Kn)(t:List Int):(j7 Q t).has=true:=by
 unfold j7;cases h:Q.has
 ·rfl
 ·rw[if_pos rfl];exact h
theorem ad6(x:ak)(deep:Int)(Q:Kn)(t:List Int):(eK x deep Q t).has=true:=by
 have:=agO Q t;unfold eK;dsimp only;split
 ·exact this
 ·split<;>exact this
theorem RE{x:ak}{deep:Int}:∀(ts:List (List Int))(Q:Kn),(ts.foldl (eK x deep) Q).has=(Q.has|| !ts.isEmpty)
 |[],Q=>by simp
 |t::ts,Q=>by rw[UY,RE ts,ad6];simp
theorem amX{F G:Kn}{hs:List (List Int)}:(ig F hs G).has=(F.has||G.has):=by
 unfold ig;cases h:G.has
 ·simp
 ·simp
end Go.Gg.Tk
namespace Go.Gg.Tk
theorem asA{x:ak}{Q:Kn}{t g:List Int}:g∈(eK x 0 Q t).aM<->g∈Q.aM\/g=t.take 4:=by
 have hB:(j7 Q t).aM=Q.aM:=by unfold j7;split<;>rfl
 unfold eK;dsimp only;rw[if_neg (by decide),if_pos rfl,acM,hB]
theorem RA{x:ak}{g:List Int}:∀(ts:List (List Int))(Q:Kn),g∈(ts.foldl (eK x 0) Q).aM<->g∈Q.aM\/∃t∈ts,g=t.take 4
 |[],Q=>by simp
 |t::ts,Q=>by
  rw[UY,RA ts,asA];constructor
  ·rintro((h|h)|⟨u,h1,h2⟩)
   ·exact .inl h
   ·exact .inr ⟨t,by simp,h⟩
   ·exact .inr ⟨u,by simp[h1],h2⟩
  ·rintro(h|⟨u,h1,h2⟩)
   ·exact .inl (.inl h)
   ·rcases SK.1 h1 with rfl|h1
    ·exact .inl (.inr h2)
    ·exact .inr ⟨u,h1,h2⟩
def fe (x:ak)(deep:Int)(j:Nat):List (List Int):=(kU x j).flatMap (jA x deep)
theorem IJ(x:ak)(deep:Int)(j:Nat):gU x deep j=(fe x deep j).foldl (eK x deep) Kn.zero:=rfl
theorem EY(x:ak)(deep:Int)(j:Nat):(gU x deep j).has= !(fe x deep j).isEmpty:=by
 rw[IJ,RE];rfl
theorem atv{x:ak}{j:Nat}{g:List Int}:g∈(gU x 0 j).aM<->∃t∈fe x 0 j,g=t.take 4:=by
 rw[IJ,RA];simp[Kn.zero]
theorem abp{x:ak}{deep:Int}{js:List Nat}{D:Kn}(h:oB x deep js D):D.has=js.any λj=> !(fe x deep j).isEmpty:=by
 induction h with
 |nil=>rfl
 |snoc h hp ih=>rw[amX,ih,EY,ZI];simp
theorem amY{x:ak}{js:List Nat}{D:Kn}{g:List Int}(h:oB x 0 js D):g∈D.aM<->∃j∈js,∃t∈fe x 0 j,g=t.take 4:=by
 induction h with
 |nil=>simp[Kn.zero]
 |@snoc js F j hs h hp ih=>
  have key:g∈(ig F hs (gU x 0 j)).aM<->g∈F.aM\/∃t∈fe x 0 j,g=t.take 4:=by
   unfold ig;split
   ·show g∈hs.foldl jW F.aM<->_;rw[Ry,hp.mem_iff,atv]
   ·rename_i hn;rw[EY]at hn;have:fe x 0 j=[]:=(by simpa using hn);rw[this];simp
  rw[key,ih];constructor
  ·rintro(⟨i,h1,h2⟩|h2)
   ·exact⟨i,by simp[h1],h2⟩
   ·exact⟨j,by simp,h2⟩
  ·rintro⟨i,h1,h2⟩
   rcases SS.1 h1 with h1|h1
   ·exact .inl ⟨i,h1,h2⟩
   ·rw[S9.1 h1]at h2;exact .inr h2
theorem Rz:∀{l hs:List (List Int)},hs.Nodup->(l.foldl jW hs).Nodup
 |[],hs,h=>h
 |a::l,hs,h=>by rw[UY];exact Rz (acN h)
theorem am0{x:ak}{deep:Int}{js:List Nat}{D:Kn}(h:oB x deep js D):D.aM.Nodup:=by
 induction h with
 |nil=>exact WQ
 |snoc h hp ih=>
  unfold ig;split
  ·exact Rz ih
  ·exact ih
end Go.Gg.Tk
namespace Go.Gg.Tk
theorem Ga{x:ak}{deep:Int}{t:Nat}(hx:x.Ok)(ht:t<x.am.toNat+1):fe x deep t=(IK x deep t).map eP:=by
 unfold fe IK;rw[aaD hx.hours.1 ht,VO,VE];exact u6 λh hm=>as9 (aay hx ht hm)
def pA (x:ak)(deep:Int):List Tr:=(aM x).flatMap (sL x deep)
theorem Bb{x:ak}{deep:Int}{js:List Nat}{p:Nat}(hx:x.Ok)(hp:x.am=p)(iJ:js.Perm (S0 (p+1))){t:List Int}:(∃j∈js,t∈fe x deep j)<->∃u∈pA x deep,t=eP u:=by
 have mH:x.am.toNat=p:=by omega
 unfold pA;rw[<- aez hx,mH];constructor
 ·rintro⟨j,h1,h2⟩
  have hj:=iJ.mem_iff.1 h1;rw[Ga hx (by rw[mH];simpa using hj)]at h2;obtain⟨u,h3,rfl⟩:=Tm.1 h2;exact⟨u,S5.2 ⟨j,hj,h3⟩,rfl⟩
 ·rintro⟨u,h1,rfl⟩
  obtain⟨j,hj,h3⟩:=S5.1 h1;refine⟨j,iJ.mem_iff.2 hj,?_⟩;rw[Ga hx (by rw[mH];simpa using hj)];exact Tm.2 ⟨u,h3,rfl⟩
theorem ET{x:ak}{deep:Int}{h:List Int}{u:Tr}(hu:u∈sL x deep h):u∈gF x h:=by
 have h1:∀u,u∈v9 x h->u∈gF x h:=λu hu=>by
  unfold v9 at hu;obtain⟨ns,h1,h2⟩:=S5.1 hu;exact S5.2 ⟨ns,h1,VQ h2⟩
 unfold sL at hu;split at hu
 ·exact h1 u (VQ hu)
 ·split at hu
  ·exact h1 u hu
  ·exact hu
theorem zF{x:ak}{h:List Int}{u:Tr}(hu:u∈gF x h):u.bI=h:=by
 obtain⟨ns,_,h2⟩:=S5.1 hu;obtain⟨os,_,rfl⟩:=Tm.1 h2;rfl
theorem Rv{α β:Type}{f:α->List β}:∀{l:List α},(l.flatMap λa=>(f a).take 1)=[]<->l.flatMap f=[]
 |[]=>by simp
 |a::l=>by
  rw[T1,T1,YC,YC,Rv,YP];simp
theorem ael{x:ak}{deep:Int}{h:List Int}:sL x deep h=[]<->gF x h=[]:=by
 have h1:v9 x h=[]<->gF x h=[]:=Rv;unfold sL;split
 ·rw[YP,h1];simp
 ·split
  ·exact h1
  ·exact Iff.rfl
theorem afM{x:ak}{deep:Int}:pA x deep=[]<->cg x=[]:=by
 unfold pA cg;rw[WT,WT];exact forall_congr' λh=>forall_congr' λ_=>ael
theorem afO{x:ak}{deep:Int}{js:List Nat}:(js.any λj=> !(fe x deep j).isEmpty)=true<->∃t,∃j∈js,t∈fe x deep j:=by
 rw[UO];constructor
 ·rintro⟨j,h1,h2⟩
  cases hg:fe x deep j with
  |nil=>rw[hg]at h2;cases h2
  |cons t l=>exact⟨t,j,h1,by rw[hg];simp⟩
 ·rintro⟨t,j,h1,h2⟩
  refine⟨j,h1,?_⟩;cases hg:fe x deep j with
  |nil=>rw[hg]at h2;cases h2
  |cons=>rfl
end Go.Gg.Tk
namespace Go.Gg
open Go.Gg.Tk
theorem Hx{x:ak}{deep:Int}{D:Kn}(hx:x.Ok)(h:fS x deep D):D.has= !(cg x).isEmpty:=by
 obtain⟨p,js,h1,h2,h3,_⟩:=h;rw[abp h3,Vh,afO];have key:(∃t,∃j∈js,t∈fe x deep j)<->pA x deep≠[]:=by
  constructor
  ·rintro⟨t,h⟩ he
   obtain⟨u,hu,_⟩:=(Bb hx h1 h2).1 h;rw[he]at hu;cases hu
  ·intro aG;obtain⟨u,hu⟩:=Yg _ aG;exact⟨eP u,(Bb hx h1 h2).2 ⟨u,hu,rfl⟩⟩
 rw[key,ne_eq,afM];cases cg x<;>simp
theorem am6{x:ak}{D:Kn}(hx:x.Ok)(h:fS x 0 D){g:List Int}:g∈D.aM<->∃u∈cg x,g=(eP u).take 4:=by
 obtain⟨p,js,h1,h2,h3,_⟩:=h;rw[amY h3];have e:(∃j∈js,∃t∈fe x 0 j,g=t.take 4)<->∃t,(∃j∈js,t∈fe x 0 j)/\g=t.take 4:=by
  constructor
  ·rintro⟨j,a,t,b,c⟩;exact⟨t,⟨j,a,b⟩,c⟩
  ·rintro⟨t,⟨j,a,b⟩,c⟩;exact⟨j,a,t,b,c⟩
 rw[e];have aE:∀u:Tr,u∈cg x->(eP u).take 4=cO u.bI:=λu hu=>by
  obtain⟨h,hm,mf⟩:=S5.1 hu;have hl:h.length=1+x.hours.toNat:=(AP _ _ _ (by simp) hm).1;have hh:=hx.hours;have h4:(cO u.bI).length=4:=by
   rw[zF mf];simp[cO];omega
  unfold eP dE;rw[SC,TB (by omega),SV (by omega)]
 have mb:∀u,u∈pA x 0->u∈cg x:=λu hu=>by
  obtain⟨h,a,b⟩:=S5.1 hu;exact S5.2 ⟨h,a,ET b⟩
 constructor
 ·rintro⟨t,a,rfl⟩
  obtain⟨u,hu,rfl⟩:=(Bb hx h1 h2).1 a;exact⟨u,mb u hu,rfl⟩
 ·rintro⟨u,hu,rfl⟩
  obtain⟨h,hm,mf⟩:=S5.1 hu;have aG:sL x 0 h≠[]:=λe=>by
   rw[ael]at e;rw[e]at mf;cases mf
  obtain⟨v,hv⟩:=Yg _ aG;have ue:v∈pA x 0:=S5.2 ⟨h,hm,hv⟩;refine⟨eP v,(Bb hx h1 h2).2 ⟨v,ue,rfl⟩,?_⟩;rw[aE u hu,aE v (mb v ue),zF mf,zF (ET hv)]
end Go.Gg
namespace Go.Gg.Tk
theorem P2(Q:Kn)(t:List Int):(j7 Q t).aA=Q.aA/\(j7 Q t).hours=Q.hours/\(j7 Q t).less=Q.less/\(j7 Q t).aX=Q.aX:=by
 unfold j7;split<;>exact⟨rfl,rfl,rfl,rfl⟩
theorem asB{x:ak}{Q:Kn}{t:List Int}{p n:Nat}(hx:x.Ok)(hQ:bM Q)(hp:p<x.pieces.length):((eK x 1 Q t).aA.getD p 0).testBit n=((Q.aA.getD p 0).testBit n||decide (n=mT t p)):=by
 have h:(eK x 1 Q t).aA=sA t x.pieces.length Q.aA:=by
  rw[<- (P2 Q t).1];rfl
 rw[h,acj,Jg _ (by rw[hQ.aA];exact hx.ey),decide_eq_true hp,UP]
theorem asC{x:ak}{Q:Kn}{t:List Int}{s n:Nat}(hx:x.Ok)(hQ:bM Q)(hs:s<x.aC.length):((eK x 2 Q t).aX.getD s 0).testBit n=((Q.aX.getD s 0).testBit n||decide (n=sI t s)):=by
 have h:(eK x 2 Q t).aX=nq t x.aC.length Q.aX:=by
  rw[<- (P2 Q t).2.2.2];rfl
 rw[h,acF,Jg _ (by rw[hQ.aX];exact hx.dp),decide_eq_true hs,UP]
theorem RB{x:ak}{deep:Int}(hx:x.Ok){f:Kn->Bool}{g:List Int->Bool}(h:∀Q t,bM Q->jF x t->f (eK x deep Q t)=(f Q||g t)):∀(ts:List (List Int))(Q:Kn),bM Q->(∀t∈ts,jF x t)->f (ts.foldl (eK x deep) Q)=(f Q||ts.any g)
 |[],Q,_,_=>by simp
 |t::ts,Q,hQ,ht=>by
  rw[UY,RB hx h ts _ (OP hx (ht t (by simp)) hQ) (λu hu=>ht u (by simp[hu])),h Q t hQ (ht t (by simp)),YU,Bool.or_assoc]
theorem RX{x:ak}{deep:Int}{j:Nat}(hx:x.Ok)(hj:j<=3){t:List Int}(ht:t∈fe x deep j):jF x t:=by
 obtain⟨h,h1,h2⟩:=S5.1 ht;obtain⟨ns,h3,h4⟩:=OW h2;exact((ES hx) j hj h h1).2 ns h3 t h4
theorem amZ{x:ak}{deep:Int}(hx:x.Ok){f:Kn->Bool}{g:List Int->Bool}(h0:f Kn.zero=false)(h:∀Q t,bM Q->jF x t->f (eK x deep Q t)=(f Q||g t))(hj:∀F G hs,bM F->bM G->G.has=true->f (ig F hs G)=(f F||f G)){js:List Nat}{D:Kn}(iJ:∀j∈js,j<=3)(hD:oB x deep js D):bM D/\f D=js.any λj=>(fe x deep j).any g:=by
 induction hD with
 |nil=>exact⟨D7,by simpa using h0⟩
 |@snoc js F j hs hJ hp ih=>
  obtain⟨ni,lK⟩:=ih λi hi=>iJ i (by simp[hi]);have hj3:j<=3:=iJ j (by simp);have aq:bM (gU x deep j):=O4 hx ((ES hx) j hj3);refine⟨abm ni aq hp,?_⟩;have hw:f (gU x deep j)=(fe x deep j).any g:=by
   rw[IJ,RB hx h _ _ D7 (λt ht=>RX hx hj3 ht),h0,ZD]
  rw[ZI,<- lK];simp only[YU,List.any_nil,Bool.or_false];cases hG:(gU x deep j).has with
  |true=>rw[hj F _ hs ni aq hG,hw]
  |false=>
   have hn:fe x deep j=[]:=by
    rw[EY]at hG;simpa using hG
   rw[hn];unfold ig;rw[hG];simp
end Go.Gg.Tk
namespace Go.Gg
open Go.Gg.Tk
theorem abt{x:ak}{deep:Int}(hx:x.Ok){f:Kn->Bool}{g:List Int->Bool}(h0:f Kn.zero=false)(h:∀Q t,bM Q->jF x t->f (eK x deep Q t)=(f Q||g t))(hj:∀F G hs,bM F->bM G->G.has=true->f (ig F hs G)=(f F||f G)){D:Kn}(hD:fS x deep D):f D=true<->∃u∈pA x deep,g (eP u)=true:=by
 obtain⟨p,js,h1,h2,h3,_⟩:=hD;have hp:=hx.am;have iJ:∀j∈js,j<=3:=λj hm=>by
  have:=h2.mem_iff.1 hm;rw[TW]at this;omega
 rw[(amZ hx h0 h hj iJ h3).2,UO];constructor
 ·rintro⟨j,a,b⟩
  obtain⟨t,c,d⟩:=UO.1 b;obtain⟨u,hu,rfl⟩:=(Bb hx h1 h2).1 ⟨j,a,c⟩;exact⟨u,hu,d⟩
 ·rintro⟨u,hu,d⟩
  obtain⟨j,a,c⟩:=(Bb hx h1 h2).2 ⟨u,hu,rfl⟩;exact⟨j,a,UO.2 ⟨_,c,d⟩⟩
theorem am8{x:ak}{D:Kn}{s n:Nat}(hx:x.Ok)(hD:fS x 2 D)(hs:s<x.aC.length):(D.aX.getD s 0).testBit n=true<->∃u∈cg x,sI (eP u) s=n:=by
 have aP:=hx.dp;have e:pA x 2=cg x:=rfl;rw[<- e,abt (f:=λK=>(K.aX.getD s 0).testBit n) (g:=λt=>decide (n=sI t s)) hx ?_ (λQ t hQ _=>asC hx hQ hs) (λF G pX hF hG hh=> ?_) hD]
 ·exact exists_congr λu=>and_congr_right λ_=>by rw[decide_eq_true_eq];exact eq_comm
 ·have:([0,0,0]:List Nat).getD s 0=0:=by
   match s,(show s<3 by omega)with
   |0,_=>rfl
   |1,_=>rfl
   |2,_=>rfl
  show (([0,0,0]:List Nat).getD s 0).testBit n=false;rw[this];exact ZE n
 ·have e2:(ig F pX G).aX=ml F.aX G.aX:=by unfold ig;rw[if_pos hh]
  rw[e2];exact acw (by rw[hF.aX,hG.aX])
theorem afK{x:ak}{P:List Int->List Int->Prop}:(∃u∈pA x 1,P u.bI u.aA)<->∃u∈cg x,P u.bI u.aA:=by
 constructor
 ·rintro⟨u,hu,hp⟩
  obtain⟨h,a,b⟩:=S5.1 hu;exact⟨u,S5.2 ⟨h,a,ET b⟩,hp⟩
 ·rintro⟨u,hu,hp⟩
  obtain⟨h,a,b⟩:=S5.1 hu;obtain⟨ns,c,d⟩:=S5.1 b;obtain⟨os,c2,rfl⟩:=Tm.1 d;cases ho:nm h ns x.aC []with
  |nil=>rw[ho]at c2;cases c2
  |cons o os'=>
   refine⟨⟨h,ns,o⟩,S5.2 ⟨h,a,?_⟩,hp⟩;show _∈v9 x h;refine S5.2 ⟨ns,c,?_⟩;unfold sM;rw[ho];simp
theorem Es{h:List Int}:∀{ys:List aB}{t ns:List Int},ns∈lO h ys t->ns.length=t.length+ys.length
 |[],t,ns,hm=>by
  simp only[lO,S9]at hm;subst hm;rfl
 |y::ys,t,ns,hm=>by
  simp only[lO,S5]at hm;obtain⟨n,_,hm⟩:=hm;have:=Es hm;simp at this⊢;omega
theorem xy{x:ak}(hx:x.Ok){u:Tr}(hu:u∈cg x):u.bI.length=1+x.hours.toNat/\u.aA.length=x.pieces.length:=by
 obtain⟨h,a,b⟩:=S5.1 hu;obtain⟨ns,c,d⟩:=S5.1 b;obtain⟨os,_,rfl⟩:=Tm.1 d;exact⟨(AP _ _ _ (by simp) a).1,by simpa using Es c⟩
theorem zp{h:List Int}(h4:h.length<=4):(cO h).length=4:=by simp[cO];omega
theorem ah6{x:ak}(hx:x.Ok){u:Tr}(hu:u∈cg x){p:Nat}(hp:p<x.pieces.length):mT (eP u) p=(u.aA.getD p 0-u.bI.headD 0).toNat:=by
 obtain⟨h1,h2⟩:=xy hx hu;have hh:=hx.hours;have h4:=zp (h:=u.bI) (by omega);have dz:p<u.aA.length:=by omega
 have hg:(eP u)[4+p]?=some (((u.aA[p]-u.bI.headD 0).toNat:Nat):Int):=by
  unfold eP dE lP;rw[SC,S_ (by omega),h4,TZ,SY (by simp;omega),SY (by simpa using dz),To,To,SX dz];rfl
 unfold mT;rw[SE,hg,SE,SX dz];rfl
theorem atK{p:Nat}(hp:p<4):([0,0,0,0]:List Nat).getD p 0=0:=by
 match p,hp with
 |0,_=>rfl
 |1,_=>rfl
 |2,_=>rfl
 |3,_=>rfl
theorem am7{x:ak}{D:Kn}{p n:Nat}(hx:x.Ok)(hD:fS x 1 D)(hp:p<x.pieces.length):(D.aA.getD p 0).testBit n=true<->∃u∈cg x,(u.aA.getD p 0-u.bI.headD 0).toNat=n:=by
 have n9:=hx.ey;rw[abt (f:=λK=>(K.aA.getD p 0).testBit n) (g:=λt=>decide (n=mT t p)) hx ?_ (λQ t hQ _=>asB hx hQ hp) (λF G pX hF hG hh=> ?_) hD]
 ·rw[<- afK (P:=λh ns=>(ns.getD p 0-h.headD 0).toNat=n)];refine exists_congr λu=>and_congr_right λhu=> ?_;obtain⟨h,a,b⟩:=S5.1 hu;have hu2:u∈cg x:=S5.2 ⟨h,a,ET b⟩;rw[decide_eq_true_eq,ah6 hx hu2 hp];exact eq_comm
 ·show (([0,0,0,0]:List Nat).getD p 0).testBit n=false;rw[atK (by omega)];exact ZE n
 ·have e2:(ig F pX G).aA=ml F.aA G.aA:=by unfold ig;rw[if_pos hh]
  rw[e2];exact acw (by rw[hF.aA,hG.aA])
theorem aci{h:List Int}:∀{ys:List aB}{t ns:List Int},ns∈lO h ys t->(∀n∈t,h.headD 0<=n)->∀n∈ns,h.headD 0<=n
 |[],t,ns,hm,ht=>by
  simp only[lO,S9]at hm;subst hm;exact ht
 |y::ys,t,ns,hm,ht=>by
  simp only[lO,S5,Uy]at hm;obtain⟨n,⟨hn,_⟩,hm⟩:=hm;refine aci hm λk hk=> ?_;rcases SS.1 hk with h'|h'
  ·exact ht k h'
  ·rw[S9.1 h'];obtain⟨i,_,rfl⟩:=Tm.1 hn;omega
theorem atb{x:ak}{u:Tr}(hu:u∈cg x):∀n∈u.aA,u.bI.headD 0<=n:=by
 obtain⟨h,a,b⟩:=S5.1 hu;obtain⟨ns,c,d⟩:=S5.1 b;obtain⟨os,_,rfl⟩:=Tm.1 d;exact aci c (by simp)
end Go.Gg
namespace Go.Gg.Tk
theorem GJ{x:ak}:∀(d:Nat)(pre h:List Int),h∈jo x d pre->h.take pre.length=pre
 |0,pre,h,hm=>by
  unfold jo at hm;split at hm
  ·rw[S9]at hm;subst hm;exact Tp
  ·cases hm
 |d+1,pre,h,hm=>by
  unfold jo at hm;split at hm
  ·obtain⟨n,_,hm⟩:=S5.1 hm;have:=GJ d _ h hm;rw[SL,TG]at this;have h2:=congrArg (Uh pre.length) this;rw[U9,TB (SP _),Tp,WB (by omega)]at h2;exact h2
  ·cases hm
theorem aax{x:ak}:∀(d:Nat)(pre:List Int),(jo x d pre).Nodup
 |0,pre=>by
  unfold jo;split
  ·simp
  ·exact WQ
 |d+1,pre=>by
  unfold jo;split
  ·unfold List.Nodup;rw[List.pairwise_flatMap];refine⟨λn _=>aax d _,?_⟩;refine ab' ?_ (X0 (n:=x.am.toNat+1));intro a b gM h ha g hb he;subst he;have h1:=GJ d _ h ha;have h2:=GJ d _ h hb;rw[SL,TG]at h1 h2;have h3:=h1.symm.trans h2;have:=List.append_cancel_left h3;simp at this;exact gM (by omega)
  ·exact WQ
theorem alx(x:ak):(aM x).Nodup:=aax _ _
end Go.Gg.Tk
namespace Go.Gg
open Go.Gg.Tk
theorem asD(x:ak)(deep:Int)(Q:Kn)(t:List Int):(eK x deep Q t).first=if Q.has=true then Q.first else t:=by
 have hB:(j7 Q t).first=if Q.has=true then Q.first else t:=by unfold j7;split<;>rfl
 unfold eK;dsimp only;split
 ·exact hB
 ·split
  ·exact hB
  ·exact hB
theorem RD{x:ak}{deep:Int}:∀(ts:List (List Int))(Q:Kn),(ts.foldl (eK x deep) Q).first=if Q.has=true then Q.first else(match ts with|[]=>Q.first|t::_=>t)
 |[],Q=>by simp
 |t::ts,Q=>by
  rw[UY,RD ts,ad6,if_pos rfl,asD]
theorem atw{x:ak}{deep:Int}{j:Nat}{t:List Int}{l:List (List Int)}(h:fe x deep j=t::l):(gU x deep j).first=t:=by
 rw[IJ,RD,h];rfl
theorem amW{Q G:Kn}{hs:List (List Int)}(h:G.has=true):(ig Q hs G).first=if Q.has=false\/te G.first Q.first=true then G.first else Q.first:=by
 unfold ig;rw[if_pos h]
theorem apd{h:List Int}{a b:Int}(hl:h.take 2=[a,b]):(cO h).take 4=a::b::((cO h).drop 2).take 2:=by
 match h,hl with
 |c::d::l,hl=>
  simp only[VZ,Za,YT,and_true]at hl;obtain⟨rfl,rfl⟩:=hl;simp[cO]
theorem RY{x:ak}{deep:Int}{j:Nat}(hx:x.Ok)(hj:j<x.am.toNat+1){t:List Int}(ht:t∈fe x deep j):∃l,t.take 4=x.first::(x.first+(j:Int))::l:=by
 rw[Ga hx hj]at ht;obtain⟨u,hu,rfl⟩:=Tm.1 ht;obtain⟨h,hm,hu⟩:=S5.1 hu;have hL:=aay hx hj hm;have mf:=zF (ET hu);have h2:h.take 2=[x.first,x.first+(j:Int)]:=by
  unfold wY at hm;split at hm
  ·exact GJ _ _ _ hm
  ·cases hm
 have e:(eP u).take 4=(cO h).take 4:=by
  unfold eP dE;rw[mf,SC,TB (by rw[zp hL.hi];omega)]
 rw[e,apd h2];exact⟨_,rfl⟩
theorem akq{x:ak}{deep:Int}{i j:Nat}(hx:x.Ok)(hi:i<x.am.toNat+1)(hj:j<x.am.toNat+1)(kI:i≠j){t u:List Int}(ht:t∈fe x deep i)(hu:u∈fe x deep j):te t u=decide (i<j):=by
 obtain⟨l,h1⟩:=RY hx hi ht;obtain⟨m,h2⟩:=RY hx hj hu;have aG:t.take 4≠u.take 4:=by
  rw[h1,h2];simp only[ne_eq,YT,true_and,not_and];intro h;omega
 unfold te;rw[if_neg aG,h1,h2];by_cases h:i<j
 ·have e1:na (x.first+(i:Int)) (x.first+(j:Int))= -1:=by unfold na;rw[if_pos (by omega)]
  have e0:na x.first x.first=0:=by unfold na;simp
  simp[oJ,e0,e1,h]
 ·have e1:na (x.first+(i:Int)) (x.first+(j:Int))=1:=by unfold na;rw[if_neg (by omega),if_pos (by omega)]
  have e0:na x.first x.first=0:=by unfold na;simp
  simp[oJ,e0,e1,h]
theorem abo{x:ak}{deep:Int}{js:List Nat}{D:Kn}(hx:x.Ok)(hJ:oB x deep js D)(hn:js.Nodup)(hj:∀j∈js,j<x.am.toNat+1)(hh:D.has=true):∃j∈js,∃t l,fe x deep j=t::l/\D.first=t/\∀i∈js,fe x deep i≠[]->j<=i:=by
 induction hJ with
 |nil=>cases hh
 |@snoc js Q j hs hJ hp ih=>
  have iY:js.Nodup:=(Vd.1 hn).1;have mE:j∉js:=λh=>(Vd.1 hn).2.2 j h j (by simp) rfl;have ih':=ih iY (λi hi=>hj i (by simp[hi]));by_cases hG:fe x deep j=[]
  ·have hg:(gU x deep j).has=false:=(by rw[EY,hG];rfl);have hD:ig Q hs (gU x deep j)=Q:=(by unfold ig;rw[hg];rfl);rw[hD]at hh⊢;obtain⟨i,h1,t,l,h2,h3,h4⟩:=ih' hh;refine⟨i,by simp[h1],t,l,h2,h3,λk hk aG=> ?_⟩;rcases SS.1 hk with hk|hk
   ·exact h4 k hk aG
   ·rw[S9]at hk;subst hk;exact absurd hG aG
  ·obtain⟨t,l,ht⟩:∃t l,fe x deep j=t::l:=by
    cases hg:fe x deep j with
    |nil=>exact absurd hg hG
    |cons t l=>exact⟨t,l,rfl⟩
   have hg:(gU x deep j).has=true:=(by rw[EY,ht];rfl);rw[amW hg,atw ht];by_cases hQ:Q.has=true
   ·obtain⟨i,h1,t',l',h2,h3,h4⟩:=ih' hQ;have hb:te t Q.first=decide (j<i):=by
     rw[h3];exact akq hx (hj j (by simp)) (hj i (by simp[h1])) (λe=>mE (e▸h1)) (by rw[ht];simp) (by rw[h2];simp)
    by_cases kI:j<i
    ·rw[if_pos (.inr (by rw[hb];simpa using kI))];refine⟨j,by simp,t,l,ht,rfl,λk hk aG=> ?_⟩;rcases SS.1 hk with hk|hk
     ·have:=h4 k hk aG;omega
     ·rw[S9]at hk;omega
    ·rw[if_neg (by rw[hQ,hb];simpa using kI)];refine⟨i,by simp[h1],t',l',h2,h3,λk hk aG=> ?_⟩;rcases SS.1 hk with hk|hk
     ·exact h4 k hk aG
     ·rw[S9]at hk;omega
   ·rw[if_pos (.inl (by simpa using hQ))];refine⟨j,by simp,t,l,ht,rfl,λk hk aG=> ?_⟩;rcases SS.1 hk with hk|hk
    ·have hQf:Q.has=js.any λj=> !(fe x deep j).isEmpty:=abp hJ;exfalso;apply hQ;rw[hQf,UO];refine⟨k,hk,?_⟩;cases hg:fe x deep k with
     |nil=>exact absurd hg aG
     |cons=>rfl
    ·rw[S9]at hk;omega
theorem aaq{α:Type}{f:Nat->List α}{j:Nat}{t:α}{l:List α}:∀{n:Nat},j<n->f j=t::l->(∀i,i<j->f i=[])->((S0 n).flatMap f).head?=some t
 |0,h,_,_=>absurd h (by omega)
 |n+1,h,hf,h0=>by
  rw[U4,Un,WS];by_cases hj:j<n
  ·rw[aaq hj hf h0];rfl
  ·have e:j=n:=(by omega);subst e;have:(S0 j).flatMap f=[]:=by
    rw[WT];intro i hi;exact h0 i (TW.1 hi)
   rw[this];simp[hf]
theorem Lq{α β:Type}{f g:α->List β}:∀(l:List α),(∀a,(f a).head?=(g a).head?)->(l.flatMap f).head?=(l.flatMap g).head?
 |[],_=>rfl
 |a::l,h=>by
  rw[T1,T1,WS,WS,h a,Lq l h]
theorem ad5{α:Type}(l:List α):(l.take 1).head?=l.head?:=by cases l<;>rfl
theorem afL{x:ak}{deep:Int}:(pA x deep).head?=(cg x).head?:=by
 refine Lq _ λh=> ?_;have h1:(v9 x h).head?=(gF x h).head?:=Lq _ λns=>ad5 _;unfold sL;split
 ·rw[ad5,h1]
 ·split
  ·exact h1
  ·rfl
theorem am5{x:ak}{deep:Int}{D:Kn}(hx:x.Ok)(h:fS x deep D)(hh:D.has=true):∃u l,cg x=u::l/\D.first=eP u:=by
 obtain⟨p,js,h1,h2,h3,_⟩:=h;have mH:x.am.toNat=p:=by omega
 have hj:∀j∈js,j<x.am.toNat+1:=λj hj=>by rw[mH];exact TW.1 (h2.mem_iff.1 hj)
 obtain⟨j,a,t,l,b,c,d⟩:=abo hx h3 (h2.nodup_iff.2 X0) hj hh;have hd:((S0 (p+1)).flatMap λj=>fe x deep j).head?=some t:=by
  refine aaq (TW.1 (h2.mem_iff.1 a)) b λi hi=> ?_;cases hg:fe x deep i with
  |nil=>rfl
  |cons v w=>
   have:=d i (h2.mem_iff.2 (TW.2 (by have:=hj j a;omega))) (by rw[hg];simp);omega
 have he:((S0 (p+1)).flatMap λj=>fe x deep j)=(pA x deep).map eP:=by
  unfold pA;rw[<- aez hx,mH,VE];exact u6 λi hi=>Ga hx (by rw[mH];exact TW.1 hi)
 rw[he,List.head?_map,afL]at hd;cases ht:cg x with
 |nil=>rw[ht]at hd;cases hd
 |cons u l=>
  rw[ht]at hd;simp only[ZZ,UU,Tl]at hd;exact⟨u,l,rfl,by rw[c,hd]⟩
namespace Tk
def live (x:ak):List (List Int):=(aM x).filter λh=> !(gF x h).isEmpty
def cnt (x:ak):Int:=(live x).length
theorem HE{x:ak}{h:List Int}:h∈live x<->∃u∈cg x,u.bI=h:=by
 unfold live;rw[Uy];constructor
 ·rintro⟨h1,h2⟩
  cases ht:gF x h with
  |nil=>rw[ht]at h2;cases h2
  |cons u l=>
   have hu:u∈gF x h:=(by rw[ht];simp);exact⟨u,S5.2 ⟨h,h1,hu⟩,zF hu⟩
 ·rintro⟨u,hu,rfl⟩
  obtain⟨h,a,b⟩:=S5.1 hu;have e:=zF b;subst e;refine⟨a,?_⟩;cases ht:gF x u.bI with
  |nil=>rw[ht]at b;cases b
  |cons=>rfl
theorem LP{x:ak}{h:List Int}(hm:h∈aM x):h.length=1+x.hours.toNat:=(AP _ _ _ (by simp) hm).1
theorem NU{h:List Int}{n:Nat}(hl:h.length=n):(cO h).take n=h:=by
 subst hl;unfold cO;rw[TB (SP _),Tp]
theorem anR(x:ak):((live x).map cO).Nodup:=by
 have h:(live x).Nodup:=(alx x).filter _;rw[Uv,XA];have h2:=Uv.1 h;refine Xy ?_ h2;intro a b ha hb aG e;have la:=LP ((Uy.1 ha).1);have lb:=LP ((Uy.1 hb).1);apply aG;rw[<- NU la,e,NU lb]
end Tk
theorem J6{x:ak}(hx:x.Ok){u:Tr}(hu:u∈cg x):(eP u).take 4=cO u.bI:=by
 have hl:=(xy hx hu).1;have hh:=hx.hours;unfold eP dE;rw[SC,TB (by rw[zp (by omega)];omega),SV (by rw[zp (by omega)];omega)]
theorem abu{x:ak}{D:Kn}(hx:x.Ok)(h:fS x 0 D):D.aM.Perm ((live x).map cO):=by
 have hn:D.aM.Nodup:=by obtain⟨p,js,h1,h2,h3,_⟩:=h;exact am0 h3
 refine(List.perm_ext_iff_of_nodup hn (anR x)).2 λg=> ?_;rw[am6 hx h,Tm];constructor
 ·rintro⟨u,hu,rfl⟩
  exact⟨u.bI,HE.2 ⟨u,hu,rfl⟩,(J6 hx hu).symm⟩
 ·rintro⟨h,hm,rfl⟩
  obtain⟨u,hu,rfl⟩:=HE.1 hm;exact⟨u,hu,(J6 hx hu).symm⟩
theorem y8{x:ak}{deep:Int}{D:Kn}(hx:x.Ok)(h:fS x deep D):D.has=false<->cg x=[]:=by
 rw[Hx hx h];cases cg x<;>simp
theorem abN{x:ak}:live x=[]<->cg x=[]:=by
 constructor
 ·intro h;cases ht:cg x with
  |nil=>rfl
  |cons u l=>
   have:u.bI∈live x:=HE.2 ⟨u,by rw[ht];simp,rfl⟩;rw[h]at this;cases this
 ·intro h;cases hl:live x with
  |nil=>rfl
  |cons a l=>
   obtain⟨u,hu,_⟩:=HE.1 (show a∈live x by rw[hl];simp);rw[h]at hu;cases hu
theorem count_eq{x:ak}{D:Kn}(hx:x.Ok)(h:fS x 0 D):(if D.has then(D.aM.length:Int)else 0)=cnt x:=by
 cases hD:D.has with
 |true=>rw[if_pos rfl,(abu hx h).length_eq,Ta];rfl
 |false=>
  have:=abN.2 ((y8 hx h).1 hD);simp[cnt,this]
theorem aop(a b:Int):min a b=a\/min a b=b:=by omega
theorem aok(a b:Int):max a b=a\/max a b=b:=by omega
theorem P5(v:List Int->Int):∀(hs:List (List Int))(b:io),b.is=true->(hs.foldl (λb h=>b.add (v h)) b).is=true/\((hs.foldl (λb h=>b.add (v h)) b).lo=b.lo\/∃h∈hs,(hs.foldl (λb h=>b.add (v h)) b).lo=v h)/\(hs.foldl (λb h=>b.add (v h)) b).lo<=b.lo/\(∀h∈hs,(hs.foldl (λb h=>b.add (v h)) b).lo<=v h)/\((hs.foldl (λb h=>b.add (v h)) b).hi=b.hi\/∃h∈hs,(hs.foldl (λb h=>b.add (v h)) b).hi=v h)/\b.hi<=(hs.foldl (λb h=>b.add (v h)) b).hi/\∀h∈hs,v h<=(hs.foldl (λb h=>b.add (v h)) b).hi
 |[],b,hb=>⟨hb,.inl rfl,Xr _,by simp,.inl rfl,Xr _,by simp⟩
 |g::hs,b,hb=>by
  have dI:b.add (v g)=⟨min b.lo (v g),max b.hi (v g),true⟩:=by unfold io.add;rw[if_pos hb]
  obtain⟨h1,h2,h3,h4,h5,h6,h7⟩:=P5 v hs (b.add (v g)) (by rw[dI]);rw[UY];generalize hs.foldl (λb h=>b.add (v h)) (b.add (v g))=R at*;rw[dI]at h2 h3 h5 h6;dsimp only at h2 h3 h5 h6;have m1:min b.lo (v g)=b.lo\/min b.lo (v g)=v g:=aop _ _;have m2:max b.hi (v g)=b.hi\/max b.hi (v g)=v g:=aok _ _;refine⟨h1,?_,XJ h3 (Int.min_le_left _ _),?_,?_,XJ (Int.le_max_left _ _) h6,?_⟩
  ·rcases h2 with h2|⟨h,a,c⟩
   ·rcases m1 with m1|m1
    ·exact .inl (h2.trans m1)
    ·exact .inr ⟨g,by simp,h2.trans m1⟩
   ·exact .inr ⟨h,by simp[a],c⟩
  ·intro h hm;rcases SK.1 hm with rfl|hm
   ·exact XJ h3 (Int.min_le_right _ _)
   ·exact h4 h hm
  ·rcases h5 with h2|⟨h,a,c⟩
   ·rcases m2 with m1|m1
    ·exact .inl (h2.trans m1)
    ·exact .inr ⟨g,by simp,h2.trans m1⟩
   ·exact .inr ⟨h,by simp[a],c⟩
  ·intro h hm;rcases SK.1 hm with rfl|hm
   ·exact XJ (Int.le_max_right _ _) h6
   ·exact h7 h hm
namespace Tk
structure Bounds (hs:List (List Int))(v:List Int->Int)(lo hi:Int):Prop where
 Hv:∃h∈hs,lo=v h
 le:∀h∈hs,lo<=v h
 Hu:∃h∈hs,hi=v h
 ge:∀h∈hs,v h<=hi
theorem Bounds.uniq{hs:List (List Int)}{v:List Int->Int}{a b c d:Int}(h:Bounds hs v a b)(k:Bounds hs v c d):a=c/\b=d:=by
 obtain⟨g1,m1,e1⟩:=h.Hv;obtain⟨g2,m2,e2⟩:=h.Hu;obtain⟨g3,m3,e3⟩:=k.Hv;obtain⟨g4,m4,e4⟩:=k.Hu;have:=h.le _ m3;have:=h.ge _ m4;have:=k.le _ m1;have:=k.ge _ m2;omega
theorem Bounds.aoW{hs gs:List (List Int)}{v:List Int->Int}{a b:Int}(h:Bounds hs v a b)(hp:hs.Perm gs):Bounds gs v a b:=by
 obtain⟨g1,m1,e1⟩:=h.Hv;obtain⟨g2,m2,e2⟩:=h.Hu;exact⟨⟨g1,hp.mem_iff.1 m1,e1⟩,λg hg=>h.le g (hp.mem_iff.2 hg),⟨g2,hp.mem_iff.1 m2,e2⟩,λg hg=>h.ge g (hp.mem_iff.2 hg)⟩
end Tk
theorem ag7{hs:List (List Int)}(v:List Int->Int)(aG:hs≠[]):Bounds hs v (hs.foldl (λ(b:io) h=>b.add (v h)) (⟨0,0,false⟩:io)).lo (hs.foldl (λ(b:io) h=>b.add (v h)) (⟨0,0,false⟩:io)).hi:=by
 cases hs with
 |nil=>exact absurd rfl aG
 |cons g hs=>
  rw[UY,show io.add ⟨0,0,false⟩ (v g)=⟨v g,v g,true⟩from rfl];obtain⟨_,h2,h3,h4,h5,h6,h7⟩:=P5 v hs ⟨v g,v g,true⟩ rfl;generalize hs.foldl (λ(b:io) h=>b.add (v h)) (⟨v g,v g,true⟩:io)=R at*;dsimp only at h2 h3 h5 h6;refine⟨?_,?_,?_,?_⟩
  ·rcases h2 with h2|⟨h,a,c⟩
   ·exact⟨g,by simp,h2⟩
   ·exact⟨h,by simp[a],c⟩
  ·intro h hm;rcases SK.1 hm with rfl|hm
   ·exact h3
   ·exact h4 h hm
  ·rcases h5 with h2|⟨h,a,c⟩
   ·exact⟨g,by simp,h2⟩
   ·exact⟨h,by simp[a],c⟩
  ·intro h hm;rcases SK.1 hm with rfl|hm
   ·exact h6
   ·exact h7 h hm
open Go.Gg.Tk
theorem ah5{x:ak}(hx:x.Ok){u:Tr}(hu:u∈cg x){p:Nat}(hp:p<x.pieces.length):(eP u).getD (4+p) 0=u.aA.getD p 0-u.bI.headD 0:=by
 obtain⟨h1,h2⟩:=xy hx hu;have hh:=hx.hours;have h4:=zp (h:=u.bI) (by omega);have dz:p<u.aA.length:=by omega
 have vn:=atb hu u.aA[p] (Ww dz);have hg:(eP u)[4+p]?=some (((u.aA[p]-u.bI.headD 0).toNat:Nat):Int):=by
  unfold eP dE lP;rw[SC,S_ (by omega),h4,TZ,SY (by simp;omega),SY (by simpa using dz),To,To,SX dz];rfl
 rw[SE,hg,SE,SX dz];simp only[S7];omega
theorem NS{h ns:List Int}:∀{ss:List aB}{t os:List Nat},os∈nm h ns ss t->(∀p∈t,p<ns.length)->os.length=t.length+ss.length/\∀p∈os,p<ns.length
 |[],t,os,hm,ht=>by
  simp only[nm,S9]at hm;subst hm;exact⟨rfl,ht⟩
 |s::ss,t,os,hm,ht=>by
  simp only[nm,S5,Uy,TW]at hm;obtain⟨p,⟨hp,_⟩,hm⟩:=hm;have:=NS hm λq hq=>by
   rcases SS.1 hq with hq|hq
   ·exact ht q hq
   ·rw[S9.1 hq];exact hp
  refine⟨?_,this.2⟩;rw[this.1];simp;omega
theorem IA{x:ak}(hx:x.Ok){u:Tr}(hu:u∈cg x):u.bX.length=x.aC.length/\∀p∈u.bX,p<x.pieces.length:=by
 have h2:=(xy hx hu).2;obtain⟨h,a,b⟩:=S5.1 hu;obtain⟨ns,c,d⟩:=S5.1 b;obtain⟨os,e,rfl⟩:=Tm.1 d;have:=NS e (by simp);dsimp only at h2⊢;rw[<- h2];exact⟨by simpa using this.1,this.2⟩
theorem ah7{x:ak}(hx:x.Ok){u:Tr}(hu:u∈cg x){s:Nat}(hs:s<x.aC.length):sI (eP u) s=u.bX.getD s 0:=by
 obtain⟨h1,h2⟩:=xy hx hu;have h3:=(IA hx hu).1;have hh:=hx.hours;have n9:=hx.ey;have h4:=zp (h:=u.bI) (by omega);have cy:s<u.bX.length:=by omega
 have hg:(eP u)[8+s]?=some ((u.bX[s]:Nat):Int):=by
  unfold eP dE lP;have h8:(cO u.bI++((u.aA.map λn=>(n-u.bI.headD 0).toNat).map (λn:Nat=>(n:Int))++TM (4-(u.aA.map λn=>(n-u.bI.headD 0).toNat).length) (-1))).length=8:=by simp[h4];omega
  rw[S_ (by omega),h8,TZ,SY (by simpa using cy),To,SX cy];rfl
 unfold sI;rw[SE,hg,SE,SX cy];rfl
namespace Tk
def FG (x:ak)(f:Tr->Bool):Bool:=(cg x).any f
theorem Cm{x:ak}{f:Tr->Bool}:FG x f=true<->∃u∈cg x,f u=true:=UO
def xX (f:Nat->Bool)(more:Int)(i:Nat):List Int:=((S0 i).filter f).map λn:Nat=>(n:Int)+more
def Ep (x:ak)(p n:Nat):Bool:=FG x λu=>decide ((u.aA.getD p 0-u.bI.headD 0).toNat=n)
def ut (x:ak)(s q:Nat):Bool:=FG x λu=>decide (u.bX.getD s 0=q)
def Ev (x:ak)(s q:Nat):Bool:=FG x λu=> !decide (u.bX.getD s 0=q)
theorem abJ{s:Nat}{f:Nat->Bool}{more:Int}{i:Nat}(h:∀n,n<i->s.testBit n=f n):fM s more i=xX f more i:=by
 unfold fM xX;congr 1;exact Ve λn hn=>h n (TW.1 hn)
end Tk
theorem aoK{x:ak}{D:Kn}{p:Nat}(hx:x.Ok)(hD:fS x 1 D)(hp:p<x.pieces.length)(n:Nat):(D.aA.getD p 0).testBit n=Ep x p n:=by
 rw[Vh,am7 hx hD hp];unfold Ep;rw[Cm];simp only[decide_eq_true_eq]
theorem NV{x:ak}{D:Kn}{s:Nat}(hx:x.Ok)(hD:fS x 2 D)(hs:s<x.aC.length)(n:Nat):(D.aX.getD s 0).testBit n=ut x s n:=by
 rw[Vh,am8 hx hD hs];unfold ut;rw[Cm];refine exists_congr λu=>and_congr_right λhu=> ?_;rw[ah7 hx hu hs,decide_eq_true_eq]
theorem apg{x:ak}{D:Kn}{s q:Nat}(hx:x.Ok)(hD:fS x 2 D)(hs:s<x.aC.length)(hh:D.has=true):(D.aX.getD s 0!=2^q)=Ev x s q:=by
 have hb:=NV hx hD hs;rw[Vh,bne_iff_ne];unfold Ev;rw[Cm];constructor
 ·intro aG;obtain⟨u,hu⟩:∃u,u∈cg x:=by
   rw[Hx hx hD]at hh;cases ht:cg x with
   |nil=>rw[ht]at hh;cases hh
   |cons u l=>exact⟨u,by simp⟩
  by_cases hu1:u.bX.getD s 0=q
  ·refine Tv λfD=>aG ?_;apply Nat.eq_of_testBit_eq;intro n;rw[hb,VT,Vh,decide_eq_true_eq];unfold ut;rw[Cm];constructor
   ·rintro⟨v,hv,e⟩
    rw[decide_eq_true_eq]at e;refine Tv λvC=>fD ⟨v,hv,?_⟩;rw[e];simp;exactλh=>vC h.symm
   ·rintro rfl
    exact⟨u,hu,by rw[decide_eq_true_eq];exact hu1⟩
  ·exact⟨u,hu,by simpa using hu1⟩
 ·rintro⟨u,hu,h⟩ he
  have hp:ut x s (u.bX.getD s 0)=true:=by
   unfold ut;rw[Cm];exact⟨u,hu,by simp⟩
  rw[<- hb,he,VT,decide_eq_true_eq]at hp;rw[hp]at h;simp at h
theorem apf{x:ak}{D:Kn}{s q:Nat}(hx:x.Ok)(hD:fS x 2 D)(hs:s<x.aC.length):(if D.has then vM ((D.aX.getD s 0).testBit q) (D.aX.getD s 0!=2^q)else 0)=if(cg x).isEmpty then 0 else vM (ut x s q) (Ev x s q):=by
 have hh:=Hx hx hD;cases KQ:D.has with
 |true=>
  rw[KQ]at hh;have:(cg x).isEmpty=false:=by simpa using hh.symm
  rw[this,if_pos rfl,NV hx hD hs,apg hx hD hs KQ];rfl
 |false=>
  rw[KQ]at hh;have:(cg x).isEmpty=true:=by simpa using hh.symm
  rw[this];rfl
theorem agN{x:ak}{deep:Int}{D:Kn}(hx:x.Ok)(hD:fS x deep D):fq D=if(cg x).isEmpty then 11 else 0:=by
 have hh:=Hx hx hD;unfold fq;rw[hh];cases (cg x).isEmpty<;>rfl
open Go.Conc Go.Proofs Go.Gg.Tk
theorem EX{l:List AV}{a b:AV}(h:Wk a b):rH (l++[a]) (l++[b]):=by
 induction l with
 |nil=>exact .cons h .nil
 |cons x l ih=>exact .cons (Wk.refl _) ih
theorem Ef(n m k:Nat)(bs:List (List Int)):Lt n (.sl m (bs.map aL) (.opn k))=(k<n):=by
 rw[abS,eq_iff_iff];refine⟨λh=>h.1,λh=>⟨h,λa ha=> ?_⟩⟩;have:=Bd n bs;rw[lm,qb]at this;exact this.mpr trivial a ha
theorem wb:gG (TL none 0 0) 1=[.sl 0 [] .exact]:=rfl
theorem aoj{α β:Type}{xs:List α}{i:Nat}{x:α}(f:α->β)(h:xs[i]?=some x):(xs.take (i+1)).map f=(xs.take i).map f++[f x]:=by
 obtain⟨hj,rfl⟩:=SN.1 h;rw[Vs hj,Tn];rfl
theorem Dv{H:List aa}(hH:bF H)(n sz:Nat)(el:TypeId):bF (H++[.tail n sz el]):=Du hH λz hz m=>by rw[S9.1 hz];trivial
section
variable {lv:Bool}
end
namespace Tk
def i_ (l:List Int):Nat:=if l.length=0 then 0 else(l.getD (l.length-1) 0).toNat+1
def oo (n:Nat)(l:List Int)(j:Nat):List (List Int):=(S0 j).map λj:Nat=>l++[((i_ l+j:Nat):Int)]
def ow (n:Nat):Nat->List (List Int)
 |0=>[[]]
 |i+1=>ow n i++oo n ((ow n i).getD i []) (n-i_ ((ow n i).getD i []))
def xh (n:Nat):List (List Int):=ow n (2^n)
theorem anc(n:Nat)(l:List Int)(j:Nat):oo n l (j+1)=oo n l j++[l++[((i_ l+j:Nat):Int)]]:=by
 unfold oo;rw[U4,Tn];rfl
theorem ao7:∀n,n<4->(∀i,i<2^n->i<(ow n i).length/\(∀l∈ow n i,l.length<=3/\∀y∈l,0<=y/\y<n))/\(∀i,i<2^n+1->(ow n i).length<=8)/\(ow n (2^n)).length=2^n:=by decide+kernel
end Tk
section
variable {lv:Bool}{H:List aa}{k kp:AV->List aa->Prop}
theorem ajA{ns:List Int}{e:End}(hn:ns.length<=2^20)(h0:ns=[]->k (.sl 0 [] .exact) H)(hk:k (.sl ns.length (ns.map iv) (.opn H.length)) (H++[.tail ns.length 1 3])):bc lv SA 94 H [.sl ns.length (ns.map iv) e] k kp:=by
 refine bD (rs:=[.tmp 2]) (nt:=8) Tryz.f94 λhH hA=> ?_;simp only[bk,SU];refine aj ?_;refine aj ?_;intro b hb;refine aD ?_;refine⟨λh=> ?_,λh=> ?_⟩
 ·
  refine aj ?_;refine aZ ?_;have:ns=[]:=by
   cases ns with
   |nil=>rfl
   |cons x xs=>rw[hb (by simp)]at h;cases h
  exact jI (H':=H) (G:=[]) (Wk.refl _) (by simp) (SP _) hH (by simp[Nz]) (h0 this)
 ·
  refine aK ?_;refine aj ?_;refine⟨by omega,?_⟩;refine aZ ?_;exact b8 hk
theorem ajn{n:Nat}(hn:n<=3)(hk:k (lm (xh n)) H):bc lv SA 70 H [iv n] k kp:=by
 refine bD (rs:=[.tmp 2]) (nt:=44) Tryz.f70 λhH hA=> ?_;simp only[bk,SU];obtain⟨lD,iV,nd⟩:=ao7 n (by omega);refine aj ?_;refine ah ?_;simp only[seval,wb,zo]
 (repeat apply gp);refine oH (t:=3) (sz:=1) (el:=22) (by simp only[seval]<;>rfl) ?_
 refine aj ?_;refine bU ?_;refine eI (2^n) (λi:Nat=>[(3,.sl (ow n i).length ((ow n i).map aL) (.opn H.length)),(4,iv i)]) (λi=>H++[.tail (ow n i).length 1 22]) (λi=>True) (λ_ _=>rfl) (by simp only[seval];simp[a_,Wk.refl];exact zG (l:=[.sl 0 [] .exact]) (l':=[aL []]) rfl (rH.cons (e9 _ _ _) .nil).at) rfl (λ_ _ _=>by simp) trivial (λbC bW i cK _ R hR=> ?_);clear bC bW;have bJ:i<2^n->SD.wrap ((i:Int)+1)=((i+1:Nat):Int):=λh=>by
  have:2^n<=2^3:=UZ (by omega) hn;rw[br _ (by omega)];rfl
 refine aj ?_;refine aD ?_;refine⟨λh=> ?_,λh=> ?_⟩
 ·have bx:i<2^n:=by
   rcases YG i (2^n)with h'|h'
   ·exact h'
   ·have:i=2^n:=(by omega);subst this;rw[nd]at h;omega
  obtain⟨g1,g2⟩:=lD i bx;have g3:=iV i (by omega);have bJ:=bJ bx;obtain⟨l,hl⟩:=bK g1;have DN:ow n (i+1)=ow n i++oo n l (n-i_ l):=by
   rw[ow,SE,hl];rfl
  obtain⟨GN,hly⟩:=g2 l (um hl);generalize ow n i=o at DN hl g1 g3 hR⊢;refine aK ?_;refine ah ?_;simp only[seval,v7 hl,jh g1];refine aj ?_;refine ah ?_;simp only[seval,aL];refine aD ?_;refine⟨λh=> ?p1,λh=> ?p2⟩
  case' p1=>
   have tQ:0<l.length:=(by omega);obtain⟨y,hy⟩:=bK (xs:=l) (i:=l.length-1) (by omega);have Hm:=hly y (um hy);have pQ:i_ l=y.toNat+1:=(by unfold i_;rw[if_neg (by omega),SE,hy];rfl);have eS:SD.wrap ((l.length:Int)-1)=((l.length-1:Nat):Int):=(by rw[br _ (by omega)];omega);have kW:SD.wrap (y+1)=((i_ l:Nat):Int):=(by rw[br _ (by omega),pQ];omega);have oR:(0<=((l.length-1:Nat):Int)/\((l.length-1:Nat):Int)<l.length)=True:=(by simp;omega);refine ah ?_;simp only[seval,eS,eg hy,oR,kW];have hlz:i_ l=i_ l:=rfl
  case' p2=>
   have hlz:i_ l=0:=(by unfold i_;rw[if_pos (by omega)]);refine aK ?_
  all_goals(
   refine aj ?_;refine bU ?_;refine eI (n-i_ l) (λj:Nat=>[(3,.sl (o.length+j) ((o++oo n l j).map aL) (.opn H.length)),(7,iv (((i_ l:Nat):Int)+j))]) (λj=>H++[.tail (o.length+j) 1 22]) (λi=>True) (λ_ _=>rfl) (by first|(simp only[seval];simp[a_,Wk.refl];done)|(simp only[seval,oo,ZG];simp[a_,Wk.refl,hlz])) (by simp) (λ_ _ _=>by simp) trivial (λbC bW j mE _ R2 jl=> ?_);clear bC bW;have hln:(n-i_ l)<=3:=(by omega);refine aj ?_;refine aD ?_;refine⟨λh2=> ?_,λh2=> ?_⟩
   ·have dP:j<n-i_ l:=(by omega);have cT:(o++oo n l (j+1)).map aL=(o++oo n l j).map aL++[aL (l++[((i_ l:Nat):Int)+j])]:=(by rw[anc,<- SC,Tn];rfl);have qS:((o++oo n l j).map aL).length=o.length+j:=(by simp[oo]);have uf:SD.wrap (((i_ l:Nat):Int)+j+1)=((i_ l:Nat):Int)+((j+1:Nat):Int):=(by rw[br _ (by omega)];omega);refine aK ?_;refine aj ?_;refine aH ((ajA (ns:=l) (by omega) (λtQ=> ?_) ?_))
    ·subst tQ;try simp only[seval,z1,wb,zo,qS]
     first|refine⟨by decide,by omega,?_⟩|refine⟨by omega,?_⟩
     refine ah ?_;simp only[seval,uf];refine jl _ ⟨dP,trivial,?_⟩;rw[cT];refine uu [.tail 1 1 3] (lL rfl rfl) ?_ (Dv hH _ _ _) ?_ (by simp[U7])
     ·(try simp only[seval]);exact⟨⟨_,rfl,have h:=EX (l:=(o++oo n [] j).map aL) (show Wk (.sl 1 [iv (((i_ []:Nat):Int)+j)] (.opn (H.length+1))) (aL ([]++[((i_ []:Nat):Int)+j])) by exact e9 _ _ _);zG h.len h.at⟩,_,rfl,Wk.refl _⟩
     ·rw[<- cT];simp only[US,ec,Ef,iv];simp
    ·(try simp only[seval,z1,wb,zo,qS]);refine⟨by omega,by omega,?_⟩;refine ah ?_;simp only[seval,uf];refine jl _ ⟨dP,trivial,?_⟩;rw[cT];refine uu [.tail (l.length+1) 1 3] (lL rfl rfl) ?_ (Dv hH _ _ _) ?_ (by simp[U7])
     ·(try simp only[seval]);exact⟨⟨_,rfl,have h:=EX (l:=(o++oo n l j).map aL) (show Wk (.sl (l.length+1) (l.map iv++[iv (((i_ l:Nat):Int)+j)]) (.opn (H.length+1))) (aL (l++[((i_ l:Nat):Int)+j])) by rw[aL,Tn,SL];exact e9 _ _ _);zG h.len h.at⟩,_,rfl,Wk.refl _⟩
     ·rw[<- cT];simp only[US,ec,Ef,iv];simp
   ·have vt:j=n-i_ l:=(by omega);subst vt;refine bR ?_;refine ah ?_;simp only[seval,bJ];refine hR _ ⟨bx,trivial,?_⟩;rw[DN];have Dl:(o++oo n l (n-i_ l)).length=o.length+(n-i_ l):=(by simp[oo]);rw[Dl];exact cz)
 ·have qM:i=2^n:=by
   rcases YG i (2^n)with h'|h'
   ·have:=(lD i h').1;omega
   ·omega
  subst qM;refine bR ?_;refine aj ?_;refine aZ ?_;exact iH (b:=lm (xh n)) hH (e9 _ _ _) (by rw[Bd];trivial) hk
end
open Go.Conc Go.Proofs Go.Gg.Tk
theorem KC{α:Type}{f:α->List AV}{s:Nat}(hf:∀a,(f a).length=s):∀(xs:List α)(n:Nat),(xs.flatMap f).take (n* s)=(xs.take n).flatMap f
 |[],n=>by simp
 |x::xs,0=>by simp
 |x::xs,n+1=>by
  rw[T1,VZ,T1,List.take_append,SV (by rw[hf,XG];omega),hf,show (n+1)* s-s=n* s by rw[XG];omega,KC hf xs n]
theorem ye{α:Type}{f:α->List AV}{s:Nat}(hf:∀a,(f a).length=s):∀(xs:List α)(n:Nat),(xs.flatMap f).drop (n* s)=(xs.drop n).flatMap f
 |[],n=>by simp
 |x::xs,0=>by simp
 |x::xs,n+1=>by
  rw[T1,List.drop_succ_cons,VA,W2 (by rw[hf,XG];omega),hf,show (n+1)* s-s=n* s by rw[XG];omega,ye hf xs n,UN]
namespace Tk
def uW (ss:List aB)(ns:List Int):List aB:=ns.foldr (λn l=>l.eraseIdx n.toNat) ss
def ak.wo (x:ak)(ns:List Int):ak:={x with aC:=uW x.aC ns}
def uD (ns:List Int)(m:Nat):Prop:=∀(i:Nat) n,ns[i]?=some n->0<=n/\n+(ns.length-i:Nat)<=m
theorem uD.tail{n:Int}{ns:List Int}{m:Nat}(h:uD (n::ns) m):uD ns m:=λi k hk=>by
 have:=h (i+1) k hk;simp only[Ui]at this;exact⟨this.1,by omega⟩
theorem JV{ss:List aB}:∀{ns:List Int},uD ns ss.length->(uW ss ns).length+ns.length=ss.length
 |[],_=>rfl
 |n::ns,h=>by
  have h1:=JV h.tail;have h2:=h 0 n rfl;have e:uW ss (n::ns)=(uW ss ns).eraseIdx n.toNat:=rfl;simp only[Ui]at h2⊢;rw[e,X_ (by omega)];omega
end Tk
section
variable {lv:Bool}{H:List aa}{k kp:AV->List aa->Prop}
theorem Rf{x:ak}{ns:List Int}{e:End}(aP:x.aC.length<=3)(iL:uD ns x.aC.length)(hk:k (x.wo ns).av H):bc lv SA 63 H [x.av,.sl ns.length (ns.map iv) e] k kp:=by
 have L2:ns.length<=3:=by have:=JV iL;omega
 refine bD (rs:=[.cell 4 76]) (nt:=32) Tryz.f63 λhH hA=> ?_;simp only[bk,SU,ak.av];obtain⟨st,ma⟩:∃st:Nat->List aB,∀j,st j=uW x.aC (ns.drop (ns.length-j)):=⟨_,λ_=>rfl⟩;have lH:st 0=x.aC:=by rw[ma,Z8,List.drop_length];rfl
 have amB:st ns.length=uW x.aC ns:=by rw[ma,Vl,XD]
 obtain⟨xl,bu⟩:∃xl:List aB->List AV,∀ss,xl ss=[iv x.first,iv x.hours,iv x.am,dt x.seen,aT x.pieces,aT ss]:=⟨_,λ_=>rfl⟩;have sq:x.l=xl x.aC:=by rw[bu];rfl
 have pJ:∀ss,(xl ss).drop 5=[.sl ss.length (ss.flatMap aB.l) .shut]:=λss=>by rw[bu];rfl
 have aS:∀(L:List aa),(H++L)[H.length]?=L[0]?:=λL=>aW H L 0;have de:∀(L:List aa)(y:aa),(H++L).set H.length y=H++L.set 0 y:=λL y=>dL H L 0 y;have c_:∀(L:List aa),(H++L)[H.length+1]?=L[1]?:=λL=>aW H L 1;have dW:∀(L:List aa)(y:aa),(H++L).set (H.length+1) y=H++L.set 1 y:=λL y=>dL H L 1 y;rw[sq];refine aj ?_;have oh:SD.wrap ((ns.length:Int)-1)=(ns.length:Int)-1:=br _ (by omega);refine aj ?_;refine bU ?_;refine eI ns.length (λj:Nat=>[(5,iv ((ns.length:Int)-1-j))]) (λj=>H++[.cells (xl (st j)) 26,.cells rq 76]) (λi=>True) (λ_ _=>rfl) (by simp only[seval,oh];simp[a_,Wk.refl]) (by rw[lH];rfl) (λ_ _ _=>by simp) trivial (λbC bW j mE _ R hR=> ?_);clear bW;refine aj ?_;refine aD ?_;refine⟨λh=> ?_,λh=> ?_⟩
 ·have dP:j<ns.length:=by omega
  obtain⟨i,hi⟩:∃i:Nat,i=ns.length-1-j:=⟨_,rfl⟩;have hii:(ns.length:Int)-1-j=i:=by omega
  obtain⟨n,hn⟩:=bK (xs:=ns) (i:=i) (by omega);obtain⟨o0,tT⟩:=iL i n hn;obtain⟨n,rfl⟩:∃m:Nat,n=m:=⟨n.toNat,by omega⟩;have cT:st (j+1)=(st j).eraseIdx n:=by
   rw[ma,ma,show ns.length-(j+1)=i by omega,show ns.length-j=i+1 by omega];obtain⟨hlt,rfl'⟩:=SN.1 hn;rw[TY hlt,rfl'];rfl
  have cy:(st j).length+j=x.aC.length:=by
   have hd:uD (ns.drop (ns.length-j)) x.aC.length:=λq m hq=>by
    rw[Us]at hq;have:=iL _ _ hq;rw[Ur];exact⟨this.1,by omega⟩
   have:=JV hd;rw[<- ma,Ur]at this;omega
  have iZ:n<(st j).length:=by omega
  generalize st j=ss at cT cy iZ hR⊢;rw[hii];refine aK ?_;refine ah ?_;simp only[seval,eg hn,jh (show i<ns.length by omega)];have bJ:SD.wrap ((n:Int)+1)=((n+1:Nat):Int):=by rw[br _ (by omega)];rfl
  have mC:∀l:List aB,(l.flatMap aB.l).length=l.length* 4:=λl=>by
   induction l with
   |nil=>rfl
   |cons a l ih=>rw[T1,SL,ih,aB.len,Ui];omega
  have mc:((n:Int)+1).toNat=n+1:=by omega
  have L7:((n:Int)+1==0)=false:=by simp;omega
  have lD:(ss.take n).length=n:=by rw[TC];omega
  have iV:(ss.drop (n+1)).length=ss.length-(n+1):=Ur;have hD1:∀l:List aB,(ss.length-(n+1))=l.length->l.take (ss.length-(n+1))=l:=λl h=>by rw[h,Tp]
  have hD2:(ss.drop (n+1)).take (ss.length-(n+1))=ss.drop (n+1):=hD1 _ iV.symm;refine eO 10 ?_;simp only[seval,aS,pJ,bJ,mC,mc,KC aB.len,ye aB.len,lD,iV,beq_self_eq_true,af',Vq,L7,hD2,Tp];refine⟨by omega,by omega,by omega,by omega,by omega,by rw[bu];simp,?_⟩;have Dc:(ss.eraseIdx n).length=n+(ss.length-(n+1)):=by rw[X_ iZ];omega
  have Dd:(ss.eraseIdx n).flatMap aB.l=(ss.take n).flatMap aB.l++(ss.drop (n+1)).flatMap aB.l:=by rw[List.eraseIdx_eq_take_drop_succ,Un]
  rw[<- Dd,<- Dc];have pI:∀y y',((xl ss).take 5++[y]++(xl ss).drop 6).set 5 y'=((xl ss).take 5++[y']++(xl ss).drop 6):=λy y'=>by rw[bu];rfl
  have hcg:∀y,((xl ss).take 5++[y]++(xl ss).drop 6)[5]?=some y:=λy=>by rw[bu];rfl
  have hce:(xl ss).take 5++[aT (ss.eraseIdx n)]++(xl ss).drop 6=xl (ss.eraseIdx n):=by rw[bu,bu];rfl
  (repeat apply gp);refine agz (id:=H.length) (j:=5) (y:=aT (ss.eraseIdx n)) (by simp only[seval,aS]<;>rfl) (hcg _) (e9 _ _ _) ?_
  simp only[seval,de,pI,hce];have eS:SD.wrap ((i:Int)-1)=(ns.length:Int)-1-((j+1:Nat):Int):=by rw[br _ (by omega)];omega
  refine ah ?_;simp only[seval,eS];refine hR _ ⟨dP,trivial,?_⟩;rw[cT];have tV:bF (H++[.cells (xl (ss.eraseIdx n)) 26,.cells rq 76]):=Du hH λz hz m=>by
   simp only[SK,SZ,or_false]at hz;rcases hz with rfl|rfl
   ·rw[bu];exact Eg m {x with aC:=ss.eraseIdx n}
   ·intro a ha;simp only[rq,SK,SZ,or_false]at ha;rcases ha with rfl|rfl|rfl|rfl|rfl|rfl<;>simp[ec,Nz]
  rw[<- hii];exact uu [.tail (ss.eraseIdx n).length 4 48] (lL rfl rfl) (by simp only[seval];simp[a_,Wk.refl]) tV (by simp[ec]) (by rw[SC];rfl)
 ·have vt:j=ns.length:=by omega
  subst vt;refine bR ?_;have DY:(xl (st ns.length))=(x.wo ns).l:=by rw[bu,amB];rfl
  rw[DY];have oh:(x.wo ns).l.length=6:=rfl;have vI:Uh 6 (x.wo ns).l=(x.wo ns).l:=rfl;have o4:rq.length=6:=rfl;have MR:T5 6 rq=[]:=rfl;refine ah ?_;simp only[seval,aS,dW,c_,oh,vI,o4,MR];refine⟨ld _,?_⟩;refine pC ?_;simp only[seval,c_];rw[vI];exact iH (b:=(x.wo ns).av) hH (Wk.refl _) (by rw[HI];trivial) hk
end
open Go.Conc Go.Proofs Go.Gg.Tk
namespace Tk
def PD (ns:List Int)(m:Nat):Bool:=(S0 ns.length).all λi=>decide (0<=ns.getD i 0/\ns.getD i 0+(ns.length-i:Nat)<=m)
theorem agd{ns:List Int}{m:Nat}(h:PD ns m=true):uD ns m:=λi n hn=>by
 have hi:=(SN.1 hn).1;have:=Tw.1 h i (TW.2 hi);rw[decide_eq_true_eq,SE,hn]at this;exact this
theorem abL:∀n,n<4->(xh n).length=2^n/\∀l∈xh n,PD l n=true:=by decide+kernel
theorem anP{n:Nat}(hn:n<4){l:List Int}(hl:l∈xh n):uD l n:=agd ((abL n hn).2 l hl)
theorem QI{ss:List aB}:∀{ns:List Int}{y:aB},y∈uW ss ns->y∈ss
 |[],y,h=>h
 |n::ns,y,h=>QI (ns:=ns) (List.mem_of_mem_eraseIdx h)
theorem QH{ss:List aB}:∀{ns:List Int},(uW ss ns).length<=ss.length
 |[]=>SP _
 |n::ns=>by
  have h1:=QH (ss:=ss) (ns:=ns);have h2:=List.length_eraseIdx_le (uW ss ns) n.toNat;exact TV h2 h1
theorem ak.Ok.wo{x:ak}(h:x.Ok)(ns:List Int):(x.wo ns).Ok:=⟨h.first,h.hours,h.am,h.zw,h.ey,TV QH h.dp,h.seen,λy hy=>⟨(h.piece y hy).1,(h.piece y hy).2⟩,λy hy=>have k:=h.stub y (QI hy);⟨k.1,k.2⟩⟩
def F8 (x:ak):Option (List Int):=(xh x.aC.length).find? λl=>wB (x.wo l)
theorem Ro{α:Type}{p:α->Bool}:∀{l:List α}{i:Nat}{a:α},l[i]?=some a->p a=true->(∀j b,j<i->l[j]?=some b->p b=false)->l.find? p=some a
 |b::l,0,a,h,hp,_=>by cases h;rw[List.find?_cons_of_pos hp]
 |b::l,i+1,a,h,hp,h0=>by
  rw[List.find?_cons_of_neg (by rw[h0 0 b (by omega) rfl];simp)];exact Ro (i:=i) h hp λj c hj hc=>h0 (j+1) c (by omega) hc
theorem ajQ{α:Type}{p:α->Bool}{l:List α}(h:∀(j:Nat) b,l[j]?=some b->p b=false):l.find? p=none:=by
 rw[List.find?_eq_none];intro a ha;obtain⟨j,hj⟩:=U6 ha;rw[h j a hj];simp
end Tk
section
variable {lv:Bool}{H:List aa}{k kp:AV->List aa->Prop}
theorem ai7{x:ak}(hx:x.Ok)(iK:∀l,F8 x=some l->k (.aO [aL l,iv 0]) H)(cL:F8 x=none->k (.aO [aL [],iv 11]) H):bc lv SA 32 H [x.av] k kp:=by
 refine bD (rs:=[.tmp 2,.tmp 3]) (nt:=27) Tryz.f32 λhH hA=> ?_;simp only[bk,SU,ak.av];have aP:=hx.dp;have bS:x.l=[iv x.first,iv x.hours,iv x.am,dt x.seen,aT x.pieces,aT x.aC]:=rfl;have pJ:T5 5 x.l=[.sl x.aC.length (x.aC.flatMap aB.l) .shut]:=rfl;have aS:∀(L:List aa),(H++L)[H.length]?=L[0]?:=λL=>aW H L 0;have bu:x.l.length=6:=rfl;have ek:Uh 6 x.l=x.l:=rfl;refine aj ?_;refine ah ?_;simp only[seval,aS,bu,ek];refine aH ((Ki (x:=x) hx ?_));(try simp only[seval]);refine ah ?_;simp only[seval,show ((0:Int)!=0)=false from rfl];refine aD ?_;refine aK ?_;refine ah ?_;simp only[seval,aS,pJ];refine aH ((ajn (n:=x.aC.length) aP ?_));have fw:=(abL x.aC.length (by omega)).1;have fj:=λl hl=>anP (n:=x.aC.length) (by omega) (l:=l) hl;have wV:F8 x=(xh x.aC.length).find? λl=>wB (x.wo l):=rfl;generalize xh x.aC.length=ls at fw fj wV⊢;have hp8:2^x.aC.length<=2^3:=UZ (by omega) aP;(try simp only[seval,lm]);refine bU ?_;refine eI ls.length (λi:Nat=>[(17,iv i)]) (λi=>H++[.cells x.l 26]) (λi=>∀j b,j<i->ls[j]?=some b->wB (x.wo b)=false) (λ_ _=>rfl) (by simp only[seval];simp[a_,Wk.refl]) rfl (λ_ _ _=>by simp) (λj b hj=>by omega) (λbC bW i cK aq R hR=> ?_);clear bC bW;refine aj ?_;refine aD ?_;refine⟨λh=> ?_,λh=> ?_⟩
 ·have bx:i<ls.length:=by omega
  obtain⟨l,hl⟩:=bK bx;have gN:=fj l (um hl);have fW:SD.wrap ((i:Int)+1)=((i+1:Nat):Int):=by rw[br _ (by omega)];rfl
  refine aK ?_;refine ah ?_;simp only[seval,v7 hl,jh bx];refine ah ?_;simp only[seval,aS,bu,ek];refine aH ((Rf (x:=x) (ns:=l) aP gN ?_));(try simp only[seval]);refine aH ((ajo (x:=x.wo l) (hx.wo l) ?_));(try simp only[seval]);refine aD ?_;refine⟨λhc=> ?_,λhc=> ?_⟩
  ·refine aj ?_;refine aZ ?_;exact iH (b:=.aO [aL l,iv 0]) hH (II (Wk.refl _) (Wk.refl _)) (by simp[jV,ec,zg]) (iK l (by rw[wV];exact Ro hl hc aq))
  ·refine aK ?_;refine ah ?_;simp only[seval,fW];refine hR _ ⟨bx,λj b hj hb=> ?_,cz⟩;rcases YG j i with h'|h'
   ·exact aq j b h' hb
   ·have:j=i:=(by omega);subst this;rw[hl]at hb;cases hb;simpa using hc
 ·have qM:i=ls.length:=by omega
  subst qM;refine bR ?_;refine aj ?_;refine aZ ?_;exact iH (b:=.aO [aL [],iv 11]) hH (II (e9 _ _ _) (Wk.refl _)) (by simp[jV,ec,zg]) (cL (by rw[wV];exact ajQ λj b hb=>aq j b (eX hb) hb))
end
open Go.Conc
def behind (j:Nat)(o:Tx):Tx:={o with after:=o.after.push {on:=j,ground:=.data}}
def oF (ops:Array Tx)(i j:Nat):Array Tx:=ops.modify i (behind j)
theorem afF(ops:Array Tx)(i j:Nat):(oF ops i j).size=ops.size:=by simp[oF]
theorem rI(ops:Array Tx)(i j k:Nat):(oF ops i j)[k]?=if i=k then(ops[k]?).map (behind j)else ops[k]?:=by
 unfold oF;rw[Wn]
theorem agP(j:Nat)(o:Tx):cU (behind j o)=cU o++[j]:=by
 unfold cU behind;simp only[Array.toList_push,List.filterMap_append];rfl
theorem ac6{ops:Array Tx}{i j:Nat}{X l:List Nat}(h:mv ops X l):j∈X->mv (oF ops i j) X l:=by
 induction h with
 |nil X h=>exactλ_=> .nil X λk hk=>h k (by rwa [afF]at hk)
 |cons o ho hn hd l9 ih=>
  rename_i X k l;intro hj;by_cases e:i=k
  ·exact .cons (behind j o) (by rw[rI,if_pos e,ho];rfl) hn (λq hq=>by
    rw[agP]at hq;rcases SS.1 hq with hq|hq
    ·exact hd q hq
    ·rw[S9.1 hq];exact hj) (ih (Td _ hj))
  ·exact .cons o (by rw[rI,if_neg e];exact ho) hn hd (ih (Td _ hj))
theorem ara{ops:Array Tx}{i j:Nat}(kI:i≠j)(hi:i<ops.size){X l:List Nat}(h:mv ops X l):i∉X->j∉X->mv (oF ops i j) X l\/mv (oF ops j i) X l:=by
 induction h with
 |nil X h=>exactλh1 _=>absurd (h i hi) h1
 |cons o ho hn hd l9 ih=>
  rename_i X k l;intro h1 h2;by_cases e:k=i
  ·subst e;exact .inr (.cons o (by rw[rI,if_neg (Ne.symm kI)];exact ho) hn hd (ac6 l9 TF))
  ·by_cases e2:k=j
   ·subst e2;exact .inl (.cons o (by rw[rI,if_neg kI];exact ho) hn hd (ac6 l9 TF))
   ·rcases ih (λhm=>(SK.1 hm).elim (λx=>e x.symm) h1) (λhm=>(SK.1 hm).elim (λx=>e2 x.symm) h2)with q|q
    ·exact .inl (.cons o (by rw[rI,if_neg (Ne.symm e)];exact ho) hn hd q)
    ·exact .inr (.cons o (by rw[rI,if_neg (Ne.symm e2)];exact ho) hn hd q)
section
variable {lv:Bool}{P:SI}{r:Option Nat}{ops:Array Tx}{nt:Nat}
theorem afG(i j:Nat)(tmps:Array SQ):yielded (oF ops i j) tmps=yielded ops tmps:=by
 funext k;unfold yielded;rw[rI];by_cases e:i=k
 ·rw[if_pos e];cases ops[k]?<;>rfl
 ·rw[if_neg e]
theorem Py(i j:Nat)(Q:Ex->Act->View->Prop):∀l:List Nat,dq lv P r (oF ops i j) Q l=dq lv P r ops Q l
 |[]=>rfl
 |k::l=>by
  funext a V;have ih:=Py i j Q l;simp only[dq];rw[rI,afG,ih];by_cases e:i=k
  ·rw[if_pos e];cases ho:ops[k]?with
   |none=>rfl
   |some o=>rfl
  ·rw[if_neg e]
theorem Je(i j:Nat)(Hf:List Nat->List aa)(K:AS->Prop)(t:B0 K):∀(pl:List rD)(s:AS),gh lv P Hf (oF ops i j) pl s K t=gh lv P Hf ops pl s K t
 |[],_=>rfl
 |⟨k,false,_,l⟩::rest,s=>by
  have ih:=Je i j Hf K t rest;simp only[gh,rI];have e:∀o,ao (some o) (λo=>AQ lv P s o λav=>BQ lv P Hf s.T o av l/\gh lv P Hf (oF ops i j) rest (s.put o.dst av) K t)=ao (some o) (λo=>AQ lv P s o λav=>BQ lv P Hf s.T o av l/\gh lv P Hf ops rest (s.put o.dst av) K t):=λo=>by
   simp only[ao,ih]
  have bq:∀(o:Tx) av,BQ lv P Hf s.T (behind j o) av l=BQ lv P Hf s.T o av l:=λo av=>by
   induction l with
   |nil=>rfl
   |cons p l lK=>exact congrArg (λx=>_/\x) (lK λo=>by simp only[ao,ih])
  split
  ·cases ops[k]?with
   |none=>rfl
   |some o=>
    simp only[UU,ao,ih,bq];rfl
  ·cases ops[k]?with
   |none=>rfl
   |some o=>exact e o
 |⟨k,true,D,l⟩::rest,s=>by
  have ih:=Je i j Hf K t rest;simp only[gh,rI];have be:∀(o:Tx) av,BE lv P Hf s.T (behind j o) av l=BE lv P Hf s.T o av l:=λo av=>by
   induction l with
   |nil=>rfl
   |cons p l lK=>exact congrArg (λx=>_/\x) lK
  split
  ·cases ops[k]?with
   |none=>rfl
   |some o=>
    simp only[UU,ao,ih,be];rfl
  ·cases ops[k]?with
   |none=>rfl
   |some o=>simp only[ao,ih]
theorem ahS{es ord:List Nat}(aq:rO nt ops es ord=true)(t:Nat):mv ops [] (UM .any ops ops.size t (TP ops.size false) []):=by
 have aq:=rO.out aq;obtain⟨w7,_,hlt⟩:=EP aq.top;have ready:∀(ord X:List Nat),kL ops X ord=true->∀A i B,ord=A++i::B->∃o,ops[i]?=some o/\∀j∈cU o,j∈A\/j∈X:=by
  intro ord;induction ord with
  |nil=>intro X _ A i B e;cases A<;>cases e
  |cons x l ih=>
   intro X me A i B e;simp only[kL,Tg,T4,Ut,decide_eq_false_iff_not]at me;obtain⟨⟨h1,h2⟩,h3⟩:=me;cases A with
   |nil=>
    have e1:x=i:=(by have:=congrArg List.head? e;simpa using this);rw[e1]at h2;cases ho:ops[i]?with
    |none=>rw[ho]at h2;cases h2
    |some o=>
     rw[ho]at h2;exact⟨o,rfl,λj hj=> .inr (by have:=Tw.1 h2 j hj;simpa using this)⟩
   |cons y A=>
    cases e;obtain⟨o,ho,hb⟩:=ih (x::X) h3 A i B rfl;refine⟨o,ho,λj hj=> ?_⟩;rcases hb j hj with h|h
    ·exact .inl (Td _ h)
    ·rcases SK.1 h with rfl|h
     ·exact .inl (TF ..)
     ·exact .inr h
 exact Nr (ops:=ops) (λi o ho j hj=>by
   obtain⟨A,B,e⟩:=List.append_of_mem (aq.full i (SR.1 ho).1);obtain⟨o',bi,hb⟩:=ready ord [] aq.top A i B e;rw[ho]at bi;cases bi;rcases hb j hj with h|h
   ·exact hlt j (by rw[e];exact Th _ h)
   ·cases h)
  (λX ⟨i,hi,hn⟩=>by
   obtain⟨A,i',B,e,h1,h2⟩:=Ku (X:=X) ⟨i,aq.full i hi,hn⟩;obtain⟨o',bi,hb⟩:=ready ord [] aq.top A i' B e;refine⟨i',o',bi,h1,λj hj=> ?_⟩;rcases hb j hj with h|h
   ·exact h2 j h
   ·cases h)
  ops.size t (TP ops.size false) [] ⟨by simp,λi hi=>by simp[hi]⟩ (TV Y7 (by simp))
end
inductive sS (ops:Array Tx):Array Tx->Prop
 |base:sS ops ops
 |add {o:Array Tx} (h:sS ops o) (i j:Nat):sS ops (oF o i j)
section
variable {lv:Bool}{P:SI}{r:Option Nat}{ops o:Array Tx}{nt:Nat}{s:AS}{Φ:an->AS->Prop}
theorem sS.wp(h:sS ops o)(Q:Ex->Act->View->Prop)(l:List Nat):dq lv P r o Q l=dq lv P r ops Q l:=by
 induction h with
 |base=>rfl
 |add _ i j ih=>rw[Py,ih]
theorem sS.P7(h:sS ops o)(Hf:List Nat->List aa)(K:AS->Prop)(t:B0 K)(pl:List rD)(s:AS):gh lv P Hf o pl s K t=gh lv P Hf ops pl s K t:=by
 induction h with
 |base=>rfl
 |add _ i j ih=>rw[Je,ih]
def DG (lv:Bool)(P:SI)(r:Option Nat)(nt:Nat)(ops o:Array Tx)(s:AS)(Φ:an->AS->Prop):Prop:=
 ∀l E V a Q,mv o [] l->At E V s a nt->(∀ae e E' V' a' s',Kept E E' V V' a a'->At E' V' s' a' nt->qn E' ae e->Φ ae s'->Q e a' V')->dq lv P r ops Q l a V
theorem rN(i j:Nat)(kI:(i !=j&&decide (i<o.size))=true)(h1:DG lv P r nt ops (oF o i j) s Φ)(h2:DG lv P r nt ops (oF o j i) s Φ):DG lv P r nt ops o s Φ:=λl E V a Q hs ai hQ=>by
 rw[Tg,bne_iff_ne,decide_eq_true_eq]at kI;rcases ara kI.1 kI.2 hs (by simp) (by simp)with hs|hs
 ·exact h1 l E V a Q hs ai hQ
 ·exact h2 l E V a Q hs ai hQ
theorem agn{id:Nat}(es ord:List Nat)(hm:P.follows .mixedOrders=true)(aq:rO nt ops es ord=true)(h:DG lv P r nt ops ops s Φ):aQ lv P r nt (.region id ops true) s Φ:=by
 intro E V a Q ai hQ;refine O6 λt=> ?_;rw[show VP (P.follows .mixedOrders) ops t=UM .any ops ops.size t (TP ops.size false) [] by unfold VP;rw[hm];simp[Zf]];exact h _ E V a Q (ahS aq t) ai hQ
end
def HO (lv:Bool)(P:SI)(o:Tx)(s:AS)(next:AS->Prop):Prop:=match o.op with
 |.call c=>match c.callee with
  |.value x=>ao (s.ev x) λtg=>ao (ft s c.args.toList) λaF=>BT lv P tg s.H aF (λb H'=>next ((⟨s.T,H'⟩:AS).put o.dst b)) (λ_ _=>False) ⟨0⟩
  |_=>False
 |_=>False
def ab0 (ops:Array Tx)(A B:List Nat)(m:Nat):Bool:=
 let cl:=gK ops (A++m::B) []
 A.all (λi=>(nQ cl m).contains i)&&B.all λi=>(nQ cl i).contains m
theorem sS.get{ops o:Array Tx}(h:sS ops o){m:Nat}{om:Tx}(hm:ops[m]?=some om):∃qg,o[m]?=some qg/\qg.op=om.op/\qg.dst=om.dst:=by
 induction h with
 |base=>exact⟨om,hm,rfl,rfl⟩
 |add _ i j ih=>
  obtain⟨q,h1,h2,h3⟩:=ih;rw[rI];split
  ·exact⟨behind j q,by rw[h1];rfl,h2,h3⟩
  ·exact⟨q,h1,h2,h3⟩
section
variable {lv:Bool}{P:SI}{r:Option Nat}{ops o:Array Tx}{Hf:List Nat->List aa}{T0:List (Nat×AV)}{es ord:List Nat}{nt:Nat}{s:AS}{Φ:an->AS->Prop}
theorem QF{f:Nat->AV}(aq:zO nt ops ord)(G:List Nat)(ay:∀i∈G,∀o,ops[i]?=some o->∀X',lg ops X'->i∉X'->(∀j∈cU o,j∈X')->OB lv P r ops Hf T0 es f i o X'){X l:List Nat}(hs:mv ops X l):
  (∀i∈X,i<ops.size)->lg ops X->∀(E:Env)(V:View)(a:Act)(Q:Ex->Act->View->Prop),At E V ⟨TX ops T0 f X,Hf (done es X)⟩ a nt->
   (∀E' V' a' X' l',Kept E E' V V' a a'->At E' V' ⟨TX ops T0 f X',Hf (done es X')⟩ a' nt->(∀i∈X',i<ops.size)->lg ops X'->(∀i∈X',i∈X\/i∈G)->(∀i∈X,i∈X')->mv ops X' l'->(∀i za,l'=i::za->i∉G)->dq lv P r ops Q l' a' V')->dq lv P r ops Q l a V:=by
 induction hs with
 |nil X h=>
  intro hX hc E V a Q ai hQ;exact hQ E V a X [] (Kept.refl E V a) ai hX hc (λi hi=> .inl hi) (λi hi=>hi) (.nil X h) (λi za e=>by cases e)
 |cons o ho hn hd l9 ih=>
  rename_i X i l;intro hX hc E V a Q ai hQ;by_cases hG:i∈G
  ·have hi:i<ops.size:=(SR.1 ho).1;simp only[dq,ho];have oQ:∀k∈i::X,k<ops.size:=λk hk=>(SK.1 hk).elim (λe=>by rw[e];exact hi) (hX k);have bp:=hc.cons ho hd;have hw:Ti o (yielded ops a.tmps)=true:=(by unfold Ti;rw[aq.CP i o ho]);rw[if_pos hw];refine .inl ?_;have dx:∀d,o.dst=some d->d<a.tmps.size:=λd e=>(by rw[ai.size];exact aq.dst i o d ho e);have l8:=ay i hG o ho X hc hn hd;have mb:∀{m9:List Nat},(∀j∈m9,j∈i::X\/j∈G)->∀j∈m9,j∈X\/j∈G:=λh j hj=>by
    rcases h j hj with h|h
    ·rcases SK.1 h with rfl|h
     ·exact .inr hG
     ·exact .inl h
    ·exact .inr h
   unfold OB at l8;by_cases dD:i∈es
   ·rw[if_pos dD]at l8;have aP:=l8.step (r:=r) (bad:=λ_ _=>False);refine aP E V a _ Q ai.bw ai.tok dx (.inr (aq.wC i o ho)) (λE' V' a' s' hk cq ht e=> ?_) λ_ _ _ _ _ _ _ _ _ h=>h.elim;subst e;rw[xP ho rfl]at ht cq;exact ih oQ bp E' V' a' Q ⟨cq,ht,hk.size.trans ai.size⟩ λbT aU cw m9 za aJ di w1 w2 w3 w4=>hQ bT aU cw m9 za (hk.trans aJ) di w1 w2 (mb w3) (λj hj=>w4 j (Td _ hj))
   ·rw[if_neg dD]at l8;obtain⟨T,hT,hq⟩:=l8;refine hq E V a _ Q ai.bw (λt av e=>ai.tok t av (hT t av e)) (.inr (aq.wC i o ho)) λE' V' v hle cp fg cq hv=> ?_;have ht:cu E' ((⟨TX ops T0 f X,Hf (done es X)⟩:AS).put o.dst (f i)).T (a.put o.dst v).tmps:=cu.ii (s:=⟨TX ops T0 f X,Hf (done es X)⟩) (ai.tok.mono hle) dx hv;rw[xP ho rfl]at ht;refine ih oQ bp E' V' (a.put o.dst v) Q ⟨by rw[JS dD];exact cq,ht,(eo _ _ _).trans ai.size⟩ λbT aU cw m9 za hk di w1 w2 w3 w4=>
     hQ bT aU cw m9 za ⟨hle.trans hk.le,hk.size.trans (eo _ _ _),hk.defers.trans (put_defers _ _ _),hk.role.trans cp,hk.deaf.trans fg⟩ di w1 w2 (mb w3) (λj hj=>w4 j (Td _ hj))
  ·exact hQ E V a X (i::l) (Kept.refl E V a) ai hX hc (λi hi=> .inl hi) (λi hi=>hi) (.cons o ho hn hd l9) (λj za e=>by cases e;exact hG)
theorem aeb{ops:Array Tx}:∀{A L X:List Nat},kL ops X (A++L)=true->kL ops X A=true/\kL ops (A.reverse++X) L=true
 |[],L,X,h=>⟨rfl,h⟩
 |i::A,L,X,h=>by
  rw[Vp,kL,Tg]at h;obtain⟨h1,h2⟩:=aeb h.2;refine⟨by rw[kL,Tg];exact⟨h.1,h1⟩,?_⟩;rw[Zo,SC];exact h2
theorem aec{ops:Array Tx}:∀{A X:List Nat},kL ops X A=true->lg ops X->lg ops (A.reverse++X)
 |[],X,h,hX=>hX
 |i::A,X,h,hX=>by
  have me:=h;simp only[kL,Tg,T4,Ut,decide_eq_false_iff_not]at me;obtain⟨⟨hi,h2⟩,h3⟩:=me;cases ho:ops[i]?with
  |none=>rw[ho]at h2;cases h2
  |some o=>
   rw[ho]at h2;have hd:∀j∈cU o,j∈X:=λj hj=>(by have:=Tw.1 h2 j hj;simpa using this);have:=aec h3 (hX.cons ho hd);rw[Zo,SC];exact this
def B5 (lv:Bool)(P:SI)(ops:Array Tx)(m:Nat)(Ie:List rD)(Φ:an->AS->Prop)(s1:AS):Prop:=ao (ops[m]?) λom=>HO lv P om s1 λs2=>∃oA:List Nat->List aa,s2.H=oA []/\gh lv P oA ops Ie s2 (Φ .normal) ⟨0⟩
theorem qA(ha:sS ops o)(m:Nat)(A B pE nO:List Nat)(pl1 Ie:List rD)(pt:List Nat->List aa)(aq:rO nt o [] (A++m::B)=true)(Gz:ab0 o A B m=true)(al3:rf (gK o (A++m::B) []) pE [] A=pl1)(al4:rf (gK o (A++m::B) []) nO (m::A.reverse) B=Ie)(aln:nO.all B.contains=true)(h0:s.H=pt [])
  (h:gh lv P pt ops pl1 s (B5 lv P ops m Ie Φ) ⟨0⟩):DG lv P r nt ops o s Φ:=λl E V a Q hs ai hQ=>by
 subst al3 al4;rw[<- ha.wp];rw[<- ha.P7]at h;have aq:=rO.out aq;obtain⟨w7,_,hlt⟩:=EP aq.top;obtain⟨tA,tB⟩:=aeb aq.top;rw[SO]at tB;have tB':kL o (m::A.reverse) B=true:=by
  rw[kL,Tg]at tB;exact tB.2
 unfold ab0 at Gz;dsimp only at Gz;rw[Tg,Tw,Tw]at Gz;obtain⟨cA,cB⟩:=Gz;have hmA:m∉A:=λhm=>(Vd.1 w7).2.2 m hm m (by simp) rfl;have Dn:m∉B:=(VX.1 (Vd.1 w7).2.1).1;have R0:∀i∈B,i∉A:=λi hi hA=>(Vd.1 w7).2.2 i hA i (by simp[hi]) rfl;have de:s=⟨TX o s.T (λ_=> .val undef) [],pt (done pE [])⟩:=by
  have:done pE []=[]:=by simp[done]
  rw[this,<- h0];rfl
 have h':gh lv P pt o (rf (gK o (A++m::B) []) pE [] A) ⟨TX o s.T (λ_=> .val undef) [],pt (done pE [])⟩ (B5 lv P ops m (rf (gK o (A++m::B) []) nO (m::A.reverse) B) Φ) ⟨0⟩:=by rw[<- de];exact h
 obtain⟨f,_,q2,q3⟩:=Cv (r:=r) aq A [] _ tA (λi hi=>by cases hi) h';have tJ:At E V ⟨TX o s.T f [],pt (done pE [])⟩ a nt:=by
  have e:(⟨TX o s.T f [],pt (done pE [])⟩:AS)=s:=de.symm;rw[e];exact ai
 refine QF (Hf:=pt) (es:=pE) aq A q2 hs (by simp) (λi hi=>by cases hi) E V a Q tJ λE1 V1 a1 X1 l1 iK wM hX1 du Ms _ dW Hb=> ?_;have hmX:m∉X1:=λhm=>by
  rcases Ms m hm with h|h
  ·cases h
  ·exact hmA h
 cases dW with
 |nil _ eQ=>exact absurd (eQ m (hlt m (by simp))) hmX
 |@cons _ i l2 qg ho hn hd l9=>
  have hi:i<o.size:=(SR.1 ho).1;have hiA:i∉A:=Hb i l2 rfl;have l6:i=m:=by
   rcases SS.1 (aq.full i hi)with h|h
   ·exact absurd h hiA
   ·rcases SK.1 h with h|h
    ·exact h
    ·have:=cB i h;have hr:m∈nQ (gK o (A++m::B) []) i:=(by simpa using this);exact absurd (Bt du (Ae hr) λo' bi k hk=>by rw[ho]at bi;cases bi;exact hd k hk) hmX
  subst l6;have R6:∀j∈A,j∈X1:=λj hj=>by
   have:=cA j hj;have hr:j∈nQ (gK o (A++i::B) []) i:=(by simpa using this);exact Bt du (Ae hr) λo' bi k hk=>by rw[ho]at bi;cases bi;exact hd k hk
  have LY:∀j,j∈X1<->j∈A.reverse++[]:=λj=>by
   rw[SO,XN];exact⟨λh=>(Ms j h).elim (λh=>by cases h) id,R6 j⟩
  have K8:At E1 V1 ⟨TX o s.T f (A.reverse++[]),pt (done pE (A.reverse++[]))⟩ a1 nt:=by
   refine⟨?_,λt x e=> ?_,wM.size⟩
   ·rw[<- FZ LY];exact wM.bw
   ·rw[<- Fx aq LY]at e;exact wM.tok t x e
  simp only[dq,ho];have hw:Ti qg (yielded o a1.tmps)=true:=by unfold Ti;rw[aq.CP i qg ho]
  rw[if_pos hw];refine .inl ?_;have dx:∀d,qg.dst=some d->d<a1.tmps.size:=λd e=>by rw[wM.size];exact aq.dst i qg d ho e
  unfold B5 at q3;obtain⟨om,hom,q3⟩:=q3.out;obtain⟨om2,g1,g2,g3⟩:=ha.get hom;rw[ho]at g1;cases g1;unfold HO at q3;obtain⟨c,x,ak4,akT,q4⟩:∃c x,om.op=.call c/\c.callee=.value x/\ao ((⟨TX o s.T f (A.reverse++[]),pt (done pE (A.reverse++[]))⟩:AS).ev x) λtg=>ao (ft ⟨TX o s.T f (A.reverse++[]),pt (done pE (A.reverse++[]))⟩ c.args.toList) λaF=>BT lv P tg (pt (done pE (A.reverse++[]))) aF (λb H'=>∃oA:List Nat->List aa,((⟨TX o s.T f (A.reverse++[]),H'⟩:AS).put om.dst b).H=oA []/\gh lv P oA ops (rf (gK o (A++i::B) []) nO (i::A.reverse) B) ((⟨TX o s.T f (A.reverse++[]),H'⟩:AS).put om.dst b) (Φ .normal) ⟨0⟩) (λ_ _=>False) ⟨0⟩:=by
   split at q3
   ·rename_i c hc;split at q3
    ·rename_i x hx;exact⟨c,x,hc,hx,q3⟩
    ·exact q3.elim
   ·exact q3.elim
  obtain⟨tg,e1,q5⟩:=q4.out;obtain⟨aF,e2,q6⟩:=q5.out;have lI:=OL (lv:=lv) (P:=P) (r:=r) (o:=qg) (s:=⟨TX o s.T f (A.reverse++[]),pt (done pE (A.reverse++[]))⟩) (next:=λs2=>∃av H' oA,s2=(⟨TX o s.T f (A.reverse++[]),H'⟩:AS).put qg.dst av/\H'=oA []/\gh lv P oA ops (rf (gK o (A++i::B) []) nO (i::A.reverse) B) s2 (Φ .normal) ⟨0⟩) (bad:=λ_ _=>False) (g2.trans ak4) akT e1 e2 (je.mono q6 (λav H'=>by
    rintro⟨oA,w1,w2⟩
    rw[<- g3]at w1 w2;refine⟨av,H',oA,rfl,?_,w2⟩;rw[<- w1];cases qg.dst<;>rfl) (λ_ _ h=>h))
  refine lI E1 V1 a1 _ Q K8.bw K8.tok dx (.inr (aq.wC i qg ho)) (λE2 V2 a2 s2 cL cq yT e=> ?_) λ_ _ _ _ _ _ _ _ _ h=>h.elim;obtain⟨av,H',oA,rfl,hH',hb⟩:=e;obtain⟨f',hf'⟩:∃f':Nat->AV,f'=λj=>if j=i then av else f j:=⟨_,rfl⟩;have hff:∀j∈A.reverse++[],f j=f' j:=λj hj=>by
   have:j≠i:=λe=>hmA (by subst e;simpa using hj);rw[hf'];simp[this]
  have hp:(⟨TX o s.T f (A.reverse++[]),H'⟩:AS).put qg.dst av=⟨TX o s.T f' (i::A.reverse),oA (done nO (i::A.reverse))⟩:=by
   have pL:done nO (i::A.reverse)=[]:=by
    unfold done;rw[YR];intro j hj;have:=Tw.1 aln j hj;have GM:j∈B:=(by simpa using this);have h1:j≠i:=λe=>Dn (e▸GM);have h2:=R0 j GM;simp[h1,h2]
   rw[Ca hff,xP ho (by rw[hf'];simp),pL,hH',SO]
  rw[hp]at hb cq yT;rw[<- ha.P7]at hb;have akZ:lg o (i::A.reverse):=by
   have h1:=aec tA (X:=[]) (λi hi=>by cases hi);rw[SO]at h1;exact h1.cons ho λj hj=>by
    have:=Ms j (hd j hj);simpa using this
  obtain⟨f2,p1,p2,p3⟩:=Cv (r:=r) aq B (i::A.reverse) f' tB' akZ hb;have aaI:∀j,j∈i::X1<->j∈i::A.reverse:=λj=>by
   have:=LY j;rw[SO]at this;rw[SK,SK,this]
  have ve:At E2 V2 ⟨TX o s.T f2 (i::X1),oA (done nO (i::X1))⟩ a2 nt:=by
   refine⟨?_,λt x e=> ?_,cL.size.trans K8.size⟩
   ·rw[FZ aaI];exact cq
   ·rw[Fx aq aaI,Ca p1]at e;exact yT t x e
  refine QF (Hf:=oA) (es:=nO) aq B p2 l9 (λk hk=>(SK.1 hk).elim (λe=>by rw[e];exact hi) (hX1 k)) (du.cons ho hd) E2 V2 a2 Q ve λE3 V3 a3 X3 l3 w5 qH hX3 dw auU aaN pY amA=> ?_;cases pY with
  |cons o3 L8 L2 rY auT=>
   rename_i j l4;exfalso;have hj:j<o.size:=(SR.1 L8).1;have GM:=amA j l4 rfl;rcases SS.1 (aq.full j hj)with h|h
   ·exact L2 (aaN j (Td _ (R6 j h)))
   ·rcases SK.1 h with rfl|h
    ·exact L2 (aaN j (TF ..))
    ·exact GM h
  |nil _ eQ=>
   have aaJ:∀j,j∈X3<->j∈B.reverse++i::A.reverse:=λj=>by
    rw[SS,SK,XN,XN];constructor
    ·intro h;have:=SS.1 (aq.full j (hX3 j h));rw[SK]at this;rcases this with h|h|h
     ·exact .inr (.inr h)
     ·exact .inr (.inl h)
     ·exact .inl h
    ·intro h;refine eQ j (hlt j ?_);rw[SS,SK];rcases h with h|h|h
     ·exact .inr (.inr h)
     ·exact .inr (.inl h)
     ·exact .inl h
   refine hQ .normal .normal E3 V3 a3 _ ((iK.trans cL).trans w5) ⟨?_,λt x e=> ?_,qH.size⟩ trivial p3
   ·rw[<- FZ aaJ];exact qH.bw
   ·rw[<- Fx aq aaJ]at e;exact qH.tok t x e
end
theorem aon:type_of% @HO.eq_1:=by intros;rw[HO.eq_1]
theorem aoo:type_of% @B5.eq_1:=by intros;rw[B5.eq_1]
attribute [seval] aon aoo
open Go.Proofs Go.Gg.Tk
theorem acI{x:ak}{q:Nat}(hq:q<x.pieces.length):zq x [(q:Int)]=true:=by
 unfold zq;simp;omega
theorem ahI{lv:Bool}{P:SI}{r:Option Nat}{nt:Nat}{ops:Array Tx}{s:AS}{Φ:an->AS->Prop}{α:Type}{ok:α->Prop}(st:α->AS)(rest:∀x,ok x->Φ .normal (st x))(h:(∀x,ok x->Φ .normal (st x))->DG lv P r nt ops ops s Φ):DG lv P r nt ops ops s Φ:=h rest
theorem rl{T V:List (Nat×AV)}{H H':List aa}(hH:H=H')(hv:∀p∈V,∃b,look T p.1=some b/\Wk b p.2):(⟨T,H⟩:AS).Sub ⟨V,H'⟩:=
 ⟨λt a e=>hv (t,a) (o_ e),hH⟩
def opsOf:Ub->Array Tx
 |.region _ o _=>o
 |.seq a _=>opsOf a
 |_=>#[]
structure Bk (H:List aa)(M:List AV->List AV->List aa)(L:List aa)(B:List AV->List AV->List aa)(N:Nat):Prop where
 f:∀u v,B u v=H++(M u v++L)
 l:∀u v,(B u v).length=N
section
variable {H L:List aa}{M B:List AV->List AV->List aa}{N:Nat}
theorem Bk.n(h:Bk H M L B N)(u v:List AV)(L':List aa)(j:Nat):(B u v++L')[N+j]?=L'[j]?:=by rw[<- h.l u v,aW]
theorem Bk.s(h:Bk H M L B N)(u v:List AV)(L':List aa)(j:Nat)(y:aa):(B u v++L').set (N+j) y=B u v++L'.set j y:=by rw[<- h.l u v,dL]
theorem Bk.n0(h:Bk H M L B N)(u v:List AV)(L':List aa):(B u v++L')[N]?=L'[0]?:=h.n u v L' 0
theorem Bk.s0(h:Bk H M L B N)(u v:List AV)(L':List aa)(y:aa):(B u v++L').set N y=B u v++L'.set 0 y:=h.s u v L' 0 y
theorem Bk.n1(h:Bk H M L B N)(u v:List AV)(L':List aa):(B u v++L')[N+1]?=L'[1]?:=h.n u v L' 1
theorem Bk.s1(h:Bk H M L B N)(u v:List AV)(L':List aa)(y:aa):(B u v++L').set (N+1) y=B u v++L'.set 1 y:=h.s u v L' 1 y
theorem Bk.g(h:Bk H M L B N){j:Nat}{u v:List AV}(hl:j<(M u v).length){a y:aa}{u' v':List AV}(ha:(M u v)[j]?=some a)(hy:(M u v).set j y=M u' v')(L':List aa):(B u v++L')[H.length+j]?=some a/\(B u v++L').set (H.length+j) y=B u' v'++L':=by
 rw[h.f,h.f,SC,SC,SC,SC,aW,dL,SY hl,UX _ _ hl,hy];exact⟨ha,rfl⟩
theorem Bk.gu(h:Bk H M L B N)(j:Nat)(hl:∀u v,j<(M u v).length)(ha:∀u v,(M u v)[j]?=some (.cells u 76))(hy:∀u v w,(M u v).set j (.cells w 76)=M w v):(∀u v L',(B u v++L')[H.length+j]?=some (.cells u 76))/\(∀u v w L',(B u v++L').set (H.length+j) (.cells w 76)=B w v++L')/\(∀u v,(B u v)[H.length+j]?=some (.cells u 76))/\∀u v w,(B u v).set (H.length+j) (.cells w 76)=B w v:=by
 have k1:=λu v w L'=>h.g (hl u v) (ha u v) (hy u v w) L';have k2:=λu v w=>k1 u v w [];simp only[SO]at k2;exact⟨λu v L'=>(k1 u v u L').1,λu v w L'=>(k1 u v w L').2,λu v=>(k2 u v u).1,λu v w=>(k2 u v w).2⟩
theorem Bk.gv(h:Bk H M L B N)(j:Nat)(hl:∀u v,j<(M u v).length)(ha:∀u v,(M u v)[j]?=some (.cells v 88))(hy:∀u v w,(M u v).set j (.cells w 88)=M u w):(∀u v L',(B u v++L')[H.length+j]?=some (.cells v 88))/\(∀u v w L',(B u v++L').set (H.length+j) (.cells w 88)=B u w++L')/\(∀u v,(B u v)[H.length+j]?=some (.cells v 88))/\∀u v w,(B u v).set (H.length+j) (.cells w 88)=B u w:=by
 have k1:=λu v w L'=>h.g (hl u v) (ha u v) (hy u v w) L';have k2:=λu v w=>k1 u v w [];simp only[SO]at k2;exact⟨λu v L'=>(k1 u v v L').1,λu v w L'=>(k1 u v w L').2,λu v=>(k2 u v v).1,λu v w=>(k2 u v w).2⟩
theorem qB{x:ak}{p q:Nat}{k kp:AV->List aa->Prop}(i j:Nat)(M:List AV->List AV->List aa)(u0 v0:List AV)(hx:x.Ok)(eJ:x.am=p)(iM:zq x [(q:Int)]=true)(hm:H[0]?=some .main)(h1:(M u0 v0)[i]?=some (.cells [.sl 1 [iv q] .exact] 22))(h2:(M u0 v0)[j]?=some (.cells x.l 26))(hn:∀u v,(M u v).length=(M u0 v0).length)(hk:∀D L mp N B,fS x 1 D->bM D->(D.l mp).length=28->(∀a∈D.l mp,a.leaf=true)->Bk H M L B N->k (.aO [x.av,.agg (D.l mp),iv (fq D)]) (B u0 v0)):bc true SA 51 (H++M u0 v0) [x.av,iv 1,.fn (.func 80) [] [.op (H.length+i) 0,.op (H.length+j) 0]] k kp:=by
 refine Ao (x:=x) (b:=zq x [(q:Int)]) hx eJ (fV hm) (λL k kp hk=>cC (Kl (x:=x) (ns:=[(q:Int)]) (e:=.exact) (il:=H.length+i) (ir:=H.length+j) hx (by simp) ?_ ?_ hk)) (λh=>by rw[iM]at h;cases h) λ_ js D L mp iJ jQ cr tS hg=> ?_
 ·rw[SC,aW];exact fV h1
 ·rw[SC,aW];exact fV h2
 ·have:=hk D L mp (H.length+(M u0 v0).length+L.length) (λu v=>H++(M u v++L)) ⟨p,js,eJ,iJ,jQ,cr⟩ cr (Kn.len cr mp) (vQ D mp) ⟨λ_ _=>rfl,λu v=>by rw[SL,SL,hn];omega⟩;rw[SC];exact this
end
theorem aoE{H:List aa}{x:ak}{q nt:Nat}{ops:Array Tx}{c:Ub}{Ψ:an->AS->Prop}(ho:nt=27/\ops=opsOf (cs (ar_.body.getD .skip))\/nt=29/\ops=opsOf (cs (ZT.body.getD .skip)))(hx:x.Ok)(hq:q<x.pieces.length)(hm:H[0]?=some .main)(rest:∀y:Nat×Nat×Kn×List aa,fS x 1 y.2.2.1/\bM y.2.2.1/\(∃L,y.2.2.2=H++L)/\y.2.2.2[H.length]?=some (.cells x.l 26)/\y.2.2.2[y.1]?=some (.cells (y.2.2.1.l y.2.1) 88)->an.then (λs'=>aQ true SA none nt c s' Ψ) Ψ .normal ⟨[(7,.op y.1 0),(8,iv (fq y.2.2.1)),(1,iv q),(2,.op H.length 0)],y.2.2.2⟩):DG true SA none nt ops ops ⟨[(5,iv 0),(4,.sl 0 [] .exact),(2,.op H.length 0),(0,.agg x.l),(1,iv q)],H++[.cells x.l 26]⟩ (an.then (λs'=>aQ true SA none nt c s' Ψ) Ψ):=by
 rcases ho with⟨rfl,rfl⟩|⟨rfl,rfl⟩
 all_goals
  dsimp only[ZT,ar_,S7,cs,opsOf];have hp:=hx.am;have n9:=hx.ey;have iM:=acI hq;obtain⟨p,eJ⟩:∃p:Nat,x.am=p:=⟨x.am.toNat,by omega⟩;have bS:x.l=[iv x.first,iv x.hours,iv x.am,dt x.seen,aT x.pieces,aT x.aC]:=rfl;have gz:∀(L:List aa)(j:Nat),(H++L)[H.length+j]?=L[j]?:=λL j=>aW H L j;have vG:∀(L:List aa)(j:Nat)(y:aa),(H++L).set (H.length+j) y=H++L.set j y:=λL j y=>dL H L j y;have aS:∀(L:List aa),(H++L)[H.length]?=L[0]?:=λL=>aW H L 0;have bu:x.l.length=6:=rfl;have nR:(1<=2^24)=True:=eq_true (by decide);have ek:Uh 6 x.l=x.l:=rfl;obtain⟨u0,hu⟩:∃u0:List AV,u0=[.val (.int .i64 0),.val (.int .i64 0),.val (.int .i64 0),.sl 0 [] .exact,.sl 0 [] .exact,.sl 0 [] .exact]:=⟨_,rfl⟩;obtain⟨v0,hv⟩:∃v0:List AV,v0=[.val (.bool false),.val (.map none),.val (.int .u16 0),.val (.int .u16 0),.val (.int .u16 0),.val (.int .u16 0),.val (.int .u16 0),.val (.int .u16 0),.val (.int .u16 0),.val (.int .u16 0),.val (.int .u16 0),.val (.int .u16 0),.val (.int .u16 0),.val (.int .u16 0),.val (.int .u16 0),.val (.int .u16 0),.val (.int .u16 0),.val (.int .i64 0),.val (.int .i64 0),.val (.int .i64 0),.val (.int .i64 0),.val (.int .i64 0),.val (.int .i64 0),.val (.int .i64 0),.val (.int .i64 0),.val (.int .i64 0),.val (.int .i64 0),.val (.int .i64 0)]:=⟨_,rfl⟩;have dJ:=hu.symm;have cY:=hv.symm;have iB:u0.length=6:=by rw[hu];rfl
  have iN:v0.length=28:=by rw[hv];rfl
  have jr:T5 6 u0=[]:=by rw[hu];rfl
  have gf:T5 28 v0=[]:=by rw[hv];rfl
  refine rN 5 10 rfl ?_ ?_
  ·refine rN 5 11 rfl ?_ ?_
   ·refine rN 4 10 rfl ?_ ?_
    ·refine rN 4 11 rfl ?_ ?_
     ·refine rN 10 11 rfl ?_ ?_
      ·refine qA (.add (.add (.add (.add (.add .base 5 10) 5 11) 4 10) 4 11) 10 11) 5 [0,1,2,3,11,10,4] [6,7,8,9,12,13,14] [11,10,4] [12,13] [⟨0,false,[],[([11],[11]),([11,10],[11,10]),([11,10,4],[11,10,4])]⟩,⟨1,false,[],[([11],[11]),([11,10],[11,10])]⟩,⟨2,false,[],[([11],[11]),([11,10],[11,10])]⟩,⟨3,false,[],[([11],[11]),([11,10],[11,10])]⟩,⟨11,true,[11],[]⟩,⟨10,true,[11,10],[]⟩,⟨4,true,[11,10,4],[]⟩] [⟨6,false,[],[]⟩,⟨7,false,[],[]⟩,⟨8,false,[],[([12],[12])]⟩,⟨9,false,[],[([12],[12]),([12,13],[12,13])]⟩,⟨12,true,[12],[]⟩,⟨13,true,[12,13],[]⟩,⟨14,false,[12,13],[]⟩] (λD=>bif isDone 4 D then H++[.cells x.l 26,.cells v0 88,.cells u0 76,.cells x.l 26,.cells [.sl 1 [iv q] .exact] 22]else bif isDone 10 D then H++[.cells x.l 26,.cells v0 88,.cells u0 76]else bif isDone 11 D then H++[.cells x.l 26,.cells v0 88]else H++[.cells x.l 26]) (by kernel_rfl) (by kernel_rfl) (by kernel_rfl) (by kernel_rfl) (by kernel_rfl) (by first|rfl|simp only[seval]) ?_;(try simp only[seval,z1,ek,nR,and_self,aS,dJ,cY,bu,SL]);refine kz _ _ (cC (oK (x:=x) (ns:=[(q:Int)]) ⟨rfl,rfl⟩)) ?_;(try simp only[seval,aS,dJ,cY,bu,SL,SC]);refine aH ((qB 4 3 (λu v=>[.cells x.l 26,.cells v 88,.cells u 76,.cells x.l 26,.cells [.sl 1 [iv q] .exact] 22]) u0 v0 hx eJ iM hm rfl rfl (λ_ _=>rfl) λD L mp N Bf eY cr b9 dV hB=> ?_));obtain⟨jK,jX,jL,jY⟩:=hB.gu 2 (λ_ _=>by simp) (λ_ _=>rfl) λ_ _ _=>rfl;obtain⟨jM,jZ,jN,j3⟩:=hB.gv 1 (λ_ _=>by simp) (λ_ _=>rfl) λ_ _ _=>rfl;refine⟨λDD=>bif isDone 13 DD then(Bf x.l (D.l mp))else bif isDone 12 DD then(Bf x.l v0)else Bf u0 v0,by first|rfl|simp only[seval],?_⟩;try simp only[seval,dJ,cY,hB.l,hB.n0,hB.s0,hB.n1,hB.s1,bu,b9,iB,iN,jr,gf,ak.av,jK,jX,jL,jY,jM,jZ,jN,j3]
       first|refine⟨ld x,dV,?_⟩|trace_state
       have hR:=rest (H.length+1,mp,D,(Bf x.l (D.l mp))) ⟨eY,cr,⟨_,by rw[hB.f]⟩,by rw[hB.f];exact aW H _ 0,by simp only[seval,dJ,cY,hB.l,hB.n0,hB.s0,hB.n1,hB.s1,bu,b9,iB,iN,jr,gf,ak.av,jK,jX,jL,jY,jM,jZ,jN,j3]⟩;exact iG (rl rfl (by simp only[seval];simp[a_,Wk.refl])) hR
      ·refine qA (.add (.add (.add (.add (.add .base 5 10) 5 11) 4 10) 4 11) 11 10) 5 [0,1,2,3,10,11,4] [6,7,8,9,12,13,14] [10,11,4] [12,13] [⟨0,false,[],[([10],[10]),([10,11],[10,11]),([10,11,4],[10,11,4])]⟩,⟨1,false,[],[([10],[10]),([10,11],[10,11])]⟩,⟨2,false,[],[([10],[10]),([10,11],[10,11])]⟩,⟨3,false,[],[([10],[10]),([10,11],[10,11])]⟩,⟨10,true,[10],[]⟩,⟨11,true,[10,11],[]⟩,⟨4,true,[10,11,4],[]⟩] [⟨6,false,[],[]⟩,⟨7,false,[],[]⟩,⟨8,false,[],[([12],[12])]⟩,⟨9,false,[],[([12],[12]),([12,13],[12,13])]⟩,⟨12,true,[12],[]⟩,⟨13,true,[12,13],[]⟩,⟨14,false,[12,13],[]⟩] (λD=>bif isDone 4 D then H++[.cells x.l 26,.cells u0 76,.cells v0 88,.cells x.l 26,.cells [.sl 1 [iv q] .exact] 22]else bif isDone 11 D then H++[.cells x.l 26,.cells u0 76,.cells v0 88]else bif isDone 10 D then H++[.cells x.l 26,.cells u0 76]else H++[.cells x.l 26]) (by kernel_rfl) (by kernel_rfl) (by kernel_rfl) (by kernel_rfl) (by kernel_rfl) (by first|rfl|simp only[seval]) ?_;(try simp only[seval,z1,ek,nR,and_self,aS,dJ,cY,bu,SL]);refine kz _ _ (cC (oK (x:=x) (ns:=[(q:Int)]) ⟨rfl,rfl⟩)) ?_;(try simp only[seval,aS,dJ,cY,bu,SL,SC]);refine aH ((qB 4 3 (λu v=>[.cells x.l 26,.cells u 76,.cells v 88,.cells x.l 26,.cells [.sl 1 [iv q] .exact] 22]) u0 v0 hx eJ iM hm rfl rfl (λ_ _=>rfl) λD L mp N Bf eY cr b9 dV hB=> ?_));obtain⟨jK,jX,jL,jY⟩:=hB.gu 1 (λ_ _=>by simp) (λ_ _=>rfl) λ_ _ _=>rfl;obtain⟨jM,jZ,jN,j3⟩:=hB.gv 2 (λ_ _=>by simp) (λ_ _=>rfl) λ_ _ _=>rfl;refine⟨λDD=>bif isDone 13 DD then(Bf x.l (D.l mp))else bif isDone 12 DD then(Bf x.l v0)else Bf u0 v0,by first|rfl|simp only[seval],?_⟩;try simp only[seval,dJ,cY,hB.l,hB.n0,hB.s0,hB.n1,hB.s1,bu,b9,iB,iN,jr,gf,ak.av,jK,jX,jL,jY,jM,jZ,jN,j3]
       first|refine⟨ld x,dV,?_⟩|trace_state
       have hR:=rest (H.length+2,mp,D,(Bf x.l (D.l mp))) ⟨eY,cr,⟨_,by rw[hB.f]⟩,by rw[hB.f];exact aW H _ 0,by simp only[seval,dJ,cY,hB.l,hB.n0,hB.s0,hB.n1,hB.s1,bu,b9,iB,iN,jr,gf,ak.av,jK,jX,jL,jY,jM,jZ,jN,j3]⟩;exact iG (rl rfl (by simp only[seval];simp[a_,Wk.refl])) hR
     ·refine qA (.add (.add (.add (.add .base 5 10) 5 11) 4 10) 11 4) 5 [0,1,2,3,10,4,11] [6,7,8,9,12,13,14] [10,4,11] [12,13] [⟨0,false,[],[([10],[10]),([10,4],[10,4]),([10,4,11],[10,4,11])]⟩,⟨1,false,[],[([10],[10])]⟩,⟨2,false,[],[([10],[10])]⟩,⟨3,false,[],[([10],[10])]⟩,⟨10,true,[10],[]⟩,⟨4,true,[10,4],[]⟩,⟨11,true,[10,4,11],[]⟩] [⟨6,false,[],[]⟩,⟨7,false,[],[]⟩,⟨8,false,[],[([12],[12])]⟩,⟨9,false,[],[([12],[12]),([12,13],[12,13])]⟩,⟨12,true,[12],[]⟩,⟨13,true,[12,13],[]⟩,⟨14,false,[12,13],[]⟩] (λD=>bif isDone 11 D then H++[.cells x.l 26,.cells u0 76,.cells x.l 26,.cells [.sl 1 [iv q] .exact] 22,.cells v0 88]else bif isDone 4 D then H++[.cells x.l 26,.cells u0 76,.cells x.l 26,.cells [.sl 1 [iv q] .exact] 22]else bif isDone 10 D then H++[.cells x.l 26,.cells u0 76]else H++[.cells x.l 26]) (by kernel_rfl) (by kernel_rfl) (by kernel_rfl) (by kernel_rfl) (by kernel_rfl) (by first|rfl|simp only[seval]) ?_;(try simp only[seval,z1,ek,nR,and_self,aS,dJ,cY,bu,SL]);refine kz _ _ (cC (oK (x:=x) (ns:=[(q:Int)]) ⟨rfl,rfl⟩)) ?_;(try simp only[seval,aS,dJ,cY,bu,SL,SC]);refine aH ((qB 3 2 (λu v=>[.cells x.l 26,.cells u 76,.cells x.l 26,.cells [.sl 1 [iv q] .exact] 22,.cells v 88]) u0 v0 hx eJ iM hm rfl rfl (λ_ _=>rfl) λD L mp N Bf eY cr b9 dV hB=> ?_));obtain⟨jK,jX,jL,jY⟩:=hB.gu 1 (λ_ _=>by simp) (λ_ _=>rfl) λ_ _ _=>rfl;obtain⟨jM,jZ,jN,j3⟩:=hB.gv 4 (λ_ _=>by simp) (λ_ _=>rfl) λ_ _ _=>rfl;refine⟨λDD=>bif isDone 13 DD then(Bf x.l (D.l mp))else bif isDone 12 DD then(Bf x.l v0)else Bf u0 v0,by first|rfl|simp only[seval],?_⟩;try simp only[seval,dJ,cY,hB.l,hB.n0,hB.s0,hB.n1,hB.s1,bu,b9,iB,iN,jr,gf,ak.av,jK,jX,jL,jY,jM,jZ,jN,j3]
      first|refine⟨ld x,dV,?_⟩|trace_state
      have hR:=rest (H.length+4,mp,D,(Bf x.l (D.l mp))) ⟨eY,cr,⟨_,by rw[hB.f]⟩,by rw[hB.f];exact aW H _ 0,by simp only[seval,dJ,cY,hB.l,hB.n0,hB.s0,hB.n1,hB.s1,bu,b9,iB,iN,jr,gf,ak.av,jK,jX,jL,jY,jM,jZ,jN,j3]⟩;exact iG (rl rfl (by simp only[seval];simp[a_,Wk.refl])) hR
    ·refine rN 4 11 rfl ?_ ?_
     ·refine qA (.add (.add (.add (.add .base 5 10) 5 11) 10 4) 4 11) 5 [0,1,2,3,11,4,10] [6,7,8,9,12,13,14] [11,4,10] [12,13] [⟨0,false,[],[([11],[11]),([11,4],[11,4]),([11,4,10],[11,4,10])]⟩,⟨1,false,[],[([11],[11])]⟩,⟨2,false,[],[([11],[11])]⟩,⟨3,false,[],[([11],[11])]⟩,⟨11,true,[11],[]⟩,⟨4,true,[11,4],[]⟩,⟨10,true,[11,4,10],[]⟩] [⟨6,false,[],[]⟩,⟨7,false,[],[]⟩,⟨8,false,[],[([12],[12])]⟩,⟨9,false,[],[([12],[12]),([12,13],[12,13])]⟩,⟨12,true,[12],[]⟩,⟨13,true,[12,13],[]⟩,⟨14,false,[12,13],[]⟩] (λD=>bif isDone 10 D then H++[.cells x.l 26,.cells v0 88,.cells x.l 26,.cells [.sl 1 [iv q] .exact] 22,.cells u0 76]else bif isDone 4 D then H++[.cells x.l 26,.cells v0 88,.cells x.l 26,.cells [.sl 1 [iv q] .exact] 22]else bif isDone 11 D then H++[.cells x.l 26,.cells v0 88]else H++[.cells x.l 26]) (by kernel_rfl) (by kernel_rfl) (by kernel_rfl) (by kernel_rfl) (by kernel_rfl) (by first|rfl|simp only[seval]) ?_;(try simp only[seval,z1,ek,nR,and_self,aS,dJ,cY,bu,SL]);refine kz _ _ (cC (oK (x:=x) (ns:=[(q:Int)]) ⟨rfl,rfl⟩)) ?_;(try simp only[seval,aS,dJ,cY,bu,SL,SC]);refine aH ((qB 3 2 (λu v=>[.cells x.l 26,.cells v 88,.cells x.l 26,.cells [.sl 1 [iv q] .exact] 22,.cells u 76]) u0 v0 hx eJ iM hm rfl rfl (λ_ _=>rfl) λD L mp N Bf eY cr b9 dV hB=> ?_));obtain⟨jK,jX,jL,jY⟩:=hB.gu 4 (λ_ _=>by simp) (λ_ _=>rfl) λ_ _ _=>rfl;obtain⟨jM,jZ,jN,j3⟩:=hB.gv 1 (λ_ _=>by simp) (λ_ _=>rfl) λ_ _ _=>rfl;refine⟨λDD=>bif isDone 13 DD then(Bf x.l (D.l mp))else bif isDone 12 DD then(Bf x.l v0)else Bf u0 v0,by first|rfl|simp only[seval],?_⟩;try simp only[seval,dJ,cY,hB.l,hB.n0,hB.s0,hB.n1,hB.s1,bu,b9,iB,iN,jr,gf,ak.av,jK,jX,jL,jY,jM,jZ,jN,j3]
      first|refine⟨ld x,dV,?_⟩|trace_state
      have hR:=rest (H.length+1,mp,D,(Bf x.l (D.l mp))) ⟨eY,cr,⟨_,by rw[hB.f]⟩,by rw[hB.f];exact aW H _ 0,by simp only[seval,dJ,cY,hB.l,hB.n0,hB.s0,hB.n1,hB.s1,bu,b9,iB,iN,jr,gf,ak.av,jK,jX,jL,jY,jM,jZ,jN,j3]⟩;exact iG (rl rfl (by simp only[seval];simp[a_,Wk.refl])) hR
     ·refine rN 10 11 rfl ?_ ?_
      ·refine qA (.add (.add (.add (.add (.add .base 5 10) 5 11) 10 4) 11 4) 10 11) 5 [0,1,2,3,4,11,10] [6,7,8,9,12,13,14] [4,11,10] [12,13] [⟨0,false,[],[([4],[4]),([4,11],[4,11]),([4,11,10],[4,11,10])]⟩,⟨1,false,[],[]⟩,⟨2,false,[],[]⟩,⟨3,false,[],[]⟩,⟨4,true,[4],[]⟩,⟨11,true,[4,11],[]⟩,⟨10,true,[4,11,10],[]⟩] [⟨6,false,[],[]⟩,⟨7,false,[],[]⟩,⟨8,false,[],[([12],[12])]⟩,⟨9,false,[],[([12],[12]),([12,13],[12,13])]⟩,⟨12,true,[12],[]⟩,⟨13,true,[12,13],[]⟩,⟨14,false,[12,13],[]⟩] (λD=>bif isDone 10 D then H++[.cells x.l 26,.cells x.l 26,.cells [.sl 1 [iv q] .exact] 22,.cells v0 88,.cells u0 76]else bif isDone 11 D then H++[.cells x.l 26,.cells x.l 26,.cells [.sl 1 [iv q] .exact] 22,.cells v0 88]else bif isDone 4 D then H++[.cells x.l 26,.cells x.l 26,.cells [.sl 1 [iv q] .exact] 22]else H++[.cells x.l 26]) (by kernel_rfl) (by kernel_rfl) (by kernel_rfl) (by kernel_rfl) (by kernel_rfl) (by first|rfl|simp only[seval]) ?_;(try simp only[seval,z1,ek,nR,and_self,aS,dJ,cY,bu,SL]);refine kz _ _ (cC (oK (x:=x) (ns:=[(q:Int)]) ⟨rfl,rfl⟩)) ?_;(try simp only[seval,aS,dJ,cY,bu,SL,SC]);refine aH ((qB 2 1 (λu v=>[.cells x.l 26,.cells x.l 26,.cells [.sl 1 [iv q] .exact] 22,.cells v 88,.cells u 76]) u0 v0 hx eJ iM hm rfl rfl (λ_ _=>rfl) λD L mp N Bf eY cr b9 dV hB=> ?_));obtain⟨jK,jX,jL,jY⟩:=hB.gu 4 (λ_ _=>by simp) (λ_ _=>rfl) λ_ _ _=>rfl;obtain⟨jM,jZ,jN,j3⟩:=hB.gv 3 (λ_ _=>by simp) (λ_ _=>rfl) λ_ _ _=>rfl;refine⟨λDD=>bif isDone 13 DD then(Bf x.l (D.l mp))else bif isDone 12 DD then(Bf x.l v0)else Bf u0 v0,by first|rfl|simp only[seval],?_⟩;try simp only[seval,dJ,cY,hB.l,hB.n0,hB.s0,hB.n1,hB.s1,bu,b9,iB,iN,jr,gf,ak.av,jK,jX,jL,jY,jM,jZ,jN,j3]
       first|refine⟨ld x,dV,?_⟩|trace_state
       have hR:=rest (H.length+3,mp,D,(Bf x.l (D.l mp))) ⟨eY,cr,⟨_,by rw[hB.f]⟩,by rw[hB.f];exact aW H _ 0,by simp only[seval,dJ,cY,hB.l,hB.n0,hB.s0,hB.n1,hB.s1,bu,b9,iB,iN,jr,gf,ak.av,jK,jX,jL,jY,jM,jZ,jN,j3]⟩;exact iG (rl rfl (by simp only[seval];simp[a_,Wk.refl])) hR
      ·refine qA (.add (.add (.add (.add (.add .base 5 10) 5 11) 10 4) 11 4) 11 10) 5 [0,1,2,3,4,10,11] [6,7,8,9,12,13,14] [4,10,11] [12,13] [⟨0,false,[],[([4],[4]),([4,10],[4,10]),([4,10,11],[4,10,11])]⟩,⟨1,false,[],[]⟩,⟨2,false,[],[]⟩,⟨3,false,[],[]⟩,⟨4,true,[4],[]⟩,⟨10,true,[4,10],[]⟩,⟨11,true,[4,10,11],[]⟩] [⟨6,false,[],[]⟩,⟨7,false,[],[]⟩,⟨8,false,[],[([12],[12])]⟩,⟨9,false,[],[([12],[12]),([12,13],[12,13])]⟩,⟨12,true,[12],[]⟩,⟨13,true,[12,13],[]⟩,⟨14,false,[12,13],[]⟩] (λD=>bif isDone 11 D then H++[.cells x.l 26,.cells x.l 26,.cells [.sl 1 [iv q] .exact] 22,.cells u0 76,.cells v0 88]else bif isDone 10 D then H++[.cells x.l 26,.cells x.l 26,.cells [.sl 1 [iv q] .exact] 22,.cells u0 76]else bif isDone 4 D then H++[.cells x.l 26,.cells x.l 26,.cells [.sl 1 [iv q] .exact] 22]else H++[.cells x.l 26]) (by kernel_rfl) (by kernel_rfl) (by kernel_rfl) (by kernel_rfl) (by kernel_rfl) (by first|rfl|simp only[seval]) ?_;(try simp only[seval,z1,ek,nR,and_self,aS,dJ,cY,bu,SL]);refine kz _ _ (cC (oK (x:=x) (ns:=[(q:Int)]) ⟨rfl,rfl⟩)) ?_;(try simp only[seval,aS,dJ,cY,bu,SL,SC]);refine aH ((qB 2 1 (λu v=>[.cells x.l 26,.cells x.l 26,.cells [.sl 1 [iv q] .exact] 22,.cells u 76,.cells v 88]) u0 v0 hx eJ iM hm rfl rfl (λ_ _=>rfl) λD L mp N Bf eY cr b9 dV hB=> ?_));obtain⟨jK,jX,jL,jY⟩:=hB.gu 3 (λ_ _=>by simp) (λ_ _=>rfl) λ_ _ _=>rfl;obtain⟨jM,jZ,jN,j3⟩:=hB.gv 4 (λ_ _=>by simp) (λ_ _=>rfl) λ_ _ _=>rfl;refine⟨λDD=>bif isDone 13 DD then(Bf x.l (D.l mp))else bif isDone 12 DD then(Bf x.l v0)else Bf u0 v0,by first|rfl|simp only[seval],?_⟩;try simp only[seval,dJ,cY,hB.l,hB.n0,hB.s0,hB.n1,hB.s1,bu,b9,iB,iN,jr,gf,ak.av,jK,jX,jL,jY,jM,jZ,jN,j3]
       first|refine⟨ld x,dV,?_⟩|trace_state
       have hR:=rest (H.length+4,mp,D,(Bf x.l (D.l mp))) ⟨eY,cr,⟨_,by rw[hB.f]⟩,by rw[hB.f];exact aW H _ 0,by simp only[seval,dJ,cY,hB.l,hB.n0,hB.s0,hB.n1,hB.s1,bu,b9,iB,iN,jr,gf,ak.av,jK,jX,jL,jY,jM,jZ,jN,j3]⟩;exact iG (rl rfl (by simp only[seval];simp[a_,Wk.refl])) hR
   ·refine rN 4 10 rfl ?_ ?_
    ·refine qA (.add (.add (.add .base 5 10) 11 5) 4 10) 5 [0,1,2,3,10,4] [6,7,8,9,11,12,13,14] [10,4] [11,12,13] [⟨0,false,[],[([10],[10]),([10,4],[10,4])]⟩,⟨1,false,[],[([10],[10])]⟩,⟨2,false,[],[([10],[10])]⟩,⟨3,false,[],[([10],[10])]⟩,⟨10,true,[10],[]⟩,⟨4,true,[10,4],[]⟩] [⟨6,false,[],[([11],[11])]⟩,⟨7,false,[],[([11],[11])]⟩,⟨8,false,[],[([11],[11]),([11,12],[11,12])]⟩,⟨9,false,[],[([11],[11]),([11,12],[11,12]),([11,12,13],[11,12,13])]⟩,⟨11,true,[11],[]⟩,⟨12,true,[11,12],[]⟩,⟨13,true,[11,12,13],[]⟩,⟨14,false,[11,12,13],[]⟩] (λD=>bif isDone 4 D then H++[.cells x.l 26,.cells u0 76,.cells x.l 26,.cells [.sl 1 [iv q] .exact] 22]else bif isDone 10 D then H++[.cells x.l 26,.cells u0 76]else H++[.cells x.l 26]) (by kernel_rfl) (by kernel_rfl) (by kernel_rfl) (by kernel_rfl) (by kernel_rfl) (by first|rfl|simp only[seval]) ?_;(try simp only[seval,z1,ek,nR,and_self,aS,dJ,cY,bu,SL]);refine kz _ _ (cC (oK (x:=x) (ns:=[(q:Int)]) ⟨rfl,rfl⟩)) ?_;(try simp only[seval,aS,dJ,cY,bu,SL,SC]);refine aH ((qB 3 2 (λu _=>[.cells x.l 26,.cells u 76,.cells x.l 26,.cells [.sl 1 [iv q] .exact] 22]) u0 v0 hx eJ iM hm rfl rfl (λ_ _=>rfl) λD L mp N Bf eY cr b9 dV hB=> ?_));obtain⟨jK,jX,jL,jY⟩:=hB.gu 1 (λ_ _=>by simp) (λ_ _=>rfl) λ_ _ _=>rfl;refine⟨λDD=>bif isDone 13 DD then(Bf x.l v0++[.cells (D.l mp) 88])else bif isDone 12 DD then(Bf x.l v0++[.cells v0 88])else bif isDone 11 DD then(Bf u0 v0++[.cells v0 88])else Bf u0 v0,by first|rfl|simp only[seval],?_⟩;try simp only[seval,dJ,cY,hB.l,hB.n0,hB.s0,hB.n1,hB.s1,bu,b9,iB,iN,jr,gf,ak.av,jK,jX,jL,jY]
     first|refine⟨ld x,dV,?_⟩|trace_state
     have hR:=rest (N,mp,D,(Bf x.l v0++[.cells (D.l mp) 88])) ⟨eY,cr,⟨_,by rw[hB.f]<;>rw[SC]⟩,by rw[hB.f];rw[SC];exact aW H _ 0,by simp only[seval,dJ,cY,hB.l,hB.n0,hB.s0,hB.n1,hB.s1,bu,b9,iB,iN,jr,gf,ak.av,jK,jX,jL,jY]⟩;exact iG (rl rfl (by simp only[seval];simp[a_,Wk.refl])) hR
    ·refine qA (.add (.add (.add .base 5 10) 11 5) 10 4) 5 [0,1,2,3,4,10] [6,7,8,9,11,12,13,14] [4,10] [11,12,13] [⟨0,false,[],[([4],[4]),([4,10],[4,10])]⟩,⟨1,false,[],[]⟩,⟨2,false,[],[]⟩,⟨3,false,[],[]⟩,⟨4,true,[4],[]⟩,⟨10,true,[4,10],[]⟩] [⟨6,false,[],[([11],[11])]⟩,⟨7,false,[],[([11],[11])]⟩,⟨8,false,[],[([11],[11]),([11,12],[11,12])]⟩,⟨9,false,[],[([11],[11]),([11,12],[11,12]),([11,12,13],[11,12,13])]⟩,⟨11,true,[11],[]⟩,⟨12,true,[11,12],[]⟩,⟨13,true,[11,12,13],[]⟩,⟨14,false,[11,12,13],[]⟩] (λD=>bif isDone 10 D then H++[.cells x.l 26,.cells x.l 26,.cells [.sl 1 [iv q] .exact] 22,.cells u0 76]else bif isDone 4 D then H++[.cells x.l 26,.cells x.l 26,.cells [.sl 1 [iv q] .exact] 22]else H++[.cells x.l 26]) (by kernel_rfl) (by kernel_rfl) (by kernel_rfl) (by kernel_rfl) (by kernel_rfl) (by first|rfl|simp only[seval]) ?_;(try simp only[seval,z1,ek,nR,and_self,aS,dJ,cY,bu,SL]);refine kz _ _ (cC (oK (x:=x) (ns:=[(q:Int)]) ⟨rfl,rfl⟩)) ?_;(try simp only[seval,aS,dJ,cY,bu,SL,SC]);refine aH ((qB 2 1 (λu _=>[.cells x.l 26,.cells x.l 26,.cells [.sl 1 [iv q] .exact] 22,.cells u 76]) u0 v0 hx eJ iM hm rfl rfl (λ_ _=>rfl) λD L mp N Bf eY cr b9 dV hB=> ?_));obtain⟨jK,jX,jL,jY⟩:=hB.gu 3 (λ_ _=>by simp) (λ_ _=>rfl) λ_ _ _=>rfl;refine⟨λDD=>bif isDone 13 DD then(Bf x.l v0++[.cells (D.l mp) 88])else bif isDone 12 DD then(Bf x.l v0++[.cells v0 88])else bif isDone 11 DD then(Bf u0 v0++[.cells v0 88])else Bf u0 v0,by first|rfl|simp only[seval],?_⟩;try simp only[seval,dJ,cY,hB.l,hB.n0,hB.s0,hB.n1,hB.s1,bu,b9,iB,iN,jr,gf,ak.av,jK,jX,jL,jY]
     first|refine⟨ld x,dV,?_⟩|trace_state
     have hR:=rest (N,mp,D,(Bf x.l v0++[.cells (D.l mp) 88])) ⟨eY,cr,⟨_,by rw[hB.f]<;>rw[SC]⟩,by rw[hB.f];rw[SC];exact aW H _ 0,by simp only[seval,dJ,cY,hB.l,hB.n0,hB.s0,hB.n1,hB.s1,bu,b9,iB,iN,jr,gf,ak.av,jK,jX,jL,jY]⟩;exact iG (rl rfl (by simp only[seval];simp[a_,Wk.refl])) hR
  ·refine rN 5 11 rfl ?_ ?_
   ·refine rN 4 11 rfl ?_ ?_
    ·refine qA (.add (.add (.add .base 10 5) 5 11) 4 11) 5 [0,1,2,3,11,4] [6,7,8,9,10,12,13,14] [11,4] [10,12,13] [⟨0,false,[],[([11],[11]),([11,4],[11,4])]⟩,⟨1,false,[],[([11],[11])]⟩,⟨2,false,[],[([11],[11])]⟩,⟨3,false,[],[([11],[11])]⟩,⟨11,true,[11],[]⟩,⟨4,true,[11,4],[]⟩] [⟨6,false,[],[([10],[10])]⟩,⟨7,false,[],[([10],[10])]⟩,⟨8,false,[],[([10],[10]),([10,12],[10,12])]⟩,⟨9,false,[],[([10],[10]),([10,12],[10,12]),([10,12,13],[10,12,13])]⟩,⟨10,true,[10],[]⟩,⟨12,true,[10,12],[]⟩,⟨13,true,[10,12,13],[]⟩,⟨14,false,[10,12,13],[]⟩] (λD=>bif isDone 4 D then H++[.cells x.l 26,.cells v0 88,.cells x.l 26,.cells [.sl 1 [iv q] .exact] 22]else bif isDone 11 D then H++[.cells x.l 26,.cells v0 88]else H++[.cells x.l 26]) (by kernel_rfl) (by kernel_rfl) (by kernel_rfl) (by kernel_rfl) (by kernel_rfl) (by first|rfl|simp only[seval]) ?_;(try simp only[seval,z1,ek,nR,and_self,aS,dJ,cY,bu,SL]);refine kz _ _ (cC (oK (x:=x) (ns:=[(q:Int)]) ⟨rfl,rfl⟩)) ?_;(try simp only[seval,aS,dJ,cY,bu,SL,SC]);refine aH ((qB 3 2 (λ_ v=>[.cells x.l 26,.cells v 88,.cells x.l 26,.cells [.sl 1 [iv q] .exact] 22]) u0 v0 hx eJ iM hm rfl rfl (λ_ _=>rfl) λD L mp N Bf eY cr b9 dV hB=> ?_));obtain⟨jM,jZ,jN,j3⟩:=hB.gv 1 (λ_ _=>by simp) (λ_ _=>rfl) λ_ _ _=>rfl;refine⟨λDD=>bif isDone 13 DD then(Bf u0 (D.l mp)++[.cells x.l 76])else bif isDone 12 DD then(Bf u0 v0++[.cells x.l 76])else bif isDone 10 DD then(Bf u0 v0++[.cells u0 76])else Bf u0 v0,by first|rfl|simp only[seval],?_⟩;try simp only[seval,dJ,cY,hB.l,hB.n0,hB.s0,hB.n1,hB.s1,bu,b9,iB,iN,jr,gf,ak.av,jM,jZ,jN,j3]
     first|refine⟨ld x,dV,?_⟩|trace_state
     have hR:=rest (H.length+1,mp,D,(Bf u0 (D.l mp)++[.cells x.l 76])) ⟨eY,cr,⟨_,by rw[hB.f]<;>rw[SC]⟩,by rw[hB.f];rw[SC];exact aW H _ 0,by simp only[seval,dJ,cY,hB.l,hB.n0,hB.s0,hB.n1,hB.s1,bu,b9,iB,iN,jr,gf,ak.av,jM,jZ,jN,j3]⟩;exact iG (rl rfl (by simp only[seval];simp[a_,Wk.refl])) hR
    ·refine qA (.add (.add (.add .base 10 5) 5 11) 11 4) 5 [0,1,2,3,4,11] [6,7,8,9,10,12,13,14] [4,11] [10,12,13] [⟨0,false,[],[([4],[4]),([4,11],[4,11])]⟩,⟨1,false,[],[]⟩,⟨2,false,[],[]⟩,⟨3,false,[],[]⟩,⟨4,true,[4],[]⟩,⟨11,true,[4,11],[]⟩] [⟨6,false,[],[([10],[10])]⟩,⟨7,false,[],[([10],[10])]⟩,⟨8,false,[],[([10],[10]),([10,12],[10,12])]⟩,⟨9,false,[],[([10],[10]),([10,12],[10,12]),([10,12,13],[10,12,13])]⟩,⟨10,true,[10],[]⟩,⟨12,true,[10,12],[]⟩,⟨13,true,[10,12,13],[]⟩,⟨14,false,[10,12,13],[]⟩] (λD=>bif isDone 11 D then H++[.cells x.l 26,.cells x.l 26,.cells [.sl 1 [iv q] .exact] 22,.cells v0 88]else bif isDone 4 D then H++[.cells x.l 26,.cells x.l 26,.cells [.sl 1 [iv q] .exact] 22]else H++[.cells x.l 26]) (by kernel_rfl) (by kernel_rfl) (by kernel_rfl) (by kernel_rfl) (by kernel_rfl) (by first|rfl|simp only[seval]) ?_;(try simp only[seval,z1,ek,nR,and_self,aS,dJ,cY,bu,SL]);refine kz _ _ (cC (oK (x:=x) (ns:=[(q:Int)]) ⟨rfl,rfl⟩)) ?_;(try simp only[seval,aS,dJ,cY,bu,SL,SC]);refine aH ((qB 2 1 (λ_ v=>[.cells x.l 26,.cells x.l 26,.cells [.sl 1 [iv q] .exact] 22,.cells v 88]) u0 v0 hx eJ iM hm rfl rfl (λ_ _=>rfl) λD L mp N Bf eY cr b9 dV hB=> ?_));obtain⟨jM,jZ,jN,j3⟩:=hB.gv 3 (λ_ _=>by simp) (λ_ _=>rfl) λ_ _ _=>rfl;refine⟨λDD=>bif isDone 13 DD then(Bf u0 (D.l mp)++[.cells x.l 76])else bif isDone 12 DD then(Bf u0 v0++[.cells x.l 76])else bif isDone 10 DD then(Bf u0 v0++[.cells u0 76])else Bf u0 v0,by first|rfl|simp only[seval],?_⟩;try simp only[seval,dJ,cY,hB.l,hB.n0,hB.s0,hB.n1,hB.s1,bu,b9,iB,iN,jr,gf,ak.av,jM,jZ,jN,j3]
     first|refine⟨ld x,dV,?_⟩|trace_state
     have hR:=rest (H.length+3,mp,D,(Bf u0 (D.l mp)++[.cells x.l 76])) ⟨eY,cr,⟨_,by rw[hB.f]<;>rw[SC]⟩,by rw[hB.f];rw[SC];exact aW H _ 0,by simp only[seval,dJ,cY,hB.l,hB.n0,hB.s0,hB.n1,hB.s1,bu,b9,iB,iN,jr,gf,ak.av,jM,jZ,jN,j3]⟩;exact iG (rl rfl (by simp only[seval];simp[a_,Wk.refl])) hR
   ·refine rN 10 11 rfl ?_ ?_
    ·refine qA (.add (.add (.add .base 10 5) 11 5) 10 11) 5 [0,1,2,3,4] [6,7,8,9,11,10,12,13,14] [4] [11,10,12,13] [⟨0,false,[],[([4],[4])]⟩,⟨1,false,[],[]⟩,⟨2,false,[],[]⟩,⟨3,false,[],[]⟩,⟨4,true,[4],[]⟩] [⟨6,false,[],[([11],[11]),([11,10],[11,10])]⟩,⟨7,false,[],[([11],[11]),([11,10],[11,10])]⟩,⟨8,false,[],[([11],[11]),([11,10],[11,10]),([11,10,12],[11,10,12])]⟩,⟨9,false,[],[([11],[11]),([11,10],[11,10]),([11,10,12],[11,10,12]),([11,10,12,13],[11,10,12,13])]⟩,⟨11,true,[11],[]⟩,⟨10,true,[11,10],[]⟩,⟨12,true,[11,10,12],[]⟩,⟨13,true,[11,10,12,13],[]⟩,⟨14,false,[11,10,12,13],[]⟩] (λD=>bif isDone 4 D then H++[.cells x.l 26,.cells x.l 26,.cells [.sl 1 [iv q] .exact] 22]else H++[.cells x.l 26]) (by kernel_rfl) (by kernel_rfl) (by kernel_rfl) (by kernel_rfl) (by kernel_rfl) (by first|rfl|simp only[seval]) ?_;(try simp only[seval,z1,ek,nR,and_self,aS,dJ,cY,bu,SL]);refine kz _ _ (cC (oK (x:=x) (ns:=[(q:Int)]) ⟨rfl,rfl⟩)) ?_;(try simp only[seval,aS,dJ,cY,bu,SL,SC]);refine aH ((qB 2 1 (λ_ _=>[.cells x.l 26,.cells x.l 26,.cells [.sl 1 [iv q] .exact] 22]) u0 v0 hx eJ iM hm rfl rfl (λ_ _=>rfl) λD L mp N Bf eY cr b9 dV hB=> ?_));refine⟨λDD=>bif isDone 13 DD then(Bf u0 v0++[.cells (D.l mp) 88,.cells x.l 76])else bif isDone 12 DD then(Bf u0 v0++[.cells v0 88,.cells x.l 76])else bif isDone 10 DD then(Bf u0 v0++[.cells v0 88,.cells u0 76])else bif isDone 11 DD then(Bf u0 v0++[.cells v0 88])else Bf u0 v0,by first|rfl|simp only[seval],?_⟩;try simp only[seval,dJ,cY,hB.l,hB.n0,hB.s0,hB.n1,hB.s1,bu,b9,iB,iN,jr,gf,ak.av]
     first|refine⟨ld x,dV,?_⟩|trace_state
     have hR:=rest (N,mp,D,(Bf u0 v0++[.cells (D.l mp) 88,.cells x.l 76])) ⟨eY,cr,⟨_,by rw[hB.f]<;>rw[SC]⟩,by rw[hB.f];rw[SC];exact aW H _ 0,by simp only[seval,dJ,cY,hB.l,hB.n0,hB.s0,hB.n1,hB.s1,bu,b9,iB,iN,jr,gf,ak.av]⟩;exact iG (rl rfl (by simp only[seval];simp[a_,Wk.refl])) hR
    ·refine qA (.add (.add (.add .base 10 5) 11 5) 11 10) 5 [0,1,2,3,4] [6,7,8,9,10,11,12,13,14] [4] [10,11,12,13] [⟨0,false,[],[([4],[4])]⟩,⟨1,false,[],[]⟩,⟨2,false,[],[]⟩,⟨3,false,[],[]⟩,⟨4,true,[4],[]⟩] [⟨6,false,[],[([10],[10]),([10,11],[10,11])]⟩,⟨7,false,[],[([10],[10]),([10,11],[10,11])]⟩,⟨8,false,[],[([10],[10]),([10,11],[10,11]),([10,11,12],[10,11,12])]⟩,⟨9,false,[],[([10],[10]),([10,11],[10,11]),([10,11,12],[10,11,12]),([10,11,12,13],[10,11,12,13])]⟩,⟨10,true,[10],[]⟩,⟨11,true,[10,11],[]⟩,⟨12,true,[10,11,12],[]⟩,⟨13,true,[10,11,12,13],[]⟩,⟨14,false,[10,11,12,13],[]⟩] (λD=>bif isDone 4 D then H++[.cells x.l 26,.cells x.l 26,.cells [.sl 1 [iv q] .exact] 22]else H++[.cells x.l 26]) (by kernel_rfl) (by kernel_rfl) (by kernel_rfl) (by kernel_rfl) (by kernel_rfl) (by first|rfl|simp only[seval]) ?_;(try simp only[seval,z1,ek,nR,and_self,aS,dJ,cY,bu,SL]);refine kz _ _ (cC (oK (x:=x) (ns:=[(q:Int)]) ⟨rfl,rfl⟩)) ?_;(try simp only[seval,aS,dJ,cY,bu,SL,SC]);refine aH ((qB 2 1 (λ_ _=>[.cells x.l 26,.cells x.l 26,.cells [.sl 1 [iv q] .exact] 22]) u0 v0 hx eJ iM hm rfl rfl (λ_ _=>rfl) λD L mp N Bf eY cr b9 dV hB=> ?_));refine⟨λDD=>bif isDone 13 DD then(Bf u0 v0++[.cells x.l 76,.cells (D.l mp) 88])else bif isDone 12 DD then(Bf u0 v0++[.cells x.l 76,.cells v0 88])else bif isDone 11 DD then(Bf u0 v0++[.cells u0 76,.cells v0 88])else bif isDone 10 DD then(Bf u0 v0++[.cells u0 76])else Bf u0 v0,by first|rfl|simp only[seval],?_⟩;try simp only[seval,dJ,cY,hB.l,hB.n0,hB.s0,hB.n1,hB.s1,bu,b9,iB,iN,jr,gf,ak.av]
     first|refine⟨ld x,dV,?_⟩|trace_state
     have hR:=rest (N+1,mp,D,(Bf u0 v0++[.cells x.l 76,.cells (D.l mp) 88])) ⟨eY,cr,⟨_,by rw[hB.f]<;>rw[SC]⟩,by rw[hB.f];rw[SC];exact aW H _ 0,by simp only[seval,dJ,cY,hB.l,hB.n0,hB.s0,hB.n1,hB.s1,bu,b9,iB,iN,jr,gf,ak.av]⟩;exact iG (rl rfl (by simp only[seval];simp[a_,Wk.refl])) hR
section
variable {lv:Bool}{H:List aa}{k kp:AV->List aa->Prop}
theorem ai8{x:ak}{q:Nat}(hx:x.Ok)(hq:q<x.pieces.length)(hm:H[0]?=some .main)(hk:∀D,fS x 1 D->(D.has=false->k (.aO [aL [],iv 11]) H)/\(D.has=true->k (.aO [aL (fM (D.aA.getD q 0) x.first 16),iv 0]) H)):bc true SA 34 H [x.av,iv q] k kp:=by
 refine bD (rs:=[.tmp 4,.tmp 5]) (nt:=29) ZT λhH hA=> ?_;simp only[bk,SU,ak.av];have hp:=hx.am;have n9:=hx.ey;have bS:x.l=[iv x.first,iv x.hours,iv x.am,dt x.seen,aT x.pieces,aT x.aC]:=rfl;have aS:∀(L:List aa),(H++L)[H.length]?=L[0]?:=λL=>aW H L 0;have bu:x.l.length=6:=rfl;refine aj ?_;(repeat apply gp);refine agn [4,10,11,12,13] [0,1,2,3,4,5,6,7,8,9,10,11,12,13,14] F.mixed (by kernel_rfl) ?_;refine ahI (α:=Nat×Nat×Kn×List aa) (ok:=λy=>fS x 1 y.2.2.1/\bM y.2.2.1/\(∃L,y.2.2.2=H++L)/\y.2.2.2[H.length]?=some (.cells x.l 26)/\y.2.2.2[y.1]?=some (.cells (y.2.2.1.l y.2.1) 88)) (λy=>⟨[(7,.op y.1 0),(8,iv (fq y.2.2.1)),(1,iv q),(2,.op H.length 0)],y.2.2.2⟩) (λy hy=> ?_) (λrest=> ?_)
 ·obtain⟨i,mp,D,G⟩:=y;obtain⟨eY,cr,⟨L0,hG⟩,Se,Sd⟩:=hy;dsimp only at hG Se Sd;obtain⟨iK,cL⟩:=hk D eY;have fK:∀(ns:List Int)(e:End)(m:Int),k (.aO [aL ns,iv m]) H->cJ H.length G (.aO [.sl ns.length (ns.map iv) e,iv m]) k:=λns e m h=>by
   rw[hG];exact iH hH (II (e9 _ _ _) (Wk.refl _)) (by simp[jV,ec,aL,qb]) h
  (try simp only[seval]);cases iW:D.has with
  |false=>
   have hE:fq D=11:=(by rw[fq,iW];rfl);refine ah ?_;simp only[seval,hE,show ((11:Int)!=0)=true from rfl];refine aD ?_;refine aj ?_;refine aZ ?_;exact fK [] .exact 11 (iK iW)
  |true=>
   have hE:fq D=0:=(by rw[fq,iW];rfl);have cL:=cL iW;obtain⟨u,hu⟩:=bK (xs:=D.aA) (i:=q) (by rw[cr.aA];omega);have lu:=cr.mP _ (S8 hu);have mf:D.aA.getD q 0=u:=(by rw[SE,hu];rfl);rw[mf]at cL;have b3:(0<=(q:Int)/\(q:Int)<4)=True:=(by simp;omega);have Db:=Kn.HT (mp:=mp) hu;have g_:=hx.first;refine ah ?_;simp only[seval,hE,show ((0:Int)!=0)=false from rfl];refine aD ?_;refine aK ?_;refine eO 6 ?_;simp only[seval,Se,Sd,b3,Db,bS];refine aH ((Kh lu (by omega) ?_));(try simp only[seval]);refine aZ ?_;exact fK _ _ 0 cL
 ·exact aoE (.inr ⟨rfl,rfl⟩) hx hq hm rest
end
theorem am9{x:ak}{deep:Int}{D:Kn}(hx:x.Ok)(h:fS x deep D)(hh:D.has=true):jF x D.first:=by
 obtain⟨p,js,h1,h2,h3,_⟩:=h;have hp:=hx.am;have hj:∀j∈js,j<x.am.toNat+1:=λj hj=>by have:=TW.1 (h2.mem_iff.1 hj);omega
 obtain⟨j,a,t,l,b,c,d⟩:=abo hx h3 (h2.nodup_iff.2 X0) hj hh;rw[c];exact RX (deep:=deep) (j:=j) hx (by have:=hj j a;omega) (by rw[b];simp)
namespace Tk
def tu (x:ak)(t:List Int)(i:Nat):List Int:=(S0 i).map λp=>t.getD (4+p) 0+x.first
def tw (t:List Int)(i:Nat):List Int:=(S0 i).map λs=>t.getD (8+s) 0
theorem ajF(x:ak)(t:List Int)(i:Nat):tu x t (i+1)=tu x t i++[t.getD (4+i) 0+x.first]:=by
 unfold tu;rw[U4,Tn];rfl
theorem ajH(t:List Int)(i:Nat):tw t (i+1)=tw t i++[t.getD (8+i) 0]:=by
 unfold tw;rw[U4,Tn];rfl
theorem ajE(x:ak)(t:List Int)(i:Nat):(tu x t i).length=i:=by simp[tu]
theorem ajG(t:List Int)(i:Nat):(tw t i).length=i:=by simp[tw]
end Tk
theorem aew{a a' b b' c c' d d':AV}(h1:Wk a a')(h2:Wk b b')(h3:Wk c c')(h4:Wk d d'):Wk (.aO [a,b,c,d]) (.aO [a',b',c',d']):=λE v h=>by
 cases h with
 |aO hs h=>
  refine .aO hs λi x e=> ?_
  match i with
  |0=>cases e;exact h1 _ _ (h 0 a rfl)
  |1=>cases e;exact h2 _ _ (h 1 b rfl)
  |2=>cases e;exact h3 _ _ (h 2 c rfl)
  |3=>cases e;exact h4 _ _ (h 3 d rfl)
section
variable {lv:Bool}{H:List aa}{k kp:AV->List aa->Prop}
theorem aiW{x:ak}(hx:x.Ok)(hm:H[0]?=some .main)(hk:∀D,fS x 0 D->(D.has=false->k (.aO [aL [],aL [],aL [],iv 11]) H)/\(D.has=true->k (.aO [aL (D.first.take (x.hours.toNat+1)),aL (tu x D.first x.pieces.length),aL (tw D.first x.aC.length),iv 0]) H)):bc true SA 18 H [x.av] k kp:=by
 refine bD (rs:=[.tmp 2,.tmp 3,.tmp 4,.tmp 5]) (nt:=64) Tryz.f18 λhH hA=> ?_;simp only[bk,SU,ak.av];have hp:=hx.am;have hh:=hx.hours;have n9:=hx.ey;have aP:=hx.dp;have g_:=hx.first;obtain⟨p,eJ⟩:∃p:Nat,x.am=p:=⟨x.am.toNat,by omega⟩;have bS:x.l=[iv x.first,iv x.hours,iv x.am,dt x.seen,aT x.pieces,aT x.aC]:=rfl;have aS:∀(L:List aa),(H++L)[H.length]?=L[0]?:=λL=>aW H L 0;have bu:x.l.length=6:=rfl;have ek:Uh 6 x.l=x.l:=rfl;refine aj ?_;refine ah ?_;simp only[seval,aS,bu,ek];refine aH ((Ao (x:=x) hx eJ (fV hm) Jl (λh=>by cases h) λ_ js D L mp iJ jQ cr tS hg=> ?_));have eY:fS x 0 D:=⟨p,js,eJ,iJ,jQ,cr⟩;have b9:=Kn.len cr mp;have dV:=vQ D mp;obtain⟨iK,cL⟩:=hk D eY;obtain⟨Y,hY⟩:∃Y:List aa,Y=[aa.cells x.l 26]++L:=⟨_,rfl⟩;obtain⟨B,hB⟩:∃B,B=H++Y:=⟨_,rfl⟩;have tz:H++[aa.cells x.l 26]++L=B:=by rw[hB,hY,SC]
 have AD:∀(L':List aa),(B++L')[H.length]?=some (.cells x.l 26):=λL'=>by rw[hB,hY,SC,aS];rfl
 have bn:∀(L':List aa)(j:Nat),(B++L')[B.length+j]?=L'[j]?:=λL' j=>aW B L' j;have wz:∀(L':List aa)(j:Nat)(y:aa),(B++L').set (B.length+j) y=B++L'.set j y:=λL' j y=>dL B L' j y;have fK:∀(L':List aa)(l1 l2 l3:List Int)(e e' QL:End)(m:Int),k (.aO [aL l1,aL l2,aL l3,iv m]) H->cJ H.length (B++L') (.aO [.sl l1.length (l1.map iv) e,.sl l2.length (l2.map iv) e',.sl l3.length (l3.map iv) QL,iv m]) k:=λL' l1 l2 l3 e e' QL m h=>by
  rw[hB,SC];exact iH hH (aew (e9 _ _ _) (e9 _ _ _) (e9 _ _ _) (Wk.refl _)) (by simp[jV,ec,aL,qb]) h
 rw[tz];clear tz hg;(try simp only[seval,ak.av,bu,b9]);refine⟨ld x,dV,?_⟩;cases iW:D.has with
 |false=>
  have hE:fq D=11:=by rw[fq,iW];rfl
  refine ah ?_;simp only[seval,hE,show ((11:Int)!=0)=true from rfl];refine aD ?_;refine aj ?_;refine aZ ?_;exact fK _ [] [] [] .exact .exact .exact 11 (iK iW)
 |true=>
  have hE:fq D=0:=by rw[fq,iW];rfl
  have cL:=cL iW;have qY:=am9 hx eY iW;obtain⟨t,ht⟩:∃t,t=D.first:=⟨_,rfl⟩;rw[<- ht]at qY cL;have od:=qY.len;obtain⟨pre,aaE,Ld⟩:∃pre:List AV,pre.length=17/\D.l mp=pre++(t.map iv++[]):=⟨bv D.has:: .mp mp::(D.aA.map (λn=>wv n)++(D.hours.map (λn=>wv n)++(D.less.map (λn=>wv n)++D.aX.map (λn=>wv n)))),by simp[cr.aA,cr.hours,cr.less,cr.aX],by rw[ht];simp[Kn.l]⟩;obtain⟨n,hn⟩:∃n:Nat,x.hours=n:=⟨x.hours.toNat,by omega⟩;have pU:x.hours+1=((n+1:Nat):Int):=by omega
  have bJ:SD.wrap (x.hours+1)=((n+1:Nat):Int):=by rw[br _ (by omega)];exact pU
  have c_:T5 1 x.l=[iv x.hours,iv x.am,dt x.seen,aT x.pieces,aT x.aC]:=rfl;have AH:T5 4 x.l=[.sl x.pieces.length (x.pieces.flatMap aB.l) .shut,.sl x.aC.length (x.aC.flatMap aB.l) .shut]:=rfl;have pJ:T5 5 x.l=[.sl x.aC.length (x.aC.flatMap aB.l) .shut]:=rfl;refine ah ?_;simp only[seval,hE,show ((0:Int)!=0)=false from rfl];refine aD ?_;refine aK ?_;have Cu:∀(L':List aa),(B++L')[B.length+1]?=L'[1]?:=λL'=>bn L' 1;have Aa:∀(L':List aa),(B++L')[B.length+2]?=L'[2]?:=λL'=>bn L' 2;have uQ:∀(L':List aa)(y:aa),(B++L').set (B.length+2) y=B++L'.set 2 y:=λL' y=>wz L' 2 y;have bn3:∀(L':List aa),(B++L')[B.length+3]?=L'[3]?:=λL'=>bn L' 3;have bs3:∀(L':List aa)(y:aa),(B++L').set (B.length+3) y=B++L'.set 3 y:=λL' y=>wz L' 3 y;have bn4:∀(L':List aa),(B++L')[B.length+4]?=L'[4]?:=λL'=>bn L' 4;have bs4:∀(L':List aa)(y:aa),(B++L').set (B.length+4) y=B++L'.set 4 y:=λL' y=>wz L' 4 y;refine ah ?_;simp only[seval,AD,c_,bJ,aeE];refine⟨by omega,by omega,?_⟩;have wS:(D.l mp).drop 17=t.map iv:=by rw[Ld,SO,Wt (by omega),W2 (by omega),UN]
  have amF:((n:Int)+1).toNat=n+1:=by omega
  have n3:min 4 (n+1)=n+1:=by omega
  have yK:min 4 11=4:=rfl;have aaM:min (n+1) 4=n+1:=by omega
  have ba:Uh (n+1) (Uh 4 (Vf iv t))++T5 (n+1) (Vf iv (TM (n+1) 0))=(t.take (n+1)).map iv:=by rw[U9,aaM,W2 (by simp),SO,Wa]
  refine ah ?_;simp only[seval,wS,amF,n3,yK,od,aaM,TC,YH,Cu,Aa,uQ];refine⟨by rw[<- Wa];exact of_eq_true (abB _),?_⟩;rw[ba];obtain⟨tl,MD⟩:∃tl,tl=t.take (n+1):=⟨_,rfl⟩;have aa9:tl.length=n+1:=by rw[MD,TC];omega
  have GW:x.hours.toNat=n:=by omega
  rw[GW,<- MD]at cL;rw[<- MD]
  (repeat apply gp);refine Jn (id:=B.length+2) (by simp only[seval,Aa]<;>rfl) ?_
  simp only[seval,uQ,aa9]
  (repeat apply gp);refine PU (t:=2) (y:=aL tl) (by simp only[seval]<;>rfl) ?_ ?_
  ·have e:aL tl=.sl (n+1) ((tl.map iv).take (n+1)) .shut:=by
    rw[SV (by simp;omega),aL,aa9]
   rw[e];exact IH (p:=n+1) (by simp only[seval,Aa]<;>rfl) (by omega) (by simp;omega)
  (repeat apply gp);refine oH (t:=3) (sz:=1) (el:=3) (by simp only[seval]<;>rfl) ?_
  refine ah ?_;simp only[seval,AD,AH];obtain⟨gl,kg⟩:∃gl:Nat->List Int,∀i,gl i=tu x t i:=⟨_,λ_=>rfl⟩;have Df:gl 0=[]:=by rw[kg];rfl
  have LD:∀i,(gl i).length=i:=λi=>by rw[kg];exact ajE _ _ _
  refine bU ?_;refine eI x.pieces.length (λi:Nat=>[(3,.sl (gl i).length ((gl i).map iv) (.opn (B.length+3))),(31,iv i)]) (λi=>B++[.cells x.l 76,.cells (D.l mp) 88,.part (n+1) (tl.map iv) 3,.tail (gl i).length 1 3]) (λi=>True) (λ_ _=>rfl) (by rw[Df];simp only[seval];simp[a_,Wk.refl]) (by rw[Df];rfl) (λ_ _ _=>by simp) trivial (λbC bW i cK _ R hR=> ?_);refine aj ?_;refine aD ?_;refine⟨λh=> ?_,λh=> ?_⟩
  ·have bx:i<x.pieces.length:=(by omega);obtain⟨v,hv,hv9,_⟩:=qY.num i bx;have Dh:t.getD (4+i) 0=v:=(by rw[SE,hv];rfl);have b3:(0<=(i:Int)/\(i:Int)<4)=True:=(by simp;omega);have fW:SD.wrap ((i:Int)+1)=((i+1:Nat):Int):=(by rw[br _ (by omega)];rfl);have DW:SD.wrap ((v:Int)+x.first)=v+x.first:=br _ (by omega);have Ln:(D.l mp).drop (21+i)=iv v::((t.drop (4+i+1)).map iv++[]):=by
    have:=F0 Ld aaE hv;rw[show 21+i=17+(4+i) by omega];exact this
   have cT:gl (i+1)=gl i++[(v:Int)+x.first]:=(by rw[kg,kg,ajF,Dh]);have hli:=LD i;refine aK ?_;refine aj ?_;refine eO 10 ?_;simp only[seval,z1,AD,Cu,b3,Ln,DW,bS,bn3,bs3]
   first|refine⟨by decide,by omega,?_⟩|refine⟨by omega,?_⟩
   refine ah ?_;simp only[seval,fW];refine hR _ ⟨bx,trivial,?_⟩;rw[cT,Tn,SL];exact cz
  ·have dD:i=x.pieces.length:=(by omega);subst dD;clear hR;refine bR ?_
   (repeat apply gp);refine oH (t:=4) (sz:=1) (el:=3) (by simp only[seval]<;>rfl) ?_
   have DY:(gl x.pieces.length)=tu x t x.pieces.length:=kg _;generalize gl x.pieces.length=nl at DY⊢;refine ah ?_;simp only[seval,AD,pJ];obtain⟨go,hgo⟩:∃go:Nat->List Int,∀i,go i=tw t i:=⟨_,λ_=>rfl⟩;have aat:go 0=[]:=(by rw[hgo];rfl);have alp:∀i,(go i).length=i:=λi=>(by rw[hgo];exact ajG _ _);refine bU ?_;refine eI x.aC.length (λi:Nat=>[(4,.sl (go i).length ((go i).map iv) (.opn (B.length+4))),(49,iv i)]) (λi=>B++[.cells x.l 76,.cells (D.l mp) 88,.part (n+1) (tl.map iv) 3,.tail nl.length 1 3,.tail (go i).length 1 3]) (λi=>True) (λ_ _=>rfl) (by rw[aat];simp only[seval];simp[a_,Wk.refl]) (by rw[aat];rfl) (λ_ _ _=>by simp) trivial (λbC bW i cK _ R hR=> ?_);refine aj ?_;refine aD ?_;refine⟨λh=> ?_,λh=> ?_⟩
   ·have bx:i<x.aC.length:=(by omega);obtain⟨v,hv,hv9⟩:=qY.own i bx;have Dh:t.getD (8+i) 0=v:=(by rw[SE,hv];rfl);have b3:(0<=(i:Int)/\(i:Int)<3)=True:=(by simp;omega);have fW:SD.wrap ((i:Int)+1)=((i+1:Nat):Int):=(by rw[br _ (by omega)];rfl);have Ln:(D.l mp).drop (25+i)=iv v::((t.drop (8+i+1)).map iv++[]):=by
     have:=F0 Ld aaE hv;rw[show 25+i=17+(8+i) by omega];exact this
    have cT:go (i+1)=go i++[(v:Int)]:=(by rw[hgo,hgo,ajH,Dh]);have hli:=alp i;refine aK ?_;refine aj ?_;refine ah ?_;simp only[seval,z1,Cu,b3,Ln,bn4,bs4]
    first|refine⟨by decide,by omega,?_⟩|refine⟨by omega,?_⟩
    refine ah ?_;simp only[seval,fW];refine hR _ ⟨bx,trivial,?_⟩;rw[cT,Tn,SL];exact cz
   ·have dD:i=x.aC.length:=(by omega);subst dD;clear hR;refine bR ?_;have hxo:(go x.aC.length)=tw t x.aC.length:=hgo _;generalize go x.aC.length=ol at hxo⊢;refine aj ?_;refine aZ ?_;rw[<- DY,<- hxo]at cL;exact fK _ tl nl ol .shut _ _ 0 cL
end
open Go.Conc Go.Proofs Go.Gg.Tk
namespace Tk
def ab6 (n:Int)(o k:Int):Int:=zd [o,max (k-n) (n-k)]
def Ek (l:List Int)(n:Int)(o:Int):Int:=l.foldl (ab6 n) o
def rJ (own q:Nat)(m:Int×Nat)(t:List Int):Int×Nat:=if m.2.testBit (mT t q)then m else(Ek (fM own 0 16) (mT t q) m.1,m.2|||2^mT t q)
def wm (x:ak)(y:aB)(q:Nat)(o:Int)(h:List Int):Int:=if cm h y=0 then o else((jA x 1 h).foldl (rJ (cm h y) q) (o,0)).1
def z8 (x:ak)(y:aB)(q:Nat):Nat->Int
 |0=> -1
 |i+1=>(kU x i).foldl (wm x y q) (z8 x y q i)
def Jh (x:ak)(i:Nat):List aa:=[.cells x.l 76,.cells [iv i] 3,.obj (.deferred (some [])),.gone]
def pB (x:ak):Nat->List aa
 |0=>[]
 |i+1=>pB x i++Jh x i
def xT (n:Nat):Nat->List Nat
 |0=>[]
 |i+1=>(n+4* i+2)::xT n i
theorem Ji(x:ak):∀i,(pB x i).length=4* i
 |0=>rfl
 |i+1=>by rw[pB,SL,Ji x i];rfl
theorem PB(x:ak)(B:List aa):∀(i:Nat)(L:List aa),∃Y,iT (xT B.length i) (B++pB x i++L)=some (B++Y)
 |0,L=>⟨pB x 0++L,by rw[xT,Ar,SC]⟩
 |i+1,L=>by
  have hl:(B++pB x i).length=B.length+4* i:=by rw[SL,Ji]
  have e:B++pB x (i+1)++L=(B++pB x i)++(Jh x i++L):=by rw[pB];simp
  have hg:((B++pB x i)++(Jh x i++L))[B.length+4* i+2]?=some (.obj (.deferred (some []))):=by rw[<- hl,aW];rfl
  obtain⟨Y,hY⟩:=PB x B i ([.cells x.l 76,.cells [iv i] 3,.gone,.gone]++L);refine⟨Y,?_⟩;rw[xT,e,Aq hg,<- hl,dL];exact hY
end Tk
theorem agF{lv:Bool}{P:SI}{nt:Nat}{c:Ub}{s:AS}{ms:List Nat}{Φ:an->AS->List Nat->Prop}(h:kM lv P nt [] c s ms Φ):mW lv P nt c s ms Φ:=λE V a Q ai hd hQ=>
 h E V a Q ai ⟨by rw[SO];exact hd.1,hd.2⟩ λae e E' V' a' s' cH hk aV cF he hΦ=>hQ ae e E' V' a' s' cH hk aV ⟨by have:=cF.1;rwa [SO]at this,cF.2⟩ he hΦ
section
variable {lv:Bool}{H:List aa}{k kp:AV->List aa->Prop}
theorem ai6{x:ak}{s q:Nat}{y:aB}(hx:x.Ok)(hs:x.aC[s]?=some y)(hq:q<x.pieces.length)(hk:∀o:Int,o=z8 (x.wo [(s:Int)]) y q (x.am.toNat+1)->k (.aO [iv (if o<0 then 0 else o),iv (if o<0 then 11 else 0)]) H):bc lv SA 31 H [x.av,iv s,iv q] k kp:=by
 refine Rw (rs:=[.tmp 6,.tmp 7]) (nt:=97) F.f31 rfl rfl rfl (by simp) λhH hA=> ?_;simp only[bk,SU,ak.av];have hp:=hx.am;have aP:=hx.dp;have n9:=hx.ey;have cy:=eX hs;have iM:=acI hq;obtain⟨p,eJ⟩:∃p:Nat,x.am=p:=⟨x.am.toNat,by omega⟩;obtain⟨w,hw⟩:∃w,w=x.wo [(s:Int)]:=⟨_,rfl⟩;have MO:w.Ok:=by rw[hw];exact hx.wo _
 have bS:x.l=[iv x.first,iv x.hours,iv x.am,dt x.seen,aT x.pieces,aT x.aC]:=rfl;have gz:∀(L:List aa)(j:Nat),(H++L)[H.length+j]?=L[j]?:=λL j=>aW H L j;have vG:∀(L:List aa)(j:Nat)(y:aa),(H++L).set (H.length+j) y=H++L.set j y:=λL j y=>dL H L j y;have aS:∀(L:List aa),(H++L)[H.length]?=L[0]?:=λL=>aW H L 0;have c_:∀(L:List aa),(H++L)[H.length+1]?=L[1]?:=λL=>aW H L 1;have kF:∀(L:List aa),(H++L)[H.length+2]?=L[2]?:=λL=>aW H L 2;have pJ:∀(L:List aa),(H++L)[H.length+5]?=L[5]?:=λL=>aW H L 5;have Mo:∀(L:List aa)(y:aa),(H++L).set (H.length+5) y=H++L.set 5 y:=λL y=>dL H L 5 y;have hd6:∀(L:List aa),(H++L)[H.length+6]?=L[6]?:=λL=>aW H L 6;have hs6:∀(L:List aa)(y:aa),(H++L).set (H.length+6) y=H++L.set 6 y:=λL y=>dL H L 6 y;have bu:x.l.length=6:=rfl;have ek:Uh 6 x.l=x.l:=rfl;have aan:T5 5 x.l=[.sl x.aC.length (x.aC.flatMap aB.l) .shut]:=rfl;have Da:T5 2 x.l=[iv x.am,dt x.seen,aT x.pieces,aT x.aC]:=rfl;have nR:(1<=2^24)=True:=eq_true (by decide);(try refine nJ ?_);refine aj ?_;(try refine nJ ?_);refine ah ?_;simp only[seval,aS,bu,ek];refine aH ((Ki (x:=x) hx ?_));(try simp only[seval]);(try refine nJ ?_);refine ah ?_;simp only[seval,show ((0:Int)!=0)=false from rfl];(try refine nJ ?_);refine aD ?_;refine aK ?_;(try refine nJ ?_);refine ah ?_;simp only[seval,z1,nR,aS,kF,bu,ek];refine aH ((oK (x:=x) (ns:=[(q:Int)]) ?_));have bJ:SD.wrap ((x.aC.length:Int)-1)=(x.aC.length:Int)-1:=br _ (by omega);have ho1:(decide ((s:Int)<0)||decide ((s:Int)>(x.aC.length:Int)-1))=false:=by simp;omega
 (try simp only[seval]);refine aH ((Kl (x:=x) (ns:=[(q:Int)]) (e:=.exact) (il:=H.length+4) (ir:=H.length+3) hx (by simp) (by rw[gz];rfl) (by rw[gz];rfl) ?_));rw[iM];(try simp only[seval,aS,c_,aan,bJ]);refine aH ((tr (n:=s) (lo:=0) (hi:=(x.aC.length:Int)-1) ?_));rw[ho1];(try simp only[seval]);(try refine nJ ?_);refine aD ?_;refine aK ?_;(try refine nJ ?_);have akI:uD [(s:Int)] x.aC.length:=λi n hn=>by
  match i,hn with
  |0,hn=>cases hn;simp;omega
 refine ah ?_;simp only[seval,z1,nR,aS,c_,bu,ek];refine aH ((Rf (x:=x) (ns:=[(s:Int)]) aP akI ?_));rw[<- hw];have oh:w.l.length=6:=rfl;have vI:Uh 6 w.l=w.l:=rfl;have hlw:w.l=[iv w.first,iv w.hours,iv w.am,dt w.seen,aT w.pieces,aT w.aC]:=rfl;have MR:T5 6 [AV.val (SF SD 0),AV.val (SF SD 0),AV.val (SF SD 0),AV.sl 0 [] .exact,AV.sl 0 [] .exact,AV.sl 0 [] .exact]=[]:=rfl;(try simp only[seval,ak.av,oh,vI,pJ,Mo,hd6,hs6,MR]);refine⟨ld w,?_⟩;have eS:SD.wrap (x.am+1)=((p+1:Nat):Int):=by rw[eJ,br _ (by omega)];rfl
 refine Jq ?_;refine nJ ?_;refine ah ?_;simp only[seval,aS,Da,eS];obtain⟨Bo,kR⟩:∃Bo:Int->List aa,∀o,Bo o=H++[.cells x.l 26,.cells [iv s] 3,.cells [iv q] 3,.cells x.l 26,.cells [.sl 1 [iv q] .exact] 22,.cells w.l 76,.cells [iv o] 3]:=⟨_,λ_=>rfl⟩;have dH:∀o,(Bo o).length=H.length+7:=λo=>by rw[kR];simp
 have b0:∀o L,(Bo o++L)[H.length]?=some (.cells x.l 26):=λo L=>by rw[kR,SC,aS];rfl
 have b1:∀o L,(Bo o++L)[H.length+1]?=some (.cells [iv s] 3):=λo L=>by rw[kR,SC,gz];rfl
 have b2:∀o L,(Bo o++L)[H.length+2]?=some (.cells [iv q] 3):=λo L=>by rw[kR,SC,gz];rfl
 have b5:∀o L,(Bo o++L)[H.length+5]?=some (.cells w.l 76):=λo L=>by rw[kR,SC,gz];rfl
 have b6:∀o L,(Bo o++L)[H.length+6]?=some (.cells [iv o] 3):=λo L=>by rw[kR,SC,gz];rfl
 have s6:∀o o' L,(Bo o++L).set (H.length+6) (.cells [iv o'] 3)=Bo o'++L:=λo o' L=>by rw[kR,kR,SC,SC,vG];rfl
 obtain⟨fo,wV⟩:∃fo:Nat->Int,∀i,fo i=z8 w y q i:=⟨_,λ_=>rfl⟩;refine agF ?_;refine xV ?_;refine PW (measure λi=>p+1-i).wf (λi:Nat=>⟨[(45,iv i),(44,iv ((p+1:Nat):Int)),(3,.op H.length 0),(4,.op (H.length+1) 0),(5,.op (H.length+2) 0),(9,.op (H.length+5) 0),(10,.op (H.length+6) 0)],Bo (fo i)++pB w i⟩) (λi=>xT (H.length+7) i) (λi=>i<=p+1) 0 (dY (by simp only[seval];simp[a_,Wk.refl]) (by rw[kR,wV];show _=_++[];rw[SO];rfl)) rfl (by omega) λi oW=> ?_;obtain⟨N,hN⟩:∃N,N=H.length+7+4* i:=⟨_,rfl⟩;obtain⟨AO,qD⟩:∃AO:Int->List aa,∀o,AO o=Bo o++pB w i:=⟨_,λ_=>rfl⟩;have qE:∀o,(AO o).length=N:=λo=>by rw[qD,SL,dH,Ji,hN]
 have a0:∀o L,(AO o++L)[H.length]?=some (.cells x.l 26):=λo L=>by rw[qD,SC];exact b0 _ _
 have a1:∀o L,(AO o++L)[H.length+1]?=some (.cells [iv s] 3):=λo L=>by rw[qD,SC];exact b1 _ _
 have a2:∀o L,(AO o++L)[H.length+2]?=some (.cells [iv q] 3):=λo L=>by rw[qD,SC];exact b2 _ _
 have a5:∀o L,(AO o++L)[H.length+5]?=some (.cells w.l 76):=λo L=>by rw[qD,SC];exact b5 _ _
 have a50:∀o,(AO o)[H.length+5]?=some (.cells w.l 76):=λo=>by have:=a5 o [];rwa [SO]at this
 have a6:∀o L,(AO o++L)[H.length+6]?=some (.cells [iv o] 3):=λo L=>by rw[qD,SC];exact b6 _ _
 have as6:∀o o' L,(AO o++L).set (H.length+6) (.cells [iv o'] 3)=AO o'++L:=λo o' L=>by rw[qD,qD,SC,SC];exact s6 _ _ _
 have ag:∀o (L:List aa)(j:Nat),(AO o++L)[N+j]?=L[j]?:=λo L j=>by rw[<- qE o,aW]
 have uM:∀o (L:List aa)(j:Nat)(y:aa),(AO o++L).set (N+j) y=AO o++L.set j y:=λo L j y=>by rw[<- qE o,dL]
 have NN:∀m o o',(∀z∈AO o,e_ m z)->∀z∈AO o',e_ m z:=λm o o' hz z fl=>by
  rw[qD,kR]at hz fl;simp only[SS]at fl;rcases fl with(h'|h')|h'
  ·exact hz z (by simp[h'])
  ·simp only[SK,SZ,or_false]at h';rcases h' with rfl|rfl|rfl|rfl|rfl|rfl|rfl
   ·exact hz _ (by simp)
   ·exact hz _ (by simp)
   ·exact hz _ (by simp)
   ·exact hz _ (by simp)
   ·exact hz _ (by simp)
   ·exact hz _ (by simp)
   ·intro a ha;rw[S9]at ha;subst ha;exact .val _
  ·exact hz z (by simp[h'])
 have okX:∀(X:List aa) o o',bF (AO o++X)->bF (AO o'++X):=λX o o' hX z hz=>by
  have hlen:(AO o'++X).length=(AO o++X).length:=by simp[qE]
  rw[hlen];rcases SS.1 hz with h'|h'
  ·exact NN _ o o' (λz hz=>hX z (Th _ hz)) z h'
  ·exact hX z (S4 _ h')
 rw[<- qD];refine td ?_;refine aj ?_;refine td ?_;refine aD ?_;refine⟨λhc=> ?_,λhc=> ?_⟩
 ·have qK:i<=3:=by omega
  have KN:=ES MO i qK;refine aK ?_;refine FM ?_;refine xV ?_;refine td ?_;refine aj ?_;refine td ?_;refine ah ?_;simp only[seval,a50,hlw];refine aH ((Kj (x:=w) (n:=i) ?_));rw[qE];(try simp only[seval]);refine xV ?_;refine Jr (by rfl) λl fn T PA bo hT yr qJ=> ?_;(try simp only[seval]);rw[qE];have hY:j6 lv SA (.fn (.yield l) [] []) (λo h=> .go (wm w y q o h)) (λo=>AO o++[.cells w.l 76,.cells [iv i] 3,.obj (.deferred (some [])),.loop l .ready none fn T 97 #[51] PA bo (N+2)]) (N+4) (λ_=>True) (λh=>mX h/\∀ns∈gg w h,∀a∈(iE w h ns).map (dE h ns),jF w a) (.aO []):=by
   refine⟨λo h M k kp _ ha dK=> ?_,λ_ _ _ _ _ _=>trivial,λo=>by simp[qE],λm o o' hz z fl=> ?_,rfl,rfl,rfl⟩
   ·obtain⟨pO,DU⟩:=ha;have h4:=pO.len;have nS:(h.map iv).length=4:=(by rw[Ta,h4]);simp only[cZ]at dK;obtain⟨Lo,lA⟩:∃Lo,Lo=aa.loop l .busy none fn T 97 #[51] PA bo (N+2):=⟨_,rfl⟩;obtain⟨C,hC⟩:∃C,C=N+4+M.length:=⟨_,rfl⟩;obtain⟨P1,dB⟩:∃P1:Int->List aa,∀o,P1 o=AO o++([.cells w.l 76,.cells [iv i] 3,.obj (.deferred (some [])),Lo]++M):=⟨_,λ_=>rfl⟩;have eC:∀o,(P1 o).length=C:=λo=>(by rw[dB,hC];simp[qE];omega);have p0:∀o L,(P1 o++L)[H.length]?=some (.cells x.l 26):=λo L=>(by rw[dB,SC];exact a0 _ _);have p1:∀o L,(P1 o++L)[H.length+1]?=some (.cells [iv s] 3):=λo L=>(by rw[dB,SC];exact a1 _ _);have p2:∀o L,(P1 o++L)[H.length+2]?=some (.cells [iv q] 3):=λo L=>(by rw[dB,SC];exact a2 _ _);have p5:∀o L,(P1 o++L)[H.length+5]?=some (.cells w.l 76):=λo L=>(by rw[dB,SC];exact a5 _ _);have p6:∀o L,(P1 o++L)[H.length+6]?=some (.cells [iv o] 3):=λo L=>(by rw[dB,SC];exact a6 _ _);have ps6:∀o o' L,(P1 o++L).set (H.length+6) (.cells [iv o'] 3)=P1 o'++L:=λo o' L=>(by rw[dB o,dB o',SC (AO o),SC (AO o')];exact as6 _ _ _);have NZ:∀o L,(P1 o++L)[N+3]?=some Lo:=λo L=>(by rw[dB,SC,ag];rfl);have Og:∀o (L:List aa) y,(P1 o++L).set (N+3) y=AO o++([.cells w.l 76,.cells [iv i] 3,.obj (.deferred (some [])),y]++M)++L:=λo L y=>(by rw[dB,SC,uM];simp);have pb:∀o (L:List aa)(j:Nat),(P1 o++L)[C+j]?=L[j]?:=λo L j=>(by rw[<- eC o,aW]);have xo:∀o (L:List aa),(P1 o++L)[C]?=L[0]?:=λo L=>pb o L 0;have pb1:∀o (L:List aa),(P1 o++L)[C+1]?=L[1]?:=λo L=>pb o L 1;have pb2:∀o (L:List aa),(P1 o++L)[C+2]?=L[2]?:=λo L=>pb o L 2;have Br:∀o (L:List aa)(j:Nat)(y:aa),(P1 o++L).set (C+j) y=P1 o++L.set j y:=λo L j y=>(by rw[<- eC o,dL]);have ps1:∀o (L:List aa)(y:aa),(P1 o++L).set (C+1) y=P1 o++L.set 1 y:=λo L y=>Br o L 1 y;have ps2:∀o (L:List aa)(y:aa),(P1 o++L).set (C+2) y=P1 o++L.set 2 y:=λo L y=>Br o L 2 y;have Bi:∀m o o',(∀z∈P1 o,e_ m z)->∀z∈P1 o',e_ m z:=λm o o' hz z fl=>by
     rw[dB]at hz fl;rcases SS.1 fl with h'|h'
     ·exact NN m o o' (λz vK=>hz z (Th _ vK)) z h'
     ·exact hz z (S4 _ h')
    subst hT yr qJ;rw[SC];refine wA (id:=N+3) (by rw[ag];rfl) rfl (by kernel_rfl) λoN KO=> ?_;simp only[sP];have wT:T5 4 [iv 0,iv 0,iv 0,iv 0]=[]:=rfl;refine ah ?_;simp only[seval,h4,wT];unfold uK;refine⟨none,fn,_,97,#[51],_,_,_,by rw[ag];rfl,?_⟩;dsimp only;rw[uM];simp only[UK,T9];rw[<- lA];have ym:(AO o).length+(M.length+1+1+1+1)=C:=(by rw[qE,hC];omega);rw[ym];have yD:∀z:aa,(AO o++aa.cells w.l 76::aa.cells [AV.val (SF SD ↑i)] 3::aa.obj (avA (some []))::Lo::(M++[z]))=P1 o++[z]:=λz=>(by rw[dB];simp[iv]);rw[yD];obtain⟨own,eE⟩:∃own,own=cm h y:=⟨_,rfl⟩;refine bU ?_;refine nI [7,8] [0,1,2,3,4,5,6,7,8] [⟨0,false,[],[([7],[7])]⟩,⟨1,false,[],[([7],[7])]⟩,⟨2,false,[],[([7],[7])]⟩,⟨3,false,[],[([7],[7])]⟩,⟨4,false,[],[([7],[7])]⟩,⟨5,false,[],[([7],[7])]⟩,⟨6,false,[],[([7],[7])]⟩,⟨7,true,[7],[]⟩,⟨8,true,[7,8],[]⟩] (λD=>bif isDone 8 D then P1 o++[.cells (h.map iv) 83,.cells [wv own] 79]else bif isDone 7 D then P1 o++[.cells (h.map iv) 83,.cells [.val (.int .u16 0)] 79]else P1 o++[.cells (h.map iv) 83]) ?_;simp only[seval,eC,xo,pb1,ps1,p0,p1,h4,nS,aan,BA hs,jh cy];have hmE:Uh 4 (Vf (λn=>AV.val (SF SD n)) h)=h.map iv:=SV (by rw[nS];exact SP _);rw[hmE];refine ij (wv own) (cC (F3 (h:=h) (y:=y) pO ⟨by rw[eE],rfl⟩)) ?_;refine⟨ij (wv own) (cC (F3 (h:=h) (y:=y) pO ⟨by rw[eE],rfl⟩)) rfl,?_⟩;(try simp only[seval,wv]);have hm3:Vf (λn=>AV.val (SF SD n)) h=h.map iv:=rfl;rw[hm3];refine ah ?_;simp only[seval,pb1];refine aD ?_;refine⟨λhz=> ?_,λhz=> ?_⟩
    ·refine bR ?_;have fl:own=0:=(by simpa using hz);have e1:wm w y q o h=o:=(by unfold wm;rw[<- eE,if_pos fl]);rw[e1]at dK;show py _ _ _ _ _ _ _;refine⟨l,.busy,none,fn,_,97,#[51],_,_,N+2,by show (P1 _++_)[_]?=_;rw[NZ,lA],?_⟩;show cJ C ((P1 _++_).set _ _) _ k;rw[Og];rw[SC]at dK;exact jI (G:=[.cells (h.map iv) 83,.cells [wv own] 79]) (Wk.refl _) rfl (by rw[hC];simp[qE];omega) oN (.val _) dK
    ·refine aK ?_;refine ah ?_;simp only[seval,eC];refine ah ?_;simp only[seval,p5,xo,hlw,h4,nS];have alH:Uh 4 (Vf iv h)=h.map iv:=SV (by rw[nS];exact SP _);rw[alH];refine aH ((Kk (x:=w) (h:=h) (deep:=1) ?_));(try simp only[seval]);have fl:own≠0:=(by simpa using hz);have alT:own<65536:=by
      rw[eE];have:cm h y<2^9:=FN;omega
     refine bU ?_;refine FK (N+3) (by rfl) (by show (P1 _++_)[N+3]?=_;rw[NZ,lA]) λl2 eW T2 gI gJ oO yu yx=> ?_;simp only[seval];rw[eC]at oO⊢;have okm:∀v m m',(∀z∈[aa.cells (h.map iv) 83,.cells [wv own] 79,.cells [wv m] 79,.cells w.l 76,.cells (h.map iv) 83,.cells [iv 1] 3,.loop l2 .ready none eW T2 97 #[64] gI gJ (N+2)],e_ v z)->∀z∈[aa.cells (h.map iv) 83,.cells [wv own] 79,.cells [wv m'] 79,.cells w.l 76,.cells (h.map iv) 83,.cells [iv 1] 3,.loop l2 .ready none eW T2 97 #[64] gI gJ (N+2)],e_ v z:=λv m m' hz z fl=>by
      simp only[SK,SZ,or_false]at fl;rcases fl with rfl|rfl|rfl|rfl|rfl|rfl|rfl
      ·exact hz _ (by simp)
      ·exact hz _ (by simp)
      ·intro a ha;rw[S9]at ha;subst ha;exact .val _
      ·exact hz _ (by simp)
      ·exact hz _ (by simp)
      ·exact hz _ (by simp)
      ·exact hz (.loop l2 .ready none eW T2 97 #[64] gI gJ (N+2)) (by simp)
     have yq:j6 lv SA (.fn (.yield l2) [] []) (λm t=> .go (rJ own q m t)) (λm:Int×Nat=>P1 m.1++[.cells (h.map iv) 83,.cells [wv own] 79,.cells [wv m.2] 79,.cells w.l 76,.cells (h.map iv) 83,.cells [iv 1] 3,.loop l2 .ready none eW T2 97 #[64] gI gJ (N+2)]) (C+7) (λm=>m.2<65536) (jF w) (.aO []):=by
      refine⟨λm t M2 k2 y_ hm ht lG=> ?_,λm t m' hm ht he=> ?_,λm=>by simp[eC],λv m m' hz z fl=> ?_,rfl,rfl,rfl⟩
      ·obtain⟨o2,met⟩:=m;replace hm:met<65536:=hm;have od:=ht.len;have A6:(t.map iv).length=11:=(by rw[Ta,od]);simp only[cZ]at lG;have A9:w.pieces.length=x.pieces.length:=(by rw[hw];rfl);obtain⟨n,mc,hn9,_⟩:=ht.num q (by rw[A9];exact hq);have Hd:mT t q=n:=(by unfold mT;rw[SE,mc];rfl);obtain⟨qq,tE⟩:∃Lo,Lo=aa.loop l2 .busy none eW T2 97 #[64] gI gJ (N+2):=⟨_,rfl⟩;obtain⟨D,hD⟩:∃D,D=C+7+M2.length:=⟨_,rfl⟩;obtain⟨Q1,gr⟩:∃Q1:Int->Nat->List aa,∀o m,Q1 o m=P1 o++([.cells (h.map iv) 83,.cells [wv own] 79,.cells [wv m] 79,.cells w.l 76,.cells (h.map iv) 83,.cells [iv 1] 3,qq]++M2):=⟨_,λ_ _=>rfl⟩;have Sl:∀o m,(Q1 o m).length=D:=λo m=>(by rw[gr,hD];simp[eC];omega);have q2:∀o m L,(Q1 o m++L)[H.length+2]?=some (.cells [iv q] 3):=λo m L=>(by rw[gr,SC];exact p2 _ _);have q6:∀o m L,(Q1 o m++L)[H.length+6]?=some (.cells [iv o] 3):=λo m L=>(by rw[gr,SC];exact p6 _ _);have qs6:∀o o' m L,(Q1 o m++L).set (H.length+6) (.cells [iv o'] 3)=Q1 o' m++L:=λo o' m L=>(by rw[gr o,gr o',SC (P1 o),SC (P1 o')];exact ps6 _ _ _);have qo:∀o m L,(Q1 o m++L)[C+1]?=some (.cells [wv own] 79):=λo m L=>(by rw[gr,SC,pb];rfl);have qm:∀o m L,(Q1 o m++L)[C+2]?=some (.cells [wv m] 79):=λo m L=>(by rw[gr,SC,pb];rfl);have qsm:∀o m m' L,(Q1 o m++L).set (C+2) (.cells [wv m'] 79)=Q1 o m'++L:=λo m m' L=>(by rw[gr o m,gr o m',SC (P1 o),Br,SC (P1 o)];rfl);have ql:∀o m L,(Q1 o m++L)[C+6]?=some qq:=λo m L=>(by rw[gr,SC,pb];rfl);have qsl:∀o m L y,(Q1 o m++L).set (C+6) y=(P1 o++([.cells (h.map iv) 83,.cells [wv own] 79,.cells [wv m] 79,.cells w.l 76,.cells (h.map iv) 83,.cells [iv 1] 3,y]++M2))++L:=λo m L y=>(by rw[gr,SC,Br];simp);have qc:∀o m (L:List aa),(Q1 o m++L)[D]?=L[0]?:=λo m L=>(by rw[<- Sl o m];exact aW _ L 0);have H_:∀o (L:List aa),(P1 o++L)[C+6]?=L[6]?:=λo L=>pb o L 6;have tN:∀(o':Int)(m':Nat)(G:List aa),bF (P1 o2++([aa.cells (h.map iv) 83,.cells [wv own] 79,.cells [wv met] 79,.cells w.l 76,.cells (h.map iv) 83,.cells [iv 1] 3,.loop l2 .ready none eW T2 97 #[64] gI gJ (N+2)]++M2))->k2 (.val (.bool true)) (P1 o'++([aa.cells (h.map iv) 83,.cells [wv own] 79,.cells [wv m'] 79,.cells w.l 76,.cells (h.map iv) 83,.cells [iv 1] 3,.loop l2 .ready none eW T2 97 #[64] gI gJ (N+2)]++M2))->cJ D ((Q1 o' m'++G).set (C+6) (.loop l2 .ready none eW T2 97 #[64] gI gJ (N+2))) (.val (.bool true)) k2:=λo' m' G aq aJ=>by
        rw[qsl];refine jI (G:=G) (Wk.refl _) rfl (by rw[hD];simp[eC];omega) ?_ (.val _) aJ;intro z hz;have hlen:(P1 o'++([aa.cells (h.map iv) 83,.cells [wv own] 79,.cells [wv m'] 79,.cells w.l 76,.cells (h.map iv) 83,.cells [iv 1] 3,.loop l2 .ready none eW T2 97 #[64] gI gJ (N+2)]++M2)).length=(P1 o2++([aa.cells (h.map iv) 83,.cells [wv own] 79,.cells [wv met] 79,.cells w.l 76,.cells (h.map iv) 83,.cells [iv 1] 3,.loop l2 .ready none eW T2 97 #[64] gI gJ (N+2)]++M2)).length:=(by simp[eC]);rw[hlen];rcases SS.1 hz with h'|h'
        ·exact Bi _ o2 o' (λz hz=>aq z (Th _ hz)) z h'
        ·rcases SS.1 h' with h'|h'
         ·exact okm _ met m' (λz hz=>aq z (S4 _ (Th _ hz))) z h'
         ·exact aq z (S4 _ (S4 _ h'))
       subst oO yu yx;rw[SC];refine wA (id:=C+6) (by rw[H_];rfl) rfl (by kernel_rfl) λrS KP=> ?_;simp only[sP];have Da:T5 11 [iv 0,iv 0,iv 0,iv 0,iv 0,iv 0,iv 0,iv 0,iv 0,iv 0,iv 0]=[]:=rfl;refine ah ?_;simp only[seval,od,Da];unfold uK;refine⟨none,eW,_,97,#[64],_,_,_,by rw[H_];rfl,?_⟩;dsimp only;rw[Br];simp only[UK,T9];rw[<- tE];have CQ:(P1 o2).length+(M2.length+1+1+1+1+1+1+1)=D:=(by rw[eC,hD];omega);rw[CQ];have iV:∀z:aa,(P1 o2++aa.cells (Vf iv h) 83::aa.cells [AV.val (SF S6 ↑own)] 79::aa.cells [AV.val (SF S6 ↑met)] 79::aa.cells w.l 76::aa.cells (Vf iv h) 83::aa.cells [AV.val (SF SD 1)] 3::qq::(M2++[z]))=Q1 o2 met++[z]:=λz=>(by rw[gr];simp[iv]);rw[iV];have b4:(0<=(q:Int)/\(q:Int)<4)=True:=(by simp;omega);have pL:=lw (i:=4+q) mc;refine ah ?_;simp only[seval,q2,qc,b4,pL];refine ah ?_;simp only[seval,qm];refine aH ((yc (m:=met) (n:=n) hm ?_));(try simp only[seval]);refine aD ?_;refine⟨λhb=> ?_,λhb=> ?_⟩
       ·refine bR ?_;have e1:rJ own q (o2,met) t=(o2,met):=(by unfold rJ;rw[Hd,if_pos hb]);rw[e1]at lG;rw[SC]at lG;show py _ _ _ _ _ _ _;refine⟨l2,.busy,none,eW,_,97,#[64],_,_,N+2,by show (Q1 _ _++_)[_]?=_;rw[ql,tE],?_⟩;exact tN o2 met _ rS lG
       ·refine aK ?_;have dI:met.testBit n=false:=(by simpa using hb);have e1:rJ own q (o2,met) t=(Ek (fM own 0 16) n o2,met|||2^n):=(by unfold rJ;rw[Hd,if_neg (by simpa using hb)]);rw[e1]at lG;rw[SC]at lG;refine ah ?_;simp only[seval,qm];refine aH ((u5 (m:=met) (n:=n) hm (by omega) ?_));(try simp only[seval,qm,qsm,wv]);refine ah ?_;simp only[seval,qo];refine aH ((Kh (s:=own) (more:=0) alT (by decide) ?_));(try simp only[seval,aL]);have hlb:∀v∈fM own 0 16,0<=v/\v<16:=λv hv=>by
         unfold fM at hv;obtain⟨j,hj,rfl⟩:=Tm.1 hv;have:=TW.1 (Uy.1 hj).1;omega
        have fw:=Ns own 0 16;generalize fM own 0 16=ls at hlb fw lG⊢;obtain⟨oj,kV⟩:∃oj:Nat->Int,∀j,oj j=Ek (ls.take j) n o2:=⟨_,λ_=>rfl⟩;have alV:oj 0=o2:=(by rw[kV];rfl);generalize met|||2^n=abZ at lG⊢;refine bU ?_;refine eI ls.length (λj:Nat=>[(78,iv j)]) (λj=>Q1 (oj j) abZ++[.cells (t.map iv) 86]) (λ_=>True) (λ_ _=>rfl) (by simp only[seval];simp[a_,Wk.refl]) (by rw[alV]) (λ_ _ _=>by simp[Sl]) trivial (λbC bW j mE _ R hR=> ?_);clear bC bW;refine aj ?_;refine aD ?_;refine⟨λh1=> ?_,λh1=> ?_⟩
        ·have dP:j<ls.length:=(by omega);obtain⟨v,hv⟩:=bK dP;have hvb:=hlb v (um hv);have cT:oj (j+1)=ab6 n (oj j) v:=by
          rw[kV,kV,Ek,Ek];obtain⟨alz,yV⟩:=SN.1 hv;rw[Vs alz,Ya,yV];rfl
         have hwa:SD.wrap (v-(n:Int))=v-n:=br _ (by omega);have Hk:SD.wrap ((n:Int)-v)=n-v:=br _ (by omega);have fW:SD.wrap ((j:Int)+1)=((j+1:Nat):Int):=(by rw[br _ (by omega)];rfl);have akz:(2<=2^24)=True:=eq_true (by decide);refine aK ?_;refine ah ?_;simp only[seval,eg hv,jh dP];refine ah ?_;simp only[seval,q6,z2,akz,hwa,Hk];have Dp:(if v-(n:Int)<(n:Int)-v then(n:Int)-v else v-(n:Int))=max (v-n) (n-v):=(by split<;>omega);rw[Dp];refine aH ((ajm (ns:=[oj j,max (v-n) (n-v)]) (by simp) ?_));(try simp only[seval,q6,qs6]);refine ah ?_;simp only[seval,fW];refine hR _ ⟨dP,trivial,?_⟩;rw[cT];exact cz
        ·have vt:j=ls.length:=(by omega);subst vt;refine bR ?_;show py _ _ _ _ _ _ _;refine⟨l2,.busy,none,eW,_,97,#[64],_,_,N+2,by show (Q1 _ _++_)[_]?=_;rw[ql,tE],?_⟩;exact tN (oj ls.length) abZ _ rS (by rw[kV,Tp];exact lG)
      ·cases he;show (rJ own q m t).2<65536;unfold rJ;split
       ·exact hm
       ·obtain⟨n,mc,hn9,_⟩:=ht.num q (by rw[hw];exact hq);have Hd:mT t q=n:=(by unfold mT;rw[SE,mc];rfl);rw[Hd];exact qh hm (xz (by omega))
      ·rcases SS.1 fl with h'|h'
       ·exact Bi v m.1 m'.1 (λz vK=>hz z (Th _ vK)) z h'
       ·exact okm v m.2 m'.2 (λz vK=>hz z (S4 _ vK)) z h'
     refine cC (Kq (x:=w) (h:=h) (deep:=1) (ir:=C+3) (ih:=C+3+1) (id:=C+3+2) (σ:=(o,0)) MO pO yq (λm L=> ?_) (λm L=> ?_) (λm L=> ?_) (λn=>by simp[jV]) (show (0:Nat)<65536 by decide) (λa ha=>ha.len) DU ?_)
     ·rw[SC];exact pb _ _ 3
     ·rw[SC];exact pb _ _ 4
     ·rw[SC];exact pb _ _ 5
     rw[EC (g:=rJ own q) (λ_ _=>rfl)];simp only[gk,SO];have e1:wm w y q o h=((jA w 1 h).foldl (rJ own q) (o,0)).1:=(by unfold wm;rw[<- eE,if_neg fl]);generalize(jA w 1 h).foldl (rJ own q) (o,0)=r at e1⊢;rw[e1]at dK;have H_:∀o (L:List aa),(P1 o++L)[C+6]?=L[6]?:=λo L=>pb o L 6;refine⟨.ready,none,_,_,_,_,_,_,_,by rw[H_];rfl,by decide,?_⟩;rw[Br,Ic];(try simp only[seval]);show py _ _ _ _ _ _ _;refine⟨l,.busy,none,fn,_,97,#[51],_,_,N+2,by show (P1 _++_)[_]?=_;rw[NZ,lA],?_⟩;show cJ C ((P1 _++_).set _ _) _ k;rw[Og];rw[SC]at dK;exact jI (G:=[.cells (h.map iv) 83,.cells [wv own] 79,.cells [wv r.2] 79,.cells w.l 76,.cells (h.map iv) 83,.cells [iv 1] 3,.gone]) (Wk.refl _) rfl (by rw[hC];simp[qE];omega) (okX _ o r.1 oN) (.val _) dK
   ·rcases SS.1 fl with h'|h'
    ·exact NN m o o' (λz vK=>hz z (Th _ vK)) z h'
    ·exact hz z (S4 _ h')
  refine cC (Km (x:=w) (bm:=i) (ir:=N) (it:=N+1) (σ:=fo i) MO hY (λo L=> ?_) (λo L=> ?_) qK (λn=>by simp[jV]) trivial (λa ha=>KN a ha) ?_)
  ·rw[SC];exact ag _ _ 0
  ·rw[SC];exact ag _ _ 1
  rw[EC (g:=wm w y q) (λ_ _=>rfl)];simp only[gk,SO];have hfx:(kU w i).foldl (wm w y q) (fo i)=fo (i+1):=by rw[wV,wV,z8]
  rw[hfx];have yY:SD.wrap ((i:Int)+1)=((i+1:Nat):Int):=by rw[br _ (by omega)];rfl
  refine⟨.ready,none,_,_,_,_,_,_,_,by show (AO _++_)[N+3]?=_;rw[ag];rfl,by decide,?_⟩;rw[show N+2+1=N+3 from rfl,uM,Ib];(try simp only[seval]);refine FL ?_;refine ah ?_;simp only[seval,yY];refine⟨i+1,?_,by omega,dY (by push_cast;simp only[seval];simp[a_,Wk.refl]) (by rw[qD,pB,SC];rfl),by rw[xT,hN]⟩;show p+1-(i+1)<p+1-i;omega
 ·have dD:i=p+1:=by omega
  subst dD;refine bR ?_;have Jd:∀o,(AO o)[H.length+6]?=some (.cells [iv o] 3):=λo=>by have:=a6 o [];rwa [SO]at this
  have mH:x.am.toNat=p:=by omega
  rw[mH]at hk;have aJ:=hk (fo (p+1)) (by rw[wV,hw]);generalize fo (p+1)=o at aJ⊢;(try refine nJ ?_);refine ah ?_;simp only[seval,Jd];obtain⟨Y,wL⟩:=PB w (Bo o) (p+1) [];rw[SO,dH]at wL;have Sv:iT (xT (H.length+7) (p+1)) (AO o)=some (H++([.cells x.l 26,.cells [iv s] 3,.cells [iv q] 3,.cells x.l 26,.cells [.sl 1 [iv q] .exact] 22,.cells w.l 76,.cells [iv o] 3]++Y)):=by rw[qD,wL,kR,SC]
  (try refine nJ ?_);refine aD ?_;refine⟨λho=> ?_,λho=> ?_⟩
  ·have bi:o<0:=(by simpa using ho);rw[if_pos bi,if_pos bi]at aJ;refine aj ?_;refine aZ ?_;refine ew Sv ?_;(try simp only[seval]);exact iH hH (Wk.refl _) (by simp[jV,ec]) aJ
  ·have bi:¬o<0:=(by simpa using ho);rw[if_neg bi,if_neg bi]at aJ;refine aK ?_;refine Jp ?_;have Jd:∀o,(AO o)[H.length+6]?=some (.cells [iv o] 3):=λo=>(by have:=a6 o [];rwa [SO]at this);refine ah ?_;simp only[seval,Jd];refine aZ ?_;refine ew Sv ?_;(try simp only[seval]);exact iH hH (Wk.refl _) (by simp[jV,ec]) aJ
end
open Go.Conc Go.Proofs Go.Gg.Tk
namespace Tk
def fP:ak:=⟨10,3,2,[⟨2,⟨12,13⟩⟩],[⟨⟨10,12⟩,⟨0,1⟩⟩,⟨⟨11,11⟩,⟨0,2⟩⟩,⟨⟨12,15⟩,⟨1,2⟩⟩],[⟨⟨12,12⟩,⟨0,2⟩⟩,⟨⟨10,15⟩,⟨2,2⟩⟩]⟩
def uq:ak:={fP with aC:=[⟨⟨15,15⟩,⟨0,0⟩⟩,⟨⟨10,15⟩,⟨2,2⟩⟩]}
end Tk
theorem aeI:gG (TA #[SF .i64 0,SF .i64 0,SF .i64 0]) 3=[iv 0,iv 0,iv 0]:=rfl
theorem aeH:gG (TA #[SF .i64 0,SF .i64 0,SF .i64 0,SF .i64 0]) 12=TM 12 (iv 0):=rfl
theorem aeG:gG (TA #[SF .i64 0,SF .i64 0,SF .i64 0,SF .i64 0]) 8=[iv 0,iv 0,iv 0,iv 0,iv 0,iv 0,iv 0,iv 0]:=rfl
theorem ac0:TM 12 (iv 0)=[iv 0,iv 0,iv 0,iv 0,iv 0,iv 0,iv 0,iv 0,iv 0,iv 0,iv 0,iv 0]:=rfl
theorem acB:(3<=2^24)=True:=eq_true (by decide)
theorem acC:(8<=2^24)=True:=eq_true (by decide)
theorem acA:(12<=2^24)=True:=eq_true (by decide)
section
variable {lv:Bool}{H:List aa}{k kp:AV->List aa->Prop}
theorem yb(hk:k fP.av H):bc lv SA 53 H [] k kp:=by
 refine bD (rs:=[.cell 0 26]) (nt:=11) aq_ λhH hA=> ?_;simp only[bk,SU];refine aj ?_;refine aj ?_;refine aH ((Rh (a:=2) (b:=12) (c:=13) ?_));(try simp only[seval,Seen.av,Seen.l,iS.av,aeI,acB]);refine aH ((rP (a:=10) (b:=12) (c:=0) (d:=1) ?_));(try simp only[seval]);refine aH ((rP (a:=11) (b:=11) (c:=0) (d:=2) ?_));(try simp only[seval]);refine aH ((rP (a:=12) (b:=15) (c:=1) (d:=2) ?_));(try simp only[seval,aB.av,aB.l,aeH,ac0,acA]);refine aH ((rP (a:=12) (b:=12) (c:=0) (d:=2) ?_));(try simp only[seval]);refine aH ((rP (a:=10) (b:=15) (c:=2) (d:=2) ?_));have aS:∀(L:List aa),(H++L)[H.length]?=L[0]?:=λL=>aW H L 0;have de:∀(L:List aa)(y:aa),(H++L).set H.length y=H++L.set 0 y:=λL y=>dL H L 0 y;(try simp only[seval,aB.av,aB.l,aeG,acC,aS,de]);refine pC ?_;simp only[seval,aS];refine iH hH (b:=fP.av) (O1 (.cons (Wk.refl _) (.cons (Wk.refl _) (.cons (Wk.refl _) (.cons (e9 _ _ _) (.cons (e9 _ _ _) (.cons (e9 _ _ _) .nil))))))) (by rw[HI];trivial) hk
theorem ajh(hk:∀X:aa,k (.agg [iv 10,iv 3,iv 2,.sl 1 (fP.seen.flatMap Seen.l) .exact,.sl 3 (fP.pieces.flatMap aB.l) .exact,.bz (H.length+1) 0 2 2]) (H++[X,.cells (fP.aC.flatMap aB.l) 48])):bc lv SA 53 H [] k kp:=by
 refine bD (rs:=[.cell 0 26]) (nt:=11) aq_ λhH hA=> ?_;simp only[bk,SU];refine aj ?_
 (repeat apply gp);refine ags 8 (by kernel_rfl) ?_
 simp only[seval];refine aH ((Rh (a:=2) (b:=12) (c:=13) ?_));(try simp only[seval,Seen.av,Seen.l,iS.av,aeI,acB]);refine aH ((rP (a:=10) (b:=12) (c:=0) (d:=1) ?_));(try simp only[seval]);refine aH ((rP (a:=11) (b:=11) (c:=0) (d:=2) ?_));(try simp only[seval]);refine aH ((rP (a:=12) (b:=15) (c:=1) (d:=2) ?_));(try simp only[seval,aB.av,aB.l,aeH,ac0,acA]);refine aH ((rP (a:=12) (b:=12) (c:=0) (d:=2) ?_));(try simp only[seval]);refine aH ((rP (a:=10) (b:=15) (c:=2) (d:=2) ?_));have aS:∀(L:List aa),(H++L)[H.length]?=L[0]?:=λL=>aW H L 0;have de:∀(L:List aa)(y:aa),(H++L).set H.length y=H++L.set 0 y:=λL y=>dL H L 0 y;(try simp only[seval,aB.av,aB.l,aeG,acC,aS,de]);refine pC ?_;simp only[seval,aS];exact b8 (hk _)
theorem aji(hk:k uq.av H):bc lv SA 54 H [] k kp:=by
 refine bD (rs:=[.cell 0 26]) (nt:=8) Tryz.f54 λhH hA=> ?_;simp only[bk,SU];have gz:∀(L:List aa)(j:Nat),(H++L)[H.length+j]?=L[j]?:=λL j=>aW H L j;have vG:∀(L:List aa)(j:Nat)(y:aa),(H++L).set (H.length+j) y=H++L.set j y:=λL j y=>dL H L j y;have aS:∀(L:List aa),(H++L)[H.length]?=L[0]?:=λL=>aW H L 0;have de:∀(L:List aa)(y:aa),(H++L).set H.length y=H++L.set 0 y:=λL y=>dL H L 0 y;refine aj ?_;refine aj ?_;refine aH ((ajh (λX=> ?_)));simp only[SC,Vp,UN];have kF:∀(L:List aa),(H++L)[H.length+2]?=L[2]?:=λL=>aW H L 2;have f_:∀(L:List aa)(y:aa),(H++L).set (H.length+2) y=H++L.set 2 y:=λL y=>dL H L 2 y;have rY:∀(L:List aa),(H++L)[H.length+3]?=L[3]?:=λL=>aW H L 3;have pY:∀(L:List aa)(y:aa),(H++L).set (H.length+3) y=H++L.set 3 y:=λL y=>dL H L 3 y;have hrx:fP.aC.flatMap aB.l=[iv 12,iv 12,iv 0,iv 2,iv 10,iv 15,iv 2,iv 2]:=rfl;rw[hrx];have e2:H.length+1+1=H.length+2:=rfl;(try simp only[seval,rY,pY,e2]);refine eO 4 ?_;simp only[seval,kF,f_,rY];refine ij _ (cC (rP (a:=15) (b:=15) (c:=0) (d:=0) ⟨rfl,rfl⟩)) ?_;(try simp only[seval,aB.av,aB.l,kF,f_]);obtain⟨rs,DI⟩:∃rs,rs=uq.aC.flatMap aB.l:=⟨_,rfl⟩;have ams:[AV.val (SF SD 15),AV.val (SF SD 15),AV.val (SF SD 0),AV.val (SF SD 0),AV.val (SF SD 10),AV.val (SF SD 15),AV.val (SF SD 2),AV.val (SF SD 2)]=rs:=by rw[DI];rfl
 have t_:rs.length=8:=by rw[DI];rfl
 rw[ams];refine ah ?_;simp only[seval,aS,de,rY]
 (repeat apply gp);refine Jn (id:=H.length+2) (by simp only[seval,kF]<;>rfl) ?_
 simp only[seval,f_,t_]
 (repeat apply gp);refine Jo (id:=H.length) (j:=5) (y:=aT uq.aC) (by simp only[seval,aS]<;>rfl) rfl ?_ ?_
 ·have e:aT uq.aC=.sl 2 (rs.take 8) .shut:=by rw[SV (by omega),DI];rfl
  rw[e];exact IH (p:=8) (by simp only[seval,kF]<;>rfl) (by omega) (by omega)
 (try simp only[seval,de]);refine pC ?_;simp only[seval,aS];refine iH hH (b:=uq.av) (O1 (.cons (Wk.refl _) (.cons (Wk.refl _) (.cons (Wk.refl _) (.cons (e9 _ _ _) (.cons (e9 _ _ _) (.cons (Wk.refl _) .nil))))))) (by rw[HI];trivial) hk
end
open Go.Gg.Tk
theorem zv:fP.Ok:=by
 refine⟨by decide,by decide,by decide,by decide,by decide,by decide,λs hs=> ?_,λy hy=> ?_,λy hy=> ?_⟩
 ·simp only[fP,S9]at hs;subst hs;exact⟨by decide,by decide,by decide,by decide⟩
 ·simp only[fP,SK,SZ,or_false]at hy;rcases hy with rfl|rfl|rfl<;>exact⟨⟨by decide,by decide,by decide⟩,⟨by decide,by decide,by decide⟩⟩
 ·simp only[fP,SK,SZ,or_false]at hy;rcases hy with rfl|rfl<;>exact⟨⟨by decide,by decide,by decide⟩,⟨by decide,by decide,by decide⟩⟩
theorem aoN:uq.Ok:=by
 refine⟨by decide,by decide,by decide,by decide,by decide,by decide,λs hs=> ?_,λy hy=> ?_,λy hy=> ?_⟩
 ·simp only[uq,fP,S9]at hs;subst hs;exact⟨by decide,by decide,by decide,by decide⟩
 ·simp only[uq,fP,SK,SZ,or_false]at hy;rcases hy with rfl|rfl|rfl<;>exact⟨⟨by decide,by decide,by decide⟩,⟨by decide,by decide,by decide⟩⟩
 ·simp only[uq,SK,SZ,or_false]at hy;rcases hy with rfl|rfl<;>exact⟨⟨by decide,by decide,by decide⟩,⟨by decide,by decide,by decide⟩⟩
theorem aiy:cnt fP=4:=by kernel_rfl
theorem aiB:live fP=[[10,11,13,14],[10,11,13,15],[10,12,13,14],[10,12,13,15]]:=by kernel_rfl
theorem aiz:(cg fP).head?=some ⟨[10,11,13,14],[12,11,13],[0,2]⟩:=by kernel_rfl
theorem aiC:xX (Ep fP 2) 10 16=[13,14]:=by kernel_rfl
theorem QY:ut fP 0 0=true/\Ev fP 0 0=false:=by decide+kernel
theorem QW:F8 uq=some [0]:=by kernel_rfl
theorem aiw:z8 (fP.wo [1]) ⟨⟨10,15⟩,⟨2,2⟩⟩ 0 3=1:=by kernel_rfl
open Go.Conc Go.Proofs
theorem Tk.Bounds.of_map{l:List (List Int)}{g:List Int->List Int}{v w:List Int->Int}{a b:Int}(h:Bounds (l.map g) v a b)(e:∀y∈l,v (g y)=w y):Bounds l w a b:=by
 obtain⟨g1,m1,e1⟩:=h.Hv;obtain⟨g2,m2,e2⟩:=h.Hu;obtain⟨y1,n1,rfl⟩:=Tm.1 m1;obtain⟨y2,n2,rfl⟩:=Tm.1 m2;exact⟨⟨y1,n1,e1.trans (e y1 n1)⟩,λy hy=>by rw[<- e y hy];exact h.le _ (Tm.2 ⟨y,hy,rfl⟩),⟨y2,n2,e2.trans (e y2 n2)⟩,λy hy=>by rw[<- e y hy];exact h.ge _ (Tm.2 ⟨y,hy,rfl⟩)⟩
theorem apc{h:List Int}{i:Nat}(hi:i<h.length):(cO h).getD i 0=h.getD i 0:=by
 unfold cO;rw[SE,SE,SY hi]
theorem anQ{x:ak}{h:List Int}(hm:h∈live x):h.length=1+x.hours.toNat:=LP (Uy.1 hm).1
theorem apE{x:ak}{D:Kn}(hx:x.Ok)(hD:fS x 0 D)(hh:D.has=true){hs:List (List Int)}(hp:hs.Perm D.aM)(v:List Int->Int)(w:List Int->Int)(e:∀y∈live x,v (cO y)=w y):Bounds (live x) w (hs.foldl (λb h=>b.add (v h)) (⟨0,0,false⟩:io)).lo (hs.foldl (λb h=>b.add (v h)) (⟨0,0,false⟩:io)).hi:=by
 have dz:=hp.trans (abu hx hD);have aG:hs≠[]:=λh=>by
  rw[h]at dz;have:=dz.length_eq;rw[Ta]at this;have h0:live x=[]:=UI this.symm;rw[(y8 hx hD).2 (abN.1 h0)]at hh;cases hh
 exact((ag7 v aG).aoW dz).of_map e
theorem Ni{x:ak}{deep:Int}{D:Kn}(hx:x.Ok)(hD:fS x deep D)(hh:D.has=true):cg x≠[]:=λh=>by
 rw[(y8 hx hD).2 h]at hh;cases hh
theorem abX{α:Type}{f:Nat->α}{l:List α}{n:Nat}(d:α)(hl:l.length=n)(h:∀i,i<n->f i=l.getD i d):(S0 n).map f=l:=by
 refine Yp λi=> ?_;rw[To];by_cases hi:i<n
 ·rw[XC hi,UU,h i hi,SE,SX (by omega)];rfl
 ·rw[Ux (by simp;omega),Ux (by omega)];rfl
theorem ah8{x:ak}(hx:x.Ok){u:Tr}(hu:u∈cg x){s:Nat}(hs:s<x.aC.length):(eP u).getD (8+s) 0=((u.bX.getD s 0:Nat):Int):=by
 obtain⟨h1,h2⟩:=xy hx hu;have h3:=(IA hx hu).1;have hh:=hx.hours;have n9:=hx.ey;have h4:=zp (h:=u.bI) (by omega);have cy:s<u.bX.length:=by omega
 have hg:(eP u)[8+s]?=some ((u.bX[s]:Nat):Int):=by
  unfold eP dE lP;have h8:(cO u.bI++((u.aA.map λn=>(n-u.bI.headD 0).toNat).map (λn:Nat=>(n:Int))++TM (4-(u.aA.map λn=>(n-u.bI.headD 0).toNat).length) (-1))).length=8:=by simp[h4];omega
  rw[S_ (by omega),h8,TZ,SY (by simpa using cy),To,SX cy];rfl
 rw[SE,hg,SE,SX cy];rfl
theorem atc{x:ak}{u:Tr}(hu:u∈cg x):u.bI.headD 0=x.first:=by
 obtain⟨h,a,b⟩:=S5.1 hu;rw[zF b];exact(AP _ _ _ (by simp) a).2
theorem ajR{x:ak}(hx:x.Ok){u:Tr}(hu:u∈cg x):(eP u).take (x.hours.toNat+1)=u.bI:=by
 have hl:=(xy hx hu).1;have hh:=hx.hours;have h1:(eP u).take (x.hours.toNat+1)=((eP u).take 4).take (x.hours.toNat+1):=by rw[U9,WB (by omega)]
 rw[h1,J6 hx hu];exact NU (by omega)
theorem ajS{x:ak}(hx:x.Ok){u:Tr}(hu:u∈cg x):tu x (eP u) x.pieces.length=u.aA:=by
 unfold tu;refine abX 0 (xy hx hu).2 λi hi=> ?_;rw[ah5 hx hu hi,atc hu];omega
theorem ajT{x:ak}(hx:x.Ok){u:Tr}(hu:u∈cg x):tw (eP u) x.aC.length=u.bX.map λn:Nat=>(n:Int):=by
 unfold tw;refine abX 0 (by rw[Ta];exact(IA hx hu).1) λi hi=> ?_;have hl:=(IA hx hu).1;rw[ah8 hx hu hi,SE,SE,To,SX (by omega)];rfl
section
variable {H:List aa}{k kp:AV->List aa->Prop}{x:ak}
theorem aiY(hx:x.Ok)(hm:H[0]?=some .main)(hk:k (.aO [iv (cnt x),iv 0]) H):bc true SA 21 H [x.av] k kp:=
 aiX hx hm λD hD=>by rw[count_eq hx hD];exact hk
theorem ajb{hour:Nat}(hx:x.Ok)(hh:(hour:Int)<=x.hours)(hm:H[0]?=some .main)(h0:cg x=[]->k (.aO [.agg [iv 0,iv 0],iv 11]) H)(h1:∀lo hi,cg x≠[]->Bounds (live x) (λh=>h.getD hour 0) lo hi->k (.aO [.agg [iv lo,iv hi],iv 0]) H):bc true SA 36 H [x.av,iv hour] k kp:=
 aja hx hh hm λD hD=>⟨λhn=>h0 ((y8 hx hD).1 hn),λhy hs hp=>h1 _ _ (Ni hx hD hy) (apE hx hD hy hp (λh=>h.getD hour 0) _ λy p_=>apc (by rw[anQ p_];have:=hx.hours;omega))⟩
theorem ai9{q:Nat}(hx:x.Ok)(hq:q<x.pieces.length)(hm:H[0]?=some .main)(h0:cg x=[]->k (.aO [aL [],iv 11]) H)(h1:cg x≠[]->k (.aO [aL (xX (Ep x q) x.first 16),iv 0]) H):bc true SA 34 H [x.av,iv q] k kp:=
 ai8 hx hq hm λD hD=>⟨λhn=>h0 ((y8 hx hD).1 hn),λhy=>by rw[abJ λn _=>aoK hx hD hq n];exact h1 (Ni hx hD hy)⟩
theorem ai5{s q:Nat}(hx:x.Ok)(hs:s<x.aC.length)(hq:q<x.pieces.length)(hm:H[0]?=some .main)(hk:k (.aO [iv (if(cg x).isEmpty then 0 else vM (ut x s q) (Ev x s q)),iv (if(cg x).isEmpty then 11 else 0)]) H):bc true SA 28 H [x.av,iv s,iv q] k kp:=
 ai4 hx hs hq hm λD hD=>by rw[apf hx hD hs,agN hx hD];exact hk
def CO (x:ak)(i:Nat):List Int:=(S0 i).flatMap λs=>if 1<(xX (ut x s) 0 16).length then[-1]else xX (ut x s) 0 16
theorem ai1(hx:x.Ok)(hm:H[0]?=some .main)(h0:cg x=[]->k (.aO [aL [],iv 11]) H)(h1:cg x≠[]->k (.aO [aL (CO x x.aC.length),iv 0]) H):bc true SA 26 H [x.av] k kp:=
 ai0 hx hm λD hD=>⟨λhn=>h0 ((y8 hx hD).1 hn),λhy=>by
  have e:u7 D.aX x.aC.length=CO x x.aC.length:=by
   unfold u7 CO;refine u6 λs hs=> ?_;rw[abJ λn _=>NV hx hD (TW.1 hs) n]
  rw[e];exact h1 (Ni hx hD hy)⟩
theorem Q8(hx:x.Ok)(hm:H[0]?=some .main)(h0:cg x=[]->k (.aO [aL [],aL [],aL [],iv 11]) H)(h1:∀u l,cg x=u::l->k (.aO [aL u.bI,aL u.aA,aL (u.bX.map λn:Nat=>(n:Int)),iv 0]) H):bc true SA 18 H [x.av] k kp:=
 aiW hx hm λD hD=>⟨λhn=>h0 ((y8 hx hD).1 hn),λhy=>by
  obtain⟨u,l,e1,e2⟩:=am5 hx hD hy;have hu:u∈cg x:=by rw[e1];simp
  rw[e2,ajR hx hu,ajS hx hu,ajT hx hu];exact h1 u l e1⟩
end
section
variable {lv:Bool}{H:List aa}{k kp:AV->List aa->Prop}
end
end Go.Gg
namespace Go.Gg.Tk
theorem zb{h pre:List Int}(hp:pre≠[])(ht:h.take pre.length=pre):pre.getLastD 0=h.getD (pre.length-1) 0:=by
 have hl:0<pre.length:=VW.2 hp;have e:pre[pre.length-1]?=h[pre.length-1]?:=by
  have:(h.take pre.length)[pre.length-1]?=pre[pre.length-1]?:=by rw[ht]
  rw[<- this,Uj,if_pos (by omega)]
 rw[SE,<- e,Vv,Yv]
def Good (x:ak)(k:Nat)(h:List Int):Prop:=∀j,k<=j->j<h.length->mR x j (h.getD j 0)=true/\(j+1<h.length->∃n:Nat,n<x.am.toNat+1/\h.getD (j+1) 0=h.getD j 0+n)
theorem BF{h pre:List Int}{v:Int}:h.take (pre.length+1)=pre++[v]<->h.take pre.length=pre/\pre.length<h.length/\h.getD pre.length 0=v:=by
 constructor
 ·intro e;have hl:pre.length+1<=h.length:=by
   have:=congrArg Ze e;rw[TC,SL,TG]at this;omega
  have h1:=congrArg (Uh pre.length) e;rw[U9,TB (SP _),Tp,WB (by omega)]at h1;refine⟨h1,by omega,?_⟩;have h2:(h.take (pre.length+1))[pre.length]?=(pre++[v])[pre.length]?:=by rw[e]
  rw[Uj,if_pos (by omega),S_ (SP _),Vl]at h2;rw[SE,h2];rfl
 ·rintro⟨h1,h2,h3⟩
  rw[Uq,h1];congr 1;rw[SE,SX h2]at h3;rw[SX h2,<- h3];rfl
theorem LO{x:ak}:∀(d:Nat)(pre h:List Int),pre≠[]->(h∈jo x d pre<->h.length=pre.length+d/\h.take pre.length=pre/\Good x (pre.length-1) h)
 |0,pre,h,hp=>by
  have hl:0<pre.length:=VW.2 hp;unfold jo;constructor
  ·intro hm;split at hm
   ·rename_i hs;rw[S9]at hm;subst hm;refine⟨rfl,Tp,λj h1 h2=> ?_⟩;have:j=h.length-1:=(by omega);subst this;rw[zb hp Tp]at hs;exact⟨hs,λh=>by omega⟩
   ·cases hm
  ·rintro⟨h1,h2,h3⟩
   have e:h=pre:=(by rw[<- h2,SV (by omega)]);subst e;have:=(h3 (h.length-1) (SP _) (by omega)).1;rw[<- zb hp Tp]at this;rw[if_pos this];simp
 |d+1,pre,h,hp=>by
  have hl:0<pre.length:=VW.2 hp;unfold jo;constructor
  ·intro hm;split at hm
   ·rename_i hs;obtain⟨n,hn,hm⟩:=S5.1 hm;rw[LO d _ h (by simp)]at hm;obtain⟨h1,h2,h3⟩:=hm;rw[SL,TG]at h1 h2 h3;obtain⟨h4,h5,h6⟩:=BF.1 h2;rw[zb hp h4]at hs h6;refine⟨by omega,h4,λj yJ GL=> ?_⟩;by_cases hj:j=pre.length-1
    ·subst hj;refine⟨hs,λ_=>⟨n,TW.1 hn,?_⟩⟩;rw[show pre.length-1+1=pre.length by omega];exact h6
    ·exact h3 j (by omega) GL
   ·cases hm
  ·rintro⟨h1,h2,h3⟩
   obtain⟨hs,aP⟩:=h3 (pre.length-1) (SP _) (by omega);obtain⟨n,hn,he⟩:=aP (by omega);rw[show pre.length-1+1=pre.length by omega]at he;rw[zb hp h2,if_pos hs];refine S5.2 ⟨n,TW.2 hn,?_⟩;rw[LO d _ h (by simp),SL,TG];exact⟨by omega,BF.2 ⟨h2,by omega,he⟩,λj yJ GL=>h3 j (by omega) GL⟩
theorem aot{h:List Int}(hm:∀j,j+1<h.length->h.getD j 0<=h.getD (j+1) 0):qt h:=by
 induction h with
 |nil=>trivial
 |cons a l ih=>
  cases l with
  |nil=>trivial
  |cons b l=>
   refine⟨?_,ih λj hj=> ?_⟩
   ·have:=hm 0 (by simp);simpa using this
   ·have:=hm (j+1) (by simp at hj⊢;omega);simpa using this
theorem aed{n:Int}:∀(h:List Int)(i:Nat),qt h->(0<=fG i h n<->h.headD 0<=n/\n<h.getLastD 0)
 |[],i,_=>by simp[fG]<;>omega
 |[a],i,_=>by simp[fG]<;>omega
 |a::b::l,i,hm=>by
  obtain⟨h1,h2⟩:=hm;have ih:=aed (n:=n) (b::l) (i+1) h2;have vw:(a::b::l).getLastD 0=(b::l).getLastD 0:=by simp[Zx]
  rw[vw];unfold fG;split
  ·rename_i h;have cR:b<=(b::l).getLastD 0:=ab4 h2;constructor
   ·intro _;exact⟨h.1,by omega⟩
   ·intro _;omega
  ·rename_i h;rw[ih];have e1:(a::b::l).headD 0=a:=rfl;have e2:(b::l).headD 0=b:=rfl;rw[e1,e2];omega
where
 ab4 {b:Int}:∀{l:List Int},qt (b::l)->b<=(b::l).getLastD 0
  |[],_=>by simp
  |c::l,hm=>by
   obtain⟨h1,h2⟩:=hm;have:=ab4 h2;have e:(b::c::l).getLastD 0=(c::l).getLastD 0:=(by simp[Zx]);rw[e];omega
theorem aeh{h:List Int}{n:Int}(hm:qt h):0<=jz h n<->h.headD 0<=n/\n<h.getLastD 0:=aed h 0 hm
theorem aef{n:Int}:∀(h:List Int)(i:Nat),0<=fG i h n->fG i h n+1<i+h.length
 |[],i,h=>by simp[fG]at h
 |[a],i,h=>by simp[fG]at h
 |a::b::l,i,h=>by
  unfold fG at h⊢;split
  ·simp;omega
  ·rename_i hn;rw[if_neg hn]at h;have:=aef (b::l) (i+1) h;simp at this⊢;omega
theorem ajW{h:List Int}{y:aB}{n:Int}(hm:qt h)(hf:fits h y n=true):n∈Eo h:=by
 unfold fits at hf;simp only[Tg,decide_eq_true_eq]at hf;obtain⟨h1,h2⟩:=(aeh hm).1 hf.1.1;unfold Eo;refine Tm.2 ⟨(n-h.headD 0).toNat,TW.2 (by omega),by omega⟩
theorem RR{α:Type}[DecidableEq α]{l:List α}{d:α}{i:Nat}(hi:i<l.length):l.Nodup->l.getD i d∉l.take i:=λhn hm=>by
 obtain⟨j,hj⟩:=U6 hm;rw[Uj]at hj;split at hj
 ·rename_i cx;rw[SE,SX hi,SX (by omega)]at hj;simp only[S7,Tl]at hj;have h2:=Uv.1 hn;exact(Ye.1 h2) j i (by omega) hi cx hj
 ·cases hj
theorem aca{α:Type}{l:List α}{d:α}(h:∀i,i<l.length->l.getD i d∉l.take i):l.Nodup:=by
 rw[Uv,Ye];intro i j hi hj kI e;refine h j hj ?_;rw[SE,SX hj,S7,<- e];exact UW.2 ⟨i,by rw[Uj,if_pos kI,SX hi]⟩
theorem Iy{α:Type}{d:α}{h pre:List α}{v:α}:h.take (pre.length+1)=pre++[v]<->h.take pre.length=pre/\pre.length<h.length/\h.getD pre.length d=v:=by
 constructor
 ·intro e;have hl:pre.length+1<=h.length:=by
   have:=congrArg Ze e;rw[TC,SL,TG]at this;omega
  have h1:=congrArg (Uh pre.length) e;rw[U9,TB (SP _),Tp,WB (by omega)]at h1;refine⟨h1,by omega,?_⟩;have h2:(h.take (pre.length+1))[pre.length]?=(pre++[v])[pre.length]?:=by rw[e]
  rw[Uj,if_pos (by omega),S_ (SP _),Vl]at h2;rw[SE,h2];rfl
 ·rintro⟨h1,h2,h3⟩
  rw[Uq,h1];congr 1;rw[SE,SX h2]at h3;rw[SX h2,<- h3];rfl
theorem HU{h:List Int}(hm:qt h):∀(ys:List aB)(t ns:List Int),ns∈lO h ys t<->ns.length=t.length+ys.length/\ns.take t.length=t/\∀i y,ys[i]?=some y->fits h y (ns.getD (t.length+i) 0)=true/\ns.getD (t.length+i) 0∉ns.take (t.length+i)
 |[],t,ns=>by
  simp only[lO,S9,UA,UJ];constructor
  ·rintro rfl;exact⟨rfl,Tp,λi y hy=>by cases hy⟩
  ·rintro⟨h1,h2,_⟩;rw[<- h2,SV (by omega)]
 |y::ys,t,ns=>by
  simp only[lO,S5,Uy,Tg,T4,Ui];constructor
  ·rintro⟨n,⟨_,hf,ht⟩,fZ⟩
   rw[HU hm ys (t++[n]) ns]at fZ;obtain⟨h1,h2,h3⟩:=fZ;rw[SL,TG]at h1 h2 h3;obtain⟨h4,h5,h6⟩:=(Iy (d:=0)).1 h2;refine⟨by omega,h4,λi z hz=> ?_⟩
   match i,hz with
   |0,hz=>
    cases hz;rw[UJ,h6,h4];refine⟨hf,?_⟩;intro hc;rw[Ut]at ht;simp at ht;exact ht hc
   |i+1,hz=>
    have:=h3 i z hz;rw[show t.length+1+i=t.length+(i+1) by omega]at this;exact this
  ·rintro⟨h1,h2,h3⟩
   obtain⟨hf,hn⟩:=h3 0 y rfl;rw[UJ]at hf hn;rw[h2]at hn;refine⟨ns.getD t.length 0,⟨ajW hm hf,hf,by rw[Ut];simpa using hn⟩,?_⟩;rw[HU hm ys _ ns,SL,TG];refine⟨by omega,(Iy (d:=0)).2 ⟨h2,by omega,rfl⟩,λi z hz=> ?_⟩;have:=h3 (i+1) z hz;rw[show t.length+(i+1)=t.length+1+i by omega]at this;exact this
theorem H9{h ns:List Int}:∀(ss:List aB)(t os:List Nat),os∈nm h ns ss t<->os.length=t.length+ss.length/\os.take t.length=t/\∀i s,ss[i]?=some s->fits h s (ns.getD (os.getD (t.length+i) 0) 0)=true/\os.getD (t.length+i) 0<ns.length/\os.getD (t.length+i) 0∉os.take (t.length+i)
 |[],t,os=>by
  simp only[nm,S9,UA,UJ];constructor
  ·rintro rfl;exact⟨rfl,Tp,λi y hy=>by cases hy⟩
  ·rintro⟨h1,h2,_⟩;rw[<- h2,SV (by omega)]
 |s::ss,t,os=>by
  simp only[nm,S5,Uy,Tg,T4,Ui,TW];constructor
  ·rintro⟨n,⟨hlt,hf,ht⟩,fZ⟩
   rw[H9 ss (t++[n]) os]at fZ;obtain⟨h1,h2,h3⟩:=fZ;rw[SL,TG]at h1 h2 h3;obtain⟨h4,h5,h6⟩:=(Iy (d:=0)).1 h2;refine⟨by omega,h4,λi z hz=> ?_⟩
   match i,hz with
   |0,hz=>
    cases hz;rw[UJ,h6,h4];refine⟨hf,hlt,?_⟩;intro hc;rw[Ut]at ht;simp at ht;exact ht hc
   |i+1,hz=>
    have:=h3 i z hz;rw[show t.length+1+i=t.length+(i+1) by omega]at this;exact this
  ·rintro⟨h1,h2,h3⟩
   obtain⟨hf,hlt,hn⟩:=h3 0 s rfl;rw[UJ]at hf hlt hn;rw[h2]at hn;refine⟨os.getD t.length 0,⟨hlt,hf,by rw[Ut];simpa using hn⟩,?_⟩;rw[H9 ss _ os,SL,TG];refine⟨by omega,(Iy (d:=0)).2 ⟨h2,by omega,rfl⟩,λi z hz=> ?_⟩;have:=h3 (i+1) z hz;rw[show t.length+(i+1)=t.length+1+i by omega]at this;exact this
end Go.Gg.Tk
namespace Go.Gg
open Go.Gg.Tk
namespace Tk
structure Pj (x:ak)(u:Tr):Prop where
 bI:ny x.first x.am u.bI x.hours.toNat
 seen:∀s∈x.seen,gT s.next (u.bI.getD s.hour.toNat 0)=true
 xi:u.aA.length=x.pieces.length
 piece:∀(p:Nat) y,x.pieces[p]?=some y->fits u.bI y (u.aA.getD p 0)=true
 NL:u.aA.Nodup
 zn:u.bX.length=x.aC.length
 own:∀v∈u.bX,v<x.pieces.length
 stub:∀(s:Nat) y,x.aC[s]?=some y->fits u.bI y (u.aA.getD (u.bX.getD s 0) 0)=true
 NT:u.bX.Nodup
theorem _root_.Go.Gg.ny.mono{first am:Int}{l:List Int}{i:Nat}(h:ny first am l i):qt l:=aot λj hj=>(h.step j (by have:=h.len;omega)).1
theorem alu{x:ak}(hx:x.Ok){h:List Int}:h∈aM x<->ny x.first x.am h x.hours.toNat/\∀s∈x.seen,gT s.next (h.getD s.hour.toNat 0)=true:=by
 have hp:=hx.am;unfold aM;rw[LO _ _ _ (by simp)];simp only[TG];constructor
 ·rintro⟨h1,h2,h3⟩
  have h4:=(BF (pre:=[]) (v:=x.first)).1 h2;refine⟨⟨by omega,h4.2.2,λj hj=> ?_⟩,λs hs=> ?_⟩
  ·obtain⟨n,hn,e⟩:=(h3 j (by omega) (by omega)).2 (by omega);omega
  ·have Ha:=(hx.seen s hs).1;have:=(h3 s.hour.toNat (by omega) (by omega)).1;unfold mR at this;have:=Tw.1 this s hs;have e:s.hour=(s.hour.toNat:Int):=(by omega);rw[<- e]at this;simpa using this
 ·rintro⟨h1,h2⟩
  have hl:=h1.len;refine⟨by omega,(BF (pre:=[]) (v:=x.first)).2 ⟨rfl,by simp;omega,h1.head⟩,λj _ hj=>⟨?_,λGL=> ?_⟩⟩
  ·unfold mR;rw[Tw];intro s hs;by_cases e:s.hour=(j:Int)
   ·have:=h2 s hs;rw[show s.hour.toNat=j by omega]at this;rw[this];simp
   ·simp[e]
  ·have:=h1.step j (by omega);exact⟨(h.getD (j+1) 0-h.getD j 0).toNat,by omega,by omega⟩
theorem atd{x:ak}{u:Tr}:u∈cg x<->u.bI∈aM x/\u.aA∈lO u.bI x.pieces []/\u.bX∈nm u.bI u.aA x.aC []:=by
 constructor
 ·intro hu;obtain⟨h,a,b⟩:=S5.1 hu;obtain⟨ns,c,d⟩:=S5.1 b;obtain⟨os,e,rfl⟩:=Tm.1 d;exact⟨a,c,e⟩
 ·rintro⟨a,b,c⟩
  exact S5.2 ⟨u.bI,a,S5.2 ⟨u.aA,b,Tm.2 ⟨u.bX,c,rfl⟩⟩⟩
theorem ako{l:List Nat}{i:Nat}(h:i<l.length):l.getD i 0∈l:=by
 rw[SE,SX h];exact Ww h
theorem abY{x:ak}(hx:x.Ok){u:Tr}:u∈cg x<->Pj x u:=by
 rw[atd,alu hx];constructor
 ·rintro⟨⟨h1,h2⟩,h3,h4⟩
  have hm:=h1.mono;rw[HU hm]at h3;rw[H9]at h4;simp only[UA,Wv]at h3 h4;obtain⟨a1,_,a3⟩:=h3;obtain⟨b1,_,b3⟩:=h4;refine⟨h1,h2,a1,λp y hy=>(a3 p y hy).1,aca (d:=0) λi hi=> ?_,b1,λv hv=> ?_,λs y hy=>(b3 s y hy).1,aca (d:=0) λi hi=> ?_⟩
  ·obtain⟨y,hy⟩:∃y,x.pieces[i]?=some y:=⟨_,SX (by omega)⟩;exact(a3 i y hy).2
  ·obtain⟨i,hi⟩:=U6 hv;have bx:=(SN.1 hi).1;obtain⟨y,hy⟩:∃y,x.aC[i]?=some y:=⟨_,SX (by omega)⟩;have:=(b3 i y hy).2.1;rw[SE,hi]at this;rw[<- a1];exact this
  ·obtain⟨y,hy⟩:∃y,x.aC[i]?=some y:=⟨_,SX (by omega)⟩;exact(b3 i y hy).2.2
 ·intro h;refine⟨⟨h.bI,h.seen⟩,?_,?_⟩
  ·rw[HU h.bI.mono];simp only[UA,Wv];refine⟨h.xi,rfl,λi y hy=>⟨h.piece i y hy,RR ?_ h.NL⟩⟩;have:=(SN.1 hy).1;rw[h.xi];exact this
  ·rw[H9];simp only[UA,Wv];refine⟨h.zn,rfl,λi y hy=> ?_⟩;have hi:=(SN.1 hy).1;have vp:i<u.bX.length:=(by rw[h.zn];exact hi);exact⟨h.stub i y hy,by rw[h.xi];exact h.own _ (ako vp),RR vp h.NT⟩
end Tk
open Go.Gg.Tk
theorem D9{first am:Int}{l:List Int}{i:Nat}(h:ny first am l i):l.getLastD 0=l.getD i 0:=by
 have hl:=h.len;rw[Vv,Yv,SE,hl];rfl
theorem GB{first am:Int}{l:List Int}{i:Nat}(h:ny first am l i):l.headD 0=first:=by
 have hl:=h.len;have:=h.head;cases l with
 |nil=>cases hl
 |cons a l=>exact this
theorem ny.top{first am:Int}{l:List Int}{i:Nat}(h:ny first am l i)(hf:0<=first/\first<=90)(hp:1<=am/\am<=3)(hi:i<=3):∀j,j<=i->first<=l.getD j 0/\l.getD j 0<=first+9:=λj hj=>by
 have h1:=h.ge (by omega) j hj;have:am* (j:Int)<=3* 3:=Yh (by omega) (by omega) (by omega) (by omega);generalize am* (j:Int)=q at h1 this;omega
theorem K4{first am:Int}{l:List Int}{i:Nat}(h:ny first am l i)(hi:1<=i/\i<=3)(hf:0<=first/\first<=90)(hp:1<=am/\am<=3){n:Int}(hn:first<=n/\n<l.getD i 0)(τ:bh):Fp l i n (lY τ l n i):=by
 have hl:=h.len;have hm:=h.mono;have ht:=h.top hf hp hi.2 i (SP _);have hk:=aeg (n:=n) (by omega) (by omega) hm;have h0:0<=jz l n:=(aeh hm).2 (by rw[GB h,D9 h];exact hn);have h1:=aef l 0 h0;have KJ:jz l n+1<l.length:=by have:fG 0 l n=jz l n:=rfl;omega
 have a1:=Cn (τ:=τ) (n:=n) (m:=2) (lo:=0) (hi:=99) (by omega) (by omega);have a2:=Cn (τ:=tick (tick τ)) (n:=jz l n) (m:=1) (lo:=0) (hi:=(i:Int)-1) (by omega) (by omega);refine⟨a1.1,?_,?_⟩
 ·unfold lY;rw[hk];exact a2.1
 ·unfold Tk.fits lY;rw[hk,Tg,Tg,decide_eq_true_eq];exact⟨⟨h0,a1.2⟩,a2.2⟩
variable {pm:Nat}{x:ak}{bI aA bX:List Int}
theorem Made.aaa(h:Made pm x bI aA bX){n:Int}(hn:n∈aA)(τ:bh):Fp bI x.hours n (lY τ bI n x.hours):=by
 have hh:=h.hours;have:=K4 h.GK (by omega) h.first h.am (h.num n hn) τ;rw[Int.toNat_of_nonneg (by omega)]at this;exact this
theorem Ap{l:List Int}{i:Nat}(h:i<l.length):l.getD i 0∈l:=by
 rw[SE,SX h];exact Ww h
theorem Made.PH(h:Made pm x bI aA bX){p:Nat}{y:aB}(hy:x.pieces[p]?=some y):Fp bI x.hours (aA.getD p 0) y:=by
 obtain⟨τ,rfl⟩:=h.piece p y hy;exact h.aaa (Ap (by rw[h.xi];exact(SN.1 hy).1)) τ
theorem Made.PI(h:Made pm x bI aA bX){s:Nat}{y:aB}(hy:x.aC[s]?=some y):Fp bI x.hours (aA.getD (bX.getD s 0).toNat 0) y:=by
 obtain⟨τ,rfl⟩:=h.stub s y hy;have hs:s<bX.length:=by rw[h.zn];exact(SN.1 hy).1
 have:=h.own _ (Ap hs);exact h.aaa (Ap (by omega)) τ
theorem Made.ok(h:Made pm x bI aA bX)(tX:pm<=4):x.Ok:=by
 have hh:=h.hours;refine⟨h.first,h.hours,h.am,by have:=h.zw;omega,by have:=h.aou;omega,h.aC,λs hs=> ?_,λy hy=> ?_,λy hy=> ?_⟩
 ·obtain⟨h1,h2,τ,h3⟩:=h.seen s hs;have ht:=h.GK.top h.first h.am (by omega) s.hour.toNat (by omega);have hf:=h.first;rw[h3];exact⟨⟨h1,h2⟩,(Cn (by omega) (by omega)).1⟩
 ·obtain⟨p,hp⟩:=U6 hy;have:=h.PH hp;exact⟨this.num,this.hour⟩
 ·obtain⟨p,hp⟩:=U6 hy;have:=h.PI hp;exact⟨this.num,this.hour⟩
def acV (bI aA bX:List Int):Tr:=⟨bI,aA,bX.map Yb⟩
theorem Made.as5(h:Made pm x bI aA bX):Pj x (acV bI aA bX):=by
 have hh:=h.hours;have pV:∀s,s<bX.length->(bX.map Yb).getD s 0=(bX.getD s 0).toNat:=λs hs=>by
  rw[SE,SE,To,SX hs];rfl
 refine⟨h.GK,λs hs=> ?_,h.xi,λp y hy=>(h.PH hy).fits,h.NL,by show (bX.map Yb).length=_;rw[Ta];exact h.zn,λv hv=> ?_,λs y hy=> ?_,?_⟩
 ·obtain⟨h1,h2,τ,h3⟩:=h.seen s hs;have ht:=h.GK.top h.first h.am (by omega) s.hour.toNat (by omega);have hf:=h.first;rw[h3];exact(Cn (by show _<=bI.getD _ _/\_;omega) (by omega)).2
 ·obtain⟨w,hw,rfl⟩:=Tm.1 hv;have:=h.own w hw;have:=h.xi;omega
 ·have hs:s<bX.length:=by rw[h.zn];exact(SN.1 hy).1
  show Tk.fits bI y (aA.getD ((bX.map Yb).getD s 0) 0)=true;rw[pV s hs];exact(h.PI hy).fits
 ·show (bX.map Yb).Nodup;rw[Uv,XA];refine Xy ?_ (Uv.1 h.NT);intro a c ha hc aG e;have h1:=h.own a ha;have h2:=h.own c hc;omega
theorem Made.mem(h:Made pm x bI aA bX)(tX:pm<=4):acV bI aA bX∈cg x:=(abY (h.ok tX)).2 h.as5
theorem Made.ne(h:Made pm x bI aA bX)(tX:pm<=4):cg x≠[]:=λe=>by
 have:=h.mem tX;rw[e]at this;cases this
variable {x:ak}
namespace Tk
end Tk
variable {x:ak}
open Go.Gg.Tk
variable {x:ak}
namespace Tk
def EI (x:ak)(p:Nat)(y:aB):ak:={x with pieces:=x.pieces.set p y}
end Tk
variable {x:ak}
open Go.Conc Go.Proofs Go.Gg.Tk
theorem adr{ys:List aB}{p:Nat}{y:aB}{s:Nat}{l:List AV}(hp:p<ys.length)(e:y.l=l):Uh (p* 4) (ys.flatMap aB.l)++l++T5 (p* 4+4) (ys.flatMap aB.l)=(ys.set p y).flatMap aB.l:=by
 subst e;rw[XQ,if_pos hp,Un,T1,KC aB.len,show p* 4+4=(p+1)* 4 by omega,ye aB.len,SC]
theorem arw{ys:List aB}{p:Nat}{y:aB}(hy:ys[p]?=some y)(a b:Int):Uh (p* 4+0) (ys.flatMap aB.l)++[iv a,iv b]++T5 (p* 4+0+2) (ys.flatMap aB.l)=(ys.set p ⟨⟨a,b⟩,y.hour⟩).flatMap aB.l:=by
 obtain⟨hp,rfl⟩:=SN.1 hy;rw[<- adr (s:=0) (p:=p) (y:=⟨⟨a,b⟩,ys[p].hour⟩) hp rfl];have e:T5 (p* 4+2) (ys.flatMap aB.l)=iv ys[p].hour.min::iv ys[p].hour.max::T5 (p* 4+4) (ys.flatMap aB.l):=by
  have h1:T5 (p* 4) (ys.flatMap aB.l)=ys[p].l++T5 (p* 4+4) (ys.flatMap aB.l):=by
   rw[ye aB.len,show p* 4+4=(p+1)* 4 by omega,ye aB.len,TY hp,T1]
  rw[<- ap_,h1];rfl
 rw[UJ,e];simp[aB.l,iS.l]
section
variable {lv:Bool}{P:SI}{r:Option Nat}
theorem agp{nt:Nat}{c:Ub}{T:List (Nat×AV)}{H:List aa}{A' o6 j cap:Nat}{ps:List aB}{l:List AV}{el:TypeId}{Φ:an->AS->Prop}(h1:H[A']?=some (.own 4 (ps.flatMap aB.l) 48))(h2:H[o6]?=some (.cells l el))(aG:A'≠o6)(h3:l[j]?=some (.bz A' 0 ps.length cap))(h:aQ lv P r nt c ⟨T,(H.set A' (.part (ps.length* 4) (ps.flatMap aB.l) 48)).set o6 (.cells (l.set j (aT ps)) el)⟩ Φ):aQ lv P r nt c ⟨T,H⟩ Φ:=by
 have hl:(ps.flatMap aB.l).length=ps.length* 4:=ze aB.len _;refine agq (id:=A') h1 ?_;have hlt:=(SN.1 h1).1;refine Jo (id:=o6) (j:=j) (y:=aT ps) (el:=el) (by rw[Uc aG];exact h2) h3 ?_ ?_
 ·have e:aT ps=.sl ps.length ((ps.flatMap aB.l).take (ps.length* 4)) .shut:=by rw[SV (by omega)];rfl
  rw[e];exact IH (p:=(ps.flatMap aB.l).length) (l:=ps.flatMap aB.l) (el:=48) (by rw[UV,if_pos rfl,if_pos hlt]) (by omega) (by omega)
 ·rw[hl];exact h
end
def we (i:Int)(y:aB):Prop:=sT y.number 99/\sT y.hour (i-1)
theorem arv{ys:List aB}{p:Nat}{y:aB}(hy:ys[p]?=some y)(a b:Int):Uh (p* 4+2) (ys.flatMap aB.l)++[iv a,iv b]++T5 (p* 4+2+2) (ys.flatMap aB.l)=(ys.set p ⟨y.number,⟨a,b⟩⟩).flatMap aB.l:=by
 obtain⟨hp,rfl⟩:=SN.1 hy;rw[<- adr (s:=0) (p:=p) (y:=⟨ys[p].number,⟨a,b⟩⟩) hp rfl];have e:Uh (p* 4+2) (ys.flatMap aB.l)=Uh (p* 4) (ys.flatMap aB.l)++[iv ys[p].number.min,iv ys[p].number.max]:=by
  have h1:T5 (p* 4) (ys.flatMap aB.l)=ys[p].l++T5 (p* 4+4) (ys.flatMap aB.l):=by
   rw[ye aB.len,show p* 4+4=(p+1)* 4 by omega,ye aB.len,TY hp,T1]
  rw[List.take_add,h1];rfl
 rw[e,show p* 4+2+2=p* 4+4 from rfl];simp[aB.l,iS.l]
section
variable {lv:Bool}{Gf:bh->List aa}{t N:Nat}{b:Int}
theorem aiR{i mn np ns c:Nat}{first am:Int}{sv pv Ew El pP:AV}{gP:List aa}{dp:List aB}{ρ:bh}{zc:aa}{YY:List AV->Nat->Nat->Nat->List aa}{Φ:an->AS->Prop}(hT:dO Gf t N)(hY:YW Gf N zc YY)(yE:gP.length=np)(hb:b<2^10)(oV:0<=first/\first<=90)(n3:mn<=9)(iL:ns<=3)(cy:dp.length=ns)(pZ:∀y∈dp,we i y)(hρ:ρ.Ok (b+97))
  (hk:∀zD ρ',zD.length=ns->(∀y∈zD,we i y)->ρ'.Ok (b+100)->aQ lv SA none 240 (lq 13 oI) ⟨[(16,Ew),(15,El),(13,iv mn),(11,pP),(10,.op (N+1) 0),(6,.op N 0),(0,.op t 0),(2,bv false)],Gf ρ'++(YY [iv first,iv i,iv am,sv,pv,fF (N+6+np) ns] c np ns++(gP++gO ns (fO zD)))⟩ Φ):
  aQ lv SA none 240 (lq 12 oI) ⟨[(16,Ew),(15,El),(13,iv mn),(11,pP),(10,.op (N+1) 0),(6,.op N 0),(0,.op t 0),(2,bv false)],Gf ρ++(YY [iv first,iv i,iv am,sv,pv,fF (N+6+np) ns] c np ns++(gP++gO ns (fO dp)))⟩ Φ:=by
 obtain⟨vd,rU,y0,y1,y3,y4,y5,nv,zJ,BN,BO,qG,tH,de⟩:=hY;have jO:∀L:List aa,dO (λτ=>Gf τ++L) t (N+L.length):=λL=>hT.more L;have w1:∀τ r c d e X m,(Gf τ++(YY r c d e++(gP++X)))[N+6+np+m]?=X[m]?:=λτ r c d e X m=>by rw[U7 (N+6),qG,S_ (by omega),yE,TZ]
 have v1:∀τ r c d e X m y,(Gf τ++(YY r c d e++(gP++X))).set (N+6+np+m) y=Gf τ++(YY r c d e++(gP++X.set m y)):=λτ r c d e X m y=>by rw[U7 (N+6),tH,Ud _ _ (by omega),yE,TZ]
 unfold oI WW at hk⊢;dsimp only[S7,lq,cs,cf]at hk⊢;rcases UL ns with h0|h0
 ·subst h0;have e0:fF (N+6+np) 0=.sl 0 [] .exact:=rfl;simp only[e0]at hk⊢;refine ah ?_;simp only[seval,y1];refine ah ?_;simp only[seval,decide_false,show decide ((0:Int)>0)=false from rfl];refine aD ?_;refine aK ?_;refine iG ?_ (hk dp ρ cy pZ (hρ.mono (by omega)));exact dY (by simp only[seval];simp[a_,Wk.refl]) rfl
 ·obtain⟨n2,qR⟩:∃n2,ns=n2+1:=⟨ns-1,by omega⟩;have DJ:fF (N+6+np) ns=.bz (N+6+np+n2) 0 ns 0:=by rw[qR];rfl
  have vo:∀o,(gO ns o)[n2]?=some o:=λo=>by rw[qR];have:=CK n2 o [];rwa [SO]at this
  have vH:∀o o',(gO ns o).set n2 o'=gO ns o':=λo o'=>by rw[qR];have:=CL n2 o o' [];rwa [SO,SO]at this
  have hd:decide ((ns:Int)>0)=true:=by simp;omega
  rw[DJ];simp only[DJ]at hk;refine ah ?_;simp only[seval,y1];refine ah ?_;simp only[seval,hd];refine aH ((F2 (n:=3) (jO _) hρ (by omega) (by decide) ?_));(try simp only[seval]);refine aD ?_;refine⟨λhc=> ?_,λhc=> ?_⟩
  ·have bJ:SD.wrap ((ns:Int)-1)=(ns:Int)-1:=br _ (by omega);have eS:SD.wrap (first+(mn:Int))=first+(mn:Int):=br _ (by omega)
   have r1:=lS (tick ρ) ((ns:Int)-1);refine ah ?_;simp only[seval,bJ];refine aH ((pF (n:=(ns:Int)-1) (jO _) hρ.tick (by omega) (by omega) ?_));obtain⟨q,hq⟩:∃q:Nat,dg (tick ρ) ((ns:Int)-1)=q:=⟨(dg (tick ρ) ((ns:Int)-1)).toNat,by omega⟩;rw[hq];have vC:q<ns:=(by omega);(try simp only[seval]);refine ah ?_;simp only[seval,y1,eS];have r2:=aev (tick (tick ρ)) (show first<=first+(mn:Int) by omega);refine aH ((Q_ (lo:=first) (hi:=first+(mn:Int)) (jO _) hρ.tick.tick (by omega) (by omega) (by omega) ?_));generalize BL (tick (tick ρ)) first (first+(mn:Int))=a at r2⊢
   (try simp only[seval]);obtain⟨y,hy⟩:=bK (xs:=dp) (i:=q) (by omega);have Hm:=pZ y (S8 hy);have yS:=arw hy a a;simp only[iv]at yS;have oS:(0<=(q:Int)/\(q:Int)<(ns:Int))=True:=(by simp;omega);unfold fO at hk⊢;refine ah ?_;simp only[seval,y1,w1,v1,vo,vH,oS];refine⟨by rw[ze aB.len];omega,?_⟩;rw[yS];have ub:∀z∈dp.set q ⟨⟨a,a⟩,y.hour⟩,we i z:=λz hz=>by
    rcases UF hz with hz|rfl
    ·exact pZ z hz
    ·exact⟨⟨by show 0<=a;omega,Xr a,by show a<=99;omega⟩,Hm.2⟩
   refine iG ?_ (hk (dp.set q ⟨⟨a,a⟩,y.hour⟩) (tick (tick (tick ρ))) (by rw[TJ];exact cy) ub (hρ.tick.tick.tick.mono (by omega)));exact dY (by simp only[seval];simp[a_,Wk.refl]) rfl
  ·refine aK ?_;refine iG ?_ (hk dp (tick ρ) cy pZ (hρ.tick.mono (by omega)));exact dY (by simp only[seval];simp[a_,Wk.refl]) rfl
theorem aiP{i mn np ns c:Nat}{first am:Int}{sv tv Ew El pP:AV}{gS:List aa}{dp:List aB}{ρ:bh}{zc:aa}{YY:List AV->Nat->Nat->Nat->List aa}{Φ:an->AS->Prop}(hT:dO Gf t N)(hY:YW Gf N zc YY)(hb:b<2^10)(hi:1<=i/\i<=3)(iL:np<=4)(cy:dp.length=np)(pZ:∀y∈dp,we i y)(hρ:ρ.Ok (b+100))
  (hk:∀zD ρ',zD.length=np->(∀y∈zD,we i y)->ρ'.Ok (b+110)->aQ lv SA none 240 (lq 14 oI) ⟨[(16,Ew),(15,El),(13,iv mn),(11,pP),(10,.op (N+1) 0),(6,.op N 0),(0,.op t 0),(2,bv false)],Gf ρ'++(YY [iv first,iv i,iv am,sv,fF (N+6) np,tv] c np ns++(gO np (fO zD)++gS))⟩ Φ):
  aQ lv SA none 240 (lq 13 oI) ⟨[(16,Ew),(15,El),(13,iv mn),(11,pP),(10,.op (N+1) 0),(6,.op N 0),(0,.op t 0),(2,bv false)],Gf ρ++(YY [iv first,iv i,iv am,sv,fF (N+6) np,tv] c np ns++(gO np (fO dp)++gS))⟩ Φ:=by
 obtain⟨vd,rU,y0,y1,y3,y4,y5,nv,zJ,BN,BO,qG,tH,de⟩:=hY;have jO:∀L:List aa,dO (λτ=>Gf τ++L) t (N+L.length):=λL=>hT.more L;unfold oI WW at hk⊢;dsimp only[S7,lq,cs,cf]at hk⊢;rcases UL np with h0|h0
 ·subst h0;have e0:fF (N+6) 0=.sl 0 [] .exact:=rfl;simp only[e0]at hk⊢;refine ah ?_;simp only[seval,y1];refine ah ?_;simp only[seval,decide_false,show decide ((0:Int)>0)=false from rfl];refine aD ?_;refine aK ?_;refine iG ?_ (hk dp ρ cy pZ (hρ.mono (by omega)));exact dY (by simp only[seval];simp[a_,Wk.refl]) rfl
 ·obtain⟨n2,qR⟩:∃n2,np=n2+1:=⟨np-1,by omega⟩;have DJ:fF (N+6) np=.bz (N+6+n2) 0 np 0:=by rw[qR];rfl
  have vo:∀o,(gO np o++gS)[n2]?=some o:=λo=>by rw[qR];exact CK n2 o gS
  have vH:∀o o',(gO np o++gS).set n2 o'=gO np o'++gS:=λo o'=>by rw[qR];exact CL n2 o o' gS
  have hd:decide ((np:Int)>0)=true:=by simp;omega
  rw[DJ];simp only[DJ]at hk;refine ah ?_;simp only[seval,y1];refine ah ?_;simp only[seval,hd];refine aH ((F2 (n:=4) (jO _) hρ (by omega) (by decide) ?_));(try simp only[seval]);refine aD ?_;refine⟨λhc=> ?_,λhc=> ?_⟩
  ·have bJ:SD.wrap ((np:Int)-1)=(np:Int)-1:=br _ (by omega);have eS:SD.wrap (i-1)=i-1:=br _ (by omega);have r1:=lS (tick ρ) ((np:Int)-1);refine ah ?_;simp only[seval,bJ];refine aH ((pF (n:=(np:Int)-1) (jO _) hρ.tick (by omega) (by omega) ?_));obtain⟨q,hq⟩:∃q:Nat,dg (tick ρ) ((np:Int)-1)=q:=⟨(dg (tick ρ) ((np:Int)-1)).toNat,by omega⟩;rw[hq];have vC:q<np:=(by omega);(try simp only[seval]);have r2:=lS (tick (tick ρ)) (i-1);refine ah ?_;simp only[seval,y1,eS];refine aH ((pF (n:=i-1) (jO _) hρ.tick.tick (by omega) (by omega) ?_));generalize dg (tick (tick ρ)) (i-1)=a at r2⊢;(try simp only[seval]);obtain⟨y,hy⟩:=bK (xs:=dp) (i:=q) (by omega);have Hm:=pZ y (S8 hy);have yS:=arv hy a a;simp only[iv]at yS;have oS:(0<=(q:Int)/\(q:Int)<(np:Int))=True:=(by simp;omega);unfold fO at hk⊢;refine ah ?_;simp only[seval,y1,qG,tH,vo,vH,oS];refine⟨by rw[ze aB.len];omega,?_⟩;rw[yS];have ub:∀z∈dp.set q ⟨y.number,⟨a,a⟩⟩,we i z:=λz hz=>by
    rcases UF hz with hz|rfl
    ·exact pZ z hz
    ·exact⟨Hm.1,⟨by show 0<=a;omega,Xr a,by show a<=i-1;omega⟩⟩
   refine iG ?_ (hk (dp.set q ⟨y.number,⟨a,a⟩⟩) (tick (tick (tick ρ))) (by rw[TJ];exact cy) ub (hρ.tick.tick.tick.mono (by omega)));exact dY (by simp only[seval];simp[a_,Wk.refl]) rfl
  ·refine aK ?_;refine iG ?_ (hk dp (tick ρ) cy pZ (hρ.tick.mono (by omega)));exact dY (by simp only[seval];simp[a_,Wk.refl]) rfl
end
section
variable {lv:Bool}{P:SI}{r:Option Nat}
theorem PP{nt:Nat}{c:Ub}{T:List (Nat×AV)}{Φ:an->AS->Prop}{P0 Q0:List aa}{M n o6 j:Nat}{l:List aB}{cl:List AV}(hM:P0.length=M)(hl:l.length=n)(LK:P0[o6]?=some (.cells cl 26))(hj:cl[j]?=some (fF M n))(h:∀G',G'.length=n->aQ lv P r nt c ⟨T,P0.set o6 (.cells (cl.set j (aT l)) 26)++(G'++Q0)⟩ Φ):aQ lv P r nt c ⟨T,P0++(gO n (fO l)++Q0)⟩ Φ:=by
 have hlt:=(SN.1 LK).1
 match n,hl with
 |0,hl=>
  obtain rfl:l=[]:=UI hl;refine Jo (id:=o6) (j:=j) (y:=aT []) (el:=26) (l:=cl) (x:=.sl 0 [] .exact) ?_ hj (zY.of (e9 0 [] .exact)) ?_
  ·show (P0++([]++Q0))[o6]?=_;rw[SY hlt];exact LK
  ·show aQ lv P r nt c ⟨T,(P0++([]++Q0)).set o6 _⟩ Φ;rw[UX _ _ hlt];exact h [] rfl
 |n+1,hl=>
  refine agp (A':=M+n) (o6:=o6) (j:=j) (cap:=0) (ps:=l) (l:=cl) (el:=26) ?_ ?_ (by omega) (by rw[hl];exact hj) ?_
  ·rw[<- hM,S_ (by omega),TZ,CK];rfl
  ·rw[SY hlt];exact LK
  ·rw[Ud _ _ (by omega),<- hM,TZ,CL,UX _ _ hlt];exact h _ (yi _ _)
end
section
variable {lv:Bool}{k kp:AV->List aa->Prop}{Gf:bh->List aa}{t N:Nat}{b:Int}
theorem aiM{i mn np ns c:Nat}{first am:Int}{l aA bX:List Int}{ss:List Seen}{ey dp:List aB}{ρ:bh}{zc:aa}{YY:List AV->Nat->Nat->Nat->List aa}(hT:dO Gf t N)(hH:∀τ,bF (Gf τ))(hY:YW Gf N zc YY)(D2:zc=.cells [.val (.int .i64 0),.val (.int .i64 0),.val (.int .i64 0),.sl 0 [] .exact,.sl 0 [] .exact,.sl 0 [] .exact] 26)(fw:l.length=i+1)(G3:ey.length=np)(iZ:aA.length=np)(n_:dp.length=ns)(qS:bX.length=ns)(hc:ss.length=c)
  (hk:k (.aO [ak.av ⟨first,i,am,ss,ey,dp⟩,aL l,aL aA,aL bX]) (Gf ρ)):
  aQ lv SA none 240 (lq 14 oI) ⟨[(16,.sl ns (bX.map iv) (.opn (N+5))),(15,.sl np (aA.map iv) (.opn (N+4))),(13,iv mn),(11,.sl (i+1) (l.map iv) (.opn (N+2))),(10,.op (N+1) 0),(6,.op N 0),(0,.op t 0),(2,bv false)],Gf ρ++(YY [iv first,iv i,iv am,.sl c (ss.flatMap Seen.l) (.opn (N+3)),fF (N+6) np,fF (N+6+np) ns] c np ns++(gO np (fO ey)++gO ns (fO dp)))⟩ (uF SA [.cell 6 26,.tmp 7,.tmp 8,.tmp 9] N k kp):=by
 have n0:=hY.n0;have zH:=hY.zH;have zI:=hY.zI;obtain⟨vd,rU,y0,y1,y3,y4,y5,nv,zJ,BN,BO,qG,tH,de⟩:=hY;have ME:∀τ (L:List aa)(y:aa),(Gf τ++L).set N y=Gf τ++L.set 0 y:=λτ L y=>by have:=dL (Gf τ) L 0 y;rwa [hT.len]at this
 have MC:∀τ (L:List aa),(Gf τ++L)[N]?=L[0]?:=λτ L=>by have:=aW (Gf τ) L 0;rwa [hT.len]at this
 unfold oI WW;dsimp only[S7,lq,cs,cf];rw[<- SC];refine PP (M:=N+6) (o6:=N+1) (j:=4) (n0 _ _ _ _ _) G3 (zH _ _ _ _ _) rfl λG1 yn=> ?_;rw[zI,<- SC,<- SO (gO ns (fO dp))];refine PP (M:=N+6+np) (o6:=N+1) (j:=5) (cl:=[iv first,iv i,iv am,.sl c (ss.flatMap Seen.l) (.opn (N+3)),aT ey,fF (N+6+np) ns]) (by rw[SL,n0,yn]) n_ (by rw[SC];exact y1 _ _ _ _ _ _) rfl λG2 hG2=> ?_;rw[SC,nv,SC,SC];obtain⟨r2,G8⟩:∃r2,r2=[iv first,iv i,iv am,.sl c (ss.flatMap Seen.l) (.opn (N+3)),aT ey,aT dp]:=⟨_,rfl⟩;rw[show ([iv first,iv i,iv am,.sl c (ss.flatMap Seen.l) (.opn (N+3)),aT ey,fF (N+6+np) ns]:List AV).set 5 (aT dp)=r2 by rw[G8];rfl];have hr6:r2.length=6:=by rw[G8];rfl
 have ek:Uh 6 r2=r2:=SV (by omega);have dV:∀a∈r2,a.leaf=true:=by
  rw[G8];intro a ha;simp only[SK,SZ,or_false]at ha;rcases ha with rfl|rfl|rfl|rfl|rfl|rfl<;>rfl
 have y00:∀τ r c d e G,(Gf τ++(YY r c d e++G))[N]?=some (.cells [.val (.int .i64 0),.val (.int .i64 0),.val (.int .i64 0),.sl 0 [] .exact,.sl 0 [] .exact,.sl 0 [] .exact] 26):=λτ r c d e G=>by rw[y0,D2]
 refine ah ?_;simp only[seval,y1,y00,hr6,ek];refine⟨dV,?_⟩;rw[ME];obtain⟨LL,hLL⟩:=de r2 c np ns (.cells r2 26);rw[UX _ _ (by rw[vd];omega),hLL,Vp];refine pC ?_;simp only[seval,MC,hr6,ek];refine jI (b:=.aO [ak.av ⟨first,i,am,ss,ey,dp⟩,aL l,aL aA,aL bX]) (H':=Gf ρ) (aew ?_ ?_ ?_ ?_) rfl (by simp[hT.len]) (hH _) (by simp only[jV,SK,SZ,or_false,forall_eq_or_imp,forall_eq,HI,zg,and_self]) hk
 ·rw[G8,ak.av];refine O1 (.cons (Wk.refl _) (.cons (Wk.refl _) (.cons (Wk.refl _) (.cons ?_ (.cons (Wk.refl _) (.cons (Wk.refl _) .nil))))));rw[<- hc];exact e9 _ _ _
 ·rw[<- fw];exact e9 _ _ _
 ·rw[<- iZ];exact e9 _ _ _
 ·rw[<- qS];exact e9 _ _ _
end
section
variable {lv:Bool}{k kp:AV->List aa->Prop}{Gf:bh->List aa}{t N:Nat}{τ:bh}{b:Int}
theorem aiO{pm:Nat}(hT:dO Gf t N)(hτ:τ.Ok b)(hb:b<2^10)(tX:pm<=4)(hk:∀(x:ak)(bI aA bX:List Int)(τ':bh),x.Ok->x.pieces.length<=pm->bI.length<=4->aA.length<=4->bX.length<=3->τ'.Ok (b+200)->k (.aO [x.av,aL bI,aL aA,aL bX]) (Gf τ')):bc lv SA 15 (Gf τ) [.op t 0,iv pm,bv false] k kp:=by
 refine bD (rs:=[.cell 6 26,.tmp 7,.tmp 8,.tmp 9]) (nt:=240) WW λhH hA=> ?_;simp only[bk,SU];have vc:∀o:aa,dO (λτ=>Gf τ++[o]) t (N+1):=λo=>hT.more [o];have oc:∀τ (L:List aa)(j:Nat),(Gf τ++L)[N+j]?=L[j]?:=λτ L j=>by rw[<- hT.len τ,aW]
 have dX:∀τ (L:List aa)(j:Nat)(y:aa),(Gf τ++L).set (N+j) y=Gf τ++L.set j y:=λτ L j y=>by rw[<- hT.len τ,dL]
 have MC:∀τ (L:List aa),(Gf τ++L)[N]?=L[0]?:=λτ L=>oc τ L 0;have ME:∀τ (L:List aa)(y:aa),(Gf τ++L).set N y=Gf τ++L.set 0 y:=λτ L y=>dX τ L 0 y;refine aj ?_;refine aj ?_;refine aH ((pF (vc _) hτ (by omega) (by omega) ?_));have r1:=lS τ 90;generalize dg τ 90=u1 at r1⊢;(try simp only[seval,zE4,us]);refine aH ((Kf (ns:=[0,1,10,u1]) (vc _) hτ.tick (by omega) (by simp) (by simp) ?_));have r2:=J4 (tick τ) (ns:=[0,1,10,u1]) (by simp);simp only[SK,SZ,or_false]at r2;generalize wF (tick τ) [0,1,10,u1]=first at r2⊢
 (try simp only[seval]);refine aH ((Q_ (lo:=1) (hi:=3) (vc _) hτ.tick.tick (by omega) (by decide) (by decide) ?_));have r3:=aev (tick (tick τ)) (show (1:Int)<=3 by decide);generalize BL (tick (tick τ)) 1 3=hours at r3⊢;(try simp only[seval,zE4,us]);refine aH ((Kf (ns:=[1,2,2,3]) (vc _) hτ.tick.tick.tick (by omega) (by simp) (by simp) ?_));have r4:=J4 (tick (tick (tick τ))) (ns:=[1,2,2,3]) (by simp);simp only[SK,SZ,or_false]at r4;generalize wF (tick (tick (tick τ))) [1,2,2,3]=am at r4⊢;have oV:0<=first/\first<=90:=by omega
 have w_:1<=am/\am<=3:=by omega
 clear r1 r2 r4;have hσ:(tick (tick (tick (tick τ)))).Ok (b+4):=hτ.tick.tick.tick.tick.mono (by omega);generalize tick (tick (tick (tick τ)))=σ at hσ⊢;(try simp only[seval,hT.len,oc,dX,MC,ME]);refine ah ?_;simp only[seval,oc,z1,ur]
 (repeat apply gp);refine oH (t:=11) (sz:=1) (el:=3) (by simp only[seval]<;>rfl) ?_
 simp only[seval,hT.len]
 (repeat apply gp);refine agx (id:=N+1) (j:=3) (sz:=3) (gX:=61) (by simp only[seval,oc]<;>rfl) rfl ?_
 simp only[seval,dX,hT.len];refine Jm [11,10,6,0,1,2] ?_;show aQ _ _ _ _ _ ⟨[(11,.sl 1 [iv first] (.opn (N+2))),(10,.op (N+1) 0),(6,.op N 0),(0,.op t 0),(1,iv pm),(2,bv false)],_⟩ _;obtain⟨zc,D2⟩:∃zc:aa,zc=.cells [iv 0,iv 0,iv 0,.sl 0 [] .exact,.sl 0 [] .exact,.sl 0 [] .exact] 26:=⟨_,rfl⟩;simp only[iv]at D2;rw[<- D2];obtain⟨hn,hhn⟩:∃hn:Nat,hours=hn:=⟨hours.toNat,by omega⟩;subst hhn;refine aj ?_;refine bU ?_;refine eI hn (λi:Nat=>[(11,.sl (i+1) ((lF σ first am i).1.map iv) (.opn (N+2))),(12,iv i)]) (λi=>Gf (lF σ first am i).2++[zc,.cells [iv first,iv hn,iv am,.sl 0 [] (.opn (N+3)),.sl 0 [] .exact,.sl 0 [] .exact] 26,.tail (i+1) 1 3,.tail 0 3 61]) (λi=>True) (λ_ _=>rfl) (by simp only[lF];simp only[seval];simp[a_,Wk.refl]) rfl (λ_ _ _=>by simp[hT.len]) trivial (λbC bW i cK _ R hR=> ?_)
 ·clear bC bW;have aq:=aaB σ first (am:=am) (by omega) i
  have qX:=aaC hσ first am i
  have dS:lF σ first am (i+1)=((lF σ first am i).1++[(lF σ first am i).1.getD i 0+xw (lF σ first am i).2 am],tick (tick (lF σ first am i).2)):=rfl
  have vn:=aq.ge (by omega) i (SP _);generalize lF σ first am i=m at aq qX dS vn hR⊢
  obtain⟨l,ρ⟩:=m;dsimp only at aq qX dS vn⊢;have fw:=aq.len;refine ah ?_;simp only[seval,oc];refine aD ?_;refine⟨λh=> ?_,λh=> ?_⟩
  ·as_aux_lemma=>
   have bx:i<hn:=(by omega);obtain⟨w,hw⟩:=bK (xs:=l) (i:=i) (by omega);have pN:l.getD i 0=w:=(by rw[SE,hw];rfl);rw[pN]at dS vn;have aP:=adI ρ (am:=am) (by omega);have hsd:xw ρ am=wF (tick ρ) [0,am,dg ρ am]:=rfl;obtain⟨v,hv⟩:∃v,v=xw ρ am:=⟨_,rfl⟩;rw[<- hv]at dS aP hsd;have DW:SD.wrap (w+v)=w+v:=MV (aeu vn aP oV w_ (by omega));have fW:SD.wrap ((i:Int)+1)=((i+1:Nat):Int):=(by rw[br _ (by omega)];rfl);have fu:(0<=(i:Int)/\(i:Int)<(i:Int)+1)=True:=(by simp;omega);have jO:∀L:List aa,dO (λτ=>Gf τ++L) t (N+L.length):=λL=>hT.more L;refine aK ?_;refine bU ?_;obtain⟨X,hX⟩:∃X:Nat->List aa,∀a,X a=[zc,.cells [iv first,iv hn,iv am,.sl 0 [] (.opn (N+3)),.sl 0 [] .exact,.sl 0 [] .exact] 26,.tail a 1 3,.tail 0 3 61]:=⟨_,λ_=>rfl⟩;have Sr:=(hX (i+1)).symm;simp only[iv]at Sr;have x1:∀τ a,(Gf τ++X a)[N+1]?=some (.cells [iv first,iv hn,iv am,.sl 0 [] (.opn (N+3)),.sl 0 [] .exact,.sl 0 [] .exact] 26):=λτ a=>(by rw[oc,hX];rfl);have x2:∀τ a,(Gf τ++X a)[N+2]?=some (.tail a 1 3):=λτ a=>(by rw[oc,hX];rfl);have O_:∀τ a a',(Gf τ++X a).set (N+2) (.tail a' 1 3)=Gf τ++X a':=λτ a a'=>(by rw[dX,hX,hX];rfl);rw[Sr];refine nI [11,13,16] [0,1,2,3,4,5,6,7,8,9,10,11,12,13,14,15,16,17] [⟨0,false,[],[([11],[11]),([11,13],[11,13])]⟩,⟨1,false,[],[([11],[11]),([11,13],[11,13])]⟩,⟨2,false,[],[([11],[11]),([11,13],[11,13])]⟩,⟨3,false,[],[([11],[11]),([11,13],[11,13])]⟩,⟨4,false,[],[([11],[11]),([11,13],[11,13])]⟩,⟨5,false,[],[([11],[11])]⟩,⟨6,false,[],[([11],[11])]⟩,⟨7,false,[],[([11],[11])]⟩,⟨8,false,[],[]⟩,⟨9,false,[],[]⟩,⟨10,false,[],[]⟩,⟨11,true,[11],[]⟩,⟨12,false,[11],[]⟩,⟨13,true,[11,13],[]⟩,⟨14,false,[11,13],[]⟩,⟨15,false,[11,13],[]⟩,⟨16,true,[11,13,16],[]⟩,⟨17,false,[11,13,16],[]⟩] (λD=>bif isDone 16 D then Gf (tick (tick ρ))++X (i+1+1)else bif isDone 13 D then Gf (tick (tick ρ))++X (i+1)else bif isDone 11 D then Gf (tick ρ)++X (i+1)else Gf ρ++X (i+1)) ?_;simp only[seval,Pf,Ez,z1,ur,x1,x2,O_,eg hw,fu,DW,fw];refine kz _ _ (cC (pF (jO (X (i+1))) qX (by omega) (by omega) ⟨rfl,rfl⟩)) ?_;(try simp only[seval,Pf,Ez,z1,ur,x1,x2,O_,eg hw,fu,DW,fw]);refine kz (iv v) _ (cC (Kf (ns:=[0,am,dg ρ am]) (jO (X (i+1))) qX.tick (by omega) (by simp) (by simp) ⟨by rw[hsd],rfl⟩)) ?_;(try simp only[seval,Pf,Ez,z1,ur,x1,x2,O_,eg hw,fu,DW,fw]);refine⟨by omega,?_⟩;refine ah ?_;simp only[seval,fW];refine hR _ ⟨bx,trivial,?_⟩;rw[dS,Tn,hX];exact cz
  ·as_aux_lemma=>
   have dD:i=hn:=(by omega);subst dD;clear hR;refine bR ?_;obtain⟨w,hw⟩:=bK (xs:=l) (i:=i) (by omega);have pN:l.getD i 0=w:=(by rw[SE,hw];rfl);have Hk:first<=w/\w<=first+9:=by
    rw[pN]at vn;have:am* (i:Int)<=3* 3:=Yh (by omega) (by omega) (by omega) (by omega);generalize am* (i:Int)=q at vn this;omega
   obtain⟨mn,n3⟩:∃mn:Nat,w-first=mn:=⟨(w-first).toNat,by omega⟩
   have LZ:mn<=9:=(by omega);have hwm:SD.wrap (w-first)=mn:=(by rw[MV (by omega),n3]);have fu:(0<=(i:Int)/\(i:Int)<(i:Int)+1)=True:=(by simp;omega);refine eO 8 ?_;simp only[seval,oc,eg hw,fu,hwm];have jO:∀L:List aa,dO (λτ=>Gf τ++L) t (N+L.length):=λL=>hT.more L;refine aj ?_;refine aH ((Rb (n:=mn) (jO _) qX (by omega) (by omega) ?_));have qT:=ab3 ρ mn;have qX:=HR qX mn mn;generalize iD ρ mn mn=m2 at qT qX⊢;obtain⟨order,ρ⟩:=m2;dsimp only at qT qX⊢;(try simp only[seval]);refine aj ?_
   (repeat apply gp);refine oH (t:=15) (sz:=1) (el:=3) (by simp only[seval]<;>rfl) ?_
   simp only[seval,hT.len]
   (repeat apply gp);refine oH (t:=16) (sz:=1) (el:=3) (by simp only[seval]<;>rfl) ?_
   simp only[seval,hT.len];refine Jm [16,15,14,13,11,10,6,0,1,2] ?_;show aQ _ _ _ _ _ ⟨[(16,.sl 0 [] (.opn (N+5))),(15,.sl 0 [] (.opn (N+4))),(14,aL order),(13,iv mn),(11,.sl (i+1) (l.map iv) (.opn (N+2))),(10,.op (N+1) 0),(6,.op N 0),(0,.op t 0),(1,iv pm),(2,bv false)],_⟩ _;obtain⟨YY,Su⟩:∃YY:List AV->Nat->Nat->Nat->List aa,∀r c d e,YY r c d e=[zc,.cells r 26,.tail (i+1) 1 3,.tail c 3 61,.tail d 1 3,.tail e 1 3]:=⟨_,λ_ _ _ _=>rfl⟩;have hY:YW Gf N zc YY:=atJ hT Su;have St:[zc,.cells [iv first,iv i,iv am,.sl 0 [] (.opn (N+3)),.sl 0 [] .exact,.sl 0 [] .exact] 26,.tail (i+1) 1 3,.tail 0 3 61,.tail 0 1 3,.tail 0 1 3]=YY [iv first,iv i,iv am,.sl 0 [] (.opn (N+3)),.sl 0 [] .exact,.sl 0 [] .exact] 0 0 0++[]:=(by rw[Su];rfl);simp only[iv]at St;rw[St];refine aj ?_;refine Cr (α:=Nat×bh) (λy=>⟨[(16,.sl 0 [] (.opn (N+5))),(15,.sl y.1 ((kZ first order y.1).map iv) (.opn (N+4))),(13,iv mn),(11,.sl (i+1) (l.map iv) (.opn (N+2))),(10,.op (N+1) 0),(6,.op N 0),(0,.op t 0),(2,bv false)],Gf y.2++(YY [iv first,iv i,iv am,.sl 0 [] (.opn (N+3)),fF (N+6) y.1,.sl 0 [] .exact] 0 y.1 0++gO y.1 (fO (kS l i (λj=>first+order.getD j 0) ρ y.1).1))⟩) (λy=>y.1<=pm/\y.1<=mn/\y.2.Ok (b+60)) ?_ (λy hy=> ?_)
   ·exact aiS hT hY (λτ'=>hT.aq hH τ') hb tX (by omega) oV fw LZ qT (qX.mono (by omega))
   ·as_aux_lemma=>
    obtain⟨np,ρ1⟩:=y;obtain⟨alP,alQ,MT⟩:=hy;dsimp only at alP alQ MT⊢;have G3:(kS l i (λj=>first+order.getD j 0) ρ np).1.length=np:=AA _ _ _ _ _;have aaV:∀(p:Nat) z,(kS l i (λj=>first+order.getD j 0) ρ np).1[p]?=some z->∃τ,z=lY τ l (first+order.getD p 0) i:=λp z hz=>K5 (P:=λn z=>∃τ,z=lY τ l n i) (λτ n=>⟨τ,rfl⟩) np p z hz;generalize(kS l i (λj=>first+order.getD j 0) ρ np).1=ey at G3 aaV⊢;have iZ:=ace first order np
    have tT:∀n∈kZ first order np,first<=n/\n<w:=λn hn=>by
     unfold kZ at hn;obtain⟨p,hp,rfl⟩:=Tm.1 hn;have hp:=TW.1 hp;obtain⟨o,ho⟩:=bK (xs:=order) (i:=p) (by rw[qT.len];omega);have:=qT.Ij o (um ho);rw[SE,ho];simp only[S7];omega
    have GW:(kZ first order np).Nodup:=by
     have e:kZ first order np=(order.take np).map λo=>first+o:=by
      unfold kZ;refine aoi (by rw[Ta,TC,qT.len];omega) λp hp=> ?_;rw[To,Uj,if_pos hp,SE];obtain⟨o,ho⟩:=bK (xs:=order) (i:=p) (by rw[qT.len];omega);rw[ho];rfl
     rw[e];have h1:(order.take np).Nodup:=Yq (Zn _ _) qT.nodup;rw[Uv,XA];exact(Uv.1 h1).imp λh e=>h (by omega)
    have hng:∀p,p<np->(kZ first order np).getD p 0=first+order.getD p 0:=λp hp=>by
     unfold kZ;rw[SE,To,XC hp];rfl
    generalize kZ first order np=aA at iZ tT GW hng⊢
    refine aj ?_;refine aH ((Rb (n:=np) (jO _) MT (by omega) (by omega) ?_));have tY:=ab3 ρ1 np;have yZ:=HR MT np np;generalize iD ρ1 np np=m3 at tY yZ⊢;obtain⟨im,ρ2⟩:=m3;dsimp only at tY yZ⊢;have yZ:ρ2.Ok (b+64):=yZ.mono (by omega);(try simp only[seval]);have hwe:aL im=.sl np (im.map iv) .shut:=(by rw[aL,tY.len]);rw[hwe];refine aj ?_;refine Cr (α:=Nat×bh) (λy=>⟨[(16,.sl y.1 ((im.take y.1).map iv) (.opn (N+5))),(15,.sl np (aA.map iv) (.opn (N+4))),(13,iv mn),(11,.sl (i+1) (l.map iv) (.opn (N+2))),(10,.op (N+1) 0),(6,.op N 0),(0,.op t 0),(2,bv false)],Gf y.2++(YY [iv first,iv i,iv am,.sl 0 [] (.opn (N+3)),fF (N+6) np,fF (N+6+np) y.1] 0 np y.1++(gO np (fO ey)++gO y.1 (fO (kS l i (λj=>aA.getD (im.getD j 0).toNat 0) ρ2 y.1).1)))⟩) (λy=>y.1<=np/\y.1<=3/\y.2.Ok (b+90)) ?_ (λy hy=> ?_)
    ·exact iG (s':=⟨[(19,iv 0),(18,.sl np (im.map iv) .shut),(16,.sl 0 [] (.opn (N+5))),(15,.sl np (aA.map iv) (.opn (N+4))),(13,iv mn),(11,.sl (i+1) (l.map iv) (.opn (N+2))),(10,.op (N+1) 0),(6,.op N 0),(0,.op t 0),(2,bv false)],Gf ρ2++(YY [iv first,iv i,iv am,.sl 0 [] (.opn (N+3)),fF (N+6) np,.sl 0 [] .exact] 0 np 0++gO np (fO ey))⟩) (dY (by simp only[seval];simp[a_,Wk.refl]) rfl) (aiN hT hY (yi _ _) hb (by omega) oV Hk fw (by omega) iZ tT tY yZ)
    ·as_aux_lemma=>
     obtain⟨ns,ρ3⟩:=y;obtain⟨alR,alS,MU⟩:=hy;dsimp only at alR alS MU⊢;have n_:(kS l i (λj=>aA.getD (im.getD j 0).toNat 0) ρ2 ns).1.length=ns:=AA _ _ _ _ _;have aa3:∀(s:Nat) z,(kS l i (λj=>aA.getD (im.getD j 0).toNat 0) ρ2 ns).1[s]?=some z->∃τ,z=lY τ l (aA.getD (im.getD s 0).toNat 0) i:=λs z hz=>K5 (P:=λn z=>∃τ,z=lY τ l n i) (λτ n=>⟨τ,rfl⟩) ns s z hz;generalize(kS l i (λj=>aA.getD (im.getD j 0).toNat 0) ρ2 ns).1=dp at n_ aa3⊢;have oh:=tY.len;have aE:(im.take ns).length=ns:=(by rw[TC];omega);have eE:∀v∈im.take ns,0<=v/\v<(np:Int):=λv hv=>tY.Ij v (VQ hv);have al1:(im.take ns).Nodup:=Yq (Zn _ _) tY.nodup;have aaT:∀s,s<ns->(im.take ns).getD s 0=im.getD s 0:=λs hs=>by
      rw[SE,SE,Uj,if_pos hs]
     generalize im.take ns=bX at aE eE al1 aaT⊢;refine aj ?_;refine aH ((pF (n:=2) (jO _) MU (by omega) (by omega) ?_));have gZ:=lS ρ3 2;generalize dg ρ3 2=u2 at gZ⊢;obtain⟨cn,rfl⟩:∃cn:Nat,u2=cn:=⟨u2.toNat,by omega⟩;have Hp:=MU.tick;generalize tick ρ3=ρ4 at Hp⊢;(try simp only[seval]);have mI:∀z∈ey,we i z:=λz hz=>by
      obtain⟨p,hp⟩:=U6 hz;have dz:=(SN.1 hp).1;obtain⟨τ',rfl⟩:=aaV p z hp;rw[<- hng p (by omega)];have:=K4 aq (by omega) oV w_ (n:=aA.getD p 0) (by rw[pN];exact tT _ (Ap (by omega))) τ';exact⟨this.num,this.hour⟩
     have htv:∀z∈dp,we i z:=λz hz=>by
      obtain⟨s,hs⟩:=U6 hz;have cy:=(SN.1 hs).1;obtain⟨τ',rfl⟩:=aa3 s z hs;rw[<- aaT s (by omega)];have ho:=eE _ (Ap (l:=bX) (i:=s) (by omega));have:=K4 aq (by omega) oV w_ (n:=aA.getD (bX.getD s 0).toNat 0) (by rw[pN];exact tT _ (Ap (by omega))) τ';exact⟨this.num,this.hour⟩
     refine Cr (α:=List Seen×bh) (λy=>⟨[(16,.sl ns (bX.map iv) (.opn (N+5))),(15,.sl np (aA.map iv) (.opn (N+4))),(13,iv mn),(11,.sl (i+1) (l.map iv) (.opn (N+2))),(10,.op (N+1) 0),(6,.op N 0),(0,.op t 0),(2,bv false)],Gf y.2++(YY [iv first,iv i,iv am,.sl y.1.length (y.1.flatMap Seen.l) (.opn (N+3)),fF (N+6) np,fF (N+6+np) ns] y.1.length np ns++(gO np (fO ey)++gO ns (fO dp)))⟩) (λy=>y.1.length<=2/\(∀s∈y.1,0<=s.hour/\s.hour<=i/\∃τ,s.next=nH τ (l.getD s.hour.toNat 0) 1 0 99)/\y.2.Ok (b+97)) ?_ (λy hy=> ?_)
     ·refine iG (s':=⟨[(20,iv cn),(16,.sl ns (bX.map iv) (.opn (N+5))),(15,.sl np (aA.map iv) (.opn (N+4))),(13,iv mn),(11,.sl (i+1) (l.map iv) (.opn (N+2))),(10,.op (N+1) 0),(6,.op N 0),(0,.op t 0),(2,bv false)],Gf ρ4++(YY [iv first,iv i,iv am,.sl 0 [] (.opn (N+3)),fF (N+6) np,fF (N+6+np) ns] 0 np ns++(gO np (fO ey)++gO ns (fO dp)))⟩) (dY (by simp only[seval];simp[a_,Wk.refl]) rfl) (aiQ hT hY hb (by omega) oV w_ aq (by omega) (Hp.mono (by omega)))
     obtain⟨ss,ρ5⟩:=y;obtain⟨dW,f_,pY⟩:=hy;dsimp only at dW f_ pY⊢;refine aj ?_;refine aD ?_;refine aK ?_;refine iG (s':=⟨[(16,.sl ns (bX.map iv) (.opn (N+5))),(15,.sl np (aA.map iv) (.opn (N+4))),(13,iv mn),(11,.sl (i+1) (l.map iv) (.opn (N+2))),(10,.op (N+1) 0),(6,.op N 0),(0,.op t 0),(2,bv false)],Gf ρ5++(YY [iv first,iv i,iv am,.sl ss.length (ss.flatMap Seen.l) (.opn (N+3)),fF (N+6) np,fF (N+6+np) ns] ss.length np ns++(gO np (fO ey)++gO ns (fO dp)))⟩) (dY (by simp only[seval];simp[a_,Wk.refl]) rfl) (aiR hT hY (yi _ _) hb oV LZ (by omega) n_ htv pY λaso ρ6 Mx yT hρ6=>aiP hT hY hb (by omega) (by omega) G3 mI hρ6 λapz ρ7 hp1 kj hρ7=>aiM hT (λτ'=>hT.aq hH τ') hY D2 fw hp1 iZ Mx aE rfl (hk ⟨first,i,am,ss,apz,aso⟩ l aA bX ρ7 ⟨oV,by dsimp only;omega,w_,by dsimp only;omega,by dsimp only;omega,by dsimp only;omega,λs hs=> ?_,λy hy=> ?_,λy hy=> ?_⟩ (by dsimp only;omega) (by omega) (by omega) (by omega) (hρ7.mono (by omega))))
     ·obtain⟨h1,h2,τ',h3⟩:=f_ s hs;have ht:=aq.top oV w_ (by omega) s.hour.toNat (by omega);rw[h3];exact⟨⟨h1,h2⟩,(Cn (by omega) (by omega)).1⟩
     ·exact⟨(kj y hy).1,(kj y hy).2⟩
     ·exact⟨(yT y hy).1,(yT y hy).2⟩
end
section
variable {lv:Bool}{H:List aa}{k kp:AV->List aa->Prop}
end
def oq (n:Nat):Nat->List (List Int)
 |0=>[[]]
 |k+1=>(S0 n).flatMap λi:Nat=>(oq n k).map ((i:Int)::·)
def uk (n kk j:Nat):List (List Int):=(S0 j).flatMap λi:Nat=>(oq n kk).map ((i:Int)::·)
theorem abI(n kk j:Nat):uk n kk (j+1)=uk n kk j++(oq n kk).map ((j:Int)::·):=by
 unfold uk;rw[U4,Un];simp
theorem abM:∀n,n<=4->∀k,k<=4->(oq n k).length<=256/\∀r∈oq n k,r.length=k/\∀i∈r,0<=i/\i<n:=by decide+kernel
theorem abH(n kk:Nat)(h:(oq n kk).length<=256):∀j,(uk n kk j).length<=256* j
 |0=>by simp[uk]
 |j+1=>by
  have h1:=abH n kk h j;rw[abI,SL,Ta];omega
section
variable {lv:Bool}
theorem Re:∀(kk:Nat){n:Nat}{H:List aa}{k kp:AV->List aa->Prop},n<=4->kk<=4->k (lm (oq n kk)) H->bc lv SA 49 H [iv n,iv kk] k kp
 |0,n,H,k,kp,hn,dK,hk=>by
  refine bD (rs:=[.tmp 4]) (nt:=38) aq' λhH hA=> ?_;simp only[bk,SU];refine aj ?_;refine ah ?_;simp only[seval,beq_self_eq_true];refine aD ?_;refine ah ?_;simp only[seval,wb,zo];refine aZ ?_;exact jI (b:=lm [[]]) (H':=H) (G:=[]) (O2 (.cons (e9 _ _ _) .nil)) (by simp) (SP _) hH (by rw[Bd];trivial) hk
 |kk+1,n,H,k,kp,hn,dK,hk=>by
  refine bD (rs:=[.tmp 4]) (nt:=38) aq' λhH hA=> ?_;simp only[bk,SU];have hz:(((kk:Int)+1)==0)=false:=by simp;omega
  have kW:SD.wrap ((kk:Int)+1-1)=kk:=by rw[br _ (by omega)];omega
  refine aj ?_;refine ah ?_;simp only[seval,hz];refine aD ?_;refine aK ?_;refine aj ?_
  (repeat apply gp);refine oH (t:=5) (sz:=1) (el:=22) (by simp only[seval]<;>rfl) ?_
  refine ah ?_;simp only[seval,kW];refine aH ((Re kk hn (by omega) ?_));(try simp only[seval,lm]);have GC:=abM n hn kk (by omega);have hlen:=abH n kk GC.1;have p7:=abI n kk;have eQ:uk n kk n=oq n (kk+1):=rfl;generalize oq n kk=l at GC p7⊢;obtain⟨auN,hlr⟩:=GC;refine aj ?_;refine bU ?_;refine eI n (λj:Nat=>[(5,.sl (uk n kk j).length ((uk n kk j).map aL) (.opn H.length)),(7,iv j)]) (λj=>H++[.tail (uk n kk j).length 1 22]) (λi=>True) (λ_ _=>rfl) (by simp only[seval];simp[a_,Wk.refl];exact Wk.refl _) rfl (λ_ _ _=>by simp) trivial (λbC bW j mE hj R hR=> ?_);clear bC bW;refine aj ?_;refine aD ?_;refine⟨λh=> ?_,λh=> ?_⟩
  ·have dP:j<n:=(by omega);have eS:SD.wrap ((j:Int)+1)=j+1:=br _ (by omega);have DN:=p7 j;have fw:=hlen j;generalize uk n kk j=o at DN fw hR⊢;refine aK ?_;refine aj ?_;refine bU ?_;refine eI l.length (λx:Nat=>[(5,.sl (o.length+x) ((o++(l.take x).map ((j:Int)::·)).map aL) (.opn H.length)),(8,iv x)]) (λx=>H++[.tail (o.length+x) 1 22]) (λi=>True) (λ_ _=>rfl) (by simp only[seval];simp[a_,Wk.refl]) (by simp) (λ_ _ _=>by simp) trivial (λbC bW x DY hx R2 jl=> ?_);clear bC bW;refine aj ?_;refine aD ?_;refine⟨λh2=> ?_,λh2=> ?_⟩
   ·have bu:x<l.length:=(by omega);obtain⟨r,hr⟩:=bK bu;have t_:=(hlr r (um hr)).1;have uf:SD.wrap ((x:Int)+1)=x+1:=br _ (by omega);have qS:((o++(l.take x).map ((j:Int)::·)).map aL).length=o.length+x:=(by simp;omega);have cT:(o++(l.take (x+1)).map ((j:Int)::·)).map aL=(o++(l.take x).map ((j:Int)::·)).map aL++[aL ((j:Int)::r)]:=by
     rw[aoj _ hr,<- SC,Tn];rfl
    have Ml:(r.map iv).length=r.length:=Ta ..;refine aK ?_;refine ah ?_;simp only[seval,z1,wb,zo,v7 hr,jh bu,qS,Ml,aL]
    first|refine⟨by omega,by simp;omega,by omega,?_⟩|refine⟨by omega,by omega,?_⟩
    refine ah ?_;simp only[seval,uf];refine jl _ ⟨bu,trivial,?_⟩;rw[cT];refine uu [.tail (1+r.length) 1 3] (lL rfl rfl) ?_ (Dv hH _ _ _) ?_ (by simp[U7])
    ·(try simp only[seval]);exact⟨⟨_,rfl,have h:=EX (l:=(o++(l.take x).map ((j:Int)::·)).map aL) (show Wk (.sl (1+r.length) (iv (j:Int)::r.map iv) (.opn (H.length+1))) (aL ((j:Int)::r)) by rw[aL,apT];exact e9 _ _ _);zG h.len h.at⟩,_,rfl,Wk.refl _⟩
    ·rw[<- cT];simp only[US,ec,Ef,iv];simp
   ·have jU:x=l.length:=(by omega);subst jU;refine bR ?_;refine ah ?_;simp only[seval,eS];refine hR _ ⟨dP,trivial,?_⟩;rw[DN];simp only[Tp,SL,Ta];exact cz
  ·have vt:j=n:=(by omega);subst vt;refine bR ?_;refine aj ?_;refine aZ ?_;rw[eQ];exact iH (b:=lm (oq j (kk+1))) hH (e9 _ _ _) (by rw[Bd];trivial) hk
end
section
variable {lv:Bool}{H:List aa}{k kp:AV->List aa->Prop}
end
end Go.Gg
