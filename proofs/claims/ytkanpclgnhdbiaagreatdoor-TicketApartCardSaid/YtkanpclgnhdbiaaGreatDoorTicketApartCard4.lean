/- A part of the proof. -/
import Derived.Test.YtkanpclgnhdbiaaGreatDoorTicketApartCard3
set_option linter.all false
set_option maxRecDepth 4000
set_option maxHeartbeats 4000000
open Array renaming getD_eq_getD_getElem?->SH,getElem?_eq_getElem->SJ,getElem?_eq_some_iff->SS,getElem?_modify->Wn,getElem_mem->X8,replicate->TS
open Bool renaming and_eq_true->Te,and_false->WH,and_self->ah',eq_iff_iff->U9,false_and->Vt,false_or->ZH,not_eq_true'->TZ,or_eq_true->Xn,true_and->UP
open Classical renaming byContradiction->Tv
open Function renaming comp_apply->Wm
open Go renaming Code->Uc,Oper->Tx,Program->SI,Value->SP
open Go.IntKind renaming i64->SD,u16->S7
open Go.Obj renaming deferred->awd
open Go.Proofs.Tryz renaming f15->WY,f34->ZW,f39->as_,f49->asI,f50->aa',f53->asg,prog->SA
open Go.Region renaming linearise->Zl,schedule->VR,wanted->Tj
open Go.Region.linearise renaming go->UM
open Go.Value renaming agg->TA,int->SF,slice->TN
open Int renaming le_refl->Xw,le_trans->XP,mul_le_mul->Yo,toNat->Yi,toNat_natCast->VK
open List renaming all_eq_true->Tu,any_append->Z2,any_cons->Y2,any_eq_true->UO,append_assoc->SC,append_eq_nil_iff->YK,append_nil->SN,cons_append->Vs,contains_append->Y0,contains_eq_mem->Ut,contains_iff_mem->Zc,contains_nil->ZM,countP_le_length->Zb,drop->TR,dropLast_concat_getLast->Yd,drop_append->VD,drop_append_of_le_length->Wt,drop_drop->ar_,drop_eq_getElem_cons->T4,drop_of_length_le->W5,drop_zero->XJ,eq_nil_of_length_eq_zero->UI,exists_mem_of_ne_nil->Yn,ext_getElem?->Yw,filter_append->XI,filter_congr->U3,filter_cons->XW,filter_cons_of_neg->W4,filter_cons_of_pos->W3,filter_eq_nil_iff->Xb,filter_nil->ZL,flatMap_append->Uk,flatMap_assoc->Xv,flatMap_cons->TW,flatMap_def->WW,flatMap_eq_nil_iff->WV,flatMap_map->Vz,flatMap_singleton->YJ,foldl_append->WZ,foldl_cons->UV,foldl_nil->aa_,forall_mem_cons->US,getD_cons_succ->Xo,getD_cons_zero->Xu,getD_eq_getElem?_getD->SE,getElem?_append_left->S0,getElem?_append_right->S_,getElem?_drop->Us,getElem?_eq_getElem->SY,getElem?_eq_none->Ux,getElem?_eq_some_iff->SL,getElem?_map->Tp,getElem?_of_mem->Va,getElem?_range->XH,getElem?_set->UX,getElem?_set_ne->Ud,getElem?_take->Ui,getElem_mem->Ww,getLast?_eq_getElem?->WT,getLastD_cons->ZC,getLastD_eq_getLast?->U_,head?_append->WU,head?_cons->Z1,length->XZ,length_append->SQ,length_cons->Un,length_drop->Ur,length_dropLast->YZ,length_eraseIdx_of_lt->WM,length_filter_le->Za,length_map->Ta,length_nil->UA,length_pos_iff->VB,length_range->XV,length_replicate->YP,length_set->TK,length_singleton->TH,length_take->TC,map->Vj,map_append->To,map_congr_left->VH,map_cons->U0,map_flatMap->Vl,map_map->WS,map_nil->ZU,map_take->Wa,mem_append->SV,mem_append_left->Ti,mem_append_right->S5,mem_cons->SK,mem_cons_of_mem->Td,mem_cons_self->TF,mem_filter->Uz,mem_flatMap->S4,mem_iff_getElem?->UY,mem_map->Tf,mem_of_getElem?->S6,mem_of_mem_take->VS,mem_or_eq_of_mem_set->UF,mem_range->TG,mem_reverse->XT,mem_singleton->S9,nil_append->UN,nodup_append->Vh,nodup_cons->VX,nodup_iff_pairwise_ne->Uv,nodup_nil->WR,nodup_range->Ya,not_mem_nil->SZ,pairwise_iff_getElem->Yl,pairwise_map->XF,range->SR,range'->Ub,range'_succ->VW,range_eq_range'->Vx,range_succ->UZ,range_zero->ZK,replicate->TO,reverse_cons->Zu,set_append_left->U1,set_append_right->Ue,set_cons_succ->UK,set_cons_zero->T9,set_eq_take_append_cons_drop->XY,take->Uh,take_add_one->Uo,take_append_drop->Vu,take_append_of_le_length->TB,take_eq_nil_iff->YX,take_length->Tn,take_of_length_le->SW,take_set->ad',take_sublist->Zt,take_succ_cons->VZ,take_succ_eq_append_getElem->U2,take_take->Vd,take_zero->Zh
open List.Nodup renaming sublist->Yy
open List.Pairwise renaming imp->ae_,imp_of_mem->XD
open List.Perm renaming nodup_iff->au',refl->aj_
open List.cons renaming injEq->Y1
open Nat renaming add_assoc->U5,add_comm->aq',add_mul->Vr,add_sub_cancel->VM,add_sub_cancel_left->T5,add_zero->UJ,eq_zero_or_pos->UL,le_refl->SO,le_trans->TL,lt_or_ge->YO,lt_succ_self->Uy,min_eq_left->WB,mul_le_mul_right->TM,mul_one->Y9,pow_le_pow_right->UT,pow_succ->ad_,reduceAdd->SU,reduceSub->YC,sub_self->Vp,sub_zero->Z',succ_mul->XN,testBit_or->XM,testBit_two_pow->Wc,zero_add->Wv,zero_le->X9,zero_testBit->ZI
open Option renaming getD_some->S8,map_some->UW
open Option.some renaming injEq->Tm
namespace Go.Gg
open Go.Conc Go.Proofs Go.Gg.Tk
namespace Tk
def aB.more (y:aB)(n:Int):aB:=⟨⟨y.number.min+n,y.number.max+n⟩,y.hour⟩
def j6 (h:List Int)(n:Int):Nat->Int
 |0=> -1
 |i+1=>if h.getD i 0<=n/\n<h.getD (i+1) 0 then i else j6 h n i
end Tk
section
variable {lv:Bool}{H:List aa}{k kp:AV->List aa->Prop}
theorem ajv{a b:Int}(hk:k (.agg [iv a,iv b]) H):ba lv SA 24 H [iv a,iv b] k kp:=by
 refine bD (rs:=[.cell 4 46]) (nt:=8) Tryz.f24 λhH hA=> ?_;simp only[bp,SU];refine aj ?_;refine aj ?_;refine aX ?_;exact iH hH (Wk.refl _) (by simp[uk,dZ]) hk
theorem Sg{a b c:Int}(hk:k (Seen.av ⟨a,⟨b,c⟩⟩) H):ba lv SA 78 H [iv a,iv b,iv c] k kp:=by
 refine bD (rs:=[.cell 6 61]) (nt:=12) Tryz.f78 λhH hA=> ?_;simp only[bp,SU];refine aj ?_;refine aj ?_;refine aX ?_;exact iH hH (Wk.refl _) (by simp[uk,dZ]) hk
theorem rN{a b c d:Int}(hk:k (aB.av ⟨⟨a,b⟩,⟨c,d⟩⟩) H):ba lv SA 79 H [iv a,iv b,iv c,iv d] k kp:=by
 refine bD (rs:=[.cell 8 48]) (nt:=16) Tryz.f79 λhH hA=> ?_;simp only[bp,SU];refine aj ?_;refine aj ?_;refine aX ?_;exact iH hH (Wk.refl _) (by simp[uk,dZ]) hk
theorem Sb{h:List Int}{n:Int}{e:End}(hl:h.length<=4)(hk:k (iv (j6 h n (h.length-1))) H):ba lv SA 40 H [.sl h.length (h.map iv) e,iv n] k kp:=by
 refine bD (rs:=[.tmp 4]) (nt:=31) Tryz.f40 λhH hA=> ?_;simp only[bp,SU];refine aj ?_;refine aj ?_;refine aj ?_;refine bP ?_;refine ek (h.length-1) (λi:Nat=>[(5,iv (j6 h n i)),(6,iv i)]) (λ_=>_) (λi=>True) (λ_ _=>rfl) (by simp only[seval];simp[bk,Wk.refl];exact Wk.refl _) rfl (λ_ _ _=>rfl) trivial (λbw bG i cw _ R hR=> ?_);have fV:SD.wrap ((i:Int)+1)=((i+1:Nat):Int):=by rw[bc _ (by omega)];rfl
 refine ab ?_;simp only[seval,fV];refine aD ?_;refine⟨λhc=> ?_,λhc=> ?_⟩
 ·have br:i+1<h.length:=by omega
  obtain⟨a,ha⟩:=bE (xs:=h) (i:=i) (by omega);obtain⟨b,hb⟩:=bE (xs:=h) (i:=i+1) br;have gp:h.getD i 0=a:=by rw[SE,ha];rfl
  have dG:h.getD (i+1) 0=b:=by rw[SE,hb];rfl
  have eD:=iR (show i<h.length by omega);have lQ:(0<=(i:Int)+1/\(i:Int)+1<(h.length:Int))=True:=by simp;omega
  have lZ:((i:Int)+1).toNat=i+1:=by omega
  have cR:j6 h n (i+1)=if a<=n/\n<b then(i:Int)else j6 h n i:=by rw[j6,gp,dG]
  refine aF ?_;refine bP ?_;by_cases c1:a<=n
  ·have d1:decide (a<=n)=true:=decide_eq_true c1;by_cases c2:n<b
   ·have d2:decide (n<b)=true:=decide_eq_true c2;refine ab ?_;simp only[seval,dN ha,dN hb,eD,lQ,lZ,d1,d2,fV];refine aD ?_;refine aj ?_;refine ab ?_;simp only[seval,fV];rw[if_pos ⟨c1,c2⟩]at cR;refine hR _ ⟨by omega,trivial,?_⟩;rw[cR];exact bX
   ·have d2:decide (n<b)=false:=decide_eq_false c2;refine ab ?_;simp only[seval,dN ha,dN hb,eD,lQ,lZ,d1,d2,fV];refine aD ?_;refine aF ?_;refine ab ?_;simp only[seval,fV];rw[if_neg (λhh=>c2 hh.2)]at cR;refine hR _ ⟨by omega,trivial,?_⟩;rw[cR];exact bX
  ·have d1:decide (a<=n)=false:=decide_eq_false c1;refine ab ?_;simp only[seval,dN ha,eD,d1];refine aD ?_;refine aF ?_;refine ab ?_;simp only[seval,fV];rw[if_neg (λhh=>c1 hh.1)]at cR;refine hR _ ⟨by omega,trivial,?_⟩;rw[cR];exact bX
 ·have dB:i=h.length-1:=by omega
  subst dB;refine bO ?_;refine aj ?_;refine aX ?_;exact ce hk
end
open Go.Conc Go.Proofs Go.Gg.Tk
namespace Tk
def Gy (h:List Int)(y:aB)(n:Int):Bool:=decide (j6 h n (h.length-1)>=0)&&(decide (n>=y.number.min)&&(decide (n<=y.number.max)&&(decide (j6 h n (h.length-1)>=y.hour.min)&&decide (j6 h n (h.length-1)<=y.hour.max))))
end Tk
section
variable {lv:Bool}{H:List aa}{k kp:AV->List aa->Prop}
theorem C9{h:List Int}{y:aB}{n:Int}{e:End}(hl:h.length<=4)(hk:k (bv (Gy h y n)) H):ba lv SA 30 H [.sl h.length (h.map iv) e,y.av,iv n] k kp:=by
 refine bD (rs:=[.tmp 6]) (nt:=41) Tryz.f30 λhH hA=> ?_;simp only[bp,SU,aB.av];have bi:∀(L:List aa),(H++L)[H.length]?=L[0]?:=λL=>aZ H L 0;unfold Gy at hk;refine ab ?_;simp only[seval,aB.l];refine aj ?_;refine aK ((Sb (h:=h) (n:=n) hl ?_));generalize j6 h n (h.length-1)=tk at hk⊢;(try simp only[seval]);by_cases c1:tk>=0
 ·have d1:decide (tk>=0)=true:=decide_eq_true c1;by_cases c2:n>=y.number.min
  ·have d2:decide (n>=y.number.min)=true:=decide_eq_true c2;by_cases c3:n<=y.number.max
   ·have d3:decide (n<=y.number.max)=true:=decide_eq_true c3;by_cases c4:tk>=y.hour.min
    ·have d4:decide (tk>=y.hour.min)=true:=decide_eq_true c4;by_cases c5:tk<=y.hour.max
     ·have d5:decide (tk<=y.hour.max)=true:=decide_eq_true c5;refine ab ?_;simp only[seval,bi,d1,d2,d3,d4,d5];refine aX ?_;rw[d1,d2,d3,d4,d5]at hk;exact ji hH hk
     ·have d5:decide (tk<=y.hour.max)=false:=decide_eq_false c5;refine ab ?_;simp only[seval,bi,d1,d2,d3,d4,d5];refine aX ?_;rw[d1,d2,d3,d4,d5]at hk;simp only[WH,Vt,UP]at hk;exact ji hH hk
    ·have d4:decide (tk>=y.hour.min)=false:=decide_eq_false c4;refine ab ?_;simp only[seval,bi,d1,d2,d3,d4];refine aX ?_;rw[d1,d2,d3,d4]at hk;simp only[WH,Vt,UP]at hk;exact ji hH hk
   ·have d3:decide (n<=y.number.max)=false:=decide_eq_false c3;refine ab ?_;simp only[seval,bi,d1,d2,d3];refine aX ?_;rw[d1,d2,d3]at hk;simp only[WH,Vt,UP]at hk;exact ji hH hk
  ·have d2:decide (n>=y.number.min)=false:=decide_eq_false c2;refine ab ?_;simp only[seval,bi,d1,d2];refine aX ?_;rw[d1,d2]at hk;simp only[WH,Vt,UP]at hk;exact ji hH hk
 ·have d1:decide (tk>=0)=false:=decide_eq_false c1;refine ab ?_;simp only[seval,bi,d1];refine aX ?_;rw[d1]at hk;simp only[WH,Vt,UP]at hk;exact ji hH hk
end
open Go.Conc Go.Proofs Go.Gg.Tk
def wH (τ:bh)(ns:List Int):Int:=ns.getD (dh τ (ns.length-1)).toNat 0
section
variable {lv:Bool}{H:List aa}{k kp:AV->List aa->Prop}{Gf:bh->List aa}{t N:Nat}{τ:bh}{b:Int}
theorem KR{ns:List Int}{e:End}(hT:dM Gf t N)(hτ:τ.Ok b)(hb:b<2^60)(hn:1<=ns.length)(iZ:ns.length<2^20)(hk:k (iv (wH τ ns)) (Gf (tick τ))):ba lv SA 45 (Gf τ) [.op t 0,.sl ns.length (ns.map iv) e] k kp:=by
 refine bD (rs:=[.tmp 4]) (nt:=13) Tryz.f45 λhH hA=> ?_;simp only[bp,SU];have bH:SD.wrap ((ns.length:Int)-1)=(ns.length:Int)-1:=bc _ (by omega);have hr:=lJ τ ((ns.length:Int)-1);unfold wH at hk;obtain⟨j,hj⟩:=Int.eq_ofNat_of_zero_le hr.1;have dn:j<ns.length:=by omega
 obtain⟨v,hv⟩:=bE dn;rw[hj]at hk;have zg:ns.getD ((j:Int)).toNat 0=v:=by rw[VK,SE,hv];rfl
 rw[zg]at hk;refine aj ?_;refine ab ?_;simp only[seval,bH];refine aK ((pC hT hτ hb (by omega) ?_));rw[hj];(try simp only[seval,dN hv,iR dn]);refine aX ?_;exact ce hk
end
def nA (τ:bh)(n m lo hi:Int):iQ:=⟨max lo (n-dh τ m),min hi (n+dh (tick τ) m)⟩
def lP (τ:bh)(h:List Int)(n hours:Int):aB:=⟨nA τ n 2 0 99,nA (tick (tick τ)) (j6 h n (h.length-1)) 1 0 (hours-1)⟩
section
variable {lv:Bool}{k kp:AV->List aa->Prop}{Gf:bh->List aa}{t N:Nat}{τ:bh}{b:Int}
theorem KS{n m lo hi:Int}(hT:dM Gf t N)(hτ:τ.Ok b)(hb:b<2^30)(hn: -1000<=n/\n<=1000)(hm:0<=m/\m<=3)(hk:k (nA τ n m lo hi).av (Gf (tick (tick τ)))):ba lv SA 48 (Gf τ) [.op t 0,iv n,iv m,.agg [iv lo,iv hi]] k kp:=by
 refine bD (rs:=[.cell 8 46]) (nt:=26) Tryz.f48 λhH hA=> ?_;simp only[bp,SU];have oL:dM (λτ=>Gf τ++[.cells [iv lo,iv hi] 46,.cells [iv 0,iv 0] 46]) t (N+2):=hT.more [_,_];have r1:=lJ τ m;have r2:=lJ (tick τ) m;have bH:SD.wrap (n-dh τ m)=n-dh τ m:=bc _ (by omega);have ep:SD.wrap (n+dh (tick τ) m)=n+dh (tick τ) m:=bc _ (by omega);have D2:(if lo<n-dh τ m then n-dh τ m else lo)=max lo (n-dh τ m):=by split<;>omega
 have nU:(if n+dh (tick τ) m<hi then n+dh (tick τ) m else hi)=min hi (n+dh (tick τ) m):=by split<;>omega
 refine aj ?_;refine nB [5,13,17] (SR 18) (λD=>bif isDone 17 D then Gf (tick (tick τ))++[.cells [iv lo,iv hi] 46,.cells [iv (max lo (n-dh τ m)),iv (min hi (n+dh (tick τ) m))] 46]else bif isDone 13 D then Gf (tick (tick τ))++[.cells [iv lo,iv hi] 46,.cells [iv 0,iv 0] 46]else bif isDone 5 D then Gf (tick τ)++[.cells [iv lo,iv hi] 46,.cells [iv 0,iv 0] 46]else Gf τ++[.cells [iv lo,iv hi] 46,.cells [iv 0,iv 0] 46]) ?_;simp only[seval,hT.len,hT.g0,hT.g1,hT.g2,hT.g3,hT.h2,hT.h3,hT.s0,hT.s1,hT.s2,hT.s3,hT.t2,hT.t3,bH,ep,D2,nU];refine tu _ _ (dc (pC (oL) hτ (by omega) (by omega) ⟨rfl,rfl⟩)) ?_;(try simp only[seval,hT.len,hT.g0,hT.g1,hT.g2,hT.g3,hT.h2,hT.h3,hT.s0,hT.s1,hT.s2,hT.s3,hT.t2,hT.t3,bH,ep,D2,nU]);refine tu _ _ (dc (pC (oL) hτ.tick (by omega) (by omega) ⟨rfl,rfl⟩)) ?_;(try simp only[seval,hT.len,hT.g0,hT.g1,hT.g2,hT.g3,hT.h2,hT.h3,hT.s0,hT.s1,hT.s2,hT.s3,hT.t2,hT.t3,bH,ep,D2,nU]);refine oD ?_;simp only[seval,hT.len,hT.g0,hT.g1,hT.g2,hT.g3,hT.h2,hT.h3,hT.s0,hT.s1,hT.s2,hT.s3,hT.t2,hT.t3];exact jE (b:=(nA τ n m lo hi).av) (H':=Gf (tick (tick τ))) (Wk.refl _) rfl (by simp[hT.len]) (hT.aq hH _) (by simp[iQ.av,iQ.l,uk,dZ]) hk
theorem Sc{h:List Int}{n hours:Int}{e:End}(hT:dM Gf t N)(hτ:τ.Ok b)(hb:b<2^20)(hl:h.length<=4)(hn: -1000<=n/\n<=1000)(hh:1<=hours/\hours<=3)(qV: -1<=j6 h n (h.length-1)/\j6 h n (h.length-1)<=4)(hk:k (lP τ h n hours).av (Gf (tick (tick (tick (tick τ)))))):ba lv SA 47 (Gf τ) [.op t 0,.sl h.length (h.map iv) e,iv n,iv hours] k kp:=by
 refine bD (rs:=[.cell 8 48]) (nt:=22) Tryz.f47 λhH hA=> ?_;simp only[bp,SU];have u7:∀o:aa,dM (λτ=>Gf τ++[o]) t (N+1):=λo=>hT.more [o];have bH:SD.wrap (hours-1)=hours-1:=bc _ (by omega);refine aj ?_;refine ab ?_;simp only[seval,bH];refine aK ((KS (n:=n) (m:=2) (lo:=0) (hi:=99) (u7 _) hτ (by omega) hn (by decide) ?_));(try simp only[seval]);refine aK ((Sb (h:=h) (n:=n) hl ?_));(try simp only[seval,bH]);refine aK ((KS (n:=j6 h n (h.length-1)) (m:=1) (lo:=0) (hi:=hours-1) (u7 _) hτ.tick.tick (by omega) (by omega) (by decide) ?_));(try simp only[seval,hT.len,hT.g0,hT.g1,hT.g2,hT.g3,hT.h2,hT.h3,hT.s0,hT.s1,hT.s2,hT.s3,hT.t2,hT.t3,iQ.av,iQ.l]);refine oD ?_;simp only[seval,hT.len,hT.g0,hT.g1,hT.g2,hT.g3,hT.h2,hT.h3,hT.s0,hT.s1,hT.s2,hT.s3,hT.t2,hT.t3];exact jE (b:=(lP τ h n hours).av) (H':=Gf (tick (tick (tick (tick τ))))) (Wk.refl _) rfl (by simp[hT.len]) (hT.aq hH _) (by simp[aB.av,aB.l,uk,dZ]) hk
end
end Go.Gg
namespace Go.Gg.Tk
def qk:List Int->Prop
 |a::b::l=>a<=b/\qk (b::l)
 |_=>True
theorem aeG{h:List Int}{n:Int}(hl:2<=h.length)(oU:h.length<=4)(hm:qk h):j6 h n (h.length-1)=jw h n:=by
 match h,hl,oU,hm with
 |[a,b],_,_,hm=>
  simp only[jw,fE,j6,Un,UA,Xu,Xo,SU,YC]
 |[a,b,c],_,_,hm=>
  obtain⟨h1,h2,_⟩:=hm;simp only[jw,fE,j6,Un,UA,Xu,Xo,SU,YC];split<;>split<;>first|rfl|omega
 |[a,b,c,d],_,_,hm=>
  obtain⟨h1,h2,h3,_⟩:=hm;simp only[jw,fE,j6,Un,UA,Xu,Xo,SU,YC];split<;>split<;>first|rfl|omega|(split<;>first|rfl|omega)
theorem K6{h:List Int}{y:aB}{n:Int}(hl:2<=h.length)(oU:h.length<=4)(hm:qk h):Gy h y n=fits h y n:=by
 unfold Gy fits gQ;rw[aeG hl oU hm,U9];simp only[Te,decide_eq_true_eq,ge_iff_le];constructor
 ·rintro⟨a,b,c,d,e⟩;exact⟨⟨a,b,c⟩,d,e⟩
 ·rintro⟨⟨a,b,c⟩,d,e⟩;exact⟨a,b,c,d,e⟩
end Go.Gg.Tk
namespace Go.Gg
open Go.Conc
section
variable {lv:Bool}{P:SI}{r:Option Nat}{o:Tx}{s:AS}{next:AS->Prop}{bad:AV->AS->Prop}
end
section
variable (lv:Bool)(P:SI)(r:Option Nat)
def CA:List Tx->AS->(AS->Prop)->(AV->AS->Prop)->Prop
 |[],s,K,_=>K s
 |o::rest,s,K,bad=>o.guard=none/\Step lv P r o s (λs'=>CA rest s' K bad) bad
end
section
variable {lv:Bool}{P:SI}{r:Option Nat}{s:AS}
theorem adY{nt:Nat}{all:Array Tx}{Φ:an->AS->Prop}(du:∀o∈all,∀d,o.dst=some d->d<nt)(nQ:∀o∈all,r=none\/mA o.op=false):∀(n k:Nat)(s:AS),k+n=all.size->CA lv P r (all.toList.drop k) s (Φ .normal) (λpv s=>Φ (.panic pv) s)->
  ∀(E:Env)(V:View)(a:Act)(Q:Ex->Act->View->Prop),At E V s a nt->(∀ae e E' V' a' s',Kept E E' V V' a a'->At E' V' s' a' nt->qh E' ae e->Φ ae s'->Q e a' V')->dq lv P r all Q (Ub k n) a V
 |0,k,s,hk,h,E,V,a,Q,ai,hQ=>by
  have:all.toList.drop k=[]:=by simp;omega
  rw[this]at h;exact hQ .normal .normal E V a s (Kept.refl E V a) ai trivial h
 |n+1,k,s,hk,h,E,V,a,Q,ai,hQ=>by
  have hlt:k<all.size:=by omega
  have hd:all.toList.drop k=all[k]::all.toList.drop (k+1):=by
   rw[T4 (by simpa using hlt)];simp
  rw[hd]at h;have fK:all[k]∈all:=X8 hlt;have ho:all[k]?=some all[k]:=SJ hlt;simp only[VW,dq,ho];obtain⟨hg,h⟩:=h;have hw:Tj all[k] (yielded all a.tmps)=true:=by unfold Tj;rw[hg]
  rw[if_pos hw];refine .inl (h E V a _ Q ai.bz ai.tok (λd e=>by rw[ai.size];exact du _ fK d e) (nQ _ fK) (λE' V' a' s' aJ bu my hn=> ?_) (λE' V' s' pv v aJ bu my bx hb=> ?_))
  ·exact adY du nQ n (k+1) s' (by omega) hn E' V' a' Q ⟨bu,my,aJ.size.trans ai.size⟩ (λae e bY aU cu dp fX dj he hΦ=>hQ ae e bY aU cu dp (aJ.trans fX) dj he hΦ)
  ·exact hQ (.panic pv) (.panic _) E' V' a s' aJ ⟨bu,my,ai.size⟩ ⟨v,rfl,bx⟩ hb
theorem agU{nt id:Nat}{ops:Array Tx}{Φ:an->AS->Prop}(hd:jT nt ops=true)(h:CA lv P r ops.toList s (Φ .normal) (λpv s=>Φ (.panic pv) s)):aR lv P r nt (.region id ops false) s Φ:=by
 intro E V a Q ai hQ;refine wp_region ?_;rw[Vx];exact adY (Φ:=Φ) (λo ho d e=>(jT.out hd ho).1 d e) (λo ho=> .inr (jT.out hd ho).2) ops.size 0 s (by omega) (by simpa using h) E V a Q ai hQ
end
section
variable {lv:Bool}{P:SI}{r:Option Nat}{o:Tx}{s:AS}{next:AS->Prop}{bad:AV->AS->Prop}
theorem JY{nt id:Nat}{c:Uc}{l:List AV}{el:TypeId}{Φ:an->AS->Prop}(cg:s.H[id]?=some (.cells l el))(h:aR lv P r nt c ⟨s.T,s.H.set id (.part l.length l el)⟩ Φ):aR lv P r nt c s Φ:=λE V a Q ai hQ=>by
 have hc:=ai.bz;obtain⟨⟨cs,eF,hd⟩,lr⟩:=hc.obj id _ cg;have g:dY V (V.eP (E.blk id) cs (λo=>decide (o<l.length))):=yx eF (λo _=>lr o);refine WP.ghost g ?_;have hI:∀b o v,E.I b o=some v->(V.eP (E.blk id) cs (λo=>decide (o<l.length))).ah b o=some v:=λb o v e=>by
  rw[hc.I]at e;have hb:b≠E.blk id:=λhb=>by rw[hb,lr]at e;cases e
  simp only[View.eP];rw[if_neg (λx=>hb x.1)];exact e
 have hle:E.Le {E with I:=(V.eP (E.blk id) cs (λo=>decide (o<l.length))).ah}:=⟨hI,SO _,λ_ _=>rfl,λ_ _=>SO _,λ_ _ _ _=>rfl,rfl,rfl⟩;have b_:Conc {E with I:=(V.eP (E.blk id) cs (λo=>decide (o<l.length))).ah} (V.eP (E.blk id) cs (λo=>decide (o<l.length))) (s.H.set id (.part l.length l el)):=by
  refine hc.iO id _ hle rfl (by rw[TK];exact hc.n) lD rfl (λ_ _ _=>rfl) (λb y fA hy=>⟨hy,λo=> ?_⟩) ⟨⟨cs,eF,(hd.mono hle).p,λo ho=> ?_⟩,λo ho=> ?_⟩ (λb hb=> .inl ⟨_,cg,hb⟩)
  ·have hb:b≠E.blk id:=λhb=>fA _ cg (by rw[hb];rfl);simp only[View.eP];rw[if_neg (λx=>hb x.1)]
  ·simp only[View.eP];rw[if_pos ⟨trivial,by simpa using ho⟩]
  ·simp only[View.eP];rw[if_neg (λx=>by have:=x.2;simp at this;omega)];exact lr o
 exact h _ _ a Q ⟨b_,ai.tok.mono hle,ai.size⟩ λae e E' aU a' s' hk=>hQ ae e E' aU a' s' ((⟨hle,rfl,rfl,rfl,rfl⟩:Kept E _ V (V.eP (E.blk id) cs (λo=>decide (o<l.length))) a a).trans hk)
def Ak (H:List aa)(b a:AV):Prop:=∀E V v,Conc E V H->ap E b v->ap E a v
theorem Ak.of{H:List aa}{b a:AV}(h:Wk b a):Ak H b a:=λE _ v _ d=>h E v d
theorem Jf{H:List aa}{id n cap m p:Nat}{l:List AV}{el:TypeId}(cg:H[id]?=some (.part p l el))(hm:m<=p)(hp:p<=l.length):Ak H (.bA id 0 n cap) (.sl n (l.take m) .shut):=λE V v hc hd=>by
 cases hd with
 |bA hi dR=>
  rename_i cap';obtain⟨⟨cs,ho,G5,vg⟩,_⟩:=hc.obj id _ cg;refine .sl (E.blk id) 0 cap' (λi=>cs.getD i undef) dR.1 trivial (λi cE=> ?_) (λi x hx=> ?_)
  ·rw[TC]at cE;have hlt:i<cs.size:=(by have:=G5.1;omega);rw[hc.I,Wv,vg i (by omega),SH,SJ hlt];rfl
  ·rw[Ui]at hx;split at hx
   ·exact G5.2 i x hx
   ·cases hx
theorem JZ{nt id j:Nat}{c:Uc}{l:List AV}{x y:AV}{el:TypeId}{Φ:an->AS->Prop}(cg:s.H[id]?=some (.cells l el))(hj:l[j]?=some x)(hw:Ak s.H x y)(h:aR lv P r nt c ⟨s.T,s.H.set id (.cells (l.set j y) el)⟩ Φ):aR lv P r nt c s Φ:=λE V a Q ai hQ=>by
 have hc:=ai.bz;obtain⟨⟨cs,eF,hd⟩,lr⟩:=hc.obj id _ cg;have b_:Conc E V (s.H.set id (.cells (l.set j y) el)):=
  hc.iO id _ (Env.Le.refl _) hc.I (by rw[hc.n,TK]) lD rfl (λ_ _ _=>rfl) (λb y _ hy=>⟨hy,λ_=>rfl⟩) ⟨⟨cs,eF,Rp hd hj (λv d=>hw E V v hc d)⟩,lr⟩ (λb dG=> .inl ⟨_,cg,dG⟩)
 exact h E V a Q ⟨b_,ai.tok,ai.size⟩ hQ
theorem QH{nt t:Nat}{c:Uc}{x y:AV}{Φ:an->AS->Prop}(ht:look s.T t=some x)(hw:Ak s.H x y)(h:aR lv P r nt c ⟨(t,y)::s.T,s.H⟩ Φ):aR lv P r nt c s Φ:=λE V a Q ai hQ=>by
 refine h E V a Q ⟨ai.bz,λt' b e=> ?_,ai.size⟩ hQ;simp only[look]at e;split at e
 ·rename_i e';subst e';cases e;exact⟨(ai.tok t x ht).1,hw E V _ ai.bz (ai.tok t x ht).2⟩
 ·exact ai.tok t' b e
end
open Go.Proofs Go.Gg.Tk
def iC (τ:bh)(n:Nat):Nat->List Int×bh
 |0=>(TO n 0,τ)
 |i+1=>(((iC τ n i).1.set i ((iC τ n i).1.getD (dh (iC τ n i).2 i).toNat 0)).set (dh (iC τ n i).2 i).toNat i,tick (iC τ n i).2)
theorem BG(τ:bh)(n:Nat):∀i,(iC τ n i).1.length=n
 |0=>YP
 |i+1=>by rw[iC,TK,TK,BG τ n i]
theorem Ir{τ:bh}{b:Int}(h:τ.Ok b)(n:Nat):∀i:Nat,(iC τ n i).2.Ok (b+i)
 |0=>h.mono (by simp)
 |i+1=>(Ir h n i).tick.mono (by simp;omega)
theorem ae4(n:Nat):gD (SF .i64 0) n=(TO n (0:Int)).map iv:=by
 have h:∀i∈SR n,AV.p_ ((SF SD 0).cells[i % (SF SD 0).cells.size]!)=iv 0:=λi _=>by
  rw[show (SF SD 0).cells.size=1 from rfl,Nat.mod_one];rfl
 rw[List.map_replicate];unfold gD;rw[VH h,List.map_const',XV]
section
variable {lv:Bool}{k kp:AV->List aa->Prop}{Gf:bh->List aa}{t N:Nat}{τ:bh}{b:Int}
theorem Sa{n:Nat}(hT:dM Gf t N)(hτ:τ.Ok b)(hb:b<2^30)(hn:n<=2^20)(hk:k (aM (iC τ n n).1) (Gf (iC τ n n).2)):ba lv SA 37 (Gf τ) [.op t 0,iv n] k kp:=by
 refine bD (rs:=[.tmp 4]) (nt:=30) Tryz.f37 λhH hA=> ?_;simp only[bp,SU];have u7:∀o:aa,dM (λτ=>Gf τ++[o]) t (N+1):=λo=>hT.more [o];refine aj ?_;refine ab ?_;simp only[seval,ae4,hT.len];refine⟨by omega,by omega,?_⟩;refine aj ?_;refine bP ?_;refine ek n (λi:Nat=>[(6,iv i)]) (λi=>Gf (iC τ n i).2++[.cells ((iC τ n i).1.map iv) 3]) (λ_=>True) (λ_ _=>rfl) (by simp only[seval];simp[bk,Wk.refl]) rfl (λ_ _ _=>by simp[hT.len]) trivial (λbw bG i cw hi R hR=> ?_);clear bw bG;refine aj ?_;refine aD ?_;refine⟨λh=> ?_,λh=> ?_⟩
 ·have br:i<n:=by omega
  have aq:=Ir hτ n i;have hlen:=BG τ n i;have zk:SD.wrap ((i:Int)+1)=i+1:=bc _ (by omega);have dw:iC τ n (i+1)=(((iC τ n i).1.set i ((iC τ n i).1.getD (dh (iC τ n i).2 i).toNat 0)).set (dh (iC τ n i).2 i).toNat i,tick (iC τ n i).2):=rfl;generalize iC τ n i=m at aq hlen dw⊢;obtain⟨l,σ⟩:=m;simp only at aq hlen dw;have hr:=lJ σ i;refine aF ?_;refine aj ?_;refine aK ((pC (u7 _) aq (by omega) (by omega) ?_));(try simp only[seval]);generalize dh σ i=u at hr dw⊢;obtain⟨u,rfl⟩:∃w:Nat,u=w:=⟨u.toNat,by omega⟩;rw[VK]at dw;have hul:u<n:=by omega
  obtain⟨a,ha⟩:=bE (xs:=l) (i:=u) (by omega);have Mg:l.getD u 0=a:=by rw[SE,ha];rfl
  rw[Mg]at dw;obtain⟨a2,Ds⟩:=bE (xs:=l) (i:=i) (by omega);have Hr:(i+1<=l.length)=True:=by simp;omega
  have hou:(u+1<=(l.set i a).length)=True:=by simp;omega
  refine ab ?_;simp only[seval,iR br,iR hul,hT.len,hT.g0,hT.g1,hT.g2,hT.g3,hT.h2,hT.h3,hT.s0,hT.s1,hT.s2,hT.s3,hT.t2,hT.t3,lc ha,Ta,Hr,xF (y:=a) (show i<l.length by omega)];refine ab ?_;simp only[seval,iR hul,hT.len,hT.g0,hT.g1,hT.g2,hT.g3,hT.h2,hT.h3,hT.s0,hT.s1,hT.s2,hT.s3,hT.t2,hT.t3,Ta,hou,xF (xs:=l.set i a) (y:=i) (show u<(l.set i a).length by simp;omega)];refine ab ?_;simp only[seval,zk];refine hR _ ⟨br,trivial,?_⟩;rw[dw];exact bX
 ·have iw:i=n:=by omega
  subst iw;clear hR;refine bO ?_;have hlen:=BG τ i i;generalize iC τ i i=m at hlen hk⊢;obtain⟨l,σ⟩:=m;simp only at hlen hk
  (repeat apply eT);refine JY (id:=N) (by simp only[seval,hT.len,hT.g0,hT.g1,hT.g2,hT.g3,hT.h2,hT.h3,hT.s0,hT.s1,hT.s2,hT.s3,hT.t2,hT.t3]<;>rfl) ?_
  simp only[seval,hT.len,hT.g0,hT.g1,hT.g2,hT.g3,hT.h2,hT.h3,hT.s0,hT.s1,hT.s2,hT.s3,hT.t2,hT.t3]
  (repeat apply eT);refine QH (t:=5) (y:=aM l) (by simp only[seval]<;>rfl) ?_ ?_
  ·have e:aM l=.sl i ((l.map iv).take i) .shut:=by
    rw[SW (by simp;omega),aM,hlen]
   rw[e];exact Jf (p:=l.length) (by simp only[seval,hT.len,hT.g0,hT.g1,hT.g2,hT.g3,hT.h2,hT.h3,hT.s0,hT.s1,hT.s2,hT.s3,hT.t2,hT.t3]<;>rfl) (by omega) (by simp)
  refine aj ?_;refine aX ?_;exact jE (b:=aM l) (H':=Gf σ) (G:=[.part l.length (l.map iv) 3]) (Wk.refl _) rfl (by simp[hT.len]) (hT.aq hH σ) (by rw[zu];trivial) hk
end
structure JE (p:List Int)(n:Nat):Prop where
 len:p.length=n
 nodup:p.Nodup
 IT:∀v∈p,0<=v/\v<(n:Int)
theorem set_perm{t:List Int}{k:Nat}{a b:Int}(h:t[k]?=some a):(t.set k b++[a]).Perm (t++[b]):=by
 obtain⟨hk,rfl⟩:=SL.1 h;have e:t=t.take k++t[k]::t.drop (k+1):=by rw[<- T4 hk,Vu]
 rw[XY,if_pos hk]
 conv=>rhs;rw[e]
 rw[List.perm_iff_count];intro v;simp only[List.count_append,List.count_cons,List.count_nil];omega
theorem acs(τ:bh)(n:Nat):∀i:Nat,i<=n->((iC τ n i).1.take i).Nodup/\∀v∈(iC τ n i).1.take i,0<=v/\v<(i:Int)
 |0,_=>by simp
 |i+1,hi=>by
  obtain⟨h1,h2⟩:=acs τ n i (by omega);have hlen:=BG τ n i;rw[iC];generalize iC τ n i=m at h1 h2 hlen⊢;obtain⟨l,σ⟩:=m;simp only at h1 h2 hlen⊢;have hr:=lJ σ i;generalize dh σ i=u at hr⊢;obtain⟨k,rfl⟩:∃w:Nat,u=w:=⟨u.toNat,by omega⟩;rw[VK];obtain⟨a,ha⟩:=bE (xs:=l) (i:=k) (by omega);obtain⟨c,hc⟩:=bE (xs:=l) (i:=i) (by omega);have Mg:l.getD k 0=a:=by rw[SE,ha];rfl
  have xg:(l.take i).length=i:=by rw[TC];omega
  have hp:(((l.set i a).set k (i:Int)).take (i+1)).Perm (l.take i++[(i:Int)]):=by
   rw[ad',ad',Uo,hc];show ((((l.take i)++[c]).set i a).set k (i:Int)).Perm _;rw[Ue _ _ (by omega),xg,Vp];show (((l.take i)++[a]).set k (i:Int)).Perm _;by_cases e:k=i
   ·subst e;rw[Ue _ _ (by omega),xg,Vp];exact aj_ _
   ·rw[U1 _ _ (by omega)];exact set_perm (by rw[Ui,if_pos (by omega)];exact ha)
  rw[Mg];refine⟨(au' hp).2 ?_,λv hv=> ?_⟩
  ·exact Vh.2 ⟨h1,by simp,λx hx y hy e=>by
    have:=h2 x hx;simp at hy;omega⟩
  ·rcases SV.1 (hp.mem_iff.1 hv)with hv|hv
   ·have:=h2 v hv;omega
   ·simp at hv;omega
theorem acu(τ:bh)(n:Nat):JE (iC τ n n).1 n:=by
 obtain⟨h1,h2⟩:=acs τ n n (SO _);rw[SW (by rw[BG];exact SO _)]at h1 h2;exact⟨BG τ n n,h1,h2⟩
theorem CO{τ:bh}{n m lo hi:Int}(hn:lo<=n/\n<=hi)(pM:0<=lo):sU (nA τ n m lo hi) hi/\gQ (nA τ n m lo hi) n=true:=by
 have r1:=lJ τ m;have r2:=lJ (tick τ) m;unfold nA;refine⟨⟨?_,?_,?_⟩,?_⟩
 ·dsimp only;omega
 ·dsimp only;omega
 ·dsimp only;omega
 ·unfold gQ;rw[Te,decide_eq_true_eq,decide_eq_true_eq];dsimp only;omega
theorem KH(τ:bh){ns:List Int}(h:ns≠[]):wH τ ns∈ns:=by
 unfold wH;have hl:0<ns.length:=VB.2 h;have r:=lJ τ ((ns.length:Int)-1);have hi:(dh τ ((ns.length:Int)-1)).toNat<ns.length:=by omega
 rw[SE,SY hi];exact Ww hi
def xI (τ:bh)(am:Int):Int:=wH (tick τ) [0,am,dh τ am]
theorem ad7(τ:bh){am:Int}(h:0<=am):0<=xI τ am/\xI τ am<=am:=by
 have r:=lJ τ am;have:=KH (tick τ) (ns:=[0,am,dh τ am]) (by simp);unfold xI;simp only[SK,SZ,or_false]at this;omega
def lw (τ:bh)(first am:Int):Nat->List Int×bh
 |0=>([first],τ)
 |i+1=>((lw τ first am i).1++[(lw τ first am i).1.getD i 0+xI (lw τ first am i).2 am],tick (tick (lw τ first am i).2))
structure ni (first am:Int)(l:List Int)(i:Nat):Prop where
 len:l.length=i+1
 head:l.getD 0 0=first
 step:∀j,j<i->l.getD j 0<=l.getD (j+1) 0/\l.getD (j+1) 0<=l.getD j 0+am
theorem wJ{l:List Int}{v:Int}{j:Nat}(h:j<l.length):(l++[v]).getD j 0=l.getD j 0:=by
 rw[SE,SE,S0 h]
theorem aam{l:List Int}{v:Int}{j:Nat}(h:l.length=j):(l++[v]).getD j 0=v:=by
 subst h;rw[SE,S_ (SO _),Vp];rfl
theorem aa0(τ:bh)(first:Int){am:Int}(h:0<=am):∀i,ni first am (lw τ first am i).1 i
 |0=>⟨rfl,rfl,λj hj=>by omega⟩
 |i+1=>by
  have ih:=aa0 τ first h i
  rw[lw];have hs:=ad7 (lw τ first am i).2 h;generalize xI (lw τ first am i).2 am=v at hs⊢;generalize(lw τ first am i).1=l at ih⊢;have hl:=ih.len;refine⟨by rw[SQ,hl];rfl,by rw[wJ (by omega)];exact ih.head,λj hj=> ?_⟩;by_cases cx:j<i
  ·rw[wJ (by omega),wJ (by omega)];exact ih.step j cx
  ·have:j=i:=(by omega);subst this;rw[wJ (by omega),aam (by omega)];omega
theorem aa1{τ:bh}{b:Int}(h:τ.Ok b)(first am:Int):∀i:Nat,(lw τ first am i).2.Ok (b+2* i)
 |0=>h.mono (by simp)
 |i+1=>(aa1 h first am i).tick.tick.mono (by simp;omega)
theorem ni.ge{first am:Int}{l:List Int}{i:Nat}(h:ni first am l i)(hp:0<=am):∀j,j<=i->first<=l.getD j 0/\l.getD j 0<=first+am* j
 |0,_=>by rw[h.head];simp
 |j+1,hj=>by
  have ih:=h.ge hp j (by omega);have:=h.step j (by omega);have e:am* ((j+1:Nat):Int)=am* j+am:=by rw[Int.natCast_add,Int.mul_add];simp
  omega
def kQ (first:Int)(order:List Int)(i:Nat):List Int:=(SR i).map λj=>first+order.getD j 0
theorem acF(first:Int)(order:List Int)(i:Nat):kQ first order (i+1)=kQ first order i++[first+order.getD i 0]:=by
 unfold kQ;rw[UZ,To];rfl
theorem acE(first:Int)(order:List Int)(i:Nat):(kQ first order i).length=i:=by simp[kQ]
def kG (h:List Int)(hours:Int)(num:Nat->Int)(τ:bh):Nat->List aB×bh
 |0=>([],τ)
 |i+1=>((kG h hours num τ i).1++[lP (tick (kG h hours num τ i).2) h (num i) hours],tick (tick (tick (tick (tick (kG h hours num τ i).2)))))
theorem A0(h:List Int)(hours:Int)(num:Nat->Int)(τ:bh):∀i,(kG h hours num τ i).1.length=i
 |0=>rfl
 |i+1=>by rw[kG,SQ,A0 h hours num τ i];rfl
theorem LQ{τ:bh}{b:Int}(hτ:τ.Ok b)(h:List Int)(hours:Int)(num:Nat->Int):∀i:Nat,(kG h hours num τ i).2.Ok (b+5* i)
 |0=>hτ.mono (by simp)
 |i+1=>(LQ hτ h hours num i).tick.tick.tick.tick.tick.mono (by simp;omega)
def sG (h:List Int)(hours:Int)(τ:bh):Nat->List Seen×bh
 |0=>([],τ)
 |i+1=>((sG h hours τ i).1++[⟨dh (sG h hours τ i).2 hours,nA (tick (sG h hours τ i).2) (h.getD (dh (sG h hours τ i).2 hours).toNat 0) 1 0 99⟩],tick (tick (tick (sG h hours τ i).2)))
theorem adz(h:List Int)(hours:Int)(τ:bh):∀i,(sG h hours τ i).1.length=i
 |0=>rfl
 |i+1=>by rw[sG,SQ,adz h hours τ i];rfl
theorem adB{τ:bh}{b:Int}(hτ:τ.Ok b)(h:List Int)(hours:Int):∀i:Nat,(sG h hours τ i).2.Ok (b+3* i)
 |0=>hτ.mono (by simp)
 |i+1=>(adB hτ h hours i).tick.tick.tick.mono (by simp;omega)
theorem adA{h:List Int}{hours:Int}{τ:bh}(hu:∀τ,0<=dh τ hours/\dh τ hours<=hours):∀i,∀s∈(sG h hours τ i).1,0<=s.hour/\s.hour<=hours/\∃σ,s.next=nA σ (h.getD s.hour.toNat 0) 1 0 99
 |0,s,hs=>by cases hs
 |i+1,s,hs=>by
  rw[sG]at hs;rcases SV.1 hs with hs|hs
  ·exact adA hu i s hs
  ·rw[S9]at hs;subst hs;exact⟨(hu _).1,(hu _).2,_,rfl⟩
structure FR (h:List Int)(hours n:Int)(y:aB):Prop where
 num:sU y.number 99
 hour:sU y.hour (hours-1)
 fits:fits h y n=true
theorem LP{h:List Int}{hours:Int}{num:Nat->Int}{τ:bh}{P:Int->aB->Prop}(hP:∀τ n,P n (lP τ h n hours)):∀i j y,(kG h hours num τ i).1[j]?=some y->P (num j) y
 |0,j,y,hy=>by cases hy
 |i+1,j,y,hy=>by
  rw[kG]at hy;have hl:=A0 h hours num τ i;by_cases hj:j<i
  ·rw[S0 (by omega)]at hy;exact LP hP i j y hy
  ·rw[S_ (by omega),hl]at hy;have:j=i:=(by have:=(SL.1 hy).1;simp at this;omega);subst this;rw[Vp]at hy;cases hy;exact hP _ _
section
variable {lv:Bool}{P:SI}{r:Option Nat}{s:AS}
theorem CS{nt:Nat}{x y:Uc}{α:Type}{Φ Ψ:an->AS->Prop}(inv:α->AS)(ok:α->Prop)(h1:aR lv P r nt x s (an.then (λs'=>∃a,ok a/\s'.Sub (inv a)) Ψ))(h2:∀a,ok a->aR lv P r nt y (inv a) Φ):aR lv P r nt x s (an.then (λs'=>aR lv P r nt y s' Φ) Ψ):=
 h1.mono λe s' h=>by
  cases e with
  |normal=>
   obtain⟨a,h3,h4⟩:=h;exact nD h4 (h2 a h3)
  |_=>exact h
end
theorem PY:gD (SF .i64 0) 3=[iv 0,iv 0,iv 0]:=rfl
theorem zE4:gD (SF .i64 0) 4=[iv 0,iv 0,iv 0,iv 0]:=rfl
theorem wc:gD (TA #[SF .i64 0,SF .i64 0,SF .i64 0,SF .i64 0]) 4=[iv 0,iv 0,iv 0,iv 0]:=rfl
theorem zS1:gD (TA #[SF .i64 0,SF .i64 0,SF .i64 0]) 3=[iv 0,iv 0,iv 0]:=rfl
theorem E_:(3<=2^24)=True:=eq_true (by decide)
theorem sD:(4<=2^24)=True:=eq_true (by decide)
theorem up:(1<=2^24)=True:=eq_true (by decide)
theorem aeU{first am w v:Int}{i:Nat}(h1:first<=w/\w<=first+am* i)(h2:0<=v/\v<=am)(hf:0<=first/\first<=90)(hp:1<=am/\am<=3)(hi:i<=3):0<=w+v/\w+v<=1000:=by
 have:am* (i:Int)<=3* 3:=Yo (by omega) (by omega) (by omega) (by omega);generalize am* (i:Int)=q at h1 this;omega
theorem NE{n:Int}(h:0<=n/\n<=1000):SD.wrap n=n:=bc _ (by omega)
theorem PB(h:List Int)(n:Int):∀m:Nat, -1<=j6 h n m/\j6 h n m<m
 |0=>by simp[j6]
 |m+1=>by
  have:=PB h n m;unfold j6;split
  ·omega
  ·omega
theorem Lb:∀l:List aB,(l.flatMap aB.l).length=l.length* 4
 |[]=>rfl
 |a::l=>by rw[TW,SQ,Lb l,aB.len,Un];omega
theorem St:∀l:List Seen,(l.flatMap Seen.l).length=l.length* 3
 |[]=>rfl
 |a::l=>by rw[TW,SQ,St l,Seen.len,Un];omega
theorem Lc{α:Type}{f:α->List AV}{l:List α}{a:α}:(l++[a]).flatMap f=l.flatMap f++f a:=by rw[Uk];simp
theorem aoP{α:Type}{f:Nat->α}{l:List α}{n:Nat}(hl:l.length=n)(h:∀i,i<n->l[i]?=some (f i)):(SR n).map f=l:=by
 refine Yw λi=> ?_;rw[Tp];by_cases hi:i<n
 ·rw[XH hi,UW,h i hi]
 ·rw[Ux (by simp;omega),Ux (by omega)];rfl
def P6 (a b:Nat):Prop:=(if(a:Int)<(b:Int)then(a:Int)else(b:Int))=((min b a:Nat):Int)
theorem acr(a b:Nat):P6 a b:=by unfold P6;split<;>omega
structure Made (pm:Nat)(x:ak)(aT az bI:List Int):Prop where
 first:0<=x.first/\x.first<=90
 hours:1<=x.hours/\x.hours<=3
 am:1<=x.am/\x.am<=3
 Hc:ni x.first x.am aT x.hours.toNat
 ao1:x.pieces.length<=pm
 vW:az.length=x.pieces.length
 num:∀n∈az,x.first<=n/\n<aT.getD x.hours.toNat 0
 Iu:az.Nodup
 piece:∀(p:Nat) y,x.pieces[p]?=some y->∃τ,y=lP τ aT (az.getD p 0) x.hours
 xy:bI.length=x.aC.length
 aC:x.aC.length<=3
 own:∀v∈bI,0<=v/\v<(az.length:Int)
 IH:bI.Nodup
 stub:∀(s:Nat) y,x.aC[s]?=some y->∃τ,y=lP τ aT (az.getD (bI.getD s 0).toNat 0) x.hours
 xE:x.seen.length<=2
 seen:∀s∈x.seen,0<=s.hour/\s.hour<=x.hours/\∃τ,s.next=nA τ (aT.getD s.hour.toNat 0) 1 0 99
structure YOk (Gf:bh->List aa)(N:Nat)(zc:aa)(YY:List AV->Nat->Nat->Nat->Nat->Nat->List aa):Prop where
 len:∀r a b c d e,(YY r a b c d e).length=8
 y0:∀τ r a b c d e,(Gf τ++YY r a b c d e)[N]?=some zc
 y1:∀τ r a b c d e,(Gf τ++YY r a b c d e)[N+1]?=some (.cells r 26)
 y3:∀τ r a b c d e,(Gf τ++YY r a b c d e)[N+3]?=some (.tail a 4 48)
 y4:∀τ r a b c d e,(Gf τ++YY r a b c d e)[N+4]?=some (.tail b 4 48)
 y5:∀τ r a b c d e,(Gf τ++YY r a b c d e)[N+5]?=some (.tail c 3 61)
 y6:∀τ r a b c d e,(Gf τ++YY r a b c d e)[N+6]?=some (.tail d 1 3)
 y7:∀τ r a b c d e,(Gf τ++YY r a b c d e)[N+7]?=some (.tail e 1 3)
 z1:∀τ r r' a b c d e,(Gf τ++YY r a b c d e).set (N+1) (.cells r' 26)=Gf τ++YY r' a b c d e
 z3:∀τ r a a' b c d e,(Gf τ++YY r a b c d e).set (N+3) (.tail a' 4 48)=Gf τ++YY r a' b c d e
 z4:∀τ r a b b' c d e,(Gf τ++YY r a b c d e).set (N+4) (.tail b' 4 48)=Gf τ++YY r a b' c d e
 z5:∀τ r a b c c' d e,(Gf τ++YY r a b c d e).set (N+5) (.tail c' 3 61)=Gf τ++YY r a b c' d e
 z6:∀τ r a b c d d' e,(Gf τ++YY r a b c d e).set (N+6) (.tail d' 1 3)=Gf τ++YY r a b c d' e
 s0:∀r a b c d e y,∃L,(YY r a b c d e).set 0 y=y::L
 z7:∀τ r a b c d e e',(Gf τ++YY r a b c d e).set (N+7) (.tail e' 1 3)=Gf τ++YY r a b c d e'
noncomputable def oE:Uc:=WY.body.getD .skip
def kZ:Nat->Uc->Uc
 |0,c=>c
 |n+1,c=>kZ n (cs c)
section
variable {lv:Bool}{P:SI}{r:Option Nat}{o:Tx}{s:AS}{next:AS->Prop}{bad:AV->AS->Prop}
theorem agR{nt id sz:Nat}{c:Uc}{l:List AV}{el:TypeId}{Φ:an->AS->Prop}(cg:s.H[id]?=some (.own sz l el))(h:aR lv P r nt c ⟨s.T,s.H.set id (.part l.length l el)⟩ Φ):aR lv P r nt c s Φ:=λE V a Q ai hQ=>by
 have hc:=ai.bz;obtain⟨⟨cs,eF,hd,_⟩,lr⟩:=hc.obj id _ cg;have g:dY V (V.eP (E.blk id) cs (λo=>decide (o<l.length))):=yx eF (λo _=>lr o);refine WP.ghost g ?_;have hI:∀b o v,E.I b o=some v->(V.eP (E.blk id) cs (λo=>decide (o<l.length))).ah b o=some v:=λb o v e=>by
  rw[hc.I]at e;have hb:b≠E.blk id:=λhb=>by rw[hb,lr]at e;cases e
  simp only[View.eP];rw[if_neg (λx=>hb x.1)];exact e
 have hle:E.Le {E with I:=(V.eP (E.blk id) cs (λo=>decide (o<l.length))).ah}:=⟨hI,SO _,λ_ _=>rfl,λ_ _=>SO _,λ_ _ _ _=>rfl,rfl,rfl⟩;have b_:Conc {E with I:=(V.eP (E.blk id) cs (λo=>decide (o<l.length))).ah} (V.eP (E.blk id) cs (λo=>decide (o<l.length))) (s.H.set id (.part l.length l el)):=by
  refine hc.iO id _ hle rfl (by rw[TK];exact hc.n) lD rfl (λ_ _ _=>rfl) (λb y fA hy=>⟨hy,λo=> ?_⟩) ⟨⟨cs,eF,hd.mono hle,λo ho=> ?_⟩,λo ho=> ?_⟩ (λb hb=> .inl ⟨_,cg,hb⟩)
  ·have hb:b≠E.blk id:=λhb=>fA _ cg (by rw[hb];rfl);simp only[View.eP];rw[if_neg (λx=>hb x.1)]
  ·simp only[View.eP];rw[if_pos ⟨trivial,by simpa using ho⟩]
  ·simp only[View.eP];rw[if_neg (λx=>by have:=x.2;simp at this;omega)];exact lr o
 exact h _ _ a Q ⟨b_,ai.tok.mono hle,ai.size⟩ λae e E' aU a' s' hk=>hQ ae e E' aU a' s' ((⟨hle,rfl,rfl,rfl,rfl⟩:Kept E _ V (V.eP (E.blk id) cs (λo=>decide (o<l.length))) a a).trans hk)
end
section
variable {lv:Bool}{P:SI}{r:Option Nat}{s:AS}
theorem agP{nt:Nat}{α:Type}{lt:α->α->Prop}(wf:WellFounded lt){c:Uc}{Φ:an->AS->Prop}(V:α->List (Nat×AV))(Hf:α->List aa)(ok:α->Prop)(m0:α)
  (vq:∀m m',(V m).map (·.1)=(V m').map (·.1)) (gI:∀p∈V m0,∃b,look s.T p.1=some b/\Wk b p.2) (u5:Hf m0=s.H) (hl:∀m,ok m->s.H.length<=(Hf m).length) (hm:ok m0)
  (h:bJ s.H->(∀t a,look s.T t=some a->Lt s.H.length a)->∀m,ok m->∀R:AS->Prop,(∀s',(∃m',lt m' m/\ok m'/\rD s.T (V m) (V m') (Hf m') s')->R s')->aR lv P r nt c ⟨V m++s.T,Hf m⟩ (an.then R Φ)):aR lv P r nt (.loop c) s Φ:=by
 have same:∀m m' t,look (V m) t=none->look (V m') t=none:=λm m' t h=>Oe λp hp e=>by
  have h1:p.1∈(V m').map (·.1):=Tf.2 ⟨p,hp,rfl⟩;rw[vq m' m]at h1;obtain⟨q,hq,e'⟩:=Tf.1 h1;have h2:((V m).any λx=>x.1==t)=true:=UO.2 ⟨q,hq,by simp[e',e]⟩;obtain⟨a,ha⟩:=Od h2;rw[h]at ha;cases ha
 intro E V0 a Q ai hQ;have hlt:∀t a,look s.T t=some a->Lt s.H.length a:=λt x e=>by rw[<- ai.bz.n];exact(ai.tok t x e).2.lt
 have h0:s.Sub ⟨V m0++s.T,Hf m0⟩:=⟨λt x e=>by
  rw[vT]at e;cases hl:look (V m0) t with
  |none=>rw[hl]at e;exact⟨x,e,Wk.refl x⟩
  |some y=>rw[hl]at e;cases e;exact gI (t,x) (o5 hl),u5.symm⟩
 refine QA wf (s:=s) (λm=>⟨V m++s.T,Hf m⟩) ok m0 h0 hm hl (λm aq=> ?_) E V0 a Q ai hQ;refine(h ai.bz.aq hlt m aq _ λ_ h=>h).mono λe s' hΦ=> ?_;cases e with
 |normal=>
  obtain⟨m',q1,q2,hk,hv,G,hG,tP⟩:=hΦ;have tok:∀t x,look (V m'++s.T) t=some x->∃b,look s'.T t=some b/\Wk b x/\(look (V m') t=some x\/look s.T t=some x):=λt x e=>by
   rw[vT]at e;cases hl:look (V m') t with
   |none=>
    rw[hl]at e;have hb:look (V m++s.T) t=some x:=(by rw[vT,same m' m t hl];exact e);exact⟨x,hk.look hb hl,Wk.refl x,.inr e⟩
   |some y=>
    rw[hl]at e;cases e;obtain⟨b,h1,h2⟩:=hv (t,x) (o5 hl);exact⟨b,h1,h2,.inl rfl⟩
  refine⟨m',q1,q2,?_⟩;rcases tP with rfl|⟨nX,MC⟩
  ·exact .inl ⟨λt x e=>by obtain⟨b,h1,h2,_⟩:=tok t x e;exact⟨b,h1,h2⟩,by rw[hG,SN]⟩
  ·refine .inr ⟨λt x e=> ?_,⟨G,hG⟩,nX⟩;obtain⟨b,h1,h2,h3⟩:=tok t x e;refine⟨b,h1,h2,?_⟩;rcases h3 with h3|h3
   ·exact MC (t,x) (o5 h3)
   ·show Lt (Hf m').length x;exact(hlt t x h3).mono (hl m' q2)
 |_=>exact hΦ
theorem Qy{nt:Nat}{c:Uc}{Φ:an->AS->Prop}(n:Nat)(V:Nat->List (Nat×AV))(Hf:Nat->List aa)(ok:Nat->Prop)
  (vq:∀m m',(V m).map (·.1)=(V m').map (·.1)) (gI:∀p∈V 0,∃b,look s.T p.1=some b/\Wk b p.2) (u5:Hf 0=s.H) (hl:∀m,m<=n->ok m->s.H.length<=(Hf m).length) (hm:ok 0)
  (h:bJ s.H->(∀t a,look s.T t=some a->Lt s.H.length a)->∀m,m<=n->ok m->∀R:AS->Prop,(∀s',(m<n/\ok (m+1)/\rD s.T (V m) (V (m+1)) (Hf (m+1)) s')->R s')->aR lv P r nt c ⟨V m++s.T,Hf m⟩ (an.then R Φ)):aR lv P r nt (.loop c) s Φ:=by
 refine agP (measure λi=>n-i).wf V Hf (λi=>i<=n/\ok i) 0 vq gI u5 (λm h=>hl m h.1 h.2) ⟨X9 _,hm⟩ (λh1 h2 m aq R hR=> ?_);exact h h1 h2 m aq.1 aq.2 R λs' ⟨q1,q2,q3⟩=>hR s' ⟨m+1,(by show n-(m+1)<n-m;omega),⟨q1,q2⟩,q3⟩
end
def gO:Nat->aa->List aa
 |0,_=>[]
 |n+1,o=>TO n .gone++[o]
theorem yw:∀(n:Nat)(o:aa),(gO n o).length=n
 |0,_=>rfl
 |n+1,o=>by simp[gO]
theorem De(n:Nat)(o:aa)(R:List aa):(gO (n+1) o++R)[n]?=some o:=by
 rw[S0 (by rw[yw];omega),gO,S_ (by simp)];simp
theorem Df(n:Nat)(o o':aa)(R:List aa):(gO (n+1) o++R).set n o'=gO (n+1) o'++R:=by
 rw[U1 _ _ (by rw[yw];omega),gO,Ue _ _ (by simp)];simp[gO]
theorem aal(n:Nat)(o:aa):gO (n+1) .gone++[o]=gO (n+2) o:=by
 simp only[gO,List.replicate_succ']
def fD (j n:Nat):AV:=match n with
 |0=> .sl 0 [] .exact
 |n+1=> .bA (j+n) 0 (n+1) 0
def fN (l:List aB):aa:=.own 4 (l.flatMap aB.l) 48
structure YW (Gf:bh->List aa)(N:Nat)(zc:aa)(YY:List AV->Nat->Nat->Nat->List aa):Prop where
 len:∀r c d e,(YY r c d e).length=6
 n:∀τ r c d e G,(Gf τ++(YY r c d e++G)).length=N+6+G.length
 y0:∀τ r c d e G,(Gf τ++(YY r c d e++G))[N]?=some zc
 y1:∀τ r c d e G,(Gf τ++(YY r c d e++G))[N+1]?=some (.cells r 26)
 y3:∀τ r c d e G,(Gf τ++(YY r c d e++G))[N+3]?=some (.tail c 3 61)
 y4:∀τ r c d e G,(Gf τ++(YY r c d e++G))[N+4]?=some (.tail d 1 3)
 y5:∀τ r c d e G,(Gf τ++(YY r c d e++G))[N+5]?=some (.tail e 1 3)
 z1:∀τ r r' c d e G,(Gf τ++(YY r c d e++G)).set (N+1) (.cells r' 26)=Gf τ++(YY r' c d e++G)
 z3:∀τ r c c' d e G,(Gf τ++(YY r c d e++G)).set (N+3) (.tail c' 3 61)=Gf τ++(YY r c' d e++G)
 z4:∀τ r c d d' e G,(Gf τ++(YY r c d e++G)).set (N+4) (.tail d' 1 3)=Gf τ++(YY r c d' e++G)
 z5:∀τ r c d e e' G,(Gf τ++(YY r c d e++G)).set (N+5) (.tail e' 1 3)=Gf τ++(YY r c d e'++G)
 w:∀τ r c d e G m,(Gf τ++(YY r c d e++G))[N+6+m]?=G[m]?
 v:∀τ r c d e G m y,(Gf τ++(YY r c d e++G)).set (N+6+m) y=Gf τ++(YY r c d e++G.set m y)
 s0:∀r c d e y,∃L,(YY r c d e).set 0 y=y::L
section
variable {Gf:bh->List aa}{N:Nat}{zc:aa}{YY:List AV->Nat->Nat->Nat->List aa}(h:YW Gf N zc YY)
include h
theorem YW.n0(τ r c d e):(Gf τ++YY r c d e).length=N+6:=by have:=h.n τ r c d e [];rwa [SN]at this
theorem YW.w0(τ r c d e G):(Gf τ++(YY r c d e++G))[N+6]?=G[0]?:=h.w τ r c d e G 0
theorem YW.zY(τ r c d e):(Gf τ++YY r c d e)[N+1]?=some (.cells r 26):=by have:=h.y1 τ r c d e [];rwa [SN]at this
theorem YW.zZ(τ r r' c d e):(Gf τ++YY r c d e).set (N+1) (.cells r' 26)=Gf τ++YY r' c d e:=by have:=h.z1 τ r r' c d e [];rwa [SN,SN]at this
end
theorem aum{Gf:bh->List aa}{t N:Nat}{zc o2:aa}{YY:List AV->Nat->Nat->Nat->List aa}(hT:dM Gf t N)(h:∀r c d e,YY r c d e=[zc,.cells r 26,o2,.tail c 3 61,.tail d 1 3,.tail e 1 3]):YW Gf N zc YY:=by
 have n4:∀τ (L:List aa)(j:Nat),(Gf τ++L)[N+j]?=L[j]?:=λτ L j=>by rw[<- hT.len τ,aZ]
 have dU:∀τ (L:List aa)(j:Nat)(y:aa),(Gf τ++L).set (N+j) y=Gf τ++L.set j y:=λτ L j y=>by rw[<- hT.len τ,dH]
 have hl:∀r c d e,(YY r c d e).length=6:=λr c d e=>by rw[h];rfl
 refine⟨hl,λτ r c d e G=>by rw[SQ,SQ,hl,hT.len];omega,λτ r c d e G=> ?_,λτ r c d e G=>by rw[n4,h];rfl,λτ r c d e G=>by rw[n4,h];rfl,λτ r c d e G=>by rw[n4,h];rfl,λτ r c d e G=>by rw[n4,h];rfl,λτ r r' c d e G=>by rw[dU,h,h];rfl,λτ r c c' d e G=>by rw[dU,h,h];rfl,λτ r c d d' e G=>by rw[dU,h,h];rfl,λτ r c d e e' G=>by rw[dU,h,h];rfl,λτ r c d e G m=> ?_,λτ r c d e G m y=> ?_,λr c d e y=>⟨_,by rw[h];rfl⟩⟩
 ·have:=n4 τ (YY r c d e++G) 0;rw[UJ]at this;rw[this,h];rfl
 ·rw[U5,n4,S_ (by rw[hl];omega),hl,T5]
 ·rw[U5,dU,Ue _ _ (by rw[hl];omega),hl,T5]
section
variable {lv:Bool}{k kp:AV->List aa->Prop}{Gf:bh->List aa}{t N:Nat}{b:Int}
theorem ajm{pm i mn:Nat}{first am:Int}{l order:List Int}{ρ:bh}{zc:aa}{YY:List AV->Nat->Nat->Nat->List aa}{hz:Bool}{Ψ:an->AS->Prop}(hT:dM Gf t N)(hY:YW Gf N zc YY)(hH:∀τ,bJ (Gf τ))(hb:b<2^10)(tY:pm<=4)(hi:1<=i/\i<=3)(oR:0<=first/\first<=90)(eY:l.length=i+1)(MG:mn<=9)(qQ:JE order mn)(qU:ρ.Ok (b+19)):
  aR lv SA none 240 (cs (cf (kZ 7 oE))) ⟨[(17,iv 0),(16,.sl 0 [] (.opn (N+5))),(15,.sl 0 [] (.opn (N+4))),(14,aM order),(13,iv mn),(11,.sl (i+1) (l.map iv) (.opn (N+2))),(10,.op (N+1) 0),(6,.op N 0),(0,.op t 0),(1,iv pm),(2,bv hz)],Gf ρ++YY [iv first,iv i,iv am,.sl 0 [] (.opn (N+3)),.sl 0 [] .exact,.sl 0 [] .exact] 0 0 0⟩ (an.then (λs'=>∃y:Nat×bh,(y.1<=pm/\y.1<=mn/\y.2.Ok (b+60))/\s'.Sub ⟨[(16,.sl 0 [] (.opn (N+5))),(15,.sl y.1 ((kQ first order y.1).map iv) (.opn (N+4))),(13,iv mn),(11,.sl (i+1) (l.map iv) (.opn (N+2))),(10,.op (N+1) 0),(6,.op N 0),(0,.op t 0),(2,bv hz)],Gf y.2++(YY [iv first,iv i,iv am,.sl 0 [] (.opn (N+3)),fD (N+6) y.1,.sl 0 [] .exact] 0 y.1 0++gO y.1 (fN (kG l i (λj=>first+order.getD j 0) ρ y.1).1))⟩) Ψ):=by
 have n0:=hY.n0;have w0:=hY.w0;have EZ:(1<=2^30)=True:=eq_true (by decide);have zY:=hY.zY;have zZ:=hY.zZ;obtain⟨u9,rS,y0,y1,y3,y4,y5,ng,z8,Cf,Cg,qD,tJ,dg⟩:=hY;have jG:∀L:List aa,dM (λτ=>Gf τ++L) t (N+L.length):=λL=>hT.more L;obtain⟨hv,A'⟩:∃hv:Nat->List aB×bh,∀j,hv j=kG l i (λj=>first+order.getD j 0) ρ j:=⟨_,λ_=>rfl⟩;simp only[<- A'];have No:∀j,(hv j).1.length=j:=λj=>by rw[A'];exact A0 _ _ _ _ _
 have hvt:∀j:Nat,(hv j).2.Ok (b+19+5* j):=λj=>by rw[A'];exact(LQ qU _ _ _ j).mono (by omega)
 have si:hv 0=([],ρ):=A' 0;unfold oE WY;dsimp only[S8,kZ,cs,cf];have Hm:=acr mn pm;refine bP ?_;refine Qy (min pm mn) (λj:Nat=>[(15,.sl j ((kQ first order j).map iv) (.opn (N+4))),(17,iv j)]) (λj=>Gf (hv j).2++(YY [iv first,iv i,iv am,.sl 0 [] (.opn (N+3)),fD (N+6) j,.sl 0 [] .exact] 0 j 0++gO j (fN (hv j).1))) (λ_=>True) (λ_ _=>rfl) (by simp only[kQ,ZK,ZU];simp only[seval];simp[bk,Wk.refl]) (by rw[si];simp[gO,fD]) (λ_ _ _=>by simp[hT.len,u9]) trivial (λbw bG j lS _ R hR=> ?_);clear bw bG;have lA:=hvt j;by_cases dn:j<min pm mn
 ·have hd:decide ((j:Int)<((min pm mn:Nat):Int))=true:=by simpa using dn
  refine ab ?_;simp only[seval,show (if(mn:Int)<(pm:Int)then(mn:Int)else(pm:Int))=((min pm mn:Nat):Int)from Hm,hd];have dw:hv (j+1)=((hv j).1++[lP (tick (hv j).2) l (first+order.getD j 0) i],tick (tick (tick (tick (tick (hv j).2))))):=by rw[A',A'];rfl
  have pX:=No j;generalize Ha:hv j=hj at lA dw pX⊢;obtain⟨ps,ρj⟩:=hj;dsimp only at lA dw pX⊢;refine aK ((Gt (n:=6) (jG _) lA (by omega) (by decide) ?_));(try simp only[seval]);refine aD ?_;refine⟨λhc=> ?_,λhc=> ?_⟩
  ·obtain⟨o,ho⟩:=bE (xs:=order) (i:=j) (by rw[qQ.len];omega);have hor:=qQ.IT o (sx ho);have hgo:order.getD j 0=o:=(by rw[SE,ho];rfl);rw[hgo]at dw;have Nt:SD.wrap (first+o)=first+o:=NE (by omega)
   have yX:SD.wrap ((j:Int)+1)=((j+1:Nat):Int):=(by rw[bc _ (by omega)];rfl);have qG:(0<=(j:Int)/\(j:Int)<(order.length:Int))=True:=(by simp[qQ.len];omega);have jJ:=acE first order j
   have D5:Vj iv (kQ first order j)++[AV.val (SF SD (first+o))]=(kQ first order (j+1)).map iv:=(by rw[acF,hgo,To];rfl);have y8:(kQ first order (j+1))[j]?=some (first+o):=(by rw[acF,hgo,S_ (by omega),jJ,Vp];rfl);have lQ:(0<=(j:Int)/\(j:Int)<(j:Int)+1)=True:=(by simp;omega);refine aF ?_;refine bP ?_;refine ej 9 ?_;simp only[seval,z1,up,y1,y4,Cf,aM,dN ho,qG,Nt,jJ];refine⟨by omega,?_⟩;rw[D5];obtain⟨n,hn⟩:∃n,n=first+o:=⟨_,rfl⟩
   rw[<- hn]at y8 dw;have qV:=PB l n i;have uN:=λ(L:List aa) k kp=>Sc (lv:=lv) (k:=k) (kp:=kp) (h:=l) (n:=n) (hours:=i) (e:=.opn (N+2)) (jG L) lA.tick (by omega) (by omega) (by omega) (by omega) (by rw[eY,VM];omega);simp only[eY]at uN;obtain⟨y,hy⟩:∃y,y=lP (tick ρj) l n i:=⟨_,rfl⟩;rw[<- hy]at dw uN;have xj:y.l=[iv y.number.min,iv y.number.max,iv y.hour.min,iv y.hour.max]:=rfl;have hyf:∀a∈y.l,a.leaf=true:=(by rw[xj];simp[AV.leaf,Value.one]);have eF:∀FP,FP=ps.flatMap aB.l->aa.own 4 (FP++y.l) 48=fN (hv (j+1)).1:=λFP pD=>(by rw[dw,fN,Lc,pD]);rcases UL j with vn|vn
   ·subst vn;obtain rfl:ps=[]:=UI pX;have dg:fD (N+6) 0=.sl 0 [] .exact:=rfl;have lR:∀o,gO 0 o=[]:=λ_=>rfl;rw[lR,SN];refine nB [10,12,14] (SR 15) (λD=>bif isDone 14 D then Gf (tick (tick (tick (tick (tick ρj)))))++(YY [iv first,iv i,iv am,.sl 0 [] (.opn (N+3)),.bA (N+6) 0 1 0,.sl 0 [] .exact] 0 1 0++[.own 4 y.l 48])else bif isDone 12 D then Gf (tick (tick (tick (tick (tick ρj)))))++(YY [iv first,iv i,iv am,.sl 0 [] (.opn (N+3)),.sl 0 [] .exact,.sl 0 [] .exact] 0 1 0++[.own 4 y.l 48])else bif isDone 10 D then Gf (tick (tick (tick (tick (tick ρj)))))++YY [iv first,iv i,iv am,.sl 0 [] (.opn (N+3)),.sl 0 [] .exact,.sl 0 [] .exact] 0 1 0 else Gf (tick ρj)++YY [iv first,iv i,iv am,.sl 0 [] (.opn (N+3)),.sl 0 [] .exact,.sl 0 [] .exact] 0 1 0) ?_;simp only[seval,wc,sD,y1,rS,qD,ng,n0,w0,EZ,zY,zZ,dN y8,lQ,dg,SC];refine tu y.av _ (dc (uN _ _ _ ⟨rfl,rfl⟩)) ?_;(try simp only[seval,wc,sD,y1,rS,qD,ng,n0,w0,EZ,zY,zZ,dN y8,lQ,dg,SC,aB.av,xj]);refine ab ?_;simp only[seval,show SD.wrap 1=1 from bc _ (by omega),show (0:Int)+1=1 from rfl];have e1:(hv (0+1)).2=tick (tick (tick (tick (tick ρj)))):=(by rw[dw]);have e2:gO (0+1) (fN (hv (0+1)).1)=[.own 4 [iv y.number.min,iv y.number.max,iv y.hour.min,iv y.hour.max] 48]:=(by rw[<- eF [] rfl];rfl);refine hR _ ⟨by omega,trivial,?_⟩;rw[e1,e2];exact bX
   ·obtain⟨n',iZ⟩:∃n',j=n'+1:=⟨j-1,by omega⟩;have cj:fD (N+6) j=.bA (N+6+n') 0 j 0:=(by rw[iZ];rfl);have vf:∀o,(gO j o)[n']?=some o:=λo=>(by rw[iZ];have:=De n' o [];rwa [SN]at this);have vD:∀o,(gO j o).set n' .gone=gO j .gone:=λo=>(by rw[iZ];have:=Df n' o .gone [];rwa [SN,SN]at this);have pJ:∀a,gO j .gone++[a]=gO (j+1) a:=λa=>(by rw[iZ];exact aal _ _);have jV:∀o,(gO j o).length=j:=yw j;have eF:=eF _ rfl;rw[cj];unfold fN;obtain⟨FP,pD⟩:∃FP,FP=ps.flatMap aB.l:=⟨_,rfl⟩;have wL:FP.length=j* 4:=(by rw[pD,Lb,pX]);rw[<- pD]at eF⊢;refine nB [10,12,14] (SR 15) (λD=>bif isDone 14 D then Gf (tick (tick (tick (tick (tick ρj)))))++(YY [iv first,iv i,iv am,.sl 0 [] (.opn (N+3)),.bA (N+6+j) 0 (j+1) 0,.sl 0 [] .exact] 0 (j+1) 0++gO (j+1) (.own 4 (FP++y.l) 48))else bif isDone 12 D then Gf (tick (tick (tick (tick (tick ρj)))))++(YY [iv first,iv i,iv am,.sl 0 [] (.opn (N+3)),.bA (N+6+n') 0 j 0,.sl 0 [] .exact] 0 (j+1) 0++gO (j+1) (.own 4 (FP++y.l) 48))else bif isDone 10 D then Gf (tick (tick (tick (tick (tick ρj)))))++(YY [iv first,iv i,iv am,.sl 0 [] (.opn (N+3)),.bA (N+6+n') 0 j 0,.sl 0 [] .exact] 0 (j+1) 0++gO j (.own 4 FP 48))else Gf (tick ρj)++(YY [iv first,iv i,iv am,.sl 0 [] (.opn (N+3)),.bA (N+6+n') 0 j 0,.sl 0 [] .exact] 0 (j+1) 0++gO j (.own 4 FP 48))) ?_;simp only[seval,wc,sD,y1,rS,qD,tJ,ng,dN y8,lQ,vf,vD,pJ,jV,wL,SC];refine tu y.av _ (dc (uN _ _ _ ⟨rfl,rfl⟩)) ?_;(try simp only[seval,wc,sD,y1,rS,qD,tJ,ng,dN y8,lQ,vf,vD,pJ,jV,wL,SC,aB.av,xj]);refine⟨vn,by omega,?_⟩;refine ab ?_;simp only[seval,yX];refine hR _ ⟨by omega,trivial,?_⟩;rw[<- eF,show (hv (j+1)).2=tick (tick (tick (tick (tick ρj)))) by rw[dw]];exact bX
  ·refine bO ?_;exact⟨(j,tick ρj),⟨by dsimp only;omega,by dsimp only;omega,lA.tick.mono (by omega)⟩,dW (by simp only[seval];simp[bk,Wk.refl]) (by rw[Ha])⟩
 ·have hd:decide ((j:Int)<((min pm mn:Nat):Int))=false:=by simpa using dn
  refine ab ?_;simp only[seval,show (if(mn:Int)<(pm:Int)then(mn:Int)else(pm:Int))=((min pm mn:Nat):Int)from Hm,hd];refine aD ?_;refine bO ?_;exact⟨(j,(hv j).2),⟨by dsimp only;omega,by dsimp only;omega,lA.mono (by omega)⟩,dW (by simp only[seval];simp[bk,Wk.refl]) rfl⟩
theorem ajh{i np:Nat}{first am w:Int}{l az ii:List Int}{ρ2:bh}{zc:aa}{pv:AV}{gP:List aa}{YY:List AV->Nat->Nat->Nat->List aa}{hz:Bool}{Cu:AV}{Ψ:an->AS->Prop}(hT:dM Gf t N)(hY:YW Gf N zc YY)(yR:gP.length=np)(hb:b<2^10)(hi:1<=i/\i<=3)(oR:0<=first/\first<=90)(HQ:first<=w/\w<=first+9)(eY:l.length=i+1)(D6:np<=4)(jJ:az.length=np)(qO:∀n∈az,first<=n/\n<w)(tZ:JE ii np)(zm:ρ2.Ok (b+64)):
  aR lv SA none 240 (cs (cf (kZ 9 oE))) ⟨[(19,iv 0),(18,.sl np (ii.map iv) .shut),(16,.sl 0 [] (.opn (N+5))),(15,.sl np (az.map iv) (.opn (N+4))),(13,Cu),(11,.sl (i+1) (l.map iv) (.opn (N+2))),(10,.op (N+1) 0),(6,.op N 0),(0,.op t 0),(2,bv hz)],Gf ρ2++(YY [iv first,iv i,iv am,.sl 0 [] (.opn (N+3)),pv,.sl 0 [] .exact] 0 np 0++gP)⟩ (an.then (λs'=>∃y:Nat×bh,(y.1<=np/\y.1<=3/\y.2.Ok (b+90))/\s'.Sub ⟨[(16,.sl y.1 ((ii.take y.1).map iv) (.opn (N+5))),(15,.sl np (az.map iv) (.opn (N+4))),(13,Cu),(11,.sl (i+1) (l.map iv) (.opn (N+2))),(10,.op (N+1) 0),(6,.op N 0),(0,.op t 0),(2,bv hz)],Gf y.2++(YY [iv first,iv i,iv am,.sl 0 [] (.opn (N+3)),pv,fD (N+6+np) y.1] 0 np y.1++(gP++gO y.1 (fN (kG l i (λj=>az.getD (ii.getD j 0).toNat 0) ρ2 y.1).1)))⟩) Ψ):=by
 obtain⟨u9,rS,y0,y1,y3,y4,y5,ng,z8,Cf,Cg,qD,tJ,dg⟩:=hY;have EZ:(1<=2^30)=True:=eq_true (by decide);have n0:∀τ r c d e,(Gf τ++(YY r c d e++gP)).length=N+6+np:=λτ r c d e=>by rw[rS,yR]
 have n1:∀τ r c d e X,(Gf τ++(YY r c d e++(gP++X))).length=N+6+np+X.length:=λτ r c d e X=>by rw[rS,SQ,yR];omega
 have w1:∀τ r c d e X m,(Gf τ++(YY r c d e++(gP++X)))[N+6+np+m]?=X[m]?:=λτ r c d e X m=>by rw[U5 (N+6),qD,S_ (by omega),yR,T5]
 have w0:∀τ r c d e X,(Gf τ++(YY r c d e++(gP++X)))[N+6+np]?=X[0]?:=λτ r c d e X=>w1 τ r c d e X 0;have v1:∀τ r c d e X m y,(Gf τ++(YY r c d e++(gP++X))).set (N+6+np+m) y=Gf τ++(YY r c d e++(gP++X.set m y)):=λτ r c d e X m y=>by rw[U5 (N+6),tJ,Ue _ _ (by omega),yR,T5]
 have jG:∀L:List aa,dM (λτ=>Gf τ++L) t (N+L.length):=λL=>hT.more L;obtain⟨hw,Ba⟩:∃hw:Nat->List aB×bh,∀j,hw j=kG l i (λj=>az.getD (ii.getD j 0).toNat 0) ρ2 j:=⟨_,λ_=>rfl⟩;simp only[<- Ba];have oc:∀j,(hw j).1.length=j:=λj=>by rw[Ba];exact A0 _ _ _ _ _
 have so:∀j:Nat,(hw j).2.Ok (b+64+5* j):=λj=>by rw[Ba];exact LQ zm _ _ _ j
 have zi:hw 0=([],ρ2):=Ba 0;have abC:=tZ.len;unfold oE WY;dsimp only[S8,kZ,cs,cf];have aa8:=acr 3 np;refine bP ?_;refine Qy (min np 3) (λj:Nat=>[(16,.sl j ((ii.take j).map iv) (.opn (N+5))),(19,iv j)]) (λj=>Gf (hw j).2++(YY [iv first,iv i,iv am,.sl 0 [] (.opn (N+3)),pv,fD (N+6+np) j] 0 np j++(gP++gO j (fN (hw j).1)))) (λ_=>True) (λ_ _=>rfl) (by simp only[seval];simp[bk,Wk.refl]) (by rw[zi];simp[gO,fD]) (λ_ _ _=>by simp[hT.len,u9]) trivial (λbw bG j lS _ R hR=> ?_);clear bw bG;have lA:=so j;by_cases dn:j<min np 3
 ·have hd:decide ((j:Int)<((min np 3:Nat):Int))=true:=by simpa using dn
  refine ab ?_;simp only[seval,aM,abC,show (if(3:Int)<(np:Int)then(3:Int)else(np:Int))=((min np 3:Nat):Int)from aa8,hd];have dw:hw (j+1)=((hw j).1++[lP (tick (hw j).2) l (az.getD (ii.getD j 0).toNat 0) i],tick (tick (tick (tick (tick (hw j).2))))):=by rw[Ba,Ba];rfl
  have pX:=oc j;generalize Ha:hw j=hj at lA dw pX⊢;obtain⟨ts,ρj⟩:=hj;dsimp only at lA dw pX⊢;refine aK ((Gt (n:=3) (jG _) lA (by omega) (by decide) ?_));(try simp only[seval]);refine aD ?_;refine⟨λhc=> ?_,λhc=> ?_⟩
  ·obtain⟨v,n_⟩:=bE (xs:=ii) (i:=j) (by omega);have hvr:=tZ.IT v (sx n_);obtain⟨v,rfl⟩:∃v':Nat,v=v':=⟨v.toNat,by omega⟩;have w6:ii.getD j 0=v:=(by rw[SE,n_];rfl);rw[w6,VK]at dw;obtain⟨n,Be⟩:=bE (xs:=az) (i:=v) (by omega);have w5:az.getD v 0=n:=(by rw[SE,Be];rfl);rw[w5]at dw;have sd:=qO n (sx Be);have yX:SD.wrap ((j:Int)+1)=((j+1:Nat):Int):=(by rw[bc _ (by omega)];rfl);have lQ:(0<=(j:Int)/\(j:Int)<(np:Int))=True:=(by simp;omega);have wT:(0<=(v:Int)/\(v:Int)<(np:Int))=True:=(by simp;omega);have aE:(ii.take j).length=j:=(by rw[TC];omega);have ane:(ii.take j).map iv++[AV.val (SF SD v)]=(ii.take (j+1)).map iv:=(by rw[Uo,n_,To];rfl);refine aF ?_;refine ab ?_;simp only[seval,z1,up,y5,Cg,dN n_,lQ,aE];refine⟨by omega,?_⟩;rw[ane];have qV:=PB l n i;have uN:=λ(L:List aa) k kp=>Sc (lv:=lv) (k:=k) (kp:=kp) (h:=l) (n:=n) (hours:=i) (e:=.opn (N+2)) (jG L) lA.tick (by omega) (by omega) (by omega) (by omega) (by rw[eY,VM];omega);simp only[eY]at uN;obtain⟨y,hy⟩:∃y,y=lP (tick ρj) l n i:=⟨_,rfl⟩;rw[<- hy]at dw uN;have xj:y.l=[iv y.number.min,iv y.number.max,iv y.hour.min,iv y.hour.max]:=rfl;have eF:∀FP,FP=ts.flatMap aB.l->aa.own 4 (FP++y.l) 48=fN (hw (j+1)).1:=λFP pD=>(by rw[dw,fN,Lc,pD]);rcases UL j with vn|vn
   ·subst vn;obtain rfl:ts=[]:=UI pX;have dg:fD (N+6+np) 0=.sl 0 [] .exact:=rfl;have lR:∀o,gO 0 o=[]:=λ_=>rfl;have vp:(0<(np:Int))=True:=(by simp;omega);rw[dg,lR,SN];refine nB [13,15,17] (SR 18) (λD=>bif isDone 17 D then Gf (tick (tick (tick (tick (tick ρj)))))++(YY [iv first,iv i,iv am,.sl 0 [] (.opn (N+3)),pv,.bA (N+6+np) 0 1 0] 0 np 1++(gP++[.own 4 y.l 48]))else bif isDone 15 D then Gf (tick (tick (tick (tick (tick ρj)))))++(YY [iv first,iv i,iv am,.sl 0 [] (.opn (N+3)),pv,.sl 0 [] .exact] 0 np 1++(gP++[.own 4 y.l 48]))else bif isDone 13 D then Gf (tick (tick (tick (tick (tick ρj)))))++(YY [iv first,iv i,iv am,.sl 0 [] (.opn (N+3)),pv,.sl 0 [] .exact] 0 np 1++gP)else Gf (tick ρj)++(YY [iv first,iv i,iv am,.sl 0 [] (.opn (N+3)),pv,.sl 0 [] .exact] 0 np 1++gP)) ?_;simp only[seval,wc,sD,y1,ng,dN n_,lQ,dN Be,wT,aM,jJ,n0,w0,EZ,vp,SC];refine tu y.av _ (dc (uN _ _ _ ⟨rfl,rfl⟩)) ?_;(try simp only[seval,wc,sD,y1,ng,dN n_,lQ,dN Be,wT,aM,jJ,n0,w0,EZ,vp,SC,aB.av,xj]);refine ab ?_;simp only[seval,show SD.wrap 1=1 from bc _ (by omega),show (0:Int)+1=1 from rfl];have e1:(hw (0+1)).2=tick (tick (tick (tick (tick ρj)))):=(by rw[dw]);have e2:gO (0+1) (fN (hw (0+1)).1)=[.own 4 [iv y.number.min,iv y.number.max,iv y.hour.min,iv y.hour.max] 48]:=(by rw[<- eF [] rfl];rfl);refine hR _ ⟨by omega,trivial,?_⟩;rw[e1,e2];exact bX
   ·obtain⟨n2,oX⟩:∃n2,j=n2+1:=⟨j-1,by omega⟩;have cj:fD (N+6+np) j=.bA (N+6+np+n2) 0 j 0:=(by rw[oX];rfl);have vf:∀o,(gO j o)[n2]?=some o:=λo=>(by rw[oX];have:=De n2 o [];rwa [SN]at this);have vD:∀o,(gO j o).set n2 .gone=gO j .gone:=λo=>(by rw[oX];have:=Df n2 o .gone [];rwa [SN,SN]at this);have pJ:∀a,gO j .gone++[a]=gO (j+1) a:=λa=>(by rw[oX];exact aal _ _);have jV:∀o,(gO j o).length=j:=yw j;have eF:=eF _ rfl;rw[cj];unfold fN;obtain⟨FP,pD⟩:∃FP,FP=ts.flatMap aB.l:=⟨_,rfl⟩;have wL:FP.length=j* 4:=(by rw[pD,Lb,pX]);rw[<- pD]at eF⊢;refine nB [13,15,17] (SR 18) (λD=>bif isDone 17 D then Gf (tick (tick (tick (tick (tick ρj)))))++(YY [iv first,iv i,iv am,.sl 0 [] (.opn (N+3)),pv,.bA (N+6+np+j) 0 (j+1) 0] 0 np (j+1)++(gP++gO (j+1) (.own 4 (FP++y.l) 48)))else bif isDone 15 D then Gf (tick (tick (tick (tick (tick ρj)))))++(YY [iv first,iv i,iv am,.sl 0 [] (.opn (N+3)),pv,.bA (N+6+np+n2) 0 j 0] 0 np (j+1)++(gP++gO (j+1) (.own 4 (FP++y.l) 48)))else bif isDone 13 D then Gf (tick (tick (tick (tick (tick ρj)))))++(YY [iv first,iv i,iv am,.sl 0 [] (.opn (N+3)),pv,.bA (N+6+np+n2) 0 j 0] 0 np (j+1)++(gP++gO j (.own 4 FP 48)))else Gf (tick ρj)++(YY [iv first,iv i,iv am,.sl 0 [] (.opn (N+3)),pv,.bA (N+6+np+n2) 0 j 0] 0 np (j+1)++(gP++gO j (.own 4 FP 48)))) ?_;simp only[seval,wc,sD,y1,ng,dN n_,lQ,dN Be,wT,aM,jJ,n1,w1,v1,vf,vD,pJ,jV,wL,SC];refine tu y.av _ (dc (uN _ _ _ ⟨rfl,rfl⟩)) ?_;(try simp only[seval,wc,sD,y1,ng,dN n_,lQ,dN Be,wT,aM,jJ,n1,w1,v1,vf,vD,pJ,jV,wL,SC,aB.av,xj]);refine⟨vn,by omega,?_⟩;refine ab ?_;simp only[seval,yX];refine hR _ ⟨by omega,trivial,?_⟩;rw[<- eF,show (hw (j+1)).2=tick (tick (tick (tick (tick ρj)))) by rw[dw]];exact bX
  ·refine bO ?_;exact⟨(j,tick ρj),⟨by dsimp only;omega,by dsimp only;omega,lA.tick.mono (by omega)⟩,dW (by simp only[seval];simp[bk,Wk.refl]) (by rw[Ha])⟩
 ·have hd:decide ((j:Int)<((min np 3:Nat):Int))=false:=by simpa using dn
  refine ab ?_;simp only[seval,aM,abC,show (if(3:Int)<(np:Int)then(3:Int)else(np:Int))=((min np 3:Nat):Int)from aa8,hd];refine aD ?_;refine bO ?_;exact⟨(j,(hw j).2),⟨by dsimp only;omega,by dsimp only;omega,lA.mono (by omega)⟩,dW (by simp only[seval];simp[bk,Wk.refl]) rfl⟩
theorem ajk{i np ns cn:Nat}{first am:Int}{l az bI:List Int}{pv sv Cu:AV}{G:List aa}{Ev:Bool}{ρ4:bh}{zc:aa}{YY:List AV->Nat->Nat->Nat->List aa}{Ψ:an->AS->Prop}(hT:dM Gf t N)(hY:YW Gf N zc YY)(hb:b<2^10)(hi:1<=i/\i<=3)(oR:0<=first/\first<=90)(xd:1<=am/\am<=3)(aq:ni first am l i)(gY:cn<=2)(HW:ρ4.Ok (b+91)):
  aR lv SA none 240 (cs (cf (kZ 10 oE))) ⟨[(20,iv cn),(16,.sl ns (bI.map iv) (.opn (N+5))),(15,.sl np (az.map iv) (.opn (N+4))),(13,Cu),(11,.sl (i+1) (l.map iv) (.opn (N+2))),(10,.op (N+1) 0),(6,.op N 0),(0,.op t 0),(2,bv Ev)],Gf ρ4++(YY [iv first,iv i,iv am,.sl 0 [] (.opn (N+3)),pv,sv] 0 np ns++G)⟩ (an.then (λs'=>∃y:List Seen×bh,(y.1.length<=2/\(∀s∈y.1,0<=s.hour/\s.hour<=i/\∃τ,s.next=nA τ (l.getD s.hour.toNat 0) 1 0 99)/\y.2.Ok (b+97))/\s'.Sub ⟨[(16,.sl ns (bI.map iv) (.opn (N+5))),(15,.sl np (az.map iv) (.opn (N+4))),(13,Cu),(11,.sl (i+1) (l.map iv) (.opn (N+2))),(10,.op (N+1) 0),(6,.op N 0),(0,.op t 0),(2,bv Ev)],Gf y.2++(YY [iv first,iv i,iv am,.sl y.1.length (y.1.flatMap Seen.l) (.opn (N+3)),pv,sv] y.1.length np ns++G)⟩) Ψ):=by
 obtain⟨u9,rS,y0,y1,y3,y4,y5,ng,z8,Cf,Cg,qD,tJ,dg⟩:=hY;have jG:∀L:List aa,dM (λτ=>Gf τ++L) t (N+L.length):=λL=>hT.more L;have eY:=aq.len;unfold oE WY;dsimp only[S8,kZ,cs,cf];obtain⟨hz,Bb⟩:∃hz:Nat->List Seen×bh,∀j,hz j=sG l i ρ4 j:=⟨_,λ_=>rfl⟩;have oZ:∀j,(hz j).1.length=j:=λj=>by rw[Bb];exact adz _ _ _ _
 have NB:∀j:Nat,(hz j).2.Ok (b+91+3* j):=λj=>by rw[Bb];exact(adB HW _ _ j).mono (by omega)
 have anj:hz 0=([],ρ4):=Bb 0;refine bP ?_;refine ek cn (λj:Nat=>[(20,iv ((cn:Int)-j))]) (λj=>Gf (hz j).2++(YY [iv first,iv i,iv am,.sl j ((hz j).1.flatMap Seen.l) (.opn (N+3)),pv,sv] j np ns++G)) (λ_=>True) (λ_ _=>rfl) (by simp only[seval];simp[bk,Wk.refl]) (by rw[anj];rfl) (λ_ _ _=>by simp[hT.len,u9]) trivial (λbw bG j lS _ R hR=> ?_);clear bw bG;have lA:=NB j;refine aj ?_;refine aD ?_;refine⟨λhc=> ?_,λhc=> ?_⟩
 ·have dn:j<cn:=by omega
  have dw:hz (j+1)=((hz j).1++[⟨dh (hz j).2 i,nA (tick (hz j).2) (l.getD (dh (hz j).2 i).toNat 0) 1 0 99⟩],tick (tick (tick (hz j).2))):=by rw[Bb,Bb];rfl
  have pX:=oZ j;generalize Ha:hz j=hj at lA dw pX⊢;obtain⟨ss,ρj⟩:=hj;dsimp only at lA dw pX⊢;have hur:=lJ ρj i;obtain⟨u,hu⟩:∃u:Nat,dh ρj i=u:=⟨(dh ρj i).toNat,by omega⟩;rw[hu,VK]at dw;have hui:u<=i:=by omega
  obtain⟨n,MD⟩:=bE (xs:=l) (i:=u) (by omega);have w5:l.getD u 0=n:=by rw[SE,MD];rfl
  rw[w5]at dw;have sd:=aq.ge (by omega) u hui;rw[w5]at sd;have avq:0<=n/\n<=1000:=by
   have:=aeU (v:=0) sd (by omega) oR xd (by omega);omega
  have yX:SD.wrap ((cn:Int)-j-1)=(cn:Int)-((j+1:Nat):Int):=by rw[bc _ (by omega)];omega
  have hbu:(0<=(u:Int)/\(u:Int)<(i:Int)+1)=True:=by simp;omega
  refine aF ?_;refine ab ?_;simp only[seval,y1];refine aK ((pC (n:=i) (jG _) lA (by omega) (by omega) ?_));rw[hu];(try simp only[seval]);have QV:=λ(L:List aa) k kp=>KS (lv:=lv) (k:=k) (kp:=kp) (n:=n) (m:=1) (lo:=0) (hi:=99) (jG L) lA.tick (by omega) (by omega) (by decide);obtain⟨y,hy⟩:∃y,y=nA (tick ρj) n 1 0 99:=⟨_,rfl⟩;rw[<- hy]at dw QV;obtain⟨FP,pD⟩:∃FP,FP=ss.flatMap Seen.l:=⟨_,rfl⟩;have wL:FP.length=j* 3:=by rw[pD,St,pX]
  have hFQ:FP++[iv u,iv y.min,iv y.max]=(hz (j+1)).1.flatMap Seen.l:=by rw[dw,Lc,pD];rfl
  rw[<- pD];refine nB [9,12,14] (SR 15) (λD=>bif isDone 14 D then Gf (tick (tick (tick ρj)))++(YY [iv first,iv i,iv am,.sl (j+1) (FP++[iv u,iv y.min,iv y.max]) (.opn (N+3)),pv,sv] (j+1) np ns++G)else bif isDone 12 D then Gf (tick (tick (tick ρj)))++(YY [iv first,iv i,iv am,.sl j FP (.opn (N+3)),pv,sv] (j+1) np ns++G)else bif isDone 9 D then Gf (tick (tick (tick ρj)))++(YY [iv first,iv i,iv am,.sl j FP (.opn (N+3)),pv,sv] j np ns++G)else Gf (tick ρj)++(YY [iv first,iv i,iv am,.sl j FP (.opn (N+3)),pv,sv] j np ns++G)) ?_;simp only[seval,zS1,E_,y1,y3,ng,z8,dN MD,hbu,wL,eY];have xj:y.l=[iv y.min,iv y.max]:=rfl;refine tu y.av _ (dc (QV _ _ _ ⟨rfl,rfl⟩)) ?_;(try simp only[seval,zS1,E_,y1,y3,ng,z8,dN MD,hbu,wL,eY,iQ.av,xj]);refine⟨by omega,?_⟩;refine ab ?_;simp only[seval,yX];refine hR _ ⟨by omega,trivial,?_⟩;rw[<- hFQ,dw];exact bX
 ·have vo:j=cn:=by omega
  subst vo;clear hR;refine bO ?_;have cj:=oZ j;have Na:∀s∈(hz j).1,0<=s.hour/\s.hour<=i/\∃τ,s.next=nA τ (l.getD s.hour.toNat 0) 1 0 99:=by
   rw[Bb];exact adA (λτ=>by have:=lJ τ i;omega) j
  refine⟨((hz j).1,(hz j).2),⟨by dsimp only;omega,Na,lA.mono (by omega)⟩,dW (by simp only[seval];simp[bk,Wk.refl]) ?_⟩;dsimp only;rw[cj]
end
section
variable (lv:Bool)(P:SI)
def xP (s:AS)(o:Tx)(next:AS->Prop):Prop:=match o.op with
 |.buildSlice t len parts=>ao (qn P t) λ(e,sz,z)=>len* sz<=2^24/\ao (kg s parts.toList) λmi=>ao (oG (ik.at (.elems sz)) (gD z (len* sz)) mi) λl=>next ((⟨s.T,s.H++[.cells l e]⟩:AS).put o.dst (.bA s.H.length 0 len len))
 |.call c=>match c.callee with
  |.builtin .append=>match c.args.toList,c.argTypes.toList with
   |[x,y],[t,t']=>ao (jy P t t') λ(elem,sz,_)=>ao (s.ev x) λa=>ao (s.ev y) λb=>a.wx λn l e=>e=.exact/\ao (s.src sz b) λ(m,l')=>l.length=n* sz/\l'.length=m* sz/\n+m<=2^30/\0<m/\next ((⟨s.T,s.H++[.own sz (l++l') elem]⟩:AS).put o.dst (.bA s.H.length 0 (n+m) 0))
   |_,_=>False
  |_=>False
 |_=>False
def rA (m:Nat):Nat->List Tx->AS->(AS->Prop)->(AV->AS->Prop)->Prop
 |_,[],s,K,_=>K s
 |k,o::rest,s,K,bad=>o.guard=none/\(bif k==m then xP P s o (λs'=>rA m (k+1) rest s' K bad)else mK lv P s o (λs'=>rA m (k+1) rest s' K bad) bad)
end
section
variable {lv:Bool}{P:SI}{r:Option Nat}{s:AS}
theorem xP.step{o:Tx}{next:AS->Prop}{bad:AV->AS->Prop}(h:xP P s o next):Step lv P r o s next bad:=by
 unfold xP at h;split at h
 ·rename_i t len parts ho;obtain⟨⟨e,sz,z⟩,h1,h2,h⟩:=h.out;obtain⟨mi,h3,h⟩:=h.out;obtain⟨l,h4,h⟩:=h.out;exact aec ho h1 h2 h3 h4 h
 ·rename_i c ho;split at h
  ·rename_i a_;split at h
   ·rename_i x y t t' ha dU;obtain⟨⟨elem,sz,z⟩,h1,hA⟩:=h.out;obtain⟨a,h2,hB⟩:=hA.out;obtain⟨b,h3,hC⟩:=hB.out;obtain⟨n,l,e,e1,e0,hD⟩:=Qo hC;subst e1 e0;obtain⟨⟨m,l'⟩,h4,h5,h6,h7,h8,h9⟩:=hD.out;exact aea ho a_ (nz ha) (sP dU) h1 h2 h3 h4 h5 h6 h7 h8 h9
   ·exact h.elim
  ·exact h.elim
 ·exact h.elim
theorem rA.adX{m:Nat}{K:AS->Prop}{bad:AV->AS->Prop}:∀(l:List Tx)(k:Nat)(s:AS),rA lv P m k l s K bad->CA lv P r l s K bad
 |[],k,s,h=>h
 |o::rest,k,s,h=>by
  obtain⟨h1,h2⟩:=h;refine⟨h1,?_⟩;have hs:∀{s'},rA lv P m (k+1) rest s' K bad->CA lv P r rest s' K bad:=λ{s'} h=>rA.adX rest (k+1) s' h;cases hkm:(k==m)<;>rw[hkm]at h2<;>simp only[cond_true,cond_false]at h2
  rotate_left
  ·exact(xP.step h2).mono (λ_ h=>hs h) (λ_ _ h=>h)
  ·exact(mK.sound (r:=r) h2).mono (λ_ h=>hs h) (λ_ _ h=>h)
theorem agT{nt id:Nat}{ops:Array Tx}{Φ:an->AS->Prop}(m:Nat)(hd:jT nt ops=true)(h:rA lv P m 0 ops.toList s (Φ .normal) (λpv s=>Φ (.panic pv) s)):aR lv P r nt (.region id ops false) s Φ:=agU hd (h.adX ops.toList 0 s)
end
theorem afK:type_of% @xP.eq_1:=by intros;rw[xP.eq_1]
theorem apk:type_of% @rA.eq_1:=by intros;rw[rA.eq_1]
theorem apj:type_of% @rA.eq_2:=by intros;rw[rA.eq_2]
attribute [seval] afK apk apj
end Go.Gg
namespace Go.Gg.Tk
theorem aaY{x:ak}{bt:Nat}:∀(d:Nat)(pre:List Int),2<=pre.length->mY x bt d pre=(jm x d pre).map cz
 |0,pre,_=>by
  unfold mY jm;split<;>rfl
 |d+1,pre,h=>by
  unfold mY jm;split
  ·rw[Vl];congr 1;funext n;rw[if_neg (λhc=>by have:=hc.1;omega),aaY d _ (by simp;omega)]
  ·rfl
theorem Su{α:Type}{t:Nat}{f:Nat->List α}:∀m,((SR m).flatMap λn=>if n≠t then[]else f n)=if t<m then f t else[]
 |0=>by simp
 |m+1=>by
  rw[UZ,Uk,Su m];simp only[TW,List.flatMap_nil,SN];by_cases h:m=t
  ·subst h;rw[if_neg (Nat.lt_irrefl _),if_neg (by simp),if_pos (Uy _),UN]
  ·rw[if_pos h,SN];by_cases h2:t<m
   ·rw[if_pos h2,if_pos (by omega)]
   ·rw[if_neg h2,if_neg (by omega)]
theorem He{x:ak}{bt:Nat}(hh:1<=x.hours)(ht:bt<x.am.toNat+1):jW x bt=(w7 x bt).map cz:=by
 unfold jW w7;obtain⟨d,hd⟩:∃d,x.hours.toNat=d+1:=⟨x.hours.toNat-1,by omega⟩;rw[hd];unfold mY;simp only[TH,Vp,VM,true_and];rw[show ([x.first]:List Int).getLastD 0=x.first from rfl];split
 ·rw[Su (t:=bt) (f:=λn=>mY x bt d ([x.first]++[x.first+(n:Int)])),if_pos ht,aaY d _ (by simp)];rfl
 ·rfl
theorem Hg{x:ak}(hh:1<=x.hours):((SR (x.am.toNat+1)).flatMap λt=>w7 x t)=aL x:=by
 unfold aL w7;obtain⟨d,hd⟩:∃d,x.hours.toNat=d+1:=⟨x.hours.toNat-1,by omega⟩;rw[hd,VM,show jm x (d+1) [x.first]=(if mH x 0 x.first then(SR (x.am.toNat+1)).flatMap λn:Nat=>jm x d [x.first,x.first+(n:Int)]else[])from rfl];split
 ·rfl
 ·simp
end Go.Gg.Tk
namespace Go.Gg.Tk
theorem aq4{p:Nat->Bool}{m k:Nat}(h:m<=k):((SR k).filter λn=>decide (n<m)&&p n)=(SR m).filter p:=by
 obtain⟨j,rfl⟩:=Nat.exists_eq_add_of_le h;rw[List.range_add,XI];have h1:((SR j).map (m+·)).filter (λn=>decide (n<m)&&p n)=[]:=by
  rw[Xb];intro a ha;obtain⟨b,_,rfl⟩:=Tf.1 ha;simp only[Te,decide_eq_true_eq,not_and];exactλhlt=>absurd hlt (by omega)
 rw[h1,SN];refine U3 λn hn=> ?_;rw[TG]at hn;simp[hn]
theorem La{α:Type}{c:Nat->Bool}{f:Nat->List α}:∀l:List Nat,(l.flatMap λn=>if c n=true then[]else f n)=(l.filter λn=> !c n).flatMap f
 |[]=>rfl
 |n::l=>by
  rw[TW,XW,La l];cases hc:c n<;>simp
def un (g:aB->Nat->Bool)(m:Nat):List aB->List Nat->List (List Nat)
 |[],t=>[t]
 |y::ys,t=>((SR m).filter λn=>g y n&& !t.contains n).flatMap λn=>un g m ys (t++[n])
theorem Oy{g:aB->Nat->Bool}{q:aB->Nat}{m:Nat}(hm:m<=9):∀(ys:List aB)(u:Nat)(t:List Nat),(∀y∈ys,∀n,n<9->(q y).testBit n=(decide (n<m)&&g y n))->(∀n,u.testBit n=t.contains n)->kR (ys.map q) u t=un g m ys t
 |[],u,t,_,_=>rfl
 |y::ys,u,t,hq,hu=>by
  rw[U0,kR,un];have e1:((SR 9).flatMap λn=>if(u.testBit n|| !(q y).testBit n)=true then[]else kR (ys.map q) (u|||2^n) (t++[n]))=((SR 9).filter λn=> !(u.testBit n|| !(q y).testBit n)).flatMap λn=>kR (ys.map q) (u|||2^n) (t++[n]):=La _;rw[e1];have e2:((SR 9).filter λn=> !(u.testBit n|| !(q y).testBit n))=(SR m).filter λn=>g y n&& !t.contains n:=by
   rw[<- aq4 hm];refine U3 λn hn=> ?_;rw[TG]at hn;rw[hu,hq y (by simp) n hn];cases t.contains n<;>cases decide (n<m)<;>cases g y n<;>rfl
  rw[e2];congr 1;funext n;refine Oy hm ys _ _ (λz hz=>hq z (by simp[hz])) λi=> ?_;rw[XM,hu,Wc,Y0];simp[eq_comm]
theorem acI{h:List Int}{a:Int}{g:aB->Nat->Bool}{m:Nat}(hr:zC h=(SR m).map λi:Nat=>a+(i:Int)):∀(ys:List aB)(t:List Nat),(∀y∈ys,∀n,n<m->fits h y (a+(n:Int))=g y n)->lF h ys (t.map λi:Nat=>a+(i:Int))=(un g m ys t).map λl=>l.map λi:Nat=>a+(i:Int)
 |[],t,_=>rfl
 |y::ys,t,hg=>by
  rw[lF,un,hr,List.filter_map,Vz,Vl];have e:(SR m).filter ((λn=>fits h y n&& !(t.map λi:Nat=>a+(i:Int)).contains n)∘λi:Nat=>a+(i:Int))=(SR m).filter λn=>g y n&& !t.contains n:=by
   refine U3 λn hn=> ?_;rw[TG]at hn;simp only[Wm];rw[hg y (by simp) n hn];congr 1;congr 1;rw[U9,Zc,Zc,Tf];constructor
   ·rintro⟨i,h1,h2⟩
    have:i=n:=(by omega);rw[<- this];exact h1
   ·exactλh1=>⟨n,h1,rfl⟩
  rw[e];congr 1;funext n;have:=acI hr ys (t++[n]) (λz hz=>hg z (by simp[hz]));rw[To]at this;exact this
end Go.Gg.Tk
namespace Go.Gg.Tk
theorem acX{h:List Int}{ns:List Nat}{nl:List Int}{q:aB->Nat}(hl:nl.length=ns.length):∀(ss:List aB)(u:Nat)(t:List Nat),(∀s∈ss,∀p,p<ns.length->(q s).testBit (ns.getD p 0)=fits h s (nl.getD p 0))->(∀n,u.testBit n=t.contains n)->mG ns.length ns (ss.map q) u t=nc h nl ss t
 |[],u,t,_,_=>rfl
 |s::ss,u,t,hq,hu=>by
  rw[U0,mG,nc,hl];have e1:((SR ns.length).flatMap λp=>if(u.testBit p|| !(q s).testBit (ns.getD p 0))=true then[]else mG ns.length ns (ss.map q) (u|||2^p) (t++[p]))=((SR ns.length).filter λp=> !(u.testBit p|| !(q s).testBit (ns.getD p 0))).flatMap λp=>mG ns.length ns (ss.map q) (u|||2^p) (t++[p]):=La _;rw[e1];have e2:((SR ns.length).filter λp=> !(u.testBit p|| !(q s).testBit (ns.getD p 0)))=(SR ns.length).filter λp=>fits h s (nl.getD p 0)&& !t.contains p:=by
   refine U3 λp hp=> ?_;rw[TG]at hp;rw[hu,hq s (by simp) p hp];cases t.contains p<;>cases fits h s (nl.getD p 0)<;>rfl
  rw[e2];congr 1;funext p;refine acX hl ss _ _ (λz hz=>hq z (by simp[hz])) λi=> ?_;rw[XM,hu,Wc,Y0];simp[eq_comm]
theorem acM{g:aB->Nat->Bool}{m:Nat}:∀{ys:List aB}{t ns:List Nat},ns∈un g m ys t->(∀n∈t,n<m)->ns.length=t.length+ys.length/\∀n∈ns,n<m
 |[],t,ns,h,ht=>by
  simp only[un,S9]at h;subst h;exact⟨by simp,ht⟩
 |y::ys,t,ns,h,ht=>by
  simp only[un,S4,Uz,TG]at h;obtain⟨n,⟨hn,_⟩,h⟩:=h;obtain⟨h1,h2⟩:=acM h (λk hk=>by
   rcases SV.1 hk with h'|h'
   ·exact ht k h'
   ·rw[S9.1 h'];exact hn)
  exact⟨by rw[h1];simp;omega,h2⟩
end Go.Gg.Tk
namespace Go.Gg.Tk
structure wj (x:ak)(h:List Int):Prop where
 lo:2<=h.length
 hi:h.length<=4
 head:h.headD 0=x.first
 span:h.getLastD 0<=x.first+9
 pad:mM (cz h)
theorem ac2{h:List Int}(hl:2<=h.length):(cz h).getD 0 0=h.headD 0:=by
 match h,hl with
 |a::b::l,_=>rfl
theorem ac3{h:List Int}(hl:2<=h.length)(h4:h.length<=4):(cz h).getD 3 0=h.getLastD 0:=by
 match h,hl,h4 with
 |[a,b],_,_=>rfl
 |[a,b,c],_,_=>rfl
 |[a,b,c,d],_,_=>rfl
theorem apP{h:List Int}{n:Int}(hl:2<=h.length)(h4:h.length<=4):jw (cz h) n=jw h n:=by
 match h,hl,h4 with
 |[a,b],_,_=>exact PA (i:=0) (k:=2) (z:=b) (h:=[a,b]) (n:=n) rfl (by simp)
 |[a,b,c],_,_=>exact PA (i:=0) (k:=1) (z:=c) (h:=[a,b,c]) (n:=n) rfl (by simp)
 |[a,b,c,d],_,_=>exact PA (i:=0) (k:=0) (z:=d) (h:=[a,b,c,d]) (n:=n) rfl (by simp)
def mE (h:List Int):Nat:=(h.getLastD 0-h.headD 0).toNat
theorem CU{x:ak}{h:List Int}(hh:wj x h)(y:aB){n:Nat}(hn:n<9):(bZ (cz h) y).testBit n=(decide (n<mE h)&&fits h y (h.headD 0+(n:Int))):=by
 unfold bZ;rw[CW];unfold lM fits;rw[ac2 hh.lo,ac3 hh.lo hh.hi,apP hh.lo hh.hi];have e1:decide (n<9)=true:=decide_eq_true hn;have e2:decide (h.headD 0+(n:Int)<h.getLastD 0)=decide (n<mE h):=by
  unfold mE;rw[U9];simp only[decide_eq_true_eq];omega
 rw[e1,e2,UP];by_cases hm:n<mE h
 ·have e3:0<=jw h (h.headD 0+(n:Int)):=by
   unfold mE at hm;refine Pz (a:=h.headD 0) ?_ (by omega) (by omega);have:=hh.lo
   match h,this with
   |a::b::l,_=>rfl
  rw[decide_eq_true e3,decide_eq_true hm];simp
 ·rw[decide_eq_false hm];simp
theorem acH{x:ak}{h:List Int}(hh:wj x h):lF h x.pieces []=(f_ x (cz h)).map λl=>l.map λi:Nat=>h.headD 0+(i:Int):=by
 have DZ:mE h<=9:=by unfold mE;have:=hh.span;have:=hh.head;omega
 have e1:f_ x (cz h)=un (λy n=>fits h y (h.headD 0+(n:Int))) (mE h) x.pieces []:=
  Oy DZ x.pieces 0 [] (λy _ n hn=>CU hh y hn) (by simp)
 rw[e1];exact acI (a:=h.headD 0) rfl x.pieces [] λy _ n _=>rfl
end Go.Gg.Tk
namespace Go.Gg.Tk
theorem apg{x:ak}{h:List Int}(hh:wj x h){ns:List Nat}(hn:ns∈f_ x (cz h)):ns.length=x.pieces.length/\∀n∈ns,n<mE h:=by
 have DZ:mE h<=9:=by unfold mE;have:=hh.span;have:=hh.head;omega
 have e1:f_ x (cz h)=un (λy n=>fits h y (h.headD 0+(n:Int))) (mE h) x.pieces []:=
  Oy DZ x.pieces 0 [] (λy _ n hn=>CU hh y hn) (by simp)
 rw[e1]at hn;have:=acM hn (by simp);exact⟨by simpa using this.1,this.2⟩
theorem apK{x:ak}{h:List Int}(hh:wj x h){ns:List Nat}(hn:ns∈f_ x (cz h)):iD x (cz h) ns=nc h (ns.map λi:Nat=>h.headD 0+(i:Int)) x.aC []:=by
 obtain⟨h1,h2⟩:=apg hh hn;have DZ:mE h<=9:=by unfold mE;have:=hh.span;have:=hh.head;omega
 unfold iD;rw[<- h1];refine acX (by simp) x.aC 0 [] (λs _ p hp=> ?_) (by simp);have rX:ns.getD p 0=ns[p]:=by rw[SE,SY hp];rfl
 have hlt:=h2 ns[p] (Ww hp);have hg2:(ns.map λi:Nat=>h.headD 0+(i:Int)).getD p 0=h.headD 0+(ns[p]:Int):=by
  rw[SE,Tp,SY hp];rfl
 rw[rX,hg2,CU hh s (by omega),decide_eq_true hlt,UP]
def eB (t:Tr):List Int:=dC (cz t.aT) (t.az.map λn=>(n-t.aT.headD 0).toNat) t.bI
theorem aeN{x:ak}{h:List Int}(hh:wj x h){ns:List Nat}(hn:ns∈f_ x (cz h)):(sO x h (ns.map λi:Nat=>h.headD 0+(i:Int))).map eB=(iD x (cz h) ns).map (dC (cz h) ns):=by
 unfold sO;rw[WS,apK hh hn];refine VH λos _=> ?_;unfold eB;simp only[Wm,WS];congr 1
 conv=>rhs;rw[<- List.map_id ns]
 refine VH λn _=> ?_;simp only[Wm,id];omega
theorem uV{α β:Type}{l:List α}{f g:α->List β}(h:∀a∈l,f a=g a):l.flatMap f=l.flatMap g:=by
 rw[WW,WW,VH h]
theorem aeu{α:Type}:∀ll:List (List α),(ll.map (·.take 1)).flatten.take 1=ll.flatten.take 1
 |[]=>rfl
 |[]::ll=>by simpa using aeu ll
 |(a::l)::ll=>by simp
theorem PE{x:ak}{h:List Int}{deep:Int}(hh:wj x h):iE x deep (cz h)=(sN x deep h).map eB:=by
 have e2:(gC x h).map eB=(((f_ x (cz h)).map λns=>(iD x (cz h) ns).map λos=>dC (cz h) ns os)).flatten:=by
  unfold gC;rw[acH hh,Vz,Vl,<- WW];exact uV λns hn=>aeN hh hn
 have e1:(v9 x h).map eB=(((f_ x (cz h)).map λns=>(iD x (cz h) ns).map λos=>dC (cz h) ns os).map (·.take 1)).flatten:=by
  unfold v9;rw[acH hh,Vz,Vl,WS,<- WW];refine uV λns hn=> ?_;simp only[Wm];rw[Wa,aeN hh hn]
 unfold iE sN;dsimp only;split
 ·rw[Wa,e1,aeu]
 ·split
  ·exact e1.symm
  ·exact e2.symm
end Go.Gg.Tk
namespace Go.Gg.Tk
theorem Bc{x:ak}:∀(d:Nat)(pre h:List Int),pre≠[]->h∈jm x d pre->h.length=pre.length+d/\h.headD 0=pre.headD 0
 |0,pre,h,_,hm=>by
  unfold jm at hm;split at hm
  ·rw[S9]at hm;subst hm;exact⟨rfl,rfl⟩
  ·cases hm
 |d+1,pre,h,hp,hm=>by
  unfold jm at hm;split at hm
  ·obtain⟨n,_,hm⟩:=S4.1 hm;obtain⟨h1,h2⟩:=Bc d _ h (by simp) hm;refine⟨by rw[h1];simp;omega,h2.trans ?_⟩
   match pre,hp with
   |a::l,_=>rfl
  ·cases hm
theorem Hd{x:ak}{t:Nat}(hx:x.Ok)(ht:t<x.am.toNat+1){h:List Int}(hm:h∈w7 x t):wj x h:=by
 have hh:=hx.hours;have Hw:cz h∈jW x t:=by rw[He hh.1 ht];exact Tf.2 ⟨h,hm,rfl⟩
 have h4:=aaV hx Hw;unfold w7 at hm;split at hm
 ·obtain⟨h1,h2⟩:=Bc _ _ _ (by simp) hm;have pM:2<=h.length:=by rw[h1];simp
  have G_:h.length<=4:=by rw[h1];simp;omega
  have AR:h.headD 0=x.first:=h2;refine⟨pM,G_,AR,?_,h4⟩;have:=h4.span;rw[ac2 pM,ac3 pM G_,AR]at this;exact this
 ·cases hm
theorem aeZ{x:ak}{deep:Int}(hx:x.Ok):((SR (x.am.toNat+1)).flatMap λt=>Jj x deep t)=(aL x).flatMap (sN x deep):=by
 unfold Jj;rw[<- Hg hx.hours.1,Xv]
end Go.Gg.Tk
namespace Go.Gg.Tk
theorem af4{l:List Nat}{i v p n:Nat}(hi:i<l.length):((pw l i v).getD p 0).testBit n=((l.getD p 0).testBit n||(decide (p=i)&&decide (n=v))):=by
 unfold pw;rw[SE,UX];by_cases h:i=p
 ·subst h;rw[if_pos rfl,if_pos hi,S8,XM,Wc];simp[eq_comm]
 ·rw[if_neg h,<- SE];have:¬p=i:=λe=>h e.symm;simp[this]
def s9 (v:Nat->Nat):Nat->List Nat->List Nat
 |0,l=>l
 |k+1,l=>pw (s9 v k l) k (v k)
theorem acK(t:List Int)(l:List Nat):∀k,sB t k l=s9 (iN t) k l
 |0=>rfl
 |k+1=>by rw[sB,s9,acK t l k]
theorem ac4(t:List Int)(l:List Nat):∀k,nd t k l=s9 (sK t) k l
 |0=>rfl
 |k+1=>by rw[nd,s9,ac4 t l k]
theorem Qh(v:Nat->Nat)(l:List Nat):∀k,(s9 v k l).length=l.length
 |0=>rfl
 |k+1=>by rw[s9,CN,Qh v l k]
theorem JP{v:Nat->Nat}{l:List Nat}{p n:Nat}:∀k,k<=l.length->((s9 v k l).getD p 0).testBit n=((l.getD p 0).testBit n||(decide (p<k)&&decide (n=v p)))
 |0,_=>by simp[s9]
 |k+1,h=>by
  rw[s9,af4 (by rw[Qh];omega),JP k (by omega)];by_cases hp:p=k
  ·subst hp;simp
  ·have e:(p<k+1)<->p<k:=(by omega);simp[hp,e]
theorem acV{l m:List Nat}{p n:Nat}(h:l.length=m.length):((l9 l m).getD p 0).testBit n=((l.getD p 0).testBit n||(m.getD p 0).testBit n):=by
 unfold l9;rw[SE,List.getElem?_zipWith,SE,SE];by_cases hp:p<l.length
 ·rw[SY hp,SY (by omega)];simp[XM]
 ·rw[Ux (by omega),Ux (by omega)];simp
theorem adb{hs:List (List Int)}{h g:List Int}:g∈jN hs h<->g∈hs\/g=h:=by
 unfold jN;split
 ·rename_i hm;exact⟨.inl,λe=>e.elim id λe=>e▸hm⟩
 ·rw[SV,S9]
theorem Sy{g:List Int}:∀{l hs:List (List Int)},g∈l.foldl jN hs<->g∈hs\/g∈l
 |[],hs=>by simp
 |a::l,hs=>by
  rw[UV,Sy,adb,SK,or_assoc]
theorem ahf(Q:Kn)(t:List Int):(jR Q t).has=true:=by
 unfold jR;cases h:Q.has
 ·rfl
 ·rw[if_pos rfl];exact h
theorem aew(x:ak)(deep:Int)(Q:Kn)(t:List Int):(eK x deep Q t).has=true:=by
 have:=ahf Q t;unfold eK;dsimp only;split
 ·exact this
 ·split<;>exact this
theorem aad{x:ak}{deep:Int}:∀(ts:List (List Int))(Q:Kn),(ts.foldl (eK x deep) Q).has=(Q.has|| !ts.isEmpty)
 |[],Q=>by simp
 |t::ts,Q=>by rw[UV,aad ts,aew];simp
theorem anu{F G:Kn}{hs:List (List Int)}:(h_ F hs G).has=(F.has||G.has):=by
 unfold h_;cases h:G.has
 ·simp
 ·simp
end Go.Gg.Tk
namespace Go.Gg.Tk
theorem atd{x:ak}{Q:Kn}{t g:List Int}:g∈(eK x 0 Q t).aL<->g∈Q.aL\/g=t.take 4:=by
 have hB:(jR Q t).aL=Q.aL:=by unfold jR;split<;>rfl
 unfold eK;dsimp only;rw[if_neg (by decide),if_pos rfl,adb,hB]
theorem aaa{x:ak}{g:List Int}:∀(ts:List (List Int))(Q:Kn),g∈(ts.foldl (eK x 0) Q).aL<->g∈Q.aL\/∃t∈ts,g=t.take 4
 |[],Q=>by simp
 |t::ts,Q=>by
  rw[UV,aaa ts,atd];constructor
  ·rintro((h|h)|⟨u,h1,h2⟩)
   ·exact .inl h
   ·exact .inr ⟨t,by simp,h⟩
   ·exact .inr ⟨u,by simp[h1],h2⟩
  ·rintro(h|⟨u,h1,h2⟩)
   ·exact .inl (.inl h)
   ·rcases SK.1 h1 with rfl|h1
    ·exact .inl (.inr h2)
    ·exact .inr ⟨u,h1,h2⟩
def fb (x:ak)(deep:Int)(j:Nat):List (List Int):=(jW x j).flatMap (iE x deep)
theorem Ji(x:ak)(deep:Int)(j:Nat):gR x deep j=(fb x deep j).foldl (eK x deep) Kn.zero:=rfl
theorem FC(x:ak)(deep:Int)(j:Nat):(gR x deep j).has= !(fb x deep j).isEmpty:=by
 rw[Ji,aad];rfl
theorem at7{x:ak}{j:Nat}{g:List Int}:g∈(gR x 0 j).aL<->∃t∈fb x 0 j,g=t.take 4:=by
 rw[Ji,aaa];simp[Kn.zero]
theorem abP{x:ak}{deep:Int}{js:List Nat}{D:Kn}(h:ox x deep js D):D.has=js.any λj=> !(fb x deep j).isEmpty:=by
 induction h with
 |nil=>rfl
 |snoc h hp ih=>rw[anu,ih,FC,Z2];simp
theorem anv{x:ak}{js:List Nat}{D:Kn}{g:List Int}(h:ox x 0 js D):g∈D.aL<->∃j∈js,∃t∈fb x 0 j,g=t.take 4:=by
 induction h with
 |nil=>simp[Kn.zero]
 |@snoc js F j hs h hp ih=>
  have key:g∈(h_ F hs (gR x 0 j)).aL<->g∈F.aL\/∃t∈fb x 0 j,g=t.take 4:=by
   unfold h_;split
   ·show g∈hs.foldl jN F.aL<->_;rw[Sy,hp.mem_iff,at7]
   ·rename_i hn;rw[FC]at hn;have:fb x 0 j=[]:=(by simpa using hn);rw[this];simp
  rw[key,ih];constructor
  ·rintro(⟨i,h1,h2⟩|h2)
   ·exact⟨i,by simp[h1],h2⟩
   ·exact⟨j,by simp,h2⟩
  ·rintro⟨i,h1,h2⟩
   rcases SV.1 h1 with h1|h1
   ·exact .inl ⟨i,h1,h2⟩
   ·rw[S9.1 h1]at h2;exact .inr h2
theorem Sz:∀{l hs:List (List Int)},hs.Nodup->(l.foldl jN hs).Nodup
 |[],hs,h=>h
 |a::l,hs,h=>by rw[UV];exact Sz (adc h)
theorem anx{x:ak}{deep:Int}{js:List Nat}{D:Kn}(h:ox x deep js D):D.aL.Nodup:=by
 induction h with
 |nil=>exact WR
 |snoc h hp ih=>
  unfold h_;split
  ·exact Sz ih
  ·exact ih
end Go.Gg.Tk
namespace Go.Gg.Tk
theorem GD{x:ak}{deep:Int}{t:Nat}(hx:x.Ok)(ht:t<x.am.toNat+1):fb x deep t=(Jj x deep t).map eB:=by
 unfold fb Jj;rw[He hx.hours.1 ht,Vz,Vl];exact uV λh hm=>PE (Hd hx ht hm)
def ny (x:ak)(deep:Int):List Tr:=(aL x).flatMap (sN x deep)
theorem BC{x:ak}{deep:Int}{js:List Nat}{p:Nat}(hx:x.Ok)(hp:x.am=p)(iJ:js.Perm (SR (p+1))){t:List Int}:(∃j∈js,t∈fb x deep j)<->∃u∈ny x deep,t=eB u:=by
 have mv:x.am.toNat=p:=by omega
 unfold ny;rw[<- aeZ hx,mv];constructor
 ·rintro⟨j,h1,h2⟩
  have hj:=iJ.mem_iff.1 h1;rw[GD hx (by rw[mv];simpa using hj)]at h2;obtain⟨u,h3,rfl⟩:=Tf.1 h2;exact⟨u,S4.2 ⟨j,hj,h3⟩,rfl⟩
 ·rintro⟨u,h1,rfl⟩
  obtain⟨j,hj,h3⟩:=S4.1 h1;refine⟨j,iJ.mem_iff.2 hj,?_⟩;rw[GD hx (by rw[mv];simpa using hj)];exact Tf.2 ⟨u,h3,rfl⟩
theorem zW{x:ak}{deep:Int}{h:List Int}{u:Tr}(hu:u∈sN x deep h):u∈gC x h:=by
 have h1:∀u,u∈v9 x h->u∈gC x h:=λu hu=>by
  unfold v9 at hu;obtain⟨ns,h1,h2⟩:=S4.1 hu;exact S4.2 ⟨ns,h1,VS h2⟩
 unfold sN at hu;split at hu
 ·exact h1 u (VS hu)
 ·split at hu
  ·exact h1 u hu
  ·exact hu
theorem v_{x:ak}{h:List Int}{u:Tr}(hu:u∈gC x h):u.aT=h:=by
 obtain⟨ns,_,h2⟩:=S4.1 hu;obtain⟨os,_,rfl⟩:=Tf.1 h2;rfl
theorem Sv{α β:Type}{f:α->List β}:∀{l:List α},(l.flatMap λa=>(f a).take 1)=[]<->l.flatMap f=[]
 |[]=>by simp
 |a::l=>by
  rw[TW,TW,YK,YK,Sv,YX];simp
theorem aeK{x:ak}{deep:Int}{h:List Int}:sN x deep h=[]<->gC x h=[]:=by
 have h1:v9 x h=[]<->gC x h=[]:=Sv;unfold sN;split
 ·rw[YX,h1];simp
 ·split
  ·exact h1
  ·exact Iff.rfl
theorem agb{x:ak}{deep:Int}:ny x deep=[]<->bM x=[]:=by
 unfold ny bM;rw[WV,WV];exact forall_congr' λh=>forall_congr' λ_=>aeK
theorem agd{x:ak}{deep:Int}{js:List Nat}:(js.any λj=> !(fb x deep j).isEmpty)=true<->∃t,∃j∈js,t∈fb x deep j:=by
 rw[UO];constructor
 ·rintro⟨j,h1,h2⟩
  cases hg:fb x deep j with
  |nil=>rw[hg]at h2;cases h2
  |cons t l=>exact⟨t,j,h1,by rw[hg];simp⟩
 ·rintro⟨t,j,h1,h2⟩
  refine⟨j,h1,?_⟩;cases hg:fb x deep j with
  |nil=>rw[hg]at h2;cases h2
  |cons=>rfl
end Go.Gg.Tk
namespace Go.Gg
open Go.Gg.Tk
theorem H6{x:ak}{deep:Int}{D:Kn}(hx:x.Ok)(h:fQ x deep D):D.has= !(bM x).isEmpty:=by
 obtain⟨p,js,h1,h2,h3,_⟩:=h;rw[abP h3,U9,agd];have key:(∃t,∃j∈js,t∈fb x deep j)<->ny x deep≠[]:=by
  constructor
  ·rintro⟨t,h⟩ he
   obtain⟨u,hu,_⟩:=(BC hx h1 h2).1 h;rw[he]at hu;cases hu
  ·intro aH;obtain⟨u,hu⟩:=Yn _ aH;exact⟨eB u,(BC hx h1 h2).2 ⟨u,hu,rfl⟩⟩
 rw[key,ne_eq,agb];cases bM x<;>simp
theorem anE{x:ak}{D:Kn}(hx:x.Ok)(h:fQ x 0 D){g:List Int}:g∈D.aL<->∃u∈bM x,g=(eB u).take 4:=by
 obtain⟨p,js,h1,h2,h3,_⟩:=h;rw[anv h3];have e:(∃j∈js,∃t∈fb x 0 j,g=t.take 4)<->∃t,(∃j∈js,t∈fb x 0 j)/\g=t.take 4:=by
  constructor
  ·rintro⟨j,a,t,b,c⟩;exact⟨t,⟨j,a,b⟩,c⟩
  ·rintro⟨t,⟨j,a,b⟩,c⟩;exact⟨j,a,t,b,c⟩
 rw[e];have aE:∀u:Tr,u∈bM x->(eB u).take 4=cz u.aT:=λu hu=>by
  obtain⟨h,hm,l5⟩:=S4.1 hu;have hl:h.length=1+x.hours.toNat:=(Bc _ _ _ (by simp) hm).1;have hh:=hx.hours;have h4:(cz u.aT).length=4:=by
   rw[v_ l5];simp[cz];omega
  unfold eB dC;rw[SC,TB (by omega),SW (by omega)]
 have lY:∀u,u∈ny x 0->u∈bM x:=λu hu=>by
  obtain⟨h,a,b⟩:=S4.1 hu;exact S4.2 ⟨h,a,zW b⟩
 constructor
 ·rintro⟨t,a,rfl⟩
  obtain⟨u,hu,rfl⟩:=(BC hx h1 h2).1 a;exact⟨u,lY u hu,rfl⟩
 ·rintro⟨u,hu,rfl⟩
  obtain⟨h,hm,l5⟩:=S4.1 hu;have aH:sN x 0 h≠[]:=λe=>by
   rw[aeK]at e;rw[e]at l5;cases l5
  obtain⟨v,hv⟩:=Yn _ aH;have m8:v∈ny x 0:=S4.2 ⟨h,hm,hv⟩;refine⟨eB v,(BC hx h1 h2).2 ⟨v,m8,rfl⟩,?_⟩;rw[aE u hu,aE v (lY v m8),v_ l5,v_ (zW hv)]
end Go.Gg
namespace Go.Gg.Tk
theorem QN(Q:Kn)(t:List Int):(jR Q t).az=Q.az/\(jR Q t).hours=Q.hours/\(jR Q t).less=Q.less/\(jR Q t).aW=Q.aW:=by
 unfold jR;split<;>exact⟨rfl,rfl,rfl,rfl⟩
theorem ate{x:ak}{Q:Kn}{t:List Int}{p n:Nat}(hx:x.Ok)(hQ:bR Q)(hp:p<x.pieces.length):((eK x 1 Q t).az.getD p 0).testBit n=((Q.az.getD p 0).testBit n||decide (n=iN t p)):=by
 have h:(eK x 1 Q t).az=sB t x.pieces.length Q.az:=by
  rw[<- (QN Q t).1];rfl
 rw[h,acK,JP _ (by rw[hQ.az];exact hx.ee),decide_eq_true hp,UP]
theorem atf{x:ak}{Q:Kn}{t:List Int}{s n:Nat}(hx:x.Ok)(hQ:bR Q)(hs:s<x.aC.length):((eK x 2 Q t).aW.getD s 0).testBit n=((Q.aW.getD s 0).testBit n||decide (n=sK t s)):=by
 have h:(eK x 2 Q t).aW=nd t x.aC.length Q.aW:=by
  rw[<- (QN Q t).2.2.2];rfl
 rw[h,ac4,JP _ (by rw[hQ.aW];exact hx.db),decide_eq_true hs,UP]
theorem aab{x:ak}{deep:Int}(hx:x.Ok){f:Kn->Bool}{g:List Int->Bool}(h:∀Q t,bR Q->jB x t->f (eK x deep Q t)=(f Q||g t)):∀(ts:List (List Int))(Q:Kn),bR Q->(∀t∈ts,jB x t)->f (ts.foldl (eK x deep) Q)=(f Q||ts.any g)
 |[],Q,_,_=>by simp
 |t::ts,Q,hQ,ht=>by
  rw[UV,aab hx h ts _ (Pw hx (ht t (by simp)) hQ) (λu hu=>ht u (by simp[hu])),h Q t hQ (ht t (by simp)),Y2,Bool.or_assoc]
theorem aas{x:ak}{deep:Int}{j:Nat}(hx:x.Ok)(hj:j<=3){t:List Int}(ht:t∈fb x deep j):jB x t:=by
 obtain⟨h,h1,h2⟩:=S4.1 ht;obtain⟨ns,h3,h4⟩:=PF h2;exact((Fx hx) j hj h h1).2 ns h3 t h4
theorem anw{x:ak}{deep:Int}(hx:x.Ok){f:Kn->Bool}{g:List Int->Bool}(h0:f Kn.zero=false)(h:∀Q t,bR Q->jB x t->f (eK x deep Q t)=(f Q||g t))(hj:∀F G hs,bR F->bR G->G.has=true->f (h_ F hs G)=(f F||f G)){js:List Nat}{D:Kn}(iJ:∀j∈js,j<=3)(hD:ox x deep js D):bR D/\f D=js.any λj=>(fb x deep j).any g:=by
 induction hD with
 |nil=>exact⟨EC,by simpa using h0⟩
 |@snoc js F j hs hJ hp ih=>
  obtain⟨m_,lB⟩:=ih λi hi=>iJ i (by simp[hi]);have hj3:j<=3:=iJ j (by simp);have aq:bR (gR x deep j):=PM hx ((Fx hx) j hj3);refine⟨abM m_ aq hp,?_⟩;have hw:f (gR x deep j)=(fb x deep j).any g:=by
   rw[Ji,aab hx h _ _ EC (λt ht=>aas hx hj3 ht),h0,ZH]
  rw[Z2,<- lB];simp only[Y2,List.any_nil,Bool.or_false];cases hG:(gR x deep j).has with
  |true=>rw[hj F _ hs m_ aq hG,hw]
  |false=>
   have hn:fb x deep j=[]:=by
    rw[FC]at hG;simpa using hG
   rw[hn];unfold h_;rw[hG];simp
end Go.Gg.Tk
namespace Go.Gg
open Go.Gg.Tk
theorem abS{x:ak}{deep:Int}(hx:x.Ok){f:Kn->Bool}{g:List Int->Bool}(h0:f Kn.zero=false)(h:∀Q t,bR Q->jB x t->f (eK x deep Q t)=(f Q||g t))(hj:∀F G hs,bR F->bR G->G.has=true->f (h_ F hs G)=(f F||f G)){D:Kn}(hD:fQ x deep D):f D=true<->∃u∈ny x deep,g (eB u)=true:=by
 obtain⟨p,js,h1,h2,h3,_⟩:=hD;have hp:=hx.am;have iJ:∀j∈js,j<=3:=λj hm=>by
  have:=h2.mem_iff.1 hm;rw[TG]at this;omega
 rw[(anw hx h0 h hj iJ h3).2,UO];constructor
 ·rintro⟨j,a,b⟩
  obtain⟨t,c,d⟩:=UO.1 b;obtain⟨u,hu,rfl⟩:=(BC hx h1 h2).1 ⟨j,a,c⟩;exact⟨u,hu,d⟩
 ·rintro⟨u,hu,d⟩
  obtain⟨j,a,c⟩:=(BC hx h1 h2).2 ⟨u,hu,rfl⟩;exact⟨j,a,UO.2 ⟨_,c,d⟩⟩
theorem anG{x:ak}{D:Kn}{s n:Nat}(hx:x.Ok)(hD:fQ x 2 D)(hs:s<x.aC.length):(D.aW.getD s 0).testBit n=true<->∃u∈bM x,sK (eB u) s=n:=by
 have aP:=hx.db;have e:ny x 2=bM x:=rfl;rw[<- e,abS (f:=λK=>(K.aW.getD s 0).testBit n) (g:=λt=>decide (n=sK t s)) hx ?_ (λQ t hQ _=>atf hx hQ hs) (λF G pP hF hG hh=> ?_) hD]
 ·exact exists_congr λu=>and_congr_right λ_=>by rw[decide_eq_true_eq];exact eq_comm
 ·have:([0,0,0]:List Nat).getD s 0=0:=by
   match s,(show s<3 by omega)with
   |0,_=>rfl
   |1,_=>rfl
   |2,_=>rfl
  show (([0,0,0]:List Nat).getD s 0).testBit n=false;rw[this];exact ZI n
 ·have e2:(h_ F pP G).aW=l9 F.aW G.aW:=by unfold h_;rw[if_pos hh]
  rw[e2];exact acV (by rw[hF.aW,hG.aW])
theorem Qj{x:ak}{P:List Int->List Int->Prop}:(∃u∈ny x 1,P u.aT u.az)<->∃u∈bM x,P u.aT u.az:=by
 constructor
 ·rintro⟨u,hu,hp⟩
  obtain⟨h,a,b⟩:=S4.1 hu;exact⟨u,S4.2 ⟨h,a,zW b⟩,hp⟩
 ·rintro⟨u,hu,hp⟩
  obtain⟨h,a,b⟩:=S4.1 hu;obtain⟨ns,c,d⟩:=S4.1 b;obtain⟨os,c2,rfl⟩:=Tf.1 d;cases ho:nc h ns x.aC []with
  |nil=>rw[ho]at c2;cases c2
  |cons o os'=>
   refine⟨⟨h,ns,o⟩,S4.2 ⟨h,a,?_⟩,hp⟩;show _∈v9 x h;refine S4.2 ⟨ns,c,?_⟩;unfold sO;rw[ho];simp
theorem EV{h:List Int}:∀{ys:List aB}{t ns:List Int},ns∈lF h ys t->ns.length=t.length+ys.length
 |[],t,ns,hm=>by
  simp only[lF,S9]at hm;subst hm;rfl
 |y::ys,t,ns,hm=>by
  simp only[lF,S4]at hm;obtain⟨n,_,hm⟩:=hm;have:=EV hm;simp at this⊢;omega
theorem xK{x:ak}(hx:x.Ok){u:Tr}(hu:u∈bM x):u.aT.length=1+x.hours.toNat/\u.az.length=x.pieces.length:=by
 obtain⟨h,a,b⟩:=S4.1 hu;obtain⟨ns,c,d⟩:=S4.1 b;obtain⟨os,_,rfl⟩:=Tf.1 d;exact⟨(Bc _ _ _ (by simp) a).1,by simpa using EV c⟩
theorem zG{h:List Int}(h4:h.length<=4):(cz h).length=4:=by simp[cz];omega
theorem RI{x:ak}(hx:x.Ok){u:Tr}(hu:u∈bM x){p:Nat}(hp:p<x.pieces.length):iN (eB u) p=(u.az.getD p 0-u.aT.headD 0).toNat:=by
 obtain⟨h1,h2⟩:=xK hx hu;have hh:=hx.hours;have h4:=zG (h:=u.aT) (by omega);have cL:p<u.az.length:=by omega
 have hg:(eB u)[4+p]?=some (((u.az[p]-u.aT.headD 0).toNat:Nat):Int):=by
  unfold eB dC lG;rw[SC,S_ (by omega),h4,T5,S0 (by simp;omega),S0 (by simpa using cL),Tp,Tp,SY cL];rfl
 unfold iN;rw[SE,hg,SE,SY cL];rfl
theorem aun{p:Nat}(hp:p<4):([0,0,0,0]:List Nat).getD p 0=0:=by
 match p,hp with
 |0,_=>rfl
 |1,_=>rfl
 |2,_=>rfl
 |3,_=>rfl
theorem anF{x:ak}{D:Kn}{p n:Nat}(hx:x.Ok)(hD:fQ x 1 D)(hp:p<x.pieces.length):(D.az.getD p 0).testBit n=true<->∃u∈bM x,(u.az.getD p 0-u.aT.headD 0).toNat=n:=by
 have nY:=hx.ee;rw[abS (f:=λK=>(K.az.getD p 0).testBit n) (g:=λt=>decide (n=iN t p)) hx ?_ (λQ t hQ _=>ate hx hQ hp) (λF G pP hF hG hh=> ?_) hD]
 ·rw[<- Qj (P:=λh ns=>(ns.getD p 0-h.headD 0).toNat=n)];refine exists_congr λu=>and_congr_right λhu=> ?_;obtain⟨h,a,b⟩:=S4.1 hu;have hu2:u∈bM x:=S4.2 ⟨h,a,zW b⟩;rw[decide_eq_true_eq,RI hx hu2 hp];exact eq_comm
 ·show (([0,0,0,0]:List Nat).getD p 0).testBit n=false;rw[aun (by omega)];exact ZI n
 ·have e2:(h_ F pP G).az=l9 F.az G.az:=by unfold h_;rw[if_pos hh]
  rw[e2];exact acV (by rw[hF.az,hG.az])
theorem acJ{h:List Int}:∀{ys:List aB}{t ns:List Int},ns∈lF h ys t->(∀n∈t,h.headD 0<=n)->∀n∈ns,h.headD 0<=n
 |[],t,ns,hm,ht=>by
  simp only[lF,S9]at hm;subst hm;exact ht
 |y::ys,t,ns,hm,ht=>by
  simp only[lF,S4,Uz]at hm;obtain⟨n,⟨hn,_⟩,hm⟩:=hm;refine acJ hm λk hk=> ?_;rcases SV.1 hk with h'|h'
  ·exact ht k h'
  ·rw[S9.1 h'];obtain⟨i,_,rfl⟩:=Tf.1 hn;omega
theorem atL{x:ak}{u:Tr}(hu:u∈bM x):∀n∈u.az,u.aT.headD 0<=n:=by
 obtain⟨h,a,b⟩:=S4.1 hu;obtain⟨ns,c,d⟩:=S4.1 b;obtain⟨os,_,rfl⟩:=Tf.1 d;exact acJ c (by simp)
end Go.Gg
namespace Go.Gg.Tk
theorem Hb{x:ak}:∀(d:Nat)(pre h:List Int),h∈jm x d pre->h.take pre.length=pre
 |0,pre,h,hm=>by
  unfold jm at hm;split at hm
  ·rw[S9]at hm;subst hm;exact Tn
  ·cases hm
 |d+1,pre,h,hm=>by
  unfold jm at hm;split at hm
  ·obtain⟨n,_,hm⟩:=S4.1 hm;have:=Hb d _ h hm;rw[SQ,TH]at this;have h2:=congrArg (Uh pre.length) this;rw[Vd,TB (SO _),Tn,WB (by omega)]at h2;exact h2
  ·cases hm
theorem aaX{x:ak}:∀(d:Nat)(pre:List Int),(jm x d pre).Nodup
 |0,pre=>by
  unfold jm;split
  ·simp
  ·exact WR
 |d+1,pre=>by
  unfold jm;split
  ·unfold List.Nodup;rw[List.pairwise_flatMap];refine⟨λn _=>aaX d _,?_⟩;refine ae_ ?_ (Ya (n:=x.am.toNat+1));intro a b gJ h ha g hb he;subst he;have h1:=Hb d _ h ha;have h2:=Hb d _ h hb;rw[SQ,TH]at h1 h2;have h3:=h1.symm.trans h2;have:=List.append_cancel_left h3;simp at this;exact gJ (by omega)
  ·exact WR
theorem al3(x:ak):(aL x).Nodup:=aaX _ _
end Go.Gg.Tk
namespace Go.Gg
open Go.Gg.Tk
theorem atg(x:ak)(deep:Int)(Q:Kn)(t:List Int):(eK x deep Q t).first=if Q.has=true then Q.first else t:=by
 have hB:(jR Q t).first=if Q.has=true then Q.first else t:=by unfold jR;split<;>rfl
 unfold eK;dsimp only;split
 ·exact hB
 ·split
  ·exact hB
  ·exact hB
theorem aac{x:ak}{deep:Int}:∀(ts:List (List Int))(Q:Kn),(ts.foldl (eK x deep) Q).first=if Q.has=true then Q.first else(match ts with|[]=>Q.first|t::_=>t)
 |[],Q=>by simp
 |t::ts,Q=>by
  rw[UV,aac ts,aew,if_pos rfl,atg]
theorem aua{x:ak}{deep:Int}{j:Nat}{t:List Int}{l:List (List Int)}(h:fb x deep j=t::l):(gR x deep j).first=t:=by
 rw[Ji,aac,h];rfl
theorem ant{Q G:Kn}{hs:List (List Int)}(h:G.has=true):(h_ Q hs G).first=if Q.has=false\/te G.first Q.first=true then G.first else Q.first:=by
 unfold h_;rw[if_pos h]
theorem apO{h:List Int}{a b:Int}(hl:h.take 2=[a,b]):(cz h).take 4=a::b::((cz h).drop 2).take 2:=by
 match h,hl with
 |c::d::l,hl=>
  simp only[VZ,Zh,Y1,and_true]at hl;obtain⟨rfl,rfl⟩:=hl;simp[cz]
theorem aat{x:ak}{deep:Int}{j:Nat}(hx:x.Ok)(hj:j<x.am.toNat+1){t:List Int}(ht:t∈fb x deep j):∃l,t.take 4=x.first::(x.first+(j:Int))::l:=by
 rw[GD hx hj]at ht;obtain⟨u,hu,rfl⟩:=Tf.1 ht;obtain⟨h,hm,hu⟩:=S4.1 hu;have hL:=Hd hx hj hm;have l5:=v_ (zW hu);have h2:h.take 2=[x.first,x.first+(j:Int)]:=by
  unfold w7 at hm;split at hm
  ·exact Hb _ _ _ hm
  ·cases hm
 have e:(eB u).take 4=(cz h).take 4:=by
  unfold eB dC;rw[l5,SC,TB (by rw[zG hL.hi];omega)]
 rw[e,apO h2];exact⟨_,rfl⟩
theorem akV{x:ak}{deep:Int}{i j:Nat}(hx:x.Ok)(hi:i<x.am.toNat+1)(hj:j<x.am.toNat+1)(kx:i≠j){t u:List Int}(ht:t∈fb x deep i)(hu:u∈fb x deep j):te t u=decide (i<j):=by
 obtain⟨l,h1⟩:=aat hx hi ht;obtain⟨m,h2⟩:=aat hx hj hu;have aH:t.take 4≠u.take 4:=by
  rw[h1,h2];simp only[ne_eq,Y1,true_and,not_and];intro h;omega
 unfold te;rw[if_neg aH,h1,h2];by_cases h:i<j
 ·have e1:mT (x.first+(i:Int)) (x.first+(j:Int))= -1:=by unfold mT;rw[if_pos (by omega)]
  have e0:mT x.first x.first=0:=by unfold mT;simp
  simp[oF,e0,e1,h]
 ·have e1:mT (x.first+(i:Int)) (x.first+(j:Int))=1:=by unfold mT;rw[if_neg (by omega),if_pos (by omega)]
  have e0:mT x.first x.first=0:=by unfold mT;simp
  simp[oF,e0,e1,h]
theorem abO{x:ak}{deep:Int}{js:List Nat}{D:Kn}(hx:x.Ok)(hJ:ox x deep js D)(hn:js.Nodup)(hj:∀j∈js,j<x.am.toNat+1)(hh:D.has=true):∃j∈js,∃t l,fb x deep j=t::l/\D.first=t/\∀i∈js,fb x deep i≠[]->j<=i:=by
 induction hJ with
 |nil=>cases hh
 |@snoc js Q j hs hJ hp ih=>
  have iZ:js.Nodup:=(Vh.1 hn).1;have lS:j∉js:=λh=>(Vh.1 hn).2.2 j h j (by simp) rfl;have ih':=ih iZ (λi hi=>hj i (by simp[hi]));by_cases hG:fb x deep j=[]
  ·have hg:(gR x deep j).has=false:=(by rw[FC,hG];rfl);have hD:h_ Q hs (gR x deep j)=Q:=(by unfold h_;rw[hg];rfl);rw[hD]at hh⊢;obtain⟨i,h1,t,l,h2,h3,h4⟩:=ih' hh;refine⟨i,by simp[h1],t,l,h2,h3,λk hk aH=> ?_⟩;rcases SV.1 hk with hk|hk
   ·exact h4 k hk aH
   ·rw[S9]at hk;subst hk;exact absurd hG aH
  ·obtain⟨t,l,ht⟩:∃t l,fb x deep j=t::l:=by
    cases hg:fb x deep j with
    |nil=>exact absurd hg hG
    |cons t l=>exact⟨t,l,rfl⟩
   have hg:(gR x deep j).has=true:=(by rw[FC,ht];rfl);rw[ant hg,aua ht];by_cases hQ:Q.has=true
   ·obtain⟨i,h1,t',l',h2,h3,h4⟩:=ih' hQ;have hb:te t Q.first=decide (j<i):=by
     rw[h3];exact akV hx (hj j (by simp)) (hj i (by simp[h1])) (λe=>lS (e▸h1)) (by rw[ht];simp) (by rw[h2];simp)
    by_cases kx:j<i
    ·rw[if_pos (.inr (by rw[hb];simpa using kx))];refine⟨j,by simp,t,l,ht,rfl,λk hk aH=> ?_⟩;rcases SV.1 hk with hk|hk
     ·have:=h4 k hk aH;omega
     ·rw[S9]at hk;omega
    ·rw[if_neg (by rw[hQ,hb];simpa using kx)];refine⟨i,by simp[h1],t',l',h2,h3,λk hk aH=> ?_⟩;rcases SV.1 hk with hk|hk
     ·exact h4 k hk aH
     ·rw[S9]at hk;omega
   ·rw[if_pos (.inl (by simpa using hQ))];refine⟨j,by simp,t,l,ht,rfl,λk hk aH=> ?_⟩;rcases SV.1 hk with hk|hk
    ·have hQf:Q.has=js.any λj=> !(fb x deep j).isEmpty:=abP hJ;exfalso;apply hQ;rw[hQf,UO];refine⟨k,hk,?_⟩;cases hg:fb x deep k with
     |nil=>exact absurd hg aH
     |cons=>rfl
    ·rw[S9]at hk;omega
theorem aaQ{α:Type}{f:Nat->List α}{j:Nat}{t:α}{l:List α}:∀{n:Nat},j<n->f j=t::l->(∀i,i<j->f i=[])->((SR n).flatMap f).head?=some t
 |0,h,_,_=>absurd h (by omega)
 |n+1,h,hf,h0=>by
  rw[UZ,Uk,WU];by_cases hj:j<n
  ·rw[aaQ hj hf h0];rfl
  ·have e:j=n:=(by omega);subst e;have:(SR j).flatMap f=[]:=by
    rw[WV];intro i hi;exact h0 i (TG.1 hi)
   rw[this];simp[hf]
theorem Ma{α β:Type}{f g:α->List β}:∀(l:List α),(∀a,(f a).head?=(g a).head?)->(l.flatMap f).head?=(l.flatMap g).head?
 |[],_=>rfl
 |a::l,h=>by
  rw[TW,TW,WU,WU,h a,Ma l h]
theorem aev{α:Type}(l:List α):(l.take 1).head?=l.head?:=by cases l<;>rfl
theorem aga{x:ak}{deep:Int}:(ny x deep).head?=(bM x).head?:=by
 refine Ma _ λh=> ?_;have h1:(v9 x h).head?=(gC x h).head?:=Ma _ λns=>aev _;unfold sN;split
 ·rw[aev,h1]
 ·split
  ·exact h1
  ·rfl
theorem anD{x:ak}{deep:Int}{D:Kn}(hx:x.Ok)(h:fQ x deep D)(hh:D.has=true):∃u l,bM x=u::l/\D.first=eB u:=by
 obtain⟨p,js,h1,h2,h3,_⟩:=h;have mv:x.am.toNat=p:=by omega
 have hj:∀j∈js,j<x.am.toNat+1:=λj hj=>by rw[mv];exact TG.1 (h2.mem_iff.1 hj)
 obtain⟨j,a,t,l,b,c,d⟩:=abO hx h3 (h2.nodup_iff.2 Ya) hj hh;have hd:((SR (p+1)).flatMap λj=>fb x deep j).head?=some t:=by
  refine aaQ (TG.1 (h2.mem_iff.1 a)) b λi hi=> ?_;cases hg:fb x deep i with
  |nil=>rfl
  |cons v w=>
   have:=d i (h2.mem_iff.2 (TG.2 (by have:=hj j a;omega))) (by rw[hg];simp);omega
 have he:((SR (p+1)).flatMap λj=>fb x deep j)=(ny x deep).map eB:=by
  unfold ny;rw[<- aeZ hx,mv,Vl];exact uV λi hi=>GD hx (by rw[mv];exact TG.1 hi)
 rw[he,List.head?_map,aga]at hd;cases ht:bM x with
 |nil=>rw[ht]at hd;cases hd
 |cons u l=>
  rw[ht]at hd;simp only[Z1,UW,Tm]at hd;exact⟨u,l,rfl,by rw[c,hd]⟩
namespace Tk
def live (x:ak):List (List Int):=(aL x).filter λh=> !(gC x h).isEmpty
def cnt (x:ak):Int:=(live x).length
theorem Ic{x:ak}{h:List Int}:h∈live x<->∃u∈bM x,u.aT=h:=by
 unfold live;rw[Uz];constructor
 ·rintro⟨h1,h2⟩
  cases ht:gC x h with
  |nil=>rw[ht]at h2;cases h2
  |cons u l=>
   have hu:u∈gC x h:=(by rw[ht];simp);exact⟨u,S4.2 ⟨h,h1,hu⟩,v_ hu⟩
 ·rintro⟨u,hu,rfl⟩
  obtain⟨h,a,b⟩:=S4.1 hu;have e:=v_ b;subst e;refine⟨a,?_⟩;cases ht:gC x u.aT with
  |nil=>rw[ht]at b;cases b
  |cons=>rfl
theorem Mu{x:ak}{h:List Int}(hm:h∈aL x):h.length=1+x.hours.toNat:=(Bc _ _ _ (by simp) hm).1
theorem OG{h:List Int}{n:Nat}(hl:h.length=n):(cz h).take n=h:=by
 subst hl;unfold cz;rw[TB (SO _),Tn]
theorem aoo(x:ak):((live x).map cz).Nodup:=by
 have h:(live x).Nodup:=(al3 x).filter _;rw[Uv,XF];have h2:=Uv.1 h;refine XD ?_ h2;intro a b ha hb aH e;have la:=Mu ((Uz.1 ha).1);have lb:=Mu ((Uz.1 hb).1);apply aH;rw[<- OG la,e,OG lb]
end Tk
theorem KJ{x:ak}(hx:x.Ok){u:Tr}(hu:u∈bM x):(eB u).take 4=cz u.aT:=by
 have hl:=(xK hx hu).1;have hh:=hx.hours;unfold eB dC;rw[SC,TB (by rw[zG (by omega)];omega),SW (by rw[zG (by omega)];omega)]
theorem abT{x:ak}{D:Kn}(hx:x.Ok)(h:fQ x 0 D):D.aL.Perm ((live x).map cz):=by
 have hn:D.aL.Nodup:=by obtain⟨p,js,h1,h2,h3,_⟩:=h;exact anx h3
 refine(List.perm_ext_iff_of_nodup hn (aoo x)).2 λg=> ?_;rw[anE hx h,Tf];constructor
 ·rintro⟨u,hu,rfl⟩
  exact⟨u.aT,Ic.2 ⟨u,hu,rfl⟩,(KJ hx hu).symm⟩
 ·rintro⟨h,hm,rfl⟩
  obtain⟨u,hu,rfl⟩:=Ic.1 hm;exact⟨u,hu,(KJ hx hu).symm⟩
theorem zn{x:ak}{deep:Int}{D:Kn}(hx:x.Ok)(h:fQ x deep D):D.has=false<->bM x=[]:=by
 rw[H6 hx h];cases bM x<;>simp
theorem acd{x:ak}:live x=[]<->bM x=[]:=by
 constructor
 ·intro h;cases ht:bM x with
  |nil=>rfl
  |cons u l=>
   have:u.aT∈live x:=Ic.2 ⟨u,by rw[ht];simp,rfl⟩;rw[h]at this;cases this
 ·intro h;cases hl:live x with
  |nil=>rfl
  |cons a l=>
   obtain⟨u,hu,_⟩:=Ic.1 (show a∈live x by rw[hl];simp);rw[h]at hu;cases hu
theorem count_eq{x:ak}{D:Kn}(hx:x.Ok)(h:fQ x 0 D):(if D.has then(D.aL.length:Int)else 0)=cnt x:=by
 cases hD:D.has with
 |true=>rw[if_pos rfl,(abT hx h).length_eq,Ta];rfl
 |false=>
  have:=acd.2 ((zn hx h).1 hD);simp[cnt,this]
theorem aoW(a b:Int):min a b=a\/min a b=b:=by omega
theorem aoR(a b:Int):max a b=a\/max a b=b:=by omega
theorem QQ(v:List Int->Int):∀(hs:List (List Int))(b:ij),b.is=true->(hs.foldl (λb h=>b.add (v h)) b).is=true/\((hs.foldl (λb h=>b.add (v h)) b).lo=b.lo\/∃h∈hs,(hs.foldl (λb h=>b.add (v h)) b).lo=v h)/\(hs.foldl (λb h=>b.add (v h)) b).lo<=b.lo/\(∀h∈hs,(hs.foldl (λb h=>b.add (v h)) b).lo<=v h)/\((hs.foldl (λb h=>b.add (v h)) b).hi=b.hi\/∃h∈hs,(hs.foldl (λb h=>b.add (v h)) b).hi=v h)/\b.hi<=(hs.foldl (λb h=>b.add (v h)) b).hi/\∀h∈hs,v h<=(hs.foldl (λb h=>b.add (v h)) b).hi
 |[],b,hb=>⟨hb,.inl rfl,Xw _,by simp,.inl rfl,Xw _,by simp⟩
 |g::hs,b,hb=>by
  have dG:b.add (v g)=⟨min b.lo (v g),max b.hi (v g),true⟩:=by unfold ij.add;rw[if_pos hb]
  obtain⟨h1,h2,h3,h4,h5,h6,h7⟩:=QQ v hs (b.add (v g)) (by rw[dG]);rw[UV];generalize hs.foldl (λb h=>b.add (v h)) (b.add (v g))=R at*;rw[dG]at h2 h3 h5 h6;dsimp only at h2 h3 h5 h6;have m1:min b.lo (v g)=b.lo\/min b.lo (v g)=v g:=aoW _ _;have m2:max b.hi (v g)=b.hi\/max b.hi (v g)=v g:=aoR _ _;refine⟨h1,?_,XP h3 (Int.min_le_left _ _),?_,?_,XP (Int.le_max_left _ _) h6,?_⟩
  ·rcases h2 with h2|⟨h,a,c⟩
   ·rcases m1 with m1|m1
    ·exact .inl (h2.trans m1)
    ·exact .inr ⟨g,by simp,h2.trans m1⟩
   ·exact .inr ⟨h,by simp[a],c⟩
  ·intro h hm;rcases SK.1 hm with rfl|hm
   ·exact XP h3 (Int.min_le_right _ _)
   ·exact h4 h hm
  ·rcases h5 with h2|⟨h,a,c⟩
   ·rcases m2 with m1|m1
    ·exact .inl (h2.trans m1)
    ·exact .inr ⟨g,by simp,h2.trans m1⟩
   ·exact .inr ⟨h,by simp[a],c⟩
  ·intro h hm;rcases SK.1 hm with rfl|hm
   ·exact XP (Int.le_max_right _ _) h6
   ·exact h7 h hm
namespace Tk
structure Bounds (hs:List (List Int))(v:List Int->Int)(lo hi:Int):Prop where
 H2:∃h∈hs,lo=v h
 le:∀h∈hs,lo<=v h
 HZ:∃h∈hs,hi=v h
 ge:∀h∈hs,v h<=hi
theorem Bounds.uniq{hs:List (List Int)}{v:List Int->Int}{a b c d:Int}(h:Bounds hs v a b)(k:Bounds hs v c d):a=c/\b=d:=by
 obtain⟨g1,m1,e1⟩:=h.H2;obtain⟨g2,m2,e2⟩:=h.HZ;obtain⟨g3,m3,e3⟩:=k.H2;obtain⟨g4,m4,e4⟩:=k.HZ;have:=h.le _ m3;have:=h.ge _ m4;have:=k.le _ m1;have:=k.ge _ m2;omega
theorem Bounds.apv{hs gs:List (List Int)}{v:List Int->Int}{a b:Int}(h:Bounds hs v a b)(hp:hs.Perm gs):Bounds gs v a b:=by
 obtain⟨g1,m1,e1⟩:=h.H2;obtain⟨g2,m2,e2⟩:=h.HZ;exact⟨⟨g1,hp.mem_iff.1 m1,e1⟩,λg hg=>h.le g (hp.mem_iff.2 hg),⟨g2,hp.mem_iff.1 m2,e2⟩,λg hg=>h.ge g (hp.mem_iff.2 hg)⟩
end Tk
theorem ahx{hs:List (List Int)}(v:List Int->Int)(aH:hs≠[]):Bounds hs v (hs.foldl (λ(b:ij) h=>b.add (v h)) (⟨0,0,false⟩:ij)).lo (hs.foldl (λ(b:ij) h=>b.add (v h)) (⟨0,0,false⟩:ij)).hi:=by
 cases hs with
 |nil=>exact absurd rfl aH
 |cons g hs=>
  rw[UV,show ij.add ⟨0,0,false⟩ (v g)=⟨v g,v g,true⟩from rfl];obtain⟨_,h2,h3,h4,h5,h6,h7⟩:=QQ v hs ⟨v g,v g,true⟩ rfl;generalize hs.foldl (λ(b:ij) h=>b.add (v h)) (⟨v g,v g,true⟩:ij)=R at*;dsimp only at h2 h3 h5 h6;refine⟨?_,?_,?_,?_⟩
  ·rcases h2 with h2|⟨h,a,c⟩
   ·exact⟨g,by simp,h2⟩
   ·exact⟨h,by simp[a],c⟩
  ·intro h hm;rcases SK.1 hm with rfl|hm
   ·exact h3
   ·exact h4 h hm
  ·rcases h5 with h2|⟨h,a,c⟩
   ·exact⟨g,by simp,h2⟩
   ·exact⟨h,by simp[a],c⟩
  ·intro h hm;rcases SK.1 hm with rfl|hm
   ·exact h6
   ·exact h7 h hm
open Go.Gg.Tk
theorem aiC{x:ak}(hx:x.Ok){u:Tr}(hu:u∈bM x){p:Nat}(hp:p<x.pieces.length):(eB u).getD (4+p) 0=u.az.getD p 0-u.aT.headD 0:=by
 obtain⟨h1,h2⟩:=xK hx hu;have hh:=hx.hours;have h4:=zG (h:=u.aT) (by omega);have cL:p<u.az.length:=by omega
 have ve:=atL hu u.az[p] (Ww cL);have hg:(eB u)[4+p]?=some (((u.az[p]-u.aT.headD 0).toNat:Nat):Int):=by
  unfold eB dC lG;rw[SC,S_ (by omega),h4,T5,S0 (by simp;omega),S0 (by simpa using cL),Tp,Tp,SY cL];rfl
 rw[SE,hg,SE,SY cL];simp only[S8];omega
theorem OF{h ns:List Int}:∀{ss:List aB}{t os:List Nat},os∈nc h ns ss t->(∀p∈t,p<ns.length)->os.length=t.length+ss.length/\∀p∈os,p<ns.length
 |[],t,os,hm,ht=>by
  simp only[nc,S9]at hm;subst hm;exact⟨rfl,ht⟩
 |s::ss,t,os,hm,ht=>by
  simp only[nc,S4,Uz,TG]at hm;obtain⟨p,⟨hp,_⟩,hm⟩:=hm;have:=OF hm λq hq=>by
   rcases SV.1 hq with hq|hq
   ·exact ht q hq
   ·rw[S9.1 hq];exact hp
  refine⟨?_,this.2⟩;rw[this.1];simp;omega
theorem I9{x:ak}(hx:x.Ok){u:Tr}(hu:u∈bM x):u.bI.length=x.aC.length/\∀p∈u.bI,p<x.pieces.length:=by
 have h2:=(xK hx hu).2;obtain⟨h,a,b⟩:=S4.1 hu;obtain⟨ns,c,d⟩:=S4.1 b;obtain⟨os,e,rfl⟩:=Tf.1 d;have:=OF e (by simp);dsimp only at h2⊢;rw[<- h2];exact⟨by simpa using this.1,this.2⟩
theorem aiD{x:ak}(hx:x.Ok){u:Tr}(hu:u∈bM x){s:Nat}(hs:s<x.aC.length):sK (eB u) s=u.bI.getD s 0:=by
 obtain⟨h1,h2⟩:=xK hx hu;have h3:=(I9 hx hu).1;have hh:=hx.hours;have nY:=hx.ee;have h4:=zG (h:=u.aT) (by omega);have cj:s<u.bI.length:=by omega
 have hg:(eB u)[8+s]?=some ((u.bI[s]:Nat):Int):=by
  unfold eB dC lG;have h8:(cz u.aT++((u.az.map λn=>(n-u.aT.headD 0).toNat).map (λn:Nat=>(n:Int))++TO (4-(u.az.map λn=>(n-u.aT.headD 0).toNat).length) (-1))).length=8:=by simp[h4];omega
  rw[S_ (by omega),h8,T5,S0 (by simpa using cj),Tp,SY cj];rfl
 unfold sK;rw[SE,hg,SE,SY cj];rfl
namespace Tk
def F7 (x:ak)(f:Tr->Bool):Bool:=(bM x).any f
theorem Am{x:ak}{f:Tr->Bool}:F7 x f=true<->∃u∈bM x,f u=true:=UO
def yc (f:Nat->Bool)(more:Int)(i:Nat):List Int:=((SR i).filter f).map λn:Nat=>(n:Int)+more
def ET (x:ak)(p n:Nat):Bool:=F7 x λu=>decide ((u.az.getD p 0-u.aT.headD 0).toNat=n)
def q_ (x:ak)(s q:Nat):Bool:=F7 x λu=>decide (u.bI.getD s 0=q)
def zE (x:ak)(s q:Nat):Bool:=F7 x λu=> !decide (u.bI.getD s 0=q)
theorem ab8{s:Nat}{f:Nat->Bool}{more:Int}{i:Nat}(h:∀n,n<i->s.testBit n=f n):dV s more i=yc f more i:=by
 unfold dV yc;congr 1;exact U3 λn hn=>h n (TG.1 hn)
end Tk
theorem api{x:ak}{D:Kn}{p:Nat}(hx:x.Ok)(hD:fQ x 1 D)(hp:p<x.pieces.length)(n:Nat):(D.az.getD p 0).testBit n=ET x p n:=by
 rw[U9,anF hx hD hp];unfold ET;rw[Am];simp only[decide_eq_true_eq]
theorem OH{x:ak}{D:Kn}{s:Nat}(hx:x.Ok)(hD:fQ x 2 D)(hs:s<x.aC.length)(n:Nat):(D.aW.getD s 0).testBit n=q_ x s n:=by
 rw[U9,anG hx hD hs];unfold q_;rw[Am];refine exists_congr λu=>and_congr_right λhu=> ?_;rw[aiD hx hu hs,decide_eq_true_eq]
theorem apR{x:ak}{D:Kn}{s q:Nat}(hx:x.Ok)(hD:fQ x 2 D)(hs:s<x.aC.length)(hh:D.has=true):(D.aW.getD s 0!=2^q)=zE x s q:=by
 have hb:=OH hx hD hs;rw[U9,bne_iff_ne];unfold zE;rw[Am];constructor
 ·intro aH;obtain⟨u,hu⟩:∃u,u∈bM x:=by
   rw[H6 hx hD]at hh;cases ht:bM x with
   |nil=>rw[ht]at hh;cases hh
   |cons u l=>exact⟨u,by simp⟩
  by_cases hu1:u.bI.getD s 0=q
  ·refine Tv λfA=>aH ?_;apply Nat.eq_of_testBit_eq;intro n;rw[hb,Wc,U9,decide_eq_true_eq];unfold q_;rw[Am];constructor
   ·rintro⟨v,hv,e⟩
    rw[decide_eq_true_eq]at e;refine Tv λvw=>fA ⟨v,hv,?_⟩;rw[e];simp;exactλh=>vw h.symm
   ·rintro rfl
    exact⟨u,hu,by rw[decide_eq_true_eq];exact hu1⟩
  ·exact⟨u,hu,by simpa using hu1⟩
 ·rintro⟨u,hu,h⟩ he
  have hp:q_ x s (u.bI.getD s 0)=true:=by
   unfold q_;rw[Am];exact⟨u,hu,by simp⟩
  rw[<- hb,he,Wc,decide_eq_true_eq]at hp;rw[hp]at h;simp at h
theorem apQ{x:ak}{D:Kn}{s q:Nat}(hx:x.Ok)(hD:fQ x 2 D)(hs:s<x.aC.length):(if D.has then vM ((D.aW.getD s 0).testBit q) (D.aW.getD s 0!=2^q)else 0)=if(bM x).isEmpty then 0 else vM (q_ x s q) (zE x s q):=by
 have hh:=H6 hx hD;cases Lx:D.has with
 |true=>
  rw[Lx]at hh;have:(bM x).isEmpty=false:=by simpa using hh.symm
  rw[this,if_pos rfl,OH hx hD hs,apR hx hD hs Lx];rfl
 |false=>
  rw[Lx]at hh;have:(bM x).isEmpty=true:=by simpa using hh.symm
  rw[this];rfl
theorem ahe{x:ak}{deep:Int}{D:Kn}(hx:x.Ok)(hD:fQ x deep D):fl D=if(bM x).isEmpty then 11 else 0:=by
 have hh:=H6 hx hD;unfold fl;rw[hh];cases (bM x).isEmpty<;>rfl
def aej (n:Nat):Nat->Nat->List (List Int)
 |0,_=>[[]]
 |k+1,first=>(Ub first (n-k-first)).flatMap λi=>(aej n k (i+1)).map ((i:Int)::·)
def yg (n:Nat):List (List Int):=(SR (n+1)).flatMap λk=>aej n k 0
open Go.Conc Go.Proofs Go.Gg.Tk
theorem FB{l:List AV}{a b:AV}(h:Wk a b):rF (l++[a]) (l++[b]):=by
 induction l with
 |nil=>exact .cons h .nil
 |cons x l ih=>exact .cons (Wk.refl _) ih
theorem EK(n m k:Nat)(bs:List (List Int)):Lt n (.sl m (bs.map aM) (.opn k))=(k<n):=by
 rw[aci,eq_iff_iff];refine⟨λh=>h.1,λh=>⟨h,λa ha=> ?_⟩⟩;have:=BD n bs;rw[kX,p8]at this;exact this.mpr trivial a ha
theorem we:gD (TN none 0 0) 1=[.sl 0 [] .exact]:=rfl
theorem aoQ{α β:Type}{xs:List α}{i:Nat}{x:α}(f:α->β)(h:xs[i]?=some x):(xs.take (i+1)).map f=(xs.take i).map f++[f x]:=by
 obtain⟨hj,rfl⟩:=SL.1 h;rw[U2 hj,To];rfl
theorem D9{H:List aa}(hH:bJ H)(n sz:Nat)(el:TypeId):bJ (H++[.tail n sz el]):=D8 hH λz hz m=>by rw[S9.1 hz];trivial
section
variable {lv:Bool}
end
namespace Tk
def i_ (l:List Int):Nat:=if l.length=0 then 0 else(l.getD (l.length-1) 0).toNat+1
def oe (n:Nat)(l:List Int)(j:Nat):List (List Int):=(SR j).map λj:Nat=>l++[((i_ l+j:Nat):Int)]
def oo (n:Nat):Nat->List (List Int)
 |0=>[[]]
 |i+1=>oo n i++oe n ((oo n i).getD i []) (n-i_ ((oo n i).getD i []))
def xu (n:Nat):List (List Int):=oo n (2^n)
theorem anK(n:Nat)(l:List Int)(j:Nat):oe n l (j+1)=oe n l j++[l++[((i_ l+j:Nat):Int)]]:=by
 unfold oe;rw[UZ,To];rfl
theorem apI:∀n,n<4->(∀i,i<2^n->i<(oo n i).length/\(∀l∈oo n i,l.length<=3/\∀y∈l,0<=y/\y<n))/\(∀i,i<2^n+1->(oo n i).length<=8)/\(oo n (2^n)).length=2^n:=by decide+kernel
end Tk
section
variable {lv:Bool}{H:List aa}{k kp:AV->List aa->Prop}
theorem aj7{ns:List Int}{e:End}(hn:ns.length<=2^20)(h0:ns=[]->k (.sl 0 [] .exact) H)(hk:k (.sl ns.length (ns.map iv) (.opn H.length)) (H++[.tail ns.length 1 3])):ba lv SA 94 H [.sl ns.length (ns.map iv) e] k kp:=by
 refine bD (rs:=[.tmp 2]) (nt:=8) Tryz.f94 λhH hA=> ?_;simp only[bp,SU];refine aj ?_;refine aj ?_;intro b hb;refine aD ?_;refine⟨λh=> ?_,λh=> ?_⟩
 ·
  refine aj ?_;refine aX ?_;have:ns=[]:=by
   cases ns with
   |nil=>rfl
   |cons x xs=>rw[hb (by simp)]at h;cases h
  exact jE (H':=H) (G:=[]) (Wk.refl _) (by simp) (SO _) hH (by simp[Og]) (h0 this)
 ·
  refine aF ?_;refine aj ?_;refine⟨by omega,?_⟩;refine aX ?_;exact ce hk
theorem ajU{n:Nat}(hn:n<=3)(hk:k (kX (xu n)) H):ba lv SA 70 H [iv n] k kp:=by
 refine bD (rs:=[.tmp 2]) (nt:=44) Tryz.f70 λhH hA=> ?_;simp only[bp,SU];obtain⟨ln,iW,mX⟩:=apI n (by omega);refine aj ?_;refine ab ?_;simp only[seval,we,xz]
 (repeat apply eT);refine nC (t:=3) (sz:=1) (el:=22) (by simp only[seval]<;>rfl) ?_
 refine aj ?_;refine bP ?_;refine ek (2^n) (λi:Nat=>[(3,.sl (oo n i).length ((oo n i).map aM) (.opn H.length)),(4,iv i)]) (λi=>H++[.tail (oo n i).length 1 22]) (λi=>True) (λ_ _=>rfl) (by simp only[seval];simp[bk,Wk.refl];exact zX (l:=[.sl 0 [] .exact]) (l':=[aM []]) rfl (rF.cons (eQ _ _ _) .nil).at) rfl (λ_ _ _=>by simp) trivial (λbw bG i cw _ R hR=> ?_);clear bw bG;have bH:i<2^n->SD.wrap ((i:Int)+1)=((i+1:Nat):Int):=λh=>by
  have:2^n<=2^3:=UT (by omega) hn;rw[bc _ (by omega)];rfl
 refine aj ?_;refine aD ?_;refine⟨λh=> ?_,λh=> ?_⟩
 ·have br:i<2^n:=by
   rcases YO i (2^n)with h'|h'
   ·exact h'
   ·have:i=2^n:=(by omega);subst this;rw[mX]at h;omega
  obtain⟨g1,g2⟩:=ln i br;have g3:=iW i (by omega);have bH:=bH br;obtain⟨l,hl⟩:=bE g1;have Ek:oo n (i+1)=oo n i++oe n l (n-i_ l):=by
   rw[oo,SE,hl];rfl
  obtain⟨MA,hly⟩:=g2 l (sx hl);generalize oo n i=o at Ek hl g1 g3 hR⊢;refine aF ?_;refine ab ?_;simp only[seval,v7 hl,iR g1];refine aj ?_;refine ab ?_;simp only[seval,aM];refine aD ?_;refine⟨λh=> ?p1,λh=> ?p2⟩
  case' p1=>
   have tS:0<l.length:=(by omega);obtain⟨y,hy⟩:=bE (xs:=l) (i:=l.length-1) (by omega);have HS:=hly y (sx hy);have pM:i_ l=y.toNat+1:=(by unfold i_;rw[if_neg (by omega),SE,hy];rfl);have ep:SD.wrap ((l.length:Int)-1)=((l.length-1:Nat):Int):=(by rw[bc _ (by omega)];omega);have j4:SD.wrap (y+1)=((i_ l:Nat):Int):=(by rw[bc _ (by omega),pM];omega);have oO:(0<=((l.length-1:Nat):Int)/\((l.length-1:Nat):Int)<l.length)=True:=(by simp;omega);refine ab ?_;simp only[seval,ep,dN hy,oO,j4];have hlz:i_ l=i_ l:=rfl
  case' p2=>
   have hlz:i_ l=0:=(by unfold i_;rw[if_pos (by omega)]);refine aF ?_
  all_goals(
   refine aj ?_;refine bP ?_;refine ek (n-i_ l) (λj:Nat=>[(3,.sl (o.length+j) ((o++oe n l j).map aM) (.opn H.length)),(7,iv (((i_ l:Nat):Int)+j))]) (λj=>H++[.tail (o.length+j) 1 22]) (λi=>True) (λ_ _=>rfl) (by first|(simp only[seval];simp[bk,Wk.refl];done)|(simp only[seval,oe,ZK];simp[bk,Wk.refl,hlz])) (by simp) (λ_ _ _=>by simp) trivial (λbw bG j lS _ R2 gW=> ?_);clear bw bG;have hln:(n-i_ l)<=3:=(by omega);refine aj ?_;refine aD ?_;refine⟨λh2=> ?_,λh2=> ?_⟩
   ·have dn:j<n-i_ l:=(by omega);have cR:(o++oe n l (j+1)).map aM=(o++oe n l j).map aM++[aM (l++[((i_ l:Nat):Int)+j])]:=(by rw[anK,<- SC,To];rfl);have qP:((o++oe n l j).map aM).length=o.length+j:=(by simp[oe]);have m9:SD.wrap (((i_ l:Nat):Int)+j+1)=((i_ l:Nat):Int)+((j+1:Nat):Int):=(by rw[bc _ (by omega)];omega);refine aF ?_;refine aj ?_;refine aK ((aj7 (ns:=l) (by omega) (λtS=> ?_) ?_))
    ·subst tS;try simp only[seval,z1,we,xz,qP]
     first|refine⟨by decide,by omega,?_⟩|refine⟨by omega,?_⟩
     refine ab ?_;simp only[seval,m9];refine gW _ ⟨dn,trivial,?_⟩;rw[cR];refine uq [.tail 1 1 3] (lC rfl rfl) ?_ (D9 hH _ _ _) ?_ (by simp[U5])
     ·(try simp only[seval]);exact⟨⟨_,rfl,have h:=FB (l:=(o++oe n [] j).map aM) (show Wk (.sl 1 [iv (((i_ []:Nat):Int)+j)] (.opn (H.length+1))) (aM ([]++[((i_ []:Nat):Int)+j])) by exact eQ _ _ _);zX h.len h.at⟩,_,rfl,Wk.refl _⟩
     ·rw[<- cR];simp only[US,dZ,EK,iv];simp
    ·(try simp only[seval,z1,we,xz,qP]);refine⟨by omega,by omega,?_⟩;refine ab ?_;simp only[seval,m9];refine gW _ ⟨dn,trivial,?_⟩;rw[cR];refine uq [.tail (l.length+1) 1 3] (lC rfl rfl) ?_ (D9 hH _ _ _) ?_ (by simp[U5])
     ·(try simp only[seval]);exact⟨⟨_,rfl,have h:=FB (l:=(o++oe n l j).map aM) (show Wk (.sl (l.length+1) (l.map iv++[iv (((i_ l:Nat):Int)+j)]) (.opn (H.length+1))) (aM (l++[((i_ l:Nat):Int)+j])) by rw[aM,To,SQ];exact eQ _ _ _);zX h.len h.at⟩,_,rfl,Wk.refl _⟩
     ·rw[<- cR];simp only[US,dZ,EK,iv];simp
   ·have vo:j=n-i_ l:=(by omega);subst vo;refine bO ?_;refine ab ?_;simp only[seval,bH];refine hR _ ⟨br,trivial,?_⟩;rw[Ek];have DX:(o++oe n l (n-i_ l)).length=o.length+(n-i_ l):=(by simp[oe]);rw[DX];exact bX)
 ·have iw:i=2^n:=by
   rcases YO i (2^n)with h'|h'
   ·have:=(ln i h').1;omega
   ·omega
  subst iw;refine bO ?_;refine aj ?_;refine aX ?_;exact iH (b:=kX (xu n)) hH (eQ _ _ _) (by rw[BD];trivial) hk
end
open Go.Conc Go.Proofs Go.Gg.Tk
theorem Lg{α:Type}{f:α->List AV}{s:Nat}(hf:∀a,(f a).length=s):∀(xs:List α)(n:Nat),(xs.flatMap f).take (n* s)=(xs.take n).flatMap f
 |[],n=>by simp
 |x::xs,0=>by simp
 |x::xs,n+1=>by
  rw[TW,VZ,TW,List.take_append,SW (by rw[hf,XN];omega),hf,show (n+1)* s-s=n* s by rw[XN];omega,Lg hf xs n]
theorem yq{α:Type}{f:α->List AV}{s:Nat}(hf:∀a,(f a).length=s):∀(xs:List α)(n:Nat),(xs.flatMap f).drop (n* s)=(xs.drop n).flatMap f
 |[],n=>by simp
 |x::xs,0=>by simp
 |x::xs,n+1=>by
  rw[TW,List.drop_succ_cons,VD,W5 (by rw[hf,XN];omega),hf,show (n+1)* s-s=n* s by rw[XN];omega,yq hf xs n,UN]
namespace Tk
def qy (ss:List aB)(ns:List Int):List aB:=ns.foldr (λn l=>l.eraseIdx n.toNat) ss
def ak.wo (x:ak)(ns:List Int):ak:={x with aC:=qy x.aC ns}
def uz (ns:List Int)(m:Nat):Prop:=∀(i:Nat) n,ns[i]?=some n->0<=n/\n+(ns.length-i:Nat)<=m
theorem uz.tail{n:Int}{ns:List Int}{m:Nat}(h:uz (n::ns) m):uz ns m:=λi k hk=>by
 have:=h (i+1) k hk;simp only[Un]at this;exact⟨this.1,by omega⟩
theorem KB{ss:List aB}:∀{ns:List Int},uz ns ss.length->(qy ss ns).length+ns.length=ss.length
 |[],_=>rfl
 |n::ns,h=>by
  have h1:=KB h.tail;have h2:=h 0 n rfl;have e:qy ss (n::ns)=(qy ss ns).eraseIdx n.toNat:=rfl;simp only[Un]at h2⊢;rw[e,WM (by omega)];omega
end Tk
section
variable {lv:Bool}{H:List aa}{k kp:AV->List aa->Prop}
theorem Se{x:ak}{ns:List Int}{e:End}(aP:x.aC.length<=3)(iz:uz ns x.aC.length)(hk:k (x.wo ns).av H):ba lv SA 63 H [x.av,.sl ns.length (ns.map iv) e] k kp:=by
 have MI:ns.length<=3:=by have:=KB iz;omega
 refine bD (rs:=[.cell 4 76]) (nt:=32) Tryz.f63 λhH hA=> ?_;simp only[bp,SU,ak.av];obtain⟨st,lX⟩:∃st:Nat->List aB,∀j,st j=qy x.aC (ns.drop (ns.length-j)):=⟨_,λ_=>rfl⟩;have ly:st 0=x.aC:=by rw[lX,Z',List.drop_length];rfl
 have am7:st ns.length=qy x.aC ns:=by rw[lX,Vp,XJ]
 obtain⟨xl,da⟩:∃xl:List aB->List AV,∀ss,xl ss=[iv x.first,iv x.hours,iv x.am,c_ x.seen,aN x.pieces,aN ss]:=⟨_,λ_=>rfl⟩;have pY:x.l=xl x.aC:=by rw[da];rfl
 have kI:∀ss,(xl ss).drop 5=[.sl ss.length (ss.flatMap aB.l) .shut]:=λss=>by rw[da];rfl
 have bi:∀(L:List aa),(H++L)[H.length]?=L[0]?:=λL=>aZ H L 0;have dg:∀(L:List aa)(y:aa),(H++L).set H.length y=H++L.set 0 y:=λL y=>dH H L 0 y;have cQ:∀(L:List aa),(H++L)[H.length+1]?=L[1]?:=λL=>aZ H L 1;have dT:∀(L:List aa)(y:aa),(H++L).set (H.length+1) y=H++L.set 1 y:=λL y=>dH H L 1 y;rw[pY];refine aj ?_;have oc:SD.wrap ((ns.length:Int)-1)=(ns.length:Int)-1:=bc _ (by omega);refine aj ?_;refine bP ?_;refine ek ns.length (λj:Nat=>[(5,iv ((ns.length:Int)-1-j))]) (λj=>H++[.cells (xl (st j)) 26,.cells rk 76]) (λi=>True) (λ_ _=>rfl) (by simp only[seval,oc];simp[bk,Wk.refl]) (by rw[ly];rfl) (λ_ _ _=>by simp) trivial (λbw bG j lS _ R hR=> ?_);clear bG;refine aj ?_;refine aD ?_;refine⟨λh=> ?_,λh=> ?_⟩
 ·have dn:j<ns.length:=by omega
  obtain⟨i,hi⟩:∃i:Nat,i=ns.length-1-j:=⟨_,rfl⟩;have hii:(ns.length:Int)-1-j=i:=by omega
  obtain⟨n,hn⟩:=bE (xs:=ns) (i:=i) (by omega);obtain⟨oW,qO⟩:=iz i n hn;obtain⟨n,rfl⟩:∃m:Nat,n=m:=⟨n.toNat,by omega⟩;have cR:st (j+1)=(st j).eraseIdx n:=by
   rw[lX,lX,show ns.length-(j+1)=i by omega,show ns.length-j=i+1 by omega];obtain⟨hlt,rfl'⟩:=SL.1 hn;rw[T4 hlt,rfl'];rfl
  have cj:(st j).length+j=x.aC.length:=by
   have hd:uz (ns.drop (ns.length-j)) x.aC.length:=λq m hq=>by
    rw[Us]at hq;have:=iz _ _ hq;rw[Ur];exact⟨this.1,by omega⟩
   have:=KB hd;rw[<- lX,Ur]at this;omega
  have jJ:n<(st j).length:=by omega
  generalize st j=ss at cR cj jJ hR⊢;rw[hii];refine aF ?_;refine ab ?_;simp only[seval,dN hn,iR (show i<ns.length by omega)];have bH:SD.wrap ((n:Int)+1)=((n+1:Nat):Int):=by rw[bc _ (by omega)];rfl
  have lq:∀l:List aB,(l.flatMap aB.l).length=l.length* 4:=λl=>by
   induction l with
   |nil=>rfl
   |cons a l ih=>rw[TW,SQ,ih,aB.len,Un];omega
  have lZ:((n:Int)+1).toNat=n+1:=by omega
  have MP:((n:Int)+1==0)=false:=by simp;omega
  have ln:(ss.take n).length=n:=by rw[TC];omega
  have iW:(ss.drop (n+1)).length=ss.length-(n+1):=Ur;have hD1:∀l:List aB,(ss.length-(n+1))=l.length->l.take (ss.length-(n+1))=l:=λl h=>by rw[h,Tn]
  have hD2:(ss.drop (n+1)).take (ss.length-(n+1))=ss.drop (n+1):=hD1 _ iW.symm;refine ej 10 ?_;simp only[seval,bi,kI,bH,lq,lZ,Lg aB.len,yq aB.len,ln,iW,beq_self_eq_true,ah',Vt,MP,hD2,Tn];refine⟨by omega,by omega,by omega,by omega,by omega,by rw[da];simp,?_⟩;have DL:(ss.eraseIdx n).length=n+(ss.length-(n+1)):=by rw[WM jJ];omega
  have DM:(ss.eraseIdx n).flatMap aB.l=(ss.take n).flatMap aB.l++(ss.drop (n+1)).flatMap aB.l:=by rw[List.eraseIdx_eq_take_drop_succ,Uk]
  rw[<- DM,<- DL];have pF:∀y y',((xl ss).take 5++[y]++(xl ss).drop 6).set 5 y'=((xl ss).take 5++[y']++(xl ss).drop 6):=λy y'=>by rw[da];rfl
  have hcg:∀y,((xl ss).take 5++[y]++(xl ss).drop 6)[5]?=some y:=λy=>by rw[da];rfl
  have hce:(xl ss).take 5++[aN (ss.eraseIdx n)]++(xl ss).drop 6=xl (ss.eraseIdx n):=by rw[da,da];rfl
  (repeat apply eT);refine agZ (id:=H.length) (j:=5) (y:=aN (ss.eraseIdx n)) (by simp only[seval,bi]<;>rfl) (hcg _) (eQ _ _ _) ?_
  simp only[seval,dg,pF,hce];have ep:SD.wrap ((i:Int)-1)=(ns.length:Int)-1-((j+1:Nat):Int):=by rw[bc _ (by omega)];omega
  refine ab ?_;simp only[seval,ep];refine hR _ ⟨dn,trivial,?_⟩;rw[cR];have tW:bJ (H++[.cells (xl (ss.eraseIdx n)) 26,.cells rk 76]):=D8 hH λz hz m=>by
   simp only[SK,SZ,or_false]at hz;rcases hz with rfl|rfl
   ·rw[da];exact EM m {x with aC:=ss.eraseIdx n}
   ·intro a ha;simp only[rk,SK,SZ,or_false]at ha;rcases ha with rfl|rfl|rfl|rfl|rfl|rfl<;>simp[dZ,Og]
  rw[<- hii];exact uq [.tail (ss.eraseIdx n).length 4 48] (lC rfl rfl) (by simp only[seval];simp[bk,Wk.refl]) tW (by simp[dZ]) (by rw[SC];rfl)
 ·have vo:j=ns.length:=by omega
  subst vo;refine bO ?_;have Es:(xl (st ns.length))=(x.wo ns).l:=by rw[da,am7];rfl
  rw[Es];have oc:(x.wo ns).l.length=6:=rfl;have so:Uh 6 (x.wo ns).l=(x.wo ns).l:=rfl;have oZ:rk.length=6:=rfl;have Nz:TR 6 rk=[]:=rfl;refine ab ?_;simp only[seval,bi,dT,cQ,oc,so,oZ,Nz];refine⟨vZ _,?_⟩;refine oD ?_;simp only[seval,cQ];rw[so];exact iH (b:=(x.wo ns).av) hH (Wk.refl _) (by rw[EL];trivial) hk
end
open Go.Conc Go.Proofs Go.Gg.Tk
namespace Tk
def Qp (ns:List Int)(m:Nat):Bool:=(SR ns.length).all λi=>decide (0<=ns.getD i 0/\ns.getD i 0+(ns.length-i:Nat)<=m)
theorem agF{ns:List Int}{m:Nat}(h:Qp ns m=true):uz ns m:=λi n hn=>by
 have hi:=(SL.1 hn).1;have:=Tu.1 h i (TG.2 hi);rw[decide_eq_true_eq,SE,hn]at this;exact this
theorem acb:∀n,n<4->(xu n).length=2^n/\∀l∈xu n,Qp l n=true:=by decide+kernel
theorem aom{n:Nat}(hn:n<4){l:List Int}(hl:l∈xu n):uz l n:=agF ((acb n hn).2 l hl)
theorem Rx{ss:List aB}:∀{ns:List Int}{y:aB},y∈qy ss ns->y∈ss
 |[],y,h=>h
 |n::ns,y,h=>Rx (ns:=ns) (List.mem_of_mem_eraseIdx h)
theorem Rw{ss:List aB}:∀{ns:List Int},(qy ss ns).length<=ss.length
 |[]=>SO _
 |n::ns=>by
  have h1:=Rw (ss:=ss) (ns:=ns);have h2:=List.length_eraseIdx_le (qy ss ns) n.toNat;exact TL h2 h1
theorem ak.Ok.wo{x:ak}(h:x.Ok)(ns:List Int):(x.wo ns).Ok:=⟨h.first,h.hours,h.am,h.xE,h.ee,TL Rw h.db,h.seen,λy hy=>⟨(h.piece y hy).1,(h.piece y hy).2⟩,λy hy=>have k:=h.stub y (Rx hy);⟨k.1,k.2⟩⟩
def Gz (x:ak):Option (List Int):=(xu x.aC.length).find? λl=>wD (x.wo l)
theorem So{α:Type}{p:α->Bool}:∀{l:List α}{i:Nat}{a:α},l[i]?=some a->p a=true->(∀j b,j<i->l[j]?=some b->p b=false)->l.find? p=some a
 |b::l,0,a,h,hp,_=>by cases h;rw[List.find?_cons_of_pos hp]
 |b::l,i+1,a,h,hp,h0=>by
  rw[List.find?_cons_of_neg (by rw[h0 0 b (by omega) rfl];simp)];exact So (i:=i) h hp λj c hj hc=>h0 (j+1) c (by omega) hc
theorem akn{α:Type}{p:α->Bool}{l:List α}(h:∀(j:Nat) b,l[j]?=some b->p b=false):l.find? p=none:=by
 rw[List.find?_eq_none];intro a ha;obtain⟨j,hj⟩:=Va ha;rw[h j a hj];simp
end Tk
section
variable {lv:Bool}{H:List aa}{k kp:AV->List aa->Prop}
theorem ajC{x:ak}(hx:x.Ok)(iK:∀l,Gz x=some l->k (.aQ [aM l,iv 0]) H)(cI:Gz x=none->k (.aQ [aM [],iv 11]) H):ba lv SA 32 H [x.av] k kp:=by
 refine bD (rs:=[.tmp 2,.tmp 3]) (nt:=27) Tryz.f32 λhH hA=> ?_;simp only[bp,SU,ak.av];have aP:=hx.db;have bU:x.l=[iv x.first,iv x.hours,iv x.am,c_ x.seen,aN x.pieces,aN x.aC]:=rfl;have kI:TR 5 x.l=[.sl x.aC.length (x.aC.flatMap aB.l) .shut]:=rfl;have bi:∀(L:List aa),(H++L)[H.length]?=L[0]?:=λL=>aZ H L 0;have da:x.l.length=6:=rfl;have fL:Uh 6 x.l=x.l:=rfl;refine aj ?_;refine ab ?_;simp only[seval,bi,da,fL];refine aK ((KV (x:=x) hx ?_));(try simp only[seval]);refine ab ?_;simp only[seval,show ((0:Int)!=0)=false from rfl];refine aD ?_;refine aF ?_;refine ab ?_;simp only[seval,bi,kI];refine aK ((ajU (n:=x.aC.length) aP ?_));have eY:=(acb x.aC.length (by omega)).1;have eJ:=λl hl=>aom (n:=x.aC.length) (by omega) (l:=l) hl;have wZ:Gz x=(xu x.aC.length).find? λl=>wD (x.wo l):=rfl;generalize xu x.aC.length=ls at eY eJ wZ⊢;have hp8:2^x.aC.length<=2^3:=UT (by omega) aP;(try simp only[seval,kX]);refine bP ?_;refine ek ls.length (λi:Nat=>[(17,iv i)]) (λi=>H++[.cells x.l 26]) (λi=>∀j b,j<i->ls[j]?=some b->wD (x.wo b)=false) (λ_ _=>rfl) (by simp only[seval];simp[bk,Wk.refl]) rfl (λ_ _ _=>by simp) (λj b hj=>by omega) (λbw bG i cw aq R hR=> ?_);clear bw bG;refine aj ?_;refine aD ?_;refine⟨λh=> ?_,λh=> ?_⟩
 ·have br:i<ls.length:=by omega
  obtain⟨l,hl⟩:=bE br;have gK:=eJ l (sx hl);have fV:SD.wrap ((i:Int)+1)=((i+1:Nat):Int):=by rw[bc _ (by omega)];rfl
  refine aF ?_;refine ab ?_;simp only[seval,v7 hl,iR br];refine ab ?_;simp only[seval,bi,da,fL];refine aK ((Se (x:=x) (ns:=l) aP gK ?_));(try simp only[seval]);refine aK ((ajV (x:=x.wo l) (hx.wo l) ?_));(try simp only[seval]);refine aD ?_;refine⟨λhc=> ?_,λhc=> ?_⟩
  ·refine aj ?_;refine aX ?_;exact iH (b:=.aQ [aM l,iv 0]) hH (Jh (Wk.refl _) (Wk.refl _)) (by simp[jM,dZ,zu]) (iK l (by rw[wZ];exact So hl hc aq))
  ·refine aF ?_;refine ab ?_;simp only[seval,fV];refine hR _ ⟨br,λj b hj hb=> ?_,bX⟩;rcases YO j i with h'|h'
   ·exact aq j b h' hb
   ·have:j=i:=(by omega);subst this;rw[hl]at hb;cases hb;simpa using hc
 ·have iw:i=ls.length:=by omega
  subst iw;refine bO ?_;refine aj ?_;refine aX ?_;exact iH (b:=.aQ [aM [],iv 11]) hH (Jh (eQ _ _ _) (Wk.refl _)) (by simp[jM,dZ,zu]) (cI (by rw[wZ];exact akn λj b hb=>aq j b (eW hb) hb))
end
open Go.Conc
def behind (j:Nat)(o:Tx):Tx:={o with after:=o.after.push {on:=j,ground:=.data}}
def oB (ops:Array Tx)(i j:Nat):Array Tx:=ops.modify i (behind j)
theorem af5(ops:Array Tx)(i j:Nat):(oB ops i j).size=ops.size:=by simp[oB]
theorem rG(ops:Array Tx)(i j k:Nat):(oB ops i j)[k]?=if i=k then(ops[k]?).map (behind j)else ops[k]?:=by
 unfold oB;rw[Wn]
theorem ahg(j:Nat)(o:Tx):cS (behind j o)=cS o++[j]:=by
 unfold cS behind;simp only[Array.toList_push,List.filterMap_append];rfl
theorem adw{ops:Array Tx}{i j:Nat}{X l:List Nat}(h:mf ops X l):j∈X->mf (oB ops i j) X l:=by
 induction h with
 |nil X h=>exactλ_=> .nil X λk hk=>h k (by rwa [af5]at hk)
 |cons o ho hn hd lV ih=>
  rename_i X k l;intro hj;by_cases e:i=k
  ·exact .cons (behind j o) (by rw[rG,if_pos e,ho];rfl) hn (λq hq=>by
    rw[ahg]at hq;rcases SV.1 hq with hq|hq
    ·exact hd q hq
    ·rw[S9.1 hq];exact hj) (ih (Td _ hj))
  ·exact .cons o (by rw[rG,if_neg e];exact ho) hn hd (ih (Td _ hj))
theorem arL{ops:Array Tx}{i j:Nat}(kx:i≠j)(hi:i<ops.size){X l:List Nat}(h:mf ops X l):i∉X->j∉X->mf (oB ops i j) X l\/mf (oB ops j i) X l:=by
 induction h with
 |nil X h=>exactλh1 _=>absurd (h i hi) h1
 |cons o ho hn hd lV ih=>
  rename_i X k l;intro h1 h2;by_cases e:k=i
  ·subst e;exact .inr (.cons o (by rw[rG,if_neg (Ne.symm kx)];exact ho) hn hd (adw lV TF))
  ·by_cases e2:k=j
   ·subst e2;exact .inl (.cons o (by rw[rG,if_neg kx];exact ho) hn hd (adw lV TF))
   ·rcases ih (λhm=>(SK.1 hm).elim (λx=>e x.symm) h1) (λhm=>(SK.1 hm).elim (λx=>e2 x.symm) h2)with q|q
    ·exact .inl (.cons o (by rw[rG,if_neg (Ne.symm e)];exact ho) hn hd q)
    ·exact .inr (.cons o (by rw[rG,if_neg (Ne.symm e2)];exact ho) hn hd q)
section
variable {lv:Bool}{P:SI}{r:Option Nat}{ops:Array Tx}{nt:Nat}
theorem af6(i j:Nat)(tmps:Array SP):yielded (oB ops i j) tmps=yielded ops tmps:=by
 funext k;unfold yielded;rw[rG];by_cases e:i=k
 ·rw[if_pos e];cases ops[k]?<;>rfl
 ·rw[if_neg e]
theorem Qg(i j:Nat)(Q:Ex->Act->View->Prop):∀l:List Nat,dq lv P r (oB ops i j) Q l=dq lv P r ops Q l
 |[]=>rfl
 |k::l=>by
  funext a V;have ih:=Qg i j Q l;simp only[dq];rw[rG,af6,ih];by_cases e:i=k
  ·rw[if_pos e];cases ho:ops[k]?with
   |none=>rfl
   |some o=>rfl
  ·rw[if_neg e]
theorem JN(i j:Nat)(Hf:List Nat->List aa)(K:AS->Prop)(t:Cs K):∀(pl:List rB)(s:AS),gf lv P Hf (oB ops i j) pl s K t=gf lv P Hf ops pl s K t
 |[],_=>rfl
 |⟨k,false,_,l⟩::rest,s=>by
  have ih:=JN i j Hf K t rest;simp only[gf,rG];have e:∀o,ao (some o) (λo=>AQ lv P s o λav=>BQ lv P Hf s.T o av l/\gf lv P Hf (oB ops i j) rest (s.put o.dst av) K t)=ao (some o) (λo=>AQ lv P s o λav=>BQ lv P Hf s.T o av l/\gf lv P Hf ops rest (s.put o.dst av) K t):=λo=>by
   simp only[ao,ih]
  have bq:∀(o:Tx) av,BQ lv P Hf s.T (behind j o) av l=BQ lv P Hf s.T o av l:=λo av=>by
   induction l with
   |nil=>rfl
   |cons p l lB=>exact congrArg (λx=>_/\x) (lB λo=>by simp only[ao,ih])
  split
  ·cases ops[k]?with
   |none=>rfl
   |some o=>
    simp only[UW,ao,ih,bq];rfl
  ·cases ops[k]?with
   |none=>rfl
   |some o=>exact e o
 |⟨k,true,D,l⟩::rest,s=>by
  have ih:=JN i j Hf K t rest;simp only[gf,rG];have be:∀(o:Tx) av,BE lv P Hf s.T (behind j o) av l=BE lv P Hf s.T o av l:=λo av=>by
   induction l with
   |nil=>rfl
   |cons p l lB=>exact congrArg (λx=>_/\x) lB
  split
  ·cases ops[k]?with
   |none=>rfl
   |some o=>
    simp only[UW,ao,ih,be];rfl
  ·cases ops[k]?with
   |none=>rfl
   |some o=>simp only[ao,ih]
theorem ain{es ord:List Nat}(aq:rM nt ops es ord=true)(t:Nat):mf ops [] (UM .any ops ops.size t (TS ops.size false) []):=by
 have aq:=rM.out aq;obtain⟨xa,_,hlt⟩:=Fu aq.top;have ready:∀(ord X:List Nat),kA ops X ord=true->∀A i B,ord=A++i::B->∃o,ops[i]?=some o/\∀j∈cS o,j∈A\/j∈X:=by
  intro ord;induction ord with
  |nil=>intro X _ A i B e;cases A<;>cases e
  |cons x l ih=>
   intro X kM A i B e;simp only[kA,Te,TZ,Ut,decide_eq_false_iff_not]at kM;obtain⟨⟨h1,h2⟩,h3⟩:=kM;cases A with
   |nil=>
    have e1:x=i:=(by have:=congrArg List.head? e;simpa using this);rw[e1]at h2;cases ho:ops[i]?with
    |none=>rw[ho]at h2;cases h2
    |some o=>
     rw[ho]at h2;exact⟨o,rfl,λj hj=> .inr (by have:=Tu.1 h2 j hj;simpa using this)⟩
   |cons y A=>
    cases e;obtain⟨o,ho,hb⟩:=ih (x::X) h3 A i B rfl;refine⟨o,ho,λj hj=> ?_⟩;rcases hb j hj with h|h
    ·exact .inl (Td _ h)
    ·rcases SK.1 h with rfl|h
     ·exact .inl (TF ..)
     ·exact .inr h
 exact N9 (ops:=ops) (λi o ho j hj=>by
   obtain⟨A,B,e⟩:=List.append_of_mem (aq.full i (SS.1 ho).1);obtain⟨o',bm,hb⟩:=ready ord [] aq.top A i B e;rw[ho]at bm;cases bm;rcases hb j hj with h|h
   ·exact hlt j (by rw[e];exact Ti _ h)
   ·cases h)
  (λX ⟨i,hi,hn⟩=>by
   obtain⟨A,i',B,e,h1,h2⟩:=K7 (X:=X) ⟨i,aq.full i hi,hn⟩;obtain⟨o',bm,hb⟩:=ready ord [] aq.top A i' B e;refine⟨i',o',bm,h1,λj hj=> ?_⟩;rcases hb j hj with h|h
   ·exact h2 j h
   ·cases h)
  ops.size t (TS ops.size false) [] ⟨by simp,λi hi=>by simp[hi]⟩ (TL Zb (by simp))
end
inductive rl (ops:Array Tx):Array Tx->Prop
 |base:rl ops ops
 |add {o:Array Tx} (h:rl ops o) (i j:Nat):rl ops (oB o i j)
section
variable {lv:Bool}{P:SI}{r:Option Nat}{ops o:Array Tx}{nt:Nat}{s:AS}{Φ:an->AS->Prop}
theorem rl.wp(h:rl ops o)(Q:Ex->Act->View->Prop)(l:List Nat):dq lv P r o Q l=dq lv P r ops Q l:=by
 induction h with
 |base=>rfl
 |add _ i j ih=>rw[Qg,ih]
theorem rl.QS(h:rl ops o)(Hf:List Nat->List aa)(K:AS->Prop)(t:Cs K)(pl:List rB)(s:AS):gf lv P Hf o pl s K t=gf lv P Hf ops pl s K t:=by
 induction h with
 |base=>rfl
 |add _ i j ih=>rw[JN,ih]
def DG (lv:Bool)(P:SI)(r:Option Nat)(nt:Nat)(ops o:Array Tx)(s:AS)(Φ:an->AS->Prop):Prop:=
 ∀l E V a Q,mf o [] l->At E V s a nt->(∀ae e E' V' a' s',Kept E E' V V' a a'->At E' V' s' a' nt->qh E' ae e->Φ ae s'->Q e a' V')->dq lv P r ops Q l a V
theorem rL(i j:Nat)(kx:(i !=j&&decide (i<o.size))=true)(h1:DG lv P r nt ops (oB o i j) s Φ)(h2:DG lv P r nt ops (oB o j i) s Φ):DG lv P r nt ops o s Φ:=λl E V a Q hs ai hQ=>by
 rw[Te,bne_iff_ne,decide_eq_true_eq]at kx;rcases arL kx.1 kx.2 hs (by simp) (by simp)with hs|hs
 ·exact h1 l E V a Q hs ai hQ
 ·exact h2 l E V a Q hs ai hQ
theorem agO{id:Nat}(es ord:List Nat)(hm:P.follows .mixedOrders=true)(aq:rM nt ops es ord=true)(h:DG lv P r nt ops ops s Φ):aR lv P r nt (.region id ops true) s Φ:=by
 intro E V a Q ai hQ;refine PO λt=> ?_;rw[show VR (P.follows .mixedOrders) ops t=UM .any ops ops.size t (TS ops.size false) [] by unfold VR;rw[hm];simp[Zl]];exact h _ E V a Q (ain aq t) ai hQ
end
def Io (lv:Bool)(P:SI)(o:Tx)(s:AS)(next:AS->Prop):Prop:=match o.op with
 |.call c=>match c.callee with
  |.value x=>ao (s.ev x) λtg=>ao (fq s c.args.toList) λaG=>Ck lv P tg s.H aG (λb H'=>next ((⟨s.T,H'⟩:AS).put o.dst b)) (λ_ _=>False) ⟨0⟩
  |_=>False
 |_=>False
def acp (ops:Array Tx)(A B:List Nat)(m:Nat):Bool:=
 let cl:=gH ops (A++m::B) []
 A.all (λi=>(nL cl m).contains i)&&B.all λi=>(nL cl i).contains m
theorem rl.get{ops o:Array Tx}(h:rl ops o){m:Nat}{om:Tx}(hm:ops[m]?=some om):∃qa,o[m]?=some qa/\qa.op=om.op/\qa.dst=om.dst:=by
 induction h with
 |base=>exact⟨om,hm,rfl,rfl⟩
 |add _ i j ih=>
  obtain⟨q,h1,h2,h3⟩:=ih;rw[rG];split
  ·exact⟨behind j q,by rw[h1];rfl,h2,h3⟩
  ·exact⟨q,h1,h2,h3⟩
section
variable {lv:Bool}{P:SI}{r:Option Nat}{ops o:Array Tx}{Hf:List Nat->List aa}{T0:List (Nat×AV)}{es ord:List Nat}{nt:Nat}{s:AS}{Φ:an->AS->Prop}
theorem Rv{f:Nat->AV}(aq:Ac nt ops ord)(G:List Nat)(ay:∀i∈G,∀o,ops[i]?=some o->∀X',kU ops X'->i∉X'->(∀j∈cS o,j∈X')->OB lv P r ops Hf T0 es f i o X'){X l:List Nat}(hs:mf ops X l):
  (∀i∈X,i<ops.size)->kU ops X->∀(E:Env)(V:View)(a:Act)(Q:Ex->Act->View->Prop),At E V ⟨TX ops T0 f X,Hf (done es X)⟩ a nt->
   (∀E' V' a' X' l',Kept E E' V V' a a'->At E' V' ⟨TX ops T0 f X',Hf (done es X')⟩ a' nt->(∀i∈X',i<ops.size)->kU ops X'->(∀i∈X',i∈X\/i∈G)->(∀i∈X,i∈X')->mf ops X' l'->(∀i zq,l'=i::zq->i∉G)->dq lv P r ops Q l' a' V')->dq lv P r ops Q l a V:=by
 induction hs with
 |nil X h=>
  intro hX hc E V a Q ai hQ;exact hQ E V a X [] (Kept.refl E V a) ai hX hc (λi hi=> .inl hi) (λi hi=>hi) (.nil X h) (λi zq e=>by cases e)
 |cons o ho hn hd lV ih=>
  rename_i X i l;intro hX hc E V a Q ai hQ;by_cases hG:i∈G
  ·have hi:i<ops.size:=(SS.1 ho).1;simp only[dq,ho];have oN:∀k∈i::X,k<ops.size:=λk hk=>(SK.1 hk).elim (λe=>by rw[e];exact hi) (hX k);have bu:=hc.cons ho hd;have hw:Tj o (yielded ops a.tmps)=true:=(by unfold Tj;rw[aq.Dj i o ho]);rw[if_pos hw];refine .inl ?_;have du:∀d,o.dst=some d->d<a.tmps.size:=λd e=>(by rw[ai.size];exact aq.dst i o d ho e);have lU:=ay i hG o ho X hc hn hd;have lY:∀{mQ:List Nat},(∀j∈mQ,j∈i::X\/j∈G)->∀j∈mQ,j∈X\/j∈G:=λh j hj=>by
    rcases h j hj with h|h
    ·rcases SK.1 h with rfl|h
     ·exact .inr hG
     ·exact .inl h
    ·exact .inr h
   unfold OB at lU;by_cases dB:i∈es
   ·rw[if_pos dB]at lU;have aP:=lU.step (r:=r) (bad:=λ_ _=>False);refine aP E V a _ Q ai.bz ai.tok du (.inr (aq.wE i o ho)) (λE' V' a' s' hk b_ ht e=> ?_) λ_ _ _ _ _ _ _ _ _ h=>h.elim;subst e;rw[x6 ho rfl]at ht b_;exact ih oN bu E' V' a' Q ⟨b_,ht,hk.size.trans ai.size⟩ λbY aU cu mQ zq aJ dj w1 w2 w3 w4=>hQ bY aU cu mQ zq (hk.trans aJ) dj w1 w2 (lY w3) (λj hj=>w4 j (Td _ hj))
   ·rw[if_neg dB]at lU;obtain⟨T,hT,hq⟩:=lU;refine hq E V a _ Q ai.bz (λt av e=>ai.tok t av (hT t av e)) (.inr (aq.wE i o ho)) λE' V' v hle cq fg b_ hv=> ?_;have ht:cr E' ((⟨TX ops T0 f X,Hf (done es X)⟩:AS).put o.dst (f i)).T (a.put o.dst v).tmps:=cr.ie (s:=⟨TX ops T0 f X,Hf (done es X)⟩) (ai.tok.mono hle) du hv;rw[x6 ho rfl]at ht;refine ih oN bu E' V' (a.put o.dst v) Q ⟨by rw[Kx dB];exact b_,ht,(eg _ _ _).trans ai.size⟩ λbY aU cu mQ zq hk dj w1 w2 w3 w4=>
     hQ bY aU cu mQ zq ⟨hle.trans hk.le,hk.size.trans (eg _ _ _),hk.defers.trans (put_defers _ _ _),hk.role.trans cq,hk.deaf.trans fg⟩ dj w1 w2 (lY w3) (λj hj=>w4 j (Td _ hj))
  ·exact hQ E V a X (i::l) (Kept.refl E V a) ai hX hc (λi hi=> .inl hi) (λi hi=>hi) (.cons o ho hn hd lV) (λj zq e=>by cases e;exact hG)
theorem aeB{ops:Array Tx}:∀{A L X:List Nat},kA ops X (A++L)=true->kA ops X A=true/\kA ops (A.reverse++X) L=true
 |[],L,X,h=>⟨rfl,h⟩
 |i::A,L,X,h=>by
  rw[Vs,kA,Te]at h;obtain⟨h1,h2⟩:=aeB h.2;refine⟨by rw[kA,Te];exact⟨h.1,h1⟩,?_⟩;rw[Zu,SC];exact h2
theorem aeC{ops:Array Tx}:∀{A X:List Nat},kA ops X A=true->kU ops X->kU ops (A.reverse++X)
 |[],X,h,hX=>hX
 |i::A,X,h,hX=>by
  have kM:=h;simp only[kA,Te,TZ,Ut,decide_eq_false_iff_not]at kM;obtain⟨⟨hi,h2⟩,h3⟩:=kM;cases ho:ops[i]?with
  |none=>rw[ho]at h2;cases h2
  |some o=>
   rw[ho]at h2;have hd:∀j∈cS o,j∈X:=λj hj=>(by have:=Tu.1 h2 j hj;simpa using this);have:=aeC h3 (hX.cons ho hd);rw[Zu,SC];exact this
def Cw (lv:Bool)(P:SI)(ops:Array Tx)(m:Nat)(IN:List rB)(Φ:an->AS->Prop)(s1:AS):Prop:=ao (ops[m]?) λom=>Io lv P om s1 λs2=>∃ow:List Nat->List aa,s2.H=ow []/\gf lv P ow ops IN s2 (Φ .normal) ⟨0⟩
theorem qx(m:Nat)(A B pB nJ:List Nat){pl1 IN:List rB}(po:List Nat->List aa)(h:gf lv P po ops pl1 s (Cw lv P ops m IN Φ) ⟨0⟩)(ha:rl ops o:=by repeat first|exact .base|apply rl.add)(aq:rM nt o [] (A++m::B)=true:=by kernel_rfl)(G4:acp o A B m=true:=by kernel_rfl)(amz:rc (gH o (A++m::B) []) pB [] A=pl1:=by conv=>lhs;cbv)(amA:rc (gH o (A++m::B) []) nJ (m::A.reverse) B=IN:=by conv=>lhs;cbv)(alT:nJ.all B.contains=true:=by kernel_rfl)(h0:s.H=po []:=by rfl):DG lv P r nt ops o s Φ:=λl E V a Q hs ai hQ=>by
 subst amz amA;rw[<- ha.wp];rw[<- ha.QS]at h;have aq:=rM.out aq;obtain⟨xa,_,hlt⟩:=Fu aq.top;obtain⟨tA,tB⟩:=aeB aq.top;rw[SN]at tB;have tB':kA o (m::A.reverse) B=true:=by
  rw[kA,Te]at tB;exact tB.2
 unfold acp at G4;dsimp only at G4;rw[Te,Tu,Tu]at G4;obtain⟨cA,cB⟩:=G4;have hmA:m∉A:=λhm=>(Vh.1 xa).2.2 m hm m (by simp) rfl;have Hl:m∉B:=(VX.1 (Vh.1 xa).2.1).1;have hAB:∀i∈B,i∉A:=λi hi hA=>(Vh.1 xa).2.2 i hA i (by simp[hi]) rfl;have dg:s=⟨TX o s.T (λ_=> .val undef) [],po (done pB [])⟩:=by
  have:done pB []=[]:=by simp[done]
  rw[this,<- h0];rfl
 have h':gf lv P po o (rc (gH o (A++m::B) []) pB [] A) ⟨TX o s.T (λ_=> .val undef) [],po (done pB [])⟩ (Cw lv P ops m (rc (gH o (A++m::B) []) nJ (m::A.reverse) B) Φ) ⟨0⟩:=by rw[<- dg];exact h
 obtain⟨f,_,q2,q3⟩:=CZ (r:=r) aq A [] _ tA (λi hi=>by cases hi) h';have tL:At E V ⟨TX o s.T f [],po (done pB [])⟩ a nt:=by
  have e:(⟨TX o s.T f [],po (done pB [])⟩:AS)=s:=dg.symm;rw[e];exact ai
 refine Rv (Hf:=po) (es:=pB) aq A q2 hs (by simp) (λi hi=>by cases hi) E V a Q tL λE1 V1 a1 X1 l1 iK wO hX1 dt Nb _ dT HG=> ?_;have hmX:m∉X1:=λhm=>by
  rcases Nb m hm with h|h
  ·cases h
  ·exact hmA h
 cases dT with
 |nil _ eN=>exact absurd (eN m (hlt m (by simp))) hmX
 |@cons _ i l2 qa ho hn hd lV=>
  have hi:i<o.size:=(SS.1 ho).1;have hiA:i∉A:=HG i l2 rfl;have kK:i=m:=by
   rcases SV.1 (aq.full i hi)with h|h
   ·exact absurd h hiA
   ·rcases SK.1 h with h|h
    ·exact h
    ·have:=cB i h;have hr:m∈nL (gH o (A++m::B) []) i:=(by simpa using this);exact absurd (BT dt (Av hr) λo' bm k hk=>by rw[ho]at bm;cases bm;exact hd k hk) hmX
  subst kK;have hAX:∀j∈A,j∈X1:=λj hj=>by
   have:=cA j hj;have hr:j∈nL (gH o (A++i::B) []) i:=(by simpa using this);exact BT dt (Av hr) λo' bm k hk=>by rw[ho]at bm;cases bm;exact hd k hk
  have MF:∀j,j∈X1<->j∈A.reverse++[]:=λj=>by
   rw[SN,XT];exact⟨λh=>(Nb j h).elim (λh=>by cases h) id,hAX j⟩
  have LS:At E1 V1 ⟨TX o s.T f (A.reverse++[]),po (done pB (A.reverse++[]))⟩ a1 nt:=by
   refine⟨?_,λt x e=> ?_,wO.size⟩
   ·rw[<- Gp MF];exact wO.bz
   ·rw[<- FY aq MF]at e;exact wO.tok t x e
  simp only[dq,ho];have hw:Tj qa (yielded o a1.tmps)=true:=by unfold Tj;rw[aq.Dj i qa ho]
  rw[if_pos hw];refine .inl ?_;have du:∀d,qa.dst=some d->d<a1.tmps.size:=λd e=>by rw[wO.size];exact aq.dst i qa d ho e
  unfold Cw at q3;obtain⟨om,hom,q3⟩:=q3.out;obtain⟨om2,g1,g2,g3⟩:=ha.get hom;rw[ho]at g1;cases g1;unfold Io at q3;obtain⟨c,x,alA,alp,q4⟩:∃c x,om.op=.call c/\c.callee=.value x/\ao ((⟨TX o s.T f (A.reverse++[]),po (done pB (A.reverse++[]))⟩:AS).ev x) λtg=>ao (fq ⟨TX o s.T f (A.reverse++[]),po (done pB (A.reverse++[]))⟩ c.args.toList) λaG=>Ck lv P tg (po (done pB (A.reverse++[]))) aG (λb H'=>∃ow:List Nat->List aa,((⟨TX o s.T f (A.reverse++[]),H'⟩:AS).put om.dst b).H=ow []/\gf lv P ow ops (rc (gH o (A++i::B) []) nJ (i::A.reverse) B) ((⟨TX o s.T f (A.reverse++[]),H'⟩:AS).put om.dst b) (Φ .normal) ⟨0⟩) (λ_ _=>False) ⟨0⟩:=by
   split at q3
   ·rename_i c hc;split at q3
    ·rename_i x hx;exact⟨c,x,hc,hx,q3⟩
    ·exact q3.elim
   ·exact q3.elim
  obtain⟨tg,e1,q5⟩:=q4.out;obtain⟨aG,e2,q6⟩:=q5.out;have lz:=Ps (lv:=lv) (P:=P) (r:=r) (o:=qa) (s:=⟨TX o s.T f (A.reverse++[]),po (done pB (A.reverse++[]))⟩) (next:=λs2=>∃av H' ow,s2=(⟨TX o s.T f (A.reverse++[]),H'⟩:AS).put qa.dst av/\H'=ow []/\gf lv P ow ops (rc (gH o (A++i::B) []) nJ (i::A.reverse) B) s2 (Φ .normal) ⟨0⟩) (bad:=λ_ _=>False) (g2.trans alA) alp e1 e2 (je.mono q6 (λav H'=>by
    rintro⟨ow,w1,w2⟩
    rw[<- g3]at w1 w2;refine⟨av,H',ow,rfl,?_,w2⟩;rw[<- w1];cases qa.dst<;>rfl) (λ_ _ h=>h))
  refine lz E1 V1 a1 _ Q LS.bz LS.tok du (.inr (aq.wE i qa ho)) (λE2 V2 a2 s2 cI b_ ze e=> ?_) λ_ _ _ _ _ _ _ _ _ h=>h.elim;obtain⟨av,H',ow,rfl,hH',hb⟩:=e;obtain⟨f',hf'⟩:∃f':Nat->AV,f'=λj=>if j=i then av else f j:=⟨_,rfl⟩;have hff:∀j∈A.reverse++[],f j=f' j:=λj hj=>by
   have:j≠i:=λe=>hmA (by subst e;simpa using hj);rw[hf'];simp[this]
  have hp:(⟨TX o s.T f (A.reverse++[]),H'⟩:AS).put qa.dst av=⟨TX o s.T f' (i::A.reverse),ow (done nJ (i::A.reverse))⟩:=by
   have pH:done nJ (i::A.reverse)=[]:=by
    unfold done;rw[Xb];intro j hj;have:=Tu.1 alT j hj;have Hi:j∈B:=(by simpa using this);have h1:j≠i:=λe=>Hl (e▸Hi);have h2:=hAB j Hi;simp[h1,h2]
   rw[CC hff,x6 ho (by rw[hf'];simp),pH,hH',SN]
  rw[hp]at hb b_ ze;rw[<- ha.QS]at hb;have alv:kU o (i::A.reverse):=by
   have h1:=aeC tA (X:=[]) (λi hi=>by cases hi);rw[SN]at h1;exact h1.cons ho λj hj=>by
    have:=Nb j (hd j hj);simpa using this
  obtain⟨f2,p1,p2,p3⟩:=CZ (r:=r) aq B (i::A.reverse) f' tB' alv hb;have aa6:∀j,j∈i::X1<->j∈i::A.reverse:=λj=>by
   have:=MF j;rw[SN]at this;rw[SK,SK,this]
  have u_:At E2 V2 ⟨TX o s.T f2 (i::X1),ow (done nJ (i::X1))⟩ a2 nt:=by
   refine⟨?_,λt x e=> ?_,cI.size.trans LS.size⟩
   ·rw[Gp aa6];exact b_
   ·rw[FY aq aa6,CC p1]at e;exact ze t x e
  refine Rv (Hf:=ow) (es:=nJ) aq B p2 lV (λk hk=>(SK.1 hk).elim (λe=>by rw[e];exact hi) (hX1 k)) (dt.cons ho hd) E2 V2 a2 Q u_ λE3 V3 a3 X3 l3 w9 qE hX3 de avv abb pQ am6=> ?_;cases pQ with
  |cons o3 MQ MI rW avu=>
   rename_i j l4;exfalso;have hj:j<o.size:=(SS.1 MQ).1;have Hi:=am6 j l4 rfl;rcases SV.1 (aq.full j hj)with h|h
   ·exact MI (abb j (Td _ (hAX j h)))
   ·rcases SK.1 h with rfl|h
    ·exact MI (abb j (TF ..))
    ·exact Hi h
  |nil _ eN=>
   have aa7:∀j,j∈X3<->j∈B.reverse++i::A.reverse:=λj=>by
    rw[SV,SK,XT,XT];constructor
    ·intro h;have:=SV.1 (aq.full j (hX3 j h));rw[SK]at this;rcases this with h|h|h
     ·exact .inr (.inr h)
     ·exact .inr (.inl h)
     ·exact .inl h
    ·intro h;refine eN j (hlt j ?_);rw[SV,SK];rcases h with h|h|h
     ·exact .inr (.inr h)
     ·exact .inr (.inl h)
     ·exact .inl h
   refine hQ .normal .normal E3 V3 a3 _ ((iK.trans cI).trans w9) ⟨?_,λt x e=> ?_,qE.size⟩ trivial p3
   ·rw[<- Gp aa7];exact qE.bz
   ·rw[<- FY aq aa7]at e;exact qE.tok t x e
end
theorem aoU:type_of% @Io.eq_1:=by intros;rw[Io.eq_1]
theorem aoV:type_of% @Cw.eq_1:=by intros;rw[Cw.eq_1]
attribute [seval] aoU aoV
open Go.Proofs Go.Gg.Tk
theorem ac7{x:ak}{q:Nat}(hq:q<x.pieces.length):zH x [(q:Int)]=true:=by
 unfold zH;simp;omega
theorem aid{lv:Bool}{P:SI}{r:Option Nat}{nt:Nat}{ops:Array Tx}{s:AS}{Φ:an->AS->Prop}{α:Type}{ok:α->Prop}(st:α->AS)(rest:∀x,ok x->Φ .normal (st x))(h:(∀x,ok x->Φ .normal (st x))->DG lv P r nt ops ops s Φ):DG lv P r nt ops ops s Φ:=h rest
theorem asZ{T V:List (Nat×AV)}{H H':List aa}(hH:H=H')(hv:∀p∈V,∃b,look T p.1=some b/\Wk b p.2):(⟨T,H⟩:AS).Sub ⟨V,H'⟩:=
 ⟨λt a e=>hv (t,a) (o5 e),hH⟩
def opsOf:Uc->Array Tx
 |.region _ o _=>o
 |.seq a _=>opsOf a
 |_=>#[]
structure Bk (H:List aa)(M:List AV->List AV->List aa)(L:List aa)(B:List AV->List AV->List aa)(N:Nat):Prop where
 f:∀u v,B u v=H++(M u v++L)
 l:∀u v,(B u v).length=N
section
variable {H L:List aa}{M B:List AV->List AV->List aa}{N:Nat}
theorem Bk.n(h:Bk H M L B N)(u v:List AV)(L':List aa)(j:Nat):(B u v++L')[N+j]?=L'[j]?:=by rw[<- h.l u v,aZ]
theorem Bk.s(h:Bk H M L B N)(u v:List AV)(L':List aa)(j:Nat)(y:aa):(B u v++L').set (N+j) y=B u v++L'.set j y:=by rw[<- h.l u v,dH]
theorem Bk.n0(h:Bk H M L B N)(u v:List AV)(L':List aa):(B u v++L')[N]?=L'[0]?:=h.n u v L' 0
theorem Bk.s0(h:Bk H M L B N)(u v:List AV)(L':List aa)(y:aa):(B u v++L').set N y=B u v++L'.set 0 y:=h.s u v L' 0 y
theorem Bk.n1(h:Bk H M L B N)(u v:List AV)(L':List aa):(B u v++L')[N+1]?=L'[1]?:=h.n u v L' 1
theorem Bk.s1(h:Bk H M L B N)(u v:List AV)(L':List aa)(y:aa):(B u v++L').set (N+1) y=B u v++L'.set 1 y:=h.s u v L' 1 y
theorem Bk.g(h:Bk H M L B N){j:Nat}{u v:List AV}(hl:j<(M u v).length){a y:aa}{u' v':List AV}(ha:(M u v)[j]?=some a)(hy:(M u v).set j y=M u' v')(L':List aa):(B u v++L')[H.length+j]?=some a/\(B u v++L').set (H.length+j) y=B u' v'++L':=by
 rw[h.f,h.f,SC,SC,SC,SC,aZ,dH,S0 hl,U1 _ _ hl,hy];exact⟨ha,rfl⟩
theorem Bk.gu(h:Bk H M L B N)(j:Nat)(hl:∀u v,j<(M u v).length)(ha:∀u v,(M u v)[j]?=some (.cells u 76))(hy:∀u v w,(M u v).set j (.cells w 76)=M w v):(∀u v L',(B u v++L')[H.length+j]?=some (.cells u 76))/\(∀u v w L',(B u v++L').set (H.length+j) (.cells w 76)=B w v++L')/\(∀u v,(B u v)[H.length+j]?=some (.cells u 76))/\∀u v w,(B u v).set (H.length+j) (.cells w 76)=B w v:=by
 have k1:=λu v w L'=>h.g (hl u v) (ha u v) (hy u v w) L';have k2:=λu v w=>k1 u v w [];simp only[SN]at k2;exact⟨λu v L'=>(k1 u v u L').1,λu v w L'=>(k1 u v w L').2,λu v=>(k2 u v u).1,λu v w=>(k2 u v w).2⟩
theorem Bk.gv(h:Bk H M L B N)(j:Nat)(hl:∀u v,j<(M u v).length)(ha:∀u v,(M u v)[j]?=some (.cells v 88))(hy:∀u v w,(M u v).set j (.cells w 88)=M u w):(∀u v L',(B u v++L')[H.length+j]?=some (.cells v 88))/\(∀u v w L',(B u v++L').set (H.length+j) (.cells w 88)=B u w++L')/\(∀u v,(B u v)[H.length+j]?=some (.cells v 88))/\∀u v w,(B u v).set (H.length+j) (.cells w 88)=B u w:=by
 have k1:=λu v w L'=>h.g (hl u v) (ha u v) (hy u v w) L';have k2:=λu v w=>k1 u v w [];simp only[SN]at k2;exact⟨λu v L'=>(k1 u v v L').1,λu v w L'=>(k1 u v w L').2,λu v=>(k2 u v v).1,λu v w=>(k2 u v w).2⟩
theorem ajK{x:ak}{p q:Nat}{G:List aa}{k kp:AV->List aa->Prop}(i j:Nat)(M:List AV->List AV->List aa)(u0 v0:List AV)(hG:G=H++M u0 v0)(hx:x.Ok)(iA:x.am=p)(nZ:zH x [(q:Int)]=true)(hm:H[0]?=some .main)(h1:(M u0 v0)[i]?=some (.cells [.sl 1 [iv q] .exact] 22))(h2:(M u0 v0)[j]?=some (.cells x.l 26))(hn:∀u v,(M u v).length=(M u0 v0).length)(hk:∀D L mp N B,fQ x 1 D->bR D->(D.l mp).length=28->(∀a∈D.l mp,a.leaf=true)->Bk H M L B N->k (.aQ [x.av,.agg (D.l mp),iv (fl D)]) (B u0 v0)):ba true SA 51 G [x.av,iv 1,.fn (.func 80) [] [.op (H.length+i) 0,.op (H.length+j) 0]] k kp:=by
 subst hG;refine AH (x:=x) (b:=zH x [(q:Int)]) hx iA (fU hm) (λL k kp hk=>dc (KY (x:=x) (ns:=[(q:Int)]) (e:=.exact) (il:=H.length+i) (ir:=H.length+j) hx (by simp) ?_ ?_ hk)) (λh=>by rw[nZ]at h;cases h) λ_ js D L mp iJ jH eo tU hg=> ?_
 ·rw[SC,aZ];exact fU h1
 ·rw[SC,aZ];exact fU h2
 ·have:=hk D L mp (H.length+(M u0 v0).length+L.length) (λu v=>H++(M u v++L)) ⟨p,js,iA,iJ,jH,eo⟩ eo (Kn.len eo mp) (vN D mp) ⟨λ_ _=>rfl,λu v=>by rw[SQ,SQ,hn];omega⟩;rw[SC];exact this
end
def zB (x:ak)(q:Nat)(u v:List AV):Nat->List aa
 |10=>[.cells u 76]
 |11=>[.cells v 88]
 |4=>[.cells x.l 26,.cells [.sl 1 [iv q] .exact] 22]
 |_=>[]
def zA (f:Nat->List aa)(D:List Nat):List Nat->List aa
 |[]=>[]
 |i::l=>(bif isDone i D then f i else[])++zA f D l
def o6 (H:List aa)(x:ak)(q:Nat)(u v:List AV)(l:List Nat)(D:List Nat):List aa:=H++(.cells x.l 26::zA (zB x q u v) D l)
def Oq (x:ak)(q:Nat)(Bf:List AV->List AV->List aa)(u0 v0 u v:List AV)(t D:List Nat):List aa:=Bf (bif t.contains 10 then u0 else bif isDone 12 D then u else u0) (bif t.contains 11 then v0 else bif isDone 13 D then v else v0)++zA (zB x q (bif isDone 12 D then u else u0) (bif isDone 13 D then v else v0)) D t
theorem lf{P:Prop}{α:Type}(t:List Nat)(M:α)(ix:Nat->Nat)(h:∀t' M' ix',t=t'->M=M'->ix=ix'->P):P:=h t M ix rfl rfl rfl
def qY (x:ak)(q:Nat)(l:List Nat)(u v:List AV):List aa:=.cells x.l 26::l.flatMap (zB x q u v)
theorem apc{H:List aa}{x:ak}{q nt:Nat}{ops:Array Tx}{c:Uc}{Ψ:an->AS->Prop}(ho:nt=27/\ops=opsOf (cs (as_.body.getD .skip))\/nt=29/\ops=opsOf (cs (ZW.body.getD .skip)))(hx:x.Ok)(hq:q<x.pieces.length)(hm:H[0]?=some .main)(rest:∀y:Nat×Nat×Kn×List aa,fQ x 1 y.2.2.1/\bR y.2.2.1/\(∃L,y.2.2.2=H++L)/\y.2.2.2[H.length]?=some (.cells x.l 26)/\y.2.2.2[y.1]?=some (.cells (y.2.2.1.l y.2.1) 88)->an.then (λs'=>aR true SA none nt c s' Ψ) Ψ .normal ⟨[(7,.op y.1 0),(8,iv (fl y.2.2.1)),(1,iv q),(2,.op H.length 0)],y.2.2.2⟩):DG true SA none nt ops ops ⟨[(5,iv 0),(4,.sl 0 [] .exact),(2,.op H.length 0),(0,.agg x.l),(1,iv q)],H++[.cells x.l 26]⟩ (an.then (λs'=>aR true SA none nt c s' Ψ) Ψ):=by
 rcases ho with⟨rfl,rfl⟩|⟨rfl,rfl⟩
 all_goals
  dsimp only[ZW,as_,S8,cs,opsOf];have hp:=hx.am;have nY:=hx.ee;have nZ:=ac7 hq;obtain⟨p,iA⟩:∃p:Nat,x.am=p:=⟨x.am.toNat,by omega⟩;have bU:x.l=[iv x.first,iv x.hours,iv x.am,c_ x.seen,aN x.pieces,aN x.aC]:=rfl;have fJ:∀(L:List aa)(j:Nat),(H++L)[H.length+j]?=L[j]?:=λL j=>aZ H L j;have vC:∀(L:List aa)(j:Nat)(y:aa),(H++L).set (H.length+j) y=H++L.set j y:=λL j y=>dH H L j y;have bi:∀(L:List aa),(H++L)[H.length]?=L[0]?:=λL=>aZ H L 0;have da:x.l.length=6:=rfl;have GH:(1<=2^24)=True:=eq_true (by decide);have fL:Uh 6 x.l=x.l:=rfl;obtain⟨u0,hu⟩:∃u0:List AV,u0=[.val (.int .i64 0),.val (.int .i64 0),.val (.int .i64 0),.sl 0 [] .exact,.sl 0 [] .exact,.sl 0 [] .exact]:=⟨_,rfl⟩;obtain⟨v0,hv⟩:∃v0:List AV,v0=[.val (.bool false),.val (.map none),.val (.int .u16 0),.val (.int .u16 0),.val (.int .u16 0),.val (.int .u16 0),.val (.int .u16 0),.val (.int .u16 0),.val (.int .u16 0),.val (.int .u16 0),.val (.int .u16 0),.val (.int .u16 0),.val (.int .u16 0),.val (.int .u16 0),.val (.int .u16 0),.val (.int .u16 0),.val (.int .u16 0),.val (.int .i64 0),.val (.int .i64 0),.val (.int .i64 0),.val (.int .i64 0),.val (.int .i64 0),.val (.int .i64 0),.val (.int .i64 0),.val (.int .i64 0),.val (.int .i64 0),.val (.int .i64 0),.val (.int .i64 0)]:=⟨_,rfl⟩;have HN:=hu.symm;have si:=hv.symm;have Ev:u0.length=6:=by rw[hu];rfl
  have HT:v0.length=28:=by rw[hv];rfl
  have hy0:TR 6 u0=[]:=by rw[hu];rfl
  have vF:TR 28 v0=[]:=by rw[hv];rfl
  refine rL 5 10 rfl (rL 5 11 rfl (rL 4 10 rfl (rL 4 11 rfl (rL 10 11 rfl (lf [] (qY x q [11,10,4]) (λ_=>H.length+1) λt M ix ht hM iw=>qx 5 [0,1,2,3,11,10,4] [6,7,8,9,12,13,14] [11,10,4] [12,13] (o6 H x q u0 v0 [11,10,4]) ?_) (lf [] (qY x q [10,11,4]) (λ_=>H.length+2) λt M ix ht hM iw=>qx 5 [0,1,2,3,10,11,4] [6,7,8,9,12,13,14] [10,11,4] [12,13] (o6 H x q u0 v0 [10,11,4]) ?_)) (lf [] (qY x q [10,4,11]) (λ_=>H.length+4) λt M ix ht hM iw=>qx 5 [0,1,2,3,10,4,11] [6,7,8,9,12,13,14] [10,4,11] [12,13] (o6 H x q u0 v0 [10,4,11]) ?_)) (rL 4 11 rfl (lf [] (qY x q [11,4,10]) (λ_=>H.length+1) λt M ix ht hM iw=>qx 5 [0,1,2,3,11,4,10] [6,7,8,9,12,13,14] [11,4,10] [12,13] (o6 H x q u0 v0 [11,4,10]) ?_) (rL 10 11 rfl (lf [] (qY x q [4,11,10]) (λ_=>H.length+3) λt M ix ht hM iw=>qx 5 [0,1,2,3,4,11,10] [6,7,8,9,12,13,14] [4,11,10] [12,13] (o6 H x q u0 v0 [4,11,10]) ?_) (lf [] (qY x q [4,10,11]) (λ_=>H.length+4) λt M ix ht hM iw=>qx 5 [0,1,2,3,4,10,11] [6,7,8,9,12,13,14] [4,10,11] [12,13] (o6 H x q u0 v0 [4,10,11]) ?_)))) (rL 4 10 rfl (lf [11] (qY x q [10,4]) (λN=>N) λt M ix ht hM iw=>qx 5 [0,1,2,3,10,4] [6,7,8,9,11,12,13,14] [10,4] [11,12,13] (o6 H x q u0 v0 [10,4]) ?_) (lf [11] (qY x q [4,10]) (λN=>N) λt M ix ht hM iw=>qx 5 [0,1,2,3,4,10] [6,7,8,9,11,12,13,14] [4,10] [11,12,13] (o6 H x q u0 v0 [4,10]) ?_))) (rL 5 11 rfl (rL 4 11 rfl (lf [10] (qY x q [11,4]) (λ_=>H.length+1) λt M ix ht hM iw=>qx 5 [0,1,2,3,11,4] [6,7,8,9,10,12,13,14] [11,4] [10,12,13] (o6 H x q u0 v0 [11,4]) ?_) (lf [10] (qY x q [4,11]) (λ_=>H.length+3) λt M ix ht hM iw=>qx 5 [0,1,2,3,4,11] [6,7,8,9,10,12,13,14] [4,11] [10,12,13] (o6 H x q u0 v0 [4,11]) ?_)) (rL 10 11 rfl (lf [11,10] (qY x q [4]) (λN=>N) λt M ix ht hM iw=>qx 5 [0,1,2,3,4] [6,7,8,9,11,10,12,13,14] [4] [11,10,12,13] (o6 H x q u0 v0 [4]) ?_) (lf [10,11] (qY x q [4]) (λN=>N+1) λt M ix ht hM iw=>qx 5 [0,1,2,3,4] [6,7,8,9,10,11,12,13,14] [4] [10,11,12,13] (o6 H x q u0 v0 [4]) ?_)))
  all_goals
   (try simp only[seval,o6,zA,zB,z1,fL,GH,and_self,bi,HN,si,da,SQ,SC]);refine tu _ _ (dc (KU (x:=x) (ns:=[(q:Int)]) ⟨rfl,rfl⟩)) ?_;(try simp only[seval,o6,zA,zB,bi,HN,si,da,SQ,SC,U5]);refine aK ((ajK _ _ M u0 v0 (by subst hM;rfl) hx iA nZ hm (by subst hM;rfl) (by subst hM;rfl) (by subst hM;exactλ_ _=>rfl) λD L mp N Bf oJ eo fe jY hB=> ?_));subst hM
   first
    |obtain⟨AI,BW,AJ,BX⟩:=hB.gu 1 (λ_ _=>of_decide_eq_true rfl) (λ_ _=>rfl) λ_ _ _=>rfl
    |obtain⟨AI,BW,AJ,BX⟩:=hB.gu 2 (λ_ _=>of_decide_eq_true rfl) (λ_ _=>rfl) λ_ _ _=>rfl
    |obtain⟨AI,BW,AJ,BX⟩:=hB.gu 3 (λ_ _=>of_decide_eq_true rfl) (λ_ _=>rfl) λ_ _ _=>rfl
    |obtain⟨AI,BW,AJ,BX⟩:=hB.gu 4 (λ_ _=>of_decide_eq_true rfl) (λ_ _=>rfl) λ_ _ _=>rfl
    |obtain⟨AI,BW,AJ,BX⟩:=And.intro hB.l (And.intro hB.l (And.intro hB.l hB.l))
   first
    |obtain⟨AK,BY,AL,BZ⟩:=hB.gv 1 (λ_ _=>of_decide_eq_true rfl) (λ_ _=>rfl) λ_ _ _=>rfl
    |obtain⟨AK,BY,AL,BZ⟩:=hB.gv 2 (λ_ _=>of_decide_eq_true rfl) (λ_ _=>rfl) λ_ _ _=>rfl
    |obtain⟨AK,BY,AL,BZ⟩:=hB.gv 3 (λ_ _=>of_decide_eq_true rfl) (λ_ _=>rfl) λ_ _ _=>rfl
    |obtain⟨AK,BY,AL,BZ⟩:=hB.gv 4 (λ_ _=>of_decide_eq_true rfl) (λ_ _=>rfl) λ_ _ _=>rfl
    |obtain⟨AK,BY,AL,BZ⟩:=And.intro hB.l (And.intro hB.l (And.intro hB.l hB.l))
   have hR:=λG a b c=>rest (ix N,mp,D,G) ⟨oJ,eo,a,b,c⟩;refine⟨λDD=>Oq x q Bf u0 v0 x.l (D.l mp) t DD,by subst ht;simp only[seval,Oq,zA,zB];first|done|rfl,?_⟩;subst ht iw;(try simp only[seval,Oq,ZM,List.contains_cons,zA,zB,HN,si,hB.l,hB.n0,hB.s0,hB.n1,hB.s1,da,fe,Ev,HT,hy0,vF,ak.av,AI,BW,AJ,BX,AK,BY,AL,BZ]);refine⟨vZ x,jY,?_⟩;exact nD (asZ rfl (by simp only[seval];simp[bk,Wk.refl])) (hR _ ⟨_,by rw[hB.f]<;>first|rfl|rw[SC]⟩ (by rw[hB.f];first|exact aZ H _ 0|(rw[SC];exact aZ H _ 0)) (by simp only[seval,HN,si,hB.l,hB.n0,hB.s0,hB.n1,hB.s1,da,fe,Ev,HT,hy0,vF,ak.av,AI,BW,AJ,BX,AK,BY,AL,BZ]))
section
variable {lv:Bool}{H:List aa}{k kp:AV->List aa->Prop}
theorem ajD{x:ak}{q:Nat}(hx:x.Ok)(hq:q<x.pieces.length)(hm:H[0]?=some .main)(hk:∀D,fQ x 1 D->(D.has=false->k (.aQ [aM [],iv 11]) H)/\(D.has=true->k (.aQ [aM (dV (D.az.getD q 0) x.first 16),iv 0]) H)):ba true SA 34 H [x.av,iv q] k kp:=by
 refine bD (rs:=[.tmp 4,.tmp 5]) (nt:=29) ZW λhH hA=> ?_;simp only[bp,SU,ak.av];have hp:=hx.am;have nY:=hx.ee;have bU:x.l=[iv x.first,iv x.hours,iv x.am,c_ x.seen,aN x.pieces,aN x.aC]:=rfl;have bi:∀(L:List aa),(H++L)[H.length]?=L[0]?:=λL=>aZ H L 0;have da:x.l.length=6:=rfl;refine aj ?_;(repeat apply eT);refine agO [4,10,11,12,13] [0,1,2,3,4,5,6,7,8,9,10,11,12,13,14] F.mixed (by kernel_rfl) ?_;refine aid (α:=Nat×Nat×Kn×List aa) (ok:=λy=>fQ x 1 y.2.2.1/\bR y.2.2.1/\(∃L,y.2.2.2=H++L)/\y.2.2.2[H.length]?=some (.cells x.l 26)/\y.2.2.2[y.1]?=some (.cells (y.2.2.1.l y.2.1) 88)) (λy=>⟨[(7,.op y.1 0),(8,iv (fl y.2.2.1)),(1,iv q),(2,.op H.length 0)],y.2.2.2⟩) (λy hy=> ?_) (λrest=> ?_)
 ·obtain⟨i,mp,D,G⟩:=y;obtain⟨oJ,eo,⟨L0,hG⟩,hGr,hGi⟩:=hy;dsimp only at hG hGr hGi;obtain⟨iK,cI⟩:=hk D oJ;have fI:∀(ns:List Int)(e:End)(m:Int),k (.aQ [aM ns,iv m]) H->cH H.length G (.aQ [.sl ns.length (ns.map iv) e,iv m]) k:=λns e m h=>by
   rw[hG];exact iH hH (Jh (eQ _ _ _) (Wk.refl _)) (by simp[jM,dZ,aM,p8]) h
  (try simp only[seval]);cases iX:D.has with
  |false=>
   have hE:fl D=11:=(by rw[fl,iX];rfl);refine ab ?_;simp only[seval,hE,show ((11:Int)!=0)=true from rfl];refine aD ?_;refine aj ?_;refine aX ?_;exact fI [] .exact 11 (iK iX)
  |true=>
   have hE:fl D=0:=(by rw[fl,iX];rfl);have cI:=cI iX;obtain⟨u,hu⟩:=bE (xs:=D.az) (i:=q) (by rw[eo.az];omega);have lu:=eo.mF _ (S6 hu);have l5:D.az.getD q 0=u:=(by rw[SE,hu];rfl);rw[l5]at cI;have b3:(0<=(q:Int)/\(q:Int)<4)=True:=(by simp;omega);have DK:=Kn.Iv (mp:=mp) hu;have gL:=hx.first;refine ab ?_;simp only[seval,hE,show ((0:Int)!=0)=false from rfl];refine aD ?_;refine aF ?_;refine ej 6 ?_;simp only[seval,hGr,hGi,b3,DK,bU];refine aK ((KT lu (by omega) ?_));(try simp only[seval]);refine aX ?_;exact fI _ _ 0 cI
 ·exact apc (.inr ⟨rfl,rfl⟩) hx hq hm rest
end
theorem anH{x:ak}{deep:Int}{D:Kn}(hx:x.Ok)(h:fQ x deep D)(hh:D.has=true):jB x D.first:=by
 obtain⟨p,js,h1,h2,h3,_⟩:=h;have hp:=hx.am;have hj:∀j∈js,j<x.am.toNat+1:=λj hj=>by have:=TG.1 (h2.mem_iff.1 hj);omega
 obtain⟨j,a,t,l,b,c,d⟩:=abO hx h3 (h2.nodup_iff.2 Ya) hj hh;rw[c];exact aas (deep:=deep) (j:=j) hx (by have:=hj j a;omega) (by rw[b];simp)
namespace Tk
def tx (x:ak)(t:List Int)(i:Nat):List Int:=(SR i).map λp=>t.getD (4+p) 0+x.first
def tz (t:List Int)(i:Nat):List Int:=(SR i).map λs=>t.getD (8+s) 0
theorem akc(x:ak)(t:List Int)(i:Nat):tx x t (i+1)=tx x t i++[t.getD (4+i) 0+x.first]:=by
 unfold tx;rw[UZ,To];rfl
theorem ake(t:List Int)(i:Nat):tz t (i+1)=tz t i++[t.getD (8+i) 0]:=by
 unfold tz;rw[UZ,To];rfl
theorem akb(x:ak)(t:List Int)(i:Nat):(tx x t i).length=i:=by simp[tx]
theorem akd(t:List Int)(i:Nat):(tz t i).length=i:=by simp[tz]
end Tk
theorem aeW{a a' b b' c c' d d':AV}(h1:Wk a a')(h2:Wk b b')(h3:Wk c c')(h4:Wk d d'):Wk (.aQ [a,b,c,d]) (.aQ [a',b',c',d']):=λE v h=>by
 cases h with
 |aQ hs h=>
  refine .aQ hs λi x e=> ?_
  match i with
  |0=>cases e;exact h1 _ _ (h 0 a rfl)
  |1=>cases e;exact h2 _ _ (h 1 b rfl)
  |2=>cases e;exact h3 _ _ (h 2 c rfl)
  |3=>cases e;exact h4 _ _ (h 3 d rfl)
section
variable {lv:Bool}{H:List aa}{k kp:AV->List aa->Prop}
theorem ajq{x:ak}(hx:x.Ok)(hm:H[0]?=some .main)(hk:∀D,fQ x 0 D->(D.has=false->k (.aQ [aM [],aM [],aM [],iv 11]) H)/\(D.has=true->k (.aQ [aM (D.first.take (x.hours.toNat+1)),aM (tx x D.first x.pieces.length),aM (tz D.first x.aC.length),iv 0]) H)):ba true SA 18 H [x.av] k kp:=by
 refine bD (rs:=[.tmp 2,.tmp 3,.tmp 4,.tmp 5]) (nt:=64) Tryz.f18 λhH hA=> ?_;simp only[bp,SU,ak.av];have hp:=hx.am;have hh:=hx.hours;have nY:=hx.ee;have aP:=hx.db;have gL:=hx.first;obtain⟨p,iA⟩:∃p:Nat,x.am=p:=⟨x.am.toNat,by omega⟩;have bU:x.l=[iv x.first,iv x.hours,iv x.am,c_ x.seen,aN x.pieces,aN x.aC]:=rfl;have bi:∀(L:List aa),(H++L)[H.length]?=L[0]?:=λL=>aZ H L 0;have da:x.l.length=6:=rfl;have fL:Uh 6 x.l=x.l:=rfl;refine aj ?_;refine ab ?_;simp only[seval,bi,da,fL];refine aK ((AH (x:=x) hx iA (fU hm) JW (λh=>by cases h) λ_ js D L mp iJ jH eo tU hg=> ?_));have oJ:fQ x 0 D:=⟨p,js,iA,iJ,jH,eo⟩;have fe:=Kn.len eo mp;have jY:=vN D mp;obtain⟨iK,cI⟩:=hk D oJ;obtain⟨Y,hY⟩:∃Y:List aa,Y=[aa.cells x.l 26]++L:=⟨_,rfl⟩;obtain⟨B,hB⟩:∃B,B=H++Y:=⟨_,rfl⟩;have tD:H++[aa.cells x.l 26]++L=B:=by rw[hB,hY,SC]
 have A3:∀(L':List aa),(B++L')[H.length]?=some (.cells x.l 26):=λL'=>by rw[hB,hY,SC,bi];rfl
 have bn:∀(L':List aa)(j:Nat),(B++L')[B.length+j]?=L'[j]?:=λL' j=>aZ B L' j;have wB:∀(L':List aa)(j:Nat)(y:aa),(B++L').set (B.length+j) y=B++L'.set j y:=λL' j y=>dH B L' j y;have fI:∀(L':List aa)(l1 l2 l3:List Int)(e e' RA:End)(m:Int),k (.aQ [aM l1,aM l2,aM l3,iv m]) H->cH H.length (B++L') (.aQ [.sl l1.length (l1.map iv) e,.sl l2.length (l2.map iv) e',.sl l3.length (l3.map iv) RA,iv m]) k:=λL' l1 l2 l3 e e' RA m h=>by
  rw[hB,SC];exact iH hH (aeW (eQ _ _ _) (eQ _ _ _) (eQ _ _ _) (Wk.refl _)) (by simp[jM,dZ,aM,p8]) h
 rw[tD];clear tD hg;(try simp only[seval,ak.av,da,fe]);refine⟨vZ x,jY,?_⟩;cases iX:D.has with
 |false=>
  have hE:fl D=11:=by rw[fl,iX];rfl
  refine ab ?_;simp only[seval,hE,show ((11:Int)!=0)=true from rfl];refine aD ?_;refine aj ?_;refine aX ?_;exact fI _ [] [] [] .exact .exact .exact 11 (iK iX)
 |true=>
  have hE:fl D=0:=by rw[fl,iX];rfl
  have cI:=cI iX;have qV:=anH hx oJ iX;obtain⟨t,ht⟩:∃t,t=D.first:=⟨_,rfl⟩;rw[<- ht]at qV cI;have n5:=qV.len;obtain⟨pre,aa2,LZ⟩:∃pre:List AV,pre.length=17/\D.l mp=pre++(t.map iv++[]):=⟨bv D.has:: .mp mp::(D.az.map (λn=>wv n)++(D.hours.map (λn=>wv n)++(D.less.map (λn=>wv n)++D.aW.map (λn=>wv n)))),by simp[eo.az,eo.hours,eo.less,eo.aW],by rw[ht];simp[Kn.l]⟩;obtain⟨n,hn⟩:∃n:Nat,x.hours=n:=⟨x.hours.toNat,by omega⟩;have nW:x.hours+1=((n+1:Nat):Int):=by omega
  have bH:SD.wrap (x.hours+1)=((n+1:Nat):Int):=by rw[bc _ (by omega)];exact nW
  have cQ:TR 1 x.l=[iv x.hours,iv x.am,c_ x.seen,aN x.pieces,aN x.aC]:=rfl;have wV:TR 4 x.l=[.sl x.pieces.length (x.pieces.flatMap aB.l) .shut,.sl x.aC.length (x.aC.flatMap aB.l) .shut]:=rfl;have kI:TR 5 x.l=[.sl x.aC.length (x.aC.flatMap aB.l) .shut]:=rfl;refine ab ?_;simp only[seval,hE,show ((0:Int)!=0)=false from rfl];refine aD ?_;refine aF ?_;have CY:∀(L':List aa),(B++L')[B.length+1]?=L'[1]?:=λL'=>bn L' 1;have Aq:∀(L':List aa),(B++L')[B.length+2]?=L'[2]?:=λL'=>bn L' 2;have uM:∀(L':List aa)(y:aa),(B++L').set (B.length+2) y=B++L'.set 2 y:=λL' y=>wB L' 2 y;have bn3:∀(L':List aa),(B++L')[B.length+3]?=L'[3]?:=λL'=>bn L' 3;have bs3:∀(L':List aa)(y:aa),(B++L').set (B.length+3) y=B++L'.set 3 y:=λL' y=>wB L' 3 y;have bn4:∀(L':List aa),(B++L')[B.length+4]?=L'[4]?:=λL'=>bn L' 4;have bs4:∀(L':List aa)(y:aa),(B++L').set (B.length+4) y=B++L'.set 4 y:=λL' y=>wB L' 4 y;refine ab ?_;simp only[seval,A3,cQ,bH,ae4];refine⟨by omega,by omega,?_⟩;have wW:(D.l mp).drop 17=t.map iv:=by rw[LZ,SN,Wt (by omega),W5 (by omega),UN]
  have anb:((n:Int)+1).toNat=n+1:=by omega
  have nU:min 4 (n+1)=n+1:=by omega
  have yY:min 4 11=4:=rfl;have aba:min (n+1) 4=n+1:=by omega
  have a_:Uh (n+1) (Uh 4 (Vj iv t))++TR (n+1) (Vj iv (TO (n+1) 0))=(t.take (n+1)).map iv:=by rw[Vd,aba,W5 (by simp),SN,Wa]
  refine ab ?_;simp only[seval,wW,anb,nU,yY,n5,aba,TC,YP,CY,Aq,uM];refine⟨by rw[<- Wa];exact of_eq_true (ab0 _),?_⟩;rw[a_];obtain⟨tl,Nl⟩:∃tl,tl=t.take (n+1):=⟨_,rfl⟩;have aby:tl.length=n+1:=by rw[Nl,TC];omega
  have Hq:x.hours.toNat=n:=by omega
  rw[Hq,<- Nl]at cI;rw[<- Nl]
  (repeat apply eT);refine JY (id:=B.length+2) (by simp only[seval,Aq]<;>rfl) ?_
  simp only[seval,uM,aby]
  (repeat apply eT);refine QH (t:=2) (y:=aM tl) (by simp only[seval]<;>rfl) ?_ ?_
  ·have e:aM tl=.sl (n+1) ((tl.map iv).take (n+1)) .shut:=by
    rw[SW (by simp;omega),aM,aby]
   rw[e];exact Jf (p:=n+1) (by simp only[seval,Aq]<;>rfl) (by omega) (by simp;omega)
  (repeat apply eT);refine nC (t:=3) (sz:=1) (el:=3) (by simp only[seval]<;>rfl) ?_
  refine ab ?_;simp only[seval,A3,wV];obtain⟨gl,jV⟩:∃gl:Nat->List Int,∀i,gl i=tx x t i:=⟨_,λ_=>rfl⟩;have DR:gl 0=[]:=by rw[jV];rfl
  have Mk:∀i,(gl i).length=i:=λi=>by rw[jV];exact akb _ _ _
  refine bP ?_;refine ek x.pieces.length (λi:Nat=>[(3,.sl (gl i).length ((gl i).map iv) (.opn (B.length+3))),(31,iv i)]) (λi=>B++[.cells x.l 76,.cells (D.l mp) 88,.part (n+1) (tl.map iv) 3,.tail (gl i).length 1 3]) (λi=>True) (λ_ _=>rfl) (by rw[DR];simp only[seval];simp[bk,Wk.refl]) (by rw[DR];rfl) (λ_ _ _=>by simp) trivial (λbw bG i cw _ R hR=> ?_);refine aj ?_;refine aD ?_;refine⟨λh=> ?_,λh=> ?_⟩
  ·have br:i<x.pieces.length:=(by omega);obtain⟨v,hv,hv9,_⟩:=qV.num i br;have w6:t.getD (4+i) 0=v:=(by rw[SE,hv];rfl);have b3:(0<=(i:Int)/\(i:Int)<4)=True:=(by simp;omega);have fV:SD.wrap ((i:Int)+1)=((i+1:Nat):Int):=(by rw[bc _ (by omega)];rfl);have Er:SD.wrap ((v:Int)+x.first)=v+x.first:=bc _ (by omega);have L_:(D.l mp).drop (21+i)=iv v::((t.drop (4+i+1)).map iv++[]):=by
    have:=Gq LZ aa2 hv;rw[show 21+i=17+(4+i) by omega];exact this
   have cR:gl (i+1)=gl i++[(v:Int)+x.first]:=(by rw[jV,jV,akc,w6]);have MB:=Mk i;refine aF ?_;refine aj ?_;refine ej 10 ?_;simp only[seval,z1,A3,CY,b3,L_,Er,bU,bn3,bs3]
   first|refine⟨by decide,by omega,?_⟩|refine⟨by omega,?_⟩
   refine ab ?_;simp only[seval,fV];refine hR _ ⟨br,trivial,?_⟩;rw[cR,To,SQ];exact bX
  ·have dB:i=x.pieces.length:=(by omega);subst dB;clear hR;refine bO ?_
   (repeat apply eT);refine nC (t:=4) (sz:=1) (el:=3) (by simp only[seval]<;>rfl) ?_
   have Es:(gl x.pieces.length)=tx x t x.pieces.length:=jV _;generalize gl x.pieces.length=nl at Es⊢;refine ab ?_;simp only[seval,A3,kI];obtain⟨go,hgo⟩:∃go:Nat->List Int,∀i,go i=tz t i:=⟨_,λ_=>rfl⟩;have aaT:go 0=[]:=(by rw[hgo];rfl);have alW:∀i,(go i).length=i:=λi=>(by rw[hgo];exact akd _ _);refine bP ?_;refine ek x.aC.length (λi:Nat=>[(4,.sl (go i).length ((go i).map iv) (.opn (B.length+4))),(49,iv i)]) (λi=>B++[.cells x.l 76,.cells (D.l mp) 88,.part (n+1) (tl.map iv) 3,.tail nl.length 1 3,.tail (go i).length 1 3]) (λi=>True) (λ_ _=>rfl) (by rw[aaT];simp only[seval];simp[bk,Wk.refl]) (by rw[aaT];rfl) (λ_ _ _=>by simp) trivial (λbw bG i cw _ R hR=> ?_);refine aj ?_;refine aD ?_;refine⟨λh=> ?_,λh=> ?_⟩
   ·have br:i<x.aC.length:=(by omega);obtain⟨v,hv,hv9⟩:=qV.own i br;have w6:t.getD (8+i) 0=v:=(by rw[SE,hv];rfl);have b3:(0<=(i:Int)/\(i:Int)<3)=True:=(by simp;omega);have fV:SD.wrap ((i:Int)+1)=((i+1:Nat):Int):=(by rw[bc _ (by omega)];rfl);have L_:(D.l mp).drop (25+i)=iv v::((t.drop (8+i+1)).map iv++[]):=by
     have:=Gq LZ aa2 hv;rw[show 25+i=17+(8+i) by omega];exact this
    have cR:go (i+1)=go i++[(v:Int)]:=(by rw[hgo,hgo,ake,w6]);have MB:=alW i;refine aF ?_;refine aj ?_;refine ab ?_;simp only[seval,z1,CY,b3,L_,bn4,bs4]
    first|refine⟨by decide,by omega,?_⟩|refine⟨by omega,?_⟩
    refine ab ?_;simp only[seval,fV];refine hR _ ⟨br,trivial,?_⟩;rw[cR,To,SQ];exact bX
   ·have dB:i=x.aC.length:=(by omega);subst dB;clear hR;refine bO ?_;have hxo:(go x.aC.length)=tz t x.aC.length:=hgo _;generalize go x.aC.length=ol at hxo⊢;refine aj ?_;refine aX ?_;rw[<- Es,<- hxo]at cI;exact fI _ tl nl ol .shut _ _ 0 cI
end
open Go.Conc Go.Proofs Go.Gg.Tk
namespace Tk
def Is (n:Int)(o k:Int):Int:=xp [o,max (k-n) (n-k)]
def zy (l:List Int)(n:Int)(o:Int):Int:=l.foldl (Is n) o
def mR (own q:Nat)(m:Int×Nat)(t:List Int):Int×Nat:=if m.2.testBit (iN t q)then m else(zy (dV own 0 16) (iN t q) m.1,m.2|||2^iN t q)
def rH (x:ak)(y:aB)(q:Nat)(o:Int)(h:List Int):Int:=if bZ h y=0 then o else((iE x 1 h).foldl (mR (bZ h y) q) (o,0)).1
def py (x:ak)(y:aB)(q:Nat):Nat->Int
 |0=> -1
 |i+1=>(jW x i).foldl (rH x y q) (py x y q i)
def JR (x:ak)(i:Nat):List aa:=[.cells x.l 76,.cells [iv i] 3,.obj (.deferred (some [])),.gone]
def pz (x:ak):Nat->List aa
 |0=>[]
 |i+1=>pz x i++JR x i
def x_ (n:Nat):Nat->List Nat
 |0=>[]
 |i+1=>(n+4* i+2)::x_ n i
theorem JS(x:ak):∀i,(pz x i).length=4* i
 |0=>rfl
 |i+1=>by rw[pz,SQ,JS x i];rfl
theorem Qn(x:ak)(B:List aa):∀(i:Nat)(L:List aa),∃Y,iS (x_ B.length i) (B++pz x i++L)=some (B++Y)
 |0,L=>⟨pz x 0++L,by rw[x_,AP,SC]⟩
 |i+1,L=>by
  have hl:(B++pz x i).length=B.length+4* i:=by rw[SQ,JS]
  have e:B++pz x (i+1)++L=(B++pz x i)++(JR x i++L):=by rw[pz];simp
  have hg:((B++pz x i)++(JR x i++L))[B.length+4* i+2]?=some (.obj (.deferred (some []))):=by rw[<- hl,aZ];rfl
  obtain⟨Y,hY⟩:=Qn x B i ([.cells x.l 76,.cells [iv i] 3,.gone,.gone]++L);refine⟨Y,?_⟩;rw[x_,e,AN hg,<- hl,dH];exact hY
end Tk
theorem ag6{lv:Bool}{P:SI}{nt:Nat}{c:Uc}{s:AS}{ms:List Nat}{Φ:an->AS->List Nat->Prop}(h:kB lv P nt [] c s ms Φ):mL lv P nt c s ms Φ:=λE V a Q ai hd hQ=>
 h E V a Q ai ⟨by rw[SN];exact hd.1,hd.2⟩ λae e E' V' a' s' cF hk aV cD he hΦ=>hQ ae e E' V' a' s' cF hk aV ⟨by have:=cD.1;rwa [SN]at this,cD.2⟩ he hΦ
section
variable {lv:Bool}{H:List aa}{k kp:AV->List aa->Prop}
theorem R_{x:ak}{s q:Nat}{y:aB}(hx:x.Ok)(hs:x.aC[s]?=some y)(hq:q<x.pieces.length)(hk:∀o:Int,o=py (x.wo [(s:Int)]) y q (x.am.toNat+1)->k (.aQ [iv (if o<0 then 0 else o),iv (if o<0 then 11 else 0)]) H):ba lv SA 31 H [x.av,iv s,iv q] k kp:=by
 refine Sw (rs:=[.tmp 6,.tmp 7]) (nt:=97) F.f31 rfl rfl rfl (by simp) λhH hA=> ?_;simp only[bp,SU,ak.av];have hp:=hx.am;have aP:=hx.db;have nY:=hx.ee;have cj:=eW hs;have nZ:=ac7 hq;obtain⟨p,iA⟩:∃p:Nat,x.am=p:=⟨x.am.toNat,by omega⟩;obtain⟨w,hw⟩:∃w,w=x.wo [(s:Int)]:=⟨_,rfl⟩;have Nv:w.Ok:=by rw[hw];exact hx.wo _
 have bU:x.l=[iv x.first,iv x.hours,iv x.am,c_ x.seen,aN x.pieces,aN x.aC]:=rfl;have fJ:∀(L:List aa)(j:Nat),(H++L)[H.length+j]?=L[j]?:=λL j=>aZ H L j;have vC:∀(L:List aa)(j:Nat)(y:aa),(H++L).set (H.length+j) y=H++L.set j y:=λL j y=>dH H L j y;have bi:∀(L:List aa),(H++L)[H.length]?=L[0]?:=λL=>aZ H L 0;have cQ:∀(L:List aa),(H++L)[H.length+1]?=L[1]?:=λL=>aZ H L 1;have kq:∀(L:List aa),(H++L)[H.length+2]?=L[2]?:=λL=>aZ H L 2;have kI:∀(L:List aa),(H++L)[H.length+5]?=L[5]?:=λL=>aZ H L 5;have M8:∀(L:List aa)(y:aa),(H++L).set (H.length+5) y=H++L.set 5 y:=λL y=>dH H L 5 y;have hd6:∀(L:List aa),(H++L)[H.length+6]?=L[6]?:=λL=>aZ H L 6;have hs6:∀(L:List aa)(y:aa),(H++L).set (H.length+6) y=H++L.set 6 y:=λL y=>dH H L 6 y;have da:x.l.length=6:=rfl;have fL:Uh 6 x.l=x.l:=rfl;have aaN:TR 5 x.l=[.sl x.aC.length (x.aC.flatMap aB.l) .shut]:=rfl;have DJ:TR 2 x.l=[iv x.am,c_ x.seen,aN x.pieces,aN x.aC]:=rfl;have GH:(1<=2^24)=True:=eq_true (by decide);(try refine nE ?_);refine aj ?_;(try refine nE ?_);refine ab ?_;simp only[seval,bi,da,fL];refine aK ((KV (x:=x) hx ?_));(try simp only[seval]);(try refine nE ?_);refine ab ?_;simp only[seval,show ((0:Int)!=0)=false from rfl];(try refine nE ?_);refine aD ?_;refine aF ?_;(try refine nE ?_);refine ab ?_;simp only[seval,z1,GH,bi,kq,da,fL];refine aK ((KU (x:=x) (ns:=[(q:Int)]) ?_));have bH:SD.wrap ((x.aC.length:Int)-1)=(x.aC.length:Int)-1:=bc _ (by omega);have D7:(decide ((s:Int)<0)||decide ((s:Int)>(x.aC.length:Int)-1))=false:=by simp;omega
 (try simp only[seval]);refine aK ((KY (x:=x) (ns:=[(q:Int)]) (e:=.exact) (il:=H.length+4) (ir:=H.length+3) hx (by simp) (by rw[fJ];rfl) (by rw[fJ];rfl) ?_));rw[nZ];(try simp only[seval,bi,cQ,aaN,bH]);refine aK ((tw (n:=s) (lo:=0) (hi:=(x.aC.length:Int)-1) ?_));rw[D7];(try simp only[seval]);(try refine nE ?_);refine aD ?_;refine aF ?_;(try refine nE ?_);have ald:uz [(s:Int)] x.aC.length:=λi n hn=>by
  match i,hn with
  |0,hn=>cases hn;simp;omega
 refine ab ?_;simp only[seval,z1,GH,bi,cQ,da,fL];refine aK ((Se (x:=x) (ns:=[(s:Int)]) aP ald ?_));rw[<- hw];have oc:w.l.length=6:=rfl;have so:Uh 6 w.l=w.l:=rfl;have hlw:w.l=[iv w.first,iv w.hours,iv w.am,c_ w.seen,aN w.pieces,aN w.aC]:=rfl;have Nz:TR 6 [AV.val (SF SD 0),AV.val (SF SD 0),AV.val (SF SD 0),AV.sl 0 [] .exact,AV.sl 0 [] .exact,AV.sl 0 [] .exact]=[]:=rfl;(try simp only[seval,ak.av,oc,so,kI,M8,hd6,hs6,Nz]);refine⟨vZ w,?_⟩;have ep:SD.wrap (x.am+1)=((p+1:Nat):Int):=by rw[iA,bc _ (by omega)];rfl
 refine J4 ?_;refine nE ?_;refine ab ?_;simp only[seval,bi,DJ,ep];obtain⟨Bo,kF⟩:∃Bo:Int->List aa,∀o,Bo o=H++[.cells x.l 26,.cells [iv s] 3,.cells [iv q] 3,.cells x.l 26,.cells [.sl 1 [iv q] .exact] 22,.cells w.l 76,.cells [iv o] 3]:=⟨_,λ_=>rfl⟩;have dF:∀o,(Bo o).length=H.length+7:=λo=>by rw[kF];simp
 have b0:∀o L,(Bo o++L)[H.length]?=some (.cells x.l 26):=λo L=>by rw[kF,SC,bi];rfl
 have b1:∀o L,(Bo o++L)[H.length+1]?=some (.cells [iv s] 3):=λo L=>by rw[kF,SC,fJ];rfl
 have b2:∀o L,(Bo o++L)[H.length+2]?=some (.cells [iv q] 3):=λo L=>by rw[kF,SC,fJ];rfl
 have b5:∀o L,(Bo o++L)[H.length+5]?=some (.cells w.l 76):=λo L=>by rw[kF,SC,fJ];rfl
 have b6:∀o L,(Bo o++L)[H.length+6]?=some (.cells [iv o] 3):=λo L=>by rw[kF,SC,fJ];rfl
 have s6:∀o o' L,(Bo o++L).set (H.length+6) (.cells [iv o'] 3)=Bo o'++L:=λo o' L=>by rw[kF,kF,SC,SC,vC];rfl
 obtain⟨fo,wZ⟩:∃fo:Nat->Int,∀i,fo i=py w y q i:=⟨_,λ_=>rfl⟩;refine ag6 ?_;refine yb ?_;refine QJ (measure λi=>p+1-i).wf (λi:Nat=>⟨[(45,iv i),(44,iv ((p+1:Nat):Int)),(3,.op H.length 0),(4,.op (H.length+1) 0),(5,.op (H.length+2) 0),(9,.op (H.length+5) 0),(10,.op (H.length+6) 0)],Bo (fo i)++pz w i⟩) (λi=>x_ (H.length+7) i) (λi=>i<=p+1) 0 (dW (by simp only[seval];simp[bk,Wk.refl]) (by rw[kF,wZ];show _=_++[];rw[SN];rfl)) rfl (by omega) λi oS=> ?_;obtain⟨N,hN⟩:∃N,N=H.length+7+4* i:=⟨_,rfl⟩;obtain⟨AO,qA⟩:∃AO:Int->List aa,∀o,AO o=Bo o++pz w i:=⟨_,λ_=>rfl⟩;have qB:∀o,(AO o).length=N:=λo=>by rw[qA,SQ,dF,JS,hN]
 have a0:∀o L,(AO o++L)[H.length]?=some (.cells x.l 26):=λo L=>by rw[qA,SC];exact b0 _ _
 have a1:∀o L,(AO o++L)[H.length+1]?=some (.cells [iv s] 3):=λo L=>by rw[qA,SC];exact b1 _ _
 have a2:∀o L,(AO o++L)[H.length+2]?=some (.cells [iv q] 3):=λo L=>by rw[qA,SC];exact b2 _ _
 have a5:∀o L,(AO o++L)[H.length+5]?=some (.cells w.l 76):=λo L=>by rw[qA,SC];exact b5 _ _
 have a50:∀o,(AO o)[H.length+5]?=some (.cells w.l 76):=λo=>by have:=a5 o [];rwa [SN]at this
 have a6:∀o L,(AO o++L)[H.length+6]?=some (.cells [iv o] 3):=λo L=>by rw[qA,SC];exact b6 _ _
 have as6:∀o o' L,(AO o++L).set (H.length+6) (.cells [iv o'] 3)=AO o'++L:=λo o' L=>by rw[qA,qA,SC,SC];exact s6 _ _ _
 have ag:∀o (L:List aa)(j:Nat),(AO o++L)[N+j]?=L[j]?:=λo L j=>by rw[<- qB o,aZ]
 have uJ:∀o (L:List aa)(j:Nat)(y:aa),(AO o++L).set (N+j) y=AO o++L.set j y:=λo L j y=>by rw[<- qB o,dH]
 have Oz:∀m o o',(∀z∈AO o,eZ m z)->∀z∈AO o',eZ m z:=λm o o' hz z fj=>by
  rw[qA,kF]at hz fj;simp only[SV]at fj;rcases fj with(h'|h')|h'
  ·exact hz z (by simp[h'])
  ·simp only[SK,SZ,or_false]at h';rcases h' with rfl|rfl|rfl|rfl|rfl|rfl|rfl
   ·exact hz _ (by simp)
   ·exact hz _ (by simp)
   ·exact hz _ (by simp)
   ·exact hz _ (by simp)
   ·exact hz _ (by simp)
   ·exact hz _ (by simp)
   ·intro a ha;rw[S9]at ha;subst ha;exact .val _
  ·exact hz z (by simp[h'])
 have okX:∀(X:List aa) o o',bJ (AO o++X)->bJ (AO o'++X):=λX o o' hX z hz=>by
  have hlen:(AO o'++X).length=(AO o++X).length:=by simp[qB]
  rw[hlen];rcases SV.1 hz with h'|h'
  ·exact Oz _ o o' (λz hz=>hX z (Ti _ hz)) z h'
  ·exact hX z (S5 _ h')
 rw[<- qA];refine td ?_;refine aj ?_;refine td ?_;refine aD ?_;refine⟨λhc=> ?_,λhc=> ?_⟩
 ·have qI:i<=3:=by omega
  have Lu:=Fx Nv i qI;refine aF ?_;refine Gb ?_;refine yb ?_;refine td ?_;refine aj ?_;refine td ?_;refine ab ?_;simp only[seval,a50,hlw];refine aK ((KW (x:=w) (n:=i) ?_));rw[qB];(try simp only[seval]);refine yb ?_;refine J5 (by rfl) λl fn T Qi bo hT yF qG=> ?_;(try simp only[seval]);rw[qB];have hY:jQ lv SA (.fn (.yield l) [] []) (λo h=> .go (rH w y q o h)) (λo=>AO o++[.cells w.l 76,.cells [iv i] 3,.obj (.deferred (some [])),.loop l .ready none fn T 97 #[51] Qi bo (N+2)]) (N+4) (λ_=>True) (λh=>mM h/\∀ns∈f_ w h,∀a∈(iD w h ns).map (dC h ns),jB w a) (.aQ []):=by
   refine⟨λo h M k kp _ ha dI=> ?_,λ_ _ _ _ _ _=>trivial,λo=>by simp[qB],λm o o' hz z fj=> ?_,rfl,rfl,rfl⟩
   ·obtain⟨pK,xh⟩:=ha;have h4:=pK.len;have nM:(h.map iv).length=4:=(by rw[Ta,h4]);simp only[cW]at dI;obtain⟨Lo,lj⟩:∃Lo,Lo=aa.loop l .busy none fn T 97 #[51] Qi bo (N+2):=⟨_,rfl⟩;obtain⟨C,hC⟩:∃C,C=N+4+M.length:=⟨_,rfl⟩;obtain⟨P1,dz⟩:∃P1:Int->List aa,∀o,P1 o=AO o++([.cells w.l 76,.cells [iv i] 3,.obj (.deferred (some [])),Lo]++M):=⟨_,λ_=>rfl⟩;have eC:∀o,(P1 o).length=C:=λo=>(by rw[dz,hC];simp[qB];omega);have p0:∀o L,(P1 o++L)[H.length]?=some (.cells x.l 26):=λo L=>(by rw[dz,SC];exact a0 _ _);have p1:∀o L,(P1 o++L)[H.length+1]?=some (.cells [iv s] 3):=λo L=>(by rw[dz,SC];exact a1 _ _);have p2:∀o L,(P1 o++L)[H.length+2]?=some (.cells [iv q] 3):=λo L=>(by rw[dz,SC];exact a2 _ _);have p5:∀o L,(P1 o++L)[H.length+5]?=some (.cells w.l 76):=λo L=>(by rw[dz,SC];exact a5 _ _);have p6:∀o L,(P1 o++L)[H.length+6]?=some (.cells [iv o] 3):=λo L=>(by rw[dz,SC];exact a6 _ _);have ps6:∀o o' L,(P1 o++L).set (H.length+6) (.cells [iv o'] 3)=P1 o'++L:=λo o' L=>(by rw[dz o,dz o',SC (AO o),SC (AO o')];exact as6 _ _ _);have OL:∀o L,(P1 o++L)[N+3]?=some Lo:=λo L=>(by rw[dz,SC,ag];rfl);have O3:∀o (L:List aa) y,(P1 o++L).set (N+3) y=AO o++([.cells w.l 76,.cells [iv i] 3,.obj (.deferred (some [])),y]++M)++L:=λo L y=>(by rw[dz,SC,uJ];simp);have pb:∀o (L:List aa)(j:Nat),(P1 o++L)[C+j]?=L[j]?:=λo L j=>(by rw[<- eC o,aZ]);have xA:∀o (L:List aa),(P1 o++L)[C]?=L[0]?:=λo L=>pb o L 0;have pb1:∀o (L:List aa),(P1 o++L)[C+1]?=L[1]?:=λo L=>pb o L 1;have pb2:∀o (L:List aa),(P1 o++L)[C+2]?=L[2]?:=λo L=>pb o L 2;have BR:∀o (L:List aa)(j:Nat)(y:aa),(P1 o++L).set (C+j) y=P1 o++L.set j y:=λo L j y=>(by rw[<- eC o,dH]);have ps1:∀o (L:List aa)(y:aa),(P1 o++L).set (C+1) y=P1 o++L.set 1 y:=λo L y=>BR o L 1 y;have ps2:∀o (L:List aa)(y:aa),(P1 o++L).set (C+2) y=P1 o++L.set 2 y:=λo L y=>BR o L 2 y;have BJ:∀m o o',(∀z∈P1 o,eZ m z)->∀z∈P1 o',eZ m z:=λm o o' hz z fj=>by
     rw[dz]at hz fj;rcases SV.1 fj with h'|h'
     ·exact Oz m o o' (λz vH=>hz z (Ti _ vH)) z h'
     ·exact hz z (S5 _ h')
    subst hT yF qG;rw[SC];refine wC (id:=N+3) (by rw[ag];rfl) rfl (by kernel_rfl) λoI Lv=> ?_;simp only[sR];have wX:TR 4 [iv 0,iv 0,iv 0,iv 0]=[]:=rfl;refine ab ?_;simp only[seval,h4,wX];unfold uG;refine⟨none,fn,_,97,#[51],_,_,_,by rw[ag];rfl,?_⟩;dsimp only;rw[uJ];simp only[UK,T9];rw[<- lj];have yA:(AO o).length+(M.length+1+1+1+1)=C:=(by rw[qB,hC];omega);rw[yA];have yQ:∀z:aa,(AO o++aa.cells w.l 76::aa.cells [AV.val (SF SD ↑i)] 3::aa.obj (awd (some []))::Lo::(M++[z]))=P1 o++[z]:=λz=>(by rw[dz];simp[iv]);rw[yQ];obtain⟨own,eF⟩:∃own,own=bZ h y:=⟨_,rfl⟩;refine bP ?_;refine nB [7,8] (SR 9) (λD=>bif isDone 8 D then P1 o++[.cells (h.map iv) 83,.cells [wv own] 79]else bif isDone 7 D then P1 o++[.cells (h.map iv) 83,.cells [.val (.int .u16 0)] 79]else P1 o++[.cells (h.map iv) 83]) ?_;simp only[seval,eC,xA,pb1,ps1,p0,p1,h4,nM,aaN,xG hs,iR cj];have hmE:Uh 4 (Vj (λn=>AV.val (SF SD n)) h)=h.map iv:=SW (by rw[nM];exact SO _);rw[hmE];refine gB (wv own) (dc (Gu (h:=h) (y:=y) pK ⟨by rw[eF],rfl⟩)) ?_;refine⟨gB (wv own) (dc (Gu (h:=h) (y:=y) pK ⟨by rw[eF],rfl⟩)) rfl,?_⟩;(try simp only[seval,wv]);have hm3:Vj (λn=>AV.val (SF SD n)) h=h.map iv:=rfl;rw[hm3];refine ab ?_;simp only[seval,pb1];refine aD ?_;refine⟨λhz=> ?_,λhz=> ?_⟩
    ·refine bO ?_;have fj:own=0:=(by simpa using hz);have e1:rH w y q o h=o:=(by unfold rH;rw[<- eF,if_pos fj]);rw[e1]at dI;show pu _ _ _ _ _ _ _;refine⟨l,.busy,none,fn,_,97,#[51],_,_,N+2,by show (P1 _++_)[_]?=_;rw[OL,lj],?_⟩;show cH C ((P1 _++_).set _ _) _ k;rw[O3];rw[SC]at dI;exact jE (G:=[.cells (h.map iv) 83,.cells [wv own] 79]) (Wk.refl _) rfl (by rw[hC];simp[qB];omega) oI (.val _) dI
    ·refine aF ?_;refine ab ?_;simp only[seval,eC];refine ab ?_;simp only[seval,p5,xA,hlw,h4,nM];have amd:Uh 4 (Vj iv h)=h.map iv:=SW (by rw[nM];exact SO _);rw[amd];refine aK ((KX (x:=w) (h:=h) (deep:=1) ?_));(try simp only[seval]);have fj:own≠0:=(by simpa using hz);have amp:own<65536:=by
      rw[eF];have:bZ h y<2^9:=CV;omega
     refine bP ?_;refine F' (N+3) (by rfl) (by show (P1 _++_)[N+3]?=_;rw[OL,lj]) λl2 eV T2 gF gG oL yG yI=> ?_;simp only[seval];rw[eC]at oL⊢;have okm:∀v m m',(∀z∈[aa.cells (h.map iv) 83,.cells [wv own] 79,.cells [wv m] 79,.cells w.l 76,.cells (h.map iv) 83,.cells [iv 1] 3,.loop l2 .ready none eV T2 97 #[64] gF gG (N+2)],eZ v z)->∀z∈[aa.cells (h.map iv) 83,.cells [wv own] 79,.cells [wv m'] 79,.cells w.l 76,.cells (h.map iv) 83,.cells [iv 1] 3,.loop l2 .ready none eV T2 97 #[64] gF gG (N+2)],eZ v z:=λv m m' hz z fj=>by
      simp only[SK,SZ,or_false]at fj;rcases fj with rfl|rfl|rfl|rfl|rfl|rfl|rfl
      ·exact hz _ (by simp)
      ·exact hz _ (by simp)
      ·intro a ha;rw[S9]at ha;subst ha;exact .val _
      ·exact hz _ (by simp)
      ·exact hz _ (by simp)
      ·exact hz _ (by simp)
      ·exact hz (.loop l2 .ready none eV T2 97 #[64] gF gG (N+2)) (by simp)
     have yE:jQ lv SA (.fn (.yield l2) [] []) (λm t=> .go (mR own q m t)) (λm:Int×Nat=>P1 m.1++[.cells (h.map iv) 83,.cells [wv own] 79,.cells [wv m.2] 79,.cells w.l 76,.cells (h.map iv) 83,.cells [iv 1] 3,.loop l2 .ready none eV T2 97 #[64] gF gG (N+2)]) (C+7) (λm=>m.2<65536) (jB w) (.aQ []):=by
      refine⟨λm t M2 k2 zp hm ht lx=> ?_,λm t m' hm ht he=> ?_,λm=>by simp[eC],λv m m' hz z fj=> ?_,rfl,rfl,rfl⟩
      ·obtain⟨o2,met⟩:=m;replace hm:met<65536:=hm;have n5:=ht.len;have Bv:(t.map iv).length=11:=(by rw[Ta,n5]);simp only[cW]at lx;have By:w.pieces.length=x.pieces.length:=(by rw[hw];rfl);obtain⟨n,lZ,MK,_⟩:=ht.num q (by rw[By];exact hq);have HI:iN t q=n:=(by unfold iN;rw[SE,lZ];rfl);obtain⟨qj,tG⟩:∃Lo,Lo=aa.loop l2 .busy none eV T2 97 #[64] gF gG (N+2):=⟨_,rfl⟩;obtain⟨D,hD⟩:∃D,D=C+7+M2.length:=⟨_,rfl⟩;obtain⟨Q1,gn⟩:∃Q1:Int->Nat->List aa,∀o m,Q1 o m=P1 o++([.cells (h.map iv) 83,.cells [wv own] 79,.cells [wv m] 79,.cells w.l 76,.cells (h.map iv) 83,.cells [iv 1] 3,qj]++M2):=⟨_,λ_ _=>rfl⟩;have hQl:∀o m,(Q1 o m).length=D:=λo m=>(by rw[gn,hD];simp[eC];omega);have q2:∀o m L,(Q1 o m++L)[H.length+2]?=some (.cells [iv q] 3):=λo m L=>(by rw[gn,SC];exact p2 _ _);have q6:∀o m L,(Q1 o m++L)[H.length+6]?=some (.cells [iv o] 3):=λo m L=>(by rw[gn,SC];exact p6 _ _);have qs6:∀o o' m L,(Q1 o m++L).set (H.length+6) (.cells [iv o'] 3)=Q1 o' m++L:=λo o' m L=>(by rw[gn o,gn o',SC (P1 o),SC (P1 o')];exact ps6 _ _ _);have qo:∀o m L,(Q1 o m++L)[C+1]?=some (.cells [wv own] 79):=λo m L=>(by rw[gn,SC,pb];rfl);have qm:∀o m L,(Q1 o m++L)[C+2]?=some (.cells [wv m] 79):=λo m L=>(by rw[gn,SC,pb];rfl);have qsm:∀o m m' L,(Q1 o m++L).set (C+2) (.cells [wv m'] 79)=Q1 o m'++L:=λo m m' L=>(by rw[gn o m,gn o m',SC (P1 o),BR,SC (P1 o)];rfl);have ql:∀o m L,(Q1 o m++L)[C+6]?=some qj:=λo m L=>(by rw[gn,SC,pb];rfl);have qsl:∀o m L y,(Q1 o m++L).set (C+6) y=(P1 o++([.cells (h.map iv) 83,.cells [wv own] 79,.cells [wv m] 79,.cells w.l 76,.cells (h.map iv) 83,.cells [iv 1] 3,y]++M2))++L:=λo m L y=>(by rw[gn,SC,BR];simp);have qc:∀o m (L:List aa),(Q1 o m++L)[D]?=L[0]?:=λo m L=>(by rw[<- hQl o m];exact aZ _ L 0);have IJ:∀o (L:List aa),(P1 o++L)[C+6]?=L[6]?:=λo L=>pb o L 6;have tP:∀(o':Int)(m':Nat)(G:List aa),bJ (P1 o2++([aa.cells (h.map iv) 83,.cells [wv own] 79,.cells [wv met] 79,.cells w.l 76,.cells (h.map iv) 83,.cells [iv 1] 3,.loop l2 .ready none eV T2 97 #[64] gF gG (N+2)]++M2))->k2 (.val (.bool true)) (P1 o'++([aa.cells (h.map iv) 83,.cells [wv own] 79,.cells [wv m'] 79,.cells w.l 76,.cells (h.map iv) 83,.cells [iv 1] 3,.loop l2 .ready none eV T2 97 #[64] gF gG (N+2)]++M2))->cH D ((Q1 o' m'++G).set (C+6) (.loop l2 .ready none eV T2 97 #[64] gF gG (N+2))) (.val (.bool true)) k2:=λo' m' G aq aJ=>by
        rw[qsl];refine jE (G:=G) (Wk.refl _) rfl (by rw[hD];simp[eC];omega) ?_ (.val _) aJ;intro z hz;have hlen:(P1 o'++([aa.cells (h.map iv) 83,.cells [wv own] 79,.cells [wv m'] 79,.cells w.l 76,.cells (h.map iv) 83,.cells [iv 1] 3,.loop l2 .ready none eV T2 97 #[64] gF gG (N+2)]++M2)).length=(P1 o2++([aa.cells (h.map iv) 83,.cells [wv own] 79,.cells [wv met] 79,.cells w.l 76,.cells (h.map iv) 83,.cells [iv 1] 3,.loop l2 .ready none eV T2 97 #[64] gF gG (N+2)]++M2)).length:=(by simp[eC]);rw[hlen];rcases SV.1 hz with h'|h'
        ·exact BJ _ o2 o' (λz hz=>aq z (Ti _ hz)) z h'
        ·rcases SV.1 h' with h'|h'
         ·exact okm _ met m' (λz hz=>aq z (S5 _ (Ti _ hz))) z h'
         ·exact aq z (S5 _ (S5 _ h'))
       subst oL yG yI;rw[SC];refine wC (id:=C+6) (by rw[IJ];rfl) rfl (by kernel_rfl) λrQ Lw=> ?_;simp only[sR];have DJ:TR 11 [iv 0,iv 0,iv 0,iv 0,iv 0,iv 0,iv 0,iv 0,iv 0,iv 0,iv 0]=[]:=rfl;refine ab ?_;simp only[seval,n5,DJ];unfold uG;refine⟨none,eV,_,97,#[64],_,_,_,by rw[IJ];rfl,?_⟩;dsimp only;rw[BR];simp only[UK,T9];rw[<- tG];have Dk:(P1 o2).length+(M2.length+1+1+1+1+1+1+1)=D:=(by rw[eC,hD];omega);rw[Dk];have iW:∀z:aa,(P1 o2++aa.cells (Vj iv h) 83::aa.cells [AV.val (SF S7 ↑own)] 79::aa.cells [AV.val (SF S7 ↑met)] 79::aa.cells w.l 76::aa.cells (Vj iv h) 83::aa.cells [AV.val (SF SD 1)] 3::qj::(M2++[z]))=Q1 o2 met++[z]:=λz=>(by rw[gn];simp[iv]);rw[iW];have b4:(0<=(q:Int)/\(q:Int)<4)=True:=(by simp;omega);have pH:=lc (i:=4+q) lZ;refine ab ?_;simp only[seval,q2,qc,b4,pH];refine ab ?_;simp only[seval,qm];refine aK ((yo (m:=met) (n:=n) hm ?_));(try simp only[seval]);refine aD ?_;refine⟨λhb=> ?_,λhb=> ?_⟩
       ·refine bO ?_;have e1:mR own q (o2,met) t=(o2,met):=(by unfold mR;rw[HI,if_pos hb]);rw[e1]at lx;rw[SC]at lx;show pu _ _ _ _ _ _ _;refine⟨l2,.busy,none,eV,_,97,#[64],_,_,N+2,by show (Q1 _ _++_)[_]?=_;rw[ql,tG],?_⟩;exact tP o2 met _ rQ lx
       ·refine aF ?_;have dG:met.testBit n=false:=(by simpa using hb);have e1:mR own q (o2,met) t=(zy (dV own 0 16) n o2,met|||2^n):=(by unfold mR;rw[HI,if_neg (by simpa using hb)]);rw[e1]at lx;rw[SC]at lx;refine ab ?_;simp only[seval,qm];refine aK ((uU (m:=met) (n:=n) hm (by omega) ?_));(try simp only[seval,qm,qsm,wv]);refine ab ?_;simp only[seval,qo];refine aK ((KT (s:=own) (more:=0) amp (by decide) ?_));(try simp only[seval,aM]);have hlb:∀v∈dV own 0 16,0<=v/\v<16:=λv hv=>by
         unfold dV at hv;obtain⟨j,hj,rfl⟩:=Tf.1 hv;have:=TG.1 (Uz.1 hj).1;omega
        have eY:=N_ own 0 16;generalize dV own 0 16=ls at hlb eY lx⊢;obtain⟨oj,kL⟩:∃oj:Nat->Int,∀j,oj j=zy (ls.take j) n o2:=⟨_,λ_=>rfl⟩;have amr:oj 0=o2:=(by rw[kL];rfl);generalize met|||2^n=aco at lx⊢;refine bP ?_;refine ek ls.length (λj:Nat=>[(78,iv j)]) (λj=>Q1 (oj j) aco++[.cells (t.map iv) 86]) (λ_=>True) (λ_ _=>rfl) (by simp only[seval];simp[bk,Wk.refl]) (by rw[amr]) (λ_ _ _=>by simp[hQl]) trivial (λbw bG j lS _ R hR=> ?_);clear bw bG;refine aj ?_;refine aD ?_;refine⟨λh1=> ?_,λh1=> ?_⟩
        ·have dn:j<ls.length:=(by omega);obtain⟨v,hv⟩:=bE dn;have hvb:=hlb v (sx hv);have cR:oj (j+1)=Is n (oj j) v:=by
          rw[kL,kL,zy,zy];obtain⟨al5,zg⟩:=SL.1 hv;rw[U2 al5,WZ,zg];rfl
         have hwa:SD.wrap (v-(n:Int))=v-n:=bc _ (by omega);have HQ:SD.wrap ((n:Int)-v)=n-v:=bc _ (by omega);have fV:SD.wrap ((j:Int)+1)=((j+1:Nat):Int):=(by rw[bc _ (by omega)];rfl);have ak4:(2<=2^24)=True:=eq_true (by decide);refine aF ?_;refine ab ?_;simp only[seval,dN hv,iR dn];refine ab ?_;simp only[seval,q6,z2,ak4,hwa,HQ];have D2:(if v-(n:Int)<(n:Int)-v then(n:Int)-v else v-(n:Int))=max (v-n) (n-v):=(by split<;>omega);rw[D2];refine aK ((ajS (ns:=[oj j,max (v-n) (n-v)]) (by simp) ?_));(try simp only[seval,q6,qs6]);refine ab ?_;simp only[seval,fV];refine hR _ ⟨dn,trivial,?_⟩;rw[cR];exact bX
        ·have vo:j=ls.length:=(by omega);subst vo;refine bO ?_;show pu _ _ _ _ _ _ _;refine⟨l2,.busy,none,eV,_,97,#[64],_,_,N+2,by show (Q1 _ _++_)[_]?=_;rw[ql,tG],?_⟩;exact tP (oj ls.length) aco _ rQ (by rw[kL,Tn];exact lx)
      ·cases he;show (mR own q m t).2<65536;unfold mR;split
       ·exact hm
       ·obtain⟨n,lZ,MK,_⟩:=ht.num q (by rw[hw];exact hq);have HI:iN t q=n:=(by unfold iN;rw[SE,lZ];rfl);rw[HI];exact qb hm (xL (by omega))
      ·rcases SV.1 fj with h'|h'
       ·exact BJ v m.1 m'.1 (λz vH=>hz z (Ti _ vH)) z h'
       ·exact okm v m.2 m'.2 (λz vH=>hz z (S5 _ vH)) z h'
     refine dc (K1 (x:=w) (h:=h) (deep:=1) (ir:=C+3) (ih:=C+3+1) (id:=C+3+2) (σ:=(o,0)) Nv pK yE (λm L=> ?_) (λm L=> ?_) (λm L=> ?_) (λn=>by simp[jM]) (show (0:Nat)<65536 by decide) (λa ha=>ha.len) xh ?_)
     ·rw[SC];exact pb _ _ 3
     ·rw[SC];exact pb _ _ 4
     ·rw[SC];exact pb _ _ 5
     rw[Fc (g:=mR own q) (λ_ _=>rfl)];simp only[gg,SN];have e1:rH w y q o h=((iE w 1 h).foldl (mR own q) (o,0)).1:=(by unfold rH;rw[<- eF,if_neg fj]);generalize(iE w 1 h).foldl (mR own q) (o,0)=r at e1⊢;rw[e1]at dI;have IJ:∀o (L:List aa),(P1 o++L)[C+6]?=L[6]?:=λo L=>pb o L 6;refine⟨.ready,none,_,_,_,_,_,_,_,by rw[IJ];rfl,by decide,?_⟩;rw[BR,IM];(try simp only[seval]);show pu _ _ _ _ _ _ _;refine⟨l,.busy,none,fn,_,97,#[51],_,_,N+2,by show (P1 _++_)[_]?=_;rw[OL,lj],?_⟩;show cH C ((P1 _++_).set _ _) _ k;rw[O3];rw[SC]at dI;exact jE (G:=[.cells (h.map iv) 83,.cells [wv own] 79,.cells [wv r.2] 79,.cells w.l 76,.cells (h.map iv) 83,.cells [iv 1] 3,.gone]) (Wk.refl _) rfl (by rw[hC];simp[qB];omega) (okX _ o r.1 oI) (.val _) dI
   ·rcases SV.1 fj with h'|h'
    ·exact Oz m o o' (λz vH=>hz z (Ti _ vH)) z h'
    ·exact hz z (S5 _ h')
  refine dc (KZ (x:=w) (bt:=i) (ir:=N) (it:=N+1) (σ:=fo i) Nv hY (λo L=> ?_) (λo L=> ?_) qI (λn=>by simp[jM]) trivial (λa ha=>Lu a ha) ?_)
  ·rw[SC];exact ag _ _ 0
  ·rw[SC];exact ag _ _ 1
  rw[Fc (g:=rH w y q) (λ_ _=>rfl)];simp only[gg,SN];have hfx:(jW w i).foldl (rH w y q) (fo i)=fo (i+1):=by rw[wZ,wZ,py]
  rw[hfx];have zk:SD.wrap ((i:Int)+1)=((i+1:Nat):Int):=by rw[bc _ (by omega)];rfl
  refine⟨.ready,none,_,_,_,_,_,_,_,by show (AO _++_)[N+3]?=_;rw[ag];rfl,by decide,?_⟩;rw[show N+2+1=N+3 from rfl,uJ,IL];(try simp only[seval]);refine Ga ?_;refine ab ?_;simp only[seval,zk];refine⟨i+1,?_,by omega,dW (by push_cast;simp only[seval];simp[bk,Wk.refl]) (by rw[qA,pz,SC];rfl),by rw[x_,hN]⟩;show p+1-(i+1)<p+1-i;omega
 ·have dB:i=p+1:=by omega
  subst dB;refine bO ?_;have JM:∀o,(AO o)[H.length+6]?=some (.cells [iv o] 3):=λo=>by have:=a6 o [];rwa [SN]at this
  have mv:x.am.toNat=p:=by omega
  rw[mv]at hk;have aJ:=hk (fo (p+1)) (by rw[wZ,hw]);generalize fo (p+1)=o at aJ⊢;(try refine nE ?_);refine ab ?_;simp only[seval,JM];obtain⟨Y,wN⟩:=Qn w (Bo o) (p+1) [];rw[SN,dF]at wN;have hYo:iS (x_ (H.length+7) (p+1)) (AO o)=some (H++([.cells x.l 26,.cells [iv s] 3,.cells [iv q] 3,.cells x.l 26,.cells [.sl 1 [iv q] .exact] 22,.cells w.l 76,.cells [iv o] 3]++Y)):=by rw[qA,wN,kF,SC]
  (try refine nE ?_);refine aD ?_;refine⟨λho=> ?_,λho=> ?_⟩
  ·have bm:o<0:=(by simpa using ho);rw[if_pos bm,if_pos bm]at aJ;refine aj ?_;refine aX ?_;refine ew hYo ?_;(try simp only[seval]);exact iH hH (Wk.refl _) (by simp[jM,dZ]) aJ
  ·have bm:¬o<0:=(by simpa using ho);rw[if_neg bm,if_neg bm]at aJ;refine aF ?_;refine J3 ?_;have JM:∀o,(AO o)[H.length+6]?=some (.cells [iv o] 3):=λo=>(by have:=a6 o [];rwa [SN]at this);refine ab ?_;simp only[seval,JM];refine aX ?_;refine ew hYo ?_;(try simp only[seval]);exact iH hH (Wk.refl _) (by simp[jM,dZ]) aJ
end
open Go.Conc Go.Proofs Go.Gg.Tk
namespace Tk
def fO:ak:=⟨10,3,2,[⟨2,⟨12,13⟩⟩],[⟨⟨10,12⟩,⟨0,1⟩⟩,⟨⟨11,11⟩,⟨0,2⟩⟩,⟨⟨12,15⟩,⟨1,2⟩⟩],[⟨⟨12,12⟩,⟨0,2⟩⟩,⟨⟨10,15⟩,⟨2,2⟩⟩]⟩
def uo:ak:={fO with aC:=[⟨⟨15,15⟩,⟨0,0⟩⟩,⟨⟨10,15⟩,⟨2,2⟩⟩]}
end Tk
theorem ae8:gD (TA #[SF .i64 0,SF .i64 0,SF .i64 0]) 3=[iv 0,iv 0,iv 0]:=rfl
theorem ae7:gD (TA #[SF .i64 0,SF .i64 0,SF .i64 0,SF .i64 0]) 12=TO 12 (iv 0):=rfl
theorem ae6:gD (TA #[SF .i64 0,SF .i64 0,SF .i64 0,SF .i64 0]) 8=[iv 0,iv 0,iv 0,iv 0,iv 0,iv 0,iv 0,iv 0]:=rfl
theorem adq:TO 12 (iv 0)=[iv 0,iv 0,iv 0,iv 0,iv 0,iv 0,iv 0,iv 0,iv 0,iv 0,iv 0,iv 0]:=rfl
theorem ac0:(3<=2^24)=True:=eq_true (by decide)
theorem ac1:(8<=2^24)=True:=eq_true (by decide)
theorem acZ:(12<=2^24)=True:=eq_true (by decide)
section
variable {lv:Bool}{H:List aa}{k kp:AV->List aa->Prop}
theorem yn(hk:k fO.av H):ba lv SA 53 H [] k kp:=by
 refine bD (rs:=[.cell 0 26]) (nt:=11) asg λhH hA=> ?_;simp only[bp,SU];refine aj ?_;refine aj ?_;refine aK ((Sg (a:=2) (b:=12) (c:=13) ?_));(try simp only[seval,Seen.av,Seen.l,iQ.av,ae8,ac0]);refine aK ((rN (a:=10) (b:=12) (c:=0) (d:=1) ?_));(try simp only[seval]);refine aK ((rN (a:=11) (b:=11) (c:=0) (d:=2) ?_));(try simp only[seval]);refine aK ((rN (a:=12) (b:=15) (c:=1) (d:=2) ?_));(try simp only[seval,aB.av,aB.l,ae7,adq,acZ]);refine aK ((rN (a:=12) (b:=12) (c:=0) (d:=2) ?_));(try simp only[seval]);refine aK ((rN (a:=10) (b:=15) (c:=2) (d:=2) ?_));have bi:∀(L:List aa),(H++L)[H.length]?=L[0]?:=λL=>aZ H L 0;have dg:∀(L:List aa)(y:aa),(H++L).set H.length y=H++L.set 0 y:=λL y=>dH H L 0 y;(try simp only[seval,aB.av,aB.l,ae6,ac1,bi,dg]);refine oD ?_;simp only[seval,bi];refine iH hH (b:=fO.av) (Jg (.cons (Wk.refl _) (.cons (Wk.refl _) (.cons (Wk.refl _) (.cons (eQ _ _ _) (.cons (eQ _ _ _) (.cons (eQ _ _ _) .nil))))))) (by rw[EL];trivial) hk
theorem ajM(hk:∀X:aa,k (.agg [iv 10,iv 3,iv 2,.sl 1 (fO.seen.flatMap Seen.l) .exact,.sl 3 (fO.pieces.flatMap aB.l) .exact,.bA (H.length+1) 0 2 2]) (H++[X,.cells (fO.aC.flatMap aB.l) 48])):ba lv SA 53 H [] k kp:=by
 refine bD (rs:=[.cell 0 26]) (nt:=11) asg λhH hA=> ?_;simp only[bp,SU];refine aj ?_
 (repeat apply eT);refine agT 8 (by kernel_rfl) ?_
 simp only[seval];refine aK ((Sg (a:=2) (b:=12) (c:=13) ?_));(try simp only[seval,Seen.av,Seen.l,iQ.av,ae8,ac0]);refine aK ((rN (a:=10) (b:=12) (c:=0) (d:=1) ?_));(try simp only[seval]);refine aK ((rN (a:=11) (b:=11) (c:=0) (d:=2) ?_));(try simp only[seval]);refine aK ((rN (a:=12) (b:=15) (c:=1) (d:=2) ?_));(try simp only[seval,aB.av,aB.l,ae7,adq,acZ]);refine aK ((rN (a:=12) (b:=12) (c:=0) (d:=2) ?_));(try simp only[seval]);refine aK ((rN (a:=10) (b:=15) (c:=2) (d:=2) ?_));have bi:∀(L:List aa),(H++L)[H.length]?=L[0]?:=λL=>aZ H L 0;have dg:∀(L:List aa)(y:aa),(H++L).set H.length y=H++L.set 0 y:=λL y=>dH H L 0 y;(try simp only[seval,aB.av,aB.l,ae6,ac1,bi,dg]);refine oD ?_;simp only[seval,bi];exact ce (hk _)
theorem ajN(hk:k uo.av H):ba lv SA 54 H [] k kp:=by
 refine bD (rs:=[.cell 0 26]) (nt:=8) Tryz.f54 λhH hA=> ?_;simp only[bp,SU];have fJ:∀(L:List aa)(j:Nat),(H++L)[H.length+j]?=L[j]?:=λL j=>aZ H L j;have vC:∀(L:List aa)(j:Nat)(y:aa),(H++L).set (H.length+j) y=H++L.set j y:=λL j y=>dH H L j y;have bi:∀(L:List aa),(H++L)[H.length]?=L[0]?:=λL=>aZ H L 0;have dg:∀(L:List aa)(y:aa),(H++L).set H.length y=H++L.set 0 y:=λL y=>dH H L 0 y;refine aj ?_;refine aj ?_;refine aK ((ajM (λX=> ?_)));simp only[SC,Vs,UN];have kq:∀(L:List aa),(H++L)[H.length+2]?=L[2]?:=λL=>aZ H L 2;have fZ:∀(L:List aa)(y:aa),(H++L).set (H.length+2) y=H++L.set 2 y:=λL y=>dH H L 2 y;have rW:∀(L:List aa),(H++L)[H.length+3]?=L[3]?:=λL=>aZ H L 3;have pQ:∀(L:List aa)(y:aa),(H++L).set (H.length+3) y=H++L.set 3 y:=λL y=>dH H L 3 y;have hrx:fO.aC.flatMap aB.l=[iv 12,iv 12,iv 0,iv 2,iv 10,iv 15,iv 2,iv 2]:=rfl;rw[hrx];have e2:H.length+1+1=H.length+2:=rfl;(try simp only[seval,rW,pQ,e2]);refine ej 4 ?_;simp only[seval,kq,fZ,rW];refine gB _ (dc (rN (a:=15) (b:=15) (c:=0) (d:=0) ⟨rfl,rfl⟩)) ?_;(try simp only[seval,aB.av,aB.l,kq,fZ]);obtain⟨rs,Ef⟩:∃rs,rs=uo.aC.flatMap aB.l:=⟨_,rfl⟩;have amY:[AV.val (SF SD 15),AV.val (SF SD 15),AV.val (SF SD 0),AV.val (SF SD 0),AV.val (SF SD 10),AV.val (SF SD 15),AV.val (SF SD 2),AV.val (SF SD 2)]=rs:=by rw[Ef];rfl
 have ua:rs.length=8:=by rw[Ef];rfl
 rw[amY];refine ab ?_;simp only[seval,bi,dg,rW]
 (repeat apply eT);refine JY (id:=H.length+2) (by simp only[seval,kq]<;>rfl) ?_
 simp only[seval,fZ,ua]
 (repeat apply eT);refine JZ (id:=H.length) (j:=5) (y:=aN uo.aC) (by simp only[seval,bi]<;>rfl) rfl ?_ ?_
 ·have e:aN uo.aC=.sl 2 (rs.take 8) .shut:=by rw[SW (by omega),Ef];rfl
  rw[e];exact Jf (p:=8) (by simp only[seval,kq]<;>rfl) (by omega) (by omega)
 (try simp only[seval,dg]);refine oD ?_;simp only[seval,bi];refine iH hH (b:=uo.av) (Jg (.cons (Wk.refl _) (.cons (Wk.refl _) (.cons (Wk.refl _) (.cons (eQ _ _ _) (.cons (eQ _ _ _) (.cons (Wk.refl _) .nil))))))) (by rw[EL];trivial) hk
end
open Go.Gg.Tk
theorem zL:fO.Ok:=by
 refine⟨by decide,by decide,by decide,by decide,by decide,by decide,λs hs=> ?_,λy hy=> ?_,λy hy=> ?_⟩
 ·simp only[fO,S9]at hs;subst hs;exact⟨by decide,by decide,by decide,by decide⟩
 ·simp only[fO,SK,SZ,or_false]at hy;rcases hy with rfl|rfl|rfl<;>exact⟨⟨by decide,by decide,by decide⟩,⟨by decide,by decide,by decide⟩⟩
 ·simp only[fO,SK,SZ,or_false]at hy;rcases hy with rfl|rfl<;>exact⟨⟨by decide,by decide,by decide⟩,⟨by decide,by decide,by decide⟩⟩
theorem apl:uo.Ok:=by
 refine⟨by decide,by decide,by decide,by decide,by decide,by decide,λs hs=> ?_,λy hy=> ?_,λy hy=> ?_⟩
 ·simp only[uo,fO,S9]at hs;subst hs;exact⟨by decide,by decide,by decide,by decide⟩
 ·simp only[uo,fO,SK,SZ,or_false]at hy;rcases hy with rfl|rfl|rfl<;>exact⟨⟨by decide,by decide,by decide⟩,⟨by decide,by decide,by decide⟩⟩
 ·simp only[uo,SK,SZ,or_false]at hy;rcases hy with rfl|rfl<;>exact⟨⟨by decide,by decide,by decide⟩,⟨by decide,by decide,by decide⟩⟩
theorem ai2:cnt fO=4:=by kernel_rfl
theorem ai5:live fO=[[10,11,13,14],[10,11,13,15],[10,12,13,14],[10,12,13,15]]:=by kernel_rfl
theorem ai3:(bM fO).head?=some ⟨[10,11,13,14],[12,11,13],[0,2]⟩:=by kernel_rfl
theorem ai6:yc (ET fO 2) 10 16=[13,14]:=by kernel_rfl
theorem RS:q_ fO 0 0=true/\zE fO 0 0=false:=by decide+kernel
theorem RQ:Gz uo=some [0]:=by kernel_rfl
theorem ai0:py (fO.wo [1]) ⟨⟨10,15⟩,⟨2,2⟩⟩ 0 3=1:=by kernel_rfl
open Go.Conc Go.Proofs
theorem Tk.Bounds.of_map{l:List (List Int)}{g:List Int->List Int}{v w:List Int->Int}{a b:Int}(h:Bounds (l.map g) v a b)(e:∀y∈l,v (g y)=w y):Bounds l w a b:=by
 obtain⟨g1,m1,e1⟩:=h.H2;obtain⟨g2,m2,e2⟩:=h.HZ;obtain⟨y1,n1,rfl⟩:=Tf.1 m1;obtain⟨y2,n2,rfl⟩:=Tf.1 m2;exact⟨⟨y1,n1,e1.trans (e y1 n1)⟩,λy hy=>by rw[<- e y hy];exact h.le _ (Tf.2 ⟨y,hy,rfl⟩),⟨y2,n2,e2.trans (e y2 n2)⟩,λy hy=>by rw[<- e y hy];exact h.ge _ (Tf.2 ⟨y,hy,rfl⟩)⟩
theorem apN{h:List Int}{i:Nat}(hi:i<h.length):(cz h).getD i 0=h.getD i 0:=by
 unfold cz;rw[SE,SE,S0 hi]
theorem aon{x:ak}{h:List Int}(hm:h∈live x):h.length=1+x.hours.toNat:=Mu (Uz.1 hm).1
theorem aqf{x:ak}{D:Kn}(hx:x.Ok)(hD:fQ x 0 D)(hh:D.has=true){hs:List (List Int)}(hp:hs.Perm D.aL)(v:List Int->Int)(w:List Int->Int)(e:∀y∈live x,v (cz y)=w y):Bounds (live x) w (hs.foldl (λb h=>b.add (v h)) (⟨0,0,false⟩:ij)).lo (hs.foldl (λb h=>b.add (v h)) (⟨0,0,false⟩:ij)).hi:=by
 have cL:=hp.trans (abT hx hD);have aH:hs≠[]:=λh=>by
  rw[h]at cL;have:=cL.length_eq;rw[Ta]at this;have h0:live x=[]:=UI this.symm;rw[(zn hx hD).2 (acd.1 h0)]at hh;cases hh
 exact((ahx v aH).apv cL).of_map e
theorem N0{x:ak}{deep:Int}{D:Kn}(hx:x.Ok)(hD:fQ x deep D)(hh:D.has=true):bM x≠[]:=λh=>by
 rw[(zn hx hD).2 h]at hh;cases hh
theorem acn{α:Type}{f:Nat->α}{l:List α}{n:Nat}(d:α)(hl:l.length=n)(h:∀i,i<n->f i=l.getD i d):(SR n).map f=l:=by
 refine Yw λi=> ?_;rw[Tp];by_cases hi:i<n
 ·rw[XH hi,UW,h i hi,SE,SY (by omega)];rfl
 ·rw[Ux (by simp;omega),Ux (by omega)];rfl
theorem aiE{x:ak}(hx:x.Ok){u:Tr}(hu:u∈bM x){s:Nat}(hs:s<x.aC.length):(eB u).getD (8+s) 0=((u.bI.getD s 0:Nat):Int):=by
 obtain⟨h1,h2⟩:=xK hx hu;have h3:=(I9 hx hu).1;have hh:=hx.hours;have nY:=hx.ee;have h4:=zG (h:=u.aT) (by omega);have cj:s<u.bI.length:=by omega
 have hg:(eB u)[8+s]?=some ((u.bI[s]:Nat):Int):=by
  unfold eB dC lG;have h8:(cz u.aT++((u.az.map λn=>(n-u.aT.headD 0).toNat).map (λn:Nat=>(n:Int))++TO (4-(u.az.map λn=>(n-u.aT.headD 0).toNat).length) (-1))).length=8:=by simp[h4];omega
  rw[S_ (by omega),h8,T5,S0 (by simpa using cj),Tp,SY cj];rfl
 rw[SE,hg,SE,SY cj];rfl
theorem I8{x:ak}{u:Tr}(hu:u∈bM x):u.aT.headD 0=x.first:=by
 obtain⟨h,a,b⟩:=S4.1 hu;rw[v_ b];exact(Bc _ _ _ (by simp) a).2
theorem ako{x:ak}(hx:x.Ok){u:Tr}(hu:u∈bM x):(eB u).take (x.hours.toNat+1)=u.aT:=by
 have hl:=(xK hx hu).1;have hh:=hx.hours;have h1:(eB u).take (x.hours.toNat+1)=((eB u).take 4).take (x.hours.toNat+1):=by rw[Vd,WB (by omega)]
 rw[h1,KJ hx hu];exact OG (by omega)
theorem akp{x:ak}(hx:x.Ok){u:Tr}(hu:u∈bM x):tx x (eB u) x.pieces.length=u.az:=by
 unfold tx;refine acn 0 (xK hx hu).2 λi hi=> ?_;rw[aiC hx hu hi,I8 hu];omega
theorem akq{x:ak}(hx:x.Ok){u:Tr}(hu:u∈bM x):tz (eB u) x.aC.length=u.bI.map λn:Nat=>(n:Int):=by
 unfold tz;refine acn 0 (by rw[Ta];exact(I9 hx hu).1) λi hi=> ?_;have hl:=(I9 hx hu).1;rw[aiE hx hu hi,SE,SE,Tp,SY (by omega)];rfl
section
variable {H:List aa}{k kp:AV->List aa->Prop}{x:ak}
theorem aju(hx:x.Ok)(hm:H[0]?=some .main)(hk:k (.aQ [iv (cnt x),iv 0]) H):ba true SA 21 H [x.av] k kp:=
 ajt hx hm λD hD=>by rw[count_eq hx hD];exact hk
theorem ajG{hour:Nat}(hx:x.Ok)(hh:(hour:Int)<=x.hours)(hm:H[0]?=some .main)(h0:bM x=[]->k (.aQ [.agg [iv 0,iv 0],iv 11]) H)(h1:∀lo hi,bM x≠[]->Bounds (live x) (λh=>h.getD hour 0) lo hi->k (.aQ [.agg [iv lo,iv hi],iv 0]) H):ba true SA 36 H [x.av,iv hour] k kp:=
 ajF hx hh hm λD hD=>⟨λhn=>h0 ((zn hx hD).1 hn),λhy hs hp=>h1 _ _ (N0 hx hD hy) (aqf hx hD hy hp (λh=>h.getD hour 0) _ λy pZ=>apN (by rw[aon pZ];have:=hx.hours;omega))⟩
theorem ajE{q:Nat}(hx:x.Ok)(hq:q<x.pieces.length)(hm:H[0]?=some .main)(h0:bM x=[]->k (.aQ [aM [],iv 11]) H)(h1:bM x≠[]->k (.aQ [aM (yc (ET x q) x.first 16),iv 0]) H):ba true SA 34 H [x.av,iv q] k kp:=
 ajD hx hq hm λD hD=>⟨λhn=>h0 ((zn hx hD).1 hn),λhy=>by rw[ab8 λn _=>api hx hD hq n];exact h1 (N0 hx hD hy)⟩
theorem R9{s q:Nat}(hx:x.Ok)(hs:s<x.aC.length)(hq:q<x.pieces.length)(hm:H[0]?=some .main)(hk:k (.aQ [iv (if(bM x).isEmpty then 0 else vM (q_ x s q) (zE x s q)),iv (if(bM x).isEmpty then 11 else 0)]) H):ba true SA 28 H [x.av,iv s,iv q] k kp:=
 ajA hx hs hq hm λD hD=>by rw[apQ hx hD hs,ahe hx hD];exact hk
def Di (x:ak)(i:Nat):List Int:=(SR i).flatMap λs=>if 1<(yc (q_ x s) 0 16).length then[-1]else yc (q_ x s) 0 16
theorem ajx(hx:x.Ok)(hm:H[0]?=some .main)(h0:bM x=[]->k (.aQ [aM [],iv 11]) H)(h1:bM x≠[]->k (.aQ [aM (Di x x.aC.length),iv 0]) H):ba true SA 26 H [x.av] k kp:=
 ajw hx hm λD hD=>⟨λhn=>h0 ((zn hx hD).1 hn),λhy=>by
  have e:uW D.aW x.aC.length=Di x x.aC.length:=by
   unfold uW Di;refine uV λs hs=> ?_;rw[ab8 λn _=>OH hx hD (TG.1 hs) n]
  rw[e];exact h1 (N0 hx hD hy)⟩
theorem ajr(hx:x.Ok)(hm:H[0]?=some .main)(h0:bM x=[]->k (.aQ [aM [],aM [],aM [],iv 11]) H)(h1:∀u l,bM x=u::l->k (.aQ [aM u.aT,aM u.az,aM (u.bI.map λn:Nat=>(n:Int)),iv 0]) H):ba true SA 18 H [x.av] k kp:=
 ajq hx hm λD hD=>⟨λhn=>h0 ((zn hx hD).1 hn),λhy=>by
  obtain⟨u,l,e1,e2⟩:=anD hx hD hy;have hu:u∈bM x:=by rw[e1];simp
  rw[e2,ako hx hu,akp hx hu,akq hx hu];exact h1 u l e1⟩
end
section
variable {lv:Bool}{H:List aa}{k kp:AV->List aa->Prop}
end
end Go.Gg
namespace Go.Gg.Tk
theorem zr{h pre:List Int}(hp:pre≠[])(ht:h.take pre.length=pre):pre.getLastD 0=h.getD (pre.length-1) 0:=by
 have hl:0<pre.length:=VB.2 hp;have e:pre[pre.length-1]?=h[pre.length-1]?:=by
  have:(h.take pre.length)[pre.length-1]?=pre[pre.length-1]?:=by rw[ht]
  rw[<- this,Ui,if_pos (by omega)]
 rw[SE,<- e,U_,WT]
def Good (x:ak)(k:Nat)(h:List Int):Prop:=∀j,k<=j->j<h.length->mH x j (h.getD j 0)=true/\(j+1<h.length->∃n:Nat,n<x.am.toNat+1/\h.getD (j+1) 0=h.getD j 0+n)
theorem B8{h pre:List Int}{v:Int}:h.take (pre.length+1)=pre++[v]<->h.take pre.length=pre/\pre.length<h.length/\h.getD pre.length 0=v:=by
 constructor
 ·intro e;have hl:pre.length+1<=h.length:=by
   have:=congrArg XZ e;rw[TC,SQ,TH]at this;omega
  have h1:=congrArg (Uh pre.length) e;rw[Vd,TB (SO _),Tn,WB (by omega)]at h1;refine⟨h1,by omega,?_⟩;have h2:(h.take (pre.length+1))[pre.length]?=(pre++[v])[pre.length]?:=by rw[e]
  rw[Ui,if_pos (by omega),S_ (SO _),Vp]at h2;rw[SE,h2];rfl
 ·rintro⟨h1,h2,h3⟩
  rw[Uo,h1];congr 1;rw[SE,SY h2]at h3;rw[SY h2,<- h3];rfl
theorem Mt{x:ak}:∀(d:Nat)(pre h:List Int),pre≠[]->(h∈jm x d pre<->h.length=pre.length+d/\h.take pre.length=pre/\Good x (pre.length-1) h)
 |0,pre,h,hp=>by
  have hl:0<pre.length:=VB.2 hp;unfold jm;constructor
  ·intro hm;split at hm
   ·rename_i hs;rw[S9]at hm;subst hm;refine⟨rfl,Tn,λj h1 h2=> ?_⟩;have:j=h.length-1:=(by omega);subst this;rw[zr hp Tn]at hs;exact⟨hs,λh=>by omega⟩
   ·cases hm
  ·rintro⟨h1,h2,h3⟩
   have e:h=pre:=(by rw[<- h2,SW (by omega)]);subst e;have:=(h3 (h.length-1) (SO _) (by omega)).1;rw[<- zr hp Tn]at this;rw[if_pos this];simp
 |d+1,pre,h,hp=>by
  have hl:0<pre.length:=VB.2 hp;unfold jm;constructor
  ·intro hm;split at hm
   ·rename_i hs;obtain⟨n,hn,hm⟩:=S4.1 hm;rw[Mt d _ h (by simp)]at hm;obtain⟨h1,h2,h3⟩:=hm;rw[SQ,TH]at h1 h2 h3;obtain⟨h4,h5,h6⟩:=B8.1 h2;rw[zr hp h4]at hs h6;refine⟨by omega,h4,λj yX Hh=> ?_⟩;by_cases hj:j=pre.length-1
    ·subst hj;refine⟨hs,λ_=>⟨n,TG.1 hn,?_⟩⟩;rw[show pre.length-1+1=pre.length by omega];exact h6
    ·exact h3 j (by omega) Hh
   ·cases hm
  ·rintro⟨h1,h2,h3⟩
   obtain⟨hs,aP⟩:=h3 (pre.length-1) (SO _) (by omega);obtain⟨n,hn,he⟩:=aP (by omega);rw[show pre.length-1+1=pre.length by omega]at he;rw[zr hp h2,if_pos hs];refine S4.2 ⟨n,TG.2 hn,?_⟩;rw[Mt d _ h (by simp),SQ,TH];exact⟨by omega,B8.2 ⟨h2,by omega,he⟩,λj yX Hh=>h3 j (by omega) Hh⟩
theorem ao0{h:List Int}(hm:∀j,j+1<h.length->h.getD j 0<=h.getD (j+1) 0):qk h:=by
 induction h with
 |nil=>trivial
 |cons a l ih=>
  cases l with
  |nil=>trivial
  |cons b l=>
   refine⟨?_,ih λj hj=> ?_⟩
   ·have:=hm 0 (by simp);simpa using this
   ·have:=hm (j+1) (by simp at hj⊢;omega);simpa using this
theorem aeD{n:Int}:∀(h:List Int)(i:Nat),qk h->(0<=fE i h n<->h.headD 0<=n/\n<h.getLastD 0)
 |[],i,_=>by simp[fE]<;>omega
 |[a],i,_=>by simp[fE]<;>omega
 |a::b::l,i,hm=>by
  obtain⟨h1,h2⟩:=hm;have ih:=aeD (n:=n) (b::l) (i+1) h2;have vr:(a::b::l).getLastD 0=(b::l).getLastD 0:=by simp[ZC]
  rw[vr];unfold fE;split
  ·rename_i h;have cO:b<=(b::l).getLastD 0:=acv h2;constructor
   ·intro _;exact⟨h.1,by omega⟩
   ·intro _;omega
  ·rename_i h;rw[ih];have e1:(a::b::l).headD 0=a:=rfl;have e2:(b::l).headD 0=b:=rfl;rw[e1,e2];omega
where
 acv {b:Int}:∀{l:List Int},qk (b::l)->b<=(b::l).getLastD 0
  |[],_=>by simp
  |c::l,hm=>by
   obtain⟨h1,h2⟩:=hm;have:=acv h2;have e:(b::c::l).getLastD 0=(c::l).getLastD 0:=(by simp[ZC]);rw[e];omega
theorem PC{h:List Int}{n:Int}(hm:qk h):0<=jw h n<->h.headD 0<=n/\n<h.getLastD 0:=aeD h 0 hm
theorem aeF{n:Int}:∀(h:List Int)(i:Nat),0<=fE i h n->fE i h n+1<i+h.length
 |[],i,h=>by simp[fE]at h
 |[a],i,h=>by simp[fE]at h
 |a::b::l,i,h=>by
  unfold fE at h⊢;split
  ·simp;omega
  ·rename_i hn;rw[if_neg hn]at h;have:=aeF (b::l) (i+1) h;simp at this⊢;omega
theorem K8{h:List Int}{y:aB}{n:Int}(hm:qk h)(hf:fits h y n=true):n∈zC h:=by
 unfold fits at hf;simp only[Te,decide_eq_true_eq]at hf;obtain⟨h1,h2⟩:=(PC hm).1 hf.1.1;unfold zC;refine Tf.2 ⟨(n-h.headD 0).toNat,TG.2 (by omega),by omega⟩
theorem aao{α:Type}[DecidableEq α]{l:List α}{d:α}{i:Nat}(hi:i<l.length):l.Nodup->l.getD i d∉l.take i:=λhn hm=>by
 obtain⟨j,hj⟩:=Va hm;rw[Ui]at hj;split at hj
 ·rename_i cx;rw[SE,SY hi,SY (by omega)]at hj;simp only[S8,Tm]at hj;have h2:=Uv.1 hn;exact(Yl.1 h2) j i (by omega) hi cx hj
 ·cases hj
theorem acB{α:Type}{l:List α}{d:α}(h:∀i,i<l.length->l.getD i d∉l.take i):l.Nodup:=by
 rw[Uv,Yl];intro i j hi hj kx e;refine h j hj ?_;rw[SE,SY hj,S8,<- e];exact UY.2 ⟨i,by rw[Ui,if_pos kx,SY hi]⟩
theorem I6{α:Type}{d:α}{h pre:List α}{v:α}:h.take (pre.length+1)=pre++[v]<->h.take pre.length=pre/\pre.length<h.length/\h.getD pre.length d=v:=by
 constructor
 ·intro e;have hl:pre.length+1<=h.length:=by
   have:=congrArg XZ e;rw[TC,SQ,TH]at this;omega
  have h1:=congrArg (Uh pre.length) e;rw[Vd,TB (SO _),Tn,WB (by omega)]at h1;refine⟨h1,by omega,?_⟩;have h2:(h.take (pre.length+1))[pre.length]?=(pre++[v])[pre.length]?:=by rw[e]
  rw[Ui,if_pos (by omega),S_ (SO _),Vp]at h2;rw[SE,h2];rfl
 ·rintro⟨h1,h2,h3⟩
  rw[Uo,h1];congr 1;rw[SE,SY h2]at h3;rw[SY h2,<- h3];rfl
theorem Iw{h:List Int}(hm:qk h):∀(ys:List aB)(t ns:List Int),ns∈lF h ys t<->ns.length=t.length+ys.length/\ns.take t.length=t/\∀i y,ys[i]?=some y->fits h y (ns.getD (t.length+i) 0)=true/\ns.getD (t.length+i) 0∉ns.take (t.length+i)
 |[],t,ns=>by
  simp only[lF,S9,UA,UJ];constructor
  ·rintro rfl;exact⟨rfl,Tn,λi y hy=>by cases hy⟩
  ·rintro⟨h1,h2,_⟩;rw[<- h2,SW (by omega)]
 |y::ys,t,ns=>by
  simp only[lF,S4,Uz,Te,TZ,Un];constructor
  ·rintro⟨n,⟨_,hf,ht⟩,fY⟩
   rw[Iw hm ys (t++[n]) ns]at fY;obtain⟨h1,h2,h3⟩:=fY;rw[SQ,TH]at h1 h2 h3;obtain⟨h4,h5,h6⟩:=(I6 (d:=0)).1 h2;refine⟨by omega,h4,λi z hz=> ?_⟩
   match i,hz with
   |0,hz=>
    cases hz;rw[UJ,h6,h4];refine⟨hf,?_⟩;intro hc;rw[Ut]at ht;simp at ht;exact ht hc
   |i+1,hz=>
    have:=h3 i z hz;rw[show t.length+1+i=t.length+(i+1) by omega]at this;exact this
  ·rintro⟨h1,h2,h3⟩
   obtain⟨hf,hn⟩:=h3 0 y rfl;rw[UJ]at hf hn;rw[h2]at hn;refine⟨ns.getD t.length 0,⟨K8 hm hf,hf,by rw[Ut];simpa using hn⟩,?_⟩;rw[Iw hm ys _ ns,SQ,TH];refine⟨by omega,(I6 (d:=0)).2 ⟨h2,by omega,rfl⟩,λi z hz=> ?_⟩;have:=h3 (i+1) z hz;rw[show t.length+(i+1)=t.length+1+i by omega]at this;exact this
theorem II{h ns:List Int}:∀(ss:List aB)(t os:List Nat),os∈nc h ns ss t<->os.length=t.length+ss.length/\os.take t.length=t/\∀i s,ss[i]?=some s->fits h s (ns.getD (os.getD (t.length+i) 0) 0)=true/\os.getD (t.length+i) 0<ns.length/\os.getD (t.length+i) 0∉os.take (t.length+i)
 |[],t,os=>by
  simp only[nc,S9,UA,UJ];constructor
  ·rintro rfl;exact⟨rfl,Tn,λi y hy=>by cases hy⟩
  ·rintro⟨h1,h2,_⟩;rw[<- h2,SW (by omega)]
 |s::ss,t,os=>by
  simp only[nc,S4,Uz,Te,TZ,Un,TG];constructor
  ·rintro⟨n,⟨hlt,hf,ht⟩,fY⟩
   rw[II ss (t++[n]) os]at fY;obtain⟨h1,h2,h3⟩:=fY;rw[SQ,TH]at h1 h2 h3;obtain⟨h4,h5,h6⟩:=(I6 (d:=0)).1 h2;refine⟨by omega,h4,λi z hz=> ?_⟩
   match i,hz with
   |0,hz=>
    cases hz;rw[UJ,h6,h4];refine⟨hf,hlt,?_⟩;intro hc;rw[Ut]at ht;simp at ht;exact ht hc
   |i+1,hz=>
    have:=h3 i z hz;rw[show t.length+1+i=t.length+(i+1) by omega]at this;exact this
  ·rintro⟨h1,h2,h3⟩
   obtain⟨hf,hlt,hn⟩:=h3 0 s rfl;rw[UJ]at hf hlt hn;rw[h2]at hn;refine⟨os.getD t.length 0,⟨hlt,hf,by rw[Ut];simpa using hn⟩,?_⟩;rw[II ss _ os,SQ,TH];refine⟨by omega,(I6 (d:=0)).2 ⟨h2,by omega,rfl⟩,λi z hz=> ?_⟩;have:=h3 (i+1) z hz;rw[show t.length+(i+1)=t.length+1+i by omega]at this;exact this
end Go.Gg.Tk
namespace Go.Gg
open Go.Gg.Tk
namespace Tk
structure Cq (x:ak)(u:Tr):Prop where
 aT:ni x.first x.am u.aT x.hours.toNat
 seen:∀s∈x.seen,gQ s.next (u.aT.getD s.hour.toNat 0)=true
 vW:u.az.length=x.pieces.length
 piece:∀(p:Nat) y,x.pieces[p]?=some y->fits u.aT y (u.az.getD p 0)=true
 Iu:u.az.Nodup
 xy:u.bI.length=x.aC.length
 own:∀v∈u.bI,v<x.pieces.length
 stub:∀(s:Nat) y,x.aC[s]?=some y->fits u.aT y (u.az.getD (u.bI.getD s 0) 0)=true
 IH:u.bI.Nodup
theorem _root_.Go.Gg.ni.mono{first am:Int}{l:List Int}{i:Nat}(h:ni first am l i):qk l:=ao0 λj hj=>(h.step j (by have:=h.len;omega)).1
theorem al1{x:ak}(hx:x.Ok){h:List Int}:h∈aL x<->ni x.first x.am h x.hours.toNat/\∀s∈x.seen,gQ s.next (h.getD s.hour.toNat 0)=true:=by
 have hp:=hx.am;unfold aL;rw[Mt _ _ _ (by simp)];simp only[TH];constructor
 ·rintro⟨h1,h2,h3⟩
  have h4:=(B8 (pre:=[]) (v:=x.first)).1 h2;refine⟨⟨by omega,h4.2.2,λj hj=> ?_⟩,λs hs=> ?_⟩
  ·obtain⟨n,hn,e⟩:=(h3 j (by omega) (by omega)).2 (by omega);omega
  ·have HF:=(hx.seen s hs).1;have:=(h3 s.hour.toNat (by omega) (by omega)).1;unfold mH at this;have:=Tu.1 this s hs;have e:s.hour=(s.hour.toNat:Int):=(by omega);rw[<- e]at this;simpa using this
 ·rintro⟨h1,h2⟩
  have hl:=h1.len;refine⟨by omega,(B8 (pre:=[]) (v:=x.first)).2 ⟨rfl,by simp;omega,h1.head⟩,λj _ hj=>⟨?_,λHh=> ?_⟩⟩
  ·unfold mH;rw[Tu];intro s hs;by_cases e:s.hour=(j:Int)
   ·have:=h2 s hs;rw[show s.hour.toNat=j by omega]at this;rw[this];simp
   ·simp[e]
  ·have:=h1.step j (by omega);exact⟨(h.getD (j+1) 0-h.getD j 0).toNat,by omega,by omega⟩
theorem atM{x:ak}{u:Tr}:u∈bM x<->u.aT∈aL x/\u.az∈lF u.aT x.pieces []/\u.bI∈nc u.aT u.az x.aC []:=by
 constructor
 ·intro hu;obtain⟨h,a,b⟩:=S4.1 hu;obtain⟨ns,c,d⟩:=S4.1 b;obtain⟨os,e,rfl⟩:=Tf.1 d;exact⟨a,c,e⟩
 ·rintro⟨a,b,c⟩
  exact S4.2 ⟨u.aT,a,S4.2 ⟨u.az,b,Tf.2 ⟨u.bI,c,rfl⟩⟩⟩
theorem aan{l:List Nat}{i:Nat}(h:i<l.length):l.getD i 0∈l:=by
 rw[SE,SY h];exact Ww h
theorem BF{x:ak}(hx:x.Ok){u:Tr}:u∈bM x<->Cq x u:=by
 rw[atM,al1 hx];constructor
 ·rintro⟨⟨h1,h2⟩,h3,h4⟩
  have hm:=h1.mono;rw[Iw hm]at h3;rw[II]at h4;simp only[UA,Wv]at h3 h4;obtain⟨a1,_,a3⟩:=h3;obtain⟨b1,_,b3⟩:=h4;refine⟨h1,h2,a1,λp y hy=>(a3 p y hy).1,acB (d:=0) λi hi=> ?_,b1,λv hv=> ?_,λs y hy=>(b3 s y hy).1,acB (d:=0) λi hi=> ?_⟩
  ·obtain⟨y,hy⟩:∃y,x.pieces[i]?=some y:=⟨_,SY (by omega)⟩;exact(a3 i y hy).2
  ·obtain⟨i,hi⟩:=Va hv;have br:=(SL.1 hi).1;obtain⟨y,hy⟩:∃y,x.aC[i]?=some y:=⟨_,SY (by omega)⟩;have:=(b3 i y hy).2.1;rw[SE,hi]at this;rw[<- a1];exact this
  ·obtain⟨y,hy⟩:∃y,x.aC[i]?=some y:=⟨_,SY (by omega)⟩;exact(b3 i y hy).2.2
 ·intro h;refine⟨⟨h.aT,h.seen⟩,?_,?_⟩
  ·rw[Iw h.aT.mono];simp only[UA,Wv];refine⟨h.vW,rfl,λi y hy=>⟨h.piece i y hy,aao ?_ h.Iu⟩⟩;have:=(SL.1 hy).1;rw[h.vW];exact this
  ·rw[II];simp only[UA,Wv];refine⟨h.xy,rfl,λi y hy=> ?_⟩;have hi:=(SL.1 hy).1;have vg:i<u.bI.length:=(by rw[h.xy];exact hi);exact⟨h.stub i y hy,by rw[h.vW];exact h.own _ (aan vg),aao vg h.IH⟩
end Tk
open Go.Gg.Tk
theorem xn{first am:Int}{l:List Int}{i:Nat}(h:ni first am l i):l.getLastD 0=l.getD i 0:=by
 have hl:=h.len;rw[U_,WT,SE,hl];rfl
theorem A7{first am:Int}{l:List Int}{i:Nat}(h:ni first am l i):l.headD 0=first:=by
 have hl:=h.len;have:=h.head;cases l with
 |nil=>cases hl
 |cons a l=>exact this
theorem ni.top{first am:Int}{l:List Int}{i:Nat}(h:ni first am l i)(hf:0<=first/\first<=90)(hp:1<=am/\am<=3)(hi:i<=3):∀j,j<=i->first<=l.getD j 0/\l.getD j 0<=first+9:=λj hj=>by
 have h1:=h.ge (by omega) j hj;have:am* (j:Int)<=3* 3:=Yo (by omega) (by omega) (by omega) (by omega);generalize am* (j:Int)=q at h1 this;omega
theorem LO{first am:Int}{l:List Int}{i:Nat}(h:ni first am l i)(hi:1<=i/\i<=3)(hf:0<=first/\first<=90)(hp:1<=am/\am<=3){n:Int}(hn:first<=n/\n<l.getD i 0)(τ:bh):FR l i n (lP τ l n i):=by
 have hl:=h.len;have hm:=h.mono;have ht:=h.top hf hp hi.2 i (SO _);have hk:=aeG (n:=n) (by omega) (by omega) hm;have h0:0<=jw l n:=(PC hm).2 (by rw[A7 h,xn h];exact hn);have h1:=aeF l 0 h0;have Lq:jw l n+1<l.length:=by have:fE 0 l n=jw l n:=rfl;omega
 have a1:=CO (τ:=τ) (n:=n) (m:=2) (lo:=0) (hi:=99) (by omega) (by omega);have a2:=CO (τ:=tick (tick τ)) (n:=jw l n) (m:=1) (lo:=0) (hi:=(i:Int)-1) (by omega) (by omega);refine⟨a1.1,?_,?_⟩
 ·unfold lP;rw[hk];exact a2.1
 ·unfold Tk.fits lP;rw[hk,Te,Te,decide_eq_true_eq];exact⟨⟨h0,a1.2⟩,a2.2⟩
variable {pm:Nat}{x:ak}{aT az bI:List Int}
theorem Made.aaA(h:Made pm x aT az bI){n:Int}(hn:n∈az)(τ:bh):FR aT x.hours n (lP τ aT n x.hours):=by
 have hh:=h.hours;have:=LO h.Hc (by omega) h.first h.am (h.num n hn) τ;rw[Int.toNat_of_nonneg (by omega)]at this;exact this
theorem AM{l:List Int}{i:Nat}(h:i<l.length):l.getD i 0∈l:=by
 rw[SE,SY h];exact Ww h
theorem Made.Qt(h:Made pm x aT az bI){p:Nat}{y:aB}(hy:x.pieces[p]?=some y):FR aT x.hours (az.getD p 0) y:=by
 obtain⟨τ,rfl⟩:=h.piece p y hy;exact h.aaA (AM (by rw[h.vW];exact(SL.1 hy).1)) τ
theorem Made.Qu(h:Made pm x aT az bI){s:Nat}{y:aB}(hy:x.aC[s]?=some y):FR aT x.hours (az.getD (bI.getD s 0).toNat 0) y:=by
 obtain⟨τ,rfl⟩:=h.stub s y hy;have hs:s<bI.length:=by rw[h.xy];exact(SL.1 hy).1
 have:=h.own _ (AM hs);exact h.aaA (AM (by omega)) τ
theorem Made.ok(h:Made pm x aT az bI)(tY:pm<=4):x.Ok:=by
 have hh:=h.hours;refine⟨h.first,h.hours,h.am,by have:=h.xE;omega,by have:=h.ao1;omega,h.aC,λs hs=> ?_,λy hy=> ?_,λy hy=> ?_⟩
 ·obtain⟨h1,h2,τ,h3⟩:=h.seen s hs;have ht:=h.Hc.top h.first h.am (by omega) s.hour.toNat (by omega);have hf:=h.first;rw[h3];exact⟨⟨h1,h2⟩,(CO (by omega) (by omega)).1⟩
 ·obtain⟨p,hp⟩:=Va hy;have:=h.Qt hp;exact⟨this.num,this.hour⟩
 ·obtain⟨p,hp⟩:=Va hy;have:=h.Qu hp;exact⟨this.num,this.hour⟩
def adl (aT az bI:List Int):Tr:=⟨aT,az,bI.map Yi⟩
theorem Made.atH(h:Made pm x aT az bI):Cq x (adl aT az bI):=by
 have hh:=h.hours;have pO:∀s,s<bI.length->(bI.map Yi).getD s 0=(bI.getD s 0).toNat:=λs hs=>by
  rw[SE,SE,Tp,SY hs];rfl
 refine⟨h.Hc,λs hs=> ?_,h.vW,λp y hy=>(h.Qt hy).fits,h.Iu,by show (bI.map Yi).length=_;rw[Ta];exact h.xy,λv hv=> ?_,λs y hy=> ?_,?_⟩
 ·obtain⟨h1,h2,τ,h3⟩:=h.seen s hs;have ht:=h.Hc.top h.first h.am (by omega) s.hour.toNat (by omega);have hf:=h.first;rw[h3];exact(CO (by show _<=aT.getD _ _/\_;omega) (by omega)).2
 ·obtain⟨w,hw,rfl⟩:=Tf.1 hv;have:=h.own w hw;have:=h.vW;omega
 ·have hs:s<bI.length:=by rw[h.xy];exact(SL.1 hy).1
  show Tk.fits aT y (az.getD ((bI.map Yi).getD s 0) 0)=true;rw[pO s hs];exact(h.Qu hy).fits
 ·show (bI.map Yi).Nodup;rw[Uv,XF];refine XD ?_ (Uv.1 h.IH);intro a c ha hc aH e;have h1:=h.own a ha;have h2:=h.own c hc;omega
theorem Made.mem(h:Made pm x aT az bI)(tY:pm<=4):adl aT az bI∈bM x:=(BF (h.ok tY)).2 h.atH
theorem Made.ne(h:Made pm x aT az bI)(tY:pm<=4):bM x≠[]:=λe=>by
 have:=h.mem tY;rw[e]at this;cases this
variable {x:ak}
namespace Tk
end Tk
variable {x:ak}
open Go.Gg.Tk
variable {x:ak}
theorem acG(hx:x.Ok){u:Tr}(hu:Cq x u){p:Nat}(hp:p<x.pieces.length):x.first<=u.az.getD p 0/\u.az.getD p 0<x.first+9:=by
 have hf:=hu.piece p _ (SY hp);unfold Tk.fits at hf;rw[Te,Te,decide_eq_true_eq]at hf;have h:=(PC hu.aT.mono).1 hf.1.1;rw[A7 hu.aT,xn hu.aT]at h;have hh:=hx.hours;have:=hu.aT.top hx.first hx.am (by omega) x.hours.toNat (SO _);omega
namespace Tk
def Fj (x:ak)(p:Nat)(y:aB):ak:={x with pieces:=x.pieces.set p y}
end Tk
variable {x:ak}
open Go.Conc Go.Proofs Go.Gg.Tk
theorem adQ{ys:List aB}{p:Nat}{y:aB}{s:Nat}{l:List AV}(hp:p<ys.length)(e:y.l=l):Uh (p* 4) (ys.flatMap aB.l)++l++TR (p* 4+4) (ys.flatMap aB.l)=(ys.set p y).flatMap aB.l:=by
 subst e;rw[XY,if_pos hp,Uk,TW,Lg aB.len,show p* 4+4=(p+1)* 4 by omega,yq aB.len,SC]
theorem ar5{ys:List aB}{p:Nat}{y:aB}(hy:ys[p]?=some y)(a b:Int):Uh (p* 4+0) (ys.flatMap aB.l)++[iv a,iv b]++TR (p* 4+0+2) (ys.flatMap aB.l)=(ys.set p ⟨⟨a,b⟩,y.hour⟩).flatMap aB.l:=by
 obtain⟨hp,rfl⟩:=SL.1 hy;rw[<- adQ (s:=0) (p:=p) (y:=⟨⟨a,b⟩,ys[p].hour⟩) hp rfl];have e:TR (p* 4+2) (ys.flatMap aB.l)=iv ys[p].hour.min::iv ys[p].hour.max::TR (p* 4+4) (ys.flatMap aB.l):=by
  have h1:TR (p* 4) (ys.flatMap aB.l)=ys[p].l++TR (p* 4+4) (ys.flatMap aB.l):=by
   rw[yq aB.len,show p* 4+4=(p+1)* 4 by omega,yq aB.len,T4 hp,TW]
  rw[<- ar_,h1];rfl
 rw[UJ,e];simp[aB.l,iQ.l]
section
variable {lv:Bool}{P:SI}{r:Option Nat}
theorem agQ{nt:Nat}{c:Uc}{T:List (Nat×AV)}{H:List aa}{BA o4 j cap:Nat}{ps:List aB}{l:List AV}{el:TypeId}{Φ:an->AS->Prop}(h1:H[BA]?=some (.own 4 (ps.flatMap aB.l) 48))(h2:H[o4]?=some (.cells l el))(aH:BA≠o4)(h3:l[j]?=some (.bA BA 0 ps.length cap))(h:aR lv P r nt c ⟨T,(H.set BA (.part (ps.length* 4) (ps.flatMap aB.l) 48)).set o4 (.cells (l.set j (aN ps)) el)⟩ Φ):aR lv P r nt c ⟨T,H⟩ Φ:=by
 have hl:(ps.flatMap aB.l).length=ps.length* 4:=xq aB.len _;refine agR (id:=BA) h1 ?_;have hlt:=(SL.1 h1).1;refine JZ (id:=o4) (j:=j) (y:=aN ps) (el:=el) (by rw[Ud aH];exact h2) h3 ?_ ?_
 ·have e:aN ps=.sl ps.length ((ps.flatMap aB.l).take (ps.length* 4)) .shut:=by rw[SW (by omega)];rfl
  rw[e];exact Jf (p:=(ps.flatMap aB.l).length) (l:=ps.flatMap aB.l) (el:=48) (by rw[UX,if_pos rfl,if_pos hlt]) (by omega) (by omega)
 ·rw[hl];exact h
end
def wi (i:Int)(y:aB):Prop:=sU y.number 99/\sU y.hour (i-1)
theorem ar4{ys:List aB}{p:Nat}{y:aB}(hy:ys[p]?=some y)(a b:Int):Uh (p* 4+2) (ys.flatMap aB.l)++[iv a,iv b]++TR (p* 4+2+2) (ys.flatMap aB.l)=(ys.set p ⟨y.number,⟨a,b⟩⟩).flatMap aB.l:=by
 obtain⟨hp,rfl⟩:=SL.1 hy;rw[<- adQ (s:=0) (p:=p) (y:=⟨ys[p].number,⟨a,b⟩⟩) hp rfl];have e:Uh (p* 4+2) (ys.flatMap aB.l)=Uh (p* 4) (ys.flatMap aB.l)++[iv ys[p].number.min,iv ys[p].number.max]:=by
  have h1:TR (p* 4) (ys.flatMap aB.l)=ys[p].l++TR (p* 4+4) (ys.flatMap aB.l):=by
   rw[yq aB.len,show p* 4+4=(p+1)* 4 by omega,yq aB.len,T4 hp,TW]
  rw[List.take_add,h1];rfl
 rw[e,show p* 4+2+2=p* 4+4 from rfl];simp[aB.l,iQ.l]
section
variable {lv:Bool}{Gf:bh->List aa}{t N:Nat}{b:Int}
theorem ajl{i mn np ns c:Nat}{first am:Int}{sv pv EY EQ pL:AV}{gP:List aa}{db:List aB}{ρ:bh}{zc:aa}{YY:List AV->Nat->Nat->Nat->List aa}{Φ:an->AS->Prop}(hT:dM Gf t N)(hY:YW Gf N zc YY)(yR:gP.length=np)(hb:b<2^10)(oR:0<=first/\first<=90)(nU:mn<=9)(iz:ns<=3)(cj:db.length=ns)(pS:∀y∈db,wi i y)(hρ:ρ.Ok (b+97))
  (hk:∀zU ρ',zU.length=ns->(∀y∈zU,wi i y)->ρ'.Ok (b+100)->aR lv SA none 240 (kZ 13 oE) ⟨[(16,EY),(15,EQ),(13,iv mn),(11,pL),(10,.op (N+1) 0),(6,.op N 0),(0,.op t 0),(2,bv false)],Gf ρ'++(YY [iv first,iv i,iv am,sv,pv,fD (N+6+np) ns] c np ns++(gP++gO ns (fN zU)))⟩ Φ):
  aR lv SA none 240 (kZ 12 oE) ⟨[(16,EY),(15,EQ),(13,iv mn),(11,pL),(10,.op (N+1) 0),(6,.op N 0),(0,.op t 0),(2,bv false)],Gf ρ++(YY [iv first,iv i,iv am,sv,pv,fD (N+6+np) ns] c np ns++(gP++gO ns (fN db)))⟩ Φ:=by
 obtain⟨u9,rS,y0,y1,y3,y4,y5,ng,z8,Cf,Cg,qD,tJ,dg⟩:=hY;have jG:∀L:List aa,dM (λτ=>Gf τ++L) t (N+L.length):=λL=>hT.more L;have w1:∀τ r c d e X m,(Gf τ++(YY r c d e++(gP++X)))[N+6+np+m]?=X[m]?:=λτ r c d e X m=>by rw[U5 (N+6),qD,S_ (by omega),yR,T5]
 have v1:∀τ r c d e X m y,(Gf τ++(YY r c d e++(gP++X))).set (N+6+np+m) y=Gf τ++(YY r c d e++(gP++X.set m y)):=λτ r c d e X m y=>by rw[U5 (N+6),tJ,Ue _ _ (by omega),yR,T5]
 unfold oE WY at hk⊢;dsimp only[S8,kZ,cs,cf]at hk⊢;rcases UL ns with h0|h0
 ·subst h0;have e0:fD (N+6+np) 0=.sl 0 [] .exact:=rfl;simp only[e0]at hk⊢;refine ab ?_;simp only[seval,y1];refine ab ?_;simp only[seval,decide_false,show decide ((0:Int)>0)=false from rfl];refine aD ?_;refine aF ?_;refine nD ?_ (hk db ρ cj pS (hρ.mono (by omega)));exact dW (by simp only[seval];simp[bk,Wk.refl]) rfl
 ·obtain⟨n2,oX⟩:∃n2,ns=n2+1:=⟨ns-1,by omega⟩;have Eg:fD (N+6+np) ns=.bA (N+6+np+n2) 0 ns 0:=by rw[oX];rfl
  have vf:∀o,(gO ns o)[n2]?=some o:=λo=>by rw[oX];have:=De n2 o [];rwa [SN]at this
  have vD:∀o o',(gO ns o).set n2 o'=gO ns o':=λo o'=>by rw[oX];have:=Df n2 o o' [];rwa [SN,SN]at this
  have hd:decide ((ns:Int)>0)=true:=by simp;omega
  rw[Eg];simp only[Eg]at hk;refine ab ?_;simp only[seval,y1];refine ab ?_;simp only[seval,hd];refine aK ((Gt (n:=3) (jG _) hρ (by omega) (by decide) ?_));(try simp only[seval]);refine aD ?_;refine⟨λhc=> ?_,λhc=> ?_⟩
  ·have bH:SD.wrap ((ns:Int)-1)=(ns:Int)-1:=bc _ (by omega);have ep:SD.wrap (first+(mn:Int))=first+(mn:Int):=bc _ (by omega)
   have r1:=lJ (tick ρ) ((ns:Int)-1);refine ab ?_;simp only[seval,bH];refine aK ((pC (n:=(ns:Int)-1) (jG _) hρ.tick (by omega) (by omega) ?_));obtain⟨q,hq⟩:∃q:Nat,dh (tick ρ) ((ns:Int)-1)=q:=⟨(dh (tick ρ) ((ns:Int)-1)).toNat,by omega⟩;rw[hq];have vw:q<ns:=(by omega);(try simp only[seval]);refine ab ?_;simp only[seval,y1,ep];have r2:=aeV (tick (tick ρ)) (show first<=first+(mn:Int) by omega);refine aK ((R7 (lo:=first) (hi:=first+(mn:Int)) (jG _) hρ.tick.tick (by omega) (by omega) (by omega) ?_));generalize Cd (tick (tick ρ)) first (first+(mn:Int))=a at r2⊢
   (try simp only[seval]);obtain⟨y,hy⟩:=bE (xs:=db) (i:=q) (by omega);have HS:=pS y (S6 hy);have xe:=ar5 hy a a;simp only[iv]at xe;have oP:(0<=(q:Int)/\(q:Int)<(ns:Int))=True:=(by simp;omega);unfold fN at hk⊢;refine ab ?_;simp only[seval,y1,w1,v1,vf,vD,oP];refine⟨by rw[xq aB.len];omega,?_⟩;rw[xe];have uc:∀z∈db.set q ⟨⟨a,a⟩,y.hour⟩,wi i z:=λz hz=>by
    rcases UF hz with hz|rfl
    ·exact pS z hz
    ·exact⟨⟨by show 0<=a;omega,Xw a,by show a<=99;omega⟩,HS.2⟩
   refine nD ?_ (hk (db.set q ⟨⟨a,a⟩,y.hour⟩) (tick (tick (tick ρ))) (by rw[TK];exact cj) uc (hρ.tick.tick.tick.mono (by omega)));exact dW (by simp only[seval];simp[bk,Wk.refl]) rfl
  ·refine aF ?_;refine nD ?_ (hk db (tick ρ) cj pS (hρ.tick.mono (by omega)));exact dW (by simp only[seval];simp[bk,Wk.refl]) rfl
theorem ajj{i mn np ns c:Nat}{first am:Int}{sv tv EY EQ pL:AV}{gS:List aa}{db:List aB}{ρ:bh}{zc:aa}{YY:List AV->Nat->Nat->Nat->List aa}{Φ:an->AS->Prop}(hT:dM Gf t N)(hY:YW Gf N zc YY)(hb:b<2^10)(hi:1<=i/\i<=3)(iz:np<=4)(cj:db.length=np)(pS:∀y∈db,wi i y)(hρ:ρ.Ok (b+100))
  (hk:∀zU ρ',zU.length=np->(∀y∈zU,wi i y)->ρ'.Ok (b+110)->aR lv SA none 240 (kZ 14 oE) ⟨[(16,EY),(15,EQ),(13,iv mn),(11,pL),(10,.op (N+1) 0),(6,.op N 0),(0,.op t 0),(2,bv false)],Gf ρ'++(YY [iv first,iv i,iv am,sv,fD (N+6) np,tv] c np ns++(gO np (fN zU)++gS))⟩ Φ):
  aR lv SA none 240 (kZ 13 oE) ⟨[(16,EY),(15,EQ),(13,iv mn),(11,pL),(10,.op (N+1) 0),(6,.op N 0),(0,.op t 0),(2,bv false)],Gf ρ++(YY [iv first,iv i,iv am,sv,fD (N+6) np,tv] c np ns++(gO np (fN db)++gS))⟩ Φ:=by
 obtain⟨u9,rS,y0,y1,y3,y4,y5,ng,z8,Cf,Cg,qD,tJ,dg⟩:=hY;have jG:∀L:List aa,dM (λτ=>Gf τ++L) t (N+L.length):=λL=>hT.more L;unfold oE WY at hk⊢;dsimp only[S8,kZ,cs,cf]at hk⊢;rcases UL np with h0|h0
 ·subst h0;have e0:fD (N+6) 0=.sl 0 [] .exact:=rfl;simp only[e0]at hk⊢;refine ab ?_;simp only[seval,y1];refine ab ?_;simp only[seval,decide_false,show decide ((0:Int)>0)=false from rfl];refine aD ?_;refine aF ?_;refine nD ?_ (hk db ρ cj pS (hρ.mono (by omega)));exact dW (by simp only[seval];simp[bk,Wk.refl]) rfl
 ·obtain⟨n2,oX⟩:∃n2,np=n2+1:=⟨np-1,by omega⟩;have Eg:fD (N+6) np=.bA (N+6+n2) 0 np 0:=by rw[oX];rfl
  have vf:∀o,(gO np o++gS)[n2]?=some o:=λo=>by rw[oX];exact De n2 o gS
  have vD:∀o o',(gO np o++gS).set n2 o'=gO np o'++gS:=λo o'=>by rw[oX];exact Df n2 o o' gS
  have hd:decide ((np:Int)>0)=true:=by simp;omega
  rw[Eg];simp only[Eg]at hk;refine ab ?_;simp only[seval,y1];refine ab ?_;simp only[seval,hd];refine aK ((Gt (n:=4) (jG _) hρ (by omega) (by decide) ?_));(try simp only[seval]);refine aD ?_;refine⟨λhc=> ?_,λhc=> ?_⟩
  ·have bH:SD.wrap ((np:Int)-1)=(np:Int)-1:=bc _ (by omega);have ep:SD.wrap (i-1)=i-1:=bc _ (by omega);have r1:=lJ (tick ρ) ((np:Int)-1);refine ab ?_;simp only[seval,bH];refine aK ((pC (n:=(np:Int)-1) (jG _) hρ.tick (by omega) (by omega) ?_));obtain⟨q,hq⟩:∃q:Nat,dh (tick ρ) ((np:Int)-1)=q:=⟨(dh (tick ρ) ((np:Int)-1)).toNat,by omega⟩;rw[hq];have vw:q<np:=(by omega);(try simp only[seval]);have r2:=lJ (tick (tick ρ)) (i-1);refine ab ?_;simp only[seval,y1,ep];refine aK ((pC (n:=i-1) (jG _) hρ.tick.tick (by omega) (by omega) ?_));generalize dh (tick (tick ρ)) (i-1)=a at r2⊢;(try simp only[seval]);obtain⟨y,hy⟩:=bE (xs:=db) (i:=q) (by omega);have HS:=pS y (S6 hy);have xe:=ar4 hy a a;simp only[iv]at xe;have oP:(0<=(q:Int)/\(q:Int)<(np:Int))=True:=(by simp;omega);unfold fN at hk⊢;refine ab ?_;simp only[seval,y1,qD,tJ,vf,vD,oP];refine⟨by rw[xq aB.len];omega,?_⟩;rw[xe];have uc:∀z∈db.set q ⟨y.number,⟨a,a⟩⟩,wi i z:=λz hz=>by
    rcases UF hz with hz|rfl
    ·exact pS z hz
    ·exact⟨HS.1,⟨by show 0<=a;omega,Xw a,by show a<=i-1;omega⟩⟩
   refine nD ?_ (hk (db.set q ⟨y.number,⟨a,a⟩⟩) (tick (tick (tick ρ))) (by rw[TK];exact cj) uc (hρ.tick.tick.tick.mono (by omega)));exact dW (by simp only[seval];simp[bk,Wk.refl]) rfl
  ·refine aF ?_;refine nD ?_ (hk db (tick ρ) cj pS (hρ.tick.mono (by omega)));exact dW (by simp only[seval];simp[bk,Wk.refl]) rfl
end
section
variable {lv:Bool}{P:SI}{r:Option Nat}
theorem QB{nt:Nat}{c:Uc}{T:List (Nat×AV)}{Φ:an->AS->Prop}{P0 Q0:List aa}{M n o4 j:Nat}{l:List aB}{cl:List AV}(hM:P0.length=M)(hl:l.length=n)(Mp:P0[o4]?=some (.cells cl 26))(hj:cl[j]?=some (fD M n))(h:∀G',G'.length=n->aR lv P r nt c ⟨T,P0.set o4 (.cells (cl.set j (aN l)) 26)++(G'++Q0)⟩ Φ):aR lv P r nt c ⟨T,P0++(gO n (fN l)++Q0)⟩ Φ:=by
 have hlt:=(SL.1 Mp).1
 match n,hl with
 |0,hl=>
  obtain rfl:l=[]:=UI hl;refine JZ (id:=o4) (j:=j) (y:=aN []) (el:=26) (l:=cl) (x:=.sl 0 [] .exact) ?_ hj (Ak.of (eQ 0 [] .exact)) ?_
  ·show (P0++([]++Q0))[o4]?=_;rw[S0 hlt];exact Mp
  ·show aR lv P r nt c ⟨T,(P0++([]++Q0)).set o4 _⟩ Φ;rw[U1 _ _ hlt];exact h [] rfl
 |n+1,hl=>
  refine agQ (BA:=M+n) (o4:=o4) (j:=j) (cap:=0) (ps:=l) (l:=cl) (el:=26) ?_ ?_ (by omega) (by rw[hl];exact hj) ?_
  ·rw[<- hM,S_ (by omega),T5,De];rfl
  ·rw[S0 hlt];exact Mp
  ·rw[Ue _ _ (by omega),<- hM,T5,Df,U1 _ _ hlt];exact h _ (yw _ _)
end
section
variable {lv:Bool}{k kp:AV->List aa->Prop}{Gf:bh->List aa}{t N:Nat}{b:Int}
theorem ajg{i mn np ns c:Nat}{first am:Int}{l az bI:List Int}{ss:List Seen}{ee db:List aB}{ρ:bh}{zc:aa}{YY:List AV->Nat->Nat->Nat->List aa}(hT:dM Gf t N)(hH:∀τ,bJ (Gf τ))(hY:YW Gf N zc YY)(Ew:zc=.cells [.val (.int .i64 0),.val (.int .i64 0),.val (.int .i64 0),.sl 0 [] .exact,.sl 0 [] .exact,.sl 0 [] .exact] 26)(eY:l.length=i+1)(Hx:ee.length=np)(jJ:az.length=np)(n3:db.length=ns)(qP:bI.length=ns)(hc:ss.length=c)
  (hk:k (.aQ [ak.av ⟨first,i,am,ss,ee,db⟩,aM l,aM az,aM bI]) (Gf ρ)):
  aR lv SA none 240 (kZ 14 oE) ⟨[(16,.sl ns (bI.map iv) (.opn (N+5))),(15,.sl np (az.map iv) (.opn (N+4))),(13,iv mn),(11,.sl (i+1) (l.map iv) (.opn (N+2))),(10,.op (N+1) 0),(6,.op N 0),(0,.op t 0),(2,bv false)],Gf ρ++(YY [iv first,iv i,iv am,.sl c (ss.flatMap Seen.l) (.opn (N+3)),fD (N+6) np,fD (N+6+np) ns] c np ns++(gO np (fN ee)++gO ns (fN db)))⟩ (uB SA [.cell 6 26,.tmp 7,.tmp 8,.tmp 9] N k kp):=by
 have n0:=hY.n0;have zY:=hY.zY;have zZ:=hY.zZ;obtain⟨u9,rS,y0,y1,y3,y4,y5,ng,z8,Cf,Cg,qD,tJ,dg⟩:=hY;have Nm:∀τ (L:List aa)(y:aa),(Gf τ++L).set N y=Gf τ++L.set 0 y:=λτ L y=>by have:=dH (Gf τ) L 0 y;rwa [hT.len]at this
 have Nk:∀τ (L:List aa),(Gf τ++L)[N]?=L[0]?:=λτ L=>by have:=aZ (Gf τ) L 0;rwa [hT.len]at this
 unfold oE WY;dsimp only[S8,kZ,cs,cf];rw[<- SC];refine QB (M:=N+6) (o4:=N+1) (j:=4) (n0 _ _ _ _ _) Hx (zY _ _ _ _ _) rfl λG1 yB=> ?_;rw[zZ,<- SC,<- SN (gO ns (fN db))];refine QB (M:=N+6+np) (o4:=N+1) (j:=5) (cl:=[iv first,iv i,iv am,.sl c (ss.flatMap Seen.l) (.opn (N+3)),aN ee,fD (N+6+np) ns]) (by rw[SQ,n0,yB]) n3 (by rw[SC];exact y1 _ _ _ _ _ _) rfl λG2 hG2=> ?_;rw[SC,ng,SC,SC];obtain⟨r2,HC⟩:∃r2,r2=[iv first,iv i,iv am,.sl c (ss.flatMap Seen.l) (.opn (N+3)),aN ee,aN db]:=⟨_,rfl⟩;rw[show ([iv first,iv i,iv am,.sl c (ss.flatMap Seen.l) (.opn (N+3)),aN ee,fD (N+6+np) ns]:List AV).set 5 (aN db)=r2 by rw[HC];rfl];have hr6:r2.length=6:=by rw[HC];rfl
 have fL:Uh 6 r2=r2:=SW (by omega);have jY:∀a∈r2,a.leaf=true:=by
  rw[HC];intro a ha;simp only[SK,SZ,or_false]at ha;rcases ha with rfl|rfl|rfl|rfl|rfl|rfl<;>rfl
 have y00:∀τ r c d e G,(Gf τ++(YY r c d e++G))[N]?=some (.cells [.val (.int .i64 0),.val (.int .i64 0),.val (.int .i64 0),.sl 0 [] .exact,.sl 0 [] .exact,.sl 0 [] .exact] 26):=λτ r c d e G=>by rw[y0,Ew]
 refine ab ?_;simp only[seval,y1,y00,hr6,fL];refine⟨jY,?_⟩;rw[Nm];obtain⟨LL,hLL⟩:=dg r2 c np ns (.cells r2 26);rw[U1 _ _ (by rw[u9];omega),hLL,Vs];refine oD ?_;simp only[seval,Nk,hr6,fL];refine jE (b:=.aQ [ak.av ⟨first,i,am,ss,ee,db⟩,aM l,aM az,aM bI]) (H':=Gf ρ) (aeW ?_ ?_ ?_ ?_) rfl (by simp[hT.len]) (hH _) (by simp only[jM,SK,SZ,or_false,forall_eq_or_imp,forall_eq,EL,zu,and_self]) hk
 ·rw[HC,ak.av];refine Jg (.cons (Wk.refl _) (.cons (Wk.refl _) (.cons (Wk.refl _) (.cons ?_ (.cons (Wk.refl _) (.cons (Wk.refl _) .nil))))));rw[<- hc];exact eQ _ _ _
 ·rw[<- eY];exact eQ _ _ _
 ·rw[<- jJ];exact eQ _ _ _
 ·rw[<- qP];exact eQ _ _ _
end
section
variable {lv:Bool}{k kp:AV->List aa->Prop}{Gf:bh->List aa}{t N:Nat}{τ:bh}{b:Int}
theorem aji{pm:Nat}(hT:dM Gf t N)(hτ:τ.Ok b)(hb:b<2^10)(tY:pm<=4)(hk:∀(x:ak)(aT az bI:List Int)(τ':bh),x.Ok->x.pieces.length<=pm->aT.length<=4->az.length<=4->bI.length<=3->τ'.Ok (b+200)->k (.aQ [x.av,aM aT,aM az,aM bI]) (Gf τ')):ba lv SA 15 (Gf τ) [.op t 0,iv pm,bv false] k kp:=by
 refine bD (rs:=[.cell 6 26,.tmp 7,.tmp 8,.tmp 9]) (nt:=240) WY λhH hA=> ?_;simp only[bp,SU];have u7:∀o:aa,dM (λτ=>Gf τ++[o]) t (N+1):=λo=>hT.more [o];have n4:∀τ (L:List aa)(j:Nat),(Gf τ++L)[N+j]?=L[j]?:=λτ L j=>by rw[<- hT.len τ,aZ]
 have dU:∀τ (L:List aa)(j:Nat)(y:aa),(Gf τ++L).set (N+j) y=Gf τ++L.set j y:=λτ L j y=>by rw[<- hT.len τ,dH]
 have Nk:∀τ (L:List aa),(Gf τ++L)[N]?=L[0]?:=λτ L=>n4 τ L 0;have Nm:∀τ (L:List aa)(y:aa),(Gf τ++L).set N y=Gf τ++L.set 0 y:=λτ L y=>dU τ L 0 y;refine aj ?_;refine aj ?_;refine aK ((pC (u7 _) hτ (by omega) (by omega) ?_));have r1:=lJ τ 90;generalize dh τ 90=u1 at r1⊢;(try simp only[seval,zE4,sD]);refine aK ((KR (ns:=[0,1,10,u1]) (u7 _) hτ.tick (by omega) (by simp) (by simp) ?_));have r2:=KH (tick τ) (ns:=[0,1,10,u1]) (by simp);simp only[SK,SZ,or_false]at r2;generalize wH (tick τ) [0,1,10,u1]=first at r2⊢
 (try simp only[seval]);refine aK ((R7 (lo:=1) (hi:=3) (u7 _) hτ.tick.tick (by omega) (by decide) (by decide) ?_));have r3:=aeV (tick (tick τ)) (show (1:Int)<=3 by decide);generalize Cd (tick (tick τ)) 1 3=hours at r3⊢;(try simp only[seval,zE4,sD]);refine aK ((KR (ns:=[1,2,2,3]) (u7 _) hτ.tick.tick.tick (by omega) (by simp) (by simp) ?_));have r4:=KH (tick (tick (tick τ))) (ns:=[1,2,2,3]) (by simp);simp only[SK,SZ,or_false]at r4;generalize wH (tick (tick (tick τ))) [1,2,2,3]=am at r4⊢;have oR:0<=first/\first<=90:=by omega
 have xd:1<=am/\am<=3:=by omega
 clear r1 r2 r4;have hσ:(tick (tick (tick (tick τ)))).Ok (b+4):=hτ.tick.tick.tick.tick.mono (by omega);generalize tick (tick (tick (tick τ)))=σ at hσ⊢;(try simp only[seval,hT.len,n4,dU,Nk,Nm]);refine ab ?_;simp only[seval,n4,z1,up]
 (repeat apply eT);refine nC (t:=11) (sz:=1) (el:=3) (by simp only[seval]<;>rfl) ?_
 simp only[seval,hT.len]
 (repeat apply eT);refine agX (id:=N+1) (j:=3) (sz:=3) (gV:=61) (by simp only[seval,n4]<;>rfl) rfl ?_
 simp only[seval,dU,hT.len];refine JX [11,10,6,0,1,2] ?_;show aR _ _ _ _ _ ⟨[(11,.sl 1 [iv first] (.opn (N+2))),(10,.op (N+1) 0),(6,.op N 0),(0,.op t 0),(1,iv pm),(2,bv false)],_⟩ _;obtain⟨zc,Ew⟩:∃zc:aa,zc=.cells [iv 0,iv 0,iv 0,.sl 0 [] .exact,.sl 0 [] .exact,.sl 0 [] .exact] 26:=⟨_,rfl⟩;simp only[iv]at Ew;rw[<- Ew];obtain⟨hn,hhn⟩:∃hn:Nat,hours=hn:=⟨hours.toNat,by omega⟩;subst hhn;refine aj ?_;refine bP ?_;refine ek hn (λi:Nat=>[(11,.sl (i+1) ((lw σ first am i).1.map iv) (.opn (N+2))),(12,iv i)]) (λi=>Gf (lw σ first am i).2++[zc,.cells [iv first,iv hn,iv am,.sl 0 [] (.opn (N+3)),.sl 0 [] .exact,.sl 0 [] .exact] 26,.tail (i+1) 1 3,.tail 0 3 61]) (λi=>True) (λ_ _=>rfl) (by simp only[lw];simp only[seval];simp[bk,Wk.refl]) rfl (λ_ _ _=>by simp[hT.len]) trivial (λbw bG i cw _ R hR=> ?_)
 ·clear bw bG;have aq:=aa0 σ first (am:=am) (by omega) i
  have qU:=aa1 hσ first am i
  have dw:lw σ first am (i+1)=((lw σ first am i).1++[(lw σ first am i).1.getD i 0+xI (lw σ first am i).2 am],tick (tick (lw σ first am i).2)):=rfl
  have ve:=aq.ge (by omega) i (SO _);generalize lw σ first am i=m at aq qU dw ve hR⊢
  obtain⟨l,ρ⟩:=m;dsimp only at aq qU dw ve⊢;have eY:=aq.len;refine ab ?_;simp only[seval,n4];refine aD ?_;refine⟨λh=> ?_,λh=> ?_⟩
  ·as_aux_lemma=>
   have br:i<hn:=(by omega);obtain⟨w,hw⟩:=bE (xs:=l) (i:=i) (by omega);have pJ:l.getD i 0=w:=(by rw[SE,hw];rfl);rw[pJ]at dw ve;have aP:=ad7 ρ (am:=am) (by omega);have hsd:xI ρ am=wH (tick ρ) [0,am,dh ρ am]:=rfl;obtain⟨v,hv⟩:∃v,v=xI ρ am:=⟨_,rfl⟩;rw[<- hv]at dw aP hsd;have Er:SD.wrap (w+v)=w+v:=NE (aeU ve aP oR xd (by omega));have fV:SD.wrap ((i:Int)+1)=((i+1:Nat):Int):=(by rw[bc _ (by omega)];rfl);have eD:(0<=(i:Int)/\(i:Int)<(i:Int)+1)=True:=(by simp;omega);have jG:∀L:List aa,dM (λτ=>Gf τ++L) t (N+L.length):=λL=>hT.more L;refine aF ?_;refine bP ?_;obtain⟨X,hX⟩:∃X:Nat->List aa,∀a,X a=[zc,.cells [iv first,iv hn,iv am,.sl 0 [] (.opn (N+3)),.sl 0 [] .exact,.sl 0 [] .exact] 26,.tail a 1 3,.tail 0 3 61]:=⟨_,λ_=>rfl⟩;have hXe:=(hX (i+1)).symm;simp only[iv]at hXe;have x1:∀τ a,(Gf τ++X a)[N+1]?=some (.cells [iv first,iv hn,iv am,.sl 0 [] (.opn (N+3)),.sl 0 [] .exact,.sl 0 [] .exact] 26):=λτ a=>(by rw[n4,hX];rfl);have x2:∀τ a,(Gf τ++X a)[N+2]?=some (.tail a 1 3):=λτ a=>(by rw[n4,hX];rfl);have PS:∀τ a a',(Gf τ++X a).set (N+2) (.tail a' 1 3)=Gf τ++X a':=λτ a a'=>(by rw[dU,hX,hX];rfl);rw[hXe];refine nB [11,13,16] (SR 18) (λD=>bif isDone 16 D then Gf (tick (tick ρ))++X (i+1+1)else bif isDone 13 D then Gf (tick (tick ρ))++X (i+1)else bif isDone 11 D then Gf (tick ρ)++X (i+1)else Gf ρ++X (i+1)) ?_;simp only[seval,PY,E_,z1,up,x1,x2,PS,dN hw,eD,Er,eY];refine tu _ _ (dc (pC (jG (X (i+1))) qU (by omega) (by omega) ⟨rfl,rfl⟩)) ?_;(try simp only[seval,PY,E_,z1,up,x1,x2,PS,dN hw,eD,Er,eY]);refine tu (iv v) _ (dc (KR (ns:=[0,am,dh ρ am]) (jG (X (i+1))) qU.tick (by omega) (by simp) (by simp) ⟨by rw[hsd],rfl⟩)) ?_;(try simp only[seval,PY,E_,z1,up,x1,x2,PS,dN hw,eD,Er,eY]);refine⟨by omega,?_⟩;refine ab ?_;simp only[seval,fV];refine hR _ ⟨br,trivial,?_⟩;rw[dw,To,hX];exact bX
  ·as_aux_lemma=>
   have dB:i=hn:=(by omega);subst dB;clear hR;refine bO ?_;obtain⟨w,hw⟩:=bE (xs:=l) (i:=i) (by omega);have pJ:l.getD i 0=w:=(by rw[SE,hw];rfl);have HQ:first<=w/\w<=first+9:=by
    rw[pJ]at ve;have:am* (i:Int)<=3* 3:=Yo (by omega) (by omega) (by omega) (by omega);generalize am* (i:Int)=q at ve this;omega
   obtain⟨mn,nU⟩:∃mn:Nat,w-first=mn:=⟨(w-first).toNat,by omega⟩
   have MG:mn<=9:=(by omega);have hwm:SD.wrap (w-first)=mn:=(by rw[NE (by omega),nU]);have eD:(0<=(i:Int)/\(i:Int)<(i:Int)+1)=True:=(by simp;omega);refine ej 8 ?_;simp only[seval,n4,dN hw,eD,hwm];have jG:∀L:List aa,dM (λτ=>Gf τ++L) t (N+L.length):=λL=>hT.more L;refine aj ?_;refine aK ((Sa (n:=mn) (jG _) qU (by omega) (by omega) ?_));have qQ:=acu ρ mn;have qU:=Ir qU mn mn;generalize iC ρ mn mn=m2 at qQ qU⊢;obtain⟨order,ρ⟩:=m2;dsimp only at qQ qU⊢;(try simp only[seval]);refine aj ?_
   (repeat apply eT);refine nC (t:=15) (sz:=1) (el:=3) (by simp only[seval]<;>rfl) ?_
   simp only[seval,hT.len]
   (repeat apply eT);refine nC (t:=16) (sz:=1) (el:=3) (by simp only[seval]<;>rfl) ?_
   simp only[seval,hT.len];refine JX [16,15,14,13,11,10,6,0,1,2] ?_;show aR _ _ _ _ _ ⟨[(16,.sl 0 [] (.opn (N+5))),(15,.sl 0 [] (.opn (N+4))),(14,aM order),(13,iv mn),(11,.sl (i+1) (l.map iv) (.opn (N+2))),(10,.op (N+1) 0),(6,.op N 0),(0,.op t 0),(1,iv pm),(2,bv false)],_⟩ _;obtain⟨YY,hYY⟩:∃YY:List AV->Nat->Nat->Nat->List aa,∀r c d e,YY r c d e=[zc,.cells r 26,.tail (i+1) 1 3,.tail c 3 61,.tail d 1 3,.tail e 1 3]:=⟨_,λ_ _ _ _=>rfl⟩;have hY:YW Gf N zc YY:=aum hT hYY;have hY0:[zc,.cells [iv first,iv i,iv am,.sl 0 [] (.opn (N+3)),.sl 0 [] .exact,.sl 0 [] .exact] 26,.tail (i+1) 1 3,.tail 0 3 61,.tail 0 1 3,.tail 0 1 3]=YY [iv first,iv i,iv am,.sl 0 [] (.opn (N+3)),.sl 0 [] .exact,.sl 0 [] .exact] 0 0 0++[]:=(by rw[hYY];rfl);simp only[iv]at hY0;rw[hY0];refine aj ?_;refine CS (α:=Nat×bh) (λy=>⟨[(16,.sl 0 [] (.opn (N+5))),(15,.sl y.1 ((kQ first order y.1).map iv) (.opn (N+4))),(13,iv mn),(11,.sl (i+1) (l.map iv) (.opn (N+2))),(10,.op (N+1) 0),(6,.op N 0),(0,.op t 0),(2,bv false)],Gf y.2++(YY [iv first,iv i,iv am,.sl 0 [] (.opn (N+3)),fD (N+6) y.1,.sl 0 [] .exact] 0 y.1 0++gO y.1 (fN (kG l i (λj=>first+order.getD j 0) ρ y.1).1))⟩) (λy=>y.1<=pm/\y.1<=mn/\y.2.Ok (b+60)) ?_ (λy hy=> ?_)
   ·exact ajm hT hY (λτ'=>hT.aq hH τ') hb tY (by omega) oR eY MG qQ (qU.mono (by omega))
   ·as_aux_lemma=>
    obtain⟨np,ρ1⟩:=y;obtain⟨aml,amm,NC⟩:=hy;dsimp only at aml amm NC⊢;have Hx:(kG l i (λj=>first+order.getD j 0) ρ np).1.length=np:=A0 _ _ _ _ _;have abj:∀(p:Nat) z,(kG l i (λj=>first+order.getD j 0) ρ np).1[p]?=some z->∃τ,z=lP τ l (first+order.getD p 0) i:=λp z hz=>LP (P:=λn z=>∃τ,z=lP τ l n i) (λτ n=>⟨τ,rfl⟩) np p z hz;generalize(kG l i (λj=>first+order.getD j 0) ρ np).1=ee at Hx abj⊢;have jJ:=acE first order np
    have qO:∀n∈kQ first order np,first<=n/\n<w:=λn hn=>by
     unfold kQ at hn;obtain⟨p,hp,rfl⟩:=Tf.1 hn;have hp:=TG.1 hp;obtain⟨o,ho⟩:=bE (xs:=order) (i:=p) (by rw[qQ.len];omega);have:=qQ.IT o (sx ho);rw[SE,ho];simp only[S8];omega
    have Hq:(kQ first order np).Nodup:=by
     have e:kQ first order np=(order.take np).map λo=>first+o:=by
      unfold kQ;refine aoP (by rw[Ta,TC,qQ.len];omega) λp hp=> ?_;rw[Tp,Ui,if_pos hp,SE];obtain⟨o,ho⟩:=bE (xs:=order) (i:=p) (by rw[qQ.len];omega);rw[ho];rfl
     rw[e];have h1:(order.take np).Nodup:=Yy (Zt _ _) qQ.nodup;rw[Uv,XF];exact(Uv.1 h1).imp λh e=>h (by omega)
    have hng:∀p,p<np->(kQ first order np).getD p 0=first+order.getD p 0:=λp hp=>by
     unfold kQ;rw[SE,Tp,XH hp];rfl
    generalize kQ first order np=az at jJ qO Hq hng⊢
    refine aj ?_;refine aK ((Sa (n:=np) (jG _) NC (by omega) (by omega) ?_));have tZ:=acu ρ1 np;have zm:=Ir NC np np;generalize iC ρ1 np np=m3 at tZ zm⊢;obtain⟨ii,ρ2⟩:=m3;dsimp only at tZ zm⊢;have zm:ρ2.Ok (b+64):=zm.mono (by omega);(try simp only[seval]);have hwe:aM ii=.sl np (ii.map iv) .shut:=(by rw[aM,tZ.len]);rw[hwe];refine aj ?_;refine CS (α:=Nat×bh) (λy=>⟨[(16,.sl y.1 ((ii.take y.1).map iv) (.opn (N+5))),(15,.sl np (az.map iv) (.opn (N+4))),(13,iv mn),(11,.sl (i+1) (l.map iv) (.opn (N+2))),(10,.op (N+1) 0),(6,.op N 0),(0,.op t 0),(2,bv false)],Gf y.2++(YY [iv first,iv i,iv am,.sl 0 [] (.opn (N+3)),fD (N+6) np,fD (N+6+np) y.1] 0 np y.1++(gO np (fN ee)++gO y.1 (fN (kG l i (λj=>az.getD (ii.getD j 0).toNat 0) ρ2 y.1).1)))⟩) (λy=>y.1<=np/\y.1<=3/\y.2.Ok (b+90)) ?_ (λy hy=> ?_)
    ·exact nD (s':=⟨[(19,iv 0),(18,.sl np (ii.map iv) .shut),(16,.sl 0 [] (.opn (N+5))),(15,.sl np (az.map iv) (.opn (N+4))),(13,iv mn),(11,.sl (i+1) (l.map iv) (.opn (N+2))),(10,.op (N+1) 0),(6,.op N 0),(0,.op t 0),(2,bv false)],Gf ρ2++(YY [iv first,iv i,iv am,.sl 0 [] (.opn (N+3)),fD (N+6) np,.sl 0 [] .exact] 0 np 0++gO np (fN ee))⟩) (dW (by simp only[seval];simp[bk,Wk.refl]) rfl) (ajh hT hY (yw _ _) hb (by omega) oR HQ eY (by omega) jJ qO tZ zm)
    ·as_aux_lemma=>
     obtain⟨ns,ρ3⟩:=y;obtain⟨amn,amo,ND⟩:=hy;dsimp only at amn amo ND⊢;have n3:(kG l i (λj=>az.getD (ii.getD j 0).toNat 0) ρ2 ns).1.length=ns:=A0 _ _ _ _ _;have abr:∀(s:Nat) z,(kG l i (λj=>az.getD (ii.getD j 0).toNat 0) ρ2 ns).1[s]?=some z->∃τ,z=lP τ l (az.getD (ii.getD s 0).toNat 0) i:=λs z hz=>LP (P:=λn z=>∃τ,z=lP τ l n i) (λτ n=>⟨τ,rfl⟩) ns s z hz;generalize(kG l i (λj=>az.getD (ii.getD j 0).toNat 0) ρ2 ns).1=db at n3 abr⊢;have oc:=tZ.len;have aE:(ii.take ns).length=ns:=(by rw[TC];omega);have eF:∀v∈ii.take ns,0<=v/\v<(np:Int):=λv hv=>tZ.IT v (VS hv);have amx:(ii.take ns).Nodup:=Yy (Zt _ _) tZ.nodup;have abh:∀s,s<ns->(ii.take ns).getD s 0=ii.getD s 0:=λs hs=>by
      rw[SE,SE,Ui,if_pos hs]
     generalize ii.take ns=bI at aE eF amx abh⊢;refine aj ?_;refine aK ((pC (n:=2) (jG _) ND (by omega) (by omega) ?_));have gY:=lJ ρ3 2;generalize dh ρ3 2=u2 at gY⊢;obtain⟨cn,rfl⟩:∃cn:Nat,u2=cn:=⟨u2.toNat,by omega⟩;have HW:=ND.tick;generalize tick ρ3=ρ4 at HW⊢;(try simp only[seval]);have mw:∀z∈ee,wi i z:=λz hz=>by
      obtain⟨p,hp⟩:=Va hz;have cL:=(SL.1 hp).1;obtain⟨τ',rfl⟩:=abj p z hp;rw[<- hng p (by omega)];have:=LO aq (by omega) oR xd (n:=az.getD p 0) (by rw[pJ];exact qO _ (AM (by omega))) τ';exact⟨this.num,this.hour⟩
     have htv:∀z∈db,wi i z:=λz hz=>by
      obtain⟨s,hs⟩:=Va hz;have cj:=(SL.1 hs).1;obtain⟨τ',rfl⟩:=abr s z hs;rw[<- abh s (by omega)];have ho:=eF _ (AM (l:=bI) (i:=s) (by omega));have:=LO aq (by omega) oR xd (n:=az.getD (bI.getD s 0).toNat 0) (by rw[pJ];exact qO _ (AM (by omega))) τ';exact⟨this.num,this.hour⟩
     refine CS (α:=List Seen×bh) (λy=>⟨[(16,.sl ns (bI.map iv) (.opn (N+5))),(15,.sl np (az.map iv) (.opn (N+4))),(13,iv mn),(11,.sl (i+1) (l.map iv) (.opn (N+2))),(10,.op (N+1) 0),(6,.op N 0),(0,.op t 0),(2,bv false)],Gf y.2++(YY [iv first,iv i,iv am,.sl y.1.length (y.1.flatMap Seen.l) (.opn (N+3)),fD (N+6) np,fD (N+6+np) ns] y.1.length np ns++(gO np (fN ee)++gO ns (fN db)))⟩) (λy=>y.1.length<=2/\(∀s∈y.1,0<=s.hour/\s.hour<=i/\∃τ,s.next=nA τ (l.getD s.hour.toNat 0) 1 0 99)/\y.2.Ok (b+97)) ?_ (λy hy=> ?_)
     ·refine nD (s':=⟨[(20,iv cn),(16,.sl ns (bI.map iv) (.opn (N+5))),(15,.sl np (az.map iv) (.opn (N+4))),(13,iv mn),(11,.sl (i+1) (l.map iv) (.opn (N+2))),(10,.op (N+1) 0),(6,.op N 0),(0,.op t 0),(2,bv false)],Gf ρ4++(YY [iv first,iv i,iv am,.sl 0 [] (.opn (N+3)),fD (N+6) np,fD (N+6+np) ns] 0 np ns++(gO np (fN ee)++gO ns (fN db)))⟩) (dW (by simp only[seval];simp[bk,Wk.refl]) rfl) (ajk hT hY hb (by omega) oR xd aq (by omega) (HW.mono (by omega)))
     obtain⟨ss,ρ5⟩:=y;obtain⟨dT,fZ,pQ⟩:=hy;dsimp only at dT fZ pQ⊢;refine aj ?_;refine aD ?_;refine aF ?_;refine nD (s':=⟨[(16,.sl ns (bI.map iv) (.opn (N+5))),(15,.sl np (az.map iv) (.opn (N+4))),(13,iv mn),(11,.sl (i+1) (l.map iv) (.opn (N+2))),(10,.op (N+1) 0),(6,.op N 0),(0,.op t 0),(2,bv false)],Gf ρ5++(YY [iv first,iv i,iv am,.sl ss.length (ss.flatMap Seen.l) (.opn (N+3)),fD (N+6) np,fD (N+6+np) ns] ss.length np ns++(gO np (fN ee)++gO ns (fN db)))⟩) (dW (by simp only[seval];simp[bk,Wk.refl]) rfl) (ajl hT hY (yw _ _) hb oR MG (by omega) n3 htv pQ λasY ρ6 Ng ze hρ6=>ajj hT hY hb (by omega) (by omega) Hx mw hρ6 λaqa ρ7 hp1 jZ hρ7=>ajg hT (λτ'=>hT.aq hH τ') hY Ew eY hp1 jJ Ng aE rfl (hk ⟨first,i,am,ss,aqa,asY⟩ l az bI ρ7 ⟨oR,by dsimp only;omega,xd,by dsimp only;omega,by dsimp only;omega,by dsimp only;omega,λs hs=> ?_,λy hy=> ?_,λy hy=> ?_⟩ (by dsimp only;omega) (by omega) (by omega) (by omega) (hρ7.mono (by omega))))
     ·obtain⟨h1,h2,τ',h3⟩:=fZ s hs;have ht:=aq.top oR xd (by omega) s.hour.toNat (by omega);rw[h3];exact⟨⟨h1,h2⟩,(CO (by omega) (by omega)).1⟩
     ·exact⟨(jZ y hy).1,(jZ y hy).2⟩
     ·exact⟨(ze y hy).1,(ze y hy).2⟩
end
section
variable {lv:Bool}{H:List aa}{k kp:AV->List aa->Prop}
end
def og (n:Nat):Nat->List (List Int)
 |0=>[[]]
 |k+1=>(SR n).flatMap λi:Nat=>(og n k).map ((i:Int)::·)
def uj (n kk j:Nat):List (List Int):=(SR j).flatMap λi:Nat=>(og n kk).map ((i:Int)::·)
theorem ab7(n kk j:Nat):uj n kk (j+1)=uj n kk j++(og n kk).map ((j:Int)::·):=by
 unfold uj;rw[UZ,Uk];simp
theorem Oa:∀n,n<=4->∀k,k<=4->(og n k).length<=256/\∀r∈og n k,r.length=k/\∀i∈r,0<=i/\i<n:=by decide+kernel
theorem ab6(n kk:Nat)(h:(og n kk).length<=256):∀j,(uj n kk j).length<=256* j
 |0=>by simp[uj]
 |j+1=>by
  have h1:=ab6 n kk h j;rw[ab7,SQ,Ta];omega
section
variable {lv:Bool}
theorem Sd:∀(kk:Nat){n:Nat}{H:List aa}{k kp:AV->List aa->Prop},n<=4->kk<=4->k (kX (og n kk)) H->ba lv SA 49 H [iv n,iv kk] k kp
 |0,n,H,k,kp,hn,dI,hk=>by
  refine bD (rs:=[.tmp 4]) (nt:=38) asI λhH hA=> ?_;simp only[bp,SU];refine aj ?_;refine ab ?_;simp only[seval,beq_self_eq_true];refine aD ?_;refine ab ?_;simp only[seval,we,xz];refine aX ?_;exact jE (b:=kX [[]]) (H':=H) (G:=[]) (PK (.cons (eQ _ _ _) .nil)) (by simp) (SO _) hH (by rw[BD];trivial) hk
 |kk+1,n,H,k,kp,hn,dI,hk=>by
  refine bD (rs:=[.tmp 4]) (nt:=38) asI λhH hA=> ?_;simp only[bp,SU];have hz:(((kk:Int)+1)==0)=false:=by simp;omega
  have j4:SD.wrap ((kk:Int)+1-1)=kk:=by rw[bc _ (by omega)];omega
  refine aj ?_;refine ab ?_;simp only[seval,hz];refine aD ?_;refine aF ?_;refine aj ?_
  (repeat apply eT);refine nC (t:=5) (sz:=1) (el:=22) (by simp only[seval]<;>rfl) ?_
  refine ab ?_;simp only[seval,j4];refine aK ((Sd kk hn (by omega) ?_));(try simp only[seval,kX]);have G6:=Oa n hn kk (by omega);have hlen:=ab6 n kk G6.1;have pU:=ab7 n kk;have eN:uj n kk n=og n (kk+1):=rfl;generalize og n kk=l at G6 pU⊢;obtain⟨avn,hlr⟩:=G6;refine aj ?_;refine bP ?_;refine ek n (λj:Nat=>[(5,.sl (uj n kk j).length ((uj n kk j).map aM) (.opn H.length)),(7,iv j)]) (λj=>H++[.tail (uj n kk j).length 1 22]) (λi=>True) (λ_ _=>rfl) (by simp only[seval];simp[bk,Wk.refl];exact Wk.refl _) rfl (λ_ _ _=>by simp) trivial (λbw bG j lS hj R hR=> ?_);clear bw bG;refine aj ?_;refine aD ?_;refine⟨λh=> ?_,λh=> ?_⟩
  ·have dn:j<n:=(by omega);have ep:SD.wrap ((j:Int)+1)=j+1:=bc _ (by omega);have Ek:=pU j;have eY:=hlen j;generalize uj n kk j=o at Ek eY hR⊢;refine aF ?_;refine aj ?_;refine bP ?_;refine ek l.length (λx:Nat=>[(5,.sl (o.length+x) ((o++(l.take x).map ((j:Int)::·)).map aM) (.opn H.length)),(8,iv x)]) (λx=>H++[.tail (o.length+x) 1 22]) (λi=>True) (λ_ _=>rfl) (by simp only[seval];simp[bk,Wk.refl]) (by simp) (λ_ _ _=>by simp) trivial (λbw bG x Es hx R2 gW=> ?_);clear bw bG;refine aj ?_;refine aD ?_;refine⟨λh2=> ?_,λh2=> ?_⟩
   ·have da:x<l.length:=(by omega);obtain⟨r,hr⟩:=bE da;have ua:=(hlr r (sx hr)).1;have m9:SD.wrap ((x:Int)+1)=x+1:=bc _ (by omega);have qP:((o++(l.take x).map ((j:Int)::·)).map aM).length=o.length+x:=(by simp;omega);have cR:(o++(l.take (x+1)).map ((j:Int)::·)).map aM=(o++(l.take x).map ((j:Int)::·)).map aM++[aM ((j:Int)::r)]:=by
     rw[aoQ _ hr,<- SC,To];rfl
    have M5:(r.map iv).length=r.length:=Ta ..;refine aF ?_;refine ab ?_;simp only[seval,z1,we,xz,v7 hr,iR da,qP,M5,aM]
    first|refine⟨by omega,by simp;omega,by omega,?_⟩|refine⟨by omega,by omega,?_⟩
    refine ab ?_;simp only[seval,m9];refine gW _ ⟨da,trivial,?_⟩;rw[cR];refine uq [.tail (1+r.length) 1 3] (lC rfl rfl) ?_ (D9 hH _ _ _) ?_ (by simp[U5])
    ·(try simp only[seval]);exact⟨⟨_,rfl,have h:=FB (l:=(o++(l.take x).map ((j:Int)::·)).map aM) (show Wk (.sl (1+r.length) (iv (j:Int)::r.map iv) (.opn (H.length+1))) (aM ((j:Int)::r)) by rw[aM,aq'];exact eQ _ _ _);zX h.len h.at⟩,_,rfl,Wk.refl _⟩
    ·rw[<- cR];simp only[US,dZ,EK,iv];simp
   ·have fC:x=l.length:=(by omega);subst fC;refine bO ?_;refine ab ?_;simp only[seval,ep];refine hR _ ⟨dn,trivial,?_⟩;rw[Ek];simp only[Tn,SQ,Ta];exact bX
  ·have vo:j=n:=(by omega);subst vo;refine bO ?_;refine aj ?_;refine aX ?_;rw[eN];exact iH (b:=kX (og j (kk+1))) hH (eQ _ _ _) (by rw[BD];trivial) hk
end
section
variable {lv:Bool}{H:List aa}{k kp:AV->List aa->Prop}
end
end Go.Gg
namespace Go.Gg.Tk
def ext:List Int->List Int->List Int
 |pre,[]=>pre
 |pre,i::st=>ext (pre++[pre.getLastD 0+i]) st
theorem RY:∀(st pre:List Int)(a:Int),ext pre (st++[a])=ext pre st++[(ext pre st).getLastD 0+a]
 |[],pre,a=>rfl
 |i::st,pre,a=>RY st _ a
def uT (x:ak):Nat->List Int->List (List Int)
 |0,pre=>[pre]
 |d+1,pre=>(SR (x.am.toNat+1)).flatMap λn:Nat=>uT x d (pre++[pre.getLastD 0+(n:Int)])
theorem R0(x:ak):∀(d:Nat)(pre:List Int),uT x d pre=(og (x.am.toNat+1) d).map (ext pre)
 |0,pre=>rfl
 |d+1,pre=>by
  unfold uT og;rw[Vl];refine uV λn _=> ?_;rw[R0 x d,WS];rfl
theorem KO(x:ak):∀(d:Nat)(pre h:List Int),h∈uT x d pre->h.take pre.length=pre
 |0,pre,h,hm=>by
  rw[uT,S9]at hm;subst hm;exact Tn
 |d+1,pre,h,hm=>by
  unfold uT at hm;obtain⟨n,_,hm⟩:=S4.1 hm;have:=KO x d _ h hm;rw[SQ,TH]at this;exact(B8.1 this).1
def tj (x:ak):Nat->Nat->List Int->Bool
 |k,0,h=>mH x k (h.getD k 0)
 |k,d+1,h=>mH x k (h.getD k 0)&&tj x (k+1) d h
theorem aaW(x:ak):∀(d:Nat)(pre:List Int),pre≠[]->jm x d pre=(uT x d pre).filter (tj x (pre.length-1) d)
 |0,pre,hp=>by
  unfold jm uT;rw[zr hp Tn];by_cases h:mH x (pre.length-1) (pre.getD (pre.length-1) 0)=true
  ·rw[if_pos h,W3 (by unfold tj;exact h)];rfl
  ·rw[if_neg h,W4 (by unfold tj;exact h)];rfl
 |d+1,pre,hp=>by
  have hl:0<pre.length:=VB.2 hp;by_cases h:mH x (pre.length-1) (pre.getLastD 0)=true
  ·unfold jm uT;rw[if_pos h,List.filter_flatMap];refine uV λn _=> ?_;rw[aaW x d _ (by simp),SQ,TH];refine U3 λg hg=> ?_;have hg:=KO x d _ g hg;rw[SQ,TH]at hg;have hg:=(B8.1 hg).1;rw[zr hp hg]at h
   conv=>rhs;unfold tj
   rw[h,UP,VM,Nat.sub_add_cancel hl]
  ·unfold jm;rw[if_neg h];symm;rw[Xb];intro g hg;have hg:=KO x _ _ g hg;rw[zr hp hg]at h;unfold tj;rw[Te];exactλe=>h e.1
def xD (x:ak)(h:List Int):Bool:=x.seen.all λs=>gQ s.next (h.getD s.hour.toNat 0)
theorem Q4(x:ak)(h:List Int):∀(d k:Nat),tj x k d h=true<->∀j,k<=j->j<=k+d->mH x j (h.getD j 0)=true
 |0,k=>by
  unfold tj;refine⟨λe j h1 h2=>by rw[show j=k by omega];exact e,λe=>e k (SO _) (by omega)⟩
 |d+1,k=>by
  unfold tj;rw[Te,Q4 x h d (k+1)];refine⟨λe j h1 h2=> ?_,λe=>⟨e k (SO _) (by omega),λj h1 h2=>e j (by omega) (by omega)⟩⟩;by_cases hj:j=k
  ·rw[hj];exact e.1
  ·exact e.2 j (by omega) (by omega)
theorem arM{x:ak}(hx:x.Ok)(h:List Int):xD x h=tj x 0 x.hours.toNat h:=by
 rw[U9,Q4];unfold xD mH;rw[Tu];refine⟨λe j _ hj=>Tu.2 λs hs=> ?_,λe s hs=> ?_⟩
 ·rw[Xn,TZ,decide_eq_false_iff_not];by_cases vC:s.hour=j
  ·right;have:=e s hs;rw[vC,VK]at this;exact this
  ·exact .inl vC
 ·have dJ:=(hx.seen s hs).1;have:=Tu.1 (e s.hour.toNat (X9 _) (by omega)) s hs;rw[Xn,TZ,decide_eq_false_iff_not]at this;rcases this with h|h
  ·omega
  ·exact h
theorem al2{x:ak}(hx:x.Ok):aL x=((og (x.am.toNat+1) x.hours.toNat).map (ext [x.first])).filter (xD x):=by
 unfold aL;rw[aaW _ _ _ (by simp),R0];refine U3 λg _=> ?_;rw[arM hx];rfl
def nK (x:ak)(l:List (List Int)):List Tr:=l.flatMap λst=>if xD x (ext [x.first] st)=true then gC x (ext [x.first] st)else[]
theorem K_{α β:Type}{p:α->Bool}{f:α->List β}:∀l:List α,(l.filter p).flatMap f=l.flatMap λa=>if p a=true then f a else[]
 |[]=>rfl
 |a::l=>by
  by_cases h:p a=true
  ·rw[W3 h,TW,TW,K_ l,if_pos h]
  ·rw[W4 h,TW,K_ l,if_neg h];rfl
theorem RO{x:ak}(hx:x.Ok):nK x (og (x.am.toNat+1) x.hours.toNat)=bM x:=by
 unfold bM nK;rw[al2 hx,K_,Vz]
def uu (h:List Int)(y:aB)(t:List Int):List (List Int):=((zC h).filter λn=>fits h y n&& !t.contains n).map λn=>t++[n]
theorem aae(h:List Int):∀(ys:List aB)(L:List (List Int)),ys.foldl (λL y=>L.flatMap (uu h y)) L=L.flatMap (lF h ys)
 |[],L=>by
  rw[aa_,show lF h []=λt=>[t]from rfl];simp
 |y::ys,L=>by
  rw[UV,aae h ys,Xv];refine uV λt _=> ?_;unfold uu;rw[Vz];rfl
def jp (h:List Int)(ys:List aB):List (List Int):=ys.foldl (λL y=>L.flatMap (uu h y)) [[]]
theorem Ii(h:List Int)(ys:List aB):jp h ys=lF h ys []:=by
 unfold jp;rw[aae,YJ]
theorem ack(h:List Int)(ys:List aB)(y:aB):jp h (ys++[y])=(jp h ys).flatMap (uu h y):=by
 unfold jp;rw[WZ];rfl
def uv (h ns:List Int)(s:aB)(t:List Nat):List (List Nat):=((SR ns.length).filter λp=>fits h s (ns.getD p 0)&& !t.contains p).map λp=>t++[p]
theorem aaf(h ns:List Int):∀(ss:List aB)(L:List (List Nat)),ss.foldl (λL s=>L.flatMap (uv h ns s)) L=L.flatMap (nc h ns ss)
 |[],L=>by
  rw[aa_,show nc h ns []=λt=>[t]from rfl];simp
 |s::ss,L=>by
  rw[UV,aaf h ns ss,Xv];refine uV λt _=> ?_;unfold uv;rw[Vz];rfl
def l8 (h ns:List Int)(ss:List aB):List (List Nat):=ss.foldl (λL s=>L.flatMap (uv h ns s)) [[]]
theorem Oh(h ns:List Int)(ss:List aB):l8 h ns ss=nc h ns ss []:=by
 unfold l8;rw[aaf,YJ]
theorem acl(h ns:List Int)(ss:List aB)(s:aB):l8 h ns (ss++[s])=(l8 h ns ss).flatMap (uv h ns s):=by
 unfold l8;rw[WZ];rfl
end Go.Gg.Tk
namespace Go.Gg
open Go.Gg.Tk
namespace Tk
def stepJ (h:List Int)(y:aB)(t:List Int)(j:Nat):List (List Int):=(((SR j).map λi:Nat=>h.headD 0+(i:Int)).filter λn=>fits h y n&& !t.contains n).map λn=>t++[n]
theorem asG(h:List Int)(y:aB)(t:List Int)(j:Nat):stepJ h y t (j+1)=stepJ h y t j++if(fits h y (h.headD 0+(j:Int))&& !t.contains (h.headD 0+(j:Int)))=true then[t++[h.headD 0+(j:Int)]]else[]:=by
 unfold stepJ;rw[UZ,To,XI,To];congr 1;simp only[U0,ZU,XW,ZL];split<;>rfl
theorem ad1(h:List Int)(y:aB)(t:List Int):stepJ h y t (h.getLastD 0-h.headD 0).toNat=uu h y t:=rfl
theorem ad2(h:List Int)(y:aB)(t:List Int)(j:Nat):(stepJ h y t j).length<=j:=by
 unfold stepJ;rw[Ta];refine TL (Za _ _) ?_;rw[Ta,XV];exact SO _
def sI (h:List Int)(y:aB)(ls:List (List Int))(i:Nat):List (List Int):=(ls.take i).flatMap (uu h y)
theorem asU{h:List Int}{y:aB}{ls:List (List Int)}{i:Nat}{t:List Int}(ht:ls[i]?=some t):sI h y ls (i+1)=sI h y ls i++uu h y t:=by
 unfold sI;rw[Uo,ht,Uk];simp
theorem yr{α β:Type}{f:α->List β}{m:Nat}:∀{l:List α},(∀a∈l,(f a).length<=m)->(l.flatMap f).length<=l.length* m
 |[],_=>by simp
 |a::l,h=>by
  have h1:=h a (by simp);have h2:=yr (l:=l) λb hb=>h b (by simp[hb]);rw[TW,SQ,Un,Vr];omega
theorem ad5{h:List Int}(hs:h.getLastD 0-h.headD 0<=9)(y:aB)(t:List Int):(uu h y t).length<=9:=by
 rw[<- ad1];have:=ad2 h y t (h.getLastD 0-h.headD 0).toNat;omega
theorem Ij{h:List Int}(hs:h.getLastD 0-h.headD 0<=9):∀n ys,XZ ys=n->(jp h ys).length<=9^n
 |0,ys,e=>by
  obtain rfl:=UI e;exact SO 1
 |n+1,ys,e=>by
  have aH:ys≠[]:=λh=>by rw[h]at e;cases e
  rw[<- Yd aH,ack];have h1:=Ij hs n ys.dropLast (by rw[YZ];omega);have h2:=yr (l:=jp h ys.dropLast) (f:=uu h (ys.getLast aH)) λt _=>ad5 hs _ t;rw[ad_];exact TL h2 (TM _ h1)
theorem asT{h:List Int}(hs:h.getLastD 0-h.headD 0<=9)(y:aB)(ls:List (List Int))(i:Nat):(sI h y ls i).length<=ls.length* 9:=by
 have h2:=yr (l:=ls.take i) (f:=uu h y) λt _=>ad5 hs _ t;have h3:(ls.take i).length<=ls.length:=by rw[TC];omega
 exact TL h2 (TM _ h3)
theorem aoH{h:List Int}{ys:List aB}{p:Nat}{y:aB}(hy:ys[p]?=some y):jp h (ys.take (p+1))=sI h y (jp h (ys.take p)) (jp h (ys.take p)).length:=by
 rw[Uo,hy];unfold sI;rw[Tn];exact ack _ _ _
def zQ (h ns:List Int)(s:aB)(t:List Nat)(j:Nat):List (List Nat):=((SR j).filter λp=>fits h s (ns.getD p 0)&& !t.contains p).map λp=>t++[p]
theorem asH(h ns:List Int)(s:aB)(t:List Nat)(j:Nat):zQ h ns s t (j+1)=zQ h ns s t j++if(fits h s (ns.getD j 0)&& !t.contains j)=true then[t++[j]]else[]:=by
 unfold zQ;rw[UZ,XI,To];congr 1;simp only[XW,ZL];split<;>rfl
theorem ad3(h ns:List Int)(s:aB)(t:List Nat):zQ h ns s t ns.length=uv h ns s t:=rfl
theorem ad4(h ns:List Int)(s:aB)(t:List Nat)(j:Nat):(zQ h ns s t j).length<=j:=by
 unfold zQ;rw[Ta];refine TL (Za _ _) ?_;rw[XV];exact SO _
def sJ (h ns:List Int)(s:aB)(ls:List (List Nat))(i:Nat):List (List Nat):=(ls.take i).flatMap (uv h ns s)
theorem asW{h ns:List Int}{s:aB}{ls:List (List Nat)}{i:Nat}{t:List Nat}(ht:ls[i]?=some t):sJ h ns s ls (i+1)=sJ h ns s ls i++uv h ns s t:=by
 unfold sJ;rw[Uo,ht,Uk];simp
theorem ad6{h ns:List Int}(hs:ns.length<=4)(s:aB)(t:List Nat):(uv h ns s t).length<=4:=by
 rw[<- ad3];have:=ad4 h ns s t ns.length;omega
theorem Ik{h ns:List Int}(hs:ns.length<=4):∀n ys,XZ ys=n->(l8 h ns ys).length<=4^n
 |0,ys,e=>by
  obtain rfl:=UI e;exact SO 1
 |n+1,ys,e=>by
  have aH:ys≠[]:=λh=>by rw[h]at e;cases e
  rw[<- Yd aH,acl];have h1:=Ik (h:=h) hs n ys.dropLast (by rw[YZ];omega);have h2:=yr (l:=l8 h ns ys.dropLast) (f:=uv h ns (ys.getLast aH)) λt _=>ad6 hs _ t;rw[ad_];exact TL h2 (TM _ h1)
theorem asV{h ns:List Int}(hs:ns.length<=4)(s:aB)(ls:List (List Nat))(i:Nat):(sJ h ns s ls i).length<=ls.length* 4:=by
 have h2:=yr (l:=ls.take i) (f:=uv h ns s) λt _=>ad6 hs _ t;have h3:(ls.take i).length<=ls.length:=by rw[TC];omega
 exact TL h2 (TM _ h3)
theorem aoI{h ns:List Int}{ss:List aB}{p:Nat}{s:aB}(hs:ss[p]?=some s):l8 h ns (ss.take (p+1))=sJ h ns s (l8 h ns (ss.take p)) (l8 h ns (ss.take p)).length:=by
 rw[Uo,hs];unfold sJ;rw[Tn];exact acl _ _ _ _
def mm (x:ak)(h:List Int)(ls:List (List Int))(i:Nat):List Tr:=(ls.take i).flatMap (sO x h)
theorem aiX{x:ak}{h:List Int}{ls:List (List Int)}{i:Nat}{t:List Int}(ht:ls[i]?=some t):mm x h ls (i+1)=mm x h ls i++sO x h t:=by
 unfold mm;rw[Uo,ht,Uk];simp
theorem atJ{x:ak}{h t:List Int}(ht:t.length<=4)(hx:x.aC.length<=3):(sO x h t).length<=64:=by
 unfold sO;rw[Ta,<- Oh];refine TL (Ik ht _ _ rfl) ?_;exact UT (by decide) hx
theorem RP{x:ak}{h:List Int}{ls:List (List Int)}(hl:∀t∈ls,t.length<=4)(hx:x.aC.length<=3)(i:Nat):(mm x h ls i).length<=ls.length* 64:=by
 have h2:=yr (l:=ls.take i) (f:=sO x h) λt ht=>atJ (hl t (VS ht)) hx;have h3:(ls.take i).length<=ls.length:=by rw[TC];omega
 exact TL h2 (TM _ h3)
theorem aeL(x:ak)(h:List Int):gC x h=mm x h (jp h x.pieces) (jp h x.pieces).length:=by
 unfold mm gC;rw[Tn,Ii]
end Tk
open Go.Conc Go.Proofs Go.Gg.Tk
noncomputable def yd:Uc:=aa'.body.getD .skip
section
variable {lv:Bool}{H:List aa}{k kp:AV->List aa->Prop}
theorem Sf{xs:List Int}{e:End}(hl:xs.length<=2^30)(hk:k (.sl xs.length (xs.map iv) (.opn H.length)) (H++[.tail xs.length 1 3])):ba lv SA 76 H [.sl xs.length (xs.map iv) e] k kp:=by
 refine bD (rs:=[.tmp 2]) (nt:=6) Tryz.f76 λhH hA=> ?_;simp only[bp,SU];have hlen:(xs.map iv).length=xs.length:=by simp
 have HK:(xs.map iv).take xs.length=xs.map iv:=SW (by omega);refine aj ?_;refine ab ?_;simp only[seval,HK,hlen];refine⟨hl,?_⟩;refine aX ?_;exact ce hk
structure FS (x:ak)(h:List Int):Prop where
 len:(h.length:Int)=x.hours+1
 mono:qk h
 span:h.getLastD 0-h.headD 0<=9
 head:0<=h.headD 0/\h.headD 0<=90
theorem ajH{x:ak}{h:List Int}{Ψ:an->AS->Prop}(hx:x.Ok)(hh:FS x h)(hH:bJ H):
  aR lv SA none 155 (cs (cf (kZ 2 yd))) ⟨[(6,iv 0),(5,.sl 1 [.sl 0 [] .exact] .exact),(2,.op H.length 0),(1,aM h)],H++[.cells x.l 26]⟩ (an.then (λs'=>∃_:Unit,True/\s'.Sub ⟨[(5,kX (jp h x.pieces)),(2,.op H.length 0),(1,aM h)],H++[.cells x.l 26]⟩) Ψ):=by
 have yS:=hx.hours;have oY:=hx.ee;have hlen:=hh.len;have abp:=hh.span;have alX:=hh.head;have hf:=λ(y:aB) (n:Int)=>K6 (h:=h) (y:=y) (n:=n) (by omega) (by omega) hh.mono;obtain⟨h0,DU⟩:=bE (xs:=h) (i:=0) (by omega);have DV:h.headD 0=h0:=by cases h with|nil=>cases DU|cons a l=>cases DU;rfl
 obtain⟨hN,G9⟩:=bE (xs:=h) (i:=x.hours.toNat) (by omega);have eJ:h.getLastD 0=hN:=by
  rw[U_,WT,show h.length-1=x.hours.toNat by omega,G9];rfl
 rw[DV]at alX;have cQ:TR 1 x.l=[iv x.hours,iv x.am,c_ x.seen,aN x.pieces,aN x.aC]:=rfl;have wV:TR 4 x.l=[aN x.pieces,aN x.aC]:=rfl;obtain⟨B,hB⟩:∃B,B=H++[.cells x.l 26]:=⟨_,rfl⟩;have bN:∀L:List aa,(B++L)[H.length]?=some (.cells x.l 26):=λL=>by rw[hB,SC];exact aZ H _ 0
 have bn0:B[H.length]?=some (.cells x.l 26):=by have:=bN [];rwa [SN]at this
 have bg:∀(L:List aa),(B++L)[B.length]?=L[0]?:=λL=>aZ B L 0;have bs:∀(L:List aa)(y:aa),(B++L).set B.length y=B++L.set 0 y:=λL y=>dH B L 0 y;have kF:bJ B:=by rw[hB];exact D8 hH λz hz m=>by rw[S9.1 hz];exact EM m x
 rw[<- hB];have pY:(0:Int)<=x.hours:=by omega
 obtain⟨hr,yT⟩:∃hr:Nat,x.hours=hr:=⟨x.hours.toNat,by omega⟩;have M7:x.hours.toNat=hr:=by omega
 rw[M7]at G9;have qF:((0:Int)<=0/\(0:Int)<h.length)=True:=by simp;omega
 have alg:((0:Int)<h.length)=True:=by simp;omega
 have GW:(0<=(hr:Int)/\(hr:Int)<h.length)=True:=by simp;omega
 have hsN:AV.shift (hr* 1) (.rp (h.map iv))=some (.rp (iv hN::(h.drop (hr+1)).map iv)):=by rw[Y9];exact dN G9
 obtain⟨M,hM⟩:∃M:Nat,(h.getLastD 0-h.headD 0).toNat=M:=⟨_,rfl⟩;have hM9:M<=9:=by omega
 unfold yd aa';dsimp only[S8,kZ,cs,cf];refine bP ?_;refine ek x.pieces.length (λp:Nat=>[(5,kX (jp h (x.pieces.take p))),(6,iv p)]) (λ_=>B) (λ_=>True) (λ_ _=>rfl) (by simp only[seval];simp only[bk,Wk.refl,and_true];exact PK (.cons (eQ _ _ _) .nil)) rfl (λ_ _ _=>rfl) trivial (λbw bG p Bl _ R hR=> ?_);clear bw bG;refine ab ?_;simp only[seval,bn0,wV,aN];refine aD ?_;refine⟨λhc=> ?_,λhc=> ?_⟩
 ·have cL:p<x.pieces.length:=by omega
  have bH:SD.wrap ((p:Int)+1)=((p+1:Nat):Int):=by rw[bc _ (by omega)];rfl
  obtain⟨y,hy⟩:=bE cL;have hbp:(0<=(p:Int)/\(p:Int)<x.pieces.length)=True:=by simp;omega
  have qT:=xG hy;have eY:=Ij (h:=h) abp p (x.pieces.take p) (by rw[TC];omega);have Hk:(jp h (x.pieces.take p)).length<=729:=TL eY (UT (by decide) (show p<=3 by omega));have aE:=aoH (h:=h) hy;rw[aE]at hR;have abx:∀t∈jp h (x.pieces.take p),t.length<2^20:=λt ht=>by
   rw[Ii]at ht;have:=EV ht;rw[TC]at this;simp at this;omega
  generalize jp h (x.pieces.take p)=ls at Hk abx hR⊢;clear eY aE;refine aF ?_;refine aj ?_
  (repeat apply eT);refine nC (t:=7) (sz:=1) (el:=22) (by simp only[seval]<;>rfl) ?_
  simp only[seval];refine aj ?_;refine bP ?_;refine ek ls.length (λi:Nat=>[(7,.sl (sI h y ls i).length ((sI h y ls i).map aM) (.opn B.length)),(8,iv i)]) (λi=>B++[.tail (sI h y ls i).length 1 22]) (λ_=>True) (λ_ _=>rfl) (by simp only[seval];simp[bk,Wk.refl];exact Wk.refl _) rfl (λ_ _ _=>by simp) trivial (λbw bG i cw _ R2 gW=> ?_);clear bw bG;have oc:=asT (h:=h) abp y ls i;refine ab ?_;simp only[seval,kX];refine aD ?_;refine⟨λb_=> ?_,λb_=> ?_⟩
  ·have br:i<ls.length:=(by omega);have ep:SD.wrap ((i:Int)+1)=((i+1:Nat):Int):=(by rw[bc _ (by omega)];rfl);obtain⟨t,ht⟩:=bE br;have eD:(0<=(i:Int)/\(i:Int)<ls.length)=True:=(by simp;omega);have ud:=asU (h:=h) (y:=y) ht;rw[ud]at gW;have zb:=λj=>ad2 h y t j;have ub:=ad1 h y t;rw[hM]at ub;rw[<- ub]at gW;have dw:=λj=>asG h y t j;rw[DV]at dw;generalize sI h y ls i=L0 at oc gW⊢;generalize stepJ h y t=J at zb dw gW;have Do:J 0=[]:=UI (by have:=zb 0;omega);clear ud ub;refine aF ?_;refine ab ?_;simp only[seval,aM,dN DU,qF,alg];refine bP ?_;refine ek M (λj:Nat=>[(7,.sl (L0++J j).length ((L0++J j).map aM) (.opn B.length)),(9,iv (h0+j))]) (λj=>B++[.tail (L0++J j).length 1 22]) (λ_=>True) (λ_ _=>rfl) (by rw[Do,SN];simp only[seval];simp[bk,Wk.refl]) (by rw[Do,SN]) (λ_ _ _=>by simp) trivial (λbw bG j lS _ R3 iT=> ?_);have am0:=zb j;have xf:=dw j;have Hj:(L0++J j).length<=8000:=(by rw[SQ];omega);refine ab ?_;simp only[seval,bN,cQ,yT,dN G9,GW];refine aD ?_;refine⟨λde=> ?_,λde=> ?_⟩
   ·have dn:j<M:=(by omega);have j4:SD.wrap (h0+(j:Int)+1)=h0+((j+1:Nat):Int):=(by rw[bc _ (by omega)];omega);refine aF ?_;refine ab ?_;simp only[seval,bN,wV,aN,qT,hbp];refine aK ((C9 (h:=h) (y:=y) (n:=h0+(j:Int)) (by omega) ?_));rw[hf y];cases jU:fits h y (h0+(j:Int))with
    |false=>
     have rR:J (j+1)=J j:=(by rw[xf,jU];simp);(try simp only[seval]);refine aD ?_;refine aF ?_;refine ab ?_;simp only[seval,j4];refine iT _ ⟨dn,trivial,?_⟩;rw[rR];exact bX
    |true=>
     have n5:t.length<2^20:=abx t (S6 ht);(try simp only[seval,v7 ht,eD,aM]);refine aK ((ajy (xs:=t) (by omega) λv hv _ _=> ?_));(try simp only[seval]);refine aD ?_;refine⟨λiU=> ?_,λiU=> ?_⟩
     ·have tV:(h0+(j:Int))∉t:=λhm=>by have:=hv.2 hm;first|omega|(simp at iU;omega)
      have rR:L0++J (j+1)=(L0++J j)++[t++[h0+(j:Int)]]:=(by rw[xf,jU];simp[tV]);rw[rR]at iT;generalize L0++J j=W at Hj iT⊢;have tI:(W.map aM).length=W.length:=Ta _;refine ab ?_;simp only[seval,v7 ht,eD,aM];refine aK ((Sf (xs:=t) (by omega) ?_));(try simp only[seval,z1,up,we,bg,bs,tI]);refine⟨by omega,by omega,?_⟩;refine ab ?_;simp only[seval,j4];refine iT _ ⟨dn,trivial,?_⟩;rw[SQ,TH,To];refine uq [.tail (t.length+1) 1 3] (lC rfl rfl) ?_ (D9 kF _ _ _) ?_ (by simp)
      ·(try simp only[seval]);exact⟨⟨_,rfl,have h:=FB (l:=W.map aM) (show Wk (.sl (t.length+1) (t.map iv++[iv (h0+(j:Int))]) (.opn (B.length+1))) (aM (t++[h0+(j:Int)])) by rw[aM,SQ,To];exact eQ _ _ _);zX h.len h.at⟩,_,rfl,Wk.refl _⟩
      ·rw[<- To];simp only[US,dZ,EK,iv];simp
     ·have tV:(h0+(j:Int))∈t:=hv.1 (by first|omega|(simp at iU;omega));have rR:J (j+1)=J j:=(by rw[xf,jU];simp[tV]);refine aF ?_;refine ab ?_;simp only[seval,j4];refine iT _ ⟨dn,trivial,?_⟩;rw[rR];exact bX
   ·have fC:j=M:=(by omega);subst fC;refine bO ?_;refine ab ?_;simp only[seval,ep];refine gW _ ⟨br,trivial,bX⟩
  ·have fC:i=ls.length:=(by omega);subst fC;refine bO ?_;refine aj ?_;refine ab ?_;simp only[seval,bH];refine hR _ ⟨cL,trivial,?_⟩;refine uq [.tail (sI h y ls ls.length).length 1 22] (lC rfl rfl) ?_ kF ?_ rfl
   ·(try simp only[seval]);simp only[bk,Wk.refl,and_true];exact eQ _ _ _
   ·simp only[US,dZ,BD,iv];simp
 ·have fC:p=x.pieces.length:=by omega
  subst fC;rw[Tn];refine bO ?_;exact⟨(),dW (by simp only[seval];simp[bk,Wk.refl]) rfl⟩
end
end Go.Gg
