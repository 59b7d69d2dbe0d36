/- A part of the proof. -/
import Derived.Test.YtkanpclgnhdbiaaGreatDoorTicketTrueCard3
set_option linter.all false
set_option maxRecDepth 4000
set_option maxHeartbeats 4000000
open Array renaming getD_eq_getD_getElem?->SI,getElem?_eq_getElem->SK,getElem?_eq_some_iff->SU,getElem?_modify->Wl,getElem_mem->XS,replicate->TK
open Bool renaming and_eq_true->Tc,and_self->ad',eq_iff_iff->UY,false_and->YE,false_or->ZB,not_eq_true'->TV,or_eq_true->X8,true_and->Vb
open Classical renaming byContradiction->Tl
open Function renaming comp_apply->Wj
open Go renaming Code->T7,Oper->Tx,Program->SJ,Value->SP
open Go.IntKind renaming i64->SF,u16->S7
open Go.Obj renaming deferred->at0
open Go.Proofs.Tryz renaming f15->Xy,f34->ZP,f38->YZ,f39->ZO,f53->ao',prog->SC
open Go.Region renaming linearise->Ze,schedule->VM,wanted->Tj
open Go.Region.linearise renaming go->UE
open Go.Value renaming agg->TE,int->SG,slice->Up
open Int renaming le_refl->Zw,le_trans->XE,mul_le_mul->Yf,toNat->Yu,toNat_natCast->VA,toNat_of_nonneg->Zd
open List renaming all_eq_true->TA,any_append->ZF,any_cons->YV,any_eq_true->Uv,append_assoc->SD,append_eq->Vr,append_eq_nil_iff->YB,append_nil->S0,cons_append->Vf,contains_append->YU,contains_eq_mem->Un,contains_iff_mem->YL,countP_le_length->Y7,drop->UD,drop_append->Vv,drop_append_of_le_length->Wr,drop_eq_getElem_cons->TW,drop_length->X5,drop_of_length_le->WX,drop_zero->Xx,exists_mem_of_ne_nil->Ye,ext_getElem?->Yo,filter_congr->Vj,filter_cons_of_neg->YK,filter_cons_of_pos->YJ,filter_eq_nil_iff->WW,find?_cons_of_pos->YT,flatMap_append->VR,flatMap_cons->T9,flatMap_def->Wh,flatMap_eq_nil_iff->Vq,flatMap_map->WS,foldl_append->ZU,foldl_cons->UR,forall_mem_cons->Xg,getD_cons_succ->Xf,getD_cons_zero->Xl,getD_eq_getElem?_getD->SE,getElem?_append_left->SX,getElem?_append_right->Th,getElem?_drop->Um,getElem?_eq_getElem->SQ,getElem?_eq_none->Ut,getElem?_eq_some_iff->SM,getElem?_eraseIdx->YA,getElem?_map->To,getElem?_of_mem->VH,getElem?_range->Xw,getElem?_set->UU,getElem?_take->Uc,getElem_mem->VQ,getLast?_eq_getElem?->Yc,getLastD_cons->Zv,getLastD_eq_getLast?->Vh,head?_append->WR,head?_cons->X4,length->Z_,length_append->SO,length_cons->Ui,length_drop->Ul,length_eraseIdx_of_lt->VG,length_map->Tp,length_nil->UQ,length_pos_iff->Vs,length_range->ZE,length_replicate->YI,length_set->TQ,length_singleton->TY,length_take->Ub,map->U6,map_append->TF,map_congr_left->VB,map_cons->UP,map_flatMap->Vu,map_map->XW,map_take->VW,mem_append->SS,mem_append_left->Ti,mem_append_right->S6,mem_cons->SL,mem_cons_of_mem->Tb,mem_cons_self->TD,mem_filter->Ud,mem_flatMap->S5,mem_iff_getElem?->UO,mem_map->Td,mem_of_getElem?->Tf,mem_of_mem_eraseIdx->Yn,mem_of_mem_take->Wv,mem_range->Tu,mem_reverse->XI,mem_singleton->S9,nil_append->UF,nodup_append->U5,nodup_cons->VS,nodup_iff_pairwise_ne->Ur,nodup_nil->WO,nodup_range->XU,not_mem_nil->S4,pairwise_flatMap->YH,pairwise_iff_getElem->Yb,pairwise_map->Xu,range->SZ,range'->T5,range'_succ->VP,range_eq_range'->Vo,range_succ->Vk,range_zero->ZD,replicate->TM,reverse_cons->Zm,set_append_left->WB,set_append_right->UN,set_cons_succ->UC,set_cons_zero->TZ,take->Uq,take_add_one->VI,take_append_drop->Vg,take_append_of_le_length->Tw,take_eq_nil_iff->YS,take_length->TH,take_of_length_le->SY,take_set->Z9,take_sublist->Zl,take_succ_cons->U8,take_succ_eq_append_getElem->Wc,take_take->U1,take_zero->an'
open List.Nodup renaming sublist->Yp
open List.Pairwise renaming imp->Z',imp_of_mem->Xs,nil->X6
open List.Perm renaming nodup_iff->ap',refl->af'
open List.cons renaming injEq->WQ
open Nat renaming add_assoc->XD,add_sub_cancel->VY,add_sub_cancel_left->US,add_zero->UK,le_refl->SR,le_trans->UB,lt_of_lt_of_le->Te,lt_or_ge->YG,lt_succ_self->Uu,min_eq_left->Wz,pow_le_pow_right->Wu,reduceAdd->SW,reduceSub->Yt,sub_self->Vd,sub_zero->Z3,succ_mul->XB,testBit_or->WM,testBit_two_pow->Vy,zero_add->Wt,zero_testBit->XL
open Option renaming getD_some->S8,map_some->UM,toList_some->YR
open Option.some renaming injEq->Tn
namespace Go.Gg
open Go.Conc Go.Proofs Go.Gg.Tk
namespace Tk
def aC.more (y:aC)(n:Int):aC:=⟨⟨y.number.min+n,y.number.max+n⟩,y.hour⟩
def kQ (h:List Int)(n:Int):Nat->Int
 |0=> -1
 |i+1=>if h.getD i 0<=n/\n<h.getD (i+1) 0 then i else kQ h n i
end Tk
section
variable {lv:Bool}{H:List aa}{k kp:AV->List aa->Prop}
theorem ahS{a b:Int}(hk:k (.agg [iv a,iv b]) H):bf lv SC 24 H [iv a,iv b] k kp:=by
 refine bH (rs:=[.cell 4 46]) (nt:=8) Tryz.f24 λhH hA=> ?_;simp only[br,SW];refine aj ?_;refine aj ?_;refine aZ ?_;exact jr hH (Wk.refl _) (by simp[tn,eI]) hk
theorem PX{a b c:Int}(hk:k (Seen.av ⟨a,⟨b,c⟩⟩) H):bf lv SC 78 H [iv a,iv b,iv c] k kp:=by
 refine bH (rs:=[.cell 6 61]) (nt:=12) Tryz.f78 λhH hA=> ?_;simp only[br,SW];refine aj ?_;refine aj ?_;refine aZ ?_;exact jr hH (Wk.refl _) (by simp[tn,eI]) hk
theorem qS{a b c d:Int}(hk:k (aC.av ⟨⟨a,b⟩,⟨c,d⟩⟩) H):bf lv SC 79 H [iv a,iv b,iv c,iv d] k kp:=by
 refine bH (rs:=[.cell 8 48]) (nt:=16) Tryz.f79 λhH hA=> ?_;simp only[br,SW];refine aj ?_;refine aj ?_;refine aZ ?_;exact jr hH (Wk.refl _) (by simp[tn,eI]) hk
theorem PT{h:List Int}{n:Int}{e:End}(hl:h.length<=4)(hk:k (iv (kQ h n (h.length-1))) H):bf lv SC 40 H [.sl h.length (h.map iv) e,iv n] k kp:=by
 refine bH (rs:=[.tmp 4]) (nt:=31) Tryz.f40 λhH hA=> ?_;simp only[br,SW];refine aj ?_;refine aj ?_;refine aj ?_;refine cy ?_;refine gL (h.length-1) (λi:Nat=>[(5,iv (kQ h n i)),(6,iv i)]) (λ_=>_) (λi=>True) (λ_ _=>rfl) (by simp only[seval];simp[bz,Wk.refl];exact Wk.refl _) rfl (λ_ _ _=>rfl) trivial (λbU cS i cM _ R hR=> ?_);have fK:SF.wrap ((i:Int)+1)=((i+1:Nat):Int):=by rw[bG _ (by omega)];rfl
 refine ak ?_;simp only[seval,fK];refine aD ?_;refine⟨λhc=> ?_,λhc=> ?_⟩
 ·have bB:i+1<h.length:=by omega
  obtain⟨a,ha⟩:=bX (xs:=h) (i:=i) (by omega);obtain⟨b,hb⟩:=bX (xs:=h) (i:=i+1) bB;have f_:h.getD i 0=a:=by rw[SE,ha];rfl
  have dB:h.getD (i+1) 0=b:=by rw[SE,hb];rfl
  have iE:=jp (show i<h.length by omega);have ui:(0<=(i:Int)+1/\(i:Int)+1<(h.length:Int))=True:=by simp;omega
  have lP:((i:Int)+1).toNat=i+1:=by omega
  have da:kQ h n (i+1)=if a<=n/\n<b then(i:Int)else kQ h n i:=by rw[kQ,f_,dB]
  refine aN ?_;refine cy ?_;by_cases c1:a<=n
  ·have d1:decide (a<=n)=true:=decide_eq_true c1;by_cases c2:n<b
   ·have d2:decide (n<b)=true:=decide_eq_true c2;refine ak ?_;simp only[seval,eJ ha,eJ hb,iE,ui,lP,d1,d2,fK];refine aD ?_;refine aj ?_;refine ak ?_;simp only[seval,fK];rw[if_pos ⟨c1,c2⟩]at da;refine hR _ ⟨by omega,trivial,?_⟩;rw[da];exact dq
   ·have d2:decide (n<b)=false:=decide_eq_false c2;refine ak ?_;simp only[seval,eJ ha,eJ hb,iE,ui,lP,d1,d2,fK];refine aD ?_;refine aN ?_;refine ak ?_;simp only[seval,fK];rw[if_neg (λhh=>c2 hh.2)]at da;refine hR _ ⟨by omega,trivial,?_⟩;rw[da];exact dq
  ·have d1:decide (a<=n)=false:=decide_eq_false c1;refine ak ?_;simp only[seval,eJ ha,iE,d1];refine aD ?_;refine aN ?_;refine ak ?_;simp only[seval,fK];rw[if_neg (λhh=>c1 hh.1)]at da;refine hR _ ⟨by omega,trivial,?_⟩;rw[da];exact dq
 ·have dw:i=h.length-1:=by omega
  subst dw;refine bZ ?_;refine aj ?_;refine aZ ?_;exact bW hk
end
open Go.Conc Go.Proofs Go.Gg.Tk
namespace Tk
end Tk
section
variable {lv:Bool}{H:List aa}{k kp:AV->List aa->Prop}
end
open Go.Conc Go.Proofs Go.Gg.Tk
def vD (τ:bt)(ns:List Int):Int:=ns.getD (dE τ (ns.length-1)).toNat 0
section
variable {lv:Bool}{H:List aa}{k kp:AV->List aa->Prop}{Gf:bt->List aa}{t N:Nat}{τ:bt}{b:Int}
theorem I2{ns:List Int}{e:End}(hT:dX Gf t N)(hτ:τ.Ok b)(hb:b<2^60)(hn:1<=ns.length)(kD:ns.length<2^20)(hk:k (iv (vD τ ns)) (Gf (tick τ))):bf lv SC 45 (Gf τ) [.op t 0,.sl ns.length (ns.map iv) e] k kp:=by
 refine bH (rs:=[.tmp 4]) (nt:=13) Tryz.f45 λhH hA=> ?_;simp only[br,SW];have bN:SF.wrap ((ns.length:Int)-1)=(ns.length:Int)-1:=bG _ (by omega);have hr:=mW τ ((ns.length:Int)-1);unfold vD at hk;obtain⟨j,hj⟩:=Int.eq_ofNat_of_zero_le hr.1;have fi:j<ns.length:=by omega
 obtain⟨v,hv⟩:=bX fi;rw[hj]at hk;have xR:ns.getD ((j:Int)).toNat 0=v:=by rw[VA,SE,hv];rfl
 rw[xR]at hk;refine aj ?_;refine ak ?_;simp only[seval,bN];refine aK ((sD hT hτ hb (by omega) ?_));rw[hj];(try simp only[seval,eJ hv,jp fi]);refine aZ ?_;exact bW hk
end
def mH (τ:bt)(n m lo hi:Int):jk:=⟨max lo (n-dE τ m),min hi (n+dE (tick τ) m)⟩
def lI (τ:bt)(h:List Int)(n hours:Int):aC:=⟨mH τ n 2 0 99,mH (tick (tick τ)) (kQ h n (h.length-1)) 1 0 (hours-1)⟩
section
variable {lv:Bool}{k kp:AV->List aa->Prop}{Gf:bt->List aa}{t N:Nat}{τ:bt}{b:Int}
theorem I3{n m lo hi:Int}(hT:dX Gf t N)(hτ:τ.Ok b)(hb:b<2^30)(hn: -1000<=n/\n<=1000)(hm:0<=m/\m<=3)(hk:k (mH τ n m lo hi).av (Gf (tick (tick τ)))):bf lv SC 48 (Gf τ) [.op t 0,iv n,iv m,.agg [iv lo,iv hi]] k kp:=by
 refine bH (rs:=[.cell 8 46]) (nt:=26) Tryz.f48 λhH hA=> ?_;simp only[br,SW];have oc:dX (λτ=>Gf τ++[.cells [iv lo,iv hi] 46,.cells [iv 0,iv 0] 46]) t (N+2):=hT.more [_,_];have r1:=mW τ m;have r2:=mW (tick τ) m;have bN:SF.wrap (n-dE τ m)=n-dE τ m:=bG _ (by omega);have g_:SF.wrap (n+dE (tick τ) m)=n+dE (tick τ) m:=bG _ (by omega);have Cm:(if lo<n-dE τ m then n-dE τ m else lo)=max lo (n-dE τ m):=by split<;>omega
 have p9:(if n+dE (tick τ) m<hi then n+dE (tick τ) m else hi)=min hi (n+dE (tick τ) m):=by split<;>omega
 refine aj ?_;refine qK [5,13,17] [0,1,2,3,4,5,6,7,8,9,10,11,12,13,14,15,16,17] [⟨0,false,[],[([5],[5]),([5,13],[5,13])]⟩,⟨1,false,[],[([5],[5]),([5,13],[5,13])]⟩,⟨2,false,[],[([5],[5]),([5,13],[5,13])]⟩,⟨3,false,[],[]⟩,⟨4,false,[],[]⟩,⟨5,true,[5],[]⟩,⟨6,false,[5],[([5,13],[5,13])]⟩,⟨7,false,[5],[([5,13],[5,13])]⟩,⟨8,false,[5],[([],[]),([5,13],[5,13])]⟩,⟨9,false,[5],[([],[]),([5,13],[5,13])]⟩,⟨10,false,[5],[([],[]),([5,13],[5,13])]⟩,⟨11,false,[5],[([],[])]⟩,⟨12,false,[5],[([],[])]⟩,⟨13,true,[5,13],[]⟩,⟨14,false,[5,13],[]⟩,⟨15,false,[5,13],[]⟩,⟨16,false,[5,13],[]⟩,⟨17,true,[5,13,17],[]⟩] (λD=>bif isDone 17 D then Gf (tick (tick τ))++[.cells [iv lo,iv hi] 46,.cells [iv (max lo (n-dE τ m)),iv (min hi (n+dE (tick τ) m))] 46]else bif isDone 13 D then Gf (tick (tick τ))++[.cells [iv lo,iv hi] 46,.cells [iv 0,iv 0] 46]else bif isDone 5 D then Gf (tick τ)++[.cells [iv lo,iv hi] 46,.cells [iv 0,iv 0] 46]else Gf τ++[.cells [iv lo,iv hi] 46,.cells [iv 0,iv 0] 46]) ?_;simp only[seval,hT.len,hT.g0,hT.g1,hT.g2,hT.g3,hT.h2,hT.h3,hT.s0,hT.s1,hT.s2,hT.s3,hT.t2,hT.t3,bN,g_,Cm,p9];refine kZ _ _ (cI (sD (oc) hτ (by omega) (by omega) ⟨rfl,rfl⟩)) ?_;(try simp only[seval,hT.len,hT.g0,hT.g1,hT.g2,hT.g3,hT.h2,hT.h3,hT.s0,hT.s1,hT.s2,hT.s3,hT.t2,hT.t3,bN,g_,Cm,p9]);refine kZ _ _ (cI (sD (oc) hτ.tick (by omega) (by omega) ⟨rfl,rfl⟩)) ?_;(try simp only[seval,hT.len,hT.g0,hT.g1,hT.g2,hT.g3,hT.h2,hT.h3,hT.s0,hT.s1,hT.s2,hT.s3,hT.t2,hT.t3,bN,g_,Cm,p9]);refine oN ?_;simp only[seval,hT.len,hT.g0,hT.g1,hT.g2,hT.g3,hT.h2,hT.h3,hT.s0,hT.s1,hT.s2,hT.s3,hT.t2,hT.t3];exact jR (b:=(mH τ n m lo hi).av) (H':=Gf (tick (tick τ))) (Wk.refl _) rfl (by simp[hT.len]) (hT.az hH _) (by simp[jk.av,jk.l,tn,eI]) hk
theorem PV{h:List Int}{n hours:Int}{e:End}(hT:dX Gf t N)(hτ:τ.Ok b)(hb:b<2^20)(hl:h.length<=4)(hn: -1000<=n/\n<=1000)(hh:1<=hours/\hours<=3)(qg: -1<=kQ h n (h.length-1)/\kQ h n (h.length-1)<=4)(hk:k (lI τ h n hours).av (Gf (tick (tick (tick (tick τ)))))):bf lv SC 47 (Gf τ) [.op t 0,.sl h.length (h.map iv) e,iv n,iv hours] k kp:=by
 refine bH (rs:=[.cell 8 48]) (nt:=22) Tryz.f47 λhH hA=> ?_;simp only[br,SW];have ug:∀o:aa,dX (λτ=>Gf τ++[o]) t (N+1):=λo=>hT.more [o];have bN:SF.wrap (hours-1)=hours-1:=bG _ (by omega);refine aj ?_;refine ak ?_;simp only[seval,bN];refine aK ((I3 (n:=n) (m:=2) (lo:=0) (hi:=99) (ug _) hτ (by omega) hn (by decide) ?_));(try simp only[seval]);refine aK ((PT (h:=h) (n:=n) hl ?_));(try simp only[seval,bN]);refine aK ((I3 (n:=kQ h n (h.length-1)) (m:=1) (lo:=0) (hi:=hours-1) (ug _) hτ.tick.tick (by omega) (by omega) (by decide) ?_));(try simp only[seval,hT.len,hT.g0,hT.g1,hT.g2,hT.g3,hT.h2,hT.h3,hT.s0,hT.s1,hT.s2,hT.s3,hT.t2,hT.t3,jk.av,jk.l]);refine oN ?_;simp only[seval,hT.len,hT.g0,hT.g1,hT.g2,hT.g3,hT.h2,hT.h3,hT.s0,hT.s1,hT.s2,hT.s3,hT.t2,hT.t3];exact jR (b:=(lI τ h n hours).av) (H':=Gf (tick (tick (tick (tick τ))))) (Wk.refl _) rfl (by simp[hT.len]) (hT.az hH _) (by simp[aC.av,aC.l,tn,eI]) hk
end
end Go.Gg
namespace Go.Gg.Tk
def tO:List Int->Prop
 |a::b::l=>a<=b/\tO (b::l)
 |_=>True
theorem adc{h:List Int}{n:Int}(hl:2<=h.length)(pY:h.length<=4)(hm:tO h):kQ h n (h.length-1)=gw h n:=by
 match h,hl,pY,hm with
 |[a,b],_,_,hm=>
  simp only[gw,ft,kQ,Ui,UQ,Xl,Xf,SW,Yt]
 |[a,b,c],_,_,hm=>
  obtain⟨h1,h2,_⟩:=hm;simp only[gw,ft,kQ,Ui,UQ,Xl,Xf,SW,Yt];split<;>split<;>first|rfl|omega
 |[a,b,c,d],_,_,hm=>
  obtain⟨h1,h2,h3,_⟩:=hm;simp only[gw,ft,kQ,Ui,UQ,Xl,Xf,SW,Yt];split<;>split<;>first|rfl|omega|(split<;>first|rfl|omega)
end Go.Gg.Tk
namespace Go.Gg
open Go.Conc
section
variable {lv:Bool}{P:SJ}{r:Option Nat}{o:Tx}{s:AS}{next:AS->Prop}{bad:AV->AS->Prop}
end
section
variable (lv:Bool)(P:SJ)(r:Option Nat)
def A0:List Tx->AS->(AS->Prop)->(AV->AS->Prop)->Prop
 |[],s,K,_=>K s
 |o::rest,s,K,bad=>o.guard=none/\Step lv P r o s (λs'=>A0 rest s' K bad) bad
end
section
variable {lv:Bool}{P:SJ}{r:Option Nat}{s:AS}
theorem acB{nt:Nat}{all:Array Tx}{Φ:an->AS->Prop}(dn:∀o∈all,∀d,o.dst=some d->d<nt)(ny:∀o∈all,r=none\/ml o.op=false):∀(n k:Nat)(s:AS),k+n=all.size->A0 lv P r (all.toList.drop k) s (Φ .normal) (λpv s=>Φ (.panic pv) s)->
  ∀(E:Env)(V:View)(a:Act)(Q:Ex->Act->View->Prop),At E V s a nt->(∀ae e E' V' a' s',Kept E E' V V' a a'->At E' V' s' a' nt->pw E' ae e->Φ ae s'->Q e a' V')->dj lv P r all Q (T5 k n) a V
 |0,k,s,hk,h,E,V,a,Q,ah,hQ=>by
  have:all.toList.drop k=[]:=by simp;omega
  rw[this]at h;exact hQ .normal .normal E V a s (Kept.refl E V a) ah trivial h
 |n+1,k,s,hk,h,E,V,a,Q,ah,hQ=>by
  have hlt:k<all.size:=by omega
  have hd:all.toList.drop k=all[k]::all.toList.drop (k+1):=by
   rw[TW (by simpa using hlt)];simp
  rw[hd]at h;have eB:all[k]∈all:=XS hlt;have ho:all[k]?=some all[k]:=SK hlt;simp only[VP,dj,ho];obtain⟨hg,h⟩:=h;have hw:Tj all[k] (yielded all a.tmps)=true:=by unfold Tj;rw[hg]
  rw[if_pos hw];refine .inl (h E V a _ Q ah.bu ah.tok (λd e=>by rw[ah.size];exact dn _ eB d e) (ny _ eB) (λE' V' a' s' aI bi mi hn=> ?_) (λE' V' s' pv v aI bi mi bk hb=> ?_))
  ·exact acB dn ny n (k+1) s' (by omega) hn E' V' a' Q ⟨bi,mi,aI.size.trans ah.size⟩ (λae e bQ aS cm di fM de he hΦ=>hQ ae e bQ aS cm di (aI.trans fM) de he hΦ)
  ·exact hQ (.panic pv) (.panic _) E' V' a s' aI ⟨bi,mi,ah.size⟩ ⟨v,rfl,bk⟩ hb
theorem afm{nt id:Nat}{ops:Array Tx}{Φ:an->AS->Prop}(hd:jQ nt ops=true)(h:A0 lv P r ops.toList s (Φ .normal) (λpv s=>Φ (.panic pv) s)):aW lv P r nt (.region id ops false) s Φ:=by
 intro E V a Q ah hQ;refine wp_region ?_;rw[Vo];exact acB (Φ:=Φ) (λo ho d e=>(jQ.out hd ho).1 d e) (λo ho=> .inr (jQ.out hd ho).2) ops.size 0 s (by omega) (by simpa using h) E V a Q ah hQ
end
section
variable {lv:Bool}{P:SJ}{r:Option Nat}{o:Tx}{s:AS}{next:AS->Prop}{bad:AV->AS->Prop}
theorem Ic{nt id:Nat}{c:T7}{l:List AV}{el:TypeId}{Φ:an->AS->Prop}(cg:s.H[id]?=some (.cells l el))(h:aW lv P r nt c ⟨s.T,s.H.set id (.part l.length l el)⟩ Φ):aW lv P r nt c s Φ:=λE V a Q ah hQ=>by
 have hc:=ah.bu;obtain⟨⟨cs,ja,hd⟩,nA⟩:=hc.obj id _ cg;have g:dW V (V.ig (E.blk id) cs (λo=>decide (o<l.length))):=yZ ja (λo _=>nA o);refine WP.ghost g ?_;have hI:∀b o v,E.I b o=some v->(V.ig (E.blk id) cs (λo=>decide (o<l.length))).ab b o=some v:=λb o v e=>by
  rw[hc.I]at e;have hb:b≠E.blk id:=λhb=>by rw[hb,nA]at e;cases e
  simp only[View.ig];rw[if_neg (λx=>hb x.1)];exact e
 have hle:E.Le {E with I:=(V.ig (E.blk id) cs (λo=>decide (o<l.length))).ab}:=⟨hI,SR _,λ_ _=>rfl,λ_ _=>SR _,λ_ _ _ _=>rfl,rfl,rfl⟩;have cT:Conc {E with I:=(V.ig (E.blk id) cs (λo=>decide (o<l.length))).ab} (V.ig (E.blk id) cs (λo=>decide (o<l.length))) (s.H.set id (.part l.length l el)):=by
  refine hc.iO id _ hle rfl (by rw[TQ];exact hc.n) lS rfl (λ_ _ _=>rfl) (λb y fO hy=>⟨hy,λo=> ?_⟩) ⟨⟨cs,ja,(hd.mono hle).p,λo ho=> ?_⟩,λo ho=> ?_⟩ (λb hb=> .inl ⟨_,cg,hb⟩)
  ·have hb:b≠E.blk id:=λhb=>fO _ cg (by rw[hb];rfl);simp only[View.ig];rw[if_neg (λx=>hb x.1)]
  ·simp only[View.ig];rw[if_pos ⟨trivial,by simpa using ho⟩]
  ·simp only[View.ig];rw[if_neg (λx=>by have:=x.2;simp at this;omega)];exact nA o
 exact h _ _ a Q ⟨cT,ah.tok.mono hle,ah.size⟩ λae e E' aS a' s' hk=>hQ ae e E' aS a' s' ((⟨hle,rfl,rfl,rfl,rfl⟩:Kept E _ V (V.ig (E.blk id) cs (λo=>decide (o<l.length))) a a).trans hk)
def A4 (H:List aa)(b a:AV):Prop:=∀E V v,Conc E V H->ap E b v->ap E a v
theorem A4.of{H:List aa}{b a:AV}(h:Wk b a):A4 H b a:=λE _ v _ d=>h E v d
theorem Ny{H:List aa}{id n cap m p:Nat}{l:List AV}{el:TypeId}(cg:H[id]?=some (.part p l el))(hm:m<=p)(hp:p<=l.length):A4 H (.bJ id 0 n cap) (.sl n (l.take m) .shut):=λE V v hc hd=>by
 cases hd with
 |bJ hi dP=>
  rename_i cap';obtain⟨⟨cs,ho,Fh,un⟩,_⟩:=hc.obj id _ cg;refine .sl (E.blk id) 0 cap' (λi=>cs.getD i undef) dP.1 trivial (λi cD=> ?_) (λi x hx=> ?_)
  ·rw[Ub]at cD;have hlt:i<cs.size:=(by have:=Fh.1;omega);rw[hc.I,Wt,un i (by omega),SI,SK hlt];rfl
  ·rw[Uc]at hx;split at hx
   ·exact Fh.2 i x hx
   ·cases hx
theorem afr{nt id j:Nat}{c:T7}{l:List AV}{x y:AV}{el:TypeId}{Φ:an->AS->Prop}(cg:s.H[id]?=some (.cells l el))(hj:l[j]?=some x)(hw:A4 s.H x y)(h:aW lv P r nt c ⟨s.T,s.H.set id (.cells (l.set j y) el)⟩ Φ):aW lv P r nt c s Φ:=λE V a Q ah hQ=>by
 have hc:=ah.bu;obtain⟨⟨cs,ja,hd⟩,nA⟩:=hc.obj id _ cg;have cT:Conc E V (s.H.set id (.cells (l.set j y) el)):=
  hc.iO id _ (Env.Le.refl _) hc.I (by rw[hc.n,TQ]) lS rfl (λ_ _ _=>rfl) (λb y _ hy=>⟨hy,λ_=>rfl⟩) ⟨⟨cs,ja,Pf hd hj (λv d=>hw E V v hc d)⟩,nA⟩ (λb dB=> .inl ⟨_,cg,dB⟩)
 exact h E V a Q ⟨cT,ah.tok,ah.size⟩ hQ
theorem Oz{nt t:Nat}{c:T7}{x y:AV}{Φ:an->AS->Prop}(ht:look s.T t=some x)(hw:A4 s.H x y)(h:aW lv P r nt c ⟨(t,y)::s.T,s.H⟩ Φ):aW lv P r nt c s Φ:=λE V a Q ah hQ=>by
 refine h E V a Q ⟨ah.bu,λt' b e=> ?_,ah.size⟩ hQ;simp only[look]at e;split at e
 ·rename_i e';subst e';cases e;exact⟨(ah.tok t x ht).1,hw E V _ ah.bu (ah.tok t x ht).2⟩
 ·exact ah.tok t' b e
end
open Go.Proofs Go.Gg.Tk
def h_ (τ:bt)(n:Nat):Nat->List Int×bt
 |0=>(TM n 0,τ)
 |i+1=>(((h_ τ n i).1.set i ((h_ τ n i).1.getD (dE (h_ τ n i).2 i).toNat 0)).set (dE (h_ τ n i).2 i).toNat i,tick (h_ τ n i).2)
theorem z_(τ:bt)(n:Nat):∀i,(h_ τ n i).1.length=n
 |0=>YI
 |i+1=>by rw[h_,TQ,TQ,z_ τ n i]
theorem Gu{τ:bt}{b:Int}(h:τ.Ok b)(n:Nat):∀i:Nat,(h_ τ n i).2.Ok (b+i)
 |0=>h.mono (by simp)
 |i+1=>(Gu h n i).tick.mono (by simp;omega)
theorem adB(n:Nat):gI (SG .i64 0) n=(TM n (0:Int)).map iv:=by
 have h:∀i∈SZ n,AV.pj ((SG SF 0).cells[i % (SG SF 0).cells.size]!)=iv 0:=λi _=>by
  rw[show (SG SF 0).cells.size=1 from rfl,Nat.mod_one];rfl
 rw[List.map_replicate];unfold gI;rw[VB h,List.map_const',ZE]
section
variable {lv:Bool}{k kp:AV->List aa->Prop}{Gf:bt->List aa}{t N:Nat}{τ:bt}{b:Int}
theorem PS{n:Nat}(hT:dX Gf t N)(hτ:τ.Ok b)(hb:b<2^30)(hn:n<=2^20)(hk:k (ba (h_ τ n n).1) (Gf (h_ τ n n).2)):bf lv SC 37 (Gf τ) [.op t 0,iv n] k kp:=by
 refine bH (rs:=[.tmp 4]) (nt:=30) Tryz.f37 λhH hA=> ?_;simp only[br,SW];have ug:∀o:aa,dX (λτ=>Gf τ++[o]) t (N+1):=λo=>hT.more [o];refine aj ?_;refine ak ?_;simp only[seval,adB,hT.len];refine⟨by omega,by omega,?_⟩;refine aj ?_;refine cy ?_;refine gL n (λi:Nat=>[(6,iv i)]) (λi=>Gf (h_ τ n i).2++[.cells ((h_ τ n i).1.map iv) 3]) (λ_=>True) (λ_ _=>rfl) (by simp only[seval];simp[bz,Wk.refl]) rfl (λ_ _ _=>by simp[hT.len]) trivial (λbU cS i cM hi R hR=> ?_);clear bU cS;refine aj ?_;refine aD ?_;refine⟨λh=> ?_,λh=> ?_⟩
 ·have bB:i<n:=by omega
  have az:=Gu hτ n i;have hlen:=z_ τ n i;have xU:SF.wrap ((i:Int)+1)=i+1:=bG _ (by omega);have eT:h_ τ n (i+1)=(((h_ τ n i).1.set i ((h_ τ n i).1.getD (dE (h_ τ n i).2 i).toNat 0)).set (dE (h_ τ n i).2 i).toNat i,tick (h_ τ n i).2):=rfl;generalize h_ τ n i=m at az hlen eT⊢;obtain⟨l,σ⟩:=m;simp only at az hlen eT;have hr:=mW σ i;refine aN ?_;refine aj ?_;refine aK ((sD (ug _) az (by omega) (by omega) ?_));(try simp only[seval]);generalize dE σ i=u at hr eT⊢;obtain⟨u,rfl⟩:∃w:Nat,u=w:=⟨u.toNat,by omega⟩;rw[VA]at eT;have xQ:u<n:=by omega
  obtain⟨a,ha⟩:=bX (xs:=l) (i:=u) (by omega);have Ke:l.getD u 0=a:=by rw[SE,ha];rfl
  rw[Ke]at eT;obtain⟨a2,BY⟩:=bX (xs:=l) (i:=i) (by omega);have FC:(i+1<=l.length)=True:=by simp;omega
  have hou:(u+1<=(l.set i a).length)=True:=by simp;omega
  refine ak ?_;simp only[seval,jp bB,jp xQ,hT.len,hT.g0,hT.g1,hT.g2,hT.g3,hT.h2,hT.h3,hT.s0,hT.s1,hT.s2,hT.s3,hT.t2,hT.t3,kX ha,Tp,FC,wz (y:=a) (show i<l.length by omega)];refine ak ?_;simp only[seval,jp xQ,hT.len,hT.g0,hT.g1,hT.g2,hT.g3,hT.h2,hT.h3,hT.s0,hT.s1,hT.s2,hT.s3,hT.t2,hT.t3,Tp,hou,wz (xs:=l.set i a) (y:=i) (show u<(l.set i a).length by simp;omega)];refine ak ?_;simp only[seval,xU];refine hR _ ⟨bB,trivial,?_⟩;rw[eT];exact dq
 ·have pX:i=n:=by omega
  subst pX;clear hR;refine bZ ?_;have hlen:=z_ τ i i;generalize h_ τ i i=m at hlen hk⊢;obtain⟨l,σ⟩:=m;simp only at hlen hk
  (repeat apply gW);refine Ic (id:=N) (by simp only[seval,hT.len,hT.g0,hT.g1,hT.g2,hT.g3,hT.h2,hT.h3,hT.s0,hT.s1,hT.s2,hT.s3,hT.t2,hT.t3]<;>rfl) ?_
  simp only[seval,hT.len,hT.g0,hT.g1,hT.g2,hT.g3,hT.h2,hT.h3,hT.s0,hT.s1,hT.s2,hT.s3,hT.t2,hT.t3]
  (repeat apply gW);refine Oz (t:=5) (y:=ba l) (by simp only[seval]<;>rfl) ?_ ?_
  ·have e:ba l=.sl i ((l.map iv).take i) .shut:=by
    rw[SY (by simp;omega),ba,hlen]
   rw[e];exact Ny (p:=l.length) (by simp only[seval,hT.len,hT.g0,hT.g1,hT.g2,hT.g3,hT.h2,hT.h3,hT.s0,hT.s1,hT.s2,hT.s3,hT.t2,hT.t3]<;>rfl) (by omega) (by simp)
  refine aj ?_;refine aZ ?_;exact jR (b:=ba l) (H':=Gf σ) (G:=[.part l.length (l.map iv) 3]) (Wk.refl _) rfl (by simp[hT.len]) (hT.az hH σ) (by rw[x7];trivial) hk
end
structure HP (p:List Int)(n:Nat):Prop where
 len:p.length=n
 nodup:p.Nodup
 GY:∀v∈p,0<=v/\v<(n:Int)
theorem set_perm{t:List Int}{k:Nat}{a b:Int}(h:t[k]?=some a):(t.set k b++[a]).Perm (t++[b]):=by
 obtain⟨hk,rfl⟩:=SM.1 h;have e:t=t.take k++t[k]::t.drop (k+1):=by rw[<- TW hk,Vg]
 rw[List.set_eq_take_append_cons_drop,if_pos hk]
 conv=>rhs;rw[e]
 rw[List.perm_iff_count];intro v;simp only[List.count_append,List.count_cons,List.count_nil];omega
theorem aaX(τ:bt)(n:Nat):∀i:Nat,i<=n->((h_ τ n i).1.take i).Nodup/\∀v∈(h_ τ n i).1.take i,0<=v/\v<(i:Int)
 |0,_=>by simp
 |i+1,hi=>by
  obtain⟨h1,h2⟩:=aaX τ n i (by omega);have hlen:=z_ τ n i;rw[h_];generalize h_ τ n i=m at h1 h2 hlen⊢;obtain⟨l,σ⟩:=m;simp only at h1 h2 hlen⊢;have hr:=mW σ i;generalize dE σ i=u at hr⊢;obtain⟨k,rfl⟩:∃w:Nat,u=w:=⟨u.toNat,by omega⟩;rw[VA];obtain⟨a,ha⟩:=bX (xs:=l) (i:=k) (by omega);obtain⟨c,hc⟩:=bX (xs:=l) (i:=i) (by omega);have Ke:l.getD k 0=a:=by rw[SE,ha];rfl
  have v9:(l.take i).length=i:=by rw[Ub];omega
  have hp:(((l.set i a).set k (i:Int)).take (i+1)).Perm (l.take i++[(i:Int)]):=by
   rw[Z9,Z9,VI,hc];show ((((l.take i)++[c]).set i a).set k (i:Int)).Perm _;rw[UN _ _ (by omega),v9,Vd];show (((l.take i)++[a]).set k (i:Int)).Perm _;by_cases e:k=i
   ·subst e;rw[UN _ _ (by omega),v9,Vd];exact af' _
   ·rw[WB _ _ (by omega)];exact set_perm (by rw[Uc,if_pos (by omega)];exact ha)
  rw[Ke];refine⟨(ap' hp).2 ?_,λv hv=> ?_⟩
  ·exact U5.2 ⟨h1,by simp,λx hx y hy e=>by
    have:=h2 x hx;simp at hy;omega⟩
  ·rcases SS.1 (hp.mem_iff.1 hv)with hv|hv
   ·have:=h2 v hv;omega
   ·simp at hv;omega
theorem aaY(τ:bt)(n:Nat):HP (h_ τ n n).1 n:=by
 obtain⟨h1,h2⟩:=aaX τ n n (SR _);rw[SY (by rw[z_];exact SR _)]at h1 h2;exact⟨z_ τ n n,h1,h2⟩
theorem Ef{τ:bt}{n m lo hi:Int}(hn:lo<=n/\n<=hi)(oX:0<=lo):u_ (mH τ n m lo hi) hi/\kJ (mH τ n m lo hi) n=true:=by
 have r1:=mW τ m;have r2:=mW (tick τ) m;unfold mH;refine⟨⟨?_,?_,?_⟩,?_⟩
 ·dsimp only;omega
 ·dsimp only;omega
 ·dsimp only;omega
 ·unfold kJ;rw[Tc,decide_eq_true_eq,decide_eq_true_eq];dsimp only;omega
theorem IU(τ:bt){ns:List Int}(h:ns≠[]):vD τ ns∈ns:=by
 unfold vD;have hl:0<ns.length:=Vs.2 h;have r:=mW τ ((ns.length:Int)-1);have hi:(dE τ ((ns.length:Int)-1)).toNat<ns.length:=by omega
 rw[SE,SQ hi];exact VQ hi
def wB (τ:bt)(am:Int):Int:=vD (tick τ) [0,am,dE τ am]
theorem acE(τ:bt){am:Int}(h:0<=am):0<=wB τ am/\wB τ am<=am:=by
 have r:=mW τ am;have:=IU (tick τ) (ns:=[0,am,dE τ am]) (by simp);unfold wB;simp only[SL,S4,or_false]at this;omega
def lj (τ:bt)(first am:Int):Nat->List Int×bt
 |0=>([first],τ)
 |i+1=>((lj τ first am i).1++[(lj τ first am i).1.getD i 0+wB (lj τ first am i).2 am],tick (tick (lj τ first am i).2))
structure mY (first am:Int)(l:List Int)(i:Nat):Prop where
 len:l.length=i+1
 head:l.getD 0 0=first
 step:∀j,j<i->l.getD j 0<=l.getD (j+1) 0/\l.getD (j+1) 0<=l.getD j 0+am
theorem EH{l:List Int}{v:Int}{j:Nat}(h:j<l.length):(l++[v]).getD j 0=l.getD j 0:=by
 rw[SE,SE,SX h]
theorem ajc{l:List Int}{v:Int}{j:Nat}(h:l.length=j):(l++[v]).getD j 0=v:=by
 subst h;rw[SE,Th (SR _),Vd];rfl
theorem Rz(τ:bt)(first:Int){am:Int}(h:0<=am):∀i,mY first am (lj τ first am i).1 i
 |0=>⟨rfl,rfl,λj hj=>by omega⟩
 |i+1=>by
  have ih:=Rz τ first h i
  rw[lj];have hs:=acE (lj τ first am i).2 h;generalize wB (lj τ first am i).2 am=v at hs⊢;generalize(lj τ first am i).1=l at ih⊢;have hl:=ih.len;refine⟨by rw[SO,hl];rfl,by rw[EH (by omega)];exact ih.head,λj hj=> ?_⟩;by_cases cp:j<i
  ·rw[EH (by omega),EH (by omega)];exact ih.step j cp
  ·have:j=i:=(by omega);subst this;rw[EH (by omega),ajc (by omega)];omega
theorem RA{τ:bt}{b:Int}(h:τ.Ok b)(first am:Int):∀i:Nat,(lj τ first am i).2.Ok (b+2* i)
 |0=>h.mono (by simp)
 |i+1=>(RA h first am i).tick.tick.mono (by simp;omega)
theorem mY.ge{first am:Int}{l:List Int}{i:Nat}(h:mY first am l i)(hp:0<=am):∀j,j<=i->first<=l.getD j 0/\l.getD j 0<=first+am* j
 |0,_=>by rw[h.head];simp
 |j+1,hj=>by
  have ih:=h.ge hp j (by omega);have:=h.step j (by omega);have e:am* ((j+1:Nat):Int)=am* j+am:=by rw[Int.natCast_add,Int.mul_add];simp
  omega
def kK (first:Int)(order:List Int)(i:Nat):List Int:=(SZ i).map λj=>first+order.getD j 0
theorem aba(first:Int)(order:List Int)(i:Nat):kK first order (i+1)=kK first order i++[first+order.getD i 0]:=by
 unfold kK;rw[Vk,TF];rfl
theorem aa9(first:Int)(order:List Int)(i:Nat):(kK first order i).length=i:=by simp[kK]
def kA (h:List Int)(hours:Int)(num:Nat->Int)(τ:bt):Nat->List aC×bt
 |0=>([],τ)
 |i+1=>((kA h hours num τ i).1++[lI (tick (kA h hours num τ i).2) h (num i) hours],tick (tick (tick (tick (tick (kA h hours num τ i).2)))))
theorem zi(h:List Int)(hours:Int)(num:Nat->Int)(τ:bt):∀i,(kA h hours num τ i).1.length=i
 |0=>rfl
 |i+1=>by rw[kA,SO,zi h hours num τ i];rfl
theorem JM{τ:bt}{b:Int}(hτ:τ.Ok b)(h:List Int)(hours:Int)(num:Nat->Int):∀i:Nat,(kA h hours num τ i).2.Ok (b+5* i)
 |0=>hτ.mono (by simp)
 |i+1=>(JM hτ h hours num i).tick.tick.tick.tick.tick.mono (by simp;omega)
def rQ (h:List Int)(hours:Int)(τ:bt):Nat->List Seen×bt
 |0=>([],τ)
 |i+1=>((rQ h hours τ i).1++[⟨dE (rQ h hours τ i).2 hours,mH (tick (rQ h hours τ i).2) (h.getD (dE (rQ h hours τ i).2 hours).toNat 0) 1 0 99⟩],tick (tick (tick (rQ h hours τ i).2)))
theorem ab4(h:List Int)(hours:Int)(τ:bt):∀i,(rQ h hours τ i).1.length=i
 |0=>rfl
 |i+1=>by rw[rQ,SO,ab4 h hours τ i];rfl
theorem ab6{τ:bt}{b:Int}(hτ:τ.Ok b)(h:List Int)(hours:Int):∀i:Nat,(rQ h hours τ i).2.Ok (b+3* i)
 |0=>hτ.mono (by simp)
 |i+1=>(ab6 hτ h hours i).tick.tick.tick.mono (by simp;omega)
theorem ab5{h:List Int}{hours:Int}{τ:bt}(hu:∀τ,0<=dE τ hours/\dE τ hours<=hours):∀i,∀s∈(rQ h hours τ i).1,0<=s.hour/\s.hour<=hours/\∃σ,s.next=mH σ (h.getD s.hour.toNat 0) 1 0 99
 |0,s,hs=>by cases hs
 |i+1,s,hs=>by
  rw[rQ]at hs;rcases SS.1 hs with hs|hs
  ·exact ab5 hu i s hs
  ·rw[S9]at hs;subst hs;exact⟨(hu _).1,(hu _).2,_,rfl⟩
structure D1 (h:List Int)(hours n:Int)(y:aC):Prop where
 num:u_ y.number 99
 hour:u_ y.hour (hours-1)
 fits:fits h y n=true
theorem JL{h:List Int}{hours:Int}{num:Nat->Int}{τ:bt}{P:Int->aC->Prop}(hP:∀τ n,P n (lI τ h n hours)):∀i j y,(kA h hours num τ i).1[j]?=some y->P (num j) y
 |0,j,y,hy=>by cases hy
 |i+1,j,y,hy=>by
  rw[kA]at hy;have hl:=zi h hours num τ i;by_cases hj:j<i
  ·rw[SX (by omega)]at hy;exact JL hP i j y hy
  ·rw[Th (by omega),hl]at hy;have:j=i:=(by have:=(SM.1 hy).1;simp at this;omega);subst this;rw[Vd]at hy;cases hy;exact hP _ _
section
variable {lv:Bool}{P:SJ}{r:Option Nat}{s:AS}
theorem Ib{nt:Nat}{x y:T7}{α:Type}{Φ Ψ:an->AS->Prop}(inv:α->AS)(ok:α->Prop)(h1:aW lv P r nt x s (an.then (λs'=>∃a,ok a/\s'.Sub (inv a)) Ψ))(h2:∀a,ok a->aW lv P r nt y (inv a) Φ):aW lv P r nt x s (an.then (λs'=>aW lv P r nt y s' Φ) Ψ):=
 h1.mono λe s' h=>by
  cases e with
  |normal=>
   obtain⟨a,h3,h4⟩:=h;exact kV h4 (h2 a h3)
  |_=>exact h
end
theorem NP:gI (SG .i64 0) 3=[iv 0,iv 0,iv 0]:=rfl
theorem zE4:gI (SG .i64 0) 4=[iv 0,iv 0,iv 0,iv 0]:=rfl
theorem HF:gI (TE #[SG .i64 0,SG .i64 0,SG .i64 0,SG .i64 0]) 4=[iv 0,iv 0,iv 0,iv 0]:=rfl
theorem zS1:gI (TE #[SG .i64 0,SG .i64 0,SG .i64 0]) 3=[iv 0,iv 0,iv 0]:=rfl
theorem Da:(3<=2^24)=True:=eq_true (by decide)
theorem Aj:(4<=2^24)=True:=eq_true (by decide)
theorem Ai:(1<=2^24)=True:=eq_true (by decide)
theorem ads{first am w v:Int}{i:Nat}(h1:first<=w/\w<=first+am* i)(h2:0<=v/\v<=am)(hf:0<=first/\first<=90)(hp:1<=am/\am<=3)(hi:i<=3):0<=w+v/\w+v<=1000:=by
 have:am* (i:Int)<=3* 3:=Yf (by omega) (by omega) (by omega) (by omega);generalize am* (i:Int)=q at h1 this;omega
theorem Lq{n:Int}(h:0<=n/\n<=1000):SF.wrap n=n:=bG _ (by omega)
theorem No(h:List Int)(n:Int):∀m:Nat, -1<=kQ h n m/\kQ h n m<m
 |0=>by simp[kQ]
 |m+1=>by
  have:=No h n m;unfold kQ;split
  ·omega
  ·omega
theorem Jg:∀l:List aC,(l.flatMap aC.l).length=l.length* 4
 |[]=>rfl
 |a::l=>by rw[T9,SO,Jg l,aC.len,Ui];omega
theorem Qb:∀l:List Seen,(l.flatMap Seen.l).length=l.length* 3
 |[]=>rfl
 |a::l=>by rw[T9,SO,Qb l,Seen.len,Ui];omega
theorem Jh{α:Type}{f:α->List AV}{l:List α}{a:α}:(l++[a]).flatMap f=l.flatMap f++f a:=by rw[VR];simp
theorem am1{α:Type}{f:Nat->α}{l:List α}{n:Nat}(hl:l.length=n)(h:∀i,i<n->l[i]?=some (f i)):(SZ n).map f=l:=by
 refine Yo λi=> ?_;rw[To];by_cases hi:i<n
 ·rw[Xw hi,UM,h i hi]
 ·rw[Ut (by simp;omega),Ut (by omega)];rfl
def NW (a b:Nat):Prop:=(if(a:Int)<(b:Int)then(a:Int)else(b:Int))=((min b a:Nat):Int)
theorem aaW(a b:Nat):NW a b:=by unfold NW;split<;>omega
structure Made (pm:Nat)(x:ai)(aO ay bC:List Int):Prop where
 first:0<=x.first/\x.first<=90
 hours:1<=x.hours/\x.hours<=3
 am:1<=x.am/\x.am<=3
 zB:mY x.first x.am aO x.hours.toNat
 anc:x.pieces.length<=pm
 uR:ay.length=x.pieces.length
 num:∀n∈ay,x.first<=n/\n<aO.getD x.hours.toNat 0
 Gx:ay.Nodup
 piece:∀(p:Nat) y,x.pieces[p]?=some y->∃τ,y=lI τ aO (ay.getD p 0) x.hours
 uS:bC.length=x.aB.length
 aB:x.aB.length<=3
 own:∀v∈bC,0<=v/\v<(ay.length:Int)
 GL:bC.Nodup
 stub:∀(s:Nat) y,x.aB[s]?=some y->∃τ,y=lI τ aO (ay.getD (bC.getD s 0).toNat 0) x.hours
 yi:x.seen.length<=2
 seen:∀s∈x.seen,0<=s.hour/\s.hour<=x.hours/\∃τ,s.next=mH τ (aO.getD s.hour.toNat 0) 1 0 99
structure A5 (Gf:bt->List aa)(N:Nat)(zc:aa)(YY:List AV->Nat->Nat->Nat->Nat->Nat->List aa):Prop where
 len:∀r a b c d e,(YY r a b c d e).length=8
 y0:∀τ r a b c d e,(Gf τ++YY r a b c d e)[N]?=some zc
 y1:∀τ r a b c d e,(Gf τ++YY r a b c d e)[N+1]?=some (.cells r 26)
 y3:∀τ r a b c d e,(Gf τ++YY r a b c d e)[N+3]?=some (.tail a 4 48)
 y4:∀τ r a b c d e,(Gf τ++YY r a b c d e)[N+4]?=some (.tail b 4 48)
 y5:∀τ r a b c d e,(Gf τ++YY r a b c d e)[N+5]?=some (.tail c 3 61)
 y6:∀τ r a b c d e,(Gf τ++YY r a b c d e)[N+6]?=some (.tail d 1 3)
 y7:∀τ r a b c d e,(Gf τ++YY r a b c d e)[N+7]?=some (.tail e 1 3)
 z1:∀τ r r' a b c d e,(Gf τ++YY r a b c d e).set (N+1) (.cells r' 26)=Gf τ++YY r' a b c d e
 z3:∀τ r a a' b c d e,(Gf τ++YY r a b c d e).set (N+3) (.tail a' 4 48)=Gf τ++YY r a' b c d e
 z4:∀τ r a b b' c d e,(Gf τ++YY r a b c d e).set (N+4) (.tail b' 4 48)=Gf τ++YY r a b' c d e
 z5:∀τ r a b c c' d e,(Gf τ++YY r a b c d e).set (N+5) (.tail c' 3 61)=Gf τ++YY r a b c' d e
 z6:∀τ r a b c d d' e,(Gf τ++YY r a b c d e).set (N+6) (.tail d' 1 3)=Gf τ++YY r a b c d' e
 s0:∀r a b c d e y,∃L,(YY r a b c d e).set 0 y=y::L
 z7:∀τ r a b c d e e',(Gf τ++YY r a b c d e).set (N+7) (.tail e' 1 3)=Gf τ++YY r a b c d e'
noncomputable def vw:T7:=Xy.body.getD .skip
def pH:Nat->T7->T7
 |0,c=>c
 |n+1,c=>pH n (cs c)
section
variable {lv:Bool}{k kp:AV->List aa->Prop}{Gf:bt->List aa}{t N:Nat}{b:Int}
theorem ahK{pm i mn:Nat}{first am:Int}{l order:List Int}{ρ:bt}{zc:aa}{YY:List AV->Nat->Nat->Nat->Nat->Nat->List aa}{Ψ:an->AS->Prop}(hT:dX Gf t N)(hY:A5 Gf N zc YY)(hb:b<2^10)(sZ:pm<=4)(hi:1<=i/\i<=3)(re:0<=first/\first<=90)(iY:l.length=i+1)(RY:mn<=9)(p_:HP order mn)(qe:ρ.Ok (b+19)):
  aW lv SC none 240 (cs (cf (pH 7 vw))) ⟨[(17,iv 0),(16,.sl 0 [] (.opn (N+7))),(15,.sl 0 [] (.opn (N+6))),(14,ba order),(13,iv mn),(11,.sl (i+1) (l.map iv) (.opn (N+2))),(10,.op (N+1) 0),(6,.op N 0),(0,.op t 0),(1,iv pm),(2,bv true)],Gf ρ++YY [iv first,iv i,iv am,.sl 0 [] (.opn (N+5)),.sl 0 [] (.opn (N+3)),.sl 0 [] (.opn (N+4))] 0 0 0 0 0⟩ (an.then (λs'=>∃y:Nat×bt,(y.1<=pm/\y.1<=mn/\y.2.Ok (b+60))/\s'.Sub ⟨[(16,.sl 0 [] (.opn (N+7))),(15,.sl y.1 ((kK first order y.1).map iv) (.opn (N+6))),(13,iv mn),(11,.sl (i+1) (l.map iv) (.opn (N+2))),(10,.op (N+1) 0),(6,.op N 0),(0,.op t 0),(2,bv true)],Gf y.2++YY [iv first,iv i,iv am,.sl 0 [] (.opn (N+5)),.sl y.1 ((kA l i (λj=>first+order.getD j 0) ρ y.1).1.flatMap aC.l) (.opn (N+3)),.sl 0 [] (.opn (N+4))] y.1 0 0 y.1 0⟩) Ψ):=by
 obtain⟨zf,y0,y1,y3,y4,y5,y6,y7,u6,DF,DI,DJ,HC,dK,HD⟩:=hY;have mK:∀L:List aa,dX (λτ=>Gf τ++L) t (N+L.length):=λL=>hT.more L;obtain⟨hv,zw⟩:∃hv:Nat->List aC×bt,∀j,hv j=kA l i (λj=>first+order.getD j 0) ρ j:=⟨_,λ_=>rfl⟩;simp only[<- zw];have hvl:∀j,(hv j).1.length=j:=λj=>by rw[zw];exact zi _ _ _ _ _
 have hvt:∀j:Nat,(hv j).2.Ok (b+19+5* j):=λj=>by rw[zw];exact(JM qe _ _ _ j).mono (by omega)
 have cV:hv 0=([],ρ):=zw 0;unfold vw Xy;dsimp only[S8,pH,cs,cf];have Fz:=aaW mn pm;refine cy ?_;refine gL (min pm mn) (λj:Nat=>[(15,.sl j ((kK first order j).map iv) (.opn (N+6))),(17,iv j)]) (λj=>Gf (hv j).2++YY [iv first,iv i,iv am,.sl 0 [] (.opn (N+5)),.sl j ((hv j).1.flatMap aC.l) (.opn (N+3)),.sl 0 [] (.opn (N+4))] j 0 0 j 0) (λ_=>True) (λ_ _=>rfl) (by simp only[kK,ZD,List.map_nil];simp only[seval];simp[bz,Wk.refl]) (by rw[cV];rfl) (λ_ _ _=>by simp[hT.len,zf]) trivial (λbU cS j oW _ R hR=> ?_);clear bU cS;have lw:=hvt j;by_cases fi:j<min pm mn
 ·have hd:decide ((j:Int)<((min pm mn:Nat):Int))=true:=by simpa using fi
  refine ak ?_;simp only[seval,show (if(mn:Int)<(pm:Int)then(mn:Int)else(pm:Int))=((min pm mn:Nat):Int)from Fz,hd];have eT:hv (j+1)=((hv j).1++[lI (tick (hv j).2) l (first+order.getD j 0) i],tick (tick (tick (tick (tick (hv j).2))))):=by rw[zw,zw];rfl
  have rC:=hvl j;generalize Fp:hv j=hj at lw eT rC⊢;obtain⟨ps,ρj⟩:=hj;dsimp only at lw eT rC⊢;refine aK ((PU (n:=6) (mK _) lw (by omega) (by decide) ?_));(try simp only[seval]);refine aD ?_;refine⟨λhc=> ?_,λhc=> ?_⟩
  ·obtain⟨o,ho⟩:=bX (xs:=order) (i:=j) (by rw[p_.len];omega);have hor:=p_.GY o (uO ho);have hgo:order.getD j 0=o:=(by rw[SE,ho];rfl);rw[hgo]at eT;have Lg:SF.wrap (first+o)=first+o:=Lq (by omega)
   have xF:SF.wrap ((j:Int)+1)=((j+1:Nat):Int):=(by rw[bG _ (by omega)];rfl);have pP:(0<=(j:Int)/\(j:Int)<(order.length:Int))=True:=(by simp[p_.len];omega);have iZ:=aa9 first order j
   have Cq:U6 iv (kK first order j)++[AV.val (SG SF (first+o))]=(kK first order (j+1)).map iv:=(by rw[aba,hgo,TF];rfl);have Cp:(kK first order (j+1))[j]?=some (first+o):=(by rw[aba,hgo,Th (by omega),iZ,Vd];rfl);have ui:(0<=(j:Int)/\(j:Int)<(j:Int)+1)=True:=(by simp;omega);refine aN ?_;refine cy ?_;refine dT 9 ?_;simp only[seval,z1,Ai,y1,y6,HC,ba,eJ ho,pP,Lg,iZ];refine⟨by omega,?_⟩;rw[Cq];obtain⟨n,hn⟩:∃n,n=first+o:=⟨_,rfl⟩
   rw[<- hn]at Cp eT;have qg:=No l n i;have wY:=λ(L:List aa) k kp=>PV (lv:=lv) (k:=k) (kp:=kp) (h:=l) (n:=n) (hours:=i) (e:=.opn (N+2)) (mK L) lw.tick (by omega) (by omega) (by omega) (by omega) (by rw[iY,VY];omega);simp only[iY]at wY;obtain⟨y,hy⟩:∃y,y=lI (tick ρj) l n i:=⟨_,rfl⟩;rw[<- hy]at eT wY;obtain⟨FP,qW⟩:∃FP,FP=ps.flatMap aC.l:=⟨_,rfl⟩;have vG:FP.length=j* 4:=(by rw[qW,Jg,rC]);have BO:FP++aC.l y=(hv (j+1)).1.flatMap aC.l:=(by rw[eT,Jh,qW]);rw[<- qW];refine qK [10,12,14] [0,1,2,3,4,5,6,7,8,9,10,11,12,13,14] [⟨0,false,[],[([10],[10])]⟩,⟨1,false,[],[([10],[10])]⟩,⟨2,false,[],[]⟩,⟨3,false,[],[]⟩,⟨4,false,[],[]⟩,⟨5,false,[],[]⟩,⟨6,false,[],[]⟩,⟨7,false,[],[]⟩,⟨8,false,[],[]⟩,⟨9,false,[],[]⟩,⟨10,true,[10],[]⟩,⟨11,false,[10],[]⟩,⟨12,true,[10,12],[]⟩,⟨13,false,[10,12],[]⟩,⟨14,true,[10,12,14],[]⟩] (λD=>bif isDone 14 D then Gf (tick (tick (tick (tick (tick ρj)))))++YY [iv first,iv i,iv am,.sl 0 [] (.opn (N+5)),.sl (j+1) (FP++aC.l y) (.opn (N+3)),.sl 0 [] (.opn (N+4))] (j+1) 0 0 (j+1) 0 else bif isDone 12 D then Gf (tick (tick (tick (tick (tick ρj)))))++YY [iv first,iv i,iv am,.sl 0 [] (.opn (N+5)),.sl j FP (.opn (N+3)),.sl 0 [] (.opn (N+4))] (j+1) 0 0 (j+1) 0 else bif isDone 10 D then Gf (tick (tick (tick (tick (tick ρj)))))++YY [iv first,iv i,iv am,.sl 0 [] (.opn (N+5)),.sl j FP (.opn (N+3)),.sl 0 [] (.opn (N+4))] j 0 0 (j+1) 0 else Gf (tick ρj)++YY [iv first,iv i,iv am,.sl 0 [] (.opn (N+5)),.sl j FP (.opn (N+3)),.sl 0 [] (.opn (N+4))] j 0 0 (j+1) 0) ?_;simp only[seval,HF,Aj,y1,y3,u6,DF,eJ Cp,ui,vG];have CL:y.l=[iv y.number.min,iv y.number.max,iv y.hour.min,iv y.hour.max]:=rfl;refine kZ y.av _ (cI (wY _ _ _ ⟨rfl,rfl⟩)) ?_;(try simp only[seval,HF,Aj,y1,y3,u6,DF,eJ Cp,ui,vG,aC.av,CL]);refine⟨by omega,?_⟩;refine ak ?_;simp only[seval,xF];refine hR _ ⟨by omega,trivial,?_⟩;rw[<- BO,eT];exact dq
  ·refine bZ ?_;exact⟨(j,tick ρj),⟨by dsimp only;omega,by dsimp only;omega,lw.tick.mono (by omega)⟩,fe (by simp only[seval];simp[bz,Wk.refl]) (by rw[Fp])⟩
 ·have hd:decide ((j:Int)<((min pm mn:Nat):Int))=false:=by simpa using fi
  refine ak ?_;simp only[seval,show (if(mn:Int)<(pm:Int)then(mn:Int)else(pm:Int))=((min pm mn:Nat):Int)from Fz,hd];refine aD ?_;refine bZ ?_;exact⟨(j,(hv j).2),⟨by dsimp only;omega,by dsimp only;omega,lw.mono (by omega)⟩,fe (by simp only[seval];simp[bz,Wk.refl]) rfl⟩
theorem ahH{i np:Nat}{first am w:Int}{l ay gS:List Int}{c9:List aC}{ρ2:bt}{zc:aa}{YY:List AV->Nat->Nat->Nat->Nat->Nat->List aa}{Ψ:an->AS->Prop}(hT:dX Gf t N)(hY:A5 Gf N zc YY)(hb:b<2^10)(hi:1<=i/\i<=3)(re:0<=first/\first<=90)(F1:first<=w/\w<=first+9)(iY:l.length=i+1)(Cs:np<=4)(iZ:ay.length=np)(us:∀n∈ay,first<=n/\n<w)(s7:HP gS np)(xV:ρ2.Ok (b+64)):
  aW lv SC none 240 (cs (cf (pH 9 vw))) ⟨[(19,iv 0),(18,.sl np (gS.map iv) .shut),(16,.sl 0 [] (.opn (N+7))),(15,.sl np (ay.map iv) (.opn (N+6))),(11,.sl (i+1) (l.map iv) (.opn (N+2))),(10,.op (N+1) 0),(6,.op N 0),(0,.op t 0),(2,bv true)],Gf ρ2++YY [iv first,iv i,iv am,.sl 0 [] (.opn (N+5)),.sl np (c9.flatMap aC.l) (.opn (N+3)),.sl 0 [] (.opn (N+4))] np 0 0 np 0⟩ (an.then (λs'=>∃y:Nat×bt,(y.1<=np/\y.1<=3/\y.2.Ok (b+90))/\s'.Sub ⟨[(16,.sl y.1 ((gS.take y.1).map iv) (.opn (N+7))),(15,.sl np (ay.map iv) (.opn (N+6))),(11,.sl (i+1) (l.map iv) (.opn (N+2))),(10,.op (N+1) 0),(6,.op N 0),(0,.op t 0),(2,bv true)],Gf y.2++YY [iv first,iv i,iv am,.sl 0 [] (.opn (N+5)),.sl np (c9.flatMap aC.l) (.opn (N+3)),.sl y.1 ((kA l i (λj=>ay.getD (gS.getD j 0).toNat 0) ρ2 y.1).1.flatMap aC.l) (.opn (N+4))] np y.1 0 np y.1⟩) Ψ):=by
 obtain⟨zf,y0,y1,y3,y4,y5,y6,y7,u6,DF,DI,DJ,HC,dK,HD⟩:=hY;have mK:∀L:List aa,dX (λτ=>Gf τ++L) t (N+L.length):=λL=>hT.more L;obtain⟨hw,zx⟩:∃hw:Nat->List aC×bt,∀j,hw j=kA l i (λj=>ay.getD (gS.getD j 0).toNat 0) ρ2 j:=⟨_,λ_=>rfl⟩;simp only[<- zx];have rE:∀j,(hw j).1.length=j:=λj=>by rw[zx];exact zi _ _ _ _ _
 have uz:∀j:Nat,(hw j).2.Ok (b+64+5* j):=λj=>by rw[zx];exact JM xV _ _ _ j
 have xT:hw 0=([],ρ2):=zx 0;have aae:=s7.len;unfold vw Xy;dsimp only[S8,pH,cs,cf];have RU:=aaW 3 np;refine cy ?_;refine gL (min np 3) (λj:Nat=>[(16,.sl j ((gS.take j).map iv) (.opn (N+7))),(19,iv j)]) (λj=>Gf (hw j).2++YY [iv first,iv i,iv am,.sl 0 [] (.opn (N+5)),.sl np (c9.flatMap aC.l) (.opn (N+3)),.sl j ((hw j).1.flatMap aC.l) (.opn (N+4))] np j 0 np j) (λ_=>True) (λ_ _=>rfl) (by simp only[seval];simp[bz,Wk.refl]) (by rw[xT];rfl) (λ_ _ _=>by simp[hT.len,zf]) trivial (λbU cS j oW _ R hR=> ?_);clear bU cS;have lw:=uz j;by_cases fi:j<min np 3
 ·have hd:decide ((j:Int)<((min np 3:Nat):Int))=true:=by simpa using fi
  refine ak ?_;simp only[seval,ba,aae,show (if(3:Int)<(np:Int)then(3:Int)else(np:Int))=((min np 3:Nat):Int)from RU,hd];have eT:hw (j+1)=((hw j).1++[lI (tick (hw j).2) l (ay.getD (gS.getD j 0).toNat 0) i],tick (tick (tick (tick (tick (hw j).2))))):=by rw[zx,zx];rfl
  have rC:=rE j;generalize Fp:hw j=hj at lw eT rC⊢;obtain⟨ts,ρj⟩:=hj;dsimp only at lw eT rC⊢;refine aK ((PU (n:=3) (mK _) lw (by omega) (by decide) ?_));(try simp only[seval]);refine aD ?_;refine⟨λhc=> ?_,λhc=> ?_⟩
  ·obtain⟨v,o6⟩:=bX (xs:=gS) (i:=j) (by omega);have hvr:=s7.GY v (uO o6);obtain⟨v,rfl⟩:∃v':Nat,v=v':=⟨v.toNat,by omega⟩;have vW:gS.getD j 0=v:=(by rw[SE,o6];rfl);rw[vW,VA]at eT;obtain⟨n,FB⟩:=bX (xs:=ay) (i:=v) (by omega);have Fl:ay.getD v 0=n:=(by rw[SE,FB];rfl);rw[Fl]at eT;have rn:=us n (uO FB);have xF:SF.wrap ((j:Int)+1)=((j+1:Nat):Int):=(by rw[bG _ (by omega)];rfl);have ui:(0<=(j:Int)/\(j:Int)<(np:Int))=True:=(by simp;omega);have Fa:(0<=(v:Int)/\(v:Int)<(np:Int))=True:=(by simp;omega);have aF:(gS.take j).length=j:=(by rw[Ub];omega);have als:(gS.take j).map iv++[AV.val (SG SF v)]=(gS.take (j+1)).map iv:=(by rw[VI,o6,TF];rfl);refine aN ?_;refine ak ?_;simp only[seval,z1,Ai,y7,HD,eJ o6,ui,aF];refine⟨by omega,?_⟩;rw[als];have qg:=No l n i;have wY:=λ(L:List aa) k kp=>PV (lv:=lv) (k:=k) (kp:=kp) (h:=l) (n:=n) (hours:=i) (e:=.opn (N+2)) (mK L) lw.tick (by omega) (by omega) (by omega) (by omega) (by rw[iY,VY];omega);simp only[iY]at wY;obtain⟨y,hy⟩:∃y,y=lI (tick ρj) l n i:=⟨_,rfl⟩;rw[<- hy]at eT wY;obtain⟨FP,qW⟩:∃FP,FP=ts.flatMap aC.l:=⟨_,rfl⟩;have vG:FP.length=j* 4:=(by rw[qW,Jg,rC]);have BO:FP++aC.l y=(hw (j+1)).1.flatMap aC.l:=(by rw[eT,Jh,qW]);rw[<- qW];refine qK [13,15,17] [0,1,2,3,4,5,6,7,8,9,10,11,12,13,14,15,16,17] [⟨0,false,[],[([13],[13])]⟩,⟨1,false,[],[([13],[13])]⟩,⟨2,false,[],[]⟩,⟨3,false,[],[]⟩,⟨4,false,[],[]⟩,⟨5,false,[],[]⟩,⟨6,false,[],[]⟩,⟨7,false,[],[]⟩,⟨8,false,[],[]⟩,⟨9,false,[],[]⟩,⟨10,false,[],[]⟩,⟨11,false,[],[]⟩,⟨12,false,[],[]⟩,⟨13,true,[13],[]⟩,⟨14,false,[13],[]⟩,⟨15,true,[13,15],[]⟩,⟨16,false,[13,15],[]⟩,⟨17,true,[13,15,17],[]⟩] (λD=>bif isDone 17 D then Gf (tick (tick (tick (tick (tick ρj)))))++YY [iv first,iv i,iv am,.sl 0 [] (.opn (N+5)),.sl np (c9.flatMap aC.l) (.opn (N+3)),.sl (j+1) (FP++aC.l y) (.opn (N+4))] np (j+1) 0 np (j+1)else bif isDone 15 D then Gf (tick (tick (tick (tick (tick ρj)))))++YY [iv first,iv i,iv am,.sl 0 [] (.opn (N+5)),.sl np (c9.flatMap aC.l) (.opn (N+3)),.sl j FP (.opn (N+4))] np (j+1) 0 np (j+1)else bif isDone 13 D then Gf (tick (tick (tick (tick (tick ρj)))))++YY [iv first,iv i,iv am,.sl 0 [] (.opn (N+5)),.sl np (c9.flatMap aC.l) (.opn (N+3)),.sl j FP (.opn (N+4))] np j 0 np (j+1)else Gf (tick ρj)++YY [iv first,iv i,iv am,.sl 0 [] (.opn (N+5)),.sl np (c9.flatMap aC.l) (.opn (N+3)),.sl j FP (.opn (N+4))] np j 0 np (j+1)) ?_;simp only[seval,HF,Aj,y1,y4,u6,DI,eJ o6,ui,eJ FB,Fa,vG,ba,iZ];have CL:y.l=[iv y.number.min,iv y.number.max,iv y.hour.min,iv y.hour.max]:=rfl;refine kZ y.av _ (cI (wY _ _ _ ⟨rfl,rfl⟩)) ?_;(try simp only[seval,HF,Aj,y1,y4,u6,DI,eJ o6,ui,eJ FB,Fa,vG,ba,iZ,aC.av,CL]);refine⟨by omega,?_⟩;refine ak ?_;simp only[seval,xF];refine hR _ ⟨by omega,trivial,?_⟩;rw[<- BO,eT];exact dq
  ·refine bZ ?_;exact⟨(j,tick ρj),⟨by dsimp only;omega,by dsimp only;omega,lw.tick.mono (by omega)⟩,fe (by simp only[seval];simp[bz,Wk.refl]) (by rw[Fp])⟩
 ·have hd:decide ((j:Int)<((min np 3:Nat):Int))=false:=by simpa using fi
  refine ak ?_;simp only[seval,ba,aae,show (if(3:Int)<(np:Int)then(3:Int)else(np:Int))=((min np 3:Nat):Int)from RU,hd];refine aD ?_;refine bZ ?_;exact⟨(j,(hw j).2),⟨by dsimp only;omega,by dsimp only;omega,lw.mono (by omega)⟩,fe (by simp only[seval];simp[bz,Wk.refl]) rfl⟩
theorem ahJ{i np ns cn:Nat}{first am:Int}{l ay bC:List Int}{c9 eK:List aC}{ρ4:bt}{zc:aa}{YY:List AV->Nat->Nat->Nat->Nat->Nat->List aa}{Ψ:an->AS->Prop}(hT:dX Gf t N)(hY:A5 Gf N zc YY)(hb:b<2^10)(hi:1<=i/\i<=3)(re:0<=first/\first<=90)(xK:1<=am/\am<=3)(az:mY first am l i)(gN:cn<=2)(F5:ρ4.Ok (b+91)):
  aW lv SC none 240 (cs (cf (pH 10 vw))) ⟨[(20,iv cn),(16,.sl ns (bC.map iv) (.opn (N+7))),(15,.sl np (ay.map iv) (.opn (N+6))),(11,.sl (i+1) (l.map iv) (.opn (N+2))),(10,.op (N+1) 0),(6,.op N 0),(0,.op t 0),(2,bv true)],Gf ρ4++YY [iv first,iv i,iv am,.sl 0 [] (.opn (N+5)),.sl np (c9.flatMap aC.l) (.opn (N+3)),.sl ns (eK.flatMap aC.l) (.opn (N+4))] np ns 0 np ns⟩ (an.then (λs'=>∃y:List Seen×bt,(y.1.length<=2/\(∀s∈y.1,0<=s.hour/\s.hour<=i/\∃τ,s.next=mH τ (l.getD s.hour.toNat 0) 1 0 99)/\y.2.Ok (b+97))/\s'.Sub ⟨[(16,.sl ns (bC.map iv) (.opn (N+7))),(15,.sl np (ay.map iv) (.opn (N+6))),(11,.sl (i+1) (l.map iv) (.opn (N+2))),(10,.op (N+1) 0),(6,.op N 0),(0,.op t 0),(2,bv true)],Gf y.2++YY [iv first,iv i,iv am,.sl y.1.length (y.1.flatMap Seen.l) (.opn (N+5)),.sl np (c9.flatMap aC.l) (.opn (N+3)),.sl ns (eK.flatMap aC.l) (.opn (N+4))] np ns y.1.length np ns⟩) Ψ):=by
 obtain⟨zf,y0,y1,y3,y4,y5,y6,y7,u6,DF,DI,DJ,HC,dK,HD⟩:=hY;have mK:∀L:List aa,dX (λτ=>Gf τ++L) t (N+L.length):=λL=>hT.more L;have iY:=az.len;unfold vw Xy;dsimp only[S8,pH,cs,cf];obtain⟨hz,zy⟩:∃hz:Nat->List Seen×bt,∀j,hz j=rQ l i ρ4 j:=⟨_,λ_=>rfl⟩;have oy:∀j,(hz j).1.length=j:=λj=>by rw[zy];exact ab4 _ _ _ _
 have Lm:∀j:Nat,(hz j).2.Ok (b+91+3* j):=λj=>by rw[zy];exact(ab6 F5 _ _ j).mono (by omega)
 have iu:hz 0=([],ρ4):=zy 0;refine cy ?_;refine gL cn (λj:Nat=>[(20,iv ((cn:Int)-j))]) (λj=>Gf (hz j).2++YY [iv first,iv i,iv am,.sl j ((hz j).1.flatMap Seen.l) (.opn (N+5)),.sl np (c9.flatMap aC.l) (.opn (N+3)),.sl ns (eK.flatMap aC.l) (.opn (N+4))] np ns j np ns) (λ_=>True) (λ_ _=>rfl) (by simp only[seval];simp[bz,Wk.refl]) (by rw[iu];rfl) (λ_ _ _=>by simp[hT.len,zf]) trivial (λbU cS j oW _ R hR=> ?_);clear bU cS;have lw:=Lm j;refine aj ?_;refine aD ?_;refine⟨λhc=> ?_,λhc=> ?_⟩
 ·have fi:j<cn:=by omega
  have eT:hz (j+1)=((hz j).1++[⟨dE (hz j).2 i,mH (tick (hz j).2) (l.getD (dE (hz j).2 i).toNat 0) 1 0 99⟩],tick (tick (tick (hz j).2))):=by rw[zy,zy];rfl
  have rC:=oy j;generalize Fp:hz j=hj at lw eT rC⊢;obtain⟨ss,ρj⟩:=hj;dsimp only at lw eT rC⊢;have hur:=mW ρj i;obtain⟨u,hu⟩:∃u:Nat,dE ρj i=u:=⟨(dE ρj i).toNat,by omega⟩;rw[hu,VA]at eT;have hui:u<=i:=by omega
  obtain⟨n,Kw⟩:=bX (xs:=l) (i:=u) (by omega);have Fl:l.getD u 0=n:=by rw[SE,Kw];rfl
  rw[Fl]at eT;have rn:=az.ge (by omega) u hui;rw[Fl]at rn;have ati:0<=n/\n<=1000:=by
   have:=ads (v:=0) rn (by omega) re xK (by omega);omega
  have xF:SF.wrap ((cn:Int)-j-1)=(cn:Int)-((j+1:Nat):Int):=by rw[bG _ (by omega)];omega
  have Q6:(0<=(u:Int)/\(u:Int)<(i:Int)+1)=True:=by simp;omega
  refine aN ?_;refine ak ?_;simp only[seval,y1];refine aK ((sD (n:=i) (mK _) lw (by omega) (by omega) ?_));rw[hu];(try simp only[seval]);have OQ:=λ(L:List aa) k kp=>I3 (lv:=lv) (k:=k) (kp:=kp) (n:=n) (m:=1) (lo:=0) (hi:=99) (mK L) lw.tick (by omega) (by omega) (by decide);obtain⟨y,hy⟩:∃y,y=mH (tick ρj) n 1 0 99:=⟨_,rfl⟩;rw[<- hy]at eT OQ;obtain⟨FP,qW⟩:∃FP,FP=ss.flatMap Seen.l:=⟨_,rfl⟩;have vG:FP.length=j* 3:=by rw[qW,Qb,rC]
  have BO:FP++[iv u,iv y.min,iv y.max]=(hz (j+1)).1.flatMap Seen.l:=by rw[eT,Jh,qW];rfl
  rw[<- qW];refine qK [9,12,14] [0,1,2,3,4,5,6,7,8,9,10,11,12,13,14] [⟨0,false,[],[([9],[9])]⟩,⟨1,false,[],[([9],[9])]⟩,⟨2,false,[],[([9],[9])]⟩,⟨3,false,[],[]⟩,⟨4,false,[],[]⟩,⟨5,false,[],[]⟩,⟨6,false,[],[]⟩,⟨7,false,[],[]⟩,⟨8,false,[],[]⟩,⟨9,true,[9],[]⟩,⟨10,false,[9],[]⟩,⟨11,false,[9],[]⟩,⟨12,true,[9,12],[]⟩,⟨13,false,[9,12],[]⟩,⟨14,true,[9,12,14],[]⟩] (λD=>bif isDone 14 D then Gf (tick (tick (tick ρj)))++YY [iv first,iv i,iv am,.sl (j+1) (FP++[iv u,iv y.min,iv y.max]) (.opn (N+5)),.sl np (c9.flatMap aC.l) (.opn (N+3)),.sl ns (eK.flatMap aC.l) (.opn (N+4))] np ns (j+1) np ns else bif isDone 12 D then Gf (tick (tick (tick ρj)))++YY [iv first,iv i,iv am,.sl j FP (.opn (N+5)),.sl np (c9.flatMap aC.l) (.opn (N+3)),.sl ns (eK.flatMap aC.l) (.opn (N+4))] np ns (j+1) np ns else bif isDone 9 D then Gf (tick (tick (tick ρj)))++YY [iv first,iv i,iv am,.sl j FP (.opn (N+5)),.sl np (c9.flatMap aC.l) (.opn (N+3)),.sl ns (eK.flatMap aC.l) (.opn (N+4))] np ns j np ns else Gf (tick ρj)++YY [iv first,iv i,iv am,.sl j FP (.opn (N+5)),.sl np (c9.flatMap aC.l) (.opn (N+3)),.sl ns (eK.flatMap aC.l) (.opn (N+4))] np ns j np ns) ?_;simp only[seval,zS1,Da,y1,y5,u6,DJ,eJ Kw,Q6,vG,iY];have CL:y.l=[iv y.min,iv y.max]:=rfl;refine kZ y.av _ (cI (OQ _ _ _ ⟨rfl,rfl⟩)) ?_;(try simp only[seval,zS1,Da,y1,y5,u6,DJ,eJ Kw,Q6,vG,iY,jk.av,CL]);refine⟨by omega,?_⟩;refine ak ?_;simp only[seval,xF];refine hR _ ⟨by omega,trivial,?_⟩;rw[<- BO,eT];exact dq
 ·have xG:j=cn:=by omega
  subst xG;clear hR;refine bZ ?_;have dx:=oy j;have hsm:∀s∈(hz j).1,0<=s.hour/\s.hour<=i/\∃τ,s.next=mH τ (l.getD s.hour.toNat 0) 1 0 99:=by
   rw[zy];exact ab5 (λτ=>by have:=mW τ i;omega) j
  refine⟨((hz j).1,(hz j).2),⟨by dsimp only;omega,hsm,lw.mono (by omega)⟩,fe (by simp only[seval];simp[bz,Wk.refl]) ?_⟩;dsimp only;rw[dx]
theorem arS{a a' b b' c c' d d':AV}(h1:Wk a a')(h2:Wk b b')(h3:Wk c c')(h4:Wk d d'):Wk (.aJ [a,b,c,d]) (.aJ [a',b',c',d']):=λE v h=>by
 cases h with
 |aJ hs h=>
  refine .aJ hs λi x e=> ?_
  match i with
  |0=>cases e;exact h1 _ _ (h 0 a rfl)
  |1=>cases e;exact h2 _ _ (h 1 b rfl)
  |2=>cases e;exact h3 _ _ (h 2 c rfl)
  |3=>cases e;exact h4 _ _ (h 3 d rfl)
theorem ahG{i np ns:Nat}{first am:Int}{l ay bC:List Int}{c9 eK:List aC}{ρ3:bt}{zc:aa}{YY:List AV->Nat->Nat->Nat->Nat->Nat->List aa}(hT:dX Gf t N)(hH:∀τ,bP (Gf τ))(hY:A5 Gf N zc YY)(CN:zc=.cells [.val (.int .i64 0),.val (.int .i64 0),.val (.int .i64 0),.sl 0 [] .exact,.sl 0 [] .exact,.sl 0 [] .exact] 26)(hb:b<2^10)(hi:1<=i/\i<=3)(re:0<=first/\first<=90)(xK:1<=am/\am<=3)(az:mY first am l i)(CO:ρ3.Ok (b+90))(FI:c9.length=np)(iZ:ay.length=np)(nH:eK.length=ns)(aF:bC.length=ns)
  (hk:∀(ss:List Seen)(τ':bt),ss.length<=2->(∀s∈ss,0<=s.hour/\s.hour<=i/\∃τ,s.next=mH τ (l.getD s.hour.toNat 0) 1 0 99)->τ'.Ok (b+200)->k (.aJ [ai.av ⟨first,i,am,ss,c9,eK⟩,ba l,ba ay,ba bC]) (Gf τ')):
  aW lv SC none 240 (pH 10 vw) ⟨[(16,.sl ns (bC.map iv) (.opn (N+7))),(15,.sl np (ay.map iv) (.opn (N+6))),(11,.sl (i+1) (l.map iv) (.opn (N+2))),(10,.op (N+1) 0),(6,.op N 0),(0,.op t 0),(2,bv true)],Gf ρ3++YY [iv first,iv i,iv am,.sl 0 [] (.opn (N+5)),.sl np (c9.flatMap aC.l) (.opn (N+3)),.sl ns (eK.flatMap aC.l) (.opn (N+4))] np ns 0 np ns⟩ (se SC [.cell 6 26,.tmp 7,.tmp 8,.tmp 9] N k kp):=by
 have hY':=hY;obtain⟨zf,y0,y1,y3,y4,y5,y6,y7,u6,DF,DI,DJ,HC,dK,HD⟩:=hY;have mK:∀L:List aa,dX (λτ=>Gf τ++L) t (N+L.length):=λL=>hT.more L;have K_:∀τ (L:List aa)(y:aa),(Gf τ++L).set N y=Gf τ++L.set 0 y:=λτ L y=>by have:=ec (Gf τ) L 0 y;rwa [hT.len]at this
 have FX:∀τ (L:List aa),(Gf τ++L)[N]?=L[0]?:=λτ L=>by have:=aX (Gf τ) L 0;rwa [hT.len]at this
 unfold vw Xy;dsimp only[S8,pH,cs,cf];refine aj ?_;refine aK ((sD (n:=2) (mK _) CO (by omega) (by omega) ?_));have gN:=mW ρ3 2;generalize dE ρ3 2=u2 at gN⊢;obtain⟨cn,rfl⟩:∃cn:Nat,u2=cn:=⟨u2.toNat,by omega⟩;have F5:=CO.tick;generalize tick ρ3=ρ4 at F5⊢;(try simp only[seval]);refine Ib (α:=List Seen×bt) (λy=>⟨[(16,.sl ns (bC.map iv) (.opn (N+7))),(15,.sl np (ay.map iv) (.opn (N+6))),(11,.sl (i+1) (l.map iv) (.opn (N+2))),(10,.op (N+1) 0),(6,.op N 0),(0,.op t 0),(2,bv true)],Gf y.2++YY [iv first,iv i,iv am,.sl y.1.length (y.1.flatMap Seen.l) (.opn (N+5)),.sl np (c9.flatMap aC.l) (.opn (N+3)),.sl ns (eK.flatMap aC.l) (.opn (N+4))] np ns y.1.length np ns⟩) (λy=>y.1.length<=2/\(∀s∈y.1,0<=s.hour/\s.hour<=i/\∃τ,s.next=mH τ (l.getD s.hour.toNat 0) 1 0 99)/\y.2.Ok (b+97)) ?_ (λy hy=> ?_)
 ·exact kV (s':=⟨[(20,iv cn),(16,.sl ns (bC.map iv) (.opn (N+7))),(15,.sl np (ay.map iv) (.opn (N+6))),(11,.sl (i+1) (l.map iv) (.opn (N+2))),(10,.op (N+1) 0),(6,.op N 0),(0,.op t 0),(2,bv true)],Gf ρ4++YY [iv first,iv i,iv am,.sl 0 [] (.opn (N+5)),.sl np (c9.flatMap aC.l) (.opn (N+3)),.sl ns (eK.flatMap aC.l) (.opn (N+4))] np ns 0 np ns⟩) (fe (by simp only[seval];simp[bz,Wk.refl]) rfl) (ahJ hT hY' hb hi re xK az (by omega) (F5.mono (by omega)))
 obtain⟨ss,ρ5⟩:=y;obtain⟨dL,fP,o4⟩:=hy;dsimp only at dL fP o4⊢;have y00:∀τ r a b c d e,(Gf τ++YY r a b c d e)[N]?=some (.cells [.val (.int .i64 0),.val (.int .i64 0),.val (.int .i64 0),.sl 0 [] .exact,.sl 0 [] .exact,.sl 0 [] .exact] 26):=λτ r a b c d e=>by rw[y0,CN]
 refine aj ?_;refine aD ?_;refine ak ?_;simp only[seval,y1,y00];rw[K_];obtain⟨LL,QL⟩:=dK [iv first,iv i,iv am,.sl ss.length (ss.flatMap Seen.l) (.opn (N+5)),.sl np (c9.flatMap aC.l) (.opn (N+3)),.sl ns (eK.flatMap aC.l) (.opn (N+4))] np ns ss.length np ns (.cells [iv first,iv i,iv am,.sl ss.length (ss.flatMap Seen.l) (.opn (N+5)),.sl np (c9.flatMap aC.l) (.opn (N+3)),.sl ns (eK.flatMap aC.l) (.opn (N+4))] 26);simp only[iv]at QL;rw[QL];refine oN ?_;simp only[seval,FX];have dD:=hk ss ρ5 dL fP (o4.mono (by omega));refine jR (b:=.aJ [ai.av ⟨first,i,am,ss,c9,eK⟩,ba l,ba ay,ba bC]) (H':=Gf ρ5) (arS (Nz (.cons (Wk.refl _) (.cons (Wk.refl _) (.cons (Wk.refl _) (.cons (iP _ _ _) (.cons ?_ (.cons ?_ .nil))))))) ?_ ?_ ?_) rfl (by simp[hT.len]) (hH _) (by simp only[je,SL,S4,or_false,forall_eq_or_imp,forall_eq,Gn,x7,and_self]) dD
 ·rw[<- FI];exact iP _ _ _
 ·rw[<- nH];exact iP _ _ _
 ·rw[<- az.len];exact iP _ _ _
 ·rw[<- iZ];exact iP _ _ _
 ·rw[<- aF];exact iP _ _ _
end
section
variable {lv:Bool}{k kp:AV->List aa->Prop}{Gf:bt->List aa}{t N:Nat}{τ:bt}{b:Int}
theorem ahI{pm:Nat}(hT:dX Gf t N)(hτ:τ.Ok b)(hb:b<2^10)(sZ:pm<=4)(hk:∀x aO ay bC τ',Made pm x aO ay bC->τ'.Ok (b+200)->k (.aJ [x.av,ba aO,ba ay,ba bC]) (Gf τ')):bf lv SC 15 (Gf τ) [.op t 0,iv pm,bv true] k kp:=by
 refine bH (rs:=[.cell 6 26,.tmp 7,.tmp 8,.tmp 9]) (nt:=240) Xy λhH hA=> ?_;simp only[br,SW];have ug:∀o:aa,dX (λτ=>Gf τ++[o]) t (N+1):=λo=>hT.more [o];have mP:∀τ (L:List aa)(j:Nat),(Gf τ++L)[N+j]?=L[j]?:=λτ L j=>by rw[<- hT.len τ,aX]
 have dR:∀τ (L:List aa)(j:Nat)(y:aa),(Gf τ++L).set (N+j) y=Gf τ++L.set j y:=λτ L j y=>by rw[<- hT.len τ,ec]
 have FX:∀τ (L:List aa),(Gf τ++L)[N]?=L[0]?:=λτ L=>mP τ L 0;have K_:∀τ (L:List aa)(y:aa),(Gf τ++L).set N y=Gf τ++L.set 0 y:=λτ L y=>dR τ L 0 y;refine aj ?_;refine aj ?_;refine aK ((sD (ug _) hτ (by omega) (by omega) ?_));have r1:=mW τ 90;generalize dE τ 90=u1 at r1⊢;(try simp only[seval,zE4,Aj]);refine aK ((I2 (ns:=[0,1,10,u1]) (ug _) hτ.tick (by omega) (by simp) (by simp) ?_));have r2:=IU (tick τ) (ns:=[0,1,10,u1]) (by simp);simp only[SL,S4,or_false]at r2;generalize vD (tick τ) [0,1,10,u1]=first at r2⊢
 (try simp only[seval]);refine aK ((ahR (lo:=1) (hi:=3) (ug _) hτ.tick.tick (by omega) (by decide) (by decide) ?_));have r3:=arR (tick (tick τ)) (show (1:Int)<=3 by decide);generalize Dz (tick (tick τ)) 1 3=hours at r3⊢;(try simp only[seval,zE4,Aj]);refine aK ((I2 (ns:=[1,2,2,3]) (ug _) hτ.tick.tick.tick (by omega) (by simp) (by simp) ?_));have r4:=IU (tick (tick (tick τ))) (ns:=[1,2,2,3]) (by simp);simp only[SL,S4,or_false]at r4;generalize vD (tick (tick (tick τ))) [1,2,2,3]=am at r4⊢;have re:0<=first/\first<=90:=by omega
 have xK:1<=am/\am<=3:=by omega
 clear r1 r2 r4;have hσ:(tick (tick (tick (tick τ)))).Ok (b+4):=hτ.tick.tick.tick.tick.mono (by omega);generalize tick (tick (tick (tick τ)))=σ at hσ⊢;(try simp only[seval,hT.len,mP,dR,FX,K_]);refine ak ?_;simp only[seval,mP,z1,Ai]
 (repeat apply gW);refine vq (t:=11) (sz:=1) (el:=3) (by simp only[seval]<;>rfl) ?_
 simp only[seval,hT.len]
 (repeat apply gW);refine Ie (id:=N+1) (j:=4) (sz:=4) (fY:=48) (by simp only[seval,mP]<;>rfl) rfl ?_
 simp only[seval,dR,hT.len]
 (repeat apply gW);refine Ie (id:=N+1) (j:=5) (sz:=4) (fY:=48) (by simp only[seval,mP]<;>rfl) rfl ?_
 simp only[seval,dR,hT.len]
 (repeat apply gW);refine Ie (id:=N+1) (j:=3) (sz:=3) (fY:=61) (by simp only[seval,mP]<;>rfl) rfl ?_
 simp only[seval,dR,hT.len];refine Ot [11,10,6,0,1,2] ?_;show aW _ _ _ _ _ ⟨[(11,.sl 1 [iv first] (.opn (N+2))),(10,.op (N+1) 0),(6,.op N 0),(0,.op t 0),(1,iv pm),(2,bv true)],_⟩ _;obtain⟨zc,CN⟩:∃zc:aa,zc=.cells [iv 0,iv 0,iv 0,.sl 0 [] .exact,.sl 0 [] .exact,.sl 0 [] .exact] 26:=⟨_,rfl⟩;simp only[iv]at CN;rw[<- CN];obtain⟨hn,Rr⟩:∃hn:Nat,hours=hn:=⟨hours.toNat,by omega⟩;subst Rr;refine aj ?_;refine cy ?_;refine gL hn (λi:Nat=>[(11,.sl (i+1) ((lj σ first am i).1.map iv) (.opn (N+2))),(12,iv i)]) (λi=>Gf (lj σ first am i).2++[zc,.cells [iv first,iv hn,iv am,.sl 0 [] (.opn (N+5)),.sl 0 [] (.opn (N+3)),.sl 0 [] (.opn (N+4))] 26,.tail (i+1) 1 3,.tail 0 4 48,.tail 0 4 48,.tail 0 3 61]) (λi=>True) (λ_ _=>rfl) (by simp only[lj];simp only[seval];simp[bz,Wk.refl]) rfl (λ_ _ _=>by simp[hT.len]) trivial (λbU cS i cM _ R hR=> ?_)
 ·clear bU cS;have az:=Rz σ first (am:=am) (by omega) i
  have qe:=RA hσ first am i
  have eT:lj σ first am (i+1)=((lj σ first am i).1++[(lj σ first am i).1.getD i 0+wB (lj σ first am i).2 am],tick (tick (lj σ first am i).2)):=rfl
  have sS:=az.ge (by omega) i (SR _);generalize lj σ first am i=m at az qe eT sS hR⊢
  obtain⟨l,ρ⟩:=m;dsimp only at az qe eT sS⊢;have iY:=az.len;refine ak ?_;simp only[seval,mP];refine aD ?_;refine⟨λh=> ?_,λh=> ?_⟩
  ·as_aux_lemma=>
   have bB:i<hn:=(by omega);obtain⟨w,hw⟩:=bX (xs:=l) (i:=i) (by omega);have zv:l.getD i 0=w:=(by rw[SE,hw];rfl);rw[zv]at eT sS;have aQ:=acE ρ (am:=am) (by omega);have Sp:wB ρ am=vD (tick ρ) [0,am,dE ρ am]:=rfl;obtain⟨v,hv⟩:∃v,v=wB ρ am:=⟨_,rfl⟩;rw[<- hv]at eT aQ Sp;have CI:SF.wrap (w+v)=w+v:=Lq (ads sS aQ re xK (by omega));have fK:SF.wrap ((i:Int)+1)=((i+1:Nat):Int):=(by rw[bG _ (by omega)];rfl);have iE:(0<=(i:Int)/\(i:Int)<(i:Int)+1)=True:=(by simp;omega);have mK:∀L:List aa,dX (λτ=>Gf τ++L) t (N+L.length):=λL=>hT.more L;refine aN ?_;refine cy ?_;obtain⟨X,hX⟩:∃X:Nat->List aa,∀a,X a=[zc,.cells [iv first,iv hn,iv am,.sl 0 [] (.opn (N+5)),.sl 0 [] (.opn (N+3)),.sl 0 [] (.opn (N+4))] 26,.tail a 1 3,.tail 0 4 48,.tail 0 4 48,.tail 0 3 61]:=⟨_,λ_=>rfl⟩;have QT:=(hX (i+1)).symm;simp only[iv]at QT;have x1:∀τ a,(Gf τ++X a)[N+1]?=some (.cells [iv first,iv hn,iv am,.sl 0 [] (.opn (N+5)),.sl 0 [] (.opn (N+3)),.sl 0 [] (.opn (N+4))] 26):=λτ a=>(by rw[mP,hX];rfl);have x2:∀τ a,(Gf τ++X a)[N+2]?=some (.tail a 1 3):=λτ a=>(by rw[mP,hX];rfl);have NJ:∀τ a a',(Gf τ++X a).set (N+2) (.tail a' 1 3)=Gf τ++X a':=λτ a a'=>(by rw[dR,hX,hX];rfl);rw[QT];refine qK [11,13,16] [0,1,2,3,4,5,6,7,8,9,10,11,12,13,14,15,16,17] [⟨0,false,[],[([11],[11]),([11,13],[11,13])]⟩,⟨1,false,[],[([11],[11]),([11,13],[11,13])]⟩,⟨2,false,[],[([11],[11]),([11,13],[11,13])]⟩,⟨3,false,[],[([11],[11]),([11,13],[11,13])]⟩,⟨4,false,[],[([11],[11]),([11,13],[11,13])]⟩,⟨5,false,[],[([11],[11])]⟩,⟨6,false,[],[([11],[11])]⟩,⟨7,false,[],[([11],[11])]⟩,⟨8,false,[],[]⟩,⟨9,false,[],[]⟩,⟨10,false,[],[]⟩,⟨11,true,[11],[]⟩,⟨12,false,[11],[]⟩,⟨13,true,[11,13],[]⟩,⟨14,false,[11,13],[]⟩,⟨15,false,[11,13],[]⟩,⟨16,true,[11,13,16],[]⟩,⟨17,false,[11,13,16],[]⟩] (λD=>bif isDone 16 D then Gf (tick (tick ρ))++X (i+1+1)else bif isDone 13 D then Gf (tick (tick ρ))++X (i+1)else bif isDone 11 D then Gf (tick ρ)++X (i+1)else Gf ρ++X (i+1)) ?_;simp only[seval,NP,Da,z1,Ai,x1,x2,NJ,eJ hw,iE,CI,iY];refine kZ _ _ (cI (sD (mK (X (i+1))) qe (by omega) (by omega) ⟨rfl,rfl⟩)) ?_;(try simp only[seval,NP,Da,z1,Ai,x1,x2,NJ,eJ hw,iE,CI,iY]);refine kZ (iv v) _ (cI (I2 (ns:=[0,am,dE ρ am]) (mK (X (i+1))) qe.tick (by omega) (by simp) (by simp) ⟨by rw[Sp],rfl⟩)) ?_;(try simp only[seval,NP,Da,z1,Ai,x1,x2,NJ,eJ hw,iE,CI,iY]);refine⟨by omega,?_⟩;refine ak ?_;simp only[seval,fK];refine hR _ ⟨bB,trivial,?_⟩;rw[eT,TF,hX];exact dq
  ·as_aux_lemma=>
   have dw:i=hn:=(by omega);subst dw;clear hR;refine bZ ?_;obtain⟨w,hw⟩:=bX (xs:=l) (i:=i) (by omega);have zv:l.getD i 0=w:=(by rw[SE,hw];rfl);have F1:first<=w/\w<=first+9:=by
    rw[zv]at sS;have:am* (i:Int)<=3* 3:=Yf (by omega) (by omega) (by omega) (by omega);generalize am* (i:Int)=q at sS this;omega
   obtain⟨mn,p9⟩:∃mn:Nat,w-first=mn:=⟨(w-first).toNat,by omega⟩
   have RY:mn<=9:=(by omega);have hwm:SF.wrap (w-first)=mn:=(by rw[Lq (by omega),p9]);have iE:(0<=(i:Int)/\(i:Int)<(i:Int)+1)=True:=(by simp;omega);refine dT 8 ?_;simp only[seval,mP,eJ hw,iE,hwm];have mK:∀L:List aa,dX (λτ=>Gf τ++L) t (N+L.length):=λL=>hT.more L;refine aj ?_;refine aK ((PS (n:=mn) (mK _) qe (by omega) (by omega) ?_));have p_:=aaY ρ mn;have qe:=Gu qe mn mn;generalize h_ ρ mn mn=m2 at p_ qe⊢;obtain⟨order,ρ⟩:=m2;dsimp only at p_ qe⊢;(try simp only[seval]);refine aj ?_
   (repeat apply gW);refine vq (t:=15) (sz:=1) (el:=3) (by simp only[seval]<;>rfl) ?_
   simp only[seval,hT.len]
   (repeat apply gW);refine vq (t:=16) (sz:=1) (el:=3) (by simp only[seval]<;>rfl) ?_
   simp only[seval,hT.len];refine Ot [16,15,14,13,11,10,6,0,1,2] ?_;show aW _ _ _ _ _ ⟨[(16,.sl 0 [] (.opn (N+7))),(15,.sl 0 [] (.opn (N+6))),(14,ba order),(13,iv mn),(11,.sl (i+1) (l.map iv) (.opn (N+2))),(10,.op (N+1) 0),(6,.op N 0),(0,.op t 0),(1,iv pm),(2,bv true)],_⟩ _;obtain⟨YY,jS⟩:∃YY:List AV->Nat->Nat->Nat->Nat->Nat->List aa,∀r a b c d e,YY r a b c d e=[zc,.cells r 26,.tail (i+1) 1 3,.tail a 4 48,.tail b 4 48,.tail c 3 61,.tail d 1 3,.tail e 1 3]:=⟨_,λ_ _ _ _ _ _=>rfl⟩;have hY:A5 Gf N zc YY:=by
    refine⟨λr a b c d e=>by rw[jS];rfl,λτ r a b c d e=>by rw[FX,jS];rfl,λτ r a b c d e=>by rw[mP,jS];rfl,λτ r a b c d e=>by rw[mP,jS];rfl,λτ r a b c d e=>by rw[mP,jS];rfl,λτ r a b c d e=>by rw[mP,jS];rfl,λτ r a b c d e=>by rw[mP,jS];rfl,λτ r a b c d e=>by rw[mP,jS];rfl,λτ r r' a b c d e=>by rw[dR,jS,jS];rfl,λτ r a a' b c d e=>by rw[dR,jS,jS];rfl,λτ r a b b' c d e=>by rw[dR,jS,jS];rfl,λτ r a b c c' d e=>by rw[dR,jS,jS];rfl,λτ r a b c d d' e=>by rw[dR,jS,jS];rfl,λr a b c d e y=>⟨_,by rw[jS];rfl⟩,λτ r a b c d e e'=>by rw[dR,jS,jS];rfl⟩
   have QU:[zc,.cells [iv first,iv i,iv am,.sl 0 [] (.opn (N+5)),.sl 0 [] (.opn (N+3)),.sl 0 [] (.opn (N+4))] 26,.tail (i+1) 1 3,.tail 0 4 48,.tail 0 4 48,.tail 0 3 61,.tail 0 1 3,.tail 0 1 3]=YY [iv first,iv i,iv am,.sl 0 [] (.opn (N+5)),.sl 0 [] (.opn (N+3)),.sl 0 [] (.opn (N+4))] 0 0 0 0 0:=(by rw[jS]);simp only[iv]at QU;rw[QU];refine aj ?_;refine Ib (α:=Nat×bt) (λy=>⟨[(16,.sl 0 [] (.opn (N+7))),(15,.sl y.1 ((kK first order y.1).map iv) (.opn (N+6))),(13,iv mn),(11,.sl (i+1) (l.map iv) (.opn (N+2))),(10,.op (N+1) 0),(6,.op N 0),(0,.op t 0),(2,bv true)],Gf y.2++YY [iv first,iv i,iv am,.sl 0 [] (.opn (N+5)),.sl y.1 ((kA l i (λj=>first+order.getD j 0) ρ y.1).1.flatMap aC.l) (.opn (N+3)),.sl 0 [] (.opn (N+4))] y.1 0 0 y.1 0⟩) (λy=>y.1<=pm/\y.1<=mn/\y.2.Ok (b+60)) ?_ (λy hy=> ?_)
   ·exact ahK hT hY hb sZ (by omega) re iY RY p_ (qe.mono (by omega))
   ·as_aux_lemma=>
    obtain⟨np,ρ1⟩:=y;obtain⟨akz,akA,Ln⟩:=hy;dsimp only at akz akA Ln⊢;have FI:(kA l i (λj=>first+order.getD j 0) ρ np).1.length=np:=zi _ _ _ _ _;have Si:∀(p:Nat) z,(kA l i (λj=>first+order.getD j 0) ρ np).1[p]?=some z->∃τ,z=lI τ l (first+order.getD p 0) i:=λp z hz=>JL (P:=λn z=>∃τ,z=lI τ l n i) (λτ n=>⟨τ,rfl⟩) np p z hz;generalize(kA l i (λj=>first+order.getD j 0) ρ np).1=c9 at FI Si⊢;have iZ:=aa9 first order np
    have us:∀n∈kK first order np,first<=n/\n<w:=λn hn=>by
     unfold kK at hn;obtain⟨p,hp,rfl⟩:=Td.1 hn;have hp:=Tu.1 hp;obtain⟨o,ho⟩:=bX (xs:=order) (i:=p) (by rw[p_.len];omega);have:=p_.GY o (uO ho);rw[SE,ho];simp only[S8];omega
    have Cr:(kK first order np).Nodup:=by
     have e:kK first order np=(order.take np).map λo=>first+o:=by
      unfold kK;refine am1 (by rw[Tp,Ub,p_.len];omega) λp hp=> ?_;rw[To,Uc,if_pos hp,SE];obtain⟨o,ho⟩:=bX (xs:=order) (i:=p) (by rw[p_.len];omega);rw[ho];rfl
     rw[e];have h1:(order.take np).Nodup:=Yp (Zl _ _) p_.nodup;rw[Ur,Xu];exact(Ur.1 h1).imp λh e=>h (by omega)
    have R3:∀p,p<np->(kK first order np).getD p 0=first+order.getD p 0:=λp hp=>by
     unfold kK;rw[SE,To,Xw hp];rfl
    generalize kK first order np=ay at iZ us Cr R3⊢
    refine aj ?_;refine aK ((PS (n:=np) (mK _) Ln (by omega) (by omega) ?_));have s7:=aaY ρ1 np;have xV:=Gu Ln np np;generalize h_ ρ1 np np=m3 at s7 xV⊢;obtain⟨gS,ρ2⟩:=m3;dsimp only at s7 xV⊢;have xV:ρ2.Ok (b+64):=xV.mono (by omega);(try simp only[seval]);have hwe:ba gS=.sl np (gS.map iv) .shut:=(by rw[ba,s7.len]);rw[hwe];refine aj ?_;refine Ib (α:=Nat×bt) (λy=>⟨[(16,.sl y.1 ((gS.take y.1).map iv) (.opn (N+7))),(15,.sl np (ay.map iv) (.opn (N+6))),(11,.sl (i+1) (l.map iv) (.opn (N+2))),(10,.op (N+1) 0),(6,.op N 0),(0,.op t 0),(2,bv true)],Gf y.2++YY [iv first,iv i,iv am,.sl 0 [] (.opn (N+5)),.sl np (c9.flatMap aC.l) (.opn (N+3)),.sl y.1 ((kA l i (λj=>ay.getD (gS.getD j 0).toNat 0) ρ2 y.1).1.flatMap aC.l) (.opn (N+4))] np y.1 0 np y.1⟩) (λy=>y.1<=np/\y.1<=3/\y.2.Ok (b+90)) ?_ (λy hy=> ?_)
    ·exact kV (s':=⟨[(19,iv 0),(18,.sl np (gS.map iv) .shut),(16,.sl 0 [] (.opn (N+7))),(15,.sl np (ay.map iv) (.opn (N+6))),(11,.sl (i+1) (l.map iv) (.opn (N+2))),(10,.op (N+1) 0),(6,.op N 0),(0,.op t 0),(2,bv true)],Gf ρ2++YY [iv first,iv i,iv am,.sl 0 [] (.opn (N+5)),.sl np (c9.flatMap aC.l) (.opn (N+3)),.sl 0 [] (.opn (N+4))] np 0 0 np 0⟩) (fe (by simp only[seval];simp[bz,Wk.refl]) rfl) (ahH hT hY hb (by omega) re F1 iY (by omega) iZ us s7 xV)
    ·as_aux_lemma=>
     obtain⟨ns,ρ3⟩:=y;obtain⟨akB,akC,CO⟩:=hy;dsimp only at akB akC CO⊢;have nH:(kA l i (λj=>ay.getD (gS.getD j 0).toNat 0) ρ2 ns).1.length=ns:=zi _ _ _ _ _;have Su:∀(s:Nat) z,(kA l i (λj=>ay.getD (gS.getD j 0).toNat 0) ρ2 ns).1[s]?=some z->∃τ,z=lI τ l (ay.getD (gS.getD s 0).toNat 0) i:=λs z hz=>JL (P:=λn z=>∃τ,z=lI τ l n i) (λτ n=>⟨τ,rfl⟩) ns s z hz;generalize(kA l i (λj=>ay.getD (gS.getD j 0).toNat 0) ρ2 ns).1=eK at nH Su⊢;have rE:=s7.len;have aF:(gS.take ns).length=ns:=(by rw[Ub];omega);have ja:∀v∈gS.take ns,0<=v/\v<(np:Int):=λv hv=>s7.GY v (Wv hv);have Sd:(gS.take ns).Nodup:=Yp (Zl _ _) s7.nodup;have Sc:∀s,s<ns->(gS.take ns).getD s 0=gS.getD s 0:=λs hs=>by
      rw[SE,SE,Uc,if_pos hs]
     generalize gS.take ns=bC at aF ja Sd Sc⊢;refine ahG hT (λτ'=>hT.az hH τ') hY CN hb (by omega) re xK az CO FI iZ nH aF λss τ' h1 h2 h3=>hk _ l ay bC τ' ⟨re,by dsimp only;omega,xK,by simpa using az,by dsimp only;omega,by dsimp only;omega,λn hn=> ?_,Cr,λp y hy=> ?_,by dsimp only;omega,by dsimp only;omega,λv hv=>by rw[iZ];exact ja v hv,Sd,λs y hy=> ?_,h1,h2⟩ h3
     ·have:=us n hn;dsimp only;rw[VA,zv];exact this
     ·dsimp only at hy;have hp:=(SM.1 hy).1;obtain⟨τ,e⟩:=Si p y hy;exact⟨τ,by rw[R3 p (by omega)];exact e⟩
     ·dsimp only at hy;have hp:=(SM.1 hy).1;obtain⟨τ,e⟩:=Su s y hy;exact⟨τ,by rw[Sc s (by omega)];exact e⟩
end
end Go.Gg
namespace Go.Gg.Tk
theorem Fs{x:ai}:∀(d:Nat)(pre h:List Int),h∈jz x d pre->h.take pre.length=pre
 |0,pre,h,hm=>by
  unfold jz at hm;split at hm
  ·rw[S9]at hm;subst hm;exact TH
  ·cases hm
 |d+1,pre,h,hm=>by
  unfold jz at hm;split at hm
  ·obtain⟨n,_,hm⟩:=S5.1 hm;have:=Fs d _ h hm;rw[SO,TY]at this;have h2:=congrArg (Uq pre.length) this;rw[U1,Tw (SR _),TH,Wz (by omega)]at h2;exact h2
  ·cases hm
theorem Rv{x:ai}:∀(d:Nat)(pre:List Int),(jz x d pre).Nodup
 |0,pre=>by
  unfold jz;split
  ·simp
  ·exact WO
 |d+1,pre=>by
  unfold jz;split
  ·unfold List.Nodup;rw[YH];refine⟨λn _=>Rv d _,?_⟩;refine Z' ?_ (XU (n:=x.am.toNat+1));intro a b fh h ha g hb he;subst he;have h1:=Fs d _ h ha;have h2:=Fs d _ h hb;rw[SO,TY]at h1 h2;have h3:=h1.symm.trans h2;have:=List.append_cancel_left h3;simp at this;exact fh (by omega)
  ·exact WO
theorem akg(x:ai):(aL x).Nodup:=Rv _ _
end Go.Gg.Tk
namespace Go.Gg.Tk
theorem Ge{h pre:List Int}(hp:pre≠[])(ht:h.take pre.length=pre):pre.getLastD 0=h.getD (pre.length-1) 0:=by
 have hl:0<pre.length:=Vs.2 hp;have e:pre[pre.length-1]?=h[pre.length-1]?:=by
  have:(h.take pre.length)[pre.length-1]?=pre[pre.length-1]?:=by rw[ht]
  rw[<- this,Uc,if_pos (by omega)]
 rw[SE,<- e,Vh,Yc]
def Good (x:ai)(k:Nat)(h:List Int):Prop:=∀j,k<=j->j<h.length->rP x j (h.getD j 0)=true/\(j+1<h.length->∃n:Nat,n<x.am.toNat+1/\h.getD (j+1) 0=h.getD j 0+n)
theorem Ay{h pre:List Int}{v:Int}:h.take (pre.length+1)=pre++[v]<->h.take pre.length=pre/\pre.length<h.length/\h.getD pre.length 0=v:=by
 constructor
 ·intro e;have hl:pre.length+1<=h.length:=by
   have:=congrArg Z_ e;rw[Ub,SO,TY]at this;omega
  have h1:=congrArg (Uq pre.length) e;rw[U1,Tw (SR _),TH,Wz (by omega)]at h1;refine⟨h1,by omega,?_⟩;have h2:(h.take (pre.length+1))[pre.length]?=(pre++[v])[pre.length]?:=by rw[e]
  rw[Uc,if_pos (by omega),Th (SR _),Vd]at h2;rw[SE,h2];rfl
 ·rintro⟨h1,h2,h3⟩
  rw[VI,h1];congr 1;rw[SE,SQ h2]at h3;rw[SQ h2,<- h3];rfl
theorem Cf{x:ai}:∀(d:Nat)(pre h:List Int),pre≠[]->(h∈jz x d pre<->h.length=pre.length+d/\h.take pre.length=pre/\Good x (pre.length-1) h)
 |0,pre,h,hp=>by
  have hl:0<pre.length:=Vs.2 hp;unfold jz;constructor
  ·intro hm;split at hm
   ·rename_i hs;rw[S9]at hm;subst hm;refine⟨rfl,TH,λj h1 h2=> ?_⟩;have:j=h.length-1:=(by omega);subst this;rw[Ge hp TH]at hs;exact⟨hs,λh=>by omega⟩
   ·cases hm
  ·rintro⟨h1,h2,h3⟩
   have e:h=pre:=(by rw[<- h2,SY (by omega)]);subst e;have:=(h3 (h.length-1) (SR _) (by omega)).1;rw[<- Ge hp TH]at this;rw[if_pos this];simp
 |d+1,pre,h,hp=>by
  have hl:0<pre.length:=Vs.2 hp;unfold jz;constructor
  ·intro hm;split at hm
   ·rename_i hs;obtain⟨n,hn,hm⟩:=S5.1 hm;rw[Cf d _ h (by simp)]at hm;obtain⟨h1,h2,h3⟩:=hm;rw[SO,TY]at h1 h2 h3;obtain⟨h4,h5,h6⟩:=Ay.1 h2;rw[Ge hp h4]at hs h6;refine⟨by omega,h4,λj xF Fx=> ?_⟩;by_cases hj:j=pre.length-1
    ·subst hj;refine⟨hs,λ_=>⟨n,Tu.1 hn,?_⟩⟩;rw[show pre.length-1+1=pre.length by omega];exact h6
    ·exact h3 j (by omega) Fx
   ·cases hm
  ·rintro⟨h1,h2,h3⟩
   obtain⟨hs,aQ⟩:=h3 (pre.length-1) (SR _) (by omega);obtain⟨n,hn,he⟩:=aQ (by omega);rw[show pre.length-1+1=pre.length by omega]at he;rw[Ge hp h2,if_pos hs];refine S5.2 ⟨n,Tu.2 hn,?_⟩;rw[Cf d _ h (by simp),SO,TY];exact⟨by omega,Ay.2 ⟨h2,by omega,he⟩,λj xF Fx=>h3 j (by omega) Fx⟩
theorem anb{h:List Int}(hm:∀j,j+1<h.length->h.getD j 0<=h.getD (j+1) 0):tO h:=by
 induction h with
 |nil=>trivial
 |cons a l ih=>
  cases l with
  |nil=>trivial
  |cons b l=>
   refine⟨?_,ih λj hj=> ?_⟩
   ·have:=hm 0 (by simp);simpa using this
   ·have:=hm (j+1) (by simp at hj⊢;omega);simpa using this
theorem ada{n:Int}:∀(h:List Int)(i:Nat),tO h->(0<=ft i h n<->h.headD 0<=n/\n<h.getLastD 0)
 |[],i,_=>by simp[ft]<;>omega
 |[a],i,_=>by simp[ft]<;>omega
 |a::b::l,i,hm=>by
  obtain⟨h1,h2⟩:=hm;have ih:=ada (n:=n) (b::l) (i+1) h2;have up:(a::b::l).getLastD 0=(b::l).getLastD 0:=by simp[Zv]
  rw[up];unfold ft;split
  ·rename_i h;have cL:b<=(b::l).getLastD 0:=aaZ h2;constructor
   ·intro _;exact⟨h.1,by omega⟩
   ·intro _;omega
  ·rename_i h;rw[ih];have e1:(a::b::l).headD 0=a:=rfl;have e2:(b::l).headD 0=b:=rfl;rw[e1,e2];omega
where
 aaZ {b:Int}:∀{l:List Int},tO (b::l)->b<=(b::l).getLastD 0
  |[],_=>by simp
  |c::l,hm=>by
   obtain⟨h1,h2⟩:=hm;have:=aaZ h2;have e:(b::c::l).getLastD 0=(c::l).getLastD 0:=(by simp[Zv]);rw[e];omega
theorem Np{h:List Int}{n:Int}(hm:tO h):0<=gw h n<->h.headD 0<=n/\n<h.getLastD 0:=ada h 0 hm
theorem Nn{n:Int}:∀(h:List Int)(i:Nat),0<=ft i h n->ft i h n+1<i+h.length
 |[],i,h=>by simp[ft]at h
 |[a],i,h=>by simp[ft]at h
 |a::b::l,i,h=>by
  unfold ft at h⊢;split
  ·simp;omega
  ·rename_i hn;rw[if_neg hn]at h;have:=Nn (b::l) (i+1) h;simp at this⊢;omega
theorem P9{h:List Int}{y:aC}{n:Int}(hm:tO h)(hf:fits h y n=true):n∈C7 h:=by
 unfold fits at hf;simp only[Tc,decide_eq_true_eq]at hf;obtain⟨h1,h2⟩:=(Np hm).1 hf.1.1;unfold C7;refine Td.2 ⟨(n-h.headD 0).toNat,Tu.2 (by omega),by omega⟩
theorem Qv{α:Type}[DecidableEq α]{l:List α}{d:α}{i:Nat}(hi:i<l.length):l.Nodup->l.getD i d∉l.take i:=λhn hm=>by
 obtain⟨j,hj⟩:=VH hm;rw[Uc]at hj;split at hj
 ·rename_i cp;rw[SE,SQ hi,SQ (by omega)]at hj;simp only[S8,Tn]at hj;have h2:=Ur.1 hn;exact(Yb.1 h2) j i (by omega) hi cp hj
 ·cases hj
theorem aa6{α:Type}{l:List α}{d:α}(h:∀i,i<l.length->l.getD i d∉l.take i):l.Nodup:=by
 rw[Ur,Yb];intro i j hi hj kg e;refine h j hj ?_;rw[SE,SQ hj,S8,<- e];exact UO.2 ⟨i,by rw[Uc,if_pos kg,SQ hi]⟩
theorem Hd{α:Type}{d:α}{h pre:List α}{v:α}:h.take (pre.length+1)=pre++[v]<->h.take pre.length=pre/\pre.length<h.length/\h.getD pre.length d=v:=by
 constructor
 ·intro e;have hl:pre.length+1<=h.length:=by
   have:=congrArg Z_ e;rw[Ub,SO,TY]at this;omega
  have h1:=congrArg (Uq pre.length) e;rw[U1,Tw (SR _),TH,Wz (by omega)]at h1;refine⟨h1,by omega,?_⟩;have h2:(h.take (pre.length+1))[pre.length]?=(pre++[v])[pre.length]?:=by rw[e]
  rw[Uc,if_pos (by omega),Th (SR _),Vd]at h2;rw[SE,h2];rfl
 ·rintro⟨h1,h2,h3⟩
  rw[VI,h1];congr 1;rw[SE,SQ h2]at h3;rw[SQ h2,<- h3];rfl
theorem Gz{h:List Int}(hm:tO h):∀(ys:List aC)(t ns:List Int),ns∈mT h ys t<->ns.length=t.length+ys.length/\ns.take t.length=t/\∀i y,ys[i]?=some y->fits h y (ns.getD (t.length+i) 0)=true/\ns.getD (t.length+i) 0∉ns.take (t.length+i)
 |[],t,ns=>by
  simp only[mT,S9,UQ,UK];constructor
  ·rintro rfl;exact⟨rfl,TH,λi y hy=>by cases hy⟩
  ·rintro⟨h1,h2,_⟩;rw[<- h2,SY (by omega)]
 |y::ys,t,ns=>by
  simp only[mT,S5,Ud,Tc,TV,Ui];constructor
  ·rintro⟨n,⟨_,hf,ht⟩,fN⟩
   rw[Gz hm ys (t++[n]) ns]at fN;obtain⟨h1,h2,h3⟩:=fN;rw[SO,TY]at h1 h2 h3;obtain⟨h4,h5,h6⟩:=(Hd (d:=0)).1 h2;refine⟨by omega,h4,λi z hz=> ?_⟩
   match i,hz with
   |0,hz=>
    cases hz;rw[UK,h6,h4];refine⟨hf,?_⟩;intro hc;rw[Un]at ht;simp at ht;exact ht hc
   |i+1,hz=>
    have:=h3 i z hz;rw[show t.length+1+i=t.length+(i+1) by omega]at this;exact this
  ·rintro⟨h1,h2,h3⟩
   obtain⟨hf,hn⟩:=h3 0 y rfl;rw[UK]at hf hn;rw[h2]at hn;refine⟨ns.getD t.length 0,⟨P9 hm hf,hf,by rw[Un];simpa using hn⟩,?_⟩;rw[Gz hm ys _ ns,SO,TY];refine⟨by omega,(Hd (d:=0)).2 ⟨h2,by omega,rfl⟩,λi z hz=> ?_⟩;have:=h3 (i+1) z hz;rw[show t.length+(i+1)=t.length+1+i by omega]at this;exact this
theorem GM{h ns:List Int}:∀(ss:List aC)(t os:List Nat),os∈po h ns ss t<->os.length=t.length+ss.length/\os.take t.length=t/\∀i s,ss[i]?=some s->fits h s (ns.getD (os.getD (t.length+i) 0) 0)=true/\os.getD (t.length+i) 0<ns.length/\os.getD (t.length+i) 0∉os.take (t.length+i)
 |[],t,os=>by
  simp only[po,S9,UQ,UK];constructor
  ·rintro rfl;exact⟨rfl,TH,λi y hy=>by cases hy⟩
  ·rintro⟨h1,h2,_⟩;rw[<- h2,SY (by omega)]
 |s::ss,t,os=>by
  simp only[po,S5,Ud,Tc,TV,Ui,Tu];constructor
  ·rintro⟨n,⟨hlt,hf,ht⟩,fN⟩
   rw[GM ss (t++[n]) os]at fN;obtain⟨h1,h2,h3⟩:=fN;rw[SO,TY]at h1 h2 h3;obtain⟨h4,h5,h6⟩:=(Hd (d:=0)).1 h2;refine⟨by omega,h4,λi z hz=> ?_⟩
   match i,hz with
   |0,hz=>
    cases hz;rw[UK,h6,h4];refine⟨hf,hlt,?_⟩;intro hc;rw[Un]at ht;simp at ht;exact ht hc
   |i+1,hz=>
    have:=h3 i z hz;rw[show t.length+1+i=t.length+(i+1) by omega]at this;exact this
  ·rintro⟨h1,h2,h3⟩
   obtain⟨hf,hlt,hn⟩:=h3 0 s rfl;rw[UK]at hf hlt hn;rw[h2]at hn;refine⟨os.getD t.length 0,⟨hlt,hf,by rw[Un];simpa using hn⟩,?_⟩;rw[GM ss _ os,SO,TY];refine⟨by omega,(Hd (d:=0)).2 ⟨h2,by omega,rfl⟩,λi z hz=> ?_⟩;have:=h3 (i+1) z hz;rw[show t.length+(i+1)=t.length+1+i by omega]at this;exact this
end Go.Gg.Tk
namespace Go.Gg.Tk
theorem Rx{x:ai}{bh:Nat}:∀(d:Nat)(pre:List Int),2<=pre.length->mN x bh d pre=(jz x d pre).map cq
 |0,pre,_=>by
  unfold mN jz;split<;>rfl
 |d+1,pre,h=>by
  unfold mN jz;split
  ·rw[Vu];congr 1;funext n;rw[if_neg (λhc=>by have:=hc.1;omega),Rx d _ (by simp;omega)]
  ·rfl
theorem Qc{α:Type}{t:Nat}{f:Nat->List α}:∀m,((SZ m).flatMap λn=>if n≠t then[]else f n)=if t<m then f t else[]
 |0=>by simp
 |m+1=>by
  rw[Vk,VR,Qc m];simp only[T9,List.flatMap_nil,S0];by_cases h:m=t
  ·subst h;rw[if_neg (Nat.lt_irrefl _),if_neg (by simp),if_pos (Uu _),UF]
  ·rw[if_pos h,S0];by_cases h2:t<m
   ·rw[if_pos h2,if_pos (by omega)]
   ·rw[if_neg h2,if_neg (by omega)]
theorem Fu{x:ai}{bh:Nat}(hh:1<=x.hours)(ht:bh<x.am.toNat+1):jA x bh=(vX x bh).map cq:=by
 unfold jA vX;obtain⟨d,hd⟩:∃d,x.hours.toNat=d+1:=⟨x.hours.toNat-1,by omega⟩;rw[hd];unfold mN;simp only[TY,Vd,VY,true_and];rw[show ([x.first]:List Int).getLastD 0=x.first from rfl];split
 ·rw[Qc (t:=bh) (f:=λn=>mN x bh d ([x.first]++[x.first+(n:Int)])),if_pos ht,Rx d _ (by simp)];rfl
 ·rfl
theorem Fv{x:ai}(hh:1<=x.hours):((SZ (x.am.toNat+1)).flatMap λt=>vX x t)=aL x:=by
 unfold aL vX;obtain⟨d,hd⟩:∃d,x.hours.toNat=d+1:=⟨x.hours.toNat-1,by omega⟩;rw[hd,VY,show jz x (d+1) [x.first]=(if rP x 0 x.first then(SZ (x.am.toNat+1)).flatMap λn:Nat=>jz x d [x.first,x.first+(n:Int)]else[])from rfl];split
 ·rfl
 ·simp
end Go.Gg.Tk
namespace Go.Gg.Tk
theorem apb{p:Nat->Bool}{m k:Nat}(h:m<=k):((SZ k).filter λn=>decide (n<m)&&p n)=(SZ m).filter p:=by
 obtain⟨j,rfl⟩:=Nat.exists_eq_add_of_le h;rw[List.range_add,List.filter_append];have h1:((SZ j).map (m+·)).filter (λn=>decide (n<m)&&p n)=[]:=by
  rw[WW];intro a ha;obtain⟨b,_,rfl⟩:=Td.1 ha;simp only[Tc,decide_eq_true_eq,not_and];exactλhlt=>absurd hlt (by omega)
 rw[h1,S0];refine Vj λn hn=> ?_;rw[Tu]at hn;simp[hn]
theorem Jf{α:Type}{c:Nat->Bool}{f:Nat->List α}:∀l:List Nat,(l.flatMap λn=>if c n=true then[]else f n)=(l.filter λn=> !c n).flatMap f
 |[]=>rfl
 |n::l=>by
  rw[T9,List.filter_cons,Jf l];cases hc:c n<;>simp
def tw (g:aC->Nat->Bool)(m:Nat):List aC->List Nat->List (List Nat)
 |[],t=>[t]
 |y::ys,t=>((SZ m).filter λn=>g y n&& !t.contains n).flatMap λn=>tw g m ys (t++[n])
theorem Mk{g:aC->Nat->Bool}{q:aC->Nat}{m:Nat}(hm:m<=9):∀(ys:List aC)(u:Nat)(t:List Nat),(∀y∈ys,∀n,n<9->(q y).testBit n=(decide (n<m)&&g y n))->(∀n,u.testBit n=t.contains n)->kL (ys.map q) u t=tw g m ys t
 |[],u,t,_,_=>rfl
 |y::ys,u,t,hq,hu=>by
  rw[UP,kL,tw];have e1:((SZ 9).flatMap λn=>if(u.testBit n|| !(q y).testBit n)=true then[]else kL (ys.map q) (u|||2^n) (t++[n]))=((SZ 9).filter λn=> !(u.testBit n|| !(q y).testBit n)).flatMap λn=>kL (ys.map q) (u|||2^n) (t++[n]):=Jf _;rw[e1];have e2:((SZ 9).filter λn=> !(u.testBit n|| !(q y).testBit n))=(SZ m).filter λn=>g y n&& !t.contains n:=by
   rw[<- apb hm];refine Vj λn hn=> ?_;rw[Tu]at hn;rw[hu,hq y (by simp) n hn];cases t.contains n<;>cases decide (n<m)<;>cases g y n<;>rfl
  rw[e2];congr 1;funext n;refine Mk hm ys _ _ (λz hz=>hq z (by simp[hz])) λi=> ?_;rw[WM,hu,Vy,YU];simp[eq_comm]
theorem abd{h:List Int}{a:Int}{g:aC->Nat->Bool}{m:Nat}(hr:C7 h=(SZ m).map λi:Nat=>a+(i:Int)):∀(ys:List aC)(t:List Nat),(∀y∈ys,∀n,n<m->fits h y (a+(n:Int))=g y n)->mT h ys (t.map λi:Nat=>a+(i:Int))=(tw g m ys t).map λl=>l.map λi:Nat=>a+(i:Int)
 |[],t,_=>rfl
 |y::ys,t,hg=>by
  rw[mT,tw,hr,List.filter_map,WS,Vu];have e:(SZ m).filter ((λn=>fits h y n&& !(t.map λi:Nat=>a+(i:Int)).contains n)∘λi:Nat=>a+(i:Int))=(SZ m).filter λn=>g y n&& !t.contains n:=by
   refine Vj λn hn=> ?_;rw[Tu]at hn;simp only[Wj];rw[hg y (by simp) n hn];congr 1;congr 1;rw[UY,YL,YL,Td];constructor
   ·rintro⟨i,h1,h2⟩
    have:i=n:=(by omega);rw[<- this];exact h1
   ·exactλh1=>⟨n,h1,rfl⟩
  rw[e];congr 1;funext n;have:=abd hr ys (t++[n]) (λz hz=>hg z (by simp[hz]));rw[TF]at this;exact this
end Go.Gg.Tk
namespace Go.Gg.Tk
theorem abu{h:List Int}{ns:List Nat}{nl:List Int}{q:aC->Nat}(hl:nl.length=ns.length):∀(ss:List aC)(u:Nat)(t:List Nat),(∀s∈ss,∀p,p<ns.length->(q s).testBit (ns.getD p 0)=fits h s (nl.getD p 0))->(∀n,u.testBit n=t.contains n)->mv ns.length ns (ss.map q) u t=po h nl ss t
 |[],u,t,_,_=>rfl
 |s::ss,u,t,hq,hu=>by
  rw[UP,mv,po,hl];have e1:((SZ ns.length).flatMap λp=>if(u.testBit p|| !(q s).testBit (ns.getD p 0))=true then[]else mv ns.length ns (ss.map q) (u|||2^p) (t++[p]))=((SZ ns.length).filter λp=> !(u.testBit p|| !(q s).testBit (ns.getD p 0))).flatMap λp=>mv ns.length ns (ss.map q) (u|||2^p) (t++[p]):=Jf _;rw[e1];have e2:((SZ ns.length).filter λp=> !(u.testBit p|| !(q s).testBit (ns.getD p 0)))=(SZ ns.length).filter λp=>fits h s (nl.getD p 0)&& !t.contains p:=by
   refine Vj λp hp=> ?_;rw[Tu]at hp;rw[hu,hq s (by simp) p hp];cases t.contains p<;>cases fits h s (nl.getD p 0)<;>rfl
  rw[e2];congr 1;funext p;refine abu hl ss _ _ (λz hz=>hq z (by simp[hz])) λi=> ?_;rw[WM,hu,Vy,YU];simp[eq_comm]
theorem abi{g:aC->Nat->Bool}{m:Nat}:∀{ys:List aC}{t ns:List Nat},ns∈tw g m ys t->(∀n∈t,n<m)->ns.length=t.length+ys.length/\∀n∈ns,n<m
 |[],t,ns,h,ht=>by
  simp only[tw,S9]at h;subst h;exact⟨by simp,ht⟩
 |y::ys,t,ns,h,ht=>by
  simp only[tw,S5,Ud,Tu]at h;obtain⟨n,⟨hn,_⟩,h⟩:=h;obtain⟨h1,h2⟩:=abi h (λk hk=>by
   rcases SS.1 hk with h'|h'
   ·exact ht k h'
   ·rw[S9.1 h'];exact hn)
  exact⟨by rw[h1];simp;omega,h2⟩
end Go.Gg.Tk
namespace Go.Gg.Tk
structure vb (x:ai)(h:List Int):Prop where
 lo:2<=h.length
 hi:h.length<=4
 head:h.headD 0=x.first
 span:h.getLastD 0<=x.first+9
 pad:mB (cq h)
theorem Ms{h:List Int}(hl:2<=h.length):(cq h).getD 0 0=h.headD 0:=by
 match h,hl with
 |a::b::l,_=>rfl
theorem abz{h:List Int}(hl:2<=h.length)(h4:h.length<=4):(cq h).getD 3 0=h.getLastD 0:=by
 match h,hl,h4 with
 |[a,b],_,_=>rfl
 |[a,b,c],_,_=>rfl
 |[a,b,c,d],_,_=>rfl
theorem abA{h:List Int}{n:Int}(hl:2<=h.length)(h4:h.length<=4):gw (cq h) n=gw h n:=by
 match h,hl,h4 with
 |[a,b],_,_=>exact Nm (i:=0) (k:=2) (z:=b) (h:=[a,b]) (n:=n) rfl (by simp)
 |[a,b,c],_,_=>exact Nm (i:=0) (k:=1) (z:=c) (h:=[a,b,c]) (n:=n) rfl (by simp)
 |[a,b,c,d],_,_=>exact Nm (i:=0) (k:=0) (z:=d) (h:=[a,b,c,d]) (n:=n) rfl (by simp)
def mr (h:List Int):Nat:=(h.getLastD 0-h.headD 0).toNat
theorem Bj{x:ai}{h:List Int}(hh:vb x h)(y:aC){n:Nat}(hn:n<9):(bR (cq h) y).testBit n=(decide (n<mr h)&&fits h y (h.headD 0+(n:Int))):=by
 unfold bR;rw[Bm];unfold lF fits;rw[Ms hh.lo,abz hh.lo hh.hi,abA hh.lo hh.hi];have e1:decide (n<9)=true:=decide_eq_true hn;have e2:decide (h.headD 0+(n:Int)<h.getLastD 0)=decide (n<mr h):=by
  unfold mr;rw[UY];simp only[decide_eq_true_eq];omega
 rw[e1,e2,Vb];by_cases hm:n<mr h
 ·have e3:0<=gw h (h.headD 0+(n:Int)):=by
   unfold mr at hm;refine Nl (a:=h.headD 0) ?_ (by omega) (by omega);have:=hh.lo
   match h,this with
   |a::b::l,_=>rfl
  rw[decide_eq_true e3,decide_eq_true hm];simp
 ·rw[decide_eq_false hm];simp
theorem abc{x:ai}{h:List Int}(hh:vb x h):mT h x.pieces []=(fS x (cq h)).map λl=>l.map λi:Nat=>h.headD 0+(i:Int):=by
 have Ck:mr h<=9:=by unfold mr;have:=hh.span;have:=hh.head;omega
 have e1:fS x (cq h)=tw (λy n=>fits h y (h.headD 0+(n:Int))) (mr h) x.pieces []:=
  Mk Ck x.pieces 0 [] (λy _ n hn=>Bj hh y hn) (by simp)
 rw[e1];exact abd (a:=h.headD 0) rfl x.pieces [] λy _ n _=>rfl
end Go.Gg.Tk
namespace Go.Gg.Tk
theorem anr{x:ai}{h:List Int}(hh:vb x h){ns:List Nat}(hn:ns∈fS x (cq h)):ns.length=x.pieces.length/\∀n∈ns,n<mr h:=by
 have Ck:mr h<=9:=by unfold mr;have:=hh.span;have:=hh.head;omega
 have e1:fS x (cq h)=tw (λy n=>fits h y (h.headD 0+(n:Int))) (mr h) x.pieces []:=
  Mk Ck x.pieces 0 [] (λy _ n hn=>Bj hh y hn) (by simp)
 rw[e1]at hn;have:=abi hn (by simp);exact⟨by simpa using this.1,this.2⟩
theorem anT{x:ai}{h:List Int}(hh:vb x h){ns:List Nat}(hn:ns∈fS x (cq h)):ie x (cq h) ns=po h (ns.map λi:Nat=>h.headD 0+(i:Int)) x.aB []:=by
 obtain⟨h1,h2⟩:=anr hh hn;have Ck:mr h<=9:=by unfold mr;have:=hh.span;have:=hh.head;omega
 unfold ie;rw[<- h1];refine abu (by simp) x.aB 0 [] (λs _ p hp=> ?_) (by simp);have rf:ns.getD p 0=ns[p]:=by rw[SE,SQ hp];rfl
 have hlt:=h2 ns[p] (VQ hp);have hg2:(ns.map λi:Nat=>h.headD 0+(i:Int)).getD p 0=h.headD 0+(ns[p]:Int):=by
  rw[SE,To,SQ hp];rfl
 rw[rf,hg2,Bj hh s (by omega),decide_eq_true hlt,Vb]
def dH (t:Tr):List Int:=db (cq t.aO) (t.ay.map λn=>(n-t.aO.headD 0).toNat) t.bC
theorem adi{x:ai}{h:List Int}(hh:vb x h){ns:List Nat}(hn:ns∈fS x (cq h)):(Dv x h (ns.map λi:Nat=>h.headD 0+(i:Int))).map dH=(ie x (cq h) ns).map (db (cq h) ns):=by
 unfold Dv;rw[XW,anT hh hn];refine VB λos _=> ?_;unfold dH;simp only[Wj,XW];congr 1
 conv=>rhs;rw[<- List.map_id ns]
 refine VB λn _=> ?_;simp only[Wj,id];omega
theorem BD{α β:Type}{l:List α}{f g:α->List β}(h:∀a∈l,f a=g a):l.flatMap f=l.flatMap g:=by
 rw[Wh,Wh,VB h]
theorem ac1{α:Type}:∀ll:List (List α),(ll.map (·.take 1)).flatten.take 1=ll.flatten.take 1
 |[]=>rfl
 |[]::ll=>by simpa using ac1 ll
 |(a::l)::ll=>by simp
theorem Nr{x:ai}{h:List Int}{deep:Int}(hh:vb x h):gG x deep (cq h)=(rV x deep h).map dH:=by
 have e2:(kq x h).map dH=(((fS x (cq h)).map λns=>(ie x (cq h) ns).map λos=>db (cq h) ns os)).flatten:=by
  unfold kq;rw[abc hh,WS,Vu,<- Wh];exact BD λns hn=>adi hh hn
 have e1:(uZ x h).map dH=(((fS x (cq h)).map λns=>(ie x (cq h) ns).map λos=>db (cq h) ns os).map (·.take 1)).flatten:=by
  unfold uZ;rw[abc hh,WS,Vu,XW,<- Wh];refine BD λns hn=> ?_;simp only[Wj];rw[VW,adi hh hn]
 unfold gG rV;dsimp only;split
 ·rw[VW,e1,ac1]
 ·split
  ·exact e1.symm
  ·exact e2.symm
end Go.Gg.Tk
namespace Go.Gg.Tk
theorem zA{x:ai}:∀(d:Nat)(pre h:List Int),pre≠[]->h∈jz x d pre->h.length=pre.length+d/\h.headD 0=pre.headD 0
 |0,pre,h,_,hm=>by
  unfold jz at hm;split at hm
  ·rw[S9]at hm;subst hm;exact⟨rfl,rfl⟩
  ·cases hm
 |d+1,pre,h,hp,hm=>by
  unfold jz at hm;split at hm
  ·obtain⟨n,_,hm⟩:=S5.1 hm;obtain⟨h1,h2⟩:=zA d _ h (by simp) hm;refine⟨by rw[h1];simp;omega,h2.trans ?_⟩
   match pre,hp with
   |a::l,_=>rfl
  ·cases hm
theorem Ft{x:ai}{t:Nat}(hx:x.Ok)(ht:t<x.am.toNat+1){h:List Int}(hm:h∈vX x t):vb x h:=by
 have hh:=hx.hours;have FH:cq h∈jA x t:=by rw[Fu hh.1 ht];exact Td.2 ⟨h,hm,rfl⟩
 have h4:=Ru hx FH;unfold vX at hm;split at hm
 ·obtain⟨h1,h2⟩:=zA _ _ _ (by simp) hm;have oX:2<=h.length:=by rw[h1];simp
  have Fo:h.length<=4:=by rw[h1];simp;omega
  have za:h.headD 0=x.first:=h2;refine⟨oX,Fo,za,?_,h4⟩;have:=h4.span;rw[Ms oX,abz oX Fo,za]at this;exact this
 ·cases hm
theorem ND{x:ai}{deep:Int}(hx:x.Ok):((SZ (x.am.toNat+1)).flatMap λt=>Hp x deep t)=(aL x).flatMap (rV x deep):=by
 unfold Hp;rw[<- Fv hx.hours.1,List.flatMap_assoc]
end Go.Gg.Tk
namespace Go.Gg.Tk
theorem aeA{l:List Nat}{i v p n:Nat}(hi:i<l.length):((oL l i v).getD p 0).testBit n=((l.getD p 0).testBit n||(decide (p=i)&&decide (n=v))):=by
 unfold oL;rw[SE,UU];by_cases h:i=p
 ·subst h;rw[if_pos rfl,if_pos hi,S8,WM,Vy];simp[eq_comm]
 ·rw[if_neg h,<- SE];have:¬p=i:=λe=>h e.symm;simp[this]
def pB (v:Nat->Nat):Nat->List Nat->List Nat
 |0,l=>l
 |k+1,l=>oL (pB v k l) k (v k)
theorem abg(t:List Int)(l:List Nat):∀k,rL t k l=pB (iA t) k l
 |0=>rfl
 |k+1=>by rw[rL,pB,abg t l k]
theorem R_(t:List Int)(l:List Nat):∀k,rq t k l=pB (tG t) k l
 |0=>rfl
 |k+1=>by rw[rq,pB,R_ t l k]
theorem abB(t:List Int)(l:List Nat):∀k,mU t k l=pB (rS t) k l
 |0=>rfl
 |k+1=>by rw[mU,pB,abB t l k]
theorem N8(v:Nat->Nat)(l:List Nat):∀k,(pB v k l).length=l.length
 |0=>rfl
 |k+1=>by rw[pB,Bd,N8 v l k]
theorem Ee{v:Nat->Nat}{l:List Nat}{p n:Nat}:∀k,k<=l.length->((pB v k l).getD p 0).testBit n=((l.getD p 0).testBit n||(decide (p<k)&&decide (n=v p)))
 |0,_=>by simp[pB]
 |k+1,h=>by
  rw[pB,aeA (by rw[N8];omega),Ee k (by omega)];by_cases hp:p=k
  ·subst hp;simp
  ·have e:(p<k+1)<->p<k:=(by omega);simp[hp,e]
theorem Mp{l m:List Nat}{p n:Nat}(h:l.length=m.length):((ly l m).getD p 0).testBit n=((l.getD p 0).testBit n||(m.getD p 0).testBit n):=by
 unfold ly;rw[SE,List.getElem?_zipWith,SE,SE];by_cases hp:p<l.length
 ·rw[SQ hp,SQ (by omega)];simp[WM]
 ·rw[Ut (by omega),Ut (by omega)];simp
theorem abI{hs:List (List Int)}{h g:List Int}:g∈jF hs h<->g∈hs\/g=h:=by
 unfold jF;split
 ·rename_i hm;exact⟨.inl,λe=>e.elim id λe=>e▸hm⟩
 ·rw[SS,S9]
theorem Qh{g:List Int}:∀{l hs:List (List Int)},g∈l.foldl jF hs<->g∈hs\/g∈l
 |[],hs=>by simp
 |a::l,hs=>by
  rw[UR,Qh,abI,SL,or_assoc]
theorem afI(Q:Kn)(t:List Int):(jO Q t).has=true:=by
 unfold jO;cases h:Q.has
 ·rfl
 ·rw[if_pos rfl];exact h
theorem ac3(x:ai)(deep:Int)(Q:Kn)(t:List Int):(ep x deep Q t).has=true:=by
 have:=afI Q t;unfold ep;dsimp only;split
 ·exact this
 ·split<;>exact this
theorem Qm{x:ai}{deep:Int}:∀(ts:List (List Int))(Q:Kn),(ts.foldl (ep x deep) Q).has=(Q.has|| !ts.isEmpty)
 |[],Q=>by simp
 |t::ts,Q=>by rw[UR,Qm ts,ac3];simp
theorem alH{F G:Kn}{hs:List (List Int)}:(gp F hs G).has=(F.has||G.has):=by
 unfold gp;cases h:G.has
 ·simp
 ·simp
end Go.Gg.Tk
namespace Go.Gg.Tk
theorem aq4{x:ai}{Q:Kn}{t g:List Int}:g∈(ep x 0 Q t).aL<->g∈Q.aL\/g=t.take 4:=by
 have hB:(jO Q t).aL=Q.aL:=by unfold jO;split<;>rfl
 unfold ep;dsimp only;rw[if_neg (by decide),if_pos rfl,abI,hB]
theorem Qj{x:ai}{g:List Int}:∀(ts:List (List Int))(Q:Kn),g∈(ts.foldl (ep x 0) Q).aL<->g∈Q.aL\/∃t∈ts,g=t.take 4
 |[],Q=>by simp
 |t::ts,Q=>by
  rw[UR,Qj ts,aq4];constructor
  ·rintro((h|h)|⟨u,h1,h2⟩)
   ·exact .inl h
   ·exact .inr ⟨t,by simp,h⟩
   ·exact .inr ⟨u,by simp[h1],h2⟩
  ·rintro(h|⟨u,h1,h2⟩)
   ·exact .inl (.inl h)
   ·rcases SL.1 h1 with rfl|h1
    ·exact .inl (.inr h2)
    ·exact .inr ⟨u,h1,h2⟩
def eE (x:ai)(deep:Int)(j:Nat):List (List Int):=(jA x j).flatMap (gG x deep)
theorem Ho(x:ai)(deep:Int)(j:Nat):gH x deep j=(eE x deep j).foldl (ep x deep) Kn.zero:=rfl
theorem DE(x:ai)(deep:Int)(j:Nat):(gH x deep j).has= !(eE x deep j).isEmpty:=by
 rw[Ho,Qm];rfl
theorem arX{x:ai}{j:Nat}{g:List Int}:g∈(gH x 0 j).aL<->∃t∈eE x 0 j,g=t.take 4:=by
 rw[Ho,Qj];simp[Kn.zero]
theorem aaq{x:ai}{deep:Int}{js:List Nat}{D:Kn}(h:nU x deep js D):D.has=js.any λj=> !(eE x deep j).isEmpty:=by
 induction h with
 |nil=>rfl
 |snoc h hp ih=>rw[alH,ih,DE,ZF];simp
theorem alI{x:ai}{js:List Nat}{D:Kn}{g:List Int}(h:nU x 0 js D):g∈D.aL<->∃j∈js,∃t∈eE x 0 j,g=t.take 4:=by
 induction h with
 |nil=>simp[Kn.zero]
 |@snoc js F j hs h hp ih=>
  have key:g∈(gp F hs (gH x 0 j)).aL<->g∈F.aL\/∃t∈eE x 0 j,g=t.take 4:=by
   unfold gp;split
   ·show g∈hs.foldl jF F.aL<->_;rw[Qh,hp.mem_iff,arX]
   ·rename_i hn;rw[DE]at hn;have:eE x 0 j=[]:=(by simpa using hn);rw[this];simp
  rw[key,ih];constructor
  ·rintro(⟨i,h1,h2⟩|h2)
   ·exact⟨i,by simp[h1],h2⟩
   ·exact⟨j,by simp,h2⟩
  ·rintro⟨i,h1,h2⟩
   rcases SS.1 h1 with h1|h1
   ·exact .inl ⟨i,h1,h2⟩
   ·rw[S9.1 h1]at h2;exact .inr h2
theorem Qi:∀{l hs:List (List Int)},hs.Nodup->(l.foldl jF hs).Nodup
 |[],hs,h=>h
 |a::l,hs,h=>by rw[UR];exact Qi (abJ h)
theorem alK{x:ai}{deep:Int}{js:List Nat}{D:Kn}(h:nU x deep js D):D.aL.Nodup:=by
 induction h with
 |nil=>exact WO
 |snoc h hp ih=>
  unfold gp;split
  ·exact Qi ih
  ·exact ih
end Go.Gg.Tk
namespace Go.Gg.Tk
theorem y8{x:ai}{deep:Int}{t:Nat}(hx:x.Ok)(ht:t<x.am.toNat+1):eE x deep t=(Hp x deep t).map dH:=by
 unfold eE Hp;rw[Fu hx.hours.1 ht,WS,Vu];exact BD λh hm=>Nr (Ft hx ht hm)
def l5 (x:ai)(deep:Int):List Tr:=(aL x).flatMap (rV x deep)
theorem zY{x:ai}{deep:Int}{js:List Nat}{p:Nat}(hx:x.Ok)(hp:x.am=p)(io:js.Perm (SZ (p+1))){t:List Int}:(∃j∈js,t∈eE x deep j)<->∃u∈l5 x deep,t=dH u:=by
 have nE:x.am.toNat=p:=by omega
 unfold l5;rw[<- ND hx,nE];constructor
 ·rintro⟨j,h1,h2⟩
  have hj:=io.mem_iff.1 h1;rw[y8 hx (by rw[nE];simpa using hj)]at h2;obtain⟨u,h3,rfl⟩:=Td.1 h2;exact⟨u,S5.2 ⟨j,hj,h3⟩,rfl⟩
 ·rintro⟨u,h1,rfl⟩
  obtain⟨j,hj,h3⟩:=S5.1 h1;refine⟨j,io.mem_iff.2 hj,?_⟩;rw[y8 hx (by rw[nE];simpa using hj)];exact Td.2 ⟨u,h3,rfl⟩
theorem wD{x:ai}{deep:Int}{h:List Int}{u:Tr}(hu:u∈rV x deep h):u∈kq x h:=by
 have h1:∀u,u∈uZ x h->u∈kq x h:=λu hu=>by
  unfold uZ at hu;obtain⟨ns,h1,h2⟩:=S5.1 hu;exact S5.2 ⟨ns,h1,Wv h2⟩
 unfold rV at hu;split at hu
 ·exact h1 u (Wv hu)
 ·split at hu
  ·exact h1 u hu
  ·exact hu
theorem tH{x:ai}{h:List Int}{u:Tr}(hu:u∈kq x h):u.aO=h:=by
 obtain⟨ns,_,h2⟩:=S5.1 hu;obtain⟨os,_,rfl⟩:=Td.1 h2;rfl
theorem Qe{α β:Type}{f:α->List β}:∀{l:List α},(l.flatMap λa=>(f a).take 1)=[]<->l.flatMap f=[]
 |[]=>by simp
 |a::l=>by
  rw[T9,T9,YB,YB,Qe,YS];simp
theorem adh{x:ai}{deep:Int}{h:List Int}:rV x deep h=[]<->kq x h=[]:=by
 have h1:uZ x h=[]<->kq x h=[]:=Qe;unfold rV;split
 ·rw[YS,h1];simp
 ·split
  ·exact h1
  ·exact Iff.rfl
theorem N_{x:ai}{deep:Int}:l5 x deep=[]<->bA x=[]:=by
 unfold l5 bA;rw[Vq,Vq];exact forall_congr' λh=>forall_congr' λ_=>adh
theorem aeI{x:ai}{deep:Int}{js:List Nat}:(js.any λj=> !(eE x deep j).isEmpty)=true<->∃t,∃j∈js,t∈eE x deep j:=by
 rw[Uv];constructor
 ·rintro⟨j,h1,h2⟩
  cases hg:eE x deep j with
  |nil=>rw[hg]at h2;cases h2
  |cons t l=>exact⟨t,j,h1,by rw[hg];simp⟩
 ·rintro⟨t,j,h1,h2⟩
  refine⟨j,h1,?_⟩;cases hg:eE x deep j with
  |nil=>rw[hg]at h2;cases h2
  |cons=>rfl
end Go.Gg.Tk
namespace Go.Gg
open Go.Gg.Tk
theorem F'{x:ai}{deep:Int}{D:Kn}(hx:x.Ok)(h:eU x deep D):D.has= !(bA x).isEmpty:=by
 obtain⟨p,js,h1,h2,h3,_⟩:=h;rw[aaq h3,UY,aeI];have key:(∃t,∃j∈js,t∈eE x deep j)<->l5 x deep≠[]:=by
  constructor
  ·rintro⟨t,h⟩ he
   obtain⟨u,hu,_⟩:=(zY hx h1 h2).1 h;rw[he]at hu;cases hu
  ·intro aE;obtain⟨u,hu⟩:=Ye _ aE;exact⟨dH u,(zY hx h1 h2).2 ⟨u,hu,rfl⟩⟩
 rw[key,ne_eq,N_];cases bA x<;>simp
theorem alQ{x:ai}{D:Kn}(hx:x.Ok)(h:eU x 0 D){g:List Int}:g∈D.aL<->∃u∈bA x,g=(dH u).take 4:=by
 obtain⟨p,js,h1,h2,h3,_⟩:=h;rw[alI h3];have e:(∃j∈js,∃t∈eE x 0 j,g=t.take 4)<->∃t,(∃j∈js,t∈eE x 0 j)/\g=t.take 4:=by
  constructor
  ·rintro⟨j,a,t,b,c⟩;exact⟨t,⟨j,a,b⟩,c⟩
  ·rintro⟨t,⟨j,a,b⟩,c⟩;exact⟨j,a,t,b,c⟩
 rw[e];have aF:∀u:Tr,u∈bA x->(dH u).take 4=cq u.aO:=λu hu=>by
  obtain⟨h,hm,kG⟩:=S5.1 hu;have hl:h.length=1+x.hours.toNat:=(zA _ _ _ (by simp) hm).1;have hh:=hx.hours;have h4:(cq u.aO).length=4:=by
   rw[tH kG];simp[cq];omega
  unfold dH db;rw[SD,Tw (by omega),SY (by omega)]
 have lO:∀u,u∈l5 x 0->u∈bA x:=λu hu=>by
  obtain⟨h,a,b⟩:=S5.1 hu;exact S5.2 ⟨h,a,wD b⟩
 constructor
 ·rintro⟨t,a,rfl⟩
  obtain⟨u,hu,rfl⟩:=(zY hx h1 h2).1 a;exact⟨u,lO u hu,rfl⟩
 ·rintro⟨u,hu,rfl⟩
  obtain⟨h,hm,kG⟩:=S5.1 hu;have aE:rV x 0 h≠[]:=λe=>by
   rw[adh]at e;rw[e]at kG;cases kG
  obtain⟨v,hv⟩:=Ye _ aE;have td:v∈l5 x 0:=S5.2 ⟨h,hm,hv⟩;refine⟨dH v,(zY hx h1 h2).2 ⟨v,td,rfl⟩,?_⟩;rw[aF u hu,aF v (lO v td),tH kG,tH (wD hv)]
end Go.Gg
namespace Go.Gg.Tk
theorem Ik(Q:Kn)(t:List Int):(jO Q t).ay=Q.ay/\(jO Q t).hours=Q.hours/\(jO Q t).less=Q.less/\(jO Q t).aU=Q.aU:=by
 unfold jO;split<;>exact⟨rfl,rfl,rfl,rfl⟩
theorem aq6{x:ai}{Q:Kn}{t:List Int}{p n:Nat}(hx:x.Ok)(hQ:bI Q)(hp:p<x.pieces.length):((ep x 1 Q t).ay.getD p 0).testBit n=((Q.ay.getD p 0).testBit n||decide (n=iA t p)):=by
 have h:(ep x 1 Q t).ay=rL t x.pieces.length Q.ay:=by
  rw[<- (Ik Q t).1];rfl
 rw[h,abg,Ee _ (by rw[hQ.ay];exact hx.c9),decide_eq_true hp,Vb]
theorem aq5{x:ai}{Q:Kn}{t:List Int}{p n:Nat}(hx:x.Ok)(hQ:bI Q)(hp:p<x.pieces.length):((ep x 1 Q t).hours.getD p 0).testBit n=((Q.hours.getD p 0).testBit n||decide (n=tG t p)):=by
 have h:(ep x 1 Q t).hours=rq t x.pieces.length Q.hours:=by
  rw[<- (Ik Q t).2.1];rfl
 rw[h,R_,Ee _ (by rw[hQ.hours];exact hx.c9),decide_eq_true hp,Vb]
theorem aq7{x:ai}{Q:Kn}{t:List Int}{s n:Nat}(hx:x.Ok)(hQ:bI Q)(hs:s<x.aB.length):((ep x 2 Q t).aU.getD s 0).testBit n=((Q.aU.getD s 0).testBit n||decide (n=rS t s)):=by
 have h:(ep x 2 Q t).aU=mU t x.aB.length Q.aU:=by
  rw[<- (Ik Q t).2.2.2];rfl
 rw[h,abB,Ee _ (by rw[hQ.aU];exact hx.eK),decide_eq_true hs,Vb]
theorem Qk{x:ai}{deep:Int}(hx:x.Ok){f:Kn->Bool}{g:List Int->Bool}(h:∀Q t,bI Q->jn x t->f (ep x deep Q t)=(f Q||g t)):∀(ts:List (List Int))(Q:Kn),bI Q->(∀t∈ts,jn x t)->f (ts.foldl (ep x deep) Q)=(f Q||ts.any g)
 |[],Q,_,_=>by simp
 |t::ts,Q,hQ,ht=>by
  rw[UR,Qk hx h ts _ (Ni hx (ht t (by simp)) hQ) (λu hu=>ht u (by simp[hu])),h Q t hQ (ht t (by simp)),YV,Bool.or_assoc]
theorem Qz{x:ai}{deep:Int}{j:Nat}(hx:x.Ok)(hj:j<=3){t:List Int}(ht:t∈eE x deep j):jn x t:=by
 obtain⟨h,h1,h2⟩:=S5.1 ht;obtain⟨ns,h3,h4⟩:=Ns h2;exact((Du hx) j hj h h1).2 ns h3 t h4
theorem alJ{x:ai}{deep:Int}(hx:x.Ok){f:Kn->Bool}{g:List Int->Bool}(h0:f Kn.zero=false)(h:∀Q t,bI Q->jn x t->f (ep x deep Q t)=(f Q||g t))(hj:∀F G hs,bI F->bI G->G.has=true->f (gp F hs G)=(f F||f G)){js:List Nat}{D:Kn}(io:∀j∈js,j<=3)(hD:nU x deep js D):bI D/\f D=js.any λj=>(eE x deep j).any g:=by
 induction hD with
 |nil=>exact⟨CU,by simpa using h0⟩
 |@snoc js F j hs hJ hp ih=>
  obtain⟨mQ,lx⟩:=ih λi hi=>io i (by simp[hi]);have RB:j<=3:=io j (by simp);have az:bI (gH x deep j):=NC hx ((Du hx) j RB);refine⟨aan mQ az hp,?_⟩;have hw:f (gH x deep j)=(eE x deep j).any g:=by
   rw[Ho,Qk hx h _ _ CU (λt ht=>Qz hx RB ht),h0,ZB]
  rw[ZF,<- lx];simp only[YV,List.any_nil,Bool.or_false];cases hG:(gH x deep j).has with
  |true=>rw[hj F _ hs mQ az hG,hw]
  |false=>
   have hn:eE x deep j=[]:=by
    rw[DE]at hG;simpa using hG
   rw[hn];unfold gp;rw[hG];simp
end Go.Gg.Tk
namespace Go.Gg
open Go.Gg.Tk
theorem LQ{x:ai}{deep:Int}(hx:x.Ok){f:Kn->Bool}{g:List Int->Bool}(h0:f Kn.zero=false)(h:∀Q t,bI Q->jn x t->f (ep x deep Q t)=(f Q||g t))(hj:∀F G hs,bI F->bI G->G.has=true->f (gp F hs G)=(f F||f G)){D:Kn}(hD:eU x deep D):f D=true<->∃u∈l5 x deep,g (dH u)=true:=by
 obtain⟨p,js,h1,h2,h3,_⟩:=hD;have hp:=hx.am;have io:∀j∈js,j<=3:=λj hm=>by
  have:=h2.mem_iff.1 hm;rw[Tu]at this;omega
 rw[(alJ hx h0 h hj io h3).2,Uv];constructor
 ·rintro⟨j,a,b⟩
  obtain⟨t,c,d⟩:=Uv.1 b;obtain⟨u,hu,rfl⟩:=(zY hx h1 h2).1 ⟨j,a,c⟩;exact⟨u,hu,d⟩
 ·rintro⟨u,hu,d⟩
  obtain⟨j,a,c⟩:=(zY hx h1 h2).2 ⟨u,hu,rfl⟩;exact⟨j,a,Uv.2 ⟨_,c,d⟩⟩
theorem alT{x:ai}{D:Kn}{s n:Nat}(hx:x.Ok)(hD:eU x 2 D)(hs:s<x.aB.length):(D.aU.getD s 0).testBit n=true<->∃u∈bA x,rS (dH u) s=n:=by
 have aQ:=hx.eK;have e:l5 x 2=bA x:=rfl;rw[<- e,LQ (f:=λK=>(K.aU.getD s 0).testBit n) (g:=λt=>decide (n=rS t s)) hx ?_ (λQ t hQ _=>aq7 hx hQ hs) (λF G nG hF hG hh=> ?_) hD]
 ·exact exists_congr λu=>and_congr_right λ_=>by rw[decide_eq_true_eq];exact eq_comm
 ·have:([0,0,0]:List Nat).getD s 0=0:=by
   match s,(show s<3 by omega)with
   |0,_=>rfl
   |1,_=>rfl
   |2,_=>rfl
  show (([0,0,0]:List Nat).getD s 0).testBit n=false;rw[this];exact XL n
 ·have e2:(gp F nG G).aU=ly F.aU G.aU:=by unfold gp;rw[if_pos hh]
  rw[e2];exact Mp (by rw[hF.aU,hG.aU])
theorem H2{x:ai}{P:List Int->List Int->Prop}:(∃u∈l5 x 1,P u.aO u.ay)<->∃u∈bA x,P u.aO u.ay:=by
 constructor
 ·rintro⟨u,hu,hp⟩
  obtain⟨h,a,b⟩:=S5.1 hu;exact⟨u,S5.2 ⟨h,a,wD b⟩,hp⟩
 ·rintro⟨u,hu,hp⟩
  obtain⟨h,a,b⟩:=S5.1 hu;obtain⟨ns,c,d⟩:=S5.1 b;obtain⟨os,c2,rfl⟩:=Td.1 d;cases ho:po h ns x.aB []with
  |nil=>rw[ho]at c2;cases c2
  |cons o os'=>
   refine⟨⟨h,ns,o⟩,S5.2 ⟨h,a,?_⟩,hp⟩;show _∈uZ x h;refine S5.2 ⟨ns,c,?_⟩;unfold Dv;rw[ho];simp
theorem abf{h:List Int}:∀{ys:List aC}{t ns:List Int},ns∈mT h ys t->ns.length=t.length+ys.length
 |[],t,ns,hm=>by
  simp only[mT,S9]at hm;subst hm;rfl
 |y::ys,t,ns,hm=>by
  simp only[mT,S5]at hm;obtain⟨n,_,hm⟩:=hm;have:=abf hm;simp at this⊢;omega
theorem u5{x:ai}(hx:x.Ok){u:Tr}(hu:u∈bA x):u.aO.length=1+x.hours.toNat/\u.ay.length=x.pieces.length:=by
 obtain⟨h,a,b⟩:=S5.1 hu;obtain⟨ns,c,d⟩:=S5.1 b;obtain⟨os,_,rfl⟩:=Td.1 d;exact⟨(zA _ _ _ (by simp) a).1,by simpa using abf c⟩
theorem wu{h:List Int}(h4:h.length<=4):(cq h).length=4:=by simp[cq];omega
theorem PA{x:ai}(hx:x.Ok){u:Tr}(hu:u∈bA x){p:Nat}(hp:p<x.pieces.length):iA (dH u) p=(u.ay.getD p 0-u.aO.headD 0).toNat:=by
 obtain⟨h1,h2⟩:=u5 hx hu;have hh:=hx.hours;have h4:=wu (h:=u.aO) (by omega);have cO:p<u.ay.length:=by omega
 have hg:(dH u)[4+p]?=some (((u.ay[p]-u.aO.headD 0).toNat:Nat):Int):=by
  unfold dH db kM;rw[SD,Th (by omega),h4,US,SX (by simp;omega),SX (by simpa using cO),To,To,SQ cO];rfl
 unfold iA;rw[SE,hg,SE,SQ cO];rfl
theorem adA{p:Nat}(hp:p<4):([0,0,0,0]:List Nat).getD p 0=0:=by
 match p,hp with
 |0,_=>rfl
 |1,_=>rfl
 |2,_=>rfl
 |3,_=>rfl
theorem alS{x:ai}{D:Kn}{p n:Nat}(hx:x.Ok)(hD:eU x 1 D)(hp:p<x.pieces.length):(D.ay.getD p 0).testBit n=true<->∃u∈bA x,(u.ay.getD p 0-u.aO.headD 0).toNat=n:=by
 have mh:=hx.c9;rw[LQ (f:=λK=>(K.ay.getD p 0).testBit n) (g:=λt=>decide (n=iA t p)) hx ?_ (λQ t hQ _=>aq6 hx hQ hp) (λF G nG hF hG hh=> ?_) hD]
 ·rw[<- H2 (P:=λh ns=>(ns.getD p 0-h.headD 0).toNat=n)];refine exists_congr λu=>and_congr_right λhu=> ?_;obtain⟨h,a,b⟩:=S5.1 hu;have Lb:u∈bA x:=S5.2 ⟨h,a,wD b⟩;rw[decide_eq_true_eq,PA hx Lb hp];exact eq_comm
 ·show (([0,0,0,0]:List Nat).getD p 0).testBit n=false;rw[adA (by omega)];exact XL n
 ·have e2:(gp F nG G).ay=ly F.ay G.ay:=by unfold gp;rw[if_pos hh]
  rw[e2];exact Mp (by rw[hF.ay,hG.ay])
theorem abe{h:List Int}:∀{ys:List aC}{t ns:List Int},ns∈mT h ys t->(∀n∈t,h.headD 0<=n)->∀n∈ns,h.headD 0<=n
 |[],t,ns,hm,ht=>by
  simp only[mT,S9]at hm;subst hm;exact ht
 |y::ys,t,ns,hm,ht=>by
  simp only[mT,S5,Ud]at hm;obtain⟨n,⟨hn,_⟩,hm⟩:=hm;refine abe hm λk hk=> ?_;rcases SS.1 hk with h'|h'
  ·exact ht k h'
  ·rw[S9.1 h'];obtain⟨i,_,rfl⟩:=Td.1 hn;omega
theorem adj{x:ai}{u:Tr}(hu:u∈bA x):∀n∈u.ay,u.aO.headD 0<=n:=by
 obtain⟨h,a,b⟩:=S5.1 hu;obtain⟨ns,c,d⟩:=S5.1 b;obtain⟨os,_,rfl⟩:=Td.1 d;exact abe c (by simp)
theorem ag3{x:ai}(hx:x.Ok){u:Tr}(hu:u∈bA x){p:Nat}(hp:p<x.pieces.length):tG (dH u) p=(gw u.aO (u.ay.getD p 0)).toNat:=by
 obtain⟨h1,h2⟩:=u5 hx hu;have hh:=hx.hours;have h4:=wu (h:=u.aO) (by omega);have cO:p<u.ay.length:=by omega
 have sS:=adj hu u.ay[p] (VQ cO);have hg:(dH u)[4+p]?=some (((u.ay[p]-u.aO.headD 0).toNat:Nat):Int):=by
  unfold dH db kM;rw[SD,Th (by omega),h4,US,SX (by simp;omega),SX (by simpa using cO),To,To,SQ cO];rfl
 have aF:(dH u).take 4=cq u.aO:=by
  unfold dH db;rw[SD,Tw (by omega),SY (by omega)]
 have h0:(dH u).getD 0 0=u.aO.headD 0:=by
  rw[<- Ms (by omega)];unfold dH db;rw[SD,SE,SX (by omega),<- SE]
 unfold tG;rw[aF,h0,SE,hg,abA (by omega) (by omega),SE,SQ cO];simp only[S8];congr 2;omega
theorem alR{x:ai}{D:Kn}{p n:Nat}(hx:x.Ok)(hD:eU x 1 D)(hp:p<x.pieces.length):(D.hours.getD p 0).testBit n=true<->∃u∈bA x,(gw u.aO (u.ay.getD p 0)).toNat=n:=by
 have mh:=hx.c9;rw[LQ (f:=λK=>(K.hours.getD p 0).testBit n) (g:=λt=>decide (n=tG t p)) hx ?_ (λQ t hQ _=>aq5 hx hQ hp) (λF G nG hF hG hh=> ?_) hD]
 ·rw[<- H2 (P:=λh ns=>(gw h (ns.getD p 0)).toNat=n)];refine exists_congr λu=>and_congr_right λhu=> ?_;obtain⟨h,a,b⟩:=S5.1 hu;have Lb:u∈bA x:=S5.2 ⟨h,a,wD b⟩;rw[decide_eq_true_eq,ag3 hx Lb hp];exact eq_comm
 ·show (([0,0,0,0]:List Nat).getD p 0).testBit n=false;rw[adA (by omega)];exact XL n
 ·have e2:(gp F nG G).hours=ly F.hours G.hours:=by unfold gp;rw[if_pos hh]
  rw[e2];exact Mp (by rw[hF.hours,hG.hours])
theorem ag1{x:ai}(hx:x.Ok){u:Tr}(hu:u∈bA x){p:Nat}(hp:p<x.pieces.length):(dH u).getD (4+p) 0=u.ay.getD p 0-u.aO.headD 0:=by
 obtain⟨h1,h2⟩:=u5 hx hu;have hh:=hx.hours;have h4:=wu (h:=u.aO) (by omega);have cO:p<u.ay.length:=by omega
 have sS:=adj hu u.ay[p] (VQ cO);have hg:(dH u)[4+p]?=some (((u.ay[p]-u.aO.headD 0).toNat:Nat):Int):=by
  unfold dH db kM;rw[SD,Th (by omega),h4,US,SX (by simp;omega),SX (by simpa using cO),To,To,SQ cO];rfl
 rw[SE,hg,SE,SQ cO];simp only[S8];omega
namespace Tk
structure AN (x:ai)(u:Tr):Prop where
 aO:mY x.first x.am u.aO x.hours.toNat
 seen:∀s∈x.seen,kJ s.next (u.aO.getD s.hour.toNat 0)=true
 uR:u.ay.length=x.pieces.length
 piece:∀(p:Nat) y,x.pieces[p]?=some y->fits u.aO y (u.ay.getD p 0)=true
 Gx:u.ay.Nodup
 uS:u.bC.length=x.aB.length
 own:∀v∈u.bC,v<x.pieces.length
 stub:∀(s:Nat) y,x.aB[s]?=some y->fits u.aO y (u.ay.getD (u.bC.getD s 0) 0)=true
 GL:u.bC.Nodup
theorem _root_.Go.Gg.mY.mono{first am:Int}{l:List Int}{i:Nat}(h:mY first am l i):tO l:=anb λj hj=>(h.step j (by have:=h.len;omega)).1
theorem akf{x:ai}(hx:x.Ok){h:List Int}:h∈aL x<->mY x.first x.am h x.hours.toNat/\∀s∈x.seen,kJ s.next (h.getD s.hour.toNat 0)=true:=by
 have hp:=hx.am;unfold aL;rw[Cf _ _ _ (by simp)];simp only[TY];constructor
 ·rintro⟨h1,h2,h3⟩
  have h4:=(Ay (pre:=[]) (v:=x.first)).1 h2;refine⟨⟨by omega,h4.2.2,λj hj=> ?_⟩,λs hs=> ?_⟩
  ·obtain⟨n,hn,e⟩:=(h3 j (by omega) (by omega)).2 (by omega);omega
  ·have hsr:=(hx.seen s hs).1;have:=(h3 s.hour.toNat (by omega) (by omega)).1;unfold rP at this;have:=TA.1 this s hs;have e:s.hour=(s.hour.toNat:Int):=(by omega);rw[<- e]at this;simpa using this
 ·rintro⟨h1,h2⟩
  have hl:=h1.len;refine⟨by omega,(Ay (pre:=[]) (v:=x.first)).2 ⟨rfl,by simp;omega,h1.head⟩,λj _ hj=>⟨?_,λFx=> ?_⟩⟩
  ·unfold rP;rw[TA];intro s hs;by_cases e:s.hour=(j:Int)
   ·have:=h2 s hs;rw[show s.hour.toNat=j by omega]at this;rw[this];simp
   ·simp[e]
  ·have:=h1.step j (by omega);exact⟨(h.getD (j+1) 0-h.getD j 0).toNat,by omega,by omega⟩
theorem adl{x:ai}{u:Tr}:u∈bA x<->u.aO∈aL x/\u.ay∈mT u.aO x.pieces []/\u.bC∈po u.aO u.ay x.aB []:=by
 constructor
 ·intro hu;obtain⟨h,a,b⟩:=S5.1 hu;obtain⟨ns,c,d⟩:=S5.1 b;obtain⟨os,e,rfl⟩:=Td.1 d;exact⟨a,c,e⟩
 ·rintro⟨a,b,c⟩
  exact S5.2 ⟨u.aO,a,S5.2 ⟨u.ay,b,Td.2 ⟨u.bC,c,rfl⟩⟩⟩
theorem Qu{l:List Nat}{i:Nat}(h:i<l.length):l.getD i 0∈l:=by
 rw[SE,SQ h];exact VQ h
theorem z9{x:ai}(hx:x.Ok){u:Tr}:u∈bA x<->AN x u:=by
 rw[adl,akf hx];constructor
 ·rintro⟨⟨h1,h2⟩,h3,h4⟩
  have hm:=h1.mono;rw[Gz hm]at h3;rw[GM]at h4;simp only[UQ,Wt]at h3 h4;obtain⟨a1,_,a3⟩:=h3;obtain⟨b1,_,b3⟩:=h4;refine⟨h1,h2,a1,λp y hy=>(a3 p y hy).1,aa6 (d:=0) λi hi=> ?_,b1,λv hv=> ?_,λs y hy=>(b3 s y hy).1,aa6 (d:=0) λi hi=> ?_⟩
  ·obtain⟨y,hy⟩:∃y,x.pieces[i]?=some y:=⟨_,SQ (by omega)⟩;exact(a3 i y hy).2
  ·obtain⟨i,hi⟩:=VH hv;have bB:=(SM.1 hi).1;obtain⟨y,hy⟩:∃y,x.aB[i]?=some y:=⟨_,SQ (by omega)⟩;have:=(b3 i y hy).2.1;rw[SE,hi]at this;rw[<- a1];exact this
  ·obtain⟨y,hy⟩:∃y,x.aB[i]?=some y:=⟨_,SQ (by omega)⟩;exact(b3 i y hy).2.2
 ·intro h;refine⟨⟨h.aO,h.seen⟩,?_,?_⟩
  ·rw[Gz h.aO.mono];simp only[UQ,Wt];refine⟨h.uR,rfl,λi y hy=>⟨h.piece i y hy,Qv ?_ h.Gx⟩⟩;have:=(SM.1 hy).1;rw[h.uR];exact this
  ·rw[GM];simp only[UQ,Wt];refine⟨h.uS,rfl,λi y hy=> ?_⟩;have hi:=(SM.1 hy).1;have un:i<u.bC.length:=(by rw[h.uS];exact hi);exact⟨h.stub i y hy,by rw[h.uR];exact h.own _ (Qu un),Qv un h.GL⟩
end Tk
open Go.Gg.Tk
theorem aaw{first am:Int}{l:List Int}{i:Nat}(h:mY first am l i):l.getLastD 0=l.getD i 0:=by
 have hl:=h.len;rw[Vh,Yc,SE,hl];rfl
theorem J6{first am:Int}{l:List Int}{i:Nat}(h:mY first am l i):l.headD 0=first:=by
 have hl:=h.len;have:=h.head;cases l with
 |nil=>cases hl
 |cons a l=>exact this
theorem mY.top{first am:Int}{l:List Int}{i:Nat}(h:mY first am l i)(hf:0<=first/\first<=90)(hp:1<=am/\am<=3)(hi:i<=3):∀j,j<=i->first<=l.getD j 0/\l.getD j 0<=first+9:=λj hj=>by
 have h1:=h.ge (by omega) j hj;have:am* (j:Int)<=3* 3:=Yf (by omega) (by omega) (by omega) (by omega);generalize am* (j:Int)=q at h1 this;omega
theorem aju{first am:Int}{l:List Int}{i:Nat}(h:mY first am l i)(hi:1<=i/\i<=3)(hf:0<=first/\first<=90)(hp:1<=am/\am<=3){n:Int}(hn:first<=n/\n<l.getD i 0)(τ:bt):D1 l i n (lI τ l n i):=by
 have hl:=h.len;have hm:=h.mono;have ht:=h.top hf hp hi.2 i (SR _);have hk:=adc (n:=n) (by omega) (by omega) hm;have h0:0<=gw l n:=(Np hm).2 (by rw[J6 h,aaw h];exact hn);have h1:=Nn l 0 h0;have Js:gw l n+1<l.length:=by have:ft 0 l n=gw l n:=rfl;omega
 have a1:=Ef (τ:=τ) (n:=n) (m:=2) (lo:=0) (hi:=99) (by omega) (by omega);have a2:=Ef (τ:=tick (tick τ)) (n:=gw l n) (m:=1) (lo:=0) (hi:=(i:Int)-1) (by omega) (by omega);refine⟨a1.1,?_,?_⟩
 ·unfold lI;rw[hk];exact a2.1
 ·unfold Tk.fits lI;rw[hk,Tc,Tc,decide_eq_true_eq];exact⟨⟨h0,a1.2⟩,a2.2⟩
variable {pm:Nat}{x:ai}{aO ay bC:List Int}
theorem Made.Q0(h:Made pm x aO ay bC){n:Int}(hn:n∈ay)(τ:bt):D1 aO x.hours n (lI τ aO n x.hours):=by
 have hh:=h.hours;have:=aju h.zB (by omega) h.first h.am (h.num n hn) τ;rw[Zd (by omega)]at this;exact this
theorem Jp{l:List Int}{i:Nat}(h:i<l.length):l.getD i 0∈l:=by
 rw[SE,SQ h];exact VQ h
theorem Made.Oi(h:Made pm x aO ay bC){p:Nat}{y:aC}(hy:x.pieces[p]?=some y):D1 aO x.hours (ay.getD p 0) y:=by
 obtain⟨τ,rfl⟩:=h.piece p y hy;exact h.Q0 (Jp (by rw[h.uR];exact(SM.1 hy).1)) τ
theorem Made.Oj(h:Made pm x aO ay bC){s:Nat}{y:aC}(hy:x.aB[s]?=some y):D1 aO x.hours (ay.getD (bC.getD s 0).toNat 0) y:=by
 obtain⟨τ,rfl⟩:=h.stub s y hy;have hs:s<bC.length:=by rw[h.uS];exact(SM.1 hy).1
 have:=h.own _ (Jp hs);exact h.Q0 (Jp (by omega)) τ
theorem Made.ok(h:Made pm x aO ay bC)(sZ:pm<=4):x.Ok:=by
 have hh:=h.hours;refine⟨h.first,h.hours,h.am,by have:=h.yi;omega,by have:=h.anc;omega,h.aB,λs hs=> ?_,λy hy=> ?_,λy hy=> ?_⟩
 ·obtain⟨h1,h2,τ,h3⟩:=h.seen s hs;have ht:=h.zB.top h.first h.am (by omega) s.hour.toNat (by omega);have hf:=h.first;rw[h3];exact⟨⟨h1,h2⟩,(Ef (by omega) (by omega)).1⟩
 ·obtain⟨p,hp⟩:=VH hy;have:=h.Oi hp;exact⟨this.num,this.hour⟩
 ·obtain⟨p,hp⟩:=VH hy;have:=h.Oj hp;exact⟨this.num,this.hour⟩
def Dc (aO ay bC:List Int):Tr:=⟨aO,ay,bC.map Yu⟩
theorem Made.arB(h:Made pm x aO ay bC):AN x (Dc aO ay bC):=by
 have hh:=h.hours;have o0:∀s,s<bC.length->(bC.map Yu).getD s 0=(bC.getD s 0).toNat:=λs hs=>by
  rw[SE,SE,To,SQ hs];rfl
 refine⟨h.zB,λs hs=> ?_,h.uR,λp y hy=>(h.Oi hy).fits,h.Gx,by show (bC.map Yu).length=_;rw[Tp];exact h.uS,λv hv=> ?_,λs y hy=> ?_,?_⟩
 ·obtain⟨h1,h2,τ,h3⟩:=h.seen s hs;have ht:=h.zB.top h.first h.am (by omega) s.hour.toNat (by omega);have hf:=h.first;rw[h3];exact(Ef (by show _<=aO.getD _ _/\_;omega) (by omega)).2
 ·obtain⟨w,hw,rfl⟩:=Td.1 hv;have:=h.own w hw;have:=h.uR;omega
 ·have hs:s<bC.length:=by rw[h.uS];exact(SM.1 hy).1
  show Tk.fits aO y (ay.getD ((bC.map Yu).getD s 0) 0)=true;rw[o0 s hs];exact(h.Oj hy).fits
 ·show (bC.map Yu).Nodup;rw[Ur,Xu];refine Xs ?_ (Ur.1 h.GL);intro a c ha hc aE e;have h1:=h.own a ha;have h2:=h.own c hc;omega
theorem Made.mem(h:Made pm x aO ay bC)(sZ:pm<=4):Dc aO ay bC∈bA x:=(z9 (h.ok sZ)).2 h.arB
theorem Made.ne(h:Made pm x aO ay bC)(sZ:pm<=4):bA x≠[]:=λe=>by
 have:=h.mem sZ;rw[e]at this;cases this
theorem aq8(x:ai)(deep:Int)(Q:Kn)(t:List Int):(ep x deep Q t).first=if Q.has=true then Q.first else t:=by
 have hB:(jO Q t).first=if Q.has=true then Q.first else t:=by unfold jO;split<;>rfl
 unfold ep;dsimp only;split
 ·exact hB
 ·split
  ·exact hB
  ·exact hB
theorem Ql{x:ai}{deep:Int}:∀(ts:List (List Int))(Q:Kn),(ts.foldl (ep x deep) Q).first=if Q.has=true then Q.first else(match ts with|[]=>Q.first|t::_=>t)
 |[],Q=>by simp
 |t::ts,Q=>by
  rw[UR,Ql ts,ac3,if_pos rfl,aq8]
theorem arY{x:ai}{deep:Int}{j:Nat}{t:List Int}{l:List (List Int)}(h:eE x deep j=t::l):(gH x deep j).first=t:=by
 rw[Ho,Ql,h];rfl
theorem alG{Q G:Kn}{hs:List (List Int)}(h:G.has=true):(gp Q hs G).first=if Q.has=false\/sw G.first Q.first=true then G.first else Q.first:=by
 unfold gp;rw[if_pos h]
theorem anW{h:List Int}{a b:Int}(hl:h.take 2=[a,b]):(cq h).take 4=a::b::((cq h).drop 2).take 2:=by
 match h,hl with
 |c::d::l,hl=>
  simp only[U8,an',WQ,and_true]at hl;obtain⟨rfl,rfl⟩:=hl;simp[cq]
theorem QA{x:ai}{deep:Int}{j:Nat}(hx:x.Ok)(hj:j<x.am.toNat+1){t:List Int}(ht:t∈eE x deep j):∃l,t.take 4=x.first::(x.first+(j:Int))::l:=by
 rw[y8 hx hj]at ht;obtain⟨u,hu,rfl⟩:=Td.1 ht;obtain⟨h,hm,hu⟩:=S5.1 hu;have hL:=Ft hx hj hm;have kG:=tH (wD hu);have h2:h.take 2=[x.first,x.first+(j:Int)]:=by
  unfold vX at hm;split at hm
  ·exact Fs _ _ _ hm
  ·cases hm
 have e:(dH u).take 4=(cq h).take 4:=by
  unfold dH db;rw[kG,SD,Tw (by rw[wu hL.hi];omega)]
 rw[e,anW h2];exact⟨_,rfl⟩
theorem aje{x:ai}{deep:Int}{i j:Nat}(hx:x.Ok)(hi:i<x.am.toNat+1)(hj:j<x.am.toNat+1)(kg:i≠j){t u:List Int}(ht:t∈eE x deep i)(hu:u∈eE x deep j):sw t u=decide (i<j):=by
 obtain⟨l,h1⟩:=QA hx hi ht;obtain⟨m,h2⟩:=QA hx hj hu;have aE:t.take 4≠u.take 4:=by
  rw[h1,h2];simp only[ne_eq,WQ,true_and,not_and];intro h;omega
 unfold sw;rw[if_neg aE,h1,h2];by_cases h:i<j
 ·have e1:mJ (x.first+(i:Int)) (x.first+(j:Int))= -1:=by unfold mJ;rw[if_pos (by omega)]
  have e0:mJ x.first x.first=0:=by unfold mJ;simp
  simp[n3,e0,e1,h]
 ·have e1:mJ (x.first+(i:Int)) (x.first+(j:Int))=1:=by unfold mJ;rw[if_neg (by omega),if_pos (by omega)]
  have e0:mJ x.first x.first=0:=by unfold mJ;simp
  simp[n3,e0,e1,h]
theorem aap{x:ai}{deep:Int}{js:List Nat}{D:Kn}(hx:x.Ok)(hJ:nU x deep js D)(hn:js.Nodup)(hj:∀j∈js,j<x.am.toNat+1)(hh:D.has=true):∃j∈js,∃t l,eE x deep j=t::l/\D.first=t/\∀i∈js,eE x deep i≠[]->j<=i:=by
 induction hJ with
 |nil=>cases hh
 |@snoc js Q j hs hJ hp ih=>
  have kD:js.Nodup:=(U5.1 hn).1;have oW:j∉js:=λh=>(U5.1 hn).2.2 j h j (by simp) rfl;have ih':=ih kD (λi hi=>hj i (by simp[hi]));by_cases hG:eE x deep j=[]
  ·have hg:(gH x deep j).has=false:=(by rw[DE,hG];rfl);have hD:gp Q hs (gH x deep j)=Q:=(by unfold gp;rw[hg];rfl);rw[hD]at hh⊢;obtain⟨i,h1,t,l,h2,h3,h4⟩:=ih' hh;refine⟨i,by simp[h1],t,l,h2,h3,λk hk aE=> ?_⟩;rcases SS.1 hk with hk|hk
   ·exact h4 k hk aE
   ·rw[S9]at hk;subst hk;exact absurd hG aE
  ·obtain⟨t,l,ht⟩:∃t l,eE x deep j=t::l:=by
    cases hg:eE x deep j with
    |nil=>exact absurd hg hG
    |cons t l=>exact⟨t,l,rfl⟩
   have hg:(gH x deep j).has=true:=(by rw[DE,ht];rfl);rw[alG hg,arY ht];by_cases hQ:Q.has=true
   ·obtain⟨i,h1,t',l',h2,h3,h4⟩:=ih' hQ;have hb:sw t Q.first=decide (j<i):=by
     rw[h3];exact aje hx (hj j (by simp)) (hj i (by simp[h1])) (λe=>oW (e▸h1)) (by rw[ht];simp) (by rw[h2];simp)
    by_cases kg:j<i
    ·rw[if_pos (.inr (by rw[hb];simpa using kg))];refine⟨j,by simp,t,l,ht,rfl,λk hk aE=> ?_⟩;rcases SS.1 hk with hk|hk
     ·have:=h4 k hk aE;omega
     ·rw[S9]at hk;omega
    ·rw[if_neg (by rw[hQ,hb];simpa using kg)];refine⟨i,by simp[h1],t',l',h2,h3,λk hk aE=> ?_⟩;rcases SS.1 hk with hk|hk
     ·exact h4 k hk aE
     ·rw[S9]at hk;omega
   ·rw[if_pos (.inl (by simpa using hQ))];refine⟨j,by simp,t,l,ht,rfl,λk hk aE=> ?_⟩;rcases SS.1 hk with hk|hk
    ·have hQf:Q.has=js.any λj=> !(eE x deep j).isEmpty:=aaq hJ;exfalso;apply hQ;rw[hQf,Uv];refine⟨k,hk,?_⟩;cases hg:eE x deep k with
     |nil=>exact absurd hg aE
     |cons=>rfl
    ·rw[S9]at hk;omega
theorem Rk{α:Type}{f:Nat->List α}{j:Nat}{t:α}{l:List α}:∀{n:Nat},j<n->f j=t::l->(∀i,i<j->f i=[])->((SZ n).flatMap f).head?=some t
 |0,h,_,_=>absurd h (by omega)
 |n+1,h,hf,h0=>by
  rw[Vk,VR,WR];by_cases hj:j<n
  ·rw[Rk hj hf h0];rfl
  ·have e:j=n:=(by omega);subst e;have:(SZ j).flatMap f=[]:=by
    rw[Vq];intro i hi;exact h0 i (Tu.1 hi)
   rw[this];simp[hf]
theorem J7{α β:Type}{f g:α->List β}:∀(l:List α),(∀a,(f a).head?=(g a).head?)->(l.flatMap f).head?=(l.flatMap g).head?
 |[],_=>rfl
 |a::l,h=>by
  rw[T9,T9,WR,WR,h a,J7 l h]
theorem ac2{α:Type}(l:List α):(l.take 1).head?=l.head?:=by cases l<;>rfl
theorem aeG{x:ai}{deep:Int}:(l5 x deep).head?=(bA x).head?:=by
 refine J7 _ λh=> ?_;have h1:(uZ x h).head?=(kq x h).head?:=J7 _ λns=>ac2 _;unfold rV;split
 ·rw[ac2,h1]
 ·split
  ·exact h1
  ·rfl
theorem alP{x:ai}{deep:Int}{D:Kn}(hx:x.Ok)(h:eU x deep D)(hh:D.has=true):∃u l,bA x=u::l/\D.first=dH u:=by
 obtain⟨p,js,h1,h2,h3,_⟩:=h;have nE:x.am.toNat=p:=by omega
 have hj:∀j∈js,j<x.am.toNat+1:=λj hj=>by rw[nE];exact Tu.1 (h2.mem_iff.1 hj)
 obtain⟨j,a,t,l,b,c,d⟩:=aap hx h3 (h2.nodup_iff.2 XU) hj hh;have hd:((SZ (p+1)).flatMap λj=>eE x deep j).head?=some t:=by
  refine Rk (Tu.1 (h2.mem_iff.1 a)) b λi hi=> ?_;cases hg:eE x deep i with
  |nil=>rfl
  |cons v w=>
   have:=d i (h2.mem_iff.2 (Tu.2 (by have:=hj j a;omega))) (by rw[hg];simp);omega
 have he:((SZ (p+1)).flatMap λj=>eE x deep j)=(l5 x deep).map dH:=by
  unfold l5;rw[<- ND hx,nE,Vu];exact BD λi hi=>y8 hx (by rw[nE];exact Tu.1 hi)
 rw[he,List.head?_map,aeG]at hd;cases ht:bA x with
 |nil=>rw[ht]at hd;cases hd
 |cons u l=>
  rw[ht]at hd;simp only[X4,UM,Tn]at hd;exact⟨u,l,rfl,by rw[c,hd]⟩
namespace Tk
def live (x:ai):List (List Int):=(aL x).filter λh=> !(kq x h).isEmpty
def cnt (x:ai):Int:=(live x).length
theorem zZ{x:ai}{h:List Int}:h∈live x<->∃u∈bA x,u.aO=h:=by
 unfold live;rw[Ud];constructor
 ·rintro⟨h1,h2⟩
  cases ht:kq x h with
  |nil=>rw[ht]at h2;cases h2
  |cons u l=>
   have hu:u∈kq x h:=(by rw[ht];simp);exact⟨u,S5.2 ⟨h,h1,hu⟩,tH hu⟩
 ·rintro⟨u,hu,rfl⟩
  obtain⟨h,a,b⟩:=S5.1 hu;have e:=tH b;subst e;refine⟨a,?_⟩;cases ht:kq x u.aO with
  |nil=>rw[ht]at b;cases b
  |cons=>rfl
theorem Fw{x:ai}{h:List Int}(hm:h∈aL x):h.length=1+x.hours.toNat:=(zA _ _ _ (by simp) hm).1
theorem Mt{h:List Int}{n:Nat}(hl:h.length=n):(cq h).take n=h:=by
 subst hl;unfold cq;rw[Tw (SR _),TH]
theorem amD(x:ai):((live x).map cq).Nodup:=by
 have h:(live x).Nodup:=(akg x).filter _;rw[Ur,Xu];have h2:=Ur.1 h;refine Xs ?_ h2;intro a b ha hb aE e;have la:=Fw ((Ud.1 ha).1);have lb:=Fw ((Ud.1 hb).1);apply aE;rw[<- Mt la,e,Mt lb]
end Tk
theorem IW{x:ai}(hx:x.Ok){u:Tr}(hu:u∈bA x):(dH u).take 4=cq u.aO:=by
 have hl:=(u5 hx hu).1;have hh:=hx.hours;unfold dH db;rw[SD,Tw (by rw[wu (by omega)];omega),SY (by rw[wu (by omega)];omega)]
theorem aat{x:ai}{D:Kn}(hx:x.Ok)(h:eU x 0 D):D.aL.Perm ((live x).map cq):=by
 have hn:D.aL.Nodup:=by obtain⟨p,js,h1,h2,h3,_⟩:=h;exact alK h3
 refine(List.perm_ext_iff_of_nodup hn (amD x)).2 λg=> ?_;rw[alQ hx h,Td];constructor
 ·rintro⟨u,hu,rfl⟩
  exact⟨u.aO,zZ.2 ⟨u,hu,rfl⟩,(IW hx hu).symm⟩
 ·rintro⟨h,hm,rfl⟩
  obtain⟨u,hu,rfl⟩:=zZ.1 hm;exact⟨u,hu,(IW hx hu).symm⟩
theorem wc{x:ai}{deep:Int}{D:Kn}(hx:x.Ok)(h:eU x deep D):D.has=false<->bA x=[]:=by
 rw[F' hx h];cases bA x<;>simp
theorem L7{x:ai}:live x=[]<->bA x=[]:=by
 constructor
 ·intro h;cases ht:bA x with
  |nil=>rfl
  |cons u l=>
   have:u.aO∈live x:=zZ.2 ⟨u,by rw[ht];simp,rfl⟩;rw[h]at this;cases this
 ·intro h;cases hl:live x with
  |nil=>rfl
  |cons a l=>
   obtain⟨u,hu,_⟩:=zZ.1 (show a∈live x by rw[hl];simp);rw[h]at hu;cases hu
theorem count_eq{x:ai}{D:Kn}(hx:x.Ok)(h:eU x 0 D):(if D.has then(D.aL.length:Int)else 0)=cnt x:=by
 cases hD:D.has with
 |true=>rw[if_pos rfl,(aat hx h).length_eq,Tp];rfl
 |false=>
  have:=L7.2 ((wc hx h).1 hD);simp[cnt,this]
theorem am7(a b:Int):min a b=a\/min a b=b:=by omega
theorem am2(a b:Int):max a b=a\/max a b=b:=by omega
theorem OL(v:List Int->Int):∀(hs:List (List Int))(b:gT),b.is=true->(hs.foldl (λb h=>b.add (v h)) b).is=true/\((hs.foldl (λb h=>b.add (v h)) b).lo=b.lo\/∃h∈hs,(hs.foldl (λb h=>b.add (v h)) b).lo=v h)/\(hs.foldl (λb h=>b.add (v h)) b).lo<=b.lo/\(∀h∈hs,(hs.foldl (λb h=>b.add (v h)) b).lo<=v h)/\((hs.foldl (λb h=>b.add (v h)) b).hi=b.hi\/∃h∈hs,(hs.foldl (λb h=>b.add (v h)) b).hi=v h)/\b.hi<=(hs.foldl (λb h=>b.add (v h)) b).hi/\∀h∈hs,v h<=(hs.foldl (λb h=>b.add (v h)) b).hi
 |[],b,hb=>⟨hb,.inl rfl,Zw _,by simp,.inl rfl,Zw _,by simp⟩
 |g::hs,b,hb=>by
  have dB:b.add (v g)=⟨min b.lo (v g),max b.hi (v g),true⟩:=by unfold gT.add;rw[if_pos hb]
  obtain⟨h1,h2,h3,h4,h5,h6,h7⟩:=OL v hs (b.add (v g)) (by rw[dB]);rw[UR];generalize hs.foldl (λb h=>b.add (v h)) (b.add (v g))=R at*;rw[dB]at h2 h3 h5 h6;dsimp only at h2 h3 h5 h6;have m1:min b.lo (v g)=b.lo\/min b.lo (v g)=v g:=am7 _ _;have m2:max b.hi (v g)=b.hi\/max b.hi (v g)=v g:=am2 _ _;refine⟨h1,?_,XE h3 (Int.min_le_left _ _),?_,?_,XE (Int.le_max_left _ _) h6,?_⟩
  ·rcases h2 with h2|⟨h,a,c⟩
   ·rcases m1 with m1|m1
    ·exact .inl (h2.trans m1)
    ·exact .inr ⟨g,by simp,h2.trans m1⟩
   ·exact .inr ⟨h,by simp[a],c⟩
  ·intro h hm;rcases SL.1 hm with rfl|hm
   ·exact XE h3 (Int.min_le_right _ _)
   ·exact h4 h hm
  ·rcases h5 with h2|⟨h,a,c⟩
   ·rcases m2 with m1|m1
    ·exact .inl (h2.trans m1)
    ·exact .inr ⟨g,by simp,h2.trans m1⟩
   ·exact .inr ⟨h,by simp[a],c⟩
  ·intro h hm;rcases SL.1 hm with rfl|hm
   ·exact XE (Int.le_max_right _ _) h6
   ·exact h7 h hm
namespace Tk
structure Bounds (hs:List (List Int))(v:List Int->Int)(lo hi:Int):Prop where
 F9:∃h∈hs,lo=v h
 le:∀h∈hs,lo<=v h
 F8:∃h∈hs,hi=v h
 ge:∀h∈hs,v h<=hi
theorem Bounds.uniq{hs:List (List Int)}{v:List Int->Int}{a b c d:Int}(h:Bounds hs v a b)(k:Bounds hs v c d):a=c/\b=d:=by
 obtain⟨g1,m1,e1⟩:=h.F9;obtain⟨g2,m2,e2⟩:=h.F8;obtain⟨g3,m3,e3⟩:=k.F9;obtain⟨g4,m4,e4⟩:=k.F8;have:=h.le _ m3;have:=h.ge _ m4;have:=k.le _ m1;have:=k.ge _ m2;omega
theorem Bounds.anG{hs gs:List (List Int)}{v:List Int->Int}{a b:Int}(h:Bounds hs v a b)(hp:hs.Perm gs):Bounds gs v a b:=by
 obtain⟨g1,m1,e1⟩:=h.F9;obtain⟨g2,m2,e2⟩:=h.F8;exact⟨⟨g1,hp.mem_iff.1 m1,e1⟩,λg hg=>h.le g (hp.mem_iff.2 hg),⟨g2,hp.mem_iff.1 m2,e2⟩,λg hg=>h.ge g (hp.mem_iff.2 hg)⟩
end Tk
theorem af0{hs:List (List Int)}(v:List Int->Int)(aE:hs≠[]):Bounds hs v (hs.foldl (λ(b:gT) h=>b.add (v h)) (⟨0,0,false⟩:gT)).lo (hs.foldl (λ(b:gT) h=>b.add (v h)) (⟨0,0,false⟩:gT)).hi:=by
 cases hs with
 |nil=>exact absurd rfl aE
 |cons g hs=>
  rw[UR,show gT.add ⟨0,0,false⟩ (v g)=⟨v g,v g,true⟩from rfl];obtain⟨_,h2,h3,h4,h5,h6,h7⟩:=OL v hs ⟨v g,v g,true⟩ rfl;generalize hs.foldl (λ(b:gT) h=>b.add (v h)) (⟨v g,v g,true⟩:gT)=R at*;dsimp only at h2 h3 h5 h6;refine⟨?_,?_,?_,?_⟩
  ·rcases h2 with h2|⟨h,a,c⟩
   ·exact⟨g,by simp,h2⟩
   ·exact⟨h,by simp[a],c⟩
  ·intro h hm;rcases SL.1 hm with rfl|hm
   ·exact h3
   ·exact h4 h hm
  ·rcases h5 with h2|⟨h,a,c⟩
   ·exact⟨g,by simp,h2⟩
   ·exact⟨h,by simp[a],c⟩
  ·intro h hm;rcases SL.1 hm with rfl|hm
   ·exact h6
   ·exact h7 h hm
open Go.Gg.Tk
theorem abt{h ns:List Int}:∀{ss:List aC}{t os:List Nat},os∈po h ns ss t->(∀p∈t,p<ns.length)->os.length=t.length+ss.length/\∀p∈os,p<ns.length
 |[],t,os,hm,ht=>by
  simp only[po,S9]at hm;subst hm;exact⟨rfl,ht⟩
 |s::ss,t,os,hm,ht=>by
  simp only[po,S5,Ud,Tu]at hm;obtain⟨p,⟨hp,_⟩,hm⟩:=hm;have:=abt hm λq hq=>by
   rcases SS.1 hq with hq|hq
   ·exact ht q hq
   ·rw[S9.1 hq];exact hp
  refine⟨?_,this.2⟩;rw[this.1];simp;omega
theorem Hg{x:ai}(hx:x.Ok){u:Tr}(hu:u∈bA x):u.bC.length=x.aB.length/\∀p∈u.bC,p<x.pieces.length:=by
 have h2:=(u5 hx hu).2;obtain⟨h,a,b⟩:=S5.1 hu;obtain⟨ns,c,d⟩:=S5.1 b;obtain⟨os,e,rfl⟩:=Td.1 d;have:=abt e (by simp);dsimp only at h2⊢;rw[<- h2];exact⟨by simpa using this.1,this.2⟩
theorem ag4{x:ai}(hx:x.Ok){u:Tr}(hu:u∈bA x){s:Nat}(hs:s<x.aB.length):rS (dH u) s=u.bC.getD s 0:=by
 obtain⟨h1,h2⟩:=u5 hx hu;have h3:=(Hg hx hu).1;have hh:=hx.hours;have mh:=hx.c9;have h4:=wu (h:=u.aO) (by omega);have dx:s<u.bC.length:=by omega
 have hg:(dH u)[8+s]?=some ((u.bC[s]:Nat):Int):=by
  unfold dH db kM;have h8:(cq u.aO++((u.ay.map λn=>(n-u.aO.headD 0).toNat).map (λn:Nat=>(n:Int))++TM (4-(u.ay.map λn=>(n-u.aO.headD 0).toNat).length) (-1))).length=8:=by simp[h4];omega
  rw[Th (by omega),h8,US,SX (by simpa using dx),To,SQ dx];rfl
 unfold rS;rw[SE,hg,SE,SQ dx];rfl
namespace Tk
def Be (x:ai)(f:Tr->Bool):Bool:=(bA x).any f
theorem sq{x:ai}{f:Tr->Bool}:Be x f=true<->∃u∈bA x,f u=true:=Uv
def ky (f:Nat->Bool)(more:Int)(i:Nat):List Int:=((SZ i).filter f).map λn:Nat=>(n:Int)+more
def wl (x:ai)(p n:Nat):Bool:=Be x λu=>decide ((u.ay.getD p 0-u.aO.headD 0).toNat=n)
def v8 (x:ai)(p n:Nat):Bool:=Be x λu=>decide ((gw u.aO (u.ay.getD p 0)).toNat=n)
def nP (x:ai)(s q:Nat):Bool:=Be x λu=>decide (u.bC.getD s 0=q)
def wq (x:ai)(s q:Nat):Bool:=Be x λu=> !decide (u.bC.getD s 0=q)
theorem L4{s:Nat}{f:Nat->Bool}{more:Int}{i:Nat}(h:∀n,n<i->s.testBit n=f n):dM s more i=ky f more i:=by
 unfold dM ky;congr 1;exact Vj λn hn=>h n (Tu.1 hn)
end Tk
theorem ant{x:ai}{D:Kn}{p:Nat}(hx:x.Ok)(hD:eU x 1 D)(hp:p<x.pieces.length)(n:Nat):(D.ay.getD p 0).testBit n=wl x p n:=by
 rw[UY,alS hx hD hp];unfold wl;rw[sq];simp only[decide_eq_true_eq]
theorem akL{x:ai}{D:Kn}{p:Nat}(hx:x.Ok)(hD:eU x 1 D)(hp:p<x.pieces.length)(n:Nat):(D.hours.getD p 0).testBit n=v8 x p n:=by
 rw[UY,alR hx hD hp];unfold v8;rw[sq];simp only[decide_eq_true_eq]
theorem Mu{x:ai}{D:Kn}{s:Nat}(hx:x.Ok)(hD:eU x 2 D)(hs:s<x.aB.length)(n:Nat):(D.aU.getD s 0).testBit n=nP x s n:=by
 rw[UY,alT hx hD hs];unfold nP;rw[sq];refine exists_congr λu=>and_congr_right λhu=> ?_;rw[ag4 hx hu hs,decide_eq_true_eq]
theorem an0{x:ai}{D:Kn}{s q:Nat}(hx:x.Ok)(hD:eU x 2 D)(hs:s<x.aB.length)(hh:D.has=true):(D.aU.getD s 0!=2^q)=wq x s q:=by
 have hb:=Mu hx hD hs;rw[UY,bne_iff_ne];unfold wq;rw[sq];constructor
 ·intro aE;obtain⟨u,hu⟩:∃u,u∈bA x:=by
   rw[F' hx hD]at hh;cases ht:bA x with
   |nil=>rw[ht]at hh;cases hh
   |cons u l=>exact⟨u,by simp⟩
  by_cases hu1:u.bC.getD s 0=q
  ·refine Tl λfO=>aE ?_;apply Nat.eq_of_testBit_eq;intro n;rw[hb,Vy,UY,decide_eq_true_eq];unfold nP;rw[sq];constructor
   ·rintro⟨v,hv,e⟩
    rw[decide_eq_true_eq]at e;refine Tl λFM=>fO ⟨v,hv,?_⟩;rw[e];simp;exactλh=>FM h.symm
   ·rintro rfl
    exact⟨u,hu,by rw[decide_eq_true_eq];exact hu1⟩
  ·exact⟨u,hu,by simpa using hu1⟩
 ·rintro⟨u,hu,h⟩ he
  have hp:nP x s (u.bC.getD s 0)=true:=by
   unfold nP;rw[sq];exact⟨u,hu,by simp⟩
  rw[<- hb,he,Vy,decide_eq_true_eq]at hp;rw[hp]at h;simp at h
theorem anX{x:ai}{D:Kn}{s q:Nat}(hx:x.Ok)(hD:eU x 2 D)(hs:s<x.aB.length):(if D.has then vM ((D.aU.getD s 0).testBit q) (D.aU.getD s 0!=2^q)else 0)=if(bA x).isEmpty then 0 else vM (nP x s q) (wq x s q):=by
 have hh:=F' hx hD;cases Jy:D.has with
 |true=>
  rw[Jy]at hh;have:(bA x).isEmpty=false:=by simpa using hh.symm
  rw[this,if_pos rfl,Mu hx hD hs,an0 hx hD hs Jy];rfl
 |false=>
  rw[Jy]at hh;have:(bA x).isEmpty=true:=by simpa using hh.symm
  rw[this];rfl
theorem afH{x:ai}{deep:Int}{D:Kn}(hx:x.Ok)(hD:eU x deep D):ew D=if(bA x).isEmpty then 11 else 0:=by
 have hh:=F' hx hD;unfold ew;rw[hh];cases (bA x).isEmpty<;>rfl
def acQ (n:Nat):Nat->Nat->List (List Int)
 |0,_=>[[]]
 |k+1,first=>(T5 first (n-k-first)).flatMap λi=>(acQ n k (i+1)).map ((i:Int)::·)
def Eo (n:Nat):List (List Int):=(SZ (n+1)).flatMap λk=>acQ n k 0
open Go.Conc Go.Proofs Go.Gg.Tk
theorem adt{l:List AV}{a b:AV}(h:Wk a b):so (l++[a]) (l++[b]):=by
 induction l with
 |nil=>exact .cons h .nil
 |cons x l ih=>exact .cons (Wk.refl _) ih
theorem aaP(n m k:Nat)(bs:List (List Int)):Lt n (.sl m (bs.map ba) (.opn k))=(k<n):=by
 rw[amU,eq_iff_iff];refine⟨λh=>h.1,λh=>⟨h,λa ha=> ?_⟩⟩;have:=aaQ n bs;rw[yF,tp]at this;exact this.mpr trivial a ha
theorem NR:gI (Up none 0 0) 1=[.sl 0 [] .exact]:=rfl
theorem R7{H:List aa}(hH:bP H)(n sz:Nat)(el:TypeId):bP (H++[.tail n sz el]):=KJ hH λz hz m=>by rw[S9.1 hz];trivial
section
variable {lv:Bool}
end
namespace Tk
def iJ (l:List Int):Nat:=if l.length=0 then 0 else(l.getD (l.length-1) 0).toNat+1
def nL (n:Nat)(l:List Int)(j:Nat):List (List Int):=(SZ j).map λj:Nat=>l++[((iJ l+j:Nat):Int)]
def nO (n:Nat):Nat->List (List Int)
 |0=>[[]]
 |i+1=>nO n i++nL n ((nO n i).getD i []) (n-iJ ((nO n i).getD i []))
def uM (n:Nat):List (List Int):=nO n (2^n)
theorem alX(n:Nat)(l:List Int)(j:Nat):nL n l (j+1)=nL n l j++[l++[((iJ l+j:Nat):Int)]]:=by
 unfold nL;rw[Vk,TF];rfl
theorem anR:∀n,n<4->(∀i,i<2^n->i<(nO n i).length/\(∀l∈nO n i,l.length<=3/\∀y∈l,0<=y/\y<n))/\(∀i,i<2^n+1->(nO n i).length<=8)/\(nO n (2^n)).length=2^n:=by decide+kernel
end Tk
section
variable {lv:Bool}{H:List aa}{k kp:AV->List aa->Prop}
theorem ail{ns:List Int}{e:End}(hn:ns.length<=2^20)(h0:ns=[]->k (.sl 0 [] .exact) H)(hk:k (.sl ns.length (ns.map iv) (.opn H.length)) (H++[.tail ns.length 1 3])):bf lv SC 94 H [.sl ns.length (ns.map iv) e] k kp:=by
 refine bH (rs:=[.tmp 2]) (nt:=8) Tryz.f94 λhH hA=> ?_;simp only[br,SW];refine aj ?_;refine aj ?_;intro b hb;refine aD ?_;refine⟨λh=> ?_,λh=> ?_⟩
 ·
  refine aj ?_;refine aZ ?_;have:ns=[]:=by
   cases ns with
   |nil=>rfl
   |cons x xs=>rw[hb (by simp)]at h;cases h
  exact jR (H':=H) (G:=[]) (Wk.refl _) (by simp) (SR _) hH (by simp[L_]) (h0 this)
 ·
  refine aN ?_;refine aj ?_;refine⟨by omega,?_⟩;refine aZ ?_;exact bW hk
theorem ah9{n:Nat}(hn:n<=3)(hk:k (yF (uM n)) H):bf lv SC 70 H [iv n] k kp:=by
 refine bH (rs:=[.tmp 2]) (nt:=44) Tryz.f70 λhH hA=> ?_;simp only[br,SW];obtain⟨lh,iG,mM⟩:=anR n (by omega);refine aj ?_;refine ak ?_;simp only[seval,NR,Mr]
 (repeat apply gW);refine vq (t:=3) (sz:=1) (el:=22) (by simp only[seval]<;>rfl) ?_
 refine aj ?_;refine cy ?_;refine gL (2^n) (λi:Nat=>[(3,.sl (nO n i).length ((nO n i).map ba) (.opn H.length)),(4,iv i)]) (λi=>H++[.tail (nO n i).length 1 22]) (λi=>True) (λ_ _=>rfl) (by simp only[seval];simp[bz,Wk.refl];exact NA (l:=[.sl 0 [] .exact]) (l':=[ba []]) rfl (so.cons (iP _ _ _) .nil).at) rfl (λ_ _ _=>by simp) trivial (λbU cS i cM _ R hR=> ?_);clear bU cS;have bN:i<2^n->SF.wrap ((i:Int)+1)=((i+1:Nat):Int):=λh=>by
  have:2^n<=2^3:=Wu (by omega) hn;rw[bG _ (by omega)];rfl
 refine aj ?_;refine aD ?_;refine⟨λh=> ?_,λh=> ?_⟩
 ·have bB:i<2^n:=by
   rcases YG i (2^n)with h'|h'
   ·exact h'
   ·have:i=2^n:=(by omega);subst this;rw[mM]at h;omega
  obtain⟨g1,g2⟩:=lh i bB;have g3:=iG i (by omega);have bN:=bN bB;obtain⟨l,hl⟩:=bX g1;have Sv:nO n (i+1)=nO n i++nL n l (n-iJ l):=by
   rw[nO,SE,hl];rfl
  obtain⟨Kv,hly⟩:=g2 l (uO hl);generalize nO n i=o at Sv hl g1 g3 hR⊢;refine aN ?_;refine ak ?_;simp only[seval,aco hl,jp g1];refine aj ?_;refine ak ?_;simp only[seval,ba];refine aD ?_;refine⟨λh=> ?p1,λh=> ?p2⟩
  case' p1=>
   have sU:0<l.length:=(by omega);obtain⟨y,hy⟩:=bX (xs:=l) (i:=l.length-1) (by omega);have uA:=hly y (uO hy);have oX:iJ l=y.toNat+1:=(by unfold iJ;rw[if_neg (by omega),SE,hy];rfl);have g_:SF.wrap ((l.length:Int)-1)=((l.length-1:Nat):Int):=(by rw[bG _ (by omega)];omega);have v_:SF.wrap (y+1)=((iJ l:Nat):Int):=(by rw[bG _ (by omega),oX];omega);have og:(0<=((l.length-1:Nat):Int)/\((l.length-1:Nat):Int)<l.length)=True:=(by simp;omega);refine ak ?_;simp only[seval,g_,eJ hy,og,v_];have RM:iJ l=iJ l:=rfl
  case' p2=>
   have RM:iJ l=0:=(by unfold iJ;rw[if_pos (by omega)]);refine aN ?_
  all_goals(
   refine aj ?_;refine cy ?_;refine gL (n-iJ l) (λj:Nat=>[(3,.sl (o.length+j) ((o++nL n l j).map ba) (.opn H.length)),(7,iv (((iJ l:Nat):Int)+j))]) (λj=>H++[.tail (o.length+j) 1 22]) (λi=>True) (λ_ _=>rfl) (by first|(simp only[seval];simp[bz,Wk.refl];done)|(simp only[seval,nL,ZD];simp[bz,Wk.refl,RM])) (by simp) (λ_ _ _=>by simp) trivial (λbU cS j oW _ R2 xk=> ?_);clear bU cS;have RL:(n-iJ l)<=3:=(by omega);refine aj ?_;refine aD ?_;refine⟨λh2=> ?_,λh2=> ?_⟩
   ·have fi:j<n-iJ l:=(by omega);have da:(o++nL n l (j+1)).map ba=(o++nL n l j).map ba++[ba (l++[((iJ l:Nat):Int)+j])]:=(by rw[alX,<- SD,TF];rfl);have FE:((o++nL n l j).map ba).length=o.length+j:=(by simp[nL]);have F0:SF.wrap (((iJ l:Nat):Int)+j+1)=((iJ l:Nat):Int)+((j+1:Nat):Int):=(by rw[bG _ (by omega)];omega);refine aN ?_;refine aj ?_;refine aK ((ail (ns:=l) (by omega) (λsU=> ?_) ?_))
    ·subst sU;try simp only[seval,z1,NR,Mr,FE]
     first|refine⟨by decide,by omega,?_⟩|refine⟨by omega,?_⟩
     refine ak ?_;simp only[seval,F0];refine xk _ ⟨fi,trivial,?_⟩;rw[da];refine G0 [.tail 1 1 3] (pf rfl rfl) ?_ (R7 hH _ _ _) ?_ (by simp[XD])
     ·(try simp only[seval]);exact⟨⟨_,rfl,have h:=adt (l:=(o++nL n [] j).map ba) (show Wk (.sl 1 [iv (((iJ []:Nat):Int)+j)] (.opn (H.length+1))) (ba ([]++[((iJ []:Nat):Int)+j])) by exact iP _ _ _);NA h.len h.at⟩,_,rfl,Wk.refl _⟩
     ·rw[<- da];simp only[Xg,eI,aaP,iv];simp
    ·(try simp only[seval,z1,NR,Mr,FE]);refine⟨by omega,by omega,?_⟩;refine ak ?_;simp only[seval,F0];refine xk _ ⟨fi,trivial,?_⟩;rw[da];refine G0 [.tail (l.length+1) 1 3] (pf rfl rfl) ?_ (R7 hH _ _ _) ?_ (by simp[XD])
     ·(try simp only[seval]);exact⟨⟨_,rfl,have h:=adt (l:=(o++nL n l j).map ba) (show Wk (.sl (l.length+1) (l.map iv++[iv (((iJ l:Nat):Int)+j)]) (.opn (H.length+1))) (ba (l++[((iJ l:Nat):Int)+j])) by rw[ba,TF,SO];exact iP _ _ _);NA h.len h.at⟩,_,rfl,Wk.refl _⟩
     ·rw[<- da];simp only[Xg,eI,aaP,iv];simp
   ·have xG:j=n-iJ l:=(by omega);subst xG;refine bZ ?_;refine ak ?_;simp only[seval,bN];refine hR _ ⟨bB,trivial,?_⟩;rw[Sv];have Ci:(o++nL n l (n-iJ l)).length=o.length+(n-iJ l):=(by simp[nL]);rw[Ci];exact dq)
 ·have pX:i=2^n:=by
   rcases YG i (2^n)with h'|h'
   ·have:=(lh i h').1;omega
   ·omega
  subst pX;refine bZ ?_;refine aj ?_;refine aZ ?_;exact jr (b:=yF (uM n)) hH (iP _ _ _) (by rw[aaQ];trivial) hk
end
open Go.Conc Go.Proofs Go.Gg.Tk
theorem Qd{α:Type}{f:α->List AV}{s:Nat}(hf:∀a,(f a).length=s):∀(xs:List α)(n:Nat),(xs.flatMap f).take (n* s)=(xs.take n).flatMap f
 |[],n=>by simp
 |x::xs,0=>by simp
 |x::xs,n+1=>by
  rw[T9,U8,T9,List.take_append,SY (by rw[hf,XB];omega),hf,show (n+1)* s-s=n* s by rw[XB];omega,Qd hf xs n]
theorem Qa{α:Type}{f:α->List AV}{s:Nat}(hf:∀a,(f a).length=s):∀(xs:List α)(n:Nat),(xs.flatMap f).drop (n* s)=(xs.drop n).flatMap f
 |[],n=>by simp
 |x::xs,0=>by simp
 |x::xs,n+1=>by
  rw[T9,List.drop_succ_cons,Vv,WX (by rw[hf,XB];omega),hf,show (n+1)* s-s=n* s by rw[XB];omega,Qa hf xs n,UF]
namespace Tk
def qR (ss:List aC)(ns:List Int):List aC:=ns.foldr (λn l=>l.eraseIdx n.toNat) ss
def ai.wo (x:ai)(ns:List Int):ai:={x with aB:=qR x.aB ns}
def tJ (ns:List Int)(m:Nat):Prop:=∀(i:Nat) n,ns[i]?=some n->0<=n/\n+(ns.length-i:Nat)<=m
theorem tJ.tail{n:Int}{ns:List Int}{m:Nat}(h:tJ (n::ns) m):tJ ns m:=λi k hk=>by
 have:=h (i+1) k hk;simp only[Ui]at this;exact⟨this.1,by omega⟩
theorem IN{ss:List aC}:∀{ns:List Int},tJ ns ss.length->(qR ss ns).length+ns.length=ss.length
 |[],_=>rfl
 |n::ns,h=>by
  have h1:=IN h.tail;have h2:=h 0 n rfl;have e:qR ss (n::ns)=(qR ss ns).eraseIdx n.toNat:=rfl;simp only[Ui]at h2⊢;rw[e,VG (by omega)];omega
end Tk
section
variable {lv:Bool}{H:List aa}{k kp:AV->List aa->Prop}
theorem PW{x:ai}{ns:List Int}{e:End}(aQ:x.aB.length<=3)(i_:tJ ns x.aB.length)(hk:k (x.wo ns).av H):bf lv SC 63 H [x.av,.sl ns.length (ns.map iv) e] k kp:=by
 have KB:ns.length<=3:=by have:=IN i_;omega
 refine bH (rs:=[.cell 4 76]) (nt:=32) Tryz.f63 λhH hA=> ?_;simp only[br,SW,ai.av];obtain⟨st,lN⟩:∃st:Nat->List aC,∀j,st j=qR x.aB (ns.drop (ns.length-j)):=⟨_,λ_=>rfl⟩;have lq:st 0=x.aB:=by rw[lN,Z3,X5];rfl
 have alm:st ns.length=qR x.aB ns:=by rw[lN,Vd,Xx]
 obtain⟨xl,bm⟩:∃xl:List aC->List AV,∀ss,xl ss=[iv x.first,iv x.hours,iv x.am,dY x.seen,bp x.pieces,bp ss]:=⟨_,λ_=>rfl⟩;have te:x.l=xl x.aB:=by rw[bm];rfl
 have uk:∀ss,(xl ss).drop 5=[.sl ss.length (ss.flatMap aC.l) .shut]:=λss=>by rw[bm];rfl
 have aT:∀(L:List aa),(H++L)[H.length]?=L[0]?:=λL=>aX H L 0;have dK:∀(L:List aa)(y:aa),(H++L).set H.length y=H++L.set 0 y:=λL y=>ec H L 0 y;have dg:∀(L:List aa),(H++L)[H.length+1]?=L[1]?:=λL=>aX H L 1;have dL:∀(L:List aa)(y:aa),(H++L).set (H.length+1) y=H++L.set 1 y:=λL y=>ec H L 1 y;rw[te];refine aj ?_;have rE:SF.wrap ((ns.length:Int)-1)=(ns.length:Int)-1:=bG _ (by omega);refine aj ?_;refine cy ?_;refine gL ns.length (λj:Nat=>[(5,iv ((ns.length:Int)-1-j))]) (λj=>H++[.cells (xl (st j)) 26,.cells qx 76]) (λi=>True) (λ_ _=>rfl) (by simp only[seval,rE];simp[bz,Wk.refl]) (by rw[lq];rfl) (λ_ _ _=>by simp) trivial (λbU cS j oW _ R hR=> ?_);clear cS;refine aj ?_;refine aD ?_;refine⟨λh=> ?_,λh=> ?_⟩
 ·have fi:j<ns.length:=by omega
  obtain⟨i,hi⟩:∃i:Nat,i=ns.length-1-j:=⟨_,rfl⟩;have Rs:(ns.length:Int)-1-j=i:=by omega
  obtain⟨n,hn⟩:=bX (xs:=ns) (i:=i) (by omega);obtain⟨ox,us⟩:=i_ i n hn;obtain⟨n,rfl⟩:∃m:Nat,n=m:=⟨n.toNat,by omega⟩;have da:st (j+1)=(st j).eraseIdx n:=by
   rw[lN,lN,show ns.length-(j+1)=i by omega,show ns.length-j=i+1 by omega];obtain⟨hlt,rfl'⟩:=SM.1 hn;rw[TW hlt,rfl'];rfl
  have dx:(st j).length+j=x.aB.length:=by
   have hd:tJ (ns.drop (ns.length-j)) x.aB.length:=λq m hq=>by
    rw[Um]at hq;have:=i_ _ _ hq;rw[Ul];exact⟨this.1,by omega⟩
   have:=IN hd;rw[<- lN,Ul]at this;omega
  have iZ:n<(st j).length:=by omega
  generalize st j=ss at da dx iZ hR⊢;rw[Rs];refine aN ?_;refine ak ?_;simp only[seval,eJ hn,jp (show i<ns.length by omega)];have bN:SF.wrap ((n:Int)+1)=((n+1:Nat):Int):=by rw[bG _ (by omega)];rfl
  have mb:∀l:List aC,(l.flatMap aC.l).length=l.length* 4:=λl=>by
   induction l with
   |nil=>rfl
   |cons a l ih=>rw[T9,SO,ih,aC.len,Ui];omega
  have lP:((n:Int)+1).toNat=n+1:=by omega
  have KG:((n:Int)+1==0)=false:=by simp;omega
  have lh:(ss.take n).length=n:=by rw[Ub];omega
  have iG:(ss.drop (n+1)).length=ss.length-(n+1):=Ul;have hD1:∀l:List aC,(ss.length-(n+1))=l.length->l.take (ss.length-(n+1))=l:=λl h=>by rw[h,TH]
  have hD2:(ss.drop (n+1)).take (ss.length-(n+1))=ss.drop (n+1):=hD1 _ iG.symm;refine dT 10 ?_;simp only[seval,aT,uk,bN,mb,lP,Qd aC.len,Qa aC.len,lh,iG,beq_self_eq_true,ad',YE,KG,hD2,TH];refine⟨by omega,by omega,by omega,by omega,by omega,by rw[bm];simp,?_⟩;have Ca:(ss.eraseIdx n).length=n+(ss.length-(n+1)):=by rw[VG iZ];omega
  have Cb:(ss.eraseIdx n).flatMap aC.l=(ss.take n).flatMap aC.l++(ss.drop (n+1)).flatMap aC.l:=by rw[List.eraseIdx_eq_take_drop_succ,VR]
  rw[<- Cb,<- Ca];have oR:∀y y',((xl ss).take 5++[y]++(xl ss).drop 6).set 5 y'=((xl ss).take 5++[y']++(xl ss).drop 6):=λy y'=>by rw[bm];rfl
  have hcg:∀y,((xl ss).take 5++[y]++(xl ss).drop 6)[5]?=some y:=λy=>by rw[bm];rfl
  have hce:(xl ss).take 5++[bp (ss.eraseIdx n)]++(xl ss).drop 6=xl (ss.eraseIdx n):=by rw[bm,bm];rfl
  (repeat apply gW);refine afs (id:=H.length) (j:=5) (y:=bp (ss.eraseIdx n)) (by simp only[seval,aT]<;>rfl) (hcg _) (iP _ _ _) ?_
  simp only[seval,dK,oR,hce];have g_:SF.wrap ((i:Int)-1)=(ns.length:Int)-1-((j+1:Nat):Int):=by rw[bG _ (by omega)];omega
  refine ak ?_;simp only[seval,g_];refine hR _ ⟨fi,trivial,?_⟩;rw[da];have sX:bP (H++[.cells (xl (ss.eraseIdx n)) 26,.cells qx 76]):=KJ hH λz hz m=>by
   simp only[SL,S4,or_false]at hz;rcases hz with rfl|rfl
   ·rw[bm];exact Ma m {x with aB:=ss.eraseIdx n}
   ·intro a ha;simp only[qx,SL,S4,or_false]at ha;rcases ha with rfl|rfl|rfl|rfl|rfl|rfl<;>simp[eI,L_]
  rw[<- Rs];exact G0 [.tail (ss.eraseIdx n).length 4 48] (pf rfl rfl) (by simp only[seval];simp[bz,Wk.refl]) sX (by simp[eI]) (by rw[SD];rfl)
 ·have xG:j=ns.length:=by omega
  subst xG;refine bZ ?_;have F3:(xl (st ns.length))=(x.wo ns).l:=by rw[bm,alm];rfl
  rw[F3];have rE:(x.wo ns).l.length=6:=rfl;have uz:Uq 6 (x.wo ns).l=(x.wo ns).l:=rfl;have oy:qx.length=6:=rfl;have Ll:UD 6 qx=[]:=rfl;refine ak ?_;simp only[seval,aT,dL,dg,rE,uz,oy,Ll];refine⟨kP _,?_⟩;refine oN ?_;simp only[seval,dg];rw[uz];exact jr (b:=(x.wo ns).av) hH (Wk.refl _) (by rw[Gn];trivial) hk
end
open Go.Conc Go.Proofs Go.Gg.Tk
namespace Tk
def Oe (ns:List Int)(m:Nat):Bool:=(SZ ns.length).all λi=>decide (0<=ns.getD i 0/\ns.getD i 0+(ns.length-i:Nat)<=m)
theorem afa{ns:List Int}{m:Nat}(h:Oe ns m=true):tJ ns m:=λi n hn=>by
 have hi:=(SM.1 hn).1;have:=TA.1 h i (Tu.2 hi);rw[decide_eq_true_eq,SE,hn]at this;exact this
theorem aaJ:∀n,n<4->(uM n).length=2^n/\∀l∈uM n,Oe l n=true:=by decide+kernel
theorem amA{n:Nat}(hn:n<4){l:List Int}(hl:l∈uM n):tJ l n:=afa ((aaJ n hn).2 l hl)
theorem Pq{ss:List aC}:∀{ns:List Int}{y:aC},y∈qR ss ns->y∈ss
 |[],y,h=>h
 |n::ns,y,h=>Pq (ns:=ns) (Yn h)
theorem Pp{ss:List aC}:∀{ns:List Int},(qR ss ns).length<=ss.length
 |[]=>SR _
 |n::ns=>by
  have h1:=Pp (ss:=ss) (ns:=ns);have h2:=List.length_eraseIdx_le (qR ss ns) n.toNat;exact UB h2 h1
theorem ai.Ok.wo{x:ai}(h:x.Ok)(ns:List Int):(x.wo ns).Ok:=⟨h.first,h.hours,h.am,h.yi,h.c9,UB Pp h.eK,h.seen,λy hy=>⟨(h.piece y hy).1,(h.piece y hy).2⟩,λy hy=>have k:=h.stub y (Pq hy);⟨k.1,k.2⟩⟩
def xe (x:ai):Option (List Int):=(uM x.aB.length).find? λl=>qO (x.wo l)
theorem P6{α:Type}{p:α->Bool}:∀{l:List α}{i:Nat}{a:α},l[i]?=some a->p a=true->(∀j b,j<i->l[j]?=some b->p b=false)->l.find? p=some a
 |b::l,0,a,h,hp,_=>by cases h;rw[YT hp]
 |b::l,i+1,a,h,hp,h0=>by
  rw[List.find?_cons_of_neg (by rw[h0 0 b (by omega) rfl];simp)];exact P6 (i:=i) h hp λj c hj hc=>h0 (j+1) c (by omega) hc
theorem aiB{α:Type}{p:α->Bool}{l:List α}(h:∀(j:Nat) b,l[j]?=some b->p b=false):l.find? p=none:=by
 rw[List.find?_eq_none];intro a ha;obtain⟨j,hj⟩:=VH ha;rw[h j a hj];simp
end Tk
section
variable {lv:Bool}{H:List aa}{k kp:AV->List aa->Prop}
theorem PP{x:ai}(hx:x.Ok)(gO:∀l,xe x=some l->k (.aJ [ba l,iv 0]) H)(b_:xe x=none->k (.aJ [ba [],iv 11]) H):bf lv SC 32 H [x.av] k kp:=by
 refine bH (rs:=[.tmp 2,.tmp 3]) (nt:=27) Tryz.f32 λhH hA=> ?_;simp only[br,SW,ai.av];have aQ:=hx.eK;have bS:x.l=[iv x.first,iv x.hours,iv x.am,dY x.seen,bp x.pieces,bp x.aB]:=rfl;have uk:UD 5 x.l=[.sl x.aB.length (x.aB.flatMap aC.l) .shut]:=rfl;have aT:∀(L:List aa),(H++L)[H.length]?=L[0]?:=λL=>aX H L 0;have bm:x.l.length=6:=rfl;have dZ:Uq 6 x.l=x.l:=rfl;refine aj ?_;refine ak ?_;simp only[seval,aT,bm,dZ];refine aK ((I4 (x:=x) hx ?_));(try simp only[seval]);refine ak ?_;simp only[seval,show ((0:Int)!=0)=false from rfl];refine aD ?_;refine aN ?_;refine ak ?_;simp only[seval,aT,uk];refine aK ((ah9 (n:=x.aB.length) aQ ?_));have iY:=(aaJ x.aB.length (by omega)).1;have fj:=λl hl=>amA (n:=x.aB.length) (by omega) (l:=l) hl;have vV:xe x=(uM x.aB.length).find? λl=>qO (x.wo l):=rfl;generalize uM x.aB.length=ls at iY fj vV⊢;have hp8:2^x.aB.length<=2^3:=Wu (by omega) aQ;(try simp only[seval,yF]);refine cy ?_;refine gL ls.length (λi:Nat=>[(17,iv i)]) (λi=>H++[.cells x.l 26]) (λi=>∀j b,j<i->ls[j]?=some b->qO (x.wo b)=false) (λ_ _=>rfl) (by simp only[seval];simp[bz,Wk.refl]) rfl (λ_ _ _=>by simp) (λj b hj=>by omega) (λbU cS i cM az R hR=> ?_);clear bU cS;refine aj ?_;refine aD ?_;refine⟨λh=> ?_,λh=> ?_⟩
 ·have bB:i<ls.length:=by omega
  obtain⟨l,hl⟩:=bX bB;have gD:=fj l (uO hl);have fK:SF.wrap ((i:Int)+1)=((i+1:Nat):Int):=by rw[bG _ (by omega)];rfl
  refine aN ?_;refine ak ?_;simp only[seval,aco hl,jp bB];refine ak ?_;simp only[seval,aT,bm,dZ];refine aK ((PW (x:=x) (ns:=l) aQ gD ?_));(try simp only[seval]);refine aK ((aia (x:=x.wo l) (hx.wo l) ?_));(try simp only[seval]);refine aD ?_;refine⟨λhc=> ?_,λhc=> ?_⟩
  ·refine aj ?_;refine aZ ?_;exact jr (b:=.aJ [ba l,iv 0]) hH (DC (Wk.refl _) (Wk.refl _)) (by simp[je,eI,x7]) (gO l (by rw[vV];exact P6 hl hc az))
  ·refine aN ?_;refine ak ?_;simp only[seval,fK];refine hR _ ⟨bB,λj b hj hb=> ?_,dq⟩;rcases YG j i with h'|h'
   ·exact az j b h' hb
   ·have:j=i:=(by omega);subst this;rw[hl]at hb;cases hb;simpa using hc
 ·have pX:i=ls.length:=by omega
  subst pX;refine bZ ?_;refine aj ?_;refine aZ ?_;exact jr (b:=.aJ [ba [],iv 11]) hH (DC (iP _ _ _) (Wk.refl _)) (by simp[je,eI,x7]) (b_ (by rw[vV];exact aiB λj b hb=>az j b (eR hb) hb))
end
open Go.Conc
def behind (j:Nat)(o:Tx):Tx:={o with after:=o.after.push {on:=j,ground:=.data}}
def nY (ops:Array Tx)(i j:Nat):Array Tx:=ops.modify i (behind j)
theorem aeB(ops:Array Tx)(i j:Nat):(nY ops i j).size=ops.size:=by simp[nY]
theorem qI(ops:Array Tx)(i j k:Nat):(nY ops i j)[k]?=if i=k then(ops[k]?).map (behind j)else ops[k]?:=by
 unfold nY;rw[Wl]
theorem afJ(j:Nat)(o:Tx):cP (behind j o)=cP o++[j]:=by
 unfold cP behind;simp only[Array.toList_push,List.filterMap_append];rfl
theorem ab1{ops:Array Tx}{i j:Nat}{X l:List Nat}(h:lZ ops X l):j∈X->lZ (nY ops i j) X l:=by
 induction h with
 |nil X h=>exactλ_=> .nil X λk hk=>h k (by rwa [aeB]at hk)
 |cons o ho hn hd lL ih=>
  rename_i X k l;intro hj;by_cases e:i=k
  ·exact .cons (behind j o) (by rw[qI,if_pos e,ho];rfl) hn (λq hq=>by
    rw[afJ]at hq;rcases SS.1 hq with hq|hq
    ·exact hd q hq
    ·rw[S9.1 hq];exact hj) (ih (Tb _ hj))
  ·exact .cons o (by rw[qI,if_neg e];exact ho) hn hd (ih (Tb _ hj))
theorem apS{ops:Array Tx}{i j:Nat}(kg:i≠j)(hi:i<ops.size){X l:List Nat}(h:lZ ops X l):i∉X->j∉X->lZ (nY ops i j) X l\/lZ (nY ops j i) X l:=by
 induction h with
 |nil X h=>exactλh1 _=>absurd (h i hi) h1
 |cons o ho hn hd lL ih=>
  rename_i X k l;intro h1 h2;by_cases e:k=i
  ·subst e;exact .inr (.cons o (by rw[qI,if_neg (Ne.symm kg)];exact ho) hn hd (ab1 lL TD))
  ·by_cases e2:k=j
   ·subst e2;exact .inl (.cons o (by rw[qI,if_neg kg];exact ho) hn hd (ab1 lL TD))
   ·rcases ih (λhm=>(SL.1 hm).elim (λx=>e x.symm) h1) (λhm=>(SL.1 hm).elim (λx=>e2 x.symm) h2)with q|q
    ·exact .inl (.cons o (by rw[qI,if_neg (Ne.symm e)];exact ho) hn hd q)
    ·exact .inr (.cons o (by rw[qI,if_neg (Ne.symm e2)];exact ho) hn hd q)
section
variable {lv:Bool}{P:SJ}{r:Option Nat}{ops:Array Tx}{nt:Nat}
theorem aeC(i j:Nat)(tmps:Array SP):yielded (nY ops i j) tmps=yielded ops tmps:=by
 funext k;unfold yielded;rw[qI];by_cases e:i=k
 ·rw[if_pos e];cases ops[k]?<;>rfl
 ·rw[if_neg e]
theorem N7(i j:Nat)(Q:Ex->Act->View->Prop):∀l:List Nat,dj lv P r (nY ops i j) Q l=dj lv P r ops Q l
 |[]=>rfl
 |k::l=>by
  funext a V;have ih:=N7 i j Q l;simp only[dj];rw[qI,aeC,ih];by_cases e:i=k
  ·rw[if_pos e];cases ho:ops[k]?with
   |none=>rfl
   |some o=>rfl
  ·rw[if_neg e]
theorem HY(i j:Nat)(Hf:List Nat->List aa)(K:AS->Prop)(t:AR K):∀(pl:List qE)(s:AS),fU lv P Hf (nY ops i j) pl s K t=fU lv P Hf ops pl s K t
 |[],_=>rfl
 |⟨k,false,_,l⟩::rest,s=>by
  have ih:=HY i j Hf K t rest;simp only[fU,qI];have e:∀o,ao (some o) (λo=>AQ lv P s o λav=>BQ lv P Hf s.T o av l/\fU lv P Hf (nY ops i j) rest (s.put o.dst av) K t)=ao (some o) (λo=>AQ lv P s o λav=>BQ lv P Hf s.T o av l/\fU lv P Hf ops rest (s.put o.dst av) K t):=λo=>by
   simp only[ao,ih]
  have bq:∀(o:Tx) av,BQ lv P Hf s.T (behind j o) av l=BQ lv P Hf s.T o av l:=λo av=>by
   induction l with
   |nil=>rfl
   |cons p l lx=>exact congrArg (λx=>_/\x) (lx λo=>by simp only[ao,ih])
  split
  ·cases ops[k]?with
   |none=>rfl
   |some o=>
    simp only[UM,ao,ih,bq];rfl
  ·cases ops[k]?with
   |none=>rfl
   |some o=>exact e o
 |⟨k,true,D,l⟩::rest,s=>by
  have ih:=HY i j Hf K t rest;simp only[fU,qI];have be:∀(o:Tx) av,BE lv P Hf s.T (behind j o) av l=BE lv P Hf s.T o av l:=λo av=>by
   induction l with
   |nil=>rfl
   |cons p l lx=>exact congrArg (λx=>_/\x) lx
  split
  ·cases ops[k]?with
   |none=>rfl
   |some o=>
    simp only[UM,ao,ih,be];rfl
  ·cases ops[k]?with
   |none=>rfl
   |some o=>simp only[ao,ih]
theorem agO{es ord:List Nat}(az:qQ nt ops es ord=true)(t:Nat):lZ ops [] (UE .any ops ops.size t (TK ops.size false) []):=by
 have az:=qQ.out az;obtain⟨v6,_,hlt⟩:=Dr az.top;have ready:∀(ord X:List Nat),ko ops X ord=true->∀A i B,ord=A++i::B->∃o,ops[i]?=some o/\∀j∈cP o,j∈A\/j∈X:=by
  intro ord;induction ord with
  |nil=>intro X _ A i B e;cases A<;>cases e
  |cons x l ih=>
   intro X nI A i B e;simp only[ko,Tc,TV,Un,decide_eq_false_iff_not]at nI;obtain⟨⟨h1,h2⟩,h3⟩:=nI;cases A with
   |nil=>
    have e1:x=i:=(by have:=congrArg List.head? e;simpa using this);rw[e1]at h2;cases ho:ops[i]?with
    |none=>rw[ho]at h2;cases h2
    |some o=>
     rw[ho]at h2;exact⟨o,rfl,λj hj=> .inr (by have:=TA.1 h2 j hj;simpa using this)⟩
   |cons y A=>
    cases e;obtain⟨o,ho,hb⟩:=ih (x::X) h3 A i B rfl;refine⟨o,ho,λj hj=> ?_⟩;rcases hb j hj with h|h
    ·exact .inl (Tb _ h)
    ·rcases SL.1 h with rfl|h
     ·exact .inl (TD ..)
     ·exact .inr h
 exact L3 (ops:=ops) (λi o ho j hj=>by
   obtain⟨A,B,e⟩:=List.append_of_mem (az.full i (SU.1 ho).1);obtain⟨o',bc,hb⟩:=ready ord [] az.top A i B e;rw[ho]at bc;cases bc;rcases hb j hj with h|h
   ·exact hlt j (by rw[e];exact Ti _ h)
   ·cases h)
  (λX ⟨i,hi,hn⟩=>by
   obtain⟨A,i',B,e,h1,h2⟩:=Jd (X:=X) ⟨i,az.full i hi,hn⟩;obtain⟨o',bc,hb⟩:=ready ord [] az.top A i' B e;refine⟨i',o',bc,h1,λj hj=> ?_⟩;rcases hb j hj with h|h
   ·exact h2 j h
   ·cases h)
  ops.size t (TK ops.size false) [] ⟨by simp,λi hi=>by simp[hi]⟩ (UB Y7 (by simp))
end
inductive r_ (ops:Array Tx):Array Tx->Prop
 |base:r_ ops ops
 |add {o:Array Tx} (h:r_ ops o) (i j:Nat):r_ ops (nY o i j)
section
variable {lv:Bool}{P:SJ}{r:Option Nat}{ops o:Array Tx}{nt:Nat}{s:AS}{Φ:an->AS->Prop}
theorem r_.wp(h:r_ ops o)(Q:Ex->Act->View->Prop)(l:List Nat):dj lv P r o Q l=dj lv P r ops Q l:=by
 induction h with
 |base=>rfl
 |add _ i j ih=>rw[N7,ih]
theorem r_.ON(h:r_ ops o)(Hf:List Nat->List aa)(K:AS->Prop)(t:AR K)(pl:List qE)(s:AS):fU lv P Hf o pl s K t=fU lv P Hf ops pl s K t:=by
 induction h with
 |base=>rfl
 |add _ i j ih=>rw[HY,ih]
def DG (lv:Bool)(P:SJ)(r:Option Nat)(nt:Nat)(ops o:Array Tx)(s:AS)(Φ:an->AS->Prop):Prop:=
 ∀l E V a Q,lZ o [] l->At E V s a nt->(∀ae e E' V' a' s',Kept E E' V V' a a'->At E' V' s' a' nt->pw E' ae e->Φ ae s'->Q e a' V')->dj lv P r ops Q l a V
theorem qP(i j:Nat)(kg:(i !=j&&decide (i<o.size))=true)(h1:DG lv P r nt ops (nY o i j) s Φ)(h2:DG lv P r nt ops (nY o j i) s Φ):DG lv P r nt ops o s Φ:=λl E V a Q hs ah hQ=>by
 rw[Tc,bne_iff_ne,decide_eq_true_eq]at kg;rcases apS kg.1 kg.2 hs (by simp) (by simp)with hs|hs
 ·exact h1 l E V a Q hs ah hQ
 ·exact h2 l E V a Q hs ah hQ
theorem On{id:Nat}(es ord:List Nat)(hm:P.follows .mixedOrders=true)(az:qQ nt ops es ord=true)(h:DG lv P r nt ops ops s Φ):aW lv P r nt (.region id ops true) s Φ:=by
 intro E V a Q ah hQ;refine NF λt=> ?_;rw[show VM (P.follows .mixedOrders) ops t=UE .any ops ops.size t (TK ops.size false) [] by unfold VM;rw[hm];simp[Ze]];exact h _ E V a Q (agO az t) ah hQ
end
def Gr (lv:Bool)(P:SJ)(o:Tx)(s:AS)(next:AS->Prop):Prop:=match o.op with
 |.call c=>match c.callee with
  |.value x=>ao (s.ev x) λsx=>ao (fg s c.args.toList) λaG=>AH lv P sx s.H aG (λb H'=>next ((⟨s.T,H'⟩:AS).put o.dst b)) (λ_ _=>False) ⟨0⟩
  |_=>False
 |_=>False
def aaV (ops:Array Tx)(A B:List Nat)(m:Nat):Bool:=
 let cl:=gC ops (A++m::B) []
 A.all (λi=>(nk cl m).contains i)&&B.all λi=>(nk cl i).contains m
theorem r_.get{ops o:Array Tx}(h:r_ ops o){m:Nat}{om:Tx}(hm:ops[m]?=some om):∃pk,o[m]?=some pk/\pk.op=om.op/\pk.dst=om.dst:=by
 induction h with
 |base=>exact⟨om,hm,rfl,rfl⟩
 |add _ i j ih=>
  obtain⟨q,h1,h2,h3⟩:=ih;rw[qI];split
  ·exact⟨behind j q,by rw[h1];rfl,h2,h3⟩
  ·exact⟨q,h1,h2,h3⟩
section
variable {lv:Bool}{P:SJ}{r:Option Nat}{ops o:Array Tx}{Hf:List Nat->List aa}{T0:List (Nat×AV)}{es ord:List Nat}{nt:Nat}{s:AS}{Φ:an->AS->Prop}
theorem Pn{f:Nat->AV}(az:yw nt ops ord)(G:List Nat)(au:∀i∈G,∀o,ops[i]?=some o->∀X',kS ops X'->i∉X'->(∀j∈cP o,j∈X')->OB lv P r ops Hf T0 es f i o X'){X l:List Nat}(hs:lZ ops X l):
  (∀i∈X,i<ops.size)->kS ops X->∀(E:Env)(V:View)(a:Act)(Q:Ex->Act->View->Prop),At E V ⟨TX ops T0 f X,Hf (done es X)⟩ a nt->
   (∀E' V' a' X' l',Kept E E' V V' a a'->At E' V' ⟨TX ops T0 f X',Hf (done es X')⟩ a' nt->(∀i∈X',i<ops.size)->kS ops X'->(∀i∈X',i∈X\/i∈G)->(∀i∈X,i∈X')->lZ ops X' l'->(∀i xZ,l'=i::xZ->i∉G)->dj lv P r ops Q l' a' V')->dj lv P r ops Q l a V:=by
 induction hs with
 |nil X h=>
  intro hX hc E V a Q ah hQ;exact hQ E V a X [] (Kept.refl E V a) ah hX hc (λi hi=> .inl hi) (λi hi=>hi) (.nil X h) (λi xZ e=>by cases e)
 |cons o ho hn hd lL ih=>
  rename_i X i l;intro hX hc E V a Q ah hQ;by_cases hG:i∈G
  ·have hi:i<ops.size:=(SU.1 ho).1;simp only[dj,ho];have oe:∀k∈i::X,k<ops.size:=λk hk=>(SL.1 hk).elim (λe=>by rw[e];exact hi) (hX k);have bi:=hc.cons ho hd;have hw:Tj o (yielded ops a.tmps)=true:=(by unfold Tj;rw[az.BL i o ho]);rw[if_pos hw];refine .inl ?_;have dn:∀d,o.dst=some d->d<a.tmps.size:=λd e=>(by rw[ah.size];exact az.dst i o d ho e);have lK:=au i hG o ho X hc hn hd;have lO:∀{mF:List Nat},(∀j∈mF,j∈i::X\/j∈G)->∀j∈mF,j∈X\/j∈G:=λh j hj=>by
    rcases h j hj with h|h
    ·rcases SL.1 h with rfl|h
     ·exact .inr hG
     ·exact .inl h
    ·exact .inr h
   unfold OB at lK;by_cases dw:i∈es
   ·rw[if_pos dw]at lK;have aQ:=lK.step (r:=r) (bad:=λ_ _=>False);refine aQ E V a _ Q ah.bu ah.tok dn (.inr (az.vA i o ho)) (λE' V' a' s' hk cT ht e=> ?_) λ_ _ _ _ _ _ _ _ _ h=>h.elim;subst e;rw[wR ho rfl]at ht cT;exact ih oe bi E' V' a' Q ⟨cT,ht,hk.size.trans ah.size⟩ λbQ aS cm mF xZ aI de w1 w2 w3 w4=>hQ bQ aS cm mF xZ (hk.trans aI) de w1 w2 (lO w3) (λj hj=>w4 j (Tb _ hj))
   ·rw[if_neg dw]at lK;obtain⟨T,hT,hq⟩:=lK;refine hq E V a _ Q ah.bu (λt av e=>ah.tok t av (hT t av e)) (.inr (az.vA i o ho)) λE' V' v hle ce eZ cT hv=> ?_;have ht:cj E' ((⟨TX ops T0 f X,Hf (done es X)⟩:AS).put o.dst (f i)).T (a.put o.dst v).tmps:=cj.gQ (s:=⟨TX ops T0 f X,Hf (done es X)⟩) (ah.tok.mono hle) dn hv;rw[wR ho rfl]at ht;refine ih oe bi E' V' (a.put o.dst v) Q ⟨by rw[IK dw];exact cT,ht,(d_ _ _ _).trans ah.size⟩ λbQ aS cm mF xZ hk de w1 w2 w3 w4=>
     hQ bQ aS cm mF xZ ⟨hle.trans hk.le,hk.size.trans (d_ _ _ _),hk.defers.trans (put_defers _ _ _),hk.role.trans ce,hk.deaf.trans eZ⟩ de w1 w2 (lO w3) (λj hj=>w4 j (Tb _ hj))
  ·exact hQ E V a X (i::l) (Kept.refl E V a) ah hX hc (λi hi=> .inl hi) (λi hi=>hi) (.cons o ho hn hd lL) (λj xZ e=>by cases e;exact hG)
theorem ac8{ops:Array Tx}:∀{A L X:List Nat},ko ops X (A++L)=true->ko ops X A=true/\ko ops (A.reverse++X) L=true
 |[],L,X,h=>⟨rfl,h⟩
 |i::A,L,X,h=>by
  rw[Vf,ko,Tc]at h;obtain⟨h1,h2⟩:=ac8 h.2;refine⟨by rw[ko,Tc];exact⟨h.1,h1⟩,?_⟩;rw[Zm,SD];exact h2
theorem ac9{ops:Array Tx}:∀{A X:List Nat},ko ops X A=true->kS ops X->kS ops (A.reverse++X)
 |[],X,h,hX=>hX
 |i::A,X,h,hX=>by
  have nI:=h;simp only[ko,Tc,TV,Un,decide_eq_false_iff_not]at nI;obtain⟨⟨hi,h2⟩,h3⟩:=nI;cases ho:ops[i]?with
  |none=>rw[ho]at h2;cases h2
  |some o=>
   rw[ho]at h2;have hd:∀j∈cP o,j∈X:=λj hj=>(by have:=TA.1 h2 j hj;simpa using this);have:=ac9 h3 (hX.cons ho hd);rw[Zm,SD];exact this
def AW (lv:Bool)(P:SJ)(ops:Array Tx)(m:Nat)(GR:List qE)(Φ:an->AS->Prop)(s1:AS):Prop:=ao (ops[m]?) λom=>Gr lv P om s1 λs2=>∃nS:List Nat->List aa,s2.H=nS []/\fU lv P nS ops GR s2 (Φ .normal) ⟨0⟩
theorem pI(ha:r_ ops o)(m:Nat)(A B oP nj:List Nat)(pl1 GR:List qE)(oH:List Nat->List aa)(az:qQ nt o [] (A++m::B)=true)(Fg:aaV o A B m=true)(akQ:qn (gC o (A++m::B) []) oP [] A=pl1)(akR:qn (gC o (A++m::B) []) nj (m::A.reverse) B=GR)(aj9:nj.all B.contains=true)(h0:s.H=oH [])
  (h:fU lv P oH ops pl1 s (AW lv P ops m GR Φ) ⟨0⟩):DG lv P r nt ops o s Φ:=λl E V a Q hs ah hQ=>by
 subst akQ akR;rw[<- ha.wp];rw[<- ha.ON]at h;have az:=qQ.out az;obtain⟨v6,_,hlt⟩:=Dr az.top;obtain⟨tA,tB⟩:=ac8 az.top;rw[S0]at tB;have tB':ko o (m::A.reverse) B=true:=by
  rw[ko,Tc]at tB;exact tB.2
 unfold aaV at Fg;dsimp only at Fg;rw[Tc,TA,TA]at Fg;obtain⟨cA,cB⟩:=Fg;have RO:m∉A:=λhm=>(U5.1 v6).2.2 m hm m (by simp) rfl;have v5:m∉B:=(VS.1 (U5.1 v6).2.1).1;have QC:∀i∈B,i∉A:=λi hi hA=>(U5.1 v6).2.2 i hA i (by simp[hi]) rfl;have dK:s=⟨TX o s.T (λ_=> .val undef) [],oH (done oP [])⟩:=by
  have:done oP []=[]:=by simp[done]
  rw[this,<- h0];rfl
 have h':fU lv P oH o (qn (gC o (A++m::B) []) oP [] A) ⟨TX o s.T (λ_=> .val undef) [],oH (done oP [])⟩ (AW lv P ops m (qn (gC o (A++m::B) []) nj (m::A.reverse) B) Φ) ⟨0⟩:=by rw[<- dK];exact h
 obtain⟨f,_,q2,q3⟩:=Bq (r:=r) az A [] _ tA (λi hi=>by cases hi) h';have sL:At E V ⟨TX o s.T f [],oH (done oP [])⟩ a nt:=by
  have e:(⟨TX o s.T f [],oH (done oP [])⟩:AS)=s:=dK.symm;rw[e];exact ah
 refine Pn (Hf:=oH) (es:=oP) az A q2 hs (by simp) (λi hi=>by cases hi) E V a Q sL λE1 V1 a1 X1 l1 gO vK hX1 dl K2 _ dL FR=> ?_;have RP:m∉X1:=λhm=>by
  rcases K2 m hm with h|h
  ·cases h
  ·exact RO h
 cases dL with
 |nil _ fD=>exact absurd (fD m (hlt m (by simp))) RP
 |@cons _ i l2 pk ho hn hd lL=>
  have hi:i<o.size:=(SU.1 ho).1;have hiA:i∉A:=FR i l2 rfl;have kC:i=m:=by
   rcases SS.1 (az.full i hi)with h|h
   ·exact absurd h hiA
   ·rcases SL.1 h with h|h
    ·exact h
    ·have:=cB i h;have hr:m∈nk (gC o (A++m::B) []) i:=(by simpa using this);exact absurd (An dl (yN hr) λo' bc k hk=>by rw[ho]at bc;cases bc;exact hd k hk) RP
  subst kC;have QD:∀j∈A,j∈X1:=λj hj=>by
   have:=cA j hj;have hr:j∈nk (gC o (A++i::B) []) i:=(by simpa using this);exact An dl (yN hr) λo' bc k hk=>by rw[ho]at bc;cases bc;exact hd k hk
  have Kz:∀j,j∈X1<->j∈A.reverse++[]:=λj=>by
   rw[S0,XI];exact⟨λh=>(K2 j h).elim (λh=>by cases h) id,QD j⟩
  have JO:At E1 V1 ⟨TX o s.T f (A.reverse++[]),oH (done oP (A.reverse++[]))⟩ a1 nt:=by
   refine⟨?_,λt x e=> ?_,vK.size⟩
   ·rw[<- Ey Kz];exact vK.bu
   ·rw[<- D7 az Kz]at e;exact vK.tok t x e
  simp only[dj,ho];have hw:Tj pk (yielded o a1.tmps)=true:=by unfold Tj;rw[az.BL i pk ho]
  rw[if_pos hw];refine .inl ?_;have dn:∀d,pk.dst=some d->d<a1.tmps.size:=λd e=>by rw[vK.size];exact az.dst i pk d ho e
  unfold AW at q3;obtain⟨om,hom,q3⟩:=q3.out;obtain⟨om2,g1,g2,g3⟩:=ha.get hom;rw[ho]at g1;cases g1;unfold Gr at q3;obtain⟨c,x,ajR,ajG,q4⟩:∃c x,om.op=.call c/\c.callee=.value x/\ao ((⟨TX o s.T f (A.reverse++[]),oH (done oP (A.reverse++[]))⟩:AS).ev x) λsx=>ao (fg ⟨TX o s.T f (A.reverse++[]),oH (done oP (A.reverse++[]))⟩ c.args.toList) λaG=>AH lv P sx (oH (done oP (A.reverse++[]))) aG (λb H'=>∃nS:List Nat->List aa,((⟨TX o s.T f (A.reverse++[]),H'⟩:AS).put om.dst b).H=nS []/\fU lv P nS ops (qn (gC o (A++i::B) []) nj (i::A.reverse) B) ((⟨TX o s.T f (A.reverse++[]),H'⟩:AS).put om.dst b) (Φ .normal) ⟨0⟩) (λ_ _=>False) ⟨0⟩:=by
   split at q3
   ·rename_i c hc;split at q3
    ·rename_i x hx;exact⟨c,x,hc,hx,q3⟩
    ·exact q3.elim
   ·exact q3.elim
  obtain⟨sx,e1,q5⟩:=q4.out;obtain⟨aG,e2,q6⟩:=q5.out;have lr:=Nd (lv:=lv) (P:=P) (r:=r) (o:=pk) (s:=⟨TX o s.T f (A.reverse++[]),oH (done oP (A.reverse++[]))⟩) (next:=λs2=>∃av H' nS,s2=(⟨TX o s.T f (A.reverse++[]),H'⟩:AS).put pk.dst av/\H'=nS []/\fU lv P nS ops (qn (gC o (A++i::B) []) nj (i::A.reverse) B) s2 (Φ .normal) ⟨0⟩) (bad:=λ_ _=>False) (g2.trans ajR) ajG e1 e2 (iQ.mono q6 (λav H'=>by
    rintro⟨nS,w1,w2⟩
    rw[<- g3]at w1 w2;refine⟨av,H',nS,rfl,?_,w2⟩;rw[<- w1];cases pk.dst<;>rfl) (λ_ _ h=>h))
  refine lr E1 V1 a1 _ Q JO.bu JO.tok dn (.inr (az.vA i pk ho)) (λE2 V2 a2 s2 b_ cT FT e=> ?_) λ_ _ _ _ _ _ _ _ _ h=>h.elim;obtain⟨av,H',nS,rfl,hH',hb⟩:=e;obtain⟨f',Rl⟩:∃f':Nat->AV,f'=λj=>if j=i then av else f j:=⟨_,rfl⟩;have hff:∀j∈A.reverse++[],f j=f' j:=λj hj=>by
   have:j≠i:=λe=>RO (by subst e;simpa using hj);rw[Rl];simp[this]
  have hp:(⟨TX o s.T f (A.reverse++[]),H'⟩:AS).put pk.dst av=⟨TX o s.T f' (i::A.reverse),nS (done nj (i::A.reverse))⟩:=by
   have oT:done nj (i::A.reverse)=[]:=by
    unfold done;rw[WW];intro j hj;have:=TA.1 aj9 j hj;have Fy:j∈B:=(by simpa using this);have h1:j≠i:=λe=>v5 (e▸Fy);have h2:=QC j Fy;simp[h1,h2]
   rw[A2 hff,wR ho (by rw[Rl];simp),oT,hH',S0]
  rw[hp]at hb cT FT;rw[<- ha.ON]at hb;have ajM:kS o (i::A.reverse):=by
   have h1:=ac9 tA (X:=[]) (λi hi=>by cases hi);rw[S0]at h1;exact h1.cons ho λj hj=>by
    have:=K2 j (hd j hj);simpa using this
  obtain⟨f2,p1,p2,p3⟩:=Bq (r:=r) az B (i::A.reverse) f' tB' ajM hb;have RR:∀j,j∈i::X1<->j∈i::A.reverse:=λj=>by
   have:=Kz j;rw[S0]at this;rw[SL,SL,this]
  have uh:At E2 V2 ⟨TX o s.T f2 (i::X1),nS (done nj (i::X1))⟩ a2 nt:=by
   refine⟨?_,λt x e=> ?_,b_.size.trans JO.size⟩
   ·rw[Ey RR];exact cT
   ·rw[D7 az RR,A2 p1]at e;exact FT t x e
  refine Pn (Hf:=nS) (es:=nj) az B p2 lL (λk hk=>(SL.1 hk).elim (λe=>by rw[e];exact hi) (hX1 k)) (dl.cons ho hd) E2 V2 a2 Q uh λE3 V3 a3 X3 l3 vZ pO hX3 dO atm RZ o4 alk=> ?_;cases o4 with
  |cons o3 KH KB zp atl=>
   rename_i j l4;exfalso;have hj:j<o.size:=(SU.1 KH).1;have Fy:=alk j l4 rfl;rcases SS.1 (az.full j hj)with h|h
   ·exact KB (RZ j (Tb _ (QD j h)))
   ·rcases SL.1 h with rfl|h
    ·exact KB (RZ j (TD ..))
    ·exact Fy h
  |nil _ fD=>
   have RS:∀j,j∈X3<->j∈B.reverse++i::A.reverse:=λj=>by
    rw[SS,SL,XI,XI];constructor
    ·intro h;have:=SS.1 (az.full j (hX3 j h));rw[SL]at this;rcases this with h|h|h
     ·exact .inr (.inr h)
     ·exact .inr (.inl h)
     ·exact .inl h
    ·intro h;refine fD j (hlt j ?_);rw[SS,SL];rcases h with h|h|h
     ·exact .inr (.inr h)
     ·exact .inr (.inl h)
     ·exact .inl h
   refine hQ .normal .normal E3 V3 a3 _ ((gO.trans b_).trans vZ) ⟨?_,λt x e=> ?_,pO.size⟩ trivial p3
   ·rw[<- Ey RS];exact pO.bu
   ·rw[<- D7 az RS]at e;exact pO.tok t x e
end
theorem am5:type_of% @Gr.eq_1:=by intros;rw[Gr.eq_1]
theorem am6:type_of% @AW.eq_1:=by intros;rw[AW.eq_1]
attribute [seval] am5 am6
open Go.Proofs Go.Gg.Tk
theorem abE{x:ai}{q:Nat}(hq:q<x.pieces.length):yd x [(q:Int)]=true:=by
 unfold yd;simp;omega
theorem Pk{lv:Bool}{P:SJ}{r:Option Nat}{nt:Nat}{ops:Array Tx}{s:AS}{Φ:an->AS->Prop}{α:Type}{ok:α->Prop}(st:α->AS)(rest:∀x,ok x->Φ .normal (st x))(h:(∀x,ok x->Φ .normal (st x))->DG lv P r nt ops ops s Φ):DG lv P r nt ops ops s Φ:=h rest
theorem qv{T V:List (Nat×AV)}{H H':List aa}(hH:H=H')(hv:∀p∈V,∃b,look T p.1=some b/\Wk b p.2):(⟨T,H⟩:AS).Sub ⟨V,H'⟩:=
 ⟨λt a e=>hv (t,a) (rJ e),hH⟩
def opsOf:T7->Array Tx
 |.region _ o _=>o
 |.seq a _=>opsOf a
 |_=>#[]
structure Bk (H:List aa)(M:List AV->List AV->List aa)(L:List aa)(B:List AV->List AV->List aa)(N:Nat):Prop where
 f:∀u v,B u v=H++(M u v++L)
 l:∀u v,(B u v).length=N
section
variable {H L:List aa}{M B:List AV->List AV->List aa}{N:Nat}
theorem Bk.n(h:Bk H M L B N)(u v:List AV)(L':List aa)(j:Nat):(B u v++L')[N+j]?=L'[j]?:=by rw[<- h.l u v,aX]
theorem Bk.s(h:Bk H M L B N)(u v:List AV)(L':List aa)(j:Nat)(y:aa):(B u v++L').set (N+j) y=B u v++L'.set j y:=by rw[<- h.l u v,ec]
theorem Bk.n0(h:Bk H M L B N)(u v:List AV)(L':List aa):(B u v++L')[N]?=L'[0]?:=h.n u v L' 0
theorem Bk.s0(h:Bk H M L B N)(u v:List AV)(L':List aa)(y:aa):(B u v++L').set N y=B u v++L'.set 0 y:=h.s u v L' 0 y
theorem Bk.n1(h:Bk H M L B N)(u v:List AV)(L':List aa):(B u v++L')[N+1]?=L'[1]?:=h.n u v L' 1
theorem Bk.s1(h:Bk H M L B N)(u v:List AV)(L':List aa)(y:aa):(B u v++L').set (N+1) y=B u v++L'.set 1 y:=h.s u v L' 1 y
theorem Bk.g(h:Bk H M L B N){j:Nat}{u v:List AV}(hl:j<(M u v).length){a y:aa}{u' v':List AV}(ha:(M u v)[j]?=some a)(hy:(M u v).set j y=M u' v')(L':List aa):(B u v++L')[H.length+j]?=some a/\(B u v++L').set (H.length+j) y=B u' v'++L':=by
 rw[h.f,h.f,SD,SD,SD,SD,aX,ec,SX hl,WB _ _ hl,hy];exact⟨ha,rfl⟩
theorem Bk.gu(h:Bk H M L B N)(j:Nat)(hl:∀u v,j<(M u v).length)(ha:∀u v,(M u v)[j]?=some (.cells u 76))(hy:∀u v w,(M u v).set j (.cells w 76)=M w v):(∀u v L',(B u v++L')[H.length+j]?=some (.cells u 76))/\(∀u v w L',(B u v++L').set (H.length+j) (.cells w 76)=B w v++L')/\(∀u v,(B u v)[H.length+j]?=some (.cells u 76))/\∀u v w,(B u v).set (H.length+j) (.cells w 76)=B w v:=by
 have k1:=λu v w L'=>h.g (hl u v) (ha u v) (hy u v w) L';have k2:=λu v w=>k1 u v w [];simp only[S0]at k2;exact⟨λu v L'=>(k1 u v u L').1,λu v w L'=>(k1 u v w L').2,λu v=>(k2 u v u).1,λu v w=>(k2 u v w).2⟩
theorem Bk.gv(h:Bk H M L B N)(j:Nat)(hl:∀u v,j<(M u v).length)(ha:∀u v,(M u v)[j]?=some (.cells v 88))(hy:∀u v w,(M u v).set j (.cells w 88)=M u w):(∀u v L',(B u v++L')[H.length+j]?=some (.cells v 88))/\(∀u v w L',(B u v++L').set (H.length+j) (.cells w 88)=B u w++L')/\(∀u v,(B u v)[H.length+j]?=some (.cells v 88))/\∀u v w,(B u v).set (H.length+j) (.cells w 88)=B u w:=by
 have k1:=λu v w L'=>h.g (hl u v) (ha u v) (hy u v w) L';have k2:=λu v w=>k1 u v w [];simp only[S0]at k2;exact⟨λu v L'=>(k1 u v v L').1,λu v w L'=>(k1 u v w L').2,λu v=>(k2 u v v).1,λu v w=>(k2 u v w).2⟩
theorem pJ{x:ai}{p q:Nat}{k kp:AV->List aa->Prop}(i j:Nat)(M:List AV->List AV->List aa)(u0 v0:List AV)(hx:x.Ok)(eG:x.am=p)(iq:yd x [(q:Int)]=true)(hm:H[0]?=some .main)(h1:(M u0 v0)[i]?=some (.cells [.sl 1 [iv q] .exact] 22))(h2:(M u0 v0)[j]?=some (.cells x.l 26))(hn:∀u v,(M u v).length=(M u0 v0).length)(hk:∀D L mp N B,eU x 1 D->bI D->(D.l mp).length=28->(∀a∈D.l mp,a.leaf=true)->Bk H M L B N->k (.aJ [x.av,.agg (D.l mp),iv (ew D)]) (B u0 v0)):bf true SC 51 (H++M u0 v0) [x.av,iv 1,.fn (.func 80) [] [.op (H.length+i) 0,.op (H.length+j) 0]] k kp:=by
 refine yY (x:=x) (b:=yd x [(q:Int)]) hx eG (fI hm) (λL k kp hk=>cI (I7 (x:=x) (ns:=[(q:Int)]) (e:=.exact) (il:=H.length+i) (ir:=H.length+j) hx (by simp) ?_ ?_ hk)) (λh=>by rw[iq]at h;cases h) λ_ js D L mp io jB bY sW hg=> ?_
 ·rw[SD,aX];exact fI h1
 ·rw[SD,aX];exact fI h2
 ·have:=hk D L mp (H.length+(M u0 v0).length+L.length) (λu v=>H++(M u v++L)) ⟨p,js,eG,io,jB,bY⟩ bY (Kn.len bY mp) (uH D mp) ⟨λ_ _=>rfl,λu v=>by rw[SO,SO,hn];omega⟩;rw[SD];exact this
end
theorem aa3{H:List aa}{x:ai}{q nt:Nat}{ops:Array Tx}{c:T7}{Ψ:an->AS->Prop}(ho:nt=27/\ops=opsOf (cs (ZO.body.getD .skip))\/nt=29/\ops=opsOf (cs (ZP.body.getD .skip)))(hx:x.Ok)(hq:q<x.pieces.length)(hm:H[0]?=some .main)(rest:∀y:Nat×Nat×Kn×List aa,eU x 1 y.2.2.1/\bI y.2.2.1/\(∃L,y.2.2.2=H++L)/\y.2.2.2[H.length]?=some (.cells x.l 26)/\y.2.2.2[y.1]?=some (.cells (y.2.2.1.l y.2.1) 88)->an.then (λs'=>aW true SC none nt c s' Ψ) Ψ .normal ⟨[(7,.op y.1 0),(8,iv (ew y.2.2.1)),(1,iv q),(2,.op H.length 0)],y.2.2.2⟩):DG true SC none nt ops ops ⟨[(5,iv 0),(4,.sl 0 [] .exact),(2,.op H.length 0),(0,.agg x.l),(1,iv q)],H++[.cells x.l 26]⟩ (an.then (λs'=>aW true SC none nt c s' Ψ) Ψ):=by
 rcases ho with⟨rfl,rfl⟩|⟨rfl,rfl⟩
 all_goals
  dsimp only[ZP,ZO,S8,cs,opsOf];have hp:=hx.am;have mh:=hx.c9;have iq:=abE hq;obtain⟨p,eG⟩:∃p:Nat,x.am=p:=⟨x.am.toNat,by omega⟩;have bS:x.l=[iv x.first,iv x.hours,iv x.am,dY x.seen,bp x.pieces,bp x.aB]:=rfl;have gf:∀(L:List aa)(j:Nat),(H++L)[H.length+j]?=L[j]?:=λL j=>aX H L j;have zO:∀(L:List aa)(j:Nat)(y:aa),(H++L).set (H.length+j) y=H++L.set j y:=λL j y=>ec H L j y;have aT:∀(L:List aa),(H++L)[H.length]?=L[0]?:=λL=>aX H L 0;have bm:x.l.length=6:=rfl;have nm:(1<=2^24)=True:=eq_true (by decide);have dZ:Uq 6 x.l=x.l:=rfl;obtain⟨u0,hu⟩:∃u0:List AV,u0=[.val (.int .i64 0),.val (.int .i64 0),.val (.int .i64 0),.sl 0 [] .exact,.sl 0 [] .exact,.sl 0 [] .exact]:=⟨_,rfl⟩;obtain⟨v0,hv⟩:∃v0:List AV,v0=[.val (.bool false),.val (.map none),.val (.int .u16 0),.val (.int .u16 0),.val (.int .u16 0),.val (.int .u16 0),.val (.int .u16 0),.val (.int .u16 0),.val (.int .u16 0),.val (.int .u16 0),.val (.int .u16 0),.val (.int .u16 0),.val (.int .u16 0),.val (.int .u16 0),.val (.int .u16 0),.val (.int .u16 0),.val (.int .u16 0),.val (.int .i64 0),.val (.int .i64 0),.val (.int .i64 0),.val (.int .i64 0),.val (.int .i64 0),.val (.int .i64 0),.val (.int .i64 0),.val (.int .i64 0),.val (.int .i64 0),.val (.int .i64 0),.val (.int .i64 0)]:=⟨_,rfl⟩;have dC:=hu.symm;have cV:=hv.symm;have iu:u0.length=6:=by rw[hu];rfl
  have iw:v0.length=28:=by rw[hv];rfl
  have jd:UD 6 u0=[]:=by rw[hu];rfl
  have fQ:UD 28 v0=[]:=by rw[hv];rfl
  refine qP 5 10 rfl ?_ ?_
  ·refine qP 5 11 rfl ?_ ?_
   ·refine qP 4 10 rfl ?_ ?_
    ·refine qP 4 11 rfl ?_ ?_
     ·refine qP 10 11 rfl ?_ ?_
      ·refine pI (.add (.add (.add (.add (.add .base 5 10) 5 11) 4 10) 4 11) 10 11) 5 [0,1,2,3,11,10,4] [6,7,8,9,12,13,14] [11,10,4] [12,13] [⟨0,false,[],[([11],[11]),([11,10],[11,10]),([11,10,4],[11,10,4])]⟩,⟨1,false,[],[([11],[11]),([11,10],[11,10])]⟩,⟨2,false,[],[([11],[11]),([11,10],[11,10])]⟩,⟨3,false,[],[([11],[11]),([11,10],[11,10])]⟩,⟨11,true,[11],[]⟩,⟨10,true,[11,10],[]⟩,⟨4,true,[11,10,4],[]⟩] [⟨6,false,[],[]⟩,⟨7,false,[],[]⟩,⟨8,false,[],[([12],[12])]⟩,⟨9,false,[],[([12],[12]),([12,13],[12,13])]⟩,⟨12,true,[12],[]⟩,⟨13,true,[12,13],[]⟩,⟨14,false,[12,13],[]⟩] (λD=>bif isDone 4 D then H++[.cells x.l 26,.cells v0 88,.cells u0 76,.cells x.l 26,.cells [.sl 1 [iv q] .exact] 22]else bif isDone 10 D then H++[.cells x.l 26,.cells v0 88,.cells u0 76]else bif isDone 11 D then H++[.cells x.l 26,.cells v0 88]else H++[.cells x.l 26]) (by kernel_rfl) (by kernel_rfl) (by kernel_rfl) (by kernel_rfl) (by kernel_rfl) (by first|rfl|simp only[seval]) ?_;(try simp only[seval,z1,dZ,nm,and_self,aT,dC,cV,bm,SO]);refine kZ _ _ (cI (n4 (x:=x) (ns:=[(q:Int)]) ⟨rfl,rfl⟩)) ?_;(try simp only[seval,aT,dC,cV,bm,SO,SD]);refine aK ((pJ 4 3 (λu v=>[.cells x.l 26,.cells v 88,.cells u 76,.cells x.l 26,.cells [.sl 1 [iv q] .exact] 22]) u0 v0 hx eG iq hm rfl rfl (λ_ _=>rfl) λD L mp N Bf eF bY b8 eA hB=> ?_));obtain⟨jv,jG,jw,jH⟩:=hB.gu 2 (λ_ _=>by simp) (λ_ _=>rfl) λ_ _ _=>rfl;obtain⟨jx,jI,jy,jJ⟩:=hB.gv 1 (λ_ _=>by simp) (λ_ _=>rfl) λ_ _ _=>rfl;refine⟨λDD=>bif isDone 13 DD then(Bf x.l (D.l mp))else bif isDone 12 DD then(Bf x.l v0)else Bf u0 v0,by first|rfl|simp only[seval],?_⟩;try simp only[seval,dC,cV,hB.l,hB.n0,hB.s0,hB.n1,hB.s1,bm,b8,iu,iw,jd,fQ,ai.av,jv,jG,jw,jH,jx,jI,jy,jJ]
       first|refine⟨kP x,eA,?_⟩|trace_state
       have hR:=rest (H.length+1,mp,D,(Bf x.l (D.l mp))) ⟨eF,bY,⟨_,by rw[hB.f]⟩,by rw[hB.f];exact aX H _ 0,by simp only[seval,dC,cV,hB.l,hB.n0,hB.s0,hB.n1,hB.s1,bm,b8,iu,iw,jd,fQ,ai.av,jv,jG,jw,jH,jx,jI,jy,jJ]⟩;exact kV (qv rfl (by simp only[seval];simp[bz,Wk.refl])) hR
      ·refine pI (.add (.add (.add (.add (.add .base 5 10) 5 11) 4 10) 4 11) 11 10) 5 [0,1,2,3,10,11,4] [6,7,8,9,12,13,14] [10,11,4] [12,13] [⟨0,false,[],[([10],[10]),([10,11],[10,11]),([10,11,4],[10,11,4])]⟩,⟨1,false,[],[([10],[10]),([10,11],[10,11])]⟩,⟨2,false,[],[([10],[10]),([10,11],[10,11])]⟩,⟨3,false,[],[([10],[10]),([10,11],[10,11])]⟩,⟨10,true,[10],[]⟩,⟨11,true,[10,11],[]⟩,⟨4,true,[10,11,4],[]⟩] [⟨6,false,[],[]⟩,⟨7,false,[],[]⟩,⟨8,false,[],[([12],[12])]⟩,⟨9,false,[],[([12],[12]),([12,13],[12,13])]⟩,⟨12,true,[12],[]⟩,⟨13,true,[12,13],[]⟩,⟨14,false,[12,13],[]⟩] (λD=>bif isDone 4 D then H++[.cells x.l 26,.cells u0 76,.cells v0 88,.cells x.l 26,.cells [.sl 1 [iv q] .exact] 22]else bif isDone 11 D then H++[.cells x.l 26,.cells u0 76,.cells v0 88]else bif isDone 10 D then H++[.cells x.l 26,.cells u0 76]else H++[.cells x.l 26]) (by kernel_rfl) (by kernel_rfl) (by kernel_rfl) (by kernel_rfl) (by kernel_rfl) (by first|rfl|simp only[seval]) ?_;(try simp only[seval,z1,dZ,nm,and_self,aT,dC,cV,bm,SO]);refine kZ _ _ (cI (n4 (x:=x) (ns:=[(q:Int)]) ⟨rfl,rfl⟩)) ?_;(try simp only[seval,aT,dC,cV,bm,SO,SD]);refine aK ((pJ 4 3 (λu v=>[.cells x.l 26,.cells u 76,.cells v 88,.cells x.l 26,.cells [.sl 1 [iv q] .exact] 22]) u0 v0 hx eG iq hm rfl rfl (λ_ _=>rfl) λD L mp N Bf eF bY b8 eA hB=> ?_));obtain⟨jv,jG,jw,jH⟩:=hB.gu 1 (λ_ _=>by simp) (λ_ _=>rfl) λ_ _ _=>rfl;obtain⟨jx,jI,jy,jJ⟩:=hB.gv 2 (λ_ _=>by simp) (λ_ _=>rfl) λ_ _ _=>rfl;refine⟨λDD=>bif isDone 13 DD then(Bf x.l (D.l mp))else bif isDone 12 DD then(Bf x.l v0)else Bf u0 v0,by first|rfl|simp only[seval],?_⟩;try simp only[seval,dC,cV,hB.l,hB.n0,hB.s0,hB.n1,hB.s1,bm,b8,iu,iw,jd,fQ,ai.av,jv,jG,jw,jH,jx,jI,jy,jJ]
       first|refine⟨kP x,eA,?_⟩|trace_state
       have hR:=rest (H.length+2,mp,D,(Bf x.l (D.l mp))) ⟨eF,bY,⟨_,by rw[hB.f]⟩,by rw[hB.f];exact aX H _ 0,by simp only[seval,dC,cV,hB.l,hB.n0,hB.s0,hB.n1,hB.s1,bm,b8,iu,iw,jd,fQ,ai.av,jv,jG,jw,jH,jx,jI,jy,jJ]⟩;exact kV (qv rfl (by simp only[seval];simp[bz,Wk.refl])) hR
     ·refine pI (.add (.add (.add (.add .base 5 10) 5 11) 4 10) 11 4) 5 [0,1,2,3,10,4,11] [6,7,8,9,12,13,14] [10,4,11] [12,13] [⟨0,false,[],[([10],[10]),([10,4],[10,4]),([10,4,11],[10,4,11])]⟩,⟨1,false,[],[([10],[10])]⟩,⟨2,false,[],[([10],[10])]⟩,⟨3,false,[],[([10],[10])]⟩,⟨10,true,[10],[]⟩,⟨4,true,[10,4],[]⟩,⟨11,true,[10,4,11],[]⟩] [⟨6,false,[],[]⟩,⟨7,false,[],[]⟩,⟨8,false,[],[([12],[12])]⟩,⟨9,false,[],[([12],[12]),([12,13],[12,13])]⟩,⟨12,true,[12],[]⟩,⟨13,true,[12,13],[]⟩,⟨14,false,[12,13],[]⟩] (λD=>bif isDone 11 D then H++[.cells x.l 26,.cells u0 76,.cells x.l 26,.cells [.sl 1 [iv q] .exact] 22,.cells v0 88]else bif isDone 4 D then H++[.cells x.l 26,.cells u0 76,.cells x.l 26,.cells [.sl 1 [iv q] .exact] 22]else bif isDone 10 D then H++[.cells x.l 26,.cells u0 76]else H++[.cells x.l 26]) (by kernel_rfl) (by kernel_rfl) (by kernel_rfl) (by kernel_rfl) (by kernel_rfl) (by first|rfl|simp only[seval]) ?_;(try simp only[seval,z1,dZ,nm,and_self,aT,dC,cV,bm,SO]);refine kZ _ _ (cI (n4 (x:=x) (ns:=[(q:Int)]) ⟨rfl,rfl⟩)) ?_;(try simp only[seval,aT,dC,cV,bm,SO,SD]);refine aK ((pJ 3 2 (λu v=>[.cells x.l 26,.cells u 76,.cells x.l 26,.cells [.sl 1 [iv q] .exact] 22,.cells v 88]) u0 v0 hx eG iq hm rfl rfl (λ_ _=>rfl) λD L mp N Bf eF bY b8 eA hB=> ?_));obtain⟨jv,jG,jw,jH⟩:=hB.gu 1 (λ_ _=>by simp) (λ_ _=>rfl) λ_ _ _=>rfl;obtain⟨jx,jI,jy,jJ⟩:=hB.gv 4 (λ_ _=>by simp) (λ_ _=>rfl) λ_ _ _=>rfl;refine⟨λDD=>bif isDone 13 DD then(Bf x.l (D.l mp))else bif isDone 12 DD then(Bf x.l v0)else Bf u0 v0,by first|rfl|simp only[seval],?_⟩;try simp only[seval,dC,cV,hB.l,hB.n0,hB.s0,hB.n1,hB.s1,bm,b8,iu,iw,jd,fQ,ai.av,jv,jG,jw,jH,jx,jI,jy,jJ]
      first|refine⟨kP x,eA,?_⟩|trace_state
      have hR:=rest (H.length+4,mp,D,(Bf x.l (D.l mp))) ⟨eF,bY,⟨_,by rw[hB.f]⟩,by rw[hB.f];exact aX H _ 0,by simp only[seval,dC,cV,hB.l,hB.n0,hB.s0,hB.n1,hB.s1,bm,b8,iu,iw,jd,fQ,ai.av,jv,jG,jw,jH,jx,jI,jy,jJ]⟩;exact kV (qv rfl (by simp only[seval];simp[bz,Wk.refl])) hR
    ·refine qP 4 11 rfl ?_ ?_
     ·refine pI (.add (.add (.add (.add .base 5 10) 5 11) 10 4) 4 11) 5 [0,1,2,3,11,4,10] [6,7,8,9,12,13,14] [11,4,10] [12,13] [⟨0,false,[],[([11],[11]),([11,4],[11,4]),([11,4,10],[11,4,10])]⟩,⟨1,false,[],[([11],[11])]⟩,⟨2,false,[],[([11],[11])]⟩,⟨3,false,[],[([11],[11])]⟩,⟨11,true,[11],[]⟩,⟨4,true,[11,4],[]⟩,⟨10,true,[11,4,10],[]⟩] [⟨6,false,[],[]⟩,⟨7,false,[],[]⟩,⟨8,false,[],[([12],[12])]⟩,⟨9,false,[],[([12],[12]),([12,13],[12,13])]⟩,⟨12,true,[12],[]⟩,⟨13,true,[12,13],[]⟩,⟨14,false,[12,13],[]⟩] (λD=>bif isDone 10 D then H++[.cells x.l 26,.cells v0 88,.cells x.l 26,.cells [.sl 1 [iv q] .exact] 22,.cells u0 76]else bif isDone 4 D then H++[.cells x.l 26,.cells v0 88,.cells x.l 26,.cells [.sl 1 [iv q] .exact] 22]else bif isDone 11 D then H++[.cells x.l 26,.cells v0 88]else H++[.cells x.l 26]) (by kernel_rfl) (by kernel_rfl) (by kernel_rfl) (by kernel_rfl) (by kernel_rfl) (by first|rfl|simp only[seval]) ?_;(try simp only[seval,z1,dZ,nm,and_self,aT,dC,cV,bm,SO]);refine kZ _ _ (cI (n4 (x:=x) (ns:=[(q:Int)]) ⟨rfl,rfl⟩)) ?_;(try simp only[seval,aT,dC,cV,bm,SO,SD]);refine aK ((pJ 3 2 (λu v=>[.cells x.l 26,.cells v 88,.cells x.l 26,.cells [.sl 1 [iv q] .exact] 22,.cells u 76]) u0 v0 hx eG iq hm rfl rfl (λ_ _=>rfl) λD L mp N Bf eF bY b8 eA hB=> ?_));obtain⟨jv,jG,jw,jH⟩:=hB.gu 4 (λ_ _=>by simp) (λ_ _=>rfl) λ_ _ _=>rfl;obtain⟨jx,jI,jy,jJ⟩:=hB.gv 1 (λ_ _=>by simp) (λ_ _=>rfl) λ_ _ _=>rfl;refine⟨λDD=>bif isDone 13 DD then(Bf x.l (D.l mp))else bif isDone 12 DD then(Bf x.l v0)else Bf u0 v0,by first|rfl|simp only[seval],?_⟩;try simp only[seval,dC,cV,hB.l,hB.n0,hB.s0,hB.n1,hB.s1,bm,b8,iu,iw,jd,fQ,ai.av,jv,jG,jw,jH,jx,jI,jy,jJ]
      first|refine⟨kP x,eA,?_⟩|trace_state
      have hR:=rest (H.length+1,mp,D,(Bf x.l (D.l mp))) ⟨eF,bY,⟨_,by rw[hB.f]⟩,by rw[hB.f];exact aX H _ 0,by simp only[seval,dC,cV,hB.l,hB.n0,hB.s0,hB.n1,hB.s1,bm,b8,iu,iw,jd,fQ,ai.av,jv,jG,jw,jH,jx,jI,jy,jJ]⟩;exact kV (qv rfl (by simp only[seval];simp[bz,Wk.refl])) hR
     ·refine qP 10 11 rfl ?_ ?_
      ·refine pI (.add (.add (.add (.add (.add .base 5 10) 5 11) 10 4) 11 4) 10 11) 5 [0,1,2,3,4,11,10] [6,7,8,9,12,13,14] [4,11,10] [12,13] [⟨0,false,[],[([4],[4]),([4,11],[4,11]),([4,11,10],[4,11,10])]⟩,⟨1,false,[],[]⟩,⟨2,false,[],[]⟩,⟨3,false,[],[]⟩,⟨4,true,[4],[]⟩,⟨11,true,[4,11],[]⟩,⟨10,true,[4,11,10],[]⟩] [⟨6,false,[],[]⟩,⟨7,false,[],[]⟩,⟨8,false,[],[([12],[12])]⟩,⟨9,false,[],[([12],[12]),([12,13],[12,13])]⟩,⟨12,true,[12],[]⟩,⟨13,true,[12,13],[]⟩,⟨14,false,[12,13],[]⟩] (λD=>bif isDone 10 D then H++[.cells x.l 26,.cells x.l 26,.cells [.sl 1 [iv q] .exact] 22,.cells v0 88,.cells u0 76]else bif isDone 11 D then H++[.cells x.l 26,.cells x.l 26,.cells [.sl 1 [iv q] .exact] 22,.cells v0 88]else bif isDone 4 D then H++[.cells x.l 26,.cells x.l 26,.cells [.sl 1 [iv q] .exact] 22]else H++[.cells x.l 26]) (by kernel_rfl) (by kernel_rfl) (by kernel_rfl) (by kernel_rfl) (by kernel_rfl) (by first|rfl|simp only[seval]) ?_;(try simp only[seval,z1,dZ,nm,and_self,aT,dC,cV,bm,SO]);refine kZ _ _ (cI (n4 (x:=x) (ns:=[(q:Int)]) ⟨rfl,rfl⟩)) ?_;(try simp only[seval,aT,dC,cV,bm,SO,SD]);refine aK ((pJ 2 1 (λu v=>[.cells x.l 26,.cells x.l 26,.cells [.sl 1 [iv q] .exact] 22,.cells v 88,.cells u 76]) u0 v0 hx eG iq hm rfl rfl (λ_ _=>rfl) λD L mp N Bf eF bY b8 eA hB=> ?_));obtain⟨jv,jG,jw,jH⟩:=hB.gu 4 (λ_ _=>by simp) (λ_ _=>rfl) λ_ _ _=>rfl;obtain⟨jx,jI,jy,jJ⟩:=hB.gv 3 (λ_ _=>by simp) (λ_ _=>rfl) λ_ _ _=>rfl;refine⟨λDD=>bif isDone 13 DD then(Bf x.l (D.l mp))else bif isDone 12 DD then(Bf x.l v0)else Bf u0 v0,by first|rfl|simp only[seval],?_⟩;try simp only[seval,dC,cV,hB.l,hB.n0,hB.s0,hB.n1,hB.s1,bm,b8,iu,iw,jd,fQ,ai.av,jv,jG,jw,jH,jx,jI,jy,jJ]
       first|refine⟨kP x,eA,?_⟩|trace_state
       have hR:=rest (H.length+3,mp,D,(Bf x.l (D.l mp))) ⟨eF,bY,⟨_,by rw[hB.f]⟩,by rw[hB.f];exact aX H _ 0,by simp only[seval,dC,cV,hB.l,hB.n0,hB.s0,hB.n1,hB.s1,bm,b8,iu,iw,jd,fQ,ai.av,jv,jG,jw,jH,jx,jI,jy,jJ]⟩;exact kV (qv rfl (by simp only[seval];simp[bz,Wk.refl])) hR
      ·refine pI (.add (.add (.add (.add (.add .base 5 10) 5 11) 10 4) 11 4) 11 10) 5 [0,1,2,3,4,10,11] [6,7,8,9,12,13,14] [4,10,11] [12,13] [⟨0,false,[],[([4],[4]),([4,10],[4,10]),([4,10,11],[4,10,11])]⟩,⟨1,false,[],[]⟩,⟨2,false,[],[]⟩,⟨3,false,[],[]⟩,⟨4,true,[4],[]⟩,⟨10,true,[4,10],[]⟩,⟨11,true,[4,10,11],[]⟩] [⟨6,false,[],[]⟩,⟨7,false,[],[]⟩,⟨8,false,[],[([12],[12])]⟩,⟨9,false,[],[([12],[12]),([12,13],[12,13])]⟩,⟨12,true,[12],[]⟩,⟨13,true,[12,13],[]⟩,⟨14,false,[12,13],[]⟩] (λD=>bif isDone 11 D then H++[.cells x.l 26,.cells x.l 26,.cells [.sl 1 [iv q] .exact] 22,.cells u0 76,.cells v0 88]else bif isDone 10 D then H++[.cells x.l 26,.cells x.l 26,.cells [.sl 1 [iv q] .exact] 22,.cells u0 76]else bif isDone 4 D then H++[.cells x.l 26,.cells x.l 26,.cells [.sl 1 [iv q] .exact] 22]else H++[.cells x.l 26]) (by kernel_rfl) (by kernel_rfl) (by kernel_rfl) (by kernel_rfl) (by kernel_rfl) (by first|rfl|simp only[seval]) ?_;(try simp only[seval,z1,dZ,nm,and_self,aT,dC,cV,bm,SO]);refine kZ _ _ (cI (n4 (x:=x) (ns:=[(q:Int)]) ⟨rfl,rfl⟩)) ?_;(try simp only[seval,aT,dC,cV,bm,SO,SD]);refine aK ((pJ 2 1 (λu v=>[.cells x.l 26,.cells x.l 26,.cells [.sl 1 [iv q] .exact] 22,.cells u 76,.cells v 88]) u0 v0 hx eG iq hm rfl rfl (λ_ _=>rfl) λD L mp N Bf eF bY b8 eA hB=> ?_));obtain⟨jv,jG,jw,jH⟩:=hB.gu 3 (λ_ _=>by simp) (λ_ _=>rfl) λ_ _ _=>rfl;obtain⟨jx,jI,jy,jJ⟩:=hB.gv 4 (λ_ _=>by simp) (λ_ _=>rfl) λ_ _ _=>rfl;refine⟨λDD=>bif isDone 13 DD then(Bf x.l (D.l mp))else bif isDone 12 DD then(Bf x.l v0)else Bf u0 v0,by first|rfl|simp only[seval],?_⟩;try simp only[seval,dC,cV,hB.l,hB.n0,hB.s0,hB.n1,hB.s1,bm,b8,iu,iw,jd,fQ,ai.av,jv,jG,jw,jH,jx,jI,jy,jJ]
       first|refine⟨kP x,eA,?_⟩|trace_state
       have hR:=rest (H.length+4,mp,D,(Bf x.l (D.l mp))) ⟨eF,bY,⟨_,by rw[hB.f]⟩,by rw[hB.f];exact aX H _ 0,by simp only[seval,dC,cV,hB.l,hB.n0,hB.s0,hB.n1,hB.s1,bm,b8,iu,iw,jd,fQ,ai.av,jv,jG,jw,jH,jx,jI,jy,jJ]⟩;exact kV (qv rfl (by simp only[seval];simp[bz,Wk.refl])) hR
   ·refine qP 4 10 rfl ?_ ?_
    ·refine pI (.add (.add (.add .base 5 10) 11 5) 4 10) 5 [0,1,2,3,10,4] [6,7,8,9,11,12,13,14] [10,4] [11,12,13] [⟨0,false,[],[([10],[10]),([10,4],[10,4])]⟩,⟨1,false,[],[([10],[10])]⟩,⟨2,false,[],[([10],[10])]⟩,⟨3,false,[],[([10],[10])]⟩,⟨10,true,[10],[]⟩,⟨4,true,[10,4],[]⟩] [⟨6,false,[],[([11],[11])]⟩,⟨7,false,[],[([11],[11])]⟩,⟨8,false,[],[([11],[11]),([11,12],[11,12])]⟩,⟨9,false,[],[([11],[11]),([11,12],[11,12]),([11,12,13],[11,12,13])]⟩,⟨11,true,[11],[]⟩,⟨12,true,[11,12],[]⟩,⟨13,true,[11,12,13],[]⟩,⟨14,false,[11,12,13],[]⟩] (λD=>bif isDone 4 D then H++[.cells x.l 26,.cells u0 76,.cells x.l 26,.cells [.sl 1 [iv q] .exact] 22]else bif isDone 10 D then H++[.cells x.l 26,.cells u0 76]else H++[.cells x.l 26]) (by kernel_rfl) (by kernel_rfl) (by kernel_rfl) (by kernel_rfl) (by kernel_rfl) (by first|rfl|simp only[seval]) ?_;(try simp only[seval,z1,dZ,nm,and_self,aT,dC,cV,bm,SO]);refine kZ _ _ (cI (n4 (x:=x) (ns:=[(q:Int)]) ⟨rfl,rfl⟩)) ?_;(try simp only[seval,aT,dC,cV,bm,SO,SD]);refine aK ((pJ 3 2 (λu _=>[.cells x.l 26,.cells u 76,.cells x.l 26,.cells [.sl 1 [iv q] .exact] 22]) u0 v0 hx eG iq hm rfl rfl (λ_ _=>rfl) λD L mp N Bf eF bY b8 eA hB=> ?_));obtain⟨jv,jG,jw,jH⟩:=hB.gu 1 (λ_ _=>by simp) (λ_ _=>rfl) λ_ _ _=>rfl;refine⟨λDD=>bif isDone 13 DD then(Bf x.l v0++[.cells (D.l mp) 88])else bif isDone 12 DD then(Bf x.l v0++[.cells v0 88])else bif isDone 11 DD then(Bf u0 v0++[.cells v0 88])else Bf u0 v0,by first|rfl|simp only[seval],?_⟩;try simp only[seval,dC,cV,hB.l,hB.n0,hB.s0,hB.n1,hB.s1,bm,b8,iu,iw,jd,fQ,ai.av,jv,jG,jw,jH]
     first|refine⟨kP x,eA,?_⟩|trace_state
     have hR:=rest (N,mp,D,(Bf x.l v0++[.cells (D.l mp) 88])) ⟨eF,bY,⟨_,by rw[hB.f]<;>rw[SD]⟩,by rw[hB.f];rw[SD];exact aX H _ 0,by simp only[seval,dC,cV,hB.l,hB.n0,hB.s0,hB.n1,hB.s1,bm,b8,iu,iw,jd,fQ,ai.av,jv,jG,jw,jH]⟩;exact kV (qv rfl (by simp only[seval];simp[bz,Wk.refl])) hR
    ·refine pI (.add (.add (.add .base 5 10) 11 5) 10 4) 5 [0,1,2,3,4,10] [6,7,8,9,11,12,13,14] [4,10] [11,12,13] [⟨0,false,[],[([4],[4]),([4,10],[4,10])]⟩,⟨1,false,[],[]⟩,⟨2,false,[],[]⟩,⟨3,false,[],[]⟩,⟨4,true,[4],[]⟩,⟨10,true,[4,10],[]⟩] [⟨6,false,[],[([11],[11])]⟩,⟨7,false,[],[([11],[11])]⟩,⟨8,false,[],[([11],[11]),([11,12],[11,12])]⟩,⟨9,false,[],[([11],[11]),([11,12],[11,12]),([11,12,13],[11,12,13])]⟩,⟨11,true,[11],[]⟩,⟨12,true,[11,12],[]⟩,⟨13,true,[11,12,13],[]⟩,⟨14,false,[11,12,13],[]⟩] (λD=>bif isDone 10 D then H++[.cells x.l 26,.cells x.l 26,.cells [.sl 1 [iv q] .exact] 22,.cells u0 76]else bif isDone 4 D then H++[.cells x.l 26,.cells x.l 26,.cells [.sl 1 [iv q] .exact] 22]else H++[.cells x.l 26]) (by kernel_rfl) (by kernel_rfl) (by kernel_rfl) (by kernel_rfl) (by kernel_rfl) (by first|rfl|simp only[seval]) ?_;(try simp only[seval,z1,dZ,nm,and_self,aT,dC,cV,bm,SO]);refine kZ _ _ (cI (n4 (x:=x) (ns:=[(q:Int)]) ⟨rfl,rfl⟩)) ?_;(try simp only[seval,aT,dC,cV,bm,SO,SD]);refine aK ((pJ 2 1 (λu _=>[.cells x.l 26,.cells x.l 26,.cells [.sl 1 [iv q] .exact] 22,.cells u 76]) u0 v0 hx eG iq hm rfl rfl (λ_ _=>rfl) λD L mp N Bf eF bY b8 eA hB=> ?_));obtain⟨jv,jG,jw,jH⟩:=hB.gu 3 (λ_ _=>by simp) (λ_ _=>rfl) λ_ _ _=>rfl;refine⟨λDD=>bif isDone 13 DD then(Bf x.l v0++[.cells (D.l mp) 88])else bif isDone 12 DD then(Bf x.l v0++[.cells v0 88])else bif isDone 11 DD then(Bf u0 v0++[.cells v0 88])else Bf u0 v0,by first|rfl|simp only[seval],?_⟩;try simp only[seval,dC,cV,hB.l,hB.n0,hB.s0,hB.n1,hB.s1,bm,b8,iu,iw,jd,fQ,ai.av,jv,jG,jw,jH]
     first|refine⟨kP x,eA,?_⟩|trace_state
     have hR:=rest (N,mp,D,(Bf x.l v0++[.cells (D.l mp) 88])) ⟨eF,bY,⟨_,by rw[hB.f]<;>rw[SD]⟩,by rw[hB.f];rw[SD];exact aX H _ 0,by simp only[seval,dC,cV,hB.l,hB.n0,hB.s0,hB.n1,hB.s1,bm,b8,iu,iw,jd,fQ,ai.av,jv,jG,jw,jH]⟩;exact kV (qv rfl (by simp only[seval];simp[bz,Wk.refl])) hR
  ·refine qP 5 11 rfl ?_ ?_
   ·refine qP 4 11 rfl ?_ ?_
    ·refine pI (.add (.add (.add .base 10 5) 5 11) 4 11) 5 [0,1,2,3,11,4] [6,7,8,9,10,12,13,14] [11,4] [10,12,13] [⟨0,false,[],[([11],[11]),([11,4],[11,4])]⟩,⟨1,false,[],[([11],[11])]⟩,⟨2,false,[],[([11],[11])]⟩,⟨3,false,[],[([11],[11])]⟩,⟨11,true,[11],[]⟩,⟨4,true,[11,4],[]⟩] [⟨6,false,[],[([10],[10])]⟩,⟨7,false,[],[([10],[10])]⟩,⟨8,false,[],[([10],[10]),([10,12],[10,12])]⟩,⟨9,false,[],[([10],[10]),([10,12],[10,12]),([10,12,13],[10,12,13])]⟩,⟨10,true,[10],[]⟩,⟨12,true,[10,12],[]⟩,⟨13,true,[10,12,13],[]⟩,⟨14,false,[10,12,13],[]⟩] (λD=>bif isDone 4 D then H++[.cells x.l 26,.cells v0 88,.cells x.l 26,.cells [.sl 1 [iv q] .exact] 22]else bif isDone 11 D then H++[.cells x.l 26,.cells v0 88]else H++[.cells x.l 26]) (by kernel_rfl) (by kernel_rfl) (by kernel_rfl) (by kernel_rfl) (by kernel_rfl) (by first|rfl|simp only[seval]) ?_;(try simp only[seval,z1,dZ,nm,and_self,aT,dC,cV,bm,SO]);refine kZ _ _ (cI (n4 (x:=x) (ns:=[(q:Int)]) ⟨rfl,rfl⟩)) ?_;(try simp only[seval,aT,dC,cV,bm,SO,SD]);refine aK ((pJ 3 2 (λ_ v=>[.cells x.l 26,.cells v 88,.cells x.l 26,.cells [.sl 1 [iv q] .exact] 22]) u0 v0 hx eG iq hm rfl rfl (λ_ _=>rfl) λD L mp N Bf eF bY b8 eA hB=> ?_));obtain⟨jx,jI,jy,jJ⟩:=hB.gv 1 (λ_ _=>by simp) (λ_ _=>rfl) λ_ _ _=>rfl;refine⟨λDD=>bif isDone 13 DD then(Bf u0 (D.l mp)++[.cells x.l 76])else bif isDone 12 DD then(Bf u0 v0++[.cells x.l 76])else bif isDone 10 DD then(Bf u0 v0++[.cells u0 76])else Bf u0 v0,by first|rfl|simp only[seval],?_⟩;try simp only[seval,dC,cV,hB.l,hB.n0,hB.s0,hB.n1,hB.s1,bm,b8,iu,iw,jd,fQ,ai.av,jx,jI,jy,jJ]
     first|refine⟨kP x,eA,?_⟩|trace_state
     have hR:=rest (H.length+1,mp,D,(Bf u0 (D.l mp)++[.cells x.l 76])) ⟨eF,bY,⟨_,by rw[hB.f]<;>rw[SD]⟩,by rw[hB.f];rw[SD];exact aX H _ 0,by simp only[seval,dC,cV,hB.l,hB.n0,hB.s0,hB.n1,hB.s1,bm,b8,iu,iw,jd,fQ,ai.av,jx,jI,jy,jJ]⟩;exact kV (qv rfl (by simp only[seval];simp[bz,Wk.refl])) hR
    ·refine pI (.add (.add (.add .base 10 5) 5 11) 11 4) 5 [0,1,2,3,4,11] [6,7,8,9,10,12,13,14] [4,11] [10,12,13] [⟨0,false,[],[([4],[4]),([4,11],[4,11])]⟩,⟨1,false,[],[]⟩,⟨2,false,[],[]⟩,⟨3,false,[],[]⟩,⟨4,true,[4],[]⟩,⟨11,true,[4,11],[]⟩] [⟨6,false,[],[([10],[10])]⟩,⟨7,false,[],[([10],[10])]⟩,⟨8,false,[],[([10],[10]),([10,12],[10,12])]⟩,⟨9,false,[],[([10],[10]),([10,12],[10,12]),([10,12,13],[10,12,13])]⟩,⟨10,true,[10],[]⟩,⟨12,true,[10,12],[]⟩,⟨13,true,[10,12,13],[]⟩,⟨14,false,[10,12,13],[]⟩] (λD=>bif isDone 11 D then H++[.cells x.l 26,.cells x.l 26,.cells [.sl 1 [iv q] .exact] 22,.cells v0 88]else bif isDone 4 D then H++[.cells x.l 26,.cells x.l 26,.cells [.sl 1 [iv q] .exact] 22]else H++[.cells x.l 26]) (by kernel_rfl) (by kernel_rfl) (by kernel_rfl) (by kernel_rfl) (by kernel_rfl) (by first|rfl|simp only[seval]) ?_;(try simp only[seval,z1,dZ,nm,and_self,aT,dC,cV,bm,SO]);refine kZ _ _ (cI (n4 (x:=x) (ns:=[(q:Int)]) ⟨rfl,rfl⟩)) ?_;(try simp only[seval,aT,dC,cV,bm,SO,SD]);refine aK ((pJ 2 1 (λ_ v=>[.cells x.l 26,.cells x.l 26,.cells [.sl 1 [iv q] .exact] 22,.cells v 88]) u0 v0 hx eG iq hm rfl rfl (λ_ _=>rfl) λD L mp N Bf eF bY b8 eA hB=> ?_));obtain⟨jx,jI,jy,jJ⟩:=hB.gv 3 (λ_ _=>by simp) (λ_ _=>rfl) λ_ _ _=>rfl;refine⟨λDD=>bif isDone 13 DD then(Bf u0 (D.l mp)++[.cells x.l 76])else bif isDone 12 DD then(Bf u0 v0++[.cells x.l 76])else bif isDone 10 DD then(Bf u0 v0++[.cells u0 76])else Bf u0 v0,by first|rfl|simp only[seval],?_⟩;try simp only[seval,dC,cV,hB.l,hB.n0,hB.s0,hB.n1,hB.s1,bm,b8,iu,iw,jd,fQ,ai.av,jx,jI,jy,jJ]
     first|refine⟨kP x,eA,?_⟩|trace_state
     have hR:=rest (H.length+3,mp,D,(Bf u0 (D.l mp)++[.cells x.l 76])) ⟨eF,bY,⟨_,by rw[hB.f]<;>rw[SD]⟩,by rw[hB.f];rw[SD];exact aX H _ 0,by simp only[seval,dC,cV,hB.l,hB.n0,hB.s0,hB.n1,hB.s1,bm,b8,iu,iw,jd,fQ,ai.av,jx,jI,jy,jJ]⟩;exact kV (qv rfl (by simp only[seval];simp[bz,Wk.refl])) hR
   ·refine qP 10 11 rfl ?_ ?_
    ·refine pI (.add (.add (.add .base 10 5) 11 5) 10 11) 5 [0,1,2,3,4] [6,7,8,9,11,10,12,13,14] [4] [11,10,12,13] [⟨0,false,[],[([4],[4])]⟩,⟨1,false,[],[]⟩,⟨2,false,[],[]⟩,⟨3,false,[],[]⟩,⟨4,true,[4],[]⟩] [⟨6,false,[],[([11],[11]),([11,10],[11,10])]⟩,⟨7,false,[],[([11],[11]),([11,10],[11,10])]⟩,⟨8,false,[],[([11],[11]),([11,10],[11,10]),([11,10,12],[11,10,12])]⟩,⟨9,false,[],[([11],[11]),([11,10],[11,10]),([11,10,12],[11,10,12]),([11,10,12,13],[11,10,12,13])]⟩,⟨11,true,[11],[]⟩,⟨10,true,[11,10],[]⟩,⟨12,true,[11,10,12],[]⟩,⟨13,true,[11,10,12,13],[]⟩,⟨14,false,[11,10,12,13],[]⟩] (λD=>bif isDone 4 D then H++[.cells x.l 26,.cells x.l 26,.cells [.sl 1 [iv q] .exact] 22]else H++[.cells x.l 26]) (by kernel_rfl) (by kernel_rfl) (by kernel_rfl) (by kernel_rfl) (by kernel_rfl) (by first|rfl|simp only[seval]) ?_;(try simp only[seval,z1,dZ,nm,and_self,aT,dC,cV,bm,SO]);refine kZ _ _ (cI (n4 (x:=x) (ns:=[(q:Int)]) ⟨rfl,rfl⟩)) ?_;(try simp only[seval,aT,dC,cV,bm,SO,SD]);refine aK ((pJ 2 1 (λ_ _=>[.cells x.l 26,.cells x.l 26,.cells [.sl 1 [iv q] .exact] 22]) u0 v0 hx eG iq hm rfl rfl (λ_ _=>rfl) λD L mp N Bf eF bY b8 eA hB=> ?_));refine⟨λDD=>bif isDone 13 DD then(Bf u0 v0++[.cells (D.l mp) 88,.cells x.l 76])else bif isDone 12 DD then(Bf u0 v0++[.cells v0 88,.cells x.l 76])else bif isDone 10 DD then(Bf u0 v0++[.cells v0 88,.cells u0 76])else bif isDone 11 DD then(Bf u0 v0++[.cells v0 88])else Bf u0 v0,by first|rfl|simp only[seval],?_⟩;try simp only[seval,dC,cV,hB.l,hB.n0,hB.s0,hB.n1,hB.s1,bm,b8,iu,iw,jd,fQ,ai.av]
     first|refine⟨kP x,eA,?_⟩|trace_state
     have hR:=rest (N,mp,D,(Bf u0 v0++[.cells (D.l mp) 88,.cells x.l 76])) ⟨eF,bY,⟨_,by rw[hB.f]<;>rw[SD]⟩,by rw[hB.f];rw[SD];exact aX H _ 0,by simp only[seval,dC,cV,hB.l,hB.n0,hB.s0,hB.n1,hB.s1,bm,b8,iu,iw,jd,fQ,ai.av]⟩;exact kV (qv rfl (by simp only[seval];simp[bz,Wk.refl])) hR
    ·refine pI (.add (.add (.add .base 10 5) 11 5) 11 10) 5 [0,1,2,3,4] [6,7,8,9,10,11,12,13,14] [4] [10,11,12,13] [⟨0,false,[],[([4],[4])]⟩,⟨1,false,[],[]⟩,⟨2,false,[],[]⟩,⟨3,false,[],[]⟩,⟨4,true,[4],[]⟩] [⟨6,false,[],[([10],[10]),([10,11],[10,11])]⟩,⟨7,false,[],[([10],[10]),([10,11],[10,11])]⟩,⟨8,false,[],[([10],[10]),([10,11],[10,11]),([10,11,12],[10,11,12])]⟩,⟨9,false,[],[([10],[10]),([10,11],[10,11]),([10,11,12],[10,11,12]),([10,11,12,13],[10,11,12,13])]⟩,⟨10,true,[10],[]⟩,⟨11,true,[10,11],[]⟩,⟨12,true,[10,11,12],[]⟩,⟨13,true,[10,11,12,13],[]⟩,⟨14,false,[10,11,12,13],[]⟩] (λD=>bif isDone 4 D then H++[.cells x.l 26,.cells x.l 26,.cells [.sl 1 [iv q] .exact] 22]else H++[.cells x.l 26]) (by kernel_rfl) (by kernel_rfl) (by kernel_rfl) (by kernel_rfl) (by kernel_rfl) (by first|rfl|simp only[seval]) ?_;(try simp only[seval,z1,dZ,nm,and_self,aT,dC,cV,bm,SO]);refine kZ _ _ (cI (n4 (x:=x) (ns:=[(q:Int)]) ⟨rfl,rfl⟩)) ?_;(try simp only[seval,aT,dC,cV,bm,SO,SD]);refine aK ((pJ 2 1 (λ_ _=>[.cells x.l 26,.cells x.l 26,.cells [.sl 1 [iv q] .exact] 22]) u0 v0 hx eG iq hm rfl rfl (λ_ _=>rfl) λD L mp N Bf eF bY b8 eA hB=> ?_));refine⟨λDD=>bif isDone 13 DD then(Bf u0 v0++[.cells x.l 76,.cells (D.l mp) 88])else bif isDone 12 DD then(Bf u0 v0++[.cells x.l 76,.cells v0 88])else bif isDone 11 DD then(Bf u0 v0++[.cells u0 76,.cells v0 88])else bif isDone 10 DD then(Bf u0 v0++[.cells u0 76])else Bf u0 v0,by first|rfl|simp only[seval],?_⟩;try simp only[seval,dC,cV,hB.l,hB.n0,hB.s0,hB.n1,hB.s1,bm,b8,iu,iw,jd,fQ,ai.av]
     first|refine⟨kP x,eA,?_⟩|trace_state
     have hR:=rest (N+1,mp,D,(Bf u0 v0++[.cells x.l 76,.cells (D.l mp) 88])) ⟨eF,bY,⟨_,by rw[hB.f]<;>rw[SD]⟩,by rw[hB.f];rw[SD];exact aX H _ 0,by simp only[seval,dC,cV,hB.l,hB.n0,hB.s0,hB.n1,hB.s1,bm,b8,iu,iw,jd,fQ,ai.av]⟩;exact kV (qv rfl (by simp only[seval];simp[bz,Wk.refl])) hR
section
variable {lv:Bool}{H:List aa}{k kp:AV->List aa->Prop}
theorem ahX{x:ai}{q:Nat}(hx:x.Ok)(hq:q<x.pieces.length)(hm:H[0]?=some .main)(hk:∀D,eU x 1 D->(D.has=false->k (.aJ [ba [],iv 11]) H)/\(D.has=true->k (.aJ [ba (dM (D.ay.getD q 0) x.first 16),iv 0]) H)):bf true SC 34 H [x.av,iv q] k kp:=by
 refine bH (rs:=[.tmp 4,.tmp 5]) (nt:=29) ZP λhH hA=> ?_;simp only[br,SW,ai.av];have hp:=hx.am;have mh:=hx.c9;have bS:x.l=[iv x.first,iv x.hours,iv x.am,dY x.seen,bp x.pieces,bp x.aB]:=rfl;have aT:∀(L:List aa),(H++L)[H.length]?=L[0]?:=λL=>aX H L 0;have bm:x.l.length=6:=rfl;refine aj ?_;(repeat apply gW);refine On [4,10,11,12,13] [0,1,2,3,4,5,6,7,8,9,10,11,12,13,14] F.mixed (by kernel_rfl) ?_;refine Pk (α:=Nat×Nat×Kn×List aa) (ok:=λy=>eU x 1 y.2.2.1/\bI y.2.2.1/\(∃L,y.2.2.2=H++L)/\y.2.2.2[H.length]?=some (.cells x.l 26)/\y.2.2.2[y.1]?=some (.cells (y.2.2.1.l y.2.1) 88)) (λy=>⟨[(7,.op y.1 0),(8,iv (ew y.2.2.1)),(1,iv q),(2,.op H.length 0)],y.2.2.2⟩) (λy hy=> ?_) (λrest=> ?_)
 ·obtain⟨i,mp,D,G⟩:=y;obtain⟨eF,bY,⟨L0,hG⟩,EP,BS⟩:=hy;dsimp only at hG EP BS;obtain⟨gO,b_⟩:=hk D eF;have eY:∀(ns:List Int)(e:End)(m:Int),k (.aJ [ba ns,iv m]) H->cw H.length G (.aJ [.sl ns.length (ns.map iv) e,iv m]) k:=λns e m h=>by
   rw[hG];exact jr hH (DC (iP _ _ _) (Wk.refl _)) (by simp[je,eI,ba,tp]) h
  (try simp only[seval]);cases gg:D.has with
  |false=>
   have hE:ew D=11:=(by rw[ew,gg];rfl);refine ak ?_;simp only[seval,hE,show ((11:Int)!=0)=true from rfl];refine aD ?_;refine aj ?_;refine aZ ?_;exact eY [] .exact 11 (gO gg)
  |true=>
   have hE:ew D=0:=(by rw[ew,gg];rfl);have b_:=b_ gg;obtain⟨u,hu⟩:=bX (xs:=D.ay) (i:=q) (by rw[bY.ay];omega);have lu:=bY.mu _ (Tf hu);have kG:D.ay.getD q 0=u:=(by rw[SE,hu];rfl);rw[kG]at b_;have b3:(0<=(q:Int)/\(q:Int)<4)=True:=(by simp;omega);have xz:=Kn.Gy (mp:=mp) hu;have iX:=hx.first;refine ak ?_;simp only[seval,hE,show ((0:Int)!=0)=false from rfl];refine aD ?_;refine aN ?_;refine dT 6 ?_;simp only[seval,EP,BS,b3,xz,bS];refine aK ((EB lu (by omega) ?_));(try simp only[seval]);refine aZ ?_;exact eY _ _ 0 b_
 ·exact aa3 (.inr ⟨rfl,rfl⟩) hx hq hm rest
theorem ah0{x:ai}{q:Nat}(hx:x.Ok)(hq:q<x.pieces.length)(hm:H[0]?=some .main)(hk:∀D,eU x 1 D->(D.has=false->k (.aJ [ba [],iv 11]) H)/\(D.has=true->k (.aJ [ba (dM (D.hours.getD q 0) 0 16),iv 0]) H)):bf true SC 39 H [x.av,iv q] k kp:=by
 refine bH (rs:=[.tmp 4,.tmp 5]) (nt:=27) ZO λhH hA=> ?_;simp only[br,SW,ai.av];have hp:=hx.am;have mh:=hx.c9;have aT:∀(L:List aa),(H++L)[H.length]?=L[0]?:=λL=>aX H L 0;have bm:x.l.length=6:=rfl;refine aj ?_;(repeat apply gW);refine On [4,10,11,12,13] [0,1,2,3,4,5,6,7,8,9,10,11,12,13,14] F.mixed (by kernel_rfl) ?_;refine Pk (α:=Nat×Nat×Kn×List aa) (ok:=λy=>eU x 1 y.2.2.1/\bI y.2.2.1/\(∃L,y.2.2.2=H++L)/\y.2.2.2[H.length]?=some (.cells x.l 26)/\y.2.2.2[y.1]?=some (.cells (y.2.2.1.l y.2.1) 88)) (λy=>⟨[(7,.op y.1 0),(8,iv (ew y.2.2.1)),(1,iv q),(2,.op H.length 0)],y.2.2.2⟩) (λy hy=> ?_) (λrest=> ?_)
 ·obtain⟨i,mp,D,G⟩:=y;obtain⟨eF,bY,⟨L0,hG⟩,EP,BS⟩:=hy;dsimp only at hG EP BS;obtain⟨gO,b_⟩:=hk D eF;have eY:∀(ns:List Int)(e:End)(m:Int),k (.aJ [ba ns,iv m]) H->cw H.length G (.aJ [.sl ns.length (ns.map iv) e,iv m]) k:=λns e m h=>by
   rw[hG];exact jr hH (DC (iP _ _ _) (Wk.refl _)) (by simp[je,eI,ba,tp]) h
  (try simp only[seval]);cases gg:D.has with
  |false=>
   have hE:ew D=11:=(by rw[ew,gg];rfl);refine ak ?_;simp only[seval,hE,show ((11:Int)!=0)=true from rfl];refine aD ?_;refine aj ?_;refine aZ ?_;exact eY [] .exact 11 (gO gg)
  |true=>
   have hE:ew D=0:=(by rw[ew,gg];rfl);have b_:=b_ gg;obtain⟨u,hu⟩:=bX (xs:=D.hours) (i:=q) (by rw[bY.hours];omega);have lu:=bY.l_ _ (Tf hu);have kG:D.hours.getD q 0=u:=(by rw[SE,hu];rfl);rw[kG]at b_;have b3:(0<=(q:Int)/\(q:Int)<4)=True:=(by simp;omega);have xz:=Kn.FF bY (mp:=mp) hu;have iX:=hx.first;refine ak ?_;simp only[seval,hE,show ((0:Int)!=0)=false from rfl];refine aD ?_;refine aN ?_;refine ak ?_;simp only[seval,BS,b3,xz];refine aK ((EB lu (by omega) ?_));(try simp only[seval]);refine aZ ?_;exact eY _ _ 0 b_
 ·exact aa3 (.inl ⟨rfl,rfl⟩) hx hq hm rest
end
theorem alU{x:ai}{deep:Int}{D:Kn}(hx:x.Ok)(h:eU x deep D)(hh:D.has=true):jn x D.first:=by
 obtain⟨p,js,h1,h2,h3,_⟩:=h;have hp:=hx.am;have hj:∀j∈js,j<x.am.toNat+1:=λj hj=>by have:=Tu.1 (h2.mem_iff.1 hj);omega
 obtain⟨j,a,t,l,b,c,d⟩:=aap hx h3 (h2.nodup_iff.2 XU) hj hh;rw[c];exact Qz (deep:=deep) (j:=j) hx (by have:=hj j a;omega) (by rw[b];simp)
namespace Tk
def sF (x:ai)(t:List Int)(i:Nat):List Int:=(SZ i).map λp=>t.getD (4+p) 0+x.first
def sG (t:List Int)(i:Nat):List Int:=(SZ i).map λs=>t.getD (8+s) 0
theorem aiq(x:ai)(t:List Int)(i:Nat):sF x t (i+1)=sF x t i++[t.getD (4+i) 0+x.first]:=by
 unfold sF;rw[Vk,TF];rfl
theorem ais(t:List Int)(i:Nat):sG t (i+1)=sG t i++[t.getD (8+i) 0]:=by
 unfold sG;rw[Vk,TF];rfl
theorem aip(x:ai)(t:List Int)(i:Nat):(sF x t i).length=i:=by simp[sF]
theorem air(t:List Int)(i:Nat):(sG t i).length=i:=by simp[sG]
end Tk
theorem arU{a a' b b' c c' d d':AV}(h1:Wk a a')(h2:Wk b b')(h3:Wk c c')(h4:Wk d d'):Wk (.aJ [a,b,c,d]) (.aJ [a',b',c',d']):=λE v h=>by
 cases h with
 |aJ hs h=>
  refine .aJ hs λi x e=> ?_
  match i with
  |0=>cases e;exact h1 _ _ (h 0 a rfl)
  |1=>cases e;exact h2 _ _ (h 1 b rfl)
  |2=>cases e;exact h3 _ _ (h 2 c rfl)
  |3=>cases e;exact h4 _ _ (h 3 d rfl)
section
variable {lv:Bool}{H:List aa}{k kp:AV->List aa->Prop}
theorem ahN{x:ai}(hx:x.Ok)(hm:H[0]?=some .main)(hk:∀D,eU x 0 D->(D.has=false->k (.aJ [ba [],ba [],ba [],iv 11]) H)/\(D.has=true->k (.aJ [ba (D.first.take (x.hours.toNat+1)),ba (sF x D.first x.pieces.length),ba (sG D.first x.aB.length),iv 0]) H)):bf true SC 18 H [x.av] k kp:=by
 refine bH (rs:=[.tmp 2,.tmp 3,.tmp 4,.tmp 5]) (nt:=64) Tryz.f18 λhH hA=> ?_;simp only[br,SW,ai.av];have hp:=hx.am;have hh:=hx.hours;have mh:=hx.c9;have aQ:=hx.eK;have iX:=hx.first;obtain⟨p,eG⟩:∃p:Nat,x.am=p:=⟨x.am.toNat,by omega⟩;have bS:x.l=[iv x.first,iv x.hours,iv x.am,dY x.seen,bp x.pieces,bp x.aB]:=rfl;have aT:∀(L:List aa),(H++L)[H.length]?=L[0]?:=λL=>aX H L 0;have bm:x.l.length=6:=rfl;have dZ:Uq 6 x.l=x.l:=rfl;refine aj ?_;refine ak ?_;simp only[seval,aT,bm,dZ];refine aK ((yY (x:=x) hx eG (fI hm) H_ (λh=>by cases h) λ_ js D L mp io jB bY sW hg=> ?_));have eF:eU x 0 D:=⟨p,js,eG,io,jB,bY⟩;have b8:=Kn.len bY mp;have eA:=uH D mp;obtain⟨gO,b_⟩:=hk D eF;obtain⟨Y,hY⟩:∃Y:List aa,Y=[aa.cells x.l 26]++L:=⟨_,rfl⟩;obtain⟨B,hB⟩:∃B,B=H++Y:=⟨_,rfl⟩;have sI:H++[aa.cells x.l 26]++L=B:=by rw[hB,hY,SD]
 have zm:∀(L':List aa),(B++L')[H.length]?=some (.cells x.l 26):=λL'=>by rw[hB,hY,SD,aT];rfl
 have bn:∀(L':List aa)(j:Nat),(B++L')[B.length+j]?=L'[j]?:=λL' j=>aX B L' j;have vv:∀(L':List aa)(j:Nat)(y:aa),(B++L').set (B.length+j) y=B++L'.set j y:=λL' j y=>ec B L' j y;have eY:∀(L':List aa)(l1 l2 l3:List Int)(e e' Pt:End)(m:Int),k (.aJ [ba l1,ba l2,ba l3,iv m]) H->cw H.length (B++L') (.aJ [.sl l1.length (l1.map iv) e,.sl l2.length (l2.map iv) e',.sl l3.length (l3.map iv) Pt,iv m]) k:=λL' l1 l2 l3 e e' Pt m h=>by
  rw[hB,SD];exact jr hH (arU (iP _ _ _) (iP _ _ _) (iP _ _ _) (Wk.refl _)) (by simp[je,eI,ba,tp]) h
 rw[sI];clear sI hg;(try simp only[seval,ai.av,bm,b8]);refine⟨kP x,eA,?_⟩;cases gg:D.has with
 |false=>
  have hE:ew D=11:=by rw[ew,gg];rfl
  refine ak ?_;simp only[seval,hE,show ((11:Int)!=0)=true from rfl];refine aD ?_;refine aj ?_;refine aZ ?_;exact eY _ [] [] [] .exact .exact .exact 11 (gO gg)
 |true=>
  have hE:ew D=0:=by rw[ew,gg];rfl
  have b_:=b_ gg;have qg:=alU hx eF gg;obtain⟨t,ht⟩:∃t,t=D.first:=⟨_,rfl⟩;rw[<- ht]at qg b_;have qf:=qg.len;obtain⟨pre,RE,JU⟩:∃pre:List AV,pre.length=17/\D.l mp=pre++(t.map iv++[]):=⟨bv D.has:: .mp mp::(D.ay.map (λn=>wv n)++(D.hours.map (λn=>wv n)++(D.less.map (λn=>wv n)++D.aU.map (λn=>wv n)))),by simp[bY.ay,bY.hours,bY.less,bY.aU],by rw[ht];simp[Kn.l]⟩;obtain⟨n,hn⟩:∃n:Nat,x.hours=n:=⟨x.hours.toNat,by omega⟩;have oZ:x.hours+1=((n+1:Nat):Int):=by omega
  have bN:SF.wrap (x.hours+1)=((n+1:Nat):Int):=by rw[bG _ (by omega)];exact oZ
  have dg:UD 1 x.l=[iv x.hours,iv x.am,dY x.seen,bp x.pieces,bp x.aB]:=rfl;have hd4:UD 4 x.l=[.sl x.pieces.length (x.pieces.flatMap aC.l) .shut,.sl x.aB.length (x.aB.flatMap aC.l) .shut]:=rfl;have uk:UD 5 x.l=[.sl x.aB.length (x.aB.flatMap aC.l) .shut]:=rfl;refine ak ?_;simp only[seval,hE,show ((0:Int)!=0)=false from rfl];refine aD ?_;refine aN ?_;have Bp:∀(L':List aa),(B++L')[B.length+1]?=L'[1]?:=λL'=>bn L' 1;have yJ:∀(L':List aa),(B++L')[B.length+2]?=L'[2]?:=λL'=>bn L' 2;have tW:∀(L':List aa)(y:aa),(B++L').set (B.length+2) y=B++L'.set 2 y:=λL' y=>vv L' 2 y;have bn3:∀(L':List aa),(B++L')[B.length+3]?=L'[3]?:=λL'=>bn L' 3;have bs3:∀(L':List aa)(y:aa),(B++L').set (B.length+3) y=B++L'.set 3 y:=λL' y=>vv L' 3 y;have bn4:∀(L':List aa),(B++L')[B.length+4]?=L'[4]?:=λL'=>bn L' 4;have bs4:∀(L':List aa)(y:aa),(B++L').set (B.length+4) y=B++L'.set 4 y:=λL' y=>vv L' 4 y;refine ak ?_;simp only[seval,zm,dg,bN,adB];refine⟨by omega,by omega,?_⟩;have vR:(D.l mp).drop 17=t.map iv:=by rw[JU,S0,Wr (by omega),WX (by omega),UF]
  have alq:((n:Int)+1).toNat=n+1:=by omega
  have p9:min 4 (n+1)=n+1:=by omega
  have Cl:min 4 11=4:=rfl;have RX:min (n+1) 4=n+1:=by omega
  have aY:Uq (n+1) (Uq 4 (U6 iv t))++UD (n+1) (U6 iv (TM (n+1) 0))=(t.take (n+1)).map iv:=by rw[U1,RX,WX (by simp),S0,VW]
  refine ak ?_;simp only[seval,vR,alq,p9,Cl,qf,RX,Ub,YI,Bp,yJ,tW];refine⟨by rw[<- VW];exact of_eq_true (aaB _),?_⟩;rw[aY];obtain⟨tl,K9⟩:∃tl,tl=t.take (n+1):=⟨_,rfl⟩;have aaa:tl.length=n+1:=by rw[K9,Ub];omega
  have Cr:x.hours.toNat=n:=by omega
  rw[Cr,<- K9]at b_;rw[<- K9]
  (repeat apply gW);refine Ic (id:=B.length+2) (by simp only[seval,yJ]<;>rfl) ?_
  simp only[seval,tW,aaa]
  (repeat apply gW);refine Oz (t:=2) (y:=ba tl) (by simp only[seval]<;>rfl) ?_ ?_
  ·have e:ba tl=.sl (n+1) ((tl.map iv).take (n+1)) .shut:=by
    rw[SY (by simp;omega),ba,aaa]
   rw[e];exact Ny (p:=n+1) (by simp only[seval,yJ]<;>rfl) (by omega) (by simp;omega)
  (repeat apply gW);refine vq (t:=3) (sz:=1) (el:=3) (by simp only[seval]<;>rfl) ?_
  refine ak ?_;simp only[seval,zm,hd4];obtain⟨gl,oq⟩:∃gl:Nat->List Int,∀i,gl i=sF x t i:=⟨_,λ_=>rfl⟩;have Cd:gl 0=[]:=by rw[oq];rfl
  have Ki:∀i,(gl i).length=i:=λi=>by rw[oq];exact aip _ _ _
  refine cy ?_;refine gL x.pieces.length (λi:Nat=>[(3,.sl (gl i).length ((gl i).map iv) (.opn (B.length+3))),(31,iv i)]) (λi=>B++[.cells x.l 76,.cells (D.l mp) 88,.part (n+1) (tl.map iv) 3,.tail (gl i).length 1 3]) (λi=>True) (λ_ _=>rfl) (by rw[Cd];simp only[seval];simp[bz,Wk.refl]) (by rw[Cd];rfl) (λ_ _ _=>by simp) trivial (λbU cS i cM _ R hR=> ?_);refine aj ?_;refine aD ?_;refine⟨λh=> ?_,λh=> ?_⟩
  ·have bB:i<x.pieces.length:=(by omega);obtain⟨v,hv,hv9,_⟩:=qg.num i bB;have vW:t.getD (4+i) 0=v:=(by rw[SE,hv];rfl);have b3:(0<=(i:Int)/\(i:Int)<4)=True:=(by simp;omega);have fK:SF.wrap ((i:Int)+1)=((i+1:Nat):Int):=(by rw[bG _ (by omega)];rfl);have CI:SF.wrap ((v:Int)+x.first)=v+x.first:=bG _ (by omega);have J5:(D.l mp).drop (21+i)=iv v::((t.drop (4+i+1)).map iv++[]):=by
    have:=Ez JU RE hv;rw[show 21+i=17+(4+i) by omega];exact this
   have da:gl (i+1)=gl i++[(v:Int)+x.first]:=(by rw[oq,oq,aiq,vW]);have RH:=Ki i;refine aN ?_;refine aj ?_;refine dT 10 ?_;simp only[seval,z1,zm,Bp,b3,J5,CI,bS,bn3,bs3]
   first|refine⟨by decide,by omega,?_⟩|refine⟨by omega,?_⟩
   refine ak ?_;simp only[seval,fK];refine hR _ ⟨bB,trivial,?_⟩;rw[da,TF,SO];exact dq
  ·have dw:i=x.pieces.length:=(by omega);subst dw;clear hR;refine bZ ?_
   (repeat apply gW);refine vq (t:=4) (sz:=1) (el:=3) (by simp only[seval]<;>rfl) ?_
   have F3:(gl x.pieces.length)=sF x t x.pieces.length:=oq _;generalize gl x.pieces.length=nl at F3⊢;refine ak ?_;simp only[seval,zm,uk];obtain⟨go,hgo⟩:∃go:Nat->List Int,∀i,go i=sG t i:=⟨_,λ_=>rfl⟩;have Rn:go 0=[]:=(by rw[hgo];rfl);have akb:∀i,(go i).length=i:=λi=>(by rw[hgo];exact air _ _);refine cy ?_;refine gL x.aB.length (λi:Nat=>[(4,.sl (go i).length ((go i).map iv) (.opn (B.length+4))),(49,iv i)]) (λi=>B++[.cells x.l 76,.cells (D.l mp) 88,.part (n+1) (tl.map iv) 3,.tail nl.length 1 3,.tail (go i).length 1 3]) (λi=>True) (λ_ _=>rfl) (by rw[Rn];simp only[seval];simp[bz,Wk.refl]) (by rw[Rn];rfl) (λ_ _ _=>by simp) trivial (λbU cS i cM _ R hR=> ?_);refine aj ?_;refine aD ?_;refine⟨λh=> ?_,λh=> ?_⟩
   ·have bB:i<x.aB.length:=(by omega);obtain⟨v,hv,hv9⟩:=qg.own i bB;have vW:t.getD (8+i) 0=v:=(by rw[SE,hv];rfl);have b3:(0<=(i:Int)/\(i:Int)<3)=True:=(by simp;omega);have fK:SF.wrap ((i:Int)+1)=((i+1:Nat):Int):=(by rw[bG _ (by omega)];rfl);have J5:(D.l mp).drop (25+i)=iv v::((t.drop (8+i+1)).map iv++[]):=by
     have:=Ez JU RE hv;rw[show 25+i=17+(8+i) by omega];exact this
    have da:go (i+1)=go i++[(v:Int)]:=(by rw[hgo,hgo,ais,vW]);have RH:=akb i;refine aN ?_;refine aj ?_;refine ak ?_;simp only[seval,z1,Bp,b3,J5,bn4,bs4]
    first|refine⟨by decide,by omega,?_⟩|refine⟨by omega,?_⟩
    refine ak ?_;simp only[seval,fK];refine hR _ ⟨bB,trivial,?_⟩;rw[da,TF,SO];exact dq
   ·have dw:i=x.aB.length:=(by omega);subst dw;clear hR;refine bZ ?_;have hxo:(go x.aB.length)=sG t x.aB.length:=hgo _;generalize go x.aB.length=ol at hxo⊢;refine aj ?_;refine aZ ?_;rw[<- F3,<- hxo]at b_;exact eY _ tl nl ol .shut _ _ 0 b_
end
open Go.Conc Go.Proofs Go.Gg.Tk
namespace Tk
def Gv (n:Int)(o k:Int):Int:=wi [o,max (k-n) (n-k)]
def ya (l:List Int)(n:Int)(o:Int):Int:=l.foldl (Gv n) o
def mG (own q:Nat)(m:Int×Nat)(t:List Int):Int×Nat:=if m.2.testBit (iA t q)then m else(ya (dM own 0 16) (iA t q) m.1,m.2|||2^iA t q)
def qJ (x:ai)(y:aC)(q:Nat)(o:Int)(h:List Int):Int:=if bR h y=0 then o else((gG x 1 h).foldl (mG (bR h y) q) (o,0)).1
def sr (x:ai)(y:aC)(q:Nat):Nat->Int
 |0=> -1
 |i+1=>(jA x i).foldl (qJ x y q) (sr x y q i)
def H6 (x:ai)(i:Nat):List aa:=[.cells x.l 76,.cells [iv i] 3,.obj (.deferred (some [])),.gone]
def oM (x:ai):Nat->List aa
 |0=>[]
 |i+1=>oM x i++H6 x i
def wV (n:Nat):Nat->List Nat
 |0=>[]
 |i+1=>(n+4* i+2)::wV n i
theorem H7(x:ai):∀i,(oM x i).length=4* i
 |0=>rfl
 |i+1=>by rw[oM,SO,H7 x i];rfl
theorem Oc(x:ai)(B:List aa):∀(i:Nat)(L:List aa),∃Y,iC (wV B.length i) (B++oM x i++L)=some (B++Y)
 |0,L=>⟨oM x 0++L,by rw[wV,y_,SD]⟩
 |i+1,L=>by
  have hl:(B++oM x i).length=B.length+4* i:=by rw[SO,H7]
  have e:B++oM x (i+1)++L=(B++oM x i)++(H6 x i++L):=by rw[oM];simp
  have hg:((B++oM x i)++(H6 x i++L))[B.length+4* i+2]?=some (.obj (.deferred (some []))):=by rw[<- hl,aX];rfl
  obtain⟨Y,hY⟩:=Oc x B i ([.cells x.l 76,.cells [iv i] 3,.gone,.gone]++L);refine⟨Y,?_⟩;rw[wV,e,y9 hg,<- hl,ec];exact hY
end Tk
theorem afz{lv:Bool}{P:SJ}{nt:Nat}{c:T7}{s:AS}{ms:List Nat}{Φ:an->AS->List Nat->Prop}(h:ku lv P nt [] c s ms Φ):mA lv P nt c s ms Φ:=λE V a Q ah hd hQ=>
 h E V a Q ah ⟨by rw[S0];exact hd.1,hd.2⟩ λae e E' V' a' s' cE hk aR cC he hΦ=>hQ ae e E' V' a' s' cE hk aR ⟨by have:=cC.1;rwa [S0]at this,cC.2⟩ he hΦ
section
variable {lv:Bool}{H:List aa}{k kp:AV->List aa->Prop}
theorem PO{x:ai}{s q:Nat}{y:aC}(hx:x.Ok)(hs:x.aB[s]?=some y)(hq:q<x.pieces.length)(hk:∀o:Int,o=sr (x.wo [(s:Int)]) y q (x.am.toNat+1)->k (.aJ [iv (if o<0 then 0 else o),iv (if o<0 then 11 else 0)]) H):bf lv SC 31 H [x.av,iv s,iv q] k kp:=by
 refine Qf (rs:=[.tmp 6,.tmp 7]) (nt:=97) F.f31 rfl rfl rfl (by simp) λhH hA=> ?_;simp only[br,SW,ai.av];have hp:=hx.am;have aQ:=hx.eK;have mh:=hx.c9;have dx:=eR hs;have iq:=abE hq;obtain⟨p,eG⟩:∃p:Nat,x.am=p:=⟨x.am.toNat,by omega⟩;obtain⟨w,hw⟩:∃w,w=x.wo [(s:Int)]:=⟨_,rfl⟩;have Lh:w.Ok:=by rw[hw];exact hx.wo _
 have bS:x.l=[iv x.first,iv x.hours,iv x.am,dY x.seen,bp x.pieces,bp x.aB]:=rfl;have gf:∀(L:List aa)(j:Nat),(H++L)[H.length+j]?=L[j]?:=λL j=>aX H L j;have zO:∀(L:List aa)(j:Nat)(y:aa),(H++L).set (H.length+j) y=H++L.set j y:=λL j y=>ec H L j y;have aT:∀(L:List aa),(H++L)[H.length]?=L[0]?:=λL=>aX H L 0;have dg:∀(L:List aa),(H++L)[H.length+1]?=L[1]?:=λL=>aX H L 1;have lg:∀(L:List aa),(H++L)[H.length+2]?=L[2]?:=λL=>aX H L 2;have uk:∀(L:List aa),(H++L)[H.length+5]?=L[5]?:=λL=>aX H L 5;have KY:∀(L:List aa)(y:aa),(H++L).set (H.length+5) y=H++L.set 5 y:=λL y=>ec H L 5 y;have hd6:∀(L:List aa),(H++L)[H.length+6]?=L[6]?:=λL=>aX H L 6;have hs6:∀(L:List aa)(y:aa),(H++L).set (H.length+6) y=H++L.set 6 y:=λL y=>ec H L 6 y;have bm:x.l.length=6:=rfl;have dZ:Uq 6 x.l=x.l:=rfl;have Rg:UD 5 x.l=[.sl x.aB.length (x.aB.flatMap aC.l) .shut]:=rfl;have B_:UD 2 x.l=[iv x.am,dY x.seen,bp x.pieces,bp x.aB]:=rfl;have nm:(1<=2^24)=True:=eq_true (by decide);(try refine nd ?_);refine aj ?_;(try refine nd ?_);refine ak ?_;simp only[seval,aT,bm,dZ];refine aK ((I4 (x:=x) hx ?_));(try simp only[seval]);(try refine nd ?_);refine ak ?_;simp only[seval,show ((0:Int)!=0)=false from rfl];(try refine nd ?_);refine aD ?_;refine aN ?_;(try refine nd ?_);refine ak ?_;simp only[seval,z1,nm,aT,lg,bm,dZ];refine aK ((n4 (x:=x) (ns:=[(q:Int)]) ?_));have bN:SF.wrap ((x.aB.length:Int)-1)=(x.aB.length:Int)-1:=bG _ (by omega);have ho1:(decide ((s:Int)<0)||decide ((s:Int)>(x.aB.length:Int)-1))=false:=by simp;omega
 (try simp only[seval]);refine aK ((I7 (x:=x) (ns:=[(q:Int)]) (e:=.exact) (il:=H.length+4) (ir:=H.length+3) hx (by simp) (by rw[gf];rfl) (by rw[gf];rfl) ?_));rw[iq];(try simp only[seval,aT,dg,Rg,bN]);refine aK ((sE (n:=s) (lo:=0) (hi:=(x.aB.length:Int)-1) ?_));rw[ho1];(try simp only[seval]);(try refine nd ?_);refine aD ?_;refine aN ?_;(try refine nd ?_);have ajx:tJ [(s:Int)] x.aB.length:=λi n hn=>by
  match i,hn with
  |0,hn=>cases hn;simp;omega
 refine ak ?_;simp only[seval,z1,nm,aT,dg,bm,dZ];refine aK ((PW (x:=x) (ns:=[(s:Int)]) aQ ajx ?_));rw[<- hw];have rE:w.l.length=6:=rfl;have uz:Uq 6 w.l=w.l:=rfl;have xH:w.l=[iv w.first,iv w.hours,iv w.am,dY w.seen,bp w.pieces,bp w.aB]:=rfl;have Ll:UD 6 [AV.val (SG SF 0),AV.val (SG SF 0),AV.val (SG SF 0),AV.sl 0 [] .exact,AV.sl 0 [] .exact,AV.sl 0 [] .exact]=[]:=rfl;(try simp only[seval,ai.av,rE,uz,uk,KY,hd6,hs6,Ll]);refine⟨kP w,?_⟩;have g_:SF.wrap (x.am+1)=((p+1:Nat):Int):=by rw[eG,bG _ (by omega)];rfl
 refine Ig ?_;refine nd ?_;refine ak ?_;simp only[seval,aT,B_,g_];obtain⟨Bo,qV⟩:∃Bo:Int->List aa,∀o,Bo o=H++[.cells x.l 26,.cells [iv s] 3,.cells [iv q] 3,.cells x.l 26,.cells [.sl 1 [iv q] .exact] 22,.cells w.l 76,.cells [iv o] 3]:=⟨_,λ_=>rfl⟩;have fJ:∀o,(Bo o).length=H.length+7:=λo=>by rw[qV];simp
 have b0:∀o L,(Bo o++L)[H.length]?=some (.cells x.l 26):=λo L=>by rw[qV,SD,aT];rfl
 have b1:∀o L,(Bo o++L)[H.length+1]?=some (.cells [iv s] 3):=λo L=>by rw[qV,SD,gf];rfl
 have b2:∀o L,(Bo o++L)[H.length+2]?=some (.cells [iv q] 3):=λo L=>by rw[qV,SD,gf];rfl
 have b5:∀o L,(Bo o++L)[H.length+5]?=some (.cells w.l 76):=λo L=>by rw[qV,SD,gf];rfl
 have b6:∀o L,(Bo o++L)[H.length+6]?=some (.cells [iv o] 3):=λo L=>by rw[qV,SD,gf];rfl
 have s6:∀o o' L,(Bo o++L).set (H.length+6) (.cells [iv o'] 3)=Bo o'++L:=λo o' L=>by rw[qV,qV,SD,SD,zO];rfl
 obtain⟨fo,vV⟩:∃fo:Nat->Int,∀i,fo i=sr w y q i:=⟨_,λ_=>rfl⟩;refine afz ?_;refine wX ?_;refine OC (measure λi=>p+1-i).wf (λi:Nat=>⟨[(45,iv i),(44,iv ((p+1:Nat):Int)),(3,.op H.length 0),(4,.op (H.length+1) 0),(5,.op (H.length+2) 0),(9,.op (H.length+5) 0),(10,.op (H.length+6) 0)],Bo (fo i)++oM w i⟩) (λi=>wV (H.length+7) i) (λi=>i<=p+1) 0 (fe (by simp only[seval];simp[bz,Wk.refl]) (by rw[qV,vV];show _=_++[];rw[S0];rfl)) rfl (by omega) λi ou=> ?_;obtain⟨N,hN⟩:∃N,N=H.length+7+4* i:=⟨_,rfl⟩;obtain⟨AO,pL⟩:∃AO:Int->List aa,∀o,AO o=Bo o++oM w i:=⟨_,λ_=>rfl⟩;have pM:∀o,(AO o).length=N:=λo=>by rw[pL,SO,fJ,H7,hN]
 have a0:∀o L,(AO o++L)[H.length]?=some (.cells x.l 26):=λo L=>by rw[pL,SD];exact b0 _ _
 have a1:∀o L,(AO o++L)[H.length+1]?=some (.cells [iv s] 3):=λo L=>by rw[pL,SD];exact b1 _ _
 have a2:∀o L,(AO o++L)[H.length+2]?=some (.cells [iv q] 3):=λo L=>by rw[pL,SD];exact b2 _ _
 have a5:∀o L,(AO o++L)[H.length+5]?=some (.cells w.l 76):=λo L=>by rw[pL,SD];exact b5 _ _
 have a50:∀o,(AO o)[H.length+5]?=some (.cells w.l 76):=λo=>by have:=a5 o [];rwa [S0]at this
 have a6:∀o L,(AO o++L)[H.length+6]?=some (.cells [iv o] 3):=λo L=>by rw[pL,SD];exact b6 _ _
 have as6:∀o o' L,(AO o++L).set (H.length+6) (.cells [iv o'] 3)=AO o'++L:=λo o' L=>by rw[pL,pL,SD,SD];exact s6 _ _ _
 have ag:∀o (L:List aa)(j:Nat),(AO o++L)[N+j]?=L[j]?:=λo L j=>by rw[<- pM o,aX]
 have tT:∀o (L:List aa)(j:Nat)(y:aa),(AO o++L).set (N+j) y=AO o++L.set j y:=λo L j y=>by rw[<- pM o,ec]
 have Ml:∀m o o',(∀z∈AO o,eV m z)->∀z∈AO o',eV m z:=λm o o' hz z fb=>by
  rw[pL,qV]at hz fb;simp only[SS]at fb;rcases fb with(h'|h')|h'
  ·exact hz z (by simp[h'])
  ·simp only[SL,S4,or_false]at h';rcases h' with rfl|rfl|rfl|rfl|rfl|rfl|rfl
   ·exact hz _ (by simp)
   ·exact hz _ (by simp)
   ·exact hz _ (by simp)
   ·exact hz _ (by simp)
   ·exact hz _ (by simp)
   ·exact hz _ (by simp)
   ·intro a ha;rw[S9]at ha;subst ha;exact .val _
  ·exact hz z (by simp[h'])
 have okX:∀(X:List aa) o o',bP (AO o++X)->bP (AO o'++X):=λX o o' hX z hz=>by
  have hlen:(AO o'++X).length=(AO o++X).length:=by simp[pM]
  rw[hlen];rcases SS.1 hz with h'|h'
  ·exact Ml _ o o' (λz hz=>hX z (Ti _ hz)) z h'
  ·exact hX z (S6 _ h')
 rw[<- pL];refine sv ?_;refine aj ?_;refine sv ?_;refine aD ?_;refine⟨λhc=> ?_,λhc=> ?_⟩
 ·have pU:i<=3:=by omega
  have Jv:=Du Lh i pU;refine aN ?_;refine Ek ?_;refine wX ?_;refine sv ?_;refine aj ?_;refine sv ?_;refine ak ?_;simp only[seval,a50,xH];refine aK ((I5 (x:=w) (n:=i) ?_));rw[pM];(try simp only[seval]);refine wX ?_;refine Ih (by rfl) λl fn T N9 bo hT xp pP=> ?_;(try simp only[seval]);rw[pM];have hY:jN lv SC (.fn (.yield l) [] []) (λo h=> .go (qJ w y q o h)) (λo=>AO o++[.cells w.l 76,.cells [iv i] 3,.obj (.deferred (some [])),.loop l .ready none fn T 97 #[51] N9 bo (N+2)]) (N+4) (λ_=>True) (λh=>mB h/\∀ns∈fS w h,∀a∈(ie w h ns).map (db h ns),jn w a) (.aJ []):=by
   refine⟨λo h M k kp _ ha dD=> ?_,λ_ _ _ _ _ _=>trivial,λo=>by simp[pM],λm o o' hz z fb=> ?_,rfl,rfl,rfl⟩
   ·obtain⟨oV,CF⟩:=ha;have h4:=oV.len;have nq:(h.map iv).length=4:=(by rw[Tp,h4]);simp only[cW]at dD;obtain⟨Lo,ld⟩:∃Lo,Lo=aa.loop l .busy none fn T 97 #[51] N9 bo (N+2):=⟨_,rfl⟩;obtain⟨C,hC⟩:∃C,C=N+4+M.length:=⟨_,rfl⟩;obtain⟨P1,dt⟩:∃P1:Int->List aa,∀o,P1 o=AO o++([.cells w.l 76,.cells [iv i] 3,.obj (.deferred (some [])),Lo]++M):=⟨_,λ_=>rfl⟩;have ey:∀o,(P1 o).length=C:=λo=>(by rw[dt,hC];simp[pM];omega);have p0:∀o L,(P1 o++L)[H.length]?=some (.cells x.l 26):=λo L=>(by rw[dt,SD];exact a0 _ _);have p1:∀o L,(P1 o++L)[H.length+1]?=some (.cells [iv s] 3):=λo L=>(by rw[dt,SD];exact a1 _ _);have p2:∀o L,(P1 o++L)[H.length+2]?=some (.cells [iv q] 3):=λo L=>(by rw[dt,SD];exact a2 _ _);have p5:∀o L,(P1 o++L)[H.length+5]?=some (.cells w.l 76):=λo L=>(by rw[dt,SD];exact a5 _ _);have p6:∀o L,(P1 o++L)[H.length+6]?=some (.cells [iv o] 3):=λo L=>(by rw[dt,SD];exact a6 _ _);have ps6:∀o o' L,(P1 o++L).set (H.length+6) (.cells [iv o'] 3)=P1 o'++L:=λo o' L=>(by rw[dt o,dt o',SD (AO o),SD (AO o')];exact as6 _ _ _);have My:∀o L,(P1 o++L)[N+3]?=some Lo:=λo L=>(by rw[dt,SD,ag];rfl);have MS:∀o (L:List aa) y,(P1 o++L).set (N+3) y=AO o++([.cells w.l 76,.cells [iv i] 3,.obj (.deferred (some [])),y]++M)++L:=λo L y=>(by rw[dt,SD,tT];simp);have pb:∀o (L:List aa)(j:Nat),(P1 o++L)[C+j]?=L[j]?:=λo L j=>(by rw[<- ey o,aX]);have ww:∀o (L:List aa),(P1 o++L)[C]?=L[0]?:=λo L=>pb o L 0;have pb1:∀o (L:List aa),(P1 o++L)[C+1]?=L[1]?:=λo L=>pb o L 1;have pb2:∀o (L:List aa),(P1 o++L)[C+2]?=L[2]?:=λo L=>pb o L 2;have Al:∀o (L:List aa)(j:Nat)(y:aa),(P1 o++L).set (C+j) y=P1 o++L.set j y:=λo L j y=>(by rw[<- ey o,ec]);have ps1:∀o (L:List aa)(y:aa),(P1 o++L).set (C+1) y=P1 o++L.set 1 y:=λo L y=>Al o L 1 y;have ps2:∀o (L:List aa)(y:aa),(P1 o++L).set (C+2) y=P1 o++L.set 2 y:=λo L y=>Al o L 2 y;have Ac:∀m o o',(∀z∈P1 o,eV m z)->∀z∈P1 o',eV m z:=λm o o' hz z fb=>by
     rw[dt]at hz fb;rcases SS.1 fb with h'|h'
     ·exact Ml m o o' (λz uC=>hz z (Ti _ uC)) z h'
     ·exact hz z (S6 _ h')
    subst hT xp pP;rw[SD];refine vz (id:=N+3) (by rw[ag];rfl) rfl (by kernel_rfl) λn_ Jw=> ?_;simp only[rY];have vS:UD 4 [iv 0,iv 0,iv 0,iv 0]=[]:=rfl;refine ak ?_;simp only[seval,h4,vS];unfold tQ;refine⟨none,fn,_,97,#[51],_,_,_,by rw[ag];rfl,?_⟩;dsimp only;rw[tT];simp only[UC,TZ];rw[<- ld];have xi:(AO o).length+(M.length+1+1+1+1)=C:=(by rw[pM,hC];omega);rw[xi];have xA:∀z:aa,(AO o++aa.cells w.l 76::aa.cells [AV.val (SG SF ↑i)] 3::aa.obj (at0 (some []))::Lo::(M++[z]))=P1 o++[z]:=λz=>(by rw[dt];simp[iv]);rw[xA];obtain⟨own,ja⟩:∃own,own=bR h y:=⟨_,rfl⟩;refine cy ?_;refine qK [7,8] [0,1,2,3,4,5,6,7,8] [⟨0,false,[],[([7],[7])]⟩,⟨1,false,[],[([7],[7])]⟩,⟨2,false,[],[([7],[7])]⟩,⟨3,false,[],[([7],[7])]⟩,⟨4,false,[],[([7],[7])]⟩,⟨5,false,[],[([7],[7])]⟩,⟨6,false,[],[([7],[7])]⟩,⟨7,true,[7],[]⟩,⟨8,true,[7,8],[]⟩] (λD=>bif isDone 8 D then P1 o++[.cells (h.map iv) 83,.cells [wv own] 79]else bif isDone 7 D then P1 o++[.cells (h.map iv) 83,.cells [.val (.int .u16 0)] 79]else P1 o++[.cells (h.map iv) 83]) ?_;simp only[seval,ey,ww,pb1,ps1,p0,p1,h4,nq,Rg,G7 hs,jp dx];have hmE:Uq 4 (U6 (λn=>AV.val (SG SF n)) h)=h.map iv:=SY (by rw[nq];exact SR _);rw[hmE];refine ii (wv own) (cI (EC (h:=h) (y:=y) oV ⟨by rw[ja],rfl⟩)) ?_;refine⟨ii (wv own) (cI (EC (h:=h) (y:=y) oV ⟨by rw[ja],rfl⟩)) rfl,?_⟩;(try simp only[seval,wv]);have hm3:U6 (λn=>AV.val (SG SF n)) h=h.map iv:=rfl;rw[hm3];refine ak ?_;simp only[seval,pb1];refine aD ?_;refine⟨λhz=> ?_,λhz=> ?_⟩
    ·refine bZ ?_;have fb:own=0:=(by simpa using hz);have e1:qJ w y q o h=o:=(by unfold qJ;rw[<- ja,if_pos fb]);rw[e1]at dD;show oK _ _ _ _ _ _ _;refine⟨l,.busy,none,fn,_,97,#[51],_,_,N+2,by show (P1 _++_)[_]?=_;rw[My,ld],?_⟩;show cw C ((P1 _++_).set _ _) _ k;rw[MS];rw[SD]at dD;exact jR (G:=[.cells (h.map iv) 83,.cells [wv own] 79]) (Wk.refl _) rfl (by rw[hC];simp[pM];omega) n_ (.val _) dD
    ·refine aN ?_;refine ak ?_;simp only[seval,ey];refine ak ?_;simp only[seval,p5,ww,xH,h4,nq];have akr:Uq 4 (U6 iv h)=h.map iv:=SY (by rw[nq];exact SR _);rw[akr];refine aK ((I6 (x:=w) (h:=h) (deep:=1) ?_));(try simp only[seval]);have fb:own≠0:=(by simpa using hz);have akD:own<65536:=by
      rw[ja];have:bR h y<2^9:=Bl;omega
     refine cy ?_;refine Ei (N+3) (by rfl) (by show (P1 _++_)[N+3]?=_;rw[My,ld]) λl2 eQ T2 gA gB oc xq xu=> ?_;simp only[seval];rw[ey]at oc⊢;have okm:∀v m m',(∀z∈[aa.cells (h.map iv) 83,.cells [wv own] 79,.cells [wv m] 79,.cells w.l 76,.cells (h.map iv) 83,.cells [iv 1] 3,.loop l2 .ready none eQ T2 97 #[64] gA gB (N+2)],eV v z)->∀z∈[aa.cells (h.map iv) 83,.cells [wv own] 79,.cells [wv m'] 79,.cells w.l 76,.cells (h.map iv) 83,.cells [iv 1] 3,.loop l2 .ready none eQ T2 97 #[64] gA gB (N+2)],eV v z:=λv m m' hz z fb=>by
      simp only[SL,S4,or_false]at fb;rcases fb with rfl|rfl|rfl|rfl|rfl|rfl|rfl
      ·exact hz _ (by simp)
      ·exact hz _ (by simp)
      ·intro a ha;rw[S9]at ha;subst ha;exact .val _
      ·exact hz _ (by simp)
      ·exact hz _ (by simp)
      ·exact hz _ (by simp)
      ·exact hz (.loop l2 .ready none eQ T2 97 #[64] gA gB (N+2)) (by simp)
     have xo:jN lv SC (.fn (.yield l2) [] []) (λm t=> .go (mG own q m t)) (λm:Int×Nat=>P1 m.1++[.cells (h.map iv) 83,.cells [wv own] 79,.cells [wv m.2] 79,.cells w.l 76,.cells (h.map iv) 83,.cells [iv 1] 3,.loop l2 .ready none eQ T2 97 #[64] gA gB (N+2)]) (C+7) (λm=>m.2<65536) (jn w) (.aJ []):=by
      refine⟨λm t M2 k2 xY hm ht lm=> ?_,λm t m' hm ht he=> ?_,λm=>by simp[ey],λv m m' hz z fb=> ?_,rfl,rfl,rfl⟩
      ·obtain⟨o2,met⟩:=m;replace hm:met<65536:=hm;have qf:=ht.len;have zS:(t.map iv).length=11:=(by rw[Tp,qf]);simp only[cW]at lm;have F2:w.pieces.length=x.pieces.length:=(by rw[hw];rfl);obtain⟨n,lP,KC,_⟩:=ht.num q (by rw[F2];exact hq);have FU:iA t q=n:=(by unfold iA;rw[SE,lP];rfl);obtain⟨pz,sJ⟩:∃Lo,Lo=aa.loop l2 .busy none eQ T2 97 #[64] gA gB (N+2):=⟨_,rfl⟩;obtain⟨D,hD⟩:∃D,D=C+7+M2.length:=⟨_,rfl⟩;obtain⟨Q1,fZ⟩:∃Q1:Int->Nat->List aa,∀o m,Q1 o m=P1 o++([.cells (h.map iv) 83,.cells [wv own] 79,.cells [wv m] 79,.cells w.l 76,.cells (h.map iv) 83,.cells [iv 1] 3,pz]++M2):=⟨_,λ_ _=>rfl⟩;have QN:∀o m,(Q1 o m).length=D:=λo m=>(by rw[fZ,hD];simp[ey];omega);have q2:∀o m L,(Q1 o m++L)[H.length+2]?=some (.cells [iv q] 3):=λo m L=>(by rw[fZ,SD];exact p2 _ _);have q6:∀o m L,(Q1 o m++L)[H.length+6]?=some (.cells [iv o] 3):=λo m L=>(by rw[fZ,SD];exact p6 _ _);have qs6:∀o o' m L,(Q1 o m++L).set (H.length+6) (.cells [iv o'] 3)=Q1 o' m++L:=λo o' m L=>(by rw[fZ o,fZ o',SD (P1 o),SD (P1 o')];exact ps6 _ _ _);have qo:∀o m L,(Q1 o m++L)[C+1]?=some (.cells [wv own] 79):=λo m L=>(by rw[fZ,SD,pb];rfl);have qm:∀o m L,(Q1 o m++L)[C+2]?=some (.cells [wv m] 79):=λo m L=>(by rw[fZ,SD,pb];rfl);have qsm:∀o m m' L,(Q1 o m++L).set (C+2) (.cells [wv m'] 79)=Q1 o m'++L:=λo m m' L=>(by rw[fZ o m,fZ o m',SD (P1 o),Al,SD (P1 o)];rfl);have ql:∀o m L,(Q1 o m++L)[C+6]?=some pz:=λo m L=>(by rw[fZ,SD,pb];rfl);have qsl:∀o m L y,(Q1 o m++L).set (C+6) y=(P1 o++([.cells (h.map iv) 83,.cells [wv own] 79,.cells [wv m] 79,.cells w.l 76,.cells (h.map iv) 83,.cells [iv 1] 3,y]++M2))++L:=λo m L y=>(by rw[fZ,SD,Al];simp);have qc:∀o m (L:List aa),(Q1 o m++L)[D]?=L[0]?:=λo m L=>(by rw[<- QN o m];exact aX _ L 0);have GN:∀o (L:List aa),(P1 o++L)[C+6]?=L[6]?:=λo L=>pb o L 6;have vU:∀(o':Int)(m':Nat)(G:List aa),bP (P1 o2++([aa.cells (h.map iv) 83,.cells [wv own] 79,.cells [wv met] 79,.cells w.l 76,.cells (h.map iv) 83,.cells [iv 1] 3,.loop l2 .ready none eQ T2 97 #[64] gA gB (N+2)]++M2))->k2 (.val (.bool true)) (P1 o'++([aa.cells (h.map iv) 83,.cells [wv own] 79,.cells [wv m'] 79,.cells w.l 76,.cells (h.map iv) 83,.cells [iv 1] 3,.loop l2 .ready none eQ T2 97 #[64] gA gB (N+2)]++M2))->cw D ((Q1 o' m'++G).set (C+6) (.loop l2 .ready none eQ T2 97 #[64] gA gB (N+2))) (.val (.bool true)) k2:=λo' m' G az aI=>by
        rw[qsl];refine jR (G:=G) (Wk.refl _) rfl (by rw[hD];simp[ey];omega) ?_ (.val _) aI;intro z hz;have hlen:(P1 o'++([aa.cells (h.map iv) 83,.cells [wv own] 79,.cells [wv m'] 79,.cells w.l 76,.cells (h.map iv) 83,.cells [iv 1] 3,.loop l2 .ready none eQ T2 97 #[64] gA gB (N+2)]++M2)).length=(P1 o2++([aa.cells (h.map iv) 83,.cells [wv own] 79,.cells [wv met] 79,.cells w.l 76,.cells (h.map iv) 83,.cells [iv 1] 3,.loop l2 .ready none eQ T2 97 #[64] gA gB (N+2)]++M2)).length:=(by simp[ey]);rw[hlen];rcases SS.1 hz with h'|h'
        ·exact Ac _ o2 o' (λz hz=>az z (Ti _ hz)) z h'
        ·rcases SS.1 h' with h'|h'
         ·exact okm _ met m' (λz hz=>az z (S6 _ (Ti _ hz))) z h'
         ·exact az z (S6 _ (S6 _ h'))
       subst oc xq xu;rw[SD];refine vz (id:=C+6) (by rw[GN];rfl) rfl (by kernel_rfl) λqX Jx=> ?_;simp only[rY];have B_:UD 11 [iv 0,iv 0,iv 0,iv 0,iv 0,iv 0,iv 0,iv 0,iv 0,iv 0,iv 0]=[]:=rfl;refine ak ?_;simp only[seval,qf,B_];unfold tQ;refine⟨none,eQ,_,97,#[64],_,_,_,by rw[GN];rfl,?_⟩;dsimp only;rw[Al];simp only[UC,TZ];rw[<- sJ];have BM:(P1 o2).length+(M2.length+1+1+1+1+1+1+1)=D:=(by rw[ey,hD];omega);rw[BM];have iG:∀z:aa,(P1 o2++aa.cells (U6 iv h) 83::aa.cells [AV.val (SG S7 ↑own)] 79::aa.cells [AV.val (SG S7 ↑met)] 79::aa.cells w.l 76::aa.cells (U6 iv h) 83::aa.cells [AV.val (SG SF 1)] 3::pz::(M2++[z]))=Q1 o2 met++[z]:=λz=>(by rw[fZ];simp[iv]);rw[iG];have b4:(0<=(q:Int)/\(q:Int)<4)=True:=(by simp;omega);have oT:=kX (i:=4+q) lP;refine ak ?_;simp only[seval,q2,qc,b4,oT];refine ak ?_;simp only[seval,qm];refine aK ((xc (m:=met) (n:=n) hm ?_));(try simp only[seval]);refine aD ?_;refine⟨λhb=> ?_,λhb=> ?_⟩
       ·refine bZ ?_;have e1:mG own q (o2,met) t=(o2,met):=(by unfold mG;rw[FU,if_pos hb]);rw[e1]at lm;rw[SD]at lm;show oK _ _ _ _ _ _ _;refine⟨l2,.busy,none,eQ,_,97,#[64],_,_,N+2,by show (Q1 _ _++_)[_]?=_;rw[ql,sJ],?_⟩;exact vU o2 met _ qX lm
       ·refine aN ?_;have dB:met.testBit n=false:=(by simpa using hb);have e1:mG own q (o2,met) t=(ya (dM own 0 16) n o2,met|||2^n):=(by unfold mG;rw[FU,if_neg (by simpa using hb)]);rw[e1]at lm;rw[SD]at lm;refine ak ?_;simp only[seval,qm];refine aK ((ub (m:=met) (n:=n) hm (by omega) ?_));(try simp only[seval,qm,qsm,wv]);refine ak ?_;simp only[seval,qo];refine aK ((EB (s:=own) (more:=0) akD (by decide) ?_));(try simp only[seval,ba]);have RG:∀v∈dM own 0 16,0<=v/\v<16:=λv hv=>by
         unfold dM at hv;obtain⟨j,hj,rfl⟩:=Td.1 hv;have:=Tu.1 (Ud.1 hj).1;omega
        have iY:=L6 own 0 16;generalize dM own 0 16=ls at RG iY lm⊢;obtain⟨oj,kE⟩:∃oj:Nat->Int,∀j,oj j=ya (ls.take j) n o2:=⟨_,λ_=>rfl⟩;have akF:oj 0=o2:=(by rw[kE];rfl);generalize met|||2^n=aaU at lm⊢;refine cy ?_;refine gL ls.length (λj:Nat=>[(78,iv j)]) (λj=>Q1 (oj j) aaU++[.cells (t.map iv) 86]) (λ_=>True) (λ_ _=>rfl) (by simp only[seval];simp[bz,Wk.refl]) (by rw[akF]) (λ_ _ _=>by simp[QN]) trivial (λbU cS j oW _ R hR=> ?_);clear bU cS;refine aj ?_;refine aD ?_;refine⟨λh1=> ?_,λh1=> ?_⟩
        ·have fi:j<ls.length:=(by omega);obtain⟨v,hv⟩:=bX fi;have hvb:=RG v (uO hv);have da:oj (j+1)=Gv n (oj j) v:=by
          rw[kE,kE,ya,ya];obtain⟨akj,xR⟩:=SM.1 hv;rw[Wc akj,ZU,xR];rfl
         have hwa:SF.wrap (v-(n:Int))=v-n:=bG _ (by omega);have F1:SF.wrap ((n:Int)-v)=n-v:=bG _ (by omega);have fK:SF.wrap ((j:Int)+1)=((j+1:Nat):Int):=(by rw[bG _ (by omega)];rfl);have ajn:(2<=2^24)=True:=eq_true (by decide);refine aN ?_;refine ak ?_;simp only[seval,eJ hv,jp fi];refine ak ?_;simp only[seval,q6,z2,ajn,hwa,F1];have Cm:(if v-(n:Int)<(n:Int)-v then(n:Int)-v else v-(n:Int))=max (v-n) (n-v):=(by split<;>omega);rw[Cm];refine aK ((ah8 (ns:=[oj j,max (v-n) (n-v)]) (by simp) ?_));(try simp only[seval,q6,qs6]);refine ak ?_;simp only[seval,fK];refine hR _ ⟨fi,trivial,?_⟩;rw[da];exact dq
        ·have xG:j=ls.length:=(by omega);subst xG;refine bZ ?_;show oK _ _ _ _ _ _ _;refine⟨l2,.busy,none,eQ,_,97,#[64],_,_,N+2,by show (Q1 _ _++_)[_]?=_;rw[ql,sJ],?_⟩;exact vU (oj ls.length) aaU _ qX (by rw[kE,TH];exact lm)
      ·cases he;show (mG own q m t).2<65536;unfold mG;split
       ·exact hm
       ·obtain⟨n,lP,KC,_⟩:=ht.num q (by rw[hw];exact hq);have FU:iA t q=n:=(by unfold iA;rw[SE,lP];rfl);rw[FU];exact pn hm (wE (by omega))
      ·rcases SS.1 fb with h'|h'
       ·exact Ac v m.1 m'.1 (λz uC=>hz z (Ti _ uC)) z h'
       ·exact okm v m.2 m'.2 (λz uC=>hz z (S6 _ uC)) z h'
     refine cI (I_ (x:=w) (h:=h) (deep:=1) (ir:=C+3) (ih:=C+3+1) (id:=C+3+2) (σ:=(o,0)) Lh oV xo (λm L=> ?_) (λm L=> ?_) (λm L=> ?_) (λn=>by simp[je]) (show (0:Nat)<65536 by decide) (λa ha=>ha.len) CF ?_)
     ·rw[SD];exact pb _ _ 3
     ·rw[SD];exact pb _ _ 4
     ·rw[SD];exact pb _ _ 5
     rw[De (g:=mG own q) (λ_ _=>rfl)];simp only[fV,S0];have e1:qJ w y q o h=((gG w 1 h).foldl (mG own q) (o,0)).1:=(by unfold qJ;rw[<- ja,if_neg fb]);generalize(gG w 1 h).foldl (mG own q) (o,0)=r at e1⊢;rw[e1]at dD;have GN:∀o (L:List aa),(P1 o++L)[C+6]?=L[6]?:=λo L=>pb o L 6;refine⟨.ready,none,_,_,_,_,_,_,_,by rw[GN];rfl,by decide,?_⟩;rw[Al,GQ];(try simp only[seval]);show oK _ _ _ _ _ _ _;refine⟨l,.busy,none,fn,_,97,#[51],_,_,N+2,by show (P1 _++_)[_]?=_;rw[My,ld],?_⟩;show cw C ((P1 _++_).set _ _) _ k;rw[MS];rw[SD]at dD;exact jR (G:=[.cells (h.map iv) 83,.cells [wv own] 79,.cells [wv r.2] 79,.cells w.l 76,.cells (h.map iv) 83,.cells [iv 1] 3,.gone]) (Wk.refl _) rfl (by rw[hC];simp[pM];omega) (okX _ o r.1 n_) (.val _) dD
   ·rcases SS.1 fb with h'|h'
    ·exact Ml m o o' (λz uC=>hz z (Ti _ uC)) z h'
    ·exact hz z (S6 _ h')
  refine cI (I8 (x:=w) (bh:=i) (ir:=N) (it:=N+1) (σ:=fo i) Lh hY (λo L=> ?_) (λo L=> ?_) pU (λn=>by simp[je]) trivial (λa ha=>Jv a ha) ?_)
  ·rw[SD];exact ag _ _ 0
  ·rw[SD];exact ag _ _ 1
  rw[De (g:=qJ w y q) (λ_ _=>rfl)];simp only[fV,S0];have hfx:(jA w i).foldl (qJ w y q) (fo i)=fo (i+1):=by rw[vV,vV,sr]
  rw[hfx];have xU:SF.wrap ((i:Int)+1)=((i+1:Nat):Int):=by rw[bG _ (by omega)];rfl
  refine⟨.ready,none,_,_,_,_,_,_,_,by show (AO _++_)[N+3]?=_;rw[ag];rfl,by decide,?_⟩;rw[show N+2+1=N+3 from rfl,tT,GP];(try simp only[seval]);refine Ej ?_;refine ak ?_;simp only[seval,xU];refine⟨i+1,?_,by omega,fe (by push_cast;simp only[seval];simp[bz,Wk.refl]) (by rw[pL,oM,SD];rfl),by rw[wV,hN]⟩;show p+1-(i+1)<p+1-i;omega
 ·have dw:i=p+1:=by omega
  subst dw;refine bZ ?_;have HX:∀o,(AO o)[H.length+6]?=some (.cells [iv o] 3):=λo=>by have:=a6 o [];rwa [S0]at this
  have nE:x.am.toNat=p:=by omega
  rw[nE]at hk;have aI:=hk (fo (p+1)) (by rw[vV,hw]);generalize fo (p+1)=o at aI⊢;(try refine nd ?_);refine ak ?_;simp only[seval,HX];obtain⟨Y,vI⟩:=Oc w (Bo o) (p+1) [];rw[S0,fJ]at vI;have QV:iC (wV (H.length+7) (p+1)) (AO o)=some (H++([.cells x.l 26,.cells [iv s] 3,.cells [iv q] 3,.cells x.l 26,.cells [.sl 1 [iv q] .exact] 22,.cells w.l 76,.cells [iv o] 3]++Y)):=by rw[pL,vI,qV,SD]
  (try refine nd ?_);refine aD ?_;refine⟨λho=> ?_,λho=> ?_⟩
  ·have bc:o<0:=(by simpa using ho);rw[if_pos bc,if_pos bc]at aI;refine aj ?_;refine aZ ?_;refine eg QV ?_;(try simp only[seval]);exact jr hH (Wk.refl _) (by simp[je,eI]) aI
  ·have bc:¬o<0:=(by simpa using ho);rw[if_neg bc,if_neg bc]at aI;refine aN ?_;refine If ?_;have HX:∀o,(AO o)[H.length+6]?=some (.cells [iv o] 3):=λo=>(by have:=a6 o [];rwa [S0]at this);refine ak ?_;simp only[seval,HX];refine aZ ?_;refine eg QV ?_;(try simp only[seval]);exact jr hH (Wk.refl _) (by simp[je,eI]) aI
end
open Go.Conc
section
variable (lv:Bool)(P:SJ)
def wI (s:AS)(o:Tx)(next:AS->Prop):Prop:=match o.op with
 |.buildSlice t len parts=>ao (qH P t) λ(e,sz,z)=>len* sz<=2^24/\ao (j4 s parts.toList) λl7=>ao (n5 (ik.at (.elems sz)) (gI z (len* sz)) l7) λl=>next ((⟨s.T,s.H++[.cells l e]⟩:AS).put o.dst (.bJ s.H.length 0 len len))
 |.call c=>match c.callee with
  |.builtin .append=>match c.args.toList,c.argTypes.toList with
   |[x,y],[t,t']=>ao (jK P t t') λ(elem,sz,_)=>ao (s.ev x) λa=>ao (s.ev y) λb=>a.vo λn l e=>e=.exact/\ao (s.src sz b) λ(m,l')=>l.length=n* sz/\l'.length=m* sz/\n+m<=2^30/\0<m/\next ((⟨s.T,s.H++[.own sz (l++l') elem]⟩:AS).put o.dst (.bJ s.H.length 0 (n+m) 0))
   |_,_=>False
  |_=>False
 |_=>False
def qD (m:Nat):Nat->List Tx->AS->(AS->Prop)->(AV->AS->Prop)->Prop
 |_,[],s,K,_=>K s
 |k,o::rest,s,K,bad=>o.guard=none/\(bif k==m then wI P s o (λs'=>qD m (k+1) rest s' K bad)else mz lv P s o (λs'=>qD m (k+1) rest s' K bad) bad)
end
section
variable {lv:Bool}{P:SJ}{r:Option Nat}{s:AS}
theorem wI.step{o:Tx}{next:AS->Prop}{bad:AV->AS->Prop}(h:wI P s o next):Step lv P r o s next bad:=by
 unfold wI at h;split at h
 ·rename_i t len parts ho;obtain⟨⟨e,sz,z⟩,h1,h2,h⟩:=h.out;obtain⟨l7,h3,h⟩:=h.out;obtain⟨l,h4,h⟩:=h.out;exact acJ ho h1 h2 h3 h4 h
 ·rename_i c ho;split at h
  ·rename_i aY;split at h
   ·rename_i x y t t' ha dR;obtain⟨⟨elem,sz,z⟩,h1,hA⟩:=h.out;obtain⟨a,h2,hB⟩:=hA.out;obtain⟨b,h3,hC⟩:=hB.out;obtain⟨n,l,e,e1,e0,hD⟩:=Od hC;subst e1 e0;obtain⟨⟨m,l'⟩,h4,h5,h6,h7,h8,h9⟩:=hD.out;exact acH ho aY (nc ha) (rW dR) h1 h2 h3 h4 h5 h6 h7 h8 h9
   ·exact h.elim
  ·exact h.elim
 ·exact h.elim
theorem qD.acA{m:Nat}{K:AS->Prop}{bad:AV->AS->Prop}:∀(l:List Tx)(k:Nat)(s:AS),qD lv P m k l s K bad->A0 lv P r l s K bad
 |[],k,s,h=>h
 |o::rest,k,s,h=>by
  obtain⟨h1,h2⟩:=h;refine⟨h1,?_⟩;have hs:∀{s'},qD lv P m (k+1) rest s' K bad->A0 lv P r rest s' K bad:=λ{s'} h=>qD.acA rest (k+1) s' h;cases hkm:(k==m)<;>rw[hkm]at h2<;>simp only[cond_true,cond_false]at h2
  rotate_left
  ·exact(wI.step h2).mono (λ_ h=>hs h) (λ_ _ h=>h)
  ·exact(mz.sound (r:=r) h2).mono (λ_ h=>hs h) (λ_ _ h=>h)
theorem afl{nt id:Nat}{ops:Array Tx}{Φ:an->AS->Prop}(m:Nat)(hd:jQ nt ops=true)(h:qD lv P m 0 ops.toList s (Φ .normal) (λpv s=>Φ (.panic pv) s)):aW lv P r nt (.region id ops false) s Φ:=afm hd (h.acA ops.toList 0 s)
end
theorem aeg:type_of% @wI.eq_1:=by intros;rw[wI.eq_1]
theorem anv:type_of% @qD.eq_1:=by intros;rw[qD.eq_1]
theorem anu:type_of% @qD.eq_2:=by intros;rw[qD.eq_2]
attribute [seval] aeg anv anu
open Go.Proofs Go.Gg.Tk
namespace Tk
def fF:ai:=⟨10,3,2,[⟨2,⟨12,13⟩⟩],[⟨⟨10,12⟩,⟨0,1⟩⟩,⟨⟨11,11⟩,⟨0,2⟩⟩,⟨⟨12,15⟩,⟨1,2⟩⟩],[⟨⟨12,12⟩,⟨0,2⟩⟩,⟨⟨10,15⟩,⟨2,2⟩⟩]⟩
def tx:ai:={fF with aB:=[⟨⟨15,15⟩,⟨0,0⟩⟩,⟨⟨10,15⟩,⟨2,2⟩⟩]}
end Tk
theorem adF:gI (TE #[SG .i64 0,SG .i64 0,SG .i64 0]) 3=[iv 0,iv 0,iv 0]:=rfl
theorem adE:gI (TE #[SG .i64 0,SG .i64 0,SG .i64 0,SG .i64 0]) 12=TM 12 (iv 0):=rfl
theorem adD:gI (TE #[SG .i64 0,SG .i64 0,SG .i64 0,SG .i64 0]) 8=[iv 0,iv 0,iv 0,iv 0,iv 0,iv 0,iv 0,iv 0]:=rfl
theorem abV:TM 12 (iv 0)=[iv 0,iv 0,iv 0,iv 0,iv 0,iv 0,iv 0,iv 0,iv 0,iv 0,iv 0,iv 0]:=rfl
theorem abx:(3<=2^24)=True:=eq_true (by decide)
theorem aby:(8<=2^24)=True:=eq_true (by decide)
theorem abw:(12<=2^24)=True:=eq_true (by decide)
section
variable {lv:Bool}{H:List aa}{k kp:AV->List aa->Prop}
theorem xb(hk:k fF.av H):bf lv SC 53 H [] k kp:=by
 refine bH (rs:=[.cell 0 26]) (nt:=11) ao' λhH hA=> ?_;simp only[br,SW];refine aj ?_;refine aj ?_;refine aK ((PX (a:=2) (b:=12) (c:=13) ?_));(try simp only[seval,Seen.av,Seen.l,jk.av,adF,abx]);refine aK ((qS (a:=10) (b:=12) (c:=0) (d:=1) ?_));(try simp only[seval]);refine aK ((qS (a:=11) (b:=11) (c:=0) (d:=2) ?_));(try simp only[seval]);refine aK ((qS (a:=12) (b:=15) (c:=1) (d:=2) ?_));(try simp only[seval,aC.av,aC.l,adE,abV,abw]);refine aK ((qS (a:=12) (b:=12) (c:=0) (d:=2) ?_));(try simp only[seval]);refine aK ((qS (a:=10) (b:=15) (c:=2) (d:=2) ?_));have aT:∀(L:List aa),(H++L)[H.length]?=L[0]?:=λL=>aX H L 0;have dK:∀(L:List aa)(y:aa),(H++L).set H.length y=H++L.set 0 y:=λL y=>ec H L 0 y;(try simp only[seval,aC.av,aC.l,adD,aby,aT,dK]);refine oN ?_;simp only[seval,aT];refine jr hH (b:=fF.av) (Nz (.cons (Wk.refl _) (.cons (Wk.refl _) (.cons (Wk.refl _) (.cons (iP _ _ _) (.cons (iP _ _ _) (.cons (iP _ _ _) .nil))))))) (by rw[Gn];trivial) hk
theorem ah3(hk:∀X:aa,k (.agg [iv 10,iv 3,iv 2,.sl 1 (fF.seen.flatMap Seen.l) .exact,.sl 3 (fF.pieces.flatMap aC.l) .exact,.bJ (H.length+1) 0 2 2]) (H++[X,.cells (fF.aB.flatMap aC.l) 48])):bf lv SC 53 H [] k kp:=by
 refine bH (rs:=[.cell 0 26]) (nt:=11) ao' λhH hA=> ?_;simp only[br,SW];refine aj ?_
 (repeat apply gW);refine afl 8 (by kernel_rfl) ?_
 simp only[seval];refine aK ((PX (a:=2) (b:=12) (c:=13) ?_));(try simp only[seval,Seen.av,Seen.l,jk.av,adF,abx]);refine aK ((qS (a:=10) (b:=12) (c:=0) (d:=1) ?_));(try simp only[seval]);refine aK ((qS (a:=11) (b:=11) (c:=0) (d:=2) ?_));(try simp only[seval]);refine aK ((qS (a:=12) (b:=15) (c:=1) (d:=2) ?_));(try simp only[seval,aC.av,aC.l,adE,abV,abw]);refine aK ((qS (a:=12) (b:=12) (c:=0) (d:=2) ?_));(try simp only[seval]);refine aK ((qS (a:=10) (b:=15) (c:=2) (d:=2) ?_));have aT:∀(L:List aa),(H++L)[H.length]?=L[0]?:=λL=>aX H L 0;have dK:∀(L:List aa)(y:aa),(H++L).set H.length y=H++L.set 0 y:=λL y=>ec H L 0 y;(try simp only[seval,aC.av,aC.l,adD,aby,aT,dK]);refine oN ?_;simp only[seval,aT];exact bW (hk _)
theorem ah4(hk:k tx.av H):bf lv SC 54 H [] k kp:=by
 refine bH (rs:=[.cell 0 26]) (nt:=8) Tryz.f54 λhH hA=> ?_;simp only[br,SW];have gf:∀(L:List aa)(j:Nat),(H++L)[H.length+j]?=L[j]?:=λL j=>aX H L j;have zO:∀(L:List aa)(j:Nat)(y:aa),(H++L).set (H.length+j) y=H++L.set j y:=λL j y=>ec H L j y;have aT:∀(L:List aa),(H++L)[H.length]?=L[0]?:=λL=>aX H L 0;have dK:∀(L:List aa)(y:aa),(H++L).set H.length y=H++L.set 0 y:=λL y=>ec H L 0 y;refine aj ?_;refine aj ?_;refine aK ((ah3 (λX=> ?_)));simp only[SD,Vf,UF];have lg:∀(L:List aa),(H++L)[H.length+2]?=L[2]?:=λL=>aX H L 2;have fP:∀(L:List aa)(y:aa),(H++L).set (H.length+2) y=H++L.set 2 y:=λL y=>ec H L 2 y;have zp:∀(L:List aa),(H++L)[H.length+3]?=L[3]?:=λL=>aX H L 3;have o4:∀(L:List aa)(y:aa),(H++L).set (H.length+3) y=H++L.set 3 y:=λL y=>ec H L 3 y;have hrx:fF.aB.flatMap aC.l=[iv 12,iv 12,iv 0,iv 2,iv 10,iv 15,iv 2,iv 2]:=rfl;rw[hrx];have e2:H.length+1+1=H.length+2:=rfl;(try simp only[seval,zp,o4,e2]);refine dT 4 ?_;simp only[seval,lg,fP,zp];refine ii _ (cI (qS (a:=15) (b:=15) (c:=0) (d:=0) ⟨rfl,rfl⟩)) ?_;(try simp only[seval,aC.av,aC.l,lg,fP]);obtain⟨rs,Cz⟩:∃rs,rs=tx.aB.flatMap aC.l:=⟨_,rfl⟩;have alf:[AV.val (SG SF 15),AV.val (SG SF 15),AV.val (SG SF 0),AV.val (SG SF 0),AV.val (SG SF 10),AV.val (SG SF 15),AV.val (SG SF 2),AV.val (SG SF 2)]=rs:=by rw[Cz];rfl
 have ux:rs.length=8:=by rw[Cz];rfl
 rw[alf];refine ak ?_;simp only[seval,aT,dK,zp]
 (repeat apply gW);refine Ic (id:=H.length+2) (by simp only[seval,lg]<;>rfl) ?_
 simp only[seval,fP,ux]
 (repeat apply gW);refine afr (id:=H.length) (j:=5) (y:=bp tx.aB) (by simp only[seval,aT]<;>rfl) rfl ?_ ?_
 ·have e:bp tx.aB=.sl 2 (rs.take 8) .shut:=by rw[SY (by omega),Cz];rfl
  rw[e];exact Ny (p:=8) (by simp only[seval,lg]<;>rfl) (by omega) (by omega)
 (try simp only[seval,dK]);refine oN ?_;simp only[seval,aT];refine jr hH (b:=tx.av) (Nz (.cons (Wk.refl _) (.cons (Wk.refl _) (.cons (Wk.refl _) (.cons (iP _ _ _) (.cons (iP _ _ _) (.cons (Wk.refl _) .nil))))))) (by rw[Gn];trivial) hk
end
open Go.Gg.Tk
theorem yh:fF.Ok:=by
 refine⟨by decide,by decide,by decide,by decide,by decide,by decide,λs hs=> ?_,λy hy=> ?_,λy hy=> ?_⟩
 ·simp only[fF,S9]at hs;subst hs;exact⟨by decide,by decide,by decide,by decide⟩
 ·simp only[fF,SL,S4,or_false]at hy;rcases hy with rfl|rfl|rfl<;>exact⟨⟨by decide,by decide,by decide⟩,⟨by decide,by decide,by decide⟩⟩
 ·simp only[fF,SL,S4,or_false]at hy;rcases hy with rfl|rfl<;>exact⟨⟨by decide,by decide,by decide⟩,⟨by decide,by decide,by decide⟩⟩
theorem anw:tx.Ok:=by
 refine⟨by decide,by decide,by decide,by decide,by decide,by decide,λs hs=> ?_,λy hy=> ?_,λy hy=> ?_⟩
 ·simp only[tx,fF,S9]at hs;subst hs;exact⟨by decide,by decide,by decide,by decide⟩
 ·simp only[tx,fF,SL,S4,or_false]at hy;rcases hy with rfl|rfl|rfl<;>exact⟨⟨by decide,by decide,by decide⟩,⟨by decide,by decide,by decide⟩⟩
 ·simp only[tx,SL,S4,or_false]at hy;rcases hy with rfl|rfl<;>exact⟨⟨by decide,by decide,by decide⟩,⟨by decide,by decide,by decide⟩⟩
theorem ahr:cnt fF=4:=by kernel_rfl
theorem ahu:live fF=[[10,11,13,14],[10,11,13,15],[10,12,13,14],[10,12,13,15]]:=by kernel_rfl
theorem ahs:(bA fF).head?=some ⟨[10,11,13,14],[12,11,13],[0,2]⟩:=by kernel_rfl
theorem ahv:ky (wl fF 2) 10 16=[13,14]:=by kernel_rfl
theorem PG:nP fF 0 0=true/\wq fF 0 0=false:=by decide+kernel
theorem PE:xe tx=some [0]:=by kernel_rfl
theorem ahp:sr (fF.wo [1]) ⟨⟨10,15⟩,⟨2,2⟩⟩ 0 3=1:=by kernel_rfl
open Go.Conc Go.Proofs
theorem Tk.Bounds.of_map{l:List (List Int)}{g:List Int->List Int}{v w:List Int->Int}{a b:Int}(h:Bounds (l.map g) v a b)(e:∀y∈l,v (g y)=w y):Bounds l w a b:=by
 obtain⟨g1,m1,e1⟩:=h.F9;obtain⟨g2,m2,e2⟩:=h.F8;obtain⟨y1,n1,rfl⟩:=Td.1 m1;obtain⟨y2,n2,rfl⟩:=Td.1 m2;exact⟨⟨y1,n1,e1.trans (e y1 n1)⟩,λy hy=>by rw[<- e y hy];exact h.le _ (Td.2 ⟨y,hy,rfl⟩),⟨y2,n2,e2.trans (e y2 n2)⟩,λy hy=>by rw[<- e y hy];exact h.ge _ (Td.2 ⟨y,hy,rfl⟩)⟩
theorem anV{h:List Int}{i:Nat}(hi:i<h.length):(cq h).getD i 0=h.getD i 0:=by
 unfold cq;rw[SE,SE,SX hi]
theorem amC{x:ai}{h:List Int}(hm:h∈live x):h.length=1+x.hours.toNat:=Fw (Ud.1 hm).1
theorem aom{x:ai}{D:Kn}(hx:x.Ok)(hD:eU x 0 D)(hh:D.has=true){hs:List (List Int)}(hp:hs.Perm D.aL)(v:List Int->Int)(w:List Int->Int)(e:∀y∈live x,v (cq y)=w y):Bounds (live x) w (hs.foldl (λb h=>b.add (v h)) (⟨0,0,false⟩:gT)).lo (hs.foldl (λb h=>b.add (v h)) (⟨0,0,false⟩:gT)).hi:=by
 have cO:=hp.trans (aat hx hD);have aE:hs≠[]:=λh=>by
  rw[h]at cO;have:=cO.length_eq;rw[Tp]at this;have h0:live x=[]:=List.eq_nil_of_length_eq_zero this.symm;rw[(wc hx hD).2 (L7.1 h0)]at hh;cases hh
 exact((af0 v aE).anG cO).of_map e
theorem Ga{x:ai}{deep:Int}{D:Kn}(hx:x.Ok)(hD:eU x deep D)(hh:D.has=true):bA x≠[]:=λh=>by
 rw[(wc hx hD).2 h]at hh;cases hh
theorem aaT{α:Type}{f:Nat->α}{l:List α}{n:Nat}(d:α)(hl:l.length=n)(h:∀i,i<n->f i=l.getD i d):(SZ n).map f=l:=by
 refine Yo λi=> ?_;rw[To];by_cases hi:i<n
 ·rw[Xw hi,UM,h i hi,SE,SQ (by omega)];rfl
 ·rw[Ut (by simp;omega),Ut (by omega)];rfl
theorem ag5{x:ai}(hx:x.Ok){u:Tr}(hu:u∈bA x){s:Nat}(hs:s<x.aB.length):(dH u).getD (8+s) 0=((u.bC.getD s 0:Nat):Int):=by
 obtain⟨h1,h2⟩:=u5 hx hu;have h3:=(Hg hx hu).1;have hh:=hx.hours;have mh:=hx.c9;have h4:=wu (h:=u.aO) (by omega);have dx:s<u.bC.length:=by omega
 have hg:(dH u)[8+s]?=some ((u.bC[s]:Nat):Int):=by
  unfold dH db kM;have h8:(cq u.aO++((u.ay.map λn=>(n-u.aO.headD 0).toNat).map (λn:Nat=>(n:Int))++TM (4-(u.ay.map λn=>(n-u.aO.headD 0).toNat).length) (-1))).length=8:=by simp[h4];omega
  rw[Th (by omega),h8,US,SX (by simpa using dx),To,SQ dx];rfl
 rw[SE,hg,SE,SQ dx];rfl
theorem adk{x:ai}{u:Tr}(hu:u∈bA x):u.aO.headD 0=x.first:=by
 obtain⟨h,a,b⟩:=S5.1 hu;rw[tH b];exact(zA _ _ _ (by simp) a).2
theorem aiC{x:ai}(hx:x.Ok){u:Tr}(hu:u∈bA x):(dH u).take (x.hours.toNat+1)=u.aO:=by
 have hl:=(u5 hx hu).1;have hh:=hx.hours;have h1:(dH u).take (x.hours.toNat+1)=((dH u).take 4).take (x.hours.toNat+1):=by rw[U1,Wz (by omega)]
 rw[h1,IW hx hu];exact Mt (by omega)
theorem aiD{x:ai}(hx:x.Ok){u:Tr}(hu:u∈bA x):sF x (dH u) x.pieces.length=u.ay:=by
 unfold sF;refine aaT 0 (u5 hx hu).2 λi hi=> ?_;rw[ag1 hx hu hi,adk hu];omega
theorem aiE{x:ai}(hx:x.Ok){u:Tr}(hu:u∈bA x):sG (dH u) x.aB.length=u.bC.map λn:Nat=>(n:Int):=by
 unfold sG;refine aaT 0 (by rw[Tp];exact(Hg hx hu).1) λi hi=> ?_;have hl:=(Hg hx hu).1;rw[ag5 hx hu hi,SE,SE,To,SQ (by omega)];rfl
theorem agc{x:ai}(hx:x.Ok):qO x= !(bA x).isEmpty:=by
 rw[UY];unfold qO;rw[Uv];have key:(∃i∈SZ (x.am.toNat+1),((jA x i).any λh=> !(gG x 0 h).isEmpty)=true)<->∃i,i<x.am.toNat+1/\eE x 0 i≠[]:=by
  refine exists_congr λi=> ?_;rw[Tu];refine and_congr_right λhi=> ?_;rw[Uv,ne_eq];unfold eE;rw[Vq];constructor
  ·rintro⟨h,h1,h2⟩ h3
   rw[h3 h h1]at h2;cases h2
  ·intro h1;refine Tl λh2=>h1 λh hm=> ?_;refine Tl λh3=>h2 ⟨h,hm,?_⟩;cases hc:gG x 0 h with
   |nil=>exact absurd hc h3
   |cons=>rfl
 rw[key];have k2:(∃i,i<x.am.toNat+1/\eE x 0 i≠[])<->l5 x 0≠[]:=by
  unfold l5;rw[<- ND hx,ne_eq,Vq];constructor
  ·rintro⟨i,h1,h2⟩ h3
   rw[y8 hx h1]at h2;exact h2 (by rw[h3 i (Tu.2 h1)];rfl)
  ·intro h1;refine Tl λh2=>h1 λi hi=> ?_;refine Tl λh3=>h2 ⟨i,Tu.1 hi,?_⟩;rw[y8 hx (Tu.1 hi)];simpa using h3
 rw[k2,ne_eq,N_];cases bA x<;>simp
section
variable {H:List aa}{k kp:AV->List aa->Prop}{x:ai}
theorem ahQ(hx:x.Ok)(hm:H[0]?=some .main)(hk:k (.aJ [iv (cnt x),iv 0]) H):bf true SC 21 H [x.av] k kp:=
 ahP hx hm λD hD=>by rw[count_eq hx hD];exact hk
theorem PR{hour:Nat}(hx:x.Ok)(hh:(hour:Int)<=x.hours)(hm:H[0]?=some .main)(h0:bA x=[]->k (.aJ [.agg [iv 0,iv 0],iv 11]) H)(h1:∀lo hi,bA x≠[]->Bounds (live x) (λh=>h.getD hour 0) lo hi->k (.aJ [.agg [iv lo,iv hi],iv 0]) H):bf true SC 36 H [x.av,iv hour] k kp:=
 ahY hx hh hm λD hD=>⟨λhn=>h0 ((wc hx hD).1 hn),λhy hs hp=>h1 _ _ (Ga hx hD hy) (aom hx hD hy hp (λh=>h.getD hour 0) _ λy o_=>anV (by rw[amC o_];have:=hx.hours;omega))⟩
theorem PQ{q:Nat}(hx:x.Ok)(hq:q<x.pieces.length)(hm:H[0]?=some .main)(h0:bA x=[]->k (.aJ [ba [],iv 11]) H)(h1:bA x≠[]->k (.aJ [ba (ky (wl x q) x.first 16),iv 0]) H):bf true SC 34 H [x.av,iv q] k kp:=
 ahX hx hq hm λD hD=>⟨λhn=>h0 ((wc hx hD).1 hn),λhy=>by rw[L4 λn _=>ant hx hD hq n];exact h1 (Ga hx hD hy)⟩
theorem ah1{q:Nat}(hx:x.Ok)(hq:q<x.pieces.length)(hm:H[0]?=some .main)(h0:bA x=[]->k (.aJ [ba [],iv 11]) H)(h1:bA x≠[]->k (.aJ [ba (ky (v8 x q) 0 16),iv 0]) H):bf true SC 39 H [x.av,iv q] k kp:=
 ah0 hx hq hm λD hD=>⟨λhn=>h0 ((wc hx hD).1 hn),λhy=>by rw[L4 λn _=>akL hx hD hq n];exact h1 (Ga hx hD hy)⟩
theorem PN{s q:Nat}(hx:x.Ok)(hs:s<x.aB.length)(hq:q<x.pieces.length)(hm:H[0]?=some .main)(hk:k (.aJ [iv (if(bA x).isEmpty then 0 else vM (nP x s q) (wq x s q)),iv (if(bA x).isEmpty then 11 else 0)]) H):bf true SC 28 H [x.av,iv s,iv q] k kp:=
 ahW hx hs hq hm λD hD=>by rw[anX hx hD hs,afH hx hD];exact hk
def BK (x:ai)(i:Nat):List Int:=(SZ i).flatMap λs=>if 1<(ky (nP x s) 0 16).length then[-1]else ky (nP x s) 0 16
theorem ahU(hx:x.Ok)(hm:H[0]?=some .main)(h0:bA x=[]->k (.aJ [ba [],iv 11]) H)(h1:bA x≠[]->k (.aJ [ba (BK x x.aB.length),iv 0]) H):bf true SC 26 H [x.av] k kp:=
 ahT hx hm λD hD=>⟨λhn=>h0 ((wc hx hD).1 hn),λhy=>by
  have e:uc D.aU x.aB.length=BK x x.aB.length:=by
   unfold uc BK;refine BD λs hs=> ?_;rw[L4 λn _=>Mu hx hD (Tu.1 hs) n]
  rw[e];exact h1 (Ga hx hD hy)⟩
theorem PL(hx:x.Ok)(hm:H[0]?=some .main)(h0:bA x=[]->k (.aJ [ba [],ba [],ba [],iv 11]) H)(h1:∀u l,bA x=u::l->k (.aJ [ba u.aO,ba u.ay,ba (u.bC.map λn:Nat=>(n:Int)),iv 0]) H):bf true SC 18 H [x.av] k kp:=
 ahN hx hm λD hD=>⟨λhn=>h0 ((wc hx hD).1 hn),λhy=>by
  obtain⟨u,l,e1,e2⟩:=alP hx hD hy;have hu:u∈bA x:=by rw[e1];simp
  rw[e2,aiC hx hu,aiD hx hu,aiE hx hu];exact h1 u l e1⟩
end
theorem PF:(bA fF).isEmpty=false:=by kernel_rfl
theorem ahq{lo hi:Int}(h:Bounds (live fF) (λh=>h.getD 1 0) lo hi):lo=11/\hi=12:=by
 have k:Bounds (live fF) (λh=>h.getD 1 0) 11 12:=by
  rw[ahu];exact⟨⟨[10,11,13,14],by simp,rfl⟩,by decide,⟨[10,12,13,14],by simp,rfl⟩,by decide⟩
 exact h.uniq k
theorem aht:BK fF 2=[0,2]:=by kernel_rfl
theorem z3:gI (SG .i64 0) 3=[iv 0,iv 0,iv 0]:=rfl
theorem z4:gI (SG .i64 0) 4=[iv 0,iv 0,iv 0,iv 0]:=rfl
section
variable {H:List aa}{k kp:AV->List aa->Prop}
theorem ahO(hm:H[0]?=some .main)(hk:k (bv true) H):bf true SC 19 H [] k kp:=by
 have aE:bA fF≠[]:=λh=>by have:=PF;rw[h]at this;cases this
 refine bH (rs:=[.tmp 0]) (nt:=138) Tryz.f19 λhH hA=> ?_;simp only[br,SW];have aT:∀(L:List aa),(H++L)[H.length]?=L[0]?:=λL=>aX H L 0;have dK:∀(L:List aa)(y:aa),(H++L).set H.length y=H++L.set 0 y:=λL y=>ec H L 0 y;refine aj ?_;refine aj ?_;refine aK ((xb ?_));(try simp only[seval]);refine aK ((ahQ yh hm ?_));rw[ahr];(try simp only[seval]);refine aj ?_;refine aK ((xb ?_));(try simp only[seval]);refine aK ((PR (hour:=1) yh (by decide) hm (λh=>absurd h aE) (λlo hi _ hb=> ?_)));obtain⟨rfl,rfl⟩:=ahq hb;(try simp only[seval,aT,dK]);refine aj ?_;refine aK ((xb ?_));(try simp only[seval]);refine aK ((PQ (q:=2) yh (by decide) (fI hm) (λh=>absurd h aE) (λ_=> ?_)));rw[show ky (wl fF 2) fF.first 16=[13,14]from ahv];(try simp only[seval]);refine aj ?_;refine aK ((xb ?_));(try simp only[seval]);refine aK ((PN (s:=0) (q:=0) yh (by decide) (by decide) (fI hm) ?_));rw[PF,PG.1,PG.2,show vM true false=1 from rfl];(try simp only[seval]);refine aj ?_;refine aK ((xb ?_));(try simp only[seval]);refine aK ((ahU yh (fI hm) (λh=>absurd h aE) (λ_=> ?_)));rw[show BK fF fF.aB.length=[0,2]from aht];(try simp only[seval]);refine aj ?_;refine aK ((xb ?_));(try simp only[seval]);refine aK ((PO (x:=fF) (s:=1) (q:=0) (y:=⟨⟨10,15⟩,⟨2,2⟩⟩) yh rfl (by decide) (λo ho=> ?_)));rw[show sr (fF.wo [((1:Nat):Int)]) ⟨⟨10,15⟩,⟨2,2⟩⟩ 0 (fF.am.toNat+1)=1 from ahp]at ho;subst ho;(try simp only[seval]);refine aj ?_;refine aK ((ah4 ?_));(try simp only[seval]);refine aK ((PP anw (λl hl=> ?_) (λh=>by rw[PE]at h;cases h)));rw[PE]at hl;cases hl;(try simp only[seval]);refine aj ?_;refine aK ((xb ?_));(try simp only[seval]);refine aK ((PL yh (fI hm) (λh=>absurd h aE) (λu l hu=> ?_)));have kG:=ahs;rw[hu]at kG;cases kG;(try simp only[seval]);refine dT 77 ?_;simp only[seval,Vr,aT,beq_self_eq_true];refine ii (.agg [iv 11,iv 12]) (cI (ahS ⟨rfl,rfl⟩)) ?_;have fh:∀k,dF SC .eql 46 (.agg [iv 11,iv 12]) (.agg [iv 11,iv 12]) k=k (bv true):=λk=>aeu (P:=SC) (t:=46) (n:=2) (xs:=[11,12]) (ys:=[11,12]) (by kernel_rfl) (by kernel_rfl) rfl rfl k;simp only[iv,bv]at fh;(try simp only[seval,fh,Vr,beq_self_eq_true,z2]);(try refine⟨by decide,?_⟩);refine ii (bv true) (cI (yX (xs:=[13,14]) (ys:=[13,14]) (e:=.shut) (e':=.exact) (by decide) ⟨by rw[decide_eq_true rfl],rfl⟩)) ?_;(try simp only[seval,Vr,z1,z2,z3,z4]);(try refine⟨by decide,?_⟩);refine ii (bv true) (cI (yX (xs:=[0,2]) (ys:=[0,2]) (e:=.shut) (e':=.exact) (by decide) ⟨by rw[decide_eq_true rfl],rfl⟩)) ?_;(try simp only[seval,Vr,z1,z2,z3,z4]);(try refine⟨by decide,?_⟩);refine ii (bv true) (cI (yX (xs:=[0]) (ys:=[0]) (e:=.shut) (e':=.exact) (by decide) ⟨by rw[decide_eq_true rfl],rfl⟩)) ?_;(try simp only[seval,Vr,z1,z2,z3,z4]);(try refine⟨by decide,?_⟩);refine ii (bv true) (cI (yX (xs:=[10,11,13,14]) (ys:=[10,11,13,14]) (e:=.shut) (e':=.exact) (by decide) ⟨by rw[decide_eq_true rfl],rfl⟩)) ?_;(try simp only[seval,Vr,z1,z2,z3,z4]);(try refine⟨by decide,?_⟩);refine ii (bv true) (cI (yX (xs:=[12,11,13]) (ys:=[12,11,13]) (e:=.shut) (e':=.exact) (by decide) ⟨by rw[decide_eq_true rfl],rfl⟩)) ?_;(try simp only[seval,Vr,z1,z2,z3,z4]);(try refine⟨by decide,?_⟩);refine ii (bv true) (cI (yX (xs:=[0,2]) (ys:=[0,2]) (e:=.shut) (e':=.exact) (by decide) ⟨by rw[decide_eq_true rfl],rfl⟩)) ?_;(try simp only[seval,Vr,z1,z2,z3,z4]);refine aZ ?_;exact jr hH (Wk.refl _) (.val _) hk
theorem ars(m:Nat)(τ:bt):eV m (yo τ):=λa ha=>by
 simp only[SL,S4,or_false]at ha;rcases ha with rfl|rfl|rfl
 ·rw[x7];trivial
 ·exact .val _
 ·exact .val _
end
theorem OJ{f:Nat->Bool}{m:Int}{i n:Nat}(hn:n<i)(h:f n=true):(n:Int)+m∈ky f m i:=
 Td.2 ⟨n,Ud.2 ⟨Tu.2 hn,h⟩,rfl⟩
theorem OH{f:Nat->Bool}{m v:Int}{i:Nat}:v∈ky f m i<->∃n:Nat,n<i/\f n=true/\v=(n:Int)+m:=by
 unfold ky;constructor
 ·intro h;obtain⟨n,hn,rfl⟩:=Td.1 h;obtain⟨h1,h2⟩:=Ud.1 hn;exact⟨n,Tu.1 h1,h2,rfl⟩
 ·rintro⟨n,h1,h2,rfl⟩
  exact OJ h1 h2
variable {x:ai}
namespace Tk
end Tk
theorem OI(f:Nat->Bool)(m:Int)(i:Nat):(ky f m i).length<=i:=by
 unfold ky;rw[Tp];have:=List.length_filter_le f (SZ i);rwa [ZE]at this
variable {x:ai}
def uu (u:Tr)(p:Nat):Int:=gw u.aO (u.ay.getD p 0)
theorem R9(hx:x.Ok){u:Tr}(hu:u∈bA x){p:Nat}(hp:p<x.pieces.length):0<=uu u p/\uu u p<3:=by
 have h:=(z9 hx).1 hu;have hh:=hx.hours;have hf:=h.piece p _ (SQ hp);unfold Tk.fits at hf;rw[Tc,Tc,decide_eq_true_eq]at hf;have h1:ft 0 u.aO (u.ay.getD p 0)=uu u p:=rfl;have h2:=Nn u.aO 0 hf.1.1;have h3:=h.aO.len;rw[h1]at h2;exact⟨hf.1.1,by omega⟩
theorem akM(hx:x.Ok){p:Nat}(hp:p<x.pieces.length){v:Int}:v∈ky (v8 x p) 0 16<->∃u∈bA x,v=uu u p:=by
 constructor
 ·intro h;obtain⟨n,h1,h2,h3⟩:=OH.1 h;obtain⟨u,hu,e⟩:=sq.1 h2;have e:(uu u p).toNat=n:=of_decide_eq_true e;have:=R9 hx hu hp;exact⟨u,hu,by omega⟩
 ·rintro⟨u,hu,rfl⟩
  have:=R9 hx hu hp;have e:=OJ (f:=v8 x p) (m:=0) (i:=16) (n:=(uu u p).toNat) (by omega) (sq.2 ⟨u,hu,by unfold uu;simp⟩);rwa [Int.add_zero,Zd this.1]at e
open Go.Gg.Tk
variable {x:ai}
theorem O0(x:ai):0<cnt x<->bA x≠[]:=by
 unfold cnt;rw[show (0:Int)<((live x).length:Int)<->live x≠[] by rw[<- Vs];omega];exact not_congr L7
theorem abb(hx:x.Ok){u:Tr}(hu:AN x u){p:Nat}(hp:p<x.pieces.length):x.first<=u.ay.getD p 0/\u.ay.getD p 0<x.first+9:=by
 have hf:=hu.piece p _ (SQ hp);unfold Tk.fits at hf;rw[Tc,Tc,decide_eq_true_eq]at hf;have h:=(Np hu.aO.mono).1 hf.1.1;rw[J6 hu.aO,aaw hu.aO]at h;have hh:=hx.hours;have:=hu.aO.top hx.first hx.am (by omega) x.hours.toNat (SR _);omega
namespace Tk
def Jm (x:ai):Option (List Int):=(Eo x.aB.length).find? λl=>decide (0<cnt (x.wo l))
theorem amB:∀n,n<4->uM n=Eo n:=by decide+kernel
theorem agb{x:ai}(hx:x.Ok):qO x=decide (0<cnt x):=by
 rw[agc hx];have:=O0 x;cases h:bA x with
 |nil=>
  have:¬0<cnt x:=λe=>(this.1 e) h;rw[decide_eq_false this];rfl
 |cons a l=>
  rw[decide_eq_true (this.2 (by rw[h];simp))];rfl
theorem aiV{x:ai}(hx:x.Ok):xe x=Jm x:=by
 unfold xe Jm;rw[amB _ (by have:=hx.eK;omega)];congr 1;funext l;exact agb (hx.wo l)
theorem arV(x:ai):x.wo []=x:=rfl
theorem agj:∀n,n<4->(Eo n).head?=some []:=by decide+kernel
theorem aiW{x:ai}(hx:x.Ok)(h:bA x≠[]):xe x=some []:=by
 have hs:=hx.eK;have hh:=agj x.aB.length (by omega);rw[aiV hx];unfold Jm;cases hc:Eo x.aB.length with
 |nil=>rw[hc]at hh;cases hh
 |cons a l=>
  rw[hc,X4]at hh;cases hh;rw[YT];rw[arV];exact decide_eq_true ((O0 x).2 h)
end Tk
open Go.Gg.Tk
namespace Tk
def w9 (ss:List aC)(ns:List Int):Nat->List aC
 |0=>[]
 |i+1=>if(i:Int)∈ns then w9 ss ns i else w9 ss ns i++(ss[i]?).toList
theorem Po(ss:List aC)(ns:List Int):∀i,(w9 ss ns i).length<=i
 |0=>SR _
 |i+1=>by
  have:=Po ss ns i;unfold w9;split
  ·omega
  ·rw[SO];have:(ss[i]?).toList.length<=1:=(by cases ss[i]?<;>simp);omega
theorem IM{ss:List aC}{ns:List Int}:∀{i:Nat}{y:aC},y∈w9 ss ns i->y∈ss
 |0,y,h=>by cases h
 |i+1,y,h=>by
  unfold w9 at h;split at h
  ·exact IM h
  ·rcases SS.1 h with h|h
   ·exact IM h
   ·cases hi:ss[i]?with
    |none=>rw[hi]at h;cases h
    |some z=>
     rw[hi]at h;simp only[YR,S9]at h;rw[h];exact Tf hi
def ai.wk (x:ai)(ns:List Int):ai:={x with aB:=w9 x.aB ns x.aB.length}
theorem ai.Ok.wk{x:ai}(h:x.Ok)(ns:List Int):(x.wk ns).Ok:=⟨h.first,h.hours,h.am,h.yi,h.c9,UB (Po _ _ _) h.eK,h.seen,λy hy=>⟨(h.piece y hy).1,(h.piece y hy).2⟩,λy hy=>have k:=h.stub y (IM hy);⟨k.1,k.2⟩⟩
end Tk
open Go.Conc
section
variable {lv:Bool}{P:SJ}{r:Option Nat}{o:Tx}{s:AS}{next:AS->Prop}{bad:AV->AS->Prop}
end
open Go.Proofs Go.Gg.Tk
section
variable {lv:Bool}{H:List aa}{k kp:AV->List aa->Prop}
end
namespace Tk
def Dk (x:ai)(p:Nat)(y:aC):ai:={x with pieces:=x.pieces.set p y}
end Tk
variable {x:ai}
open Go.Conc Go.Proofs Go.Gg.Tk
section
variable {lv:Bool}{P:SJ}{r:Option Nat}
end
section
variable {lv:Bool}{H:List aa}{k kp:AV->List aa->Prop}
end
namespace Tk
def jZ (P:Int->Prop)(o:Int):Prop:=(o= -1/\∀d,¬P d)\/(0<=o/\P o/\∀d,P d->o<=d)
theorem jZ.congr{P Q:Int->Prop}{o:Int}(h:∀d,P d<->Q d)(hP:jZ P o):jZ Q o:=by
 rcases hP with⟨e,h1⟩|⟨e,h1,h2⟩
 ·exact .inl ⟨e,λd hd=>h1 d ((h d).2 hd)⟩
 ·exact .inr ⟨e,(h o).1 h1,λd hd=>h2 d ((h d).2 hd)⟩
theorem jZ.uniq{P:Int->Prop}{a b:Int}(ha:jZ P a)(hb:jZ P b):a=b:=by
 rcases ha with⟨e,h1⟩|⟨e,h1,h2⟩<;>rcases hb with⟨f,g1⟩|⟨f,g1,g2⟩
 ·omega
 ·exact absurd g1 (h1 _)
 ·exact absurd h1 (g1 _)
 ·have:=h2 _ g1;have:=g2 _ h1;omega
theorem jZ.add{P:Int->Prop}{o m o':Int}(h:jZ P o)(hm:0<=m)(ho:o'=if o<0\/m<o then m else o):jZ (λd=>P d\/d=m) o':=by
 subst ho;right;rcases h with⟨e,h1⟩|⟨e,h1,h2⟩
 ·rw[if_pos (.inl (by omega))];exact⟨hm,.inr rfl,λd hd=>by
   rcases hd with hd|hd
   ·exact absurd hd (h1 d)
   ·omega⟩
 ·by_cases c:m<o
  ·rw[if_pos (.inr c)];exact⟨hm,.inr rfl,λd hd=>by
    rcases hd with hd|hd
    ·have:=h2 d hd;omega
    ·omega⟩
  ·rw[if_neg (by omega)];exact⟨e,.inl h1,λd hd=>by
    rcases hd with hd|hd
    ·exact h2 d hd
    ·omega⟩
def j5 (a b:Int):Int:=max (a-b) (b-a)
theorem P2(a b:Int):0<=j5 a b:=by unfold j5;omega
theorem anl{P:Int->Prop}{o n k:Int}(h:jZ P o):jZ (λd=>P d\/d=j5 k n) (Gv n o k):=by
 refine h.add (P2 k n) ?_;have ho:o= -1\/0<=o:=by rcases h with⟨e,_⟩|⟨e,_⟩<;>omega
 have hf:=P2 k n;unfold Gv;show wi [o,j5 k n]=_;generalize j5 k n=m at hf;show uL (uL (-1) o) m=_;unfold uL;rcases ho with ho|ho
 ·subst ho;simp only[show ¬((0:Int)<= -1/\((-1:Int)<0\/(-1:Int)< -1)) by omega,if_false];rw[if_pos (by omega),if_pos (by omega)]
 ·rw[if_pos (show 0<=o/\((-1:Int)<0\/o< -1) by omega)];by_cases c:m<o
  ·rw[if_pos (by omega),if_pos (by omega)]
  ·rw[if_neg (by omega),if_neg (by omega)]
theorem aa1{n:Int}:∀(l:List Int){P:Int->Prop}{o:Int},jZ P o->jZ (λd=>P d\/∃k∈l,d=j5 k n) (ya l n o)
 |[],P,o,h=>h.congr λd=>by simp
 |k::l,P,o,h=>(aa1 l (anl (k:=k) (n:=n) h)).congr λd=>by
  simp only[SL,exists_eq_or_imp,or_assoc]
theorem H5{own q:Nat}:∀(ts:List (List Int)){P:Int->Prop}{o:Int}{met:Nat},jZ P o->(∀n:Nat,met.testBit n=true->∀k∈dM own 0 16,P (j5 k n))->jZ (λd=>P d\/∃t∈ts,∃k∈dM own 0 16,d=j5 k (iA t q)) (ts.foldl (mG own q) (o,met)).1
 |[],P,o,met,h,_=>h.congr λd=>by simp
 |t::ts,P,o,met,h,hm=>by
  rw[UR];by_cases hb:met.testBit (iA t q)=true
  ·have e:mG own q (o,met) t=(o,met):=(by unfold mG;dsimp only;rw[if_pos hb]);rw[e];refine(H5 ts h hm).congr λd=> ?_;simp only[SL,exists_eq_or_imp];constructor
   ·rintro(h1|h1)
    ·exact .inl h1
    ·exact .inr (.inr h1)
   ·rintro(h1|⟨k,hk,rfl⟩|h1)
    ·exact .inl h1
    ·exact .inl (hm _ hb k hk)
    ·exact .inr h1
  ·have e:mG own q (o,met) t=(ya (dM own 0 16) (iA t q) o,met|||2^iA t q):=(by unfold mG;dsimp only;rw[if_neg hb]);rw[e];refine(H5 ts (aa1 (dM own 0 16) (n:=iA t q) h) λn hn k hk=> ?_).congr λd=> ?_
   ·rw[WM,Vy,X8,decide_eq_true_eq]at hn;rcases hn with hn|hn
    ·exact .inl (hm n hn k hk)
    ·subst hn;exact .inr ⟨k,hk,rfl⟩
   ·simp only[SL,exists_eq_or_imp,or_assoc]
theorem amz(i:Nat):dM 0 0 i=[]:=by
 unfold dM;rw[WW.2 (λa _=>by simp)];rfl
theorem aeK{x:ai}{y:aC}{q:Nat}{h:List Int}{P:Int->Prop}{o:Int}(hP:jZ P o):jZ (λd=>P d\/∃t∈gG x 1 h,∃k∈dM (bR h y) 0 16,d=j5 k (iA t q)) (qJ x y q o h):=by
 unfold qJ;by_cases hf:bR h y=0
 ·rw[if_pos hf,hf,amz];exact hP.congr λd=>by simp
 ·rw[if_neg hf];exact H5 _ hP λn hn=>by simp at hn
theorem Oa{x:ai}{y:aC}{q:Nat}:∀(hs:List (List Int)){P:Int->Prop}{o:Int},jZ P o->jZ (λd=>P d\/∃h∈hs,∃t∈gG x 1 h,∃k∈dM (bR h y) 0 16,d=j5 k (iA t q)) (hs.foldl (qJ x y q) o)
 |[],P,o,h=>h.congr λd=>by simp
 |g::hs,P,o,h=>(Oa hs (aeK (h:=g) h)).congr λd=>by
  simp only[SL,exists_eq_or_imp,or_assoc]
theorem Ob{x:ai}{y:aC}{q:Nat}:∀n:Nat,jZ (λd=>∃i,i<n/\∃h∈jA x i,∃t∈gG x 1 h,∃k∈dM (bR h y) 0 16,d=j5 k (iA t q)) (sr x y q n)
 |0=> .inl ⟨rfl,λd ⟨i,h,_⟩=>absurd h (by omega)⟩
 |n+1=>(Oa (jA x n) (Ob n)).congr λd=>by
  constructor
  ·rintro(⟨i,h1,h2⟩|h2)
   ·exact⟨i,by omega,h2⟩
   ·exact⟨n,by omega,h2⟩
  ·rintro⟨i,h1,h2⟩
   by_cases e:i=n
   ·subst e;exact .inr h2
   ·exact .inl ⟨i,by omega,h2⟩
theorem aaH{s:Nat}{k:Int}:k∈dM s 0 16<->∃n:Nat,n<16/\s.testBit n=true/\k=n:=by
 unfold dM;simp only[Td,Ud,Tu];constructor
 ·rintro⟨n,⟨h1,h2⟩,rfl⟩;exact⟨n,h1,h2,by omega⟩
 ·rintro⟨n,h1,h2,rfl⟩;exact⟨n,⟨h1,h2⟩,by omega⟩
end Tk
theorem aeL{x:ai}(hx:x.Ok){y:aC}{q:Nat}(hq:q<x.pieces.length):jZ (λd=>∃u∈bA x,∃n,fits u.aO y n=true/\d=j5 n (u.ay.getD q 0)) (sr x y q (x.am.toNat+1)):=by
 refine(Ob _).congr λd=> ?_;have key:(∃u∈l5 x 1,∃n,fits u.aO y n=true/\d=j5 n (u.ay.getD q 0))<->∃u∈bA x,∃n,fits u.aO y n=true/\d=j5 n (u.ay.getD q 0):=H2 (P:=λh ns=>∃n,fits h y n=true/\d=j5 n (ns.getD q 0));rw[<- key];have one:∀(h:List Int)(u:Tr),vb x h->u∈bA x->u.aO=h->((∃k∈dM (bR (cq h) y) 0 16,d=j5 k (iA (dH u) q))<->∃n,fits u.aO y n=true/\d=j5 n (u.ay.getD q 0)):=by
  rintro h u hL hu rfl
  have ht:=(z9 hx).1 hu;have hn:=abb hx ht hq;have hd:u.aO.headD 0=x.first:=adk hu;rw[PA hx hu hq,hd];obtain⟨w,hw⟩:∃w:Nat,u.ay.getD q 0-x.first=w:=⟨(u.ay.getD q 0-x.first).toNat,by omega⟩;rw[show (u.ay.getD q 0-x.first).toNat=w by omega];have Ck:mr u.aO<=9:=by unfold mr;have:=hL.span;have:=hL.head;omega
  constructor
  ·rintro⟨k,hk,rfl⟩
   obtain⟨n,h1,h2,rfl⟩:=aaH.1 hk;have KC:n<9:=by
    refine Tl λh=> ?_;have:(bR (cq u.aO) y).testBit n=false:=Nat.testBit_lt_two_pow (Te Bl (Wu (by decide) (by omega)));rw[this]at h2;cases h2
   rw[Bj hL y KC,Tc,hd]at h2;exact⟨x.first+n,h2.2,by unfold j5;omega⟩
  ·rintro⟨n,hf,rfl⟩
   have zr:=P9 ht.aO.mono hf;unfold C7 at zr;obtain⟨i,hir,rfl⟩:=Td.1 zr;have kC:i<mr u.aO:=Tu.1 hir;refine⟨(i:Int),aaH.2 ⟨i,by omega,?_,rfl⟩,by rw[hd];unfold j5;omega⟩;rw[Bj hL y (by omega),decide_eq_true kC,hf];rfl
 unfold l5;rw[<- Fv hx.hours.1];constructor
 ·rintro⟨i,hi,h,hh,t,ht,hk⟩
  rw[Fu hx.hours.1 hi]at hh;obtain⟨g,hg,rfl⟩:=Td.1 hh;have hL:=Ft hx hi hg;rw[Nr hL]at ht;obtain⟨u,hu,rfl⟩:=Td.1 ht;have pS:g∈aL x:=by rw[<- Fv hx.hours.1];exact S5.2 ⟨i,Tu.2 hi,hg⟩
  have CG:=wD hu;refine⟨u,S5.2 ⟨g,S5.2 ⟨i,Tu.2 hi,hg⟩,hu⟩,(one g u hL (S5.2 ⟨g,pS,CG⟩) (tH CG)).1 hk⟩
 ·rintro⟨u,hu,hk⟩
  obtain⟨g,zu,hu⟩:=S5.1 hu;obtain⟨i,hi,hg⟩:=S5.1 zu;have hi:=Tu.1 hi;have hL:=Ft hx hi hg;have pS:g∈aL x:=by rw[<- Fv hx.hours.1];exact zu
  have CG:=wD hu;refine⟨i,hi,cq g,?_,dH u,?_,(one g u hL (S5.2 ⟨g,pS,CG⟩) (tH CG)).2 hk⟩
  ·rw[Fu hx.hours.1 hi];exact Td.2 ⟨g,hg,rfl⟩
  ·rw[Nr hL];exact Td.2 ⟨u,hu,rfl⟩
open Go.Gg.Tk
namespace Tk
def lW:List Int->List Int->Bool
 |_,[]=>false
 |[],_::_=>true
 |a::l,b::m=>if a=b then lW l m else decide (a<b)
def Before (l m:List Int):Prop:=∃k,l.take k=m.take k/\k<l.length/\k<m.length/\l.getD k 0<m.getD k 0
theorem acz:∀l:List Int,lW l l=false
 |[]=>rfl
 |a::l=>by unfold lW;rw[if_pos rfl];exact acz l
theorem acy:∀{l m:List Int},Before l m->lW m l=false
 |[],m,⟨k,_,h,_⟩=>absurd h (by simp)
 |a::l,[],⟨k,_,_,h,_⟩=>absurd h (by simp)
 |a::l,b::m,⟨0,_,_,_,h⟩=>by
  have h:a<b:=h;unfold lW;rw[if_neg (by omega)];exact decide_eq_false (by omega)
 |a::l,b::m,⟨k+1,h1,h2,h3,h4⟩=>by
  rw[U8,U8,WQ]at h1;unfold lW;rw[if_pos h1.1.symm];simp only[Ui]at h2 h3;exact acy ⟨k,h1.2,by omega,by omega,by simpa using h4⟩
theorem Rw{x:ai}:∀(d:Nat)(pre:List Int),pre≠[]->(jz x d pre).Pairwise Before
 |0,pre,_=>by
  unfold jz;split
  ·exact List.pairwise_singleton _ _
  ·exact X6
 |d+1,pre,hp=>by
  unfold jz;split
  ·rw[YH];refine⟨λn _=>Rw d _ (by simp),?_⟩;refine(List.pairwise_lt_range).imp λ{a b} fh g hg k hk=> ?_;have hg:=(Cf d _ g (by simp)).1 hg;have hk:=(Cf d _ k (by simp)).1 hk;have h1:=hg.2.1;have h2:=hk.2.1;rw[SO,TY]at h1 h2;obtain⟨a1,a2,a3⟩:=Ay.1 h1;obtain⟨b1,b2,b3⟩:=Ay.1 h2;exact⟨pre.length,by rw[a1,b1],a2,b2,by omega⟩
  ·exact X6
theorem akh(x:ai):(aL x).Pairwise Before:=Rw _ _ (by simp)
theorem aiF{x:ai}{u w:Tr}{l:List Tr}(ht:bA x=u::l)(hw:w∈bA x):lW w.aO u.aO=false:=by
 have xH:w.aO∈live x:=zZ.2 ⟨w,hw,rfl⟩;have hs:(live x).Pairwise Before:=(akh x).sublist List.filter_sublist;have hh:((live x).map λh=>(kq x h)).flatten=bA x:=by
  unfold bA live;rw[<- Wh,aiI]
 cases hl:live x with
 |nil=>rw[hl]at xH;cases xH
 |cons g m=>
  have hg:g∈live x:=by rw[hl];simp
  have aE:kq x g≠[]:=λe=>by
   have:=(Ud.1 hg).2;rw[e]at this;cases this
  have hu:u.aO=g:=by
   rw[hl,UP,List.flatten_cons,ht]at hh;cases hc:kq x g with
   |nil=>exact absurd hc aE
   |cons v n=>
    rw[hc,Vf,WQ]at hh;rw[<- hh.1];exact tH (h:=g) (by rw[hc];simp)
  rw[hl]at xH hs;rcases SL.1 xH with e|e
  ·rw[e,hu];exact acz _
  ·rw[hu];exact acy ((List.pairwise_cons.1 hs).1 _ e)
where
 aiI {x:ai}:∀{l:List (List Int)},(l.filter λh=> !(kq x h).isEmpty).flatMap (λh=>kq x h)=l.flatMap (kq x):=by
  intro l;induction l with
  |nil=>rfl
  |cons a l ih=>
   cases hc:kq x a with
   |nil=>rw[YK (by rw[hc];simp),ih,T9,hc];rfl
   |cons v n=>rw[YJ (by rw[hc];simp),T9,ih,T9]
end Tk
variable {x:ai}
theorem anY{s p:Nat}(hs:nP x s p=true)(o:Bool):vM (nP x s p) o≠2:=by
 rw[hs];cases o<;>decide
theorem anZ{u:Tr}(hu:u∈bA x){s:Nat}:nP x s (u.bC.getD s 0)=true:=sq.2 ⟨u,hu,by simp⟩
theorem anq(hx:x.Ok){u:Tr}(hu:u∈bA x){p:Nat}(hp:p<x.pieces.length):u.ay.getD p 0∈ky (Tk.wl x p) x.first 16:=by
 have ht:=(z9 hx).1 hu;have h:=abb hx ht hp;refine OH.2 ⟨(u.ay.getD p 0-x.first).toNat,by omega,sq.2 ⟨u,hu,?_⟩,by omega⟩;rw[J6 ht.aO];simp
theorem akK(hx:x.Ok){u:Tr}(hu:u∈bA x){p:Nat}(hp:p<x.pieces.length):uu u p∈ky (v8 x p) 0 16:=(akM hx hp).2 ⟨u,hu,rfl⟩
theorem arW{u:Tr}(h:AN x u){s:Nat}(hs:s<x.aB.length):AN (x.wo [(s:Int)]) {u with bC:=u.bC.eraseIdx s}:=by
 have e:(x.wo [(s:Int)]).aB=x.aB.eraseIdx s:=by
  show qR x.aB [(s:Int)]=_;unfold qR;simp
 have hl:=h.uS;refine⟨h.aO,h.seen,h.uR,h.piece,h.Gx,?_,λv hv=>h.own v (Yn hv),λi y hy=> ?_,h.GL.sublist (List.eraseIdx_sublist _ _)⟩
 ·rw[e];show (u.bC.eraseIdx s).length=_;rw[VG (by omega),VG hs,hl]
 ·rw[e,YA]at hy;show fits u.aO y (u.ay.getD ((u.bC.eraseIdx s).getD i 0) 0)=true;rw[SE (l:=u.bC.eraseIdx s),YA];split
  ·rename_i hi;rw[if_pos hi]at hy;have:=h.stub i y hy;rwa [SE (l:=u.bC)]at this
  ·rename_i hi;rw[if_neg hi]at hy;have:=h.stub (i+1) y hy;rwa [SE (l:=u.bC)]at this
theorem aeM(hx:x.Ok){u:Tr}(hu:u∈bA x){s:Nat}{y:aC}(hy:x.aB[s]?=some y):sr (x.wo [(s:Int)]) y (u.bC.getD s 0) (x.am.toNat+1)=0:=by
 have ht:=(z9 hx).1 hu;have hs:=(SM.1 hy).1;have hp:u.bC.getD s 0<x.pieces.length:=ht.own _ (Qu (by rw[ht.uS];exact hs));have hL:=aeL (hx.wo [(s:Int)]) (y:=y) (q:=u.bC.getD s 0) hp;have hm:=(z9 (hx.wo [(s:Int)])).2 (arW ht hs);have hex:∃w∈bA (x.wo [(s:Int)]),∃n,fits w.aO y n=true/\(0:Int)=j5 n (w.ay.getD (u.bC.getD s 0) 0):=⟨_,hm,u.ay.getD (u.bC.getD s 0) 0,ht.stub s y hy,by unfold j5;dsimp only;omega⟩;rcases hL with⟨_,h1⟩|⟨h0,_,h2⟩
 ·exact absurd hex (h1 0)
 ·have:=h2 0 hex;show sr _ _ _ ((x.wo [(s:Int)]).am.toNat+1)=0;omega
open Go.Conc Go.Proofs Go.Gg.Tk
noncomputable def Ip:T7:=YZ.body.getD .skip
theorem By{xs:List Int}{i:Nat}{a:Int}(h:xs[i]?=some a):xs.drop i=a::xs.drop (i+1):=by
 obtain⟨hi,rfl⟩:=SM.1 h;exact TW hi
section
variable {lv:Bool}{H:List aa}{k kp:AV->List aa->Prop}
theorem ahZ{xs ys:List Int}{e e':End}(hx:xs.length<2^30)(hy:ys.length<2^30)(hk:k (bv (lW xs ys)) H):bf lv SC 38 H [.sl xs.length (xs.map iv) e,.sl ys.length (ys.map iv) e'] k kp:=by
 refine bH (rs:=[.tmp 4]) (nt:=48) YZ λhH hA=> ?_;simp only[br,SW];have Dq:∀i:Nat,i<=xs.length->i<=ys.length->lW xs ys=lW (xs.drop i) (ys.drop i)->(∀a b,xs[i]?=some a->ys[i]?=some b->a≠b)->aW lv SC none 48 (pH 3 Ip) ⟨[(5,iv i),(4,bv false),(0,.sl xs.length (xs.map iv) e),(1,.sl ys.length (ys.map iv) e')],H⟩ (se SC [.tmp 4] H.length k kp):=by
  intro i h1 h2 hs aE;unfold Ip YZ;dsimp only[S8,pH,cs,cf];by_cases hb:i=ys.length
  ·have d0:((i:Int)==(ys.length:Int))=true:=(by simp;omega);refine ak ?_;simp only[seval,d0];refine aD ?_;refine aj ?_;refine aZ ?_;have e0:lW xs ys=false:=(by rw[hs,hb,X5];cases xs.drop ys.length<;>rfl);rw[e0]at hk;exact bW hk
  ·have d0:((i:Int)==(ys.length:Int))=false:=(by simp;omega);obtain⟨b,uA⟩:=bX (xs:=ys) (i:=i) (by omega);refine ak ?_;simp only[seval,d0];refine aD ?_;refine aN ?_;by_cases ha:i=xs.length
   ·have d1:((i:Int)==(xs.length:Int))=true:=(by simp;omega);refine dT 16 ?_;simp only[seval,d1];refine aZ ?_;have e0:lW xs ys=true:=(by rw[hs,ha,X5,<- ha,By uA];rfl);rw[e0]at hk;exact bW hk
   ·have d1:((i:Int)==(xs.length:Int))=false:=(by simp;omega);obtain⟨a,qi⟩:=bX (xs:=xs) (i:=i) (by omega);have b1:0<=(i:Int)/\(i:Int)<xs.length:=⟨by omega,by omega⟩;have b2:0<=(i:Int)/\(i:Int)<ys.length:=⟨by omega,by omega⟩;refine dT 16 ?_;simp only[seval,d1,eJ qi,eJ uA,b1,b2];refine aZ ?_;have e0:lW xs ys=decide (a<b):=(by rw[hs,By qi,By uA,lW,if_neg (aE a b qi uA)]);rw[e0]at hk;exact bW hk
 unfold Ip YZ at Dq;dsimp only[S8,pH,cs,cf]at Dq;refine aj ?_;refine aj ?_;refine cy ?_;refine pE (min xs.length ys.length) (λi:Nat=>[(5,iv i)]) (λ_=>H) (λi=>lW xs ys=lW (xs.drop i) (ys.drop i)) rfl (λbU cS i cM hI R hR=> ?_);clear bU cS;by_cases ha:i<xs.length
 ·obtain⟨a,qi⟩:=bX ha;have d1:decide ((i:Int)<(xs.length:Int))=true:=by simp;omega
  have b1:0<=(i:Int)/\(i:Int)<xs.length:=⟨by omega,by omega⟩;by_cases hb:i<ys.length
  ·obtain⟨b,uA⟩:=bX hb;have d2:decide ((i:Int)<(ys.length:Int))=true:=(by simp;omega);have b2:0<=(i:Int)/\(i:Int)<ys.length:=⟨by omega,by omega⟩;refine dT 21 ?_;simp only[seval,d1,d2,decide_true,eJ qi,eJ uA,b1,b2];refine aD ?_;refine⟨λhc=> ?_,λhc=> ?_⟩
   ·have fh:a=b:=(by simpa using hc);have bN:SF.wrap ((i:Int)+1)=((i+1:Nat):Int):=(by rw[bG _ (by omega)];rfl);refine aN ?_;refine ak ?_;simp only[seval,bN];refine hR _ ⟨by omega,?_,dq⟩;rw[hI,By qi,By uA,lW,if_pos fh]
   ·have fh:a≠b:=(by simpa using hc);refine bZ ?_;refine kV ?_ (Dq i (by omega) (by omega) hI λa' b' h1 h2=>by rw[qi]at h1;rw[uA]at h2;cases h1;cases h2;exact fh);exact fe (by simp only[seval];simp[bz,Wk.refl]) rfl
  ·have d2:decide ((i:Int)<(ys.length:Int))=false:=(by simp;omega);refine dT 21 ?_;simp only[seval,d1,d2];refine aD ?_;refine bZ ?_;refine kV ?_ (Dq i (by omega) (by omega) hI λa' b' h1 h2=>by have:=(SM.1 h2).1;omega);exact fe (by simp only[seval];simp[bz,Wk.refl]) rfl
 ·have d1:decide ((i:Int)<(xs.length:Int))=false:=by simp;omega
  refine dT 21 ?_;simp only[seval,d1];refine aD ?_;refine bZ ?_;refine kV ?_ (Dq i (by omega) (by omega) hI λa' b' h1 h2=>by have:=(SM.1 h1).1;omega);exact fe (by simp only[seval];simp[bz,Wk.refl]) rfl
end
end Go.Gg
