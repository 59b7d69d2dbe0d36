/- A part of the proof. -/
import Derived.Test.YtkanpclgnhdbiaaGreatDoorTicketForgedCard3
set_option linter.all false
set_option maxRecDepth 4000
set_option maxHeartbeats 4000000
open Array renaming getD_eq_getD_getElem?->SH,getElem?_eq_getElem->SJ,getElem?_eq_some_iff->SS,getElem?_modify->Wi,getElem_mem->XR,replicate->TL
open Bool renaming and_eq_true->Ti,and_self->Z',eq_iff_iff->Va,false_and->YD,false_or->Zu,not_eq_true'->TY,true_and->Vu
open Classical renaming byContradiction->Tm
open Function renaming comp_apply->Wh
open Go renaming Code->T4,Oper->Tu,Program->SI,Value->SP
open Go.IntKind renaming i64->SD,u16->S6
open Go.Obj renaming deferred->aud
open Go.Proofs.Tryz renaming f15->WS,f34->ZG,f39->am_,f53->al',f72->al_,prog->SA
open Go.Region renaming linearise->Y9,schedule->VM,wanted->Tg
open Go.Region.linearise renaming go->UI
open Go.Value renaming agg->TE,int->SF,slice->Us
open Int renaming le_refl->Xm,le_trans->XD,mul_le_mul->Yc,toNat->X5,toNat_natCast->VP
open List renaming all_eq_true->Tv,any_append->ZN,any_cons->YP,any_eq_true->Up,append_assoc->SC,append_eq_nil_iff->YA,append_nil->SO,cons_append->Vh,contains_append->YN,contains_eq_mem->Uq,contains_iff_mem->Y1,countP_le_length->Y0,drop->T7,drop_append->Vy,drop_append_of_le_length->Wq,drop_drop->ak_,drop_eq_getElem_cons->TQ,drop_of_length_le->WV,drop_zero->Xy,eq_nil_of_length_eq_zero->VD,exists_mem_of_ne_nil->Yb,ext_getElem?->Yk,filter_congr->Vm,filter_eq_nil_iff->Yz,flatMap_append->UX,flatMap_cons->Ub,flatMap_def->WQ,flatMap_eq_nil_iff->Vs,flatMap_map->WO,foldl_append->ZM,foldl_cons->UZ,forall_mem_cons->Wp,getD_cons_succ->Xe,getD_cons_zero->Xl,getD_eq_getElem?_getD->SE,getElem?_append_left->SW,getElem?_append_right->S9,getElem?_drop->Uo,getElem?_eq_getElem->SY,getElem?_eq_none->Uv,getElem?_eq_some_iff->SL,getElem?_map->To,getElem?_of_mem->U0,getElem?_range->Xx,getElem?_set->UQ,getElem?_set_ne->T6,getElem?_take->Ue,getElem_mem->Wu,getLast?_eq_getElem?->X_,getLastD_cons->Zp,getLastD_eq_getLast?->Vl,head?_append->WN,head?_cons->ZL,length->Z2,length_append->SN,length_cons->Ul,length_drop->Un,length_eraseIdx_of_lt->X4,length_map->Tn,length_nil->UN,length_pos_iff->Vv,length_replicate->YG,length_set->TF,length_singleton->T8,length_take->Ud,map->U9,map_append->TD,map_congr_left->VC,map_cons->UW,map_flatMap->Vx,map_map->XV,map_take->VX,mem_append->SR,mem_append_left->Tf,mem_append_right->S4,mem_cons->SK,mem_cons_of_mem->Tb,mem_cons_self->TC,mem_filter->Uw,mem_flatMap->S5,mem_iff_getElem?->UR,mem_map->Tl,mem_of_getElem?->Tc,mem_of_mem_take->Wt,mem_or_eq_of_mem_set->UC,mem_range->Tx,mem_reverse->XH,mem_singleton->S8,nil_append->UJ,nodup_append->U7,nodup_cons->VS,nodup_iff_pairwise_ne->Ut,nodup_nil->WM,nodup_range->XT,not_mem_nil->S0,pairwise_iff_getElem->X9,pairwise_map->Xv,range->SZ,range'->TS,range'_succ->VU,range_eq_range'->U8,range_succ->Vo,range_zero->Zx,replicate->TH,reverse_cons->Zg,set_append_left->US,set_append_right->T9,set_cons_succ->UF,set_cons_zero->TZ,set_eq_take_append_cons_drop->XK,take->Ui,take_add_one->VL,take_append_drop->Vj,take_append_of_le_length->Tw,take_eq_nil_iff->YM,take_length->TG,take_of_length_le->SX,take_set->Z1,take_sublist->Zf,take_succ_cons->VR,take_succ_eq_append_getElem->Vk,take_take->U3,take_zero->aj'
open List.Nodup renaming sublist->Ym
open List.Pairwise renaming imp->Z3,imp_of_mem->Xt
open List.Perm renaming nodup_iff->ao_,refl->ab_
open List.cons renaming injEq->YO
open Nat renaming add_assoc->U1,add_comm->aj_,add_sub_cancel->VZ,add_sub_cancel_left->TR,add_zero->UE,eq_zero_or_pos->UH,le_refl->SQ,le_trans->UM,lt_or_ge->YF,lt_succ_self->Ux,min_eq_left->Wz,pow_le_pow_right->Xk,reduceAdd->SV,reduceSub->Yq,sub_self->Vf,sub_zero->ZW,succ_mul->XB,testBit_or->Xj,testBit_two_pow->VQ,zero_add->Ws,zero_le->Yy,zero_testBit->Zv
open Option renaming getD_some->S7,map_some->UP
open Option.some renaming injEq->Tj
namespace Go.Gg
open Go.Conc Go.Proofs Go.Gg.Tk
namespace Tk
def aC.more (y:aC)(n:Int):aC:=⟨⟨y.number.min+n,y.number.max+n⟩,y.hour⟩
def l6 (h:List Int)(n:Int):Nat->Int
 |0=> -1
 |i+1=>if h.getD i 0<=n/\n<h.getD (i+1) 0 then i else l6 h n i
end Tk
section
variable {lv:Bool}{H:List aa}{k kp:AV->List aa->Prop}
theorem ah0{a b:Int}(hk:k (.agg [iv a,iv b]) H):bh lv SA 24 H [iv a,iv b] k kp:=by
 refine bF (rs:=[.cell 4 46]) (nt:=8) Tryz.f24 λhH hA=> ?_;simp only[bk,SV];refine ak ?_;refine ak ?_;refine aZ ?_;exact iM hH (Wk.refl _) (by simp[tO,eK]) hk
theorem P8{a b c:Int}(hk:k (Seen.av ⟨a,⟨b,c⟩⟩) H):bh lv SA 78 H [iv a,iv b,iv c] k kp:=by
 refine bF (rs:=[.cell 6 61]) (nt:=12) Tryz.f78 λhH hA=> ?_;simp only[bk,SV];refine ak ?_;refine ak ?_;refine aZ ?_;exact iM hH (Wk.refl _) (by simp[tO,eK]) hk
theorem rj{a b c d:Int}(hk:k (aC.av ⟨⟨a,b⟩,⟨c,d⟩⟩) H):bh lv SA 79 H [iv a,iv b,iv c,iv d] k kp:=by
 refine bF (rs:=[.cell 8 48]) (nt:=16) Tryz.f79 λhH hA=> ?_;simp only[bk,SV];refine ak ?_;refine ak ?_;refine aZ ?_;exact iM hH (Wk.refl _) (by simp[tO,eK]) hk
theorem aid{h:List Int}{n:Int}{e:End}(hl:h.length<=4)(hk:k (iv (l6 h n (h.length-1))) H):bh lv SA 40 H [.sl h.length (h.map iv) e,iv n] k kp:=by
 refine bF (rs:=[.tmp 4]) (nt:=31) Tryz.f40 λhH hA=> ?_;simp only[bk,SV];refine ak ?_;refine ak ?_;refine ak ?_;refine cq ?_;refine gD (h.length-1) (λi:Nat=>[(5,iv (l6 h n i)),(6,iv i)]) (λ_=>_) (λi=>True) (λ_ _=>rfl) (by simp only[seval];simp[bu,Wk.refl];exact Wk.refl _) rfl (λ_ _ _=>rfl) trivial (λbQ cP i cK _ R hR=> ?_);have fQ:SD.wrap ((i:Int)+1)=((i+1:Nat):Int):=by rw[bA _ (by omega)];rfl
 refine ai ?_;simp only[seval,fQ];refine aD ?_;refine⟨λhc=> ?_,λhc=> ?_⟩
 ·have bB:i+1<h.length:=by omega
  obtain⟨a,ha⟩:=b9 (xs:=h) (i:=i) (by omega);obtain⟨b,hb⟩:=b9 (xs:=h) (i:=i+1) bB;have gk:h.getD i 0=a:=by rw[SE,ha];rfl
  have dD:h.getD (i+1) 0=b:=by rw[SE,hb];rfl
  have iO:=jc (show i<h.length by omega);have o5:(0<=(i:Int)+1/\(i:Int)+1<(h.length:Int))=True:=by simp;omega
  have lT:((i:Int)+1).toNat=i+1:=by omega
  have cQ:l6 h n (i+1)=if a<=n/\n<b then(i:Int)else l6 h n i:=by rw[l6,gk,dD]
  refine aN ?_;refine cq ?_;by_cases c1:a<=n
  ·have d1:decide (a<=n)=true:=decide_eq_true c1;by_cases c2:n<b
   ·have d2:decide (n<b)=true:=decide_eq_true c2;refine ai ?_;simp only[seval,e9 ha,e9 hb,iO,o5,lT,d1,d2,fQ];refine aD ?_;refine ak ?_;refine ai ?_;simp only[seval,fQ];rw[if_pos ⟨c1,c2⟩]at cQ;refine hR _ ⟨by omega,trivial,?_⟩;rw[cQ];exact da
   ·have d2:decide (n<b)=false:=decide_eq_false c2;refine ai ?_;simp only[seval,e9 ha,e9 hb,iO,o5,lT,d1,d2,fQ];refine aD ?_;refine aN ?_;refine ai ?_;simp only[seval,fQ];rw[if_neg (λhh=>c2 hh.2)]at cQ;refine hR _ ⟨by omega,trivial,?_⟩;rw[cQ];exact da
  ·have d1:decide (a<=n)=false:=decide_eq_false c1;refine ai ?_;simp only[seval,e9 ha,iO,d1];refine aD ?_;refine aN ?_;refine ai ?_;simp only[seval,fQ];rw[if_neg (λhh=>c1 hh.1)]at cQ;refine hR _ ⟨by omega,trivial,?_⟩;rw[cQ];exact da
 ·have dx:i=h.length-1:=by omega
  subst dx;refine bX ?_;refine ak ?_;refine aZ ?_;exact bW hk
end
open Go.Conc Go.Proofs Go.Gg.Tk
namespace Tk
end Tk
section
variable {lv:Bool}{H:List aa}{k kp:AV->List aa->Prop}
end
open Go.Conc Go.Proofs Go.Gg.Tk
def vV (τ:bc)(ns:List Int):Int:=ns.getD (de τ (ns.length-1)).toNat 0
section
variable {lv:Bool}{H:List aa}{k kp:AV->List aa->Prop}{Gf:bc->List aa}{t N:Nat}{τ:bc}{b:Int}
theorem Jd{ns:List Int}{e:End}(hT:dJ Gf t N)(hτ:τ.Ok b)(hb:b<2^60)(hn:1<=ns.length)(iU:ns.length<2^20)(hk:k (iv (vV τ ns)) (Gf (tick τ))):bh lv SA 45 (Gf τ) [.op t 0,.sl ns.length (ns.map iv) e] k kp:=by
 refine bF (rs:=[.tmp 4]) (nt:=13) Tryz.f45 λhH hA=> ?_;simp only[bk,SV];have bM:SD.wrap ((ns.length:Int)-1)=(ns.length:Int)-1:=bA _ (by omega);have hr:=lC τ ((ns.length:Int)-1);unfold vV at hk;obtain⟨j,hj⟩:=Int.eq_ofNat_of_zero_le hr.1;have eU:j<ns.length:=by omega
 obtain⟨v,hv⟩:=b9 eU;rw[hj]at hk;have yb:ns.getD ((j:Int)).toNat 0=v:=by rw[VP,SE,hv];rfl
 rw[yb]at hk;refine ak ?_;refine ai ?_;simp only[seval,bM];refine aI ((o0 hT hτ hb (by omega) ?_));rw[hj];(try simp only[seval,e9 hv,jc eU]);refine aZ ?_;exact bW hk
end
def nc (τ:bc)(n m lo hi:Int):iL:=⟨max lo (n-de τ m),min hi (n+de (tick τ) m)⟩
def lK (τ:bc)(h:List Int)(n hours:Int):aC:=⟨nc τ n 2 0 99,nc (tick (tick τ)) (l6 h n (h.length-1)) 1 0 (hours-1)⟩
section
variable {lv:Bool}{k kp:AV->List aa->Prop}{Gf:bc->List aa}{t N:Nat}{τ:bc}{b:Int}
theorem Je{n m lo hi:Int}(hT:dJ Gf t N)(hτ:τ.Ok b)(hb:b<2^30)(hn: -1000<=n/\n<=1000)(hm:0<=m/\m<=3)(hk:k (nc τ n m lo hi).av (Gf (tick (tick τ)))):bh lv SA 48 (Gf τ) [.op t 0,iv n,iv m,.agg [iv lo,iv hi]] k kp:=by
 refine bF (rs:=[.cell 8 46]) (nt:=26) Tryz.f48 λhH hA=> ?_;simp only[bk,SV];have oo:dJ (λτ=>Gf τ++[.cells [iv lo,iv hi] 46,.cells [iv 0,iv 0] 46]) t (N+2):=hT.more [_,_];have r1:=lC τ m;have r2:=lC (tick τ) m;have bM:SD.wrap (n-de τ m)=n-de τ m:=bA _ (by omega);have fh:SD.wrap (n+de (tick τ) m)=n+de (tick τ) m:=bA _ (by omega);have CG:(if lo<n-de τ m then n-de τ m else lo)=max lo (n-de τ m):=by split<;>omega
 have pq:(if n+de (tick τ) m<hi then n+de (tick τ) m else hi)=min hi (n+de (tick τ) m):=by split<;>omega
 refine ak ?_;refine oW [5,13,17] [0,1,2,3,4,5,6,7,8,9,10,11,12,13,14,15,16,17] [⟨0,false,[],[([5],[5]),([5,13],[5,13])]⟩,⟨1,false,[],[([5],[5]),([5,13],[5,13])]⟩,⟨2,false,[],[([5],[5]),([5,13],[5,13])]⟩,⟨3,false,[],[]⟩,⟨4,false,[],[]⟩,⟨5,true,[5],[]⟩,⟨6,false,[5],[([5,13],[5,13])]⟩,⟨7,false,[5],[([5,13],[5,13])]⟩,⟨8,false,[5],[([],[]),([5,13],[5,13])]⟩,⟨9,false,[5],[([],[]),([5,13],[5,13])]⟩,⟨10,false,[5],[([],[]),([5,13],[5,13])]⟩,⟨11,false,[5],[([],[])]⟩,⟨12,false,[5],[([],[])]⟩,⟨13,true,[5,13],[]⟩,⟨14,false,[5,13],[]⟩,⟨15,false,[5,13],[]⟩,⟨16,false,[5,13],[]⟩,⟨17,true,[5,13,17],[]⟩] (λD=>bif isDone 17 D then Gf (tick (tick τ))++[.cells [iv lo,iv hi] 46,.cells [iv (max lo (n-de τ m)),iv (min hi (n+de (tick τ) m))] 46]else bif isDone 13 D then Gf (tick (tick τ))++[.cells [iv lo,iv hi] 46,.cells [iv 0,iv 0] 46]else bif isDone 5 D then Gf (tick τ)++[.cells [iv lo,iv hi] 46,.cells [iv 0,iv 0] 46]else Gf τ++[.cells [iv lo,iv hi] 46,.cells [iv 0,iv 0] 46]) ?_;simp only[seval,hT.len,hT.g0,hT.g1,hT.g2,hT.g3,hT.h2,hT.h3,hT.s0,hT.s1,hT.s2,hT.s3,hT.t2,hT.t3,bM,fh,CG,pq];refine j8 _ _ (cx (o0 (oo) hτ (by omega) (by omega) ⟨rfl,rfl⟩)) ?_;(try simp only[seval,hT.len,hT.g0,hT.g1,hT.g2,hT.g3,hT.h2,hT.h3,hT.s0,hT.s1,hT.s2,hT.s3,hT.t2,hT.t3,bM,fh,CG,pq]);refine j8 _ _ (cx (o0 (oo) hτ.tick (by omega) (by omega) ⟨rfl,rfl⟩)) ?_;(try simp only[seval,hT.len,hT.g0,hT.g1,hT.g2,hT.g3,hT.h2,hT.h3,hT.s0,hT.s1,hT.s2,hT.s3,hT.t2,hT.t3,bM,fh,CG,pq]);refine n_ ?_;simp only[seval,hT.len,hT.g0,hT.g1,hT.g2,hT.g3,hT.h2,hT.h3,hT.s0,hT.s1,hT.s2,hT.s3,hT.t2,hT.t3];exact jy (b:=(nc τ n m lo hi).av) (H':=Gf (tick (tick τ))) (Wk.refl _) rfl (by simp[hT.len]) (hT.au hH _) (by simp[iL.av,iL.l,tO,eK]) hk
theorem P5{h:List Int}{n hours:Int}{e:End}(hT:dJ Gf t N)(hτ:τ.Ok b)(hb:b<2^20)(hl:h.length<=4)(hn: -1000<=n/\n<=1000)(hh:1<=hours/\hours<=3)(qA: -1<=l6 h n (h.length-1)/\l6 h n (h.length-1)<=4)(hk:k (lK τ h n hours).av (Gf (tick (tick (tick (tick τ)))))):bh lv SA 47 (Gf τ) [.op t 0,.sl h.length (h.map iv) e,iv n,iv hours] k kp:=by
 refine bF (rs:=[.cell 8 48]) (nt:=22) Tryz.f47 λhH hA=> ?_;simp only[bk,SV];have uA:∀o:aa,dJ (λτ=>Gf τ++[o]) t (N+1):=λo=>hT.more [o];have bM:SD.wrap (hours-1)=hours-1:=bA _ (by omega);refine ak ?_;refine ai ?_;simp only[seval,bM];refine aI ((Je (n:=n) (m:=2) (lo:=0) (hi:=99) (uA _) hτ (by omega) hn (by decide) ?_));(try simp only[seval]);refine aI ((aid (h:=h) (n:=n) hl ?_));(try simp only[seval,bM]);refine aI ((Je (n:=l6 h n (h.length-1)) (m:=1) (lo:=0) (hi:=hours-1) (uA _) hτ.tick.tick (by omega) (by omega) (by decide) ?_));(try simp only[seval,hT.len,hT.g0,hT.g1,hT.g2,hT.g3,hT.h2,hT.h3,hT.s0,hT.s1,hT.s2,hT.s3,hT.t2,hT.t3,iL.av,iL.l]);refine n_ ?_;simp only[seval,hT.len,hT.g0,hT.g1,hT.g2,hT.g3,hT.h2,hT.h3,hT.s0,hT.s1,hT.s2,hT.s3,hT.t2,hT.t3];exact jy (b:=(lK τ h n hours).av) (H':=Gf (tick (tick (tick (tick τ))))) (Wk.refl _) rfl (by simp[hT.len]) (hT.au hH _) (by simp[aC.av,aC.l,tO,eK]) hk
end
end Go.Gg
namespace Go.Gg.Tk
def ug:List Int->Prop
 |a::b::l=>a<=b/\ug (b::l)
 |_=>True
theorem arF{h:List Int}{n:Int}(hl:2<=h.length)(qn:h.length<=4)(hm:ug h):l6 h n (h.length-1)=jo h n:=by
 match h,hl,qn,hm with
 |[a,b],_,_,hm=>
  simp only[jo,fz,l6,Ul,UN,Xl,Xe,SV,Yq]
 |[a,b,c],_,_,hm=>
  obtain⟨h1,h2,_⟩:=hm;simp only[jo,fz,l6,Ul,UN,Xl,Xe,SV,Yq];split<;>split<;>first|rfl|omega
 |[a,b,c,d],_,_,hm=>
  obtain⟨h1,h2,h3,_⟩:=hm;simp only[jo,fz,l6,Ul,UN,Xl,Xe,SV,Yq];split<;>split<;>first|rfl|omega|(split<;>first|rfl|omega)
end Go.Gg.Tk
namespace Go.Gg
open Go.Conc
section
variable {lv:Bool}{P:SI}{r:Option Nat}{o:Tu}{s:AS}{next:AS->Prop}{bad:AV->AS->Prop}
end
section
variable (lv:Bool)(P:SI)(r:Option Nat)
def Bq:List Tu->AS->(AS->Prop)->(AV->AS->Prop)->Prop
 |[],s,K,_=>K s
 |o::rest,s,K,bad=>o.guard=none/\Step lv P r o s (λs'=>Bq rest s' K bad) bad
end
section
variable {lv:Bool}{P:SI}{r:Option Nat}{s:AS}
theorem acE{nt:Nat}{all:Array Tu}{Φ:an->AS->Prop}(dp:∀o∈all,∀d,o.dst=some d->d<nt)(nA:∀o∈all,r=none\/mo o.op=false):∀(n k:Nat)(s:AS),k+n=all.size->Bq lv P r (all.toList.drop k) s (Φ .normal) (λpv s=>Φ (.panic pv) s)->
  ∀(E:Env)(V:View)(a:Act)(Q:Ex->Act->View->Prop),At E V s a nt->(∀ae e E' V' a' s',Kept E E' V V' a a'->At E' V' s' a' nt->pN E' ae e->Φ ae s'->Q e a' V')->dl lv P r all Q (TS k n) a V
 |0,k,s,hk,h,E,V,a,Q,ah,hQ=>by
  have:all.toList.drop k=[]:=by simp;omega
  rw[this]at h;exact hQ .normal .normal E V a s (Kept.refl E V a) ah trivial h
 |n+1,k,s,hk,h,E,V,a,Q,ah,hQ=>by
  have hlt:k<all.size:=by omega
  have hd:all.toList.drop k=all[k]::all.toList.drop (k+1):=by
   rw[TQ (by simpa using hlt)];simp
  rw[hd]at h;have fG:all[k]∈all:=XR hlt;have ho:all[k]?=some all[k]:=SJ hlt;simp only[VU,dl,ho];obtain⟨hg,h⟩:=h;have hw:Tg all[k] (yielded all a.tmps)=true:=by unfold Tg;rw[hg]
  rw[if_pos hw];refine .inl (h E V a _ Q ah.br ah.tok (λd e=>by rw[ah.size];exact dp _ fG d e) (nA _ fG) (λE' V' a' s' aJ bm ml hn=> ?_) (λE' V' s' pv v aJ bm ml bp hb=> ?_))
  ·exact acE dp nA n (k+1) s' (by omega) hn E' V' a' Q ⟨bm,ml,aJ.size.trans ah.size⟩ (λae e bP aR cm dj fU dh he hΦ=>hQ ae e bP aR cm dj (aJ.trans fU) dh he hΦ)
  ·exact hQ (.panic pv) (.panic _) E' V' a s' aJ ⟨bm,ml,ah.size⟩ ⟨v,rfl,bp⟩ hb
theorem afm{nt id:Nat}{ops:Array Tu}{Φ:an->AS->Prop}(hd:jX nt ops=true)(h:Bq lv P r ops.toList s (Φ .normal) (λpv s=>Φ (.panic pv) s)):aP lv P r nt (.region id ops false) s Φ:=by
 intro E V a Q ah hQ;refine wp_region ?_;rw[U8];exact acE (Φ:=Φ) (λo ho d e=>(jX.out hd ho).1 d e) (λo ho=> .inr (jX.out hd ho).2) ops.size 0 s (by omega) (by simpa using h) E V a Q ah hQ
end
section
variable {lv:Bool}{P:SI}{r:Option Nat}{o:Tu}{s:AS}{next:AS->Prop}{bad:AV->AS->Prop}
theorem Ir{nt id:Nat}{c:T4}{l:List AV}{el:TypeId}{Φ:an->AS->Prop}(bT:s.H[id]?=some (.cells l el))(h:aP lv P r nt c ⟨s.T,s.H.set id (.part l.length l el)⟩ Φ):aP lv P r nt c s Φ:=λE V a Q ah hQ=>by
 have hc:=ah.br;obtain⟨⟨cs,ep,hd⟩,lj⟩:=hc.obj id _ bT;have g:dR V (V.eM (E.blk id) cs (λo=>decide (o<l.length))):=xz ep (λo _=>lj o);refine WP.ghost g ?_;have hI:∀b o v,E.I b o=some v->(V.eM (E.blk id) cs (λo=>decide (o<l.length))).ab b o=some v:=λb o v e=>by
  rw[hc.I]at e;have hb:b≠E.blk id:=λhb=>by rw[hb,lj]at e;cases e
  simp only[View.eM];rw[if_neg (λx=>hb x.1)];exact e
 have hle:E.Le {E with I:=(V.eM (E.blk id) cs (λo=>decide (o<l.length))).ab}:=⟨hI,SQ _,λ_ _=>rfl,λ_ _=>SQ _,λ_ _ _ _=>rfl,rfl,rfl⟩;have ce:Conc {E with I:=(V.eM (E.blk id) cs (λo=>decide (o<l.length))).ab} (V.eM (E.blk id) cs (λo=>decide (o<l.length))) (s.H.set id (.part l.length l el)):=by
  refine hc.iJ id _ hle rfl (by rw[TF];exact hc.n) ly rfl (λ_ _ _=>rfl) (λb y fw hy=>⟨hy,λo=> ?_⟩) ⟨⟨cs,ep,(hd.mono hle).p,λo ho=> ?_⟩,λo ho=> ?_⟩ (λb hb=> .inl ⟨_,bT,hb⟩)
  ·have hb:b≠E.blk id:=λhb=>fw _ bT (by rw[hb];rfl);simp only[View.eM];rw[if_neg (λx=>hb x.1)]
  ·simp only[View.eM];rw[if_pos ⟨trivial,by simpa using ho⟩]
  ·simp only[View.eM];rw[if_neg (λx=>by have:=x.2;simp at this;omega)];exact lj o
 exact h _ _ a Q ⟨ce,ah.tok.mono hle,ah.size⟩ λae e E' aR a' s' hk=>hQ ae e E' aR a' s' ((⟨hle,rfl,rfl,rfl,rfl⟩:Kept E _ V (V.eM (E.blk id) cs (λo=>decide (o<l.length))) a a).trans hk)
def y8 (H:List aa)(b a:AV):Prop:=∀E V v,Conc E V H->ap E b v->ap E a v
theorem y8.of{H:List aa}{b a:AV}(h:Wk b a):y8 H b a:=λE _ v _ d=>h E v d
theorem HE{H:List aa}{id n cap m p:Nat}{l:List AV}{el:TypeId}(bT:H[id]?=some (.part p l el))(hm:m<=p)(hp:p<=l.length):y8 H (.bw id 0 n cap) (.sl n (l.take m) .shut):=λE V v hc hd=>by
 cases hd with
 |bw hi dO=>
  rename_i cap';obtain⟨⟨cs,ho,FG,uH⟩,_⟩:=hc.obj id _ bT;refine .sl (E.blk id) 0 cap' (λi=>cs.getD i undef) dO.1 trivial (λi cC=> ?_) (λi x hx=> ?_)
  ·rw[Ud]at cC;have hlt:i<cs.size:=(by have:=FG.1;omega);rw[hc.I,Ws,uH i (by omega),SH,SJ hlt];rfl
  ·rw[Ue]at hx;split at hx
   ·exact FG.2 i x hx
   ·cases hx
theorem Is{nt id j:Nat}{c:T4}{l:List AV}{x y:AV}{el:TypeId}{Φ:an->AS->Prop}(bT:s.H[id]?=some (.cells l el))(hj:l[j]?=some x)(hw:y8 s.H x y)(h:aP lv P r nt c ⟨s.T,s.H.set id (.cells (l.set j y) el)⟩ Φ):aP lv P r nt c s Φ:=λE V a Q ah hQ=>by
 have hc:=ah.br;obtain⟨⟨cs,ep,hd⟩,lj⟩:=hc.obj id _ bT;have ce:Conc E V (s.H.set id (.cells (l.set j y) el)):=
  hc.iJ id _ (Env.Le.refl _) hc.I (by rw[hc.n,TF]) ly rfl (λ_ _ _=>rfl) (λb y _ hy=>⟨hy,λ_=>rfl⟩) ⟨⟨cs,ep,Pw hd hj (λv d=>hw E V v hc d)⟩,lj⟩ (λb dD=> .inl ⟨_,bT,dD⟩)
 exact h E V a Q ⟨ce,ah.tok,ah.size⟩ hQ
theorem OT{nt t:Nat}{c:T4}{x y:AV}{Φ:an->AS->Prop}(ht:look s.T t=some x)(hw:y8 s.H x y)(h:aP lv P r nt c ⟨(t,y)::s.T,s.H⟩ Φ):aP lv P r nt c s Φ:=λE V a Q ah hQ=>by
 refine h E V a Q ⟨ah.br,λt' b e=> ?_,ah.size⟩ hQ;simp only[look]at e;split at e
 ·rename_i e';subst e';cases e;exact⟨(ah.tok t x ht).1,hw E V _ ah.br (ah.tok t x ht).2⟩
 ·exact ah.tok t' b e
end
open Go.Proofs Go.Gg.Tk
def iq (τ:bc)(n:Nat):Nat->List Int×bc
 |0=>(TH n 0,τ)
 |i+1=>(((iq τ n i).1.set i ((iq τ n i).1.getD (de (iq τ n i).2 i).toNat 0)).set (de (iq τ n i).2 i).toNat i,tick (iq τ n i).2)
theorem Aw(τ:bc)(n:Nat):∀i,(iq τ n i).1.length=n
 |0=>YG
 |i+1=>by rw[iq,TF,TF,Aw τ n i]
theorem GK{τ:bc}{b:Int}(h:τ.Ok b)(n:Nat):∀i:Nat,(iq τ n i).2.Ok (b+i)
 |0=>h.mono (by simp)
 |i+1=>(GK h n i).tick.mono (by simp;omega)
theorem adB(n:Nat):gM (SF .i64 0) n=(TH n (0:Int)).map iv:=by
 have h:∀i∈SZ n,AV.pG ((SF SD 0).cells[i % (SF SD 0).cells.size]!)=iv 0:=λi _=>by
  rw[show (SF SD 0).cells.size=1 from rfl,Nat.mod_one];rfl
 rw[List.map_replicate];unfold gM;rw[VC h,List.map_const',List.length_range]
section
variable {lv:Bool}{k kp:AV->List aa->Prop}{Gf:bc->List aa}{t N:Nat}{τ:bc}{b:Int}
theorem P4{n:Nat}(hT:dJ Gf t N)(hτ:τ.Ok b)(hb:b<2^30)(hn:n<=2^20)(hk:k (a_ (iq τ n n).1) (Gf (iq τ n n).2)):bh lv SA 37 (Gf τ) [.op t 0,iv n] k kp:=by
 refine bF (rs:=[.tmp 4]) (nt:=30) Tryz.f37 λhH hA=> ?_;simp only[bk,SV];have uA:∀o:aa,dJ (λτ=>Gf τ++[o]) t (N+1):=λo=>hT.more [o];refine ak ?_;refine ai ?_;simp only[seval,adB,hT.len];refine⟨by omega,by omega,?_⟩;refine ak ?_;refine cq ?_;refine gD n (λi:Nat=>[(6,iv i)]) (λi=>Gf (iq τ n i).2++[.cells ((iq τ n i).1.map iv) 3]) (λ_=>True) (λ_ _=>rfl) (by simp only[seval];simp[bu,Wk.refl]) rfl (λ_ _ _=>by simp[hT.len]) trivial (λbQ cP i cK hi R hR=> ?_);clear bQ cP;refine ak ?_;refine aD ?_;refine⟨λh=> ?_,λh=> ?_⟩
 ·have bB:i<n:=by omega
  have au:=GK hτ n i;have hlen:=Aw τ n i;have ye:SD.wrap ((i:Int)+1)=i+1:=bA _ (by omega);have eC:iq τ n (i+1)=(((iq τ n i).1.set i ((iq τ n i).1.getD (de (iq τ n i).2 i).toNat 0)).set (de (iq τ n i).2 i).toNat i,tick (iq τ n i).2):=rfl;generalize iq τ n i=m at au hlen eC⊢;obtain⟨l,σ⟩:=m;simp only at au hlen eC;have hr:=lC σ i;refine aN ?_;refine ak ?_;refine aI ((o0 (uA _) au (by omega) (by omega) ?_));(try simp only[seval]);generalize de σ i=u at hr eC⊢;obtain⟨u,rfl⟩:∃w:Nat,u=w:=⟨u.toNat,by omega⟩;rw[VP]at eC;have hul:u<n:=by omega
  obtain⟨a,ha⟩:=b9 (xs:=l) (i:=u) (by omega);have Kw:l.getD u 0=a:=by rw[SE,ha];rfl
  rw[Kw]at eC;obtain⟨a2,Ch⟩:=b9 (xs:=l) (i:=i) (by omega);have FW:(i+1<=l.length)=True:=by simp;omega
  have hou:(u+1<=(l.set i a).length)=True:=by simp;omega
  refine ai ?_;simp only[seval,jc bB,jc hul,hT.len,hT.g0,hT.g1,hT.g2,hT.g3,hT.h2,hT.h3,hT.s0,hT.s1,hT.s2,hT.s3,hT.t2,hT.t3,kX ha,Tn,FW,wM (y:=a) (show i<l.length by omega)];refine ai ?_;simp only[seval,jc hul,hT.len,hT.g0,hT.g1,hT.g2,hT.g3,hT.h2,hT.h3,hT.s0,hT.s1,hT.s2,hT.s3,hT.t2,hT.t3,Tn,hou,wM (xs:=l.set i a) (y:=i) (show u<(l.set i a).length by simp;omega)];refine ai ?_;simp only[seval,ye];refine hR _ ⟨bB,trivial,?_⟩;rw[eC];exact da
 ·have qk:i=n:=by omega
  subst qk;clear hR;refine bX ?_;have hlen:=Aw τ i i;generalize iq τ i i=m at hlen hk⊢;obtain⟨l,σ⟩:=m;simp only at hlen hk
  (repeat apply iA);refine Ir (id:=N) (by simp only[seval,hT.len,hT.g0,hT.g1,hT.g2,hT.g3,hT.h2,hT.h3,hT.s0,hT.s1,hT.s2,hT.s3,hT.t2,hT.t3]<;>rfl) ?_
  simp only[seval,hT.len,hT.g0,hT.g1,hT.g2,hT.g3,hT.h2,hT.h3,hT.s0,hT.s1,hT.s2,hT.s3,hT.t2,hT.t3]
  (repeat apply iA);refine OT (t:=5) (y:=a_ l) (by simp only[seval]<;>rfl) ?_ ?_
  ·have e:a_ l=.sl i ((l.map iv).take i) .shut:=by
    rw[SX (by simp;omega),a_,hlen]
   rw[e];exact HE (p:=l.length) (by simp only[seval,hT.len,hT.g0,hT.g1,hT.g2,hT.g3,hT.h2,hT.h3,hT.s0,hT.s1,hT.s2,hT.s3,hT.t2,hT.t3]<;>rfl) (by omega) (by simp)
  refine ak ?_;refine aZ ?_;exact jy (b:=a_ l) (H':=Gf σ) (G:=[.part l.length (l.map iv) 3]) (Wk.refl _) rfl (by simp[hT.len]) (hT.au hH σ) (by rw[Av];trivial) hk
end
structure H7 (p:List Int)(n:Nat):Prop where
 len:p.length=n
 nodup:p.Nodup
 Hc:∀v∈p,0<=v/\v<(n:Int)
theorem set_perm{t:List Int}{k:Nat}{a b:Int}(h:t[k]?=some a):(t.set k b++[a]).Perm (t++[b]):=by
 obtain⟨hk,rfl⟩:=SL.1 h;have e:t=t.take k++t[k]::t.drop (k+1):=by rw[<- TQ hk,Vj]
 rw[XK,if_pos hk]
 conv=>rhs;rw[e]
 rw[List.perm_iff_count];intro v;simp only[List.count_append,List.count_cons,List.count_nil];omega
theorem aa0(τ:bc)(n:Nat):∀i:Nat,i<=n->((iq τ n i).1.take i).Nodup/\∀v∈(iq τ n i).1.take i,0<=v/\v<(i:Int)
 |0,_=>by simp
 |i+1,hi=>by
  obtain⟨h1,h2⟩:=aa0 τ n i (by omega);have hlen:=Aw τ n i;rw[iq];generalize iq τ n i=m at h1 h2 hlen⊢;obtain⟨l,σ⟩:=m;simp only at h1 h2 hlen⊢;have hr:=lC σ i;generalize de σ i=u at hr⊢;obtain⟨k,rfl⟩:∃w:Nat,u=w:=⟨u.toNat,by omega⟩;rw[VP];obtain⟨a,ha⟩:=b9 (xs:=l) (i:=k) (by omega);obtain⟨c,hc⟩:=b9 (xs:=l) (i:=i) (by omega);have Kw:l.getD k 0=a:=by rw[SE,ha];rfl
  have wz:(l.take i).length=i:=by rw[Ud];omega
  have hp:(((l.set i a).set k (i:Int)).take (i+1)).Perm (l.take i++[(i:Int)]):=by
   rw[Z1,Z1,VL,hc];show ((((l.take i)++[c]).set i a).set k (i:Int)).Perm _;rw[T9 _ _ (by omega),wz,Vf];show (((l.take i)++[a]).set k (i:Int)).Perm _;by_cases e:k=i
   ·subst e;rw[T9 _ _ (by omega),wz,Vf];exact ab_ _
   ·rw[US _ _ (by omega)];exact set_perm (by rw[Ue,if_pos (by omega)];exact ha)
  rw[Kw];refine⟨(ao_ hp).2 ?_,λv hv=> ?_⟩
  ·exact U7.2 ⟨h1,by simp,λx hx y hy e=>by
    have:=h2 x hx;simp at hy;omega⟩
  ·rcases SR.1 (hp.mem_iff.1 hv)with hv|hv
   ·have:=h2 v hv;omega
   ·simp at hv;omega
theorem aa1(τ:bc)(n:Nat):H7 (iq τ n n).1 n:=by
 obtain⟨h1,h2⟩:=aa0 τ n n (SQ _);rw[SX (by rw[Aw];exact SQ _)]at h1 h2;exact⟨Aw τ n n,h1,h2⟩
theorem BG{τ:bc}{n m lo hi:Int}(hn:lo<=n/\n<=hi)(pn:0<=lo):sx (nc τ n m lo hi) hi/\kM (nc τ n m lo hi) n=true:=by
 have r1:=lC τ m;have r2:=lC (tick τ) m;unfold nc;refine⟨⟨?_,?_,?_⟩,?_⟩
 ·dsimp only;omega
 ·dsimp only;omega
 ·dsimp only;omega
 ·unfold kM;rw[Ti,decide_eq_true_eq,decide_eq_true_eq];dsimp only;omega
theorem I6(τ:bc){ns:List Int}(h:ns≠[]):vV τ ns∈ns:=by
 unfold vV;have hl:0<ns.length:=Vv.2 h;have r:=lC τ ((ns.length:Int)-1);have hi:(de τ ((ns.length:Int)-1)).toNat<ns.length:=by omega
 rw[SE,SY hi];exact Wu hi
def wO (τ:bc)(am:Int):Int:=vV (tick τ) [0,am,de τ am]
theorem acH(τ:bc){am:Int}(h:0<=am):0<=wO τ am/\wO τ am<=am:=by
 have r:=lC τ am;have:=I6 (tick τ) (ns:=[0,am,de τ am]) (by simp);unfold wO;simp only[SK,S0,or_false]at this;omega
def lm (τ:bc)(first am:Int):Nat->List Int×bc
 |0=>([first],τ)
 |i+1=>((lm τ first am i).1++[(lm τ first am i).1.getD i 0+wO (lm τ first am i).2 am],tick (tick (lm τ first am i).2))
structure nW (first am:Int)(l:List Int)(i:Nat):Prop where
 len:l.length=i+1
 head:l.getD 0 0=first
 step:∀j,j<i->l.getD j 0<=l.getD (j+1) 0/\l.getD (j+1) 0<=l.getD j 0+am
theorem Fe{l:List Int}{v:Int}{j:Nat}(h:j<l.length):(l++[v]).getD j 0=l.getD j 0:=by
 rw[SE,SE,SW h]
theorem ajn{l:List Int}{v:Int}{j:Nat}(h:l.length=j):(l++[v]).getD j 0=v:=by
 subst h;rw[SE,S9 (SQ _),Vf];rfl
theorem RM(τ:bc)(first:Int){am:Int}(h:0<=am):∀i,nW first am (lm τ first am i).1 i
 |0=>⟨rfl,rfl,λj hj=>by omega⟩
 |i+1=>by
  have ih:=RM τ first h i
  rw[lm];have hs:=acH (lm τ first am i).2 h;generalize wO (lm τ first am i).2 am=v at hs⊢;generalize(lm τ first am i).1=l at ih⊢;have hl:=ih.len;refine⟨by rw[SN,hl];rfl,by rw[Fe (by omega)];exact ih.head,λj hj=> ?_⟩;by_cases cp:j<i
  ·rw[Fe (by omega),Fe (by omega)];exact ih.step j cp
  ·have:j=i:=(by omega);subst this;rw[Fe (by omega),ajn (by omega)];omega
theorem RN{τ:bc}{b:Int}(h:τ.Ok b)(first am:Int):∀i:Nat,(lm τ first am i).2.Ok (b+2* i)
 |0=>h.mono (by simp)
 |i+1=>(RN h first am i).tick.tick.mono (by simp;omega)
theorem nW.ge{first am:Int}{l:List Int}{i:Nat}(h:nW first am l i)(hp:0<=am):∀j,j<=i->first<=l.getD j 0/\l.getD j 0<=first+am* j
 |0,_=>by rw[h.head];simp
 |j+1,hj=>by
  have ih:=h.ge hp j (by omega);have:=h.step j (by omega);have e:am* ((j+1:Nat):Int)=am* j+am:=by rw[Int.natCast_add,Int.mul_add];simp
  omega
def kN (first:Int)(order:List Int)(i:Nat):List Int:=(SZ i).map λj=>first+order.getD j 0
theorem abc(first:Int)(order:List Int)(i:Nat):kN first order (i+1)=kN first order i++[first+order.getD i 0]:=by
 unfold kN;rw[Vo,TD];rfl
theorem abb(first:Int)(order:List Int)(i:Nat):(kN first order i).length=i:=by simp[kN]
def kE (h:List Int)(hours:Int)(num:Nat->Int)(τ:bc):Nat->List aC×bc
 |0=>([],τ)
 |i+1=>((kE h hours num τ i).1++[lK (tick (kE h hours num τ i).2) h (num i) hours],tick (tick (tick (tick (tick (kE h hours num τ i).2)))))
theorem zH(h:List Int)(hours:Int)(num:Nat->Int)(τ:bc):∀i,(kE h hours num τ i).1.length=i
 |0=>rfl
 |i+1=>by rw[kE,SN,zH h hours num τ i];rfl
theorem J3{τ:bc}{b:Int}(hτ:τ.Ok b)(h:List Int)(hours:Int)(num:Nat->Int):∀i:Nat,(kE h hours num τ i).2.Ok (b+5* i)
 |0=>hτ.mono (by simp)
 |i+1=>(J3 hτ h hours num i).tick.tick.tick.tick.tick.mono (by simp;omega)
def se (h:List Int)(hours:Int)(τ:bc):Nat->List Seen×bc
 |0=>([],τ)
 |i+1=>((se h hours τ i).1++[⟨de (se h hours τ i).2 hours,nc (tick (se h hours τ i).2) (h.getD (de (se h hours τ i).2 hours).toNat 0) 1 0 99⟩],tick (tick (tick (se h hours τ i).2)))
theorem ab9(h:List Int)(hours:Int)(τ:bc):∀i,(se h hours τ i).1.length=i
 |0=>rfl
 |i+1=>by rw[se,SN,ab9 h hours τ i];rfl
theorem acb{τ:bc}{b:Int}(hτ:τ.Ok b)(h:List Int)(hours:Int):∀i:Nat,(se h hours τ i).2.Ok (b+3* i)
 |0=>hτ.mono (by simp)
 |i+1=>(acb hτ h hours i).tick.tick.tick.mono (by simp;omega)
theorem aca{h:List Int}{hours:Int}{τ:bc}(hu:∀τ,0<=de τ hours/\de τ hours<=hours):∀i,∀s∈(se h hours τ i).1,0<=s.hour/\s.hour<=hours/\∃σ,s.next=nc σ (h.getD s.hour.toNat 0) 1 0 99
 |0,s,hs=>by cases hs
 |i+1,s,hs=>by
  rw[se]at hs;rcases SR.1 hs with hs|hs
  ·exact aca hu i s hs
  ·rw[S8]at hs;subst hs;exact⟨(hu _).1,(hu _).2,_,rfl⟩
structure Eo (h:List Int)(hours n:Int)(y:aC):Prop where
 num:sx y.number 99
 hour:sx y.hour (hours-1)
 fits:fits h y n=true
theorem JZ{h:List Int}{hours:Int}{num:Nat->Int}{τ:bc}{P:Int->aC->Prop}(hP:∀τ n,P n (lK τ h n hours)):∀i j y,(kE h hours num τ i).1[j]?=some y->P (num j) y
 |0,j,y,hy=>by cases hy
 |i+1,j,y,hy=>by
  rw[kE]at hy;have hl:=zH h hours num τ i;by_cases hj:j<i
  ·rw[SW (by omega)]at hy;exact JZ hP i j y hy
  ·rw[S9 (by omega),hl]at hy;have:j=i:=(by have:=(SL.1 hy).1;simp at this;omega);subst this;rw[Vf]at hy;cases hy;exact hP _ _
section
variable {lv:Bool}{P:SI}{r:Option Nat}{s:AS}
theorem Iq{nt:Nat}{x y:T4}{α:Type}{Φ Ψ:an->AS->Prop}(inv:α->AS)(ok:α->Prop)(h1:aP lv P r nt x s (an.then (λs'=>∃a,ok a/\s'.Sub (inv a)) Ψ))(h2:∀a,ok a->aP lv P r nt y (inv a) Φ):aP lv P r nt x s (an.then (λs'=>aP lv P r nt y s' Φ) Ψ):=
 h1.mono λe s' h=>by
  cases e with
  |normal=>
   obtain⟨a,h3,h4⟩:=h;exact jv h4 (h2 a h3)
  |_=>exact h
end
theorem N8:gM (SF .i64 0) 3=[iv 0,iv 0,iv 0]:=rfl
theorem zE4:gM (SF .i64 0) 4=[iv 0,iv 0,iv 0,iv 0]:=rfl
theorem vA:gM (TE #[SF .i64 0,SF .i64 0,SF .i64 0,SF .i64 0]) 4=[iv 0,iv 0,iv 0,iv 0]:=rfl
theorem zS1:gM (TE #[SF .i64 0,SF .i64 0,SF .i64 0]) 3=[iv 0,iv 0,iv 0]:=rfl
theorem Dz:(3<=2^24)=True:=eq_true (by decide)
theorem rZ:(4<=2^24)=True:=eq_true (by decide)
theorem AG:(1<=2^24)=True:=eq_true (by decide)
theorem ads{first am w v:Int}{i:Nat}(h1:first<=w/\w<=first+am* i)(h2:0<=v/\v<=am)(hf:0<=first/\first<=90)(hp:1<=am/\am<=3)(hi:i<=3):0<=w+v/\w+v<=1000:=by
 have:am* (i:Int)<=3* 3:=Yc (by omega) (by omega) (by omega) (by omega);generalize am* (i:Int)=q at h1 this;omega
theorem LU{n:Int}(h:0<=n/\n<=1000):SD.wrap n=n:=bA _ (by omega)
theorem NM(h:List Int)(n:Int):∀m:Nat, -1<=l6 h n m/\l6 h n m<m
 |0=>by simp[l6]
 |m+1=>by
  have:=NM h n m;unfold l6;split
  ·omega
  ·omega
theorem Jt:∀l:List aC,(l.flatMap aC.l).length=l.length* 4
 |[]=>rfl
 |a::l=>by rw[Ub,SN,Jt l,aC.len,Ul];omega
theorem Qi:∀l:List Seen,(l.flatMap Seen.l).length=l.length* 3
 |[]=>rfl
 |a::l=>by rw[Ub,SN,Qi l,Seen.len,Ul];omega
theorem Ju{α:Type}{f:α->List AV}{l:List α}{a:α}:(l++[a]).flatMap f=l.flatMap f++f a:=by rw[UX];simp
theorem am8{α:Type}{f:Nat->α}{l:List α}{n:Nat}(hl:l.length=n)(h:∀i,i<n->l[i]?=some (f i)):(SZ n).map f=l:=by
 refine Yk λi=> ?_;rw[To];by_cases hi:i<n
 ·rw[Xx hi,UP,h i hi]
 ·rw[Uv (by simp;omega),Uv (by omega)];rfl
def Oe (a b:Nat):Prop:=(if(a:Int)<(b:Int)then(a:Int)else(b:Int))=((min b a:Nat):Int)
theorem aaZ(a b:Nat):Oe a b:=by unfold Oe;split<;>omega
structure Made (pm:Nat)(x:aj)(bG aA bU:List Int):Prop where
 first:0<=x.first/\x.first<=90
 hours:1<=x.hours/\x.hours<=3
 am:1<=x.am/\x.am<=3
 FN:nW x.first x.am bG x.hours.toNat
 anm:x.pieces.length<=pm
 yq:aA.length=x.pieces.length
 num:∀n∈aA,x.first<=n/\n<bG.getD x.hours.toNat 0
 MK:aA.Nodup
 piece:∀(p:Nat) y,x.pieces[p]?=some y->∃τ,y=lK τ bG (aA.getD p 0) x.hours
 AF:bU.length=x.aB.length
 aB:x.aB.length<=3
 own:∀v∈bU,0<=v/\v<(aA.length:Int)
 MR:bU.Nodup
 stub:∀(s:Nat) y,x.aB[s]?=some y->∃τ,y=lK τ bG (aA.getD (bU.getD s 0).toNat 0) x.hours
 yC:x.seen.length<=2
 seen:∀s∈x.seen,0<=s.hour/\s.hour<=x.hours/\∃τ,s.next=nc τ (bG.getD s.hour.toNat 0) 1 0 99
structure YOk (Gf:bc->List aa)(N:Nat)(zc:aa)(YY:List AV->Nat->Nat->Nat->Nat->Nat->List aa):Prop where
 len:∀r a b c d e,(YY r a b c d e).length=8
 y0:∀τ r a b c d e,(Gf τ++YY r a b c d e)[N]?=some zc
 y1:∀τ r a b c d e,(Gf τ++YY r a b c d e)[N+1]?=some (.cells r 26)
 y3:∀τ r a b c d e,(Gf τ++YY r a b c d e)[N+3]?=some (.tail a 4 48)
 y4:∀τ r a b c d e,(Gf τ++YY r a b c d e)[N+4]?=some (.tail b 4 48)
 y5:∀τ r a b c d e,(Gf τ++YY r a b c d e)[N+5]?=some (.tail c 3 61)
 y6:∀τ r a b c d e,(Gf τ++YY r a b c d e)[N+6]?=some (.tail d 1 3)
 y7:∀τ r a b c d e,(Gf τ++YY r a b c d e)[N+7]?=some (.tail e 1 3)
 z1:∀τ r r' a b c d e,(Gf τ++YY r a b c d e).set (N+1) (.cells r' 26)=Gf τ++YY r' a b c d e
 z3:∀τ r a a' b c d e,(Gf τ++YY r a b c d e).set (N+3) (.tail a' 4 48)=Gf τ++YY r a' b c d e
 z4:∀τ r a b b' c d e,(Gf τ++YY r a b c d e).set (N+4) (.tail b' 4 48)=Gf τ++YY r a b' c d e
 z5:∀τ r a b c c' d e,(Gf τ++YY r a b c d e).set (N+5) (.tail c' 3 61)=Gf τ++YY r a b c' d e
 z6:∀τ r a b c d d' e,(Gf τ++YY r a b c d e).set (N+6) (.tail d' 1 3)=Gf τ++YY r a b c d' e
 s0:∀r a b c d e y,∃L,(YY r a b c d e).set 0 y=y::L
 z7:∀τ r a b c d e e',(Gf τ++YY r a b c d e).set (N+7) (.tail e' 1 3)=Gf τ++YY r a b c d e'
noncomputable def oc:T4:=WS.body.getD .skip
def ni:Nat->T4->T4
 |0,c=>c
 |n+1,c=>ni n (cs c)
section
variable {lv:Bool}{P:SI}{r:Option Nat}{o:Tu}{s:AS}{next:AS->Prop}{bad:AV->AS->Prop}
theorem afj{nt id sz:Nat}{c:T4}{l:List AV}{el:TypeId}{Φ:an->AS->Prop}(bT:s.H[id]?=some (.own sz l el))(h:aP lv P r nt c ⟨s.T,s.H.set id (.part l.length l el)⟩ Φ):aP lv P r nt c s Φ:=λE V a Q ah hQ=>by
 have hc:=ah.br;obtain⟨⟨cs,ep,hd,_⟩,lj⟩:=hc.obj id _ bT;have g:dR V (V.eM (E.blk id) cs (λo=>decide (o<l.length))):=xz ep (λo _=>lj o);refine WP.ghost g ?_;have hI:∀b o v,E.I b o=some v->(V.eM (E.blk id) cs (λo=>decide (o<l.length))).ab b o=some v:=λb o v e=>by
  rw[hc.I]at e;have hb:b≠E.blk id:=λhb=>by rw[hb,lj]at e;cases e
  simp only[View.eM];rw[if_neg (λx=>hb x.1)];exact e
 have hle:E.Le {E with I:=(V.eM (E.blk id) cs (λo=>decide (o<l.length))).ab}:=⟨hI,SQ _,λ_ _=>rfl,λ_ _=>SQ _,λ_ _ _ _=>rfl,rfl,rfl⟩;have ce:Conc {E with I:=(V.eM (E.blk id) cs (λo=>decide (o<l.length))).ab} (V.eM (E.blk id) cs (λo=>decide (o<l.length))) (s.H.set id (.part l.length l el)):=by
  refine hc.iJ id _ hle rfl (by rw[TF];exact hc.n) ly rfl (λ_ _ _=>rfl) (λb y fw hy=>⟨hy,λo=> ?_⟩) ⟨⟨cs,ep,hd.mono hle,λo ho=> ?_⟩,λo ho=> ?_⟩ (λb hb=> .inl ⟨_,bT,hb⟩)
  ·have hb:b≠E.blk id:=λhb=>fw _ bT (by rw[hb];rfl);simp only[View.eM];rw[if_neg (λx=>hb x.1)]
  ·simp only[View.eM];rw[if_pos ⟨trivial,by simpa using ho⟩]
  ·simp only[View.eM];rw[if_neg (λx=>by have:=x.2;simp at this;omega)];exact lj o
 exact h _ _ a Q ⟨ce,ah.tok.mono hle,ah.size⟩ λae e E' aR a' s' hk=>hQ ae e E' aR a' s' ((⟨hle,rfl,rfl,rfl,rfl⟩:Kept E _ V (V.eM (E.blk id) cs (λo=>decide (o<l.length))) a a).trans hk)
end
section
variable {lv:Bool}{P:SI}{r:Option Nat}{s:AS}
theorem afh{nt:Nat}{α:Type}{lt:α->α->Prop}(wf:WellFounded lt){c:T4}{Φ:an->AS->Prop}(V:α->List (Nat×AV))(Hf:α->List aa)(ok:α->Prop)(m0:α)
  (uM:∀m m',(V m).map (·.1)=(V m').map (·.1)) (gG:∀p∈V m0,∃b,look s.T p.1=some b/\Wk b p.2) (uy:Hf m0=s.H) (hl:∀m,ok m->s.H.length<=(Hf m).length) (hm:ok m0)
  (h:bI s.H->(∀t a,look s.T t=some a->Lt s.H.length a)->∀m,ok m->∀R:AS->Prop,(∀s',(∃m',lt m' m/\ok m'/\qV s.T (V m) (V m') (Hf m') s')->R s')->aP lv P r nt c ⟨V m++s.T,Hf m⟩ (an.then R Φ)):aP lv P r nt (.loop c) s Φ:=by
 have same:∀m m' t,look (V m) t=none->look (V m') t=none:=λm m' t h=>Mw λp hp e=>by
  have h1:p.1∈(V m').map (·.1):=Tl.2 ⟨p,hp,rfl⟩;rw[uM m' m]at h1;obtain⟨q,hq,e'⟩:=Tl.1 h1;have h2:((V m).any λx=>x.1==t)=true:=Up.2 ⟨q,hq,by simp[e',e]⟩;obtain⟨a,ha⟩:=Mv h2;rw[h]at ha;cases ha
 intro E V0 a Q ah hQ;have hlt:∀t a,look s.T t=some a->Lt s.H.length a:=λt x e=>by rw[<- ah.br.n];exact(ah.tok t x e).2.lt
 have h0:s.Sub ⟨V m0++s.T,Hf m0⟩:=⟨λt x e=>by
  rw[vf]at e;cases hl:look (V m0) t with
  |none=>rw[hl]at e;exact⟨x,e,Wk.refl x⟩
  |some y=>rw[hl]at e;cases e;exact gG (t,x) (oG hl),uy.symm⟩
 refine OM wf (s:=s) (λm=>⟨V m++s.T,Hf m⟩) ok m0 h0 hm hl (λm au=> ?_) E V0 a Q ah hQ;refine(h ah.br.au hlt m au _ λ_ h=>h).mono λe s' hΦ=> ?_;cases e with
 |normal=>
  obtain⟨m',q1,q2,hk,hv,G,hG,tg⟩:=hΦ;have tok:∀t x,look (V m'++s.T) t=some x->∃b,look s'.T t=some b/\Wk b x/\(look (V m') t=some x\/look s.T t=some x):=λt x e=>by
   rw[vf]at e;cases hl:look (V m') t with
   |none=>
    rw[hl]at e;have hb:look (V m++s.T) t=some x:=(by rw[vf,same m' m t hl];exact e);exact⟨x,hk.look hb hl,Wk.refl x,.inr e⟩
   |some y=>
    rw[hl]at e;cases e;obtain⟨b,h1,h2⟩:=hv (t,x) (oG hl);exact⟨b,h1,h2,.inl rfl⟩
  refine⟨m',q1,q2,?_⟩;rcases tg with rfl|⟨nG,KS⟩
  ·exact .inl ⟨λt x e=>by obtain⟨b,h1,h2,_⟩:=tok t x e;exact⟨b,h1,h2⟩,by rw[hG,SO]⟩
  ·refine .inr ⟨λt x e=> ?_,⟨G,hG⟩,nG⟩;obtain⟨b,h1,h2,h3⟩:=tok t x e;refine⟨b,h1,h2,?_⟩;rcases h3 with h3|h3
   ·exact KS (t,x) (oG h3)
   ·show Lt (Hf m').length x;exact(hlt t x h3).mono (hl m' q2)
 |_=>exact hΦ
theorem OK{nt:Nat}{c:T4}{Φ:an->AS->Prop}(n:Nat)(V:Nat->List (Nat×AV))(Hf:Nat->List aa)(ok:Nat->Prop)
  (uM:∀m m',(V m).map (·.1)=(V m').map (·.1)) (gG:∀p∈V 0,∃b,look s.T p.1=some b/\Wk b p.2) (uy:Hf 0=s.H) (hl:∀m,m<=n->ok m->s.H.length<=(Hf m).length) (hm:ok 0)
  (h:bI s.H->(∀t a,look s.T t=some a->Lt s.H.length a)->∀m,m<=n->ok m->∀R:AS->Prop,(∀s',(m<n/\ok (m+1)/\qV s.T (V m) (V (m+1)) (Hf (m+1)) s')->R s')->aP lv P r nt c ⟨V m++s.T,Hf m⟩ (an.then R Φ)):aP lv P r nt (.loop c) s Φ:=by
 refine afh (measure λi=>n-i).wf V Hf (λi=>i<=n/\ok i) 0 uM gG uy (λm h=>hl m h.1 h.2) ⟨Yy _,hm⟩ (λh1 h2 m au R hR=> ?_);exact h h1 h2 m au.1 au.2 R λs' ⟨q1,q2,q3⟩=>hR s' ⟨m+1,(by show n-(m+1)<n-m;omega),⟨q1,q2⟩,q3⟩
end
def gO:Nat->aa->List aa
 |0,_=>[]
 |n+1,o=>TH n .gone++[o]
theorem xy:∀(n:Nat)(o:aa),(gO n o).length=n
 |0,_=>rfl
 |n+1,o=>by simp[gO]
theorem B5(n:Nat)(o:aa)(R:List aa):(gO (n+1) o++R)[n]?=some o:=by
 rw[SW (by rw[xy];omega),gO,S9 (by simp)];simp
theorem B6(n:Nat)(o o':aa)(R:List aa):(gO (n+1) o++R).set n o'=gO (n+1) o'++R:=by
 rw[US _ _ (by rw[xy];omega),gO,T9 _ _ (by simp)];simp[gO]
theorem QB(n:Nat)(o:aa):gO (n+1) .gone++[o]=gO (n+2) o:=by
 simp only[gO,List.replicate_succ']
def fy (j n:Nat):AV:=match n with
 |0=> .sl 0 [] .exact
 |n+1=> .bw (j+n) 0 (n+1) 0
def fJ (l:List aC):aa:=.own 4 (l.flatMap aC.l) 48
structure YW (Gf:bc->List aa)(N:Nat)(zc:aa)(YY:List AV->Nat->Nat->Nat->List aa):Prop where
 len:∀r c d e,(YY r c d e).length=6
 n:∀τ r c d e G,(Gf τ++(YY r c d e++G)).length=N+6+G.length
 y0:∀τ r c d e G,(Gf τ++(YY r c d e++G))[N]?=some zc
 y1:∀τ r c d e G,(Gf τ++(YY r c d e++G))[N+1]?=some (.cells r 26)
 y3:∀τ r c d e G,(Gf τ++(YY r c d e++G))[N+3]?=some (.tail c 3 61)
 y4:∀τ r c d e G,(Gf τ++(YY r c d e++G))[N+4]?=some (.tail d 1 3)
 y5:∀τ r c d e G,(Gf τ++(YY r c d e++G))[N+5]?=some (.tail e 1 3)
 z1:∀τ r r' c d e G,(Gf τ++(YY r c d e++G)).set (N+1) (.cells r' 26)=Gf τ++(YY r' c d e++G)
 z3:∀τ r c c' d e G,(Gf τ++(YY r c d e++G)).set (N+3) (.tail c' 3 61)=Gf τ++(YY r c' d e++G)
 z4:∀τ r c d d' e G,(Gf τ++(YY r c d e++G)).set (N+4) (.tail d' 1 3)=Gf τ++(YY r c d' e++G)
 z5:∀τ r c d e e' G,(Gf τ++(YY r c d e++G)).set (N+5) (.tail e' 1 3)=Gf τ++(YY r c d e'++G)
 w:∀τ r c d e G m,(Gf τ++(YY r c d e++G))[N+6+m]?=G[m]?
 v:∀τ r c d e G m y,(Gf τ++(YY r c d e++G)).set (N+6+m) y=Gf τ++(YY r c d e++G.set m y)
 s0:∀r c d e y,∃L,(YY r c d e).set 0 y=y::L
section
variable {Gf:bc->List aa}{N:Nat}{zc:aa}{YY:List AV->Nat->Nat->Nat->List aa}(h:YW Gf N zc YY)
include h
theorem YW.n0(τ r c d e):(Gf τ++YY r c d e).length=N+6:=by have:=h.n τ r c d e [];rwa [SO]at this
theorem YW.w0(τ r c d e G):(Gf τ++(YY r c d e++G))[N+6]?=G[0]?:=h.w τ r c d e G 0
theorem YW.yK(τ r c d e):(Gf τ++YY r c d e)[N+1]?=some (.cells r 26):=by have:=h.y1 τ r c d e [];rwa [SO]at this
theorem YW.yL(τ r r' c d e):(Gf τ++YY r c d e).set (N+1) (.cells r' 26)=Gf τ++YY r' c d e:=by have:=h.z1 τ r r' c d e [];rwa [SO,SO]at this
end
theorem asq{Gf:bc->List aa}{t N:Nat}{zc o2:aa}{YY:List AV->Nat->Nat->Nat->List aa}(hT:dJ Gf t N)(h:∀r c d e,YY r c d e=[zc,.cells r 26,o2,.tail c 3 61,.tail d 1 3,.tail e 1 3]):YW Gf N zc YY:=by
 have nK:∀τ (L:List aa)(j:Nat),(Gf τ++L)[N+j]?=L[j]?:=λτ L j=>by rw[<- hT.len τ,aX]
 have dW:∀τ (L:List aa)(j:Nat)(y:aa),(Gf τ++L).set (N+j) y=Gf τ++L.set j y:=λτ L j y=>by rw[<- hT.len τ,dU]
 have hl:∀r c d e,(YY r c d e).length=6:=λr c d e=>by rw[h];rfl
 refine⟨hl,λτ r c d e G=>by rw[SN,SN,hl,hT.len];omega,λτ r c d e G=> ?_,λτ r c d e G=>by rw[nK,h];rfl,λτ r c d e G=>by rw[nK,h];rfl,λτ r c d e G=>by rw[nK,h];rfl,λτ r c d e G=>by rw[nK,h];rfl,λτ r r' c d e G=>by rw[dW,h,h];rfl,λτ r c c' d e G=>by rw[dW,h,h];rfl,λτ r c d d' e G=>by rw[dW,h,h];rfl,λτ r c d e e' G=>by rw[dW,h,h];rfl,λτ r c d e G m=> ?_,λτ r c d e G m y=> ?_,λr c d e y=>⟨_,by rw[h];rfl⟩⟩
 ·have:=nK τ (YY r c d e++G) 0;rw[UE]at this;rw[this,h];rfl
 ·rw[U1,nK,S9 (by rw[hl];omega),hl,TR]
 ·rw[U1,dW,T9 _ _ (by rw[hl];omega),hl,TR]
section
variable {lv:Bool}{k kp:AV->List aa->Prop}{Gf:bc->List aa}{t N:Nat}{b:Int}
theorem ahU{pm i mn:Nat}{first am:Int}{l order:List Int}{ρ:bc}{zc:aa}{YY:List AV->Nat->Nat->Nat->List aa}{hz:Bool}{Ψ:an->AS->Prop}(hT:dJ Gf t N)(hY:YW Gf N zc YY)(hH:∀τ,bI (Gf τ))(hb:b<2^10)(tz:pm<=4)(hi:1<=i/\i<=3)(ox:0<=first/\first<=90)(fF:l.length=i+1)(KX:mn<=9)(qv:H7 order mn)(qy:ρ.Ok (b+19)):
  aP lv SA none 240 (cs (cf (ni 7 oc))) ⟨[(17,iv 0),(16,.sl 0 [] (.opn (N+5))),(15,.sl 0 [] (.opn (N+4))),(14,a_ order),(13,iv mn),(11,.sl (i+1) (l.map iv) (.opn (N+2))),(10,.op (N+1) 0),(6,.op N 0),(0,.op t 0),(1,iv pm),(2,bv hz)],Gf ρ++YY [iv first,iv i,iv am,.sl 0 [] (.opn (N+3)),.sl 0 [] .exact,.sl 0 [] .exact] 0 0 0⟩ (an.then (λs'=>∃y:Nat×bc,(y.1<=pm/\y.1<=mn/\y.2.Ok (b+60))/\s'.Sub ⟨[(16,.sl 0 [] (.opn (N+5))),(15,.sl y.1 ((kN first order y.1).map iv) (.opn (N+4))),(13,iv mn),(11,.sl (i+1) (l.map iv) (.opn (N+2))),(10,.op (N+1) 0),(6,.op N 0),(0,.op t 0),(2,bv hz)],Gf y.2++(YY [iv first,iv i,iv am,.sl 0 [] (.opn (N+3)),fy (N+6) y.1,.sl 0 [] .exact] 0 y.1 0++gO y.1 (fJ (kE l i (λj=>first+order.getD j 0) ρ y.1).1))⟩) Ψ):=by
 have n0:=hY.n0;have w0:=hY.w0;have Dy:(1<=2^30)=True:=eq_true (by decide);have yK:=hY.yK;have yL:=hY.yL;obtain⟨uB,ry,y0,y1,y3,y4,y5,mV,yM,A5,A6,qb,s7,db⟩:=hY;have jE:∀L:List aa,dJ (λτ=>Gf τ++L) t (N+L.length):=λL=>hT.more L;obtain⟨hv,zU⟩:∃hv:Nat->List aC×bc,∀j,hv j=kE l i (λj=>first+order.getD j 0) ρ j:=⟨_,λ_=>rfl⟩;simp only[<- zU];have hvl:∀j,(hv j).1.length=j:=λj=>by rw[zU];exact zH _ _ _ _ _
 have hvt:∀j:Nat,(hv j).2.Ok (b+19+5* j):=λj=>by rw[zU];exact(J3 qy _ _ _ j).mono (by omega)
 have cW:hv 0=([],ρ):=zU 0;unfold oc WS;dsimp only[S7,ni,cs,cf];have FS:=aaZ mn pm;refine cq ?_;refine OK (min pm mn) (λj:Nat=>[(15,.sl j ((kN first order j).map iv) (.opn (N+4))),(17,iv j)]) (λj=>Gf (hv j).2++(YY [iv first,iv i,iv am,.sl 0 [] (.opn (N+3)),fy (N+6) j,.sl 0 [] .exact] 0 j 0++gO j (fJ (hv j).1))) (λ_=>True) (λ_ _=>rfl) (by simp only[kN,Zx,List.map_nil];simp only[seval];simp[bu,Wk.refl]) (by rw[cW];simp[gO,fy]) (λ_ _ _=>by simp[hT.len,uB]) trivial (λbQ cP j oz _ R hR=> ?_);clear bQ cP;have lw:=hvt j;by_cases eU:j<min pm mn
 ·have hd:decide ((j:Int)<((min pm mn:Nat):Int))=true:=by simpa using eU
  refine ai ?_;simp only[seval,show (if(mn:Int)<(pm:Int)then(mn:Int)else(pm:Int))=((min pm mn:Nat):Int)from FS,hd];have eC:hv (j+1)=((hv j).1++[lK (tick (hv j).2) l (first+order.getD j 0) i],tick (tick (tick (tick (tick (hv j).2))))):=by rw[zU,zU];rfl
  have pB:=hvl j;generalize FL:hv j=hj at lw eC pB⊢;obtain⟨ps,ρj⟩:=hj;dsimp only at lw eC pB⊢;refine aI ((EY (n:=6) (jE _) lw (by omega) (by decide) ?_));(try simp only[seval]);refine aD ?_;refine⟨λhc=> ?_,λhc=> ?_⟩
  ·obtain⟨o,ho⟩:=b9 (xs:=order) (i:=j) (by rw[qv.len];omega);have hor:=qv.Hc o (tP ho);have hgo:order.getD j 0=o:=(by rw[SE,ho];rfl);rw[hgo]at eC;have LK:SD.wrap (first+o)=first+o:=LU (by omega)
   have xV:SD.wrap ((j:Int)+1)=((j+1:Nat):Int):=(by rw[bA _ (by omega)];rfl);have qf:(0<=(j:Int)/\(j:Int)<(order.length:Int))=True:=(by simp[qv.len];omega);have jI:=abb first order j
   have CJ:U9 iv (kN first order j)++[AV.val (SF SD (first+o))]=(kN first order (j+1)).map iv:=(by rw[abc,hgo,TD];rfl);have xY:(kN first order (j+1))[j]?=some (first+o):=(by rw[abc,hgo,S9 (by omega),jI,Vf];rfl);have o5:(0<=(j:Int)/\(j:Int)<(j:Int)+1)=True:=(by simp;omega);refine aN ?_;refine cq ?_;refine eO 9 ?_;simp only[seval,z1,AG,y1,y4,A5,a_,e9 ho,qf,LK,jI];refine⟨by omega,?_⟩;rw[CJ];obtain⟨n,hn⟩:∃n,n=first+o:=⟨_,rfl⟩
   rw[<- hn]at xY eC;have qA:=NM l n i;have uo:=λ(L:List aa) k kp=>P5 (lv:=lv) (k:=k) (kp:=kp) (h:=l) (n:=n) (hours:=i) (e:=.opn (N+2)) (jE L) lw.tick (by omega) (by omega) (by omega) (by omega) (by rw[fF,VZ];omega);simp only[fF]at uo;obtain⟨y,hy⟩:∃y,y=lK (tick ρj) l n i:=⟨_,rfl⟩;rw[<- hy]at eC uo;have wB:y.l=[iv y.number.min,iv y.number.max,iv y.hour.min,iv y.hour.max]:=rfl;have hyf:∀a∈y.l,a.leaf=true:=(by rw[wB];simp[AV.leaf,Value.one]);have ep:∀FP,FP=ps.flatMap aC.l->aa.own 4 (FP++y.l) 48=fJ (hv (j+1)).1:=λFP o4=>(by rw[eC,fJ,Ju,o4]);rcases UH j with uJ|uJ
   ·subst uJ;obtain rfl:ps=[]:=VD pB;have db:fy (N+6) 0=.sl 0 [] .exact:=rfl;have lL:∀o,gO 0 o=[]:=λ_=>rfl;rw[lL,SO];refine oW [10,12,14] [0,1,2,3,4,5,6,7,8,9,10,11,12,13,14] [⟨0,false,[],[([10],[10])]⟩,⟨1,false,[],[([10],[10])]⟩,⟨2,false,[],[]⟩,⟨3,false,[],[]⟩,⟨4,false,[],[]⟩,⟨5,false,[],[]⟩,⟨6,false,[],[]⟩,⟨7,false,[],[]⟩,⟨8,false,[],[]⟩,⟨9,false,[],[]⟩,⟨10,true,[10],[]⟩,⟨11,false,[10],[]⟩,⟨12,true,[10,12],[]⟩,⟨13,false,[10,12],[]⟩,⟨14,true,[10,12,14],[]⟩] (λD=>bif isDone 14 D then Gf (tick (tick (tick (tick (tick ρj)))))++(YY [iv first,iv i,iv am,.sl 0 [] (.opn (N+3)),.bw (N+6) 0 1 0,.sl 0 [] .exact] 0 1 0++[.own 4 y.l 48])else bif isDone 12 D then Gf (tick (tick (tick (tick (tick ρj)))))++(YY [iv first,iv i,iv am,.sl 0 [] (.opn (N+3)),.sl 0 [] .exact,.sl 0 [] .exact] 0 1 0++[.own 4 y.l 48])else bif isDone 10 D then Gf (tick (tick (tick (tick (tick ρj)))))++YY [iv first,iv i,iv am,.sl 0 [] (.opn (N+3)),.sl 0 [] .exact,.sl 0 [] .exact] 0 1 0 else Gf (tick ρj)++YY [iv first,iv i,iv am,.sl 0 [] (.opn (N+3)),.sl 0 [] .exact,.sl 0 [] .exact] 0 1 0) ?_;simp only[seval,vA,rZ,y1,ry,qb,mV,n0,w0,Dy,yK,yL,e9 xY,o5,db,SC];refine j8 y.av _ (cx (uo _ _ _ ⟨rfl,rfl⟩)) ?_;(try simp only[seval,vA,rZ,y1,ry,qb,mV,n0,w0,Dy,yK,yL,e9 xY,o5,db,SC,aC.av,wB]);refine ai ?_;simp only[seval,show SD.wrap 1=1 from bA _ (by omega),show (0:Int)+1=1 from rfl];have e1:(hv (0+1)).2=tick (tick (tick (tick (tick ρj)))):=(by rw[eC]);have e2:gO (0+1) (fJ (hv (0+1)).1)=[.own 4 [iv y.number.min,iv y.number.max,iv y.hour.min,iv y.hour.max] 48]:=(by rw[<- ep [] rfl];rfl);refine hR _ ⟨by omega,trivial,?_⟩;rw[e1,e2];exact da
   ·obtain⟨n',iU⟩:∃n',j=n'+1:=⟨j-1,by omega⟩;have cH:fy (N+6) j=.bw (N+6+n') 0 j 0:=(by rw[iU];rfl);have uG:∀o,(gO j o)[n']?=some o:=λo=>(by rw[iU];have:=B5 n' o [];rwa [SO]at this);have uV:∀o,(gO j o).set n' .gone=gO j .gone:=λo=>(by rw[iU];have:=B6 n' o .gone [];rwa [SO,SO]at this);have rD:∀a,gO j .gone++[a]=gO (j+1) a:=λa=>(by rw[iU];exact QB _ _);have kH:∀o,(gO j o).length=j:=xy j;have ep:=ep _ rfl;rw[cH];unfold fJ;obtain⟨FP,o4⟩:∃FP,FP=ps.flatMap aC.l:=⟨_,rfl⟩;have vY:FP.length=j* 4:=(by rw[o4,Jt,pB]);rw[<- o4]at ep⊢;refine oW [10,12,14] [0,1,2,3,4,5,6,7,8,9,10,11,12,13,14] [⟨0,false,[],[([10],[10])]⟩,⟨1,false,[],[([10],[10])]⟩,⟨2,false,[],[]⟩,⟨3,false,[],[]⟩,⟨4,false,[],[]⟩,⟨5,false,[],[]⟩,⟨6,false,[],[]⟩,⟨7,false,[],[]⟩,⟨8,false,[],[]⟩,⟨9,false,[],[]⟩,⟨10,true,[10],[]⟩,⟨11,false,[10],[]⟩,⟨12,true,[10,12],[]⟩,⟨13,false,[10,12],[]⟩,⟨14,true,[10,12,14],[]⟩] (λD=>bif isDone 14 D then Gf (tick (tick (tick (tick (tick ρj)))))++(YY [iv first,iv i,iv am,.sl 0 [] (.opn (N+3)),.bw (N+6+j) 0 (j+1) 0,.sl 0 [] .exact] 0 (j+1) 0++gO (j+1) (.own 4 (FP++y.l) 48))else bif isDone 12 D then Gf (tick (tick (tick (tick (tick ρj)))))++(YY [iv first,iv i,iv am,.sl 0 [] (.opn (N+3)),.bw (N+6+n') 0 j 0,.sl 0 [] .exact] 0 (j+1) 0++gO (j+1) (.own 4 (FP++y.l) 48))else bif isDone 10 D then Gf (tick (tick (tick (tick (tick ρj)))))++(YY [iv first,iv i,iv am,.sl 0 [] (.opn (N+3)),.bw (N+6+n') 0 j 0,.sl 0 [] .exact] 0 (j+1) 0++gO j (.own 4 FP 48))else Gf (tick ρj)++(YY [iv first,iv i,iv am,.sl 0 [] (.opn (N+3)),.bw (N+6+n') 0 j 0,.sl 0 [] .exact] 0 (j+1) 0++gO j (.own 4 FP 48))) ?_;simp only[seval,vA,rZ,y1,ry,qb,s7,mV,e9 xY,o5,uG,uV,rD,kH,vY,SC];refine j8 y.av _ (cx (uo _ _ _ ⟨rfl,rfl⟩)) ?_;(try simp only[seval,vA,rZ,y1,ry,qb,s7,mV,e9 xY,o5,uG,uV,rD,kH,vY,SC,aC.av,wB]);refine⟨uJ,by omega,?_⟩;refine ai ?_;simp only[seval,xV];refine hR _ ⟨by omega,trivial,?_⟩;rw[<- ep,show (hv (j+1)).2=tick (tick (tick (tick (tick ρj)))) by rw[eC]];exact da
  ·refine bX ?_;exact⟨(j,tick ρj),⟨by dsimp only;omega,by dsimp only;omega,lw.tick.mono (by omega)⟩,ey (by simp only[seval];simp[bu,Wk.refl]) (by rw[FL])⟩
 ·have hd:decide ((j:Int)<((min pm mn:Nat):Int))=false:=by simpa using eU
  refine ai ?_;simp only[seval,show (if(mn:Int)<(pm:Int)then(mn:Int)else(pm:Int))=((min pm mn:Nat):Int)from FS,hd];refine aD ?_;refine bX ?_;exact⟨(j,(hv j).2),⟨by dsimp only;omega,by dsimp only;omega,lw.mono (by omega)⟩,ey (by simp only[seval];simp[bu,Wk.refl]) rfl⟩
theorem ahP{i np:Nat}{first am w:Int}{l aA gZ:List Int}{ρ2:bc}{zc:aa}{pv:AV}{gP:List aa}{YY:List AV->Nat->Nat->Nat->List aa}{hz:Bool}{Bi:AV}{Ψ:an->AS->Prop}(hT:dJ Gf t N)(hY:YW Gf N zc YY)(xR:gP.length=np)(hb:b<2^10)(hi:1<=i/\i<=3)(ox:0<=first/\first<=90)(Gd:first<=w/\w<=first+9)(fF:l.length=i+1)(CK:np<=4)(jI:aA.length=np)(tu:∀n∈aA,first<=n/\n<w)(tC:H7 gZ np)(yg:ρ2.Ok (b+64)):
  aP lv SA none 240 (cs (cf (ni 9 oc))) ⟨[(19,iv 0),(18,.sl np (gZ.map iv) .shut),(16,.sl 0 [] (.opn (N+5))),(15,.sl np (aA.map iv) (.opn (N+4))),(13,Bi),(11,.sl (i+1) (l.map iv) (.opn (N+2))),(10,.op (N+1) 0),(6,.op N 0),(0,.op t 0),(2,bv hz)],Gf ρ2++(YY [iv first,iv i,iv am,.sl 0 [] (.opn (N+3)),pv,.sl 0 [] .exact] 0 np 0++gP)⟩ (an.then (λs'=>∃y:Nat×bc,(y.1<=np/\y.1<=3/\y.2.Ok (b+90))/\s'.Sub ⟨[(16,.sl y.1 ((gZ.take y.1).map iv) (.opn (N+5))),(15,.sl np (aA.map iv) (.opn (N+4))),(13,Bi),(11,.sl (i+1) (l.map iv) (.opn (N+2))),(10,.op (N+1) 0),(6,.op N 0),(0,.op t 0),(2,bv hz)],Gf y.2++(YY [iv first,iv i,iv am,.sl 0 [] (.opn (N+3)),pv,fy (N+6+np) y.1] 0 np y.1++(gP++gO y.1 (fJ (kE l i (λj=>aA.getD (gZ.getD j 0).toNat 0) ρ2 y.1).1)))⟩) Ψ):=by
 obtain⟨uB,ry,y0,y1,y3,y4,y5,mV,yM,A5,A6,qb,s7,db⟩:=hY;have Dy:(1<=2^30)=True:=eq_true (by decide);have n0:∀τ r c d e,(Gf τ++(YY r c d e++gP)).length=N+6+np:=λτ r c d e=>by rw[ry,xR]
 have n1:∀τ r c d e X,(Gf τ++(YY r c d e++(gP++X))).length=N+6+np+X.length:=λτ r c d e X=>by rw[ry,SN,xR];omega
 have w1:∀τ r c d e X m,(Gf τ++(YY r c d e++(gP++X)))[N+6+np+m]?=X[m]?:=λτ r c d e X m=>by rw[U1 (N+6),qb,S9 (by omega),xR,TR]
 have w0:∀τ r c d e X,(Gf τ++(YY r c d e++(gP++X)))[N+6+np]?=X[0]?:=λτ r c d e X=>w1 τ r c d e X 0;have v1:∀τ r c d e X m y,(Gf τ++(YY r c d e++(gP++X))).set (N+6+np+m) y=Gf τ++(YY r c d e++(gP++X.set m y)):=λτ r c d e X m y=>by rw[U1 (N+6),s7,T9 _ _ (by omega),xR,TR]
 have jE:∀L:List aa,dJ (λτ=>Gf τ++L) t (N+L.length):=λL=>hT.more L;obtain⟨hw,zV⟩:∃hw:Nat->List aC×bc,∀j,hw j=kE l i (λj=>aA.getD (gZ.getD j 0).toNat 0) ρ2 j:=⟨_,λ_=>rfl⟩;simp only[<- zV];have rQ:∀j,(hw j).1.length=j:=λj=>by rw[zV];exact zH _ _ _ _ _
 have uW:∀j:Nat,(hw j).2.Ok (b+64+5* j):=λj=>by rw[zV];exact J3 yg _ _ _ j
 have yd:hw 0=([],ρ2):=zV 0;have aal:=tC.len;unfold oc WS;dsimp only[S7,ni,cs,cf];have R7:=aaZ 3 np;refine cq ?_;refine OK (min np 3) (λj:Nat=>[(16,.sl j ((gZ.take j).map iv) (.opn (N+5))),(19,iv j)]) (λj=>Gf (hw j).2++(YY [iv first,iv i,iv am,.sl 0 [] (.opn (N+3)),pv,fy (N+6+np) j] 0 np j++(gP++gO j (fJ (hw j).1)))) (λ_=>True) (λ_ _=>rfl) (by simp only[seval];simp[bu,Wk.refl]) (by rw[yd];simp[gO,fy]) (λ_ _ _=>by simp[hT.len,uB]) trivial (λbQ cP j oz _ R hR=> ?_);clear bQ cP;have lw:=uW j;by_cases eU:j<min np 3
 ·have hd:decide ((j:Int)<((min np 3:Nat):Int))=true:=by simpa using eU
  refine ai ?_;simp only[seval,a_,aal,show (if(3:Int)<(np:Int)then(3:Int)else(np:Int))=((min np 3:Nat):Int)from R7,hd];have eC:hw (j+1)=((hw j).1++[lK (tick (hw j).2) l (aA.getD (gZ.getD j 0).toNat 0) i],tick (tick (tick (tick (tick (hw j).2))))):=by rw[zV,zV];rfl
  have pB:=rQ j;generalize FL:hw j=hj at lw eC pB⊢;obtain⟨ts,ρj⟩:=hj;dsimp only at lw eC pB⊢;refine aI ((EY (n:=3) (jE _) lw (by omega) (by decide) ?_));(try simp only[seval]);refine aD ?_;refine⟨λhc=> ?_,λhc=> ?_⟩
  ·obtain⟨v,nN⟩:=b9 (xs:=gZ) (i:=j) (by omega);have hvr:=tC.Hc v (tP nN);obtain⟨v,rfl⟩:∃v':Nat,v=v':=⟨v.toNat,by omega⟩;have CA:gZ.getD j 0=v:=(by rw[SE,nN];rfl);rw[CA,VP]at eC;obtain⟨n,zZ⟩:=b9 (xs:=aA) (i:=v) (by omega);have FJ:aA.getD v 0=n:=(by rw[SE,zZ];rfl);rw[FJ]at eC;have rJ:=tu n (tP zZ);have xV:SD.wrap ((j:Int)+1)=((j+1:Nat):Int):=(by rw[bA _ (by omega)];rfl);have o5:(0<=(j:Int)/\(j:Int)<(np:Int))=True:=(by simp;omega);have zL:(0<=(v:Int)/\(v:Int)<(np:Int))=True:=(by simp;omega);have aF:(gZ.take j).length=j:=(by rw[Ud];omega);have alA:(gZ.take j).map iv++[AV.val (SF SD v)]=(gZ.take (j+1)).map iv:=(by rw[VL,nN,TD];rfl);refine aN ?_;refine ai ?_;simp only[seval,z1,AG,y5,A6,e9 nN,o5,aF];refine⟨by omega,?_⟩;rw[alA];have qA:=NM l n i;have uo:=λ(L:List aa) k kp=>P5 (lv:=lv) (k:=k) (kp:=kp) (h:=l) (n:=n) (hours:=i) (e:=.opn (N+2)) (jE L) lw.tick (by omega) (by omega) (by omega) (by omega) (by rw[fF,VZ];omega);simp only[fF]at uo;obtain⟨y,hy⟩:∃y,y=lK (tick ρj) l n i:=⟨_,rfl⟩;rw[<- hy]at eC uo;have wB:y.l=[iv y.number.min,iv y.number.max,iv y.hour.min,iv y.hour.max]:=rfl;have ep:∀FP,FP=ts.flatMap aC.l->aa.own 4 (FP++y.l) 48=fJ (hw (j+1)).1:=λFP o4=>(by rw[eC,fJ,Ju,o4]);rcases UH j with uJ|uJ
   ·subst uJ;obtain rfl:ts=[]:=VD pB;have db:fy (N+6+np) 0=.sl 0 [] .exact:=rfl;have lL:∀o,gO 0 o=[]:=λ_=>rfl;have uL:(0<(np:Int))=True:=(by simp;omega);rw[db,lL,SO];refine oW [13,15,17] [0,1,2,3,4,5,6,7,8,9,10,11,12,13,14,15,16,17] [⟨0,false,[],[([13],[13])]⟩,⟨1,false,[],[([13],[13])]⟩,⟨2,false,[],[]⟩,⟨3,false,[],[]⟩,⟨4,false,[],[]⟩,⟨5,false,[],[]⟩,⟨6,false,[],[]⟩,⟨7,false,[],[]⟩,⟨8,false,[],[]⟩,⟨9,false,[],[]⟩,⟨10,false,[],[]⟩,⟨11,false,[],[]⟩,⟨12,false,[],[]⟩,⟨13,true,[13],[]⟩,⟨14,false,[13],[]⟩,⟨15,true,[13,15],[]⟩,⟨16,false,[13,15],[]⟩,⟨17,true,[13,15,17],[]⟩] (λD=>bif isDone 17 D then Gf (tick (tick (tick (tick (tick ρj)))))++(YY [iv first,iv i,iv am,.sl 0 [] (.opn (N+3)),pv,.bw (N+6+np) 0 1 0] 0 np 1++(gP++[.own 4 y.l 48]))else bif isDone 15 D then Gf (tick (tick (tick (tick (tick ρj)))))++(YY [iv first,iv i,iv am,.sl 0 [] (.opn (N+3)),pv,.sl 0 [] .exact] 0 np 1++(gP++[.own 4 y.l 48]))else bif isDone 13 D then Gf (tick (tick (tick (tick (tick ρj)))))++(YY [iv first,iv i,iv am,.sl 0 [] (.opn (N+3)),pv,.sl 0 [] .exact] 0 np 1++gP)else Gf (tick ρj)++(YY [iv first,iv i,iv am,.sl 0 [] (.opn (N+3)),pv,.sl 0 [] .exact] 0 np 1++gP)) ?_;simp only[seval,vA,rZ,y1,mV,e9 nN,o5,e9 zZ,zL,a_,jI,n0,w0,Dy,uL,SC];refine j8 y.av _ (cx (uo _ _ _ ⟨rfl,rfl⟩)) ?_;(try simp only[seval,vA,rZ,y1,mV,e9 nN,o5,e9 zZ,zL,a_,jI,n0,w0,Dy,uL,SC,aC.av,wB]);refine ai ?_;simp only[seval,show SD.wrap 1=1 from bA _ (by omega),show (0:Int)+1=1 from rfl];have e1:(hw (0+1)).2=tick (tick (tick (tick (tick ρj)))):=(by rw[eC]);have e2:gO (0+1) (fJ (hw (0+1)).1)=[.own 4 [iv y.number.min,iv y.number.max,iv y.hour.min,iv y.hour.max] 48]:=(by rw[<- ep [] rfl];rfl);refine hR _ ⟨by omega,trivial,?_⟩;rw[e1,e2];exact da
   ·obtain⟨n2,qu⟩:∃n2,j=n2+1:=⟨j-1,by omega⟩;have cH:fy (N+6+np) j=.bw (N+6+np+n2) 0 j 0:=(by rw[qu];rfl);have uG:∀o,(gO j o)[n2]?=some o:=λo=>(by rw[qu];have:=B5 n2 o [];rwa [SO]at this);have uV:∀o,(gO j o).set n2 .gone=gO j .gone:=λo=>(by rw[qu];have:=B6 n2 o .gone [];rwa [SO,SO]at this);have rD:∀a,gO j .gone++[a]=gO (j+1) a:=λa=>(by rw[qu];exact QB _ _);have kH:∀o,(gO j o).length=j:=xy j;have ep:=ep _ rfl;rw[cH];unfold fJ;obtain⟨FP,o4⟩:∃FP,FP=ts.flatMap aC.l:=⟨_,rfl⟩;have vY:FP.length=j* 4:=(by rw[o4,Jt,pB]);rw[<- o4]at ep⊢;refine oW [13,15,17] [0,1,2,3,4,5,6,7,8,9,10,11,12,13,14,15,16,17] [⟨0,false,[],[([13],[13])]⟩,⟨1,false,[],[([13],[13])]⟩,⟨2,false,[],[]⟩,⟨3,false,[],[]⟩,⟨4,false,[],[]⟩,⟨5,false,[],[]⟩,⟨6,false,[],[]⟩,⟨7,false,[],[]⟩,⟨8,false,[],[]⟩,⟨9,false,[],[]⟩,⟨10,false,[],[]⟩,⟨11,false,[],[]⟩,⟨12,false,[],[]⟩,⟨13,true,[13],[]⟩,⟨14,false,[13],[]⟩,⟨15,true,[13,15],[]⟩,⟨16,false,[13,15],[]⟩,⟨17,true,[13,15,17],[]⟩] (λD=>bif isDone 17 D then Gf (tick (tick (tick (tick (tick ρj)))))++(YY [iv first,iv i,iv am,.sl 0 [] (.opn (N+3)),pv,.bw (N+6+np+j) 0 (j+1) 0] 0 np (j+1)++(gP++gO (j+1) (.own 4 (FP++y.l) 48)))else bif isDone 15 D then Gf (tick (tick (tick (tick (tick ρj)))))++(YY [iv first,iv i,iv am,.sl 0 [] (.opn (N+3)),pv,.bw (N+6+np+n2) 0 j 0] 0 np (j+1)++(gP++gO (j+1) (.own 4 (FP++y.l) 48)))else bif isDone 13 D then Gf (tick (tick (tick (tick (tick ρj)))))++(YY [iv first,iv i,iv am,.sl 0 [] (.opn (N+3)),pv,.bw (N+6+np+n2) 0 j 0] 0 np (j+1)++(gP++gO j (.own 4 FP 48)))else Gf (tick ρj)++(YY [iv first,iv i,iv am,.sl 0 [] (.opn (N+3)),pv,.bw (N+6+np+n2) 0 j 0] 0 np (j+1)++(gP++gO j (.own 4 FP 48)))) ?_;simp only[seval,vA,rZ,y1,mV,e9 nN,o5,e9 zZ,zL,a_,jI,n1,w1,v1,uG,uV,rD,kH,vY,SC];refine j8 y.av _ (cx (uo _ _ _ ⟨rfl,rfl⟩)) ?_;(try simp only[seval,vA,rZ,y1,mV,e9 nN,o5,e9 zZ,zL,a_,jI,n1,w1,v1,uG,uV,rD,kH,vY,SC,aC.av,wB]);refine⟨uJ,by omega,?_⟩;refine ai ?_;simp only[seval,xV];refine hR _ ⟨by omega,trivial,?_⟩;rw[<- ep,show (hw (j+1)).2=tick (tick (tick (tick (tick ρj)))) by rw[eC]];exact da
  ·refine bX ?_;exact⟨(j,tick ρj),⟨by dsimp only;omega,by dsimp only;omega,lw.tick.mono (by omega)⟩,ey (by simp only[seval];simp[bu,Wk.refl]) (by rw[FL])⟩
 ·have hd:decide ((j:Int)<((min np 3:Nat):Int))=false:=by simpa using eU
  refine ai ?_;simp only[seval,a_,aal,show (if(3:Int)<(np:Int)then(3:Int)else(np:Int))=((min np 3:Nat):Int)from R7,hd];refine aD ?_;refine bX ?_;exact⟨(j,(hw j).2),⟨by dsimp only;omega,by dsimp only;omega,lw.mono (by omega)⟩,ey (by simp only[seval];simp[bu,Wk.refl]) rfl⟩
theorem ahS{i np ns cn:Nat}{first am:Int}{l aA bU:List Int}{pv sv Bi:AV}{G:List aa}{im:Bool}{ρ4:bc}{zc:aa}{YY:List AV->Nat->Nat->Nat->List aa}{Ψ:an->AS->Prop}(hT:dJ Gf t N)(hY:YW Gf N zc YY)(hb:b<2^10)(hi:1<=i/\i<=3)(ox:0<=first/\first<=90)(wy:1<=am/\am<=3)(au:nW first am l i)(gU:cn<=2)(Gk:ρ4.Ok (b+91)):
  aP lv SA none 240 (cs (cf (ni 10 oc))) ⟨[(20,iv cn),(16,.sl ns (bU.map iv) (.opn (N+5))),(15,.sl np (aA.map iv) (.opn (N+4))),(13,Bi),(11,.sl (i+1) (l.map iv) (.opn (N+2))),(10,.op (N+1) 0),(6,.op N 0),(0,.op t 0),(2,bv im)],Gf ρ4++(YY [iv first,iv i,iv am,.sl 0 [] (.opn (N+3)),pv,sv] 0 np ns++G)⟩ (an.then (λs'=>∃y:List Seen×bc,(y.1.length<=2/\(∀s∈y.1,0<=s.hour/\s.hour<=i/\∃τ,s.next=nc τ (l.getD s.hour.toNat 0) 1 0 99)/\y.2.Ok (b+97))/\s'.Sub ⟨[(16,.sl ns (bU.map iv) (.opn (N+5))),(15,.sl np (aA.map iv) (.opn (N+4))),(13,Bi),(11,.sl (i+1) (l.map iv) (.opn (N+2))),(10,.op (N+1) 0),(6,.op N 0),(0,.op t 0),(2,bv im)],Gf y.2++(YY [iv first,iv i,iv am,.sl y.1.length (y.1.flatMap Seen.l) (.opn (N+3)),pv,sv] y.1.length np ns++G)⟩) Ψ):=by
 obtain⟨uB,ry,y0,y1,y3,y4,y5,mV,yM,A5,A6,qb,s7,db⟩:=hY;have jE:∀L:List aa,dJ (λτ=>Gf τ++L) t (N+L.length):=λL=>hT.more L;have fF:=au.len;unfold oc WS;dsimp only[S7,ni,cs,cf];obtain⟨hz,zW⟩:∃hz:Nat->List Seen×bc,∀j,hz j=se l i ρ4 j:=⟨_,λ_=>rfl⟩;have oD:∀j,(hz j).1.length=j:=λj=>by rw[zW];exact ab9 _ _ _ _
 have LQ:∀j:Nat,(hz j).2.Ok (b+91+3* j):=λj=>by rw[zW];exact(acb Gk _ _ j).mono (by omega)
 have alF:hz 0=([],ρ4):=zW 0;refine cq ?_;refine gD cn (λj:Nat=>[(20,iv ((cn:Int)-j))]) (λj=>Gf (hz j).2++(YY [iv first,iv i,iv am,.sl j ((hz j).1.flatMap Seen.l) (.opn (N+3)),pv,sv] j np ns++G)) (λ_=>True) (λ_ _=>rfl) (by simp only[seval];simp[bu,Wk.refl]) (by rw[alF];rfl) (λ_ _ _=>by simp[hT.len,uB]) trivial (λbQ cP j oz _ R hR=> ?_);clear bQ cP;have lw:=LQ j;refine ak ?_;refine aD ?_;refine⟨λhc=> ?_,λhc=> ?_⟩
 ·have eU:j<cn:=by omega
  have eC:hz (j+1)=((hz j).1++[⟨de (hz j).2 i,nc (tick (hz j).2) (l.getD (de (hz j).2 i).toNat 0) 1 0 99⟩],tick (tick (tick (hz j).2))):=by rw[zW,zW];rfl
  have pB:=oD j;generalize FL:hz j=hj at lw eC pB⊢;obtain⟨ss,ρj⟩:=hj;dsimp only at lw eC pB⊢;have hur:=lC ρj i;obtain⟨u,hu⟩:∃u:Nat,de ρj i=u:=⟨(de ρj i).toNat,by omega⟩;rw[hu,VP]at eC;have hui:u<=i:=by omega
  obtain⟨n,KT⟩:=b9 (xs:=l) (i:=u) (by omega);have FJ:l.getD u 0=n:=by rw[SE,KT];rfl
  rw[FJ]at eC;have rJ:=au.ge (by omega) u hui;rw[FJ]at rJ;have atA:0<=n/\n<=1000:=by
   have:=ads (v:=0) rJ (by omega) ox wy (by omega);omega
  have xV:SD.wrap ((cn:Int)-j-1)=(cn:Int)-((j+1:Nat):Int):=by rw[bA _ (by omega)];omega
  have Rh:(0<=(u:Int)/\(u:Int)<(i:Int)+1)=True:=by simp;omega
  refine aN ?_;refine ai ?_;simp only[seval,y1];refine aI ((o0 (n:=i) (jE _) lw (by omega) (by omega) ?_));rw[hu];(try simp only[seval]);have O7:=λ(L:List aa) k kp=>Je (lv:=lv) (k:=k) (kp:=kp) (n:=n) (m:=1) (lo:=0) (hi:=99) (jE L) lw.tick (by omega) (by omega) (by decide);obtain⟨y,hy⟩:∃y,y=nc (tick ρj) n 1 0 99:=⟨_,rfl⟩;rw[<- hy]at eC O7;obtain⟨FP,o4⟩:∃FP,FP=ss.flatMap Seen.l:=⟨_,rfl⟩;have vY:FP.length=j* 3:=by rw[o4,Qi,pB]
  have hFQ:FP++[iv u,iv y.min,iv y.max]=(hz (j+1)).1.flatMap Seen.l:=by rw[eC,Ju,o4];rfl
  rw[<- o4];refine oW [9,12,14] [0,1,2,3,4,5,6,7,8,9,10,11,12,13,14] [⟨0,false,[],[([9],[9])]⟩,⟨1,false,[],[([9],[9])]⟩,⟨2,false,[],[([9],[9])]⟩,⟨3,false,[],[]⟩,⟨4,false,[],[]⟩,⟨5,false,[],[]⟩,⟨6,false,[],[]⟩,⟨7,false,[],[]⟩,⟨8,false,[],[]⟩,⟨9,true,[9],[]⟩,⟨10,false,[9],[]⟩,⟨11,false,[9],[]⟩,⟨12,true,[9,12],[]⟩,⟨13,false,[9,12],[]⟩,⟨14,true,[9,12,14],[]⟩] (λD=>bif isDone 14 D then Gf (tick (tick (tick ρj)))++(YY [iv first,iv i,iv am,.sl (j+1) (FP++[iv u,iv y.min,iv y.max]) (.opn (N+3)),pv,sv] (j+1) np ns++G)else bif isDone 12 D then Gf (tick (tick (tick ρj)))++(YY [iv first,iv i,iv am,.sl j FP (.opn (N+3)),pv,sv] (j+1) np ns++G)else bif isDone 9 D then Gf (tick (tick (tick ρj)))++(YY [iv first,iv i,iv am,.sl j FP (.opn (N+3)),pv,sv] j np ns++G)else Gf (tick ρj)++(YY [iv first,iv i,iv am,.sl j FP (.opn (N+3)),pv,sv] j np ns++G)) ?_;simp only[seval,zS1,Dz,y1,y3,mV,yM,e9 KT,Rh,vY,fF];have wB:y.l=[iv y.min,iv y.max]:=rfl;refine j8 y.av _ (cx (O7 _ _ _ ⟨rfl,rfl⟩)) ?_;(try simp only[seval,zS1,Dz,y1,y3,mV,yM,e9 KT,Rh,vY,fF,iL.av,wB]);refine⟨by omega,?_⟩;refine ai ?_;simp only[seval,xV];refine hR _ ⟨by omega,trivial,?_⟩;rw[<- hFQ,eC];exact da
 ·have uK:j=cn:=by omega
  subst uK;clear hR;refine bX ?_;have cH:=oD j;have hsm:∀s∈(hz j).1,0<=s.hour/\s.hour<=i/\∃τ,s.next=nc τ (l.getD s.hour.toNat 0) 1 0 99:=by
   rw[zW];exact aca (λτ=>by have:=lC τ i;omega) j
  refine⟨((hz j).1,(hz j).2),⟨by dsimp only;omega,hsm,lw.mono (by omega)⟩,ey (by simp only[seval];simp[bu,Wk.refl]) ?_⟩;dsimp only;rw[cH]
end
section
variable (lv:Bool)(P:SI)
def wV (s:AS)(o:Tu)(next:AS->Prop):Prop:=match o.op with
 |.buildSlice t len parts=>ao (qX P t) λ(e,sz,z)=>len* sz<=2^24/\ao (j_ s parts.toList) λma=>ao (og (iz.at (.elems sz)) (gM z (len* sz)) ma) λl=>next ((⟨s.T,s.H++[.cells l e]⟩:AS).put o.dst (.bw s.H.length 0 len len))
 |.call c=>match c.callee with
  |.builtin .append=>match c.args.toList,c.argTypes.toList with
   |[x,y],[t,t']=>ao (jR P t t') λ(elem,sz,_)=>ao (s.ev x) λa=>ao (s.ev y) λb=>a.vL λn l e=>e=.exact/\ao (s.src sz b) λ(m,l')=>l.length=n* sz/\l'.length=m* sz/\n+m<=2^30/\0<m/\next ((⟨s.T,s.H++[.own sz (l++l') elem]⟩:AS).put o.dst (.bw s.H.length 0 (n+m) 0))
   |_,_=>False
  |_=>False
 |_=>False
def qS (m:Nat):Nat->List Tu->AS->(AS->Prop)->(AV->AS->Prop)->Prop
 |_,[],s,K,_=>K s
 |k,o::rest,s,K,bad=>o.guard=none/\(bif k==m then wV P s o (λs'=>qS m (k+1) rest s' K bad)else mB lv P s o (λs'=>qS m (k+1) rest s' K bad) bad)
end
section
variable {lv:Bool}{P:SI}{r:Option Nat}{s:AS}
theorem wV.step{o:Tu}{next:AS->Prop}{bad:AV->AS->Prop}(h:wV P s o next):Step lv P r o s next bad:=by
 unfold wV at h;split at h
 ·rename_i t len parts ho;obtain⟨⟨e,sz,z⟩,h1,h2,h⟩:=h.out;obtain⟨ma,h3,h⟩:=h.out;obtain⟨l,h4,h⟩:=h.out;exact acM ho h1 h2 h3 h4 h
 ·rename_i c ho;split at h
  ·rename_i aY;split at h
   ·rename_i x y t t' ha dW;obtain⟨⟨elem,sz,z⟩,h1,hA⟩:=h.out;obtain⟨a,h2,hB⟩:=hA.out;obtain⟨b,h3,hC⟩:=hB.out;obtain⟨n,l,e,e1,e0,hD⟩:=Oz hC;subst e1 e0;obtain⟨⟨m,l'⟩,h4,h5,h6,h7,h8,h9⟩:=hD.out;exact acK ho aY (nb ha) (sk dW) h1 h2 h3 h4 h5 h6 h7 h8 h9
   ·exact h.elim
  ·exact h.elim
 ·exact h.elim
theorem qS.acD{m:Nat}{K:AS->Prop}{bad:AV->AS->Prop}:∀(l:List Tu)(k:Nat)(s:AS),qS lv P m k l s K bad->Bq lv P r l s K bad
 |[],k,s,h=>h
 |o::rest,k,s,h=>by
  obtain⟨h1,h2⟩:=h;refine⟨h1,?_⟩;have hs:∀{s'},qS lv P m (k+1) rest s' K bad->Bq lv P r rest s' K bad:=λ{s'} h=>qS.acD rest (k+1) s' h;cases hkm:(k==m)<;>rw[hkm]at h2<;>simp only[cond_true,cond_false]at h2
  rotate_left
  ·exact(wV.step h2).mono (λ_ h=>hs h) (λ_ _ h=>h)
  ·exact(mB.sound (r:=r) h2).mono (λ_ h=>hs h) (λ_ _ h=>h)
theorem afl{nt id:Nat}{ops:Array Tu}{Φ:an->AS->Prop}(m:Nat)(hd:jX nt ops=true)(h:qS lv P m 0 ops.toList s (Φ .normal) (λpv s=>Φ (.panic pv) s)):aP lv P r nt (.region id ops false) s Φ:=afm hd (h.acD ops.toList 0 s)
end
theorem aeg:type_of% @wV.eq_1:=by intros;rw[wV.eq_1]
theorem anE:type_of% @qS.eq_1:=by intros;rw[qS.eq_1]
theorem anD:type_of% @qS.eq_2:=by intros;rw[qS.eq_2]
attribute [seval] aeg anE anD
end Go.Gg
namespace Go.Gg.Tk
theorem RJ{x:aj}{bi:Nat}:∀(d:Nat)(pre:List Int),2<=pre.length->mN x bi d pre=(kI x d pre).map cL
 |0,pre,_=>by
  unfold mN kI;split<;>rfl
 |d+1,pre,h=>by
  unfold mN kI;split
  ·rw[Vx];congr 1;funext n;rw[if_neg (λhc=>by have:=hc.1;omega),RJ d _ (by simp;omega)]
  ·rfl
theorem Qj{α:Type}{t:Nat}{f:Nat->List α}:∀m,((SZ m).flatMap λn=>if n≠t then[]else f n)=if t<m then f t else[]
 |0=>by simp
 |m+1=>by
  rw[Vo,UX,Qj m];simp only[Ub,List.flatMap_nil,SO];by_cases h:m=t
  ·subst h;rw[if_neg (Nat.lt_irrefl _),if_neg (by simp),if_pos (Ux _),UJ]
  ·rw[if_pos h,SO];by_cases h2:t<m
   ·rw[if_pos h2,if_pos (by omega)]
   ·rw[if_neg h2,if_neg (by omega)]
theorem RO{x:aj}{bi:Nat}(hh:1<=x.hours)(ht:bi<x.am.toNat+1):kv x bi=(wl x bi).map cL:=by
 unfold kv wl;obtain⟨d,hd⟩:∃d,x.hours.toNat=d+1:=⟨x.hours.toNat-1,by omega⟩;rw[hd];unfold mN;simp only[T8,Vf,VZ,true_and];rw[show ([x.first]:List Int).getLastD 0=x.first from rfl];split
 ·rw[Qj (t:=bi) (f:=λn=>mN x bi d ([x.first]++[x.first+(n:Int)])),if_pos ht,RJ d _ (by simp)];rfl
 ·rfl
theorem aks{x:aj}(hh:1<=x.hours):((SZ (x.am.toNat+1)).flatMap λt=>wl x t)=aK x:=by
 unfold aK wl;obtain⟨d,hd⟩:∃d,x.hours.toNat=d+1:=⟨x.hours.toNat-1,by omega⟩;rw[hd,VZ,show kI x (d+1) [x.first]=(if sd x 0 x.first then(SZ (x.am.toNat+1)).flatMap λn:Nat=>kI x d [x.first,x.first+(n:Int)]else[])from rfl];split
 ·rfl
 ·simp
end Go.Gg.Tk
namespace Go.Gg.Tk
theorem apk{p:Nat->Bool}{m k:Nat}(h:m<=k):((SZ k).filter λn=>decide (n<m)&&p n)=(SZ m).filter p:=by
 obtain⟨j,rfl⟩:=Nat.exists_eq_add_of_le h;rw[List.range_add,List.filter_append];have h1:((SZ j).map (m+·)).filter (λn=>decide (n<m)&&p n)=[]:=by
  rw[Yz];intro a ha;obtain⟨b,_,rfl⟩:=Tl.1 ha;simp only[Ti,decide_eq_true_eq,not_and];exactλhlt=>absurd hlt (by omega)
 rw[h1,SO];refine Vm λn hn=> ?_;rw[Tx]at hn;simp[hn]
theorem Js{α:Type}{c:Nat->Bool}{f:Nat->List α}:∀l:List Nat,(l.flatMap λn=>if c n=true then[]else f n)=(l.filter λn=> !c n).flatMap f
 |[]=>rfl
 |n::l=>by
  rw[Ub,List.filter_cons,Js l];cases hc:c n<;>simp
def tS (g:aC->Nat->Bool)(m:Nat):List aC->List Nat->List (List Nat)
 |[],t=>[t]
 |y::ys,t=>((SZ m).filter λn=>g y n&& !t.contains n).flatMap λn=>tS g m ys (t++[n])
theorem ML{g:aC->Nat->Bool}{q:aC->Nat}{m:Nat}(hm:m<=9):∀(ys:List aC)(u:Nat)(t:List Nat),(∀y∈ys,∀n,n<9->(q y).testBit n=(decide (n<m)&&g y n))->(∀n,u.testBit n=t.contains n)->kP (ys.map q) u t=tS g m ys t
 |[],u,t,_,_=>rfl
 |y::ys,u,t,hq,hu=>by
  rw[UW,kP,tS];have e1:((SZ 9).flatMap λn=>if(u.testBit n|| !(q y).testBit n)=true then[]else kP (ys.map q) (u|||2^n) (t++[n]))=((SZ 9).filter λn=> !(u.testBit n|| !(q y).testBit n)).flatMap λn=>kP (ys.map q) (u|||2^n) (t++[n]):=Js _;rw[e1];have e2:((SZ 9).filter λn=> !(u.testBit n|| !(q y).testBit n))=(SZ m).filter λn=>g y n&& !t.contains n:=by
   rw[<- apk hm];refine Vm λn hn=> ?_;rw[Tx]at hn;rw[hu,hq y (by simp) n hn];cases t.contains n<;>cases decide (n<m)<;>cases g y n<;>rfl
  rw[e2];congr 1;funext n;refine ML hm ys _ _ (λz hz=>hq z (by simp[hz])) λi=> ?_;rw[Xj,hu,VQ,YN];simp[eq_comm]
theorem abe{h:List Int}{a:Int}{g:aC->Nat->Bool}{m:Nat}(hr:GM h=(SZ m).map λi:Nat=>a+(i:Int)):∀(ys:List aC)(t:List Nat),(∀y∈ys,∀n,n<m->fits h y (a+(n:Int))=g y n)->mS h ys (t.map λi:Nat=>a+(i:Int))=(tS g m ys t).map λl=>l.map λi:Nat=>a+(i:Int)
 |[],t,_=>rfl
 |y::ys,t,hg=>by
  rw[mS,tS,hr,List.filter_map,WO,Vx];have e:(SZ m).filter ((λn=>fits h y n&& !(t.map λi:Nat=>a+(i:Int)).contains n)∘λi:Nat=>a+(i:Int))=(SZ m).filter λn=>g y n&& !t.contains n:=by
   refine Vm λn hn=> ?_;rw[Tx]at hn;simp only[Wh];rw[hg y (by simp) n hn];congr 1;congr 1;rw[Va,Y1,Y1,Tl];constructor
   ·rintro⟨i,h1,h2⟩
    have:i=n:=(by omega);rw[<- this];exact h1
   ·exactλh1=>⟨n,h1,rfl⟩
  rw[e];congr 1;funext n;have:=abe hr ys (t++[n]) (λz hz=>hg z (by simp[hz]));rw[TD]at this;exact this
end Go.Gg.Tk
namespace Go.Gg.Tk
theorem aby{h:List Int}{ns:List Nat}{nl:List Int}{q:aC->Nat}(hl:nl.length=ns.length):∀(ss:List aC)(u:Nat)(t:List Nat),(∀s∈ss,∀p,p<ns.length->(q s).testBit (ns.getD p 0)=fits h s (nl.getD p 0))->(∀n,u.testBit n=t.contains n)->mw ns.length ns (ss.map q) u t=pJ h nl ss t
 |[],u,t,_,_=>rfl
 |s::ss,u,t,hq,hu=>by
  rw[UW,mw,pJ,hl];have e1:((SZ ns.length).flatMap λp=>if(u.testBit p|| !(q s).testBit (ns.getD p 0))=true then[]else mw ns.length ns (ss.map q) (u|||2^p) (t++[p]))=((SZ ns.length).filter λp=> !(u.testBit p|| !(q s).testBit (ns.getD p 0))).flatMap λp=>mw ns.length ns (ss.map q) (u|||2^p) (t++[p]):=Js _;rw[e1];have e2:((SZ ns.length).filter λp=> !(u.testBit p|| !(q s).testBit (ns.getD p 0)))=(SZ ns.length).filter λp=>fits h s (nl.getD p 0)&& !t.contains p:=by
   refine Vm λp hp=> ?_;rw[Tx]at hp;rw[hu,hq s (by simp) p hp];cases t.contains p<;>cases fits h s (nl.getD p 0)<;>rfl
  rw[e2];congr 1;funext p;refine aby hl ss _ _ (λz hz=>hq z (by simp[hz])) λi=> ?_;rw[Xj,hu,VQ,YN];simp[eq_comm]
theorem abj{g:aC->Nat->Bool}{m:Nat}:∀{ys:List aC}{t ns:List Nat},ns∈tS g m ys t->(∀n∈t,n<m)->ns.length=t.length+ys.length/\∀n∈ns,n<m
 |[],t,ns,h,ht=>by
  simp only[tS,S8]at h;subst h;exact⟨by simp,ht⟩
 |y::ys,t,ns,h,ht=>by
  simp only[tS,S5,Uw,Tx]at h;obtain⟨n,⟨hn,_⟩,h⟩:=h;obtain⟨h1,h2⟩:=abj h (λk hk=>by
   rcases SR.1 hk with h'|h'
   ·exact ht k h'
   ·rw[S8.1 h'];exact hn)
  exact⟨by rw[h1];simp;omega,h2⟩
end Go.Gg.Tk
namespace Go.Gg.Tk
structure wY (x:aj)(h:List Int):Prop where
 lo:2<=h.length
 hi:h.length<=4
 head:h.headD 0=x.first
 span:h.getLastD 0<=x.first+9
 pad:mD (cL h)
theorem abD{h:List Int}(hl:2<=h.length):(cL h).getD 0 0=h.headD 0:=by
 match h,hl with
 |a::b::l,_=>rfl
theorem abE{h:List Int}(hl:2<=h.length)(h4:h.length<=4):(cL h).getD 3 0=h.getLastD 0:=by
 match h,hl,h4 with
 |[a,b],_,_=>rfl
 |[a,b,c],_,_=>rfl
 |[a,b,c,d],_,_=>rfl
theorem an6{h:List Int}{n:Int}(hl:2<=h.length)(h4:h.length<=4):jo (cL h) n=jo h n:=by
 match h,hl,h4 with
 |[a,b],_,_=>exact NL (i:=0) (k:=2) (z:=b) (h:=[a,b]) (n:=n) rfl (by simp)
 |[a,b,c],_,_=>exact NL (i:=0) (k:=1) (z:=c) (h:=[a,b,c]) (n:=n) rfl (by simp)
 |[a,b,c,d],_,_=>exact NL (i:=0) (k:=0) (z:=d) (h:=[a,b,c,d]) (n:=n) rfl (by simp)
def oH (h:List Int):Nat:=(h.getLastD 0-h.headD 0).toNat
theorem Iy{x:aj}{h:List Int}(hh:wY x h)(y:aC){n:Nat}(hn:n<9):(bZ (cL h) y).testBit n=(decide (n<oH h)&&fits h y (h.headD 0+(n:Int))):=by
 unfold bZ;rw[BK];unfold lH fits;rw[abD hh.lo,abE hh.lo hh.hi,an6 hh.lo hh.hi];have e1:decide (n<9)=true:=decide_eq_true hn;have e2:decide (h.headD 0+(n:Int)<h.getLastD 0)=decide (n<oH h):=by
  unfold oH;rw[Va];simp only[decide_eq_true_eq];omega
 rw[e1,e2,Vu];by_cases hm:n<oH h
 ·have e3:0<=jo h (h.headD 0+(n:Int)):=by
   unfold oH at hm;refine NK (a:=h.headD 0) ?_ (by omega) (by omega);have:=hh.lo
   match h,this with
   |a::b::l,_=>rfl
  rw[decide_eq_true e3,decide_eq_true hm];simp
 ·rw[decide_eq_false hm];simp
theorem abd{x:aj}{h:List Int}(hh:wY x h):mS h x.pieces []=(fY x (cL h)).map λl=>l.map λi:Nat=>h.headD 0+(i:Int):=by
 have FR:oH h<=9:=by unfold oH;have:=hh.span;have:=hh.head;omega
 have e1:fY x (cL h)=tS (λy n=>fits h y (h.headD 0+(n:Int))) (oH h) x.pieces []:=
  ML FR x.pieces 0 [] (λy _ n hn=>Iy hh y hn) (by simp)
 rw[e1];exact abe (a:=h.headD 0) rfl x.pieces [] λy _ n _=>rfl
end Go.Gg.Tk
namespace Go.Gg.Tk
theorem anA{x:aj}{h:List Int}(hh:wY x h){ns:List Nat}(hn:ns∈fY x (cL h)):ns.length=x.pieces.length/\∀n∈ns,n<oH h:=by
 have FR:oH h<=9:=by unfold oH;have:=hh.span;have:=hh.head;omega
 have e1:fY x (cL h)=tS (λy n=>fits h y (h.headD 0+(n:Int))) (oH h) x.pieces []:=
  ML FR x.pieces 0 [] (λy _ n hn=>Iy hh y hn) (by simp)
 rw[e1]at hn;have:=abj hn (by simp);exact⟨by simpa using this.1,this.2⟩
theorem an2{x:aj}{h:List Int}(hh:wY x h){ns:List Nat}(hn:ns∈fY x (cL h)):iu x (cL h) ns=pJ h (ns.map λi:Nat=>h.headD 0+(i:Int)) x.aB []:=by
 obtain⟨h1,h2⟩:=anA hh hn;have FR:oH h<=9:=by unfold oH;have:=hh.span;have:=hh.head;omega
 unfold iu;rw[<- h1];refine aby (by simp) x.aB 0 [] (λs _ p hp=> ?_) (by simp);have rC:ns.getD p 0=ns[p]:=by rw[SE,SY hp];rfl
 have hlt:=h2 ns[p] (Wu hp);have hg2:(ns.map λi:Nat=>h.headD 0+(i:Int)).getD p 0=h.headD 0+(ns[p]:Int):=by
  rw[SE,To,SY hp];rfl
 rw[rC,hg2,Iy hh s (by omega),decide_eq_true hlt,Vu]
def eG (t:Tr):List Int:=dA (cL t.bG) (t.aA.map λn=>(n-t.bG.headD 0).toNat) t.bU
theorem adl{x:aj}{h:List Int}(hh:wY x h){ns:List Nat}(hn:ns∈fY x (cL h)):(D5 x h (ns.map λi:Nat=>h.headD 0+(i:Int))).map eG=(iu x (cL h) ns).map (dA (cL h) ns):=by
 unfold D5;rw[XV,an2 hh hn];refine VC λos _=> ?_;unfold eG;simp only[Wh,XV];congr 1
 conv=>rhs;rw[<- List.map_id ns]
 refine VC λn _=> ?_;simp only[Wh,id];omega
theorem B0{α β:Type}{l:List α}{f g:α->List β}(h:∀a∈l,f a=g a):l.flatMap f=l.flatMap g:=by
 rw[WQ,WQ,VC h]
theorem ac3{α:Type}:∀ll:List (List α),(ll.map (·.take 1)).flatten.take 1=ll.flatten.take 1
 |[]=>rfl
 |[]::ll=>by simpa using ac3 ll
 |(a::l)::ll=>by simp
theorem arO{x:aj}{h:List Int}{deep:Int}(hh:wY x h):iI x deep (cL h)=(sj x deep h).map eG:=by
 have e2:(oN x h).map eG=(((fY x (cL h)).map λns=>(iu x (cL h) ns).map λos=>dA (cL h) ns os)).flatten:=by
  unfold oN;rw[abd hh,WO,Vx,<- WQ];exact B0 λns hn=>adl hh hn
 have e1:(vv x h).map eG=(((fY x (cL h)).map λns=>(iu x (cL h) ns).map λos=>dA (cL h) ns os).map (·.take 1)).flatten:=by
  unfold vv;rw[abd hh,WO,Vx,XV,<- WQ];refine B0 λns hn=> ?_;simp only[Wh];rw[VX,adl hh hn]
 unfold iI sj;dsimp only;split
 ·rw[VX,e1,ac3]
 ·split
  ·exact e1.symm
  ·exact e2.symm
end Go.Gg.Tk
namespace Go.Gg.Tk
theorem zX{x:aj}:∀(d:Nat)(pre h:List Int),pre≠[]->h∈kI x d pre->h.length=pre.length+d/\h.headD 0=pre.headD 0
 |0,pre,h,_,hm=>by
  unfold kI at hm;split at hm
  ·rw[S8]at hm;subst hm;exact⟨rfl,rfl⟩
  ·cases hm
 |d+1,pre,h,hp,hm=>by
  unfold kI at hm;split at hm
  ·obtain⟨n,_,hm⟩:=S5.1 hm;obtain⟨h1,h2⟩:=zX d _ h (by simp) hm;refine⟨by rw[h1];simp;omega,h2.trans ?_⟩
   match pre,hp with
   |a::l,_=>rfl
  ·cases hm
theorem RI{x:aj}{t:Nat}(hx:x.Ok)(ht:t<x.am.toNat+1){h:List Int}(hm:h∈wl x t):wY x h:=by
 have hh:=hx.hours;have FZ:cL h∈kv x t:=by rw[RO hh.1 ht];exact Tl.2 ⟨h,hm,rfl⟩
 have h4:=RG hx FZ;unfold wl at hm;split at hm
 ·obtain⟨h1,h2⟩:=zX _ _ _ (by simp) hm;have pn:2<=h.length:=by rw[h1];simp
  have FK:h.length<=4:=by rw[h1];simp;omega
  have zB:h.headD 0=x.first:=h2;refine⟨pn,FK,zB,?_,h4⟩;have:=h4.span;rw[abD pn,abE pn FK,zB]at this;exact this
 ·cases hm
theorem NW{x:aj}{deep:Int}(hx:x.Ok):((SZ (x.am.toNat+1)).flatMap λt=>HI x deep t)=(aK x).flatMap (sj x deep):=by
 unfold HI;rw[<- aks hx.hours.1,List.flatMap_assoc]
end Go.Gg.Tk
namespace Go.Gg.Tk
theorem aeA{l:List Nat}{i v p n:Nat}(hi:i<l.length):((oU l i v).getD p 0).testBit n=((l.getD p 0).testBit n||(decide (p=i)&&decide (n=v))):=by
 unfold oU;rw[SE,UQ];by_cases h:i=p
 ·subst h;rw[if_pos rfl,if_pos hi,S7,Xj,VQ];simp[eq_comm]
 ·rw[if_neg h,<- SE];have:¬p=i:=λe=>h e.symm;simp[this]
def sH (v:Nat->Nat):Nat->List Nat->List Nat
 |0,l=>l
 |k+1,l=>oU (sH v k l) k (v k)
theorem abh(t:List Int)(l:List Nat):∀k,rW t k l=sH (mz t) k l
 |0=>rfl
 |k+1=>by rw[rW,sH,abh t l k]
theorem abF(t:List Int)(l:List Nat):∀k,mT t k l=sH (sg t) k l
 |0=>rfl
 |k+1=>by rw[mT,sH,abF t l k]
theorem Ou(v:Nat->Nat)(l:List Nat):∀k,(sH v k l).length=l.length
 |0=>rfl
 |k+1=>by rw[sH,BD,Ou v l k]
theorem Ii{v:Nat->Nat}{l:List Nat}{p n:Nat}:∀k,k<=l.length->((sH v k l).getD p 0).testBit n=((l.getD p 0).testBit n||(decide (p<k)&&decide (n=v p)))
 |0,_=>by simp[sH]
 |k+1,h=>by
  rw[sH,aeA (by rw[Ou];omega),Ii k (by omega)];by_cases hp:p=k
  ·subst hp;simp
  ·have e:(p<k+1)<->p<k:=(by omega);simp[hp,e]
theorem abt{l m:List Nat}{p n:Nat}(h:l.length=m.length):((lX l m).getD p 0).testBit n=((l.getD p 0).testBit n||(m.getD p 0).testBit n):=by
 unfold lX;rw[SE,List.getElem?_zipWith,SE,SE];by_cases hp:p<l.length
 ·rw[SY hp,SY (by omega)];simp[Xj]
 ·rw[Uv (by omega),Uv (by omega)];simp
theorem abM{hs:List (List Int)}{h g:List Int}:g∈jM hs h<->g∈hs\/g=h:=by
 unfold jM;split
 ·rename_i hm;exact⟨.inl,λe=>e.elim id λe=>e▸hm⟩
 ·rw[SR,S8]
theorem Qn{g:List Int}:∀{l hs:List (List Int)},g∈l.foldl jM hs<->g∈hs\/g∈l
 |[],hs=>by simp
 |a::l,hs=>by
  rw[UZ,Qn,abM,SK,or_assoc]
theorem afI(Q:Kn)(t:List Int):(jV Q t).has=true:=by
 unfold jV;cases h:Q.has
 ·rfl
 ·rw[if_pos rfl];exact h
theorem ac5(x:aj)(deep:Int)(Q:Kn)(t:List Int):(eE x deep Q t).has=true:=by
 have:=afI Q t;unfold eE;dsimp only;split
 ·exact this
 ·split<;>exact this
theorem Qs{x:aj}{deep:Int}:∀(ts:List (List Int))(Q:Kn),(ts.foldl (eE x deep) Q).has=(Q.has|| !ts.isEmpty)
 |[],Q=>by simp
 |t::ts,Q=>by rw[UZ,Qs ts,ac5];simp
theorem alQ{F G:Kn}{hs:List (List Int)}:(gW F hs G).has=(F.has||G.has):=by
 unfold gW;cases h:G.has
 ·simp
 ·simp
end Go.Gg.Tk
namespace Go.Gg.Tk
theorem ari{x:aj}{Q:Kn}{t g:List Int}:g∈(eE x 0 Q t).aK<->g∈Q.aK\/g=t.take 4:=by
 have hB:(jV Q t).aK=Q.aK:=by unfold jV;split<;>rfl
 unfold eE;dsimp only;rw[if_neg (by decide),if_pos rfl,abM,hB]
theorem Qp{x:aj}{g:List Int}:∀(ts:List (List Int))(Q:Kn),g∈(ts.foldl (eE x 0) Q).aK<->g∈Q.aK\/∃t∈ts,g=t.take 4
 |[],Q=>by simp
 |t::ts,Q=>by
  rw[UZ,Qp ts,ari];constructor
  ·rintro((h|h)|⟨u,h1,h2⟩)
   ·exact .inl h
   ·exact .inr ⟨t,by simp,h⟩
   ·exact .inr ⟨u,by simp[h1],h2⟩
  ·rintro(h|⟨u,h1,h2⟩)
   ·exact .inl (.inl h)
   ·rcases SK.1 h1 with rfl|h1
    ·exact .inl (.inr h2)
    ·exact .inr ⟨u,h1,h2⟩
def eA (x:aj)(deep:Int)(j:Nat):List (List Int):=(kv x j).flatMap (iI x deep)
theorem HH(x:aj)(deep:Int)(j:Nat):gL x deep j=(eA x deep j).foldl (eE x deep) Kn.zero:=rfl
theorem D_(x:aj)(deep:Int)(j:Nat):(gL x deep j).has= !(eA x deep j).isEmpty:=by
 rw[HH,Qs];rfl
theorem asb{x:aj}{j:Nat}{g:List Int}:g∈(gL x 0 j).aK<->∃t∈eA x 0 j,g=t.take 4:=by
 rw[HH,Qp];simp[Kn.zero]
theorem aaw{x:aj}{deep:Int}{js:List Nat}{D:Kn}(h:nY x deep js D):D.has=js.any λj=> !(eA x deep j).isEmpty:=by
 induction h with
 |nil=>rfl
 |snoc h hp ih=>rw[alQ,ih,D_,ZN];simp
theorem alR{x:aj}{js:List Nat}{D:Kn}{g:List Int}(h:nY x 0 js D):g∈D.aK<->∃j∈js,∃t∈eA x 0 j,g=t.take 4:=by
 induction h with
 |nil=>simp[Kn.zero]
 |@snoc js F j hs h hp ih=>
  have key:g∈(gW F hs (gL x 0 j)).aK<->g∈F.aK\/∃t∈eA x 0 j,g=t.take 4:=by
   unfold gW;split
   ·show g∈hs.foldl jM F.aK<->_;rw[Qn,hp.mem_iff,asb]
   ·rename_i hn;rw[D_]at hn;have:eA x 0 j=[]:=(by simpa using hn);rw[this];simp
  rw[key,ih];constructor
  ·rintro(⟨i,h1,h2⟩|h2)
   ·exact⟨i,by simp[h1],h2⟩
   ·exact⟨j,by simp,h2⟩
  ·rintro⟨i,h1,h2⟩
   rcases SR.1 h1 with h1|h1
   ·exact .inl ⟨i,h1,h2⟩
   ·rw[S8.1 h1]at h2;exact .inr h2
theorem Qo:∀{l hs:List (List Int)},hs.Nodup->(l.foldl jM hs).Nodup
 |[],hs,h=>h
 |a::l,hs,h=>by rw[UZ];exact Qo (abN h)
theorem alT{x:aj}{deep:Int}{js:List Nat}{D:Kn}(h:nY x deep js D):D.aK.Nodup:=by
 induction h with
 |nil=>exact WM
 |snoc h hp ih=>
  unfold gW;split
  ·exact Qo ih
  ·exact ih
end Go.Gg.Tk
namespace Go.Gg.Tk
theorem zx{x:aj}{deep:Int}{t:Nat}(hx:x.Ok)(ht:t<x.am.toNat+1):eA x deep t=(HI x deep t).map eG:=by
 unfold eA HI;rw[RO hx.hours.1 ht,WO,Vx];exact B0 λh hm=>arO (RI hx ht hm)
def na (x:aj)(deep:Int):List Tr:=(aK x).flatMap (sj x deep)
theorem As{x:aj}{deep:Int}{js:List Nat}{p:Nat}(hx:x.Ok)(hp:x.am=p)(iC:js.Perm (SZ (p+1))){t:List Int}:(∃j∈js,t∈eA x deep j)<->∃u∈na x deep,t=eG u:=by
 have nI:x.am.toNat=p:=by omega
 unfold na;rw[<- NW hx,nI];constructor
 ·rintro⟨j,h1,h2⟩
  have hj:=iC.mem_iff.1 h1;rw[zx hx (by rw[nI];simpa using hj)]at h2;obtain⟨u,h3,rfl⟩:=Tl.1 h2;exact⟨u,S5.2 ⟨j,hj,h3⟩,rfl⟩
 ·rintro⟨u,h1,rfl⟩
  obtain⟨j,hj,h3⟩:=S5.1 h1;refine⟨j,iC.mem_iff.2 hj,?_⟩;rw[zx hx (by rw[nI];simpa using hj)];exact Tl.2 ⟨u,h3,rfl⟩
theorem D4{x:aj}{deep:Int}{h:List Int}{u:Tr}(hu:u∈sj x deep h):u∈oN x h:=by
 have h1:∀u,u∈vv x h->u∈oN x h:=λu hu=>by
  unfold vv at hu;obtain⟨ns,h1,h2⟩:=S5.1 hu;exact S5.2 ⟨ns,h1,Wt h2⟩
 unfold sj at hu;split at hu
 ·exact h1 u (Wt hu)
 ·split at hu
  ·exact h1 u hu
  ·exact hu
theorem yJ{x:aj}{h:List Int}{u:Tr}(hu:u∈oN x h):u.bG=h:=by
 obtain⟨ns,_,h2⟩:=S5.1 hu;obtain⟨os,_,rfl⟩:=Tl.1 h2;rfl
theorem Qk{α β:Type}{f:α->List β}:∀{l:List α},(l.flatMap λa=>(f a).take 1)=[]<->l.flatMap f=[]
 |[]=>by simp
 |a::l=>by
  rw[Ub,Ub,YA,YA,Qk,YM];simp
theorem adk{x:aj}{deep:Int}{h:List Int}:sj x deep h=[]<->oN x h=[]:=by
 have h1:vv x h=[]<->oN x h=[]:=Qk;unfold sj;split
 ·rw[YM,h1];simp
 ·split
  ·exact h1
  ·exact Iff.rfl
theorem Ox{x:aj}{deep:Int}:na x deep=[]<->b_ x=[]:=by
 unfold na b_;rw[Vs,Vs];exact forall_congr' λh=>forall_congr' λ_=>adk
theorem aeJ{x:aj}{deep:Int}{js:List Nat}:(js.any λj=> !(eA x deep j).isEmpty)=true<->∃t,∃j∈js,t∈eA x deep j:=by
 rw[Up];constructor
 ·rintro⟨j,h1,h2⟩
  cases hg:eA x deep j with
  |nil=>rw[hg]at h2;cases h2
  |cons t l=>exact⟨t,j,h1,by rw[hg];simp⟩
 ·rintro⟨t,j,h1,h2⟩
  refine⟨j,h1,?_⟩;cases hg:eA x deep j with
  |nil=>rw[hg]at h2;cases h2
  |cons=>rfl
end Go.Gg.Tk
namespace Go.Gg
open Go.Gg.Tk
theorem Gr{x:aj}{deep:Int}{D:Kn}(hx:x.Ok)(h:fM x deep D):D.has= !(b_ x).isEmpty:=by
 obtain⟨p,js,h1,h2,h3,_⟩:=h;rw[aaw h3,Va,aeJ];have key:(∃t,∃j∈js,t∈eA x deep j)<->na x deep≠[]:=by
  constructor
  ·rintro⟨t,h⟩ he
   obtain⟨u,hu,_⟩:=(As hx h1 h2).1 h;rw[he]at hu;cases hu
  ·intro aH;obtain⟨u,hu⟩:=Yb _ aH;exact⟨eG u,(As hx h1 h2).2 ⟨u,hu,rfl⟩⟩
 rw[key,ne_eq,Ox];cases b_ x<;>simp
theorem alZ{x:aj}{D:Kn}(hx:x.Ok)(h:fM x 0 D){g:List Int}:g∈D.aK<->∃u∈b_ x,g=(eG u).take 4:=by
 obtain⟨p,js,h1,h2,h3,_⟩:=h;rw[alR h3];have e:(∃j∈js,∃t∈eA x 0 j,g=t.take 4)<->∃t,(∃j∈js,t∈eA x 0 j)/\g=t.take 4:=by
  constructor
  ·rintro⟨j,a,t,b,c⟩;exact⟨t,⟨j,a,b⟩,c⟩
  ·rintro⟨t,⟨j,a,b⟩,c⟩;exact⟨j,a,t,b,c⟩
 rw[e];have aF:∀u:Tr,u∈b_ x->(eG u).take 4=cL u.bG:=λu hu=>by
  obtain⟨h,hm,lU⟩:=S5.1 hu;have hl:h.length=1+x.hours.toNat:=(zX _ _ _ (by simp) hm).1;have hh:=hx.hours;have h4:(cL u.bG).length=4:=by
   rw[yJ lU];simp[cL];omega
  unfold eG dA;rw[SC,Tw (by omega),SX (by omega)]
 have lS:∀u,u∈na x 0->u∈b_ x:=λu hu=>by
  obtain⟨h,a,b⟩:=S5.1 hu;exact S5.2 ⟨h,a,D4 b⟩
 constructor
 ·rintro⟨t,a,rfl⟩
  obtain⟨u,hu,rfl⟩:=(As hx h1 h2).1 a;exact⟨u,lS u hu,rfl⟩
 ·rintro⟨u,hu,rfl⟩
  obtain⟨h,hm,lU⟩:=S5.1 hu;have aH:sj x 0 h≠[]:=λe=>by
   rw[adk]at e;rw[e]at lU;cases lU
  obtain⟨v,hv⟩:=Yb _ aH;have tI:v∈na x 0:=S5.2 ⟨h,hm,hv⟩;refine⟨eG v,(As hx h1 h2).2 ⟨v,tI,rfl⟩,?_⟩;rw[aF u hu,aF v (lS v tI),yJ lU,yJ (D4 hv)]
end Go.Gg
namespace Go.Gg.Tk
theorem OZ(Q:Kn)(t:List Int):(jV Q t).aA=Q.aA/\(jV Q t).hours=Q.hours/\(jV Q t).less=Q.less/\(jV Q t).aU=Q.aU:=by
 unfold jV;split<;>exact⟨rfl,rfl,rfl,rfl⟩
theorem arj{x:aj}{Q:Kn}{t:List Int}{p n:Nat}(hx:x.Ok)(hQ:bJ Q)(hp:p<x.pieces.length):((eE x 1 Q t).aA.getD p 0).testBit n=((Q.aA.getD p 0).testBit n||decide (n=mz t p)):=by
 have h:(eE x 1 Q t).aA=rW t x.pieces.length Q.aA:=by
  rw[<- (OZ Q t).1];rfl
 rw[h,abh,Ii _ (by rw[hQ.aA];exact hx.eD),decide_eq_true hp,Vu]
theorem ark{x:aj}{Q:Kn}{t:List Int}{s n:Nat}(hx:x.Ok)(hQ:bJ Q)(hs:s<x.aB.length):((eE x 2 Q t).aU.getD s 0).testBit n=((Q.aU.getD s 0).testBit n||decide (n=sg t s)):=by
 have h:(eE x 2 Q t).aU=mT t x.aB.length Q.aU:=by
  rw[<- (OZ Q t).2.2.2];rfl
 rw[h,abF,Ii _ (by rw[hQ.aU];exact hx.dc),decide_eq_true hs,Vu]
theorem Qq{x:aj}{deep:Int}(hx:x.Ok){f:Kn->Bool}{g:List Int->Bool}(h:∀Q t,bJ Q->ju x t->f (eE x deep Q t)=(f Q||g t)):∀(ts:List (List Int))(Q:Kn),bJ Q->(∀t∈ts,ju x t)->f (ts.foldl (eE x deep) Q)=(f Q||ts.any g)
 |[],Q,_,_=>by simp
 |t::ts,Q,hQ,ht=>by
  rw[UZ,Qq hx h ts _ (NH hx (ht t (by simp)) hQ) (λu hu=>ht u (by simp[hu])),h Q t hQ (ht t (by simp)),YP,Bool.or_assoc]
theorem QH{x:aj}{deep:Int}{j:Nat}(hx:x.Ok)(hj:j<=3){t:List Int}(ht:t∈eA x deep j):ju x t:=by
 obtain⟨h,h1,h2⟩:=S5.1 ht;obtain⟨ns,h3,h4⟩:=NO h2;exact((D3 hx) j hj h h1).2 ns h3 t h4
theorem alS{x:aj}{deep:Int}(hx:x.Ok){f:Kn->Bool}{g:List Int->Bool}(h0:f Kn.zero=false)(h:∀Q t,bJ Q->ju x t->f (eE x deep Q t)=(f Q||g t))(hj:∀F G hs,bJ F->bJ G->G.has=true->f (gW F hs G)=(f F||f G)){js:List Nat}{D:Kn}(iC:∀j∈js,j<=3)(hD:nY x deep js D):bJ D/\f D=js.any λj=>(eA x deep j).any g:=by
 induction hD with
 |nil=>exact⟨Da,by simpa using h0⟩
 |@snoc js F j hs hJ hp ih=>
  obtain⟨mP,lx⟩:=ih λi hi=>iC i (by simp[hi]);have RP:j<=3:=iC j (by simp);have au:bJ (gL x deep j):=NV hx ((D3 hx) j RP);refine⟨aat mP au hp,?_⟩;have hw:f (gL x deep j)=(eA x deep j).any g:=by
   rw[HH,Qq hx h _ _ Da (λt ht=>QH hx RP ht),h0,Zu]
  rw[ZN,<- lx];simp only[YP,List.any_nil,Bool.or_false];cases hG:(gL x deep j).has with
  |true=>rw[hj F _ hs mP au hG,hw]
  |false=>
   have hn:eA x deep j=[]:=by
    rw[D_]at hG;simpa using hG
   rw[hn];unfold gW;rw[hG];simp
end Go.Gg.Tk
namespace Go.Gg
open Go.Gg.Tk
theorem aaz{x:aj}{deep:Int}(hx:x.Ok){f:Kn->Bool}{g:List Int->Bool}(h0:f Kn.zero=false)(h:∀Q t,bJ Q->ju x t->f (eE x deep Q t)=(f Q||g t))(hj:∀F G hs,bJ F->bJ G->G.has=true->f (gW F hs G)=(f F||f G)){D:Kn}(hD:fM x deep D):f D=true<->∃u∈na x deep,g (eG u)=true:=by
 obtain⟨p,js,h1,h2,h3,_⟩:=hD;have hp:=hx.am;have iC:∀j∈js,j<=3:=λj hm=>by
  have:=h2.mem_iff.1 hm;rw[Tx]at this;omega
 rw[(alS hx h0 h hj iC h3).2,Up];constructor
 ·rintro⟨j,a,b⟩
  obtain⟨t,c,d⟩:=Up.1 b;obtain⟨u,hu,rfl⟩:=(As hx h1 h2).1 ⟨j,a,c⟩;exact⟨u,hu,d⟩
 ·rintro⟨u,hu,d⟩
  obtain⟨j,a,c⟩:=(As hx h1 h2).2 ⟨u,hu,rfl⟩;exact⟨j,a,Up.2 ⟨_,c,d⟩⟩
theorem al1{x:aj}{D:Kn}{s n:Nat}(hx:x.Ok)(hD:fM x 2 D)(hs:s<x.aB.length):(D.aU.getD s 0).testBit n=true<->∃u∈b_ x,sg (eG u) s=n:=by
 have aQ:=hx.dc;have e:na x 2=b_ x:=rfl;rw[<- e,aaz (f:=λK=>(K.aU.getD s 0).testBit n) (g:=λt=>decide (n=sg t s)) hx ?_ (λQ t hQ _=>ark hx hQ hs) (λF G pw hF hG hh=> ?_) hD]
 ·exact exists_congr λu=>and_congr_right λ_=>by rw[decide_eq_true_eq];exact eq_comm
 ·have:([0,0,0]:List Nat).getD s 0=0:=by
   match s,(show s<3 by omega)with
   |0,_=>rfl
   |1,_=>rfl
   |2,_=>rfl
  show (([0,0,0]:List Nat).getD s 0).testBit n=false;rw[this];exact Zv n
 ·have e2:(gW F pw G).aU=lX F.aU G.aU:=by unfold gW;rw[if_pos hh]
  rw[e2];exact abt (by rw[hF.aU,hG.aU])
theorem aeG{x:aj}{P:List Int->List Int->Prop}:(∃u∈na x 1,P u.bG u.aA)<->∃u∈b_ x,P u.bG u.aA:=by
 constructor
 ·rintro⟨u,hu,hp⟩
  obtain⟨h,a,b⟩:=S5.1 hu;exact⟨u,S5.2 ⟨h,a,D4 b⟩,hp⟩
 ·rintro⟨u,hu,hp⟩
  obtain⟨h,a,b⟩:=S5.1 hu;obtain⟨ns,c,d⟩:=S5.1 b;obtain⟨os,c2,rfl⟩:=Tl.1 d;cases ho:pJ h ns x.aB []with
  |nil=>rw[ho]at c2;cases c2
  |cons o os'=>
   refine⟨⟨h,ns,o⟩,S5.2 ⟨h,a,?_⟩,hp⟩;show _∈vv x h;refine S5.2 ⟨ns,c,?_⟩;unfold D5;rw[ho];simp
theorem abg{h:List Int}:∀{ys:List aC}{t ns:List Int},ns∈mS h ys t->ns.length=t.length+ys.length
 |[],t,ns,hm=>by
  simp only[mS,S8]at hm;subst hm;rfl
 |y::ys,t,ns,hm=>by
  simp only[mS,S5]at hm;obtain⟨n,_,hm⟩:=hm;have:=abg hm;simp at this⊢;omega
theorem wQ{x:aj}(hx:x.Ok){u:Tr}(hu:u∈b_ x):u.bG.length=1+x.hours.toNat/\u.aA.length=x.pieces.length:=by
 obtain⟨h,a,b⟩:=S5.1 hu;obtain⟨ns,c,d⟩:=S5.1 b;obtain⟨os,_,rfl⟩:=Tl.1 d;exact⟨(zX _ _ _ (by simp) a).1,by simpa using abg c⟩
theorem yw{h:List Int}(h4:h.length<=4):(cL h).length=4:=by simp[cL];omega
theorem ahc{x:aj}(hx:x.Ok){u:Tr}(hu:u∈b_ x){p:Nat}(hp:p<x.pieces.length):mz (eG u) p=(u.aA.getD p 0-u.bG.headD 0).toNat:=by
 obtain⟨h1,h2⟩:=wQ hx hu;have hh:=hx.hours;have h4:=yw (h:=u.bG) (by omega);have dG:p<u.aA.length:=by omega
 have hg:(eG u)[4+p]?=some (((u.aA[p]-u.bG.headD 0).toNat:Nat):Int):=by
  unfold eG dA lz;rw[SC,S9 (by omega),h4,TR,SW (by simp;omega),SW (by simpa using dG),To,To,SY dG];rfl
 unfold mz;rw[SE,hg,SE,SY dG];rfl
theorem asr{p:Nat}(hp:p<4):([0,0,0,0]:List Nat).getD p 0=0:=by
 match p,hp with
 |0,_=>rfl
 |1,_=>rfl
 |2,_=>rfl
 |3,_=>rfl
theorem al0{x:aj}{D:Kn}{p n:Nat}(hx:x.Ok)(hD:fM x 1 D)(hp:p<x.pieces.length):(D.aA.getD p 0).testBit n=true<->∃u∈b_ x,(u.aA.getD p 0-u.bG.headD 0).toNat=n:=by
 have nH:=hx.eD;rw[aaz (f:=λK=>(K.aA.getD p 0).testBit n) (g:=λt=>decide (n=mz t p)) hx ?_ (λQ t hQ _=>arj hx hQ hp) (λF G pw hF hG hh=> ?_) hD]
 ·rw[<- aeG (P:=λh ns=>(ns.getD p 0-h.headD 0).toNat=n)];refine exists_congr λu=>and_congr_right λhu=> ?_;obtain⟨h,a,b⟩:=S5.1 hu;have hu2:u∈b_ x:=S5.2 ⟨h,a,D4 b⟩;rw[decide_eq_true_eq,ahc hx hu2 hp];exact eq_comm
 ·show (([0,0,0,0]:List Nat).getD p 0).testBit n=false;rw[asr (by omega)];exact Zv n
 ·have e2:(gW F pw G).aA=lX F.aA G.aA:=by unfold gW;rw[if_pos hh]
  rw[e2];exact abt (by rw[hF.aA,hG.aA])
theorem abf{h:List Int}:∀{ys:List aC}{t ns:List Int},ns∈mS h ys t->(∀n∈t,h.headD 0<=n)->∀n∈ns,h.headD 0<=n
 |[],t,ns,hm,ht=>by
  simp only[mS,S8]at hm;subst hm;exact ht
 |y::ys,t,ns,hm,ht=>by
  simp only[mS,S5,Uw]at hm;obtain⟨n,⟨hn,_⟩,hm⟩:=hm;refine abf hm λk hk=> ?_;rcases SR.1 hk with h'|h'
  ·exact ht k h'
  ·rw[S8.1 h'];obtain⟨i,_,rfl⟩:=Tl.1 hn;omega
theorem arQ{x:aj}{u:Tr}(hu:u∈b_ x):∀n∈u.aA,u.bG.headD 0<=n:=by
 obtain⟨h,a,b⟩:=S5.1 hu;obtain⟨ns,c,d⟩:=S5.1 b;obtain⟨os,_,rfl⟩:=Tl.1 d;exact abf c (by simp)
end Go.Gg
namespace Go.Gg.Tk
theorem FM{x:aj}:∀(d:Nat)(pre h:List Int),h∈kI x d pre->h.take pre.length=pre
 |0,pre,h,hm=>by
  unfold kI at hm;split at hm
  ·rw[S8]at hm;subst hm;exact TG
  ·cases hm
 |d+1,pre,h,hm=>by
  unfold kI at hm;split at hm
  ·obtain⟨n,_,hm⟩:=S5.1 hm;have:=FM d _ h hm;rw[SN,T8]at this;have h2:=congrArg (Ui pre.length) this;rw[U3,Tw (SQ _),TG,Wz (by omega)]at h2;exact h2
  ·cases hm
theorem RH{x:aj}:∀(d:Nat)(pre:List Int),(kI x d pre).Nodup
 |0,pre=>by
  unfold kI;split
  ·simp
  ·exact WM
 |d+1,pre=>by
  unfold kI;split
  ·unfold List.Nodup;rw[List.pairwise_flatMap];refine⟨λn _=>RH d _,?_⟩;refine Z3 ?_ (XT (n:=x.am.toNat+1));intro a b gH h ha g hb he;subst he;have h1:=FM d _ h ha;have h2:=FM d _ h hb;rw[SN,T8]at h1 h2;have h3:=h1.symm.trans h2;have:=List.append_cancel_left h3;simp at this;exact gH (by omega)
  ·exact WM
theorem akt(x:aj):(aK x).Nodup:=RH _ _
end Go.Gg.Tk
namespace Go.Gg
open Go.Gg.Tk
theorem arl(x:aj)(deep:Int)(Q:Kn)(t:List Int):(eE x deep Q t).first=if Q.has=true then Q.first else t:=by
 have hB:(jV Q t).first=if Q.has=true then Q.first else t:=by unfold jV;split<;>rfl
 unfold eE;dsimp only;split
 ·exact hB
 ·split
  ·exact hB
  ·exact hB
theorem Qr{x:aj}{deep:Int}:∀(ts:List (List Int))(Q:Kn),(ts.foldl (eE x deep) Q).first=if Q.has=true then Q.first else(match ts with|[]=>Q.first|t::_=>t)
 |[],Q=>by simp
 |t::ts,Q=>by
  rw[UZ,Qr ts,ac5,if_pos rfl,arl]
theorem asc{x:aj}{deep:Int}{j:Nat}{t:List Int}{l:List (List Int)}(h:eA x deep j=t::l):(gL x deep j).first=t:=by
 rw[HH,Qr,h];rfl
theorem alP{Q G:Kn}{hs:List (List Int)}(h:G.has=true):(gW Q hs G).first=if Q.has=false\/sM G.first Q.first=true then G.first else Q.first:=by
 unfold gW;rw[if_pos h]
theorem an5{h:List Int}{a b:Int}(hl:h.take 2=[a,b]):(cL h).take 4=a::b::((cL h).drop 2).take 2:=by
 match h,hl with
 |c::d::l,hl=>
  simp only[VR,aj',YO,and_true]at hl;obtain⟨rfl,rfl⟩:=hl;simp[cL]
theorem QI{x:aj}{deep:Int}{j:Nat}(hx:x.Ok)(hj:j<x.am.toNat+1){t:List Int}(ht:t∈eA x deep j):∃l,t.take 4=x.first::(x.first+(j:Int))::l:=by
 rw[zx hx hj]at ht;obtain⟨u,hu,rfl⟩:=Tl.1 ht;obtain⟨h,hm,hu⟩:=S5.1 hu;have hL:=RI hx hj hm;have lU:=yJ (D4 hu);have h2:h.take 2=[x.first,x.first+(j:Int)]:=by
  unfold wl at hm;split at hm
  ·exact FM _ _ _ hm
  ·cases hm
 have e:(eG u).take 4=(cL h).take 4:=by
  unfold eG dA;rw[lU,SC,Tw (by rw[yw hL.hi];omega)]
 rw[e,an5 h2];exact⟨_,rfl⟩
theorem ajq{x:aj}{deep:Int}{i j:Nat}(hx:x.Ok)(hi:i<x.am.toNat+1)(hj:j<x.am.toNat+1)(ku:i≠j){t u:List Int}(ht:t∈eA x deep i)(hu:u∈eA x deep j):sM t u=decide (i<j):=by
 obtain⟨l,h1⟩:=QI hx hi ht;obtain⟨m,h2⟩:=QI hx hj hu;have aH:t.take 4≠u.take 4:=by
  rw[h1,h2];simp only[ne_eq,YO,true_and,not_and];intro h;omega
 unfold sM;rw[if_neg aH,h1,h2];by_cases h:i<j
 ·have e1:mJ (x.first+(i:Int)) (x.first+(j:Int))= -1:=by unfold mJ;rw[if_pos (by omega)]
  have e0:mJ x.first x.first=0:=by unfold mJ;simp
  simp[od,e0,e1,h]
 ·have e1:mJ (x.first+(i:Int)) (x.first+(j:Int))=1:=by unfold mJ;rw[if_neg (by omega),if_pos (by omega)]
  have e0:mJ x.first x.first=0:=by unfold mJ;simp
  simp[od,e0,e1,h]
theorem aav{x:aj}{deep:Int}{js:List Nat}{D:Kn}(hx:x.Ok)(hJ:nY x deep js D)(hn:js.Nodup)(hj:∀j∈js,j<x.am.toNat+1)(hh:D.has=true):∃j∈js,∃t l,eA x deep j=t::l/\D.first=t/\∀i∈js,eA x deep i≠[]->j<=i:=by
 induction hJ with
 |nil=>cases hh
 |@snoc js Q j hs hJ hp ih=>
  have iU:js.Nodup:=(U7.1 hn).1;have oz:j∉js:=λh=>(U7.1 hn).2.2 j h j (by simp) rfl;have ih':=ih iU (λi hi=>hj i (by simp[hi]));by_cases hG:eA x deep j=[]
  ·have hg:(gL x deep j).has=false:=(by rw[D_,hG];rfl);have hD:gW Q hs (gL x deep j)=Q:=(by unfold gW;rw[hg];rfl);rw[hD]at hh⊢;obtain⟨i,h1,t,l,h2,h3,h4⟩:=ih' hh;refine⟨i,by simp[h1],t,l,h2,h3,λk hk aH=> ?_⟩;rcases SR.1 hk with hk|hk
   ·exact h4 k hk aH
   ·rw[S8]at hk;subst hk;exact absurd hG aH
  ·obtain⟨t,l,ht⟩:∃t l,eA x deep j=t::l:=by
    cases hg:eA x deep j with
    |nil=>exact absurd hg hG
    |cons t l=>exact⟨t,l,rfl⟩
   have hg:(gL x deep j).has=true:=(by rw[D_,ht];rfl);rw[alP hg,asc ht];by_cases hQ:Q.has=true
   ·obtain⟨i,h1,t',l',h2,h3,h4⟩:=ih' hQ;have hb:sM t Q.first=decide (j<i):=by
     rw[h3];exact ajq hx (hj j (by simp)) (hj i (by simp[h1])) (λe=>oz (e▸h1)) (by rw[ht];simp) (by rw[h2];simp)
    by_cases ku:j<i
    ·rw[if_pos (.inr (by rw[hb];simpa using ku))];refine⟨j,by simp,t,l,ht,rfl,λk hk aH=> ?_⟩;rcases SR.1 hk with hk|hk
     ·have:=h4 k hk aH;omega
     ·rw[S8]at hk;omega
    ·rw[if_neg (by rw[hQ,hb];simpa using ku)];refine⟨i,by simp[h1],t',l',h2,h3,λk hk aH=> ?_⟩;rcases SR.1 hk with hk|hk
     ·exact h4 k hk aH
     ·rw[S8]at hk;omega
   ·rw[if_pos (.inl (by simpa using hQ))];refine⟨j,by simp,t,l,ht,rfl,λk hk aH=> ?_⟩;rcases SR.1 hk with hk|hk
    ·have hQf:Q.has=js.any λj=> !(eA x deep j).isEmpty:=aaw hJ;exfalso;apply hQ;rw[hQf,Up];refine⟨k,hk,?_⟩;cases hg:eA x deep k with
     |nil=>exact absurd hg aH
     |cons=>rfl
    ·rw[S8]at hk;omega
theorem Rw{α:Type}{f:Nat->List α}{j:Nat}{t:α}{l:List α}:∀{n:Nat},j<n->f j=t::l->(∀i,i<j->f i=[])->((SZ n).flatMap f).head?=some t
 |0,h,_,_=>absurd h (by omega)
 |n+1,h,hf,h0=>by
  rw[Vo,UX,WN];by_cases hj:j<n
  ·rw[Rw hj hf h0];rfl
  ·have e:j=n:=(by omega);subst e;have:(SZ j).flatMap f=[]:=by
    rw[Vs];intro i hi;exact h0 i (Tx.1 hi)
   rw[this];simp[hf]
theorem Kk{α β:Type}{f g:α->List β}:∀(l:List α),(∀a,(f a).head?=(g a).head?)->(l.flatMap f).head?=(l.flatMap g).head?
 |[],_=>rfl
 |a::l,h=>by
  rw[Ub,Ub,WN,WN,h a,Kk l h]
theorem ac4{α:Type}(l:List α):(l.take 1).head?=l.head?:=by cases l<;>rfl
theorem aeH{x:aj}{deep:Int}:(na x deep).head?=(b_ x).head?:=by
 refine Kk _ λh=> ?_;have h1:(vv x h).head?=(oN x h).head?:=Kk _ λns=>ac4 _;unfold sj;split
 ·rw[ac4,h1]
 ·split
  ·exact h1
  ·rfl
theorem alY{x:aj}{deep:Int}{D:Kn}(hx:x.Ok)(h:fM x deep D)(hh:D.has=true):∃u l,b_ x=u::l/\D.first=eG u:=by
 obtain⟨p,js,h1,h2,h3,_⟩:=h;have nI:x.am.toNat=p:=by omega
 have hj:∀j∈js,j<x.am.toNat+1:=λj hj=>by rw[nI];exact Tx.1 (h2.mem_iff.1 hj)
 obtain⟨j,a,t,l,b,c,d⟩:=aav hx h3 (h2.nodup_iff.2 XT) hj hh;have hd:((SZ (p+1)).flatMap λj=>eA x deep j).head?=some t:=by
  refine Rw (Tx.1 (h2.mem_iff.1 a)) b λi hi=> ?_;cases hg:eA x deep i with
  |nil=>rfl
  |cons v w=>
   have:=d i (h2.mem_iff.2 (Tx.2 (by have:=hj j a;omega))) (by rw[hg];simp);omega
 have he:((SZ (p+1)).flatMap λj=>eA x deep j)=(na x deep).map eG:=by
  unfold na;rw[<- NW hx,nI,Vx];exact B0 λi hi=>zx hx (by rw[nI];exact Tx.1 hi)
 rw[he,List.head?_map,aeH]at hd;cases ht:b_ x with
 |nil=>rw[ht]at hd;cases hd
 |cons u l=>
  rw[ht]at hd;simp only[ZL,UP,Tj]at hd;exact⟨u,l,rfl,by rw[c,hd]⟩
namespace Tk
def live (x:aj):List (List Int):=(aK x).filter λh=> !(oN x h).isEmpty
def cnt (x:aj):Int:=(live x).length
theorem Gz{x:aj}{h:List Int}:h∈live x<->∃u∈b_ x,u.bG=h:=by
 unfold live;rw[Uw];constructor
 ·rintro⟨h1,h2⟩
  cases ht:oN x h with
  |nil=>rw[ht]at h2;cases h2
  |cons u l=>
   have hu:u∈oN x h:=(by rw[ht];simp);exact⟨u,S5.2 ⟨h,h1,hu⟩,yJ hu⟩
 ·rintro⟨u,hu,rfl⟩
  obtain⟨h,a,b⟩:=S5.1 hu;have e:=yJ b;subst e;refine⟨a,?_⟩;cases ht:oN x u.bG with
  |nil=>rw[ht]at b;cases b
  |cons=>rfl
theorem KL{x:aj}{h:List Int}(hm:h∈aK x):h.length=1+x.hours.toNat:=(zX _ _ _ (by simp) hm).1
theorem MS{h:List Int}{n:Nat}(hl:h.length=n):(cL h).take n=h:=by
 subst hl;unfold cL;rw[Tw (SQ _),TG]
theorem amK(x:aj):((live x).map cL).Nodup:=by
 have h:(live x).Nodup:=(akt x).filter _;rw[Ut,Xv];have h2:=Ut.1 h;refine Xt ?_ h2;intro a b ha hb aH e;have la:=KL ((Uw.1 ha).1);have lb:=KL ((Uw.1 hb).1);apply aH;rw[<- MS la,e,MS lb]
end Tk
theorem I8{x:aj}(hx:x.Ok){u:Tr}(hu:u∈b_ x):(eG u).take 4=cL u.bG:=by
 have hl:=(wQ hx hu).1;have hh:=hx.hours;unfold eG dA;rw[SC,Tw (by rw[yw (by omega)];omega),SX (by rw[yw (by omega)];omega)]
theorem aaA{x:aj}{D:Kn}(hx:x.Ok)(h:fM x 0 D):D.aK.Perm ((live x).map cL):=by
 have hn:D.aK.Nodup:=by obtain⟨p,js,h1,h2,h3,_⟩:=h;exact alT h3
 refine(List.perm_ext_iff_of_nodup hn (amK x)).2 λg=> ?_;rw[alZ hx h,Tl];constructor
 ·rintro⟨u,hu,rfl⟩
  exact⟨u.bG,Gz.2 ⟨u,hu,rfl⟩,(I8 hx hu).symm⟩
 ·rintro⟨h,hm,rfl⟩
  obtain⟨u,hu,rfl⟩:=Gz.1 hm;exact⟨u,hu,(I8 hx hu).symm⟩
theorem yh{x:aj}{deep:Int}{D:Kn}(hx:x.Ok)(h:fM x deep D):D.has=false<->b_ x=[]:=by
 rw[Gr hx h];cases b_ x<;>simp
theorem Ms{x:aj}:live x=[]<->b_ x=[]:=by
 constructor
 ·intro h;cases ht:b_ x with
  |nil=>rfl
  |cons u l=>
   have:u.bG∈live x:=Gz.2 ⟨u,by rw[ht];simp,rfl⟩;rw[h]at this;cases this
 ·intro h;cases hl:live x with
  |nil=>rfl
  |cons a l=>
   obtain⟨u,hu,_⟩:=Gz.1 (show a∈live x by rw[hl];simp);rw[h]at hu;cases hu
theorem count_eq{x:aj}{D:Kn}(hx:x.Ok)(h:fM x 0 D):(if D.has then(D.aK.length:Int)else 0)=cnt x:=by
 cases hD:D.has with
 |true=>rw[if_pos rfl,(aaA hx h).length_eq,Tn];rfl
 |false=>
  have:=Ms.2 ((yh hx h).1 hD);simp[cnt,this]
theorem anh(a b:Int):min a b=a\/min a b=b:=by omega
theorem ana(a b:Int):max a b=a\/max a b=b:=by omega
theorem O2(v:List Int->Int):∀(hs:List (List Int))(b:hO),b.is=true->(hs.foldl (λb h=>b.add (v h)) b).is=true/\((hs.foldl (λb h=>b.add (v h)) b).lo=b.lo\/∃h∈hs,(hs.foldl (λb h=>b.add (v h)) b).lo=v h)/\(hs.foldl (λb h=>b.add (v h)) b).lo<=b.lo/\(∀h∈hs,(hs.foldl (λb h=>b.add (v h)) b).lo<=v h)/\((hs.foldl (λb h=>b.add (v h)) b).hi=b.hi\/∃h∈hs,(hs.foldl (λb h=>b.add (v h)) b).hi=v h)/\b.hi<=(hs.foldl (λb h=>b.add (v h)) b).hi/\∀h∈hs,v h<=(hs.foldl (λb h=>b.add (v h)) b).hi
 |[],b,hb=>⟨hb,.inl rfl,Xm _,by simp,.inl rfl,Xm _,by simp⟩
 |g::hs,b,hb=>by
  have dD:b.add (v g)=⟨min b.lo (v g),max b.hi (v g),true⟩:=by unfold hO.add;rw[if_pos hb]
  obtain⟨h1,h2,h3,h4,h5,h6,h7⟩:=O2 v hs (b.add (v g)) (by rw[dD]);rw[UZ];generalize hs.foldl (λb h=>b.add (v h)) (b.add (v g))=R at*;rw[dD]at h2 h3 h5 h6;dsimp only at h2 h3 h5 h6;have m1:min b.lo (v g)=b.lo\/min b.lo (v g)=v g:=anh _ _;have m2:max b.hi (v g)=b.hi\/max b.hi (v g)=v g:=ana _ _;refine⟨h1,?_,XD h3 (Int.min_le_left _ _),?_,?_,XD (Int.le_max_left _ _) h6,?_⟩
  ·rcases h2 with h2|⟨h,a,c⟩
   ·rcases m1 with m1|m1
    ·exact .inl (h2.trans m1)
    ·exact .inr ⟨g,by simp,h2.trans m1⟩
   ·exact .inr ⟨h,by simp[a],c⟩
  ·intro h hm;rcases SK.1 hm with rfl|hm
   ·exact XD h3 (Int.min_le_right _ _)
   ·exact h4 h hm
  ·rcases h5 with h2|⟨h,a,c⟩
   ·rcases m2 with m1|m1
    ·exact .inl (h2.trans m1)
    ·exact .inr ⟨g,by simp,h2.trans m1⟩
   ·exact .inr ⟨h,by simp[a],c⟩
  ·intro h hm;rcases SK.1 hm with rfl|hm
   ·exact XD (Int.le_max_right _ _) h6
   ·exact h7 h hm
namespace Tk
structure Bounds (hs:List (List Int))(v:List Int->Int)(lo hi:Int):Prop where
 Gp:∃h∈hs,lo=v h
 le:∀h∈hs,lo<=v h
 Gn:∃h∈hs,hi=v h
 ge:∀h∈hs,v h<=hi
theorem Bounds.uniq{hs:List (List Int)}{v:List Int->Int}{a b c d:Int}(h:Bounds hs v a b)(k:Bounds hs v c d):a=c/\b=d:=by
 obtain⟨g1,m1,e1⟩:=h.Gp;obtain⟨g2,m2,e2⟩:=h.Gn;obtain⟨g3,m3,e3⟩:=k.Gp;obtain⟨g4,m4,e4⟩:=k.Gn;have:=h.le _ m3;have:=h.ge _ m4;have:=k.le _ m1;have:=k.ge _ m2;omega
theorem Bounds.anO{hs gs:List (List Int)}{v:List Int->Int}{a b:Int}(h:Bounds hs v a b)(hp:hs.Perm gs):Bounds gs v a b:=by
 obtain⟨g1,m1,e1⟩:=h.Gp;obtain⟨g2,m2,e2⟩:=h.Gn;exact⟨⟨g1,hp.mem_iff.1 m1,e1⟩,λg hg=>h.le g (hp.mem_iff.2 hg),⟨g2,hp.mem_iff.1 m2,e2⟩,λg hg=>h.ge g (hp.mem_iff.2 hg)⟩
end Tk
theorem af0{hs:List (List Int)}(v:List Int->Int)(aH:hs≠[]):Bounds hs v (hs.foldl (λ(b:hO) h=>b.add (v h)) (⟨0,0,false⟩:hO)).lo (hs.foldl (λ(b:hO) h=>b.add (v h)) (⟨0,0,false⟩:hO)).hi:=by
 cases hs with
 |nil=>exact absurd rfl aH
 |cons g hs=>
  rw[UZ,show hO.add ⟨0,0,false⟩ (v g)=⟨v g,v g,true⟩from rfl];obtain⟨_,h2,h3,h4,h5,h6,h7⟩:=O2 v hs ⟨v g,v g,true⟩ rfl;generalize hs.foldl (λ(b:hO) h=>b.add (v h)) (⟨v g,v g,true⟩:hO)=R at*;dsimp only at h2 h3 h5 h6;refine⟨?_,?_,?_,?_⟩
  ·rcases h2 with h2|⟨h,a,c⟩
   ·exact⟨g,by simp,h2⟩
   ·exact⟨h,by simp[a],c⟩
  ·intro h hm;rcases SK.1 hm with rfl|hm
   ·exact h3
   ·exact h4 h hm
  ·rcases h5 with h2|⟨h,a,c⟩
   ·exact⟨g,by simp,h2⟩
   ·exact⟨h,by simp[a],c⟩
  ·intro h hm;rcases SK.1 hm with rfl|hm
   ·exact h6
   ·exact h7 h hm
open Go.Gg.Tk
theorem ahb{x:aj}(hx:x.Ok){u:Tr}(hu:u∈b_ x){p:Nat}(hp:p<x.pieces.length):(eG u).getD (4+p) 0=u.aA.getD p 0-u.bG.headD 0:=by
 obtain⟨h1,h2⟩:=wQ hx hu;have hh:=hx.hours;have h4:=yw (h:=u.bG) (by omega);have dG:p<u.aA.length:=by omega
 have qh:=arQ hu u.aA[p] (Wu dG);have hg:(eG u)[4+p]?=some (((u.aA[p]-u.bG.headD 0).toNat:Nat):Int):=by
  unfold eG dA lz;rw[SC,S9 (by omega),h4,TR,SW (by simp;omega),SW (by simpa using dG),To,To,SY dG];rfl
 rw[SE,hg,SE,SY dG];simp only[S7];omega
theorem abx{h ns:List Int}:∀{ss:List aC}{t os:List Nat},os∈pJ h ns ss t->(∀p∈t,p<ns.length)->os.length=t.length+ss.length/\∀p∈os,p<ns.length
 |[],t,os,hm,ht=>by
  simp only[pJ,S8]at hm;subst hm;exact⟨rfl,ht⟩
 |s::ss,t,os,hm,ht=>by
  simp only[pJ,S5,Uw,Tx]at hm;obtain⟨p,⟨hp,_⟩,hm⟩:=hm;have:=abx hm λq hq=>by
   rcases SR.1 hq with hq|hq
   ·exact ht q hq
   ·rw[S8.1 hq];exact hp
  refine⟨?_,this.2⟩;rw[this.1];simp;omega
theorem Hx{x:aj}(hx:x.Ok){u:Tr}(hu:u∈b_ x):u.bU.length=x.aB.length/\∀p∈u.bU,p<x.pieces.length:=by
 have h2:=(wQ hx hu).2;obtain⟨h,a,b⟩:=S5.1 hu;obtain⟨ns,c,d⟩:=S5.1 b;obtain⟨os,e,rfl⟩:=Tl.1 d;have:=abx e (by simp);dsimp only at h2⊢;rw[<- h2];exact⟨by simpa using this.1,this.2⟩
theorem ahd{x:aj}(hx:x.Ok){u:Tr}(hu:u∈b_ x){s:Nat}(hs:s<x.aB.length):sg (eG u) s=u.bU.getD s 0:=by
 obtain⟨h1,h2⟩:=wQ hx hu;have h3:=(Hx hx hu).1;have hh:=hx.hours;have nH:=hx.eD;have h4:=yw (h:=u.bG) (by omega);have cH:s<u.bU.length:=by omega
 have hg:(eG u)[8+s]?=some ((u.bU[s]:Nat):Int):=by
  unfold eG dA lz;have h8:(cL u.bG++((u.aA.map λn=>(n-u.bG.headD 0).toNat).map (λn:Nat=>(n:Int))++TH (4-(u.aA.map λn=>(n-u.bG.headD 0).toNat).length) (-1))).length=8:=by simp[h4];omega
  rw[S9 (by omega),h8,TR,SW (by simpa using cH),To,SY cH];rfl
 unfold sg;rw[SE,hg,SE,SY cH];rfl
namespace Tk
def EE (x:aj)(f:Tr->Bool):Bool:=(b_ x).any f
theorem BF{x:aj}{f:Tr->Bool}:EE x f=true<->∃u∈b_ x,f u=true:=Up
def xg (f:Nat->Bool)(more:Int)(i:Nat):List Int:=((SZ i).filter f).map λn:Nat=>(n:Int)+more
def Dr (x:aj)(p n:Nat):Bool:=EE x λu=>decide ((u.aA.getD p 0-u.bG.headD 0).toNat=n)
def tU (x:aj)(s q:Nat):Bool:=EE x λu=>decide (u.bU.getD s 0=q)
def Dv (x:aj)(s q:Nat):Bool:=EE x λu=> !decide (u.bU.getD s 0=q)
theorem aaN{s:Nat}{f:Nat->Bool}{more:Int}{i:Nat}(h:∀n,n<i->s.testBit n=f n):fH s more i=xg f more i:=by
 unfold fH xg;congr 1;exact Vm λn hn=>h n (Tx.1 hn)
end Tk
theorem anC{x:aj}{D:Kn}{p:Nat}(hx:x.Ok)(hD:fM x 1 D)(hp:p<x.pieces.length)(n:Nat):(D.aA.getD p 0).testBit n=Dr x p n:=by
 rw[Va,al0 hx hD hp];unfold Dr;rw[BF];simp only[decide_eq_true_eq]
theorem MT{x:aj}{D:Kn}{s:Nat}(hx:x.Ok)(hD:fM x 2 D)(hs:s<x.aB.length)(n:Nat):(D.aU.getD s 0).testBit n=tU x s n:=by
 rw[Va,al1 hx hD hs];unfold tU;rw[BF];refine exists_congr λu=>and_congr_right λhu=> ?_;rw[ahd hx hu hs,decide_eq_true_eq]
theorem an8{x:aj}{D:Kn}{s q:Nat}(hx:x.Ok)(hD:fM x 2 D)(hs:s<x.aB.length)(hh:D.has=true):(D.aU.getD s 0!=2^q)=Dv x s q:=by
 have hb:=MT hx hD hs;rw[Va,bne_iff_ne];unfold Dv;rw[BF];constructor
 ·intro aH;obtain⟨u,hu⟩:∃u,u∈b_ x:=by
   rw[Gr hx hD]at hh;cases ht:b_ x with
   |nil=>rw[ht]at hh;cases hh
   |cons u l=>exact⟨u,by simp⟩
  by_cases hu1:u.bU.getD s 0=q
  ·refine Tm λfw=>aH ?_;apply Nat.eq_of_testBit_eq;intro n;rw[hb,VQ,Va,decide_eq_true_eq];unfold tU;rw[BF];constructor
   ·rintro⟨v,hv,e⟩
    rw[decide_eq_true_eq]at e;refine Tm λAc=>fw ⟨v,hv,?_⟩;rw[e];simp;exactλh=>Ac h.symm
   ·rintro rfl
    exact⟨u,hu,by rw[decide_eq_true_eq];exact hu1⟩
  ·exact⟨u,hu,by simpa using hu1⟩
 ·rintro⟨u,hu,h⟩ he
  have hp:tU x s (u.bU.getD s 0)=true:=by
   unfold tU;rw[BF];exact⟨u,hu,by simp⟩
  rw[<- hb,he,VQ,decide_eq_true_eq]at hp;rw[hp]at h;simp at h
theorem an7{x:aj}{D:Kn}{s q:Nat}(hx:x.Ok)(hD:fM x 2 D)(hs:s<x.aB.length):(if D.has then vM ((D.aU.getD s 0).testBit q) (D.aU.getD s 0!=2^q)else 0)=if(b_ x).isEmpty then 0 else vM (tU x s q) (Dv x s q):=by
 have hh:=Gr hx hD;cases JK:D.has with
 |true=>
  rw[JK]at hh;have:(b_ x).isEmpty=false:=by simpa using hh.symm
  rw[this,if_pos rfl,MT hx hD hs,an8 hx hD hs JK];rfl
 |false=>
  rw[JK]at hh;have:(b_ x).isEmpty=true:=by simpa using hh.symm
  rw[this];rfl
theorem afH{x:aj}{deep:Int}{D:Kn}(hx:x.Ok)(hD:fM x deep D):fe D=if(b_ x).isEmpty then 11 else 0:=by
 have hh:=Gr hx hD;unfold fe;rw[hh];cases (b_ x).isEmpty<;>rfl
def gA (n:Nat):Nat->Nat->List (List Int)
 |0,_=>[[]]
 |k+1,first=>(TS first (n-k-first)).flatMap λi=>(gA n k (i+1)).map ((i:Int)::·)
def oX (n:Nat):List (List Int):=(SZ (n+1)).flatMap λk=>gA n k 0
open Go.Conc Go.Proofs Go.Gg.Tk
theorem ND:∀n,n<=6->∀k,k<=6->∀first,first<=7->(gA n k first).length<=20/\∀r∈gA n k first,r.length=k:=by decide+kernel
def rY (n kk first j:Nat):List (List Int):=(TS first j).flatMap λi=>(gA n kk (i+1)).map ((i:Int)::·)
theorem abw(n kk first j:Nat):rY n kk first (j+1)=rY n kk first j++(gA n kk (first+j+1)).map (((first+j:Nat):Int)::·):=by
 unfold rY;rw[List.range'_concat,UX];simp
theorem anZ(n kk first:Nat):rY n kk first (n-kk-first)=gA n (kk+1) first:=rfl
theorem abv(n kk first:Nat):∀j,(∀i,i<j->(gA n kk (first+i+1)).length<=20)->(rY n kk first j).length<=20* j
 |0,_=>by simp[rY]
 |j+1,h=>by
  have h1:=abv n kk first j λi hi=>h i (by omega)
  have h2:=h j (by omega);rw[abw,SN,Tn];omega
theorem NT{l:List AV}{a b:AV}(h:Wk a b):qY (l++[a]) (l++[b]):=by
 induction l with
 |nil=>exact .cons h .nil
 |cons x l ih=>exact .cons (Wk.refl _) ih
theorem My(n m k:Nat)(bs:List (List Int)):Lt n (.sl m (bs.map a_) (.opn k))=(k<n):=by
 rw[am1,eq_iff_iff];refine⟨λh=>h.1,λh=>⟨h,λa ha=> ?_⟩⟩;have:=GF n bs;rw[pS,vg]at this;exact this.mpr trivial a ha
theorem Ec:gM (Us none 0 0) 1=[.sl 0 [] .exact]:=rfl
theorem am9{α β:Type}{xs:List α}{i:Nat}{x:α}(f:α->β)(h:xs[i]?=some x):(xs.take (i+1)).map f=(xs.take i).map f++[f x]:=by
 obtain⟨hj,rfl⟩:=SL.1 h;rw[Vk hj,TD];rfl
theorem K7{H:List aa}(hH:bI H)(n sz:Nat)(el:TypeId):bI (H++[.tail n sz el]):=Se hH λz hz m=>by rw[S8.1 hz];trivial
section
variable {lv:Bool}
theorem P7:∀(kk:Nat){n first:Nat}{H:List aa}{k kp:AV->List aa->Prop},n<=6->kk<=6->first<=7->k (pS (gA n kk first)) H->bh lv SA 72 H [iv first,iv n,iv kk] k kp
 |0,n,first,H,k,kp,hn,dz,hf,hk=>by
  refine bF (rs:=[.tmp 6]) (nt:=45) al_ λhH hA=> ?_;simp only[bk,SV];refine ak ?_;refine ai ?_;simp only[seval,beq_self_eq_true];refine aD ?_;refine ai ?_;simp only[seval,Ec,Dx];refine aZ ?_;exact jy (b:=pS [[]]) (H':=H) (G:=[]) (ar8 (.cons (g_ _ _ _) .nil)) (by simp) (SQ _) hH (by rw[GF];trivial) hk
 |kk+1,n,first,H,k,kp,hn,dz,hf,hk=>by
  refine bF (rs:=[.tmp 6]) (nt:=45) al_ λhH hA=> ?_;simp only[bk,SV];have hz:(((kk:Int)+1)==0)=false:=by simp;omega
  refine ak ?_;refine ai ?_;simp only[seval,hz];refine aD ?_;refine aN ?_;refine ak ?_
  (repeat apply iA);refine sK (t:=7) (sz:=1) (el:=22) (by simp only[seval]<;>rfl) ?_
  refine ak ?_;refine cq ?_;have hlen:∀j,j<=n-kk-first->(rY n kk first j).length<=20* j:=λj hj=>abv n kk first j λi hi=>(ND n hn kk (by omega) (first+i+1) (by omega)).1
  refine gD (n-kk-first) (λj:Nat=>[(7,.sl (rY n kk first j).length ((rY n kk first j).map a_) (.opn H.length)),(8,iv ((first:Int)+j))]) (λj=>H++[.tail (rY n kk first j).length 1 22]) (λi=>True) (λ_ _=>rfl) (by simp only[seval];simp[bu,Wk.refl];exact Wk.refl _) rfl (λ_ _ _=>by simp) trivial (λbQ cP j oz hj R hR=> ?_);clear bQ cP;have bM:SD.wrap ((first:Int)+j+(kk+1))=first+j+(kk+1):=bA _ (by omega)
  have fh:SD.wrap ((first:Int)+j+1)=first+(j+1):=by rw[bA _ (by omega)];omega
  have tJ:SD.wrap ((kk:Int)+1-1)=kk:=by rw[bA _ (by omega)];omega
  refine ai ?_;simp only[seval,bM];refine aD ?_;refine⟨λh=> ?_,λh=> ?_⟩
  ·have eU:j<n-kk-first:=by omega
   have Kq:=ND n hn kk (by omega) (first+j+1) (by omega);have Ai:=abw n kk first j
   have fF:=hlen j (by omega);generalize rY n kk first j=o at Ai fF hR⊢
   have hfj:((first:Int)+(j+1))=((first+j+1:Nat):Int):=(by omega);refine aN ?_;refine ai ?_;simp only[seval,fh,tJ];rw[hfj];refine aI ((P7 kk hn (by omega) (by omega) ?_));generalize gA n kk (first+j+1)=l at Kq Ai⊢;obtain⟨atv,hlr⟩:=Kq;(try simp only[seval,pS]);refine ak ?_;refine cq ?_;refine gD l.length (λx:Nat=>[(7,.sl (o.length+x) ((o++(l.take x).map (((first+j:Nat):Int)::·)).map a_) (.opn H.length)),(10,iv x)]) (λx=>H++[.tail (o.length+x) 1 22]) (λi=>True) (λ_ _=>rfl) (by simp only[seval];simp[bu,Wk.refl]) (by simp) (λ_ _ _=>by simp) trivial (λbQ cP x C3 hx R2 ru=> ?_);clear bQ cP;refine ak ?_;refine aD ?_;refine⟨λh2=> ?_,λh2=> ?_⟩
   ·have bt:x<l.length:=(by omega);obtain⟨r,hr⟩:=b9 bt;have tE:=hlr r (tP hr);have Ao:SD.wrap ((x:Int)+1)=x+1:=bA _ (by omega);have z9:((o++(l.take x).map (((first+j:Nat):Int)::·)).map a_).length=o.length+x:=(by simp;omega);have cQ:(o++(l.take (x+1)).map (((first+j:Nat):Int)::·)).map a_=(o++(l.take x).map (((first+j:Nat):Int)::·)).map a_++[a_ (((first+j:Nat):Int)::r)]:=by
     rw[am9 _ hr,<- SC,TD];rfl
    have Ll:(r.map iv).length=r.length:=Tn ..;refine aN ?_;refine ai ?_;simp only[seval,z1,Ec,Dx,DR hr,jc bt,z9,Ll,a_];refine⟨by omega,by simp;omega,by omega,?_⟩;refine ai ?_;simp only[seval,Ao];refine ru _ ⟨bt,trivial,?_⟩;rw[cQ];refine He [.tail (1+r.length) 1 3] (pE rfl rfl) ?_ (K7 hH _ _ _) ?_ (by simp[U1])
    ·(try simp only[seval]);exact⟨⟨_,rfl,have h:=NT (l:=(o++(l.take x).map (((first+j:Nat):Int)::·)).map a_) (show Wk (.sl (1+r.length) (iv ((first:Int)+j)::r.map iv) (.opn (H.length+1))) (a_ (((first:Int)+j)::r)) by rw[a_,aj_];exact g_ _ _ _);D9 h.len h.at⟩,_,rfl,Wk.refl _⟩
    ·rw[<- cQ];simp only[Wp,eK,My,iv];simp
   ·have yf:x=l.length:=(by omega);subst yf;refine bX ?_;refine ai ?_;simp only[seval,fh];refine hR _ ⟨eU,trivial,?_⟩;rw[Ai];simp only[TG,SN,Tn];exact da
  ·have uK:j=n-kk-first:=by omega
   subst uK;refine bX ?_;refine ak ?_;refine aZ ?_;rw[anZ];exact iM (b:=pS (gA n (kk+1) first)) hH (g_ _ _ _) (by rw[GF];trivial) hk
end
namespace Tk
def iV (l:List Int):Nat:=if l.length=0 then 0 else(l.getD (l.length-1) 0).toNat+1
def nP (n:Nat)(l:List Int)(j:Nat):List (List Int):=(SZ j).map λj:Nat=>l++[((iV l+j:Nat):Int)]
def nS (n:Nat):Nat->List (List Int)
 |0=>[[]]
 |i+1=>nS n i++nP n ((nS n i).getD i []) (n-iV ((nS n i).getD i []))
def vd (n:Nat):List (List Int):=nS n (2^n)
theorem al5(n:Nat)(l:List Int)(j:Nat):nP n l (j+1)=nP n l j++[l++[((iV l+j:Nat):Int)]]:=by
 unfold nP;rw[Vo,TD];rfl
theorem an0:∀n,n<4->(∀i,i<2^n->i<(nS n i).length/\(∀l∈nS n i,l.length<=3/\∀y∈l,0<=y/\y<n))/\(∀i,i<2^n+1->(nS n i).length<=8)/\(nS n (2^n)).length=2^n:=by decide+kernel
end Tk
section
variable {lv:Bool}{H:List aa}{k kp:AV->List aa->Prop}
theorem aiz{ns:List Int}{e:End}(hn:ns.length<=2^20)(h0:ns=[]->k (.sl 0 [] .exact) H)(hk:k (.sl ns.length (ns.map iv) (.opn H.length)) (H++[.tail ns.length 1 3])):bh lv SA 94 H [.sl ns.length (ns.map iv) e] k kp:=by
 refine bF (rs:=[.tmp 2]) (nt:=8) Tryz.f94 λhH hA=> ?_;simp only[bk,SV];refine ak ?_;refine ak ?_;intro b hb;refine aD ?_;refine⟨λh=> ?_,λh=> ?_⟩
 ·
  refine ak ?_;refine aZ ?_;have:ns=[]:=by
   cases ns with
   |nil=>rfl
   |cons x xs=>rw[hb (by simp)]at h;cases h
  exact jy (H':=H) (G:=[]) (Wk.refl _) (by simp) (SQ _) hH (by simp[Mx]) (h0 this)
 ·
  refine aN ?_;refine ak ?_;refine⟨by omega,?_⟩;refine aZ ?_;exact bW hk
theorem aim{n:Nat}(hn:n<=3)(hk:k (pS (vd n)) H):bh lv SA 70 H [iv n] k kp:=by
 refine bF (rs:=[.tmp 2]) (nt:=44) Tryz.f70 λhH hA=> ?_;simp only[bk,SV];obtain⟨lg,iQ,mM⟩:=an0 n (by omega);refine ak ?_;refine ai ?_;simp only[seval,Ec,Dx]
 (repeat apply iA);refine sK (t:=3) (sz:=1) (el:=22) (by simp only[seval]<;>rfl) ?_
 refine ak ?_;refine cq ?_;refine gD (2^n) (λi:Nat=>[(3,.sl (nS n i).length ((nS n i).map a_) (.opn H.length)),(4,iv i)]) (λi=>H++[.tail (nS n i).length 1 22]) (λi=>True) (λ_ _=>rfl) (by simp only[seval];simp[bu,Wk.refl];exact D9 (l:=[.sl 0 [] .exact]) (l':=[a_ []]) rfl (qY.cons (g_ _ _ _) .nil).at) rfl (λ_ _ _=>by simp) trivial (λbQ cP i cK _ R hR=> ?_);clear bQ cP;have bM:i<2^n->SD.wrap ((i:Int)+1)=((i+1:Nat):Int):=λh=>by
  have:2^n<=2^3:=Xk (by omega) hn;rw[bA _ (by omega)];rfl
 refine ak ?_;refine aD ?_;refine⟨λh=> ?_,λh=> ?_⟩
 ·have bB:i<2^n:=by
   rcases YF i (2^n)with h'|h'
   ·exact h'
   ·have:i=2^n:=(by omega);subst this;rw[mM]at h;omega
  obtain⟨g1,g2⟩:=lg i bB;have g3:=iQ i (by omega);have bM:=bM bB;obtain⟨l,hl⟩:=b9 g1;have Ai:nS n (i+1)=nS n i++nP n l (n-iV l):=by
   rw[nS,SE,hl];rfl
  obtain⟨KQ,hly⟩:=g2 l (tP hl);generalize nS n i=o at Ai hl g1 g3 hR⊢;refine aN ?_;refine ai ?_;simp only[seval,DR hl,jc g1];refine ak ?_;refine ai ?_;simp only[seval,a_];refine aD ?_;refine⟨λh=> ?p1,λh=> ?p2⟩
  case' p1=>
   have tn:0<l.length:=(by omega);obtain⟨y,hy⟩:=b9 (xs:=l) (i:=l.length-1) (by omega);have Gi:=hly y (tP hy);have pn:iV l=y.toNat+1:=(by unfold iV;rw[if_neg (by omega),SE,hy];rfl);have fh:SD.wrap ((l.length:Int)-1)=((l.length-1:Nat):Int):=(by rw[bA _ (by omega)];omega);have tJ:SD.wrap (y+1)=((iV l:Nat):Int):=(by rw[bA _ (by omega),pn];omega);have ov:(0<=((l.length-1:Nat):Int)/\((l.length-1:Nat):Int)<l.length)=True:=(by simp;omega);refine ai ?_;simp only[seval,fh,e9 hy,ov,tJ];have RY:iV l=iV l:=rfl
  case' p2=>
   have RY:iV l=0:=(by unfold iV;rw[if_pos (by omega)]);refine aN ?_
  all_goals(
   refine ak ?_;refine cq ?_;refine gD (n-iV l) (λj:Nat=>[(3,.sl (o.length+j) ((o++nP n l j).map a_) (.opn H.length)),(7,iv (((iV l:Nat):Int)+j))]) (λj=>H++[.tail (o.length+j) 1 22]) (λi=>True) (λ_ _=>rfl) (by first|(simp only[seval];simp[bu,Wk.refl];done)|(simp only[seval,nP,Zx];simp[bu,Wk.refl,RY])) (by simp) (λ_ _ _=>by simp) trivial (λbQ cP j oz _ R2 ru=> ?_);clear bQ cP;have RV:(n-iV l)<=3:=(by omega);refine ak ?_;refine aD ?_;refine⟨λh2=> ?_,λh2=> ?_⟩
   ·have eU:j<n-iV l:=(by omega);have cQ:(o++nP n l (j+1)).map a_=(o++nP n l j).map a_++[a_ (l++[((iV l:Nat):Int)+j])]:=(by rw[al5,<- SC,TD];rfl);have z9:((o++nP n l j).map a_).length=o.length+j:=(by simp[nP]);have Ao:SD.wrap (((iV l:Nat):Int)+j+1)=((iV l:Nat):Int)+((j+1:Nat):Int):=(by rw[bA _ (by omega)];omega);refine aN ?_;refine ak ?_;refine aI ((aiz (ns:=l) (by omega) (λtn=> ?_) ?_))
    ·subst tn;try simp only[seval,z1,Ec,Dx,z9]
     first|refine⟨by decide,by omega,?_⟩|refine⟨by omega,?_⟩
     refine ai ?_;simp only[seval,Ao];refine ru _ ⟨eU,trivial,?_⟩;rw[cQ];refine He [.tail 1 1 3] (pE rfl rfl) ?_ (K7 hH _ _ _) ?_ (by simp[U1])
     ·(try simp only[seval]);exact⟨⟨_,rfl,have h:=NT (l:=(o++nP n [] j).map a_) (show Wk (.sl 1 [iv (((iV []:Nat):Int)+j)] (.opn (H.length+1))) (a_ ([]++[((iV []:Nat):Int)+j])) by exact g_ _ _ _);D9 h.len h.at⟩,_,rfl,Wk.refl _⟩
     ·rw[<- cQ];simp only[Wp,eK,My,iv];simp
    ·(try simp only[seval,z1,Ec,Dx,z9]);refine⟨by omega,by omega,?_⟩;refine ai ?_;simp only[seval,Ao];refine ru _ ⟨eU,trivial,?_⟩;rw[cQ];refine He [.tail (l.length+1) 1 3] (pE rfl rfl) ?_ (K7 hH _ _ _) ?_ (by simp[U1])
     ·(try simp only[seval]);exact⟨⟨_,rfl,have h:=NT (l:=(o++nP n l j).map a_) (show Wk (.sl (l.length+1) (l.map iv++[iv (((iV l:Nat):Int)+j)]) (.opn (H.length+1))) (a_ (l++[((iV l:Nat):Int)+j])) by rw[a_,TD,SN];exact g_ _ _ _);D9 h.len h.at⟩,_,rfl,Wk.refl _⟩
     ·rw[<- cQ];simp only[Wp,eK,My,iv];simp
   ·have uK:j=n-iV l:=(by omega);subst uK;refine bX ?_;refine ai ?_;simp only[seval,bM];refine hR _ ⟨bB,trivial,?_⟩;rw[Ai];have CC:(o++nP n l (n-iV l)).length=o.length+(n-iV l):=(by simp[nP]);rw[CC];exact da)
 ·have qk:i=2^n:=by
   rcases YF i (2^n)with h'|h'
   ·have:=(lg i h').1;omega
   ·omega
  subst qk;refine bX ?_;refine ak ?_;refine aZ ?_;exact iM (b:=pS (vd n)) hH (g_ _ _ _) (by rw[GF];trivial) hk
end
open Go.Conc Go.Proofs Go.Gg.Tk
theorem Jx{α:Type}{f:α->List AV}{s:Nat}(hf:∀a,(f a).length=s):∀(xs:List α)(n:Nat),(xs.flatMap f).take (n* s)=(xs.take n).flatMap f
 |[],n=>by simp
 |x::xs,0=>by simp
 |x::xs,n+1=>by
  rw[Ub,VR,Ub,List.take_append,SX (by rw[hf,XB];omega),hf,show (n+1)* s-s=n* s by rw[XB];omega,Jx hf xs n]
theorem xw{α:Type}{f:α->List AV}{s:Nat}(hf:∀a,(f a).length=s):∀(xs:List α)(n:Nat),(xs.flatMap f).drop (n* s)=(xs.drop n).flatMap f
 |[],n=>by simp
 |x::xs,0=>by simp
 |x::xs,n+1=>by
  rw[Ub,List.drop_succ_cons,Vy,WV (by rw[hf,XB];omega),hf,show (n+1)* s-s=n* s by rw[XB];omega,xw hf xs n,UJ]
namespace Tk
def sS (ss:List aC)(ns:List Int):List aC:=ns.foldr (λn l=>l.eraseIdx n.toNat) ss
def aj.wo (x:aj)(ns:List Int):aj:={x with aB:=sS x.aB ns}
def ua (ns:List Int)(m:Nat):Prop:=∀(i:Nat) n,ns[i]?=some n->0<=n/\n+(ns.length-i:Nat)<=m
theorem ua.tail{n:Int}{ns:List Int}{m:Nat}(h:ua (n::ns) m):ua ns m:=λi k hk=>by
 have:=h (i+1) k hk;simp only[Ul]at this;exact⟨this.1,by omega⟩
theorem I0{ss:List aC}:∀{ns:List Int},ua ns ss.length->(sS ss ns).length+ns.length=ss.length
 |[],_=>rfl
 |n::ns,h=>by
  have h1:=I0 h.tail;have h2:=h 0 n rfl;have e:sS ss (n::ns)=(sS ss ns).eraseIdx n.toNat:=rfl;simp only[Ul]at h2⊢;rw[e,X4 (by omega)];omega
end Tk
section
variable {lv:Bool}{H:List aa}{k kp:AV->List aa->Prop}
theorem P6{x:aj}{ns:List Int}{e:End}(aQ:x.aB.length<=3)(ik:ua ns x.aB.length)(hk:k (x.wo ns).av H):bh lv SA 63 H [x.av,.sl ns.length (ns.map iv) e] k kp:=by
 have KZ:ns.length<=3:=by have:=I0 ik;omega
 refine bF (rs:=[.cell 4 76]) (nt:=32) Tryz.f63 λhH hA=> ?_;simp only[bk,SV,aj.av];obtain⟨st,lR⟩:∃st:Nat->List aC,∀j,st j=sS x.aB (ns.drop (ns.length-j)):=⟨_,λ_=>rfl⟩;have lq:st 0=x.aB:=by rw[lR,ZW,List.drop_length];rfl
 have alu:st ns.length=sS x.aB ns:=by rw[lR,Vf,Xy]
 obtain⟨xl,bt⟩:∃xl:List aC->List AV,∀ss,xl ss=[iv x.first,iv x.hours,iv x.am,dS x.seen,aW x.pieces,aW ss]:=⟨_,λ_=>rfl⟩;have tK:x.l=xl x.aB:=by rw[bt];rfl
 have nz:∀ss,(xl ss).drop 5=[.sl ss.length (ss.flatMap aC.l) .shut]:=λss=>by rw[bt];rfl
 have aT:∀(L:List aa),(H++L)[H.length]?=L[0]?:=λL=>aX H L 0;have db:∀(L:List aa)(y:aa),(H++L).set H.length y=H++L.set 0 y:=λL y=>dU H L 0 y;have du:∀(L:List aa),(H++L)[H.length+1]?=L[1]?:=λL=>aX H L 1;have dP:∀(L:List aa)(y:aa),(H++L).set (H.length+1) y=H++L.set 1 y:=λL y=>dU H L 1 y;rw[tK];refine ak ?_;have rQ:SD.wrap ((ns.length:Int)-1)=(ns.length:Int)-1:=bA _ (by omega);refine ak ?_;refine cq ?_;refine gD ns.length (λj:Nat=>[(5,iv ((ns.length:Int)-1-j))]) (λj=>H++[.cells (xl (st j)) 26,.cells qL 76]) (λi=>True) (λ_ _=>rfl) (by simp only[seval,rQ];simp[bu,Wk.refl]) (by rw[lq];rfl) (λ_ _ _=>by simp) trivial (λbQ cP j oz _ R hR=> ?_);clear cP;refine ak ?_;refine aD ?_;refine⟨λh=> ?_,λh=> ?_⟩
 ·have eU:j<ns.length:=by omega
  obtain⟨i,hi⟩:∃i:Nat,i=ns.length-1-j:=⟨_,rfl⟩;have RE:(ns.length:Int)-1-j=i:=by omega
  obtain⟨n,hn⟩:=b9 (xs:=ns) (i:=i) (by omega);obtain⟨oC,tu⟩:=ik i n hn;obtain⟨n,rfl⟩:∃m:Nat,n=m:=⟨n.toNat,by omega⟩;have cQ:st (j+1)=(st j).eraseIdx n:=by
   rw[lR,lR,show ns.length-(j+1)=i by omega,show ns.length-j=i+1 by omega];obtain⟨hlt,rfl'⟩:=SL.1 hn;rw[TQ hlt,rfl'];rfl
  have cH:(st j).length+j=x.aB.length:=by
   have hd:ua (ns.drop (ns.length-j)) x.aB.length:=λq m hq=>by
    rw[Uo]at hq;have:=ik _ _ hq;rw[Un];exact⟨this.1,by omega⟩
   have:=I0 hd;rw[<- lR,Un]at this;omega
  have jI:n<(st j).length:=by omega
  generalize st j=ss at cQ cH jI hR⊢;rw[RE];refine aN ?_;refine ai ?_;simp only[seval,e9 hn,jc (show i<ns.length by omega)];have bM:SD.wrap ((n:Int)+1)=((n+1:Nat):Int):=by rw[bA _ (by omega)];rfl
  have lh:∀l:List aC,(l.flatMap aC.l).length=l.length* 4:=λl=>by
   induction l with
   |nil=>rfl
   |cons a l ih=>rw[Ub,SN,ih,aC.len,Ul];omega
  have lT:((n:Int)+1).toNat=n+1:=by omega
  have K4:((n:Int)+1==0)=false:=by simp;omega
  have lg:(ss.take n).length=n:=by rw[Ud];omega
  have iQ:(ss.drop (n+1)).length=ss.length-(n+1):=Un;have hD1:∀l:List aC,(ss.length-(n+1))=l.length->l.take (ss.length-(n+1))=l:=λl h=>by rw[h,TG]
  have hD2:(ss.drop (n+1)).take (ss.length-(n+1))=ss.drop (n+1):=hD1 _ iQ.symm;refine eO 10 ?_;simp only[seval,aT,nz,bM,lh,lT,Jx aC.len,xw aC.len,lg,iQ,beq_self_eq_true,Z',YD,K4,hD2,TG];refine⟨by omega,by omega,by omega,by omega,by omega,by rw[bt];simp,?_⟩;have Cv:(ss.eraseIdx n).length=n+(ss.length-(n+1)):=by rw[X4 jI];omega
  have Cw:(ss.eraseIdx n).flatMap aC.l=(ss.take n).flatMap aC.l++(ss.drop (n+1)).flatMap aC.l:=by rw[List.eraseIdx_eq_take_drop_succ,UX]
  rw[<- Cw,<- Cv];have o_:∀y y',((xl ss).take 5++[y]++(xl ss).drop 6).set 5 y'=((xl ss).take 5++[y']++(xl ss).drop 6):=λy y'=>by rw[bt];rfl
  have hcg:∀y,((xl ss).take 5++[y]++(xl ss).drop 6)[5]?=some y:=λy=>by rw[bt];rfl
  have hce:(xl ss).take 5++[aW (ss.eraseIdx n)]++(xl ss).drop 6=xl (ss.eraseIdx n):=by rw[bt,bt];rfl
  (repeat apply iA);refine afs (id:=H.length) (j:=5) (y:=aW (ss.eraseIdx n)) (by simp only[seval,aT]<;>rfl) (hcg _) (g_ _ _ _) ?_
  simp only[seval,db,o_,hce];have fh:SD.wrap ((i:Int)-1)=(ns.length:Int)-1-((j+1:Nat):Int):=by rw[bA _ (by omega)];omega
  refine ai ?_;simp only[seval,fh];refine hR _ ⟨eU,trivial,?_⟩;rw[cQ];have tw:bI (H++[.cells (xl (ss.eraseIdx n)) 26,.cells qL 76]):=Se hH λz hz m=>by
   simp only[SK,S0,or_false]at hz;rcases hz with rfl|rfl
   ·rw[bt];exact aaT m {x with aB:=ss.eraseIdx n}
   ·intro a ha;simp only[qL,SK,S0,or_false]at ha;rcases ha with rfl|rfl|rfl|rfl|rfl|rfl<;>simp[eK,Mx]
  rw[<- RE];exact He [.tail (ss.eraseIdx n).length 4 48] (pE rfl rfl) (by simp only[seval];simp[bu,Wk.refl]) tw (by simp[eK]) (by rw[SC];rfl)
 ·have uK:j=ns.length:=by omega
  subst uK;refine bX ?_;have C3:(xl (st ns.length))=(x.wo ns).l:=by rw[bt,alu];rfl
  rw[C3];have rQ:(x.wo ns).l.length=6:=rfl;have uW:Ui 6 (x.wo ns).l=(x.wo ns).l:=rfl;have oD:qL.length=6:=rfl;have LP:T7 6 qL=[]:=rfl;refine ai ?_;simp only[seval,aT,dP,du,rQ,uW,oD,LP];refine⟨kR _,?_⟩;refine n_ ?_;simp only[seval,du];rw[uW];exact iM (b:=(x.wo ns).av) hH (Wk.refl _) (by rw[Dj];trivial) hk
end
open Go.Conc Go.Proofs Go.Gg.Tk
namespace Tk
def OA (ns:List Int)(m:Nat):Bool:=(SZ ns.length).all λi=>decide (0<=ns.getD i 0/\ns.getD i 0+(ns.length-i:Nat)<=m)
theorem ae8{ns:List Int}{m:Nat}(h:OA ns m=true):ua ns m:=λi n hn=>by
 have hi:=(SL.1 hn).1;have:=Tv.1 h i (Tx.2 hi);rw[decide_eq_true_eq,SE,hn]at this;exact this
theorem aaP:∀n,n<4->(vd n).length=2^n/\∀l∈vd n,OA l n=true:=by decide+kernel
theorem amH{n:Nat}(hn:n<4){l:List Int}(hl:l∈vd n):ua l n:=ae8 ((aaP n hn).2 l hl)
theorem PE{ss:List aC}:∀{ns:List Int}{y:aC},y∈sS ss ns->y∈ss
 |[],y,h=>h
 |n::ns,y,h=>PE (ns:=ns) (List.mem_of_mem_eraseIdx h)
theorem PD{ss:List aC}:∀{ns:List Int},(sS ss ns).length<=ss.length
 |[]=>SQ _
 |n::ns=>by
  have h1:=PD (ss:=ss) (ns:=ns);have h2:=List.length_eraseIdx_le (sS ss ns) n.toNat;exact UM h2 h1
theorem aj.Ok.wo{x:aj}(h:x.Ok)(ns:List Int):(x.wo ns).Ok:=⟨h.first,h.hours,h.am,h.yC,h.eD,UM PD h.dc,h.seen,λy hy=>⟨(h.piece y hy).1,(h.piece y hy).2⟩,λy hy=>have k:=h.stub y (PE hy);⟨k.1,k.2⟩⟩
def zv (x:aj):Option (List Int):=(vd x.aB.length).find? λl=>rf (x.wo l)
theorem Qe{α:Type}{p:α->Bool}:∀{l:List α}{i:Nat}{a:α},l[i]?=some a->p a=true->(∀j b,j<i->l[j]?=some b->p b=false)->l.find? p=some a
 |b::l,0,a,h,hp,_=>by cases h;rw[List.find?_cons_of_pos hp]
 |b::l,i+1,a,h,hp,h0=>by
  rw[List.find?_cons_of_neg (by rw[h0 0 b (by omega) rfl];simp)];exact Qe (i:=i) h hp λj c hj hc=>h0 (j+1) c (by omega) hc
theorem aiP{α:Type}{p:α->Bool}{l:List α}(h:∀(j:Nat) b,l[j]?=some b->p b=false):l.find? p=none:=by
 rw[List.find?_eq_none];intro a ha;obtain⟨j,hj⟩:=U0 ha;rw[h j a hj];simp
end Tk
section
variable {lv:Bool}{H:List aa}{k kp:AV->List aa->Prop}
theorem P3{x:aj}(hx:x.Ok)(iD:∀l,zv x=some l->k (.aL [a_ l,iv 0]) H)(cG:zv x=none->k (.aL [a_ [],iv 11]) H):bh lv SA 32 H [x.av] k kp:=by
 refine bF (rs:=[.tmp 2,.tmp 3]) (nt:=27) Tryz.f32 λhH hA=> ?_;simp only[bk,SV,aj.av];have aQ:=hx.dc;have bO:x.l=[iv x.first,iv x.hours,iv x.am,dS x.seen,aW x.pieces,aW x.aB]:=rfl;have nz:T7 5 x.l=[.sl x.aB.length (x.aB.flatMap aC.l) .shut]:=rfl;have aT:∀(L:List aa),(H++L)[H.length]?=L[0]?:=λL=>aX H L 0;have bt:x.l.length=6:=rfl;have ej:Ui 6 x.l=x.l:=rfl;refine ak ?_;refine ai ?_;simp only[seval,aT,bt,ej];refine aI ((Jg (x:=x) hx ?_));(try simp only[seval]);refine ai ?_;simp only[seval,show ((0:Int)!=0)=false from rfl];refine aD ?_;refine aN ?_;refine ai ?_;simp only[seval,aT,nz];refine aI ((aim (n:=x.aB.length) aQ ?_));have fF:=(aaP x.aB.length (by omega)).1;have fg:=λl hl=>amH (n:=x.aB.length) (by omega) (l:=l) hl;have wi:zv x=(vd x.aB.length).find? λl=>rf (x.wo l):=rfl;generalize vd x.aB.length=ls at fF fg wi⊢;have hp8:2^x.aB.length<=2^3:=Xk (by omega) aQ;(try simp only[seval,pS]);refine cq ?_;refine gD ls.length (λi:Nat=>[(17,iv i)]) (λi=>H++[.cells x.l 26]) (λi=>∀j b,j<i->ls[j]?=some b->rf (x.wo b)=false) (λ_ _=>rfl) (by simp only[seval];simp[bu,Wk.refl]) rfl (λ_ _ _=>by simp) (λj b hj=>by omega) (λbQ cP i cK au R hR=> ?_);clear bQ cP;refine ak ?_;refine aD ?_;refine⟨λh=> ?_,λh=> ?_⟩
 ·have bB:i<ls.length:=by omega
  obtain⟨l,hl⟩:=b9 bB;have gI:=fg l (tP hl);have fQ:SD.wrap ((i:Int)+1)=((i+1:Nat):Int):=by rw[bA _ (by omega)];rfl
  refine aN ?_;refine ai ?_;simp only[seval,DR hl,jc bB];refine ai ?_;simp only[seval,aT,bt,ej];refine aI ((P6 (x:=x) (ns:=l) aQ gI ?_));(try simp only[seval]);refine aI ((ain (x:=x.wo l) (hx.wo l) ?_));(try simp only[seval]);refine aD ?_;refine⟨λhc=> ?_,λhc=> ?_⟩
  ·refine ak ?_;refine aZ ?_;exact iM (b:=.aL [a_ l,iv 0]) hH (HG (Wk.refl _) (Wk.refl _)) (by simp[jL,eK,Av]) (iD l (by rw[wi];exact Qe hl hc au))
  ·refine aN ?_;refine ai ?_;simp only[seval,fQ];refine hR _ ⟨bB,λj b hj hb=> ?_,da⟩;rcases YF j i with h'|h'
   ·exact au j b h' hb
   ·have:j=i:=(by omega);subst this;rw[hl]at hb;cases hb;simpa using hc
 ·have qk:i=ls.length:=by omega
  subst qk;refine bX ?_;refine ak ?_;refine aZ ?_;exact iM (b:=.aL [a_ [],iv 11]) hH (HG (g_ _ _ _) (Wk.refl _)) (by simp[jL,eK,Av]) (cG (by rw[wi];exact aiP λj b hb=>au j b (eR hb) hb))
end
open Go.Conc
def behind (j:Nat)(o:Tu):Tu:={o with after:=o.after.push {on:=j,ground:=.data}}
def n5 (ops:Array Tu)(i j:Nat):Array Tu:=ops.modify i (behind j)
theorem aeB(ops:Array Tu)(i j:Nat):(n5 ops i j).size=ops.size:=by simp[n5]
theorem qZ(ops:Array Tu)(i j k:Nat):(n5 ops i j)[k]?=if i=k then(ops[k]?).map (behind j)else ops[k]?:=by
 unfold n5;rw[Wi]
theorem afJ(j:Nat)(o:Tu):cR (behind j o)=cR o++[j]:=by
 unfold cR behind;simp only[Array.toList_push,List.filterMap_append];rfl
theorem ab6{ops:Array Tu}{i j:Nat}{X l:List Nat}(h:l9 ops X l):j∈X->l9 (n5 ops i j) X l:=by
 induction h with
 |nil X h=>exactλ_=> .nil X λk hk=>h k (by rwa [aeB]at hk)
 |cons o ho hn hd lP ih=>
  rename_i X k l;intro hj;by_cases e:i=k
  ·exact .cons (behind j o) (by rw[qZ,if_pos e,ho];rfl) hn (λq hq=>by
    rw[afJ]at hq;rcases SR.1 hq with hq|hq
    ·exact hd q hq
    ·rw[S8.1 hq];exact hj) (ih (Tb _ hj))
  ·exact .cons o (by rw[qZ,if_neg e];exact ho) hn hd (ih (Tb _ hj))
theorem ap2{ops:Array Tu}{i j:Nat}(ku:i≠j)(hi:i<ops.size){X l:List Nat}(h:l9 ops X l):i∉X->j∉X->l9 (n5 ops i j) X l\/l9 (n5 ops j i) X l:=by
 induction h with
 |nil X h=>exactλh1 _=>absurd (h i hi) h1
 |cons o ho hn hd lP ih=>
  rename_i X k l;intro h1 h2;by_cases e:k=i
  ·subst e;exact .inr (.cons o (by rw[qZ,if_neg (Ne.symm ku)];exact ho) hn hd (ab6 lP TC))
  ·by_cases e2:k=j
   ·subst e2;exact .inl (.cons o (by rw[qZ,if_neg ku];exact ho) hn hd (ab6 lP TC))
   ·rcases ih (λhm=>(SK.1 hm).elim (λx=>e x.symm) h1) (λhm=>(SK.1 hm).elim (λx=>e2 x.symm) h2)with q|q
    ·exact .inl (.cons o (by rw[qZ,if_neg (Ne.symm e)];exact ho) hn hd q)
    ·exact .inr (.cons o (by rw[qZ,if_neg (Ne.symm e2)];exact ho) hn hd q)
section
variable {lv:Bool}{P:SI}{r:Option Nat}{ops:Array Tu}{nt:Nat}
theorem aeC(i j:Nat)(tmps:Array SP):yielded (n5 ops i j) tmps=yielded ops tmps:=by
 funext k;unfold yielded;rw[qZ];by_cases e:i=k
 ·rw[if_pos e];cases ops[k]?<;>rfl
 ·rw[if_neg e]
theorem Ot(i j:Nat)(Q:Ex->Act->View->Prop):∀l:List Nat,dl lv P r (n5 ops i j) Q l=dl lv P r ops Q l
 |[]=>rfl
 |k::l=>by
  funext a V;have ih:=Ot i j Q l;simp only[dl];rw[qZ,aeC,ih];by_cases e:i=k
  ·rw[if_pos e];cases ho:ops[k]?with
   |none=>rfl
   |some o=>rfl
  ·rw[if_neg e]
theorem Ig(i j:Nat)(Hf:List Nat->List aa)(K:AS->Prop)(t:Bg K):∀(pl:List qT)(s:AS),fZ lv P Hf (n5 ops i j) pl s K t=fZ lv P Hf ops pl s K t
 |[],_=>rfl
 |⟨k,false,_,l⟩::rest,s=>by
  have ih:=Ig i j Hf K t rest;simp only[fZ,qZ];have e:∀o,ao (some o) (λo=>AQ lv P s o λav=>BQ lv P Hf s.T o av l/\fZ lv P Hf (n5 ops i j) rest (s.put o.dst av) K t)=ao (some o) (λo=>AQ lv P s o λav=>BQ lv P Hf s.T o av l/\fZ lv P Hf ops rest (s.put o.dst av) K t):=λo=>by
   simp only[ao,ih]
  have bq:∀(o:Tu) av,BQ lv P Hf s.T (behind j o) av l=BQ lv P Hf s.T o av l:=λo av=>by
   induction l with
   |nil=>rfl
   |cons p l lx=>exact congrArg (λx=>_/\x) (lx λo=>by simp only[ao,ih])
  split
  ·cases ops[k]?with
   |none=>rfl
   |some o=>
    simp only[UP,ao,ih,bq];rfl
  ·cases ops[k]?with
   |none=>rfl
   |some o=>exact e o
 |⟨k,true,D,l⟩::rest,s=>by
  have ih:=Ig i j Hf K t rest;simp only[fZ,qZ];have be:∀(o:Tu) av,BE lv P Hf s.T (behind j o) av l=BE lv P Hf s.T o av l:=λo av=>by
   induction l with
   |nil=>rfl
   |cons p l lx=>exact congrArg (λx=>_/\x) lx
  split
  ·cases ops[k]?with
   |none=>rfl
   |some o=>
    simp only[UP,ao,ih,be];rfl
  ·cases ops[k]?with
   |none=>rfl
   |some o=>simp only[ao,ih]
theorem agW{es ord:List Nat}(au:ri nt ops es ord=true)(t:Nat):l9 ops [] (UI .any ops ops.size t (TL ops.size false) []):=by
 have au:=ri.out au;obtain⟨wu,_,hlt⟩:=DZ au.top;have ready:∀(ord X:List Nat),kz ops X ord=true->∀A i B,ord=A++i::B->∃o,ops[i]?=some o/\∀j∈cR o,j∈A\/j∈X:=by
  intro ord;induction ord with
  |nil=>intro X _ A i B e;cases A<;>cases e
  |cons x l ih=>
   intro X nL A i B e;simp only[kz,Ti,TY,Uq,decide_eq_false_iff_not]at nL;obtain⟨⟨h1,h2⟩,h3⟩:=nL;cases A with
   |nil=>
    have e1:x=i:=(by have:=congrArg List.head? e;simpa using this);rw[e1]at h2;cases ho:ops[i]?with
    |none=>rw[ho]at h2;cases h2
    |some o=>
     rw[ho]at h2;exact⟨o,rfl,λj hj=> .inr (by have:=Tv.1 h2 j hj;simpa using this)⟩
   |cons y A=>
    cases e;obtain⟨o,ho,hb⟩:=ih (x::X) h3 A i B rfl;refine⟨o,ho,λj hj=> ?_⟩;rcases hb j hj with h|h
    ·exact .inl (Tb _ h)
    ·rcases SK.1 h with rfl|h
     ·exact .inl (TC ..)
     ·exact .inr h
 exact Mq (ops:=ops) (λi o ho j hj=>by
   obtain⟨A,B,e⟩:=List.append_of_mem (au.full i (SS.1 ho).1);obtain⟨o',bf,hb⟩:=ready ord [] au.top A i B e;rw[ho]at bf;cases bf;rcases hb j hj with h|h
   ·exact hlt j (by rw[e];exact Tf _ h)
   ·cases h)
  (λX ⟨i,hi,hn⟩=>by
   obtain⟨A,i',B,e,h1,h2⟩:=Jq (X:=X) ⟨i,au.full i hi,hn⟩;obtain⟨o',bf,hb⟩:=ready ord [] au.top A i' B e;refine⟨i',o',bf,h1,λj hj=> ?_⟩;rcases hb j hj with h|h
   ·exact h2 j h
   ·cases h)
  ops.size t (TL ops.size false) [] ⟨by simp,λi hi=>by simp[hi]⟩ (UM Y0 (by simp))
end
inductive sw (ops:Array Tu):Array Tu->Prop
 |base:sw ops ops
 |add {o:Array Tu} (h:sw ops o) (i j:Nat):sw ops (n5 o i j)
section
variable {lv:Bool}{P:SI}{r:Option Nat}{ops o:Array Tu}{nt:Nat}{s:AS}{Φ:an->AS->Prop}
theorem sw.wp(h:sw ops o)(Q:Ex->Act->View->Prop)(l:List Nat):dl lv P r o Q l=dl lv P r ops Q l:=by
 induction h with
 |base=>rfl
 |add _ i j ih=>rw[Ot,ih]
theorem sw.O4(h:sw ops o)(Hf:List Nat->List aa)(K:AS->Prop)(t:Bg K)(pl:List qT)(s:AS):fZ lv P Hf o pl s K t=fZ lv P Hf ops pl s K t:=by
 induction h with
 |base=>rfl
 |add _ i j ih=>rw[Ig,ih]
def DG (lv:Bool)(P:SI)(r:Option Nat)(nt:Nat)(ops o:Array Tu)(s:AS)(Φ:an->AS->Prop):Prop:=
 ∀l E V a Q,l9 o [] l->At E V s a nt->(∀ae e E' V' a' s',Kept E E' V V' a a'->At E' V' s' a' nt->pN E' ae e->Φ ae s'->Q e a' V')->dl lv P r ops Q l a V
theorem rh(i j:Nat)(ku:(i !=j&&decide (i<o.size))=true)(h1:DG lv P r nt ops (n5 o i j) s Φ)(h2:DG lv P r nt ops (n5 o j i) s Φ):DG lv P r nt ops o s Φ:=λl E V a Q hs ah hQ=>by
 rw[Ti,bne_iff_ne,decide_eq_true_eq]at ku;rcases ap2 ku.1 ku.2 hs (by simp) (by simp)with hs|hs
 ·exact h1 l E V a Q hs ah hQ
 ·exact h2 l E V a Q hs ah hQ
theorem afg{id:Nat}(es ord:List Nat)(hm:P.follows .mixedOrders=true)(au:ri nt ops es ord=true)(h:DG lv P r nt ops ops s Φ):aP lv P r nt (.region id ops true) s Φ:=by
 intro E V a Q ah hQ;refine NY λt=> ?_;rw[show VM (P.follows .mixedOrders) ops t=UI .any ops ops.size t (TL ops.size false) [] by unfold VM;rw[hm];simp[Y9]];exact h _ E V a Q (agW au t) ah hQ
end
def GH (lv:Bool)(P:SI)(o:Tu)(s:AS)(next:AS->Prop):Prop:=match o.op with
 |.call c=>match c.callee with
  |.value x=>ao (s.ev x) λsN=>ao (ff s c.args.toList) λaE=>A_ lv P sN s.H aE (λb H'=>next ((⟨s.T,H'⟩:AS).put o.dst b)) (λ_ _=>False) ⟨0⟩
  |_=>False
 |_=>False
def aaY (ops:Array Tu)(A B:List Nat)(m:Nat):Bool:=
 let cl:=gF ops (A++m::B) []
 A.all (λi=>(nm cl m).contains i)&&B.all λi=>(nm cl i).contains m
theorem sw.get{ops o:Array Tu}(h:sw ops o){m:Nat}{om:Tu}(hm:ops[m]?=some om):∃pH,o[m]?=some pH/\pH.op=om.op/\pH.dst=om.dst:=by
 induction h with
 |base=>exact⟨om,hm,rfl,rfl⟩
 |add _ i j ih=>
  obtain⟨q,h1,h2,h3⟩:=ih;rw[qZ];split
  ·exact⟨behind j q,by rw[h1];rfl,h2,h3⟩
  ·exact⟨q,h1,h2,h3⟩
section
variable {lv:Bool}{P:SI}{r:Option Nat}{ops o:Array Tu}{Hf:List Nat->List aa}{T0:List (Nat×AV)}{es ord:List Nat}{nt:Nat}{s:AS}{Φ:an->AS->Prop}
theorem PC{f:Nat->AV}(au:yR nt ops ord)(G:List Nat)(ay:∀i∈G,∀o,ops[i]?=some o->∀X',kT ops X'->i∉X'->(∀j∈cR o,j∈X')->OB lv P r ops Hf T0 es f i o X'){X l:List Nat}(hs:l9 ops X l):
  (∀i∈X,i<ops.size)->kT ops X->∀(E:Env)(V:View)(a:Act)(Q:Ex->Act->View->Prop),At E V ⟨TX ops T0 f X,Hf (done es X)⟩ a nt->
   (∀E' V' a' X' l',Kept E E' V V' a a'->At E' V' ⟨TX ops T0 f X',Hf (done es X')⟩ a' nt->(∀i∈X',i<ops.size)->kT ops X'->(∀i∈X',i∈X\/i∈G)->(∀i∈X,i∈X')->l9 ops X' l'->(∀i yk,l'=i::yk->i∉G)->dl lv P r ops Q l' a' V')->dl lv P r ops Q l a V:=by
 induction hs with
 |nil X h=>
  intro hX hc E V a Q ah hQ;exact hQ E V a X [] (Kept.refl E V a) ah hX hc (λi hi=> .inl hi) (λi hi=>hi) (.nil X h) (λi yk e=>by cases e)
 |cons o ho hn hd lP ih=>
  rename_i X i l;intro hX hc E V a Q ah hQ;by_cases hG:i∈G
  ·have hi:i<ops.size:=(SS.1 ho).1;simp only[dl,ho];have ou:∀k∈i::X,k<ops.size:=λk hk=>(SK.1 hk).elim (λe=>by rw[e];exact hi) (hX k);have bm:=hc.cons ho hd;have hw:Tg o (yielded ops a.tmps)=true:=(by unfold Tg;rw[au.B_ i o ho]);rw[if_pos hw];refine .inl ?_;have dp:∀d,o.dst=some d->d<a.tmps.size:=λd e=>(by rw[ah.size];exact au.dst i o d ho e);have lO:=ay i hG o ho X hc hn hd;have lS:∀{mH:List Nat},(∀j∈mH,j∈i::X\/j∈G)->∀j∈mH,j∈X\/j∈G:=λh j hj=>by
    rcases h j hj with h|h
    ·rcases SK.1 h with rfl|h
     ·exact .inr hG
     ·exact .inl h
    ·exact .inr h
   unfold OB at lO;by_cases dx:i∈es
   ·rw[if_pos dx]at lO;have aQ:=lO.step (r:=r) (bad:=λ_ _=>False);refine aQ E V a _ Q ah.br ah.tok dp (.inr (au.vS i o ho)) (λE' V' a' s' hk ce ht e=> ?_) λ_ _ _ _ _ _ _ _ _ h=>h.elim;subst e;rw[w_ ho rfl]at ht ce;exact ih ou bm E' V' a' Q ⟨ce,ht,hk.size.trans ah.size⟩ λbP aR cm mH yk aJ dh w1 w2 w3 w4=>hQ bP aR cm mH yk (hk.trans aJ) dh w1 w2 (lS w3) (λj hj=>w4 j (Tb _ hj))
   ·rw[if_neg dx]at lO;obtain⟨T,hT,hq⟩:=lO;refine hq E V a _ Q ah.br (λt av e=>ah.tok t av (hT t av e)) (.inr (au.vS i o ho)) λE' V' v hle b8 eW ce hv=> ?_;have ht:cj E' ((⟨TX ops T0 f X,Hf (done es X)⟩:AS).put o.dst (f i)).T (a.put o.dst v).tmps:=cj.gX (s:=⟨TX ops T0 f X,Hf (done es X)⟩) (ah.tok.mono hle) dp hv;rw[w_ ho rfl]at ht;refine ih ou bm E' V' (a.put o.dst v) Q ⟨by rw[IW dx];exact ce,ht,(dX _ _ _).trans ah.size⟩ λbP aR cm mH yk hk dh w1 w2 w3 w4=>
     hQ bP aR cm mH yk ⟨hle.trans hk.le,hk.size.trans (dX _ _ _),hk.defers.trans (put_defers _ _ _),hk.role.trans b8,hk.deaf.trans eW⟩ dh w1 w2 (lS w3) (λj hj=>w4 j (Tb _ hj))
  ·exact hQ E V a X (i::l) (Kept.refl E V a) ah hX hc (λi hi=> .inl hi) (λi hi=>hi) (.cons o ho hn hd lP) (λj yk e=>by cases e;exact hG)
theorem ada{ops:Array Tu}:∀{A L X:List Nat},kz ops X (A++L)=true->kz ops X A=true/\kz ops (A.reverse++X) L=true
 |[],L,X,h=>⟨rfl,h⟩
 |i::A,L,X,h=>by
  rw[Vh,kz,Ti]at h;obtain⟨h1,h2⟩:=ada h.2;refine⟨by rw[kz,Ti];exact⟨h.1,h1⟩,?_⟩;rw[Zg,SC];exact h2
theorem adb{ops:Array Tu}:∀{A X:List Nat},kz ops X A=true->kT ops X->kT ops (A.reverse++X)
 |[],X,h,hX=>hX
 |i::A,X,h,hX=>by
  have nL:=h;simp only[kz,Ti,TY,Uq,decide_eq_false_iff_not]at nL;obtain⟨⟨hi,h2⟩,h3⟩:=nL;cases ho:ops[i]?with
  |none=>rw[ho]at h2;cases h2
  |some o=>
   rw[ho]at h2;have hd:∀j∈cR o,j∈X:=λj hj=>(by have:=Tv.1 h2 j hj;simpa using this);have:=adb h3 (hX.cons ho hd);rw[Zg,SC];exact this
def Bl (lv:Bool)(P:SI)(ops:Array Tu)(m:Nat)(G8:List qT)(Φ:an->AS->Prop)(s1:AS):Prop:=ao (ops[m]?) λom=>GH lv P om s1 λs2=>∃nV:List Nat->List aa,s2.H=nV []/\fZ lv P nV ops G8 s2 (Φ .normal) ⟨0⟩
theorem pZ(ha:sw ops o)(m:Nat)(A B oZ nk:List Nat)(pl1 G8:List qT)(oQ:List Nat->List aa)(au:ri nt o [] (A++m::B)=true)(FF:aaY o A B m=true)(akY:qE (gF o (A++m::B) []) oZ [] A=pl1)(akZ:qE (gF o (A++m::B) []) nk (m::A.reverse) B=G8)(akl:nk.all B.contains=true)(h0:s.H=oQ [])
  (h:fZ lv P oQ ops pl1 s (Bl lv P ops m G8 Φ) ⟨0⟩):DG lv P r nt ops o s Φ:=λl E V a Q hs ah hQ=>by
 subst akY akZ;rw[<- ha.wp];rw[<- ha.O4]at h;have au:=ri.out au;obtain⟨wu,_,hlt⟩:=DZ au.top;obtain⟨tA,tB⟩:=ada au.top;rw[SO]at tB;have tB':kz o (m::A.reverse) B=true:=by
  rw[kz,Ti]at tB;exact tB.2
 unfold aaY at FF;dsimp only at FF;rw[Ti,Tv,Tv]at FF;obtain⟨cA,cB⟩:=FF;have R0:m∉A:=λhm=>(U7.1 wu).2.2 m hm m (by simp) rfl;have CF:m∉B:=(VS.1 (U7.1 wu).2.1).1;have QK:∀i∈B,i∉A:=λi hi hA=>(U7.1 wu).2.2 i hA i (by simp[hi]) rfl;have db:s=⟨TX o s.T (λ_=> .val undef) [],oQ (done oZ [])⟩:=by
  have:done oZ []=[]:=by simp[done]
  rw[this,<- h0];rfl
 have h':fZ lv P oQ o (qE (gF o (A++m::B) []) oZ [] A) ⟨TX o s.T (λ_=> .val undef) [],oQ (done oZ [])⟩ (Bl lv P ops m (qE (gF o (A++m::B) []) nk (m::A.reverse) B) Φ) ⟨0⟩:=by rw[<- db];exact h
 obtain⟨f,_,q2,q3⟩:=BN (r:=r) au A [] _ tA (λi hi=>by cases hi) h';have s8:At E V ⟨TX o s.T f [],oQ (done oZ [])⟩ a nt:=by
  have e:(⟨TX o s.T f [],oQ (done oZ [])⟩:AS)=s:=db.symm;rw[e];exact ah
 refine PC (Hf:=oQ) (es:=oZ) au A q2 hs (by simp) (λi hi=>by cases hi) E V a Q s8 λE1 V1 a1 X1 l1 iD v6 hX1 dn Ls _ dP F8=> ?_;have R3:m∉X1:=λhm=>by
  rcases Ls m hm with h|h
  ·cases h
  ·exact R0 h
 cases dP with
 |nil _ fD=>exact absurd (fD m (hlt m (by simp))) R3
 |@cons _ i l2 pH ho hn hd lP=>
  have hi:i<o.size:=(SS.1 ho).1;have hiA:i∉A:=F8 i l2 rfl;have lM:i=m:=by
   rcases SR.1 (au.full i hi)with h|h
   ·exact absurd h hiA
   ·rcases SK.1 h with h|h
    ·exact h
    ·have:=cB i h;have hr:m∈nm (gF o (A++m::B) []) i:=(by simpa using this);exact absurd (AK dn (zh hr) λo' bf k hk=>by rw[ho]at bf;cases bf;exact hd k hk) R3
  subst lM;have QL:∀j∈A,j∈X1:=λj hj=>by
   have:=cA j hj;have hr:j∈nm (gF o (A++i::B) []) i:=(by simpa using this);exact AK dn (zh hr) λo' bf k hk=>by rw[ho]at bf;cases bf;exact hd k hk
  have KW:∀j,j∈X1<->j∈A.reverse++[]:=λj=>by
   rw[SO,XH];exact⟨λh=>(Ls j h).elim (λh=>by cases h) id,QL j⟩
  have J5:At E1 V1 ⟨TX o s.T f (A.reverse++[]),oQ (done oZ (A.reverse++[]))⟩ a1 nt:=by
   refine⟨?_,λt x e=> ?_,v6.size⟩
   ·rw[<- EV KW];exact v6.br
   ·rw[<- Ev au KW]at e;exact v6.tok t x e
  simp only[dl,ho];have hw:Tg pH (yielded o a1.tmps)=true:=by unfold Tg;rw[au.B_ i pH ho]
  rw[if_pos hw];refine .inl ?_;have dp:∀d,pH.dst=some d->d<a1.tmps.size:=λd e=>by rw[v6.size];exact au.dst i pH d ho e
  unfold Bl at q3;obtain⟨om,hom,q3⟩:=q3.out;obtain⟨om2,g1,g2,g3⟩:=ha.get hom;rw[ho]at g1;cases g1;unfold GH at q3;obtain⟨c,x,aj2,ajR,q4⟩:∃c x,om.op=.call c/\c.callee=.value x/\ao ((⟨TX o s.T f (A.reverse++[]),oQ (done oZ (A.reverse++[]))⟩:AS).ev x) λsN=>ao (ff ⟨TX o s.T f (A.reverse++[]),oQ (done oZ (A.reverse++[]))⟩ c.args.toList) λaE=>A_ lv P sN (oQ (done oZ (A.reverse++[]))) aE (λb H'=>∃nV:List Nat->List aa,((⟨TX o s.T f (A.reverse++[]),H'⟩:AS).put om.dst b).H=nV []/\fZ lv P nV ops (qE (gF o (A++i::B) []) nk (i::A.reverse) B) ((⟨TX o s.T f (A.reverse++[]),H'⟩:AS).put om.dst b) (Φ .normal) ⟨0⟩) (λ_ _=>False) ⟨0⟩:=by
   split at q3
   ·rename_i c hc;split at q3
    ·rename_i x hx;exact⟨c,x,hc,hx,q3⟩
    ·exact q3.elim
   ·exact q3.elim
  obtain⟨sN,e1,q5⟩:=q4.out;obtain⟨aE,e2,q6⟩:=q5.out;have lr:=NC (lv:=lv) (P:=P) (r:=r) (o:=pH) (s:=⟨TX o s.T f (A.reverse++[]),oQ (done oZ (A.reverse++[]))⟩) (next:=λs2=>∃av H' nV,s2=(⟨TX o s.T f (A.reverse++[]),H'⟩:AS).put pH.dst av/\H'=nV []/\fZ lv P nV ops (qE (gF o (A++i::B) []) nk (i::A.reverse) B) s2 (Φ .normal) ⟨0⟩) (bad:=λ_ _=>False) (g2.trans aj2) ajR e1 e2 (i_.mono q6 (λav H'=>by
    rintro⟨nV,w1,w2⟩
    rw[<- g3]at w1 w2;refine⟨av,H',nV,rfl,?_,w2⟩;rw[<- w1];cases pH.dst<;>rfl) (λ_ _ h=>h))
  refine lr E1 V1 a1 _ Q J5.br J5.tok dp (.inr (au.vS i pH ho)) (λE2 V2 a2 s2 cG ce x_ e=> ?_) λ_ _ _ _ _ _ _ _ _ h=>h.elim;obtain⟨av,H',nV,rfl,hH',hb⟩:=e;obtain⟨f',Rx⟩:∃f':Nat->AV,f'=λj=>if j=i then av else f j:=⟨_,rfl⟩;have hff:∀j∈A.reverse++[],f j=f' j:=λj hj=>by
   have:j≠i:=λe=>R0 (by subst e;simpa using hj);rw[Rx];simp[this]
  have hp:(⟨TX o s.T f (A.reverse++[]),H'⟩:AS).put pH.dst av=⟨TX o s.T f' (i::A.reverse),nV (done nk (i::A.reverse))⟩:=by
   have pf:done nk (i::A.reverse)=[]:=by
    unfold done;rw[Yz];intro j hj;have:=Tv.1 akl j hj;have FQ:j∈B:=(by simpa using this);have h1:j≠i:=λe=>CF (e▸FQ);have h2:=QK j FQ;simp[h1,h2]
   rw[Bs hff,w_ ho (by rw[Rx];simp),pf,hH',SO]
  rw[hp]at hb ce x_;rw[<- ha.O4]at hb;have ajX:kT o (i::A.reverse):=by
   have h1:=adb tA (X:=[]) (λi hi=>by cases hi);rw[SO]at h1;exact h1.cons ho λj hj=>by
    have:=Ls j (hd j hj);simpa using this
  obtain⟨f2,p1,p2,p3⟩:=BN (r:=r) au B (i::A.reverse) f' tB' ajX hb;have R5:∀j,j∈i::X1<->j∈i::A.reverse:=λj=>by
   have:=KW j;rw[SO]at this;rw[SK,SK,this]
  have uC:At E2 V2 ⟨TX o s.T f2 (i::X1),nV (done nk (i::X1))⟩ a2 nt:=by
   refine⟨?_,λt x e=> ?_,cG.size.trans J5.size⟩
   ·rw[EV R5];exact ce
   ·rw[Ev au R5,Bs p1]at e;exact x_ t x e
  refine PC (Hf:=nV) (es:=nk) au B p2 lP (λk hk=>(SK.1 hk).elim (λe=>by rw[e];exact hi) (hX1 k)) (dn.cons ho hd) E2 V2 a2 Q uC λE3 V3 a3 X3 l3 wn qe hX3 dE atE R_ py alt=> ?_;cases py with
  |cons o3 K5 KZ zO atD=>
   rename_i j l4;exfalso;have hj:j<o.size:=(SS.1 K5).1;have FQ:=alt j l4 rfl;rcases SR.1 (au.full j hj)with h|h
   ·exact KZ (R_ j (Tb _ (QL j h)))
   ·rcases SK.1 h with rfl|h
    ·exact KZ (R_ j (TC ..))
    ·exact FQ h
  |nil _ fD=>
   have R6:∀j,j∈X3<->j∈B.reverse++i::A.reverse:=λj=>by
    rw[SR,SK,XH,XH];constructor
    ·intro h;have:=SR.1 (au.full j (hX3 j h));rw[SK]at this;rcases this with h|h|h
     ·exact .inr (.inr h)
     ·exact .inr (.inl h)
     ·exact .inl h
    ·intro h;refine fD j (hlt j ?_);rw[SR,SK];rcases h with h|h|h
     ·exact .inr (.inr h)
     ·exact .inr (.inl h)
     ·exact .inl h
   refine hQ .normal .normal E3 V3 a3 _ ((iD.trans cG).trans wn) ⟨?_,λt x e=> ?_,qe.size⟩ trivial p3
   ·rw[<- EV R6];exact qe.br
   ·rw[<- Ev au R6]at e;exact qe.tok t x e
end
theorem anf:type_of% @GH.eq_1:=by intros;rw[GH.eq_1]
theorem ang:type_of% @Bl.eq_1:=by intros;rw[Bl.eq_1]
attribute [seval] anf ang
open Go.Proofs Go.Gg.Tk
theorem abI{x:aj}{q:Nat}(hq:q<x.pieces.length):yx x [(q:Int)]=true:=by
 unfold yx;simp;omega
theorem agM{lv:Bool}{P:SI}{r:Option Nat}{nt:Nat}{ops:Array Tu}{s:AS}{Φ:an->AS->Prop}{α:Type}{ok:α->Prop}(st:α->AS)(rest:∀x,ok x->Φ .normal (st x))(h:(∀x,ok x->Φ .normal (st x))->DG lv P r nt ops ops s Φ):DG lv P r nt ops ops s Φ:=h rest
theorem qJ{T V:List (Nat×AV)}{H H':List aa}(hH:H=H')(hv:∀p∈V,∃b,look T p.1=some b/\Wk b p.2):(⟨T,H⟩:AS).Sub ⟨V,H'⟩:=
 ⟨λt a e=>hv (t,a) (oG e),hH⟩
def opsOf:T4->Array Tu
 |.region _ o _=>o
 |.seq a _=>opsOf a
 |_=>#[]
structure Bk (H:List aa)(M:List AV->List AV->List aa)(L:List aa)(B:List AV->List AV->List aa)(N:Nat):Prop where
 f:∀u v,B u v=H++(M u v++L)
 l:∀u v,(B u v).length=N
section
variable {H L:List aa}{M B:List AV->List AV->List aa}{N:Nat}
theorem Bk.n(h:Bk H M L B N)(u v:List AV)(L':List aa)(j:Nat):(B u v++L')[N+j]?=L'[j]?:=by rw[<- h.l u v,aX]
theorem Bk.s(h:Bk H M L B N)(u v:List AV)(L':List aa)(j:Nat)(y:aa):(B u v++L').set (N+j) y=B u v++L'.set j y:=by rw[<- h.l u v,dU]
theorem Bk.n0(h:Bk H M L B N)(u v:List AV)(L':List aa):(B u v++L')[N]?=L'[0]?:=h.n u v L' 0
theorem Bk.s0(h:Bk H M L B N)(u v:List AV)(L':List aa)(y:aa):(B u v++L').set N y=B u v++L'.set 0 y:=h.s u v L' 0 y
theorem Bk.n1(h:Bk H M L B N)(u v:List AV)(L':List aa):(B u v++L')[N+1]?=L'[1]?:=h.n u v L' 1
theorem Bk.s1(h:Bk H M L B N)(u v:List AV)(L':List aa)(y:aa):(B u v++L').set (N+1) y=B u v++L'.set 1 y:=h.s u v L' 1 y
theorem Bk.g(h:Bk H M L B N){j:Nat}{u v:List AV}(hl:j<(M u v).length){a y:aa}{u' v':List AV}(ha:(M u v)[j]?=some a)(hy:(M u v).set j y=M u' v')(L':List aa):(B u v++L')[H.length+j]?=some a/\(B u v++L').set (H.length+j) y=B u' v'++L':=by
 rw[h.f,h.f,SC,SC,SC,SC,aX,dU,SW hl,US _ _ hl,hy];exact⟨ha,rfl⟩
theorem Bk.gu(h:Bk H M L B N)(j:Nat)(hl:∀u v,j<(M u v).length)(ha:∀u v,(M u v)[j]?=some (.cells u 76))(hy:∀u v w,(M u v).set j (.cells w 76)=M w v):(∀u v L',(B u v++L')[H.length+j]?=some (.cells u 76))/\(∀u v w L',(B u v++L').set (H.length+j) (.cells w 76)=B w v++L')/\(∀u v,(B u v)[H.length+j]?=some (.cells u 76))/\∀u v w,(B u v).set (H.length+j) (.cells w 76)=B w v:=by
 have k1:=λu v w L'=>h.g (hl u v) (ha u v) (hy u v w) L';have k2:=λu v w=>k1 u v w [];simp only[SO]at k2;exact⟨λu v L'=>(k1 u v u L').1,λu v w L'=>(k1 u v w L').2,λu v=>(k2 u v u).1,λu v w=>(k2 u v w).2⟩
theorem Bk.gv(h:Bk H M L B N)(j:Nat)(hl:∀u v,j<(M u v).length)(ha:∀u v,(M u v)[j]?=some (.cells v 88))(hy:∀u v w,(M u v).set j (.cells w 88)=M u w):(∀u v L',(B u v++L')[H.length+j]?=some (.cells v 88))/\(∀u v w L',(B u v++L').set (H.length+j) (.cells w 88)=B u w++L')/\(∀u v,(B u v)[H.length+j]?=some (.cells v 88))/\∀u v w,(B u v).set (H.length+j) (.cells w 88)=B u w:=by
 have k1:=λu v w L'=>h.g (hl u v) (ha u v) (hy u v w) L';have k2:=λu v w=>k1 u v w [];simp only[SO]at k2;exact⟨λu v L'=>(k1 u v v L').1,λu v w L'=>(k1 u v w L').2,λu v=>(k2 u v v).1,λu v w=>(k2 u v w).2⟩
theorem p7{x:aj}{p q:Nat}{k kp:AV->List aa->Prop}(i j:Nat)(M:List AV->List AV->List aa)(u0 v0:List AV)(hx:x.Ok)(eB:x.am=p)(iE:yx x [(q:Int)]=true)(hm:H[0]?=some .main)(h1:(M u0 v0)[i]?=some (.cells [.sl 1 [iv q] .exact] 22))(h2:(M u0 v0)[j]?=some (.cells x.l 26))(hn:∀u v,(M u v).length=(M u0 v0).length)(hk:∀D L mp N B,fM x 1 D->bJ D->(D.l mp).length=28->(∀a∈D.l mp,a.leaf=true)->Bk H M L B N->k (.aL [x.av,.agg (D.l mp),iv (fe D)]) (B u0 v0)):bh true SA 51 (H++M u0 v0) [x.av,iv 1,.fn (.func 80) [] [.op (H.length+i) 0,.op (H.length+j) 0]] k kp:=by
 refine zt (x:=x) (b:=yx x [(q:Int)]) hx eB (fO hm) (λL k kp hk=>cx (Jj (x:=x) (ns:=[(q:Int)]) (e:=.exact) (il:=H.length+i) (ir:=H.length+j) hx (by simp) ?_ ?_ hk)) (λh=>by rw[iE]at h;cases h) λ_ js D L mp iC jG cg tr hg=> ?_
 ·rw[SC,aX];exact fO h1
 ·rw[SC,aX];exact fO h2
 ·have:=hk D L mp (H.length+(M u0 v0).length+L.length) (λu v=>H++(M u v++L)) ⟨p,js,eB,iC,jG,cg⟩ cg (Kn.len cg mp) (u_ D mp) ⟨λ_ _=>rfl,λu v=>by rw[SN,SN,hn];omega⟩;rw[SC];exact this
end
theorem anw{H:List aa}{x:aj}{q nt:Nat}{ops:Array Tu}{c:T4}{Ψ:an->AS->Prop}(ho:nt=27/\ops=opsOf (cs (am_.body.getD .skip))\/nt=29/\ops=opsOf (cs (ZG.body.getD .skip)))(hx:x.Ok)(hq:q<x.pieces.length)(hm:H[0]?=some .main)(rest:∀y:Nat×Nat×Kn×List aa,fM x 1 y.2.2.1/\bJ y.2.2.1/\(∃L,y.2.2.2=H++L)/\y.2.2.2[H.length]?=some (.cells x.l 26)/\y.2.2.2[y.1]?=some (.cells (y.2.2.1.l y.2.1) 88)->an.then (λs'=>aP true SA none nt c s' Ψ) Ψ .normal ⟨[(7,.op y.1 0),(8,iv (fe y.2.2.1)),(1,iv q),(2,.op H.length 0)],y.2.2.2⟩):DG true SA none nt ops ops ⟨[(5,iv 0),(4,.sl 0 [] .exact),(2,.op H.length 0),(0,.agg x.l),(1,iv q)],H++[.cells x.l 26]⟩ (an.then (λs'=>aP true SA none nt c s' Ψ) Ψ):=by
 rcases ho with⟨rfl,rfl⟩|⟨rfl,rfl⟩
 all_goals
  dsimp only[ZG,am_,S7,cs,opsOf];have hp:=hx.am;have nH:=hx.eD;have iE:=abI hq;obtain⟨p,eB⟩:∃p:Nat,x.am=p:=⟨x.am.toNat,by omega⟩;have bO:x.l=[iv x.first,iv x.hours,iv x.am,dS x.seen,aW x.pieces,aW x.aB]:=rfl;have gn:∀(L:List aa)(j:Nat),(H++L)[H.length+j]?=L[j]?:=λL j=>aX H L j;have Ah:∀(L:List aa)(j:Nat)(y:aa),(H++L).set (H.length+j) y=H++L.set j y:=λL j y=>dU H L j y;have aT:∀(L:List aa),(H++L)[H.length]?=L[0]?:=λL=>aX H L 0;have bt:x.l.length=6:=rfl;have nq:(1<=2^24)=True:=eq_true (by decide);have ej:Ui 6 x.l=x.l:=rfl;obtain⟨u0,hu⟩:∃u0:List AV,u0=[.val (.int .i64 0),.val (.int .i64 0),.val (.int .i64 0),.sl 0 [] .exact,.sl 0 [] .exact,.sl 0 [] .exact]:=⟨_,rfl⟩;obtain⟨v0,hv⟩:∃v0:List AV,v0=[.val (.bool false),.val (.map none),.val (.int .u16 0),.val (.int .u16 0),.val (.int .u16 0),.val (.int .u16 0),.val (.int .u16 0),.val (.int .u16 0),.val (.int .u16 0),.val (.int .u16 0),.val (.int .u16 0),.val (.int .u16 0),.val (.int .u16 0),.val (.int .u16 0),.val (.int .u16 0),.val (.int .u16 0),.val (.int .u16 0),.val (.int .i64 0),.val (.int .i64 0),.val (.int .i64 0),.val (.int .i64 0),.val (.int .i64 0),.val (.int .i64 0),.val (.int .i64 0),.val (.int .i64 0),.val (.int .i64 0),.val (.int .i64 0),.val (.int .i64 0)]:=⟨_,rfl⟩;have dF:=hu.symm;have cW:=hv.symm;have im:u0.length=6:=by rw[hu];rfl
  have iF:v0.length=28:=by rw[hv];rfl
  have jj:T7 6 u0=[]:=by rw[hu];rfl
  have fX:T7 28 v0=[]:=by rw[hv];rfl
  refine rh 5 10 rfl ?_ ?_
  ·refine rh 5 11 rfl ?_ ?_
   ·refine rh 4 10 rfl ?_ ?_
    ·refine rh 4 11 rfl ?_ ?_
     ·refine rh 10 11 rfl ?_ ?_
      ·refine pZ (.add (.add (.add (.add (.add .base 5 10) 5 11) 4 10) 4 11) 10 11) 5 [0,1,2,3,11,10,4] [6,7,8,9,12,13,14] [11,10,4] [12,13] [⟨0,false,[],[([11],[11]),([11,10],[11,10]),([11,10,4],[11,10,4])]⟩,⟨1,false,[],[([11],[11]),([11,10],[11,10])]⟩,⟨2,false,[],[([11],[11]),([11,10],[11,10])]⟩,⟨3,false,[],[([11],[11]),([11,10],[11,10])]⟩,⟨11,true,[11],[]⟩,⟨10,true,[11,10],[]⟩,⟨4,true,[11,10,4],[]⟩] [⟨6,false,[],[]⟩,⟨7,false,[],[]⟩,⟨8,false,[],[([12],[12])]⟩,⟨9,false,[],[([12],[12]),([12,13],[12,13])]⟩,⟨12,true,[12],[]⟩,⟨13,true,[12,13],[]⟩,⟨14,false,[12,13],[]⟩] (λD=>bif isDone 4 D then H++[.cells x.l 26,.cells v0 88,.cells u0 76,.cells x.l 26,.cells [.sl 1 [iv q] .exact] 22]else bif isDone 10 D then H++[.cells x.l 26,.cells v0 88,.cells u0 76]else bif isDone 11 D then H++[.cells x.l 26,.cells v0 88]else H++[.cells x.l 26]) (by kernel_rfl) (by kernel_rfl) (by kernel_rfl) (by kernel_rfl) (by kernel_rfl) (by first|rfl|simp only[seval]) ?_;(try simp only[seval,z1,ej,nq,and_self,aT,dF,cW,bt,SN]);refine j8 _ _ (cx (oe (x:=x) (ns:=[(q:Int)]) ⟨rfl,rfl⟩)) ?_;(try simp only[seval,aT,dF,cW,bt,SN,SC]);refine aI ((p7 4 3 (λu v=>[.cells x.l 26,.cells v 88,.cells u 76,.cells x.l 26,.cells [.sl 1 [iv q] .exact] 22]) u0 v0 hx eB iE hm rfl rfl (λ_ _=>rfl) λD L mp N Bf eS cg bS dZ hB=> ?_));obtain⟨jA,jN,jB,jO⟩:=hB.gu 2 (λ_ _=>by simp) (λ_ _=>rfl) λ_ _ _=>rfl;obtain⟨jC,jP,jD,jQ⟩:=hB.gv 1 (λ_ _=>by simp) (λ_ _=>rfl) λ_ _ _=>rfl;refine⟨λDD=>bif isDone 13 DD then(Bf x.l (D.l mp))else bif isDone 12 DD then(Bf x.l v0)else Bf u0 v0,by first|rfl|simp only[seval],?_⟩;try simp only[seval,dF,cW,hB.l,hB.n0,hB.s0,hB.n1,hB.s1,bt,bS,im,iF,jj,fX,aj.av,jA,jN,jB,jO,jC,jP,jD,jQ]
       first|refine⟨kR x,dZ,?_⟩|trace_state
       have hR:=rest (H.length+1,mp,D,(Bf x.l (D.l mp))) ⟨eS,cg,⟨_,by rw[hB.f]⟩,by rw[hB.f];exact aX H _ 0,by simp only[seval,dF,cW,hB.l,hB.n0,hB.s0,hB.n1,hB.s1,bt,bS,im,iF,jj,fX,aj.av,jA,jN,jB,jO,jC,jP,jD,jQ]⟩;exact jv (qJ rfl (by simp only[seval];simp[bu,Wk.refl])) hR
      ·refine pZ (.add (.add (.add (.add (.add .base 5 10) 5 11) 4 10) 4 11) 11 10) 5 [0,1,2,3,10,11,4] [6,7,8,9,12,13,14] [10,11,4] [12,13] [⟨0,false,[],[([10],[10]),([10,11],[10,11]),([10,11,4],[10,11,4])]⟩,⟨1,false,[],[([10],[10]),([10,11],[10,11])]⟩,⟨2,false,[],[([10],[10]),([10,11],[10,11])]⟩,⟨3,false,[],[([10],[10]),([10,11],[10,11])]⟩,⟨10,true,[10],[]⟩,⟨11,true,[10,11],[]⟩,⟨4,true,[10,11,4],[]⟩] [⟨6,false,[],[]⟩,⟨7,false,[],[]⟩,⟨8,false,[],[([12],[12])]⟩,⟨9,false,[],[([12],[12]),([12,13],[12,13])]⟩,⟨12,true,[12],[]⟩,⟨13,true,[12,13],[]⟩,⟨14,false,[12,13],[]⟩] (λD=>bif isDone 4 D then H++[.cells x.l 26,.cells u0 76,.cells v0 88,.cells x.l 26,.cells [.sl 1 [iv q] .exact] 22]else bif isDone 11 D then H++[.cells x.l 26,.cells u0 76,.cells v0 88]else bif isDone 10 D then H++[.cells x.l 26,.cells u0 76]else H++[.cells x.l 26]) (by kernel_rfl) (by kernel_rfl) (by kernel_rfl) (by kernel_rfl) (by kernel_rfl) (by first|rfl|simp only[seval]) ?_;(try simp only[seval,z1,ej,nq,and_self,aT,dF,cW,bt,SN]);refine j8 _ _ (cx (oe (x:=x) (ns:=[(q:Int)]) ⟨rfl,rfl⟩)) ?_;(try simp only[seval,aT,dF,cW,bt,SN,SC]);refine aI ((p7 4 3 (λu v=>[.cells x.l 26,.cells u 76,.cells v 88,.cells x.l 26,.cells [.sl 1 [iv q] .exact] 22]) u0 v0 hx eB iE hm rfl rfl (λ_ _=>rfl) λD L mp N Bf eS cg bS dZ hB=> ?_));obtain⟨jA,jN,jB,jO⟩:=hB.gu 1 (λ_ _=>by simp) (λ_ _=>rfl) λ_ _ _=>rfl;obtain⟨jC,jP,jD,jQ⟩:=hB.gv 2 (λ_ _=>by simp) (λ_ _=>rfl) λ_ _ _=>rfl;refine⟨λDD=>bif isDone 13 DD then(Bf x.l (D.l mp))else bif isDone 12 DD then(Bf x.l v0)else Bf u0 v0,by first|rfl|simp only[seval],?_⟩;try simp only[seval,dF,cW,hB.l,hB.n0,hB.s0,hB.n1,hB.s1,bt,bS,im,iF,jj,fX,aj.av,jA,jN,jB,jO,jC,jP,jD,jQ]
       first|refine⟨kR x,dZ,?_⟩|trace_state
       have hR:=rest (H.length+2,mp,D,(Bf x.l (D.l mp))) ⟨eS,cg,⟨_,by rw[hB.f]⟩,by rw[hB.f];exact aX H _ 0,by simp only[seval,dF,cW,hB.l,hB.n0,hB.s0,hB.n1,hB.s1,bt,bS,im,iF,jj,fX,aj.av,jA,jN,jB,jO,jC,jP,jD,jQ]⟩;exact jv (qJ rfl (by simp only[seval];simp[bu,Wk.refl])) hR
     ·refine pZ (.add (.add (.add (.add .base 5 10) 5 11) 4 10) 11 4) 5 [0,1,2,3,10,4,11] [6,7,8,9,12,13,14] [10,4,11] [12,13] [⟨0,false,[],[([10],[10]),([10,4],[10,4]),([10,4,11],[10,4,11])]⟩,⟨1,false,[],[([10],[10])]⟩,⟨2,false,[],[([10],[10])]⟩,⟨3,false,[],[([10],[10])]⟩,⟨10,true,[10],[]⟩,⟨4,true,[10,4],[]⟩,⟨11,true,[10,4,11],[]⟩] [⟨6,false,[],[]⟩,⟨7,false,[],[]⟩,⟨8,false,[],[([12],[12])]⟩,⟨9,false,[],[([12],[12]),([12,13],[12,13])]⟩,⟨12,true,[12],[]⟩,⟨13,true,[12,13],[]⟩,⟨14,false,[12,13],[]⟩] (λD=>bif isDone 11 D then H++[.cells x.l 26,.cells u0 76,.cells x.l 26,.cells [.sl 1 [iv q] .exact] 22,.cells v0 88]else bif isDone 4 D then H++[.cells x.l 26,.cells u0 76,.cells x.l 26,.cells [.sl 1 [iv q] .exact] 22]else bif isDone 10 D then H++[.cells x.l 26,.cells u0 76]else H++[.cells x.l 26]) (by kernel_rfl) (by kernel_rfl) (by kernel_rfl) (by kernel_rfl) (by kernel_rfl) (by first|rfl|simp only[seval]) ?_;(try simp only[seval,z1,ej,nq,and_self,aT,dF,cW,bt,SN]);refine j8 _ _ (cx (oe (x:=x) (ns:=[(q:Int)]) ⟨rfl,rfl⟩)) ?_;(try simp only[seval,aT,dF,cW,bt,SN,SC]);refine aI ((p7 3 2 (λu v=>[.cells x.l 26,.cells u 76,.cells x.l 26,.cells [.sl 1 [iv q] .exact] 22,.cells v 88]) u0 v0 hx eB iE hm rfl rfl (λ_ _=>rfl) λD L mp N Bf eS cg bS dZ hB=> ?_));obtain⟨jA,jN,jB,jO⟩:=hB.gu 1 (λ_ _=>by simp) (λ_ _=>rfl) λ_ _ _=>rfl;obtain⟨jC,jP,jD,jQ⟩:=hB.gv 4 (λ_ _=>by simp) (λ_ _=>rfl) λ_ _ _=>rfl;refine⟨λDD=>bif isDone 13 DD then(Bf x.l (D.l mp))else bif isDone 12 DD then(Bf x.l v0)else Bf u0 v0,by first|rfl|simp only[seval],?_⟩;try simp only[seval,dF,cW,hB.l,hB.n0,hB.s0,hB.n1,hB.s1,bt,bS,im,iF,jj,fX,aj.av,jA,jN,jB,jO,jC,jP,jD,jQ]
      first|refine⟨kR x,dZ,?_⟩|trace_state
      have hR:=rest (H.length+4,mp,D,(Bf x.l (D.l mp))) ⟨eS,cg,⟨_,by rw[hB.f]⟩,by rw[hB.f];exact aX H _ 0,by simp only[seval,dF,cW,hB.l,hB.n0,hB.s0,hB.n1,hB.s1,bt,bS,im,iF,jj,fX,aj.av,jA,jN,jB,jO,jC,jP,jD,jQ]⟩;exact jv (qJ rfl (by simp only[seval];simp[bu,Wk.refl])) hR
    ·refine rh 4 11 rfl ?_ ?_
     ·refine pZ (.add (.add (.add (.add .base 5 10) 5 11) 10 4) 4 11) 5 [0,1,2,3,11,4,10] [6,7,8,9,12,13,14] [11,4,10] [12,13] [⟨0,false,[],[([11],[11]),([11,4],[11,4]),([11,4,10],[11,4,10])]⟩,⟨1,false,[],[([11],[11])]⟩,⟨2,false,[],[([11],[11])]⟩,⟨3,false,[],[([11],[11])]⟩,⟨11,true,[11],[]⟩,⟨4,true,[11,4],[]⟩,⟨10,true,[11,4,10],[]⟩] [⟨6,false,[],[]⟩,⟨7,false,[],[]⟩,⟨8,false,[],[([12],[12])]⟩,⟨9,false,[],[([12],[12]),([12,13],[12,13])]⟩,⟨12,true,[12],[]⟩,⟨13,true,[12,13],[]⟩,⟨14,false,[12,13],[]⟩] (λD=>bif isDone 10 D then H++[.cells x.l 26,.cells v0 88,.cells x.l 26,.cells [.sl 1 [iv q] .exact] 22,.cells u0 76]else bif isDone 4 D then H++[.cells x.l 26,.cells v0 88,.cells x.l 26,.cells [.sl 1 [iv q] .exact] 22]else bif isDone 11 D then H++[.cells x.l 26,.cells v0 88]else H++[.cells x.l 26]) (by kernel_rfl) (by kernel_rfl) (by kernel_rfl) (by kernel_rfl) (by kernel_rfl) (by first|rfl|simp only[seval]) ?_;(try simp only[seval,z1,ej,nq,and_self,aT,dF,cW,bt,SN]);refine j8 _ _ (cx (oe (x:=x) (ns:=[(q:Int)]) ⟨rfl,rfl⟩)) ?_;(try simp only[seval,aT,dF,cW,bt,SN,SC]);refine aI ((p7 3 2 (λu v=>[.cells x.l 26,.cells v 88,.cells x.l 26,.cells [.sl 1 [iv q] .exact] 22,.cells u 76]) u0 v0 hx eB iE hm rfl rfl (λ_ _=>rfl) λD L mp N Bf eS cg bS dZ hB=> ?_));obtain⟨jA,jN,jB,jO⟩:=hB.gu 4 (λ_ _=>by simp) (λ_ _=>rfl) λ_ _ _=>rfl;obtain⟨jC,jP,jD,jQ⟩:=hB.gv 1 (λ_ _=>by simp) (λ_ _=>rfl) λ_ _ _=>rfl;refine⟨λDD=>bif isDone 13 DD then(Bf x.l (D.l mp))else bif isDone 12 DD then(Bf x.l v0)else Bf u0 v0,by first|rfl|simp only[seval],?_⟩;try simp only[seval,dF,cW,hB.l,hB.n0,hB.s0,hB.n1,hB.s1,bt,bS,im,iF,jj,fX,aj.av,jA,jN,jB,jO,jC,jP,jD,jQ]
      first|refine⟨kR x,dZ,?_⟩|trace_state
      have hR:=rest (H.length+1,mp,D,(Bf x.l (D.l mp))) ⟨eS,cg,⟨_,by rw[hB.f]⟩,by rw[hB.f];exact aX H _ 0,by simp only[seval,dF,cW,hB.l,hB.n0,hB.s0,hB.n1,hB.s1,bt,bS,im,iF,jj,fX,aj.av,jA,jN,jB,jO,jC,jP,jD,jQ]⟩;exact jv (qJ rfl (by simp only[seval];simp[bu,Wk.refl])) hR
     ·refine rh 10 11 rfl ?_ ?_
      ·refine pZ (.add (.add (.add (.add (.add .base 5 10) 5 11) 10 4) 11 4) 10 11) 5 [0,1,2,3,4,11,10] [6,7,8,9,12,13,14] [4,11,10] [12,13] [⟨0,false,[],[([4],[4]),([4,11],[4,11]),([4,11,10],[4,11,10])]⟩,⟨1,false,[],[]⟩,⟨2,false,[],[]⟩,⟨3,false,[],[]⟩,⟨4,true,[4],[]⟩,⟨11,true,[4,11],[]⟩,⟨10,true,[4,11,10],[]⟩] [⟨6,false,[],[]⟩,⟨7,false,[],[]⟩,⟨8,false,[],[([12],[12])]⟩,⟨9,false,[],[([12],[12]),([12,13],[12,13])]⟩,⟨12,true,[12],[]⟩,⟨13,true,[12,13],[]⟩,⟨14,false,[12,13],[]⟩] (λD=>bif isDone 10 D then H++[.cells x.l 26,.cells x.l 26,.cells [.sl 1 [iv q] .exact] 22,.cells v0 88,.cells u0 76]else bif isDone 11 D then H++[.cells x.l 26,.cells x.l 26,.cells [.sl 1 [iv q] .exact] 22,.cells v0 88]else bif isDone 4 D then H++[.cells x.l 26,.cells x.l 26,.cells [.sl 1 [iv q] .exact] 22]else H++[.cells x.l 26]) (by kernel_rfl) (by kernel_rfl) (by kernel_rfl) (by kernel_rfl) (by kernel_rfl) (by first|rfl|simp only[seval]) ?_;(try simp only[seval,z1,ej,nq,and_self,aT,dF,cW,bt,SN]);refine j8 _ _ (cx (oe (x:=x) (ns:=[(q:Int)]) ⟨rfl,rfl⟩)) ?_;(try simp only[seval,aT,dF,cW,bt,SN,SC]);refine aI ((p7 2 1 (λu v=>[.cells x.l 26,.cells x.l 26,.cells [.sl 1 [iv q] .exact] 22,.cells v 88,.cells u 76]) u0 v0 hx eB iE hm rfl rfl (λ_ _=>rfl) λD L mp N Bf eS cg bS dZ hB=> ?_));obtain⟨jA,jN,jB,jO⟩:=hB.gu 4 (λ_ _=>by simp) (λ_ _=>rfl) λ_ _ _=>rfl;obtain⟨jC,jP,jD,jQ⟩:=hB.gv 3 (λ_ _=>by simp) (λ_ _=>rfl) λ_ _ _=>rfl;refine⟨λDD=>bif isDone 13 DD then(Bf x.l (D.l mp))else bif isDone 12 DD then(Bf x.l v0)else Bf u0 v0,by first|rfl|simp only[seval],?_⟩;try simp only[seval,dF,cW,hB.l,hB.n0,hB.s0,hB.n1,hB.s1,bt,bS,im,iF,jj,fX,aj.av,jA,jN,jB,jO,jC,jP,jD,jQ]
       first|refine⟨kR x,dZ,?_⟩|trace_state
       have hR:=rest (H.length+3,mp,D,(Bf x.l (D.l mp))) ⟨eS,cg,⟨_,by rw[hB.f]⟩,by rw[hB.f];exact aX H _ 0,by simp only[seval,dF,cW,hB.l,hB.n0,hB.s0,hB.n1,hB.s1,bt,bS,im,iF,jj,fX,aj.av,jA,jN,jB,jO,jC,jP,jD,jQ]⟩;exact jv (qJ rfl (by simp only[seval];simp[bu,Wk.refl])) hR
      ·refine pZ (.add (.add (.add (.add (.add .base 5 10) 5 11) 10 4) 11 4) 11 10) 5 [0,1,2,3,4,10,11] [6,7,8,9,12,13,14] [4,10,11] [12,13] [⟨0,false,[],[([4],[4]),([4,10],[4,10]),([4,10,11],[4,10,11])]⟩,⟨1,false,[],[]⟩,⟨2,false,[],[]⟩,⟨3,false,[],[]⟩,⟨4,true,[4],[]⟩,⟨10,true,[4,10],[]⟩,⟨11,true,[4,10,11],[]⟩] [⟨6,false,[],[]⟩,⟨7,false,[],[]⟩,⟨8,false,[],[([12],[12])]⟩,⟨9,false,[],[([12],[12]),([12,13],[12,13])]⟩,⟨12,true,[12],[]⟩,⟨13,true,[12,13],[]⟩,⟨14,false,[12,13],[]⟩] (λD=>bif isDone 11 D then H++[.cells x.l 26,.cells x.l 26,.cells [.sl 1 [iv q] .exact] 22,.cells u0 76,.cells v0 88]else bif isDone 10 D then H++[.cells x.l 26,.cells x.l 26,.cells [.sl 1 [iv q] .exact] 22,.cells u0 76]else bif isDone 4 D then H++[.cells x.l 26,.cells x.l 26,.cells [.sl 1 [iv q] .exact] 22]else H++[.cells x.l 26]) (by kernel_rfl) (by kernel_rfl) (by kernel_rfl) (by kernel_rfl) (by kernel_rfl) (by first|rfl|simp only[seval]) ?_;(try simp only[seval,z1,ej,nq,and_self,aT,dF,cW,bt,SN]);refine j8 _ _ (cx (oe (x:=x) (ns:=[(q:Int)]) ⟨rfl,rfl⟩)) ?_;(try simp only[seval,aT,dF,cW,bt,SN,SC]);refine aI ((p7 2 1 (λu v=>[.cells x.l 26,.cells x.l 26,.cells [.sl 1 [iv q] .exact] 22,.cells u 76,.cells v 88]) u0 v0 hx eB iE hm rfl rfl (λ_ _=>rfl) λD L mp N Bf eS cg bS dZ hB=> ?_));obtain⟨jA,jN,jB,jO⟩:=hB.gu 3 (λ_ _=>by simp) (λ_ _=>rfl) λ_ _ _=>rfl;obtain⟨jC,jP,jD,jQ⟩:=hB.gv 4 (λ_ _=>by simp) (λ_ _=>rfl) λ_ _ _=>rfl;refine⟨λDD=>bif isDone 13 DD then(Bf x.l (D.l mp))else bif isDone 12 DD then(Bf x.l v0)else Bf u0 v0,by first|rfl|simp only[seval],?_⟩;try simp only[seval,dF,cW,hB.l,hB.n0,hB.s0,hB.n1,hB.s1,bt,bS,im,iF,jj,fX,aj.av,jA,jN,jB,jO,jC,jP,jD,jQ]
       first|refine⟨kR x,dZ,?_⟩|trace_state
       have hR:=rest (H.length+4,mp,D,(Bf x.l (D.l mp))) ⟨eS,cg,⟨_,by rw[hB.f]⟩,by rw[hB.f];exact aX H _ 0,by simp only[seval,dF,cW,hB.l,hB.n0,hB.s0,hB.n1,hB.s1,bt,bS,im,iF,jj,fX,aj.av,jA,jN,jB,jO,jC,jP,jD,jQ]⟩;exact jv (qJ rfl (by simp only[seval];simp[bu,Wk.refl])) hR
   ·refine rh 4 10 rfl ?_ ?_
    ·refine pZ (.add (.add (.add .base 5 10) 11 5) 4 10) 5 [0,1,2,3,10,4] [6,7,8,9,11,12,13,14] [10,4] [11,12,13] [⟨0,false,[],[([10],[10]),([10,4],[10,4])]⟩,⟨1,false,[],[([10],[10])]⟩,⟨2,false,[],[([10],[10])]⟩,⟨3,false,[],[([10],[10])]⟩,⟨10,true,[10],[]⟩,⟨4,true,[10,4],[]⟩] [⟨6,false,[],[([11],[11])]⟩,⟨7,false,[],[([11],[11])]⟩,⟨8,false,[],[([11],[11]),([11,12],[11,12])]⟩,⟨9,false,[],[([11],[11]),([11,12],[11,12]),([11,12,13],[11,12,13])]⟩,⟨11,true,[11],[]⟩,⟨12,true,[11,12],[]⟩,⟨13,true,[11,12,13],[]⟩,⟨14,false,[11,12,13],[]⟩] (λD=>bif isDone 4 D then H++[.cells x.l 26,.cells u0 76,.cells x.l 26,.cells [.sl 1 [iv q] .exact] 22]else bif isDone 10 D then H++[.cells x.l 26,.cells u0 76]else H++[.cells x.l 26]) (by kernel_rfl) (by kernel_rfl) (by kernel_rfl) (by kernel_rfl) (by kernel_rfl) (by first|rfl|simp only[seval]) ?_;(try simp only[seval,z1,ej,nq,and_self,aT,dF,cW,bt,SN]);refine j8 _ _ (cx (oe (x:=x) (ns:=[(q:Int)]) ⟨rfl,rfl⟩)) ?_;(try simp only[seval,aT,dF,cW,bt,SN,SC]);refine aI ((p7 3 2 (λu _=>[.cells x.l 26,.cells u 76,.cells x.l 26,.cells [.sl 1 [iv q] .exact] 22]) u0 v0 hx eB iE hm rfl rfl (λ_ _=>rfl) λD L mp N Bf eS cg bS dZ hB=> ?_));obtain⟨jA,jN,jB,jO⟩:=hB.gu 1 (λ_ _=>by simp) (λ_ _=>rfl) λ_ _ _=>rfl;refine⟨λDD=>bif isDone 13 DD then(Bf x.l v0++[.cells (D.l mp) 88])else bif isDone 12 DD then(Bf x.l v0++[.cells v0 88])else bif isDone 11 DD then(Bf u0 v0++[.cells v0 88])else Bf u0 v0,by first|rfl|simp only[seval],?_⟩;try simp only[seval,dF,cW,hB.l,hB.n0,hB.s0,hB.n1,hB.s1,bt,bS,im,iF,jj,fX,aj.av,jA,jN,jB,jO]
     first|refine⟨kR x,dZ,?_⟩|trace_state
     have hR:=rest (N,mp,D,(Bf x.l v0++[.cells (D.l mp) 88])) ⟨eS,cg,⟨_,by rw[hB.f]<;>rw[SC]⟩,by rw[hB.f];rw[SC];exact aX H _ 0,by simp only[seval,dF,cW,hB.l,hB.n0,hB.s0,hB.n1,hB.s1,bt,bS,im,iF,jj,fX,aj.av,jA,jN,jB,jO]⟩;exact jv (qJ rfl (by simp only[seval];simp[bu,Wk.refl])) hR
    ·refine pZ (.add (.add (.add .base 5 10) 11 5) 10 4) 5 [0,1,2,3,4,10] [6,7,8,9,11,12,13,14] [4,10] [11,12,13] [⟨0,false,[],[([4],[4]),([4,10],[4,10])]⟩,⟨1,false,[],[]⟩,⟨2,false,[],[]⟩,⟨3,false,[],[]⟩,⟨4,true,[4],[]⟩,⟨10,true,[4,10],[]⟩] [⟨6,false,[],[([11],[11])]⟩,⟨7,false,[],[([11],[11])]⟩,⟨8,false,[],[([11],[11]),([11,12],[11,12])]⟩,⟨9,false,[],[([11],[11]),([11,12],[11,12]),([11,12,13],[11,12,13])]⟩,⟨11,true,[11],[]⟩,⟨12,true,[11,12],[]⟩,⟨13,true,[11,12,13],[]⟩,⟨14,false,[11,12,13],[]⟩] (λD=>bif isDone 10 D then H++[.cells x.l 26,.cells x.l 26,.cells [.sl 1 [iv q] .exact] 22,.cells u0 76]else bif isDone 4 D then H++[.cells x.l 26,.cells x.l 26,.cells [.sl 1 [iv q] .exact] 22]else H++[.cells x.l 26]) (by kernel_rfl) (by kernel_rfl) (by kernel_rfl) (by kernel_rfl) (by kernel_rfl) (by first|rfl|simp only[seval]) ?_;(try simp only[seval,z1,ej,nq,and_self,aT,dF,cW,bt,SN]);refine j8 _ _ (cx (oe (x:=x) (ns:=[(q:Int)]) ⟨rfl,rfl⟩)) ?_;(try simp only[seval,aT,dF,cW,bt,SN,SC]);refine aI ((p7 2 1 (λu _=>[.cells x.l 26,.cells x.l 26,.cells [.sl 1 [iv q] .exact] 22,.cells u 76]) u0 v0 hx eB iE hm rfl rfl (λ_ _=>rfl) λD L mp N Bf eS cg bS dZ hB=> ?_));obtain⟨jA,jN,jB,jO⟩:=hB.gu 3 (λ_ _=>by simp) (λ_ _=>rfl) λ_ _ _=>rfl;refine⟨λDD=>bif isDone 13 DD then(Bf x.l v0++[.cells (D.l mp) 88])else bif isDone 12 DD then(Bf x.l v0++[.cells v0 88])else bif isDone 11 DD then(Bf u0 v0++[.cells v0 88])else Bf u0 v0,by first|rfl|simp only[seval],?_⟩;try simp only[seval,dF,cW,hB.l,hB.n0,hB.s0,hB.n1,hB.s1,bt,bS,im,iF,jj,fX,aj.av,jA,jN,jB,jO]
     first|refine⟨kR x,dZ,?_⟩|trace_state
     have hR:=rest (N,mp,D,(Bf x.l v0++[.cells (D.l mp) 88])) ⟨eS,cg,⟨_,by rw[hB.f]<;>rw[SC]⟩,by rw[hB.f];rw[SC];exact aX H _ 0,by simp only[seval,dF,cW,hB.l,hB.n0,hB.s0,hB.n1,hB.s1,bt,bS,im,iF,jj,fX,aj.av,jA,jN,jB,jO]⟩;exact jv (qJ rfl (by simp only[seval];simp[bu,Wk.refl])) hR
  ·refine rh 5 11 rfl ?_ ?_
   ·refine rh 4 11 rfl ?_ ?_
    ·refine pZ (.add (.add (.add .base 10 5) 5 11) 4 11) 5 [0,1,2,3,11,4] [6,7,8,9,10,12,13,14] [11,4] [10,12,13] [⟨0,false,[],[([11],[11]),([11,4],[11,4])]⟩,⟨1,false,[],[([11],[11])]⟩,⟨2,false,[],[([11],[11])]⟩,⟨3,false,[],[([11],[11])]⟩,⟨11,true,[11],[]⟩,⟨4,true,[11,4],[]⟩] [⟨6,false,[],[([10],[10])]⟩,⟨7,false,[],[([10],[10])]⟩,⟨8,false,[],[([10],[10]),([10,12],[10,12])]⟩,⟨9,false,[],[([10],[10]),([10,12],[10,12]),([10,12,13],[10,12,13])]⟩,⟨10,true,[10],[]⟩,⟨12,true,[10,12],[]⟩,⟨13,true,[10,12,13],[]⟩,⟨14,false,[10,12,13],[]⟩] (λD=>bif isDone 4 D then H++[.cells x.l 26,.cells v0 88,.cells x.l 26,.cells [.sl 1 [iv q] .exact] 22]else bif isDone 11 D then H++[.cells x.l 26,.cells v0 88]else H++[.cells x.l 26]) (by kernel_rfl) (by kernel_rfl) (by kernel_rfl) (by kernel_rfl) (by kernel_rfl) (by first|rfl|simp only[seval]) ?_;(try simp only[seval,z1,ej,nq,and_self,aT,dF,cW,bt,SN]);refine j8 _ _ (cx (oe (x:=x) (ns:=[(q:Int)]) ⟨rfl,rfl⟩)) ?_;(try simp only[seval,aT,dF,cW,bt,SN,SC]);refine aI ((p7 3 2 (λ_ v=>[.cells x.l 26,.cells v 88,.cells x.l 26,.cells [.sl 1 [iv q] .exact] 22]) u0 v0 hx eB iE hm rfl rfl (λ_ _=>rfl) λD L mp N Bf eS cg bS dZ hB=> ?_));obtain⟨jC,jP,jD,jQ⟩:=hB.gv 1 (λ_ _=>by simp) (λ_ _=>rfl) λ_ _ _=>rfl;refine⟨λDD=>bif isDone 13 DD then(Bf u0 (D.l mp)++[.cells x.l 76])else bif isDone 12 DD then(Bf u0 v0++[.cells x.l 76])else bif isDone 10 DD then(Bf u0 v0++[.cells u0 76])else Bf u0 v0,by first|rfl|simp only[seval],?_⟩;try simp only[seval,dF,cW,hB.l,hB.n0,hB.s0,hB.n1,hB.s1,bt,bS,im,iF,jj,fX,aj.av,jC,jP,jD,jQ]
     first|refine⟨kR x,dZ,?_⟩|trace_state
     have hR:=rest (H.length+1,mp,D,(Bf u0 (D.l mp)++[.cells x.l 76])) ⟨eS,cg,⟨_,by rw[hB.f]<;>rw[SC]⟩,by rw[hB.f];rw[SC];exact aX H _ 0,by simp only[seval,dF,cW,hB.l,hB.n0,hB.s0,hB.n1,hB.s1,bt,bS,im,iF,jj,fX,aj.av,jC,jP,jD,jQ]⟩;exact jv (qJ rfl (by simp only[seval];simp[bu,Wk.refl])) hR
    ·refine pZ (.add (.add (.add .base 10 5) 5 11) 11 4) 5 [0,1,2,3,4,11] [6,7,8,9,10,12,13,14] [4,11] [10,12,13] [⟨0,false,[],[([4],[4]),([4,11],[4,11])]⟩,⟨1,false,[],[]⟩,⟨2,false,[],[]⟩,⟨3,false,[],[]⟩,⟨4,true,[4],[]⟩,⟨11,true,[4,11],[]⟩] [⟨6,false,[],[([10],[10])]⟩,⟨7,false,[],[([10],[10])]⟩,⟨8,false,[],[([10],[10]),([10,12],[10,12])]⟩,⟨9,false,[],[([10],[10]),([10,12],[10,12]),([10,12,13],[10,12,13])]⟩,⟨10,true,[10],[]⟩,⟨12,true,[10,12],[]⟩,⟨13,true,[10,12,13],[]⟩,⟨14,false,[10,12,13],[]⟩] (λD=>bif isDone 11 D then H++[.cells x.l 26,.cells x.l 26,.cells [.sl 1 [iv q] .exact] 22,.cells v0 88]else bif isDone 4 D then H++[.cells x.l 26,.cells x.l 26,.cells [.sl 1 [iv q] .exact] 22]else H++[.cells x.l 26]) (by kernel_rfl) (by kernel_rfl) (by kernel_rfl) (by kernel_rfl) (by kernel_rfl) (by first|rfl|simp only[seval]) ?_;(try simp only[seval,z1,ej,nq,and_self,aT,dF,cW,bt,SN]);refine j8 _ _ (cx (oe (x:=x) (ns:=[(q:Int)]) ⟨rfl,rfl⟩)) ?_;(try simp only[seval,aT,dF,cW,bt,SN,SC]);refine aI ((p7 2 1 (λ_ v=>[.cells x.l 26,.cells x.l 26,.cells [.sl 1 [iv q] .exact] 22,.cells v 88]) u0 v0 hx eB iE hm rfl rfl (λ_ _=>rfl) λD L mp N Bf eS cg bS dZ hB=> ?_));obtain⟨jC,jP,jD,jQ⟩:=hB.gv 3 (λ_ _=>by simp) (λ_ _=>rfl) λ_ _ _=>rfl;refine⟨λDD=>bif isDone 13 DD then(Bf u0 (D.l mp)++[.cells x.l 76])else bif isDone 12 DD then(Bf u0 v0++[.cells x.l 76])else bif isDone 10 DD then(Bf u0 v0++[.cells u0 76])else Bf u0 v0,by first|rfl|simp only[seval],?_⟩;try simp only[seval,dF,cW,hB.l,hB.n0,hB.s0,hB.n1,hB.s1,bt,bS,im,iF,jj,fX,aj.av,jC,jP,jD,jQ]
     first|refine⟨kR x,dZ,?_⟩|trace_state
     have hR:=rest (H.length+3,mp,D,(Bf u0 (D.l mp)++[.cells x.l 76])) ⟨eS,cg,⟨_,by rw[hB.f]<;>rw[SC]⟩,by rw[hB.f];rw[SC];exact aX H _ 0,by simp only[seval,dF,cW,hB.l,hB.n0,hB.s0,hB.n1,hB.s1,bt,bS,im,iF,jj,fX,aj.av,jC,jP,jD,jQ]⟩;exact jv (qJ rfl (by simp only[seval];simp[bu,Wk.refl])) hR
   ·refine rh 10 11 rfl ?_ ?_
    ·refine pZ (.add (.add (.add .base 10 5) 11 5) 10 11) 5 [0,1,2,3,4] [6,7,8,9,11,10,12,13,14] [4] [11,10,12,13] [⟨0,false,[],[([4],[4])]⟩,⟨1,false,[],[]⟩,⟨2,false,[],[]⟩,⟨3,false,[],[]⟩,⟨4,true,[4],[]⟩] [⟨6,false,[],[([11],[11]),([11,10],[11,10])]⟩,⟨7,false,[],[([11],[11]),([11,10],[11,10])]⟩,⟨8,false,[],[([11],[11]),([11,10],[11,10]),([11,10,12],[11,10,12])]⟩,⟨9,false,[],[([11],[11]),([11,10],[11,10]),([11,10,12],[11,10,12]),([11,10,12,13],[11,10,12,13])]⟩,⟨11,true,[11],[]⟩,⟨10,true,[11,10],[]⟩,⟨12,true,[11,10,12],[]⟩,⟨13,true,[11,10,12,13],[]⟩,⟨14,false,[11,10,12,13],[]⟩] (λD=>bif isDone 4 D then H++[.cells x.l 26,.cells x.l 26,.cells [.sl 1 [iv q] .exact] 22]else H++[.cells x.l 26]) (by kernel_rfl) (by kernel_rfl) (by kernel_rfl) (by kernel_rfl) (by kernel_rfl) (by first|rfl|simp only[seval]) ?_;(try simp only[seval,z1,ej,nq,and_self,aT,dF,cW,bt,SN]);refine j8 _ _ (cx (oe (x:=x) (ns:=[(q:Int)]) ⟨rfl,rfl⟩)) ?_;(try simp only[seval,aT,dF,cW,bt,SN,SC]);refine aI ((p7 2 1 (λ_ _=>[.cells x.l 26,.cells x.l 26,.cells [.sl 1 [iv q] .exact] 22]) u0 v0 hx eB iE hm rfl rfl (λ_ _=>rfl) λD L mp N Bf eS cg bS dZ hB=> ?_));refine⟨λDD=>bif isDone 13 DD then(Bf u0 v0++[.cells (D.l mp) 88,.cells x.l 76])else bif isDone 12 DD then(Bf u0 v0++[.cells v0 88,.cells x.l 76])else bif isDone 10 DD then(Bf u0 v0++[.cells v0 88,.cells u0 76])else bif isDone 11 DD then(Bf u0 v0++[.cells v0 88])else Bf u0 v0,by first|rfl|simp only[seval],?_⟩;try simp only[seval,dF,cW,hB.l,hB.n0,hB.s0,hB.n1,hB.s1,bt,bS,im,iF,jj,fX,aj.av]
     first|refine⟨kR x,dZ,?_⟩|trace_state
     have hR:=rest (N,mp,D,(Bf u0 v0++[.cells (D.l mp) 88,.cells x.l 76])) ⟨eS,cg,⟨_,by rw[hB.f]<;>rw[SC]⟩,by rw[hB.f];rw[SC];exact aX H _ 0,by simp only[seval,dF,cW,hB.l,hB.n0,hB.s0,hB.n1,hB.s1,bt,bS,im,iF,jj,fX,aj.av]⟩;exact jv (qJ rfl (by simp only[seval];simp[bu,Wk.refl])) hR
    ·refine pZ (.add (.add (.add .base 10 5) 11 5) 11 10) 5 [0,1,2,3,4] [6,7,8,9,10,11,12,13,14] [4] [10,11,12,13] [⟨0,false,[],[([4],[4])]⟩,⟨1,false,[],[]⟩,⟨2,false,[],[]⟩,⟨3,false,[],[]⟩,⟨4,true,[4],[]⟩] [⟨6,false,[],[([10],[10]),([10,11],[10,11])]⟩,⟨7,false,[],[([10],[10]),([10,11],[10,11])]⟩,⟨8,false,[],[([10],[10]),([10,11],[10,11]),([10,11,12],[10,11,12])]⟩,⟨9,false,[],[([10],[10]),([10,11],[10,11]),([10,11,12],[10,11,12]),([10,11,12,13],[10,11,12,13])]⟩,⟨10,true,[10],[]⟩,⟨11,true,[10,11],[]⟩,⟨12,true,[10,11,12],[]⟩,⟨13,true,[10,11,12,13],[]⟩,⟨14,false,[10,11,12,13],[]⟩] (λD=>bif isDone 4 D then H++[.cells x.l 26,.cells x.l 26,.cells [.sl 1 [iv q] .exact] 22]else H++[.cells x.l 26]) (by kernel_rfl) (by kernel_rfl) (by kernel_rfl) (by kernel_rfl) (by kernel_rfl) (by first|rfl|simp only[seval]) ?_;(try simp only[seval,z1,ej,nq,and_self,aT,dF,cW,bt,SN]);refine j8 _ _ (cx (oe (x:=x) (ns:=[(q:Int)]) ⟨rfl,rfl⟩)) ?_;(try simp only[seval,aT,dF,cW,bt,SN,SC]);refine aI ((p7 2 1 (λ_ _=>[.cells x.l 26,.cells x.l 26,.cells [.sl 1 [iv q] .exact] 22]) u0 v0 hx eB iE hm rfl rfl (λ_ _=>rfl) λD L mp N Bf eS cg bS dZ hB=> ?_));refine⟨λDD=>bif isDone 13 DD then(Bf u0 v0++[.cells x.l 76,.cells (D.l mp) 88])else bif isDone 12 DD then(Bf u0 v0++[.cells x.l 76,.cells v0 88])else bif isDone 11 DD then(Bf u0 v0++[.cells u0 76,.cells v0 88])else bif isDone 10 DD then(Bf u0 v0++[.cells u0 76])else Bf u0 v0,by first|rfl|simp only[seval],?_⟩;try simp only[seval,dF,cW,hB.l,hB.n0,hB.s0,hB.n1,hB.s1,bt,bS,im,iF,jj,fX,aj.av]
     first|refine⟨kR x,dZ,?_⟩|trace_state
     have hR:=rest (N+1,mp,D,(Bf u0 v0++[.cells x.l 76,.cells (D.l mp) 88])) ⟨eS,cg,⟨_,by rw[hB.f]<;>rw[SC]⟩,by rw[hB.f];rw[SC];exact aX H _ 0,by simp only[seval,dF,cW,hB.l,hB.n0,hB.s0,hB.n1,hB.s1,bt,bS,im,iF,jj,fX,aj.av]⟩;exact jv (qJ rfl (by simp only[seval];simp[bu,Wk.refl])) hR
section
variable {lv:Bool}{H:List aa}{k kp:AV->List aa->Prop}
theorem ah9{x:aj}{q:Nat}(hx:x.Ok)(hq:q<x.pieces.length)(hm:H[0]?=some .main)(hk:∀D,fM x 1 D->(D.has=false->k (.aL [a_ [],iv 11]) H)/\(D.has=true->k (.aL [a_ (fH (D.aA.getD q 0) x.first 16),iv 0]) H)):bh true SA 34 H [x.av,iv q] k kp:=by
 refine bF (rs:=[.tmp 4,.tmp 5]) (nt:=29) ZG λhH hA=> ?_;simp only[bk,SV,aj.av];have hp:=hx.am;have nH:=hx.eD;have bO:x.l=[iv x.first,iv x.hours,iv x.am,dS x.seen,aW x.pieces,aW x.aB]:=rfl;have aT:∀(L:List aa),(H++L)[H.length]?=L[0]?:=λL=>aX H L 0;have bt:x.l.length=6:=rfl;refine ak ?_;(repeat apply iA);refine afg [4,10,11,12,13] [0,1,2,3,4,5,6,7,8,9,10,11,12,13,14] F.mixed (by kernel_rfl) ?_;refine agM (α:=Nat×Nat×Kn×List aa) (ok:=λy=>fM x 1 y.2.2.1/\bJ y.2.2.1/\(∃L,y.2.2.2=H++L)/\y.2.2.2[H.length]?=some (.cells x.l 26)/\y.2.2.2[y.1]?=some (.cells (y.2.2.1.l y.2.1) 88)) (λy=>⟨[(7,.op y.1 0),(8,iv (fe y.2.2.1)),(1,iv q),(2,.op H.length 0)],y.2.2.2⟩) (λy hy=> ?_) (λrest=> ?_)
 ·obtain⟨i,mp,D,G⟩:=y;obtain⟨eS,cg,⟨L0,hG⟩,QS,QR⟩:=hy;dsimp only at hG QS QR;obtain⟨iD,cG⟩:=hk D eS;have fE:∀(ns:List Int)(e:End)(m:Int),k (.aL [a_ ns,iv m]) H->cF H.length G (.aL [.sl ns.length (ns.map iv) e,iv m]) k:=λns e m h=>by
   rw[hG];exact iM hH (HG (g_ _ _ _) (Wk.refl _)) (by simp[jL,eK,a_,vg]) h
  (try simp only[seval]);cases iR:D.has with
  |false=>
   have hE:fe D=11:=(by rw[fe,iR];rfl);refine ai ?_;simp only[seval,hE,show ((11:Int)!=0)=true from rfl];refine aD ?_;refine ak ?_;refine aZ ?_;exact fE [] .exact 11 (iD iR)
  |true=>
   have hE:fe D=0:=(by rw[fe,iR];rfl);have cG:=cG iR;obtain⟨u,hu⟩:=b9 (xs:=D.aA) (i:=q) (by rw[cg.aA];omega);have lu:=cg.mv _ (Tc hu);have lU:D.aA.getD q 0=u:=(by rw[SE,hu];rfl);rw[lU]at cG;have b3:(0<=(q:Int)/\(q:Int)<4)=True:=(by simp;omega);have Cu:=Kn.GN (mp:=mp) hu;have jF:=hx.first;refine ai ?_;simp only[seval,hE,show ((0:Int)!=0)=false from rfl];refine aD ?_;refine aN ?_;refine eO 6 ?_;simp only[seval,QS,QR,b3,Cu,bO];refine aI ((Jf lu (by omega) ?_));(try simp only[seval]);refine aZ ?_;exact fE _ _ 0 cG
 ·exact anw (.inr ⟨rfl,rfl⟩) hx hq hm rest
end
theorem al2{x:aj}{deep:Int}{D:Kn}(hx:x.Ok)(h:fM x deep D)(hh:D.has=true):ju x D.first:=by
 obtain⟨p,js,h1,h2,h3,_⟩:=h;have hp:=hx.am;have hj:∀j∈js,j<x.am.toNat+1:=λj hj=>by have:=Tx.1 (h2.mem_iff.1 hj);omega
 obtain⟨j,a,t,l,b,c,d⟩:=aav hx h3 (h2.nodup_iff.2 XT) hj hh;rw[c];exact QH (deep:=deep) (j:=j) hx (by have:=hj j a;omega) (by rw[b];simp)
namespace Tk
def sU (x:aj)(t:List Int)(i:Nat):List Int:=(SZ i).map λp=>t.getD (4+p) 0+x.first
def sV (t:List Int)(i:Nat):List Int:=(SZ i).map λs=>t.getD (8+s) 0
theorem aiE(x:aj)(t:List Int)(i:Nat):sU x t (i+1)=sU x t i++[t.getD (4+i) 0+x.first]:=by
 unfold sU;rw[Vo,TD];rfl
theorem aiG(t:List Int)(i:Nat):sV t (i+1)=sV t i++[t.getD (8+i) 0]:=by
 unfold sV;rw[Vo,TD];rfl
theorem aiD(x:aj)(t:List Int)(i:Nat):(sU x t i).length=i:=by simp[sU]
theorem aiF(t:List Int)(i:Nat):(sV t i).length=i:=by simp[sV]
end Tk
theorem adu{a a' b b' c c' d d':AV}(h1:Wk a a')(h2:Wk b b')(h3:Wk c c')(h4:Wk d d'):Wk (.aL [a,b,c,d]) (.aL [a',b',c',d']):=λE v h=>by
 cases h with
 |aL hs h=>
  refine .aL hs λi x e=> ?_
  match i with
  |0=>cases e;exact h1 _ _ (h 0 a rfl)
  |1=>cases e;exact h2 _ _ (h 1 b rfl)
  |2=>cases e;exact h3 _ _ (h 2 c rfl)
  |3=>cases e;exact h4 _ _ (h 3 d rfl)
section
variable {lv:Bool}{H:List aa}{k kp:AV->List aa->Prop}
theorem ahX{x:aj}(hx:x.Ok)(hm:H[0]?=some .main)(hk:∀D,fM x 0 D->(D.has=false->k (.aL [a_ [],a_ [],a_ [],iv 11]) H)/\(D.has=true->k (.aL [a_ (D.first.take (x.hours.toNat+1)),a_ (sU x D.first x.pieces.length),a_ (sV D.first x.aB.length),iv 0]) H)):bh true SA 18 H [x.av] k kp:=by
 refine bF (rs:=[.tmp 2,.tmp 3,.tmp 4,.tmp 5]) (nt:=64) Tryz.f18 λhH hA=> ?_;simp only[bk,SV,aj.av];have hp:=hx.am;have hh:=hx.hours;have nH:=hx.eD;have aQ:=hx.dc;have jF:=hx.first;obtain⟨p,eB⟩:∃p:Nat,x.am=p:=⟨x.am.toNat,by omega⟩;have bO:x.l=[iv x.first,iv x.hours,iv x.am,dS x.seen,aW x.pieces,aW x.aB]:=rfl;have aT:∀(L:List aa),(H++L)[H.length]?=L[0]?:=λL=>aX H L 0;have bt:x.l.length=6:=rfl;have ej:Ui 6 x.l=x.l:=rfl;refine ak ?_;refine ai ?_;simp only[seval,aT,bt,ej];refine aI ((zt (x:=x) hx eB (fO hm) Ip (λh=>by cases h) λ_ js D L mp iC jG cg tr hg=> ?_));have eS:fM x 0 D:=⟨p,js,eB,iC,jG,cg⟩;have bS:=Kn.len cg mp;have dZ:=u_ D mp;obtain⟨iD,cG⟩:=hk D eS;obtain⟨Y,hY⟩:∃Y:List aa,Y=[aa.cells x.l 26]++L:=⟨_,rfl⟩;obtain⟨B,hB⟩:∃B,B=H++Y:=⟨_,rfl⟩;have sX:H++[aa.cells x.l 26]++L=B:=by rw[hB,hY,SC]
 have zK:∀(L':List aa),(B++L')[H.length]?=some (.cells x.l 26):=λL'=>by rw[hB,hY,SC,aT];rfl
 have bn:∀(L':List aa)(j:Nat),(B++L')[B.length+j]?=L'[j]?:=λL' j=>aX B L' j;have vQ:∀(L':List aa)(j:Nat)(y:aa),(B++L').set (B.length+j) y=B++L'.set j y:=λL' j y=>dU B L' j y;have fE:∀(L':List aa)(l1 l2 l3:List Int)(e e' PH:End)(m:Int),k (.aL [a_ l1,a_ l2,a_ l3,iv m]) H->cF H.length (B++L') (.aL [.sl l1.length (l1.map iv) e,.sl l2.length (l2.map iv) e',.sl l3.length (l3.map iv) PH,iv m]) k:=λL' l1 l2 l3 e e' PH m h=>by
  rw[hB,SC];exact iM hH (adu (g_ _ _ _) (g_ _ _ _) (g_ _ _ _) (Wk.refl _)) (by simp[jL,eK,a_,vg]) h
 rw[sX];clear sX hg;(try simp only[seval,aj.av,bt,bS]);refine⟨kR x,dZ,?_⟩;cases iR:D.has with
 |false=>
  have hE:fe D=11:=by rw[fe,iR];rfl
  refine ai ?_;simp only[seval,hE,show ((11:Int)!=0)=true from rfl];refine aD ?_;refine ak ?_;refine aZ ?_;exact fE _ [] [] [] .exact .exact .exact 11 (iD iR)
 |true=>
  have hE:fe D=0:=by rw[fe,iR];rfl
  have cG:=cG iR;have qA:=al2 hx eS iR;obtain⟨t,ht⟩:∃t,t=D.first:=⟨_,rfl⟩;rw[<- ht]at qA cG;have qz:=qA.len;obtain⟨pre,RR,J'⟩:∃pre:List AV,pre.length=17/\D.l mp=pre++(t.map iv++[]):=⟨bv D.has:: .mp mp::(D.aA.map (λn=>wv n)++(D.hours.map (λn=>wv n)++(D.less.map (λn=>wv n)++D.aU.map (λn=>wv n)))),by simp[cg.aA,cg.hours,cg.less,cg.aU],by rw[ht];simp[Kn.l]⟩;obtain⟨n,hn⟩:∃n:Nat,x.hours=n:=⟨x.hours.toNat,by omega⟩;have pt:x.hours+1=((n+1:Nat):Int):=by omega
  have bM:SD.wrap (x.hours+1)=((n+1:Nat):Int):=by rw[bA _ (by omega)];exact pt
  have du:T7 1 x.l=[iv x.hours,iv x.am,dS x.seen,aW x.pieces,aW x.aB]:=rfl;have hd4:T7 4 x.l=[.sl x.pieces.length (x.pieces.flatMap aC.l) .shut,.sl x.aB.length (x.aB.flatMap aC.l) .shut]:=rfl;have nz:T7 5 x.l=[.sl x.aB.length (x.aB.flatMap aC.l) .shut]:=rfl;refine ai ?_;simp only[seval,hE,show ((0:Int)!=0)=false from rfl];refine aD ?_;refine aN ?_;have BM:∀(L':List aa),(B++L')[B.length+1]?=L'[1]?:=λL'=>bn L' 1;have zd:∀(L':List aa),(B++L')[B.length+2]?=L'[2]?:=λL'=>bn L' 2;have un:∀(L':List aa)(y:aa),(B++L').set (B.length+2) y=B++L'.set 2 y:=λL' y=>vQ L' 2 y;have bn3:∀(L':List aa),(B++L')[B.length+3]?=L'[3]?:=λL'=>bn L' 3;have bs3:∀(L':List aa)(y:aa),(B++L').set (B.length+3) y=B++L'.set 3 y:=λL' y=>vQ L' 3 y;have bn4:∀(L':List aa),(B++L')[B.length+4]?=L'[4]?:=λL'=>bn L' 4;have bs4:∀(L':List aa)(y:aa),(B++L').set (B.length+4) y=B++L'.set 4 y:=λL' y=>vQ L' 4 y;refine ai ?_;simp only[seval,zK,du,bM,adB];refine⟨by omega,by omega,?_⟩;have wc:(D.l mp).drop 17=t.map iv:=by rw[J',SO,Wq (by omega),WV (by omega),UJ]
  have aly:((n:Int)+1).toNat=n+1:=by omega
  have pq:min 4 (n+1)=n+1:=by omega
  have ws:min 4 11=4:=rfl;have R9:min (n+1) 4=n+1:=by omega
  have aY:Ui (n+1) (Ui 4 (U9 iv t))++T7 (n+1) (U9 iv (TH (n+1) 0))=(t.take (n+1)).map iv:=by rw[U3,R9,WV (by simp),SO,VX]
  refine ai ?_;simp only[seval,wc,aly,pq,ws,qz,R9,Ud,YG,BM,zd,un];refine⟨by rw[<- VX];exact of_eq_true (aaH _),?_⟩;rw[aY];obtain⟨tl,LC⟩:∃tl,tl=t.take (n+1):=⟨_,rfl⟩;have aah:tl.length=n+1:=by rw[LC,Ud];omega
  have FV:x.hours.toNat=n:=by omega
  rw[FV,<- LC]at cG;rw[<- LC]
  (repeat apply iA);refine Ir (id:=B.length+2) (by simp only[seval,zd]<;>rfl) ?_
  simp only[seval,un,aah]
  (repeat apply iA);refine OT (t:=2) (y:=a_ tl) (by simp only[seval]<;>rfl) ?_ ?_
  ·have e:a_ tl=.sl (n+1) ((tl.map iv).take (n+1)) .shut:=by
    rw[SX (by simp;omega),a_,aah]
   rw[e];exact HE (p:=n+1) (by simp only[seval,zd]<;>rfl) (by omega) (by simp;omega)
  (repeat apply iA);refine sK (t:=3) (sz:=1) (el:=3) (by simp only[seval]<;>rfl) ?_
  refine ai ?_;simp only[seval,zK,hd4];obtain⟨gl,kH⟩:∃gl:Nat->List Int,∀i,gl i=sU x t i:=⟨_,λ_=>rfl⟩;have Cy:gl 0=[]:=by rw[kH];rfl
  have KA:∀i,(gl i).length=i:=λi=>by rw[kH];exact aiD _ _ _
  refine cq ?_;refine gD x.pieces.length (λi:Nat=>[(3,.sl (gl i).length ((gl i).map iv) (.opn (B.length+3))),(31,iv i)]) (λi=>B++[.cells x.l 76,.cells (D.l mp) 88,.part (n+1) (tl.map iv) 3,.tail (gl i).length 1 3]) (λi=>True) (λ_ _=>rfl) (by rw[Cy];simp only[seval];simp[bu,Wk.refl]) (by rw[Cy];rfl) (λ_ _ _=>by simp) trivial (λbQ cP i cK _ R hR=> ?_);refine ak ?_;refine aD ?_;refine⟨λh=> ?_,λh=> ?_⟩
  ·have bB:i<x.pieces.length:=(by omega);obtain⟨v,hv,hv9,_⟩:=qA.num i bB;have CA:t.getD (4+i) 0=v:=(by rw[SE,hv];rfl);have b3:(0<=(i:Int)/\(i:Int)<4)=True:=(by simp;omega);have fQ:SD.wrap ((i:Int)+1)=((i+1:Nat):Int):=(by rw[bA _ (by omega)];rfl);have C2:SD.wrap ((v:Int)+x.first)=v+x.first:=bA _ (by omega);have Kj:(D.l mp).drop (21+i)=iv v::((t.drop (4+i+1)).map iv++[]):=by
    have:=EW J' RR hv;rw[show 21+i=17+(4+i) by omega];exact this
   have cQ:gl (i+1)=gl i++[(v:Int)+x.first]:=(by rw[kH,kH,aiE,CA]);have KR:=KA i;refine aN ?_;refine ak ?_;refine eO 10 ?_;simp only[seval,z1,zK,BM,b3,Kj,C2,bO,bn3,bs3]
   first|refine⟨by decide,by omega,?_⟩|refine⟨by omega,?_⟩
   refine ai ?_;simp only[seval,fQ];refine hR _ ⟨bB,trivial,?_⟩;rw[cQ,TD,SN];exact da
  ·have dx:i=x.pieces.length:=(by omega);subst dx;clear hR;refine bX ?_
   (repeat apply iA);refine sK (t:=4) (sz:=1) (el:=3) (by simp only[seval]<;>rfl) ?_
   have C3:(gl x.pieces.length)=sU x t x.pieces.length:=kH _;generalize gl x.pieces.length=nl at C3⊢;refine ai ?_;simp only[seval,zK,nz];obtain⟨go,hgo⟩:∃go:Nat->List Int,∀i,go i=sV t i:=⟨_,λ_=>rfl⟩;have Rz:go 0=[]:=(by rw[hgo];rfl);have akn:∀i,(go i).length=i:=λi=>(by rw[hgo];exact aiF _ _);refine cq ?_;refine gD x.aB.length (λi:Nat=>[(4,.sl (go i).length ((go i).map iv) (.opn (B.length+4))),(49,iv i)]) (λi=>B++[.cells x.l 76,.cells (D.l mp) 88,.part (n+1) (tl.map iv) 3,.tail nl.length 1 3,.tail (go i).length 1 3]) (λi=>True) (λ_ _=>rfl) (by rw[Rz];simp only[seval];simp[bu,Wk.refl]) (by rw[Rz];rfl) (λ_ _ _=>by simp) trivial (λbQ cP i cK _ R hR=> ?_);refine ak ?_;refine aD ?_;refine⟨λh=> ?_,λh=> ?_⟩
   ·have bB:i<x.aB.length:=(by omega);obtain⟨v,hv,hv9⟩:=qA.own i bB;have CA:t.getD (8+i) 0=v:=(by rw[SE,hv];rfl);have b3:(0<=(i:Int)/\(i:Int)<3)=True:=(by simp;omega);have fQ:SD.wrap ((i:Int)+1)=((i+1:Nat):Int):=(by rw[bA _ (by omega)];rfl);have Kj:(D.l mp).drop (25+i)=iv v::((t.drop (8+i+1)).map iv++[]):=by
     have:=EW J' RR hv;rw[show 25+i=17+(8+i) by omega];exact this
    have cQ:go (i+1)=go i++[(v:Int)]:=(by rw[hgo,hgo,aiG,CA]);have KR:=akn i;refine aN ?_;refine ak ?_;refine ai ?_;simp only[seval,z1,BM,b3,Kj,bn4,bs4]
    first|refine⟨by decide,by omega,?_⟩|refine⟨by omega,?_⟩
    refine ai ?_;simp only[seval,fQ];refine hR _ ⟨bB,trivial,?_⟩;rw[cQ,TD,SN];exact da
   ·have dx:i=x.aB.length:=(by omega);subst dx;clear hR;refine bX ?_;have hxo:(go x.aB.length)=sV t x.aB.length:=hgo _;generalize go x.aB.length=ol at hxo⊢;refine ak ?_;refine aZ ?_;rw[<- C3,<- hxo]at cG;exact fE _ tl nl ol .shut _ _ 0 cG
end
open Go.Conc Go.Proofs Go.Gg.Tk
namespace Tk
def aa4 (n:Int)(o k:Int):Int:=yl [o,max (k-n) (n-k)]
def Dn (l:List Int)(n:Int)(o:Int):Int:=l.foldl (aa4 n) o
def q_ (own q:Nat)(m:Int×Nat)(t:List Int):Int×Nat:=if m.2.testBit (mz t q)then m else(Dn (fH own 0 16) (mz t q) m.1,m.2|||2^mz t q)
def vH (x:aj)(y:aC)(q:Nat)(o:Int)(h:List Int):Int:=if bZ h y=0 then o else((iI x 1 h).foldl (q_ (bZ h y) q) (o,0)).1
def y_ (x:aj)(y:aC)(q:Nat):Nat->Int
 |0=> -1
 |i+1=>(kv x i).foldl (vH x y q) (y_ x y q i)
def Ij (x:aj)(i:Nat):List aa:=[.cells x.l 76,.cells [iv i] 3,.obj (.deferred (some [])),.gone]
def oV (x:aj):Nat->List aa
 |0=>[]
 |i+1=>oV x i++Ij x i
def xd (n:Nat):Nat->List Nat
 |0=>[]
 |i+1=>(n+4* i+2)::xd n i
theorem Ik(x:aj):∀i,(oV x i).length=4* i
 |0=>rfl
 |i+1=>by rw[oV,SN,Ik x i];rfl
theorem Oy(x:aj)(B:List aa):∀(i:Nat)(L:List aa),∃Y,iN (xd B.length i) (B++oV x i++L)=some (B++Y)
 |0,L=>⟨oV x 0++L,by rw[xd,zA,SC]⟩
 |i+1,L=>by
  have hl:(B++oV x i).length=B.length+4* i:=by rw[SN,Ik]
  have e:B++oV x (i+1)++L=(B++oV x i)++(Ij x i++L):=by rw[oV];simp
  have hg:((B++oV x i)++(Ij x i++L))[B.length+4* i+2]?=some (.obj (.deferred (some []))):=by rw[<- hl,aX];rfl
  obtain⟨Y,hY⟩:=Oy x B i ([.cells x.l 76,.cells [iv i] 3,.gone,.gone]++L);refine⟨Y,?_⟩;rw[xd,e,zy hg,<- hl,dU];exact hY
end Tk
theorem afz{lv:Bool}{P:SI}{nt:Nat}{c:T4}{s:AS}{ms:List Nat}{Φ:an->AS->List Nat->Prop}(h:kA lv P nt [] c s ms Φ):mC lv P nt c s ms Φ:=λE V a Q ah hd hQ=>
 h E V a Q ah ⟨by rw[SO];exact hd.1,hd.2⟩ λae e E' V' a' s' cD hk aS cz he hΦ=>hQ ae e E' V' a' s' cD hk aS ⟨by have:=cz.1;rwa [SO]at this,cz.2⟩ he hΦ
section
variable {lv:Bool}{H:List aa}{k kp:AV->List aa->Prop}
theorem ah6{x:aj}{s q:Nat}{y:aC}(hx:x.Ok)(hs:x.aB[s]?=some y)(hq:q<x.pieces.length)(hk:∀o:Int,o=y_ (x.wo [(s:Int)]) y q (x.am.toNat+1)->k (.aL [iv (if o<0 then 0 else o),iv (if o<0 then 11 else 0)]) H):bh lv SA 31 H [x.av,iv s,iv q] k kp:=by
 refine Ql (rs:=[.tmp 6,.tmp 7]) (nt:=97) F.f31 rfl rfl rfl (by simp) λhH hA=> ?_;simp only[bk,SV,aj.av];have hp:=hx.am;have aQ:=hx.dc;have nH:=hx.eD;have cH:=eR hs;have iE:=abI hq;obtain⟨p,eB⟩:∃p:Nat,x.am=p:=⟨x.am.toNat,by omega⟩;obtain⟨w,hw⟩:∃w,w=x.wo [(s:Int)]:=⟨_,rfl⟩;have LM:w.Ok:=by rw[hw];exact hx.wo _
 have bO:x.l=[iv x.first,iv x.hours,iv x.am,dS x.seen,aW x.pieces,aW x.aB]:=rfl;have gn:∀(L:List aa)(j:Nat),(H++L)[H.length+j]?=L[j]?:=λL j=>aX H L j;have Ah:∀(L:List aa)(j:Nat)(y:aa),(H++L).set (H.length+j) y=H++L.set j y:=λL j y=>dU H L j y;have aT:∀(L:List aa),(H++L)[H.length]?=L[0]?:=λL=>aX H L 0;have du:∀(L:List aa),(H++L)[H.length+1]?=L[1]?:=λL=>aX H L 1;have lf:∀(L:List aa),(H++L)[H.length+2]?=L[2]?:=λL=>aX H L 2;have nz:∀(L:List aa),(H++L)[H.length+5]?=L[5]?:=λL=>aX H L 5;have Ln:∀(L:List aa)(y:aa),(H++L).set (H.length+5) y=H++L.set 5 y:=λL y=>dU H L 5 y;have hd6:∀(L:List aa),(H++L)[H.length+6]?=L[6]?:=λL=>aX H L 6;have hs6:∀(L:List aa)(y:aa),(H++L).set (H.length+6) y=H++L.set 6 y:=λL y=>dU H L 6 y;have bt:x.l.length=6:=rfl;have ej:Ui 6 x.l=x.l:=rfl;have Rs:T7 5 x.l=[.sl x.aB.length (x.aB.flatMap aC.l) .shut]:=rfl;have Ct:T7 2 x.l=[iv x.am,dS x.seen,aW x.pieces,aW x.aB]:=rfl;have nq:(1<=2^24)=True:=eq_true (by decide);(try refine nd ?_);refine ak ?_;(try refine nd ?_);refine ai ?_;simp only[seval,aT,bt,ej];refine aI ((Jg (x:=x) hx ?_));(try simp only[seval]);(try refine nd ?_);refine ai ?_;simp only[seval,show ((0:Int)!=0)=false from rfl];(try refine nd ?_);refine aD ?_;refine aN ?_;(try refine nd ?_);refine ai ?_;simp only[seval,z1,nq,aT,lf,bt,ej];refine aI ((oe (x:=x) (ns:=[(q:Int)]) ?_));have bM:SD.wrap ((x.aB.length:Int)-1)=(x.aB.length:Int)-1:=bA _ (by omega);have CL:(decide ((s:Int)<0)||decide ((s:Int)>(x.aB.length:Int)-1))=false:=by simp;omega
 (try simp only[seval]);refine aI ((Jj (x:=x) (ns:=[(q:Int)]) (e:=.exact) (il:=H.length+4) (ir:=H.length+3) hx (by simp) (by rw[gn];rfl) (by rw[gn];rfl) ?_));rw[iE];(try simp only[seval,aT,du,Rs,bM]);refine aI ((sT (n:=s) (lo:=0) (hi:=(x.aB.length:Int)-1) ?_));rw[CL];(try simp only[seval]);(try refine nd ?_);refine aD ?_;refine aN ?_;(try refine nd ?_);have ajI:ua [(s:Int)] x.aB.length:=λi n hn=>by
  match i,hn with
  |0,hn=>cases hn;simp;omega
 refine ai ?_;simp only[seval,z1,nq,aT,du,bt,ej];refine aI ((P6 (x:=x) (ns:=[(s:Int)]) aQ ajI ?_));rw[<- hw];have rQ:w.l.length=6:=rfl;have uW:Ui 6 w.l=w.l:=rfl;have RX:w.l=[iv w.first,iv w.hours,iv w.am,dS w.seen,aW w.pieces,aW w.aB]:=rfl;have LP:T7 6 [AV.val (SF SD 0),AV.val (SF SD 0),AV.val (SF SD 0),AV.sl 0 [] .exact,AV.sl 0 [] .exact,AV.sl 0 [] .exact]=[]:=rfl;(try simp only[seval,aj.av,rQ,uW,nz,Ln,hd6,hs6,LP]);refine⟨kR w,?_⟩;have fh:SD.wrap (x.am+1)=((p+1:Nat):Int):=by rw[eB,bA _ (by omega)];rfl
 refine Iu ?_;refine nd ?_;refine ai ?_;simp only[seval,aT,Ct,fh];obtain⟨Bo,rn⟩:∃Bo:Int->List aa,∀o,Bo o=H++[.cells x.l 26,.cells [iv s] 3,.cells [iv q] 3,.cells x.l 26,.cells [.sl 1 [iv q] .exact] 22,.cells w.l 76,.cells [iv o] 3]:=⟨_,λ_=>rfl⟩;have fP:∀o,(Bo o).length=H.length+7:=λo=>by rw[rn];simp
 have b0:∀o L,(Bo o++L)[H.length]?=some (.cells x.l 26):=λo L=>by rw[rn,SC,aT];rfl
 have b1:∀o L,(Bo o++L)[H.length+1]?=some (.cells [iv s] 3):=λo L=>by rw[rn,SC,gn];rfl
 have b2:∀o L,(Bo o++L)[H.length+2]?=some (.cells [iv q] 3):=λo L=>by rw[rn,SC,gn];rfl
 have b5:∀o L,(Bo o++L)[H.length+5]?=some (.cells w.l 76):=λo L=>by rw[rn,SC,gn];rfl
 have b6:∀o L,(Bo o++L)[H.length+6]?=some (.cells [iv o] 3):=λo L=>by rw[rn,SC,gn];rfl
 have s6:∀o o' L,(Bo o++L).set (H.length+6) (.cells [iv o'] 3)=Bo o'++L:=λo o' L=>by rw[rn,rn,SC,SC,Ah];rfl
 obtain⟨fo,wi⟩:∃fo:Nat->Int,∀i,fo i=y_ w y q i:=⟨_,λ_=>rfl⟩;refine afz ?_;refine xf ?_;refine OV (measure λi=>p+1-i).wf (λi:Nat=>⟨[(45,iv i),(44,iv ((p+1:Nat):Int)),(3,.op H.length 0),(4,.op (H.length+1) 0),(5,.op (H.length+2) 0),(9,.op (H.length+5) 0),(10,.op (H.length+6) 0)],Bo (fo i)++oV w i⟩) (λi=>xd (H.length+7) i) (λi=>i<=p+1) 0 (ey (by simp only[seval];simp[bu,Wk.refl]) (by rw[rn,wi];show _=_++[];rw[SO];rfl)) rfl (by omega) λi oy=> ?_;obtain⟨N,hN⟩:∃N,N=H.length+7+4* i:=⟨_,rfl⟩;obtain⟨AO,p9⟩:∃AO:Int->List aa,∀o,AO o=Bo o++oV w i:=⟨_,λ_=>rfl⟩;have p_:∀o,(AO o).length=N:=λo=>by rw[p9,SN,fP,Ik,hN]
 have a0:∀o L,(AO o++L)[H.length]?=some (.cells x.l 26):=λo L=>by rw[p9,SC];exact b0 _ _
 have a1:∀o L,(AO o++L)[H.length+1]?=some (.cells [iv s] 3):=λo L=>by rw[p9,SC];exact b1 _ _
 have a2:∀o L,(AO o++L)[H.length+2]?=some (.cells [iv q] 3):=λo L=>by rw[p9,SC];exact b2 _ _
 have a5:∀o L,(AO o++L)[H.length+5]?=some (.cells w.l 76):=λo L=>by rw[p9,SC];exact b5 _ _
 have a50:∀o,(AO o)[H.length+5]?=some (.cells w.l 76):=λo=>by have:=a5 o [];rwa [SO]at this
 have a6:∀o L,(AO o++L)[H.length+6]?=some (.cells [iv o] 3):=λo L=>by rw[p9,SC];exact b6 _ _
 have as6:∀o o' L,(AO o++L).set (H.length+6) (.cells [iv o'] 3)=AO o'++L:=λo o' L=>by rw[p9,p9,SC,SC];exact s6 _ _ _
 have ag:∀o (L:List aa)(j:Nat),(AO o++L)[N+j]?=L[j]?:=λo L j=>by rw[<- p_ o,aX]
 have uk:∀o (L:List aa)(j:Nat)(y:aa),(AO o++L).set (N+j) y=AO o++L.set j y:=λo L j y=>by rw[<- p_ o,dU]
 have MM:∀m o o',(∀z∈AO o,fb m z)->∀z∈AO o',fb m z:=λm o o' hz z eZ=>by
  rw[p9,rn]at hz eZ;simp only[SR]at eZ;rcases eZ with(h'|h')|h'
  ·exact hz z (by simp[h'])
  ·simp only[SK,S0,or_false]at h';rcases h' with rfl|rfl|rfl|rfl|rfl|rfl|rfl
   ·exact hz _ (by simp)
   ·exact hz _ (by simp)
   ·exact hz _ (by simp)
   ·exact hz _ (by simp)
   ·exact hz _ (by simp)
   ·exact hz _ (by simp)
   ·intro a ha;rw[S8]at ha;subst ha;exact .val _
  ·exact hz z (by simp[h'])
 have okX:∀(X:List aa) o o',bI (AO o++X)->bI (AO o'++X):=λX o o' hX z hz=>by
  have hlen:(AO o'++X).length=(AO o++X).length:=by simp[p_]
  rw[hlen];rcases SR.1 hz with h'|h'
  ·exact MM _ o o' (λz hz=>hX z (Tf _ hz)) z h'
  ·exact hX z (S4 _ h')
 rw[<- p9];refine sL ?_;refine ak ?_;refine sL ?_;refine aD ?_;refine⟨λhc=> ?_,λhc=> ?_⟩
 ·have qi:i<=3:=by omega
  have JH:=D3 LM i qi;refine aN ?_;refine EJ ?_;refine xf ?_;refine sL ?_;refine ak ?_;refine sL ?_;refine ai ?_;simp only[seval,a50,RX];refine aI ((Jh (x:=w) (n:=i) ?_));rw[p_];(try simp only[seval]);refine xf ?_;refine Iv (by rfl) λl fn T Ov bo hT xH qf=> ?_;(try simp only[seval]);rw[p_];have hY:jU lv SA (.fn (.yield l) [] []) (λo h=> .go (vH w y q o h)) (λo=>AO o++[.cells w.l 76,.cells [iv i] 3,.obj (.deferred (some [])),.loop l .ready none fn T 97 #[51] Ov bo (N+2)]) (N+4) (λ_=>True) (λh=>mD h/\∀ns∈fY w h,∀a∈(iu w h ns).map (dA h ns),ju w a) (.aL []):=by
   refine⟨λo h M k kp _ ha dz=> ?_,λ_ _ _ _ _ _=>trivial,λo=>by simp[p_],λm o o' hz z eZ=> ?_,rfl,rfl,rfl⟩
   ·obtain⟨pj,C0⟩:=ha;have h4:=pj.len;have nu:(h.map iv).length=4:=(by rw[Tn,h4]);simp only[cX]at dz;obtain⟨Lo,lc⟩:∃Lo,Lo=aa.loop l .busy none fn T 97 #[51] Ov bo (N+2):=⟨_,rfl⟩;obtain⟨C,hC⟩:∃C,C=N+4+M.length:=⟨_,rfl⟩;obtain⟨P1,dt⟩:∃P1:Int->List aa,∀o,P1 o=AO o++([.cells w.l 76,.cells [iv i] 3,.obj (.deferred (some [])),Lo]++M):=⟨_,λ_=>rfl⟩;have ek:∀o,(P1 o).length=C:=λo=>(by rw[dt,hC];simp[p_];omega);have p0:∀o L,(P1 o++L)[H.length]?=some (.cells x.l 26):=λo L=>(by rw[dt,SC];exact a0 _ _);have p1:∀o L,(P1 o++L)[H.length+1]?=some (.cells [iv s] 3):=λo L=>(by rw[dt,SC];exact a1 _ _);have p2:∀o L,(P1 o++L)[H.length+2]?=some (.cells [iv q] 3):=λo L=>(by rw[dt,SC];exact a2 _ _);have p5:∀o L,(P1 o++L)[H.length+5]?=some (.cells w.l 76):=λo L=>(by rw[dt,SC];exact a5 _ _);have p6:∀o L,(P1 o++L)[H.length+6]?=some (.cells [iv o] 3):=λo L=>(by rw[dt,SC];exact a6 _ _);have ps6:∀o o' L,(P1 o++L).set (H.length+6) (.cells [iv o'] 3)=P1 o'++L:=λo o' L=>(by rw[dt o,dt o',SC (AO o),SC (AO o')];exact as6 _ _ _);have MX:∀o L,(P1 o++L)[N+3]?=some Lo:=λo L=>(by rw[dt,SC,ag];rfl);have Ng:∀o (L:List aa) y,(P1 o++L).set (N+3) y=AO o++([.cells w.l 76,.cells [iv i] 3,.obj (.deferred (some [])),y]++M)++L:=λo L y=>(by rw[dt,SC,uk];simp);have pb:∀o (L:List aa)(j:Nat),(P1 o++L)[C+j]?=L[j]?:=λo L j=>(by rw[<- ek o,aX]);have wJ:∀o (L:List aa),(P1 o++L)[C]?=L[0]?:=λo L=>pb o L 0;have pb1:∀o (L:List aa),(P1 o++L)[C+1]?=L[1]?:=λo L=>pb o L 1;have pb2:∀o (L:List aa),(P1 o++L)[C+2]?=L[2]?:=λo L=>pb o L 2;have AI:∀o (L:List aa)(j:Nat)(y:aa),(P1 o++L).set (C+j) y=P1 o++L.set j y:=λo L j y=>(by rw[<- ek o,dU]);have ps1:∀o (L:List aa)(y:aa),(P1 o++L).set (C+1) y=P1 o++L.set 1 y:=λo L y=>AI o L 1 y;have ps2:∀o (L:List aa)(y:aa),(P1 o++L).set (C+2) y=P1 o++L.set 2 y:=λo L y=>AI o L 2 y;have Az:∀m o o',(∀z∈P1 o,fb m z)->∀z∈P1 o',fb m z:=λm o o' hz z eZ=>by
     rw[dt]at hz eZ;rcases SR.1 eZ with h'|h'
     ·exact MM m o o' (λz uZ=>hz z (Tf _ uZ)) z h'
     ·exact hz z (S4 _ h')
    subst hT xH qf;rw[SC];refine vR (id:=N+3) (by rw[ag];rfl) rfl (by kernel_rfl) λoi JI=> ?_;simp only[sq];have we:T7 4 [iv 0,iv 0,iv 0,iv 0]=[]:=rfl;refine ai ?_;simp only[seval,h4,we];unfold ui;refine⟨none,fn,_,97,#[51],_,_,_,by rw[ag];rfl,?_⟩;dsimp only;rw[uk];simp only[UF,TZ];rw[<- lc];have xC:(AO o).length+(M.length+1+1+1+1)=C:=(by rw[p_,hC];omega);rw[xC];have xQ:∀z:aa,(AO o++aa.cells w.l 76::aa.cells [AV.val (SF SD ↑i)] 3::aa.obj (aud (some []))::Lo::(M++[z]))=P1 o++[z]:=λz=>(by rw[dt];simp[iv]);rw[xQ];obtain⟨own,ep⟩:∃own,own=bZ h y:=⟨_,rfl⟩;refine cq ?_;refine oW [7,8] [0,1,2,3,4,5,6,7,8] [⟨0,false,[],[([7],[7])]⟩,⟨1,false,[],[([7],[7])]⟩,⟨2,false,[],[([7],[7])]⟩,⟨3,false,[],[([7],[7])]⟩,⟨4,false,[],[([7],[7])]⟩,⟨5,false,[],[([7],[7])]⟩,⟨6,false,[],[([7],[7])]⟩,⟨7,true,[7],[]⟩,⟨8,true,[7,8],[]⟩] (λD=>bif isDone 8 D then P1 o++[.cells (h.map iv) 83,.cells [wv own] 79]else bif isDone 7 D then P1 o++[.cells (h.map iv) 83,.cells [.val (.int .u16 0)] 79]else P1 o++[.cells (h.map iv) 83]) ?_;simp only[seval,ek,wJ,pb1,ps1,p0,p1,h4,nu,Rs,DO hs,jc cH];have hmE:Ui 4 (U9 (λn=>AV.val (SF SD n)) h)=h.map iv:=SX (by rw[nu];exact SQ _);rw[hmE];refine iw (wv own) (cx (EZ (h:=h) (y:=y) pj ⟨by rw[ep],rfl⟩)) ?_;refine⟨iw (wv own) (cx (EZ (h:=h) (y:=y) pj ⟨by rw[ep],rfl⟩)) rfl,?_⟩;(try simp only[seval,wv]);have hm3:U9 (λn=>AV.val (SF SD n)) h=h.map iv:=rfl;rw[hm3];refine ai ?_;simp only[seval,pb1];refine aD ?_;refine⟨λhz=> ?_,λhz=> ?_⟩
    ·refine bX ?_;have eZ:own=0:=(by simpa using hz);have e1:vH w y q o h=o:=(by unfold vH;rw[<- ep,if_pos eZ]);rw[e1]at dz;show oT _ _ _ _ _ _ _;refine⟨l,.busy,none,fn,_,97,#[51],_,_,N+2,by show (P1 _++_)[_]?=_;rw[MX,lc],?_⟩;show cF C ((P1 _++_).set _ _) _ k;rw[Ng];rw[SC]at dz;exact jy (G:=[.cells (h.map iv) 83,.cells [wv own] 79]) (Wk.refl _) rfl (by rw[hC];simp[p_];omega) oi (.val _) dz
    ·refine aN ?_;refine ai ?_;simp only[seval,ek];refine ai ?_;simp only[seval,p5,wJ,RX,h4,nu];have akC:Ui 4 (U9 iv h)=h.map iv:=SX (by rw[nu];exact SQ _);rw[akC];refine aI ((Ji (x:=w) (h:=h) (deep:=1) ?_));(try simp only[seval]);have eZ:own≠0:=(by simpa using hz);have akO:own<65536:=by
      rw[ep];have:bZ h y<2^9:=EK;omega
     refine cq ?_;refine EH (N+3) (by rfl) (by show (P1 _++_)[N+3]?=_;rw[MX,lc]) λl2 eQ T2 gC gE oo xI xK=> ?_;simp only[seval];rw[ek]at oo⊢;have okm:∀v m m',(∀z∈[aa.cells (h.map iv) 83,.cells [wv own] 79,.cells [wv m] 79,.cells w.l 76,.cells (h.map iv) 83,.cells [iv 1] 3,.loop l2 .ready none eQ T2 97 #[64] gC gE (N+2)],fb v z)->∀z∈[aa.cells (h.map iv) 83,.cells [wv own] 79,.cells [wv m'] 79,.cells w.l 76,.cells (h.map iv) 83,.cells [iv 1] 3,.loop l2 .ready none eQ T2 97 #[64] gC gE (N+2)],fb v z:=λv m m' hz z eZ=>by
      simp only[SK,S0,or_false]at eZ;rcases eZ with rfl|rfl|rfl|rfl|rfl|rfl|rfl
      ·exact hz _ (by simp)
      ·exact hz _ (by simp)
      ·intro a ha;rw[S8]at ha;subst ha;exact .val _
      ·exact hz _ (by simp)
      ·exact hz _ (by simp)
      ·exact hz _ (by simp)
      ·exact hz (.loop l2 .ready none eQ T2 97 #[64] gC gE (N+2)) (by simp)
     have xG:jU lv SA (.fn (.yield l2) [] []) (λm t=> .go (q_ own q m t)) (λm:Int×Nat=>P1 m.1++[.cells (h.map iv) 83,.cells [wv own] 79,.cells [wv m.2] 79,.cells w.l 76,.cells (h.map iv) 83,.cells [iv 1] 3,.loop l2 .ready none eQ T2 97 #[64] gC gE (N+2)]) (C+7) (λm=>m.2<65536) (ju w) (.aL []):=by
      refine⟨λm t M2 k2 yj hm ht ln=> ?_,λm t m' hm ht he=> ?_,λm=>by simp[ek],λv m m' hz z eZ=> ?_,rfl,rfl,rfl⟩
      ·obtain⟨o2,met⟩:=m;replace hm:met<65536:=hm;have qz:=ht.len;have Al:(t.map iv).length=11:=(by rw[Tn,qz]);simp only[cX]at ln;have Ge:w.pieces.length=x.pieces.length:=(by rw[hw];rfl);obtain⟨n,lT,hn9,_⟩:=ht.num q (by rw[Ge];exact hq);have F_:mz t q=n:=(by unfold mz;rw[SE,lT];rfl);obtain⟨pP,sY⟩:∃Lo,Lo=aa.loop l2 .busy none eQ T2 97 #[64] gC gE (N+2):=⟨_,rfl⟩;obtain⟨D,hD⟩:∃D,D=C+7+M2.length:=⟨_,rfl⟩;obtain⟨Q1,gh⟩:∃Q1:Int->Nat->List aa,∀o m,Q1 o m=P1 o++([.cells (h.map iv) 83,.cells [wv own] 79,.cells [wv m] 79,.cells w.l 76,.cells (h.map iv) 83,.cells [iv 1] 3,pP]++M2):=⟨_,λ_ _=>rfl⟩;have QX:∀o m,(Q1 o m).length=D:=λo m=>(by rw[gh,hD];simp[ek];omega);have q2:∀o m L,(Q1 o m++L)[H.length+2]?=some (.cells [iv q] 3):=λo m L=>(by rw[gh,SC];exact p2 _ _);have q6:∀o m L,(Q1 o m++L)[H.length+6]?=some (.cells [iv o] 3):=λo m L=>(by rw[gh,SC];exact p6 _ _);have qs6:∀o o' m L,(Q1 o m++L).set (H.length+6) (.cells [iv o'] 3)=Q1 o' m++L:=λo o' m L=>(by rw[gh o,gh o',SC (P1 o),SC (P1 o')];exact ps6 _ _ _);have qo:∀o m L,(Q1 o m++L)[C+1]?=some (.cells [wv own] 79):=λo m L=>(by rw[gh,SC,pb];rfl);have qm:∀o m L,(Q1 o m++L)[C+2]?=some (.cells [wv m] 79):=λo m L=>(by rw[gh,SC,pb];rfl);have qsm:∀o m m' L,(Q1 o m++L).set (C+2) (.cells [wv m'] 79)=Q1 o m'++L:=λo m m' L=>(by rw[gh o m,gh o m',SC (P1 o),AI,SC (P1 o)];rfl);have ql:∀o m L,(Q1 o m++L)[C+6]?=some pP:=λo m L=>(by rw[gh,SC,pb];rfl);have qsl:∀o m L y,(Q1 o m++L).set (C+6) y=(P1 o++([.cells (h.map iv) 83,.cells [wv own] 79,.cells [wv m] 79,.cells w.l 76,.cells (h.map iv) 83,.cells [iv 1] 3,y]++M2))++L:=λo m L y=>(by rw[gh,SC,AI];simp);have qc:∀o m (L:List aa),(Q1 o m++L)[D]?=L[0]?:=λo m L=>(by rw[<- QX o m];exact aX _ L 0);have G4:∀o (L:List aa),(P1 o++L)[C+6]?=L[6]?:=λo L=>pb o L 6;have tg:∀(o':Int)(m':Nat)(G:List aa),bI (P1 o2++([aa.cells (h.map iv) 83,.cells [wv own] 79,.cells [wv met] 79,.cells w.l 76,.cells (h.map iv) 83,.cells [iv 1] 3,.loop l2 .ready none eQ T2 97 #[64] gC gE (N+2)]++M2))->k2 (.val (.bool true)) (P1 o'++([aa.cells (h.map iv) 83,.cells [wv own] 79,.cells [wv m'] 79,.cells w.l 76,.cells (h.map iv) 83,.cells [iv 1] 3,.loop l2 .ready none eQ T2 97 #[64] gC gE (N+2)]++M2))->cF D ((Q1 o' m'++G).set (C+6) (.loop l2 .ready none eQ T2 97 #[64] gC gE (N+2))) (.val (.bool true)) k2:=λo' m' G au aJ=>by
        rw[qsl];refine jy (G:=G) (Wk.refl _) rfl (by rw[hD];simp[ek];omega) ?_ (.val _) aJ;intro z hz;have hlen:(P1 o'++([aa.cells (h.map iv) 83,.cells [wv own] 79,.cells [wv m'] 79,.cells w.l 76,.cells (h.map iv) 83,.cells [iv 1] 3,.loop l2 .ready none eQ T2 97 #[64] gC gE (N+2)]++M2)).length=(P1 o2++([aa.cells (h.map iv) 83,.cells [wv own] 79,.cells [wv met] 79,.cells w.l 76,.cells (h.map iv) 83,.cells [iv 1] 3,.loop l2 .ready none eQ T2 97 #[64] gC gE (N+2)]++M2)).length:=(by simp[ek]);rw[hlen];rcases SR.1 hz with h'|h'
        ·exact Az _ o2 o' (λz hz=>au z (Tf _ hz)) z h'
        ·rcases SR.1 h' with h'|h'
         ·exact okm _ met m' (λz hz=>au z (S4 _ (Tf _ hz))) z h'
         ·exact au z (S4 _ (S4 _ h'))
       subst oo xI xK;rw[SC];refine vR (id:=C+6) (by rw[G4];rfl) rfl (by kernel_rfl) λrq JJ=> ?_;simp only[sq];have Ct:T7 11 [iv 0,iv 0,iv 0,iv 0,iv 0,iv 0,iv 0,iv 0,iv 0,iv 0,iv 0]=[]:=rfl;refine ai ?_;simp only[seval,qz,Ct];unfold ui;refine⟨none,eQ,_,97,#[64],_,_,_,by rw[G4];rfl,?_⟩;dsimp only;rw[AI];simp only[UF,TZ];rw[<- sY];have Ca:(P1 o2).length+(M2.length+1+1+1+1+1+1+1)=D:=(by rw[ek,hD];omega);rw[Ca];have iQ:∀z:aa,(P1 o2++aa.cells (U9 iv h) 83::aa.cells [AV.val (SF S6 ↑own)] 79::aa.cells [AV.val (SF S6 ↑met)] 79::aa.cells w.l 76::aa.cells (U9 iv h) 83::aa.cells [AV.val (SF SD 1)] 3::pP::(M2++[z]))=Q1 o2 met++[z]:=λz=>(by rw[gh];simp[iv]);rw[iQ];have b4:(0<=(q:Int)/\(q:Int)<4)=True:=(by simp;omega);have pf:=kX (i:=4+q) lT;refine ai ?_;simp only[seval,q2,qc,b4,pf];refine ai ?_;simp only[seval,qm];refine aI ((xu (m:=met) (n:=n) hm ?_));(try simp only[seval]);refine aD ?_;refine⟨λhb=> ?_,λhb=> ?_⟩
       ·refine bX ?_;have e1:q_ own q (o2,met) t=(o2,met):=(by unfold q_;rw[F_,if_pos hb]);rw[e1]at ln;rw[SC]at ln;show oT _ _ _ _ _ _ _;refine⟨l2,.busy,none,eQ,_,97,#[64],_,_,N+2,by show (Q1 _ _++_)[_]?=_;rw[ql,sY],?_⟩;exact tg o2 met _ rq ln
       ·refine aN ?_;have dD:met.testBit n=false:=(by simpa using hb);have e1:q_ own q (o2,met) t=(Dn (fH own 0 16) n o2,met|||2^n):=(by unfold q_;rw[F_,if_neg (by simpa using hb)]);rw[e1]at ln;rw[SC]at ln;refine ai ?_;simp only[seval,qm];refine aI ((uu (m:=met) (n:=n) hm (by omega) ?_));(try simp only[seval,qm,qsm,wv]);refine ai ?_;simp only[seval,qo];refine aI ((Jf (s:=own) (more:=0) akO (by decide) ?_));(try simp only[seval,a_]);have RU:∀v∈fH own 0 16,0<=v/\v<16:=λv hv=>by
         unfold fH at hv;obtain⟨j,hj,rfl⟩:=Tl.1 hv;have:=Tx.1 (Uw.1 hj).1;omega
        have fF:=Mr own 0 16;generalize fH own 0 16=ls at RU fF ln⊢;obtain⟨oj,kJ⟩:∃oj:Nat->Int,∀j,oj j=Dn (ls.take j) n o2:=⟨_,λ_=>rfl⟩;have akQ:oj 0=o2:=(by rw[kJ];rfl);generalize met|||2^n=aaX at ln⊢;refine cq ?_;refine gD ls.length (λj:Nat=>[(78,iv j)]) (λj=>Q1 (oj j) aaX++[.cells (t.map iv) 86]) (λ_=>True) (λ_ _=>rfl) (by simp only[seval];simp[bu,Wk.refl]) (by rw[akQ]) (λ_ _ _=>by simp[QX]) trivial (λbQ cP j oz _ R hR=> ?_);clear bQ cP;refine ak ?_;refine aD ?_;refine⟨λh1=> ?_,λh1=> ?_⟩
        ·have eU:j<ls.length:=(by omega);obtain⟨v,hv⟩:=b9 eU;have hvb:=RU v (tP hv);have cQ:oj (j+1)=aa4 n (oj j) v:=by
          rw[kJ,kJ,Dn,Dn];obtain⟨akv,yb⟩:=SL.1 hv;rw[Vk akv,ZM,yb];rfl
         have hwa:SD.wrap (v-(n:Int))=v-n:=bA _ (by omega);have Gd:SD.wrap ((n:Int)-v)=n-v:=bA _ (by omega);have fQ:SD.wrap ((j:Int)+1)=((j+1:Nat):Int):=(by rw[bA _ (by omega)];rfl);have ajz:(2<=2^24)=True:=eq_true (by decide);refine aN ?_;refine ai ?_;simp only[seval,e9 hv,jc eU];refine ai ?_;simp only[seval,q6,z2,ajz,hwa,Gd];have CG:(if v-(n:Int)<(n:Int)-v then(n:Int)-v else v-(n:Int))=max (v-n) (n-v):=(by split<;>omega);rw[CG];refine aI ((ail (ns:=[oj j,max (v-n) (n-v)]) (by simp) ?_));(try simp only[seval,q6,qs6]);refine ai ?_;simp only[seval,fQ];refine hR _ ⟨eU,trivial,?_⟩;rw[cQ];exact da
        ·have uK:j=ls.length:=(by omega);subst uK;refine bX ?_;show oT _ _ _ _ _ _ _;refine⟨l2,.busy,none,eQ,_,97,#[64],_,_,N+2,by show (Q1 _ _++_)[_]?=_;rw[ql,sY],?_⟩;exact tg (oj ls.length) aaX _ rq (by rw[kJ,TG];exact ln)
      ·cases he;show (q_ own q m t).2<65536;unfold q_;split
       ·exact hm
       ·obtain⟨n,lT,hn9,_⟩:=ht.num q (by rw[hw];exact hq);have F_:mz t q=n:=(by unfold mz;rw[SE,lT];rfl);rw[F_];exact pI hm (wR (by omega))
      ·rcases SR.1 eZ with h'|h'
       ·exact Az v m.1 m'.1 (λz uZ=>hz z (Tf _ uZ)) z h'
       ·exact okm v m.2 m'.2 (λz uZ=>hz z (S4 _ uZ)) z h'
     refine cx (Jm (x:=w) (h:=h) (deep:=1) (ir:=C+3) (ih:=C+3+1) (id:=C+3+2) (σ:=(o,0)) LM pj xG (λm L=> ?_) (λm L=> ?_) (λm L=> ?_) (λn=>by simp[jL]) (show (0:Nat)<65536 by decide) (λa ha=>ha.len) C0 ?_)
     ·rw[SC];exact pb _ _ 3
     ·rw[SC];exact pb _ _ 4
     ·rw[SC];exact pb _ _ 5
     rw[DF (g:=q_ own q) (λ_ _=>rfl)];simp only[f_,SO];have e1:vH w y q o h=((iI w 1 h).foldl (q_ own q) (o,0)).1:=(by unfold vH;rw[<- ep,if_neg eZ]);generalize(iI w 1 h).foldl (q_ own q) (o,0)=r at e1⊢;rw[e1]at dz;have G4:∀o (L:List aa),(P1 o++L)[C+6]?=L[6]?:=λo L=>pb o L 6;refine⟨.ready,none,_,_,_,_,_,_,_,by rw[G4];rfl,by decide,?_⟩;rw[AI,G7];(try simp only[seval]);show oT _ _ _ _ _ _ _;refine⟨l,.busy,none,fn,_,97,#[51],_,_,N+2,by show (P1 _++_)[_]?=_;rw[MX,lc],?_⟩;show cF C ((P1 _++_).set _ _) _ k;rw[Ng];rw[SC]at dz;exact jy (G:=[.cells (h.map iv) 83,.cells [wv own] 79,.cells [wv r.2] 79,.cells w.l 76,.cells (h.map iv) 83,.cells [iv 1] 3,.gone]) (Wk.refl _) rfl (by rw[hC];simp[p_];omega) (okX _ o r.1 oi) (.val _) dz
   ·rcases SR.1 eZ with h'|h'
    ·exact MM m o o' (λz uZ=>hz z (Tf _ uZ)) z h'
    ·exact hz z (S4 _ h')
  refine cx (Jk (x:=w) (bi:=i) (ir:=N) (it:=N+1) (σ:=fo i) LM hY (λo L=> ?_) (λo L=> ?_) qi (λn=>by simp[jL]) trivial (λa ha=>JH a ha) ?_)
  ·rw[SC];exact ag _ _ 0
  ·rw[SC];exact ag _ _ 1
  rw[DF (g:=vH w y q) (λ_ _=>rfl)];simp only[f_,SO];have zS:(kv w i).foldl (vH w y q) (fo i)=fo (i+1):=by rw[wi,wi,y_]
  rw[zS];have ye:SD.wrap ((i:Int)+1)=((i+1:Nat):Int):=by rw[bA _ (by omega)];rfl
  refine⟨.ready,none,_,_,_,_,_,_,_,by show (AO _++_)[N+3]?=_;rw[ag];rfl,by decide,?_⟩;rw[show N+2+1=N+3 from rfl,uk,G6];(try simp only[seval]);refine EI ?_;refine ai ?_;simp only[seval,ye];refine⟨i+1,?_,by omega,ey (by push_cast;simp only[seval];simp[bu,Wk.refl]) (by rw[p9,oV,SC];rfl),by rw[xd,hN]⟩;show p+1-(i+1)<p+1-i;omega
 ·have dx:i=p+1:=by omega
  subst dx;refine bX ?_;have If:∀o,(AO o)[H.length+6]?=some (.cells [iv o] 3):=λo=>by have:=a6 o [];rwa [SO]at this
  have nI:x.am.toNat=p:=by omega
  rw[nI]at hk;have aJ:=hk (fo (p+1)) (by rw[wi,hw]);generalize fo (p+1)=o at aJ⊢;(try refine nd ?_);refine ai ?_;simp only[seval,If];obtain⟨Y,v4⟩:=Oy w (Bo o) (p+1) [];rw[SO,fP]at v4;have Q8:iN (xd (H.length+7) (p+1)) (AO o)=some (H++([.cells x.l 26,.cells [iv s] 3,.cells [iv q] 3,.cells x.l 26,.cells [.sl 1 [iv q] .exact] 22,.cells w.l 76,.cells [iv o] 3]++Y)):=by rw[p9,v4,rn,SC]
  (try refine nd ?_);refine aD ?_;refine⟨λho=> ?_,λho=> ?_⟩
  ·have bf:o<0:=(by simpa using ho);rw[if_pos bf,if_pos bf]at aJ;refine ak ?_;refine aZ ?_;refine d_ Q8 ?_;(try simp only[seval]);exact iM hH (Wk.refl _) (by simp[jL,eK]) aJ
  ·have bf:¬o<0:=(by simpa using ho);rw[if_neg bf,if_neg bf]at aJ;refine aN ?_;refine It ?_;have If:∀o,(AO o)[H.length+6]?=some (.cells [iv o] 3):=λo=>(by have:=a6 o [];rwa [SO]at this);refine ai ?_;simp only[seval,If];refine aZ ?_;refine d_ Q8 ?_;(try simp only[seval]);exact iM hH (Wk.refl _) (by simp[jL,eK]) aJ
end
open Go.Conc Go.Proofs Go.Gg.Tk
namespace Tk
def fK:aj:=⟨10,3,2,[⟨2,⟨12,13⟩⟩],[⟨⟨10,12⟩,⟨0,1⟩⟩,⟨⟨11,11⟩,⟨0,2⟩⟩,⟨⟨12,15⟩,⟨1,2⟩⟩],[⟨⟨12,12⟩,⟨0,2⟩⟩,⟨⟨10,15⟩,⟨2,2⟩⟩]⟩
def tT:aj:={fK with aB:=[⟨⟨15,15⟩,⟨0,0⟩⟩,⟨⟨10,15⟩,⟨2,2⟩⟩]}
end Tk
theorem adF:gM (TE #[SF .i64 0,SF .i64 0,SF .i64 0]) 3=[iv 0,iv 0,iv 0]:=rfl
theorem adE:gM (TE #[SF .i64 0,SF .i64 0,SF .i64 0,SF .i64 0]) 12=TH 12 (iv 0):=rfl
theorem adD:gM (TE #[SF .i64 0,SF .i64 0,SF .i64 0,SF .i64 0]) 8=[iv 0,iv 0,iv 0,iv 0,iv 0,iv 0,iv 0,iv 0]:=rfl
theorem ab0:TH 12 (iv 0)=[iv 0,iv 0,iv 0,iv 0,iv 0,iv 0,iv 0,iv 0,iv 0,iv 0,iv 0,iv 0]:=rfl
theorem abB:(3<=2^24)=True:=eq_true (by decide)
theorem abC:(8<=2^24)=True:=eq_true (by decide)
theorem abA:(12<=2^24)=True:=eq_true (by decide)
section
variable {lv:Bool}{H:List aa}{k kp:AV->List aa->Prop}
theorem xr(hk:k fK.av H):bh lv SA 53 H [] k kp:=by
 refine bF (rs:=[.cell 0 26]) (nt:=11) al' λhH hA=> ?_;simp only[bk,SV];refine ak ?_;refine ak ?_;refine aI ((P8 (a:=2) (b:=12) (c:=13) ?_));(try simp only[seval,Seen.av,Seen.l,iL.av,adF,abB]);refine aI ((rj (a:=10) (b:=12) (c:=0) (d:=1) ?_));(try simp only[seval]);refine aI ((rj (a:=11) (b:=11) (c:=0) (d:=2) ?_));(try simp only[seval]);refine aI ((rj (a:=12) (b:=15) (c:=1) (d:=2) ?_));(try simp only[seval,aC.av,aC.l,adE,ab0,abA]);refine aI ((rj (a:=12) (b:=12) (c:=0) (d:=2) ?_));(try simp only[seval]);refine aI ((rj (a:=10) (b:=15) (c:=2) (d:=2) ?_));have aT:∀(L:List aa),(H++L)[H.length]?=L[0]?:=λL=>aX H L 0;have db:∀(L:List aa)(y:aa),(H++L).set H.length y=H++L.set 0 y:=λL y=>dU H L 0 y;(try simp only[seval,aC.av,aC.l,adD,abC,aT,db]);refine n_ ?_;simp only[seval,aT];refine iM hH (b:=fK.av) (HF (.cons (Wk.refl _) (.cons (Wk.refl _) (.cons (Wk.refl _) (.cons (g_ _ _ _) (.cons (g_ _ _ _) (.cons (g_ _ _ _) .nil))))))) (by rw[Dj];trivial) hk
theorem aif(hk:∀X:aa,k (.agg [iv 10,iv 3,iv 2,.sl 1 (fK.seen.flatMap Seen.l) .exact,.sl 3 (fK.pieces.flatMap aC.l) .exact,.bw (H.length+1) 0 2 2]) (H++[X,.cells (fK.aB.flatMap aC.l) 48])):bh lv SA 53 H [] k kp:=by
 refine bF (rs:=[.cell 0 26]) (nt:=11) al' λhH hA=> ?_;simp only[bk,SV];refine ak ?_
 (repeat apply iA);refine afl 8 (by kernel_rfl) ?_
 simp only[seval];refine aI ((P8 (a:=2) (b:=12) (c:=13) ?_));(try simp only[seval,Seen.av,Seen.l,iL.av,adF,abB]);refine aI ((rj (a:=10) (b:=12) (c:=0) (d:=1) ?_));(try simp only[seval]);refine aI ((rj (a:=11) (b:=11) (c:=0) (d:=2) ?_));(try simp only[seval]);refine aI ((rj (a:=12) (b:=15) (c:=1) (d:=2) ?_));(try simp only[seval,aC.av,aC.l,adE,ab0,abA]);refine aI ((rj (a:=12) (b:=12) (c:=0) (d:=2) ?_));(try simp only[seval]);refine aI ((rj (a:=10) (b:=15) (c:=2) (d:=2) ?_));have aT:∀(L:List aa),(H++L)[H.length]?=L[0]?:=λL=>aX H L 0;have db:∀(L:List aa)(y:aa),(H++L).set H.length y=H++L.set 0 y:=λL y=>dU H L 0 y;(try simp only[seval,aC.av,aC.l,adD,abC,aT,db]);refine n_ ?_;simp only[seval,aT];exact bW (hk _)
theorem aig(hk:k tT.av H):bh lv SA 54 H [] k kp:=by
 refine bF (rs:=[.cell 0 26]) (nt:=8) Tryz.f54 λhH hA=> ?_;simp only[bk,SV];have gn:∀(L:List aa)(j:Nat),(H++L)[H.length+j]?=L[j]?:=λL j=>aX H L j;have Ah:∀(L:List aa)(j:Nat)(y:aa),(H++L).set (H.length+j) y=H++L.set j y:=λL j y=>dU H L j y;have aT:∀(L:List aa),(H++L)[H.length]?=L[0]?:=λL=>aX H L 0;have db:∀(L:List aa)(y:aa),(H++L).set H.length y=H++L.set 0 y:=λL y=>dU H L 0 y;refine ak ?_;refine ak ?_;refine aI ((aif (λX=> ?_)));simp only[SC,Vh,UJ];have lf:∀(L:List aa),(H++L)[H.length+2]?=L[2]?:=λL=>aX H L 2;have fW:∀(L:List aa)(y:aa),(H++L).set (H.length+2) y=H++L.set 2 y:=λL y=>dU H L 2 y;have zO:∀(L:List aa),(H++L)[H.length+3]?=L[3]?:=λL=>aX H L 3;have py:∀(L:List aa)(y:aa),(H++L).set (H.length+3) y=H++L.set 3 y:=λL y=>dU H L 3 y;have hrx:fK.aB.flatMap aC.l=[iv 12,iv 12,iv 0,iv 2,iv 10,iv 15,iv 2,iv 2]:=rfl;rw[hrx];have e2:H.length+1+1=H.length+2:=rfl;(try simp only[seval,zO,py,e2]);refine eO 4 ?_;simp only[seval,lf,fW,zO];refine iw _ (cx (rj (a:=15) (b:=15) (c:=0) (d:=0) ⟨rfl,rfl⟩)) ?_;(try simp only[seval,aC.av,aC.l,lf,fW]);obtain⟨rs,CR⟩:∃rs,rs=tT.aB.flatMap aC.l:=⟨_,rfl⟩;have alo:[AV.val (SF SD 15),AV.val (SF SD 15),AV.val (SF SD 0),AV.val (SF SD 0),AV.val (SF SD 10),AV.val (SF SD 15),AV.val (SF SD 2),AV.val (SF SD 2)]=rs:=by rw[CR];rfl
 have tE:rs.length=8:=by rw[CR];rfl
 rw[alo];refine ai ?_;simp only[seval,aT,db,zO]
 (repeat apply iA);refine Ir (id:=H.length+2) (by simp only[seval,lf]<;>rfl) ?_
 simp only[seval,fW,tE]
 (repeat apply iA);refine Is (id:=H.length) (j:=5) (y:=aW tT.aB) (by simp only[seval,aT]<;>rfl) rfl ?_ ?_
 ·have e:aW tT.aB=.sl 2 (rs.take 8) .shut:=by rw[SX (by omega),CR];rfl
  rw[e];exact HE (p:=8) (by simp only[seval,lf]<;>rfl) (by omega) (by omega)
 (try simp only[seval,db]);refine n_ ?_;simp only[seval,aT];refine iM hH (b:=tT.av) (HF (.cons (Wk.refl _) (.cons (Wk.refl _) (.cons (Wk.refl _) (.cons (g_ _ _ _) (.cons (g_ _ _ _) (.cons (Wk.refl _) .nil))))))) (by rw[Dj];trivial) hk
end
open Go.Gg.Tk
theorem yB:fK.Ok:=by
 refine⟨by decide,by decide,by decide,by decide,by decide,by decide,λs hs=> ?_,λy hy=> ?_,λy hy=> ?_⟩
 ·simp only[fK,S8]at hs;subst hs;exact⟨by decide,by decide,by decide,by decide⟩
 ·simp only[fK,SK,S0,or_false]at hy;rcases hy with rfl|rfl|rfl<;>exact⟨⟨by decide,by decide,by decide⟩,⟨by decide,by decide,by decide⟩⟩
 ·simp only[fK,SK,S0,or_false]at hy;rcases hy with rfl|rfl<;>exact⟨⟨by decide,by decide,by decide⟩,⟨by decide,by decide,by decide⟩⟩
theorem anF:tT.Ok:=by
 refine⟨by decide,by decide,by decide,by decide,by decide,by decide,λs hs=> ?_,λy hy=> ?_,λy hy=> ?_⟩
 ·simp only[tT,fK,S8]at hs;subst hs;exact⟨by decide,by decide,by decide,by decide⟩
 ·simp only[tT,fK,SK,S0,or_false]at hy;rcases hy with rfl|rfl|rfl<;>exact⟨⟨by decide,by decide,by decide⟩,⟨by decide,by decide,by decide⟩⟩
 ·simp only[tT,SK,S0,or_false]at hy;rcases hy with rfl|rfl<;>exact⟨⟨by decide,by decide,by decide⟩,⟨by decide,by decide,by decide⟩⟩
theorem ahA:cnt fK=4:=by kernel_rfl
theorem ahD:live fK=[[10,11,13,14],[10,11,13,15],[10,12,13,14],[10,12,13,15]]:=by kernel_rfl
theorem ahB:(b_ fK).head?=some ⟨[10,11,13,14],[12,11,13],[0,2]⟩:=by kernel_rfl
theorem ahE:xg (Dr fK 2) 10 16=[13,14]:=by kernel_rfl
theorem PT:tU fK 0 0=true/\Dv fK 0 0=false:=by decide+kernel
theorem PR:zv tT=some [0]:=by kernel_rfl
theorem ahy:y_ (fK.wo [1]) ⟨⟨10,15⟩,⟨2,2⟩⟩ 0 3=1:=by kernel_rfl
open Go.Conc Go.Proofs
theorem Tk.Bounds.of_map{l:List (List Int)}{g:List Int->List Int}{v w:List Int->Int}{a b:Int}(h:Bounds (l.map g) v a b)(e:∀y∈l,v (g y)=w y):Bounds l w a b:=by
 obtain⟨g1,m1,e1⟩:=h.Gp;obtain⟨g2,m2,e2⟩:=h.Gn;obtain⟨y1,n1,rfl⟩:=Tl.1 m1;obtain⟨y2,n2,rfl⟩:=Tl.1 m2;exact⟨⟨y1,n1,e1.trans (e y1 n1)⟩,λy hy=>by rw[<- e y hy];exact h.le _ (Tl.2 ⟨y,hy,rfl⟩),⟨y2,n2,e2.trans (e y2 n2)⟩,λy hy=>by rw[<- e y hy];exact h.ge _ (Tl.2 ⟨y,hy,rfl⟩)⟩
theorem an4{h:List Int}{i:Nat}(hi:i<h.length):(cL h).getD i 0=h.getD i 0:=by
 unfold cL;rw[SE,SE,SW hi]
theorem amJ{x:aj}{h:List Int}(hm:h∈live x):h.length=1+x.hours.toNat:=KL (Uw.1 hm).1
theorem aov{x:aj}{D:Kn}(hx:x.Ok)(hD:fM x 0 D)(hh:D.has=true){hs:List (List Int)}(hp:hs.Perm D.aK)(v:List Int->Int)(w:List Int->Int)(e:∀y∈live x,v (cL y)=w y):Bounds (live x) w (hs.foldl (λb h=>b.add (v h)) (⟨0,0,false⟩:hO)).lo (hs.foldl (λb h=>b.add (v h)) (⟨0,0,false⟩:hO)).hi:=by
 have dG:=hp.trans (aaA hx hD);have aH:hs≠[]:=λh=>by
  rw[h]at dG;have:=dG.length_eq;rw[Tn]at this;have h0:live x=[]:=VD this.symm;rw[(yh hx hD).2 (Ms.1 h0)]at hh;cases hh
 exact((af0 v aH).anO dG).of_map e
theorem Mh{x:aj}{deep:Int}{D:Kn}(hx:x.Ok)(hD:fM x deep D)(hh:D.has=true):b_ x≠[]:=λh=>by
 rw[(yh hx hD).2 h]at hh;cases hh
theorem aaW{α:Type}{f:Nat->α}{l:List α}{n:Nat}(d:α)(hl:l.length=n)(h:∀i,i<n->f i=l.getD i d):(SZ n).map f=l:=by
 refine Yk λi=> ?_;rw[To];by_cases hi:i<n
 ·rw[Xx hi,UP,h i hi,SE,SY (by omega)];rfl
 ·rw[Uv (by simp;omega),Uv (by omega)];rfl
theorem ahe{x:aj}(hx:x.Ok){u:Tr}(hu:u∈b_ x){s:Nat}(hs:s<x.aB.length):(eG u).getD (8+s) 0=((u.bU.getD s 0:Nat):Int):=by
 obtain⟨h1,h2⟩:=wQ hx hu;have h3:=(Hx hx hu).1;have hh:=hx.hours;have nH:=hx.eD;have h4:=yw (h:=u.bG) (by omega);have cH:s<u.bU.length:=by omega
 have hg:(eG u)[8+s]?=some ((u.bU[s]:Nat):Int):=by
  unfold eG dA lz;have h8:(cL u.bG++((u.aA.map λn=>(n-u.bG.headD 0).toNat).map (λn:Nat=>(n:Int))++TH (4-(u.aA.map λn=>(n-u.bG.headD 0).toNat).length) (-1))).length=8:=by simp[h4];omega
  rw[S9 (by omega),h8,TR,SW (by simpa using cH),To,SY cH];rfl
 rw[SE,hg,SE,SY cH];rfl
theorem arR{x:aj}{u:Tr}(hu:u∈b_ x):u.bG.headD 0=x.first:=by
 obtain⟨h,a,b⟩:=S5.1 hu;rw[yJ b];exact(zX _ _ _ (by simp) a).2
theorem aiQ{x:aj}(hx:x.Ok){u:Tr}(hu:u∈b_ x):(eG u).take (x.hours.toNat+1)=u.bG:=by
 have hl:=(wQ hx hu).1;have hh:=hx.hours;have h1:(eG u).take (x.hours.toNat+1)=((eG u).take 4).take (x.hours.toNat+1):=by rw[U3,Wz (by omega)]
 rw[h1,I8 hx hu];exact MS (by omega)
theorem aiR{x:aj}(hx:x.Ok){u:Tr}(hu:u∈b_ x):sU x (eG u) x.pieces.length=u.aA:=by
 unfold sU;refine aaW 0 (wQ hx hu).2 λi hi=> ?_;rw[ahb hx hu hi,arR hu];omega
theorem aiS{x:aj}(hx:x.Ok){u:Tr}(hu:u∈b_ x):sV (eG u) x.aB.length=u.bU.map λn:Nat=>(n:Int):=by
 unfold sV;refine aaW 0 (by rw[Tn];exact(Hx hx hu).1) λi hi=> ?_;have hl:=(Hx hx hu).1;rw[ahe hx hu hi,SE,SE,To,SY (by omega)];rfl
theorem agc{x:aj}(hx:x.Ok):rf x= !(b_ x).isEmpty:=by
 rw[Va];unfold rf;rw[Up];have key:(∃i∈SZ (x.am.toNat+1),((kv x i).any λh=> !(iI x 0 h).isEmpty)=true)<->∃i,i<x.am.toNat+1/\eA x 0 i≠[]:=by
  refine exists_congr λi=> ?_;rw[Tx];refine and_congr_right λhi=> ?_;rw[Up,ne_eq];unfold eA;rw[Vs];constructor
  ·rintro⟨h,h1,h2⟩ h3
   rw[h3 h h1]at h2;cases h2
  ·intro h1;refine Tm λh2=>h1 λh hm=> ?_;refine Tm λh3=>h2 ⟨h,hm,?_⟩;cases hc:iI x 0 h with
   |nil=>exact absurd hc h3
   |cons=>rfl
 rw[key];have k2:(∃i,i<x.am.toNat+1/\eA x 0 i≠[])<->na x 0≠[]:=by
  unfold na;rw[<- NW hx,ne_eq,Vs];constructor
  ·rintro⟨i,h1,h2⟩ h3
   rw[zx hx h1]at h2;exact h2 (by rw[h3 i (Tx.2 h1)];rfl)
  ·intro h1;refine Tm λh2=>h1 λi hi=> ?_;refine Tm λh3=>h2 ⟨i,Tx.1 hi,?_⟩;rw[zx hx (Tx.1 hi)];simpa using h3
 rw[k2,ne_eq,Ox];cases b_ x<;>simp
section
variable {H:List aa}{k kp:AV->List aa->Prop}{x:aj}
theorem PZ(hx:x.Ok)(hm:H[0]?=some .main)(hk:k (.aL [iv (cnt x),iv 0]) H):bh true SA 21 H [x.av] k kp:=
 ahZ hx hm λD hD=>by rw[count_eq hx hD];exact hk
theorem aic{hour:Nat}(hx:x.Ok)(hh:(hour:Int)<=x.hours)(hm:H[0]?=some .main)(h0:b_ x=[]->k (.aL [.agg [iv 0,iv 0],iv 11]) H)(h1:∀lo hi,b_ x≠[]->Bounds (live x) (λh=>h.getD hour 0) lo hi->k (.aL [.agg [iv lo,iv hi],iv 0]) H):bh true SA 36 H [x.av,iv hour] k kp:=
 aib hx hh hm λD hD=>⟨λhn=>h0 ((yh hx hD).1 hn),λhy hs hp=>h1 _ _ (Mh hx hD hy) (aov hx hD hy hp (λh=>h.getD hour 0) _ λy pC=>an4 (by rw[amJ pC];have:=hx.hours;omega))⟩
theorem aia{q:Nat}(hx:x.Ok)(hq:q<x.pieces.length)(hm:H[0]?=some .main)(h0:b_ x=[]->k (.aL [a_ [],iv 11]) H)(h1:b_ x≠[]->k (.aL [a_ (xg (Dr x q) x.first 16),iv 0]) H):bh true SA 34 H [x.av,iv q] k kp:=
 ah9 hx hq hm λD hD=>⟨λhn=>h0 ((yh hx hD).1 hn),λhy=>by rw[aaN λn _=>anC hx hD hq n];exact h1 (Mh hx hD hy)⟩
theorem ah4{s q:Nat}(hx:x.Ok)(hs:s<x.aB.length)(hq:q<x.pieces.length)(hm:H[0]?=some .main)(hk:k (.aL [iv (if(b_ x).isEmpty then 0 else vM (tU x s q) (Dv x s q)),iv (if(b_ x).isEmpty then 11 else 0)]) H):bh true SA 28 H [x.av,iv s,iv q] k kp:=
 ah3 hx hs hq hm λD hD=>by rw[an7 hx hD hs,afH hx hD];exact hk
def B9 (x:aj)(i:Nat):List Int:=(SZ i).flatMap λs=>if 1<(xg (tU x s) 0 16).length then[-1]else xg (tU x s) 0 16
theorem ah2(hx:x.Ok)(hm:H[0]?=some .main)(h0:b_ x=[]->k (.aL [a_ [],iv 11]) H)(h1:b_ x≠[]->k (.aL [a_ (B9 x x.aB.length),iv 0]) H):bh true SA 26 H [x.av] k kp:=
 ah1 hx hm λD hD=>⟨λhn=>h0 ((yh hx hD).1 hn),λhy=>by
  have e:uv D.aU x.aB.length=B9 x x.aB.length:=by
   unfold uv B9;refine B0 λs hs=> ?_;rw[aaN λn _=>MT hx hD (Tx.1 hs) n]
  rw[e];exact h1 (Mh hx hD hy)⟩
theorem ahY(hx:x.Ok)(hm:H[0]?=some .main)(h0:b_ x=[]->k (.aL [a_ [],a_ [],a_ [],iv 11]) H)(h1:∀u l,b_ x=u::l->k (.aL [a_ u.bG,a_ u.aA,a_ (u.bU.map λn:Nat=>(n:Int)),iv 0]) H):bh true SA 18 H [x.av] k kp:=
 ahX hx hm λD hD=>⟨λhn=>h0 ((yh hx hD).1 hn),λhy=>by
  obtain⟨u,l,e1,e2⟩:=alY hx hD hy;have hu:u∈b_ x:=by rw[e1];simp
  rw[e2,aiQ hx hu,aiR hx hu,aiS hx hu];exact h1 u l e1⟩
end
section
variable {lv:Bool}{H:List aa}{k kp:AV->List aa->Prop}
end
end Go.Gg
namespace Go.Gg.Tk
theorem Gv{h pre:List Int}(hp:pre≠[])(ht:h.take pre.length=pre):pre.getLastD 0=h.getD (pre.length-1) 0:=by
 have hl:0<pre.length:=Vv.2 hp;have e:pre[pre.length-1]?=h[pre.length-1]?:=by
  have:(h.take pre.length)[pre.length-1]?=pre[pre.length-1]?:=by rw[ht]
  rw[<- this,Ue,if_pos (by omega)]
 rw[SE,<- e,Vl,X_]
def Good (x:aj)(k:Nat)(h:List Int):Prop:=∀j,k<=j->j<h.length->sd x j (h.getD j 0)=true/\(j+1<h.length->∃n:Nat,n<x.am.toNat+1/\h.getD (j+1) 0=h.getD j 0+n)
theorem Hu{h pre:List Int}{v:Int}:h.take (pre.length+1)=pre++[v]<->h.take pre.length=pre/\pre.length<h.length/\h.getD pre.length 0=v:=by
 constructor
 ·intro e;have hl:pre.length+1<=h.length:=by
   have:=congrArg Z2 e;rw[Ud,SN,T8]at this;omega
  have h1:=congrArg (Ui pre.length) e;rw[U3,Tw (SQ _),TG,Wz (by omega)]at h1;refine⟨h1,by omega,?_⟩;have h2:(h.take (pre.length+1))[pre.length]?=(pre++[v])[pre.length]?:=by rw[e]
  rw[Ue,if_pos (by omega),S9 (SQ _),Vf]at h2;rw[SE,h2];rfl
 ·rintro⟨h1,h2,h3⟩
  rw[VL,h1];congr 1;rw[SE,SY h2]at h3;rw[SY h2,<- h3];rfl
theorem KJ{x:aj}:∀(d:Nat)(pre h:List Int),pre≠[]->(h∈kI x d pre<->h.length=pre.length+d/\h.take pre.length=pre/\Good x (pre.length-1) h)
 |0,pre,h,hp=>by
  have hl:0<pre.length:=Vv.2 hp;unfold kI;constructor
  ·intro hm;split at hm
   ·rename_i hs;rw[S8]at hm;subst hm;refine⟨rfl,TG,λj h1 h2=> ?_⟩;have:j=h.length-1:=(by omega);subst this;rw[Gv hp TG]at hs;exact⟨hs,λh=>by omega⟩
   ·cases hm
  ·rintro⟨h1,h2,h3⟩
   have e:h=pre:=(by rw[<- h2,SX (by omega)]);subst e;have:=(h3 (h.length-1) (SQ _) (by omega)).1;rw[<- Gv hp TG]at this;rw[if_pos this];simp
 |d+1,pre,h,hp=>by
  have hl:0<pre.length:=Vv.2 hp;unfold kI;constructor
  ·intro hm;split at hm
   ·rename_i hs;obtain⟨n,hn,hm⟩:=S5.1 hm;rw[KJ d _ h (by simp)]at hm;obtain⟨h1,h2,h3⟩:=hm;rw[SN,T8]at h1 h2 h3;obtain⟨h4,h5,h6⟩:=Hu.1 h2;rw[Gv hp h4]at hs h6;refine⟨by omega,h4,λj xV FO=> ?_⟩;by_cases hj:j=pre.length-1
    ·subst hj;refine⟨hs,λ_=>⟨n,Tx.1 hn,?_⟩⟩;rw[show pre.length-1+1=pre.length by omega];exact h6
    ·exact h3 j (by omega) FO
   ·cases hm
  ·rintro⟨h1,h2,h3⟩
   obtain⟨hs,aQ⟩:=h3 (pre.length-1) (SQ _) (by omega);obtain⟨n,hn,he⟩:=aQ (by omega);rw[show pre.length-1+1=pre.length by omega]at he;rw[Gv hp h2,if_pos hs];refine S5.2 ⟨n,Tx.2 hn,?_⟩;rw[KJ d _ h (by simp),SN,T8];exact⟨by omega,Hu.2 ⟨h2,by omega,he⟩,λj xV FO=>h3 j (by omega) FO⟩
theorem anl{h:List Int}(hm:∀j,j+1<h.length->h.getD j 0<=h.getD (j+1) 0):ug h:=by
 induction h with
 |nil=>trivial
 |cons a l ih=>
  cases l with
  |nil=>trivial
  |cons b l=>
   refine⟨?_,ih λj hj=> ?_⟩
   ·have:=hm 0 (by simp);simpa using this
   ·have:=hm (j+1) (by simp at hj⊢;omega);simpa using this
theorem adc{n:Int}:∀(h:List Int)(i:Nat),ug h->(0<=fz i h n<->h.headD 0<=n/\n<h.getLastD 0)
 |[],i,_=>by simp[fz]<;>omega
 |[a],i,_=>by simp[fz]<;>omega
 |a::b::l,i,hm=>by
  obtain⟨h1,h2⟩:=hm;have ih:=adc (n:=n) (b::l) (i+1) h2;have uN:(a::b::l).getLastD 0=(b::l).getLastD 0:=by simp[Zp]
  rw[uN];unfold fz;split
  ·rename_i h;have cO:b<=(b::l).getLastD 0:=aa2 h2;constructor
   ·intro _;exact⟨h.1,by omega⟩
   ·intro _;omega
  ·rename_i h;rw[ih];have e1:(a::b::l).headD 0=a:=rfl;have e2:(b::l).headD 0=b:=rfl;rw[e1,e2];omega
where
 aa2 {b:Int}:∀{l:List Int},ug (b::l)->b<=(b::l).getLastD 0
  |[],_=>by simp
  |c::l,hm=>by
   obtain⟨h1,h2⟩:=hm;have:=aa2 h2;have e:(b::c::l).getLastD 0=(c::l).getLastD 0:=(by simp[Zp]);rw[e];omega
theorem adg{h:List Int}{n:Int}(hm:ug h):0<=jo h n<->h.headD 0<=n/\n<h.getLastD 0:=adc h 0 hm
theorem adf{n:Int}:∀(h:List Int)(i:Nat),0<=fz i h n->fz i h n+1<i+h.length
 |[],i,h=>by simp[fz]at h
 |[a],i,h=>by simp[fz]at h
 |a::b::l,i,h=>by
  unfold fz at h⊢;split
  ·simp;omega
  ·rename_i hn;rw[if_neg hn]at h;have:=adf (b::l) (i+1) h;simp at this⊢;omega
theorem aiV{h:List Int}{y:aC}{n:Int}(hm:ug h)(hf:fits h y n=true):n∈GM h:=by
 unfold fits at hf;simp only[Ti,decide_eq_true_eq]at hf;obtain⟨h1,h2⟩:=(adg hm).1 hf.1.1;unfold GM;refine Tl.2 ⟨(n-h.headD 0).toNat,Tx.2 (by omega),by omega⟩
theorem QC{α:Type}[DecidableEq α]{l:List α}{d:α}{i:Nat}(hi:i<l.length):l.Nodup->l.getD i d∉l.take i:=λhn hm=>by
 obtain⟨j,hj⟩:=U0 hm;rw[Ue]at hj;split at hj
 ·rename_i cp;rw[SE,SY hi,SY (by omega)]at hj;simp only[S7,Tj]at hj;have h2:=Ut.1 hn;exact(X9.1 h2) j i (by omega) hi cp hj
 ·cases hj
theorem aa8{α:Type}{l:List α}{d:α}(h:∀i,i<l.length->l.getD i d∉l.take i):l.Nodup:=by
 rw[Ut,X9];intro i j hi hj ku e;refine h j hj ?_;rw[SE,SY hj,S7,<- e];exact UR.2 ⟨i,by rw[Ue,if_pos ku,SY hi]⟩
theorem Hv{α:Type}{d:α}{h pre:List α}{v:α}:h.take (pre.length+1)=pre++[v]<->h.take pre.length=pre/\pre.length<h.length/\h.getD pre.length d=v:=by
 constructor
 ·intro e;have hl:pre.length+1<=h.length:=by
   have:=congrArg Z2 e;rw[Ud,SN,T8]at this;omega
  have h1:=congrArg (Ui pre.length) e;rw[U3,Tw (SQ _),TG,Wz (by omega)]at h1;refine⟨h1,by omega,?_⟩;have h2:(h.take (pre.length+1))[pre.length]?=(pre++[v])[pre.length]?:=by rw[e]
  rw[Ue,if_pos (by omega),S9 (SQ _),Vf]at h2;rw[SE,h2];rfl
 ·rintro⟨h1,h2,h3⟩
  rw[VL,h1];congr 1;rw[SE,SY h2]at h3;rw[SY h2,<- h3];rfl
theorem GO{h:List Int}(hm:ug h):∀(ys:List aC)(t ns:List Int),ns∈mS h ys t<->ns.length=t.length+ys.length/\ns.take t.length=t/\∀i y,ys[i]?=some y->fits h y (ns.getD (t.length+i) 0)=true/\ns.getD (t.length+i) 0∉ns.take (t.length+i)
 |[],t,ns=>by
  simp only[mS,S8,UN,UE];constructor
  ·rintro rfl;exact⟨rfl,TG,λi y hy=>by cases hy⟩
  ·rintro⟨h1,h2,_⟩;rw[<- h2,SX (by omega)]
 |y::ys,t,ns=>by
  simp only[mS,S5,Uw,Ti,TY,Ul];constructor
  ·rintro⟨n,⟨_,hf,ht⟩,fV⟩
   rw[GO hm ys (t++[n]) ns]at fV;obtain⟨h1,h2,h3⟩:=fV;rw[SN,T8]at h1 h2 h3;obtain⟨h4,h5,h6⟩:=(Hv (d:=0)).1 h2;refine⟨by omega,h4,λi z hz=> ?_⟩
   match i,hz with
   |0,hz=>
    cases hz;rw[UE,h6,h4];refine⟨hf,?_⟩;intro hc;rw[Uq]at ht;simp at ht;exact ht hc
   |i+1,hz=>
    have:=h3 i z hz;rw[show t.length+1+i=t.length+(i+1) by omega]at this;exact this
  ·rintro⟨h1,h2,h3⟩
   obtain⟨hf,hn⟩:=h3 0 y rfl;rw[UE]at hf hn;rw[h2]at hn;refine⟨ns.getD t.length 0,⟨aiV hm hf,hf,by rw[Uq];simpa using hn⟩,?_⟩;rw[GO hm ys _ ns,SN,T8];refine⟨by omega,(Hv (d:=0)).2 ⟨h2,by omega,rfl⟩,λi z hz=> ?_⟩;have:=h3 (i+1) z hz;rw[show t.length+(i+1)=t.length+1+i by omega]at this;exact this
theorem G3{h ns:List Int}:∀(ss:List aC)(t os:List Nat),os∈pJ h ns ss t<->os.length=t.length+ss.length/\os.take t.length=t/\∀i s,ss[i]?=some s->fits h s (ns.getD (os.getD (t.length+i) 0) 0)=true/\os.getD (t.length+i) 0<ns.length/\os.getD (t.length+i) 0∉os.take (t.length+i)
 |[],t,os=>by
  simp only[pJ,S8,UN,UE];constructor
  ·rintro rfl;exact⟨rfl,TG,λi y hy=>by cases hy⟩
  ·rintro⟨h1,h2,_⟩;rw[<- h2,SX (by omega)]
 |s::ss,t,os=>by
  simp only[pJ,S5,Uw,Ti,TY,Ul,Tx];constructor
  ·rintro⟨n,⟨hlt,hf,ht⟩,fV⟩
   rw[G3 ss (t++[n]) os]at fV;obtain⟨h1,h2,h3⟩:=fV;rw[SN,T8]at h1 h2 h3;obtain⟨h4,h5,h6⟩:=(Hv (d:=0)).1 h2;refine⟨by omega,h4,λi z hz=> ?_⟩
   match i,hz with
   |0,hz=>
    cases hz;rw[UE,h6,h4];refine⟨hf,hlt,?_⟩;intro hc;rw[Uq]at ht;simp at ht;exact ht hc
   |i+1,hz=>
    have:=h3 i z hz;rw[show t.length+1+i=t.length+(i+1) by omega]at this;exact this
  ·rintro⟨h1,h2,h3⟩
   obtain⟨hf,hlt,hn⟩:=h3 0 s rfl;rw[UE]at hf hlt hn;rw[h2]at hn;refine⟨os.getD t.length 0,⟨hlt,hf,by rw[Uq];simpa using hn⟩,?_⟩;rw[G3 ss _ os,SN,T8];refine⟨by omega,(Hv (d:=0)).2 ⟨h2,by omega,rfl⟩,λi z hz=> ?_⟩;have:=h3 (i+1) z hz;rw[show t.length+(i+1)=t.length+1+i by omega]at this;exact this
end Go.Gg.Tk
namespace Go.Gg
open Go.Gg.Tk
namespace Tk
structure Oa (x:aj)(u:Tr):Prop where
 bG:nW x.first x.am u.bG x.hours.toNat
 seen:∀s∈x.seen,kM s.next (u.bG.getD s.hour.toNat 0)=true
 yq:u.aA.length=x.pieces.length
 piece:∀(p:Nat) y,x.pieces[p]?=some y->fits u.bG y (u.aA.getD p 0)=true
 MK:u.aA.Nodup
 AF:u.bU.length=x.aB.length
 own:∀v∈u.bU,v<x.pieces.length
 stub:∀(s:Nat) y,x.aB[s]?=some y->fits u.bG y (u.aA.getD (u.bU.getD s 0) 0)=true
 MR:u.bU.Nodup
theorem _root_.Go.Gg.nW.mono{first am:Int}{l:List Int}{i:Nat}(h:nW first am l i):ug l:=anl λj hj=>(h.step j (by have:=h.len;omega)).1
theorem akr{x:aj}(hx:x.Ok){h:List Int}:h∈aK x<->nW x.first x.am h x.hours.toNat/\∀s∈x.seen,kM s.next (h.getD s.hour.toNat 0)=true:=by
 have hp:=hx.am;unfold aK;rw[KJ _ _ _ (by simp)];simp only[T8];constructor
 ·rintro⟨h1,h2,h3⟩
  have h4:=(Hu (pre:=[]) (v:=x.first)).1 h2;refine⟨⟨by omega,h4.2.2,λj hj=> ?_⟩,λs hs=> ?_⟩
  ·obtain⟨n,hn,e⟩:=(h3 j (by omega) (by omega)).2 (by omega);omega
  ·have hsr:=(hx.seen s hs).1;have:=(h3 s.hour.toNat (by omega) (by omega)).1;unfold sd at this;have:=Tv.1 this s hs;have e:s.hour=(s.hour.toNat:Int):=(by omega);rw[<- e]at this;simpa using this
 ·rintro⟨h1,h2⟩
  have hl:=h1.len;refine⟨by omega,(Hu (pre:=[]) (v:=x.first)).2 ⟨rfl,by simp;omega,h1.head⟩,λj _ hj=>⟨?_,λFO=> ?_⟩⟩
  ·unfold sd;rw[Tv];intro s hs;by_cases e:s.hour=(j:Int)
   ·have:=h2 s hs;rw[show s.hour.toNat=j by omega]at this;rw[this];simp
   ·simp[e]
  ·have:=h1.step j (by omega);exact⟨(h.getD (j+1) 0-h.getD j 0).toNat,by omega,by omega⟩
theorem arS{x:aj}{u:Tr}:u∈b_ x<->u.bG∈aK x/\u.aA∈mS u.bG x.pieces []/\u.bU∈pJ u.bG u.aA x.aB []:=by
 constructor
 ·intro hu;obtain⟨h,a,b⟩:=S5.1 hu;obtain⟨ns,c,d⟩:=S5.1 b;obtain⟨os,e,rfl⟩:=Tl.1 d;exact⟨a,c,e⟩
 ·rintro⟨a,b,c⟩
  exact S5.2 ⟨u.bG,a,S5.2 ⟨u.aA,b,Tl.2 ⟨u.bU,c,rfl⟩⟩⟩
theorem ajo{l:List Nat}{i:Nat}(h:i<l.length):l.getD i 0∈l:=by
 rw[SE,SY h];exact Wu h
theorem ane{x:aj}(hx:x.Ok){u:Tr}:u∈b_ x<->Oa x u:=by
 rw[arS,akr hx];constructor
 ·rintro⟨⟨h1,h2⟩,h3,h4⟩
  have hm:=h1.mono;rw[GO hm]at h3;rw[G3]at h4;simp only[UN,Ws]at h3 h4;obtain⟨a1,_,a3⟩:=h3;obtain⟨b1,_,b3⟩:=h4;refine⟨h1,h2,a1,λp y hy=>(a3 p y hy).1,aa8 (d:=0) λi hi=> ?_,b1,λv hv=> ?_,λs y hy=>(b3 s y hy).1,aa8 (d:=0) λi hi=> ?_⟩
  ·obtain⟨y,hy⟩:∃y,x.pieces[i]?=some y:=⟨_,SY (by omega)⟩;exact(a3 i y hy).2
  ·obtain⟨i,hi⟩:=U0 hv;have bB:=(SL.1 hi).1;obtain⟨y,hy⟩:∃y,x.aB[i]?=some y:=⟨_,SY (by omega)⟩;have:=(b3 i y hy).2.1;rw[SE,hi]at this;rw[<- a1];exact this
  ·obtain⟨y,hy⟩:∃y,x.aB[i]?=some y:=⟨_,SY (by omega)⟩;exact(b3 i y hy).2.2
 ·intro h;refine⟨⟨h.bG,h.seen⟩,?_,?_⟩
  ·rw[GO h.bG.mono];simp only[UN,Ws];refine⟨h.yq,rfl,λi y hy=>⟨h.piece i y hy,QC ?_ h.MK⟩⟩;have:=(SL.1 hy).1;rw[h.yq];exact this
  ·rw[G3];simp only[UN,Ws];refine⟨h.AF,rfl,λi y hy=> ?_⟩;have hi:=(SL.1 hy).1;have uH:i<u.bU.length:=(by rw[h.AF];exact hi);exact⟨h.stub i y hy,by rw[h.yq];exact h.own _ (ajo uH),QC uH h.MR⟩
end Tk
open Go.Gg.Tk
theorem amb{first am:Int}{l:List Int}{i:Nat}(h:nW first am l i):l.getLastD 0=l.getD i 0:=by
 have hl:=h.len;rw[Vl,X_,SE,hl];rfl
theorem aki{first am:Int}{l:List Int}{i:Nat}(h:nW first am l i):l.headD 0=first:=by
 have hl:=h.len;have:=h.head;cases l with
 |nil=>cases hl
 |cons a l=>exact this
theorem nW.top{first am:Int}{l:List Int}{i:Nat}(h:nW first am l i)(hf:0<=first/\first<=90)(hp:1<=am/\am<=3)(hi:i<=3):∀j,j<=i->first<=l.getD j 0/\l.getD j 0<=first+9:=λj hj=>by
 have h1:=h.ge (by omega) j hj;have:am* (j:Int)<=3* 3:=Yc (by omega) (by omega) (by omega) (by omega);generalize am* (j:Int)=q at h1 this;omega
theorem JY{first am:Int}{l:List Int}{i:Nat}(h:nW first am l i)(hi:1<=i/\i<=3)(hf:0<=first/\first<=90)(hp:1<=am/\am<=3){n:Int}(hn:first<=n/\n<l.getD i 0)(τ:bc):Eo l i n (lK τ l n i):=by
 have hl:=h.len;have hm:=h.mono;have ht:=h.top hf hp hi.2 i (SQ _);have hk:=arF (n:=n) (by omega) (by omega) hm;have h0:0<=jo l n:=(adg hm).2 (by rw[aki h,amb h];exact hn);have h1:=adf l 0 h0;have JE:jo l n+1<l.length:=by have:fz 0 l n=jo l n:=rfl;omega
 have a1:=BG (τ:=τ) (n:=n) (m:=2) (lo:=0) (hi:=99) (by omega) (by omega);have a2:=BG (τ:=tick (tick τ)) (n:=jo l n) (m:=1) (lo:=0) (hi:=(i:Int)-1) (by omega) (by omega);refine⟨a1.1,?_,?_⟩
 ·unfold lK;rw[hk];exact a2.1
 ·unfold Tk.fits lK;rw[hk,Ti,Ti,decide_eq_true_eq];exact⟨⟨h0,a1.2⟩,a2.2⟩
variable {pm:Nat}{x:aj}{bG aA bU:List Int}
theorem Made.Rc(h:Made pm x bG aA bU){n:Int}(hn:n∈aA)(τ:bc):Eo bG x.hours n (lK τ bG n x.hours):=by
 have hh:=h.hours;have:=JY h.FN (by omega) h.first h.am (h.num n hn) τ;rw[Int.toNat_of_nonneg (by omega)]at this;exact this
theorem zw{l:List Int}{i:Nat}(h:i<l.length):l.getD i 0∈l:=by
 rw[SE,SY h];exact Wu h
theorem Made.OF(h:Made pm x bG aA bU){p:Nat}{y:aC}(hy:x.pieces[p]?=some y):Eo bG x.hours (aA.getD p 0) y:=by
 obtain⟨τ,rfl⟩:=h.piece p y hy;exact h.Rc (zw (by rw[h.yq];exact(SL.1 hy).1)) τ
theorem Made.OG(h:Made pm x bG aA bU){s:Nat}{y:aC}(hy:x.aB[s]?=some y):Eo bG x.hours (aA.getD (bU.getD s 0).toNat 0) y:=by
 obtain⟨τ,rfl⟩:=h.stub s y hy;have hs:s<bU.length:=by rw[h.AF];exact(SL.1 hy).1
 have:=h.own _ (zw hs);exact h.Rc (zw (by omega)) τ
theorem Made.ok(h:Made pm x bG aA bU)(tz:pm<=4):x.Ok:=by
 have hh:=h.hours;refine⟨h.first,h.hours,h.am,by have:=h.yC;omega,by have:=h.anm;omega,h.aB,λs hs=> ?_,λy hy=> ?_,λy hy=> ?_⟩
 ·obtain⟨h1,h2,τ,h3⟩:=h.seen s hs;have ht:=h.FN.top h.first h.am (by omega) s.hour.toNat (by omega);have hf:=h.first;rw[h3];exact⟨⟨h1,h2⟩,(BG (by omega) (by omega)).1⟩
 ·obtain⟨p,hp⟩:=U0 hy;have:=h.OF hp;exact⟨this.num,this.hour⟩
 ·obtain⟨p,hp⟩:=U0 hy;have:=h.OG hp;exact⟨this.num,this.hour⟩
def abV (bG aA bU:List Int):Tr:=⟨bG,aA,bU.map X5⟩
theorem Made.arN(h:Made pm x bG aA bU):Oa x (abV bG aA bU):=by
 have hh:=h.hours;have pu:∀s,s<bU.length->(bU.map X5).getD s 0=(bU.getD s 0).toNat:=λs hs=>by
  rw[SE,SE,To,SY hs];rfl
 refine⟨h.FN,λs hs=> ?_,h.yq,λp y hy=>(h.OF hy).fits,h.MK,by show (bU.map X5).length=_;rw[Tn];exact h.AF,λv hv=> ?_,λs y hy=> ?_,?_⟩
 ·obtain⟨h1,h2,τ,h3⟩:=h.seen s hs;have ht:=h.FN.top h.first h.am (by omega) s.hour.toNat (by omega);have hf:=h.first;rw[h3];exact(BG (by show _<=bG.getD _ _/\_;omega) (by omega)).2
 ·obtain⟨w,hw,rfl⟩:=Tl.1 hv;have:=h.own w hw;have:=h.yq;omega
 ·have hs:s<bU.length:=by rw[h.AF];exact(SL.1 hy).1
  show Tk.fits bG y (aA.getD ((bU.map X5).getD s 0) 0)=true;rw[pu s hs];exact(h.OG hy).fits
 ·show (bU.map X5).Nodup;rw[Ut,Xv];refine Xt ?_ (Ut.1 h.MR);intro a c ha hc aH e;have h1:=h.own a ha;have h2:=h.own c hc;omega
theorem Made.mem(h:Made pm x bG aA bU)(tz:pm<=4):abV bG aA bU∈b_ x:=(ane (h.ok tz)).2 h.arN
theorem Made.ne(h:Made pm x bG aA bU)(tz:pm<=4):b_ x≠[]:=λe=>by
 have:=h.mem tz;rw[e]at this;cases this
variable {x:aj}
namespace Tk
end Tk
variable {x:aj}
open Go.Gg.Tk
variable {x:aj}
theorem ags(x:aj):0<cnt x<->b_ x≠[]:=by
 unfold cnt;rw[show (0:Int)<((live x).length:Int)<->live x≠[] by rw[<- Vv];omega];exact not_congr Ms
namespace Tk
def DN (x:aj)(p:Nat)(y:aC):aj:={x with pieces:=x.pieces.set p y}
end Tk
variable {x:aj}
open Go.Conc Go.Proofs Go.Gg.Tk
theorem acs{ys:List aC}{p:Nat}{y:aC}{s:Nat}{l:List AV}(hp:p<ys.length)(e:y.l=l):Ui (p* 4) (ys.flatMap aC.l)++l++T7 (p* 4+4) (ys.flatMap aC.l)=(ys.set p y).flatMap aC.l:=by
 subst e;rw[XK,if_pos hp,UX,Ub,Jx aC.len,show p* 4+4=(p+1)* 4 by omega,xw aC.len,SC]
theorem aql{ys:List aC}{p:Nat}{y:aC}(hy:ys[p]?=some y)(a b:Int):Ui (p* 4+0) (ys.flatMap aC.l)++[iv a,iv b]++T7 (p* 4+0+2) (ys.flatMap aC.l)=(ys.set p ⟨⟨a,b⟩,y.hour⟩).flatMap aC.l:=by
 obtain⟨hp,rfl⟩:=SL.1 hy;rw[<- acs (s:=0) (p:=p) (y:=⟨⟨a,b⟩,ys[p].hour⟩) hp rfl];have e:T7 (p* 4+2) (ys.flatMap aC.l)=iv ys[p].hour.min::iv ys[p].hour.max::T7 (p* 4+4) (ys.flatMap aC.l):=by
  have h1:T7 (p* 4) (ys.flatMap aC.l)=ys[p].l++T7 (p* 4+4) (ys.flatMap aC.l):=by
   rw[xw aC.len,show p* 4+4=(p+1)* 4 by omega,xw aC.len,TQ hp,Ub]
  rw[<- ak_,h1];rfl
 rw[UE,e];simp[aC.l,iL.l]
section
variable {lv:Bool}{P:SI}{r:Option Nat}
theorem afi{nt:Nat}{c:T4}{T:List (Nat×AV)}{H:List aa}{Aq oF j cap:Nat}{ps:List aC}{l:List AV}{el:TypeId}{Φ:an->AS->Prop}(h1:H[Aq]?=some (.own 4 (ps.flatMap aC.l) 48))(h2:H[oF]?=some (.cells l el))(aH:Aq≠oF)(h3:l[j]?=some (.bw Aq 0 ps.length cap))(h:aP lv P r nt c ⟨T,(H.set Aq (.part (ps.length* 4) (ps.flatMap aC.l) 48)).set oF (.cells (l.set j (aW ps)) el)⟩ Φ):aP lv P r nt c ⟨T,H⟩ Φ:=by
 have hl:(ps.flatMap aC.l).length=ps.length* 4:=Df aC.len _;refine afj (id:=Aq) h1 ?_;have hlt:=(SL.1 h1).1;refine Is (id:=oF) (j:=j) (y:=aW ps) (el:=el) (by rw[T6 aH];exact h2) h3 ?_ ?_
 ·have e:aW ps=.sl ps.length ((ps.flatMap aC.l).take (ps.length* 4)) .shut:=by rw[SX (by omega)];rfl
  rw[e];exact HE (p:=(ps.flatMap aC.l).length) (l:=ps.flatMap aC.l) (el:=48) (by rw[UQ,if_pos rfl,if_pos hlt]) (by omega) (by omega)
 ·rw[hl];exact h
end
def vC (i:Int)(y:aC):Prop:=sx y.number 99/\sx y.hour (i-1)
theorem aqk{ys:List aC}{p:Nat}{y:aC}(hy:ys[p]?=some y)(a b:Int):Ui (p* 4+2) (ys.flatMap aC.l)++[iv a,iv b]++T7 (p* 4+2+2) (ys.flatMap aC.l)=(ys.set p ⟨y.number,⟨a,b⟩⟩).flatMap aC.l:=by
 obtain⟨hp,rfl⟩:=SL.1 hy;rw[<- acs (s:=0) (p:=p) (y:=⟨ys[p].number,⟨a,b⟩⟩) hp rfl];have e:Ui (p* 4+2) (ys.flatMap aC.l)=Ui (p* 4) (ys.flatMap aC.l)++[iv ys[p].number.min,iv ys[p].number.max]:=by
  have h1:T7 (p* 4) (ys.flatMap aC.l)=ys[p].l++T7 (p* 4+4) (ys.flatMap aC.l):=by
   rw[xw aC.len,show p* 4+4=(p+1)* 4 by omega,xw aC.len,TQ hp,Ub]
  rw[List.take_add,h1];rfl
 rw[e,show p* 4+2+2=p* 4+4 from rfl];simp[aC.l,iL.l]
section
variable {lv:Bool}{Gf:bc->List aa}{t N:Nat}{b:Int}
theorem ahT{i mn np ns c:Nat}{first am:Int}{sv pv Dw Do pk:AV}{gP:List aa}{dc:List aC}{ρ:bc}{zc:aa}{YY:List AV->Nat->Nat->Nat->List aa}{Φ:an->AS->Prop}(hT:dJ Gf t N)(hY:YW Gf N zc YY)(xR:gP.length=np)(hb:b<2^10)(ox:0<=first/\first<=90)(pq:mn<=9)(ik:ns<=3)(cH:dc.length=ns)(pz:∀y∈dc,vC i y)(hρ:ρ.Ok (b+97))
  (hk:∀yH ρ',yH.length=ns->(∀y∈yH,vC i y)->ρ'.Ok (b+100)->aP lv SA none 240 (ni 13 oc) ⟨[(16,Dw),(15,Do),(13,iv mn),(11,pk),(10,.op (N+1) 0),(6,.op N 0),(0,.op t 0),(2,bv false)],Gf ρ'++(YY [iv first,iv i,iv am,sv,pv,fy (N+6+np) ns] c np ns++(gP++gO ns (fJ yH)))⟩ Φ):
  aP lv SA none 240 (ni 12 oc) ⟨[(16,Dw),(15,Do),(13,iv mn),(11,pk),(10,.op (N+1) 0),(6,.op N 0),(0,.op t 0),(2,bv false)],Gf ρ++(YY [iv first,iv i,iv am,sv,pv,fy (N+6+np) ns] c np ns++(gP++gO ns (fJ dc)))⟩ Φ:=by
 obtain⟨uB,ry,y0,y1,y3,y4,y5,mV,yM,A5,A6,qb,s7,db⟩:=hY;have jE:∀L:List aa,dJ (λτ=>Gf τ++L) t (N+L.length):=λL=>hT.more L;have w1:∀τ r c d e X m,(Gf τ++(YY r c d e++(gP++X)))[N+6+np+m]?=X[m]?:=λτ r c d e X m=>by rw[U1 (N+6),qb,S9 (by omega),xR,TR]
 have v1:∀τ r c d e X m y,(Gf τ++(YY r c d e++(gP++X))).set (N+6+np+m) y=Gf τ++(YY r c d e++(gP++X.set m y)):=λτ r c d e X m y=>by rw[U1 (N+6),s7,T9 _ _ (by omega),xR,TR]
 unfold oc WS at hk⊢;dsimp only[S7,ni,cs,cf]at hk⊢;rcases UH ns with h0|h0
 ·subst h0;have e0:fy (N+6+np) 0=.sl 0 [] .exact:=rfl;simp only[e0]at hk⊢;refine ai ?_;simp only[seval,y1];refine ai ?_;simp only[seval,decide_false,show decide ((0:Int)>0)=false from rfl];refine aD ?_;refine aN ?_;refine jv ?_ (hk dc ρ cH pz (hρ.mono (by omega)));exact ey (by simp only[seval];simp[bu,Wk.refl]) rfl
 ·obtain⟨n2,qu⟩:∃n2,ns=n2+1:=⟨ns-1,by omega⟩;have CS:fy (N+6+np) ns=.bw (N+6+np+n2) 0 ns 0:=by rw[qu];rfl
  have uG:∀o,(gO ns o)[n2]?=some o:=λo=>by rw[qu];have:=B5 n2 o [];rwa [SO]at this
  have uV:∀o o',(gO ns o).set n2 o'=gO ns o':=λo o'=>by rw[qu];have:=B6 n2 o o' [];rwa [SO,SO]at this
  have hd:decide ((ns:Int)>0)=true:=by simp;omega
  rw[CS];simp only[CS]at hk;refine ai ?_;simp only[seval,y1];refine ai ?_;simp only[seval,hd];refine aI ((EY (n:=3) (jE _) hρ (by omega) (by decide) ?_));(try simp only[seval]);refine aD ?_;refine⟨λhc=> ?_,λhc=> ?_⟩
  ·have bM:SD.wrap ((ns:Int)-1)=(ns:Int)-1:=bA _ (by omega);have fh:SD.wrap (first+(mn:Int))=first+(mn:Int):=bA _ (by omega)
   have r1:=lC (tick ρ) ((ns:Int)-1);refine ai ?_;simp only[seval,bM];refine aI ((o0 (n:=(ns:Int)-1) (jE _) hρ.tick (by omega) (by omega) ?_));obtain⟨q,hq⟩:∃q:Nat,de (tick ρ) ((ns:Int)-1)=q:=⟨(de (tick ρ) ((ns:Int)-1)).toNat,by omega⟩;rw[hq];have Ac:q<ns:=(by omega);(try simp only[seval]);refine ai ?_;simp only[seval,y1,fh];have r2:=adt (tick (tick ρ)) (show first<=first+(mn:Int) by omega);refine aI ((P2 (lo:=first) (hi:=first+(mn:Int)) (jE _) hρ.tick.tick (by omega) (by omega) (by omega) ?_));generalize A3 (tick (tick ρ)) first (first+(mn:Int))=a at r2⊢
   (try simp only[seval]);obtain⟨y,hy⟩:=b9 (xs:=dc) (i:=q) (by omega);have Gi:=pz y (Tc hy);have CV:=aql hy a a;simp only[iv]at CV;have Co:(0<=(q:Int)/\(q:Int)<(ns:Int))=True:=(by simp;omega);unfold fJ at hk⊢;refine ai ?_;simp only[seval,y1,w1,v1,uG,uV,Co];refine⟨by rw[Df aC.len];omega,?_⟩;rw[CV];have tF:∀z∈dc.set q ⟨⟨a,a⟩,y.hour⟩,vC i z:=λz hz=>by
    rcases UC hz with hz|rfl
    ·exact pz z hz
    ·exact⟨⟨by show 0<=a;omega,Xm a,by show a<=99;omega⟩,Gi.2⟩
   refine jv ?_ (hk (dc.set q ⟨⟨a,a⟩,y.hour⟩) (tick (tick (tick ρ))) (by rw[TF];exact cH) tF (hρ.tick.tick.tick.mono (by omega)));exact ey (by simp only[seval];simp[bu,Wk.refl]) rfl
  ·refine aN ?_;refine jv ?_ (hk dc (tick ρ) cH pz (hρ.tick.mono (by omega)));exact ey (by simp only[seval];simp[bu,Wk.refl]) rfl
theorem ahR{i mn np ns c:Nat}{first am:Int}{sv tv Dw Do pk:AV}{gS:List aa}{dc:List aC}{ρ:bc}{zc:aa}{YY:List AV->Nat->Nat->Nat->List aa}{Φ:an->AS->Prop}(hT:dJ Gf t N)(hY:YW Gf N zc YY)(hb:b<2^10)(hi:1<=i/\i<=3)(ik:np<=4)(cH:dc.length=np)(pz:∀y∈dc,vC i y)(hρ:ρ.Ok (b+100))
  (hk:∀yH ρ',yH.length=np->(∀y∈yH,vC i y)->ρ'.Ok (b+110)->aP lv SA none 240 (ni 14 oc) ⟨[(16,Dw),(15,Do),(13,iv mn),(11,pk),(10,.op (N+1) 0),(6,.op N 0),(0,.op t 0),(2,bv false)],Gf ρ'++(YY [iv first,iv i,iv am,sv,fy (N+6) np,tv] c np ns++(gO np (fJ yH)++gS))⟩ Φ):
  aP lv SA none 240 (ni 13 oc) ⟨[(16,Dw),(15,Do),(13,iv mn),(11,pk),(10,.op (N+1) 0),(6,.op N 0),(0,.op t 0),(2,bv false)],Gf ρ++(YY [iv first,iv i,iv am,sv,fy (N+6) np,tv] c np ns++(gO np (fJ dc)++gS))⟩ Φ:=by
 obtain⟨uB,ry,y0,y1,y3,y4,y5,mV,yM,A5,A6,qb,s7,db⟩:=hY;have jE:∀L:List aa,dJ (λτ=>Gf τ++L) t (N+L.length):=λL=>hT.more L;unfold oc WS at hk⊢;dsimp only[S7,ni,cs,cf]at hk⊢;rcases UH np with h0|h0
 ·subst h0;have e0:fy (N+6) 0=.sl 0 [] .exact:=rfl;simp only[e0]at hk⊢;refine ai ?_;simp only[seval,y1];refine ai ?_;simp only[seval,decide_false,show decide ((0:Int)>0)=false from rfl];refine aD ?_;refine aN ?_;refine jv ?_ (hk dc ρ cH pz (hρ.mono (by omega)));exact ey (by simp only[seval];simp[bu,Wk.refl]) rfl
 ·obtain⟨n2,qu⟩:∃n2,np=n2+1:=⟨np-1,by omega⟩;have CS:fy (N+6) np=.bw (N+6+n2) 0 np 0:=by rw[qu];rfl
  have uG:∀o,(gO np o++gS)[n2]?=some o:=λo=>by rw[qu];exact B5 n2 o gS
  have uV:∀o o',(gO np o++gS).set n2 o'=gO np o'++gS:=λo o'=>by rw[qu];exact B6 n2 o o' gS
  have hd:decide ((np:Int)>0)=true:=by simp;omega
  rw[CS];simp only[CS]at hk;refine ai ?_;simp only[seval,y1];refine ai ?_;simp only[seval,hd];refine aI ((EY (n:=4) (jE _) hρ (by omega) (by decide) ?_));(try simp only[seval]);refine aD ?_;refine⟨λhc=> ?_,λhc=> ?_⟩
  ·have bM:SD.wrap ((np:Int)-1)=(np:Int)-1:=bA _ (by omega);have fh:SD.wrap (i-1)=i-1:=bA _ (by omega);have r1:=lC (tick ρ) ((np:Int)-1);refine ai ?_;simp only[seval,bM];refine aI ((o0 (n:=(np:Int)-1) (jE _) hρ.tick (by omega) (by omega) ?_));obtain⟨q,hq⟩:∃q:Nat,de (tick ρ) ((np:Int)-1)=q:=⟨(de (tick ρ) ((np:Int)-1)).toNat,by omega⟩;rw[hq];have Ac:q<np:=(by omega);(try simp only[seval]);have r2:=lC (tick (tick ρ)) (i-1);refine ai ?_;simp only[seval,y1,fh];refine aI ((o0 (n:=i-1) (jE _) hρ.tick.tick (by omega) (by omega) ?_));generalize de (tick (tick ρ)) (i-1)=a at r2⊢;(try simp only[seval]);obtain⟨y,hy⟩:=b9 (xs:=dc) (i:=q) (by omega);have Gi:=pz y (Tc hy);have CV:=aqk hy a a;simp only[iv]at CV;have Co:(0<=(q:Int)/\(q:Int)<(np:Int))=True:=(by simp;omega);unfold fJ at hk⊢;refine ai ?_;simp only[seval,y1,qb,s7,uG,uV,Co];refine⟨by rw[Df aC.len];omega,?_⟩;rw[CV];have tF:∀z∈dc.set q ⟨y.number,⟨a,a⟩⟩,vC i z:=λz hz=>by
    rcases UC hz with hz|rfl
    ·exact pz z hz
    ·exact⟨Gi.1,⟨by show 0<=a;omega,Xm a,by show a<=i-1;omega⟩⟩
   refine jv ?_ (hk (dc.set q ⟨y.number,⟨a,a⟩⟩) (tick (tick (tick ρ))) (by rw[TF];exact cH) tF (hρ.tick.tick.tick.mono (by omega)));exact ey (by simp only[seval];simp[bu,Wk.refl]) rfl
  ·refine aN ?_;refine jv ?_ (hk dc (tick ρ) cH pz (hρ.tick.mono (by omega)));exact ey (by simp only[seval];simp[bu,Wk.refl]) rfl
end
section
variable {lv:Bool}{P:SI}{r:Option Nat}
theorem OO{nt:Nat}{c:T4}{T:List (Nat×AV)}{Φ:an->AS->Prop}{P0 Q0:List aa}{M n oF j:Nat}{l:List aC}{cl:List AV}(hM:P0.length=M)(hl:l.length=n)(KG:P0[oF]?=some (.cells cl 26))(hj:cl[j]?=some (fy M n))(h:∀G',G'.length=n->aP lv P r nt c ⟨T,P0.set oF (.cells (cl.set j (aW l)) 26)++(G'++Q0)⟩ Φ):aP lv P r nt c ⟨T,P0++(gO n (fJ l)++Q0)⟩ Φ:=by
 have hlt:=(SL.1 KG).1
 match n,hl with
 |0,hl=>
  obtain rfl:l=[]:=VD hl;refine Is (id:=oF) (j:=j) (y:=aW []) (el:=26) (l:=cl) (x:=.sl 0 [] .exact) ?_ hj (y8.of (g_ 0 [] .exact)) ?_
  ·show (P0++([]++Q0))[oF]?=_;rw[SW hlt];exact KG
  ·show aP lv P r nt c ⟨T,(P0++([]++Q0)).set oF _⟩ Φ;rw[US _ _ hlt];exact h [] rfl
 |n+1,hl=>
  refine afi (Aq:=M+n) (oF:=oF) (j:=j) (cap:=0) (ps:=l) (l:=cl) (el:=26) ?_ ?_ (by omega) (by rw[hl];exact hj) ?_
  ·rw[<- hM,S9 (by omega),TR,B5];rfl
  ·rw[SW hlt];exact KG
  ·rw[T9 _ _ (by omega),<- hM,TR,B6,US _ _ hlt];exact h _ (xy _ _)
end
section
variable {lv:Bool}{k kp:AV->List aa->Prop}{Gf:bc->List aa}{t N:Nat}{b:Int}
theorem ahO{i mn np ns c:Nat}{first am:Int}{l aA bU:List Int}{ss:List Seen}{eD dc:List aC}{ρ:bc}{zc:aa}{YY:List AV->Nat->Nat->Nat->List aa}(hT:dJ Gf t N)(hH:∀τ,bI (Gf τ))(hY:YW Gf N zc YY)(C6:zc=.cells [.val (.int .i64 0),.val (.int .i64 0),.val (.int .i64 0),.sl 0 [] .exact,.sl 0 [] .exact,.sl 0 [] .exact] 26)(fF:l.length=i+1)(F0:eD.length=np)(jI:aA.length=np)(nJ:dc.length=ns)(z9:bU.length=ns)(hc:ss.length=c)
  (hk:k (.aL [aj.av ⟨first,i,am,ss,eD,dc⟩,a_ l,a_ aA,a_ bU]) (Gf ρ)):
  aP lv SA none 240 (ni 14 oc) ⟨[(16,.sl ns (bU.map iv) (.opn (N+5))),(15,.sl np (aA.map iv) (.opn (N+4))),(13,iv mn),(11,.sl (i+1) (l.map iv) (.opn (N+2))),(10,.op (N+1) 0),(6,.op N 0),(0,.op t 0),(2,bv false)],Gf ρ++(YY [iv first,iv i,iv am,.sl c (ss.flatMap Seen.l) (.opn (N+3)),fy (N+6) np,fy (N+6+np) ns] c np ns++(gO np (fJ eD)++gO ns (fJ dc)))⟩ (uc SA [.cell 6 26,.tmp 7,.tmp 8,.tmp 9] N k kp):=by
 have n0:=hY.n0;have yK:=hY.yK;have yL:=hY.yL;obtain⟨uB,ry,y0,y1,y3,y4,y5,mV,yM,A5,A6,qb,s7,db⟩:=hY;have LD:∀τ (L:List aa)(y:aa),(Gf τ++L).set N y=Gf τ++L.set 0 y:=λτ L y=>by have:=dU (Gf τ) L 0 y;rwa [hT.len]at this
 have LB:∀τ (L:List aa),(Gf τ++L)[N]?=L[0]?:=λτ L=>by have:=aX (Gf τ) L 0;rwa [hT.len]at this
 unfold oc WS;dsimp only[S7,ni,cs,cf];rw[<- SC];refine OO (M:=N+6) (oF:=N+1) (j:=4) (n0 _ _ _ _ _) F0 (yK _ _ _ _ _) rfl λG1 xD=> ?_;rw[yL,<- SC,<- SO (gO ns (fJ dc))];refine OO (M:=N+6+np) (oF:=N+1) (j:=5) (cl:=[iv first,iv i,iv am,.sl c (ss.flatMap Seen.l) (.opn (N+3)),aW eD,fy (N+6+np) ns]) (by rw[SN,n0,xD]) nJ (by rw[SC];exact y1 _ _ _ _ _ _) rfl λG2 hG2=> ?_;rw[SC,mV,SC,SC];obtain⟨r2,F4⟩:∃r2,r2=[iv first,iv i,iv am,.sl c (ss.flatMap Seen.l) (.opn (N+3)),aW eD,aW dc]:=⟨_,rfl⟩;rw[show ([iv first,iv i,iv am,.sl c (ss.flatMap Seen.l) (.opn (N+3)),aW eD,fy (N+6+np) ns]:List AV).set 5 (aW dc)=r2 by rw[F4];rfl];have Sv:r2.length=6:=by rw[F4];rfl
 have ej:Ui 6 r2=r2:=SX (by omega);have dZ:∀a∈r2,a.leaf=true:=by
  rw[F4];intro a ha;simp only[SK,S0,or_false]at ha;rcases ha with rfl|rfl|rfl|rfl|rfl|rfl<;>rfl
 have y00:∀τ r c d e G,(Gf τ++(YY r c d e++G))[N]?=some (.cells [.val (.int .i64 0),.val (.int .i64 0),.val (.int .i64 0),.sl 0 [] .exact,.sl 0 [] .exact,.sl 0 [] .exact] 26):=λτ r c d e G=>by rw[y0,C6]
 refine ai ?_;simp only[seval,y1,y00,Sv,ej];refine⟨dZ,?_⟩;rw[LD];obtain⟨LL,hLL⟩:=db r2 c np ns (.cells r2 26);rw[US _ _ (by rw[uB];omega),hLL,Vh];refine n_ ?_;simp only[seval,LB,Sv,ej];refine jy (b:=.aL [aj.av ⟨first,i,am,ss,eD,dc⟩,a_ l,a_ aA,a_ bU]) (H':=Gf ρ) (adu ?_ ?_ ?_ ?_) rfl (by simp[hT.len]) (hH _) (by simp only[jL,SK,S0,or_false,forall_eq_or_imp,forall_eq,Dj,Av,and_self]) hk
 ·rw[F4,aj.av];refine HF (.cons (Wk.refl _) (.cons (Wk.refl _) (.cons (Wk.refl _) (.cons ?_ (.cons (Wk.refl _) (.cons (Wk.refl _) .nil))))));rw[<- hc];exact g_ _ _ _
 ·rw[<- fF];exact g_ _ _ _
 ·rw[<- jI];exact g_ _ _ _
 ·rw[<- z9];exact g_ _ _ _
end
section
variable {lv:Bool}{k kp:AV->List aa->Prop}{Gf:bc->List aa}{t N:Nat}{τ:bc}{b:Int}
theorem ahQ{pm:Nat}(hT:dJ Gf t N)(hτ:τ.Ok b)(hb:b<2^10)(tz:pm<=4)(hk:∀(x:aj)(bG aA bU:List Int)(τ':bc),x.Ok->x.pieces.length<=pm->bG.length<=4->aA.length<=4->bU.length<=3->τ'.Ok (b+200)->k (.aL [x.av,a_ bG,a_ aA,a_ bU]) (Gf τ')):bh lv SA 15 (Gf τ) [.op t 0,iv pm,bv false] k kp:=by
 refine bF (rs:=[.cell 6 26,.tmp 7,.tmp 8,.tmp 9]) (nt:=240) WS λhH hA=> ?_;simp only[bk,SV];have uA:∀o:aa,dJ (λτ=>Gf τ++[o]) t (N+1):=λo=>hT.more [o];have nK:∀τ (L:List aa)(j:Nat),(Gf τ++L)[N+j]?=L[j]?:=λτ L j=>by rw[<- hT.len τ,aX]
 have dW:∀τ (L:List aa)(j:Nat)(y:aa),(Gf τ++L).set (N+j) y=Gf τ++L.set j y:=λτ L j y=>by rw[<- hT.len τ,dU]
 have LB:∀τ (L:List aa),(Gf τ++L)[N]?=L[0]?:=λτ L=>nK τ L 0;have LD:∀τ (L:List aa)(y:aa),(Gf τ++L).set N y=Gf τ++L.set 0 y:=λτ L y=>dW τ L 0 y;refine ak ?_;refine ak ?_;refine aI ((o0 (uA _) hτ (by omega) (by omega) ?_));have r1:=lC τ 90;generalize de τ 90=u1 at r1⊢;(try simp only[seval,zE4,rZ]);refine aI ((Jd (ns:=[0,1,10,u1]) (uA _) hτ.tick (by omega) (by simp) (by simp) ?_));have r2:=I6 (tick τ) (ns:=[0,1,10,u1]) (by simp);simp only[SK,S0,or_false]at r2;generalize vV (tick τ) [0,1,10,u1]=first at r2⊢
 (try simp only[seval]);refine aI ((P2 (lo:=1) (hi:=3) (uA _) hτ.tick.tick (by omega) (by decide) (by decide) ?_));have r3:=adt (tick (tick τ)) (show (1:Int)<=3 by decide);generalize A3 (tick (tick τ)) 1 3=hours at r3⊢;(try simp only[seval,zE4,rZ]);refine aI ((Jd (ns:=[1,2,2,3]) (uA _) hτ.tick.tick.tick (by omega) (by simp) (by simp) ?_));have r4:=I6 (tick (tick (tick τ))) (ns:=[1,2,2,3]) (by simp);simp only[SK,S0,or_false]at r4;generalize vV (tick (tick (tick τ))) [1,2,2,3]=am at r4⊢;have ox:0<=first/\first<=90:=by omega
 have wy:1<=am/\am<=3:=by omega
 clear r1 r2 r4;have hσ:(tick (tick (tick (tick τ)))).Ok (b+4):=hτ.tick.tick.tick.tick.mono (by omega);generalize tick (tick (tick (tick τ)))=σ at hσ⊢;(try simp only[seval,hT.len,nK,dW,LB,LD]);refine ai ?_;simp only[seval,nK,z1,AG]
 (repeat apply iA);refine sK (t:=11) (sz:=1) (el:=3) (by simp only[seval]<;>rfl) ?_
 simp only[seval,hT.len]
 (repeat apply iA);refine afq (id:=N+1) (j:=3) (sz:=3) (gR:=61) (by simp only[seval,nK]<;>rfl) rfl ?_
 simp only[seval,dW,hT.len];refine ON [11,10,6,0,1,2] ?_;show aP _ _ _ _ _ ⟨[(11,.sl 1 [iv first] (.opn (N+2))),(10,.op (N+1) 0),(6,.op N 0),(0,.op t 0),(1,iv pm),(2,bv false)],_⟩ _;obtain⟨zc,C6⟩:∃zc:aa,zc=.cells [iv 0,iv 0,iv 0,.sl 0 [] .exact,.sl 0 [] .exact,.sl 0 [] .exact] 26:=⟨_,rfl⟩;simp only[iv]at C6;rw[<- C6];obtain⟨hn,hhn⟩:∃hn:Nat,hours=hn:=⟨hours.toNat,by omega⟩;subst hhn;refine ak ?_;refine cq ?_;refine gD hn (λi:Nat=>[(11,.sl (i+1) ((lm σ first am i).1.map iv) (.opn (N+2))),(12,iv i)]) (λi=>Gf (lm σ first am i).2++[zc,.cells [iv first,iv hn,iv am,.sl 0 [] (.opn (N+3)),.sl 0 [] .exact,.sl 0 [] .exact] 26,.tail (i+1) 1 3,.tail 0 3 61]) (λi=>True) (λ_ _=>rfl) (by simp only[lm];simp only[seval];simp[bu,Wk.refl]) rfl (λ_ _ _=>by simp[hT.len]) trivial (λbQ cP i cK _ R hR=> ?_)
 ·clear bQ cP;have au:=RM σ first (am:=am) (by omega) i
  have qy:=RN hσ first am i
  have eC:lm σ first am (i+1)=((lm σ first am i).1++[(lm σ first am i).1.getD i 0+wO (lm σ first am i).2 am],tick (tick (lm σ first am i).2)):=rfl
  have qh:=au.ge (by omega) i (SQ _);generalize lm σ first am i=m at au qy eC qh hR⊢
  obtain⟨l,ρ⟩:=m;dsimp only at au qy eC qh⊢;have fF:=au.len;refine ai ?_;simp only[seval,nK];refine aD ?_;refine⟨λh=> ?_,λh=> ?_⟩
  ·as_aux_lemma=>
   have bB:i<hn:=(by omega);obtain⟨w,hw⟩:=b9 (xs:=l) (i:=i) (by omega);have rD:l.getD i 0=w:=(by rw[SE,hw];rfl);rw[rD]at eC qh;have aQ:=acH ρ (am:=am) (by omega);have Sy:wO ρ am=vV (tick ρ) [0,am,de ρ am]:=rfl;obtain⟨v,hv⟩:∃v,v=wO ρ am:=⟨_,rfl⟩;rw[<- hv]at eC aQ Sy;have C2:SD.wrap (w+v)=w+v:=LU (ads qh aQ ox wy (by omega));have fQ:SD.wrap ((i:Int)+1)=((i+1:Nat):Int):=(by rw[bA _ (by omega)];rfl);have iO:(0<=(i:Int)/\(i:Int)<(i:Int)+1)=True:=(by simp;omega);have jE:∀L:List aa,dJ (λτ=>Gf τ++L) t (N+L.length):=λL=>hT.more L;refine aN ?_;refine cq ?_;obtain⟨X,hX⟩:∃X:Nat->List aa,∀a,X a=[zc,.cells [iv first,iv hn,iv am,.sl 0 [] (.opn (N+3)),.sl 0 [] .exact,.sl 0 [] .exact] 26,.tail a 1 3,.tail 0 3 61]:=⟨_,λ_=>rfl⟩;have Q5:=(hX (i+1)).symm;simp only[iv]at Q5;have x1:∀τ a,(Gf τ++X a)[N+1]?=some (.cells [iv first,iv hn,iv am,.sl 0 [] (.opn (N+3)),.sl 0 [] .exact,.sl 0 [] .exact] 26):=λτ a=>(by rw[nK,hX];rfl);have x2:∀τ a,(Gf τ++X a)[N+2]?=some (.tail a 1 3):=λτ a=>(by rw[nK,hX];rfl);have N2:∀τ a a',(Gf τ++X a).set (N+2) (.tail a' 1 3)=Gf τ++X a':=λτ a a'=>(by rw[dW,hX,hX];rfl);rw[Q5];refine oW [11,13,16] [0,1,2,3,4,5,6,7,8,9,10,11,12,13,14,15,16,17] [⟨0,false,[],[([11],[11]),([11,13],[11,13])]⟩,⟨1,false,[],[([11],[11]),([11,13],[11,13])]⟩,⟨2,false,[],[([11],[11]),([11,13],[11,13])]⟩,⟨3,false,[],[([11],[11]),([11,13],[11,13])]⟩,⟨4,false,[],[([11],[11]),([11,13],[11,13])]⟩,⟨5,false,[],[([11],[11])]⟩,⟨6,false,[],[([11],[11])]⟩,⟨7,false,[],[([11],[11])]⟩,⟨8,false,[],[]⟩,⟨9,false,[],[]⟩,⟨10,false,[],[]⟩,⟨11,true,[11],[]⟩,⟨12,false,[11],[]⟩,⟨13,true,[11,13],[]⟩,⟨14,false,[11,13],[]⟩,⟨15,false,[11,13],[]⟩,⟨16,true,[11,13,16],[]⟩,⟨17,false,[11,13,16],[]⟩] (λD=>bif isDone 16 D then Gf (tick (tick ρ))++X (i+1+1)else bif isDone 13 D then Gf (tick (tick ρ))++X (i+1)else bif isDone 11 D then Gf (tick ρ)++X (i+1)else Gf ρ++X (i+1)) ?_;simp only[seval,N8,Dz,z1,AG,x1,x2,N2,e9 hw,iO,C2,fF];refine j8 _ _ (cx (o0 (jE (X (i+1))) qy (by omega) (by omega) ⟨rfl,rfl⟩)) ?_;(try simp only[seval,N8,Dz,z1,AG,x1,x2,N2,e9 hw,iO,C2,fF]);refine j8 (iv v) _ (cx (Jd (ns:=[0,am,de ρ am]) (jE (X (i+1))) qy.tick (by omega) (by simp) (by simp) ⟨by rw[Sy],rfl⟩)) ?_;(try simp only[seval,N8,Dz,z1,AG,x1,x2,N2,e9 hw,iO,C2,fF]);refine⟨by omega,?_⟩;refine ai ?_;simp only[seval,fQ];refine hR _ ⟨bB,trivial,?_⟩;rw[eC,TD,hX];exact da
  ·as_aux_lemma=>
   have dx:i=hn:=(by omega);subst dx;clear hR;refine bX ?_;obtain⟨w,hw⟩:=b9 (xs:=l) (i:=i) (by omega);have rD:l.getD i 0=w:=(by rw[SE,hw];rfl);have Gd:first<=w/\w<=first+9:=by
    rw[rD]at qh;have:am* (i:Int)<=3* 3:=Yc (by omega) (by omega) (by omega) (by omega);generalize am* (i:Int)=q at qh this;omega
   obtain⟨mn,pq⟩:∃mn:Nat,w-first=mn:=⟨(w-first).toNat,by omega⟩
   have KX:mn<=9:=(by omega);have hwm:SD.wrap (w-first)=mn:=(by rw[LU (by omega),pq]);have iO:(0<=(i:Int)/\(i:Int)<(i:Int)+1)=True:=(by simp;omega);refine eO 8 ?_;simp only[seval,nK,e9 hw,iO,hwm];have jE:∀L:List aa,dJ (λτ=>Gf τ++L) t (N+L.length):=λL=>hT.more L;refine ak ?_;refine aI ((P4 (n:=mn) (jE _) qy (by omega) (by omega) ?_));have qv:=aa1 ρ mn;have qy:=GK qy mn mn;generalize iq ρ mn mn=m2 at qv qy⊢;obtain⟨order,ρ⟩:=m2;dsimp only at qv qy⊢;(try simp only[seval]);refine ak ?_
   (repeat apply iA);refine sK (t:=15) (sz:=1) (el:=3) (by simp only[seval]<;>rfl) ?_
   simp only[seval,hT.len]
   (repeat apply iA);refine sK (t:=16) (sz:=1) (el:=3) (by simp only[seval]<;>rfl) ?_
   simp only[seval,hT.len];refine ON [16,15,14,13,11,10,6,0,1,2] ?_;show aP _ _ _ _ _ ⟨[(16,.sl 0 [] (.opn (N+5))),(15,.sl 0 [] (.opn (N+4))),(14,a_ order),(13,iv mn),(11,.sl (i+1) (l.map iv) (.opn (N+2))),(10,.op (N+1) 0),(6,.op N 0),(0,.op t 0),(1,iv pm),(2,bv false)],_⟩ _;obtain⟨YY,Q7⟩:∃YY:List AV->Nat->Nat->Nat->List aa,∀r c d e,YY r c d e=[zc,.cells r 26,.tail (i+1) 1 3,.tail c 3 61,.tail d 1 3,.tail e 1 3]:=⟨_,λ_ _ _ _=>rfl⟩;have hY:YW Gf N zc YY:=asq hT Q7;have Q6:[zc,.cells [iv first,iv i,iv am,.sl 0 [] (.opn (N+3)),.sl 0 [] .exact,.sl 0 [] .exact] 26,.tail (i+1) 1 3,.tail 0 3 61,.tail 0 1 3,.tail 0 1 3]=YY [iv first,iv i,iv am,.sl 0 [] (.opn (N+3)),.sl 0 [] .exact,.sl 0 [] .exact] 0 0 0++[]:=(by rw[Q7];rfl);simp only[iv]at Q6;rw[Q6];refine ak ?_;refine Iq (α:=Nat×bc) (λy=>⟨[(16,.sl 0 [] (.opn (N+5))),(15,.sl y.1 ((kN first order y.1).map iv) (.opn (N+4))),(13,iv mn),(11,.sl (i+1) (l.map iv) (.opn (N+2))),(10,.op (N+1) 0),(6,.op N 0),(0,.op t 0),(2,bv false)],Gf y.2++(YY [iv first,iv i,iv am,.sl 0 [] (.opn (N+3)),fy (N+6) y.1,.sl 0 [] .exact] 0 y.1 0++gO y.1 (fJ (kE l i (λj=>first+order.getD j 0) ρ y.1).1))⟩) (λy=>y.1<=pm/\y.1<=mn/\y.2.Ok (b+60)) ?_ (λy hy=> ?_)
   ·exact ahU hT hY (λτ'=>hT.au hH τ') hb tz (by omega) ox fF KX qv (qy.mono (by omega))
   ·as_aux_lemma=>
    obtain⟨np,ρ1⟩:=y;obtain⟨akK,akL,LR⟩:=hy;dsimp only at akK akL LR⊢;have F0:(kE l i (λj=>first+order.getD j 0) ρ np).1.length=np:=zH _ _ _ _ _;have So:∀(p:Nat) z,(kE l i (λj=>first+order.getD j 0) ρ np).1[p]?=some z->∃τ,z=lK τ l (first+order.getD p 0) i:=λp z hz=>JZ (P:=λn z=>∃τ,z=lK τ l n i) (λτ n=>⟨τ,rfl⟩) np p z hz;generalize(kE l i (λj=>first+order.getD j 0) ρ np).1=eD at F0 So⊢;have jI:=abb first order np
    have tu:∀n∈kN first order np,first<=n/\n<w:=λn hn=>by
     unfold kN at hn;obtain⟨p,hp,rfl⟩:=Tl.1 hn;have hp:=Tx.1 hp;obtain⟨o,ho⟩:=b9 (xs:=order) (i:=p) (by rw[qv.len];omega);have:=qv.Hc o (tP ho);rw[SE,ho];simp only[S7];omega
    have FV:(kN first order np).Nodup:=by
     have e:kN first order np=(order.take np).map λo=>first+o:=by
      unfold kN;refine am8 (by rw[Tn,Ud,qv.len];omega) λp hp=> ?_;rw[To,Ue,if_pos hp,SE];obtain⟨o,ho⟩:=b9 (xs:=order) (i:=p) (by rw[qv.len];omega);rw[ho];rfl
     rw[e];have h1:(order.take np).Nodup:=Ym (Zf _ _) qv.nodup;rw[Ut,Xv];exact(Ut.1 h1).imp λh e=>h (by omega)
    have Sb:∀p,p<np->(kN first order np).getD p 0=first+order.getD p 0:=λp hp=>by
     unfold kN;rw[SE,To,Xx hp];rfl
    generalize kN first order np=aA at jI tu FV Sb⊢
    refine ak ?_;refine aI ((P4 (n:=np) (jE _) LR (by omega) (by omega) ?_));have tC:=aa1 ρ1 np;have yg:=GK LR np np;generalize iq ρ1 np np=m3 at tC yg⊢;obtain⟨gZ,ρ2⟩:=m3;dsimp only at tC yg⊢;have yg:ρ2.Ok (b+64):=yg.mono (by omega);(try simp only[seval]);have hwe:a_ gZ=.sl np (gZ.map iv) .shut:=(by rw[a_,tC.len]);rw[hwe];refine ak ?_;refine Iq (α:=Nat×bc) (λy=>⟨[(16,.sl y.1 ((gZ.take y.1).map iv) (.opn (N+5))),(15,.sl np (aA.map iv) (.opn (N+4))),(13,iv mn),(11,.sl (i+1) (l.map iv) (.opn (N+2))),(10,.op (N+1) 0),(6,.op N 0),(0,.op t 0),(2,bv false)],Gf y.2++(YY [iv first,iv i,iv am,.sl 0 [] (.opn (N+3)),fy (N+6) np,fy (N+6+np) y.1] 0 np y.1++(gO np (fJ eD)++gO y.1 (fJ (kE l i (λj=>aA.getD (gZ.getD j 0).toNat 0) ρ2 y.1).1)))⟩) (λy=>y.1<=np/\y.1<=3/\y.2.Ok (b+90)) ?_ (λy hy=> ?_)
    ·exact jv (s':=⟨[(19,iv 0),(18,.sl np (gZ.map iv) .shut),(16,.sl 0 [] (.opn (N+5))),(15,.sl np (aA.map iv) (.opn (N+4))),(13,iv mn),(11,.sl (i+1) (l.map iv) (.opn (N+2))),(10,.op (N+1) 0),(6,.op N 0),(0,.op t 0),(2,bv false)],Gf ρ2++(YY [iv first,iv i,iv am,.sl 0 [] (.opn (N+3)),fy (N+6) np,.sl 0 [] .exact] 0 np 0++gO np (fJ eD))⟩) (ey (by simp only[seval];simp[bu,Wk.refl]) rfl) (ahP hT hY (xy _ _) hb (by omega) ox Gd fF (by omega) jI tu tC yg)
    ·as_aux_lemma=>
     obtain⟨ns,ρ3⟩:=y;obtain⟨akM,akN,LS⟩:=hy;dsimp only at akM akN LS⊢;have nJ:(kE l i (λj=>aA.getD (gZ.getD j 0).toNat 0) ρ2 ns).1.length=ns:=zH _ _ _ _ _;have aab:∀(s:Nat) z,(kE l i (λj=>aA.getD (gZ.getD j 0).toNat 0) ρ2 ns).1[s]?=some z->∃τ,z=lK τ l (aA.getD (gZ.getD s 0).toNat 0) i:=λs z hz=>JZ (P:=λn z=>∃τ,z=lK τ l n i) (λτ n=>⟨τ,rfl⟩) ns s z hz;generalize(kE l i (λj=>aA.getD (gZ.getD j 0).toNat 0) ρ2 ns).1=dc at nJ aab⊢;have rQ:=tC.len;have aF:(gZ.take ns).length=ns:=(by rw[Ud];omega);have ep:∀v∈gZ.take ns,0<=v/\v<(np:Int):=λv hv=>tC.Hc v (Wt hv);have akW:(gZ.take ns).Nodup:=Ym (Zf _ _) tC.nodup;have Sk:∀s,s<ns->(gZ.take ns).getD s 0=gZ.getD s 0:=λs hs=>by
      rw[SE,SE,Ue,if_pos hs]
     generalize gZ.take ns=bU at aF ep akW Sk⊢;refine ak ?_;refine aI ((o0 (n:=2) (jE _) LS (by omega) (by omega) ?_));have gU:=lC ρ3 2;generalize de ρ3 2=u2 at gU⊢;obtain⟨cn,rfl⟩:∃cn:Nat,u2=cn:=⟨u2.toNat,by omega⟩;have Gk:=LS.tick;generalize tick ρ3=ρ4 at Gk⊢;(try simp only[seval]);have mi:∀z∈eD,vC i z:=λz hz=>by
      obtain⟨p,hp⟩:=U0 hz;have dG:=(SL.1 hp).1;obtain⟨τ',rfl⟩:=So p z hp;rw[<- Sb p (by omega)];have:=JY au (by omega) ox wy (n:=aA.getD p 0) (by rw[rD];exact tu _ (zw (by omega))) τ';exact⟨this.num,this.hour⟩
     have htv:∀z∈dc,vC i z:=λz hz=>by
      obtain⟨s,hs⟩:=U0 hz;have cH:=(SL.1 hs).1;obtain⟨τ',rfl⟩:=aab s z hs;rw[<- Sk s (by omega)];have ho:=ep _ (zw (l:=bU) (i:=s) (by omega));have:=JY au (by omega) ox wy (n:=aA.getD (bU.getD s 0).toNat 0) (by rw[rD];exact tu _ (zw (by omega))) τ';exact⟨this.num,this.hour⟩
     refine Iq (α:=List Seen×bc) (λy=>⟨[(16,.sl ns (bU.map iv) (.opn (N+5))),(15,.sl np (aA.map iv) (.opn (N+4))),(13,iv mn),(11,.sl (i+1) (l.map iv) (.opn (N+2))),(10,.op (N+1) 0),(6,.op N 0),(0,.op t 0),(2,bv false)],Gf y.2++(YY [iv first,iv i,iv am,.sl y.1.length (y.1.flatMap Seen.l) (.opn (N+3)),fy (N+6) np,fy (N+6+np) ns] y.1.length np ns++(gO np (fJ eD)++gO ns (fJ dc)))⟩) (λy=>y.1.length<=2/\(∀s∈y.1,0<=s.hour/\s.hour<=i/\∃τ,s.next=nc τ (l.getD s.hour.toNat 0) 1 0 99)/\y.2.Ok (b+97)) ?_ (λy hy=> ?_)
     ·refine jv (s':=⟨[(20,iv cn),(16,.sl ns (bU.map iv) (.opn (N+5))),(15,.sl np (aA.map iv) (.opn (N+4))),(13,iv mn),(11,.sl (i+1) (l.map iv) (.opn (N+2))),(10,.op (N+1) 0),(6,.op N 0),(0,.op t 0),(2,bv false)],Gf ρ4++(YY [iv first,iv i,iv am,.sl 0 [] (.opn (N+3)),fy (N+6) np,fy (N+6+np) ns] 0 np ns++(gO np (fJ eD)++gO ns (fJ dc)))⟩) (ey (by simp only[seval];simp[bu,Wk.refl]) rfl) (ahS hT hY hb (by omega) ox wy au (by omega) (Gk.mono (by omega)))
     obtain⟨ss,ρ5⟩:=y;obtain⟨dP,fW,py⟩:=hy;dsimp only at dP fW py⊢;refine ak ?_;refine aD ?_;refine aN ?_;refine jv (s':=⟨[(16,.sl ns (bU.map iv) (.opn (N+5))),(15,.sl np (aA.map iv) (.opn (N+4))),(13,iv mn),(11,.sl (i+1) (l.map iv) (.opn (N+2))),(10,.op (N+1) 0),(6,.op N 0),(0,.op t 0),(2,bv false)],Gf ρ5++(YY [iv first,iv i,iv am,.sl ss.length (ss.flatMap Seen.l) (.opn (N+3)),fy (N+6) np,fy (N+6+np) ns] ss.length np ns++(gO np (fJ eD)++gO ns (fJ dc)))⟩) (ey (by simp only[seval];simp[bu,Wk.refl]) rfl) (ahT hT hY (xy _ _) hb ox KX (by omega) nJ htv py λaq4 ρ6 Lx x_ hρ6=>ahR hT hY hb (by omega) (by omega) F0 mi hρ6 λaoq ρ7 hp1 jZ hρ7=>ahO hT (λτ'=>hT.au hH τ') hY C6 fF hp1 jI Lx aF rfl (hk ⟨first,i,am,ss,aoq,aq4⟩ l aA bU ρ7 ⟨ox,by dsimp only;omega,wy,by dsimp only;omega,by dsimp only;omega,by dsimp only;omega,λs hs=> ?_,λy hy=> ?_,λy hy=> ?_⟩ (by dsimp only;omega) (by omega) (by omega) (by omega) (hρ7.mono (by omega))))
     ·obtain⟨h1,h2,τ',h3⟩:=fW s hs;have ht:=au.top ox wy (by omega) s.hour.toNat (by omega);rw[h3];exact⟨⟨h1,h2⟩,(BG (by omega) (by omega)).1⟩
     ·exact⟨(jZ y hy).1,(jZ y hy).2⟩
     ·exact⟨(x_ y hy).1,(x_ y hy).2⟩
end
namespace Tk
def zu (x:aj):Option (List Int):=(oX x.aB.length).find? λl=>decide (0<cnt (x.wo l))
theorem amI:∀n,n<4->vd n=oX n:=by decide+kernel
theorem agb{x:aj}(hx:x.Ok):rf x=decide (0<cnt x):=by
 rw[agc hx];have:=ags x;cases h:b_ x with
 |nil=>
  have:¬0<cnt x:=λe=>(this.1 e) h;rw[decide_eq_false this];rfl
 |cons a l=>
  rw[decide_eq_true (this.2 (by rw[h];simp))];rfl
theorem Qu{x:aj}(hx:x.Ok):zv x=zu x:=by
 unfold zv zu;rw[amI _ (by have:=hx.dc;omega)];congr 1;funext l;exact agb (hx.wo l)
end Tk
end Go.Gg
