/- A part of the proof. -/
import Derived.Test.YtkanpclgnhdbiaaGreatDoorTicketReadCard3
import Derived.Conc.LeavingOf
import Derived.Conc.Holds
import Derived.ProofKit
import Derived.Test.YtkanpclgnhdbiaaGreatDoorChecked
import Derived.Test.YtkanpclgnhdbiaaGreatDoorRows
set_option linter.all false
set_option maxRecDepth 4000
set_option maxHeartbeats 4000000
open Array renaming getD_eq_getD_getElem?->SI,getElem?_eq_getElem->SK,getElem?_eq_some_iff->SR,getElem?_modify->Wd,getElem_mem->XS,replicate->TL
open Bool renaming and_eq_true->Tc,and_self->Z_,eq_iff_iff->Vk,false_and->Xf,false_eq_true->TO,false_or->XR,not_eq_true'->TV,not_false->YB,or_false->ZT,true_and->U8,true_or->ae_
open Char renaming ofNat->Za
open Classical renaming byContradiction->Tu
open Function renaming comp_apply->Wc
open Go renaming Code->T5,DataW->ah',Func->ZP,FuncId->TQ,Oper->Tv,Program->SJ,ReturnsInLeavingWide->aj',Value->SO,World->Tp
open Go.Addr renaming add->atf
open Go.BinOp renaming neq->VT
open Go.ChangeSpec renaming post_blind->am'
open Go.Conc renaming Good->WV
open Go.DataW renaming weightsEach->Y_
open Go.DataW.Whole renaming of_heap->ah_
open Go.Input renaming okWide->ZO
open Go.IntKind renaming i64->SE,u16->S6
open Go.Obj renaming deferred->atm
open Go.Op renaming equal->Xe
open Go.OpenSpec renaming ofChange->VJ
open Go.PathCond renaming test->ar'
open Go.Program renaming headLifts->atj,liftsFinal->ati,make->ath,mayEnter->atg
open Go.Proofs.Tryz renaming checked->UE,f15->Xx,f34->ZF,f39->al_,f53->ak',f8->WL,prog->SC
open Go.Region renaming linearise->Y7,schedule->VI,wanted->Th
open Go.Region.linearise renaming go->UB
open Go.Value renaming agg->TD,cells->Z3,int->SG,okWide->Yu,slice->Ur
open Int renaming le_refl->W8,le_trans->XD,mul_le_mul->Ye,toNat->X7,toNat_natCast->Vx
open List renaming all_eq_true->Tw,any_append->Zw,any_cons->YP,any_eq_true->UL,append_assoc->SD,append_eq->Vp,append_eq_nil_iff->YA,append_nil->SY,cons_append->VA,contains_append->YN,contains_eq_mem->Up,contains_iff_mem->YF,contains_nil->Zf,countP_le_length->YZ,drop->Ue,drop_append->Vt,drop_append_of_le_length->Wn,drop_drop->aj_,drop_eq_getElem_cons->TW,drop_of_length_le->WT,drop_zero->Xw,exists_mem_of_ne_nil->WF,ext_getElem?->Ym,filter_congr->Vg,filter_eq_nil_iff->Yz,flatMap_append->Vv,flatMap_cons->Ui,flatMap_def->WO,flatMap_eq_nil_iff->WN,flatMap_map->WM,foldl_append->ZK,foldl_cons->UW,forall_mem_cons->Xd,getD_cons_succ->Xc,getD_cons_zero->Xm,getD_eq_getElem?_getD->SF,getElem?_append_left->SZ,getElem?_append_right->Tj,getElem?_drop->Uo,getElem?_eq_getElem->SV,getElem?_eq_none->Uu,getElem?_eq_some_iff->SM,getElem?_map->To,getElem?_of_mem->VD,getElem?_range->Xv,getElem?_set->UI,getElem?_set_ne->T6,getElem?_take->Uc,getElem_mem->Wr,getLast?_eq_getElem?->Yc,getLastD_cons->Zn,getLastD_eq_getLast?->Vf,head?_append->WK,head?_cons->XY,length->Z1,length_append->SQ,length_cons->Ul,length_drop->Uj,length_eraseIdx_of_lt->X6,length_map->Tn,length_nil->UQ,length_pos_iff->Vq,length_range->Zv,length_replicate->YE,length_set->TF,length_singleton->T7,length_take->TZ,map->U4,map_append->TE,map_congr_left->Vy,map_cons->UU,map_flatMap->Vs,map_map->XW,map_take->VS,mem_append->SS,mem_append_left->Tg,mem_append_right->S5,mem_cons->SL,mem_cons_of_mem->Tb,mem_cons_self->TC,mem_filter->Un,mem_flatMap->S7,mem_iff_getElem?->UP,mem_map->Tm,mem_of_getElem?->Te,mem_of_mem_take->Wq,mem_or_eq_of_mem_set->UK,mem_range->TG,mem_reverse->XH,mem_singleton->S8,nil_append->UC,nodup_append->U3,nodup_cons->VO,nodup_iff_pairwise_ne->Us,nodup_nil->WJ,nodup_range->XU,not_mem_nil->S4,pairwise_iff_getElem->Yb,pairwise_map->Xt,range->S0,range'->Ua,range'_succ->VN,range_eq_range'->Vm,range_succ->Vh,range_zero->Zu,replicate->TN,reverse_cons->Ze,set_append_left->Ww,set_append_right->UO,set_cons_succ->UA,set_cons_zero->TY,set_eq_take_append_cons_drop->XK,take->T_,take_add_one->VE,take_append_drop->Ve,take_append_of_le_length->Tx,take_eq_nil_iff->YM,take_length->TJ,take_of_length_le->SW,take_set->Z0,take_sublist->Zd,take_succ_cons->VQ,take_succ_eq_append_getElem->VZ,take_take->UZ,take_zero->ai'
open List.Nodup renaming sublist->Yn
open List.Pairwise renaming imp->Z2,imp_of_mem->Xs
open List.Perm renaming nodup_iff->an_,refl->aa'
open List.cons renaming injEq->YO
open Nat renaming add_assoc->XC,add_sub_cancel->VU,add_sub_cancel_left->U6,add_zero->UH,le_refl->SP,le_trans->UF,lt_or_ge->YD,lt_succ_self->Uv,min_eq_left->Wu,pow_le_pow_right->Xl,reduceAdd->SX,reduceSub->Yr,sub_self->Vb,sub_zero->ZU,succ_mul->XA,testBit_or->Xk,testBit_two_pow->VM,zero_add->Wp,zero_testBit->Zs
open Option renaming getD_some->S9,map_eq_some_iff->Tq,map_some->UN
open Option.some renaming inj->Wj,injEq->Tl
open Prod.mk renaming injEq->UY
namespace Go.Gg
open Go.Conc Go.Proofs Go.Gg.Tk
namespace Tk
def aB.more (y:aB)(n:Int):aB:=⟨⟨y.number.min+n,y.number.max+n⟩,y.hour⟩
def lP (h:List Int)(n:Int):Nat->Int
 |0=> -1
 |i+1=>if h.getD i 0<=n/\n<h.getD (i+1) 0 then i else lP h n i
end Tk
section
variable {lv:Bool}{H:List aa}{k kp:AV->List aa->Prop}
theorem Pb{a b:Int}(hk:k (.agg [iv a,iv b]) H):bc lv SC 24 H [iv a,iv b] k kp:=by
 refine bF (rs:=[.cell 4 46]) (nt:=8) Tryz.f24 λhH hA=> ?_;simp only[bk,SX];refine ak ?_;refine ak ?_;refine a_ ?_;exact jM hH (Wk.refl _) (by simp[sV,eD]) hk
theorem Ph{a b c:Int}(hk:k (Seen.av ⟨a,⟨b,c⟩⟩) H):bc lv SC 78 H [iv a,iv b,iv c] k kp:=by
 refine bF (rs:=[.cell 6 61]) (nt:=12) Tryz.f78 λhH hA=> ?_;simp only[bk,SX];refine ak ?_;refine ak ?_;refine a_ ?_;exact jM hH (Wk.refl _) (by simp[sV,eD]) hk
theorem qJ{a b c d:Int}(hk:k (aB.av ⟨⟨a,b⟩,⟨c,d⟩⟩) H):bc lv SC 79 H [iv a,iv b,iv c,iv d] k kp:=by
 refine bF (rs:=[.cell 8 48]) (nt:=16) Tryz.f79 λhH hA=> ?_;simp only[bk,SX];refine ak ?_;refine ak ?_;refine a_ ?_;exact jM hH (Wk.refl _) (by simp[sV,eD]) hk
theorem ahC{h:List Int}{n:Int}{e:End}(hl:h.length<=4)(hk:k (iv (lP h n (h.length-1))) H):bc lv SC 40 H [.sl h.length (h.map iv) e,iv n] k kp:=by
 refine bF (rs:=[.tmp 4]) (nt:=31) Tryz.f40 λhH hA=> ?_;simp only[bk,SX];refine ak ?_;refine ak ?_;refine ak ?_;refine cI ?_;refine gJ (h.length-1) (λi:Nat=>[(5,iv (lP h n i)),(6,iv i)]) (λ_=>_) (λi=>True) (λ_ _=>rfl) (by simp only[seval];simp[bA,Wk.refl];exact Wk.refl _) rfl (λ_ _ _=>rfl) trivial (λce db i cN _ R hR=> ?_);have fL:SE.wrap ((i:Int)+1)=((i+1:Nat):Int):=by rw[bG _ (by omega)];rfl
 refine aj ?_;simp only[seval,fL];refine aE ?_;refine⟨λhc=> ?_,λhc=> ?_⟩
 ·have bx:i+1<h.length:=by omega
  obtain⟨a,ha⟩:=cy (xs:=h) (i:=i) (by omega);obtain⟨b,hb⟩:=cy (xs:=h) (i:=i+1) bx;have f_:h.getD i 0=a:=by rw[SF,ha];rfl
  have dB:h.getD (i+1) 0=b:=by rw[SF,hb];rfl
  have iE:=jl (show i<h.length by omega);have tX:(0<=(i:Int)+1/\(i:Int)+1<(h.length:Int))=True:=by simp;omega
  have lH:((i:Int)+1).toNat=i+1:=by omega
  have cZ:lP h n (i+1)=if a<=n/\n<b then(i:Int)else lP h n i:=by rw[lP,f_,dB]
  refine aO ?_;refine cI ?_;by_cases c1:a<=n
  ·have d1:decide (a<=n)=true:=decide_eq_true c1;by_cases c2:n<b
   ·have d2:decide (n<b)=true:=decide_eq_true c2;refine aj ?_;simp only[seval,gE ha,gE hb,iE,tX,lH,d1,d2,fL];refine aE ?_;refine ak ?_;refine aj ?_;simp only[seval,fL];rw[if_pos ⟨c1,c2⟩]at cZ;refine hR _ ⟨by omega,trivial,?_⟩;rw[cZ];exact dD
   ·have d2:decide (n<b)=false:=decide_eq_false c2;refine aj ?_;simp only[seval,gE ha,gE hb,iE,tX,lH,d1,d2,fL];refine aE ?_;refine aO ?_;refine aj ?_;simp only[seval,fL];rw[if_neg (λhh=>c2 hh.2)]at cZ;refine hR _ ⟨by omega,trivial,?_⟩;rw[cZ];exact dD
  ·have d1:decide (a<=n)=false:=decide_eq_false c1;refine aj ?_;simp only[seval,gE ha,iE,d1];refine aE ?_;refine aO ?_;refine aj ?_;simp only[seval,fL];rw[if_neg (λhh=>c1 hh.1)]at cZ;refine hR _ ⟨by omega,trivial,?_⟩;rw[cZ];exact dD
 ·have du:i=h.length-1:=by omega
  subst du;refine b_ ?_;refine ak ?_;refine a_ ?_;exact bT hk
end
open Go.Conc Go.Proofs Go.Gg.Tk
namespace Tk
end Tk
section
variable {lv:Bool}{H:List aa}{k kp:AV->List aa->Prop}
end
open Go.Conc Go.Proofs Go.Gg.Tk
def vk (τ:bp)(ns:List Int):Int:=ns.getD (dH τ (ns.length-1)).toNat 0
section
variable {lv:Bool}{H:List aa}{k kp:AV->List aa->Prop}{Gf:bp->List aa}{t N:Nat}{τ:bp}{b:Int}
theorem IG{ns:List Int}{e:End}(hT:dW Gf t N)(hτ:τ.Ok b)(hb:b<2^60)(hn:1<=ns.length)(ky:ns.length<2^20)(hk:k (iv (vk τ ns)) (Gf (tick τ))):bc lv SC 45 (Gf τ) [.op t 0,.sl ns.length (ns.map iv) e] k kp:=by
 refine bF (rs:=[.tmp 4]) (nt:=13) Tryz.f45 λhH hA=> ?_;simp only[bk,SX];have bP:SE.wrap ((ns.length:Int)-1)=(ns.length:Int)-1:=bG _ (by omega);have hr:=mO τ ((ns.length:Int)-1);unfold vk at hk;obtain⟨j,hj⟩:=Int.eq_ofNat_of_zero_le hr.1;have e_:j<ns.length:=by omega
 obtain⟨v,hv⟩:=cy e_;rw[hj]at hk;have xF:ns.getD ((j:Int)).toNat 0=v:=by rw[Vx,SF,hv];rfl
 rw[xF]at hk;refine ak ?_;refine aj ?_;simp only[seval,bP];refine aJ ((si hT hτ hb (by omega) ?_));rw[hj];(try simp only[seval,gE hv,jl e_]);refine a_ ?_;exact bT hk
end
def mw (τ:bp)(n m lo hi:Int):iP:=⟨max lo (n-dH τ m),min hi (n+dH (tick τ) m)⟩
def lz (τ:bp)(h:List Int)(n hours:Int):aB:=⟨mw τ n 2 0 99,mw (tick (tick τ)) (lP h n (h.length-1)) 1 0 (hours-1)⟩
section
variable {lv:Bool}{k kp:AV->List aa->Prop}{Gf:bp->List aa}{t N:Nat}{τ:bp}{b:Int}
theorem IH{n m lo hi:Int}(hT:dW Gf t N)(hτ:τ.Ok b)(hb:b<2^30)(hn: -1000<=n/\n<=1000)(hm:0<=m/\m<=3)(hk:k (mw τ n m lo hi).av (Gf (tick (tick τ)))):bc lv SC 48 (Gf τ) [.op t 0,iv n,iv m,.agg [iv lo,iv hi]] k kp:=by
 refine bF (rs:=[.cell 8 46]) (nt:=26) Tryz.f48 λhH hA=> ?_;simp only[bk,SX];have nY:dW (λτ=>Gf τ++[.cells [iv lo,iv hi] 46,.cells [iv 0,iv 0] 46]) t (N+2):=hT.more [_,_];have r1:=mO τ m;have r2:=mO (tick τ) m;have bP:SE.wrap (n-dH τ m)=n-dH τ m:=bG _ (by omega);have gY:SE.wrap (n+dH (tick τ) m)=n+dH (tick τ) m:=bG _ (by omega);have B3:(if lo<n-dH τ m then n-dH τ m else lo)=max lo (n-dH τ m):=by split<;>omega
 have pV:(if n+dH (tick τ) m<hi then n+dH (tick τ) m else hi)=min hi (n+dH (tick τ) m):=by split<;>omega
 refine ak ?_;refine qE [5,13,17] [0,1,2,3,4,5,6,7,8,9,10,11,12,13,14,15,16,17] [⟨0,false,[],[([5],[5]),([5,13],[5,13])]⟩,⟨1,false,[],[([5],[5]),([5,13],[5,13])]⟩,⟨2,false,[],[([5],[5]),([5,13],[5,13])]⟩,⟨3,false,[],[]⟩,⟨4,false,[],[]⟩,⟨5,true,[5],[]⟩,⟨6,false,[5],[([5,13],[5,13])]⟩,⟨7,false,[5],[([5,13],[5,13])]⟩,⟨8,false,[5],[([],[]),([5,13],[5,13])]⟩,⟨9,false,[5],[([],[]),([5,13],[5,13])]⟩,⟨10,false,[5],[([],[]),([5,13],[5,13])]⟩,⟨11,false,[5],[([],[])]⟩,⟨12,false,[5],[([],[])]⟩,⟨13,true,[5,13],[]⟩,⟨14,false,[5,13],[]⟩,⟨15,false,[5,13],[]⟩,⟨16,false,[5,13],[]⟩,⟨17,true,[5,13,17],[]⟩] (λD=>bif isDone 17 D then Gf (tick (tick τ))++[.cells [iv lo,iv hi] 46,.cells [iv (max lo (n-dH τ m)),iv (min hi (n+dH (tick τ) m))] 46]else bif isDone 13 D then Gf (tick (tick τ))++[.cells [iv lo,iv hi] 46,.cells [iv 0,iv 0] 46]else bif isDone 5 D then Gf (tick τ)++[.cells [iv lo,iv hi] 46,.cells [iv 0,iv 0] 46]else Gf τ++[.cells [iv lo,iv hi] 46,.cells [iv 0,iv 0] 46]) ?_;simp only[seval,hT.len,hT.g0,hT.g1,hT.g2,hT.g3,hT.h2,hT.h3,hT.s0,hT.s1,hT.s2,hT.s3,hT.t2,hT.t3,bP,gY,B3,pV];refine kN _ _ (cJ (si (nY) hτ (by omega) (by omega) ⟨rfl,rfl⟩)) ?_;(try simp only[seval,hT.len,hT.g0,hT.g1,hT.g2,hT.g3,hT.h2,hT.h3,hT.s0,hT.s1,hT.s2,hT.s3,hT.t2,hT.t3,bP,gY,B3,pV]);refine kN _ _ (cJ (si (nY) hτ.tick (by omega) (by omega) ⟨rfl,rfl⟩)) ?_;(try simp only[seval,hT.len,hT.g0,hT.g1,hT.g2,hT.g3,hT.h2,hT.h3,hT.s0,hT.s1,hT.s2,hT.s3,hT.t2,hT.t3,bP,gY,B3,pV]);refine nS ?_;simp only[seval,hT.len,hT.g0,hT.g1,hT.g2,hT.g3,hT.h2,hT.h3,hT.s0,hT.s1,hT.s2,hT.s3,hT.t2,hT.t3];exact jN (b:=(mw τ n m lo hi).av) (H':=Gf (tick (tick τ))) (Wk.refl _) rfl (by simp[hT.len]) (hT.ay hH _) (by simp[iP.av,iP.l,sV,eD]) hk
theorem Pf{h:List Int}{n hours:Int}{e:End}(hT:dW Gf t N)(hτ:τ.Ok b)(hb:b<2^20)(hl:h.length<=4)(hn: -1000<=n/\n<=1000)(hh:1<=hours/\hours<=3)(p_: -1<=lP h n (h.length-1)/\lP h n (h.length-1)<=4)(hk:k (lz τ h n hours).av (Gf (tick (tick (tick (tick τ)))))):bc lv SC 47 (Gf τ) [.op t 0,.sl h.length (h.map iv) e,iv n,iv hours] k kp:=by
 refine bF (rs:=[.cell 8 48]) (nt:=22) Tryz.f47 λhH hA=> ?_;simp only[bk,SX];have tV:∀o:aa,dW (λτ=>Gf τ++[o]) t (N+1):=λo=>hT.more [o];have bP:SE.wrap (hours-1)=hours-1:=bG _ (by omega);refine ak ?_;refine aj ?_;simp only[seval,bP];refine aJ ((IH (n:=n) (m:=2) (lo:=0) (hi:=99) (tV _) hτ (by omega) hn (by decide) ?_));(try simp only[seval]);refine aJ ((ahC (h:=h) (n:=n) hl ?_));(try simp only[seval,bP]);refine aJ ((IH (n:=lP h n (h.length-1)) (m:=1) (lo:=0) (hi:=hours-1) (tV _) hτ.tick.tick (by omega) (by omega) (by decide) ?_));(try simp only[seval,hT.len,hT.g0,hT.g1,hT.g2,hT.g3,hT.h2,hT.h3,hT.s0,hT.s1,hT.s2,hT.s3,hT.t2,hT.t3,iP.av,iP.l]);refine nS ?_;simp only[seval,hT.len,hT.g0,hT.g1,hT.g2,hT.g3,hT.h2,hT.h3,hT.s0,hT.s1,hT.s2,hT.s3,hT.t2,hT.t3];exact jN (b:=(lz τ h n hours).av) (H':=Gf (tick (tick (tick (tick τ))))) (Wk.refl _) rfl (by simp[hT.len]) (hT.ay hH _) (by simp[aB.av,aB.l,sV,eD]) hk
end
end Go.Gg
namespace Go.Gg.Tk
def tw:List Int->Prop
 |a::b::l=>a<=b/\tw (b::l)
 |_=>True
theorem aqV{h:List Int}{n:Int}(hl:2<=h.length)(pP:h.length<=4)(hm:tw h):lP h n (h.length-1)=je h n:=by
 match h,hl,pP,hm with
 |[a,b],_,_,hm=>
  simp only[je,ft,lP,Ul,UQ,Xm,Xc,SX,Yr]
 |[a,b,c],_,_,hm=>
  obtain⟨h1,h2,_⟩:=hm;simp only[je,ft,lP,Ul,UQ,Xm,Xc,SX,Yr];split<;>split<;>first|rfl|omega
 |[a,b,c,d],_,_,hm=>
  obtain⟨h1,h2,h3,_⟩:=hm;simp only[je,ft,lP,Ul,UQ,Xm,Xc,SX,Yr];split<;>split<;>first|rfl|omega|(split<;>first|rfl|omega)
end Go.Gg.Tk
namespace Go.Gg
open Go.Conc
section
variable {lv:Bool}{P:SJ}{r:Option Nat}{o:Tv}{s:AS}{next:AS->Prop}{bad:AV->AS->Prop}
end
section
variable (lv:Bool)(P:SJ)(r:Option Nat)
def AD:List Tv->AS->(AS->Prop)->(AV->AS->Prop)->Prop
 |[],s,K,_=>K s
 |o::rest,s,K,bad=>o.guard=none/\Step lv P r o s (λs'=>AD rest s' K bad) bad
end
section
variable {lv:Bool}{P:SJ}{r:Option Nat}{s:AS}
theorem ab9{nt:Nat}{all:Array Tv}{Φ:an->AS->Prop}(dj:∀o∈all,∀d,o.dst=some d->d<nt)(nj:∀o∈all,r=none\/l_ o.op=false):∀(n k:Nat)(s:AS),k+n=all.size->AD lv P r (all.toList.drop k) s (Φ .normal) (λpv s=>Φ (.panic pv) s)->
  ∀(E:Env)(V:View)(a:Act)(Q:Ex->Act->View->Prop),At E V s a nt->(∀ae e E' V' a' s',Kept E E' V V' a a'->At E' V' s' a' nt->pt E' ae e->Φ ae s'->Q e a' V')->dh lv P r all Q (Ua k n) a V
 |0,k,s,hk,h,E,V,a,Q,ah,hQ=>by
  have:all.toList.drop k=[]:=by simp;omega
  rw[this]at h;exact hQ .normal .normal E V a s (Kept.refl E V a) ah trivial h
 |n+1,k,s,hk,h,E,V,a,Q,ah,hQ=>by
  have hlt:k<all.size:=by omega
  have hd:all.toList.drop k=all[k]::all.toList.drop (k+1):=by
   rw[TW (by simpa using hlt)];simp
  rw[hd]at h;have fA:all[k]∈all:=XS hlt;have ho:all[k]?=some all[k]:=SK hlt;simp only[VN,dh,ho];obtain⟨hg,h⟩:=h;have hw:Th all[k] (yielded all a.tmps)=true:=by unfold Th;rw[hg]
  rw[if_pos hw];refine .inl (h E V a _ Q ah.bm ah.tok (λd e=>by rw[ah.size];exact dj _ fA d e) (nj _ fA) (λE' V' a' s' aI bh l7 hn=> ?_) (λE' V' s' pv v aI bh l7 bi hb=> ?_))
  ·exact ab9 dj nj n (k+1) s' (by omega) hn E' V' a' Q ⟨bh,l7,aI.size.trans ah.size⟩ (λae e bO aR b9 dg fN dc he hΦ=>hQ ae e bO aR b9 dg (aI.trans fN) dc he hΦ)
  ·exact hQ (.panic pv) (.panic _) E' V' a s' aI ⟨bh,l7,ah.size⟩ ⟨v,rfl,bi⟩ hb
theorem aeV{nt id:Nat}{ops:Array Tv}{Φ:an->AS->Prop}(hd:jL nt ops=true)(h:AD lv P r ops.toList s (Φ .normal) (λpv s=>Φ (.panic pv) s)):aU lv P r nt (.region id ops false) s Φ:=by
 intro E V a Q ah hQ;refine wp_region ?_;rw[Vm];exact ab9 (Φ:=Φ) (λo ho d e=>(jL.out hd ho).1 d e) (λo ho=> .inr (jL.out hd ho).2) ops.size 0 s (by omega) (by simpa using h) E V a Q ah hQ
end
section
variable {lv:Bool}{P:SJ}{r:Option Nat}{o:Tv}{s:AS}{next:AS->Prop}{bad:AV->AS->Prop}
theorem HQ{nt id:Nat}{c:T5}{l:List AV}{el:TypeId}{Φ:an->AS->Prop}(bR:s.H[id]?=some (.cells l el))(h:aU lv P r nt c ⟨s.T,s.H.set id (.part l.length l el)⟩ Φ):aU lv P r nt c s Φ:=λE V a Q ah hQ=>by
 have hc:=ah.bm;obtain⟨⟨cs,gX,hd⟩,kV⟩:=hc.obj id _ bR;have g:dT V (V.eE (E.blk id) cs (λo=>decide (o<l.length))):=w6 gX (λo _=>kV o);refine WP.ghost g ?_;have hI:∀b o v,E.I b o=some v->(V.eE (E.blk id) cs (λo=>decide (o<l.length))).ab b o=some v:=λb o v e=>by
  rw[hc.I]at e;have hb:b≠E.blk id:=λhb=>by rw[hb,kV]at e;cases e
  simp only[View.eE];rw[if_neg (λx=>hb x.1)];exact e
 have hle:E.Le {E with I:=(V.eE (E.blk id) cs (λo=>decide (o<l.length))).ab}:=⟨hI,SP _,λ_ _=>rfl,λ_ _=>SP _,λ_ _ _ _=>rfl,rfl,rfl⟩;have cM:Conc {E with I:=(V.eE (E.blk id) cs (λo=>decide (o<l.length))).ab} (V.eE (E.blk id) cs (λo=>decide (o<l.length))) (s.H.set id (.part l.length l el)):=by
  refine hc.iz id _ hle rfl (by rw[TF];exact hc.n) lf rfl (λ_ _ _=>rfl) (λb y fl hy=>⟨hy,λo=> ?_⟩) ⟨⟨cs,gX,(hd.mono hle).p,λo ho=> ?_⟩,λo ho=> ?_⟩ (λb hb=> .inl ⟨_,bR,hb⟩)
  ·have hb:b≠E.blk id:=λhb=>fl _ bR (by rw[hb];rfl);simp only[View.eE];rw[if_neg (λx=>hb x.1)]
  ·simp only[View.eE];rw[if_pos ⟨trivial,by simpa using ho⟩]
  ·simp only[View.eE];rw[if_neg (λx=>by have:=x.2;simp at this;omega)];exact kV o
 exact h _ _ a Q ⟨cM,ah.tok.mono hle,ah.size⟩ λae e E' aR a' s' hk=>hQ ae e E' aR a' s' ((⟨hle,rfl,rfl,rfl,rfl⟩:Kept E _ V (V.eE (E.blk id) cs (λo=>decide (o<l.length))) a a).trans hk)
def AH (H:List aa)(b a:AV):Prop:=∀E V v,Conc E V H->ap E b v->ap E a v
theorem AH.of{H:List aa}{b a:AV}(h:Wk b a):AH H b a:=λE _ v _ d=>h E v d
theorem G2{H:List aa}{id n cap m p:Nat}{l:List AV}{el:TypeId}(bR:H[id]?=some (.part p l el))(hm:m<=p)(hp:p<=l.length):AH H (.bE id 0 n cap) (.sl n (l.take m) .shut):=λE V v hc hd=>by
 cases hd with
 |bE hi dP=>
  rename_i cap';obtain⟨⟨cs,ho,EP,uc⟩,_⟩:=hc.obj id _ bR;refine .sl (E.blk id) 0 cap' (λi=>cs.getD i undef) dP.1 trivial (λi cx=> ?_) (λi x hx=> ?_)
  ·rw[TZ]at cx;have hlt:i<cs.size:=(by have:=EP.1;omega);rw[hc.I,Wp,uc i (by omega),SI,SK hlt];rfl
  ·rw[Uc]at hx;split at hx
   ·exact EP.2 i x hx
   ·cases hx
theorem NZ{nt id j:Nat}{c:T5}{l:List AV}{x y:AV}{el:TypeId}{Φ:an->AS->Prop}(bR:s.H[id]?=some (.cells l el))(hj:l[j]?=some x)(hw:AH s.H x y)(h:aU lv P r nt c ⟨s.T,s.H.set id (.cells (l.set j y) el)⟩ Φ):aU lv P r nt c s Φ:=λE V a Q ah hQ=>by
 have hc:=ah.bm;obtain⟨⟨cs,gX,hd⟩,kV⟩:=hc.obj id _ bR;have cM:Conc E V (s.H.set id (.cells (l.set j y) el)):=
  hc.iz id _ (Env.Le.refl _) hc.I (by rw[hc.n,TF]) lf rfl (λ_ _ _=>rfl) (λb y _ hy=>⟨hy,λ_=>rfl⟩) ⟨⟨cs,gX,OJ hd hj (λv d=>hw E V v hc d)⟩,kV⟩ (λb dB=> .inl ⟨_,bR,dB⟩)
 exact h E V a Q ⟨cM,ah.tok,ah.size⟩ hQ
theorem N0{nt t:Nat}{c:T5}{x y:AV}{Φ:an->AS->Prop}(ht:look s.T t=some x)(hw:AH s.H x y)(h:aU lv P r nt c ⟨(t,y)::s.T,s.H⟩ Φ):aU lv P r nt c s Φ:=λE V a Q ah hQ=>by
 refine h E V a Q ⟨ah.bm,λt' b e=> ?_,ah.size⟩ hQ;simp only[look]at e;split at e
 ·rename_i e';subst e';cases e;exact⟨(ah.tok t x ht).1,hw E V _ ah.bm (ah.tok t x ht).2⟩
 ·exact ah.tok t' b e
end
open Go.Proofs Go.Gg.Tk
def g_ (τ:bp)(n:Nat):Nat->List Int×bp
 |0=>(TN n 0,τ)
 |i+1=>(((g_ τ n i).1.set i ((g_ τ n i).1.getD (dH (g_ τ n i).2 i).toNat 0)).set (dH (g_ τ n i).2 i).toNat i,tick (g_ τ n i).2)
theorem zI(τ:bp)(n:Nat):∀i,(g_ τ n i).1.length=n
 |0=>YE
 |i+1=>by rw[g_,TF,TF,zI τ n i]
theorem F_{τ:bp}{b:Int}(h:τ.Ok b)(n:Nat):∀i:Nat,(g_ τ n i).2.Ok (b+i)
 |0=>h.mono (by simp)
 |i+1=>(F_ h n i).tick.mono (by simp;omega)
theorem ac7(n:Nat):gG (SG .i64 0) n=(TN n (0:Int)).map iv:=by
 have h:∀i∈S0 n,AV.pf ((SG SE 0).cells[i % (SG SE 0).cells.size]!)=iv 0:=λi _=>by
  rw[show (SG SE 0).cells.size=1 from rfl,Nat.mod_one];rfl
 rw[List.map_replicate];unfold gG;rw[Vy h,List.map_const',Zv]
section
variable {lv:Bool}{k kp:AV->List aa->Prop}{Gf:bp->List aa}{t N:Nat}{τ:bp}{b:Int}
theorem Pd{n:Nat}(hT:dW Gf t N)(hτ:τ.Ok b)(hb:b<2^30)(hn:n<=2^20)(hk:k (br (g_ τ n n).1) (Gf (g_ τ n n).2)):bc lv SC 37 (Gf τ) [.op t 0,iv n] k kp:=by
 refine bF (rs:=[.tmp 4]) (nt:=30) Tryz.f37 λhH hA=> ?_;simp only[bk,SX];have tV:∀o:aa,dW (λτ=>Gf τ++[o]) t (N+1):=λo=>hT.more [o];refine ak ?_;refine aj ?_;simp only[seval,ac7,hT.len];refine⟨by omega,by omega,?_⟩;refine ak ?_;refine cI ?_;refine gJ n (λi:Nat=>[(6,iv i)]) (λi=>Gf (g_ τ n i).2++[.cells ((g_ τ n i).1.map iv) 3]) (λ_=>True) (λ_ _=>rfl) (by simp only[seval];simp[bA,Wk.refl]) rfl (λ_ _ _=>by simp[hT.len]) trivial (λce db i cN hi R hR=> ?_);clear ce db;refine ak ?_;refine aE ?_;refine⟨λh=> ?_,λh=> ?_⟩
 ·have bx:i<n:=by omega
  have ay:=F_ hτ n i;have hlen:=zI τ n i;have xI:SE.wrap ((i:Int)+1)=i+1:=bG _ (by omega);have eP:g_ τ n (i+1)=(((g_ τ n i).1.set i ((g_ τ n i).1.getD (dH (g_ τ n i).2 i).toNat 0)).set (dH (g_ τ n i).2 i).toNat i,tick (g_ τ n i).2):=rfl;generalize g_ τ n i=m at ay hlen eP⊢;obtain⟨l,σ⟩:=m;simp only at ay hlen eP;have hr:=mO σ i;refine aO ?_;refine ak ?_;refine aJ ((si (tV _) ay (by omega) (by omega) ?_));(try simp only[seval]);generalize dH σ i=u at hr eP⊢;obtain⟨u,rfl⟩:∃w:Nat,u=w:=⟨u.toNat,by omega⟩;rw[Vx]at eP;have RU:u<n:=by omega
  obtain⟨a,ha⟩:=cy (xs:=l) (i:=u) (by omega);have JR:l.getD u 0=a:=by rw[SF,ha];rfl
  rw[JR]at eP;obtain⟨a2,Bz⟩:=cy (xs:=l) (i:=i) (by omega);have Fg:(i+1<=l.length)=True:=by simp;omega
  have hou:(u+1<=(l.set i a).length)=True:=by simp;omega
  refine aj ?_;simp only[seval,jl bx,jl RU,hT.len,hT.g0,hT.g1,hT.g2,hT.g3,hT.h2,hT.h3,hT.s0,hT.s1,hT.s2,hT.s3,hT.t2,hT.t3,kL ha,Tn,Fg,we (y:=a) (show i<l.length by omega)];refine aj ?_;simp only[seval,jl RU,hT.len,hT.g0,hT.g1,hT.g2,hT.g3,hT.h2,hT.h3,hT.s0,hT.s1,hT.s2,hT.s3,hT.t2,hT.t3,Tn,hou,we (xs:=l.set i a) (y:=i) (show u<(l.set i a).length by simp;omega)];refine aj ?_;simp only[seval,xI];refine hR _ ⟨bx,trivial,?_⟩;rw[eP];exact dD
 ·have pO:i=n:=by omega
  subst pO;clear hR;refine b_ ?_;have hlen:=zI τ i i;generalize g_ τ i i=m at hlen hk⊢;obtain⟨l,σ⟩:=m;simp only at hlen hk
  (repeat apply gT);refine HQ (id:=N) (by simp only[seval,hT.len,hT.g0,hT.g1,hT.g2,hT.g3,hT.h2,hT.h3,hT.s0,hT.s1,hT.s2,hT.s3,hT.t2,hT.t3]<;>rfl) ?_
  simp only[seval,hT.len,hT.g0,hT.g1,hT.g2,hT.g3,hT.h2,hT.h3,hT.s0,hT.s1,hT.s2,hT.s3,hT.t2,hT.t3]
  (repeat apply gT);refine N0 (t:=5) (y:=br l) (by simp only[seval]<;>rfl) ?_ ?_
  ·have e:br l=.sl i ((l.map iv).take i) .shut:=by
    rw[SW (by simp;omega),br,hlen]
   rw[e];exact G2 (p:=l.length) (by simp only[seval,hT.len,hT.g0,hT.g1,hT.g2,hT.g3,hT.h2,hT.h3,hT.s0,hT.s1,hT.s2,hT.s3,hT.t2,hT.t3]<;>rfl) (by omega) (by simp)
  refine ak ?_;refine a_ ?_;exact jN (b:=br l) (H':=Gf σ) (G:=[.part l.length (l.map iv) 3]) (Wk.refl _) rfl (by simp[hT.len]) (hT.ay hH σ) (by rw[zH];trivial) hk
end
structure Hx (p:List Int)(n:Nat):Prop where
 len:p.length=n
 nodup:p.Nodup
 GA:∀v∈p,0<=v/\v<(n:Int)
theorem set_perm{t:List Int}{k:Nat}{a b:Int}(h:t[k]?=some a):(t.set k b++[a]).Perm (t++[b]):=by
 obtain⟨hk,rfl⟩:=SM.1 h;have e:t=t.take k++t[k]::t.drop (k+1):=by rw[<- TW hk,Ve]
 rw[XK,if_pos hk]
 conv=>rhs;rw[e]
 rw[List.perm_iff_count];intro v;simp only[List.count_append,List.count_cons,List.count_nil];omega
theorem aaz(τ:bp)(n:Nat):∀i:Nat,i<=n->((g_ τ n i).1.take i).Nodup/\∀v∈(g_ τ n i).1.take i,0<=v/\v<(i:Int)
 |0,_=>by simp
 |i+1,hi=>by
  obtain⟨h1,h2⟩:=aaz τ n i (by omega);have hlen:=zI τ n i;rw[g_];generalize g_ τ n i=m at h1 h2 hlen⊢;obtain⟨l,σ⟩:=m;simp only at h1 h2 hlen⊢;have hr:=mO σ i;generalize dH σ i=u at hr⊢;obtain⟨k,rfl⟩:∃w:Nat,u=w:=⟨u.toNat,by omega⟩;rw[Vx];obtain⟨a,ha⟩:=cy (xs:=l) (i:=k) (by omega);obtain⟨c,hc⟩:=cy (xs:=l) (i:=i) (by omega);have JR:l.getD k 0=a:=by rw[SF,ha];rfl
  have vS:(l.take i).length=i:=by rw[TZ];omega
  have hp:(((l.set i a).set k (i:Int)).take (i+1)).Perm (l.take i++[(i:Int)]):=by
   rw[Z0,Z0,VE,hc];show ((((l.take i)++[c]).set i a).set k (i:Int)).Perm _;rw[UO _ _ (by omega),vS,Vb];show (((l.take i)++[a]).set k (i:Int)).Perm _;by_cases e:k=i
   ·subst e;rw[UO _ _ (by omega),vS,Vb];exact aa' _
   ·rw[Ww _ _ (by omega)];exact set_perm (by rw[Uc,if_pos (by omega)];exact ha)
  rw[JR];refine⟨(an_ hp).2 ?_,λv hv=> ?_⟩
  ·exact U3.2 ⟨h1,by simp,λx hx y hy e=>by
    have:=h2 x hx;simp at hy;omega⟩
  ·rcases SS.1 (hp.mem_iff.1 hv)with hv|hv
   ·have:=h2 v hv;omega
   ·simp at hv;omega
theorem aaA(τ:bp)(n:Nat):Hx (g_ τ n n).1 n:=by
 obtain⟨h1,h2⟩:=aaz τ n n (SP _);rw[SW (by rw[zI];exact SP _)]at h1 h2;exact⟨zI τ n n,h1,h2⟩
theorem DX{τ:bp}{n m lo hi:Int}(hn:lo<=n/\n<=hi)(oU:0<=lo):uP (mw τ n m lo hi) hi/\j8 (mw τ n m lo hi) n=true:=by
 have r1:=mO τ m;have r2:=mO (tick τ) m;unfold mw;refine⟨⟨?_,?_,?_⟩,?_⟩
 ·dsimp only;omega
 ·dsimp only;omega
 ·dsimp only;omega
 ·unfold j8;rw[Tc,decide_eq_true_eq,decide_eq_true_eq];dsimp only;omega
theorem Iy(τ:bp){ns:List Int}(h:ns≠[]):vk τ ns∈ns:=by
 unfold vk;have hl:0<ns.length:=Vq.2 h;have r:=mO τ ((ns.length:Int)-1);have hi:(dH τ ((ns.length:Int)-1)).toNat<ns.length:=by omega
 rw[SF,SV hi];exact Wr hi
def wi (τ:bp)(am:Int):Int:=vk (tick τ) [0,am,dH τ am]
theorem acd(τ:bp){am:Int}(h:0<=am):0<=wi τ am/\wi τ am<=am:=by
 have r:=mO τ am;have:=Iy (tick τ) (ns:=[0,am,dH τ am]) (by simp);unfold wi;simp only[SL,S4,or_false]at this;omega
def kW (τ:bp)(first am:Int):Nat->List Int×bp
 |0=>([first],τ)
 |i+1=>((kW τ first am i).1++[(kW τ first am i).1.getD i 0+wi (kW τ first am i).2 am],tick (tick (kW τ first am i).2))
structure mQ (first am:Int)(l:List Int)(i:Nat):Prop where
 len:l.length=i+1
 head:l.getD 0 0=first
 step:∀j,j<i->l.getD j 0<=l.getD (j+1) 0/\l.getD (j+1) 0<=l.getD j 0+am
theorem En{l:List Int}{v:Int}{j:Nat}(h:j<l.length):(l++[v]).getD j 0=l.getD j 0:=by
 rw[SF,SF,SZ h]
theorem aiM{l:List Int}{v:Int}{j:Nat}(h:l.length=j):(l++[v]).getD j 0=v:=by
 subst h;rw[SF,Tj (SP _),Vb];rfl
theorem QU(τ:bp)(first:Int){am:Int}(h:0<=am):∀i,mQ first am (kW τ first am i).1 i
 |0=>⟨rfl,rfl,λj hj=>by omega⟩
 |i+1=>by
  have ih:=QU τ first h i
  rw[kW];have hs:=acd (kW τ first am i).2 h;generalize wi (kW τ first am i).2 am=v at hs⊢;generalize(kW τ first am i).1=l at ih⊢;have hl:=ih.len;refine⟨by rw[SQ,hl];rfl,by rw[En (by omega)];exact ih.head,λj hj=> ?_⟩;by_cases cg:j<i
  ·rw[En (by omega),En (by omega)];exact ih.step j cg
  ·have:j=i:=(by omega);subst this;rw[En (by omega),aiM (by omega)];omega
theorem QV{τ:bp}{b:Int}(h:τ.Ok b)(first am:Int):∀i:Nat,(kW τ first am i).2.Ok (b+2* i)
 |0=>h.mono (by simp)
 |i+1=>(QV h first am i).tick.tick.mono (by simp;omega)
theorem mQ.ge{first am:Int}{l:List Int}{i:Nat}(h:mQ first am l i)(hp:0<=am):∀j,j<=i->first<=l.getD j 0/\l.getD j 0<=first+am* j
 |0,_=>by rw[h.head];simp
 |j+1,hj=>by
  have ih:=h.ge hp j (by omega);have:=h.step j (by omega);have e:am* ((j+1:Nat):Int)=am* j+am:=by rw[Int.natCast_add,Int.mul_add];simp
  omega
def kC (first:Int)(order:List Int)(i:Nat):List Int:=(S0 i).map λj=>first+order.getD j 0
theorem aaL(first:Int)(order:List Int)(i:Nat):kC first order (i+1)=kC first order i++[first+order.getD i 0]:=by
 unfold kC;rw[Vh,TE];rfl
theorem aaK(first:Int)(order:List Int)(i:Nat):(kC first order i).length=i:=by simp[kC]
def kq (h:List Int)(hours:Int)(num:Nat->Int)(τ:bp):Nat->List aB×bp
 |0=>([],τ)
 |i+1=>((kq h hours num τ i).1++[lz (tick (kq h hours num τ i).2) h (num i) hours],tick (tick (tick (tick (tick (kq h hours num τ i).2)))))
theorem yV(h:List Int)(hours:Int)(num:Nat->Int)(τ:bp):∀i,(kq h hours num τ i).1.length=i
 |0=>rfl
 |i+1=>by rw[kq,SQ,yV h hours num τ i];rfl
theorem Js{τ:bp}{b:Int}(hτ:τ.Ok b)(h:List Int)(hours:Int)(num:Nat->Int):∀i:Nat,(kq h hours num τ i).2.Ok (b+5* i)
 |0=>hτ.mono (by simp)
 |i+1=>(Js hτ h hours num i).tick.tick.tick.tick.tick.mono (by simp;omega)
def rE (h:List Int)(hours:Int)(τ:bp):Nat->List Seen×bp
 |0=>([],τ)
 |i+1=>((rE h hours τ i).1++[⟨dH (rE h hours τ i).2 hours,mw (tick (rE h hours τ i).2) (h.getD (dH (rE h hours τ i).2 hours).toNat 0) 1 0 99⟩],tick (tick (tick (rE h hours τ i).2)))
theorem abH(h:List Int)(hours:Int)(τ:bp):∀i,(rE h hours τ i).1.length=i
 |0=>rfl
 |i+1=>by rw[rE,SQ,abH h hours τ i];rfl
theorem abJ{τ:bp}{b:Int}(hτ:τ.Ok b)(h:List Int)(hours:Int):∀i:Nat,(rE h hours τ i).2.Ok (b+3* i)
 |0=>hτ.mono (by simp)
 |i+1=>(abJ hτ h hours i).tick.tick.tick.mono (by simp;omega)
theorem abI{h:List Int}{hours:Int}{τ:bp}(hu:∀τ,0<=dH τ hours/\dH τ hours<=hours):∀i,∀s∈(rE h hours τ i).1,0<=s.hour/\s.hour<=hours/\∃σ,s.next=mw σ (h.getD s.hour.toNat 0) 1 0 99
 |0,s,hs=>by cases hs
 |i+1,s,hs=>by
  rw[rE]at hs;rcases SS.1 hs with hs|hs
  ·exact abI hu i s hs
  ·rw[S8]at hs;subst hs;exact⟨(hu _).1,(hu _).2,_,rfl⟩
structure DC (h:List Int)(hours n:Int)(y:aB):Prop where
 num:uP y.number 99
 hour:uP y.hour (hours-1)
 fits:fits h y n=true
theorem Jr{h:List Int}{hours:Int}{num:Nat->Int}{τ:bp}{P:Int->aB->Prop}(hP:∀τ n,P n (lz τ h n hours)):∀i j y,(kq h hours num τ i).1[j]?=some y->P (num j) y
 |0,j,y,hy=>by cases hy
 |i+1,j,y,hy=>by
  rw[kq]at hy;have hl:=yV h hours num τ i;by_cases hj:j<i
  ·rw[SZ (by omega)]at hy;exact Jr hP i j y hy
  ·rw[Tj (by omega),hl]at hy;have:j=i:=(by have:=(SM.1 hy).1;simp at this;omega);subst this;rw[Vb]at hy;cases hy;exact hP _ _
section
variable {lv:Bool}{P:SJ}{r:Option Nat}{s:AS}
theorem HP{nt:Nat}{x y:T5}{α:Type}{Φ Ψ:an->AS->Prop}(inv:α->AS)(ok:α->Prop)(h1:aU lv P r nt x s (an.then (λs'=>∃a,ok a/\s'.Sub (inv a)) Ψ))(h2:∀a,ok a->aU lv P r nt y (inv a) Φ):aU lv P r nt x s (an.then (λs'=>aU lv P r nt y s' Φ) Ψ):=
 h1.mono λe s' h=>by
  cases e with
  |normal=>
   obtain⟨a,h3,h4⟩:=h;exact mz h4 (h2 a h3)
  |_=>exact h
end
theorem Nl:gG (SG .i64 0) 3=[iv 0,iv 0,iv 0]:=rfl
theorem zE4:gG (SG .i64 0) 4=[iv 0,iv 0,iv 0,iv 0]:=rfl
theorem Hk:gG (TD #[SG .i64 0,SG .i64 0,SG .i64 0,SG .i64 0]) 4=[iv 0,iv 0,iv 0,iv 0]:=rfl
theorem zS1:gG (TD #[SG .i64 0,SG .i64 0,SG .i64 0]) 3=[iv 0,iv 0,iv 0]:=rfl
theorem CS:(3<=2^24)=True:=eq_true (by decide)
theorem zS:(4<=2^24)=True:=eq_true (by decide)
theorem zQ:(1<=2^24)=True:=eq_true (by decide)
theorem acY{first am w v:Int}{i:Nat}(h1:first<=w/\w<=first+am* i)(h2:0<=v/\v<=am)(hf:0<=first/\first<=90)(hp:1<=am/\am<=3)(hi:i<=3):0<=w+v/\w+v<=1000:=by
 have:am* (i:Int)<=3* 3:=Ye (by omega) (by omega) (by omega) (by omega);generalize am* (i:Int)=q at h1 this;omega
theorem K5{n:Int}(h:0<=n/\n<=1000):SE.wrap n=n:=bG _ (by omega)
theorem MY(h:List Int)(n:Int):∀m:Nat, -1<=lP h n m/\lP h n m<m
 |0=>by simp[lP]
 |m+1=>by
  have:=MY h n m;unfold lP;split
  ·omega
  ·omega
theorem IX:∀l:List aB,(l.flatMap aB.l).length=l.length* 4
 |[]=>rfl
 |a::l=>by rw[Ui,SQ,IX l,aB.len,Ul];omega
theorem Pw:∀l:List Seen,(l.flatMap Seen.l).length=l.length* 3
 |[]=>rfl
 |a::l=>by rw[Ui,SQ,Pw l,Seen.len,Ul];omega
theorem IY{α:Type}{f:α->List AV}{l:List α}{a:α}:(l++[a]).flatMap f=l.flatMap f++f a:=by rw[Vv];simp
theorem amu{α:Type}{f:Nat->α}{l:List α}{n:Nat}(hl:l.length=n)(h:∀i,i<n->l[i]?=some (f i)):(S0 n).map f=l:=by
 refine Ym λi=> ?_;rw[To];by_cases hi:i<n
 ·rw[Xv hi,UN,h i hi]
 ·rw[Uu (by simp;omega),Uu (by omega)];rfl
def Ns (a b:Nat):Prop:=(if(a:Int)<(b:Int)then(a:Int)else(b:Int))=((min b a:Nat):Int)
theorem aay(a b:Nat):Ns a b:=by unfold Ns;split<;>omega
structure Made (pm:Nat)(x:ai)(bz aA bY:List Int):Prop where
 first:0<=x.first/\x.first<=90
 hours:1<=x.hours/\x.hours<=3
 am:1<=x.am/\x.am<=3
 EY:mQ x.first x.am bz x.hours.toNat
 amF:x.pieces.length<=pm
 uE:aA.length=x.pieces.length
 num:∀n∈aA,x.first<=n/\n<bz.getD x.hours.toNat 0
 CN:aA.Nodup
 piece:∀(p:Nat) y,x.pieces[p]?=some y->∃τ,y=lz τ bz (aA.getD p 0) x.hours
 v9:bY.length=x.aC.length
 aC:x.aC.length<=3
 own:∀v∈bY,0<=v/\v<(aA.length:Int)
 CR:bY.Nodup
 stub:∀(s:Nat) y,x.aC[s]?=some y->∃τ,y=lz τ bz (aA.getD (bY.getD s 0).toNat 0) x.hours
 wc:x.seen.length<=2
 seen:∀s∈x.seen,0<=s.hour/\s.hour<=x.hours/\∃τ,s.next=mw τ (bz.getD s.hour.toNat 0) 1 0 99
structure AI (Gf:bp->List aa)(N:Nat)(zc:aa)(YY:List AV->Nat->Nat->Nat->Nat->Nat->List aa):Prop where
 len:∀r a b c d e,(YY r a b c d e).length=8
 y0:∀τ r a b c d e,(Gf τ++YY r a b c d e)[N]?=some zc
 y1:∀τ r a b c d e,(Gf τ++YY r a b c d e)[N+1]?=some (.cells r 26)
 y3:∀τ r a b c d e,(Gf τ++YY r a b c d e)[N+3]?=some (.tail a 4 48)
 y4:∀τ r a b c d e,(Gf τ++YY r a b c d e)[N+4]?=some (.tail b 4 48)
 y5:∀τ r a b c d e,(Gf τ++YY r a b c d e)[N+5]?=some (.tail c 3 61)
 y6:∀τ r a b c d e,(Gf τ++YY r a b c d e)[N+6]?=some (.tail d 1 3)
 y7:∀τ r a b c d e,(Gf τ++YY r a b c d e)[N+7]?=some (.tail e 1 3)
 z1:∀τ r r' a b c d e,(Gf τ++YY r a b c d e).set (N+1) (.cells r' 26)=Gf τ++YY r' a b c d e
 z3:∀τ r a a' b c d e,(Gf τ++YY r a b c d e).set (N+3) (.tail a' 4 48)=Gf τ++YY r a' b c d e
 z4:∀τ r a b b' c d e,(Gf τ++YY r a b c d e).set (N+4) (.tail b' 4 48)=Gf τ++YY r a b' c d e
 z5:∀τ r a b c c' d e,(Gf τ++YY r a b c d e).set (N+5) (.tail c' 3 61)=Gf τ++YY r a b c' d e
 z6:∀τ r a b c d d' e,(Gf τ++YY r a b c d e).set (N+6) (.tail d' 1 3)=Gf τ++YY r a b c d' e
 s0:∀r a b c d e y,∃L,(YY r a b c d e).set 0 y=y::L
 z7:∀τ r a b c d e e',(Gf τ++YY r a b c d e).set (N+7) (.tail e' 1 3)=Gf τ++YY r a b c d e'
noncomputable def vb:T5:=Xx.body.getD .skip
def tK:Nat->T5->T5
 |0,c=>c
 |n+1,c=>tK n (cs c)
section
variable {lv:Bool}{k kp:AV->List aa->Prop}{Gf:bp->List aa}{t N:Nat}{b:Int}
theorem ahi{pm i mn:Nat}{first am:Int}{l order:List Int}{ρ:bp}{zc:aa}{YY:List AV->Nat->Nat->Nat->Nat->Nat->List aa}{Ψ:an->AS->Prop}(hT:dW Gf t N)(hY:AI Gf N zc YY)(hb:b<2^10)(sK:pm<=4)(hi:1<=i/\i<=3)(qT:0<=first/\first<=90)(im:l.length=i+1)(Rg:mn<=9)(pX:Hx order mn)(p8:ρ.Ok (b+19)):
  aU lv SC none 240 (cs (cf (tK 7 vb))) ⟨[(17,iv 0),(16,.sl 0 [] (.opn (N+7))),(15,.sl 0 [] (.opn (N+6))),(14,br order),(13,iv mn),(11,.sl (i+1) (l.map iv) (.opn (N+2))),(10,.op (N+1) 0),(6,.op N 0),(0,.op t 0),(1,iv pm),(2,bv true)],Gf ρ++YY [iv first,iv i,iv am,.sl 0 [] (.opn (N+5)),.sl 0 [] (.opn (N+3)),.sl 0 [] (.opn (N+4))] 0 0 0 0 0⟩ (an.then (λs'=>∃y:Nat×bp,(y.1<=pm/\y.1<=mn/\y.2.Ok (b+60))/\s'.Sub ⟨[(16,.sl 0 [] (.opn (N+7))),(15,.sl y.1 ((kC first order y.1).map iv) (.opn (N+6))),(13,iv mn),(11,.sl (i+1) (l.map iv) (.opn (N+2))),(10,.op (N+1) 0),(6,.op N 0),(0,.op t 0),(2,bv true)],Gf y.2++YY [iv first,iv i,iv am,.sl 0 [] (.opn (N+5)),.sl y.1 ((kq l i (λj=>first+order.getD j 0) ρ y.1).1.flatMap aB.l) (.opn (N+3)),.sl 0 [] (.opn (N+4))] y.1 0 0 y.1 0⟩) Ψ):=by
 obtain⟨yS,y0,y1,y3,y4,y5,y6,y7,uM,Dk,Dl,Dm,Hh,dw,Hi⟩:=hY;have mC:∀L:List aa,dW (λτ=>Gf τ++L) t (N+L.length):=λL=>hT.more L;obtain⟨hv,zb⟩:∃hv:Nat->List aB×bp,∀j,hv j=kq l i (λj=>first+order.getD j 0) ρ j:=⟨_,λ_=>rfl⟩;simp only[<- zb];have hvl:∀j,(hv j).1.length=j:=λj=>by rw[zb];exact yV _ _ _ _ _
 have hvt:∀j:Nat,(hv j).2.Ok (b+19+5* j):=λj=>by rw[zb];exact(Js p8 _ _ _ j).mono (by omega)
 have cT:hv 0=([],ρ):=zb 0;unfold vb Xx;dsimp only[S9,tK,cs,cf];have Fb:=aay mn pm;refine cI ?_;refine gJ (min pm mn) (λj:Nat=>[(15,.sl j ((kC first order j).map iv) (.opn (N+6))),(17,iv j)]) (λj=>Gf (hv j).2++YY [iv first,iv i,iv am,.sl 0 [] (.opn (N+5)),.sl j ((hv j).1.flatMap aB.l) (.opn (N+3)),.sl 0 [] (.opn (N+4))] j 0 0 j 0) (λ_=>True) (λ_ _=>rfl) (by simp only[kC,Zu,List.map_nil];simp only[seval];simp[bA,Wk.refl]) (by rw[cT];rfl) (λ_ _ _=>by simp[hT.len,yS]) trivial (λce db j oS _ R hR=> ?_);clear ce db;have lc:=hvt j;by_cases e_:j<min pm mn
 ·have hd:decide ((j:Int)<((min pm mn:Nat):Int))=true:=by simpa using e_
  refine aj ?_;simp only[seval,show (if(mn:Int)<(pm:Int)then(mn:Int)else(pm:Int))=((min pm mn:Nat):Int)from Fb,hd];have eP:hv (j+1)=((hv j).1++[lz (tick (hv j).2) l (first+order.getD j 0) i],tick (tick (tick (tick (tick (hv j).2))))):=by rw[zb,zb];rfl
  have rh:=hvl j;generalize EW:hv j=hj at lc eP rh⊢;obtain⟨ps,ρj⟩:=hj;dsimp only at lc eP rh⊢;refine aJ ((Pe (n:=6) (mC _) lc (by omega) (by decide) ?_));(try simp only[seval]);refine aE ?_;refine⟨λhc=> ?_,λhc=> ?_⟩
  ·obtain⟨o,ho⟩:=cy (xs:=order) (i:=j) (by rw[pX.len];omega);have hor:=pX.GA o (uB ho);have hgo:order.getD j 0=o:=(by rw[SF,ho];rfl);rw[hgo]at eP;have KX:SE.wrap (first+o)=first+o:=K5 (by omega)
   have xv:SE.wrap ((j:Int)+1)=((j+1:Nat):Int):=(by rw[bG _ (by omega)];rfl);have pK:(0<=(j:Int)/\(j:Int)<(order.length:Int))=True:=(by simp[pX.len];omega);have jQ:=aaK first order j
   have B7:U4 iv (kC first order j)++[AV.val (SG SE (first+o))]=(kC first order (j+1)).map iv:=(by rw[aaL,hgo,TE];rfl);have B6:(kC first order (j+1))[j]?=some (first+o):=(by rw[aaL,hgo,Tj (by omega),jQ,Vb];rfl);have tX:(0<=(j:Int)/\(j:Int)<(j:Int)+1)=True:=(by simp;omega);refine aO ?_;refine cI ?_;refine eI 9 ?_;simp only[seval,z1,zQ,y1,y6,Hh,br,gE ho,pK,KX,jQ];refine⟨by omega,?_⟩;rw[B7];obtain⟨n,hn⟩:∃n,n=first+o:=⟨_,rfl⟩
   rw[<- hn]at B6 eP;have p_:=MY l n i;have wO:=λ(L:List aa) k kp=>Pf (lv:=lv) (k:=k) (kp:=kp) (h:=l) (n:=n) (hours:=i) (e:=.opn (N+2)) (mC L) lc.tick (by omega) (by omega) (by omega) (by omega) (by rw[im,VU];omega);simp only[im]at wO;obtain⟨y,hy⟩:∃y,y=lz (tick ρj) l n i:=⟨_,rfl⟩;rw[<- hy]at eP wO;obtain⟨FP,qO⟩:∃FP,FP=ps.flatMap aB.l:=⟨_,rfl⟩;have vp:FP.length=j* 4:=(by rw[qO,IX,rh]);have Br:FP++aB.l y=(hv (j+1)).1.flatMap aB.l:=(by rw[eP,IY,qO]);rw[<- qO];refine qE [10,12,14] [0,1,2,3,4,5,6,7,8,9,10,11,12,13,14] [⟨0,false,[],[([10],[10])]⟩,⟨1,false,[],[([10],[10])]⟩,⟨2,false,[],[]⟩,⟨3,false,[],[]⟩,⟨4,false,[],[]⟩,⟨5,false,[],[]⟩,⟨6,false,[],[]⟩,⟨7,false,[],[]⟩,⟨8,false,[],[]⟩,⟨9,false,[],[]⟩,⟨10,true,[10],[]⟩,⟨11,false,[10],[]⟩,⟨12,true,[10,12],[]⟩,⟨13,false,[10,12],[]⟩,⟨14,true,[10,12,14],[]⟩] (λD=>bif isDone 14 D then Gf (tick (tick (tick (tick (tick ρj)))))++YY [iv first,iv i,iv am,.sl 0 [] (.opn (N+5)),.sl (j+1) (FP++aB.l y) (.opn (N+3)),.sl 0 [] (.opn (N+4))] (j+1) 0 0 (j+1) 0 else bif isDone 12 D then Gf (tick (tick (tick (tick (tick ρj)))))++YY [iv first,iv i,iv am,.sl 0 [] (.opn (N+5)),.sl j FP (.opn (N+3)),.sl 0 [] (.opn (N+4))] (j+1) 0 0 (j+1) 0 else bif isDone 10 D then Gf (tick (tick (tick (tick (tick ρj)))))++YY [iv first,iv i,iv am,.sl 0 [] (.opn (N+5)),.sl j FP (.opn (N+3)),.sl 0 [] (.opn (N+4))] j 0 0 (j+1) 0 else Gf (tick ρj)++YY [iv first,iv i,iv am,.sl 0 [] (.opn (N+5)),.sl j FP (.opn (N+3)),.sl 0 [] (.opn (N+4))] j 0 0 (j+1) 0) ?_;simp only[seval,Hk,zS,y1,y3,uM,Dk,gE B6,tX,vp];have Co:y.l=[iv y.number.min,iv y.number.max,iv y.hour.min,iv y.hour.max]:=rfl;refine kN y.av _ (cJ (wO _ _ _ ⟨rfl,rfl⟩)) ?_;(try simp only[seval,Hk,zS,y1,y3,uM,Dk,gE B6,tX,vp,aB.av,Co]);refine⟨by omega,?_⟩;refine aj ?_;simp only[seval,xv];refine hR _ ⟨by omega,trivial,?_⟩;rw[<- Br,eP];exact dD
  ·refine b_ ?_;exact⟨(j,tick ρj),⟨by dsimp only;omega,by dsimp only;omega,lc.tick.mono (by omega)⟩,fF (by simp only[seval];simp[bA,Wk.refl]) (by rw[EW])⟩
 ·have hd:decide ((j:Int)<((min pm mn:Nat):Int))=false:=by simpa using e_
  refine aj ?_;simp only[seval,show (if(mn:Int)<(pm:Int)then(mn:Int)else(pm:Int))=((min pm mn:Nat):Int)from Fb,hd];refine aE ?_;refine b_ ?_;exact⟨(j,(hv j).2),⟨by dsimp only;omega,by dsimp only;omega,lc.mono (by omega)⟩,fF (by simp only[seval];simp[bA,Wk.refl]) rfl⟩
theorem ahf{i np:Nat}{first am w:Int}{l aA gP:List Int}{c_:List aB}{ρ2:bp}{zc:aa}{YY:List AV->Nat->Nat->Nat->Nat->Nat->List aa}{Ψ:an->AS->Prop}(hT:dW Gf t N)(hY:AI Gf N zc YY)(hb:b<2^10)(hi:1<=i/\i<=3)(qT:0<=first/\first<=90)(FG:first<=w/\w<=first+9)(im:l.length=i+1)(B8:np<=4)(jQ:aA.length=np)(uh:∀n∈aA,first<=n/\n<w)(sL:Hx gP np)(xJ:ρ2.Ok (b+64)):
  aU lv SC none 240 (cs (cf (tK 9 vb))) ⟨[(19,iv 0),(18,.sl np (gP.map iv) .shut),(16,.sl 0 [] (.opn (N+7))),(15,.sl np (aA.map iv) (.opn (N+6))),(11,.sl (i+1) (l.map iv) (.opn (N+2))),(10,.op (N+1) 0),(6,.op N 0),(0,.op t 0),(2,bv true)],Gf ρ2++YY [iv first,iv i,iv am,.sl 0 [] (.opn (N+5)),.sl np (c_.flatMap aB.l) (.opn (N+3)),.sl 0 [] (.opn (N+4))] np 0 0 np 0⟩ (an.then (λs'=>∃y:Nat×bp,(y.1<=np/\y.1<=3/\y.2.Ok (b+90))/\s'.Sub ⟨[(16,.sl y.1 ((gP.take y.1).map iv) (.opn (N+7))),(15,.sl np (aA.map iv) (.opn (N+6))),(11,.sl (i+1) (l.map iv) (.opn (N+2))),(10,.op (N+1) 0),(6,.op N 0),(0,.op t 0),(2,bv true)],Gf y.2++YY [iv first,iv i,iv am,.sl 0 [] (.opn (N+5)),.sl np (c_.flatMap aB.l) (.opn (N+3)),.sl y.1 ((kq l i (λj=>aA.getD (gP.getD j 0).toNat 0) ρ2 y.1).1.flatMap aB.l) (.opn (N+4))] np y.1 0 np y.1⟩) Ψ):=by
 obtain⟨yS,y0,y1,y3,y4,y5,y6,y7,uM,Dk,Dl,Dm,Hh,dw,Hi⟩:=hY;have mC:∀L:List aa,dW (λτ=>Gf τ++L) t (N+L.length):=λL=>hT.more L;obtain⟨hw,zd⟩:∃hw:Nat->List aB×bp,∀j,hw j=kq l i (λj=>aA.getD (gP.getD j 0).toNat 0) ρ2 j:=⟨_,λ_=>rfl⟩;simp only[<- zd];have rj:∀j,(hw j).1.length=j:=λj=>by rw[zd];exact yV _ _ _ _ _
 have un:∀j:Nat,(hw j).2.Ok (b+64+5* j):=λj=>by rw[zd];exact Js xJ _ _ _ j
 have xH:hw 0=([],ρ2):=zd 0;have R0:=sL.len;unfold vb Xx;dsimp only[S9,tK,cs,cf];have Rd:=aay 3 np;refine cI ?_;refine gJ (min np 3) (λj:Nat=>[(16,.sl j ((gP.take j).map iv) (.opn (N+7))),(19,iv j)]) (λj=>Gf (hw j).2++YY [iv first,iv i,iv am,.sl 0 [] (.opn (N+5)),.sl np (c_.flatMap aB.l) (.opn (N+3)),.sl j ((hw j).1.flatMap aB.l) (.opn (N+4))] np j 0 np j) (λ_=>True) (λ_ _=>rfl) (by simp only[seval];simp[bA,Wk.refl]) (by rw[xH];rfl) (λ_ _ _=>by simp[hT.len,yS]) trivial (λce db j oS _ R hR=> ?_);clear ce db;have lc:=un j;by_cases e_:j<min np 3
 ·have hd:decide ((j:Int)<((min np 3:Nat):Int))=true:=by simpa using e_
  refine aj ?_;simp only[seval,br,R0,show (if(3:Int)<(np:Int)then(3:Int)else(np:Int))=((min np 3:Nat):Int)from Rd,hd];have eP:hw (j+1)=((hw j).1++[lz (tick (hw j).2) l (aA.getD (gP.getD j 0).toNat 0) i],tick (tick (tick (tick (tick (hw j).2))))):=by rw[zd,zd];rfl
  have rh:=rj j;generalize EW:hw j=hj at lc eP rh⊢;obtain⟨ts,ρj⟩:=hj;dsimp only at lc eP rh⊢;refine aJ ((Pe (n:=3) (mC _) lc (by omega) (by decide) ?_));(try simp only[seval]);refine aE ?_;refine⟨λhc=> ?_,λhc=> ?_⟩
  ·obtain⟨v,o4⟩:=cy (xs:=gP) (i:=j) (by omega);have hvr:=sL.GA v (uB o4);obtain⟨v,rfl⟩:∃v':Nat,v=v':=⟨v.toNat,by omega⟩;have BU:gP.getD j 0=v:=(by rw[SF,o4];rfl);rw[BU,Vx]at eP;obtain⟨n,Ff⟩:=cy (xs:=aA) (i:=v) (by omega);have ET:aA.getD v 0=n:=(by rw[SF,Ff];rfl);rw[ET]at eP;have qZ:=uh n (uB Ff);have xv:SE.wrap ((j:Int)+1)=((j+1:Nat):Int):=(by rw[bG _ (by omega)];rfl);have tX:(0<=(j:Int)/\(j:Int)<(np:Int))=True:=(by simp;omega);have EJ:(0<=(v:Int)/\(v:Int)<(np:Int))=True:=(by simp;omega);have aF:(gP.take j).length=j:=(by rw[TZ];omega);have akY:(gP.take j).map iv++[AV.val (SG SE v)]=(gP.take (j+1)).map iv:=(by rw[VE,o4,TE];rfl);refine aO ?_;refine aj ?_;simp only[seval,z1,zQ,y7,Hi,gE o4,tX,aF];refine⟨by omega,?_⟩;rw[akY];have p_:=MY l n i;have wO:=λ(L:List aa) k kp=>Pf (lv:=lv) (k:=k) (kp:=kp) (h:=l) (n:=n) (hours:=i) (e:=.opn (N+2)) (mC L) lc.tick (by omega) (by omega) (by omega) (by omega) (by rw[im,VU];omega);simp only[im]at wO;obtain⟨y,hy⟩:∃y,y=lz (tick ρj) l n i:=⟨_,rfl⟩;rw[<- hy]at eP wO;obtain⟨FP,qO⟩:∃FP,FP=ts.flatMap aB.l:=⟨_,rfl⟩;have vp:FP.length=j* 4:=(by rw[qO,IX,rh]);have Br:FP++aB.l y=(hw (j+1)).1.flatMap aB.l:=(by rw[eP,IY,qO]);rw[<- qO];refine qE [13,15,17] [0,1,2,3,4,5,6,7,8,9,10,11,12,13,14,15,16,17] [⟨0,false,[],[([13],[13])]⟩,⟨1,false,[],[([13],[13])]⟩,⟨2,false,[],[]⟩,⟨3,false,[],[]⟩,⟨4,false,[],[]⟩,⟨5,false,[],[]⟩,⟨6,false,[],[]⟩,⟨7,false,[],[]⟩,⟨8,false,[],[]⟩,⟨9,false,[],[]⟩,⟨10,false,[],[]⟩,⟨11,false,[],[]⟩,⟨12,false,[],[]⟩,⟨13,true,[13],[]⟩,⟨14,false,[13],[]⟩,⟨15,true,[13,15],[]⟩,⟨16,false,[13,15],[]⟩,⟨17,true,[13,15,17],[]⟩] (λD=>bif isDone 17 D then Gf (tick (tick (tick (tick (tick ρj)))))++YY [iv first,iv i,iv am,.sl 0 [] (.opn (N+5)),.sl np (c_.flatMap aB.l) (.opn (N+3)),.sl (j+1) (FP++aB.l y) (.opn (N+4))] np (j+1) 0 np (j+1)else bif isDone 15 D then Gf (tick (tick (tick (tick (tick ρj)))))++YY [iv first,iv i,iv am,.sl 0 [] (.opn (N+5)),.sl np (c_.flatMap aB.l) (.opn (N+3)),.sl j FP (.opn (N+4))] np (j+1) 0 np (j+1)else bif isDone 13 D then Gf (tick (tick (tick (tick (tick ρj)))))++YY [iv first,iv i,iv am,.sl 0 [] (.opn (N+5)),.sl np (c_.flatMap aB.l) (.opn (N+3)),.sl j FP (.opn (N+4))] np j 0 np (j+1)else Gf (tick ρj)++YY [iv first,iv i,iv am,.sl 0 [] (.opn (N+5)),.sl np (c_.flatMap aB.l) (.opn (N+3)),.sl j FP (.opn (N+4))] np j 0 np (j+1)) ?_;simp only[seval,Hk,zS,y1,y4,uM,Dl,gE o4,tX,gE Ff,EJ,vp,br,jQ];have Co:y.l=[iv y.number.min,iv y.number.max,iv y.hour.min,iv y.hour.max]:=rfl;refine kN y.av _ (cJ (wO _ _ _ ⟨rfl,rfl⟩)) ?_;(try simp only[seval,Hk,zS,y1,y4,uM,Dl,gE o4,tX,gE Ff,EJ,vp,br,jQ,aB.av,Co]);refine⟨by omega,?_⟩;refine aj ?_;simp only[seval,xv];refine hR _ ⟨by omega,trivial,?_⟩;rw[<- Br,eP];exact dD
  ·refine b_ ?_;exact⟨(j,tick ρj),⟨by dsimp only;omega,by dsimp only;omega,lc.tick.mono (by omega)⟩,fF (by simp only[seval];simp[bA,Wk.refl]) (by rw[EW])⟩
 ·have hd:decide ((j:Int)<((min np 3:Nat):Int))=false:=by simpa using e_
  refine aj ?_;simp only[seval,br,R0,show (if(3:Int)<(np:Int)then(3:Int)else(np:Int))=((min np 3:Nat):Int)from Rd,hd];refine aE ?_;refine b_ ?_;exact⟨(j,(hw j).2),⟨by dsimp only;omega,by dsimp only;omega,lc.mono (by omega)⟩,fF (by simp only[seval];simp[bA,Wk.refl]) rfl⟩
theorem ahh{i np ns cn:Nat}{first am:Int}{l aA bY:List Int}{c_ eF:List aB}{ρ4:bp}{zc:aa}{YY:List AV->Nat->Nat->Nat->Nat->Nat->List aa}{Ψ:an->AS->Prop}(hT:dW Gf t N)(hY:AI Gf N zc YY)(hb:b<2^10)(hi:1<=i/\i<=3)(qT:0<=first/\first<=90)(xz:1<=am/\am<=3)(ay:mQ first am l i)(gL:cn<=2)(FL:ρ4.Ok (b+91)):
  aU lv SC none 240 (cs (cf (tK 10 vb))) ⟨[(20,iv cn),(16,.sl ns (bY.map iv) (.opn (N+7))),(15,.sl np (aA.map iv) (.opn (N+6))),(11,.sl (i+1) (l.map iv) (.opn (N+2))),(10,.op (N+1) 0),(6,.op N 0),(0,.op t 0),(2,bv true)],Gf ρ4++YY [iv first,iv i,iv am,.sl 0 [] (.opn (N+5)),.sl np (c_.flatMap aB.l) (.opn (N+3)),.sl ns (eF.flatMap aB.l) (.opn (N+4))] np ns 0 np ns⟩ (an.then (λs'=>∃y:List Seen×bp,(y.1.length<=2/\(∀s∈y.1,0<=s.hour/\s.hour<=i/\∃τ,s.next=mw τ (l.getD s.hour.toNat 0) 1 0 99)/\y.2.Ok (b+97))/\s'.Sub ⟨[(16,.sl ns (bY.map iv) (.opn (N+7))),(15,.sl np (aA.map iv) (.opn (N+6))),(11,.sl (i+1) (l.map iv) (.opn (N+2))),(10,.op (N+1) 0),(6,.op N 0),(0,.op t 0),(2,bv true)],Gf y.2++YY [iv first,iv i,iv am,.sl y.1.length (y.1.flatMap Seen.l) (.opn (N+5)),.sl np (c_.flatMap aB.l) (.opn (N+3)),.sl ns (eF.flatMap aB.l) (.opn (N+4))] np ns y.1.length np ns⟩) Ψ):=by
 obtain⟨yS,y0,y1,y3,y4,y5,y6,y7,uM,Dk,Dl,Dm,Hh,dw,Hi⟩:=hY;have mC:∀L:List aa,dW (λτ=>Gf τ++L) t (N+L.length):=λL=>hT.more L;have im:=ay.len;unfold vb Xx;dsimp only[S9,tK,cs,cf];obtain⟨hz,ze⟩:∃hz:Nat->List Seen×bp,∀j,hz j=rE l i ρ4 j:=⟨_,λ_=>rfl⟩;have l9:∀j,(hz j).1.length=j:=λj=>by rw[ze];exact abH _ _ _ _
 have K3:∀j:Nat,(hz j).2.Ok (b+91+3* j):=λj=>by rw[ze];exact(abJ FL _ _ j).mono (by omega)
 have iq:hz 0=([],ρ4):=ze 0;refine cI ?_;refine gJ cn (λj:Nat=>[(20,iv ((cn:Int)-j))]) (λj=>Gf (hz j).2++YY [iv first,iv i,iv am,.sl j ((hz j).1.flatMap Seen.l) (.opn (N+5)),.sl np (c_.flatMap aB.l) (.opn (N+3)),.sl ns (eF.flatMap aB.l) (.opn (N+4))] np ns j np ns) (λ_=>True) (λ_ _=>rfl) (by simp only[seval];simp[bA,Wk.refl]) (by rw[iq];rfl) (λ_ _ _=>by simp[hT.len,yS]) trivial (λce db j oS _ R hR=> ?_);clear ce db;have lc:=K3 j;refine ak ?_;refine aE ?_;refine⟨λhc=> ?_,λhc=> ?_⟩
 ·have e_:j<cn:=by omega
  have eP:hz (j+1)=((hz j).1++[⟨dH (hz j).2 i,mw (tick (hz j).2) (l.getD (dH (hz j).2 i).toNat 0) 1 0 99⟩],tick (tick (tick (hz j).2))):=by rw[ze,ze];rfl
  have rh:=l9 j;generalize EW:hz j=hj at lc eP rh⊢;obtain⟨ss,ρj⟩:=hj;dsimp only at lc eP rh⊢;have hur:=mO ρj i;obtain⟨u,hu⟩:∃u:Nat,dH ρj i=u:=⟨(dH ρj i).toNat,by omega⟩;rw[hu,Vx]at eP;have hui:u<=i:=by omega
  obtain⟨n,Kd⟩:=cy (xs:=l) (i:=u) (by omega);have ET:l.getD u 0=n:=by rw[SF,Kd];rfl
  rw[ET]at eP;have qZ:=ay.ge (by omega) u hui;rw[ET]at qZ;have asL:0<=n/\n<=1000:=by
   have:=acY (v:=0) qZ (by omega) qT xz (by omega);omega
  have xv:SE.wrap ((cn:Int)-j-1)=(cn:Int)-((j+1:Nat):Int):=by rw[bG _ (by omega)];omega
  have Qq:(0<=(u:Int)/\(u:Int)<(i:Int)+1)=True:=by simp;omega
  refine aO ?_;refine aj ?_;simp only[seval,y1];refine aJ ((si (n:=i) (mC _) lc (by omega) (by omega) ?_));rw[hu];(try simp only[seval]);have Oe:=λ(L:List aa) k kp=>IH (lv:=lv) (k:=k) (kp:=kp) (n:=n) (m:=1) (lo:=0) (hi:=99) (mC L) lc.tick (by omega) (by omega) (by decide);obtain⟨y,hy⟩:∃y,y=mw (tick ρj) n 1 0 99:=⟨_,rfl⟩;rw[<- hy]at eP Oe;obtain⟨FP,qO⟩:∃FP,FP=ss.flatMap Seen.l:=⟨_,rfl⟩;have vp:FP.length=j* 3:=by rw[qO,Pw,rh]
  have Br:FP++[iv u,iv y.min,iv y.max]=(hz (j+1)).1.flatMap Seen.l:=by rw[eP,IY,qO];rfl
  rw[<- qO];refine qE [9,12,14] [0,1,2,3,4,5,6,7,8,9,10,11,12,13,14] [⟨0,false,[],[([9],[9])]⟩,⟨1,false,[],[([9],[9])]⟩,⟨2,false,[],[([9],[9])]⟩,⟨3,false,[],[]⟩,⟨4,false,[],[]⟩,⟨5,false,[],[]⟩,⟨6,false,[],[]⟩,⟨7,false,[],[]⟩,⟨8,false,[],[]⟩,⟨9,true,[9],[]⟩,⟨10,false,[9],[]⟩,⟨11,false,[9],[]⟩,⟨12,true,[9,12],[]⟩,⟨13,false,[9,12],[]⟩,⟨14,true,[9,12,14],[]⟩] (λD=>bif isDone 14 D then Gf (tick (tick (tick ρj)))++YY [iv first,iv i,iv am,.sl (j+1) (FP++[iv u,iv y.min,iv y.max]) (.opn (N+5)),.sl np (c_.flatMap aB.l) (.opn (N+3)),.sl ns (eF.flatMap aB.l) (.opn (N+4))] np ns (j+1) np ns else bif isDone 12 D then Gf (tick (tick (tick ρj)))++YY [iv first,iv i,iv am,.sl j FP (.opn (N+5)),.sl np (c_.flatMap aB.l) (.opn (N+3)),.sl ns (eF.flatMap aB.l) (.opn (N+4))] np ns (j+1) np ns else bif isDone 9 D then Gf (tick (tick (tick ρj)))++YY [iv first,iv i,iv am,.sl j FP (.opn (N+5)),.sl np (c_.flatMap aB.l) (.opn (N+3)),.sl ns (eF.flatMap aB.l) (.opn (N+4))] np ns j np ns else Gf (tick ρj)++YY [iv first,iv i,iv am,.sl j FP (.opn (N+5)),.sl np (c_.flatMap aB.l) (.opn (N+3)),.sl ns (eF.flatMap aB.l) (.opn (N+4))] np ns j np ns) ?_;simp only[seval,zS1,CS,y1,y5,uM,Dm,gE Kd,Qq,vp,im];have Co:y.l=[iv y.min,iv y.max]:=rfl;refine kN y.av _ (cJ (Oe _ _ _ ⟨rfl,rfl⟩)) ?_;(try simp only[seval,zS1,CS,y1,y5,uM,Dm,gE Kd,Qq,vp,im,iP.av,Co]);refine⟨by omega,?_⟩;refine aj ?_;simp only[seval,xv];refine hR _ ⟨by omega,trivial,?_⟩;rw[<- Br,eP];exact dD
 ·have xw:j=cn:=by omega
  subst xw;clear hR;refine b_ ?_;have dL:=l9 j;have hsm:∀s∈(hz j).1,0<=s.hour/\s.hour<=i/\∃τ,s.next=mw τ (l.getD s.hour.toNat 0) 1 0 99:=by
   rw[ze];exact abI (λτ=>by have:=mO τ i;omega) j
  refine⟨((hz j).1,(hz j).2),⟨by dsimp only;omega,hsm,lc.mono (by omega)⟩,fF (by simp only[seval];simp[bA,Wk.refl]) ?_⟩;dsimp only;rw[dL]
theorem arp{a a' b b' c c' d d':AV}(h1:Wk a a')(h2:Wk b b')(h3:Wk c c')(h4:Wk d d'):Wk (.aK [a,b,c,d]) (.aK [a',b',c',d']):=λE v h=>by
 cases h with
 |aK hs h=>
  refine .aK hs λi x e=> ?_
  match i with
  |0=>cases e;exact h1 _ _ (h 0 a rfl)
  |1=>cases e;exact h2 _ _ (h 1 b rfl)
  |2=>cases e;exact h3 _ _ (h 2 c rfl)
  |3=>cases e;exact h4 _ _ (h 3 d rfl)
theorem ahe{i np ns:Nat}{first am:Int}{l aA bY:List Int}{c_ eF:List aB}{ρ3:bp}{zc:aa}{YY:List AV->Nat->Nat->Nat->Nat->Nat->List aa}(hT:dW Gf t N)(hH:∀τ,bM (Gf τ))(hY:AI Gf N zc YY)(Cq:zc=.cells [.val (.int .i64 0),.val (.int .i64 0),.val (.int .i64 0),.sl 0 [] .exact,.sl 0 [] .exact,.sl 0 [] .exact] 26)(hb:b<2^10)(hi:1<=i/\i<=3)(qT:0<=first/\first<=90)(xz:1<=am/\am<=3)(ay:mQ first am l i)(Cr:ρ3.Ok (b+90))(Fl:c_.length=np)(jQ:aA.length=np)(nA:eF.length=ns)(aF:bY.length=ns)
  (hk:∀(ss:List Seen)(τ':bp),ss.length<=2->(∀s∈ss,0<=s.hour/\s.hour<=i/\∃τ,s.next=mw τ (l.getD s.hour.toNat 0) 1 0 99)->τ'.Ok (b+200)->k (.aK [ai.av ⟨first,i,am,ss,c_,eF⟩,br l,br aA,br bY]) (Gf τ')):
  aU lv SC none 240 (tK 10 vb) ⟨[(16,.sl ns (bY.map iv) (.opn (N+7))),(15,.sl np (aA.map iv) (.opn (N+6))),(11,.sl (i+1) (l.map iv) (.opn (N+2))),(10,.op (N+1) 0),(6,.op N 0),(0,.op t 0),(2,bv true)],Gf ρ3++YY [iv first,iv i,iv am,.sl 0 [] (.opn (N+5)),.sl np (c_.flatMap aB.l) (.opn (N+3)),.sl ns (eF.flatMap aB.l) (.opn (N+4))] np ns 0 np ns⟩ (tn SC [.cell 6 26,.tmp 7,.tmp 8,.tmp 9] N k kp):=by
 have hY':=hY;obtain⟨yS,y0,y1,y3,y4,y5,y6,y7,uM,Dk,Dl,Dm,Hh,dw,Hi⟩:=hY;have mC:∀L:List aa,dW (λτ=>Gf τ++L) t (N+L.length):=λL=>hT.more L;have KS:∀τ (L:List aa)(y:aa),(Gf τ++L).set N y=Gf τ++L.set 0 y:=λτ L y=>by have:=dR (Gf τ) L 0 y;rwa [hT.len]at this
 have FC:∀τ (L:List aa),(Gf τ++L)[N]?=L[0]?:=λτ L=>by have:=aW (Gf τ) L 0;rwa [hT.len]at this
 unfold vb Xx;dsimp only[S9,tK,cs,cf];refine ak ?_;refine aJ ((si (n:=2) (mC _) Cr (by omega) (by omega) ?_));have gL:=mO ρ3 2;generalize dH ρ3 2=u2 at gL⊢;obtain⟨cn,rfl⟩:∃cn:Nat,u2=cn:=⟨u2.toNat,by omega⟩;have FL:=Cr.tick;generalize tick ρ3=ρ4 at FL⊢;(try simp only[seval]);refine HP (α:=List Seen×bp) (λy=>⟨[(16,.sl ns (bY.map iv) (.opn (N+7))),(15,.sl np (aA.map iv) (.opn (N+6))),(11,.sl (i+1) (l.map iv) (.opn (N+2))),(10,.op (N+1) 0),(6,.op N 0),(0,.op t 0),(2,bv true)],Gf y.2++YY [iv first,iv i,iv am,.sl y.1.length (y.1.flatMap Seen.l) (.opn (N+5)),.sl np (c_.flatMap aB.l) (.opn (N+3)),.sl ns (eF.flatMap aB.l) (.opn (N+4))] np ns y.1.length np ns⟩) (λy=>y.1.length<=2/\(∀s∈y.1,0<=s.hour/\s.hour<=i/\∃τ,s.next=mw τ (l.getD s.hour.toNat 0) 1 0 99)/\y.2.Ok (b+97)) ?_ (λy hy=> ?_)
 ·exact mz (s':=⟨[(20,iv cn),(16,.sl ns (bY.map iv) (.opn (N+7))),(15,.sl np (aA.map iv) (.opn (N+6))),(11,.sl (i+1) (l.map iv) (.opn (N+2))),(10,.op (N+1) 0),(6,.op N 0),(0,.op t 0),(2,bv true)],Gf ρ4++YY [iv first,iv i,iv am,.sl 0 [] (.opn (N+5)),.sl np (c_.flatMap aB.l) (.opn (N+3)),.sl ns (eF.flatMap aB.l) (.opn (N+4))] np ns 0 np ns⟩) (fF (by simp only[seval];simp[bA,Wk.refl]) rfl) (ahh hT hY' hb hi qT xz ay (by omega) (FL.mono (by omega)))
 obtain⟨ss,ρ5⟩:=y;obtain⟨dF,fP,o0⟩:=hy;dsimp only at dF fP o0⊢;have y00:∀τ r a b c d e,(Gf τ++YY r a b c d e)[N]?=some (.cells [.val (.int .i64 0),.val (.int .i64 0),.val (.int .i64 0),.sl 0 [] .exact,.sl 0 [] .exact,.sl 0 [] .exact] 26):=λτ r a b c d e=>by rw[y0,Cq]
 refine ak ?_;refine aE ?_;refine aj ?_;simp only[seval,y1,y00];rw[KS];obtain⟨LL,P7⟩:=dw [iv first,iv i,iv am,.sl ss.length (ss.flatMap Seen.l) (.opn (N+5)),.sl np (c_.flatMap aB.l) (.opn (N+3)),.sl ns (eF.flatMap aB.l) (.opn (N+4))] np ns ss.length np ns (.cells [iv first,iv i,iv am,.sl ss.length (ss.flatMap Seen.l) (.opn (N+5)),.sl np (c_.flatMap aB.l) (.opn (N+3)),.sl ns (eF.flatMap aB.l) (.opn (N+4))] 26);simp only[iv]at P7;rw[P7];refine nS ?_;simp only[seval,FC];have dE:=hk ss ρ5 dF fP (o0.mono (by omega));refine jN (b:=.aK [ai.av ⟨first,i,am,ss,c_,eF⟩,br l,br aA,br bY]) (H':=Gf ρ5) (arp (G3 (.cons (Wk.refl _) (.cons (Wk.refl _) (.cons (Wk.refl _) (.cons (iA _ _ _) (.cons ?_ (.cons ?_ .nil))))))) ?_ ?_ ?_) rfl (by simp[hT.len]) (hH _) (by simp only[jz,SL,S4,or_false,forall_eq_or_imp,forall_eq,F4,zH,and_self]) dE
 ·rw[<- Fl];exact iA _ _ _
 ·rw[<- nA];exact iA _ _ _
 ·rw[<- ay.len];exact iA _ _ _
 ·rw[<- jQ];exact iA _ _ _
 ·rw[<- aF];exact iA _ _ _
end
section
variable {lv:Bool}{k kp:AV->List aa->Prop}{Gf:bp->List aa}{t N:Nat}{τ:bp}{b:Int}
theorem ahg{pm:Nat}(hT:dW Gf t N)(hτ:τ.Ok b)(hb:b<2^10)(sK:pm<=4)(hk:∀x bz aA bY τ',Made pm x bz aA bY->τ'.Ok (b+200)->k (.aK [x.av,br bz,br aA,br bY]) (Gf τ')):bc lv SC 15 (Gf τ) [.op t 0,iv pm,bv true] k kp:=by
 refine bF (rs:=[.cell 6 26,.tmp 7,.tmp 8,.tmp 9]) (nt:=240) Xx λhH hA=> ?_;simp only[bk,SX];have tV:∀o:aa,dW (λτ=>Gf τ++[o]) t (N+1):=λo=>hT.more [o];have mH:∀τ (L:List aa)(j:Nat),(Gf τ++L)[N+j]?=L[j]?:=λτ L j=>by rw[<- hT.len τ,aW]
 have dQ:∀τ (L:List aa)(j:Nat)(y:aa),(Gf τ++L).set (N+j) y=Gf τ++L.set j y:=λτ L j y=>by rw[<- hT.len τ,dR]
 have FC:∀τ (L:List aa),(Gf τ++L)[N]?=L[0]?:=λτ L=>mH τ L 0;have KS:∀τ (L:List aa)(y:aa),(Gf τ++L).set N y=Gf τ++L.set 0 y:=λτ L y=>dQ τ L 0 y;refine ak ?_;refine ak ?_;refine aJ ((si (tV _) hτ (by omega) (by omega) ?_));have r1:=mO τ 90;generalize dH τ 90=u1 at r1⊢;(try simp only[seval,zE4,zS]);refine aJ ((IG (ns:=[0,1,10,u1]) (tV _) hτ.tick (by omega) (by simp) (by simp) ?_));have r2:=Iy (tick τ) (ns:=[0,1,10,u1]) (by simp);simp only[SL,S4,or_false]at r2;generalize vk (tick τ) [0,1,10,u1]=first at r2⊢
 (try simp only[seval]);refine aJ ((ahq (lo:=1) (hi:=3) (tV _) hτ.tick.tick (by omega) (by decide) (by decide) ?_));have r3:=aro (tick (tick τ)) (show (1:Int)<=3 by decide);generalize Di (tick (tick τ)) 1 3=hours at r3⊢;(try simp only[seval,zE4,zS]);refine aJ ((IG (ns:=[1,2,2,3]) (tV _) hτ.tick.tick.tick (by omega) (by simp) (by simp) ?_));have r4:=Iy (tick (tick (tick τ))) (ns:=[1,2,2,3]) (by simp);simp only[SL,S4,or_false]at r4;generalize vk (tick (tick (tick τ))) [1,2,2,3]=am at r4⊢;have qT:0<=first/\first<=90:=by omega
 have xz:1<=am/\am<=3:=by omega
 clear r1 r2 r4;have hσ:(tick (tick (tick (tick τ)))).Ok (b+4):=hτ.tick.tick.tick.tick.mono (by omega);generalize tick (tick (tick (tick τ)))=σ at hσ⊢;(try simp only[seval,hT.len,mH,dQ,FC,KS]);refine aj ?_;simp only[seval,mH,z1,zQ]
 (repeat apply gT);refine u6 (t:=11) (sz:=1) (el:=3) (by simp only[seval]<;>rfl) ?_
 simp only[seval,hT.len]
 (repeat apply gT);refine HR (id:=N+1) (j:=4) (sz:=4) (fY:=48) (by simp only[seval,mH]<;>rfl) rfl ?_
 simp only[seval,dQ,hT.len]
 (repeat apply gT);refine HR (id:=N+1) (j:=5) (sz:=4) (fY:=48) (by simp only[seval,mH]<;>rfl) rfl ?_
 simp only[seval,dQ,hT.len]
 (repeat apply gT);refine HR (id:=N+1) (j:=3) (sz:=3) (fY:=61) (by simp only[seval,mH]<;>rfl) rfl ?_
 simp only[seval,dQ,hT.len];refine NT [11,10,6,0,1,2] ?_;show aU _ _ _ _ _ ⟨[(11,.sl 1 [iv first] (.opn (N+2))),(10,.op (N+1) 0),(6,.op N 0),(0,.op t 0),(1,iv pm),(2,bv true)],_⟩ _;obtain⟨zc,Cq⟩:∃zc:aa,zc=.cells [iv 0,iv 0,iv 0,.sl 0 [] .exact,.sl 0 [] .exact,.sl 0 [] .exact] 26:=⟨_,rfl⟩;simp only[iv]at Cq;rw[<- Cq];obtain⟨hn,hhn⟩:∃hn:Nat,hours=hn:=⟨hours.toNat,by omega⟩;subst hhn;refine ak ?_;refine cI ?_;refine gJ hn (λi:Nat=>[(11,.sl (i+1) ((kW σ first am i).1.map iv) (.opn (N+2))),(12,iv i)]) (λi=>Gf (kW σ first am i).2++[zc,.cells [iv first,iv hn,iv am,.sl 0 [] (.opn (N+5)),.sl 0 [] (.opn (N+3)),.sl 0 [] (.opn (N+4))] 26,.tail (i+1) 1 3,.tail 0 4 48,.tail 0 4 48,.tail 0 3 61]) (λi=>True) (λ_ _=>rfl) (by simp only[kW];simp only[seval];simp[bA,Wk.refl]) rfl (λ_ _ _=>by simp[hT.len]) trivial (λce db i cN _ R hR=> ?_)
 ·clear ce db;have ay:=QU σ first (am:=am) (by omega) i
  have p8:=QV hσ first am i
  have eP:kW σ first am (i+1)=((kW σ first am i).1++[(kW σ first am i).1.getD i 0+wi (kW σ first am i).2 am],tick (tick (kW σ first am i).2)):=rfl
  have ub:=ay.ge (by omega) i (SP _);generalize kW σ first am i=m at ay p8 eP ub hR⊢
  obtain⟨l,ρ⟩:=m;dsimp only at ay p8 eP ub⊢;have im:=ay.len;refine aj ?_;simp only[seval,mH];refine aE ?_;refine⟨λh=> ?_,λh=> ?_⟩
  ·as_aux_lemma=>
   have bx:i<hn:=(by omega);obtain⟨w,hw⟩:=cy (xs:=l) (i:=i) (by omega);have EU:l.getD i 0=w:=(by rw[SF,hw];rfl);rw[EU]at eP ub;have aP:=acd ρ (am:=am) (by omega);have RG:wi ρ am=vk (tick ρ) [0,am,dH ρ am]:=rfl;obtain⟨v,hv⟩:∃v,v=wi ρ am:=⟨_,rfl⟩;rw[<- hv]at eP aP RG;have Cl:SE.wrap (w+v)=w+v:=K5 (acY ub aP qT xz (by omega));have fL:SE.wrap ((i:Int)+1)=((i+1:Nat):Int):=(by rw[bG _ (by omega)];rfl);have iE:(0<=(i:Int)/\(i:Int)<(i:Int)+1)=True:=(by simp;omega);have mC:∀L:List aa,dW (λτ=>Gf τ++L) t (N+L.length):=λL=>hT.more L;refine aO ?_;refine cI ?_;obtain⟨X,hX⟩:∃X:Nat->List aa,∀a,X a=[zc,.cells [iv first,iv hn,iv am,.sl 0 [] (.opn (N+5)),.sl 0 [] (.opn (N+3)),.sl 0 [] (.opn (N+4))] 26,.tail a 1 3,.tail 0 4 48,.tail 0 4 48,.tail 0 3 61]:=⟨_,λ_=>rfl⟩;have Qe:=(hX (i+1)).symm;simp only[iv]at Qe;have x1:∀τ a,(Gf τ++X a)[N+1]?=some (.cells [iv first,iv hn,iv am,.sl 0 [] (.opn (N+5)),.sl 0 [] (.opn (N+3)),.sl 0 [] (.opn (N+4))] 26):=λτ a=>(by rw[mH,hX];rfl);have x2:∀τ a,(Gf τ++X a)[N+2]?=some (.tail a 1 3):=λτ a=>(by rw[mH,hX];rfl);have Nf:∀τ a a',(Gf τ++X a).set (N+2) (.tail a' 1 3)=Gf τ++X a':=λτ a a'=>(by rw[dQ,hX,hX];rfl);rw[Qe];refine qE [11,13,16] [0,1,2,3,4,5,6,7,8,9,10,11,12,13,14,15,16,17] [⟨0,false,[],[([11],[11]),([11,13],[11,13])]⟩,⟨1,false,[],[([11],[11]),([11,13],[11,13])]⟩,⟨2,false,[],[([11],[11]),([11,13],[11,13])]⟩,⟨3,false,[],[([11],[11]),([11,13],[11,13])]⟩,⟨4,false,[],[([11],[11]),([11,13],[11,13])]⟩,⟨5,false,[],[([11],[11])]⟩,⟨6,false,[],[([11],[11])]⟩,⟨7,false,[],[([11],[11])]⟩,⟨8,false,[],[]⟩,⟨9,false,[],[]⟩,⟨10,false,[],[]⟩,⟨11,true,[11],[]⟩,⟨12,false,[11],[]⟩,⟨13,true,[11,13],[]⟩,⟨14,false,[11,13],[]⟩,⟨15,false,[11,13],[]⟩,⟨16,true,[11,13,16],[]⟩,⟨17,false,[11,13,16],[]⟩] (λD=>bif isDone 16 D then Gf (tick (tick ρ))++X (i+1+1)else bif isDone 13 D then Gf (tick (tick ρ))++X (i+1)else bif isDone 11 D then Gf (tick ρ)++X (i+1)else Gf ρ++X (i+1)) ?_;simp only[seval,Nl,CS,z1,zQ,x1,x2,Nf,gE hw,iE,Cl,im];refine kN _ _ (cJ (si (mC (X (i+1))) p8 (by omega) (by omega) ⟨rfl,rfl⟩)) ?_;(try simp only[seval,Nl,CS,z1,zQ,x1,x2,Nf,gE hw,iE,Cl,im]);refine kN (iv v) _ (cJ (IG (ns:=[0,am,dH ρ am]) (mC (X (i+1))) p8.tick (by omega) (by simp) (by simp) ⟨by rw[RG],rfl⟩)) ?_;(try simp only[seval,Nl,CS,z1,zQ,x1,x2,Nf,gE hw,iE,Cl,im]);refine⟨by omega,?_⟩;refine aj ?_;simp only[seval,fL];refine hR _ ⟨bx,trivial,?_⟩;rw[eP,TE,hX];exact dD
  ·as_aux_lemma=>
   have du:i=hn:=(by omega);subst du;clear hR;refine b_ ?_;obtain⟨w,hw⟩:=cy (xs:=l) (i:=i) (by omega);have EU:l.getD i 0=w:=(by rw[SF,hw];rfl);have FG:first<=w/\w<=first+9:=by
    rw[EU]at ub;have:am* (i:Int)<=3* 3:=Ye (by omega) (by omega) (by omega) (by omega);generalize am* (i:Int)=q at ub this;omega
   obtain⟨mn,pV⟩:∃mn:Nat,w-first=mn:=⟨(w-first).toNat,by omega⟩
   have Rg:mn<=9:=(by omega);have hwm:SE.wrap (w-first)=mn:=(by rw[K5 (by omega),pV]);have iE:(0<=(i:Int)/\(i:Int)<(i:Int)+1)=True:=(by simp;omega);refine eI 8 ?_;simp only[seval,mH,gE hw,iE,hwm];have mC:∀L:List aa,dW (λτ=>Gf τ++L) t (N+L.length):=λL=>hT.more L;refine ak ?_;refine aJ ((Pd (n:=mn) (mC _) p8 (by omega) (by omega) ?_));have pX:=aaA ρ mn;have p8:=F_ p8 mn mn;generalize g_ ρ mn mn=m2 at pX p8⊢;obtain⟨order,ρ⟩:=m2;dsimp only at pX p8⊢;(try simp only[seval]);refine ak ?_
   (repeat apply gT);refine u6 (t:=15) (sz:=1) (el:=3) (by simp only[seval]<;>rfl) ?_
   simp only[seval,hT.len]
   (repeat apply gT);refine u6 (t:=16) (sz:=1) (el:=3) (by simp only[seval]<;>rfl) ?_
   simp only[seval,hT.len];refine NT [16,15,14,13,11,10,6,0,1,2] ?_;show aU _ _ _ _ _ ⟨[(16,.sl 0 [] (.opn (N+7))),(15,.sl 0 [] (.opn (N+6))),(14,br order),(13,iv mn),(11,.sl (i+1) (l.map iv) (.opn (N+2))),(10,.op (N+1) 0),(6,.op N 0),(0,.op t 0),(1,iv pm),(2,bv true)],_⟩ _;obtain⟨YY,jO⟩:∃YY:List AV->Nat->Nat->Nat->Nat->Nat->List aa,∀r a b c d e,YY r a b c d e=[zc,.cells r 26,.tail (i+1) 1 3,.tail a 4 48,.tail b 4 48,.tail c 3 61,.tail d 1 3,.tail e 1 3]:=⟨_,λ_ _ _ _ _ _=>rfl⟩;have hY:AI Gf N zc YY:=by
    refine⟨λr a b c d e=>by rw[jO];rfl,λτ r a b c d e=>by rw[FC,jO];rfl,λτ r a b c d e=>by rw[mH,jO];rfl,λτ r a b c d e=>by rw[mH,jO];rfl,λτ r a b c d e=>by rw[mH,jO];rfl,λτ r a b c d e=>by rw[mH,jO];rfl,λτ r a b c d e=>by rw[mH,jO];rfl,λτ r a b c d e=>by rw[mH,jO];rfl,λτ r r' a b c d e=>by rw[dQ,jO,jO];rfl,λτ r a a' b c d e=>by rw[dQ,jO,jO];rfl,λτ r a b b' c d e=>by rw[dQ,jO,jO];rfl,λτ r a b c c' d e=>by rw[dQ,jO,jO];rfl,λτ r a b c d d' e=>by rw[dQ,jO,jO];rfl,λr a b c d e y=>⟨_,by rw[jO];rfl⟩,λτ r a b c d e e'=>by rw[dQ,jO,jO];rfl⟩
   have Qf:[zc,.cells [iv first,iv i,iv am,.sl 0 [] (.opn (N+5)),.sl 0 [] (.opn (N+3)),.sl 0 [] (.opn (N+4))] 26,.tail (i+1) 1 3,.tail 0 4 48,.tail 0 4 48,.tail 0 3 61,.tail 0 1 3,.tail 0 1 3]=YY [iv first,iv i,iv am,.sl 0 [] (.opn (N+5)),.sl 0 [] (.opn (N+3)),.sl 0 [] (.opn (N+4))] 0 0 0 0 0:=(by rw[jO]);simp only[iv]at Qf;rw[Qf];refine ak ?_;refine HP (α:=Nat×bp) (λy=>⟨[(16,.sl 0 [] (.opn (N+7))),(15,.sl y.1 ((kC first order y.1).map iv) (.opn (N+6))),(13,iv mn),(11,.sl (i+1) (l.map iv) (.opn (N+2))),(10,.op (N+1) 0),(6,.op N 0),(0,.op t 0),(2,bv true)],Gf y.2++YY [iv first,iv i,iv am,.sl 0 [] (.opn (N+5)),.sl y.1 ((kq l i (λj=>first+order.getD j 0) ρ y.1).1.flatMap aB.l) (.opn (N+3)),.sl 0 [] (.opn (N+4))] y.1 0 0 y.1 0⟩) (λy=>y.1<=pm/\y.1<=mn/\y.2.Ok (b+60)) ?_ (λy hy=> ?_)
   ·exact ahi hT hY hb sK (by omega) qT im Rg pX (p8.mono (by omega))
   ·as_aux_lemma=>
    obtain⟨np,ρ1⟩:=y;obtain⟨aka,akb,K4⟩:=hy;dsimp only at aka akb K4⊢;have Fl:(kq l i (λj=>first+order.getD j 0) ρ np).1.length=np:=yV _ _ _ _ _;have Ry:∀(p:Nat) z,(kq l i (λj=>first+order.getD j 0) ρ np).1[p]?=some z->∃τ,z=lz τ l (first+order.getD p 0) i:=λp z hz=>Jr (P:=λn z=>∃τ,z=lz τ l n i) (λτ n=>⟨τ,rfl⟩) np p z hz;generalize(kq l i (λj=>first+order.getD j 0) ρ np).1=c_ at Fl Ry⊢;have jQ:=aaK first order np
    have uh:∀n∈kC first order np,first<=n/\n<w:=λn hn=>by
     unfold kC at hn;obtain⟨p,hp,rfl⟩:=Tm.1 hn;have hp:=TG.1 hp;obtain⟨o,ho⟩:=cy (xs:=order) (i:=p) (by rw[pX.len];omega);have:=pX.GA o (uB ho);rw[SF,ho];simp only[S9];omega
    have vP:(kC first order np).Nodup:=by
     have e:kC first order np=(order.take np).map λo=>first+o:=by
      unfold kC;refine amu (by rw[Tn,TZ,pX.len];omega) λp hp=> ?_;rw[To,Uc,if_pos hp,SF];obtain⟨o,ho⟩:=cy (xs:=order) (i:=p) (by rw[pX.len];omega);rw[ho];rfl
     rw[e];have h1:(order.take np).Nodup:=Yn (Zd _ _) pX.nodup;rw[Us,Xt];exact(Us.1 h1).imp λh e=>h (by omega)
    have Rj:∀p,p<np->(kC first order np).getD p 0=first+order.getD p 0:=λp hp=>by
     unfold kC;rw[SF,To,Xv hp];rfl
    generalize kC first order np=aA at jQ uh vP Rj⊢
    refine ak ?_;refine aJ ((Pd (n:=np) (mC _) K4 (by omega) (by omega) ?_));have sL:=aaA ρ1 np;have xJ:=F_ K4 np np;generalize g_ ρ1 np np=m3 at sL xJ⊢;obtain⟨gP,ρ2⟩:=m3;dsimp only at sL xJ⊢;have xJ:ρ2.Ok (b+64):=xJ.mono (by omega);(try simp only[seval]);have hwe:br gP=.sl np (gP.map iv) .shut:=(by rw[br,sL.len]);rw[hwe];refine ak ?_;refine HP (α:=Nat×bp) (λy=>⟨[(16,.sl y.1 ((gP.take y.1).map iv) (.opn (N+7))),(15,.sl np (aA.map iv) (.opn (N+6))),(11,.sl (i+1) (l.map iv) (.opn (N+2))),(10,.op (N+1) 0),(6,.op N 0),(0,.op t 0),(2,bv true)],Gf y.2++YY [iv first,iv i,iv am,.sl 0 [] (.opn (N+5)),.sl np (c_.flatMap aB.l) (.opn (N+3)),.sl y.1 ((kq l i (λj=>aA.getD (gP.getD j 0).toNat 0) ρ2 y.1).1.flatMap aB.l) (.opn (N+4))] np y.1 0 np y.1⟩) (λy=>y.1<=np/\y.1<=3/\y.2.Ok (b+90)) ?_ (λy hy=> ?_)
    ·exact mz (s':=⟨[(19,iv 0),(18,.sl np (gP.map iv) .shut),(16,.sl 0 [] (.opn (N+7))),(15,.sl np (aA.map iv) (.opn (N+6))),(11,.sl (i+1) (l.map iv) (.opn (N+2))),(10,.op (N+1) 0),(6,.op N 0),(0,.op t 0),(2,bv true)],Gf ρ2++YY [iv first,iv i,iv am,.sl 0 [] (.opn (N+5)),.sl np (c_.flatMap aB.l) (.opn (N+3)),.sl 0 [] (.opn (N+4))] np 0 0 np 0⟩) (fF (by simp only[seval];simp[bA,Wk.refl]) rfl) (ahf hT hY hb (by omega) qT FG im (by omega) jQ uh sL xJ)
    ·as_aux_lemma=>
     obtain⟨ns,ρ3⟩:=y;obtain⟨akc,akd,Cr⟩:=hy;dsimp only at akc akd Cr⊢;have nA:(kq l i (λj=>aA.getD (gP.getD j 0).toNat 0) ρ2 ns).1.length=ns:=yV _ _ _ _ _;have RJ:∀(s:Nat) z,(kq l i (λj=>aA.getD (gP.getD j 0).toNat 0) ρ2 ns).1[s]?=some z->∃τ,z=lz τ l (aA.getD (gP.getD s 0).toNat 0) i:=λs z hz=>Jr (P:=λn z=>∃τ,z=lz τ l n i) (λτ n=>⟨τ,rfl⟩) ns s z hz;generalize(kq l i (λj=>aA.getD (gP.getD j 0).toNat 0) ρ2 ns).1=eF at nA RJ⊢;have rj:=sL.len;have aF:(gP.take ns).length=ns:=(by rw[TZ];omega);have gX:∀v∈gP.take ns,0<=v/\v<(np:Int):=λv hv=>sL.GA v (Wq hv);have Ru:(gP.take ns).Nodup:=Yn (Zd _ _) sL.nodup;have Rt:∀s,s<ns->(gP.take ns).getD s 0=gP.getD s 0:=λs hs=>by
      rw[SF,SF,Uc,if_pos hs]
     generalize gP.take ns=bY at aF gX Ru Rt⊢;refine ahe hT (λτ'=>hT.ay hH τ') hY Cq hb (by omega) qT xz ay Cr Fl jQ nA aF λss τ' h1 h2 h3=>hk _ l aA bY τ' ⟨qT,by dsimp only;omega,xz,by simpa using ay,by dsimp only;omega,by dsimp only;omega,λn hn=> ?_,vP,λp y hy=> ?_,by dsimp only;omega,by dsimp only;omega,λv hv=>by rw[jQ];exact gX v hv,Ru,λs y hy=> ?_,h1,h2⟩ h3
     ·have:=uh n hn;dsimp only;rw[Vx,EU];exact this
     ·dsimp only at hy;have hp:=(SM.1 hy).1;obtain⟨τ,e⟩:=Ry p y hy;exact⟨τ,by rw[Rj p (by omega)];exact e⟩
     ·dsimp only at hy;have hp:=(SM.1 hy).1;obtain⟨τ,e⟩:=RJ s y hy;exact⟨τ,by rw[Rt s (by omega)];exact e⟩
end
end Go.Gg
namespace Go.Gg.Tk
theorem EX{x:ai}:∀(d:Nat)(pre h:List Int),h∈kv x d pre->h.take pre.length=pre
 |0,pre,h,hm=>by
  unfold kv at hm;split at hm
  ·rw[S8]at hm;subst hm;exact TJ
  ·cases hm
 |d+1,pre,h,hm=>by
  unfold kv at hm;split at hm
  ·obtain⟨n,_,hm⟩:=S7.1 hm;have:=EX d _ h hm;rw[SQ,T7]at this;have h2:=congrArg (T_ pre.length) this;rw[UZ,Tx (SP _),TJ,Wu (by omega)]at h2;exact h2
  ·cases hm
theorem QQ{x:ai}:∀(d:Nat)(pre:List Int),(kv x d pre).Nodup
 |0,pre=>by
  unfold kv;split
  ·simp
  ·exact WJ
 |d+1,pre=>by
  unfold kv;split
  ·unfold List.Nodup;rw[List.pairwise_flatMap];refine⟨λn _=>QQ d _,?_⟩;refine Z2 ?_ (XU (n:=x.am.toNat+1));intro a b fK h ha g hb he;subst he;have h1:=EX d _ h ha;have h2:=EX d _ h hb;rw[SQ,T7]at h1 h2;have h3:=h1.symm.trans h2;have:=List.append_cancel_left h3;simp at this;exact fK (by omega)
  ·exact WJ
theorem ajS(x:ai):(aL x).Nodup:=QQ _ _
end Go.Gg.Tk
namespace Go.Gg.Tk
theorem FW{h pre:List Int}(hp:pre≠[])(ht:h.take pre.length=pre):pre.getLastD 0=h.getD (pre.length-1) 0:=by
 have hl:0<pre.length:=Vq.2 hp;have e:pre[pre.length-1]?=h[pre.length-1]?:=by
  have:(h.take pre.length)[pre.length-1]?=pre[pre.length-1]?:=by rw[ht]
  rw[<- this,Uc,if_pos (by omega)]
 rw[SF,<- e,Vf,Yc]
def Good (x:ai)(k:Nat)(h:List Int):Prop:=∀j,k<=j->j<h.length->rD x j (h.getD j 0)=true/\(j+1<h.length->∃n:Nat,n<x.am.toNat+1/\h.getD (j+1) 0=h.getD j 0+n)
theorem GP{h pre:List Int}{v:Int}:h.take (pre.length+1)=pre++[v]<->h.take pre.length=pre/\pre.length<h.length/\h.getD pre.length 0=v:=by
 constructor
 ·intro e;have hl:pre.length+1<=h.length:=by
   have:=congrArg Z1 e;rw[TZ,SQ,T7]at this;omega
  have h1:=congrArg (T_ pre.length) e;rw[UZ,Tx (SP _),TJ,Wu (by omega)]at h1;refine⟨h1,by omega,?_⟩;have h2:(h.take (pre.length+1))[pre.length]?=(pre++[v])[pre.length]?:=by rw[e]
  rw[Uc,if_pos (by omega),Tj (SP _),Vb]at h2;rw[SF,h2];rfl
 ·rintro⟨h1,h2,h3⟩
  rw[VE,h1];congr 1;rw[SF,SV h2]at h3;rw[SV h2,<- h3];rfl
theorem J7{x:ai}:∀(d:Nat)(pre h:List Int),pre≠[]->(h∈kv x d pre<->h.length=pre.length+d/\h.take pre.length=pre/\Good x (pre.length-1) h)
 |0,pre,h,hp=>by
  have hl:0<pre.length:=Vq.2 hp;unfold kv;constructor
  ·intro hm;split at hm
   ·rename_i hs;rw[S8]at hm;subst hm;refine⟨rfl,TJ,λj h1 h2=> ?_⟩;have:j=h.length-1:=(by omega);subst this;rw[FW hp TJ]at hs;exact⟨hs,λh=>by omega⟩
   ·cases hm
  ·rintro⟨h1,h2,h3⟩
   have e:h=pre:=(by rw[<- h2,SW (by omega)]);subst e;have:=(h3 (h.length-1) (SP _) (by omega)).1;rw[<- FW hp TJ]at this;rw[if_pos this];simp
 |d+1,pre,h,hp=>by
  have hl:0<pre.length:=Vq.2 hp;unfold kv;constructor
  ·intro hm;split at hm
   ·rename_i hs;obtain⟨n,hn,hm⟩:=S7.1 hm;rw[J7 d _ h (by simp)]at hm;obtain⟨h1,h2,h3⟩:=hm;rw[SQ,T7]at h1 h2 h3;obtain⟨h4,h5,h6⟩:=GP.1 h2;rw[FW hp h4]at hs h6;refine⟨by omega,h4,λj xv EZ=> ?_⟩;by_cases hj:j=pre.length-1
    ·subst hj;refine⟨hs,λ_=>⟨n,TG.1 hn,?_⟩⟩;rw[show pre.length-1+1=pre.length by omega];exact h6
    ·exact h3 j (by omega) EZ
   ·cases hm
  ·rintro⟨h1,h2,h3⟩
   obtain⟨hs,aP⟩:=h3 (pre.length-1) (SP _) (by omega);obtain⟨n,hn,he⟩:=aP (by omega);rw[show pre.length-1+1=pre.length by omega]at he;rw[FW hp h2,if_pos hs];refine S7.2 ⟨n,TG.2 hn,?_⟩;rw[J7 d _ h (by simp),SQ,T7];exact⟨by omega,GP.2 ⟨h2,by omega,he⟩,λj xv EZ=>h3 j (by omega) EZ⟩
theorem amE{h:List Int}(hm:∀j,j+1<h.length->h.getD j 0<=h.getD (j+1) 0):tw h:=by
 induction h with
 |nil=>trivial
 |cons a l ih=>
  cases l with
  |nil=>trivial
  |cons b l=>
   refine⟨?_,ih λj hj=> ?_⟩
   ·have:=hm 0 (by simp);simpa using this
   ·have:=hm (j+1) (by simp at hj⊢;omega);simpa using this
theorem acK{n:Int}:∀(h:List Int)(i:Nat),tw h->(0<=ft i h n<->h.headD 0<=n/\n<h.getLastD 0)
 |[],i,_=>by simp[ft]<;>omega
 |[a],i,_=>by simp[ft]<;>omega
 |a::b::l,i,hm=>by
  obtain⟨h1,h2⟩:=hm;have ih:=acK (n:=n) (b::l) (i+1) h2;have ue:(a::b::l).getLastD 0=(b::l).getLastD 0:=by simp[Zn]
  rw[ue];unfold ft;split
  ·rename_i h;have cL:b<=(b::l).getLastD 0:=aaB h2;constructor
   ·intro _;exact⟨h.1,by omega⟩
   ·intro _;omega
  ·rename_i h;rw[ih];have e1:(a::b::l).headD 0=a:=rfl;have e2:(b::l).headD 0=b:=rfl;rw[e1,e2];omega
where
 aaB {b:Int}:∀{l:List Int},tw (b::l)->b<=(b::l).getLastD 0
  |[],_=>by simp
  |c::l,hm=>by
   obtain⟨h1,h2⟩:=hm;have:=aaB h2;have e:(b::c::l).getLastD 0=(c::l).getLastD 0:=(by simp[Zn]);rw[e];omega
theorem MZ{h:List Int}{n:Int}(hm:tw h):0<=je h n<->h.headD 0<=n/\n<h.getLastD 0:=acK h 0 hm
theorem acM{n:Int}:∀(h:List Int)(i:Nat),0<=ft i h n->ft i h n+1<i+h.length
 |[],i,h=>by simp[ft]at h
 |[a],i,h=>by simp[ft]at h
 |a::b::l,i,h=>by
  unfold ft at h⊢;split
  ·simp;omega
  ·rename_i hn;rw[if_neg hn]at h;have:=acM (b::l) (i+1) h;simp at this⊢;omega
theorem aij{h:List Int}{y:aB}{n:Int}(hm:tw h)(hf:fits h y n=true):n∈Ga h:=by
 unfold fits at hf;simp only[Tc,decide_eq_true_eq]at hf;obtain⟨h1,h2⟩:=(MZ hm).1 hf.1.1;unfold Ga;refine Tm.2 ⟨(n-h.headD 0).toNat,TG.2 (by omega),by omega⟩
theorem PO{α:Type}[DecidableEq α]{l:List α}{d:α}{i:Nat}(hi:i<l.length):l.Nodup->l.getD i d∉l.take i:=λhn hm=>by
 obtain⟨j,hj⟩:=VD hm;rw[Uc]at hj;split at hj
 ·rename_i cg;rw[SF,SV hi,SV (by omega)]at hj;simp only[S9,Tl]at hj;have h2:=Us.1 hn;exact(Yb.1 h2) j i (by omega) hi cg hj
 ·cases hj
theorem aaH{α:Type}{l:List α}{d:α}(h:∀i,i<l.length->l.getD i d∉l.take i):l.Nodup:=by
 rw[Us,Yb];intro i j hi hj j6 e;refine h j hj ?_;rw[SF,SV hj,S9,<- e];exact UP.2 ⟨i,by rw[Uc,if_pos j6,SV hi]⟩
theorem GQ{α:Type}{d:α}{h pre:List α}{v:α}:h.take (pre.length+1)=pre++[v]<->h.take pre.length=pre/\pre.length<h.length/\h.getD pre.length d=v:=by
 constructor
 ·intro e;have hl:pre.length+1<=h.length:=by
   have:=congrArg Z1 e;rw[TZ,SQ,T7]at this;omega
  have h1:=congrArg (T_ pre.length) e;rw[UZ,Tx (SP _),TJ,Wu (by omega)]at h1;refine⟨h1,by omega,?_⟩;have h2:(h.take (pre.length+1))[pre.length]?=(pre++[v])[pre.length]?:=by rw[e]
  rw[Uc,if_pos (by omega),Tj (SP _),Vb]at h2;rw[SF,h2];rfl
 ·rintro⟨h1,h2,h3⟩
  rw[VE,h1];congr 1;rw[SF,SV h2]at h3;rw[SV h2,<- h3];rfl
theorem Gc{h:List Int}(hm:tw h):∀(ys:List aB)(t ns:List Int),ns∈mL h ys t<->ns.length=t.length+ys.length/\ns.take t.length=t/\∀i y,ys[i]?=some y->fits h y (ns.getD (t.length+i) 0)=true/\ns.getD (t.length+i) 0∉ns.take (t.length+i)
 |[],t,ns=>by
  simp only[mL,S8,UQ,UH];constructor
  ·rintro rfl;exact⟨rfl,TJ,λi y hy=>by cases hy⟩
  ·rintro⟨h1,h2,_⟩;rw[<- h2,SW (by omega)]
 |y::ys,t,ns=>by
  simp only[mL,S7,Un,Tc,TV,Ul];constructor
  ·rintro⟨n,⟨_,hf,ht⟩,fO⟩
   rw[Gc hm ys (t++[n]) ns]at fO;obtain⟨h1,h2,h3⟩:=fO;rw[SQ,T7]at h1 h2 h3;obtain⟨h4,h5,h6⟩:=(GQ (d:=0)).1 h2;refine⟨by omega,h4,λi z hz=> ?_⟩
   match i,hz with
   |0,hz=>
    cases hz;rw[UH,h6,h4];refine⟨hf,?_⟩;intro hc;rw[Up]at ht;simp at ht;exact ht hc
   |i+1,hz=>
    have:=h3 i z hz;rw[show t.length+1+i=t.length+(i+1) by omega]at this;exact this
  ·rintro⟨h1,h2,h3⟩
   obtain⟨hf,hn⟩:=h3 0 y rfl;rw[UH]at hf hn;rw[h2]at hn;refine⟨ns.getD t.length 0,⟨aij hm hf,hf,by rw[Up];simpa using hn⟩,?_⟩;rw[Gc hm ys _ ns,SQ,T7];refine⟨by omega,(GQ (d:=0)).2 ⟨h2,by omega,rfl⟩,λi z hz=> ?_⟩;have:=h3 (i+1) z hz;rw[show t.length+(i+1)=t.length+1+i by omega]at this;exact this
theorem Gq{h ns:List Int}:∀(ss:List aB)(t os:List Nat),os∈pk h ns ss t<->os.length=t.length+ss.length/\os.take t.length=t/\∀i s,ss[i]?=some s->fits h s (ns.getD (os.getD (t.length+i) 0) 0)=true/\os.getD (t.length+i) 0<ns.length/\os.getD (t.length+i) 0∉os.take (t.length+i)
 |[],t,os=>by
  simp only[pk,S8,UQ,UH];constructor
  ·rintro rfl;exact⟨rfl,TJ,λi y hy=>by cases hy⟩
  ·rintro⟨h1,h2,_⟩;rw[<- h2,SW (by omega)]
 |s::ss,t,os=>by
  simp only[pk,S7,Un,Tc,TV,Ul,TG];constructor
  ·rintro⟨n,⟨hlt,hf,ht⟩,fO⟩
   rw[Gq ss (t++[n]) os]at fO;obtain⟨h1,h2,h3⟩:=fO;rw[SQ,T7]at h1 h2 h3;obtain⟨h4,h5,h6⟩:=(GQ (d:=0)).1 h2;refine⟨by omega,h4,λi z hz=> ?_⟩
   match i,hz with
   |0,hz=>
    cases hz;rw[UH,h6,h4];refine⟨hf,hlt,?_⟩;intro hc;rw[Up]at ht;simp at ht;exact ht hc
   |i+1,hz=>
    have:=h3 i z hz;rw[show t.length+1+i=t.length+(i+1) by omega]at this;exact this
  ·rintro⟨h1,h2,h3⟩
   obtain⟨hf,hlt,hn⟩:=h3 0 s rfl;rw[UH]at hf hlt hn;rw[h2]at hn;refine⟨os.getD t.length 0,⟨hlt,hf,by rw[Up];simpa using hn⟩,?_⟩;rw[Gq ss _ os,SQ,T7];refine⟨by omega,(GQ (d:=0)).2 ⟨h2,by omega,rfl⟩,λi z hz=> ?_⟩;have:=h3 (i+1) z hz;rw[show t.length+(i+1)=t.length+1+i by omega]at this;exact this
end Go.Gg.Tk
namespace Go.Gg.Tk
theorem QS{x:ai}{bf:Nat}:∀(d:Nat)(pre:List Int),2<=pre.length->mF x bf d pre=(kv x d pre).map cH
 |0,pre,_=>by
  unfold mF kv;split<;>rfl
 |d+1,pre,h=>by
  unfold mF kv;split
  ·rw[Vs];congr 1;funext n;rw[if_neg (λhc=>by have:=hc.1;omega),QS d _ (by simp;omega)]
  ·rfl
theorem Px{α:Type}{t:Nat}{f:Nat->List α}:∀m,((S0 m).flatMap λn=>if n≠t then[]else f n)=if t<m then f t else[]
 |0=>by simp
 |m+1=>by
  rw[Vh,Vv,Px m];simp only[Ui,List.flatMap_nil,SY];by_cases h:m=t
  ·subst h;rw[if_neg (Nat.lt_irrefl _),if_neg (by simp),if_pos (Uv _),UC]
  ·rw[if_pos h,SY];by_cases h2:t<m
   ·rw[if_pos h2,if_pos (by omega)]
   ·rw[if_neg h2,if_neg (by omega)]
theorem QW{x:ai}{bf:Nat}(hh:1<=x.hours)(ht:bf<x.am.toNat+1):kx x bf=(vI x bf).map cH:=by
 unfold kx vI;obtain⟨d,hd⟩:∃d,x.hours.toNat=d+1:=⟨x.hours.toNat-1,by omega⟩;rw[hd];unfold mF;simp only[T7,Vb,VU,true_and];rw[show ([x.first]:List Int).getLastD 0=x.first from rfl];split
 ·rw[Px (t:=bf) (f:=λn=>mF x bf d ([x.first]++[x.first+(n:Int)])),if_pos ht,QS d _ (by simp)];rfl
 ·rfl
theorem ajR{x:ai}(hh:1<=x.hours):((S0 (x.am.toNat+1)).flatMap λt=>vI x t)=aL x:=by
 unfold aL vI;obtain⟨d,hd⟩:∃d,x.hours.toNat=d+1:=⟨x.hours.toNat-1,by omega⟩;rw[hd,VU,show kv x (d+1) [x.first]=(if rD x 0 x.first then(S0 (x.am.toNat+1)).flatMap λn:Nat=>kv x d [x.first,x.first+(n:Int)]else[])from rfl];split
 ·rfl
 ·simp
end Go.Gg.Tk
namespace Go.Gg.Tk
theorem aoC{p:Nat->Bool}{m k:Nat}(h:m<=k):((S0 k).filter λn=>decide (n<m)&&p n)=(S0 m).filter p:=by
 obtain⟨j,rfl⟩:=Nat.exists_eq_add_of_le h;rw[List.range_add,List.filter_append];have h1:((S0 j).map (m+·)).filter (λn=>decide (n<m)&&p n)=[]:=by
  rw[Yz];intro a ha;obtain⟨b,_,rfl⟩:=Tm.1 ha;simp only[Tc,decide_eq_true_eq,not_and];exactλhlt=>absurd hlt (by omega)
 rw[h1,SY];refine Vg λn hn=> ?_;rw[TG]at hn;simp[hn]
theorem IW{α:Type}{c:Nat->Bool}{f:Nat->List α}:∀l:List Nat,(l.flatMap λn=>if c n=true then[]else f n)=(l.filter λn=> !c n).flatMap f
 |[]=>rfl
 |n::l=>by
  rw[Ui,List.filter_cons,IW l];cases hc:c n<;>simp
def sY (g:aB->Nat->Bool)(m:Nat):List aB->List Nat->List (List Nat)
 |[],t=>[t]
 |y::ys,t=>((S0 m).filter λn=>g y n&& !t.contains n).flatMap λn=>sY g m ys (t++[n])
theorem LX{g:aB->Nat->Bool}{q:aB->Nat}{m:Nat}(hm:m<=9):∀(ys:List aB)(u:Nat)(t:List Nat),(∀y∈ys,∀n,n<9->(q y).testBit n=(decide (n<m)&&g y n))->(∀n,u.testBit n=t.contains n)->kD (ys.map q) u t=sY g m ys t
 |[],u,t,_,_=>rfl
 |y::ys,u,t,hq,hu=>by
  rw[UU,kD,sY];have e1:((S0 9).flatMap λn=>if(u.testBit n|| !(q y).testBit n)=true then[]else kD (ys.map q) (u|||2^n) (t++[n]))=((S0 9).filter λn=> !(u.testBit n|| !(q y).testBit n)).flatMap λn=>kD (ys.map q) (u|||2^n) (t++[n]):=IW _;rw[e1];have e2:((S0 9).filter λn=> !(u.testBit n|| !(q y).testBit n))=(S0 m).filter λn=>g y n&& !t.contains n:=by
   rw[<- aoC hm];refine Vg λn hn=> ?_;rw[TG]at hn;rw[hu,hq y (by simp) n hn];cases t.contains n<;>cases decide (n<m)<;>cases g y n<;>rfl
  rw[e2];congr 1;funext n;refine LX hm ys _ _ (λz hz=>hq z (by simp[hz])) λi=> ?_;rw[Xk,hu,VM,YN];simp[eq_comm]
theorem aaO{h:List Int}{a:Int}{g:aB->Nat->Bool}{m:Nat}(hr:Ga h=(S0 m).map λi:Nat=>a+(i:Int)):∀(ys:List aB)(t:List Nat),(∀y∈ys,∀n,n<m->fits h y (a+(n:Int))=g y n)->mL h ys (t.map λi:Nat=>a+(i:Int))=(sY g m ys t).map λl=>l.map λi:Nat=>a+(i:Int)
 |[],t,_=>rfl
 |y::ys,t,hg=>by
  rw[mL,sY,hr,List.filter_map,WM,Vs];have e:(S0 m).filter ((λn=>fits h y n&& !(t.map λi:Nat=>a+(i:Int)).contains n)∘λi:Nat=>a+(i:Int))=(S0 m).filter λn=>g y n&& !t.contains n:=by
   refine Vg λn hn=> ?_;rw[TG]at hn;simp only[Wc];rw[hg y (by simp) n hn];congr 1;congr 1;rw[Vk,YF,YF,Tm];constructor
   ·rintro⟨i,h1,h2⟩
    have:i=n:=(by omega);rw[<- this];exact h1
   ·exactλh1=>⟨n,h1,rfl⟩
  rw[e];congr 1;funext n;have:=aaO hr ys (t++[n]) (λz hz=>hg z (by simp[hz]));rw[TE]at this;exact this
end Go.Gg.Tk
namespace Go.Gg.Tk
theorem aa5{h:List Int}{ns:List Nat}{nl:List Int}{q:aB->Nat}(hl:nl.length=ns.length):∀(ss:List aB)(u:Nat)(t:List Nat),(∀s∈ss,∀p,p<ns.length->(q s).testBit (ns.getD p 0)=fits h s (nl.getD p 0))->(∀n,u.testBit n=t.contains n)->mf ns.length ns (ss.map q) u t=pk h nl ss t
 |[],u,t,_,_=>rfl
 |s::ss,u,t,hq,hu=>by
  rw[UU,mf,pk,hl];have e1:((S0 ns.length).flatMap λp=>if(u.testBit p|| !(q s).testBit (ns.getD p 0))=true then[]else mf ns.length ns (ss.map q) (u|||2^p) (t++[p]))=((S0 ns.length).filter λp=> !(u.testBit p|| !(q s).testBit (ns.getD p 0))).flatMap λp=>mf ns.length ns (ss.map q) (u|||2^p) (t++[p]):=IW _;rw[e1];have e2:((S0 ns.length).filter λp=> !(u.testBit p|| !(q s).testBit (ns.getD p 0)))=(S0 ns.length).filter λp=>fits h s (nl.getD p 0)&& !t.contains p:=by
   refine Vg λp hp=> ?_;rw[TG]at hp;rw[hu,hq s (by simp) p hp];cases t.contains p<;>cases fits h s (nl.getD p 0)<;>rfl
  rw[e2];congr 1;funext p;refine aa5 hl ss _ _ (λz hz=>hq z (by simp[hz])) λi=> ?_;rw[Xk,hu,VM,YN];simp[eq_comm]
theorem aaT{g:aB->Nat->Bool}{m:Nat}:∀{ys:List aB}{t ns:List Nat},ns∈sY g m ys t->(∀n∈t,n<m)->ns.length=t.length+ys.length/\∀n∈ns,n<m
 |[],t,ns,h,ht=>by
  simp only[sY,S8]at h;subst h;exact⟨by simp,ht⟩
 |y::ys,t,ns,h,ht=>by
  simp only[sY,S7,Un,TG]at h;obtain⟨n,⟨hn,_⟩,h⟩:=h;obtain⟨h1,h2⟩:=aaT h (λk hk=>by
   rcases SS.1 hk with h'|h'
   ·exact ht k h'
   ·rw[S8.1 h'];exact hn)
  exact⟨by rw[h1];simp;omega,h2⟩
end Go.Gg.Tk
namespace Go.Gg.Tk
structure wz (x:ai)(h:List Int):Prop where
 lo:2<=h.length
 hi:h.length<=4
 head:h.headD 0=x.first
 span:h.getLastD 0<=x.first+9
 pad:mo (cH h)
theorem aba{h:List Int}(hl:2<=h.length):(cH h).getD 0 0=h.headD 0:=by
 match h,hl with
 |a::b::l,_=>rfl
theorem abb{h:List Int}(hl:2<=h.length)(h4:h.length<=4):(cH h).getD 3 0=h.getLastD 0:=by
 match h,hl,h4 with
 |[a,b],_,_=>rfl
 |[a,b,c],_,_=>rfl
 |[a,b,c,d],_,_=>rfl
theorem ano{h:List Int}{n:Int}(hl:2<=h.length)(h4:h.length<=4):je (cH h) n=je h n:=by
 match h,hl,h4 with
 |[a,b],_,_=>exact MX (i:=0) (k:=2) (z:=b) (h:=[a,b]) (n:=n) rfl (by simp)
 |[a,b,c],_,_=>exact MX (i:=0) (k:=1) (z:=c) (h:=[a,b,c]) (n:=n) rfl (by simp)
 |[a,b,c,d],_,_=>exact MX (i:=0) (k:=0) (z:=d) (h:=[a,b,c,d]) (n:=n) rfl (by simp)
def oq (h:List Int):Nat:=(h.getLastD 0-h.headD 0).toNat
theorem HX{x:ai}{h:List Int}(hh:wz x h)(y:aB){n:Nat}(hn:n<9):(bW (cH h) y).testBit n=(decide (n<oq h)&&fits h y (h.headD 0+(n:Int))):=by
 unfold bW;rw[A0];unfold lw fits;rw[aba hh.lo,abb hh.lo hh.hi,ano hh.lo hh.hi];have e1:decide (n<9)=true:=decide_eq_true hn;have e2:decide (h.headD 0+(n:Int)<h.getLastD 0)=decide (n<oq h):=by
  unfold oq;rw[Vk];simp only[decide_eq_true_eq];omega
 rw[e1,e2,U8];by_cases hm:n<oq h
 ·have e3:0<=je h (h.headD 0+(n:Int)):=by
   unfold oq at hm;refine MW (a:=h.headD 0) ?_ (by omega) (by omega);have:=hh.lo
   match h,this with
   |a::b::l,_=>rfl
  rw[decide_eq_true e3,decide_eq_true hm];simp
 ·rw[decide_eq_false hm];simp
theorem aaN{x:ai}{h:List Int}(hh:wz x h):mL h x.pieces []=(fS x (cH h)).map λl=>l.map λi:Nat=>h.headD 0+(i:Int):=by
 have Fa:oq h<=9:=by unfold oq;have:=hh.span;have:=hh.head;omega
 have e1:fS x (cH h)=sY (λy n=>fits h y (h.headD 0+(n:Int))) (oq h) x.pieces []:=
  LX Fa x.pieces 0 [] (λy _ n hn=>HX hh y hn) (by simp)
 rw[e1];exact aaO (a:=h.headD 0) rfl x.pieces [] λy _ n _=>rfl
end Go.Gg.Tk
namespace Go.Gg.Tk
theorem amS{x:ai}{h:List Int}(hh:wz x h){ns:List Nat}(hn:ns∈fS x (cH h)):ns.length=x.pieces.length/\∀n∈ns,n<oq h:=by
 have Fa:oq h<=9:=by unfold oq;have:=hh.span;have:=hh.head;omega
 have e1:fS x (cH h)=sY (λy n=>fits h y (h.headD 0+(n:Int))) (oq h) x.pieces []:=
  LX Fa x.pieces 0 [] (λy _ n hn=>HX hh y hn) (by simp)
 rw[e1]at hn;have:=aaT hn (by simp);exact⟨by simpa using this.1,this.2⟩
theorem ank{x:ai}{h:List Int}(hh:wz x h){ns:List Nat}(hn:ns∈fS x (cH h)):hO x (cH h) ns=pk h (ns.map λi:Nat=>h.headD 0+(i:Int)) x.aC []:=by
 obtain⟨h1,h2⟩:=amS hh hn;have Fa:oq h<=9:=by unfold oq;have:=hh.span;have:=hh.head;omega
 unfold hO;rw[<- h1];refine aa5 (by simp) x.aC 0 [] (λs _ p hp=> ?_) (by simp);have qU:ns.getD p 0=ns[p]:=by rw[SF,SV hp];rfl
 have hlt:=h2 ns[p] (Wr hp);have hg2:(ns.map λi:Nat=>h.headD 0+(i:Int)).getD p 0=h.headD 0+(ns[p]:Int):=by
  rw[SF,To,SV hp];rfl
 rw[qU,hg2,HX hh s (by omega),decide_eq_true hlt,U8]
def eA (t:Tr):List Int:=dx (cH t.bz) (t.aA.map λn=>(n-t.bz.headD 0).toNat) t.bY
theorem acR{x:ai}{h:List Int}(hh:wz x h){ns:List Nat}(hn:ns∈fS x (cH h)):(De x h (ns.map λi:Nat=>h.headD 0+(i:Int))).map eA=(hO x (cH h) ns).map (dx (cH h) ns):=by
 unfold De;rw[XW,ank hh hn];refine Vy λos _=> ?_;unfold eA;simp only[Wc,XW];congr 1
 conv=>rhs;rw[<- List.map_id ns]
 refine Vy λn _=> ?_;simp only[Wc,id];omega
theorem Be{α β:Type}{l:List α}{f g:α->List β}(h:∀a∈l,f a=g a):l.flatMap f=l.flatMap g:=by
 rw[WO,WO,Vy h]
theorem acB{α:Type}:∀ll:List (List α),(ll.map (·.take 1)).flatten.take 1=ll.flatten.take 1
 |[]=>rfl
 |[]::ll=>by simpa using acB ll
 |(a::l)::ll=>by simp
theorem aq4{x:ai}{h:List Int}{deep:Int}(hh:wz x h):jf x deep (cH h)=(rJ x deep h).map eA:=by
 have e2:(oz x h).map eA=(((fS x (cH h)).map λns=>(hO x (cH h) ns).map λos=>dx (cH h) ns os)).flatten:=by
  unfold oz;rw[aaN hh,WM,Vs,<- WO];exact Be λns hn=>acR hh hn
 have e1:(uL x h).map eA=(((fS x (cH h)).map λns=>(hO x (cH h) ns).map λos=>dx (cH h) ns os).map (·.take 1)).flatten:=by
  unfold uL;rw[aaN hh,WM,Vs,XW,<- WO];refine Be λns hn=> ?_;simp only[Wc];rw[VS,acR hh hn]
 unfold jf rJ;dsimp only;split
 ·rw[VS,e1,acB]
 ·split
  ·exact e1.symm
  ·exact e2.symm
end Go.Gg.Tk
namespace Go.Gg.Tk
theorem zf{x:ai}:∀(d:Nat)(pre h:List Int),pre≠[]->h∈kv x d pre->h.length=pre.length+d/\h.headD 0=pre.headD 0
 |0,pre,h,_,hm=>by
  unfold kv at hm;split at hm
  ·rw[S8]at hm;subst hm;exact⟨rfl,rfl⟩
  ·cases hm
 |d+1,pre,h,hp,hm=>by
  unfold kv at hm;split at hm
  ·obtain⟨n,_,hm⟩:=S7.1 hm;obtain⟨h1,h2⟩:=zf d _ h (by simp) hm;refine⟨by rw[h1];simp;omega,h2.trans ?_⟩
   match pre,hp with
   |a::l,_=>rfl
  ·cases hm
theorem QR{x:ai}{t:Nat}(hx:x.Ok)(ht:t<x.am.toNat+1){h:List Int}(hm:h∈vI x t):wz x h:=by
 have hh:=hx.hours;have Fj:cH h∈kx x t:=by rw[QW hh.1 ht];exact Tm.2 ⟨h,hm,rfl⟩
 have h4:=QP hx Fj;unfold vI at hm;split at hm
 ·obtain⟨h1,h2⟩:=zf _ _ _ (by simp) hm;have oU:2<=h.length:=by rw[h1];simp
  have EV:h.length<=4:=by rw[h1];simp;omega
  have yO:h.headD 0=x.first:=h2;refine⟨oU,EV,yO,?_,h4⟩;have:=h4.span;rw[aba oU,abb oU EV,yO]at this;exact this
 ·cases hm
theorem ac2{x:ai}{deep:Int}(hx:x.Ok):((S0 (x.am.toNat+1)).flatMap λt=>G6 x deep t)=(aL x).flatMap (rJ x deep):=by
 unfold G6;rw[<- ajR hx.hours.1,List.flatMap_assoc]
end Go.Gg.Tk
namespace Go.Gg.Tk
theorem ad8{l:List Nat}{i v p n:Nat}(hi:i<l.length):((oG l i v).getD p 0).testBit n=((l.getD p 0).testBit n||(decide (p=i)&&decide (n=v))):=by
 unfold oG;rw[SF,UI];by_cases h:i=p
 ·subst h;rw[if_pos rfl,if_pos hi,S9,Xk,VM];simp[eq_comm]
 ·rw[if_neg h,<- SF];have:¬p=i:=λe=>h e.symm;simp[this]
def rY (v:Nat->Nat):Nat->List Nat->List Nat
 |0,l=>l
 |k+1,l=>oG (rY v k l) k (v k)
theorem aaR(t:List Int)(l:List Nat):∀k,rz t k l=rY (mi t) k l
 |0=>rfl
 |k+1=>by rw[rz,rY,aaR t l k]
theorem abc(t:List Int)(l:List Nat):∀k,mM t k l=rY (rG t) k l
 |0=>rfl
 |k+1=>by rw[mM,rY,abc t l k]
theorem NF(v:Nat->Nat)(l:List Nat):∀k,(rY v k l).length=l.length
 |0=>rfl
 |k+1=>by rw[rY,AW,NF v l k]
theorem HI{v:Nat->Nat}{l:List Nat}{p n:Nat}:∀k,k<=l.length->((rY v k l).getD p 0).testBit n=((l.getD p 0).testBit n||(decide (p<k)&&decide (n=v p)))
 |0,_=>by simp[rY]
 |k+1,h=>by
  rw[rY,ad8 (by rw[NF];omega),HI k (by omega)];by_cases hp:p=k
  ·subst hp;simp
  ·have e:(p<k+1)<->p<k:=(by omega);simp[hp,e]
theorem aa2{l m:List Nat}{p n:Nat}(h:l.length=m.length):((lL l m).getD p 0).testBit n=((l.getD p 0).testBit n||(m.getD p 0).testBit n):=by
 unfold lL;rw[SF,List.getElem?_zipWith,SF,SF];by_cases hp:p<l.length
 ·rw[SV hp,SV (by omega)];simp[Xk]
 ·rw[Uu (by omega),Uu (by omega)];simp
theorem abj{hs:List (List Int)}{h g:List Int}:g∈jA hs h<->g∈hs\/g=h:=by
 unfold jA;split
 ·rename_i hm;exact⟨.inl,λe=>e.elim id λe=>e▸hm⟩
 ·rw[SS,S8]
theorem PB{g:List Int}:∀{l hs:List (List Int)},g∈l.foldl jA hs<->g∈hs\/g∈l
 |[],hs=>by simp
 |a::l,hs=>by
  rw[UW,PB,abj,SL,or_assoc]
theorem aff(Q:Kn)(t:List Int):(jJ Q t).has=true:=by
 unfold jJ;cases h:Q.has
 ·rfl
 ·rw[if_pos rfl];exact h
theorem acD(x:ai)(deep:Int)(Q:Kn)(t:List Int):(ey x deep Q t).has=true:=by
 have:=aff Q t;unfold ey;dsimp only;split
 ·exact this
 ·split<;>exact this
theorem PG{x:ai}{deep:Int}:∀(ts:List (List Int))(Q:Kn),(ts.foldl (ey x deep) Q).has=(Q.has|| !ts.isEmpty)
 |[],Q=>by simp
 |t::ts,Q=>by rw[UW,PG ts,acD];simp
theorem ald{F G:Kn}{hs:List (List Int)}:(gM F hs G).has=(F.has||G.has):=by
 unfold gM;cases h:G.has
 ·simp
 ·simp
end Go.Gg.Tk
namespace Go.Gg.Tk
theorem aqz{x:ai}{Q:Kn}{t g:List Int}:g∈(ey x 0 Q t).aL<->g∈Q.aL\/g=t.take 4:=by
 have hB:(jJ Q t).aL=Q.aL:=by unfold jJ;split<;>rfl
 unfold ey;dsimp only;rw[if_neg (by decide),if_pos rfl,abj,hB]
theorem PD{x:ai}{g:List Int}:∀(ts:List (List Int))(Q:Kn),g∈(ts.foldl (ey x 0) Q).aL<->g∈Q.aL\/∃t∈ts,g=t.take 4
 |[],Q=>by simp
 |t::ts,Q=>by
  rw[UW,PD ts,aqz];constructor
  ·rintro((h|h)|⟨u,h1,h2⟩)
   ·exact .inl h
   ·exact .inr ⟨t,by simp,h⟩
   ·exact .inr ⟨u,by simp[h1],h2⟩
  ·rintro(h|⟨u,h1,h2⟩)
   ·exact .inl (.inl h)
   ·rcases SL.1 h1 with rfl|h1
    ·exact .inl (.inr h2)
    ·exact .inr ⟨u,h1,h2⟩
def eR (x:ai)(deep:Int)(j:Nat):List (List Int):=(kx x j).flatMap (jf x deep)
theorem G5(x:ai)(deep:Int)(j:Nat):gF x deep j=(eR x deep j).foldl (ey x deep) Kn.zero:=rfl
theorem Dj(x:ai)(deep:Int)(j:Nat):(gF x deep j).has= !(eR x deep j).isEmpty:=by
 rw[G5,PG];rfl
theorem art{x:ai}{j:Nat}{g:List Int}:g∈(gF x 0 j).aL<->∃t∈eR x 0 j,g=t.take 4:=by
 rw[G5,PD];simp[Kn.zero]
theorem Sm{x:ai}{deep:Int}{js:List Nat}{D:Kn}(h:nM x deep js D):D.has=js.any λj=> !(eR x deep j).isEmpty:=by
 induction h with
 |nil=>rfl
 |snoc h hp ih=>rw[ald,ih,Dj,Zw];simp
theorem ale{x:ai}{js:List Nat}{D:Kn}{g:List Int}(h:nM x 0 js D):g∈D.aL<->∃j∈js,∃t∈eR x 0 j,g=t.take 4:=by
 induction h with
 |nil=>simp[Kn.zero]
 |@snoc js F j hs h hp ih=>
  have key:g∈(gM F hs (gF x 0 j)).aL<->g∈F.aL\/∃t∈eR x 0 j,g=t.take 4:=by
   unfold gM;split
   ·show g∈hs.foldl jA F.aL<->_;rw[PB,hp.mem_iff,art]
   ·rename_i hn;rw[Dj]at hn;have:eR x 0 j=[]:=(by simpa using hn);rw[this];simp
  rw[key,ih];constructor
  ·rintro(⟨i,h1,h2⟩|h2)
   ·exact⟨i,by simp[h1],h2⟩
   ·exact⟨j,by simp,h2⟩
  ·rintro⟨i,h1,h2⟩
   rcases SS.1 h1 with h1|h1
   ·exact .inl ⟨i,h1,h2⟩
   ·rw[S8.1 h1]at h2;exact .inr h2
theorem PC:∀{l hs:List (List Int)},hs.Nodup->(l.foldl jA hs).Nodup
 |[],hs,h=>h
 |a::l,hs,h=>by rw[UW];exact PC (abk h)
theorem alg{x:ai}{deep:Int}{js:List Nat}{D:Kn}(h:nM x deep js D):D.aL.Nodup:=by
 induction h with
 |nil=>exact WJ
 |snoc h hp ih=>
  unfold gM;split
  ·exact PC ih
  ·exact ih
end Go.Gg.Tk
namespace Go.Gg.Tk
theorem Er{x:ai}{deep:Int}{t:Nat}(hx:x.Ok)(ht:t<x.am.toNat+1):eR x deep t=(G6 x deep t).map eA:=by
 unfold eR G6;rw[QW hx.hours.1 ht,WM,Vs];exact Be λh hm=>aq4 (QR hx ht hm)
def oH (x:ai)(deep:Int):List Tr:=(aL x).flatMap (rJ x deep)
theorem zD{x:ai}{deep:Int}{js:List Nat}{p:Nat}(hx:x.Ok)(hp:x.am=p)(ij:js.Perm (S0 (p+1))){t:List Int}:(∃j∈js,t∈eR x deep j)<->∃u∈oH x deep,t=eA u:=by
 have ny:x.am.toNat=p:=by omega
 unfold oH;rw[<- ac2 hx,ny];constructor
 ·rintro⟨j,h1,h2⟩
  have hj:=ij.mem_iff.1 h1;rw[Er hx (by rw[ny];simpa using hj)]at h2;obtain⟨u,h3,rfl⟩:=Tm.1 h2;exact⟨u,S7.2 ⟨j,hj,h3⟩,rfl⟩
 ·rintro⟨u,h1,rfl⟩
  obtain⟨j,hj,h3⟩:=S7.1 h1;refine⟨j,ij.mem_iff.2 hj,?_⟩;rw[Er hx (by rw[ny];simpa using hj)];exact Tm.2 ⟨u,h3,rfl⟩
theorem Dd{x:ai}{deep:Int}{h:List Int}{u:Tr}(hu:u∈rJ x deep h):u∈oz x h:=by
 have h1:∀u,u∈uL x h->u∈oz x h:=λu hu=>by
  unfold uL at hu;obtain⟨ns,h1,h2⟩:=S7.1 hu;exact S7.2 ⟨ns,h1,Wq h2⟩
 unfold rJ at hu;split at hu
 ·exact h1 u (Wq hu)
 ·split at hu
  ·exact h1 u hu
  ·exact hu
theorem yb{x:ai}{h:List Int}{u:Tr}(hu:u∈oz x h):u.bz=h:=by
 obtain⟨ns,_,h2⟩:=S7.1 hu;obtain⟨os,_,rfl⟩:=Tm.1 h2;rfl
theorem Py{α β:Type}{f:α->List β}:∀{l:List α},(l.flatMap λa=>(f a).take 1)=[]<->l.flatMap f=[]
 |[]=>by simp
 |a::l=>by
  rw[Ui,Ui,YA,YA,Py,YM];simp
theorem acQ{x:ai}{deep:Int}{h:List Int}:rJ x deep h=[]<->oz x h=[]:=by
 have h1:uL x h=[]<->oz x h=[]:=Py;unfold rJ;split
 ·rw[YM,h1];simp
 ·split
  ·exact h1
  ·exact Iff.rfl
theorem aeg{x:ai}{deep:Int}:oH x deep=[]<->cp x=[]:=by
 unfold oH cp;rw[WN,WN];exact forall_congr' λh=>forall_congr' λ_=>acQ
theorem aei{x:ai}{deep:Int}{js:List Nat}:(js.any λj=> !(eR x deep j).isEmpty)=true<->∃t,∃j∈js,t∈eR x deep j:=by
 rw[UL];constructor
 ·rintro⟨j,h1,h2⟩
  cases hg:eR x deep j with
  |nil=>rw[hg]at h2;cases h2
  |cons t l=>exact⟨t,j,h1,by rw[hg];simp⟩
 ·rintro⟨t,j,h1,h2⟩
  refine⟨j,h1,?_⟩;cases hg:eR x deep j with
  |nil=>rw[hg]at h2;cases h2
  |cons=>rfl
end Go.Gg.Tk
namespace Go.Gg
open Go.Gg.Tk
theorem FS{x:ai}{deep:Int}{D:Kn}(hx:x.Ok)(h:fG x deep D):D.has= !(cp x).isEmpty:=by
 obtain⟨p,js,h1,h2,h3,_⟩:=h;rw[Sm h3,Vk,aei];have key:(∃t,∃j∈js,t∈eR x deep j)<->oH x deep≠[]:=by
  constructor
  ·rintro⟨t,h⟩ he
   obtain⟨u,hu,_⟩:=(zD hx h1 h2).1 h;rw[he]at hu;cases hu
  ·intro aG;obtain⟨u,hu⟩:=WF _ aG;exact⟨eA u,(zD hx h1 h2).2 ⟨u,hu,rfl⟩⟩
 rw[key,ne_eq,aeg];cases cp x<;>simp
theorem aln{x:ai}{D:Kn}(hx:x.Ok)(h:fG x 0 D){g:List Int}:g∈D.aL<->∃u∈cp x,g=(eA u).take 4:=by
 obtain⟨p,js,h1,h2,h3,_⟩:=h;rw[ale h3];have e:(∃j∈js,∃t∈eR x 0 j,g=t.take 4)<->∃t,(∃j∈js,t∈eR x 0 j)/\g=t.take 4:=by
  constructor
  ·rintro⟨j,a,t,b,c⟩;exact⟨t,⟨j,a,b⟩,c⟩
  ·rintro⟨t,⟨j,a,b⟩,c⟩;exact⟨j,a,t,b,c⟩
 rw[e];have aF:∀u:Tr,u∈cp x->(eA u).take 4=cH u.bz:=λu hu=>by
  obtain⟨h,hm,lI⟩:=S7.1 hu;have hl:h.length=1+x.hours.toNat:=(zf _ _ _ (by simp) hm).1;have hh:=hx.hours;have h4:(cH u.bz).length=4:=by
   rw[yb lI];simp[cH];omega
  unfold eA dx;rw[SD,Tx (by omega),SW (by omega)]
 have lG:∀u,u∈oH x 0->u∈cp x:=λu hu=>by
  obtain⟨h,a,b⟩:=S7.1 hu;exact S7.2 ⟨h,a,Dd b⟩
 constructor
 ·rintro⟨t,a,rfl⟩
  obtain⟨u,hu,rfl⟩:=(zD hx h1 h2).1 a;exact⟨u,lG u hu,rfl⟩
 ·rintro⟨u,hu,rfl⟩
  obtain⟨h,hm,lI⟩:=S7.1 hu;have aG:rJ x 0 h≠[]:=λe=>by
   rw[acQ]at e;rw[e]at lI;cases lI
  obtain⟨v,hv⟩:=WF _ aG;have sQ:v∈oH x 0:=S7.2 ⟨h,hm,hv⟩;refine⟨eA v,(zD hx h1 h2).2 ⟨v,sQ,rfl⟩,?_⟩;rw[aF u hu,aF v (lG v sQ),yb lI,yb (Dd hv)]
end Go.Gg
namespace Go.Gg.Tk
theorem N6(Q:Kn)(t:List Int):(jJ Q t).aA=Q.aA/\(jJ Q t).hours=Q.hours/\(jJ Q t).less=Q.less/\(jJ Q t).aT=Q.aT:=by
 unfold jJ;split<;>exact⟨rfl,rfl,rfl,rfl⟩
theorem aqA{x:ai}{Q:Kn}{t:List Int}{p n:Nat}(hx:x.Ok)(hQ:bI Q)(hp:p<x.pieces.length):((ey x 1 Q t).aA.getD p 0).testBit n=((Q.aA.getD p 0).testBit n||decide (n=mi t p)):=by
 have h:(ey x 1 Q t).aA=rz t x.pieces.length Q.aA:=by
  rw[<- (N6 Q t).1];rfl
 rw[h,aaR,HI _ (by rw[hQ.aA];exact hx.c_),decide_eq_true hp,U8]
theorem aqB{x:ai}{Q:Kn}{t:List Int}{s n:Nat}(hx:x.Ok)(hQ:bI Q)(hs:s<x.aC.length):((ey x 2 Q t).aT.getD s 0).testBit n=((Q.aT.getD s 0).testBit n||decide (n=rG t s)):=by
 have h:(ey x 2 Q t).aT=mM t x.aC.length Q.aT:=by
  rw[<- (N6 Q t).2.2.2];rfl
 rw[h,abc,HI _ (by rw[hQ.aT];exact hx.eF),decide_eq_true hs,U8]
theorem PE{x:ai}{deep:Int}(hx:x.Ok){f:Kn->Bool}{g:List Int->Bool}(h:∀Q t,bI Q->jj x t->f (ey x deep Q t)=(f Q||g t)):∀(ts:List (List Int))(Q:Kn),bI Q->(∀t∈ts,jj x t)->f (ts.foldl (ey x deep) Q)=(f Q||ts.any g)
 |[],Q,_,_=>by simp
 |t::ts,Q,hQ,ht=>by
  rw[UW,PE hx h ts _ (MT hx (ht t (by simp)) hQ) (λu hu=>ht u (by simp[hu])),h Q t hQ (ht t (by simp)),YP,Bool.or_assoc]
theorem PS{x:ai}{deep:Int}{j:Nat}(hx:x.Ok)(hj:j<=3){t:List Int}(ht:t∈eR x deep j):jj x t:=by
 obtain⟨h,h1,h2⟩:=S7.1 ht;obtain⟨ns,h3,h4⟩:=M1 h2;exact((Dc hx) j hj h h1).2 ns h3 t h4
theorem alf{x:ai}{deep:Int}(hx:x.Ok){f:Kn->Bool}{g:List Int->Bool}(h0:f Kn.zero=false)(h:∀Q t,bI Q->jj x t->f (ey x deep Q t)=(f Q||g t))(hj:∀F G hs,bI F->bI G->G.has=true->f (gM F hs G)=(f F||f G)){js:List Nat}{D:Kn}(ij:∀j∈js,j<=3)(hD:nM x deep js D):bI D/\f D=js.any λj=>(eR x deep j).any g:=by
 induction hD with
 |nil=>exact⟨Cx,by simpa using h0⟩
 |@snoc js F j hs hJ hp ih=>
  obtain⟨mI,ld⟩:=ih λi hi=>ij i (by simp[hi]);have QX:j<=3:=ij j (by simp);have ay:bI (gF x deep j):=M9 hx ((Dc hx) j QX);refine⟨Sj mI ay hp,?_⟩;have hw:f (gF x deep j)=(eR x deep j).any g:=by
   rw[G5,PE hx h _ _ Cx (λt ht=>PS hx QX ht),h0,XR]
  rw[Zw,<- ld];simp only[YP,List.any_nil,ZT];cases hG:(gF x deep j).has with
  |true=>rw[hj F _ hs mI ay hG,hw]
  |false=>
   have hn:eR x deep j=[]:=by
    rw[Dj]at hG;simpa using hG
   rw[hn];unfold gM;rw[hG];simp
end Go.Gg.Tk
namespace Go.Gg
open Go.Gg.Tk
theorem Sq{x:ai}{deep:Int}(hx:x.Ok){f:Kn->Bool}{g:List Int->Bool}(h0:f Kn.zero=false)(h:∀Q t,bI Q->jj x t->f (ey x deep Q t)=(f Q||g t))(hj:∀F G hs,bI F->bI G->G.has=true->f (gM F hs G)=(f F||f G)){D:Kn}(hD:fG x deep D):f D=true<->∃u∈oH x deep,g (eA u)=true:=by
 obtain⟨p,js,h1,h2,h3,_⟩:=hD;have hp:=hx.am;have ij:∀j∈js,j<=3:=λj hm=>by
  have:=h2.mem_iff.1 hm;rw[TG]at this;omega
 rw[(alf hx h0 h hj ij h3).2,UL];constructor
 ·rintro⟨j,a,b⟩
  obtain⟨t,c,d⟩:=UL.1 b;obtain⟨u,hu,rfl⟩:=(zD hx h1 h2).1 ⟨j,a,c⟩;exact⟨u,hu,d⟩
 ·rintro⟨u,hu,d⟩
  obtain⟨j,a,c⟩:=(zD hx h1 h2).2 ⟨u,hu,rfl⟩;exact⟨j,a,UL.2 ⟨_,c,d⟩⟩
theorem alp{x:ai}{D:Kn}{s n:Nat}(hx:x.Ok)(hD:fG x 2 D)(hs:s<x.aC.length):(D.aT.getD s 0).testBit n=true<->∃u∈cp x,rG (eA u) s=n:=by
 have aP:=hx.eF;have e:oH x 2=cp x:=rfl;rw[<- e,Sq (f:=λK=>(K.aT.getD s 0).testBit n) (g:=λt=>decide (n=rG t s)) hx ?_ (λQ t hQ _=>aqB hx hQ hs) (λF G oZ hF hG hh=> ?_) hD]
 ·exact exists_congr λu=>and_congr_right λ_=>by rw[decide_eq_true_eq];exact eq_comm
 ·have:([0,0,0]:List Nat).getD s 0=0:=by
   match s,(show s<3 by omega)with
   |0,_=>rfl
   |1,_=>rfl
   |2,_=>rfl
  show (([0,0,0]:List Nat).getD s 0).testBit n=false;rw[this];exact Zs n
 ·have e2:(gM F oZ G).aT=lL F.aT G.aT:=by unfold gM;rw[if_pos hh]
  rw[e2];exact aa2 (by rw[hF.aT,hG.aT])
theorem aee{x:ai}{P:List Int->List Int->Prop}:(∃u∈oH x 1,P u.bz u.aA)<->∃u∈cp x,P u.bz u.aA:=by
 constructor
 ·rintro⟨u,hu,hp⟩
  obtain⟨h,a,b⟩:=S7.1 hu;exact⟨u,S7.2 ⟨h,a,Dd b⟩,hp⟩
 ·rintro⟨u,hu,hp⟩
  obtain⟨h,a,b⟩:=S7.1 hu;obtain⟨ns,c,d⟩:=S7.1 b;obtain⟨os,c2,rfl⟩:=Tm.1 d;cases ho:pk h ns x.aC []with
  |nil=>rw[ho]at c2;cases c2
  |cons o os'=>
   refine⟨⟨h,ns,o⟩,S7.2 ⟨h,a,?_⟩,hp⟩;show _∈uL x h;refine S7.2 ⟨ns,c,?_⟩;unfold De;rw[ho];simp
theorem aaQ{h:List Int}:∀{ys:List aB}{t ns:List Int},ns∈mL h ys t->ns.length=t.length+ys.length
 |[],t,ns,hm=>by
  simp only[mL,S8]at hm;subst hm;rfl
 |y::ys,t,ns,hm=>by
  simp only[mL,S7]at hm;obtain⟨n,_,hm⟩:=hm;have:=aaQ hm;simp at this⊢;omega
theorem wm{x:ai}(hx:x.Ok){u:Tr}(hu:u∈cp x):u.bz.length=1+x.hours.toNat/\u.aA.length=x.pieces.length:=by
 obtain⟨h,a,b⟩:=S7.1 hu;obtain⟨ns,c,d⟩:=S7.1 b;obtain⟨os,_,rfl⟩:=Tm.1 d;exact⟨(zf _ _ _ (by simp) a).1,by simpa using aaQ c⟩
theorem xV{h:List Int}(h4:h.length<=4):(cH h).length=4:=by simp[cH];omega
theorem agB{x:ai}(hx:x.Ok){u:Tr}(hu:u∈cp x){p:Nat}(hp:p<x.pieces.length):mi (eA u) p=(u.aA.getD p 0-u.bz.headD 0).toNat:=by
 obtain⟨h1,h2⟩:=wm hx hu;have hh:=hx.hours;have h4:=xV (h:=u.bz) (by omega);have dl:p<u.aA.length:=by omega
 have hg:(eA u)[4+p]?=some (((u.aA[p]-u.bz.headD 0).toNat:Nat):Int):=by
  unfold eA dx lg;rw[SD,Tj (by omega),h4,U6,SZ (by simp;omega),SZ (by simpa using dl),To,To,SV dl];rfl
 unfold mi;rw[SF,hg,SF,SV dl];rfl
theorem arG{p:Nat}(hp:p<4):([0,0,0,0]:List Nat).getD p 0=0:=by
 match p,hp with
 |0,_=>rfl
 |1,_=>rfl
 |2,_=>rfl
 |3,_=>rfl
theorem alo{x:ai}{D:Kn}{p n:Nat}(hx:x.Ok)(hD:fG x 1 D)(hp:p<x.pieces.length):(D.aA.getD p 0).testBit n=true<->∃u∈cp x,(u.aA.getD p 0-u.bz.headD 0).toNat=n:=by
 have nw:=hx.c_;rw[Sq (f:=λK=>(K.aA.getD p 0).testBit n) (g:=λt=>decide (n=mi t p)) hx ?_ (λQ t hQ _=>aqA hx hQ hp) (λF G oZ hF hG hh=> ?_) hD]
 ·rw[<- aee (P:=λh ns=>(ns.getD p 0-h.headD 0).toNat=n)];refine exists_congr λu=>and_congr_right λhu=> ?_;obtain⟨h,a,b⟩:=S7.1 hu;have hu2:u∈cp x:=S7.2 ⟨h,a,Dd b⟩;rw[decide_eq_true_eq,agB hx hu2 hp];exact eq_comm
 ·show (([0,0,0,0]:List Nat).getD p 0).testBit n=false;rw[arG (by omega)];exact Zs n
 ·have e2:(gM F oZ G).aA=lL F.aA G.aA:=by unfold gM;rw[if_pos hh]
  rw[e2];exact aa2 (by rw[hF.aA,hG.aA])
theorem aaP{h:List Int}:∀{ys:List aB}{t ns:List Int},ns∈mL h ys t->(∀n∈t,h.headD 0<=n)->∀n∈ns,h.headD 0<=n
 |[],t,ns,hm,ht=>by
  simp only[mL,S8]at hm;subst hm;exact ht
 |y::ys,t,ns,hm,ht=>by
  simp only[mL,S7,Un]at hm;obtain⟨n,⟨hn,_⟩,hm⟩:=hm;refine aaP hm λk hk=> ?_;rcases SS.1 hk with h'|h'
  ·exact ht k h'
  ·rw[S8.1 h'];obtain⟨i,_,rfl⟩:=Tm.1 hn;omega
theorem aq6{x:ai}{u:Tr}(hu:u∈cp x):∀n∈u.aA,u.bz.headD 0<=n:=by
 obtain⟨h,a,b⟩:=S7.1 hu;obtain⟨ns,c,d⟩:=S7.1 b;obtain⟨os,_,rfl⟩:=Tm.1 d;exact aaP c (by simp)
theorem agA{x:ai}(hx:x.Ok){u:Tr}(hu:u∈cp x){p:Nat}(hp:p<x.pieces.length):(eA u).getD (4+p) 0=u.aA.getD p 0-u.bz.headD 0:=by
 obtain⟨h1,h2⟩:=wm hx hu;have hh:=hx.hours;have h4:=xV (h:=u.bz) (by omega);have dl:p<u.aA.length:=by omega
 have ub:=aq6 hu u.aA[p] (Wr dl);have hg:(eA u)[4+p]?=some (((u.aA[p]-u.bz.headD 0).toNat:Nat):Int):=by
  unfold eA dx lg;rw[SD,Tj (by omega),h4,U6,SZ (by simp;omega),SZ (by simpa using dl),To,To,SV dl];rfl
 rw[SF,hg,SF,SV dl];simp only[S9];omega
namespace Tk
structure Au (x:ai)(u:Tr):Prop where
 bz:mQ x.first x.am u.bz x.hours.toNat
 seen:∀s∈x.seen,j8 s.next (u.bz.getD s.hour.toNat 0)=true
 uE:u.aA.length=x.pieces.length
 piece:∀(p:Nat) y,x.pieces[p]?=some y->fits u.bz y (u.aA.getD p 0)=true
 CN:u.aA.Nodup
 v9:u.bY.length=x.aC.length
 own:∀v∈u.bY,v<x.pieces.length
 stub:∀(s:Nat) y,x.aC[s]?=some y->fits u.bz y (u.aA.getD (u.bY.getD s 0) 0)=true
 CR:u.bY.Nodup
theorem _root_.Go.Gg.mQ.mono{first am:Int}{l:List Int}{i:Nat}(h:mQ first am l i):tw l:=amE λj hj=>(h.step j (by have:=h.len;omega)).1
theorem ajQ{x:ai}(hx:x.Ok){h:List Int}:h∈aL x<->mQ x.first x.am h x.hours.toNat/\∀s∈x.seen,j8 s.next (h.getD s.hour.toNat 0)=true:=by
 have hp:=hx.am;unfold aL;rw[J7 _ _ _ (by simp)];simp only[T7];constructor
 ·rintro⟨h1,h2,h3⟩
  have h4:=(GP (pre:=[]) (v:=x.first)).1 h2;refine⟨⟨by omega,h4.2.2,λj hj=> ?_⟩,λs hs=> ?_⟩
  ·obtain⟨n,hn,e⟩:=(h3 j (by omega) (by omega)).2 (by omega);omega
  ·have hsr:=(hx.seen s hs).1;have:=(h3 s.hour.toNat (by omega) (by omega)).1;unfold rD at this;have:=Tw.1 this s hs;have e:s.hour=(s.hour.toNat:Int):=(by omega);rw[<- e]at this;simpa using this
 ·rintro⟨h1,h2⟩
  have hl:=h1.len;refine⟨by omega,(GP (pre:=[]) (v:=x.first)).2 ⟨rfl,by simp;omega,h1.head⟩,λj _ hj=>⟨?_,λEZ=> ?_⟩⟩
  ·unfold rD;rw[Tw];intro s hs;by_cases e:s.hour=(j:Int)
   ·have:=h2 s hs;rw[show s.hour.toNat=j by omega]at this;rw[this];simp
   ·simp[e]
  ·have:=h1.step j (by omega);exact⟨(h.getD (j+1) 0-h.getD j 0).toNat,by omega,by omega⟩
theorem aq8{x:ai}{u:Tr}:u∈cp x<->u.bz∈aL x/\u.aA∈mL u.bz x.pieces []/\u.bY∈pk u.bz u.aA x.aC []:=by
 constructor
 ·intro hu;obtain⟨h,a,b⟩:=S7.1 hu;obtain⟨ns,c,d⟩:=S7.1 b;obtain⟨os,e,rfl⟩:=Tm.1 d;exact⟨a,c,e⟩
 ·rintro⟨a,b,c⟩
  exact S7.2 ⟨u.bz,a,S7.2 ⟨u.aA,b,Tm.2 ⟨u.bY,c,rfl⟩⟩⟩
theorem aiN{l:List Nat}{i:Nat}(h:i<l.length):l.getD i 0∈l:=by
 rw[SF,SV h];exact Wr h
theorem CG{x:ai}(hx:x.Ok){u:Tr}:u∈cp x<->Au x u:=by
 rw[aq8,ajQ hx];constructor
 ·rintro⟨⟨h1,h2⟩,h3,h4⟩
  have hm:=h1.mono;rw[Gc hm]at h3;rw[Gq]at h4;simp only[UQ,Wp]at h3 h4;obtain⟨a1,_,a3⟩:=h3;obtain⟨b1,_,b3⟩:=h4;refine⟨h1,h2,a1,λp y hy=>(a3 p y hy).1,aaH (d:=0) λi hi=> ?_,b1,λv hv=> ?_,λs y hy=>(b3 s y hy).1,aaH (d:=0) λi hi=> ?_⟩
  ·obtain⟨y,hy⟩:∃y,x.pieces[i]?=some y:=⟨_,SV (by omega)⟩;exact(a3 i y hy).2
  ·obtain⟨i,hi⟩:=VD hv;have bx:=(SM.1 hi).1;obtain⟨y,hy⟩:∃y,x.aC[i]?=some y:=⟨_,SV (by omega)⟩;have:=(b3 i y hy).2.1;rw[SF,hi]at this;rw[<- a1];exact this
  ·obtain⟨y,hy⟩:∃y,x.aC[i]?=some y:=⟨_,SV (by omega)⟩;exact(b3 i y hy).2.2
 ·intro h;refine⟨⟨h.bz,h.seen⟩,?_,?_⟩
  ·rw[Gc h.bz.mono];simp only[UQ,Wp];refine⟨h.uE,rfl,λi y hy=>⟨h.piece i y hy,PO ?_ h.CN⟩⟩;have:=(SM.1 hy).1;rw[h.uE];exact this
  ·rw[Gq];simp only[UQ,Wp];refine⟨h.v9,rfl,λi y hy=> ?_⟩;have hi:=(SM.1 hy).1;have uc:i<u.bY.length:=(by rw[h.v9];exact hi);exact⟨h.stub i y hy,by rw[h.uE];exact h.own _ (aiN uc),PO uc h.CR⟩
end Tk
open Go.Gg.Tk
theorem Sx{first am:Int}{l:List Int}{i:Nat}(h:mQ first am l i):l.getLastD 0=l.getD i 0:=by
 have hl:=h.len;rw[Vf,Yc,SF,hl];rfl
theorem EQ{first am:Int}{l:List Int}{i:Nat}(h:mQ first am l i):l.headD 0=first:=by
 have hl:=h.len;have:=h.head;cases l with
 |nil=>cases hl
 |cons a l=>exact this
theorem mQ.top{first am:Int}{l:List Int}{i:Nat}(h:mQ first am l i)(hf:0<=first/\first<=90)(hp:1<=am/\am<=3)(hi:i<=3):∀j,j<=i->first<=l.getD j 0/\l.getD j 0<=first+9:=λj hj=>by
 have h1:=h.ge (by omega) j hj;have:am* (j:Int)<=3* 3:=Ye (by omega) (by omega) (by omega) (by omega);generalize am* (j:Int)=q at h1 this;omega
theorem ai5{first am:Int}{l:List Int}{i:Nat}(h:mQ first am l i)(hi:1<=i/\i<=3)(hf:0<=first/\first<=90)(hp:1<=am/\am<=3){n:Int}(hn:first<=n/\n<l.getD i 0)(τ:bp):DC l i n (lz τ l n i):=by
 have hl:=h.len;have hm:=h.mono;have ht:=h.top hf hp hi.2 i (SP _);have hk:=aqV (n:=n) (by omega) (by omega) hm;have h0:0<=je l n:=(MZ hm).2 (by rw[EQ h,Sx h];exact hn);have h1:=acM l 0 h0;have I9:je l n+1<l.length:=by have:ft 0 l n=je l n:=rfl;omega
 have a1:=DX (τ:=τ) (n:=n) (m:=2) (lo:=0) (hi:=99) (by omega) (by omega);have a2:=DX (τ:=tick (tick τ)) (n:=je l n) (m:=1) (lo:=0) (hi:=(i:Int)-1) (by omega) (by omega);refine⟨a1.1,?_,?_⟩
 ·unfold lz;rw[hk];exact a2.1
 ·unfold Tk.fits lz;rw[hk,Tc,Tc,decide_eq_true_eq];exact⟨⟨h0,a1.2⟩,a2.2⟩
variable {pm:Nat}{x:ai}{bz aA bY:List Int}
theorem Made.Ql(h:Made pm x bz aA bY){n:Int}(hn:n∈aA)(τ:bp):DC bz x.hours n (lz τ bz n x.hours):=by
 have hh:=h.hours;have:=ai5 h.EY (by omega) h.first h.am (h.num n hn) τ;rw[Int.toNat_of_nonneg (by omega)]at this;exact this
theorem I6{l:List Int}{i:Nat}(h:i<l.length):l.getD i 0∈l:=by
 rw[SF,SV h];exact Wr h
theorem Made.NN(h:Made pm x bz aA bY){p:Nat}{y:aB}(hy:x.pieces[p]?=some y):DC bz x.hours (aA.getD p 0) y:=by
 obtain⟨τ,rfl⟩:=h.piece p y hy;exact h.Ql (I6 (by rw[h.uE];exact(SM.1 hy).1)) τ
theorem Made.NO(h:Made pm x bz aA bY){s:Nat}{y:aB}(hy:x.aC[s]?=some y):DC bz x.hours (aA.getD (bY.getD s 0).toNat 0) y:=by
 obtain⟨τ,rfl⟩:=h.stub s y hy;have hs:s<bY.length:=by rw[h.v9];exact(SM.1 hy).1
 have:=h.own _ (I6 hs);exact h.Ql (I6 (by omega)) τ
theorem Made.ok(h:Made pm x bz aA bY)(sK:pm<=4):x.Ok:=by
 have hh:=h.hours;refine⟨h.first,h.hours,h.am,by have:=h.wc;omega,by have:=h.amF;omega,h.aC,λs hs=> ?_,λy hy=> ?_,λy hy=> ?_⟩
 ·obtain⟨h1,h2,τ,h3⟩:=h.seen s hs;have ht:=h.EY.top h.first h.am (by omega) s.hour.toNat (by omega);have hf:=h.first;rw[h3];exact⟨⟨h1,h2⟩,(DX (by omega) (by omega)).1⟩
 ·obtain⟨p,hp⟩:=VD hy;have:=h.NN hp;exact⟨this.num,this.hour⟩
 ·obtain⟨p,hp⟩:=VD hy;have:=h.NO hp;exact⟨this.num,this.hour⟩
def abt (bz aA bY:List Int):Tr:=⟨bz,aA,bY.map X7⟩
theorem Made.aq3(h:Made pm x bz aA bY):Au x (abt bz aA bY):=by
 have hh:=h.hours;have oX:∀s,s<bY.length->(bY.map X7).getD s 0=(bY.getD s 0).toNat:=λs hs=>by
  rw[SF,SF,To,SV hs];rfl
 refine⟨h.EY,λs hs=> ?_,h.uE,λp y hy=>(h.NN hy).fits,h.CN,by show (bY.map X7).length=_;rw[Tn];exact h.v9,λv hv=> ?_,λs y hy=> ?_,?_⟩
 ·obtain⟨h1,h2,τ,h3⟩:=h.seen s hs;have ht:=h.EY.top h.first h.am (by omega) s.hour.toNat (by omega);have hf:=h.first;rw[h3];exact(DX (by show _<=bz.getD _ _/\_;omega) (by omega)).2
 ·obtain⟨w,hw,rfl⟩:=Tm.1 hv;have:=h.own w hw;have:=h.uE;omega
 ·have hs:s<bY.length:=by rw[h.v9];exact(SM.1 hy).1
  show Tk.fits bz y (aA.getD ((bY.map X7).getD s 0) 0)=true;rw[oX s hs];exact(h.NO hy).fits
 ·show (bY.map X7).Nodup;rw[Us,Xt];refine Xs ?_ (Us.1 h.CR);intro a c ha hc aG e;have h1:=h.own a ha;have h2:=h.own c hc;omega
theorem Made.mem(h:Made pm x bz aA bY)(sK:pm<=4):abt bz aA bY∈cp x:=(CG (h.ok sK)).2 h.aq3
theorem Made.ne(h:Made pm x bz aA bY)(sK:pm<=4):cp x≠[]:=λe=>by
 have:=h.mem sK;rw[e]at this;cases this
theorem aqC(x:ai)(deep:Int)(Q:Kn)(t:List Int):(ey x deep Q t).first=if Q.has=true then Q.first else t:=by
 have hB:(jJ Q t).first=if Q.has=true then Q.first else t:=by unfold jJ;split<;>rfl
 unfold ey;dsimp only;split
 ·exact hB
 ·split
  ·exact hB
  ·exact hB
theorem PF{x:ai}{deep:Int}:∀(ts:List (List Int))(Q:Kn),(ts.foldl (ey x deep) Q).first=if Q.has=true then Q.first else(match ts with|[]=>Q.first|t::_=>t)
 |[],Q=>by simp
 |t::ts,Q=>by
  rw[UW,PF ts,acD,if_pos rfl,aqC]
theorem aru{x:ai}{deep:Int}{j:Nat}{t:List Int}{l:List (List Int)}(h:eR x deep j=t::l):(gF x deep j).first=t:=by
 rw[G5,PF,h];rfl
theorem alc{Q G:Kn}{hs:List (List Int)}(h:G.has=true):(gM Q hs G).first=if Q.has=false\/sd G.first Q.first=true then G.first else Q.first:=by
 unfold gM;rw[if_pos h]
theorem ann{h:List Int}{a b:Int}(hl:h.take 2=[a,b]):(cH h).take 4=a::b::((cH h).drop 2).take 2:=by
 match h,hl with
 |c::d::l,hl=>
  simp only[VQ,ai',YO,and_true]at hl;obtain⟨rfl,rfl⟩:=hl;simp[cH]
theorem PT{x:ai}{deep:Int}{j:Nat}(hx:x.Ok)(hj:j<x.am.toNat+1){t:List Int}(ht:t∈eR x deep j):∃l,t.take 4=x.first::(x.first+(j:Int))::l:=by
 rw[Er hx hj]at ht;obtain⟨u,hu,rfl⟩:=Tm.1 ht;obtain⟨h,hm,hu⟩:=S7.1 hu;have hL:=QR hx hj hm;have lI:=yb (Dd hu);have h2:h.take 2=[x.first,x.first+(j:Int)]:=by
  unfold vI at hm;split at hm
  ·exact EX _ _ _ hm
  ·cases hm
 have e:(eA u).take 4=(cH h).take 4:=by
  unfold eA dx;rw[lI,SD,Tx (by rw[xV hL.hi];omega)]
 rw[e,ann h2];exact⟨_,rfl⟩
theorem aiP{x:ai}{deep:Int}{i j:Nat}(hx:x.Ok)(hi:i<x.am.toNat+1)(hj:j<x.am.toNat+1)(j6:i≠j){t u:List Int}(ht:t∈eR x deep i)(hu:u∈eR x deep j):sd t u=decide (i<j):=by
 obtain⟨l,h1⟩:=PT hx hi ht;obtain⟨m,h2⟩:=PT hx hj hu;have aG:t.take 4≠u.take 4:=by
  rw[h1,h2];simp only[ne_eq,YO,true_and,not_and];intro h;omega
 unfold sd;rw[if_neg aG,h1,h2];by_cases h:i<j
 ·have e1:mA (x.first+(i:Int)) (x.first+(j:Int))= -1:=by unfold mA;rw[if_pos (by omega)]
  have e0:mA x.first x.first=0:=by unfold mA;simp
  simp[nT,e0,e1,h]
 ·have e1:mA (x.first+(i:Int)) (x.first+(j:Int))=1:=by unfold mA;rw[if_neg (by omega),if_pos (by omega)]
  have e0:mA x.first x.first=0:=by unfold mA;simp
  simp[nT,e0,e1,h]
theorem Sl{x:ai}{deep:Int}{js:List Nat}{D:Kn}(hx:x.Ok)(hJ:nM x deep js D)(hn:js.Nodup)(hj:∀j∈js,j<x.am.toNat+1)(hh:D.has=true):∃j∈js,∃t l,eR x deep j=t::l/\D.first=t/\∀i∈js,eR x deep i≠[]->j<=i:=by
 induction hJ with
 |nil=>cases hh
 |@snoc js Q j hs hJ hp ih=>
  have ky:js.Nodup:=(U3.1 hn).1;have oS:j∉js:=λh=>(U3.1 hn).2.2 j h j (by simp) rfl;have Sb:=ih ky (λi hi=>hj i (by simp[hi]));by_cases hG:eR x deep j=[]
  ·have hg:(gF x deep j).has=false:=(by rw[Dj,hG];rfl);have hD:gM Q hs (gF x deep j)=Q:=(by unfold gM;rw[hg];rfl);rw[hD]at hh⊢;obtain⟨i,h1,t,l,h2,h3,h4⟩:=Sb hh;refine⟨i,by simp[h1],t,l,h2,h3,λk hk aG=> ?_⟩;rcases SS.1 hk with hk|hk
   ·exact h4 k hk aG
   ·rw[S8]at hk;subst hk;exact absurd hG aG
  ·obtain⟨t,l,ht⟩:∃t l,eR x deep j=t::l:=by
    cases hg:eR x deep j with
    |nil=>exact absurd hg hG
    |cons t l=>exact⟨t,l,rfl⟩
   have hg:(gF x deep j).has=true:=(by rw[Dj,ht];rfl);rw[alc hg,aru ht];by_cases hQ:Q.has=true
   ·obtain⟨i,h1,t',l',h2,h3,h4⟩:=Sb hQ;have hb:sd t Q.first=decide (j<i):=by
     rw[h3];exact aiP hx (hj j (by simp)) (hj i (by simp[h1])) (λe=>oS (e▸h1)) (by rw[ht];simp) (by rw[h2];simp)
    by_cases j6:j<i
    ·rw[if_pos (.inr (by rw[hb];simpa using j6))];refine⟨j,by simp,t,l,ht,rfl,λk hk aG=> ?_⟩;rcases SS.1 hk with hk|hk
     ·have:=h4 k hk aG;omega
     ·rw[S8]at hk;omega
    ·rw[if_neg (by rw[hQ,hb];simpa using j6)];refine⟨i,by simp[h1],t',l',h2,h3,λk hk aG=> ?_⟩;rcases SS.1 hk with hk|hk
     ·exact h4 k hk aG
     ·rw[S8]at hk;omega
   ·rw[if_pos (.inl (by simpa using hQ))];refine⟨j,by simp,t,l,ht,rfl,λk hk aG=> ?_⟩;rcases SS.1 hk with hk|hk
    ·have hQf:Q.has=js.any λj=> !(eR x deep j).isEmpty:=Sm hJ;exfalso;apply hQ;rw[hQf,UL];refine⟨k,hk,?_⟩;cases hg:eR x deep k with
     |nil=>exact absurd hg aG
     |cons=>rfl
    ·rw[S8]at hk;omega
theorem QF{α:Type}{f:Nat->List α}{j:Nat}{t:α}{l:List α}:∀{n:Nat},j<n->f j=t::l->(∀i,i<j->f i=[])->((S0 n).flatMap f).head?=some t
 |0,h,_,_=>absurd h (by omega)
 |n+1,h,hf,h0=>by
  rw[Vh,Vv,WK];by_cases hj:j<n
  ·rw[QF hj hf h0];rfl
  ·have e:j=n:=(by omega);subst e;have:(S0 j).flatMap f=[]:=by
    rw[WN];intro i hi;exact h0 i (TG.1 hi)
   rw[this];simp[hf]
theorem JI{α β:Type}{f g:α->List β}:∀(l:List α),(∀a,(f a).head?=(g a).head?)->(l.flatMap f).head?=(l.flatMap g).head?
 |[],_=>rfl
 |a::l,h=>by
  rw[Ui,Ui,WK,WK,h a,JI l h]
theorem acC{α:Type}(l:List α):(l.take 1).head?=l.head?:=by cases l<;>rfl
theorem aef{x:ai}{deep:Int}:(oH x deep).head?=(cp x).head?:=by
 refine JI _ λh=> ?_;have h1:(uL x h).head?=(oz x h).head?:=JI _ λns=>acC _;unfold rJ;split
 ·rw[acC,h1]
 ·split
  ·exact h1
  ·rfl
theorem alm{x:ai}{deep:Int}{D:Kn}(hx:x.Ok)(h:fG x deep D)(hh:D.has=true):∃u l,cp x=u::l/\D.first=eA u:=by
 obtain⟨p,js,h1,h2,h3,_⟩:=h;have ny:x.am.toNat=p:=by omega
 have hj:∀j∈js,j<x.am.toNat+1:=λj hj=>by rw[ny];exact TG.1 (h2.mem_iff.1 hj)
 obtain⟨j,a,t,l,b,c,d⟩:=Sl hx h3 (h2.nodup_iff.2 XU) hj hh;have hd:((S0 (p+1)).flatMap λj=>eR x deep j).head?=some t:=by
  refine QF (TG.1 (h2.mem_iff.1 a)) b λi hi=> ?_;cases hg:eR x deep i with
  |nil=>rfl
  |cons v w=>
   have:=d i (h2.mem_iff.2 (TG.2 (by have:=hj j a;omega))) (by rw[hg];simp);omega
 have he:((S0 (p+1)).flatMap λj=>eR x deep j)=(oH x deep).map eA:=by
  unfold oH;rw[<- ac2 hx,ny,Vs];exact Be λi hi=>Er hx (by rw[ny];exact TG.1 hi)
 rw[he,List.head?_map,aef]at hd;cases ht:cp x with
 |nil=>rw[ht]at hd;cases hd
 |cons u l=>
  rw[ht]at hd;simp only[XY,UN,Tl]at hd;exact⟨u,l,rfl,by rw[c,hd]⟩
namespace Tk
def live (x:ai):List (List Int):=(aL x).filter λh=> !(oz x h).isEmpty
def cnt (x:ai):Int:=(live x).length
theorem F0{x:ai}{h:List Int}:h∈live x<->∃u∈cp x,u.bz=h:=by
 unfold live;rw[Un];constructor
 ·rintro⟨h1,h2⟩
  cases ht:oz x h with
  |nil=>rw[ht]at h2;cases h2
  |cons u l=>
   have hu:u∈oz x h:=(by rw[ht];simp);exact⟨u,S7.2 ⟨h,h1,hu⟩,yb hu⟩
 ·rintro⟨u,hu,rfl⟩
  obtain⟨h,a,b⟩:=S7.1 hu;have e:=yb b;subst e;refine⟨a,?_⟩;cases ht:oz x u.bz with
  |nil=>rw[ht]at b;cases b
  |cons=>rfl
theorem J8{x:ai}{h:List Int}(hm:h∈aL x):h.length=1+x.hours.toNat:=(zf _ _ _ (by simp) hm).1
theorem L6{h:List Int}{n:Nat}(hl:h.length=n):(cH h).take n=h:=by
 subst hl;unfold cH;rw[Tx (SP _),TJ]
theorem al6(x:ai):((live x).map cH).Nodup:=by
 have h:(live x).Nodup:=(ajS x).filter _;rw[Us,Xt];have h2:=Us.1 h;refine Xs ?_ h2;intro a b ha hb aG e;have la:=J8 ((Un.1 ha).1);have lb:=J8 ((Un.1 hb).1);apply aG;rw[<- L6 la,e,L6 lb]
end Tk
theorem IA{x:ai}(hx:x.Ok){u:Tr}(hu:u∈cp x):(eA u).take 4=cH u.bz:=by
 have hl:=(wm hx hu).1;have hh:=hx.hours;unfold eA dx;rw[SD,Tx (by rw[xV (by omega)];omega),SW (by rw[xV (by omega)];omega)]
theorem Sr{x:ai}{D:Kn}(hx:x.Ok)(h:fG x 0 D):D.aL.Perm ((live x).map cH):=by
 have hn:D.aL.Nodup:=by obtain⟨p,js,h1,h2,h3,_⟩:=h;exact alg h3
 refine(List.perm_ext_iff_of_nodup hn (al6 x)).2 λg=> ?_;rw[aln hx h,Tm];constructor
 ·rintro⟨u,hu,rfl⟩
  exact⟨u.bz,F0.2 ⟨u,hu,rfl⟩,(IA hx hu).symm⟩
 ·rintro⟨h,hm,rfl⟩
  obtain⟨u,hu,rfl⟩:=F0.1 hm;exact⟨u,hu,(IA hx hu).symm⟩
theorem xK{x:ai}{deep:Int}{D:Kn}(hx:x.Ok)(h:fG x deep D):D.has=false<->cp x=[]:=by
 rw[FS hx h];cases cp x<;>simp
theorem LI{x:ai}:live x=[]<->cp x=[]:=by
 constructor
 ·intro h;cases ht:cp x with
  |nil=>rfl
  |cons u l=>
   have:u.bz∈live x:=F0.2 ⟨u,by rw[ht];simp,rfl⟩;rw[h]at this;cases this
 ·intro h;cases hl:live x with
  |nil=>rfl
  |cons a l=>
   obtain⟨u,hu,_⟩:=F0.1 (show a∈live x by rw[hl];simp);rw[h]at hu;cases hu
theorem count_eq{x:ai}{D:Kn}(hx:x.Ok)(h:fG x 0 D):(if D.has then(D.aL.length:Int)else 0)=cnt x:=by
 cases hD:D.has with
 |true=>rw[if_pos rfl,(Sr hx h).length_eq,Tn];rfl
 |false=>
  have:=LI.2 ((xK hx h).1 hD);simp[cnt,this]
theorem amA(a b:Int):min a b=a\/min a b=b:=by omega
theorem amv(a b:Int):max a b=a\/max a b=b:=by omega
theorem N_(v:List Int->Int):∀(hs:List (List Int))(b:gQ),b.is=true->(hs.foldl (λb h=>b.add (v h)) b).is=true/\((hs.foldl (λb h=>b.add (v h)) b).lo=b.lo\/∃h∈hs,(hs.foldl (λb h=>b.add (v h)) b).lo=v h)/\(hs.foldl (λb h=>b.add (v h)) b).lo<=b.lo/\(∀h∈hs,(hs.foldl (λb h=>b.add (v h)) b).lo<=v h)/\((hs.foldl (λb h=>b.add (v h)) b).hi=b.hi\/∃h∈hs,(hs.foldl (λb h=>b.add (v h)) b).hi=v h)/\b.hi<=(hs.foldl (λb h=>b.add (v h)) b).hi/\∀h∈hs,v h<=(hs.foldl (λb h=>b.add (v h)) b).hi
 |[],b,hb=>⟨hb,.inl rfl,W8 _,by simp,.inl rfl,W8 _,by simp⟩
 |g::hs,b,hb=>by
  have dB:b.add (v g)=⟨min b.lo (v g),max b.hi (v g),true⟩:=by unfold gQ.add;rw[if_pos hb]
  obtain⟨h1,h2,h3,h4,h5,h6,h7⟩:=N_ v hs (b.add (v g)) (by rw[dB]);rw[UW];generalize hs.foldl (λb h=>b.add (v h)) (b.add (v g))=R at*;rw[dB]at h2 h3 h5 h6;dsimp only at h2 h3 h5 h6;have m1:min b.lo (v g)=b.lo\/min b.lo (v g)=v g:=amA _ _;have m2:max b.hi (v g)=b.hi\/max b.hi (v g)=v g:=amv _ _;refine⟨h1,?_,XD h3 (Int.min_le_left _ _),?_,?_,XD (Int.le_max_left _ _) h6,?_⟩
  ·rcases h2 with h2|⟨h,a,c⟩
   ·rcases m1 with m1|m1
    ·exact .inl (h2.trans m1)
    ·exact .inr ⟨g,by simp,h2.trans m1⟩
   ·exact .inr ⟨h,by simp[a],c⟩
  ·intro h hm;rcases SL.1 hm with rfl|hm
   ·exact XD h3 (Int.min_le_right _ _)
   ·exact h4 h hm
  ·rcases h5 with h2|⟨h,a,c⟩
   ·rcases m2 with m1|m1
    ·exact .inl (h2.trans m1)
    ·exact .inr ⟨g,by simp,h2.trans m1⟩
   ·exact .inr ⟨h,by simp[a],c⟩
  ·intro h hm;rcases SL.1 hm with rfl|hm
   ·exact XD (Int.le_max_right _ _) h6
   ·exact h7 h hm
namespace Tk
structure Bounds (hs:List (List Int))(v:List Int->Int)(lo hi:Int):Prop where
 FQ:∃h∈hs,lo=v h
 le:∀h∈hs,lo<=v h
 FO:∃h∈hs,hi=v h
 ge:∀h∈hs,v h<=hi
theorem Bounds.uniq{hs:List (List Int)}{v:List Int->Int}{a b c d:Int}(h:Bounds hs v a b)(k:Bounds hs v c d):a=c/\b=d:=by
 obtain⟨g1,m1,e1⟩:=h.FQ;obtain⟨g2,m2,e2⟩:=h.FO;obtain⟨g3,m3,e3⟩:=k.FQ;obtain⟨g4,m4,e4⟩:=k.FO;have:=h.le _ m3;have:=h.ge _ m4;have:=k.le _ m1;have:=k.ge _ m2;omega
theorem Bounds.am6{hs gs:List (List Int)}{v:List Int->Int}{a b:Int}(h:Bounds hs v a b)(hp:hs.Perm gs):Bounds gs v a b:=by
 obtain⟨g1,m1,e1⟩:=h.FQ;obtain⟨g2,m2,e2⟩:=h.FO;exact⟨⟨g1,hp.mem_iff.1 m1,e1⟩,λg hg=>h.le g (hp.mem_iff.2 hg),⟨g2,hp.mem_iff.1 m2,e2⟩,λg hg=>h.ge g (hp.mem_iff.2 hg)⟩
end Tk
theorem afA{hs:List (List Int)}(v:List Int->Int)(aG:hs≠[]):Bounds hs v (hs.foldl (λ(b:gQ) h=>b.add (v h)) (⟨0,0,false⟩:gQ)).lo (hs.foldl (λ(b:gQ) h=>b.add (v h)) (⟨0,0,false⟩:gQ)).hi:=by
 cases hs with
 |nil=>exact absurd rfl aG
 |cons g hs=>
  rw[UW,show gQ.add ⟨0,0,false⟩ (v g)=⟨v g,v g,true⟩from rfl];obtain⟨_,h2,h3,h4,h5,h6,h7⟩:=N_ v hs ⟨v g,v g,true⟩ rfl;generalize hs.foldl (λ(b:gQ) h=>b.add (v h)) (⟨v g,v g,true⟩:gQ)=R at*;dsimp only at h2 h3 h5 h6;refine⟨?_,?_,?_,?_⟩
  ·rcases h2 with h2|⟨h,a,c⟩
   ·exact⟨g,by simp,h2⟩
   ·exact⟨h,by simp[a],c⟩
  ·intro h hm;rcases SL.1 hm with rfl|hm
   ·exact h3
   ·exact h4 h hm
  ·rcases h5 with h2|⟨h,a,c⟩
   ·exact⟨g,by simp,h2⟩
   ·exact⟨h,by simp[a],c⟩
  ·intro h hm;rcases SL.1 hm with rfl|hm
   ·exact h6
   ·exact h7 h hm
open Go.Gg.Tk
theorem aa4{h ns:List Int}:∀{ss:List aB}{t os:List Nat},os∈pk h ns ss t->(∀p∈t,p<ns.length)->os.length=t.length+ss.length/\∀p∈os,p<ns.length
 |[],t,os,hm,ht=>by
  simp only[pk,S8]at hm;subst hm;exact⟨rfl,ht⟩
 |s::ss,t,os,hm,ht=>by
  simp only[pk,S7,Un,TG]at hm;obtain⟨p,⟨hp,_⟩,hm⟩:=hm;have:=aa4 hm λq hq=>by
   rcases SS.1 hq with hq|hq
   ·exact ht q hq
   ·rw[S8.1 hq];exact hp
  refine⟨?_,this.2⟩;rw[this.1];simp;omega
theorem GU{x:ai}(hx:x.Ok){u:Tr}(hu:u∈cp x):u.bY.length=x.aC.length/\∀p∈u.bY,p<x.pieces.length:=by
 have h2:=(wm hx hu).2;obtain⟨h,a,b⟩:=S7.1 hu;obtain⟨ns,c,d⟩:=S7.1 b;obtain⟨os,e,rfl⟩:=Tm.1 d;have:=aa4 e (by simp);dsimp only at h2⊢;rw[<- h2];exact⟨by simpa using this.1,this.2⟩
theorem agC{x:ai}(hx:x.Ok){u:Tr}(hu:u∈cp x){s:Nat}(hs:s<x.aC.length):rG (eA u) s=u.bY.getD s 0:=by
 obtain⟨h1,h2⟩:=wm hx hu;have h3:=(GU hx hu).1;have hh:=hx.hours;have nw:=hx.c_;have h4:=xV (h:=u.bz) (by omega);have dL:s<u.bY.length:=by omega
 have hg:(eA u)[8+s]?=some ((u.bY[s]:Nat):Int):=by
  unfold eA dx lg;have h8:(cH u.bz++((u.aA.map λn=>(n-u.bz.headD 0).toNat).map (λn:Nat=>(n:Int))++TN (4-(u.aA.map λn=>(n-u.bz.headD 0).toNat).length) (-1))).length=8:=by simp[h4];omega
  rw[Tj (by omega),h8,U6,SZ (by simpa using dL),To,SV dL];rfl
 unfold rG;rw[SF,hg,SF,SV dL];rfl
namespace Tk
def DW (x:ai)(f:Tr->Bool):Bool:=(cp x).any f
theorem wK{x:ai}{f:Tr->Bool}:DW x f=true<->∃u∈cp x,f u=true:=UL
def m8 (f:Nat->Bool)(more:Int)(i:Nat):List Int:=((S0 i).filter f).map λn:Nat=>(n:Int)+more
def v4 (x:ai)(p n:Nat):Bool:=DW x λu=>decide ((u.aA.getD p 0-u.bz.headD 0).toNat=n)
def s7 (x:ai)(s q:Nat):Bool:=DW x λu=>decide (u.bY.getD s 0=q)
def CQ (x:ai)(s q:Nat):Bool:=DW x λu=> !decide (u.bY.getD s 0=q)
theorem aai{s:Nat}{f:Nat->Bool}{more:Int}{i:Nat}(h:∀n,n<i->s.testBit n=f n):fB s more i=m8 f more i:=by
 unfold fB m8;congr 1;exact Vg λn hn=>h n (TG.1 hn)
end Tk
theorem amU{x:ai}{D:Kn}{p:Nat}(hx:x.Ok)(hD:fG x 1 D)(hp:p<x.pieces.length)(n:Nat):(D.aA.getD p 0).testBit n=v4 x p n:=by
 rw[Vk,alo hx hD hp];unfold v4;rw[wK];simp only[decide_eq_true_eq]
theorem L7{x:ai}{D:Kn}{s:Nat}(hx:x.Ok)(hD:fG x 2 D)(hs:s<x.aC.length)(n:Nat):(D.aT.getD s 0).testBit n=s7 x s n:=by
 rw[Vk,alp hx hD hs];unfold s7;rw[wK];refine exists_congr λu=>and_congr_right λhu=> ?_;rw[agC hx hu hs,decide_eq_true_eq]
theorem anq{x:ai}{D:Kn}{s q:Nat}(hx:x.Ok)(hD:fG x 2 D)(hs:s<x.aC.length)(hh:D.has=true):(D.aT.getD s 0!=2^q)=CQ x s q:=by
 have hb:=L7 hx hD hs;rw[Vk,bne_iff_ne];unfold CQ;rw[wK];constructor
 ·intro aG;obtain⟨u,hu⟩:∃u,u∈cp x:=by
   rw[FS hx hD]at hh;cases ht:cp x with
   |nil=>rw[ht]at hh;cases hh
   |cons u l=>exact⟨u,by simp⟩
  by_cases RS:u.bY.getD s 0=q
  ·refine Tu λfl=>aG ?_;apply Nat.eq_of_testBit_eq;intro n;rw[hb,VM,Vk,decide_eq_true_eq];unfold s7;rw[wK];constructor
   ·rintro⟨v,hv,e⟩
    rw[decide_eq_true_eq]at e;refine Tu λFs=>fl ⟨v,hv,?_⟩;rw[e];simp;exactλh=>Fs h.symm
   ·rintro rfl
    exact⟨u,hu,by rw[decide_eq_true_eq];exact RS⟩
  ·exact⟨u,hu,by simpa using RS⟩
 ·rintro⟨u,hu,h⟩ he
  have hp:s7 x s (u.bY.getD s 0)=true:=by
   unfold s7;rw[wK];exact⟨u,hu,by simp⟩
  rw[<- hb,he,VM,decide_eq_true_eq]at hp;rw[hp]at h;simp at h
theorem anp{x:ai}{D:Kn}{s q:Nat}(hx:x.Ok)(hD:fG x 2 D)(hs:s<x.aC.length):(if D.has then vM ((D.aT.getD s 0).testBit q) (D.aT.getD s 0!=2^q)else 0)=if(cp x).isEmpty then 0 else vM (s7 x s q) (CQ x s q):=by
 have hh:=FS hx hD;cases Je:D.has with
 |true=>
  rw[Je]at hh;have:(cp x).isEmpty=false:=by simpa using hh.symm
  rw[this,if_pos rfl,L7 hx hD hs,anq hx hD hs Je];rfl
 |false=>
  rw[Je]at hh;have:(cp x).isEmpty=true:=by simpa using hh.symm
  rw[this];rfl
theorem afe{x:ai}{deep:Int}{D:Kn}(hx:x.Ok)(hD:fG x deep D):eZ D=if(cp x).isEmpty then 11 else 0:=by
 have hh:=FS hx hD;unfold eZ;rw[hh];cases (cp x).isEmpty<;>rfl
open Go.Conc Go.Proofs Go.Gg.Tk
theorem acZ{l:List AV}{a b:AV}(h:Wk a b):rX (l++[a]) (l++[b]):=by
 induction l with
 |nil=>exact .cons h .nil
 |cons x l ih=>exact .cons (Wk.refl _) ih
theorem aaq(n m k:Nat)(bs:List (List Int)):Lt n (.sl m (bs.map br) (.opn k))=(k<n):=by
 rw[amn,eq_iff_iff];refine⟨λh=>h.1,λh=>⟨h,λa ha=> ?_⟩⟩;have:=aas n bs;rw[yp,uA]at this;exact this.mpr trivial a ha
theorem Nn:gG (Ur none 0 0) 1=[.sl 0 [] .exact]:=rfl
theorem Ro{H:List aa}(hH:bM H)(n sz:Nat)(el:TypeId):bM (H++[.tail n sz el]):=Rm hH λz hz m=>by rw[S8.1 hz];trivial
section
variable {lv:Bool}
end
namespace Tk
def iK (l:List Int):Nat:=if l.length=0 then 0 else(l.getD (l.length-1) 0).toNat+1
def nE (n:Nat)(l:List Int)(j:Nat):List (List Int):=(S0 j).map λj:Nat=>l++[((iK l+j:Nat):Int)]
def nH (n:Nat):Nat->List (List Int)
 |0=>[[]]
 |i+1=>nH n i++nE n ((nH n i).getD i []) (n-iK ((nH n i).getD i []))
def vZ (n:Nat):List (List Int):=nH n (2^n)
theorem alt(n:Nat)(l:List Int)(j:Nat):nE n l (j+1)=nE n l j++[l++[((iK l+j:Nat):Int)]]:=by
 unfold nE;rw[Vh,TE];rfl
theorem ani:∀n,n<4->(∀i,i<2^n->i<(nH n i).length/\(∀l∈nH n i,l.length<=3/\∀y∈l,0<=y/\y<n))/\(∀i,i<2^n+1->(nH n i).length<=8)/\(nH n (2^n)).length=2^n:=by decide+kernel
end Tk
section
variable {lv:Bool}{H:List aa}{k kp:AV->List aa->Prop}
theorem ahX{ns:List Int}{e:End}(hn:ns.length<=2^20)(h0:ns=[]->k (.sl 0 [] .exact) H)(hk:k (.sl ns.length (ns.map iv) (.opn H.length)) (H++[.tail ns.length 1 3])):bc lv SC 94 H [.sl ns.length (ns.map iv) e] k kp:=by
 refine bF (rs:=[.tmp 2]) (nt:=8) Tryz.f94 λhH hA=> ?_;simp only[bk,SX];refine ak ?_;refine ak ?_;intro b hb;refine aE ?_;refine⟨λh=> ?_,λh=> ?_⟩
 ·
  refine ak ?_;refine a_ ?_;have:ns=[]:=by
   cases ns with
   |nil=>rfl
   |cons x xs=>rw[hb (by simp)]at h;cases h
  exact jN (H':=H) (G:=[]) (Wk.refl _) (by simp) (SP _) hH (by simp[LM]) (h0 this)
 ·
  refine aO ?_;refine ak ?_;refine⟨by omega,?_⟩;refine a_ ?_;exact bT hk
theorem ahK{n:Nat}(hn:n<=3)(hk:k (yp (vZ n)) H):bc lv SC 70 H [iv n] k kp:=by
 refine bF (rs:=[.tmp 2]) (nt:=44) Tryz.f70 λhH hA=> ?_;simp only[bk,SX];obtain⟨kU,iG,mE⟩:=ani n (by omega);refine ak ?_;refine aj ?_;simp only[seval,Nn,L4]
 (repeat apply gT);refine u6 (t:=3) (sz:=1) (el:=22) (by simp only[seval]<;>rfl) ?_
 refine ak ?_;refine cI ?_;refine gJ (2^n) (λi:Nat=>[(3,.sl (nH n i).length ((nH n i).map br) (.opn H.length)),(4,iv i)]) (λi=>H++[.tail (nH n i).length 1 22]) (λi=>True) (λ_ _=>rfl) (by simp only[seval];simp[bA,Wk.refl];exact M7 (l:=[.sl 0 [] .exact]) (l':=[br []]) rfl (rX.cons (iA _ _ _) .nil).at) rfl (λ_ _ _=>by simp) trivial (λce db i cN _ R hR=> ?_);clear ce db;have bP:i<2^n->SE.wrap ((i:Int)+1)=((i+1:Nat):Int):=λh=>by
  have:2^n<=2^3:=Xl (by omega) hn;rw[bG _ (by omega)];rfl
 refine ak ?_;refine aE ?_;refine⟨λh=> ?_,λh=> ?_⟩
 ·have bx:i<2^n:=by
   rcases YD i (2^n)with h'|h'
   ·exact h'
   ·have:i=2^n:=(by omega);subst this;rw[mE]at h;omega
  obtain⟨g1,g2⟩:=kU i bx;have g3:=iG i (by omega);have bP:=bP bx;obtain⟨l,hl⟩:=cy g1;have RL:nH n (i+1)=nH n i++nE n l (n-iK l):=by
   rw[nH,SF,hl];rfl
  obtain⟨Kc,hly⟩:=g2 l (uB hl);generalize nH n i=o at RL hl g1 g3 hR⊢;refine aO ?_;refine aj ?_;simp only[seval,ab0 hl,jl g1];refine ak ?_;refine aj ?_;simp only[seval,br];refine aE ?_;refine⟨λh=> ?p1,λh=> ?p2⟩
  case' p1=>
   have sF:0<l.length:=(by omega);obtain⟨y,hy⟩:=cy (xs:=l) (i:=l.length-1) (by omega);have hyb:=hly y (uB hy);have oU:iK l=y.toNat+1:=(by unfold iK;rw[if_neg (by omega),SF,hy];rfl);have gY:SE.wrap ((l.length:Int)-1)=((l.length-1:Nat):Int):=(by rw[bG _ (by omega)];omega);have vT:SE.wrap (y+1)=((iK l:Nat):Int):=(by rw[bG _ (by omega),oU];omega);have n5:(0<=((l.length-1:Nat):Int)/\((l.length-1:Nat):Int)<l.length)=True:=(by simp;omega);refine aj ?_;simp only[seval,gY,gE hy,n5,vT];have Q7:iK l=iK l:=rfl
  case' p2=>
   have Q7:iK l=0:=(by unfold iK;rw[if_pos (by omega)]);refine aO ?_
  all_goals(
   refine ak ?_;refine cI ?_;refine gJ (n-iK l) (λj:Nat=>[(3,.sl (o.length+j) ((o++nE n l j).map br) (.opn H.length)),(7,iv (((iK l:Nat):Int)+j))]) (λj=>H++[.tail (o.length+j) 1 22]) (λi=>True) (λ_ _=>rfl) (by first|(simp only[seval];simp[bA,Wk.refl];done)|(simp only[seval,nE,Zu];simp[bA,Wk.refl,Q7])) (by simp) (λ_ _ _=>by simp) trivial (λce db j oS _ R2 tT=> ?_);clear ce db;have Q5:(n-iK l)<=3:=(by omega);refine ak ?_;refine aE ?_;refine⟨λh2=> ?_,λh2=> ?_⟩
   ·have e_:j<n-iK l:=(by omega);have cZ:(o++nE n l (j+1)).map br=(o++nE n l j).map br++[br (l++[((iK l:Nat):Int)+j])]:=(by rw[alt,<- SD,TE];rfl);have Rp:((o++nE n l j).map br).length=o.length+j:=(by simp[nE]);have FF:SE.wrap (((iK l:Nat):Int)+j+1)=((iK l:Nat):Int)+((j+1:Nat):Int):=(by rw[bG _ (by omega)];omega);refine aO ?_;refine ak ?_;refine aJ ((ahX (ns:=l) (by omega) (λsF=> ?_) ?_))
    ·subst sF;try simp only[seval,z1,Nn,L4,Rp]
     first|refine⟨by decide,by omega,?_⟩|refine⟨by omega,?_⟩
     refine aj ?_;simp only[seval,FF];refine tT _ ⟨e_,trivial,?_⟩;rw[cZ];refine GC [.tail 1 1 3] (o_ rfl rfl) ?_ (Ro hH _ _ _) ?_ (by simp[XC])
     ·(try simp only[seval]);exact⟨⟨_,rfl,have h:=acZ (l:=(o++nE n [] j).map br) (show Wk (.sl 1 [iv (((iK []:Nat):Int)+j)] (.opn (H.length+1))) (br ([]++[((iK []:Nat):Int)+j])) by exact iA _ _ _);M7 h.len h.at⟩,_,rfl,Wk.refl _⟩
     ·rw[<- cZ];simp only[Xd,eD,aaq,iv];simp
    ·(try simp only[seval,z1,Nn,L4,Rp]);refine⟨by omega,by omega,?_⟩;refine aj ?_;simp only[seval,FF];refine tT _ ⟨e_,trivial,?_⟩;rw[cZ];refine GC [.tail (l.length+1) 1 3] (o_ rfl rfl) ?_ (Ro hH _ _ _) ?_ (by simp[XC])
     ·(try simp only[seval]);exact⟨⟨_,rfl,have h:=acZ (l:=(o++nE n l j).map br) (show Wk (.sl (l.length+1) (l.map iv++[iv (((iK l:Nat):Int)+j)]) (.opn (H.length+1))) (br (l++[((iK l:Nat):Int)+j])) by rw[br,TE,SQ];exact iA _ _ _);M7 h.len h.at⟩,_,rfl,Wk.refl _⟩
     ·rw[<- cZ];simp only[Xd,eD,aaq,iv];simp
   ·have xw:j=n-iK l:=(by omega);subst xw;refine b_ ?_;refine aj ?_;simp only[seval,bP];refine hR _ ⟨bx,trivial,?_⟩;rw[RL];have BY:(o++nE n l (n-iK l)).length=o.length+(n-iK l):=(by simp[nE]);rw[BY];exact dD)
 ·have pO:i=2^n:=by
   rcases YD i (2^n)with h'|h'
   ·have:=(kU i h').1;omega
   ·omega
  subst pO;refine b_ ?_;refine ak ?_;refine a_ ?_;exact jM (b:=yp (vZ n)) hH (iA _ _ _) (by rw[aas];trivial) hk
end
open Go.Conc Go.Proofs Go.Gg.Tk
theorem I1{α:Type}{f:α->List AV}{s:Nat}(hf:∀a,(f a).length=s):∀(xs:List α)(n:Nat),(xs.flatMap f).take (n* s)=(xs.take n).flatMap f
 |[],n=>by simp
 |x::xs,0=>by simp
 |x::xs,n+1=>by
  rw[Ui,VQ,Ui,List.take_append,SW (by rw[hf,XA];omega),hf,show (n+1)* s-s=n* s by rw[XA];omega,I1 hf xs n]
theorem Bd{α:Type}{f:α->List AV}{s:Nat}(hf:∀a,(f a).length=s):∀(xs:List α)(n:Nat),(xs.flatMap f).drop (n* s)=(xs.drop n).flatMap f
 |[],n=>by simp
 |x::xs,0=>by simp
 |x::xs,n+1=>by
  rw[Ui,List.drop_succ_cons,Vt,WT (by rw[hf,XA];omega),hf,show (n+1)* s-s=n* s by rw[XA];omega,Bd hf xs n,UC]
namespace Tk
def tN (ss:List aB)(ns:List Int):List aB:=ns.foldr (λn l=>l.eraseIdx n.toNat) ss
def ai.wo (x:ai)(ns:List Int):ai:={x with aC:=tN x.aC ns}
def th (ns:List Int)(m:Nat):Prop:=∀(i:Nat) n,ns[i]?=some n->0<=n/\n+(ns.length-i:Nat)<=m
theorem th.tail{n:Int}{ns:List Int}{m:Nat}(h:th (n::ns) m):th ns m:=λi k hk=>by
 have:=h (i+1) k hk;simp only[Ul]at this;exact⟨this.1,by omega⟩
theorem Is{ss:List aB}:∀{ns:List Int},th ns ss.length->(tN ss ns).length+ns.length=ss.length
 |[],_=>rfl
 |n::ns,h=>by
  have h1:=Is h.tail;have h2:=h 0 n rfl;have e:tN ss (n::ns)=(tN ss ns).eraseIdx n.toNat:=rfl;simp only[Ul]at h2⊢;rw[e,X6 (by omega)];omega
end Tk
section
variable {lv:Bool}{H:List aa}{k kp:AV->List aa->Prop}
theorem Pg{x:ai}{ns:List Int}{e:End}(aP:x.aC.length<=3)(iX:th ns x.aC.length)(hk:k (x.wo ns).av H):bc lv SC 63 H [x.av,.sl ns.length (ns.map iv) e] k kp:=by
 have Ki:ns.length<=3:=by have:=Is iX;omega
 refine bF (rs:=[.cell 4 76]) (nt:=32) Tryz.f63 λhH hA=> ?_;simp only[bk,SX,ai.av];obtain⟨st,lF⟩:∃st:Nat->List aB,∀j,st j=tN x.aC (ns.drop (ns.length-j)):=⟨_,λ_=>rfl⟩;have kZ:st 0=x.aC:=by rw[lF,ZU,List.drop_length];rfl
 have akS:st ns.length=tN x.aC ns:=by rw[lF,Vb,Xw]
 obtain⟨xl,bt⟩:∃xl:List aB->List AV,∀ss,xl ss=[iv x.first,iv x.hours,iv x.am,dN x.seen,aY x.pieces,aY ss]:=⟨_,λ_=>rfl⟩;have sR:x.l=xl x.aC:=by rw[bt];rfl
 have tZ:∀ss,(xl ss).drop 5=[.sl ss.length (ss.flatMap aB.l) .shut]:=λss=>by rw[bt];rfl
 have aQ:∀(L:List aa),(H++L)[H.length]?=L[0]?:=λL=>aW H L 0;have dw:∀(L:List aa)(y:aa),(H++L).set H.length y=H++L.set 0 y:=λL y=>dR H L 0 y;have c9:∀(L:List aa),(H++L)[H.length+1]?=L[1]?:=λL=>aW H L 1;have dF:∀(L:List aa)(y:aa),(H++L).set (H.length+1) y=H++L.set 1 y:=λL y=>dR H L 1 y;rw[sR];refine ak ?_;have rj:SE.wrap ((ns.length:Int)-1)=(ns.length:Int)-1:=bG _ (by omega);refine ak ?_;refine cI ?_;refine gJ ns.length (λj:Nat=>[(5,iv ((ns.length:Int)-1-j))]) (λj=>H++[.cells (xl (st j)) 26,.cells qp 76]) (λi=>True) (λ_ _=>rfl) (by simp only[seval,rj];simp[bA,Wk.refl]) (by rw[kZ];rfl) (λ_ _ _=>by simp) trivial (λce db j oS _ R hR=> ?_);clear db;refine ak ?_;refine aE ?_;refine⟨λh=> ?_,λh=> ?_⟩
 ·have e_:j<ns.length:=by omega
  obtain⟨i,hi⟩:∃i:Nat,i=ns.length-1-j:=⟨_,rfl⟩;have QN:(ns.length:Int)-1-j=i:=by omega
  obtain⟨n,hn⟩:=cy (xs:=ns) (i:=i) (by omega);obtain⟨oi,uh⟩:=iX i n hn;obtain⟨n,rfl⟩:∃m:Nat,n=m:=⟨n.toNat,by omega⟩;have cZ:st (j+1)=(st j).eraseIdx n:=by
   rw[lF,lF,show ns.length-(j+1)=i by omega,show ns.length-j=i+1 by omega];obtain⟨hlt,rfl'⟩:=SM.1 hn;rw[TW hlt,rfl'];rfl
  have dL:(st j).length+j=x.aC.length:=by
   have hd:th (ns.drop (ns.length-j)) x.aC.length:=λq m hq=>by
    rw[Uo]at hq;have:=iX _ _ hq;rw[Uj];exact⟨this.1,by omega⟩
   have:=Is hd;rw[<- lF,Uj]at this;omega
  have jQ:n<(st j).length:=by omega
  generalize st j=ss at cZ dL jQ hR⊢;rw[QN];refine aO ?_;refine aj ?_;simp only[seval,gE hn,jl (show i<ns.length by omega)];have bP:SE.wrap ((n:Int)+1)=((n+1:Nat):Int):=by rw[bG _ (by omega)];rfl
  have lY:∀l:List aB,(l.flatMap aB.l).length=l.length* 4:=λl=>by
   induction l with
   |nil=>rfl
   |cons a l ih=>rw[Ui,SQ,ih,aB.len,Ul];omega
  have lH:((n:Int)+1).toNat=n+1:=by omega
  have Km:((n:Int)+1==0)=false:=by simp;omega
  have kU:(ss.take n).length=n:=by rw[TZ];omega
  have iG:(ss.drop (n+1)).length=ss.length-(n+1):=Uj;have hD1:∀l:List aB,(ss.length-(n+1))=l.length->l.take (ss.length-(n+1))=l:=λl h=>by rw[h,TJ]
  have hD2:(ss.drop (n+1)).take (ss.length-(n+1))=ss.drop (n+1):=hD1 _ iG.symm;refine eI 10 ?_;simp only[seval,aQ,tZ,bP,lY,lH,I1 aB.len,Bd aB.len,kU,iG,beq_self_eq_true,Z_,Xf,Km,hD2,TJ];refine⟨by omega,by omega,by omega,by omega,by omega,by rw[bt];simp,?_⟩;have BO:(ss.eraseIdx n).length=n+(ss.length-(n+1)):=by rw[X6 jQ];omega
  have BP:(ss.eraseIdx n).flatMap aB.l=(ss.take n).flatMap aB.l++(ss.drop (n+1)).flatMap aB.l:=by rw[List.eraseIdx_eq_take_drop_succ,Vv]
  rw[<- BP,<- BO];have oN:∀y y',((xl ss).take 5++[y]++(xl ss).drop 6).set 5 y'=((xl ss).take 5++[y']++(xl ss).drop 6):=λy y'=>by rw[bt];rfl
  have hcg:∀y,((xl ss).take 5++[y]++(xl ss).drop 6)[5]?=some y:=λy=>by rw[bt];rfl
  have hce:(xl ss).take 5++[aY (ss.eraseIdx n)]++(xl ss).drop 6=xl (ss.eraseIdx n):=by rw[bt,bt];rfl
  (repeat apply gT);refine ae0 (id:=H.length) (j:=5) (y:=aY (ss.eraseIdx n)) (by simp only[seval,aQ]<;>rfl) (hcg _) (iA _ _ _) ?_
  simp only[seval,dw,oN,hce];have gY:SE.wrap ((i:Int)-1)=(ns.length:Int)-1-((j+1:Nat):Int):=by rw[bG _ (by omega)];omega
  refine aj ?_;simp only[seval,gY];refine hR _ ⟨e_,trivial,?_⟩;rw[cZ];have sI:bM (H++[.cells (xl (ss.eraseIdx n)) 26,.cells qp 76]):=Rm hH λz hz m=>by
   simp only[SL,S4,or_false]at hz;rcases hz with rfl|rfl
   ·rw[bt];exact aar m {x with aC:=ss.eraseIdx n}
   ·intro a ha;simp only[qp,SL,S4,or_false]at ha;rcases ha with rfl|rfl|rfl|rfl|rfl|rfl<;>simp[eD,LM]
  rw[<- QN];exact GC [.tail (ss.eraseIdx n).length 4 48] (o_ rfl rfl) (by simp only[seval];simp[bA,Wk.refl]) sI (by simp[eD]) (by rw[SD];rfl)
 ·have xw:j=ns.length:=by omega
  subst xw;refine b_ ?_;have FJ:(xl (st ns.length))=(x.wo ns).l:=by rw[bt,akS];rfl
  rw[FJ];have rj:(x.wo ns).l.length=6:=rfl;have un:T_ 6 (x.wo ns).l=(x.wo ns).l:=rfl;have l9:qp.length=6:=rfl;have K2:Ue 6 qp=[]:=rfl;refine aj ?_;simp only[seval,aQ,dF,c9,rj,un,l9,K2];refine⟨kF _,?_⟩;refine nS ?_;simp only[seval,c9];rw[un];exact jM (b:=(x.wo ns).av) hH (Wk.refl _) (by rw[F4];trivial) hk
end
open Go.Conc Go.Proofs Go.Gg.Tk
namespace Tk
def NJ (ns:List Int)(m:Nat):Bool:=(S0 ns.length).all λi=>decide (0<=ns.getD i 0/\ns.getD i 0+(ns.length-i:Nat)<=m)
theorem aeH{ns:List Int}{m:Nat}(h:NJ ns m=true):th ns m:=λi n hn=>by
 have hi:=(SM.1 hn).1;have:=Tw.1 h i (TG.2 hi);rw[decide_eq_true_eq,SF,hn]at this;exact this
theorem aak:∀n,n<4->(vZ n).length=2^n/\∀l∈vZ n,NJ l n=true:=by decide+kernel
theorem al4{n:Nat}(hn:n<4){l:List Int}(hl:l∈vZ n):th l n:=aeH ((aak n hn).2 l hl)
theorem OR{ss:List aB}:∀{ns:List Int}{y:aB},y∈tN ss ns->y∈ss
 |[],y,h=>h
 |n::ns,y,h=>OR (ns:=ns) (List.mem_of_mem_eraseIdx h)
theorem OQ{ss:List aB}:∀{ns:List Int},(tN ss ns).length<=ss.length
 |[]=>SP _
 |n::ns=>by
  have h1:=OQ (ss:=ss) (ns:=ns);have h2:=List.length_eraseIdx_le (tN ss ns) n.toNat;exact UF h2 h1
theorem ai.Ok.wo{x:ai}(h:x.Ok)(ns:List Int):(x.wo ns).Ok:=⟨h.first,h.hours,h.am,h.wc,h.c_,UF OQ h.eF,h.seen,λy hy=>⟨(h.piece y hy).1,(h.piece y hy).2⟩,λy hy=>have k:=h.stub y (OR hy);⟨k.1,k.2⟩⟩
def El (x:ai):Option (List Int):=(vZ x.aC.length).find? λl=>vd (x.wo l)
theorem Pp{α:Type}{p:α->Bool}:∀{l:List α}{i:Nat}{a:α},l[i]?=some a->p a=true->(∀j b,j<i->l[j]?=some b->p b=false)->l.find? p=some a
 |b::l,0,a,h,hp,_=>by cases h;rw[List.find?_cons_of_pos hp]
 |b::l,i+1,a,h,hp,h0=>by
  rw[List.find?_cons_of_neg (by rw[h0 0 b (by omega) rfl];simp)];exact Pp (i:=i) h hp λj c hj hc=>h0 (j+1) c (by omega) hc
theorem aid{α:Type}{p:α->Bool}{l:List α}(h:∀(j:Nat) b,l[j]?=some b->p b=false):l.find? p=none:=by
 rw[List.find?_eq_none];intro a ha;obtain⟨j,hj⟩:=VD ha;rw[h j a hj];simp
end Tk
section
variable {lv:Bool}{H:List aa}{k kp:AV->List aa->Prop}
theorem ahy{x:ai}(hx:x.Ok)(ik:∀l,El x=some l->k (.aK [br l,iv 0]) H)(cE:El x=none->k (.aK [br [],iv 11]) H):bc lv SC 32 H [x.av] k kp:=by
 refine bF (rs:=[.tmp 2,.tmp 3]) (nt:=27) Tryz.f32 λhH hA=> ?_;simp only[bk,SX,ai.av];have aP:=hx.eF;have bN:x.l=[iv x.first,iv x.hours,iv x.am,dN x.seen,aY x.pieces,aY x.aC]:=rfl;have tZ:Ue 5 x.l=[.sl x.aC.length (x.aC.flatMap aB.l) .shut]:=rfl;have aQ:∀(L:List aa),(H++L)[H.length]?=L[0]?:=λL=>aW H L 0;have bt:x.l.length=6:=rfl;have eC:T_ 6 x.l=x.l:=rfl;refine ak ?_;refine aj ?_;simp only[seval,aQ,bt,eC];refine aJ ((IJ (x:=x) hx ?_));(try simp only[seval]);refine aj ?_;simp only[seval,show ((0:Int)!=0)=false from rfl];refine aE ?_;refine aO ?_;refine aj ?_;simp only[seval,aQ,tZ];refine aJ ((ahK (n:=x.aC.length) aP ?_));have im:=(aak x.aC.length (by omega)).1;have fb:=λl hl=>al4 (n:=x.aC.length) (by omega) (l:=l) hl;have vG:El x=(vZ x.aC.length).find? λl=>vd (x.wo l):=rfl;generalize vZ x.aC.length=ls at im fb vG⊢;have hp8:2^x.aC.length<=2^3:=Xl (by omega) aP;(try simp only[seval,yp]);refine cI ?_;refine gJ ls.length (λi:Nat=>[(17,iv i)]) (λi=>H++[.cells x.l 26]) (λi=>∀j b,j<i->ls[j]?=some b->vd (x.wo b)=false) (λ_ _=>rfl) (by simp only[seval];simp[bA,Wk.refl]) rfl (λ_ _ _=>by simp) (λj b hj=>by omega) (λce db i cN ay R hR=> ?_);clear ce db;refine ak ?_;refine aE ?_;refine⟨λh=> ?_,λh=> ?_⟩
 ·have bx:i<ls.length:=by omega
  obtain⟨l,hl⟩:=cy bx;have gB:=fb l (uB hl);have fL:SE.wrap ((i:Int)+1)=((i+1:Nat):Int):=by rw[bG _ (by omega)];rfl
  refine aO ?_;refine aj ?_;simp only[seval,ab0 hl,jl bx];refine aj ?_;simp only[seval,aQ,bt,eC];refine aJ ((Pg (x:=x) (ns:=l) aP gB ?_));(try simp only[seval]);refine aJ ((ahL (x:=x.wo l) (hx.wo l) ?_));(try simp only[seval]);refine aE ?_;refine⟨λhc=> ?_,λhc=> ?_⟩
  ·refine ak ?_;refine a_ ?_;exact jM (b:=.aK [br l,iv 0]) hH (G4 (Wk.refl _) (Wk.refl _)) (by simp[jz,eD,zH]) (ik l (by rw[vG];exact Pp hl hc ay))
  ·refine aO ?_;refine aj ?_;simp only[seval,fL];refine hR _ ⟨bx,λj b hj hb=> ?_,dD⟩;rcases YD j i with h'|h'
   ·exact ay j b h' hb
   ·have:j=i:=(by omega);subst this;rw[hl]at hb;cases hb;simpa using hc
 ·have pO:i=ls.length:=by omega
  subst pO;refine b_ ?_;refine ak ?_;refine a_ ?_;exact jM (b:=.aK [br [],iv 11]) hH (G4 (iA _ _ _) (Wk.refl _)) (by simp[jz,eD,zH]) (cE (by rw[vG];exact aid λj b hb=>ay j b (eM hb) hb))
end
open Go.Conc
def behind (j:Nat)(o:Tv):Tv:={o with after:=o.after.push {on:=j,ground:=.data}}
def nQ (ops:Array Tv)(i j:Nat):Array Tv:=ops.modify i (behind j)
theorem ad9(ops:Array Tv)(i j:Nat):(nQ ops i j).size=ops.size:=by simp[nQ]
theorem qC(ops:Array Tv)(i j k:Nat):(nQ ops i j)[k]?=if i=k then(ops[k]?).map (behind j)else ops[k]?:=by
 unfold nQ;rw[Wd]
theorem afg(j:Nat)(o:Tv):cO (behind j o)=cO o++[j]:=by
 unfold cO behind;simp only[Array.toList_push,List.filterMap_append];rfl
theorem abE{ops:Array Tv}{i j:Nat}{X l:List Nat}(h:lS ops X l):j∈X->lS (nQ ops i j) X l:=by
 induction h with
 |nil X h=>exactλ_=> .nil X λk hk=>h k (by rwa [ad9]at hk)
 |cons o ho hn hd lD ih=>
  rename_i X k l;intro hj;by_cases e:i=k
  ·exact .cons (behind j o) (by rw[qC,if_pos e,ho];rfl) hn (λq hq=>by
    rw[afg]at hq;rcases SS.1 hq with hq|hq
    ·exact hd q hq
    ·rw[S8.1 hq];exact hj) (ih (Tb _ hj))
  ·exact .cons o (by rw[qC,if_neg e];exact ho) hn hd (ih (Tb _ hj))
theorem api{ops:Array Tv}{i j:Nat}(j6:i≠j)(hi:i<ops.size){X l:List Nat}(h:lS ops X l):i∉X->j∉X->lS (nQ ops i j) X l\/lS (nQ ops j i) X l:=by
 induction h with
 |nil X h=>exactλh1 _=>absurd (h i hi) h1
 |cons o ho hn hd lD ih=>
  rename_i X k l;intro h1 h2;by_cases e:k=i
  ·subst e;exact .inr (.cons o (by rw[qC,if_neg (Ne.symm j6)];exact ho) hn hd (abE lD TC))
  ·by_cases e2:k=j
   ·subst e2;exact .inl (.cons o (by rw[qC,if_neg j6];exact ho) hn hd (abE lD TC))
   ·rcases ih (λhm=>(SL.1 hm).elim (λx=>e x.symm) h1) (λhm=>(SL.1 hm).elim (λx=>e2 x.symm) h2)with q|q
    ·exact .inl (.cons o (by rw[qC,if_neg (Ne.symm e)];exact ho) hn hd q)
    ·exact .inr (.cons o (by rw[qC,if_neg (Ne.symm e2)];exact ho) hn hd q)
section
variable {lv:Bool}{P:SJ}{r:Option Nat}{ops:Array Tv}{nt:Nat}
theorem aea(i j:Nat)(tmps:Array SO):yielded (nQ ops i j) tmps=yielded ops tmps:=by
 funext k;unfold yielded;rw[qC];by_cases e:i=k
 ·rw[if_pos e];cases ops[k]?<;>rfl
 ·rw[if_neg e]
theorem NE(i j:Nat)(Q:Ex->Act->View->Prop):∀l:List Nat,dh lv P r (nQ ops i j) Q l=dh lv P r ops Q l
 |[]=>rfl
 |k::l=>by
  funext a V;have ih:=NE i j Q l;simp only[dh];rw[qC,aea,ih];by_cases e:i=k
  ·rw[if_pos e];cases ho:ops[k]?with
   |none=>rfl
   |some o=>rfl
  ·rw[if_neg e]
theorem HG(i j:Nat)(Hf:List Nat->List aa)(K:AS->Prop)(t:Aw K):∀(pl:List qy)(s:AS),fU lv P Hf (nQ ops i j) pl s K t=fU lv P Hf ops pl s K t
 |[],_=>rfl
 |⟨k,false,_,l⟩::rest,s=>by
  have ih:=HG i j Hf K t rest;simp only[fU,qC];have e:∀o,ao (some o) (λo=>AQ lv P s o λav=>BQ lv P Hf s.T o av l/\fU lv P Hf (nQ ops i j) rest (s.put o.dst av) K t)=ao (some o) (λo=>AQ lv P s o λav=>BQ lv P Hf s.T o av l/\fU lv P Hf ops rest (s.put o.dst av) K t):=λo=>by
   simp only[ao,ih]
  have bq:∀(o:Tv) av,BQ lv P Hf s.T (behind j o) av l=BQ lv P Hf s.T o av l:=λo av=>by
   induction l with
   |nil=>rfl
   |cons p l ld=>exact congrArg (λx=>_/\x) (ld λo=>by simp only[ao,ih])
  split
  ·cases ops[k]?with
   |none=>rfl
   |some o=>
    simp only[UN,ao,ih,bq];rfl
  ·cases ops[k]?with
   |none=>rfl
   |some o=>exact e o
 |⟨k,true,D,l⟩::rest,s=>by
  have ih:=HG i j Hf K t rest;simp only[fU,qC];have be:∀(o:Tv) av,BE lv P Hf s.T (behind j o) av l=BE lv P Hf s.T o av l:=λo av=>by
   induction l with
   |nil=>rfl
   |cons p l ld=>exact congrArg (λx=>_/\x) ld
  split
  ·cases ops[k]?with
   |none=>rfl
   |some o=>
    simp only[UN,ao,ih,be];rfl
  ·cases ops[k]?with
   |none=>rfl
   |some o=>simp only[ao,ih]
theorem agn{es ord:List Nat}(ay:qI nt ops es ord=true)(t:Nat):lS ops [] (UB .any ops ops.size t (TL ops.size false) []):=by
 have ay:=qI.out ay;obtain⟨vN,_,hlt⟩:=C_ ay.top;have ready:∀(ord X:List Nat),j_ ops X ord=true->∀A i B,ord=A++i::B->∃o,ops[i]?=some o/\∀j∈cO o,j∈A\/j∈X:=by
  intro ord;induction ord with
  |nil=>intro X _ A i B e;cases A<;>cases e
  |cons x l ih=>
   intro X nB A i B e;simp only[j_,Tc,TV,Up,decide_eq_false_iff_not]at nB;obtain⟨⟨h1,h2⟩,h3⟩:=nB;cases A with
   |nil=>
    have e1:x=i:=(by have:=congrArg List.head? e;simpa using this);rw[e1]at h2;cases ho:ops[i]?with
    |none=>rw[ho]at h2;cases h2
    |some o=>
     rw[ho]at h2;exact⟨o,rfl,λj hj=> .inr (by have:=Tw.1 h2 j hj;simpa using this)⟩
   |cons y A=>
    cases e;obtain⟨o,ho,hb⟩:=ih (x::X) h3 A i B rfl;refine⟨o,ho,λj hj=> ?_⟩;rcases hb j hj with h|h
    ·exact .inl (Tb _ h)
    ·rcases SL.1 h with rfl|h
     ·exact .inl (TC ..)
     ·exact .inr h
 exact LF (ops:=ops) (λi o ho j hj=>by
   obtain⟨A,B,e⟩:=List.append_of_mem (ay.full i (SR.1 ho).1);obtain⟨o',ba,hb⟩:=ready ord [] ay.top A i B e;rw[ho]at ba;cases ba;rcases hb j hj with h|h
   ·exact hlt j (by rw[e];exact Tg _ h)
   ·cases h)
  (λX ⟨i,hi,hn⟩=>by
   obtain⟨A,i',B,e,h1,h2⟩:=IU (X:=X) ⟨i,ay.full i hi,hn⟩;obtain⟨o',ba,hb⟩:=ready ord [] ay.top A i' B e;refine⟨i',o',ba,h1,λj hj=> ?_⟩;rcases hb j hj with h|h
   ·exact h2 j h
   ·cases h)
  ops.size t (TL ops.size false) [] ⟨by simp,λi hi=>by simp[hi]⟩ (UF YZ (by simp))
end
inductive rP (ops:Array Tv):Array Tv->Prop
 |base:rP ops ops
 |add {o:Array Tv} (h:rP ops o) (i j:Nat):rP ops (nQ o i j)
section
variable {lv:Bool}{P:SJ}{r:Option Nat}{ops o:Array Tv}{nt:Nat}{s:AS}{Φ:an->AS->Prop}
theorem rP.wp(h:rP ops o)(Q:Ex->Act->View->Prop)(l:List Nat):dh lv P r o Q l=dh lv P r ops Q l:=by
 induction h with
 |base=>rfl
 |add _ i j ih=>rw[NE,ih]
theorem rP.Ob(h:rP ops o)(Hf:List Nat->List aa)(K:AS->Prop)(t:Aw K)(pl:List qy)(s:AS):fU lv P Hf o pl s K t=fU lv P Hf ops pl s K t:=by
 induction h with
 |base=>rfl
 |add _ i j ih=>rw[HG,ih]
def DG (lv:Bool)(P:SJ)(r:Option Nat)(nt:Nat)(ops o:Array Tv)(s:AS)(Φ:an->AS->Prop):Prop:=
 ∀l E V a Q,lS o [] l->At E V s a nt->(∀ae e E' V' a' s',Kept E E' V V' a a'->At E' V' s' a' nt->pt E' ae e->Φ ae s'->Q e a' V')->dh lv P r ops Q l a V
theorem qH(i j:Nat)(j6:(i !=j&&decide (i<o.size))=true)(h1:DG lv P r nt ops (nQ o i j) s Φ)(h2:DG lv P r nt ops (nQ o j i) s Φ):DG lv P r nt ops o s Φ:=λl E V a Q hs ah hQ=>by
 rw[Tc,bne_iff_ne,decide_eq_true_eq]at j6;rcases api j6.1 j6.2 hs (by simp) (by simp)with hs|hs
 ·exact h1 l E V a Q hs ah hQ
 ·exact h2 l E V a Q hs ah hQ
theorem aeQ{id:Nat}(es ord:List Nat)(hm:P.follows .mixedOrders=true)(ay:qI nt ops es ord=true)(h:DG lv P r nt ops ops s Φ):aU lv P r nt (.region id ops true) s Φ:=by
 intro E V a Q ah hQ;refine Na λt=> ?_;rw[show VI (P.follows .mixedOrders) ops t=UB .any ops ops.size t (TL ops.size false) [] by unfold VI;rw[hm];simp[Y7]];exact h _ E V a Q (agn ay t) ah hQ
end
def F7 (lv:Bool)(P:SJ)(o:Tv)(s:AS)(next:AS->Prop):Prop:=match o.op with
 |.call c=>match c.callee with
  |.value x=>ao (s.ev x) λse=>ao (e9 s c.args.toList) λaD=>An lv P se s.H aD (λb H'=>next ((⟨s.T,H'⟩:AS).put o.dst b)) (λ_ _=>False) ⟨0⟩
  |_=>False
 |_=>False
def aax (ops:Array Tv)(A B:List Nat)(m:Nat):Bool:=
 let cl:=gA ops (A++m::B) []
 A.all (λi=>(nc cl m).contains i)&&B.all λi=>(nc cl i).contains m
theorem rP.get{ops o:Array Tv}(h:rP ops o){m:Nat}{om:Tv}(hm:ops[m]?=some om):∃pi,o[m]?=some pi/\pi.op=om.op/\pi.dst=om.dst:=by
 induction h with
 |base=>exact⟨om,hm,rfl,rfl⟩
 |add _ i j ih=>
  obtain⟨q,h1,h2,h3⟩:=ih;rw[qC];split
  ·exact⟨behind j q,by rw[h1];rfl,h2,h3⟩
  ·exact⟨q,h1,h2,h3⟩
section
variable {lv:Bool}{P:SJ}{r:Option Nat}{ops o:Array Tv}{Hf:List Nat->List aa}{T0:List (Nat×AV)}{es ord:List Nat}{nt:Nat}{s:AS}{Φ:an->AS->Prop}
theorem OP{f:Nat->AV}(ay:yg nt ops ord)(G:List Nat)(au:∀i∈G,∀o,ops[i]?=some o->∀X',kH ops X'->i∉X'->(∀j∈cO o,j∈X')->OB lv P r ops Hf T0 es f i o X'){X l:List Nat}(hs:lS ops X l):
  (∀i∈X,i<ops.size)->kH ops X->∀(E:Env)(V:View)(a:Act)(Q:Ex->Act->View->Prop),At E V ⟨TX ops T0 f X,Hf (done es X)⟩ a nt->
   (∀E' V' a' X' l',Kept E E' V V' a a'->At E' V' ⟨TX ops T0 f X',Hf (done es X')⟩ a' nt->(∀i∈X',i<ops.size)->kH ops X'->(∀i∈X',i∈X\/i∈G)->(∀i∈X,i∈X')->lS ops X' l'->(∀i xN,l'=i::xN->i∉G)->dh lv P r ops Q l' a' V')->dh lv P r ops Q l a V:=by
 induction hs with
 |nil X h=>
  intro hX hc E V a Q ah hQ;exact hQ E V a X [] (Kept.refl E V a) ah hX hc (λi hi=> .inl hi) (λi hi=>hi) (.nil X h) (λi xN e=>by cases e)
 |cons o ho hn hd lD ih=>
  rename_i X i l;intro hX hc E V a Q ah hQ;by_cases hG:i∈G
  ·have hi:i<ops.size:=(SR.1 ho).1;simp only[dh,ho];have n4:∀k∈i::X,k<ops.size:=λk hk=>(SL.1 hk).elim (λe=>by rw[e];exact hi) (hX k);have bh:=hc.cons ho hd;have hw:Th o (yielded ops a.tmps)=true:=(by unfold Th;rw[ay.Bn i o ho]);rw[if_pos hw];refine .inl ?_;have dj:∀d,o.dst=some d->d<a.tmps.size:=λd e=>(by rw[ah.size];exact ay.dst i o d ho e);have lC:=au i hG o ho X hc hn hd;have lG:∀{mv:List Nat},(∀j∈mv,j∈i::X\/j∈G)->∀j∈mv,j∈X\/j∈G:=λh j hj=>by
    rcases h j hj with h|h
    ·rcases SL.1 h with rfl|h
     ·exact .inr hG
     ·exact .inl h
    ·exact .inr h
   unfold OB at lC;by_cases du:i∈es
   ·rw[if_pos du]at lC;have aP:=lC.step (r:=r) (bad:=λ_ _=>False);refine aP E V a _ Q ah.bm ah.tok dj (.inr (ay.ve i o ho)) (λE' V' a' s' hk cM ht e=> ?_) λ_ _ _ _ _ _ _ _ _ h=>h.elim;subst e;rw[wG ho rfl]at ht cM;exact ih n4 bh E' V' a' Q ⟨cM,ht,hk.size.trans ah.size⟩ λbO aR b9 mv xN aI dc w1 w2 w3 w4=>hQ bO aR b9 mv xN (hk.trans aI) dc w1 w2 (lG w3) (λj hj=>w4 j (Tb _ hj))
   ·rw[if_neg du]at lC;obtain⟨T,hT,hq⟩:=lC;refine hq E V a _ Q ah.bm (λt av e=>ah.tok t av (hT t av e)) (.inr (ay.ve i o ho)) λE' V' v hle bX eT cM hv=> ?_;have ht:b8 E' ((⟨TX ops T0 f X,Hf (done es X)⟩:AS).put o.dst (f i)).T (a.put o.dst v).tmps:=b8.gN (s:=⟨TX ops T0 f X,Hf (done es X)⟩) (ah.tok.mono hle) dj hv;rw[wG ho rfl]at ht;refine ih n4 bh E' V' (a.put o.dst v) Q ⟨by rw[Iq du];exact cM,ht,(dX _ _ _).trans ah.size⟩ λbO aR b9 mv xN hk dc w1 w2 w3 w4=>
     hQ bO aR b9 mv xN ⟨hle.trans hk.le,hk.size.trans (dX _ _ _),hk.defers.trans (put_defers _ _ _),hk.role.trans bX,hk.deaf.trans eT⟩ dc w1 w2 (lG w3) (λj hj=>w4 j (Tb _ hj))
  ·exact hQ E V a X (i::l) (Kept.refl E V a) ah hX hc (λi hi=> .inl hi) (λi hi=>hi) (.cons o ho hn hd lD) (λj xN e=>by cases e;exact hG)
theorem acI{ops:Array Tv}:∀{A L X:List Nat},j_ ops X (A++L)=true->j_ ops X A=true/\j_ ops (A.reverse++X) L=true
 |[],L,X,h=>⟨rfl,h⟩
 |i::A,L,X,h=>by
  rw[VA,j_,Tc]at h;obtain⟨h1,h2⟩:=acI h.2;refine⟨by rw[j_,Tc];exact⟨h.1,h1⟩,?_⟩;rw[Ze,SD];exact h2
theorem acJ{ops:Array Tv}:∀{A X:List Nat},j_ ops X A=true->kH ops X->kH ops (A.reverse++X)
 |[],X,h,hX=>hX
 |i::A,X,h,hX=>by
  have nB:=h;simp only[j_,Tc,TV,Up,decide_eq_false_iff_not]at nB;obtain⟨⟨hi,h2⟩,h3⟩:=nB;cases ho:ops[i]?with
  |none=>rw[ho]at h2;cases h2
  |some o=>
   rw[ho]at h2;have hd:∀j∈cO o,j∈X:=λj hj=>(by have:=Tw.1 h2 j hj;simpa using this);have:=acJ h3 (hX.cons ho hd);rw[Ze,SD];exact this
def Az (lv:Bool)(P:SJ)(ops:Array Tv)(m:Nat)(Gv:List qy)(Φ:an->AS->Prop)(s1:AS):Prop:=ao (ops[m]?) λom=>F7 lv P om s1 λs2=>∃nK:List Nat->List aa,s2.H=nK []/\fU lv P nK ops Gv s2 (Φ .normal) ⟨0⟩
theorem pD(ha:rP ops o)(m:Nat)(A B oK nb:List Nat)(pl1 Gv:List qy)(oC:List Nat->List aa)(ay:qI nt o [] (A++m::B)=true)(EO:aax o A B m=true)(akn:qf (gA o (A++m::B) []) oK [] A=pl1)(ako:qf (gA o (A++m::B) []) nb (m::A.reverse) B=Gv)(ajK:nb.all B.contains=true)(h0:s.H=oC [])
  (h:fU lv P oC ops pl1 s (Az lv P ops m Gv Φ) ⟨0⟩):DG lv P r nt ops o s Φ:=λl E V a Q hs ah hQ=>by
 subst akn ako;rw[<- ha.wp];rw[<- ha.Ob]at h;have ay:=qI.out ay;obtain⟨vN,_,hlt⟩:=C_ ay.top;obtain⟨tA,tB⟩:=acI ay.top;rw[SY]at tB;have tB':j_ o (m::A.reverse) B=true:=by
  rw[j_,Tc]at tB;exact tB.2
 unfold aax at EO;dsimp only at EO;rw[Tc,Tw,Tw]at EO;obtain⟨cA,cB⟩:=EO;have Q9:m∉A:=λhm=>(U3.1 vN).2.2 m hm m (by simp) rfl;have B0:m∉B:=(VO.1 (U3.1 vN).2.1).1;have PV:∀i∈B,i∉A:=λi hi hA=>(U3.1 vN).2.2 i hA i (by simp[hi]) rfl;have dw:s=⟨TX o s.T (λ_=> .val undef) [],oC (done oK [])⟩:=by
  have:done oK []=[]:=by simp[done]
  rw[this,<- h0];rfl
 have h':fU lv P oC o (qf (gA o (A++m::B) []) oK [] A) ⟨TX o s.T (λ_=> .val undef) [],oC (done oK [])⟩ (Az lv P ops m (qf (gA o (A++m::B) []) nb (m::A.reverse) B) Φ) ⟨0⟩:=by rw[<- dw];exact h
 obtain⟨f,_,q2,q3⟩:=A3 (r:=r) ay A [] _ tA (λi hi=>by cases hi) h';have sw:At E V ⟨TX o s.T f [],oC (done oK [])⟩ a nt:=by
  have e:(⟨TX o s.T f [],oC (done oK [])⟩:AS)=s:=dw.symm;rw[e];exact ah
 refine OP (Hf:=oC) (es:=oK) ay A q2 hs (by simp) (λi hi=>by cases hi) E V a Q sw λE1 V1 a1 X1 l1 ik vu hX1 di KJ _ dF Fw=> ?_;have Q_:m∉X1:=λhm=>by
  rcases KJ m hm with h|h
  ·cases h
  ·exact Q9 h
 cases dF with
 |nil _ fy=>exact absurd (fy m (hlt m (by simp))) Q_
 |@cons _ i l2 pi ho hn hd lD=>
  have hi:i<o.size:=(SR.1 ho).1;have hiA:i∉A:=Fw i l2 rfl;have lA:i=m:=by
   rcases SS.1 (ay.full i hi)with h|h
   ·exact absurd h hiA
   ·rcases SL.1 h with h|h
    ·exact h
    ·have:=cB i h;have hr:m∈nc (gA o (A++m::B) []) i:=(by simpa using this);exact absurd (zX di (yB hr) λo' ba k hk=>by rw[ho]at ba;cases ba;exact hd k hk) Q_
  subst lA;have PW:∀j∈A,j∈X1:=λj hj=>by
   have:=cA j hj;have hr:j∈nc (gA o (A++i::B) []) i:=(by simpa using this);exact zX di (yB hr) λo' ba k hk=>by rw[ho]at ba;cases ba;exact hd k hk
  have Kg:∀j,j∈X1<->j∈A.reverse++[]:=λj=>by
   rw[SY,XH];exact⟨λh=>(KJ j h).elim (λh=>by cases h) id,PW j⟩
  have Ju:At E1 V1 ⟨TX o s.T f (A.reverse++[]),oC (done oK (A.reverse++[]))⟩ a1 nt:=by
   refine⟨?_,λt x e=> ?_,vu.size⟩
   ·rw[<- Ee Kg];exact vu.bm
   ·rw[<- DL ay Kg]at e;exact vu.tok t x e
  simp only[dh,ho];have hw:Th pi (yielded o a1.tmps)=true:=by unfold Th;rw[ay.Bn i pi ho]
  rw[if_pos hw];refine .inl ?_;have dj:∀d,pi.dst=some d->d<a1.tmps.size:=λd e=>by rw[vu.size];exact ay.dst i pi d ho e
  unfold Az at q3;obtain⟨om,hom,q3⟩:=q3.out;obtain⟨om2,g1,g2,g3⟩:=ha.get hom;rw[ho]at g1;cases g1;unfold F7 at q3;obtain⟨c,x,ajs,ajh,q4⟩:∃c x,om.op=.call c/\c.callee=.value x/\ao ((⟨TX o s.T f (A.reverse++[]),oC (done oK (A.reverse++[]))⟩:AS).ev x) λse=>ao (e9 ⟨TX o s.T f (A.reverse++[]),oC (done oK (A.reverse++[]))⟩ c.args.toList) λaD=>An lv P se (oC (done oK (A.reverse++[]))) aD (λb H'=>∃nK:List Nat->List aa,((⟨TX o s.T f (A.reverse++[]),H'⟩:AS).put om.dst b).H=nK []/\fU lv P nK ops (qf (gA o (A++i::B) []) nb (i::A.reverse) B) ((⟨TX o s.T f (A.reverse++[]),H'⟩:AS).put om.dst b) (Φ .normal) ⟨0⟩) (λ_ _=>False) ⟨0⟩:=by
   split at q3
   ·rename_i c hc;split at q3
    ·rename_i x hx;exact⟨c,x,hc,hx,q3⟩
    ·exact q3.elim
   ·exact q3.elim
  obtain⟨se,e1,q5⟩:=q4.out;obtain⟨aD,e2,q6⟩:=q5.out;have k_:=MP (lv:=lv) (P:=P) (r:=r) (o:=pi) (s:=⟨TX o s.T f (A.reverse++[]),oC (done oK (A.reverse++[]))⟩) (next:=λs2=>∃av H' nK,s2=(⟨TX o s.T f (A.reverse++[]),H'⟩:AS).put pi.dst av/\H'=nK []/\fU lv P nK ops (qf (gA o (A++i::B) []) nb (i::A.reverse) B) s2 (Φ .normal) ⟨0⟩) (bad:=λ_ _=>False) (g2.trans ajs) ajh e1 e2 (iQ.mono q6 (λav H'=>by
    rintro⟨nK,w1,w2⟩
    rw[<- g3]at w1 w2;refine⟨av,H',nK,rfl,?_,w2⟩;rw[<- w1];cases pi.dst<;>rfl) (λ_ _ h=>h))
  refine k_ E1 V1 a1 _ Q Ju.bm Ju.tok dj (.inr (ay.ve i pi ho)) (λE2 V2 a2 s2 cE cM Fy e=> ?_) λ_ _ _ _ _ _ _ _ _ h=>h.elim;obtain⟨av,H',nK,rfl,hH',hb⟩:=e;obtain⟨f',QH⟩:∃f':Nat->AV,f'=λj=>if j=i then av else f j:=⟨_,rfl⟩;have hff:∀j∈A.reverse++[],f j=f' j:=λj hj=>by
   have:j≠i:=λe=>Q9 (by subst e;simpa using hj);rw[QH];simp[this]
  have hp:(⟨TX o s.T f (A.reverse++[]),H'⟩:AS).put pi.dst av=⟨TX o s.T f' (i::A.reverse),nK (done nb (i::A.reverse))⟩:=by
   have oP:done nb (i::A.reverse)=[]:=by
    unfold done;rw[Yz];intro j hj;have:=Tw.1 ajK j hj;have E_:j∈B:=(by simpa using this);have h1:j≠i:=λe=>B0 (e▸E_);have h2:=PV j E_;simp[h1,h2]
   rw[AF hff,wG ho (by rw[QH];simp),oP,hH',SY]
  rw[hp]at hb cM Fy;rw[<- ha.Ob]at hb;have ajn:kH o (i::A.reverse):=by
   have h1:=acJ tA (X:=[]) (λi hi=>by cases hi);rw[SY]at h1;exact h1.cons ho λj hj=>by
    have:=KJ j (hd j hj);simpa using this
  obtain⟨f2,p1,p2,p3⟩:=A3 (r:=r) ay B (i::A.reverse) f' tB' ajn hb;have Rb:∀j,j∈i::X1<->j∈i::A.reverse:=λj=>by
   have:=Kg j;rw[SY]at this;rw[SL,SL,this]
  have tW:At E2 V2 ⟨TX o s.T f2 (i::X1),nK (done nb (i::X1))⟩ a2 nt:=by
   refine⟨?_,λt x e=> ?_,cE.size.trans Ju.size⟩
   ·rw[Ee Rb];exact cM
   ·rw[DL ay Rb,AF p1]at e;exact Fy t x e
  refine OP (Hf:=nK) (es:=nb) ay B p2 lD (λk hk=>(SL.1 hk).elim (λe=>by rw[e];exact hi) (hX1 k)) (di.cons ho hd) E2 V2 a2 Q tW λE3 V3 a3 X3 l3 vK pJ hX3 dO asP Rh o0 akR=> ?_;cases o0 with
  |cons o3 Ko Ki y9 asO=>
   rename_i j l4;exfalso;have hj:j<o.size:=(SR.1 Ko).1;have E_:=akR j l4 rfl;rcases SS.1 (ay.full j hj)with h|h
   ·exact Ki (Rh j (Tb _ (PW j h)))
   ·rcases SL.1 h with rfl|h
    ·exact Ki (Rh j (TC ..))
    ·exact E_ h
  |nil _ fy=>
   have Rc:∀j,j∈X3<->j∈B.reverse++i::A.reverse:=λj=>by
    rw[SS,SL,XH,XH];constructor
    ·intro h;have:=SS.1 (ay.full j (hX3 j h));rw[SL]at this;rcases this with h|h|h
     ·exact .inr (.inr h)
     ·exact .inr (.inl h)
     ·exact .inl h
    ·intro h;refine fy j (hlt j ?_);rw[SS,SL];rcases h with h|h|h
     ·exact .inr (.inr h)
     ·exact .inr (.inl h)
     ·exact .inl h
   refine hQ .normal .normal E3 V3 a3 _ ((ik.trans cE).trans vK) ⟨?_,λt x e=> ?_,pJ.size⟩ trivial p3
   ·rw[<- Ee Rc];exact pJ.bm
   ·rw[<- DL ay Rc]at e;exact pJ.tok t x e
end
theorem amy:type_of% @F7.eq_1:=by intros;rw[F7.eq_1]
theorem amz:type_of% @Az.eq_1:=by intros;rw[Az.eq_1]
attribute [seval] amy amz
open Go.Proofs Go.Gg.Tk
theorem abf{x:ai}{q:Nat}(hq:q<x.pieces.length):xX x [(q:Int)]=true:=by
 unfold xX;simp;omega
theorem agc{lv:Bool}{P:SJ}{r:Option Nat}{nt:Nat}{ops:Array Tv}{s:AS}{Φ:an->AS->Prop}{α:Type}{ok:α->Prop}(st:α->AS)(rest:∀x,ok x->Φ .normal (st x))(h:(∀x,ok x->Φ .normal (st x))->DG lv P r nt ops ops s Φ):DG lv P r nt ops ops s Φ:=h rest
theorem qk{T V:List (Nat×AV)}{H H':List aa}(hH:H=H')(hv:∀p∈V,∃b,look T p.1=some b/\Wk b p.2):(⟨T,H⟩:AS).Sub ⟨V,H'⟩:=
 ⟨λt a e=>hv (t,a) (ru e),hH⟩
def opsOf:T5->Array Tv
 |.region _ o _=>o
 |.seq a _=>opsOf a
 |_=>#[]
structure Bk (H:List aa)(M:List AV->List AV->List aa)(L:List aa)(B:List AV->List AV->List aa)(N:Nat):Prop where
 f:∀u v,B u v=H++(M u v++L)
 l:∀u v,(B u v).length=N
section
variable {H L:List aa}{M B:List AV->List AV->List aa}{N:Nat}
theorem Bk.n(h:Bk H M L B N)(u v:List AV)(L':List aa)(j:Nat):(B u v++L')[N+j]?=L'[j]?:=by rw[<- h.l u v,aW]
theorem Bk.s(h:Bk H M L B N)(u v:List AV)(L':List aa)(j:Nat)(y:aa):(B u v++L').set (N+j) y=B u v++L'.set j y:=by rw[<- h.l u v,dR]
theorem Bk.n0(h:Bk H M L B N)(u v:List AV)(L':List aa):(B u v++L')[N]?=L'[0]?:=h.n u v L' 0
theorem Bk.s0(h:Bk H M L B N)(u v:List AV)(L':List aa)(y:aa):(B u v++L').set N y=B u v++L'.set 0 y:=h.s u v L' 0 y
theorem Bk.n1(h:Bk H M L B N)(u v:List AV)(L':List aa):(B u v++L')[N+1]?=L'[1]?:=h.n u v L' 1
theorem Bk.s1(h:Bk H M L B N)(u v:List AV)(L':List aa)(y:aa):(B u v++L').set (N+1) y=B u v++L'.set 1 y:=h.s u v L' 1 y
theorem Bk.g(h:Bk H M L B N){j:Nat}{u v:List AV}(hl:j<(M u v).length){a y:aa}{u' v':List AV}(ha:(M u v)[j]?=some a)(hy:(M u v).set j y=M u' v')(L':List aa):(B u v++L')[H.length+j]?=some a/\(B u v++L').set (H.length+j) y=B u' v'++L':=by
 rw[h.f,h.f,SD,SD,SD,SD,aW,dR,SZ hl,Ww _ _ hl,hy];exact⟨ha,rfl⟩
theorem Bk.gu(h:Bk H M L B N)(j:Nat)(hl:∀u v,j<(M u v).length)(ha:∀u v,(M u v)[j]?=some (.cells u 76))(hy:∀u v w,(M u v).set j (.cells w 76)=M w v):(∀u v L',(B u v++L')[H.length+j]?=some (.cells u 76))/\(∀u v w L',(B u v++L').set (H.length+j) (.cells w 76)=B w v++L')/\(∀u v,(B u v)[H.length+j]?=some (.cells u 76))/\∀u v w,(B u v).set (H.length+j) (.cells w 76)=B w v:=by
 have k1:=λu v w L'=>h.g (hl u v) (ha u v) (hy u v w) L';have k2:=λu v w=>k1 u v w [];simp only[SY]at k2;exact⟨λu v L'=>(k1 u v u L').1,λu v w L'=>(k1 u v w L').2,λu v=>(k2 u v u).1,λu v w=>(k2 u v w).2⟩
theorem Bk.gv(h:Bk H M L B N)(j:Nat)(hl:∀u v,j<(M u v).length)(ha:∀u v,(M u v)[j]?=some (.cells v 88))(hy:∀u v w,(M u v).set j (.cells w 88)=M u w):(∀u v L',(B u v++L')[H.length+j]?=some (.cells v 88))/\(∀u v w L',(B u v++L').set (H.length+j) (.cells w 88)=B u w++L')/\(∀u v,(B u v)[H.length+j]?=some (.cells v 88))/\∀u v w,(B u v).set (H.length+j) (.cells w 88)=B u w:=by
 have k1:=λu v w L'=>h.g (hl u v) (ha u v) (hy u v w) L';have k2:=λu v w=>k1 u v w [];simp only[SY]at k2;exact⟨λu v L'=>(k1 u v v L').1,λu v w L'=>(k1 u v w L').2,λu v=>(k2 u v v).1,λu v w=>(k2 u v w).2⟩
theorem pE{x:ai}{p q:Nat}{k kp:AV->List aa->Prop}(i j:Nat)(M:List AV->List AV->List aa)(u0 v0:List AV)(hx:x.Ok)(ew:x.am=p)(io:xX x [(q:Int)]=true)(hm:H[0]?=some .main)(h1:(M u0 v0)[i]?=some (.cells [.sl 1 [iv q] .exact] 22))(h2:(M u0 v0)[j]?=some (.cells x.l 26))(hn:∀u v,(M u v).length=(M u0 v0).length)(hk:∀D L mp N B,fG x 1 D->bI D->(D.l mp).length=28->(∀a∈D.l mp,a.leaf=true)->Bk H M L B N->k (.aK [x.av,.agg (D.l mp),iv (eZ D)]) (B u0 v0)):bc true SC 51 (H++M u0 v0) [x.av,iv 1,.fn (.func 80) [] [.op (H.length+i) 0,.op (H.length+j) 0]] k kp:=by
 refine yL (x:=x) (b:=xX x [(q:Int)]) hx ew (fI hm) (λL k kp hk=>cJ (IM (x:=x) (ns:=[(q:Int)]) (e:=.exact) (il:=H.length+i) (ir:=H.length+j) hx (by simp) ?_ ?_ hk)) (λh=>by rw[io]at h;cases h) λ_ js D L mp ij jv bZ sH hg=> ?_
 ·rw[SD,aW];exact fI h1
 ·rw[SD,aW];exact fI h2
 ·have:=hk D L mp (H.length+(M u0 v0).length+L.length) (λu v=>H++(M u v++L)) ⟨p,js,ew,ij,jv,bZ⟩ bZ (Kn.len bZ mp) (uu D mp) ⟨λ_ _=>rfl,λu v=>by rw[SQ,SQ,hn];omega⟩;rw[SD];exact this
end
theorem amP{H:List aa}{x:ai}{q nt:Nat}{ops:Array Tv}{c:T5}{Ψ:an->AS->Prop}(ho:nt=27/\ops=opsOf (cs (al_.body.getD .skip))\/nt=29/\ops=opsOf (cs (ZF.body.getD .skip)))(hx:x.Ok)(hq:q<x.pieces.length)(hm:H[0]?=some .main)(rest:∀y:Nat×Nat×Kn×List aa,fG x 1 y.2.2.1/\bI y.2.2.1/\(∃L,y.2.2.2=H++L)/\y.2.2.2[H.length]?=some (.cells x.l 26)/\y.2.2.2[y.1]?=some (.cells (y.2.2.1.l y.2.1) 88)->an.then (λs'=>aU true SC none nt c s' Ψ) Ψ .normal ⟨[(7,.op y.1 0),(8,iv (eZ y.2.2.1)),(1,iv q),(2,.op H.length 0)],y.2.2.2⟩):DG true SC none nt ops ops ⟨[(5,iv 0),(4,.sl 0 [] .exact),(2,.op H.length 0),(0,.agg x.l),(1,iv q)],H++[.cells x.l 26]⟩ (an.then (λs'=>aU true SC none nt c s' Ψ) Ψ):=by
 rcases ho with⟨rfl,rfl⟩|⟨rfl,rfl⟩
 all_goals
  dsimp only[ZF,al_,S9,cs,opsOf];have hp:=hx.am;have nw:=hx.c_;have io:=abf hq;obtain⟨p,ew⟩:∃p:Nat,x.am=p:=⟨x.am.toNat,by omega⟩;have bN:x.l=[iv x.first,iv x.hours,iv x.am,dN x.seen,aY x.pieces,aY x.aC]:=rfl;have gf:∀(L:List aa)(j:Nat),(H++L)[H.length+j]?=L[j]?:=λL j=>aW H L j;have zt:∀(L:List aa)(j:Nat)(y:aa),(H++L).set (H.length+j) y=H++L.set j y:=λL j y=>dR H L j y;have aQ:∀(L:List aa),(H++L)[H.length]?=L[0]?:=λL=>aW H L 0;have bt:x.l.length=6:=rfl;have nd:(1<=2^24)=True:=eq_true (by decide);have eC:T_ 6 x.l=x.l:=rfl;obtain⟨u0,hu⟩:∃u0:List AV,u0=[.val (.int .i64 0),.val (.int .i64 0),.val (.int .i64 0),.sl 0 [] .exact,.sl 0 [] .exact,.sl 0 [] .exact]:=⟨_,rfl⟩;obtain⟨v0,hv⟩:∃v0:List AV,v0=[.val (.bool false),.val (.map none),.val (.int .u16 0),.val (.int .u16 0),.val (.int .u16 0),.val (.int .u16 0),.val (.int .u16 0),.val (.int .u16 0),.val (.int .u16 0),.val (.int .u16 0),.val (.int .u16 0),.val (.int .u16 0),.val (.int .u16 0),.val (.int .u16 0),.val (.int .u16 0),.val (.int .u16 0),.val (.int .u16 0),.val (.int .i64 0),.val (.int .i64 0),.val (.int .i64 0),.val (.int .i64 0),.val (.int .i64 0),.val (.int .i64 0),.val (.int .i64 0),.val (.int .i64 0),.val (.int .i64 0),.val (.int .i64 0),.val (.int .i64 0)]:=⟨_,rfl⟩;have dC:=hu.symm;have cT:=hv.symm;have iq:u0.length=6:=by rw[hu];rfl
  have iu:v0.length=28:=by rw[hv];rfl
  have i_:Ue 6 u0=[]:=by rw[hu];rfl
  have fQ:Ue 28 v0=[]:=by rw[hv];rfl
  refine qH 5 10 rfl ?_ ?_
  ·refine qH 5 11 rfl ?_ ?_
   ·refine qH 4 10 rfl ?_ ?_
    ·refine qH 4 11 rfl ?_ ?_
     ·refine qH 10 11 rfl ?_ ?_
      ·refine pD (.add (.add (.add (.add (.add .base 5 10) 5 11) 4 10) 4 11) 10 11) 5 [0,1,2,3,11,10,4] [6,7,8,9,12,13,14] [11,10,4] [12,13] [⟨0,false,[],[([11],[11]),([11,10],[11,10]),([11,10,4],[11,10,4])]⟩,⟨1,false,[],[([11],[11]),([11,10],[11,10])]⟩,⟨2,false,[],[([11],[11]),([11,10],[11,10])]⟩,⟨3,false,[],[([11],[11]),([11,10],[11,10])]⟩,⟨11,true,[11],[]⟩,⟨10,true,[11,10],[]⟩,⟨4,true,[11,10,4],[]⟩] [⟨6,false,[],[]⟩,⟨7,false,[],[]⟩,⟨8,false,[],[([12],[12])]⟩,⟨9,false,[],[([12],[12]),([12,13],[12,13])]⟩,⟨12,true,[12],[]⟩,⟨13,true,[12,13],[]⟩,⟨14,false,[12,13],[]⟩] (λD=>bif isDone 4 D then H++[.cells x.l 26,.cells v0 88,.cells u0 76,.cells x.l 26,.cells [.sl 1 [iv q] .exact] 22]else bif isDone 10 D then H++[.cells x.l 26,.cells v0 88,.cells u0 76]else bif isDone 11 D then H++[.cells x.l 26,.cells v0 88]else H++[.cells x.l 26]) (by kernel_rfl) (by kernel_rfl) (by kernel_rfl) (by kernel_rfl) (by kernel_rfl) (by first|rfl|simp only[seval]) ?_;(try simp only[seval,z1,eC,nd,and_self,aQ,dC,cT,bt,SQ]);refine kN _ _ (cJ (nU (x:=x) (ns:=[(q:Int)]) ⟨rfl,rfl⟩)) ?_;(try simp only[seval,aQ,dC,cT,bt,SQ,SD]);refine aJ ((pE 4 3 (λu v=>[.cells x.l 26,.cells v 88,.cells u 76,.cells x.l 26,.cells [.sl 1 [iv q] .exact] 22]) u0 v0 hx ew io hm rfl rfl (λ_ _=>rfl) λD L mp N Bf eN bZ bS dZ hB=> ?_));obtain⟨jo,jB,jp,jC⟩:=hB.gu 2 (λ_ _=>by simp) (λ_ _=>rfl) λ_ _ _=>rfl;obtain⟨jq,jD,jr,jE⟩:=hB.gv 1 (λ_ _=>by simp) (λ_ _=>rfl) λ_ _ _=>rfl;refine⟨λDD=>bif isDone 13 DD then(Bf x.l (D.l mp))else bif isDone 12 DD then(Bf x.l v0)else Bf u0 v0,by first|rfl|simp only[seval],?_⟩;try simp only[seval,dC,cT,hB.l,hB.n0,hB.s0,hB.n1,hB.s1,bt,bS,iq,iu,i_,fQ,ai.av,jo,jB,jp,jC,jq,jD,jr,jE]
       first|refine⟨kF x,dZ,?_⟩|trace_state
       have hR:=rest (H.length+1,mp,D,(Bf x.l (D.l mp))) ⟨eN,bZ,⟨_,by rw[hB.f]⟩,by rw[hB.f];exact aW H _ 0,by simp only[seval,dC,cT,hB.l,hB.n0,hB.s0,hB.n1,hB.s1,bt,bS,iq,iu,i_,fQ,ai.av,jo,jB,jp,jC,jq,jD,jr,jE]⟩;exact mz (qk rfl (by simp only[seval];simp[bA,Wk.refl])) hR
      ·refine pD (.add (.add (.add (.add (.add .base 5 10) 5 11) 4 10) 4 11) 11 10) 5 [0,1,2,3,10,11,4] [6,7,8,9,12,13,14] [10,11,4] [12,13] [⟨0,false,[],[([10],[10]),([10,11],[10,11]),([10,11,4],[10,11,4])]⟩,⟨1,false,[],[([10],[10]),([10,11],[10,11])]⟩,⟨2,false,[],[([10],[10]),([10,11],[10,11])]⟩,⟨3,false,[],[([10],[10]),([10,11],[10,11])]⟩,⟨10,true,[10],[]⟩,⟨11,true,[10,11],[]⟩,⟨4,true,[10,11,4],[]⟩] [⟨6,false,[],[]⟩,⟨7,false,[],[]⟩,⟨8,false,[],[([12],[12])]⟩,⟨9,false,[],[([12],[12]),([12,13],[12,13])]⟩,⟨12,true,[12],[]⟩,⟨13,true,[12,13],[]⟩,⟨14,false,[12,13],[]⟩] (λD=>bif isDone 4 D then H++[.cells x.l 26,.cells u0 76,.cells v0 88,.cells x.l 26,.cells [.sl 1 [iv q] .exact] 22]else bif isDone 11 D then H++[.cells x.l 26,.cells u0 76,.cells v0 88]else bif isDone 10 D then H++[.cells x.l 26,.cells u0 76]else H++[.cells x.l 26]) (by kernel_rfl) (by kernel_rfl) (by kernel_rfl) (by kernel_rfl) (by kernel_rfl) (by first|rfl|simp only[seval]) ?_;(try simp only[seval,z1,eC,nd,and_self,aQ,dC,cT,bt,SQ]);refine kN _ _ (cJ (nU (x:=x) (ns:=[(q:Int)]) ⟨rfl,rfl⟩)) ?_;(try simp only[seval,aQ,dC,cT,bt,SQ,SD]);refine aJ ((pE 4 3 (λu v=>[.cells x.l 26,.cells u 76,.cells v 88,.cells x.l 26,.cells [.sl 1 [iv q] .exact] 22]) u0 v0 hx ew io hm rfl rfl (λ_ _=>rfl) λD L mp N Bf eN bZ bS dZ hB=> ?_));obtain⟨jo,jB,jp,jC⟩:=hB.gu 1 (λ_ _=>by simp) (λ_ _=>rfl) λ_ _ _=>rfl;obtain⟨jq,jD,jr,jE⟩:=hB.gv 2 (λ_ _=>by simp) (λ_ _=>rfl) λ_ _ _=>rfl;refine⟨λDD=>bif isDone 13 DD then(Bf x.l (D.l mp))else bif isDone 12 DD then(Bf x.l v0)else Bf u0 v0,by first|rfl|simp only[seval],?_⟩;try simp only[seval,dC,cT,hB.l,hB.n0,hB.s0,hB.n1,hB.s1,bt,bS,iq,iu,i_,fQ,ai.av,jo,jB,jp,jC,jq,jD,jr,jE]
       first|refine⟨kF x,dZ,?_⟩|trace_state
       have hR:=rest (H.length+2,mp,D,(Bf x.l (D.l mp))) ⟨eN,bZ,⟨_,by rw[hB.f]⟩,by rw[hB.f];exact aW H _ 0,by simp only[seval,dC,cT,hB.l,hB.n0,hB.s0,hB.n1,hB.s1,bt,bS,iq,iu,i_,fQ,ai.av,jo,jB,jp,jC,jq,jD,jr,jE]⟩;exact mz (qk rfl (by simp only[seval];simp[bA,Wk.refl])) hR
     ·refine pD (.add (.add (.add (.add .base 5 10) 5 11) 4 10) 11 4) 5 [0,1,2,3,10,4,11] [6,7,8,9,12,13,14] [10,4,11] [12,13] [⟨0,false,[],[([10],[10]),([10,4],[10,4]),([10,4,11],[10,4,11])]⟩,⟨1,false,[],[([10],[10])]⟩,⟨2,false,[],[([10],[10])]⟩,⟨3,false,[],[([10],[10])]⟩,⟨10,true,[10],[]⟩,⟨4,true,[10,4],[]⟩,⟨11,true,[10,4,11],[]⟩] [⟨6,false,[],[]⟩,⟨7,false,[],[]⟩,⟨8,false,[],[([12],[12])]⟩,⟨9,false,[],[([12],[12]),([12,13],[12,13])]⟩,⟨12,true,[12],[]⟩,⟨13,true,[12,13],[]⟩,⟨14,false,[12,13],[]⟩] (λD=>bif isDone 11 D then H++[.cells x.l 26,.cells u0 76,.cells x.l 26,.cells [.sl 1 [iv q] .exact] 22,.cells v0 88]else bif isDone 4 D then H++[.cells x.l 26,.cells u0 76,.cells x.l 26,.cells [.sl 1 [iv q] .exact] 22]else bif isDone 10 D then H++[.cells x.l 26,.cells u0 76]else H++[.cells x.l 26]) (by kernel_rfl) (by kernel_rfl) (by kernel_rfl) (by kernel_rfl) (by kernel_rfl) (by first|rfl|simp only[seval]) ?_;(try simp only[seval,z1,eC,nd,and_self,aQ,dC,cT,bt,SQ]);refine kN _ _ (cJ (nU (x:=x) (ns:=[(q:Int)]) ⟨rfl,rfl⟩)) ?_;(try simp only[seval,aQ,dC,cT,bt,SQ,SD]);refine aJ ((pE 3 2 (λu v=>[.cells x.l 26,.cells u 76,.cells x.l 26,.cells [.sl 1 [iv q] .exact] 22,.cells v 88]) u0 v0 hx ew io hm rfl rfl (λ_ _=>rfl) λD L mp N Bf eN bZ bS dZ hB=> ?_));obtain⟨jo,jB,jp,jC⟩:=hB.gu 1 (λ_ _=>by simp) (λ_ _=>rfl) λ_ _ _=>rfl;obtain⟨jq,jD,jr,jE⟩:=hB.gv 4 (λ_ _=>by simp) (λ_ _=>rfl) λ_ _ _=>rfl;refine⟨λDD=>bif isDone 13 DD then(Bf x.l (D.l mp))else bif isDone 12 DD then(Bf x.l v0)else Bf u0 v0,by first|rfl|simp only[seval],?_⟩;try simp only[seval,dC,cT,hB.l,hB.n0,hB.s0,hB.n1,hB.s1,bt,bS,iq,iu,i_,fQ,ai.av,jo,jB,jp,jC,jq,jD,jr,jE]
      first|refine⟨kF x,dZ,?_⟩|trace_state
      have hR:=rest (H.length+4,mp,D,(Bf x.l (D.l mp))) ⟨eN,bZ,⟨_,by rw[hB.f]⟩,by rw[hB.f];exact aW H _ 0,by simp only[seval,dC,cT,hB.l,hB.n0,hB.s0,hB.n1,hB.s1,bt,bS,iq,iu,i_,fQ,ai.av,jo,jB,jp,jC,jq,jD,jr,jE]⟩;exact mz (qk rfl (by simp only[seval];simp[bA,Wk.refl])) hR
    ·refine qH 4 11 rfl ?_ ?_
     ·refine pD (.add (.add (.add (.add .base 5 10) 5 11) 10 4) 4 11) 5 [0,1,2,3,11,4,10] [6,7,8,9,12,13,14] [11,4,10] [12,13] [⟨0,false,[],[([11],[11]),([11,4],[11,4]),([11,4,10],[11,4,10])]⟩,⟨1,false,[],[([11],[11])]⟩,⟨2,false,[],[([11],[11])]⟩,⟨3,false,[],[([11],[11])]⟩,⟨11,true,[11],[]⟩,⟨4,true,[11,4],[]⟩,⟨10,true,[11,4,10],[]⟩] [⟨6,false,[],[]⟩,⟨7,false,[],[]⟩,⟨8,false,[],[([12],[12])]⟩,⟨9,false,[],[([12],[12]),([12,13],[12,13])]⟩,⟨12,true,[12],[]⟩,⟨13,true,[12,13],[]⟩,⟨14,false,[12,13],[]⟩] (λD=>bif isDone 10 D then H++[.cells x.l 26,.cells v0 88,.cells x.l 26,.cells [.sl 1 [iv q] .exact] 22,.cells u0 76]else bif isDone 4 D then H++[.cells x.l 26,.cells v0 88,.cells x.l 26,.cells [.sl 1 [iv q] .exact] 22]else bif isDone 11 D then H++[.cells x.l 26,.cells v0 88]else H++[.cells x.l 26]) (by kernel_rfl) (by kernel_rfl) (by kernel_rfl) (by kernel_rfl) (by kernel_rfl) (by first|rfl|simp only[seval]) ?_;(try simp only[seval,z1,eC,nd,and_self,aQ,dC,cT,bt,SQ]);refine kN _ _ (cJ (nU (x:=x) (ns:=[(q:Int)]) ⟨rfl,rfl⟩)) ?_;(try simp only[seval,aQ,dC,cT,bt,SQ,SD]);refine aJ ((pE 3 2 (λu v=>[.cells x.l 26,.cells v 88,.cells x.l 26,.cells [.sl 1 [iv q] .exact] 22,.cells u 76]) u0 v0 hx ew io hm rfl rfl (λ_ _=>rfl) λD L mp N Bf eN bZ bS dZ hB=> ?_));obtain⟨jo,jB,jp,jC⟩:=hB.gu 4 (λ_ _=>by simp) (λ_ _=>rfl) λ_ _ _=>rfl;obtain⟨jq,jD,jr,jE⟩:=hB.gv 1 (λ_ _=>by simp) (λ_ _=>rfl) λ_ _ _=>rfl;refine⟨λDD=>bif isDone 13 DD then(Bf x.l (D.l mp))else bif isDone 12 DD then(Bf x.l v0)else Bf u0 v0,by first|rfl|simp only[seval],?_⟩;try simp only[seval,dC,cT,hB.l,hB.n0,hB.s0,hB.n1,hB.s1,bt,bS,iq,iu,i_,fQ,ai.av,jo,jB,jp,jC,jq,jD,jr,jE]
      first|refine⟨kF x,dZ,?_⟩|trace_state
      have hR:=rest (H.length+1,mp,D,(Bf x.l (D.l mp))) ⟨eN,bZ,⟨_,by rw[hB.f]⟩,by rw[hB.f];exact aW H _ 0,by simp only[seval,dC,cT,hB.l,hB.n0,hB.s0,hB.n1,hB.s1,bt,bS,iq,iu,i_,fQ,ai.av,jo,jB,jp,jC,jq,jD,jr,jE]⟩;exact mz (qk rfl (by simp only[seval];simp[bA,Wk.refl])) hR
     ·refine qH 10 11 rfl ?_ ?_
      ·refine pD (.add (.add (.add (.add (.add .base 5 10) 5 11) 10 4) 11 4) 10 11) 5 [0,1,2,3,4,11,10] [6,7,8,9,12,13,14] [4,11,10] [12,13] [⟨0,false,[],[([4],[4]),([4,11],[4,11]),([4,11,10],[4,11,10])]⟩,⟨1,false,[],[]⟩,⟨2,false,[],[]⟩,⟨3,false,[],[]⟩,⟨4,true,[4],[]⟩,⟨11,true,[4,11],[]⟩,⟨10,true,[4,11,10],[]⟩] [⟨6,false,[],[]⟩,⟨7,false,[],[]⟩,⟨8,false,[],[([12],[12])]⟩,⟨9,false,[],[([12],[12]),([12,13],[12,13])]⟩,⟨12,true,[12],[]⟩,⟨13,true,[12,13],[]⟩,⟨14,false,[12,13],[]⟩] (λD=>bif isDone 10 D then H++[.cells x.l 26,.cells x.l 26,.cells [.sl 1 [iv q] .exact] 22,.cells v0 88,.cells u0 76]else bif isDone 11 D then H++[.cells x.l 26,.cells x.l 26,.cells [.sl 1 [iv q] .exact] 22,.cells v0 88]else bif isDone 4 D then H++[.cells x.l 26,.cells x.l 26,.cells [.sl 1 [iv q] .exact] 22]else H++[.cells x.l 26]) (by kernel_rfl) (by kernel_rfl) (by kernel_rfl) (by kernel_rfl) (by kernel_rfl) (by first|rfl|simp only[seval]) ?_;(try simp only[seval,z1,eC,nd,and_self,aQ,dC,cT,bt,SQ]);refine kN _ _ (cJ (nU (x:=x) (ns:=[(q:Int)]) ⟨rfl,rfl⟩)) ?_;(try simp only[seval,aQ,dC,cT,bt,SQ,SD]);refine aJ ((pE 2 1 (λu v=>[.cells x.l 26,.cells x.l 26,.cells [.sl 1 [iv q] .exact] 22,.cells v 88,.cells u 76]) u0 v0 hx ew io hm rfl rfl (λ_ _=>rfl) λD L mp N Bf eN bZ bS dZ hB=> ?_));obtain⟨jo,jB,jp,jC⟩:=hB.gu 4 (λ_ _=>by simp) (λ_ _=>rfl) λ_ _ _=>rfl;obtain⟨jq,jD,jr,jE⟩:=hB.gv 3 (λ_ _=>by simp) (λ_ _=>rfl) λ_ _ _=>rfl;refine⟨λDD=>bif isDone 13 DD then(Bf x.l (D.l mp))else bif isDone 12 DD then(Bf x.l v0)else Bf u0 v0,by first|rfl|simp only[seval],?_⟩;try simp only[seval,dC,cT,hB.l,hB.n0,hB.s0,hB.n1,hB.s1,bt,bS,iq,iu,i_,fQ,ai.av,jo,jB,jp,jC,jq,jD,jr,jE]
       first|refine⟨kF x,dZ,?_⟩|trace_state
       have hR:=rest (H.length+3,mp,D,(Bf x.l (D.l mp))) ⟨eN,bZ,⟨_,by rw[hB.f]⟩,by rw[hB.f];exact aW H _ 0,by simp only[seval,dC,cT,hB.l,hB.n0,hB.s0,hB.n1,hB.s1,bt,bS,iq,iu,i_,fQ,ai.av,jo,jB,jp,jC,jq,jD,jr,jE]⟩;exact mz (qk rfl (by simp only[seval];simp[bA,Wk.refl])) hR
      ·refine pD (.add (.add (.add (.add (.add .base 5 10) 5 11) 10 4) 11 4) 11 10) 5 [0,1,2,3,4,10,11] [6,7,8,9,12,13,14] [4,10,11] [12,13] [⟨0,false,[],[([4],[4]),([4,10],[4,10]),([4,10,11],[4,10,11])]⟩,⟨1,false,[],[]⟩,⟨2,false,[],[]⟩,⟨3,false,[],[]⟩,⟨4,true,[4],[]⟩,⟨10,true,[4,10],[]⟩,⟨11,true,[4,10,11],[]⟩] [⟨6,false,[],[]⟩,⟨7,false,[],[]⟩,⟨8,false,[],[([12],[12])]⟩,⟨9,false,[],[([12],[12]),([12,13],[12,13])]⟩,⟨12,true,[12],[]⟩,⟨13,true,[12,13],[]⟩,⟨14,false,[12,13],[]⟩] (λD=>bif isDone 11 D then H++[.cells x.l 26,.cells x.l 26,.cells [.sl 1 [iv q] .exact] 22,.cells u0 76,.cells v0 88]else bif isDone 10 D then H++[.cells x.l 26,.cells x.l 26,.cells [.sl 1 [iv q] .exact] 22,.cells u0 76]else bif isDone 4 D then H++[.cells x.l 26,.cells x.l 26,.cells [.sl 1 [iv q] .exact] 22]else H++[.cells x.l 26]) (by kernel_rfl) (by kernel_rfl) (by kernel_rfl) (by kernel_rfl) (by kernel_rfl) (by first|rfl|simp only[seval]) ?_;(try simp only[seval,z1,eC,nd,and_self,aQ,dC,cT,bt,SQ]);refine kN _ _ (cJ (nU (x:=x) (ns:=[(q:Int)]) ⟨rfl,rfl⟩)) ?_;(try simp only[seval,aQ,dC,cT,bt,SQ,SD]);refine aJ ((pE 2 1 (λu v=>[.cells x.l 26,.cells x.l 26,.cells [.sl 1 [iv q] .exact] 22,.cells u 76,.cells v 88]) u0 v0 hx ew io hm rfl rfl (λ_ _=>rfl) λD L mp N Bf eN bZ bS dZ hB=> ?_));obtain⟨jo,jB,jp,jC⟩:=hB.gu 3 (λ_ _=>by simp) (λ_ _=>rfl) λ_ _ _=>rfl;obtain⟨jq,jD,jr,jE⟩:=hB.gv 4 (λ_ _=>by simp) (λ_ _=>rfl) λ_ _ _=>rfl;refine⟨λDD=>bif isDone 13 DD then(Bf x.l (D.l mp))else bif isDone 12 DD then(Bf x.l v0)else Bf u0 v0,by first|rfl|simp only[seval],?_⟩;try simp only[seval,dC,cT,hB.l,hB.n0,hB.s0,hB.n1,hB.s1,bt,bS,iq,iu,i_,fQ,ai.av,jo,jB,jp,jC,jq,jD,jr,jE]
       first|refine⟨kF x,dZ,?_⟩|trace_state
       have hR:=rest (H.length+4,mp,D,(Bf x.l (D.l mp))) ⟨eN,bZ,⟨_,by rw[hB.f]⟩,by rw[hB.f];exact aW H _ 0,by simp only[seval,dC,cT,hB.l,hB.n0,hB.s0,hB.n1,hB.s1,bt,bS,iq,iu,i_,fQ,ai.av,jo,jB,jp,jC,jq,jD,jr,jE]⟩;exact mz (qk rfl (by simp only[seval];simp[bA,Wk.refl])) hR
   ·refine qH 4 10 rfl ?_ ?_
    ·refine pD (.add (.add (.add .base 5 10) 11 5) 4 10) 5 [0,1,2,3,10,4] [6,7,8,9,11,12,13,14] [10,4] [11,12,13] [⟨0,false,[],[([10],[10]),([10,4],[10,4])]⟩,⟨1,false,[],[([10],[10])]⟩,⟨2,false,[],[([10],[10])]⟩,⟨3,false,[],[([10],[10])]⟩,⟨10,true,[10],[]⟩,⟨4,true,[10,4],[]⟩] [⟨6,false,[],[([11],[11])]⟩,⟨7,false,[],[([11],[11])]⟩,⟨8,false,[],[([11],[11]),([11,12],[11,12])]⟩,⟨9,false,[],[([11],[11]),([11,12],[11,12]),([11,12,13],[11,12,13])]⟩,⟨11,true,[11],[]⟩,⟨12,true,[11,12],[]⟩,⟨13,true,[11,12,13],[]⟩,⟨14,false,[11,12,13],[]⟩] (λD=>bif isDone 4 D then H++[.cells x.l 26,.cells u0 76,.cells x.l 26,.cells [.sl 1 [iv q] .exact] 22]else bif isDone 10 D then H++[.cells x.l 26,.cells u0 76]else H++[.cells x.l 26]) (by kernel_rfl) (by kernel_rfl) (by kernel_rfl) (by kernel_rfl) (by kernel_rfl) (by first|rfl|simp only[seval]) ?_;(try simp only[seval,z1,eC,nd,and_self,aQ,dC,cT,bt,SQ]);refine kN _ _ (cJ (nU (x:=x) (ns:=[(q:Int)]) ⟨rfl,rfl⟩)) ?_;(try simp only[seval,aQ,dC,cT,bt,SQ,SD]);refine aJ ((pE 3 2 (λu _=>[.cells x.l 26,.cells u 76,.cells x.l 26,.cells [.sl 1 [iv q] .exact] 22]) u0 v0 hx ew io hm rfl rfl (λ_ _=>rfl) λD L mp N Bf eN bZ bS dZ hB=> ?_));obtain⟨jo,jB,jp,jC⟩:=hB.gu 1 (λ_ _=>by simp) (λ_ _=>rfl) λ_ _ _=>rfl;refine⟨λDD=>bif isDone 13 DD then(Bf x.l v0++[.cells (D.l mp) 88])else bif isDone 12 DD then(Bf x.l v0++[.cells v0 88])else bif isDone 11 DD then(Bf u0 v0++[.cells v0 88])else Bf u0 v0,by first|rfl|simp only[seval],?_⟩;try simp only[seval,dC,cT,hB.l,hB.n0,hB.s0,hB.n1,hB.s1,bt,bS,iq,iu,i_,fQ,ai.av,jo,jB,jp,jC]
     first|refine⟨kF x,dZ,?_⟩|trace_state
     have hR:=rest (N,mp,D,(Bf x.l v0++[.cells (D.l mp) 88])) ⟨eN,bZ,⟨_,by rw[hB.f]<;>rw[SD]⟩,by rw[hB.f];rw[SD];exact aW H _ 0,by simp only[seval,dC,cT,hB.l,hB.n0,hB.s0,hB.n1,hB.s1,bt,bS,iq,iu,i_,fQ,ai.av,jo,jB,jp,jC]⟩;exact mz (qk rfl (by simp only[seval];simp[bA,Wk.refl])) hR
    ·refine pD (.add (.add (.add .base 5 10) 11 5) 10 4) 5 [0,1,2,3,4,10] [6,7,8,9,11,12,13,14] [4,10] [11,12,13] [⟨0,false,[],[([4],[4]),([4,10],[4,10])]⟩,⟨1,false,[],[]⟩,⟨2,false,[],[]⟩,⟨3,false,[],[]⟩,⟨4,true,[4],[]⟩,⟨10,true,[4,10],[]⟩] [⟨6,false,[],[([11],[11])]⟩,⟨7,false,[],[([11],[11])]⟩,⟨8,false,[],[([11],[11]),([11,12],[11,12])]⟩,⟨9,false,[],[([11],[11]),([11,12],[11,12]),([11,12,13],[11,12,13])]⟩,⟨11,true,[11],[]⟩,⟨12,true,[11,12],[]⟩,⟨13,true,[11,12,13],[]⟩,⟨14,false,[11,12,13],[]⟩] (λD=>bif isDone 10 D then H++[.cells x.l 26,.cells x.l 26,.cells [.sl 1 [iv q] .exact] 22,.cells u0 76]else bif isDone 4 D then H++[.cells x.l 26,.cells x.l 26,.cells [.sl 1 [iv q] .exact] 22]else H++[.cells x.l 26]) (by kernel_rfl) (by kernel_rfl) (by kernel_rfl) (by kernel_rfl) (by kernel_rfl) (by first|rfl|simp only[seval]) ?_;(try simp only[seval,z1,eC,nd,and_self,aQ,dC,cT,bt,SQ]);refine kN _ _ (cJ (nU (x:=x) (ns:=[(q:Int)]) ⟨rfl,rfl⟩)) ?_;(try simp only[seval,aQ,dC,cT,bt,SQ,SD]);refine aJ ((pE 2 1 (λu _=>[.cells x.l 26,.cells x.l 26,.cells [.sl 1 [iv q] .exact] 22,.cells u 76]) u0 v0 hx ew io hm rfl rfl (λ_ _=>rfl) λD L mp N Bf eN bZ bS dZ hB=> ?_));obtain⟨jo,jB,jp,jC⟩:=hB.gu 3 (λ_ _=>by simp) (λ_ _=>rfl) λ_ _ _=>rfl;refine⟨λDD=>bif isDone 13 DD then(Bf x.l v0++[.cells (D.l mp) 88])else bif isDone 12 DD then(Bf x.l v0++[.cells v0 88])else bif isDone 11 DD then(Bf u0 v0++[.cells v0 88])else Bf u0 v0,by first|rfl|simp only[seval],?_⟩;try simp only[seval,dC,cT,hB.l,hB.n0,hB.s0,hB.n1,hB.s1,bt,bS,iq,iu,i_,fQ,ai.av,jo,jB,jp,jC]
     first|refine⟨kF x,dZ,?_⟩|trace_state
     have hR:=rest (N,mp,D,(Bf x.l v0++[.cells (D.l mp) 88])) ⟨eN,bZ,⟨_,by rw[hB.f]<;>rw[SD]⟩,by rw[hB.f];rw[SD];exact aW H _ 0,by simp only[seval,dC,cT,hB.l,hB.n0,hB.s0,hB.n1,hB.s1,bt,bS,iq,iu,i_,fQ,ai.av,jo,jB,jp,jC]⟩;exact mz (qk rfl (by simp only[seval];simp[bA,Wk.refl])) hR
  ·refine qH 5 11 rfl ?_ ?_
   ·refine qH 4 11 rfl ?_ ?_
    ·refine pD (.add (.add (.add .base 10 5) 5 11) 4 11) 5 [0,1,2,3,11,4] [6,7,8,9,10,12,13,14] [11,4] [10,12,13] [⟨0,false,[],[([11],[11]),([11,4],[11,4])]⟩,⟨1,false,[],[([11],[11])]⟩,⟨2,false,[],[([11],[11])]⟩,⟨3,false,[],[([11],[11])]⟩,⟨11,true,[11],[]⟩,⟨4,true,[11,4],[]⟩] [⟨6,false,[],[([10],[10])]⟩,⟨7,false,[],[([10],[10])]⟩,⟨8,false,[],[([10],[10]),([10,12],[10,12])]⟩,⟨9,false,[],[([10],[10]),([10,12],[10,12]),([10,12,13],[10,12,13])]⟩,⟨10,true,[10],[]⟩,⟨12,true,[10,12],[]⟩,⟨13,true,[10,12,13],[]⟩,⟨14,false,[10,12,13],[]⟩] (λD=>bif isDone 4 D then H++[.cells x.l 26,.cells v0 88,.cells x.l 26,.cells [.sl 1 [iv q] .exact] 22]else bif isDone 11 D then H++[.cells x.l 26,.cells v0 88]else H++[.cells x.l 26]) (by kernel_rfl) (by kernel_rfl) (by kernel_rfl) (by kernel_rfl) (by kernel_rfl) (by first|rfl|simp only[seval]) ?_;(try simp only[seval,z1,eC,nd,and_self,aQ,dC,cT,bt,SQ]);refine kN _ _ (cJ (nU (x:=x) (ns:=[(q:Int)]) ⟨rfl,rfl⟩)) ?_;(try simp only[seval,aQ,dC,cT,bt,SQ,SD]);refine aJ ((pE 3 2 (λ_ v=>[.cells x.l 26,.cells v 88,.cells x.l 26,.cells [.sl 1 [iv q] .exact] 22]) u0 v0 hx ew io hm rfl rfl (λ_ _=>rfl) λD L mp N Bf eN bZ bS dZ hB=> ?_));obtain⟨jq,jD,jr,jE⟩:=hB.gv 1 (λ_ _=>by simp) (λ_ _=>rfl) λ_ _ _=>rfl;refine⟨λDD=>bif isDone 13 DD then(Bf u0 (D.l mp)++[.cells x.l 76])else bif isDone 12 DD then(Bf u0 v0++[.cells x.l 76])else bif isDone 10 DD then(Bf u0 v0++[.cells u0 76])else Bf u0 v0,by first|rfl|simp only[seval],?_⟩;try simp only[seval,dC,cT,hB.l,hB.n0,hB.s0,hB.n1,hB.s1,bt,bS,iq,iu,i_,fQ,ai.av,jq,jD,jr,jE]
     first|refine⟨kF x,dZ,?_⟩|trace_state
     have hR:=rest (H.length+1,mp,D,(Bf u0 (D.l mp)++[.cells x.l 76])) ⟨eN,bZ,⟨_,by rw[hB.f]<;>rw[SD]⟩,by rw[hB.f];rw[SD];exact aW H _ 0,by simp only[seval,dC,cT,hB.l,hB.n0,hB.s0,hB.n1,hB.s1,bt,bS,iq,iu,i_,fQ,ai.av,jq,jD,jr,jE]⟩;exact mz (qk rfl (by simp only[seval];simp[bA,Wk.refl])) hR
    ·refine pD (.add (.add (.add .base 10 5) 5 11) 11 4) 5 [0,1,2,3,4,11] [6,7,8,9,10,12,13,14] [4,11] [10,12,13] [⟨0,false,[],[([4],[4]),([4,11],[4,11])]⟩,⟨1,false,[],[]⟩,⟨2,false,[],[]⟩,⟨3,false,[],[]⟩,⟨4,true,[4],[]⟩,⟨11,true,[4,11],[]⟩] [⟨6,false,[],[([10],[10])]⟩,⟨7,false,[],[([10],[10])]⟩,⟨8,false,[],[([10],[10]),([10,12],[10,12])]⟩,⟨9,false,[],[([10],[10]),([10,12],[10,12]),([10,12,13],[10,12,13])]⟩,⟨10,true,[10],[]⟩,⟨12,true,[10,12],[]⟩,⟨13,true,[10,12,13],[]⟩,⟨14,false,[10,12,13],[]⟩] (λD=>bif isDone 11 D then H++[.cells x.l 26,.cells x.l 26,.cells [.sl 1 [iv q] .exact] 22,.cells v0 88]else bif isDone 4 D then H++[.cells x.l 26,.cells x.l 26,.cells [.sl 1 [iv q] .exact] 22]else H++[.cells x.l 26]) (by kernel_rfl) (by kernel_rfl) (by kernel_rfl) (by kernel_rfl) (by kernel_rfl) (by first|rfl|simp only[seval]) ?_;(try simp only[seval,z1,eC,nd,and_self,aQ,dC,cT,bt,SQ]);refine kN _ _ (cJ (nU (x:=x) (ns:=[(q:Int)]) ⟨rfl,rfl⟩)) ?_;(try simp only[seval,aQ,dC,cT,bt,SQ,SD]);refine aJ ((pE 2 1 (λ_ v=>[.cells x.l 26,.cells x.l 26,.cells [.sl 1 [iv q] .exact] 22,.cells v 88]) u0 v0 hx ew io hm rfl rfl (λ_ _=>rfl) λD L mp N Bf eN bZ bS dZ hB=> ?_));obtain⟨jq,jD,jr,jE⟩:=hB.gv 3 (λ_ _=>by simp) (λ_ _=>rfl) λ_ _ _=>rfl;refine⟨λDD=>bif isDone 13 DD then(Bf u0 (D.l mp)++[.cells x.l 76])else bif isDone 12 DD then(Bf u0 v0++[.cells x.l 76])else bif isDone 10 DD then(Bf u0 v0++[.cells u0 76])else Bf u0 v0,by first|rfl|simp only[seval],?_⟩;try simp only[seval,dC,cT,hB.l,hB.n0,hB.s0,hB.n1,hB.s1,bt,bS,iq,iu,i_,fQ,ai.av,jq,jD,jr,jE]
     first|refine⟨kF x,dZ,?_⟩|trace_state
     have hR:=rest (H.length+3,mp,D,(Bf u0 (D.l mp)++[.cells x.l 76])) ⟨eN,bZ,⟨_,by rw[hB.f]<;>rw[SD]⟩,by rw[hB.f];rw[SD];exact aW H _ 0,by simp only[seval,dC,cT,hB.l,hB.n0,hB.s0,hB.n1,hB.s1,bt,bS,iq,iu,i_,fQ,ai.av,jq,jD,jr,jE]⟩;exact mz (qk rfl (by simp only[seval];simp[bA,Wk.refl])) hR
   ·refine qH 10 11 rfl ?_ ?_
    ·refine pD (.add (.add (.add .base 10 5) 11 5) 10 11) 5 [0,1,2,3,4] [6,7,8,9,11,10,12,13,14] [4] [11,10,12,13] [⟨0,false,[],[([4],[4])]⟩,⟨1,false,[],[]⟩,⟨2,false,[],[]⟩,⟨3,false,[],[]⟩,⟨4,true,[4],[]⟩] [⟨6,false,[],[([11],[11]),([11,10],[11,10])]⟩,⟨7,false,[],[([11],[11]),([11,10],[11,10])]⟩,⟨8,false,[],[([11],[11]),([11,10],[11,10]),([11,10,12],[11,10,12])]⟩,⟨9,false,[],[([11],[11]),([11,10],[11,10]),([11,10,12],[11,10,12]),([11,10,12,13],[11,10,12,13])]⟩,⟨11,true,[11],[]⟩,⟨10,true,[11,10],[]⟩,⟨12,true,[11,10,12],[]⟩,⟨13,true,[11,10,12,13],[]⟩,⟨14,false,[11,10,12,13],[]⟩] (λD=>bif isDone 4 D then H++[.cells x.l 26,.cells x.l 26,.cells [.sl 1 [iv q] .exact] 22]else H++[.cells x.l 26]) (by kernel_rfl) (by kernel_rfl) (by kernel_rfl) (by kernel_rfl) (by kernel_rfl) (by first|rfl|simp only[seval]) ?_;(try simp only[seval,z1,eC,nd,and_self,aQ,dC,cT,bt,SQ]);refine kN _ _ (cJ (nU (x:=x) (ns:=[(q:Int)]) ⟨rfl,rfl⟩)) ?_;(try simp only[seval,aQ,dC,cT,bt,SQ,SD]);refine aJ ((pE 2 1 (λ_ _=>[.cells x.l 26,.cells x.l 26,.cells [.sl 1 [iv q] .exact] 22]) u0 v0 hx ew io hm rfl rfl (λ_ _=>rfl) λD L mp N Bf eN bZ bS dZ hB=> ?_));refine⟨λDD=>bif isDone 13 DD then(Bf u0 v0++[.cells (D.l mp) 88,.cells x.l 76])else bif isDone 12 DD then(Bf u0 v0++[.cells v0 88,.cells x.l 76])else bif isDone 10 DD then(Bf u0 v0++[.cells v0 88,.cells u0 76])else bif isDone 11 DD then(Bf u0 v0++[.cells v0 88])else Bf u0 v0,by first|rfl|simp only[seval],?_⟩;try simp only[seval,dC,cT,hB.l,hB.n0,hB.s0,hB.n1,hB.s1,bt,bS,iq,iu,i_,fQ,ai.av]
     first|refine⟨kF x,dZ,?_⟩|trace_state
     have hR:=rest (N,mp,D,(Bf u0 v0++[.cells (D.l mp) 88,.cells x.l 76])) ⟨eN,bZ,⟨_,by rw[hB.f]<;>rw[SD]⟩,by rw[hB.f];rw[SD];exact aW H _ 0,by simp only[seval,dC,cT,hB.l,hB.n0,hB.s0,hB.n1,hB.s1,bt,bS,iq,iu,i_,fQ,ai.av]⟩;exact mz (qk rfl (by simp only[seval];simp[bA,Wk.refl])) hR
    ·refine pD (.add (.add (.add .base 10 5) 11 5) 11 10) 5 [0,1,2,3,4] [6,7,8,9,10,11,12,13,14] [4] [10,11,12,13] [⟨0,false,[],[([4],[4])]⟩,⟨1,false,[],[]⟩,⟨2,false,[],[]⟩,⟨3,false,[],[]⟩,⟨4,true,[4],[]⟩] [⟨6,false,[],[([10],[10]),([10,11],[10,11])]⟩,⟨7,false,[],[([10],[10]),([10,11],[10,11])]⟩,⟨8,false,[],[([10],[10]),([10,11],[10,11]),([10,11,12],[10,11,12])]⟩,⟨9,false,[],[([10],[10]),([10,11],[10,11]),([10,11,12],[10,11,12]),([10,11,12,13],[10,11,12,13])]⟩,⟨10,true,[10],[]⟩,⟨11,true,[10,11],[]⟩,⟨12,true,[10,11,12],[]⟩,⟨13,true,[10,11,12,13],[]⟩,⟨14,false,[10,11,12,13],[]⟩] (λD=>bif isDone 4 D then H++[.cells x.l 26,.cells x.l 26,.cells [.sl 1 [iv q] .exact] 22]else H++[.cells x.l 26]) (by kernel_rfl) (by kernel_rfl) (by kernel_rfl) (by kernel_rfl) (by kernel_rfl) (by first|rfl|simp only[seval]) ?_;(try simp only[seval,z1,eC,nd,and_self,aQ,dC,cT,bt,SQ]);refine kN _ _ (cJ (nU (x:=x) (ns:=[(q:Int)]) ⟨rfl,rfl⟩)) ?_;(try simp only[seval,aQ,dC,cT,bt,SQ,SD]);refine aJ ((pE 2 1 (λ_ _=>[.cells x.l 26,.cells x.l 26,.cells [.sl 1 [iv q] .exact] 22]) u0 v0 hx ew io hm rfl rfl (λ_ _=>rfl) λD L mp N Bf eN bZ bS dZ hB=> ?_));refine⟨λDD=>bif isDone 13 DD then(Bf u0 v0++[.cells x.l 76,.cells (D.l mp) 88])else bif isDone 12 DD then(Bf u0 v0++[.cells x.l 76,.cells v0 88])else bif isDone 11 DD then(Bf u0 v0++[.cells u0 76,.cells v0 88])else bif isDone 10 DD then(Bf u0 v0++[.cells u0 76])else Bf u0 v0,by first|rfl|simp only[seval],?_⟩;try simp only[seval,dC,cT,hB.l,hB.n0,hB.s0,hB.n1,hB.s1,bt,bS,iq,iu,i_,fQ,ai.av]
     first|refine⟨kF x,dZ,?_⟩|trace_state
     have hR:=rest (N+1,mp,D,(Bf u0 v0++[.cells x.l 76,.cells (D.l mp) 88])) ⟨eN,bZ,⟨_,by rw[hB.f]<;>rw[SD]⟩,by rw[hB.f];rw[SD];exact aW H _ 0,by simp only[seval,dC,cT,hB.l,hB.n0,hB.s0,hB.n1,hB.s1,bt,bS,iq,iu,i_,fQ,ai.av]⟩;exact mz (qk rfl (by simp only[seval];simp[bA,Wk.refl])) hR
section
variable {lv:Bool}{H:List aa}{k kp:AV->List aa->Prop}
theorem ahz{x:ai}{q:Nat}(hx:x.Ok)(hq:q<x.pieces.length)(hm:H[0]?=some .main)(hk:∀D,fG x 1 D->(D.has=false->k (.aK [br [],iv 11]) H)/\(D.has=true->k (.aK [br (fB (D.aA.getD q 0) x.first 16),iv 0]) H)):bc true SC 34 H [x.av,iv q] k kp:=by
 refine bF (rs:=[.tmp 4,.tmp 5]) (nt:=29) ZF λhH hA=> ?_;simp only[bk,SX,ai.av];have hp:=hx.am;have nw:=hx.c_;have bN:x.l=[iv x.first,iv x.hours,iv x.am,dN x.seen,aY x.pieces,aY x.aC]:=rfl;have aQ:∀(L:List aa),(H++L)[H.length]?=L[0]?:=λL=>aW H L 0;have bt:x.l.length=6:=rfl;refine ak ?_;(repeat apply gT);refine aeQ [4,10,11,12,13] [0,1,2,3,4,5,6,7,8,9,10,11,12,13,14] F.mixed (by kernel_rfl) ?_;refine agc (α:=Nat×Nat×Kn×List aa) (ok:=λy=>fG x 1 y.2.2.1/\bI y.2.2.1/\(∃L,y.2.2.2=H++L)/\y.2.2.2[H.length]?=some (.cells x.l 26)/\y.2.2.2[y.1]?=some (.cells (y.2.2.1.l y.2.1) 88)) (λy=>⟨[(7,.op y.1 0),(8,iv (eZ y.2.2.1)),(1,iv q),(2,.op H.length 0)],y.2.2.2⟩) (λy hy=> ?_) (λrest=> ?_)
 ·obtain⟨i,mp,D,G⟩:=y;obtain⟨eN,bZ,⟨L0,hG⟩,P2,P0⟩:=hy;dsimp only at hG P2 P0;obtain⟨ik,cE⟩:=hk D eN;have fz:∀(ns:List Int)(e:End)(m:Int),k (.aK [br ns,iv m]) H->cD H.length G (.aK [.sl ns.length (ns.map iv) e,iv m]) k:=λns e m h=>by
   rw[hG];exact jM hH (G4 (iA _ _ _) (Wk.refl _)) (by simp[jz,eD,br,uA]) h
  (try simp only[seval]);cases iH:D.has with
  |false=>
   have hE:eZ D=11:=(by rw[eZ,iH];rfl);refine aj ?_;simp only[seval,hE,show ((11:Int)!=0)=true from rfl];refine aE ?_;refine ak ?_;refine a_ ?_;exact fz [] .exact 11 (ik iH)
  |true=>
   have hE:eZ D=0:=(by rw[eZ,iH];rfl);have cE:=cE iH;obtain⟨u,hu⟩:=cy (xs:=D.aA) (i:=q) (by rw[bZ.aA];omega);have lu:=bZ.me _ (Te hu);have lI:D.aA.getD q 0=u:=(by rw[SF,hu];rfl);rw[lI]at cE;have b3:(0<=(q:Int)/\(q:Int)<4)=True:=(by simp;omega);have BN:=Kn.Gb (mp:=mp) hu;have ju:=hx.first;refine aj ?_;simp only[seval,hE,show ((0:Int)!=0)=false from rfl];refine aE ?_;refine aO ?_;refine eI 6 ?_;simp only[seval,P2,P0,b3,BN,bN];refine aJ ((II lu (by omega) ?_));(try simp only[seval]);refine a_ ?_;exact fz _ _ 0 cE
 ·exact amP (.inr ⟨rfl,rfl⟩) hx hq hm rest
end
theorem alq{x:ai}{deep:Int}{D:Kn}(hx:x.Ok)(h:fG x deep D)(hh:D.has=true):jj x D.first:=by
 obtain⟨p,js,h1,h2,h3,_⟩:=h;have hp:=hx.am;have hj:∀j∈js,j<x.am.toNat+1:=λj hj=>by have:=TG.1 (h2.mem_iff.1 hj);omega
 obtain⟨j,a,t,l,b,c,d⟩:=Sl hx h3 (h2.nodup_iff.2 XU) hj hh;rw[c];exact PS (deep:=deep) (j:=j) hx (by have:=hj j a;omega) (by rw[b];simp)
namespace Tk
def sk (x:ai)(t:List Int)(i:Nat):List Int:=(S0 i).map λp=>t.getD (4+p) 0+x.first
def so (t:List Int)(i:Nat):List Int:=(S0 i).map λs=>t.getD (8+s) 0
theorem ah2(x:ai)(t:List Int)(i:Nat):sk x t (i+1)=sk x t i++[t.getD (4+i) 0+x.first]:=by
 unfold sk;rw[Vh,TE];rfl
theorem ah4(t:List Int)(i:Nat):so t (i+1)=so t i++[t.getD (8+i) 0]:=by
 unfold so;rw[Vh,TE];rfl
theorem ah1(x:ai)(t:List Int)(i:Nat):(sk x t i).length=i:=by simp[sk]
theorem ah3(t:List Int)(i:Nat):(so t i).length=i:=by simp[so]
end Tk
theorem ars{a a' b b' c c' d d':AV}(h1:Wk a a')(h2:Wk b b')(h3:Wk c c')(h4:Wk d d'):Wk (.aK [a,b,c,d]) (.aK [a',b',c',d']):=λE v h=>by
 cases h with
 |aK hs h=>
  refine .aK hs λi x e=> ?_
  match i with
  |0=>cases e;exact h1 _ _ (h 0 a rfl)
  |1=>cases e;exact h2 _ _ (h 1 b rfl)
  |2=>cases e;exact h3 _ _ (h 2 c rfl)
  |3=>cases e;exact h4 _ _ (h 3 d rfl)
section
variable {lv:Bool}{H:List aa}{k kp:AV->List aa->Prop}
theorem ahl{x:ai}(hx:x.Ok)(hm:H[0]?=some .main)(hk:∀D,fG x 0 D->(D.has=false->k (.aK [br [],br [],br [],iv 11]) H)/\(D.has=true->k (.aK [br (D.first.take (x.hours.toNat+1)),br (sk x D.first x.pieces.length),br (so D.first x.aC.length),iv 0]) H)):bc true SC 18 H [x.av] k kp:=by
 refine bF (rs:=[.tmp 2,.tmp 3,.tmp 4,.tmp 5]) (nt:=64) Tryz.f18 λhH hA=> ?_;simp only[bk,SX,ai.av];have hp:=hx.am;have hh:=hx.hours;have nw:=hx.c_;have aP:=hx.eF;have ju:=hx.first;obtain⟨p,ew⟩:∃p:Nat,x.am=p:=⟨x.am.toNat,by omega⟩;have bN:x.l=[iv x.first,iv x.hours,iv x.am,dN x.seen,aY x.pieces,aY x.aC]:=rfl;have aQ:∀(L:List aa),(H++L)[H.length]?=L[0]?:=λL=>aW H L 0;have bt:x.l.length=6:=rfl;have eC:T_ 6 x.l=x.l:=rfl;refine ak ?_;refine aj ?_;simp only[seval,aQ,bt,eC];refine aJ ((yL (x:=x) hx ew (fI hm) HN (λh=>by cases h) λ_ js D L mp ij jv bZ sH hg=> ?_));have eN:fG x 0 D:=⟨p,js,ew,ij,jv,bZ⟩;have bS:=Kn.len bZ mp;have dZ:=uu D mp;obtain⟨ik,cE⟩:=hk D eN;obtain⟨Y,hY⟩:∃Y:List aa,Y=[aa.cells x.l 26]++L:=⟨_,rfl⟩;obtain⟨B,hB⟩:∃B,B=H++Y:=⟨_,rfl⟩;have sr:H++[aa.cells x.l 26]++L=B:=by rw[hB,hY,SD]
 have yY:∀(L':List aa),(B++L')[H.length]?=some (.cells x.l 26):=λL'=>by rw[hB,hY,SD,aQ];rfl
 have bn:∀(L':List aa)(j:Nat),(B++L')[B.length+j]?=L'[j]?:=λL' j=>aW B L' j;have va:∀(L':List aa)(j:Nat)(y:aa),(B++L').set (B.length+j) y=B++L'.set j y:=λL' j y=>dR B L' j y;have fz:∀(L':List aa)(l1 l2 l3:List Int)(e e' OU:End)(m:Int),k (.aK [br l1,br l2,br l3,iv m]) H->cD H.length (B++L') (.aK [.sl l1.length (l1.map iv) e,.sl l2.length (l2.map iv) e',.sl l3.length (l3.map iv) OU,iv m]) k:=λL' l1 l2 l3 e e' OU m h=>by
  rw[hB,SD];exact jM hH (ars (iA _ _ _) (iA _ _ _) (iA _ _ _) (Wk.refl _)) (by simp[jz,eD,br,uA]) h
 rw[sr];clear sr hg;(try simp only[seval,ai.av,bt,bS]);refine⟨kF x,dZ,?_⟩;cases iH:D.has with
 |false=>
  have hE:eZ D=11:=by rw[eZ,iH];rfl
  refine aj ?_;simp only[seval,hE,show ((11:Int)!=0)=true from rfl];refine aE ?_;refine ak ?_;refine a_ ?_;exact fz _ [] [] [] .exact .exact .exact 11 (ik iH)
 |true=>
  have hE:eZ D=0:=by rw[eZ,iH];rfl
  have cE:=cE iH;have p_:=alq hx eN iH;obtain⟨t,ht⟩:∃t,t=D.first:=⟨_,rfl⟩;rw[<- ht]at p_ cE;have p9:=p_.len;obtain⟨pre,QZ,Jz⟩:∃pre:List AV,pre.length=17/\D.l mp=pre++(t.map iv++[]):=⟨bv D.has:: .mp mp::(D.aA.map (λn=>wv n)++(D.hours.map (λn=>wv n)++(D.less.map (λn=>wv n)++D.aT.map (λn=>wv n)))),by simp[bZ.aA,bZ.hours,bZ.less,bZ.aT],by rw[ht];simp[Kn.l]⟩;obtain⟨n,hn⟩:∃n:Nat,x.hours=n:=⟨x.hours.toNat,by omega⟩;have oW:x.hours+1=((n+1:Nat):Int):=by omega
  have bP:SE.wrap (x.hours+1)=((n+1:Nat):Int):=by rw[bG _ (by omega)];exact oW
  have c9:Ue 1 x.l=[iv x.hours,iv x.am,dN x.seen,aY x.pieces,aY x.aC]:=rfl;have BL:Ue 4 x.l=[.sl x.pieces.length (x.pieces.flatMap aB.l) .shut,.sl x.aC.length (x.aC.flatMap aB.l) .shut]:=rfl;have tZ:Ue 5 x.l=[.sl x.aC.length (x.aC.flatMap aB.l) .shut]:=rfl;refine aj ?_;simp only[seval,hE,show ((0:Int)!=0)=false from rfl];refine aE ?_;refine aO ?_;have A2:∀(L':List aa),(B++L')[B.length+1]?=L'[1]?:=λL'=>bn L' 1;have yx:∀(L':List aa),(B++L')[B.length+2]?=L'[2]?:=λL'=>bn L' 2;have tH:∀(L':List aa)(y:aa),(B++L').set (B.length+2) y=B++L'.set 2 y:=λL' y=>va L' 2 y;have bn3:∀(L':List aa),(B++L')[B.length+3]?=L'[3]?:=λL'=>bn L' 3;have bs3:∀(L':List aa)(y:aa),(B++L').set (B.length+3) y=B++L'.set 3 y:=λL' y=>va L' 3 y;have bn4:∀(L':List aa),(B++L')[B.length+4]?=L'[4]?:=λL'=>bn L' 4;have bs4:∀(L':List aa)(y:aa),(B++L').set (B.length+4) y=B++L'.set 4 y:=λL' y=>va L' 4 y;refine aj ?_;simp only[seval,yY,c9,bP,ac7];refine⟨by omega,by omega,?_⟩;have vC:(D.l mp).drop 17=t.map iv:=by rw[Jz,SY,Wn (by omega),WT (by omega),UC]
  have akW:((n:Int)+1).toNat=n+1:=by omega
  have pV:min 4 (n+1)=n+1:=by omega
  have B1:min 4 11=4:=rfl;have Rf:min (n+1) 4=n+1:=by omega
  have aX:T_ (n+1) (T_ 4 (U4 iv t))++Ue (n+1) (U4 iv (TN (n+1) 0))=(t.take (n+1)).map iv:=by rw[UZ,Rf,WT (by simp),SY,VS]
  refine aj ?_;simp only[seval,vC,akW,pV,B1,p9,Rf,TZ,YE,A2,yx,tH];refine⟨by rw[<- VS];exact of_eq_true (aac _),?_⟩;rw[aX];obtain⟨tl,KR⟩:∃tl,tl=t.take (n+1):=⟨_,rfl⟩;have RR:tl.length=n+1:=by rw[KR,TZ];omega
  have vP:x.hours.toNat=n:=by omega
  rw[vP,<- KR]at cE;rw[<- KR]
  (repeat apply gT);refine HQ (id:=B.length+2) (by simp only[seval,yx]<;>rfl) ?_
  simp only[seval,tH,RR]
  (repeat apply gT);refine N0 (t:=2) (y:=br tl) (by simp only[seval]<;>rfl) ?_ ?_
  ·have e:br tl=.sl (n+1) ((tl.map iv).take (n+1)) .shut:=by
    rw[SW (by simp;omega),br,RR]
   rw[e];exact G2 (p:=n+1) (by simp only[seval,yx]<;>rfl) (by omega) (by simp;omega)
  (repeat apply gT);refine u6 (t:=3) (sz:=1) (el:=3) (by simp only[seval]<;>rfl) ?_
  refine aj ?_;simp only[seval,yY,BL];obtain⟨gl,od⟩:∃gl:Nat->List Int,∀i,gl i=sk x t i:=⟨_,λ_=>rfl⟩;have BS:gl 0=[]:=by rw[od];rfl
  have JW:∀i,(gl i).length=i:=λi=>by rw[od];exact ah1 _ _ _
  refine cI ?_;refine gJ x.pieces.length (λi:Nat=>[(3,.sl (gl i).length ((gl i).map iv) (.opn (B.length+3))),(31,iv i)]) (λi=>B++[.cells x.l 76,.cells (D.l mp) 88,.part (n+1) (tl.map iv) 3,.tail (gl i).length 1 3]) (λi=>True) (λ_ _=>rfl) (by rw[BS];simp only[seval];simp[bA,Wk.refl]) (by rw[BS];rfl) (λ_ _ _=>by simp) trivial (λce db i cN _ R hR=> ?_);refine ak ?_;refine aE ?_;refine⟨λh=> ?_,λh=> ?_⟩
  ·have bx:i<x.pieces.length:=(by omega);obtain⟨v,hv,hv9,_⟩:=p_.num i bx;have BU:t.getD (4+i) 0=v:=(by rw[SF,hv];rfl);have b3:(0<=(i:Int)/\(i:Int)<4)=True:=(by simp;omega);have fL:SE.wrap ((i:Int)+1)=((i+1:Nat):Int):=(by rw[bG _ (by omega)];rfl);have Cl:SE.wrap ((v:Int)+x.first)=v+x.first:=bG _ (by omega);have JH:(D.l mp).drop (21+i)=iv v::((t.drop (4+i+1)).map iv++[]):=by
    have:=Ef Jz QZ hv;rw[show 21+i=17+(4+i) by omega];exact this
   have cZ:gl (i+1)=gl i++[(v:Int)+x.first]:=(by rw[od,od,ah2,BU]);have Q3:=JW i;refine aO ?_;refine ak ?_;refine eI 10 ?_;simp only[seval,z1,yY,A2,b3,JH,Cl,bN,bn3,bs3]
   first|refine⟨by decide,by omega,?_⟩|refine⟨by omega,?_⟩
   refine aj ?_;simp only[seval,fL];refine hR _ ⟨bx,trivial,?_⟩;rw[cZ,TE,SQ];exact dD
  ·have du:i=x.pieces.length:=(by omega);subst du;clear hR;refine b_ ?_
   (repeat apply gT);refine u6 (t:=4) (sz:=1) (el:=3) (by simp only[seval]<;>rfl) ?_
   have FJ:(gl x.pieces.length)=sk x t x.pieces.length:=od _;generalize gl x.pieces.length=nl at FJ⊢;refine aj ?_;simp only[seval,yY,tZ];obtain⟨go,hgo⟩:∃go:Nat->List Int,∀i,go i=so t i:=⟨_,λ_=>rfl⟩;have QJ:go 0=[]:=(by rw[hgo];rfl);have ajM:∀i,(go i).length=i:=λi=>(by rw[hgo];exact ah3 _ _);refine cI ?_;refine gJ x.aC.length (λi:Nat=>[(4,.sl (go i).length ((go i).map iv) (.opn (B.length+4))),(49,iv i)]) (λi=>B++[.cells x.l 76,.cells (D.l mp) 88,.part (n+1) (tl.map iv) 3,.tail nl.length 1 3,.tail (go i).length 1 3]) (λi=>True) (λ_ _=>rfl) (by rw[QJ];simp only[seval];simp[bA,Wk.refl]) (by rw[QJ];rfl) (λ_ _ _=>by simp) trivial (λce db i cN _ R hR=> ?_);refine ak ?_;refine aE ?_;refine⟨λh=> ?_,λh=> ?_⟩
   ·have bx:i<x.aC.length:=(by omega);obtain⟨v,hv,hv9⟩:=p_.own i bx;have BU:t.getD (8+i) 0=v:=(by rw[SF,hv];rfl);have b3:(0<=(i:Int)/\(i:Int)<3)=True:=(by simp;omega);have fL:SE.wrap ((i:Int)+1)=((i+1:Nat):Int):=(by rw[bG _ (by omega)];rfl);have JH:(D.l mp).drop (25+i)=iv v::((t.drop (8+i+1)).map iv++[]):=by
     have:=Ef Jz QZ hv;rw[show 25+i=17+(8+i) by omega];exact this
    have cZ:go (i+1)=go i++[(v:Int)]:=(by rw[hgo,hgo,ah4,BU]);have Q3:=ajM i;refine aO ?_;refine ak ?_;refine aj ?_;simp only[seval,z1,A2,b3,JH,bn4,bs4]
    first|refine⟨by decide,by omega,?_⟩|refine⟨by omega,?_⟩
    refine aj ?_;simp only[seval,fL];refine hR _ ⟨bx,trivial,?_⟩;rw[cZ,TE,SQ];exact dD
   ·have du:i=x.aC.length:=(by omega);subst du;clear hR;refine b_ ?_;have R5:(go x.aC.length)=so t x.aC.length:=hgo _;generalize go x.aC.length=ol at R5⊢;refine ak ?_;refine a_ ?_;rw[<- FJ,<- R5]at cE;exact fz _ tl nl ol .shut _ _ 0 cE
end
open Go.Conc Go.Proofs Go.Gg.Tk
namespace Tk
def aaD (n:Int)(o k:Int):Int:=xO [o,max (k-n) (n-k)]
def CJ (l:List Int)(n:Int)(o:Int):Int:=l.foldl (aaD n) o
def qD (own q:Nat)(m:Int×Nat)(t:List Int):Int×Nat:=if m.2.testBit (mi t q)then m else(CJ (fB own 0 16) (mi t q) m.1,m.2|||2^mi t q)
def uV (x:ai)(y:aB)(q:Nat)(o:Int)(h:List Int):Int:=if bW h y=0 then o else((jf x 1 h).foldl (qD (bW h y) q) (o,0)).1
def yr (x:ai)(y:aB)(q:Nat):Nat->Int
 |0=> -1
 |i+1=>(kx x i).foldl (uV x y q) (yr x y q i)
def HJ (x:ai)(i:Nat):List aa:=[.cells x.l 76,.cells [iv i] 3,.obj (.deferred (some [])),.gone]
def oI (x:ai):Nat->List aa
 |0=>[]
 |i+1=>oI x i++HJ x i
def wL (n:Nat):Nat->List Nat
 |0=>[]
 |i+1=>(n+4* i+2)::wL n i
theorem HK(x:ai):∀i,(oI x i).length=4* i
 |0=>rfl
 |i+1=>by rw[oI,SQ,HK x i];rfl
theorem NH(x:ai)(B:List aa):∀(i:Nat)(L:List aa),∃Y,iC (wL B.length i) (B++oI x i++L)=some (B++Y)
 |0,L=>⟨oI x 0++L,by rw[wL,yN,SD]⟩
 |i+1,L=>by
  have hl:(B++oI x i).length=B.length+4* i:=by rw[SQ,HK]
  have e:B++oI x (i+1)++L=(B++oI x i)++(HJ x i++L):=by rw[oI];simp
  have hg:((B++oI x i)++(HJ x i++L))[B.length+4* i+2]?=some (.obj (.deferred (some []))):=by rw[<- hl,aW];rfl
  obtain⟨Y,hY⟩:=NH x B i ([.cells x.l 76,.cells [iv i] 3,.gone,.gone]++L);refine⟨Y,?_⟩;rw[wL,e,yM hg,<- hl,dR];exact hY
end Tk
theorem ae6{lv:Bool}{P:SJ}{nt:Nat}{c:T5}{s:AS}{ms:List Nat}{Φ:an->AS->List Nat->Prop}(h:kg lv P nt [] c s ms Φ):mm lv P nt c s ms Φ:=λE V a Q ah hd hQ=>
 h E V a Q ah ⟨by rw[SY];exact hd.1,hd.2⟩ λae e E' V' a' s' cz hk aS cw he hΦ=>hQ ae e E' V' a' s' cz hk aS ⟨by have:=cw.1;rwa [SY]at this,cw.2⟩ he hΦ
section
variable {lv:Bool}{H:List aa}{k kp:AV->List aa->Prop}
theorem ahx{x:ai}{s q:Nat}{y:aB}(hx:x.Ok)(hs:x.aC[s]?=some y)(hq:q<x.pieces.length)(hk:∀o:Int,o=yr (x.wo [(s:Int)]) y q (x.am.toNat+1)->k (.aK [iv (if o<0 then 0 else o),iv (if o<0 then 11 else 0)]) H):bc lv SC 31 H [x.av,iv s,iv q] k kp:=by
 refine Pz (rs:=[.tmp 6,.tmp 7]) (nt:=97) F.f31 rfl rfl rfl (by simp) λhH hA=> ?_;simp only[bk,SX,ai.av];have hp:=hx.am;have aP:=hx.eF;have nw:=hx.c_;have dL:=eM hs;have io:=abf hq;obtain⟨p,ew⟩:∃p:Nat,x.am=p:=⟨x.am.toNat,by omega⟩;obtain⟨w,hw⟩:∃w,w=x.wo [(s:Int)]:=⟨_,rfl⟩;have KY:w.Ok:=by rw[hw];exact hx.wo _
 have bN:x.l=[iv x.first,iv x.hours,iv x.am,dN x.seen,aY x.pieces,aY x.aC]:=rfl;have gf:∀(L:List aa)(j:Nat),(H++L)[H.length+j]?=L[j]?:=λL j=>aW H L j;have zt:∀(L:List aa)(j:Nat)(y:aa),(H++L).set (H.length+j) y=H++L.set j y:=λL j y=>dR H L j y;have aQ:∀(L:List aa),(H++L)[H.length]?=L[0]?:=λL=>aW H L 0;have c9:∀(L:List aa),(H++L)[H.length+1]?=L[1]?:=λL=>aW H L 1;have kT:∀(L:List aa),(H++L)[H.length+2]?=L[2]?:=λL=>aW H L 2;have tZ:∀(L:List aa),(H++L)[H.length+5]?=L[5]?:=λL=>aW H L 5;have KE:∀(L:List aa)(y:aa),(H++L).set (H.length+5) y=H++L.set 5 y:=λL y=>dR H L 5 y;have hd6:∀(L:List aa),(H++L)[H.length+6]?=L[6]?:=λL=>aW H L 6;have hs6:∀(L:List aa)(y:aa),(H++L).set (H.length+6) y=H++L.set 6 y:=λL y=>dR H L 6 y;have bt:x.l.length=6:=rfl;have eC:T_ 6 x.l=x.l:=rfl;have QB:Ue 5 x.l=[.sl x.aC.length (x.aC.flatMap aB.l) .shut]:=rfl;have BM:Ue 2 x.l=[iv x.am,dN x.seen,aY x.pieces,aY x.aC]:=rfl;have nd:(1<=2^24)=True:=eq_true (by decide);(try refine mY ?_);refine ak ?_;(try refine mY ?_);refine aj ?_;simp only[seval,aQ,bt,eC];refine aJ ((IJ (x:=x) hx ?_));(try simp only[seval]);(try refine mY ?_);refine aj ?_;simp only[seval,show ((0:Int)!=0)=false from rfl];(try refine mY ?_);refine aE ?_;refine aO ?_;(try refine mY ?_);refine aj ?_;simp only[seval,z1,nd,aQ,kT,bt,eC];refine aJ ((nU (x:=x) (ns:=[(q:Int)]) ?_));have bP:SE.wrap ((x.aC.length:Int)-1)=(x.aC.length:Int)-1:=bG _ (by omega);have ho1:(decide ((s:Int)<0)||decide ((s:Int)>(x.aC.length:Int)-1))=false:=by simp;omega
 (try simp only[seval]);refine aJ ((IM (x:=x) (ns:=[(q:Int)]) (e:=.exact) (il:=H.length+4) (ir:=H.length+3) hx (by simp) (by rw[gf];rfl) (by rw[gf];rfl) ?_));rw[io];(try simp only[seval,aQ,c9,QB,bP]);refine aJ ((sj (n:=s) (lo:=0) (hi:=(x.aC.length:Int)-1) ?_));rw[ho1];(try simp only[seval]);(try refine mY ?_);refine aE ?_;refine aO ?_;(try refine mY ?_);have ai8:th [(s:Int)] x.aC.length:=λi n hn=>by
  match i,hn with
  |0,hn=>cases hn;simp;omega
 refine aj ?_;simp only[seval,z1,nd,aQ,c9,bt,eC];refine aJ ((Pg (x:=x) (ns:=[(s:Int)]) aP ai8 ?_));rw[<- hw];have rj:w.l.length=6:=rfl;have un:T_ 6 w.l=w.l:=rfl;have Q6:w.l=[iv w.first,iv w.hours,iv w.am,dN w.seen,aY w.pieces,aY w.aC]:=rfl;have K2:Ue 6 [AV.val (SG SE 0),AV.val (SG SE 0),AV.val (SG SE 0),AV.sl 0 [] .exact,AV.sl 0 [] .exact,AV.sl 0 [] .exact]=[]:=rfl;(try simp only[seval,ai.av,rj,un,tZ,KE,hd6,hs6,K2]);refine⟨kF w,?_⟩;have gY:SE.wrap (x.am+1)=((p+1:Nat):Int):=by rw[ew,bG _ (by omega)];rfl
 refine HT ?_;refine mY ?_;refine aj ?_;simp only[seval,aQ,BM,gY];obtain⟨Bo,qM⟩:∃Bo:Int->List aa,∀o,Bo o=H++[.cells x.l 26,.cells [iv s] 3,.cells [iv q] 3,.cells x.l 26,.cells [.sl 1 [iv q] .exact] 22,.cells w.l 76,.cells [iv o] 3]:=⟨_,λ_=>rfl⟩;have fJ:∀o,(Bo o).length=H.length+7:=λo=>by rw[qM];simp
 have b0:∀o L,(Bo o++L)[H.length]?=some (.cells x.l 26):=λo L=>by rw[qM,SD,aQ];rfl
 have b1:∀o L,(Bo o++L)[H.length+1]?=some (.cells [iv s] 3):=λo L=>by rw[qM,SD,gf];rfl
 have b2:∀o L,(Bo o++L)[H.length+2]?=some (.cells [iv q] 3):=λo L=>by rw[qM,SD,gf];rfl
 have b5:∀o L,(Bo o++L)[H.length+5]?=some (.cells w.l 76):=λo L=>by rw[qM,SD,gf];rfl
 have b6:∀o L,(Bo o++L)[H.length+6]?=some (.cells [iv o] 3):=λo L=>by rw[qM,SD,gf];rfl
 have s6:∀o o' L,(Bo o++L).set (H.length+6) (.cells [iv o'] 3)=Bo o'++L:=λo o' L=>by rw[qM,qM,SD,SD,zt];rfl
 obtain⟨fo,vG⟩:∃fo:Nat->Int,∀i,fo i=yr w y q i:=⟨_,λ_=>rfl⟩;refine ae6 ?_;refine wN ?_;refine N2 (measure λi=>p+1-i).wf (λi:Nat=>⟨[(45,iv i),(44,iv ((p+1:Nat):Int)),(3,.op H.length 0),(4,.op (H.length+1) 0),(5,.op (H.length+2) 0),(9,.op (H.length+5) 0),(10,.op (H.length+6) 0)],Bo (fo i)++oI w i⟩) (λi=>wL (H.length+7) i) (λi=>i<=p+1) 0 (fF (by simp only[seval];simp[bA,Wk.refl]) (by rw[qM,vG];show _=_++[];rw[SY];rfl)) rfl (by omega) λi oe=> ?_;obtain⟨N,hN⟩:∃N,N=H.length+7+4* i:=⟨_,rfl⟩;obtain⟨AO,pG⟩:∃AO:Int->List aa,∀o,AO o=Bo o++oI w i:=⟨_,λ_=>rfl⟩;have pH:∀o,(AO o).length=N:=λo=>by rw[pG,SQ,fJ,HK,hN]
 have a0:∀o L,(AO o++L)[H.length]?=some (.cells x.l 26):=λo L=>by rw[pG,SD];exact b0 _ _
 have a1:∀o L,(AO o++L)[H.length+1]?=some (.cells [iv s] 3):=λo L=>by rw[pG,SD];exact b1 _ _
 have a2:∀o L,(AO o++L)[H.length+2]?=some (.cells [iv q] 3):=λo L=>by rw[pG,SD];exact b2 _ _
 have a5:∀o L,(AO o++L)[H.length+5]?=some (.cells w.l 76):=λo L=>by rw[pG,SD];exact b5 _ _
 have a50:∀o,(AO o)[H.length+5]?=some (.cells w.l 76):=λo=>by have:=a5 o [];rwa [SY]at this
 have a6:∀o L,(AO o++L)[H.length+6]?=some (.cells [iv o] 3):=λo L=>by rw[pG,SD];exact b6 _ _
 have as6:∀o o' L,(AO o++L).set (H.length+6) (.cells [iv o'] 3)=AO o'++L:=λo o' L=>by rw[pG,pG,SD,SD];exact s6 _ _ _
 have ag:∀o (L:List aa)(j:Nat),(AO o++L)[N+j]?=L[j]?:=λo L j=>by rw[<- pH o,aW]
 have tE:∀o (L:List aa)(j:Nat)(y:aa),(AO o++L).set (N+j) y=AO o++L.set j y:=λo L j y=>by rw[<- pH o,dR]
 have LY:∀m o o',(∀z∈AO o,eY m z)->∀z∈AO o',eY m z:=λm o o' hz z eW=>by
  rw[pG,qM]at hz eW;simp only[SS]at eW;rcases eW with(h'|h')|h'
  ·exact hz z (by simp[h'])
  ·simp only[SL,S4,or_false]at h';rcases h' with rfl|rfl|rfl|rfl|rfl|rfl|rfl
   ·exact hz _ (by simp)
   ·exact hz _ (by simp)
   ·exact hz _ (by simp)
   ·exact hz _ (by simp)
   ·exact hz _ (by simp)
   ·exact hz _ (by simp)
   ·intro a ha;rw[S8]at ha;subst ha;exact .val _
  ·exact hz z (by simp[h'])
 have okX:∀(X:List aa) o o',bM (AO o++X)->bM (AO o'++X):=λX o o' hX z hz=>by
  have hlen:(AO o'++X).length=(AO o++X).length:=by simp[pH]
  rw[hlen];rcases SS.1 hz with h'|h'
  ·exact LY _ o o' (λz hz=>hX z (Tg _ hz)) z h'
  ·exact hX z (S5 _ h')
 rw[<- pG];refine r_ ?_;refine ak ?_;refine r_ ?_;refine aE ?_;refine⟨λhc=> ?_,λhc=> ?_⟩
 ·have pM:i<=3:=by omega
  have Jb:=Dc KY i pM;refine aO ?_;refine D3 ?_;refine wN ?_;refine r_ ?_;refine ak ?_;refine r_ ?_;refine aj ?_;simp only[seval,a50,Q6];refine aJ ((IK (x:=w) (n:=i) ?_));rw[pH];(try simp only[seval]);refine wN ?_;refine HU (by rfl) λl fn T NG bo hT xc pK=> ?_;(try simp only[seval]);rw[pH];have hY:jI lv SC (.fn (.yield l) [] []) (λo h=> .go (uV w y q o h)) (λo=>AO o++[.cells w.l 76,.cells [iv i] 3,.obj (.deferred (some [])),.loop l .ready none fn T 97 #[51] NG bo (N+2)]) (N+4) (λ_=>True) (λh=>mo h/\∀ns∈fS w h,∀a∈(hO w h ns).map (dx h ns),jj w a) (.aK []):=by
   refine⟨λo h M k kp _ ha dE=> ?_,λ_ _ _ _ _ _=>trivial,λo=>by simp[pH],λm o o' hz z eW=> ?_,rfl,rfl,rfl⟩
   ·obtain⟨oR,Cj⟩:=ha;have h4:=oR.len;have nf:(h.map iv).length=4:=(by rw[Tn,h4]);simp only[cU]at dE;obtain⟨Lo,kR⟩:∃Lo,Lo=aa.loop l .busy none fn T 97 #[51] NG bo (N+2):=⟨_,rfl⟩;obtain⟨C,hC⟩:∃C,C=N+4+M.length:=⟨_,rfl⟩;obtain⟨P1,dq⟩:∃P1:Int->List aa,∀o,P1 o=AO o++([.cells w.l 76,.cells [iv i] 3,.obj (.deferred (some [])),Lo]++M):=⟨_,λ_=>rfl⟩;have ej:∀o,(P1 o).length=C:=λo=>(by rw[dq,hC];simp[pH];omega);have p0:∀o L,(P1 o++L)[H.length]?=some (.cells x.l 26):=λo L=>(by rw[dq,SD];exact a0 _ _);have p1:∀o L,(P1 o++L)[H.length+1]?=some (.cells [iv s] 3):=λo L=>(by rw[dq,SD];exact a1 _ _);have p2:∀o L,(P1 o++L)[H.length+2]?=some (.cells [iv q] 3):=λo L=>(by rw[dq,SD];exact a2 _ _);have p5:∀o L,(P1 o++L)[H.length+5]?=some (.cells w.l 76):=λo L=>(by rw[dq,SD];exact a5 _ _);have p6:∀o L,(P1 o++L)[H.length+6]?=some (.cells [iv o] 3):=λo L=>(by rw[dq,SD];exact a6 _ _);have ps6:∀o o' L,(P1 o++L).set (H.length+6) (.cells [iv o'] 3)=P1 o'++L:=λo o' L=>(by rw[dq o,dq o',SD (AO o),SD (AO o')];exact as6 _ _ _);have Ma:∀o L,(P1 o++L)[N+3]?=some Lo:=λo L=>(by rw[dq,SD,ag];rfl);have Ms:∀o (L:List aa) y,(P1 o++L).set (N+3) y=AO o++([.cells w.l 76,.cells [iv i] 3,.obj (.deferred (some [])),y]++M)++L:=λo L y=>(by rw[dq,SD,tE];simp);have pb:∀o (L:List aa)(j:Nat),(P1 o++L)[C+j]?=L[j]?:=λo L j=>(by rw[<- ej o,aW]);have v_:∀o (L:List aa),(P1 o++L)[C]?=L[0]?:=λo L=>pb o L 0;have pb1:∀o (L:List aa),(P1 o++L)[C+1]?=L[1]?:=λo L=>pb o L 1;have pb2:∀o (L:List aa),(P1 o++L)[C+2]?=L[2]?:=λo L=>pb o L 2;have zV:∀o (L:List aa)(j:Nat)(y:aa),(P1 o++L).set (C+j) y=P1 o++L.set j y:=λo L j y=>(by rw[<- ej o,dR]);have ps1:∀o (L:List aa)(y:aa),(P1 o++L).set (C+1) y=P1 o++L.set 1 y:=λo L y=>zV o L 1 y;have ps2:∀o (L:List aa)(y:aa),(P1 o++L).set (C+2) y=P1 o++L.set 2 y:=λo L y=>zV o L 2 y;have zL:∀m o o',(∀z∈P1 o,eY m z)->∀z∈P1 o',eY m z:=λm o o' hz z eW=>by
     rw[dq]at hz eW;rcases SS.1 eW with h'|h'
     ·exact LY m o o' (λz up=>hz z (Tg _ up)) z h'
     ·exact hz z (S5 _ h')
    subst hT xc pK;rw[SD];refine vc (id:=N+3) (by rw[ag];rfl) rfl (by kernel_rfl) λnX Jc=> ?_;simp only[rM];have vD:Ue 4 [iv 0,iv 0,iv 0,iv 0]=[]:=rfl;refine aj ?_;simp only[seval,h4,vD];unfold tz;refine⟨none,fn,_,97,#[51],_,_,_,by rw[ag];rfl,?_⟩;dsimp only;rw[tE];simp only[UA,TY];rw[<- kR];have w9:(AO o).length+(M.length+1+1+1+1)=C:=(by rw[pH,hC];omega);rw[w9];have xo:∀z:aa,(AO o++aa.cells w.l 76::aa.cells [AV.val (SG SE ↑i)] 3::aa.obj (atm (some []))::Lo::(M++[z]))=P1 o++[z]:=λz=>(by rw[dq];simp[iv]);rw[xo];obtain⟨own,gX⟩:∃own,own=bW h y:=⟨_,rfl⟩;refine cI ?_;refine qE [7,8] [0,1,2,3,4,5,6,7,8] [⟨0,false,[],[([7],[7])]⟩,⟨1,false,[],[([7],[7])]⟩,⟨2,false,[],[([7],[7])]⟩,⟨3,false,[],[([7],[7])]⟩,⟨4,false,[],[([7],[7])]⟩,⟨5,false,[],[([7],[7])]⟩,⟨6,false,[],[([7],[7])]⟩,⟨7,true,[7],[]⟩,⟨8,true,[7,8],[]⟩] (λD=>bif isDone 8 D then P1 o++[.cells (h.map iv) 83,.cells [wv own] 79]else bif isDone 7 D then P1 o++[.cells (h.map iv) 83,.cells [.val (.int .u16 0)] 79]else P1 o++[.cells (h.map iv) 83]) ?_;simp only[seval,ej,v_,pb1,ps1,p0,p1,h4,nf,QB,C3 hs,jl dL];have hmE:T_ 4 (U4 (λn=>AV.val (SG SE n)) h)=h.map iv:=SW (by rw[nf];exact SP _);rw[hmE];refine iy (wv own) (cJ (Eh (h:=h) (y:=y) oR ⟨by rw[gX],rfl⟩)) ?_;refine⟨iy (wv own) (cJ (Eh (h:=h) (y:=y) oR ⟨by rw[gX],rfl⟩)) rfl,?_⟩;(try simp only[seval,wv]);have hm3:U4 (λn=>AV.val (SG SE n)) h=h.map iv:=rfl;rw[hm3];refine aj ?_;simp only[seval,pb1];refine aE ?_;refine⟨λhz=> ?_,λhz=> ?_⟩
    ·refine b_ ?_;have eW:own=0:=(by simpa using hz);have e1:uV w y q o h=o:=(by unfold uV;rw[<- gX,if_pos eW]);rw[e1]at dE;show oF _ _ _ _ _ _ _;refine⟨l,.busy,none,fn,_,97,#[51],_,_,N+2,by show (P1 _++_)[_]?=_;rw[Ma,kR],?_⟩;show cD C ((P1 _++_).set _ _) _ k;rw[Ms];rw[SD]at dE;exact jN (G:=[.cells (h.map iv) 83,.cells [wv own] 79]) (Wk.refl _) rfl (by rw[hC];simp[pH];omega) nX (.val _) dE
    ·refine aO ?_;refine aj ?_;simp only[seval,ej];refine aj ?_;simp only[seval,p5,v_,Q6,h4,nf];have aj2:T_ 4 (U4 iv h)=h.map iv:=SW (by rw[nf];exact SP _);rw[aj2];refine aJ ((IL (x:=w) (h:=h) (deep:=1) ?_));(try simp only[seval]);have eW:own≠0:=(by simpa using hz);have ake:own<65536:=by
      rw[gX];have:bW h y<2^9:=D4;omega
     refine cI ?_;refine D1 (N+3) (by rfl) (by show (P1 _++_)[N+3]?=_;rw[Ma,kR]) λl2 eK T2 gw gz nY xd xg=> ?_;simp only[seval];rw[ej]at nY⊢;have okm:∀v m m',(∀z∈[aa.cells (h.map iv) 83,.cells [wv own] 79,.cells [wv m] 79,.cells w.l 76,.cells (h.map iv) 83,.cells [iv 1] 3,.loop l2 .ready none eK T2 97 #[64] gw gz (N+2)],eY v z)->∀z∈[aa.cells (h.map iv) 83,.cells [wv own] 79,.cells [wv m'] 79,.cells w.l 76,.cells (h.map iv) 83,.cells [iv 1] 3,.loop l2 .ready none eK T2 97 #[64] gw gz (N+2)],eY v z:=λv m m' hz z eW=>by
      simp only[SL,S4,or_false]at eW;rcases eW with rfl|rfl|rfl|rfl|rfl|rfl|rfl
      ·exact hz _ (by simp)
      ·exact hz _ (by simp)
      ·intro a ha;rw[S8]at ha;subst ha;exact .val _
      ·exact hz _ (by simp)
      ·exact hz _ (by simp)
      ·exact hz _ (by simp)
      ·exact hz (.loop l2 .ready none eK T2 97 #[64] gw gz (N+2)) (by simp)
     have xb:jI lv SC (.fn (.yield l2) [] []) (λm t=> .go (qD own q m t)) (λm:Int×Nat=>P1 m.1++[.cells (h.map iv) 83,.cells [wv own] 79,.cells [wv m.2] 79,.cells w.l 76,.cells (h.map iv) 83,.cells [iv 1] 3,.loop l2 .ready none eK T2 97 #[64] gw gz (N+2)]) (C+7) (λm=>m.2<65536) (jj w) (.aK []):=by
      refine⟨λm t M2 k2 xM hm ht kX=> ?_,λm t m' hm ht he=> ?_,λm=>by simp[ej],λv m m' hz z eW=> ?_,rfl,rfl,rfl⟩
      ·obtain⟨o2,met⟩:=m;replace hm:met<65536:=hm;have p9:=ht.len;have zw:(t.map iv).length=11:=(by rw[Tn,p9]);simp only[cU]at kX;have FH:w.pieces.length=x.pieces.length:=(by rw[hw];rfl);obtain⟨n,lH,hn9,_⟩:=ht.num q (by rw[FH];exact hq);have Fz:mi t q=n:=(by unfold mi;rw[SF,lH];rfl);obtain⟨pw,su⟩:∃Lo,Lo=aa.loop l2 .busy none eK T2 97 #[64] gw gz (N+2):=⟨_,rfl⟩;obtain⟨D,hD⟩:∃D,D=C+7+M2.length:=⟨_,rfl⟩;obtain⟨Q1,fZ⟩:∃Q1:Int->Nat->List aa,∀o m,Q1 o m=P1 o++([.cells (h.map iv) 83,.cells [wv own] 79,.cells [wv m] 79,.cells w.l 76,.cells (h.map iv) 83,.cells [iv 1] 3,pw]++M2):=⟨_,λ_ _=>rfl⟩;have P9:∀o m,(Q1 o m).length=D:=λo m=>(by rw[fZ,hD];simp[ej];omega);have q2:∀o m L,(Q1 o m++L)[H.length+2]?=some (.cells [iv q] 3):=λo m L=>(by rw[fZ,SD];exact p2 _ _);have q6:∀o m L,(Q1 o m++L)[H.length+6]?=some (.cells [iv o] 3):=λo m L=>(by rw[fZ,SD];exact p6 _ _);have qs6:∀o o' m L,(Q1 o m++L).set (H.length+6) (.cells [iv o'] 3)=Q1 o' m++L:=λo o' m L=>(by rw[fZ o,fZ o',SD (P1 o),SD (P1 o')];exact ps6 _ _ _);have qo:∀o m L,(Q1 o m++L)[C+1]?=some (.cells [wv own] 79):=λo m L=>(by rw[fZ,SD,pb];rfl);have qm:∀o m L,(Q1 o m++L)[C+2]?=some (.cells [wv m] 79):=λo m L=>(by rw[fZ,SD,pb];rfl);have qsm:∀o m m' L,(Q1 o m++L).set (C+2) (.cells [wv m'] 79)=Q1 o m'++L:=λo m m' L=>(by rw[fZ o m,fZ o m',SD (P1 o),zV,SD (P1 o)];rfl);have ql:∀o m L,(Q1 o m++L)[C+6]?=some pw:=λo m L=>(by rw[fZ,SD,pb];rfl);have qsl:∀o m L y,(Q1 o m++L).set (C+6) y=(P1 o++([.cells (h.map iv) 83,.cells [wv own] 79,.cells [wv m] 79,.cells w.l 76,.cells (h.map iv) 83,.cells [iv 1] 3,y]++M2))++L:=λo m L y=>(by rw[fZ,SD,zV];simp);have qc:∀o m (L:List aa),(Q1 o m++L)[D]?=L[0]?:=λo m L=>(by rw[<- P9 o m];exact aW _ L 0);have Gr:∀o (L:List aa),(P1 o++L)[C+6]?=L[6]?:=λo L=>pb o L 6;have vF:∀(o':Int)(m':Nat)(G:List aa),bM (P1 o2++([aa.cells (h.map iv) 83,.cells [wv own] 79,.cells [wv met] 79,.cells w.l 76,.cells (h.map iv) 83,.cells [iv 1] 3,.loop l2 .ready none eK T2 97 #[64] gw gz (N+2)]++M2))->k2 (.val (.bool true)) (P1 o'++([aa.cells (h.map iv) 83,.cells [wv own] 79,.cells [wv m'] 79,.cells w.l 76,.cells (h.map iv) 83,.cells [iv 1] 3,.loop l2 .ready none eK T2 97 #[64] gw gz (N+2)]++M2))->cD D ((Q1 o' m'++G).set (C+6) (.loop l2 .ready none eK T2 97 #[64] gw gz (N+2))) (.val (.bool true)) k2:=λo' m' G ay aI=>by
        rw[qsl];refine jN (G:=G) (Wk.refl _) rfl (by rw[hD];simp[ej];omega) ?_ (.val _) aI;intro z hz;have hlen:(P1 o'++([aa.cells (h.map iv) 83,.cells [wv own] 79,.cells [wv m'] 79,.cells w.l 76,.cells (h.map iv) 83,.cells [iv 1] 3,.loop l2 .ready none eK T2 97 #[64] gw gz (N+2)]++M2)).length=(P1 o2++([aa.cells (h.map iv) 83,.cells [wv own] 79,.cells [wv met] 79,.cells w.l 76,.cells (h.map iv) 83,.cells [iv 1] 3,.loop l2 .ready none eK T2 97 #[64] gw gz (N+2)]++M2)).length:=(by simp[ej]);rw[hlen];rcases SS.1 hz with h'|h'
        ·exact zL _ o2 o' (λz hz=>ay z (Tg _ hz)) z h'
        ·rcases SS.1 h' with h'|h'
         ·exact okm _ met m' (λz hz=>ay z (S5 _ (Tg _ hz))) z h'
         ·exact ay z (S5 _ (S5 _ h'))
       subst nY xd xg;rw[SD];refine vc (id:=C+6) (by rw[Gr];rfl) rfl (by kernel_rfl) λqP Jd=> ?_;simp only[rM];have BM:Ue 11 [iv 0,iv 0,iv 0,iv 0,iv 0,iv 0,iv 0,iv 0,iv 0,iv 0,iv 0]=[]:=rfl;refine aj ?_;simp only[seval,p9,BM];unfold tz;refine⟨none,eK,_,97,#[64],_,_,_,by rw[Gr];rfl,?_⟩;dsimp only;rw[zV];simp only[UA,TY];rw[<- su];have Bp:(P1 o2).length+(M2.length+1+1+1+1+1+1+1)=D:=(by rw[ej,hD];omega);rw[Bp];have iG:∀z:aa,(P1 o2++aa.cells (U4 iv h) 83::aa.cells [AV.val (SG S6 ↑own)] 79::aa.cells [AV.val (SG S6 ↑met)] 79::aa.cells w.l 76::aa.cells (U4 iv h) 83::aa.cells [AV.val (SG SE 1)] 3::pw::(M2++[z]))=Q1 o2 met++[z]:=λz=>(by rw[fZ];simp[iv]);rw[iG];have b4:(0<=(q:Int)/\(q:Int)<4)=True:=(by simp;omega);have oP:=kL (i:=4+q) lH;refine aj ?_;simp only[seval,q2,qc,b4,oP];refine aj ?_;simp only[seval,qm];refine aJ ((wY (m:=met) (n:=n) hm ?_));(try simp only[seval]);refine aE ?_;refine⟨λhb=> ?_,λhb=> ?_⟩
       ·refine b_ ?_;have e1:qD own q (o2,met) t=(o2,met):=(by unfold qD;rw[Fz,if_pos hb]);rw[e1]at kX;rw[SD]at kX;show oF _ _ _ _ _ _ _;refine⟨l2,.busy,none,eK,_,97,#[64],_,_,N+2,by show (Q1 _ _++_)[_]?=_;rw[ql,su],?_⟩;exact vF o2 met _ qP kX
       ·refine aO ?_;have dB:met.testBit n=false:=(by simpa using hb);have e1:qD own q (o2,met) t=(CJ (fB own 0 16) n o2,met|||2^n):=(by unfold qD;rw[Fz,if_neg (by simpa using hb)]);rw[e1]at kX;rw[SD]at kX;refine aj ?_;simp only[seval,qm];refine aJ ((tP (m:=met) (n:=n) hm (by omega) ?_));(try simp only[seval,qm,qsm,wv]);refine aj ?_;simp only[seval,qo];refine aJ ((II (s:=own) (more:=0) ake (by decide) ?_));(try simp only[seval,br]);have Q2:∀v∈fB own 0 16,0<=v/\v<16:=λv hv=>by
         unfold fB at hv;obtain⟨j,hj,rfl⟩:=Tm.1 hv;have:=TG.1 (Un.1 hj).1;omega
        have im:=LH own 0 16;generalize fB own 0 16=ls at Q2 im kX⊢;obtain⟨oj,kz⟩:∃oj:Nat->Int,∀j,oj j=CJ (ls.take j) n o2:=⟨_,λ_=>rfl⟩;have akg:oj 0=o2:=(by rw[kz];rfl);generalize met|||2^n=aaw at kX⊢;refine cI ?_;refine gJ ls.length (λj:Nat=>[(78,iv j)]) (λj=>Q1 (oj j) aaw++[.cells (t.map iv) 86]) (λ_=>True) (λ_ _=>rfl) (by simp only[seval];simp[bA,Wk.refl]) (by rw[akg]) (λ_ _ _=>by simp[P9]) trivial (λce db j oS _ R hR=> ?_);clear ce db;refine ak ?_;refine aE ?_;refine⟨λh1=> ?_,λh1=> ?_⟩
        ·have e_:j<ls.length:=(by omega);obtain⟨v,hv⟩:=cy e_;have hvb:=Q2 v (uB hv);have cZ:oj (j+1)=aaD n (oj j) v:=by
          rw[kz,kz,CJ,CJ];obtain⟨ajU,xF⟩:=SM.1 hv;rw[VZ ajU,ZK,xF];rfl
         have hwa:SE.wrap (v-(n:Int))=v-n:=bG _ (by omega);have FG:SE.wrap ((n:Int)-v)=n-v:=bG _ (by omega);have fL:SE.wrap ((j:Int)+1)=((j+1:Nat):Int):=(by rw[bG _ (by omega)];rfl);have aiY:(2<=2^24)=True:=eq_true (by decide);refine aO ?_;refine aj ?_;simp only[seval,gE hv,jl e_];refine aj ?_;simp only[seval,q6,z2,aiY,hwa,FG];have B3:(if v-(n:Int)<(n:Int)-v then(n:Int)-v else v-(n:Int))=max (v-n) (n-v):=(by split<;>omega);rw[B3];refine aJ ((ahJ (ns:=[oj j,max (v-n) (n-v)]) (by simp) ?_));(try simp only[seval,q6,qs6]);refine aj ?_;simp only[seval,fL];refine hR _ ⟨e_,trivial,?_⟩;rw[cZ];exact dD
        ·have xw:j=ls.length:=(by omega);subst xw;refine b_ ?_;show oF _ _ _ _ _ _ _;refine⟨l2,.busy,none,eK,_,97,#[64],_,_,N+2,by show (Q1 _ _++_)[_]?=_;rw[ql,su],?_⟩;exact vF (oj ls.length) aaw _ qP (by rw[kz,TJ];exact kX)
      ·cases he;show (qD own q m t).2<65536;unfold qD;split
       ·exact hm
       ·obtain⟨n,lH,hn9,_⟩:=ht.num q (by rw[hw];exact hq);have Fz:mi t q=n:=(by unfold mi;rw[SF,lH];rfl);rw[Fz];exact pj hm (wn (by omega))
      ·rcases SS.1 eW with h'|h'
       ·exact zL v m.1 m'.1 (λz up=>hz z (Tg _ up)) z h'
       ·exact okm v m.2 m'.2 (λz up=>hz z (S5 _ up)) z h'
     refine cJ (IQ (x:=w) (h:=h) (deep:=1) (ir:=C+3) (ih:=C+3+1) (id:=C+3+2) (σ:=(o,0)) KY oR xb (λm L=> ?_) (λm L=> ?_) (λm L=> ?_) (λn=>by simp[jz]) (show (0:Nat)<65536 by decide) (λa ha=>ha.len) Cj ?_)
     ·rw[SD];exact pb _ _ 3
     ·rw[SD];exact pb _ _ 4
     ·rw[SD];exact pb _ _ 5
     rw[CW (g:=qD own q) (λ_ _=>rfl)];simp only[fV,SY];have e1:uV w y q o h=((jf w 1 h).foldl (qD own q) (o,0)).1:=(by unfold uV;rw[<- gX,if_neg eW]);generalize(jf w 1 h).foldl (qD own q) (o,0)=r at e1⊢;rw[e1]at dE;have Gr:∀o (L:List aa),(P1 o++L)[C+6]?=L[6]?:=λo L=>pb o L 6;refine⟨.ready,none,_,_,_,_,_,_,_,by rw[Gr];rfl,by decide,?_⟩;rw[zV,Gu];(try simp only[seval]);show oF _ _ _ _ _ _ _;refine⟨l,.busy,none,fn,_,97,#[51],_,_,N+2,by show (P1 _++_)[_]?=_;rw[Ma,kR],?_⟩;show cD C ((P1 _++_).set _ _) _ k;rw[Ms];rw[SD]at dE;exact jN (G:=[.cells (h.map iv) 83,.cells [wv own] 79,.cells [wv r.2] 79,.cells w.l 76,.cells (h.map iv) 83,.cells [iv 1] 3,.gone]) (Wk.refl _) rfl (by rw[hC];simp[pH];omega) (okX _ o r.1 nX) (.val _) dE
   ·rcases SS.1 eW with h'|h'
    ·exact LY m o o' (λz up=>hz z (Tg _ up)) z h'
    ·exact hz z (S5 _ h')
  refine cJ (IN (x:=w) (bf:=i) (ir:=N) (it:=N+1) (σ:=fo i) KY hY (λo L=> ?_) (λo L=> ?_) pM (λn=>by simp[jz]) trivial (λa ha=>Jb a ha) ?_)
  ·rw[SD];exact ag _ _ 0
  ·rw[SD];exact ag _ _ 1
  rw[CW (g:=uV w y q) (λ_ _=>rfl)];simp only[fV,SY];have hfx:(kx w i).foldl (uV w y q) (fo i)=fo (i+1):=by rw[vG,vG,yr]
  rw[hfx];have xI:SE.wrap ((i:Int)+1)=((i+1:Nat):Int):=by rw[bG _ (by omega)];rfl
  refine⟨.ready,none,_,_,_,_,_,_,_,by show (AO _++_)[N+3]?=_;rw[ag];rfl,by decide,?_⟩;rw[show N+2+1=N+3 from rfl,tE,Gt];(try simp only[seval]);refine D2 ?_;refine aj ?_;simp only[seval,xI];refine⟨i+1,?_,by omega,fF (by push_cast;simp only[seval];simp[bA,Wk.refl]) (by rw[pG,oI,SD];rfl),by rw[wL,hN]⟩;show p+1-(i+1)<p+1-i;omega
 ·have du:i=p+1:=by omega
  subst du;refine b_ ?_;have HF:∀o,(AO o)[H.length+6]?=some (.cells [iv o] 3):=λo=>by have:=a6 o [];rwa [SY]at this
  have ny:x.am.toNat=p:=by omega
  rw[ny]at hk;have aI:=hk (fo (p+1)) (by rw[vG,hw]);generalize fo (p+1)=o at aI⊢;(try refine mY ?_);refine aj ?_;simp only[seval,HF];obtain⟨Y,vr⟩:=NH w (Bo o) (p+1) [];rw[SY,fJ]at vr;have Qg:iC (wL (H.length+7) (p+1)) (AO o)=some (H++([.cells x.l 26,.cells [iv s] 3,.cells [iv q] 3,.cells x.l 26,.cells [.sl 1 [iv q] .exact] 22,.cells w.l 76,.cells [iv o] 3]++Y)):=by rw[pG,vr,qM,SD]
  (try refine mY ?_);refine aE ?_;refine⟨λho=> ?_,λho=> ?_⟩
  ·have ba:o<0:=(by simpa using ho);rw[if_pos ba,if_pos ba]at aI;refine ak ?_;refine a_ ?_;refine d_ Qg ?_;(try simp only[seval]);exact jM hH (Wk.refl _) (by simp[jz,eD]) aI
  ·have ba:¬o<0:=(by simpa using ho);rw[if_neg ba,if_neg ba]at aI;refine aO ?_;refine HS ?_;have HF:∀o,(AO o)[H.length+6]?=some (.cells [iv o] 3):=λo=>(by have:=a6 o [];rwa [SY]at this);refine aj ?_;simp only[seval,HF];refine a_ ?_;refine d_ Qg ?_;(try simp only[seval]);exact jM hH (Wk.refl _) (by simp[jz,eD]) aI
end
open Go.Conc
section
variable (lv:Bool)(P:SJ)
def ww (s:AS)(o:Tv)(next:AS->Prop):Prop:=match o.op with
 |.buildSlice t len parts=>ao (qB P t) λ(e,sz,z)=>len* sz<=2^24/\ao (jX s parts.toList) λlU=>ao (nV (ig.at (.elems sz)) (gG z (len* sz)) lU) λl=>next ((⟨s.T,s.H++[.cells l e]⟩:AS).put o.dst (.bE s.H.length 0 len len))
 |.call c=>match c.callee with
  |.builtin .append=>match c.args.toList,c.argTypes.toList with
   |[x,y],[t,t']=>ao (jF P t t') λ(elem,sz,_)=>ao (s.ev x) λa=>ao (s.ev y) λb=>a.uZ λn l e=>e=.exact/\ao (s.src sz b) λ(m,l')=>l.length=n* sz/\l'.length=m* sz/\n+m<=2^30/\0<m/\next ((⟨s.T,s.H++[.own sz (l++l') elem]⟩:AS).put o.dst (.bE s.H.length 0 (n+m) 0))
   |_,_=>False
  |_=>False
 |_=>False
def qx (m:Nat):Nat->List Tv->AS->(AS->Prop)->(AV->AS->Prop)->Prop
 |_,[],s,K,_=>K s
 |k,o::rest,s,K,bad=>o.guard=none/\(bif k==m then ww P s o (λs'=>qx m (k+1) rest s' K bad)else ml lv P s o (λs'=>qx m (k+1) rest s' K bad) bad)
end
section
variable {lv:Bool}{P:SJ}{r:Option Nat}{s:AS}
theorem ww.step{o:Tv}{next:AS->Prop}{bad:AV->AS->Prop}(h:ww P s o next):Step lv P r o s next bad:=by
 unfold ww at h;split at h
 ·rename_i t len parts ho;obtain⟨⟨e,sz,z⟩,h1,h2,h⟩:=h.out;obtain⟨lU,h3,h⟩:=h.out;obtain⟨l,h4,h⟩:=h.out;exact aci ho h1 h2 h3 h4 h
 ·rename_i c ho;split at h
  ·rename_i aX;split at h
   ·rename_i x y t t' ha dQ;obtain⟨⟨elem,sz,z⟩,h1,hA⟩:=h.out;obtain⟨a,h2,hB⟩:=hA.out;obtain⟨b,h3,hC⟩:=hB.out;obtain⟨n,l,e,e1,e0,hD⟩:=NI hC;subst e1 e0;obtain⟨⟨m,l'⟩,h4,h5,h6,h7,h8,h9⟩:=hD.out;exact acg ho aX (mX ha) (rK dQ) h1 h2 h3 h4 h5 h6 h7 h8 h9
   ·exact h.elim
  ·exact h.elim
 ·exact h.elim
theorem qx.ab8{m:Nat}{K:AS->Prop}{bad:AV->AS->Prop}:∀(l:List Tv)(k:Nat)(s:AS),qx lv P m k l s K bad->AD lv P r l s K bad
 |[],k,s,h=>h
 |o::rest,k,s,h=>by
  obtain⟨h1,h2⟩:=h;refine⟨h1,?_⟩;have hs:∀{s'},qx lv P m (k+1) rest s' K bad->AD lv P r rest s' K bad:=λ{s'} h=>qx.ab8 rest (k+1) s' h;cases hkm:(k==m)<;>rw[hkm]at h2<;>simp only[cond_true,cond_false]at h2
  rotate_left
  ·exact(ww.step h2).mono (λ_ h=>hs h) (λ_ _ h=>h)
  ·exact(ml.sound (r:=r) h2).mono (λ_ h=>hs h) (λ_ _ h=>h)
theorem NV{nt id:Nat}{ops:Array Tv}{Φ:an->AS->Prop}(m:Nat)(hd:jL nt ops=true)(h:qx lv P m 0 ops.toList s (Φ .normal) (λpv s=>Φ (.panic pv) s)):aU lv P r nt (.region id ops false) s Φ:=aeV hd (h.ab8 ops.toList 0 s)
end
theorem adN:type_of% @ww.eq_1:=by intros;rw[ww.eq_1]
theorem amW:type_of% @qx.eq_1:=by intros;rw[qx.eq_1]
theorem amV:type_of% @qx.eq_2:=by intros;rw[qx.eq_2]
attribute [seval] adN amW amV
open Go.Proofs Go.Gg.Tk
namespace Tk
def fD:ai:=⟨10,3,2,[⟨2,⟨12,13⟩⟩],[⟨⟨10,12⟩,⟨0,1⟩⟩,⟨⟨11,11⟩,⟨0,2⟩⟩,⟨⟨12,15⟩,⟨1,2⟩⟩],[⟨⟨12,12⟩,⟨0,2⟩⟩,⟨⟨10,15⟩,⟨2,2⟩⟩]⟩
def sZ:ai:={fD with aC:=[⟨⟨15,15⟩,⟨0,0⟩⟩,⟨⟨10,15⟩,⟨2,2⟩⟩]}
end Tk
theorem adb:gG (TD #[SG .i64 0,SG .i64 0,SG .i64 0]) 3=[iv 0,iv 0,iv 0]:=rfl
theorem ada:gG (TD #[SG .i64 0,SG .i64 0,SG .i64 0,SG .i64 0]) 12=TN 12 (iv 0):=rfl
theorem ac9:gG (TD #[SG .i64 0,SG .i64 0,SG .i64 0,SG .i64 0]) 8=[iv 0,iv 0,iv 0,iv 0,iv 0,iv 0,iv 0,iv 0]:=rfl
theorem aby:TN 12 (iv 0)=[iv 0,iv 0,iv 0,iv 0,iv 0,iv 0,iv 0,iv 0,iv 0,iv 0,iv 0,iv 0]:=rfl
theorem aa8:(3<=2^24)=True:=eq_true (by decide)
theorem aa9:(8<=2^24)=True:=eq_true (by decide)
theorem aa7:(12<=2^24)=True:=eq_true (by decide)
section
variable {lv:Bool}{H:List aa}{k kp:AV->List aa->Prop}
theorem wX(hk:k fD.av H):bc lv SC 53 H [] k kp:=by
 refine bF (rs:=[.cell 0 26]) (nt:=11) ak' λhH hA=> ?_;simp only[bk,SX];refine ak ?_;refine ak ?_;refine aJ ((Ph (a:=2) (b:=12) (c:=13) ?_));(try simp only[seval,Seen.av,Seen.l,iP.av,adb,aa8]);refine aJ ((qJ (a:=10) (b:=12) (c:=0) (d:=1) ?_));(try simp only[seval]);refine aJ ((qJ (a:=11) (b:=11) (c:=0) (d:=2) ?_));(try simp only[seval]);refine aJ ((qJ (a:=12) (b:=15) (c:=1) (d:=2) ?_));(try simp only[seval,aB.av,aB.l,ada,aby,aa7]);refine aJ ((qJ (a:=12) (b:=12) (c:=0) (d:=2) ?_));(try simp only[seval]);refine aJ ((qJ (a:=10) (b:=15) (c:=2) (d:=2) ?_));have aQ:∀(L:List aa),(H++L)[H.length]?=L[0]?:=λL=>aW H L 0;have dw:∀(L:List aa)(y:aa),(H++L).set H.length y=H++L.set 0 y:=λL y=>dR H L 0 y;(try simp only[seval,aB.av,aB.l,ac9,aa9,aQ,dw]);refine nS ?_;simp only[seval,aQ];refine jM hH (b:=fD.av) (G3 (.cons (Wk.refl _) (.cons (Wk.refl _) (.cons (Wk.refl _) (.cons (iA _ _ _) (.cons (iA _ _ _) (.cons (iA _ _ _) .nil))))))) (by rw[F4];trivial) hk
theorem ahE(hk:∀X:aa,k (.agg [iv 10,iv 3,iv 2,.sl 1 (fD.seen.flatMap Seen.l) .exact,.sl 3 (fD.pieces.flatMap aB.l) .exact,.bE (H.length+1) 0 2 2]) (H++[X,.cells (fD.aC.flatMap aB.l) 48])):bc lv SC 53 H [] k kp:=by
 refine bF (rs:=[.cell 0 26]) (nt:=11) ak' λhH hA=> ?_;simp only[bk,SX];refine ak ?_
 (repeat apply gT);refine NV 8 (by kernel_rfl) ?_
 simp only[seval];refine aJ ((Ph (a:=2) (b:=12) (c:=13) ?_));(try simp only[seval,Seen.av,Seen.l,iP.av,adb,aa8]);refine aJ ((qJ (a:=10) (b:=12) (c:=0) (d:=1) ?_));(try simp only[seval]);refine aJ ((qJ (a:=11) (b:=11) (c:=0) (d:=2) ?_));(try simp only[seval]);refine aJ ((qJ (a:=12) (b:=15) (c:=1) (d:=2) ?_));(try simp only[seval,aB.av,aB.l,ada,aby,aa7]);refine aJ ((qJ (a:=12) (b:=12) (c:=0) (d:=2) ?_));(try simp only[seval]);refine aJ ((qJ (a:=10) (b:=15) (c:=2) (d:=2) ?_));have aQ:∀(L:List aa),(H++L)[H.length]?=L[0]?:=λL=>aW H L 0;have dw:∀(L:List aa)(y:aa),(H++L).set H.length y=H++L.set 0 y:=λL y=>dR H L 0 y;(try simp only[seval,aB.av,aB.l,ac9,aa9,aQ,dw]);refine nS ?_;simp only[seval,aQ];exact bT (hk _)
theorem ahF(hk:k sZ.av H):bc lv SC 54 H [] k kp:=by
 refine bF (rs:=[.cell 0 26]) (nt:=8) Tryz.f54 λhH hA=> ?_;simp only[bk,SX];have gf:∀(L:List aa)(j:Nat),(H++L)[H.length+j]?=L[j]?:=λL j=>aW H L j;have zt:∀(L:List aa)(j:Nat)(y:aa),(H++L).set (H.length+j) y=H++L.set j y:=λL j y=>dR H L j y;have aQ:∀(L:List aa),(H++L)[H.length]?=L[0]?:=λL=>aW H L 0;have dw:∀(L:List aa)(y:aa),(H++L).set H.length y=H++L.set 0 y:=λL y=>dR H L 0 y;refine ak ?_;refine ak ?_;refine aJ ((ahE (λX=> ?_)));simp only[SD,VA,UC];have kT:∀(L:List aa),(H++L)[H.length+2]?=L[2]?:=λL=>aW H L 2;have fP:∀(L:List aa)(y:aa),(H++L).set (H.length+2) y=H++L.set 2 y:=λL y=>dR H L 2 y;have y9:∀(L:List aa),(H++L)[H.length+3]?=L[3]?:=λL=>aW H L 3;have o0:∀(L:List aa)(y:aa),(H++L).set (H.length+3) y=H++L.set 3 y:=λL y=>dR H L 3 y;have hrx:fD.aC.flatMap aB.l=[iv 12,iv 12,iv 0,iv 2,iv 10,iv 15,iv 2,iv 2]:=rfl;rw[hrx];have e2:H.length+1+1=H.length+2:=rfl;(try simp only[seval,y9,o0,e2]);refine eI 4 ?_;simp only[seval,kT,fP,y9];refine iy _ (cJ (qJ (a:=15) (b:=15) (c:=0) (d:=0) ⟨rfl,rfl⟩)) ?_;(try simp only[seval,aB.av,aB.l,kT,fP]);obtain⟨rs,Ce⟩:∃rs,rs=sZ.aC.flatMap aB.l:=⟨_,rfl⟩;have akM:[AV.val (SG SE 15),AV.val (SG SE 15),AV.val (SG SE 0),AV.val (SG SE 0),AV.val (SG SE 10),AV.val (SG SE 15),AV.val (SG SE 2),AV.val (SG SE 2)]=rs:=by rw[Ce];rfl
 have ul:rs.length=8:=by rw[Ce];rfl
 rw[akM];refine aj ?_;simp only[seval,aQ,dw,y9]
 (repeat apply gT);refine HQ (id:=H.length+2) (by simp only[seval,kT]<;>rfl) ?_
 simp only[seval,fP,ul]
 (repeat apply gT);refine NZ (id:=H.length) (j:=5) (y:=aY sZ.aC) (by simp only[seval,aQ]<;>rfl) rfl ?_ ?_
 ·have e:aY sZ.aC=.sl 2 (rs.take 8) .shut:=by rw[SW (by omega),Ce];rfl
  rw[e];exact G2 (p:=8) (by simp only[seval,kT]<;>rfl) (by omega) (by omega)
 (try simp only[seval,dw]);refine nS ?_;simp only[seval,aQ];refine jM hH (b:=sZ.av) (G3 (.cons (Wk.refl _) (.cons (Wk.refl _) (.cons (Wk.refl _) (.cons (iA _ _ _) (.cons (iA _ _ _) (.cons (Wk.refl _) .nil))))))) (by rw[F4];trivial) hk
end
open Go.Gg.Tk
theorem x7:fD.Ok:=by
 refine⟨by decide,by decide,by decide,by decide,by decide,by decide,λs hs=> ?_,λy hy=> ?_,λy hy=> ?_⟩
 ·simp only[fD,S8]at hs;subst hs;exact⟨by decide,by decide,by decide,by decide⟩
 ·simp only[fD,SL,S4,or_false]at hy;rcases hy with rfl|rfl|rfl<;>exact⟨⟨by decide,by decide,by decide⟩,⟨by decide,by decide,by decide⟩⟩
 ·simp only[fD,SL,S4,or_false]at hy;rcases hy with rfl|rfl<;>exact⟨⟨by decide,by decide,by decide⟩,⟨by decide,by decide,by decide⟩⟩
theorem amX:sZ.Ok:=by
 refine⟨by decide,by decide,by decide,by decide,by decide,by decide,λs hs=> ?_,λy hy=> ?_,λy hy=> ?_⟩
 ·simp only[sZ,fD,S8]at hs;subst hs;exact⟨by decide,by decide,by decide,by decide⟩
 ·simp only[sZ,fD,SL,S4,or_false]at hy;rcases hy with rfl|rfl|rfl<;>exact⟨⟨by decide,by decide,by decide⟩,⟨by decide,by decide,by decide⟩⟩
 ·simp only[sZ,SL,S4,or_false]at hy;rcases hy with rfl|rfl<;>exact⟨⟨by decide,by decide,by decide⟩,⟨by decide,by decide,by decide⟩⟩
theorem agZ:cnt fD=4:=by kernel_rfl
theorem ag3:live fD=[[10,11,13,14],[10,11,13,15],[10,12,13,14],[10,12,13,15]]:=by kernel_rfl
theorem ag0:(cp fD).head?=some ⟨[10,11,13,14],[12,11,13],[0,2]⟩:=by kernel_rfl
theorem ag4:m8 (v4 fD 2) 10 16=[13,14]:=by kernel_rfl
theorem O6:s7 fD 0 0=true/\CQ fD 0 0=false:=by decide+kernel
theorem O4:El sZ=some [0]:=by kernel_rfl
theorem agX:yr (fD.wo [1]) ⟨⟨10,15⟩,⟨2,2⟩⟩ 0 3=1:=by kernel_rfl
open Go.Conc Go.Proofs
theorem Tk.Bounds.of_map{l:List (List Int)}{g:List Int->List Int}{v w:List Int->Int}{a b:Int}(h:Bounds (l.map g) v a b)(e:∀y∈l,v (g y)=w y):Bounds l w a b:=by
 obtain⟨g1,m1,e1⟩:=h.FQ;obtain⟨g2,m2,e2⟩:=h.FO;obtain⟨y1,n1,rfl⟩:=Tm.1 m1;obtain⟨y2,n2,rfl⟩:=Tm.1 m2;exact⟨⟨y1,n1,e1.trans (e y1 n1)⟩,λy hy=>by rw[<- e y hy];exact h.le _ (Tm.2 ⟨y,hy,rfl⟩),⟨y2,n2,e2.trans (e y2 n2)⟩,λy hy=>by rw[<- e y hy];exact h.ge _ (Tm.2 ⟨y,hy,rfl⟩)⟩
theorem anm{h:List Int}{i:Nat}(hi:i<h.length):(cH h).getD i 0=h.getD i 0:=by
 unfold cH;rw[SF,SF,SZ hi]
theorem al5{x:ai}{h:List Int}(hm:h∈live x):h.length=1+x.hours.toNat:=J8 (Un.1 hm).1
theorem anN{x:ai}{D:Kn}(hx:x.Ok)(hD:fG x 0 D)(hh:D.has=true){hs:List (List Int)}(hp:hs.Perm D.aL)(v:List Int->Int)(w:List Int->Int)(e:∀y∈live x,v (cH y)=w y):Bounds (live x) w (hs.foldl (λb h=>b.add (v h)) (⟨0,0,false⟩:gQ)).lo (hs.foldl (λb h=>b.add (v h)) (⟨0,0,false⟩:gQ)).hi:=by
 have dl:=hp.trans (Sr hx hD);have aG:hs≠[]:=λh=>by
  rw[h]at dl;have:=dl.length_eq;rw[Tn]at this;have h0:live x=[]:=List.eq_nil_of_length_eq_zero this.symm;rw[(xK hx hD).2 (LI.1 h0)]at hh;cases hh
 exact((afA v aG).am6 dl).of_map e
theorem Lv{x:ai}{deep:Int}{D:Kn}(hx:x.Ok)(hD:fG x deep D)(hh:D.has=true):cp x≠[]:=λh=>by
 rw[(xK hx hD).2 h]at hh;cases hh
theorem aav{α:Type}{f:Nat->α}{l:List α}{n:Nat}(d:α)(hl:l.length=n)(h:∀i,i<n->f i=l.getD i d):(S0 n).map f=l:=by
 refine Ym λi=> ?_;rw[To];by_cases hi:i<n
 ·rw[Xv hi,UN,h i hi,SF,SV (by omega)];rfl
 ·rw[Uu (by simp;omega),Uu (by omega)];rfl
theorem agD{x:ai}(hx:x.Ok){u:Tr}(hu:u∈cp x){s:Nat}(hs:s<x.aC.length):(eA u).getD (8+s) 0=((u.bY.getD s 0:Nat):Int):=by
 obtain⟨h1,h2⟩:=wm hx hu;have h3:=(GU hx hu).1;have hh:=hx.hours;have nw:=hx.c_;have h4:=xV (h:=u.bz) (by omega);have dL:s<u.bY.length:=by omega
 have hg:(eA u)[8+s]?=some ((u.bY[s]:Nat):Int):=by
  unfold eA dx lg;have h8:(cH u.bz++((u.aA.map λn=>(n-u.bz.headD 0).toNat).map (λn:Nat=>(n:Int))++TN (4-(u.aA.map λn=>(n-u.bz.headD 0).toNat).length) (-1))).length=8:=by simp[h4];omega
  rw[Tj (by omega),h8,U6,SZ (by simpa using dL),To,SV dL];rfl
 rw[SF,hg,SF,SV dL];rfl
theorem aq7{x:ai}{u:Tr}(hu:u∈cp x):u.bz.headD 0=x.first:=by
 obtain⟨h,a,b⟩:=S7.1 hu;rw[yb b];exact(zf _ _ _ (by simp) a).2
theorem aie{x:ai}(hx:x.Ok){u:Tr}(hu:u∈cp x):(eA u).take (x.hours.toNat+1)=u.bz:=by
 have hl:=(wm hx hu).1;have hh:=hx.hours;have h1:(eA u).take (x.hours.toNat+1)=((eA u).take 4).take (x.hours.toNat+1):=by rw[UZ,Wu (by omega)]
 rw[h1,IA hx hu];exact L6 (by omega)
theorem aif{x:ai}(hx:x.Ok){u:Tr}(hu:u∈cp x):sk x (eA u) x.pieces.length=u.aA:=by
 unfold sk;refine aav 0 (wm hx hu).2 λi hi=> ?_;rw[agA hx hu hi,aq7 hu];omega
theorem aig{x:ai}(hx:x.Ok){u:Tr}(hu:u∈cp x):so (eA u) x.aC.length=u.bY.map λn:Nat=>(n:Int):=by
 unfold so;refine aav 0 (by rw[Tn];exact(GU hx hu).1) λi hi=> ?_;have hl:=(GU hx hu).1;rw[agD hx hu hi,SF,SF,To,SV (by omega)];rfl
section
variable {H:List aa}{k kp:AV->List aa->Prop}{x:ai}
theorem Pa(hx:x.Ok)(hm:H[0]?=some .main)(hk:k (.aK [iv (cnt x),iv 0]) H):bc true SC 21 H [x.av] k kp:=
 aho hx hm λD hD=>by rw[count_eq hx hD];exact hk
theorem ahB{hour:Nat}(hx:x.Ok)(hh:(hour:Int)<=x.hours)(hm:H[0]?=some .main)(h0:cp x=[]->k (.aK [.agg [iv 0,iv 0],iv 11]) H)(h1:∀lo hi,cp x≠[]->Bounds (live x) (λh=>h.getD hour 0) lo hi->k (.aK [.agg [iv lo,iv hi],iv 0]) H):bc true SC 36 H [x.av,iv hour] k kp:=
 ahA hx hh hm λD hD=>⟨λhn=>h0 ((xK hx hD).1 hn),λhy hs hp=>h1 _ _ (Lv hx hD hy) (anN hx hD hy hp (λh=>h.getD hour 0) _ λy o5=>anm (by rw[al5 o5];have:=hx.hours;omega))⟩
theorem Pc{q:Nat}(hx:x.Ok)(hq:q<x.pieces.length)(hm:H[0]?=some .main)(h0:cp x=[]->k (.aK [br [],iv 11]) H)(h1:cp x≠[]->k (.aK [br (m8 (v4 x q) x.first 16),iv 0]) H):bc true SC 34 H [x.av,iv q] k kp:=
 ahz hx hq hm λD hD=>⟨λhn=>h0 ((xK hx hD).1 hn),λhy=>by rw[aai λn _=>amU hx hD hq n];exact h1 (Lv hx hD hy)⟩
theorem ahw{s q:Nat}(hx:x.Ok)(hs:s<x.aC.length)(hq:q<x.pieces.length)(hm:H[0]?=some .main)(hk:k (.aK [iv (if(cp x).isEmpty then 0 else vM (s7 x s q) (CQ x s q)),iv (if(cp x).isEmpty then 11 else 0)]) H):bc true SC 28 H [x.av,iv s,iv q] k kp:=
 ahv hx hs hq hm λD hD=>by rw[anp hx hD hs,afe hx hD];exact hk
def Bm (x:ai)(i:Nat):List Int:=(S0 i).flatMap λs=>if 1<(m8 (s7 x s) 0 16).length then[-1]else m8 (s7 x s) 0 16
theorem ahs(hx:x.Ok)(hm:H[0]?=some .main)(h0:cp x=[]->k (.aK [br [],iv 11]) H)(h1:cp x≠[]->k (.aK [br (Bm x x.aC.length),iv 0]) H):bc true SC 26 H [x.av] k kp:=
 ahr hx hm λD hD=>⟨λhn=>h0 ((xK hx hD).1 hn),λhy=>by
  have e:tQ D.aT x.aC.length=Bm x x.aC.length:=by
   unfold tQ Bm;refine Be λs hs=> ?_;rw[aai λn _=>L7 hx hD (TG.1 hs) n]
  rw[e];exact h1 (Lv hx hD hy)⟩
theorem ahm(hx:x.Ok)(hm:H[0]?=some .main)(h0:cp x=[]->k (.aK [br [],br [],br [],iv 11]) H)(h1:∀u l,cp x=u::l->k (.aK [br u.bz,br u.aA,br (u.bY.map λn:Nat=>(n:Int)),iv 0]) H):bc true SC 18 H [x.av] k kp:=
 ahl hx hm λD hD=>⟨λhn=>h0 ((xK hx hD).1 hn),λhy=>by
  obtain⟨u,l,e1,e2⟩:=alm hx hD hy;have hu:u∈cp x:=by rw[e1];simp
  rw[e2,aie hx hu,aif hx hu,aig hx hu];exact h1 u l e1⟩
end
theorem O5:(cp fD).isEmpty=false:=by kernel_rfl
theorem agY{lo hi:Int}(h:Bounds (live fD) (λh=>h.getD 1 0) lo hi):lo=11/\hi=12:=by
 have k:Bounds (live fD) (λh=>h.getD 1 0) 11 12:=by
  rw[ag3];exact⟨⟨[10,11,13,14],by simp,rfl⟩,by decide,⟨[10,12,13,14],by simp,rfl⟩,by decide⟩
 exact h.uniq k
theorem ag1:Bm fD 2=[0,2]:=by kernel_rfl
theorem z3:gG (SG .i64 0) 3=[iv 0,iv 0,iv 0]:=rfl
theorem z4:gG (SG .i64 0) 4=[iv 0,iv 0,iv 0,iv 0]:=rfl
section
variable {H:List aa}{k kp:AV->List aa->Prop}
theorem ahn(hm:H[0]?=some .main)(hk:k (bv true) H):bc true SC 19 H [] k kp:=by
 have aG:cp fD≠[]:=λh=>by have:=O5;rw[h]at this;cases this
 refine bF (rs:=[.tmp 0]) (nt:=138) Tryz.f19 λhH hA=> ?_;simp only[bk,SX];have aQ:∀(L:List aa),(H++L)[H.length]?=L[0]?:=λL=>aW H L 0;have dw:∀(L:List aa)(y:aa),(H++L).set H.length y=H++L.set 0 y:=λL y=>dR H L 0 y;refine ak ?_;refine ak ?_;refine aJ ((wX ?_));(try simp only[seval]);refine aJ ((Pa x7 hm ?_));rw[agZ];(try simp only[seval]);refine ak ?_;refine aJ ((wX ?_));(try simp only[seval]);refine aJ ((ahB (hour:=1) x7 (by decide) hm (λh=>absurd h aG) (λlo hi _ hb=> ?_)));obtain⟨rfl,rfl⟩:=agY hb;(try simp only[seval,aQ,dw]);refine ak ?_;refine aJ ((wX ?_));(try simp only[seval]);refine aJ ((Pc (q:=2) x7 (by decide) (fI hm) (λh=>absurd h aG) (λ_=> ?_)));rw[show m8 (v4 fD 2) fD.first 16=[13,14]from ag4];(try simp only[seval]);refine ak ?_;refine aJ ((wX ?_));(try simp only[seval]);refine aJ ((ahw (s:=0) (q:=0) x7 (by decide) (by decide) (fI hm) ?_));rw[O5,O6.1,O6.2,show vM true false=1 from rfl];(try simp only[seval]);refine ak ?_;refine aJ ((wX ?_));(try simp only[seval]);refine aJ ((ahs x7 (fI hm) (λh=>absurd h aG) (λ_=> ?_)));rw[show Bm fD fD.aC.length=[0,2]from ag1];(try simp only[seval]);refine ak ?_;refine aJ ((wX ?_));(try simp only[seval]);refine aJ ((ahx (x:=fD) (s:=1) (q:=0) (y:=⟨⟨10,15⟩,⟨2,2⟩⟩) x7 rfl (by decide) (λo ho=> ?_)));rw[show yr (fD.wo [((1:Nat):Int)]) ⟨⟨10,15⟩,⟨2,2⟩⟩ 0 (fD.am.toNat+1)=1 from agX]at ho;subst ho;(try simp only[seval]);refine ak ?_;refine aJ ((ahF ?_));(try simp only[seval]);refine aJ ((ahy amX (λl hl=> ?_) (λh=>by rw[O4]at h;cases h)));rw[O4]at hl;cases hl;(try simp only[seval]);refine ak ?_;refine aJ ((wX ?_));(try simp only[seval]);refine aJ ((ahm x7 (fI hm) (λh=>absurd h aG) (λu l hu=> ?_)));have lI:=ag0;rw[hu]at lI;cases lI;(try simp only[seval]);refine eI 77 ?_;simp only[seval,Vp,aQ,beq_self_eq_true];refine iy (.agg [iv 11,iv 12]) (cJ (Pb ⟨rfl,rfl⟩)) ?_;have fK:∀k,dp SC .eql 46 (.agg [iv 11,iv 12]) (.agg [iv 11,iv 12]) k=k (bv true):=λk=>ad2 (P:=SC) (t:=46) (n:=2) (xs:=[11,12]) (ys:=[11,12]) (by kernel_rfl) (by kernel_rfl) rfl rfl k;simp only[iv,bv]at fK;(try simp only[seval,fK,Vp,beq_self_eq_true,z2]);(try refine⟨by decide,?_⟩);refine iy (bv true) (cJ (yK (xs:=[13,14]) (ys:=[13,14]) (e:=.shut) (e':=.exact) (by decide) ⟨by rw[decide_eq_true rfl],rfl⟩)) ?_;(try simp only[seval,Vp,z1,z2,z3,z4]);(try refine⟨by decide,?_⟩);refine iy (bv true) (cJ (yK (xs:=[0,2]) (ys:=[0,2]) (e:=.shut) (e':=.exact) (by decide) ⟨by rw[decide_eq_true rfl],rfl⟩)) ?_;(try simp only[seval,Vp,z1,z2,z3,z4]);(try refine⟨by decide,?_⟩);refine iy (bv true) (cJ (yK (xs:=[0]) (ys:=[0]) (e:=.shut) (e':=.exact) (by decide) ⟨by rw[decide_eq_true rfl],rfl⟩)) ?_;(try simp only[seval,Vp,z1,z2,z3,z4]);(try refine⟨by decide,?_⟩);refine iy (bv true) (cJ (yK (xs:=[10,11,13,14]) (ys:=[10,11,13,14]) (e:=.shut) (e':=.exact) (by decide) ⟨by rw[decide_eq_true rfl],rfl⟩)) ?_;(try simp only[seval,Vp,z1,z2,z3,z4]);(try refine⟨by decide,?_⟩);refine iy (bv true) (cJ (yK (xs:=[12,11,13]) (ys:=[12,11,13]) (e:=.shut) (e':=.exact) (by decide) ⟨by rw[decide_eq_true rfl],rfl⟩)) ?_;(try simp only[seval,Vp,z1,z2,z3,z4]);(try refine⟨by decide,?_⟩);refine iy (bv true) (cJ (yK (xs:=[0,2]) (ys:=[0,2]) (e:=.shut) (e':=.exact) (by decide) ⟨by rw[decide_eq_true rfl],rfl⟩)) ?_;(try simp only[seval,Vp,z1,z2,z3,z4]);refine a_ ?_;exact jM hH (Wk.refl _) (.val _) hk
end
theorem afo{f:Nat->Bool}{m:Int}{i n:Nat}(hn:n<i)(h:f n=true):(n:Int)+m∈m8 f m i:=
 Tm.2 ⟨n,Un.2 ⟨TG.2 hn,h⟩,rfl⟩
theorem N8{f:Nat->Bool}{m v:Int}{i:Nat}:v∈m8 f m i<->∃n:Nat,n<i/\f n=true/\v=(n:Int)+m:=by
 unfold m8;constructor
 ·intro h;obtain⟨n,hn,rfl⟩:=Tm.1 h;obtain⟨h1,h2⟩:=Un.1 hn;exact⟨n,TG.1 h1,h2,rfl⟩
 ·rintro⟨n,h1,h2,rfl⟩
  exact afo h1 h2
variable {x:ai}
variable {P:SJ}
theorem adU{t:TypeId}(ht:P.underlying t=some .bool)(hg:P.eqGuardType P.depth t=false)(x y:Bool)(k:AV->Prop):dp P .neq t (.val (.bool x)) (.val (.bool y)) k=k (.val (.bool (x !=y))):=by
 have vR:cr P (Xe t (.bool x) (.bool y)) (x==y):=aqn (d:=9999) ht;have e:dp P .neq t (.val (.bool x)) (.val (.bool y)) k=((VT=.eql\/VT=.neq)/\ao (AV.raw (.val (.bool x))) λX=>ao (AV.raw (.val (.bool y))) λY=>wV X Y=true/\P.eqGuardType P.depth t=false/\∃e,cr P (Xe t X Y) e/\k (.val (.bool (if VT== .neq then !e else e)))):=rfl;have r:∀b:Bool,AV.raw (.val (.bool b))=some (.bool b):=λ_=>rfl;rw[e,r,r,v7,v7];apply propext;constructor
 ·rintro⟨_,_,_,b,h1,h2⟩
  have hb:=vR.uniq h1;subst hb;exact h2
 ·intro h;exact⟨.inr rfl,rfl,hg,_,vR,h⟩
section
variable {H:List aa}{k kp:AV->List aa->Prop}
end
namespace Tk
end Tk
theorem afn(f:Nat->Bool)(m:Int)(i:Nat):(m8 f m i).length<=i:=by
 unfold m8;rw[Tn];have:=List.length_filter_le f (S0 i);rwa [Zv]at this
variable {x:ai}
open Go.Conc Go.Proofs Go.Gg.Tk
section
variable {H:List aa}{k kp:AV->List aa->Prop}
end
def oL (x:ai)(p:Nat)(y:aB)(n:Int):ai:={x with pieces:=x.pieces.set p ⟨⟨n,n⟩,y.hour⟩}
variable {x:ai}
theorem Pt(hx:x.Ok){p:Nat}{y:aB}(hy:x.pieces[p]?=some y){n:Int}(hn:y.number.min<=n/\n<=y.number.max):(oL x p y n).Ok:=by
 have hm:=Te hy;obtain⟨h1,h2⟩:=hx.piece y hm;refine⟨hx.first,hx.hours,hx.am,hx.wc,by unfold oL;simpa using hx.c_,hx.eF,hx.seen,λz hz=> ?_,λz hz=>⟨(hx.stub z hz).1,(hx.stub z hz).2⟩⟩;rcases UK hz with hz|rfl
 ·exact⟨(hx.piece z hz).1,(hx.piece z hz).2⟩
 ·obtain⟨a,b,c⟩:=h1;exact⟨⟨by show 0<=n;omega,W8 n,by show n<=99;omega⟩,h2⟩
theorem aik{p q:Nat}{y:aB}{n:Int}(hy:x.pieces[p]?=some y):(oL x p y n).pieces[q]?=if p=q then some ⟨⟨n,n⟩,y.hour⟩else x.pieces[q]?:=by
 have:=(SM.1 hy).1;unfold oL;show (x.pieces.set p _)[q]?=_;rw[UI];by_cases h:p=q
 ·rw[if_pos h,if_pos h,if_pos this]
 ·rw[if_neg h,if_neg h]
theorem Ps{h:List Int}{y:aB}{n m:Int}(hn:y.number.min<=n/\n<=y.number.max):fits h ⟨⟨n,n⟩,y.hour⟩ m=true<->fits h y m=true/\m=n:=by
 unfold fits j8;simp only[Tc,decide_eq_true_eq];constructor
 ·rintro⟨⟨h1,h2,h3⟩,h4⟩
  exact⟨⟨⟨h1,by omega,by omega⟩,h4⟩,by omega⟩
 ·rintro⟨⟨⟨h1,h2,h3⟩,h4⟩,h5⟩
  exact⟨⟨h1,by omega,by omega⟩,h4⟩
theorem Pu{p:Nat}{y:aB}(hy:x.pieces[p]?=some y){n:Int}(hn:y.number.min<=n/\n<=y.number.max){u:Tr}:Au (oL x p y n) u<->Au x u/\u.aA.getD p 0=n:=by
 have hl:(oL x p y n).pieces.length=x.pieces.length:=by unfold oL;simp
 have hg:=λq=>aik (q:=q) (n:=n) hy;constructor
 ·intro h;have hp:=(Ps hn).1 (h.piece p _ (by rw[hg,if_pos rfl]));refine⟨⟨h.bz,h.seen,by rw[h.uE,hl],λq z hz=> ?_,h.CN,h.v9,λv hv=>by rw[<- hl];exact h.own v hv,h.stub,h.CR⟩,hp.2⟩;by_cases hq:p=q
  ·subst hq;rw[hy]at hz;cases hz;exact hp.1
  ·exact h.piece q z (by rw[hg,if_neg hq];exact hz)
 ·rintro⟨h,e⟩
  refine⟨h.bz,h.seen,by rw[h.uE,hl],λq z hz=> ?_,h.CN,h.v9,λv hv=>by rw[hl];exact h.own v hv,h.stub,h.CR⟩;rw[hg]at hz;by_cases hq:p=q
  ·subst hq;rw[if_pos rfl]at hz;cases hz;exact(Ps hn).2 ⟨h.piece p y hy,e⟩
  ·rw[if_neg hq]at hz;exact h.piece q z hz
theorem afT(x:ai):0<cnt x<->cp x≠[]:=by
 unfold cnt;rw[show (0:Int)<((live x).length:Int)<->live x≠[] by rw[<- Vq];omega];exact not_congr LI
theorem aaM(hx:x.Ok){u:Tr}(hu:Au x u){p:Nat}(hp:p<x.pieces.length):x.first<=u.aA.getD p 0/\u.aA.getD p 0<x.first+9:=by
 have hf:=hu.piece p _ (SV hp);unfold Tk.fits at hf;rw[Tc,Tc,decide_eq_true_eq]at hf;have h:=(MZ hu.bz.mono).1 hf.1.1;rw[EQ hu.bz,Sx hu.bz]at h;have hh:=hx.hours;have:=hu.bz.top hx.first hx.am (by omega) x.hours.toNat (SP _);omega
theorem aoF(hx:x.Ok){p:Nat}{y:aB}(hy:x.pieces[p]?=some y){n:Int}(hn:y.number.min<=n/\n<=y.number.max):0<cnt (oL x p y n)<->n∈m8 (Tk.v4 x p) x.first 16:=by
 have hp:=(SM.1 hy).1;have hf:=Pt hx hy hn;rw[afT];constructor
 ·intro aG;obtain⟨u,hu⟩:=WF _ aG;obtain⟨h1,h2⟩:=(Pu hy hn).1 ((CG hf).1 hu);have:=aaM hx h1 hp;refine N8.2 ⟨(n-x.first).toNat,by omega,wK.2 ⟨u,(CG hx).2 h1,?_⟩,by omega⟩;rw[EQ h1.bz,h2];simp
 ·intro hm;obtain⟨m,h1,h2,h3⟩:=N8.1 hm;obtain⟨u,hu,e⟩:=wK.1 h2;have e:=of_decide_eq_true e;have ht:=(CG hx).1 hu;have:=aaM hx ht hp;rw[EQ ht.bz]at e;exact List.ne_nil_of_mem ((CG hf).2 ((Pu hy hn).2 ⟨ht,by omega⟩))
section
variable {lv:Bool}{P:SJ}{r:Option Nat}{o:Tv}{s:AS}{next:AS->Prop}{bad:AV->AS->Prop}
theorem aeT{nt id sz:Nat}{c:T5}{l:List AV}{el:TypeId}{Φ:an->AS->Prop}(bR:s.H[id]?=some (.own sz l el))(h:aU lv P r nt c ⟨s.T,s.H.set id (.part l.length l el)⟩ Φ):aU lv P r nt c s Φ:=λE V a Q ah hQ=>by
 have hc:=ah.bm;obtain⟨⟨cs,gX,hd,_⟩,kV⟩:=hc.obj id _ bR;have g:dT V (V.eE (E.blk id) cs (λo=>decide (o<l.length))):=w6 gX (λo _=>kV o);refine WP.ghost g ?_;have hI:∀b o v,E.I b o=some v->(V.eE (E.blk id) cs (λo=>decide (o<l.length))).ab b o=some v:=λb o v e=>by
  rw[hc.I]at e;have hb:b≠E.blk id:=λhb=>by rw[hb,kV]at e;cases e
  simp only[View.eE];rw[if_neg (λx=>hb x.1)];exact e
 have hle:E.Le {E with I:=(V.eE (E.blk id) cs (λo=>decide (o<l.length))).ab}:=⟨hI,SP _,λ_ _=>rfl,λ_ _=>SP _,λ_ _ _ _=>rfl,rfl,rfl⟩;have cM:Conc {E with I:=(V.eE (E.blk id) cs (λo=>decide (o<l.length))).ab} (V.eE (E.blk id) cs (λo=>decide (o<l.length))) (s.H.set id (.part l.length l el)):=by
  refine hc.iz id _ hle rfl (by rw[TF];exact hc.n) lf rfl (λ_ _ _=>rfl) (λb y fl hy=>⟨hy,λo=> ?_⟩) ⟨⟨cs,gX,hd.mono hle,λo ho=> ?_⟩,λo ho=> ?_⟩ (λb hb=> .inl ⟨_,bR,hb⟩)
  ·have hb:b≠E.blk id:=λhb=>fl _ bR (by rw[hb];rfl);simp only[View.eE];rw[if_neg (λx=>hb x.1)]
  ·simp only[View.eE];rw[if_pos ⟨trivial,by simpa using ho⟩]
  ·simp only[View.eE];rw[if_neg (λx=>by have:=x.2;simp at this;omega)];exact kV o
 exact h _ _ a Q ⟨cM,ah.tok.mono hle,ah.size⟩ λae e E' aR a' s' hk=>hQ ae e E' aR a' s' ((⟨hle,rfl,rfl,rfl,rfl⟩:Kept E _ V (V.eE (E.blk id) cs (λo=>decide (o<l.length))) a a).trans hk)
end
def zE (x:ai)(p:AV):List AV:=[iv x.first,iv x.hours,iv x.am,dN x.seen,p,aY x.aC]
section
variable {lv:Bool}{H:List aa}{k kp:AV->List aa->Prop}
theorem ahp{x:ai}(hx:x.Ok)(hp:0<x.pieces.length)(hk:∀a b:aa,k (.agg (zE x (.bE (H.length+3) 0 x.pieces.length 0))) (H++[a,b,.tail x.seen.length 3 61,.own 4 (x.pieces.flatMap aB.l) 48,.tail x.aC.length 4 48])):bc lv SC 22 H [x.av] k kp:=by
 refine bF (rs:=[.cell 2 26]) (nt:=19) Tryz.f22 λhH hA=> ?_;simp only[bk,SX,ai.av];have pY:=hx.c_;have aP:=hx.eF;have KI:=hx.wc;have bN:x.l=[iv x.first,iv x.hours,iv x.am,dN x.seen,aY x.pieces,aY x.aC]:=rfl;have aQ:∀(L:List aa),(H++L)[H.length]?=L[0]?:=λL=>aW H L 0;have dw:∀(L:List aa)(y:aa),(H++L).set H.length y=H++L.set 0 y:=λL y=>dR H L 0 y;refine aj ?_;simp only[seval,bN];have tk1:T_ (x.seen.length* 3) (x.seen.flatMap Seen.l)=x.seen.flatMap Seen.l:=SW (by rw[uy Seen.len];omega);have tk2:T_ (x.pieces.length* 4) (x.pieces.flatMap aB.l)=x.pieces.flatMap aB.l:=SW (by rw[uy aB.len];omega);have tk3:T_ (x.aC.length* 4) (x.aC.flatMap aB.l)=x.aC.flatMap aB.l:=SW (by rw[uy aB.len];omega);have n1:(x.seen.flatMap Seen.l).length=x.seen.length* 3:=uy Seen.len _;have n2:(x.pieces.flatMap aB.l).length=x.pieces.length* 4:=uy aB.len _;have n3:(x.aC.flatMap aB.l).length=x.aC.length* 4:=uy aB.len _;refine aj ?_;simp only[seval,aQ,dw,dN,tk1,n1];refine⟨by omega,?_⟩
 (repeat apply gT);refine NV 3 (by kernel_rfl) ?_
 simp only[seval,aQ,dw,aY,tk2,n2];refine⟨by omega,hp,?_⟩;refine aj ?_;simp only[seval,aQ,dw,aY,tk3,n3];refine⟨by omega,?_⟩;have c9:∀(L:List aa),(H++L)[H.length+1]?=L[1]?:=λL=>aW H L 1;have dF:∀(L:List aa)(y:aa),(H++L).set (H.length+1) y=H++L.set 1 y:=λL y=>dR H L 1 y;refine aj ?_;simp only[seval,aQ,c9,dF];refine nS ?_;simp only[seval,c9];exact⟨_,G3 (.cons (Wk.refl _) (.cons (Wk.refl _) (.cons (Wk.refl _) (.cons (iA _ _ _) (.cons (Wk.refl _) (.cons (iA _ _ _) .nil)))))),.inl (hk _ _)⟩
end
namespace Tk
def C2 (x:ai)(p:Nat)(y:aB):ai:={x with pieces:=x.pieces.set p y}
end Tk
variable {x:ai}
open Go.Conc Go.Proofs Go.Gg.Tk
theorem apB{ys:List aB}{p:Nat}{y:aB}{s:Nat}{l:List AV}(hp:p<ys.length)(e:y.l=l):T_ (p* 4) (ys.flatMap aB.l)++l++Ue (p* 4+4) (ys.flatMap aB.l)=(ys.set p y).flatMap aB.l:=by
 subst e;rw[XK,if_pos hp,Vv,Ui,I1 aB.len,show p* 4+4=(p+1)* 4 by omega,Bd aB.len,SD]
theorem apC{ys:List aB}{p:Nat}{y:aB}(hy:ys[p]?=some y)(a b:Int):T_ (p* 4+0) (ys.flatMap aB.l)++[iv a,iv b]++Ue (p* 4+0+2) (ys.flatMap aB.l)=(ys.set p ⟨⟨a,b⟩,y.hour⟩).flatMap aB.l:=by
 obtain⟨hp,rfl⟩:=SM.1 hy;rw[<- apB (s:=0) (p:=p) (y:=⟨⟨a,b⟩,ys[p].hour⟩) hp rfl];have e:Ue (p* 4+2) (ys.flatMap aB.l)=iv ys[p].hour.min::iv ys[p].hour.max::Ue (p* 4+4) (ys.flatMap aB.l):=by
  have h1:Ue (p* 4) (ys.flatMap aB.l)=ys[p].l++Ue (p* 4+4) (ys.flatMap aB.l):=by
   rw[Bd aB.len,show p* 4+4=(p+1)* 4 by omega,Bd aB.len,TW hp,Ui]
  rw[<- aj_,h1];rfl
 rw[UH,e];simp[aB.l,iP.l]
section
variable {lv:Bool}{P:SJ}{r:Option Nat}
theorem aeS{nt:Nat}{c:T5}{T:List (Nat×AV)}{H:List aa}{zB Cs j cap:Nat}{ps:List aB}{l:List AV}{el:TypeId}{Φ:an->AS->Prop}(h1:H[zB]?=some (.own 4 (ps.flatMap aB.l) 48))(h2:H[Cs]?=some (.cells l el))(aG:zB≠Cs)(h3:l[j]?=some (.bE zB 0 ps.length cap))(h:aU lv P r nt c ⟨T,(H.set zB (.part (ps.length* 4) (ps.flatMap aB.l) 48)).set Cs (.cells (l.set j (aY ps)) el)⟩ Φ):aU lv P r nt c ⟨T,H⟩ Φ:=by
 have hl:(ps.flatMap aB.l).length=ps.length* 4:=uy aB.len _;refine aeT (id:=zB) h1 ?_;have hlt:=(SM.1 h1).1;refine NZ (id:=Cs) (j:=j) (y:=aY ps) (el:=el) (by rw[T6 aG];exact h2) h3 ?_ ?_
 ·have e:aY ps=.sl ps.length ((ps.flatMap aB.l).take (ps.length* 4)) .shut:=by rw[SW (by omega)];rfl
  rw[e];exact G2 (p:=(ps.flatMap aB.l).length) (l:=ps.flatMap aB.l) (el:=48) (by rw[UI,if_pos rfl,if_pos hlt]) (by omega) (by omega)
 ·rw[hl];exact h
end
section
variable {H:List aa}{k kp:AV->List aa->Prop}
theorem ahU{aA:List Int}(hm:H[0]?=some .main)(hn:aA.length<=2^50)(hk:k (bv true) H):bc true SC 8 H [br aA] k kp:=by
 have pV:∀L:List aa,(H++L)[0]?=some .main:=λL=>fI hm;refine bF (rs:=[.tmp 2]) (nt:=82) WL λhH hA=> ?_;simp only[bk,SX];refine ak ?_;refine ak ?_;refine aJ ((ahk ?_));(try simp only[seval]);refine aJ ((ahg (pm:=3) (b:=0) (aqT H) ⟨W8 _,W8 _,hn⟩ (by decide) (by decide) λx bz aA bY τ hM _=> ?_));have hx:=hM.ok (by decide);have aG:=hM.ne (by decide);have pY:=hx.c_;have aP:=hx.eF;have bN:x.l=[iv x.first,iv x.hours,iv x.am,dN x.seen,aY x.pieces,aY x.aC]:=rfl;clear hM;have bt:x.l.length=6:=rfl;have eC:T_ 6 x.l=x.l:=rfl;obtain⟨B,hB⟩:∃B,B=H++[Ae τ]:=⟨_,rfl⟩;rw[<- hB];have B0:∀L:List aa,(B++L)[0]?=some .main:=λL=>by rw[hB,SD];exact pV _
 have b0:∀(L:List aa),(B++L)[B.length]?=L[0]?:=λL=>aW B L 0;have s0:∀(L:List aa)(y:aa),(B++L).set B.length y=B++L.set 0 y:=λL y=>dR B L 0 y;(try simp only[seval,ai.av,b0,s0,bt]);refine⟨kF x,?_⟩;have BL:Ue 4 x.l=[aY x.pieces,aY x.aC]:=rfl;refine ak ?_;refine cI ?_;refine r6 x.pieces.length (λp:Nat=>[(7,iv p)]) (λ_=>B++[.cells x.l 26]) (λ_=>True) trivial (λce db p Kx _ R hR=> ?_);clear db;refine aj ?_;simp only[seval,b0,BL,aY];refine aE ?_;refine⟨λhc=> ?_,λhc=> ?_⟩
 ·have dl:p<x.pieces.length:=by omega
  have bP:SE.wrap ((p:Int)+1)=((p+1:Nat):Int):=by rw[bG _ (by omega)];rfl
  obtain⟨y,hy⟩:=cy dl;have hym:=hx.piece y (Te hy);have xf:0<=(p:Int)/\(p:Int)<x.pieces.length:=⟨by omega,by omega⟩;have dG:=C3 hy;refine aO ?_;refine aj ?_;simp only[seval,b0,bt,eC];refine aJ ((Pc (x:=x) (q:=p) hx dl (B0 _) (λh=>absurd h aG) (λ_=> ?_)));have sN:=λn hn=>aoF hx hy (n:=n) hn;have im:(m8 (Tk.v4 x p) x.first 16).length<=16:=afn _ _ _;generalize m8 (Tk.v4 x p) x.first 16=L at sN im;(try simp only[seval]);refine aj ?_;simp only[seval,show ((0:Int)!=0)=false from rfl];refine aE ?_;refine aO ?_;refine aj ?_;simp only[seval,b0,BL,aY,dG,xf];obtain⟨y1,y2,y3⟩:=hym.number;obtain⟨N,hN⟩:∃N:Nat,y.number.max+1=y.number.min+N:=⟨(y.number.max+1-y.number.min).toNat,by omega⟩;refine cI ?_;refine r6 N (λi:Nat=>[(10,iv (y.number.min+i))]) (λ_=>B++[.cells x.l 26]) (λ_=>True) trivial (λP4 db i cN _ R2 tT=> ?_);clear db;refine aj ?_;simp only[seval,b0,BL,aY,dG,xf];refine aE ?_;refine⟨λhc=> ?_,λhc=> ?_⟩
  ·have bx:i<N:=(by omega);have gY:SE.wrap (y.number.min+(i:Int)+1)=y.number.min+((i+1:Nat):Int):=(by rw[bG _ (by omega)];omega);refine aO ?_;refine aj ?_;simp only[seval,b0,bt,eC];refine aJ ((ahp (x:=x) hx (by omega) (λc d=> ?_)));(try simp only[seval]);have dZ:∀a∈zE x (.bE (B.length+1+3) 0 x.pieces.length 0),a.leaf=true:=by
    intro a ha;simp only[zE,SL,S4,or_false]at ha;rcases ha with rfl|rfl|rfl|rfl|rfl|rfl<;>rfl
   refine⟨rfl,SP 6,dZ,?_⟩;have oT:∀q,Ue 4 (zE x q)=[q,aY x.aC]:=λ_=>rfl;have bd:∀(L:List aa)(j:Nat),(B++L)[B.length+j]?=L[j]?:=λL j=>aW B L j;have bs:∀(L:List aa)(j:Nat)(y:aa),(B++L).set (B.length+j) y=B++L.set j y:=λL j y=>dR B L j y;have b4:∀(L:List aa),(B++L)[B.length+4]?=L[4]?:=λL=>bd L 4;have s4:∀(L:List aa)(y:aa),(B++L).set (B.length+4) y=B++L.set 4 y:=λL y=>bs L 4 y;have b6:∀(L:List aa),(B++L)[B.length+6]?=L[6]?:=λL=>bd L 6;have s6:∀(L:List aa)(y:aa),(B++L).set (B.length+6) y=B++L.set 6 y:=λL y=>bs L 6 y;have BW:∀q,(zE x q).length=6:=λ_=>rfl;refine eI 8 ?_;simp only[seval,b6,oT,BW];refine iy (.agg [iv (y.number.min+i),iv (y.number.min+i)]) (cJ (Pb ⟨rfl,rfl⟩)) ?_;(try simp only[seval,xf,b4,s4]);refine⟨by rw[uy aB.len];omega,?_⟩;have KI:=apC hy (y.number.min+(i:Int)) (y.number.min+(i:Int));simp only[iv]at KI;rw[KI];have gk:(x.pieces.set p ⟨⟨y.number.min+(i:Int),y.number.min+(i:Int)⟩,y.hour⟩).length=x.pieces.length:=TF;refine aeS (zB:=B.length+4) (Cs:=B.length+6) (j:=4) (cap:=0) (ps:=x.pieces.set p ⟨⟨y.number.min+(i:Int),y.number.min+(i:Int)⟩,y.hour⟩) (by simp only[seval,b4]) (by simp only[seval,b6];rfl) (by omega) (by rw[gk];rfl) ?_;have hkz:∀q,(zE x q).set 4 (aY (x.pieces.set p ⟨⟨y.number.min+(i:Int),y.number.min+(i:Int)⟩,y.hour⟩))=(oL x p y (y.number.min+(i:Int))).l:=λ_=>rfl;have vP:y.number.min<=y.number.min+(i:Int)/\y.number.min+(i:Int)<=y.number.max:=(by omega);have R7:=Pt hx hy vP;have sN:=sN _ vP;have l9:(oL x p y (y.number.min+(i:Int))).l.length=6:=rfl;have R6:T_ 6 (oL x p y (y.number.min+(i:Int))).l=(oL x p y (y.number.min+(i:Int))).l:=rfl;(try simp only[seval,s4,s6,hkz]);generalize oL x p y (y.number.min+(i:Int))=z at R7 sN l9 R6⊢;refine aj ?_;simp only[seval,b6,l9,R6];refine aJ ((Pa (x:=z) R7 (B0 _) ?_));generalize cnt z=m at sN;(try simp only[seval]);refine aj ?_;simp only[seval,show ((0:Int)!=0)=false from rfl,br];refine aJ ((aht (by omega) λw bP _ _=> ?_));have fK:∀k,dp SC .neq 4 (.val (.bool (decide (m>0)))) (.val (.bool (decide (w>=0)))) k=k (.val (.bool false)):=λk=>by
    rw[adU (by kernel_rfl) (by kernel_rfl)];have:decide (m>0)=decide (w>=0):=decide_eq_decide.2 (sN.trans bP.symm);rw[this,bne_self_eq_false]
   (try simp only[seval,fK]);refine aE ?_;refine aO ?_;refine aj ?_;simp only[seval,gY];refine tT _ ⟨bx,trivial,GC _ (o_ rfl rfl) (by simp only[seval];simp[bA,Wk.refl]) P4 (by simp[eD]) (by rw[SD];exact rfl)⟩
  ·have KZ:i=N:=(by omega);subst KZ;refine b_ ?_;refine aj ?_;simp only[seval,bP];refine hR _ ⟨dl,trivial,dD⟩
 ·have KZ:p=x.pieces.length:=by omega
  subst KZ;refine b_ ?_;refine ak ?_;refine aJ ((ahn (B0 _) ?_));(try simp only[seval]);refine a_ ?_;rw[hB,SD];exact jM hH (Wk.refl _) (.val _) hk
end
open Go.ChangeShapes Go.WideShapes Go.ChangeAt Go.RowKit
def Dh (W:Tp):View:=⟨λb o=>W.cell? ⟨b,o,none⟩,λ_=>none,0,.plain⟩
def A' (W:Tp):Env:=⟨(Dh W).ab,1,λ_=>0,λ_ _=>(none,0),λ_=>0,λ_=>none,true⟩
theorem apg(W:Tp):Sat (Dh W) W:=⟨λ_ _ _ h=>h,λ_ _ h=>by cases h⟩
theorem afV(W:Tp):Conc (A' W) (Dh W) [.main]where
 I:=rfl
 n:=rfl
 obj:=λk x h=>by
  match k,h with
  |0,h=>cases h;exact rfl
  |k+1,h=>cases h
 inj:=λi j x y b hi hj h1 h2=>by
  match i,hi with
  |0,hi=>cases hi;cases h1
  |i+1,hi=>cases hi
 group:=λg h=>by cases h
 chan:=λc h=>by cases h
 top:=λ_=>⟨rfl,rfl⟩
 fr:=λb y h=>by cases h
theorem aiR{f:TQ}{W:Tp}{args:Array SO}{lU:List AV}{Q:SO->Prop}(hi:SC.inits.idxOf? f=none)(hd:cG (A' W) lU args)(h:bc true SC f [.main] lU (λa _=>∀E v,ap E a v->Q v) (λ_ _=>False)):
  ∃M last o w' t',runNT SC (M+1) (solo (G (Frame.enter SC f args .normal) []) W) #[]=(.ended o w',t')/\runN SC M (solo (G (Frame.enter SC f args .normal) []) W)=.next last/\step SC last=.ended o w'/\WV SC (λv w=>Q v/\Left W.heap.size W w) last o w' t':=
 aiQ hi (V:=Dh W) rfl rfl rfl (apg W) (h (A' W) (Dh W) args (afV W) hd) λo V' r=>by
  cases o with
  |ret v=>
   obtain⟨av,E',H',_,bX,_,bi,_,hk⟩:=r;exact⟨bX,v,rfl,λw _ hl=>⟨hk _ _ bi,hl⟩⟩
  |panic ch=>
   obtain⟨pv,v,E',H',_,_,_,_,_,_,hf⟩:=r;exact hf.elim
theorem af7{W:Tp}{b o len cap:Nat}{zs:List Int}(hl:zs.length=len)(hc:len<=cap)(h:∀i,i<len->W.cell? ⟨b,o+i,none⟩=some (.int .i64 (zs.getD i 0))):ap (A' W) (br zs) (.slice (some ⟨b,o,none⟩) len cap):=by
 subst hl;refine .sl b o cap (λi=> .int .i64 (zs.getD i 0)) hc trivial (λi hi=> ?_) (λi x hx=> ?_)
 ·exact h i (by simpa using hi)
 ·rw[To]at hx;obtain⟨z,hz,rfl⟩:=Tq.1 hx;rw[SF,hz];exact .val _
theorem Left.below{W w:Tp}(h:Left W.heap.size W w):Below W.heap.size W w:=⟨h.os,h.tape,h.out,h.size,h.old⟩
theorem Tz.own:ownKnob SC.godebug=none:=by kernel_rfl
theorem Tz.laidOut:laidOutB SC=true:=by kernel_rfl
theorem Tz.GX:SC.underlying 22=some (.slice 3):=by kernel_rfl
theorem Tz.u3:SC.underlying 3=some (.int .i64):=by kernel_rfl
theorem Tz.u4:SC.underlying 4=some .bool:=by kernel_rfl
theorem Tz.c3:SC.cellsOf 3=1:=by kernel_rfl
theorem Tz.b3:SC.bytesOf 3=8:=by kernel_rfl
theorem Tz.r22:SC.readableRec 22=true:=by kernel_rfl
theorem Tz.Lw:22<SC.types.size:=of_decide_eq_true (by kernel_rfl)
theorem aoR{H:Type}{enc:TypeId×SO->H}{a:Assume}{C:Checked}{os:Os}{f:TQ}{fn:ZP}{s:ChangeSpec}{conds:List PathCond}{apart fresh handsOn again:Bool}{X:Tp->Array SO->Prop}
  (own:ownKnob C.prog.godebug=none) (started:os.Started) (xn:C.prog.funcs[f]?=some fn)
  (witness:∃(w:Tp)(tape:Tape)(i:Input),w.os=os/\(w.forCall tape i).Shaped C.prog/\i.vars=[]/\ZO C.prog (w.forCall tape i) .any w.heap.size f i/\
   ((s.pre enc C.prog fn conds apart (w.forCall tape i).memory i.args/\X (w.forCall tape i).memory i.args)/\sizedMet enc C.prog fn (VJ s) apart (w.forCall tape i).memory i.args)/\a.holds C.prog (lone (Frame.enter C.prog f i.args .normal) [] (w.forCall tape i)))
  (runs:∀(W:Tp)(base:Nat)(args:Array SO)(ds gs:List (ah' H))(before:List MemPlace),
   (∀(j:Nat) t v,fn.params[j]?=some t->args[j]?=some v->Yu C.prog W .any base t v)->
   DataW.Whole enc C.prog fn.params.toList s.vars apart W args.toList ds gs before->
   conds.all (ar' C.prog ⟨fn.params.toList,ds,s.plain.varTypes C.prog,gs⟩)=true->
   (Y_ C.prog (fn.params.toList++s.plain.varTypes C.prog) (ds++gs)).all (·<=reachBytes)=true->
   a.holds C.prog (lone (Frame.enter C.prog f args .normal) [] W)->
   ∃M last o w' t',runNT C.prog (M+1) (solo (G (Frame.enter C.prog f args .normal) []) W) #[]=(.ended o w',t')/\runN C.prog M (solo (G (Frame.enter C.prog f args .normal) []) W)=.next last/\
    step C.prog last=.ended o w'/\WV C.prog (λv W'=>s.post enc C.prog fn apart fresh handsOn again W args v W') last o w' t'):
  aj' a C os f .any (λw args=>(s.pre enc C.prog fn conds apart w args/\X w args)/\sizedMet enc C.prog fn (VJ s) apart w args) (s.post enc C.prog fn apart fresh handsOn again):=by
 refine returnsInLeavingWide_of_good own started witness ?_;intro w tape i _ _ _ ay Kz ajN;obtain⟨_,_,_,fw,ajL,_,_,_,_,FE⟩:=ay;have e:fw=fn:=Wj (ajL.symm.trans xn);subst e;obtain⟨⟨⟨ds,gs,before,hw,hc⟩,_⟩,hz⟩:=Kz;have nC:=ah_ (w':=w.forCall tape i) (by rfl) hw;obtain⟨M,last,o,w',t',h1,h2,h3,h4⟩:=runs (w.forCall tape i) w.heap.size i.args ds gs before FE nC hc (hz.weights hw) ajN;exact⟨M,last,o,w',t',h1,h2,h3,h4.mono λv hp=>am' hp⟩
def adh (f:TQ):Prop:=∀aA:List Int,aA.length<=2^50->bc true SC f [.main] [br aA] (λa _=>a=bv true) (λ_ _=>False)
set_option maxRecDepth 100000 in
theorem ak4{f:TQ}{fn:ZP}{s:ChangeSpec}{X:Tp->Array SO->Prop}(hf:SC.funcs[f]?=some fn)(hp:fn.params=#[22]) (hr:fn.resultTypes=#[4]) (hv:s.vars=[]) (hs:∀(H:Type)(d:ah' H),s.fn H [d]={results:=[.lit (.bool true)],args:=[d]}) (hi:SC.inits.idxOf? f=none) (ajX:adh f)
  (os:Os) (started:os.Started) (H:Type) (enc:TypeId×SO->H)
  (ak2:∃(w:Tp)(tape:Tape)(i:Input),w.os=os/\(w.forCall tape i).Shaped UE.prog/\i.vars=[]/\ZO UE.prog (w.forCall tape i) .any w.heap.size f i/\
   ((s.pre enc UE.prog fn [] false (w.forCall tape i).memory i.args/\X (w.forCall tape i).memory i.args)/\sizedMet enc UE.prog fn (VJ s) false (w.forCall tape i).memory i.args)/\({}:Assume).holds UE.prog (lone (Frame.enter UE.prog f i.args .normal) [] (w.forCall tape i))):
  aj' {} UE os f .any (λw args=>(s.pre enc SC fn [] false w args/\X w args)/\sizedMet enc SC fn (VJ s) false w args) (s.post enc SC fn false true false false):=by
 refine aoR (C:=UE) Tz.own started hf ak2 ?_;intro W base args ds gs before RX hW _ KN _;have aV:(Y_ SC (fn.params.toList++s.plain.varTypes SC) (ds++gs)).all (·<=reachBytes)=true:=KN;clear KN;have FE:∀(j:Nat) t v,fn.params[j]?=some t->args[j]?=some v->Yu SC W .any base t v:=RX;have vq:=hW;obtain⟨p,q,Eu,hV,rfl,_,_⟩:=hW;have hA:DataW.TrodAll enc SC W 0 (λ_=>true) true fn.params.toList args.toList ds p:=Eu;rw[hp]at hA FE aV;obtain⟨v0,d0,rfl,rfl,h0⟩:=trodAll_one hA;rw[hv]at hV;obtain⟨rfl,rfl⟩:=trodVars_none hV;have ay:=FE 0 22 v0 rfl rfl;obtain⟨a0,len,cap,rfl⟩:=okWide_slice Tz.GX ay;have h0k:=h0;obtain⟨fuel,hfu⟩:=h0;clear Eu RX;simp only[SY]at vq;have hlt:∀x∈p,x.block<W.heap.size:=λx hx=>by simpa using vq.lt x hx
 have cK:∀(W':Tp),Below W.heap.size W W'->DataW.Trod enc SC W' 0 (λb=>decide (b<W.heap.size)) true 22 (.slice a0 len cap) d0 p:=
  λW' hn=>Below.trod Tz.laidOut Tz.r22 Tz.Lw h0k hn hlt
 have close:∀aA:List Int,aA.length<=2^50->ap (A' W) (br aA) (.slice a0 len cap)->
   ∃M last o w' t',runNT UE.prog (M+1) (solo (G (Frame.enter UE.prog f #[.slice a0 len cap] .normal) []) W) #[]=(.ended o w',t')/\
    runN UE.prog M (solo (G (Frame.enter UE.prog f #[.slice a0 len cap] .normal) []) W)=.next last/\step UE.prog last=.ended o w'/\
    WV UE.prog (λv W'=>s.post enc UE.prog fn false true false false W #[.slice a0 len cap] v W') last o w' t':=by
  intro aA hn hd;obtain⟨M,last,o,w',t',h1,h2,h3,h4⟩:=aiR (Q:=λv=>v=.bool true) (args:=#[.slice a0 len cap]) (lU:=[br aA]) hi ⟨rfl,λi a e=>by
   match i,e with
   |0,e=>cases e;exact hd⟩ ((ajX aA hn).mono (λa H' e E v bi=>by subst e;cases bi;rfl) λ_ _ h=>h)
  refine⟨M,last,o,w',t',h1,h2,h3,h4.mono λv ⟨hQ,hL⟩=> ?_⟩;subst hQ;have hb:=hL.below;refine⟨[d0],[],_,[],p,[],vq,?_,?_,by rw[hv];exact(by rw[show ([d0]++[]:List (ah' H))=[d0]from rfl,hs];rfl),hb.frame _,λh=>by cases h⟩
  ·rw[show ([d0]++[]:List (ah' H))=[d0]from rfl,hs,hr];exact trodAll_mk1 (shut_bool Tz.u4 true)
  ·rw[show ([d0]++[]:List (ah' H))=[d0]from rfl,hs,hp];exact trodAll_mk1 (cK _ hb)
 rcases open_ints Tz.GX Tz.u3 Tz.c3 hfu with⟨oN,hx⟩|⟨a,asU,cap',zs,oN,_,hl,hm,hz,hx,JA,hwz⟩
 ·simp[Z3]at oN;obtain⟨rfl,rfl,rfl⟩:=oN;exact close [] (by simp) (.nil trivial)
 ·simp[Z3]at oN;obtain⟨rfl,rfl,rfl⟩:=oN;simp only[UY]at hx;obtain⟨rfl,rfl⟩:=hx;simp only[if_true]at hz;have RI:a.spot=none:=by
   have:=ay;simp only[Yu,Tz.GX,Cell.okWide,Cell.ok]at this;exact this.2.2.2.1
  have asN:len* 8<=140737488355328:=by
   have:=sized_slice aV (j:=0) (t:=22) (e:=3) rfl rfl Tz.GX;rw[Tz.b3]at this;simp only[lits,Tn,TZ,Uj,reachBytes]at this;omega
  obtain⟨bl,off,spot⟩:=a;simp only at RI;subst RI;have l9:(zs.take len).length=len:=by rw[TZ];omega
  refine close (zs.take len) (by rw[l9];omega) (af7 l9 hl λi hi=> ?_);have:=JA i (by omega);rw[show (atf ⟨bl,off,none⟩ i)=⟨bl,off+i,none⟩ by simp[atf]]at this;rw[this,SF,SF,List.getElem?_take_of_lt hi]
def Se:List (List Nat):=[99,117,116]::[97,116]::[[70,105,114,115,116],[87,105,100,101,114],[71,105,118,101,110],[65,112,97,114,116],[70,111,114,103,101,100],[82,101,97,100],[71,114,101,97,116,101,114],[77,105,120,101,100],[84,114,117,101],[83,116,101,112,115],[79,114,100,101,114],[65,108,108]].map ([103,108,97,100,115,116,111,110,101,47,103,108,97,100,115,116,111,110,101,108,97,119,48,49,46,84,105,99,107,101,116]++·)
def Sd:List Nat:=[104,97,114,110,101,115,115,32,52,53,102,100,53,51,53,49,102,55,99,100,57,55,51,53,100,100,102,52,98,97,54,100,48,51,53,50,49,55,53,54,101,100,101,54,101,54,99,53,99,99,52,49,57,100,50,53,55,100,49,55,57,50,99,52,48,101,97,100,49,102,57,101]++Se.flatMap (32::·)
set_option maxRecDepth 100000 in
theorem ioL:SC.initOrder.toList=Sd.map Za:=by
 have h:SC.initOrder=String.ofList (Sd.map Za):=by kernel_rfl
 rw[h,String.toList_ofList]
def Ld:List (List Char):=Se.map λl=>l.map Za
set_option maxRecDepth 100000 in
theorem ioW:behindMainWord (wordsSigns SC.initOrder.toList)=Ld:=by
 rw[ioL]
 kernel_rfl
section
variable {P:SJ}{c:List Char}{rest:List (List Char)}
theorem amw (h : behindMainWord (wordsSigns P.initOrder.toList) = c :: rest) (hc : c = "cut".toList) (h1 : stripLifts liftWords (c :: rest) = ([], c :: rest)) (h2 : P.laysLater = false) (h3 : P.bearsReflect = false) (h4 : P.doorFits [] = true) : P.mayEnter = true := by
 unfold atg;rw[h];subst hc;simp only[h1,h2,h3,h4,XY,beq_self_eq_true,Zf,YB,XR,Bool.or_true,Z_,U8]
theorem ajI (h : behindMainWord (wordsSigns P.initOrder.toList) = c :: rest) (hc : c = "cut".toList) (h1 : stripLifts liftWords (c :: rest) = ([], c :: rest)) : P.headLifts = [] := by
 unfold atj;rw[h];simp only[h1,ite_self]
theorem al3 (h : behindMainWord (wordsSigns P.initOrder.toList) = c :: rest) (hc : c = "cut".toList) (h1 : stripLifts liftWords (c :: rest) = ([], c :: rest)) : P.liftsFinal = false := by
 unfold ati;rw [ajI h hc h1, h];subst hc;simp only [XY, Zf, ZT];have : (some "cut".toList == some "carried".toList) = false := by decide +kernel
 rw[this,Xf]
theorem amr (h : behindMainWord (wordsSigns P.initOrder.toList) = c :: rest) (hc : c = "cut".toList) : P.make = some .cut := by
 unfold ath;rw [h];subst hc;have e1 : ("cut".toList == "gc".toList) = false := by decide +kernel
 have e2 : ("cut".toList == "spec".toList) = false := by decide +kernel
 simp only[e1,e2,Bool.or_self,TO,if_false,beq_self_eq_true,ae_,if_true]
end
def FR:List Char:=Ld.headD []
def Lb:List (List Char):=Ld.tail
theorem Lc:behindMainWord (wordsSigns SC.initOrder.toList)=FR::Lb:=ioW.trans (by kernel_rfl)
theorem La : FR = "cut".toList := by kernel_rfl
theorem Sf:stripLifts liftWords (FR::Lb)=([],FR::Lb):=by kernel_rfl
theorem Tz.mayEnter:SC.mayEnter=true:=amw Lc La Sf (by kernel_rfl) (by kernel_rfl) (by kernel_rfl)
theorem Tz.al2:SC.liftsFinal=false:=al3 Lc La Sf
theorem Tz.make:SC.make=some .cut:=amr Lc La
end Go.Gg
