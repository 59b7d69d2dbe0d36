/- A part of the proof. -/
import Derived.Test.YtkanpclgnhdbiaaGreatDoorTicketMixedCard3
set_option linter.all false
set_option maxRecDepth 4000
set_option maxHeartbeats 4000000
open Array renaming getD_eq_getD_getElem?->SH,getElem?_eq_getElem->SK,getElem?_eq_some_iff->SU,getElem?_modify->Wi,getElem_mem->XS,replicate->TK
open Bool renaming and_eq_true->Ti,and_self->aa_,eq_iff_iff->Vo,false_and->YB,false_or->Zu,not_eq_true'->TZ,true_and->Vs
open Classical renaming byContradiction->Ts
open Function renaming comp_apply->Wh
open Go renaming Code->Ua,Oper->Tu,Program->SJ,Value->SQ
open Go.IntKind renaming i64->SE,u16->S5
open Go.Obj renaming deferred->aub
open Go.Proofs.Tryz renaming f15->Xd,f53->al',prog->SC
open Go.Region renaming linearise->Y_,schedule->VN,wanted->Tg
open Go.Region.linearise renaming go->UF
open Go.Value renaming agg->TC,int->SF,slice->Us
open Int renaming le_refl->Xl,le_trans->XB,mul_le_mul->ac_,toNat->XJ,toNat_natCast->VQ
open List renaming all_eq_true->Tv,any_append->Zy,any_cons->YP,any_eq_true->UI,append_assoc->SA,append_eq_nil_iff->Yy,append_nil->SI,cons_append->Ve,contains_append->YN,contains_eq_mem->Uq,contains_iff_mem->YF,countP_le_length->Y1,drop->T1,drop_append->Vw,drop_append_of_le_length->Wp,drop_drop->ak',drop_eq_getElem_cons->TR,drop_of_length_le->WT,drop_zero->Xw,eq_nil_of_length_eq_zero->VC,exists_mem_of_ne_nil->Yb,ext_getElem?->Yj,filter_congr->Vh,filter_eq_nil_iff->Yx,flatMap_append->Vz,flatMap_cons->Ub,flatMap_def->WO,flatMap_eq_nil_iff->WN,flatMap_map->WM,foldl_append->ZN,foldl_cons->UX,forall_mem_cons->Xc,getD_cons_succ->Xb,getD_cons_zero->Xk,getD_eq_getElem?_getD->SD,getElem?_append_left->SY,getElem?_append_right->S8,getElem?_drop->Up,getElem?_eq_getElem->SO,getElem?_eq_none->Uu,getElem?_eq_some_iff->SM,getElem?_map->Tn,getElem?_of_mem->Vg,getElem?_range->XI,getElem?_set->UP,getElem?_set_ne->T7,getElem?_take->Ul,getElem_mem->Wy,getLast?_eq_getElem?->X_,getLastD_cons->Zp,getLastD_eq_getLast?->Vf,head?_append->WL,head?_cons->ZM,length->Z3,length_append->SP,length_cons->Uk,length_drop->Uo,length_eraseIdx_of_lt->X6,length_map->Tm,length_nil->UR,length_pos_iff->Vt,length_range->ZL,length_replicate->YE,length_set->TE,length_singleton->T8,length_take->Uf,map->U5,map_append->TN,map_congr_left->VB,map_cons->UV,map_flatMap->Vv,map_map->XW,map_take->VX,mem_append->SV,mem_append_left->Tf,mem_append_right->S4,mem_cons->SL,mem_cons_of_mem->Tb,mem_cons_self->TB,mem_filter->Uv,mem_flatMap->S6,mem_iff_getElem?->UQ,mem_map->Tl,mem_of_getElem?->Td,mem_of_mem_take->Xv,mem_or_eq_of_mem_set->UB,mem_range->TF,mem_reverse->XG,mem_singleton->S9,nil_append->UK,nodup_append->U4,nodup_cons->VH,nodup_iff_pairwise_ne->TD,nodup_nil->WK,nodup_range->X5,not_mem_nil->S0,pairwise_iff_getElem->Yp,pairwise_map->Wb,range->SZ,range'->Ud,range'_succ->VT,range_eq_range'->Vp,range_succ->Vk,range_zero->Zx,replicate->TG,reverse_cons->Zg,set_append_left->U2,set_append_right->T9,set_cons_succ->UE,set_cons_zero->T4,set_eq_take_append_cons_drop->XL,take->TU,take_add_one->VJ,take_append_drop->Vd,take_append_of_le_length->Tw,take_eq_nil_iff->YM,take_length->TQ,take_of_length_le->SS,take_set->Z2,take_succ_cons->VS,take_succ_eq_append_getElem->XF,take_take->UZ,take_zero->ak_
open List.Pairwise renaming imp->Z4,imp_of_mem->Xs
open List.Perm renaming nodup_iff->an',refl->ab'
open List.cons renaming injEq->YO
open Nat renaming add_assoc->U_,add_sub_cancel->VY,add_sub_cancel_left->TS,add_zero->UD,eq_zero_or_pos->UH,le_refl->SR,le_trans->UL,lt_or_ge->YD,lt_succ_self->Uw,min_eq_left->Ww,pow_le_pow_right->Xj,reduceAdd->SX,reduceSub->Yo,sub_self->Va,sub_zero->ZW,succ_mul->XA,testBit_or->Xi,testBit_two_pow->VR,zero_add->Wr,zero_le->Xz,zero_testBit->Zv
open Option renaming getD_some->S7,map_some->UO
open Option.some renaming injEq->Tj
namespace Go.Gg
open Go.Conc Go.Proofs Go.Gg.Tk
def nG (τ:a_)(n m lo hi:Int):iM:=⟨max lo (n-dp τ m),min hi (n+dp (tick τ) m)⟩
def l6 (τ:a_)(h:List Int)(n hours:Int):aC:=⟨nG τ n 2 0 99,nG (tick (tick τ)) (mq h n (h.length-1)) 1 0 (hours-1)⟩
section
variable {lv:Bool}{k kp:AV->List aa->Prop}{Gf:a_->List aa}{t N:Nat}{τ:a_}{b:Int}
theorem Jq{n m lo hi:Int}(hT:dK Gf t N)(hτ:τ.Ok b)(hb:b<2^30)(hn: -1000<=n/\n<=1000)(hm:0<=m/\m<=3)(hk:k (nG τ n m lo hi).av (Gf (tick (tick τ)))):bk lv SC 48 (Gf τ) [.op t 0,iv n,iv m,.agg [iv lo,iv hi]] k kp:=by
 refine bL (rs:=[.cell 8 46]) (nt:=26) Tryz.f48 λhH hA=> ?_;simp only[bt,SX];have oL:dK (λτ=>Gf τ++[.cells [iv lo,iv hi] 46,.cells [iv 0,iv 0] 46]) t (N+2):=hT.more [_,_];have r1:=lS τ m;have r2:=lS (tick τ) m;have bU:SE.wrap (n-dp τ m)=n-dp τ m:=bG _ (by omega);have f_:SE.wrap (n+dp (tick τ) m)=n+dp (tick τ) m:=bG _ (by omega);have CQ:(if lo<n-dp τ m then n-dp τ m else lo)=max lo (n-dp τ m):=by split<;>omega
 have rW:(if n+dp (tick τ) m<hi then n+dp (tick τ) m else hi)=min hi (n+dp (tick τ) m):=by split<;>omega
 refine ak ?_;refine pu [5,13,17] [0,1,2,3,4,5,6,7,8,9,10,11,12,13,14,15,16,17] [⟨0,false,[],[([5],[5]),([5,13],[5,13])]⟩,⟨1,false,[],[([5],[5]),([5,13],[5,13])]⟩,⟨2,false,[],[([5],[5]),([5,13],[5,13])]⟩,⟨3,false,[],[]⟩,⟨4,false,[],[]⟩,⟨5,true,[5],[]⟩,⟨6,false,[5],[([5,13],[5,13])]⟩,⟨7,false,[5],[([5,13],[5,13])]⟩,⟨8,false,[5],[([],[]),([5,13],[5,13])]⟩,⟨9,false,[5],[([],[]),([5,13],[5,13])]⟩,⟨10,false,[5],[([],[]),([5,13],[5,13])]⟩,⟨11,false,[5],[([],[])]⟩,⟨12,false,[5],[([],[])]⟩,⟨13,true,[5,13],[]⟩,⟨14,false,[5,13],[]⟩,⟨15,false,[5,13],[]⟩,⟨16,false,[5,13],[]⟩,⟨17,true,[5,13,17],[]⟩] (λD=>bif isDone 17 D then Gf (tick (tick τ))++[.cells [iv lo,iv hi] 46,.cells [iv (max lo (n-dp τ m)),iv (min hi (n+dp (tick τ) m))] 46]else bif isDone 13 D then Gf (tick (tick τ))++[.cells [iv lo,iv hi] 46,.cells [iv 0,iv 0] 46]else bif isDone 5 D then Gf (tick τ)++[.cells [iv lo,iv hi] 46,.cells [iv 0,iv 0] 46]else Gf τ++[.cells [iv lo,iv hi] 46,.cells [iv 0,iv 0] 46]) ?_;simp only[seval,hT.len,hT.g0,hT.g1,hT.g2,hT.g3,hT.h2,hT.h3,hT.s0,hT.s1,hT.s2,hT.s3,hT.t2,hT.t3,bU,f_,CQ,rW];refine kA _ _ (bX (pz (oL) hτ (by omega) (by omega) ⟨rfl,rfl⟩)) ?_;(try simp only[seval,hT.len,hT.g0,hT.g1,hT.g2,hT.g3,hT.h2,hT.h3,hT.s0,hT.s1,hT.s2,hT.s3,hT.t2,hT.t3,bU,f_,CQ,rW]);refine kA _ _ (bX (pz (oL) hτ.tick (by omega) (by omega) ⟨rfl,rfl⟩)) ?_;(try simp only[seval,hT.len,hT.g0,hT.g1,hT.g2,hT.g3,hT.h2,hT.h3,hT.s0,hT.s1,hT.s2,hT.s3,hT.t2,hT.t3,bU,f_,CQ,rW]);refine nH ?_;simp only[seval,hT.len,hT.g0,hT.g1,hT.g2,hT.g3,hT.h2,hT.h3,hT.s0,hT.s1,hT.s2,hT.s3,hT.t2,hT.t3];exact kg (b:=(nG τ n m lo hi).av) (H':=Gf (tick (tick τ))) (Wk.refl _) rfl (by simp[hT.len]) (hT.au hH _) (by simp[iM.av,iM.l,tX,fe]) hk
theorem Qi{h:List Int}{n hours:Int}{e:End}(hT:dK Gf t N)(hτ:τ.Ok b)(hb:b<2^20)(hl:h.length<=4)(hn: -1000<=n/\n<=1000)(hh:1<=hours/\hours<=3)(qQ: -1<=mq h n (h.length-1)/\mq h n (h.length-1)<=4)(hk:k (l6 τ h n hours).av (Gf (tick (tick (tick (tick τ)))))):bk lv SC 47 (Gf τ) [.op t 0,.sl h.length (h.map iv) e,iv n,iv hours] k kp:=by
 refine bL (rs:=[.cell 8 48]) (nt:=22) Tryz.f47 λhH hA=> ?_;simp only[bt,SX];have uI:∀o:aa,dK (λτ=>Gf τ++[o]) t (N+1):=λo=>hT.more [o];have bU:SE.wrap (hours-1)=hours-1:=bG _ (by omega);refine ak ?_;refine ai ?_;simp only[seval,bU];refine aI ((Jq (n:=n) (m:=2) (lo:=0) (hi:=99) (uI _) hτ (by omega) hn (by decide) ?_));(try simp only[seval]);refine aI ((aik (h:=h) (n:=n) hl ?_));(try simp only[seval,bU]);refine aI ((Jq (n:=mq h n (h.length-1)) (m:=1) (lo:=0) (hi:=hours-1) (uI _) hτ.tick.tick (by omega) (by omega) (by decide) ?_));(try simp only[seval,hT.len,hT.g0,hT.g1,hT.g2,hT.g3,hT.h2,hT.h3,hT.s0,hT.s1,hT.s2,hT.s3,hT.t2,hT.t3,iM.av,iM.l]);refine nH ?_;simp only[seval,hT.len,hT.g0,hT.g1,hT.g2,hT.g3,hT.h2,hT.h3,hT.s0,hT.s1,hT.s2,hT.s3,hT.t2,hT.t3];exact kg (b:=(l6 τ h n hours).av) (H':=Gf (tick (tick (tick (tick τ))))) (Wk.refl _) rfl (by simp[hT.len]) (hT.au hH _) (by simp[aC.av,aC.l,tX,fe]) hk
end
end Go.Gg
namespace Go.Gg.Tk
def uo:List Int->Prop
 |a::b::l=>a<=b/\uo (b::l)
 |_=>True
theorem arJ{h:List Int}{n:Int}(hl:2<=h.length)(qF:h.length<=4)(hm:uo h):mq h n (h.length-1)=jF h n:=by
 match h,hl,qF,hm with
 |[a,b],_,_,hm=>
  simp only[jF,fP,mq,Uk,UR,Xk,Xb,SX,Yo]
 |[a,b,c],_,_,hm=>
  obtain⟨h1,h2,_⟩:=hm;simp only[jF,fP,mq,Uk,UR,Xk,Xb,SX,Yo];split<;>split<;>first|rfl|omega
 |[a,b,c,d],_,_,hm=>
  obtain⟨h1,h2,h3,_⟩:=hm;simp only[jF,fP,mq,Uk,UR,Xk,Xb,SX,Yo];split<;>split<;>first|rfl|omega|(split<;>first|rfl|omega)
end Go.Gg.Tk
namespace Go.Gg
open Go.Conc
section
variable {lv:Bool}{P:SJ}{r:Option Nat}{o:Tu}{s:AS}{next:AS->Prop}{bad:AV->AS->Prop}
end
section
variable (lv:Bool)(P:SJ)(r:Option Nat)
def BA:List Tu->AS->(AS->Prop)->(AV->AS->Prop)->Prop
 |[],s,K,_=>K s
 |o::rest,s,K,bad=>o.guard=none/\Step lv P r o s (λs'=>BA rest s' K bad) bad
end
section
variable {lv:Bool}{P:SJ}{r:Option Nat}{s:AS}
theorem acU{nt:Nat}{all:Array Tu}{Φ:an->AS->Prop}(dB:∀o∈all,∀d,o.dst=some d->d<nt)(nV:∀o∈all,r=none\/mL o.op=false):∀(n k:Nat)(s:AS),k+n=all.size->BA lv P r (all.toList.drop k) s (Φ .normal) (λpv s=>Φ (.panic pv) s)->
  ∀(E:Env)(V:View)(a:Act)(Q:Ex->Act->View->Prop),At E V s a nt->(∀ae e E' V' a' s',Kept E E' V V' a a'->At E' V' s' a' nt->qh E' ae e->Φ ae s'->Q e a' V')->dz lv P r all Q (Ud k n) a V
 |0,k,s,hk,h,E,V,a,Q,ah,hQ=>by
  have:all.toList.drop k=[]:=by simp;omega
  rw[this]at h;exact hQ .normal .normal E V a s (Kept.refl E V a) ah trivial h
 |n+1,k,s,hk,h,E,V,a,Q,ah,hQ=>by
  have hlt:k<all.size:=by omega
  have hd:all.toList.drop k=all[k]::all.toList.drop (k+1):=by
   rw[TR (by simpa using hlt)];simp
  rw[hd]at h;have fZ:all[k]∈all:=XS hlt;have ho:all[k]?=some all[k]:=SK hlt;simp only[VT,dz,ho];obtain⟨hg,h⟩:=h;have hw:Tg all[k] (yielded all a.tmps)=true:=by unfold Tg;rw[hg]
  rw[if_pos hw];refine .inl (h E V a _ Q ah.bu ah.tok (λd e=>by rw[ah.size];exact dB _ fZ d e) (nV _ fZ) (λE' V' a' s' aJ bi mJ hn=> ?_) (λE' V' s' pv v aJ bi mJ bm hb=> ?_))
  ·exact acU dB nV n (k+1) s' (by omega) hn E' V' a' Q ⟨bi,mJ,aJ.size.trans ah.size⟩ (λae e bW aT cx dw gz dt he hΦ=>hQ ae e bW aT cx dw (aJ.trans gz) dt he hΦ)
  ·exact hQ (.panic pv) (.panic _) E' V' a s' aJ ⟨bi,mJ,ah.size⟩ ⟨v,rfl,bm⟩ hb
theorem afE{nt id:Nat}{ops:Array Tu}{Φ:an->AS->Prop}(hd:j_ nt ops=true)(h:BA lv P r ops.toList s (Φ .normal) (λpv s=>Φ (.panic pv) s)):aQ lv P r nt (.region id ops false) s Φ:=by
 intro E V a Q ah hQ;refine wp_region ?_;rw[Vp];exact acU (Φ:=Φ) (λo ho d e=>(j_.out hd ho).1 d e) (λo ho=> .inr (j_.out hd ho).2) ops.size 0 s (by omega) (by simpa using h) E V a Q ah hQ
end
section
variable {lv:Bool}{P:SJ}{r:Option Nat}{o:Tu}{s:AS}{next:AS->Prop}{bad:AV->AS->Prop}
theorem IA{nt id:Nat}{c:Ua}{l:List AV}{el:TypeId}{Φ:an->AS->Prop}(ce:s.H[id]?=some (.cells l el))(h:aQ lv P r nt c ⟨s.T,s.H.set id (.part l.length l el)⟩ Φ):aQ lv P r nt c s Φ:=λE V a Q ah hQ=>by
 have hc:=ah.bu;obtain⟨⟨cs,eM,hd⟩,lF⟩:=hc.obj id _ ce;have g:ej V (V.eX (E.blk id) cs (λo=>decide (o<l.length))):=xQ eM (λo _=>lF o);refine WP.ghost g ?_;have hI:∀b o v,E.I b o=some v->(V.eX (E.blk id) cs (λo=>decide (o<l.length))).ab b o=some v:=λb o v e=>by
  rw[hc.I]at e;have hb:b≠E.blk id:=λhb=>by rw[hb,lF]at e;cases e
  simp only[View.eX];rw[if_neg (λx=>hb x.1)];exact e
 have hle:E.Le {E with I:=(V.eX (E.blk id) cs (λo=>decide (o<l.length))).ab}:=⟨hI,SR _,λ_ _=>rfl,λ_ _=>SR _,λ_ _ _ _=>rfl,rfl,rfl⟩;have cU:Conc {E with I:=(V.eX (E.blk id) cs (λo=>decide (o<l.length))).ab} (V.eX (E.blk id) cs (λo=>decide (o<l.length))) (s.H.set id (.part l.length l el)):=by
  refine hc.iW id _ hle rfl (by rw[TE];exact hc.n) lN rfl (λ_ _ _=>rfl) (λb y fM hy=>⟨hy,λo=> ?_⟩) ⟨⟨cs,eM,(hd.mono hle).p,λo ho=> ?_⟩,λo ho=> ?_⟩ (λb hb=> .inl ⟨_,ce,hb⟩)
  ·have hb:b≠E.blk id:=λhb=>fM _ ce (by rw[hb];rfl);simp only[View.eX];rw[if_neg (λx=>hb x.1)]
  ·simp only[View.eX];rw[if_pos ⟨trivial,by simpa using ho⟩]
  ·simp only[View.eX];rw[if_neg (λx=>by have:=x.2;simp at this;omega)];exact lF o
 exact h _ _ a Q ⟨cU,ah.tok.mono hle,ah.size⟩ λae e E' aT a' s' hk=>hQ ae e E' aT a' s' ((⟨hle,rfl,rfl,rfl,rfl⟩:Kept E _ V (V.eX (E.blk id) cs (λo=>decide (o<l.length))) a a).trans hk)
def zr (H:List aa)(b a:AV):Prop:=∀E V v,Conc E V H->ap E b v->ap E a v
theorem zr.of{H:List aa}{b a:AV}(h:Wk b a):zr H b a:=λE _ v _ d=>h E v d
theorem HO{H:List aa}{id n cap m p:Nat}{l:List AV}{el:TypeId}(ce:H[id]?=some (.part p l el))(hm:m<=p)(hp:p<=l.length):zr H (.bp id 0 n cap) (.sl n (l.take m) .shut):=λE V v hc hd=>by
 cases hd with
 |bp hi ec=>
  rename_i cap';obtain⟨⟨cs,ho,FN,uR⟩,_⟩:=hc.obj id _ ce;refine .sl (E.blk id) 0 cap' (λi=>cs.getD i undef) ec.1 trivial (λi cu=> ?_) (λi x hx=> ?_)
  ·rw[Uf]at cu;have hlt:i<cs.size:=(by have:=FN.1;omega);rw[hc.I,Wr,uR i (by omega),SH,SK hlt];rfl
  ·rw[Ul]at hx;split at hx
   ·exact FN.2 i x hx
   ·cases hx
theorem IB{nt id j:Nat}{c:Ua}{l:List AV}{x y:AV}{el:TypeId}{Φ:an->AS->Prop}(ce:s.H[id]?=some (.cells l el))(hj:l[j]?=some x)(hw:zr s.H x y)(h:aQ lv P r nt c ⟨s.T,s.H.set id (.cells (l.set j y) el)⟩ Φ):aQ lv P r nt c s Φ:=λE V a Q ah hQ=>by
 have hc:=ah.bu;obtain⟨⟨cs,eM,hd⟩,lF⟩:=hc.obj id _ ce;have cU:Conc E V (s.H.set id (.cells (l.set j y) el)):=
  hc.iW id _ (Env.Le.refl _) hc.I (by rw[hc.n,TE]) lN rfl (λ_ _ _=>rfl) (λb y _ hy=>⟨hy,λ_=>rfl⟩) ⟨⟨cs,eM,PO hd hj (λv d=>hw E V v hc d)⟩,lF⟩ (λb dL=> .inl ⟨_,ce,dL⟩)
 exact h E V a Q ⟨cU,ah.tok,ah.size⟩ hQ
theorem O_{nt t:Nat}{c:Ua}{x y:AV}{Φ:an->AS->Prop}(ht:look s.T t=some x)(hw:zr s.H x y)(h:aQ lv P r nt c ⟨(t,y)::s.T,s.H⟩ Φ):aQ lv P r nt c s Φ:=λE V a Q ah hQ=>by
 refine h E V a Q ⟨ah.bu,λt' b e=> ?_,ah.size⟩ hQ;simp only[look]at e;split at e
 ·rename_i e';subst e';cases e;exact⟨(ah.tok t x ht).1,hw E V _ ah.bu (ah.tok t x ht).2⟩
 ·exact ah.tok t' b e
end
open Go.Proofs Go.Gg.Tk
def iq (τ:a_)(n:Nat):Nat->List Int×a_
 |0=>(TG n 0,τ)
 |i+1=>(((iq τ n i).1.set i ((iq τ n i).1.getD (dp (iq τ n i).2 i).toNat 0)).set (dp (iq τ n i).2 i).toNat i,tick (iq τ n i).2)
theorem AI(τ:a_)(n:Nat):∀i,(iq τ n i).1.length=n
 |0=>YE
 |i+1=>by rw[iq,TE,TE,AI τ n i]
theorem GU{τ:a_}{b:Int}(h:τ.Ok b)(n:Nat):∀i:Nat,(iq τ n i).2.Ok (b+i)
 |0=>h.mono (by simp)
 |i+1=>(GU h n i).tick.mono (by simp;omega)
theorem adT(n:Nat):ie (SF .i64 0) n=(TG n (0:Int)).map iv:=by
 have h:∀i∈SZ n,AV.p8 ((SF SE 0).cells[i % (SF SE 0).cells.size]!)=iv 0:=λi _=>by
  rw[show (SF SE 0).cells.size=1 from rfl,Nat.mod_one];rfl
 rw[List.map_replicate];unfold ie;rw[VB h,List.map_const',ZL]
section
variable {lv:Bool}{k kp:AV->List aa->Prop}{Gf:a_->List aa}{t N:Nat}{τ:a_}{b:Int}
theorem Jo{n:Nat}(hT:dK Gf t N)(hτ:τ.Ok b)(hb:b<2^30)(hn:n<=2^20)(hk:k (br (iq τ n n).1) (Gf (iq τ n n).2)):bk lv SC 37 (Gf τ) [.op t 0,iv n] k kp:=by
 refine bL (rs:=[.tmp 4]) (nt:=30) Tryz.f37 λhH hA=> ?_;simp only[bt,SX];have uI:∀o:aa,dK (λτ=>Gf τ++[o]) t (N+1):=λo=>hT.more [o];refine ak ?_;refine ai ?_;simp only[seval,adT,hT.len];refine⟨by omega,by omega,?_⟩;refine ak ?_;refine cL ?_;refine iD n (λi:Nat=>[(6,iv i)]) (λi=>Gf (iq τ n i).2++[.cells ((iq τ n i).1.map iv) 3]) (λ_=>True) (λ_ _=>rfl) (by simp only[seval];simp[bw,Wk.refl]) rfl (λ_ _ _=>by simp[hT.len]) trivial (λb_ dj i cV hi R hR=> ?_);clear b_ dj;refine ak ?_;refine aD ?_;refine⟨λh=> ?_,λh=> ?_⟩
 ·have bD:i<n:=by omega
  have au:=GU hτ n i;have hlen:=AI τ n i;have yy:SE.wrap ((i:Int)+1)=i+1:=bG _ (by omega);have eR:iq τ n (i+1)=(((iq τ n i).1.set i ((iq τ n i).1.getD (dp (iq τ n i).2 i).toNat 0)).set (dp (iq τ n i).2 i).toNat i,tick (iq τ n i).2):=rfl;generalize iq τ n i=m at au hlen eR⊢;obtain⟨l,σ⟩:=m;simp only at au hlen eR;have hr:=lS σ i;refine aN ?_;refine ak ?_;refine aI ((pz (uI _) au (by omega) (by omega) ?_));(try simp only[seval]);generalize dp σ i=u at hr eR⊢;obtain⟨u,rfl⟩:∃w:Nat,u=w:=⟨u.toNat,by omega⟩;rw[VQ]at eR;have hul:u<n:=by omega
  obtain⟨a,ha⟩:=cD (xs:=l) (i:=u) (by omega);have KG:l.getD u 0=a:=by rw[SD,ha];rfl
  rw[KG]at eR;obtain⟨a2,Cq⟩:=cD (xs:=l) (i:=i) (by omega);have F3:(i+1<=l.length)=True:=by simp;omega
  have hou:(u+1<=(l.set i a).length)=True:=by simp;omega
  refine ai ?_;simp only[seval,j8 bD,j8 hul,hT.len,hT.g0,hT.g1,hT.g2,hT.g3,hT.h2,hT.h3,hT.s0,hT.s1,hT.s2,hT.s3,hT.t2,hT.t3,ly ha,Tm,F3,w6 (y:=a) (show i<l.length by omega)];refine ai ?_;simp only[seval,j8 hul,hT.len,hT.g0,hT.g1,hT.g2,hT.g3,hT.h2,hT.h3,hT.s0,hT.s1,hT.s2,hT.s3,hT.t2,hT.t3,Tm,hou,w6 (xs:=l.set i a) (y:=i) (show u<(l.set i a).length by simp;omega)];refine ai ?_;simp only[seval,yy];refine hR _ ⟨bD,trivial,?_⟩;rw[eR];exact dn
 ·have tH:i=n:=by omega
  subst tH;clear hR;refine cq ?_;have hlen:=AI τ i i;generalize iq τ i i=m at hlen hk⊢;obtain⟨l,σ⟩:=m;simp only at hlen hk
  (repeat apply iY);refine IA (id:=N) (by simp only[seval,hT.len,hT.g0,hT.g1,hT.g2,hT.g3,hT.h2,hT.h3,hT.s0,hT.s1,hT.s2,hT.s3,hT.t2,hT.t3]<;>rfl) ?_
  simp only[seval,hT.len,hT.g0,hT.g1,hT.g2,hT.g3,hT.h2,hT.h3,hT.s0,hT.s1,hT.s2,hT.s3,hT.t2,hT.t3]
  (repeat apply iY);refine O_ (t:=5) (y:=br l) (by simp only[seval]<;>rfl) ?_ ?_
  ·have e:br l=.sl i ((l.map iv).take i) .shut:=by
    rw[SS (by simp;omega),br,hlen]
   rw[e];exact HO (p:=l.length) (by simp only[seval,hT.len,hT.g0,hT.g1,hT.g2,hT.g3,hT.h2,hT.h3,hT.s0,hT.s1,hT.s2,hT.s3,hT.t2,hT.t3]<;>rfl) (by omega) (by simp)
  refine ak ?_;refine bf ?_;exact kg (b:=br l) (H':=Gf σ) (G:=[.part l.length (l.map iv) 3]) (Wk.refl _) rfl (by simp[hT.len]) (hT.au hH σ) (by rw[yI];trivial) hk
end
structure xk (p:List Int)(n:Nat):Prop where
 len:p.length=n
 nodup:p.Nodup
 w5:∀v∈p,0<=v/\v<(n:Int)
theorem set_perm{t:List Int}{k:Nat}{a b:Int}(h:t[k]?=some a):(t.set k b++[a]).Perm (t++[b]):=by
 obtain⟨hk,rfl⟩:=SM.1 h;have e:t=t.take k++t[k]::t.drop (k+1):=by rw[<- TR hk,Vd]
 rw[XL,if_pos hk]
 conv=>rhs;rw[e]
 rw[List.perm_iff_count];intro v;simp only[List.count_append,List.count_cons,List.count_nil];omega
theorem abf(τ:a_)(n:Nat):∀i:Nat,i<=n->((iq τ n i).1.take i).Nodup/\∀v∈(iq τ n i).1.take i,0<=v/\v<(i:Int)
 |0,_=>by simp
 |i+1,hi=>by
  obtain⟨h1,h2⟩:=abf τ n i (by omega);have hlen:=AI τ n i;rw[iq];generalize iq τ n i=m at h1 h2 hlen⊢;obtain⟨l,σ⟩:=m;simp only at h1 h2 hlen⊢;have hr:=lS σ i;generalize dp σ i=u at hr⊢;obtain⟨k,rfl⟩:∃w:Nat,u=w:=⟨u.toNat,by omega⟩;rw[VQ];obtain⟨a,ha⟩:=cD (xs:=l) (i:=k) (by omega);obtain⟨c,hc⟩:=cD (xs:=l) (i:=i) (by omega);have KG:l.getD k 0=a:=by rw[SD,ha];rfl
  have wH:(l.take i).length=i:=by rw[Uf];omega
  have hp:(((l.set i a).set k (i:Int)).take (i+1)).Perm (l.take i++[(i:Int)]):=by
   rw[Z2,Z2,VJ,hc];show ((((l.take i)++[c]).set i a).set k (i:Int)).Perm _;rw[T9 _ _ (by omega),wH,Va];show (((l.take i)++[a]).set k (i:Int)).Perm _;by_cases e:k=i
   ·subst e;rw[T9 _ _ (by omega),wH,Va];exact ab' _
   ·rw[U2 _ _ (by omega)];exact set_perm (by rw[Ul,if_pos (by omega)];exact ha)
  rw[KG];refine⟨(an' hp).2 ?_,λv hv=> ?_⟩
  ·exact U4.2 ⟨h1,by simp,λx hx y hy e=>by
    have:=h2 x hx;simp at hy;omega⟩
  ·rcases SV.1 (hp.mem_iff.1 hv)with hv|hv
   ·have:=h2 v hv;omega
   ·simp at hv;omega
theorem MP(τ:a_)(n:Nat):xk (iq τ n n).1 n:=by
 obtain⟨h1,h2⟩:=abf τ n n (SR _);rw[SS (by rw[AI];exact SR _)]at h1 h2;exact⟨AI τ n n,h1,h2⟩
theorem BR{τ:a_}{n m lo hi:Int}(hn:lo<=n/\n<=hi)(pL:0<=lo):sM (nG τ n m lo hi) hi/\lf (nG τ n m lo hi) n=true:=by
 have r1:=lS τ m;have r2:=lS (tick τ) m;unfold nG;refine⟨⟨?_,?_,?_⟩,?_⟩
 ·dsimp only;omega
 ·dsimp only;omega
 ·dsimp only;omega
 ·unfold lf;rw[Ti,decide_eq_true_eq,decide_eq_true_eq];dsimp only;omega
theorem Je(τ:a_){ns:List Int}(h:ns≠[]):v7 τ ns∈ns:=by
 unfold v7;have hl:0<ns.length:=Vt.2 h;have r:=lS τ ((ns.length:Int)-1);have hi:(dp τ ((ns.length:Int)-1)).toNat<ns.length:=by omega
 rw[SD,SO hi];exact Wy hi
def w8 (τ:a_)(am:Int):Int:=v7 (tick τ) [0,am,dp τ am]
theorem acX(τ:a_){am:Int}(h:0<=am):0<=w8 τ am/\w8 τ am<=am:=by
 have r:=lS τ am;have:=Je (tick τ) (ns:=[0,am,dp τ am]) (by simp);unfold w8;simp only[SL,S0,or_false]at this;omega
def lG (τ:a_)(first am:Int):Nat->List Int×a_
 |0=>([first],τ)
 |i+1=>((lG τ first am i).1++[(lG τ first am i).1.getD i 0+w8 (lG τ first am i).2 am],tick (tick (lG τ first am i).2))
structure ox (first am:Int)(l:List Int)(i:Nat):Prop where
 len:l.length=i+1
 head:l.getD 0 0=first
 step:∀j,j<i->l.getD j 0<=l.getD (j+1) 0/\l.getD (j+1) 0<=l.getD j 0+am
theorem Fj{l:List Int}{v:Int}{j:Nat}(h:j<l.length):(l++[v]).getD j 0=l.getD j 0:=by
 rw[SD,SD,SY h]
theorem ajs{l:List Int}{v:Int}{j:Nat}(h:l.length=j):(l++[v]).getD j 0=v:=by
 subst h;rw[SD,S8 (SR _),Va];rfl
theorem R3(τ:a_)(first:Int){am:Int}(h:0<=am):∀i,ox first am (lG τ first am i).1 i
 |0=>⟨rfl,rfl,λj hj=>by omega⟩
 |i+1=>by
  have ih:=R3 τ first h i
  rw[lG];have hs:=acX (lG τ first am i).2 h;generalize w8 (lG τ first am i).2 am=v at hs⊢;generalize(lG τ first am i).1=l at ih⊢;have hl:=ih.len;refine⟨by rw[SP,hl];rfl,by rw[Fj (by omega)];exact ih.head,λj hj=> ?_⟩;by_cases cy:j<i
  ·rw[Fj (by omega),Fj (by omega)];exact ih.step j cy
  ·have:j=i:=(by omega);subst this;rw[Fj (by omega),ajs (by omega)];omega
theorem R4{τ:a_}{b:Int}(h:τ.Ok b)(first am:Int):∀i:Nat,(lG τ first am i).2.Ok (b+2* i)
 |0=>h.mono (by simp)
 |i+1=>(R4 h first am i).tick.tick.mono (by simp;omega)
theorem ox.ge{first am:Int}{l:List Int}{i:Nat}(h:ox first am l i)(hp:0<=am):∀j,j<=i->first<=l.getD j 0/\l.getD j 0<=first+am* j
 |0,_=>by rw[h.head];simp
 |j+1,hj=>by
  have ih:=h.ge hp j (by omega);have:=h.step j (by omega);have e:am* ((j+1:Nat):Int)=am* j+am:=by rw[Int.natCast_add,Int.mul_add];simp
  omega
def lh (first:Int)(order:List Int)(i:Nat):List Int:=(SZ i).map λj=>first+order.getD j 0
theorem abt(first:Int)(order:List Int)(i:Nat):lh first order (i+1)=lh first order i++[first+order.getD i 0]:=by
 unfold lh;rw[Vk,TN];rfl
theorem abr(first:Int)(order:List Int)(i:Nat):(lh first order i).length=i:=by simp[lh]
def kT (h:List Int)(hours:Int)(num:Nat->Int)(τ:a_):Nat->List aC×a_
 |0=>([],τ)
 |i+1=>((kT h hours num τ i).1++[l6 (tick (kT h hours num τ i).2) h (num i) hours],tick (tick (tick (tick (tick (kT h hours num τ i).2)))))
theorem z8(h:List Int)(hours:Int)(num:Nat->Int)(τ:a_):∀i,(kT h hours num τ i).1.length=i
 |0=>rfl
 |i+1=>by rw[kT,SP,z8 h hours num τ i];rfl
theorem Kf{τ:a_}{b:Int}(hτ:τ.Ok b)(h:List Int)(hours:Int)(num:Nat->Int):∀i:Nat,(kT h hours num τ i).2.Ok (b+5* i)
 |0=>hτ.mono (by simp)
 |i+1=>(Kf hτ h hours num i).tick.tick.tick.tick.tick.mono (by simp;omega)
def sA (h:List Int)(hours:Int)(τ:a_):Nat->List Seen×a_
 |0=>([],τ)
 |i+1=>((sA h hours τ i).1++[⟨dp (sA h hours τ i).2 hours,nG (tick (sA h hours τ i).2) (h.getD (dp (sA h hours τ i).2 hours).toNat 0) 1 0 99⟩],tick (tick (tick (sA h hours τ i).2)))
theorem acr(h:List Int)(hours:Int)(τ:a_):∀i,(sA h hours τ i).1.length=i
 |0=>rfl
 |i+1=>by rw[sA,SP,acr h hours τ i];rfl
theorem acu{τ:a_}{b:Int}(hτ:τ.Ok b)(h:List Int)(hours:Int):∀i:Nat,(sA h hours τ i).2.Ok (b+3* i)
 |0=>hτ.mono (by simp)
 |i+1=>(acu hτ h hours i).tick.tick.tick.mono (by simp;omega)
theorem acs{h:List Int}{hours:Int}{τ:a_}(hu:∀τ,0<=dp τ hours/\dp τ hours<=hours):∀i,∀s∈(sA h hours τ i).1,0<=s.hour/\s.hour<=hours/\∃σ,s.next=nG σ (h.getD s.hour.toNat 0) 1 0 99
 |0,s,hs=>by cases hs
 |i+1,s,hs=>by
  rw[sA]at hs;rcases SV.1 hs with hs|hs
  ·exact acs hu i s hs
  ·rw[S9]at hs;subst hs;exact⟨(hu _).1,(hu _).2,_,rfl⟩
structure Eu (h:List Int)(hours n:Int)(y:aC):Prop where
 num:sM y.number 99
 hour:sM y.hour (hours-1)
 fits:fits h y n=true
theorem Ke{h:List Int}{hours:Int}{num:Nat->Int}{τ:a_}{P:Int->aC->Prop}(hP:∀τ n,P n (l6 τ h n hours)):∀i j y,(kT h hours num τ i).1[j]?=some y->P (num j) y
 |0,j,y,hy=>by cases hy
 |i+1,j,y,hy=>by
  rw[kT]at hy;have hl:=z8 h hours num τ i;by_cases hj:j<i
  ·rw[SY (by omega)]at hy;exact Ke hP i j y hy
  ·rw[S8 (by omega),hl]at hy;have:j=i:=(by have:=(SM.1 hy).1;simp at this;omega);subst this;rw[Va]at hy;cases hy;exact hP _ _
section
variable {lv:Bool}{P:SJ}{r:Option Nat}{s:AS}
theorem Iy{nt:Nat}{x y:Ua}{α:Type}{Φ Ψ:an->AS->Prop}(inv:α->AS)(ok:α->Prop)(h1:aQ lv P r nt x s (an.then (λs'=>∃a,ok a/\s'.Sub (inv a)) Ψ))(h2:∀a,ok a->aQ lv P r nt y (inv a) Φ):aQ lv P r nt x s (an.then (λs'=>aQ lv P r nt y s' Φ) Ψ):=
 h1.mono λe s' h=>by
  cases e with
  |normal=>
   obtain⟨a,h3,h4⟩:=h;exact iZ h4 (h2 a h3)
  |_=>exact h
end
theorem Oq:ie (SF .i64 0) 3=[iv 0,iv 0,iv 0]:=rfl
theorem zE4:ie (SF .i64 0) 4=[iv 0,iv 0,iv 0,iv 0]:=rfl
theorem xe:ie (TC #[SF .i64 0,SF .i64 0,SF .i64 0,SF .i64 0]) 4=[iv 0,iv 0,iv 0,iv 0]:=rfl
theorem zS1:ie (TC #[SF .i64 0,SF .i64 0,SF .i64 0]) 3=[iv 0,iv 0,iv 0]:=rfl
theorem DL:(3<=2^24)=True:=eq_true (by decide)
theorem uc:(4<=2^24)=True:=eq_true (by decide)
theorem AU:(1<=2^24)=True:=eq_true (by decide)
theorem adI{first am w v:Int}{i:Nat}(h1:first<=w/\w<=first+am* i)(h2:0<=v/\v<=am)(hf:0<=first/\first<=90)(hp:1<=am/\am<=3)(hi:i<=3):0<=w+v/\w+v<=1000:=by
 have:am* (i:Int)<=3* 3:=ac_ (by omega) (by omega) (by omega) (by omega);generalize am* (i:Int)=q at h1 this;omega
theorem L3{n:Int}(h:0<=n/\n<=1000):SE.wrap n=n:=bG _ (by omega)
theorem N4(h:List Int)(n:Int):∀m:Nat, -1<=mq h n m/\mq h n m<m
 |0=>by simp[mq]
 |m+1=>by
  have:=N4 h n m;unfold mq;split
  ·omega
  ·omega
theorem JE:∀l:List aC,(l.flatMap aC.l).length=l.length* 4
 |[]=>rfl
 |a::l=>by rw[Ub,SP,JE l,aC.len,Uk];omega
theorem Qv:∀l:List Seen,(l.flatMap Seen.l).length=l.length* 3
 |[]=>rfl
 |a::l=>by rw[Ub,SP,Qv l,Seen.len,Uk];omega
theorem JF{α:Type}{f:α->List AV}{l:List α}{a:α}:(l++[a]).flatMap f=l.flatMap f++f a:=by rw[Vz];simp
theorem anf{α:Type}{f:Nat->α}{l:List α}{n:Nat}(hl:l.length=n)(h:∀i,i<n->l[i]?=some (f i)):(SZ n).map f=l:=by
 refine Yj λi=> ?_;rw[Tn];by_cases hi:i<n
 ·rw[XI hi,UO,h i hi]
 ·rw[Uu (by simp;omega),Uu (by omega)];rfl
def OA (a b:Nat):Prop:=(if(a:Int)<(b:Int)then(a:Int)else(b:Int))=((min b a:Nat):Int)
theorem abb(a b:Nat):OA a b:=by unfold OA;split<;>omega
structure Made (pm:Nat)(x:aj)(bE aA bK:List Int):Prop where
 first:0<=x.first/\x.first<=90
 hours:1<=x.hours/\x.hours<=3
 am:1<=x.am/\x.am<=3
 FV:ox x.first x.am bE x.hours.toNat
 ans:x.pieces.length<=pm
 wS:aA.length=x.pieces.length
 num:∀n∈aA,x.first<=n/\n<bE.getD x.hours.toNat 0
 GX:aA.Nodup
 piece:∀(p:Nat) y,x.pieces[p]?=some y->∃τ,y=l6 τ bE (aA.getD p 0) x.hours
 ub:bK.length=x.aB.length
 aB:x.aB.length<=3
 own:∀v∈bK,0<=v/\v<(aA.length:Int)
 Hd:bK.Nodup
 stub:∀(s:Nat) y,x.aB[s]?=some y->∃τ,y=l6 τ bE (aA.getD (bK.getD s 0).toNat 0) x.hours
 vz:x.seen.length<=2
 seen:∀s∈x.seen,0<=s.hour/\s.hour<=x.hours/\∃τ,s.next=nG τ (bE.getD s.hour.toNat 0) 1 0 99
structure YOk (Gf:a_->List aa)(N:Nat)(zc:aa)(YY:List AV->Nat->Nat->Nat->Nat->Nat->List aa):Prop where
 len:∀r a b c d e,(YY r a b c d e).length=8
 y0:∀τ r a b c d e,(Gf τ++YY r a b c d e)[N]?=some zc
 y1:∀τ r a b c d e,(Gf τ++YY r a b c d e)[N+1]?=some (.cells r 26)
 y3:∀τ r a b c d e,(Gf τ++YY r a b c d e)[N+3]?=some (.tail a 4 48)
 y4:∀τ r a b c d e,(Gf τ++YY r a b c d e)[N+4]?=some (.tail b 4 48)
 y5:∀τ r a b c d e,(Gf τ++YY r a b c d e)[N+5]?=some (.tail c 3 61)
 y6:∀τ r a b c d e,(Gf τ++YY r a b c d e)[N+6]?=some (.tail d 1 3)
 y7:∀τ r a b c d e,(Gf τ++YY r a b c d e)[N+7]?=some (.tail e 1 3)
 z1:∀τ r r' a b c d e,(Gf τ++YY r a b c d e).set (N+1) (.cells r' 26)=Gf τ++YY r' a b c d e
 z3:∀τ r a a' b c d e,(Gf τ++YY r a b c d e).set (N+3) (.tail a' 4 48)=Gf τ++YY r a' b c d e
 z4:∀τ r a b b' c d e,(Gf τ++YY r a b c d e).set (N+4) (.tail b' 4 48)=Gf τ++YY r a b' c d e
 z5:∀τ r a b c c' d e,(Gf τ++YY r a b c d e).set (N+5) (.tail c' 3 61)=Gf τ++YY r a b c' d e
 z6:∀τ r a b c d d' e,(Gf τ++YY r a b c d e).set (N+6) (.tail d' 1 3)=Gf τ++YY r a b c d' e
 s0:∀r a b c d e y,∃L,(YY r a b c d e).set 0 y=y::L
 z7:∀τ r a b c d e e',(Gf τ++YY r a b c d e).set (N+7) (.tail e' 1 3)=Gf τ++YY r a b c d e'
noncomputable def oF:Ua:=Xd.body.getD .skip
def lW:Nat->Ua->Ua
 |0,c=>c
 |n+1,c=>lW n (cs c)
section
variable {lv:Bool}{P:SJ}{r:Option Nat}{o:Tu}{s:AS}{next:AS->Prop}{bad:AV->AS->Prop}
theorem afC{nt id sz:Nat}{c:Ua}{l:List AV}{el:TypeId}{Φ:an->AS->Prop}(ce:s.H[id]?=some (.own sz l el))(h:aQ lv P r nt c ⟨s.T,s.H.set id (.part l.length l el)⟩ Φ):aQ lv P r nt c s Φ:=λE V a Q ah hQ=>by
 have hc:=ah.bu;obtain⟨⟨cs,eM,hd,_⟩,lF⟩:=hc.obj id _ ce;have g:ej V (V.eX (E.blk id) cs (λo=>decide (o<l.length))):=xQ eM (λo _=>lF o);refine WP.ghost g ?_;have hI:∀b o v,E.I b o=some v->(V.eX (E.blk id) cs (λo=>decide (o<l.length))).ab b o=some v:=λb o v e=>by
  rw[hc.I]at e;have hb:b≠E.blk id:=λhb=>by rw[hb,lF]at e;cases e
  simp only[View.eX];rw[if_neg (λx=>hb x.1)];exact e
 have hle:E.Le {E with I:=(V.eX (E.blk id) cs (λo=>decide (o<l.length))).ab}:=⟨hI,SR _,λ_ _=>rfl,λ_ _=>SR _,λ_ _ _ _=>rfl,rfl,rfl⟩;have cU:Conc {E with I:=(V.eX (E.blk id) cs (λo=>decide (o<l.length))).ab} (V.eX (E.blk id) cs (λo=>decide (o<l.length))) (s.H.set id (.part l.length l el)):=by
  refine hc.iW id _ hle rfl (by rw[TE];exact hc.n) lN rfl (λ_ _ _=>rfl) (λb y fM hy=>⟨hy,λo=> ?_⟩) ⟨⟨cs,eM,hd.mono hle,λo ho=> ?_⟩,λo ho=> ?_⟩ (λb hb=> .inl ⟨_,ce,hb⟩)
  ·have hb:b≠E.blk id:=λhb=>fM _ ce (by rw[hb];rfl);simp only[View.eX];rw[if_neg (λx=>hb x.1)]
  ·simp only[View.eX];rw[if_pos ⟨trivial,by simpa using ho⟩]
  ·simp only[View.eX];rw[if_neg (λx=>by have:=x.2;simp at this;omega)];exact lF o
 exact h _ _ a Q ⟨cU,ah.tok.mono hle,ah.size⟩ λae e E' aT a' s' hk=>hQ ae e E' aT a' s' ((⟨hle,rfl,rfl,rfl,rfl⟩:Kept E _ V (V.eX (E.blk id) cs (λo=>decide (o<l.length))) a a).trans hk)
end
section
variable {lv:Bool}{P:SJ}{r:Option Nat}{s:AS}
theorem afB{nt:Nat}{α:Type}{lt:α->α->Prop}(wf:WellFounded lt){c:Ua}{Φ:an->AS->Prop}(V:α->List (Nat×AV))(Hf:α->List aa)(ok:α->Prop)(m0:α)
  (uV:∀m m',(V m).map (·.1)=(V m').map (·.1)) (gY:∀p∈V m0,∃b,look s.T p.1=some b/\Wk b p.2) (uG:Hf m0=s.H) (hl:∀m,ok m->s.H.length<=(Hf m).length) (hm:ok m0)
  (h:bM s.H->(∀t a,look s.T t=some a->Lt s.H.length a)->∀m,ok m->∀R:AS->Prop,(∀s',(∃m',lt m' m/\ok m'/\ru s.T (V m) (V m') (Hf m') s')->R s')->aQ lv P r nt c ⟨V m++s.T,Hf m⟩ (an.then R Φ)):aQ lv P r nt (.loop c) s Φ:=by
 have same:∀m m' t,look (V m) t=none->look (V m') t=none:=λm m' t h=>MF λp hp e=>by
  have h1:p.1∈(V m').map (·.1):=Tl.2 ⟨p,hp,rfl⟩;rw[uV m' m]at h1;obtain⟨q,hq,e'⟩:=Tl.1 h1;have h2:((V m).any λx=>x.1==t)=true:=UI.2 ⟨q,hq,by simp[e',e]⟩;obtain⟨a,ha⟩:=ME h2;rw[h]at ha;cases ha
 intro E V0 a Q ah hQ;have hlt:∀t a,look s.T t=some a->Lt s.H.length a:=λt x e=>by rw[<- ah.bu.n];exact(ah.tok t x e).2.lt
 have h0:s.Sub ⟨V m0++s.T,Hf m0⟩:=⟨λt x e=>by
  rw[vp]at e;cases hl:look (V m0) t with
  |none=>rw[hl]at e;exact⟨x,e,Wk.refl x⟩
  |some y=>rw[hl]at e;cases e;exact gY (t,x) (oX hl),uG.symm⟩
 refine O2 wf (s:=s) (λm=>⟨V m++s.T,Hf m⟩) ok m0 h0 hm hl (λm au=> ?_) E V0 a Q ah hQ;refine(h ah.bu.au hlt m au _ λ_ h=>h).mono λe s' hΦ=> ?_;cases e with
 |normal=>
  obtain⟨m',q1,q2,hk,hv,G,hG,tE⟩:=hΦ;have tok:∀t x,look (V m'++s.T) t=some x->∃b,look s'.T t=some b/\Wk b x/\(look (V m') t=some x\/look s.T t=some x):=λt x e=>by
   rw[vp]at e;cases hl:look (V m') t with
   |none=>
    rw[hl]at e;have hb:look (V m++s.T) t=some x:=(by rw[vp,same m' m t hl];exact e);exact⟨x,hk.look hb hl,Wk.refl x,.inr e⟩
   |some y=>
    rw[hl]at e;cases e;obtain⟨b,h1,h2⟩:=hv (t,x) (oX hl);exact⟨b,h1,h2,.inl rfl⟩
  refine⟨m',q1,q2,?_⟩;rcases tE with rfl|⟨n5,K0⟩
  ·exact .inl ⟨λt x e=>by obtain⟨b,h1,h2,_⟩:=tok t x e;exact⟨b,h1,h2⟩,by rw[hG,SI]⟩
  ·refine .inr ⟨λt x e=> ?_,⟨G,hG⟩,n5⟩;obtain⟨b,h1,h2,h3⟩:=tok t x e;refine⟨b,h1,h2,?_⟩;rcases h3 with h3|h3
   ·exact K0 (t,x) (oX h3)
   ·show Lt (Hf m').length x;exact(hlt t x h3).mono (hl m' q2)
 |_=>exact hΦ
theorem O0{nt:Nat}{c:Ua}{Φ:an->AS->Prop}(n:Nat)(V:Nat->List (Nat×AV))(Hf:Nat->List aa)(ok:Nat->Prop)
  (uV:∀m m',(V m).map (·.1)=(V m').map (·.1)) (gY:∀p∈V 0,∃b,look s.T p.1=some b/\Wk b p.2) (uG:Hf 0=s.H) (hl:∀m,m<=n->ok m->s.H.length<=(Hf m).length) (hm:ok 0)
  (h:bM s.H->(∀t a,look s.T t=some a->Lt s.H.length a)->∀m,m<=n->ok m->∀R:AS->Prop,(∀s',(m<n/\ok (m+1)/\ru s.T (V m) (V (m+1)) (Hf (m+1)) s')->R s')->aQ lv P r nt c ⟨V m++s.T,Hf m⟩ (an.then R Φ)):aQ lv P r nt (.loop c) s Φ:=by
 refine afB (measure λi=>n-i).wf V Hf (λi=>i<=n/\ok i) 0 uV gY uG (λm h=>hl m h.1 h.2) ⟨Xz _,hm⟩ (λh1 h2 m au R hR=> ?_);exact h h1 h2 m au.1 au.2 R λs' ⟨q1,q2,q3⟩=>hR s' ⟨m+1,(by show n-(m+1)<n-m;omega),⟨q1,q2⟩,q3⟩
end
def gO:Nat->aa->List aa
 |0,_=>[]
 |n+1,o=>TG n .gone++[o]
theorem xP:∀(n:Nat)(o:aa),(gO n o).length=n
 |0,_=>rfl
 |n+1,o=>by simp[gO]
theorem Cd(n:Nat)(o:aa)(R:List aa):(gO (n+1) o++R)[n]?=some o:=by
 rw[SY (by rw[xP];omega),gO,S8 (by simp)];simp
theorem Ce(n:Nat)(o o':aa)(R:List aa):(gO (n+1) o++R).set n o'=gO (n+1) o'++R:=by
 rw[U2 _ _ (by rw[xP];omega),gO,T9 _ _ (by simp)];simp[gO]
theorem QO(n:Nat)(o:aa):gO (n+1) .gone++[o]=gO (n+2) o:=by
 simp only[gO,List.replicate_succ']
def fO (j n:Nat):AV:=match n with
 |0=> .sl 0 [] .exact
 |n+1=> .bp (j+n) 0 (n+1) 0
def gk (l:List aC):aa:=.own 4 (l.flatMap aC.l) 48
structure YW (Gf:a_->List aa)(N:Nat)(zc:aa)(YY:List AV->Nat->Nat->Nat->List aa):Prop where
 len:∀r c d e,(YY r c d e).length=6
 n:∀τ r c d e G,(Gf τ++(YY r c d e++G)).length=N+6+G.length
 y0:∀τ r c d e G,(Gf τ++(YY r c d e++G))[N]?=some zc
 y1:∀τ r c d e G,(Gf τ++(YY r c d e++G))[N+1]?=some (.cells r 26)
 y3:∀τ r c d e G,(Gf τ++(YY r c d e++G))[N+3]?=some (.tail c 3 61)
 y4:∀τ r c d e G,(Gf τ++(YY r c d e++G))[N+4]?=some (.tail d 1 3)
 y5:∀τ r c d e G,(Gf τ++(YY r c d e++G))[N+5]?=some (.tail e 1 3)
 z1:∀τ r r' c d e G,(Gf τ++(YY r c d e++G)).set (N+1) (.cells r' 26)=Gf τ++(YY r' c d e++G)
 z3:∀τ r c c' d e G,(Gf τ++(YY r c d e++G)).set (N+3) (.tail c' 3 61)=Gf τ++(YY r c' d e++G)
 z4:∀τ r c d d' e G,(Gf τ++(YY r c d e++G)).set (N+4) (.tail d' 1 3)=Gf τ++(YY r c d' e++G)
 z5:∀τ r c d e e' G,(Gf τ++(YY r c d e++G)).set (N+5) (.tail e' 1 3)=Gf τ++(YY r c d e'++G)
 w:∀τ r c d e G m,(Gf τ++(YY r c d e++G))[N+6+m]?=G[m]?
 v:∀τ r c d e G m y,(Gf τ++(YY r c d e++G)).set (N+6+m) y=Gf τ++(YY r c d e++G.set m y)
 s0:∀r c d e y,∃L,(YY r c d e).set 0 y=y::L
section
variable {Gf:a_->List aa}{N:Nat}{zc:aa}{YY:List AV->Nat->Nat->Nat->List aa}(h:YW Gf N zc YY)
include h
theorem YW.n0(τ r c d e):(Gf τ++YY r c d e).length=N+6:=by have:=h.n τ r c d e [];rwa [SI]at this
theorem YW.w0(τ r c d e G):(Gf τ++(YY r c d e++G))[N+6]?=G[0]?:=h.w τ r c d e G 0
theorem YW.y9(τ r c d e):(Gf τ++YY r c d e)[N+1]?=some (.cells r 26):=by have:=h.y1 τ r c d e [];rwa [SI]at this
theorem YW.y_(τ r r' c d e):(Gf τ++YY r c d e).set (N+1) (.cells r' 26)=Gf τ++YY r' c d e:=by have:=h.z1 τ r r' c d e [];rwa [SI,SI]at this
end
theorem asr{Gf:a_->List aa}{t N:Nat}{zc o2:aa}{YY:List AV->Nat->Nat->Nat->List aa}(hT:dK Gf t N)(h:∀r c d e,YY r c d e=[zc,.cells r 26,o2,.tail c 3 61,.tail d 1 3,.tail e 1 3]):YW Gf N zc YY:=by
 have ji:∀τ (L:List aa)(j:Nat),(Gf τ++L)[N+j]?=L[j]?:=λτ L j=>by rw[<- hT.len τ,aW]
 have dG:∀τ (L:List aa)(j:Nat)(y:aa),(Gf τ++L).set (N+j) y=Gf τ++L.set j y:=λτ L j y=>by rw[<- hT.len τ,cY]
 have hl:∀r c d e,(YY r c d e).length=6:=λr c d e=>by rw[h];rfl
 refine⟨hl,λτ r c d e G=>by rw[SP,SP,hl,hT.len];omega,λτ r c d e G=> ?_,λτ r c d e G=>by rw[ji,h];rfl,λτ r c d e G=>by rw[ji,h];rfl,λτ r c d e G=>by rw[ji,h];rfl,λτ r c d e G=>by rw[ji,h];rfl,λτ r r' c d e G=>by rw[dG,h,h];rfl,λτ r c c' d e G=>by rw[dG,h,h];rfl,λτ r c d d' e G=>by rw[dG,h,h];rfl,λτ r c d e e' G=>by rw[dG,h,h];rfl,λτ r c d e G m=> ?_,λτ r c d e G m y=> ?_,λr c d e y=>⟨_,by rw[h];rfl⟩⟩
 ·have:=ji τ (YY r c d e++G) 0;rw[UD]at this;rw[this,h];rfl
 ·rw[U_,ji,S8 (by rw[hl];omega),hl,TS]
 ·rw[U_,dG,T9 _ _ (by rw[hl];omega),hl,TS]
section
variable {lv:Bool}{k kp:AV->List aa->Prop}{Gf:a_->List aa}{t N:Nat}{b:Int}
theorem ah1{pm i mn:Nat}{first am:Int}{l order:List Int}{ρ:a_}{zc:aa}{YY:List AV->Nat->Nat->Nat->List aa}{hz:Bool}{Ψ:an->AS->Prop}(hT:dK Gf t N)(hY:YW Gf N zc YY)(hH:∀τ,bM (Gf τ))(hb:b<2^10)(rY:pm<=4)(hi:1<=i/\i<=3)(oQ:0<=first/\first<=90)(iG:l.length=i+1)(K5:mn<=9)(qK:xk order mn)(qO:ρ.Ok (b+19)):
  aQ lv SC none 240 (cs (cf (lW 7 oF))) ⟨[(17,iv 0),(16,.sl 0 [] (.opn (N+5))),(15,.sl 0 [] (.opn (N+4))),(14,br order),(13,iv mn),(11,.sl (i+1) (l.map iv) (.opn (N+2))),(10,.op (N+1) 0),(6,.op N 0),(0,.op t 0),(1,iv pm),(2,bv hz)],Gf ρ++YY [iv first,iv i,iv am,.sl 0 [] (.opn (N+3)),.sl 0 [] .exact,.sl 0 [] .exact] 0 0 0⟩ (an.then (λs'=>∃y:Nat×a_,(y.1<=pm/\y.1<=mn/\y.2.Ok (b+60))/\s'.Sub ⟨[(16,.sl 0 [] (.opn (N+5))),(15,.sl y.1 ((lh first order y.1).map iv) (.opn (N+4))),(13,iv mn),(11,.sl (i+1) (l.map iv) (.opn (N+2))),(10,.op (N+1) 0),(6,.op N 0),(0,.op t 0),(2,bv hz)],Gf y.2++(YY [iv first,iv i,iv am,.sl 0 [] (.opn (N+3)),fO (N+6) y.1,.sl 0 [] .exact] 0 y.1 0++gO y.1 (gk (kT l i (λj=>first+order.getD j 0) ρ y.1).1))⟩) Ψ):=by
 have n0:=hY.n0;have w0:=hY.w0;have DK:(1<=2^30)=True:=eq_true (by decide);have y9:=hY.y9;have y_:=hY.y_;obtain⟨uJ,rL,y0,y1,y3,y4,y5,nw,za,Bd,Be,qz,tu,cH⟩:=hY;have ja:∀L:List aa,dK (λτ=>Gf τ++L) t (N+L.length):=λL=>hT.more L;obtain⟨hv,Ah⟩:∃hv:Nat->List aC×a_,∀j,hv j=kT l i (λj=>first+order.getD j 0) ρ j:=⟨_,λ_=>rfl⟩;simp only[<- Ah];have hvl:∀j,(hv j).1.length=j:=λj=>by rw[Ah];exact z8 _ _ _ _ _
 have hvt:∀j:Nat,(hv j).2.Ok (b+19+5* j):=λj=>by rw[Ah];exact(Kf qO _ _ _ j).mono (by omega)
 have db:hv 0=([],ρ):=Ah 0;unfold oF Xd;dsimp only[S7,lW,cs,cf];have FZ:=abb mn pm;refine cL ?_;refine O0 (min pm mn) (λj:Nat=>[(15,.sl j ((lh first order j).map iv) (.opn (N+4))),(17,iv j)]) (λj=>Gf (hv j).2++(YY [iv first,iv i,iv am,.sl 0 [] (.opn (N+3)),fO (N+6) j,.sl 0 [] .exact] 0 j 0++gO j (gk (hv j).1))) (λ_=>True) (λ_ _=>rfl) (by simp only[lh,Zx,List.map_nil];simp only[seval];simp[bw,Wk.refl]) (by rw[db];simp[gO,fO]) (λ_ _ _=>by simp[hT.len,uJ]) trivial (λb_ dj j pJ _ R hR=> ?_);clear b_ dj;have lK:=hvt j;by_cases fE:j<min pm mn
 ·have hd:decide ((j:Int)<((min pm mn:Nat):Int))=true:=by simpa using fE
  refine ai ?_;simp only[seval,show (if(mn:Int)<(pm:Int)then(mn:Int)else(pm:Int))=((min pm mn:Nat):Int)from FZ,hd];have eR:hv (j+1)=((hv j).1++[l6 (tick (hv j).2) l (first+order.getD j 0) i],tick (tick (tick (tick (tick (hv j).2))))):=by rw[Ah,Ah];rfl
  have pX:=hvl j;generalize FT:hv j=hj at lK eR pX⊢;obtain⟨ps,ρj⟩:=hj;dsimp only at lK eR pX⊢;refine aI ((Fb (n:=6) (ja _) lK (by omega) (by decide) ?_));(try simp only[seval]);refine aD ?_;refine⟨λhc=> ?_,λhc=> ?_⟩
  ·obtain⟨o,ho⟩:=cD (xs:=order) (i:=j) (by rw[qK.len];omega);have hor:=qK.w5 o (wR ho);have hgo:order.getD j 0=o:=(by rw[SD,ho];rfl);rw[hgo]at eR;have LR:SE.wrap (first+o)=first+o:=L3 (by omega)
   have yh:SE.wrap ((j:Int)+1)=((j+1:Nat):Int):=(by rw[bG _ (by omega)];rfl);have qB:(0<=(j:Int)/\(j:Int)<(order.length:Int))=True:=(by simp[qK.len];omega);have iQ:=abr first order j
   have CU:U5 iv (lh first order j)++[AV.val (SF SE (first+o))]=(lh first order (j+1)).map iv:=(by rw[abt,hgo,TN];rfl);have yk:(lh first order (j+1))[j]?=some (first+o):=(by rw[abt,hgo,S8 (by omega),iQ,Va];rfl);have pB:(0<=(j:Int)/\(j:Int)<(j:Int)+1)=True:=(by simp;omega);refine aN ?_;refine cL ?_;refine eU 9 ?_;simp only[seval,z1,AU,y1,y4,Bd,br,ff ho,qB,LR,iQ];refine⟨by omega,?_⟩;rw[CU];obtain⟨n,hn⟩:∃n,n=first+o:=⟨_,rfl⟩
   rw[<- hn]at yk eR;have qQ:=N4 l n i;have uw:=λ(L:List aa) k kp=>Qi (lv:=lv) (k:=k) (kp:=kp) (h:=l) (n:=n) (hours:=i) (e:=.opn (N+2)) (ja L) lK.tick (by omega) (by omega) (by omega) (by omega) (by rw[iG,VY];omega);simp only[iG]at uw;obtain⟨y,hy⟩:∃y,y=l6 (tick ρj) l n i:=⟨_,rfl⟩;rw[<- hy]at eR uw;have wK:y.l=[iv y.number.min,iv y.number.max,iv y.hour.min,iv y.hour.max]:=rfl;have hyf:∀a∈y.l,a.leaf=true:=(by rw[wK];simp[AV.leaf,Value.one]);have eM:∀FP,FP=ps.flatMap aC.l->aa.own 4 (FP++y.l) 48=gk (hv (j+1)).1:=λFP pA=>(by rw[eR,gk,JF,pA]);rcases UH j with uT|uT
   ·subst uT;obtain rfl:ps=[]:=VC pX;have cH:fO (N+6) 0=.sl 0 [] .exact:=rfl;have kW:∀o,gO 0 o=[]:=λ_=>rfl;rw[kW,SI];refine pu [10,12,14] [0,1,2,3,4,5,6,7,8,9,10,11,12,13,14] [⟨0,false,[],[([10],[10])]⟩,⟨1,false,[],[([10],[10])]⟩,⟨2,false,[],[]⟩,⟨3,false,[],[]⟩,⟨4,false,[],[]⟩,⟨5,false,[],[]⟩,⟨6,false,[],[]⟩,⟨7,false,[],[]⟩,⟨8,false,[],[]⟩,⟨9,false,[],[]⟩,⟨10,true,[10],[]⟩,⟨11,false,[10],[]⟩,⟨12,true,[10,12],[]⟩,⟨13,false,[10,12],[]⟩,⟨14,true,[10,12,14],[]⟩] (λD=>bif isDone 14 D then Gf (tick (tick (tick (tick (tick ρj)))))++(YY [iv first,iv i,iv am,.sl 0 [] (.opn (N+3)),.bp (N+6) 0 1 0,.sl 0 [] .exact] 0 1 0++[.own 4 y.l 48])else bif isDone 12 D then Gf (tick (tick (tick (tick (tick ρj)))))++(YY [iv first,iv i,iv am,.sl 0 [] (.opn (N+3)),.sl 0 [] .exact,.sl 0 [] .exact] 0 1 0++[.own 4 y.l 48])else bif isDone 10 D then Gf (tick (tick (tick (tick (tick ρj)))))++YY [iv first,iv i,iv am,.sl 0 [] (.opn (N+3)),.sl 0 [] .exact,.sl 0 [] .exact] 0 1 0 else Gf (tick ρj)++YY [iv first,iv i,iv am,.sl 0 [] (.opn (N+3)),.sl 0 [] .exact,.sl 0 [] .exact] 0 1 0) ?_;simp only[seval,xe,uc,y1,rL,qz,nw,n0,w0,DK,y9,y_,ff yk,pB,cH,SA];refine kA y.av _ (bX (uw _ _ _ ⟨rfl,rfl⟩)) ?_;(try simp only[seval,xe,uc,y1,rL,qz,nw,n0,w0,DK,y9,y_,ff yk,pB,cH,SA,aC.av,wK]);refine ai ?_;simp only[seval,show SE.wrap 1=1 from bG _ (by omega),show (0:Int)+1=1 from rfl];have e1:(hv (0+1)).2=tick (tick (tick (tick (tick ρj)))):=(by rw[eR]);have e2:gO (0+1) (gk (hv (0+1)).1)=[.own 4 [iv y.number.min,iv y.number.max,iv y.hour.min,iv y.hour.max] 48]:=(by rw[<- eM [] rfl];rfl);refine hR _ ⟨by omega,trivial,?_⟩;rw[e1,e2];exact dn
   ·obtain⟨n',jh⟩:∃n',j=n'+1:=⟨j-1,by omega⟩;have b9:fO (N+6) j=.bp (N+6+n') 0 j 0:=(by rw[jh];rfl);have uQ:∀o,(gO j o)[n']?=some o:=λo=>(by rw[jh];have:=Cd n' o [];rwa [SI]at this);have u_:∀o,(gO j o).set n' .gone=gO j .gone:=λo=>(by rw[jh];have:=Ce n' o .gone [];rwa [SI,SI]at this);have rR:∀a,gO j .gone++[a]=gO (j+1) a:=λa=>(by rw[jh];exact QO _ _);have kX:∀o,(gO j o).length=j:=xP j;have eM:=eM _ rfl;rw[b9];unfold gk;obtain⟨FP,pA⟩:∃FP,FP=ps.flatMap aC.l:=⟨_,rfl⟩;have v_:FP.length=j* 4:=(by rw[pA,JE,pX]);rw[<- pA]at eM⊢;refine pu [10,12,14] [0,1,2,3,4,5,6,7,8,9,10,11,12,13,14] [⟨0,false,[],[([10],[10])]⟩,⟨1,false,[],[([10],[10])]⟩,⟨2,false,[],[]⟩,⟨3,false,[],[]⟩,⟨4,false,[],[]⟩,⟨5,false,[],[]⟩,⟨6,false,[],[]⟩,⟨7,false,[],[]⟩,⟨8,false,[],[]⟩,⟨9,false,[],[]⟩,⟨10,true,[10],[]⟩,⟨11,false,[10],[]⟩,⟨12,true,[10,12],[]⟩,⟨13,false,[10,12],[]⟩,⟨14,true,[10,12,14],[]⟩] (λD=>bif isDone 14 D then Gf (tick (tick (tick (tick (tick ρj)))))++(YY [iv first,iv i,iv am,.sl 0 [] (.opn (N+3)),.bp (N+6+j) 0 (j+1) 0,.sl 0 [] .exact] 0 (j+1) 0++gO (j+1) (.own 4 (FP++y.l) 48))else bif isDone 12 D then Gf (tick (tick (tick (tick (tick ρj)))))++(YY [iv first,iv i,iv am,.sl 0 [] (.opn (N+3)),.bp (N+6+n') 0 j 0,.sl 0 [] .exact] 0 (j+1) 0++gO (j+1) (.own 4 (FP++y.l) 48))else bif isDone 10 D then Gf (tick (tick (tick (tick (tick ρj)))))++(YY [iv first,iv i,iv am,.sl 0 [] (.opn (N+3)),.bp (N+6+n') 0 j 0,.sl 0 [] .exact] 0 (j+1) 0++gO j (.own 4 FP 48))else Gf (tick ρj)++(YY [iv first,iv i,iv am,.sl 0 [] (.opn (N+3)),.bp (N+6+n') 0 j 0,.sl 0 [] .exact] 0 (j+1) 0++gO j (.own 4 FP 48))) ?_;simp only[seval,xe,uc,y1,rL,qz,tu,nw,ff yk,pB,uQ,u_,rR,kX,v_,SA];refine kA y.av _ (bX (uw _ _ _ ⟨rfl,rfl⟩)) ?_;(try simp only[seval,xe,uc,y1,rL,qz,tu,nw,ff yk,pB,uQ,u_,rR,kX,v_,SA,aC.av,wK]);refine⟨uT,by omega,?_⟩;refine ai ?_;simp only[seval,yh];refine hR _ ⟨by omega,trivial,?_⟩;rw[<- eM,show (hv (j+1)).2=tick (tick (tick (tick (tick ρj)))) by rw[eR]];exact dn
  ·refine cq ?_;exact⟨(j,tick ρj),⟨by dsimp only;omega,by dsimp only;omega,lK.tick.mono (by omega)⟩,eE (by simp only[seval];simp[bw,Wk.refl]) (by rw[FT])⟩
 ·have hd:decide ((j:Int)<((min pm mn:Nat):Int))=false:=by simpa using fE
  refine ai ?_;simp only[seval,show (if(mn:Int)<(pm:Int)then(mn:Int)else(pm:Int))=((min pm mn:Nat):Int)from FZ,hd];refine aD ?_;refine cq ?_;exact⟨(j,(hv j).2),⟨by dsimp only;omega,by dsimp only;omega,lK.mono (by omega)⟩,eE (by simp only[seval];simp[bw,Wk.refl]) rfl⟩
theorem ahW{i np:Nat}{first am w:Int}{l aA iy:List Int}{ρ2:a_}{zc:aa}{pv:AV}{gP:List aa}{YY:List AV->Nat->Nat->Nat->List aa}{hz:Bool}{Bu:AV}{Ψ:an->AS->Prop}(hT:dK Gf t N)(hY:YW Gf N zc YY)(yd:gP.length=np)(hb:b<2^10)(hi:1<=i/\i<=3)(oQ:0<=first/\first<=90)(Gp:first<=w/\w<=first+9)(iG:l.length=i+1)(CV:np<=4)(iQ:aA.length=np)(tK:∀n∈aA,first<=n/\n<w)(tN:xk iy np)(yz:ρ2.Ok (b+64)):
  aQ lv SC none 240 (cs (cf (lW 9 oF))) ⟨[(19,iv 0),(18,.sl np (iy.map iv) .shut),(16,.sl 0 [] (.opn (N+5))),(15,.sl np (aA.map iv) (.opn (N+4))),(13,Bu),(11,.sl (i+1) (l.map iv) (.opn (N+2))),(10,.op (N+1) 0),(6,.op N 0),(0,.op t 0),(2,bv hz)],Gf ρ2++(YY [iv first,iv i,iv am,.sl 0 [] (.opn (N+3)),pv,.sl 0 [] .exact] 0 np 0++gP)⟩ (an.then (λs'=>∃y:Nat×a_,(y.1<=np/\y.1<=3/\y.2.Ok (b+90))/\s'.Sub ⟨[(16,.sl y.1 ((iy.take y.1).map iv) (.opn (N+5))),(15,.sl np (aA.map iv) (.opn (N+4))),(13,Bu),(11,.sl (i+1) (l.map iv) (.opn (N+2))),(10,.op (N+1) 0),(6,.op N 0),(0,.op t 0),(2,bv hz)],Gf y.2++(YY [iv first,iv i,iv am,.sl 0 [] (.opn (N+3)),pv,fO (N+6+np) y.1] 0 np y.1++(gP++gO y.1 (gk (kT l i (λj=>aA.getD (iy.getD j 0).toNat 0) ρ2 y.1).1)))⟩) Ψ):=by
 obtain⟨uJ,rL,y0,y1,y3,y4,y5,nw,za,Bd,Be,qz,tu,cH⟩:=hY;have DK:(1<=2^30)=True:=eq_true (by decide);have n0:∀τ r c d e,(Gf τ++(YY r c d e++gP)).length=N+6+np:=λτ r c d e=>by rw[rL,yd]
 have n1:∀τ r c d e X,(Gf τ++(YY r c d e++(gP++X))).length=N+6+np+X.length:=λτ r c d e X=>by rw[rL,SP,yd];omega
 have w1:∀τ r c d e X m,(Gf τ++(YY r c d e++(gP++X)))[N+6+np+m]?=X[m]?:=λτ r c d e X m=>by rw[U_ (N+6),qz,S8 (by omega),yd,TS]
 have w0:∀τ r c d e X,(Gf τ++(YY r c d e++(gP++X)))[N+6+np]?=X[0]?:=λτ r c d e X=>w1 τ r c d e X 0;have v1:∀τ r c d e X m y,(Gf τ++(YY r c d e++(gP++X))).set (N+6+np+m) y=Gf τ++(YY r c d e++(gP++X.set m y)):=λτ r c d e X m y=>by rw[U_ (N+6),tu,T9 _ _ (by omega),yd,TS]
 have ja:∀L:List aa,dK (λτ=>Gf τ++L) t (N+L.length):=λL=>hT.more L;obtain⟨hw,Ai⟩:∃hw:Nat->List aC×a_,∀j,hw j=kT l i (λj=>aA.getD (iy.getD j 0).toNat 0) ρ2 j:=⟨_,λ_=>rfl⟩;simp only[<- Ai];have sg:∀j,(hw j).1.length=j:=λj=>by rw[Ai];exact z8 _ _ _ _ _
 have u':∀j:Nat,(hw j).2.Ok (b+64+5* j):=λj=>by rw[Ai];exact Kf yz _ _ _ j
 have yx:hw 0=([],ρ2):=Ai 0;have aav:=tN.len;unfold oF Xd;dsimp only[S7,lW,cs,cf];have Sn:=abb 3 np;refine cL ?_;refine O0 (min np 3) (λj:Nat=>[(16,.sl j ((iy.take j).map iv) (.opn (N+5))),(19,iv j)]) (λj=>Gf (hw j).2++(YY [iv first,iv i,iv am,.sl 0 [] (.opn (N+3)),pv,fO (N+6+np) j] 0 np j++(gP++gO j (gk (hw j).1)))) (λ_=>True) (λ_ _=>rfl) (by simp only[seval];simp[bw,Wk.refl]) (by rw[yx];simp[gO,fO]) (λ_ _ _=>by simp[hT.len,uJ]) trivial (λb_ dj j pJ _ R hR=> ?_);clear b_ dj;have lK:=u' j;by_cases fE:j<min np 3
 ·have hd:decide ((j:Int)<((min np 3:Nat):Int))=true:=by simpa using fE
  refine ai ?_;simp only[seval,br,aav,show (if(3:Int)<(np:Int)then(3:Int)else(np:Int))=((min np 3:Nat):Int)from Sn,hd];have eR:hw (j+1)=((hw j).1++[l6 (tick (hw j).2) l (aA.getD (iy.getD j 0).toNat 0) i],tick (tick (tick (tick (tick (hw j).2))))):=by rw[Ai,Ai];rfl
  have pX:=sg j;generalize FT:hw j=hj at lK eR pX⊢;obtain⟨ts,ρj⟩:=hj;dsimp only at lK eR pX⊢;refine aI ((Fb (n:=3) (ja _) lK (by omega) (by decide) ?_));(try simp only[seval]);refine aD ?_;refine⟨λhc=> ?_,λhc=> ?_⟩
  ·obtain⟨v,od⟩:=cD (xs:=iy) (i:=j) (by omega);have hvr:=tN.w5 v (wR od);obtain⟨v,rfl⟩:∃v':Nat,v=v':=⟨v.toNat,by omega⟩;have CL:iy.getD j 0=v:=(by rw[SD,od];rfl);rw[CL,VQ]at eR;obtain⟨n,An⟩:=cD (xs:=aA) (i:=v) (by omega);have FR:aA.getD v 0=n:=(by rw[SD,An];rfl);rw[FR]at eR;have rX:=tK n (wR An);have yh:SE.wrap ((j:Int)+1)=((j+1:Nat):Int):=(by rw[bG _ (by omega)];rfl);have pB:(0<=(j:Int)/\(j:Int)<(np:Int))=True:=(by simp;omega);have Ab:(0<=(v:Int)/\(v:Int)<(np:Int))=True:=(by simp;omega);have aF:(iy.take j).length=j:=(by rw[Uf];omega);have alE:(iy.take j).map iv++[AV.val (SF SE v)]=(iy.take (j+1)).map iv:=(by rw[VJ,od,TN];rfl);refine aN ?_;refine ai ?_;simp only[seval,z1,AU,y5,Be,ff od,pB,aF];refine⟨by omega,?_⟩;rw[alE];have qQ:=N4 l n i;have uw:=λ(L:List aa) k kp=>Qi (lv:=lv) (k:=k) (kp:=kp) (h:=l) (n:=n) (hours:=i) (e:=.opn (N+2)) (ja L) lK.tick (by omega) (by omega) (by omega) (by omega) (by rw[iG,VY];omega);simp only[iG]at uw;obtain⟨y,hy⟩:∃y,y=l6 (tick ρj) l n i:=⟨_,rfl⟩;rw[<- hy]at eR uw;have wK:y.l=[iv y.number.min,iv y.number.max,iv y.hour.min,iv y.hour.max]:=rfl;have eM:∀FP,FP=ts.flatMap aC.l->aa.own 4 (FP++y.l) 48=gk (hw (j+1)).1:=λFP pA=>(by rw[eR,gk,JF,pA]);rcases UH j with uT|uT
   ·subst uT;obtain rfl:ts=[]:=VC pX;have cH:fO (N+6+np) 0=.sl 0 [] .exact:=rfl;have kW:∀o,gO 0 o=[]:=λ_=>rfl;have uU:(0<(np:Int))=True:=(by simp;omega);rw[cH,kW,SI];refine pu [13,15,17] [0,1,2,3,4,5,6,7,8,9,10,11,12,13,14,15,16,17] [⟨0,false,[],[([13],[13])]⟩,⟨1,false,[],[([13],[13])]⟩,⟨2,false,[],[]⟩,⟨3,false,[],[]⟩,⟨4,false,[],[]⟩,⟨5,false,[],[]⟩,⟨6,false,[],[]⟩,⟨7,false,[],[]⟩,⟨8,false,[],[]⟩,⟨9,false,[],[]⟩,⟨10,false,[],[]⟩,⟨11,false,[],[]⟩,⟨12,false,[],[]⟩,⟨13,true,[13],[]⟩,⟨14,false,[13],[]⟩,⟨15,true,[13,15],[]⟩,⟨16,false,[13,15],[]⟩,⟨17,true,[13,15,17],[]⟩] (λD=>bif isDone 17 D then Gf (tick (tick (tick (tick (tick ρj)))))++(YY [iv first,iv i,iv am,.sl 0 [] (.opn (N+3)),pv,.bp (N+6+np) 0 1 0] 0 np 1++(gP++[.own 4 y.l 48]))else bif isDone 15 D then Gf (tick (tick (tick (tick (tick ρj)))))++(YY [iv first,iv i,iv am,.sl 0 [] (.opn (N+3)),pv,.sl 0 [] .exact] 0 np 1++(gP++[.own 4 y.l 48]))else bif isDone 13 D then Gf (tick (tick (tick (tick (tick ρj)))))++(YY [iv first,iv i,iv am,.sl 0 [] (.opn (N+3)),pv,.sl 0 [] .exact] 0 np 1++gP)else Gf (tick ρj)++(YY [iv first,iv i,iv am,.sl 0 [] (.opn (N+3)),pv,.sl 0 [] .exact] 0 np 1++gP)) ?_;simp only[seval,xe,uc,y1,nw,ff od,pB,ff An,Ab,br,iQ,n0,w0,DK,uU,SA];refine kA y.av _ (bX (uw _ _ _ ⟨rfl,rfl⟩)) ?_;(try simp only[seval,xe,uc,y1,nw,ff od,pB,ff An,Ab,br,iQ,n0,w0,DK,uU,SA,aC.av,wK]);refine ai ?_;simp only[seval,show SE.wrap 1=1 from bG _ (by omega),show (0:Int)+1=1 from rfl];have e1:(hw (0+1)).2=tick (tick (tick (tick (tick ρj)))):=(by rw[eR]);have e2:gO (0+1) (gk (hw (0+1)).1)=[.own 4 [iv y.number.min,iv y.number.max,iv y.hour.min,iv y.hour.max] 48]:=(by rw[<- eM [] rfl];rfl);refine hR _ ⟨by omega,trivial,?_⟩;rw[e1,e2];exact dn
   ·obtain⟨n2,qJ⟩:∃n2,j=n2+1:=⟨j-1,by omega⟩;have b9:fO (N+6+np) j=.bp (N+6+np+n2) 0 j 0:=(by rw[qJ];rfl);have uQ:∀o,(gO j o)[n2]?=some o:=λo=>(by rw[qJ];have:=Cd n2 o [];rwa [SI]at this);have u_:∀o,(gO j o).set n2 .gone=gO j .gone:=λo=>(by rw[qJ];have:=Ce n2 o .gone [];rwa [SI,SI]at this);have rR:∀a,gO j .gone++[a]=gO (j+1) a:=λa=>(by rw[qJ];exact QO _ _);have kX:∀o,(gO j o).length=j:=xP j;have eM:=eM _ rfl;rw[b9];unfold gk;obtain⟨FP,pA⟩:∃FP,FP=ts.flatMap aC.l:=⟨_,rfl⟩;have v_:FP.length=j* 4:=(by rw[pA,JE,pX]);rw[<- pA]at eM⊢;refine pu [13,15,17] [0,1,2,3,4,5,6,7,8,9,10,11,12,13,14,15,16,17] [⟨0,false,[],[([13],[13])]⟩,⟨1,false,[],[([13],[13])]⟩,⟨2,false,[],[]⟩,⟨3,false,[],[]⟩,⟨4,false,[],[]⟩,⟨5,false,[],[]⟩,⟨6,false,[],[]⟩,⟨7,false,[],[]⟩,⟨8,false,[],[]⟩,⟨9,false,[],[]⟩,⟨10,false,[],[]⟩,⟨11,false,[],[]⟩,⟨12,false,[],[]⟩,⟨13,true,[13],[]⟩,⟨14,false,[13],[]⟩,⟨15,true,[13,15],[]⟩,⟨16,false,[13,15],[]⟩,⟨17,true,[13,15,17],[]⟩] (λD=>bif isDone 17 D then Gf (tick (tick (tick (tick (tick ρj)))))++(YY [iv first,iv i,iv am,.sl 0 [] (.opn (N+3)),pv,.bp (N+6+np+j) 0 (j+1) 0] 0 np (j+1)++(gP++gO (j+1) (.own 4 (FP++y.l) 48)))else bif isDone 15 D then Gf (tick (tick (tick (tick (tick ρj)))))++(YY [iv first,iv i,iv am,.sl 0 [] (.opn (N+3)),pv,.bp (N+6+np+n2) 0 j 0] 0 np (j+1)++(gP++gO (j+1) (.own 4 (FP++y.l) 48)))else bif isDone 13 D then Gf (tick (tick (tick (tick (tick ρj)))))++(YY [iv first,iv i,iv am,.sl 0 [] (.opn (N+3)),pv,.bp (N+6+np+n2) 0 j 0] 0 np (j+1)++(gP++gO j (.own 4 FP 48)))else Gf (tick ρj)++(YY [iv first,iv i,iv am,.sl 0 [] (.opn (N+3)),pv,.bp (N+6+np+n2) 0 j 0] 0 np (j+1)++(gP++gO j (.own 4 FP 48)))) ?_;simp only[seval,xe,uc,y1,nw,ff od,pB,ff An,Ab,br,iQ,n1,w1,v1,uQ,u_,rR,kX,v_,SA];refine kA y.av _ (bX (uw _ _ _ ⟨rfl,rfl⟩)) ?_;(try simp only[seval,xe,uc,y1,nw,ff od,pB,ff An,Ab,br,iQ,n1,w1,v1,uQ,u_,rR,kX,v_,SA,aC.av,wK]);refine⟨uT,by omega,?_⟩;refine ai ?_;simp only[seval,yh];refine hR _ ⟨by omega,trivial,?_⟩;rw[<- eM,show (hw (j+1)).2=tick (tick (tick (tick (tick ρj)))) by rw[eR]];exact dn
  ·refine cq ?_;exact⟨(j,tick ρj),⟨by dsimp only;omega,by dsimp only;omega,lK.tick.mono (by omega)⟩,eE (by simp only[seval];simp[bw,Wk.refl]) (by rw[FT])⟩
 ·have hd:decide ((j:Int)<((min np 3:Nat):Int))=false:=by simpa using fE
  refine ai ?_;simp only[seval,br,aav,show (if(3:Int)<(np:Int)then(3:Int)else(np:Int))=((min np 3:Nat):Int)from Sn,hd];refine aD ?_;refine cq ?_;exact⟨(j,(hw j).2),⟨by dsimp only;omega,by dsimp only;omega,lK.mono (by omega)⟩,eE (by simp only[seval];simp[bw,Wk.refl]) rfl⟩
theorem ahZ{i np ns cn:Nat}{first am:Int}{l aA bK:List Int}{pv sv Bu:AV}{G:List aa}{iI:Bool}{ρ4:a_}{zc:aa}{YY:List AV->Nat->Nat->Nat->List aa}{Ψ:an->AS->Prop}(hT:dK Gf t N)(hY:YW Gf N zc YY)(hb:b<2^10)(hi:1<=i/\i<=3)(oQ:0<=first/\first<=90)(wE:1<=am/\am<=3)(au:ox first am l i)(ik:cn<=2)(Gv:ρ4.Ok (b+91)):
  aQ lv SC none 240 (cs (cf (lW 10 oF))) ⟨[(20,iv cn),(16,.sl ns (bK.map iv) (.opn (N+5))),(15,.sl np (aA.map iv) (.opn (N+4))),(13,Bu),(11,.sl (i+1) (l.map iv) (.opn (N+2))),(10,.op (N+1) 0),(6,.op N 0),(0,.op t 0),(2,bv iI)],Gf ρ4++(YY [iv first,iv i,iv am,.sl 0 [] (.opn (N+3)),pv,sv] 0 np ns++G)⟩ (an.then (λs'=>∃y:List Seen×a_,(y.1.length<=2/\(∀s∈y.1,0<=s.hour/\s.hour<=i/\∃τ,s.next=nG τ (l.getD s.hour.toNat 0) 1 0 99)/\y.2.Ok (b+97))/\s'.Sub ⟨[(16,.sl ns (bK.map iv) (.opn (N+5))),(15,.sl np (aA.map iv) (.opn (N+4))),(13,Bu),(11,.sl (i+1) (l.map iv) (.opn (N+2))),(10,.op (N+1) 0),(6,.op N 0),(0,.op t 0),(2,bv iI)],Gf y.2++(YY [iv first,iv i,iv am,.sl y.1.length (y.1.flatMap Seen.l) (.opn (N+3)),pv,sv] y.1.length np ns++G)⟩) Ψ):=by
 obtain⟨uJ,rL,y0,y1,y3,y4,y5,nw,za,Bd,Be,qz,tu,cH⟩:=hY;have ja:∀L:List aa,dK (λτ=>Gf τ++L) t (N+L.length):=λL=>hT.more L;have iG:=au.len;unfold oF Xd;dsimp only[S7,lW,cs,cf];obtain⟨hz,Aj⟩:∃hz:Nat->List Seen×a_,∀j,hz j=sA l i ρ4 j:=⟨_,λ_=>rfl⟩;have mh:∀j,(hz j).1.length=j:=λj=>by rw[Aj];exact acr _ _ _ _
 have LZ:∀j:Nat,(hz j).2.Ok (b+91+3* j):=λj=>by rw[Aj];exact(acu Gv _ _ j).mono (by omega)
 have alJ:hz 0=([],ρ4):=Aj 0;refine cL ?_;refine iD cn (λj:Nat=>[(20,iv ((cn:Int)-j))]) (λj=>Gf (hz j).2++(YY [iv first,iv i,iv am,.sl j ((hz j).1.flatMap Seen.l) (.opn (N+3)),pv,sv] j np ns++G)) (λ_=>True) (λ_ _=>rfl) (by simp only[seval];simp[bw,Wk.refl]) (by rw[alJ];rfl) (λ_ _ _=>by simp[hT.len,uJ]) trivial (λb_ dj j pJ _ R hR=> ?_);clear b_ dj;have lK:=LZ j;refine ak ?_;refine aD ?_;refine⟨λhc=> ?_,λhc=> ?_⟩
 ·have fE:j<cn:=by omega
  have eR:hz (j+1)=((hz j).1++[⟨dp (hz j).2 i,nG (tick (hz j).2) (l.getD (dp (hz j).2 i).toNat 0) 1 0 99⟩],tick (tick (tick (hz j).2))):=by rw[Aj,Aj];rfl
  have pX:=mh j;generalize FT:hz j=hj at lK eR pX⊢;obtain⟨ss,ρj⟩:=hj;dsimp only at lK eR pX⊢;have hur:=lS ρj i;obtain⟨u,hu⟩:∃u:Nat,dp ρj i=u:=⟨(dp ρj i).toNat,by omega⟩;rw[hu,VQ]at eR;have hui:u<=i:=by omega
  obtain⟨n,K1⟩:=cD (xs:=l) (i:=u) (by omega);have FR:l.getD u 0=n:=by rw[SD,K1];rfl
  rw[FR]at eR;have rX:=au.ge (by omega) u hui;rw[FR]at rX;have atz:0<=n/\n<=1000:=by
   have:=adI (v:=0) rX (by omega) oQ wE (by omega);omega
  have yh:SE.wrap ((cn:Int)-j-1)=(cn:Int)-((j+1:Nat):Int):=by rw[bG _ (by omega)];omega
  have Ru:(0<=(u:Int)/\(u:Int)<(i:Int)+1)=True:=by simp;omega
  refine aN ?_;refine ai ?_;simp only[seval,y1];refine aI ((pz (n:=i) (ja _) lK (by omega) (by omega) ?_));rw[hu];(try simp only[seval]);have Po:=λ(L:List aa) k kp=>Jq (lv:=lv) (k:=k) (kp:=kp) (n:=n) (m:=1) (lo:=0) (hi:=99) (ja L) lK.tick (by omega) (by omega) (by decide);obtain⟨y,hy⟩:∃y,y=nG (tick ρj) n 1 0 99:=⟨_,rfl⟩;rw[<- hy]at eR Po;obtain⟨FP,pA⟩:∃FP,FP=ss.flatMap Seen.l:=⟨_,rfl⟩;have v_:FP.length=j* 3:=by rw[pA,Qv,pX]
  have hFQ:FP++[iv u,iv y.min,iv y.max]=(hz (j+1)).1.flatMap Seen.l:=by rw[eR,JF,pA];rfl
  rw[<- pA];refine pu [9,12,14] [0,1,2,3,4,5,6,7,8,9,10,11,12,13,14] [⟨0,false,[],[([9],[9])]⟩,⟨1,false,[],[([9],[9])]⟩,⟨2,false,[],[([9],[9])]⟩,⟨3,false,[],[]⟩,⟨4,false,[],[]⟩,⟨5,false,[],[]⟩,⟨6,false,[],[]⟩,⟨7,false,[],[]⟩,⟨8,false,[],[]⟩,⟨9,true,[9],[]⟩,⟨10,false,[9],[]⟩,⟨11,false,[9],[]⟩,⟨12,true,[9,12],[]⟩,⟨13,false,[9,12],[]⟩,⟨14,true,[9,12,14],[]⟩] (λD=>bif isDone 14 D then Gf (tick (tick (tick ρj)))++(YY [iv first,iv i,iv am,.sl (j+1) (FP++[iv u,iv y.min,iv y.max]) (.opn (N+3)),pv,sv] (j+1) np ns++G)else bif isDone 12 D then Gf (tick (tick (tick ρj)))++(YY [iv first,iv i,iv am,.sl j FP (.opn (N+3)),pv,sv] (j+1) np ns++G)else bif isDone 9 D then Gf (tick (tick (tick ρj)))++(YY [iv first,iv i,iv am,.sl j FP (.opn (N+3)),pv,sv] j np ns++G)else Gf (tick ρj)++(YY [iv first,iv i,iv am,.sl j FP (.opn (N+3)),pv,sv] j np ns++G)) ?_;simp only[seval,zS1,DL,y1,y3,nw,za,ff K1,Ru,v_,iG];have wK:y.l=[iv y.min,iv y.max]:=rfl;refine kA y.av _ (bX (Po _ _ _ ⟨rfl,rfl⟩)) ?_;(try simp only[seval,zS1,DL,y1,y3,nw,za,ff K1,Ru,v_,iG,iM.av,wK]);refine⟨by omega,?_⟩;refine ai ?_;simp only[seval,yh];refine hR _ ⟨by omega,trivial,?_⟩;rw[<- hFQ,eR];exact dn
 ·have yi:j=cn:=by omega
  subst yi;clear hR;refine cq ?_;have b9:=mh j;have hsm:∀s∈(hz j).1,0<=s.hour/\s.hour<=i/\∃τ,s.next=nG τ (l.getD s.hour.toNat 0) 1 0 99:=by
   rw[Aj];exact acs (λτ=>by have:=lS τ i;omega) j
  refine⟨((hz j).1,(hz j).2),⟨by dsimp only;omega,hsm,lK.mono (by omega)⟩,eE (by simp only[seval];simp[bw,Wk.refl]) ?_⟩;dsimp only;rw[b9]
end
section
variable (lv:Bool)(P:SJ)
def xf (s:AS)(o:Tu)(next:AS->Prop):Prop:=match o.op with
 |.buildSlice t len parts=>ao (rz P t) λ(e,sz,z)=>len* sz<=2^24/\ao (kC s parts.toList) λmz=>ao (oJ (iN.at (.elems sz)) (ie z (len* sz)) mz) λl=>next ((⟨s.T,s.H++[.cells l e]⟩:AS).put o.dst (.bp s.H.length 0 len len))
 |.call c=>match c.callee with
  |.builtin .append=>match c.args.toList,c.argTypes.toList with
   |[x,y],[t,t']=>ao (j3 P t t') λ(elem,sz,_)=>ao (s.ev x) λa=>ao (s.ev y) λb=>a.vT λn l e=>e=.exact/\ao (s.src sz b) λ(m,l')=>l.length=n* sz/\l'.length=m* sz/\n+m<=2^30/\0<m/\next ((⟨s.T,s.H++[.own sz (l++l') elem]⟩:AS).put o.dst (.bp s.H.length 0 (n+m) 0))
   |_,_=>False
  |_=>False
 |_=>False
def rl (m:Nat):Nat->List Tu->AS->(AS->Prop)->(AV->AS->Prop)->Prop
 |_,[],s,K,_=>K s
 |k,o::rest,s,K,bad=>o.guard=none/\(bif k==m then xf P s o (λs'=>rl m (k+1) rest s' K bad)else mW lv P s o (λs'=>rl m (k+1) rest s' K bad) bad)
end
section
variable {lv:Bool}{P:SJ}{r:Option Nat}{s:AS}
theorem xf.step{o:Tu}{next:AS->Prop}{bad:AV->AS->Prop}(h:xf P s o next):Step lv P r o s next bad:=by
 unfold xf at h;split at h
 ·rename_i t len parts ho;obtain⟨⟨e,sz,z⟩,h1,h2,h⟩:=h.out;obtain⟨mz,h3,h⟩:=h.out;obtain⟨l,h4,h⟩:=h.out;exact ac2 ho h1 h2 h3 h4 h
 ·rename_i c ho;split at h
  ·rename_i aZ;split at h
   ·rename_i x y t t' ha dG;obtain⟨⟨elem,sz,z⟩,h1,hA⟩:=h.out;obtain⟨a,h2,hB⟩:=hA.out;obtain⟨b,h3,hC⟩:=hB.out;obtain⟨n,l,e,e1,e0,hD⟩:=OQ hC;subst e1 e0;obtain⟨⟨m,l'⟩,h4,h5,h6,h7,h8,h9⟩:=hD.out;exact ac0 ho aZ (nF ha) (sG dG) h1 h2 h3 h4 h5 h6 h7 h8 h9
   ·exact h.elim
  ·exact h.elim
 ·exact h.elim
theorem rl.acT{m:Nat}{K:AS->Prop}{bad:AV->AS->Prop}:∀(l:List Tu)(k:Nat)(s:AS),rl lv P m k l s K bad->BA lv P r l s K bad
 |[],k,s,h=>h
 |o::rest,k,s,h=>by
  obtain⟨h1,h2⟩:=h;refine⟨h1,?_⟩;have hs:∀{s'},rl lv P m (k+1) rest s' K bad->BA lv P r rest s' K bad:=λ{s'} h=>rl.acT rest (k+1) s' h;cases hkm:(k==m)<;>rw[hkm]at h2<;>simp only[cond_true,cond_false]at h2
  rotate_left
  ·exact(xf.step h2).mono (λ_ h=>hs h) (λ_ _ h=>h)
  ·exact(mW.sound (r:=r) h2).mono (λ_ h=>hs h) (λ_ _ h=>h)
theorem O6{nt id:Nat}{ops:Array Tu}{Φ:an->AS->Prop}(m:Nat)(hd:j_ nt ops=true)(h:rl lv P m 0 ops.toList s (Φ .normal) (λpv s=>Φ (.panic pv) s)):aQ lv P r nt (.region id ops false) s Φ:=afE hd (h.acT ops.toList 0 s)
end
theorem aey:type_of% @xf.eq_1:=by intros;rw[xf.eq_1]
theorem anJ:type_of% @rl.eq_1:=by intros;rw[rl.eq_1]
theorem anI:type_of% @rl.eq_2:=by intros;rw[rl.eq_2]
attribute [seval] aey anJ anI
end Go.Gg
namespace Go.Gg.Tk
theorem RZ{x:aj}{bh:Nat}:∀(d:Nat)(pre:List Int),2<=pre.length->nh x bh d pre=(kY x d pre).map cQ
 |0,pre,_=>by
  unfold nh kY;split<;>rfl
 |d+1,pre,h=>by
  unfold nh kY;split
  ·rw[Vv];congr 1;funext n;rw[if_neg (λhc=>by have:=hc.1;omega),RZ d _ (by simp;omega)]
  ·rfl
theorem Qw{α:Type}{t:Nat}{f:Nat->List α}:∀m,((SZ m).flatMap λn=>if n≠t then[]else f n)=if t<m then f t else[]
 |0=>by simp
 |m+1=>by
  rw[Vk,Vz,Qw m];simp only[Ub,List.flatMap_nil,SI];by_cases h:m=t
  ·subst h;rw[if_neg (Nat.lt_irrefl _),if_neg (by simp),if_pos (Uw _),UK]
  ·rw[if_pos h,SI];by_cases h2:t<m
   ·rw[if_pos h2,if_pos (by omega)]
   ·rw[if_neg h2,if_neg (by omega)]
theorem R5{x:aj}{bh:Nat}(hh:1<=x.hours)(ht:bh<x.am.toNat+1):kZ x bh=(wx x bh).map cQ:=by
 unfold kZ wx;obtain⟨d,hd⟩:∃d,x.hours.toNat=d+1:=⟨x.hours.toNat-1,by omega⟩;rw[hd];unfold nh;simp only[T8,Va,VY,true_and];rw[show ([x.first]:List Int).getLastD 0=x.first from rfl];split
 ·rw[Qw (t:=bh) (f:=λn=>nh x bh d ([x.first]++[x.first+(n:Int)])),if_pos ht,RZ d _ (by simp)];rfl
 ·rfl
theorem akw{x:aj}(hh:1<=x.hours):((SZ (x.am.toNat+1)).flatMap λt=>wx x t)=aK x:=by
 unfold aK wx;obtain⟨d,hd⟩:∃d,x.hours.toNat=d+1:=⟨x.hours.toNat-1,by omega⟩;rw[hd,VY,show kY x (d+1) [x.first]=(if sx x 0 x.first then(SZ (x.am.toNat+1)).flatMap λn:Nat=>kY x d [x.first,x.first+(n:Int)]else[])from rfl];split
 ·rfl
 ·simp
end Go.Gg.Tk
namespace Go.Gg.Tk
theorem apo{p:Nat->Bool}{m k:Nat}(h:m<=k):((SZ k).filter λn=>decide (n<m)&&p n)=(SZ m).filter p:=by
 obtain⟨j,rfl⟩:=Nat.exists_eq_add_of_le h;rw[List.range_add,List.filter_append];have h1:((SZ j).map (m+·)).filter (λn=>decide (n<m)&&p n)=[]:=by
  rw[Yx];intro a ha;obtain⟨b,_,rfl⟩:=Tl.1 ha;simp only[Ti,decide_eq_true_eq,not_and];exactλhlt=>absurd hlt (by omega)
 rw[h1,SI];refine Vh λn hn=> ?_;rw[TF]at hn;simp[hn]
theorem JD{α:Type}{c:Nat->Bool}{f:Nat->List α}:∀l:List Nat,(l.flatMap λn=>if c n=true then[]else f n)=(l.filter λn=> !c n).flatMap f
 |[]=>rfl
 |n::l=>by
  rw[Ub,List.filter_cons,JD l];cases hc:c n<;>simp
def t_ (g:aC->Nat->Bool)(m:Nat):List aC->List Nat->List (List Nat)
 |[],t=>[t]
 |y::ys,t=>((SZ m).filter λn=>g y n&& !t.contains n).flatMap λn=>t_ g m ys (t++[n])
theorem MX{g:aC->Nat->Bool}{q:aC->Nat}{m:Nat}(hm:m<=9):∀(ys:List aC)(u:Nat)(t:List Nat),(∀y∈ys,∀n,n<9->(q y).testBit n=(decide (n<m)&&g y n))->(∀n,u.testBit n=t.contains n)->lj (ys.map q) u t=t_ g m ys t
 |[],u,t,_,_=>rfl
 |y::ys,u,t,hq,hu=>by
  rw[UV,lj,t_];have e1:((SZ 9).flatMap λn=>if(u.testBit n|| !(q y).testBit n)=true then[]else lj (ys.map q) (u|||2^n) (t++[n]))=((SZ 9).filter λn=> !(u.testBit n|| !(q y).testBit n)).flatMap λn=>lj (ys.map q) (u|||2^n) (t++[n]):=JD _;rw[e1];have e2:((SZ 9).filter λn=> !(u.testBit n|| !(q y).testBit n))=(SZ m).filter λn=>g y n&& !t.contains n:=by
   rw[<- apo hm];refine Vh λn hn=> ?_;rw[TF]at hn;rw[hu,hq y (by simp) n hn];cases t.contains n<;>cases decide (n<m)<;>cases g y n<;>rfl
  rw[e2];congr 1;funext n;refine MX hm ys _ _ (λz hz=>hq z (by simp[hz])) λi=> ?_;rw[Xi,hu,VR,YN];simp[eq_comm]
theorem abv{h:List Int}{a:Int}{g:aC->Nat->Bool}{m:Nat}(hr:GW h=(SZ m).map λi:Nat=>a+(i:Int)):∀(ys:List aC)(t:List Nat),(∀y∈ys,∀n,n<m->fits h y (a+(n:Int))=g y n)->nq h ys (t.map λi:Nat=>a+(i:Int))=(t_ g m ys t).map λl=>l.map λi:Nat=>a+(i:Int)
 |[],t,_=>rfl
 |y::ys,t,hg=>by
  rw[nq,t_,hr,List.filter_map,WM,Vv];have e:(SZ m).filter ((λn=>fits h y n&& !(t.map λi:Nat=>a+(i:Int)).contains n)∘λi:Nat=>a+(i:Int))=(SZ m).filter λn=>g y n&& !t.contains n:=by
   refine Vh λn hn=> ?_;rw[TF]at hn;simp only[Wh];rw[hg y (by simp) n hn];congr 1;congr 1;rw[Vo,YF,YF,Tl];constructor
   ·rintro⟨i,h1,h2⟩
    have:i=n:=(by omega);rw[<- this];exact h1
   ·exactλh1=>⟨n,h1,rfl⟩
  rw[e];congr 1;funext n;have:=abv hr ys (t++[n]) (λz hz=>hg z (by simp[hz]));rw[TN]at this;exact this
end Go.Gg.Tk
namespace Go.Gg.Tk
theorem abN{h:List Int}{ns:List Nat}{nl:List Int}{q:aC->Nat}(hl:nl.length=ns.length):∀(ss:List aC)(u:Nat)(t:List Nat),(∀s∈ss,∀p,p<ns.length->(q s).testBit (ns.getD p 0)=fits h s (nl.getD p 0))->(∀n,u.testBit n=t.contains n)->mR ns.length ns (ss.map q) u t=qa h nl ss t
 |[],u,t,_,_=>rfl
 |s::ss,u,t,hq,hu=>by
  rw[UV,mR,qa,hl];have e1:((SZ ns.length).flatMap λp=>if(u.testBit p|| !(q s).testBit (ns.getD p 0))=true then[]else mR ns.length ns (ss.map q) (u|||2^p) (t++[p]))=((SZ ns.length).filter λp=> !(u.testBit p|| !(q s).testBit (ns.getD p 0))).flatMap λp=>mR ns.length ns (ss.map q) (u|||2^p) (t++[p]):=JD _;rw[e1];have e2:((SZ ns.length).filter λp=> !(u.testBit p|| !(q s).testBit (ns.getD p 0)))=(SZ ns.length).filter λp=>fits h s (nl.getD p 0)&& !t.contains p:=by
   refine Vh λp hp=> ?_;rw[TF]at hp;rw[hu,hq s (by simp) p hp];cases t.contains p<;>cases fits h s (nl.getD p 0)<;>rfl
  rw[e2];congr 1;funext p;refine abN hl ss _ _ (λz hz=>hq z (by simp[hz])) λi=> ?_;rw[Xi,hu,VR,YN];simp[eq_comm]
theorem abA{g:aC->Nat->Bool}{m:Nat}:∀{ys:List aC}{t ns:List Nat},ns∈t_ g m ys t->(∀n∈t,n<m)->ns.length=t.length+ys.length/\∀n∈ns,n<m
 |[],t,ns,h,ht=>by
  simp only[t_,S9]at h;subst h;exact⟨by simp,ht⟩
 |y::ys,t,ns,h,ht=>by
  simp only[t_,S6,Uv,TF]at h;obtain⟨n,⟨hn,_⟩,h⟩:=h;obtain⟨h1,h2⟩:=abA h (λk hk=>by
   rcases SV.1 hk with h'|h'
   ·exact ht k h'
   ·rw[S9.1 h'];exact hn)
  exact⟨by rw[h1];simp;omega,h2⟩
end Go.Gg.Tk
namespace Go.Gg.Tk
structure xi (x:aj)(h:List Int):Prop where
 lo:2<=h.length
 hi:h.length<=4
 head:h.headD 0=x.first
 span:h.getLastD 0<=x.first+9
 pad:mY (cQ h)
theorem abS{h:List Int}(hl:2<=h.length):(cQ h).getD 0 0=h.headD 0:=by
 match h,hl with
 |a::b::l,_=>rfl
theorem abT{h:List Int}(hl:2<=h.length)(h4:h.length<=4):(cQ h).getD 3 0=h.getLastD 0:=by
 match h,hl,h4 with
 |[a,b],_,_=>rfl
 |[a,b,c],_,_=>rfl
 |[a,b,c,d],_,_=>rfl
theorem aoa{h:List Int}{n:Int}(hl:2<=h.length)(h4:h.length<=4):jF (cQ h) n=jF h n:=by
 match h,hl,h4 with
 |[a,b],_,_=>exact N3 (i:=0) (k:=2) (z:=b) (h:=[a,b]) (n:=n) rfl (by simp)
 |[a,b,c],_,_=>exact N3 (i:=0) (k:=1) (z:=c) (h:=[a,b,c]) (n:=n) rfl (by simp)
 |[a,b,c,d],_,_=>exact N3 (i:=0) (k:=0) (z:=d) (h:=[a,b,c,d]) (n:=n) rfl (by simp)
def oY (h:List Int):Nat:=(h.getLastD 0-h.headD 0).toNat
theorem IH{x:aj}{h:List Int}(hh:xi x h)(y:aC){n:Nat}(hn:n<9):(cm (cQ h) y).testBit n=(decide (n<oY h)&&fits h y (h.headD 0+(n:Int))):=by
 unfold cm;rw[BV];unfold lY fits;rw[abS hh.lo,abT hh.lo hh.hi,aoa hh.lo hh.hi];have e1:decide (n<9)=true:=decide_eq_true hn;have e2:decide (h.headD 0+(n:Int)<h.getLastD 0)=decide (n<oY h):=by
  unfold oY;rw[Vo];simp only[decide_eq_true_eq];omega
 rw[e1,e2,Vs];by_cases hm:n<oY h
 ·have e3:0<=jF h (h.headD 0+(n:Int)):=by
   unfold oY at hm;refine N2 (a:=h.headD 0) ?_ (by omega) (by omega);have:=hh.lo
   match h,this with
   |a::b::l,_=>rfl
  rw[decide_eq_true e3,decide_eq_true hm];simp
 ·rw[decide_eq_false hm];simp
theorem abu{x:aj}{h:List Int}(hh:xi x h):nq h x.pieces []=(gD x (cQ h)).map λl=>l.map λi:Nat=>h.headD 0+(i:Int):=by
 have FY:oY h<=9:=by unfold oY;have:=hh.span;have:=hh.head;omega
 have e1:gD x (cQ h)=t_ (λy n=>fits h y (h.headD 0+(n:Int))) (oY h) x.pieces []:=
  MX FY x.pieces 0 [] (λy _ n hn=>IH hh y hn) (by simp)
 rw[e1];exact abv (a:=h.headD 0) rfl x.pieces [] λy _ n _=>rfl
end Go.Gg.Tk
namespace Go.Gg.Tk
theorem anF{x:aj}{h:List Int}(hh:xi x h){ns:List Nat}(hn:ns∈gD x (cQ h)):ns.length=x.pieces.length/\∀n∈ns,n<oY h:=by
 have FY:oY h<=9:=by unfold oY;have:=hh.span;have:=hh.head;omega
 have e1:gD x (cQ h)=t_ (λy n=>fits h y (h.headD 0+(n:Int))) (oY h) x.pieces []:=
  MX FY x.pieces 0 [] (λy _ n hn=>IH hh y hn) (by simp)
 rw[e1]at hn;have:=abA hn (by simp);exact⟨by simpa using this.1,this.2⟩
theorem an6{x:aj}{h:List Int}(hh:xi x h){ns:List Nat}(hn:ns∈gD x (cQ h)):iK x (cQ h) ns=qa h (ns.map λi:Nat=>h.headD 0+(i:Int)) x.aB []:=by
 obtain⟨h1,h2⟩:=anF hh hn;have FY:oY h<=9:=by unfold oY;have:=hh.span;have:=hh.head;omega
 unfold iK;rw[<- h1];refine abN (by simp) x.aB 0 [] (λs _ p hp=> ?_) (by simp);have rQ:ns.getD p 0=ns[p]:=by rw[SD,SO hp];rfl
 have hlt:=h2 ns[p] (Wy hp);have hg2:(ns.map λi:Nat=>h.headD 0+(i:Int)).getD p 0=h.headD 0+(ns[p]:Int):=by
  rw[SD,Tn,SO hp];rfl
 rw[rQ,hg2,IH hh s (by omega),decide_eq_true hlt,Vs]
def eV (t:Tr):List Int:=dH (cQ t.bE) (t.aA.map λn=>(n-t.bE.headD 0).toNat) t.bK
theorem adB{x:aj}{h:List Int}(hh:xi x h){ns:List Nat}(hn:ns∈gD x (cQ h)):(Ea x h (ns.map λi:Nat=>h.headD 0+(i:Int))).map eV=(iK x (cQ h) ns).map (dH (cQ h) ns):=by
 unfold Ea;rw[XW,an6 hh hn];refine VB λos _=> ?_;unfold eV;simp only[Wh,XW];congr 1
 conv=>rhs;rw[<- List.map_id ns]
 refine VB λn _=> ?_;simp only[Wh,id];omega
theorem B_{α β:Type}{l:List α}{f g:α->List β}(h:∀a∈l,f a=g a):l.flatMap f=l.flatMap g:=by
 rw[WO,WO,VB h]
theorem adk{α:Type}:∀ll:List (List α),(ll.map (·.take 1)).flatten.take 1=ll.flatten.take 1
 |[]=>rfl
 |[]::ll=>by simpa using adk ll
 |(a::l)::ll=>by simp
theorem arS{x:aj}{h:List Int}{deep:Int}(hh:xi x h):jG x deep (cQ h)=(sF x deep h).map eV:=by
 have e2:(o_ x h).map eV=(((gD x (cQ h)).map λns=>(iK x (cQ h) ns).map λos=>dH (cQ h) ns os)).flatten:=by
  unfold o_;rw[abu hh,WM,Vv,<- WO];exact B_ λns hn=>adB hh hn
 have e1:(vF x h).map eV=(((gD x (cQ h)).map λns=>(iK x (cQ h) ns).map λos=>dH (cQ h) ns os).map (·.take 1)).flatten:=by
  unfold vF;rw[abu hh,WM,Vv,XW,<- WO];refine B_ λns hn=> ?_;simp only[Wh];rw[VX,adB hh hn]
 unfold jG sF;dsimp only;split
 ·rw[VX,e1,adk]
 ·split
  ·exact e1.symm
  ·exact e2.symm
end Go.Gg.Tk
namespace Go.Gg.Tk
theorem Ak{x:aj}:∀(d:Nat)(pre h:List Int),pre≠[]->h∈kY x d pre->h.length=pre.length+d/\h.headD 0=pre.headD 0
 |0,pre,h,_,hm=>by
  unfold kY at hm;split at hm
  ·rw[S9]at hm;subst hm;exact⟨rfl,rfl⟩
  ·cases hm
 |d+1,pre,h,hp,hm=>by
  unfold kY at hm;split at hm
  ·obtain⟨n,_,hm⟩:=S6.1 hm;obtain⟨h1,h2⟩:=Ak d _ h (by simp) hm;refine⟨by rw[h1];simp;omega,h2.trans ?_⟩
   match pre,hp with
   |a::l,_=>rfl
  ·cases hm
theorem RY{x:aj}{t:Nat}(hx:x.Ok)(ht:t<x.am.toNat+1){h:List Int}(hm:h∈wx x t):xi x h:=by
 have hh:=hx.hours;have F7:cQ h∈kZ x t:=by rw[R5 hh.1 ht];exact Tl.2 ⟨h,hm,rfl⟩
 have h4:=RV hx F7;unfold wx at hm;split at hm
 ·obtain⟨h1,h2⟩:=Ak _ _ _ (by simp) hm;have pL:2<=h.length:=by rw[h1];simp
  have FS:h.length<=4:=by rw[h1];simp;omega
  have zU:h.headD 0=x.first:=h2;refine⟨pL,FS,zU,?_,h4⟩;have:=h4.span;rw[abS pL,abT pL FS,zU]at this;exact this
 ·cases hm
theorem adO{x:aj}{deep:Int}(hx:x.Ok):((SZ (x.am.toNat+1)).flatMap λt=>HR x deep t)=(aK x).flatMap (sF x deep):=by
 unfold HR;rw[<- akw hx.hours.1,List.flatMap_assoc]
end Go.Gg.Tk
namespace Go.Gg.Tk
theorem aeS{l:List Nat}{i v p n:Nat}(hi:i<l.length):((po l i v).getD p 0).testBit n=((l.getD p 0).testBit n||(decide (p=i)&&decide (n=v))):=by
 unfold po;rw[SD,UP];by_cases h:i=p
 ·subst h;rw[if_pos rfl,if_pos hi,S7,Xi,VR];simp[eq_comm]
 ·rw[if_neg h,<- SD];have:¬p=i:=λe=>h e.symm;simp[this]
def sW (v:Nat->Nat):Nat->List Nat->List Nat
 |0,l=>l
 |k+1,l=>po (sW v k l) k (v k)
theorem aby(t:List Int)(l:List Nat):∀k,sq t k l=sW (mU t) k l
 |0=>rfl
 |k+1=>by rw[sq,sW,aby t l k]
theorem abU(t:List Int)(l:List Nat):∀k,nu t k l=sW (sC t) k l
 |0=>rfl
 |k+1=>by rw[nu,sW,abU t l k]
theorem ON(v:Nat->Nat)(l:List Nat):∀k,(sW v k l).length=l.length
 |0=>rfl
 |k+1=>by rw[sW,BP,ON v l k]
theorem Is{v:Nat->Nat}{l:List Nat}{p n:Nat}:∀k,k<=l.length->((sW v k l).getD p 0).testBit n=((l.getD p 0).testBit n||(decide (p<k)&&decide (n=v p)))
 |0,_=>by simp[sW]
 |k+1,h=>by
  rw[sW,aeS (by rw[ON];omega),Is k (by omega)];by_cases hp:p=k
  ·subst hp;simp
  ·have e:(p<k+1)<->p<k:=(by omega);simp[hp,e]
theorem abJ{l m:List Nat}{p n:Nat}(h:l.length=m.length):((mj l m).getD p 0).testBit n=((l.getD p 0).testBit n||(m.getD p 0).testBit n):=by
 unfold mj;rw[SD,List.getElem?_zipWith,SD,SD];by_cases hp:p<l.length
 ·rw[SO hp,SO (by omega)];simp[Xi]
 ·rw[Uu (by omega),Uu (by omega)];simp
theorem ab1{hs:List (List Int)}{h g:List Int}:g∈jW hs h<->g∈hs\/g=h:=by
 unfold jW;split
 ·rename_i hm;exact⟨.inl,λe=>e.elim id λe=>e▸hm⟩
 ·rw[SV,S9]
theorem QA{g:List Int}:∀{l hs:List (List Int)},g∈l.foldl jW hs<->g∈hs\/g∈l
 |[],hs=>by simp
 |a::l,hs=>by
  rw[UX,QA,ab1,SL,or_assoc]
theorem afZ(Q:Kn)(t:List Int):(j7 Q t).has=true:=by
 unfold j7;cases h:Q.has
 ·rfl
 ·rw[if_pos rfl];exact h
theorem adm(x:aj)(deep:Int)(Q:Kn)(t:List Int):(eS x deep Q t).has=true:=by
 have:=afZ Q t;unfold eS;dsimp only;split
 ·exact this
 ·split<;>exact this
theorem QF{x:aj}{deep:Int}:∀(ts:List (List Int))(Q:Kn),(ts.foldl (eS x deep) Q).has=(Q.has|| !ts.isEmpty)
 |[],Q=>by simp
 |t::ts,Q=>by rw[UX,QF ts,adm];simp
theorem alW{F G:Kn}{hs:List (List Int)}:(io F hs G).has=(F.has||G.has):=by
 unfold io;cases h:G.has
 ·simp
 ·simp
end Go.Gg.Tk
namespace Go.Gg.Tk
theorem arl{x:aj}{Q:Kn}{t g:List Int}:g∈(eS x 0 Q t).aK<->g∈Q.aK\/g=t.take 4:=by
 have hB:(j7 Q t).aK=Q.aK:=by unfold j7;split<;>rfl
 unfold eS;dsimp only;rw[if_neg (by decide),if_pos rfl,ab1,hB]
theorem QC{x:aj}{g:List Int}:∀(ts:List (List Int))(Q:Kn),g∈(ts.foldl (eS x 0) Q).aK<->g∈Q.aK\/∃t∈ts,g=t.take 4
 |[],Q=>by simp
 |t::ts,Q=>by
  rw[UX,QC ts,arl];constructor
  ·rintro((h|h)|⟨u,h1,h2⟩)
   ·exact .inl h
   ·exact .inr ⟨t,by simp,h⟩
   ·exact .inr ⟨u,by simp[h1],h2⟩
  ·rintro(h|⟨u,h1,h2⟩)
   ·exact .inl (.inl h)
   ·rcases SL.1 h1 with rfl|h1
    ·exact .inl (.inr h2)
    ·exact .inr ⟨u,h1,h2⟩
def fu (x:aj)(deep:Int)(j:Nat):List (List Int):=(kZ x j).flatMap (jG x deep)
theorem HQ(x:aj)(deep:Int)(j:Nat):h_ x deep j=(fu x deep j).foldl (eS x deep) Kn.zero:=rfl
theorem Ef(x:aj)(deep:Int)(j:Nat):(h_ x deep j).has= !(fu x deep j).isEmpty:=by
 rw[HQ,QF];rfl
theorem asc{x:aj}{j:Nat}{g:List Int}:g∈(h_ x 0 j).aK<->∃t∈fu x 0 j,g=t.take 4:=by
 rw[HQ,QC];simp[Kn.zero]
theorem aaG{x:aj}{deep:Int}{js:List Nat}{D:Kn}(h:oz x deep js D):D.has=js.any λj=> !(fu x deep j).isEmpty:=by
 induction h with
 |nil=>rfl
 |snoc h hp ih=>rw[alW,ih,Ef,Zy];simp
theorem alX{x:aj}{js:List Nat}{D:Kn}{g:List Int}(h:oz x 0 js D):g∈D.aK<->∃j∈js,∃t∈fu x 0 j,g=t.take 4:=by
 induction h with
 |nil=>simp[Kn.zero]
 |@snoc js F j hs h hp ih=>
  have key:g∈(io F hs (h_ x 0 j)).aK<->g∈F.aK\/∃t∈fu x 0 j,g=t.take 4:=by
   unfold io;split
   ·show g∈hs.foldl jW F.aK<->_;rw[QA,hp.mem_iff,asc]
   ·rename_i hn;rw[Ef]at hn;have:fu x 0 j=[]:=(by simpa using hn);rw[this];simp
  rw[key,ih];constructor
  ·rintro(⟨i,h1,h2⟩|h2)
   ·exact⟨i,by simp[h1],h2⟩
   ·exact⟨j,by simp,h2⟩
  ·rintro⟨i,h1,h2⟩
   rcases SV.1 h1 with h1|h1
   ·exact .inl ⟨i,h1,h2⟩
   ·rw[S9.1 h1]at h2;exact .inr h2
theorem QB:∀{l hs:List (List Int)},hs.Nodup->(l.foldl jW hs).Nodup
 |[],hs,h=>h
 |a::l,hs,h=>by rw[UX];exact QB (ab2 h)
theorem alZ{x:aj}{deep:Int}{js:List Nat}{D:Kn}(h:oz x deep js D):D.aK.Nodup:=by
 induction h with
 |nil=>exact WK
 |snoc h hp ih=>
  unfold io;split
  ·exact QB ih
  ·exact ih
end Go.Gg.Tk
namespace Go.Gg.Tk
theorem Fq{x:aj}{deep:Int}{t:Nat}(hx:x.Ok)(ht:t<x.am.toNat+1):fu x deep t=(HR x deep t).map eV:=by
 unfold fu HR;rw[R5 hx.hours.1 ht,WM,Vv];exact B_ λh hm=>arS (RY hx ht hm)
def pq (x:aj)(deep:Int):List Tr:=(aK x).flatMap (sF x deep)
theorem AF{x:aj}{deep:Int}{js:List Nat}{p:Nat}(hx:x.Ok)(hp:x.am=p)(dM:js.Perm (SZ (p+1))){t:List Int}:(∃j∈js,t∈fu x deep j)<->∃u∈pq x deep,t=eV u:=by
 have n9:x.am.toNat=p:=by omega
 unfold pq;rw[<- adO hx,n9];constructor
 ·rintro⟨j,h1,h2⟩
  have hj:=dM.mem_iff.1 h1;rw[Fq hx (by rw[n9];simpa using hj)]at h2;obtain⟨u,h3,rfl⟩:=Tl.1 h2;exact⟨u,S6.2 ⟨j,hj,h3⟩,rfl⟩
 ·rintro⟨u,h1,rfl⟩
  obtain⟨j,hj,h3⟩:=S6.1 h1;refine⟨j,dM.mem_iff.2 hj,?_⟩;rw[Fq hx (by rw[n9];simpa using hj)];exact Tl.2 ⟨u,h3,rfl⟩
theorem D_{x:aj}{deep:Int}{h:List Int}{u:Tr}(hu:u∈sF x deep h):u∈o_ x h:=by
 have h1:∀u,u∈vF x h->u∈o_ x h:=λu hu=>by
  unfold vF at hu;obtain⟨ns,h1,h2⟩:=S6.1 hu;exact S6.2 ⟨ns,h1,Xv h2⟩
 unfold sF at hu;split at hu
 ·exact h1 u (Xv hu)
 ·split at hu
  ·exact h1 u hu
  ·exact hu
theorem y8{x:aj}{h:List Int}{u:Tr}(hu:u∈o_ x h):u.bE=h:=by
 obtain⟨ns,_,h2⟩:=S6.1 hu;obtain⟨os,_,rfl⟩:=Tl.1 h2;rfl
theorem Qx{α β:Type}{f:α->List β}:∀{l:List α},(l.flatMap λa=>(f a).take 1)=[]<->l.flatMap f=[]
 |[]=>by simp
 |a::l=>by
  rw[Ub,Ub,Yy,Yy,Qx,YM];simp
theorem adA{x:aj}{deep:Int}{h:List Int}:sF x deep h=[]<->o_ x h=[]:=by
 have h1:vF x h=[]<->o_ x h=[]:=Qx;unfold sF;split
 ·rw[YM,h1];simp
 ·split
  ·exact h1
  ·exact Iff.rfl
theorem ae0{x:aj}{deep:Int}:pq x deep=[]<->bZ x=[]:=by
 unfold pq bZ;rw[WN,WN];exact forall_congr' λh=>forall_congr' λ_=>adA
theorem ae2{x:aj}{deep:Int}{js:List Nat}:(js.any λj=> !(fu x deep j).isEmpty)=true<->∃t,∃j∈js,t∈fu x deep j:=by
 rw[UI];constructor
 ·rintro⟨j,h1,h2⟩
  cases hg:fu x deep j with
  |nil=>rw[hg]at h2;cases h2
  |cons t l=>exact⟨t,j,h1,by rw[hg];simp⟩
 ·rintro⟨t,j,h1,h2⟩
  refine⟨j,h1,?_⟩;cases hg:fu x deep j with
  |nil=>rw[hg]at h2;cases h2
  |cons=>rfl
end Go.Gg.Tk
namespace Go.Gg
open Go.Gg.Tk
theorem GB{x:aj}{deep:Int}{D:Kn}(hx:x.Ok)(h:ez x deep D):D.has= !(bZ x).isEmpty:=by
 obtain⟨p,js,h1,h2,h3,_⟩:=h;rw[aaG h3,Vo,ae2];have key:(∃t,∃j∈js,t∈fu x deep j)<->pq x deep≠[]:=by
  constructor
  ·rintro⟨t,h⟩ he
   obtain⟨u,hu,_⟩:=(AF hx h1 h2).1 h;rw[he]at hu;cases hu
  ·intro aG;obtain⟨u,hu⟩:=Yb _ aG;exact⟨eV u,(AF hx h1 h2).2 ⟨u,hu,rfl⟩⟩
 rw[key,ne_eq,ae0];cases bZ x<;>simp
theorem al5{x:aj}{D:Kn}(hx:x.Ok)(h:ez x 0 D){g:List Int}:g∈D.aK<->∃u∈bZ x,g=(eV u).take 4:=by
 obtain⟨p,js,h1,h2,h3,_⟩:=h;rw[alX h3];have e:(∃j∈js,∃t∈fu x 0 j,g=t.take 4)<->∃t,(∃j∈js,t∈fu x 0 j)/\g=t.take 4:=by
  constructor
  ·rintro⟨j,a,t,b,c⟩;exact⟨t,⟨j,a,b⟩,c⟩
  ·rintro⟨t,⟨j,a,b⟩,c⟩;exact⟨j,a,t,b,c⟩
 rw[e];have aF:∀u:Tr,u∈bZ x->(eV u).take 4=cQ u.bE:=λu hu=>by
  obtain⟨h,hm,ku⟩:=S6.1 hu;have hl:h.length=1+x.hours.toNat:=(Ak _ _ _ (by simp) hm).1;have hh:=hx.hours;have h4:(cQ u.bE).length=4:=by
   rw[y8 ku];simp[cQ];omega
  unfold eV dH;rw[SA,Tw (by omega),SS (by omega)]
 have mc:∀u,u∈pq x 0->u∈bZ x:=λu hu=>by
  obtain⟨h,a,b⟩:=S6.1 hu;exact S6.2 ⟨h,a,D_ b⟩
 constructor
 ·rintro⟨t,a,rfl⟩
  obtain⟨u,hu,rfl⟩:=(AF hx h1 h2).1 a;exact⟨u,mc u hu,rfl⟩
 ·rintro⟨u,hu,rfl⟩
  obtain⟨h,hm,ku⟩:=S6.1 hu;have aG:sF x 0 h≠[]:=λe=>by
   rw[adA]at e;rw[e]at ku;cases ku
  obtain⟨v,hv⟩:=Yb _ aG;have tS:v∈pq x 0:=S6.2 ⟨h,hm,hv⟩;refine⟨eV v,(AF hx h1 h2).2 ⟨v,tS,rfl⟩,?_⟩;rw[aF u hu,aF v (mc v tS),y8 ku,y8 (D_ hv)]
end Go.Gg
namespace Go.Gg.Tk
theorem Pf(Q:Kn)(t:List Int):(j7 Q t).aA=Q.aA/\(j7 Q t).hours=Q.hours/\(j7 Q t).less=Q.less/\(j7 Q t).aX=Q.aX:=by
 unfold j7;split<;>exact⟨rfl,rfl,rfl,rfl⟩
theorem arm{x:aj}{Q:Kn}{t:List Int}{p n:Nat}(hx:x.Ok)(hQ:bS Q)(hp:p<x.pieces.length):((eS x 1 Q t).aA.getD p 0).testBit n=((Q.aA.getD p 0).testBit n||decide (n=mU t p)):=by
 have h:(eS x 1 Q t).aA=sq t x.pieces.length Q.aA:=by
  rw[<- (Pf Q t).1];rfl
 rw[h,aby,Is _ (by rw[hQ.aA];exact hx.eN),decide_eq_true hp,Vs]
theorem arn{x:aj}{Q:Kn}{t:List Int}{s n:Nat}(hx:x.Ok)(hQ:bS Q)(hs:s<x.aB.length):((eS x 2 Q t).aX.getD s 0).testBit n=((Q.aX.getD s 0).testBit n||decide (n=sC t s)):=by
 have h:(eS x 2 Q t).aX=nu t x.aB.length Q.aX:=by
  rw[<- (Pf Q t).2.2.2];rfl
 rw[h,abU,Is _ (by rw[hQ.aX];exact hx.dx),decide_eq_true hs,Vs]
theorem QD{x:aj}{deep:Int}(hx:x.Ok){f:Kn->Bool}{g:List Int->Bool}(h:∀Q t,bS Q->jK x t->f (eS x deep Q t)=(f Q||g t)):∀(ts:List (List Int))(Q:Kn),bS Q->(∀t∈ts,jK x t)->f (ts.foldl (eS x deep) Q)=(f Q||ts.any g)
 |[],Q,_,_=>by simp
 |t::ts,Q,hQ,ht=>by
  rw[UX,QD hx h ts _ (NW hx (ht t (by simp)) hQ) (λu hu=>ht u (by simp[hu])),h Q t hQ (ht t (by simp)),YP,Bool.or_assoc]
theorem QT{x:aj}{deep:Int}{j:Nat}(hx:x.Ok)(hj:j<=3){t:List Int}(ht:t∈fu x deep j):jK x t:=by
 obtain⟨h,h1,h2⟩:=S6.1 ht;obtain⟨ns,h3,h4⟩:=N6 h2;exact((D9 hx) j hj h h1).2 ns h3 t h4
theorem alY{x:aj}{deep:Int}(hx:x.Ok){f:Kn->Bool}{g:List Int->Bool}(h0:f Kn.zero=false)(h:∀Q t,bS Q->jK x t->f (eS x deep Q t)=(f Q||g t))(hj:∀F G hs,bS F->bS G->G.has=true->f (io F hs G)=(f F||f G)){js:List Nat}{D:Kn}(dM:∀j∈js,j<=3)(hD:oz x deep js D):bS D/\f D=js.any λj=>(fu x deep j).any g:=by
 induction hD with
 |nil=>exact⟨Dk,by simpa using h0⟩
 |@snoc js F j hs hJ hp ih=>
  obtain⟨nj,lM⟩:=ih λi hi=>dM i (by simp[hi]);have R7:j<=3:=dM j (by simp);have au:bS (h_ x deep j):=Oc hx ((D9 hx) j R7);refine⟨aaD nj au hp,?_⟩;have hw:f (h_ x deep j)=(fu x deep j).any g:=by
   rw[HQ,QD hx h _ _ Dk (λt ht=>QT hx R7 ht),h0,Zu]
  rw[Zy,<- lM];simp only[YP,List.any_nil,Bool.or_false];cases hG:(h_ x deep j).has with
  |true=>rw[hj F _ hs nj au hG,hw]
  |false=>
   have hn:fu x deep j=[]:=by
    rw[Ef]at hG;simpa using hG
   rw[hn];unfold io;rw[hG];simp
end Go.Gg.Tk
namespace Go.Gg
open Go.Gg.Tk
theorem aaJ{x:aj}{deep:Int}(hx:x.Ok){f:Kn->Bool}{g:List Int->Bool}(h0:f Kn.zero=false)(h:∀Q t,bS Q->jK x t->f (eS x deep Q t)=(f Q||g t))(hj:∀F G hs,bS F->bS G->G.has=true->f (io F hs G)=(f F||f G)){D:Kn}(hD:ez x deep D):f D=true<->∃u∈pq x deep,g (eV u)=true:=by
 obtain⟨p,js,h1,h2,h3,_⟩:=hD;have hp:=hx.am;have dM:∀j∈js,j<=3:=λj hm=>by
  have:=h2.mem_iff.1 hm;rw[TF]at this;omega
 rw[(alY hx h0 h hj dM h3).2,UI];constructor
 ·rintro⟨j,a,b⟩
  obtain⟨t,c,d⟩:=UI.1 b;obtain⟨u,hu,rfl⟩:=(AF hx h1 h2).1 ⟨j,a,c⟩;exact⟨u,hu,d⟩
 ·rintro⟨u,hu,d⟩
  obtain⟨j,a,c⟩:=(AF hx h1 h2).2 ⟨u,hu,rfl⟩;exact⟨j,a,UI.2 ⟨_,c,d⟩⟩
theorem al7{x:aj}{D:Kn}{s n:Nat}(hx:x.Ok)(hD:ez x 2 D)(hs:s<x.aB.length):(D.aX.getD s 0).testBit n=true<->∃u∈bZ x,sC (eV u) s=n:=by
 have aR:=hx.dx;have e:pq x 2=bZ x:=rfl;rw[<- e,aaJ (f:=λK=>(K.aX.getD s 0).testBit n) (g:=λt=>decide (n=sC t s)) hx ?_ (λQ t hQ _=>arn hx hQ hs) (λF G pQ hF hG hh=> ?_) hD]
 ·exact exists_congr λu=>and_congr_right λ_=>by rw[decide_eq_true_eq];exact eq_comm
 ·have:([0,0,0]:List Nat).getD s 0=0:=by
   match s,(show s<3 by omega)with
   |0,_=>rfl
   |1,_=>rfl
   |2,_=>rfl
  show (([0,0,0]:List Nat).getD s 0).testBit n=false;rw[this];exact Zv n
 ·have e2:(io F pQ G).aX=mj F.aX G.aX:=by unfold io;rw[if_pos hh]
  rw[e2];exact abJ (by rw[hF.aX,hG.aX])
theorem aeY{x:aj}{P:List Int->List Int->Prop}:(∃u∈pq x 1,P u.bE u.aA)<->∃u∈bZ x,P u.bE u.aA:=by
 constructor
 ·rintro⟨u,hu,hp⟩
  obtain⟨h,a,b⟩:=S6.1 hu;exact⟨u,S6.2 ⟨h,a,D_ b⟩,hp⟩
 ·rintro⟨u,hu,hp⟩
  obtain⟨h,a,b⟩:=S6.1 hu;obtain⟨ns,c,d⟩:=S6.1 b;obtain⟨os,c2,rfl⟩:=Tl.1 d;cases ho:qa h ns x.aB []with
  |nil=>rw[ho]at c2;cases c2
  |cons o os'=>
   refine⟨⟨h,ns,o⟩,S6.2 ⟨h,a,?_⟩,hp⟩;show _∈vF x h;refine S6.2 ⟨ns,c,?_⟩;unfold Ea;rw[ho];simp
theorem abx{h:List Int}:∀{ys:List aC}{t ns:List Int},ns∈nq h ys t->ns.length=t.length+ys.length
 |[],t,ns,hm=>by
  simp only[nq,S9]at hm;subst hm;rfl
 |y::ys,t,ns,hm=>by
  simp only[nq,S6]at hm;obtain⟨n,_,hm⟩:=hm;have:=abx hm;simp at this⊢;omega
theorem w_{x:aj}(hx:x.Ok){u:Tr}(hu:u∈bZ x):u.bE.length=1+x.hours.toNat/\u.aA.length=x.pieces.length:=by
 obtain⟨h,a,b⟩:=S6.1 hu;obtain⟨ns,c,d⟩:=S6.1 b;obtain⟨os,_,rfl⟩:=Tl.1 d;exact⟨(Ak _ _ _ (by simp) a).1,by simpa using abx c⟩
theorem yP{h:List Int}(h4:h.length<=4):(cQ h).length=4:=by simp[cQ];omega
theorem ahi{x:aj}(hx:x.Ok){u:Tr}(hu:u∈bZ x){p:Nat}(hp:p<x.pieces.length):mU (eV u) p=(u.aA.getD p 0-u.bE.headD 0).toNat:=by
 obtain⟨h1,h2⟩:=w_ hx hu;have hh:=hx.hours;have h4:=yP (h:=u.bE) (by omega);have cN:p<u.aA.length:=by omega
 have hg:(eV u)[4+p]?=some (((u.aA[p]-u.bE.headD 0).toNat:Nat):Int):=by
  unfold eV dH lP;rw[SA,S8 (by omega),h4,TS,SY (by simp;omega),SY (by simpa using cN),Tn,Tn,SO cN];rfl
 unfold mU;rw[SD,hg,SD,SO cN];rfl
theorem ass{p:Nat}(hp:p<4):([0,0,0,0]:List Nat).getD p 0=0:=by
 match p,hp with
 |0,_=>rfl
 |1,_=>rfl
 |2,_=>rfl
 |3,_=>rfl
theorem al6{x:aj}{D:Kn}{p n:Nat}(hx:x.Ok)(hD:ez x 1 D)(hp:p<x.pieces.length):(D.aA.getD p 0).testBit n=true<->∃u∈bZ x,(u.aA.getD p 0-u.bE.headD 0).toNat=n:=by
 have oV:=hx.eN;rw[aaJ (f:=λK=>(K.aA.getD p 0).testBit n) (g:=λt=>decide (n=mU t p)) hx ?_ (λQ t hQ _=>arm hx hQ hp) (λF G pQ hF hG hh=> ?_) hD]
 ·rw[<- aeY (P:=λh ns=>(ns.getD p 0-h.headD 0).toNat=n)];refine exists_congr λu=>and_congr_right λhu=> ?_;obtain⟨h,a,b⟩:=S6.1 hu;have hu2:u∈bZ x:=S6.2 ⟨h,a,D_ b⟩;rw[decide_eq_true_eq,ahi hx hu2 hp];exact eq_comm
 ·show (([0,0,0,0]:List Nat).getD p 0).testBit n=false;rw[ass (by omega)];exact Zv n
 ·have e2:(io F pQ G).aA=mj F.aA G.aA:=by unfold io;rw[if_pos hh]
  rw[e2];exact abJ (by rw[hF.aA,hG.aA])
theorem abw{h:List Int}:∀{ys:List aC}{t ns:List Int},ns∈nq h ys t->(∀n∈t,h.headD 0<=n)->∀n∈ns,h.headD 0<=n
 |[],t,ns,hm,ht=>by
  simp only[nq,S9]at hm;subst hm;exact ht
 |y::ys,t,ns,hm,ht=>by
  simp only[nq,S6,Uv]at hm;obtain⟨n,⟨hn,_⟩,hm⟩:=hm;refine abw hm λk hk=> ?_;rcases SV.1 hk with h'|h'
  ·exact ht k h'
  ·rw[S9.1 h'];obtain⟨i,_,rfl⟩:=Tl.1 hn;omega
theorem arU{x:aj}{u:Tr}(hu:u∈bZ x):∀n∈u.aA,u.bE.headD 0<=n:=by
 obtain⟨h,a,b⟩:=S6.1 hu;obtain⟨ns,c,d⟩:=S6.1 b;obtain⟨os,_,rfl⟩:=Tl.1 d;exact abw c (by simp)
end Go.Gg
namespace Go.Gg.Tk
theorem FU{x:aj}:∀(d:Nat)(pre h:List Int),h∈kY x d pre->h.take pre.length=pre
 |0,pre,h,hm=>by
  unfold kY at hm;split at hm
  ·rw[S9]at hm;subst hm;exact TQ
  ·cases hm
 |d+1,pre,h,hm=>by
  unfold kY at hm;split at hm
  ·obtain⟨n,_,hm⟩:=S6.1 hm;have:=FU d _ h hm;rw[SP,T8]at this;have h2:=congrArg (TU pre.length) this;rw[UZ,Tw (SR _),TQ,Ww (by omega)]at h2;exact h2
  ·cases hm
theorem RX{x:aj}:∀(d:Nat)(pre:List Int),(kY x d pre).Nodup
 |0,pre=>by
  unfold kY;split
  ·simp
  ·exact WK
 |d+1,pre=>by
  unfold kY;split
  ·unfold List.Nodup;rw[List.pairwise_flatMap];refine⟨λn _=>RX d _,?_⟩;refine Z4 ?_ (X5 (n:=x.am.toNat+1));intro a b fw h ha g hb he;subst he;have h1:=FU d _ h ha;have h2:=FU d _ h hb;rw[SP,T8]at h1 h2;have h3:=h1.symm.trans h2;have:=List.append_cancel_left h3;simp at this;exact fw (by omega)
  ·exact WK
theorem R6(x:aj):(aK x).Nodup:=RX _ _
end Go.Gg.Tk
namespace Go.Gg
open Go.Gg.Tk
theorem aro(x:aj)(deep:Int)(Q:Kn)(t:List Int):(eS x deep Q t).first=if Q.has=true then Q.first else t:=by
 have hB:(j7 Q t).first=if Q.has=true then Q.first else t:=by unfold j7;split<;>rfl
 unfold eS;dsimp only;split
 ·exact hB
 ·split
  ·exact hB
  ·exact hB
theorem QE{x:aj}{deep:Int}:∀(ts:List (List Int))(Q:Kn),(ts.foldl (eS x deep) Q).first=if Q.has=true then Q.first else(match ts with|[]=>Q.first|t::_=>t)
 |[],Q=>by simp
 |t::ts,Q=>by
  rw[UX,QE ts,adm,if_pos rfl,aro]
theorem asd{x:aj}{deep:Int}{j:Nat}{t:List Int}{l:List (List Int)}(h:fu x deep j=t::l):(h_ x deep j).first=t:=by
 rw[HQ,QE,h];rfl
theorem alV{Q G:Kn}{hs:List (List Int)}(h:G.has=true):(io Q hs G).first=if Q.has=false\/s7 G.first Q.first=true then G.first else Q.first:=by
 unfold io;rw[if_pos h]
theorem an9{h:List Int}{a b:Int}(hl:h.take 2=[a,b]):(cQ h).take 4=a::b::((cQ h).drop 2).take 2:=by
 match h,hl with
 |c::d::l,hl=>
  simp only[VS,ak_,YO,and_true]at hl;obtain⟨rfl,rfl⟩:=hl;simp[cQ]
theorem QU{x:aj}{deep:Int}{j:Nat}(hx:x.Ok)(hj:j<x.am.toNat+1){t:List Int}(ht:t∈fu x deep j):∃l,t.take 4=x.first::(x.first+(j:Int))::l:=by
 rw[Fq hx hj]at ht;obtain⟨u,hu,rfl⟩:=Tl.1 ht;obtain⟨h,hm,hu⟩:=S6.1 hu;have hL:=RY hx hj hm;have ku:=y8 (D_ hu);have h2:h.take 2=[x.first,x.first+(j:Int)]:=by
  unfold wx at hm;split at hm
  ·exact FU _ _ _ hm
  ·cases hm
 have e:(eV u).take 4=(cQ h).take 4:=by
  unfold eV dH;rw[ku,SA,Tw (by rw[yP hL.hi];omega)]
 rw[e,an9 h2];exact⟨_,rfl⟩
theorem aju{x:aj}{deep:Int}{i j:Nat}(hx:x.Ok)(hi:i<x.am.toNat+1)(hj:j<x.am.toNat+1)(kI:i≠j){t u:List Int}(ht:t∈fu x deep i)(hu:u∈fu x deep j):s7 t u=decide (i<j):=by
 obtain⟨l,h1⟩:=QU hx hi ht;obtain⟨m,h2⟩:=QU hx hj hu;have aG:t.take 4≠u.take 4:=by
  rw[h1,h2];simp only[ne_eq,YO,true_and,not_and];intro h;omega
 unfold s7;rw[if_neg aG,h1,h2];by_cases h:i<j
 ·have e1:nb (x.first+(i:Int)) (x.first+(j:Int))= -1:=by unfold nb;rw[if_pos (by omega)]
  have e0:nb x.first x.first=0:=by unfold nb;simp
  simp[oG,e0,e1,h]
 ·have e1:nb (x.first+(i:Int)) (x.first+(j:Int))=1:=by unfold nb;rw[if_neg (by omega),if_pos (by omega)]
  have e0:nb x.first x.first=0:=by unfold nb;simp
  simp[oG,e0,e1,h]
theorem aaF{x:aj}{deep:Int}{js:List Nat}{D:Kn}(hx:x.Ok)(hJ:oz x deep js D)(hn:js.Nodup)(hj:∀j∈js,j<x.am.toNat+1)(hh:D.has=true):∃j∈js,∃t l,fu x deep j=t::l/\D.first=t/\∀i∈js,fu x deep i≠[]->j<=i:=by
 induction hJ with
 |nil=>cases hh
 |@snoc js Q j hs hJ hp ih=>
  have jh:js.Nodup:=(U4.1 hn).1;have pJ:j∉js:=λh=>(U4.1 hn).2.2 j h j (by simp) rfl;have ih':=ih jh (λi hi=>hj i (by simp[hi]));by_cases hG:fu x deep j=[]
  ·have hg:(h_ x deep j).has=false:=(by rw[Ef,hG];rfl);have hD:io Q hs (h_ x deep j)=Q:=(by unfold io;rw[hg];rfl);rw[hD]at hh⊢;obtain⟨i,h1,t,l,h2,h3,h4⟩:=ih' hh;refine⟨i,by simp[h1],t,l,h2,h3,λk hk aG=> ?_⟩;rcases SV.1 hk with hk|hk
   ·exact h4 k hk aG
   ·rw[S9]at hk;subst hk;exact absurd hG aG
  ·obtain⟨t,l,ht⟩:∃t l,fu x deep j=t::l:=by
    cases hg:fu x deep j with
    |nil=>exact absurd hg hG
    |cons t l=>exact⟨t,l,rfl⟩
   have hg:(h_ x deep j).has=true:=(by rw[Ef,ht];rfl);rw[alV hg,asd ht];by_cases hQ:Q.has=true
   ·obtain⟨i,h1,t',l',h2,h3,h4⟩:=ih' hQ;have hb:s7 t Q.first=decide (j<i):=by
     rw[h3];exact aju hx (hj j (by simp)) (hj i (by simp[h1])) (λe=>pJ (e▸h1)) (by rw[ht];simp) (by rw[h2];simp)
    by_cases kI:j<i
    ·rw[if_pos (.inr (by rw[hb];simpa using kI))];refine⟨j,by simp,t,l,ht,rfl,λk hk aG=> ?_⟩;rcases SV.1 hk with hk|hk
     ·have:=h4 k hk aG;omega
     ·rw[S9]at hk;omega
    ·rw[if_neg (by rw[hQ,hb];simpa using kI)];refine⟨i,by simp[h1],t',l',h2,h3,λk hk aG=> ?_⟩;rcases SV.1 hk with hk|hk
     ·exact h4 k hk aG
     ·rw[S9]at hk;omega
   ·rw[if_pos (.inl (by simpa using hQ))];refine⟨j,by simp,t,l,ht,rfl,λk hk aG=> ?_⟩;rcases SV.1 hk with hk|hk
    ·have hQf:Q.has=js.any λj=> !(fu x deep j).isEmpty:=aaG hJ;exfalso;apply hQ;rw[hQf,UI];refine⟨k,hk,?_⟩;cases hg:fu x deep k with
     |nil=>exact absurd hg aG
     |cons=>rfl
    ·rw[S9]at hk;omega
theorem RL{α:Type}{f:Nat->List α}{j:Nat}{t:α}{l:List α}:∀{n:Nat},j<n->f j=t::l->(∀i,i<j->f i=[])->((SZ n).flatMap f).head?=some t
 |0,h,_,_=>absurd h (by omega)
 |n+1,h,hf,h0=>by
  rw[Vk,Vz,WL];by_cases hj:j<n
  ·rw[RL hj hf h0];rfl
  ·have e:j=n:=(by omega);subst e;have:(SZ j).flatMap f=[]:=by
    rw[WN];intro i hi;exact h0 i (TF.1 hi)
   rw[this];simp[hf]
theorem Kx{α β:Type}{f g:α->List β}:∀(l:List α),(∀a,(f a).head?=(g a).head?)->(l.flatMap f).head?=(l.flatMap g).head?
 |[],_=>rfl
 |a::l,h=>by
  rw[Ub,Ub,WL,WL,h a,Kx l h]
theorem adl{α:Type}(l:List α):(l.take 1).head?=l.head?:=by cases l<;>rfl
theorem aeZ{x:aj}{deep:Int}:(pq x deep).head?=(bZ x).head?:=by
 refine Kx _ λh=> ?_;have h1:(vF x h).head?=(o_ x h).head?:=Kx _ λns=>adl _;unfold sF;split
 ·rw[adl,h1]
 ·split
  ·exact h1
  ·rfl
theorem al4{x:aj}{deep:Int}{D:Kn}(hx:x.Ok)(h:ez x deep D)(hh:D.has=true):∃u l,bZ x=u::l/\D.first=eV u:=by
 obtain⟨p,js,h1,h2,h3,_⟩:=h;have n9:x.am.toNat=p:=by omega
 have hj:∀j∈js,j<x.am.toNat+1:=λj hj=>by rw[n9];exact TF.1 (h2.mem_iff.1 hj)
 obtain⟨j,a,t,l,b,c,d⟩:=aaF hx h3 (h2.nodup_iff.2 X5) hj hh;have hd:((SZ (p+1)).flatMap λj=>fu x deep j).head?=some t:=by
  refine RL (TF.1 (h2.mem_iff.1 a)) b λi hi=> ?_;cases hg:fu x deep i with
  |nil=>rfl
  |cons v w=>
   have:=d i (h2.mem_iff.2 (TF.2 (by have:=hj j a;omega))) (by rw[hg];simp);omega
 have he:((SZ (p+1)).flatMap λj=>fu x deep j)=(pq x deep).map eV:=by
  unfold pq;rw[<- adO hx,n9,Vv];exact B_ λi hi=>Fq hx (by rw[n9];exact TF.1 hi)
 rw[he,List.head?_map,aeZ]at hd;cases ht:bZ x with
 |nil=>rw[ht]at hd;cases hd
 |cons u l=>
  rw[ht]at hd;simp only[ZM,UO,Tj]at hd;exact⟨u,l,rfl,by rw[c,hd]⟩
namespace Tk
def live (x:aj):List (List Int):=(aK x).filter λh=> !(o_ x h).isEmpty
def cnt (x:aj):Int:=(live x).length
theorem AH{x:aj}{h:List Int}:h∈live x<->∃u∈bZ x,u.bE=h:=by
 unfold live;rw[Uv];constructor
 ·rintro⟨h1,h2⟩
  cases ht:o_ x h with
  |nil=>rw[ht]at h2;cases h2
  |cons u l=>
   have hu:u∈o_ x h:=(by rw[ht];simp);exact⟨u,S6.2 ⟨h,h1,hu⟩,y8 hu⟩
 ·rintro⟨u,hu,rfl⟩
  obtain⟨h,a,b⟩:=S6.1 hu;have e:=y8 b;subst e;refine⟨a,?_⟩;cases ht:o_ x u.bE with
  |nil=>rw[ht]at b;cases b
  |cons=>rfl
theorem KV{x:aj}{h:List Int}(hm:h∈aK x):h.length=1+x.hours.toNat:=(Ak _ _ _ (by simp) hm).1
theorem M5{h:List Int}{n:Nat}(hl:h.length=n):(cQ h).take n=h:=by
 subst hl;unfold cQ;rw[Tw (SR _),TQ]
theorem amQ(x:aj):((live x).map cQ).Nodup:=by
 have h:(live x).Nodup:=(R6 x).filter _;rw[TD,Wb];have h2:=TD.1 h;refine Xs ?_ h2;intro a b ha hb aG e;have la:=KV ((Uv.1 ha).1);have lb:=KV ((Uv.1 hb).1);apply aG;rw[<- M5 la,e,M5 lb]
end Tk
theorem Jg{x:aj}(hx:x.Ok){u:Tr}(hu:u∈bZ x):(eV u).take 4=cQ u.bE:=by
 have hl:=(w_ hx hu).1;have hh:=hx.hours;unfold eV dH;rw[SA,Tw (by rw[yP (by omega)];omega),SS (by rw[yP (by omega)];omega)]
theorem aaK{x:aj}{D:Kn}(hx:x.Ok)(h:ez x 0 D):D.aK.Perm ((live x).map cQ):=by
 have hn:D.aK.Nodup:=by obtain⟨p,js,h1,h2,h3,_⟩:=h;exact alZ h3
 refine(List.perm_ext_iff_of_nodup hn (amQ x)).2 λg=> ?_;rw[al5 hx h,Tl];constructor
 ·rintro⟨u,hu,rfl⟩
  exact⟨u.bE,AH.2 ⟨u,hu,rfl⟩,(Jg hx hu).symm⟩
 ·rintro⟨h,hm,rfl⟩
  obtain⟨u,hu,rfl⟩:=AH.1 hm;exact⟨u,hu,(Jg hx hu).symm⟩
theorem yB{x:aj}{deep:Int}{D:Kn}(hx:x.Ok)(h:ez x deep D):D.has=false<->bZ x=[]:=by
 rw[GB hx h];cases bZ x<;>simp
theorem MB{x:aj}:live x=[]<->bZ x=[]:=by
 constructor
 ·intro h;cases ht:bZ x with
  |nil=>rfl
  |cons u l=>
   have:u.bE∈live x:=AH.2 ⟨u,by rw[ht];simp,rfl⟩;rw[h]at this;cases this
 ·intro h;cases hl:live x with
  |nil=>rfl
  |cons a l=>
   obtain⟨u,hu,_⟩:=AH.1 (show a∈live x by rw[hl];simp);rw[h]at hu;cases hu
theorem count_eq{x:aj}{D:Kn}(hx:x.Ok)(h:ez x 0 D):(if D.has then(D.aK.length:Int)else 0)=cnt x:=by
 cases hD:D.has with
 |true=>rw[if_pos rfl,(aaK hx h).length_eq,Tm];rfl
 |false=>
  have:=MB.2 ((yB hx h).1 hD);simp[cnt,this]
theorem anl(a b:Int):min a b=a\/min a b=b:=by omega
theorem ang(a b:Int):max a b=a\/max a b=b:=by omega
theorem Pj(v:List Int->Int):∀(hs:List (List Int))(b:iA),b.is=true->(hs.foldl (λb h=>b.add (v h)) b).is=true/\((hs.foldl (λb h=>b.add (v h)) b).lo=b.lo\/∃h∈hs,(hs.foldl (λb h=>b.add (v h)) b).lo=v h)/\(hs.foldl (λb h=>b.add (v h)) b).lo<=b.lo/\(∀h∈hs,(hs.foldl (λb h=>b.add (v h)) b).lo<=v h)/\((hs.foldl (λb h=>b.add (v h)) b).hi=b.hi\/∃h∈hs,(hs.foldl (λb h=>b.add (v h)) b).hi=v h)/\b.hi<=(hs.foldl (λb h=>b.add (v h)) b).hi/\∀h∈hs,v h<=(hs.foldl (λb h=>b.add (v h)) b).hi
 |[],b,hb=>⟨hb,.inl rfl,Xl _,by simp,.inl rfl,Xl _,by simp⟩
 |g::hs,b,hb=>by
  have dL:b.add (v g)=⟨min b.lo (v g),max b.hi (v g),true⟩:=by unfold iA.add;rw[if_pos hb]
  obtain⟨h1,h2,h3,h4,h5,h6,h7⟩:=Pj v hs (b.add (v g)) (by rw[dL]);rw[UX];generalize hs.foldl (λb h=>b.add (v h)) (b.add (v g))=R at*;rw[dL]at h2 h3 h5 h6;dsimp only at h2 h3 h5 h6;have m1:min b.lo (v g)=b.lo\/min b.lo (v g)=v g:=anl _ _;have m2:max b.hi (v g)=b.hi\/max b.hi (v g)=v g:=ang _ _;refine⟨h1,?_,XB h3 (Int.min_le_left _ _),?_,?_,XB (Int.le_max_left _ _) h6,?_⟩
  ·rcases h2 with h2|⟨h,a,c⟩
   ·rcases m1 with m1|m1
    ·exact .inl (h2.trans m1)
    ·exact .inr ⟨g,by simp,h2.trans m1⟩
   ·exact .inr ⟨h,by simp[a],c⟩
  ·intro h hm;rcases SL.1 hm with rfl|hm
   ·exact XB h3 (Int.min_le_right _ _)
   ·exact h4 h hm
  ·rcases h5 with h2|⟨h,a,c⟩
   ·rcases m2 with m1|m1
    ·exact .inl (h2.trans m1)
    ·exact .inr ⟨g,by simp,h2.trans m1⟩
   ·exact .inr ⟨h,by simp[a],c⟩
  ·intro h hm;rcases SL.1 hm with rfl|hm
   ·exact XB (Int.le_max_right _ _) h6
   ·exact h7 h hm
namespace Tk
structure Bounds (hs:List (List Int))(v:List Int->Int)(lo hi:Int):Prop where
 Gz:∃h∈hs,lo=v h
 le:∀h∈hs,lo<=v h
 Gy:∃h∈hs,hi=v h
 ge:∀h∈hs,v h<=hi
theorem Bounds.uniq{hs:List (List Int)}{v:List Int->Int}{a b c d:Int}(h:Bounds hs v a b)(k:Bounds hs v c d):a=c/\b=d:=by
 obtain⟨g1,m1,e1⟩:=h.Gz;obtain⟨g2,m2,e2⟩:=h.Gy;obtain⟨g3,m3,e3⟩:=k.Gz;obtain⟨g4,m4,e4⟩:=k.Gy;have:=h.le _ m3;have:=h.ge _ m4;have:=k.le _ m1;have:=k.ge _ m2;omega
theorem Bounds.anT{hs gs:List (List Int)}{v:List Int->Int}{a b:Int}(h:Bounds hs v a b)(hp:hs.Perm gs):Bounds gs v a b:=by
 obtain⟨g1,m1,e1⟩:=h.Gz;obtain⟨g2,m2,e2⟩:=h.Gy;exact⟨⟨g1,hp.mem_iff.1 m1,e1⟩,λg hg=>h.le g (hp.mem_iff.2 hg),⟨g2,hp.mem_iff.1 m2,e2⟩,λg hg=>h.ge g (hp.mem_iff.2 hg)⟩
end Tk
theorem agi{hs:List (List Int)}(v:List Int->Int)(aG:hs≠[]):Bounds hs v (hs.foldl (λ(b:iA) h=>b.add (v h)) (⟨0,0,false⟩:iA)).lo (hs.foldl (λ(b:iA) h=>b.add (v h)) (⟨0,0,false⟩:iA)).hi:=by
 cases hs with
 |nil=>exact absurd rfl aG
 |cons g hs=>
  rw[UX,show iA.add ⟨0,0,false⟩ (v g)=⟨v g,v g,true⟩from rfl];obtain⟨_,h2,h3,h4,h5,h6,h7⟩:=Pj v hs ⟨v g,v g,true⟩ rfl;generalize hs.foldl (λ(b:iA) h=>b.add (v h)) (⟨v g,v g,true⟩:iA)=R at*;dsimp only at h2 h3 h5 h6;refine⟨?_,?_,?_,?_⟩
  ·rcases h2 with h2|⟨h,a,c⟩
   ·exact⟨g,by simp,h2⟩
   ·exact⟨h,by simp[a],c⟩
  ·intro h hm;rcases SL.1 hm with rfl|hm
   ·exact h3
   ·exact h4 h hm
  ·rcases h5 with h2|⟨h,a,c⟩
   ·exact⟨g,by simp,h2⟩
   ·exact⟨h,by simp[a],c⟩
  ·intro h hm;rcases SL.1 hm with rfl|hm
   ·exact h6
   ·exact h7 h hm
open Go.Gg.Tk
theorem ahh{x:aj}(hx:x.Ok){u:Tr}(hu:u∈bZ x){p:Nat}(hp:p<x.pieces.length):(eV u).getD (4+p) 0=u.aA.getD p 0-u.bE.headD 0:=by
 obtain⟨h1,h2⟩:=w_ hx hu;have hh:=hx.hours;have h4:=yP (h:=u.bE) (by omega);have cN:p<u.aA.length:=by omega
 have uP:=arU hu u.aA[p] (Wy cN);have hg:(eV u)[4+p]?=some (((u.aA[p]-u.bE.headD 0).toNat:Nat):Int):=by
  unfold eV dH lP;rw[SA,S8 (by omega),h4,TS,SY (by simp;omega),SY (by simpa using cN),Tn,Tn,SO cN];rfl
 rw[SD,hg,SD,SO cN];simp only[S7];omega
theorem abM{h ns:List Int}:∀{ss:List aC}{t os:List Nat},os∈qa h ns ss t->(∀p∈t,p<ns.length)->os.length=t.length+ss.length/\∀p∈os,p<ns.length
 |[],t,os,hm,ht=>by
  simp only[qa,S9]at hm;subst hm;exact⟨rfl,ht⟩
 |s::ss,t,os,hm,ht=>by
  simp only[qa,S6,Uv,TF]at hm;obtain⟨p,⟨hp,_⟩,hm⟩:=hm;have:=abM hm λq hq=>by
   rcases SV.1 hq with hq|hq
   ·exact ht q hq
   ·rw[S9.1 hq];exact hp
  refine⟨?_,this.2⟩;rw[this.1];simp;omega
theorem HH{x:aj}(hx:x.Ok){u:Tr}(hu:u∈bZ x):u.bK.length=x.aB.length/\∀p∈u.bK,p<x.pieces.length:=by
 have h2:=(w_ hx hu).2;obtain⟨h,a,b⟩:=S6.1 hu;obtain⟨ns,c,d⟩:=S6.1 b;obtain⟨os,e,rfl⟩:=Tl.1 d;have:=abM e (by simp);dsimp only at h2⊢;rw[<- h2];exact⟨by simpa using this.1,this.2⟩
theorem ahj{x:aj}(hx:x.Ok){u:Tr}(hu:u∈bZ x){s:Nat}(hs:s<x.aB.length):sC (eV u) s=u.bK.getD s 0:=by
 obtain⟨h1,h2⟩:=w_ hx hu;have h3:=(HH hx hu).1;have hh:=hx.hours;have oV:=hx.eN;have h4:=yP (h:=u.bE) (by omega);have b9:s<u.bK.length:=by omega
 have hg:(eV u)[8+s]?=some ((u.bK[s]:Nat):Int):=by
  unfold eV dH lP;have h8:(cQ u.bE++((u.aA.map λn=>(n-u.bE.headD 0).toNat).map (λn:Nat=>(n:Int))++TG (4-(u.aA.map λn=>(n-u.bE.headD 0).toNat).length) (-1))).length=8:=by simp[h4];omega
  rw[S8 (by omega),h8,TS,SY (by simpa using b9),Tn,SO b9];rfl
 unfold sC;rw[SD,hg,SD,SO b9];rfl
namespace Tk
def zv (x:aj)(f:Tr->Bool):Bool:=(bZ x).any f
theorem xy{x:aj}{f:Tr->Bool}:zv x f=true<->∃u∈bZ x,f u=true:=UI
def xC (f:Nat->Bool)(more:Int)(i:Nat):List Int:=((SZ i).filter f).map λn:Nat=>(n:Int)+more
def DC (x:aj)(p n:Nat):Bool:=zv x λu=>decide ((u.aA.getD p 0-u.bE.headD 0).toNat=n)
def qb (x:aj)(s q:Nat):Bool:=zv x λu=>decide (u.bK.getD s 0=q)
def wV (x:aj)(s q:Nat):Bool:=zv x λu=> !decide (u.bK.getD s 0=q)
theorem aaX{s:Nat}{f:Nat->Bool}{more:Int}{i:Nat}(h:∀n,n<i->s.testBit n=f n):gg s more i=xC f more i:=by
 unfold gg xC;congr 1;exact Vh λn hn=>h n (TF.1 hn)
end Tk
theorem anH{x:aj}{D:Kn}{p:Nat}(hx:x.Ok)(hD:ez x 1 D)(hp:p<x.pieces.length)(n:Nat):(D.aA.getD p 0).testBit n=DC x p n:=by
 rw[Vo,al6 hx hD hp];unfold DC;rw[xy];simp only[decide_eq_true_eq]
theorem M6{x:aj}{D:Kn}{s:Nat}(hx:x.Ok)(hD:ez x 2 D)(hs:s<x.aB.length)(n:Nat):(D.aX.getD s 0).testBit n=qb x s n:=by
 rw[Vo,al7 hx hD hs];unfold qb;rw[xy];refine exists_congr λu=>and_congr_right λhu=> ?_;rw[ahj hx hu hs,decide_eq_true_eq]
theorem aoc{x:aj}{D:Kn}{s q:Nat}(hx:x.Ok)(hD:ez x 2 D)(hs:s<x.aB.length)(hh:D.has=true):(D.aX.getD s 0!=2^q)=wV x s q:=by
 have hb:=M6 hx hD hs;rw[Vo,bne_iff_ne];unfold wV;rw[xy];constructor
 ·intro aG;obtain⟨u,hu⟩:∃u,u∈bZ x:=by
   rw[GB hx hD]at hh;cases ht:bZ x with
   |nil=>rw[ht]at hh;cases hh
   |cons u l=>exact⟨u,by simp⟩
  by_cases hu1:u.bK.getD s 0=q
  ·refine Ts λfM=>aG ?_;apply Nat.eq_of_testBit_eq;intro n;rw[hb,VR,Vo,decide_eq_true_eq];unfold qb;rw[xy];constructor
   ·rintro⟨v,hv,e⟩
    rw[decide_eq_true_eq]at e;refine Ts λAs=>fM ⟨v,hv,?_⟩;rw[e];simp;exactλh=>As h.symm
   ·rintro rfl
    exact⟨u,hu,by rw[decide_eq_true_eq];exact hu1⟩
  ·exact⟨u,hu,by simpa using hu1⟩
 ·rintro⟨u,hu,h⟩ he
  have hp:qb x s (u.bK.getD s 0)=true:=by
   unfold qb;rw[xy];exact⟨u,hu,by simp⟩
  rw[<- hb,he,VR,decide_eq_true_eq]at hp;rw[hp]at h;simp at h
theorem aob{x:aj}{D:Kn}{s q:Nat}(hx:x.Ok)(hD:ez x 2 D)(hs:s<x.aB.length):(if D.has then vM ((D.aX.getD s 0).testBit q) (D.aX.getD s 0!=2^q)else 0)=if(bZ x).isEmpty then 0 else vM (qb x s q) (wV x s q):=by
 have hh:=GB hx hD;cases JW:D.has with
 |true=>
  rw[JW]at hh;have:(bZ x).isEmpty=false:=by simpa using hh.symm
  rw[this,if_pos rfl,M6 hx hD hs,aoc hx hD hs JW];rfl
 |false=>
  rw[JW]at hh;have:(bZ x).isEmpty=true:=by simpa using hh.symm
  rw[this];rfl
theorem afY{x:aj}{deep:Int}{D:Kn}(hx:x.Ok)(hD:ez x deep D):fS D=if(bZ x).isEmpty then 11 else 0:=by
 have hh:=GB hx hD;unfold fS;rw[hh];cases (bZ x).isEmpty<;>rfl
open Go.Conc Go.Proofs Go.Gg.Tk
theorem adL{l:List AV}{a b:AV}(h:Wk a b):sV (l++[a]) (l++[b]):=by
 induction l with
 |nil=>exact .cons h .nil
 |cons x l ih=>exact .cons (Wk.refl _) ih
theorem aa3(n m k:Nat)(bs:List (List Int)):Lt n (.sl m (bs.map br) (.opn k))=(k<n):=by
 rw[am7,eq_iff_iff];refine⟨λh=>h.1,λh=>⟨h,λa ha=> ?_⟩⟩;have:=aa5 n bs;rw[zt,vq]at this;exact this.mpr trivial a ha
theorem Ou:ie (Us none 0 0) 1=[.sl 0 [] .exact]:=rfl
theorem Sx{H:List aa}(hH:bM H)(n sz:Nat)(el:TypeId):bM (H++[.tail n sz el]):=Ld hH λz hz m=>by rw[S9.1 hz];trivial
section
variable {lv:Bool}
end
namespace Tk
def jj (l:List Int):Nat:=if l.length=0 then 0 else(l.getD (l.length-1) 0).toNat+1
def oh (n:Nat)(l:List Int)(j:Nat):List (List Int):=(SZ j).map λj:Nat=>l++[((jj l+j:Nat):Int)]
def oq (n:Nat):Nat->List (List Int)
 |0=>[[]]
 |i+1=>oq n i++oh n ((oq n i).getD i []) (n-jj ((oq n i).getD i []))
def wQ (n:Nat):List (List Int):=oq n (2^n)
theorem amb(n:Nat)(l:List Int)(j:Nat):oh n l (j+1)=oh n l j++[l++[((jj l+j:Nat):Int)]]:=by
 unfold oh;rw[Vk,TN];rfl
theorem an4:∀n,n<4->(∀i,i<2^n->i<(oq n i).length/\(∀l∈oq n i,l.length<=3/\∀y∈l,0<=y/\y<n))/\(∀i,i<2^n+1->(oq n i).length<=8)/\(oq n (2^n)).length=2^n:=by decide+kernel
end Tk
section
variable {lv:Bool}{H:List aa}{k kp:AV->List aa->Prop}
theorem aiE{ns:List Int}{e:End}(hn:ns.length<=2^20)(h0:ns=[]->k (.sl 0 [] .exact) H)(hk:k (.sl ns.length (ns.map iv) (.opn H.length)) (H++[.tail ns.length 1 3])):bk lv SC 94 H [.sl ns.length (ns.map iv) e] k kp:=by
 refine bL (rs:=[.tmp 2]) (nt:=8) Tryz.f94 λhH hA=> ?_;simp only[bt,SX];refine ak ?_;refine ak ?_;intro b hb;refine aD ?_;refine⟨λh=> ?_,λh=> ?_⟩
 ·
  refine ak ?_;refine bf ?_;have:ns=[]:=by
   cases ns with
   |nil=>rfl
   |cons x xs=>rw[hb (by simp)]at h;cases h
  exact kg (H':=H) (G:=[]) (Wk.refl _) (by simp) (SR _) hH (by simp[MG]) (h0 this)
 ·
  refine aN ?_;refine ak ?_;refine⟨by omega,?_⟩;refine bf ?_;exact cr hk
theorem ais{n:Nat}(hn:n<=3)(hk:k (zt (wQ n)) H):bk lv SC 70 H [iv n] k kp:=by
 refine bL (rs:=[.tmp 2]) (nt:=44) Tryz.f70 λhH hA=> ?_;simp only[bt,SX];obtain⟨lE,jd,ng⟩:=an4 n (by omega);refine ak ?_;refine ai ?_;simp only[seval,Ou,M4]
 (repeat apply iY);refine vU (t:=3) (sz:=1) (el:=22) (by simp only[seval]<;>rfl) ?_
 refine ak ?_;refine cL ?_;refine iD (2^n) (λi:Nat=>[(3,.sl (oq n i).length ((oq n i).map br) (.opn H.length)),(4,iv i)]) (λi=>H++[.tail (oq n i).length 1 22]) (λi=>True) (λ_ _=>rfl) (by simp only[seval];simp[bw,Wk.refl];exact Oa (l:=[.sl 0 [] .exact]) (l':=[br []]) rfl (sV.cons (iz _ _ _) .nil).at) rfl (λ_ _ _=>by simp) trivial (λb_ dj i cV _ R hR=> ?_);clear b_ dj;have bU:i<2^n->SE.wrap ((i:Int)+1)=((i+1:Nat):Int):=λh=>by
  have:2^n<=2^3:=Xj (by omega) hn;rw[bG _ (by omega)];rfl
 refine ak ?_;refine aD ?_;refine⟨λh=> ?_,λh=> ?_⟩
 ·have bD:i<2^n:=by
   rcases YD i (2^n)with h'|h'
   ·exact h'
   ·have:i=2^n:=(by omega);subst this;rw[ng]at h;omega
  obtain⟨g1,g2⟩:=lE i bD;have g3:=jd i (by omega);have bU:=bU bD;obtain⟨l,hl⟩:=cD g1;have aal:oq n (i+1)=oq n i++oh n l (n-jj l):=by
   rw[oq,SD,hl];rfl
  obtain⟨KZ,hly⟩:=g2 l (wR hl);generalize oq n i=o at aal hl g1 g3 hR⊢;refine aN ?_;refine ai ?_;simp only[seval,acL hl,j8 g1];refine ak ?_;refine ai ?_;simp only[seval,br];refine aD ?_;refine⟨λh=> ?p1,λh=> ?p2⟩
  case' p1=>
   have tI:0<l.length:=(by omega);obtain⟨y,hy⟩:=cD (xs:=l) (i:=l.length-1) (by omega);have Gt:=hly y (wR hy);have pL:jj l=y.toNat+1:=(by unfold jj;rw[if_neg (by omega),SD,hy];rfl);have f_:SE.wrap ((l.length:Int)-1)=((l.length-1:Nat):Int):=(by rw[bG _ (by omega)];omega);have wI:SE.wrap (y+1)=((jj l:Nat):Int):=(by rw[bG _ (by omega),pL];omega);have nd:(0<=((l.length-1:Nat):Int)/\((l.length-1:Nat):Int)<l.length)=True:=(by simp;omega);refine ai ?_;simp only[seval,f_,ff hy,nd,wI];have Sf:jj l=jj l:=rfl
  case' p2=>
   have Sf:jj l=0:=(by unfold jj;rw[if_pos (by omega)]);refine aN ?_
  all_goals(
   refine ak ?_;refine cL ?_;refine iD (n-jj l) (λj:Nat=>[(3,.sl (o.length+j) ((o++oh n l j).map br) (.opn H.length)),(7,iv (((jj l:Nat):Int)+j))]) (λj=>H++[.tail (o.length+j) 1 22]) (λi=>True) (λ_ _=>rfl) (by first|(simp only[seval];simp[bw,Wk.refl];done)|(simp only[seval,oh,Zx];simp[bw,Wk.refl,Sf])) (by simp) (λ_ _ _=>by simp) trivial (λb_ dj j pJ _ R2 tp=> ?_);clear b_ dj;have Sd:(n-jj l)<=3:=(by omega);refine ak ?_;refine aD ?_;refine⟨λh2=> ?_,λh2=> ?_⟩
   ·have fE:j<n-jj l:=(by omega);have dl:(o++oh n l (j+1)).map br=(o++oh n l j).map br++[br (l++[((jj l:Nat):Int)+j])]:=(by rw[amb,<- SA,TN];rfl);have F5:((o++oh n l j).map br).length=o.length+j:=(by simp[oh]);have Gn:SE.wrap (((jj l:Nat):Int)+j+1)=((jj l:Nat):Int)+((j+1:Nat):Int):=(by rw[bG _ (by omega)];omega);refine aN ?_;refine ak ?_;refine aI ((aiE (ns:=l) (by omega) (λtI=> ?_) ?_))
    ·subst tI;try simp only[seval,z1,Ou,M4,F5]
     first|refine⟨by decide,by omega,?_⟩|refine⟨by omega,?_⟩
     refine ai ?_;simp only[seval,Gn];refine tp _ ⟨fE,trivial,?_⟩;rw[dl];refine NB [.tail 1 1 3] (qS rfl rfl) ?_ (Sx hH _ _ _) ?_ (by simp[U_])
     ·(try simp only[seval]);exact⟨⟨_,rfl,have h:=adL (l:=(o++oh n [] j).map br) (show Wk (.sl 1 [iv (((jj []:Nat):Int)+j)] (.opn (H.length+1))) (br ([]++[((jj []:Nat):Int)+j])) by exact iz _ _ _);Oa h.len h.at⟩,_,rfl,Wk.refl _⟩
     ·rw[<- dl];simp only[Xc,fe,aa3,iv];simp
    ·(try simp only[seval,z1,Ou,M4,F5]);refine⟨by omega,by omega,?_⟩;refine ai ?_;simp only[seval,Gn];refine tp _ ⟨fE,trivial,?_⟩;rw[dl];refine NB [.tail (l.length+1) 1 3] (qS rfl rfl) ?_ (Sx hH _ _ _) ?_ (by simp[U_])
     ·(try simp only[seval]);exact⟨⟨_,rfl,have h:=adL (l:=(o++oh n l j).map br) (show Wk (.sl (l.length+1) (l.map iv++[iv (((jj l:Nat):Int)+j)]) (.opn (H.length+1))) (br (l++[((jj l:Nat):Int)+j])) by rw[br,TN,SP];exact iz _ _ _);Oa h.len h.at⟩,_,rfl,Wk.refl _⟩
     ·rw[<- dl];simp only[Xc,fe,aa3,iv];simp
   ·have yi:j=n-jj l:=(by omega);subst yi;refine cq ?_;refine ai ?_;simp only[seval,bU];refine hR _ ⟨bD,trivial,?_⟩;rw[aal];have CN:(o++oh n l (n-jj l)).length=o.length+(n-jj l):=(by simp[oh]);rw[CN];exact dn)
 ·have tH:i=2^n:=by
   rcases YD i (2^n)with h'|h'
   ·have:=(lE i h').1;omega
   ·omega
  subst tH;refine cq ?_;refine ak ?_;refine bf ?_;exact jN (b:=zt (wQ n)) hH (iz _ _ _) (by rw[aa5];trivial) hk
end
open Go.Conc Go.Proofs Go.Gg.Tk
theorem JI{α:Type}{f:α->List AV}{s:Nat}(hf:∀a,(f a).length=s):∀(xs:List α)(n:Nat),(xs.flatMap f).take (n* s)=(xs.take n).flatMap f
 |[],n=>by simp
 |x::xs,0=>by simp
 |x::xs,n+1=>by
  rw[Ub,VS,Ub,List.take_append,SS (by rw[hf,XA];omega),hf,show (n+1)* s-s=n* s by rw[XA];omega,JI hf xs n]
theorem xN{α:Type}{f:α->List AV}{s:Nat}(hf:∀a,(f a).length=s):∀(xs:List α)(n:Nat),(xs.flatMap f).drop (n* s)=(xs.drop n).flatMap f
 |[],n=>by simp
 |x::xs,0=>by simp
 |x::xs,n+1=>by
  rw[Ub,List.drop_succ_cons,Vw,WT (by rw[hf,XA];omega),hf,show (n+1)* s-s=n* s by rw[XA];omega,xN hf xs n,UK]
namespace Tk
def uB (ss:List aC)(ns:List Int):List aC:=ns.foldr (λn l=>l.eraseIdx n.toNat) ss
def aj.wo (x:aj)(ns:List Int):aj:={x with aB:=uB x.aB ns}
def uj (ns:List Int)(m:Nat):Prop:=∀(i:Nat) n,ns[i]?=some n->0<=n/\n+(ns.length-i:Nat)<=m
theorem uj.tail{n:Int}{ns:List Int}{m:Nat}(h:uj (n::ns) m):uj ns m:=λi k hk=>by
 have:=h (i+1) k hk;simp only[Uk]at this;exact⟨this.1,by omega⟩
theorem I9{ss:List aC}:∀{ns:List Int},uj ns ss.length->(uB ss ns).length+ns.length=ss.length
 |[],_=>rfl
 |n::ns,h=>by
  have h1:=I9 h.tail;have h2:=h 0 n rfl;have e:uB ss (n::ns)=(uB ss ns).eraseIdx n.toNat:=rfl;simp only[Uk]at h2⊢;rw[e,X6 (by omega)];omega
end Tk
section
variable {lv:Bool}{H:List aa}{k kp:AV->List aa->Prop}
theorem Qj{x:aj}{ns:List Int}{e:End}(aR:x.aB.length<=3)(iR:uj ns x.aB.length)(hk:k (x.wo ns).av H):bk lv SC 63 H [x.av,.sl ns.length (ns.map iv) e] k kp:=by
 have K7:ns.length<=3:=by have:=I9 iR;omega
 refine bL (rs:=[.cell 4 76]) (nt:=32) Tryz.f63 λhH hA=> ?_;simp only[bt,SX,aj.av];obtain⟨st,mb⟩:∃st:Nat->List aC,∀j,st j=uB x.aB (ns.drop (ns.length-j)):=⟨_,λ_=>rfl⟩;have lI:st 0=x.aB:=by rw[mb,ZW,List.drop_length];rfl
 have aly:st ns.length=uB x.aB ns:=by rw[mb,Va,Xw]
 obtain⟨xl,bz⟩:∃xl:List aC->List AV,∀ss,xl ss=[iv x.first,iv x.hours,iv x.am,dP x.seen,aS x.pieces,aS ss]:=⟨_,λ_=>rfl⟩;have tT:x.l=xl x.aB:=by rw[bz];rfl
 have rP:∀ss,(xl ss).drop 5=[.sl ss.length (ss.flatMap aC.l) .shut]:=λss=>by rw[bz];rfl
 have aP:∀(L:List aa),(H++L)[H.length]?=L[0]?:=λL=>aW H L 0;have cH:∀(L:List aa)(y:aa),(H++L).set H.length y=H++L.set 0 y:=λL y=>cY H L 0 y;have cW:∀(L:List aa),(H++L)[H.length+1]?=L[1]?:=λL=>aW H L 1;have dN:∀(L:List aa)(y:aa),(H++L).set (H.length+1) y=H++L.set 1 y:=λL y=>cY H L 1 y;rw[tT];refine ak ?_;have sg:SE.wrap ((ns.length:Int)-1)=(ns.length:Int)-1:=bG _ (by omega);refine ak ?_;refine cL ?_;refine iD ns.length (λj:Nat=>[(5,iv ((ns.length:Int)-1-j))]) (λj=>H++[.cells (xl (st j)) 26,.cells re 76]) (λi=>True) (λ_ _=>rfl) (by simp only[seval,sg];simp[bw,Wk.refl]) (by rw[lI];rfl) (λ_ _ _=>by simp) trivial (λb_ dj j pJ _ R hR=> ?_);clear dj;refine ak ?_;refine aD ?_;refine⟨λh=> ?_,λh=> ?_⟩
 ·have fE:j<ns.length:=by omega
  obtain⟨i,hi⟩:∃i:Nat,i=ns.length-1-j:=⟨_,rfl⟩;have RS:(ns.length:Int)-1-j=i:=by omega
  obtain⟨n,hn⟩:=cD (xs:=ns) (i:=i) (by omega);obtain⟨oU,tK⟩:=iR i n hn;obtain⟨n,rfl⟩:∃m:Nat,n=m:=⟨n.toNat,by omega⟩;have dl:st (j+1)=(st j).eraseIdx n:=by
   rw[mb,mb,show ns.length-(j+1)=i by omega,show ns.length-j=i+1 by omega];obtain⟨hlt,rfl'⟩:=SM.1 hn;rw[TR hlt,rfl'];rfl
  have b9:(st j).length+j=x.aB.length:=by
   have hd:uj (ns.drop (ns.length-j)) x.aB.length:=λq m hq=>by
    rw[Up]at hq;have:=iR _ _ hq;rw[Uo];exact⟨this.1,by omega⟩
   have:=I9 hd;rw[<- mb,Uo]at this;omega
  have iQ:n<(st j).length:=by omega
  generalize st j=ss at dl b9 iQ hR⊢;rw[RS];refine aN ?_;refine ai ?_;simp only[seval,ff hn,j8 (show i<ns.length by omega)];have bU:SE.wrap ((n:Int)+1)=((n+1:Nat):Int):=by rw[bG _ (by omega)];rfl
  have mE:∀l:List aC,(l.flatMap aC.l).length=l.length* 4:=λl=>by
   induction l with
   |nil=>rfl
   |cons a l ih=>rw[Ub,SP,ih,aC.len,Uk];omega
  have me:((n:Int)+1).toNat=n+1:=by omega
  have La:((n:Int)+1==0)=false:=by simp;omega
  have lE:(ss.take n).length=n:=by rw[Uf];omega
  have jd:(ss.drop (n+1)).length=ss.length-(n+1):=Uo;have hD1:∀l:List aC,(ss.length-(n+1))=l.length->l.take (ss.length-(n+1))=l:=λl h=>by rw[h,TQ]
  have hD2:(ss.drop (n+1)).take (ss.length-(n+1))=ss.drop (n+1):=hD1 _ jd.symm;refine eU 10 ?_;simp only[seval,aP,rP,bU,mE,me,JI aC.len,xN aC.len,lE,jd,beq_self_eq_true,aa_,YB,La,hD2,TQ];refine⟨by omega,by omega,by omega,by omega,by omega,by rw[bz];simp,?_⟩;have CG:(ss.eraseIdx n).length=n+(ss.length-(n+1)):=by rw[X6 iQ];omega
  have CH:(ss.eraseIdx n).flatMap aC.l=(ss.take n).flatMap aC.l++(ss.drop (n+1)).flatMap aC.l:=by rw[List.eraseIdx_eq_take_drop_succ,Vz]
  rw[<- CH,<- CG];have pD:∀y y',((xl ss).take 5++[y]++(xl ss).drop 6).set 5 y'=((xl ss).take 5++[y']++(xl ss).drop 6):=λy y'=>by rw[bz];rfl
  have hcg:∀y,((xl ss).take 5++[y]++(xl ss).drop 6)[5]?=some y:=λy=>by rw[bz];rfl
  have hce:(xl ss).take 5++[aS (ss.eraseIdx n)]++(xl ss).drop 6=xl (ss.eraseIdx n):=by rw[bz,bz];rfl
  (repeat apply iY);refine afK (id:=H.length) (j:=5) (y:=aS (ss.eraseIdx n)) (by simp only[seval,aP]<;>rfl) (hcg _) (iz _ _ _) ?_
  simp only[seval,cH,pD,hce];have f_:SE.wrap ((i:Int)-1)=(ns.length:Int)-1-((j+1:Nat):Int):=by rw[bG _ (by omega)];omega
  refine ai ?_;simp only[seval,f_];refine hR _ ⟨fE,trivial,?_⟩;rw[dl];have tL:bM (H++[.cells (xl (ss.eraseIdx n)) 26,.cells re 76]):=Ld hH λz hz m=>by
   simp only[SL,S0,or_false]at hz;rcases hz with rfl|rfl
   ·rw[bz];exact aa4 m {x with aB:=ss.eraseIdx n}
   ·intro a ha;simp only[re,SL,S0,or_false]at ha;rcases ha with rfl|rfl|rfl|rfl|rfl|rfl<;>simp[fe,MG]
  rw[<- RS];exact NB [.tail (ss.eraseIdx n).length 4 48] (qS rfl rfl) (by simp only[seval];simp[bw,Wk.refl]) tL (by simp[fe]) (by rw[SA];rfl)
 ·have yi:j=ns.length:=by omega
  subst yi;refine cq ?_;have Gs:(xl (st ns.length))=(x.wo ns).l:=by rw[bz,aly];rfl
  rw[Gs];have sg:(x.wo ns).l.length=6:=rfl;have u':TU 6 (x.wo ns).l=(x.wo ns).l:=rfl;have mh:re.length=6:=rfl;have LX:T1 6 re=[]:=rfl;refine ai ?_;simp only[seval,aP,dN,cW,sg,u',mh,LX];refine⟨kM _,?_⟩;refine nH ?_;simp only[seval,cW];rw[u'];exact jN (b:=(x.wo ns).av) hH (Wk.refl _) (by rw[Ds];trivial) hk
end
open Go.Conc Go.Proofs Go.Gg.Tk
namespace Tk
def OR (ns:List Int)(m:Nat):Bool:=(SZ ns.length).all λi=>decide (0<=ns.getD i 0/\ns.getD i 0+(ns.length-i:Nat)<=m)
theorem afr{ns:List Int}{m:Nat}(h:OR ns m=true):uj ns m:=λi n hn=>by
 have hi:=(SM.1 hn).1;have:=Tv.1 h i (TF.2 hi);rw[decide_eq_true_eq,SD,hn]at this;exact this
theorem aaZ:∀n,n<4->(wQ n).length=2^n/\∀l∈wQ n,OR l n=true:=by decide+kernel
theorem amN{n:Nat}(hn:n<4){l:List Int}(hl:l∈wQ n):uj l n:=afr ((aaZ n hn).2 l hl)
theorem PW{ss:List aC}:∀{ns:List Int}{y:aC},y∈uB ss ns->y∈ss
 |[],y,h=>h
 |n::ns,y,h=>PW (ns:=ns) (List.mem_of_mem_eraseIdx h)
theorem PV{ss:List aC}:∀{ns:List Int},(uB ss ns).length<=ss.length
 |[]=>SR _
 |n::ns=>by
  have h1:=PV (ss:=ss) (ns:=ns);have h2:=List.length_eraseIdx_le (uB ss ns) n.toNat;exact UL h2 h1
theorem aj.Ok.wo{x:aj}(h:x.Ok)(ns:List Int):(x.wo ns).Ok:=⟨h.first,h.hours,h.am,h.vz,h.eN,UL PV h.dx,h.seen,λy hy=>⟨(h.piece y hy).1,(h.piece y hy).2⟩,λy hy=>have k:=h.stub y (PW hy);⟨k.1,k.2⟩⟩
def Fh (x:aj):Option (List Int):=(wQ x.aB.length).find? λl=>vZ (x.wo l)
theorem Qr{α:Type}{p:α->Bool}:∀{l:List α}{i:Nat}{a:α},l[i]?=some a->p a=true->(∀j b,j<i->l[j]?=some b->p b=false)->l.find? p=some a
 |b::l,0,a,h,hp,_=>by cases h;rw[List.find?_cons_of_pos hp]
 |b::l,i+1,a,h,hp,h0=>by
  rw[List.find?_cons_of_neg (by rw[h0 0 b (by omega) rfl];simp)];exact Qr (i:=i) h hp λj c hj hc=>h0 (j+1) c (by omega) hc
theorem aiU{α:Type}{p:α->Bool}{l:List α}(h:∀(j:Nat) b,l[j]?=some b->p b=false):l.find? p=none:=by
 rw[List.find?_eq_none];intro a ha;obtain⟨j,hj⟩:=Vg ha;rw[h j a hj];simp
end Tk
section
variable {lv:Bool}{H:List aa}{k kp:AV->List aa->Prop}
theorem aif{x:aj}(hx:x.Ok)(iP:∀l,Fh x=some l->k (.aM [br l,iv 0]) H)(cM:Fh x=none->k (.aM [br [],iv 11]) H):bk lv SC 32 H [x.av] k kp:=by
 refine bL (rs:=[.tmp 2,.tmp 3]) (nt:=27) Tryz.f32 λhH hA=> ?_;simp only[bt,SX,aj.av];have aR:=hx.dx;have bT:x.l=[iv x.first,iv x.hours,iv x.am,dP x.seen,aS x.pieces,aS x.aB]:=rfl;have rP:T1 5 x.l=[.sl x.aB.length (x.aB.flatMap aC.l) .shut]:=rfl;have aP:∀(L:List aa),(H++L)[H.length]?=L[0]?:=λL=>aW H L 0;have bz:x.l.length=6:=rfl;have ew:TU 6 x.l=x.l:=rfl;refine ak ?_;refine ai ?_;simp only[seval,aP,bz,ew];refine aI ((Js (x:=x) hx ?_));(try simp only[seval]);refine ai ?_;simp only[seval,show ((0:Int)!=0)=false from rfl];refine aD ?_;refine aN ?_;refine ai ?_;simp only[seval,aP,rP];refine aI ((ais (n:=x.aB.length) aR ?_));have iG:=(aaZ x.aB.length (by omega)).1;have fF:=λl hl=>amN (n:=x.aB.length) (by omega) (l:=l) hl;have wu:Fh x=(wQ x.aB.length).find? λl=>vZ (x.wo l):=rfl;generalize wQ x.aB.length=ls at iG fF wu⊢;have hp8:2^x.aB.length<=2^3:=Xj (by omega) aR;(try simp only[seval,zt]);refine cL ?_;refine iD ls.length (λi:Nat=>[(17,iv i)]) (λi=>H++[.cells x.l 26]) (λi=>∀j b,j<i->ls[j]?=some b->vZ (x.wo b)=false) (λ_ _=>rfl) (by simp only[seval];simp[bw,Wk.refl]) rfl (λ_ _ _=>by simp) (λj b hj=>by omega) (λb_ dj i cV au R hR=> ?_);clear b_ dj;refine ak ?_;refine aD ?_;refine⟨λh=> ?_,λh=> ?_⟩
 ·have bD:i<ls.length:=by omega
  obtain⟨l,hl⟩:=cD bD;have gZ:=fF l (wR hl);have gv:SE.wrap ((i:Int)+1)=((i+1:Nat):Int):=by rw[bG _ (by omega)];rfl
  refine aN ?_;refine ai ?_;simp only[seval,acL hl,j8 bD];refine ai ?_;simp only[seval,aP,bz,ew];refine aI ((Qj (x:=x) (ns:=l) aR gZ ?_));(try simp only[seval]);refine aI ((ait (x:=x.wo l) (hx.wo l) ?_));(try simp only[seval]);refine aD ?_;refine⟨λhc=> ?_,λhc=> ?_⟩
  ·refine ak ?_;refine bf ?_;exact jN (b:=.aM [br l,iv 0]) hH (HP (Wk.refl _) (Wk.refl _)) (by simp[jV,fe,yI]) (iP l (by rw[wu];exact Qr hl hc au))
  ·refine aN ?_;refine ai ?_;simp only[seval,gv];refine hR _ ⟨bD,λj b hj hb=> ?_,dn⟩;rcases YD j i with h'|h'
   ·exact au j b h' hb
   ·have:j=i:=(by omega);subst this;rw[hl]at hb;cases hb;simpa using hc
 ·have tH:i=ls.length:=by omega
  subst tH;refine cq ?_;refine ak ?_;refine bf ?_;exact jN (b:=.aM [br [],iv 11]) hH (HP (iz _ _ _) (Wk.refl _)) (by simp[jV,fe,yI]) (cM (by rw[wu];exact aiU λj b hb=>au j b (e_ hb) hb))
end
open Go.Conc
def behind (j:Nat)(o:Tu):Tu:={o with after:=o.after.push {on:=j,ground:=.data}}
def oD (ops:Array Tu)(i j:Nat):Array Tu:=ops.modify i (behind j)
theorem aeT(ops:Array Tu)(i j:Nat):(oD ops i j).size=ops.size:=by simp[oD]
theorem rA(ops:Array Tu)(i j k:Nat):(oD ops i j)[k]?=if i=k then(ops[k]?).map (behind j)else ops[k]?:=by
 unfold oD;rw[Wi]
theorem af0(j:Nat)(o:Tu):cX (behind j o)=cX o++[j]:=by
 unfold cX behind;simp only[Array.toList_push,List.filterMap_append];rfl
theorem acn{ops:Array Tu}{i j:Nat}{X l:List Nat}(h:mw ops X l):j∈X->mw (oD ops i j) X l:=by
 induction h with
 |nil X h=>exactλ_=> .nil X λk hk=>h k (by rwa [aeT]at hk)
 |cons o ho hn hd l_ ih=>
  rename_i X k l;intro hj;by_cases e:i=k
  ·exact .cons (behind j o) (by rw[rA,if_pos e,ho];rfl) hn (λq hq=>by
    rw[af0]at hq;rcases SV.1 hq with hq|hq
    ·exact hd q hq
    ·rw[S9.1 hq];exact hj) (ih (Tb _ hj))
  ·exact .cons o (by rw[rA,if_neg e];exact ho) hn hd (ih (Tb _ hj))
theorem ap6{ops:Array Tu}{i j:Nat}(kI:i≠j)(hi:i<ops.size){X l:List Nat}(h:mw ops X l):i∉X->j∉X->mw (oD ops i j) X l\/mw (oD ops j i) X l:=by
 induction h with
 |nil X h=>exactλh1 _=>absurd (h i hi) h1
 |cons o ho hn hd l_ ih=>
  rename_i X k l;intro h1 h2;by_cases e:k=i
  ·subst e;exact .inr (.cons o (by rw[rA,if_neg (Ne.symm kI)];exact ho) hn hd (acn l_ TB))
  ·by_cases e2:k=j
   ·subst e2;exact .inl (.cons o (by rw[rA,if_neg kI];exact ho) hn hd (acn l_ TB))
   ·rcases ih (λhm=>(SL.1 hm).elim (λx=>e x.symm) h1) (λhm=>(SL.1 hm).elim (λx=>e2 x.symm) h2)with q|q
    ·exact .inl (.cons o (by rw[rA,if_neg (Ne.symm e)];exact ho) hn hd q)
    ·exact .inr (.cons o (by rw[rA,if_neg (Ne.symm e2)];exact ho) hn hd q)
section
variable {lv:Bool}{P:SJ}{r:Option Nat}{ops:Array Tu}{nt:Nat}
theorem aeU(i j:Nat)(tmps:Array SQ):yielded (oD ops i j) tmps=yielded ops tmps:=by
 funext k;unfold yielded;rw[rA];by_cases e:i=k
 ·rw[if_pos e];cases ops[k]?<;>rfl
 ·rw[if_neg e]
theorem OM(i j:Nat)(Q:Ex->Act->View->Prop):∀l:List Nat,dz lv P r (oD ops i j) Q l=dz lv P r ops Q l
 |[]=>rfl
 |k::l=>by
  funext a V;have ih:=OM i j Q l;simp only[dz];rw[rA,aeU,ih];by_cases e:i=k
  ·rw[if_pos e];cases ho:ops[k]?with
   |none=>rfl
   |some o=>rfl
  ·rw[if_neg e]
theorem Iq(i j:Nat)(Hf:List Nat->List aa)(K:AS->Prop)(t:Bs K):∀(pl:List rn)(s:AS),gG lv P Hf (oD ops i j) pl s K t=gG lv P Hf ops pl s K t
 |[],_=>rfl
 |⟨k,false,_,l⟩::rest,s=>by
  have ih:=Iq i j Hf K t rest;simp only[gG,rA];have e:∀o,ao (some o) (λo=>AQ lv P s o λav=>BQ lv P Hf s.T o av l/\gG lv P Hf (oD ops i j) rest (s.put o.dst av) K t)=ao (some o) (λo=>AQ lv P s o λav=>BQ lv P Hf s.T o av l/\gG lv P Hf ops rest (s.put o.dst av) K t):=λo=>by
   simp only[ao,ih]
  have bq:∀(o:Tu) av,BQ lv P Hf s.T (behind j o) av l=BQ lv P Hf s.T o av l:=λo av=>by
   induction l with
   |nil=>rfl
   |cons p l lM=>exact congrArg (λx=>_/\x) (lM λo=>by simp only[ao,ih])
  split
  ·cases ops[k]?with
   |none=>rfl
   |some o=>
    simp only[UO,ao,ih,bq];rfl
  ·cases ops[k]?with
   |none=>rfl
   |some o=>exact e o
 |⟨k,true,D,l⟩::rest,s=>by
  have ih:=Iq i j Hf K t rest;simp only[gG,rA];have be:∀(o:Tu) av,BE lv P Hf s.T (behind j o) av l=BE lv P Hf s.T o av l:=λo av=>by
   induction l with
   |nil=>rfl
   |cons p l lM=>exact congrArg (λx=>_/\x) lM
  split
  ·cases ops[k]?with
   |none=>rfl
   |some o=>
    simp only[UO,ao,ih,be];rfl
  ·cases ops[k]?with
   |none=>rfl
   |some o=>simp only[ao,ih]
theorem ag4{es ord:List Nat}(au:rF nt ops es ord=true)(t:Nat):mw ops [] (UF .any ops ops.size t (TK ops.size false) []):=by
 have au:=rF.out au;obtain⟨wB,_,hlt⟩:=D6 au.top;have ready:∀(ord X:List Nat),kN ops X ord=true->∀A i B,ord=A++i::B->∃o,ops[i]?=some o/\∀j∈cX o,j∈A\/j∈X:=by
  intro ord;induction ord with
  |nil=>intro X _ A i B e;cases A<;>cases e
  |cons x l ih=>
   intro X oc A i B e;simp only[kN,Ti,TZ,Uq,decide_eq_false_iff_not]at oc;obtain⟨⟨h1,h2⟩,h3⟩:=oc;cases A with
   |nil=>
    have e1:x=i:=(by have:=congrArg List.head? e;simpa using this);rw[e1]at h2;cases ho:ops[i]?with
    |none=>rw[ho]at h2;cases h2
    |some o=>
     rw[ho]at h2;exact⟨o,rfl,λj hj=> .inr (by have:=Tv.1 h2 j hj;simpa using this)⟩
   |cons y A=>
    cases e;obtain⟨o,ho,hb⟩:=ih (x::X) h3 A i B rfl;refine⟨o,ho,λj hj=> ?_⟩;rcases hb j hj with h|h
    ·exact .inl (Tb _ h)
    ·rcases SL.1 h with rfl|h
     ·exact .inl (TB ..)
     ·exact .inr h
 exact My (ops:=ops) (λi o ho j hj=>by
   obtain⟨A,B,e⟩:=List.append_of_mem (au.full i (SU.1 ho).1);obtain⟨o',bc,hb⟩:=ready ord [] au.top A i B e;rw[ho]at bc;cases bc;rcases hb j hj with h|h
   ·exact hlt j (by rw[e];exact Tf _ h)
   ·cases h)
  (λX ⟨i,hi,hn⟩=>by
   obtain⟨A,i',B,e,h1,h2⟩:=JB (X:=X) ⟨i,au.full i hi,hn⟩;obtain⟨o',bc,hb⟩:=ready ord [] au.top A i' B e;refine⟨i',o',bc,h1,λj hj=> ?_⟩;rcases hb j hj with h|h
   ·exact h2 j h
   ·cases h)
  ops.size t (TK ops.size false) [] ⟨by simp,λi hi=>by simp[hi]⟩ (UL Y1 (by simp))
end
inductive sL (ops:Array Tu):Array Tu->Prop
 |base:sL ops ops
 |add {o:Array Tu} (h:sL ops o) (i j:Nat):sL ops (oD o i j)
section
variable {lv:Bool}{P:SJ}{r:Option Nat}{ops o:Array Tu}{nt:Nat}{s:AS}{Φ:an->AS->Prop}
theorem sL.wp(h:sL ops o)(Q:Ex->Act->View->Prop)(l:List Nat):dz lv P r o Q l=dz lv P r ops Q l:=by
 induction h with
 |base=>rfl
 |add _ i j ih=>rw[OM,ih]
theorem sL.Pl(h:sL ops o)(Hf:List Nat->List aa)(K:AS->Prop)(t:Bs K)(pl:List rn)(s:AS):gG lv P Hf o pl s K t=gG lv P Hf ops pl s K t:=by
 induction h with
 |base=>rfl
 |add _ i j ih=>rw[Iq,ih]
def DG (lv:Bool)(P:SJ)(r:Option Nat)(nt:Nat)(ops o:Array Tu)(s:AS)(Φ:an->AS->Prop):Prop:=
 ∀l E V a Q,mw o [] l->At E V s a nt->(∀ae e E' V' a' s',Kept E E' V V' a a'->At E' V' s' a' nt->qh E' ae e->Φ ae s'->Q e a' V')->dz lv P r ops Q l a V
theorem rE(i j:Nat)(kI:(i !=j&&decide (i<o.size))=true)(h1:DG lv P r nt ops (oD o i j) s Φ)(h2:DG lv P r nt ops (oD o j i) s Φ):DG lv P r nt ops o s Φ:=λl E V a Q hs ah hQ=>by
 rw[Ti,bne_iff_ne,decide_eq_true_eq]at kI;rcases ap6 kI.1 kI.2 hs (by simp) (by simp)with hs|hs
 ·exact h1 l E V a Q hs ah hQ
 ·exact h2 l E V a Q hs ah hQ
theorem afA{id:Nat}(es ord:List Nat)(hm:P.follows .mixedOrders=true)(au:rF nt ops es ord=true)(h:DG lv P r nt ops ops s Φ):aQ lv P r nt (.region id ops true) s Φ:=by
 intro E V a Q ah hQ;refine Oe λt=> ?_;rw[show VN (P.follows .mixedOrders) ops t=UF .any ops ops.size t (TK ops.size false) [] by unfold VN;rw[hm];simp[Y_]];exact h _ E V a Q (ag4 au t) ah hQ
end
def GP (lv:Bool)(P:SJ)(o:Tu)(s:AS)(next:AS->Prop):Prop:=match o.op with
 |.call c=>match c.callee with
  |.value x=>ao (s.ev x) λs8=>ao (fD s c.args.toList) λaE=>Bj lv P s8 s.H aE (λb H'=>next ((⟨s.T,H'⟩:AS).put o.dst b)) (λ_ _=>False) ⟨0⟩
  |_=>False
 |_=>False
def aba (ops:Array Tu)(A B:List Nat)(m:Nat):Bool:=
 let cl:=gX ops (A++m::B) []
 A.all (λi=>(nO cl m).contains i)&&B.all λi=>(nO cl i).contains m
theorem sL.get{ops o:Array Tu}(h:sL ops o){m:Nat}{om:Tu}(hm:ops[m]?=some om):∃p9,o[m]?=some p9/\p9.op=om.op/\p9.dst=om.dst:=by
 induction h with
 |base=>exact⟨om,hm,rfl,rfl⟩
 |add _ i j ih=>
  obtain⟨q,h1,h2,h3⟩:=ih;rw[rA];split
  ·exact⟨behind j q,by rw[h1];rfl,h2,h3⟩
  ·exact⟨q,h1,h2,h3⟩
section
variable {lv:Bool}{P:SJ}{r:Option Nat}{ops o:Array Tu}{Hf:List Nat->List aa}{T0:List (Nat×AV)}{es ord:List Nat}{nt:Nat}{s:AS}{Φ:an->AS->Prop}
theorem PU{f:Nat->AV}(au:zg nt ops ord)(G:List Nat)(ay:∀i∈G,∀o,ops[i]?=some o->∀X',lq ops X'->i∉X'->(∀j∈cX o,j∈X')->OB lv P r ops Hf T0 es f i o X'){X l:List Nat}(hs:mw ops X l):
  (∀i∈X,i<ops.size)->lq ops X->∀(E:Env)(V:View)(a:Act)(Q:Ex->Act->View->Prop),At E V ⟨TX ops T0 f X,Hf (done es X)⟩ a nt->
   (∀E' V' a' X' l',Kept E E' V V' a a'->At E' V' ⟨TX ops T0 f X',Hf (done es X')⟩ a' nt->(∀i∈X',i<ops.size)->lq ops X'->(∀i∈X',i∈X\/i∈G)->(∀i∈X,i∈X')->mw ops X' l'->(∀i yF,l'=i::yF->i∉G)->dz lv P r ops Q l' a' V')->dz lv P r ops Q l a V:=by
 induction hs with
 |nil X h=>
  intro hX hc E V a Q ah hQ;exact hQ E V a X [] (Kept.refl E V a) ah hX hc (λi hi=> .inl hi) (λi hi=>hi) (.nil X h) (λi yF e=>by cases e)
 |cons o ho hn hd l_ ih=>
  rename_i X i l;intro hX hc E V a Q ah hQ;by_cases hG:i∈G
  ·have hi:i<ops.size:=(SU.1 ho).1;simp only[dz,ho];have oN:∀k∈i::X,k<ops.size:=λk hk=>(SL.1 hk).elim (λe=>by rw[e];exact hi) (hX k);have bi:=hc.cons ho hd;have hw:Tg o (yielded ops a.tmps)=true:=(by unfold Tg;rw[au.Ci i o ho]);rw[if_pos hw];refine .inl ?_;have dB:∀d,o.dst=some d->d<a.tmps.size:=λd e=>(by rw[ah.size];exact au.dst i o d ho e);have l9:=ay i hG o ho X hc hn hd;have mc:∀{m_:List Nat},(∀j∈m_,j∈i::X\/j∈G)->∀j∈m_,j∈X\/j∈G:=λh j hj=>by
    rcases h j hj with h|h
    ·rcases SL.1 h with rfl|h
     ·exact .inr hG
     ·exact .inl h
    ·exact .inr h
   unfold OB at l9;by_cases dF:i∈es
   ·rw[if_pos dF]at l9;have aR:=l9.step (r:=r) (bad:=λ_ _=>False);refine aR E V a _ Q ah.bu ah.tok dB (.inr (au.v4 i o ho)) (λE' V' a' s' hk cU ht e=> ?_) λ_ _ _ _ _ _ _ _ _ h=>h.elim;subst e;rw[xu ho rfl]at ht cU;exact ih oN bi E' V' a' Q ⟨cU,ht,hk.size.trans ah.size⟩ λbW aT cx m_ yF aJ dt w1 w2 w3 w4=>hQ bW aT cx m_ yF (hk.trans aJ) dt w1 w2 (mc w3) (λj hj=>w4 j (Tb _ hj))
   ·rw[if_neg dF]at l9;obtain⟨T,hT,hq⟩:=l9;refine hq E V a _ Q ah.bu (λt av e=>ah.tok t av (hT t av e)) (.inr (au.v4 i o ho)) λE' V' v hle cp fy cU hv=> ?_;have ht:cw E' ((⟨TX ops T0 f X,Hf (done es X)⟩:AS).put o.dst (f i)).T (a.put o.dst v).tmps:=cw.iu (s:=⟨TX ops T0 f X,Hf (done es X)⟩) (ah.tok.mono hle) dB hv;rw[xu ho rfl]at ht;refine ih oN bi E' V' (a.put o.dst v) Q ⟨by rw[I7 dF];exact cU,ht,(ey _ _ _).trans ah.size⟩ λbW aT cx m_ yF hk dt w1 w2 w3 w4=>
     hQ bW aT cx m_ yF ⟨hle.trans hk.le,hk.size.trans (ey _ _ _),hk.defers.trans (put_defers _ _ _),hk.role.trans cp,hk.deaf.trans fy⟩ dt w1 w2 (mc w3) (λj hj=>w4 j (Tb _ hj))
  ·exact hQ E V a X (i::l) (Kept.refl E V a) ah hX hc (λi hi=> .inl hi) (λi hi=>hi) (.cons o ho hn hd l_) (λj yF e=>by cases e;exact hG)
theorem adr{ops:Array Tu}:∀{A L X:List Nat},kN ops X (A++L)=true->kN ops X A=true/\kN ops (A.reverse++X) L=true
 |[],L,X,h=>⟨rfl,h⟩
 |i::A,L,X,h=>by
  rw[Ve,kN,Ti]at h;obtain⟨h1,h2⟩:=adr h.2;refine⟨by rw[kN,Ti];exact⟨h.1,h1⟩,?_⟩;rw[Zg,SA];exact h2
theorem ads{ops:Array Tu}:∀{A X:List Nat},kN ops X A=true->lq ops X->lq ops (A.reverse++X)
 |[],X,h,hX=>hX
 |i::A,X,h,hX=>by
  have oc:=h;simp only[kN,Ti,TZ,Uq,decide_eq_false_iff_not]at oc;obtain⟨⟨hi,h2⟩,h3⟩:=oc;cases ho:ops[i]?with
  |none=>rw[ho]at h2;cases h2
  |some o=>
   rw[ho]at h2;have hd:∀j∈cX o,j∈X:=λj hj=>(by have:=Tv.1 h2 j hj;simpa using this);have:=ads h3 (hX.cons ho hd);rw[Zg,SA];exact this
def Bw (lv:Bool)(P:SJ)(ops:Array Tu)(m:Nat)(Hk:List rn)(Φ:an->AS->Prop)(s1:AS):Prop:=ao (ops[m]?) λom=>GP lv P om s1 λs2=>∃ow:List Nat->List aa,s2.H=ow []/\gG lv P ow ops Hk s2 (Φ .normal) ⟨0⟩
theorem qu(ha:sL ops o)(m:Nat)(A B py nN:List Nat)(pl1 Hk:List rn)(pi:List Nat->List aa)(au:rF nt o [] (A++m::B)=true)(FM:aba o A B m=true)(ak2:qV (gX o (A++m::B) []) py [] A=pl1)(ak3:qV (gX o (A++m::B) []) nN (m::A.reverse) B=Hk)(akp:nN.all B.contains=true)(h0:s.H=pi [])
  (h:gG lv P pi ops pl1 s (Bw lv P ops m Hk Φ) ⟨0⟩):DG lv P r nt ops o s Φ:=λl E V a Q hs ah hQ=>by
 subst ak2 ak3;rw[<- ha.wp];rw[<- ha.Pl]at h;have au:=rF.out au;obtain⟨wB,_,hlt⟩:=D6 au.top;obtain⟨tA,tB⟩:=adr au.top;rw[SI]at tB;have tB':kN o (m::A.reverse) B=true:=by
  rw[kN,Ti]at tB;exact tB.2
 unfold aba at FM;dsimp only at FM;rw[Ti,Tv,Tv]at FM;obtain⟨cA,cB⟩:=FM;have Si:m∉A:=λhm=>(U4.1 wB).2.2 m hm m (by simp) rfl;have hmB:m∉B:=(VH.1 (U4.1 wB).2.1).1;have QW:∀i∈B,i∉A:=λi hi hA=>(U4.1 wB).2.2 i hA i (by simp[hi]) rfl;have cH:s=⟨TX o s.T (λ_=> .val undef) [],pi (done py [])⟩:=by
  have:done py []=[]:=by simp[done]
  rw[this,<- h0];rfl
 have h':gG lv P pi o (qV (gX o (A++m::B) []) py [] A) ⟨TX o s.T (λ_=> .val undef) [],pi (done py [])⟩ (Bw lv P ops m (qV (gX o (A++m::B) []) nN (m::A.reverse) B) Φ) ⟨0⟩:=by rw[<- cH];exact h
 obtain⟨f,_,q2,q3⟩:=BX (r:=r) au A [] _ tA (λi hi=>by cases hi) h';have tw:At E V ⟨TX o s.T f [],pi (done py [])⟩ a nt:=by
  have e:(⟨TX o s.T f [],pi (done py [])⟩:AS)=s:=cH.symm;rw[e];exact ah
 refine PU (Hf:=pi) (es:=py) au A q2 hs (by simp) (λi hi=>by cases hi) E V a Q tw λE1 V1 a1 X1 l1 iP we hX1 dA LB _ dN Ge=> ?_;have Sj:m∉X1:=λhm=>by
  rcases LB m hm with h|h
  ·cases h
  ·exact Si h
 cases dN with
 |nil _ fW=>exact absurd (fW m (hlt m (by simp))) Sj
 |@cons _ i l2 p9 ho hn hd l_=>
  have hi:i<o.size:=(SU.1 ho).1;have hiA:i∉A:=Ge i l2 rfl;have l7:i=m:=by
   rcases SV.1 (au.full i hi)with h|h
   ·exact absurd h hiA
   ·rcases SL.1 h with h|h
    ·exact h
    ·have:=cB i h;have hr:m∈nO (gX o (A++m::B) []) i:=(by simpa using this);exact absurd (AZ dA (zE hr) λo' bc k hk=>by rw[ho]at bc;cases bc;exact hd k hk) Sj
  subst l7;have QX:∀j∈A,j∈X1:=λj hj=>by
   have:=cA j hj;have hr:j∈nO (gX o (A++i::B) []) i:=(by simpa using this);exact AZ dA (zE hr) λo' bc k hk=>by rw[ho]at bc;cases bc;exact hd k hk
  have K4:∀j,j∈X1<->j∈A.reverse++[]:=λj=>by
   rw[SI,XG];exact⟨λh=>(LB j h).elim (λh=>by cases h) id,QX j⟩
  have Kh:At E1 V1 ⟨TX o s.T f (A.reverse++[]),pi (done py (A.reverse++[]))⟩ a1 nt:=by
   refine⟨?_,λt x e=> ?_,we.size⟩
   ·rw[<- EZ K4];exact we.bu
   ·rw[<- EB au K4]at e;exact we.tok t x e
  simp only[dz,ho];have hw:Tg p9 (yielded o a1.tmps)=true:=by unfold Tg;rw[au.Ci i p9 ho]
  rw[if_pos hw];refine .inl ?_;have dB:∀d,p9.dst=some d->d<a1.tmps.size:=λd e=>by rw[we.size];exact au.dst i p9 d ho e
  unfold Bw at q3;obtain⟨om,hom,q3⟩:=q3.out;obtain⟨om2,g1,g2,g3⟩:=ha.get hom;rw[ho]at g1;cases g1;unfold GP at q3;obtain⟨c,x,aj6,ajV,q4⟩:∃c x,om.op=.call c/\c.callee=.value x/\ao ((⟨TX o s.T f (A.reverse++[]),pi (done py (A.reverse++[]))⟩:AS).ev x) λs8=>ao (fD ⟨TX o s.T f (A.reverse++[]),pi (done py (A.reverse++[]))⟩ c.args.toList) λaE=>Bj lv P s8 (pi (done py (A.reverse++[]))) aE (λb H'=>∃ow:List Nat->List aa,((⟨TX o s.T f (A.reverse++[]),H'⟩:AS).put om.dst b).H=ow []/\gG lv P ow ops (qV (gX o (A++i::B) []) nN (i::A.reverse) B) ((⟨TX o s.T f (A.reverse++[]),H'⟩:AS).put om.dst b) (Φ .normal) ⟨0⟩) (λ_ _=>False) ⟨0⟩:=by
   split at q3
   ·rename_i c hc;split at q3
    ·rename_i x hx;exact⟨c,x,hc,hx,q3⟩
    ·exact q3.elim
   ·exact q3.elim
  obtain⟨s8,e1,q5⟩:=q4.out;obtain⟨aE,e2,q6⟩:=q5.out;have lJ:=NS (lv:=lv) (P:=P) (r:=r) (o:=p9) (s:=⟨TX o s.T f (A.reverse++[]),pi (done py (A.reverse++[]))⟩) (next:=λs2=>∃av H' ow,s2=(⟨TX o s.T f (A.reverse++[]),H'⟩:AS).put p9.dst av/\H'=ow []/\gG lv P ow ops (qV (gX o (A++i::B) []) nN (i::A.reverse) B) s2 (Φ .normal) ⟨0⟩) (bad:=λ_ _=>False) (g2.trans aj6) ajV e1 e2 (jo.mono q6 (λav H'=>by
    rintro⟨ow,w1,w2⟩
    rw[<- g3]at w1 w2;refine⟨av,H',ow,rfl,?_,w2⟩;rw[<- w1];cases p9.dst<;>rfl) (λ_ _ h=>h))
  refine lJ E1 V1 a1 _ Q Kh.bu Kh.tok dB (.inr (au.v4 i p9 ho)) (λE2 V2 a2 s2 cM cU yq e=> ?_) λ_ _ _ _ _ _ _ _ _ h=>h.elim;obtain⟨av,H',ow,rfl,hH',hb⟩:=e;obtain⟨f',RM⟩:∃f':Nat->AV,f'=λj=>if j=i then av else f j:=⟨_,rfl⟩;have hff:∀j∈A.reverse++[],f j=f' j:=λj hj=>by
   have:j≠i:=λe=>Si (by subst e;simpa using hj);rw[RM];simp[this]
  have hp:(⟨TX o s.T f (A.reverse++[]),H'⟩:AS).put p9.dst av=⟨TX o s.T f' (i::A.reverse),ow (done nN (i::A.reverse))⟩:=by
   have pF:done nN (i::A.reverse)=[]:=by
    unfold done;rw[Yx];intro j hj;have:=Tv.1 akp j hj;have FX:j∈B:=(by simpa using this);have h1:j≠i:=λe=>hmB (e▸FX);have h2:=QW j FX;simp[h1,h2]
   rw[BD hff,xu ho (by rw[RM];simp),pF,hH',SI]
  rw[hp]at hb cU yq;rw[<- ha.Pl]at hb;have aj1:lq o (i::A.reverse):=by
   have h1:=ads tA (X:=[]) (λi hi=>by cases hi);rw[SI]at h1;exact h1.cons ho λj hj=>by
    have:=LB j (hd j hj);simpa using this
  obtain⟨f2,p1,p2,p3⟩:=BX (r:=r) au B (i::A.reverse) f' tB' aj1 hb;have Sl:∀j,j∈i::X1<->j∈i::A.reverse:=λj=>by
   have:=K4 j;rw[SI]at this;rw[SL,SL,this]
  have uK:At E2 V2 ⟨TX o s.T f2 (i::X1),ow (done nN (i::X1))⟩ a2 nt:=by
   refine⟨?_,λt x e=> ?_,cM.size.trans Kh.size⟩
   ·rw[EZ Sl];exact cU
   ·rw[EB au Sl,BD p1]at e;exact yq t x e
  refine PU (Hf:=ow) (es:=nN) au B p2 l_ (λk hk=>(SL.1 hk).elim (λe=>by rw[e];exact hi) (hX1 k)) (dA.cons ho hd) E2 V2 a2 Q uK λE3 V3 a3 X3 l3 wz qA hX3 d_ atD Sq pS alx=> ?_;cases pS with
  |cons o3 Lb K7 Ae atC=>
   rename_i j l4;exfalso;have hj:j<o.size:=(SU.1 Lb).1;have FX:=alx j l4 rfl;rcases SV.1 (au.full j hj)with h|h
   ·exact K7 (Sq j (Tb _ (QX j h)))
   ·rcases SL.1 h with rfl|h
    ·exact K7 (Sq j (TB ..))
    ·exact FX h
  |nil _ fW=>
   have Sm:∀j,j∈X3<->j∈B.reverse++i::A.reverse:=λj=>by
    rw[SV,SL,XG,XG];constructor
    ·intro h;have:=SV.1 (au.full j (hX3 j h));rw[SL]at this;rcases this with h|h|h
     ·exact .inr (.inr h)
     ·exact .inr (.inl h)
     ·exact .inl h
    ·intro h;refine fW j (hlt j ?_);rw[SV,SL];rcases h with h|h|h
     ·exact .inr (.inr h)
     ·exact .inr (.inl h)
     ·exact .inl h
   refine hQ .normal .normal E3 V3 a3 _ ((iP.trans cM).trans wz) ⟨?_,λt x e=> ?_,qA.size⟩ trivial p3
   ·rw[<- EZ Sm];exact qA.bu
   ·rw[<- EB au Sm]at e;exact qA.tok t x e
end
theorem anj:type_of% @GP.eq_1:=by intros;rw[GP.eq_1]
theorem ank:type_of% @Bw.eq_1:=by intros;rw[Bw.eq_1]
attribute [seval] anj ank
open Go.Proofs Go.Gg.Tk
theorem abX{x:aj}{q:Nat}(hq:q<x.pieces.length):mS x [(q:Int)]=true:=by
 unfold mS;simp;omega
theorem agT{lv:Bool}{P:SJ}{r:Option Nat}{nt:Nat}{ops:Array Tu}{s:AS}{Φ:an->AS->Prop}{α:Type}{ok:α->Prop}(st:α->AS)(rest:∀x,ok x->Φ .normal (st x))(h:(∀x,ok x->Φ .normal (st x))->DG lv P r nt ops ops s Φ):DG lv P r nt ops ops s Φ:=h rest
theorem q_{T V:List (Nat×AV)}{H H':List aa}(hH:H=H')(hv:∀p∈V,∃b,look T p.1=some b/\Wk b p.2):(⟨T,H⟩:AS).Sub ⟨V,H'⟩:=
 ⟨λt a e=>hv (t,a) (oX e),hH⟩
section
variable {lv:Bool}{H:List aa}{k kp:AV->List aa->Prop}
theorem aig{x:aj}{q:Nat}(hx:x.Ok)(hq:q<x.pieces.length)(hm:H[0]?=some .main)(hk:∀D,ez x 1 D->(D.has=false->k (.aM [br [],iv 11]) H)/\(D.has=true->k (.aM [br (gg (D.aA.getD q 0) x.first 16),iv 0]) H)):bk true SC 34 H [x.av,iv q] k kp:=by
 refine bL (rs:=[.tmp 4,.tmp 5]) (nt:=29) Tryz.f34 λhH hA=> ?_;simp only[bt,SX,aj.av];have hp:=hx.am;have oV:=hx.eN;have jy:=abX hq;obtain⟨p,dQ⟩:∃p:Nat,x.am=p:=⟨x.am.toNat,by omega⟩;have bT:x.l=[iv x.first,iv x.hours,iv x.am,dP x.seen,aS x.pieces,aS x.aB]:=rfl;have bY:∀(L:List aa)(j:Nat),(H++L)[H.length+j]?=L[j]?:=λL j=>aW H L j;have kq:∀(L:List aa)(j:Nat)(y:aa),(H++L).set (H.length+j) y=H++L.set j y:=λL j y=>cY H L j y;have aP:∀(L:List aa),(H++L)[H.length]?=L[0]?:=λL=>aW H L 0;have bz:x.l.length=6:=rfl;have nP:(1<=2^24)=True:=eq_true (by decide);have ew:TU 6 x.l=x.l:=rfl;obtain⟨u0,hu⟩:∃u0:List AV,u0=[.val (.int .i64 0),.val (.int .i64 0),.val (.int .i64 0),.sl 0 [] .exact,.sl 0 [] .exact,.sl 0 [] .exact]:=⟨_,rfl⟩;obtain⟨v0,hv⟩:∃v0:List AV,v0=[.val (.bool false),.val (.map none),.val (.int .u16 0),.val (.int .u16 0),.val (.int .u16 0),.val (.int .u16 0),.val (.int .u16 0),.val (.int .u16 0),.val (.int .u16 0),.val (.int .u16 0),.val (.int .u16 0),.val (.int .u16 0),.val (.int .u16 0),.val (.int .u16 0),.val (.int .u16 0),.val (.int .u16 0),.val (.int .u16 0),.val (.int .i64 0),.val (.int .i64 0),.val (.int .i64 0),.val (.int .i64 0),.val (.int .i64 0),.val (.int .i64 0),.val (.int .i64 0),.val (.int .i64 0),.val (.int .i64 0),.val (.int .i64 0),.val (.int .i64 0)]:=⟨_,rfl⟩;have dO:=hu.symm;have db:=hv.symm;have iI:u0.length=6:=by rw[hu];rfl
 have iS:v0.length=28:=by rw[hv];rfl
 have jA:T1 6 u0=[]:=by rw[hu];rfl
 have gC:T1 28 v0=[]:=by rw[hv];rfl
 refine ak ?_;(repeat apply iY);refine afA [4,10,11,12,13] [0,1,2,3,4,5,6,7,8,9,10,11,12,13,14] F.mixed (by kernel_rfl) ?_;refine agT (α:=Nat×Nat×Kn×List aa) (ok:=λy=>ez x 1 y.2.2.1/\bS y.2.2.1/\(∃L,y.2.2.2=H++L)/\y.2.2.2[H.length]?=some (.cells x.l 26)/\y.2.2.2[y.1]?=some (.cells (y.2.2.1.l y.2.1) 88)) (λy=>⟨[(7,.op y.1 0),(8,iv (fS y.2.2.1)),(1,iv q),(2,.op H.length 0)],y.2.2.2⟩) (λy hy=> ?_) (λrest=> ?_)
 ·obtain⟨i,mp,D,G⟩:=y;obtain⟨fb,bF,⟨L0,hG⟩,Q6,Q4⟩:=hy;dsimp only at hG Q6 Q4;obtain⟨iP,cM⟩:=hk D fb;have fY:∀(ns:List Int)(e:End)(m:Int),k (.aM [br ns,iv m]) H->cK H.length G (.aM [.sl ns.length (ns.map iv) e,iv m]) k:=λns e m h=>by
   rw[hG];exact jN hH (HP (iz _ _ _) (Wk.refl _)) (by simp[jV,fe,br,vq]) h
  (try simp only[seval]);cases je:D.has with
  |false=>
   have hE:fS D=11:=(by rw[fS,je];rfl);refine ai ?_;simp only[seval,hE,show ((11:Int)!=0)=true from rfl];refine aD ?_;refine ak ?_;refine bf ?_;exact fY [] .exact 11 (iP je)
  |true=>
   have hE:fS D=0:=(by rw[fS,je];rfl);have cM:=cM je;obtain⟨u,hu⟩:=cD (xs:=D.aA) (i:=q) (by rw[bF.aA];omega);have lu:=bF.mQ _ (Td hu);have ku:D.aA.getD q 0=u:=(by rw[SD,hu];rfl);rw[ku]at cM;have b3:(0<=(q:Int)/\(q:Int)<4)=True:=(by simp;omega);have CF:=Kn.GY (mp:=mp) hu;have jR:=hx.first;refine ai ?_;simp only[seval,hE,show ((0:Int)!=0)=false from rfl];refine aD ?_;refine aN ?_;refine eU 6 ?_;simp only[seval,Q6,Q4,b3,CF,bT];refine aI ((Jr lu (by omega) ?_));(try simp only[seval]);refine bf ?_;exact fY _ _ 0 cM
 ·refine rE 5 10 rfl ?_ ?_
  ·refine rE 5 11 rfl ?_ ?_
   ·refine rE 4 10 rfl ?_ ?_
    ·refine rE 4 11 rfl ?_ ?_
     ·refine rE 10 11 rfl ?_ ?_
      ·refine qu (.add (.add (.add (.add (.add .base 5 10) 5 11) 4 10) 4 11) 10 11) 5 [0,1,2,3,11,10,4] [6,7,8,9,12,13,14] [11,10,4] [12,13] [⟨0,false,[],[([11],[11]),([11,10],[11,10]),([11,10,4],[11,10,4])]⟩,⟨1,false,[],[([11],[11]),([11,10],[11,10])]⟩,⟨2,false,[],[([11],[11]),([11,10],[11,10])]⟩,⟨3,false,[],[([11],[11]),([11,10],[11,10])]⟩,⟨11,true,[11],[]⟩,⟨10,true,[11,10],[]⟩,⟨4,true,[11,10,4],[]⟩] [⟨6,false,[],[]⟩,⟨7,false,[],[]⟩,⟨8,false,[],[([12],[12])]⟩,⟨9,false,[],[([12],[12]),([12,13],[12,13])]⟩,⟨12,true,[12],[]⟩,⟨13,true,[12,13],[]⟩,⟨14,false,[12,13],[]⟩] (λD=>bif isDone 4 D then H++[.cells x.l 26,.cells v0 88,.cells u0 76,.cells x.l 26,.cells [.sl 1 [iv q] .exact] 22]else bif isDone 10 D then H++[.cells x.l 26,.cells v0 88,.cells u0 76]else bif isDone 11 D then H++[.cells x.l 26,.cells v0 88]else H++[.cells x.l 26]) (by kernel_rfl) (by kernel_rfl) (by kernel_rfl) (by kernel_rfl) (by kernel_rfl) (by first|rfl|simp only[seval]) ?_;(try simp only[seval,z1,ew,nP,and_self,aP,dO,db,bz,SP]);refine kA _ _ (bX (oH (x:=x) (ns:=[(q:Int)]) ⟨rfl,rfl⟩)) ?_;(try simp only[seval,aP,dO,db,bz,SP,SA]);refine aI ((mC (x:=x) (b:=mS x [(q:Int)]) hx dQ (eI hm) (λL k kp hk=>bX (oI (x:=x) (ns:=[(q:Int)]) (e:=.exact) (il:=H.length+4) (ir:=H.length+3) hx (by simp) (by rw[SA,bY];rfl) (by rw[SA,bY];rfl) hk)) (λh=>by rw[jy]at h;cases h) λ_ js D L mp dM dW bF kJ hg=> ?_));have fb:ez x 1 D:=⟨p,js,dQ,dM,dW,bF⟩;have cg:=Kn.len bF mp;have ek:=lg D mp;obtain⟨N,hN⟩:∃N,N=H.length+5+L.length:=⟨_,rfl⟩;obtain⟨Bf,aU⟩:∃Bf:List AV->List AV->List aa,∀u v,Bf u v=H++([.cells x.l 26,.cells v 88,.cells u 76,.cells x.l 26,.cells [.sl 1 [iv q] .exact] 22]++L):=⟨_,λ_ _=>rfl⟩;have dT:H++[.cells x.l 26,.cells v0 88,.cells u0 76,.cells x.l 26,.cells [.sl 1 [iv q] .exact] 22]++L=Bf u0 v0:=(by rw[aU,SA]);have bA:∀u v,(Bf u v).length=N:=λu v=>(by rw[aU,hN];simp;omega);have bn:∀u v (L':List aa)(j:Nat),(Bf u v++L')[N+j]?=L'[j]?:=λu v L' j=>(by rw[<- bA u v,aW]);have dZ:∀u v (L':List aa)(j:Nat)(y:aa),(Bf u v++L').set (N+j) y=Bf u v++L'.set j y:=λu v L' j y=>(by rw[<- bA u v,cY]);have fi:∀u v (L':List aa),(Bf u v++L')[N]?=L'[0]?:=λu v L'=>bn u v L' 0;have fj:∀u v (L':List aa)(y:aa),(Bf u v++L').set N y=Bf u v++L'.set 0 y:=λu v L' y=>dZ u v L' 0 y;have eA:∀u v (L':List aa),(Bf u v++L')[N+1]?=L'[1]?:=λu v L'=>bn u v L' 1;have fq:∀u v (L':List aa)(y:aa),(Bf u v++L').set (N+1) y=Bf u v++L'.set 1 y:=λu v L' y=>dZ u v L' 1 y;have gr:∀u v (L':List aa),(Bf u v++L')[H.length+2]?=some (.cells u 76):=λu v L'=>(by rw[aU,SA,bY];rfl);have gE:∀u v w (L':List aa),(Bf u v++L').set (H.length+2) (.cells w 76)=Bf w v++L':=λu v w L'=>(by rw[aU,aU,SA H,SA H,kq];rfl);have jP:∀u v,(Bf u v)[H.length+2]?=some (.cells u 76):=λu v=>(by have:=gr u v [];rwa [SI]at this);have jX:∀u v w,(Bf u v).set (H.length+2) (.cells w 76)=Bf w v:=λu v w=>(by have:=gE u v w [];rwa [SI,SI]at this);have gu:∀u v (L':List aa),(Bf u v++L')[H.length+1]?=some (.cells v 88):=λu v L'=>(by rw[aU,SA,bY];rfl);have gF:∀u v w (L':List aa),(Bf u v++L').set (H.length+1) (.cells w 88)=Bf u w++L':=λu v w L'=>(by rw[aU,aU,SA H,SA H,kq];rfl);have jQ:∀u v,(Bf u v)[H.length+1]?=some (.cells v 88):=λu v=>(by have:=gu u v [];rwa [SI]at this);have jY:∀u v w,(Bf u v).set (H.length+1) (.cells w 88)=Bf u w:=λu v w=>(by have:=gF u v w [];rwa [SI,SI]at this);rw[dT];clear dT hg;refine⟨λDD=>bif isDone 13 DD then(Bf x.l (D.l mp))else bif isDone 12 DD then(Bf x.l v0)else Bf u0 v0,by first|rfl|simp only[seval],?_⟩;try simp only[seval,dO,db,bA,fi,fj,eA,fq,bz,cg,iI,iS,jA,gC,aj.av,gr,gE,jP,jX,gu,gF,jQ,jY]
       first|refine⟨kM x,ek,?_⟩|trace_state
       have hR:=rest (H.length+1,mp,D,(Bf x.l (D.l mp))) ⟨fb,bF,⟨_,by rw[aU]⟩,by rw[aU];exact aW H _ 0,by simp only[seval,dO,db,bA,fi,fj,eA,fq,bz,cg,iI,iS,jA,gC,aj.av,gr,gE,jP,jX,gu,gF,jQ,jY]⟩;exact iZ (q_ rfl (by simp only[seval];simp[bw,Wk.refl])) hR
      ·refine qu (.add (.add (.add (.add (.add .base 5 10) 5 11) 4 10) 4 11) 11 10) 5 [0,1,2,3,10,11,4] [6,7,8,9,12,13,14] [10,11,4] [12,13] [⟨0,false,[],[([10],[10]),([10,11],[10,11]),([10,11,4],[10,11,4])]⟩,⟨1,false,[],[([10],[10]),([10,11],[10,11])]⟩,⟨2,false,[],[([10],[10]),([10,11],[10,11])]⟩,⟨3,false,[],[([10],[10]),([10,11],[10,11])]⟩,⟨10,true,[10],[]⟩,⟨11,true,[10,11],[]⟩,⟨4,true,[10,11,4],[]⟩] [⟨6,false,[],[]⟩,⟨7,false,[],[]⟩,⟨8,false,[],[([12],[12])]⟩,⟨9,false,[],[([12],[12]),([12,13],[12,13])]⟩,⟨12,true,[12],[]⟩,⟨13,true,[12,13],[]⟩,⟨14,false,[12,13],[]⟩] (λD=>bif isDone 4 D then H++[.cells x.l 26,.cells u0 76,.cells v0 88,.cells x.l 26,.cells [.sl 1 [iv q] .exact] 22]else bif isDone 11 D then H++[.cells x.l 26,.cells u0 76,.cells v0 88]else bif isDone 10 D then H++[.cells x.l 26,.cells u0 76]else H++[.cells x.l 26]) (by kernel_rfl) (by kernel_rfl) (by kernel_rfl) (by kernel_rfl) (by kernel_rfl) (by first|rfl|simp only[seval]) ?_;(try simp only[seval,z1,ew,nP,and_self,aP,dO,db,bz,SP]);refine kA _ _ (bX (oH (x:=x) (ns:=[(q:Int)]) ⟨rfl,rfl⟩)) ?_;(try simp only[seval,aP,dO,db,bz,SP,SA]);refine aI ((mC (x:=x) (b:=mS x [(q:Int)]) hx dQ (eI hm) (λL k kp hk=>bX (oI (x:=x) (ns:=[(q:Int)]) (e:=.exact) (il:=H.length+4) (ir:=H.length+3) hx (by simp) (by rw[SA,bY];rfl) (by rw[SA,bY];rfl) hk)) (λh=>by rw[jy]at h;cases h) λ_ js D L mp dM dW bF kJ hg=> ?_));have fb:ez x 1 D:=⟨p,js,dQ,dM,dW,bF⟩;have cg:=Kn.len bF mp;have ek:=lg D mp;obtain⟨N,hN⟩:∃N,N=H.length+5+L.length:=⟨_,rfl⟩;obtain⟨Bf,aU⟩:∃Bf:List AV->List AV->List aa,∀u v,Bf u v=H++([.cells x.l 26,.cells u 76,.cells v 88,.cells x.l 26,.cells [.sl 1 [iv q] .exact] 22]++L):=⟨_,λ_ _=>rfl⟩;have dT:H++[.cells x.l 26,.cells u0 76,.cells v0 88,.cells x.l 26,.cells [.sl 1 [iv q] .exact] 22]++L=Bf u0 v0:=(by rw[aU,SA]);have bA:∀u v,(Bf u v).length=N:=λu v=>(by rw[aU,hN];simp;omega);have bn:∀u v (L':List aa)(j:Nat),(Bf u v++L')[N+j]?=L'[j]?:=λu v L' j=>(by rw[<- bA u v,aW]);have dZ:∀u v (L':List aa)(j:Nat)(y:aa),(Bf u v++L').set (N+j) y=Bf u v++L'.set j y:=λu v L' j y=>(by rw[<- bA u v,cY]);have fi:∀u v (L':List aa),(Bf u v++L')[N]?=L'[0]?:=λu v L'=>bn u v L' 0;have fj:∀u v (L':List aa)(y:aa),(Bf u v++L').set N y=Bf u v++L'.set 0 y:=λu v L' y=>dZ u v L' 0 y;have eA:∀u v (L':List aa),(Bf u v++L')[N+1]?=L'[1]?:=λu v L'=>bn u v L' 1;have fq:∀u v (L':List aa)(y:aa),(Bf u v++L').set (N+1) y=Bf u v++L'.set 1 y:=λu v L' y=>dZ u v L' 1 y;have gr:∀u v (L':List aa),(Bf u v++L')[H.length+1]?=some (.cells u 76):=λu v L'=>(by rw[aU,SA,bY];rfl);have gE:∀u v w (L':List aa),(Bf u v++L').set (H.length+1) (.cells w 76)=Bf w v++L':=λu v w L'=>(by rw[aU,aU,SA H,SA H,kq];rfl);have jP:∀u v,(Bf u v)[H.length+1]?=some (.cells u 76):=λu v=>(by have:=gr u v [];rwa [SI]at this);have jX:∀u v w,(Bf u v).set (H.length+1) (.cells w 76)=Bf w v:=λu v w=>(by have:=gE u v w [];rwa [SI,SI]at this);have gu:∀u v (L':List aa),(Bf u v++L')[H.length+2]?=some (.cells v 88):=λu v L'=>(by rw[aU,SA,bY];rfl);have gF:∀u v w (L':List aa),(Bf u v++L').set (H.length+2) (.cells w 88)=Bf u w++L':=λu v w L'=>(by rw[aU,aU,SA H,SA H,kq];rfl);have jQ:∀u v,(Bf u v)[H.length+2]?=some (.cells v 88):=λu v=>(by have:=gu u v [];rwa [SI]at this);have jY:∀u v w,(Bf u v).set (H.length+2) (.cells w 88)=Bf u w:=λu v w=>(by have:=gF u v w [];rwa [SI,SI]at this);rw[dT];clear dT hg;refine⟨λDD=>bif isDone 13 DD then(Bf x.l (D.l mp))else bif isDone 12 DD then(Bf x.l v0)else Bf u0 v0,by first|rfl|simp only[seval],?_⟩;try simp only[seval,dO,db,bA,fi,fj,eA,fq,bz,cg,iI,iS,jA,gC,aj.av,gr,gE,jP,jX,gu,gF,jQ,jY]
       first|refine⟨kM x,ek,?_⟩|trace_state
       have hR:=rest (H.length+2,mp,D,(Bf x.l (D.l mp))) ⟨fb,bF,⟨_,by rw[aU]⟩,by rw[aU];exact aW H _ 0,by simp only[seval,dO,db,bA,fi,fj,eA,fq,bz,cg,iI,iS,jA,gC,aj.av,gr,gE,jP,jX,gu,gF,jQ,jY]⟩;exact iZ (q_ rfl (by simp only[seval];simp[bw,Wk.refl])) hR
     ·refine qu (.add (.add (.add (.add .base 5 10) 5 11) 4 10) 11 4) 5 [0,1,2,3,10,4,11] [6,7,8,9,12,13,14] [10,4,11] [12,13] [⟨0,false,[],[([10],[10]),([10,4],[10,4]),([10,4,11],[10,4,11])]⟩,⟨1,false,[],[([10],[10])]⟩,⟨2,false,[],[([10],[10])]⟩,⟨3,false,[],[([10],[10])]⟩,⟨10,true,[10],[]⟩,⟨4,true,[10,4],[]⟩,⟨11,true,[10,4,11],[]⟩] [⟨6,false,[],[]⟩,⟨7,false,[],[]⟩,⟨8,false,[],[([12],[12])]⟩,⟨9,false,[],[([12],[12]),([12,13],[12,13])]⟩,⟨12,true,[12],[]⟩,⟨13,true,[12,13],[]⟩,⟨14,false,[12,13],[]⟩] (λD=>bif isDone 11 D then H++[.cells x.l 26,.cells u0 76,.cells x.l 26,.cells [.sl 1 [iv q] .exact] 22,.cells v0 88]else bif isDone 4 D then H++[.cells x.l 26,.cells u0 76,.cells x.l 26,.cells [.sl 1 [iv q] .exact] 22]else bif isDone 10 D then H++[.cells x.l 26,.cells u0 76]else H++[.cells x.l 26]) (by kernel_rfl) (by kernel_rfl) (by kernel_rfl) (by kernel_rfl) (by kernel_rfl) (by first|rfl|simp only[seval]) ?_;(try simp only[seval,z1,ew,nP,and_self,aP,dO,db,bz,SP]);refine kA _ _ (bX (oH (x:=x) (ns:=[(q:Int)]) ⟨rfl,rfl⟩)) ?_;(try simp only[seval,aP,dO,db,bz,SP,SA]);refine aI ((mC (x:=x) (b:=mS x [(q:Int)]) hx dQ (eI hm) (λL k kp hk=>bX (oI (x:=x) (ns:=[(q:Int)]) (e:=.exact) (il:=H.length+3) (ir:=H.length+2) hx (by simp) (by rw[SA,bY];rfl) (by rw[SA,bY];rfl) hk)) (λh=>by rw[jy]at h;cases h) λ_ js D L mp dM dW bF kJ hg=> ?_));have fb:ez x 1 D:=⟨p,js,dQ,dM,dW,bF⟩;have cg:=Kn.len bF mp;have ek:=lg D mp;obtain⟨N,hN⟩:∃N,N=H.length+5+L.length:=⟨_,rfl⟩;obtain⟨Bf,aU⟩:∃Bf:List AV->List AV->List aa,∀u v,Bf u v=H++([.cells x.l 26,.cells u 76,.cells x.l 26,.cells [.sl 1 [iv q] .exact] 22,.cells v 88]++L):=⟨_,λ_ _=>rfl⟩;have dT:H++[.cells x.l 26,.cells u0 76,.cells x.l 26,.cells [.sl 1 [iv q] .exact] 22,.cells v0 88]++L=Bf u0 v0:=(by rw[aU,SA]);have bA:∀u v,(Bf u v).length=N:=λu v=>(by rw[aU,hN];simp;omega);have bn:∀u v (L':List aa)(j:Nat),(Bf u v++L')[N+j]?=L'[j]?:=λu v L' j=>(by rw[<- bA u v,aW]);have dZ:∀u v (L':List aa)(j:Nat)(y:aa),(Bf u v++L').set (N+j) y=Bf u v++L'.set j y:=λu v L' j y=>(by rw[<- bA u v,cY]);have fi:∀u v (L':List aa),(Bf u v++L')[N]?=L'[0]?:=λu v L'=>bn u v L' 0;have fj:∀u v (L':List aa)(y:aa),(Bf u v++L').set N y=Bf u v++L'.set 0 y:=λu v L' y=>dZ u v L' 0 y;have eA:∀u v (L':List aa),(Bf u v++L')[N+1]?=L'[1]?:=λu v L'=>bn u v L' 1;have fq:∀u v (L':List aa)(y:aa),(Bf u v++L').set (N+1) y=Bf u v++L'.set 1 y:=λu v L' y=>dZ u v L' 1 y;have gr:∀u v (L':List aa),(Bf u v++L')[H.length+1]?=some (.cells u 76):=λu v L'=>(by rw[aU,SA,bY];rfl);have gE:∀u v w (L':List aa),(Bf u v++L').set (H.length+1) (.cells w 76)=Bf w v++L':=λu v w L'=>(by rw[aU,aU,SA H,SA H,kq];rfl);have jP:∀u v,(Bf u v)[H.length+1]?=some (.cells u 76):=λu v=>(by have:=gr u v [];rwa [SI]at this);have jX:∀u v w,(Bf u v).set (H.length+1) (.cells w 76)=Bf w v:=λu v w=>(by have:=gE u v w [];rwa [SI,SI]at this);have gu:∀u v (L':List aa),(Bf u v++L')[H.length+4]?=some (.cells v 88):=λu v L'=>(by rw[aU,SA,bY];rfl);have gF:∀u v w (L':List aa),(Bf u v++L').set (H.length+4) (.cells w 88)=Bf u w++L':=λu v w L'=>(by rw[aU,aU,SA H,SA H,kq];rfl);have jQ:∀u v,(Bf u v)[H.length+4]?=some (.cells v 88):=λu v=>(by have:=gu u v [];rwa [SI]at this);have jY:∀u v w,(Bf u v).set (H.length+4) (.cells w 88)=Bf u w:=λu v w=>(by have:=gF u v w [];rwa [SI,SI]at this);rw[dT];clear dT hg;refine⟨λDD=>bif isDone 13 DD then(Bf x.l (D.l mp))else bif isDone 12 DD then(Bf x.l v0)else Bf u0 v0,by first|rfl|simp only[seval],?_⟩;try simp only[seval,dO,db,bA,fi,fj,eA,fq,bz,cg,iI,iS,jA,gC,aj.av,gr,gE,jP,jX,gu,gF,jQ,jY]
      first|refine⟨kM x,ek,?_⟩|trace_state
      have hR:=rest (H.length+4,mp,D,(Bf x.l (D.l mp))) ⟨fb,bF,⟨_,by rw[aU]⟩,by rw[aU];exact aW H _ 0,by simp only[seval,dO,db,bA,fi,fj,eA,fq,bz,cg,iI,iS,jA,gC,aj.av,gr,gE,jP,jX,gu,gF,jQ,jY]⟩;exact iZ (q_ rfl (by simp only[seval];simp[bw,Wk.refl])) hR
    ·refine rE 4 11 rfl ?_ ?_
     ·refine qu (.add (.add (.add (.add .base 5 10) 5 11) 10 4) 4 11) 5 [0,1,2,3,11,4,10] [6,7,8,9,12,13,14] [11,4,10] [12,13] [⟨0,false,[],[([11],[11]),([11,4],[11,4]),([11,4,10],[11,4,10])]⟩,⟨1,false,[],[([11],[11])]⟩,⟨2,false,[],[([11],[11])]⟩,⟨3,false,[],[([11],[11])]⟩,⟨11,true,[11],[]⟩,⟨4,true,[11,4],[]⟩,⟨10,true,[11,4,10],[]⟩] [⟨6,false,[],[]⟩,⟨7,false,[],[]⟩,⟨8,false,[],[([12],[12])]⟩,⟨9,false,[],[([12],[12]),([12,13],[12,13])]⟩,⟨12,true,[12],[]⟩,⟨13,true,[12,13],[]⟩,⟨14,false,[12,13],[]⟩] (λD=>bif isDone 10 D then H++[.cells x.l 26,.cells v0 88,.cells x.l 26,.cells [.sl 1 [iv q] .exact] 22,.cells u0 76]else bif isDone 4 D then H++[.cells x.l 26,.cells v0 88,.cells x.l 26,.cells [.sl 1 [iv q] .exact] 22]else bif isDone 11 D then H++[.cells x.l 26,.cells v0 88]else H++[.cells x.l 26]) (by kernel_rfl) (by kernel_rfl) (by kernel_rfl) (by kernel_rfl) (by kernel_rfl) (by first|rfl|simp only[seval]) ?_;(try simp only[seval,z1,ew,nP,and_self,aP,dO,db,bz,SP]);refine kA _ _ (bX (oH (x:=x) (ns:=[(q:Int)]) ⟨rfl,rfl⟩)) ?_;(try simp only[seval,aP,dO,db,bz,SP,SA]);refine aI ((mC (x:=x) (b:=mS x [(q:Int)]) hx dQ (eI hm) (λL k kp hk=>bX (oI (x:=x) (ns:=[(q:Int)]) (e:=.exact) (il:=H.length+3) (ir:=H.length+2) hx (by simp) (by rw[SA,bY];rfl) (by rw[SA,bY];rfl) hk)) (λh=>by rw[jy]at h;cases h) λ_ js D L mp dM dW bF kJ hg=> ?_));have fb:ez x 1 D:=⟨p,js,dQ,dM,dW,bF⟩;have cg:=Kn.len bF mp;have ek:=lg D mp;obtain⟨N,hN⟩:∃N,N=H.length+5+L.length:=⟨_,rfl⟩;obtain⟨Bf,aU⟩:∃Bf:List AV->List AV->List aa,∀u v,Bf u v=H++([.cells x.l 26,.cells v 88,.cells x.l 26,.cells [.sl 1 [iv q] .exact] 22,.cells u 76]++L):=⟨_,λ_ _=>rfl⟩;have dT:H++[.cells x.l 26,.cells v0 88,.cells x.l 26,.cells [.sl 1 [iv q] .exact] 22,.cells u0 76]++L=Bf u0 v0:=(by rw[aU,SA]);have bA:∀u v,(Bf u v).length=N:=λu v=>(by rw[aU,hN];simp;omega);have bn:∀u v (L':List aa)(j:Nat),(Bf u v++L')[N+j]?=L'[j]?:=λu v L' j=>(by rw[<- bA u v,aW]);have dZ:∀u v (L':List aa)(j:Nat)(y:aa),(Bf u v++L').set (N+j) y=Bf u v++L'.set j y:=λu v L' j y=>(by rw[<- bA u v,cY]);have fi:∀u v (L':List aa),(Bf u v++L')[N]?=L'[0]?:=λu v L'=>bn u v L' 0;have fj:∀u v (L':List aa)(y:aa),(Bf u v++L').set N y=Bf u v++L'.set 0 y:=λu v L' y=>dZ u v L' 0 y;have eA:∀u v (L':List aa),(Bf u v++L')[N+1]?=L'[1]?:=λu v L'=>bn u v L' 1;have fq:∀u v (L':List aa)(y:aa),(Bf u v++L').set (N+1) y=Bf u v++L'.set 1 y:=λu v L' y=>dZ u v L' 1 y;have gr:∀u v (L':List aa),(Bf u v++L')[H.length+4]?=some (.cells u 76):=λu v L'=>(by rw[aU,SA,bY];rfl);have gE:∀u v w (L':List aa),(Bf u v++L').set (H.length+4) (.cells w 76)=Bf w v++L':=λu v w L'=>(by rw[aU,aU,SA H,SA H,kq];rfl);have jP:∀u v,(Bf u v)[H.length+4]?=some (.cells u 76):=λu v=>(by have:=gr u v [];rwa [SI]at this);have jX:∀u v w,(Bf u v).set (H.length+4) (.cells w 76)=Bf w v:=λu v w=>(by have:=gE u v w [];rwa [SI,SI]at this);have gu:∀u v (L':List aa),(Bf u v++L')[H.length+1]?=some (.cells v 88):=λu v L'=>(by rw[aU,SA,bY];rfl);have gF:∀u v w (L':List aa),(Bf u v++L').set (H.length+1) (.cells w 88)=Bf u w++L':=λu v w L'=>(by rw[aU,aU,SA H,SA H,kq];rfl);have jQ:∀u v,(Bf u v)[H.length+1]?=some (.cells v 88):=λu v=>(by have:=gu u v [];rwa [SI]at this);have jY:∀u v w,(Bf u v).set (H.length+1) (.cells w 88)=Bf u w:=λu v w=>(by have:=gF u v w [];rwa [SI,SI]at this);rw[dT];clear dT hg;refine⟨λDD=>bif isDone 13 DD then(Bf x.l (D.l mp))else bif isDone 12 DD then(Bf x.l v0)else Bf u0 v0,by first|rfl|simp only[seval],?_⟩;try simp only[seval,dO,db,bA,fi,fj,eA,fq,bz,cg,iI,iS,jA,gC,aj.av,gr,gE,jP,jX,gu,gF,jQ,jY]
      first|refine⟨kM x,ek,?_⟩|trace_state
      have hR:=rest (H.length+1,mp,D,(Bf x.l (D.l mp))) ⟨fb,bF,⟨_,by rw[aU]⟩,by rw[aU];exact aW H _ 0,by simp only[seval,dO,db,bA,fi,fj,eA,fq,bz,cg,iI,iS,jA,gC,aj.av,gr,gE,jP,jX,gu,gF,jQ,jY]⟩;exact iZ (q_ rfl (by simp only[seval];simp[bw,Wk.refl])) hR
     ·refine rE 10 11 rfl ?_ ?_
      ·refine qu (.add (.add (.add (.add (.add .base 5 10) 5 11) 10 4) 11 4) 10 11) 5 [0,1,2,3,4,11,10] [6,7,8,9,12,13,14] [4,11,10] [12,13] [⟨0,false,[],[([4],[4]),([4,11],[4,11]),([4,11,10],[4,11,10])]⟩,⟨1,false,[],[]⟩,⟨2,false,[],[]⟩,⟨3,false,[],[]⟩,⟨4,true,[4],[]⟩,⟨11,true,[4,11],[]⟩,⟨10,true,[4,11,10],[]⟩] [⟨6,false,[],[]⟩,⟨7,false,[],[]⟩,⟨8,false,[],[([12],[12])]⟩,⟨9,false,[],[([12],[12]),([12,13],[12,13])]⟩,⟨12,true,[12],[]⟩,⟨13,true,[12,13],[]⟩,⟨14,false,[12,13],[]⟩] (λD=>bif isDone 10 D then H++[.cells x.l 26,.cells x.l 26,.cells [.sl 1 [iv q] .exact] 22,.cells v0 88,.cells u0 76]else bif isDone 11 D then H++[.cells x.l 26,.cells x.l 26,.cells [.sl 1 [iv q] .exact] 22,.cells v0 88]else bif isDone 4 D then H++[.cells x.l 26,.cells x.l 26,.cells [.sl 1 [iv q] .exact] 22]else H++[.cells x.l 26]) (by kernel_rfl) (by kernel_rfl) (by kernel_rfl) (by kernel_rfl) (by kernel_rfl) (by first|rfl|simp only[seval]) ?_;(try simp only[seval,z1,ew,nP,and_self,aP,dO,db,bz,SP]);refine kA _ _ (bX (oH (x:=x) (ns:=[(q:Int)]) ⟨rfl,rfl⟩)) ?_;(try simp only[seval,aP,dO,db,bz,SP,SA]);refine aI ((mC (x:=x) (b:=mS x [(q:Int)]) hx dQ (eI hm) (λL k kp hk=>bX (oI (x:=x) (ns:=[(q:Int)]) (e:=.exact) (il:=H.length+2) (ir:=H.length+1) hx (by simp) (by rw[SA,bY];rfl) (by rw[SA,bY];rfl) hk)) (λh=>by rw[jy]at h;cases h) λ_ js D L mp dM dW bF kJ hg=> ?_));have fb:ez x 1 D:=⟨p,js,dQ,dM,dW,bF⟩;have cg:=Kn.len bF mp;have ek:=lg D mp;obtain⟨N,hN⟩:∃N,N=H.length+5+L.length:=⟨_,rfl⟩;obtain⟨Bf,aU⟩:∃Bf:List AV->List AV->List aa,∀u v,Bf u v=H++([.cells x.l 26,.cells x.l 26,.cells [.sl 1 [iv q] .exact] 22,.cells v 88,.cells u 76]++L):=⟨_,λ_ _=>rfl⟩;have dT:H++[.cells x.l 26,.cells x.l 26,.cells [.sl 1 [iv q] .exact] 22,.cells v0 88,.cells u0 76]++L=Bf u0 v0:=(by rw[aU,SA]);have bA:∀u v,(Bf u v).length=N:=λu v=>(by rw[aU,hN];simp;omega);have bn:∀u v (L':List aa)(j:Nat),(Bf u v++L')[N+j]?=L'[j]?:=λu v L' j=>(by rw[<- bA u v,aW]);have dZ:∀u v (L':List aa)(j:Nat)(y:aa),(Bf u v++L').set (N+j) y=Bf u v++L'.set j y:=λu v L' j y=>(by rw[<- bA u v,cY]);have fi:∀u v (L':List aa),(Bf u v++L')[N]?=L'[0]?:=λu v L'=>bn u v L' 0;have fj:∀u v (L':List aa)(y:aa),(Bf u v++L').set N y=Bf u v++L'.set 0 y:=λu v L' y=>dZ u v L' 0 y;have eA:∀u v (L':List aa),(Bf u v++L')[N+1]?=L'[1]?:=λu v L'=>bn u v L' 1;have fq:∀u v (L':List aa)(y:aa),(Bf u v++L').set (N+1) y=Bf u v++L'.set 1 y:=λu v L' y=>dZ u v L' 1 y;have gr:∀u v (L':List aa),(Bf u v++L')[H.length+4]?=some (.cells u 76):=λu v L'=>(by rw[aU,SA,bY];rfl);have gE:∀u v w (L':List aa),(Bf u v++L').set (H.length+4) (.cells w 76)=Bf w v++L':=λu v w L'=>(by rw[aU,aU,SA H,SA H,kq];rfl);have jP:∀u v,(Bf u v)[H.length+4]?=some (.cells u 76):=λu v=>(by have:=gr u v [];rwa [SI]at this);have jX:∀u v w,(Bf u v).set (H.length+4) (.cells w 76)=Bf w v:=λu v w=>(by have:=gE u v w [];rwa [SI,SI]at this);have gu:∀u v (L':List aa),(Bf u v++L')[H.length+3]?=some (.cells v 88):=λu v L'=>(by rw[aU,SA,bY];rfl);have gF:∀u v w (L':List aa),(Bf u v++L').set (H.length+3) (.cells w 88)=Bf u w++L':=λu v w L'=>(by rw[aU,aU,SA H,SA H,kq];rfl);have jQ:∀u v,(Bf u v)[H.length+3]?=some (.cells v 88):=λu v=>(by have:=gu u v [];rwa [SI]at this);have jY:∀u v w,(Bf u v).set (H.length+3) (.cells w 88)=Bf u w:=λu v w=>(by have:=gF u v w [];rwa [SI,SI]at this);rw[dT];clear dT hg;refine⟨λDD=>bif isDone 13 DD then(Bf x.l (D.l mp))else bif isDone 12 DD then(Bf x.l v0)else Bf u0 v0,by first|rfl|simp only[seval],?_⟩;try simp only[seval,dO,db,bA,fi,fj,eA,fq,bz,cg,iI,iS,jA,gC,aj.av,gr,gE,jP,jX,gu,gF,jQ,jY]
       first|refine⟨kM x,ek,?_⟩|trace_state
       have hR:=rest (H.length+3,mp,D,(Bf x.l (D.l mp))) ⟨fb,bF,⟨_,by rw[aU]⟩,by rw[aU];exact aW H _ 0,by simp only[seval,dO,db,bA,fi,fj,eA,fq,bz,cg,iI,iS,jA,gC,aj.av,gr,gE,jP,jX,gu,gF,jQ,jY]⟩;exact iZ (q_ rfl (by simp only[seval];simp[bw,Wk.refl])) hR
      ·refine qu (.add (.add (.add (.add (.add .base 5 10) 5 11) 10 4) 11 4) 11 10) 5 [0,1,2,3,4,10,11] [6,7,8,9,12,13,14] [4,10,11] [12,13] [⟨0,false,[],[([4],[4]),([4,10],[4,10]),([4,10,11],[4,10,11])]⟩,⟨1,false,[],[]⟩,⟨2,false,[],[]⟩,⟨3,false,[],[]⟩,⟨4,true,[4],[]⟩,⟨10,true,[4,10],[]⟩,⟨11,true,[4,10,11],[]⟩] [⟨6,false,[],[]⟩,⟨7,false,[],[]⟩,⟨8,false,[],[([12],[12])]⟩,⟨9,false,[],[([12],[12]),([12,13],[12,13])]⟩,⟨12,true,[12],[]⟩,⟨13,true,[12,13],[]⟩,⟨14,false,[12,13],[]⟩] (λD=>bif isDone 11 D then H++[.cells x.l 26,.cells x.l 26,.cells [.sl 1 [iv q] .exact] 22,.cells u0 76,.cells v0 88]else bif isDone 10 D then H++[.cells x.l 26,.cells x.l 26,.cells [.sl 1 [iv q] .exact] 22,.cells u0 76]else bif isDone 4 D then H++[.cells x.l 26,.cells x.l 26,.cells [.sl 1 [iv q] .exact] 22]else H++[.cells x.l 26]) (by kernel_rfl) (by kernel_rfl) (by kernel_rfl) (by kernel_rfl) (by kernel_rfl) (by first|rfl|simp only[seval]) ?_;(try simp only[seval,z1,ew,nP,and_self,aP,dO,db,bz,SP]);refine kA _ _ (bX (oH (x:=x) (ns:=[(q:Int)]) ⟨rfl,rfl⟩)) ?_;(try simp only[seval,aP,dO,db,bz,SP,SA]);refine aI ((mC (x:=x) (b:=mS x [(q:Int)]) hx dQ (eI hm) (λL k kp hk=>bX (oI (x:=x) (ns:=[(q:Int)]) (e:=.exact) (il:=H.length+2) (ir:=H.length+1) hx (by simp) (by rw[SA,bY];rfl) (by rw[SA,bY];rfl) hk)) (λh=>by rw[jy]at h;cases h) λ_ js D L mp dM dW bF kJ hg=> ?_));have fb:ez x 1 D:=⟨p,js,dQ,dM,dW,bF⟩;have cg:=Kn.len bF mp;have ek:=lg D mp;obtain⟨N,hN⟩:∃N,N=H.length+5+L.length:=⟨_,rfl⟩;obtain⟨Bf,aU⟩:∃Bf:List AV->List AV->List aa,∀u v,Bf u v=H++([.cells x.l 26,.cells x.l 26,.cells [.sl 1 [iv q] .exact] 22,.cells u 76,.cells v 88]++L):=⟨_,λ_ _=>rfl⟩;have dT:H++[.cells x.l 26,.cells x.l 26,.cells [.sl 1 [iv q] .exact] 22,.cells u0 76,.cells v0 88]++L=Bf u0 v0:=(by rw[aU,SA]);have bA:∀u v,(Bf u v).length=N:=λu v=>(by rw[aU,hN];simp;omega);have bn:∀u v (L':List aa)(j:Nat),(Bf u v++L')[N+j]?=L'[j]?:=λu v L' j=>(by rw[<- bA u v,aW]);have dZ:∀u v (L':List aa)(j:Nat)(y:aa),(Bf u v++L').set (N+j) y=Bf u v++L'.set j y:=λu v L' j y=>(by rw[<- bA u v,cY]);have fi:∀u v (L':List aa),(Bf u v++L')[N]?=L'[0]?:=λu v L'=>bn u v L' 0;have fj:∀u v (L':List aa)(y:aa),(Bf u v++L').set N y=Bf u v++L'.set 0 y:=λu v L' y=>dZ u v L' 0 y;have eA:∀u v (L':List aa),(Bf u v++L')[N+1]?=L'[1]?:=λu v L'=>bn u v L' 1;have fq:∀u v (L':List aa)(y:aa),(Bf u v++L').set (N+1) y=Bf u v++L'.set 1 y:=λu v L' y=>dZ u v L' 1 y;have gr:∀u v (L':List aa),(Bf u v++L')[H.length+3]?=some (.cells u 76):=λu v L'=>(by rw[aU,SA,bY];rfl);have gE:∀u v w (L':List aa),(Bf u v++L').set (H.length+3) (.cells w 76)=Bf w v++L':=λu v w L'=>(by rw[aU,aU,SA H,SA H,kq];rfl);have jP:∀u v,(Bf u v)[H.length+3]?=some (.cells u 76):=λu v=>(by have:=gr u v [];rwa [SI]at this);have jX:∀u v w,(Bf u v).set (H.length+3) (.cells w 76)=Bf w v:=λu v w=>(by have:=gE u v w [];rwa [SI,SI]at this);have gu:∀u v (L':List aa),(Bf u v++L')[H.length+4]?=some (.cells v 88):=λu v L'=>(by rw[aU,SA,bY];rfl);have gF:∀u v w (L':List aa),(Bf u v++L').set (H.length+4) (.cells w 88)=Bf u w++L':=λu v w L'=>(by rw[aU,aU,SA H,SA H,kq];rfl);have jQ:∀u v,(Bf u v)[H.length+4]?=some (.cells v 88):=λu v=>(by have:=gu u v [];rwa [SI]at this);have jY:∀u v w,(Bf u v).set (H.length+4) (.cells w 88)=Bf u w:=λu v w=>(by have:=gF u v w [];rwa [SI,SI]at this);rw[dT];clear dT hg;refine⟨λDD=>bif isDone 13 DD then(Bf x.l (D.l mp))else bif isDone 12 DD then(Bf x.l v0)else Bf u0 v0,by first|rfl|simp only[seval],?_⟩;try simp only[seval,dO,db,bA,fi,fj,eA,fq,bz,cg,iI,iS,jA,gC,aj.av,gr,gE,jP,jX,gu,gF,jQ,jY]
       first|refine⟨kM x,ek,?_⟩|trace_state
       have hR:=rest (H.length+4,mp,D,(Bf x.l (D.l mp))) ⟨fb,bF,⟨_,by rw[aU]⟩,by rw[aU];exact aW H _ 0,by simp only[seval,dO,db,bA,fi,fj,eA,fq,bz,cg,iI,iS,jA,gC,aj.av,gr,gE,jP,jX,gu,gF,jQ,jY]⟩;exact iZ (q_ rfl (by simp only[seval];simp[bw,Wk.refl])) hR
   ·refine rE 4 10 rfl ?_ ?_
    ·refine qu (.add (.add (.add .base 5 10) 11 5) 4 10) 5 [0,1,2,3,10,4] [6,7,8,9,11,12,13,14] [10,4] [11,12,13] [⟨0,false,[],[([10],[10]),([10,4],[10,4])]⟩,⟨1,false,[],[([10],[10])]⟩,⟨2,false,[],[([10],[10])]⟩,⟨3,false,[],[([10],[10])]⟩,⟨10,true,[10],[]⟩,⟨4,true,[10,4],[]⟩] [⟨6,false,[],[([11],[11])]⟩,⟨7,false,[],[([11],[11])]⟩,⟨8,false,[],[([11],[11]),([11,12],[11,12])]⟩,⟨9,false,[],[([11],[11]),([11,12],[11,12]),([11,12,13],[11,12,13])]⟩,⟨11,true,[11],[]⟩,⟨12,true,[11,12],[]⟩,⟨13,true,[11,12,13],[]⟩,⟨14,false,[11,12,13],[]⟩] (λD=>bif isDone 4 D then H++[.cells x.l 26,.cells u0 76,.cells x.l 26,.cells [.sl 1 [iv q] .exact] 22]else bif isDone 10 D then H++[.cells x.l 26,.cells u0 76]else H++[.cells x.l 26]) (by kernel_rfl) (by kernel_rfl) (by kernel_rfl) (by kernel_rfl) (by kernel_rfl) (by first|rfl|simp only[seval]) ?_;(try simp only[seval,z1,ew,nP,and_self,aP,dO,db,bz,SP]);refine kA _ _ (bX (oH (x:=x) (ns:=[(q:Int)]) ⟨rfl,rfl⟩)) ?_;(try simp only[seval,aP,dO,db,bz,SP,SA]);refine aI ((mC (x:=x) (b:=mS x [(q:Int)]) hx dQ (eI hm) (λL k kp hk=>bX (oI (x:=x) (ns:=[(q:Int)]) (e:=.exact) (il:=H.length+3) (ir:=H.length+2) hx (by simp) (by rw[SA,bY];rfl) (by rw[SA,bY];rfl) hk)) (λh=>by rw[jy]at h;cases h) λ_ js D L mp dM dW bF kJ hg=> ?_));have fb:ez x 1 D:=⟨p,js,dQ,dM,dW,bF⟩;have cg:=Kn.len bF mp;have ek:=lg D mp;obtain⟨N,hN⟩:∃N,N=H.length+4+L.length:=⟨_,rfl⟩;obtain⟨Bf,aU⟩:∃Bf:List AV->List AV->List aa,∀u v,Bf u v=H++([.cells x.l 26,.cells u 76,.cells x.l 26,.cells [.sl 1 [iv q] .exact] 22]++L):=⟨_,λ_ _=>rfl⟩;have dT:H++[.cells x.l 26,.cells u0 76,.cells x.l 26,.cells [.sl 1 [iv q] .exact] 22]++L=Bf u0 v0:=(by rw[aU,SA]);have bA:∀u v,(Bf u v).length=N:=λu v=>(by rw[aU,hN];simp;omega);have bn:∀u v (L':List aa)(j:Nat),(Bf u v++L')[N+j]?=L'[j]?:=λu v L' j=>(by rw[<- bA u v,aW]);have dZ:∀u v (L':List aa)(j:Nat)(y:aa),(Bf u v++L').set (N+j) y=Bf u v++L'.set j y:=λu v L' j y=>(by rw[<- bA u v,cY]);have fi:∀u v (L':List aa),(Bf u v++L')[N]?=L'[0]?:=λu v L'=>bn u v L' 0;have fj:∀u v (L':List aa)(y:aa),(Bf u v++L').set N y=Bf u v++L'.set 0 y:=λu v L' y=>dZ u v L' 0 y;have eA:∀u v (L':List aa),(Bf u v++L')[N+1]?=L'[1]?:=λu v L'=>bn u v L' 1;have fq:∀u v (L':List aa)(y:aa),(Bf u v++L').set (N+1) y=Bf u v++L'.set 1 y:=λu v L' y=>dZ u v L' 1 y;have gr:∀u v (L':List aa),(Bf u v++L')[H.length+1]?=some (.cells u 76):=λu v L'=>(by rw[aU,SA,bY];rfl);have gE:∀u v w (L':List aa),(Bf u v++L').set (H.length+1) (.cells w 76)=Bf w v++L':=λu v w L'=>(by rw[aU,aU,SA H,SA H,kq];rfl);have jP:∀u v,(Bf u v)[H.length+1]?=some (.cells u 76):=λu v=>(by have:=gr u v [];rwa [SI]at this);have jX:∀u v w,(Bf u v).set (H.length+1) (.cells w 76)=Bf w v:=λu v w=>(by have:=gE u v w [];rwa [SI,SI]at this);rw[dT];clear dT hg;refine⟨λDD=>bif isDone 13 DD then(Bf x.l v0++[.cells (D.l mp) 88])else bif isDone 12 DD then(Bf x.l v0++[.cells v0 88])else bif isDone 11 DD then(Bf u0 v0++[.cells v0 88])else Bf u0 v0,by first|rfl|simp only[seval],?_⟩;try simp only[seval,dO,db,bA,fi,fj,eA,fq,bz,cg,iI,iS,jA,gC,aj.av,gr,gE,jP,jX]
     first|refine⟨kM x,ek,?_⟩|trace_state
     have hR:=rest (N,mp,D,(Bf x.l v0++[.cells (D.l mp) 88])) ⟨fb,bF,⟨_,by rw[aU]<;>rw[SA]⟩,by rw[aU];rw[SA];exact aW H _ 0,by simp only[seval,dO,db,bA,fi,fj,eA,fq,bz,cg,iI,iS,jA,gC,aj.av,gr,gE,jP,jX]⟩;exact iZ (q_ rfl (by simp only[seval];simp[bw,Wk.refl])) hR
    ·refine qu (.add (.add (.add .base 5 10) 11 5) 10 4) 5 [0,1,2,3,4,10] [6,7,8,9,11,12,13,14] [4,10] [11,12,13] [⟨0,false,[],[([4],[4]),([4,10],[4,10])]⟩,⟨1,false,[],[]⟩,⟨2,false,[],[]⟩,⟨3,false,[],[]⟩,⟨4,true,[4],[]⟩,⟨10,true,[4,10],[]⟩] [⟨6,false,[],[([11],[11])]⟩,⟨7,false,[],[([11],[11])]⟩,⟨8,false,[],[([11],[11]),([11,12],[11,12])]⟩,⟨9,false,[],[([11],[11]),([11,12],[11,12]),([11,12,13],[11,12,13])]⟩,⟨11,true,[11],[]⟩,⟨12,true,[11,12],[]⟩,⟨13,true,[11,12,13],[]⟩,⟨14,false,[11,12,13],[]⟩] (λD=>bif isDone 10 D then H++[.cells x.l 26,.cells x.l 26,.cells [.sl 1 [iv q] .exact] 22,.cells u0 76]else bif isDone 4 D then H++[.cells x.l 26,.cells x.l 26,.cells [.sl 1 [iv q] .exact] 22]else H++[.cells x.l 26]) (by kernel_rfl) (by kernel_rfl) (by kernel_rfl) (by kernel_rfl) (by kernel_rfl) (by first|rfl|simp only[seval]) ?_;(try simp only[seval,z1,ew,nP,and_self,aP,dO,db,bz,SP]);refine kA _ _ (bX (oH (x:=x) (ns:=[(q:Int)]) ⟨rfl,rfl⟩)) ?_;(try simp only[seval,aP,dO,db,bz,SP,SA]);refine aI ((mC (x:=x) (b:=mS x [(q:Int)]) hx dQ (eI hm) (λL k kp hk=>bX (oI (x:=x) (ns:=[(q:Int)]) (e:=.exact) (il:=H.length+2) (ir:=H.length+1) hx (by simp) (by rw[SA,bY];rfl) (by rw[SA,bY];rfl) hk)) (λh=>by rw[jy]at h;cases h) λ_ js D L mp dM dW bF kJ hg=> ?_));have fb:ez x 1 D:=⟨p,js,dQ,dM,dW,bF⟩;have cg:=Kn.len bF mp;have ek:=lg D mp;obtain⟨N,hN⟩:∃N,N=H.length+4+L.length:=⟨_,rfl⟩;obtain⟨Bf,aU⟩:∃Bf:List AV->List AV->List aa,∀u v,Bf u v=H++([.cells x.l 26,.cells x.l 26,.cells [.sl 1 [iv q] .exact] 22,.cells u 76]++L):=⟨_,λ_ _=>rfl⟩;have dT:H++[.cells x.l 26,.cells x.l 26,.cells [.sl 1 [iv q] .exact] 22,.cells u0 76]++L=Bf u0 v0:=(by rw[aU,SA]);have bA:∀u v,(Bf u v).length=N:=λu v=>(by rw[aU,hN];simp;omega);have bn:∀u v (L':List aa)(j:Nat),(Bf u v++L')[N+j]?=L'[j]?:=λu v L' j=>(by rw[<- bA u v,aW]);have dZ:∀u v (L':List aa)(j:Nat)(y:aa),(Bf u v++L').set (N+j) y=Bf u v++L'.set j y:=λu v L' j y=>(by rw[<- bA u v,cY]);have fi:∀u v (L':List aa),(Bf u v++L')[N]?=L'[0]?:=λu v L'=>bn u v L' 0;have fj:∀u v (L':List aa)(y:aa),(Bf u v++L').set N y=Bf u v++L'.set 0 y:=λu v L' y=>dZ u v L' 0 y;have eA:∀u v (L':List aa),(Bf u v++L')[N+1]?=L'[1]?:=λu v L'=>bn u v L' 1;have fq:∀u v (L':List aa)(y:aa),(Bf u v++L').set (N+1) y=Bf u v++L'.set 1 y:=λu v L' y=>dZ u v L' 1 y;have gr:∀u v (L':List aa),(Bf u v++L')[H.length+3]?=some (.cells u 76):=λu v L'=>(by rw[aU,SA,bY];rfl);have gE:∀u v w (L':List aa),(Bf u v++L').set (H.length+3) (.cells w 76)=Bf w v++L':=λu v w L'=>(by rw[aU,aU,SA H,SA H,kq];rfl);have jP:∀u v,(Bf u v)[H.length+3]?=some (.cells u 76):=λu v=>(by have:=gr u v [];rwa [SI]at this);have jX:∀u v w,(Bf u v).set (H.length+3) (.cells w 76)=Bf w v:=λu v w=>(by have:=gE u v w [];rwa [SI,SI]at this);rw[dT];clear dT hg;refine⟨λDD=>bif isDone 13 DD then(Bf x.l v0++[.cells (D.l mp) 88])else bif isDone 12 DD then(Bf x.l v0++[.cells v0 88])else bif isDone 11 DD then(Bf u0 v0++[.cells v0 88])else Bf u0 v0,by first|rfl|simp only[seval],?_⟩;try simp only[seval,dO,db,bA,fi,fj,eA,fq,bz,cg,iI,iS,jA,gC,aj.av,gr,gE,jP,jX]
     first|refine⟨kM x,ek,?_⟩|trace_state
     have hR:=rest (N,mp,D,(Bf x.l v0++[.cells (D.l mp) 88])) ⟨fb,bF,⟨_,by rw[aU]<;>rw[SA]⟩,by rw[aU];rw[SA];exact aW H _ 0,by simp only[seval,dO,db,bA,fi,fj,eA,fq,bz,cg,iI,iS,jA,gC,aj.av,gr,gE,jP,jX]⟩;exact iZ (q_ rfl (by simp only[seval];simp[bw,Wk.refl])) hR
  ·refine rE 5 11 rfl ?_ ?_
   ·refine rE 4 11 rfl ?_ ?_
    ·refine qu (.add (.add (.add .base 10 5) 5 11) 4 11) 5 [0,1,2,3,11,4] [6,7,8,9,10,12,13,14] [11,4] [10,12,13] [⟨0,false,[],[([11],[11]),([11,4],[11,4])]⟩,⟨1,false,[],[([11],[11])]⟩,⟨2,false,[],[([11],[11])]⟩,⟨3,false,[],[([11],[11])]⟩,⟨11,true,[11],[]⟩,⟨4,true,[11,4],[]⟩] [⟨6,false,[],[([10],[10])]⟩,⟨7,false,[],[([10],[10])]⟩,⟨8,false,[],[([10],[10]),([10,12],[10,12])]⟩,⟨9,false,[],[([10],[10]),([10,12],[10,12]),([10,12,13],[10,12,13])]⟩,⟨10,true,[10],[]⟩,⟨12,true,[10,12],[]⟩,⟨13,true,[10,12,13],[]⟩,⟨14,false,[10,12,13],[]⟩] (λD=>bif isDone 4 D then H++[.cells x.l 26,.cells v0 88,.cells x.l 26,.cells [.sl 1 [iv q] .exact] 22]else bif isDone 11 D then H++[.cells x.l 26,.cells v0 88]else H++[.cells x.l 26]) (by kernel_rfl) (by kernel_rfl) (by kernel_rfl) (by kernel_rfl) (by kernel_rfl) (by first|rfl|simp only[seval]) ?_;(try simp only[seval,z1,ew,nP,and_self,aP,dO,db,bz,SP]);refine kA _ _ (bX (oH (x:=x) (ns:=[(q:Int)]) ⟨rfl,rfl⟩)) ?_;(try simp only[seval,aP,dO,db,bz,SP,SA]);refine aI ((mC (x:=x) (b:=mS x [(q:Int)]) hx dQ (eI hm) (λL k kp hk=>bX (oI (x:=x) (ns:=[(q:Int)]) (e:=.exact) (il:=H.length+3) (ir:=H.length+2) hx (by simp) (by rw[SA,bY];rfl) (by rw[SA,bY];rfl) hk)) (λh=>by rw[jy]at h;cases h) λ_ js D L mp dM dW bF kJ hg=> ?_));have fb:ez x 1 D:=⟨p,js,dQ,dM,dW,bF⟩;have cg:=Kn.len bF mp;have ek:=lg D mp;obtain⟨N,hN⟩:∃N,N=H.length+4+L.length:=⟨_,rfl⟩;obtain⟨Bf,aU⟩:∃Bf:List AV->List AV->List aa,∀u v,Bf u v=H++([.cells x.l 26,.cells v 88,.cells x.l 26,.cells [.sl 1 [iv q] .exact] 22]++L):=⟨_,λ_ _=>rfl⟩;have dT:H++[.cells x.l 26,.cells v0 88,.cells x.l 26,.cells [.sl 1 [iv q] .exact] 22]++L=Bf u0 v0:=(by rw[aU,SA]);have bA:∀u v,(Bf u v).length=N:=λu v=>(by rw[aU,hN];simp;omega);have bn:∀u v (L':List aa)(j:Nat),(Bf u v++L')[N+j]?=L'[j]?:=λu v L' j=>(by rw[<- bA u v,aW]);have dZ:∀u v (L':List aa)(j:Nat)(y:aa),(Bf u v++L').set (N+j) y=Bf u v++L'.set j y:=λu v L' j y=>(by rw[<- bA u v,cY]);have fi:∀u v (L':List aa),(Bf u v++L')[N]?=L'[0]?:=λu v L'=>bn u v L' 0;have fj:∀u v (L':List aa)(y:aa),(Bf u v++L').set N y=Bf u v++L'.set 0 y:=λu v L' y=>dZ u v L' 0 y;have eA:∀u v (L':List aa),(Bf u v++L')[N+1]?=L'[1]?:=λu v L'=>bn u v L' 1;have fq:∀u v (L':List aa)(y:aa),(Bf u v++L').set (N+1) y=Bf u v++L'.set 1 y:=λu v L' y=>dZ u v L' 1 y;have gu:∀u v (L':List aa),(Bf u v++L')[H.length+1]?=some (.cells v 88):=λu v L'=>(by rw[aU,SA,bY];rfl);have gF:∀u v w (L':List aa),(Bf u v++L').set (H.length+1) (.cells w 88)=Bf u w++L':=λu v w L'=>(by rw[aU,aU,SA H,SA H,kq];rfl);have jQ:∀u v,(Bf u v)[H.length+1]?=some (.cells v 88):=λu v=>(by have:=gu u v [];rwa [SI]at this);have jY:∀u v w,(Bf u v).set (H.length+1) (.cells w 88)=Bf u w:=λu v w=>(by have:=gF u v w [];rwa [SI,SI]at this);rw[dT];clear dT hg;refine⟨λDD=>bif isDone 13 DD then(Bf u0 (D.l mp)++[.cells x.l 76])else bif isDone 12 DD then(Bf u0 v0++[.cells x.l 76])else bif isDone 10 DD then(Bf u0 v0++[.cells u0 76])else Bf u0 v0,by first|rfl|simp only[seval],?_⟩;try simp only[seval,dO,db,bA,fi,fj,eA,fq,bz,cg,iI,iS,jA,gC,aj.av,gu,gF,jQ,jY]
     first|refine⟨kM x,ek,?_⟩|trace_state
     have hR:=rest (H.length+1,mp,D,(Bf u0 (D.l mp)++[.cells x.l 76])) ⟨fb,bF,⟨_,by rw[aU]<;>rw[SA]⟩,by rw[aU];rw[SA];exact aW H _ 0,by simp only[seval,dO,db,bA,fi,fj,eA,fq,bz,cg,iI,iS,jA,gC,aj.av,gu,gF,jQ,jY]⟩;exact iZ (q_ rfl (by simp only[seval];simp[bw,Wk.refl])) hR
    ·refine qu (.add (.add (.add .base 10 5) 5 11) 11 4) 5 [0,1,2,3,4,11] [6,7,8,9,10,12,13,14] [4,11] [10,12,13] [⟨0,false,[],[([4],[4]),([4,11],[4,11])]⟩,⟨1,false,[],[]⟩,⟨2,false,[],[]⟩,⟨3,false,[],[]⟩,⟨4,true,[4],[]⟩,⟨11,true,[4,11],[]⟩] [⟨6,false,[],[([10],[10])]⟩,⟨7,false,[],[([10],[10])]⟩,⟨8,false,[],[([10],[10]),([10,12],[10,12])]⟩,⟨9,false,[],[([10],[10]),([10,12],[10,12]),([10,12,13],[10,12,13])]⟩,⟨10,true,[10],[]⟩,⟨12,true,[10,12],[]⟩,⟨13,true,[10,12,13],[]⟩,⟨14,false,[10,12,13],[]⟩] (λD=>bif isDone 11 D then H++[.cells x.l 26,.cells x.l 26,.cells [.sl 1 [iv q] .exact] 22,.cells v0 88]else bif isDone 4 D then H++[.cells x.l 26,.cells x.l 26,.cells [.sl 1 [iv q] .exact] 22]else H++[.cells x.l 26]) (by kernel_rfl) (by kernel_rfl) (by kernel_rfl) (by kernel_rfl) (by kernel_rfl) (by first|rfl|simp only[seval]) ?_;(try simp only[seval,z1,ew,nP,and_self,aP,dO,db,bz,SP]);refine kA _ _ (bX (oH (x:=x) (ns:=[(q:Int)]) ⟨rfl,rfl⟩)) ?_;(try simp only[seval,aP,dO,db,bz,SP,SA]);refine aI ((mC (x:=x) (b:=mS x [(q:Int)]) hx dQ (eI hm) (λL k kp hk=>bX (oI (x:=x) (ns:=[(q:Int)]) (e:=.exact) (il:=H.length+2) (ir:=H.length+1) hx (by simp) (by rw[SA,bY];rfl) (by rw[SA,bY];rfl) hk)) (λh=>by rw[jy]at h;cases h) λ_ js D L mp dM dW bF kJ hg=> ?_));have fb:ez x 1 D:=⟨p,js,dQ,dM,dW,bF⟩;have cg:=Kn.len bF mp;have ek:=lg D mp;obtain⟨N,hN⟩:∃N,N=H.length+4+L.length:=⟨_,rfl⟩;obtain⟨Bf,aU⟩:∃Bf:List AV->List AV->List aa,∀u v,Bf u v=H++([.cells x.l 26,.cells x.l 26,.cells [.sl 1 [iv q] .exact] 22,.cells v 88]++L):=⟨_,λ_ _=>rfl⟩;have dT:H++[.cells x.l 26,.cells x.l 26,.cells [.sl 1 [iv q] .exact] 22,.cells v0 88]++L=Bf u0 v0:=(by rw[aU,SA]);have bA:∀u v,(Bf u v).length=N:=λu v=>(by rw[aU,hN];simp;omega);have bn:∀u v (L':List aa)(j:Nat),(Bf u v++L')[N+j]?=L'[j]?:=λu v L' j=>(by rw[<- bA u v,aW]);have dZ:∀u v (L':List aa)(j:Nat)(y:aa),(Bf u v++L').set (N+j) y=Bf u v++L'.set j y:=λu v L' j y=>(by rw[<- bA u v,cY]);have fi:∀u v (L':List aa),(Bf u v++L')[N]?=L'[0]?:=λu v L'=>bn u v L' 0;have fj:∀u v (L':List aa)(y:aa),(Bf u v++L').set N y=Bf u v++L'.set 0 y:=λu v L' y=>dZ u v L' 0 y;have eA:∀u v (L':List aa),(Bf u v++L')[N+1]?=L'[1]?:=λu v L'=>bn u v L' 1;have fq:∀u v (L':List aa)(y:aa),(Bf u v++L').set (N+1) y=Bf u v++L'.set 1 y:=λu v L' y=>dZ u v L' 1 y;have gu:∀u v (L':List aa),(Bf u v++L')[H.length+3]?=some (.cells v 88):=λu v L'=>(by rw[aU,SA,bY];rfl);have gF:∀u v w (L':List aa),(Bf u v++L').set (H.length+3) (.cells w 88)=Bf u w++L':=λu v w L'=>(by rw[aU,aU,SA H,SA H,kq];rfl);have jQ:∀u v,(Bf u v)[H.length+3]?=some (.cells v 88):=λu v=>(by have:=gu u v [];rwa [SI]at this);have jY:∀u v w,(Bf u v).set (H.length+3) (.cells w 88)=Bf u w:=λu v w=>(by have:=gF u v w [];rwa [SI,SI]at this);rw[dT];clear dT hg;refine⟨λDD=>bif isDone 13 DD then(Bf u0 (D.l mp)++[.cells x.l 76])else bif isDone 12 DD then(Bf u0 v0++[.cells x.l 76])else bif isDone 10 DD then(Bf u0 v0++[.cells u0 76])else Bf u0 v0,by first|rfl|simp only[seval],?_⟩;try simp only[seval,dO,db,bA,fi,fj,eA,fq,bz,cg,iI,iS,jA,gC,aj.av,gu,gF,jQ,jY]
     first|refine⟨kM x,ek,?_⟩|trace_state
     have hR:=rest (H.length+3,mp,D,(Bf u0 (D.l mp)++[.cells x.l 76])) ⟨fb,bF,⟨_,by rw[aU]<;>rw[SA]⟩,by rw[aU];rw[SA];exact aW H _ 0,by simp only[seval,dO,db,bA,fi,fj,eA,fq,bz,cg,iI,iS,jA,gC,aj.av,gu,gF,jQ,jY]⟩;exact iZ (q_ rfl (by simp only[seval];simp[bw,Wk.refl])) hR
   ·refine rE 10 11 rfl ?_ ?_
    ·refine qu (.add (.add (.add .base 10 5) 11 5) 10 11) 5 [0,1,2,3,4] [6,7,8,9,11,10,12,13,14] [4] [11,10,12,13] [⟨0,false,[],[([4],[4])]⟩,⟨1,false,[],[]⟩,⟨2,false,[],[]⟩,⟨3,false,[],[]⟩,⟨4,true,[4],[]⟩] [⟨6,false,[],[([11],[11]),([11,10],[11,10])]⟩,⟨7,false,[],[([11],[11]),([11,10],[11,10])]⟩,⟨8,false,[],[([11],[11]),([11,10],[11,10]),([11,10,12],[11,10,12])]⟩,⟨9,false,[],[([11],[11]),([11,10],[11,10]),([11,10,12],[11,10,12]),([11,10,12,13],[11,10,12,13])]⟩,⟨11,true,[11],[]⟩,⟨10,true,[11,10],[]⟩,⟨12,true,[11,10,12],[]⟩,⟨13,true,[11,10,12,13],[]⟩,⟨14,false,[11,10,12,13],[]⟩] (λD=>bif isDone 4 D then H++[.cells x.l 26,.cells x.l 26,.cells [.sl 1 [iv q] .exact] 22]else H++[.cells x.l 26]) (by kernel_rfl) (by kernel_rfl) (by kernel_rfl) (by kernel_rfl) (by kernel_rfl) (by first|rfl|simp only[seval]) ?_;(try simp only[seval,z1,ew,nP,and_self,aP,dO,db,bz,SP]);refine kA _ _ (bX (oH (x:=x) (ns:=[(q:Int)]) ⟨rfl,rfl⟩)) ?_;(try simp only[seval,aP,dO,db,bz,SP,SA]);refine aI ((mC (x:=x) (b:=mS x [(q:Int)]) hx dQ (eI hm) (λL k kp hk=>bX (oI (x:=x) (ns:=[(q:Int)]) (e:=.exact) (il:=H.length+2) (ir:=H.length+1) hx (by simp) (by rw[SA,bY];rfl) (by rw[SA,bY];rfl) hk)) (λh=>by rw[jy]at h;cases h) λ_ js D L mp dM dW bF kJ hg=> ?_));have fb:ez x 1 D:=⟨p,js,dQ,dM,dW,bF⟩;have cg:=Kn.len bF mp;have ek:=lg D mp;obtain⟨N,hN⟩:∃N,N=H.length+3+L.length:=⟨_,rfl⟩;obtain⟨Bf,aU⟩:∃Bf:List AV->List AV->List aa,∀u v,Bf u v=H++([.cells x.l 26,.cells x.l 26,.cells [.sl 1 [iv q] .exact] 22]++L):=⟨_,λ_ _=>rfl⟩;have dT:H++[.cells x.l 26,.cells x.l 26,.cells [.sl 1 [iv q] .exact] 22]++L=Bf u0 v0:=(by rw[aU,SA]);have bA:∀u v,(Bf u v).length=N:=λu v=>(by rw[aU,hN];simp;omega);have bn:∀u v (L':List aa)(j:Nat),(Bf u v++L')[N+j]?=L'[j]?:=λu v L' j=>(by rw[<- bA u v,aW]);have dZ:∀u v (L':List aa)(j:Nat)(y:aa),(Bf u v++L').set (N+j) y=Bf u v++L'.set j y:=λu v L' j y=>(by rw[<- bA u v,cY]);have fi:∀u v (L':List aa),(Bf u v++L')[N]?=L'[0]?:=λu v L'=>bn u v L' 0;have fj:∀u v (L':List aa)(y:aa),(Bf u v++L').set N y=Bf u v++L'.set 0 y:=λu v L' y=>dZ u v L' 0 y;have eA:∀u v (L':List aa),(Bf u v++L')[N+1]?=L'[1]?:=λu v L'=>bn u v L' 1;have fq:∀u v (L':List aa)(y:aa),(Bf u v++L').set (N+1) y=Bf u v++L'.set 1 y:=λu v L' y=>dZ u v L' 1 y;rw[dT];clear dT hg;refine⟨λDD=>bif isDone 13 DD then(Bf u0 v0++[.cells (D.l mp) 88,.cells x.l 76])else bif isDone 12 DD then(Bf u0 v0++[.cells v0 88,.cells x.l 76])else bif isDone 10 DD then(Bf u0 v0++[.cells v0 88,.cells u0 76])else bif isDone 11 DD then(Bf u0 v0++[.cells v0 88])else Bf u0 v0,by first|rfl|simp only[seval],?_⟩;try simp only[seval,dO,db,bA,fi,fj,eA,fq,bz,cg,iI,iS,jA,gC,aj.av]
     first|refine⟨kM x,ek,?_⟩|trace_state
     have hR:=rest (N,mp,D,(Bf u0 v0++[.cells (D.l mp) 88,.cells x.l 76])) ⟨fb,bF,⟨_,by rw[aU]<;>rw[SA]⟩,by rw[aU];rw[SA];exact aW H _ 0,by simp only[seval,dO,db,bA,fi,fj,eA,fq,bz,cg,iI,iS,jA,gC,aj.av]⟩;exact iZ (q_ rfl (by simp only[seval];simp[bw,Wk.refl])) hR
    ·refine qu (.add (.add (.add .base 10 5) 11 5) 11 10) 5 [0,1,2,3,4] [6,7,8,9,10,11,12,13,14] [4] [10,11,12,13] [⟨0,false,[],[([4],[4])]⟩,⟨1,false,[],[]⟩,⟨2,false,[],[]⟩,⟨3,false,[],[]⟩,⟨4,true,[4],[]⟩] [⟨6,false,[],[([10],[10]),([10,11],[10,11])]⟩,⟨7,false,[],[([10],[10]),([10,11],[10,11])]⟩,⟨8,false,[],[([10],[10]),([10,11],[10,11]),([10,11,12],[10,11,12])]⟩,⟨9,false,[],[([10],[10]),([10,11],[10,11]),([10,11,12],[10,11,12]),([10,11,12,13],[10,11,12,13])]⟩,⟨10,true,[10],[]⟩,⟨11,true,[10,11],[]⟩,⟨12,true,[10,11,12],[]⟩,⟨13,true,[10,11,12,13],[]⟩,⟨14,false,[10,11,12,13],[]⟩] (λD=>bif isDone 4 D then H++[.cells x.l 26,.cells x.l 26,.cells [.sl 1 [iv q] .exact] 22]else H++[.cells x.l 26]) (by kernel_rfl) (by kernel_rfl) (by kernel_rfl) (by kernel_rfl) (by kernel_rfl) (by first|rfl|simp only[seval]) ?_;(try simp only[seval,z1,ew,nP,and_self,aP,dO,db,bz,SP]);refine kA _ _ (bX (oH (x:=x) (ns:=[(q:Int)]) ⟨rfl,rfl⟩)) ?_;(try simp only[seval,aP,dO,db,bz,SP,SA]);refine aI ((mC (x:=x) (b:=mS x [(q:Int)]) hx dQ (eI hm) (λL k kp hk=>bX (oI (x:=x) (ns:=[(q:Int)]) (e:=.exact) (il:=H.length+2) (ir:=H.length+1) hx (by simp) (by rw[SA,bY];rfl) (by rw[SA,bY];rfl) hk)) (λh=>by rw[jy]at h;cases h) λ_ js D L mp dM dW bF kJ hg=> ?_));have fb:ez x 1 D:=⟨p,js,dQ,dM,dW,bF⟩;have cg:=Kn.len bF mp;have ek:=lg D mp;obtain⟨N,hN⟩:∃N,N=H.length+3+L.length:=⟨_,rfl⟩;obtain⟨Bf,aU⟩:∃Bf:List AV->List AV->List aa,∀u v,Bf u v=H++([.cells x.l 26,.cells x.l 26,.cells [.sl 1 [iv q] .exact] 22]++L):=⟨_,λ_ _=>rfl⟩;have dT:H++[.cells x.l 26,.cells x.l 26,.cells [.sl 1 [iv q] .exact] 22]++L=Bf u0 v0:=(by rw[aU,SA]);have bA:∀u v,(Bf u v).length=N:=λu v=>(by rw[aU,hN];simp;omega);have bn:∀u v (L':List aa)(j:Nat),(Bf u v++L')[N+j]?=L'[j]?:=λu v L' j=>(by rw[<- bA u v,aW]);have dZ:∀u v (L':List aa)(j:Nat)(y:aa),(Bf u v++L').set (N+j) y=Bf u v++L'.set j y:=λu v L' j y=>(by rw[<- bA u v,cY]);have fi:∀u v (L':List aa),(Bf u v++L')[N]?=L'[0]?:=λu v L'=>bn u v L' 0;have fj:∀u v (L':List aa)(y:aa),(Bf u v++L').set N y=Bf u v++L'.set 0 y:=λu v L' y=>dZ u v L' 0 y;have eA:∀u v (L':List aa),(Bf u v++L')[N+1]?=L'[1]?:=λu v L'=>bn u v L' 1;have fq:∀u v (L':List aa)(y:aa),(Bf u v++L').set (N+1) y=Bf u v++L'.set 1 y:=λu v L' y=>dZ u v L' 1 y;rw[dT];clear dT hg;refine⟨λDD=>bif isDone 13 DD then(Bf u0 v0++[.cells x.l 76,.cells (D.l mp) 88])else bif isDone 12 DD then(Bf u0 v0++[.cells x.l 76,.cells v0 88])else bif isDone 11 DD then(Bf u0 v0++[.cells u0 76,.cells v0 88])else bif isDone 10 DD then(Bf u0 v0++[.cells u0 76])else Bf u0 v0,by first|rfl|simp only[seval],?_⟩;try simp only[seval,dO,db,bA,fi,fj,eA,fq,bz,cg,iI,iS,jA,gC,aj.av]
     first|refine⟨kM x,ek,?_⟩|trace_state
     have hR:=rest (N+1,mp,D,(Bf u0 v0++[.cells x.l 76,.cells (D.l mp) 88])) ⟨fb,bF,⟨_,by rw[aU]<;>rw[SA]⟩,by rw[aU];rw[SA];exact aW H _ 0,by simp only[seval,dO,db,bA,fi,fj,eA,fq,bz,cg,iI,iS,jA,gC,aj.av]⟩;exact iZ (q_ rfl (by simp only[seval];simp[bw,Wk.refl])) hR
end
theorem al8{x:aj}{deep:Int}{D:Kn}(hx:x.Ok)(h:ez x deep D)(hh:D.has=true):jK x D.first:=by
 obtain⟨p,js,h1,h2,h3,_⟩:=h;have hp:=hx.am;have hj:∀j∈js,j<x.am.toNat+1:=λj hj=>by have:=TF.1 (h2.mem_iff.1 hj);omega
 obtain⟨j,a,t,l,b,c,d⟩:=aaF hx h3 (h2.nodup_iff.2 X5) hj hh;rw[c];exact QT (deep:=deep) (j:=j) hx (by have:=hj j a;omega) (by rw[b];simp)
namespace Tk
def tg (x:aj)(t:List Int)(i:Nat):List Int:=(SZ i).map λp=>t.getD (4+p) 0+x.first
def th (t:List Int)(i:Nat):List Int:=(SZ i).map λs=>t.getD (8+s) 0
theorem aiJ(x:aj)(t:List Int)(i:Nat):tg x t (i+1)=tg x t i++[t.getD (4+i) 0+x.first]:=by
 unfold tg;rw[Vk,TN];rfl
theorem aiL(t:List Int)(i:Nat):th t (i+1)=th t i++[t.getD (8+i) 0]:=by
 unfold th;rw[Vk,TN];rfl
theorem aiI(x:aj)(t:List Int)(i:Nat):(tg x t i).length=i:=by simp[tg]
theorem aiK(t:List Int)(i:Nat):(th t i).length=i:=by simp[th]
end Tk
theorem adK{a a' b b' c c' d d':AV}(h1:Wk a a')(h2:Wk b b')(h3:Wk c c')(h4:Wk d d'):Wk (.aM [a,b,c,d]) (.aM [a',b',c',d']):=λE v h=>by
 cases h with
 |aM hs h=>
  refine .aM hs λi x e=> ?_
  match i with
  |0=>cases e;exact h1 _ _ (h 0 a rfl)
  |1=>cases e;exact h2 _ _ (h 1 b rfl)
  |2=>cases e;exact h3 _ _ (h 2 c rfl)
  |3=>cases e;exact h4 _ _ (h 3 d rfl)
section
variable {lv:Bool}{H:List aa}{k kp:AV->List aa->Prop}
theorem ah4{x:aj}(hx:x.Ok)(hm:H[0]?=some .main)(hk:∀D,ez x 0 D->(D.has=false->k (.aM [br [],br [],br [],iv 11]) H)/\(D.has=true->k (.aM [br (D.first.take (x.hours.toNat+1)),br (tg x D.first x.pieces.length),br (th D.first x.aB.length),iv 0]) H)):bk true SC 18 H [x.av] k kp:=by
 refine bL (rs:=[.tmp 2,.tmp 3,.tmp 4,.tmp 5]) (nt:=64) Tryz.f18 λhH hA=> ?_;simp only[bt,SX,aj.av];have hp:=hx.am;have hh:=hx.hours;have oV:=hx.eN;have aR:=hx.dx;have jR:=hx.first;obtain⟨p,dQ⟩:∃p:Nat,x.am=p:=⟨x.am.toNat,by omega⟩;have bT:x.l=[iv x.first,iv x.hours,iv x.am,dP x.seen,aS x.pieces,aS x.aB]:=rfl;have aP:∀(L:List aa),(H++L)[H.length]?=L[0]?:=λL=>aW H L 0;have bz:x.l.length=6:=rfl;have ew:TU 6 x.l=x.l:=rfl;refine ak ?_;refine ai ?_;simp only[seval,aP,bz,ew];refine aI ((mC (x:=x) hx dQ (eI hm) Ix (λh=>by cases h) λ_ js D L mp dM dW bF kJ hg=> ?_));have fb:ez x 0 D:=⟨p,js,dQ,dM,dW,bF⟩;have cg:=Kn.len bF mp;have ek:=lg D mp;obtain⟨iP,cM⟩:=hk D fb;obtain⟨Y,hY⟩:∃Y:List aa,Y=[aa.cells x.l 26]++L:=⟨_,rfl⟩;obtain⟨B,hB⟩:∃B,B=H++Y:=⟨_,rfl⟩;have dT:H++[aa.cells x.l 26]++L=B:=by rw[hB,hY,SA]
 have Aa:∀(L':List aa),(B++L')[H.length]?=some (.cells x.l 26):=λL'=>by rw[hB,hY,SA,aP];rfl
 have bn:∀(L':List aa)(j:Nat),(B++L')[B.length+j]?=L'[j]?:=λL' j=>aW B L' j;have dZ:∀(L':List aa)(j:Nat)(y:aa),(B++L').set (B.length+j) y=B++L'.set j y:=λL' j y=>cY B L' j y;have fY:∀(L':List aa)(l1 l2 l3:List Int)(e e' PZ:End)(m:Int),k (.aM [br l1,br l2,br l3,iv m]) H->cK H.length (B++L') (.aM [.sl l1.length (l1.map iv) e,.sl l2.length (l2.map iv) e',.sl l3.length (l3.map iv) PZ,iv m]) k:=λL' l1 l2 l3 e e' PZ m h=>by
  rw[hB,SA];exact jN hH (adK (iz _ _ _) (iz _ _ _) (iz _ _ _) (Wk.refl _)) (by simp[jV,fe,br,vq]) h
 rw[dT];clear dT hg;(try simp only[seval,aj.av,bz,cg]);refine⟨kM x,ek,?_⟩;cases je:D.has with
 |false=>
  have hE:fS D=11:=by rw[fS,je];rfl
  refine ai ?_;simp only[seval,hE,show ((11:Int)!=0)=true from rfl];refine aD ?_;refine ak ?_;refine bf ?_;exact fY _ [] [] [] .exact .exact .exact 11 (iP je)
 |true=>
  have hE:fS D=0:=by rw[fS,je];rfl
  have cM:=cM je;have qQ:=al8 hx fb je;obtain⟨t,ht⟩:∃t,t=D.first:=⟨_,rfl⟩;rw[<- ht]at qQ cM;have qP:=qQ.len;obtain⟨pre,R9,Km⟩:∃pre:List AV,pre.length=17/\D.l mp=pre++(t.map iv++[]):=⟨bv D.has:: .mp mp::(D.aA.map (λn=>wv n)++(D.hours.map (λn=>wv n)++(D.less.map (λn=>wv n)++D.aX.map (λn=>wv n)))),by simp[bF.aA,bF.hours,bF.less,bF.aX],by rw[ht];simp[Kn.l]⟩;obtain⟨n,hn⟩:∃n:Nat,x.hours=n:=⟨x.hours.toNat,by omega⟩;have pN:x.hours+1=((n+1:Nat):Int):=by omega
  have bU:SE.wrap (x.hours+1)=((n+1:Nat):Int):=by rw[bG _ (by omega)];exact pN
  have cW:T1 1 x.l=[iv x.hours,iv x.am,dP x.seen,aS x.pieces,aS x.aB]:=rfl;have CD:T1 4 x.l=[.sl x.pieces.length (x.pieces.flatMap aC.l) .shut,.sl x.aB.length (x.aB.flatMap aC.l) .shut]:=rfl;have rP:T1 5 x.l=[.sl x.aB.length (x.aB.flatMap aC.l) .shut]:=rfl;refine ai ?_;simp only[seval,hE,show ((0:Int)!=0)=false from rfl];refine aD ?_;refine aN ?_;have eA:∀(L':List aa),(B++L')[B.length+1]?=L'[1]?:=λL'=>bn L' 1;have zA:∀(L':List aa),(B++L')[B.length+2]?=L'[2]?:=λL'=>bn L' 2;have uv:∀(L':List aa)(y:aa),(B++L').set (B.length+2) y=B++L'.set 2 y:=λL' y=>dZ L' 2 y;have bn3:∀(L':List aa),(B++L')[B.length+3]?=L'[3]?:=λL'=>bn L' 3;have bs3:∀(L':List aa)(y:aa),(B++L').set (B.length+3) y=B++L'.set 3 y:=λL' y=>dZ L' 3 y;have bn4:∀(L':List aa),(B++L')[B.length+4]?=L'[4]?:=λL'=>bn L' 4;have bs4:∀(L':List aa)(y:aa),(B++L').set (B.length+4) y=B++L'.set 4 y:=λL' y=>dZ L' 4 y;refine ai ?_;simp only[seval,Aa,cW,bU,adT];refine⟨by omega,by omega,?_⟩;have wn:(D.l mp).drop 17=t.map iv:=by rw[Km,SI,Wp (by omega),WT (by omega),UK]
  have alC:((n:Int)+1).toNat=n+1:=by omega
  have rW:min 4 (n+1)=n+1:=by omega
  have CP:min 4 11=4:=rfl;have Sp:min (n+1) 4=n+1:=by omega
  have aZ:TU (n+1) (TU 4 (U5 iv t))++T1 (n+1) (U5 iv (TG (n+1) 0))=(t.take (n+1)).map iv:=by rw[UZ,Sp,WT (by simp),SI,VX]
  refine ai ?_;simp only[seval,wn,alC,rW,CP,qP,Sp,Uf,YE,eA,zA,uv];refine⟨by rw[<- VX];exact of_eq_true (aaR _),?_⟩;rw[aZ];obtain⟨tl,LM⟩:∃tl,tl=t.take (n+1):=⟨_,rfl⟩;have aar:tl.length=n+1:=by rw[LM,Uf];omega
  have F2:x.hours.toNat=n:=by omega
  rw[F2,<- LM]at cM;rw[<- LM]
  (repeat apply iY);refine IA (id:=B.length+2) (by simp only[seval,zA]<;>rfl) ?_
  simp only[seval,uv,aar]
  (repeat apply iY);refine O_ (t:=2) (y:=br tl) (by simp only[seval]<;>rfl) ?_ ?_
  ·have e:br tl=.sl (n+1) ((tl.map iv).take (n+1)) .shut:=by
    rw[SS (by simp;omega),br,aar]
   rw[e];exact HO (p:=n+1) (by simp only[seval,zA]<;>rfl) (by omega) (by simp;omega)
  (repeat apply iY);refine vU (t:=3) (sz:=1) (el:=3) (by simp only[seval]<;>rfl) ?_
  refine ai ?_;simp only[seval,Aa,CD];obtain⟨gl,kX⟩:∃gl:Nat->List Int,∀i,gl i=tg x t i:=⟨_,λ_=>rfl⟩;have CJ:gl 0=[]:=by rw[kX];rfl
  have KL:∀i,(gl i).length=i:=λi=>by rw[kX];exact aiI _ _ _
  refine cL ?_;refine iD x.pieces.length (λi:Nat=>[(3,.sl (gl i).length ((gl i).map iv) (.opn (B.length+3))),(31,iv i)]) (λi=>B++[.cells x.l 76,.cells (D.l mp) 88,.part (n+1) (tl.map iv) 3,.tail (gl i).length 1 3]) (λi=>True) (λ_ _=>rfl) (by rw[CJ];simp only[seval];simp[bw,Wk.refl]) (by rw[CJ];rfl) (λ_ _ _=>by simp) trivial (λb_ dj i cV _ R hR=> ?_);refine ak ?_;refine aD ?_;refine⟨λh=> ?_,λh=> ?_⟩
  ·have bD:i<x.pieces.length:=(by omega);obtain⟨v,hv,hv9,_⟩:=qQ.num i bD;have CL:t.getD (4+i) 0=v:=(by rw[SD,hv];rfl);have b3:(0<=(i:Int)/\(i:Int)<4)=True:=(by simp;omega);have gv:SE.wrap ((i:Int)+1)=((i+1:Nat):Int):=(by rw[bG _ (by omega)];rfl);have Db:SE.wrap ((v:Int)+x.first)=v+x.first:=bG _ (by omega);have Kw:(D.l mp).drop (21+i)=iv v::((t.drop (4+i+1)).map iv++[]):=by
    have:=E_ Km R9 hv;rw[show 21+i=17+(4+i) by omega];exact this
   have dl:gl (i+1)=gl i++[(v:Int)+x.first]:=(by rw[kX,kX,aiJ,CL]);have Sb:=KL i;refine aN ?_;refine ak ?_;refine eU 10 ?_;simp only[seval,z1,Aa,eA,b3,Kw,Db,bT,bn3,bs3]
   first|refine⟨by decide,by omega,?_⟩|refine⟨by omega,?_⟩
   refine ai ?_;simp only[seval,gv];refine hR _ ⟨bD,trivial,?_⟩;rw[dl,TN,SP];exact dn
  ·have dF:i=x.pieces.length:=(by omega);subst dF;clear hR;refine cq ?_
   (repeat apply iY);refine vU (t:=4) (sz:=1) (el:=3) (by simp only[seval]<;>rfl) ?_
   have Gs:(gl x.pieces.length)=tg x t x.pieces.length:=kX _;generalize gl x.pieces.length=nl at Gs⊢;refine ai ?_;simp only[seval,Aa,rP];obtain⟨go,hgo⟩:∃go:Nat->List Int,∀i,go i=th t i:=⟨_,λ_=>rfl⟩;have RO:go 0=[]:=(by rw[hgo];rfl);have akr:∀i,(go i).length=i:=λi=>(by rw[hgo];exact aiK _ _);refine cL ?_;refine iD x.aB.length (λi:Nat=>[(4,.sl (go i).length ((go i).map iv) (.opn (B.length+4))),(49,iv i)]) (λi=>B++[.cells x.l 76,.cells (D.l mp) 88,.part (n+1) (tl.map iv) 3,.tail nl.length 1 3,.tail (go i).length 1 3]) (λi=>True) (λ_ _=>rfl) (by rw[RO];simp only[seval];simp[bw,Wk.refl]) (by rw[RO];rfl) (λ_ _ _=>by simp) trivial (λb_ dj i cV _ R hR=> ?_);refine ak ?_;refine aD ?_;refine⟨λh=> ?_,λh=> ?_⟩
   ·have bD:i<x.aB.length:=(by omega);obtain⟨v,hv,hv9⟩:=qQ.own i bD;have CL:t.getD (8+i) 0=v:=(by rw[SD,hv];rfl);have b3:(0<=(i:Int)/\(i:Int)<3)=True:=(by simp;omega);have gv:SE.wrap ((i:Int)+1)=((i+1:Nat):Int):=(by rw[bG _ (by omega)];rfl);have Kw:(D.l mp).drop (25+i)=iv v::((t.drop (8+i+1)).map iv++[]):=by
     have:=E_ Km R9 hv;rw[show 25+i=17+(8+i) by omega];exact this
    have dl:go (i+1)=go i++[(v:Int)]:=(by rw[hgo,hgo,aiL,CL]);have Sb:=akr i;refine aN ?_;refine ak ?_;refine ai ?_;simp only[seval,z1,eA,b3,Kw,bn4,bs4]
    first|refine⟨by decide,by omega,?_⟩|refine⟨by omega,?_⟩
    refine ai ?_;simp only[seval,gv];refine hR _ ⟨bD,trivial,?_⟩;rw[dl,TN,SP];exact dn
   ·have dF:i=x.aB.length:=(by omega);subst dF;clear hR;refine cq ?_;have hxo:(go x.aB.length)=th t x.aB.length:=hgo _;generalize go x.aB.length=ol at hxo⊢;refine ak ?_;refine bf ?_;rw[<- Gs,<- hxo]at cM;exact fY _ tl nl ol .shut _ _ 0 cM
end
open Go.Conc Go.Proofs Go.Gg.Tk
namespace Tk
def abj (n:Int)(o k:Int):Int:=yG [o,max (k-n) (n-k)]
def Dw (l:List Int)(n:Int)(o:Int):Int:=l.foldl (abj n) o
def rB (own q:Nat)(m:Int×Nat)(t:List Int):Int×Nat:=if m.2.testBit (mU t q)then m else(Dw (gg own 0 16) (mU t q) m.1,m.2|||2^mU t q)
def vP (x:aj)(y:aC)(q:Nat)(o:Int)(h:List Int):Int:=if cm h y=0 then o else((jG x 1 h).foldl (rB (cm h y) q) (o,0)).1
def zw (x:aj)(y:aC)(q:Nat):Nat->Int
 |0=> -1
 |i+1=>(kZ x i).foldl (vP x y q) (zw x y q i)
def It (x:aj)(i:Nat):List aa:=[.cells x.l 76,.cells [iv i] 3,.obj (.deferred (some [])),.gone]
def pt (x:aj):Nat->List aa
 |0=>[]
 |i+1=>pt x i++It x i
def xz (n:Nat):Nat->List Nat
 |0=>[]
 |i+1=>(n+4* i+2)::xz n i
theorem Iu(x:aj):∀i,(pt x i).length=4* i
 |0=>rfl
 |i+1=>by rw[pt,SP,Iu x i];rfl
theorem OP(x:aj)(B:List aa):∀(i:Nat)(L:List aa),∃Y,i_ (xz B.length i) (B++pt x i++L)=some (B++Y)
 |0,L=>⟨pt x 0++L,by rw[xz,zS,SA]⟩
 |i+1,L=>by
  have hl:(B++pt x i).length=B.length+4* i:=by rw[SP,Iu]
  have e:B++pt x (i+1)++L=(B++pt x i)++(It x i++L):=by rw[pt];simp
  have hg:((B++pt x i)++(It x i++L))[B.length+4* i+2]?=some (.obj (.deferred (some []))):=by rw[<- hl,aW];rfl
  obtain⟨Y,hY⟩:=OP x B i ([.cells x.l 76,.cells [iv i] 3,.gone,.gone]++L);refine⟨Y,?_⟩;rw[xz,e,zQ hg,<- hl,cY];exact hY
end Tk
theorem afQ{lv:Bool}{P:SJ}{nt:Nat}{c:Ua}{s:AS}{ms:List Nat}{Φ:an->AS->List Nat->Prop}(h:kP lv P nt [] c s ms Φ):mX lv P nt c s ms Φ:=λE V a Q ah hd hQ=>
 h E V a Q ah ⟨by rw[SI];exact hd.1,hd.2⟩ λae e E' V' a' s' cI hk aV cG he hΦ=>hQ ae e E' V' a' s' cI hk aV ⟨by have:=cG.1;rwa [SI]at this,cG.2⟩ he hΦ
section
variable {lv:Bool}{H:List aa}{k kp:AV->List aa->Prop}
theorem aie{x:aj}{s q:Nat}{y:aC}(hx:x.Ok)(hs:x.aB[s]?=some y)(hq:q<x.pieces.length)(hk:∀o:Int,o=zw (x.wo [(s:Int)]) y q (x.am.toNat+1)->k (.aM [iv (if o<0 then 0 else o),iv (if o<0 then 11 else 0)]) H):bk lv SC 31 H [x.av,iv s,iv q] k kp:=by
 refine Qy (rs:=[.tmp 6,.tmp 7]) (nt:=97) F.f31 rfl rfl rfl (by simp) λhH hA=> ?_;simp only[bt,SX,aj.av];have hp:=hx.am;have aR:=hx.dx;have oV:=hx.eN;have b9:=e_ hs;have jy:=abX hq;obtain⟨p,dQ⟩:∃p:Nat,x.am=p:=⟨x.am.toNat,by omega⟩;obtain⟨w,hw⟩:∃w,w=x.wo [(s:Int)]:=⟨_,rfl⟩;have LS:w.Ok:=by rw[hw];exact hx.wo _
 have bT:x.l=[iv x.first,iv x.hours,iv x.am,dP x.seen,aS x.pieces,aS x.aB]:=rfl;have bY:∀(L:List aa)(j:Nat),(H++L)[H.length+j]?=L[j]?:=λL j=>aW H L j;have kq:∀(L:List aa)(j:Nat)(y:aa),(H++L).set (H.length+j) y=H++L.set j y:=λL j y=>cY H L j y;have aP:∀(L:List aa),(H++L)[H.length]?=L[0]?:=λL=>aW H L 0;have cW:∀(L:List aa),(H++L)[H.length+1]?=L[1]?:=λL=>aW H L 1;have kV:∀(L:List aa),(H++L)[H.length+2]?=L[2]?:=λL=>aW H L 2;have rP:∀(L:List aa),(H++L)[H.length+5]?=L[5]?:=λL=>aW H L 5;have Lx:∀(L:List aa)(y:aa),(H++L).set (H.length+5) y=H++L.set 5 y:=λL y=>cY H L 5 y;have hd6:∀(L:List aa),(H++L)[H.length+6]?=L[6]?:=λL=>aW H L 6;have hs6:∀(L:List aa)(y:aa),(H++L).set (H.length+6) y=H++L.set 6 y:=λL y=>cY H L 6 y;have bz:x.l.length=6:=rfl;have ew:TU 6 x.l=x.l:=rfl;have RG:T1 5 x.l=[.sl x.aB.length (x.aB.flatMap aC.l) .shut]:=rfl;have CE:T1 2 x.l=[iv x.am,dP x.seen,aS x.pieces,aS x.aB]:=rfl;have nP:(1<=2^24)=True:=eq_true (by decide);(try refine nI ?_);refine ak ?_;(try refine nI ?_);refine ai ?_;simp only[seval,aP,bz,ew];refine aI ((Js (x:=x) hx ?_));(try simp only[seval]);(try refine nI ?_);refine ai ?_;simp only[seval,show ((0:Int)!=0)=false from rfl];(try refine nI ?_);refine aD ?_;refine aN ?_;(try refine nI ?_);refine ai ?_;simp only[seval,z1,nP,aP,kV,bz,ew];refine aI ((oH (x:=x) (ns:=[(q:Int)]) ?_));have bU:SE.wrap ((x.aB.length:Int)-1)=(x.aB.length:Int)-1:=bG _ (by omega);have ho1:(decide ((s:Int)<0)||decide ((s:Int)>(x.aB.length:Int)-1))=false:=by simp;omega
 (try simp only[seval]);refine aI ((oI (x:=x) (ns:=[(q:Int)]) (e:=.exact) (il:=H.length+4) (ir:=H.length+3) hx (by simp) (by rw[bY];rfl) (by rw[bY];rfl) ?_));rw[jy];(try simp only[seval,aP,cW,RG,bU]);refine aI ((te (n:=s) (lo:=0) (hi:=(x.aB.length:Int)-1) ?_));rw[ho1];(try simp only[seval]);(try refine nI ?_);refine aD ?_;refine aN ?_;(try refine nI ?_);have ajM:uj [(s:Int)] x.aB.length:=λi n hn=>by
  match i,hn with
  |0,hn=>cases hn;simp;omega
 refine ai ?_;simp only[seval,z1,nP,aP,cW,bz,ew];refine aI ((Qj (x:=x) (ns:=[(s:Int)]) aR ajM ?_));rw[<- hw];have sg:w.l.length=6:=rfl;have u':TU 6 w.l=w.l:=rfl;have Se:w.l=[iv w.first,iv w.hours,iv w.am,dP w.seen,aS w.pieces,aS w.aB]:=rfl;have LX:T1 6 [AV.val (SF SE 0),AV.val (SF SE 0),AV.val (SF SE 0),AV.sl 0 [] .exact,AV.sl 0 [] .exact,AV.sl 0 [] .exact]=[]:=rfl;(try simp only[seval,aj.av,sg,u',rP,Lx,hd6,hs6,LX]);refine⟨kM w,?_⟩;have f_:SE.wrap (x.am+1)=((p+1:Nat):Int):=by rw[dQ,bG _ (by omega)];rfl
 refine ID ?_;refine nI ?_;refine ai ?_;simp only[seval,aP,CE,f_];obtain⟨Bo,rJ⟩:∃Bo:Int->List aa,∀o,Bo o=H++[.cells x.l 26,.cells [iv s] 3,.cells [iv q] 3,.cells x.l 26,.cells [.sl 1 [iv q] .exact] 22,.cells w.l 76,.cells [iv o] 3]:=⟨_,λ_=>rfl⟩;have bA:∀o,(Bo o).length=H.length+7:=λo=>by rw[rJ];simp
 have b0:∀o L,(Bo o++L)[H.length]?=some (.cells x.l 26):=λo L=>by rw[rJ,SA,aP];rfl
 have b1:∀o L,(Bo o++L)[H.length+1]?=some (.cells [iv s] 3):=λo L=>by rw[rJ,SA,bY];rfl
 have b2:∀o L,(Bo o++L)[H.length+2]?=some (.cells [iv q] 3):=λo L=>by rw[rJ,SA,bY];rfl
 have b5:∀o L,(Bo o++L)[H.length+5]?=some (.cells w.l 76):=λo L=>by rw[rJ,SA,bY];rfl
 have b6:∀o L,(Bo o++L)[H.length+6]?=some (.cells [iv o] 3):=λo L=>by rw[rJ,SA,bY];rfl
 have s6:∀o o' L,(Bo o++L).set (H.length+6) (.cells [iv o'] 3)=Bo o'++L:=λo o' L=>by rw[rJ,rJ,SA,SA,kq];rfl
 obtain⟨fo,wu⟩:∃fo:Nat->Int,∀i,fo i=zw w y q i:=⟨_,λ_=>rfl⟩;refine afQ ?_;refine xB ?_;refine Pb (measure λi=>p+1-i).wf (λi:Nat=>⟨[(45,iv i),(44,iv ((p+1:Nat):Int)),(3,.op H.length 0),(4,.op (H.length+1) 0),(5,.op (H.length+2) 0),(9,.op (H.length+5) 0),(10,.op (H.length+6) 0)],Bo (fo i)++pt w i⟩) (λi=>xz (H.length+7) i) (λi=>i<=p+1) 0 (eE (by simp only[seval];simp[bw,Wk.refl]) (by rw[rJ,wu];show _=_++[];rw[SI];rfl)) rfl (by omega) λi oR=> ?_;obtain⟨N,hN⟩:∃N,N=H.length+7+4* i:=⟨_,rfl⟩;obtain⟨AO,qw⟩:∃AO:Int->List aa,∀o,AO o=Bo o++pt w i:=⟨_,λ_=>rfl⟩;have qx:∀o,(AO o).length=N:=λo=>by rw[qw,SP,bA,Iu,hN]
 have a0:∀o L,(AO o++L)[H.length]?=some (.cells x.l 26):=λo L=>by rw[qw,SA];exact b0 _ _
 have a1:∀o L,(AO o++L)[H.length+1]?=some (.cells [iv s] 3):=λo L=>by rw[qw,SA];exact b1 _ _
 have a2:∀o L,(AO o++L)[H.length+2]?=some (.cells [iv q] 3):=λo L=>by rw[qw,SA];exact b2 _ _
 have a5:∀o L,(AO o++L)[H.length+5]?=some (.cells w.l 76):=λo L=>by rw[qw,SA];exact b5 _ _
 have a50:∀o,(AO o)[H.length+5]?=some (.cells w.l 76):=λo=>by have:=a5 o [];rwa [SI]at this
 have a6:∀o L,(AO o++L)[H.length+6]?=some (.cells [iv o] 3):=λo L=>by rw[qw,SA];exact b6 _ _
 have as6:∀o o' L,(AO o++L).set (H.length+6) (.cells [iv o'] 3)=AO o'++L:=λo o' L=>by rw[qw,qw,SA,SA];exact s6 _ _ _
 have ag:∀o (L:List aa)(j:Nat),(AO o++L)[N+j]?=L[j]?:=λo L j=>by rw[<- qx o,aW]
 have us:∀o (L:List aa)(j:Nat)(y:aa),(AO o++L).set (N+j) y=AO o++L.set j y:=λo L j y=>by rw[<- qx o,cY]
 have MY:∀m o o',(∀z∈AO o,fh m z)->∀z∈AO o',fh m z:=λm o o' hz z fB=>by
  rw[qw,rJ]at hz fB;simp only[SV]at fB;rcases fB with(h'|h')|h'
  ·exact hz z (by simp[h'])
  ·simp only[SL,S0,or_false]at h';rcases h' with rfl|rfl|rfl|rfl|rfl|rfl|rfl
   ·exact hz _ (by simp)
   ·exact hz _ (by simp)
   ·exact hz _ (by simp)
   ·exact hz _ (by simp)
   ·exact hz _ (by simp)
   ·exact hz _ (by simp)
   ·intro a ha;rw[S9]at ha;subst ha;exact .val _
  ·exact hz z (by simp[h'])
 have okX:∀(X:List aa) o o',bM (AO o++X)->bM (AO o'++X):=λX o o' hX z hz=>by
  have hlen:(AO o'++X).length=(AO o++X).length:=by simp[qx]
  rw[hlen];rcases SV.1 hz with h'|h'
  ·exact MY _ o o' (λz hz=>hX z (Tf _ hz)) z h'
  ·exact hX z (S4 _ h')
 rw[<- qw];refine sZ ?_;refine ak ?_;refine sZ ?_;refine aD ?_;refine⟨λhc=> ?_,λhc=> ?_⟩
 ·have qD:i<=3:=by omega
  have JS:=D9 LS i qD;refine aN ?_;refine EN ?_;refine xB ?_;refine sZ ?_;refine ak ?_;refine sZ ?_;refine ai ?_;simp only[seval,a50,Se];refine aI ((Jt (x:=w) (n:=i) ?_));rw[qx];(try simp only[seval]);refine xB ?_;refine IE (by rfl) λl fn T OO bo hT xZ qB=> ?_;(try simp only[seval]);rw[qx];have hY:j6 lv SC (.fn (.yield l) [] []) (λo h=> .go (vP w y q o h)) (λo=>AO o++[.cells w.l 76,.cells [iv i] 3,.obj (.deferred (some [])),.loop l .ready none fn T 97 #[51] OO bo (N+2)]) (N+4) (λ_=>True) (λh=>mY h/\∀ns∈gD w h,∀a∈(iK w h ns).map (dH h ns),jK w a) (.aM []):=by
   refine⟨λo h M k kp _ ha dX=> ?_,λ_ _ _ _ _ _=>trivial,λo=>by simp[qx],λm o o' hz z fB=> ?_,rfl,rfl,rfl⟩
   ·obtain⟨pH,C9⟩:=ha;have h4:=pH.len;have nQ:(h.map iv).length=4:=(by rw[Tm,h4]);simp only[dc]at dX;obtain⟨Lo,lC⟩:∃Lo,Lo=aa.loop l .busy none fn T 97 #[51] OO bo (N+2):=⟨_,rfl⟩;obtain⟨C,hC⟩:∃C,C=N+4+M.length:=⟨_,rfl⟩;obtain⟨P1,dD⟩:∃P1:Int->List aa,∀o,P1 o=AO o++([.cells w.l 76,.cells [iv i] 3,.obj (.deferred (some [])),Lo]++M):=⟨_,λ_=>rfl⟩;have eJ:∀o,(P1 o).length=C:=λo=>(by rw[dD,hC];simp[qx];omega);have p0:∀o L,(P1 o++L)[H.length]?=some (.cells x.l 26):=λo L=>(by rw[dD,SA];exact a0 _ _);have p1:∀o L,(P1 o++L)[H.length+1]?=some (.cells [iv s] 3):=λo L=>(by rw[dD,SA];exact a1 _ _);have p2:∀o L,(P1 o++L)[H.length+2]?=some (.cells [iv q] 3):=λo L=>(by rw[dD,SA];exact a2 _ _);have p5:∀o L,(P1 o++L)[H.length+5]?=some (.cells w.l 76):=λo L=>(by rw[dD,SA];exact a5 _ _);have p6:∀o L,(P1 o++L)[H.length+6]?=some (.cells [iv o] 3):=λo L=>(by rw[dD,SA];exact a6 _ _);have ps6:∀o o' L,(P1 o++L).set (H.length+6) (.cells [iv o'] 3)=P1 o'++L:=λo o' L=>(by rw[dD o,dD o',SA (AO o),SA (AO o')];exact as6 _ _ _);have Na:∀o L,(P1 o++L)[N+3]?=some Lo:=λo L=>(by rw[dD,SA,ag];rfl);have Nt:∀o (L:List aa) y,(P1 o++L).set (N+3) y=AO o++([.cells w.l 76,.cells [iv i] 3,.obj (.deferred (some [])),y]++M)++L:=λo L y=>(by rw[dD,SA,us];simp);have pb:∀o (L:List aa)(j:Nat),(P1 o++L)[C+j]?=L[j]?:=λo L j=>(by rw[<- eJ o,aW]);have wX:∀o (L:List aa),(P1 o++L)[C]?=L[0]?:=λo L=>pb o L 0;have pb1:∀o (L:List aa),(P1 o++L)[C+1]?=L[1]?:=λo L=>pb o L 1;have pb2:∀o (L:List aa),(P1 o++L)[C+2]?=L[2]?:=λo L=>pb o L 2;have AX:∀o (L:List aa)(j:Nat)(y:aa),(P1 o++L).set (C+j) y=P1 o++L.set j y:=λo L j y=>(by rw[<- eJ o,cY]);have ps1:∀o (L:List aa)(y:aa),(P1 o++L).set (C+1) y=P1 o++L.set 1 y:=λo L y=>AX o L 1 y;have ps2:∀o (L:List aa)(y:aa),(P1 o++L).set (C+2) y=P1 o++L.set 2 y:=λo L y=>AX o L 2 y;have AL:∀m o o',(∀z∈P1 o,fh m z)->∀z∈P1 o',fh m z:=λm o o' hz z fB=>by
     rw[dD]at hz fB;rcases SV.1 fB with h'|h'
     ·exact MY m o o' (λz vb=>hz z (Tf _ vb)) z h'
     ·exact hz z (S4 _ h')
    subst hT xZ qB;rw[SA];refine vY (id:=N+3) (by rw[ag];rfl) rfl (by kernel_rfl) λoK JU=> ?_;simp only[sI];have wq:T1 4 [iv 0,iv 0,iv 0,iv 0]=[]:=rfl;refine ai ?_;simp only[seval,h4,wq];unfold uq;refine⟨none,fn,_,97,#[51],_,_,_,by rw[ag];rfl,?_⟩;dsimp only;rw[us];simp only[UE,T4];rw[<- lC];have xT:(AO o).length+(M.length+1+1+1+1)=C:=(by rw[qx,hC];omega);rw[xT];have yc:∀z:aa,(AO o++aa.cells w.l 76::aa.cells [AV.val (SF SE ↑i)] 3::aa.obj (aub (some []))::Lo::(M++[z]))=P1 o++[z]:=λz=>(by rw[dD];simp[iv]);rw[yc];obtain⟨own,eM⟩:∃own,own=cm h y:=⟨_,rfl⟩;refine cL ?_;refine pu [7,8] [0,1,2,3,4,5,6,7,8] [⟨0,false,[],[([7],[7])]⟩,⟨1,false,[],[([7],[7])]⟩,⟨2,false,[],[([7],[7])]⟩,⟨3,false,[],[([7],[7])]⟩,⟨4,false,[],[([7],[7])]⟩,⟨5,false,[],[([7],[7])]⟩,⟨6,false,[],[([7],[7])]⟩,⟨7,true,[7],[]⟩,⟨8,true,[7,8],[]⟩] (λD=>bif isDone 8 D then P1 o++[.cells (h.map iv) 83,.cells [wv own] 79]else bif isDone 7 D then P1 o++[.cells (h.map iv) 83,.cells [.val (.int .u16 0)] 79]else P1 o++[.cells (h.map iv) 83]) ?_;simp only[seval,eJ,wX,pb1,ps1,p0,p1,h4,nQ,RG,DY hs,j8 b9];have hmE:TU 4 (U5 (λn=>AV.val (SF SE n)) h)=h.map iv:=SS (by rw[nQ];exact SR _);rw[hmE];refine iU (wv own) (bX (Fc (h:=h) (y:=y) pH ⟨by rw[eM],rfl⟩)) ?_;refine⟨iU (wv own) (bX (Fc (h:=h) (y:=y) pH ⟨by rw[eM],rfl⟩)) rfl,?_⟩;(try simp only[seval,wv]);have hm3:U5 (λn=>AV.val (SF SE n)) h=h.map iv:=rfl;rw[hm3];refine ai ?_;simp only[seval,pb1];refine aD ?_;refine⟨λhz=> ?_,λhz=> ?_⟩
    ·refine cq ?_;have fB:own=0:=(by simpa using hz);have e1:vP w y q o h=o:=(by unfold vP;rw[<- eM,if_pos fB]);rw[e1]at dX;show pn _ _ _ _ _ _ _;refine⟨l,.busy,none,fn,_,97,#[51],_,_,N+2,by show (P1 _++_)[_]?=_;rw[Na,lC],?_⟩;show cK C ((P1 _++_).set _ _) _ k;rw[Nt];rw[SA]at dX;exact kg (G:=[.cells (h.map iv) 83,.cells [wv own] 79]) (Wk.refl _) rfl (by rw[hC];simp[qx];omega) oK (.val _) dX
    ·refine aN ?_;refine ai ?_;simp only[seval,eJ];refine ai ?_;simp only[seval,p5,wX,Se,h4,nQ];have akF:TU 4 (U5 iv h)=h.map iv:=SS (by rw[nQ];exact SR _);rw[akF];refine aI ((Ju (x:=w) (h:=h) (deep:=1) ?_));(try simp only[seval]);have fB:own≠0:=(by simpa using hz);have akR:own<65536:=by
      rw[eM];have:cm h y<2^9:=EO;omega
     refine cL ?_;refine EL (N+3) (by rfl) (by show (P1 _++_)[N+3]?=_;rw[Na,lC]) λl2 e9 T2 gV gW oL x6 x7=> ?_;simp only[seval];rw[eJ]at oL⊢;have okm:∀v m m',(∀z∈[aa.cells (h.map iv) 83,.cells [wv own] 79,.cells [wv m] 79,.cells w.l 76,.cells (h.map iv) 83,.cells [iv 1] 3,.loop l2 .ready none e9 T2 97 #[64] gV gW (N+2)],fh v z)->∀z∈[aa.cells (h.map iv) 83,.cells [wv own] 79,.cells [wv m'] 79,.cells w.l 76,.cells (h.map iv) 83,.cells [iv 1] 3,.loop l2 .ready none e9 T2 97 #[64] gV gW (N+2)],fh v z:=λv m m' hz z fB=>by
      simp only[SL,S0,or_false]at fB;rcases fB with rfl|rfl|rfl|rfl|rfl|rfl|rfl
      ·exact hz _ (by simp)
      ·exact hz _ (by simp)
      ·intro a ha;rw[S9]at ha;subst ha;exact .val _
      ·exact hz _ (by simp)
      ·exact hz _ (by simp)
      ·exact hz _ (by simp)
      ·exact hz (.loop l2 .ready none e9 T2 97 #[64] gV gW (N+2)) (by simp)
     have xY:j6 lv SC (.fn (.yield l2) [] []) (λm t=> .go (rB own q m t)) (λm:Int×Nat=>P1 m.1++[.cells (h.map iv) 83,.cells [wv own] 79,.cells [wv m.2] 79,.cells w.l 76,.cells (h.map iv) 83,.cells [iv 1] 3,.loop l2 .ready none e9 T2 97 #[64] gV gW (N+2)]) (C+7) (λm=>m.2<65536) (jK w) (.aM []):=by
      refine⟨λm t M2 k2 yE hm ht lH=> ?_,λm t m' hm ht he=> ?_,λm=>by simp[eJ],λv m m' hz z fB=> ?_,rfl,rfl,rfl⟩
      ·obtain⟨o2,met⟩:=m;replace hm:met<65536:=hm;have qP:=ht.len;have AA:(t.map iv).length=11:=(by rw[Tm,qP]);simp only[dc]at lH;have Gq:w.pieces.length=x.pieces.length:=(by rw[hw];rfl);obtain⟨n,me,hn9,_⟩:=ht.num q (by rw[Gq];exact hq);have Gi:mU t q=n:=(by unfold mU;rw[SD,me];rfl);obtain⟨qj,tn⟩:∃Lo,Lo=aa.loop l2 .busy none e9 T2 97 #[64] gV gW (N+2):=⟨_,rfl⟩;obtain⟨D,hD⟩:∃D,D=C+7+M2.length:=⟨_,rfl⟩;obtain⟨Q1,gK⟩:∃Q1:Int->Nat->List aa,∀o m,Q1 o m=P1 o++([.cells (h.map iv) 83,.cells [wv own] 79,.cells [wv m] 79,.cells w.l 76,.cells (h.map iv) 83,.cells [iv 1] 3,qj]++M2):=⟨_,λ_ _=>rfl⟩;have Rb:∀o m,(Q1 o m).length=D:=λo m=>(by rw[gK,hD];simp[eJ];omega);have q2:∀o m L,(Q1 o m++L)[H.length+2]?=some (.cells [iv q] 3):=λo m L=>(by rw[gK,SA];exact p2 _ _);have q6:∀o m L,(Q1 o m++L)[H.length+6]?=some (.cells [iv o] 3):=λo m L=>(by rw[gK,SA];exact p6 _ _);have qs6:∀o o' m L,(Q1 o m++L).set (H.length+6) (.cells [iv o'] 3)=Q1 o' m++L:=λo o' m L=>(by rw[gK o,gK o',SA (P1 o),SA (P1 o')];exact ps6 _ _ _);have qo:∀o m L,(Q1 o m++L)[C+1]?=some (.cells [wv own] 79):=λo m L=>(by rw[gK,SA,pb];rfl);have qm:∀o m L,(Q1 o m++L)[C+2]?=some (.cells [wv m] 79):=λo m L=>(by rw[gK,SA,pb];rfl);have qsm:∀o m m' L,(Q1 o m++L).set (C+2) (.cells [wv m'] 79)=Q1 o m'++L:=λo m m' L=>(by rw[gK o m,gK o m',SA (P1 o),AX,SA (P1 o)];rfl);have ql:∀o m L,(Q1 o m++L)[C+6]?=some qj:=λo m L=>(by rw[gK,SA,pb];rfl);have qsl:∀o m L y,(Q1 o m++L).set (C+6) y=(P1 o++([.cells (h.map iv) 83,.cells [wv own] 79,.cells [wv m] 79,.cells w.l 76,.cells (h.map iv) 83,.cells [iv 1] 3,y]++M2))++L:=λo m L y=>(by rw[gK,SA,AX];simp);have qc:∀o m (L:List aa),(Q1 o m++L)[D]?=L[0]?:=λo m L=>(by rw[<- Rb o m];exact aW _ L 0);have Hg:∀o (L:List aa),(P1 o++L)[C+6]?=L[6]?:=λo L=>pb o L 6;have tE:∀(o':Int)(m':Nat)(G:List aa),bM (P1 o2++([aa.cells (h.map iv) 83,.cells [wv own] 79,.cells [wv met] 79,.cells w.l 76,.cells (h.map iv) 83,.cells [iv 1] 3,.loop l2 .ready none e9 T2 97 #[64] gV gW (N+2)]++M2))->k2 (.val (.bool true)) (P1 o'++([aa.cells (h.map iv) 83,.cells [wv own] 79,.cells [wv m'] 79,.cells w.l 76,.cells (h.map iv) 83,.cells [iv 1] 3,.loop l2 .ready none e9 T2 97 #[64] gV gW (N+2)]++M2))->cK D ((Q1 o' m'++G).set (C+6) (.loop l2 .ready none e9 T2 97 #[64] gV gW (N+2))) (.val (.bool true)) k2:=λo' m' G au aJ=>by
        rw[qsl];refine kg (G:=G) (Wk.refl _) rfl (by rw[hD];simp[eJ];omega) ?_ (.val _) aJ;intro z hz;have hlen:(P1 o'++([aa.cells (h.map iv) 83,.cells [wv own] 79,.cells [wv m'] 79,.cells w.l 76,.cells (h.map iv) 83,.cells [iv 1] 3,.loop l2 .ready none e9 T2 97 #[64] gV gW (N+2)]++M2)).length=(P1 o2++([aa.cells (h.map iv) 83,.cells [wv own] 79,.cells [wv met] 79,.cells w.l 76,.cells (h.map iv) 83,.cells [iv 1] 3,.loop l2 .ready none e9 T2 97 #[64] gV gW (N+2)]++M2)).length:=(by simp[eJ]);rw[hlen];rcases SV.1 hz with h'|h'
        ·exact AL _ o2 o' (λz hz=>au z (Tf _ hz)) z h'
        ·rcases SV.1 h' with h'|h'
         ·exact okm _ met m' (λz hz=>au z (S4 _ (Tf _ hz))) z h'
         ·exact au z (S4 _ (S4 _ h'))
       subst oL x6 x7;rw[SA];refine vY (id:=C+6) (by rw[Hg];rfl) rfl (by kernel_rfl) λrK JV=> ?_;simp only[sI];have CE:T1 11 [iv 0,iv 0,iv 0,iv 0,iv 0,iv 0,iv 0,iv 0,iv 0,iv 0,iv 0]=[]:=rfl;refine ai ?_;simp only[seval,qP,CE];unfold uq;refine⟨none,e9,_,97,#[64],_,_,_,by rw[Hg];rfl,?_⟩;dsimp only;rw[AX];simp only[UE,T4];rw[<- tn];have Cj:(P1 o2).length+(M2.length+1+1+1+1+1+1+1)=D:=(by rw[eJ,hD];omega);rw[Cj];have jd:∀z:aa,(P1 o2++aa.cells (U5 iv h) 83::aa.cells [AV.val (SF S5 ↑own)] 79::aa.cells [AV.val (SF S5 ↑met)] 79::aa.cells w.l 76::aa.cells (U5 iv h) 83::aa.cells [AV.val (SF SE 1)] 3::qj::(M2++[z]))=Q1 o2 met++[z]:=λz=>(by rw[gK];simp[iv]);rw[jd];have b4:(0<=(q:Int)/\(q:Int)<4)=True:=(by simp;omega);have pF:=ly (i:=4+q) me;refine ai ?_;simp only[seval,q2,qc,b4,pF];refine ai ?_;simp only[seval,qm];refine aI ((xL (m:=met) (n:=n) hm ?_));(try simp only[seval]);refine aD ?_;refine⟨λhb=> ?_,λhb=> ?_⟩
       ·refine cq ?_;have e1:rB own q (o2,met) t=(o2,met):=(by unfold rB;rw[Gi,if_pos hb]);rw[e1]at lH;rw[SA]at lH;show pn _ _ _ _ _ _ _;refine⟨l2,.busy,none,e9,_,97,#[64],_,_,N+2,by show (Q1 _ _++_)[_]?=_;rw[ql,tn],?_⟩;exact tE o2 met _ rK lH
       ·refine aN ?_;have dL:met.testBit n=false:=(by simpa using hb);have e1:rB own q (o2,met) t=(Dw (gg own 0 16) n o2,met|||2^n):=(by unfold rB;rw[Gi,if_neg (by simpa using hb)]);rw[e1]at lH;rw[SA]at lH;refine ai ?_;simp only[seval,qm];refine aI ((uD (m:=met) (n:=n) hm (by omega) ?_));(try simp only[seval,qm,qsm,wv]);refine ai ?_;simp only[seval,qo];refine aI ((Jr (s:=own) (more:=0) akR (by decide) ?_));(try simp only[seval,br]);have Sa:∀v∈gg own 0 16,0<=v/\v<16:=λv hv=>by
         unfold gg at hv;obtain⟨j,hj,rfl⟩:=Tl.1 hv;have:=TF.1 (Uv.1 hj).1;omega
        have iG:=MA own 0 16;generalize gg own 0 16=ls at Sa iG lH⊢;obtain⟨oj,k_⟩:∃oj:Nat->Int,∀j,oj j=Dw (ls.take j) n o2:=⟨_,λ_=>rfl⟩;have akT:oj 0=o2:=(by rw[k_];rfl);generalize met|||2^n=aa9 at lH⊢;refine cL ?_;refine iD ls.length (λj:Nat=>[(78,iv j)]) (λj=>Q1 (oj j) aa9++[.cells (t.map iv) 86]) (λ_=>True) (λ_ _=>rfl) (by simp only[seval];simp[bw,Wk.refl]) (by rw[akT]) (λ_ _ _=>by simp[Rb]) trivial (λb_ dj j pJ _ R hR=> ?_);clear b_ dj;refine ak ?_;refine aD ?_;refine⟨λh1=> ?_,λh1=> ?_⟩
        ·have fE:j<ls.length:=(by omega);obtain⟨v,hv⟩:=cD fE;have hvb:=Sa v (wR hv);have dl:oj (j+1)=abj n (oj j) v:=by
          rw[k_,k_,Dw,Dw];obtain⟨aky,yu⟩:=SM.1 hv;rw[XF aky,ZN,yu];rfl
         have hwa:SE.wrap (v-(n:Int))=v-n:=bG _ (by omega);have Gp:SE.wrap ((n:Int)-v)=n-v:=bG _ (by omega);have gv:SE.wrap ((j:Int)+1)=((j+1:Nat):Int):=(by rw[bG _ (by omega)];rfl);have ajD:(2<=2^24)=True:=eq_true (by decide);refine aN ?_;refine ai ?_;simp only[seval,ff hv,j8 fE];refine ai ?_;simp only[seval,q6,z2,ajD,hwa,Gp];have CQ:(if v-(n:Int)<(n:Int)-v then(n:Int)-v else v-(n:Int))=max (v-n) (n-v):=(by split<;>omega);rw[CQ];refine aI ((air (ns:=[oj j,max (v-n) (n-v)]) (by simp) ?_));(try simp only[seval,q6,qs6]);refine ai ?_;simp only[seval,gv];refine hR _ ⟨fE,trivial,?_⟩;rw[dl];exact dn
        ·have yi:j=ls.length:=(by omega);subst yi;refine cq ?_;show pn _ _ _ _ _ _ _;refine⟨l2,.busy,none,e9,_,97,#[64],_,_,N+2,by show (Q1 _ _++_)[_]?=_;rw[ql,tn],?_⟩;exact tE (oj ls.length) aa9 _ rK (by rw[k_,TQ];exact lH)
      ·cases he;show (rB own q m t).2<65536;unfold rB;split
       ·exact hm
       ·obtain⟨n,me,hn9,_⟩:=ht.num q (by rw[hw];exact hq);have Gi:mU t q=n:=(by unfold mU;rw[SD,me];rfl);rw[Gi];exact p_ hm (xa (by omega))
      ·rcases SV.1 fB with h'|h'
       ·exact AL v m.1 m'.1 (λz vb=>hz z (Tf _ vb)) z h'
       ·exact okm v m.2 m'.2 (λz vb=>hz z (S4 _ vb)) z h'
     refine bX (Jx (x:=w) (h:=h) (deep:=1) (ir:=C+3) (ih:=C+3+1) (id:=C+3+2) (σ:=(o,0)) LS pH xY (λm L=> ?_) (λm L=> ?_) (λm L=> ?_) (λn=>by simp[jV]) (show (0:Nat)<65536 by decide) (λa ha=>ha.len) C9 ?_)
     ·rw[SA];exact pb _ _ 3
     ·rw[SA];exact pb _ _ 4
     ·rw[SA];exact pb _ _ 5
     rw[DO (g:=rB own q) (λ_ _=>rfl)];simp only[gH,SI];have e1:vP w y q o h=((jG w 1 h).foldl (rB own q) (o,0)).1:=(by unfold vP;rw[<- eM,if_neg fB]);generalize(jG w 1 h).foldl (rB own q) (o,0)=r at e1⊢;rw[e1]at dX;have Hg:∀o (L:List aa),(P1 o++L)[C+6]?=L[6]?:=λo L=>pb o L 6;refine⟨.ready,none,_,_,_,_,_,_,_,by rw[Hg];rfl,by decide,?_⟩;rw[AX,Hj];(try simp only[seval]);show pn _ _ _ _ _ _ _;refine⟨l,.busy,none,fn,_,97,#[51],_,_,N+2,by show (P1 _++_)[_]?=_;rw[Na,lC],?_⟩;show cK C ((P1 _++_).set _ _) _ k;rw[Nt];rw[SA]at dX;exact kg (G:=[.cells (h.map iv) 83,.cells [wv own] 79,.cells [wv r.2] 79,.cells w.l 76,.cells (h.map iv) 83,.cells [iv 1] 3,.gone]) (Wk.refl _) rfl (by rw[hC];simp[qx];omega) (okX _ o r.1 oK) (.val _) dX
   ·rcases SV.1 fB with h'|h'
    ·exact MY m o o' (λz vb=>hz z (Tf _ vb)) z h'
    ·exact hz z (S4 _ h')
  refine bX (Jv (x:=w) (bh:=i) (ir:=N) (it:=N+1) (σ:=fo i) LS hY (λo L=> ?_) (λo L=> ?_) qD (λn=>by simp[jV]) trivial (λa ha=>JS a ha) ?_)
  ·rw[SA];exact ag _ _ 0
  ·rw[SA];exact ag _ _ 1
  rw[DO (g:=vP w y q) (λ_ _=>rfl)];simp only[gH,SI];have hfx:(kZ w i).foldl (vP w y q) (fo i)=fo (i+1):=by rw[wu,wu,zw]
  rw[hfx];have yy:SE.wrap ((i:Int)+1)=((i+1:Nat):Int):=by rw[bG _ (by omega)];rfl
  refine⟨.ready,none,_,_,_,_,_,_,_,by show (AO _++_)[N+3]?=_;rw[ag];rfl,by decide,?_⟩;rw[show N+2+1=N+3 from rfl,us,Hi];(try simp only[seval]);refine EM ?_;refine ai ?_;simp only[seval,yy];refine⟨i+1,?_,by omega,eE (by push_cast;simp only[seval];simp[bw,Wk.refl]) (by rw[qw,pt,SA];rfl),by rw[xz,hN]⟩;show p+1-(i+1)<p+1-i;omega
 ·have dF:i=p+1:=by omega
  subst dF;refine cq ?_;have Ip:∀o,(AO o)[H.length+6]?=some (.cells [iv o] 3):=λo=>by have:=a6 o [];rwa [SI]at this
  have n9:x.am.toNat=p:=by omega
  rw[n9]at hk;have aJ:=hk (fo (p+1)) (by rw[wu,hw]);generalize fo (p+1)=o at aJ⊢;(try refine nI ?_);refine ai ?_;simp only[seval,Ip];obtain⟨Y,wb⟩:=OP w (Bo o) (p+1) [];rw[SI,bA]at wb;have Rk:i_ (xz (H.length+7) (p+1)) (AO o)=some (H++([.cells x.l 26,.cells [iv s] 3,.cells [iv q] 3,.cells x.l 26,.cells [.sl 1 [iv q] .exact] 22,.cells w.l 76,.cells [iv o] 3]++Y)):=by rw[qw,wb,rJ,SA]
  (try refine nI ?_);refine aD ?_;refine⟨λho=> ?_,λho=> ?_⟩
  ·have bc:o<0:=(by simpa using ho);rw[if_pos bc,if_pos bc]at aJ;refine ak ?_;refine bf ?_;refine eC Rk ?_;(try simp only[seval]);exact jN hH (Wk.refl _) (by simp[jV,fe]) aJ
  ·have bc:¬o<0:=(by simpa using ho);rw[if_neg bc,if_neg bc]at aJ;refine aN ?_;refine IC ?_;have Ip:∀o,(AO o)[H.length+6]?=some (.cells [iv o] 3):=λo=>(by have:=a6 o [];rwa [SI]at this);refine ai ?_;simp only[seval,Ip];refine bf ?_;refine eC Rk ?_;(try simp only[seval]);exact jN hH (Wk.refl _) (by simp[jV,fe]) aJ
end
open Go.Conc Go.Proofs Go.Gg.Tk
namespace Tk
def gn:aj:=⟨10,3,2,[⟨2,⟨12,13⟩⟩],[⟨⟨10,12⟩,⟨0,1⟩⟩,⟨⟨11,11⟩,⟨0,2⟩⟩,⟨⟨12,15⟩,⟨1,2⟩⟩],[⟨⟨12,12⟩,⟨0,2⟩⟩,⟨⟨10,15⟩,⟨2,2⟩⟩]⟩
def ua:aj:={gn with aB:=[⟨⟨15,15⟩,⟨0,0⟩⟩,⟨⟨10,15⟩,⟨2,2⟩⟩]}
end Tk
theorem adX:ie (TC #[SF .i64 0,SF .i64 0,SF .i64 0]) 3=[iv 0,iv 0,iv 0]:=rfl
theorem adW:ie (TC #[SF .i64 0,SF .i64 0,SF .i64 0,SF .i64 0]) 12=TG 12 (iv 0):=rfl
theorem adV:ie (TC #[SF .i64 0,SF .i64 0,SF .i64 0,SF .i64 0]) 8=[iv 0,iv 0,iv 0,iv 0,iv 0,iv 0,iv 0,iv 0]:=rfl
theorem ach:TG 12 (iv 0)=[iv 0,iv 0,iv 0,iv 0,iv 0,iv 0,iv 0,iv 0,iv 0,iv 0,iv 0,iv 0]:=rfl
theorem abQ:(3<=2^24)=True:=eq_true (by decide)
theorem abR:(8<=2^24)=True:=eq_true (by decide)
theorem abP:(12<=2^24)=True:=eq_true (by decide)
section
variable {lv:Bool}{H:List aa}{k kp:AV->List aa->Prop}
theorem xK(hk:k gn.av H):bk lv SC 53 H [] k kp:=by
 refine bL (rs:=[.cell 0 26]) (nt:=11) al' λhH hA=> ?_;simp only[bt,SX];refine ak ?_;refine ak ?_;refine aI ((Qk (a:=2) (b:=12) (c:=13) ?_));(try simp only[seval,Seen.av,Seen.l,iM.av,adX,abQ]);refine aI ((rG (a:=10) (b:=12) (c:=0) (d:=1) ?_));(try simp only[seval]);refine aI ((rG (a:=11) (b:=11) (c:=0) (d:=2) ?_));(try simp only[seval]);refine aI ((rG (a:=12) (b:=15) (c:=1) (d:=2) ?_));(try simp only[seval,aC.av,aC.l,adW,ach,abP]);refine aI ((rG (a:=12) (b:=12) (c:=0) (d:=2) ?_));(try simp only[seval]);refine aI ((rG (a:=10) (b:=15) (c:=2) (d:=2) ?_));have aP:∀(L:List aa),(H++L)[H.length]?=L[0]?:=λL=>aW H L 0;have cH:∀(L:List aa)(y:aa),(H++L).set H.length y=H++L.set 0 y:=λL y=>cY H L 0 y;(try simp only[seval,aC.av,aC.l,adV,abR,aP,cH]);refine nH ?_;simp only[seval,aP];refine jN hH (b:=gn.av) (Ee (.cons (Wk.refl _) (.cons (Wk.refl _) (.cons (Wk.refl _) (.cons (iz _ _ _) (.cons (iz _ _ _) (.cons (iz _ _ _) .nil))))))) (by rw[Ds];trivial) hk
theorem aim(hk:∀X:aa,k (.agg [iv 10,iv 3,iv 2,.sl 1 (gn.seen.flatMap Seen.l) .exact,.sl 3 (gn.pieces.flatMap aC.l) .exact,.bp (H.length+1) 0 2 2]) (H++[X,.cells (gn.aB.flatMap aC.l) 48])):bk lv SC 53 H [] k kp:=by
 refine bL (rs:=[.cell 0 26]) (nt:=11) al' λhH hA=> ?_;simp only[bt,SX];refine ak ?_
 (repeat apply iY);refine O6 8 (by kernel_rfl) ?_
 simp only[seval];refine aI ((Qk (a:=2) (b:=12) (c:=13) ?_));(try simp only[seval,Seen.av,Seen.l,iM.av,adX,abQ]);refine aI ((rG (a:=10) (b:=12) (c:=0) (d:=1) ?_));(try simp only[seval]);refine aI ((rG (a:=11) (b:=11) (c:=0) (d:=2) ?_));(try simp only[seval]);refine aI ((rG (a:=12) (b:=15) (c:=1) (d:=2) ?_));(try simp only[seval,aC.av,aC.l,adW,ach,abP]);refine aI ((rG (a:=12) (b:=12) (c:=0) (d:=2) ?_));(try simp only[seval]);refine aI ((rG (a:=10) (b:=15) (c:=2) (d:=2) ?_));have aP:∀(L:List aa),(H++L)[H.length]?=L[0]?:=λL=>aW H L 0;have cH:∀(L:List aa)(y:aa),(H++L).set H.length y=H++L.set 0 y:=λL y=>cY H L 0 y;(try simp only[seval,aC.av,aC.l,adV,abR,aP,cH]);refine nH ?_;simp only[seval,aP];exact cr (hk _)
theorem ain(hk:k ua.av H):bk lv SC 54 H [] k kp:=by
 refine bL (rs:=[.cell 0 26]) (nt:=8) Tryz.f54 λhH hA=> ?_;simp only[bt,SX];have bY:∀(L:List aa)(j:Nat),(H++L)[H.length+j]?=L[j]?:=λL j=>aW H L j;have kq:∀(L:List aa)(j:Nat)(y:aa),(H++L).set (H.length+j) y=H++L.set j y:=λL j y=>cY H L j y;have aP:∀(L:List aa),(H++L)[H.length]?=L[0]?:=λL=>aW H L 0;have cH:∀(L:List aa)(y:aa),(H++L).set H.length y=H++L.set 0 y:=λL y=>cY H L 0 y;refine ak ?_;refine ak ?_;refine aI ((aim (λX=> ?_)));simp only[SA,Ve,UK];have kV:∀(L:List aa),(H++L)[H.length+2]?=L[2]?:=λL=>aW H L 2;have gB:∀(L:List aa)(y:aa),(H++L).set (H.length+2) y=H++L.set 2 y:=λL y=>cY H L 2 y;have Ae:∀(L:List aa),(H++L)[H.length+3]?=L[3]?:=λL=>aW H L 3;have pS:∀(L:List aa)(y:aa),(H++L).set (H.length+3) y=H++L.set 3 y:=λL y=>cY H L 3 y;have hrx:gn.aB.flatMap aC.l=[iv 12,iv 12,iv 0,iv 2,iv 10,iv 15,iv 2,iv 2]:=rfl;rw[hrx];have e2:H.length+1+1=H.length+2:=rfl;(try simp only[seval,Ae,pS,e2]);refine eU 4 ?_;simp only[seval,kV,gB,Ae];refine iU _ (bX (rG (a:=15) (b:=15) (c:=0) (d:=0) ⟨rfl,rfl⟩)) ?_;(try simp only[seval,aC.av,aC.l,kV,gB]);obtain⟨rs,C2⟩:∃rs,rs=ua.aB.flatMap aC.l:=⟨_,rfl⟩;have als:[AV.val (SF SE 15),AV.val (SF SE 15),AV.val (SF SE 0),AV.val (SF SE 0),AV.val (SF SE 10),AV.val (SF SE 15),AV.val (SF SE 2),AV.val (SF SE 2)]=rs:=by rw[C2];rfl
 have u7:rs.length=8:=by rw[C2];rfl
 rw[als];refine ai ?_;simp only[seval,aP,cH,Ae]
 (repeat apply iY);refine IA (id:=H.length+2) (by simp only[seval,kV]<;>rfl) ?_
 simp only[seval,gB,u7]
 (repeat apply iY);refine IB (id:=H.length) (j:=5) (y:=aS ua.aB) (by simp only[seval,aP]<;>rfl) rfl ?_ ?_
 ·have e:aS ua.aB=.sl 2 (rs.take 8) .shut:=by rw[SS (by omega),C2];rfl
  rw[e];exact HO (p:=8) (by simp only[seval,kV]<;>rfl) (by omega) (by omega)
 (try simp only[seval,cH]);refine nH ?_;simp only[seval,aP];refine jN hH (b:=ua.av) (Ee (.cons (Wk.refl _) (.cons (Wk.refl _) (.cons (Wk.refl _) (.cons (iz _ _ _) (.cons (iz _ _ _) (.cons (Wk.refl _) .nil))))))) (by rw[Ds];trivial) hk
end
open Go.Gg.Tk
theorem yT:gn.Ok:=by
 refine⟨by decide,by decide,by decide,by decide,by decide,by decide,λs hs=> ?_,λy hy=> ?_,λy hy=> ?_⟩
 ·simp only[gn,S9]at hs;subst hs;exact⟨by decide,by decide,by decide,by decide⟩
 ·simp only[gn,SL,S0,or_false]at hy;rcases hy with rfl|rfl|rfl<;>exact⟨⟨by decide,by decide,by decide⟩,⟨by decide,by decide,by decide⟩⟩
 ·simp only[gn,SL,S0,or_false]at hy;rcases hy with rfl|rfl<;>exact⟨⟨by decide,by decide,by decide⟩,⟨by decide,by decide,by decide⟩⟩
theorem anK:ua.Ok:=by
 refine⟨by decide,by decide,by decide,by decide,by decide,by decide,λs hs=> ?_,λy hy=> ?_,λy hy=> ?_⟩
 ·simp only[ua,gn,S9]at hs;subst hs;exact⟨by decide,by decide,by decide,by decide⟩
 ·simp only[ua,gn,SL,S0,or_false]at hy;rcases hy with rfl|rfl|rfl<;>exact⟨⟨by decide,by decide,by decide⟩,⟨by decide,by decide,by decide⟩⟩
 ·simp only[ua,SL,S0,or_false]at hy;rcases hy with rfl|rfl<;>exact⟨⟨by decide,by decide,by decide⟩,⟨by decide,by decide,by decide⟩⟩
theorem ahG:cnt gn=4:=by kernel_rfl
theorem ahJ:live gn=[[10,11,13,14],[10,11,13,15],[10,12,13,14],[10,12,13,15]]:=by kernel_rfl
theorem ahH:(bZ gn).head?=some ⟨[10,11,13,14],[12,11,13],[0,2]⟩:=by kernel_rfl
theorem ahK:xC (DC gn 2) 10 16=[13,14]:=by kernel_rfl
theorem Qc:qb gn 0 0=true/\wV gn 0 0=false:=by decide+kernel
theorem Qa:Fh ua=some [0]:=by kernel_rfl
theorem ahE:zw (gn.wo [1]) ⟨⟨10,15⟩,⟨2,2⟩⟩ 0 3=1:=by kernel_rfl
open Go.Conc Go.Proofs
theorem Tk.Bounds.of_map{l:List (List Int)}{g:List Int->List Int}{v w:List Int->Int}{a b:Int}(h:Bounds (l.map g) v a b)(e:∀y∈l,v (g y)=w y):Bounds l w a b:=by
 obtain⟨g1,m1,e1⟩:=h.Gz;obtain⟨g2,m2,e2⟩:=h.Gy;obtain⟨y1,n1,rfl⟩:=Tl.1 m1;obtain⟨y2,n2,rfl⟩:=Tl.1 m2;exact⟨⟨y1,n1,e1.trans (e y1 n1)⟩,λy hy=>by rw[<- e y hy];exact h.le _ (Tl.2 ⟨y,hy,rfl⟩),⟨y2,n2,e2.trans (e y2 n2)⟩,λy hy=>by rw[<- e y hy];exact h.ge _ (Tl.2 ⟨y,hy,rfl⟩)⟩
theorem an8{h:List Int}{i:Nat}(hi:i<h.length):(cQ h).getD i 0=h.getD i 0:=by
 unfold cQ;rw[SD,SD,SY hi]
theorem amO{x:aj}{h:List Int}(hm:h∈live x):h.length=1+x.hours.toNat:=KV (Uv.1 hm).1
theorem aoz{x:aj}{D:Kn}(hx:x.Ok)(hD:ez x 0 D)(hh:D.has=true){hs:List (List Int)}(hp:hs.Perm D.aK)(v:List Int->Int)(w:List Int->Int)(e:∀y∈live x,v (cQ y)=w y):Bounds (live x) w (hs.foldl (λb h=>b.add (v h)) (⟨0,0,false⟩:iA)).lo (hs.foldl (λb h=>b.add (v h)) (⟨0,0,false⟩:iA)).hi:=by
 have cN:=hp.trans (aaK hx hD);have aG:hs≠[]:=λh=>by
  rw[h]at cN;have:=cN.length_eq;rw[Tm]at this;have h0:live x=[]:=VC this.symm;rw[(yB hx hD).2 (MB.1 h0)]at hh;cases hh
 exact((agi v aG).anT cN).of_map e
theorem Mp{x:aj}{deep:Int}{D:Kn}(hx:x.Ok)(hD:ez x deep D)(hh:D.has=true):bZ x≠[]:=λh=>by
 rw[(yB hx hD).2 h]at hh;cases hh
theorem aa8{α:Type}{f:Nat->α}{l:List α}{n:Nat}(d:α)(hl:l.length=n)(h:∀i,i<n->f i=l.getD i d):(SZ n).map f=l:=by
 refine Yj λi=> ?_;rw[Tn];by_cases hi:i<n
 ·rw[XI hi,UO,h i hi,SD,SO (by omega)];rfl
 ·rw[Uu (by simp;omega),Uu (by omega)];rfl
theorem ahk{x:aj}(hx:x.Ok){u:Tr}(hu:u∈bZ x){s:Nat}(hs:s<x.aB.length):(eV u).getD (8+s) 0=((u.bK.getD s 0:Nat):Int):=by
 obtain⟨h1,h2⟩:=w_ hx hu;have h3:=(HH hx hu).1;have hh:=hx.hours;have oV:=hx.eN;have h4:=yP (h:=u.bE) (by omega);have b9:s<u.bK.length:=by omega
 have hg:(eV u)[8+s]?=some ((u.bK[s]:Nat):Int):=by
  unfold eV dH lP;have h8:(cQ u.bE++((u.aA.map λn=>(n-u.bE.headD 0).toNat).map (λn:Nat=>(n:Int))++TG (4-(u.aA.map λn=>(n-u.bE.headD 0).toNat).length) (-1))).length=8:=by simp[h4];omega
  rw[S8 (by omega),h8,TS,SY (by simpa using b9),Tn,SO b9];rfl
 rw[SD,hg,SD,SO b9];rfl
theorem arV{x:aj}{u:Tr}(hu:u∈bZ x):u.bE.headD 0=x.first:=by
 obtain⟨h,a,b⟩:=S6.1 hu;rw[y8 b];exact(Ak _ _ _ (by simp) a).2
theorem aiV{x:aj}(hx:x.Ok){u:Tr}(hu:u∈bZ x):(eV u).take (x.hours.toNat+1)=u.bE:=by
 have hl:=(w_ hx hu).1;have hh:=hx.hours;have h1:(eV u).take (x.hours.toNat+1)=((eV u).take 4).take (x.hours.toNat+1):=by rw[UZ,Ww (by omega)]
 rw[h1,Jg hx hu];exact M5 (by omega)
theorem aiW{x:aj}(hx:x.Ok){u:Tr}(hu:u∈bZ x):tg x (eV u) x.pieces.length=u.aA:=by
 unfold tg;refine aa8 0 (w_ hx hu).2 λi hi=> ?_;rw[ahh hx hu hi,arV hu];omega
theorem aiX{x:aj}(hx:x.Ok){u:Tr}(hu:u∈bZ x):th (eV u) x.aB.length=u.bK.map λn:Nat=>(n:Int):=by
 unfold th;refine aa8 0 (by rw[Tm];exact(HH hx hu).1) λi hi=> ?_;have hl:=(HH hx hu).1;rw[ahk hx hu hi,SD,SD,Tn,SO (by omega)];rfl
section
variable {H:List aa}{k kp:AV->List aa->Prop}{x:aj}
theorem Jm(hx:x.Ok)(hm:H[0]?=some .main)(hk:k (.aM [iv (cnt x),iv 0]) H):bk true SC 21 H [x.av] k kp:=
 ah7 hx hm λD hD=>by rw[count_eq hx hD];exact hk
theorem aij{hour:Nat}(hx:x.Ok)(hh:(hour:Int)<=x.hours)(hm:H[0]?=some .main)(h0:bZ x=[]->k (.aM [.agg [iv 0,iv 0],iv 11]) H)(h1:∀lo hi,bZ x≠[]->Bounds (live x) (λh=>h.getD hour 0) lo hi->k (.aM [.agg [iv lo,iv hi],iv 0]) H):bk true SC 36 H [x.av,iv hour] k kp:=
 aii hx hh hm λD hD=>⟨λhn=>h0 ((yB hx hD).1 hn),λhy hs hp=>h1 _ _ (Mp hx hD hy) (aoz hx hD hy hp (λh=>h.getD hour 0) _ λy pY=>an8 (by rw[amO pY];have:=hx.hours;omega))⟩
theorem aih{q:Nat}(hx:x.Ok)(hq:q<x.pieces.length)(hm:H[0]?=some .main)(h0:bZ x=[]->k (.aM [br [],iv 11]) H)(h1:bZ x≠[]->k (.aM [br (xC (DC x q) x.first 16),iv 0]) H):bk true SC 34 H [x.av,iv q] k kp:=
 aig hx hq hm λD hD=>⟨λhn=>h0 ((yB hx hD).1 hn),λhy=>by rw[aaX λn _=>anH hx hD hq n];exact h1 (Mp hx hD hy)⟩
theorem Jn{s q:Nat}(hx:x.Ok)(hs:s<x.aB.length)(hq:q<x.pieces.length)(hm:H[0]?=some .main)(hk:k (.aM [iv (if(bZ x).isEmpty then 0 else vM (qb x s q) (wV x s q)),iv (if(bZ x).isEmpty then 11 else 0)]) H):bk true SC 28 H [x.av,iv s,iv q] k kp:=
 aid hx hs hq hm λD hD=>by rw[aob hx hD hs,afY hx hD];exact hk
def Ch (x:aj)(i:Nat):List Int:=(SZ i).flatMap λs=>if 1<(xC (qb x s) 0 16).length then[-1]else xC (qb x s) 0 16
theorem aic(hx:x.Ok)(hm:H[0]?=some .main)(h0:bZ x=[]->k (.aM [br [],iv 11]) H)(h1:bZ x≠[]->k (.aM [br (Ch x x.aB.length),iv 0]) H):bk true SC 26 H [x.av] k kp:=
 aib hx hm λD hD=>⟨λhn=>h0 ((yB hx hD).1 hn),λhy=>by
  have e:uE D.aX x.aB.length=Ch x x.aB.length:=by
   unfold uE Ch;refine B_ λs hs=> ?_;rw[aaX λn _=>M6 hx hD (TF.1 hs) n]
  rw[e];exact h1 (Mp hx hD hy)⟩
theorem ah5(hx:x.Ok)(hm:H[0]?=some .main)(h0:bZ x=[]->k (.aM [br [],br [],br [],iv 11]) H)(h1:∀u l,bZ x=u::l->k (.aM [br u.bE,br u.aA,br (u.bK.map λn:Nat=>(n:Int)),iv 0]) H):bk true SC 18 H [x.av] k kp:=
 ah4 hx hm λD hD=>⟨λhn=>h0 ((yB hx hD).1 hn),λhy=>by
  obtain⟨u,l,e1,e2⟩:=al4 hx hD hy;have hu:u∈bZ x:=by rw[e1];simp
  rw[e2,aiV hx hu,aiW hx hu,aiX hx hu];exact h1 u l e1⟩
end
def yC (x:aj)(p:AV):List AV:=[iv x.first,iv x.hours,iv x.am,dP x.seen,p,aS x.aB]
section
variable {lv:Bool}{H:List aa}{k kp:AV->List aa->Prop}
theorem ah9{x:aj}(hx:x.Ok)(hp:0<x.pieces.length)(hk:∀a b:aa,k (.agg (yC x (.bp (H.length+3) 0 x.pieces.length 0))) (H++[a,b,.tail x.seen.length 3 61,.own 4 (x.pieces.flatMap aC.l) 48,.tail x.aB.length 4 48])):bk lv SC 22 H [x.av] k kp:=by
 refine bL (rs:=[.cell 2 26]) (nt:=19) Tryz.f22 λhH hA=> ?_;simp only[bt,SX,aj.av];have pP:=hx.eN;have aR:=hx.dx;have wG:=hx.vz;have bT:x.l=[iv x.first,iv x.hours,iv x.am,dP x.seen,aS x.pieces,aS x.aB]:=rfl;have aP:∀(L:List aa),(H++L)[H.length]?=L[0]?:=λL=>aW H L 0;have cH:∀(L:List aa)(y:aa),(H++L).set H.length y=H++L.set 0 y:=λL y=>cY H L 0 y;refine ai ?_;simp only[seval,bT];have NY:TU (x.seen.length* 3) (x.seen.flatMap Seen.l)=x.seen.flatMap Seen.l:=SS (by rw[mP Seen.len];omega);have NZ:TU (x.pieces.length* 4) (x.pieces.flatMap aC.l)=x.pieces.flatMap aC.l:=SS (by rw[mP aC.len];omega);have N0:TU (x.aB.length* 4) (x.aB.flatMap aC.l)=x.aB.flatMap aC.l:=SS (by rw[mP aC.len];omega);have n1:(x.seen.flatMap Seen.l).length=x.seen.length* 3:=mP Seen.len _;have n2:(x.pieces.flatMap aC.l).length=x.pieces.length* 4:=mP aC.len _;have n3:(x.aB.flatMap aC.l).length=x.aB.length* 4:=mP aC.len _;refine ai ?_;simp only[seval,aP,cH,dP,NY,n1];refine⟨by omega,?_⟩
 (repeat apply iY);refine O6 3 (by kernel_rfl) ?_
 simp only[seval,aP,cH,aS,NZ,n2];refine⟨by omega,hp,?_⟩;refine ai ?_;simp only[seval,aP,cH,aS,N0,n3];refine⟨by omega,?_⟩;have cW:∀(L:List aa),(H++L)[H.length+1]?=L[1]?:=λL=>aW H L 1;have dN:∀(L:List aa)(y:aa),(H++L).set (H.length+1) y=H++L.set 1 y:=λL y=>cY H L 1 y;refine ai ?_;simp only[seval,aP,cW,dN];refine nH ?_;simp only[seval,cW];exact⟨_,Ee (.cons (Wk.refl _) (.cons (Wk.refl _) (.cons (Wk.refl _) (.cons (iz _ _ _) (.cons (Wk.refl _) (.cons (iz _ _ _) .nil)))))),.inl (hk _ _)⟩
end
end Go.Gg
namespace Go.Gg.Tk
theorem GG{h pre:List Int}(hp:pre≠[])(ht:h.take pre.length=pre):pre.getLastD 0=h.getD (pre.length-1) 0:=by
 have hl:0<pre.length:=Vt.2 hp;have e:pre[pre.length-1]?=h[pre.length-1]?:=by
  have:(h.take pre.length)[pre.length-1]?=pre[pre.length-1]?:=by rw[ht]
  rw[<- this,Ul,if_pos (by omega)]
 rw[SD,<- e,Vf,X_]
def Good (x:aj)(k:Nat)(h:List Int):Prop:=∀j,k<=j->j<h.length->sx x j (h.getD j 0)=true/\(j+1<h.length->∃n:Nat,n<x.am.toNat+1/\h.getD (j+1) 0=h.getD j 0+n)
theorem HE{h pre:List Int}{v:Int}:h.take (pre.length+1)=pre++[v]<->h.take pre.length=pre/\pre.length<h.length/\h.getD pre.length 0=v:=by
 constructor
 ·intro e;have hl:pre.length+1<=h.length:=by
   have:=congrArg Z3 e;rw[Uf,SP,T8]at this;omega
  have h1:=congrArg (TU pre.length) e;rw[UZ,Tw (SR _),TQ,Ww (by omega)]at h1;refine⟨h1,by omega,?_⟩;have h2:(h.take (pre.length+1))[pre.length]?=(pre++[v])[pre.length]?:=by rw[e]
  rw[Ul,if_pos (by omega),S8 (SR _),Va]at h2;rw[SD,h2];rfl
 ·rintro⟨h1,h2,h3⟩
  rw[VJ,h1];congr 1;rw[SD,SO h2]at h3;rw[SO h2,<- h3];rfl
theorem KU{x:aj}:∀(d:Nat)(pre h:List Int),pre≠[]->(h∈kY x d pre<->h.length=pre.length+d/\h.take pre.length=pre/\Good x (pre.length-1) h)
 |0,pre,h,hp=>by
  have hl:0<pre.length:=Vt.2 hp;unfold kY;constructor
  ·intro hm;split at hm
   ·rename_i hs;rw[S9]at hm;subst hm;refine⟨rfl,TQ,λj h1 h2=> ?_⟩;have:j=h.length-1:=(by omega);subst this;rw[GG hp TQ]at hs;exact⟨hs,λh=>by omega⟩
   ·cases hm
  ·rintro⟨h1,h2,h3⟩
   have e:h=pre:=(by rw[<- h2,SS (by omega)]);subst e;have:=(h3 (h.length-1) (SR _) (by omega)).1;rw[<- GG hp TQ]at this;rw[if_pos this];simp
 |d+1,pre,h,hp=>by
  have hl:0<pre.length:=Vt.2 hp;unfold kY;constructor
  ·intro hm;split at hm
   ·rename_i hs;obtain⟨n,hn,hm⟩:=S6.1 hm;rw[KU d _ h (by simp)]at hm;obtain⟨h1,h2,h3⟩:=hm;rw[SP,T8]at h1 h2 h3;obtain⟨h4,h5,h6⟩:=HE.1 h2;rw[GG hp h4]at hs h6;refine⟨by omega,h4,λj yh FW=> ?_⟩;by_cases hj:j=pre.length-1
    ·subst hj;refine⟨hs,λ_=>⟨n,TF.1 hn,?_⟩⟩;rw[show pre.length-1+1=pre.length by omega];exact h6
    ·exact h3 j (by omega) FW
   ·cases hm
  ·rintro⟨h1,h2,h3⟩
   obtain⟨hs,aR⟩:=h3 (pre.length-1) (SR _) (by omega);obtain⟨n,hn,he⟩:=aR (by omega);rw[show pre.length-1+1=pre.length by omega]at he;rw[GG hp h2,if_pos hs];refine S6.2 ⟨n,TF.2 hn,?_⟩;rw[KU d _ h (by simp),SP,T8];exact⟨by omega,HE.2 ⟨h2,by omega,he⟩,λj yh FW=>h3 j (by omega) FW⟩
theorem anr{h:List Int}(hm:∀j,j+1<h.length->h.getD j 0<=h.getD (j+1) 0):uo h:=by
 induction h with
 |nil=>trivial
 |cons a l ih=>
  cases l with
  |nil=>trivial
  |cons b l=>
   refine⟨?_,ih λj hj=> ?_⟩
   ·have:=hm 0 (by simp);simpa using this
   ·have:=hm (j+1) (by simp at hj⊢;omega);simpa using this
theorem adt{n:Int}:∀(h:List Int)(i:Nat),uo h->(0<=fP i h n<->h.headD 0<=n/\n<h.getLastD 0)
 |[],i,_=>by simp[fP]<;>omega
 |[a],i,_=>by simp[fP]<;>omega
 |a::b::l,i,hm=>by
  obtain⟨h1,h2⟩:=hm;have ih:=adt (n:=n) (b::l) (i+1) h2;have uW:(a::b::l).getLastD 0=(b::l).getLastD 0:=by simp[Zp]
  rw[uW];unfold fP;split
  ·rename_i h;have cT:b<=(b::l).getLastD 0:=abg h2;constructor
   ·intro _;exact⟨h.1,by omega⟩
   ·intro _;omega
  ·rename_i h;rw[ih];have e1:(a::b::l).headD 0=a:=rfl;have e2:(b::l).headD 0=b:=rfl;rw[e1,e2];omega
where
 abg {b:Int}:∀{l:List Int},uo (b::l)->b<=(b::l).getLastD 0
  |[],_=>by simp
  |c::l,hm=>by
   obtain⟨h1,h2⟩:=hm;have:=abg h2;have e:(b::c::l).getLastD 0=(c::l).getLastD 0:=(by simp[Zp]);rw[e];omega
theorem adw{h:List Int}{n:Int}(hm:uo h):0<=jF h n<->h.headD 0<=n/\n<h.getLastD 0:=adt h 0 hm
theorem adv{n:Int}:∀(h:List Int)(i:Nat),0<=fP i h n->fP i h n+1<i+h.length
 |[],i,h=>by simp[fP]at h
 |[a],i,h=>by simp[fP]at h
 |a::b::l,i,h=>by
  unfold fP at h⊢;split
  ·simp;omega
  ·rename_i hn;rw[if_neg hn]at h;have:=adv (b::l) (i+1) h;simp at this⊢;omega
theorem ai0{h:List Int}{y:aC}{n:Int}(hm:uo h)(hf:fits h y n=true):n∈GW h:=by
 unfold fits at hf;simp only[Ti,decide_eq_true_eq]at hf;obtain⟨h1,h2⟩:=(adw hm).1 hf.1.1;unfold GW;refine Tl.2 ⟨(n-h.headD 0).toNat,TF.2 (by omega),by omega⟩
theorem QP{α:Type}[DecidableEq α]{l:List α}{d:α}{i:Nat}(hi:i<l.length):l.Nodup->l.getD i d∉l.take i:=λhn hm=>by
 obtain⟨j,hj⟩:=Vg hm;rw[Ul]at hj;split at hj
 ·rename_i cy;rw[SD,SO hi,SO (by omega)]at hj;simp only[S7,Tj]at hj;have h2:=TD.1 hn;exact(Yp.1 h2) j i (by omega) hi cy hj
 ·cases hj
theorem abo{α:Type}{l:List α}{d:α}(h:∀i,i<l.length->l.getD i d∉l.take i):l.Nodup:=by
 rw[TD,Yp];intro i j hi hj kI e;refine h j hj ?_;rw[SD,SO hj,S7,<- e];exact UQ.2 ⟨i,by rw[Ul,if_pos kI,SO hi]⟩
theorem HF{α:Type}{d:α}{h pre:List α}{v:α}:h.take (pre.length+1)=pre++[v]<->h.take pre.length=pre/\pre.length<h.length/\h.getD pre.length d=v:=by
 constructor
 ·intro e;have hl:pre.length+1<=h.length:=by
   have:=congrArg Z3 e;rw[Uf,SP,T8]at this;omega
  have h1:=congrArg (TU pre.length) e;rw[UZ,Tw (SR _),TQ,Ww (by omega)]at h1;refine⟨h1,by omega,?_⟩;have h2:(h.take (pre.length+1))[pre.length]?=(pre++[v])[pre.length]?:=by rw[e]
  rw[Ul,if_pos (by omega),S8 (SR _),Va]at h2;rw[SD,h2];rfl
 ·rintro⟨h1,h2,h3⟩
  rw[VJ,h1];congr 1;rw[SD,SO h2]at h3;rw[SO h2,<- h3];rfl
theorem GZ{h:List Int}(hm:uo h):∀(ys:List aC)(t ns:List Int),ns∈nq h ys t<->ns.length=t.length+ys.length/\ns.take t.length=t/\∀i y,ys[i]?=some y->fits h y (ns.getD (t.length+i) 0)=true/\ns.getD (t.length+i) 0∉ns.take (t.length+i)
 |[],t,ns=>by
  simp only[nq,S9,UR,UD];constructor
  ·rintro rfl;exact⟨rfl,TQ,λi y hy=>by cases hy⟩
  ·rintro⟨h1,h2,_⟩;rw[<- h2,SS (by omega)]
 |y::ys,t,ns=>by
  simp only[nq,S6,Uv,Ti,TZ,Uk];constructor
  ·rintro⟨n,⟨_,hf,ht⟩,gA⟩
   rw[GZ hm ys (t++[n]) ns]at gA;obtain⟨h1,h2,h3⟩:=gA;rw[SP,T8]at h1 h2 h3;obtain⟨h4,h5,h6⟩:=(HF (d:=0)).1 h2;refine⟨by omega,h4,λi z hz=> ?_⟩
   match i,hz with
   |0,hz=>
    cases hz;rw[UD,h6,h4];refine⟨hf,?_⟩;intro hc;rw[Uq]at ht;simp at ht;exact ht hc
   |i+1,hz=>
    have:=h3 i z hz;rw[show t.length+1+i=t.length+(i+1) by omega]at this;exact this
  ·rintro⟨h1,h2,h3⟩
   obtain⟨hf,hn⟩:=h3 0 y rfl;rw[UD]at hf hn;rw[h2]at hn;refine⟨ns.getD t.length 0,⟨ai0 hm hf,hf,by rw[Uq];simpa using hn⟩,?_⟩;rw[GZ hm ys _ ns,SP,T8];refine⟨by omega,(HF (d:=0)).2 ⟨h2,by omega,rfl⟩,λi z hz=> ?_⟩;have:=h3 (i+1) z hz;rw[show t.length+(i+1)=t.length+1+i by omega]at this;exact this
theorem He{h ns:List Int}:∀(ss:List aC)(t os:List Nat),os∈qa h ns ss t<->os.length=t.length+ss.length/\os.take t.length=t/\∀i s,ss[i]?=some s->fits h s (ns.getD (os.getD (t.length+i) 0) 0)=true/\os.getD (t.length+i) 0<ns.length/\os.getD (t.length+i) 0∉os.take (t.length+i)
 |[],t,os=>by
  simp only[qa,S9,UR,UD];constructor
  ·rintro rfl;exact⟨rfl,TQ,λi y hy=>by cases hy⟩
  ·rintro⟨h1,h2,_⟩;rw[<- h2,SS (by omega)]
 |s::ss,t,os=>by
  simp only[qa,S6,Uv,Ti,TZ,Uk,TF];constructor
  ·rintro⟨n,⟨hlt,hf,ht⟩,gA⟩
   rw[He ss (t++[n]) os]at gA;obtain⟨h1,h2,h3⟩:=gA;rw[SP,T8]at h1 h2 h3;obtain⟨h4,h5,h6⟩:=(HF (d:=0)).1 h2;refine⟨by omega,h4,λi z hz=> ?_⟩
   match i,hz with
   |0,hz=>
    cases hz;rw[UD,h6,h4];refine⟨hf,hlt,?_⟩;intro hc;rw[Uq]at ht;simp at ht;exact ht hc
   |i+1,hz=>
    have:=h3 i z hz;rw[show t.length+1+i=t.length+(i+1) by omega]at this;exact this
  ·rintro⟨h1,h2,h3⟩
   obtain⟨hf,hlt,hn⟩:=h3 0 s rfl;rw[UD]at hf hlt hn;rw[h2]at hn;refine⟨os.getD t.length 0,⟨hlt,hf,by rw[Uq];simpa using hn⟩,?_⟩;rw[He ss _ os,SP,T8];refine⟨by omega,(HF (d:=0)).2 ⟨h2,by omega,rfl⟩,λi z hz=> ?_⟩;have:=h3 (i+1) z hz;rw[show t.length+(i+1)=t.length+1+i by omega]at this;exact this
end Go.Gg.Tk
namespace Go.Gg
open Go.Gg.Tk
namespace Tk
structure zm (x:aj)(u:Tr):Prop where
 bE:ox x.first x.am u.bE x.hours.toNat
 seen:∀s∈x.seen,lf s.next (u.bE.getD s.hour.toNat 0)=true
 wS:u.aA.length=x.pieces.length
 piece:∀(p:Nat) y,x.pieces[p]?=some y->fits u.bE y (u.aA.getD p 0)=true
 GX:u.aA.Nodup
 ub:u.bK.length=x.aB.length
 own:∀v∈u.bK,v<x.pieces.length
 stub:∀(s:Nat) y,x.aB[s]?=some y->fits u.bE y (u.aA.getD (u.bK.getD s 0) 0)=true
 Hd:u.bK.Nodup
theorem _root_.Go.Gg.ox.mono{first am:Int}{l:List Int}{i:Nat}(h:ox first am l i):uo l:=anr λj hj=>(h.step j (by have:=h.len;omega)).1
theorem akv{x:aj}(hx:x.Ok){h:List Int}:h∈aK x<->ox x.first x.am h x.hours.toNat/\∀s∈x.seen,lf s.next (h.getD s.hour.toNat 0)=true:=by
 have hp:=hx.am;unfold aK;rw[KU _ _ _ (by simp)];simp only[T8];constructor
 ·rintro⟨h1,h2,h3⟩
  have h4:=(HE (pre:=[]) (v:=x.first)).1 h2;refine⟨⟨by omega,h4.2.2,λj hj=> ?_⟩,λs hs=> ?_⟩
  ·obtain⟨n,hn,e⟩:=(h3 j (by omega) (by omega)).2 (by omega);omega
  ·have hsr:=(hx.seen s hs).1;have:=(h3 s.hour.toNat (by omega) (by omega)).1;unfold sx at this;have:=Tv.1 this s hs;have e:s.hour=(s.hour.toNat:Int):=(by omega);rw[<- e]at this;simpa using this
 ·rintro⟨h1,h2⟩
  have hl:=h1.len;refine⟨by omega,(HE (pre:=[]) (v:=x.first)).2 ⟨rfl,by simp;omega,h1.head⟩,λj _ hj=>⟨?_,λFW=> ?_⟩⟩
  ·unfold sx;rw[Tv];intro s hs;by_cases e:s.hour=(j:Int)
   ·have:=h2 s hs;rw[show s.hour.toNat=j by omega]at this;rw[this];simp
   ·simp[e]
  ·have:=h1.step j (by omega);exact⟨(h.getD (j+1) 0-h.getD j 0).toNat,by omega,by omega⟩
theorem arW{x:aj}{u:Tr}:u∈bZ x<->u.bE∈aK x/\u.aA∈nq u.bE x.pieces []/\u.bK∈qa u.bE u.aA x.aB []:=by
 constructor
 ·intro hu;obtain⟨h,a,b⟩:=S6.1 hu;obtain⟨ns,c,d⟩:=S6.1 b;obtain⟨os,e,rfl⟩:=Tl.1 d;exact⟨a,c,e⟩
 ·rintro⟨a,b,c⟩
  exact S6.2 ⟨u.bE,a,S6.2 ⟨u.aA,b,Tl.2 ⟨u.bK,c,rfl⟩⟩⟩
theorem Fl{l:List Nat}{i:Nat}(h:i<l.length):l.getD i 0∈l:=by
 rw[SD,SO h];exact Wy h
theorem vr{x:aj}(hx:x.Ok){u:Tr}:u∈bZ x<->zm x u:=by
 rw[arW,akv hx];constructor
 ·rintro⟨⟨h1,h2⟩,h3,h4⟩
  have hm:=h1.mono;rw[GZ hm]at h3;rw[He]at h4;simp only[UR,Wr]at h3 h4;obtain⟨a1,_,a3⟩:=h3;obtain⟨b1,_,b3⟩:=h4;refine⟨h1,h2,a1,λp y hy=>(a3 p y hy).1,abo (d:=0) λi hi=> ?_,b1,λv hv=> ?_,λs y hy=>(b3 s y hy).1,abo (d:=0) λi hi=> ?_⟩
  ·obtain⟨y,hy⟩:∃y,x.pieces[i]?=some y:=⟨_,SO (by omega)⟩;exact(a3 i y hy).2
  ·obtain⟨i,hi⟩:=Vg hv;have bD:=(SM.1 hi).1;obtain⟨y,hy⟩:∃y,x.aB[i]?=some y:=⟨_,SO (by omega)⟩;have:=(b3 i y hy).2.1;rw[SD,hi]at this;rw[<- a1];exact this
  ·obtain⟨y,hy⟩:∃y,x.aB[i]?=some y:=⟨_,SO (by omega)⟩;exact(b3 i y hy).2.2
 ·intro h;refine⟨⟨h.bE,h.seen⟩,?_,?_⟩
  ·rw[GZ h.bE.mono];simp only[UR,Wr];refine⟨h.wS,rfl,λi y hy=>⟨h.piece i y hy,QP ?_ h.GX⟩⟩;have:=(SM.1 hy).1;rw[h.wS];exact this
  ·rw[He];simp only[UR,Wr];refine⟨h.ub,rfl,λi y hy=> ?_⟩;have hi:=(SM.1 hy).1;have uR:i<u.bK.length:=(by rw[h.ub];exact hi);exact⟨h.stub i y hy,by rw[h.wS];exact h.own _ (Fl uR),QP uR h.Hd⟩
end Tk
open Go.Gg.Tk
theorem amh{first am:Int}{l:List Int}{i:Nat}(h:ox first am l i):l.getLastD 0=l.getD i 0:=by
 have hl:=h.len;rw[Vf,X_,SD,hl];rfl
theorem akm{first am:Int}{l:List Int}{i:Nat}(h:ox first am l i):l.headD 0=first:=by
 have hl:=h.len;have:=h.head;cases l with
 |nil=>cases hl
 |cons a l=>exact this
theorem ox.top{first am:Int}{l:List Int}{i:Nat}(h:ox first am l i)(hf:0<=first/\first<=90)(hp:1<=am/\am<=3)(hi:i<=3):∀j,j<=i->first<=l.getD j 0/\l.getD j 0<=first+9:=λj hj=>by
 have h1:=h.ge (by omega) j hj;have:am* (j:Int)<=3* 3:=ac_ (by omega) (by omega) (by omega) (by omega);generalize am* (j:Int)=q at h1 this;omega
theorem Kd{first am:Int}{l:List Int}{i:Nat}(h:ox first am l i)(hi:1<=i/\i<=3)(hf:0<=first/\first<=90)(hp:1<=am/\am<=3){n:Int}(hn:first<=n/\n<l.getD i 0)(τ:a_):Eu l i n (l6 τ l n i):=by
 have hl:=h.len;have hm:=h.mono;have ht:=h.top hf hp hi.2 i (SR _);have hk:=arJ (n:=n) (by omega) (by omega) hm;have h0:0<=jF l n:=(adw hm).2 (by rw[akm h,amh h];exact hn);have h1:=adv l 0 h0;have JP:jF l n+1<l.length:=by have:fP 0 l n=jF l n:=rfl;omega
 have a1:=BR (τ:=τ) (n:=n) (m:=2) (lo:=0) (hi:=99) (by omega) (by omega);have a2:=BR (τ:=tick (tick τ)) (n:=jF l n) (m:=1) (lo:=0) (hi:=(i:Int)-1) (by omega) (by omega);refine⟨a1.1,?_,?_⟩
 ·unfold l6;rw[hk];exact a2.1
 ·unfold Tk.fits l6;rw[hk,Ti,Ti,decide_eq_true_eq];exact⟨⟨h0,a1.2⟩,a2.2⟩
variable {pm:Nat}{x:aj}{bE aA bK:List Int}
theorem Made.Rp(h:Made pm x bE aA bK){n:Int}(hn:n∈aA)(τ:a_):Eu bE x.hours n (l6 τ bE n x.hours):=by
 have hh:=h.hours;have:=Kd h.FV (by omega) h.first h.am (h.num n hn) τ;rw[Int.toNat_of_nonneg (by omega)]at this;exact this
theorem zP{l:List Int}{i:Nat}(h:i<l.length):l.getD i 0∈l:=by
 rw[SD,SO h];exact Wy h
theorem Made.OV(h:Made pm x bE aA bK){p:Nat}{y:aC}(hy:x.pieces[p]?=some y):Eu bE x.hours (aA.getD p 0) y:=by
 obtain⟨τ,rfl⟩:=h.piece p y hy;exact h.Rp (zP (by rw[h.wS];exact(SM.1 hy).1)) τ
theorem Made.OW(h:Made pm x bE aA bK){s:Nat}{y:aC}(hy:x.aB[s]?=some y):Eu bE x.hours (aA.getD (bK.getD s 0).toNat 0) y:=by
 obtain⟨τ,rfl⟩:=h.stub s y hy;have hs:s<bK.length:=by rw[h.ub];exact(SM.1 hy).1
 have:=h.own _ (zP hs);exact h.Rp (zP (by omega)) τ
theorem Made.ok(h:Made pm x bE aA bK)(rY:pm<=4):x.Ok:=by
 have hh:=h.hours;refine⟨h.first,h.hours,h.am,by have:=h.vz;omega,by have:=h.ans;omega,h.aB,λs hs=> ?_,λy hy=> ?_,λy hy=> ?_⟩
 ·obtain⟨h1,h2,τ,h3⟩:=h.seen s hs;have ht:=h.FV.top h.first h.am (by omega) s.hour.toNat (by omega);have hf:=h.first;rw[h3];exact⟨⟨h1,h2⟩,(BR (by omega) (by omega)).1⟩
 ·obtain⟨p,hp⟩:=Vg hy;have:=h.OV hp;exact⟨this.num,this.hour⟩
 ·obtain⟨p,hp⟩:=Vg hy;have:=h.OW hp;exact⟨this.num,this.hour⟩
def acb (bE aA bK:List Int):Tr:=⟨bE,aA,bK.map XJ⟩
theorem Made.arR(h:Made pm x bE aA bK):zm x (acb bE aA bK):=by
 have hh:=h.hours;have pO:∀s,s<bK.length->(bK.map XJ).getD s 0=(bK.getD s 0).toNat:=λs hs=>by
  rw[SD,SD,Tn,SO hs];rfl
 refine⟨h.FV,λs hs=> ?_,h.wS,λp y hy=>(h.OV hy).fits,h.GX,by show (bK.map XJ).length=_;rw[Tm];exact h.ub,λv hv=> ?_,λs y hy=> ?_,?_⟩
 ·obtain⟨h1,h2,τ,h3⟩:=h.seen s hs;have ht:=h.FV.top h.first h.am (by omega) s.hour.toNat (by omega);have hf:=h.first;rw[h3];exact(BR (by show _<=bE.getD _ _/\_;omega) (by omega)).2
 ·obtain⟨w,hw,rfl⟩:=Tl.1 hv;have:=h.own w hw;have:=h.wS;omega
 ·have hs:s<bK.length:=by rw[h.ub];exact(SM.1 hy).1
  show Tk.fits bE y (aA.getD ((bK.map XJ).getD s 0) 0)=true;rw[pO s hs];exact(h.OW hy).fits
 ·show (bK.map XJ).Nodup;rw[TD,Wb];refine Xs ?_ (TD.1 h.Hd);intro a c ha hc aG e;have h1:=h.own a ha;have h2:=h.own c hc;omega
theorem Made.mem(h:Made pm x bE aA bK)(rY:pm<=4):acb bE aA bK∈bZ x:=(vr (h.ok rY)).2 h.arR
theorem Made.ne(h:Made pm x bE aA bK)(rY:pm<=4):bZ x≠[]:=λe=>by
 have:=h.mem rY;rw[e]at this;cases this
variable {x:aj}
namespace Tk
end Tk
variable {x:aj}
open Go.Gg.Tk
variable {x:aj}
theorem IS(x:aj):0<cnt x<->bZ x≠[]:=by
 unfold cnt;rw[show (0:Int)<((live x).length:Int)<->live x≠[] by rw[<- Vt];omega];exact not_congr MB
namespace Tk
theorem MU{α:Type}[DecidableEq α]:∀{l m:List α},l.Nodup->(∀a∈l,a∈m)->l.length<=m.length
 |[],m,_,_=>Xz _
 |a::l,m,h,hs=>by
  have ha:=hs a (by simp);obtain⟨h1,h2⟩:=VH.1 h;have:=MU (m:=m.erase a) h2 λb hb=>(List.mem_erase_of_ne (λe=>h1 (by rw[<- e];exact hb))).2 (hs b (by simp[hb]));have h3:=List.length_erase_of_mem ha;have h4:=List.length_pos_of_mem ha;rw[Uk];omega
theorem amP(x:aj):(live x).Nodup:=(R6 x).filter _
theorem Py{x z:aj}(h:∀u∈bZ x,∃w∈bZ z,w.bE=u.bE):cnt x<=cnt z:=by
 have:=MU (l:=live x) (m:=live z) (amP x) λg hg=>by
  obtain⟨u,hu,rfl⟩:=AH.1 hg;obtain⟨w,hw,e⟩:=h u hu;exact AH.2 ⟨w,hw,e⟩
 unfold cnt;omega
def DX (x:aj)(p:Nat)(y:aC):aj:={x with pieces:=x.pieces.set p y}
end Tk
variable {x:aj}
open Go.Conc Go.Proofs Go.Gg.Tk
theorem NK{ys:List aC}{p:Nat}{y:aC}{s:Nat}{l:List AV}(hp:p<ys.length)(e:y.l=l):TU (p* 4) (ys.flatMap aC.l)++l++T1 (p* 4+4) (ys.flatMap aC.l)=(ys.set p y).flatMap aC.l:=by
 subst e;rw[XL,if_pos hp,Vz,Ub,JI aC.len,show p* 4+4=(p+1)* 4 by omega,xN aC.len,SA]
theorem aqp{ys:List aC}{p:Nat}{y:aC}(hy:ys[p]?=some y)(a b:Int):TU (p* 4+0) (ys.flatMap aC.l)++[iv a,iv b]++T1 (p* 4+0+2) (ys.flatMap aC.l)=(ys.set p ⟨⟨a,b⟩,y.hour⟩).flatMap aC.l:=by
 obtain⟨hp,rfl⟩:=SM.1 hy;rw[<- NK (s:=0) (p:=p) (y:=⟨⟨a,b⟩,ys[p].hour⟩) hp rfl];have e:T1 (p* 4+2) (ys.flatMap aC.l)=iv ys[p].hour.min::iv ys[p].hour.max::T1 (p* 4+4) (ys.flatMap aC.l):=by
  have h1:T1 (p* 4) (ys.flatMap aC.l)=ys[p].l++T1 (p* 4+4) (ys.flatMap aC.l):=by
   rw[xN aC.len,show p* 4+4=(p+1)* 4 by omega,xN aC.len,TR hp,Ub]
  rw[<- ak',h1];rfl
 rw[UD,e];simp[aC.l,iM.l]
section
variable {lv:Bool}{P:SJ}{r:Option Nat}
theorem O3{nt:Nat}{c:Ua}{T:List (Nat×AV)}{H:List aa}{yA oe j cap:Nat}{ps:List aC}{l:List AV}{el:TypeId}{Φ:an->AS->Prop}(h1:H[yA]?=some (.own 4 (ps.flatMap aC.l) 48))(h2:H[oe]?=some (.cells l el))(aG:yA≠oe)(h3:l[j]?=some (.bp yA 0 ps.length cap))(h:aQ lv P r nt c ⟨T,(H.set yA (.part (ps.length* 4) (ps.flatMap aC.l) 48)).set oe (.cells (l.set j (aS ps)) el)⟩ Φ):aQ lv P r nt c ⟨T,H⟩ Φ:=by
 have hl:(ps.flatMap aC.l).length=ps.length* 4:=mP aC.len _;refine afC (id:=yA) h1 ?_;have hlt:=(SM.1 h1).1;refine IB (id:=oe) (j:=j) (y:=aS ps) (el:=el) (by rw[T7 aG];exact h2) h3 ?_ ?_
 ·have e:aS ps=.sl ps.length ((ps.flatMap aC.l).take (ps.length* 4)) .shut:=by rw[SS (by omega)];rfl
  rw[e];exact HO (p:=(ps.flatMap aC.l).length) (l:=ps.flatMap aC.l) (el:=48) (by rw[UP,if_pos rfl,if_pos hlt]) (by omega) (by omega)
 ·rw[hl];exact h
end
def vJ (i:Int)(y:aC):Prop:=sM y.number 99/\sM y.hour (i-1)
theorem aqo{ys:List aC}{p:Nat}{y:aC}(hy:ys[p]?=some y)(a b:Int):TU (p* 4+2) (ys.flatMap aC.l)++[iv a,iv b]++T1 (p* 4+2+2) (ys.flatMap aC.l)=(ys.set p ⟨y.number,⟨a,b⟩⟩).flatMap aC.l:=by
 obtain⟨hp,rfl⟩:=SM.1 hy;rw[<- NK (s:=0) (p:=p) (y:=⟨ys[p].number,⟨a,b⟩⟩) hp rfl];have e:TU (p* 4+2) (ys.flatMap aC.l)=TU (p* 4) (ys.flatMap aC.l)++[iv ys[p].number.min,iv ys[p].number.max]:=by
  have h1:T1 (p* 4) (ys.flatMap aC.l)=ys[p].l++T1 (p* 4+4) (ys.flatMap aC.l):=by
   rw[xN aC.len,show p* 4+4=(p+1)* 4 by omega,xN aC.len,TR hp,Ub]
  rw[List.take_add,h1];rfl
 rw[e,show p* 4+2+2=p* 4+4 from rfl];simp[aC.l,iM.l]
section
variable {lv:Bool}{Gf:a_->List aa}{t N:Nat}{b:Int}
theorem ah0{i mn np ns c:Nat}{first am:Int}{sv pv DJ Dx pI:AV}{gP:List aa}{dx:List aC}{ρ:a_}{zc:aa}{YY:List AV->Nat->Nat->Nat->List aa}{Φ:an->AS->Prop}(hT:dK Gf t N)(hY:YW Gf N zc YY)(yd:gP.length=np)(hb:b<2^10)(oQ:0<=first/\first<=90)(rW:mn<=9)(iR:ns<=3)(b9:dx.length=ns)(pU:∀y∈dx,vJ i y)(hρ:ρ.Ok (b+97))
  (hk:∀yY ρ',yY.length=ns->(∀y∈yY,vJ i y)->ρ'.Ok (b+100)->aQ lv SC none 240 (lW 13 oF) ⟨[(16,DJ),(15,Dx),(13,iv mn),(11,pI),(10,.op (N+1) 0),(6,.op N 0),(0,.op t 0),(2,bv false)],Gf ρ'++(YY [iv first,iv i,iv am,sv,pv,fO (N+6+np) ns] c np ns++(gP++gO ns (gk yY)))⟩ Φ):
  aQ lv SC none 240 (lW 12 oF) ⟨[(16,DJ),(15,Dx),(13,iv mn),(11,pI),(10,.op (N+1) 0),(6,.op N 0),(0,.op t 0),(2,bv false)],Gf ρ++(YY [iv first,iv i,iv am,sv,pv,fO (N+6+np) ns] c np ns++(gP++gO ns (gk dx)))⟩ Φ:=by
 obtain⟨uJ,rL,y0,y1,y3,y4,y5,nw,za,Bd,Be,qz,tu,cH⟩:=hY;have ja:∀L:List aa,dK (λτ=>Gf τ++L) t (N+L.length):=λL=>hT.more L;have w1:∀τ r c d e X m,(Gf τ++(YY r c d e++(gP++X)))[N+6+np+m]?=X[m]?:=λτ r c d e X m=>by rw[U_ (N+6),qz,S8 (by omega),yd,TS]
 have v1:∀τ r c d e X m y,(Gf τ++(YY r c d e++(gP++X))).set (N+6+np+m) y=Gf τ++(YY r c d e++(gP++X.set m y)):=λτ r c d e X m y=>by rw[U_ (N+6),tu,T9 _ _ (by omega),yd,TS]
 unfold oF Xd at hk⊢;dsimp only[S7,lW,cs,cf]at hk⊢;rcases UH ns with h0|h0
 ·subst h0;have e0:fO (N+6+np) 0=.sl 0 [] .exact:=rfl;simp only[e0]at hk⊢;refine ai ?_;simp only[seval,y1];refine ai ?_;simp only[seval,decide_false,show decide ((0:Int)>0)=false from rfl];refine aD ?_;refine aN ?_;refine iZ ?_ (hk dx ρ b9 pU (hρ.mono (by omega)));exact eE (by simp only[seval];simp[bw,Wk.refl]) rfl
 ·obtain⟨n2,qJ⟩:∃n2,ns=n2+1:=⟨ns-1,by omega⟩;have C3:fO (N+6+np) ns=.bp (N+6+np+n2) 0 ns 0:=by rw[qJ];rfl
  have uQ:∀o,(gO ns o)[n2]?=some o:=λo=>by rw[qJ];have:=Cd n2 o [];rwa [SI]at this
  have u_:∀o o',(gO ns o).set n2 o'=gO ns o':=λo o'=>by rw[qJ];have:=Ce n2 o o' [];rwa [SI,SI]at this
  have hd:decide ((ns:Int)>0)=true:=by simp;omega
  rw[C3];simp only[C3]at hk;refine ai ?_;simp only[seval,y1];refine ai ?_;simp only[seval,hd];refine aI ((Fb (n:=3) (ja _) hρ (by omega) (by decide) ?_));(try simp only[seval]);refine aD ?_;refine⟨λhc=> ?_,λhc=> ?_⟩
  ·have bU:SE.wrap ((ns:Int)-1)=(ns:Int)-1:=bG _ (by omega);have f_:SE.wrap (first+(mn:Int))=first+(mn:Int):=bG _ (by omega)
   have r1:=lS (tick ρ) ((ns:Int)-1);refine ai ?_;simp only[seval,bU];refine aI ((pz (n:=(ns:Int)-1) (ja _) hρ.tick (by omega) (by omega) ?_));obtain⟨q,hq⟩:∃q:Nat,dp (tick ρ) ((ns:Int)-1)=q:=⟨(dp (tick ρ) ((ns:Int)-1)).toNat,by omega⟩;rw[hq];have As:q<ns:=(by omega);(try simp only[seval]);refine ai ?_;simp only[seval,y1,f_];have r2:=adJ (tick (tick ρ)) (show first<=first+(mn:Int) by omega);refine aI ((Qh (lo:=first) (hi:=first+(mn:Int)) (ja _) hρ.tick.tick (by omega) (by omega) (by omega) ?_));generalize Bb (tick (tick ρ)) first (first+(mn:Int))=a at r2⊢
   (try simp only[seval]);obtain⟨y,hy⟩:=cD (xs:=dx) (i:=q) (by omega);have Gt:=pU y (Td hy);have wG:=aqp hy a a;simp only[iv]at wG;have Cy:(0<=(q:Int)/\(q:Int)<(ns:Int))=True:=(by simp;omega);unfold gk at hk⊢;refine ai ?_;simp only[seval,y1,w1,v1,uQ,u_,Cy];refine⟨by rw[mP aC.len];omega,?_⟩;rw[wG];have tP:∀z∈dx.set q ⟨⟨a,a⟩,y.hour⟩,vJ i z:=λz hz=>by
    rcases UB hz with hz|rfl
    ·exact pU z hz
    ·exact⟨⟨by show 0<=a;omega,Xl a,by show a<=99;omega⟩,Gt.2⟩
   refine iZ ?_ (hk (dx.set q ⟨⟨a,a⟩,y.hour⟩) (tick (tick (tick ρ))) (by rw[TE];exact b9) tP (hρ.tick.tick.tick.mono (by omega)));exact eE (by simp only[seval];simp[bw,Wk.refl]) rfl
  ·refine aN ?_;refine iZ ?_ (hk dx (tick ρ) b9 pU (hρ.tick.mono (by omega)));exact eE (by simp only[seval];simp[bw,Wk.refl]) rfl
theorem ahY{i mn np ns c:Nat}{first am:Int}{sv tv DJ Dx pI:AV}{gS:List aa}{dx:List aC}{ρ:a_}{zc:aa}{YY:List AV->Nat->Nat->Nat->List aa}{Φ:an->AS->Prop}(hT:dK Gf t N)(hY:YW Gf N zc YY)(hb:b<2^10)(hi:1<=i/\i<=3)(iR:np<=4)(b9:dx.length=np)(pU:∀y∈dx,vJ i y)(hρ:ρ.Ok (b+100))
  (hk:∀yY ρ',yY.length=np->(∀y∈yY,vJ i y)->ρ'.Ok (b+110)->aQ lv SC none 240 (lW 14 oF) ⟨[(16,DJ),(15,Dx),(13,iv mn),(11,pI),(10,.op (N+1) 0),(6,.op N 0),(0,.op t 0),(2,bv false)],Gf ρ'++(YY [iv first,iv i,iv am,sv,fO (N+6) np,tv] c np ns++(gO np (gk yY)++gS))⟩ Φ):
  aQ lv SC none 240 (lW 13 oF) ⟨[(16,DJ),(15,Dx),(13,iv mn),(11,pI),(10,.op (N+1) 0),(6,.op N 0),(0,.op t 0),(2,bv false)],Gf ρ++(YY [iv first,iv i,iv am,sv,fO (N+6) np,tv] c np ns++(gO np (gk dx)++gS))⟩ Φ:=by
 obtain⟨uJ,rL,y0,y1,y3,y4,y5,nw,za,Bd,Be,qz,tu,cH⟩:=hY;have ja:∀L:List aa,dK (λτ=>Gf τ++L) t (N+L.length):=λL=>hT.more L;unfold oF Xd at hk⊢;dsimp only[S7,lW,cs,cf]at hk⊢;rcases UH np with h0|h0
 ·subst h0;have e0:fO (N+6) 0=.sl 0 [] .exact:=rfl;simp only[e0]at hk⊢;refine ai ?_;simp only[seval,y1];refine ai ?_;simp only[seval,decide_false,show decide ((0:Int)>0)=false from rfl];refine aD ?_;refine aN ?_;refine iZ ?_ (hk dx ρ b9 pU (hρ.mono (by omega)));exact eE (by simp only[seval];simp[bw,Wk.refl]) rfl
 ·obtain⟨n2,qJ⟩:∃n2,np=n2+1:=⟨np-1,by omega⟩;have C3:fO (N+6) np=.bp (N+6+n2) 0 np 0:=by rw[qJ];rfl
  have uQ:∀o,(gO np o++gS)[n2]?=some o:=λo=>by rw[qJ];exact Cd n2 o gS
  have u_:∀o o',(gO np o++gS).set n2 o'=gO np o'++gS:=λo o'=>by rw[qJ];exact Ce n2 o o' gS
  have hd:decide ((np:Int)>0)=true:=by simp;omega
  rw[C3];simp only[C3]at hk;refine ai ?_;simp only[seval,y1];refine ai ?_;simp only[seval,hd];refine aI ((Fb (n:=4) (ja _) hρ (by omega) (by decide) ?_));(try simp only[seval]);refine aD ?_;refine⟨λhc=> ?_,λhc=> ?_⟩
  ·have bU:SE.wrap ((np:Int)-1)=(np:Int)-1:=bG _ (by omega);have f_:SE.wrap (i-1)=i-1:=bG _ (by omega);have r1:=lS (tick ρ) ((np:Int)-1);refine ai ?_;simp only[seval,bU];refine aI ((pz (n:=(np:Int)-1) (ja _) hρ.tick (by omega) (by omega) ?_));obtain⟨q,hq⟩:∃q:Nat,dp (tick ρ) ((np:Int)-1)=q:=⟨(dp (tick ρ) ((np:Int)-1)).toNat,by omega⟩;rw[hq];have As:q<np:=(by omega);(try simp only[seval]);have r2:=lS (tick (tick ρ)) (i-1);refine ai ?_;simp only[seval,y1,f_];refine aI ((pz (n:=i-1) (ja _) hρ.tick.tick (by omega) (by omega) ?_));generalize dp (tick (tick ρ)) (i-1)=a at r2⊢;(try simp only[seval]);obtain⟨y,hy⟩:=cD (xs:=dx) (i:=q) (by omega);have Gt:=pU y (Td hy);have wG:=aqo hy a a;simp only[iv]at wG;have Cy:(0<=(q:Int)/\(q:Int)<(np:Int))=True:=(by simp;omega);unfold gk at hk⊢;refine ai ?_;simp only[seval,y1,qz,tu,uQ,u_,Cy];refine⟨by rw[mP aC.len];omega,?_⟩;rw[wG];have tP:∀z∈dx.set q ⟨y.number,⟨a,a⟩⟩,vJ i z:=λz hz=>by
    rcases UB hz with hz|rfl
    ·exact pU z hz
    ·exact⟨Gt.1,⟨by show 0<=a;omega,Xl a,by show a<=i-1;omega⟩⟩
   refine iZ ?_ (hk (dx.set q ⟨y.number,⟨a,a⟩⟩) (tick (tick (tick ρ))) (by rw[TE];exact b9) tP (hρ.tick.tick.tick.mono (by omega)));exact eE (by simp only[seval];simp[bw,Wk.refl]) rfl
  ·refine aN ?_;refine iZ ?_ (hk dx (tick ρ) b9 pU (hρ.tick.mono (by omega)));exact eE (by simp only[seval];simp[bw,Wk.refl]) rfl
end
section
variable {lv:Bool}{P:SJ}{r:Option Nat}
theorem O4{nt:Nat}{c:Ua}{T:List (Nat×AV)}{Φ:an->AS->Prop}{P0 Q0:List aa}{M n oe j:Nat}{l:List aC}{cl:List AV}(hM:P0.length=M)(hl:l.length=n)(KR:P0[oe]?=some (.cells cl 26))(hj:cl[j]?=some (fO M n))(h:∀G',G'.length=n->aQ lv P r nt c ⟨T,P0.set oe (.cells (cl.set j (aS l)) 26)++(G'++Q0)⟩ Φ):aQ lv P r nt c ⟨T,P0++(gO n (gk l)++Q0)⟩ Φ:=by
 have hlt:=(SM.1 KR).1
 match n,hl with
 |0,hl=>
  obtain rfl:l=[]:=VC hl;refine IB (id:=oe) (j:=j) (y:=aS []) (el:=26) (l:=cl) (x:=.sl 0 [] .exact) ?_ hj (zr.of (iz 0 [] .exact)) ?_
  ·show (P0++([]++Q0))[oe]?=_;rw[SY hlt];exact KR
  ·show aQ lv P r nt c ⟨T,(P0++([]++Q0)).set oe _⟩ Φ;rw[U2 _ _ hlt];exact h [] rfl
 |n+1,hl=>
  refine O3 (yA:=M+n) (oe:=oe) (j:=j) (cap:=0) (ps:=l) (l:=cl) (el:=26) ?_ ?_ (by omega) (by rw[hl];exact hj) ?_
  ·rw[<- hM,S8 (by omega),TS,Cd];rfl
  ·rw[SY hlt];exact KR
  ·rw[T9 _ _ (by omega),<- hM,TS,Ce,U2 _ _ hlt];exact h _ (xP _ _)
end
section
variable {lv:Bool}{k kp:AV->List aa->Prop}{Gf:a_->List aa}{t N:Nat}{b:Int}
theorem ahV{i mn np ns c:Nat}{first am:Int}{l aA bK:List Int}{ss:List Seen}{eN dx:List aC}{ρ:a_}{zc:aa}{YY:List AV->Nat->Nat->Nat->List aa}(hT:dK Gf t N)(hH:∀τ,bM (Gf τ))(hY:YW Gf N zc YY)(wL:zc=.cells [.val (.int .i64 0),.val (.int .i64 0),.val (.int .i64 0),.sl 0 [] .exact,.sl 0 [] .exact,.sl 0 [] .exact] 26)(iG:l.length=i+1)(F8:eN.length=np)(iQ:aA.length=np)(n_:dx.length=ns)(F5:bK.length=ns)(hc:ss.length=c)
  (hk:k (.aM [aj.av ⟨first,i,am,ss,eN,dx⟩,br l,br aA,br bK]) (Gf ρ)):
  aQ lv SC none 240 (lW 14 oF) ⟨[(16,.sl ns (bK.map iv) (.opn (N+5))),(15,.sl np (aA.map iv) (.opn (N+4))),(13,iv mn),(11,.sl (i+1) (l.map iv) (.opn (N+2))),(10,.op (N+1) 0),(6,.op N 0),(0,.op t 0),(2,bv false)],Gf ρ++(YY [iv first,iv i,iv am,.sl c (ss.flatMap Seen.l) (.opn (N+3)),fO (N+6) np,fO (N+6+np) ns] c np ns++(gO np (gk eN)++gO ns (gk dx)))⟩ (sO SC [.cell 6 26,.tmp 7,.tmp 8,.tmp 9] N k kp):=by
 have n0:=hY.n0;have y9:=hY.y9;have y_:=hY.y_;obtain⟨uJ,rL,y0,y1,y3,y4,y5,nw,za,Bd,Be,qz,tu,cH⟩:=hY;have C_:∀τ (L:List aa)(y:aa),(Gf τ++L).set N y=Gf τ++L.set 0 y:=λτ L y=>by have:=cY (Gf τ) L 0 y;rwa [hT.len]at this
 have sd:∀τ (L:List aa),(Gf τ++L)[N]?=L[0]?:=λτ L=>by have:=aW (Gf τ) L 0;rwa [hT.len]at this
 unfold oF Xd;dsimp only[S7,lW,cs,cf];rw[<- SA];refine O4 (M:=N+6) (oe:=N+1) (j:=4) (n0 _ _ _ _ _) F8 (y9 _ _ _ _ _) rfl λG1 xU=> ?_;rw[y_,<- SA,<- SI (gO ns (gk dx))];refine O4 (M:=N+6+np) (oe:=N+1) (j:=5) (cl:=[iv first,iv i,iv am,.sl c (ss.flatMap Seen.l) (.opn (N+3)),aS eN,fO (N+6+np) ns]) (by rw[SP,n0,xU]) n_ (by rw[SA];exact y1 _ _ _ _ _ _) rfl λG2 hG2=> ?_;rw[SA,nw,SA,SA];obtain⟨r2,Ga⟩:∃r2,r2=[iv first,iv i,iv am,.sl c (ss.flatMap Seen.l) (.opn (N+3)),aS eN,aS dx]:=⟨_,rfl⟩;rw[show ([iv first,iv i,iv am,.sl c (ss.flatMap Seen.l) (.opn (N+3)),aS eN,fO (N+6+np) ns]:List AV).set 5 (aS dx)=r2 by rw[Ga];rfl];have hr6:r2.length=6:=by rw[Ga];rfl
 have ew:TU 6 r2=r2:=SS (by omega);have ek:∀a∈r2,a.leaf=true:=by
  rw[Ga];intro a ha;simp only[SL,S0,or_false]at ha;rcases ha with rfl|rfl|rfl|rfl|rfl|rfl<;>rfl
 have y00:∀τ r c d e G,(Gf τ++(YY r c d e++G))[N]?=some (.cells [.val (.int .i64 0),.val (.int .i64 0),.val (.int .i64 0),.sl 0 [] .exact,.sl 0 [] .exact,.sl 0 [] .exact] 26):=λτ r c d e G=>by rw[y0,wL]
 refine ai ?_;simp only[seval,y1,y00,hr6,ew];refine⟨ek,?_⟩;rw[C_];obtain⟨LL,hLL⟩:=cH r2 c np ns (.cells r2 26);rw[U2 _ _ (by rw[uJ];omega),hLL,Ve];refine nH ?_;simp only[seval,sd,hr6,ew];refine kg (b:=.aM [aj.av ⟨first,i,am,ss,eN,dx⟩,br l,br aA,br bK]) (H':=Gf ρ) (adK ?_ ?_ ?_ ?_) rfl (by simp[hT.len]) (hH _) (by simp only[jV,SL,S0,or_false,forall_eq_or_imp,forall_eq,Ds,yI,and_self]) hk
 ·rw[Ga,aj.av];refine Ee (.cons (Wk.refl _) (.cons (Wk.refl _) (.cons (Wk.refl _) (.cons ?_ (.cons (Wk.refl _) (.cons (Wk.refl _) .nil))))));rw[<- hc];exact iz _ _ _
 ·rw[<- iG];exact iz _ _ _
 ·rw[<- iQ];exact iz _ _ _
 ·rw[<- F5];exact iz _ _ _
end
end Go.Gg
