/- A part of the proof. -/
import Derived.Test.YtkanpclgnhdbiaaGreatDoorTicketWiderCard3
import Derived.Conc.LeavingOf
import Derived.Conc.Holds
import Derived.ProofKit
import Derived.Test.YtkanpclgnhdbiaaGreatDoorChecked
import Derived.Test.YtkanpclgnhdbiaaGreatDoorRows
set_option linter.all false
set_option maxRecDepth 4000
set_option maxHeartbeats 4000000
open Array renaming getD_eq_getD_getElem?->SH,getElem?_eq_getElem->SJ,getElem?_eq_some_iff->SR,getElem?_modify->Wd,getElem_mem->XU,replicate->TK
open Bool renaming and_eq_true->Tg,and_self->Z',eq_iff_iff->Vm,false_and->Xf,false_eq_true->TM,false_or->XT,not_eq_true'->TZ,not_false->YD,or_false->ZU,true_and->U_,true_or->ae'
open Char renaming ofNat->Zd
open Classical renaming byContradiction->Tt
open Function renaming comp_apply->Wc
open Go renaming Code->T6,DataW->ai_,Func->ZQ,FuncId->TS,Oper->Tu,Program->SI,ReturnsInLeavingWide->ak_,Value->SO,World->To
open Go.Addr renaming add->atP
open Go.ChangeSpec renaming post_blind->an'
open Go.Conc renaming Good->WW
open Go.DataW renaming weightsEach->Zb
open Go.DataW.Whole renaming of_heap->ah'
open Go.Input renaming okWide->ZP
open Go.IntKind renaming i64->SD,u16->S5
open Go.Obj renaming deferred->atX
open Go.OpenSpec renaming ofChange->VL
open Go.PathCond renaming test->asI
open Go.Program renaming headLifts->atU,liftsFinal->atT,make->atS,mayEnter->atQ
open Go.Proofs.Tryz renaming checked->UK,f15->WR,f22->am_,f34->ZG,f39->al',f4->WL,f53->al_,prog->SA
open Go.Region renaming linearise->Y_,schedule->VJ,wanted->Th
open Go.Region.linearise renaming go->UH
open Go.Value renaming agg->TD,cells->Z4,int->SF,okWide->Yw,slice->Us
open Int renaming le_refl->WJ,le_trans->XE,mul_le_mul->Yg,toNat->X9,toNat_natCast->VO
open List renaming all_eq_true->Tv,any_append->Zx,any_cons->YR,any_eq_true->UI,append_assoc->SC,append_eq->Vr,append_eq_nil_iff->YC,append_nil->SN,cons_append->U1,contains_append->YP,contains_eq_mem->Uq,contains_iff_mem->YH,contains_nil->Xz,countP_le_length->Y2,drop->TR,drop_append->Vu,drop_append_of_le_length->Wn,drop_drop->aj',drop_eq_getElem_cons->TQ,drop_of_length_le->WU,drop_zero->Xy,eq_nil_of_length_eq_zero->VA,exists_mem_of_ne_nil->Yf,ext_getElem?->Yo,filter_congr->Vj,filter_eq_nil_iff->YB,flatMap_append->Vx,flatMap_cons->Ub,flatMap_def->WO,flatMap_eq_nil_iff->WN,flatMap_map->WM,foldl_append->ZL,foldl_cons->UY,forall_mem_cons->Xe,getD_cons_succ->Xd,getD_cons_zero->Xn,getD_eq_getElem?_getD->SE,getElem?_append_left->SX,getElem?_append_right->S9,getElem?_drop->Uo,getElem?_eq_getElem->SY,getElem?_eq_none->Uv,getElem?_eq_some_iff->SL,getElem?_map->Tm,getElem?_of_mem->UZ,getElem?_range->Xx,getElem?_set->UM,getElem?_set_ne->T8,getElem?_take->Uf,getElem_mem->Wr,getLast?_eq_getElem?->Yd,getLastD_cons->Zp,getLastD_eq_getLast?->Vh,head?_append->WK,head?_cons->X0,length->Z2,length_append->S4,length_cons->Uk,length_drop->Ul,length_eraseIdx_of_lt->X8,length_map->Tn,length_nil->UR,length_pos_iff->VK,length_replicate->YG,length_set->TC,length_singleton->T9,length_take->T4,map->U8,map_append->TE,map_congr_left->Vz,map_cons->UW,map_flatMap->Vt,map_map->XY,map_take->VU,mem_append->SS,mem_append_left->Tf,mem_append_right->S0,mem_cons->SK,mem_cons_of_mem->Tb,mem_cons_self->TB,mem_filter->Uw,mem_flatMap->S6,mem_iff_getElem?->UQ,mem_map->Tl,mem_of_getElem?->Tc,mem_of_mem_take->Wq,mem_or_eq_of_mem_set->Up,mem_range->TP,mem_reverse->XJ,mem_singleton->S8,nil_append->Uy,nodup_append->U7,nodup_cons->VD,nodup_iff_pairwise_ne->Ut,nodup_nil->WI,nodup_range->XW,not_mem_nil->SZ,pairwise_iff_getElem->Yc,pairwise_map->Xv,range->SV,range'->Ud,range'_succ->VR,range_eq_range'->Vp,range_succ->Vk,range_zero->Zw,replicate->TF,reverse_cons->Zh,set_append_left->US,set_append_right->T_,set_cons_succ->UE,set_cons_zero->T1,set_eq_take_append_cons_drop->XM,take->TH,take_add_one->VF,take_append_drop->Vg,take_append_of_le_length->Tw,take_eq_nil_iff->YO,take_length->TO,take_of_length_le->SP,take_set->Z1,take_sublist->Zg,take_succ_cons->VQ,take_succ_eq_append_getElem->XI,take_take->U3,take_zero->aj_
open List.Nodup renaming sublist->Yp
open List.Pairwise renaming imp->Z3,imp_of_mem->Xu
open List.Perm renaming nodup_iff->ao_,refl->ab_
open List.cons renaming injEq->YQ
open Nat renaming add_assoc->U0,add_sub_cancel->VW,add_sub_cancel_left->TU,add_zero->UD,eq_zero_or_pos->UF,le_refl->SQ,le_trans->UL,lt_or_ge->YF,lt_succ_self->Ux,min_eq_left->Wv,pow_le_pow_right->Xm,reduceAdd->SW,reduceSub->Yt,sub_self->Ve,sub_zero->ZV,succ_mul->XC,testBit_or->Xl,testBit_two_pow->VP,zero_add->Wp,zero_le->W2,zero_testBit->Zu
open Option renaming getD_some->S7,map_eq_some_iff->Tp,map_some->UP
open Option.some renaming inj->Wj,injEq->Tj
open Prod.mk renaming injEq->U2
namespace Go.Gg
open Go.Conc Go.Proofs Go.Gg.Tk
def mT (τ:aZ)(n m lo hi:Int):io:=⟨max lo (n-cU τ m),min hi (n+cU (tick τ) m)⟩
def lq (τ:aZ)(h:List Int)(n hours:Int):aD:=⟨mT τ n 2 0 99,mT (tick (tick τ)) (lN h n (h.length-1)) 1 0 (hours-1)⟩
section
variable {lv:Bool}{k kp:AV->List aa->Prop}{Gf:aZ->List aa}{t N:Nat}{τ:aZ}{b:Int}
theorem Ji{n m lo hi:Int}(hT:dB Gf t N)(hτ:τ.Ok b)(hb:b<2^30)(hn: -1000<=n/\n<=1000)(hm:0<=m/\m<=3)(hk:k (mT τ n m lo hi).av (Gf (tick (tick τ)))):bm lv SA 48 (Gf τ) [.op t 0,iv n,iv m,.agg [iv lo,iv hi]] k kp:=by
 refine bG (rs:=[.cell 8 46]) (nt:=26) Tryz.f48 λhH hA=> ?_;simp only[br,SW];have n9:dB (λτ=>Gf τ++[.cells [iv lo,iv hi] 46,.cells [iv 0,iv 0] 46]) t (N+2):=hT.more [_,_];have r1:=jM τ m;have r2:=jM (tick τ) m;have bP:SD.wrap (n-cU τ m)=n-cU τ m:=bB _ (by omega);have gF:SD.wrap (n+cU (tick τ) m)=n+cU (tick τ) m:=bB _ (by omega);have Cy:(if lo<n-cU τ m then n-cU τ m else lo)=max lo (n-cU τ m):=by split<;>omega
 have ru:(if n+cU (tick τ) m<hi then n+cU (tick τ) m else hi)=min hi (n+cU (tick τ) m):=by split<;>omega
 refine am ?_;refine nU [5,13,17] (SV 18) (λD=>bif isDone 17 D then Gf (tick (tick τ))++[.cells [iv lo,iv hi] 46,.cells [iv (max lo (n-cU τ m)),iv (min hi (n+cU (tick τ) m))] 46]else bif isDone 13 D then Gf (tick (tick τ))++[.cells [iv lo,iv hi] 46,.cells [iv 0,iv 0] 46]else bif isDone 5 D then Gf (tick τ)++[.cells [iv lo,iv hi] 46,.cells [iv 0,iv 0] 46]else Gf τ++[.cells [iv lo,iv hi] 46,.cells [iv 0,iv 0] 46]) ?_;simp only[seval,hT.len,hT.g0,hT.g1,hT.g2,hT.g3,hT.h2,hT.h3,hT.s0,hT.s1,hT.s2,hT.s3,hT.t2,hT.t3,bP,gF,Cy,ru];refine nX _ _ (c9 (my (n9) hτ (by omega) (by omega) ⟨rfl,rfl⟩)) ?_;(try simp only[seval,hT.len,hT.g0,hT.g1,hT.g2,hT.g3,hT.h2,hT.h3,hT.s0,hT.s1,hT.s2,hT.s3,hT.t2,hT.t3,bP,gF,Cy,ru]);refine nX _ _ (c9 (my (n9) hτ.tick (by omega) (by omega) ⟨rfl,rfl⟩)) ?_;(try simp only[seval,hT.len,hT.g0,hT.g1,hT.g2,hT.g3,hT.h2,hT.h3,hT.s0,hT.s1,hT.s2,hT.s3,hT.t2,hT.t3,bP,gF,Cy,ru]);refine mU ?_;simp only[seval,hT.len,hT.g0,hT.g1,hT.g2,hT.g3,hT.h2,hT.h3,hT.s0,hT.s1,hT.s2,hT.s3,hT.t2,hT.t3];exact jH (b:=(mT τ n m lo hi).av) (H':=Gf (tick (tick τ))) (Wk.refl _) rfl (by simp[hT.len]) (hT.ay hH _) (by simp[io.av,io.l,tn,eC]) hk
theorem PZ{h:List Int}{n hours:Int}{e:End}(hT:dB Gf t N)(hτ:τ.Ok b)(hb:b<2^20)(hl:h.length<=4)(hn: -1000<=n/\n<=1000)(hh:1<=hours/\hours<=3)(qk: -1<=lN h n (h.length-1)/\lN h n (h.length-1)<=4)(hk:k (lq τ h n hours).av (Gf (tick (tick (tick (tick τ)))))):bm lv SA 47 (Gf τ) [.op t 0,.sl h.length (h.map iv) e,iv n,iv hours] k kp:=by
 refine bG (rs:=[.cell 8 48]) (nt:=22) Tryz.f47 λhH hA=> ?_;simp only[br,SW];have uj:∀o:aa,dB (λτ=>Gf τ++[o]) t (N+1):=λo=>hT.more [o];have bP:SD.wrap (hours-1)=hours-1:=bB _ (by omega);refine am ?_;refine aj ?_;simp only[seval,bP];refine aL ((Ji (n:=n) (m:=2) (lo:=0) (hi:=99) (uj _) hτ (by omega) hn (by decide) ?_));(try simp only[seval]);refine aL ((ah0 (h:=h) (n:=n) hl ?_));(try simp only[seval,bP]);refine aL ((Ji (n:=lN h n (h.length-1)) (m:=1) (lo:=0) (hi:=hours-1) (uj _) hτ.tick.tick (by omega) (by omega) (by decide) ?_));(try simp only[seval,hT.len,hT.g0,hT.g1,hT.g2,hT.g3,hT.h2,hT.h3,hT.s0,hT.s1,hT.s2,hT.s3,hT.t2,hT.t3,io.av,io.l]);refine mU ?_;simp only[seval,hT.len,hT.g0,hT.g1,hT.g2,hT.g3,hT.h2,hT.h3,hT.s0,hT.s1,hT.s2,hT.s3,hT.t2,hT.t3];exact jH (b:=(lq τ h n hours).av) (H':=Gf (tick (tick (tick (tick τ))))) (Wk.refl _) rfl (by simp[hT.len]) (hT.ay hH _) (by simp[aD.av,aD.l,tn,eC]) hk
end
end Go.Gg
namespace Go.Gg.Tk
def tQ:List Int->Prop
 |a::b::l=>a<=b/\tQ (b::l)
 |_=>True
theorem arq{h:List Int}{n:Int}(hl:2<=h.length)(p9:h.length<=4)(hm:tQ h):lN h n (h.length-1)=je h n:=by
 match h,hl,p9,hm with
 |[a,b],_,_,hm=>
  simp only[je,fq,lN,Uk,UR,Xn,Xd,SW,Yt]
 |[a,b,c],_,_,hm=>
  obtain⟨h1,h2,_⟩:=hm;simp only[je,fq,lN,Uk,UR,Xn,Xd,SW,Yt];split<;>split<;>first|rfl|omega
 |[a,b,c,d],_,_,hm=>
  obtain⟨h1,h2,h3,_⟩:=hm;simp only[je,fq,lN,Uk,UR,Xn,Xd,SW,Yt];split<;>split<;>first|rfl|omega|(split<;>first|rfl|omega)
end Go.Gg.Tk
namespace Go.Gg
open Go.Conc
section
variable {lv:Bool}{P:SI}{r:Option Nat}{o:Tu}{s:AS}{next:AS->Prop}{bad:AV->AS->Prop}
end
section
variable (lv:Bool)(P:SI)(r:Option Nat)
def Bj:List Tu->AS->(AS->Prop)->(AV->AS->Prop)->Prop
 |[],s,K,_=>K s
 |o::rest,s,K,bad=>o.guard=none/\Step lv P r o s (λs'=>Bj rest s' K bad) bad
end
section
variable {lv:Bool}{P:SI}{r:Option Nat}{s:AS}
theorem acD{nt:Nat}{all:Array Tu}{Φ:ao->AS->Prop}(dn:∀o∈all,∀d,o.dst=some d->d<nt)(ng:∀o∈all,r=none\/l8 o.op=false):∀(n k:Nat)(s:AS),k+n=all.size->Bj lv P r (all.toList.drop k) s (Φ .normal) (λpv s=>Φ (.panic pv) s)->
  ∀(E:Env)(V:View)(a:Act)(Q:Ex->Act->View->Prop),At E V s a nt->(∀ae e E' V' a' s',Kept E E' V V' a a'->At E' V' s' a' nt->pD E' ae e->Φ ae s'->Q e a' V')->dj lv P r all Q (Ud k n) a V
 |0,k,s,hk,h,E,V,a,Q,ai,hQ=>by
  have:all.toList.drop k=[]:=by simp;omega
  rw[this]at h;exact hQ .normal .normal E V a s (Kept.refl E V a) ai trivial h
 |n+1,k,s,hk,h,E,V,a,Q,ai,hQ=>by
  have hlt:k<all.size:=by omega
  have hd:all.toList.drop k=all[k]::all.toList.drop (k+1):=by
   rw[TQ (by simpa using hlt)];simp
  rw[hd]at h;have fz:all[k]∈all:=XU hlt;have ho:all[k]?=some all[k]:=SJ hlt;simp only[VR,dj,ho];obtain⟨hg,h⟩:=h;have hw:Th all[k] (yielded all a.tmps)=true:=by unfold Th;rw[hg]
  rw[if_pos hw];refine .inl (h E V a _ Q ai.bt ai.tok (λd e=>by rw[ai.size];exact dn _ fz d e) (ng _ fz) (λE' V' a' s' aJ aY l6 hn=> ?_) (λE' V' s' pv v aJ aY l6 bp hb=> ?_))
  ·exact acD dn ng n (k+1) s' (by omega) hn E' V' a' Q ⟨aY,l6,aJ.size.trans ai.size⟩ (λae e bO aS b8 dh fL de he hΦ=>hQ ae e bO aS b8 dh (aJ.trans fL) de he hΦ)
  ·exact hQ (.panic pv) (.panic _) E' V' a s' aJ ⟨aY,l6,ai.size⟩ ⟨v,rfl,bp⟩ hb
theorem afk{nt id:Nat}{ops:Array Tu}{Φ:ao->AS->Prop}(hd:jG nt ops=true)(h:Bj lv P r ops.toList s (Φ .normal) (λpv s=>Φ (.panic pv) s)):aQ lv P r nt (.region id ops false) s Φ:=by
 intro E V a Q ai hQ;refine wp_region ?_;rw[Vp];exact acD (Φ:=Φ) (λo ho d e=>(jG.out hd ho).1 d e) (λo ho=> .inr (jG.out hd ho).2) ops.size 0 s (by omega) (by simpa using h) E V a Q ai hQ
end
section
variable {lv:Bool}{P:SI}{r:Option Nat}{o:Tu}{s:AS}{next:AS->Prop}{bad:AV->AS->Prop}
theorem Iw{nt id:Nat}{c:T6}{l:List AV}{el:TypeId}{Φ:ao->AS->Prop}(bR:s.H[id]?=some (.cells l el))(h:aQ lv P r nt c ⟨s.T,s.H.set id (.part l.length l el)⟩ Φ):aQ lv P r nt c s Φ:=λE V a Q ai hQ=>by
 have hc:=ai.bt;obtain⟨⟨cs,ej,hd⟩,kN⟩:=hc.obj id _ bR;have g:dR V (V.eD (E.blk id) cs (λo=>decide (o<l.length))):=xo ej (λo _=>kN o);refine WP.ghost g ?_;have hI:∀b o v,E.I b o=some v->(V.eD (E.blk id) cs (λo=>decide (o<l.length))).ah b o=some v:=λb o v e=>by
  rw[hc.I]at e;have hb:b≠E.blk id:=λhb=>by rw[hb,kN]at e;cases e
  simp only[View.eD];rw[if_neg (λx=>hb x.1)];exact e
 have hle:E.Le {E with I:=(V.eD (E.blk id) cs (λo=>decide (o<l.length))).ah}:=⟨hI,SQ _,λ_ _=>rfl,λ_ _=>SQ _,λ_ _ _ _=>rfl,rfl,rfl⟩;have cL:Conc {E with I:=(V.eD (E.blk id) cs (λo=>decide (o<l.length))).ah} (V.eD (E.blk id) cs (λo=>decide (o<l.length))) (s.H.set id (.part l.length l el)):=by
  refine hc.iD id _ hle rfl (by rw[TC];exact hc.n) kX rfl (λ_ _ _=>rfl) (λb y fi hy=>⟨hy,λo=> ?_⟩) ⟨⟨cs,ej,(hd.mono hle).p,λo ho=> ?_⟩,λo ho=> ?_⟩ (λb hb=> .inl ⟨_,bR,hb⟩)
  ·have hb:b≠E.blk id:=λhb=>fi _ bR (by rw[hb];rfl);simp only[View.eD];rw[if_neg (λx=>hb x.1)]
  ·simp only[View.eD];rw[if_pos ⟨trivial,by simpa using ho⟩]
  ·simp only[View.eD];rw[if_neg (λx=>by have:=x.2;simp at this;omega)];exact kN o
 exact h _ _ a Q ⟨cL,ai.tok.mono hle,ai.size⟩ λae e E' aS a' s' hk=>hQ ae e E' aS a' s' ((⟨hle,rfl,rfl,rfl,rfl⟩:Kept E _ V (V.eD (E.blk id) cs (λo=>decide (o<l.length))) a a).trans hk)
def yW (H:List aa)(b a:AV):Prop:=∀E V v,Conc E V H->aq E b v->aq E a v
theorem yW.of{H:List aa}{b a:AV}(h:Wk b a):yW H b a:=λE _ v _ d=>h E v d
theorem HL{H:List aa}{id n cap m p:Nat}{l:List AV}{el:TypeId}(bR:H[id]?=some (.part p l el))(hm:m<=p)(hp:p<=l.length):yW H (.bh id 0 n cap) (.sl n (l.take m) .shut):=λE V v hc hd=>by
 cases hd with
 |bh hi dP=>
  rename_i cap';obtain⟨⟨cs,ho,FD,us⟩,_⟩:=hc.obj id _ bR;refine .sl (E.blk id) 0 cap' (λi=>cs.getD i undef) dP.1 trivial (λi cw=> ?_) (λi x hx=> ?_)
  ·rw[T4]at cw;have hlt:i<cs.size:=(by have:=FD.1;omega);rw[hc.I,Wp,us i (by omega),SH,SJ hlt];rfl
  ·rw[Uf]at hx;split at hx
   ·exact FD.2 i x hx
   ·cases hx
theorem Ix{nt id j:Nat}{c:T6}{l:List AV}{x y:AV}{el:TypeId}{Φ:ao->AS->Prop}(bR:s.H[id]?=some (.cells l el))(hj:l[j]?=some x)(hw:yW s.H x y)(h:aQ lv P r nt c ⟨s.T,s.H.set id (.cells (l.set j y) el)⟩ Φ):aQ lv P r nt c s Φ:=λE V a Q ai hQ=>by
 have hc:=ai.bt;obtain⟨⟨cs,ej,hd⟩,kN⟩:=hc.obj id _ bR;have cL:Conc E V (s.H.set id (.cells (l.set j y) el)):=
  hc.iD id _ (Env.Le.refl _) hc.I (by rw[hc.n,TC]) kX rfl (λ_ _ _=>rfl) (λb y _ hy=>⟨hy,λ_=>rfl⟩) ⟨⟨cs,ej,Pw hd hj (λv d=>hw E V v hc d)⟩,kN⟩ (λb dD=> .inl ⟨_,bR,dD⟩)
 exact h E V a Q ⟨cL,ai.tok,ai.size⟩ hQ
theorem OS{nt t:Nat}{c:T6}{x y:AV}{Φ:ao->AS->Prop}(ht:look s.T t=some x)(hw:yW s.H x y)(h:aQ lv P r nt c ⟨(t,y)::s.T,s.H⟩ Φ):aQ lv P r nt c s Φ:=λE V a Q ai hQ=>by
 refine h E V a Q ⟨ai.bt,λt' b e=> ?_,ai.size⟩ hQ;simp only[look]at e;split at e
 ·rename_i e';subst e';cases e;exact⟨(ai.tok t x ht).1,hw E V _ ai.bt (ai.tok t x ht).2⟩
 ·exact ai.tok t' b e
end
open Go.Proofs Go.Gg.Tk
def ii (τ:aZ)(n:Nat):Nat->List Int×aZ
 |0=>(TF n 0,τ)
 |i+1=>(((ii τ n i).1.set i ((ii τ n i).1.getD (cU (ii τ n i).2 i).toNat 0)).set (cU (ii τ n i).2 i).toNat i,tick (ii τ n i).2)
theorem Ap(τ:aZ)(n:Nat):∀i,(ii τ n i).1.length=n
 |0=>YG
 |i+1=>by rw[ii,TC,TC,Ap τ n i]
theorem GP{τ:aZ}{b:Int}(h:τ.Ok b)(n:Nat):∀i:Nat,(ii τ n i).2.Ok (b+i)
 |0=>h.mono (by simp)
 |i+1=>(GP h n i).tick.mono (by simp;omega)
theorem adB(n:Nat):gH (SF .i64 0) n=(TF n (0:Int)).map iv:=by
 have h:∀i∈SV n,AV.pt ((SF SD 0).cells[i % (SF SD 0).cells.size]!)=iv 0:=λi _=>by
  rw[show (SF SD 0).cells.size=1 from rfl,Nat.mod_one];rfl
 rw[List.map_replicate];unfold gH;rw[Vz h,List.map_const',List.length_range]
section
variable {lv:Bool}{k kp:AV->List aa->Prop}{Gf:aZ->List aa}{t N:Nat}{τ:aZ}{b:Int}
theorem PY{n:Nat}(hT:dB Gf t N)(hτ:τ.Ok b)(hb:b<2^30)(hn:n<=2^20)(hk:k (bu (ii τ n n).1) (Gf (ii τ n n).2)):bm lv SA 37 (Gf τ) [.op t 0,iv n] k kp:=by
 refine bG (rs:=[.tmp 4]) (nt:=30) Tryz.f37 λhH hA=> ?_;simp only[br,SW];have uj:∀o:aa,dB (λτ=>Gf τ++[o]) t (N+1):=λo=>hT.more [o];refine am ?_;refine aj ?_;simp only[seval,adB,hT.len];refine⟨by omega,by omega,?_⟩;refine am ?_;refine cP ?_;refine iu n (λi:Nat=>[(6,iv i)]) (λi=>Gf (ii τ n i).2++[.cells ((ii τ n i).1.map iv) 3]) (λ_=>True) (λ_ _=>rfl) (by simp only[seval];simp[bC,Wk.refl]) rfl (λ_ _ _=>by simp[hT.len]) trivial (λcq dG i cR hi R hR=> ?_);clear cq dG;refine am ?_;refine aF ?_;refine⟨λh=> ?_,λh=> ?_⟩
 ·have bF:i<n:=by omega
  have ay:=GP hτ n i;have hlen:=Ap τ n i;have x9:SD.wrap ((i:Int)+1)=i+1:=bB _ (by omega);have ew:ii τ n (i+1)=(((ii τ n i).1.set i ((ii τ n i).1.getD (cU (ii τ n i).2 i).toNat 0)).set (cU (ii τ n i).2 i).toNat i,tick (ii τ n i).2):=rfl;generalize ii τ n i=m at ay hlen ew⊢;obtain⟨l,σ⟩:=m;simp only at ay hlen ew;have hr:=jM σ i;refine aO ?_;refine am ?_;refine aL ((my (uj _) ay (by omega) (by omega) ?_));(try simp only[seval]);generalize cU σ i=u at hr ew⊢;obtain⟨u,rfl⟩:∃w:Nat,u=w:=⟨u.toNat,by omega⟩;rw[VO]at ew;have hul:u<n:=by omega
  obtain⟨a,ha⟩:=cj (xs:=l) (i:=u) (by omega);have Kz:l.getD u 0=a:=by rw[SE,ha];rfl
  rw[Kz]at ew;obtain⟨a2,Cc⟩:=cj (xs:=l) (i:=i) (by omega);have FU:(i+1<=l.length)=True:=by simp;omega
  have hou:(u+1<=(l.set i a).length)=True:=by simp;omega
  refine aj ?_;simp only[seval,jE bF,jE hul,hT.len,hT.g0,hT.g1,hT.g2,hT.g3,hT.h2,hT.h3,hT.s0,hT.s1,hT.s2,hT.s3,hT.t2,hT.t3,kG ha,Tn,FU,wB (y:=a) (show i<l.length by omega)];refine aj ?_;simp only[seval,jE hul,hT.len,hT.g0,hT.g1,hT.g2,hT.g3,hT.h2,hT.h3,hT.s0,hT.s1,hT.s2,hT.s3,hT.t2,hT.t3,Tn,hou,wB (xs:=l.set i a) (y:=i) (show u<(l.set i a).length by simp;omega)];refine aj ?_;simp only[seval,x9];refine hR _ ⟨bF,trivial,?_⟩;rw[ew];exact dF
 ·have jp:i=n:=by omega
  subst jp;clear hR;refine cp ?_;have hlen:=Ap τ i i;generalize ii τ i i=m at hlen hk⊢;obtain⟨l,σ⟩:=m;simp only at hlen hk
  (repeat apply iF);refine Iw (id:=N) (by simp only[seval,hT.len,hT.g0,hT.g1,hT.g2,hT.g3,hT.h2,hT.h3,hT.s0,hT.s1,hT.s2,hT.s3,hT.t2,hT.t3]<;>rfl) ?_
  simp only[seval,hT.len,hT.g0,hT.g1,hT.g2,hT.g3,hT.h2,hT.h3,hT.s0,hT.s1,hT.s2,hT.s3,hT.t2,hT.t3]
  (repeat apply iF);refine OS (t:=5) (y:=bu l) (by simp only[seval]<;>rfl) ?_ ?_
  ·have e:bu l=.sl i ((l.map iv).take i) .shut:=by
    rw[SP (by simp;omega),bu,hlen]
   rw[e];exact HL (p:=l.length) (by simp only[seval,hT.len,hT.g0,hT.g1,hT.g2,hT.g3,hT.h2,hT.h3,hT.s0,hT.s1,hT.s2,hT.s3,hT.t2,hT.t3]<;>rfl) (by omega) (by simp)
  refine am ?_;refine bi ?_;exact jH (b:=bu l) (H':=Gf σ) (G:=[.part l.length (l.map iv) 3]) (Wk.refl _) rfl (by simp[hT.len]) (hT.ay hH σ) (by rw[yh];trivial) hk
end
structure Ib (p:List Int)(n:Nat):Prop where
 len:p.length=n
 nodup:p.Nodup
 Hj:∀v∈p,0<=v/\v<(n:Int)
theorem set_perm{t:List Int}{k:Nat}{a b:Int}(h:t[k]?=some a):(t.set k b++[a]).Perm (t++[b]):=by
 obtain⟨hk,rfl⟩:=SL.1 h;have e:t=t.take k++t[k]::t.drop (k+1):=by rw[<- TQ hk,Vg]
 rw[XM,if_pos hk]
 conv=>rhs;rw[e]
 rw[List.perm_iff_count];intro v;simp only[List.count_append,List.count_cons,List.count_nil];omega
theorem aaY(τ:aZ)(n:Nat):∀i:Nat,i<=n->((ii τ n i).1.take i).Nodup/\∀v∈(ii τ n i).1.take i,0<=v/\v<(i:Int)
 |0,_=>by simp
 |i+1,hi=>by
  obtain⟨h1,h2⟩:=aaY τ n i (by omega);have hlen:=Ap τ n i;rw[ii];generalize ii τ n i=m at h1 h2 hlen⊢;obtain⟨l,σ⟩:=m;simp only at h1 h2 hlen⊢;have hr:=jM σ i;generalize cU σ i=u at hr⊢;obtain⟨k,rfl⟩:∃w:Nat,u=w:=⟨u.toNat,by omega⟩;rw[VO];obtain⟨a,ha⟩:=cj (xs:=l) (i:=k) (by omega);obtain⟨c,hc⟩:=cj (xs:=l) (i:=i) (by omega);have Kz:l.getD k 0=a:=by rw[SE,ha];rfl
  have v_:(l.take i).length=i:=by rw[T4];omega
  have hp:(((l.set i a).set k (i:Int)).take (i+1)).Perm (l.take i++[(i:Int)]):=by
   rw[Z1,Z1,VF,hc];show ((((l.take i)++[c]).set i a).set k (i:Int)).Perm _;rw[T_ _ _ (by omega),v_,Ve];show (((l.take i)++[a]).set k (i:Int)).Perm _;by_cases e:k=i
   ·subst e;rw[T_ _ _ (by omega),v_,Ve];exact ab_ _
   ·rw[US _ _ (by omega)];exact set_perm (by rw[Uf,if_pos (by omega)];exact ha)
  rw[Kz];refine⟨(ao_ hp).2 ?_,λv hv=> ?_⟩
  ·exact U7.2 ⟨h1,by simp,λx hx y hy e=>by
    have:=h2 x hx;simp at hy;omega⟩
  ·rcases SS.1 (hp.mem_iff.1 hv)with hv|hv
   ·have:=h2 v hv;omega
   ·simp at hv;omega
theorem aaZ(τ:aZ)(n:Nat):Ib (ii τ n n).1 n:=by
 obtain⟨h1,h2⟩:=aaY τ n n (SQ _);rw[SP (by rw[Ap];exact SQ _)]at h1 h2;exact⟨Ap τ n n,h1,h2⟩
theorem BA{τ:aZ}{n m lo hi:Int}(hn:lo<=n/\n<=hi)(o0:0<=lo):qD (mT τ n m lo hi) hi/\j4 (mT τ n m lo hi) n=true:=by
 have r1:=jM τ m;have r2:=jM (tick τ) m;unfold mT;refine⟨⟨?_,?_,?_⟩,?_⟩
 ·dsimp only;omega
 ·dsimp only;omega
 ·dsimp only;omega
 ·unfold j4;rw[Tg,decide_eq_true_eq,decide_eq_true_eq];dsimp only;omega
theorem I9(τ:aZ){ns:List Int}(h:ns≠[]):vF τ ns∈ns:=by
 unfold vF;have hl:0<ns.length:=VK.2 h;have r:=jM τ ((ns.length:Int)-1);have hi:(cU τ ((ns.length:Int)-1)).toNat<ns.length:=by omega
 rw[SE,SY hi];exact Wr hi
def wD (τ:aZ)(an:Int):Int:=vF (tick τ) [0,an,cU τ an]
theorem acG(τ:aZ){an:Int}(h:0<=an):0<=wD τ an/\wD τ an<=an:=by
 have r:=jM τ an;have:=I9 (tick τ) (ns:=[0,an,cU τ an]) (by simp);unfold wD;simp only[SK,SZ,or_false]at this;omega
def kP (τ:aZ)(first an:Int):Nat->List Int×aZ
 |0=>([first],τ)
 |i+1=>((kP τ first an i).1++[(kP τ first an i).1.getD i 0+wD (kP τ first an i).2 an],tick (tick (kP τ first an i).2))
structure nM (first an:Int)(l:List Int)(i:Nat):Prop where
 len:l.length=i+1
 head:l.getD 0 0=first
 step:∀j,j<i->l.getD j 0<=l.getD (j+1) 0/\l.getD (j+1) 0<=l.getD j 0+an
theorem EX{l:List Int}{v:Int}{j:Nat}(h:j<l.length):(l++[v]).getD j 0=l.getD j 0:=by
 rw[SE,SE,SX h]
theorem aja{l:List Int}{v:Int}{j:Nat}(h:l.length=j):(l++[v]).getD j 0=v:=by
 subst h;rw[SE,S9 (SQ _),Ve];rfl
theorem RD(τ:aZ)(first:Int){an:Int}(h:0<=an):∀i,nM first an (kP τ first an i).1 i
 |0=>⟨rfl,rfl,λj hj=>by omega⟩
 |i+1=>by
  have ih:=RD τ first h i
  rw[kP];have hs:=acG (kP τ first an i).2 h;generalize wD (kP τ first an i).2 an=v at hs⊢;generalize(kP τ first an i).1=l at ih⊢;have hl:=ih.len;refine⟨by rw[S4,hl];rfl,by rw[EX (by omega)];exact ih.head,λj hj=> ?_⟩;by_cases b9:j<i
  ·rw[EX (by omega),EX (by omega)];exact ih.step j b9
  ·have:j=i:=(by omega);subst this;rw[EX (by omega),aja (by omega)];omega
theorem RE{τ:aZ}{b:Int}(h:τ.Ok b)(first an:Int):∀i:Nat,(kP τ first an i).2.Ok (b+2* i)
 |0=>h.mono (by simp)
 |i+1=>(RE h first an i).tick.tick.mono (by simp;omega)
theorem nM.ge{first an:Int}{l:List Int}{i:Nat}(h:nM first an l i)(hp:0<=an):∀j,j<=i->first<=l.getD j 0/\l.getD j 0<=first+an* j
 |0,_=>by rw[h.head];simp
 |j+1,hj=>by
  have ih:=h.ge hp j (by omega);have:=h.step j (by omega);have e:an* ((j+1:Nat):Int)=an* j+an:=by rw[Int.natCast_add,Int.mul_add];simp
  omega
def ky (first:Int)(order:List Int)(i:Nat):List Int:=(SV i).map λj=>first+order.getD j 0
theorem abb(first:Int)(order:List Int)(i:Nat):ky first order (i+1)=ky first order i++[first+order.getD i 0]:=by
 unfold ky;rw[Vk,TE];rfl
theorem aba(first:Int)(order:List Int)(i:Nat):(ky first order i).length=i:=by simp[ky]
def kg (h:List Int)(hours:Int)(num:Nat->Int)(τ:aZ):Nat->List aD×aZ
 |0=>([],τ)
 |i+1=>((kg h hours num τ i).1++[lq (tick (kg h hours num τ i).2) h (num i) hours],tick (tick (tick (tick (tick (kg h hours num τ i).2)))))
theorem zG(h:List Int)(hours:Int)(num:Nat->Int)(τ:aZ):∀i,(kg h hours num τ i).1.length=i
 |0=>rfl
 |i+1=>by rw[kg,S4,zG h hours num τ i];rfl
theorem J8{τ:aZ}{b:Int}(hτ:τ.Ok b)(h:List Int)(hours:Int)(num:Nat->Int):∀i:Nat,(kg h hours num τ i).2.Ok (b+5* i)
 |0=>hτ.mono (by simp)
 |i+1=>(J8 hτ h hours num i).tick.tick.tick.tick.tick.mono (by simp;omega)
def rS (h:List Int)(hours:Int)(τ:aZ):Nat->List Seen×aZ
 |0=>([],τ)
 |i+1=>((rS h hours τ i).1++[⟨cU (rS h hours τ i).2 hours,mT (tick (rS h hours τ i).2) (h.getD (cU (rS h hours τ i).2 hours).toNat 0) 1 0 99⟩],tick (tick (tick (rS h hours τ i).2)))
theorem ab7(h:List Int)(hours:Int)(τ:aZ):∀i,(rS h hours τ i).1.length=i
 |0=>rfl
 |i+1=>by rw[rS,S4,ab7 h hours τ i];rfl
theorem ab9{τ:aZ}{b:Int}(hτ:τ.Ok b)(h:List Int)(hours:Int):∀i:Nat,(rS h hours τ i).2.Ok (b+3* i)
 |0=>hτ.mono (by simp)
 |i+1=>(ab9 hτ h hours i).tick.tick.tick.mono (by simp;omega)
theorem ab8{h:List Int}{hours:Int}{τ:aZ}(hu:∀τ,0<=cU τ hours/\cU τ hours<=hours):∀i,∀s∈(rS h hours τ i).1,0<=s.hour/\s.hour<=hours/\∃σ,s.next=mT σ (h.getD s.hour.toNat 0) 1 0 99
 |0,s,hs=>by cases hs
 |i+1,s,hs=>by
  rw[rS]at hs;rcases SS.1 hs with hs|hs
  ·exact ab8 hu i s hs
  ·rw[S8]at hs;subst hs;exact⟨(hu _).1,(hu _).2,_,rfl⟩
structure Ee (h:List Int)(hours n:Int)(y:aD):Prop where
 num:qD y.number 99
 hour:qD y.hour (hours-1)
 fits:fits h y n=true
theorem J7{h:List Int}{hours:Int}{num:Nat->Int}{τ:aZ}{P:Int->aD->Prop}(hP:∀τ n,P n (lq τ h n hours)):∀i j y,(kg h hours num τ i).1[j]?=some y->P (num j) y
 |0,j,y,hy=>by cases hy
 |i+1,j,y,hy=>by
  rw[kg]at hy;have hl:=zG h hours num τ i;by_cases hj:j<i
  ·rw[SX (by omega)]at hy;exact J7 hP i j y hy
  ·rw[S9 (by omega),hl]at hy;have:j=i:=(by have:=(SL.1 hy).1;simp at this;omega);subst this;rw[Ve]at hy;cases hy;exact hP _ _
section
variable {lv:Bool}{P:SI}{r:Option Nat}{s:AS}
theorem Iv{nt:Nat}{x y:T6}{α:Type}{Φ Ψ:ao->AS->Prop}(inv:α->AS)(ok:α->Prop)(h1:aQ lv P r nt x s (ao.then (λs'=>∃a,ok a/\s'.Sub (inv a)) Ψ))(h2:∀a,ok a->aQ lv P r nt y (inv a) Φ):aQ lv P r nt x s (ao.then (λs'=>aQ lv P r nt y s' Φ) Ψ):=
 h1.mono λe s' h=>by
  cases e with
  |normal=>
   obtain⟨a,h3,h4⟩:=h;exact pJ h4 (h2 a h3)
  |_=>exact h
end
theorem N4:gH (SF .i64 0) 3=[iv 0,iv 0,iv 0]:=rfl
theorem zE4:gH (SF .i64 0) 4=[iv 0,iv 0,iv 0,iv 0]:=rfl
theorem wL:gH (TD #[SF .i64 0,SF .i64 0,SF .i64 0,SF .i64 0]) 4=[iv 0,iv 0,iv 0,iv 0]:=rfl
theorem zS1:gH (TD #[SF .i64 0,SF .i64 0,SF .i64 0]) 3=[iv 0,iv 0,iv 0]:=rfl
theorem Ds:(3<=2^24)=True:=eq_true (by decide)
theorem tx:(4<=2^24)=True:=eq_true (by decide)
theorem Az:(1<=2^24)=True:=eq_true (by decide)
theorem adr{first an w v:Int}{i:Nat}(h1:first<=w/\w<=first+an* i)(h2:0<=v/\v<=an)(hf:0<=first/\first<=90)(hp:1<=an/\an<=3)(hi:i<=3):0<=w+v/\w+v<=1000:=by
 have:an* (i:Int)<=3* 3:=Yg (by omega) (by omega) (by omega) (by omega);generalize an* (i:Int)=q at h1 this;omega
theorem LP{n:Int}(h:0<=n/\n<=1000):SD.wrap n=n:=bB _ (by omega)
theorem NJ(h:List Int)(n:Int):∀m:Nat, -1<=lN h n m/\lN h n m<m
 |0=>by simp[lN]
 |m+1=>by
  have:=NJ h n m;unfold lN;split
  ·omega
  ·omega
theorem Jy:∀l:List aD,(l.flatMap aD.l).length=l.length* 4
 |[]=>rfl
 |a::l=>by rw[Ub,S4,Jy l,aD.len,Uk];omega
theorem Qd:∀l:List Seen,(l.flatMap Seen.l).length=l.length* 3
 |[]=>rfl
 |a::l=>by rw[Ub,S4,Qd l,Seen.len,Uk];omega
theorem Jz{α:Type}{f:α->List AV}{l:List α}{a:α}:(l++[a]).flatMap f=l.flatMap f++f a:=by rw[Vx];simp
theorem amU{α:Type}{f:Nat->α}{l:List α}{n:Nat}(hl:l.length=n)(h:∀i,i<n->l[i]?=some (f i)):(SV n).map f=l:=by
 refine Yo λi=> ?_;rw[Tm];by_cases hi:i<n
 ·rw[Xx hi,UP,h i hi]
 ·rw[Uv (by simp;omega),Uv (by omega)];rfl
def Ob (a b:Nat):Prop:=(if(a:Int)<(b:Int)then(a:Int)else(b:Int))=((min b a:Nat):Int)
theorem aaX(a b:Nat):Ob a b:=by unfold Ob;split<;>omega
structure Made (pm:Nat)(x:ak)(bz aB bS:List Int):Prop where
 first:0<=x.first/\x.first<=90
 hours:1<=x.hours/\x.hours<=3
 an:1<=x.an/\x.an<=3
 FL:nM x.first x.an bz x.hours.toNat
 am5:x.pieces.length<=pm
 uW:aB.length=x.pieces.length
 num:∀n∈aB,x.first<=n/\n<bz.getD x.hours.toNat 0
 Dl:aB.Nodup
 piece:∀(p:Nat) y,x.pieces[p]?=some y->∃τ,y=lq τ bz (aB.getD p 0) x.hours
 wx:bS.length=x.aC.length
 aC:x.aC.length<=3
 own:∀v∈bS,0<=v/\v<(aB.length:Int)
 Dp:bS.Nodup
 stub:∀(s:Nat) y,x.aC[s]?=some y->∃τ,y=lq τ bz (aB.getD (bS.getD s 0).toNat 0) x.hours
 tE:x.seen.length<=2
 seen:∀s∈x.seen,0<=s.hour/\s.hour<=x.hours/\∃τ,s.next=mT τ (bz.getD s.hour.toNat 0) 1 0 99
structure YOk (Gf:aZ->List aa)(N:Nat)(zc:aa)(YY:List AV->Nat->Nat->Nat->Nat->Nat->List aa):Prop where
 len:∀r a b c d e,(YY r a b c d e).length=8
 y0:∀τ r a b c d e,(Gf τ++YY r a b c d e)[N]?=some zc
 y1:∀τ r a b c d e,(Gf τ++YY r a b c d e)[N+1]?=some (.cells r 26)
 y3:∀τ r a b c d e,(Gf τ++YY r a b c d e)[N+3]?=some (.tail a 4 48)
 y4:∀τ r a b c d e,(Gf τ++YY r a b c d e)[N+4]?=some (.tail b 4 48)
 y5:∀τ r a b c d e,(Gf τ++YY r a b c d e)[N+5]?=some (.tail c 3 61)
 y6:∀τ r a b c d e,(Gf τ++YY r a b c d e)[N+6]?=some (.tail d 1 3)
 y7:∀τ r a b c d e,(Gf τ++YY r a b c d e)[N+7]?=some (.tail e 1 3)
 z1:∀τ r r' a b c d e,(Gf τ++YY r a b c d e).set (N+1) (.cells r' 26)=Gf τ++YY r' a b c d e
 z3:∀τ r a a' b c d e,(Gf τ++YY r a b c d e).set (N+3) (.tail a' 4 48)=Gf τ++YY r a' b c d e
 z4:∀τ r a b b' c d e,(Gf τ++YY r a b c d e).set (N+4) (.tail b' 4 48)=Gf τ++YY r a b' c d e
 z5:∀τ r a b c c' d e,(Gf τ++YY r a b c d e).set (N+5) (.tail c' 3 61)=Gf τ++YY r a b c' d e
 z6:∀τ r a b c d d' e,(Gf τ++YY r a b c d e).set (N+6) (.tail d' 1 3)=Gf τ++YY r a b c d' e
 s0:∀r a b c d e y,∃L,(YY r a b c d e).set 0 y=y::L
 z7:∀τ r a b c d e e',(Gf τ++YY r a b c d e).set (N+7) (.tail e' 1 3)=Gf τ++YY r a b c d e'
noncomputable def nV:T6:=WR.body.getD .skip
def mZ:Nat->T6->T6
 |0,c=>c
 |n+1,c=>mZ n (cs c)
section
variable {lv:Bool}{P:SI}{r:Option Nat}{o:Tu}{s:AS}{next:AS->Prop}{bad:AV->AS->Prop}
theorem afi{nt id sz:Nat}{c:T6}{l:List AV}{el:TypeId}{Φ:ao->AS->Prop}(bR:s.H[id]?=some (.own sz l el))(h:aQ lv P r nt c ⟨s.T,s.H.set id (.part l.length l el)⟩ Φ):aQ lv P r nt c s Φ:=λE V a Q ai hQ=>by
 have hc:=ai.bt;obtain⟨⟨cs,ej,hd,_⟩,kN⟩:=hc.obj id _ bR;have g:dR V (V.eD (E.blk id) cs (λo=>decide (o<l.length))):=xo ej (λo _=>kN o);refine WP.ghost g ?_;have hI:∀b o v,E.I b o=some v->(V.eD (E.blk id) cs (λo=>decide (o<l.length))).ah b o=some v:=λb o v e=>by
  rw[hc.I]at e;have hb:b≠E.blk id:=λhb=>by rw[hb,kN]at e;cases e
  simp only[View.eD];rw[if_neg (λx=>hb x.1)];exact e
 have hle:E.Le {E with I:=(V.eD (E.blk id) cs (λo=>decide (o<l.length))).ah}:=⟨hI,SQ _,λ_ _=>rfl,λ_ _=>SQ _,λ_ _ _ _=>rfl,rfl,rfl⟩;have cL:Conc {E with I:=(V.eD (E.blk id) cs (λo=>decide (o<l.length))).ah} (V.eD (E.blk id) cs (λo=>decide (o<l.length))) (s.H.set id (.part l.length l el)):=by
  refine hc.iD id _ hle rfl (by rw[TC];exact hc.n) kX rfl (λ_ _ _=>rfl) (λb y fi hy=>⟨hy,λo=> ?_⟩) ⟨⟨cs,ej,hd.mono hle,λo ho=> ?_⟩,λo ho=> ?_⟩ (λb hb=> .inl ⟨_,bR,hb⟩)
  ·have hb:b≠E.blk id:=λhb=>fi _ bR (by rw[hb];rfl);simp only[View.eD];rw[if_neg (λx=>hb x.1)]
  ·simp only[View.eD];rw[if_pos ⟨trivial,by simpa using ho⟩]
  ·simp only[View.eD];rw[if_neg (λx=>by have:=x.2;simp at this;omega)];exact kN o
 exact h _ _ a Q ⟨cL,ai.tok.mono hle,ai.size⟩ λae e E' aS a' s' hk=>hQ ae e E' aS a' s' ((⟨hle,rfl,rfl,rfl,rfl⟩:Kept E _ V (V.eD (E.blk id) cs (λo=>decide (o<l.length))) a a).trans hk)
end
section
variable {lv:Bool}{P:SI}{r:Option Nat}{s:AS}
theorem OJ{nt:Nat}{α:Type}{lt:α->α->Prop}(wf:WellFounded lt){c:T6}{Φ:ao->AS->Prop}(V:α->List (Nat×AV))(Hf:α->List aa)(ok:α->Prop)(m0:α)
  (uw:∀m m',(V m).map (·.1)=(V m').map (·.1)) (gA:∀p∈V m0,∃b,look s.T p.1=some b/\Wk b p.2) (uh:Hf m0=s.H) (hl:∀m,ok m->s.H.length<=(Hf m).length) (hm:ok m0)
  (h:bH s.H->(∀t a,look s.T t=some a->Lt s.H.length a)->∀m,ok m->∀R:AS->Prop,(∀s',(∃m',lt m' m/\ok m'/\qM s.T (V m) (V m') (Hf m') s')->R s')->aQ lv P r nt c ⟨V m++s.T,Hf m⟩ (ao.then R Φ)):aQ lv P r nt (.loop c) s Φ:=by
 have same:∀m m' t,look (V m) t=none->look (V m') t=none:=λm m' t h=>Mr λp hp e=>by
  have h1:p.1∈(V m').map (·.1):=Tl.2 ⟨p,hp,rfl⟩;rw[uw m' m]at h1;obtain⟨q,hq,e'⟩:=Tl.1 h1;have h2:((V m).any λx=>x.1==t)=true:=UI.2 ⟨q,hq,by simp[e',e]⟩;obtain⟨a,ha⟩:=Mq h2;rw[h]at ha;cases ha
 intro E V0 a Q ai hQ;have hlt:∀t a,look s.T t=some a->Lt s.H.length a:=λt x e=>by rw[<- ai.bt.n];exact(ai.tok t x e).2.lt
 have h0:s.Sub ⟨V m0++s.T,Hf m0⟩:=⟨λt x e=>by
  rw[uS]at e;cases hl:look (V m0) t with
  |none=>rw[hl]at e;exact⟨x,e,Wk.refl x⟩
  |some y=>rw[hl]at e;cases e;exact gA (t,x) (ow hl),uh.symm⟩
 refine OI wf (s:=s) (λm=>⟨V m++s.T,Hf m⟩) ok m0 h0 hm hl (λm ay=> ?_) E V0 a Q ai hQ;refine(h ai.bt.ay hlt m ay _ λ_ h=>h).mono λe s' hΦ=> ?_;cases e with
 |normal=>
  obtain⟨m',q1,q2,hk,hv,G,hG,sQ⟩:=hΦ;have tok:∀t x,look (V m'++s.T) t=some x->∃b,look s'.T t=some b/\Wk b x/\(look (V m') t=some x\/look s.T t=some x):=λt x e=>by
   rw[uS]at e;cases hl:look (V m') t with
   |none=>
    rw[hl]at e;have hb:look (V m++s.T) t=some x:=(by rw[uS,same m' m t hl];exact e);exact⟨x,hk.look hb hl,Wk.refl x,.inr e⟩
   |some y=>
    rw[hl]at e;cases e;obtain⟨b,h1,h2⟩:=hv (t,x) (ow hl);exact⟨b,h1,h2,.inl rfl⟩
  refine⟨m',q1,q2,?_⟩;rcases sQ with rfl|⟨nv,KS⟩
  ·exact .inl ⟨λt x e=>by obtain⟨b,h1,h2,_⟩:=tok t x e;exact⟨b,h1,h2⟩,by rw[hG,SN]⟩
  ·refine .inr ⟨λt x e=> ?_,⟨G,hG⟩,nv⟩;obtain⟨b,h1,h2,h3⟩:=tok t x e;refine⟨b,h1,h2,?_⟩;rcases h3 with h3|h3
   ·exact KS (t,x) (ow h3)
   ·show Lt (Hf m').length x;exact(hlt t x h3).mono (hl m' q2)
 |_=>exact hΦ
theorem OG{nt:Nat}{c:T6}{Φ:ao->AS->Prop}(n:Nat)(V:Nat->List (Nat×AV))(Hf:Nat->List aa)(ok:Nat->Prop)
  (uw:∀m m',(V m).map (·.1)=(V m').map (·.1)) (gA:∀p∈V 0,∃b,look s.T p.1=some b/\Wk b p.2) (uh:Hf 0=s.H) (hl:∀m,m<=n->ok m->s.H.length<=(Hf m).length) (hm:ok 0)
  (h:bH s.H->(∀t a,look s.T t=some a->Lt s.H.length a)->∀m,m<=n->ok m->∀R:AS->Prop,(∀s',(m<n/\ok (m+1)/\qM s.T (V m) (V (m+1)) (Hf (m+1)) s')->R s')->aQ lv P r nt c ⟨V m++s.T,Hf m⟩ (ao.then R Φ)):aQ lv P r nt (.loop c) s Φ:=by
 refine OJ (measure λi=>n-i).wf V Hf (λi=>i<=n/\ok i) 0 uw gA uh (λm h=>hl m h.1 h.2) ⟨W2 _,hm⟩ (λh1 h2 m ay R hR=> ?_);exact h h1 h2 m ay.1 ay.2 R λs' ⟨q1,q2,q3⟩=>hR s' ⟨m+1,(by show n-(m+1)<n-m;omega),⟨q1,q2⟩,q3⟩
end
def gO:Nat->aa->List aa
 |0,_=>[]
 |n+1,o=>TF n .gone++[o]
theorem xn:∀(n:Nat)(o:aa),(gO n o).length=n
 |0,_=>rfl
 |n+1,o=>by simp[gO]
theorem BZ(n:Nat)(o:aa)(R:List aa):(gO (n+1) o++R)[n]?=some o:=by
 rw[SX (by rw[xn];omega),gO,S9 (by simp)];simp
theorem B0(n:Nat)(o o':aa)(R:List aa):(gO (n+1) o++R).set n o'=gO (n+1) o'++R:=by
 rw[US _ _ (by rw[xn];omega),gO,T_ _ _ (by simp)];simp[gO]
theorem Qv(n:Nat)(o:aa):gO (n+1) .gone++[o]=gO (n+2) o:=by
 simp only[gO,List.replicate_succ']
def fl (j n:Nat):AV:=match n with
 |0=> .sl 0 [] .exact
 |n+1=> .bh (j+n) 0 (n+1) 0
def fC (l:List aD):aa:=.own 4 (l.flatMap aD.l) 48
structure YW (Gf:aZ->List aa)(N:Nat)(zc:aa)(YY:List AV->Nat->Nat->Nat->List aa):Prop where
 len:∀r c d e,(YY r c d e).length=6
 n:∀τ r c d e G,(Gf τ++(YY r c d e++G)).length=N+6+G.length
 y0:∀τ r c d e G,(Gf τ++(YY r c d e++G))[N]?=some zc
 y1:∀τ r c d e G,(Gf τ++(YY r c d e++G))[N+1]?=some (.cells r 26)
 y3:∀τ r c d e G,(Gf τ++(YY r c d e++G))[N+3]?=some (.tail c 3 61)
 y4:∀τ r c d e G,(Gf τ++(YY r c d e++G))[N+4]?=some (.tail d 1 3)
 y5:∀τ r c d e G,(Gf τ++(YY r c d e++G))[N+5]?=some (.tail e 1 3)
 z1:∀τ r r' c d e G,(Gf τ++(YY r c d e++G)).set (N+1) (.cells r' 26)=Gf τ++(YY r' c d e++G)
 z3:∀τ r c c' d e G,(Gf τ++(YY r c d e++G)).set (N+3) (.tail c' 3 61)=Gf τ++(YY r c' d e++G)
 z4:∀τ r c d d' e G,(Gf τ++(YY r c d e++G)).set (N+4) (.tail d' 1 3)=Gf τ++(YY r c d' e++G)
 z5:∀τ r c d e e' G,(Gf τ++(YY r c d e++G)).set (N+5) (.tail e' 1 3)=Gf τ++(YY r c d e'++G)
 w:∀τ r c d e G m,(Gf τ++(YY r c d e++G))[N+6+m]?=G[m]?
 v:∀τ r c d e G m y,(Gf τ++(YY r c d e++G)).set (N+6+m) y=Gf τ++(YY r c d e++G.set m y)
 s0:∀r c d e y,∃L,(YY r c d e).set 0 y=y::L
section
variable {Gf:aZ->List aa}{N:Nat}{zc:aa}{YY:List AV->Nat->Nat->Nat->List aa}(h:YW Gf N zc YY)
include h
theorem YW.n0(τ r c d e):(Gf τ++YY r c d e).length=N+6:=by have:=h.n τ r c d e [];rwa [SN]at this
theorem YW.w0(τ r c d e G):(Gf τ++(YY r c d e++G))[N+6]?=G[0]?:=h.w τ r c d e G 0
theorem YW.yF(τ r c d e):(Gf τ++YY r c d e)[N+1]?=some (.cells r 26):=by have:=h.y1 τ r c d e [];rwa [SN]at this
theorem YW.yG(τ r r' c d e):(Gf τ++YY r c d e).set (N+1) (.cells r' 26)=Gf τ++YY r' c d e:=by have:=h.z1 τ r r' c d e [];rwa [SN,SN]at this
end
theorem asc{Gf:aZ->List aa}{t N:Nat}{zc o2:aa}{YY:List AV->Nat->Nat->Nat->List aa}(hT:dB Gf t N)(h:∀r c d e,YY r c d e=[zc,.cells r 26,o2,.tail c 3 61,.tail d 1 3,.tail e 1 3]):YW Gf N zc YY:=by
 have fO:∀τ (L:List aa)(j:Nat),(Gf τ++L)[N+j]?=L[j]?:=λτ L j=>by rw[<- hT.len τ,ba]
 have cM:∀τ (L:List aa)(j:Nat)(y:aa),(Gf τ++L).set (N+j) y=Gf τ++L.set j y:=λτ L j y=>by rw[<- hT.len τ,dJ]
 have hl:∀r c d e,(YY r c d e).length=6:=λr c d e=>by rw[h];rfl
 refine⟨hl,λτ r c d e G=>by rw[S4,S4,hl,hT.len];omega,λτ r c d e G=> ?_,λτ r c d e G=>by rw[fO,h];rfl,λτ r c d e G=>by rw[fO,h];rfl,λτ r c d e G=>by rw[fO,h];rfl,λτ r c d e G=>by rw[fO,h];rfl,λτ r r' c d e G=>by rw[cM,h,h];rfl,λτ r c c' d e G=>by rw[cM,h,h];rfl,λτ r c d d' e G=>by rw[cM,h,h];rfl,λτ r c d e e' G=>by rw[cM,h,h];rfl,λτ r c d e G m=> ?_,λτ r c d e G m y=> ?_,λr c d e y=>⟨_,by rw[h];rfl⟩⟩
 ·have:=fO τ (YY r c d e++G) 0;rw[UD]at this;rw[this,h];rfl
 ·rw[U0,fO,S9 (by rw[hl];omega),hl,TU]
 ·rw[U0,cM,T_ _ _ (by rw[hl];omega),hl,TU]
section
variable {lv:Bool}{k kp:AV->List aa->Prop}{Gf:aZ->List aa}{t N:Nat}{b:Int}
theorem ahH{pm i mn:Nat}{first an:Int}{l order:List Int}{ρ:aZ}{zc:aa}{YY:List AV->Nat->Nat->Nat->List aa}{hz:Bool}{Ψ:ao->AS->Prop}(hT:dB Gf t N)(hY:YW Gf N zc YY)(hH:∀τ,bH (Gf τ))(hb:b<2^10)(rz:pm<=4)(hi:1<=i/\i<=3)(oh:0<=first/\first<=90)(hO:l.length=i+1)(KX:mn<=9)(qf:Ib order mn)(qi:ρ.Ok (b+19)):
  aQ lv SA none 240 (cs (cf (mZ 7 nV))) ⟨[(17,iv 0),(16,.sl 0 [] (.opn (N+5))),(15,.sl 0 [] (.opn (N+4))),(14,bu order),(13,iv mn),(11,.sl (i+1) (l.map iv) (.opn (N+2))),(10,.op (N+1) 0),(6,.op N 0),(0,.op t 0),(1,iv pm),(2,bv hz)],Gf ρ++YY [iv first,iv i,iv an,.sl 0 [] (.opn (N+3)),.sl 0 [] .exact,.sl 0 [] .exact] 0 0 0⟩ (ao.then (λs'=>∃y:Nat×aZ,(y.1<=pm/\y.1<=mn/\y.2.Ok (b+60))/\s'.Sub ⟨[(16,.sl 0 [] (.opn (N+5))),(15,.sl y.1 ((ky first order y.1).map iv) (.opn (N+4))),(13,iv mn),(11,.sl (i+1) (l.map iv) (.opn (N+2))),(10,.op (N+1) 0),(6,.op N 0),(0,.op t 0),(2,bv hz)],Gf y.2++(YY [iv first,iv i,iv an,.sl 0 [] (.opn (N+3)),fl (N+6) y.1,.sl 0 [] .exact] 0 y.1 0++gO y.1 (fC (kg l i (λj=>first+order.getD j 0) ρ y.1).1))⟩) Ψ):=by
 have n0:=hY.n0;have w0:=hY.w0;have Dr:(1<=2^30)=True:=eq_true (by decide);have yF:=hY.yF;have yG:=hY.yG;obtain⟨uk,rc,y0,y1,y3,y4,y5,mK,yH,A0,A1,pS,sK,cx⟩:=hY;have gz:∀L:List aa,dB (λτ=>Gf τ++L) t (N+L.length):=λL=>hT.more L;obtain⟨hv,zQ⟩:∃hv:Nat->List aD×aZ,∀j,hv j=kg l i (λj=>first+order.getD j 0) ρ j:=⟨_,λ_=>rfl⟩;simp only[<- zQ];have hvl:∀j,(hv j).1.length=j:=λj=>by rw[zQ];exact zG _ _ _ _ _
 have hvt:∀j:Nat,(hv j).2.Ok (b+19+5* j):=λj=>by rw[zQ];exact(J8 qi _ _ _ j).mono (by omega)
 have rE:hv 0=([],ρ):=zQ 0;unfold nV WR;dsimp only[S7,mZ,cs,cf];have FQ:=aaX mn pm;refine cP ?_;refine OG (min pm mn) (λj:Nat=>[(15,.sl j ((ky first order j).map iv) (.opn (N+4))),(17,iv j)]) (λj=>Gf (hv j).2++(YY [iv first,iv i,iv an,.sl 0 [] (.opn (N+3)),fl (N+6) j,.sl 0 [] .exact] 0 j 0++gO j (fC (hv j).1))) (λ_=>True) (λ_ _=>rfl) (by simp only[ky,Zw,List.map_nil];simp only[seval];simp[bC,Wk.refl]) (by rw[rE];simp[gO,fl]) (λ_ _ _=>by simp[hT.len,uk]) trivial (λcq dG j oZ _ R hR=> ?_);clear cq dG;have kU:=hvt j;by_cases eX:j<min pm mn
 ·have hd:decide ((j:Int)<((min pm mn:Nat):Int))=true:=by simpa using eX
  refine aj ?_;simp only[seval,show (if(mn:Int)<(pm:Int)then(mn:Int)else(pm:Int))=((min pm mn:Nat):Int)from FQ,hd];have ew:hv (j+1)=((hv j).1++[lq (tick (hv j).2) l (first+order.getD j 0) i],tick (tick (tick (tick (tick (hv j).2))))):=by rw[zQ,zQ];rfl
  have pj:=hvl j;generalize FI:hv j=hj at kU ew pj⊢;obtain⟨ps,ρj⟩:=hj;dsimp only at kU ew pj⊢;refine aL ((EQ (n:=6) (gz _) kU (by omega) (by decide) ?_));(try simp only[seval]);refine aF ?_;refine⟨λhc=> ?_,λhc=> ?_⟩
  ·obtain⟨o,ho⟩:=cj (xs:=order) (i:=j) (by rw[qf.len];omega);have hor:=qf.Hj o (wq ho);have hgo:order.getD j 0=o:=(by rw[SE,ho];rfl);rw[hgo]at ew;have LD:SD.wrap (first+o)=first+o:=LP (by omega)
   have xN:SD.wrap ((j:Int)+1)=((j+1:Nat):Int):=(by rw[bB _ (by omega)];rfl);have pX:(0<=(j:Int)/\(j:Int)<(order.length:Int))=True:=(by simp[qf.len];omega);have ju:=aba first order j
   have CB:U8 iv (ky first order j)++[AV.val (SF SD (first+o))]=(ky first order (j+1)).map iv:=(by rw[abb,hgo,TE];rfl);have xQ:(ky first order (j+1))[j]?=some (first+o):=(by rw[abb,hgo,S9 (by omega),ju,Ve];rfl);have oR:(0<=(j:Int)/\(j:Int)<(j:Int)+1)=True:=(by simp;omega);refine aO ?_;refine cP ?_;refine eM 9 ?_;simp only[seval,z1,Az,y1,y4,A0,bu,e_ ho,pX,LD,ju];refine⟨by omega,?_⟩;rw[CB];obtain⟨n,hn⟩:∃n,n=first+o:=⟨_,rfl⟩
   rw[<- hn]at xQ ew;have qk:=NJ l n i;have tY:=λ(L:List aa) k kp=>PZ (lv:=lv) (k:=k) (kp:=kp) (h:=l) (n:=n) (hours:=i) (e:=.opn (N+2)) (gz L) kU.tick (by omega) (by omega) (by omega) (by omega) (by rw[hO,VW];omega);simp only[hO]at tY;obtain⟨y,hy⟩:∃y,y=lq (tick ρj) l n i:=⟨_,rfl⟩;rw[<- hy]at ew tY;have wc:y.l=[iv y.number.min,iv y.number.max,iv y.hour.min,iv y.hour.max]:=rfl;have hyf:∀a∈y.l,a.leaf=true:=(by rw[wc];simp[AV.leaf,Value.one]);have ej:∀FP,FP=ps.flatMap aD.l->aa.own 4 (FP++y.l) 48=fC (hv (j+1)).1:=λFP oQ=>(by rw[ew,fC,Jz,oQ]);rcases UF j with uu|uu
   ·subst uu;obtain rfl:ps=[]:=VA pj;have cx:fl (N+6) 0=.sl 0 [] .exact:=rfl;have lr:∀o,gO 0 o=[]:=λ_=>rfl;rw[lr,SN];refine nU [10,12,14] (SV 15) (λD=>bif isDone 14 D then Gf (tick (tick (tick (tick (tick ρj)))))++(YY [iv first,iv i,iv an,.sl 0 [] (.opn (N+3)),.bh (N+6) 0 1 0,.sl 0 [] .exact] 0 1 0++[.own 4 y.l 48])else bif isDone 12 D then Gf (tick (tick (tick (tick (tick ρj)))))++(YY [iv first,iv i,iv an,.sl 0 [] (.opn (N+3)),.sl 0 [] .exact,.sl 0 [] .exact] 0 1 0++[.own 4 y.l 48])else bif isDone 10 D then Gf (tick (tick (tick (tick (tick ρj)))))++YY [iv first,iv i,iv an,.sl 0 [] (.opn (N+3)),.sl 0 [] .exact,.sl 0 [] .exact] 0 1 0 else Gf (tick ρj)++YY [iv first,iv i,iv an,.sl 0 [] (.opn (N+3)),.sl 0 [] .exact,.sl 0 [] .exact] 0 1 0) ?_;simp only[seval,wL,tx,y1,rc,pS,mK,n0,w0,Dr,yF,yG,e_ xQ,oR,cx,SC];refine nX y.av _ (c9 (tY _ _ _ ⟨rfl,rfl⟩)) ?_;(try simp only[seval,wL,tx,y1,rc,pS,mK,n0,w0,Dr,yF,yG,e_ xQ,oR,cx,SC,aD.av,wc]);refine aj ?_;simp only[seval,show SD.wrap 1=1 from bB _ (by omega),show (0:Int)+1=1 from rfl];have e1:(hv (0+1)).2=tick (tick (tick (tick (tick ρj)))):=(by rw[ew]);have e2:gO (0+1) (fC (hv (0+1)).1)=[.own 4 [iv y.number.min,iv y.number.max,iv y.hour.min,iv y.hour.max] 48]:=(by rw[<- ej [] rfl];rfl);refine hR _ ⟨by omega,trivial,?_⟩;rw[e1,e2];exact dF
   ·obtain⟨n',iN⟩:∃n',j=n'+1:=⟨j-1,by omega⟩;have cG:fl (N+6) j=.bh (N+6+n') 0 j 0:=(by rw[iN];rfl);have ur:∀o,(gO j o)[n']?=some o:=λo=>(by rw[iN];have:=BZ n' o [];rwa [SN]at this);have uF:∀o,(gO j o).set n' .gone=gO j .gone:=λo=>(by rw[iN];have:=B0 n' o .gone [];rwa [SN,SN]at this);have rj:∀a,gO j .gone++[a]=gO (j+1) a:=λa=>(by rw[iN];exact Qv _ _);have kj:∀o,(gO j o).length=j:=xn j;have ej:=ej _ rfl;rw[cG];unfold fC;obtain⟨FP,oQ⟩:∃FP,FP=ps.flatMap aD.l:=⟨_,rfl⟩;have vI:FP.length=j* 4:=(by rw[oQ,Jy,pj]);rw[<- oQ]at ej⊢;refine nU [10,12,14] (SV 15) (λD=>bif isDone 14 D then Gf (tick (tick (tick (tick (tick ρj)))))++(YY [iv first,iv i,iv an,.sl 0 [] (.opn (N+3)),.bh (N+6+j) 0 (j+1) 0,.sl 0 [] .exact] 0 (j+1) 0++gO (j+1) (.own 4 (FP++y.l) 48))else bif isDone 12 D then Gf (tick (tick (tick (tick (tick ρj)))))++(YY [iv first,iv i,iv an,.sl 0 [] (.opn (N+3)),.bh (N+6+n') 0 j 0,.sl 0 [] .exact] 0 (j+1) 0++gO (j+1) (.own 4 (FP++y.l) 48))else bif isDone 10 D then Gf (tick (tick (tick (tick (tick ρj)))))++(YY [iv first,iv i,iv an,.sl 0 [] (.opn (N+3)),.bh (N+6+n') 0 j 0,.sl 0 [] .exact] 0 (j+1) 0++gO j (.own 4 FP 48))else Gf (tick ρj)++(YY [iv first,iv i,iv an,.sl 0 [] (.opn (N+3)),.bh (N+6+n') 0 j 0,.sl 0 [] .exact] 0 (j+1) 0++gO j (.own 4 FP 48))) ?_;simp only[seval,wL,tx,y1,rc,pS,sK,mK,e_ xQ,oR,ur,uF,rj,kj,vI,SC];refine nX y.av _ (c9 (tY _ _ _ ⟨rfl,rfl⟩)) ?_;(try simp only[seval,wL,tx,y1,rc,pS,sK,mK,e_ xQ,oR,ur,uF,rj,kj,vI,SC,aD.av,wc]);refine⟨uu,by omega,?_⟩;refine aj ?_;simp only[seval,xN];refine hR _ ⟨by omega,trivial,?_⟩;rw[<- ej,show (hv (j+1)).2=tick (tick (tick (tick (tick ρj)))) by rw[ew]];exact dF
  ·refine cp ?_;exact⟨(j,tick ρj),⟨by dsimp only;omega,by dsimp only;omega,kU.tick.mono (by omega)⟩,eo (by simp only[seval];simp[bC,Wk.refl]) (by rw[FI])⟩
 ·have hd:decide ((j:Int)<((min pm mn:Nat):Int))=false:=by simpa using eX
  refine aj ?_;simp only[seval,show (if(mn:Int)<(pm:Int)then(mn:Int)else(pm:Int))=((min pm mn:Nat):Int)from FQ,hd];refine aF ?_;refine cp ?_;exact⟨(j,(hv j).2),⟨by dsimp only;omega,by dsimp only;omega,kU.mono (by omega)⟩,eo (by simp only[seval];simp[bC,Wk.refl]) rfl⟩
theorem ahC{i np:Nat}{first an w:Int}{l aB gU:List Int}{ρ2:aZ}{zc:aa}{pv:AV}{gP:List aa}{YY:List AV->Nat->Nat->Nat->List aa}{hz:Bool}{Bc:AV}{Ψ:ao->AS->Prop}(hT:dB Gf t N)(hY:YW Gf N zc YY)(xJ:gP.length=np)(hb:b<2^10)(hi:1<=i/\i<=3)(oh:0<=first/\first<=90)(Gi:first<=w/\w<=first+9)(hO:l.length=i+1)(CC:np<=4)(ju:aB.length=np)(sW:∀n∈aB,first<=n/\n<w)(sZ:Ib gU np)(x_:ρ2.Ok (b+64)):
  aQ lv SA none 240 (cs (cf (mZ 9 nV))) ⟨[(19,iv 0),(18,.sl np (gU.map iv) .shut),(16,.sl 0 [] (.opn (N+5))),(15,.sl np (aB.map iv) (.opn (N+4))),(13,Bc),(11,.sl (i+1) (l.map iv) (.opn (N+2))),(10,.op (N+1) 0),(6,.op N 0),(0,.op t 0),(2,bv hz)],Gf ρ2++(YY [iv first,iv i,iv an,.sl 0 [] (.opn (N+3)),pv,.sl 0 [] .exact] 0 np 0++gP)⟩ (ao.then (λs'=>∃y:Nat×aZ,(y.1<=np/\y.1<=3/\y.2.Ok (b+90))/\s'.Sub ⟨[(16,.sl y.1 ((gU.take y.1).map iv) (.opn (N+5))),(15,.sl np (aB.map iv) (.opn (N+4))),(13,Bc),(11,.sl (i+1) (l.map iv) (.opn (N+2))),(10,.op (N+1) 0),(6,.op N 0),(0,.op t 0),(2,bv hz)],Gf y.2++(YY [iv first,iv i,iv an,.sl 0 [] (.opn (N+3)),pv,fl (N+6+np) y.1] 0 np y.1++(gP++gO y.1 (fC (kg l i (λj=>aB.getD (gU.getD j 0).toNat 0) ρ2 y.1).1)))⟩) Ψ):=by
 obtain⟨uk,rc,y0,y1,y3,y4,y5,mK,yH,A0,A1,pS,sK,cx⟩:=hY;have Dr:(1<=2^30)=True:=eq_true (by decide);have n0:∀τ r c d e,(Gf τ++(YY r c d e++gP)).length=N+6+np:=λτ r c d e=>by rw[rc,xJ]
 have n1:∀τ r c d e X,(Gf τ++(YY r c d e++(gP++X))).length=N+6+np+X.length:=λτ r c d e X=>by rw[rc,S4,xJ];omega
 have w1:∀τ r c d e X m,(Gf τ++(YY r c d e++(gP++X)))[N+6+np+m]?=X[m]?:=λτ r c d e X m=>by rw[U0 (N+6),pS,S9 (by omega),xJ,TU]
 have w0:∀τ r c d e X,(Gf τ++(YY r c d e++(gP++X)))[N+6+np]?=X[0]?:=λτ r c d e X=>w1 τ r c d e X 0;have v1:∀τ r c d e X m y,(Gf τ++(YY r c d e++(gP++X))).set (N+6+np+m) y=Gf τ++(YY r c d e++(gP++X.set m y)):=λτ r c d e X m y=>by rw[U0 (N+6),sK,T_ _ _ (by omega),xJ,TU]
 have gz:∀L:List aa,dB (λτ=>Gf τ++L) t (N+L.length):=λL=>hT.more L;obtain⟨hw,zS⟩:∃hw:Nat->List aD×aZ,∀j,hw j=kg l i (λj=>aB.getD (gU.getD j 0).toNat 0) ρ2 j:=⟨_,λ_=>rfl⟩;simp only[<- zS];have rG:∀j,(hw j).1.length=j:=λj=>by rw[zS];exact zG _ _ _ _ _
 have uG:∀j:Nat,(hw j).2.Ok (b+64+5* j):=λj=>by rw[zS];exact J8 x_ _ _ _ j
 have x8:hw 0=([],ρ2):=zS 0;have aah:=sZ.len;unfold nV WR;dsimp only[S7,mZ,cs,cf];have R0:=aaX 3 np;refine cP ?_;refine OG (min np 3) (λj:Nat=>[(16,.sl j ((gU.take j).map iv) (.opn (N+5))),(19,iv j)]) (λj=>Gf (hw j).2++(YY [iv first,iv i,iv an,.sl 0 [] (.opn (N+3)),pv,fl (N+6+np) j] 0 np j++(gP++gO j (fC (hw j).1)))) (λ_=>True) (λ_ _=>rfl) (by simp only[seval];simp[bC,Wk.refl]) (by rw[x8];simp[gO,fl]) (λ_ _ _=>by simp[hT.len,uk]) trivial (λcq dG j oZ _ R hR=> ?_);clear cq dG;have kU:=uG j;by_cases eX:j<min np 3
 ·have hd:decide ((j:Int)<((min np 3:Nat):Int))=true:=by simpa using eX
  refine aj ?_;simp only[seval,bu,aah,show (if(3:Int)<(np:Int)then(3:Int)else(np:Int))=((min np 3:Nat):Int)from R0,hd];have ew:hw (j+1)=((hw j).1++[lq (tick (hw j).2) l (aB.getD (gU.getD j 0).toNat 0) i],tick (tick (tick (tick (tick (hw j).2))))):=by rw[zS,zS];rfl
  have pj:=rG j;generalize FI:hw j=hj at kU ew pj⊢;obtain⟨ts,ρj⟩:=hj;dsimp only at kU ew pj⊢;refine aL ((EQ (n:=3) (gz _) kU (by omega) (by decide) ?_));(try simp only[seval]);refine aF ?_;refine⟨λhc=> ?_,λhc=> ?_⟩
  ·obtain⟨v,nC⟩:=cj (xs:=gU) (i:=j) (by omega);have hvr:=sZ.Hj v (wq nC);obtain⟨v,rfl⟩:∃v':Nat,v=v':=⟨v.toNat,by omega⟩;have Ct:gU.getD j 0=v:=(by rw[SE,nC];rfl);rw[Ct,VO]at ew;obtain⟨n,zX⟩:=cj (xs:=aB) (i:=v) (by omega);have FG:aB.getD v 0=n:=(by rw[SE,zX];rfl);rw[FG]at ew;have ry:=sW n (wq zX);have xN:SD.wrap ((j:Int)+1)=((j+1:Nat):Int):=(by rw[bB _ (by omega)];rfl);have oR:(0<=(j:Int)/\(j:Int)<(np:Int))=True:=(by simp;omega);have zK:(0<=(v:Int)/\(v:Int)<(np:Int))=True:=(by simp;omega);have aG:(gU.take j).length=j:=(by rw[T4];omega);have alm:(gU.take j).map iv++[AV.val (SF SD v)]=(gU.take (j+1)).map iv:=(by rw[VF,nC,TE];rfl);refine aO ?_;refine aj ?_;simp only[seval,z1,Az,y5,A1,e_ nC,oR,aG];refine⟨by omega,?_⟩;rw[alm];have qk:=NJ l n i;have tY:=λ(L:List aa) k kp=>PZ (lv:=lv) (k:=k) (kp:=kp) (h:=l) (n:=n) (hours:=i) (e:=.opn (N+2)) (gz L) kU.tick (by omega) (by omega) (by omega) (by omega) (by rw[hO,VW];omega);simp only[hO]at tY;obtain⟨y,hy⟩:∃y,y=lq (tick ρj) l n i:=⟨_,rfl⟩;rw[<- hy]at ew tY;have wc:y.l=[iv y.number.min,iv y.number.max,iv y.hour.min,iv y.hour.max]:=rfl;have ej:∀FP,FP=ts.flatMap aD.l->aa.own 4 (FP++y.l) 48=fC (hw (j+1)).1:=λFP oQ=>(by rw[ew,fC,Jz,oQ]);rcases UF j with uu|uu
   ·subst uu;obtain rfl:ts=[]:=VA pj;have cx:fl (N+6+np) 0=.sl 0 [] .exact:=rfl;have lr:∀o,gO 0 o=[]:=λ_=>rfl;have uv:(0<(np:Int))=True:=(by simp;omega);rw[cx,lr,SN];refine nU [13,15,17] (SV 18) (λD=>bif isDone 17 D then Gf (tick (tick (tick (tick (tick ρj)))))++(YY [iv first,iv i,iv an,.sl 0 [] (.opn (N+3)),pv,.bh (N+6+np) 0 1 0] 0 np 1++(gP++[.own 4 y.l 48]))else bif isDone 15 D then Gf (tick (tick (tick (tick (tick ρj)))))++(YY [iv first,iv i,iv an,.sl 0 [] (.opn (N+3)),pv,.sl 0 [] .exact] 0 np 1++(gP++[.own 4 y.l 48]))else bif isDone 13 D then Gf (tick (tick (tick (tick (tick ρj)))))++(YY [iv first,iv i,iv an,.sl 0 [] (.opn (N+3)),pv,.sl 0 [] .exact] 0 np 1++gP)else Gf (tick ρj)++(YY [iv first,iv i,iv an,.sl 0 [] (.opn (N+3)),pv,.sl 0 [] .exact] 0 np 1++gP)) ?_;simp only[seval,wL,tx,y1,mK,e_ nC,oR,e_ zX,zK,bu,ju,n0,w0,Dr,uv,SC];refine nX y.av _ (c9 (tY _ _ _ ⟨rfl,rfl⟩)) ?_;(try simp only[seval,wL,tx,y1,mK,e_ nC,oR,e_ zX,zK,bu,ju,n0,w0,Dr,uv,SC,aD.av,wc]);refine aj ?_;simp only[seval,show SD.wrap 1=1 from bB _ (by omega),show (0:Int)+1=1 from rfl];have e1:(hw (0+1)).2=tick (tick (tick (tick (tick ρj)))):=(by rw[ew]);have e2:gO (0+1) (fC (hw (0+1)).1)=[.own 4 [iv y.number.min,iv y.number.max,iv y.hour.min,iv y.hour.max] 48]:=(by rw[<- ej [] rfl];rfl);refine hR _ ⟨by omega,trivial,?_⟩;rw[e1,e2];exact dF
   ·obtain⟨n2,qe⟩:∃n2,j=n2+1:=⟨j-1,by omega⟩;have cG:fl (N+6+np) j=.bh (N+6+np+n2) 0 j 0:=(by rw[qe];rfl);have ur:∀o,(gO j o)[n2]?=some o:=λo=>(by rw[qe];have:=BZ n2 o [];rwa [SN]at this);have uF:∀o,(gO j o).set n2 .gone=gO j .gone:=λo=>(by rw[qe];have:=B0 n2 o .gone [];rwa [SN,SN]at this);have rj:∀a,gO j .gone++[a]=gO (j+1) a:=λa=>(by rw[qe];exact Qv _ _);have kj:∀o,(gO j o).length=j:=xn j;have ej:=ej _ rfl;rw[cG];unfold fC;obtain⟨FP,oQ⟩:∃FP,FP=ts.flatMap aD.l:=⟨_,rfl⟩;have vI:FP.length=j* 4:=(by rw[oQ,Jy,pj]);rw[<- oQ]at ej⊢;refine nU [13,15,17] (SV 18) (λD=>bif isDone 17 D then Gf (tick (tick (tick (tick (tick ρj)))))++(YY [iv first,iv i,iv an,.sl 0 [] (.opn (N+3)),pv,.bh (N+6+np+j) 0 (j+1) 0] 0 np (j+1)++(gP++gO (j+1) (.own 4 (FP++y.l) 48)))else bif isDone 15 D then Gf (tick (tick (tick (tick (tick ρj)))))++(YY [iv first,iv i,iv an,.sl 0 [] (.opn (N+3)),pv,.bh (N+6+np+n2) 0 j 0] 0 np (j+1)++(gP++gO (j+1) (.own 4 (FP++y.l) 48)))else bif isDone 13 D then Gf (tick (tick (tick (tick (tick ρj)))))++(YY [iv first,iv i,iv an,.sl 0 [] (.opn (N+3)),pv,.bh (N+6+np+n2) 0 j 0] 0 np (j+1)++(gP++gO j (.own 4 FP 48)))else Gf (tick ρj)++(YY [iv first,iv i,iv an,.sl 0 [] (.opn (N+3)),pv,.bh (N+6+np+n2) 0 j 0] 0 np (j+1)++(gP++gO j (.own 4 FP 48)))) ?_;simp only[seval,wL,tx,y1,mK,e_ nC,oR,e_ zX,zK,bu,ju,n1,w1,v1,ur,uF,rj,kj,vI,SC];refine nX y.av _ (c9 (tY _ _ _ ⟨rfl,rfl⟩)) ?_;(try simp only[seval,wL,tx,y1,mK,e_ nC,oR,e_ zX,zK,bu,ju,n1,w1,v1,ur,uF,rj,kj,vI,SC,aD.av,wc]);refine⟨uu,by omega,?_⟩;refine aj ?_;simp only[seval,xN];refine hR _ ⟨by omega,trivial,?_⟩;rw[<- ej,show (hw (j+1)).2=tick (tick (tick (tick (tick ρj)))) by rw[ew]];exact dF
  ·refine cp ?_;exact⟨(j,tick ρj),⟨by dsimp only;omega,by dsimp only;omega,kU.tick.mono (by omega)⟩,eo (by simp only[seval];simp[bC,Wk.refl]) (by rw[FI])⟩
 ·have hd:decide ((j:Int)<((min np 3:Nat):Int))=false:=by simpa using eX
  refine aj ?_;simp only[seval,bu,aah,show (if(3:Int)<(np:Int)then(3:Int)else(np:Int))=((min np 3:Nat):Int)from R0,hd];refine aF ?_;refine cp ?_;exact⟨(j,(hw j).2),⟨by dsimp only;omega,by dsimp only;omega,kU.mono (by omega)⟩,eo (by simp only[seval];simp[bC,Wk.refl]) rfl⟩
theorem ahF{i np ns cn:Nat}{first an:Int}{l aB bS:List Int}{pv sv Bc:AV}{G:List aa}{we:Bool}{ρ4:aZ}{zc:aa}{YY:List AV->Nat->Nat->Nat->List aa}{Ψ:ao->AS->Prop}(hT:dB Gf t N)(hY:YW Gf N zc YY)(hb:b<2^10)(hi:1<=i/\i<=3)(oh:0<=first/\first<=90)(v9:1<=an/\an<=3)(ay:nM first an l i)(gM:cn<=2)(Gr:ρ4.Ok (b+91)):
  aQ lv SA none 240 (cs (cf (mZ 10 nV))) ⟨[(20,iv cn),(16,.sl ns (bS.map iv) (.opn (N+5))),(15,.sl np (aB.map iv) (.opn (N+4))),(13,Bc),(11,.sl (i+1) (l.map iv) (.opn (N+2))),(10,.op (N+1) 0),(6,.op N 0),(0,.op t 0),(2,bv we)],Gf ρ4++(YY [iv first,iv i,iv an,.sl 0 [] (.opn (N+3)),pv,sv] 0 np ns++G)⟩ (ao.then (λs'=>∃y:List Seen×aZ,(y.1.length<=2/\(∀s∈y.1,0<=s.hour/\s.hour<=i/\∃τ,s.next=mT τ (l.getD s.hour.toNat 0) 1 0 99)/\y.2.Ok (b+97))/\s'.Sub ⟨[(16,.sl ns (bS.map iv) (.opn (N+5))),(15,.sl np (aB.map iv) (.opn (N+4))),(13,Bc),(11,.sl (i+1) (l.map iv) (.opn (N+2))),(10,.op (N+1) 0),(6,.op N 0),(0,.op t 0),(2,bv we)],Gf y.2++(YY [iv first,iv i,iv an,.sl y.1.length (y.1.flatMap Seen.l) (.opn (N+3)),pv,sv] y.1.length np ns++G)⟩) Ψ):=by
 obtain⟨uk,rc,y0,y1,y3,y4,y5,mK,yH,A0,A1,pS,sK,cx⟩:=hY;have gz:∀L:List aa,dB (λτ=>Gf τ++L) t (N+L.length):=λL=>hT.more L;have hO:=ay.len;unfold nV WR;dsimp only[S7,mZ,cs,cf];obtain⟨hz,zU⟩:∃hz:Nat->List Seen×aZ,∀j,hz j=rS l i ρ4 j:=⟨_,λ_=>rfl⟩;have kV:∀j,(hz j).1.length=j:=λj=>by rw[zU];exact ab7 _ _ _ _
 have LJ:∀j:Nat,(hz j).2.Ok (b+91+3* j):=λj=>by rw[zU];exact(ab9 Gr _ _ j).mono (by omega)
 have alr:hz 0=([],ρ4):=zU 0;refine cP ?_;refine iu cn (λj:Nat=>[(20,iv ((cn:Int)-j))]) (λj=>Gf (hz j).2++(YY [iv first,iv i,iv an,.sl j ((hz j).1.flatMap Seen.l) (.opn (N+3)),pv,sv] j np ns++G)) (λ_=>True) (λ_ _=>rfl) (by simp only[seval];simp[bC,Wk.refl]) (by rw[alr];rfl) (λ_ _ _=>by simp[hT.len,uk]) trivial (λcq dG j oZ _ R hR=> ?_);clear cq dG;have kU:=LJ j;refine am ?_;refine aF ?_;refine⟨λhc=> ?_,λhc=> ?_⟩
 ·have eX:j<cn:=by omega
  have ew:hz (j+1)=((hz j).1++[⟨cU (hz j).2 i,mT (tick (hz j).2) (l.getD (cU (hz j).2 i).toNat 0) 1 0 99⟩],tick (tick (tick (hz j).2))):=by rw[zU,zU];rfl
  have pj:=kV j;generalize FI:hz j=hj at kU ew pj⊢;obtain⟨ss,ρj⟩:=hj;dsimp only at kU ew pj⊢;have hur:=jM ρj i;obtain⟨u,hu⟩:∃u:Nat,cU ρj i=u:=⟨(cU ρj i).toNat,by omega⟩;rw[hu,VO]at ew;have hui:u<=i:=by omega
  obtain⟨n,KT⟩:=cj (xs:=l) (i:=u) (by omega);have FG:l.getD u 0=n:=by rw[SE,KT];rfl
  rw[FG]at ew;have ry:=ay.ge (by omega) u hui;rw[FG]at ry;have atl:0<=n/\n<=1000:=by
   have:=adr (v:=0) ry (by omega) oh v9 (by omega);omega
  have xN:SD.wrap ((cn:Int)-j-1)=(cn:Int)-((j+1:Nat):Int):=by rw[bB _ (by omega)];omega
  have Q_:(0<=(u:Int)/\(u:Int)<(i:Int)+1)=True:=by simp;omega
  refine aO ?_;refine aj ?_;simp only[seval,y1];refine aL ((my (n:=i) (gz _) kU (by omega) (by omega) ?_));rw[hu];(try simp only[seval]);have O6:=λ(L:List aa) k kp=>Ji (lv:=lv) (k:=k) (kp:=kp) (n:=n) (m:=1) (lo:=0) (hi:=99) (gz L) kU.tick (by omega) (by omega) (by decide);obtain⟨y,hy⟩:∃y,y=mT (tick ρj) n 1 0 99:=⟨_,rfl⟩;rw[<- hy]at ew O6;obtain⟨FP,oQ⟩:∃FP,FP=ss.flatMap Seen.l:=⟨_,rfl⟩;have vI:FP.length=j* 3:=by rw[oQ,Qd,pj]
  have hFQ:FP++[iv u,iv y.min,iv y.max]=(hz (j+1)).1.flatMap Seen.l:=by rw[ew,Jz,oQ];rfl
  rw[<- oQ];refine nU [9,12,14] (SV 15) (λD=>bif isDone 14 D then Gf (tick (tick (tick ρj)))++(YY [iv first,iv i,iv an,.sl (j+1) (FP++[iv u,iv y.min,iv y.max]) (.opn (N+3)),pv,sv] (j+1) np ns++G)else bif isDone 12 D then Gf (tick (tick (tick ρj)))++(YY [iv first,iv i,iv an,.sl j FP (.opn (N+3)),pv,sv] (j+1) np ns++G)else bif isDone 9 D then Gf (tick (tick (tick ρj)))++(YY [iv first,iv i,iv an,.sl j FP (.opn (N+3)),pv,sv] j np ns++G)else Gf (tick ρj)++(YY [iv first,iv i,iv an,.sl j FP (.opn (N+3)),pv,sv] j np ns++G)) ?_;simp only[seval,zS1,Ds,y1,y3,mK,yH,e_ KT,Q_,vI,hO];have wc:y.l=[iv y.min,iv y.max]:=rfl;refine nX y.av _ (c9 (O6 _ _ _ ⟨rfl,rfl⟩)) ?_;(try simp only[seval,zS1,Ds,y1,y3,mK,yH,e_ KT,Q_,vI,hO,io.av,wc]);refine⟨by omega,?_⟩;refine aj ?_;simp only[seval,xN];refine hR _ ⟨by omega,trivial,?_⟩;rw[<- hFQ,ew];exact dF
 ·have xO:j=cn:=by omega
  subst xO;clear hR;refine cp ?_;have cG:=kV j;have hsm:∀s∈(hz j).1,0<=s.hour/\s.hour<=i/\∃τ,s.next=mT τ (l.getD s.hour.toNat 0) 1 0 99:=by
   rw[zU];exact ab8 (λτ=>by have:=jM τ i;omega) j
  refine⟨((hz j).1,(hz j).2),⟨by dsimp only;omega,hsm,kU.mono (by omega)⟩,eo (by simp only[seval];simp[bC,Wk.refl]) ?_⟩;dsimp only;rw[cG]
end
section
variable (lv:Bool)(P:SI)
def wM (s:AS)(o:Tu)(next:AS->Prop):Prop:=match o.op with
 |.buildSlice t len parts=>ap (qP P t) λ(e,sz,z)=>len* sz<=2^24/\ap (jR s parts.toList) λlS=>ap (nY (iq.at (.elems sz)) (gH z (len* sz)) lS) λl=>next ((⟨s.T,s.H++[.cells l e]⟩:AS).put o.dst (.bh s.H.length 0 len len))
 |.call c=>match c.callee with
  |.builtin .append=>match c.args.toList,c.argTypes.toList with
   |[x,y],[t,t']=>ap (jz P t t') λ(elem,sz,_)=>ap (s.ev x) λa=>ap (s.ev y) λb=>a.vr λn l e=>e=.exact/\ap (s.src sz b) λ(m,l')=>l.length=n* sz/\l'.length=m* sz/\n+m<=2^30/\0<m/\next ((⟨s.T,s.H++[.own sz (l++l') elem]⟩:AS).put o.dst (.bh s.H.length 0 (n+m) 0))
   |_,_=>False
  |_=>False
 |_=>False
def qJ (m:Nat):Nat->List Tu->AS->(AS->Prop)->(AV->AS->Prop)->Prop
 |_,[],s,K,_=>K s
 |k,o::rest,s,K,bad=>o.guard=none/\(bif k==m then wM P s o (λs'=>qJ m (k+1) rest s' K bad)else mj lv P s o (λs'=>qJ m (k+1) rest s' K bad) bad)
end
section
variable {lv:Bool}{P:SI}{r:Option Nat}{s:AS}
theorem wM.step{o:Tu}{next:AS->Prop}{bad:AV->AS->Prop}(h:wM P s o next):Step lv P r o s next bad:=by
 unfold wM at h;split at h
 ·rename_i t len parts ho;obtain⟨⟨e,sz,z⟩,h1,h2,h⟩:=h.out;obtain⟨lS,h3,h⟩:=h.out;obtain⟨l,h4,h⟩:=h.out;exact acL ho h1 h2 h3 h4 h
 ·rename_i c ho;split at h
  ·rename_i aX;split at h
   ·rename_i x y t t' ha cM;obtain⟨⟨elem,sz,z⟩,h1,hA⟩:=h.out;obtain⟨a,h2,hB⟩:=hA.out;obtain⟨b,h3,hC⟩:=hB.out;obtain⟨n,l,e,e1,e0,hD⟩:=Ou hC;subst e1 e0;obtain⟨⟨m,l'⟩,h4,h5,h6,h7,h8,h9⟩:=hD.out;exact acJ ho aX (mS ha) (rY cM) h1 h2 h3 h4 h5 h6 h7 h8 h9
   ·exact h.elim
  ·exact h.elim
 ·exact h.elim
theorem qJ.acC{m:Nat}{K:AS->Prop}{bad:AV->AS->Prop}:∀(l:List Tu)(k:Nat)(s:AS),qJ lv P m k l s K bad->Bj lv P r l s K bad
 |[],k,s,h=>h
 |o::rest,k,s,h=>by
  obtain⟨h1,h2⟩:=h;refine⟨h1,?_⟩;have hs:∀{s'},qJ lv P m (k+1) rest s' K bad->Bj lv P r rest s' K bad:=λ{s'} h=>qJ.acC rest (k+1) s' h;cases hkm:(k==m)<;>rw[hkm]at h2<;>simp only[cond_true,cond_false]at h2
  rotate_left
  ·exact(wM.step h2).mono (λ_ h=>hs h) (λ_ _ h=>h)
  ·exact(mj.sound (r:=r) h2).mono (λ_ h=>hs h) (λ_ _ h=>h)
theorem OO{nt id:Nat}{ops:Array Tu}{Φ:ao->AS->Prop}(m:Nat)(hd:jG nt ops=true)(h:qJ lv P m 0 ops.toList s (Φ .normal) (λpv s=>Φ (.panic pv) s)):aQ lv P r nt (.region id ops false) s Φ:=afk hd (h.acC ops.toList 0 s)
end
theorem aeg:type_of% @wM.eq_1:=by intros;rw[wM.eq_1]
theorem ann:type_of% @qJ.eq_1:=by intros;rw[qJ.eq_1]
theorem anm:type_of% @qJ.eq_2:=by intros;rw[qJ.eq_2]
attribute [seval] aeg ann anm
end Go.Gg
namespace Go.Gg.Tk
theorem RA{x:ak}{bk:Nat}:∀(d:Nat)(pre:List Int),2<=pre.length->mC x bk d pre=(ko x d pre).map cH
 |0,pre,_=>by
  unfold mC ko;split<;>rfl
 |d+1,pre,h=>by
  unfold mC ko;split
  ·rw[Vt];congr 1;funext n;rw[if_neg (λhc=>by have:=hc.1;omega),RA d _ (by simp;omega)]
  ·rfl
theorem Qe{α:Type}{t:Nat}{f:Nat->List α}:∀m,((SV m).flatMap λn=>if n≠t then[]else f n)=if t<m then f t else[]
 |0=>by simp
 |m+1=>by
  rw[Vk,Vx,Qe m];simp only[Ub,List.flatMap_nil,SN];by_cases h:m=t
  ·subst h;rw[if_neg (Nat.lt_irrefl _),if_neg (by simp),if_pos (Ux _),Uy]
  ·rw[if_pos h,SN];by_cases h2:t<m
   ·rw[if_pos h2,if_pos (by omega)]
   ·rw[if_neg h2,if_neg (by omega)]
theorem RF{x:ak}{bk:Nat}(hh:1<=x.hours)(ht:bk<x.an.toNat+1):kq x bk=(vY x bk).map cH:=by
 unfold kq vY;obtain⟨d,hd⟩:∃d,x.hours.toNat=d+1:=⟨x.hours.toNat-1,by omega⟩;rw[hd];unfold mC;simp only[T9,Ve,VW,true_and];rw[show ([x.first]:List Int).getLastD 0=x.first from rfl];split
 ·rw[Qe (t:=bk) (f:=λn=>mC x bk d ([x.first]++[x.first+(n:Int)])),if_pos ht,RA d _ (by simp)];rfl
 ·rfl
theorem akf{x:ak}(hh:1<=x.hours):((SV (x.an.toNat+1)).flatMap λt=>vY x t)=aK x:=by
 unfold aK vY;obtain⟨d,hd⟩:∃d,x.hours.toNat=d+1:=⟨x.hours.toNat-1,by omega⟩;rw[hd,VW,show ko x (d+1) [x.first]=(if rR x 0 x.first then(SV (x.an.toNat+1)).flatMap λn:Nat=>ko x d [x.first,x.first+(n:Int)]else[])from rfl];split
 ·rfl
 ·simp
end Go.Gg.Tk
namespace Go.Gg.Tk
theorem ao4{p:Nat->Bool}{m k:Nat}(h:m<=k):((SV k).filter λn=>decide (n<m)&&p n)=(SV m).filter p:=by
 obtain⟨j,rfl⟩:=Nat.exists_eq_add_of_le h;rw[List.range_add,List.filter_append];have h1:((SV j).map (m+·)).filter (λn=>decide (n<m)&&p n)=[]:=by
  rw[YB];intro a ha;obtain⟨b,_,rfl⟩:=Tl.1 ha;simp only[Tg,decide_eq_true_eq,not_and];exactλhlt=>absurd hlt (by omega)
 rw[h1,SN];refine Vj λn hn=> ?_;rw[TP]at hn;simp[hn]
theorem Jx{α:Type}{c:Nat->Bool}{f:Nat->List α}:∀l:List Nat,(l.flatMap λn=>if c n=true then[]else f n)=(l.filter λn=> !c n).flatMap f
 |[]=>rfl
 |n::l=>by
  rw[Ub,List.filter_cons,Jx l];cases hc:c n<;>simp
def tu (g:aD->Nat->Bool)(m:Nat):List aD->List Nat->List (List Nat)
 |[],t=>[t]
 |y::ys,t=>((SV m).filter λn=>g y n&& !t.contains n).flatMap λn=>tu g m ys (t++[n])
theorem ME{g:aD->Nat->Bool}{q:aD->Nat}{m:Nat}(hm:m<=9):∀(ys:List aD)(u:Nat)(t:List Nat),(∀y∈ys,∀n,n<9->(q y).testBit n=(decide (n<m)&&g y n))->(∀n,u.testBit n=t.contains n)->kz (ys.map q) u t=tu g m ys t
 |[],u,t,_,_=>rfl
 |y::ys,u,t,hq,hu=>by
  rw[UW,kz,tu];have e1:((SV 9).flatMap λn=>if(u.testBit n|| !(q y).testBit n)=true then[]else kz (ys.map q) (u|||2^n) (t++[n]))=((SV 9).filter λn=> !(u.testBit n|| !(q y).testBit n)).flatMap λn=>kz (ys.map q) (u|||2^n) (t++[n]):=Jx _;rw[e1];have e2:((SV 9).filter λn=> !(u.testBit n|| !(q y).testBit n))=(SV m).filter λn=>g y n&& !t.contains n:=by
   rw[<- ao4 hm];refine Vj λn hn=> ?_;rw[TP]at hn;rw[hu,hq y (by simp) n hn];cases t.contains n<;>cases decide (n<m)<;>cases g y n<;>rfl
  rw[e2];congr 1;funext n;refine ME hm ys _ _ (λz hz=>hq z (by simp[hz])) λi=> ?_;rw[Xl,hu,VP,YP];simp[eq_comm]
theorem abd{h:List Int}{a:Int}{g:aD->Nat->Bool}{m:Nat}(hr:GR h=(SV m).map λi:Nat=>a+(i:Int)):∀(ys:List aD)(t:List Nat),(∀y∈ys,∀n,n<m->fits h y (a+(n:Int))=g y n)->mH h ys (t.map λi:Nat=>a+(i:Int))=(tu g m ys t).map λl=>l.map λi:Nat=>a+(i:Int)
 |[],t,_=>rfl
 |y::ys,t,hg=>by
  rw[mH,tu,hr,List.filter_map,WM,Vt];have e:(SV m).filter ((λn=>fits h y n&& !(t.map λi:Nat=>a+(i:Int)).contains n)∘λi:Nat=>a+(i:Int))=(SV m).filter λn=>g y n&& !t.contains n:=by
   refine Vj λn hn=> ?_;rw[TP]at hn;simp only[Wc];rw[hg y (by simp) n hn];congr 1;congr 1;rw[Vm,YH,YH,Tl];constructor
   ·rintro⟨i,h1,h2⟩
    have:i=n:=(by omega);rw[<- this];exact h1
   ·exactλh1=>⟨n,h1,rfl⟩
  rw[e];congr 1;funext n;have:=abd hr ys (t++[n]) (λz hz=>hg z (by simp[hz]));rw[TE]at this;exact this
end Go.Gg.Tk
namespace Go.Gg.Tk
theorem abv{h:List Int}{ns:List Nat}{nl:List Int}{q:aD->Nat}(hl:nl.length=ns.length):∀(ss:List aD)(u:Nat)(t:List Nat),(∀s∈ss,∀p,p<ns.length->(q s).testBit (ns.getD p 0)=fits h s (nl.getD p 0))->(∀n,u.testBit n=t.contains n)->me ns.length ns (ss.map q) u t=py h nl ss t
 |[],u,t,_,_=>rfl
 |s::ss,u,t,hq,hu=>by
  rw[UW,me,py,hl];have e1:((SV ns.length).flatMap λp=>if(u.testBit p|| !(q s).testBit (ns.getD p 0))=true then[]else me ns.length ns (ss.map q) (u|||2^p) (t++[p]))=((SV ns.length).filter λp=> !(u.testBit p|| !(q s).testBit (ns.getD p 0))).flatMap λp=>me ns.length ns (ss.map q) (u|||2^p) (t++[p]):=Jx _;rw[e1];have e2:((SV ns.length).filter λp=> !(u.testBit p|| !(q s).testBit (ns.getD p 0)))=(SV ns.length).filter λp=>fits h s (nl.getD p 0)&& !t.contains p:=by
   refine Vj λp hp=> ?_;rw[TP]at hp;rw[hu,hq s (by simp) p hp];cases t.contains p<;>cases fits h s (nl.getD p 0)<;>rfl
  rw[e2];congr 1;funext p;refine abv hl ss _ _ (λz hz=>hq z (by simp[hz])) λi=> ?_;rw[Xl,hu,VP,YP];simp[eq_comm]
theorem abi{g:aD->Nat->Bool}{m:Nat}:∀{ys:List aD}{t ns:List Nat},ns∈tu g m ys t->(∀n∈t,n<m)->ns.length=t.length+ys.length/\∀n∈ns,n<m
 |[],t,ns,h,ht=>by
  simp only[tu,S8]at h;subst h;exact⟨by simp,ht⟩
 |y::ys,t,ns,h,ht=>by
  simp only[tu,S6,Uw,TP]at h;obtain⟨n,⟨hn,_⟩,h⟩:=h;obtain⟨h1,h2⟩:=abi h (λk hk=>by
   rcases SS.1 hk with h'|h'
   ·exact ht k h'
   ·rw[S8.1 h'];exact hn)
  exact⟨by rw[h1];simp;omega,h2⟩
end Go.Gg.Tk
namespace Go.Gg.Tk
structure wP (x:ak)(h:List Int):Prop where
 lo:2<=h.length
 hi:h.length<=4
 head:h.headD 0=x.first
 span:h.getLastD 0<=x.first+9
 pad:mm (cH h)
theorem abA{h:List Int}(hl:2<=h.length):(cH h).getD 0 0=h.headD 0:=by
 match h,hl with
 |a::b::l,_=>rfl
theorem abB{h:List Int}(hl:2<=h.length)(h4:h.length<=4):(cH h).getD 3 0=h.getLastD 0:=by
 match h,hl,h4 with
 |[a,b],_,_=>rfl
 |[a,b,c],_,_=>rfl
 |[a,b,c,d],_,_=>rfl
theorem anP{h:List Int}{n:Int}(hl:2<=h.length)(h4:h.length<=4):je (cH h) n=je h n:=by
 match h,hl,h4 with
 |[a,b],_,_=>exact NI (i:=0) (k:=2) (z:=b) (h:=[a,b]) (n:=n) rfl (by simp)
 |[a,b,c],_,_=>exact NI (i:=0) (k:=1) (z:=c) (h:=[a,b,c]) (n:=n) rfl (by simp)
 |[a,b,c,d],_,_=>exact NI (i:=0) (k:=0) (z:=d) (h:=[a,b,c,d]) (n:=n) rfl (by simp)
def ox (h:List Int):Nat:=(h.getLastD 0-h.headD 0).toNat
theorem ID{x:ak}{h:List Int}(hh:wP x h)(y:aD){n:Nat}(hn:n<9):(bU (cH h) y).testBit n=(decide (n<ox h)&&fits h y (h.headD 0+(n:Int))):=by
 unfold bU;rw[BF];unfold lj fits;rw[abA hh.lo,abB hh.lo hh.hi,anP hh.lo hh.hi];have e1:decide (n<9)=true:=decide_eq_true hn;have e2:decide (h.headD 0+(n:Int)<h.getLastD 0)=decide (n<ox h):=by
  unfold ox;rw[Vm];simp only[decide_eq_true_eq];omega
 rw[e1,e2,U_];by_cases hm:n<ox h
 ·have e3:0<=je h (h.headD 0+(n:Int)):=by
   unfold ox at hm;refine NH (a:=h.headD 0) ?_ (by omega) (by omega);have:=hh.lo
   match h,this with
   |a::b::l,_=>rfl
  rw[decide_eq_true e3,decide_eq_true hm];simp
 ·rw[decide_eq_false hm];simp
theorem abc{x:ak}{h:List Int}(hh:wP x h):mH h x.pieces []=(fP x (cH h)).map λl=>l.map λi:Nat=>h.headD 0+(i:Int):=by
 have FO:ox h<=9:=by unfold ox;have:=hh.span;have:=hh.head;omega
 have e1:fP x (cH h)=tu (λy n=>fits h y (h.headD 0+(n:Int))) (ox h) x.pieces []:=
  ME FO x.pieces 0 [] (λy _ n hn=>ID hh y hn) (by simp)
 rw[e1];exact abd (a:=h.headD 0) rfl x.pieces [] λy _ n _=>rfl
end Go.Gg.Tk
namespace Go.Gg.Tk
theorem anj{x:ak}{h:List Int}(hh:wP x h){ns:List Nat}(hn:ns∈fP x (cH h)):ns.length=x.pieces.length/\∀n∈ns,n<ox h:=by
 have FO:ox h<=9:=by unfold ox;have:=hh.span;have:=hh.head;omega
 have e1:fP x (cH h)=tu (λy n=>fits h y (h.headD 0+(n:Int))) (ox h) x.pieces []:=
  ME FO x.pieces 0 [] (λy _ n hn=>ID hh y hn) (by simp)
 rw[e1]at hn;have:=abi hn (by simp);exact⟨by simpa using this.1,this.2⟩
theorem anL{x:ak}{h:List Int}(hh:wP x h){ns:List Nat}(hn:ns∈fP x (cH h)):ij x (cH h) ns=py h (ns.map λi:Nat=>h.headD 0+(i:Int)) x.aC []:=by
 obtain⟨h1,h2⟩:=anj hh hn;have FO:ox h<=9:=by unfold ox;have:=hh.span;have:=hh.head;omega
 unfold ij;rw[<- h1];refine abv (by simp) x.aC 0 [] (λs _ p hp=> ?_) (by simp);have ri:ns.getD p 0=ns[p]:=by rw[SE,SY hp];rfl
 have hlt:=h2 ns[p] (Wr hp);have hg2:(ns.map λi:Nat=>h.headD 0+(i:Int)).getD p 0=h.headD 0+(ns[p]:Int):=by
  rw[SE,Tm,SY hp];rfl
 rw[ri,hg2,ID hh s (by omega),decide_eq_true hlt,U_]
def eA (t:Tr):List Int:=dx (cH t.bz) (t.aB.map λn=>(n-t.bz.headD 0).toNat) t.bS
theorem adk{x:ak}{h:List Int}(hh:wP x h){ns:List Nat}(hn:ns∈fP x (cH h)):(DV x h (ns.map λi:Nat=>h.headD 0+(i:Int))).map eA=(ij x (cH h) ns).map (dx (cH h) ns):=by
 unfold DV;rw[XY,anL hh hn];refine Vz λos _=> ?_;unfold eA;simp only[Wc,XY];congr 1
 conv=>rhs;rw[<- List.map_id ns]
 refine Vz λn _=> ?_;simp only[Wc,id];omega
theorem BV{α β:Type}{l:List α}{f g:α->List β}(h:∀a∈l,f a=g a):l.flatMap f=l.flatMap g:=by
 rw[WO,WO,Vz h]
theorem ac2{α:Type}:∀ll:List (List α),(ll.map (·.take 1)).flatten.take 1=ll.flatten.take 1
 |[]=>rfl
 |[]::ll=>by simpa using ac2 ll
 |(a::l)::ll=>by simp
theorem arA{x:ak}{h:List Int}{deep:Int}(hh:wP x h):jf x deep (cH h)=(rX x deep h).map eA:=by
 have e2:(oE x h).map eA=(((fP x (cH h)).map λns=>(ij x (cH h) ns).map λos=>dx (cH h) ns os)).flatten:=by
  unfold oE;rw[abc hh,WM,Vt,<- WO];exact BV λns hn=>adk hh hn
 have e1:(u_ x h).map eA=(((fP x (cH h)).map λns=>(ij x (cH h) ns).map λos=>dx (cH h) ns os).map (·.take 1)).flatten:=by
  unfold u_;rw[abc hh,WM,Vt,XY,<- WO];refine BV λns hn=> ?_;simp only[Wc];rw[VU,adk hh hn]
 unfold jf rX;dsimp only;split
 ·rw[VU,e1,ac2]
 ·split
  ·exact e1.symm
  ·exact e2.symm
end Go.Gg.Tk
namespace Go.Gg.Tk
theorem zV{x:ak}:∀(d:Nat)(pre h:List Int),pre≠[]->h∈ko x d pre->h.length=pre.length+d/\h.headD 0=pre.headD 0
 |0,pre,h,_,hm=>by
  unfold ko at hm;split at hm
  ·rw[S8]at hm;subst hm;exact⟨rfl,rfl⟩
  ·cases hm
 |d+1,pre,h,hp,hm=>by
  unfold ko at hm;split at hm
  ·obtain⟨n,_,hm⟩:=S6.1 hm;obtain⟨h1,h2⟩:=zV d _ h (by simp) hm;refine⟨by rw[h1];simp;omega,h2.trans ?_⟩
   match pre,hp with
   |a::l,_=>rfl
  ·cases hm
theorem Rz{x:ak}{t:Nat}(hx:x.Ok)(ht:t<x.an.toNat+1){h:List Int}(hm:h∈vY x t):wP x h:=by
 have hh:=hx.hours;have FZ:cH h∈kq x t:=by rw[RF hh.1 ht];exact Tl.2 ⟨h,hm,rfl⟩
 have h4:=Rx hx FZ;unfold vY at hm;split at hm
 ·obtain⟨h1,h2⟩:=zV _ _ _ (by simp) hm;have o0:2<=h.length:=by rw[h1];simp
  have FH:h.length<=4:=by rw[h1];simp;omega
  have zA:h.headD 0=x.first:=h2;refine⟨o0,FH,zA,?_,h4⟩;have:=h4.span;rw[abA o0,abB o0 FH,zA]at this;exact this
 ·cases hm
theorem adw{x:ak}{deep:Int}(hx:x.Ok):((SV (x.an.toNat+1)).flatMap λt=>HO x deep t)=(aK x).flatMap (rX x deep):=by
 unfold HO;rw[<- akf hx.hours.1,List.flatMap_assoc]
end Go.Gg.Tk
namespace Go.Gg.Tk
theorem aeA{l:List Nat}{i v p n:Nat}(hi:i<l.length):((oL l i v).getD p 0).testBit n=((l.getD p 0).testBit n||(decide (p=i)&&decide (n=v))):=by
 unfold oL;rw[SE,UM];by_cases h:i=p
 ·subst h;rw[if_pos rfl,if_pos hi,S7,Xl,VP];simp[eq_comm]
 ·rw[if_neg h,<- SE];have:¬p=i:=λe=>h e.symm;simp[this]
def sq (v:Nat->Nat):Nat->List Nat->List Nat
 |0,l=>l
 |k+1,l=>oL (sq v k l) k (v k)
theorem abg(t:List Int)(l:List Nat):∀k,rN t k l=sq (mh t) k l
 |0=>rfl
 |k+1=>by rw[rN,sq,abg t l k]
theorem abC(t:List Int)(l:List Nat):∀k,mI t k l=sq (rU t) k l
 |0=>rfl
 |k+1=>by rw[mI,sq,abC t l k]
theorem Oo(v:Nat->Nat)(l:List Nat):∀k,(sq v k l).length=l.length
 |0=>rfl
 |k+1=>by rw[sq,By,Oo v l k]
theorem Ip{v:Nat->Nat}{l:List Nat}{p n:Nat}:∀k,k<=l.length->((sq v k l).getD p 0).testBit n=((l.getD p 0).testBit n||(decide (p<k)&&decide (n=v p)))
 |0,_=>by simp[sq]
 |k+1,h=>by
  rw[sq,aeA (by rw[Oo];omega),Ip k (by omega)];by_cases hp:p=k
  ·subst hp;simp
  ·have e:(p<k+1)<->p<k:=(by omega);simp[hp,e]
theorem abr{l m:List Nat}{p n:Nat}(h:l.length=m.length):((lJ l m).getD p 0).testBit n=((l.getD p 0).testBit n||(m.getD p 0).testBit n):=by
 unfold lJ;rw[SE,List.getElem?_zipWith,SE,SE];by_cases hp:p<l.length
 ·rw[SY hp,SY (by omega)];simp[Xl]
 ·rw[Uv (by omega),Uv (by omega)];simp
theorem abK{hs:List (List Int)}{h g:List Int}:g∈jy hs h<->g∈hs\/g=h:=by
 unfold jy;split
 ·rename_i hm;exact⟨.inl,λe=>e.elim id λe=>e▸hm⟩
 ·rw[SS,S8]
theorem Qi{g:List Int}:∀{l hs:List (List Int)},g∈l.foldl jy hs<->g∈hs\/g∈l
 |[],hs=>by simp
 |a::l,hs=>by
  rw[UY,Qi,abK,SK,or_assoc]
theorem afG(Q:Kn)(t:List Int):(jD Q t).has=true:=by
 unfold jD;cases h:Q.has
 ·rfl
 ·rw[if_pos rfl];exact h
theorem ac4(x:ak)(deep:Int)(Q:Kn)(t:List Int):(ey x deep Q t).has=true:=by
 have:=afG Q t;unfold ey;dsimp only;split
 ·exact this
 ·split<;>exact this
theorem Qn{x:ak}{deep:Int}:∀(ts:List (List Int))(Q:Kn),(ts.foldl (ey x deep) Q).has=(Q.has|| !ts.isEmpty)
 |[],Q=>by simp
 |t::ts,Q=>by rw[UY,Qn ts,ac4];simp
theorem alC{F G:Kn}{hs:List (List Int)}:(gQ F hs G).has=(F.has||G.has):=by
 unfold gQ;cases h:G.has
 ·simp
 ·simp
end Go.Gg.Tk
namespace Go.Gg.Tk
theorem aq2{x:ak}{Q:Kn}{t g:List Int}:g∈(ey x 0 Q t).aK<->g∈Q.aK\/g=t.take 4:=by
 have hB:(jD Q t).aK=Q.aK:=by unfold jD;split<;>rfl
 unfold ey;dsimp only;rw[if_neg (by decide),if_pos rfl,abK,hB]
theorem Qk{x:ak}{g:List Int}:∀(ts:List (List Int))(Q:Kn),g∈(ts.foldl (ey x 0) Q).aK<->g∈Q.aK\/∃t∈ts,g=t.take 4
 |[],Q=>by simp
 |t::ts,Q=>by
  rw[UY,Qk ts,aq2];constructor
  ·rintro((h|h)|⟨u,h1,h2⟩)
   ·exact .inl h
   ·exact .inr ⟨t,by simp,h⟩
   ·exact .inr ⟨u,by simp[h1],h2⟩
  ·rintro(h|⟨u,h1,h2⟩)
   ·exact .inl (.inl h)
   ·rcases SK.1 h1 with rfl|h1
    ·exact .inl (.inr h2)
    ·exact .inr ⟨u,h1,h2⟩
def eO (x:ak)(deep:Int)(j:Nat):List (List Int):=(kq x j).flatMap (jf x deep)
theorem HN(x:ak)(deep:Int)(j:Nat):gG x deep j=(eO x deep j).foldl (ey x deep) Kn.zero:=rfl
theorem D1(x:ak)(deep:Int)(j:Nat):(gG x deep j).has= !(eO x deep j).isEmpty:=by
 rw[HN,Qn];rfl
theorem arZ{x:ak}{j:Nat}{g:List Int}:g∈(gG x 0 j).aK<->∃t∈eO x 0 j,g=t.take 4:=by
 rw[HN,Qk];simp[Kn.zero]
theorem aas{x:ak}{deep:Int}{js:List Nat}{D:Kn}(h:nO x deep js D):D.has=js.any λj=> !(eO x deep j).isEmpty:=by
 induction h with
 |nil=>rfl
 |snoc h hp ih=>rw[alC,ih,D1,Zx];simp
theorem alD{x:ak}{js:List Nat}{D:Kn}{g:List Int}(h:nO x 0 js D):g∈D.aK<->∃j∈js,∃t∈eO x 0 j,g=t.take 4:=by
 induction h with
 |nil=>simp[Kn.zero]
 |@snoc js F j hs h hp ih=>
  have key:g∈(gQ F hs (gG x 0 j)).aK<->g∈F.aK\/∃t∈eO x 0 j,g=t.take 4:=by
   unfold gQ;split
   ·show g∈hs.foldl jy F.aK<->_;rw[Qi,hp.mem_iff,arZ]
   ·rename_i hn;rw[D1]at hn;have:eO x 0 j=[]:=(by simpa using hn);rw[this];simp
  rw[key,ih];constructor
  ·rintro(⟨i,h1,h2⟩|h2)
   ·exact⟨i,by simp[h1],h2⟩
   ·exact⟨j,by simp,h2⟩
  ·rintro⟨i,h1,h2⟩
   rcases SS.1 h1 with h1|h1
   ·exact .inl ⟨i,h1,h2⟩
   ·rw[S8.1 h1]at h2;exact .inr h2
theorem Qj:∀{l hs:List (List Int)},hs.Nodup->(l.foldl jy hs).Nodup
 |[],hs,h=>h
 |a::l,hs,h=>by rw[UY];exact Qj (abL h)
theorem alF{x:ak}{deep:Int}{js:List Nat}{D:Kn}(h:nO x deep js D):D.aK.Nodup:=by
 induction h with
 |nil=>exact WI
 |snoc h hp ih=>
  unfold gQ;split
  ·exact Qj ih
  ·exact ih
end Go.Gg.Tk
namespace Go.Gg.Tk
theorem E_{x:ak}{deep:Int}{t:Nat}(hx:x.Ok)(ht:t<x.an.toNat+1):eO x deep t=(HO x deep t).map eA:=by
 unfold eO HO;rw[RF hx.hours.1 ht,WM,Vt];exact BV λh hm=>arA (Rz hx ht hm)
def oM (x:ak)(deep:Int):List Tr:=(aK x).flatMap (rX x deep)
theorem Am{x:ak}{deep:Int}{js:List Nat}{p:Nat}(hx:x.Ok)(hp:x.an=p)(iy:js.Perm (SV (p+1))){t:List Int}:(∃j∈js,t∈eO x deep j)<->∃u∈oM x deep,t=eA u:=by
 have ny:x.an.toNat=p:=by omega
 unfold oM;rw[<- adw hx,ny];constructor
 ·rintro⟨j,h1,h2⟩
  have hj:=iy.mem_iff.1 h1;rw[E_ hx (by rw[ny];simpa using hj)]at h2;obtain⟨u,h3,rfl⟩:=Tl.1 h2;exact⟨u,S6.2 ⟨j,hj,h3⟩,rfl⟩
 ·rintro⟨u,h1,rfl⟩
  obtain⟨j,hj,h3⟩:=S6.1 h1;refine⟨j,iy.mem_iff.2 hj,?_⟩;rw[E_ hx (by rw[ny];simpa using hj)];exact Tl.2 ⟨u,h3,rfl⟩
theorem DU{x:ak}{deep:Int}{h:List Int}{u:Tr}(hu:u∈rX x deep h):u∈oE x h:=by
 have h1:∀u,u∈u_ x h->u∈oE x h:=λu hu=>by
  unfold u_ at hu;obtain⟨ns,h1,h2⟩:=S6.1 hu;exact S6.2 ⟨ns,h1,Wq h2⟩
 unfold rX at hu;split at hu
 ·exact h1 u (Wq hu)
 ·split at hu
  ·exact h1 u hu
  ·exact hu
theorem yE{x:ak}{h:List Int}{u:Tr}(hu:u∈oE x h):u.bz=h:=by
 obtain⟨ns,_,h2⟩:=S6.1 hu;obtain⟨os,_,rfl⟩:=Tl.1 h2;rfl
theorem Qf{α β:Type}{f:α->List β}:∀{l:List α},(l.flatMap λa=>(f a).take 1)=[]<->l.flatMap f=[]
 |[]=>by simp
 |a::l=>by
  rw[Ub,Ub,YC,YC,Qf,YO];simp
theorem adj{x:ak}{deep:Int}{h:List Int}:rX x deep h=[]<->oE x h=[]:=by
 have h1:u_ x h=[]<->oE x h=[]:=Qf;unfold rX;split
 ·rw[YO,h1];simp
 ·split
  ·exact h1
  ·exact Iff.rfl
theorem aeI{x:ak}{deep:Int}:oM x deep=[]<->b_ x=[]:=by
 unfold oM b_;rw[WN,WN];exact forall_congr' λh=>forall_congr' λ_=>adj
theorem aeK{x:ak}{deep:Int}{js:List Nat}:(js.any λj=> !(eO x deep j).isEmpty)=true<->∃t,∃j∈js,t∈eO x deep j:=by
 rw[UI];constructor
 ·rintro⟨j,h1,h2⟩
  cases hg:eO x deep j with
  |nil=>rw[hg]at h2;cases h2
  |cons t l=>exact⟨t,j,h1,by rw[hg];simp⟩
 ·rintro⟨t,j,h1,h2⟩
  refine⟨j,h1,?_⟩;cases hg:eO x deep j with
  |nil=>rw[hg]at h2;cases h2
  |cons=>rfl
end Go.Gg.Tk
namespace Go.Gg
open Go.Gg.Tk
theorem Gx{x:ak}{deep:Int}{D:Kn}(hx:x.Ok)(h:fF x deep D):D.has= !(b_ x).isEmpty:=by
 obtain⟨p,js,h1,h2,h3,_⟩:=h;rw[aas h3,Vm,aeK];have key:(∃t,∃j∈js,t∈eO x deep j)<->oM x deep≠[]:=by
  constructor
  ·rintro⟨t,h⟩ he
   obtain⟨u,hu,_⟩:=(Am hx h1 h2).1 h;rw[he]at hu;cases hu
  ·intro aI;obtain⟨u,hu⟩:=Yf _ aI;exact⟨eA u,(Am hx h1 h2).2 ⟨u,hu,rfl⟩⟩
 rw[key,ne_eq,aeI];cases b_ x<;>simp
theorem alL{x:ak}{D:Kn}(hx:x.Ok)(h:fF x 0 D){g:List Int}:g∈D.aK<->∃u∈b_ x,g=(eA u).take 4:=by
 obtain⟨p,js,h1,h2,h3,_⟩:=h;rw[alD h3];have e:(∃j∈js,∃t∈eO x 0 j,g=t.take 4)<->∃t,(∃j∈js,t∈eO x 0 j)/\g=t.take 4:=by
  constructor
  ·rintro⟨j,a,t,b,c⟩;exact⟨t,⟨j,a,b⟩,c⟩
  ·rintro⟨t,⟨j,a,b⟩,c⟩;exact⟨j,a,t,b,c⟩
 rw[e];have aG:∀u:Tr,u∈b_ x->(eA u).take 4=cH u.bz:=λu hu=>by
  obtain⟨h,hm,lG⟩:=S6.1 hu;have hl:h.length=1+x.hours.toNat:=(zV _ _ _ (by simp) hm).1;have hh:=hx.hours;have h4:(cH u.bz).length=4:=by
   rw[yE lG];simp[cH];omega
  unfold eA dx;rw[SC,Tw (by omega),SP (by omega)]
 have lD:∀u,u∈oM x 0->u∈b_ x:=λu hu=>by
  obtain⟨h,a,b⟩:=S6.1 hu;exact S6.2 ⟨h,a,DU b⟩
 constructor
 ·rintro⟨t,a,rfl⟩
  obtain⟨u,hu,rfl⟩:=(Am hx h1 h2).1 a;exact⟨u,lD u hu,rfl⟩
 ·rintro⟨u,hu,rfl⟩
  obtain⟨h,hm,lG⟩:=S6.1 hu;have aI:rX x 0 h≠[]:=λe=>by
   rw[adj]at e;rw[e]at lG;cases lG
  obtain⟨v,hv⟩:=Yf _ aI;have td:v∈oM x 0:=S6.2 ⟨h,hm,hv⟩;refine⟨eA v,(Am hx h1 h2).2 ⟨v,td,rfl⟩,?_⟩;rw[aG u hu,aG v (lD v td),yE lG,yE (DU hv)]
end Go.Gg
namespace Go.Gg.Tk
theorem OY(Q:Kn)(t:List Int):(jD Q t).aB=Q.aB/\(jD Q t).hours=Q.hours/\(jD Q t).less=Q.less/\(jD Q t).aV=Q.aV:=by
 unfold jD;split<;>exact⟨rfl,rfl,rfl,rfl⟩
theorem aq3{x:ak}{Q:Kn}{t:List Int}{p n:Nat}(hx:x.Ok)(hQ:bJ Q)(hp:p<x.pieces.length):((ey x 1 Q t).aB.getD p 0).testBit n=((Q.aB.getD p 0).testBit n||decide (n=mh t p)):=by
 have h:(ey x 1 Q t).aB=rN t x.pieces.length Q.aB:=by
  rw[<- (OY Q t).1];rfl
 rw[h,abg,Ip _ (by rw[hQ.aB];exact hx.dY),decide_eq_true hp,U_]
theorem aq4{x:ak}{Q:Kn}{t:List Int}{s n:Nat}(hx:x.Ok)(hQ:bJ Q)(hs:s<x.aC.length):((ey x 2 Q t).aV.getD s 0).testBit n=((Q.aV.getD s 0).testBit n||decide (n=rU t s)):=by
 have h:(ey x 2 Q t).aV=mI t x.aC.length Q.aV:=by
  rw[<- (OY Q t).2.2.2];rfl
 rw[h,abC,Ip _ (by rw[hQ.aV];exact hx.di),decide_eq_true hs,U_]
theorem Ql{x:ak}{deep:Int}(hx:x.Ok){f:Kn->Bool}{g:List Int->Bool}(h:∀Q t,bJ Q->jj x t->f (ey x deep Q t)=(f Q||g t)):∀(ts:List (List Int))(Q:Kn),bJ Q->(∀t∈ts,jj x t)->f (ts.foldl (ey x deep) Q)=(f Q||ts.any g)
 |[],Q,_,_=>by simp
 |t::ts,Q,hQ,ht=>by
  rw[UY,Ql hx h ts _ (NB hx (ht t (by simp)) hQ) (λu hu=>ht u (by simp[hu])),h Q t hQ (ht t (by simp)),YR,Bool.or_assoc]
theorem QA{x:ak}{deep:Int}{j:Nat}(hx:x.Ok)(hj:j<=3){t:List Int}(ht:t∈eO x deep j):jj x t:=by
 obtain⟨h,h1,h2⟩:=S6.1 ht;obtain⟨ns,h3,h4⟩:=NL h2;exact((DT hx) j hj h h1).2 ns h3 t h4
theorem alE{x:ak}{deep:Int}(hx:x.Ok){f:Kn->Bool}{g:List Int->Bool}(h0:f Kn.zero=false)(h:∀Q t,bJ Q->jj x t->f (ey x deep Q t)=(f Q||g t))(hj:∀F G hs,bJ F->bJ G->G.has=true->f (gQ F hs G)=(f F||f G)){js:List Nat}{D:Kn}(iy:∀j∈js,j<=3)(hD:nO x deep js D):bJ D/\f D=js.any λj=>(eO x deep j).any g:=by
 induction hD with
 |nil=>exact⟨C3,by simpa using h0⟩
 |@snoc js F j hs hJ hp ih=>
  obtain⟨mE,kW⟩:=ih λi hi=>iy i (by simp[hi]);have RH:j<=3:=iy j (by simp);have ay:bJ (gG x deep j):=NS hx ((DT hx) j RH);refine⟨aap mE ay hp,?_⟩;have hw:f (gG x deep j)=(eO x deep j).any g:=by
   rw[HN,Ql hx h _ _ C3 (λt ht=>QA hx RH ht),h0,XT]
  rw[Zx,<- kW];simp only[YR,List.any_nil,ZU];cases hG:(gG x deep j).has with
  |true=>rw[hj F _ hs mE ay hG,hw]
  |false=>
   have hn:eO x deep j=[]:=by
    rw[D1]at hG;simpa using hG
   rw[hn];unfold gQ;rw[hG];simp
end Go.Gg.Tk
namespace Go.Gg
open Go.Gg.Tk
theorem aav{x:ak}{deep:Int}(hx:x.Ok){f:Kn->Bool}{g:List Int->Bool}(h0:f Kn.zero=false)(h:∀Q t,bJ Q->jj x t->f (ey x deep Q t)=(f Q||g t))(hj:∀F G hs,bJ F->bJ G->G.has=true->f (gQ F hs G)=(f F||f G)){D:Kn}(hD:fF x deep D):f D=true<->∃u∈oM x deep,g (eA u)=true:=by
 obtain⟨p,js,h1,h2,h3,_⟩:=hD;have hp:=hx.an;have iy:∀j∈js,j<=3:=λj hm=>by
  have:=h2.mem_iff.1 hm;rw[TP]at this;omega
 rw[(alE hx h0 h hj iy h3).2,UI];constructor
 ·rintro⟨j,a,b⟩
  obtain⟨t,c,d⟩:=UI.1 b;obtain⟨u,hu,rfl⟩:=(Am hx h1 h2).1 ⟨j,a,c⟩;exact⟨u,hu,d⟩
 ·rintro⟨u,hu,d⟩
  obtain⟨j,a,c⟩:=(Am hx h1 h2).2 ⟨u,hu,rfl⟩;exact⟨j,a,UI.2 ⟨_,c,d⟩⟩
theorem alN{x:ak}{D:Kn}{s n:Nat}(hx:x.Ok)(hD:fF x 2 D)(hs:s<x.aC.length):(D.aV.getD s 0).testBit n=true<->∃u∈b_ x,rU (eA u) s=n:=by
 have aR:=hx.di;have e:oM x 2=b_ x:=rfl;rw[<- e,aav (f:=λK=>(K.aV.getD s 0).testBit n) (g:=λt=>decide (n=rU t s)) hx ?_ (λQ t hQ _=>aq4 hx hQ hs) (λF G o_ hF hG hh=> ?_) hD]
 ·exact exists_congr λu=>and_congr_right λ_=>by rw[decide_eq_true_eq];exact eq_comm
 ·have:([0,0,0]:List Nat).getD s 0=0:=by
   match s,(show s<3 by omega)with
   |0,_=>rfl
   |1,_=>rfl
   |2,_=>rfl
  show (([0,0,0]:List Nat).getD s 0).testBit n=false;rw[this];exact Zu n
 ·have e2:(gQ F o_ G).aV=lJ F.aV G.aV:=by unfold gQ;rw[if_pos hh]
  rw[e2];exact abr (by rw[hF.aV,hG.aV])
theorem aeG{x:ak}{P:List Int->List Int->Prop}:(∃u∈oM x 1,P u.bz u.aB)<->∃u∈b_ x,P u.bz u.aB:=by
 constructor
 ·rintro⟨u,hu,hp⟩
  obtain⟨h,a,b⟩:=S6.1 hu;exact⟨u,S6.2 ⟨h,a,DU b⟩,hp⟩
 ·rintro⟨u,hu,hp⟩
  obtain⟨h,a,b⟩:=S6.1 hu;obtain⟨ns,c,d⟩:=S6.1 b;obtain⟨os,c2,rfl⟩:=Tl.1 d;cases ho:py h ns x.aC []with
  |nil=>rw[ho]at c2;cases c2
  |cons o os'=>
   refine⟨⟨h,ns,o⟩,S6.2 ⟨h,a,?_⟩,hp⟩;show _∈u_ x h;refine S6.2 ⟨ns,c,?_⟩;unfold DV;rw[ho];simp
theorem abf{h:List Int}:∀{ys:List aD}{t ns:List Int},ns∈mH h ys t->ns.length=t.length+ys.length
 |[],t,ns,hm=>by
  simp only[mH,S8]at hm;subst hm;rfl
 |y::ys,t,ns,hm=>by
  simp only[mH,S6]at hm;obtain⟨n,_,hm⟩:=hm;have:=abf hm;simp at this⊢;omega
theorem wF{x:ak}(hx:x.Ok){u:Tr}(hu:u∈b_ x):u.bz.length=1+x.hours.toNat/\u.aB.length=x.pieces.length:=by
 obtain⟨h,a,b⟩:=S6.1 hu;obtain⟨ns,c,d⟩:=S6.1 b;obtain⟨os,_,rfl⟩:=Tl.1 d;exact⟨(zV _ _ _ (by simp) a).1,by simpa using abf c⟩
theorem yp{h:List Int}(h4:h.length<=4):(cH h).length=4:=by simp[cH];omega
theorem agY{x:ak}(hx:x.Ok){u:Tr}(hu:u∈b_ x){p:Nat}(hp:p<x.pieces.length):mh (eA u) p=(u.aB.getD p 0-u.bz.headD 0).toNat:=by
 obtain⟨h1,h2⟩:=wF hx hu;have hh:=hx.hours;have h4:=yp (h:=u.bz) (by omega);have da:p<u.aB.length:=by omega
 have hg:(eA u)[4+p]?=some (((u.aB[p]-u.bz.headD 0).toNat:Nat):Int):=by
  unfold eA dx kY;rw[SC,S9 (by omega),h4,TU,SX (by simp;omega),SX (by simpa using da),Tm,Tm,SY da];rfl
 unfold mh;rw[SE,hg,SE,SY da];rfl
theorem asd{p:Nat}(hp:p<4):([0,0,0,0]:List Nat).getD p 0=0:=by
 match p,hp with
 |0,_=>rfl
 |1,_=>rfl
 |2,_=>rfl
 |3,_=>rfl
theorem alM{x:ak}{D:Kn}{p n:Nat}(hx:x.Ok)(hD:fF x 1 D)(hp:p<x.pieces.length):(D.aB.getD p 0).testBit n=true<->∃u∈b_ x,(u.aB.getD p 0-u.bz.headD 0).toNat=n:=by
 have lz:=hx.dY;rw[aav (f:=λK=>(K.aB.getD p 0).testBit n) (g:=λt=>decide (n=mh t p)) hx ?_ (λQ t hQ _=>aq3 hx hQ hp) (λF G o_ hF hG hh=> ?_) hD]
 ·rw[<- aeG (P:=λh ns=>(ns.getD p 0-h.headD 0).toNat=n)];refine exists_congr λu=>and_congr_right λhu=> ?_;obtain⟨h,a,b⟩:=S6.1 hu;have hu2:u∈b_ x:=S6.2 ⟨h,a,DU b⟩;rw[decide_eq_true_eq,agY hx hu2 hp];exact eq_comm
 ·show (([0,0,0,0]:List Nat).getD p 0).testBit n=false;rw[asd (by omega)];exact Zu n
 ·have e2:(gQ F o_ G).aB=lJ F.aB G.aB:=by unfold gQ;rw[if_pos hh]
  rw[e2];exact abr (by rw[hF.aB,hG.aB])
theorem abe{h:List Int}:∀{ys:List aD}{t ns:List Int},ns∈mH h ys t->(∀n∈t,h.headD 0<=n)->∀n∈ns,h.headD 0<=n
 |[],t,ns,hm,ht=>by
  simp only[mH,S8]at hm;subst hm;exact ht
 |y::ys,t,ns,hm,ht=>by
  simp only[mH,S6,Uw]at hm;obtain⟨n,⟨hn,_⟩,hm⟩:=hm;refine abe hm λk hk=> ?_;rcases SS.1 hk with h'|h'
  ·exact ht k h'
  ·rw[S8.1 h'];obtain⟨i,_,rfl⟩:=Tl.1 hn;omega
theorem arC{x:ak}{u:Tr}(hu:u∈b_ x):∀n∈u.aB,u.bz.headD 0<=n:=by
 obtain⟨h,a,b⟩:=S6.1 hu;obtain⟨ns,c,d⟩:=S6.1 b;obtain⟨os,_,rfl⟩:=Tl.1 d;exact abe c (by simp)
end Go.Gg
namespace Go.Gg.Tk
theorem FK{x:ak}:∀(d:Nat)(pre h:List Int),h∈ko x d pre->h.take pre.length=pre
 |0,pre,h,hm=>by
  unfold ko at hm;split at hm
  ·rw[S8]at hm;subst hm;exact TO
  ·cases hm
 |d+1,pre,h,hm=>by
  unfold ko at hm;split at hm
  ·obtain⟨n,_,hm⟩:=S6.1 hm;have:=FK d _ h hm;rw[S4,T9]at this;have h2:=congrArg (TH pre.length) this;rw[U3,Tw (SQ _),TO,Wv (by omega)]at h2;exact h2
  ·cases hm
theorem Ry{x:ak}:∀(d:Nat)(pre:List Int),(ko x d pre).Nodup
 |0,pre=>by
  unfold ko;split
  ·simp
  ·exact WI
 |d+1,pre=>by
  unfold ko;split
  ·unfold List.Nodup;rw[List.pairwise_flatMap];refine⟨λn _=>Ry d _,?_⟩;refine Z3 ?_ (XW (n:=x.an.toNat+1));intro a b gB h ha g hb he;subst he;have h1:=FK d _ h ha;have h2:=FK d _ h hb;rw[S4,T9]at h1 h2;have h3:=h1.symm.trans h2;have:=List.append_cancel_left h3;simp at this;exact gB (by omega)
  ·exact WI
theorem RG(x:ak):(aK x).Nodup:=Ry _ _
end Go.Gg.Tk
namespace Go.Gg
open Go.Gg.Tk
theorem aq5(x:ak)(deep:Int)(Q:Kn)(t:List Int):(ey x deep Q t).first=if Q.has=true then Q.first else t:=by
 have hB:(jD Q t).first=if Q.has=true then Q.first else t:=by unfold jD;split<;>rfl
 unfold ey;dsimp only;split
 ·exact hB
 ·split
  ·exact hB
  ·exact hB
theorem Qm{x:ak}{deep:Int}:∀(ts:List (List Int))(Q:Kn),(ts.foldl (ey x deep) Q).first=if Q.has=true then Q.first else(match ts with|[]=>Q.first|t::_=>t)
 |[],Q=>by simp
 |t::ts,Q=>by
  rw[UY,Qm ts,ac4,if_pos rfl,aq5]
theorem ar0{x:ak}{deep:Int}{j:Nat}{t:List Int}{l:List (List Int)}(h:eO x deep j=t::l):(gG x deep j).first=t:=by
 rw[HN,Qm,h];rfl
theorem alB{Q G:Kn}{hs:List (List Int)}(h:G.has=true):(gQ Q hs G).first=if Q.has=false\/sw G.first Q.first=true then G.first else Q.first:=by
 unfold gQ;rw[if_pos h]
theorem anO{h:List Int}{a b:Int}(hl:h.take 2=[a,b]):(cH h).take 4=a::b::((cH h).drop 2).take 2:=by
 match h,hl with
 |c::d::l,hl=>
  simp only[VQ,aj_,YQ,and_true]at hl;obtain⟨rfl,rfl⟩:=hl;simp[cH]
theorem QB{x:ak}{deep:Int}{j:Nat}(hx:x.Ok)(hj:j<x.an.toNat+1){t:List Int}(ht:t∈eO x deep j):∃l,t.take 4=x.first::(x.first+(j:Int))::l:=by
 rw[E_ hx hj]at ht;obtain⟨u,hu,rfl⟩:=Tl.1 ht;obtain⟨h,hm,hu⟩:=S6.1 hu;have hL:=Rz hx hj hm;have lG:=yE (DU hu);have h2:h.take 2=[x.first,x.first+(j:Int)]:=by
  unfold vY at hm;split at hm
  ·exact FK _ _ _ hm
  ·cases hm
 have e:(eA u).take 4=(cH h).take 4:=by
  unfold eA dx;rw[lG,SC,Tw (by rw[yp hL.hi];omega)]
 rw[e,anO h2];exact⟨_,rfl⟩
theorem ajd{x:ak}{deep:Int}{i j:Nat}(hx:x.Ok)(hi:i<x.an.toNat+1)(hj:j<x.an.toNat+1)(jY:i≠j){t u:List Int}(ht:t∈eO x deep i)(hu:u∈eO x deep j):sw t u=decide (i<j):=by
 obtain⟨l,h1⟩:=QB hx hi ht;obtain⟨m,h2⟩:=QB hx hj hu;have aI:t.take 4≠u.take 4:=by
  rw[h1,h2];simp only[ne_eq,YQ,true_and,not_and];intro h;omega
 unfold sw;rw[if_neg aI,h1,h2];by_cases h:i<j
 ·have e1:mw (x.first+(i:Int)) (x.first+(j:Int))= -1:=by unfold mw;rw[if_pos (by omega)]
  have e0:mw x.first x.first=0:=by unfold mw;simp
  simp[nW,e0,e1,h]
 ·have e1:mw (x.first+(i:Int)) (x.first+(j:Int))=1:=by unfold mw;rw[if_neg (by omega),if_pos (by omega)]
  have e0:mw x.first x.first=0:=by unfold mw;simp
  simp[nW,e0,e1,h]
theorem aar{x:ak}{deep:Int}{js:List Nat}{D:Kn}(hx:x.Ok)(hJ:nO x deep js D)(hn:js.Nodup)(hj:∀j∈js,j<x.an.toNat+1)(hh:D.has=true):∃j∈js,∃t l,eO x deep j=t::l/\D.first=t/\∀i∈js,eO x deep i≠[]->j<=i:=by
 induction hJ with
 |nil=>cases hh
 |@snoc js Q j hs hJ hp ih=>
  have iN:js.Nodup:=(U7.1 hn).1;have oZ:j∉js:=λh=>(U7.1 hn).2.2 j h j (by simp) rfl;have ih':=ih iN (λi hi=>hj i (by simp[hi]));by_cases hG:eO x deep j=[]
  ·have hg:(gG x deep j).has=false:=(by rw[D1,hG];rfl);have hD:gQ Q hs (gG x deep j)=Q:=(by unfold gQ;rw[hg];rfl);rw[hD]at hh⊢;obtain⟨i,h1,t,l,h2,h3,h4⟩:=ih' hh;refine⟨i,by simp[h1],t,l,h2,h3,λk hk aI=> ?_⟩;rcases SS.1 hk with hk|hk
   ·exact h4 k hk aI
   ·rw[S8]at hk;subst hk;exact absurd hG aI
  ·obtain⟨t,l,ht⟩:∃t l,eO x deep j=t::l:=by
    cases hg:eO x deep j with
    |nil=>exact absurd hg hG
    |cons t l=>exact⟨t,l,rfl⟩
   have hg:(gG x deep j).has=true:=(by rw[D1,ht];rfl);rw[alB hg,ar0 ht];by_cases hQ:Q.has=true
   ·obtain⟨i,h1,t',l',h2,h3,h4⟩:=ih' hQ;have hb:sw t Q.first=decide (j<i):=by
     rw[h3];exact ajd hx (hj j (by simp)) (hj i (by simp[h1])) (λe=>oZ (e▸h1)) (by rw[ht];simp) (by rw[h2];simp)
    by_cases jY:j<i
    ·rw[if_pos (.inr (by rw[hb];simpa using jY))];refine⟨j,by simp,t,l,ht,rfl,λk hk aI=> ?_⟩;rcases SS.1 hk with hk|hk
     ·have:=h4 k hk aI;omega
     ·rw[S8]at hk;omega
    ·rw[if_neg (by rw[hQ,hb];simpa using jY)];refine⟨i,by simp[h1],t',l',h2,h3,λk hk aI=> ?_⟩;rcases SS.1 hk with hk|hk
     ·exact h4 k hk aI
     ·rw[S8]at hk;omega
   ·rw[if_pos (.inl (by simpa using hQ))];refine⟨j,by simp,t,l,ht,rfl,λk hk aI=> ?_⟩;rcases SS.1 hk with hk|hk
    ·have hQf:Q.has=js.any λj=> !(eO x deep j).isEmpty:=aas hJ;exfalso;apply hQ;rw[hQf,UI];refine⟨k,hk,?_⟩;cases hg:eO x deep k with
     |nil=>exact absurd hg aI
     |cons=>rfl
    ·rw[S8]at hk;omega
theorem Ro{α:Type}{f:Nat->List α}{j:Nat}{t:α}{l:List α}:∀{n:Nat},j<n->f j=t::l->(∀i,i<j->f i=[])->((SV n).flatMap f).head?=some t
 |0,h,_,_=>absurd h (by omega)
 |n+1,h,hf,h0=>by
  rw[Vk,Vx,WK];by_cases hj:j<n
  ·rw[Ro hj hf h0];rfl
  ·have e:j=n:=(by omega);subst e;have:(SV j).flatMap f=[]:=by
    rw[WN];intro i hi;exact h0 i (TP.1 hi)
   rw[this];simp[hf]
theorem Kq{α β:Type}{f g:α->List β}:∀(l:List α),(∀a,(f a).head?=(g a).head?)->(l.flatMap f).head?=(l.flatMap g).head?
 |[],_=>rfl
 |a::l,h=>by
  rw[Ub,Ub,WK,WK,h a,Kq l h]
theorem ac3{α:Type}(l:List α):(l.take 1).head?=l.head?:=by cases l<;>rfl
theorem aeH{x:ak}{deep:Int}:(oM x deep).head?=(b_ x).head?:=by
 refine Kq _ λh=> ?_;have h1:(u_ x h).head?=(oE x h).head?:=Kq _ λns=>ac3 _;unfold rX;split
 ·rw[ac3,h1]
 ·split
  ·exact h1
  ·rfl
theorem alK{x:ak}{deep:Int}{D:Kn}(hx:x.Ok)(h:fF x deep D)(hh:D.has=true):∃u l,b_ x=u::l/\D.first=eA u:=by
 obtain⟨p,js,h1,h2,h3,_⟩:=h;have ny:x.an.toNat=p:=by omega
 have hj:∀j∈js,j<x.an.toNat+1:=λj hj=>by rw[ny];exact TP.1 (h2.mem_iff.1 hj)
 obtain⟨j,a,t,l,b,c,d⟩:=aar hx h3 (h2.nodup_iff.2 XW) hj hh;have hd:((SV (p+1)).flatMap λj=>eO x deep j).head?=some t:=by
  refine Ro (TP.1 (h2.mem_iff.1 a)) b λi hi=> ?_;cases hg:eO x deep i with
  |nil=>rfl
  |cons v w=>
   have:=d i (h2.mem_iff.2 (TP.2 (by have:=hj j a;omega))) (by rw[hg];simp);omega
 have he:((SV (p+1)).flatMap λj=>eO x deep j)=(oM x deep).map eA:=by
  unfold oM;rw[<- adw hx,ny,Vt];exact BV λi hi=>E_ hx (by rw[ny];exact TP.1 hi)
 rw[he,List.head?_map,aeH]at hd;cases ht:b_ x with
 |nil=>rw[ht]at hd;cases hd
 |cons u l=>
  rw[ht]at hd;simp only[X0,UP,Tj]at hd;exact⟨u,l,rfl,by rw[c,hd]⟩
namespace Tk
def live (x:ak):List (List Int):=(aK x).filter λh=> !(oE x h).isEmpty
def cnt (x:ak):Int:=(live x).length
theorem Ao{x:ak}{h:List Int}:h∈live x<->∃u∈b_ x,u.bz=h:=by
 unfold live;rw[Uw];constructor
 ·rintro⟨h1,h2⟩
  cases ht:oE x h with
  |nil=>rw[ht]at h2;cases h2
  |cons u l=>
   have hu:u∈oE x h:=(by rw[ht];simp);exact⟨u,S6.2 ⟨h,h1,hu⟩,yE hu⟩
 ·rintro⟨u,hu,rfl⟩
  obtain⟨h,a,b⟩:=S6.1 hu;have e:=yE b;subst e;refine⟨a,?_⟩;cases ht:oE x u.bz with
  |nil=>rw[ht]at b;cases b
  |cons=>rfl
theorem KN{x:ak}{h:List Int}(hm:h∈aK x):h.length=1+x.hours.toNat:=(zV _ _ _ (by simp) hm).1
theorem MM{h:List Int}{n:Nat}(hl:h.length=n):(cH h).take n=h:=by
 subst hl;unfold cH;rw[Tw (SQ _),TO]
theorem amw(x:ak):((live x).map cH).Nodup:=by
 have h:(live x).Nodup:=(RG x).filter _;rw[Ut,Xv];have h2:=Ut.1 h;refine Xu ?_ h2;intro a b ha hb aI e;have la:=KN ((Uw.1 ha).1);have lb:=KN ((Uw.1 hb).1);apply aI;rw[<- MM la,e,MM lb]
end Tk
theorem Ja{x:ak}(hx:x.Ok){u:Tr}(hu:u∈b_ x):(eA u).take 4=cH u.bz:=by
 have hl:=(wF hx hu).1;have hh:=hx.hours;unfold eA dx;rw[SC,Tw (by rw[yp (by omega)];omega),SP (by rw[yp (by omega)];omega)]
theorem aaw{x:ak}{D:Kn}(hx:x.Ok)(h:fF x 0 D):D.aK.Perm ((live x).map cH):=by
 have hn:D.aK.Nodup:=by obtain⟨p,js,h1,h2,h3,_⟩:=h;exact alF h3
 refine(List.perm_ext_iff_of_nodup hn (amw x)).2 λg=> ?_;rw[alL hx h,Tl];constructor
 ·rintro⟨u,hu,rfl⟩
  exact⟨u.bz,Ao.2 ⟨u,hu,rfl⟩,(Ja hx hu).symm⟩
 ·rintro⟨h,hm,rfl⟩
  obtain⟨u,hu,rfl⟩:=Ao.1 hm;exact⟨u,hu,(Ja hx hu).symm⟩
theorem yb{x:ak}{deep:Int}{D:Kn}(hx:x.Ok)(h:fF x deep D):D.has=false<->b_ x=[]:=by
 rw[Gx hx h];cases b_ x<;>simp
theorem aaM{x:ak}:live x=[]<->b_ x=[]:=by
 constructor
 ·intro h;cases ht:b_ x with
  |nil=>rfl
  |cons u l=>
   have:u.bz∈live x:=Ao.2 ⟨u,by rw[ht];simp,rfl⟩;rw[h]at this;cases this
 ·intro h;cases hl:live x with
  |nil=>rfl
  |cons a l=>
   obtain⟨u,hu,_⟩:=Ao.1 (show a∈live x by rw[hl];simp);rw[h]at hu;cases hu
theorem count_eq{x:ak}{D:Kn}(hx:x.Ok)(h:fF x 0 D):(if D.has then(D.aK.length:Int)else 0)=cnt x:=by
 cases hD:D.has with
 |true=>rw[if_pos rfl,(aaw hx h).length_eq,Tn];rfl
 |false=>
  have:=aaM.2 ((yb hx h).1 hD);simp[cnt,this]
theorem am0(a b:Int):min a b=a\/min a b=b:=by omega
theorem amV(a b:Int):max a b=a\/max a b=b:=by omega
theorem O1(v:List Int->Int):∀(hs:List (List Int))(b:gW),b.is=true->(hs.foldl (λb h=>b.add (v h)) b).is=true/\((hs.foldl (λb h=>b.add (v h)) b).lo=b.lo\/∃h∈hs,(hs.foldl (λb h=>b.add (v h)) b).lo=v h)/\(hs.foldl (λb h=>b.add (v h)) b).lo<=b.lo/\(∀h∈hs,(hs.foldl (λb h=>b.add (v h)) b).lo<=v h)/\((hs.foldl (λb h=>b.add (v h)) b).hi=b.hi\/∃h∈hs,(hs.foldl (λb h=>b.add (v h)) b).hi=v h)/\b.hi<=(hs.foldl (λb h=>b.add (v h)) b).hi/\∀h∈hs,v h<=(hs.foldl (λb h=>b.add (v h)) b).hi
 |[],b,hb=>⟨hb,.inl rfl,WJ _,by simp,.inl rfl,WJ _,by simp⟩
 |g::hs,b,hb=>by
  have dD:b.add (v g)=⟨min b.lo (v g),max b.hi (v g),true⟩:=by unfold gW.add;rw[if_pos hb]
  obtain⟨h1,h2,h3,h4,h5,h6,h7⟩:=O1 v hs (b.add (v g)) (by rw[dD]);rw[UY];generalize hs.foldl (λb h=>b.add (v h)) (b.add (v g))=R at*;rw[dD]at h2 h3 h5 h6;dsimp only at h2 h3 h5 h6;have m1:min b.lo (v g)=b.lo\/min b.lo (v g)=v g:=am0 _ _;have m2:max b.hi (v g)=b.hi\/max b.hi (v g)=v g:=amV _ _;refine⟨h1,?_,XE h3 (Int.min_le_left _ _),?_,?_,XE (Int.le_max_left _ _) h6,?_⟩
  ·rcases h2 with h2|⟨h,a,c⟩
   ·rcases m1 with m1|m1
    ·exact .inl (h2.trans m1)
    ·exact .inr ⟨g,by simp,h2.trans m1⟩
   ·exact .inr ⟨h,by simp[a],c⟩
  ·intro h hm;rcases SK.1 hm with rfl|hm
   ·exact XE h3 (Int.min_le_right _ _)
   ·exact h4 h hm
  ·rcases h5 with h2|⟨h,a,c⟩
   ·rcases m2 with m1|m1
    ·exact .inl (h2.trans m1)
    ·exact .inr ⟨g,by simp,h2.trans m1⟩
   ·exact .inr ⟨h,by simp[a],c⟩
  ·intro h hm;rcases SK.1 hm with rfl|hm
   ·exact XE (Int.le_max_right _ _) h6
   ·exact h7 h hm
namespace Tk
structure Bounds (hs:List (List Int))(v:List Int->Int)(lo hi:Int):Prop where
 Gv:∃h∈hs,lo=v h
 le:∀h∈hs,lo<=v h
 Gu:∃h∈hs,hi=v h
 ge:∀h∈hs,v h<=hi
theorem Bounds.uniq{hs:List (List Int)}{v:List Int->Int}{a b c d:Int}(h:Bounds hs v a b)(k:Bounds hs v c d):a=c/\b=d:=by
 obtain⟨g1,m1,e1⟩:=h.Gv;obtain⟨g2,m2,e2⟩:=h.Gu;obtain⟨g3,m3,e3⟩:=k.Gv;obtain⟨g4,m4,e4⟩:=k.Gu;have:=h.le _ m3;have:=h.ge _ m4;have:=k.le _ m1;have:=k.ge _ m2;omega
theorem Bounds.anx{hs gs:List (List Int)}{v:List Int->Int}{a b:Int}(h:Bounds hs v a b)(hp:hs.Perm gs):Bounds gs v a b:=by
 obtain⟨g1,m1,e1⟩:=h.Gv;obtain⟨g2,m2,e2⟩:=h.Gu;exact⟨⟨g1,hp.mem_iff.1 m1,e1⟩,λg hg=>h.le g (hp.mem_iff.2 hg),⟨g2,hp.mem_iff.1 m2,e2⟩,λg hg=>h.ge g (hp.mem_iff.2 hg)⟩
end Tk
theorem afY{hs:List (List Int)}(v:List Int->Int)(aI:hs≠[]):Bounds hs v (hs.foldl (λ(b:gW) h=>b.add (v h)) (⟨0,0,false⟩:gW)).lo (hs.foldl (λ(b:gW) h=>b.add (v h)) (⟨0,0,false⟩:gW)).hi:=by
 cases hs with
 |nil=>exact absurd rfl aI
 |cons g hs=>
  rw[UY,show gW.add ⟨0,0,false⟩ (v g)=⟨v g,v g,true⟩from rfl];obtain⟨_,h2,h3,h4,h5,h6,h7⟩:=O1 v hs ⟨v g,v g,true⟩ rfl;generalize hs.foldl (λ(b:gW) h=>b.add (v h)) (⟨v g,v g,true⟩:gW)=R at*;dsimp only at h2 h3 h5 h6;refine⟨?_,?_,?_,?_⟩
  ·rcases h2 with h2|⟨h,a,c⟩
   ·exact⟨g,by simp,h2⟩
   ·exact⟨h,by simp[a],c⟩
  ·intro h hm;rcases SK.1 hm with rfl|hm
   ·exact h3
   ·exact h4 h hm
  ·rcases h5 with h2|⟨h,a,c⟩
   ·exact⟨g,by simp,h2⟩
   ·exact⟨h,by simp[a],c⟩
  ·intro h hm;rcases SK.1 hm with rfl|hm
   ·exact h6
   ·exact h7 h hm
open Go.Gg.Tk
theorem agX{x:ak}(hx:x.Ok){u:Tr}(hu:u∈b_ x){p:Nat}(hp:p<x.pieces.length):(eA u).getD (4+p) 0=u.aB.getD p 0-u.bz.headD 0:=by
 obtain⟨h1,h2⟩:=wF hx hu;have hh:=hx.hours;have h4:=yp (h:=u.bz) (by omega);have da:p<u.aB.length:=by omega
 have uq:=arC hu u.aB[p] (Wr da);have hg:(eA u)[4+p]?=some (((u.aB[p]-u.bz.headD 0).toNat:Nat):Int):=by
  unfold eA dx kY;rw[SC,S9 (by omega),h4,TU,SX (by simp;omega),SX (by simpa using da),Tm,Tm,SY da];rfl
 rw[SE,hg,SE,SY da];simp only[S7];omega
theorem abu{h ns:List Int}:∀{ss:List aD}{t os:List Nat},os∈py h ns ss t->(∀p∈t,p<ns.length)->os.length=t.length+ss.length/\∀p∈os,p<ns.length
 |[],t,os,hm,ht=>by
  simp only[py,S8]at hm;subst hm;exact⟨rfl,ht⟩
 |s::ss,t,os,hm,ht=>by
  simp only[py,S6,Uw,TP]at hm;obtain⟨p,⟨hp,_⟩,hm⟩:=hm;have:=abu hm λq hq=>by
   rcases SS.1 hq with hq|hq
   ·exact ht q hq
   ·rw[S8.1 hq];exact hp
  refine⟨?_,this.2⟩;rw[this.1];simp;omega
theorem HD{x:ak}(hx:x.Ok){u:Tr}(hu:u∈b_ x):u.bS.length=x.aC.length/\∀p∈u.bS,p<x.pieces.length:=by
 have h2:=(wF hx hu).2;obtain⟨h,a,b⟩:=S6.1 hu;obtain⟨ns,c,d⟩:=S6.1 b;obtain⟨os,e,rfl⟩:=Tl.1 d;have:=abu e (by simp);dsimp only at h2⊢;rw[<- h2];exact⟨by simpa using this.1,this.2⟩
theorem agZ{x:ak}(hx:x.Ok){u:Tr}(hu:u∈b_ x){s:Nat}(hs:s<x.aC.length):rU (eA u) s=u.bS.getD s 0:=by
 obtain⟨h1,h2⟩:=wF hx hu;have h3:=(HD hx hu).1;have hh:=hx.hours;have lz:=hx.dY;have h4:=yp (h:=u.bz) (by omega);have cG:s<u.bS.length:=by omega
 have hg:(eA u)[8+s]?=some ((u.bS[s]:Nat):Int):=by
  unfold eA dx kY;have h8:(cH u.bz++((u.aB.map λn=>(n-u.bz.headD 0).toNat).map (λn:Nat=>(n:Int))++TF (4-(u.aB.map λn=>(n-u.bz.headD 0).toNat).length) (-1))).length=8:=by simp[h4];omega
  rw[S9 (by omega),h8,TU,SX (by simpa using cG),Tm,SY cG];rfl
 unfold rU;rw[SE,hg,SE,SY cG];rfl
namespace Tk
def Et (x:ak)(f:Tr->Bool):Bool:=(b_ x).any f
theorem Bz{x:ak}{f:Tr->Bool}:Et x f=true<->∃u∈b_ x,f u=true:=UI
def w9 (f:Nat->Bool)(more:Int)(i:Nat):List Int:=((SV i).filter f).map λn:Nat=>(n:Int)+more
def Dj (x:ak)(p n:Nat):Bool:=Et x λu=>decide ((u.aB.getD p 0-u.bz.headD 0).toNat=n)
def tz (x:ak)(s q:Nat):Bool:=Et x λu=>decide (u.bS.getD s 0=q)
def Do (x:ak)(s q:Nat):Bool:=Et x λu=> !decide (u.bS.getD s 0=q)
theorem aaJ{s:Nat}{f:Nat->Bool}{more:Int}{i:Nat}(h:∀n,n<i->s.testBit n=f n):fA s more i=w9 f more i:=by
 unfold fA w9;congr 1;exact Vj λn hn=>h n (TP.1 hn)
end Tk
theorem anl{x:ak}{D:Kn}{p:Nat}(hx:x.Ok)(hD:fF x 1 D)(hp:p<x.pieces.length)(n:Nat):(D.aB.getD p 0).testBit n=Dj x p n:=by
 rw[Vm,alM hx hD hp];unfold Dj;rw[Bz];simp only[decide_eq_true_eq]
theorem MN{x:ak}{D:Kn}{s:Nat}(hx:x.Ok)(hD:fF x 2 D)(hs:s<x.aC.length)(n:Nat):(D.aV.getD s 0).testBit n=tz x s n:=by
 rw[Vm,alN hx hD hs];unfold tz;rw[Bz];refine exists_congr λu=>and_congr_right λhu=> ?_;rw[agZ hx hu hs,decide_eq_true_eq]
theorem anR{x:ak}{D:Kn}{s q:Nat}(hx:x.Ok)(hD:fF x 2 D)(hs:s<x.aC.length)(hh:D.has=true):(D.aV.getD s 0!=2^q)=Do x s q:=by
 have hb:=MN hx hD hs;rw[Vm,bne_iff_ne];unfold Do;rw[Bz];constructor
 ·intro aI;obtain⟨u,hu⟩:∃u,u∈b_ x:=by
   rw[Gx hx hD]at hh;cases ht:b_ x with
   |nil=>rw[ht]at hh;cases hh
   |cons u l=>exact⟨u,by simp⟩
  by_cases hu1:u.bS.getD s 0=q
  ·refine Tt λfi=>aI ?_;apply Nat.eq_of_testBit_eq;intro n;rw[hb,VP,Vm,decide_eq_true_eq];unfold tz;rw[Bz];constructor
   ·rintro⟨v,hv,e⟩
    rw[decide_eq_true_eq]at e;refine Tt λz_=>fi ⟨v,hv,?_⟩;rw[e];simp;exactλh=>z_ h.symm
   ·rintro rfl
    exact⟨u,hu,by rw[decide_eq_true_eq];exact hu1⟩
  ·exact⟨u,hu,by simpa using hu1⟩
 ·rintro⟨u,hu,h⟩ he
  have hp:tz x s (u.bS.getD s 0)=true:=by
   unfold tz;rw[Bz];exact⟨u,hu,by simp⟩
  rw[<- hb,he,VP,decide_eq_true_eq]at hp;rw[hp]at h;simp at h
theorem anQ{x:ak}{D:Kn}{s q:Nat}(hx:x.Ok)(hD:fF x 2 D)(hs:s<x.aC.length):(if D.has then vM ((D.aV.getD s 0).testBit q) (D.aV.getD s 0!=2^q)else 0)=if(b_ x).isEmpty then 0 else vM (tz x s q) (Do x s q):=by
 have hh:=Gx hx hD;cases JP:D.has with
 |true=>
  rw[JP]at hh;have:(b_ x).isEmpty=false:=by simpa using hh.symm
  rw[this,if_pos rfl,MN hx hD hs,anR hx hD hs JP];rfl
 |false=>
  rw[JP]at hh;have:(b_ x).isEmpty=true:=by simpa using hh.symm
  rw[this];rfl
theorem afF{x:ak}{deep:Int}{D:Kn}(hx:x.Ok)(hD:fF x deep D):eV D=if(b_ x).isEmpty then 11 else 0:=by
 have hh:=Gx hx hD;unfold eV;rw[hh];cases (b_ x).isEmpty<;>rfl
open Go.Conc Go.Proofs Go.Gg.Tk
theorem adt{l:List AV}{a b:AV}(h:Wk a b):so (l++[a]) (l++[b]):=by
 induction l with
 |nil=>exact .cons h .nil
 |cons x l ih=>exact .cons (Wk.refl _) ih
theorem aaQ(n m k:Nat)(bs:List (List Int)):Lt n (.sl m (bs.map bu) (.opn k))=(k<n):=by
 rw[amN,eq_iff_iff];refine⟨λh=>h.1,λh=>⟨h,λa ha=> ?_⟩⟩;have:=aaR n bs;rw[yX,uT]at this;exact this.mpr trivial a ha
theorem N6:gH (Us none 0 0) 1=[.sl 0 [] .exact]:=rfl
theorem Sa{H:List aa}(hH:bH H)(n sz:Nat)(el:TypeId):bH (H++[.tail n sz el]):=FW hH λz hz m=>by rw[S8.1 hz];trivial
section
variable {lv:Bool}
end
namespace Tk
def iO (l:List Int):Nat:=if l.length=0 then 0 else(l.getD (l.length-1) 0).toNat+1
def nF (n:Nat)(l:List Int)(j:Nat):List (List Int):=(SV j).map λj:Nat=>l++[((iO l+j:Nat):Int)]
def nI (n:Nat):Nat->List (List Int)
 |0=>[[]]
 |i+1=>nI n i++nF n ((nI n i).getD i []) (n-iO ((nI n i).getD i []))
def wn (n:Nat):List (List Int):=nI n (2^n)
theorem alR(n:Nat)(l:List Int)(j:Nat):nF n l (j+1)=nF n l j++[l++[((iO l+j:Nat):Int)]]:=by
 unfold nF;rw[Vk,TE];rfl
theorem anJ:∀n,n<4->(∀i,i<2^n->i<(nI n i).length/\(∀l∈nI n i,l.length<=3/\∀y∈l,0<=y/\y<n))/\(∀i,i<2^n+1->(nI n i).length<=8)/\(nI n (2^n)).length=2^n:=by decide+kernel
end Tk
section
variable {lv:Bool}{H:List aa}{k kp:AV->List aa->Prop}
theorem aim{ns:List Int}{e:End}(hn:ns.length<=2^20)(h0:ns=[]->k (.sl 0 [] .exact) H)(hk:k (.sl ns.length (ns.map iv) (.opn H.length)) (H++[.tail ns.length 1 3])):bm lv SA 94 H [.sl ns.length (ns.map iv) e] k kp:=by
 refine bG (rs:=[.tmp 2]) (nt:=8) Tryz.f94 λhH hA=> ?_;simp only[br,SW];refine am ?_;refine am ?_;intro b hb;refine aF ?_;refine⟨λh=> ?_,λh=> ?_⟩
 ·
  refine am ?_;refine bi ?_;have:ns=[]:=by
   cases ns with
   |nil=>rfl
   |cons x xs=>rw[hb (by simp)]at h;cases h
  exact jH (H':=H) (G:=[]) (Wk.refl _) (by simp) (SQ _) hH (by simp[Ms]) (h0 this)
 ·
  refine aO ?_;refine am ?_;refine⟨by omega,?_⟩;refine bi ?_;exact bX hk
theorem aia{n:Nat}(hn:n<=3)(hk:k (yX (wn n)) H):bm lv SA 70 H [iv n] k kp:=by
 refine bG (rs:=[.tmp 2]) (nt:=44) Tryz.f70 λhH hA=> ?_;simp only[br,SW];obtain⟨kM,iJ,mB⟩:=anJ n (by omega);refine am ?_;refine aj ?_;simp only[seval,N6,ML]
 (repeat apply iF);refine vt (t:=3) (sz:=1) (el:=22) (by simp only[seval]<;>rfl) ?_
 refine am ?_;refine cP ?_;refine iu (2^n) (λi:Nat=>[(3,.sl (nI n i).length ((nI n i).map bu) (.opn H.length)),(4,iv i)]) (λi=>H++[.tail (nI n i).length 1 22]) (λi=>True) (λ_ _=>rfl) (by simp only[seval];simp[bC,Wk.refl];exact NQ (l:=[.sl 0 [] .exact]) (l':=[bu []]) rfl (so.cons (gV _ _ _) .nil).at) rfl (λ_ _ _=>by simp) trivial (λcq dG i cR _ R hR=> ?_);clear cq dG;have bP:i<2^n->SD.wrap ((i:Int)+1)=((i+1:Nat):Int):=λh=>by
  have:2^n<=2^3:=Xm (by omega) hn;rw[bB _ (by omega)];rfl
 refine am ?_;refine aF ?_;refine⟨λh=> ?_,λh=> ?_⟩
 ·have bF:i<2^n:=by
   rcases YF i (2^n)with h'|h'
   ·exact h'
   ·have:i=2^n:=(by omega);subst this;rw[mB]at h;omega
  obtain⟨g1,g2⟩:=kM i bF;have g3:=iJ i (by omega);have bP:=bP bF;obtain⟨l,hl⟩:=cj g1;have Sx:nI n (i+1)=nI n i++nF n l (n-iO l):=by
   rw[nI,SE,hl];rfl
  obtain⟨KR,hly⟩:=g2 l (wq hl);generalize nI n i=o at Sx hl g1 g3 hR⊢;refine aO ?_;refine aj ?_;simp only[seval,acu hl,jE g1];refine am ?_;refine aj ?_;simp only[seval,bu];refine aF ?_;refine⟨λh=> ?p1,λh=> ?p2⟩
  case' p1=>
   have sT:0<l.length:=(by omega);obtain⟨y,hy⟩:=cj (xs:=l) (i:=l.length-1) (by omega);have Gm:=hly y (wq hy);have o0:iO l=y.toNat+1:=(by unfold iO;rw[if_neg (by omega),SE,hy];rfl);have gF:SD.wrap ((l.length:Int)-1)=((l.length-1:Nat):Int):=(by rw[bB _ (by omega)];omega);have wa:SD.wrap (y+1)=((iO l:Nat):Int):=(by rw[bB _ (by omega),o0];omega);have od:(0<=((l.length-1:Nat):Int)/\((l.length-1:Nat):Int)<l.length)=True:=(by simp;omega);refine aj ?_;simp only[seval,gF,e_ hy,od,wa];have RR:iO l=iO l:=rfl
  case' p2=>
   have RR:iO l=0:=(by unfold iO;rw[if_pos (by omega)]);refine aO ?_
  all_goals(
   refine am ?_;refine cP ?_;refine iu (n-iO l) (λj:Nat=>[(3,.sl (o.length+j) ((o++nF n l j).map bu) (.opn H.length)),(7,iv (((iO l:Nat):Int)+j))]) (λj=>H++[.tail (o.length+j) 1 22]) (λi=>True) (λ_ _=>rfl) (by first|(simp only[seval];simp[bC,Wk.refl];done)|(simp only[seval,nF,Zw];simp[bC,Wk.refl,RR])) (by simp) (λ_ _ _=>by simp) trivial (λcq dG j oZ _ R2 xw=> ?_);clear cq dG;have RP:(n-iO l)<=3:=(by omega);refine am ?_;refine aF ?_;refine⟨λh2=> ?_,λh2=> ?_⟩
   ·have eX:j<n-iO l:=(by omega);have c_:(o++nF n l (j+1)).map bu=(o++nF n l j).map bu++[bu (l++[((iO l:Nat):Int)+j])]:=(by rw[alR,<- SC,TE];rfl);have FX:((o++nF n l j).map bu).length=o.length+j:=(by simp[nF]);have Gh:SD.wrap (((iO l:Nat):Int)+j+1)=((iO l:Nat):Int)+((j+1:Nat):Int):=(by rw[bB _ (by omega)];omega);refine aO ?_;refine am ?_;refine aL ((aim (ns:=l) (by omega) (λsT=> ?_) ?_))
    ·subst sT;try simp only[seval,z1,N6,ML,FX]
     first|refine⟨by decide,by omega,?_⟩|refine⟨by omega,?_⟩
     refine aj ?_;simp only[seval,Gh];refine xw _ ⟨eX,trivial,?_⟩;rw[c_];refine Hl [.tail 1 1 3] (po rfl rfl) ?_ (Sa hH _ _ _) ?_ (by simp[U0])
     ·(try simp only[seval]);exact⟨⟨_,rfl,have h:=adt (l:=(o++nF n [] j).map bu) (show Wk (.sl 1 [iv (((iO []:Nat):Int)+j)] (.opn (H.length+1))) (bu ([]++[((iO []:Nat):Int)+j])) by exact gV _ _ _);NQ h.len h.at⟩,_,rfl,Wk.refl _⟩
     ·rw[<- c_];simp only[Xe,eC,aaQ,iv];simp
    ·(try simp only[seval,z1,N6,ML,FX]);refine⟨by omega,by omega,?_⟩;refine aj ?_;simp only[seval,Gh];refine xw _ ⟨eX,trivial,?_⟩;rw[c_];refine Hl [.tail (l.length+1) 1 3] (po rfl rfl) ?_ (Sa hH _ _ _) ?_ (by simp[U0])
     ·(try simp only[seval]);exact⟨⟨_,rfl,have h:=adt (l:=(o++nF n l j).map bu) (show Wk (.sl (l.length+1) (l.map iv++[iv (((iO l:Nat):Int)+j)]) (.opn (H.length+1))) (bu (l++[((iO l:Nat):Int)+j])) by rw[bu,TE,S4];exact gV _ _ _);NQ h.len h.at⟩,_,rfl,Wk.refl _⟩
     ·rw[<- c_];simp only[Xe,eC,aaQ,iv];simp
   ·have xO:j=n-iO l:=(by omega);subst xO;refine cp ?_;refine aj ?_;simp only[seval,bP];refine hR _ ⟨bF,trivial,?_⟩;rw[Sx];have Cv:(o++nF n l (n-iO l)).length=o.length+(n-iO l):=(by simp[nF]);rw[Cv];exact dF)
 ·have jp:i=2^n:=by
   rcases YF i (2^n)with h'|h'
   ·have:=(kM i h').1;omega
   ·omega
  subst jp;refine cp ?_;refine am ?_;refine bi ?_;exact jm (b:=yX (wn n)) hH (gV _ _ _) (by rw[aaR];trivial) hk
end
open Go.Conc Go.Proofs Go.Gg.Tk
theorem JC{α:Type}{f:α->List AV}{s:Nat}(hf:∀a,(f a).length=s):∀(xs:List α)(n:Nat),(xs.flatMap f).take (n* s)=(xs.take n).flatMap f
 |[],n=>by simp
 |x::xs,0=>by simp
 |x::xs,n+1=>by
  rw[Ub,VQ,Ub,List.take_append,SP (by rw[hf,XC];omega),hf,show (n+1)* s-s=n* s by rw[XC];omega,JC hf xs n]
theorem xj{α:Type}{f:α->List AV}{s:Nat}(hf:∀a,(f a).length=s):∀(xs:List α)(n:Nat),(xs.flatMap f).drop (n* s)=(xs.drop n).flatMap f
 |[],n=>by simp
 |x::xs,0=>by simp
 |x::xs,n+1=>by
  rw[Ub,List.drop_succ_cons,Vu,WU (by rw[hf,XC];omega),hf,show (n+1)* s-s=n* s by rw[XC];omega,xj hf xs n,Uy]
namespace Tk
def uc (ss:List aD)(ns:List Int):List aD:=ns.foldr (λn l=>l.eraseIdx n.toNat) ss
def ak.wo (x:ak)(ns:List Int):ak:={x with aC:=uc x.aC ns}
def tK (ns:List Int)(m:Nat):Prop:=∀(i:Nat) n,ns[i]?=some n->0<=n/\n+(ns.length-i:Nat)<=m
theorem tK.tail{n:Int}{ns:List Int}{m:Nat}(h:tK (n::ns) m):tK ns m:=λi k hk=>by
 have:=h (i+1) k hk;simp only[Uk]at this;exact⟨this.1,by omega⟩
theorem I3{ss:List aD}:∀{ns:List Int},tK ns ss.length->(uc ss ns).length+ns.length=ss.length
 |[],_=>rfl
 |n::ns,h=>by
  have h1:=I3 h.tail;have h2:=h 0 n rfl;have e:uc ss (n::ns)=(uc ss ns).eraseIdx n.toNat:=rfl;simp only[Uk]at h2⊢;rw[e,X8 (by omega)];omega
end Tk
section
variable {lv:Bool}{H:List aa}{k kp:AV->List aa->Prop}
theorem P2{x:ak}{ns:List Int}{e:End}(aR:x.aC.length<=3)(iA:tK ns x.aC.length)(hk:k (x.wo ns).av H):bm lv SA 63 H [x.av,.sl ns.length (ns.map iv) e] k kp:=by
 have KZ:ns.length<=3:=by have:=I3 iA;omega
 refine bG (rs:=[.cell 4 76]) (nt:=32) Tryz.f63 λhH hA=> ?_;simp only[br,SW,ak.av];obtain⟨st,lC⟩:∃st:Nat->List aD,∀j,st j=uc x.aC (ns.drop (ns.length-j)):=⟨_,λ_=>rfl⟩;have kS:st 0=x.aC:=by rw[lC,ZV,List.drop_length];rfl
 have alf:st ns.length=uc x.aC ns:=by rw[lC,Ve,Xy]
 obtain⟨xl,dw⟩:∃xl:List aD->List AV,∀ss,xl ss=[iv x.first,iv x.hours,iv x.an,dC x.seen,aT x.pieces,aT ss]:=⟨_,λ_=>rfl⟩;have te:x.l=xl x.aC:=by rw[dw];rfl
 have un:∀ss,(xl ss).drop 5=[.sl ss.length (ss.flatMap aD.l) .shut]:=λss=>by rw[dw];rfl
 have a_:∀(L:List aa),(H++L)[H.length]?=L[0]?:=λL=>ba H L 0;have cx:∀(L:List aa)(y:aa),(H++L).set H.length y=H++L.set 0 y:=λL y=>dJ H L 0 y;have bY:∀(L:List aa),(H++L)[H.length+1]?=L[1]?:=λL=>ba H L 1;have dE:∀(L:List aa)(y:aa),(H++L).set (H.length+1) y=H++L.set 1 y:=λL y=>dJ H L 1 y;rw[te];refine am ?_;have rG:SD.wrap ((ns.length:Int)-1)=(ns.length:Int)-1:=bB _ (by omega);refine am ?_;refine cP ?_;refine iu ns.length (λj:Nat=>[(5,iv ((ns.length:Int)-1-j))]) (λj=>H++[.cells (xl (st j)) 26,.cells qB 76]) (λi=>True) (λ_ _=>rfl) (by simp only[seval,rG];simp[bC,Wk.refl]) (by rw[kS];rfl) (λ_ _ _=>by simp) trivial (λcq dG j oZ _ R hR=> ?_);clear dG;refine am ?_;refine aF ?_;refine⟨λh=> ?_,λh=> ?_⟩
 ·have eX:j<ns.length:=by omega
  obtain⟨i,hi⟩:∃i:Nat,i=ns.length-1-j:=⟨_,rfl⟩;have Rv:(ns.length:Int)-1-j=i:=by omega
  obtain⟨n,hn⟩:=cj (xs:=ns) (i:=i) (by omega);obtain⟨ou,sW⟩:=iA i n hn;obtain⟨n,rfl⟩:∃m:Nat,n=m:=⟨n.toNat,by omega⟩;have c_:st (j+1)=(st j).eraseIdx n:=by
   rw[lC,lC,show ns.length-(j+1)=i by omega,show ns.length-j=i+1 by omega];obtain⟨hlt,rfl'⟩:=SL.1 hn;rw[TQ hlt,rfl'];rfl
  have cG:(st j).length+j=x.aC.length:=by
   have hd:tK (ns.drop (ns.length-j)) x.aC.length:=λq m hq=>by
    rw[Uo]at hq;have:=iA _ _ hq;rw[Ul];exact⟨this.1,by omega⟩
   have:=I3 hd;rw[<- lC,Ul]at this;omega
  have ju:n<(st j).length:=by omega
  generalize st j=ss at c_ cG ju hR⊢;rw[Rv];refine aO ?_;refine aj ?_;simp only[seval,e_ hn,jE (show i<ns.length by omega)];have bP:SD.wrap ((n:Int)+1)=((n+1:Nat):Int):=by rw[bB _ (by omega)];rfl
  have lW:∀l:List aD,(l.flatMap aD.l).length=l.length* 4:=λl=>by
   induction l with
   |nil=>rfl
   |cons a l ih=>rw[Ub,S4,ih,aD.len,Uk];omega
  have lF:((n:Int)+1).toNat=n+1:=by omega
  have K3:((n:Int)+1==0)=false:=by simp;omega
  have kM:(ss.take n).length=n:=by rw[T4];omega
  have iJ:(ss.drop (n+1)).length=ss.length-(n+1):=Ul;have hD1:∀l:List aD,(ss.length-(n+1))=l.length->l.take (ss.length-(n+1))=l:=λl h=>by rw[h,TO]
  have hD2:(ss.drop (n+1)).take (ss.length-(n+1))=ss.drop (n+1):=hD1 _ iJ.symm;refine eM 10 ?_;simp only[seval,a_,un,bP,lW,lF,JC aD.len,xj aD.len,kM,iJ,beq_self_eq_true,Z',Xf,K3,hD2,TO];refine⟨by omega,by omega,by omega,by omega,by omega,by rw[dw];simp,?_⟩;have nh:(ss.eraseIdx n).length=n+(ss.length-(n+1)):=by rw[X8 ju];omega
  have ni:(ss.eraseIdx n).flatMap aD.l=(ss.take n).flatMap aD.l++(ss.drop (n+1)).flatMap aD.l:=by rw[List.eraseIdx_eq_take_drop_succ,Vx]
  rw[<- ni,<- nh];have oT:∀y y',((xl ss).take 5++[y]++(xl ss).drop 6).set 5 y'=((xl ss).take 5++[y']++(xl ss).drop 6):=λy y'=>by rw[dw];rfl
  have hcg:∀y,((xl ss).take 5++[y]++(xl ss).drop 6)[5]?=some y:=λy=>by rw[dw];rfl
  have hce:(xl ss).take 5++[aT (ss.eraseIdx n)]++(xl ss).drop 6=xl (ss.eraseIdx n):=by rw[dw,dw];rfl
  (repeat apply iF);refine afq (id:=H.length) (j:=5) (y:=aT (ss.eraseIdx n)) (by simp only[seval,a_]<;>rfl) (hcg _) (gV _ _ _) ?_
  simp only[seval,cx,oT,hce];have gF:SD.wrap ((i:Int)-1)=(ns.length:Int)-1-((j+1:Nat):Int):=by rw[bB _ (by omega)];omega
  refine aj ?_;simp only[seval,gF];refine hR _ ⟨eX,trivial,?_⟩;rw[c_];have sX:bH (H++[.cells (xl (ss.eraseIdx n)) 26,.cells qB 76]):=FW hH λz hz m=>by
   simp only[SK,SZ,or_false]at hz;rcases hz with rfl|rfl
   ·rw[dw];exact GK m {x with aC:=ss.eraseIdx n}
   ·intro a ha;simp only[qB,SK,SZ,or_false]at ha;rcases ha with rfl|rfl|rfl|rfl|rfl|rfl<;>simp[eC,Ms]
  rw[<- Rv];exact Hl [.tail (ss.eraseIdx n).length 4 48] (po rfl rfl) (by simp only[seval];simp[bC,Wk.refl]) sX (by simp[eC]) (by rw[SC];rfl)
 ·have xO:j=ns.length:=by omega
  subst xO;refine cp ?_;have Gl:(xl (st ns.length))=(x.wo ns).l:=by rw[dw,alf];rfl
  rw[Gl];have rG:(x.wo ns).l.length=6:=rfl;have uG:TH 6 (x.wo ns).l=(x.wo ns).l:=rfl;have kV:qB.length=6:=rfl;have CY:TR 6 qB=[]:=rfl;refine aj ?_;simp only[seval,a_,dE,bY,rG,uG,kV,CY];refine⟨tC _,?_⟩;refine mU ?_;simp only[seval,bY];rw[uG];exact jm (b:=(x.wo ns).av) hH (Wk.refl _) (by rw[Da];trivial) hk
end
open Go.Conc Go.Proofs Go.Gg.Tk
namespace Tk
def Ov (ns:List Int)(m:Nat):Bool:=(SV ns.length).all λi=>decide (0<=ns.getD i 0/\ns.getD i 0+(ns.length-i:Nat)<=m)
theorem ae9{ns:List Int}{m:Nat}(h:Ov ns m=true):tK ns m:=λi n hn=>by
 have hi:=(SL.1 hn).1;have:=Tv.1 h i (TP.2 hi);rw[decide_eq_true_eq,SE,hn]at this;exact this
theorem aaL:∀n,n<4->(wn n).length=2^n/\∀l∈wn n,Ov l n=true:=by decide+kernel
theorem amt{n:Nat}(hn:n<4){l:List Int}(hl:l∈wn n):tK l n:=ae9 ((aaL n hn).2 l hl)
theorem PE{ss:List aD}:∀{ns:List Int}{y:aD},y∈uc ss ns->y∈ss
 |[],y,h=>h
 |n::ns,y,h=>PE (ns:=ns) (List.mem_of_mem_eraseIdx h)
theorem PD{ss:List aD}:∀{ns:List Int},(uc ss ns).length<=ss.length
 |[]=>SQ _
 |n::ns=>by
  have h1:=PD (ss:=ss) (ns:=ns);have h2:=List.length_eraseIdx_le (uc ss ns) n.toNat;exact UL h2 h1
theorem ak.Ok.wo{x:ak}(h:x.Ok)(ns:List Int):(x.wo ns).Ok:=⟨h.first,h.hours,h.an,h.tE,h.dY,UL PD h.di,h.seen,λy hy=>⟨(h.piece y hy).1,(h.piece y hy).2⟩,λy hy=>have k:=h.stub y (PE hy);⟨k.1,k.2⟩⟩
def EV (x:ak):Option (List Int):=(wn x.aC.length).find? λl=>vB (x.wo l)
theorem P_{α:Type}{p:α->Bool}:∀{l:List α}{i:Nat}{a:α},l[i]?=some a->p a=true->(∀j b,j<i->l[j]?=some b->p b=false)->l.find? p=some a
 |b::l,0,a,h,hp,_=>by cases h;rw[List.find?_cons_of_pos hp]
 |b::l,i+1,a,h,hp,h0=>by
  rw[List.find?_cons_of_neg (by rw[h0 0 b (by omega) rfl];simp)];exact P_ (i:=i) h hp λj c hj hc=>h0 (j+1) c (by omega) hc
theorem aiC{α:Type}{p:α->Bool}{l:List α}(h:∀(j:Nat) b,l[j]?=some b->p b=false):l.find? p=none:=by
 rw[List.find?_eq_none];intro a ha;obtain⟨j,hj⟩:=UZ ha;rw[h j a hj];simp
end Tk
section
variable {lv:Bool}{H:List aa}{k kp:AV->List aa->Prop}
theorem ahV{x:ak}(hx:x.Ok)(iz:∀l,EV x=some l->k (.aN [bu l,iv 0]) H)(cD:EV x=none->k (.aN [bu [],iv 11]) H):bm lv SA 32 H [x.av] k kp:=by
 refine bG (rs:=[.tmp 2,.tmp 3]) (nt:=27) Tryz.f32 λhH hA=> ?_;simp only[br,SW,ak.av];have aR:=hx.di;have bM:x.l=[iv x.first,iv x.hours,iv x.an,dC x.seen,aT x.pieces,aT x.aC]:=rfl;have un:TR 5 x.l=[.sl x.aC.length (x.aC.flatMap aD.l) .shut]:=rfl;have a_:∀(L:List aa),(H++L)[H.length]?=L[0]?:=λL=>ba H L 0;have dw:x.l.length=6:=rfl;have gh:TH 6 x.l=x.l:=rfl;refine am ?_;refine aj ?_;simp only[seval,a_,dw,gh];refine aL ((Jl (x:=x) hx ?_));(try simp only[seval]);refine aj ?_;simp only[seval,show ((0:Int)!=0)=false from rfl];refine aF ?_;refine aO ?_;refine aj ?_;simp only[seval,a_,un];refine aL ((aia (n:=x.aC.length) aR ?_));have hO:=(aaL x.aC.length (by omega)).1;have eY:=λl hl=>amt (n:=x.aC.length) (by omega) (l:=l) hl;have vW:EV x=(wn x.aC.length).find? λl=>vB (x.wo l):=rfl;generalize wn x.aC.length=ls at hO eY vW⊢;have hp8:2^x.aC.length<=2^3:=Xm (by omega) aR;(try simp only[seval,yX]);refine cP ?_;refine iu ls.length (λi:Nat=>[(17,iv i)]) (λi=>H++[.cells x.l 26]) (λi=>∀j b,j<i->ls[j]?=some b->vB (x.wo b)=false) (λ_ _=>rfl) (by simp only[seval];simp[bC,Wk.refl]) rfl (λ_ _ _=>by simp) (λj b hj=>by omega) (λcq dG i cR ay R hR=> ?_);clear cq dG;refine am ?_;refine aF ?_;refine⟨λh=> ?_,λh=> ?_⟩
 ·have bF:i<ls.length:=by omega
  obtain⟨l,hl⟩:=cj bF;have gC:=eY l (wq hl);have fJ:SD.wrap ((i:Int)+1)=((i+1:Nat):Int):=by rw[bB _ (by omega)];rfl
  refine aO ?_;refine aj ?_;simp only[seval,acu hl,jE bF];refine aj ?_;simp only[seval,a_,dw,gh];refine aL ((P2 (x:=x) (ns:=l) aR gC ?_));(try simp only[seval]);refine aL ((aib (x:=x.wo l) (hx.wo l) ?_));(try simp only[seval]);refine aF ?_;refine⟨λhc=> ?_,λhc=> ?_⟩
  ·refine am ?_;refine bi ?_;exact jm (b:=.aN [bu l,iv 0]) hH (HM (Wk.refl _) (Wk.refl _)) (by simp[jx,eC,yh]) (iz l (by rw[vW];exact P_ hl hc ay))
  ·refine aO ?_;refine aj ?_;simp only[seval,fJ];refine hR _ ⟨bF,λj b hj hb=> ?_,dF⟩;rcases YF j i with h'|h'
   ·exact ay j b h' hb
   ·have:j=i:=(by omega);subst this;rw[hl]at hb;cases hb;simpa using hc
 ·have jp:i=ls.length:=by omega
  subst jp;refine cp ?_;refine am ?_;refine bi ?_;exact jm (b:=.aN [bu [],iv 11]) hH (HM (gV _ _ _) (Wk.refl _)) (by simp[jx,eC,yh]) (cD (by rw[vW];exact aiC λj b hb=>ay j b (eI hb) hb))
end
open Go.Conc
def behind (j:Nat)(o:Tu):Tu:={o with after:=o.after.push {on:=j,ground:=.data}}
def nS (ops:Array Tu)(i j:Nat):Array Tu:=ops.modify i (behind j)
theorem aeB(ops:Array Tu)(i j:Nat):(nS ops i j).size=ops.size:=by simp[nS]
theorem qQ(ops:Array Tu)(i j k:Nat):(nS ops i j)[k]?=if i=k then(ops[k]?).map (behind j)else ops[k]?:=by
 unfold nS;rw[Wd]
theorem afH(j:Nat)(o:Tu):cN (behind j o)=cN o++[j]:=by
 unfold cN behind;simp only[Array.toList_push,List.filterMap_append];rfl
theorem ab4{ops:Array Tu}{i j:Nat}{X l:List Nat}(h:lQ ops X l):j∈X->lQ (nS ops i j) X l:=by
 induction h with
 |nil X h=>exactλ_=> .nil X λk hk=>h k (by rwa [aeB]at hk)
 |cons o ho hn hd lA ih=>
  rename_i X k l;intro hj;by_cases e:i=k
  ·exact .cons (behind j o) (by rw[qQ,if_pos e,ho];rfl) hn (λq hq=>by
    rw[afH]at hq;rcases SS.1 hq with hq|hq
    ·exact hd q hq
    ·rw[S8.1 hq];exact hj) (ih (Tb _ hj))
  ·exact .cons o (by rw[qQ,if_neg e];exact ho) hn hd (ih (Tb _ hj))
theorem apL{ops:Array Tu}{i j:Nat}(jY:i≠j)(hi:i<ops.size){X l:List Nat}(h:lQ ops X l):i∉X->j∉X->lQ (nS ops i j) X l\/lQ (nS ops j i) X l:=by
 induction h with
 |nil X h=>exactλh1 _=>absurd (h i hi) h1
 |cons o ho hn hd lA ih=>
  rename_i X k l;intro h1 h2;by_cases e:k=i
  ·subst e;exact .inr (.cons o (by rw[qQ,if_neg (Ne.symm jY)];exact ho) hn hd (ab4 lA TB))
  ·by_cases e2:k=j
   ·subst e2;exact .inl (.cons o (by rw[qQ,if_neg jY];exact ho) hn hd (ab4 lA TB))
   ·rcases ih (λhm=>(SK.1 hm).elim (λx=>e x.symm) h1) (λhm=>(SK.1 hm).elim (λx=>e2 x.symm) h2)with q|q
    ·exact .inl (.cons o (by rw[qQ,if_neg (Ne.symm e)];exact ho) hn hd q)
    ·exact .inr (.cons o (by rw[qQ,if_neg (Ne.symm e2)];exact ho) hn hd q)
section
variable {lv:Bool}{P:SI}{r:Option Nat}{ops:Array Tu}{nt:Nat}
theorem aeC(i j:Nat)(tmps:Array SO):yielded (nS ops i j) tmps=yielded ops tmps:=by
 funext k;unfold yielded;rw[qQ];by_cases e:i=k
 ·rw[if_pos e];cases ops[k]?<;>rfl
 ·rw[if_neg e]
theorem On(i j:Nat)(Q:Ex->Act->View->Prop):∀l:List Nat,dj lv P r (nS ops i j) Q l=dj lv P r ops Q l
 |[]=>rfl
 |k::l=>by
  funext a V;have ih:=On i j Q l;simp only[dj];rw[qQ,aeC,ih];by_cases e:i=k
  ·rw[if_pos e];cases ho:ops[k]?with
   |none=>rfl
   |some o=>rfl
  ·rw[if_neg e]
theorem Il(i j:Nat)(Hf:List Nat->List aa)(K:AS->Prop)(t:Ba K):∀(pl:List qK)(s:AS),fQ lv P Hf (nS ops i j) pl s K t=fQ lv P Hf ops pl s K t
 |[],_=>rfl
 |⟨k,false,_,l⟩::rest,s=>by
  have ih:=Il i j Hf K t rest;simp only[fQ,qQ];have e:∀o,ap (some o) (λo=>AQ lv P s o λav=>BQ lv P Hf s.T o av l/\fQ lv P Hf (nS ops i j) rest (s.put o.dst av) K t)=ap (some o) (λo=>AQ lv P s o λav=>BQ lv P Hf s.T o av l/\fQ lv P Hf ops rest (s.put o.dst av) K t):=λo=>by
   simp only[ap,ih]
  have bq:∀(o:Tu) av,BQ lv P Hf s.T (behind j o) av l=BQ lv P Hf s.T o av l:=λo av=>by
   induction l with
   |nil=>rfl
   |cons p l kW=>exact congrArg (λx=>_/\x) (kW λo=>by simp only[ap,ih])
  split
  ·cases ops[k]?with
   |none=>rfl
   |some o=>
    simp only[UP,ap,ih,bq];rfl
  ·cases ops[k]?with
   |none=>rfl
   |some o=>exact e o
 |⟨k,true,D,l⟩::rest,s=>by
  have ih:=Il i j Hf K t rest;simp only[fQ,qQ];have be:∀(o:Tu) av,BE lv P Hf s.T (behind j o) av l=BE lv P Hf s.T o av l:=λo av=>by
   induction l with
   |nil=>rfl
   |cons p l kW=>exact congrArg (λx=>_/\x) kW
  split
  ·cases ops[k]?with
   |none=>rfl
   |some o=>
    simp only[UP,ap,ih,be];rfl
  ·cases ops[k]?with
   |none=>rfl
   |some o=>simp only[ap,ih]
theorem agK{es ord:List Nat}(ay:qV nt ops es ord=true)(t:Nat):lQ ops [] (UH .any ops ops.size t (TK ops.size false) []):=by
 have ay:=qV.out ay;obtain⟨v6,_,hlt⟩:=DN ay.top;have ready:∀(ord X:List Nat),j6 ops X ord=true->∀A i B,ord=A++i::B->∃o,ops[i]?=some o/\∀j∈cN o,j∈A\/j∈X:=by
  intro ord;induction ord with
  |nil=>intro X _ A i B e;cases A<;>cases e
  |cons x l ih=>
   intro X nA A i B e;simp only[j6,Tg,TZ,Uq,decide_eq_false_iff_not]at nA;obtain⟨⟨h1,h2⟩,h3⟩:=nA;cases A with
   |nil=>
    have e1:x=i:=(by have:=congrArg List.head? e;simpa using this);rw[e1]at h2;cases ho:ops[i]?with
    |none=>rw[ho]at h2;cases h2
    |some o=>
     rw[ho]at h2;exact⟨o,rfl,λj hj=> .inr (by have:=Tv.1 h2 j hj;simpa using this)⟩
   |cons y A=>
    cases e;obtain⟨o,ho,hb⟩:=ih (x::X) h3 A i B rfl;refine⟨o,ho,λj hj=> ?_⟩;rcases hb j hj with h|h
    ·exact .inl (Tb _ h)
    ·rcases SK.1 h with rfl|h
     ·exact .inl (TB ..)
     ·exact .inr h
 exact Mm (ops:=ops) (λi o ho j hj=>by
   obtain⟨A,B,e⟩:=List.append_of_mem (ay.full i (SR.1 ho).1);obtain⟨o',bf,hb⟩:=ready ord [] ay.top A i B e;rw[ho]at bf;cases bf;rcases hb j hj with h|h
   ·exact hlt j (by rw[e];exact Tf _ h)
   ·cases h)
  (λX ⟨i,hi,hn⟩=>by
   obtain⟨A,i',B,e,h1,h2⟩:=Jv (X:=X) ⟨i,ay.full i hi,hn⟩;obtain⟨o',bf,hb⟩:=ready ord [] ay.top A i' B e;refine⟨i',o',bf,h1,λj hj=> ?_⟩;rcases hb j hj with h|h
   ·exact h2 j h
   ·cases h)
  ops.size t (TK ops.size false) [] ⟨by simp,λi hi=>by simp[hi]⟩ (UL Y2 (by simp))
end
inductive qC (ops:Array Tu):Array Tu->Prop
 |base:qC ops ops
 |add {o:Array Tu} (h:qC ops o) (i j:Nat):qC ops (nS o i j)
section
variable {lv:Bool}{P:SI}{r:Option Nat}{ops o:Array Tu}{nt:Nat}{s:AS}{Φ:ao->AS->Prop}
theorem qC.wp(h:qC ops o)(Q:Ex->Act->View->Prop)(l:List Nat):dj lv P r o Q l=dj lv P r ops Q l:=by
 induction h with
 |base=>rfl
 |add _ i j ih=>rw[On,ih]
theorem qC.O3(h:qC ops o)(Hf:List Nat->List aa)(K:AS->Prop)(t:Ba K)(pl:List qK)(s:AS):fQ lv P Hf o pl s K t=fQ lv P Hf ops pl s K t:=by
 induction h with
 |base=>rfl
 |add _ i j ih=>rw[Il,ih]
def DG (lv:Bool)(P:SI)(r:Option Nat)(nt:Nat)(ops o:Array Tu)(s:AS)(Φ:ao->AS->Prop):Prop:=
 ∀l E V a Q,lQ o [] l->At E V s a nt->(∀ae e E' V' a' s',Kept E E' V V' a a'->At E' V' s' a' nt->pD E' ae e->Φ ae s'->Q e a' V')->dj lv P r ops Q l a V
theorem qU(i j:Nat)(jY:(i !=j&&decide (i<o.size))=true)(h1:DG lv P r nt ops (nS o i j) s Φ)(h2:DG lv P r nt ops (nS o j i) s Φ):DG lv P r nt ops o s Φ:=λl E V a Q hs ai hQ=>by
 rw[Tg,bne_iff_ne,decide_eq_true_eq]at jY;rcases apL jY.1 jY.2 hs (by simp) (by simp)with hs|hs
 ·exact h1 l E V a Q hs ai hQ
 ·exact h2 l E V a Q hs ai hQ
theorem afh{id:Nat}(es ord:List Nat)(hm:P.follows .mixedOrders=true)(ay:qV nt ops es ord=true)(h:DG lv P r nt ops ops s Φ):aQ lv P r nt (.region id ops true) s Φ:=by
 intro E V a Q ai hQ;refine NU λt=> ?_;rw[show VJ (P.follows .mixedOrders) ops t=UH .any ops ops.size t (TK ops.size false) [] by unfold VJ;rw[hm];simp[Y_]];exact h _ E V a Q (agK ay t) ai hQ
end
def GM (lv:Bool)(P:SI)(o:Tu)(s:AS)(next:AS->Prop):Prop:=match o.op with
 |.call c=>match c.callee with
  |.value x=>ap (s.ev x) λsx=>ap (eW s c.args.toList) λaE=>A5 lv P sx s.H aE (λb H'=>next ((⟨s.T,H'⟩:AS).put o.dst b)) (λ_ _=>False) ⟨0⟩
  |_=>False
 |_=>False
def aaW (ops:Array Tu)(A B:List Nat)(m:Nat):Bool:=
 let cl:=gw ops (A++m::B) []
 A.all (λi=>(m_ cl m).contains i)&&B.all λi=>(m_ cl i).contains m
theorem qC.get{ops o:Array Tu}(h:qC ops o){m:Nat}{om:Tu}(hm:ops[m]?=some om):∃pu,o[m]?=some pu/\pu.op=om.op/\pu.dst=om.dst:=by
 induction h with
 |base=>exact⟨om,hm,rfl,rfl⟩
 |add _ i j ih=>
  obtain⟨q,h1,h2,h3⟩:=ih;rw[qQ];split
  ·exact⟨behind j q,by rw[h1];rfl,h2,h3⟩
  ·exact⟨q,h1,h2,h3⟩
section
variable {lv:Bool}{P:SI}{r:Option Nat}{ops o:Array Tu}{Hf:List Nat->List aa}{T0:List (Nat×AV)}{es ord:List Nat}{nt:Nat}{s:AS}{Φ:ao->AS->Prop}
theorem PC{f:Nat->AV}(ay:yM nt ops ord)(G:List Nat)(az:∀i∈G,∀o,ops[i]?=some o->∀X',kC ops X'->i∉X'->(∀j∈cN o,j∈X')->OB lv P r ops Hf T0 es f i o X'){X l:List Nat}(hs:lQ ops X l):
  (∀i∈X,i<ops.size)->kC ops X->∀(E:Env)(V:View)(a:Act)(Q:Ex->Act->View->Prop),At E V ⟨TX ops T0 f X,Hf (done es X)⟩ a nt->
   (∀E' V' a' X' l',Kept E E' V V' a a'->At E' V' ⟨TX ops T0 f X',Hf (done es X')⟩ a' nt->(∀i∈X',i<ops.size)->kC ops X'->(∀i∈X',i∈X\/i∈G)->(∀i∈X,i∈X')->lQ ops X' l'->(∀i ye,l'=i::ye->i∉G)->dj lv P r ops Q l' a' V')->dj lv P r ops Q l a V:=by
 induction hs with
 |nil X h=>
  intro hX hc E V a Q ai hQ;exact hQ E V a X [] (Kept.refl E V a) ai hX hc (λi hi=> .inl hi) (λi hi=>hi) (.nil X h) (λi ye e=>by cases e)
 |cons o ho hn hd lA ih=>
  rename_i X i l;intro hX hc E V a Q ai hQ;by_cases hG:i∈G
  ·have hi:i<ops.size:=(SR.1 ho).1;simp only[dj,ho];have oc:∀k∈i::X,k<ops.size:=λk hk=>(SK.1 hk).elim (λe=>by rw[e];exact hi) (hX k);have aY:=hc.cons ho hd;have hw:Th o (yielded ops a.tmps)=true:=(by unfold Th;rw[ay.B5 i o ho]);rw[if_pos hw];refine .inl ?_;have dn:∀d,o.dst=some d->d<a.tmps.size:=λd e=>(by rw[ai.size];exact ay.dst i o d ho e);have ly:=az i hG o ho X hc hn hd;have lD:∀{mu:List Nat},(∀j∈mu,j∈i::X\/j∈G)->∀j∈mu,j∈X\/j∈G:=λh j hj=>by
    rcases h j hj with h|h
    ·rcases SK.1 h with rfl|h
     ·exact .inr hG
     ·exact .inl h
    ·exact .inr h
   unfold OB at ly;by_cases du:i∈es
   ·rw[if_pos du]at ly;have aR:=ly.step (r:=r) (bad:=λ_ _=>False);refine aR E V a _ Q ai.bt ai.tok dn (.inr (ay.vC i o ho)) (λE' V' a' s' hk cL ht e=> ?_) λ_ _ _ _ _ _ _ _ _ h=>h.elim;subst e;rw[wW ho rfl]at ht cL;exact ih oc aY E' V' a' Q ⟨cL,ht,hk.size.trans ai.size⟩ λbO aS b8 mu ye aJ de w1 w2 w3 w4=>hQ bO aS b8 mu ye (hk.trans aJ) de w1 w2 (lD w3) (λj hj=>w4 j (Tb _ hj))
   ·rw[if_neg du]at ly;obtain⟨T,hT,hq⟩:=ly;refine hq E V a _ Q ai.bt (λt av e=>ai.tok t av (hT t av e)) (.inr (ay.vC i o ho)) λE' V' v hle bW eQ cL hv=> ?_;have ht:bZ E' ((⟨TX ops T0 f X,Hf (done es X)⟩:AS).put o.dst (f i)).T (a.put o.dst v).tmps:=bZ.gR (s:=⟨TX ops T0 f X,Hf (done es X)⟩) (ai.tok.mono hle) dn hv;rw[wW ho rfl]at ht;refine ih oc aY E' V' (a.put o.dst v) Q ⟨by rw[I1 du];exact cL,ht,(dU _ _ _).trans ai.size⟩ λbO aS b8 mu ye hk de w1 w2 w3 w4=>
     hQ bO aS b8 mu ye ⟨hle.trans hk.le,hk.size.trans (dU _ _ _),hk.defers.trans (put_defers _ _ _),hk.role.trans bW,hk.deaf.trans eQ⟩ de w1 w2 (lD w3) (λj hj=>w4 j (Tb _ hj))
  ·exact hQ E V a X (i::l) (Kept.refl E V a) ai hX hc (λi hi=> .inl hi) (λi hi=>hi) (.cons o ho hn hd lA) (λj ye e=>by cases e;exact hG)
theorem ac9{ops:Array Tu}:∀{A L X:List Nat},j6 ops X (A++L)=true->j6 ops X A=true/\j6 ops (A.reverse++X) L=true
 |[],L,X,h=>⟨rfl,h⟩
 |i::A,L,X,h=>by
  rw[U1,j6,Tg]at h;obtain⟨h1,h2⟩:=ac9 h.2;refine⟨by rw[j6,Tg];exact⟨h.1,h1⟩,?_⟩;rw[Zh,SC];exact h2
theorem ada{ops:Array Tu}:∀{A X:List Nat},j6 ops X A=true->kC ops X->kC ops (A.reverse++X)
 |[],X,h,hX=>hX
 |i::A,X,h,hX=>by
  have nA:=h;simp only[j6,Tg,TZ,Uq,decide_eq_false_iff_not]at nA;obtain⟨⟨hi,h2⟩,h3⟩:=nA;cases ho:ops[i]?with
  |none=>rw[ho]at h2;cases h2
  |some o=>
   rw[ho]at h2;have hd:∀j∈cN o,j∈X:=λj hj=>(by have:=Tv.1 h2 j hj;simpa using this);have:=ada h3 (hX.cons ho hd);rw[Zh,SC];exact this
def Be (lv:Bool)(P:SI)(ops:Array Tu)(m:Nat)(Hd:List qK)(Φ:ao->AS->Prop)(s1:AS):Prop:=ap (ops[m]?) λom=>GM lv P om s1 λs2=>∃nL:List Nat->List aa,s2.H=nL []/\fQ lv P nL ops Hd s2 (Φ .normal) ⟨0⟩
theorem pM(m:Nat)(A B oP m9:List Nat){pl1 Hd:List qK}(oH:List Nat->List aa)(h:fQ lv P oH ops pl1 s (Be lv P ops m Hd Φ) ⟨0⟩)(ha:qC ops o:=by repeat first|exact .base|apply qC.add)(ay:qV nt o [] (A++m::B)=true:=by kernel_rfl)(FB:aaW o A B m=true:=by kernel_rfl)(akK:qv (gw o (A++m::B) []) oP [] A=pl1:=by conv=>lhs;cbv)(akL:qv (gw o (A++m::B) []) m9 (m::A.reverse) B=Hd:=by conv=>lhs;cbv)(aj8:m9.all B.contains=true:=by kernel_rfl)(h0:s.H=oH []:=by rfl):DG lv P r nt ops o s Φ:=λl E V a Q hs ai hQ=>by
 subst akK akL;rw[<- ha.wp];rw[<- ha.O3]at h;have ay:=qV.out ay;obtain⟨v6,_,hlt⟩:=DN ay.top;obtain⟨tA,tB⟩:=ac9 ay.top;rw[SN]at tB;have tB':j6 o (m::A.reverse) B=true:=by
  rw[j6,Tg]at tB;exact tB.2
 unfold aaW at FB;dsimp only at FB;rw[Tg,Tv,Tv]at FB;obtain⟨cA,cB⟩:=FB;have RU:m∉A:=λhm=>(U7.1 v6).2.2 m hm m (by simp) rfl;have hmB:m∉B:=(VD.1 (U7.1 v6).2.1).1;have QD:∀i∈B,i∉A:=λi hi hA=>(U7.1 v6).2.2 i hA i (by simp[hi]) rfl;have cx:s=⟨TX o s.T (λ_=> .val undef) [],oH (done oP [])⟩:=by
  have:done oP []=[]:=by simp[done]
  rw[this,<- h0];rfl
 have h':fQ lv P oH o (qv (gw o (A++m::B) []) oP [] A) ⟨TX o s.T (λ_=> .val undef) [],oH (done oP [])⟩ (Be lv P ops m (qv (gw o (A++m::B) []) m9 (m::A.reverse) B) Φ) ⟨0⟩:=by rw[<- cx];exact h
 obtain⟨f,_,q2,q3⟩:=BI (r:=r) ay A [] _ tA (λi hi=>by cases hi) h';have sL:At E V ⟨TX o s.T f [],oH (done oP [])⟩ a nt:=by
  have e:(⟨TX o s.T f [],oH (done oP [])⟩:AS)=s:=cx.symm;rw[e];exact ai
 refine PC (Hf:=oH) (es:=oP) ay A q2 hs (by simp) (λi hi=>by cases hi) E V a Q sL λE1 V1 a1 X1 l1 iz vN hX1 dl Ln _ dE F9=> ?_;have RV:m∉X1:=λhm=>by
  rcases Ln m hm with h|h
  ·cases h
  ·exact RU h
 cases dE with
 |nil _ fx=>exact absurd (fx m (hlt m (by simp))) RV
 |@cons _ i l2 pu ho hn hd lA=>
  have hi:i<o.size:=(SR.1 ho).1;have hiA:i∉A:=F9 i l2 rfl;have lw:i=m:=by
   rcases SS.1 (ay.full i hi)with h|h
   ·exact absurd h hiA
   ·rcases SK.1 h with h|h
    ·exact h
    ·have:=cB i h;have hr:m∈m_ (gw o (A++m::B) []) i:=(by simpa using this);exact absurd (AD dl (ze hr) λo' bf k hk=>by rw[ho]at bf;cases bf;exact hd k hk) RV
  subst lw;have QE:∀j∈A,j∈X1:=λj hj=>by
   have:=cA j hj;have hr:j∈m_ (gw o (A++i::B) []) i:=(by simpa using this);exact AD dl (ze hr) λo' bf k hk=>by rw[ho]at bf;cases bf;exact hd k hk
  have KW:∀j,j∈X1<->j∈A.reverse++[]:=λj=>by
   rw[SN,XJ];exact⟨λh=>(Ln j h).elim (λh=>by cases h) id,QE j⟩
  have J_:At E1 V1 ⟨TX o s.T f (A.reverse++[]),oH (done oP (A.reverse++[]))⟩ a1 nt:=by
   refine⟨?_,λt x e=> ?_,vN.size⟩
   ·rw[<- EL KW];exact vN.bt
   ·rw[<- Ek ay KW]at e;exact vN.tok t x e
  simp only[dj,ho];have hw:Th pu (yielded o a1.tmps)=true:=by unfold Th;rw[ay.B5 i pu ho]
  rw[if_pos hw];refine .inl ?_;have dn:∀d,pu.dst=some d->d<a1.tmps.size:=λd e=>by rw[vN.size];exact ay.dst i pu d ho e
  unfold Be at q3;obtain⟨om,hom,q3⟩:=q3.out;obtain⟨om2,g1,g2,g3⟩:=ha.get hom;rw[ho]at g1;cases g1;unfold GM at q3;obtain⟨c,x,ajP,ajE,q4⟩:∃c x,om.op=.call c/\c.callee=.value x/\ap ((⟨TX o s.T f (A.reverse++[]),oH (done oP (A.reverse++[]))⟩:AS).ev x) λsx=>ap (eW ⟨TX o s.T f (A.reverse++[]),oH (done oP (A.reverse++[]))⟩ c.args.toList) λaE=>A5 lv P sx (oH (done oP (A.reverse++[]))) aE (λb H'=>∃nL:List Nat->List aa,((⟨TX o s.T f (A.reverse++[]),H'⟩:AS).put om.dst b).H=nL []/\fQ lv P nL ops (qv (gw o (A++i::B) []) m9 (i::A.reverse) B) ((⟨TX o s.T f (A.reverse++[]),H'⟩:AS).put om.dst b) (Φ .normal) ⟨0⟩) (λ_ _=>False) ⟨0⟩:=by
   split at q3
   ·rename_i c hc;split at q3
    ·rename_i x hx;exact⟨c,x,hc,hx,q3⟩
    ·exact q3.elim
   ·exact q3.elim
  obtain⟨sx,e1,q5⟩:=q4.out;obtain⟨aE,e2,q6⟩:=q5.out;have kT:=Nw (lv:=lv) (P:=P) (r:=r) (o:=pu) (s:=⟨TX o s.T f (A.reverse++[]),oH (done oP (A.reverse++[]))⟩) (next:=λs2=>∃av H' nL,s2=(⟨TX o s.T f (A.reverse++[]),H'⟩:AS).put pu.dst av/\H'=nL []/\fQ lv P nL ops (qv (gw o (A++i::B) []) m9 (i::A.reverse) B) s2 (Φ .normal) ⟨0⟩) (bad:=λ_ _=>False) (g2.trans ajP) ajE e1 e2 (iT.mono q6 (λav H'=>by
    rintro⟨nL,w1,w2⟩
    rw[<- g3]at w1 w2;refine⟨av,H',nL,rfl,?_,w2⟩;rw[<- w1];cases pu.dst<;>rfl) (λ_ _ h=>h))
  refine kT E1 V1 a1 _ Q J_.bt J_.tok dn (.inr (ay.vC i pu ho)) (λE2 V2 a2 s2 cD cL xY e=> ?_) λ_ _ _ _ _ _ _ _ _ h=>h.elim;obtain⟨av,H',nL,rfl,hH',hb⟩:=e;obtain⟨f',Rp⟩:∃f':Nat->AV,f'=λj=>if j=i then av else f j:=⟨_,rfl⟩;have hff:∀j∈A.reverse++[],f j=f' j:=λj hj=>by
   have:j≠i:=λe=>RU (by subst e;simpa using hj);rw[Rp];simp[this]
  have hp:(⟨TX o s.T f (A.reverse++[]),H'⟩:AS).put pu.dst av=⟨TX o s.T f' (i::A.reverse),nL (done m9 (i::A.reverse))⟩:=by
   have oV:done m9 (i::A.reverse)=[]:=by
    unfold done;rw[YB];intro j hj;have:=Tv.1 aj8 j hj;have FN:j∈B:=(by simpa using this);have h1:j≠i:=λe=>hmB (e▸FN);have h2:=QD j FN;simp[h1,h2]
   rw[Bm hff,wW ho (by rw[Rp];simp),oV,hH',SN]
  rw[hp]at hb cL xY;rw[<- ha.O3]at hb;have ajK:kC o (i::A.reverse):=by
   have h1:=ada tA (X:=[]) (λi hi=>by cases hi);rw[SN]at h1;exact h1.cons ho λj hj=>by
    have:=Ln j (hd j hj);simpa using this
  obtain⟨f2,p1,p2,p3⟩:=BI (r:=r) ay B (i::A.reverse) f' tB' ajK hb;have RY:∀j,j∈i::X1<->j∈i::A.reverse:=λj=>by
   have:=KW j;rw[SN]at this;rw[SK,SK,this]
  have ul:At E2 V2 ⟨TX o s.T f2 (i::X1),nL (done m9 (i::X1))⟩ a2 nt:=by
   refine⟨?_,λt x e=> ?_,cD.size.trans J_.size⟩
   ·rw[EL RY];exact cL
   ·rw[Ek ay RY,Bm p1]at e;exact xY t x e
  refine PC (Hf:=nL) (es:=m9) ay B p2 lA (λk hk=>(SK.1 hk).elim (λe=>by rw[e];exact hi) (hX1 k)) (dl.cons ho hd) E2 V2 a2 Q ul λE3 V3 a3 X3 l3 v4 pU hX3 dO atp R5 pc ale=> ?_;cases pc with
  |cons o3 K4 KZ zN ato=>
   rename_i j l4;exfalso;have hj:j<o.size:=(SR.1 K4).1;have FN:=ale j l4 rfl;rcases SS.1 (ay.full j hj)with h|h
   ·exact KZ (R5 j (Tb _ (QE j h)))
   ·rcases SK.1 h with rfl|h
    ·exact KZ (R5 j (TB ..))
    ·exact FN h
  |nil _ fx=>
   have RZ:∀j,j∈X3<->j∈B.reverse++i::A.reverse:=λj=>by
    rw[SS,SK,XJ,XJ];constructor
    ·intro h;have:=SS.1 (ay.full j (hX3 j h));rw[SK]at this;rcases this with h|h|h
     ·exact .inr (.inr h)
     ·exact .inr (.inl h)
     ·exact .inl h
    ·intro h;refine fx j (hlt j ?_);rw[SS,SK];rcases h with h|h|h
     ·exact .inr (.inr h)
     ·exact .inr (.inl h)
     ·exact .inl h
   refine hQ .normal .normal E3 V3 a3 _ ((iz.trans cD).trans v4) ⟨?_,λt x e=> ?_,pU.size⟩ trivial p3
   ·rw[<- EL RZ];exact pU.bt
   ·rw[<- Ek ay RZ]at e;exact pU.tok t x e
end
theorem amY:type_of% @GM.eq_1:=by intros;rw[GM.eq_1]
theorem amZ:type_of% @Be.eq_1:=by intros;rw[Be.eq_1]
attribute [seval] amY amZ
open Go.Proofs Go.Gg.Tk
theorem abF{x:ak}{q:Nat}(hq:q<x.pieces.length):yq x [(q:Int)]=true:=by
 unfold yq;simp;omega
theorem agA{lv:Bool}{P:SI}{r:Option Nat}{nt:Nat}{ops:Array Tu}{s:AS}{Φ:ao->AS->Prop}{α:Type}{ok:α->Prop}(st:α->AS)(rest:∀x,ok x->Φ .normal (st x))(h:(∀x,ok x->Φ .normal (st x))->DG lv P r nt ops ops s Φ):DG lv P r nt ops ops s Φ:=h rest
theorem aqQ{T V:List (Nat×AV)}{H H':List aa}(hH:H=H')(hv:∀p∈V,∃b,look T p.1=some b/\Wk b p.2):(⟨T,H⟩:AS).Sub ⟨V,H'⟩:=
 ⟨λt a e=>hv (t,a) (ow e),hH⟩
def opsOf:T6->Array Tu
 |.region _ o _=>o
 |.seq a _=>opsOf a
 |_=>#[]
structure Bk (H:List aa)(M:List AV->List AV->List aa)(L:List aa)(B:List AV->List AV->List aa)(N:Nat):Prop where
 f:∀u v,B u v=H++(M u v++L)
 l:∀u v,(B u v).length=N
section
variable {H L:List aa}{M B:List AV->List AV->List aa}{N:Nat}
theorem Bk.n(h:Bk H M L B N)(u v:List AV)(L':List aa)(j:Nat):(B u v++L')[N+j]?=L'[j]?:=by rw[<- h.l u v,ba]
theorem Bk.s(h:Bk H M L B N)(u v:List AV)(L':List aa)(j:Nat)(y:aa):(B u v++L').set (N+j) y=B u v++L'.set j y:=by rw[<- h.l u v,dJ]
theorem Bk.n0(h:Bk H M L B N)(u v:List AV)(L':List aa):(B u v++L')[N]?=L'[0]?:=h.n u v L' 0
theorem Bk.s0(h:Bk H M L B N)(u v:List AV)(L':List aa)(y:aa):(B u v++L').set N y=B u v++L'.set 0 y:=h.s u v L' 0 y
theorem Bk.n1(h:Bk H M L B N)(u v:List AV)(L':List aa):(B u v++L')[N+1]?=L'[1]?:=h.n u v L' 1
theorem Bk.s1(h:Bk H M L B N)(u v:List AV)(L':List aa)(y:aa):(B u v++L').set (N+1) y=B u v++L'.set 1 y:=h.s u v L' 1 y
theorem Bk.g(h:Bk H M L B N){j:Nat}{u v:List AV}(hl:j<(M u v).length){a y:aa}{u' v':List AV}(ha:(M u v)[j]?=some a)(hy:(M u v).set j y=M u' v')(L':List aa):(B u v++L')[H.length+j]?=some a/\(B u v++L').set (H.length+j) y=B u' v'++L':=by
 rw[h.f,h.f,SC,SC,SC,SC,ba,dJ,SX hl,US _ _ hl,hy];exact⟨ha,rfl⟩
theorem Bk.gu(h:Bk H M L B N)(j:Nat)(hl:∀u v,j<(M u v).length)(ha:∀u v,(M u v)[j]?=some (.cells u 76))(hy:∀u v w,(M u v).set j (.cells w 76)=M w v):(∀u v L',(B u v++L')[H.length+j]?=some (.cells u 76))/\(∀u v w L',(B u v++L').set (H.length+j) (.cells w 76)=B w v++L')/\(∀u v,(B u v)[H.length+j]?=some (.cells u 76))/\∀u v w,(B u v).set (H.length+j) (.cells w 76)=B w v:=by
 have k1:=λu v w L'=>h.g (hl u v) (ha u v) (hy u v w) L';have k2:=λu v w=>k1 u v w [];simp only[SN]at k2;exact⟨λu v L'=>(k1 u v u L').1,λu v w L'=>(k1 u v w L').2,λu v=>(k2 u v u).1,λu v w=>(k2 u v w).2⟩
theorem Bk.gv(h:Bk H M L B N)(j:Nat)(hl:∀u v,j<(M u v).length)(ha:∀u v,(M u v)[j]?=some (.cells v 88))(hy:∀u v w,(M u v).set j (.cells w 88)=M u w):(∀u v L',(B u v++L')[H.length+j]?=some (.cells v 88))/\(∀u v w L',(B u v++L').set (H.length+j) (.cells w 88)=B u w++L')/\(∀u v,(B u v)[H.length+j]?=some (.cells v 88))/\∀u v w,(B u v).set (H.length+j) (.cells w 88)=B u w:=by
 have k1:=λu v w L'=>h.g (hl u v) (ha u v) (hy u v w) L';have k2:=λu v w=>k1 u v w [];simp only[SN]at k2;exact⟨λu v L'=>(k1 u v v L').1,λu v w L'=>(k1 u v w L').2,λu v=>(k2 u v v).1,λu v w=>(k2 u v w).2⟩
theorem ah2{x:ak}{p q:Nat}{G:List aa}{k kp:AV->List aa->Prop}(i j:Nat)(M:List AV->List AV->List aa)(u0 v0:List AV)(hG:G=H++M u0 v0)(hx:x.Ok)(ie:x.an=p)(nw:yq x [(q:Int)]=true)(hm:H[0]?=some .main)(h1:(M u0 v0)[i]?=some (.cells [.sl 1 [iv q] .exact] 22))(h2:(M u0 v0)[j]?=some (.cells x.l 26))(hn:∀u v,(M u v).length=(M u0 v0).length)(hk:∀D L mp N B,fF x 1 D->bJ D->(D.l mp).length=28->(∀a∈D.l mp,a.leaf=true)->Bk H M L B N->k (.aN [x.av,.agg (D.l mp),iv (eV D)]) (B u0 v0)):bm true SA 51 G [x.av,iv 1,.fn (.func 80) [] [.op (H.length+i) 0,.op (H.length+j) 0]] k kp:=by
 subst hG;refine zq (x:=x) (b:=yq x [(q:Int)]) hx ie (fH hm) (λL k kp hk=>c9 (Jo (x:=x) (ns:=[(q:Int)]) (e:=.exact) (il:=H.length+i) (ir:=H.length+j) hx (by simp) ?_ ?_ hk)) (λh=>by rw[nw]at h;cases h) λ_ js D L mp iy jq dW sV hg=> ?_
 ·rw[SC,ba];exact fH h1
 ·rw[SC,ba];exact fH h2
 ·have:=hk D L mp (H.length+(M u0 v0).length+L.length) (λu v=>H++(M u v++L)) ⟨p,js,ie,iy,jq,dW⟩ dW (Kn.len dW mp) (uN D mp) ⟨λ_ _=>rfl,λu v=>by rw[S4,S4,hn];omega⟩;rw[SC];exact this
end
def ym (x:ak)(q:Nat)(u v:List AV):Nat->List aa
 |10=>[.cells u 76]
 |11=>[.cells v 88]
 |4=>[.cells x.l 26,.cells [.sl 1 [iv q] .exact] 22]
 |_=>[]
def yl (f:Nat->List aa)(D:List Nat):List Nat->List aa
 |[]=>[]
 |i::l=>(bif isDone i D then f i else[])++yl f D l
def oy (H:List aa)(x:ak)(q:Nat)(u v:List AV)(l:List Nat)(D:List Nat):List aa:=H++(.cells x.l 26::yl (ym x q u v) D l)
def MA (x:ak)(q:Nat)(Bf:List AV->List AV->List aa)(u0 v0 u v:List AV)(t D:List Nat):List aa:=Bf (bif t.contains 10 then u0 else bif isDone 12 D then u else u0) (bif t.contains 11 then v0 else bif isDone 13 D then v else v0)++yl (ym x q (bif isDone 12 D then u else u0) (bif isDone 13 D then v else v0)) D t
theorem lf{P:Prop}{α:Type}(t:List Nat)(M:α)(ix:Nat->Nat)(h:∀t' M' ix',t=t'->M=M'->ix=ix'->P):P:=h t M ix rfl rfl rfl
def qt (x:ak)(q:Nat)(l:List Nat)(u v:List AV):List aa:=.cells x.l 26::l.flatMap (ym x q u v)
theorem ang{H:List aa}{x:ak}{q nt:Nat}{ops:Array Tu}{c:T6}{Ψ:ao->AS->Prop}(ho:nt=27/\ops=opsOf (cs (al'.body.getD .skip))\/nt=29/\ops=opsOf (cs (ZG.body.getD .skip)))(hx:x.Ok)(hq:q<x.pieces.length)(hm:H[0]?=some .main)(rest:∀y:Nat×Nat×Kn×List aa,fF x 1 y.2.2.1/\bJ y.2.2.1/\(∃L,y.2.2.2=H++L)/\y.2.2.2[H.length]?=some (.cells x.l 26)/\y.2.2.2[y.1]?=some (.cells (y.2.2.1.l y.2.1) 88)->ao.then (λs'=>aQ true SA none nt c s' Ψ) Ψ .normal ⟨[(7,.op y.1 0),(8,iv (eV y.2.2.1)),(1,iv q),(2,.op H.length 0)],y.2.2.2⟩):DG true SA none nt ops ops ⟨[(5,iv 0),(4,.sl 0 [] .exact),(2,.op H.length 0),(0,.agg x.l),(1,iv q)],H++[.cells x.l 26]⟩ (ao.then (λs'=>aQ true SA none nt c s' Ψ) Ψ):=by
 rcases ho with⟨rfl,rfl⟩|⟨rfl,rfl⟩
 all_goals
  dsimp only[ZG,al',S7,cs,opsOf];have hp:=hx.an;have lz:=hx.dY;have nw:=abF hq;obtain⟨p,ie⟩:∃p:Nat,x.an=p:=⟨x.an.toNat,by omega⟩;have bM:x.l=[iv x.first,iv x.hours,iv x.an,dC x.seen,aT x.pieces,aT x.aC]:=rfl;have fY:∀(L:List aa)(j:Nat),(H++L)[H.length+j]?=L[j]?:=λL j=>ba H L j;have Ae:∀(L:List aa)(j:Nat)(y:aa),(H++L).set (H.length+j) y=H++L.set j y:=λL j y=>dJ H L j y;have a_:∀(L:List aa),(H++L)[H.length]?=L[0]?:=λL=>ba H L 0;have dw:x.l.length=6:=rfl;have Fc:(1<=2^24)=True:=eq_true (by decide);have gh:TH 6 x.l=x.l:=rfl;obtain⟨u0,hu⟩:∃u0:List AV,u0=[.val (.int .i64 0),.val (.int .i64 0),.val (.int .i64 0),.sl 0 [] .exact,.sl 0 [] .exact,.sl 0 [] .exact]:=⟨_,rfl⟩;obtain⟨v0,hv⟩:∃v0:List AV,v0=[.val (.bool false),.val (.map none),.val (.int .u16 0),.val (.int .u16 0),.val (.int .u16 0),.val (.int .u16 0),.val (.int .u16 0),.val (.int .u16 0),.val (.int .u16 0),.val (.int .u16 0),.val (.int .u16 0),.val (.int .u16 0),.val (.int .u16 0),.val (.int .u16 0),.val (.int .u16 0),.val (.int .u16 0),.val (.int .u16 0),.val (.int .i64 0),.val (.int .i64 0),.val (.int .i64 0),.val (.int .i64 0),.val (.int .i64 0),.val (.int .i64 0),.val (.int .i64 0),.val (.int .i64 0),.val (.int .i64 0),.val (.int .i64 0),.val (.int .i64 0)]:=⟨_,rfl⟩;have Gc:=hu.symm;have rE:=hv.symm;have we:u0.length=6:=by rw[hu];rfl
  have Gn:v0.length=28:=by rw[hv];rfl
  have hy0:TR 6 u0=[]:=by rw[hu];rfl
  have uH:TR 28 v0=[]:=by rw[hv];rfl
  refine qU 5 10 rfl (qU 5 11 rfl (qU 4 10 rfl (qU 4 11 rfl (qU 10 11 rfl (lf [] (qt x q [11,10,4]) (λ_=>H.length+1) λt M ix ht hM jp=>pM 5 [0,1,2,3,11,10,4] [6,7,8,9,12,13,14] [11,10,4] [12,13] (oy H x q u0 v0 [11,10,4]) ?_) (lf [] (qt x q [10,11,4]) (λ_=>H.length+2) λt M ix ht hM jp=>pM 5 [0,1,2,3,10,11,4] [6,7,8,9,12,13,14] [10,11,4] [12,13] (oy H x q u0 v0 [10,11,4]) ?_)) (lf [] (qt x q [10,4,11]) (λ_=>H.length+4) λt M ix ht hM jp=>pM 5 [0,1,2,3,10,4,11] [6,7,8,9,12,13,14] [10,4,11] [12,13] (oy H x q u0 v0 [10,4,11]) ?_)) (qU 4 11 rfl (lf [] (qt x q [11,4,10]) (λ_=>H.length+1) λt M ix ht hM jp=>pM 5 [0,1,2,3,11,4,10] [6,7,8,9,12,13,14] [11,4,10] [12,13] (oy H x q u0 v0 [11,4,10]) ?_) (qU 10 11 rfl (lf [] (qt x q [4,11,10]) (λ_=>H.length+3) λt M ix ht hM jp=>pM 5 [0,1,2,3,4,11,10] [6,7,8,9,12,13,14] [4,11,10] [12,13] (oy H x q u0 v0 [4,11,10]) ?_) (lf [] (qt x q [4,10,11]) (λ_=>H.length+4) λt M ix ht hM jp=>pM 5 [0,1,2,3,4,10,11] [6,7,8,9,12,13,14] [4,10,11] [12,13] (oy H x q u0 v0 [4,10,11]) ?_)))) (qU 4 10 rfl (lf [11] (qt x q [10,4]) (λN=>N) λt M ix ht hM jp=>pM 5 [0,1,2,3,10,4] [6,7,8,9,11,12,13,14] [10,4] [11,12,13] (oy H x q u0 v0 [10,4]) ?_) (lf [11] (qt x q [4,10]) (λN=>N) λt M ix ht hM jp=>pM 5 [0,1,2,3,4,10] [6,7,8,9,11,12,13,14] [4,10] [11,12,13] (oy H x q u0 v0 [4,10]) ?_))) (qU 5 11 rfl (qU 4 11 rfl (lf [10] (qt x q [11,4]) (λ_=>H.length+1) λt M ix ht hM jp=>pM 5 [0,1,2,3,11,4] [6,7,8,9,10,12,13,14] [11,4] [10,12,13] (oy H x q u0 v0 [11,4]) ?_) (lf [10] (qt x q [4,11]) (λ_=>H.length+3) λt M ix ht hM jp=>pM 5 [0,1,2,3,4,11] [6,7,8,9,10,12,13,14] [4,11] [10,12,13] (oy H x q u0 v0 [4,11]) ?_)) (qU 10 11 rfl (lf [11,10] (qt x q [4]) (λN=>N) λt M ix ht hM jp=>pM 5 [0,1,2,3,4] [6,7,8,9,11,10,12,13,14] [4] [11,10,12,13] (oy H x q u0 v0 [4]) ?_) (lf [10,11] (qt x q [4]) (λN=>N+1) λt M ix ht hM jp=>pM 5 [0,1,2,3,4] [6,7,8,9,10,11,12,13,14] [4] [10,11,12,13] (oy H x q u0 v0 [4]) ?_)))
  all_goals
   (try simp only[seval,oy,yl,ym,z1,gh,Fc,and_self,a_,Gc,rE,dw,S4,SC]);refine nX _ _ (c9 (Jk (x:=x) (ns:=[(q:Int)]) ⟨rfl,rfl⟩)) ?_;(try simp only[seval,oy,yl,ym,a_,Gc,rE,dw,S4,SC,U0]);refine aL ((ah2 _ _ M u0 v0 (by subst hM;rfl) hx ie nw hm (by subst hM;rfl) (by subst hM;rfl) (by subst hM;exactλ_ _=>rfl) λD L mp N Bf n5 dW fg jZ hB=> ?_));subst hM
   first
    |obtain⟨zr,AG,zt,AH⟩:=hB.gu 1 (λ_ _=>of_decide_eq_true rfl) (λ_ _=>rfl) λ_ _ _=>rfl
    |obtain⟨zr,AG,zt,AH⟩:=hB.gu 2 (λ_ _=>of_decide_eq_true rfl) (λ_ _=>rfl) λ_ _ _=>rfl
    |obtain⟨zr,AG,zt,AH⟩:=hB.gu 3 (λ_ _=>of_decide_eq_true rfl) (λ_ _=>rfl) λ_ _ _=>rfl
    |obtain⟨zr,AG,zt,AH⟩:=hB.gu 4 (λ_ _=>of_decide_eq_true rfl) (λ_ _=>rfl) λ_ _ _=>rfl
    |obtain⟨zr,AG,zt,AH⟩:=And.intro hB.l (And.intro hB.l (And.intro hB.l hB.l))
   first
    |obtain⟨zu,AI,zv,AJ⟩:=hB.gv 1 (λ_ _=>of_decide_eq_true rfl) (λ_ _=>rfl) λ_ _ _=>rfl
    |obtain⟨zu,AI,zv,AJ⟩:=hB.gv 2 (λ_ _=>of_decide_eq_true rfl) (λ_ _=>rfl) λ_ _ _=>rfl
    |obtain⟨zu,AI,zv,AJ⟩:=hB.gv 3 (λ_ _=>of_decide_eq_true rfl) (λ_ _=>rfl) λ_ _ _=>rfl
    |obtain⟨zu,AI,zv,AJ⟩:=hB.gv 4 (λ_ _=>of_decide_eq_true rfl) (λ_ _=>rfl) λ_ _ _=>rfl
    |obtain⟨zu,AI,zv,AJ⟩:=And.intro hB.l (And.intro hB.l (And.intro hB.l hB.l))
   have hR:=λG a b c=>rest (ix N,mp,D,G) ⟨n5,dW,a,b,c⟩;refine⟨λDD=>MA x q Bf u0 v0 x.l (D.l mp) t DD,by subst ht;simp only[seval,MA,yl,ym];first|done|rfl,?_⟩;subst ht jp;(try simp only[seval,MA,Xz,List.contains_cons,yl,ym,Gc,rE,hB.l,hB.n0,hB.s0,hB.n1,hB.s1,dw,fg,we,Gn,hy0,uH,ak.av,zr,AG,zt,AH,zu,AI,zv,AJ]);refine⟨tC x,jZ,?_⟩;exact pJ (aqQ rfl (by simp only[seval];simp[bC,Wk.refl])) (hR _ ⟨_,by rw[hB.f]<;>first|rfl|rw[SC]⟩ (by rw[hB.f];first|exact ba H _ 0|(rw[SC];exact ba H _ 0)) (by simp only[seval,Gc,rE,hB.l,hB.n0,hB.s0,hB.n1,hB.s1,dw,fg,we,Gn,hy0,uH,ak.av,zr,AG,zt,AH,zu,AI,zv,AJ]))
section
variable {lv:Bool}{H:List aa}{k kp:AV->List aa->Prop}
theorem ahW{x:ak}{q:Nat}(hx:x.Ok)(hq:q<x.pieces.length)(hm:H[0]?=some .main)(hk:∀D,fF x 1 D->(D.has=false->k (.aN [bu [],iv 11]) H)/\(D.has=true->k (.aN [bu (fA (D.aB.getD q 0) x.first 16),iv 0]) H)):bm true SA 34 H [x.av,iv q] k kp:=by
 refine bG (rs:=[.tmp 4,.tmp 5]) (nt:=29) ZG λhH hA=> ?_;simp only[br,SW,ak.av];have hp:=hx.an;have lz:=hx.dY;have bM:x.l=[iv x.first,iv x.hours,iv x.an,dC x.seen,aT x.pieces,aT x.aC]:=rfl;have a_:∀(L:List aa),(H++L)[H.length]?=L[0]?:=λL=>ba H L 0;have dw:x.l.length=6:=rfl;refine am ?_;(repeat apply iF);refine afh [4,10,11,12,13] [0,1,2,3,4,5,6,7,8,9,10,11,12,13,14] F.mixed (by kernel_rfl) ?_;refine agA (α:=Nat×Nat×Kn×List aa) (ok:=λy=>fF x 1 y.2.2.1/\bJ y.2.2.1/\(∃L,y.2.2.2=H++L)/\y.2.2.2[H.length]?=some (.cells x.l 26)/\y.2.2.2[y.1]?=some (.cells (y.2.2.1.l y.2.1) 88)) (λy=>⟨[(7,.op y.1 0),(8,iv (eV y.2.2.1)),(1,iv q),(2,.op H.length 0)],y.2.2.2⟩) (λy hy=> ?_) (λrest=> ?_)
 ·obtain⟨i,mp,D,G⟩:=y;obtain⟨n5,dW,⟨L0,hG⟩,QK,QJ⟩:=hy;dsimp only at hG QK QJ;obtain⟨iz,cD⟩:=hk D n5;have fy:∀(ns:List Int)(e:End)(m:Int),k (.aN [bu ns,iv m]) H->cC H.length G (.aN [.sl ns.length (ns.map iv) e,iv m]) k:=λns e m h=>by
   rw[hG];exact jm hH (HM (gV _ _ _) (Wk.refl _)) (by simp[jx,eC,bu,uT]) h
  (try simp only[seval]);cases iK:D.has with
  |false=>
   have hE:eV D=11:=(by rw[eV,iK];rfl);refine aj ?_;simp only[seval,hE,show ((11:Int)!=0)=true from rfl];refine aF ?_;refine am ?_;refine bi ?_;exact fy [] .exact 11 (iz iK)
  |true=>
   have hE:eV D=0:=(by rw[eV,iK];rfl);have cD:=cD iK;obtain⟨u,hu⟩:=cj (xs:=D.aB) (i:=q) (by rw[dW.aB];omega);have lu:=dW.mc _ (Tc hu);have lG:D.aB.getD q 0=u:=(by rw[SE,hu];rfl);rw[lG]at cD;have b3:(0<=(q:Int)/\(q:Int)<4)=True:=(by simp;omega);have Cp:=Kn.GU (mp:=mp) hu;have jo:=hx.first;refine aj ?_;simp only[seval,hE,show ((0:Int)!=0)=false from rfl];refine aF ?_;refine aO ?_;refine eM 6 ?_;simp only[seval,QK,QJ,b3,Cp,bM];refine aL ((Jj lu (by omega) ?_));(try simp only[seval]);refine bi ?_;exact fy _ _ 0 cD
 ·exact ang (.inr ⟨rfl,rfl⟩) hx hq hm rest
end
theorem alO{x:ak}{deep:Int}{D:Kn}(hx:x.Ok)(h:fF x deep D)(hh:D.has=true):jj x D.first:=by
 obtain⟨p,js,h1,h2,h3,_⟩:=h;have hp:=hx.an;have hj:∀j∈js,j<x.an.toNat+1:=λj hj=>by have:=TP.1 (h2.mem_iff.1 hj);omega
 obtain⟨j,a,t,l,b,c,d⟩:=aar hx h3 (h2.nodup_iff.2 XW) hj hh;rw[c];exact QA (deep:=deep) (j:=j) hx (by have:=hj j a;omega) (by rw[b];simp)
namespace Tk
def sE (x:ak)(t:List Int)(i:Nat):List Int:=(SV i).map λp=>t.getD (4+p) 0+x.first
def sF (t:List Int)(i:Nat):List Int:=(SV i).map λs=>t.getD (8+s) 0
theorem air(x:ak)(t:List Int)(i:Nat):sE x t (i+1)=sE x t i++[t.getD (4+i) 0+x.first]:=by
 unfold sE;rw[Vk,TE];rfl
theorem ait(t:List Int)(i:Nat):sF t (i+1)=sF t i++[t.getD (8+i) 0]:=by
 unfold sF;rw[Vk,TE];rfl
theorem aiq(x:ak)(t:List Int)(i:Nat):(sE x t i).length=i:=by simp[sE]
theorem ais(t:List Int)(i:Nat):(sF t i).length=i:=by simp[sF]
end Tk
theorem ads{a a' b b' c c' d d':AV}(h1:Wk a a')(h2:Wk b b')(h3:Wk c c')(h4:Wk d d'):Wk (.aN [a,b,c,d]) (.aN [a',b',c',d']):=λE v h=>by
 cases h with
 |aN hs h=>
  refine .aN hs λi x e=> ?_
  match i with
  |0=>cases e;exact h1 _ _ (h 0 a rfl)
  |1=>cases e;exact h2 _ _ (h 1 b rfl)
  |2=>cases e;exact h3 _ _ (h 2 c rfl)
  |3=>cases e;exact h4 _ _ (h 3 d rfl)
section
variable {lv:Bool}{H:List aa}{k kp:AV->List aa->Prop}
theorem ahK{x:ak}(hx:x.Ok)(hm:H[0]?=some .main)(hk:∀D,fF x 0 D->(D.has=false->k (.aN [bu [],bu [],bu [],iv 11]) H)/\(D.has=true->k (.aN [bu (D.first.take (x.hours.toNat+1)),bu (sE x D.first x.pieces.length),bu (sF D.first x.aC.length),iv 0]) H)):bm true SA 18 H [x.av] k kp:=by
 refine bG (rs:=[.tmp 2,.tmp 3,.tmp 4,.tmp 5]) (nt:=64) Tryz.f18 λhH hA=> ?_;simp only[br,SW,ak.av];have hp:=hx.an;have hh:=hx.hours;have lz:=hx.dY;have aR:=hx.di;have jo:=hx.first;obtain⟨p,ie⟩:∃p:Nat,x.an=p:=⟨x.an.toNat,by omega⟩;have bM:x.l=[iv x.first,iv x.hours,iv x.an,dC x.seen,aT x.pieces,aT x.aC]:=rfl;have a_:∀(L:List aa),(H++L)[H.length]?=L[0]?:=λL=>ba H L 0;have dw:x.l.length=6:=rfl;have gh:TH 6 x.l=x.l:=rfl;refine am ?_;refine aj ?_;simp only[seval,a_,dw,gh];refine aL ((zq (x:=x) hx ie (fH hm) Iu (λh=>by cases h) λ_ js D L mp iy jq dW sV hg=> ?_));have n5:fF x 0 D:=⟨p,js,ie,iy,jq,dW⟩;have fg:=Kn.len dW mp;have jZ:=uN D mp;obtain⟨iz,cD⟩:=hk D n5;obtain⟨Y,hY⟩:∃Y:List aa,Y=[aa.cells x.l 26]++L:=⟨_,rfl⟩;obtain⟨B,hB⟩:∃B,B=H++Y:=⟨_,rfl⟩;have sH:H++[aa.cells x.l 26]++L=B:=by rw[hB,hY,SC]
 have zJ:∀(L':List aa),(B++L')[H.length]?=some (.cells x.l 26):=λL'=>by rw[hB,hY,SC,a_];rfl
 have bn:∀(L':List aa)(j:Nat),(B++L')[B.length+j]?=L'[j]?:=λL' j=>ba B L' j;have vz:∀(L':List aa)(j:Nat)(y:aa),(B++L').set (B.length+j) y=B++L'.set j y:=λL' j y=>dJ B L' j y;have fy:∀(L':List aa)(l1 l2 l3:List Int)(e e' PH:End)(m:Int),k (.aN [bu l1,bu l2,bu l3,iv m]) H->cC H.length (B++L') (.aN [.sl l1.length (l1.map iv) e,.sl l2.length (l2.map iv) e',.sl l3.length (l3.map iv) PH,iv m]) k:=λL' l1 l2 l3 e e' PH m h=>by
  rw[hB,SC];exact jm hH (ads (gV _ _ _) (gV _ _ _) (gV _ _ _) (Wk.refl _)) (by simp[jx,eC,bu,uT]) h
 rw[sH];clear sH hg;(try simp only[seval,ak.av,dw,fg]);refine⟨tC x,jZ,?_⟩;cases iK:D.has with
 |false=>
  have hE:eV D=11:=by rw[eV,iK];rfl
  refine aj ?_;simp only[seval,hE,show ((11:Int)!=0)=true from rfl];refine aF ?_;refine am ?_;refine bi ?_;exact fy _ [] [] [] .exact .exact .exact 11 (iz iK)
 |true=>
  have hE:eV D=0:=by rw[eV,iK];rfl
  have cD:=cD iK;have qk:=alO hx n5 iK;obtain⟨t,ht⟩:∃t,t=D.first:=⟨_,rfl⟩;rw[<- ht]at qk cD;have qj:=qk.len;obtain⟨pre,RJ,Kf⟩:∃pre:List AV,pre.length=17/\D.l mp=pre++(t.map iv++[]):=⟨bv D.has:: .mp mp::(D.aB.map (λn=>wv n)++(D.hours.map (λn=>wv n)++(D.less.map (λn=>wv n)++D.aV.map (λn=>wv n)))),by simp[dW.aB,dW.hours,dW.less,dW.aV],by rw[ht];simp[Kn.l]⟩;obtain⟨n,hn⟩:∃n:Nat,x.hours=n:=⟨x.hours.toNat,by omega⟩;have o4:x.hours+1=((n+1:Nat):Int):=by omega
  have bP:SD.wrap (x.hours+1)=((n+1:Nat):Int):=by rw[bB _ (by omega)];exact o4
  have bY:TR 1 x.l=[iv x.hours,iv x.an,dC x.seen,aT x.pieces,aT x.aC]:=rfl;have FC:TR 4 x.l=[.sl x.pieces.length (x.pieces.flatMap aD.l) .shut,.sl x.aC.length (x.aC.flatMap aD.l) .shut]:=rfl;have un:TR 5 x.l=[.sl x.aC.length (x.aC.flatMap aD.l) .shut]:=rfl;refine aj ?_;simp only[seval,hE,show ((0:Int)!=0)=false from rfl];refine aF ?_;refine aO ?_;have BH:∀(L':List aa),(B++L')[B.length+1]?=L'[1]?:=λL'=>bn L' 1;have y_:∀(L':List aa),(B++L')[B.length+2]?=L'[2]?:=λL'=>bn L' 2;have tX:∀(L':List aa)(y:aa),(B++L').set (B.length+2) y=B++L'.set 2 y:=λL' y=>vz L' 2 y;have bn3:∀(L':List aa),(B++L')[B.length+3]?=L'[3]?:=λL'=>bn L' 3;have bs3:∀(L':List aa)(y:aa),(B++L').set (B.length+3) y=B++L'.set 3 y:=λL' y=>vz L' 3 y;have bn4:∀(L':List aa),(B++L')[B.length+4]?=L'[4]?:=λL'=>bn L' 4;have bs4:∀(L':List aa)(y:aa),(B++L').set (B.length+4) y=B++L'.set 4 y:=λL' y=>vz L' 4 y;refine aj ?_;simp only[seval,zJ,bY,bP,adB];refine⟨by omega,by omega,?_⟩;have vT:(D.l mp).drop 17=t.map iv:=by rw[Kf,SN,Wn (by omega),WU (by omega),Uy]
  have alj:((n:Int)+1).toNat=n+1:=by omega
  have ru:min 4 (n+1)=n+1:=by omega
  have Cx:min 4 11=4:=rfl;have R4:min (n+1) 4=n+1:=by omega
  have aX:TH (n+1) (TH 4 (U8 iv t))++TR (n+1) (U8 iv (TF (n+1) 0))=(t.take (n+1)).map iv:=by rw[U3,R4,WU (by simp),SN,VU]
  refine aj ?_;simp only[seval,vT,alj,ru,Cx,qj,R4,T4,YG,BH,y_,tX];refine⟨by rw[<- VU];exact of_eq_true (aaD _),?_⟩;rw[aX];obtain⟨tl,Ly⟩:∃tl,tl=t.take (n+1):=⟨_,rfl⟩;have aad:tl.length=n+1:=by rw[Ly,T4];omega
  have FT:x.hours.toNat=n:=by omega
  rw[FT,<- Ly]at cD;rw[<- Ly]
  (repeat apply iF);refine Iw (id:=B.length+2) (by simp only[seval,y_]<;>rfl) ?_
  simp only[seval,tX,aad]
  (repeat apply iF);refine OS (t:=2) (y:=bu tl) (by simp only[seval]<;>rfl) ?_ ?_
  ·have e:bu tl=.sl (n+1) ((tl.map iv).take (n+1)) .shut:=by
    rw[SP (by simp;omega),bu,aad]
   rw[e];exact HL (p:=n+1) (by simp only[seval,y_]<;>rfl) (by omega) (by simp;omega)
  (repeat apply iF);refine vt (t:=3) (sz:=1) (el:=3) (by simp only[seval]<;>rfl) ?_
  refine aj ?_;simp only[seval,zJ,FC];obtain⟨gl,kj⟩:∃gl:Nat->List Int,∀i,gl i=sE x t i:=⟨_,λ_=>rfl⟩;have Cr:gl 0=[]:=by rw[kj];rfl
  have KD:∀i,(gl i).length=i:=λi=>by rw[kj];exact aiq _ _ _
  refine cP ?_;refine iu x.pieces.length (λi:Nat=>[(3,.sl (gl i).length ((gl i).map iv) (.opn (B.length+3))),(31,iv i)]) (λi=>B++[.cells x.l 76,.cells (D.l mp) 88,.part (n+1) (tl.map iv) 3,.tail (gl i).length 1 3]) (λi=>True) (λ_ _=>rfl) (by rw[Cr];simp only[seval];simp[bC,Wk.refl]) (by rw[Cr];rfl) (λ_ _ _=>by simp) trivial (λcq dG i cR _ R hR=> ?_);refine am ?_;refine aF ?_;refine⟨λh=> ?_,λh=> ?_⟩
  ·have bF:i<x.pieces.length:=(by omega);obtain⟨v,hv,hv9,_⟩:=qk.num i bF;have Ct:t.getD (4+i) 0=v:=(by rw[SE,hv];rfl);have b3:(0<=(i:Int)/\(i:Int)<4)=True:=(by simp;omega);have fJ:SD.wrap ((i:Int)+1)=((i+1:Nat):Int):=(by rw[bB _ (by omega)];rfl);have CU:SD.wrap ((v:Int)+x.first)=v+x.first:=bB _ (by omega);have Ko:(D.l mp).drop (21+i)=iv v::((t.drop (4+i+1)).map iv++[]):=by
    have:=EM Kf RJ hv;rw[show 21+i=17+(4+i) by omega];exact this
   have c_:gl (i+1)=gl i++[(v:Int)+x.first]:=(by rw[kj,kj,air,Ct]);have RN:=KD i;refine aO ?_;refine am ?_;refine eM 10 ?_;simp only[seval,z1,zJ,BH,b3,Ko,CU,bM,bn3,bs3]
   first|refine⟨by decide,by omega,?_⟩|refine⟨by omega,?_⟩
   refine aj ?_;simp only[seval,fJ];refine hR _ ⟨bF,trivial,?_⟩;rw[c_,TE,S4];exact dF
  ·have du:i=x.pieces.length:=(by omega);subst du;clear hR;refine cp ?_
   (repeat apply iF);refine vt (t:=4) (sz:=1) (el:=3) (by simp only[seval]<;>rfl) ?_
   have Gl:(gl x.pieces.length)=sE x t x.pieces.length:=kj _;generalize gl x.pieces.length=nl at Gl⊢;refine aj ?_;simp only[seval,zJ,un];obtain⟨go,hgo⟩:∃go:Nat->List Int,∀i,go i=sF t i:=⟨_,λ_=>rfl⟩;have Rr:go 0=[]:=(by rw[hgo];rfl);have aka:∀i,(go i).length=i:=λi=>(by rw[hgo];exact ais _ _);refine cP ?_;refine iu x.aC.length (λi:Nat=>[(4,.sl (go i).length ((go i).map iv) (.opn (B.length+4))),(49,iv i)]) (λi=>B++[.cells x.l 76,.cells (D.l mp) 88,.part (n+1) (tl.map iv) 3,.tail nl.length 1 3,.tail (go i).length 1 3]) (λi=>True) (λ_ _=>rfl) (by rw[Rr];simp only[seval];simp[bC,Wk.refl]) (by rw[Rr];rfl) (λ_ _ _=>by simp) trivial (λcq dG i cR _ R hR=> ?_);refine am ?_;refine aF ?_;refine⟨λh=> ?_,λh=> ?_⟩
   ·have bF:i<x.aC.length:=(by omega);obtain⟨v,hv,hv9⟩:=qk.own i bF;have Ct:t.getD (8+i) 0=v:=(by rw[SE,hv];rfl);have b3:(0<=(i:Int)/\(i:Int)<3)=True:=(by simp;omega);have fJ:SD.wrap ((i:Int)+1)=((i+1:Nat):Int):=(by rw[bB _ (by omega)];rfl);have Ko:(D.l mp).drop (25+i)=iv v::((t.drop (8+i+1)).map iv++[]):=by
     have:=EM Kf RJ hv;rw[show 25+i=17+(8+i) by omega];exact this
    have c_:go (i+1)=go i++[(v:Int)]:=(by rw[hgo,hgo,ait,Ct]);have RN:=aka i;refine aO ?_;refine am ?_;refine aj ?_;simp only[seval,z1,BH,b3,Ko,bn4,bs4]
    first|refine⟨by decide,by omega,?_⟩|refine⟨by omega,?_⟩
    refine aj ?_;simp only[seval,fJ];refine hR _ ⟨bF,trivial,?_⟩;rw[c_,TE,S4];exact dF
   ·have du:i=x.aC.length:=(by omega);subst du;clear hR;refine cp ?_;have hxo:(go x.aC.length)=sF t x.aC.length:=hgo _;generalize go x.aC.length=ol at hxo⊢;refine am ?_;refine bi ?_;rw[<- Gl,<- hxo]at cD;exact fy _ tl nl ol .shut _ _ 0 cD
end
open Go.Conc Go.Proofs Go.Gg.Tk
namespace Tk
def aa2 (n:Int)(o k:Int):Int:=yf [o,max (k-n) (n-k)]
def Df (l:List Int)(n:Int)(o:Int):Int:=l.foldl (aa2 n) o
def qR (own q:Nat)(m:Int×Nat)(t:List Int):Int×Nat:=if m.2.testBit (mh t q)then m else(Df (fA own 0 16) (mh t q) m.1,m.2|||2^mh t q)
def vn (x:ak)(y:aD)(q:Nat)(o:Int)(h:List Int):Int:=if bU h y=0 then o else((jf x 1 h).foldl (qR (bU h y) q) (o,0)).1
def yZ (x:ak)(y:aD)(q:Nat):Nat->Int
 |0=> -1
 |i+1=>(kq x i).foldl (vn x y q) (yZ x y q i)
def Iq (x:ak)(i:Nat):List aa:=[.cells x.l 76,.cells [iv i] 3,.obj (.deferred (some [])),.gone]
def oN (x:ak):Nat->List aa
 |0=>[]
 |i+1=>oN x i++Iq x i
def w5 (n:Nat):Nat->List Nat
 |0=>[]
 |i+1=>(n+4* i+2)::w5 n i
theorem Ir(x:ak):∀i,(oN x i).length=4* i
 |0=>rfl
 |i+1=>by rw[oN,S4,Ir x i];rfl
theorem Ot(x:ak)(B:List aa):∀(i:Nat)(L:List aa),∃Y,iG (w5 B.length i) (B++oN x i++L)=some (B++Y)
 |0,L=>⟨oN x 0++L,by rw[w5,zy,SC]⟩
 |i+1,L=>by
  have hl:(B++oN x i).length=B.length+4* i:=by rw[S4,Ir]
  have e:B++oN x (i+1)++L=(B++oN x i)++(Iq x i++L):=by rw[oN];simp
  have hg:((B++oN x i)++(Iq x i++L))[B.length+4* i+2]?=some (.obj (.deferred (some []))):=by rw[<- hl,ba];rfl
  obtain⟨Y,hY⟩:=Ot x B i ([.cells x.l 76,.cells [iv i] 3,.gone,.gone]++L);refine⟨Y,?_⟩;rw[w5,e,zx hg,<- hl,dJ];exact hY
end Tk
theorem afx{lv:Bool}{P:SI}{nt:Nat}{c:T6}{s:AS}{ms:List Nat}{Φ:ao->AS->List Nat->Prop}(h:j7 lv P nt [] c s ms Φ):ml lv P nt c s ms Φ:=λE V a Q ai hd hQ=>
 h E V a Q ai ⟨by rw[SN];exact hd.1,hd.2⟩ λae e E' V' a' s' cy hk aU cu he hΦ=>hQ ae e E' V' a' s' cy hk aU ⟨by have:=cu.1;rwa [SN]at this,cu.2⟩ he hΦ
section
variable {lv:Bool}{H:List aa}{k kp:AV->List aa->Prop}
theorem ahU{x:ak}{s q:Nat}{y:aD}(hx:x.Ok)(hs:x.aC[s]?=some y)(hq:q<x.pieces.length)(hk:∀o:Int,o=yZ (x.wo [(s:Int)]) y q (x.an.toNat+1)->k (.aN [iv (if o<0 then 0 else o),iv (if o<0 then 11 else 0)]) H):bm lv SA 31 H [x.av,iv s,iv q] k kp:=by
 refine Qg (rs:=[.tmp 6,.tmp 7]) (nt:=97) F.f31 rfl rfl rfl (by simp) λhH hA=> ?_;simp only[br,SW,ak.av];have hp:=hx.an;have aR:=hx.di;have lz:=hx.dY;have cG:=eI hs;have nw:=abF hq;obtain⟨p,ie⟩:∃p:Nat,x.an=p:=⟨x.an.toNat,by omega⟩;obtain⟨w,hw⟩:∃w,w=x.wo [(s:Int)]:=⟨_,rfl⟩;have LF:w.Ok:=by rw[hw];exact hx.wo _
 have bM:x.l=[iv x.first,iv x.hours,iv x.an,dC x.seen,aT x.pieces,aT x.aC]:=rfl;have fY:∀(L:List aa)(j:Nat),(H++L)[H.length+j]?=L[j]?:=λL j=>ba H L j;have Ae:∀(L:List aa)(j:Nat)(y:aa),(H++L).set (H.length+j) y=H++L.set j y:=λL j y=>dJ H L j y;have a_:∀(L:List aa),(H++L)[H.length]?=L[0]?:=λL=>ba H L 0;have bY:∀(L:List aa),(H++L)[H.length+1]?=L[1]?:=λL=>ba H L 1;have jV:∀(L:List aa),(H++L)[H.length+2]?=L[2]?:=λL=>ba H L 2;have un:∀(L:List aa),(H++L)[H.length+5]?=L[5]?:=λL=>ba H L 5;have Lj:∀(L:List aa)(y:aa),(H++L).set (H.length+5) y=H++L.set 5 y:=λL y=>dJ H L 5 y;have hd6:∀(L:List aa),(H++L)[H.length+6]?=L[6]?:=λL=>ba H L 6;have hs6:∀(L:List aa)(y:aa),(H++L).set (H.length+6) y=H++L.set 6 y:=λL y=>dJ H L 6 y;have dw:x.l.length=6:=rfl;have gh:TH 6 x.l=x.l:=rfl;have Rk:TR 5 x.l=[.sl x.aC.length (x.aC.flatMap aD.l) .shut]:=rfl;have Co:TR 2 x.l=[iv x.an,dC x.seen,aT x.pieces,aT x.aC]:=rfl;have Fc:(1<=2^24)=True:=eq_true (by decide);(try refine mV ?_);refine am ?_;(try refine mV ?_);refine aj ?_;simp only[seval,a_,dw,gh];refine aL ((Jl (x:=x) hx ?_));(try simp only[seval]);(try refine mV ?_);refine aj ?_;simp only[seval,show ((0:Int)!=0)=false from rfl];(try refine mV ?_);refine aF ?_;refine aO ?_;(try refine mV ?_);refine aj ?_;simp only[seval,z1,Fc,a_,jV,dw,gh];refine aL ((Jk (x:=x) (ns:=[(q:Int)]) ?_));have bP:SD.wrap ((x.aC.length:Int)-1)=(x.aC.length:Int)-1:=bB _ (by omega);have ho1:(decide ((s:Int)<0)||decide ((s:Int)>(x.aC.length:Int)-1))=false:=by simp;omega
 (try simp only[seval]);refine aL ((Jo (x:=x) (ns:=[(q:Int)]) (e:=.exact) (il:=H.length+4) (ir:=H.length+3) hx (by simp) (by rw[fY];rfl) (by rw[fY];rfl) ?_));rw[nw];(try simp only[seval,a_,bY,Rk,bP]);refine aL ((sD (n:=s) (lo:=0) (hi:=(x.aC.length:Int)-1) ?_));rw[ho1];(try simp only[seval]);(try refine mV ?_);refine aF ?_;refine aO ?_;(try refine mV ?_);have ajv:tK [(s:Int)] x.aC.length:=λi n hn=>by
  match i,hn with
  |0,hn=>cases hn;simp;omega
 refine aj ?_;simp only[seval,z1,Fc,a_,bY,dw,gh];refine aL ((P2 (x:=x) (ns:=[(s:Int)]) aR ajv ?_));rw[<- hw];have rG:w.l.length=6:=rfl;have uG:TH 6 w.l=w.l:=rfl;have RQ:w.l=[iv w.first,iv w.hours,iv w.an,dC w.seen,aT w.pieces,aT w.aC]:=rfl;have CY:TR 6 [AV.val (SF SD 0),AV.val (SF SD 0),AV.val (SF SD 0),AV.sl 0 [] .exact,AV.sl 0 [] .exact,AV.sl 0 [] .exact]=[]:=rfl;(try simp only[seval,ak.av,rG,uG,un,Lj,hd6,hs6,CY]);refine⟨tC w,?_⟩;have gF:SD.wrap (x.an+1)=((p+1:Nat):Int):=by rw[ie,bB _ (by omega)];rfl
 refine Iz ?_;refine mV ?_;refine aj ?_;simp only[seval,a_,Co,gF];obtain⟨Bo,qZ⟩:∃Bo:Int->List aa,∀o,Bo o=H++[.cells x.l 26,.cells [iv s] 3,.cells [iv q] 3,.cells x.l 26,.cells [.sl 1 [iv q] .exact] 22,.cells w.l 76,.cells [iv o] 3]:=⟨_,λ_=>rfl⟩;have fI:∀o,(Bo o).length=H.length+7:=λo=>by rw[qZ];simp
 have b0:∀o L,(Bo o++L)[H.length]?=some (.cells x.l 26):=λo L=>by rw[qZ,SC,a_];rfl
 have b1:∀o L,(Bo o++L)[H.length+1]?=some (.cells [iv s] 3):=λo L=>by rw[qZ,SC,fY];rfl
 have b2:∀o L,(Bo o++L)[H.length+2]?=some (.cells [iv q] 3):=λo L=>by rw[qZ,SC,fY];rfl
 have b5:∀o L,(Bo o++L)[H.length+5]?=some (.cells w.l 76):=λo L=>by rw[qZ,SC,fY];rfl
 have b6:∀o L,(Bo o++L)[H.length+6]?=some (.cells [iv o] 3):=λo L=>by rw[qZ,SC,fY];rfl
 have s6:∀o o' L,(Bo o++L).set (H.length+6) (.cells [iv o'] 3)=Bo o'++L:=λo o' L=>by rw[qZ,qZ,SC,SC,Ae];rfl
 obtain⟨fo,vW⟩:∃fo:Nat->Int,∀i,fo i=yZ w y q i:=⟨_,λ_=>rfl⟩;refine afx ?_;refine w8 ?_;refine OU (measure λi=>p+1-i).wf (λi:Nat=>⟨[(45,iv i),(44,iv ((p+1:Nat):Int)),(3,.op H.length 0),(4,.op (H.length+1) 0),(5,.op (H.length+2) 0),(9,.op (H.length+5) 0),(10,.op (H.length+6) 0)],Bo (fo i)++oN w i⟩) (λi=>w5 (H.length+7) i) (λi=>i<=p+1) 0 (eo (by simp only[seval];simp[bC,Wk.refl]) (by rw[qZ,vW];show _=_++[];rw[SN];rfl)) rfl (by omega) λi oi=> ?_;obtain⟨N,hN⟩:∃N,N=H.length+7+4* i:=⟨_,rfl⟩;obtain⟨AO,pO⟩:∃AO:Int->List aa,∀o,AO o=Bo o++oN w i:=⟨_,λ_=>rfl⟩;have pP:∀o,(AO o).length=N:=λo=>by rw[pO,S4,fI,Ir,hN]
 have a0:∀o L,(AO o++L)[H.length]?=some (.cells x.l 26):=λo L=>by rw[pO,SC];exact b0 _ _
 have a1:∀o L,(AO o++L)[H.length+1]?=some (.cells [iv s] 3):=λo L=>by rw[pO,SC];exact b1 _ _
 have a2:∀o L,(AO o++L)[H.length+2]?=some (.cells [iv q] 3):=λo L=>by rw[pO,SC];exact b2 _ _
 have a5:∀o L,(AO o++L)[H.length+5]?=some (.cells w.l 76):=λo L=>by rw[pO,SC];exact b5 _ _
 have a50:∀o,(AO o)[H.length+5]?=some (.cells w.l 76):=λo=>by have:=a5 o [];rwa [SN]at this
 have a6:∀o L,(AO o++L)[H.length+6]?=some (.cells [iv o] 3):=λo L=>by rw[pO,SC];exact b6 _ _
 have as6:∀o o' L,(AO o++L).set (H.length+6) (.cells [iv o'] 3)=AO o'++L:=λo o' L=>by rw[pO,pO,SC,SC];exact s6 _ _ _
 have ag:∀o (L:List aa)(j:Nat),(AO o++L)[N+j]?=L[j]?:=λo L j=>by rw[<- pP o,ba]
 have tU:∀o (L:List aa)(j:Nat)(y:aa),(AO o++L).set (N+j) y=AO o++L.set j y:=λo L j y=>by rw[<- pP o,dJ]
 have MF:∀m o o',(∀z∈AO o,eK m z)->∀z∈AO o',eK m z:=λm o o' hz z eT=>by
  rw[pO,qZ]at hz eT;simp only[SS]at eT;rcases eT with(h'|h')|h'
  ·exact hz z (by simp[h'])
  ·simp only[SK,SZ,or_false]at h';rcases h' with rfl|rfl|rfl|rfl|rfl|rfl|rfl
   ·exact hz _ (by simp)
   ·exact hz _ (by simp)
   ·exact hz _ (by simp)
   ·exact hz _ (by simp)
   ·exact hz _ (by simp)
   ·exact hz _ (by simp)
   ·intro a ha;rw[S8]at ha;subst ha;exact .val _
  ·exact hz z (by simp[h'])
 have okX:∀(X:List aa) o o',bH (AO o++X)->bH (AO o'++X):=λX o o' hX z hz=>by
  have hlen:(AO o'++X).length=(AO o++X).length:=by simp[pP]
  rw[hlen];rcases SS.1 hz with h'|h'
  ·exact MF _ o o' (λz hz=>hX z (Tf _ hz)) z h'
  ·exact hX z (S0 _ h')
 rw[<- pO];refine su ?_;refine am ?_;refine su ?_;refine aF ?_;refine⟨λhc=> ?_,λhc=> ?_⟩
 ·have pZ:i<=3:=by omega
  have JM:=DT LF i pZ;refine aO ?_;refine Ez ?_;refine w8 ?_;refine su ?_;refine am ?_;refine su ?_;refine aj ?_;simp only[seval,a50,RQ];refine aL ((Jm (x:=w) (n:=i) ?_));rw[pP];(try simp only[seval]);refine w8 ?_;refine IA (by rfl) λl fn T Oq bo hT xz pX=> ?_;(try simp only[seval]);rw[pP];have hY:jC lv SA (.fn (.yield l) [] []) (λo h=> .go (vn w y q o h)) (λo=>AO o++[.cells w.l 76,.cells [iv i] 3,.obj (.deferred (some [])),.loop l .ready none fn T 97 #[51] Oq bo (N+2)]) (N+4) (λ_=>True) (λh=>mm h/\∀ns∈fP w h,∀a∈(ij w h ns).map (dx h ns),jj w a) (.aN []):=by
   refine⟨λo h M k kp _ ha dM=> ?_,λ_ _ _ _ _ _=>trivial,λo=>by simp[pP],λm o o' hz z eT=> ?_,rfl,rfl,rfl⟩
   ·obtain⟨oX,CQ⟩:=ha;have h4:=oX.len;have na:(h.map iv).length=4:=(by rw[Tn,h4]);simp only[cV]at dM;obtain⟨Lo,kK⟩:∃Lo,Lo=aa.loop l .busy none fn T 97 #[51] Oq bo (N+2):=⟨_,rfl⟩;obtain⟨C,hC⟩:∃C,C=N+4+M.length:=⟨_,rfl⟩;obtain⟨P1,dq⟩:∃P1:Int->List aa,∀o,P1 o=AO o++([.cells w.l 76,.cells [iv i] 3,.obj (.deferred (some [])),Lo]++M):=⟨_,λ_=>rfl⟩;have ee:∀o,(P1 o).length=C:=λo=>(by rw[dq,hC];simp[pP];omega);have p0:∀o L,(P1 o++L)[H.length]?=some (.cells x.l 26):=λo L=>(by rw[dq,SC];exact a0 _ _);have p1:∀o L,(P1 o++L)[H.length+1]?=some (.cells [iv s] 3):=λo L=>(by rw[dq,SC];exact a1 _ _);have p2:∀o L,(P1 o++L)[H.length+2]?=some (.cells [iv q] 3):=λo L=>(by rw[dq,SC];exact a2 _ _);have p5:∀o L,(P1 o++L)[H.length+5]?=some (.cells w.l 76):=λo L=>(by rw[dq,SC];exact a5 _ _);have p6:∀o L,(P1 o++L)[H.length+6]?=some (.cells [iv o] 3):=λo L=>(by rw[dq,SC];exact a6 _ _);have ps6:∀o o' L,(P1 o++L).set (H.length+6) (.cells [iv o'] 3)=P1 o'++L:=λo o' L=>(by rw[dq o,dq o',SC (AO o),SC (AO o')];exact as6 _ _ _);have MR:∀o L,(P1 o++L)[N+3]?=some Lo:=λo L=>(by rw[dq,SC,ag];rfl);have M_:∀o (L:List aa) y,(P1 o++L).set (N+3) y=AO o++([.cells w.l 76,.cells [iv i] 3,.obj (.deferred (some [])),y]++M)++L:=λo L y=>(by rw[dq,SC,tU];simp);have pb:∀o (L:List aa)(j:Nat),(P1 o++L)[C+j]?=L[j]?:=λo L j=>(by rw[<- ee o,ba]);have wy:∀o (L:List aa),(P1 o++L)[C]?=L[0]?:=λo L=>pb o L 0;have pb1:∀o (L:List aa),(P1 o++L)[C+1]?=L[1]?:=λo L=>pb o L 1;have pb2:∀o (L:List aa),(P1 o++L)[C+2]?=L[2]?:=λo L=>pb o L 2;have AB:∀o (L:List aa)(j:Nat)(y:aa),(P1 o++L).set (C+j) y=P1 o++L.set j y:=λo L j y=>(by rw[<- ee o,dJ]);have ps1:∀o (L:List aa)(y:aa),(P1 o++L).set (C+1) y=P1 o++L.set 1 y:=λo L y=>AB o L 1 y;have ps2:∀o (L:List aa)(y:aa),(P1 o++L).set (C+2) y=P1 o++L.set 2 y:=λo L y=>AB o L 2 y;have As:∀m o o',(∀z∈P1 o,eK m z)->∀z∈P1 o',eK m z:=λm o o' hz z eT=>by
     rw[dq]at hz eT;rcases SS.1 eT with h'|h'
     ·exact MF m o o' (λz rI=>hz z (Tf _ rI)) z h'
     ·exact hz z (S0 _ h')
    subst hT xz pX;rw[SC];refine vA (id:=N+3) (by rw[ag];rfl) rfl (by kernel_rfl) λn4 JN=> ?_;simp only[r6];have vU:TR 4 [iv 0,iv 0,iv 0,iv 0]=[]:=rfl;refine aj ?_;simp only[seval,h4,vU];unfold tS;refine⟨none,fn,_,97,#[51],_,_,_,by rw[ag];rfl,?_⟩;dsimp only;rw[tU];simp only[UE,T1];rw[<- kK];have xr:(AO o).length+(M.length+1+1+1+1)=C:=(by rw[pP,hC];omega);rw[xr];have xI:∀z:aa,(AO o++aa.cells w.l 76::aa.cells [AV.val (SF SD ↑i)] 3::aa.obj (atX (some []))::Lo::(M++[z]))=P1 o++[z]:=λz=>(by rw[dq];simp[iv]);rw[xI];obtain⟨own,ej⟩:∃own,own=bU h y:=⟨_,rfl⟩;refine cP ?_;refine nU [7,8] (SV 9) (λD=>bif isDone 8 D then P1 o++[.cells (h.map iv) 83,.cells [wv own] 79]else bif isDone 7 D then P1 o++[.cells (h.map iv) 83,.cells [.val (.int .u16 0)] 79]else P1 o++[.cells (h.map iv) 83]) ?_;simp only[seval,ee,wy,pb1,ps1,p0,p1,h4,na,Rk,DE hs,jE cG];have hmE:TH 4 (U8 (λn=>AV.val (SF SD n)) h)=h.map iv:=SP (by rw[na];exact SQ _);rw[hmE];refine ik (wv own) (c9 (ER (h:=h) (y:=y) oX ⟨by rw[ej],rfl⟩)) ?_;refine⟨ik (wv own) (c9 (ER (h:=h) (y:=y) oX ⟨by rw[ej],rfl⟩)) rfl,?_⟩;(try simp only[seval,wv]);have hm3:U8 (λn=>AV.val (SF SD n)) h=h.map iv:=rfl;rw[hm3];refine aj ?_;simp only[seval,pb1];refine aF ?_;refine⟨λhz=> ?_,λhz=> ?_⟩
    ·refine cp ?_;have eT:own=0:=(by simpa using hz);have e1:vn w y q o h=o:=(by unfold vn;rw[<- ej,if_pos eT]);rw[e1]at dM;show oK _ _ _ _ _ _ _;refine⟨l,.busy,none,fn,_,97,#[51],_,_,N+2,by show (P1 _++_)[_]?=_;rw[MR,kK],?_⟩;show cC C ((P1 _++_).set _ _) _ k;rw[M_];rw[SC]at dM;exact jH (G:=[.cells (h.map iv) 83,.cells [wv own] 79]) (Wk.refl _) rfl (by rw[hC];simp[pP];omega) n4 (.val _) dM
    ·refine aO ?_;refine aj ?_;simp only[seval,ee];refine aj ?_;simp only[seval,p5,wy,RQ,h4,na];have ako:TH 4 (U8 iv h)=h.map iv:=SP (by rw[na];exact SQ _);rw[ako];refine aL ((Jn (x:=w) (h:=h) (deep:=1) ?_));(try simp only[seval]);have eT:own≠0:=(by simpa using hz);have akA:own<65536:=by
      rw[ej];have:bU h y<2^9:=EA;omega
     refine cP ?_;refine Ew (N+3) (by rfl) (by show (P1 _++_)[N+3]?=_;rw[MR,kK]) λl2 eG T2 gq gr n9 xA xC=> ?_;simp only[seval];rw[ee]at n9⊢;have okm:∀v m m',(∀z∈[aa.cells (h.map iv) 83,.cells [wv own] 79,.cells [wv m] 79,.cells w.l 76,.cells (h.map iv) 83,.cells [iv 1] 3,.loop l2 .ready none eG T2 97 #[64] gq gr (N+2)],eK v z)->∀z∈[aa.cells (h.map iv) 83,.cells [wv own] 79,.cells [wv m'] 79,.cells w.l 76,.cells (h.map iv) 83,.cells [iv 1] 3,.loop l2 .ready none eG T2 97 #[64] gq gr (N+2)],eK v z:=λv m m' hz z eT=>by
      simp only[SK,SZ,or_false]at eT;rcases eT with rfl|rfl|rfl|rfl|rfl|rfl|rfl
      ·exact hz _ (by simp)
      ·exact hz _ (by simp)
      ·intro a ha;rw[S8]at ha;subst ha;exact .val _
      ·exact hz _ (by simp)
      ·exact hz _ (by simp)
      ·exact hz _ (by simp)
      ·exact hz (.loop l2 .ready none eG T2 97 #[64] gq gr (N+2)) (by simp)
     have xy:jC lv SA (.fn (.yield l2) [] []) (λm t=> .go (qR own q m t)) (λm:Int×Nat=>P1 m.1++[.cells (h.map iv) 83,.cells [wv own] 79,.cells [wv m.2] 79,.cells w.l 76,.cells (h.map iv) 83,.cells [iv 1] 3,.loop l2 .ready none eG T2 97 #[64] gq gr (N+2)]) (C+7) (λm=>m.2<65536) (jj w) (.aN []):=by
      refine⟨λm t M2 k2 yd hm ht kR=> ?_,λm t m' hm ht he=> ?_,λm=>by simp[ee],λv m m' hz z eT=> ?_,rfl,rfl,rfl⟩
      ·obtain⟨o2,met⟩:=m;replace hm:met<65536:=hm;have qj:=ht.len;have Ah:(t.map iv).length=11:=(by rw[Tn,qj]);simp only[cV]at kR;have Gj:w.pieces.length=x.pieces.length:=(by rw[hw];rfl);obtain⟨n,lF,hn9,_⟩:=ht.num q (by rw[Gj];exact hq);have F':mh t q=n:=(by unfold mh;rw[SE,lF];rfl);obtain⟨pF,sI⟩:∃Lo,Lo=aa.loop l2 .busy none eG T2 97 #[64] gq gr (N+2):=⟨_,rfl⟩;obtain⟨D,hD⟩:∃D,D=C+7+M2.length:=⟨_,rfl⟩;obtain⟨Q1,fW⟩:∃Q1:Int->Nat->List aa,∀o m,Q1 o m=P1 o++([.cells (h.map iv) 83,.cells [wv own] 79,.cells [wv m] 79,.cells w.l 76,.cells (h.map iv) 83,.cells [iv 1] 3,pF]++M2):=⟨_,λ_ _=>rfl⟩;have QP:∀o m,(Q1 o m).length=D:=λo m=>(by rw[fW,hD];simp[ee];omega);have q2:∀o m L,(Q1 o m++L)[H.length+2]?=some (.cells [iv q] 3):=λo m L=>(by rw[fW,SC];exact p2 _ _);have q6:∀o m L,(Q1 o m++L)[H.length+6]?=some (.cells [iv o] 3):=λo m L=>(by rw[fW,SC];exact p6 _ _);have qs6:∀o o' m L,(Q1 o m++L).set (H.length+6) (.cells [iv o'] 3)=Q1 o' m++L:=λo o' m L=>(by rw[fW o,fW o',SC (P1 o),SC (P1 o')];exact ps6 _ _ _);have qo:∀o m L,(Q1 o m++L)[C+1]?=some (.cells [wv own] 79):=λo m L=>(by rw[fW,SC,pb];rfl);have qm:∀o m L,(Q1 o m++L)[C+2]?=some (.cells [wv m] 79):=λo m L=>(by rw[fW,SC,pb];rfl);have qsm:∀o m m' L,(Q1 o m++L).set (C+2) (.cells [wv m'] 79)=Q1 o m'++L:=λo m m' L=>(by rw[fW o m,fW o m',SC (P1 o),AB,SC (P1 o)];rfl);have ql:∀o m L,(Q1 o m++L)[C+6]?=some pF:=λo m L=>(by rw[fW,SC,pb];rfl);have qsl:∀o m L y,(Q1 o m++L).set (C+6) y=(P1 o++([.cells (h.map iv) 83,.cells [wv own] 79,.cells [wv m] 79,.cells w.l 76,.cells (h.map iv) 83,.cells [iv 1] 3,y]++M2))++L:=λo m L y=>(by rw[fW,SC,AB];simp);have qc:∀o m (L:List aa),(Q1 o m++L)[D]?=L[0]?:=λo m L=>(by rw[<- QP o m];exact ba _ L 0);have G9:∀o (L:List aa),(P1 o++L)[C+6]?=L[6]?:=λo L=>pb o L 6;have sQ:∀(o':Int)(m':Nat)(G:List aa),bH (P1 o2++([aa.cells (h.map iv) 83,.cells [wv own] 79,.cells [wv met] 79,.cells w.l 76,.cells (h.map iv) 83,.cells [iv 1] 3,.loop l2 .ready none eG T2 97 #[64] gq gr (N+2)]++M2))->k2 (.val (.bool true)) (P1 o'++([aa.cells (h.map iv) 83,.cells [wv own] 79,.cells [wv m'] 79,.cells w.l 76,.cells (h.map iv) 83,.cells [iv 1] 3,.loop l2 .ready none eG T2 97 #[64] gq gr (N+2)]++M2))->cC D ((Q1 o' m'++G).set (C+6) (.loop l2 .ready none eG T2 97 #[64] gq gr (N+2))) (.val (.bool true)) k2:=λo' m' G ay aJ=>by
        rw[qsl];refine jH (G:=G) (Wk.refl _) rfl (by rw[hD];simp[ee];omega) ?_ (.val _) aJ;intro z hz;have hlen:(P1 o'++([aa.cells (h.map iv) 83,.cells [wv own] 79,.cells [wv m'] 79,.cells w.l 76,.cells (h.map iv) 83,.cells [iv 1] 3,.loop l2 .ready none eG T2 97 #[64] gq gr (N+2)]++M2)).length=(P1 o2++([aa.cells (h.map iv) 83,.cells [wv own] 79,.cells [wv met] 79,.cells w.l 76,.cells (h.map iv) 83,.cells [iv 1] 3,.loop l2 .ready none eG T2 97 #[64] gq gr (N+2)]++M2)).length:=(by simp[ee]);rw[hlen];rcases SS.1 hz with h'|h'
        ·exact As _ o2 o' (λz hz=>ay z (Tf _ hz)) z h'
        ·rcases SS.1 h' with h'|h'
         ·exact okm _ met m' (λz hz=>ay z (S0 _ (Tf _ hz))) z h'
         ·exact ay z (S0 _ (S0 _ h'))
       subst n9 xA xC;rw[SC];refine vA (id:=C+6) (by rw[G9];rfl) rfl (by kernel_rfl) λq_ JO=> ?_;simp only[r6];have Co:TR 11 [iv 0,iv 0,iv 0,iv 0,iv 0,iv 0,iv 0,iv 0,iv 0,iv 0,iv 0]=[]:=rfl;refine aj ?_;simp only[seval,qj,Co];unfold tS;refine⟨none,eG,_,97,#[64],_,_,_,by rw[G9];rfl,?_⟩;dsimp only;rw[AB];simp only[UE,T1];rw[<- sI];have B6:(P1 o2).length+(M2.length+1+1+1+1+1+1+1)=D:=(by rw[ee,hD];omega);rw[B6];have iJ:∀z:aa,(P1 o2++aa.cells (U8 iv h) 83::aa.cells [AV.val (SF S5 ↑own)] 79::aa.cells [AV.val (SF S5 ↑met)] 79::aa.cells w.l 76::aa.cells (U8 iv h) 83::aa.cells [AV.val (SF SD 1)] 3::pF::(M2++[z]))=Q1 o2 met++[z]:=λz=>(by rw[fW];simp[iv]);rw[iJ];have b4:(0<=(q:Int)/\(q:Int)<4)=True:=(by simp;omega);have oV:=kG (i:=4+q) lF;refine aj ?_;simp only[seval,q2,qc,b4,oV];refine aj ?_;simp only[seval,qm];refine aL ((xh (m:=met) (n:=n) hm ?_));(try simp only[seval]);refine aF ?_;refine⟨λhb=> ?_,λhb=> ?_⟩
       ·refine cp ?_;have e1:qR own q (o2,met) t=(o2,met):=(by unfold qR;rw[F',if_pos hb]);rw[e1]at kR;rw[SC]at kR;show oK _ _ _ _ _ _ _;refine⟨l2,.busy,none,eG,_,97,#[64],_,_,N+2,by show (Q1 _ _++_)[_]?=_;rw[ql,sI],?_⟩;exact sQ o2 met _ q_ kR
       ·refine aO ?_;have dD:met.testBit n=false:=(by simpa using hb);have e1:qR own q (o2,met) t=(Df (fA own 0 16) n o2,met|||2^n):=(by unfold qR;rw[F',if_neg (by simpa using hb)]);rw[e1]at kR;rw[SC]at kR;refine aj ?_;simp only[seval,qm];refine aL ((ue (m:=met) (n:=n) hm (by omega) ?_));(try simp only[seval,qm,qsm,wv]);refine aj ?_;simp only[seval,qo];refine aL ((Jj (s:=own) (more:=0) akA (by decide) ?_));(try simp only[seval,bu]);have RM:∀v∈fA own 0 16,0<=v/\v<16:=λv hv=>by
         unfold fA at hv;obtain⟨j,hj,rfl⟩:=Tl.1 hv;have:=TP.1 (Uw.1 hj).1;omega
        have hO:=Mn own 0 16;generalize fA own 0 16=ls at RM hO kR⊢;obtain⟨oj,ku⟩:∃oj:Nat->Int,∀j,oj j=Df (ls.take j) n o2:=⟨_,λ_=>rfl⟩;have akC:oj 0=o2:=(by rw[ku];rfl);generalize met|||2^n=aaV at kR⊢;refine cP ?_;refine iu ls.length (λj:Nat=>[(78,iv j)]) (λj=>Q1 (oj j) aaV++[.cells (t.map iv) 86]) (λ_=>True) (λ_ _=>rfl) (by simp only[seval];simp[bC,Wk.refl]) (by rw[akC]) (λ_ _ _=>by simp[QP]) trivial (λcq dG j oZ _ R hR=> ?_);clear cq dG;refine am ?_;refine aF ?_;refine⟨λh1=> ?_,λh1=> ?_⟩
        ·have eX:j<ls.length:=(by omega);obtain⟨v,hv⟩:=cj eX;have hvb:=RM v (wq hv);have c_:oj (j+1)=aa2 n (oj j) v:=by
          rw[ku,ku,Df,Df];obtain⟨akh,x6⟩:=SL.1 hv;rw[XI akh,ZL,x6];rfl
         have hwa:SD.wrap (v-(n:Int))=v-n:=bB _ (by omega);have Gi:SD.wrap ((n:Int)-v)=n-v:=bB _ (by omega);have fJ:SD.wrap ((j:Int)+1)=((j+1:Nat):Int):=(by rw[bB _ (by omega)];rfl);have ajm:(2<=2^24)=True:=eq_true (by decide);refine aO ?_;refine aj ?_;simp only[seval,e_ hv,jE eX];refine aj ?_;simp only[seval,q6,z2,ajm,hwa,Gi];have Cy:(if v-(n:Int)<(n:Int)-v then(n:Int)-v else v-(n:Int))=max (v-n) (n-v):=(by split<;>omega);rw[Cy];refine aL ((ah9 (ns:=[oj j,max (v-n) (n-v)]) (by simp) ?_));(try simp only[seval,q6,qs6]);refine aj ?_;simp only[seval,fJ];refine hR _ ⟨eX,trivial,?_⟩;rw[c_];exact dF
        ·have xO:j=ls.length:=(by omega);subst xO;refine cp ?_;show oK _ _ _ _ _ _ _;refine⟨l2,.busy,none,eG,_,97,#[64],_,_,N+2,by show (Q1 _ _++_)[_]?=_;rw[ql,sI],?_⟩;exact sQ (oj ls.length) aaV _ q_ (by rw[ku,TO];exact kR)
      ·cases he;show (qR own q m t).2<65536;unfold qR;split
       ·exact hm
       ·obtain⟨n,lF,hn9,_⟩:=ht.num q (by rw[hw];exact hq);have F':mh t q=n:=(by unfold mh;rw[SE,lF];rfl);rw[F'];exact pw hm (wG (by omega))
      ·rcases SS.1 eT with h'|h'
       ·exact As v m.1 m'.1 (λz rI=>hz z (Tf _ rI)) z h'
       ·exact okm v m.2 m'.2 (λz rI=>hz z (S0 _ rI)) z h'
     refine c9 (Jr (x:=w) (h:=h) (deep:=1) (ir:=C+3) (ih:=C+3+1) (id:=C+3+2) (σ:=(o,0)) LF oX xy (λm L=> ?_) (λm L=> ?_) (λm L=> ?_) (λn=>by simp[jx]) (show (0:Nat)<65536 by decide) (λa ha=>ha.len) CQ ?_)
     ·rw[SC];exact pb _ _ 3
     ·rw[SC];exact pb _ _ 4
     ·rw[SC];exact pb _ _ 5
     rw[Dv (g:=qR own q) (λ_ _=>rfl)];simp only[fS,SN];have e1:vn w y q o h=((jf w 1 h).foldl (qR own q) (o,0)).1:=(by unfold vn;rw[<- ej,if_neg eT]);generalize(jf w 1 h).foldl (qR own q) (o,0)=r at e1⊢;rw[e1]at dM;have G9:∀o (L:List aa),(P1 o++L)[C+6]?=L[6]?:=λo L=>pb o L 6;refine⟨.ready,none,_,_,_,_,_,_,_,by rw[G9];rfl,by decide,?_⟩;rw[AB,Hb];(try simp only[seval]);show oK _ _ _ _ _ _ _;refine⟨l,.busy,none,fn,_,97,#[51],_,_,N+2,by show (P1 _++_)[_]?=_;rw[MR,kK],?_⟩;show cC C ((P1 _++_).set _ _) _ k;rw[M_];rw[SC]at dM;exact jH (G:=[.cells (h.map iv) 83,.cells [wv own] 79,.cells [wv r.2] 79,.cells w.l 76,.cells (h.map iv) 83,.cells [iv 1] 3,.gone]) (Wk.refl _) rfl (by rw[hC];simp[pP];omega) (okX _ o r.1 n4) (.val _) dM
   ·rcases SS.1 eT with h'|h'
    ·exact MF m o o' (λz rI=>hz z (Tf _ rI)) z h'
    ·exact hz z (S0 _ h')
  refine c9 (Jp (x:=w) (bk:=i) (ir:=N) (it:=N+1) (σ:=fo i) LF hY (λo L=> ?_) (λo L=> ?_) pZ (λn=>by simp[jx]) trivial (λa ha=>JM a ha) ?_)
  ·rw[SC];exact ag _ _ 0
  ·rw[SC];exact ag _ _ 1
  rw[Dv (g:=vn w y q) (λ_ _=>rfl)];simp only[fS,SN];have hfx:(kq w i).foldl (vn w y q) (fo i)=fo (i+1):=by rw[vW,vW,yZ]
  rw[hfx];have x9:SD.wrap ((i:Int)+1)=((i+1:Nat):Int):=by rw[bB _ (by omega)];rfl
  refine⟨.ready,none,_,_,_,_,_,_,_,by show (AO _++_)[N+3]?=_;rw[ag];rfl,by decide,?_⟩;rw[show N+2+1=N+3 from rfl,tU,Ha];(try simp only[seval]);refine Ey ?_;refine aj ?_;simp only[seval,x9];refine⟨i+1,?_,by omega,eo (by push_cast;simp only[seval];simp[bC,Wk.refl]) (by rw[pO,oN,SC];rfl),by rw[w5,hN]⟩;show p+1-(i+1)<p+1-i;omega
 ·have du:i=p+1:=by omega
  subst du;refine cp ?_;have Ik:∀o,(AO o)[H.length+6]?=some (.cells [iv o] 3):=λo=>by have:=a6 o [];rwa [SN]at this
  have ny:x.an.toNat=p:=by omega
  rw[ny]at hk;have aJ:=hk (fo (p+1)) (by rw[vW,hw]);generalize fo (p+1)=o at aJ⊢;(try refine mV ?_);refine aj ?_;simp only[seval,Ik];obtain⟨Y,vK⟩:=Ot w (Bo o) (p+1) [];rw[SN,fI]at vK;have QY:iG (w5 (H.length+7) (p+1)) (AO o)=some (H++([.cells x.l 26,.cells [iv s] 3,.cells [iv q] 3,.cells x.l 26,.cells [.sl 1 [iv q] .exact] 22,.cells w.l 76,.cells [iv o] 3]++Y)):=by rw[pO,vK,qZ,SC]
  (try refine mV ?_);refine aF ?_;refine⟨λho=> ?_,λho=> ?_⟩
  ·have bf:o<0:=(by simpa using ho);rw[if_pos bf,if_pos bf]at aJ;refine am ?_;refine bi ?_;refine dX QY ?_;(try simp only[seval]);exact jm hH (Wk.refl _) (by simp[jx,eC]) aJ
  ·have bf:¬o<0:=(by simpa using ho);rw[if_neg bf,if_neg bf]at aJ;refine aO ?_;refine Iy ?_;have Ik:∀o,(AO o)[H.length+6]?=some (.cells [iv o] 3):=λo=>(by have:=a6 o [];rwa [SN]at this);refine aj ?_;simp only[seval,Ik];refine bi ?_;refine dX QY ?_;(try simp only[seval]);exact jm hH (Wk.refl _) (by simp[jx,eC]) aJ
end
open Go.Conc Go.Proofs Go.Gg.Tk
namespace Tk
def fD:ak:=⟨10,3,2,[⟨2,⟨12,13⟩⟩],[⟨⟨10,12⟩,⟨0,1⟩⟩,⟨⟨11,11⟩,⟨0,2⟩⟩,⟨⟨12,15⟩,⟨1,2⟩⟩],[⟨⟨12,12⟩,⟨0,2⟩⟩,⟨⟨10,15⟩,⟨2,2⟩⟩]⟩
def tw:ak:={fD with aC:=[⟨⟨15,15⟩,⟨0,0⟩⟩,⟨⟨10,15⟩,⟨2,2⟩⟩]}
end Tk
theorem adF:gH (TD #[SF .i64 0,SF .i64 0,SF .i64 0]) 3=[iv 0,iv 0,iv 0]:=rfl
theorem adE:gH (TD #[SF .i64 0,SF .i64 0,SF .i64 0,SF .i64 0]) 12=TF 12 (iv 0):=rfl
theorem adD:gH (TD #[SF .i64 0,SF .i64 0,SF .i64 0,SF .i64 0]) 8=[iv 0,iv 0,iv 0,iv 0,iv 0,iv 0,iv 0,iv 0]:=rfl
theorem abY:TF 12 (iv 0)=[iv 0,iv 0,iv 0,iv 0,iv 0,iv 0,iv 0,iv 0,iv 0,iv 0,iv 0,iv 0]:=rfl
theorem aby:(3<=2^24)=True:=eq_true (by decide)
theorem abz:(8<=2^24)=True:=eq_true (by decide)
theorem abx:(12<=2^24)=True:=eq_true (by decide)
section
variable {lv:Bool}{H:List aa}{k kp:AV->List aa->Prop}
theorem xg(hk:k fD.av H):bm lv SA 53 H [] k kp:=by
 refine bG (rs:=[.cell 0 26]) (nt:=11) al_ λhH hA=> ?_;simp only[br,SW];refine am ?_;refine am ?_;refine aL ((P3 (a:=2) (b:=12) (c:=13) ?_));(try simp only[seval,Seen.av,Seen.l,io.av,adF,aby]);refine aL ((qW (a:=10) (b:=12) (c:=0) (d:=1) ?_));(try simp only[seval]);refine aL ((qW (a:=11) (b:=11) (c:=0) (d:=2) ?_));(try simp only[seval]);refine aL ((qW (a:=12) (b:=15) (c:=1) (d:=2) ?_));(try simp only[seval,aD.av,aD.l,adE,abY,abx]);refine aL ((qW (a:=12) (b:=12) (c:=0) (d:=2) ?_));(try simp only[seval]);refine aL ((qW (a:=10) (b:=15) (c:=2) (d:=2) ?_));have a_:∀(L:List aa),(H++L)[H.length]?=L[0]?:=λL=>ba H L 0;have cx:∀(L:List aa)(y:aa),(H++L).set H.length y=H++L.set 0 y:=λL y=>dJ H L 0 y;(try simp only[seval,aD.av,aD.l,adD,abz,a_,cx]);refine mU ?_;simp only[seval,a_];refine jm hH (b:=fD.av) (DZ (.cons (Wk.refl _) (.cons (Wk.refl _) (.cons (Wk.refl _) (.cons (gV _ _ _) (.cons (gV _ _ _) (.cons (gV _ _ _) .nil))))))) (by rw[Da];trivial) hk
theorem ah4(hk:∀X:aa,k (.agg [iv 10,iv 3,iv 2,.sl 1 (fD.seen.flatMap Seen.l) .exact,.sl 3 (fD.pieces.flatMap aD.l) .exact,.bh (H.length+1) 0 2 2]) (H++[X,.cells (fD.aC.flatMap aD.l) 48])):bm lv SA 53 H [] k kp:=by
 refine bG (rs:=[.cell 0 26]) (nt:=11) al_ λhH hA=> ?_;simp only[br,SW];refine am ?_
 (repeat apply iF);refine OO 8 (by kernel_rfl) ?_
 simp only[seval];refine aL ((P3 (a:=2) (b:=12) (c:=13) ?_));(try simp only[seval,Seen.av,Seen.l,io.av,adF,aby]);refine aL ((qW (a:=10) (b:=12) (c:=0) (d:=1) ?_));(try simp only[seval]);refine aL ((qW (a:=11) (b:=11) (c:=0) (d:=2) ?_));(try simp only[seval]);refine aL ((qW (a:=12) (b:=15) (c:=1) (d:=2) ?_));(try simp only[seval,aD.av,aD.l,adE,abY,abx]);refine aL ((qW (a:=12) (b:=12) (c:=0) (d:=2) ?_));(try simp only[seval]);refine aL ((qW (a:=10) (b:=15) (c:=2) (d:=2) ?_));have a_:∀(L:List aa),(H++L)[H.length]?=L[0]?:=λL=>ba H L 0;have cx:∀(L:List aa)(y:aa),(H++L).set H.length y=H++L.set 0 y:=λL y=>dJ H L 0 y;(try simp only[seval,aD.av,aD.l,adD,abz,a_,cx]);refine mU ?_;simp only[seval,a_];exact bX (hk _)
theorem ah5(hk:k tw.av H):bm lv SA 54 H [] k kp:=by
 refine bG (rs:=[.cell 0 26]) (nt:=8) Tryz.f54 λhH hA=> ?_;simp only[br,SW];have fY:∀(L:List aa)(j:Nat),(H++L)[H.length+j]?=L[j]?:=λL j=>ba H L j;have Ae:∀(L:List aa)(j:Nat)(y:aa),(H++L).set (H.length+j) y=H++L.set j y:=λL j y=>dJ H L j y;have a_:∀(L:List aa),(H++L)[H.length]?=L[0]?:=λL=>ba H L 0;have cx:∀(L:List aa)(y:aa),(H++L).set H.length y=H++L.set 0 y:=λL y=>dJ H L 0 y;refine am ?_;refine am ?_;refine aL ((ah4 (λX=> ?_)));simp only[SC,U1,Uy];have jV:∀(L:List aa),(H++L)[H.length+2]?=L[2]?:=λL=>ba H L 2;have fN:∀(L:List aa)(y:aa),(H++L).set (H.length+2) y=H++L.set 2 y:=λL y=>dJ H L 2 y;have zN:∀(L:List aa),(H++L)[H.length+3]?=L[3]?:=λL=>ba H L 3;have pc:∀(L:List aa)(y:aa),(H++L).set (H.length+3) y=H++L.set 3 y:=λL y=>dJ H L 3 y;have hrx:fD.aC.flatMap aD.l=[iv 12,iv 12,iv 0,iv 2,iv 10,iv 15,iv 2,iv 2]:=rfl;rw[hrx];have e2:H.length+1+1=H.length+2:=rfl;(try simp only[seval,zN,pc,e2]);refine eM 4 ?_;simp only[seval,jV,fN,zN];refine ik _ (c9 (qW (a:=15) (b:=15) (c:=0) (d:=0) ⟨rfl,rfl⟩)) ?_;(try simp only[seval,aD.av,aD.l,jV,fN]);obtain⟨rs,CJ⟩:∃rs,rs=tw.aC.flatMap aD.l:=⟨_,rfl⟩;have ak9:[AV.val (SF SD 15),AV.val (SF SD 15),AV.val (SF SD 0),AV.val (SF SD 0),AV.val (SF SD 10),AV.val (SF SD 15),AV.val (SF SD 2),AV.val (SF SD 2)]=rs:=by rw[CJ];rfl
 have uD:rs.length=8:=by rw[CJ];rfl
 rw[ak9];refine aj ?_;simp only[seval,a_,cx,zN]
 (repeat apply iF);refine Iw (id:=H.length+2) (by simp only[seval,jV]<;>rfl) ?_
 simp only[seval,fN,uD]
 (repeat apply iF);refine Ix (id:=H.length) (j:=5) (y:=aT tw.aC) (by simp only[seval,a_]<;>rfl) rfl ?_ ?_
 ·have e:aT tw.aC=.sl 2 (rs.take 8) .shut:=by rw[SP (by omega),CJ];rfl
  rw[e];exact HL (p:=8) (by simp only[seval,jV]<;>rfl) (by omega) (by omega)
 (try simp only[seval,cx]);refine mU ?_;simp only[seval,a_];refine jm hH (b:=tw.av) (DZ (.cons (Wk.refl _) (.cons (Wk.refl _) (.cons (Wk.refl _) (.cons (gV _ _ _) (.cons (gV _ _ _) (.cons (Wk.refl _) .nil))))))) (by rw[Da];trivial) hk
end
open Go.Gg.Tk
theorem yx:fD.Ok:=by
 refine⟨by decide,by decide,by decide,by decide,by decide,by decide,λs hs=> ?_,λy hy=> ?_,λy hy=> ?_⟩
 ·simp only[fD,S8]at hs;subst hs;exact⟨by decide,by decide,by decide,by decide⟩
 ·simp only[fD,SK,SZ,or_false]at hy;rcases hy with rfl|rfl|rfl<;>exact⟨⟨by decide,by decide,by decide⟩,⟨by decide,by decide,by decide⟩⟩
 ·simp only[fD,SK,SZ,or_false]at hy;rcases hy with rfl|rfl<;>exact⟨⟨by decide,by decide,by decide⟩,⟨by decide,by decide,by decide⟩⟩
theorem ano:tw.Ok:=by
 refine⟨by decide,by decide,by decide,by decide,by decide,by decide,λs hs=> ?_,λy hy=> ?_,λy hy=> ?_⟩
 ·simp only[tw,fD,S8]at hs;subst hs;exact⟨by decide,by decide,by decide,by decide⟩
 ·simp only[tw,fD,SK,SZ,or_false]at hy;rcases hy with rfl|rfl|rfl<;>exact⟨⟨by decide,by decide,by decide⟩,⟨by decide,by decide,by decide⟩⟩
 ·simp only[tw,SK,SZ,or_false]at hy;rcases hy with rfl|rfl<;>exact⟨⟨by decide,by decide,by decide⟩,⟨by decide,by decide,by decide⟩⟩
theorem ahn:cnt fD=4:=by kernel_rfl
theorem ahq:live fD=[[10,11,13,14],[10,11,13,15],[10,12,13,14],[10,12,13,15]]:=by kernel_rfl
theorem aho:(b_ fD).head?=some ⟨[10,11,13,14],[12,11,13],[0,2]⟩:=by kernel_rfl
theorem ahr:w9 (Dj fD 2) 10 16=[13,14]:=by kernel_rfl
theorem PT:tz fD 0 0=true/\Do fD 0 0=false:=by decide+kernel
theorem PR:EV tw=some [0]:=by kernel_rfl
theorem ahl:yZ (fD.wo [1]) ⟨⟨10,15⟩,⟨2,2⟩⟩ 0 3=1:=by kernel_rfl
open Go.Conc Go.Proofs
theorem Tk.Bounds.of_map{l:List (List Int)}{g:List Int->List Int}{v w:List Int->Int}{a b:Int}(h:Bounds (l.map g) v a b)(e:∀y∈l,v (g y)=w y):Bounds l w a b:=by
 obtain⟨g1,m1,e1⟩:=h.Gv;obtain⟨g2,m2,e2⟩:=h.Gu;obtain⟨y1,n1,rfl⟩:=Tl.1 m1;obtain⟨y2,n2,rfl⟩:=Tl.1 m2;exact⟨⟨y1,n1,e1.trans (e y1 n1)⟩,λy hy=>by rw[<- e y hy];exact h.le _ (Tl.2 ⟨y,hy,rfl⟩),⟨y2,n2,e2.trans (e y2 n2)⟩,λy hy=>by rw[<- e y hy];exact h.ge _ (Tl.2 ⟨y,hy,rfl⟩)⟩
theorem anN{h:List Int}{i:Nat}(hi:i<h.length):(cH h).getD i 0=h.getD i 0:=by
 unfold cH;rw[SE,SE,SX hi]
theorem amu{x:ak}{h:List Int}(hm:h∈live x):h.length=1+x.hours.toNat:=KN (Uw.1 hm).1
theorem aof{x:ak}{D:Kn}(hx:x.Ok)(hD:fF x 0 D)(hh:D.has=true){hs:List (List Int)}(hp:hs.Perm D.aK)(v:List Int->Int)(w:List Int->Int)(e:∀y∈live x,v (cH y)=w y):Bounds (live x) w (hs.foldl (λb h=>b.add (v h)) (⟨0,0,false⟩:gW)).lo (hs.foldl (λb h=>b.add (v h)) (⟨0,0,false⟩:gW)).hi:=by
 have da:=hp.trans (aaw hx hD);have aI:hs≠[]:=λh=>by
  rw[h]at da;have:=da.length_eq;rw[Tn]at this;have h0:live x=[]:=VA this.symm;rw[(yb hx hD).2 (aaM.1 h0)]at hh;cases hh
 exact((afY v aI).anx da).of_map e
theorem Md{x:ak}{deep:Int}{D:Kn}(hx:x.Ok)(hD:fF x deep D)(hh:D.has=true):b_ x≠[]:=λh=>by
 rw[(yb hx hD).2 h]at hh;cases hh
theorem aaU{α:Type}{f:Nat->α}{l:List α}{n:Nat}(d:α)(hl:l.length=n)(h:∀i,i<n->f i=l.getD i d):(SV n).map f=l:=by
 refine Yo λi=> ?_;rw[Tm];by_cases hi:i<n
 ·rw[Xx hi,UP,h i hi,SE,SY (by omega)];rfl
 ·rw[Uv (by simp;omega),Uv (by omega)];rfl
theorem ag0{x:ak}(hx:x.Ok){u:Tr}(hu:u∈b_ x){s:Nat}(hs:s<x.aC.length):(eA u).getD (8+s) 0=((u.bS.getD s 0:Nat):Int):=by
 obtain⟨h1,h2⟩:=wF hx hu;have h3:=(HD hx hu).1;have hh:=hx.hours;have lz:=hx.dY;have h4:=yp (h:=u.bz) (by omega);have cG:s<u.bS.length:=by omega
 have hg:(eA u)[8+s]?=some ((u.bS[s]:Nat):Int):=by
  unfold eA dx kY;have h8:(cH u.bz++((u.aB.map λn=>(n-u.bz.headD 0).toNat).map (λn:Nat=>(n:Int))++TF (4-(u.aB.map λn=>(n-u.bz.headD 0).toNat).length) (-1))).length=8:=by simp[h4];omega
  rw[S9 (by omega),h8,TU,SX (by simpa using cG),Tm,SY cG];rfl
 rw[SE,hg,SE,SY cG];rfl
theorem arD{x:ak}{u:Tr}(hu:u∈b_ x):u.bz.headD 0=x.first:=by
 obtain⟨h,a,b⟩:=S6.1 hu;rw[yE b];exact(zV _ _ _ (by simp) a).2
theorem aiD{x:ak}(hx:x.Ok){u:Tr}(hu:u∈b_ x):(eA u).take (x.hours.toNat+1)=u.bz:=by
 have hl:=(wF hx hu).1;have hh:=hx.hours;have h1:(eA u).take (x.hours.toNat+1)=((eA u).take 4).take (x.hours.toNat+1):=by rw[U3,Wv (by omega)]
 rw[h1,Ja hx hu];exact MM (by omega)
theorem aiE{x:ak}(hx:x.Ok){u:Tr}(hu:u∈b_ x):sE x (eA u) x.pieces.length=u.aB:=by
 unfold sE;refine aaU 0 (wF hx hu).2 λi hi=> ?_;rw[agX hx hu hi,arD hu];omega
theorem aiF{x:ak}(hx:x.Ok){u:Tr}(hu:u∈b_ x):sF (eA u) x.aC.length=u.bS.map λn:Nat=>(n:Int):=by
 unfold sF;refine aaU 0 (by rw[Tn];exact(HD hx hu).1) λi hi=> ?_;have hl:=(HD hx hu).1;rw[ag0 hx hu hi,SE,SE,Tm,SY (by omega)];rfl
section
variable {H:List aa}{k kp:AV->List aa->Prop}{x:ak}
theorem EO(hx:x.Ok)(hm:H[0]?=some .main)(hk:k (.aN [iv (cnt x),iv 0]) H):bm true SA 21 H [x.av] k kp:=
 ahN hx hm λD hD=>by rw[count_eq hx hD];exact hk
theorem ahZ{hour:Nat}(hx:x.Ok)(hh:(hour:Int)<=x.hours)(hm:H[0]?=some .main)(h0:b_ x=[]->k (.aN [.agg [iv 0,iv 0],iv 11]) H)(h1:∀lo hi,b_ x≠[]->Bounds (live x) (λh=>h.getD hour 0) lo hi->k (.aN [.agg [iv lo,iv hi],iv 0]) H):bm true SA 36 H [x.av,iv hour] k kp:=
 ahY hx hh hm λD hD=>⟨λhn=>h0 ((yb hx hD).1 hn),λhy hs hp=>h1 _ _ (Md hx hD hy) (aof hx hD hy hp (λh=>h.getD hour 0) _ λy pk=>anN (by rw[amu pk];have:=hx.hours;omega))⟩
theorem ahX{q:Nat}(hx:x.Ok)(hq:q<x.pieces.length)(hm:H[0]?=some .main)(h0:b_ x=[]->k (.aN [bu [],iv 11]) H)(h1:b_ x≠[]->k (.aN [bu (w9 (Dj x q) x.first 16),iv 0]) H):bm true SA 34 H [x.av,iv q] k kp:=
 ahW hx hq hm λD hD=>⟨λhn=>h0 ((yb hx hD).1 hn),λhy=>by rw[aaJ λn _=>anl hx hD hq n];exact h1 (Md hx hD hy)⟩
theorem ahT{s q:Nat}(hx:x.Ok)(hs:s<x.aC.length)(hq:q<x.pieces.length)(hm:H[0]?=some .main)(hk:k (.aN [iv (if(b_ x).isEmpty then 0 else vM (tz x s q) (Do x s q)),iv (if(b_ x).isEmpty then 11 else 0)]) H):bm true SA 28 H [x.av,iv s,iv q] k kp:=
 ahS hx hs hq hm λD hD=>by rw[anQ hx hD hs,afF hx hD];exact hk
def B4 (x:ak)(i:Nat):List Int:=(SV i).flatMap λs=>if 1<(w9 (tz x s) 0 16).length then[-1]else w9 (tz x s) 0 16
theorem ahR(hx:x.Ok)(hm:H[0]?=some .main)(h0:b_ x=[]->k (.aN [bu [],iv 11]) H)(h1:b_ x≠[]->k (.aN [bu (B4 x x.aC.length),iv 0]) H):bm true SA 26 H [x.av] k kp:=
 ahQ hx hm λD hD=>⟨λhn=>h0 ((yb hx hD).1 hn),λhy=>by
  have e:uf D.aV x.aC.length=B4 x x.aC.length:=by
   unfold uf B4;refine BV λs hs=> ?_;rw[aaJ λn _=>MN hx hD (TP.1 hs) n]
  rw[e];exact h1 (Md hx hD hy)⟩
theorem ahL(hx:x.Ok)(hm:H[0]?=some .main)(h0:b_ x=[]->k (.aN [bu [],bu [],bu [],iv 11]) H)(h1:∀u l,b_ x=u::l->k (.aN [bu u.bz,bu u.aB,bu (u.bS.map λn:Nat=>(n:Int)),iv 0]) H):bm true SA 18 H [x.av] k kp:=
 ahK hx hm λD hD=>⟨λhn=>h0 ((yb hx hD).1 hn),λhy=>by
  obtain⟨u,l,e1,e2⟩:=alK hx hD hy;have hu:u∈b_ x:=by rw[e1];simp
  rw[e2,aiD hx hu,aiE hx hu,aiF hx hu];exact h1 u l e1⟩
end
def qp (x:ak)(p:AV):List AV:=[iv x.first,iv x.hours,iv x.an,dC x.seen,p,aT x.aC]
section
variable {lv:Bool}{H:List aa}{k kp:AV->List aa->Prop}
theorem ahP{x:ak}(hx:x.Ok)(hp:0<x.pieces.length)(hk:∀a b:aa,k (.agg (qp x (.bh (H.length+3) 0 x.pieces.length 0))) (H++[a,b,.tail x.seen.length 3 61,.own 4 (x.pieces.flatMap aD.l) 48,.tail x.aC.length 4 48])):bm lv SA 22 H [x.av] k kp:=by
 refine bG (rs:=[.cell 2 26]) (nt:=19) am_ λhH hA=> ?_;simp only[br,SW,ak.av];have o6:=hx.dY;have aR:=hx.di;have xV:=hx.tE;have bM:x.l=[iv x.first,iv x.hours,iv x.an,dC x.seen,aT x.pieces,aT x.aC]:=rfl;have a_:∀(L:List aa),(H++L)[H.length]?=L[0]?:=λL=>ba H L 0;have cx:∀(L:List aa)(y:aa),(H++L).set H.length y=H++L.set 0 y:=λL y=>dJ H L 0 y;refine aj ?_;simp only[seval,bM];have ND:TH (x.seen.length* 3) (x.seen.flatMap Seen.l)=x.seen.flatMap Seen.l:=SP (by rw[mb Seen.len];omega);have NE:TH (x.pieces.length* 4) (x.pieces.flatMap aD.l)=x.pieces.flatMap aD.l:=SP (by rw[mb aD.len];omega);have NF:TH (x.aC.length* 4) (x.aC.flatMap aD.l)=x.aC.flatMap aD.l:=SP (by rw[mb aD.len];omega);have n1:(x.seen.flatMap Seen.l).length=x.seen.length* 3:=mb Seen.len _;have n2:(x.pieces.flatMap aD.l).length=x.pieces.length* 4:=mb aD.len _;have n3:(x.aC.flatMap aD.l).length=x.aC.length* 4:=mb aD.len _;refine aj ?_;simp only[seval,a_,cx,dC,ND,n1];refine⟨by omega,?_⟩
 (repeat apply iF);refine OO 3 (by kernel_rfl) ?_
 simp only[seval,a_,cx,aT,NE,n2];refine⟨by omega,hp,?_⟩;refine aj ?_;simp only[seval,a_,cx,aT,NF,n3];refine⟨by omega,?_⟩;have bY:∀(L:List aa),(H++L)[H.length+1]?=L[1]?:=λL=>ba H L 1;have dE:∀(L:List aa)(y:aa),(H++L).set (H.length+1) y=H++L.set 1 y:=λL y=>dJ H L 1 y;refine aj ?_;simp only[seval,a_,bY,dE];refine mU ?_;simp only[seval,bY];exact⟨_,DZ (.cons (Wk.refl _) (.cons (Wk.refl _) (.cons (Wk.refl _) (.cons (gV _ _ _) (.cons (Wk.refl _) (.cons (gV _ _ _) .nil)))))),.inl (hk _ _)⟩
end
end Go.Gg
namespace Go.Gg.Tk
theorem GB{h pre:List Int}(hp:pre≠[])(ht:h.take pre.length=pre):pre.getLastD 0=h.getD (pre.length-1) 0:=by
 have hl:0<pre.length:=VK.2 hp;have e:pre[pre.length-1]?=h[pre.length-1]?:=by
  have:(h.take pre.length)[pre.length-1]?=pre[pre.length-1]?:=by rw[ht]
  rw[<- this,Uf,if_pos (by omega)]
 rw[SE,<- e,Vh,Yd]
def Good (x:ak)(k:Nat)(h:List Int):Prop:=∀j,k<=j->j<h.length->rR x j (h.getD j 0)=true/\(j+1<h.length->∃n:Nat,n<x.an.toNat+1/\h.getD (j+1) 0=h.getD j 0+n)
theorem HA{h pre:List Int}{v:Int}:h.take (pre.length+1)=pre++[v]<->h.take pre.length=pre/\pre.length<h.length/\h.getD pre.length 0=v:=by
 constructor
 ·intro e;have hl:pre.length+1<=h.length:=by
   have:=congrArg Z2 e;rw[T4,S4,T9]at this;omega
  have h1:=congrArg (TH pre.length) e;rw[U3,Tw (SQ _),TO,Wv (by omega)]at h1;refine⟨h1,by omega,?_⟩;have h2:(h.take (pre.length+1))[pre.length]?=(pre++[v])[pre.length]?:=by rw[e]
  rw[Uf,if_pos (by omega),S9 (SQ _),Ve]at h2;rw[SE,h2];rfl
 ·rintro⟨h1,h2,h3⟩
  rw[VF,h1];congr 1;rw[SE,SY h2]at h3;rw[SY h2,<- h3];rfl
theorem KM{x:ak}:∀(d:Nat)(pre h:List Int),pre≠[]->(h∈ko x d pre<->h.length=pre.length+d/\h.take pre.length=pre/\Good x (pre.length-1) h)
 |0,pre,h,hp=>by
  have hl:0<pre.length:=VK.2 hp;unfold ko;constructor
  ·intro hm;split at hm
   ·rename_i hs;rw[S8]at hm;subst hm;refine⟨rfl,TO,λj h1 h2=> ?_⟩;have:j=h.length-1:=(by omega);subst this;rw[GB hp TO]at hs;exact⟨hs,λh=>by omega⟩
   ·cases hm
  ·rintro⟨h1,h2,h3⟩
   have e:h=pre:=(by rw[<- h2,SP (by omega)]);subst e;have:=(h3 (h.length-1) (SQ _) (by omega)).1;rw[<- GB hp TO]at this;rw[if_pos this];simp
 |d+1,pre,h,hp=>by
  have hl:0<pre.length:=VK.2 hp;unfold ko;constructor
  ·intro hm;split at hm
   ·rename_i hs;obtain⟨n,hn,hm⟩:=S6.1 hm;rw[KM d _ h (by simp)]at hm;obtain⟨h1,h2,h3⟩:=hm;rw[S4,T9]at h1 h2 h3;obtain⟨h4,h5,h6⟩:=HA.1 h2;rw[GB hp h4]at hs h6;refine⟨by omega,h4,λj xN FM=> ?_⟩;by_cases hj:j=pre.length-1
    ·subst hj;refine⟨hs,λ_=>⟨n,TP.1 hn,?_⟩⟩;rw[show pre.length-1+1=pre.length by omega];exact h6
    ·exact h3 j (by omega) FM
   ·cases hm
  ·rintro⟨h1,h2,h3⟩
   obtain⟨hs,aR⟩:=h3 (pre.length-1) (SQ _) (by omega);obtain⟨n,hn,he⟩:=aR (by omega);rw[show pre.length-1+1=pre.length by omega]at he;rw[GB hp h2,if_pos hs];refine S6.2 ⟨n,TP.2 hn,?_⟩;rw[KM d _ h (by simp),S4,T9];exact⟨by omega,HA.2 ⟨h2,by omega,he⟩,λj xN FM=>h3 j (by omega) FM⟩
theorem am4{h:List Int}(hm:∀j,j+1<h.length->h.getD j 0<=h.getD (j+1) 0):tQ h:=by
 induction h with
 |nil=>trivial
 |cons a l ih=>
  cases l with
  |nil=>trivial
  |cons b l=>
   refine⟨?_,ih λj hj=> ?_⟩
   ·have:=hm 0 (by simp);simpa using this
   ·have:=hm (j+1) (by simp at hj⊢;omega);simpa using this
theorem adb{n:Int}:∀(h:List Int)(i:Nat),tQ h->(0<=fq i h n<->h.headD 0<=n/\n<h.getLastD 0)
 |[],i,_=>by simp[fq]<;>omega
 |[a],i,_=>by simp[fq]<;>omega
 |a::b::l,i,hm=>by
  obtain⟨h1,h2⟩:=hm;have ih:=adb (n:=n) (b::l) (i+1) h2;have ux:(a::b::l).getLastD 0=(b::l).getLastD 0:=by simp[Zp]
  rw[ux];unfold fq;split
  ·rename_i h;have cK:b<=(b::l).getLastD 0:=aa0 h2;constructor
   ·intro _;exact⟨h.1,by omega⟩
   ·intro _;omega
  ·rename_i h;rw[ih];have e1:(a::b::l).headD 0=a:=rfl;have e2:(b::l).headD 0=b:=rfl;rw[e1,e2];omega
where
 aa0 {b:Int}:∀{l:List Int},tQ (b::l)->b<=(b::l).getLastD 0
  |[],_=>by simp
  |c::l,hm=>by
   obtain⟨h1,h2⟩:=hm;have:=aa0 h2;have e:(b::c::l).getLastD 0=(c::l).getLastD 0:=(by simp[Zp]);rw[e];omega
theorem adf{h:List Int}{n:Int}(hm:tQ h):0<=je h n<->h.headD 0<=n/\n<h.getLastD 0:=adb h 0 hm
theorem ade{n:Int}:∀(h:List Int)(i:Nat),0<=fq i h n->fq i h n+1<i+h.length
 |[],i,h=>by simp[fq]at h
 |[a],i,h=>by simp[fq]at h
 |a::b::l,i,h=>by
  unfold fq at h⊢;split
  ·simp;omega
  ·rename_i hn;rw[if_neg hn]at h;have:=ade (b::l) (i+1) h;simp at this⊢;omega
theorem aiI{h:List Int}{y:aD}{n:Int}(hm:tQ h)(hf:fits h y n=true):n∈GR h:=by
 unfold fits at hf;simp only[Tg,decide_eq_true_eq]at hf;obtain⟨h1,h2⟩:=(adf hm).1 hf.1.1;unfold GR;refine Tl.2 ⟨(n-h.headD 0).toNat,TP.2 (by omega),by omega⟩
theorem Qw{α:Type}[DecidableEq α]{l:List α}{d:α}{i:Nat}(hi:i<l.length):l.Nodup->l.getD i d∉l.take i:=λhn hm=>by
 obtain⟨j,hj⟩:=UZ hm;rw[Uf]at hj;split at hj
 ·rename_i b9;rw[SE,SY hi,SY (by omega)]at hj;simp only[S7,Tj]at hj;have h2:=Ut.1 hn;exact(Yc.1 h2) j i (by omega) hi b9 hj
 ·cases hj
theorem aa7{α:Type}{l:List α}{d:α}(h:∀i,i<l.length->l.getD i d∉l.take i):l.Nodup:=by
 rw[Ut,Yc];intro i j hi hj jY e;refine h j hj ?_;rw[SE,SY hj,S7,<- e];exact UQ.2 ⟨i,by rw[Uf,if_pos jY,SY hi]⟩
theorem HB{α:Type}{d:α}{h pre:List α}{v:α}:h.take (pre.length+1)=pre++[v]<->h.take pre.length=pre/\pre.length<h.length/\h.getD pre.length d=v:=by
 constructor
 ·intro e;have hl:pre.length+1<=h.length:=by
   have:=congrArg Z2 e;rw[T4,S4,T9]at this;omega
  have h1:=congrArg (TH pre.length) e;rw[U3,Tw (SQ _),TO,Wv (by omega)]at h1;refine⟨h1,by omega,?_⟩;have h2:(h.take (pre.length+1))[pre.length]?=(pre++[v])[pre.length]?:=by rw[e]
  rw[Uf,if_pos (by omega),S9 (SQ _),Ve]at h2;rw[SE,h2];rfl
 ·rintro⟨h1,h2,h3⟩
  rw[VF,h1];congr 1;rw[SE,SY h2]at h3;rw[SY h2,<- h3];rfl
theorem GV{h:List Int}(hm:tQ h):∀(ys:List aD)(t ns:List Int),ns∈mH h ys t<->ns.length=t.length+ys.length/\ns.take t.length=t/\∀i y,ys[i]?=some y->fits h y (ns.getD (t.length+i) 0)=true/\ns.getD (t.length+i) 0∉ns.take (t.length+i)
 |[],t,ns=>by
  simp only[mH,S8,UR,UD];constructor
  ·rintro rfl;exact⟨rfl,TO,λi y hy=>by cases hy⟩
  ·rintro⟨h1,h2,_⟩;rw[<- h2,SP (by omega)]
 |y::ys,t,ns=>by
  simp only[mH,S6,Uw,Tg,TZ,Uk];constructor
  ·rintro⟨n,⟨_,hf,ht⟩,fM⟩
   rw[GV hm ys (t++[n]) ns]at fM;obtain⟨h1,h2,h3⟩:=fM;rw[S4,T9]at h1 h2 h3;obtain⟨h4,h5,h6⟩:=(HB (d:=0)).1 h2;refine⟨by omega,h4,λi z hz=> ?_⟩
   match i,hz with
   |0,hz=>
    cases hz;rw[UD,h6,h4];refine⟨hf,?_⟩;intro hc;rw[Uq]at ht;simp at ht;exact ht hc
   |i+1,hz=>
    have:=h3 i z hz;rw[show t.length+1+i=t.length+(i+1) by omega]at this;exact this
  ·rintro⟨h1,h2,h3⟩
   obtain⟨hf,hn⟩:=h3 0 y rfl;rw[UD]at hf hn;rw[h2]at hn;refine⟨ns.getD t.length 0,⟨aiI hm hf,hf,by rw[Uq];simpa using hn⟩,?_⟩;rw[GV hm ys _ ns,S4,T9];refine⟨by omega,(HB (d:=0)).2 ⟨h2,by omega,rfl⟩,λi z hz=> ?_⟩;have:=h3 (i+1) z hz;rw[show t.length+(i+1)=t.length+1+i by omega]at this;exact this
theorem G8{h ns:List Int}:∀(ss:List aD)(t os:List Nat),os∈py h ns ss t<->os.length=t.length+ss.length/\os.take t.length=t/\∀i s,ss[i]?=some s->fits h s (ns.getD (os.getD (t.length+i) 0) 0)=true/\os.getD (t.length+i) 0<ns.length/\os.getD (t.length+i) 0∉os.take (t.length+i)
 |[],t,os=>by
  simp only[py,S8,UR,UD];constructor
  ·rintro rfl;exact⟨rfl,TO,λi y hy=>by cases hy⟩
  ·rintro⟨h1,h2,_⟩;rw[<- h2,SP (by omega)]
 |s::ss,t,os=>by
  simp only[py,S6,Uw,Tg,TZ,Uk,TP];constructor
  ·rintro⟨n,⟨hlt,hf,ht⟩,fM⟩
   rw[G8 ss (t++[n]) os]at fM;obtain⟨h1,h2,h3⟩:=fM;rw[S4,T9]at h1 h2 h3;obtain⟨h4,h5,h6⟩:=(HB (d:=0)).1 h2;refine⟨by omega,h4,λi z hz=> ?_⟩
   match i,hz with
   |0,hz=>
    cases hz;rw[UD,h6,h4];refine⟨hf,hlt,?_⟩;intro hc;rw[Uq]at ht;simp at ht;exact ht hc
   |i+1,hz=>
    have:=h3 i z hz;rw[show t.length+1+i=t.length+(i+1) by omega]at this;exact this
  ·rintro⟨h1,h2,h3⟩
   obtain⟨hf,hlt,hn⟩:=h3 0 s rfl;rw[UD]at hf hlt hn;rw[h2]at hn;refine⟨os.getD t.length 0,⟨hlt,hf,by rw[Uq];simpa using hn⟩,?_⟩;rw[G8 ss _ os,S4,T9];refine⟨by omega,(HB (d:=0)).2 ⟨h2,by omega,rfl⟩,λi z hz=> ?_⟩;have:=h3 (i+1) z hz;rw[show t.length+(i+1)=t.length+1+i by omega]at this;exact this
end Go.Gg.Tk
namespace Go.Gg
open Go.Gg.Tk
namespace Tk
structure N8 (x:ak)(u:Tr):Prop where
 bz:nM x.first x.an u.bz x.hours.toNat
 seen:∀s∈x.seen,j4 s.next (u.bz.getD s.hour.toNat 0)=true
 uW:u.aB.length=x.pieces.length
 piece:∀(p:Nat) y,x.pieces[p]?=some y->fits u.bz y (u.aB.getD p 0)=true
 Dl:u.aB.Nodup
 wx:u.bS.length=x.aC.length
 own:∀v∈u.bS,v<x.pieces.length
 stub:∀(s:Nat) y,x.aC[s]?=some y->fits u.bz y (u.aB.getD (u.bS.getD s 0) 0)=true
 Dp:u.bS.Nodup
theorem _root_.Go.Gg.nM.mono{first an:Int}{l:List Int}{i:Nat}(h:nM first an l i):tQ l:=am4 λj hj=>(h.step j (by have:=h.len;omega)).1
theorem ake{x:ak}(hx:x.Ok){h:List Int}:h∈aK x<->nM x.first x.an h x.hours.toNat/\∀s∈x.seen,j4 s.next (h.getD s.hour.toNat 0)=true:=by
 have hp:=hx.an;unfold aK;rw[KM _ _ _ (by simp)];simp only[T9];constructor
 ·rintro⟨h1,h2,h3⟩
  have h4:=(HA (pre:=[]) (v:=x.first)).1 h2;refine⟨⟨by omega,h4.2.2,λj hj=> ?_⟩,λs hs=> ?_⟩
  ·obtain⟨n,hn,e⟩:=(h3 j (by omega) (by omega)).2 (by omega);omega
  ·have hsr:=(hx.seen s hs).1;have:=(h3 s.hour.toNat (by omega) (by omega)).1;unfold rR at this;have:=Tv.1 this s hs;have e:s.hour=(s.hour.toNat:Int):=(by omega);rw[<- e]at this;simpa using this
 ·rintro⟨h1,h2⟩
  have hl:=h1.len;refine⟨by omega,(HA (pre:=[]) (v:=x.first)).2 ⟨rfl,by simp;omega,h1.head⟩,λj _ hj=>⟨?_,λFM=> ?_⟩⟩
  ·unfold rR;rw[Tv];intro s hs;by_cases e:s.hour=(j:Int)
   ·have:=h2 s hs;rw[show s.hour.toNat=j by omega]at this;rw[this];simp
   ·simp[e]
  ·have:=h1.step j (by omega);exact⟨(h.getD (j+1) 0-h.getD j 0).toNat,by omega,by omega⟩
theorem arE{x:ak}{u:Tr}:u∈b_ x<->u.bz∈aK x/\u.aB∈mH u.bz x.pieces []/\u.bS∈py u.bz u.aB x.aC []:=by
 constructor
 ·intro hu;obtain⟨h,a,b⟩:=S6.1 hu;obtain⟨ns,c,d⟩:=S6.1 b;obtain⟨os,e,rfl⟩:=Tl.1 d;exact⟨a,c,e⟩
 ·rintro⟨a,b,c⟩
  exact S6.2 ⟨u.bz,a,S6.2 ⟨u.aB,b,Tl.2 ⟨u.bS,c,rfl⟩⟩⟩
theorem ajb{l:List Nat}{i:Nat}(h:i<l.length):l.getD i 0∈l:=by
 rw[SE,SY h];exact Wr h
theorem Dc{x:ak}(hx:x.Ok){u:Tr}:u∈b_ x<->N8 x u:=by
 rw[arE,ake hx];constructor
 ·rintro⟨⟨h1,h2⟩,h3,h4⟩
  have hm:=h1.mono;rw[GV hm]at h3;rw[G8]at h4;simp only[UR,Wp]at h3 h4;obtain⟨a1,_,a3⟩:=h3;obtain⟨b1,_,b3⟩:=h4;refine⟨h1,h2,a1,λp y hy=>(a3 p y hy).1,aa7 (d:=0) λi hi=> ?_,b1,λv hv=> ?_,λs y hy=>(b3 s y hy).1,aa7 (d:=0) λi hi=> ?_⟩
  ·obtain⟨y,hy⟩:∃y,x.pieces[i]?=some y:=⟨_,SY (by omega)⟩;exact(a3 i y hy).2
  ·obtain⟨i,hi⟩:=UZ hv;have bF:=(SL.1 hi).1;obtain⟨y,hy⟩:∃y,x.aC[i]?=some y:=⟨_,SY (by omega)⟩;have:=(b3 i y hy).2.1;rw[SE,hi]at this;rw[<- a1];exact this
  ·obtain⟨y,hy⟩:∃y,x.aC[i]?=some y:=⟨_,SY (by omega)⟩;exact(b3 i y hy).2.2
 ·intro h;refine⟨⟨h.bz,h.seen⟩,?_,?_⟩
  ·rw[GV h.bz.mono];simp only[UR,Wp];refine⟨h.uW,rfl,λi y hy=>⟨h.piece i y hy,Qw ?_ h.Dl⟩⟩;have:=(SL.1 hy).1;rw[h.uW];exact this
  ·rw[G8];simp only[UR,Wp];refine⟨h.wx,rfl,λi y hy=> ?_⟩;have hi:=(SL.1 hy).1;have us:i<u.bS.length:=(by rw[h.wx];exact hi);exact⟨h.stub i y hy,by rw[h.uW];exact h.own _ (ajb us),Qw us h.Dp⟩
end Tk
open Go.Gg.Tk
theorem alX{first an:Int}{l:List Int}{i:Nat}(h:nM first an l i):l.getLastD 0=l.getD i 0:=by
 have hl:=h.len;rw[Vh,Yd,SE,hl];rfl
theorem aj5{first an:Int}{l:List Int}{i:Nat}(h:nM first an l i):l.headD 0=first:=by
 have hl:=h.len;have:=h.head;cases l with
 |nil=>cases hl
 |cons a l=>exact this
theorem nM.top{first an:Int}{l:List Int}{i:Nat}(h:nM first an l i)(hf:0<=first/\first<=90)(hp:1<=an/\an<=3)(hi:i<=3):∀j,j<=i->first<=l.getD j 0/\l.getD j 0<=first+9:=λj hj=>by
 have h1:=h.ge (by omega) j hj;have:an* (j:Int)<=3* 3:=Yg (by omega) (by omega) (by omega) (by omega);generalize an* (j:Int)=q at h1 this;omega
theorem J6{first an:Int}{l:List Int}{i:Nat}(h:nM first an l i)(hi:1<=i/\i<=3)(hf:0<=first/\first<=90)(hp:1<=an/\an<=3){n:Int}(hn:first<=n/\n<l.getD i 0)(τ:aZ):Ee l i n (lq τ l n i):=by
 have hl:=h.len;have hm:=h.mono;have ht:=h.top hf hp hi.2 i (SQ _);have hk:=arq (n:=n) (by omega) (by omega) hm;have h0:0<=je l n:=(adf hm).2 (by rw[aj5 h,alX h];exact hn);have h1:=ade l 0 h0;have JJ:je l n+1<l.length:=by have:fq 0 l n=je l n:=rfl;omega
 have a1:=BA (τ:=τ) (n:=n) (m:=2) (lo:=0) (hi:=99) (by omega) (by omega);have a2:=BA (τ:=tick (tick τ)) (n:=je l n) (m:=1) (lo:=0) (hi:=(i:Int)-1) (by omega) (by omega);refine⟨a1.1,?_,?_⟩
 ·unfold lq;rw[hk];exact a2.1
 ·unfold Tk.fits lq;rw[hk,Tg,Tg,decide_eq_true_eq];exact⟨⟨h0,a1.2⟩,a2.2⟩
variable {pm:Nat}{x:ak}{bz aB bS:List Int}
theorem Made.Q5(h:Made pm x bz aB bS){n:Int}(hn:n∈aB)(τ:aZ):Ee bz x.hours n (lq τ bz n x.hours):=by
 have hh:=h.hours;have:=J6 h.FL (by omega) h.first h.an (h.num n hn) τ;rw[Int.toNat_of_nonneg (by omega)]at this;exact this
theorem zw{l:List Int}{i:Nat}(h:i<l.length):l.getD i 0∈l:=by
 rw[SE,SY h];exact Wr h
theorem Made.OA(h:Made pm x bz aB bS){p:Nat}{y:aD}(hy:x.pieces[p]?=some y):Ee bz x.hours (aB.getD p 0) y:=by
 obtain⟨τ,rfl⟩:=h.piece p y hy;exact h.Q5 (zw (by rw[h.uW];exact(SL.1 hy).1)) τ
theorem Made.OC(h:Made pm x bz aB bS){s:Nat}{y:aD}(hy:x.aC[s]?=some y):Ee bz x.hours (aB.getD (bS.getD s 0).toNat 0) y:=by
 obtain⟨τ,rfl⟩:=h.stub s y hy;have hs:s<bS.length:=by rw[h.wx];exact(SL.1 hy).1
 have:=h.own _ (zw hs);exact h.Q5 (zw (by omega)) τ
theorem Made.ok(h:Made pm x bz aB bS)(rz:pm<=4):x.Ok:=by
 have hh:=h.hours;refine⟨h.first,h.hours,h.an,by have:=h.tE;omega,by have:=h.am5;omega,h.aC,λs hs=> ?_,λy hy=> ?_,λy hy=> ?_⟩
 ·obtain⟨h1,h2,τ,h3⟩:=h.seen s hs;have ht:=h.FL.top h.first h.an (by omega) s.hour.toNat (by omega);have hf:=h.first;rw[h3];exact⟨⟨h1,h2⟩,(BA (by omega) (by omega)).1⟩
 ·obtain⟨p,hp⟩:=UZ hy;have:=h.OA hp;exact⟨this.num,this.hour⟩
 ·obtain⟨p,hp⟩:=UZ hy;have:=h.OC hp;exact⟨this.num,this.hour⟩
def abT (bz aB bS:List Int):Tr:=⟨bz,aB,bS.map X9⟩
theorem Made.arz(h:Made pm x bz aB bS):N8 x (abT bz aB bS):=by
 have hh:=h.hours;have o5:∀s,s<bS.length->(bS.map X9).getD s 0=(bS.getD s 0).toNat:=λs hs=>by
  rw[SE,SE,Tm,SY hs];rfl
 refine⟨h.FL,λs hs=> ?_,h.uW,λp y hy=>(h.OA hy).fits,h.Dl,by show (bS.map X9).length=_;rw[Tn];exact h.wx,λv hv=> ?_,λs y hy=> ?_,?_⟩
 ·obtain⟨h1,h2,τ,h3⟩:=h.seen s hs;have ht:=h.FL.top h.first h.an (by omega) s.hour.toNat (by omega);have hf:=h.first;rw[h3];exact(BA (by show _<=bz.getD _ _/\_;omega) (by omega)).2
 ·obtain⟨w,hw,rfl⟩:=Tl.1 hv;have:=h.own w hw;have:=h.uW;omega
 ·have hs:s<bS.length:=by rw[h.wx];exact(SL.1 hy).1
  show Tk.fits bz y (aB.getD ((bS.map X9).getD s 0) 0)=true;rw[o5 s hs];exact(h.OC hy).fits
 ·show (bS.map X9).Nodup;rw[Ut,Xv];refine Xu ?_ (Ut.1 h.Dp);intro a c ha hc aI e;have h1:=h.own a ha;have h2:=h.own c hc;omega
theorem Made.mem(h:Made pm x bz aB bS)(rz:pm<=4):abT bz aB bS∈b_ x:=(Dc (h.ok rz)).2 h.arz
theorem Made.ne(h:Made pm x bz aB bS)(rz:pm<=4):b_ x≠[]:=λe=>by
 have:=h.mem rz;rw[e]at this;cases this
variable {x:ak}
namespace Tk
end Tk
variable {x:ak}
open Go.Gg.Tk
variable {x:ak}
namespace Tk
theorem aa6{α:Type}[DecidableEq α]:∀{l m:List α},l.Nodup->(∀a∈l,a∈m)->l.length<=m.length
 |[],m,_,_=>W2 _
 |a::l,m,h,hs=>by
  have ha:=hs a (by simp);obtain⟨h1,h2⟩:=VD.1 h;have:=aa6 (m:=m.erase a) h2 λb hb=>(List.mem_erase_of_ne (λe=>h1 (by rw[<- e];exact hb))).2 (hs b (by simp[hb]));have h3:=List.length_erase_of_mem ha;have h4:=List.length_pos_of_mem ha;rw[Uk];omega
theorem amv(x:ak):(live x).Nodup:=(RG x).filter _
theorem Pf{x z:ak}(h:∀u∈b_ x,∃w∈b_ z,w.bz=u.bz):cnt x<=cnt z:=by
 have:=aa6 (l:=live x) (m:=live z) (amv x) λg hg=>by
  obtain⟨u,hu,rfl⟩:=Ao.1 hg;obtain⟨w,hw,e⟩:=h u hu;exact Ao.2 ⟨w,hw,e⟩
 unfold cnt;omega
def Hc (x:ak)(q:Int):ak:={x with an:=q}
def pA (x:ak)(p:Nat)(y:aD):ak:={x with pieces:=x.pieces.set p y}
end Tk
variable {x:ak}
theorem abG(hx:x.Ok){q:Int}(hq:x.an<=q/\q<=3):(Hc x q).Ok:=
 ⟨hx.first,hx.hours,⟨by have:=hx.an;show 1<=q;omega,hq.2⟩,hx.tE,hx.dY,hx.di,hx.seen,λz hz=>⟨(hx.piece z hz).1,(hx.piece z hz).2⟩,λz hz=>⟨(hx.stub z hz).1,(hx.stub z hz).2⟩⟩
theorem aoe(hx:x.Ok){q:Int}(hq:x.an<=q/\q<=3):cnt x<=cnt (Hc x q):=
 Pf λu hu=>⟨u,(Dc (abG hx hq)).2 (by
  have h:=(Dc hx).1 hu;exact⟨⟨h.bz.len,h.bz.head,λj hj=>by have:=h.bz.step j hj;show _/\_<=_+q;omega⟩,h.seen,h.uW,h.piece,h.Dl,h.wx,h.own,h.stub,h.Dp⟩),rfl⟩
theorem acp(hx:x.Ok){p:Nat}{y:aD}(hy:yR x y):(pA x p y).Ok:=by
 refine⟨hx.first,hx.hours,hx.an,hx.tE,by unfold pA;simpa using hx.dY,hx.di,hx.seen,λz hz=> ?_,λz hz=>⟨(hx.stub z hz).1,(hx.stub z hz).2⟩⟩;rcases Up hz with hz|rfl
 ·exact⟨(hx.piece z hz).1,(hx.piece z hz).2⟩
 ·exact⟨hy.1,hy.2⟩
theorem ap4(hx:x.Ok){p:Nat}{y z:aD}(hy:x.pieces[p]?=some y)(hz:yR x z)(h1:z.number.min<=y.number.min/\y.number.max<=z.number.max)(h2:z.hour.min<=y.hour.min/\y.hour.max<=z.hour.max):cnt x<=cnt (pA x p z):=
 Pf λu hu=>⟨u,(Dc (acp hx hz)).2 (by
  have h:=(Dc hx).1 hu;have hp:=(SL.1 hy).1;have hl:(pA x p z).pieces.length=x.pieces.length:=by unfold pA;simp
  refine⟨h.bz,h.seen,by rw[hl];exact h.uW,λq w hw=> ?_,h.Dl,h.wx,λv hv=>by rw[hl];exact h.own v hv,h.stub,h.Dp⟩;unfold pA at hw;rw[UM]at hw;by_cases hq:p=q
  ·subst hq;rw[if_pos rfl,if_pos hp]at hw;cases hw;have:=h.piece p y hy;unfold fits j4 at this⊢;simp only[Tg,decide_eq_true_eq]at this⊢;obtain⟨⟨a,b,c⟩,d,e⟩:=this;exact⟨⟨a,by omega,by omega⟩,by omega,by omega⟩
  ·rw[if_neg hq]at hw;exact h.piece q w hw),rfl⟩
open Go.Conc Go.Proofs Go.Gg.Tk
theorem No{ys:List aD}{p:Nat}{y:aD}{s:Nat}{l:List AV}(hp:p<ys.length)(e:y.l=l):TH (p* 4) (ys.flatMap aD.l)++l++TR (p* 4+4) (ys.flatMap aD.l)=(ys.set p y).flatMap aD.l:=by
 subst e;rw[XM,if_pos hp,Vx,Ub,JC aD.len,show p* 4+4=(p+1)* 4 by omega,xj aD.len,SC]
theorem ap6{ys:List aD}{p:Nat}{y:aD}(hy:ys[p]?=some y)(a b:Int):TH (p* 4+0) (ys.flatMap aD.l)++[iv a,iv b]++TR (p* 4+0+2) (ys.flatMap aD.l)=(ys.set p ⟨⟨a,b⟩,y.hour⟩).flatMap aD.l:=by
 obtain⟨hp,rfl⟩:=SL.1 hy;rw[<- No (s:=0) (p:=p) (y:=⟨⟨a,b⟩,ys[p].hour⟩) hp rfl];have e:TR (p* 4+2) (ys.flatMap aD.l)=iv ys[p].hour.min::iv ys[p].hour.max::TR (p* 4+4) (ys.flatMap aD.l):=by
  have h1:TR (p* 4) (ys.flatMap aD.l)=ys[p].l++TR (p* 4+4) (ys.flatMap aD.l):=by
   rw[xj aD.len,show p* 4+4=(p+1)* 4 by omega,xj aD.len,TQ hp,Ub]
  rw[<- aj',h1];rfl
 rw[UD,e];simp[aD.l,io.l]
section
variable {lv:Bool}{P:SI}{r:Option Nat}
theorem OL{nt:Nat}{c:T6}{T:List (Nat×AV)}{H:List aa}{ya nD j cap:Nat}{ps:List aD}{l:List AV}{el:TypeId}{Φ:ao->AS->Prop}(h1:H[ya]?=some (.own 4 (ps.flatMap aD.l) 48))(h2:H[nD]?=some (.cells l el))(aI:ya≠nD)(h3:l[j]?=some (.bh ya 0 ps.length cap))(h:aQ lv P r nt c ⟨T,(H.set ya (.part (ps.length* 4) (ps.flatMap aD.l) 48)).set nD (.cells (l.set j (aT ps)) el)⟩ Φ):aQ lv P r nt c ⟨T,H⟩ Φ:=by
 have hl:(ps.flatMap aD.l).length=ps.length* 4:=mb aD.len _;refine afi (id:=ya) h1 ?_;have hlt:=(SL.1 h1).1;refine Ix (id:=nD) (j:=j) (y:=aT ps) (el:=el) (by rw[T8 aI];exact h2) h3 ?_ ?_
 ·have e:aT ps=.sl ps.length ((ps.flatMap aD.l).take (ps.length* 4)) .shut:=by rw[SP (by omega)];rfl
  rw[e];exact HL (p:=(ps.flatMap aD.l).length) (l:=ps.flatMap aD.l) (el:=48) (by rw[UM,if_pos rfl,if_pos hlt]) (by omega) (by omega)
 ·rw[hl];exact h
end
def vd (i:Int)(y:aD):Prop:=qD y.number 99/\qD y.hour (i-1)
theorem ap5{ys:List aD}{p:Nat}{y:aD}(hy:ys[p]?=some y)(a b:Int):TH (p* 4+2) (ys.flatMap aD.l)++[iv a,iv b]++TR (p* 4+2+2) (ys.flatMap aD.l)=(ys.set p ⟨y.number,⟨a,b⟩⟩).flatMap aD.l:=by
 obtain⟨hp,rfl⟩:=SL.1 hy;rw[<- No (s:=0) (p:=p) (y:=⟨ys[p].number,⟨a,b⟩⟩) hp rfl];have e:TH (p* 4+2) (ys.flatMap aD.l)=TH (p* 4) (ys.flatMap aD.l)++[iv ys[p].number.min,iv ys[p].number.max]:=by
  have h1:TR (p* 4) (ys.flatMap aD.l)=ys[p].l++TR (p* 4+4) (ys.flatMap aD.l):=by
   rw[xj aD.len,show p* 4+4=(p+1)* 4 by omega,xj aD.len,TQ hp,Ub]
  rw[List.take_add,h1];rfl
 rw[e,show p* 4+2+2=p* 4+4 from rfl];simp[aD.l,io.l]
section
variable {lv:Bool}{Gf:aZ->List aa}{t N:Nat}{b:Int}
theorem ahG{i mn np ns c:Nat}{first an:Int}{sv pv Dq Dg oY:AV}{gP:List aa}{di:List aD}{ρ:aZ}{zc:aa}{YY:List AV->Nat->Nat->Nat->List aa}{Φ:ao->AS->Prop}(hT:dB Gf t N)(hY:YW Gf N zc YY)(xJ:gP.length=np)(hb:b<2^10)(oh:0<=first/\first<=90)(ru:mn<=9)(iA:ns<=3)(cG:di.length=ns)(pf:∀y∈di,vd i y)(hρ:ρ.Ok (b+97))
  (hk:∀yC ρ',yC.length=ns->(∀y∈yC,vd i y)->ρ'.Ok (b+100)->aQ lv SA none 240 (mZ 13 nV) ⟨[(16,Dq),(15,Dg),(13,iv mn),(11,oY),(10,.op (N+1) 0),(6,.op N 0),(0,.op t 0),(2,bv false)],Gf ρ'++(YY [iv first,iv i,iv an,sv,pv,fl (N+6+np) ns] c np ns++(gP++gO ns (fC yC)))⟩ Φ):
  aQ lv SA none 240 (mZ 12 nV) ⟨[(16,Dq),(15,Dg),(13,iv mn),(11,oY),(10,.op (N+1) 0),(6,.op N 0),(0,.op t 0),(2,bv false)],Gf ρ++(YY [iv first,iv i,iv an,sv,pv,fl (N+6+np) ns] c np ns++(gP++gO ns (fC di)))⟩ Φ:=by
 obtain⟨uk,rc,y0,y1,y3,y4,y5,mK,yH,A0,A1,pS,sK,cx⟩:=hY;have gz:∀L:List aa,dB (λτ=>Gf τ++L) t (N+L.length):=λL=>hT.more L;have w1:∀τ r c d e X m,(Gf τ++(YY r c d e++(gP++X)))[N+6+np+m]?=X[m]?:=λτ r c d e X m=>by rw[U0 (N+6),pS,S9 (by omega),xJ,TU]
 have v1:∀τ r c d e X m y,(Gf τ++(YY r c d e++(gP++X))).set (N+6+np+m) y=Gf τ++(YY r c d e++(gP++X.set m y)):=λτ r c d e X m y=>by rw[U0 (N+6),sK,T_ _ _ (by omega),xJ,TU]
 unfold nV WR at hk⊢;dsimp only[S7,mZ,cs,cf]at hk⊢;rcases UF ns with h0|h0
 ·subst h0;have e0:fl (N+6+np) 0=.sl 0 [] .exact:=rfl;simp only[e0]at hk⊢;refine aj ?_;simp only[seval,y1];refine aj ?_;simp only[seval,decide_false,show decide ((0:Int)>0)=false from rfl];refine aF ?_;refine aO ?_;refine pJ ?_ (hk di ρ cG pf (hρ.mono (by omega)));exact eo (by simp only[seval];simp[bC,Wk.refl]) rfl
 ·obtain⟨n2,qe⟩:∃n2,ns=n2+1:=⟨ns-1,by omega⟩;have CK:fl (N+6+np) ns=.bh (N+6+np+n2) 0 ns 0:=by rw[qe];rfl
  have ur:∀o,(gO ns o)[n2]?=some o:=λo=>by rw[qe];have:=BZ n2 o [];rwa [SN]at this
  have uF:∀o o',(gO ns o).set n2 o'=gO ns o':=λo o'=>by rw[qe];have:=B0 n2 o o' [];rwa [SN,SN]at this
  have hd:decide ((ns:Int)>0)=true:=by simp;omega
  rw[CK];simp only[CK]at hk;refine aj ?_;simp only[seval,y1];refine aj ?_;simp only[seval,hd];refine aL ((EQ (n:=3) (gz _) hρ (by omega) (by decide) ?_));(try simp only[seval]);refine aF ?_;refine⟨λhc=> ?_,λhc=> ?_⟩
  ·have bP:SD.wrap ((ns:Int)-1)=(ns:Int)-1:=bB _ (by omega);have gF:SD.wrap (first+(mn:Int))=first+(mn:Int):=bB _ (by omega)
   have r1:=jM (tick ρ) ((ns:Int)-1);refine aj ?_;simp only[seval,bP];refine aL ((my (n:=(ns:Int)-1) (gz _) hρ.tick (by omega) (by omega) ?_));obtain⟨q,hq⟩:∃q:Nat,cU (tick ρ) ((ns:Int)-1)=q:=⟨(cU (tick ρ) ((ns:Int)-1)).toNat,by omega⟩;rw[hq];have z_:q<ns:=(by omega);(try simp only[seval]);refine aj ?_;simp only[seval,y1,gF];have r2:=HK (tick (tick ρ)) (show first<=first+(mn:Int) by omega);refine aL ((EP (lo:=first) (hi:=first+(mn:Int)) (gz _) hρ.tick.tick (by omega) (by omega) (by omega) ?_));generalize wK (tick (tick ρ)) first (first+(mn:Int))=a at r2⊢
   (try simp only[seval]);obtain⟨y,hy⟩:=cj (xs:=di) (i:=q) (by omega);have Gm:=pf y (Tc hy);have xV:=ap6 hy a a;simp only[iv]at xV;have Cj:(0<=(q:Int)/\(q:Int)<(ns:Int))=True:=(by simp;omega);unfold fC at hk⊢;refine aj ?_;simp only[seval,y1,w1,v1,ur,uF,Cj];refine⟨by rw[mb aD.len];omega,?_⟩;rw[xV];have s8:∀z∈di.set q ⟨⟨a,a⟩,y.hour⟩,vd i z:=λz hz=>by
    rcases Up hz with hz|rfl
    ·exact pf z hz
    ·exact⟨⟨by show 0<=a;omega,WJ a,by show a<=99;omega⟩,Gm.2⟩
   refine pJ ?_ (hk (di.set q ⟨⟨a,a⟩,y.hour⟩) (tick (tick (tick ρ))) (by rw[TC];exact cG) s8 (hρ.tick.tick.tick.mono (by omega)));exact eo (by simp only[seval];simp[bC,Wk.refl]) rfl
  ·refine aO ?_;refine pJ ?_ (hk di (tick ρ) cG pf (hρ.tick.mono (by omega)));exact eo (by simp only[seval];simp[bC,Wk.refl]) rfl
theorem ahE{i mn np ns c:Nat}{first an:Int}{sv tv Dq Dg oY:AV}{gS:List aa}{di:List aD}{ρ:aZ}{zc:aa}{YY:List AV->Nat->Nat->Nat->List aa}{Φ:ao->AS->Prop}(hT:dB Gf t N)(hY:YW Gf N zc YY)(hb:b<2^10)(hi:1<=i/\i<=3)(iA:np<=4)(cG:di.length=np)(pf:∀y∈di,vd i y)(hρ:ρ.Ok (b+100))
  (hk:∀yC ρ',yC.length=np->(∀y∈yC,vd i y)->ρ'.Ok (b+110)->aQ lv SA none 240 (mZ 14 nV) ⟨[(16,Dq),(15,Dg),(13,iv mn),(11,oY),(10,.op (N+1) 0),(6,.op N 0),(0,.op t 0),(2,bv false)],Gf ρ'++(YY [iv first,iv i,iv an,sv,fl (N+6) np,tv] c np ns++(gO np (fC yC)++gS))⟩ Φ):
  aQ lv SA none 240 (mZ 13 nV) ⟨[(16,Dq),(15,Dg),(13,iv mn),(11,oY),(10,.op (N+1) 0),(6,.op N 0),(0,.op t 0),(2,bv false)],Gf ρ++(YY [iv first,iv i,iv an,sv,fl (N+6) np,tv] c np ns++(gO np (fC di)++gS))⟩ Φ:=by
 obtain⟨uk,rc,y0,y1,y3,y4,y5,mK,yH,A0,A1,pS,sK,cx⟩:=hY;have gz:∀L:List aa,dB (λτ=>Gf τ++L) t (N+L.length):=λL=>hT.more L;unfold nV WR at hk⊢;dsimp only[S7,mZ,cs,cf]at hk⊢;rcases UF np with h0|h0
 ·subst h0;have e0:fl (N+6) 0=.sl 0 [] .exact:=rfl;simp only[e0]at hk⊢;refine aj ?_;simp only[seval,y1];refine aj ?_;simp only[seval,decide_false,show decide ((0:Int)>0)=false from rfl];refine aF ?_;refine aO ?_;refine pJ ?_ (hk di ρ cG pf (hρ.mono (by omega)));exact eo (by simp only[seval];simp[bC,Wk.refl]) rfl
 ·obtain⟨n2,qe⟩:∃n2,np=n2+1:=⟨np-1,by omega⟩;have CK:fl (N+6) np=.bh (N+6+n2) 0 np 0:=by rw[qe];rfl
  have ur:∀o,(gO np o++gS)[n2]?=some o:=λo=>by rw[qe];exact BZ n2 o gS
  have uF:∀o o',(gO np o++gS).set n2 o'=gO np o'++gS:=λo o'=>by rw[qe];exact B0 n2 o o' gS
  have hd:decide ((np:Int)>0)=true:=by simp;omega
  rw[CK];simp only[CK]at hk;refine aj ?_;simp only[seval,y1];refine aj ?_;simp only[seval,hd];refine aL ((EQ (n:=4) (gz _) hρ (by omega) (by decide) ?_));(try simp only[seval]);refine aF ?_;refine⟨λhc=> ?_,λhc=> ?_⟩
  ·have bP:SD.wrap ((np:Int)-1)=(np:Int)-1:=bB _ (by omega);have gF:SD.wrap (i-1)=i-1:=bB _ (by omega);have r1:=jM (tick ρ) ((np:Int)-1);refine aj ?_;simp only[seval,bP];refine aL ((my (n:=(np:Int)-1) (gz _) hρ.tick (by omega) (by omega) ?_));obtain⟨q,hq⟩:∃q:Nat,cU (tick ρ) ((np:Int)-1)=q:=⟨(cU (tick ρ) ((np:Int)-1)).toNat,by omega⟩;rw[hq];have z_:q<np:=(by omega);(try simp only[seval]);have r2:=jM (tick (tick ρ)) (i-1);refine aj ?_;simp only[seval,y1,gF];refine aL ((my (n:=i-1) (gz _) hρ.tick.tick (by omega) (by omega) ?_));generalize cU (tick (tick ρ)) (i-1)=a at r2⊢;(try simp only[seval]);obtain⟨y,hy⟩:=cj (xs:=di) (i:=q) (by omega);have Gm:=pf y (Tc hy);have xV:=ap5 hy a a;simp only[iv]at xV;have Cj:(0<=(q:Int)/\(q:Int)<(np:Int))=True:=(by simp;omega);unfold fC at hk⊢;refine aj ?_;simp only[seval,y1,pS,sK,ur,uF,Cj];refine⟨by rw[mb aD.len];omega,?_⟩;rw[xV];have s8:∀z∈di.set q ⟨y.number,⟨a,a⟩⟩,vd i z:=λz hz=>by
    rcases Up hz with hz|rfl
    ·exact pf z hz
    ·exact⟨Gm.1,⟨by show 0<=a;omega,WJ a,by show a<=i-1;omega⟩⟩
   refine pJ ?_ (hk (di.set q ⟨y.number,⟨a,a⟩⟩) (tick (tick (tick ρ))) (by rw[TC];exact cG) s8 (hρ.tick.tick.tick.mono (by omega)));exact eo (by simp only[seval];simp[bC,Wk.refl]) rfl
  ·refine aO ?_;refine pJ ?_ (hk di (tick ρ) cG pf (hρ.tick.mono (by omega)));exact eo (by simp only[seval];simp[bC,Wk.refl]) rfl
end
section
variable {lv:Bool}{P:SI}{r:Option Nat}
theorem OM{nt:Nat}{c:T6}{T:List (Nat×AV)}{Φ:ao->AS->Prop}{P0 Q0:List aa}{M n nD j:Nat}{l:List aD}{cl:List AV}(hM:P0.length=M)(hl:l.length=n)(KI:P0[nD]?=some (.cells cl 26))(hj:cl[j]?=some (fl M n))(h:∀G',G'.length=n->aQ lv P r nt c ⟨T,P0.set nD (.cells (cl.set j (aT l)) 26)++(G'++Q0)⟩ Φ):aQ lv P r nt c ⟨T,P0++(gO n (fC l)++Q0)⟩ Φ:=by
 have hlt:=(SL.1 KI).1
 match n,hl with
 |0,hl=>
  obtain rfl:l=[]:=VA hl;refine Ix (id:=nD) (j:=j) (y:=aT []) (el:=26) (l:=cl) (x:=.sl 0 [] .exact) ?_ hj (yW.of (gV 0 [] .exact)) ?_
  ·show (P0++([]++Q0))[nD]?=_;rw[SX hlt];exact KI
  ·show aQ lv P r nt c ⟨T,(P0++([]++Q0)).set nD _⟩ Φ;rw[US _ _ hlt];exact h [] rfl
 |n+1,hl=>
  refine OL (ya:=M+n) (nD:=nD) (j:=j) (cap:=0) (ps:=l) (l:=cl) (el:=26) ?_ ?_ (by omega) (by rw[hl];exact hj) ?_
  ·rw[<- hM,S9 (by omega),TU,BZ];rfl
  ·rw[SX hlt];exact KI
  ·rw[T_ _ _ (by omega),<- hM,TU,B0,US _ _ hlt];exact h _ (xn _ _)
end
section
variable {lv:Bool}{k kp:AV->List aa->Prop}{Gf:aZ->List aa}{t N:Nat}{b:Int}
theorem ahB{i mn np ns c:Nat}{first an:Int}{l aB bS:List Int}{ss:List Seen}{dY di:List aD}{ρ:aZ}{zc:aa}{YY:List AV->Nat->Nat->Nat->List aa}(hT:dB Gf t N)(hH:∀τ,bH (Gf τ))(hY:YW Gf N zc YY)(wh:zc=.cells [.val (.int .i64 0),.val (.int .i64 0),.val (.int .i64 0),.sl 0 [] .exact,.sl 0 [] .exact,.sl 0 [] .exact] 26)(hO:l.length=i+1)(F0:dY.length=np)(ju:aB.length=np)(nz:di.length=ns)(FX:bS.length=ns)(hc:ss.length=c)
  (hk:k (.aN [ak.av ⟨first,i,an,ss,dY,di⟩,bu l,bu aB,bu bS]) (Gf ρ)):
  aQ lv SA none 240 (mZ 14 nV) ⟨[(16,.sl ns (bS.map iv) (.opn (N+5))),(15,.sl np (aB.map iv) (.opn (N+4))),(13,iv mn),(11,.sl (i+1) (l.map iv) (.opn (N+2))),(10,.op (N+1) 0),(6,.op N 0),(0,.op t 0),(2,bv false)],Gf ρ++(YY [iv first,iv i,iv an,.sl c (ss.flatMap Seen.l) (.opn (N+3)),fl (N+6) np,fl (N+6+np) ns] c np ns++(gO np (fC dY)++gO ns (fC di)))⟩ (tM SA [.cell 6 26,.tmp 7,.tmp 8,.tmp 9] N k kp):=by
 have n0:=hY.n0;have yF:=hY.yF;have yG:=hY.yG;obtain⟨uk,rc,y0,y1,y3,y4,y5,mK,yH,A0,A1,pS,sK,cx⟩:=hY;have CR:∀τ (L:List aa)(y:aa),(Gf τ++L).set N y=Gf τ++L.set 0 y:=λτ L y=>by have:=dJ (Gf τ) L 0 y;rwa [hT.len]at this
 have lE:∀τ (L:List aa),(Gf τ++L)[N]?=L[0]?:=λτ L=>by have:=ba (Gf τ) L 0;rwa [hT.len]at this
 unfold nV WR;dsimp only[S7,mZ,cs,cf];rw[<- SC];refine OM (M:=N+6) (nD:=N+1) (j:=4) (n0 _ _ _ _ _) F0 (yF _ _ _ _ _) rfl λG1 xu=> ?_;rw[yG,<- SC,<- SN (gO ns (fC di))];refine OM (M:=N+6+np) (nD:=N+1) (j:=5) (cl:=[iv first,iv i,iv an,.sl c (ss.flatMap Seen.l) (.opn (N+3)),aT dY,fl (N+6+np) ns]) (by rw[S4,n0,xu]) nz (by rw[SC];exact y1 _ _ _ _ _ _) rfl λG2 hG2=> ?_;rw[SC,mK,SC,SC];obtain⟨r2,F5⟩:∃r2,r2=[iv first,iv i,iv an,.sl c (ss.flatMap Seen.l) (.opn (N+3)),aT dY,aT di]:=⟨_,rfl⟩;rw[show ([iv first,iv i,iv an,.sl c (ss.flatMap Seen.l) (.opn (N+3)),aT dY,fl (N+6+np) ns]:List AV).set 5 (aT di)=r2 by rw[F5];rfl];have So:r2.length=6:=by rw[F5];rfl
 have gh:TH 6 r2=r2:=SP (by omega);have jZ:∀a∈r2,a.leaf=true:=by
  rw[F5];intro a ha;simp only[SK,SZ,or_false]at ha;rcases ha with rfl|rfl|rfl|rfl|rfl|rfl<;>rfl
 have y00:∀τ r c d e G,(Gf τ++(YY r c d e++G))[N]?=some (.cells [.val (.int .i64 0),.val (.int .i64 0),.val (.int .i64 0),.sl 0 [] .exact,.sl 0 [] .exact,.sl 0 [] .exact] 26):=λτ r c d e G=>by rw[y0,wh]
 refine aj ?_;simp only[seval,y1,y00,So,gh];refine⟨jZ,?_⟩;rw[CR];obtain⟨LL,hLL⟩:=cx r2 c np ns (.cells r2 26);rw[US _ _ (by rw[uk];omega),hLL,U1];refine mU ?_;simp only[seval,lE,So,gh];refine jH (b:=.aN [ak.av ⟨first,i,an,ss,dY,di⟩,bu l,bu aB,bu bS]) (H':=Gf ρ) (ads ?_ ?_ ?_ ?_) rfl (by simp[hT.len]) (hH _) (by simp only[jx,SK,SZ,or_false,forall_eq_or_imp,forall_eq,Da,yh,and_self]) hk
 ·rw[F5,ak.av];refine DZ (.cons (Wk.refl _) (.cons (Wk.refl _) (.cons (Wk.refl _) (.cons ?_ (.cons (Wk.refl _) (.cons (Wk.refl _) .nil))))));rw[<- hc];exact gV _ _ _
 ·rw[<- hO];exact gV _ _ _
 ·rw[<- ju];exact gV _ _ _
 ·rw[<- FX];exact gV _ _ _
end
section
variable {lv:Bool}{k kp:AV->List aa->Prop}{Gf:aZ->List aa}{t N:Nat}{τ:aZ}{b:Int}
theorem ahD{pm:Nat}(hT:dB Gf t N)(hτ:τ.Ok b)(hb:b<2^10)(rz:pm<=4)(hk:∀(x:ak)(bz aB bS:List Int)(τ':aZ),x.Ok->x.pieces.length<=pm->bz.length<=4->aB.length<=4->bS.length<=3->τ'.Ok (b+200)->k (.aN [x.av,bu bz,bu aB,bu bS]) (Gf τ')):bm lv SA 15 (Gf τ) [.op t 0,iv pm,bv false] k kp:=by
 refine bG (rs:=[.cell 6 26,.tmp 7,.tmp 8,.tmp 9]) (nt:=240) WR λhH hA=> ?_;simp only[br,SW];have uj:∀o:aa,dB (λτ=>Gf τ++[o]) t (N+1):=λo=>hT.more [o];have fO:∀τ (L:List aa)(j:Nat),(Gf τ++L)[N+j]?=L[j]?:=λτ L j=>by rw[<- hT.len τ,ba]
 have cM:∀τ (L:List aa)(j:Nat)(y:aa),(Gf τ++L).set (N+j) y=Gf τ++L.set j y:=λτ L j y=>by rw[<- hT.len τ,dJ]
 have lE:∀τ (L:List aa),(Gf τ++L)[N]?=L[0]?:=λτ L=>fO τ L 0;have CR:∀τ (L:List aa)(y:aa),(Gf τ++L).set N y=Gf τ++L.set 0 y:=λτ L y=>cM τ L 0 y;refine am ?_;refine am ?_;refine aL ((my (uj _) hτ (by omega) (by omega) ?_));have r1:=jM τ 90;generalize cU τ 90=u1 at r1⊢;(try simp only[seval,zE4,tx]);refine aL ((Jh (ns:=[0,1,10,u1]) (uj _) hτ.tick (by omega) (by simp) (by simp) ?_));have r2:=I9 (tick τ) (ns:=[0,1,10,u1]) (by simp);simp only[SK,SZ,or_false]at r2;generalize vF (tick τ) [0,1,10,u1]=first at r2⊢
 (try simp only[seval]);refine aL ((EP (lo:=1) (hi:=3) (uj _) hτ.tick.tick (by omega) (by decide) (by decide) ?_));have r3:=HK (tick (tick τ)) (show (1:Int)<=3 by decide);generalize wK (tick (tick τ)) 1 3=hours at r3⊢;(try simp only[seval,zE4,tx]);refine aL ((Jh (ns:=[1,2,2,3]) (uj _) hτ.tick.tick.tick (by omega) (by simp) (by simp) ?_));have r4:=I9 (tick (tick (tick τ))) (ns:=[1,2,2,3]) (by simp);simp only[SK,SZ,or_false]at r4;generalize vF (tick (tick (tick τ))) [1,2,2,3]=an at r4⊢;have oh:0<=first/\first<=90:=by omega
 have v9:1<=an/\an<=3:=by omega
 clear r1 r2 r4;have hσ:(tick (tick (tick (tick τ)))).Ok (b+4):=hτ.tick.tick.tick.tick.mono (by omega);generalize tick (tick (tick (tick τ)))=σ at hσ⊢;(try simp only[seval,hT.len,fO,cM,lE,CR]);refine aj ?_;simp only[seval,fO,z1,Az]
 (repeat apply iF);refine vt (t:=11) (sz:=1) (el:=3) (by simp only[seval]<;>rfl) ?_
 simp only[seval,hT.len]
 (repeat apply iF);refine afo (id:=N+1) (j:=3) (sz:=3) (gK:=61) (by simp only[seval,fO]<;>rfl) rfl ?_
 simp only[seval,cM,hT.len];refine OK [11,10,6,0,1,2] ?_;show aQ _ _ _ _ _ ⟨[(11,.sl 1 [iv first] (.opn (N+2))),(10,.op (N+1) 0),(6,.op N 0),(0,.op t 0),(1,iv pm),(2,bv false)],_⟩ _;obtain⟨zc,wh⟩:∃zc:aa,zc=.cells [iv 0,iv 0,iv 0,.sl 0 [] .exact,.sl 0 [] .exact,.sl 0 [] .exact] 26:=⟨_,rfl⟩;simp only[iv]at wh;rw[<- wh];obtain⟨hn,hhn⟩:∃hn:Nat,hours=hn:=⟨hours.toNat,by omega⟩;subst hhn;refine am ?_;refine cP ?_;refine iu hn (λi:Nat=>[(11,.sl (i+1) ((kP σ first an i).1.map iv) (.opn (N+2))),(12,iv i)]) (λi=>Gf (kP σ first an i).2++[zc,.cells [iv first,iv hn,iv an,.sl 0 [] (.opn (N+3)),.sl 0 [] .exact,.sl 0 [] .exact] 26,.tail (i+1) 1 3,.tail 0 3 61]) (λi=>True) (λ_ _=>rfl) (by simp only[kP];simp only[seval];simp[bC,Wk.refl]) rfl (λ_ _ _=>by simp[hT.len]) trivial (λcq dG i cR _ R hR=> ?_)
 ·clear cq dG;have ay:=RD σ first (an:=an) (by omega) i
  have qi:=RE hσ first an i
  have ew:kP σ first an (i+1)=((kP σ first an i).1++[(kP σ first an i).1.getD i 0+wD (kP σ first an i).2 an],tick (tick (kP σ first an i).2)):=rfl
  have uq:=ay.ge (by omega) i (SQ _);generalize kP σ first an i=m at ay qi ew uq hR⊢
  obtain⟨l,ρ⟩:=m;dsimp only at ay qi ew uq⊢;have hO:=ay.len;refine aj ?_;simp only[seval,fO];refine aF ?_;refine⟨λh=> ?_,λh=> ?_⟩
  ·as_aux_lemma=>
   have bF:i<hn:=(by omega);obtain⟨w,hw⟩:=cj (xs:=l) (i:=i) (by omega);have rj:l.getD i 0=w:=(by rw[SE,hw];rfl);rw[rj]at ew uq;have aR:=acG ρ (an:=an) (by omega);have Sr:wD ρ an=vF (tick ρ) [0,an,cU ρ an]:=rfl;obtain⟨v,hv⟩:∃v,v=wD ρ an:=⟨_,rfl⟩;rw[<- hv]at ew aR Sr;have CU:SD.wrap (w+v)=w+v:=LP (adr uq aR oh v9 (by omega));have fJ:SD.wrap ((i:Int)+1)=((i+1:Nat):Int):=(by rw[bB _ (by omega)];rfl);have iH:(0<=(i:Int)/\(i:Int)<(i:Int)+1)=True:=(by simp;omega);have gz:∀L:List aa,dB (λτ=>Gf τ++L) t (N+L.length):=λL=>hT.more L;refine aO ?_;refine cP ?_;obtain⟨X,hX⟩:∃X:Nat->List aa,∀a,X a=[zc,.cells [iv first,iv hn,iv an,.sl 0 [] (.opn (N+3)),.sl 0 [] .exact,.sl 0 [] .exact] 26,.tail a 1 3,.tail 0 3 61]:=⟨_,λ_=>rfl⟩;have QV:=(hX (i+1)).symm;simp only[iv]at QV;have x1:∀τ a,(Gf τ++X a)[N+1]?=some (.cells [iv first,iv hn,iv an,.sl 0 [] (.opn (N+3)),.sl 0 [] .exact,.sl 0 [] .exact] 26):=λτ a=>(by rw[fO,hX];rfl);have x2:∀τ a,(Gf τ++X a)[N+2]?=some (.tail a 1 3):=λτ a=>(by rw[fO,hX];rfl);have NY:∀τ a a',(Gf τ++X a).set (N+2) (.tail a' 1 3)=Gf τ++X a':=λτ a a'=>(by rw[cM,hX,hX];rfl);rw[QV];refine nU [11,13,16] (SV 18) (λD=>bif isDone 16 D then Gf (tick (tick ρ))++X (i+1+1)else bif isDone 13 D then Gf (tick (tick ρ))++X (i+1)else bif isDone 11 D then Gf (tick ρ)++X (i+1)else Gf ρ++X (i+1)) ?_;simp only[seval,N4,Ds,z1,Az,x1,x2,NY,e_ hw,iH,CU,hO];refine nX _ _ (c9 (my (gz (X (i+1))) qi (by omega) (by omega) ⟨rfl,rfl⟩)) ?_;(try simp only[seval,N4,Ds,z1,Az,x1,x2,NY,e_ hw,iH,CU,hO]);refine nX (iv v) _ (c9 (Jh (ns:=[0,an,cU ρ an]) (gz (X (i+1))) qi.tick (by omega) (by simp) (by simp) ⟨by rw[Sr],rfl⟩)) ?_;(try simp only[seval,N4,Ds,z1,Az,x1,x2,NY,e_ hw,iH,CU,hO]);refine⟨by omega,?_⟩;refine aj ?_;simp only[seval,fJ];refine hR _ ⟨bF,trivial,?_⟩;rw[ew,TE,hX];exact dF
  ·as_aux_lemma=>
   have du:i=hn:=(by omega);subst du;clear hR;refine cp ?_;obtain⟨w,hw⟩:=cj (xs:=l) (i:=i) (by omega);have rj:l.getD i 0=w:=(by rw[SE,hw];rfl);have Gi:first<=w/\w<=first+9:=by
    rw[rj]at uq;have:an* (i:Int)<=3* 3:=Yg (by omega) (by omega) (by omega) (by omega);generalize an* (i:Int)=q at uq this;omega
   obtain⟨mn,ru⟩:∃mn:Nat,w-first=mn:=⟨(w-first).toNat,by omega⟩
   have KX:mn<=9:=(by omega);have hwm:SD.wrap (w-first)=mn:=(by rw[LP (by omega),ru]);have iH:(0<=(i:Int)/\(i:Int)<(i:Int)+1)=True:=(by simp;omega);refine eM 8 ?_;simp only[seval,fO,e_ hw,iH,hwm];have gz:∀L:List aa,dB (λτ=>Gf τ++L) t (N+L.length):=λL=>hT.more L;refine am ?_;refine aL ((PY (n:=mn) (gz _) qi (by omega) (by omega) ?_));have qf:=aaZ ρ mn;have qi:=GP qi mn mn;generalize ii ρ mn mn=m2 at qf qi⊢;obtain⟨order,ρ⟩:=m2;dsimp only at qf qi⊢;(try simp only[seval]);refine am ?_
   (repeat apply iF);refine vt (t:=15) (sz:=1) (el:=3) (by simp only[seval]<;>rfl) ?_
   simp only[seval,hT.len]
   (repeat apply iF);refine vt (t:=16) (sz:=1) (el:=3) (by simp only[seval]<;>rfl) ?_
   simp only[seval,hT.len];refine OK [16,15,14,13,11,10,6,0,1,2] ?_;show aQ _ _ _ _ _ ⟨[(16,.sl 0 [] (.opn (N+5))),(15,.sl 0 [] (.opn (N+4))),(14,bu order),(13,iv mn),(11,.sl (i+1) (l.map iv) (.opn (N+2))),(10,.op (N+1) 0),(6,.op N 0),(0,.op t 0),(1,iv pm),(2,bv false)],_⟩ _;obtain⟨YY,QX⟩:∃YY:List AV->Nat->Nat->Nat->List aa,∀r c d e,YY r c d e=[zc,.cells r 26,.tail (i+1) 1 3,.tail c 3 61,.tail d 1 3,.tail e 1 3]:=⟨_,λ_ _ _ _=>rfl⟩;have hY:YW Gf N zc YY:=asc hT QX;have QW:[zc,.cells [iv first,iv i,iv an,.sl 0 [] (.opn (N+3)),.sl 0 [] .exact,.sl 0 [] .exact] 26,.tail (i+1) 1 3,.tail 0 3 61,.tail 0 1 3,.tail 0 1 3]=YY [iv first,iv i,iv an,.sl 0 [] (.opn (N+3)),.sl 0 [] .exact,.sl 0 [] .exact] 0 0 0++[]:=(by rw[QX];rfl);simp only[iv]at QW;rw[QW];refine am ?_;refine Iv (α:=Nat×aZ) (λy=>⟨[(16,.sl 0 [] (.opn (N+5))),(15,.sl y.1 ((ky first order y.1).map iv) (.opn (N+4))),(13,iv mn),(11,.sl (i+1) (l.map iv) (.opn (N+2))),(10,.op (N+1) 0),(6,.op N 0),(0,.op t 0),(2,bv false)],Gf y.2++(YY [iv first,iv i,iv an,.sl 0 [] (.opn (N+3)),fl (N+6) y.1,.sl 0 [] .exact] 0 y.1 0++gO y.1 (fC (kg l i (λj=>first+order.getD j 0) ρ y.1).1))⟩) (λy=>y.1<=pm/\y.1<=mn/\y.2.Ok (b+60)) ?_ (λy hy=> ?_)
   ·exact ahH hT hY (λτ'=>hT.ay hH τ') hb rz (by omega) oh hO KX qf (qi.mono (by omega))
   ·as_aux_lemma=>
    obtain⟨np,ρ1⟩:=y;obtain⟨akw,akx,LK⟩:=hy;dsimp only at akw akx LK⊢;have F0:(kg l i (λj=>first+order.getD j 0) ρ np).1.length=np:=zG _ _ _ _ _;have Sj:∀(p:Nat) z,(kg l i (λj=>first+order.getD j 0) ρ np).1[p]?=some z->∃τ,z=lq τ l (first+order.getD p 0) i:=λp z hz=>J7 (P:=λn z=>∃τ,z=lq τ l n i) (λτ n=>⟨τ,rfl⟩) np p z hz;generalize(kg l i (λj=>first+order.getD j 0) ρ np).1=dY at F0 Sj⊢;have ju:=aba first order np
    have sW:∀n∈ky first order np,first<=n/\n<w:=λn hn=>by
     unfold ky at hn;obtain⟨p,hp,rfl⟩:=Tl.1 hn;have hp:=TP.1 hp;obtain⟨o,ho⟩:=cj (xs:=order) (i:=p) (by rw[qf.len];omega);have:=qf.Hj o (wq ho);rw[SE,ho];simp only[S7];omega
    have FT:(ky first order np).Nodup:=by
     have e:ky first order np=(order.take np).map λo=>first+o:=by
      unfold ky;refine amU (by rw[Tn,T4,qf.len];omega) λp hp=> ?_;rw[Tm,Uf,if_pos hp,SE];obtain⟨o,ho⟩:=cj (xs:=order) (i:=p) (by rw[qf.len];omega);rw[ho];rfl
     rw[e];have h1:(order.take np).Nodup:=Yp (Zg _ _) qf.nodup;rw[Ut,Xv];exact(Ut.1 h1).imp λh e=>h (by omega)
    have R7:∀p,p<np->(ky first order np).getD p 0=first+order.getD p 0:=λp hp=>by
     unfold ky;rw[SE,Tm,Xx hp];rfl
    generalize ky first order np=aB at ju sW FT R7⊢
    refine am ?_;refine aL ((PY (n:=np) (gz _) LK (by omega) (by omega) ?_));have sZ:=aaZ ρ1 np;have x_:=GP LK np np;generalize ii ρ1 np np=m3 at sZ x_⊢;obtain⟨gU,ρ2⟩:=m3;dsimp only at sZ x_⊢;have x_:ρ2.Ok (b+64):=x_.mono (by omega);(try simp only[seval]);have hwe:bu gU=.sl np (gU.map iv) .shut:=(by rw[bu,sZ.len]);rw[hwe];refine am ?_;refine Iv (α:=Nat×aZ) (λy=>⟨[(16,.sl y.1 ((gU.take y.1).map iv) (.opn (N+5))),(15,.sl np (aB.map iv) (.opn (N+4))),(13,iv mn),(11,.sl (i+1) (l.map iv) (.opn (N+2))),(10,.op (N+1) 0),(6,.op N 0),(0,.op t 0),(2,bv false)],Gf y.2++(YY [iv first,iv i,iv an,.sl 0 [] (.opn (N+3)),fl (N+6) np,fl (N+6+np) y.1] 0 np y.1++(gO np (fC dY)++gO y.1 (fC (kg l i (λj=>aB.getD (gU.getD j 0).toNat 0) ρ2 y.1).1)))⟩) (λy=>y.1<=np/\y.1<=3/\y.2.Ok (b+90)) ?_ (λy hy=> ?_)
    ·exact pJ (s':=⟨[(19,iv 0),(18,.sl np (gU.map iv) .shut),(16,.sl 0 [] (.opn (N+5))),(15,.sl np (aB.map iv) (.opn (N+4))),(13,iv mn),(11,.sl (i+1) (l.map iv) (.opn (N+2))),(10,.op (N+1) 0),(6,.op N 0),(0,.op t 0),(2,bv false)],Gf ρ2++(YY [iv first,iv i,iv an,.sl 0 [] (.opn (N+3)),fl (N+6) np,.sl 0 [] .exact] 0 np 0++gO np (fC dY))⟩) (eo (by simp only[seval];simp[bC,Wk.refl]) rfl) (ahC hT hY (xn _ _) hb (by omega) oh Gi hO (by omega) ju sW sZ x_)
    ·as_aux_lemma=>
     obtain⟨ns,ρ3⟩:=y;obtain⟨aky,akz,LM⟩:=hy;dsimp only at aky akz LM⊢;have nz:(kg l i (λj=>aB.getD (gU.getD j 0).toNat 0) ρ2 ns).1.length=ns:=zG _ _ _ _ _;have Sw:∀(s:Nat) z,(kg l i (λj=>aB.getD (gU.getD j 0).toNat 0) ρ2 ns).1[s]?=some z->∃τ,z=lq τ l (aB.getD (gU.getD s 0).toNat 0) i:=λs z hz=>J7 (P:=λn z=>∃τ,z=lq τ l n i) (λτ n=>⟨τ,rfl⟩) ns s z hz;generalize(kg l i (λj=>aB.getD (gU.getD j 0).toNat 0) ρ2 ns).1=di at nz Sw⊢;have rG:=sZ.len;have aG:(gU.take ns).length=ns:=(by rw[T4];omega);have ej:∀v∈gU.take ns,0<=v/\v<(np:Int):=λv hv=>sZ.Hj v (Wq hv);have akI:(gU.take ns).Nodup:=Yp (Zg _ _) sZ.nodup;have Se:∀s,s<ns->(gU.take ns).getD s 0=gU.getD s 0:=λs hs=>by
      rw[SE,SE,Uf,if_pos hs]
     generalize gU.take ns=bS at aG ej akI Se⊢;refine am ?_;refine aL ((my (n:=2) (gz _) LM (by omega) (by omega) ?_));have gM:=jM ρ3 2;generalize cU ρ3 2=u2 at gM⊢;obtain⟨cn,rfl⟩:∃cn:Nat,u2=cn:=⟨u2.toNat,by omega⟩;have Gr:=LM.tick;generalize tick ρ3=ρ4 at Gr⊢;(try simp only[seval]);have lZ:∀z∈dY,vd i z:=λz hz=>by
      obtain⟨p,hp⟩:=UZ hz;have da:=(SL.1 hp).1;obtain⟨τ',rfl⟩:=Sj p z hp;rw[<- R7 p (by omega)];have:=J6 ay (by omega) oh v9 (n:=aB.getD p 0) (by rw[rj];exact sW _ (zw (by omega))) τ';exact⟨this.num,this.hour⟩
     have htv:∀z∈di,vd i z:=λz hz=>by
      obtain⟨s,hs⟩:=UZ hz;have cG:=(SL.1 hs).1;obtain⟨τ',rfl⟩:=Sw s z hs;rw[<- Se s (by omega)];have ho:=ej _ (zw (l:=bS) (i:=s) (by omega));have:=J6 ay (by omega) oh v9 (n:=aB.getD (bS.getD s 0).toNat 0) (by rw[rj];exact sW _ (zw (by omega))) τ';exact⟨this.num,this.hour⟩
     refine Iv (α:=List Seen×aZ) (λy=>⟨[(16,.sl ns (bS.map iv) (.opn (N+5))),(15,.sl np (aB.map iv) (.opn (N+4))),(13,iv mn),(11,.sl (i+1) (l.map iv) (.opn (N+2))),(10,.op (N+1) 0),(6,.op N 0),(0,.op t 0),(2,bv false)],Gf y.2++(YY [iv first,iv i,iv an,.sl y.1.length (y.1.flatMap Seen.l) (.opn (N+3)),fl (N+6) np,fl (N+6+np) ns] y.1.length np ns++(gO np (fC dY)++gO ns (fC di)))⟩) (λy=>y.1.length<=2/\(∀s∈y.1,0<=s.hour/\s.hour<=i/\∃τ,s.next=mT τ (l.getD s.hour.toNat 0) 1 0 99)/\y.2.Ok (b+97)) ?_ (λy hy=> ?_)
     ·refine pJ (s':=⟨[(20,iv cn),(16,.sl ns (bS.map iv) (.opn (N+5))),(15,.sl np (aB.map iv) (.opn (N+4))),(13,iv mn),(11,.sl (i+1) (l.map iv) (.opn (N+2))),(10,.op (N+1) 0),(6,.op N 0),(0,.op t 0),(2,bv false)],Gf ρ4++(YY [iv first,iv i,iv an,.sl 0 [] (.opn (N+3)),fl (N+6) np,fl (N+6+np) ns] 0 np ns++(gO np (fC dY)++gO ns (fC di)))⟩) (eo (by simp only[seval];simp[bC,Wk.refl]) rfl) (ahF hT hY hb (by omega) oh v9 ay (by omega) (Gr.mono (by omega)))
     obtain⟨ss,ρ5⟩:=y;obtain⟨dE,fN,pc⟩:=hy;dsimp only at dE fN pc⊢;refine am ?_;refine aF ?_;refine aO ?_;refine pJ (s':=⟨[(16,.sl ns (bS.map iv) (.opn (N+5))),(15,.sl np (aB.map iv) (.opn (N+4))),(13,iv mn),(11,.sl (i+1) (l.map iv) (.opn (N+2))),(10,.op (N+1) 0),(6,.op N 0),(0,.op t 0),(2,bv false)],Gf ρ5++(YY [iv first,iv i,iv an,.sl ss.length (ss.flatMap Seen.l) (.opn (N+3)),fl (N+6) np,fl (N+6+np) ns] ss.length np ns++(gO np (fC dY)++gO ns (fC di)))⟩) (eo (by simp only[seval];simp[bC,Wk.refl]) rfl) (ahG hT hY (xn _ _) hb oh KX (by omega) nz htv pc λaqP ρ6 Lu xY hρ6=>ahE hT hY hb (by omega) (by omega) F0 lZ hρ6 λan9 ρ7 hp1 jJ hρ7=>ahB hT (λτ'=>hT.ay hH τ') hY wh hO hp1 ju Lu aG rfl (hk ⟨first,i,an,ss,an9,aqP⟩ l aB bS ρ7 ⟨oh,by dsimp only;omega,v9,by dsimp only;omega,by dsimp only;omega,by dsimp only;omega,λs hs=> ?_,λy hy=> ?_,λy hy=> ?_⟩ (by dsimp only;omega) (by omega) (by omega) (by omega) (hρ7.mono (by omega))))
     ·obtain⟨h1,h2,τ',h3⟩:=fN s hs;have ht:=ay.top oh v9 (by omega) s.hour.toNat (by omega);rw[h3];exact⟨⟨h1,h2⟩,(BA (by omega) (by omega)).1⟩
     ·exact⟨(jJ y hy).1,(jJ y hy).2⟩
     ·exact⟨(xY y hy).1,(xY y hy).2⟩
end
section
variable {lv:Bool}{H:List aa}{k kp:AV->List aa->Prop}
theorem ahO{x:ak}(hx:x.Ok)(hk:k x.av H):bm lv SA 22 H [x.av] k kp:=by
 refine bG (rs:=[.cell 2 26]) (nt:=19) am_ λhH hA=> ?_;simp only[br,SW,ak.av];have o6:=hx.dY;have aR:=hx.di;have xV:=hx.tE;have bM:x.l=[iv x.first,iv x.hours,iv x.an,dC x.seen,aT x.pieces,aT x.aC]:=rfl;have a_:∀(L:List aa),(H++L)[H.length]?=L[0]?:=λL=>ba H L 0;have cx:∀(L:List aa)(y:aa),(H++L).set H.length y=H++L.set 0 y:=λL y=>dJ H L 0 y;refine aj ?_;simp only[seval,bM];have ND:TH (x.seen.length* 3) (x.seen.flatMap Seen.l)=x.seen.flatMap Seen.l:=SP (by rw[mb Seen.len];omega);have NE:TH (x.pieces.length* 4) (x.pieces.flatMap aD.l)=x.pieces.flatMap aD.l:=SP (by rw[mb aD.len];omega);have NF:TH (x.aC.length* 4) (x.aC.flatMap aD.l)=x.aC.flatMap aD.l:=SP (by rw[mb aD.len];omega);have n1:(x.seen.flatMap Seen.l).length=x.seen.length* 3:=mb Seen.len _;have n2:(x.pieces.flatMap aD.l).length=x.pieces.length* 4:=mb aD.len _;have n3:(x.aC.flatMap aD.l).length=x.aC.length* 4:=mb aD.len _;refine aj ?_;simp only[seval,a_,cx,dC,ND,n1];refine⟨by omega,?_⟩;refine aj ?_;simp only[seval,a_,cx,aT,NE,n2];refine⟨by omega,?_⟩;refine aj ?_;simp only[seval,a_,cx,aT,NF,n3];refine⟨by omega,?_⟩;have bY:∀(L:List aa),(H++L)[H.length+1]?=L[1]?:=λL=>ba H L 1;have dE:∀(L:List aa)(y:aa),(H++L).set (H.length+1) y=H++L.set 1 y:=λL y=>dJ H L 1 y;refine aj ?_;simp only[seval,a_,bY,dE];refine mU ?_;simp only[seval,bY];exact jm hH (b:=x.av) (DZ (.cons (Wk.refl _) (.cons (Wk.refl _) (.cons (Wk.refl _) (.cons (gV _ _ _) (.cons (gV _ _ _) (.cons (gV _ _ _) .nil))))))) (by rw[Da];trivial) hk
end
section
variable {lv:Bool}{k kp:AV->List aa->Prop}{Gf:aZ->List aa}{t N:Nat}{b:Int}
end
section
variable {lv:Bool}{k kp:AV->List aa->Prop}{Gf:aZ->List aa}{t N:Nat}{τ:aZ}{b:Int}
end
theorem PS:(b_ fD).isEmpty=false:=by kernel_rfl
theorem ahm{lo hi:Int}(h:Bounds (live fD) (λh=>h.getD 1 0) lo hi):lo=11/\hi=12:=by
 have k:Bounds (live fD) (λh=>h.getD 1 0) 11 12:=by
  rw[ahq];exact⟨⟨[10,11,13,14],by simp,rfl⟩,by decide,⟨[10,12,13,14],by simp,rfl⟩,by decide⟩
 exact h.uniq k
theorem ahp:B4 fD 2=[0,2]:=by kernel_rfl
theorem z3:gH (SF .i64 0) 3=[iv 0,iv 0,iv 0]:=rfl
theorem z4:gH (SF .i64 0) 4=[iv 0,iv 0,iv 0,iv 0]:=rfl
section
variable {H:List aa}{k kp:AV->List aa->Prop}
theorem ahM(hm:H[0]?=some .main)(hk:k (bv true) H):bm true SA 19 H [] k kp:=by
 have aI:b_ fD≠[]:=λh=>by have:=PS;rw[h]at this;cases this
 refine bG (rs:=[.tmp 0]) (nt:=138) Tryz.f19 λhH hA=> ?_;simp only[br,SW];have a_:∀(L:List aa),(H++L)[H.length]?=L[0]?:=λL=>ba H L 0;have cx:∀(L:List aa)(y:aa),(H++L).set H.length y=H++L.set 0 y:=λL y=>dJ H L 0 y;refine am ?_;refine am ?_;refine aL ((xg ?_));(try simp only[seval]);refine aL ((EO yx hm ?_));rw[ahn];(try simp only[seval]);refine am ?_;refine aL ((xg ?_));(try simp only[seval]);refine aL ((ahZ (hour:=1) yx (by decide) hm (λh=>absurd h aI) (λlo hi _ hb=> ?_)));obtain⟨rfl,rfl⟩:=ahm hb;(try simp only[seval,a_,cx]);refine am ?_;refine aL ((xg ?_));(try simp only[seval]);refine aL ((ahX (q:=2) yx (by decide) (fH hm) (λh=>absurd h aI) (λ_=> ?_)));rw[show w9 (Dj fD 2) fD.first 16=[13,14]from ahr];(try simp only[seval]);refine am ?_;refine aL ((xg ?_));(try simp only[seval]);refine aL ((ahT (s:=0) (q:=0) yx (by decide) (by decide) (fH hm) ?_));rw[PS,PT.1,PT.2,show vM true false=1 from rfl];(try simp only[seval]);refine am ?_;refine aL ((xg ?_));(try simp only[seval]);refine aL ((ahR yx (fH hm) (λh=>absurd h aI) (λ_=> ?_)));rw[show B4 fD fD.aC.length=[0,2]from ahp];(try simp only[seval]);refine am ?_;refine aL ((xg ?_));(try simp only[seval]);refine aL ((ahU (x:=fD) (s:=1) (q:=0) (y:=⟨⟨10,15⟩,⟨2,2⟩⟩) yx rfl (by decide) (λo ho=> ?_)));rw[show yZ (fD.wo [((1:Nat):Int)]) ⟨⟨10,15⟩,⟨2,2⟩⟩ 0 (fD.an.toNat+1)=1 from ahl]at ho;subst ho;(try simp only[seval]);refine am ?_;refine aL ((ah5 ?_));(try simp only[seval]);refine aL ((ahV ano (λl hl=> ?_) (λh=>by rw[PR]at h;cases h)));rw[PR]at hl;cases hl;(try simp only[seval]);refine am ?_;refine aL ((xg ?_));(try simp only[seval]);refine aL ((ahL yx (fH hm) (λh=>absurd h aI) (λu l hu=> ?_)));have lG:=aho;rw[hu]at lG;cases lG;(try simp only[seval]);refine eM 77 ?_;simp only[seval,Vr,a_,beq_self_eq_true];refine ik (.agg [iv 11,iv 12]) (c9 (Jg ⟨rfl,rfl⟩)) ?_;have gB:∀k,dH SA .eql 46 (.agg [iv 11,iv 12]) (.agg [iv 11,iv 12]) k=k (bv true):=λk=>aeu (P:=SA) (t:=46) (n:=2) (xs:=[11,12]) (ys:=[11,12]) (by kernel_rfl) (by kernel_rfl) rfl rfl k;simp only[iv,bv]at gB;(try simp only[seval,gB,Vr,beq_self_eq_true,z2]);(try refine⟨by decide,?_⟩);refine ik (bv true) (c9 (zp (xs:=[13,14]) (ys:=[13,14]) (e:=.shut) (e':=.exact) (by decide) ⟨by rw[decide_eq_true rfl],rfl⟩)) ?_;(try simp only[seval,Vr,z1,z2,z3,z4]);(try refine⟨by decide,?_⟩);refine ik (bv true) (c9 (zp (xs:=[0,2]) (ys:=[0,2]) (e:=.shut) (e':=.exact) (by decide) ⟨by rw[decide_eq_true rfl],rfl⟩)) ?_;(try simp only[seval,Vr,z1,z2,z3,z4]);(try refine⟨by decide,?_⟩);refine ik (bv true) (c9 (zp (xs:=[0]) (ys:=[0]) (e:=.shut) (e':=.exact) (by decide) ⟨by rw[decide_eq_true rfl],rfl⟩)) ?_;(try simp only[seval,Vr,z1,z2,z3,z4]);(try refine⟨by decide,?_⟩);refine ik (bv true) (c9 (zp (xs:=[10,11,13,14]) (ys:=[10,11,13,14]) (e:=.shut) (e':=.exact) (by decide) ⟨by rw[decide_eq_true rfl],rfl⟩)) ?_;(try simp only[seval,Vr,z1,z2,z3,z4]);(try refine⟨by decide,?_⟩);refine ik (bv true) (c9 (zp (xs:=[12,11,13]) (ys:=[12,11,13]) (e:=.shut) (e':=.exact) (by decide) ⟨by rw[decide_eq_true rfl],rfl⟩)) ?_;(try simp only[seval,Vr,z1,z2,z3,z4]);(try refine⟨by decide,?_⟩);refine ik (bv true) (c9 (zp (xs:=[0,2]) (ys:=[0,2]) (e:=.shut) (e':=.exact) (by decide) ⟨by rw[decide_eq_true rfl],rfl⟩)) ?_;(try simp only[seval,Vr,z1,z2,z3,z4]);refine bi ?_;exact jm hH (Wk.refl _) (.val _) hk
theorem aro(m:Nat)(τ:aZ):eK m (u9 τ):=λa ha=>by
 simp only[SK,SZ,or_false]at ha;rcases ha with rfl|rfl|rfl
 ·rw[yh];trivial
 ·exact .val _
 ·exact .val _
theorem LO{n:Int}(h: -1000<=n/\n<=1000):SD.wrap n=n:=bB _ (by omega)
theorem arT{m M e:Int}(h1:0<=m/\m<=M/\M<=99)(h2:0<=e/\(e<=2\/e=0)):SD.wrap (m-e)=m-e:=LO (by omega)
theorem arS{m M e:Int}(h1:0<=m/\m<=M/\M<=99)(h2:0<=e/\(e<=2\/e=0)):SD.wrap (M+e)=M+e:=LO (by omega)
theorem arW{m M e f a b:Int}(h:0<=m/\m<=M/\M<=99)(he:0<=e/\(e<=2\/e=0))(hf:0<=f/\(f<=2\/f=0))(ha:(if 0<m-e then m-e else 0)=a)(hb:(if M+f<99 then M+f else 99)=b):qD ⟨a,b⟩ 99/\(a<=m/\M<=b):=by
 split at ha<;>split at hb<;>exact⟨⟨by dsimp only;omega,by dsimp only;omega,by dsimp only;omega⟩,by omega,by omega⟩
theorem arV{m c:Int}(h:0<=m)(hc:0<=c/\(c<=m\/c=0)):c<=m:=by omega
theorem arU{m M N c d:Int}(h:0<=m/\m<=M/\M<=N)(hc:0<=c/\(c<=m\/c=0))(hd:M<=d/\d<=N):c<=d:=by omega
theorem ah1{aB:List Int}(hm:H[0]?=some .main)(hn:aB.length<=2^50)(hk:k (bv true) H):bm true SA 4 H [bu aB] k kp:=by
 refine bG (rs:=[.tmp 2]) (nt:=113) WL λhH hA=> ?_;simp only[br,SW];refine am ?_;refine am ?_;refine aL ((ahJ ?_));(try simp only[seval]);obtain⟨Gf,nb⟩:∃Gf:aZ->List aa,Gf=λτ=>H++[u9 τ]:=⟨_,rfl⟩;obtain⟨N,hN⟩:∃N,N=H.length+1:=⟨_,rfl⟩;have hT:dB Gf H.length N:=by rw[nb,hN];exact arn H
 have Fh:∀τ (L:List aa),(Gf τ++L)[0]?=some .main:=λτ L=>by rw[nb,SC];exact fH hm
 have hGH:∀τ,bH (Gf τ):=λτ=>by
  rw[nb];refine FW hH λz hz m=> ?_;rw[S8.1 hz];exact aro m τ
 have hGe:∀τ (L:List aa),Gf τ++L=H++([u9 τ]++L):=λτ L=>by rw[nb,SC]
 have gz:∀L:List aa,dB (λτ=>Gf τ++L) H.length (N+L.length):=λL=>hT.more L;have fO:∀τ (L:List aa)(j:Nat),(Gf τ++L)[N+j]?=L[j]?:=λτ L j=>by rw[<- hT.len τ,ba]
 have cM:∀τ (L:List aa)(j:Nat)(y:aa),(Gf τ++L).set (N+j) y=Gf τ++L.set j y:=λτ L j y=>by rw[<- hT.len τ,dJ]
 have lE:∀τ (L:List aa),(Gf τ++L)[N]?=L[0]?:=λτ L=>fO τ L 0;have CR:∀τ (L:List aa)(y:aa),(Gf τ++L).set N y=Gf τ++L.set 0 y:=λτ L y=>cM τ L 0 y;have h5:∀τ (L:List aa),(Gf τ++L)[N+5]?=L[5]?:=λτ L=>fO τ L 5;have s5:∀τ (L:List aa)(y:aa),(Gf τ++L).set (N+5) y=Gf τ++L.set 5 y:=λτ L y=>cM τ L 5 y;rw[show H++[u9 ⟨aB,0,7640891576956012809⟩]=Gf ⟨aB,0,7640891576956012809⟩ by rw[nb]];refine am ?_;refine aL ((ahD (pm:=3) (b:=0) hT ⟨WJ _,WJ _,hn⟩ (by decide) (by decide) λx bz aB bS τ hx rz _ _ _ hτ=> ?_));have o6:=hx.dY;have bM:x.l=[iv x.first,iv x.hours,iv x.an,dC x.seen,aT x.pieces,aT x.aC]:=rfl;have dw:x.l.length=6:=rfl;have gh:TH 6 x.l=x.l:=rfl;have bY:TR 1 x.l=[iv x.hours,iv x.an,dC x.seen,aT x.pieces,aT x.aC]:=rfl;have jV:TR 2 x.l=[iv x.an,dC x.seen,aT x.pieces,aT x.aC]:=rfl;have FC:TR 4 x.l=[aT x.pieces,aT x.aC]:=rfl;(try simp only[seval,ak.av,lE,CR,dw,hT.len]);refine⟨tC x,?_⟩;refine aj ?_;simp only[seval,lE,dw,gh];refine aL ((EO hx (Fh _ _) ?_));(try simp only[seval]);refine aj ?_;simp only[seval,lE,dw,gh];refine aL ((ahO hx ?_));(try simp only[seval,ak.av,fO,cM,dw,hT.len]);refine⟨tC x,?_⟩;refine aj ?_;simp only[seval,lE,jV];have hpr:=hx.an;have r1:=HK τ (show x.an<=3 by omega);refine aL ((EP (lo:=x.an) (hi:=3) (gz _) hτ (by omega) (by omega) (by omega) ?_));have gN:=abG hx r1;have lz:=aoe hx r1;have da:∀q:Int,TH 2 x.l++[AV.val (SF SD q)]++TR 3 x.l=(Hc x q).l:=λq=>rfl;(try simp only[seval,fO,cM,dw,da]);obtain⟨z0,we⟩:∃z0,z0=Hc x (wK τ x.an 3):=⟨_,rfl⟩;rw[<- we]at gN lz⊢;clear we;have kV:z0.l.length=6:=rfl;have Gp:TH 6 z0.l=z0.l:=rfl;refine aj ?_;simp only[seval,fO,kV,Gp];refine aL ((EO gN (Fh _ _) ?_));(try simp only[seval]);have d0:decide (cnt z0<cnt x)=false:=decide_eq_false (by omega);refine aj ?_;simp only[seval,show ((0:Int)!=0)=false from rfl,d0];refine aF ?_;refine aO ?_;refine am ?_;have hτ1:=hτ.tick;generalize tick τ=σ at hτ1⊢;clear gN lz kV Gp d0 r1;refine cP ?_;refine OJ (α:=Nat×aZ×ak) (measure λm=>x.pieces.length-m.1).wf (λm=>[(11,iv (cnt m.2.2)),(12,iv 0),(13,iv m.1)]) (λm=>Gf m.2.1++[.cells x.l 26,.cells m.2.2.l 26]) (λm=>m.1<=x.pieces.length/\m.2.1.Ok (201+4* m.1)) (0,σ,z0) (λ_ _=>rfl) (by simp only[seval];simp[bC,Wk.refl]) rfl (λ_ _=>by simp[hT.len]) ⟨W2 _,hτ1.mono (by omega)⟩ (λcq dG m hm R hR=> ?_);obtain⟨p,τm,z⟩:=m;obtain⟨F1,LN⟩:=hm;dsimp only at F1 LN hR⊢;clear dG;have kV:z.l.length=6:=rfl;have CY:TR 6 z.l=[]:=rfl;refine aj ?_;simp only[seval,lE,FC,aT];refine aF ?_;refine⟨λhc=> ?_,λhc=> ?_⟩
 ·have da:p<x.pieces.length:=by omega
  have bP:SD.wrap ((p:Int)+1)=((p+1:Nat):Int):=by rw[bB _ (by omega)];rfl
  obtain⟨y,hy⟩:=cj da;have hym:=hx.piece y (Tc hy);have pV:0<=(p:Int)/\(p:Int)<x.pieces.length:=⟨by omega,by omega⟩;have db:=DE hy;refine aO ?_;refine aj ?_;simp only[seval,lE,dw,gh];refine aL ((ahP (x:=x) hx (by omega) (λc1 c2=> ?_)));have jZ:∀a∈qp x (.bh (N+2+3) 0 x.pieces.length 0),a.leaf=true:=by
   intro a ha;simp only[qp,SK,SZ,or_false]at ha;rcases ha with rfl|rfl|rfl|rfl|rfl|rfl<;>rfl
  have kQ:∀q,TR 4 (qp x q)=[q,aT x.aC]:=λ_=>rfl;have p8:∀q,(qp x q).length=6:=λ_=>rfl;(try simp only[seval,fO,cM,kV,CY,p8,hT.len]);refine⟨jZ,?_⟩;refine aj ?_;simp only[seval,lE,FC,aT,db,pV,hT.len];obtain⟨n1,n2,n3⟩:=hym.number;obtain⟨h1,h2,h3⟩:=hym.hour;have u1:=jM τm 2;have u2:=jM (tick τm) 2;have u3:=jM (tick (tick τm)) y.hour.min;have u4:=HK (tick (tick (tick τm))) (show y.hour.max<=x.hours-1 by omega);obtain⟨e1,nh⟩:∃e,cU τm 2=e:=⟨_,rfl⟩;obtain⟨e2,ni⟩:∃e,cU (tick τm) 2=e:=⟨_,rfl⟩;obtain⟨c,aY⟩:∃c,cU (tick (tick τm)) y.hour.min=c:=⟨_,rfl⟩;obtain⟨d,hd⟩:∃d,wK (tick (tick (tick τm))) y.hour.max (x.hours-1)=d:=⟨_,rfl⟩;rw[nh]at u1;rw[ni]at u2;rw[aY]at u3;rw[hd]at u4;have w1:SD.wrap (y.number.min-e1)=y.number.min-e1:=arT ⟨n1,n2,n3⟩ u1;have w2:SD.wrap (y.number.max+e2)=y.number.max+e2:=arS ⟨n1,n2,n3⟩ u2;have FJ:=hx.hours;have w3:SD.wrap (x.hours-1)=x.hours-1:=LO (by omega);obtain⟨a,ha⟩:∃a,(if 0<y.number.min-e1 then y.number.min-e1 else 0)=a:=⟨_,rfl⟩;obtain⟨b,hb⟩:∃b,(if y.number.max+e2<99 then y.number.max+e2 else 99)=b:=⟨_,rfl⟩;refine nU [7,14,22,30,34] (SV 35) (λD=>bif isDone 34 D then Gf (tick (tick (tick (tick τm))))++[.cells x.l 26,.cells (qp x (.bh (N+2+3) 0 x.pieces.length 0)) 26,c1,c2,.tail x.seen.length 3 61,.own 4 (TH (p* 4) (x.pieces.flatMap aD.l)++[iv a,iv b,iv c,iv d]++TR (p* 4+4) (x.pieces.flatMap aD.l)) 48,.tail x.aC.length 4 48,.cells [iv y.number.min,iv y.number.max,iv y.hour.min,iv y.hour.max] 48]else bif isDone 30 D then Gf (tick (tick (tick (tick τm))))++[.cells x.l 26,.cells (qp x (.bh (N+2+3) 0 x.pieces.length 0)) 26,c1,c2,.tail x.seen.length 3 61,.own 4 (x.pieces.flatMap aD.l) 48,.tail x.aC.length 4 48,.cells [iv y.number.min,iv y.number.max,iv y.hour.min,iv y.hour.max] 48]else bif isDone 22 D then Gf (tick (tick (tick τm)))++[.cells x.l 26,.cells (qp x (.bh (N+2+3) 0 x.pieces.length 0)) 26,c1,c2,.tail x.seen.length 3 61,.own 4 (x.pieces.flatMap aD.l) 48,.tail x.aC.length 4 48,.cells [iv y.number.min,iv y.number.max,iv y.hour.min,iv y.hour.max] 48]else bif isDone 14 D then Gf (tick (tick τm))++[.cells x.l 26,.cells (qp x (.bh (N+2+3) 0 x.pieces.length 0)) 26,c1,c2,.tail x.seen.length 3 61,.own 4 (x.pieces.flatMap aD.l) 48,.tail x.aC.length 4 48,.cells [iv y.number.min,iv y.number.max,iv y.hour.min,iv y.hour.max] 48]else bif isDone 7 D then Gf (tick τm)++[.cells x.l 26,.cells (qp x (.bh (N+2+3) 0 x.pieces.length 0)) 26,c1,c2,.tail x.seen.length 3 61,.own 4 (x.pieces.flatMap aD.l) 48,.tail x.aC.length 4 48,.cells [iv y.number.min,iv y.number.max,iv y.hour.min,iv y.hour.max] 48]else Gf τm++[.cells x.l 26,.cells (qp x (.bh (N+2+3) 0 x.pieces.length 0)) 26,c1,c2,.tail x.seen.length 3 61,.own 4 (x.pieces.flatMap aD.l) 48,.tail x.aC.length 4 48,.cells [iv y.number.min,iv y.number.max,iv y.hour.min,iv y.hour.max] 48]) ?_;simp only[seval,fO,lE,cM,bY,kQ,p8,db,pV,h5,s5,nh,ni,aY,hd,w1,w2,w3,ha,hb];have hτa:=LN.tick;have hτb:=hτa.tick;have hτc:=hτb.tick;refine nX (iv e1) _ (c9 (my (gz _) LN (by omega) (by omega) ⟨by rw[nh],rfl⟩)) ?_;(try simp only[seval,fO,lE,cM,bY,kQ,p8,db,pV,h5,s5,nh,ni,aY,hd,w1,w2,w3,ha,hb]);refine nX (iv e2) _ (c9 (my (gz _) hτa (by omega) (by omega) ⟨by rw[ni],rfl⟩)) ?_;(try simp only[seval,fO,lE,cM,bY,kQ,p8,db,pV,h5,s5,nh,ni,aY,hd,w1,w2,w3,ha,hb]);refine ik (.agg [iv a,iv b]) (c9 (Jg ⟨rfl,rfl⟩)) ?_;(try simp only[seval,fO,lE,cM,bY,kQ,p8,db,pV,h5,s5,nh,ni,aY,hd,w1,w2,w3,ha,hb]);refine nX (iv c) _ (c9 (my (gz _) hτb (by omega) (by omega) ⟨by rw[aY],rfl⟩)) ?_;(try simp only[seval,fO,lE,cM,bY,kQ,p8,db,pV,h5,s5,nh,ni,aY,hd,w1,w2,w3,ha,hb]);refine nX (iv d) _ (c9 (EP (gz _) hτc (by omega) (by omega) (by omega) ⟨by rw[hd],rfl⟩)) ?_;(try simp only[seval,fO,lE,cM,bY,kQ,p8,db,pV,h5,s5,nh,ni,aY,hd,w1,w2,w3,ha,hb]);refine ik (.agg [iv c,iv d]) (c9 (Jg ⟨rfl,rfl⟩)) ?_;(try simp only[seval,fO,lE,cM,bY,kQ,p8,db,pV,h5,s5,nh,ni,aY,hd,w1,w2,w3,ha,hb]);refine⟨by rw[mb aD.len];omega,?_⟩;have Su:=No (ys:=x.pieces) (p:=p) (y:=⟨⟨a,b⟩,⟨c,d⟩⟩) (s:=0) da rfl;simp only[aD.l,io.l,iv,U1,Uy]at Su;rw[Su];have ab:=arW ⟨n1,n2,n3⟩ u1 u2 ha hb;have hyz:yR x ⟨⟨a,b⟩,⟨c,d⟩⟩:=⟨ab.1,⟨u3.1,arU ⟨h1,h2,h3⟩ u3 u4,u4.2⟩⟩;have hzk:=acp (p:=p) hx hyz;have wh:=ap4 hx hy hyz ab.2 ⟨arV h1 u3,u4.1⟩;have gf:(x.pieces.set p ⟨⟨a,b⟩,⟨c,d⟩⟩).length=x.pieces.length:=TC;refine OL (ya:=N+5) (nD:=N+1) (j:=4) (cap:=0) (ps:=x.pieces.set p ⟨⟨a,b⟩,⟨c,d⟩⟩) (by simp only[seval,h5]) (by simp only[seval,fO];rfl) (by omega) (by rw[gf];rfl) ?_;have hkz:∀q,(qp x q).set 4 (aT (x.pieces.set p ⟨⟨a,b⟩,⟨c,d⟩⟩))=(pA x p ⟨⟨a,b⟩,⟨c,d⟩⟩).l:=λ_=>rfl;(try simp only[seval,s5,cM,hkz]);generalize pA x p ⟨⟨a,b⟩,⟨c,d⟩⟩=z2 at hzk wh⊢;have rI:z2.l.length=6:=rfl;have Gp:TH 6 z2.l=z2.l:=rfl;refine aj ?_;simp only[seval,fO,rI,Gp];refine aL ((EO hzk (Fh _ _) ?_));have d0:decide (cnt z2<cnt x)=false:=decide_eq_false (Int.not_lt.2 wh);(try simp only[seval]);refine aj ?_;simp only[seval,show ((0:Int)!=0)=false from rfl,d0];refine aF ?_;refine aO ?_;refine aj ?_;simp only[seval,bP];refine hR _ ⟨(p+1,tick (tick (tick (tick τm))),z2),?_,⟨da,?_⟩,?_⟩
  ·show x.pieces.length-(p+1)<x.pieces.length-p;omega
  ·exact hτc.tick.mono (by omega)
  ·refine Hl _ (po rfl rfl) (by simp only[seval];simp[bC,Wk.refl]) ?_ (by simp[eC]) (by dsimp only;rw[SC];exact rfl);refine FW (hGH _) λo ho m=> ?_;simp only[SK,SZ,or_false]at ho;rcases ho with rfl|rfl
   ·exact GK m x
   ·exact GK m z2
 ·have hxx:p=x.pieces.length:=by omega
  subst hxx;refine cp ?_;refine am ?_;refine aL ((ahM (Fh _ _) ?_));(try simp only[seval]);refine bi ?_;rw[hGe];exact jm hH (Wk.refl _) (.val _) hk
end
open Go.ChangeShapes Go.WideShapes Go.ChangeAt Go.RowKit
def DY (W:To):View:=⟨λb o=>W.cell? ⟨b,o,none⟩,λ_=>none,0,.plain⟩
def BR (W:To):Env:=⟨(DY W).ah,1,λ_=>0,λ_ _=>(none,0),λ_=>0,λ_=>none,true⟩
theorem apJ(W:To):Sat (DY W) W:=⟨λ_ _ _ h=>h,λ_ _ h=>by cases h⟩
theorem agj(W:To):Conc (BR W) (DY W) [.main]where
 I:=rfl
 n:=rfl
 obj:=λk x h=>by
  match k,h with
  |0,h=>cases h;exact rfl
  |k+1,h=>cases h
 inj:=λi j x y b hi hj h1 h2=>by
  match i,hi with
  |0,hi=>cases hi;cases h1
  |i+1,hi=>cases hi
 group:=λg h=>by cases h
 chan:=λc h=>by cases h
 top:=λ_=>⟨rfl,rfl⟩
 fr:=λb y h=>by cases h
theorem ajf{f:TS}{W:To}{args:Array SO}{lS:List AV}{Q:SO->Prop}(hi:SA.inits.idxOf? f=none)(hd:cF (BR W) lS args)(h:bm true SA f [.main] lS (λa _=>∀E v,aq E a v->Q v) (λ_ _=>False)):
  ∃M last o w' t',runNT SA (M+1) (solo (G (Frame.enter SA f args .normal) []) W) #[]=(.ended o w',t')/\runN SA M (solo (G (Frame.enter SA f args .normal) []) W)=.next last/\step SA last=.ended o w'/\WW SA (λv w=>Q v/\Left W.heap.size W w) last o w' t':=
 aje hi (V:=DY W) rfl rfl rfl (apJ W) (h (BR W) (DY W) args (agj W) hd) λo V' r=>by
  cases o with
  |ret v=>
   obtain⟨av,E',H',_,bW,_,bp,_,hk⟩:=r;exact⟨bW,v,rfl,λw _ hl=>⟨hk _ _ bp,hl⟩⟩
  |panic ch=>
   obtain⟨pv,v,E',H',_,_,_,_,_,_,hf⟩:=r;exact hf.elim
theorem agv{W:To}{b o len cap:Nat}{zs:List Int}(hl:zs.length=len)(hc:len<=cap)(h:∀i,i<len->W.cell? ⟨b,o+i,none⟩=some (.int .i64 (zs.getD i 0))):aq (BR W) (bu zs) (.slice (some ⟨b,o,none⟩) len cap):=by
 subst hl;refine .sl b o cap (λi=> .int .i64 (zs.getD i 0)) hc trivial (λi hi=> ?_) (λi x hx=> ?_)
 ·exact h i (by simpa using hi)
 ·rw[Tm]at hx;obtain⟨z,hz,rfl⟩:=Tp.1 hx;rw[SE,hz];exact .val _
theorem Left.below{W w:To}(h:Left W.heap.size W w):Below W.heap.size W w:=⟨h.os,h.tape,h.out,h.size,h.old⟩
theorem Tz.own:ownKnob SA.godebug=none:=by kernel_rfl
theorem Tz.laidOut:laidOutB SA=true:=by kernel_rfl
theorem Tz.HG:SA.underlying 22=some (.slice 3):=by kernel_rfl
theorem Tz.u3:SA.underlying 3=some (.int .i64):=by kernel_rfl
theorem Tz.u4:SA.underlying 4=some .bool:=by kernel_rfl
theorem Tz.c3:SA.cellsOf 3=1:=by kernel_rfl
theorem Tz.b3:SA.bytesOf 3=8:=by kernel_rfl
theorem Tz.r22:SA.readableRec 22=true:=by kernel_rfl
theorem Tz.Me:22<SA.types.size:=of_decide_eq_true (by kernel_rfl)
theorem api{H:Type}{enc:TypeId×SO->H}{a:Assume}{C:Checked}{os:Os}{f:TS}{fn:ZQ}{s:ChangeSpec}{conds:List PathCond}{apart fresh handsOn again:Bool}{X:To->Array SO->Prop}
  (own:ownKnob C.prog.godebug=none) (started:os.Started) (xH:C.prog.funcs[f]?=some fn)
  (witness:∃(w:To)(tape:Tape)(i:Input),w.os=os/\(w.forCall tape i).Shaped C.prog/\i.vars=[]/\ZP C.prog (w.forCall tape i) .any w.heap.size f i/\
   ((s.pre enc C.prog fn conds apart (w.forCall tape i).memory i.args/\X (w.forCall tape i).memory i.args)/\sizedMet enc C.prog fn (VL s) apart (w.forCall tape i).memory i.args)/\a.holds C.prog (lone (Frame.enter C.prog f i.args .normal) [] (w.forCall tape i)))
  (runs:∀(W:To)(base:Nat)(args:Array SO)(ds gs:List (ai_ H))(before:List MemPlace),
   (∀(j:Nat) t v,fn.params[j]?=some t->args[j]?=some v->Yw C.prog W .any base t v)->
   DataW.Whole enc C.prog fn.params.toList s.vars apart W args.toList ds gs before->
   conds.all (asI C.prog ⟨fn.params.toList,ds,s.plain.varTypes C.prog,gs⟩)=true->
   (Zb C.prog (fn.params.toList++s.plain.varTypes C.prog) (ds++gs)).all (·<=reachBytes)=true->
   a.holds C.prog (lone (Frame.enter C.prog f args .normal) [] W)->
   ∃M last o w' t',runNT C.prog (M+1) (solo (G (Frame.enter C.prog f args .normal) []) W) #[]=(.ended o w',t')/\runN C.prog M (solo (G (Frame.enter C.prog f args .normal) []) W)=.next last/\
    step C.prog last=.ended o w'/\WW C.prog (λv W'=>s.post enc C.prog fn apart fresh handsOn again W args v W') last o w' t'):
  ak_ a C os f .any (λw args=>(s.pre enc C.prog fn conds apart w args/\X w args)/\sizedMet enc C.prog fn (VL s) apart w args) (s.post enc C.prog fn apart fresh handsOn again):=by
 refine returnsInLeavingWide_of_good own started witness ?_;intro w tape i _ _ _ ay Lc akb;obtain⟨_,_,_,fu,aj9,_,_,_,_,Ge⟩:=ay;have e:fu=fn:=Wj (aj9.symm.trans xH);subst e;obtain⟨⟨⟨ds,gs,before,hw,hc⟩,_⟩,hz⟩:=Lc;have nB:=ah' (w':=w.forCall tape i) (by rfl) hw;obtain⟨M,last,o,w',t',h1,h2,h3,h4⟩:=runs (w.forCall tape i) w.heap.size i.args ds gs before Ge nB hc (hz.weights hw) akb;exact⟨M,last,o,w',t',h1,h2,h3,h4.mono λv hp=>an' hp⟩
def adK (f:TS):Prop:=∀aB:List Int,aB.length<=2^50->bm true SA f [.main] [bu aB] (λa _=>a=bv true) (λ_ _=>False)
set_option maxRecDepth 100000 in
theorem alt{f:TS}{fn:ZQ}{s:ChangeSpec}{X:To->Array SO->Prop}(hf:SA.funcs[f]?=some fn)(hp:fn.params=#[22]) (hr:fn.resultTypes=#[4]) (hv:s.vars=[]) (hs:∀(H:Type)(d:ai_ H),s.fn H [d]={results:=[.lit (.bool true)],args:=[d]}) (hi:SA.inits.idxOf? f=none) (akk:adK f)
  (os:Os) (started:os.Started) (H:Type) (enc:TypeId×SO->H)
  (alq:∃(w:To)(tape:Tape)(i:Input),w.os=os/\(w.forCall tape i).Shaped UK.prog/\i.vars=[]/\ZP UK.prog (w.forCall tape i) .any w.heap.size f i/\
   ((s.pre enc UK.prog fn [] false (w.forCall tape i).memory i.args/\X (w.forCall tape i).memory i.args)/\sizedMet enc UK.prog fn (VL s) false (w.forCall tape i).memory i.args)/\({}:Assume).holds UK.prog (lone (Frame.enter UK.prog f i.args .normal) [] (w.forCall tape i))):
  ak_ {} UK os f .any (λw args=>(s.pre enc SA fn [] false w args/\X w args)/\sizedMet enc SA fn (VL s) false w args) (s.post enc SA fn false true false false):=by
 refine api (C:=UK) Tz.own started hf alq ?_;intro W base args ds gs before aaf hW _ Ls _;have aW:(Zb SA (fn.params.toList++s.plain.varTypes SA) (ds++gs)).all (·<=reachBytes)=true:=Ls;clear Ls;have Ge:∀(j:Nat) t v,fn.params[j]?=some t->args[j]?=some v->Yw SA W .any base t v:=aaf;have vJ:=hW;obtain⟨p,q,Fe,hV,rfl,_,_⟩:=hW;have hA:DataW.TrodAll enc SA W 0 (λ_=>true) true fn.params.toList args.toList ds p:=Fe;rw[hp]at hA Ge aW;obtain⟨v0,d0,rfl,rfl,h0⟩:=trodAll_one hA;rw[hv]at hV;obtain⟨rfl,rfl⟩:=trodVars_none hV;have ay:=Ge 0 22 v0 rfl rfl;obtain⟨a0,len,cap,rfl⟩:=okWide_slice Tz.HG ay;have h0k:=h0;obtain⟨fuel,hfu⟩:=h0;clear Fe aaf;simp only[SN]at vJ;have hlt:∀x∈p,x.block<W.heap.size:=λx hx=>by simpa using vJ.lt x hx
 have cJ:∀(W':To),Below W.heap.size W W'->DataW.Trod enc SA W' 0 (λb=>decide (b<W.heap.size)) true 22 (.slice a0 len cap) d0 p:=
  λW' hn=>Below.trod Tz.laidOut Tz.r22 Tz.Me h0k hn hlt
 have close:∀aB:List Int,aB.length<=2^50->aq (BR W) (bu aB) (.slice a0 len cap)->
   ∃M last o w' t',runNT UK.prog (M+1) (solo (G (Frame.enter UK.prog f #[.slice a0 len cap] .normal) []) W) #[]=(.ended o w',t')/\
    runN UK.prog M (solo (G (Frame.enter UK.prog f #[.slice a0 len cap] .normal) []) W)=.next last/\step UK.prog last=.ended o w'/\
    WW UK.prog (λv W'=>s.post enc UK.prog fn false true false false W #[.slice a0 len cap] v W') last o w' t':=by
  intro aB hn hd;obtain⟨M,last,o,w',t',h1,h2,h3,h4⟩:=ajf (Q:=λv=>v=.bool true) (args:=#[.slice a0 len cap]) (lS:=[bu aB]) hi ⟨rfl,λi a e=>by
   match i,e with
   |0,e=>cases e;exact hd⟩ ((akk aB hn).mono (λa H' e E v bp=>by subst e;cases bp;rfl) λ_ _ h=>h)
  refine⟨M,last,o,w',t',h1,h2,h3,h4.mono λv ⟨hQ,hL⟩=> ?_⟩;subst hQ;have hb:=hL.below;refine⟨[d0],[],_,[],p,[],vJ,?_,?_,by rw[hv];exact(by rw[show ([d0]++[]:List (ai_ H))=[d0]from rfl,hs];rfl),hb.frame _,λh=>by cases h⟩
  ·rw[show ([d0]++[]:List (ai_ H))=[d0]from rfl,hs,hr];exact trodAll_mk1 (shut_bool Tz.u4 true)
  ·rw[show ([d0]++[]:List (ai_ H))=[d0]from rfl,hs,hp];exact trodAll_mk1 (cJ _ hb)
 rcases open_ints Tz.HG Tz.u3 Tz.c3 hfu with⟨oT,hx⟩|⟨a,atv,cap',zs,oT,_,hl,hm,hz,hx,Kg,hwz⟩
 ·simp[Z4]at oT;obtain⟨rfl,rfl,rfl⟩:=oT;exact close [] (by simp) (.nil trivial)
 ·simp[Z4]at oT;obtain⟨rfl,rfl,rfl⟩:=oT;simp only[U2]at hx;obtain⟨rfl,rfl⟩:=hx;simp only[if_true]at hz;have Sv:a.spot=none:=by
   have:=ay;simp only[Yw,Tz.HG,Cell.okWide,Cell.ok]at this;exact this.2.2.2.1
  have atn:len* 8<=140737488355328:=by
   have:=sized_slice aW (j:=0) (t:=22) (e:=3) rfl rfl Tz.HG;rw[Tz.b3]at this;simp only[lits,Tn,T4,Ul,reachBytes]at this;omega
  obtain⟨bl,off,spot⟩:=a;simp only at Sv;subst Sv;have kV:(zs.take len).length=len:=by rw[T4];omega
  refine close (zs.take len) (by rw[kV];omega) (agv kV hl λi hi=> ?_);have:=Kg i (by omega);rw[show (atP ⟨bl,off,none⟩ i)=⟨bl,off+i,none⟩ by simp[atP]]at this;rw[this,SE,SE,List.getElem?_take_of_lt hi]
def aam:List (List Nat):=[99,117,116]::[97,116]::[[70,105,114,115,116],[87,105,100,101,114],[71,105,118,101,110],[65,112,97,114,116],[70,111,114,103,101,100],[82,101,97,100],[71,114,101,97,116,101,114],[77,105,120,101,100],[84,114,117,101],[83,116,101,112,115],[79,114,100,101,114],[65,108,108]].map ([103,108,97,100,115,116,111,110,101,47,103,108,97,100,115,116,111,110,101,108,97,119,48,49,46,84,105,99,107,101,116]++·)
def aal:List Nat:=[104,97,114,110,101,115,115,32,52,53,102,100,53,51,53,49,102,55,99,100,57,55,51,53,100,100,102,52,98,97,54,100,48,51,53,50,49,55,53,54,101,100,101,54,101,54,99,53,99,99,52,49,57,100,50,53,55,100,49,55,57,50,99,52,48,101,97,100,49,102,57,101]++aam.flatMap (32::·)
set_option maxRecDepth 100000 in
theorem ioL:SA.initOrder.toList=aal.map Zd:=by
 have h:SA.initOrder=String.ofList (aal.map Zd):=by kernel_rfl
 rw[h,String.toList_ofList]
def LZ:List (List Char):=aam.map λl=>l.map Zd
set_option maxRecDepth 100000 in
theorem ioW:behindMainWord (wordsSigns SA.initOrder.toList)=LZ:=by
 rw[ioL]
 kernel_rfl
section
variable {P:SI}{c:List Char}{rest:List (List Char)}
theorem amW (h : behindMainWord (wordsSigns P.initOrder.toList) = c :: rest) (hc : c = "cut".toList) (h1 : stripLifts liftWords (c :: rest) = ([], c :: rest)) (h2 : P.laysLater = false) (h3 : P.bearsReflect = false) (h4 : P.doorFits [] = true) : P.mayEnter = true := by
 unfold atQ;rw[h];subst hc;simp only[h1,h2,h3,h4,X0,beq_self_eq_true,Xz,YD,XT,Bool.or_true,Z',U_]
theorem aj6 (h : behindMainWord (wordsSigns P.initOrder.toList) = c :: rest) (hc : c = "cut".toList) (h1 : stripLifts liftWords (c :: rest) = ([], c :: rest)) : P.headLifts = [] := by
 unfold atU;rw[h];simp only[h1,ite_self]
theorem ams (h : behindMainWord (wordsSigns P.initOrder.toList) = c :: rest) (hc : c = "cut".toList) (h1 : stripLifts liftWords (c :: rest) = ([], c :: rest)) : P.liftsFinal = false := by
 unfold atT;rw [aj6 h hc h1, h];subst hc;simp only [X0, Xz, ZU];have : (some "cut".toList == some "carried".toList) = false := by decide +kernel
 rw[this,Xf]
theorem amR (h : behindMainWord (wordsSigns P.initOrder.toList) = c :: rest) (hc : c = "cut".toList) : P.make = some .cut := by
 unfold atS;rw [h];subst hc;have e1 : ("cut".toList == "gc".toList) = false := by decide +kernel
 have e2 : ("cut".toList == "spec".toList) = false := by decide +kernel
 simp only[e1,e2,Bool.or_self,TM,if_false,beq_self_eq_true,ae',if_true]
end
def Gw:List Char:=LZ.headD []
def LX:List (List Char):=LZ.tail
theorem LY:behindMainWord (wordsSigns SA.initOrder.toList)=Gw::LX:=ioW.trans (by kernel_rfl)
theorem LW : Gw = "cut".toList := by kernel_rfl
theorem ioS:stripLifts liftWords (Gw::LX)=([],Gw::LX):=by kernel_rfl
theorem Tz.mayEnter:SA.mayEnter=true:=amW LY LW ioS (by kernel_rfl) (by kernel_rfl) (by kernel_rfl)
theorem Tz.amr:SA.liftsFinal=false:=ams LY LW ioS
theorem Tz.make:SA.make=some .cut:=amR LY LW
end Go.Gg
