/- A part of the proof. -/
import Derived.Test.YtkanpclgnhdbiaaGreatDoorTicketGreaterCard3
set_option linter.all false
set_option maxRecDepth 4000
set_option maxHeartbeats 4000000
open Array renaming getD_eq_getD_getElem?->SH,getElem?_eq_getElem->SJ,getElem?_eq_some_iff->SR,getElem?_modify->Wo,getElem_mem->XX,replicate->TN
open Bool renaming and_eq_true->Tl,and_self->ad_,eq_iff_iff->U3,false_and->YJ,false_or->Zy,not_eq_true'->T1,not_true->as_,true_and->Vx
open Classical renaming byContradiction->Tn
open Function renaming comp_apply->Wn
open Go renaming Code->T7,Oper->Tu,Program->SI,Value->SP
open Go.IntKind renaming i64->SD,u16->S7
open Go.Obj renaming deferred->au_
open Go.Proofs.Tryz renaming f15->WY,f22->XE,f34->ZM,f39->an',f53->an_,f9->VY,prog->SA
open Go.Region renaming linearise->Zc,schedule->VO,wanted->Ti
open Go.Region.linearise renaming go->UK
open Go.Value renaming agg->TE,int->SF,slice->Uu
open Int renaming le_refl->Wd,le_trans->XJ,mul_le_mul->Yj,toNat->Yb,toNat_natCast->VR
open List renaming all_eq_true->Tv,any_append->ZD,any_cons->YV,any_eq_true->Ur,any_map->Z2,append_assoc->SC,append_eq->Vw,append_eq_nil_iff->YG,append_nil->SN,cons_append->Vm,contains_append->YT,contains_eq_mem->Us,contains_iff_mem->Wi,contains_nil->ZC,countP_le_length->Y6,drop->TH,drop_append->VA,drop_append_of_le_length->Wu,drop_drop->am_,drop_eq_getElem_cons->TL,drop_of_length_le->W2,drop_zero->XD,eq_nil_of_length_eq_zero->UF,eraseIdx_eq_take_drop_succ->Wh,exists_mem_of_ne_nil->Yi,ext_getElem?->Yr,filter_congr->US,filter_eq_nil_iff->YF,filter_map->X4,flatMap_append->VE,flatMap_cons->T5,flatMap_def->WW,flatMap_eq_nil_iff->Vv,flatMap_map->Vu,flatMap_nil->WV,foldl_append->ZS,foldl_cons->U4,forall_mem_cons->Xk,getD_cons_succ->Xj,getD_cons_zero->Xs,getD_eq_getElem?_getD->SE,getElem?_append_left->SX,getElem?_append_right->Ta,getElem?_drop->Up,getElem?_eq_getElem->SW,getElem?_eq_none->Ux,getElem?_eq_some_iff->SL,getElem?_map->To,getElem?_of_mem->U5,getElem?_range->XC,getElem?_set->UU,getElem?_set_ne->Ua,getElem?_take->Uf,getElem_mem->Wz,getLast?_eq_getElem?->Yg,getLastD_cons->Zt,getLastD_eq_getLast?->UR,head?_append->WU,head?_cons->ZR,length->Z9,length_append->S5,length_cons->Un,length_drop->Uk,length_eraseIdx_of_lt->Ya,length_map->S9,length_nil->UW,length_pos_iff->Vy,length_replicate->YM,length_set->TF,length_singleton->T_,length_take->TV,map->Ve,map_append->TG,map_congr_left->Vg,map_cons->UP,map_drop->apT,map_flatMap->UO,map_map->WM,map_take->VJ,mem_append->SQ,mem_append_left->Th,mem_append_right->S4,mem_cons->SK,mem_cons_of_mem->Td,mem_cons_self->TC,mem_filter->Uq,mem_flatMap->S6,mem_iff_getElem?->UV,mem_map->Te,mem_of_getElem?->S_,mem_of_mem_take->Wy,mem_or_eq_of_mem_set->UD,mem_range->Tx,mem_reverse->XO,mem_singleton->S8,nil_append->UL,nodup_append->Vb,nodup_cons->VW,nodup_iff_pairwise_ne->Uv,nodup_nil->WS,nodup_range->XZ,not_mem_nil->SZ,pairwise_iff_getElem->Yf,pairwise_map->XA,range->SU,range'->T9,range'_succ->VU,range_eq_range'->Vs,range_succ->Vp,range_zero->ZB,replicate->TJ,reverse_cons->Zl,set_append_left->UX,set_append_right->Ud,set_cons_succ->UJ,set_cons_zero->T4,set_eq_take_append_cons_drop->X8,take->TS,take_add_one->UZ,take_append_drop->Vo,take_append_of_le_length->Tw,take_eq_nil_iff->YS,take_length->TD,take_nil->YE,take_of_length_le->SS,take_set->Z8,take_sublist->Zk,take_succ_cons->VT,take_succ_eq_append_getElem->XN,take_take->U8,take_zero->al'
open List.Nodup renaming sublist->Ys
open List.Pairwise renaming imp->Z_,imp_of_mem->Xy
open List.Perm renaming nodup_iff->ap_,refl->ae'
open List.cons renaming injEq->YU
open Nat renaming add_assoc->U6,add_sub_cancel->Wa,add_sub_cancel_left->TU,add_zero->UI,eq_zero_or_pos->Ul,le_refl->SO,le_trans->UH,lt_or_ge->YL,lt_succ_self->Uy,min_eq_left->WC,pow_le_pow_right->Xr,reduceAdd->SY,reduceSub->Yw,sub_self->Vd,sub_zero->Z1,succ_mul->XH,testBit_or->Xq,testBit_two_pow->VS,zero_add->Wx,zero_le->WQ,zero_testBit->Zz
open Option renaming getD_some->S0,map_some->UT,toList_some->Ww
open Option.some renaming injEq->Tm
namespace Go.Gg
open Go.Conc Go.Proofs Go.Gg.Tk
def nb (τ:aZ)(n m lo hi:Int):fL:=⟨max lo (n-dg τ m),min hi (n+dg (tick τ) m)⟩
def lF (τ:aZ)(h:List Int)(n hours:Int):aB:=⟨nb τ n 2 0 99,nb (tick (tick τ)) (lW h n (h.length-1)) 1 0 (hours-1)⟩
section
variable {lv:Bool}{k kp:AV->List aa->Prop}{Gf:aZ->List aa}{t N:Nat}{τ:aZ}{b:Int}
theorem J7{n m lo hi:Int}(hT:dH Gf t N)(hτ:τ.Ok b)(hb:b<2^30)(hn: -1000<=n/\n<=1000)(hm:0<=m/\m<=3)(hk:k (nb τ n m lo hi).av (Gf (tick (tick τ)))):bf lv SA 48 (Gf τ) [.op t 0,iv n,iv m,.agg [iv lo,iv hi]] k kp:=by
 refine bI (rs:=[.cell 8 46]) (nt:=26) Tryz.f48 λhH hA=> ?_;simp only[bt,SY];have ox:dH (λτ=>Gf τ++[.cells [iv lo,iv hi] 46,.cells [iv 0,iv 0] 46]) t (N+2):=hT.more [_,_];have r1:=kM τ m;have r2:=kM (tick τ) m;have bC:SD.wrap (n-dg τ m)=n-dg τ m:=bw _ (by omega);have fY:SD.wrap (n+dg (tick τ) m)=n+dg (tick τ) m:=bw _ (by omega);have rO:(if lo<n-dg τ m then n-dg τ m else lo)=max lo (n-dg τ m):=by split<;>omega
 have rN:(if n+dg (tick τ) m<hi then n+dg (tick τ) m else hi)=min hi (n+dg (tick τ) m):=by split<;>omega
 refine ak ?_;refine o_ [5,13,17] (SU 18) (λD=>bif isDone 17 D then Gf (tick (tick τ))++[.cells [iv lo,iv hi] 46,.cells [iv (max lo (n-dg τ m)),iv (min hi (n+dg (tick τ) m))] 46]else bif isDone 13 D then Gf (tick (tick τ))++[.cells [iv lo,iv hi] 46,.cells [iv 0,iv 0] 46]else bif isDone 5 D then Gf (tick τ)++[.cells [iv lo,iv hi] 46,.cells [iv 0,iv 0] 46]else Gf τ++[.cells [iv lo,iv hi] 46,.cells [iv 0,iv 0] 46]) ?_;simp only[seval,hT.len,hT.g0,hT.g1,hT.g2,hT.g3,hT.h2,hT.h3,hT.s0,hT.s1,hT.s2,hT.s3,hT.t2,hT.t3,bC,fY,rO,rN];refine sY _ _ (di (oi (ox) hτ (by omega) (by omega) ⟨rfl,rfl⟩)) ?_;(try simp only[seval,hT.len,hT.g0,hT.g1,hT.g2,hT.g3,hT.h2,hT.h3,hT.s0,hT.s1,hT.s2,hT.s3,hT.t2,hT.t3,bC,fY,rO,rN]);refine sY _ _ (di (oi (ox) hτ.tick (by omega) (by omega) ⟨rfl,rfl⟩)) ?_;(try simp only[seval,hT.len,hT.g0,hT.g1,hT.g2,hT.g3,hT.h2,hT.h3,hT.s0,hT.s1,hT.s2,hT.s3,hT.t2,hT.t3,bC,fY,rO,rN]);refine oe ?_;simp only[seval,hT.len,hT.g0,hT.g1,hT.g2,hT.g3,hT.h2,hT.h3,hT.s0,hT.s1,hT.s2,hT.s3,hT.t2,hT.t3];exact jU (b:=(nb τ n m lo hi).av) (H':=Gf (tick (tick τ))) (Wk.refl _) rfl (by simp[hT.len]) (hT.aq hH _) (by simp[fL.av,fL.l,sf,eC]) hk
theorem Q8{h:List Int}{n hours:Int}{e:End}(hT:dH Gf t N)(hτ:τ.Ok b)(hb:b<2^20)(hl:h.length<=4)(hn: -1000<=n/\n<=1000)(hh:1<=hours/\hours<=3)(qD: -1<=lW h n (h.length-1)/\lW h n (h.length-1)<=4)(hk:k (lF τ h n hours).av (Gf (tick (tick (tick (tick τ)))))):bf lv SA 47 (Gf τ) [.op t 0,.sl h.length (h.map iv) e,iv n,iv hours] k kp:=by
 refine bI (rs:=[.cell 8 48]) (nt:=22) Tryz.f47 λhH hA=> ?_;simp only[bt,SY];have uG:∀o:aa,dH (λτ=>Gf τ++[o]) t (N+1):=λo=>hT.more [o];have bC:SD.wrap (hours-1)=hours-1:=bw _ (by omega);refine ak ?_;refine ai ?_;simp only[seval,bC];refine aJ ((J7 (n:=n) (m:=2) (lo:=0) (hi:=99) (uG _) hτ (by omega) hn (by decide) ?_));(try simp only[seval]);refine aJ ((aiZ (h:=h) (n:=n) hl ?_));(try simp only[seval,bC]);refine aJ ((J7 (n:=lW h n (h.length-1)) (m:=1) (lo:=0) (hi:=hours-1) (uG _) hτ.tick.tick (by omega) (by omega) (by decide) ?_));(try simp only[seval,hT.len,hT.g0,hT.g1,hT.g2,hT.g3,hT.h2,hT.h3,hT.s0,hT.s1,hT.s2,hT.s3,hT.t2,hT.t3,fL.av,fL.l]);refine oe ?_;simp only[seval,hT.len,hT.g0,hT.g1,hT.g2,hT.g3,hT.h2,hT.h3,hT.s0,hT.s1,hT.s2,hT.s3,hT.t2,hT.t3];exact jU (b:=(lF τ h n hours).av) (H':=Gf (tick (tick (tick (tick τ))))) (Wk.refl _) rfl (by simp[hT.len]) (hT.aq hH _) (by simp[aB.av,aB.l,sf,eC]) hk
end
end Go.Gg
namespace Go.Gg.Tk
def ul:List Int->Prop
 |a::b::l=>a<=b/\ul (b::l)
 |_=>True
theorem asz{h:List Int}{n:Int}(hl:2<=h.length)(qt:h.length<=4)(hm:ul h):lW h n (h.length-1)=iL h n:=by
 match h,hl,qt,hm with
 |[a,b],_,_,hm=>
  simp only[iL,eP,lW,Un,UW,Xs,Xj,SY,Yw]
 |[a,b,c],_,_,hm=>
  obtain⟨h1,h2,_⟩:=hm;simp only[iL,eP,lW,Un,UW,Xs,Xj,SY,Yw];split<;>split<;>first|rfl|omega
 |[a,b,c,d],_,_,hm=>
  obtain⟨h1,h2,h3,_⟩:=hm;simp only[iL,eP,lW,Un,UW,Xs,Xj,SY,Yw];split<;>split<;>first|rfl|omega|(split<;>first|rfl|omega)
end Go.Gg.Tk
namespace Go.Gg
open Go.Conc
section
variable {lv:Bool}{P:SI}{r:Option Nat}{o:Tu}{s:AS}{next:AS->Prop}{bad:AV->AS->Prop}
end
section
variable (lv:Bool)(P:SI)(r:Option Nat)
def Cb:List Tu->AS->(AS->Prop)->(AV->AS->Prop)->Prop
 |[],s,K,_=>K s
 |o::rest,s,K,bad=>o.guard=none/\Step lv P r o s (λs'=>Cb rest s' K bad) bad
end
section
variable {lv:Bool}{P:SI}{r:Option Nat}{s:AS}
theorem adv{nt:Nat}{all:Array Tu}{Φ:an->AS->Prop}(dt:∀o∈all,∀d,o.dst=some d->d<nt)(ny:∀o∈all,r=none\/mi o.op=false):∀(n k:Nat)(s:AS),k+n=all.size->Cb lv P r (all.toList.drop k) s (Φ .normal) (λpv s=>Φ (.panic pv) s)->
  ∀(E:Env)(V:View)(a:Act)(Q:Ex->Act->View->Prop),At E V s a nt->(∀ae e E' V' a' s',Kept E E' V V' a a'->At E' V' s' a' nt->pV E' ae e->Φ ae s'->Q e a' V')->dp lv P r all Q (T9 k n) a V
 |0,k,s,hk,h,E,V,a,Q,ah,hQ=>by
  have:all.toList.drop k=[]:=by simp;omega
  rw[this]at h;exact hQ .normal .normal E V a s (Kept.refl E V a) ah trivial h
 |n+1,k,s,hk,h,E,V,a,Q,ah,hQ=>by
  have hlt:k<all.size:=by omega
  have hd:all.toList.drop k=all[k]::all.toList.drop (k+1):=by
   rw[TL (by simpa using hlt)];simp
  rw[hd]at h;have fF:all[k]∈all:=XX hlt;have ho:all[k]?=some all[k]:=SJ hlt;simp only[VU,dp,ho];obtain⟨hg,h⟩:=h;have hw:Ti all[k] (yielded all a.tmps)=true:=by unfold Ti;rw[hg]
  rw[if_pos hw];refine .inl (h E V a _ Q ah.bu ah.tok (λd e=>by rw[ah.size];exact dt _ fF d e) (ny _ fF) (λE' V' a' s' aI bi mf hn=> ?_) (λE' V' s' pv v aI bi mf bk hb=> ?_))
  ·exact adv dt ny n (k+1) s' (by omega) hn E' V' a' Q ⟨bi,mf,aI.size.trans ah.size⟩ (λae e bS aS cj dn fV dj he hΦ=>hQ ae e bS aS cj dn (aI.trans fV) dj he hΦ)
  ·exact hQ (.panic pv) (.panic _) E' V' a s' aI ⟨bi,mf,ah.size⟩ ⟨v,rfl,bk⟩ hb
theorem agh{nt id:Nat}{ops:Array Tu}{Φ:an->AS->Prop}(hd:jT nt ops=true)(h:Cb lv P r ops.toList s (Φ .normal) (λpv s=>Φ (.panic pv) s)):aP lv P r nt (.region id ops false) s Φ:=by
 intro E V a Q ah hQ;refine wp_region ?_;rw[Vs];exact adv (Φ:=Φ) (λo ho d e=>(jT.out hd ho).1 d e) (λo ho=> .inr (jT.out hd ho).2) ops.size 0 s (by omega) (by simpa using h) E V a Q ah hQ
end
section
variable {lv:Bool}{P:SI}{r:Option Nat}{o:Tu}{s:AS}{next:AS->Prop}{bad:AV->AS->Prop}
theorem Jf{nt id:Nat}{c:T7}{l:List AV}{el:TypeId}{Φ:an->AS->Prop}(bX:s.H[id]?=some (.cells l el))(h:aP lv P r nt c ⟨s.T,s.H.set id (.part l.length l el)⟩ Φ):aP lv P r nt c s Φ:=λE V a Q ah hQ=>by
 have hc:=ah.bu;obtain⟨⟨cs,ew,hd⟩,k_⟩:=hc.obj id _ bX;have g:dU V (V.eI (E.blk id) cs (λo=>decide (o<l.length))):=yb ew (λo _=>k_ o);refine WP.ghost g ?_;have hI:∀b o v,E.I b o=some v->(V.eI (E.blk id) cs (λo=>decide (o<l.length))).ab b o=some v:=λb o v e=>by
  rw[hc.I]at e;have hb:b≠E.blk id:=λhb=>by rw[hb,k_]at e;cases e
  simp only[View.eI];rw[if_neg (λx=>hb x.1)];exact e
 have hle:E.Le {E with I:=(V.eI (E.blk id) cs (λo=>decide (o<l.length))).ab}:=⟨hI,SO _,λ_ _=>rfl,λ_ _=>SO _,λ_ _ _ _=>rfl,rfl,rfl⟩;have cO:Conc {E with I:=(V.eI (E.blk id) cs (λo=>decide (o<l.length))).ab} (V.eI (E.blk id) cs (λo=>decide (o<l.length))) (s.H.set id (.part l.length l el)):=by
  refine hc.iN id _ hle rfl (by rw[TF];exact hc.n) ln rfl (λ_ _ _=>rfl) (λb y fu hy=>⟨hy,λo=> ?_⟩) ⟨⟨cs,ew,(hd.mono hle).p,λo ho=> ?_⟩,λo ho=> ?_⟩ (λb hb=> .inl ⟨_,bX,hb⟩)
  ·have hb:b≠E.blk id:=λhb=>fu _ bX (by rw[hb];rfl);simp only[View.eI];rw[if_neg (λx=>hb x.1)]
  ·simp only[View.eI];rw[if_pos ⟨trivial,by simpa using ho⟩]
  ·simp only[View.eI];rw[if_neg (λx=>by have:=x.2;simp at this;omega)];exact k_ o
 exact h _ _ a Q ⟨cO,ah.tok.mono hle,ah.size⟩ λae e E' aS a' s' hk=>hQ ae e E' aS a' s' ((⟨hle,rfl,rfl,rfl,rfl⟩:Kept E _ V (V.eI (E.blk id) cs (λo=>decide (o<l.length))) a a).trans hk)
def xK (H:List aa)(b a:AV):Prop:=∀E V v,Conc E V H->ap E b v->ap E a v
theorem xK.of{H:List aa}{b a:AV}(h:Wk b a):xK H b a:=λE _ v _ d=>h E v d
theorem EN{H:List aa}{id n cap m p:Nat}{l:List AV}{el:TypeId}(bX:H[id]?=some (.part p l el))(hm:m<=p)(hp:p<=l.length):xK H (.bp id 0 n cap) (.sl n (l.take m) .shut):=λE V v hc hd=>by
 cases hd with
 |bp hi dR=>
  rename_i cap';obtain⟨⟨cs,ho,Gp,uO⟩,_⟩:=hc.obj id _ bX;refine .sl (E.blk id) 0 cap' (λi=>cs.getD i undef) dR.1 trivial (λi cC=> ?_) (λi x hx=> ?_)
  ·rw[TV]at cC;have hlt:i<cs.size:=(by have:=Gp.1;omega);rw[hc.I,Wx,uO i (by omega),SH,SJ hlt];rfl
  ·rw[Uf]at hx;split at hx
   ·exact Gp.2 i x hx
   ·cases hx
theorem Cu{nt id j:Nat}{c:T7}{l:List AV}{x y:AV}{el:TypeId}{Φ:an->AS->Prop}(bX:s.H[id]?=some (.cells l el))(hj:l[j]?=some x)(hw:xK s.H x y)(h:aP lv P r nt c ⟨s.T,s.H.set id (.cells (l.set j y) el)⟩ Φ):aP lv P r nt c s Φ:=λE V a Q ah hQ=>by
 have hc:=ah.bu;obtain⟨⟨cs,ew,hd⟩,k_⟩:=hc.obj id _ bX;have cO:Conc E V (s.H.set id (.cells (l.set j y) el)):=
  hc.iN id _ (Env.Le.refl _) hc.I (by rw[hc.n,TF]) ln rfl (λ_ _ _=>rfl) (λb y _ hy=>⟨hy,λ_=>rfl⟩) ⟨⟨cs,ew,Qw hd hj (λv d=>hw E V v hc d)⟩,k_⟩ (λb dI=> .inl ⟨_,bX,dI⟩)
 exact h E V a Q ⟨cO,ah.tok,ah.size⟩ hQ
theorem PN{nt t:Nat}{c:T7}{x y:AV}{Φ:an->AS->Prop}(ht:look s.T t=some x)(hw:xK s.H x y)(h:aP lv P r nt c ⟨(t,y)::s.T,s.H⟩ Φ):aP lv P r nt c s Φ:=λE V a Q ah hQ=>by
 refine h E V a Q ⟨ah.bu,λt' b e=> ?_,ah.size⟩ hQ;simp only[look]at e;split at e
 ·rename_i e';subst e';cases e;exact⟨(ah.tok t x ht).1,hw E V _ ah.bu (ah.tok t x ht).2⟩
 ·exact ah.tok t' b e
end
open Go.Proofs Go.Gg.Tk
def iA (τ:aZ)(n:Nat):Nat->List Int×aZ
 |0=>(TJ n 0,τ)
 |i+1=>(((iA τ n i).1.set i ((iA τ n i).1.getD (dg (iA τ n i).2 i).toNat 0)).set (dg (iA τ n i).2 i).toNat i,tick (iA τ n i).2)
theorem Bc(τ:aZ)(n:Nat):∀i,(iA τ n i).1.length=n
 |0=>YM
 |i+1=>by rw[iA,TF,TF,Bc τ n i]
theorem HD{τ:aZ}{b:Int}(h:τ.Ok b)(n:Nat):∀i:Nat,(iA τ n i).2.Ok (b+i)
 |0=>h.mono (by simp)
 |i+1=>(HD h n i).tick.mono (by simp;omega)
theorem aew(n:Nat):gU (SF .i64 0) n=(TJ n (0:Int)).map iv:=by
 have h:∀i∈SU n,AV.pN ((SF SD 0).cells[i % (SF SD 0).cells.size]!)=iv 0:=λi _=>by
  rw[show (SF SD 0).cells.size=1 from rfl,Nat.mod_one];rfl
 rw[List.map_replicate];unfold gU;rw[Vg h,List.map_const',List.length_range]
section
variable {lv:Bool}{k kp:AV->List aa->Prop}{Gf:aZ->List aa}{t N:Nat}{τ:aZ}{b:Int}
theorem Q7{n:Nat}(hT:dH Gf t N)(hτ:τ.Ok b)(hb:b<2^30)(hn:n<=2^20)(hk:k (br (iA τ n n).1) (Gf (iA τ n n).2)):bf lv SA 37 (Gf τ) [.op t 0,iv n] k kp:=by
 refine bI (rs:=[.tmp 4]) (nt:=30) Tryz.f37 λhH hA=> ?_;simp only[bt,SY];have uG:∀o:aa,dH (λτ=>Gf τ++[o]) t (N+1):=λo=>hT.more [o];refine ak ?_;refine ai ?_;simp only[seval,aew,hT.len];refine⟨by omega,by omega,?_⟩;refine ak ?_;refine bY ?_;refine gF n (λi:Nat=>[(6,iv i)]) (λi=>Gf (iA τ n i).2++[.cells ((iA τ n i).1.map iv) 3]) (λ_=>True) (λ_ _=>rfl) (by simp only[seval];simp[bm,Wk.refl]) rfl (λ_ _ _=>by simp[hT.len]) trivial (λbJ cm i cK hi R hR=> ?_);clear bJ cm;refine ak ?_;refine aD ?_;refine⟨λh=> ?_,λh=> ?_⟩
 ·have bB:i<n:=by omega
  have aq:=HD hτ n i;have hlen:=Bc τ n i;have yN:SD.wrap ((i:Int)+1)=i+1:=bw _ (by omega);have eB:iA τ n (i+1)=(((iA τ n i).1.set i ((iA τ n i).1.getD (dg (iA τ n i).2 i).toNat 0)).set (dg (iA τ n i).2 i).toNat i,tick (iA τ n i).2):=rfl;generalize iA τ n i=m at aq hlen eB⊢;obtain⟨l,σ⟩:=m;simp only at aq hlen eB;have hr:=kM σ i;refine aO ?_;refine ak ?_;refine aJ ((oi (uG _) aq (by omega) (by omega) ?_));(try simp only[seval]);generalize dg σ i=u at hr eB⊢;obtain⟨u,rfl⟩:∃w:Nat,u=w:=⟨u.toNat,by omega⟩;rw[VR]at eB;have wW:u<n:=by omega
  obtain⟨a,ha⟩:=bZ (xs:=l) (i:=u) (by omega);have Ls:l.getD u 0=a:=by rw[SE,ha];rfl
  rw[Ls]at eB;obtain⟨a2,C4⟩:=bZ (xs:=l) (i:=i) (by omega);have GH:(i+1<=l.length)=True:=by simp;omega
  have hou:(u+1<=(l.set i a).length)=True:=by simp;omega
  refine ai ?_;simp only[seval,jR bB,jR wW,hT.len,hT.g0,hT.g1,hT.g2,hT.g3,hT.h2,hT.h3,hT.s0,hT.s1,hT.s2,hT.s3,hT.t2,hT.t3,kT ha,S9,GH,xi (y:=a) (show i<l.length by omega)];refine ai ?_;simp only[seval,jR wW,hT.len,hT.g0,hT.g1,hT.g2,hT.g3,hT.h2,hT.h3,hT.s0,hT.s1,hT.s2,hT.s3,hT.t2,hT.t3,S9,hou,xi (xs:=l.set i a) (y:=i) (show u<(l.set i a).length by simp;omega)];refine ai ?_;simp only[seval,yN];refine hR _ ⟨bB,trivial,?_⟩;rw[eB];exact cT
 ·have jC:i=n:=by omega
  subst jC;clear hR;refine bU ?_;have hlen:=Bc τ i i;generalize iA τ i i=m at hlen hk⊢;obtain⟨l,σ⟩:=m;simp only at hlen hk
  (repeat apply im);refine Jf (id:=N) (by simp only[seval,hT.len,hT.g0,hT.g1,hT.g2,hT.g3,hT.h2,hT.h3,hT.s0,hT.s1,hT.s2,hT.s3,hT.t2,hT.t3]<;>rfl) ?_
  simp only[seval,hT.len,hT.g0,hT.g1,hT.g2,hT.g3,hT.h2,hT.h3,hT.s0,hT.s1,hT.s2,hT.s3,hT.t2,hT.t3]
  (repeat apply im);refine PN (t:=5) (y:=br l) (by simp only[seval]<;>rfl) ?_ ?_
  ·have e:br l=.sl i ((l.map iv).take i) .shut:=by
    rw[SS (by simp;omega),br,hlen]
   rw[e];exact EN (p:=l.length) (by simp only[seval,hT.len,hT.g0,hT.g1,hT.g2,hT.g3,hT.h2,hT.h3,hT.s0,hT.s1,hT.s2,hT.s3,hT.t2,hT.t3]<;>rfl) (by omega) (by simp)
  refine ak ?_;refine bc ?_;exact jU (b:=br l) (H':=Gf σ) (G:=[.part l.length (l.map iv) 3]) (Wk.refl _) rfl (by simp[hT.len]) (hT.aq hH σ) (by rw[yV];trivial) hk
end
structure IX (p:List Int)(n:Nat):Prop where
 len:p.length=n
 nodup:p.Nodup
 H5:∀v∈p,0<=v/\v<(n:Int)
theorem set_perm{t:List Int}{k:Nat}{a b:Int}(h:t[k]?=some a):(t.set k b++[a]).Perm (t++[b]):=by
 obtain⟨hk,rfl⟩:=SL.1 h;have e:t=t.take k++t[k]::t.drop (k+1):=by rw[<- TL hk,Vo]
 rw[X8,if_pos hk]
 conv=>rhs;rw[e]
 rw[List.perm_iff_count];intro v;simp only[List.count_append,List.count_cons,List.count_nil];omega
theorem abR(τ:aZ)(n:Nat):∀i:Nat,i<=n->((iA τ n i).1.take i).Nodup/\∀v∈(iA τ n i).1.take i,0<=v/\v<(i:Int)
 |0,_=>by simp
 |i+1,hi=>by
  obtain⟨h1,h2⟩:=abR τ n i (by omega);have hlen:=Bc τ n i;rw[iA];generalize iA τ n i=m at h1 h2 hlen⊢;obtain⟨l,σ⟩:=m;simp only at h1 h2 hlen⊢;have hr:=kM σ i;generalize dg σ i=u at hr⊢;obtain⟨k,rfl⟩:∃w:Nat,u=w:=⟨u.toNat,by omega⟩;rw[VR];obtain⟨a,ha⟩:=bZ (xs:=l) (i:=k) (by omega);obtain⟨c,hc⟩:=bZ (xs:=l) (i:=i) (by omega);have Ls:l.getD k 0=a:=by rw[SE,ha];rfl
  have wV:(l.take i).length=i:=by rw[TV];omega
  have hp:(((l.set i a).set k (i:Int)).take (i+1)).Perm (l.take i++[(i:Int)]):=by
   rw[Z8,Z8,UZ,hc];show ((((l.take i)++[c]).set i a).set k (i:Int)).Perm _;rw[Ud _ _ (by omega),wV,Vd];show (((l.take i)++[a]).set k (i:Int)).Perm _;by_cases e:k=i
   ·subst e;rw[Ud _ _ (by omega),wV,Vd];exact ae' _
   ·rw[UX _ _ (by omega)];exact set_perm (by rw[Uf,if_pos (by omega)];exact ha)
  rw[Ls];refine⟨(ap_ hp).2 ?_,λv hv=> ?_⟩
  ·exact Vb.2 ⟨h1,by simp,λx hx y hy e=>by
    have:=h2 x hx;simp at hy;omega⟩
  ·rcases SQ.1 (hp.mem_iff.1 hv)with hv|hv
   ·have:=h2 v hv;omega
   ·simp at hv;omega
theorem abS(τ:aZ)(n:Nat):IX (iA τ n n).1 n:=by
 obtain⟨h1,h2⟩:=abR τ n n (SO _);rw[SS (by rw[Bc];exact SO _)]at h1 h2;exact⟨Bc τ n n,h1,h2⟩
theorem Cq{τ:aZ}{n m lo hi:Int}(hn:lo<=n/\n<=hi)(pz:0<=lo):sF (nb τ n m lo hi) hi/\iI (nb τ n m lo hi) n=true:=by
 have r1:=kM τ m;have r2:=kM (tick τ) m;unfold nb;refine⟨⟨?_,?_,?_⟩,?_⟩
 ·dsimp only;omega
 ·dsimp only;omega
 ·dsimp only;omega
 ·unfold iI;rw[Tl,decide_eq_true_eq,decide_eq_true_eq];dsimp only;omega
theorem JR(τ:aZ){ns:List Int}(h:ns≠[]):wj τ ns∈ns:=by
 unfold wj;have hl:0<ns.length:=Vy.2 h;have r:=kM τ ((ns.length:Int)-1);have hi:(dg τ ((ns.length:Int)-1)).toNat<ns.length:=by omega
 rw[SE,SW hi];exact Wz hi
def xn (τ:aZ)(am:Int):Int:=wj (tick τ) [0,am,dg τ am]
theorem ady(τ:aZ){am:Int}(h:0<=am):0<=xn τ am/\xn τ am<=am:=by
 have r:=kM τ am;have:=JR (tick τ) (ns:=[0,am,dg τ am]) (by simp);unfold xn;simp only[SK,SZ,or_false]at this;omega
def lc (τ:aZ)(first am:Int):Nat->List Int×aZ
 |0=>([first],τ)
 |i+1=>((lc τ first am i).1++[(lc τ first am i).1.getD i 0+xn (lc τ first am i).2 am],tick (tick (lc τ first am i).2))
structure mV (first am:Int)(l:List Int)(i:Nat):Prop where
 len:l.length=i+1
 head:l.getD 0 0=first
 step:∀j,j<i->l.getD j 0<=l.getD (j+1) 0/\l.getD (j+1) 0<=l.getD j 0+am
theorem FZ{l:List Int}{v:Int}{j:Nat}(h:j<l.length):(l++[v]).getD j 0=l.getD j 0:=by
 rw[SE,SE,SX h]
theorem akb{l:List Int}{v:Int}{j:Nat}(h:l.length=j):(l++[v]).getD j 0=v:=by
 subst h;rw[SE,Ta (SO _),Vd];rfl
theorem aap(τ:aZ)(first:Int){am:Int}(h:0<=am):∀i,mV first am (lc τ first am i).1 i
 |0=>⟨rfl,rfl,λj hj=>by omega⟩
 |i+1=>by
  have ih:=aap τ first h i
  rw[lc];have hs:=ady (lc τ first am i).2 h;generalize xn (lc τ first am i).2 am=v at hs⊢;generalize(lc τ first am i).1=l at ih⊢;have hl:=ih.len;refine⟨by rw[S5,hl];rfl,by rw[FZ (by omega)];exact ih.head,λj hj=> ?_⟩;by_cases cp:j<i
  ·rw[FZ (by omega),FZ (by omega)];exact ih.step j cp
  ·have:j=i:=(by omega);subst this;rw[FZ (by omega),akb (by omega)];omega
theorem aaq{τ:aZ}{b:Int}(h:τ.Ok b)(first am:Int):∀i:Nat,(lc τ first am i).2.Ok (b+2* i)
 |0=>h.mono (by simp)
 |i+1=>(aaq h first am i).tick.tick.mono (by simp;omega)
theorem mV.ge{first am:Int}{l:List Int}{i:Nat}(h:mV first am l i)(hp:0<=am):∀j,j<=i->first<=l.getD j 0/\l.getD j 0<=first+am* j
 |0,_=>by rw[h.head];simp
 |j+1,hj=>by
  have ih:=h.ge hp j (by omega);have:=h.step j (by omega);have e:am* ((j+1:Nat):Int)=am* j+am:=by rw[Int.natCast_add,Int.mul_add];simp
  omega
def kJ (first:Int)(order:List Int)(i:Nat):List Int:=(SU i).map λj=>first+order.getD j 0
theorem ab3(first:Int)(order:List Int)(i:Nat):kJ first order (i+1)=kJ first order i++[first+order.getD i 0]:=by
 unfold kJ;rw[Vp,TG];rfl
theorem ab2(first:Int)(order:List Int)(i:Nat):(kJ first order i).length=i:=by simp[kJ]
def kD (h:List Int)(hours:Int)(num:Nat->Int)(τ:aZ):Nat->List aB×aZ
 |0=>([],τ)
 |i+1=>((kD h hours num τ i).1++[lF (tick (kD h hours num τ i).2) h (num i) hours],tick (tick (tick (tick (tick (kD h hours num τ i).2)))))
theorem Az(h:List Int)(hours:Int)(num:Nat->Int)(τ:aZ):∀i,(kD h hours num τ i).1.length=i
 |0=>rfl
 |i+1=>by rw[kD,S5,Az h hours num τ i];rfl
theorem K0{τ:aZ}{b:Int}(hτ:τ.Ok b)(h:List Int)(hours:Int)(num:Nat->Int):∀i:Nat,(kD h hours num τ i).2.Ok (b+5* i)
 |0=>hτ.mono (by simp)
 |i+1=>(K0 hτ h hours num i).tick.tick.tick.tick.tick.mono (by simp;omega)
def so (h:List Int)(hours:Int)(τ:aZ):Nat->List Seen×aZ
 |0=>([],τ)
 |i+1=>((so h hours τ i).1++[⟨dg (so h hours τ i).2 hours,nb (tick (so h hours τ i).2) (h.getD (dg (so h hours τ i).2 hours).toNat 0) 1 0 99⟩],tick (tick (tick (so h hours τ i).2)))
theorem ac3(h:List Int)(hours:Int)(τ:aZ):∀i,(so h hours τ i).1.length=i
 |0=>rfl
 |i+1=>by rw[so,S5,ac3 h hours τ i];rfl
theorem ac5{τ:aZ}{b:Int}(hτ:τ.Ok b)(h:List Int)(hours:Int):∀i:Nat,(so h hours τ i).2.Ok (b+3* i)
 |0=>hτ.mono (by simp)
 |i+1=>(ac5 hτ h hours i).tick.tick.tick.mono (by simp;omega)
theorem ac4{h:List Int}{hours:Int}{τ:aZ}(hu:∀τ,0<=dg τ hours/\dg τ hours<=hours):∀i,∀s∈(so h hours τ i).1,0<=s.hour/\s.hour<=hours/\∃σ,s.next=nb σ (h.getD s.hour.toNat 0) 1 0 99
 |0,s,hs=>by cases hs
 |i+1,s,hs=>by
  rw[so]at hs;rcases SQ.1 hs with hs|hs
  ·exact ac4 hu i s hs
  ·rw[S8]at hs;subst hs;exact⟨(hu _).1,(hu _).2,_,rfl⟩
structure Fb (h:List Int)(hours n:Int)(y:aB):Prop where
 num:sF y.number 99
 hour:sF y.hour (hours-1)
 fits:fits h y n=true
theorem KZ{h:List Int}{hours:Int}{num:Nat->Int}{τ:aZ}{P:Int->aB->Prop}(hP:∀τ n,P n (lF τ h n hours)):∀i j y,(kD h hours num τ i).1[j]?=some y->P (num j) y
 |0,j,y,hy=>by cases hy
 |i+1,j,y,hy=>by
  rw[kD]at hy;have hl:=Az h hours num τ i;by_cases hj:j<i
  ·rw[SX (by omega)]at hy;exact KZ hP i j y hy
  ·rw[Ta (by omega),hl]at hy;have:j=i:=(by have:=(SL.1 hy).1;simp at this;omega);subst this;rw[Vd]at hy;cases hy;exact hP _ _
section
variable {lv:Bool}{P:SI}{r:Option Nat}{s:AS}
theorem Jd{nt:Nat}{x y:T7}{α:Type}{Φ Ψ:an->AS->Prop}(inv:α->AS)(ok:α->Prop)(h1:aP lv P r nt x s (an.then (λs'=>∃a,ok a/\s'.Sub (inv a)) Ψ))(h2:∀a,ok a->aP lv P r nt y (inv a) Φ):aP lv P r nt x s (an.then (λs'=>aP lv P r nt y s' Φ) Ψ):=
 h1.mono λe s' h=>by
  cases e with
  |normal=>
   obtain⟨a,h3,h4⟩:=h;exact jx h4 (h2 a h3)
  |_=>exact h
end
theorem O5:gU (SF .i64 0) 3=[iv 0,iv 0,iv 0]:=rfl
theorem zE4:gU (SF .i64 0) 4=[iv 0,iv 0,iv 0,iv 0]:=rfl
theorem xw:gU (TE #[SF .i64 0,SF .i64 0,SF .i64 0,SF .i64 0]) 4=[iv 0,iv 0,iv 0,iv 0]:=rfl
theorem zS1:gU (TE #[SF .i64 0,SF .i64 0,SF .i64 0]) 3=[iv 0,iv 0,iv 0]:=rfl
theorem Em:(3<=2^24)=True:=eq_true (by decide)
theorem tZ:(4<=2^24)=True:=eq_true (by decide)
theorem Bn:(1<=2^24)=True:=eq_true (by decide)
theorem aem{first am w v:Int}{i:Nat}(h1:first<=w/\w<=first+am* i)(h2:0<=v/\v<=am)(hf:0<=first/\first<=90)(hp:1<=am/\am<=3)(hi:i<=3):0<=w+v/\w+v<=1000:=by
 have:am* (i:Int)<=3* 3:=Yj (by omega) (by omega) (by omega) (by omega);generalize am* (i:Int)=q at h1 this;omega
theorem MK{n:Int}(h:0<=n/\n<=1000):SD.wrap n=n:=bw _ (by omega)
theorem OE(h:List Int)(n:Int):∀m:Nat, -1<=lW h n m/\lW h n m<m
 |0=>by simp[lW]
 |m+1=>by
  have:=OE h n m;unfold lW;split
  ·omega
  ·omega
theorem Kq:∀l:List aB,(l.flatMap aB.l).length=l.length* 4
 |[]=>rfl
 |a::l=>by rw[T5,S5,Kq l,aB.len,Un];omega
theorem Rk:∀l:List Seen,(l.flatMap Seen.l).length=l.length* 3
 |[]=>rfl
 |a::l=>by rw[T5,S5,Rk l,Seen.len,Un];omega
theorem Kr{α:Type}{f:α->List AV}{l:List α}{a:α}:(l++[a]).flatMap f=l.flatMap f++f a:=by rw[VE];simp
theorem anW{α:Type}{f:Nat->α}{l:List α}{n:Nat}(hl:l.length=n)(h:∀i,i<n->l[i]?=some (f i)):(SU n).map f=l:=by
 refine Yr λi=> ?_;rw[To];by_cases hi:i<n
 ·rw[XC hi,UT,h i hi]
 ·rw[Ux (by simp;omega),Ux (by omega)];rfl
def Pc (a b:Nat):Prop:=(if(a:Int)<(b:Int)then(a:Int)else(b:Int))=((min b a:Nat):Int)
theorem abQ(a b:Nat):Pc a b:=by unfold Pc;split<;>omega
structure Made (pm:Nat)(x:aj)(bG aC bW:List Int):Prop where
 first:0<=x.first/\x.first<=90
 hours:1<=x.hours/\x.hours<=3
 am:1<=x.am/\x.am<=3
 Gw:mV x.first x.am bG x.hours.toNat
 an9:x.pieces.length<=pm
 y9:aC.length=x.pieces.length
 num:∀n∈aC,x.first<=n/\n<bG.getD x.hours.toNat 0
 Nz:aC.Nodup
 piece:∀(p:Nat) y,x.pieces[p]?=some y->∃τ,y=lF τ bG (aC.getD p 0) x.hours
 Bm:bW.length=x.aA.length
 aA:x.aA.length<=3
 own:∀v∈bW,0<=v/\v<(aC.length:Int)
 NG:bW.Nodup
 stub:∀(s:Nat) y,x.aA[s]?=some y->∃τ,y=lF τ bG (aC.getD (bW.getD s 0).toNat 0) x.hours
 ua:x.seen.length<=2
 seen:∀s∈x.seen,0<=s.hour/\s.hour<=x.hours/\∃τ,s.next=nb τ (bG.getD s.hour.toNat 0) 1 0 99
structure YOk (Gf:aZ->List aa)(N:Nat)(zc:aa)(YY:List AV->Nat->Nat->Nat->Nat->Nat->List aa):Prop where
 len:∀r a b c d e,(YY r a b c d e).length=8
 y0:∀τ r a b c d e,(Gf τ++YY r a b c d e)[N]?=some zc
 y1:∀τ r a b c d e,(Gf τ++YY r a b c d e)[N+1]?=some (.cells r 26)
 y3:∀τ r a b c d e,(Gf τ++YY r a b c d e)[N+3]?=some (.tail a 4 48)
 y4:∀τ r a b c d e,(Gf τ++YY r a b c d e)[N+4]?=some (.tail b 4 48)
 y5:∀τ r a b c d e,(Gf τ++YY r a b c d e)[N+5]?=some (.tail c 3 61)
 y6:∀τ r a b c d e,(Gf τ++YY r a b c d e)[N+6]?=some (.tail d 1 3)
 y7:∀τ r a b c d e,(Gf τ++YY r a b c d e)[N+7]?=some (.tail e 1 3)
 z1:∀τ r r' a b c d e,(Gf τ++YY r a b c d e).set (N+1) (.cells r' 26)=Gf τ++YY r' a b c d e
 z3:∀τ r a a' b c d e,(Gf τ++YY r a b c d e).set (N+3) (.tail a' 4 48)=Gf τ++YY r a' b c d e
 z4:∀τ r a b b' c d e,(Gf τ++YY r a b c d e).set (N+4) (.tail b' 4 48)=Gf τ++YY r a b' c d e
 z5:∀τ r a b c c' d e,(Gf τ++YY r a b c d e).set (N+5) (.tail c' 3 61)=Gf τ++YY r a b c' d e
 z6:∀τ r a b c d d' e,(Gf τ++YY r a b c d e).set (N+6) (.tail d' 1 3)=Gf τ++YY r a b c d' e
 s0:∀r a b c d e y,∃L,(YY r a b c d e).set 0 y=y::L
 z7:∀τ r a b c d e e',(Gf τ++YY r a b c d e).set (N+7) (.tail e' 1 3)=Gf τ++YY r a b c d e'
noncomputable def og:T7:=WY.body.getD .skip
def gk:Nat->T7->T7
 |0,c=>c
 |n+1,c=>gk n (cs c)
section
variable {lv:Bool}{P:SI}{r:Option Nat}{o:Tu}{s:AS}{next:AS->Prop}{bad:AV->AS->Prop}
theorem PI{nt id sz:Nat}{c:T7}{l:List AV}{el:TypeId}{Φ:an->AS->Prop}(bX:s.H[id]?=some (.own sz l el))(h:aP lv P r nt c ⟨s.T,s.H.set id (.part l.length l el)⟩ Φ):aP lv P r nt c s Φ:=λE V a Q ah hQ=>by
 have hc:=ah.bu;obtain⟨⟨cs,ew,hd,_⟩,k_⟩:=hc.obj id _ bX;have g:dU V (V.eI (E.blk id) cs (λo=>decide (o<l.length))):=yb ew (λo _=>k_ o);refine WP.ghost g ?_;have hI:∀b o v,E.I b o=some v->(V.eI (E.blk id) cs (λo=>decide (o<l.length))).ab b o=some v:=λb o v e=>by
  rw[hc.I]at e;have hb:b≠E.blk id:=λhb=>by rw[hb,k_]at e;cases e
  simp only[View.eI];rw[if_neg (λx=>hb x.1)];exact e
 have hle:E.Le {E with I:=(V.eI (E.blk id) cs (λo=>decide (o<l.length))).ab}:=⟨hI,SO _,λ_ _=>rfl,λ_ _=>SO _,λ_ _ _ _=>rfl,rfl,rfl⟩;have cO:Conc {E with I:=(V.eI (E.blk id) cs (λo=>decide (o<l.length))).ab} (V.eI (E.blk id) cs (λo=>decide (o<l.length))) (s.H.set id (.part l.length l el)):=by
  refine hc.iN id _ hle rfl (by rw[TF];exact hc.n) ln rfl (λ_ _ _=>rfl) (λb y fu hy=>⟨hy,λo=> ?_⟩) ⟨⟨cs,ew,hd.mono hle,λo ho=> ?_⟩,λo ho=> ?_⟩ (λb hb=> .inl ⟨_,bX,hb⟩)
  ·have hb:b≠E.blk id:=λhb=>fu _ bX (by rw[hb];rfl);simp only[View.eI];rw[if_neg (λx=>hb x.1)]
  ·simp only[View.eI];rw[if_pos ⟨trivial,by simpa using ho⟩]
  ·simp only[View.eI];rw[if_neg (λx=>by have:=x.2;simp at this;omega)];exact k_ o
 exact h _ _ a Q ⟨cO,ah.tok.mono hle,ah.size⟩ λae e E' aS a' s' hk=>hQ ae e E' aS a' s' ((⟨hle,rfl,rfl,rfl,rfl⟩:Kept E _ V (V.eI (E.blk id) cs (λo=>decide (o<l.length))) a a).trans hk)
end
section
variable {lv:Bool}{P:SI}{r:Option Nat}{s:AS}
theorem Fw{nt:Nat}{α:Type}{lt:α->α->Prop}(wf:WellFounded lt){c:T7}{Φ:an->AS->Prop}(V:α->List (Nat×AV))(Hf:α->List aa)(ok:α->Prop)(m0:α)
  (uS:∀m m',(V m).map (·.1)=(V m').map (·.1)) (gI:∀p∈V m0,∃b,look s.T p.1=some b/\Wk b p.2) (uD:Hf m0=s.H) (hl:∀m,ok m->s.H.length<=(Hf m).length) (hm:ok m0)
  (h:bH s.H->(∀t a,look s.T t=some a->Lt s.H.length a)->∀m,ok m->∀R:AS->Prop,(∀s',(∃m',lt m' m/\ok m'/\q_ s.T (V m) (V m') (Hf m') s')->R s')->aP lv P r nt c ⟨V m++s.T,Hf m⟩ (an.then R Φ)):aP lv P r nt (.loop c) s Φ:=by
 have same:∀m m' t,look (V m) t=none->look (V m') t=none:=λm m' t h=>Nm λp hp e=>by
  have h1:p.1∈(V m').map (·.1):=Te.2 ⟨p,hp,rfl⟩;rw[uS m' m]at h1;obtain⟨q,hq,e'⟩:=Te.1 h1;have h2:((V m).any λx=>x.1==t)=true:=Ur.2 ⟨q,hq,by simp[e',e]⟩;obtain⟨a,ha⟩:=Nl h2;rw[h]at ha;cases ha
 intro E V0 a Q ah hQ;have hlt:∀t a,look s.T t=some a->Lt s.H.length a:=λt x e=>by rw[<- ah.bu.n];exact(ah.tok t x e).2.lt
 have h0:s.Sub ⟨V m0++s.T,Hf m0⟩:=⟨λt x e=>by
  rw[vr]at e;cases hl:look (V m0) t with
  |none=>rw[hl]at e;exact⟨x,e,Wk.refl x⟩
  |some y=>rw[hl]at e;cases e;exact gI (t,x) (oJ hl),uD.symm⟩
 refine PF wf (s:=s) (λm=>⟨V m++s.T,Hf m⟩) ok m0 h0 hm hl (λm aq=> ?_) E V0 a Q ah hQ;refine(h ah.bu.aq hlt m aq _ λ_ h=>h).mono λe s' hΦ=> ?_;cases e with
 |normal=>
  obtain⟨m',q1,q2,hk,hv,G,hG,tz⟩:=hΦ;have tok:∀t x,look (V m'++s.T) t=some x->∃b,look s'.T t=some b/\Wk b x/\(look (V m') t=some x\/look s.T t=some x):=λt x e=>by
   rw[vr]at e;cases hl:look (V m') t with
   |none=>
    rw[hl]at e;have hb:look (V m++s.T) t=some x:=(by rw[vr,same m' m t hl];exact e);exact⟨x,hk.look hb hl,Wk.refl x,.inr e⟩
   |some y=>
    rw[hl]at e;cases e;obtain⟨b,h1,h2⟩:=hv (t,x) (oJ hl);exact⟨b,h1,h2,.inl rfl⟩
  refine⟨m',q1,q2,?_⟩;rcases tz with rfl|⟨nE,LO⟩
  ·exact .inl ⟨λt x e=>by obtain⟨b,h1,h2,_⟩:=tok t x e;exact⟨b,h1,h2⟩,by rw[hG,SN]⟩
  ·refine .inr ⟨λt x e=> ?_,⟨G,hG⟩,nE⟩;obtain⟨b,h1,h2,h3⟩:=tok t x e;refine⟨b,h1,h2,?_⟩;rcases h3 with h3|h3
   ·exact LO (t,x) (oJ h3)
   ·show Lt (Hf m').length x;exact(hlt t x h3).mono (hl m' q2)
 |_=>exact hΦ
theorem PD{nt:Nat}{c:T7}{Φ:an->AS->Prop}(n:Nat)(V:Nat->List (Nat×AV))(Hf:Nat->List aa)(ok:Nat->Prop)
  (uS:∀m m',(V m).map (·.1)=(V m').map (·.1)) (gI:∀p∈V 0,∃b,look s.T p.1=some b/\Wk b p.2) (uD:Hf 0=s.H) (hl:∀m,m<=n->ok m->s.H.length<=(Hf m).length) (hm:ok 0)
  (h:bH s.H->(∀t a,look s.T t=some a->Lt s.H.length a)->∀m,m<=n->ok m->∀R:AS->Prop,(∀s',(m<n/\ok (m+1)/\q_ s.T (V m) (V (m+1)) (Hf (m+1)) s')->R s')->aP lv P r nt c ⟨V m++s.T,Hf m⟩ (an.then R Φ)):aP lv P r nt (.loop c) s Φ:=by
 refine Fw (measure λi=>n-i).wf V Hf (λi=>i<=n/\ok i) 0 uS gI uD (λm h=>hl m h.1 h.2) ⟨WQ _,hm⟩ (λh1 h2 m aq R hR=> ?_);exact h h1 h2 m aq.1 aq.2 R λs' ⟨q1,q2,q3⟩=>hR s' ⟨m+1,(by show n-(m+1)<n-m;omega),⟨q1,q2⟩,q3⟩
end
def gO:Nat->aa->List aa
 |0,_=>[]
 |n+1,o=>TJ n .gone++[o]
theorem ya:∀(n:Nat)(o:aa),(gO n o).length=n
 |0,_=>rfl
 |n+1,o=>by simp[gO]
theorem CN(n:Nat)(o:aa)(R:List aa):(gO (n+1) o++R)[n]?=some o:=by
 rw[SX (by rw[ya];omega),gO,Ta (by simp)];simp
theorem CO(n:Nat)(o o':aa)(R:List aa):(gO (n+1) o++R).set n o'=gO (n+1) o'++R:=by
 rw[UX _ _ (by rw[ya];omega),gO,Ud _ _ (by simp)];simp[gO]
theorem RE(n:Nat)(o:aa):gO (n+1) .gone++[o]=gO (n+2) o:=by
 simp only[gO,List.replicate_succ']
def fy (j n:Nat):AV:=match n with
 |0=> .sl 0 [] .exact
 |n+1=> .bp (j+n) 0 (n+1) 0
def fI (l:List aB):aa:=.own 4 (l.flatMap aB.l) 48
structure YW (Gf:aZ->List aa)(N:Nat)(zc:aa)(YY:List AV->Nat->Nat->Nat->List aa):Prop where
 len:∀r c d e,(YY r c d e).length=6
 n:∀τ r c d e G,(Gf τ++(YY r c d e++G)).length=N+6+G.length
 y0:∀τ r c d e G,(Gf τ++(YY r c d e++G))[N]?=some zc
 y1:∀τ r c d e G,(Gf τ++(YY r c d e++G))[N+1]?=some (.cells r 26)
 y3:∀τ r c d e G,(Gf τ++(YY r c d e++G))[N+3]?=some (.tail c 3 61)
 y4:∀τ r c d e G,(Gf τ++(YY r c d e++G))[N+4]?=some (.tail d 1 3)
 y5:∀τ r c d e G,(Gf τ++(YY r c d e++G))[N+5]?=some (.tail e 1 3)
 z1:∀τ r r' c d e G,(Gf τ++(YY r c d e++G)).set (N+1) (.cells r' 26)=Gf τ++(YY r' c d e++G)
 z3:∀τ r c c' d e G,(Gf τ++(YY r c d e++G)).set (N+3) (.tail c' 3 61)=Gf τ++(YY r c' d e++G)
 z4:∀τ r c d d' e G,(Gf τ++(YY r c d e++G)).set (N+4) (.tail d' 1 3)=Gf τ++(YY r c d' e++G)
 z5:∀τ r c d e e' G,(Gf τ++(YY r c d e++G)).set (N+5) (.tail e' 1 3)=Gf τ++(YY r c d e'++G)
 w:∀τ r c d e G m,(Gf τ++(YY r c d e++G))[N+6+m]?=G[m]?
 v:∀τ r c d e G m y,(Gf τ++(YY r c d e++G)).set (N+6+m) y=Gf τ++(YY r c d e++G.set m y)
 s0:∀r c d e y,∃L,(YY r c d e).set 0 y=y::L
section
variable {Gf:aZ->List aa}{N:Nat}{zc:aa}{YY:List AV->Nat->Nat->Nat->List aa}(h:YW Gf N zc YY)
include h
theorem YW.n0(τ r c d e):(Gf τ++YY r c d e).length=N+6:=by have:=h.n τ r c d e [];rwa [SN]at this
theorem YW.w0(τ r c d e G):(Gf τ++(YY r c d e++G))[N+6]?=G[0]?:=h.w τ r c d e G 0
theorem YW.zx(τ r c d e):(Gf τ++YY r c d e)[N+1]?=some (.cells r 26):=by have:=h.y1 τ r c d e [];rwa [SN]at this
theorem YW.zy(τ r r' c d e):(Gf τ++YY r c d e).set (N+1) (.cells r' 26)=Gf τ++YY r' c d e:=by have:=h.z1 τ r r' c d e [];rwa [SN,SN]at this
end
theorem atm{Gf:aZ->List aa}{t N:Nat}{zc o2:aa}{YY:List AV->Nat->Nat->Nat->List aa}(hT:dH Gf t N)(h:∀r c d e,YY r c d e=[zc,.cells r 26,o2,.tail c 3 61,.tail d 1 3,.tail e 1 3]):YW Gf N zc YY:=by
 have gQ:∀τ (L:List aa)(j:Nat),(Gf τ++L)[N+j]?=L[j]?:=λτ L j=>by rw[<- hT.len τ,aY]
 have cR:∀τ (L:List aa)(j:Nat)(y:aa),(Gf τ++L).set (N+j) y=Gf τ++L.set j y:=λτ L j y=>by rw[<- hT.len τ,dJ]
 have hl:∀r c d e,(YY r c d e).length=6:=λr c d e=>by rw[h];rfl
 refine⟨hl,λτ r c d e G=>by rw[S5,S5,hl,hT.len];omega,λτ r c d e G=> ?_,λτ r c d e G=>by rw[gQ,h];rfl,λτ r c d e G=>by rw[gQ,h];rfl,λτ r c d e G=>by rw[gQ,h];rfl,λτ r c d e G=>by rw[gQ,h];rfl,λτ r r' c d e G=>by rw[cR,h,h];rfl,λτ r c c' d e G=>by rw[cR,h,h];rfl,λτ r c d d' e G=>by rw[cR,h,h];rfl,λτ r c d e e' G=>by rw[cR,h,h];rfl,λτ r c d e G m=> ?_,λτ r c d e G m y=> ?_,λr c d e y=>⟨_,by rw[h];rfl⟩⟩
 ·have:=gQ τ (YY r c d e++G) 0;rw[UI]at this;rw[this,h];rfl
 ·rw[U6,gQ,Ta (by rw[hl];omega),hl,TU]
 ·rw[U6,cR,Ud _ _ (by rw[hl];omega),hl,TU]
section
variable {lv:Bool}{k kp:AV->List aa->Prop}{Gf:aZ->List aa}{t N:Nat}{b:Int}
theorem aiH{pm i mn:Nat}{first am:Int}{l order:List Int}{ρ:aZ}{zc:aa}{YY:List AV->Nat->Nat->Nat->List aa}{hz:Bool}{Ψ:an->AS->Prop}(hT:dH Gf t N)(hY:YW Gf N zc YY)(hH:∀τ,bH (Gf τ))(hb:b<2^10)(rR:pm<=4)(hi:1<=i/\i<=3)(oD:0<=first/\first<=90)(iu:l.length=i+1)(LU:mn<=9)(qy:IX order mn)(qB:ρ.Ok (b+19)):
  aP lv SA none 240 (cs (cf (gk 7 og))) ⟨[(17,iv 0),(16,.sl 0 [] (.opn (N+5))),(15,.sl 0 [] (.opn (N+4))),(14,br order),(13,iv mn),(11,.sl (i+1) (l.map iv) (.opn (N+2))),(10,.op (N+1) 0),(6,.op N 0),(0,.op t 0),(1,iv pm),(2,bv hz)],Gf ρ++YY [iv first,iv i,iv am,.sl 0 [] (.opn (N+3)),.sl 0 [] .exact,.sl 0 [] .exact] 0 0 0⟩ (an.then (λs'=>∃y:Nat×aZ,(y.1<=pm/\y.1<=mn/\y.2.Ok (b+60))/\s'.Sub ⟨[(16,.sl 0 [] (.opn (N+5))),(15,.sl y.1 ((kJ first order y.1).map iv) (.opn (N+4))),(13,iv mn),(11,.sl (i+1) (l.map iv) (.opn (N+2))),(10,.op (N+1) 0),(6,.op N 0),(0,.op t 0),(2,bv hz)],Gf y.2++(YY [iv first,iv i,iv am,.sl 0 [] (.opn (N+3)),fy (N+6) y.1,.sl 0 [] .exact] 0 y.1 0++gO y.1 (fI (kD l i (λj=>first+order.getD j 0) ρ y.1).1))⟩) Ψ):=by
 have n0:=hY.n0;have w0:=hY.w0;have El:(1<=2^30)=True:=eq_true (by decide);have zx:=hY.zx;have zy:=hY.zy;obtain⟨uH,rB,y0,y1,y3,y4,y5,mT,zA,BR,BS,qh,tj,cu⟩:=hY;have iQ:∀L:List aa,dH (λτ=>Gf τ++L) t (N+L.length):=λL=>hT.more L;obtain⟨hv,AI⟩:∃hv:Nat->List aB×aZ,∀j,hv j=kD l i (λj=>first+order.getD j 0) ρ j:=⟨_,λ_=>rfl⟩;simp only[<- AI];have hvl:∀j,(hv j).1.length=j:=λj=>by rw[AI];exact Az _ _ _ _ _
 have hvt:∀j:Nat,(hv j).2.Ok (b+19+5* j):=λj=>by rw[AI];exact(K0 qB _ _ _ j).mono (by omega)
 have rW:hv 0=([],ρ):=AI 0;unfold og WY;dsimp only[S0,gk,cs,cf];have GB:=abQ mn pm;refine bY ?_;refine PD (min pm mn) (λj:Nat=>[(15,.sl j ((kJ first order j).map iv) (.opn (N+4))),(17,iv j)]) (λj=>Gf (hv j).2++(YY [iv first,iv i,iv am,.sl 0 [] (.opn (N+3)),fy (N+6) j,.sl 0 [] .exact] 0 j 0++gO j (fI (hv j).1))) (λ_=>True) (λ_ _=>rfl) (by simp only[kJ,ZB,List.map_nil];simp only[seval];simp[bm,Wk.refl]) (by rw[rW];simp[gO,fy]) (λ_ _ _=>by simp[hT.len,uH]) trivial (λbJ cm j py _ R hR=> ?_);clear bJ cm;have lj:=hvt j;by_cases e9:j<min pm mn
 ·have hd:decide ((j:Int)<((min pm mn:Nat):Int))=true:=by simpa using e9
  refine ai ?_;simp only[seval,show (if(mn:Int)<(pm:Int)then(mn:Int)else(pm:Int))=((min pm mn:Nat):Int)from GB,hd];have eB:hv (j+1)=((hv j).1++[lF (tick (hv j).2) l (first+order.getD j 0) i],tick (tick (tick (tick (tick (hv j).2))))):=by rw[AI,AI];rfl
  have pH:=hvl j;generalize Gu:hv j=hj at lj eB pH⊢;obtain⟨ps,ρj⟩:=hj;dsimp only at lj eB pH⊢;refine aJ ((FS (n:=6) (iQ _) lj (by omega) (by decide) ?_));(try simp only[seval]);refine aD ?_;refine⟨λhc=> ?_,λhc=> ?_⟩
  ·obtain⟨o,ho⟩:=bZ (xs:=order) (i:=j) (by rw[qy.len];omega);have hor:=qy.H5 o (xa ho);have hgo:order.getD j 0=o:=(by rw[SE,ho];rfl);rw[hgo]at eB;have MB:SD.wrap (first+o)=first+o:=MK (by omega)
   have yz:SD.wrap ((j:Int)+1)=((j+1:Nat):Int):=(by rw[bw _ (by omega)];rfl);have qj:(0<=(j:Int)/\(j:Int)<(order.length:Int))=True:=(by simp[qy.len];omega);have jG:=ab2 first order j
   have Dt:Ve iv (kJ first order j)++[AV.val (SF SD (first+o))]=(kJ first order (j+1)).map iv:=(by rw[ab3,hgo,TG];rfl);have yC:(kJ first order (j+1))[j]?=some (first+o):=(by rw[ab3,hgo,Ta (by omega),jG,Vd];rfl);have pj:(0<=(j:Int)/\(j:Int)<(j:Int)+1)=True:=(by simp;omega);refine aO ?_;refine bY ?_;refine ek 9 ?_;simp only[seval,z1,Bn,y1,y4,BR,br,ff ho,qj,MB,jG];refine⟨by omega,?_⟩;rw[Dt];obtain⟨n,hn⟩:∃n,n=first+o:=⟨_,rfl⟩
   rw[<- hn]at yC eB;have qD:=OE l n i;have uu:=λ(L:List aa) k kp=>Q8 (lv:=lv) (k:=k) (kp:=kp) (h:=l) (n:=n) (hours:=i) (e:=.opn (N+2)) (iQ L) lj.tick (by omega) (by omega) (by omega) (by omega) (by rw[iu,Wa];omega);simp only[iu]at uu;obtain⟨y,hy⟩:∃y,y=lF (tick ρj) l n i:=⟨_,rfl⟩;rw[<- hy]at eB uu;have w5:y.l=[iv y.number.min,iv y.number.max,iv y.hour.min,iv y.hour.max]:=rfl;have hyf:∀a∈y.l,a.leaf=true:=(by rw[w5];simp[AV.leaf,Value.one]);have ew:∀FP,FP=ps.flatMap aB.l->aa.own 4 (FP++y.l) 48=fI (hv (j+1)).1:=λFP pi=>(by rw[eB,fI,Kr,pi]);rcases Ul j with uQ|uQ
   ·subst uQ;obtain rfl:ps=[]:=UF pH;have cu:fy (N+6) 0=.sl 0 [] .exact:=rfl;have lG:∀o,gO 0 o=[]:=λ_=>rfl;rw[lG,SN];refine o_ [10,12,14] (SU 15) (λD=>bif isDone 14 D then Gf (tick (tick (tick (tick (tick ρj)))))++(YY [iv first,iv i,iv am,.sl 0 [] (.opn (N+3)),.bp (N+6) 0 1 0,.sl 0 [] .exact] 0 1 0++[.own 4 y.l 48])else bif isDone 12 D then Gf (tick (tick (tick (tick (tick ρj)))))++(YY [iv first,iv i,iv am,.sl 0 [] (.opn (N+3)),.sl 0 [] .exact,.sl 0 [] .exact] 0 1 0++[.own 4 y.l 48])else bif isDone 10 D then Gf (tick (tick (tick (tick (tick ρj)))))++YY [iv first,iv i,iv am,.sl 0 [] (.opn (N+3)),.sl 0 [] .exact,.sl 0 [] .exact] 0 1 0 else Gf (tick ρj)++YY [iv first,iv i,iv am,.sl 0 [] (.opn (N+3)),.sl 0 [] .exact,.sl 0 [] .exact] 0 1 0) ?_;simp only[seval,xw,tZ,y1,rB,qh,mT,n0,w0,El,zx,zy,ff yC,pj,cu,SC];refine sY y.av _ (di (uu _ _ _ ⟨rfl,rfl⟩)) ?_;(try simp only[seval,xw,tZ,y1,rB,qh,mT,n0,w0,El,zx,zy,ff yC,pj,cu,SC,aB.av,w5]);refine ai ?_;simp only[seval,show SD.wrap 1=1 from bw _ (by omega),show (0:Int)+1=1 from rfl];have e1:(hv (0+1)).2=tick (tick (tick (tick (tick ρj)))):=(by rw[eB]);have e2:gO (0+1) (fI (hv (0+1)).1)=[.own 4 [iv y.number.min,iv y.number.max,iv y.hour.min,iv y.hour.max] 48]:=(by rw[<- ew [] rfl];rfl);refine hR _ ⟨by omega,trivial,?_⟩;rw[e1,e2];exact cT
   ·obtain⟨n',iW⟩:∃n',j=n'+1:=⟨j-1,by omega⟩;have cw:fy (N+6) j=.bp (N+6+n') 0 j 0:=(by rw[iW];rfl);have uN:∀o,(gO j o)[n']?=some o:=λo=>(by rw[iW];have:=CN n' o [];rwa [SN]at this);have u7:∀o,(gO j o).set n' .gone=gO j .gone:=λo=>(by rw[iW];have:=CO n' o .gone [];rwa [SN,SN]at this);have rI:∀a,gO j .gone++[a]=gO (j+1) a:=λa=>(by rw[iW];exact RE _ _);have ki:∀o,(gO j o).length=j:=ya j;have ew:=ew _ rfl;rw[cw];unfold fI;obtain⟨FP,pi⟩:∃FP,FP=ps.flatMap aB.l:=⟨_,rfl⟩;have wq:FP.length=j* 4:=(by rw[pi,Kq,pH]);rw[<- pi]at ew⊢;refine o_ [10,12,14] (SU 15) (λD=>bif isDone 14 D then Gf (tick (tick (tick (tick (tick ρj)))))++(YY [iv first,iv i,iv am,.sl 0 [] (.opn (N+3)),.bp (N+6+j) 0 (j+1) 0,.sl 0 [] .exact] 0 (j+1) 0++gO (j+1) (.own 4 (FP++y.l) 48))else bif isDone 12 D then Gf (tick (tick (tick (tick (tick ρj)))))++(YY [iv first,iv i,iv am,.sl 0 [] (.opn (N+3)),.bp (N+6+n') 0 j 0,.sl 0 [] .exact] 0 (j+1) 0++gO (j+1) (.own 4 (FP++y.l) 48))else bif isDone 10 D then Gf (tick (tick (tick (tick (tick ρj)))))++(YY [iv first,iv i,iv am,.sl 0 [] (.opn (N+3)),.bp (N+6+n') 0 j 0,.sl 0 [] .exact] 0 (j+1) 0++gO j (.own 4 FP 48))else Gf (tick ρj)++(YY [iv first,iv i,iv am,.sl 0 [] (.opn (N+3)),.bp (N+6+n') 0 j 0,.sl 0 [] .exact] 0 (j+1) 0++gO j (.own 4 FP 48))) ?_;simp only[seval,xw,tZ,y1,rB,qh,tj,mT,ff yC,pj,uN,u7,rI,ki,wq,SC];refine sY y.av _ (di (uu _ _ _ ⟨rfl,rfl⟩)) ?_;(try simp only[seval,xw,tZ,y1,rB,qh,tj,mT,ff yC,pj,uN,u7,rI,ki,wq,SC,aB.av,w5]);refine⟨uQ,by omega,?_⟩;refine ai ?_;simp only[seval,yz];refine hR _ ⟨by omega,trivial,?_⟩;rw[<- ew,show (hv (j+1)).2=tick (tick (tick (tick (tick ρj)))) by rw[eB]];exact cT
  ·refine bU ?_;exact⟨(j,tick ρj),⟨by dsimp only;omega,by dsimp only;omega,lj.tick.mono (by omega)⟩,dz (by simp only[seval];simp[bm,Wk.refl]) (by rw[Gu])⟩
 ·have hd:decide ((j:Int)<((min pm mn:Nat):Int))=false:=by simpa using e9
  refine ai ?_;simp only[seval,show (if(mn:Int)<(pm:Int)then(mn:Int)else(pm:Int))=((min pm mn:Nat):Int)from GB,hd];refine aD ?_;refine bU ?_;exact⟨(j,(hv j).2),⟨by dsimp only;omega,by dsimp only;omega,lj.mono (by omega)⟩,dz (by simp only[seval];simp[bm,Wk.refl]) rfl⟩
theorem aiC{i np:Nat}{first am w:Int}{l aC ig:List Int}{ρ2:aZ}{zc:aa}{pv:AV}{gP:List aa}{YY:List AV->Nat->Nat->Nat->List aa}{hz:Bool}{B6:AV}{Ψ:an->AS->Prop}(hT:dH Gf t N)(hY:YW Gf N zc YY)(yu:gP.length=np)(hb:b<2^10)(hi:1<=i/\i<=3)(oD:0<=first/\first<=90)(G7:first<=w/\w<=first+9)(iu:l.length=i+1)(wP:np<=4)(jG:aC.length=np)(tH:∀n∈aC,first<=n/\n<w)(tK:IX ig np)(yO:ρ2.Ok (b+64)):
  aP lv SA none 240 (cs (cf (gk 9 og))) ⟨[(19,iv 0),(18,.sl np (ig.map iv) .shut),(16,.sl 0 [] (.opn (N+5))),(15,.sl np (aC.map iv) (.opn (N+4))),(13,B6),(11,.sl (i+1) (l.map iv) (.opn (N+2))),(10,.op (N+1) 0),(6,.op N 0),(0,.op t 0),(2,bv hz)],Gf ρ2++(YY [iv first,iv i,iv am,.sl 0 [] (.opn (N+3)),pv,.sl 0 [] .exact] 0 np 0++gP)⟩ (an.then (λs'=>∃y:Nat×aZ,(y.1<=np/\y.1<=3/\y.2.Ok (b+90))/\s'.Sub ⟨[(16,.sl y.1 ((ig.take y.1).map iv) (.opn (N+5))),(15,.sl np (aC.map iv) (.opn (N+4))),(13,B6),(11,.sl (i+1) (l.map iv) (.opn (N+2))),(10,.op (N+1) 0),(6,.op N 0),(0,.op t 0),(2,bv hz)],Gf y.2++(YY [iv first,iv i,iv am,.sl 0 [] (.opn (N+3)),pv,fy (N+6+np) y.1] 0 np y.1++(gP++gO y.1 (fI (kD l i (λj=>aC.getD (ig.getD j 0).toNat 0) ρ2 y.1).1)))⟩) Ψ):=by
 obtain⟨uH,rB,y0,y1,y3,y4,y5,mT,zA,BR,BS,qh,tj,cu⟩:=hY;have El:(1<=2^30)=True:=eq_true (by decide);have n0:∀τ r c d e,(Gf τ++(YY r c d e++gP)).length=N+6+np:=λτ r c d e=>by rw[rB,yu]
 have n1:∀τ r c d e X,(Gf τ++(YY r c d e++(gP++X))).length=N+6+np+X.length:=λτ r c d e X=>by rw[rB,S5,yu];omega
 have w1:∀τ r c d e X m,(Gf τ++(YY r c d e++(gP++X)))[N+6+np+m]?=X[m]?:=λτ r c d e X m=>by rw[U6 (N+6),qh,Ta (by omega),yu,TU]
 have w0:∀τ r c d e X,(Gf τ++(YY r c d e++(gP++X)))[N+6+np]?=X[0]?:=λτ r c d e X=>w1 τ r c d e X 0;have v1:∀τ r c d e X m y,(Gf τ++(YY r c d e++(gP++X))).set (N+6+np+m) y=Gf τ++(YY r c d e++(gP++X.set m y)):=λτ r c d e X m y=>by rw[U6 (N+6),tj,Ud _ _ (by omega),yu,TU]
 have iQ:∀L:List aa,dH (λτ=>Gf τ++L) t (N+L.length):=λL=>hT.more L;obtain⟨hw,AJ⟩:∃hw:Nat->List aB×aZ,∀j,hw j=kD l i (λj=>aC.getD (ig.getD j 0).toNat 0) ρ2 j:=⟨_,λ_=>rfl⟩;simp only[<- AJ];have rY:∀j,(hw j).1.length=j:=λj=>by rw[AJ];exact Az _ _ _ _ _
 have u9:∀j:Nat,(hw j).2.Ok (b+64+5* j):=λj=>by rw[AJ];exact K0 yO _ _ _ j
 have yM:hw 0=([],ρ2):=AJ 0;have aa5:=tK.len;unfold og WY;dsimp only[S0,gk,cs,cf];have aaB:=abQ 3 np;refine bY ?_;refine PD (min np 3) (λj:Nat=>[(16,.sl j ((ig.take j).map iv) (.opn (N+5))),(19,iv j)]) (λj=>Gf (hw j).2++(YY [iv first,iv i,iv am,.sl 0 [] (.opn (N+3)),pv,fy (N+6+np) j] 0 np j++(gP++gO j (fI (hw j).1)))) (λ_=>True) (λ_ _=>rfl) (by simp only[seval];simp[bm,Wk.refl]) (by rw[yM];simp[gO,fy]) (λ_ _ _=>by simp[hT.len,uH]) trivial (λbJ cm j py _ R hR=> ?_);clear bJ cm;have lj:=u9 j;by_cases e9:j<min np 3
 ·have hd:decide ((j:Int)<((min np 3:Nat):Int))=true:=by simpa using e9
  refine ai ?_;simp only[seval,br,aa5,show (if(3:Int)<(np:Int)then(3:Int)else(np:Int))=((min np 3:Nat):Int)from aaB,hd];have eB:hw (j+1)=((hw j).1++[lF (tick (hw j).2) l (aC.getD (ig.getD j 0).toNat 0) i],tick (tick (tick (tick (tick (hw j).2))))):=by rw[AJ,AJ];rfl
  have pH:=rY j;generalize Gu:hw j=hj at lj eB pH⊢;obtain⟨ts,ρj⟩:=hj;dsimp only at lj eB pH⊢;refine aJ ((FS (n:=3) (iQ _) lj (by omega) (by decide) ?_));(try simp only[seval]);refine aD ?_;refine⟨λhc=> ?_,λhc=> ?_⟩
  ·obtain⟨v,nM⟩:=bZ (xs:=ig) (i:=j) (by omega);have hvr:=tK.H5 v (xa nM);obtain⟨v,rfl⟩:∃v':Nat,v=v':=⟨v.toNat,by omega⟩;have Dl:ig.getD j 0=v:=(by rw[SE,nM];rfl);rw[Dl,VR]at eB;obtain⟨n,AN⟩:=bZ (xs:=aC) (i:=v) (by omega);have Gs:aC.getD v 0=n:=(by rw[SE,AN];rfl);rw[Gs]at eB;have rP:=tH n (xa AN);have yz:SD.wrap ((j:Int)+1)=((j+1:Nat):Int):=(by rw[bw _ (by omega)];rfl);have pj:(0<=(j:Int)/\(j:Int)<(np:Int))=True:=(by simp;omega);have AD:(0<=(v:Int)/\(v:Int)<(np:Int))=True:=(by simp;omega);have aG:(ig.take j).length=j:=(by rw[TV];omega);have amn:(ig.take j).map iv++[AV.val (SF SD v)]=(ig.take (j+1)).map iv:=(by rw[UZ,nM,TG];rfl);refine aO ?_;refine ai ?_;simp only[seval,z1,Bn,y5,BS,ff nM,pj,aG];refine⟨by omega,?_⟩;rw[amn];have qD:=OE l n i;have uu:=λ(L:List aa) k kp=>Q8 (lv:=lv) (k:=k) (kp:=kp) (h:=l) (n:=n) (hours:=i) (e:=.opn (N+2)) (iQ L) lj.tick (by omega) (by omega) (by omega) (by omega) (by rw[iu,Wa];omega);simp only[iu]at uu;obtain⟨y,hy⟩:∃y,y=lF (tick ρj) l n i:=⟨_,rfl⟩;rw[<- hy]at eB uu;have w5:y.l=[iv y.number.min,iv y.number.max,iv y.hour.min,iv y.hour.max]:=rfl;have ew:∀FP,FP=ts.flatMap aB.l->aa.own 4 (FP++y.l) 48=fI (hw (j+1)).1:=λFP pi=>(by rw[eB,fI,Kr,pi]);rcases Ul j with uQ|uQ
   ·subst uQ;obtain rfl:ts=[]:=UF pH;have cu:fy (N+6+np) 0=.sl 0 [] .exact:=rfl;have lG:∀o,gO 0 o=[]:=λ_=>rfl;have uR:(0<(np:Int))=True:=(by simp;omega);rw[cu,lG,SN];refine o_ [13,15,17] (SU 18) (λD=>bif isDone 17 D then Gf (tick (tick (tick (tick (tick ρj)))))++(YY [iv first,iv i,iv am,.sl 0 [] (.opn (N+3)),pv,.bp (N+6+np) 0 1 0] 0 np 1++(gP++[.own 4 y.l 48]))else bif isDone 15 D then Gf (tick (tick (tick (tick (tick ρj)))))++(YY [iv first,iv i,iv am,.sl 0 [] (.opn (N+3)),pv,.sl 0 [] .exact] 0 np 1++(gP++[.own 4 y.l 48]))else bif isDone 13 D then Gf (tick (tick (tick (tick (tick ρj)))))++(YY [iv first,iv i,iv am,.sl 0 [] (.opn (N+3)),pv,.sl 0 [] .exact] 0 np 1++gP)else Gf (tick ρj)++(YY [iv first,iv i,iv am,.sl 0 [] (.opn (N+3)),pv,.sl 0 [] .exact] 0 np 1++gP)) ?_;simp only[seval,xw,tZ,y1,mT,ff nM,pj,ff AN,AD,br,jG,n0,w0,El,uR,SC];refine sY y.av _ (di (uu _ _ _ ⟨rfl,rfl⟩)) ?_;(try simp only[seval,xw,tZ,y1,mT,ff nM,pj,ff AN,AD,br,jG,n0,w0,El,uR,SC,aB.av,w5]);refine ai ?_;simp only[seval,show SD.wrap 1=1 from bw _ (by omega),show (0:Int)+1=1 from rfl];have e1:(hw (0+1)).2=tick (tick (tick (tick (tick ρj)))):=(by rw[eB]);have e2:gO (0+1) (fI (hw (0+1)).1)=[.own 4 [iv y.number.min,iv y.number.max,iv y.hour.min,iv y.hour.max] 48]:=(by rw[<- ew [] rfl];rfl);refine hR _ ⟨by omega,trivial,?_⟩;rw[e1,e2];exact cT
   ·obtain⟨n2,qx⟩:∃n2,j=n2+1:=⟨j-1,by omega⟩;have cw:fy (N+6+np) j=.bp (N+6+np+n2) 0 j 0:=(by rw[qx];rfl);have uN:∀o,(gO j o)[n2]?=some o:=λo=>(by rw[qx];have:=CN n2 o [];rwa [SN]at this);have u7:∀o,(gO j o).set n2 .gone=gO j .gone:=λo=>(by rw[qx];have:=CO n2 o .gone [];rwa [SN,SN]at this);have rI:∀a,gO j .gone++[a]=gO (j+1) a:=λa=>(by rw[qx];exact RE _ _);have ki:∀o,(gO j o).length=j:=ya j;have ew:=ew _ rfl;rw[cw];unfold fI;obtain⟨FP,pi⟩:∃FP,FP=ts.flatMap aB.l:=⟨_,rfl⟩;have wq:FP.length=j* 4:=(by rw[pi,Kq,pH]);rw[<- pi]at ew⊢;refine o_ [13,15,17] (SU 18) (λD=>bif isDone 17 D then Gf (tick (tick (tick (tick (tick ρj)))))++(YY [iv first,iv i,iv am,.sl 0 [] (.opn (N+3)),pv,.bp (N+6+np+j) 0 (j+1) 0] 0 np (j+1)++(gP++gO (j+1) (.own 4 (FP++y.l) 48)))else bif isDone 15 D then Gf (tick (tick (tick (tick (tick ρj)))))++(YY [iv first,iv i,iv am,.sl 0 [] (.opn (N+3)),pv,.bp (N+6+np+n2) 0 j 0] 0 np (j+1)++(gP++gO (j+1) (.own 4 (FP++y.l) 48)))else bif isDone 13 D then Gf (tick (tick (tick (tick (tick ρj)))))++(YY [iv first,iv i,iv am,.sl 0 [] (.opn (N+3)),pv,.bp (N+6+np+n2) 0 j 0] 0 np (j+1)++(gP++gO j (.own 4 FP 48)))else Gf (tick ρj)++(YY [iv first,iv i,iv am,.sl 0 [] (.opn (N+3)),pv,.bp (N+6+np+n2) 0 j 0] 0 np (j+1)++(gP++gO j (.own 4 FP 48)))) ?_;simp only[seval,xw,tZ,y1,mT,ff nM,pj,ff AN,AD,br,jG,n1,w1,v1,uN,u7,rI,ki,wq,SC];refine sY y.av _ (di (uu _ _ _ ⟨rfl,rfl⟩)) ?_;(try simp only[seval,xw,tZ,y1,mT,ff nM,pj,ff AN,AD,br,jG,n1,w1,v1,uN,u7,rI,ki,wq,SC,aB.av,w5]);refine⟨uQ,by omega,?_⟩;refine ai ?_;simp only[seval,yz];refine hR _ ⟨by omega,trivial,?_⟩;rw[<- ew,show (hw (j+1)).2=tick (tick (tick (tick (tick ρj)))) by rw[eB]];exact cT
  ·refine bU ?_;exact⟨(j,tick ρj),⟨by dsimp only;omega,by dsimp only;omega,lj.tick.mono (by omega)⟩,dz (by simp only[seval];simp[bm,Wk.refl]) (by rw[Gu])⟩
 ·have hd:decide ((j:Int)<((min np 3:Nat):Int))=false:=by simpa using e9
  refine ai ?_;simp only[seval,br,aa5,show (if(3:Int)<(np:Int)then(3:Int)else(np:Int))=((min np 3:Nat):Int)from aaB,hd];refine aD ?_;refine bU ?_;exact⟨(j,(hw j).2),⟨by dsimp only;omega,by dsimp only;omega,lj.mono (by omega)⟩,dz (by simp only[seval];simp[bm,Wk.refl]) rfl⟩
theorem aiF{i np ns cn:Nat}{first am:Int}{l aC bW:List Int}{pv sv B6:AV}{G:List aa}{DU:Bool}{ρ4:aZ}{zc:aa}{YY:List AV->Nat->Nat->Nat->List aa}{Ψ:an->AS->Prop}(hT:dH Gf t N)(hY:YW Gf N zc YY)(hb:b<2^10)(hi:1<=i/\i<=3)(oD:0<=first/\first<=90)(wR:1<=am/\am<=3)(aq:mV first am l i)(gZ:cn<=2)(Hd:ρ4.Ok (b+91)):
  aP lv SA none 240 (cs (cf (gk 10 og))) ⟨[(20,iv cn),(16,.sl ns (bW.map iv) (.opn (N+5))),(15,.sl np (aC.map iv) (.opn (N+4))),(13,B6),(11,.sl (i+1) (l.map iv) (.opn (N+2))),(10,.op (N+1) 0),(6,.op N 0),(0,.op t 0),(2,bv DU)],Gf ρ4++(YY [iv first,iv i,iv am,.sl 0 [] (.opn (N+3)),pv,sv] 0 np ns++G)⟩ (an.then (λs'=>∃y:List Seen×aZ,(y.1.length<=2/\(∀s∈y.1,0<=s.hour/\s.hour<=i/\∃τ,s.next=nb τ (l.getD s.hour.toNat 0) 1 0 99)/\y.2.Ok (b+97))/\s'.Sub ⟨[(16,.sl ns (bW.map iv) (.opn (N+5))),(15,.sl np (aC.map iv) (.opn (N+4))),(13,B6),(11,.sl (i+1) (l.map iv) (.opn (N+2))),(10,.op (N+1) 0),(6,.op N 0),(0,.op t 0),(2,bv DU)],Gf y.2++(YY [iv first,iv i,iv am,.sl y.1.length (y.1.flatMap Seen.l) (.opn (N+3)),pv,sv] y.1.length np ns++G)⟩) Ψ):=by
 obtain⟨uH,rB,y0,y1,y3,y4,y5,mT,zA,BR,BS,qh,tj,cu⟩:=hY;have iQ:∀L:List aa,dH (λτ=>Gf τ++L) t (N+L.length):=λL=>hT.more L;have iu:=aq.len;unfold og WY;dsimp only[S0,gk,cs,cf];obtain⟨hz,AK⟩:∃hz:Nat->List Seen×aZ,∀j,hz j=so l i ρ4 j:=⟨_,λ_=>rfl⟩;have jY:∀j,(hz j).1.length=j:=λj=>by rw[AK];exact ac3 _ _ _ _
 have MG:∀j:Nat,(hz j).2.Ok (b+91+3* j):=λj=>by rw[AK];exact(ac5 Hd _ _ j).mono (by omega)
 have ams:hz 0=([],ρ4):=AK 0;refine bY ?_;refine gF cn (λj:Nat=>[(20,iv ((cn:Int)-j))]) (λj=>Gf (hz j).2++(YY [iv first,iv i,iv am,.sl j ((hz j).1.flatMap Seen.l) (.opn (N+3)),pv,sv] j np ns++G)) (λ_=>True) (λ_ _=>rfl) (by simp only[seval];simp[bm,Wk.refl]) (by rw[ams];rfl) (λ_ _ _=>by simp[hT.len,uH]) trivial (λbJ cm j py _ R hR=> ?_);clear bJ cm;have lj:=MG j;refine ak ?_;refine aD ?_;refine⟨λhc=> ?_,λhc=> ?_⟩
 ·have e9:j<cn:=by omega
  have eB:hz (j+1)=((hz j).1++[⟨dg (hz j).2 i,nb (tick (hz j).2) (l.getD (dg (hz j).2 i).toNat 0) 1 0 99⟩],tick (tick (tick (hz j).2))):=by rw[AK,AK];rfl
  have pH:=jY j;generalize Gu:hz j=hj at lj eB pH⊢;obtain⟨ss,ρj⟩:=hj;dsimp only at lj eB pH⊢;have hur:=kM ρj i;obtain⟨u,hu⟩:∃u:Nat,dg ρj i=u:=⟨(dg ρj i).toNat,by omega⟩;rw[hu,VR]at eB;have hui:u<=i:=by omega
  obtain⟨n,LP⟩:=bZ (xs:=l) (i:=u) (by omega);have Gs:l.getD u 0=n:=by rw[SE,LP];rfl
  rw[Gs]at eB;have rP:=aq.ge (by omega) u hui;rw[Gs]at rP;have auv:0<=n/\n<=1000:=by
   have:=aem (v:=0) rP (by omega) oD wR (by omega);omega
  have yz:SD.wrap ((cn:Int)-j-1)=(cn:Int)-((j+1:Nat):Int):=by rw[bw _ (by omega)];omega
  have Sq:(0<=(u:Int)/\(u:Int)<(i:Int)+1)=True:=by simp;omega
  refine aO ?_;refine ai ?_;simp only[seval,y1];refine aJ ((oi (n:=i) (iQ _) lj (by omega) (by omega) ?_));rw[hu];(try simp only[seval]);have P5:=λ(L:List aa) k kp=>J7 (lv:=lv) (k:=k) (kp:=kp) (n:=n) (m:=1) (lo:=0) (hi:=99) (iQ L) lj.tick (by omega) (by omega) (by decide);obtain⟨y,hy⟩:∃y,y=nb (tick ρj) n 1 0 99:=⟨_,rfl⟩;rw[<- hy]at eB P5;obtain⟨FP,pi⟩:∃FP,FP=ss.flatMap Seen.l:=⟨_,rfl⟩;have wq:FP.length=j* 3:=by rw[pi,Rk,pH]
  have hFQ:FP++[iv u,iv y.min,iv y.max]=(hz (j+1)).1.flatMap Seen.l:=by rw[eB,Kr,pi];rfl
  rw[<- pi];refine o_ [9,12,14] (SU 15) (λD=>bif isDone 14 D then Gf (tick (tick (tick ρj)))++(YY [iv first,iv i,iv am,.sl (j+1) (FP++[iv u,iv y.min,iv y.max]) (.opn (N+3)),pv,sv] (j+1) np ns++G)else bif isDone 12 D then Gf (tick (tick (tick ρj)))++(YY [iv first,iv i,iv am,.sl j FP (.opn (N+3)),pv,sv] (j+1) np ns++G)else bif isDone 9 D then Gf (tick (tick (tick ρj)))++(YY [iv first,iv i,iv am,.sl j FP (.opn (N+3)),pv,sv] j np ns++G)else Gf (tick ρj)++(YY [iv first,iv i,iv am,.sl j FP (.opn (N+3)),pv,sv] j np ns++G)) ?_;simp only[seval,zS1,Em,y1,y3,mT,zA,ff LP,Sq,wq,iu];have w5:y.l=[iv y.min,iv y.max]:=rfl;refine sY y.av _ (di (P5 _ _ _ ⟨rfl,rfl⟩)) ?_;(try simp only[seval,zS1,Em,y1,y3,mT,zA,ff LP,Sq,wq,iu,fL.av,w5]);refine⟨by omega,?_⟩;refine ai ?_;simp only[seval,yz];refine hR _ ⟨by omega,trivial,?_⟩;rw[<- hFQ,eB];exact cT
 ·have yA:j=cn:=by omega
  subst yA;clear hR;refine bU ?_;have cw:=jY j;have hsm:∀s∈(hz j).1,0<=s.hour/\s.hour<=i/\∃τ,s.next=nb τ (l.getD s.hour.toNat 0) 1 0 99:=by
   rw[AK];exact ac4 (λτ=>by have:=kM τ i;omega) j
  refine⟨((hz j).1,(hz j).2),⟨by dsimp only;omega,hsm,lj.mono (by omega)⟩,dz (by simp only[seval];simp[bm,Wk.refl]) ?_⟩;dsimp only;rw[cw]
end
section
variable (lv:Bool)(P:SI)
def xx (s:AS)(o:Tu)(next:AS->Prop):Prop:=match o.op with
 |.buildSlice t len parts=>ao (re P t) λ(e,sz,z)=>len* sz<=2^24/\ao (j7 s parts.toList) λl6=>ao (oo (iD.at (.elems sz)) (gU z (len* sz)) l6) λl=>next ((⟨s.T,s.H++[.cells l e]⟩:AS).put o.dst (.bp s.H.length 0 len len))
 |.call c=>match c.callee with
  |.builtin .append=>match c.args.toList,c.argTypes.toList with
   |[x,y],[t,t']=>ao (jM P t t') λ(elem,sz,_)=>ao (s.ev x) λa=>ao (s.ev y) λb=>a.v4 λn l e=>e=.exact/\ao (s.src sz b) λ(m,l')=>l.length=n* sz/\l'.length=m* sz/\n+m<=2^30/\0<m/\next ((⟨s.T,s.H++[.own sz (l++l') elem]⟩:AS).put o.dst (.bp s.H.length 0 (n+m) 0))
   |_,_=>False
  |_=>False
 |_=>False
def qX (m:Nat):Nat->List Tu->AS->(AS->Prop)->(AV->AS->Prop)->Prop
 |_,[],s,K,_=>K s
 |k,o::rest,s,K,bad=>o.guard=none/\(bif k==m then xx P s o (λs'=>qX m (k+1) rest s' K bad)else my lv P s o (λs'=>qX m (k+1) rest s' K bad) bad)
end
section
variable {lv:Bool}{P:SI}{r:Option Nat}{s:AS}
theorem xx.step{o:Tu}{next:AS->Prop}{bad:AV->AS->Prop}(h:xx P s o next):Step lv P r o s next bad:=by
 unfold xx at h;split at h
 ·rename_i t len parts ho;obtain⟨⟨e,sz,z⟩,h1,h2,h⟩:=h.out;obtain⟨l6,h3,h⟩:=h.out;obtain⟨l,h4,h⟩:=h.out;exact adD ho h1 h2 h3 h4 h
 ·rename_i c ho;split at h
  ·rename_i aW;split at h
   ·rename_i x y t t' ha cR;obtain⟨⟨elem,sz,z⟩,h1,hA⟩:=h.out;obtain⟨a,h2,hB⟩:=hA.out;obtain⟨b,h3,hC⟩:=hB.out;obtain⟨n,l,e,e1,e0,hD⟩:=Pt hC;subst e1 e0;obtain⟨⟨m,l'⟩,h4,h5,h6,h7,h8,h9⟩:=hD.out;exact adB ho aW (na ha) (sA cR) h1 h2 h3 h4 h5 h6 h7 h8 h9
   ·exact h.elim
  ·exact h.elim
 ·exact h.elim
theorem qX.adu{m:Nat}{K:AS->Prop}{bad:AV->AS->Prop}:∀(l:List Tu)(k:Nat)(s:AS),qX lv P m k l s K bad->Cb lv P r l s K bad
 |[],k,s,h=>h
 |o::rest,k,s,h=>by
  obtain⟨h1,h2⟩:=h;refine⟨h1,?_⟩;have hs:∀{s'},qX lv P m (k+1) rest s' K bad->Cb lv P r rest s' K bad:=λ{s'} h=>qX.adu rest (k+1) s' h;cases hkm:(k==m)<;>rw[hkm]at h2<;>simp only[cond_true,cond_false]at h2
  rotate_left
  ·exact(xx.step h2).mono (λ_ h=>hs h) (λ_ _ h=>h)
  ·exact(my.sound (r:=r) h2).mono (λ_ h=>hs h) (λ_ _ h=>h)
theorem Fy{nt id:Nat}{ops:Array Tu}{Φ:an->AS->Prop}(m:Nat)(hd:jT nt ops=true)(h:qX lv P m 0 ops.toList s (Φ .normal) (λpv s=>Φ (.panic pv) s)):aP lv P r nt (.region id ops false) s Φ:=agh hd (h.adu ops.toList 0 s)
end
theorem afb:type_of% @xx.eq_1:=by intros;rw[xx.eq_1]
theorem aor:type_of% @qX.eq_1:=by intros;rw[qX.eq_1]
theorem aoq:type_of% @qX.eq_2:=by intros;rw[qX.eq_2]
attribute [seval] afb aor aoq
end Go.Gg
namespace Go.Gg.Tk
theorem aan{x:aj}{bh:Nat}:∀(d:Nat)(pre:List Int),2<=pre.length->mL x bh d pre=(jj x d pre).map cL
 |0,pre,_=>by
  unfold mL jj;split<;>rfl
 |d+1,pre,h=>by
  unfold mL jj;split
  ·rw[UO];congr 1;funext n;rw[if_neg (λhc=>by have:=hc.1;omega),aan d _ (by simp;omega)]
  ·rfl
theorem Rl{α:Type}{t:Nat}{f:Nat->List α}:∀m,((SU m).flatMap λn=>if n≠t then[]else f n)=if t<m then f t else[]
 |0=>by simp
 |m+1=>by
  rw[Vp,VE,Rl m];simp only[T5,WV,SN];by_cases h:m=t
  ·subst h;rw[if_neg (Nat.lt_irrefl _),if_neg (by simp),if_pos (Uy _),UL]
  ·rw[if_pos h,SN];by_cases h2:t<m
   ·rw[if_pos h2,if_pos (by omega)]
   ·rw[if_neg h2,if_neg (by omega)]
theorem aas{x:aj}{bh:Nat}(hh:1<=x.hours)(ht:bh<x.am.toNat+1):kq x bh=(wJ x bh).map cL:=by
 unfold kq wJ;obtain⟨d,hd⟩:∃d,x.hours.toNat=d+1:=⟨x.hours.toNat-1,by omega⟩;rw[hd];unfold mL;simp only[T_,Vd,Wa,true_and];rw[show ([x.first]:List Int).getLastD 0=x.first from rfl];split
 ·rw[Rl (t:=bh) (f:=λn=>mL x bh d ([x.first]++[x.first+(n:Int)])),if_pos ht,aan d _ (by simp)];rfl
 ·rfl
theorem alf{x:aj}(hh:1<=x.hours):((SU (x.am.toNat+1)).flatMap λt=>wJ x t)=aK x:=by
 unfold aK wJ;obtain⟨d,hd⟩:∃d,x.hours.toNat=d+1:=⟨x.hours.toNat-1,by omega⟩;rw[hd,Wa,show jj x (d+1) [x.first]=(if oP x 0 x.first then(SU (x.am.toNat+1)).flatMap λn:Nat=>jj x d [x.first,x.first+(n:Int)]else[])from rfl];split
 ·rfl
 ·simp
end Go.Gg.Tk
namespace Go.Gg.Tk
theorem aqb{p:Nat->Bool}{m k:Nat}(h:m<=k):((SU k).filter λn=>decide (n<m)&&p n)=(SU m).filter p:=by
 obtain⟨j,rfl⟩:=Nat.exists_eq_add_of_le h;rw[List.range_add,List.filter_append];have h1:((SU j).map (m+·)).filter (λn=>decide (n<m)&&p n)=[]:=by
  rw[YF];intro a ha;obtain⟨b,_,rfl⟩:=Te.1 ha;simp only[Tl,decide_eq_true_eq,not_and];exactλhlt=>absurd hlt (by omega)
 rw[h1,SN];refine US λn hn=> ?_;rw[Tx]at hn;simp[hn]
theorem Ko{α:Type}{c:Nat->Bool}{f:Nat->List α}:∀l:List Nat,(l.flatMap λn=>if c n=true then[]else f n)=(l.filter λn=> !c n).flatMap f
 |[]=>rfl
 |n::l=>by
  rw[T5,List.filter_cons,Ko l];cases hc:c n<;>simp
def tX (g:aB->Nat->Bool)(m:Nat):List aB->List Nat->List (List Nat)
 |[],t=>[t]
 |y::ys,t=>((SU m).filter λn=>g y n&& !t.contains n).flatMap λn=>tX g m ys (t++[n])
theorem NA{g:aB->Nat->Bool}{q:aB->Nat}{m:Nat}(hm:m<=9):∀(ys:List aB)(u:Nat)(t:List Nat),(∀y∈ys,∀n,n<9->(q y).testBit n=(decide (n<m)&&g y n))->(∀n,u.testBit n=t.contains n)->kK (ys.map q) u t=tX g m ys t
 |[],u,t,_,_=>rfl
 |y::ys,u,t,hq,hu=>by
  rw[UP,kK,tX];have e1:((SU 9).flatMap λn=>if(u.testBit n|| !(q y).testBit n)=true then[]else kK (ys.map q) (u|||2^n) (t++[n]))=((SU 9).filter λn=> !(u.testBit n|| !(q y).testBit n)).flatMap λn=>kK (ys.map q) (u|||2^n) (t++[n]):=Ko _;rw[e1];have e2:((SU 9).filter λn=> !(u.testBit n|| !(q y).testBit n))=(SU m).filter λn=>g y n&& !t.contains n:=by
   rw[<- aqb hm];refine US λn hn=> ?_;rw[Tx]at hn;rw[hu,hq y (by simp) n hn];cases t.contains n<;>cases decide (n<m)<;>cases g y n<;>rfl
  rw[e2];congr 1;funext n;refine NA hm ys _ _ (λz hz=>hq z (by simp[hz])) λi=> ?_;rw[Xq,hu,VS,YT];simp[eq_comm]
theorem ab5{h:List Int}{a:Int}{g:aB->Nat->Bool}{m:Nat}(hr:vw h=(SU m).map λi:Nat=>a+(i:Int)):∀(ys:List aB)(t:List Nat),(∀y∈ys,∀n,n<m->fits h y (a+(n:Int))=g y n)->kv h ys (t.map λi:Nat=>a+(i:Int))=(tX g m ys t).map λl=>l.map λi:Nat=>a+(i:Int)
 |[],t,_=>rfl
 |y::ys,t,hg=>by
  rw[kv,tX,hr,X4,Vu,UO];have e:(SU m).filter ((λn=>fits h y n&& !(t.map λi:Nat=>a+(i:Int)).contains n)∘λi:Nat=>a+(i:Int))=(SU m).filter λn=>g y n&& !t.contains n:=by
   refine US λn hn=> ?_;rw[Tx]at hn;simp only[Wn];rw[hg y (by simp) n hn];congr 1;congr 1;rw[U3,Wi,Wi,Te];constructor
   ·rintro⟨i,h1,h2⟩
    have:i=n:=(by omega);rw[<- this];exact h1
   ·exactλh1=>⟨n,h1,rfl⟩
  rw[e];congr 1;funext n;have:=ab5 hr ys (t++[n]) (λz hz=>hg z (by simp[hz]));rw[TG]at this;exact this
end Go.Gg.Tk
namespace Go.Gg.Tk
theorem aco{h:List Int}{ns:List Nat}{nl:List Int}{q:aB->Nat}(hl:nl.length=ns.length):∀(ss:List aB)(u:Nat)(t:List Nat),(∀s∈ss,∀p,p<ns.length->(q s).testBit (ns.getD p 0)=fits h s (nl.getD p 0))->(∀n,u.testBit n=t.contains n)->mr ns.length ns (ss.map q) u t=mq h nl ss t
 |[],u,t,_,_=>rfl
 |s::ss,u,t,hq,hu=>by
  rw[UP,mr,mq,hl];have e1:((SU ns.length).flatMap λp=>if(u.testBit p|| !(q s).testBit (ns.getD p 0))=true then[]else mr ns.length ns (ss.map q) (u|||2^p) (t++[p]))=((SU ns.length).filter λp=> !(u.testBit p|| !(q s).testBit (ns.getD p 0))).flatMap λp=>mr ns.length ns (ss.map q) (u|||2^p) (t++[p]):=Ko _;rw[e1];have e2:((SU ns.length).filter λp=> !(u.testBit p|| !(q s).testBit (ns.getD p 0)))=(SU ns.length).filter λp=>fits h s (nl.getD p 0)&& !t.contains p:=by
   refine US λp hp=> ?_;rw[Tx]at hp;rw[hu,hq s (by simp) p hp];cases t.contains p<;>cases fits h s (nl.getD p 0)<;>rfl
  rw[e2];congr 1;funext p;refine aco hl ss _ _ (λz hz=>hq z (by simp[hz])) λi=> ?_;rw[Xq,hu,VS,YT];simp[eq_comm]
theorem aca{g:aB->Nat->Bool}{m:Nat}:∀{ys:List aB}{t ns:List Nat},ns∈tX g m ys t->(∀n∈t,n<m)->ns.length=t.length+ys.length/\∀n∈ns,n<m
 |[],t,ns,h,ht=>by
  simp only[tX,S8]at h;subst h;exact⟨by simp,ht⟩
 |y::ys,t,ns,h,ht=>by
  simp only[tX,S6,Uq,Tx]at h;obtain⟨n,⟨hn,_⟩,h⟩:=h;obtain⟨h1,h2⟩:=aca h (λk hk=>by
   rcases SQ.1 hk with h'|h'
   ·exact ht k h'
   ·rw[S8.1 h'];exact hn)
  exact⟨by rw[h1];simp;omega,h2⟩
end Go.Gg.Tk
namespace Go.Gg.Tk
structure xA (x:aj)(h:List Int):Prop where
 lo:2<=h.length
 hi:h.length<=4
 head:h.headD 0=x.first
 span:h.getLastD 0<=x.first+9
 pad:mA (cL h)
theorem acw{h:List Int}(hl:2<=h.length):(cL h).getD 0 0=h.headD 0:=by
 match h,hl with
 |a::b::l,_=>rfl
theorem acx{h:List Int}(hl:2<=h.length)(h4:h.length<=4):(cL h).getD 3 0=h.getLastD 0:=by
 match h,hl,h4 with
 |[a,b],_,_=>rfl
 |[a,b,c],_,_=>rfl
 |[a,b,c,d],_,_=>rfl
theorem aoT{h:List Int}{n:Int}(hl:2<=h.length)(h4:h.length<=4):iL (cL h) n=iL h n:=by
 match h,hl,h4 with
 |[a,b],_,_=>exact OD (i:=0) (k:=2) (z:=b) (h:=[a,b]) (n:=n) rfl (by simp)
 |[a,b,c],_,_=>exact OD (i:=0) (k:=1) (z:=c) (h:=[a,b,c]) (n:=n) rfl (by simp)
 |[a,b,c,d],_,_=>exact OD (i:=0) (k:=0) (z:=d) (h:=[a,b,c,d]) (n:=n) rfl (by simp)
def oK (h:List Int):Nat:=(h.getLastD 0-h.headD 0).toNat
theorem Jl{x:aj}{h:List Int}(hh:xA x h)(y:aB){n:Nat}(hn:n<9):(b_ (cL h) y).testBit n=(decide (n<oK h)&&fits h y (h.headD 0+(n:Int))):=by
 unfold b_;rw[Cv];unfold lC fits;rw[acw hh.lo,acx hh.lo hh.hi,aoT hh.lo hh.hi];have e1:decide (n<9)=true:=decide_eq_true hn;have e2:decide (h.headD 0+(n:Int)<h.getLastD 0)=decide (n<oK h):=by
  unfold oK;rw[U3];simp only[decide_eq_true_eq];omega
 rw[e1,e2,Vx];by_cases hm:n<oK h
 ·have e3:0<=iL h (h.headD 0+(n:Int)):=by
   unfold oK at hm;refine OC (a:=h.headD 0) ?_ (by omega) (by omega);have:=hh.lo
   match h,this with
   |a::b::l,_=>rfl
  rw[decide_eq_true e3,decide_eq_true hm];simp
 ·rw[decide_eq_false hm];simp
theorem ab4{x:aj}{h:List Int}(hh:xA x h):kv h x.pieces []=(fZ x (cL h)).map λl=>l.map λi:Nat=>h.headD 0+(i:Int):=by
 have GA:oK h<=9:=by unfold oK;have:=hh.span;have:=hh.head;omega
 have e1:fZ x (cL h)=tX (λy n=>fits h y (h.headD 0+(n:Int))) (oK h) x.pieces []:=
  NA GA x.pieces 0 [] (λy _ n hn=>Jl hh y hn) (by simp)
 rw[e1];exact ab5 (a:=h.headD 0) rfl x.pieces [] λy _ n _=>rfl
end Go.Gg.Tk
namespace Go.Gg.Tk
theorem aon{x:aj}{h:List Int}(hh:xA x h){ns:List Nat}(hn:ns∈fZ x (cL h)):ns.length=x.pieces.length/\∀n∈ns,n<oK h:=by
 have GA:oK h<=9:=by unfold oK;have:=hh.span;have:=hh.head;omega
 have e1:fZ x (cL h)=tX (λy n=>fits h y (h.headD 0+(n:Int))) (oK h) x.pieces []:=
  NA GA x.pieces 0 [] (λy _ n hn=>Jl hh y hn) (by simp)
 rw[e1]at hn;have:=aca hn (by simp);exact⟨by simpa using this.1,this.2⟩
theorem aoP{x:aj}{h:List Int}(hh:xA x h){ns:List Nat}(hn:ns∈fZ x (cL h)):iB x (cL h) ns=mq h (ns.map λi:Nat=>h.headD 0+(i:Int)) x.aA []:=by
 obtain⟨h1,h2⟩:=aon hh hn;have GA:oK h<=9:=by unfold oK;have:=hh.span;have:=hh.head;omega
 unfold iB;rw[<- h1];refine aco (by simp) x.aA 0 [] (λs _ p hp=> ?_) (by simp);have rH:ns.getD p 0=ns[p]:=by rw[SE,SW hp];rfl
 have hlt:=h2 ns[p] (Wz hp);have hg2:(ns.map λi:Nat=>h.headD 0+(i:Int)).getD p 0=h.headD 0+(ns[p]:Int):=by
  rw[SE,To,SW hp];rfl
 rw[rH,hg2,Jl hh s (by omega),decide_eq_true hlt,Vx]
def eF (t:Tr):List Int:=dE (cL t.bG) (t.aC.map λn=>(n-t.bG.headD 0).toNat) t.bW
theorem aed{x:aj}{h:List Int}(hh:xA x h){ns:List Nat}(hn:ns∈fZ x (cL h)):(BK x h (ns.map λi:Nat=>h.headD 0+(i:Int))).map eF=(iB x (cL h) ns).map (dE (cL h) ns):=by
 unfold BK;rw[WM,aoP hh hn];refine Vg λos _=> ?_;unfold eF;simp only[Wn,WM];congr 1
 conv=>rhs;rw[<- List.map_id ns]
 refine Vg λn _=> ?_;simp only[Wn,id];omega
theorem s_{α β:Type}{l:List α}{f g:α->List β}(h:∀a∈l,f a=g a):l.flatMap f=l.flatMap g:=by
 rw[WW,WW,Vg h]
theorem adU{α:Type}:∀ll:List (List α),(ll.map (·.take 1)).flatten.take 1=ll.flatten.take 1
 |[]=>rfl
 |[]::ll=>by simpa using adU ll
 |(a::l)::ll=>by simp
theorem asK{x:aj}{h:List Int}{deep:Int}(hh:xA x h):iM x deep (cL h)=(sx x deep h).map eF:=by
 have e2:(lx x h).map eF=(((fZ x (cL h)).map λns=>(iB x (cL h) ns).map λos=>dE (cL h) ns os)).flatten:=by
  unfold lx;rw[ab4 hh,Vu,UO,<- WW];exact s_ λns hn=>aed hh hn
 have e1:(vK x h).map eF=(((fZ x (cL h)).map λns=>(iB x (cL h) ns).map λos=>dE (cL h) ns os).map (·.take 1)).flatten:=by
  unfold vK;rw[ab4 hh,Vu,UO,WM,<- WW];refine s_ λns hn=> ?_;simp only[Wn];rw[VJ,aed hh hn]
 unfold iM sx;dsimp only;split
 ·rw[VJ,e1,adU]
 ·split
  ·exact e1.symm
  ·exact e2.symm
end Go.Gg.Tk
namespace Go.Gg.Tk
theorem AL{x:aj}:∀(d:Nat)(pre h:List Int),pre≠[]->h∈jj x d pre->h.length=pre.length+d/\h.headD 0=pre.headD 0
 |0,pre,h,_,hm=>by
  unfold jj at hm;split at hm
  ·rw[S8]at hm;subst hm;exact⟨rfl,rfl⟩
  ·cases hm
 |d+1,pre,h,hp,hm=>by
  unfold jj at hm;split at hm
  ·obtain⟨n,_,hm⟩:=S6.1 hm;obtain⟨h1,h2⟩:=AL d _ h (by simp) hm;refine⟨by rw[h1];simp;omega,h2.trans ?_⟩
   match pre,hp with
   |a::l,_=>rfl
  ·cases hm
theorem aam{x:aj}{t:Nat}(hx:x.Ok)(ht:t<x.am.toNat+1){h:List Int}(hm:h∈wJ x t):xA x h:=by
 have hh:=hx.hours;have GL:cL h∈kq x t:=by rw[aas hh.1 ht];exact Te.2 ⟨h,hm,rfl⟩
 have h4:=aaj hx GL;unfold wJ at hm;split at hm
 ·obtain⟨h1,h2⟩:=AL _ _ _ (by simp) hm;have pz:2<=h.length:=by rw[h1];simp
  have Gt:h.length<=4:=by rw[h1];simp;omega
  have Ar:h.headD 0=x.first:=h2;refine⟨pz,Gt,Ar,?_,h4⟩;have:=h4.span;rw[acw pz,acx pz Gt,Ar]at this;exact this
 ·cases hm
theorem OT{x:aj}{deep:Int}(hx:x.Ok):((SU (x.am.toNat+1)).flatMap λt=>IB x deep t)=(aK x).flatMap (sx x deep):=by
 unfold IB;rw[<- alf hx.hours.1,List.flatMap_assoc]
end Go.Gg.Tk
namespace Go.Gg.Tk
theorem afx{l:List Nat}{i v p n:Nat}(hi:i<l.length):((o0 l i v).getD p 0).testBit n=((l.getD p 0).testBit n||(decide (p=i)&&decide (n=v))):=by
 unfold o0;rw[SE,UU];by_cases h:i=p
 ·subst h;rw[if_pos rfl,if_pos hi,S0,Xq,VS];simp[eq_comm]
 ·rw[if_neg h,<- SE];have:¬p=i:=λe=>h e.symm;simp[this]
def sO (v:Nat->Nat):Nat->List Nat->List Nat
 |0,l=>l
 |k+1,l=>o0 (sO v k l) k (v k)
theorem ab8(t:List Int)(l:List Nat):∀k,sh t k l=sO (mv t) k l
 |0=>rfl
 |k+1=>by rw[sh,sO,ab8 t l k]
theorem acy(t:List Int)(l:List Nat):∀k,mR t k l=sO (sr t) k l
 |0=>rfl
 |k+1=>by rw[mR,sO,acy t l k]
theorem Pp(v:Nat->Nat)(l:List Nat):∀k,(sO v k l).length=l.length
 |0=>rfl
 |k+1=>by rw[sO,Co,Pp v l k]
theorem I8{v:Nat->Nat}{l:List Nat}{p n:Nat}:∀k,k<=l.length->((sO v k l).getD p 0).testBit n=((l.getD p 0).testBit n||(decide (p<k)&&decide (n=v p)))
 |0,_=>by simp[sO]
 |k+1,h=>by
  rw[sO,afx (by rw[Pp];omega),I8 k (by omega)];by_cases hp:p=k
  ·subst hp;simp
  ·have e:(p<k+1)<->p<k:=(by omega);simp[hp,e]
theorem acl{l m:List Nat}{p n:Nat}(h:l.length=m.length):((lS l m).getD p 0).testBit n=((l.getD p 0).testBit n||(m.getD p 0).testBit n):=by
 unfold lS;rw[SE,List.getElem?_zipWith,SE,SE];by_cases hp:p<l.length
 ·rw[SW hp,SW (by omega)];simp[Xq]
 ·rw[Ux (by omega),Ux (by omega)];simp
theorem acF{hs:List (List Int)}{h g:List Int}:g∈jL hs h<->g∈hs\/g=h:=by
 unfold jL;split
 ·rename_i hm;exact⟨.inl,λe=>e.elim id λe=>e▸hm⟩
 ·rw[SQ,S8]
theorem Rp{g:List Int}:∀{l hs:List (List Int)},g∈l.foldl jL hs<->g∈hs\/g∈l
 |[],hs=>by simp
 |a::l,hs=>by
  rw[U4,Rp,acF,SK,or_assoc]
theorem agC(Q:Kn)(t:List Int):(jQ Q t).has=true:=by
 unfold jQ;cases h:Q.has
 ·rfl
 ·rw[if_pos rfl];exact h
theorem adW(x:aj)(deep:Int)(Q:Kn)(t:List Int):(eD x deep Q t).has=true:=by
 have:=agC Q t;unfold eD;dsimp only;split
 ·exact this
 ·split<;>exact this
theorem Ru{x:aj}{deep:Int}:∀(ts:List (List Int))(Q:Kn),(ts.foldl (eD x deep) Q).has=(Q.has|| !ts.isEmpty)
 |[],Q=>by simp
 |t::ts,Q=>by rw[U4,Ru ts,adW];simp
theorem amD{F G:Kn}{hs:List (List Int)}:(hO F hs G).has=(F.has||G.has):=by
 unfold hO;cases h:G.has
 ·simp
 ·simp
end Go.Gg.Tk
namespace Go.Gg.Tk
theorem asa{x:aj}{Q:Kn}{t g:List Int}:g∈(eD x 0 Q t).aK<->g∈Q.aK\/g=t.take 4:=by
 have hB:(jQ Q t).aK=Q.aK:=by unfold jQ;split<;>rfl
 unfold eD;dsimp only;rw[if_neg (by decide),if_pos rfl,acF,hB]
theorem Rr{x:aj}{g:List Int}:∀(ts:List (List Int))(Q:Kn),g∈(ts.foldl (eD x 0) Q).aK<->g∈Q.aK\/∃t∈ts,g=t.take 4
 |[],Q=>by simp
 |t::ts,Q=>by
  rw[U4,Rr ts,asa];constructor
  ·rintro((h|h)|⟨u,h1,h2⟩)
   ·exact .inl h
   ·exact .inr ⟨t,by simp,h⟩
   ·exact .inr ⟨u,by simp[h1],h2⟩
  ·rintro(h|⟨u,h1,h2⟩)
   ·exact .inl (.inl h)
   ·rcases SK.1 h1 with rfl|h1
    ·exact .inl (.inr h2)
    ·exact .inr ⟨u,h1,h2⟩
def eA (x:aj)(deep:Int)(j:Nat):List (List Int):=(kq x j).flatMap (iM x deep)
theorem IA(x:aj)(deep:Int)(j:Nat):gT x deep j=(eA x deep j).foldl (eD x deep) Kn.zero:=rfl
theorem EO(x:aj)(deep:Int)(j:Nat):(gT x deep j).has= !(eA x deep j).isEmpty:=by
 rw[IA,Ru];rfl
theorem as9{x:aj}{j:Nat}{g:List Int}:g∈(gT x 0 j).aK<->∃t∈eA x 0 j,g=t.take 4:=by
 rw[IA,Rr];simp[Kn.zero]
theorem abh{x:aj}{deep:Int}{js:List Nat}{D:Kn}(h:nY x deep js D):D.has=js.any λj=> !(eA x deep j).isEmpty:=by
 induction h with
 |nil=>rfl
 |snoc h hp ih=>rw[amD,ih,EO,ZD];simp
theorem amE{x:aj}{js:List Nat}{D:Kn}{g:List Int}(h:nY x 0 js D):g∈D.aK<->∃j∈js,∃t∈eA x 0 j,g=t.take 4:=by
 induction h with
 |nil=>simp[Kn.zero]
 |@snoc js F j hs h hp ih=>
  have key:g∈(hO F hs (gT x 0 j)).aK<->g∈F.aK\/∃t∈eA x 0 j,g=t.take 4:=by
   unfold hO;split
   ·show g∈hs.foldl jL F.aK<->_;rw[Rp,hp.mem_iff,as9]
   ·rename_i hn;rw[EO]at hn;have:eA x 0 j=[]:=(by simpa using hn);rw[this];simp
  rw[key,ih];constructor
  ·rintro(⟨i,h1,h2⟩|h2)
   ·exact⟨i,by simp[h1],h2⟩
   ·exact⟨j,by simp,h2⟩
  ·rintro⟨i,h1,h2⟩
   rcases SQ.1 h1 with h1|h1
   ·exact .inl ⟨i,h1,h2⟩
   ·rw[S8.1 h1]at h2;exact .inr h2
theorem Rq:∀{l hs:List (List Int)},hs.Nodup->(l.foldl jL hs).Nodup
 |[],hs,h=>h
 |a::l,hs,h=>by rw[U4];exact Rq (acG h)
theorem amG{x:aj}{deep:Int}{js:List Nat}{D:Kn}(h:nY x deep js D):D.aK.Nodup:=by
 induction h with
 |nil=>exact WS
 |snoc h hp ih=>
  unfold hO;split
  ·exact Rq ih
  ·exact ih
end Go.Gg.Tk
namespace Go.Gg.Tk
theorem Ao{x:aj}{deep:Int}{t:Nat}(hx:x.Ok)(ht:t<x.am.toNat+1):eA x deep t=(IB x deep t).map eF:=by
 unfold eA IB;rw[aas hx.hours.1 ht,Vu,UO];exact s_ λh hm=>asK (aam hx ht hm)
def m_ (x:aj)(deep:Int):List Tr:=(aK x).flatMap (sx x deep)
theorem Ba{x:aj}{deep:Int}{js:List Nat}{p:Nat}(hx:x.Ok)(hp:x.am=p)(iF:js.Perm (SU (p+1))){t:List Int}:(∃j∈js,t∈eA x deep j)<->∃u∈m_ x deep,t=eF u:=by
 have nH:x.am.toNat=p:=by omega
 unfold m_;rw[<- OT hx,nH];constructor
 ·rintro⟨j,h1,h2⟩
  have hj:=iF.mem_iff.1 h1;rw[Ao hx (by rw[nH];simpa using hj)]at h2;obtain⟨u,h3,rfl⟩:=Te.1 h2;exact⟨u,S6.2 ⟨j,hj,h3⟩,rfl⟩
 ·rintro⟨u,h1,rfl⟩
  obtain⟨j,hj,h3⟩:=S6.1 h1;refine⟨j,iF.mem_iff.2 hj,?_⟩;rw[Ao hx (by rw[nH];simpa using hj)];exact Te.2 ⟨u,h3,rfl⟩
theorem EJ{x:aj}{deep:Int}{h:List Int}{u:Tr}(hu:u∈sx x deep h):u∈lx x h:=by
 have h1:∀u,u∈vK x h->u∈lx x h:=λu hu=>by
  unfold vK at hu;obtain⟨ns,h1,h2⟩:=S6.1 hu;exact S6.2 ⟨ns,h1,Wy h2⟩
 unfold sx at hu;split at hu
 ·exact h1 u (Wy hu)
 ·split at hu
  ·exact h1 u hu
  ·exact hu
theorem zw{x:aj}{h:List Int}{u:Tr}(hu:u∈lx x h):u.bG=h:=by
 obtain⟨ns,_,h2⟩:=S6.1 hu;obtain⟨os,_,rfl⟩:=Te.1 h2;rfl
theorem Rm{α β:Type}{f:α->List β}:∀{l:List α},(l.flatMap λa=>(f a).take 1)=[]<->l.flatMap f=[]
 |[]=>by simp
 |a::l=>by
  rw[T5,T5,YG,YG,Rm,YS];simp
theorem aeb{x:aj}{deep:Int}{h:List Int}:sx x deep h=[]<->lx x h=[]:=by
 have h1:vK x h=[]<->lx x h=[]:=Rm;unfold sx;split
 ·rw[YS,h1];simp
 ·split
  ·exact h1
  ·exact Iff.rfl
theorem Pr{x:aj}{deep:Int}:m_ x deep=[]<->bR x=[]:=by
 unfold m_ bR;rw[Vv,Vv];exact forall_congr' λh=>forall_congr' λ_=>aeb
theorem afG{x:aj}{deep:Int}{js:List Nat}:(js.any λj=> !(eA x deep j).isEmpty)=true<->∃t,∃j∈js,t∈eA x deep j:=by
 rw[Ur];constructor
 ·rintro⟨j,h1,h2⟩
  cases hg:eA x deep j with
  |nil=>rw[hg]at h2;cases h2
  |cons t l=>exact⟨t,j,h1,by rw[hg];simp⟩
 ·rintro⟨t,j,h1,h2⟩
  refine⟨j,h1,?_⟩;cases hg:eA x deep j with
  |nil=>rw[hg]at h2;cases h2
  |cons=>rfl
end Go.Gg.Tk
namespace Go.Gg
open Go.Gg.Tk
theorem Hi{x:aj}{deep:Int}{D:Kn}(hx:x.Ok)(h:fM x deep D):D.has= !(bR x).isEmpty:=by
 obtain⟨p,js,h1,h2,h3,_⟩:=h;rw[abh h3,U3,afG];have key:(∃t,∃j∈js,t∈eA x deep j)<->m_ x deep≠[]:=by
  constructor
  ·rintro⟨t,h⟩ he
   obtain⟨u,hu,_⟩:=(Ba hx h1 h2).1 h;rw[he]at hu;cases hu
  ·intro aF;obtain⟨u,hu⟩:=Yi _ aF;exact⟨eF u,(Ba hx h1 h2).2 ⟨u,hu,rfl⟩⟩
 rw[key,ne_eq,Pr];cases bR x<;>simp
theorem amM{x:aj}{D:Kn}(hx:x.Ok)(h:fM x 0 D){g:List Int}:g∈D.aK<->∃u∈bR x,g=(eF u).take 4:=by
 obtain⟨p,js,h1,h2,h3,_⟩:=h;rw[amE h3];have e:(∃j∈js,∃t∈eA x 0 j,g=t.take 4)<->∃t,(∃j∈js,t∈eA x 0 j)/\g=t.take 4:=by
  constructor
  ·rintro⟨j,a,t,b,c⟩;exact⟨t,⟨j,a,b⟩,c⟩
  ·rintro⟨t,⟨j,a,b⟩,c⟩;exact⟨j,a,t,b,c⟩
 rw[e];have aG:∀u:Tr,u∈bR x->(eF u).take 4=cL u.bG:=λu hu=>by
  obtain⟨h,hm,lP⟩:=S6.1 hu;have hl:h.length=1+x.hours.toNat:=(AL _ _ _ (by simp) hm).1;have hh:=hx.hours;have h4:(cL u.bG).length=4:=by
   rw[zw lP];simp[cL];omega
  unfold eF dE;rw[SC,Tw (by omega),SS (by omega)]
 have lN:∀u,u∈m_ x 0->u∈bR x:=λu hu=>by
  obtain⟨h,a,b⟩:=S6.1 hu;exact S6.2 ⟨h,a,EJ b⟩
 constructor
 ·rintro⟨t,a,rfl⟩
  obtain⟨u,hu,rfl⟩:=(Ba hx h1 h2).1 a;exact⟨u,lN u hu,rfl⟩
 ·rintro⟨u,hu,rfl⟩
  obtain⟨h,hm,lP⟩:=S6.1 hu;have aF:sx x 0 h≠[]:=λe=>by
   rw[aeb]at e;rw[e]at lP;cases lP
  obtain⟨v,hv⟩:=Yi _ aF;have tR:v∈m_ x 0:=S6.2 ⟨h,hm,hv⟩;refine⟨eF v,(Ba hx h1 h2).2 ⟨v,tR,rfl⟩,?_⟩;rw[aG u hu,aG v (lN v tR),zw lP,zw (EJ hv)]
end Go.Gg
namespace Go.Gg.Tk
theorem PT(Q:Kn)(t:List Int):(jQ Q t).aC=Q.aC/\(jQ Q t).hours=Q.hours/\(jQ Q t).less=Q.less/\(jQ Q t).aU=Q.aU:=by
 unfold jQ;split<;>exact⟨rfl,rfl,rfl,rfl⟩
theorem asb{x:aj}{Q:Kn}{t:List Int}{p n:Nat}(hx:x.Ok)(hQ:bL Q)(hp:p<x.pieces.length):((eD x 1 Q t).aC.getD p 0).testBit n=((Q.aC.getD p 0).testBit n||decide (n=mv t p)):=by
 have h:(eD x 1 Q t).aC=sh t x.pieces.length Q.aC:=by
  rw[<- (PT Q t).1];rfl
 rw[h,ab8,I8 _ (by rw[hQ.aC];exact hx.ec),decide_eq_true hp,Vx]
theorem asc{x:aj}{Q:Kn}{t:List Int}{s n:Nat}(hx:x.Ok)(hQ:bL Q)(hs:s<x.aA.length):((eD x 2 Q t).aU.getD s 0).testBit n=((Q.aU.getD s 0).testBit n||decide (n=sr t s)):=by
 have h:(eD x 2 Q t).aU=mR t x.aA.length Q.aU:=by
  rw[<- (PT Q t).2.2.2];rfl
 rw[h,acy,I8 _ (by rw[hQ.aU];exact hx.de),decide_eq_true hs,Vx]
theorem Rs{x:aj}{deep:Int}(hx:x.Ok){f:Kn->Bool}{g:List Int->Bool}(h:∀Q t,bL Q->jw x t->f (eD x deep Q t)=(f Q||g t)):∀(ts:List (List Int))(Q:Kn),bL Q->(∀t∈ts,jw x t)->f (ts.foldl (eD x deep) Q)=(f Q||ts.any g)
 |[],Q,_,_=>by simp
 |t::ts,Q,hQ,ht=>by
  rw[U4,Rs hx h ts _ (Oy hx (ht t (by simp)) hQ) (λu hu=>ht u (by simp[hu])),h Q t hQ (ht t (by simp)),YV,Bool.or_assoc]
theorem RJ{x:aj}{deep:Int}{j:Nat}(hx:x.Ok)(hj:j<=3){t:List Int}(ht:t∈eA x deep j):jw x t:=by
 obtain⟨h,h1,h2⟩:=S6.1 ht;obtain⟨ns,h3,h4⟩:=OG h2;exact((EI hx) j hj h h1).2 ns h3 t h4
theorem amF{x:aj}{deep:Int}(hx:x.Ok){f:Kn->Bool}{g:List Int->Bool}(h0:f Kn.zero=false)(h:∀Q t,bL Q->jw x t->f (eD x deep Q t)=(f Q||g t))(hj:∀F G hs,bL F->bL G->G.has=true->f (hO F hs G)=(f F||f G)){js:List Nat}{D:Kn}(iF:∀j∈js,j<=3)(hD:nY x deep js D):bL D/\f D=js.any λj=>(eA x deep j).any g:=by
 induction hD with
 |nil=>exact⟨D2,by simpa using h0⟩
 |@snoc js F j hs hJ hp ih=>
  obtain⟨mN,lm⟩:=ih λi hi=>iF i (by simp[hi]);have hj3:j<=3:=iF j (by simp);have aq:bL (gT x deep j):=OS hx ((EI hx) j hj3);refine⟨abe mN aq hp,?_⟩;have hw:f (gT x deep j)=(eA x deep j).any g:=by
   rw[IA,Rs hx h _ _ D2 (λt ht=>RJ hx hj3 ht),h0,Zy]
  rw[ZD,<- lm];simp only[YV,List.any_nil,Bool.or_false];cases hG:(gT x deep j).has with
  |true=>rw[hj F _ hs mN aq hG,hw]
  |false=>
   have hn:eA x deep j=[]:=by
    rw[EO]at hG;simpa using hG
   rw[hn];unfold hO;rw[hG];simp
end Go.Gg.Tk
namespace Go.Gg
open Go.Gg.Tk
theorem abk{x:aj}{deep:Int}(hx:x.Ok){f:Kn->Bool}{g:List Int->Bool}(h0:f Kn.zero=false)(h:∀Q t,bL Q->jw x t->f (eD x deep Q t)=(f Q||g t))(hj:∀F G hs,bL F->bL G->G.has=true->f (hO F hs G)=(f F||f G)){D:Kn}(hD:fM x deep D):f D=true<->∃u∈m_ x deep,g (eF u)=true:=by
 obtain⟨p,js,h1,h2,h3,_⟩:=hD;have hp:=hx.am;have iF:∀j∈js,j<=3:=λj hm=>by
  have:=h2.mem_iff.1 hm;rw[Tx]at this;omega
 rw[(amF hx h0 h hj iF h3).2,Ur];constructor
 ·rintro⟨j,a,b⟩
  obtain⟨t,c,d⟩:=Ur.1 b;obtain⟨u,hu,rfl⟩:=(Ba hx h1 h2).1 ⟨j,a,c⟩;exact⟨u,hu,d⟩
 ·rintro⟨u,hu,d⟩
  obtain⟨j,a,c⟩:=(Ba hx h1 h2).2 ⟨u,hu,rfl⟩;exact⟨j,a,Ur.2 ⟨_,c,d⟩⟩
theorem amO{x:aj}{D:Kn}{s n:Nat}(hx:x.Ok)(hD:fM x 2 D)(hs:s<x.aA.length):(D.aU.getD s 0).testBit n=true<->∃u∈bR x,sr (eF u) s=n:=by
 have aR:=hx.de;have e:m_ x 2=bR x:=rfl;rw[<- e,abk (f:=λK=>(K.aU.getD s 0).testBit n) (g:=λt=>decide (n=sr t s)) hx ?_ (λQ t hQ _=>asc hx hQ hs) (λF G nI hF hG hh=> ?_) hD]
 ·exact exists_congr λu=>and_congr_right λ_=>by rw[decide_eq_true_eq];exact eq_comm
 ·have:([0,0,0]:List Nat).getD s 0=0:=by
   match s,(show s<3 by omega)with
   |0,_=>rfl
   |1,_=>rfl
   |2,_=>rfl
  show (([0,0,0]:List Nat).getD s 0).testBit n=false;rw[this];exact Zz n
 ·have e2:(hO F nI G).aU=lS F.aU G.aU:=by unfold hO;rw[if_pos hh]
  rw[e2];exact acl (by rw[hF.aU,hG.aU])
theorem afD{x:aj}{P:List Int->List Int->Prop}:(∃u∈m_ x 1,P u.bG u.aC)<->∃u∈bR x,P u.bG u.aC:=by
 constructor
 ·rintro⟨u,hu,hp⟩
  obtain⟨h,a,b⟩:=S6.1 hu;exact⟨u,S6.2 ⟨h,a,EJ b⟩,hp⟩
 ·rintro⟨u,hu,hp⟩
  obtain⟨h,a,b⟩:=S6.1 hu;obtain⟨ns,c,d⟩:=S6.1 b;obtain⟨os,c2,rfl⟩:=Te.1 d;cases ho:mq h ns x.aA []with
  |nil=>rw[ho]at c2;cases c2
  |cons o os'=>
   refine⟨⟨h,ns,o⟩,S6.2 ⟨h,a,?_⟩,hp⟩;show _∈vK x h;refine S6.2 ⟨ns,c,?_⟩;unfold BK;rw[ho];simp
theorem ab7{h:List Int}:∀{ys:List aB}{t ns:List Int},ns∈kv h ys t->ns.length=t.length+ys.length
 |[],t,ns,hm=>by
  simp only[kv,S8]at hm;subst hm;rfl
 |y::ys,t,ns,hm=>by
  simp only[kv,S6]at hm;obtain⟨n,_,hm⟩:=hm;have:=ab7 hm;simp at this⊢;omega
theorem xp{x:aj}(hx:x.Ok){u:Tr}(hu:u∈bR x):u.bG.length=1+x.hours.toNat/\u.aC.length=x.pieces.length:=by
 obtain⟨h,a,b⟩:=S6.1 hu;obtain⟨ns,c,d⟩:=S6.1 b;obtain⟨os,_,rfl⟩:=Te.1 d;exact⟨(AL _ _ _ (by simp) a).1,by simpa using ab7 c⟩
theorem zd{h:List Int}(h4:h.length<=4):(cL h).length=4:=by simp[cL];omega
theorem ahZ{x:aj}(hx:x.Ok){u:Tr}(hu:u∈bR x){p:Nat}(hp:p<x.pieces.length):mv (eF u) p=(u.aC.getD p 0-u.bG.headD 0).toNat:=by
 obtain⟨h1,h2⟩:=xp hx hu;have hh:=hx.hours;have h4:=zd (h:=u.bG) (by omega);have du:p<u.aC.length:=by omega
 have hg:(eF u)[4+p]?=some (((u.aC[p]-u.bG.headD 0).toNat:Nat):Int):=by
  unfold eF dE lq;rw[SC,Ta (by omega),h4,TU,SX (by simp;omega),SX (by simpa using du),To,To,SW du];rfl
 unfold mv;rw[SE,hg,SE,SW du];rfl
theorem atn{p:Nat}(hp:p<4):([0,0,0,0]:List Nat).getD p 0=0:=by
 match p,hp with
 |0,_=>rfl
 |1,_=>rfl
 |2,_=>rfl
 |3,_=>rfl
theorem amN{x:aj}{D:Kn}{p n:Nat}(hx:x.Ok)(hD:fM x 1 D)(hp:p<x.pieces.length):(D.aC.getD p 0).testBit n=true<->∃u∈bR x,(u.aC.getD p 0-u.bG.headD 0).toNat=n:=by
 have nF:=hx.ec;rw[abk (f:=λK=>(K.aC.getD p 0).testBit n) (g:=λt=>decide (n=mv t p)) hx ?_ (λQ t hQ _=>asb hx hQ hp) (λF G nI hF hG hh=> ?_) hD]
 ·rw[<- afD (P:=λh ns=>(ns.getD p 0-h.headD 0).toNat=n)];refine exists_congr λu=>and_congr_right λhu=> ?_;obtain⟨h,a,b⟩:=S6.1 hu;have hu2:u∈bR x:=S6.2 ⟨h,a,EJ b⟩;rw[decide_eq_true_eq,ahZ hx hu2 hp];exact eq_comm
 ·show (([0,0,0,0]:List Nat).getD p 0).testBit n=false;rw[atn (by omega)];exact Zz n
 ·have e2:(hO F nI G).aC=lS F.aC G.aC:=by unfold hO;rw[if_pos hh]
  rw[e2];exact acl (by rw[hF.aC,hG.aC])
theorem ab6{h:List Int}:∀{ys:List aB}{t ns:List Int},ns∈kv h ys t->(∀n∈t,h.headD 0<=n)->∀n∈ns,h.headD 0<=n
 |[],t,ns,hm,ht=>by
  simp only[kv,S8]at hm;subst hm;exact ht
 |y::ys,t,ns,hm,ht=>by
  simp only[kv,S6,Uq]at hm;obtain⟨n,⟨hn,_⟩,hm⟩:=hm;refine ab6 hm λk hk=> ?_;rcases SQ.1 hk with h'|h'
  ·exact ht k h'
  ·rw[S8.1 h'];obtain⟨i,_,rfl⟩:=Te.1 hn;omega
theorem asM{x:aj}{u:Tr}(hu:u∈bR x):∀n∈u.aC,u.bG.headD 0<=n:=by
 obtain⟨h,a,b⟩:=S6.1 hu;obtain⟨ns,c,d⟩:=S6.1 b;obtain⟨os,_,rfl⟩:=Te.1 d;exact ab6 c (by simp)
end Go.Gg
namespace Go.Gg.Tk
theorem Gv{x:aj}:∀(d:Nat)(pre h:List Int),h∈jj x d pre->h.take pre.length=pre
 |0,pre,h,hm=>by
  unfold jj at hm;split at hm
  ·rw[S8]at hm;subst hm;exact TD
  ·cases hm
 |d+1,pre,h,hm=>by
  unfold jj at hm;split at hm
  ·obtain⟨n,_,hm⟩:=S6.1 hm;have:=Gv d _ h hm;rw[S5,T_]at this;have h2:=congrArg (TS pre.length) this;rw[U8,Tw (SO _),TD,WC (by omega)]at h2;exact h2
  ·cases hm
theorem aak{x:aj}:∀(d:Nat)(pre:List Int),(jj x d pre).Nodup
 |0,pre=>by
  unfold jj;split
  ·simp
  ·exact WS
 |d+1,pre=>by
  unfold jj;split
  ·unfold List.Nodup;rw[List.pairwise_flatMap];refine⟨λn _=>aak d _,?_⟩;refine Z_ ?_ (XZ (n:=x.am.toNat+1));intro a b fC h ha g hb he;subst he;have h1:=Gv d _ h ha;have h2:=Gv d _ h hb;rw[S5,T_]at h1 h2;have h3:=h1.symm.trans h2;have:=List.append_cancel_left h3;simp at this;exact fC (by omega)
  ·exact WS
theorem alg(x:aj):(aK x).Nodup:=aak _ _
end Go.Gg.Tk
namespace Go.Gg
open Go.Gg.Tk
theorem asd(x:aj)(deep:Int)(Q:Kn)(t:List Int):(eD x deep Q t).first=if Q.has=true then Q.first else t:=by
 have hB:(jQ Q t).first=if Q.has=true then Q.first else t:=by unfold jQ;split<;>rfl
 unfold eD;dsimp only;split
 ·exact hB
 ·split
  ·exact hB
  ·exact hB
theorem Rt{x:aj}{deep:Int}:∀(ts:List (List Int))(Q:Kn),(ts.foldl (eD x deep) Q).first=if Q.has=true then Q.first else(match ts with|[]=>Q.first|t::_=>t)
 |[],Q=>by simp
 |t::ts,Q=>by
  rw[U4,Rt ts,adW,if_pos rfl,asd]
theorem ata{x:aj}{deep:Int}{j:Nat}{t:List Int}{l:List (List Int)}(h:eA x deep j=t::l):(gT x deep j).first=t:=by
 rw[IA,Rt,h];rfl
theorem amC{Q G:Kn}{hs:List (List Int)}(h:G.has=true):(hO Q hs G).first=if Q.has=false\/sS G.first Q.first=true then G.first else Q.first:=by
 unfold hO;rw[if_pos h]
theorem aoS{h:List Int}{a b:Int}(hl:h.take 2=[a,b]):(cL h).take 4=a::b::((cL h).drop 2).take 2:=by
 match h,hl with
 |c::d::l,hl=>
  simp only[VT,al',YU,and_true]at hl;obtain⟨rfl,rfl⟩:=hl;simp[cL]
theorem RL{x:aj}{deep:Int}{j:Nat}(hx:x.Ok)(hj:j<x.am.toNat+1){t:List Int}(ht:t∈eA x deep j):∃l,t.take 4=x.first::(x.first+(j:Int))::l:=by
 rw[Ao hx hj]at ht;obtain⟨u,hu,rfl⟩:=Te.1 ht;obtain⟨h,hm,hu⟩:=S6.1 hu;have hL:=aam hx hj hm;have lP:=zw (EJ hu);have h2:h.take 2=[x.first,x.first+(j:Int)]:=by
  unfold wJ at hm;split at hm
  ·exact Gv _ _ _ hm
  ·cases hm
 have e:(eF u).take 4=(cL h).take 4:=by
  unfold eF dE;rw[lP,SC,Tw (by rw[zd hL.hi];omega)]
 rw[e,aoS h2];exact⟨_,rfl⟩
theorem ake{x:aj}{deep:Int}{i j:Nat}(hx:x.Ok)(hi:i<x.am.toNat+1)(hj:j<x.am.toNat+1)(ko:i≠j){t u:List Int}(ht:t∈eA x deep i)(hu:u∈eA x deep j):sS t u=decide (i<j):=by
 obtain⟨l,h1⟩:=RL hx hi ht;obtain⟨m,h2⟩:=RL hx hj hu;have aF:t.take 4≠u.take 4:=by
  rw[h1,h2];simp only[ne_eq,YU,true_and,not_and];intro h;omega
 unfold sS;rw[if_neg aF,h1,h2];by_cases h:i<j
 ·have e1:mG (x.first+(i:Int)) (x.first+(j:Int))= -1:=by unfold mG;rw[if_pos (by omega)]
  have e0:mG x.first x.first=0:=by unfold mG;simp
  simp[oh,e0,e1,h]
 ·have e1:mG (x.first+(i:Int)) (x.first+(j:Int))=1:=by unfold mG;rw[if_neg (by omega),if_pos (by omega)]
  have e0:mG x.first x.first=0:=by unfold mG;simp
  simp[oh,e0,e1,h]
theorem abg{x:aj}{deep:Int}{js:List Nat}{D:Kn}(hx:x.Ok)(hJ:nY x deep js D)(hn:js.Nodup)(hj:∀j∈js,j<x.am.toNat+1)(hh:D.has=true):∃j∈js,∃t l,eA x deep j=t::l/\D.first=t/\∀i∈js,eA x deep i≠[]->j<=i:=by
 induction hJ with
 |nil=>cases hh
 |@snoc js Q j hs hJ hp ih=>
  have iW:js.Nodup:=(Vb.1 hn).1;have py:j∉js:=λh=>(Vb.1 hn).2.2 j h j (by simp) rfl;have ih':=ih iW (λi hi=>hj i (by simp[hi]));by_cases hG:eA x deep j=[]
  ·have hg:(gT x deep j).has=false:=(by rw[EO,hG];rfl);have hD:hO Q hs (gT x deep j)=Q:=(by unfold hO;rw[hg];rfl);rw[hD]at hh⊢;obtain⟨i,h1,t,l,h2,h3,h4⟩:=ih' hh;refine⟨i,by simp[h1],t,l,h2,h3,λk hk aF=> ?_⟩;rcases SQ.1 hk with hk|hk
   ·exact h4 k hk aF
   ·rw[S8]at hk;subst hk;exact absurd hG aF
  ·obtain⟨t,l,ht⟩:∃t l,eA x deep j=t::l:=by
    cases hg:eA x deep j with
    |nil=>exact absurd hg hG
    |cons t l=>exact⟨t,l,rfl⟩
   have hg:(gT x deep j).has=true:=(by rw[EO,ht];rfl);rw[amC hg,ata ht];by_cases hQ:Q.has=true
   ·obtain⟨i,h1,t',l',h2,h3,h4⟩:=ih' hQ;have hb:sS t Q.first=decide (j<i):=by
     rw[h3];exact ake hx (hj j (by simp)) (hj i (by simp[h1])) (λe=>py (e▸h1)) (by rw[ht];simp) (by rw[h2];simp)
    by_cases ko:j<i
    ·rw[if_pos (.inr (by rw[hb];simpa using ko))];refine⟨j,by simp,t,l,ht,rfl,λk hk aF=> ?_⟩;rcases SQ.1 hk with hk|hk
     ·have:=h4 k hk aF;omega
     ·rw[S8]at hk;omega
    ·rw[if_neg (by rw[hQ,hb];simpa using ko)];refine⟨i,by simp[h1],t',l',h2,h3,λk hk aF=> ?_⟩;rcases SQ.1 hk with hk|hk
     ·exact h4 k hk aF
     ·rw[S8]at hk;omega
   ·rw[if_pos (.inl (by simpa using hQ))];refine⟨j,by simp,t,l,ht,rfl,λk hk aF=> ?_⟩;rcases SQ.1 hk with hk|hk
    ·have hQf:Q.has=js.any λj=> !(eA x deep j).isEmpty:=abh hJ;exfalso;apply hQ;rw[hQf,Ur];refine⟨k,hk,?_⟩;cases hg:eA x deep k with
     |nil=>exact absurd hg aF
     |cons=>rfl
    ·rw[S8]at hk;omega
theorem aaf{α:Type}{f:Nat->List α}{j:Nat}{t:α}{l:List α}:∀{n:Nat},j<n->f j=t::l->(∀i,i<j->f i=[])->((SU n).flatMap f).head?=some t
 |0,h,_,_=>absurd h (by omega)
 |n+1,h,hf,h0=>by
  rw[Vp,VE,WU];by_cases hj:j<n
  ·rw[aaf hj hf h0];rfl
  ·have e:j=n:=(by omega);subst e;have:(SU j).flatMap f=[]:=by
    rw[Vv];intro i hi;exact h0 i (Tx.1 hi)
   rw[this];simp[hf]
theorem Lg{α β:Type}{f g:α->List β}:∀(l:List α),(∀a,(f a).head?=(g a).head?)->(l.flatMap f).head?=(l.flatMap g).head?
 |[],_=>rfl
 |a::l,h=>by
  rw[T5,T5,WU,WU,h a,Lg l h]
theorem adV{α:Type}(l:List α):(l.take 1).head?=l.head?:=by cases l<;>rfl
theorem afE{x:aj}{deep:Int}:(m_ x deep).head?=(bR x).head?:=by
 refine Lg _ λh=> ?_;have h1:(vK x h).head?=(lx x h).head?:=Lg _ λns=>adV _;unfold sx;split
 ·rw[adV,h1]
 ·split
  ·exact h1
  ·rfl
theorem amL{x:aj}{deep:Int}{D:Kn}(hx:x.Ok)(h:fM x deep D)(hh:D.has=true):∃u l,bR x=u::l/\D.first=eF u:=by
 obtain⟨p,js,h1,h2,h3,_⟩:=h;have nH:x.am.toNat=p:=by omega
 have hj:∀j∈js,j<x.am.toNat+1:=λj hj=>by rw[nH];exact Tx.1 (h2.mem_iff.1 hj)
 obtain⟨j,a,t,l,b,c,d⟩:=abg hx h3 (h2.nodup_iff.2 XZ) hj hh;have hd:((SU (p+1)).flatMap λj=>eA x deep j).head?=some t:=by
  refine aaf (Tx.1 (h2.mem_iff.1 a)) b λi hi=> ?_;cases hg:eA x deep i with
  |nil=>rfl
  |cons v w=>
   have:=d i (h2.mem_iff.2 (Tx.2 (by have:=hj j a;omega))) (by rw[hg];simp);omega
 have he:((SU (p+1)).flatMap λj=>eA x deep j)=(m_ x deep).map eF:=by
  unfold m_;rw[<- OT hx,nH,UO];exact s_ λi hi=>Ao hx (by rw[nH];exact Tx.1 hi)
 rw[he,List.head?_map,afE]at hd;cases ht:bR x with
 |nil=>rw[ht]at hd;cases hd
 |cons u l=>
  rw[ht]at hd;simp only[ZR,UT,Tm]at hd;exact⟨u,l,rfl,by rw[c,hd]⟩
namespace Tk
def live (x:aj):List (List Int):=(aK x).filter λh=> !(lx x h).isEmpty
def cnt (x:aj):Int:=(live x).length
theorem Hr{x:aj}{h:List Int}:h∈live x<->∃u∈bR x,u.bG=h:=by
 unfold live;rw[Uq];constructor
 ·rintro⟨h1,h2⟩
  cases ht:lx x h with
  |nil=>rw[ht]at h2;cases h2
  |cons u l=>
   have hu:u∈lx x h:=(by rw[ht];simp);exact⟨u,S6.2 ⟨h,h1,hu⟩,zw hu⟩
 ·rintro⟨u,hu,rfl⟩
  obtain⟨h,a,b⟩:=S6.1 hu;have e:=zw b;subst e;refine⟨a,?_⟩;cases ht:lx x u.bG with
  |nil=>rw[ht]at b;cases b
  |cons=>rfl
theorem Gx{x:aj}{h:List Int}(hm:h∈aK x):h.length=1+x.hours.toNat:=(AL _ _ _ (by simp) hm).1
theorem NI{h:List Int}{n:Nat}(hl:h.length=n):(cL h).take n=h:=by
 subst hl;unfold cL;rw[Tw (SO _),TD]
theorem anx(x:aj):((live x).map cL).Nodup:=by
 have h:(live x).Nodup:=(alg x).filter _;rw[Uv,XA];have h2:=Uv.1 h;refine Xy ?_ h2;intro a b ha hb aF e;have la:=Gx ((Uq.1 ha).1);have lb:=Gx ((Uq.1 hb).1);apply aF;rw[<- NI la,e,NI lb]
end Tk
theorem JU{x:aj}(hx:x.Ok){u:Tr}(hu:u∈bR x):(eF u).take 4=cL u.bG:=by
 have hl:=(xp hx hu).1;have hh:=hx.hours;unfold eF dE;rw[SC,Tw (by rw[zd (by omega)];omega),SS (by rw[zd (by omega)];omega)]
theorem abl{x:aj}{D:Kn}(hx:x.Ok)(h:fM x 0 D):D.aK.Perm ((live x).map cL):=by
 have hn:D.aK.Nodup:=by obtain⟨p,js,h1,h2,h3,_⟩:=h;exact amG h3
 refine(List.perm_ext_iff_of_nodup hn (anx x)).2 λg=> ?_;rw[amM hx h,Te];constructor
 ·rintro⟨u,hu,rfl⟩
  exact⟨u.bG,Hr.2 ⟨u,hu,rfl⟩,(JU hx hu).symm⟩
 ·rintro⟨h,hm,rfl⟩
  obtain⟨u,hu,rfl⟩:=Hr.1 hm;exact⟨u,hu,(JU hx hu).symm⟩
theorem yP{x:aj}{deep:Int}{D:Kn}(hx:x.Ok)(h:fM x deep D):D.has=false<->bR x=[]:=by
 rw[Hi hx h];cases bR x<;>simp
theorem Ni{x:aj}:live x=[]<->bR x=[]:=by
 constructor
 ·intro h;cases ht:bR x with
  |nil=>rfl
  |cons u l=>
   have:u.bG∈live x:=Hr.2 ⟨u,by rw[ht];simp,rfl⟩;rw[h]at this;cases this
 ·intro h;cases hl:live x with
  |nil=>rfl
  |cons a l=>
   obtain⟨u,hu,_⟩:=Hr.1 (show a∈live x by rw[hl];simp);rw[h]at hu;cases hu
theorem count_eq{x:aj}{D:Kn}(hx:x.Ok)(h:fM x 0 D):(if D.has then(D.aK.length:Int)else 0)=cnt x:=by
 cases hD:D.has with
 |true=>rw[if_pos rfl,(abl hx h).length_eq,S9];rfl
 |false=>
  have:=Ni.2 ((yP hx h).1 hD);simp[cnt,this]
theorem an4(a b:Int):min a b=a\/min a b=b:=by omega
theorem anX(a b:Int):max a b=a\/max a b=b:=by omega
theorem PY(v:List Int->Int):∀(hs:List (List Int))(b:ii),b.is=true->(hs.foldl (λb h=>b.add (v h)) b).is=true/\((hs.foldl (λb h=>b.add (v h)) b).lo=b.lo\/∃h∈hs,(hs.foldl (λb h=>b.add (v h)) b).lo=v h)/\(hs.foldl (λb h=>b.add (v h)) b).lo<=b.lo/\(∀h∈hs,(hs.foldl (λb h=>b.add (v h)) b).lo<=v h)/\((hs.foldl (λb h=>b.add (v h)) b).hi=b.hi\/∃h∈hs,(hs.foldl (λb h=>b.add (v h)) b).hi=v h)/\b.hi<=(hs.foldl (λb h=>b.add (v h)) b).hi/\∀h∈hs,v h<=(hs.foldl (λb h=>b.add (v h)) b).hi
 |[],b,hb=>⟨hb,.inl rfl,Wd _,by simp,.inl rfl,Wd _,by simp⟩
 |g::hs,b,hb=>by
  have dI:b.add (v g)=⟨min b.lo (v g),max b.hi (v g),true⟩:=by unfold ii.add;rw[if_pos hb]
  obtain⟨h1,h2,h3,h4,h5,h6,h7⟩:=PY v hs (b.add (v g)) (by rw[dI]);rw[U4];generalize hs.foldl (λb h=>b.add (v h)) (b.add (v g))=R at*;rw[dI]at h2 h3 h5 h6;dsimp only at h2 h3 h5 h6;have m1:min b.lo (v g)=b.lo\/min b.lo (v g)=v g:=an4 _ _;have m2:max b.hi (v g)=b.hi\/max b.hi (v g)=v g:=anX _ _;refine⟨h1,?_,XJ h3 (Int.min_le_left _ _),?_,?_,XJ (Int.le_max_left _ _) h6,?_⟩
  ·rcases h2 with h2|⟨h,a,c⟩
   ·rcases m1 with m1|m1
    ·exact .inl (h2.trans m1)
    ·exact .inr ⟨g,by simp,h2.trans m1⟩
   ·exact .inr ⟨h,by simp[a],c⟩
  ·intro h hm;rcases SK.1 hm with rfl|hm
   ·exact XJ h3 (Int.min_le_right _ _)
   ·exact h4 h hm
  ·rcases h5 with h2|⟨h,a,c⟩
   ·rcases m2 with m1|m1
    ·exact .inl (h2.trans m1)
    ·exact .inr ⟨g,by simp,h2.trans m1⟩
   ·exact .inr ⟨h,by simp[a],c⟩
  ·intro h hm;rcases SK.1 hm with rfl|hm
   ·exact XJ (Int.le_max_right _ _) h6
   ·exact h7 h hm
namespace Tk
structure Bounds (hs:List (List Int))(v:List Int->Int)(lo hi:Int):Prop where
 A_:∃h∈hs,lo=v h
 le:∀h∈hs,lo<=v h
 A9:∃h∈hs,hi=v h
 ge:∀h∈hs,v h<=hi
theorem Bounds.uniq{hs:List (List Int)}{v:List Int->Int}{a b c d:Int}(h:Bounds hs v a b)(k:Bounds hs v c d):a=c/\b=d:=by
 obtain⟨g1,m1,e1⟩:=h.A_;obtain⟨g2,m2,e2⟩:=h.A9;obtain⟨g3,m3,e3⟩:=k.A_;obtain⟨g4,m4,e4⟩:=k.A9;have:=h.le _ m3;have:=h.ge _ m4;have:=k.le _ m1;have:=k.ge _ m2;omega
theorem Bounds.aoB{hs gs:List (List Int)}{v:List Int->Int}{a b:Int}(h:Bounds hs v a b)(hp:hs.Perm gs):Bounds gs v a b:=by
 obtain⟨g1,m1,e1⟩:=h.A_;obtain⟨g2,m2,e2⟩:=h.A9;exact⟨⟨g1,hp.mem_iff.1 m1,e1⟩,λg hg=>h.le g (hp.mem_iff.2 hg),⟨g2,hp.mem_iff.1 m2,e2⟩,λg hg=>h.ge g (hp.mem_iff.2 hg)⟩
end Tk
theorem agU{hs:List (List Int)}(v:List Int->Int)(aF:hs≠[]):Bounds hs v (hs.foldl (λ(b:ii) h=>b.add (v h)) (⟨0,0,false⟩:ii)).lo (hs.foldl (λ(b:ii) h=>b.add (v h)) (⟨0,0,false⟩:ii)).hi:=by
 cases hs with
 |nil=>exact absurd rfl aF
 |cons g hs=>
  rw[U4,show ii.add ⟨0,0,false⟩ (v g)=⟨v g,v g,true⟩from rfl];obtain⟨_,h2,h3,h4,h5,h6,h7⟩:=PY v hs ⟨v g,v g,true⟩ rfl;generalize hs.foldl (λ(b:ii) h=>b.add (v h)) (⟨v g,v g,true⟩:ii)=R at*;dsimp only at h2 h3 h5 h6;refine⟨?_,?_,?_,?_⟩
  ·rcases h2 with h2|⟨h,a,c⟩
   ·exact⟨g,by simp,h2⟩
   ·exact⟨h,by simp[a],c⟩
  ·intro h hm;rcases SK.1 hm with rfl|hm
   ·exact h3
   ·exact h4 h hm
  ·rcases h5 with h2|⟨h,a,c⟩
   ·exact⟨g,by simp,h2⟩
   ·exact⟨h,by simp[a],c⟩
  ·intro h hm;rcases SK.1 hm with rfl|hm
   ·exact h6
   ·exact h7 h hm
open Go.Gg.Tk
theorem ahY{x:aj}(hx:x.Ok){u:Tr}(hu:u∈bR x){p:Nat}(hp:p<x.pieces.length):(eF u).getD (4+p) 0=u.aC.getD p 0-u.bG.headD 0:=by
 obtain⟨h1,h2⟩:=xp hx hu;have hh:=hx.hours;have h4:=zd (h:=u.bG) (by omega);have du:p<u.aC.length:=by omega
 have qn:=asM hu u.aC[p] (Wz du);have hg:(eF u)[4+p]?=some (((u.aC[p]-u.bG.headD 0).toNat:Nat):Int):=by
  unfold eF dE lq;rw[SC,Ta (by omega),h4,TU,SX (by simp;omega),SX (by simpa using du),To,To,SW du];rfl
 rw[SE,hg,SE,SW du];simp only[S0];omega
theorem acn{h ns:List Int}:∀{ss:List aB}{t os:List Nat},os∈mq h ns ss t->(∀p∈t,p<ns.length)->os.length=t.length+ss.length/\∀p∈os,p<ns.length
 |[],t,os,hm,ht=>by
  simp only[mq,S8]at hm;subst hm;exact⟨rfl,ht⟩
 |s::ss,t,os,hm,ht=>by
  simp only[mq,S6,Uq,Tx]at hm;obtain⟨p,⟨hp,_⟩,hm⟩:=hm;have:=acn hm λq hq=>by
   rcases SQ.1 hq with hq|hq
   ·exact ht q hq
   ·rw[S8.1 hq];exact hp
  refine⟨?_,this.2⟩;rw[this.1];simp;omega
theorem Ir{x:aj}(hx:x.Ok){u:Tr}(hu:u∈bR x):u.bW.length=x.aA.length/\∀p∈u.bW,p<x.pieces.length:=by
 have h2:=(xp hx hu).2;obtain⟨h,a,b⟩:=S6.1 hu;obtain⟨ns,c,d⟩:=S6.1 b;obtain⟨os,e,rfl⟩:=Te.1 d;have:=acn e (by simp);dsimp only at h2⊢;rw[<- h2];exact⟨by simpa using this.1,this.2⟩
theorem ah0{x:aj}(hx:x.Ok){u:Tr}(hu:u∈bR x){s:Nat}(hs:s<x.aA.length):sr (eF u) s=u.bW.getD s 0:=by
 obtain⟨h1,h2⟩:=xp hx hu;have h3:=(Ir hx hu).1;have hh:=hx.hours;have nF:=hx.ec;have h4:=zd (h:=u.bG) (by omega);have cw:s<u.bW.length:=by omega
 have hg:(eF u)[8+s]?=some ((u.bW[s]:Nat):Int):=by
  unfold eF dE lq;have h8:(cL u.bG++((u.aC.map λn=>(n-u.bG.headD 0).toNat).map (λn:Nat=>(n:Int))++TJ (4-(u.aC.map λn=>(n-u.bG.headD 0).toNat).length) (-1))).length=8:=by simp[h4];omega
  rw[Ta (by omega),h8,TU,SX (by simpa using cw),To,SW cw];rfl
 unfold sr;rw[SE,hg,SE,SW cw];rfl
namespace Tk
def zQ (x:aj)(f:Tr->Bool):Bool:=(bR x).any f
theorem Cp{x:aj}{f:Tr->Bool}:zQ x f=true<->∃u∈bR x,f u=true:=Ur
def xP (f:Nat->Bool)(more:Int)(i:Nat):List Int:=((SU i).filter f).map λn:Nat=>(n:Int)+more
def Eg (x:aj)(p n:Nat):Bool:=zQ x λu=>decide ((u.aC.getD p 0-u.bG.headD 0).toNat=n)
def oM (x:aj)(s q:Nat):Bool:=zQ x λu=>decide (u.bW.getD s 0=q)
def vA (x:aj)(s q:Nat):Bool:=zQ x λu=> !decide (u.bW.getD s 0=q)
theorem abz{s:Nat}{f:Nat->Bool}{more:Int}{i:Nat}(h:∀n,n<i->s.testBit n=f n):fG s more i=xP f more i:=by
 unfold fG xP;congr 1;exact US λn hn=>h n (Tx.1 hn)
end Tk
theorem aop{x:aj}{D:Kn}{p:Nat}(hx:x.Ok)(hD:fM x 1 D)(hp:p<x.pieces.length)(n:Nat):(D.aC.getD p 0).testBit n=Eg x p n:=by
 rw[U3,amN hx hD hp];unfold Eg;rw[Cp];simp only[decide_eq_true_eq]
theorem NJ{x:aj}{D:Kn}{s:Nat}(hx:x.Ok)(hD:fM x 2 D)(hs:s<x.aA.length)(n:Nat):(D.aU.getD s 0).testBit n=oM x s n:=by
 rw[U3,amO hx hD hs];unfold oM;rw[Cp];refine exists_congr λu=>and_congr_right λhu=> ?_;rw[ah0 hx hu hs,decide_eq_true_eq]
theorem aoW{x:aj}{D:Kn}{s q:Nat}(hx:x.Ok)(hD:fM x 2 D)(hs:s<x.aA.length)(hh:D.has=true):(D.aU.getD s 0!=2^q)=vA x s q:=by
 have hb:=NJ hx hD hs;rw[U3,bne_iff_ne];unfold vA;rw[Cp];constructor
 ·intro aF;obtain⟨u,hu⟩:∃u,u∈bR x:=by
   rw[Hi hx hD]at hh;cases ht:bR x with
   |nil=>rw[ht]at hh;cases hh
   |cons u l=>exact⟨u,by simp⟩
  by_cases hu1:u.bW.getD s 0=q
  ·refine Tn λfu=>aF ?_;apply Nat.eq_of_testBit_eq;intro n;rw[hb,VS,U3,decide_eq_true_eq];unfold oM;rw[Cp];constructor
   ·rintro⟨v,hv,e⟩
    rw[decide_eq_true_eq]at e;refine Tn λAW=>fu ⟨v,hv,?_⟩;rw[e];simp;exactλh=>AW h.symm
   ·rintro rfl
    exact⟨u,hu,by rw[decide_eq_true_eq];exact hu1⟩
  ·exact⟨u,hu,by simpa using hu1⟩
 ·rintro⟨u,hu,h⟩ he
  have hp:oM x s (u.bW.getD s 0)=true:=by
   unfold oM;rw[Cp];exact⟨u,hu,by simp⟩
  rw[<- hb,he,VS,decide_eq_true_eq]at hp;rw[hp]at h;simp at h
theorem aoU{x:aj}{D:Kn}{s q:Nat}(hx:x.Ok)(hD:fM x 2 D)(hs:s<x.aA.length):(if D.has then vM ((D.aU.getD s 0).testBit q) (D.aU.getD s 0!=2^q)else 0)=if(bR x).isEmpty then 0 else vM (oM x s q) (vA x s q):=by
 have hh:=Hi hx hD;cases KL:D.has with
 |true=>
  rw[KL]at hh;have:(bR x).isEmpty=false:=by simpa using hh.symm
  rw[this,if_pos rfl,NJ hx hD hs,aoW hx hD hs KL];rfl
 |false=>
  rw[KL]at hh;have:(bR x).isEmpty=true:=by simpa using hh.symm
  rw[this];rfl
theorem agB{x:aj}{deep:Int}{D:Kn}(hx:x.Ok)(hD:fM x deep D):eY D=if(bR x).isEmpty then 11 else 0:=by
 have hh:=Hi hx hD;unfold eY;rw[hh];cases (bR x).isEmpty<;>rfl
def Il (n:Nat):Nat->Nat->List (List Int)
 |0,_=>[[]]
 |k+1,first=>(T9 first (n-k-first)).flatMap λi=>(Il n k (i+1)).map ((i:Int)::·)
def Qb (n:Nat):List (List Int):=(SU (n+1)).flatMap λk=>Il n k 0
open Go.Conc Go.Proofs Go.Gg.Tk
theorem arY:∀n,n<=6->∀k,k<=6->∀first,first<=7->(Il n k first).length<=20/\∀r∈Il n k first,r.length=k:=by decide+kernel
theorem aep{l:List AV}{a b:AV}(h:Wk a b):sN (l++[a]) (l++[b]):=by
 induction l with
 |nil=>exact .cons h .nil
 |cons x l ih=>exact .cons (Wk.refl _) ih
theorem abI(n m k:Nat)(bs:List (List Int)):Lt n (.sl m (bs.map br) (.opn k))=(k<n):=by
 rw[anP,eq_iff_iff];refine⟨λh=>h.1,λh=>⟨h,λa ha=> ?_⟩⟩;have:=abK n bs;rw[zO,vt]at this;exact this.mpr trivial a ha
theorem O7:gU (Uu none 0 0) 1=[.sl 0 [] .exact]:=rfl
theorem aaH{H:List aa}(hH:bH H)(n sz:Nat)(el:TypeId):bH (H++[.tail n sz el]):=L6 hH λz hz m=>by rw[S8.1 hz];trivial
section
variable {lv:Bool}
end
namespace Tk
def iX (l:List Int):Nat:=if l.length=0 then 0 else(l.getD (l.length-1) 0).toNat+1
def nP (n:Nat)(l:List Int)(j:Nat):List (List Int):=(SU j).map λj:Nat=>l++[((iX l+j:Nat):Int)]
def nS (n:Nat):Nat->List (List Int)
 |0=>[[]]
 |i+1=>nS n i++nP n ((nS n i).getD i []) (n-iX ((nS n i).getD i []))
def vp (n:Nat):List (List Int):=nS n (2^n)
theorem amS(n:Nat)(l:List Int)(j:Nat):nP n l (j+1)=nP n l j++[l++[((iX l+j:Nat):Int)]]:=by
 unfold nP;rw[Vp,TG];rfl
theorem aoN:∀n,n<4->(∀i,i<2^n->i<(nS n i).length/\(∀l∈nS n i,l.length<=3/\∀y∈l,0<=y/\y<n))/\(∀i,i<2^n+1->(nS n i).length<=8)/\(nS n (2^n)).length=2^n:=by decide+kernel
end Tk
section
variable {lv:Bool}{H:List aa}{k kp:AV->List aa->Prop}
theorem ajk{ns:List Int}{e:End}(hn:ns.length<=2^20)(h0:ns=[]->k (.sl 0 [] .exact) H)(hk:k (.sl ns.length (ns.map iv) (.opn H.length)) (H++[.tail ns.length 1 3])):bf lv SA 94 H [.sl ns.length (ns.map iv) e] k kp:=by
 refine bI (rs:=[.tmp 2]) (nt:=8) Tryz.f94 λhH hA=> ?_;simp only[bt,SY];refine ak ?_;refine ak ?_;intro b hb;refine aD ?_;refine⟨λh=> ?_,λh=> ?_⟩
 ·
  refine ak ?_;refine bc ?_;have:ns=[]:=by
   cases ns with
   |nil=>rfl
   |cons x xs=>rw[hb (by simp)]at h;cases h
  exact jU (H':=H) (G:=[]) (Wk.refl _) (by simp) (SO _) hH (by simp[Nn]) (h0 this)
 ·
  refine aO ?_;refine ak ?_;refine⟨by omega,?_⟩;refine bc ?_;exact b9 hk
theorem ai8{n:Nat}(hn:n<=3)(hk:k (zO (vp n)) H):bf lv SA 70 H [iv n] k kp:=by
 refine bI (rs:=[.tmp 2]) (nt:=44) Tryz.f70 λhH hA=> ?_;simp only[bt,SY];obtain⟨kZ,iS,mK⟩:=aoN n (by omega);refine ak ?_;refine ai ?_;simp only[seval,O7,NH]
 (repeat apply im);refine v5 (t:=3) (sz:=1) (el:=22) (by simp only[seval]<;>rfl) ?_
 refine ak ?_;refine bY ?_;refine gF (2^n) (λi:Nat=>[(3,.sl (nS n i).length ((nS n i).map br) (.opn H.length)),(4,iv i)]) (λi=>H++[.tail (nS n i).length 1 22]) (λi=>True) (λ_ _=>rfl) (by simp only[seval];simp[bm,Wk.refl];exact OQ (l:=[.sl 0 [] .exact]) (l':=[br []]) rfl (sN.cons (jq _ _ _) .nil).at) rfl (λ_ _ _=>by simp) trivial (λbJ cm i cK _ R hR=> ?_);clear bJ cm;have bC:i<2^n->SD.wrap ((i:Int)+1)=((i+1:Nat):Int):=λh=>by
  have:2^n<=2^3:=Xr (by omega) hn;rw[bw _ (by omega)];rfl
 refine ak ?_;refine aD ?_;refine⟨λh=> ?_,λh=> ?_⟩
 ·have bB:i<2^n:=by
   rcases YL i (2^n)with h'|h'
   ·exact h'
   ·have:i=2^n:=(by omega);subst this;rw[mK]at h;omega
  obtain⟨g1,g2⟩:=kZ i bB;have g3:=iS i (by omega);have bC:=bC bB;obtain⟨l,hl⟩:=bZ g1;have aaV:nS n (i+1)=nS n i++nP n l (n-iX l):=by
   rw[nS,SE,hl];rfl
  obtain⟨LN,hly⟩:=g2 l (xa hl);generalize nS n i=o at aaV hl g1 g3 hR⊢;refine aO ?_;refine ai ?_;simp only[seval,adn hl,jR g1];refine ak ?_;refine ai ?_;simp only[seval,br];refine aD ?_;refine⟨λh=> ?p1,λh=> ?p2⟩
  case' p1=>
   have tE:0<l.length:=(by omega);obtain⟨y,hy⟩:=bZ (xs:=l) (i:=l.length-1) (by omega);have Ha:=hly y (xa hy);have pz:iX l=y.toNat+1:=(by unfold iX;rw[if_neg (by omega),SE,hy];rfl);have fY:SD.wrap ((l.length:Int)-1)=((l.length-1:Nat):Int):=(by rw[bw _ (by omega)];omega);have wY:SD.wrap (y+1)=((iX l:Nat):Int):=(by rw[bw _ (by omega),pz];omega);have oA:(0<=((l.length-1:Nat):Int)/\((l.length-1:Nat):Int)<l.length)=True:=(by simp;omega);refine ai ?_;simp only[seval,fY,ff hy,oA,wY];have hlz:iX l=iX l:=rfl
  case' p2=>
   have hlz:iX l=0:=(by unfold iX;rw[if_pos (by omega)]);refine aO ?_
  all_goals(
   refine ak ?_;refine bY ?_;refine gF (n-iX l) (λj:Nat=>[(3,.sl (o.length+j) ((o++nP n l j).map br) (.opn H.length)),(7,iv (((iX l:Nat):Int)+j))]) (λj=>H++[.tail (o.length+j) 1 22]) (λi=>True) (λ_ _=>rfl) (by first|(simp only[seval];simp[bm,Wk.refl];done)|(simp only[seval,nP,ZB];simp[bm,Wk.refl,hlz])) (by simp) (λ_ _ _=>by simp) trivial (λbJ cm j py _ R2 uE=> ?_);clear bJ cm;have hln:(n-iX l)<=3:=(by omega);refine ak ?_;refine aD ?_;refine⟨λh2=> ?_,λh2=> ?_⟩
   ·have e9:j<n-iX l:=(by omega);have dc:(o++nP n l (j+1)).map br=(o++nP n l j).map br++[br (l++[((iX l:Nat):Int)+j])]:=(by rw[amS,<- SC,TG];rfl);have GJ:((o++nP n l j).map br).length=o.length+j:=(by simp[nP]);have G6:SD.wrap (((iX l:Nat):Int)+j+1)=((iX l:Nat):Int)+((j+1:Nat):Int):=(by rw[bw _ (by omega)];omega);refine aO ?_;refine ak ?_;refine aJ ((ajk (ns:=l) (by omega) (λtE=> ?_) ?_))
    ·subst tE;try simp only[seval,z1,O7,NH,GJ]
     first|refine⟨by decide,by omega,?_⟩|refine⟨by omega,?_⟩
     refine ai ?_;simp only[seval,G6];refine uE _ ⟨e9,trivial,?_⟩;rw[dc];refine H7 [.tail 1 1 3] (pL rfl rfl) ?_ (aaH hH _ _ _) ?_ (by simp[U6])
     ·(try simp only[seval]);exact⟨⟨_,rfl,have h:=aep (l:=(o++nP n [] j).map br) (show Wk (.sl 1 [iv (((iX []:Nat):Int)+j)] (.opn (H.length+1))) (br ([]++[((iX []:Nat):Int)+j])) by exact jq _ _ _);OQ h.len h.at⟩,_,rfl,Wk.refl _⟩
     ·rw[<- dc];simp only[Xk,eC,abI,iv];simp
    ·(try simp only[seval,z1,O7,NH,GJ]);refine⟨by omega,by omega,?_⟩;refine ai ?_;simp only[seval,G6];refine uE _ ⟨e9,trivial,?_⟩;rw[dc];refine H7 [.tail (l.length+1) 1 3] (pL rfl rfl) ?_ (aaH hH _ _ _) ?_ (by simp[U6])
     ·(try simp only[seval]);exact⟨⟨_,rfl,have h:=aep (l:=(o++nP n l j).map br) (show Wk (.sl (l.length+1) (l.map iv++[iv (((iX l:Nat):Int)+j)]) (.opn (H.length+1))) (br (l++[((iX l:Nat):Int)+j])) by rw[br,TG,S5];exact jq _ _ _);OQ h.len h.at⟩,_,rfl,Wk.refl _⟩
     ·rw[<- dc];simp only[Xk,eC,abI,iv];simp
   ·have yA:j=n-iX l:=(by omega);subst yA;refine bU ?_;refine ai ?_;simp only[seval,bC];refine hR _ ⟨bB,trivial,?_⟩;rw[aaV];have Do:(o++nP n l (n-iX l)).length=o.length+(n-iX l):=(by simp[nP]);rw[Do];exact cT)
 ·have jC:i=2^n:=by
   rcases YL i (2^n)with h'|h'
   ·have:=(kZ i h').1;omega
   ·omega
  subst jC;refine bU ?_;refine ak ?_;refine bc ?_;exact jA (b:=zO (vp n)) hH (jq _ _ _) (by rw[abK];trivial) hk
end
open Go.Conc Go.Proofs Go.Gg.Tk
theorem FX{α:Type}{f:α->List AV}{s:Nat}(hf:∀a,(f a).length=s):∀(xs:List α)(n:Nat),(xs.flatMap f).take (n* s)=(xs.take n).flatMap f
 |[],n=>by simp
 |x::xs,0=>by simp
 |x::xs,n+1=>by
  rw[T5,VT,T5,List.take_append,SS (by rw[hf,XH];omega),hf,show (n+1)* s-s=n* s by rw[XH];omega,FX hf xs n]
theorem s9{α:Type}{f:α->List AV}{s:Nat}(hf:∀a,(f a).length=s):∀(xs:List α)(n:Nat),(xs.flatMap f).drop (n* s)=(xs.drop n).flatMap f
 |[],n=>by simp
 |x::xs,0=>by simp
 |x::xs,n+1=>by
  rw[T5,List.drop_succ_cons,VA,W2 (by rw[hf,XH];omega),hf,show (n+1)* s-s=n* s by rw[XH];omega,s9 hf xs n,UL]
namespace Tk
def nh (ss:List aB)(ns:List Int):List aB:=ns.foldr (λn l=>l.eraseIdx n.toNat) ss
def aj.wo (x:aj)(ns:List Int):aj:={x with aA:=nh x.aA ns}
def ug (ns:List Int)(m:Nat):Prop:=∀(i:Nat) n,ns[i]?=some n->0<=n/\n+(ns.length-i:Nat)<=m
theorem ug.tail{n:Int}{ns:List Int}{m:Nat}(h:ug (n::ns) m):ug ns m:=λi k hk=>by
 have:=h (i+1) k hk;simp only[Un]at this;exact⟨this.1,by omega⟩
theorem JL{ss:List aB}:∀{ns:List Int},ug ns ss.length->(nh ss ns).length+ns.length=ss.length
 |[],_=>rfl
 |n::ns,h=>by
  have h1:=JL h.tail;have h2:=h 0 n rfl;have e:nh ss (n::ns)=(nh ss ns).eraseIdx n.toNat:=rfl;simp only[Un]at h2⊢;rw[e,Ya (by omega)];omega
end Tk
section
variable {lv:Bool}{H:List aa}{k kp:AV->List aa->Prop}
theorem Q9{x:aj}{ns:List Int}{e:End}(aR:x.aA.length<=3)(gK:ug ns x.aA.length)(hk:k (x.wo ns).av H):bf lv SA 63 H [x.av,.sl ns.length (ns.map iv) e] k kp:=by
 have LX:ns.length<=3:=by have:=JL gK;omega
 refine bI (rs:=[.cell 4 76]) (nt:=32) Tryz.f63 λhH hA=> ?_;simp only[bt,SY,aj.av];obtain⟨st,lM⟩:∃st:Nat->List aB,∀j,st j=nh x.aA (ns.drop (ns.length-j)):=⟨_,λ_=>rfl⟩;have lg:st 0=x.aA:=by rw[lM,Z1,List.drop_length];rfl
 have amh:st ns.length=nh x.aA ns:=by rw[lM,Vd,XD]
 obtain⟨xl,dw⟩:∃xl:List aB->List AV,∀ss,xl ss=[iv x.first,iv x.hours,iv x.am,cY x.seen,aL x.pieces,aL ss]:=⟨_,λ_=>rfl⟩;have pI:x.l=xl x.aA:=by rw[dw];rfl
 have mI:∀ss,(xl ss).drop 5=[.sl ss.length (ss.flatMap aB.l) .shut]:=λss=>by rw[dw];rfl
 have aX:∀(L:List aa),(H++L)[H.length]?=L[0]?:=λL=>aY H L 0;have cu:∀(L:List aa)(y:aa),(H++L).set H.length y=H++L.set 0 y:=λL y=>dJ H L 0 y;have cQ:∀(L:List aa),(H++L)[H.length+1]?=L[1]?:=λL=>aY H L 1;have dL:∀(L:List aa)(y:aa),(H++L).set (H.length+1) y=H++L.set 1 y:=λL y=>dJ H L 1 y;rw[pI];refine ak ?_;have rY:SD.wrap ((ns.length:Int)-1)=(ns.length:Int)-1:=bw _ (by omega);refine ak ?_;refine bY ?_;refine gF ns.length (λj:Nat=>[(5,iv ((ns.length:Int)-1-j))]) (λj=>H++[.cells (xl (st j)) 26,.cells qP 76]) (λi=>True) (λ_ _=>rfl) (by simp only[seval,rY];simp[bm,Wk.refl]) (by rw[lg];rfl) (λ_ _ _=>by simp) trivial (λbJ cm j py _ R hR=> ?_);clear cm;refine ak ?_;refine aD ?_;refine⟨λh=> ?_,λh=> ?_⟩
 ·have e9:j<ns.length:=by omega
  obtain⟨i,hi⟩:∃i:Nat,i=ns.length-1-j:=⟨_,rfl⟩;have hii:(ns.length:Int)-1-j=i:=by omega
  obtain⟨n,hn⟩:=bZ (xs:=ns) (i:=i) (by omega);obtain⟨oH,tH⟩:=gK i n hn;obtain⟨n,rfl⟩:∃m:Nat,n=m:=⟨n.toNat,by omega⟩;have dc:st (j+1)=(st j).eraseIdx n:=by
   rw[lM,lM,show ns.length-(j+1)=i by omega,show ns.length-j=i+1 by omega];obtain⟨hlt,rfl'⟩:=SL.1 hn;rw[TL hlt,rfl'];rfl
  have cw:(st j).length+j=x.aA.length:=by
   have hd:ug (ns.drop (ns.length-j)) x.aA.length:=λq m hq=>by
    rw[Up]at hq;have:=gK _ _ hq;rw[Uk];exact⟨this.1,by omega⟩
   have:=JL hd;rw[<- lM,Uk]at this;omega
  have jG:n<(st j).length:=by omega
  generalize st j=ss at dc cw jG hR⊢;rw[hii];refine aO ?_;refine ai ?_;simp only[seval,ff hn,jR (show i<ns.length by omega)];have bC:SD.wrap ((n:Int)+1)=((n+1:Nat):Int):=by rw[bw _ (by omega)];rfl
  have l_:∀l:List aB,(l.flatMap aB.l).length=l.length* 4:=λl=>by
   induction l with
   |nil=>rfl
   |cons a l ih=>rw[T5,S5,ih,aB.len,Un];omega
  have lO:((n:Int)+1).toNat=n+1:=by omega
  have L2:((n:Int)+1==0)=false:=by simp;omega
  have kZ:(ss.take n).length=n:=by rw[TV];omega
  have iS:(ss.drop (n+1)).length=ss.length-(n+1):=Uk;have hD1:∀l:List aB,(ss.length-(n+1))=l.length->l.take (ss.length-(n+1))=l:=λl h=>by rw[h,TD]
  have hD2:(ss.drop (n+1)).take (ss.length-(n+1))=ss.drop (n+1):=hD1 _ iS.symm;refine ek 10 ?_;simp only[seval,aX,mI,bC,l_,lO,FX aB.len,s9 aB.len,kZ,iS,beq_self_eq_true,ad_,YJ,L2,hD2,TD];refine⟨by omega,by omega,by omega,by omega,by omega,by rw[dw];simp,?_⟩;have Dg:(ss.eraseIdx n).length=n+(ss.length-(n+1)):=by rw[Ya jG];omega
  have Dh:(ss.eraseIdx n).flatMap aB.l=(ss.take n).flatMap aB.l++(ss.drop (n+1)).flatMap aB.l:=by rw[Wh,VE]
  rw[<- Dh,<- Dg];have pn:∀y y',((xl ss).take 5++[y]++(xl ss).drop 6).set 5 y'=((xl ss).take 5++[y']++(xl ss).drop 6):=λy y'=>by rw[dw];rfl
  have hcg:∀y,((xl ss).take 5++[y]++(xl ss).drop 6)[5]?=some y:=λy=>by rw[dw];rfl
  have hce:(xl ss).take 5++[aL (ss.eraseIdx n)]++(xl ss).drop 6=xl (ss.eraseIdx n):=by rw[dw,dw];rfl
  (repeat apply im);refine agn (id:=H.length) (j:=5) (y:=aL (ss.eraseIdx n)) (by simp only[seval,aX]<;>rfl) (hcg _) (jq _ _ _) ?_
  simp only[seval,cu,pn,hce];have fY:SD.wrap ((i:Int)-1)=(ns.length:Int)-1-((j+1:Nat):Int):=by rw[bw _ (by omega)];omega
  refine ai ?_;simp only[seval,fY];refine hR _ ⟨e9,trivial,?_⟩;rw[dc];have tI:bH (H++[.cells (xl (ss.eraseIdx n)) 26,.cells qP 76]):=L6 hH λz hz m=>by
   simp only[SK,SZ,or_false]at hz;rcases hz with rfl|rfl
   ·rw[dw];exact abJ m {x with aA:=ss.eraseIdx n}
   ·intro a ha;simp only[qP,SK,SZ,or_false]at ha;rcases ha with rfl|rfl|rfl|rfl|rfl|rfl<;>simp[eC,Nn]
  rw[<- hii];exact H7 [.tail (ss.eraseIdx n).length 4 48] (pL rfl rfl) (by simp only[seval];simp[bm,Wk.refl]) tI (by simp[eC]) (by rw[SC];rfl)
 ·have yA:j=ns.length:=by omega
  subst yA;refine bU ?_;have G_:(xl (st ns.length))=(x.wo ns).l:=by rw[dw,amh];rfl
  rw[G_];have rY:(x.wo ns).l.length=6:=rfl;have u9:TS 6 (x.wo ns).l=(x.wo ns).l:=rfl;have jY:qP.length=6:=rfl;have MF:TH 6 qP=[]:=rfl;refine ai ?_;simp only[seval,aX,dL,cQ,rY,u9,jY,MF];refine⟨vE _,?_⟩;refine oe ?_;simp only[seval,cQ];rw[u9];exact jA (b:=(x.wo ns).av) hH (Wk.refl _) (by rw[Hx];trivial) hk
end
open Go.Conc Go.Proofs Go.Gg.Tk
namespace Tk
def Pu (ns:List Int)(m:Nat):Bool:=(SU ns.length).all λi=>decide (0<=ns.getD i 0/\ns.getD i 0+(ns.length-i:Nat)<=m)
theorem af5{ns:List Int}{m:Nat}(h:Pu ns m=true):ug ns m:=λi n hn=>by
 have hi:=(SL.1 hn).1;have:=Tv.1 h i (Tx.2 hi);rw[decide_eq_true_eq,SE,hn]at this;exact this
theorem abB:∀n,n<4->(vp n).length=2^n/\∀l∈vp n,Pu l n=true:=by decide+kernel
theorem anv{n:Nat}(hn:n<4){l:List Int}(hl:l∈vp n):ug l n:=af5 ((abB n hn).2 l hl)
theorem QF{ss:List aB}:∀{ns:List Int}{y:aB},y∈nh ss ns->y∈ss
 |[],y,h=>h
 |n::ns,y,h=>QF (ns:=ns) (List.mem_of_mem_eraseIdx h)
theorem QE{ss:List aB}:∀{ns:List Int},(nh ss ns).length<=ss.length
 |[]=>SO _
 |n::ns=>by
  have h1:=QE (ss:=ss) (ns:=ns);have h2:=List.length_eraseIdx_le (nh ss ns) n.toNat;exact UH h2 h1
theorem aj.Ok.wo{x:aj}(h:x.Ok)(ns:List Int):(x.wo ns).Ok:=⟨h.first,h.hours,h.am,h.ua,h.ec,UH QE h.de,h.seen,λy hy=>⟨(h.piece y hy).1,(h.piece y hy).2⟩,λy hy=>have k:=h.stub y (QF hy);⟨k.1,k.2⟩⟩
def Ai (x:aj):Option (List Int):=(vp x.aA.length).find? λl=>rk (x.wo l)
theorem Rg{α:Type}{p:α->Bool}:∀{l:List α}{i:Nat}{a:α},l[i]?=some a->p a=true->(∀j b,j<i->l[j]?=some b->p b=false)->l.find? p=some a
 |b::l,0,a,h,hp,_=>by cases h;rw[List.find?_cons_of_pos hp]
 |b::l,i+1,a,h,hp,h0=>by
  rw[List.find?_cons_of_neg (by rw[h0 0 b (by omega) rfl];simp)];exact Rg (i:=i) h hp λj c hj hc=>h0 (j+1) c (by omega) hc
theorem ajC{α:Type}{p:α->Bool}{l:List α}(h:∀(j:Nat) b,l[j]?=some b->p b=false):l.find? p=none:=by
 rw[List.find?_eq_none];intro a ha;obtain⟨j,hj⟩:=U5 ha;rw[h j a hj];simp
end Tk
section
variable {lv:Bool}{H:List aa}{k kp:AV->List aa->Prop}
theorem Q4{x:aj}(hx:x.Ok)(iG:∀l,Ai x=some l->k (.aN [br l,iv 0]) H)(cH:Ai x=none->k (.aN [br [],iv 11]) H):bf lv SA 32 H [x.av] k kp:=by
 refine bI (rs:=[.tmp 2,.tmp 3]) (nt:=27) Tryz.f32 λhH hA=> ?_;simp only[bt,SY,aj.av];have aR:=hx.de;have bP:x.l=[iv x.first,iv x.hours,iv x.am,cY x.seen,aL x.pieces,aL x.aA]:=rfl;have mI:TH 5 x.l=[.sl x.aA.length (x.aA.flatMap aB.l) .shut]:=rfl;have aX:∀(L:List aa),(H++L)[H.length]?=L[0]?:=λL=>aY H L 0;have dw:x.l.length=6:=rfl;have fx:TS 6 x.l=x.l:=rfl;refine ak ?_;refine ai ?_;simp only[seval,aX,dw,fx];refine aJ ((J_ (x:=x) hx ?_));(try simp only[seval]);refine ai ?_;simp only[seval,show ((0:Int)!=0)=false from rfl];refine aD ?_;refine aO ?_;refine ai ?_;simp only[seval,aX,mI];refine aJ ((ai8 (n:=x.aA.length) aR ?_));have iu:=(abB x.aA.length (by omega)).1;have e_:=λl hl=>anv (n:=x.aA.length) (by omega) (l:=l) hl;have wH:Ai x=(vp x.aA.length).find? λl=>rk (x.wo l):=rfl;generalize vp x.aA.length=ls at iu e_ wH⊢;have hp8:2^x.aA.length<=2^3:=Xr (by omega) aR;(try simp only[seval,zO]);refine bY ?_;refine gF ls.length (λi:Nat=>[(17,iv i)]) (λi=>H++[.cells x.l 26]) (λi=>∀j b,j<i->ls[j]?=some b->rk (x.wo b)=false) (λ_ _=>rfl) (by simp only[seval];simp[bm,Wk.refl]) rfl (λ_ _ _=>by simp) (λj b hj=>by omega) (λbJ cm i cK aq R hR=> ?_);clear bJ cm;refine ak ?_;refine aD ?_;refine⟨λh=> ?_,λh=> ?_⟩
 ·have bB:i<ls.length:=by omega
  obtain⟨l,hl⟩:=bZ bB;have gJ:=e_ l (xa hl);have fS:SD.wrap ((i:Int)+1)=((i+1:Nat):Int):=by rw[bw _ (by omega)];rfl
  refine aO ?_;refine ai ?_;simp only[seval,adn hl,jR bB];refine ai ?_;simp only[seval,aX,dw,fx];refine aJ ((Q9 (x:=x) (ns:=l) aR gJ ?_));(try simp only[seval]);refine aJ ((ai9 (x:=x.wo l) (hx.wo l) ?_));(try simp only[seval]);refine aD ?_;refine⟨λhc=> ?_,λhc=> ?_⟩
  ·refine ak ?_;refine bc ?_;exact jA (b:=.aN [br l,iv 0]) hH (Iz (Wk.refl _) (Wk.refl _)) (by simp[jK,eC,yV]) (iG l (by rw[wH];exact Rg hl hc aq))
  ·refine aO ?_;refine ai ?_;simp only[seval,fS];refine hR _ ⟨bB,λj b hj hb=> ?_,cT⟩;rcases YL j i with h'|h'
   ·exact aq j b h' hb
   ·have:j=i:=(by omega);subst this;rw[hl]at hb;cases hb;simpa using hc
 ·have jC:i=ls.length:=by omega
  subst jC;refine bU ?_;refine ak ?_;refine bc ?_;exact jA (b:=.aN [br [],iv 11]) hH (Iz (jq _ _ _) (Wk.refl _)) (by simp[jK,eC,yV]) (cH (by rw[wH];exact ajC λj b hb=>aq j b (eN hb) hb))
end
open Go.Conc
def behind (j:Nat)(o:Tu):Tu:={o with after:=o.after.push {on:=j,ground:=.data}}
def oc (ops:Array Tu)(i j:Nat):Array Tu:=ops.modify i (behind j)
theorem afy(ops:Array Tu)(i j:Nat):(oc ops i j).size=ops.size:=by simp[oc]
theorem rf(ops:Array Tu)(i j k:Nat):(oc ops i j)[k]?=if i=k then(ops[k]?).map (behind j)else ops[k]?:=by
 unfold oc;rw[Wo]
theorem agD(j:Nat)(o:Tu):cS (behind j o)=cS o++[j]:=by
 unfold cS behind;simp only[Array.toList_push,List.filterMap_append];rfl
theorem acZ{ops:Array Tu}{i j:Nat}{X l:List Nat}(h:lZ ops X l):j∈X->lZ (oc ops i j) X l:=by
 induction h with
 |nil X h=>exactλ_=> .nil X λk hk=>h k (by rwa [afy]at hk)
 |cons o ho hn hd lK ih=>
  rename_i X k l;intro hj;by_cases e:i=k
  ·exact .cons (behind j o) (by rw[rf,if_pos e,ho];rfl) hn (λq hq=>by
    rw[agD]at hq;rcases SQ.1 hq with hq|hq
    ·exact hd q hq
    ·rw[S8.1 hq];exact hj) (ih (Td _ hj))
  ·exact .cons o (by rw[rf,if_neg e];exact ho) hn hd (ih (Td _ hj))
theorem aqQ{ops:Array Tu}{i j:Nat}(ko:i≠j)(hi:i<ops.size){X l:List Nat}(h:lZ ops X l):i∉X->j∉X->lZ (oc ops i j) X l\/lZ (oc ops j i) X l:=by
 induction h with
 |nil X h=>exactλh1 _=>absurd (h i hi) h1
 |cons o ho hn hd lK ih=>
  rename_i X k l;intro h1 h2;by_cases e:k=i
  ·subst e;exact .inr (.cons o (by rw[rf,if_neg (Ne.symm ko)];exact ho) hn hd (acZ lK TC))
  ·by_cases e2:k=j
   ·subst e2;exact .inl (.cons o (by rw[rf,if_neg ko];exact ho) hn hd (acZ lK TC))
   ·rcases ih (λhm=>(SK.1 hm).elim (λx=>e x.symm) h1) (λhm=>(SK.1 hm).elim (λx=>e2 x.symm) h2)with q|q
    ·exact .inl (.cons o (by rw[rf,if_neg (Ne.symm e)];exact ho) hn hd q)
    ·exact .inr (.cons o (by rw[rf,if_neg (Ne.symm e2)];exact ho) hn hd q)
section
variable {lv:Bool}{P:SI}{r:Option Nat}{ops:Array Tu}{nt:Nat}
theorem afz(i j:Nat)(tmps:Array SP):yielded (oc ops i j) tmps=yielded ops tmps:=by
 funext k;unfold yielded;rw[rf];by_cases e:i=k
 ·rw[if_pos e];cases ops[k]?<;>rfl
 ·rw[if_neg e]
theorem Po(i j:Nat)(Q:Ex->Act->View->Prop):∀l:List Nat,dp lv P r (oc ops i j) Q l=dp lv P r ops Q l
 |[]=>rfl
 |k::l=>by
  funext a V;have ih:=Po i j Q l;simp only[dp];rw[rf,afz,ih];by_cases e:i=k
  ·rw[if_pos e];cases ho:ops[k]?with
   |none=>rfl
   |some o=>rfl
  ·rw[if_neg e]
theorem I6(i j:Nat)(Hf:List Nat->List aa)(K:AS->Prop)(t:B4 K):∀(pl:List qY)(s:AS),f_ lv P Hf (oc ops i j) pl s K t=f_ lv P Hf ops pl s K t
 |[],_=>rfl
 |⟨k,false,_,l⟩::rest,s=>by
  have ih:=I6 i j Hf K t rest;simp only[f_,rf];have e:∀o,ao (some o) (λo=>AQ lv P s o λav=>BQ lv P Hf s.T o av l/\f_ lv P Hf (oc ops i j) rest (s.put o.dst av) K t)=ao (some o) (λo=>AQ lv P s o λav=>BQ lv P Hf s.T o av l/\f_ lv P Hf ops rest (s.put o.dst av) K t):=λo=>by
   simp only[ao,ih]
  have bq:∀(o:Tu) av,BQ lv P Hf s.T (behind j o) av l=BQ lv P Hf s.T o av l:=λo av=>by
   induction l with
   |nil=>rfl
   |cons p l lm=>exact congrArg (λx=>_/\x) (lm λo=>by simp only[ao,ih])
  split
  ·cases ops[k]?with
   |none=>rfl
   |some o=>
    simp only[UT,ao,ih,bq];rfl
  ·cases ops[k]?with
   |none=>rfl
   |some o=>exact e o
 |⟨k,true,D,l⟩::rest,s=>by
  have ih:=I6 i j Hf K t rest;simp only[f_,rf];have be:∀(o:Tu) av,BE lv P Hf s.T (behind j o) av l=BE lv P Hf s.T o av l:=λo av=>by
   induction l with
   |nil=>rfl
   |cons p l lm=>exact congrArg (λx=>_/\x) lm
  split
  ·cases ops[k]?with
   |none=>rfl
   |some o=>
    simp only[UT,ao,ih,be];rfl
  ·cases ops[k]?with
   |none=>rfl
   |some o=>simp only[ao,ih]
theorem ahK{es ord:List Nat}(aq:rn nt ops es ord=true)(t:Nat):lZ ops [] (UK .any ops ops.size t (TN ops.size false) []):=by
 have aq:=rn.out aq;obtain⟨wN,_,hlt⟩:=EF aq.top;have ready:∀(ord X:List Nat),ky ops X ord=true->∀A i B,ord=A++i::B->∃o,ops[i]?=some o/\∀j∈cS o,j∈A\/j∈X:=by
  intro ord;induction ord with
  |nil=>intro X _ A i B e;cases A<;>cases e
  |cons x l ih=>
   intro X nK A i B e;simp only[ky,Tl,T1,Us,decide_eq_false_iff_not]at nK;obtain⟨⟨h1,h2⟩,h3⟩:=nK;cases A with
   |nil=>
    have e1:x=i:=(by have:=congrArg List.head? e;simpa using this);rw[e1]at h2;cases ho:ops[i]?with
    |none=>rw[ho]at h2;cases h2
    |some o=>
     rw[ho]at h2;exact⟨o,rfl,λj hj=> .inr (by have:=Tv.1 h2 j hj;simpa using this)⟩
   |cons y A=>
    cases e;obtain⟨o,ho,hb⟩:=ih (x::X) h3 A i B rfl;refine⟨o,ho,λj hj=> ?_⟩;rcases hb j hj with h|h
    ·exact .inl (Td _ h)
    ·rcases SK.1 h with rfl|h
     ·exact .inl (TC ..)
     ·exact .inr h
 exact Ng (ops:=ops) (λi o ho j hj=>by
   obtain⟨A,B,e⟩:=List.append_of_mem (aq.full i (SR.1 ho).1);obtain⟨o',ba,hb⟩:=ready ord [] aq.top A i B e;rw[ho]at ba;cases ba;rcases hb j hj with h|h
   ·exact hlt j (by rw[e];exact Th _ h)
   ·cases h)
  (λX ⟨i,hi,hn⟩=>by
   obtain⟨A,i',B,e,h1,h2⟩:=Kk (X:=X) ⟨i,aq.full i hi,hn⟩;obtain⟨o',ba,hb⟩:=ready ord [] aq.top A i' B e;refine⟨i',o',ba,h1,λj hj=> ?_⟩;rcases hb j hj with h|h
   ·exact h2 j h
   ·cases h)
  ops.size t (TN ops.size false) [] ⟨by simp,λi hi=>by simp[hi]⟩ (UH Y6 (by simp))
end
inductive qQ (ops:Array Tu):Array Tu->Prop
 |base:qQ ops ops
 |add {o:Array Tu} (h:qQ ops o) (i j:Nat):qQ ops (oc o i j)
section
variable {lv:Bool}{P:SI}{r:Option Nat}{ops o:Array Tu}{nt:Nat}{s:AS}{Φ:an->AS->Prop}
theorem qQ.wp(h:qQ ops o)(Q:Ex->Act->View->Prop)(l:List Nat):dp lv P r o Q l=dp lv P r ops Q l:=by
 induction h with
 |base=>rfl
 |add _ i j ih=>rw[Po,ih]
theorem qQ.P2(h:qQ ops o)(Hf:List Nat->List aa)(K:AS->Prop)(t:B4 K)(pl:List qY)(s:AS):f_ lv P Hf o pl s K t=f_ lv P Hf ops pl s K t:=by
 induction h with
 |base=>rfl
 |add _ i j ih=>rw[I6,ih]
def DG (lv:Bool)(P:SI)(r:Option Nat)(nt:Nat)(ops o:Array Tu)(s:AS)(Φ:an->AS->Prop):Prop:=
 ∀l E V a Q,lZ o [] l->At E V s a nt->(∀ae e E' V' a' s',Kept E E' V V' a a'->At E' V' s' a' nt->pV E' ae e->Φ ae s'->Q e a' V')->dp lv P r ops Q l a V
theorem rl(i j:Nat)(ko:(i !=j&&decide (i<o.size))=true)(h1:DG lv P r nt ops (oc o i j) s Φ)(h2:DG lv P r nt ops (oc o j i) s Φ):DG lv P r nt ops o s Φ:=λl E V a Q hs ah hQ=>by
 rw[Tl,bne_iff_ne,decide_eq_true_eq]at ko;rcases aqQ ko.1 ko.2 hs (by simp) (by simp)with hs|hs
 ·exact h1 l E V a Q hs ah hQ
 ·exact h2 l E V a Q hs ah hQ
theorem agd{id:Nat}(es ord:List Nat)(hm:P.follows .mixedOrders=true)(aq:rn nt ops es ord=true)(h:DG lv P r nt ops ops s Φ):aP lv P r nt (.region id ops true) s Φ:=by
 intro E V a Q ah hQ;refine OV λt=> ?_;rw[show VO (P.follows .mixedOrders) ops t=UK .any ops ops.size t (TN ops.size false) [] by unfold VO;rw[hm];simp[Zc]];exact h _ E V a Q (ahK aq t) ah hQ
end
def HA (lv:Bool)(P:SI)(o:Tu)(s:AS)(next:AS->Prop):Prop:=match o.op with
 |.call c=>match c.callee with
  |.value x=>ao (s.ev x) λsU=>ao (eZ s c.args.toList) λaE=>BW lv P sU s.H aE (λb H'=>next ((⟨s.T,H'⟩:AS).put o.dst b)) (λ_ _=>False) ⟨0⟩
  |_=>False
 |_=>False
def abP (ops:Array Tu)(A B:List Nat)(m:Nat):Bool:=
 let cl:=gH ops (A++m::B) []
 A.all (λi=>(nk cl m).contains i)&&B.all λi=>(nk cl i).contains m
theorem qQ.get{ops o:Array Tu}(h:qQ ops o){m:Nat}{om:Tu}(hm:ops[m]?=some om):∃pO,o[m]?=some pO/\pO.op=om.op/\pO.dst=om.dst:=by
 induction h with
 |base=>exact⟨om,hm,rfl,rfl⟩
 |add _ i j ih=>
  obtain⟨q,h1,h2,h3⟩:=ih;rw[rf];split
  ·exact⟨behind j q,by rw[h1];rfl,h2,h3⟩
  ·exact⟨q,h1,h2,h3⟩
section
variable {lv:Bool}{P:SI}{r:Option Nat}{ops o:Array Tu}{Hf:List Nat->List aa}{T0:List (Nat×AV)}{es ord:List Nat}{nt:Nat}{s:AS}{Φ:an->AS->Prop}
theorem QC{f:Nat->AV}(aq:zF nt ops ord)(G:List Nat)(ay:∀i∈G,∀o,ops[i]?=some o->∀X',kP ops X'->i∉X'->(∀j∈cS o,j∈X')->OB lv P r ops Hf T0 es f i o X'){X l:List Nat}(hs:lZ ops X l):
  (∀i∈X,i<ops.size)->kP ops X->∀(E:Env)(V:View)(a:Act)(Q:Ex->Act->View->Prop),At E V ⟨TX ops T0 f X,Hf (done es X)⟩ a nt->
   (∀E' V' a' X' l',Kept E E' V V' a a'->At E' V' ⟨TX ops T0 f X',Hf (done es X')⟩ a' nt->(∀i∈X',i<ops.size)->kP ops X'->(∀i∈X',i∈X\/i∈G)->(∀i∈X,i∈X')->lZ ops X' l'->(∀i yS,l'=i::yS->i∉G)->dp lv P r ops Q l' a' V')->dp lv P r ops Q l a V:=by
 induction hs with
 |nil X h=>
  intro hX hc E V a Q ah hQ;exact hQ E V a X [] (Kept.refl E V a) ah hX hc (λi hi=> .inl hi) (λi hi=>hi) (.nil X h) (λi yS e=>by cases e)
 |cons o ho hn hd lK ih=>
  rename_i X i l;intro hX hc E V a Q ah hQ;by_cases hG:i∈G
  ·have hi:i<ops.size:=(SR.1 ho).1;simp only[dp,ho];have oz:∀k∈i::X,k<ops.size:=λk hk=>(SK.1 hk).elim (λe=>by rw[e];exact hi) (hX k);have bi:=hc.cons ho hd;have hw:Ti o (yielded ops a.tmps)=true:=(by unfold Ti;rw[aq.CS i o ho]);rw[if_pos hw];refine .inl ?_;have dt:∀d,o.dst=some d->d<a.tmps.size:=λd e=>(by rw[ah.size];exact aq.dst i o d ho e);have lJ:=ay i hG o ho X hc hn hd;have lN:∀{mE:List Nat},(∀j∈mE,j∈i::X\/j∈G)->∀j∈mE,j∈X\/j∈G:=λh j hj=>by
    rcases h j hj with h|h
    ·rcases SK.1 h with rfl|h
     ·exact .inr hG
     ·exact .inl h
    ·exact .inr h
   unfold OB at lJ;by_cases dD:i∈es
   ·rw[if_pos dD]at lJ;have aR:=lJ.step (r:=r) (bad:=λ_ _=>False);refine aR E V a _ Q ah.bu ah.tok dt (.inr (aq.we i o ho)) (λE' V' a' s' hk cO ht e=> ?_) λ_ _ _ _ _ _ _ _ _ h=>h.elim;subst e;rw[xH ho rfl]at ht cO;exact ih oz bi E' V' a' Q ⟨cO,ht,hk.size.trans ah.size⟩ λbS aS cj mE yS aI dj w1 w2 w3 w4=>hQ bS aS cj mE yS (hk.trans aI) dj w1 w2 (lN w3) (λj hj=>w4 j (Td _ hj))
   ·rw[if_neg dD]at lJ;obtain⟨T,hT,hq⟩:=lJ;refine hq E V a _ Q ah.bu (λt av e=>ah.tok t av (hT t av e)) (.inr (aq.we i o ho)) λE' V' v hle ce eT cO hv=> ?_;have ht:cg E' ((⟨TX ops T0 f X,Hf (done es X)⟩:AS).put o.dst (f i)).T (a.put o.dst v).tmps:=cg.h_ (s:=⟨TX ops T0 f X,Hf (done es X)⟩) (ah.tok.mono hle) dt hv;rw[xH ho rfl]at ht;refine ih oz bi E' V' (a.put o.dst v) Q ⟨by rw[JI dD];exact cO,ht,(dX _ _ _).trans ah.size⟩ λbS aS cj mE yS hk dj w1 w2 w3 w4=>
     hQ bS aS cj mE yS ⟨hle.trans hk.le,hk.size.trans (dX _ _ _),hk.defers.trans (put_defers _ _ _),hk.role.trans ce,hk.deaf.trans eT⟩ dj w1 w2 (lN w3) (λj hj=>w4 j (Td _ hj))
  ·exact hQ E V a X (i::l) (Kept.refl E V a) ah hX hc (λi hi=> .inl hi) (λi hi=>hi) (.cons o ho hn hd lK) (λj yS e=>by cases e;exact hG)
theorem ad1{ops:Array Tu}:∀{A L X:List Nat},ky ops X (A++L)=true->ky ops X A=true/\ky ops (A.reverse++X) L=true
 |[],L,X,h=>⟨rfl,h⟩
 |i::A,L,X,h=>by
  rw[Vm,ky,Tl]at h;obtain⟨h1,h2⟩:=ad1 h.2;refine⟨by rw[ky,Tl];exact⟨h.1,h1⟩,?_⟩;rw[Zl,SC];exact h2
theorem ad2{ops:Array Tu}:∀{A X:List Nat},ky ops X A=true->kP ops X->kP ops (A.reverse++X)
 |[],X,h,hX=>hX
 |i::A,X,h,hX=>by
  have nK:=h;simp only[ky,Tl,T1,Us,decide_eq_false_iff_not]at nK;obtain⟨⟨hi,h2⟩,h3⟩:=nK;cases ho:ops[i]?with
  |none=>rw[ho]at h2;cases h2
  |some o=>
   rw[ho]at h2;have hd:∀j∈cS o,j∈X:=λj hj=>(by have:=Tv.1 h2 j hj;simpa using this);have:=ad2 h3 (hX.cons ho hd);rw[Zl,SC];exact this
def B8 (lv:Bool)(P:SI)(ops:Array Tu)(m:Nat)(HW:List qY)(Φ:an->AS->Prop)(s1:AS):Prop:=ao (ops[m]?) λom=>HA lv P om s1 λs2=>∃nW:List Nat->List aa,s2.H=nW []/\f_ lv P nW ops HW s2 (Φ .normal) ⟨0⟩
theorem qa(m:Nat)(A B pf nj:List Nat){pl1 HW:List qY}(oW:List Nat->List aa)(h:f_ lv P oW ops pl1 s (B8 lv P ops m HW Φ) ⟨0⟩)(ha:qQ ops o:=by repeat first|exact .base|apply qQ.add)(aq:rn nt o [] (A++m::B)=true:=by kernel_rfl)(Gn:abP o A B m=true:=by kernel_rfl)(alM:qI (gH o (A++m::B) []) pf [] A=pl1:=by conv=>lhs;cbv)(alN:qI (gH o (A++m::B) []) nj (m::A.reverse) B=HW:=by conv=>lhs;cbv)(ak9:nj.all B.contains=true:=by kernel_rfl)(h0:s.H=oW []:=by rfl):DG lv P r nt ops o s Φ:=λl E V a Q hs ah hQ=>by
 subst alM alN;rw[<- ha.wp];rw[<- ha.P2]at h;have aq:=rn.out aq;obtain⟨wN,_,hlt⟩:=EF aq.top;obtain⟨tA,tB⟩:=ad1 aq.top;rw[SN]at tB;have tB':ky o (m::A.reverse) B=true:=by
  rw[ky,Tl]at tB;exact tB.2
 unfold abP at Gn;dsimp only at Gn;rw[Tl,Tv,Tv]at Gn;obtain⟨cA,cB⟩:=Gn;have hmA:m∉A:=λhm=>(Vb.1 wN).2.2 m hm m (by simp) rfl;have hmB:m∉B:=(VW.1 (Vb.1 wN).2.1).1;have RS:∀i∈B,i∉A:=λi hi hA=>(Vb.1 wN).2.2 i hA i (by simp[hi]) rfl;have cu:s=⟨TX o s.T (λ_=> .val undef) [],oW (done pf [])⟩:=by
  have:done pf []=[]:=by simp[done]
  rw[this,<- h0];rfl
 have h':f_ lv P oW o (qI (gH o (A++m::B) []) pf [] A) ⟨TX o s.T (λ_=> .val undef) [],oW (done pf [])⟩ (B8 lv P ops m (qI (gH o (A++m::B) []) nj (m::A.reverse) B) Φ) ⟨0⟩:=by rw[<- cu];exact h
 obtain⟨f,_,q2,q3⟩:=Cy (r:=r) aq A [] _ tA (λi hi=>by cases hi) h';have tn:At E V ⟨TX o s.T f [],oW (done pf [])⟩ a nt:=by
  have e:(⟨TX o s.T f [],oW (done pf [])⟩:AS)=s:=cu.symm;rw[e];exact ah
 refine QC (Hf:=oW) (es:=pf) aq A q2 hs (by simp) (λi hi=>by cases hi) E V a Q tn λE1 V1 a1 X1 l1 iG wx hX1 dq Mn _ dL GW=> ?_;have hmX:m∉X1:=λhm=>by
  rcases Mn m hm with h|h
  ·cases h
  ·exact hmA h
 cases dL with
 |nil _ fD=>exact absurd (fD m (hlt m (by simp))) hmX
 |@cons _ i l2 pO ho hn hd lK=>
  have hi:i<o.size:=(SR.1 ho).1;have hiA:i∉A:=GW i l2 rfl;have lH:i=m:=by
   rcases SQ.1 (aq.full i hi)with h|h
   ·exact absurd h hiA
   ·rcases SK.1 h with h|h
    ·exact h
    ·have:=cB i h;have hr:m∈nk (gH o (A++m::B) []) i:=(by simpa using this);exact absurd (Bs dq (z9 hr) λo' ba k hk=>by rw[ho]at ba;cases ba;exact hd k hk) hmX
  subst lH;have RU:∀j∈A,j∈X1:=λj hj=>by
   have:=cA j hj;have hr:j∈nk (gH o (A++i::B) []) i:=(by simpa using this);exact Bs dq (z9 hr) λo' ba k hk=>by rw[ho]at ba;cases ba;exact hd k hk
  have LS:∀j,j∈X1<->j∈A.reverse++[]:=λj=>by
   rw[SN,XO];exact⟨λh=>(Mn j h).elim (λh=>by cases h) id,RU j⟩
  have K2:At E1 V1 ⟨TX o s.T f (A.reverse++[]),oW (done pf (A.reverse++[]))⟩ a1 nt:=by
   refine⟨?_,λt x e=> ?_,wx.size⟩
   ·rw[<- FN LS];exact wx.bu
   ·rw[<- Fi aq LS]at e;exact wx.tok t x e
  simp only[dp,ho];have hw:Ti pO (yielded o a1.tmps)=true:=by unfold Ti;rw[aq.CS i pO ho]
  rw[if_pos hw];refine .inl ?_;have dt:∀d,pO.dst=some d->d<a1.tmps.size:=λd e=>by rw[wx.size];exact aq.dst i pO d ho e
  unfold B8 at q3;obtain⟨om,hom,q3⟩:=q3.out;obtain⟨om2,g1,g2,g3⟩:=ha.get hom;rw[ho]at g1;cases g1;unfold HA at q3;obtain⟨c,x,akQ,akF,q4⟩:∃c x,om.op=.call c/\c.callee=.value x/\ao ((⟨TX o s.T f (A.reverse++[]),oW (done pf (A.reverse++[]))⟩:AS).ev x) λsU=>ao (eZ ⟨TX o s.T f (A.reverse++[]),oW (done pf (A.reverse++[]))⟩ c.args.toList) λaE=>BW lv P sU (oW (done pf (A.reverse++[]))) aE (λb H'=>∃nW:List Nat->List aa,((⟨TX o s.T f (A.reverse++[]),H'⟩:AS).put om.dst b).H=nW []/\f_ lv P nW ops (qI (gH o (A++i::B) []) nj (i::A.reverse) B) ((⟨TX o s.T f (A.reverse++[]),H'⟩:AS).put om.dst b) (Φ .normal) ⟨0⟩) (λ_ _=>False) ⟨0⟩:=by
   split at q3
   ·rename_i c hc;split at q3
    ·rename_i x hx;exact⟨c,x,hc,hx,q3⟩
    ·exact q3.elim
   ·exact q3.elim
  obtain⟨sU,e1,q5⟩:=q4.out;obtain⟨aE,e2,q6⟩:=q5.out;have lh:=Ot (lv:=lv) (P:=P) (r:=r) (o:=pO) (s:=⟨TX o s.T f (A.reverse++[]),oW (done pf (A.reverse++[]))⟩) (next:=λs2=>∃av H' nW,s2=(⟨TX o s.T f (A.reverse++[]),H'⟩:AS).put pO.dst av/\H'=nW []/\f_ lv P nW ops (qI (gH o (A++i::B) []) nj (i::A.reverse) B) s2 (Φ .normal) ⟨0⟩) (bad:=λ_ _=>False) (g2.trans akQ) akF e1 e2 (jb.mono q6 (λav H'=>by
    rintro⟨nW,w1,w2⟩
    rw[<- g3]at w1 w2;refine⟨av,H',nW,rfl,?_,w2⟩;rw[<- w1];cases pO.dst<;>rfl) (λ_ _ h=>h))
  refine lh E1 V1 a1 _ Q K2.bu K2.tok dt (.inr (aq.we i pO ho)) (λE2 V2 a2 s2 cH cO yI e=> ?_) λ_ _ _ _ _ _ _ _ _ h=>h.elim;obtain⟨av,H',nW,rfl,hH',hb⟩:=e;obtain⟨f',hf'⟩:∃f':Nat->AV,f'=λj=>if j=i then av else f j:=⟨_,rfl⟩;have hff:∀j∈A.reverse++[],f j=f' j:=λj hj=>by
   have:j≠i:=λe=>hmA (by subst e;simpa using hj);rw[hf'];simp[this]
  have hp:(⟨TX o s.T f (A.reverse++[]),H'⟩:AS).put pO.dst av=⟨TX o s.T f' (i::A.reverse),nW (done nj (i::A.reverse))⟩:=by
   have pq:done nj (i::A.reverse)=[]:=by
    unfold done;rw[YF];intro j hj;have:=Tv.1 ak9 j hj;have Gz:j∈B:=(by simpa using this);have h1:j≠i:=λe=>hmB (e▸Gz);have h2:=RS j Gz;simp[h1,h2]
   rw[Cd hff,xH ho (by rw[hf'];simp),pq,hH',SN]
  rw[hp]at hb cO yI;rw[<- ha.P2]at hb;have akL:kP o (i::A.reverse):=by
   have h1:=ad2 tA (X:=[]) (λi hi=>by cases hi);rw[SN]at h1;exact h1.cons ho λj hj=>by
    have:=Mn j (hd j hj);simpa using this
  obtain⟨f2,p1,p2,p3⟩:=Cy (r:=r) aq B (i::A.reverse) f' tB' akL hb;have aaz:∀j,j∈i::X1<->j∈i::A.reverse:=λj=>by
   have:=LS j;rw[SN]at this;rw[SK,SK,this]
  have uI:At E2 V2 ⟨TX o s.T f2 (i::X1),nW (done nj (i::X1))⟩ a2 nt:=by
   refine⟨?_,λt x e=> ?_,cH.size.trans K2.size⟩
   ·rw[FN aaz];exact cO
   ·rw[Fi aq aaz,Cd p1]at e;exact yI t x e
  refine QC (Hf:=nW) (es:=nj) aq B p2 lK (λk hk=>(SK.1 hk).elim (λe=>by rw[e];exact hi) (hX1 k)) (dq.cons ho hd) E2 V2 a2 Q uI λE3 V3 a3 X3 l3 wL qi hX3 dQ auz aaE pE amg=> ?_;cases pE with
  |cons o3 L3 LX rG auy=>
   rename_i j l4;exfalso;have hj:j<o.size:=(SR.1 L3).1;have Gz:=amg j l4 rfl;rcases SQ.1 (aq.full j hj)with h|h
   ·exact LX (aaE j (Td _ (RU j h)))
   ·rcases SK.1 h with rfl|h
    ·exact LX (aaE j (TC ..))
    ·exact Gz h
  |nil _ fD=>
   have aaA:∀j,j∈X3<->j∈B.reverse++i::A.reverse:=λj=>by
    rw[SQ,SK,XO,XO];constructor
    ·intro h;have:=SQ.1 (aq.full j (hX3 j h));rw[SK]at this;rcases this with h|h|h
     ·exact .inr (.inr h)
     ·exact .inr (.inl h)
     ·exact .inl h
    ·intro h;refine fD j (hlt j ?_);rw[SQ,SK];rcases h with h|h|h
     ·exact .inr (.inr h)
     ·exact .inr (.inl h)
     ·exact .inl h
   refine hQ .normal .normal E3 V3 a3 _ ((iG.trans cH).trans wL) ⟨?_,λt x e=> ?_,qi.size⟩ trivial p3
   ·rw[<- FN aaA];exact qi.bu
   ·rw[<- Fi aq aaA]at e;exact qi.tok t x e
end
theorem an2:type_of% @HA.eq_1:=by intros;rw[HA.eq_1]
theorem an3:type_of% @B8.eq_1:=by intros;rw[B8.eq_1]
attribute [seval] an2 an3
open Go.Proofs Go.Gg.Tk
theorem acB{x:aj}{q:Nat}(hq:q<x.pieces.length):zg x [(q:Int)]=true:=by
 unfold zg;simp;omega
theorem ahA{lv:Bool}{P:SI}{r:Option Nat}{nt:Nat}{ops:Array Tu}{s:AS}{Φ:an->AS->Prop}{α:Type}{ok:α->Prop}(st:α->AS)(rest:∀x,ok x->Φ .normal (st x))(h:(∀x,ok x->Φ .normal (st x))->DG lv P r nt ops ops s Φ):DG lv P r nt ops ops s Φ:=h rest
theorem arX{T V:List (Nat×AV)}{H H':List aa}(hH:H=H')(hv:∀p∈V,∃b,look T p.1=some b/\Wk b p.2):(⟨T,H⟩:AS).Sub ⟨V,H'⟩:=
 ⟨λt a e=>hv (t,a) (oJ e),hH⟩
def opsOf:T7->Array Tu
 |.region _ o _=>o
 |.seq a _=>opsOf a
 |_=>#[]
structure Bk (H:List aa)(M:List AV->List AV->List aa)(L:List aa)(B:List AV->List AV->List aa)(N:Nat):Prop where
 f:∀u v,B u v=H++(M u v++L)
 l:∀u v,(B u v).length=N
section
variable {H L:List aa}{M B:List AV->List AV->List aa}{N:Nat}
theorem Bk.n(h:Bk H M L B N)(u v:List AV)(L':List aa)(j:Nat):(B u v++L')[N+j]?=L'[j]?:=by rw[<- h.l u v,aY]
theorem Bk.s(h:Bk H M L B N)(u v:List AV)(L':List aa)(j:Nat)(y:aa):(B u v++L').set (N+j) y=B u v++L'.set j y:=by rw[<- h.l u v,dJ]
theorem Bk.n0(h:Bk H M L B N)(u v:List AV)(L':List aa):(B u v++L')[N]?=L'[0]?:=h.n u v L' 0
theorem Bk.s0(h:Bk H M L B N)(u v:List AV)(L':List aa)(y:aa):(B u v++L').set N y=B u v++L'.set 0 y:=h.s u v L' 0 y
theorem Bk.n1(h:Bk H M L B N)(u v:List AV)(L':List aa):(B u v++L')[N+1]?=L'[1]?:=h.n u v L' 1
theorem Bk.s1(h:Bk H M L B N)(u v:List AV)(L':List aa)(y:aa):(B u v++L').set (N+1) y=B u v++L'.set 1 y:=h.s u v L' 1 y
theorem Bk.g(h:Bk H M L B N){j:Nat}{u v:List AV}(hl:j<(M u v).length){a y:aa}{u' v':List AV}(ha:(M u v)[j]?=some a)(hy:(M u v).set j y=M u' v')(L':List aa):(B u v++L')[H.length+j]?=some a/\(B u v++L').set (H.length+j) y=B u' v'++L':=by
 rw[h.f,h.f,SC,SC,SC,SC,aY,dJ,SX hl,UX _ _ hl,hy];exact⟨ha,rfl⟩
theorem Bk.gu(h:Bk H M L B N)(j:Nat)(hl:∀u v,j<(M u v).length)(ha:∀u v,(M u v)[j]?=some (.cells u 76))(hy:∀u v w,(M u v).set j (.cells w 76)=M w v):(∀u v L',(B u v++L')[H.length+j]?=some (.cells u 76))/\(∀u v w L',(B u v++L').set (H.length+j) (.cells w 76)=B w v++L')/\(∀u v,(B u v)[H.length+j]?=some (.cells u 76))/\∀u v w,(B u v).set (H.length+j) (.cells w 76)=B w v:=by
 have k1:=λu v w L'=>h.g (hl u v) (ha u v) (hy u v w) L';have k2:=λu v w=>k1 u v w [];simp only[SN]at k2;exact⟨λu v L'=>(k1 u v u L').1,λu v w L'=>(k1 u v w L').2,λu v=>(k2 u v u).1,λu v w=>(k2 u v w).2⟩
theorem Bk.gv(h:Bk H M L B N)(j:Nat)(hl:∀u v,j<(M u v).length)(ha:∀u v,(M u v)[j]?=some (.cells v 88))(hy:∀u v w,(M u v).set j (.cells w 88)=M u w):(∀u v L',(B u v++L')[H.length+j]?=some (.cells v 88))/\(∀u v w L',(B u v++L').set (H.length+j) (.cells w 88)=B u w++L')/\(∀u v,(B u v)[H.length+j]?=some (.cells v 88))/\∀u v w,(B u v).set (H.length+j) (.cells w 88)=B u w:=by
 have k1:=λu v w L'=>h.g (hl u v) (ha u v) (hy u v w) L';have k2:=λu v w=>k1 u v w [];simp only[SN]at k2;exact⟨λu v L'=>(k1 u v v L').1,λu v w L'=>(k1 u v w L').2,λu v=>(k2 u v v).1,λu v w=>(k2 u v w).2⟩
theorem ai0{x:aj}{p q:Nat}{G:List aa}{k kp:AV->List aa->Prop}(i j:Nat)(M:List AV->List AV->List aa)(u0 v0:List AV)(hG:G=H++M u0 v0)(hx:x.Ok)(iy:x.am=p)(nG:zg x [(q:Int)]=true)(hm:H[0]?=some .main)(h1:(M u0 v0)[i]?=some (.cells [.sl 1 [iv q] .exact] 22))(h2:(M u0 v0)[j]?=some (.cells x.l 26))(hn:∀u v,(M u v).length=(M u0 v0).length)(hk:∀D L mp N B,fM x 1 D->bL D->(D.l mp).length=28->(∀a∈D.l mp,a.leaf=true)->Bk H M L B N->k (.aN [x.av,.agg (D.l mp),iv (eY D)]) (B u0 v0)):bf true SA 51 G [x.av,iv 1,.fn (.func 80) [] [.op (H.length+i) 0,.op (H.length+j) 0]] k kp:=by
 subst hG;refine Ah (x:=x) (b:=zg x [(q:Int)]) hx iy (fO hm) (λL k kp hk=>di (Kd (x:=x) (ns:=[(q:Int)]) (e:=.exact) (il:=H.length+i) (ir:=H.length+j) hx (by simp) ?_ ?_ hk)) (λh=>by rw[nG]at h;cases h) λ_ js D L mp iF jD dZ tG hg=> ?_
 ·rw[SC,aY];exact fO h1
 ·rw[SC,aY];exact fO h2
 ·have:=hk D L mp (H.length+(M u0 v0).length+L.length) (λu v=>H++(M u v++L)) ⟨p,js,iy,iF,jD,dZ⟩ dZ (Kn.len dZ mp) (vg D mp) ⟨λ_ _=>rfl,λu v=>by rw[S5,S5,hn];omega⟩;rw[SC];exact this
end
def y8 (x:aj)(q:Nat)(u v:List AV):Nat->List aa
 |10=>[.cells u 76]
 |11=>[.cells v 88]
 |4=>[.cells x.l 26,.cells [.sl 1 [iv q] .exact] 22]
 |_=>[]
def yZ (f:Nat->List aa)(D:List Nat):List Nat->List aa
 |[]=>[]
 |i::l=>(bif isDone i D then f i else[])++yZ f D l
def oL (H:List aa)(x:aj)(q:Nat)(u v:List AV)(l:List Nat)(D:List Nat):List aa:=H++(.cells x.l 26::yZ (y8 x q u v) D l)
def Nu (x:aj)(q:Nat)(Bf:List AV->List AV->List aa)(u0 v0 u v:List AV)(t D:List Nat):List aa:=Bf (bif t.contains 10 then u0 else bif isDone 12 D then u else u0) (bif t.contains 11 then v0 else bif isDone 13 D then v else v0)++yZ (y8 x q (bif isDone 12 D then u else u0) (bif isDone 13 D then v else v0)) D t
theorem lf{P:Prop}{α:Type}(t:List Nat)(M:α)(ix:Nat->Nat)(h:∀t' M' ix',t=t'->M=M'->ix=ix'->P):P:=h t M ix rfl rfl rfl
def qG (x:aj)(q:Nat)(l:List Nat)(u v:List AV):List aa:=.cells x.l 26::l.flatMap (y8 x q u v)
theorem aoj{H:List aa}{x:aj}{q nt:Nat}{ops:Array Tu}{c:T7}{Ψ:an->AS->Prop}(ho:nt=27/\ops=opsOf (cs (an'.body.getD .skip))\/nt=29/\ops=opsOf (cs (ZM.body.getD .skip)))(hx:x.Ok)(hq:q<x.pieces.length)(hm:H[0]?=some .main)(rest:∀y:Nat×Nat×Kn×List aa,fM x 1 y.2.2.1/\bL y.2.2.1/\(∃L,y.2.2.2=H++L)/\y.2.2.2[H.length]?=some (.cells x.l 26)/\y.2.2.2[y.1]?=some (.cells (y.2.2.1.l y.2.1) 88)->an.then (λs'=>aP true SA none nt c s' Ψ) Ψ .normal ⟨[(7,.op y.1 0),(8,iv (eY y.2.2.1)),(1,iv q),(2,.op H.length 0)],y.2.2.2⟩):DG true SA none nt ops ops ⟨[(5,iv 0),(4,.sl 0 [] .exact),(2,.op H.length 0),(0,.agg x.l),(1,iv q)],H++[.cells x.l 26]⟩ (an.then (λs'=>aP true SA none nt c s' Ψ) Ψ):=by
 rcases ho with⟨rfl,rfl⟩|⟨rfl,rfl⟩
 all_goals
  dsimp only[ZM,an',S0,cs,opsOf];have hp:=hx.am;have nF:=hx.ec;have nG:=acB hq;obtain⟨p,iy⟩:∃p:Nat,x.am=p:=⟨x.am.toNat,by omega⟩;have bP:x.l=[iv x.first,iv x.hours,iv x.am,cY x.seen,aL x.pieces,aL x.aA]:=rfl;have gr:∀(L:List aa)(j:Nat),(H++L)[H.length+j]?=L[j]?:=λL j=>aY H L j;have A1:∀(L:List aa)(j:Nat)(y:aa),(H++L).set (H.length+j) y=H++L.set j y:=λL j y=>dJ H L j y;have aX:∀(L:List aa),(H++L)[H.length]?=L[0]?:=λL=>aY H L 0;have dw:x.l.length=6:=rfl;have F4:(1<=2^24)=True:=eq_true (by decide);have fx:TS 6 x.l=x.l:=rfl;obtain⟨u0,hu⟩:∃u0:List AV,u0=[.val (.int .i64 0),.val (.int .i64 0),.val (.int .i64 0),.sl 0 [] .exact,.sl 0 [] .exact,.sl 0 [] .exact]:=⟨_,rfl⟩;obtain⟨v0,hv⟩:∃v0:List AV,v0=[.val (.bool false),.val (.map none),.val (.int .u16 0),.val (.int .u16 0),.val (.int .u16 0),.val (.int .u16 0),.val (.int .u16 0),.val (.int .u16 0),.val (.int .u16 0),.val (.int .u16 0),.val (.int .u16 0),.val (.int .u16 0),.val (.int .u16 0),.val (.int .u16 0),.val (.int .u16 0),.val (.int .u16 0),.val (.int .u16 0),.val (.int .i64 0),.val (.int .i64 0),.val (.int .i64 0),.val (.int .i64 0),.val (.int .i64 0),.val (.int .i64 0),.val (.int .i64 0),.val (.int .i64 0),.val (.int .i64 0),.val (.int .i64 0),.val (.int .i64 0)]:=⟨_,rfl⟩;have G3:=hu.symm;have rW:=hv.symm;have DU:u0.length=6:=by rw[hu];rfl
  have Hb:v0.length=28:=by rw[hv];rfl
  have hy0:TH 6 u0=[]:=by rw[hu];rfl
  have u_:TH 28 v0=[]:=by rw[hv];rfl
  refine rl 5 10 rfl (rl 5 11 rfl (rl 4 10 rfl (rl 4 11 rfl (rl 10 11 rfl (lf [] (qG x q [11,10,4]) (λ_=>H.length+1) λt M ix ht hM jC=>qa 5 [0,1,2,3,11,10,4] [6,7,8,9,12,13,14] [11,10,4] [12,13] (oL H x q u0 v0 [11,10,4]) ?_) (lf [] (qG x q [10,11,4]) (λ_=>H.length+2) λt M ix ht hM jC=>qa 5 [0,1,2,3,10,11,4] [6,7,8,9,12,13,14] [10,11,4] [12,13] (oL H x q u0 v0 [10,11,4]) ?_)) (lf [] (qG x q [10,4,11]) (λ_=>H.length+4) λt M ix ht hM jC=>qa 5 [0,1,2,3,10,4,11] [6,7,8,9,12,13,14] [10,4,11] [12,13] (oL H x q u0 v0 [10,4,11]) ?_)) (rl 4 11 rfl (lf [] (qG x q [11,4,10]) (λ_=>H.length+1) λt M ix ht hM jC=>qa 5 [0,1,2,3,11,4,10] [6,7,8,9,12,13,14] [11,4,10] [12,13] (oL H x q u0 v0 [11,4,10]) ?_) (rl 10 11 rfl (lf [] (qG x q [4,11,10]) (λ_=>H.length+3) λt M ix ht hM jC=>qa 5 [0,1,2,3,4,11,10] [6,7,8,9,12,13,14] [4,11,10] [12,13] (oL H x q u0 v0 [4,11,10]) ?_) (lf [] (qG x q [4,10,11]) (λ_=>H.length+4) λt M ix ht hM jC=>qa 5 [0,1,2,3,4,10,11] [6,7,8,9,12,13,14] [4,10,11] [12,13] (oL H x q u0 v0 [4,10,11]) ?_)))) (rl 4 10 rfl (lf [11] (qG x q [10,4]) (λN=>N) λt M ix ht hM jC=>qa 5 [0,1,2,3,10,4] [6,7,8,9,11,12,13,14] [10,4] [11,12,13] (oL H x q u0 v0 [10,4]) ?_) (lf [11] (qG x q [4,10]) (λN=>N) λt M ix ht hM jC=>qa 5 [0,1,2,3,4,10] [6,7,8,9,11,12,13,14] [4,10] [11,12,13] (oL H x q u0 v0 [4,10]) ?_))) (rl 5 11 rfl (rl 4 11 rfl (lf [10] (qG x q [11,4]) (λ_=>H.length+1) λt M ix ht hM jC=>qa 5 [0,1,2,3,11,4] [6,7,8,9,10,12,13,14] [11,4] [10,12,13] (oL H x q u0 v0 [11,4]) ?_) (lf [10] (qG x q [4,11]) (λ_=>H.length+3) λt M ix ht hM jC=>qa 5 [0,1,2,3,4,11] [6,7,8,9,10,12,13,14] [4,11] [10,12,13] (oL H x q u0 v0 [4,11]) ?_)) (rl 10 11 rfl (lf [11,10] (qG x q [4]) (λN=>N) λt M ix ht hM jC=>qa 5 [0,1,2,3,4] [6,7,8,9,11,10,12,13,14] [4] [11,10,12,13] (oL H x q u0 v0 [4]) ?_) (lf [10,11] (qG x q [4]) (λN=>N+1) λt M ix ht hM jC=>qa 5 [0,1,2,3,4] [6,7,8,9,10,11,12,13,14] [4] [10,11,12,13] (oL H x q u0 v0 [4]) ?_)))
  all_goals
   (try simp only[seval,oL,yZ,y8,z1,fx,F4,and_self,aX,G3,rW,dw,S5,SC]);refine sY _ _ (di (J9 (x:=x) (ns:=[(q:Int)]) ⟨rfl,rfl⟩)) ?_;(try simp only[seval,oL,yZ,y8,aX,G3,rW,dw,S5,SC,U6]);refine aJ ((ai0 _ _ M u0 v0 (by subst hM;rfl) hx iy nG hm (by subst hM;rfl) (by subst hM;rfl) (by subst hM;exactλ_ _=>rfl) λD L mp N Bf ow dZ fq jE hB=> ?_));subst hM
   first
    |obtain⟨Aj,Bv,Ak,Bw⟩:=hB.gu 1 (λ_ _=>of_decide_eq_true rfl) (λ_ _=>rfl) λ_ _ _=>rfl
    |obtain⟨Aj,Bv,Ak,Bw⟩:=hB.gu 2 (λ_ _=>of_decide_eq_true rfl) (λ_ _=>rfl) λ_ _ _=>rfl
    |obtain⟨Aj,Bv,Ak,Bw⟩:=hB.gu 3 (λ_ _=>of_decide_eq_true rfl) (λ_ _=>rfl) λ_ _ _=>rfl
    |obtain⟨Aj,Bv,Ak,Bw⟩:=hB.gu 4 (λ_ _=>of_decide_eq_true rfl) (λ_ _=>rfl) λ_ _ _=>rfl
    |obtain⟨Aj,Bv,Ak,Bw⟩:=And.intro hB.l (And.intro hB.l (And.intro hB.l hB.l))
   first
    |obtain⟨Al,Bx,Am,By⟩:=hB.gv 1 (λ_ _=>of_decide_eq_true rfl) (λ_ _=>rfl) λ_ _ _=>rfl
    |obtain⟨Al,Bx,Am,By⟩:=hB.gv 2 (λ_ _=>of_decide_eq_true rfl) (λ_ _=>rfl) λ_ _ _=>rfl
    |obtain⟨Al,Bx,Am,By⟩:=hB.gv 3 (λ_ _=>of_decide_eq_true rfl) (λ_ _=>rfl) λ_ _ _=>rfl
    |obtain⟨Al,Bx,Am,By⟩:=hB.gv 4 (λ_ _=>of_decide_eq_true rfl) (λ_ _=>rfl) λ_ _ _=>rfl
    |obtain⟨Al,Bx,Am,By⟩:=And.intro hB.l (And.intro hB.l (And.intro hB.l hB.l))
   have hR:=λG a b c=>rest (ix N,mp,D,G) ⟨ow,dZ,a,b,c⟩;refine⟨λDD=>Nu x q Bf u0 v0 x.l (D.l mp) t DD,by subst ht;simp only[seval,Nu,yZ,y8];first|done|rfl,?_⟩;subst ht jC;(try simp only[seval,Nu,ZC,List.contains_cons,yZ,y8,G3,rW,hB.l,hB.n0,hB.s0,hB.n1,hB.s1,dw,fq,DU,Hb,hy0,u_,aj.av,Aj,Bv,Ak,Bw,Al,Bx,Am,By]);refine⟨vE x,jE,?_⟩;exact jx (arX rfl (by simp only[seval];simp[bm,Wk.refl])) (hR _ ⟨_,by rw[hB.f]<;>first|rfl|rw[SC]⟩ (by rw[hB.f];first|exact aY H _ 0|(rw[SC];exact aY H _ 0)) (by simp only[seval,G3,rW,hB.l,hB.n0,hB.s0,hB.n1,hB.s1,dw,fq,DU,Hb,hy0,u_,aj.av,Aj,Bv,Ak,Bw,Al,Bx,Am,By]))
section
variable {lv:Bool}{H:List aa}{k kp:AV->List aa->Prop}
theorem aiW{x:aj}{q:Nat}(hx:x.Ok)(hq:q<x.pieces.length)(hm:H[0]?=some .main)(hk:∀D,fM x 1 D->(D.has=false->k (.aN [br [],iv 11]) H)/\(D.has=true->k (.aN [br (fG (D.aC.getD q 0) x.first 16),iv 0]) H)):bf true SA 34 H [x.av,iv q] k kp:=by
 refine bI (rs:=[.tmp 4,.tmp 5]) (nt:=29) ZM λhH hA=> ?_;simp only[bt,SY,aj.av];have hp:=hx.am;have nF:=hx.ec;have bP:x.l=[iv x.first,iv x.hours,iv x.am,cY x.seen,aL x.pieces,aL x.aA]:=rfl;have aX:∀(L:List aa),(H++L)[H.length]?=L[0]?:=λL=>aY H L 0;have dw:x.l.length=6:=rfl;refine ak ?_;(repeat apply im);refine agd [4,10,11,12,13] [0,1,2,3,4,5,6,7,8,9,10,11,12,13,14] F.mixed (by kernel_rfl) ?_;refine ahA (α:=Nat×Nat×Kn×List aa) (ok:=λy=>fM x 1 y.2.2.1/\bL y.2.2.1/\(∃L,y.2.2.2=H++L)/\y.2.2.2[H.length]?=some (.cells x.l 26)/\y.2.2.2[y.1]?=some (.cells (y.2.2.1.l y.2.1) 88)) (λy=>⟨[(7,.op y.1 0),(8,iv (eY y.2.2.1)),(1,iv q),(2,.op H.length 0)],y.2.2.2⟩) (λy hy=> ?_) (λrest=> ?_)
 ·obtain⟨i,mp,D,G⟩:=y;obtain⟨ow,dZ,⟨L0,hG⟩,R0,RZ⟩:=hy;dsimp only at hG R0 RZ;obtain⟨iG,cH⟩:=hk D ow;have fE:∀(ns:List Int)(e:End)(m:Int),k (.aN [br ns,iv m]) H->cF H.length G (.aN [.sl ns.length (ns.map iv) e,iv m]) k:=λns e m h=>by
   rw[hG];exact jA hH (Iz (jq _ _ _) (Wk.refl _)) (by simp[jK,eC,br,vt]) h
  (try simp only[seval]);cases iT:D.has with
  |false=>
   have hE:eY D=11:=(by rw[eY,iT];rfl);refine ai ?_;simp only[seval,hE,show ((11:Int)!=0)=true from rfl];refine aD ?_;refine ak ?_;refine bc ?_;exact fE [] .exact 11 (iG iT)
  |true=>
   have hE:eY D=0:=(by rw[eY,iT];rfl);have cH:=cH iT;obtain⟨u,hu⟩:=bZ (xs:=D.aC) (i:=q) (by rw[dZ.aC];omega);have lu:=dZ.mo _ (S_ hu);have lP:D.aC.getD q 0=u:=(by rw[SE,hu];rfl);rw[lP]at cH;have b3:(0<=(q:Int)/\(q:Int)<4)=True:=(by simp;omega);have Df:=Kn.HF (mp:=mp) hu;have ji:=hx.first;refine ai ?_;simp only[seval,hE,show ((0:Int)!=0)=false from rfl];refine aD ?_;refine aO ?_;refine ek 6 ?_;simp only[seval,R0,RZ,b3,Df,bP];refine aJ ((J8 lu (by omega) ?_));(try simp only[seval]);refine bc ?_;exact fE _ _ 0 cH
 ·exact aoj (.inr ⟨rfl,rfl⟩) hx hq hm rest
end
theorem amP{x:aj}{deep:Int}{D:Kn}(hx:x.Ok)(h:fM x deep D)(hh:D.has=true):jw x D.first:=by
 obtain⟨p,js,h1,h2,h3,_⟩:=h;have hp:=hx.am;have hj:∀j∈js,j<x.am.toNat+1:=λj hj=>by have:=Tx.1 (h2.mem_iff.1 hj);omega
 obtain⟨j,a,t,l,b,c,d⟩:=abg hx h3 (h2.nodup_iff.2 XZ) hj hh;rw[c];exact RJ (deep:=deep) (j:=j) hx (by have:=hj j a;omega) (by rw[b];simp)
namespace Tk
def s7 (x:aj)(t:List Int)(i:Nat):List Int:=(SU i).map λp=>t.getD (4+p) 0+x.first
def s8 (t:List Int)(i:Nat):List Int:=(SU i).map λs=>t.getD (8+s) 0
theorem ajr(x:aj)(t:List Int)(i:Nat):s7 x t (i+1)=s7 x t i++[t.getD (4+i) 0+x.first]:=by
 unfold s7;rw[Vp,TG];rfl
theorem ajt(t:List Int)(i:Nat):s8 t (i+1)=s8 t i++[t.getD (8+i) 0]:=by
 unfold s8;rw[Vp,TG];rfl
theorem ajq(x:aj)(t:List Int)(i:Nat):(s7 x t i).length=i:=by simp[s7]
theorem ajs(t:List Int)(i:Nat):(s8 t i).length=i:=by simp[s8]
end Tk
theorem aeo{a a' b b' c c' d d':AV}(h1:Wk a a')(h2:Wk b b')(h3:Wk c c')(h4:Wk d d'):Wk (.aN [a,b,c,d]) (.aN [a',b',c',d']):=λE v h=>by
 cases h with
 |aN hs h=>
  refine .aN hs λi x e=> ?_
  match i with
  |0=>cases e;exact h1 _ _ (h 0 a rfl)
  |1=>cases e;exact h2 _ _ (h 1 b rfl)
  |2=>cases e;exact h3 _ _ (h 2 c rfl)
  |3=>cases e;exact h4 _ _ (h 3 d rfl)
section
variable {lv:Bool}{H:List aa}{k kp:AV->List aa->Prop}
theorem aiK{x:aj}(hx:x.Ok)(hm:H[0]?=some .main)(hk:∀D,fM x 0 D->(D.has=false->k (.aN [br [],br [],br [],iv 11]) H)/\(D.has=true->k (.aN [br (D.first.take (x.hours.toNat+1)),br (s7 x D.first x.pieces.length),br (s8 D.first x.aA.length),iv 0]) H)):bf true SA 18 H [x.av] k kp:=by
 refine bI (rs:=[.tmp 2,.tmp 3,.tmp 4,.tmp 5]) (nt:=64) Tryz.f18 λhH hA=> ?_;simp only[bt,SY,aj.av];have hp:=hx.am;have hh:=hx.hours;have nF:=hx.ec;have aR:=hx.de;have ji:=hx.first;obtain⟨p,iy⟩:∃p:Nat,x.am=p:=⟨x.am.toNat,by omega⟩;have bP:x.l=[iv x.first,iv x.hours,iv x.am,cY x.seen,aL x.pieces,aL x.aA]:=rfl;have aX:∀(L:List aa),(H++L)[H.length]?=L[0]?:=λL=>aY H L 0;have dw:x.l.length=6:=rfl;have fx:TS 6 x.l=x.l:=rfl;refine ak ?_;refine ai ?_;simp only[seval,aX,dw,fx];refine aJ ((Ah (x:=x) hx iy (fO hm) Jc (λh=>by cases h) λ_ js D L mp iF jD dZ tG hg=> ?_));have ow:fM x 0 D:=⟨p,js,iy,iF,jD,dZ⟩;have fq:=Kn.len dZ mp;have jE:=vg D mp;obtain⟨iG,cH⟩:=hk D ow;obtain⟨Y,hY⟩:∃Y:List aa,Y=[aa.cells x.l 26]++L:=⟨_,rfl⟩;obtain⟨B,hB⟩:∃B,B=H++Y:=⟨_,rfl⟩;have te:H++[aa.cells x.l 26]++L=B:=by rw[hB,hY,SC]
 have AC:∀(L':List aa),(B++L')[H.length]?=some (.cells x.l 26):=λL'=>by rw[hB,hY,SC,aX];rfl
 have bn:∀(L':List aa)(j:Nat),(B++L')[B.length+j]?=L'[j]?:=λL' j=>aY B L' j;have v_:∀(L':List aa)(j:Nat)(y:aa),(B++L').set (B.length+j) y=B++L'.set j y:=λL' j y=>dJ B L' j y;have fE:∀(L':List aa)(l1 l2 l3:List Int)(e e' QK:End)(m:Int),k (.aN [br l1,br l2,br l3,iv m]) H->cF H.length (B++L') (.aN [.sl l1.length (l1.map iv) e,.sl l2.length (l2.map iv) e',.sl l3.length (l3.map iv) QK,iv m]) k:=λL' l1 l2 l3 e e' QK m h=>by
  rw[hB,SC];exact jA hH (aeo (jq _ _ _) (jq _ _ _) (jq _ _ _) (Wk.refl _)) (by simp[jK,eC,br,vt]) h
 rw[te];clear te hg;(try simp only[seval,aj.av,dw,fq]);refine⟨vE x,jE,?_⟩;cases iT:D.has with
 |false=>
  have hE:eY D=11:=by rw[eY,iT];rfl
  refine ai ?_;simp only[seval,hE,show ((11:Int)!=0)=true from rfl];refine aD ?_;refine ak ?_;refine bc ?_;exact fE _ [] [] [] .exact .exact .exact 11 (iG iT)
 |true=>
  have hE:eY D=0:=by rw[eY,iT];rfl
  have cH:=cH iT;have qD:=amP hx ow iT;obtain⟨t,ht⟩:∃t,t=D.first:=⟨_,rfl⟩;rw[<- ht]at qD cH;have qC:=qD.len;obtain⟨pre,aav,K7⟩:∃pre:List AV,pre.length=17/\D.l mp=pre++(t.map iv++[]):=⟨bv D.has:: .mp mp::(D.aC.map (λn=>wv n)++(D.hours.map (λn=>wv n)++(D.less.map (λn=>wv n)++D.aU.map (λn=>wv n)))),by simp[dZ.aC,dZ.hours,dZ.less,dZ.aU],by rw[ht];simp[Kn.l]⟩;obtain⟨n,hn⟩:∃n:Nat,x.hours=n:=⟨x.hours.toNat,by omega⟩;have pB:x.hours+1=((n+1:Nat):Int):=by omega
  have bC:SD.wrap (x.hours+1)=((n+1:Nat):Int):=by rw[bw _ (by omega)];exact pB
  have cQ:TH 1 x.l=[iv x.hours,iv x.am,cY x.seen,aL x.pieces,aL x.aA]:=rfl;have wD:TH 4 x.l=[.sl x.pieces.length (x.pieces.flatMap aB.l) .shut,.sl x.aA.length (x.aA.flatMap aB.l) .shut]:=rfl;have mI:TH 5 x.l=[.sl x.aA.length (x.aA.flatMap aB.l) .shut]:=rfl;refine ai ?_;simp only[seval,hE,show ((0:Int)!=0)=false from rfl];refine aD ?_;refine aO ?_;have Cx:∀(L':List aa),(B++L')[B.length+1]?=L'[1]?:=λL'=>bn L' 1;have zX:∀(L':List aa),(B++L')[B.length+2]?=L'[2]?:=λL'=>bn L' 2;have ut:∀(L':List aa)(y:aa),(B++L').set (B.length+2) y=B++L'.set 2 y:=λL' y=>v_ L' 2 y;have bn3:∀(L':List aa),(B++L')[B.length+3]?=L'[3]?:=λL'=>bn L' 3;have bs3:∀(L':List aa)(y:aa),(B++L').set (B.length+3) y=B++L'.set 3 y:=λL' y=>v_ L' 3 y;have bn4:∀(L':List aa),(B++L')[B.length+4]?=L'[4]?:=λL'=>bn L' 4;have bs4:∀(L':List aa)(y:aa),(B++L').set (B.length+4) y=B++L'.set 4 y:=λL' y=>v_ L' 4 y;refine ai ?_;simp only[seval,AC,cQ,bC,aew];refine⟨by omega,by omega,?_⟩;have wE:(D.l mp).drop 17=t.map iv:=by rw[K7,SN,Wu (by omega),W2 (by omega),UL]
  have aml:((n:Int)+1).toNat=n+1:=by omega
  have rN:min 4 (n+1)=n+1:=by omega
  have Dq:min 4 11=4:=rfl;have aaD:min (n+1) 4=n+1:=by omega
  have aW:TS (n+1) (TS 4 (Ve iv t))++TH (n+1) (Ve iv (TJ (n+1) 0))=(t.take (n+1)).map iv:=by rw[U8,aaD,W2 (by simp),SN,VJ]
  refine ai ?_;simp only[seval,wE,aml,rN,Dq,qC,aaD,TV,YM,Cx,zX,ut];refine⟨by rw[<- VJ];exact of_eq_true (abt _),?_⟩;rw[aW];obtain⟨tl,Mv⟩:∃tl,tl=t.take (n+1):=⟨_,rfl⟩;have aa1:tl.length=n+1:=by rw[Mv,TV];omega
  have GF:x.hours.toNat=n:=by omega
  rw[GF,<- Mv]at cH;rw[<- Mv]
  (repeat apply im);refine Jf (id:=B.length+2) (by simp only[seval,zX]<;>rfl) ?_
  simp only[seval,ut,aa1]
  (repeat apply im);refine PN (t:=2) (y:=br tl) (by simp only[seval]<;>rfl) ?_ ?_
  ·have e:br tl=.sl (n+1) ((tl.map iv).take (n+1)) .shut:=by
    rw[SS (by simp;omega),br,aa1]
   rw[e];exact EN (p:=n+1) (by simp only[seval,zX]<;>rfl) (by omega) (by simp;omega)
  (repeat apply im);refine v5 (t:=3) (sz:=1) (el:=3) (by simp only[seval]<;>rfl) ?_
  refine ai ?_;simp only[seval,AC,wD];obtain⟨gl,ki⟩:∃gl:Nat->List Int,∀i,gl i=s7 x t i:=⟨_,λ_=>rfl⟩;have Dj:gl 0=[]:=by rw[ki];rfl
  have Lx:∀i,(gl i).length=i:=λi=>by rw[ki];exact ajq _ _ _
  refine bY ?_;refine gF x.pieces.length (λi:Nat=>[(3,.sl (gl i).length ((gl i).map iv) (.opn (B.length+3))),(31,iv i)]) (λi=>B++[.cells x.l 76,.cells (D.l mp) 88,.part (n+1) (tl.map iv) 3,.tail (gl i).length 1 3]) (λi=>True) (λ_ _=>rfl) (by rw[Dj];simp only[seval];simp[bm,Wk.refl]) (by rw[Dj];rfl) (λ_ _ _=>by simp) trivial (λbJ cm i cK _ R hR=> ?_);refine ak ?_;refine aD ?_;refine⟨λh=> ?_,λh=> ?_⟩
  ·have bB:i<x.pieces.length:=(by omega);obtain⟨v,hv,hv9,_⟩:=qD.num i bB;have Dl:t.getD (4+i) 0=v:=(by rw[SE,hv];rfl);have b3:(0<=(i:Int)/\(i:Int)<4)=True:=(by simp;omega);have fS:SD.wrap ((i:Int)+1)=((i+1:Nat):Int):=(by rw[bw _ (by omega)];rfl);have DN:SD.wrap ((v:Int)+x.first)=v+x.first:=bw _ (by omega);have Lf:(D.l mp).drop (21+i)=iv v::((t.drop (4+i+1)).map iv++[]):=by
    have:=FO K7 aav hv;rw[show 21+i=17+(4+i) by omega];exact this
   have dc:gl (i+1)=gl i++[(v:Int)+x.first]:=(by rw[ki,ki,ajr,Dl]);have hli:=Lx i;refine aO ?_;refine ak ?_;refine ek 10 ?_;simp only[seval,z1,AC,Cx,b3,Lf,DN,bP,bn3,bs3]
   first|refine⟨by decide,by omega,?_⟩|refine⟨by omega,?_⟩
   refine ai ?_;simp only[seval,fS];refine hR _ ⟨bB,trivial,?_⟩;rw[dc,TG,S5];exact cT
  ·have dD:i=x.pieces.length:=(by omega);subst dD;clear hR;refine bU ?_
   (repeat apply im);refine v5 (t:=4) (sz:=1) (el:=3) (by simp only[seval]<;>rfl) ?_
   have G_:(gl x.pieces.length)=s7 x t x.pieces.length:=ki _;generalize gl x.pieces.length=nl at G_⊢;refine ai ?_;simp only[seval,AC,mI];obtain⟨go,hgo⟩:∃go:Nat->List Int,∀i,go i=s8 t i:=⟨_,λ_=>rfl⟩;have aah:go 0=[]:=(by rw[hgo];rfl);have alb:∀i,(go i).length=i:=λi=>(by rw[hgo];exact ajs _ _);refine bY ?_;refine gF x.aA.length (λi:Nat=>[(4,.sl (go i).length ((go i).map iv) (.opn (B.length+4))),(49,iv i)]) (λi=>B++[.cells x.l 76,.cells (D.l mp) 88,.part (n+1) (tl.map iv) 3,.tail nl.length 1 3,.tail (go i).length 1 3]) (λi=>True) (λ_ _=>rfl) (by rw[aah];simp only[seval];simp[bm,Wk.refl]) (by rw[aah];rfl) (λ_ _ _=>by simp) trivial (λbJ cm i cK _ R hR=> ?_);refine ak ?_;refine aD ?_;refine⟨λh=> ?_,λh=> ?_⟩
   ·have bB:i<x.aA.length:=(by omega);obtain⟨v,hv,hv9⟩:=qD.own i bB;have Dl:t.getD (8+i) 0=v:=(by rw[SE,hv];rfl);have b3:(0<=(i:Int)/\(i:Int)<3)=True:=(by simp;omega);have fS:SD.wrap ((i:Int)+1)=((i+1:Nat):Int):=(by rw[bw _ (by omega)];rfl);have Lf:(D.l mp).drop (25+i)=iv v::((t.drop (8+i+1)).map iv++[]):=by
     have:=FO K7 aav hv;rw[show 25+i=17+(8+i) by omega];exact this
    have dc:go (i+1)=go i++[(v:Int)]:=(by rw[hgo,hgo,ajt,Dl]);have hli:=alb i;refine aO ?_;refine ak ?_;refine ai ?_;simp only[seval,z1,Cx,b3,Lf,bn4,bs4]
    first|refine⟨by decide,by omega,?_⟩|refine⟨by omega,?_⟩
    refine ai ?_;simp only[seval,fS];refine hR _ ⟨bB,trivial,?_⟩;rw[dc,TG,S5];exact cT
   ·have dD:i=x.aA.length:=(by omega);subst dD;clear hR;refine bU ?_;have hxo:(go x.aA.length)=s8 t x.aA.length:=hgo _;generalize go x.aA.length=ol at hxo⊢;refine ak ?_;refine bc ?_;rw[<- G_,<- hxo]at cH;exact fE _ tl nl ol .shut _ _ 0 cH
end
open Go.Conc Go.Proofs Go.Gg.Tk
namespace Tk
def abV (n:Int)(o k:Int):Int:=yT [o,max (k-n) (n-k)]
def Ec (l:List Int)(n:Int)(o:Int):Int:=l.foldl (abV n) o
def rh (own q:Nat)(m:Int×Nat)(t:List Int):Int×Nat:=if m.2.testBit (mv t q)then m else(Ec (fG own 0 16) (mv t q) m.1,m.2|||2^mv t q)
def vW (x:aj)(y:aB)(q:Nat)(o:Int)(h:List Int):Int:=if b_ h y=0 then o else((iM x 1 h).foldl (rh (b_ h y) q) (o,0)).1
def zS (x:aj)(y:aB)(q:Nat):Nat->Int
 |0=> -1
 |i+1=>(kq x i).foldl (vW x y q) (zS x y q i)
def I9 (x:aj)(i:Nat):List aa:=[.cells x.l 76,.cells [iv i] 3,.obj (.deferred (some [])),.gone]
def o6 (x:aj):Nat->List aa
 |0=>[]
 |i+1=>o6 x i++I9 x i
def xM (n:Nat):Nat->List Nat
 |0=>[]
 |i+1=>(n+4* i+2)::xM n i
theorem I_(x:aj):∀i,(o6 x i).length=4* i
 |0=>rfl
 |i+1=>by rw[o6,S5,I_ x i];rfl
theorem Ps(x:aj)(B:List aa):∀(i:Nat)(L:List aa),∃Y,iP (xM B.length i) (B++o6 x i++L)=some (B++Y)
 |0,L=>⟨o6 x 0++L,by rw[xM,Aq,SC]⟩
 |i+1,L=>by
  have hl:(B++o6 x i).length=B.length+4* i:=by rw[S5,I_]
  have e:B++o6 x (i+1)++L=(B++o6 x i)++(I9 x i++L):=by rw[o6];simp
  have hg:((B++o6 x i)++(I9 x i++L))[B.length+4* i+2]?=some (.obj (.deferred (some []))):=by rw[<- hl,aY];rfl
  obtain⟨Y,hY⟩:=Ps x B i ([.cells x.l 76,.cells [iv i] 3,.gone,.gone]++L);refine⟨Y,?_⟩;rw[xM,e,Ap hg,<- hl,dJ];exact hY
end Tk
theorem agt{lv:Bool}{P:SI}{nt:Nat}{c:T7}{s:AS}{ms:List Nat}{Φ:an->AS->List Nat->Prop}(h:kz lv P nt [] c s ms Φ):mz lv P nt c s ms Φ:=λE V a Q ah hd hQ=>
 h E V a Q ah ⟨by rw[SN];exact hd.1,hd.2⟩ λae e E' V' a' s' cD hk aT cz he hΦ=>hQ ae e E' V' a' s' cD hk aT ⟨by have:=cz.1;rwa [SN]at this,cz.2⟩ he hΦ
section
variable {lv:Bool}{H:List aa}{k kp:AV->List aa->Prop}
theorem aiV{x:aj}{s q:Nat}{y:aB}(hx:x.Ok)(hs:x.aA[s]?=some y)(hq:q<x.pieces.length)(hk:∀o:Int,o=zS (x.wo [(s:Int)]) y q (x.am.toNat+1)->k (.aN [iv (if o<0 then 0 else o),iv (if o<0 then 11 else 0)]) H):bf lv SA 31 H [x.av,iv s,iv q] k kp:=by
 refine Rn (rs:=[.tmp 6,.tmp 7]) (nt:=97) F.f31 rfl rfl rfl (by simp) λhH hA=> ?_;simp only[bt,SY,aj.av];have hp:=hx.am;have aR:=hx.de;have nF:=hx.ec;have cw:=eN hs;have nG:=acB hq;obtain⟨p,iy⟩:∃p:Nat,x.am=p:=⟨x.am.toNat,by omega⟩;obtain⟨w,hw⟩:∃w,w=x.wo [(s:Int)]:=⟨_,rfl⟩;have MC:w.Ok:=by rw[hw];exact hx.wo _
 have bP:x.l=[iv x.first,iv x.hours,iv x.am,cY x.seen,aL x.pieces,aL x.aA]:=rfl;have gr:∀(L:List aa)(j:Nat),(H++L)[H.length+j]?=L[j]?:=λL j=>aY H L j;have A1:∀(L:List aa)(j:Nat)(y:aa),(H++L).set (H.length+j) y=H++L.set j y:=λL j y=>dJ H L j y;have aX:∀(L:List aa),(H++L)[H.length]?=L[0]?:=λL=>aY H L 0;have cQ:∀(L:List aa),(H++L)[H.length+1]?=L[1]?:=λL=>aY H L 1;have kF:∀(L:List aa),(H++L)[H.length+2]?=L[2]?:=λL=>aY H L 2;have mI:∀(L:List aa),(H++L)[H.length+5]?=L[5]?:=λL=>aY H L 5;have Mk:∀(L:List aa)(y:aa),(H++L).set (H.length+5) y=H++L.set 5 y:=λL y=>dJ H L 5 y;have hd6:∀(L:List aa),(H++L)[H.length+6]?=L[6]?:=λL=>aY H L 6;have hs6:∀(L:List aa)(y:aa),(H++L).set (H.length+6) y=H++L.set 6 y:=λL y=>dJ H L 6 y;have dw:x.l.length=6:=rfl;have fx:TS 6 x.l=x.l:=rfl;have aac:TH 5 x.l=[.sl x.aA.length (x.aA.flatMap aB.l) .shut]:=rfl;have De:TH 2 x.l=[iv x.am,cY x.seen,aL x.pieces,aL x.aA]:=rfl;have F4:(1<=2^24)=True:=eq_true (by decide);(try refine nc ?_);refine ak ?_;(try refine nc ?_);refine ai ?_;simp only[seval,aX,dw,fx];refine aJ ((J_ (x:=x) hx ?_));(try simp only[seval]);(try refine nc ?_);refine ai ?_;simp only[seval,show ((0:Int)!=0)=false from rfl];(try refine nc ?_);refine aD ?_;refine aO ?_;(try refine nc ?_);refine ai ?_;simp only[seval,z1,F4,aX,kF,dw,fx];refine aJ ((J9 (x:=x) (ns:=[(q:Int)]) ?_));have bC:SD.wrap ((x.aA.length:Int)-1)=(x.aA.length:Int)-1:=bw _ (by omega);have ho1:(decide ((s:Int)<0)||decide ((s:Int)>(x.aA.length:Int)-1))=false:=by simp;omega
 (try simp only[seval]);refine aJ ((Kd (x:=x) (ns:=[(q:Int)]) (e:=.exact) (il:=H.length+4) (ir:=H.length+3) hx (by simp) (by rw[gr];rfl) (by rw[gr];rfl) ?_));rw[nG];(try simp only[seval,aX,cQ,aac,bC]);refine aJ ((sZ (n:=s) (lo:=0) (hi:=(x.aA.length:Int)-1) ?_));rw[ho1];(try simp only[seval]);(try refine nc ?_);refine aD ?_;refine aO ?_;(try refine nc ?_);have akw:ug [(s:Int)] x.aA.length:=λi n hn=>by
  match i,hn with
  |0,hn=>cases hn;simp;omega
 refine ai ?_;simp only[seval,z1,F4,aX,cQ,dw,fx];refine aJ ((Q9 (x:=x) (ns:=[(s:Int)]) aR akw ?_));rw[<- hw];have rY:w.l.length=6:=rfl;have u9:TS 6 w.l=w.l:=rfl;have hlw:w.l=[iv w.first,iv w.hours,iv w.am,cY w.seen,aL w.pieces,aL w.aA]:=rfl;have MF:TH 6 [AV.val (SF SD 0),AV.val (SF SD 0),AV.val (SF SD 0),AV.sl 0 [] .exact,AV.sl 0 [] .exact,AV.sl 0 [] .exact]=[]:=rfl;(try simp only[seval,aj.av,rY,u9,mI,Mk,hd6,hs6,MF]);refine⟨vE w,?_⟩;have fY:SD.wrap (x.am+1)=((p+1:Nat):Int):=by rw[iy,bw _ (by omega)];rfl
 refine Jh ?_;refine nc ?_;refine ai ?_;simp only[seval,aX,De,fY];obtain⟨Bo,rz⟩:∃Bo:Int->List aa,∀o,Bo o=H++[.cells x.l 26,.cells [iv s] 3,.cells [iv q] 3,.cells x.l 26,.cells [.sl 1 [iv q] .exact] 22,.cells w.l 76,.cells [iv o] 3]:=⟨_,λ_=>rfl⟩;have fP:∀o,(Bo o).length=H.length+7:=λo=>by rw[rz];simp
 have b0:∀o L,(Bo o++L)[H.length]?=some (.cells x.l 26):=λo L=>by rw[rz,SC,aX];rfl
 have b1:∀o L,(Bo o++L)[H.length+1]?=some (.cells [iv s] 3):=λo L=>by rw[rz,SC,gr];rfl
 have b2:∀o L,(Bo o++L)[H.length+2]?=some (.cells [iv q] 3):=λo L=>by rw[rz,SC,gr];rfl
 have b5:∀o L,(Bo o++L)[H.length+5]?=some (.cells w.l 76):=λo L=>by rw[rz,SC,gr];rfl
 have b6:∀o L,(Bo o++L)[H.length+6]?=some (.cells [iv o] 3):=λo L=>by rw[rz,SC,gr];rfl
 have s6:∀o o' L,(Bo o++L).set (H.length+6) (.cells [iv o'] 3)=Bo o'++L:=λo o' L=>by rw[rz,rz,SC,SC,A1];rfl
 obtain⟨fo,wH⟩:∃fo:Nat->Int,∀i,fo i=zS w y q i:=⟨_,λ_=>rfl⟩;refine agt ?_;refine xO ?_;refine PP (measure λi=>p+1-i).wf (λi:Nat=>⟨[(45,iv i),(44,iv ((p+1:Nat):Int)),(3,.op H.length 0),(4,.op (H.length+1) 0),(5,.op (H.length+2) 0),(9,.op (H.length+5) 0),(10,.op (H.length+6) 0)],Bo (fo i)++o6 w i⟩) (λi=>xM (H.length+7) i) (λi=>i<=p+1) 0 (dz (by simp only[seval];simp[bm,Wk.refl]) (by rw[rz,wH];show _=_++[];rw[SN];rfl)) rfl (by omega) λi oE=> ?_;obtain⟨N,hN⟩:∃N,N=H.length+7+4* i:=⟨_,rfl⟩;obtain⟨AO,qe⟩:∃AO:Int->List aa,∀o,AO o=Bo o++o6 w i:=⟨_,λ_=>rfl⟩;have qf:∀o,(AO o).length=N:=λo=>by rw[qe,S5,fP,I_,hN]
 have a0:∀o L,(AO o++L)[H.length]?=some (.cells x.l 26):=λo L=>by rw[qe,SC];exact b0 _ _
 have a1:∀o L,(AO o++L)[H.length+1]?=some (.cells [iv s] 3):=λo L=>by rw[qe,SC];exact b1 _ _
 have a2:∀o L,(AO o++L)[H.length+2]?=some (.cells [iv q] 3):=λo L=>by rw[qe,SC];exact b2 _ _
 have a5:∀o L,(AO o++L)[H.length+5]?=some (.cells w.l 76):=λo L=>by rw[qe,SC];exact b5 _ _
 have a50:∀o,(AO o)[H.length+5]?=some (.cells w.l 76):=λo=>by have:=a5 o [];rwa [SN]at this
 have a6:∀o L,(AO o++L)[H.length+6]?=some (.cells [iv o] 3):=λo L=>by rw[qe,SC];exact b6 _ _
 have as6:∀o o' L,(AO o++L).set (H.length+6) (.cells [iv o'] 3)=AO o'++L:=λo o' L=>by rw[qe,qe,SC,SC];exact s6 _ _ _
 have ag:∀o (L:List aa)(j:Nat),(AO o++L)[N+j]?=L[j]?:=λo L j=>by rw[<- qf o,aY]
 have uq:∀o (L:List aa)(j:Nat)(y:aa),(AO o++L).set (N+j) y=AO o++L.set j y:=λo L j y=>by rw[<- qf o,dJ]
 have NB:∀m o o',(∀z∈AO o,eQ m z)->∀z∈AO o',eQ m z:=λm o o' hz z eW=>by
  rw[qe,rz]at hz eW;simp only[SQ]at eW;rcases eW with(h'|h')|h'
  ·exact hz z (by simp[h'])
  ·simp only[SK,SZ,or_false]at h';rcases h' with rfl|rfl|rfl|rfl|rfl|rfl|rfl
   ·exact hz _ (by simp)
   ·exact hz _ (by simp)
   ·exact hz _ (by simp)
   ·exact hz _ (by simp)
   ·exact hz _ (by simp)
   ·exact hz _ (by simp)
   ·intro a ha;rw[S8]at ha;subst ha;exact .val _
  ·exact hz z (by simp[h'])
 have okX:∀(X:List aa) o o',bH (AO o++X)->bH (AO o'++X):=λX o o' hX z hz=>by
  have hlen:(AO o'++X).length=(AO o++X).length:=by simp[qf]
  rw[hlen];rcases SQ.1 hz with h'|h'
  ·exact NB _ o o' (λz hz=>hX z (Th _ hz)) z h'
  ·exact hX z (S4 _ h')
 rw[<- qe];refine sR ?_;refine ak ?_;refine sR ?_;refine aD ?_;refine⟨λhc=> ?_,λhc=> ?_⟩
 ·have qp:i<=3:=by omega
  have KG:=EI MC i qp;refine aO ?_;refine FA ?_;refine xO ?_;refine sR ?_;refine ak ?_;refine sR ?_;refine ai ?_;simp only[seval,a50,hlw];refine aJ ((J' (x:=w) (n:=i) ?_));rw[qf];(try simp only[seval]);refine xO ?_;refine Ji (by rfl) λl fn T Pq bo hT yj qj=> ?_;(try simp only[seval]);rw[qf];have hY:jP lv SA (.fn (.yield l) [] []) (λo h=> .go (vW w y q o h)) (λo=>AO o++[.cells w.l 76,.cells [iv i] 3,.obj (.deferred (some [])),.loop l .ready none fn T 97 #[51] Pq bo (N+2)]) (N+4) (λ_=>True) (λh=>mA h/\∀ns∈fZ w h,∀a∈(iB w h ns).map (dE h ns),jw w a) (.aN []):=by
   refine⟨λo h M k kp _ ha dO=> ?_,λ_ _ _ _ _ _=>trivial,λo=>by simp[qf],λm o o' hz z eW=> ?_,rfl,rfl,rfl⟩
   ·obtain⟨pu,DK⟩:=ha;have h4:=pu.len;have nm:(h.map iv).length=4:=(by rw[S9,h4]);simp only[cX]at dO;obtain⟨Lo,kX⟩:∃Lo,Lo=aa.loop l .busy none fn T 97 #[51] Pq bo (N+2):=⟨_,rfl⟩;obtain⟨C,hC⟩:∃C,C=N+4+M.length:=⟨_,rfl⟩;obtain⟨P1,dB⟩:∃P1:Int->List aa,∀o,P1 o=AO o++([.cells w.l 76,.cells [iv i] 3,.obj (.deferred (some [])),Lo]++M):=⟨_,λ_=>rfl⟩;have eo:∀o,(P1 o).length=C:=λo=>(by rw[dB,hC];simp[qf];omega);have p0:∀o L,(P1 o++L)[H.length]?=some (.cells x.l 26):=λo L=>(by rw[dB,SC];exact a0 _ _);have p1:∀o L,(P1 o++L)[H.length+1]?=some (.cells [iv s] 3):=λo L=>(by rw[dB,SC];exact a1 _ _);have p2:∀o L,(P1 o++L)[H.length+2]?=some (.cells [iv q] 3):=λo L=>(by rw[dB,SC];exact a2 _ _);have p5:∀o L,(P1 o++L)[H.length+5]?=some (.cells w.l 76):=λo L=>(by rw[dB,SC];exact a5 _ _);have p6:∀o L,(P1 o++L)[H.length+6]?=some (.cells [iv o] 3):=λo L=>(by rw[dB,SC];exact a6 _ _);have ps6:∀o o' L,(P1 o++L).set (H.length+6) (.cells [iv o'] 3)=P1 o'++L:=λo o' L=>(by rw[dB o,dB o',SC (AO o),SC (AO o')];exact as6 _ _ _);have NN:∀o L,(P1 o++L)[N+3]?=some Lo:=λo L=>(by rw[dB,SC,ag];rfl);have N5:∀o (L:List aa) y,(P1 o++L).set (N+3) y=AO o++([.cells w.l 76,.cells [iv i] 3,.obj (.deferred (some [])),y]++M)++L:=λo L y=>(by rw[dB,SC,uq];simp);have pb:∀o (L:List aa)(j:Nat),(P1 o++L)[C+j]?=L[j]?:=λo L j=>(by rw[<- eo o,aY]);have xf:∀o (L:List aa),(P1 o++L)[C]?=L[0]?:=λo L=>pb o L 0;have pb1:∀o (L:List aa),(P1 o++L)[C+1]?=L[1]?:=λo L=>pb o L 1;have pb2:∀o (L:List aa),(P1 o++L)[C+2]?=L[2]?:=λo L=>pb o L 2;have Bq:∀o (L:List aa)(j:Nat)(y:aa),(P1 o++L).set (C+j) y=P1 o++L.set j y:=λo L j y=>(by rw[<- eo o,dJ]);have ps1:∀o (L:List aa)(y:aa),(P1 o++L).set (C+1) y=P1 o++L.set 1 y:=λo L y=>Bq o L 1 y;have ps2:∀o (L:List aa)(y:aa),(P1 o++L).set (C+2) y=P1 o++L.set 2 y:=λo L y=>Bq o L 2 y;have Bg:∀m o o',(∀z∈P1 o,eQ m z)->∀z∈P1 o',eQ m z:=λm o o' hz z eW=>by
     rw[dB]at hz eW;rcases SQ.1 eW with h'|h'
     ·exact NB m o o' (λz vb=>hz z (Th _ vb)) z h'
     ·exact hz z (S4 _ h')
    subst hT yj qj;rw[SC];refine wc (id:=N+3) (by rw[ag];rfl) rfl (by kernel_rfl) λov KH=> ?_;simp only[sC];have wF:TH 4 [iv 0,iv 0,iv 0,iv 0]=[]:=rfl;refine ai ?_;simp only[seval,h4,wF];unfold un;refine⟨none,fn,_,97,#[51],_,_,_,by rw[ag];rfl,?_⟩;dsimp only;rw[uq];simp only[UJ,T4];rw[<- kX];have ye:(AO o).length+(M.length+1+1+1+1)=C:=(by rw[qf,hC];omega);rw[ye];have yr:∀z:aa,(AO o++aa.cells w.l 76::aa.cells [AV.val (SF SD ↑i)] 3::aa.obj (au_ (some []))::Lo::(M++[z]))=P1 o++[z]:=λz=>(by rw[dB];simp[iv]);rw[yr];obtain⟨own,ew⟩:∃own,own=b_ h y:=⟨_,rfl⟩;refine bY ?_;refine o_ [7,8] (SU 9) (λD=>bif isDone 8 D then P1 o++[.cells (h.map iv) 83,.cells [wv own] 79]else bif isDone 7 D then P1 o++[.cells (h.map iv) 83,.cells [.val (.int .u16 0)] 79]else P1 o++[.cells (h.map iv) 83]) ?_;simp only[seval,eo,xf,pb1,ps1,p0,p1,h4,nm,aac,xj hs,jR cw];have hmE:TS 4 (Ve (λn=>AV.val (SF SD n)) h)=h.map iv:=SS (by rw[nm];exact SO _);rw[hmE];refine gR (wv own) (di (FT (h:=h) (y:=y) pu ⟨by rw[ew],rfl⟩)) ?_;refine⟨gR (wv own) (di (FT (h:=h) (y:=y) pu ⟨by rw[ew],rfl⟩)) rfl,?_⟩;(try simp only[seval,wv]);have hm3:Ve (λn=>AV.val (SF SD n)) h=h.map iv:=rfl;rw[hm3];refine ai ?_;simp only[seval,pb1];refine aD ?_;refine⟨λhz=> ?_,λhz=> ?_⟩
    ·refine bU ?_;have eW:own=0:=(by simpa using hz);have e1:vW w y q o h=o:=(by unfold vW;rw[<- ew,if_pos eW]);rw[e1]at dO;show oZ _ _ _ _ _ _ _;refine⟨l,.busy,none,fn,_,97,#[51],_,_,N+2,by show (P1 _++_)[_]?=_;rw[NN,kX],?_⟩;show cF C ((P1 _++_).set _ _) _ k;rw[N5];rw[SC]at dO;exact jU (G:=[.cells (h.map iv) 83,.cells [wv own] 79]) (Wk.refl _) rfl (by rw[hC];simp[qf];omega) ov (.val _) dO
    ·refine aO ?_;refine ai ?_;simp only[seval,eo];refine ai ?_;simp only[seval,p5,xf,hlw,h4,nm];have alq:TS 4 (Ve iv h)=h.map iv:=SS (by rw[nm];exact SO _);rw[alq];refine aJ ((Kc (x:=w) (h:=h) (deep:=1) ?_));(try simp only[seval]);have eW:own≠0:=(by simpa using hz);have alC:own<65536:=by
      rw[ew];have:b_ h y<2^9:=FB;omega
     refine bY ?_;refine Fx (N+3) (by rfl) (by show (P1 _++_)[N+3]?=_;rw[NN,kX]) λl2 eM T2 gE gG ox yk yl=> ?_;simp only[seval];rw[eo]at ox⊢;have okm:∀v m m',(∀z∈[aa.cells (h.map iv) 83,.cells [wv own] 79,.cells [wv m] 79,.cells w.l 76,.cells (h.map iv) 83,.cells [iv 1] 3,.loop l2 .ready none eM T2 97 #[64] gE gG (N+2)],eQ v z)->∀z∈[aa.cells (h.map iv) 83,.cells [wv own] 79,.cells [wv m'] 79,.cells w.l 76,.cells (h.map iv) 83,.cells [iv 1] 3,.loop l2 .ready none eM T2 97 #[64] gE gG (N+2)],eQ v z:=λv m m' hz z eW=>by
      simp only[SK,SZ,or_false]at eW;rcases eW with rfl|rfl|rfl|rfl|rfl|rfl|rfl
      ·exact hz _ (by simp)
      ·exact hz _ (by simp)
      ·intro a ha;rw[S8]at ha;subst ha;exact .val _
      ·exact hz _ (by simp)
      ·exact hz _ (by simp)
      ·exact hz _ (by simp)
      ·exact hz (.loop l2 .ready none eM T2 97 #[64] gE gG (N+2)) (by simp)
     have yi:jP lv SA (.fn (.yield l2) [] []) (λm t=> .go (rh own q m t)) (λm:Int×Nat=>P1 m.1++[.cells (h.map iv) 83,.cells [wv own] 79,.cells [wv m.2] 79,.cells w.l 76,.cells (h.map iv) 83,.cells [iv 1] 3,.loop l2 .ready none eM T2 97 #[64] gE gG (N+2)]) (C+7) (λm=>m.2<65536) (jw w) (.aN []):=by
      refine⟨λm t M2 k2 yR hm ht ld=> ?_,λm t m' hm ht he=> ?_,λm=>by simp[eo],λv m m' hz z eW=> ?_,rfl,rfl,rfl⟩
      ·obtain⟨o2,met⟩:=m;replace hm:met<65536:=hm;have qC:=ht.len;have A4:(t.map iv).length=11:=(by rw[S9,qC]);simp only[cX]at ld;have G8:w.pieces.length=x.pieces.length:=(by rw[hw];rfl);obtain⟨n,lO,hn9,_⟩:=ht.num q (by rw[G8];exact hq);have GY:mv t q=n:=(by unfold mv;rw[SE,lO];rfl);obtain⟨pY,tg⟩:∃Lo,Lo=aa.loop l2 .busy none eM T2 97 #[64] gE gG (N+2):=⟨_,rfl⟩;obtain⟨D,hD⟩:∃D,D=C+7+M2.length:=⟨_,rfl⟩;obtain⟨Q1,gp⟩:∃Q1:Int->Nat->List aa,∀o m,Q1 o m=P1 o++([.cells (h.map iv) 83,.cells [wv own] 79,.cells [wv m] 79,.cells w.l 76,.cells (h.map iv) 83,.cells [iv 1] 3,pY]++M2):=⟨_,λ_ _=>rfl⟩;have R7:∀o m,(Q1 o m).length=D:=λo m=>(by rw[gp,hD];simp[eo];omega);have q2:∀o m L,(Q1 o m++L)[H.length+2]?=some (.cells [iv q] 3):=λo m L=>(by rw[gp,SC];exact p2 _ _);have q6:∀o m L,(Q1 o m++L)[H.length+6]?=some (.cells [iv o] 3):=λo m L=>(by rw[gp,SC];exact p6 _ _);have qs6:∀o o' m L,(Q1 o m++L).set (H.length+6) (.cells [iv o'] 3)=Q1 o' m++L:=λo o' m L=>(by rw[gp o,gp o',SC (P1 o),SC (P1 o')];exact ps6 _ _ _);have qo:∀o m L,(Q1 o m++L)[C+1]?=some (.cells [wv own] 79):=λo m L=>(by rw[gp,SC,pb];rfl);have qm:∀o m L,(Q1 o m++L)[C+2]?=some (.cells [wv m] 79):=λo m L=>(by rw[gp,SC,pb];rfl);have qsm:∀o m m' L,(Q1 o m++L).set (C+2) (.cells [wv m'] 79)=Q1 o m'++L:=λo m m' L=>(by rw[gp o m,gp o m',SC (P1 o),Bq,SC (P1 o)];rfl);have ql:∀o m L,(Q1 o m++L)[C+6]?=some pY:=λo m L=>(by rw[gp,SC,pb];rfl);have qsl:∀o m L y,(Q1 o m++L).set (C+6) y=(P1 o++([.cells (h.map iv) 83,.cells [wv own] 79,.cells [wv m] 79,.cells w.l 76,.cells (h.map iv) 83,.cells [iv 1] 3,y]++M2))++L:=λo m L y=>(by rw[gp,SC,Bq];simp);have qc:∀o m (L:List aa),(Q1 o m++L)[D]?=L[0]?:=λo m L=>(by rw[<- R7 o m];exact aY _ L 0);have HS:∀o (L:List aa),(P1 o++L)[C+6]?=L[6]?:=λo L=>pb o L 6;have tz:∀(o':Int)(m':Nat)(G:List aa),bH (P1 o2++([aa.cells (h.map iv) 83,.cells [wv own] 79,.cells [wv met] 79,.cells w.l 76,.cells (h.map iv) 83,.cells [iv 1] 3,.loop l2 .ready none eM T2 97 #[64] gE gG (N+2)]++M2))->k2 (.val (.bool true)) (P1 o'++([aa.cells (h.map iv) 83,.cells [wv own] 79,.cells [wv m'] 79,.cells w.l 76,.cells (h.map iv) 83,.cells [iv 1] 3,.loop l2 .ready none eM T2 97 #[64] gE gG (N+2)]++M2))->cF D ((Q1 o' m'++G).set (C+6) (.loop l2 .ready none eM T2 97 #[64] gE gG (N+2))) (.val (.bool true)) k2:=λo' m' G aq aI=>by
        rw[qsl];refine jU (G:=G) (Wk.refl _) rfl (by rw[hD];simp[eo];omega) ?_ (.val _) aI;intro z hz;have hlen:(P1 o'++([aa.cells (h.map iv) 83,.cells [wv own] 79,.cells [wv m'] 79,.cells w.l 76,.cells (h.map iv) 83,.cells [iv 1] 3,.loop l2 .ready none eM T2 97 #[64] gE gG (N+2)]++M2)).length=(P1 o2++([aa.cells (h.map iv) 83,.cells [wv own] 79,.cells [wv met] 79,.cells w.l 76,.cells (h.map iv) 83,.cells [iv 1] 3,.loop l2 .ready none eM T2 97 #[64] gE gG (N+2)]++M2)).length:=(by simp[eo]);rw[hlen];rcases SQ.1 hz with h'|h'
        ·exact Bg _ o2 o' (λz hz=>aq z (Th _ hz)) z h'
        ·rcases SQ.1 h' with h'|h'
         ·exact okm _ met m' (λz hz=>aq z (S4 _ (Th _ hz))) z h'
         ·exact aq z (S4 _ (S4 _ h'))
       subst ox yk yl;rw[SC];refine wc (id:=C+6) (by rw[HS];rfl) rfl (by kernel_rfl) λrA KI=> ?_;simp only[sC];have De:TH 11 [iv 0,iv 0,iv 0,iv 0,iv 0,iv 0,iv 0,iv 0,iv 0,iv 0,iv 0]=[]:=rfl;refine ai ?_;simp only[seval,qC,De];unfold un;refine⟨none,eM,_,97,#[64],_,_,_,by rw[HS];rfl,?_⟩;dsimp only;rw[Bq];simp only[UJ,T4];rw[<- tg];have CX:(P1 o2).length+(M2.length+1+1+1+1+1+1+1)=D:=(by rw[eo,hD];omega);rw[CX];have iS:∀z:aa,(P1 o2++aa.cells (Ve iv h) 83::aa.cells [AV.val (SF S7 ↑own)] 79::aa.cells [AV.val (SF S7 ↑met)] 79::aa.cells w.l 76::aa.cells (Ve iv h) 83::aa.cells [AV.val (SF SD 1)] 3::pY::(M2++[z]))=Q1 o2 met++[z]:=λz=>(by rw[gp];simp[iv]);rw[iS];have b4:(0<=(q:Int)/\(q:Int)<4)=True:=(by simp;omega);have pq:=kT (i:=4+q) lO;refine ai ?_;simp only[seval,q2,qc,b4,pq];refine ai ?_;simp only[seval,qm];refine aJ ((x8 (m:=met) (n:=n) hm ?_));(try simp only[seval]);refine aD ?_;refine⟨λhb=> ?_,λhb=> ?_⟩
       ·refine bU ?_;have e1:rh own q (o2,met) t=(o2,met):=(by unfold rh;rw[GY,if_pos hb]);rw[e1]at ld;rw[SC]at ld;show oZ _ _ _ _ _ _ _;refine⟨l2,.busy,none,eM,_,97,#[64],_,_,N+2,by show (Q1 _ _++_)[_]?=_;rw[ql,tg],?_⟩;exact tz o2 met _ rA ld
       ·refine aO ?_;have dI:met.testBit n=false:=(by simpa using hb);have e1:rh own q (o2,met) t=(Ec (fG own 0 16) n o2,met|||2^n):=(by unfold rh;rw[GY,if_neg (by simpa using hb)]);rw[e1]at ld;rw[SC]at ld;refine ai ?_;simp only[seval,qm];refine aJ ((uA (m:=met) (n:=n) hm (by omega) ?_));(try simp only[seval,qm,qsm,wv]);refine ai ?_;simp only[seval,qo];refine aJ ((J8 (s:=own) (more:=0) alC (by decide) ?_));(try simp only[seval,br]);have hlb:∀v∈fG own 0 16,0<=v/\v<16:=λv hv=>by
         unfold fG at hv;obtain⟨j,hj,rfl⟩:=Te.1 hv;have:=Tx.1 (Uq.1 hj).1;omega
        have iu:=Nh own 0 16;generalize fG own 0 16=ls at hlb iu ld⊢;obtain⟨oj,kG⟩:∃oj:Nat->Int,∀j,oj j=Ec (ls.take j) n o2:=⟨_,λ_=>rfl⟩;have alE:oj 0=o2:=(by rw[kG];rfl);generalize met|||2^n=abO at ld⊢;refine bY ?_;refine gF ls.length (λj:Nat=>[(78,iv j)]) (λj=>Q1 (oj j) abO++[.cells (t.map iv) 86]) (λ_=>True) (λ_ _=>rfl) (by simp only[seval];simp[bm,Wk.refl]) (by rw[alE]) (λ_ _ _=>by simp[R7]) trivial (λbJ cm j py _ R hR=> ?_);clear bJ cm;refine ak ?_;refine aD ?_;refine⟨λh1=> ?_,λh1=> ?_⟩
        ·have e9:j<ls.length:=(by omega);obtain⟨v,hv⟩:=bZ e9;have hvb:=hlb v (xa hv);have dc:oj (j+1)=abV n (oj j) v:=by
          rw[kG,kG,Ec,Ec];obtain⟨ali,yK⟩:=SL.1 hv;rw[XN ali,ZS,yK];rfl
         have hwa:SD.wrap (v-(n:Int))=v-n:=bw _ (by omega);have G7:SD.wrap ((n:Int)-v)=n-v:=bw _ (by omega);have fS:SD.wrap ((j:Int)+1)=((j+1:Nat):Int):=(by rw[bw _ (by omega)];rfl);have akn:(2<=2^24)=True:=eq_true (by decide);refine aO ?_;refine ai ?_;simp only[seval,ff hv,jR e9];refine ai ?_;simp only[seval,q6,z2,akn,hwa,G7];have rO:(if v-(n:Int)<(n:Int)-v then(n:Int)-v else v-(n:Int))=max (v-n) (n-v):=(by split<;>omega);rw[rO];refine aJ ((ai7 (ns:=[oj j,max (v-n) (n-v)]) (by simp) ?_));(try simp only[seval,q6,qs6]);refine ai ?_;simp only[seval,fS];refine hR _ ⟨e9,trivial,?_⟩;rw[dc];exact cT
        ·have yA:j=ls.length:=(by omega);subst yA;refine bU ?_;show oZ _ _ _ _ _ _ _;refine⟨l2,.busy,none,eM,_,97,#[64],_,_,N+2,by show (Q1 _ _++_)[_]?=_;rw[ql,tg],?_⟩;exact tz (oj ls.length) abO _ rA (by rw[kG,TD];exact ld)
      ·cases he;show (rh own q m t).2<65536;unfold rh;split
       ·exact hm
       ·obtain⟨n,lO,hn9,_⟩:=ht.num q (by rw[hw];exact hq);have GY:mv t q=n:=(by unfold mv;rw[SE,lO];rfl);rw[GY];exact pP hm (xq (by omega))
      ·rcases SQ.1 eW with h'|h'
       ·exact Bg v m.1 m'.1 (λz vb=>hz z (Th _ vb)) z h'
       ·exact okm v m.2 m'.2 (λz vb=>hz z (S4 _ vb)) z h'
     refine di (Kg (x:=w) (h:=h) (deep:=1) (ir:=C+3) (ih:=C+3+1) (id:=C+3+2) (σ:=(o,0)) MC pu yi (λm L=> ?_) (λm L=> ?_) (λm L=> ?_) (λn=>by simp[jK]) (show (0:Nat)<65536 by decide) (λa ha=>ha.len) DK ?_)
     ·rw[SC];exact pb _ _ 3
     ·rw[SC];exact pb _ _ 4
     ·rw[SC];exact pb _ _ 5
     rw[Ep (g:=rh own q) (λ_ _=>rfl)];simp only[gg,SN];have e1:vW w y q o h=((iM w 1 h).foldl (rh own q) (o,0)).1:=(by unfold vW;rw[<- ew,if_neg eW]);generalize(iM w 1 h).foldl (rh own q) (o,0)=r at e1⊢;rw[e1]at dO;have HS:∀o (L:List aa),(P1 o++L)[C+6]?=L[6]?:=λo L=>pb o L 6;refine⟨.ready,none,_,_,_,_,_,_,_,by rw[HS];rfl,by decide,?_⟩;rw[Bq,HV];(try simp only[seval]);show oZ _ _ _ _ _ _ _;refine⟨l,.busy,none,fn,_,97,#[51],_,_,N+2,by show (P1 _++_)[_]?=_;rw[NN,kX],?_⟩;show cF C ((P1 _++_).set _ _) _ k;rw[N5];rw[SC]at dO;exact jU (G:=[.cells (h.map iv) 83,.cells [wv own] 79,.cells [wv r.2] 79,.cells w.l 76,.cells (h.map iv) 83,.cells [iv 1] 3,.gone]) (Wk.refl _) rfl (by rw[hC];simp[qf];omega) (okX _ o r.1 ov) (.val _) dO
   ·rcases SQ.1 eW with h'|h'
    ·exact NB m o o' (λz vb=>hz z (Th _ vb)) z h'
    ·exact hz z (S4 _ h')
  refine di (Ke (x:=w) (bh:=i) (ir:=N) (it:=N+1) (σ:=fo i) MC hY (λo L=> ?_) (λo L=> ?_) qp (λn=>by simp[jK]) trivial (λa ha=>KG a ha) ?_)
  ·rw[SC];exact ag _ _ 0
  ·rw[SC];exact ag _ _ 1
  rw[Ep (g:=vW w y q) (λ_ _=>rfl)];simp only[gg,SN];have hfx:(kq w i).foldl (vW w y q) (fo i)=fo (i+1):=by rw[wH,wH,zS]
  rw[hfx];have yN:SD.wrap ((i:Int)+1)=((i+1:Nat):Int):=by rw[bw _ (by omega)];rfl
  refine⟨.ready,none,_,_,_,_,_,_,_,by show (AO _++_)[N+3]?=_;rw[ag];rfl,by decide,?_⟩;rw[show N+2+1=N+3 from rfl,uq,HU];(try simp only[seval]);refine Fz ?_;refine ai ?_;simp only[seval,yN];refine⟨i+1,?_,by omega,dz (by push_cast;simp only[seval];simp[bm,Wk.refl]) (by rw[qe,o6,SC];rfl),by rw[xM,hN]⟩;show p+1-(i+1)<p+1-i;omega
 ·have dD:i=p+1:=by omega
  subst dD;refine bU ?_;have I5:∀o,(AO o)[H.length+6]?=some (.cells [iv o] 3):=λo=>by have:=a6 o [];rwa [SN]at this
  have nH:x.am.toNat=p:=by omega
  rw[nH]at hk;have aI:=hk (fo (p+1)) (by rw[wH,hw]);generalize fo (p+1)=o at aI⊢;(try refine nc ?_);refine ai ?_;simp only[seval,I5];obtain⟨Y,wu⟩:=Ps w (Bo o) (p+1) [];rw[SN,fP]at wu;have Sf:iP (xM (H.length+7) (p+1)) (AO o)=some (H++([.cells x.l 26,.cells [iv s] 3,.cells [iv q] 3,.cells x.l 26,.cells [.sl 1 [iv q] .exact] 22,.cells w.l 76,.cells [iv o] 3]++Y)):=by rw[qe,wu,rz,SC]
  (try refine nc ?_);refine aD ?_;refine⟨λho=> ?_,λho=> ?_⟩
  ·have ba:o<0:=(by simpa using ho);rw[if_pos ba,if_pos ba]at aI;refine ak ?_;refine bc ?_;refine d_ Sf ?_;(try simp only[seval]);exact jA hH (Wk.refl _) (by simp[jK,eC]) aI
  ·have ba:¬o<0:=(by simpa using ho);rw[if_neg ba,if_neg ba]at aI;refine aO ?_;refine Jg ?_;have I5:∀o,(AO o)[H.length+6]?=some (.cells [iv o] 3):=λo=>(by have:=a6 o [];rwa [SN]at this);refine ai ?_;simp only[seval,I5];refine bc ?_;refine d_ Sf ?_;(try simp only[seval]);exact jA hH (Wk.refl _) (by simp[jK,eC]) aI
end
open Go.Conc Go.Proofs Go.Gg.Tk
namespace Tk
def fJ:aj:=⟨10,3,2,[⟨2,⟨12,13⟩⟩],[⟨⟨10,12⟩,⟨0,1⟩⟩,⟨⟨11,11⟩,⟨0,2⟩⟩,⟨⟨12,15⟩,⟨1,2⟩⟩],[⟨⟨12,12⟩,⟨0,2⟩⟩,⟨⟨10,15⟩,⟨2,2⟩⟩]⟩
def tY:aj:={fJ with aA:=[⟨⟨15,15⟩,⟨0,0⟩⟩,⟨⟨10,15⟩,⟨2,2⟩⟩]}
end Tk
theorem aeA:gU (TE #[SF .i64 0,SF .i64 0,SF .i64 0]) 3=[iv 0,iv 0,iv 0]:=rfl
theorem aez:gU (TE #[SF .i64 0,SF .i64 0,SF .i64 0,SF .i64 0]) 12=TJ 12 (iv 0):=rfl
theorem aey:gU (TE #[SF .i64 0,SF .i64 0,SF .i64 0,SF .i64 0]) 8=[iv 0,iv 0,iv 0,iv 0,iv 0,iv 0,iv 0,iv 0]:=rfl
theorem acT:TJ 12 (iv 0)=[iv 0,iv 0,iv 0,iv 0,iv 0,iv 0,iv 0,iv 0,iv 0,iv 0,iv 0,iv 0]:=rfl
theorem acu:(3<=2^24)=True:=eq_true (by decide)
theorem acv:(8<=2^24)=True:=eq_true (by decide)
theorem acs:(12<=2^24)=True:=eq_true (by decide)
section
variable {lv:Bool}{H:List aa}{k kp:AV->List aa->Prop}
theorem x7(hk:k fJ.av H):bf lv SA 53 H [] k kp:=by
 refine bI (rs:=[.cell 0 26]) (nt:=11) an_ λhH hA=> ?_;simp only[bt,SY];refine ak ?_;refine ak ?_;refine aJ ((Q_ (a:=2) (b:=12) (c:=13) ?_));(try simp only[seval,Seen.av,Seen.l,fL.av,aeA,acu]);refine aJ ((rq (a:=10) (b:=12) (c:=0) (d:=1) ?_));(try simp only[seval]);refine aJ ((rq (a:=11) (b:=11) (c:=0) (d:=2) ?_));(try simp only[seval]);refine aJ ((rq (a:=12) (b:=15) (c:=1) (d:=2) ?_));(try simp only[seval,aB.av,aB.l,aez,acT,acs]);refine aJ ((rq (a:=12) (b:=12) (c:=0) (d:=2) ?_));(try simp only[seval]);refine aJ ((rq (a:=10) (b:=15) (c:=2) (d:=2) ?_));have aX:∀(L:List aa),(H++L)[H.length]?=L[0]?:=λL=>aY H L 0;have cu:∀(L:List aa)(y:aa),(H++L).set H.length y=H++L.set 0 y:=λL y=>dJ H L 0 y;(try simp only[seval,aB.av,aB.l,aey,acv,aX,cu]);refine oe ?_;simp only[seval,aX];refine jA hH (b:=fJ.av) (OP (.cons (Wk.refl _) (.cons (Wk.refl _) (.cons (Wk.refl _) (.cons (jq _ _ _) (.cons (jq _ _ _) (.cons (jq _ _ _) .nil))))))) (by rw[Hx];trivial) hk
theorem ai2(hk:∀X:aa,k (.agg [iv 10,iv 3,iv 2,.sl 1 (fJ.seen.flatMap Seen.l) .exact,.sl 3 (fJ.pieces.flatMap aB.l) .exact,.bp (H.length+1) 0 2 2]) (H++[X,.cells (fJ.aA.flatMap aB.l) 48])):bf lv SA 53 H [] k kp:=by
 refine bI (rs:=[.cell 0 26]) (nt:=11) an_ λhH hA=> ?_;simp only[bt,SY];refine ak ?_
 (repeat apply im);refine Fy 8 (by kernel_rfl) ?_
 simp only[seval];refine aJ ((Q_ (a:=2) (b:=12) (c:=13) ?_));(try simp only[seval,Seen.av,Seen.l,fL.av,aeA,acu]);refine aJ ((rq (a:=10) (b:=12) (c:=0) (d:=1) ?_));(try simp only[seval]);refine aJ ((rq (a:=11) (b:=11) (c:=0) (d:=2) ?_));(try simp only[seval]);refine aJ ((rq (a:=12) (b:=15) (c:=1) (d:=2) ?_));(try simp only[seval,aB.av,aB.l,aez,acT,acs]);refine aJ ((rq (a:=12) (b:=12) (c:=0) (d:=2) ?_));(try simp only[seval]);refine aJ ((rq (a:=10) (b:=15) (c:=2) (d:=2) ?_));have aX:∀(L:List aa),(H++L)[H.length]?=L[0]?:=λL=>aY H L 0;have cu:∀(L:List aa)(y:aa),(H++L).set H.length y=H++L.set 0 y:=λL y=>dJ H L 0 y;(try simp only[seval,aB.av,aB.l,aey,acv,aX,cu]);refine oe ?_;simp only[seval,aX];exact b9 (hk _)
theorem ai3(hk:k tY.av H):bf lv SA 54 H [] k kp:=by
 refine bI (rs:=[.cell 0 26]) (nt:=8) Tryz.f54 λhH hA=> ?_;simp only[bt,SY];have gr:∀(L:List aa)(j:Nat),(H++L)[H.length+j]?=L[j]?:=λL j=>aY H L j;have A1:∀(L:List aa)(j:Nat)(y:aa),(H++L).set (H.length+j) y=H++L.set j y:=λL j y=>dJ H L j y;have aX:∀(L:List aa),(H++L)[H.length]?=L[0]?:=λL=>aY H L 0;have cu:∀(L:List aa)(y:aa),(H++L).set H.length y=H++L.set 0 y:=λL y=>dJ H L 0 y;refine ak ?_;refine ak ?_;refine aJ ((ai2 (λX=> ?_)));simp only[SC,Vm,UL];have kF:∀(L:List aa),(H++L)[H.length+2]?=L[2]?:=λL=>aY H L 2;have fX:∀(L:List aa)(y:aa),(H++L).set (H.length+2) y=H++L.set 2 y:=λL y=>dJ H L 2 y;have rG:∀(L:List aa),(H++L)[H.length+3]?=L[3]?:=λL=>aY H L 3;have pE:∀(L:List aa)(y:aa),(H++L).set (H.length+3) y=H++L.set 3 y:=λL y=>dJ H L 3 y;have hrx:fJ.aA.flatMap aB.l=[iv 12,iv 12,iv 0,iv 2,iv 10,iv 15,iv 2,iv 2]:=rfl;rw[hrx];have e2:H.length+1+1=H.length+2:=rfl;(try simp only[seval,rG,pE,e2]);refine ek 4 ?_;simp only[seval,kF,fX,rG];refine gR _ (di (rq (a:=15) (b:=15) (c:=0) (d:=0) ⟨rfl,rfl⟩)) ?_;(try simp only[seval,aB.av,aB.l,kF,fX]);obtain⟨rs,Dz⟩:∃rs,rs=tY.aA.flatMap aB.l:=⟨_,rfl⟩;have amb:[AV.val (SF SD 15),AV.val (SF SD 15),AV.val (SF SD 0),AV.val (SF SD 0),AV.val (SF SD 10),AV.val (SF SD 15),AV.val (SF SD 2),AV.val (SF SD 2)]=rs:=by rw[Dz];rfl
 have uZ:rs.length=8:=by rw[Dz];rfl
 rw[amb];refine ai ?_;simp only[seval,aX,cu,rG]
 (repeat apply im);refine Jf (id:=H.length+2) (by simp only[seval,kF]<;>rfl) ?_
 simp only[seval,fX,uZ]
 (repeat apply im);refine Cu (id:=H.length) (j:=5) (y:=aL tY.aA) (by simp only[seval,aX]<;>rfl) rfl ?_ ?_
 ·have e:aL tY.aA=.sl 2 (rs.take 8) .shut:=by rw[SS (by omega),Dz];rfl
  rw[e];exact EN (p:=8) (by simp only[seval,kF]<;>rfl) (by omega) (by omega)
 (try simp only[seval,cu]);refine oe ?_;simp only[seval,aX];refine jA hH (b:=tY.av) (OP (.cons (Wk.refl _) (.cons (Wk.refl _) (.cons (Wk.refl _) (.cons (jq _ _ _) (.cons (jq _ _ _) (.cons (Wk.refl _) .nil))))))) (by rw[Hx];trivial) hk
end
open Go.Gg.Tk
theorem zl:fJ.Ok:=by
 refine⟨by decide,by decide,by decide,by decide,by decide,by decide,λs hs=> ?_,λy hy=> ?_,λy hy=> ?_⟩
 ·simp only[fJ,S8]at hs;subst hs;exact⟨by decide,by decide,by decide,by decide⟩
 ·simp only[fJ,SK,SZ,or_false]at hy;rcases hy with rfl|rfl|rfl<;>exact⟨⟨by decide,by decide,by decide⟩,⟨by decide,by decide,by decide⟩⟩
 ·simp only[fJ,SK,SZ,or_false]at hy;rcases hy with rfl|rfl<;>exact⟨⟨by decide,by decide,by decide⟩,⟨by decide,by decide,by decide⟩⟩
theorem aos:tY.Ok:=by
 refine⟨by decide,by decide,by decide,by decide,by decide,by decide,λs hs=> ?_,λy hy=> ?_,λy hy=> ?_⟩
 ·simp only[tY,fJ,S8]at hs;subst hs;exact⟨by decide,by decide,by decide,by decide⟩
 ·simp only[tY,fJ,SK,SZ,or_false]at hy;rcases hy with rfl|rfl|rfl<;>exact⟨⟨by decide,by decide,by decide⟩,⟨by decide,by decide,by decide⟩⟩
 ·simp only[tY,SK,SZ,or_false]at hy;rcases hy with rfl|rfl<;>exact⟨⟨by decide,by decide,by decide⟩,⟨by decide,by decide,by decide⟩⟩
theorem ain:cnt fJ=4:=by kernel_rfl
theorem aiq:live fJ=[[10,11,13,14],[10,11,13,15],[10,12,13,14],[10,12,13,15]]:=by kernel_rfl
theorem aio:(bR fJ).head?=some ⟨[10,11,13,14],[12,11,13],[0,2]⟩:=by kernel_rfl
theorem air:xP (Eg fJ 2) 10 16=[13,14]:=by kernel_rfl
theorem QW:oM fJ 0 0=true/\vA fJ 0 0=false:=by decide+kernel
theorem QU:Ai tY=some [0]:=by kernel_rfl
theorem ail:zS (fJ.wo [1]) ⟨⟨10,15⟩,⟨2,2⟩⟩ 0 3=1:=by kernel_rfl
open Go.Conc Go.Proofs
theorem Tk.Bounds.of_map{l:List (List Int)}{g:List Int->List Int}{v w:List Int->Int}{a b:Int}(h:Bounds (l.map g) v a b)(e:∀y∈l,v (g y)=w y):Bounds l w a b:=by
 obtain⟨g1,m1,e1⟩:=h.A_;obtain⟨g2,m2,e2⟩:=h.A9;obtain⟨y1,n1,rfl⟩:=Te.1 m1;obtain⟨y2,n2,rfl⟩:=Te.1 m2;exact⟨⟨y1,n1,e1.trans (e y1 n1)⟩,λy hy=>by rw[<- e y hy];exact h.le _ (Te.2 ⟨y,hy,rfl⟩),⟨y2,n2,e2.trans (e y2 n2)⟩,λy hy=>by rw[<- e y hy];exact h.ge _ (Te.2 ⟨y,hy,rfl⟩)⟩
theorem aoR{h:List Int}{i:Nat}(hi:i<h.length):(cL h).getD i 0=h.getD i 0:=by
 unfold cL;rw[SE,SE,SX hi]
theorem abD{x:aj}{h:List Int}(hm:h∈live x):h.length=1+x.hours.toNat:=Gx (Uq.1 hm).1
theorem apj{x:aj}{D:Kn}(hx:x.Ok)(hD:fM x 0 D)(hh:D.has=true){hs:List (List Int)}(hp:hs.Perm D.aK)(v:List Int->Int)(w:List Int->Int)(e:∀y∈live x,v (cL y)=w y):Bounds (live x) w (hs.foldl (λb h=>b.add (v h)) (⟨0,0,false⟩:ii)).lo (hs.foldl (λb h=>b.add (v h)) (⟨0,0,false⟩:ii)).hi:=by
 have du:=hp.trans (abl hx hD);have aF:hs≠[]:=λh=>by
  rw[h]at du;have:=du.length_eq;rw[S9]at this;have h0:live x=[]:=UF this.symm;rw[(yP hx hD).2 (Ni.1 h0)]at hh;cases hh
 exact((agU v aF).aoB du).of_map e
theorem M7{x:aj}{deep:Int}{D:Kn}(hx:x.Ok)(hD:fM x deep D)(hh:D.has=true):bR x≠[]:=λh=>by
 rw[(yP hx hD).2 h]at hh;cases hh
theorem abN{α:Type}{f:Nat->α}{l:List α}{n:Nat}(d:α)(hl:l.length=n)(h:∀i,i<n->f i=l.getD i d):(SU n).map f=l:=by
 refine Yr λi=> ?_;rw[To];by_cases hi:i<n
 ·rw[XC hi,UT,h i hi,SE,SW (by omega)];rfl
 ·rw[Ux (by simp;omega),Ux (by omega)];rfl
theorem ah1{x:aj}(hx:x.Ok){u:Tr}(hu:u∈bR x){s:Nat}(hs:s<x.aA.length):(eF u).getD (8+s) 0=((u.bW.getD s 0:Nat):Int):=by
 obtain⟨h1,h2⟩:=xp hx hu;have h3:=(Ir hx hu).1;have hh:=hx.hours;have nF:=hx.ec;have h4:=zd (h:=u.bG) (by omega);have cw:s<u.bW.length:=by omega
 have hg:(eF u)[8+s]?=some ((u.bW[s]:Nat):Int):=by
  unfold eF dE lq;have h8:(cL u.bG++((u.aC.map λn=>(n-u.bG.headD 0).toNat).map (λn:Nat=>(n:Int))++TJ (4-(u.aC.map λn=>(n-u.bG.headD 0).toNat).length) (-1))).length=8:=by simp[h4];omega
  rw[Ta (by omega),h8,TU,SX (by simpa using cw),To,SW cw];rfl
 rw[SE,hg,SE,SW cw];rfl
theorem asN{x:aj}{u:Tr}(hu:u∈bR x):u.bG.headD 0=x.first:=by
 obtain⟨h,a,b⟩:=S6.1 hu;rw[zw b];exact(AL _ _ _ (by simp) a).2
theorem ajD{x:aj}(hx:x.Ok){u:Tr}(hu:u∈bR x):(eF u).take (x.hours.toNat+1)=u.bG:=by
 have hl:=(xp hx hu).1;have hh:=hx.hours;have h1:(eF u).take (x.hours.toNat+1)=((eF u).take 4).take (x.hours.toNat+1):=by rw[U8,WC (by omega)]
 rw[h1,JU hx hu];exact NI (by omega)
theorem ajE{x:aj}(hx:x.Ok){u:Tr}(hu:u∈bR x):s7 x (eF u) x.pieces.length=u.aC:=by
 unfold s7;refine abN 0 (xp hx hu).2 λi hi=> ?_;rw[ahY hx hu hi,asN hu];omega
theorem ajF{x:aj}(hx:x.Ok){u:Tr}(hu:u∈bR x):s8 (eF u) x.aA.length=u.bW.map λn:Nat=>(n:Int):=by
 unfold s8;refine abN 0 (by rw[S9];exact(Ir hx hu).1) λi hi=> ?_;have hl:=(Ir hx hu).1;rw[ah1 hx hu hi,SE,SE,To,SW (by omega)];rfl
theorem ag9{x:aj}(hx:x.Ok):rk x= !(bR x).isEmpty:=by
 rw[U3];unfold rk;rw[Ur];have key:(∃i∈SU (x.am.toNat+1),((kq x i).any λh=> !(iM x 0 h).isEmpty)=true)<->∃i,i<x.am.toNat+1/\eA x 0 i≠[]:=by
  refine exists_congr λi=> ?_;rw[Tx];refine and_congr_right λhi=> ?_;rw[Ur,ne_eq];unfold eA;rw[Vv];constructor
  ·rintro⟨h,h1,h2⟩ h3
   rw[h3 h h1]at h2;cases h2
  ·intro h1;refine Tn λh2=>h1 λh hm=> ?_;refine Tn λh3=>h2 ⟨h,hm,?_⟩;cases hc:iM x 0 h with
   |nil=>exact absurd hc h3
   |cons=>rfl
 rw[key];have k2:(∃i,i<x.am.toNat+1/\eA x 0 i≠[])<->m_ x 0≠[]:=by
  unfold m_;rw[<- OT hx,ne_eq,Vv];constructor
  ·rintro⟨i,h1,h2⟩ h3
   rw[Ao hx h1]at h2;exact h2 (by rw[h3 i (Tx.2 h1)];rfl)
  ·intro h1;refine Tn λh2=>h1 λi hi=> ?_;refine Tn λh3=>h2 ⟨i,Tx.1 hi,?_⟩;rw[Ao hx (Tx.1 hi)];simpa using h3
 rw[k2,ne_eq,Pr];cases bR x<;>simp
section
variable {H:List aa}{k kp:AV->List aa->Prop}{x:aj}
theorem J3(hx:x.Ok)(hm:H[0]?=some .main)(hk:k (.aN [iv (cnt x),iv 0]) H):bf true SA 21 H [x.av] k kp:=
 aiN hx hm λD hD=>by rw[count_eq hx hD];exact hk
theorem J5{hour:Nat}(hx:x.Ok)(hh:(hour:Int)<=x.hours)(hm:H[0]?=some .main)(h0:bR x=[]->k (.aN [.agg [iv 0,iv 0],iv 11]) H)(h1:∀lo hi,bR x≠[]->Bounds (live x) (λh=>h.getD hour 0) lo hi->k (.aN [.agg [iv lo,iv hi],iv 0]) H):bf true SA 36 H [x.av,iv hour] k kp:=
 aiY hx hh hm λD hD=>⟨λhn=>h0 ((yP hx hD).1 hn),λhy hs hp=>h1 _ _ (M7 hx hD hy) (apj hx hD hy hp (λh=>h.getD hour 0) _ λy pJ=>aoR (by rw[abD pJ];have:=hx.hours;omega))⟩
theorem aiX{q:Nat}(hx:x.Ok)(hq:q<x.pieces.length)(hm:H[0]?=some .main)(h0:bR x=[]->k (.aN [br [],iv 11]) H)(h1:bR x≠[]->k (.aN [br (xP (Eg x q) x.first 16),iv 0]) H):bf true SA 34 H [x.av,iv q] k kp:=
 aiW hx hq hm λD hD=>⟨λhn=>h0 ((yP hx hD).1 hn),λhy=>by rw[abz λn _=>aop hx hD hq n];exact h1 (M7 hx hD hy)⟩
theorem J4{s q:Nat}(hx:x.Ok)(hs:s<x.aA.length)(hq:q<x.pieces.length)(hm:H[0]?=some .main)(hk:k (.aN [iv (if(bR x).isEmpty then 0 else vM (oM x s q) (vA x s q)),iv (if(bR x).isEmpty then 11 else 0)]) H):bf true SA 28 H [x.av,iv s,iv q] k kp:=
 aiU hx hs hq hm λD hD=>by rw[aoU hx hD hs,agB hx hD];exact hk
def CR (x:aj)(i:Nat):List Int:=(SU i).flatMap λs=>if 1<(xP (oM x s) 0 16).length then[-1]else xP (oM x s) 0 16
theorem aiT(hx:x.Ok)(hm:H[0]?=some .main)(h0:bR x=[]->k (.aN [br [],iv 11]) H)(h1:bR x≠[]->k (.aN [br (CR x x.aA.length),iv 0]) H):bf true SA 26 H [x.av] k kp:=
 aiS hx hm λD hD=>⟨λhn=>h0 ((yP hx hD).1 hn),λhy=>by
  have e:uB D.aU x.aA.length=CR x x.aA.length:=by
   unfold uB CR;refine s_ λs hs=> ?_;rw[abz λn _=>NJ hx hD (Tx.1 hs) n]
  rw[e];exact h1 (M7 hx hD hy)⟩
theorem aiL(hx:x.Ok)(hm:H[0]?=some .main)(h0:bR x=[]->k (.aN [br [],br [],br [],iv 11]) H)(h1:∀u l,bR x=u::l->k (.aN [br u.bG,br u.aC,br (u.bW.map λn:Nat=>(n:Int)),iv 0]) H):bf true SA 18 H [x.av] k kp:=
 aiK hx hm λD hD=>⟨λhn=>h0 ((yP hx hD).1 hn),λhy=>by
  obtain⟨u,l,e1,e2⟩:=amL hx hD hy;have hu:u∈bR x:=by rw[e1];simp
  rw[e2,ajD hx hu,ajE hx hu,ajF hx hu];exact h1 u l e1⟩
end
section
variable {lv:Bool}{H:List aa}{k kp:AV->List aa->Prop}
end
end Go.Gg
namespace Go.Gg.Tk
theorem Hm{h pre:List Int}(hp:pre≠[])(ht:h.take pre.length=pre):pre.getLastD 0=h.getD (pre.length-1) 0:=by
 have hl:0<pre.length:=Vy.2 hp;have e:pre[pre.length-1]?=h[pre.length-1]?:=by
  have:(h.take pre.length)[pre.length-1]?=pre[pre.length-1]?:=by rw[ht]
  rw[<- this,Uf,if_pos (by omega)]
 rw[SE,<- e,UR,Yg]
def Good (x:aj)(k:Nat)(h:List Int):Prop:=∀j,k<=j->j<h.length->oP x j (h.getD j 0)=true/\(j+1<h.length->∃n:Nat,n<x.am.toNat+1/\h.getD (j+1) 0=h.getD j 0+n)
theorem Io{h pre:List Int}{v:Int}:h.take (pre.length+1)=pre++[v]<->h.take pre.length=pre/\pre.length<h.length/\h.getD pre.length 0=v:=by
 constructor
 ·intro e;have hl:pre.length+1<=h.length:=by
   have:=congrArg Z9 e;rw[TV,S5,T_]at this;omega
  have h1:=congrArg (TS pre.length) e;rw[U8,Tw (SO _),TD,WC (by omega)]at h1;refine⟨h1,by omega,?_⟩;have h2:(h.take (pre.length+1))[pre.length]?=(pre++[v])[pre.length]?:=by rw[e]
  rw[Uf,if_pos (by omega),Ta (SO _),Vd]at h2;rw[SE,h2];rfl
 ·rintro⟨h1,h2,h3⟩
  rw[UZ,h1];congr 1;rw[SE,SW h2]at h3;rw[SW h2,<- h3];rfl
theorem LH{x:aj}:∀(d:Nat)(pre h:List Int),pre≠[]->(h∈jj x d pre<->h.length=pre.length+d/\h.take pre.length=pre/\Good x (pre.length-1) h)
 |0,pre,h,hp=>by
  have hl:0<pre.length:=Vy.2 hp;unfold jj;constructor
  ·intro hm;split at hm
   ·rename_i hs;rw[S8]at hm;subst hm;refine⟨rfl,TD,λj h1 h2=> ?_⟩;have:j=h.length-1:=(by omega);subst this;rw[Hm hp TD]at hs;exact⟨hs,λh=>by omega⟩
   ·cases hm
  ·rintro⟨h1,h2,h3⟩
   have e:h=pre:=(by rw[<- h2,SS (by omega)]);subst e;have:=(h3 (h.length-1) (SO _) (by omega)).1;rw[<- Hm hp TD]at this;rw[if_pos this];simp
 |d+1,pre,h,hp=>by
  have hl:0<pre.length:=Vy.2 hp;unfold jj;constructor
  ·intro hm;split at hm
   ·rename_i hs;obtain⟨n,hn,hm⟩:=S6.1 hm;rw[LH d _ h (by simp)]at hm;obtain⟨h1,h2,h3⟩:=hm;rw[S5,T_]at h1 h2 h3;obtain⟨h4,h5,h6⟩:=Io.1 h2;rw[Hm hp h4]at hs h6;refine⟨by omega,h4,λj yz Gy=> ?_⟩;by_cases hj:j=pre.length-1
    ·subst hj;refine⟨hs,λ_=>⟨n,Tx.1 hn,?_⟩⟩;rw[show pre.length-1+1=pre.length by omega];exact h6
    ·exact h3 j (by omega) Gy
   ·cases hm
  ·rintro⟨h1,h2,h3⟩
   obtain⟨hs,aR⟩:=h3 (pre.length-1) (SO _) (by omega);obtain⟨n,hn,he⟩:=aR (by omega);rw[show pre.length-1+1=pre.length by omega]at he;rw[Hm hp h2,if_pos hs];refine S6.2 ⟨n,Tx.2 hn,?_⟩;rw[LH d _ h (by simp),S5,T_];exact⟨by omega,Io.2 ⟨h2,by omega,he⟩,λj yz Gy=>h3 j (by omega) Gy⟩
theorem an8{h:List Int}(hm:∀j,j+1<h.length->h.getD j 0<=h.getD (j+1) 0):ul h:=by
 induction h with
 |nil=>trivial
 |cons a l ih=>
  cases l with
  |nil=>trivial
  |cons b l=>
   refine⟨?_,ih λj hj=> ?_⟩
   ·have:=hm 0 (by simp);simpa using this
   ·have:=hm (j+1) (by simp at hj⊢;omega);simpa using this
theorem ad3{n:Int}:∀(h:List Int)(i:Nat),ul h->(0<=eP i h n<->h.headD 0<=n/\n<h.getLastD 0)
 |[],i,_=>by simp[eP]<;>omega
 |[a],i,_=>by simp[eP]<;>omega
 |a::b::l,i,hm=>by
  obtain⟨h1,h2⟩:=hm;have ih:=ad3 (n:=n) (b::l) (i+1) h2;have uT:(a::b::l).getLastD 0=(b::l).getLastD 0:=by simp[Zt]
  rw[uT];unfold eP;split
  ·rename_i h;have cN:b<=(b::l).getLastD 0:=abT h2;constructor
   ·intro _;exact⟨h.1,by omega⟩
   ·intro _;omega
  ·rename_i h;rw[ih];have e1:(a::b::l).headD 0=a:=rfl;have e2:(b::l).headD 0=b:=rfl;rw[e1,e2];omega
where
 abT {b:Int}:∀{l:List Int},ul (b::l)->b<=(b::l).getLastD 0
  |[],_=>by simp
  |c::l,hm=>by
   obtain⟨h1,h2⟩:=hm;have:=abT h2;have e:(b::c::l).getLastD 0=(c::l).getLastD 0:=(by simp[Zt]);rw[e];omega
theorem ad7{h:List Int}{n:Int}(hm:ul h):0<=iL h n<->h.headD 0<=n/\n<h.getLastD 0:=ad3 h 0 hm
theorem ad5{n:Int}:∀(h:List Int)(i:Nat),0<=eP i h n->eP i h n+1<i+h.length
 |[],i,h=>by simp[eP]at h
 |[a],i,h=>by simp[eP]at h
 |a::b::l,i,h=>by
  unfold eP at h⊢;split
  ·simp;omega
  ·rename_i hn;rw[if_neg hn]at h;have:=ad5 (b::l) (i+1) h;simp at this⊢;omega
theorem ajI{h:List Int}{y:aB}{n:Int}(hm:ul h)(hf:fits h y n=true):n∈vw h:=by
 unfold fits at hf;simp only[Tl,decide_eq_true_eq]at hf;obtain⟨h1,h2⟩:=(ad7 hm).1 hf.1.1;unfold vw;refine Te.2 ⟨(n-h.headD 0).toNat,Tx.2 (by omega),by omega⟩
theorem RF{α:Type}[DecidableEq α]{l:List α}{d:α}{i:Nat}(hi:i<l.length):l.Nodup->l.getD i d∉l.take i:=λhn hm=>by
 obtain⟨j,hj⟩:=U5 hm;rw[Uf]at hj;split at hj
 ·rename_i cp;rw[SE,SW hi,SW (by omega)]at hj;simp only[S0,Tm]at hj;have h2:=Uv.1 hn;exact(Yf.1 h2) j i (by omega) hi cp hj
 ·cases hj
theorem abZ{α:Type}{l:List α}{d:α}(h:∀i,i<l.length->l.getD i d∉l.take i):l.Nodup:=by
 rw[Uv,Yf];intro i j hi hj ko e;refine h j hj ?_;rw[SE,SW hj,S0,<- e];exact UV.2 ⟨i,by rw[Uf,if_pos ko,SW hi]⟩
theorem Ip{α:Type}{d:α}{h pre:List α}{v:α}:h.take (pre.length+1)=pre++[v]<->h.take pre.length=pre/\pre.length<h.length/\h.getD pre.length d=v:=by
 constructor
 ·intro e;have hl:pre.length+1<=h.length:=by
   have:=congrArg Z9 e;rw[TV,S5,T_]at this;omega
  have h1:=congrArg (TS pre.length) e;rw[U8,Tw (SO _),TD,WC (by omega)]at h1;refine⟨h1,by omega,?_⟩;have h2:(h.take (pre.length+1))[pre.length]?=(pre++[v])[pre.length]?:=by rw[e]
  rw[Uf,if_pos (by omega),Ta (SO _),Vd]at h2;rw[SE,h2];rfl
 ·rintro⟨h1,h2,h3⟩
  rw[UZ,h1];congr 1;rw[SE,SW h2]at h3;rw[SW h2,<- h3];rfl
theorem HG{h:List Int}(hm:ul h):∀(ys:List aB)(t ns:List Int),ns∈kv h ys t<->ns.length=t.length+ys.length/\ns.take t.length=t/\∀i y,ys[i]?=some y->fits h y (ns.getD (t.length+i) 0)=true/\ns.getD (t.length+i) 0∉ns.take (t.length+i)
 |[],t,ns=>by
  simp only[kv,S8,UW,UI];constructor
  ·rintro rfl;exact⟨rfl,TD,λi y hy=>by cases hy⟩
  ·rintro⟨h1,h2,_⟩;rw[<- h2,SS (by omega)]
 |y::ys,t,ns=>by
  simp only[kv,S6,Uq,Tl,T1,Un];constructor
  ·rintro⟨n,⟨_,hf,ht⟩,fW⟩
   rw[HG hm ys (t++[n]) ns]at fW;obtain⟨h1,h2,h3⟩:=fW;rw[S5,T_]at h1 h2 h3;obtain⟨h4,h5,h6⟩:=(Ip (d:=0)).1 h2;refine⟨by omega,h4,λi z hz=> ?_⟩
   match i,hz with
   |0,hz=>
    cases hz;rw[UI,h6,h4];refine⟨hf,?_⟩;intro hc;rw[Us]at ht;simp at ht;exact ht hc
   |i+1,hz=>
    have:=h3 i z hz;rw[show t.length+1+i=t.length+(i+1) by omega]at this;exact this
  ·rintro⟨h1,h2,h3⟩
   obtain⟨hf,hn⟩:=h3 0 y rfl;rw[UI]at hf hn;rw[h2]at hn;refine⟨ns.getD t.length 0,⟨ajI hm hf,hf,by rw[Us];simpa using hn⟩,?_⟩;rw[HG hm ys _ ns,S5,T_];refine⟨by omega,(Ip (d:=0)).2 ⟨h2,by omega,rfl⟩,λi z hz=> ?_⟩;have:=h3 (i+1) z hz;rw[show t.length+(i+1)=t.length+1+i by omega]at this;exact this
theorem HR{h ns:List Int}:∀(ss:List aB)(t os:List Nat),os∈mq h ns ss t<->os.length=t.length+ss.length/\os.take t.length=t/\∀i s,ss[i]?=some s->fits h s (ns.getD (os.getD (t.length+i) 0) 0)=true/\os.getD (t.length+i) 0<ns.length/\os.getD (t.length+i) 0∉os.take (t.length+i)
 |[],t,os=>by
  simp only[mq,S8,UW,UI];constructor
  ·rintro rfl;exact⟨rfl,TD,λi y hy=>by cases hy⟩
  ·rintro⟨h1,h2,_⟩;rw[<- h2,SS (by omega)]
 |s::ss,t,os=>by
  simp only[mq,S6,Uq,Tl,T1,Un,Tx];constructor
  ·rintro⟨n,⟨hlt,hf,ht⟩,fW⟩
   rw[HR ss (t++[n]) os]at fW;obtain⟨h1,h2,h3⟩:=fW;rw[S5,T_]at h1 h2 h3;obtain⟨h4,h5,h6⟩:=(Ip (d:=0)).1 h2;refine⟨by omega,h4,λi z hz=> ?_⟩
   match i,hz with
   |0,hz=>
    cases hz;rw[UI,h6,h4];refine⟨hf,hlt,?_⟩;intro hc;rw[Us]at ht;simp at ht;exact ht hc
   |i+1,hz=>
    have:=h3 i z hz;rw[show t.length+1+i=t.length+(i+1) by omega]at this;exact this
  ·rintro⟨h1,h2,h3⟩
   obtain⟨hf,hlt,hn⟩:=h3 0 s rfl;rw[UI]at hf hlt hn;rw[h2]at hn;refine⟨os.getD t.length 0,⟨hlt,hf,by rw[Us];simpa using hn⟩,?_⟩;rw[HR ss _ os,S5,T_];refine⟨by omega,(Ip (d:=0)).2 ⟨h2,by omega,rfl⟩,λi z hz=> ?_⟩;have:=h3 (i+1) z hz;rw[show t.length+(i+1)=t.length+1+i by omega]at this;exact this
end Go.Gg.Tk
namespace Go.Gg
open Go.Gg.Tk
namespace Tk
structure O9 (x:aj)(u:Tr):Prop where
 bG:mV x.first x.am u.bG x.hours.toNat
 seen:∀s∈x.seen,iI s.next (u.bG.getD s.hour.toNat 0)=true
 y9:u.aC.length=x.pieces.length
 piece:∀(p:Nat) y,x.pieces[p]?=some y->fits u.bG y (u.aC.getD p 0)=true
 Nz:u.aC.Nodup
 Bm:u.bW.length=x.aA.length
 own:∀v∈u.bW,v<x.pieces.length
 stub:∀(s:Nat) y,x.aA[s]?=some y->fits u.bG y (u.aC.getD (u.bW.getD s 0) 0)=true
 NG:u.bW.Nodup
theorem _root_.Go.Gg.mV.mono{first am:Int}{l:List Int}{i:Nat}(h:mV first am l i):ul l:=an8 λj hj=>(h.step j (by have:=h.len;omega)).1
theorem aar{x:aj}(hx:x.Ok){h:List Int}:h∈aK x<->mV x.first x.am h x.hours.toNat/\∀s∈x.seen,iI s.next (h.getD s.hour.toNat 0)=true:=by
 have hp:=hx.am;unfold aK;rw[LH _ _ _ (by simp)];simp only[T_];constructor
 ·rintro⟨h1,h2,h3⟩
  have h4:=(Io (pre:=[]) (v:=x.first)).1 h2;refine⟨⟨by omega,h4.2.2,λj hj=> ?_⟩,λs hs=> ?_⟩
  ·obtain⟨n,hn,e⟩:=(h3 j (by omega) (by omega)).2 (by omega);omega
  ·have hsr:=(hx.seen s hs).1;have:=(h3 s.hour.toNat (by omega) (by omega)).1;unfold oP at this;have:=Tv.1 this s hs;have e:s.hour=(s.hour.toNat:Int):=(by omega);rw[<- e]at this;simpa using this
 ·rintro⟨h1,h2⟩
  have hl:=h1.len;refine⟨by omega,(Io (pre:=[]) (v:=x.first)).2 ⟨rfl,by simp;omega,h1.head⟩,λj _ hj=>⟨?_,λGy=> ?_⟩⟩
  ·unfold oP;rw[Tv];intro s hs;by_cases e:s.hour=(j:Int)
   ·have:=h2 s hs;rw[show s.hour.toNat=j by omega]at this;rw[this];simp
   ·simp[e]
  ·have:=h1.step j (by omega);exact⟨(h.getD (j+1) 0-h.getD j 0).toNat,by omega,by omega⟩
theorem asO{x:aj}{u:Tr}:u∈bR x<->u.bG∈aK x/\u.aC∈kv u.bG x.pieces []/\u.bW∈mq u.bG u.aC x.aA []:=by
 constructor
 ·intro hu;obtain⟨h,a,b⟩:=S6.1 hu;obtain⟨ns,c,d⟩:=S6.1 b;obtain⟨os,e,rfl⟩:=Te.1 d;exact⟨a,c,e⟩
 ·rintro⟨a,b,c⟩
  exact S6.2 ⟨u.bG,a,S6.2 ⟨u.aC,b,Te.2 ⟨u.bW,c,rfl⟩⟩⟩
theorem akc{l:List Nat}{i:Nat}(h:i<l.length):l.getD i 0∈l:=by
 rw[SE,SW h];exact Wz h
theorem an0{x:aj}(hx:x.Ok){u:Tr}:u∈bR x<->O9 x u:=by
 rw[asO,aar hx];constructor
 ·rintro⟨⟨h1,h2⟩,h3,h4⟩
  have hm:=h1.mono;rw[HG hm]at h3;rw[HR]at h4;simp only[UW,Wx]at h3 h4;obtain⟨a1,_,a3⟩:=h3;obtain⟨b1,_,b3⟩:=h4;refine⟨h1,h2,a1,λp y hy=>(a3 p y hy).1,abZ (d:=0) λi hi=> ?_,b1,λv hv=> ?_,λs y hy=>(b3 s y hy).1,abZ (d:=0) λi hi=> ?_⟩
  ·obtain⟨y,hy⟩:∃y,x.pieces[i]?=some y:=⟨_,SW (by omega)⟩;exact(a3 i y hy).2
  ·obtain⟨i,hi⟩:=U5 hv;have bB:=(SL.1 hi).1;obtain⟨y,hy⟩:∃y,x.aA[i]?=some y:=⟨_,SW (by omega)⟩;have:=(b3 i y hy).2.1;rw[SE,hi]at this;rw[<- a1];exact this
  ·obtain⟨y,hy⟩:∃y,x.aA[i]?=some y:=⟨_,SW (by omega)⟩;exact(b3 i y hy).2.2
 ·intro h;refine⟨⟨h.bG,h.seen⟩,?_,?_⟩
  ·rw[HG h.bG.mono];simp only[UW,Wx];refine⟨h.y9,rfl,λi y hy=>⟨h.piece i y hy,RF ?_ h.Nz⟩⟩;have:=(SL.1 hy).1;rw[h.y9];exact this
  ·rw[HR];simp only[UW,Wx];refine⟨h.Bm,rfl,λi y hy=> ?_⟩;have hi:=(SL.1 hy).1;have uO:i<u.bW.length:=(by rw[h.Bm];exact hi);exact⟨h.stub i y hy,by rw[h.y9];exact h.own _ (akc uO),RF uO h.NG⟩
end Tk
open Go.Gg.Tk
theorem amY{first am:Int}{l:List Int}{i:Nat}(h:mV first am l i):l.getLastD 0=l.getD i 0:=by
 have hl:=h.len;rw[UR,Yg,SE,hl];rfl
theorem ak6{first am:Int}{l:List Int}{i:Nat}(h:mV first am l i):l.headD 0=first:=by
 have hl:=h.len;have:=h.head;cases l with
 |nil=>cases hl
 |cons a l=>exact this
theorem mV.top{first am:Int}{l:List Int}{i:Nat}(h:mV first am l i)(hf:0<=first/\first<=90)(hp:1<=am/\am<=3)(hi:i<=3):∀j,j<=i->first<=l.getD j 0/\l.getD j 0<=first+9:=λj hj=>by
 have h1:=h.ge (by omega) j hj;have:am* (j:Int)<=3* 3:=Yj (by omega) (by omega) (by omega) (by omega);generalize am* (j:Int)=q at h1 this;omega
theorem KY{first am:Int}{l:List Int}{i:Nat}(h:mV first am l i)(hi:1<=i/\i<=3)(hf:0<=first/\first<=90)(hp:1<=am/\am<=3){n:Int}(hn:first<=n/\n<l.getD i 0)(τ:aZ):Fb l i n (lF τ l n i):=by
 have hl:=h.len;have hm:=h.mono;have ht:=h.top hf hp hi.2 i (SO _);have hk:=asz (n:=n) (by omega) (by omega) hm;have h0:0<=iL l n:=(ad7 hm).2 (by rw[ak6 h,amY h];exact hn);have h1:=ad5 l 0 h0;have KA:iL l n+1<l.length:=by have:eP 0 l n=iL l n:=rfl;omega
 have a1:=Cq (τ:=τ) (n:=n) (m:=2) (lo:=0) (hi:=99) (by omega) (by omega);have a2:=Cq (τ:=tick (tick τ)) (n:=iL l n) (m:=1) (lo:=0) (hi:=(i:Int)-1) (by omega) (by omega);refine⟨a1.1,?_,?_⟩
 ·unfold lF;rw[hk];exact a2.1
 ·unfold Tk.fits lF;rw[hk,Tl,Tl,decide_eq_true_eq];exact⟨⟨h0,a1.2⟩,a2.2⟩
variable {pm:Nat}{x:aj}{bG aC bW:List Int}
theorem Made.Sl(h:Made pm x bG aC bW){n:Int}(hn:n∈aC)(τ:aZ):Fb bG x.hours n (lF τ bG n x.hours):=by
 have hh:=h.hours;have:=KY h.Gw (by omega) h.first h.am (h.num n hn) τ;rw[Int.toNat_of_nonneg (by omega)]at this;exact this
theorem An{l:List Int}{i:Nat}(h:i<l.length):l.getD i 0∈l:=by
 rw[SE,SW h];exact Wz h
theorem Made.Py(h:Made pm x bG aC bW){p:Nat}{y:aB}(hy:x.pieces[p]?=some y):Fb bG x.hours (aC.getD p 0) y:=by
 obtain⟨τ,rfl⟩:=h.piece p y hy;exact h.Sl (An (by rw[h.y9];exact(SL.1 hy).1)) τ
theorem Made.Pz(h:Made pm x bG aC bW){s:Nat}{y:aB}(hy:x.aA[s]?=some y):Fb bG x.hours (aC.getD (bW.getD s 0).toNat 0) y:=by
 obtain⟨τ,rfl⟩:=h.stub s y hy;have hs:s<bW.length:=by rw[h.Bm];exact(SL.1 hy).1
 have:=h.own _ (An hs);exact h.Sl (An (by omega)) τ
theorem Made.ok(h:Made pm x bG aC bW)(rR:pm<=4):x.Ok:=by
 have hh:=h.hours;refine⟨h.first,h.hours,h.am,by have:=h.ua;omega,by have:=h.an9;omega,h.aA,λs hs=> ?_,λy hy=> ?_,λy hy=> ?_⟩
 ·obtain⟨h1,h2,τ,h3⟩:=h.seen s hs;have ht:=h.Gw.top h.first h.am (by omega) s.hour.toNat (by omega);have hf:=h.first;rw[h3];exact⟨⟨h1,h2⟩,(Cq (by omega) (by omega)).1⟩
 ·obtain⟨p,hp⟩:=U5 hy;have:=h.Py hp;exact⟨this.num,this.hour⟩
 ·obtain⟨p,hp⟩:=U5 hy;have:=h.Pz hp;exact⟨this.num,this.hour⟩
def acO (bG aC bW:List Int):Tr:=⟨bG,aC,bW.map Yb⟩
theorem Made.asJ(h:Made pm x bG aC bW):O9 x (acO bG aC bW):=by
 have hh:=h.hours;have pC:∀s,s<bW.length->(bW.map Yb).getD s 0=(bW.getD s 0).toNat:=λs hs=>by
  rw[SE,SE,To,SW hs];rfl
 refine⟨h.Gw,λs hs=> ?_,h.y9,λp y hy=>(h.Py hy).fits,h.Nz,by show (bW.map Yb).length=_;rw[S9];exact h.Bm,λv hv=> ?_,λs y hy=> ?_,?_⟩
 ·obtain⟨h1,h2,τ,h3⟩:=h.seen s hs;have ht:=h.Gw.top h.first h.am (by omega) s.hour.toNat (by omega);have hf:=h.first;rw[h3];exact(Cq (by show _<=bG.getD _ _/\_;omega) (by omega)).2
 ·obtain⟨w,hw,rfl⟩:=Te.1 hv;have:=h.own w hw;have:=h.y9;omega
 ·have hs:s<bW.length:=by rw[h.Bm];exact(SL.1 hy).1
  show Tk.fits bG y (aC.getD ((bW.map Yb).getD s 0) 0)=true;rw[pC s hs];exact(h.Pz hy).fits
 ·show (bW.map Yb).Nodup;rw[Uv,XA];refine Xy ?_ (Uv.1 h.NG);intro a c ha hc aF e;have h1:=h.own a ha;have h2:=h.own c hc;omega
theorem Made.mem(h:Made pm x bG aC bW)(rR:pm<=4):acO bG aC bW∈bR x:=(an0 (h.ok rR)).2 h.asJ
theorem Made.ne(h:Made pm x bG aC bW)(rR:pm<=4):bR x≠[]:=λe=>by
 have:=h.mem rR;rw[e]at this;cases this
variable {x:aj}
namespace Tk
end Tk
variable {x:aj}
open Go.Gg.Tk
variable {x:aj}
theorem Qf(x:aj):0<cnt x<->bR x≠[]:=by
 unfold cnt;rw[show (0:Int)<((live x).length:Int)<->live x≠[] by rw[<- Vy];omega];exact not_congr Ni
namespace Tk
def Ew (x:aj)(p:Nat)(y:aB):aj:={x with pieces:=x.pieces.set p y}
end Tk
variable {x:aj}
open Go.Conc Go.Proofs Go.Gg.Tk
theorem Ib{ys:List aB}{p:Nat}{y:aB}{s:Nat}{l:List AV}(hp:p<ys.length)(e:y.l=l):TS (p* 4) (ys.flatMap aB.l)++l++TH (p* 4+4) (ys.flatMap aB.l)=(ys.set p y).flatMap aB.l:=by
 subst e;rw[X8,if_pos hp,VE,T5,FX aB.len,show p* 4+4=(p+1)* 4 by omega,s9 aB.len,SC]
theorem arb{ys:List aB}{p:Nat}{y:aB}(hy:ys[p]?=some y)(a b:Int):TS (p* 4+0) (ys.flatMap aB.l)++[iv a,iv b]++TH (p* 4+0+2) (ys.flatMap aB.l)=(ys.set p ⟨⟨a,b⟩,y.hour⟩).flatMap aB.l:=by
 obtain⟨hp,rfl⟩:=SL.1 hy;rw[<- Ib (s:=0) (p:=p) (y:=⟨⟨a,b⟩,ys[p].hour⟩) hp rfl];have e:TH (p* 4+2) (ys.flatMap aB.l)=iv ys[p].hour.min::iv ys[p].hour.max::TH (p* 4+4) (ys.flatMap aB.l):=by
  have h1:TH (p* 4) (ys.flatMap aB.l)=ys[p].l++TH (p* 4+4) (ys.flatMap aB.l):=by
   rw[s9 aB.len,show p* 4+4=(p+1)* 4 by omega,s9 aB.len,TL hp,T5]
  rw[<- am_,h1];rfl
 rw[UI,e];simp[aB.l,fL.l]
section
variable {lv:Bool}{P:SI}{r:Option Nat}
theorem age{nt:Nat}{c:T7}{T:List (Nat×AV)}{H:List aa}{A8 jJ j cap:Nat}{ps:List aB}{l:List AV}{el:TypeId}{Φ:an->AS->Prop}(h1:H[A8]?=some (.own 4 (ps.flatMap aB.l) 48))(h2:H[jJ]?=some (.cells l el))(aF:A8≠jJ)(h3:l[j]?=some (.bp A8 0 ps.length cap))(h:aP lv P r nt c ⟨T,(H.set A8 (.part (ps.length* 4) (ps.flatMap aB.l) 48)).set jJ (.cells (l.set j (aL ps)) el)⟩ Φ):aP lv P r nt c ⟨T,H⟩ Φ:=by
 have hl:(ps.flatMap aB.l).length=ps.length* 4:=mQ aB.len _;refine PI (id:=A8) h1 ?_;have hlt:=(SL.1 h1).1;refine Cu (id:=jJ) (j:=j) (y:=aL ps) (el:=el) (by rw[Ua aF];exact h2) h3 ?_ ?_
 ·have e:aL ps=.sl ps.length ((ps.flatMap aB.l).take (ps.length* 4)) .shut:=by rw[SS (by omega)];rfl
  rw[e];exact EN (p:=(ps.flatMap aB.l).length) (l:=ps.flatMap aB.l) (el:=48) (by rw[UU,if_pos rfl,if_pos hlt]) (by omega) (by omega)
 ·rw[hl];exact h
end
def vR (i:Int)(y:aB):Prop:=sF y.number 99/\sF y.hour (i-1)
theorem aq9{ys:List aB}{p:Nat}{y:aB}(hy:ys[p]?=some y)(a b:Int):TS (p* 4+2) (ys.flatMap aB.l)++[iv a,iv b]++TH (p* 4+2+2) (ys.flatMap aB.l)=(ys.set p ⟨y.number,⟨a,b⟩⟩).flatMap aB.l:=by
 obtain⟨hp,rfl⟩:=SL.1 hy;rw[<- Ib (s:=0) (p:=p) (y:=⟨ys[p].number,⟨a,b⟩⟩) hp rfl];have e:TS (p* 4+2) (ys.flatMap aB.l)=TS (p* 4) (ys.flatMap aB.l)++[iv ys[p].number.min,iv ys[p].number.max]:=by
  have h1:TH (p* 4) (ys.flatMap aB.l)=ys[p].l++TH (p* 4+4) (ys.flatMap aB.l):=by
   rw[s9 aB.len,show p* 4+4=(p+1)* 4 by omega,s9 aB.len,TL hp,T5]
  rw[List.take_add,h1];rfl
 rw[e,show p* 4+2+2=p* 4+4 from rfl];simp[aB.l,fL.l]
section
variable {lv:Bool}{Gf:aZ->List aa}{t N:Nat}{b:Int}
theorem aiG{i mn np ns c:Nat}{first am:Int}{sv pv Ek Ed pw:AV}{gP:List aa}{de:List aB}{ρ:aZ}{zc:aa}{YY:List AV->Nat->Nat->Nat->List aa}{Φ:an->AS->Prop}(hT:dH Gf t N)(hY:YW Gf N zc YY)(yu:gP.length=np)(hb:b<2^10)(oD:0<=first/\first<=90)(rN:mn<=9)(gK:ns<=3)(cw:de.length=ns)(pF:∀y∈de,vR i y)(hρ:ρ.Ok (b+97))
  (hk:∀zu ρ',zu.length=ns->(∀y∈zu,vR i y)->ρ'.Ok (b+100)->aP lv SA none 240 (gk 13 og) ⟨[(16,Ek),(15,Ed),(13,iv mn),(11,pw),(10,.op (N+1) 0),(6,.op N 0),(0,.op t 0),(2,bv false)],Gf ρ'++(YY [iv first,iv i,iv am,sv,pv,fy (N+6+np) ns] c np ns++(gP++gO ns (fI zu)))⟩ Φ):
  aP lv SA none 240 (gk 12 og) ⟨[(16,Ek),(15,Ed),(13,iv mn),(11,pw),(10,.op (N+1) 0),(6,.op N 0),(0,.op t 0),(2,bv false)],Gf ρ++(YY [iv first,iv i,iv am,sv,pv,fy (N+6+np) ns] c np ns++(gP++gO ns (fI de)))⟩ Φ:=by
 obtain⟨uH,rB,y0,y1,y3,y4,y5,mT,zA,BR,BS,qh,tj,cu⟩:=hY;have iQ:∀L:List aa,dH (λτ=>Gf τ++L) t (N+L.length):=λL=>hT.more L;have w1:∀τ r c d e X m,(Gf τ++(YY r c d e++(gP++X)))[N+6+np+m]?=X[m]?:=λτ r c d e X m=>by rw[U6 (N+6),qh,Ta (by omega),yu,TU]
 have v1:∀τ r c d e X m y,(Gf τ++(YY r c d e++(gP++X))).set (N+6+np+m) y=Gf τ++(YY r c d e++(gP++X.set m y)):=λτ r c d e X m y=>by rw[U6 (N+6),tj,Ud _ _ (by omega),yu,TU]
 unfold og WY at hk⊢;dsimp only[S0,gk,cs,cf]at hk⊢;rcases Ul ns with h0|h0
 ·subst h0;have e0:fy (N+6+np) 0=.sl 0 [] .exact:=rfl;simp only[e0]at hk⊢;refine ai ?_;simp only[seval,y1];refine ai ?_;simp only[seval,decide_false,show decide ((0:Int)>0)=false from rfl];refine aD ?_;refine aO ?_;refine jx ?_ (hk de ρ cw pF (hρ.mono (by omega)));exact dz (by simp only[seval];simp[bm,Wk.refl]) rfl
 ·obtain⟨n2,qx⟩:∃n2,ns=n2+1:=⟨ns-1,by omega⟩;have DC:fy (N+6+np) ns=.bp (N+6+np+n2) 0 ns 0:=by rw[qx];rfl
  have uN:∀o,(gO ns o)[n2]?=some o:=λo=>by rw[qx];have:=CN n2 o [];rwa [SN]at this
  have u7:∀o o',(gO ns o).set n2 o'=gO ns o':=λo o'=>by rw[qx];have:=CO n2 o o' [];rwa [SN,SN]at this
  have hd:decide ((ns:Int)>0)=true:=by simp;omega
  rw[DC];simp only[DC]at hk;refine ai ?_;simp only[seval,y1];refine ai ?_;simp only[seval,hd];refine aJ ((FS (n:=3) (iQ _) hρ (by omega) (by decide) ?_));(try simp only[seval]);refine aD ?_;refine⟨λhc=> ?_,λhc=> ?_⟩
  ·have bC:SD.wrap ((ns:Int)-1)=(ns:Int)-1:=bw _ (by omega);have fY:SD.wrap (first+(mn:Int))=first+(mn:Int):=bw _ (by omega)
   have r1:=kM (tick ρ) ((ns:Int)-1);refine ai ?_;simp only[seval,bC];refine aJ ((oi (n:=(ns:Int)-1) (iQ _) hρ.tick (by omega) (by omega) ?_));obtain⟨q,hq⟩:∃q:Nat,dg (tick ρ) ((ns:Int)-1)=q:=⟨(dg (tick ρ) ((ns:Int)-1)).toNat,by omega⟩;rw[hq];have AW:q<ns:=(by omega);(try simp only[seval]);refine ai ?_;simp only[seval,y1,fY];have r2:=aen (tick (tick ρ)) (show first<=first+(mn:Int) by omega);refine aJ ((Q3 (lo:=first) (hi:=first+(mn:Int)) (iQ _) hρ.tick.tick (by omega) (by omega) (by omega) ?_));generalize BO (tick (tick ρ)) first (first+(mn:Int))=a at r2⊢
   (try simp only[seval]);obtain⟨y,hy⟩:=bZ (xs:=de) (i:=q) (by omega);have Ha:=pF y (S_ hy);have wS:=arb hy a a;simp only[iv]at wS;have rE:(0<=(q:Int)/\(q:Int)<(ns:Int))=True:=(by simp;omega);unfold fI at hk⊢;refine ai ?_;simp only[seval,y1,w1,v1,uN,u7,rE];refine⟨by rw[mQ aB.len];omega,?_⟩;rw[wS];have tN:∀z∈de.set q ⟨⟨a,a⟩,y.hour⟩,vR i z:=λz hz=>by
    rcases UD hz with hz|rfl
    ·exact pF z hz
    ·exact⟨⟨by show 0<=a;omega,Wd a,by show a<=99;omega⟩,Ha.2⟩
   refine jx ?_ (hk (de.set q ⟨⟨a,a⟩,y.hour⟩) (tick (tick (tick ρ))) (by rw[TF];exact cw) tN (hρ.tick.tick.tick.mono (by omega)));exact dz (by simp only[seval];simp[bm,Wk.refl]) rfl
  ·refine aO ?_;refine jx ?_ (hk de (tick ρ) cw pF (hρ.tick.mono (by omega)));exact dz (by simp only[seval];simp[bm,Wk.refl]) rfl
theorem aiE{i mn np ns c:Nat}{first am:Int}{sv tv Ek Ed pw:AV}{gS:List aa}{de:List aB}{ρ:aZ}{zc:aa}{YY:List AV->Nat->Nat->Nat->List aa}{Φ:an->AS->Prop}(hT:dH Gf t N)(hY:YW Gf N zc YY)(hb:b<2^10)(hi:1<=i/\i<=3)(gK:np<=4)(cw:de.length=np)(pF:∀y∈de,vR i y)(hρ:ρ.Ok (b+100))
  (hk:∀zu ρ',zu.length=np->(∀y∈zu,vR i y)->ρ'.Ok (b+110)->aP lv SA none 240 (gk 14 og) ⟨[(16,Ek),(15,Ed),(13,iv mn),(11,pw),(10,.op (N+1) 0),(6,.op N 0),(0,.op t 0),(2,bv false)],Gf ρ'++(YY [iv first,iv i,iv am,sv,fy (N+6) np,tv] c np ns++(gO np (fI zu)++gS))⟩ Φ):
  aP lv SA none 240 (gk 13 og) ⟨[(16,Ek),(15,Ed),(13,iv mn),(11,pw),(10,.op (N+1) 0),(6,.op N 0),(0,.op t 0),(2,bv false)],Gf ρ++(YY [iv first,iv i,iv am,sv,fy (N+6) np,tv] c np ns++(gO np (fI de)++gS))⟩ Φ:=by
 obtain⟨uH,rB,y0,y1,y3,y4,y5,mT,zA,BR,BS,qh,tj,cu⟩:=hY;have iQ:∀L:List aa,dH (λτ=>Gf τ++L) t (N+L.length):=λL=>hT.more L;unfold og WY at hk⊢;dsimp only[S0,gk,cs,cf]at hk⊢;rcases Ul np with h0|h0
 ·subst h0;have e0:fy (N+6) 0=.sl 0 [] .exact:=rfl;simp only[e0]at hk⊢;refine ai ?_;simp only[seval,y1];refine ai ?_;simp only[seval,decide_false,show decide ((0:Int)>0)=false from rfl];refine aD ?_;refine aO ?_;refine jx ?_ (hk de ρ cw pF (hρ.mono (by omega)));exact dz (by simp only[seval];simp[bm,Wk.refl]) rfl
 ·obtain⟨n2,qx⟩:∃n2,np=n2+1:=⟨np-1,by omega⟩;have DC:fy (N+6) np=.bp (N+6+n2) 0 np 0:=by rw[qx];rfl
  have uN:∀o,(gO np o++gS)[n2]?=some o:=λo=>by rw[qx];exact CN n2 o gS
  have u7:∀o o',(gO np o++gS).set n2 o'=gO np o'++gS:=λo o'=>by rw[qx];exact CO n2 o o' gS
  have hd:decide ((np:Int)>0)=true:=by simp;omega
  rw[DC];simp only[DC]at hk;refine ai ?_;simp only[seval,y1];refine ai ?_;simp only[seval,hd];refine aJ ((FS (n:=4) (iQ _) hρ (by omega) (by decide) ?_));(try simp only[seval]);refine aD ?_;refine⟨λhc=> ?_,λhc=> ?_⟩
  ·have bC:SD.wrap ((np:Int)-1)=(np:Int)-1:=bw _ (by omega);have fY:SD.wrap (i-1)=i-1:=bw _ (by omega);have r1:=kM (tick ρ) ((np:Int)-1);refine ai ?_;simp only[seval,bC];refine aJ ((oi (n:=(np:Int)-1) (iQ _) hρ.tick (by omega) (by omega) ?_));obtain⟨q,hq⟩:∃q:Nat,dg (tick ρ) ((np:Int)-1)=q:=⟨(dg (tick ρ) ((np:Int)-1)).toNat,by omega⟩;rw[hq];have AW:q<np:=(by omega);(try simp only[seval]);have r2:=kM (tick (tick ρ)) (i-1);refine ai ?_;simp only[seval,y1,fY];refine aJ ((oi (n:=i-1) (iQ _) hρ.tick.tick (by omega) (by omega) ?_));generalize dg (tick (tick ρ)) (i-1)=a at r2⊢;(try simp only[seval]);obtain⟨y,hy⟩:=bZ (xs:=de) (i:=q) (by omega);have Ha:=pF y (S_ hy);have wS:=aq9 hy a a;simp only[iv]at wS;have rE:(0<=(q:Int)/\(q:Int)<(np:Int))=True:=(by simp;omega);unfold fI at hk⊢;refine ai ?_;simp only[seval,y1,qh,tj,uN,u7,rE];refine⟨by rw[mQ aB.len];omega,?_⟩;rw[wS];have tN:∀z∈de.set q ⟨y.number,⟨a,a⟩⟩,vR i z:=λz hz=>by
    rcases UD hz with hz|rfl
    ·exact pF z hz
    ·exact⟨Ha.1,⟨by show 0<=a;omega,Wd a,by show a<=i-1;omega⟩⟩
   refine jx ?_ (hk (de.set q ⟨y.number,⟨a,a⟩⟩) (tick (tick (tick ρ))) (by rw[TF];exact cw) tN (hρ.tick.tick.tick.mono (by omega)));exact dz (by simp only[seval];simp[bm,Wk.refl]) rfl
  ·refine aO ?_;refine jx ?_ (hk de (tick ρ) cw pF (hρ.tick.mono (by omega)));exact dz (by simp only[seval];simp[bm,Wk.refl]) rfl
end
section
variable {lv:Bool}{P:SI}{r:Option Nat}
theorem PH{nt:Nat}{c:T7}{T:List (Nat×AV)}{Φ:an->AS->Prop}{P0 Q0:List aa}{M n jJ j:Nat}{l:List aB}{cl:List AV}(hM:P0.length=M)(hl:l.length=n)(LC:P0[jJ]?=some (.cells cl 26))(hj:cl[j]?=some (fy M n))(h:∀G',G'.length=n->aP lv P r nt c ⟨T,P0.set jJ (.cells (cl.set j (aL l)) 26)++(G'++Q0)⟩ Φ):aP lv P r nt c ⟨T,P0++(gO n (fI l)++Q0)⟩ Φ:=by
 have hlt:=(SL.1 LC).1
 match n,hl with
 |0,hl=>
  obtain rfl:l=[]:=UF hl;refine Cu (id:=jJ) (j:=j) (y:=aL []) (el:=26) (l:=cl) (x:=.sl 0 [] .exact) ?_ hj (xK.of (jq 0 [] .exact)) ?_
  ·show (P0++([]++Q0))[jJ]?=_;rw[SX hlt];exact LC
  ·show aP lv P r nt c ⟨T,(P0++([]++Q0)).set jJ _⟩ Φ;rw[UX _ _ hlt];exact h [] rfl
 |n+1,hl=>
  refine age (A8:=M+n) (jJ:=jJ) (j:=j) (cap:=0) (ps:=l) (l:=cl) (el:=26) ?_ ?_ (by omega) (by rw[hl];exact hj) ?_
  ·rw[<- hM,Ta (by omega),TU,CN];rfl
  ·rw[SX hlt];exact LC
  ·rw[Ud _ _ (by omega),<- hM,TU,CO,UX _ _ hlt];exact h _ (ya _ _)
end
section
variable {lv:Bool}{k kp:AV->List aa->Prop}{Gf:aZ->List aa}{t N:Nat}{b:Int}
theorem aiB{i mn np ns c:Nat}{first am:Int}{l aC bW:List Int}{ss:List Seen}{ec de:List aB}{ρ:aZ}{zc:aa}{YY:List AV->Nat->Nat->Nat->List aa}(hT:dH Gf t N)(hH:∀τ,bH (Gf τ))(hY:YW Gf N zc YY)(DW:zc=.cells [.val (.int .i64 0),.val (.int .i64 0),.val (.int .i64 0),.sl 0 [] .exact,.sl 0 [] .exact,.sl 0 [] .exact] 26)(iu:l.length=i+1)(GM:ec.length=np)(jG:aC.length=np)(nJ:de.length=ns)(GJ:bW.length=ns)(hc:ss.length=c)
  (hk:k (.aN [aj.av ⟨first,i,am,ss,ec,de⟩,br l,br aC,br bW]) (Gf ρ)):
  aP lv SA none 240 (gk 14 og) ⟨[(16,.sl ns (bW.map iv) (.opn (N+5))),(15,.sl np (aC.map iv) (.opn (N+4))),(13,iv mn),(11,.sl (i+1) (l.map iv) (.opn (N+2))),(10,.op (N+1) 0),(6,.op N 0),(0,.op t 0),(2,bv false)],Gf ρ++(YY [iv first,iv i,iv am,.sl c (ss.flatMap Seen.l) (.opn (N+3)),fy (N+6) np,fy (N+6+np) ns] c np ns++(gO np (fI ec)++gO ns (fI de)))⟩ (qU SA [.cell 6 26,.tmp 7,.tmp 8,.tmp 9] N k kp):=by
 have n0:=hY.n0;have zx:=hY.zx;have zy:=hY.zy;obtain⟨uH,rB,y0,y1,y3,y4,y5,mT,zA,BR,BS,qh,tj,cu⟩:=hY;have DL:∀τ (L:List aa)(y:aa),(Gf τ++L).set N y=Gf τ++L.set 0 y:=λτ L y=>by have:=dJ (Gf τ) L 0 y;rwa [hT.len]at this
 have tQ:∀τ (L:List aa),(Gf τ++L)[N]?=L[0]?:=λτ L=>by have:=aY (Gf τ) L 0;rwa [hT.len]at this
 unfold og WY;dsimp only[S0,gk,cs,cf];rw[<- SC];refine PH (M:=N+6) (jJ:=N+1) (j:=4) (n0 _ _ _ _ _) GM (zx _ _ _ _ _) rfl λG1 yf=> ?_;rw[zy,<- SC,<- SN (gO ns (fI de))];refine PH (M:=N+6+np) (jJ:=N+1) (j:=5) (cl:=[iv first,iv i,iv am,.sl c (ss.flatMap Seen.l) (.opn (N+3)),aL ec,fy (N+6+np) ns]) (by rw[S5,n0,yf]) nJ (by rw[SC];exact y1 _ _ _ _ _ _) rfl λG2 hG2=> ?_;rw[SC,mT,SC,SC];obtain⟨r2,GQ⟩:∃r2,r2=[iv first,iv i,iv am,.sl c (ss.flatMap Seen.l) (.opn (N+3)),aL ec,aL de]:=⟨_,rfl⟩;rw[show ([iv first,iv i,iv am,.sl c (ss.flatMap Seen.l) (.opn (N+3)),aL ec,fy (N+6+np) ns]:List AV).set 5 (aL de)=r2 by rw[GQ];rfl];have hr6:r2.length=6:=by rw[GQ];rfl
 have fx:TS 6 r2=r2:=SS (by omega);have jE:∀a∈r2,a.leaf=true:=by
  rw[GQ];intro a ha;simp only[SK,SZ,or_false]at ha;rcases ha with rfl|rfl|rfl|rfl|rfl|rfl<;>rfl
 have y00:∀τ r c d e G,(Gf τ++(YY r c d e++G))[N]?=some (.cells [.val (.int .i64 0),.val (.int .i64 0),.val (.int .i64 0),.sl 0 [] .exact,.sl 0 [] .exact,.sl 0 [] .exact] 26):=λτ r c d e G=>by rw[y0,DW]
 refine ai ?_;simp only[seval,y1,y00,hr6,fx];refine⟨jE,?_⟩;rw[DL];obtain⟨LL,hLL⟩:=cu r2 c np ns (.cells r2 26);rw[UX _ _ (by rw[uH];omega),hLL,Vm];refine oe ?_;simp only[seval,tQ,hr6,fx];refine jU (b:=.aN [aj.av ⟨first,i,am,ss,ec,de⟩,br l,br aC,br bW]) (H':=Gf ρ) (aeo ?_ ?_ ?_ ?_) rfl (by simp[hT.len]) (hH _) (by simp only[jK,SK,SZ,or_false,forall_eq_or_imp,forall_eq,Hx,yV,and_self]) hk
 ·rw[GQ,aj.av];refine OP (.cons (Wk.refl _) (.cons (Wk.refl _) (.cons (Wk.refl _) (.cons ?_ (.cons (Wk.refl _) (.cons (Wk.refl _) .nil))))));rw[<- hc];exact jq _ _ _
 ·rw[<- iu];exact jq _ _ _
 ·rw[<- jG];exact jq _ _ _
 ·rw[<- GJ];exact jq _ _ _
end
section
variable {lv:Bool}{k kp:AV->List aa->Prop}{Gf:aZ->List aa}{t N:Nat}{τ:aZ}{b:Int}
theorem aiD{pm:Nat}(hT:dH Gf t N)(hτ:τ.Ok b)(hb:b<2^10)(rR:pm<=4)(hk:∀(x:aj)(bG aC bW:List Int)(τ':aZ),x.Ok->x.pieces.length<=pm->bG.length<=4->aC.length<=4->bW.length<=3->τ'.Ok (b+200)->k (.aN [x.av,br bG,br aC,br bW]) (Gf τ')):bf lv SA 15 (Gf τ) [.op t 0,iv pm,bv false] k kp:=by
 refine bI (rs:=[.cell 6 26,.tmp 7,.tmp 8,.tmp 9]) (nt:=240) WY λhH hA=> ?_;simp only[bt,SY];have uG:∀o:aa,dH (λτ=>Gf τ++[o]) t (N+1):=λo=>hT.more [o];have gQ:∀τ (L:List aa)(j:Nat),(Gf τ++L)[N+j]?=L[j]?:=λτ L j=>by rw[<- hT.len τ,aY]
 have cR:∀τ (L:List aa)(j:Nat)(y:aa),(Gf τ++L).set (N+j) y=Gf τ++L.set j y:=λτ L j y=>by rw[<- hT.len τ,dJ]
 have tQ:∀τ (L:List aa),(Gf τ++L)[N]?=L[0]?:=λτ L=>gQ τ L 0;have DL:∀τ (L:List aa)(y:aa),(Gf τ++L).set N y=Gf τ++L.set 0 y:=λτ L y=>cR τ L 0 y;refine ak ?_;refine ak ?_;refine aJ ((oi (uG _) hτ (by omega) (by omega) ?_));have r1:=kM τ 90;generalize dg τ 90=u1 at r1⊢;(try simp only[seval,zE4,tZ]);refine aJ ((J6 (ns:=[0,1,10,u1]) (uG _) hτ.tick (by omega) (by simp) (by simp) ?_));have r2:=JR (tick τ) (ns:=[0,1,10,u1]) (by simp);simp only[SK,SZ,or_false]at r2;generalize wj (tick τ) [0,1,10,u1]=first at r2⊢
 (try simp only[seval]);refine aJ ((Q3 (lo:=1) (hi:=3) (uG _) hτ.tick.tick (by omega) (by decide) (by decide) ?_));have r3:=aen (tick (tick τ)) (show (1:Int)<=3 by decide);generalize BO (tick (tick τ)) 1 3=hours at r3⊢;(try simp only[seval,zE4,tZ]);refine aJ ((J6 (ns:=[1,2,2,3]) (uG _) hτ.tick.tick.tick (by omega) (by simp) (by simp) ?_));have r4:=JR (tick (tick (tick τ))) (ns:=[1,2,2,3]) (by simp);simp only[SK,SZ,or_false]at r4;generalize wj (tick (tick (tick τ))) [1,2,2,3]=am at r4⊢;have oD:0<=first/\first<=90:=by omega
 have wR:1<=am/\am<=3:=by omega
 clear r1 r2 r4;have hσ:(tick (tick (tick (tick τ)))).Ok (b+4):=hτ.tick.tick.tick.tick.mono (by omega);generalize tick (tick (tick (tick τ)))=σ at hσ⊢;(try simp only[seval,hT.len,gQ,cR,tQ,DL]);refine ai ?_;simp only[seval,gQ,z1,Bn]
 (repeat apply im);refine v5 (t:=11) (sz:=1) (el:=3) (by simp only[seval]<;>rfl) ?_
 simp only[seval,hT.len]
 (repeat apply im);refine agl (id:=N+1) (j:=3) (sz:=3) (gX:=61) (by simp only[seval,gQ]<;>rfl) rfl ?_
 simp only[seval,cR,hT.len];refine PG [11,10,6,0,1,2] ?_;show aP _ _ _ _ _ ⟨[(11,.sl 1 [iv first] (.opn (N+2))),(10,.op (N+1) 0),(6,.op N 0),(0,.op t 0),(1,iv pm),(2,bv false)],_⟩ _;obtain⟨zc,DW⟩:∃zc:aa,zc=.cells [iv 0,iv 0,iv 0,.sl 0 [] .exact,.sl 0 [] .exact,.sl 0 [] .exact] 26:=⟨_,rfl⟩;simp only[iv]at DW;rw[<- DW];obtain⟨hn,hhn⟩:∃hn:Nat,hours=hn:=⟨hours.toNat,by omega⟩;subst hhn;refine ak ?_;refine bY ?_;refine gF hn (λi:Nat=>[(11,.sl (i+1) ((lc σ first am i).1.map iv) (.opn (N+2))),(12,iv i)]) (λi=>Gf (lc σ first am i).2++[zc,.cells [iv first,iv hn,iv am,.sl 0 [] (.opn (N+3)),.sl 0 [] .exact,.sl 0 [] .exact] 26,.tail (i+1) 1 3,.tail 0 3 61]) (λi=>True) (λ_ _=>rfl) (by simp only[lc];simp only[seval];simp[bm,Wk.refl]) rfl (λ_ _ _=>by simp[hT.len]) trivial (λbJ cm i cK _ R hR=> ?_)
 ·clear bJ cm;have aq:=aap σ first (am:=am) (by omega) i
  have qB:=aaq hσ first am i
  have eB:lc σ first am (i+1)=((lc σ first am i).1++[(lc σ first am i).1.getD i 0+xn (lc σ first am i).2 am],tick (tick (lc σ first am i).2)):=rfl
  have qn:=aq.ge (by omega) i (SO _);generalize lc σ first am i=m at aq qB eB qn hR⊢
  obtain⟨l,ρ⟩:=m;dsimp only at aq qB eB qn⊢;have iu:=aq.len;refine ai ?_;simp only[seval,gQ];refine aD ?_;refine⟨λh=> ?_,λh=> ?_⟩
  ·as_aux_lemma=>
   have bB:i<hn:=(by omega);obtain⟨w,hw⟩:=bZ (xs:=l) (i:=i) (by omega);have rI:l.getD i 0=w:=(by rw[SE,hw];rfl);rw[rI]at eB qn;have aR:=ady ρ (am:=am) (by omega);have hsd:xn ρ am=wj (tick ρ) [0,am,dg ρ am]:=rfl;obtain⟨v,hv⟩:∃v,v=xn ρ am:=⟨_,rfl⟩;rw[<- hv]at eB aR hsd;have DN:SD.wrap (w+v)=w+v:=MK (aem qn aR oD wR (by omega));have fS:SD.wrap ((i:Int)+1)=((i+1:Nat):Int):=(by rw[bw _ (by omega)];rfl);have fQ:(0<=(i:Int)/\(i:Int)<(i:Int)+1)=True:=(by simp;omega);have iQ:∀L:List aa,dH (λτ=>Gf τ++L) t (N+L.length):=λL=>hT.more L;refine aO ?_;refine bY ?_;obtain⟨X,hX⟩:∃X:Nat->List aa,∀a,X a=[zc,.cells [iv first,iv hn,iv am,.sl 0 [] (.opn (N+3)),.sl 0 [] .exact,.sl 0 [] .exact] 26,.tail a 1 3,.tail 0 3 61]:=⟨_,λ_=>rfl⟩;have Sc:=(hX (i+1)).symm;simp only[iv]at Sc;have x1:∀τ a,(Gf τ++X a)[N+1]?=some (.cells [iv first,iv hn,iv am,.sl 0 [] (.opn (N+3)),.sl 0 [] .exact,.sl 0 [] .exact] 26):=λτ a=>(by rw[gQ,hX];rfl);have x2:∀τ a,(Gf τ++X a)[N+2]?=some (.tail a 1 3):=λτ a=>(by rw[gQ,hX];rfl);have OZ:∀τ a a',(Gf τ++X a).set (N+2) (.tail a' 1 3)=Gf τ++X a':=λτ a a'=>(by rw[cR,hX,hX];rfl);rw[Sc];refine o_ [11,13,16] (SU 18) (λD=>bif isDone 16 D then Gf (tick (tick ρ))++X (i+1+1)else bif isDone 13 D then Gf (tick (tick ρ))++X (i+1)else bif isDone 11 D then Gf (tick ρ)++X (i+1)else Gf ρ++X (i+1)) ?_;simp only[seval,O5,Em,z1,Bn,x1,x2,OZ,ff hw,fQ,DN,iu];refine sY _ _ (di (oi (iQ (X (i+1))) qB (by omega) (by omega) ⟨rfl,rfl⟩)) ?_;(try simp only[seval,O5,Em,z1,Bn,x1,x2,OZ,ff hw,fQ,DN,iu]);refine sY (iv v) _ (di (J6 (ns:=[0,am,dg ρ am]) (iQ (X (i+1))) qB.tick (by omega) (by simp) (by simp) ⟨by rw[hsd],rfl⟩)) ?_;(try simp only[seval,O5,Em,z1,Bn,x1,x2,OZ,ff hw,fQ,DN,iu]);refine⟨by omega,?_⟩;refine ai ?_;simp only[seval,fS];refine hR _ ⟨bB,trivial,?_⟩;rw[eB,TG,hX];exact cT
  ·as_aux_lemma=>
   have dD:i=hn:=(by omega);subst dD;clear hR;refine bU ?_;obtain⟨w,hw⟩:=bZ (xs:=l) (i:=i) (by omega);have rI:l.getD i 0=w:=(by rw[SE,hw];rfl);have G7:first<=w/\w<=first+9:=by
    rw[rI]at qn;have:am* (i:Int)<=3* 3:=Yj (by omega) (by omega) (by omega) (by omega);generalize am* (i:Int)=q at qn this;omega
   obtain⟨mn,rN⟩:∃mn:Nat,w-first=mn:=⟨(w-first).toNat,by omega⟩
   have LU:mn<=9:=(by omega);have hwm:SD.wrap (w-first)=mn:=(by rw[MK (by omega),rN]);have fQ:(0<=(i:Int)/\(i:Int)<(i:Int)+1)=True:=(by simp;omega);refine ek 8 ?_;simp only[seval,gQ,ff hw,fQ,hwm];have iQ:∀L:List aa,dH (λτ=>Gf τ++L) t (N+L.length):=λL=>hT.more L;refine ak ?_;refine aJ ((Q7 (n:=mn) (iQ _) qB (by omega) (by omega) ?_));have qy:=abS ρ mn;have qB:=HD qB mn mn;generalize iA ρ mn mn=m2 at qy qB⊢;obtain⟨order,ρ⟩:=m2;dsimp only at qy qB⊢;(try simp only[seval]);refine ak ?_
   (repeat apply im);refine v5 (t:=15) (sz:=1) (el:=3) (by simp only[seval]<;>rfl) ?_
   simp only[seval,hT.len]
   (repeat apply im);refine v5 (t:=16) (sz:=1) (el:=3) (by simp only[seval]<;>rfl) ?_
   simp only[seval,hT.len];refine PG [16,15,14,13,11,10,6,0,1,2] ?_;show aP _ _ _ _ _ ⟨[(16,.sl 0 [] (.opn (N+5))),(15,.sl 0 [] (.opn (N+4))),(14,br order),(13,iv mn),(11,.sl (i+1) (l.map iv) (.opn (N+2))),(10,.op (N+1) 0),(6,.op N 0),(0,.op t 0),(1,iv pm),(2,bv false)],_⟩ _;obtain⟨YY,Se⟩:∃YY:List AV->Nat->Nat->Nat->List aa,∀r c d e,YY r c d e=[zc,.cells r 26,.tail (i+1) 1 3,.tail c 3 61,.tail d 1 3,.tail e 1 3]:=⟨_,λ_ _ _ _=>rfl⟩;have hY:YW Gf N zc YY:=atm hT Se;have Sd:[zc,.cells [iv first,iv i,iv am,.sl 0 [] (.opn (N+3)),.sl 0 [] .exact,.sl 0 [] .exact] 26,.tail (i+1) 1 3,.tail 0 3 61,.tail 0 1 3,.tail 0 1 3]=YY [iv first,iv i,iv am,.sl 0 [] (.opn (N+3)),.sl 0 [] .exact,.sl 0 [] .exact] 0 0 0++[]:=(by rw[Se];rfl);simp only[iv]at Sd;rw[Sd];refine ak ?_;refine Jd (α:=Nat×aZ) (λy=>⟨[(16,.sl 0 [] (.opn (N+5))),(15,.sl y.1 ((kJ first order y.1).map iv) (.opn (N+4))),(13,iv mn),(11,.sl (i+1) (l.map iv) (.opn (N+2))),(10,.op (N+1) 0),(6,.op N 0),(0,.op t 0),(2,bv false)],Gf y.2++(YY [iv first,iv i,iv am,.sl 0 [] (.opn (N+3)),fy (N+6) y.1,.sl 0 [] .exact] 0 y.1 0++gO y.1 (fI (kD l i (λj=>first+order.getD j 0) ρ y.1).1))⟩) (λy=>y.1<=pm/\y.1<=mn/\y.2.Ok (b+60)) ?_ (λy hy=> ?_)
   ·exact aiH hT hY (λτ'=>hT.aq hH τ') hb rR (by omega) oD iu LU qy (qB.mono (by omega))
   ·as_aux_lemma=>
    obtain⟨np,ρ1⟩:=y;obtain⟨aly,alz,MH⟩:=hy;dsimp only at aly alz MH⊢;have GM:(kD l i (λj=>first+order.getD j 0) ρ np).1.length=np:=Az _ _ _ _ _;have aaN:∀(p:Nat) z,(kD l i (λj=>first+order.getD j 0) ρ np).1[p]?=some z->∃τ,z=lF τ l (first+order.getD p 0) i:=λp z hz=>KZ (P:=λn z=>∃τ,z=lF τ l n i) (λτ n=>⟨τ,rfl⟩) np p z hz;generalize(kD l i (λj=>first+order.getD j 0) ρ np).1=ec at GM aaN⊢;have jG:=ab2 first order np
    have tH:∀n∈kJ first order np,first<=n/\n<w:=λn hn=>by
     unfold kJ at hn;obtain⟨p,hp,rfl⟩:=Te.1 hn;have hp:=Tx.1 hp;obtain⟨o,ho⟩:=bZ (xs:=order) (i:=p) (by rw[qy.len];omega);have:=qy.H5 o (xa ho);rw[SE,ho];simp only[S0];omega
    have GF:(kJ first order np).Nodup:=by
     have e:kJ first order np=(order.take np).map λo=>first+o:=by
      unfold kJ;refine anW (by rw[S9,TV,qy.len];omega) λp hp=> ?_;rw[To,Uf,if_pos hp,SE];obtain⟨o,ho⟩:=bZ (xs:=order) (i:=p) (by rw[qy.len];omega);rw[ho];rfl
     rw[e];have h1:(order.take np).Nodup:=Ys (Zk _ _) qy.nodup;rw[Uv,XA];exact(Uv.1 h1).imp λh e=>h (by omega)
    have hng:∀p,p<np->(kJ first order np).getD p 0=first+order.getD p 0:=λp hp=>by
     unfold kJ;rw[SE,To,XC hp];rfl
    generalize kJ first order np=aC at jG tH GF hng⊢
    refine ak ?_;refine aJ ((Q7 (n:=np) (iQ _) MH (by omega) (by omega) ?_));have tK:=abS ρ1 np;have yO:=HD MH np np;generalize iA ρ1 np np=m3 at tK yO⊢;obtain⟨ig,ρ2⟩:=m3;dsimp only at tK yO⊢;have yO:ρ2.Ok (b+64):=yO.mono (by omega);(try simp only[seval]);have hwe:br ig=.sl np (ig.map iv) .shut:=(by rw[br,tK.len]);rw[hwe];refine ak ?_;refine Jd (α:=Nat×aZ) (λy=>⟨[(16,.sl y.1 ((ig.take y.1).map iv) (.opn (N+5))),(15,.sl np (aC.map iv) (.opn (N+4))),(13,iv mn),(11,.sl (i+1) (l.map iv) (.opn (N+2))),(10,.op (N+1) 0),(6,.op N 0),(0,.op t 0),(2,bv false)],Gf y.2++(YY [iv first,iv i,iv am,.sl 0 [] (.opn (N+3)),fy (N+6) np,fy (N+6+np) y.1] 0 np y.1++(gO np (fI ec)++gO y.1 (fI (kD l i (λj=>aC.getD (ig.getD j 0).toNat 0) ρ2 y.1).1)))⟩) (λy=>y.1<=np/\y.1<=3/\y.2.Ok (b+90)) ?_ (λy hy=> ?_)
    ·exact jx (s':=⟨[(19,iv 0),(18,.sl np (ig.map iv) .shut),(16,.sl 0 [] (.opn (N+5))),(15,.sl np (aC.map iv) (.opn (N+4))),(13,iv mn),(11,.sl (i+1) (l.map iv) (.opn (N+2))),(10,.op (N+1) 0),(6,.op N 0),(0,.op t 0),(2,bv false)],Gf ρ2++(YY [iv first,iv i,iv am,.sl 0 [] (.opn (N+3)),fy (N+6) np,.sl 0 [] .exact] 0 np 0++gO np (fI ec))⟩) (dz (by simp only[seval];simp[bm,Wk.refl]) rfl) (aiC hT hY (ya _ _) hb (by omega) oD G7 iu (by omega) jG tH tK yO)
    ·as_aux_lemma=>
     obtain⟨ns,ρ3⟩:=y;obtain⟨alA,alB,MI⟩:=hy;dsimp only at alA alB MI⊢;have nJ:(kD l i (λj=>aC.getD (ig.getD j 0).toNat 0) ρ2 ns).1.length=ns:=Az _ _ _ _ _;have aaU:∀(s:Nat) z,(kD l i (λj=>aC.getD (ig.getD j 0).toNat 0) ρ2 ns).1[s]?=some z->∃τ,z=lF τ l (aC.getD (ig.getD s 0).toNat 0) i:=λs z hz=>KZ (P:=λn z=>∃τ,z=lF τ l n i) (λτ n=>⟨τ,rfl⟩) ns s z hz;generalize(kD l i (λj=>aC.getD (ig.getD j 0).toNat 0) ρ2 ns).1=de at nJ aaU⊢;have rY:=tK.len;have aG:(ig.take ns).length=ns:=(by rw[TV];omega);have ew:∀v∈ig.take ns,0<=v/\v<(np:Int):=λv hv=>tK.H5 v (Wy hv);have alK:(ig.take ns).Nodup:=Ys (Zk _ _) tK.nodup;have aaL:∀s,s<ns->(ig.take ns).getD s 0=ig.getD s 0:=λs hs=>by
      rw[SE,SE,Uf,if_pos hs]
     generalize ig.take ns=bW at aG ew alK aaL⊢;refine ak ?_;refine aJ ((oi (n:=2) (iQ _) MI (by omega) (by omega) ?_));have gZ:=kM ρ3 2;generalize dg ρ3 2=u2 at gZ⊢;obtain⟨cn,rfl⟩:∃cn:Nat,u2=cn:=⟨u2.toNat,by omega⟩;have Hd:=MI.tick;generalize tick ρ3=ρ4 at Hd⊢;(try simp only[seval]);have me:∀z∈ec,vR i z:=λz hz=>by
      obtain⟨p,hp⟩:=U5 hz;have du:=(SL.1 hp).1;obtain⟨τ',rfl⟩:=aaN p z hp;rw[<- hng p (by omega)];have:=KY aq (by omega) oD wR (n:=aC.getD p 0) (by rw[rI];exact tH _ (An (by omega))) τ';exact⟨this.num,this.hour⟩
     have htv:∀z∈de,vR i z:=λz hz=>by
      obtain⟨s,hs⟩:=U5 hz;have cw:=(SL.1 hs).1;obtain⟨τ',rfl⟩:=aaU s z hs;rw[<- aaL s (by omega)];have ho:=ew _ (An (l:=bW) (i:=s) (by omega));have:=KY aq (by omega) oD wR (n:=aC.getD (bW.getD s 0).toNat 0) (by rw[rI];exact tH _ (An (by omega))) τ';exact⟨this.num,this.hour⟩
     refine Jd (α:=List Seen×aZ) (λy=>⟨[(16,.sl ns (bW.map iv) (.opn (N+5))),(15,.sl np (aC.map iv) (.opn (N+4))),(13,iv mn),(11,.sl (i+1) (l.map iv) (.opn (N+2))),(10,.op (N+1) 0),(6,.op N 0),(0,.op t 0),(2,bv false)],Gf y.2++(YY [iv first,iv i,iv am,.sl y.1.length (y.1.flatMap Seen.l) (.opn (N+3)),fy (N+6) np,fy (N+6+np) ns] y.1.length np ns++(gO np (fI ec)++gO ns (fI de)))⟩) (λy=>y.1.length<=2/\(∀s∈y.1,0<=s.hour/\s.hour<=i/\∃τ,s.next=nb τ (l.getD s.hour.toNat 0) 1 0 99)/\y.2.Ok (b+97)) ?_ (λy hy=> ?_)
     ·refine jx (s':=⟨[(20,iv cn),(16,.sl ns (bW.map iv) (.opn (N+5))),(15,.sl np (aC.map iv) (.opn (N+4))),(13,iv mn),(11,.sl (i+1) (l.map iv) (.opn (N+2))),(10,.op (N+1) 0),(6,.op N 0),(0,.op t 0),(2,bv false)],Gf ρ4++(YY [iv first,iv i,iv am,.sl 0 [] (.opn (N+3)),fy (N+6) np,fy (N+6+np) ns] 0 np ns++(gO np (fI ec)++gO ns (fI de)))⟩) (dz (by simp only[seval];simp[bm,Wk.refl]) rfl) (aiF hT hY hb (by omega) oD wR aq (by omega) (Hd.mono (by omega)))
     obtain⟨ss,ρ5⟩:=y;obtain⟨dL,fX,pE⟩:=hy;dsimp only at dL fX pE⊢;refine ak ?_;refine aD ?_;refine aO ?_;refine jx (s':=⟨[(16,.sl ns (bW.map iv) (.opn (N+5))),(15,.sl np (aC.map iv) (.opn (N+4))),(13,iv mn),(11,.sl (i+1) (l.map iv) (.opn (N+2))),(10,.op (N+1) 0),(6,.op N 0),(0,.op t 0),(2,bv false)],Gf ρ5++(YY [iv first,iv i,iv am,.sl ss.length (ss.flatMap Seen.l) (.opn (N+3)),fy (N+6) np,fy (N+6+np) ns] ss.length np ns++(gO np (fI ec)++gO ns (fI de)))⟩) (dz (by simp only[seval];simp[bm,Wk.refl]) rfl) (aiG hT hY (ya _ _) hb oD LU (by omega) nJ htv pE λarW ρ6 Mr yI hρ6=>aiE hT hY hb (by omega) (by omega) GM me hρ6 λape ρ7 hp1 jW hρ7=>aiB hT (λτ'=>hT.aq hH τ') hY DW iu hp1 jG Mr aG rfl (hk ⟨first,i,am,ss,ape,arW⟩ l aC bW ρ7 ⟨oD,by dsimp only;omega,wR,by dsimp only;omega,by dsimp only;omega,by dsimp only;omega,λs hs=> ?_,λy hy=> ?_,λy hy=> ?_⟩ (by dsimp only;omega) (by omega) (by omega) (by omega) (hρ7.mono (by omega))))
     ·obtain⟨h1,h2,τ',h3⟩:=fX s hs;have ht:=aq.top oD wR (by omega) s.hour.toNat (by omega);rw[h3];exact⟨⟨h1,h2⟩,(Cq (by omega) (by omega)).1⟩
     ·exact⟨(jW y hy).1,(jW y hy).2⟩
     ·exact⟨(yI y hy).1,(yI y hy).2⟩
end
section
variable {lv:Bool}{H:List aa}{k kp:AV->List aa->Prop}
end
namespace Tk
structure Inv (f g:Nat->Nat)(n:Nat):Prop where
 fl:∀i,i<n->f i<n
 gl:∀i,i<n->g i<n
 gf:∀i,i<n->g (f i)=i
 fg:∀i,i<n->f (g i)=i
theorem Inv.symm{f g:Nat->Nat}{n:Nat}(h:Inv f g n):Inv g f n:=⟨h.gl,h.fl,h.fg,h.gf⟩
variable {x:aj}{l:List aB}{f g:Nat->Nat}
end Tk
open Go.Gg.Tk
namespace Tk
end Tk
open Go.Conc Go.Proofs Go.Gg.Tk
section
variable {lv:Bool}{k kp:AV->List aa->Prop}{Gf:aZ->List aa}{t N:Nat}{b:Int}
end
section
variable {lv:Bool}{k kp:AV->List aa->Prop}{Gf:aZ->List aa}{t N:Nat}{τ:aZ}{b:Int}
end
theorem QV:(bR fJ).isEmpty=false:=by kernel_rfl
theorem aim{lo hi:Int}(h:Bounds (live fJ) (λh=>h.getD 1 0) lo hi):lo=11/\hi=12:=by
 have k:Bounds (live fJ) (λh=>h.getD 1 0) 11 12:=by
  rw[aiq];exact⟨⟨[10,11,13,14],by simp,rfl⟩,by decide,⟨[10,12,13,14],by simp,rfl⟩,by decide⟩
 exact h.uniq k
theorem aip:CR fJ 2=[0,2]:=by kernel_rfl
theorem z3:gU (SF .i64 0) 3=[iv 0,iv 0,iv 0]:=rfl
theorem z4:gU (SF .i64 0) 4=[iv 0,iv 0,iv 0,iv 0]:=rfl
section
variable {H:List aa}{k kp:AV->List aa->Prop}
theorem aiM(hm:H[0]?=some .main)(hk:k (bv true) H):bf true SA 19 H [] k kp:=by
 have aF:bR fJ≠[]:=λh=>by have:=QV;rw[h]at this;cases this
 refine bI (rs:=[.tmp 0]) (nt:=138) Tryz.f19 λhH hA=> ?_;simp only[bt,SY];have aX:∀(L:List aa),(H++L)[H.length]?=L[0]?:=λL=>aY H L 0;have cu:∀(L:List aa)(y:aa),(H++L).set H.length y=H++L.set 0 y:=λL y=>dJ H L 0 y;refine ak ?_;refine ak ?_;refine aJ ((x7 ?_));(try simp only[seval]);refine aJ ((J3 zl hm ?_));rw[ain];(try simp only[seval]);refine ak ?_;refine aJ ((x7 ?_));(try simp only[seval]);refine aJ ((J5 (hour:=1) zl (by decide) hm (λh=>absurd h aF) (λlo hi _ hb=> ?_)));obtain⟨rfl,rfl⟩:=aim hb;(try simp only[seval,aX,cu]);refine ak ?_;refine aJ ((x7 ?_));(try simp only[seval]);refine aJ ((aiX (q:=2) zl (by decide) (fO hm) (λh=>absurd h aF) (λ_=> ?_)));rw[show xP (Eg fJ 2) fJ.first 16=[13,14]from air];(try simp only[seval]);refine ak ?_;refine aJ ((x7 ?_));(try simp only[seval]);refine aJ ((J4 (s:=0) (q:=0) zl (by decide) (by decide) (fO hm) ?_));rw[QV,QW.1,QW.2,show vM true false=1 from rfl];(try simp only[seval]);refine ak ?_;refine aJ ((x7 ?_));(try simp only[seval]);refine aJ ((aiT zl (fO hm) (λh=>absurd h aF) (λ_=> ?_)));rw[show CR fJ fJ.aA.length=[0,2]from aip];(try simp only[seval]);refine ak ?_;refine aJ ((x7 ?_));(try simp only[seval]);refine aJ ((aiV (x:=fJ) (s:=1) (q:=0) (y:=⟨⟨10,15⟩,⟨2,2⟩⟩) zl rfl (by decide) (λo ho=> ?_)));rw[show zS (fJ.wo [((1:Nat):Int)]) ⟨⟨10,15⟩,⟨2,2⟩⟩ 0 (fJ.am.toNat+1)=1 from ail]at ho;subst ho;(try simp only[seval]);refine ak ?_;refine aJ ((ai3 ?_));(try simp only[seval]);refine aJ ((Q4 aos (λl hl=> ?_) (λh=>by rw[QU]at h;cases h)));rw[QU]at hl;cases hl;(try simp only[seval]);refine ak ?_;refine aJ ((x7 ?_));(try simp only[seval]);refine aJ ((aiL zl (fO hm) (λh=>absurd h aF) (λu l hu=> ?_)));have lP:=aio;rw[hu]at lP;cases lP;(try simp only[seval]);refine ek 77 ?_;simp only[seval,Vw,aX,beq_self_eq_true];refine gR (.agg [iv 11,iv 12]) (di (FR ⟨rfl,rfl⟩)) ?_;have fC:∀k,dA SA .eql 46 (.agg [iv 11,iv 12]) (.agg [iv 11,iv 12]) k=k (bv true):=λk=>afp (P:=SA) (t:=46) (n:=2) (xs:=[11,12]) (ys:=[11,12]) (by kernel_rfl) (by kernel_rfl) rfl rfl k;simp only[iv,bv]at fC;(try simp only[seval,fC,Vw,beq_self_eq_true,z2]);(try refine⟨by decide,?_⟩);refine gR (bv true) (di (x6 (xs:=[13,14]) (ys:=[13,14]) (e:=.shut) (e':=.exact) (by decide) ⟨by rw[decide_eq_true rfl],rfl⟩)) ?_;(try simp only[seval,Vw,z1,z2,z3,z4]);(try refine⟨by decide,?_⟩);refine gR (bv true) (di (x6 (xs:=[0,2]) (ys:=[0,2]) (e:=.shut) (e':=.exact) (by decide) ⟨by rw[decide_eq_true rfl],rfl⟩)) ?_;(try simp only[seval,Vw,z1,z2,z3,z4]);(try refine⟨by decide,?_⟩);refine gR (bv true) (di (x6 (xs:=[0]) (ys:=[0]) (e:=.shut) (e':=.exact) (by decide) ⟨by rw[decide_eq_true rfl],rfl⟩)) ?_;(try simp only[seval,Vw,z1,z2,z3,z4]);(try refine⟨by decide,?_⟩);refine gR (bv true) (di (x6 (xs:=[10,11,13,14]) (ys:=[10,11,13,14]) (e:=.shut) (e':=.exact) (by decide) ⟨by rw[decide_eq_true rfl],rfl⟩)) ?_;(try simp only[seval,Vw,z1,z2,z3,z4]);(try refine⟨by decide,?_⟩);refine gR (bv true) (di (x6 (xs:=[12,11,13]) (ys:=[12,11,13]) (e:=.shut) (e':=.exact) (by decide) ⟨by rw[decide_eq_true rfl],rfl⟩)) ?_;(try simp only[seval,Vw,z1,z2,z3,z4]);(try refine⟨by decide,?_⟩);refine gR (bv true) (di (x6 (xs:=[0,2]) (ys:=[0,2]) (e:=.shut) (e':=.exact) (by decide) ⟨by rw[decide_eq_true rfl],rfl⟩)) ?_;(try simp only[seval,Vw,z1,z2,z3,z4]);refine bc ?_;exact jA hH (Wk.refl _) (.val _) hk
theorem abC{x:aj}(hx:x.Ok){g:List Int}(hg:g∈live x):mV x.first x.am g x.hours.toNat:=((aar hx).1 (Uq.1 hg).1).1
theorem ag1{x:aj}(hx:x.Ok){h:Nat}(hh:h<=x.hours.toNat){a a':Int}(hA:Bounds (live x) (λg=>g.getD h 0) a a'):(0<=a/\a<=99)/\(0<=a'/\a'<=99):=by
 obtain⟨g1,m1,e1⟩:=hA.A_;obtain⟨g2,m2,e2⟩:=hA.A9;have hf:=hx.first;have Dm:=hx.hours;have t1:=(abC hx m1).top hx.first hx.am (by omega) h hh;have t2:=(abC hx m2).top hx.first hx.am (by omega) h hh;omega
theorem asx(m:Nat)(τ:aZ):eQ m (vJ τ):=λa ha=>by
 simp only[SK,SZ,or_false]at ha;rcases ha with rfl|rfl|rfl
 ·rw[yV];trivial
 ·exact .val _
 ·exact .val _
theorem w6{n:Int}(h: -1000<=n/\n<=1000):SD.wrap n=n:=bw _ (by omega)
noncomputable def c10:T7:=Tryz.f10.body.getD .skip
end
namespace Tk
def x9 (x:aj):Option (List Int):=(Qb x.aA.length).find? λl=>decide (0<cnt (x.wo l))
theorem anw:∀n,n<4->vp n=Qb n:=by decide+kernel
theorem ag8{x:aj}(hx:x.Ok):rk x=decide (0<cnt x):=by
 rw[ag9 hx];have:=Qf x;cases h:bR x with
 |nil=>
  have:¬0<cnt x:=λe=>(this.1 e) h;rw[decide_eq_false this];rfl
 |cons a l=>
  rw[decide_eq_true (this.2 (by rw[h];simp))];rfl
theorem Rw{x:aj}(hx:x.Ok):Ai x=x9 x:=by
 unfold Ai x9;rw[anw _ (by have:=hx.de;omega)];congr 1;funext l;exact ag8 (hx.wo l)
end Tk
open Go.Gg.Tk
namespace Tk
def xV (ss:List aB)(ns:List Int):Nat->List aB
 |0=>[]
 |i+1=>if(i:Int)∈ns then xV ss ns i else xV ss ns i++(ss[i]?).toList
theorem QD(ss:List aB)(ns:List Int):∀i,(xV ss ns i).length<=i
 |0=>SO _
 |i+1=>by
  have:=QD ss ns i;unfold xV;split
  ·omega
  ·rw[S5];have:(ss[i]?).toList.length<=1:=(by cases ss[i]?<;>simp);omega
theorem JK{ss:List aB}{ns:List Int}:∀{i:Nat}{y:aB},y∈xV ss ns i->y∈ss
 |0,y,h=>by cases h
 |i+1,y,h=>by
  unfold xV at h;split at h
  ·exact JK h
  ·rcases SQ.1 h with h|h
   ·exact JK h
   ·cases hi:ss[i]?with
    |none=>rw[hi]at h;cases h
    |some z=>
     rw[hi]at h;simp only[Ww,S8]at h;rw[h];exact S_ hi
def aj.wk (x:aj)(ns:List Int):aj:={x with aA:=xV x.aA ns x.aA.length}
theorem aj.Ok.wk{x:aj}(h:x.Ok)(ns:List Int):(x.wk ns).Ok:=⟨h.first,h.hours,h.am,h.ua,h.ec,UH (QD _ _ _) h.de,h.seen,λy hy=>⟨(h.piece y hy).1,(h.piece y hy).2⟩,λy hy=>have k:=h.stub y (JK hy);⟨k.1,k.2⟩⟩
end Tk
open Go.Conc Go.Proofs Go.Gg.Tk
section
variable {lv:Bool}{H:List aa}{k kp:AV->List aa->Prop}
theorem Q5{x:aj}(hx:x.Ok)(hk:∀(got:List Int)(e:Int),((x9 x=some got/\e=0)\/(x9 x=none/\got=[]/\e=11))->k (.aN [br got,iv e]) H):bf lv SA 32 H [x.av] k kp:=
 Q4 hx (λl hl=>hk _ _ (.inl ⟨by rw[<- Rw hx];exact hl,rfl⟩)) (λhl=>hk _ _ (.inr ⟨by rw[<- Rw hx];exact hl,rfl,rfl⟩))
end
namespace Tk
def up (m:Int)(l:List Int):List Int:=l.map (·+m)
def fL.up (b:fL)(m:Int):fL:=⟨b.min+m,b.max+m⟩
def Seen.up (s:Seen)(m:Int):Seen:=⟨s.hour,s.next.up m⟩
def aj.up (x:aj)(m:Int):aj:=⟨x.first+m,x.hours,x.am,x.seen.map (·.up m),x.pieces.map (·.more m),x.aA.map (·.more m)⟩
def Tr.up (u:Tr)(m:Int):Tr:=⟨Tk.up m u.bG,Tk.up m u.aC,u.bW⟩
theorem aa9(b:fL)(m n:Int):iI (b.up m) (n+m)=iI b n:=by
 unfold iI fL.up;congr 1
 ·exact decide_eq_decide.2 (by dsimp only;omega)
 ·exact decide_eq_decide.2 (by dsimp only;omega)
theorem ad6(m n:Int):∀(h:List Int)(i:Nat),eP i (up m h) (n+m)=eP i h n
 |[],i=>rfl
 |[a],i=>rfl
 |a::b::l,i=>by
  have ih:=ad6 m n (b::l) (i+1);have e:up m (a::b::l)=(a+m)::(b+m)::up m l:=rfl;have e2:up m (b::l)=(b+m)::up m l:=rfl;rw[e];rw[e2]at ih;unfold eP;rw[ih];by_cases h:a<=n/\n<b
  ·rw[if_pos h,if_pos (by omega)]
  ·rw[if_neg h,if_neg (by omega)]
theorem asA(m n:Int)(h:List Int):iL (up m h) (n+m)=iL h n:=ad6 m n h 0
theorem Rj(m n:Int)(h:List Int)(y:aB):fits (up m h) (y.more m) (n+m)=fits h y n:=by
 unfold fits;rw[asA];have:iI (y.more m).number (n+m)=iI y.number n:=aa9 y.number m n;rw[this];rfl
theorem ac1(x:aj)(m n:Int)(k:Nat):oP (x.up m) k (n+m)=oP x k n:=by
 unfold oP;show (x.seen.map (·.up m)).all _=_;rw[List.all_map];congr 1;funext s;show (!decide (s.hour=(k:Int))||iI (s.next.up m) (n+m))=_;rw[aa9]
theorem OL(m:Int){l:List Int}(h:l≠[]):(up m l).getLastD 0=l.getLastD 0+m:=by
 obtain⟨a,ha⟩:∃a,l.getLast?=some a:=⟨l.getLast h,List.getLast?_eq_getLast h⟩;rw[UR,UR];unfold up;rw[List.getLast?_map,ha];rfl
theorem aej(m a:Int)(l:List Int):up m (l++[a])=up m l++[a+m]:=by unfold up;simp
theorem aal(x:aj)(m:Int):∀(d:Nat)(pre:List Int),pre≠[]->jj (x.up m) d (up m pre)=(jj x d pre).map (up m)
 |0,pre,hp=>by
  unfold jj;rw[OL m hp,ac1,show (up m pre).length=pre.length from S9 _];split<;>rfl
 |d+1,pre,hp=>by
  unfold jj;rw[OL m hp,ac1,show (up m pre).length=pre.length from S9 _];split
  ·rw[UO];refine s_ λn _=> ?_;rw[<- aal x m d _ (by simp),aej];congr 3;omega
  ·rfl
theorem aau(x:aj)(m:Int):aK (x.up m)=(aK x).map (up m):=aal x m _ [x.first] (by simp)
theorem asY(m:Int){l:List Int}(h:l≠[]):(up m l).headD 0=l.headD 0+m:=by
 cases l with
 |nil=>exact absurd rfl h
 |cons a l=>rfl
theorem aom(m:Int){h:List Int}(hh:h≠[]):vw (up m h)=up m (vw h):=by
 unfold vw;rw[OL m hh,asY m hh];unfold up;rw[WM,show h.getLastD 0+m-(h.headD 0+m)=h.getLastD 0-h.headD 0 by omega];refine Vg λi _=> ?_;show h.headD 0+m+(i:Int)=h.headD 0+(i:Int)+m;omega
theorem an1{m n:Int}{t:List Int}:(up m t).contains (n+m)=t.contains n:=by
 rw[U3,Wi,Wi];unfold up;rw[Te];constructor
 ·rintro⟨a,h,e⟩
  rw[show n=a by omega];exact h
 ·intro h;exact⟨n,h,rfl⟩
theorem acf(m:Int){h:List Int}(hh:h≠[]):∀(ys:List aB)(t:List Int),kv (up m h) (ys.map (·.more m)) (up m t)=(kv h ys t).map (up m)
 |[],t=>rfl
 |y::ys,t=>by
  rw[UP];unfold kv;rw[aom m hh,UO];have e:((up m (vw h)).filter λn=>fits (up m h) (y.more m) n&& !(up m t).contains n)=up m ((vw h).filter λn=>fits h y n&& !t.contains n):=by
   unfold up;rw[X4];congr 1;refine US λn _=> ?_;show (fits (up m h) (y.more m) (n+m)&& !(up m t).contains (n+m))=_;rw[Rj,an1]
  rw[e]
  conv=>lhs;unfold up
  rw[Vu];refine s_ λn _=> ?_;show kv (up m h) (ys.map (·.more m)) (up m t++[n+m])=_;rw[<- aej,acf m hh ys]
theorem aei(m:Int){l:List Int}{p:Nat}(h:p<l.length):(up m l).getD p 0=l.getD p 0+m:=by
 unfold up;rw[SE,SE,To,SW h];rfl
theorem acr(m:Int)(h ns:List Int):∀(ss:List aB)(t:List Nat),mq (up m h) (up m ns) (ss.map (·.more m)) t=mq h ns ss t
 |[],t=>rfl
 |s::ss,t=>by
  rw[UP];unfold mq;rw[show (up m ns).length=ns.length from S9 _];have e:((SU ns.length).filter λp=>fits (up m h) (s.more m) ((up m ns).getD p 0)&& !t.contains p)=(SU ns.length).filter λp=>fits h s (ns.getD p 0)&& !t.contains p:=by
   refine US λp hp=> ?_;rw[aei m (Tx.1 hp),Rj]
  rw[e];exact s_ λp _=>acr m h ns ss _
theorem aec(x:aj)(m:Int){h:List Int}(hh:h≠[]):lx (x.up m) (up m h)=(lx x h).map (·.up m):=by
 unfold lx;show (kv (up m h) (x.pieces.map (·.more m)) (up m [])).flatMap _=_;rw[acf m hh,Vu,UO];refine s_ λns _=> ?_;unfold BK;show (mq (up m h) (up m ns) (x.aA.map (·.more m)) []).map _=_;rw[acr,WM];rfl
theorem aat{x:aj}{h:List Int}(hh:h∈aK x):h≠[]:=λe=>by
 have:=Gx hh;rw[e]at this;simp at this;omega
theorem Is(x:aj)(m:Int):bR (x.up m)=(bR x).map (·.up m):=by
 unfold bR;rw[aau,Vu,UO];exact s_ λh hh=>aec x m (aat hh)
theorem abE(x:aj)(m:Int):live (x.up m)=(live x).map (up m):=by
 unfold live;rw[aau,X4];congr 1;refine US λh hh=> ?_;show (!(lx (x.up m) (up m h)).isEmpty)=_;rw[aec x m (aat hh)];cases lx x h<;>rfl
theorem Qg(x:aj)(m:Int):cnt (x.up m)=cnt x:=by
 unfold cnt;rw[abE,S9]
theorem ahX(x:aj)(m:Int):(bR (x.up m)).isEmpty=(bR x).isEmpty:=by
 rw[Is];cases bR x<;>rfl
theorem aoV(x:aj)(m:Int)(s p:Nat):oM (x.up m) s p=oM x s p:=by
 unfold oM zQ;rw[Is,Z2];rfl
theorem aoM(x:aj)(m:Int)(s p:Nat):vA (x.up m) s p=vA x s p:=by
 unfold vA zQ;rw[Is,Z2];rfl
theorem QH(ss:List aB)(m:Int):∀ns:List Int,nh (ss.map (·.more m)) ns=(nh ss ns).map (·.more m)
 |[]=>rfl
 |n::ns=>by
  have e1:nh (ss.map (·.more m)) (n::ns)=(nh (ss.map (·.more m)) ns).eraseIdx n.toNat:=rfl;have e2:nh ss (n::ns)=(nh ss ns).eraseIdx n.toNat:=rfl;rw[e1,e2,QH ss m ns];rw[Wh,Wh,TG,VJ,apT]
theorem as8(x:aj)(m:Int)(ns:List Int):(x.up m).wo ns=(x.wo ns).up m:=by
 unfold aj.wo aj.up;dsimp only;rw[QH]
theorem ajV(x:aj)(m:Int):x9 (x.up m)=x9 x:=by
 unfold x9;rw[show (x.up m).aA.length=x.aA.length from S9 _];congr 1;funext l;rw[as8,Qg]
theorem ag3{x:aj}{m:Int}{k:Nat}(hk:k<=x.hours.toNat){a b:Int}(h:Bounds (live x) (λg=>g.getD k 0) a b):Bounds (live (x.up m)) (λg=>g.getD k 0) (a+m) (b+m):=by
 rw[abE];have hg:∀g∈live x,(up m g).getD k 0=g.getD k 0+m:=λg hg=>aei m (by rw[abD hg];omega);obtain⟨g1,m1,e1⟩:=h.A_;obtain⟨g2,m2,e2⟩:=h.A9;refine⟨⟨up m g1,Te.2 ⟨g1,m1,rfl⟩,?_⟩,λy hy=> ?_,⟨up m g2,Te.2 ⟨g2,m2,rfl⟩,?_⟩,λy hy=> ?_⟩
 ·rw[hg g1 m1,e1]
 ·obtain⟨g,hm,rfl⟩:=Te.1 hy;have:=h.le g hm;rw[hg g hm];omega
 ·rw[hg g2 m2,e2]
 ·obtain⟨g,hm,rfl⟩:=Te.1 hy;have:=h.ge g hm;rw[hg g hm];omega
theorem asZ{x:aj}(hx:x.Ok){m:Int}(hm:0<=m)(hf:x.first+m<=90)(hs:∀s∈x.seen,s.next.max+m<=99)(hp:∀y∈x.pieces,y.number.max+m<=99)(ht:∀y∈x.aA,y.number.max+m<=99):(x.up m).Ok:=by
 refine⟨⟨by have:=hx.first;show 0<=x.first+m;omega,hf⟩,hx.hours,hx.am,by show (x.seen.map _).length<=3;rw[S9];exact hx.ua,by show (x.pieces.map _).length<=4;rw[S9];exact hx.ec,by show (x.aA.map _).length<=3;rw[S9];exact hx.de,λs nI=> ?_,λy hy=> ?_,λy hy=> ?_⟩
 ·obtain⟨z,hz,rfl⟩:=Te.1 nI;obtain⟨h1,h2,h3,h4⟩:=hx.seen z hz;exact⟨h1,⟨by show 0<=z.next.min+m;omega,by show z.next.min+m<=z.next.max+m;omega,hs z hz⟩⟩
 ·obtain⟨z,hz,rfl⟩:=Te.1 hy;obtain⟨⟨h1,h2,h3⟩,h4⟩:=hx.piece z hz;exact⟨⟨by show 0<=z.number.min+m;omega,by show z.number.min+m<=z.number.max+m;omega,hp z hz⟩,h4⟩
 ·obtain⟨z,hz,rfl⟩:=Te.1 hy;obtain⟨⟨h1,h2,h3⟩,h4⟩:=hx.stub z hz;exact⟨⟨by show 0<=z.number.min+m;omega,by show z.number.min+m<=z.number.max+m;omega,ht z hz⟩,h4⟩
end Tk
open Go.Conc Go.Proofs Go.Gg.Tk
noncomputable def c9:T7:=VY.body.getD .skip
section
variable {H:List aa}{k kp:AV->List aa->Prop}
theorem ajo{x:aj}{more:Int}{BB L0:List aa}{N ix:Nat}(hH:bH H)(hx:x.Ok)(hz:(x.up more).Ok)(hm:0<=more/\more<=99)(bN:∀L,(BB++L)[N]?=some (.cells x.l 26))(bx:∀L,(BB++L)[ix]?=some (.cells (x.up more).l 26))(b0:∀L,(BB++L)[0]?=some .main)(As:BB=H++L0)(hk:k (bv true) H):
  aP true SA none 295 (gk 13 c9) ⟨[(13,iv more),(8,.op ix 0),(4,.op N 0),(2,bv false)],BB⟩ (qU SA [.tmp 2] H.length k kp):=by
 have v6:BB[N]?=some (.cells x.l 26):=by have:=bN [];rwa [SN]at this
 have FF:BB[ix]?=some (.cells (x.up more).l 26):=by have:=bx [];rwa [SN]at this
 have zW:BB[0]?=some .main:=by have:=b0 [];rwa [SN]at this
 have bg:∀(L:List aa)(j:Nat),(BB++L)[BB.length+j]?=L[j]?:=λL j=>aY BB L j;have bs:∀(L:List aa)(j:Nat)(y:aa),(BB++L).set (BB.length+j) y=BB++L.set j y:=λL j y=>dJ BB L j y;have PU:∀(L:List aa),(BB++L)[BB.length]?=L[0]?:=λL=>bg L 0;have bs0:∀(L:List aa)(y:aa),(BB++L).set BB.length y=BB++L.set 0 y:=λL y=>bs L 0 y;have PV:∀(L:List aa),(BB++L)[BB.length+1]?=L[1]?:=λL=>bg L 1;have bs1:∀(L:List aa)(y:aa),(BB++L).set (BB.length+1) y=BB++L.set 1 y:=λL y=>bs L 1 y;have aR:=hx.de;have pD:=hx.ec;have Dm:=hx.hours;have dw:x.l.length=6:=rfl;have fx:TS 6 x.l=x.l:=rfl;have cQ:TH 1 x.l=[iv x.hours,iv x.am,cY x.seen,aL x.pieces,aL x.aA]:=rfl;have wD:TH 4 x.l=[aL x.pieces,aL x.aA]:=rfl;have mI:TH 5 x.l=[aL x.aA]:=rfl;have zc:=Qg x more;have ze:=ahX x more;have zf:=ajV x more;have zp:=aoV x more;have zo:=aoM x more;have zb:=λ{k a b} hk h=>ag3 (x:=x) (m:=more) (k:=k) (a:=a) (b:=b) hk h;have zh:(x.up more).hours=x.hours:=rfl;have zpl:(x.up more).pieces.length=x.pieces.length:=S9 _;have zsl:(x.up more).aA.length=x.aA.length:=S9 _;have zt:bR (x.up more)=[]<->bR x=[]:=by rw[Is];simp
 have jY:(x.up more).l.length=6:=rfl;have DV:TS 6 (x.up more).l=(x.up more).l:=rfl;generalize x.up more=z at hz bx FF zc ze zf zp zo zb zh zpl zsl zt jY DV;unfold c9 VY;dsimp only[S0,gk,cs,cf];refine ai ?_;simp only[seval,v6,dw,fx];refine aJ ((J3 hx zW ?_));(try simp only[seval]);refine ai ?_;simp only[seval,FF,jY,DV];refine aJ ((J3 hz zW ?_));rw[zc];(try simp only[seval]);refine ai ?_;simp only[seval,v6,dw,fx];refine aJ ((Q5 hx λgot e qn=> ?_));(try simp only[seval]);refine ai ?_;simp only[seval,FF,jY,DV];refine aJ ((Q5 hz λRM e2 aag=> ?_));obtain⟨rfl,rfl⟩:RM=got/\e2=e:=by
  rw[zf]at aag;rcases qn with⟨h1,h2⟩|⟨h1,h2,h3⟩<;>rcases aag with⟨g1,g2⟩|⟨g1,g2,g3⟩
  ·rw[h1]at g1;cases g1;exact⟨rfl,by omega⟩
  ·rw[h1]at g1;cases g1
  ·rw[h1]at g1;cases g1
  ·exact⟨by rw[h2,g2],by omega⟩
 have ki:RM.length<=3:=by
  rcases qn with⟨h1,_⟩|⟨_,h1,_⟩
  ·have hm:=List.mem_of_find?_eq_some h1;obtain⟨j,hj,ha⟩:=S6.1 hm;have hj:=Tx.1 hj;rw[(arY x.aA.length (by omega) j (by omega) 0 (by omega)).2 _ ha];omega
  ·rw[h1];exact WQ _
 (try simp only[seval]);refine ai ?_;simp only[seval,show ((0:Int)!=0)=false from rfl,bne_self_eq_false,br];refine aJ ((x6 (by omega) ?_));(try simp only[seval,decide_true]);refine aD ?_;refine aO ?_;refine ak ?_;obtain⟨V,hV⟩:∃V:Nat->Nat->Int,∀s p,V s p=if(bR x).isEmpty then 0 else vM (oM x s p) (vA x s p):=⟨_,λ_ _=>rfl⟩;obtain⟨g,hg⟩:∃g:Int,g=if(bR x).isEmpty then 11 else 0:=⟨_,rfl⟩;refine bY ?_;refine sQ x.aA.length (λs:Nat=>[(25,iv s)]) (λ_=>BB) (λ_=>True) trivial (λbJ cm s wS _ R hR=> ?_);clear bJ cm;refine ai ?_;simp only[seval,v6,mI,aL];refine aD ?_;refine⟨λhc=> ?_,λhc=> ?_⟩
 ·have cw:s<x.aA.length:=by omega
  have bC:SD.wrap ((s:Int)+1)=((s+1:Nat):Int):=by rw[bw _ (by omega)];rfl
  refine aO ?_;refine ak ?_;refine bY ?_;refine sQ x.pieces.length (λp:Nat=>[(26,iv p)]) (λ_=>BB) (λ_=>True) trivial (λbJ cm p Mc _ R2 uE=> ?_);clear bJ cm;refine ai ?_;simp only[seval,v6,wD,aL];refine aD ?_;refine⟨λhc=> ?_,λhc=> ?_⟩
  ·have du:p<x.pieces.length:=(by omega);have fY:SD.wrap ((p:Int)+1)=((p+1:Nat):Int):=(by rw[bw _ (by omega)];rfl);refine aO ?_;refine ai ?_;simp only[seval,v6,dw,fx];refine aJ ((J4 (x:=x) (s:=s) (q:=p) hx cw du zW ?_));rw[<- hV,<- hg];(try simp only[seval]);refine ai ?_;simp only[seval,FF,jY,DV];refine aJ ((J4 (x:=z) (s:=s) (q:=p) hz (by omega) (by omega) zW ?_));rw[ze,zp,zo,<- hV,<- hg];(try simp only[seval]);refine ai ?_;simp only[seval,bne_self_eq_false];refine aD ?_;refine aO ?_;refine ai ?_;simp only[seval,fY];refine uE _ ⟨du,trivial,cT⟩
  ·have nN:p=x.pieces.length:=(by omega);subst nN;refine bU ?_;refine ai ?_;simp only[seval,bC];refine hR _ ⟨cw,trivial,cT⟩
 ·have nN:s=x.aA.length:=by omega
  subst nN;refine bU ?_;refine ak ?_;obtain⟨hn,hhn⟩:∃hn:Nat,x.hours=hn:=⟨x.hours.toNat,by omega⟩;refine bY ?_;refine sQ (hn+1) (λh:Nat=>[(31,iv h)]) (λ_=>BB) (λ_=>True) trivial (λbJ cm h auo _ R hR=> ?_);clear cm;have fin:aP true SA none 295 (gk 20 c9) ⟨[],BB⟩ (qU SA [.tmp 2] H.length k kp):=by
   unfold c9 VY;dsimp only[S0,gk,cs,cf];refine ak ?_;refine aJ ((aiM zW ?_));(try simp only[seval]);refine bc ?_;rw[As];exact jA hH (Wk.refl _) (.val _) hk
  unfold c9 VY at fin;dsimp only[S0,gk,cs,cf]at fin;by_cases hle:(h:Int)<=x.hours
  ·have g1:decide ((h:Int)<=x.hours)=true:=decide_eq_true hle;refine ai ?_;simp only[seval,v6,cQ,g1];refine aD ?_;refine⟨λhc=> ?_,λhc=> ?_⟩
   ·have yE:0<cnt x:=(by simpa using hc);have aF:=(Qf x).1 yE;have bC:SD.wrap ((h:Int)+1)=((h+1:Nat):Int):=(by rw[bw _ (by omega)];rfl);refine aO ?_;refine ai ?_;simp only[seval,v6,dw,fx];refine aJ ((J5 (x:=x) (hour:=h) hx hle zW (λh=>absurd h aF) (λa a' _ hb=> ?_)));have q1:=ag1 hx (by omega) hb;(try simp only[seval,PU,bs0]);refine ai ?_;simp only[seval,bx,jY,DV];refine aJ ((J5 (x:=z) (hour:=h) hz (by omega) (b0 _) (λh=>absurd (zt.1 h) aF) (λc c' _ uJ=> ?_)));obtain⟨e1,e2⟩:=uJ.uniq (zb (by omega) hb);subst e1 e2;(try simp only[seval,PV,bs1]);have wa:SD.wrap (a+more)=a+more:=w6 (by omega);have wb:SD.wrap (a'+more)=a'+more:=w6 (by omega);refine ek 19 ?_;simp only[seval,show ((0:Int)!=0)=false from rfl,PU,PV,wa,wb];refine gR (.agg [iv (a+more),iv (a'+more)]) (di (FR ⟨rfl,rfl⟩)) ?_;have fC:∀k,dA SA .neq 46 (.agg [iv (a+more),iv (a'+more)]) (.agg [iv (a+more),iv (a'+more)]) k=k (bv false):=λk=>by
     have:=afq (P:=SA) (t:=46) (n:=2) (xs:=[a+more,a'+more]) (ys:=[a+more,a'+more]) (by kernel_rfl) (by kernel_rfl) rfl rfl k;rw[beq_self_eq_true,as_]at this;exact this
    simp only[iv,bv]at fC;(try simp only[seval,fC]);refine aD ?_;refine aO ?_;refine ai ?_;simp only[seval,bC];refine hR _ ⟨by omega,trivial,H7 _ (pL rfl rfl) (by simp only[seval];simp[bm,Wk.refl]) bJ (by simp[eC]) rfl⟩
   ·refine bU ?_;refine jx ?_ fin;exact dz (λ_ h=>by cases h) rfl
  ·have g1:decide ((h:Int)<=x.hours)=false:=decide_eq_false hle;refine ai ?_;simp only[seval,v6,cQ,g1];refine aD ?_;refine bU ?_;refine jx ?_ fin;exact dz (λ_ h=>by cases h) rfl
end
noncomputable def sT:T7:=XE.body.getD .skip
def vO (id n:Nat):AV:=match n with
 |0=> .sl 0 [] (.opn id)
 |n+1=> .bp id 0 (n+1) 0
def oO (sz n:Nat)(l:List AV)(el:TypeId):aa:=match n with
 |0=> .tail 0 sz el
 |_+1=> .own sz l el
theorem vL(id:Nat):∀n,(vO id n).leaf=true
 |0=>rfl
 |_+1=>rfl
theorem BM{id n:Nat}(h:0<n):vO id n=.bp id 0 n 0:=by cases n with|zero=>cases h|succ n=>rfl
theorem vz{sz n:Nat}{l:List AV}{el:TypeId}(h:0<n):oO sz n l el=.own sz l el:=by cases n with|zero=>cases h|succ n=>rfl
section
variable {lv:Bool}{H:List aa}{k kp:AV->List aa->Prop}
theorem aiO{x:aj}{o1:aa}{Φ:an->AS->Prop}(hx:x.Ok)(h:aP lv SA none 19 (gk 2 sT) ⟨[(1,.op H.length 0),(2,.op (H.length+1) 0)],H++[.cells [iv x.first,iv x.hours,iv x.am,vO (H.length+2) x.seen.length,aL x.pieces,aL x.aA] 26,o1,oO 3 x.seen.length (x.seen.flatMap Seen.l) 61]⟩ Φ):aP lv SA none 19 (gk 1 sT) ⟨[(1,.op H.length 0),(2,.op (H.length+1) 0)],H++[.cells x.l 26,o1]⟩ Φ:=by
 have bP:x.l=[iv x.first,iv x.hours,iv x.am,cY x.seen,aL x.pieces,aL x.aA]:=rfl;have wS:=hx.ua;have aX:∀(L:List aa),(H++L)[H.length]?=L[0]?:=λL=>aY H L 0;have cu:∀(L:List aa)(y:aa),(H++L).set H.length y=H++L.set 0 y:=λL y=>dJ H L 0 y;have EE:TS (x.seen.length* 3) (x.seen.flatMap Seen.l)=x.seen.flatMap Seen.l:=SS (by rw[mQ Seen.len];omega);have n1:(x.seen.flatMap Seen.l).length=x.seen.length* 3:=mQ Seen.len _;rw[bP];unfold sT XE at h⊢;dsimp only[S0,gk,cs,cf]at h⊢;rcases Ul x.seen.length with e|e
 ·have e1:x.seen=[]:=UF e;rw[e1]at h⊢;refine ai ?_;simp only[seval,aX,cu,cY,WV,YE];refine jx ?_ h;exact dz (by simp only[seval];simp[bm,Wk.refl]) rfl
 ·rw[BM e,vz e]at h
  (repeat apply im);refine Fy 3 (by kernel_rfl) ?_
  simp only[seval,aX,cu,cY,EE,n1];refine⟨by omega,e,?_⟩;refine jx ?_ h;exact dz (by simp only[seval];simp[bm,Wk.refl]) rfl
theorem aiP{ys:List aB}{sv tv:AV}{o1 o2:aa}{a1 a2 a3:Int}{Φ:an->AS->Prop}(cP:sv.leaf=true)(mb:tv.leaf=true)(hn:ys.length<=2^20)(h:aP lv SA none 19 (gk 3 sT) ⟨[(1,.op H.length 0),(2,.op (H.length+1) 0)],H++[.cells [iv a1,iv a2,iv a3,sv,vO (H.length+3) ys.length,tv] 26,o1,o2,oO 4 ys.length (ys.flatMap aB.l) 48]⟩ Φ):aP lv SA none 19 (gk 2 sT) ⟨[(1,.op H.length 0),(2,.op (H.length+1) 0)],H++[.cells [iv a1,iv a2,iv a3,sv,aL ys,tv] 26,o1,o2]⟩ Φ:=by
 have aX:∀(L:List aa),(H++L)[H.length]?=L[0]?:=λL=>aY H L 0;have cu:∀(L:List aa)(y:aa),(H++L).set H.length y=H++L.set 0 y:=λL y=>dJ H L 0 y;have EE:TS (ys.length* 4) (ys.flatMap aB.l)=ys.flatMap aB.l:=SS (by rw[mQ aB.len];omega);have n1:(ys.flatMap aB.l).length=ys.length* 4:=mQ aB.len _;unfold sT XE at h⊢;dsimp only[S0,gk,cs,cf]at h⊢;rcases Ul ys.length with e|e
 ·have e1:ys=[]:=UF e;rw[e1]at h⊢;refine ai ?_;simp only[seval,aX,cu,aL,WV,YE];refine jx ?_ h;exact dz (by simp only[seval];simp[bm,Wk.refl]) rfl
 ·rw[BM e,vz e]at h
  (repeat apply im);refine Fy 3 (by kernel_rfl) ?_
  simp only[seval,aX,cu,aL,EE,n1];refine⟨by omega,e,?_⟩;refine jx ?_ h;exact dz (by simp only[seval];simp[bm,Wk.refl]) rfl
theorem aiQ{ys:List aB}{sv pv:AV}{o1 o2 o3:aa}{a1 a2 a3:Int}{Φ:an->AS->Prop}(cP:sv.leaf=true)(mb:pv.leaf=true)(hn:ys.length<=2^20)(h:aP lv SA none 19 (gk 4 sT) ⟨[(1,.op H.length 0),(2,.op (H.length+1) 0)],H++[.cells [iv a1,iv a2,iv a3,sv,pv,vO (H.length+4) ys.length] 26,o1,o2,o3,oO 4 ys.length (ys.flatMap aB.l) 48]⟩ Φ):aP lv SA none 19 (gk 3 sT) ⟨[(1,.op H.length 0),(2,.op (H.length+1) 0)],H++[.cells [iv a1,iv a2,iv a3,sv,pv,aL ys] 26,o1,o2,o3]⟩ Φ:=by
 have aX:∀(L:List aa),(H++L)[H.length]?=L[0]?:=λL=>aY H L 0;have cu:∀(L:List aa)(y:aa),(H++L).set H.length y=H++L.set 0 y:=λL y=>dJ H L 0 y;have EE:TS (ys.length* 4) (ys.flatMap aB.l)=ys.flatMap aB.l:=SS (by rw[mQ aB.len];omega);have n1:(ys.flatMap aB.l).length=ys.length* 4:=mQ aB.len _;unfold sT XE at h⊢;dsimp only[S0,gk,cs,cf]at h⊢;rcases Ul ys.length with e|e
 ·have e1:ys=[]:=UF e;rw[e1]at h⊢;refine ai ?_;simp only[seval,aX,cu,aL,WV,YE];refine jx ?_ h;exact dz (by simp only[seval];simp[bm,Wk.refl]) rfl
 ·rw[BM e,vz e]at h
  (repeat apply im);refine Fy 3 (by kernel_rfl) ?_
  simp only[seval,aX,cu,aL,EE,n1];refine⟨by omega,e,?_⟩;refine jx ?_ h;exact dz (by simp only[seval];simp[bm,Wk.refl]) rfl
theorem aiR{x:aj}(hx:x.Ok)(hk:∀a b:aa,k (.agg [iv x.first,iv x.hours,iv x.am,vO (H.length+2) x.seen.length,vO (H.length+3) x.pieces.length,vO (H.length+4) x.aA.length]) (H++[a,b,oO 3 x.seen.length (x.seen.flatMap Seen.l) 61,oO 4 x.pieces.length (x.pieces.flatMap aB.l) 48,oO 4 x.aA.length (x.aA.flatMap aB.l) 48])):bf lv SA 22 H [x.av] k kp:=by
 refine bI (rs:=[.cell 2 26]) (nt:=19) XE λhH hA=> ?_;simp only[bt,SY,aj.av];have pD:=hx.ec;have aR:=hx.de;have bP:x.l=[iv x.first,iv x.hours,iv x.am,cY x.seen,aL x.pieces,aL x.aA]:=rfl;refine ai ?_;simp only[seval,bP];rw[<- bP];refine jx (s':=⟨[(1,.op H.length 0),(2,.op (H.length+1) 0)],H++[.cells x.l 26,.cells [iv 0,iv 0,iv 0,.sl 0 [] .exact,.sl 0 [] .exact,.sl 0 [] .exact] 26]⟩) (dz (by simp only[seval];simp[bm,Wk.refl]) rfl) (aiO hx (aiP (vL _ _) rfl (by omega) (aiQ (vL _ _) (vL _ _) (by omega) ?_)));have l1:=vL (H.length+2) x.seen.length;have l2:=vL (H.length+3) x.pieces.length;have l3:=vL (H.length+4) x.aA.length;generalize vO (H.length+2) x.seen.length=sv at hk l1⊢;generalize vO (H.length+3) x.pieces.length=pv at hk l2⊢;generalize vO (H.length+4) x.aA.length=tv at hk l3⊢;have aX:∀(L:List aa),(H++L)[H.length]?=L[0]?:=λL=>aY H L 0;have cQ:∀(L:List aa),(H++L)[H.length+1]?=L[1]?:=λL=>aY H L 1;have dL:∀(L:List aa)(y:aa),(H++L).set (H.length+1) y=H++L.set 1 y:=λL y=>dJ H L 1 y;unfold sT XE;dsimp only[S0,gk,cs,cf];refine ai ?_;simp only[seval,aX,cQ,dL,l1,l2,l3];refine oe ?_;simp only[seval,cQ];exact b9 (hk _ _)
end
end Go.Gg
