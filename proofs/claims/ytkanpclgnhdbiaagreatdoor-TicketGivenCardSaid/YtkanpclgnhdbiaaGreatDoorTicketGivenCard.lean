/- For every list of numbers, TicketGiven returns true and does not panic, in any order in which its goroutines run; errors.errorType starts as the text of the program lays it. -/
import Derived.Test.YtkanpclgnhdbiaaGreatDoorTicketGivenCard3
import Derived.Conc.LeavingOf
import Derived.Conc.Holds
import Derived.ProofKit
import Derived.Test.YtkanpclgnhdbiaaGreatDoorChecked
import Derived.Test.YtkanpclgnhdbiaaGreatDoorRows
import Derived.LaidMore
import Derived.SevenTiedAt
import Derived.Test.YtkanpclgnhdbiaaGreatDoorTie
import Derived.Test.YtkanpclgnhdbiaaGreatDoorCards
set_option linter.all false
set_option maxRecDepth 4000
set_option maxHeartbeats 4000000
open Array renaming getD_eq_getD_getElem?->SI,getElem?_eq_getElem->SK,getElem?_eq_some_iff->SR,getElem?_modify->Wi,getElem_mem->XV,replicate->TK
open Bool renaming and_eq_true->Th,and_self->Yt,eq_iff_iff->U6,false_and->Xi,false_eq_true->TN,false_ne_true->Zg,false_or->XU,not_eq_true'->TW,not_false->YG,or_false->ZX,true_and->U9,true_or->ag2
open Char renaming ofNat->Zf
open Classical renaming byContradiction->Tu
open Function renaming comp_apply->Wh
open Go renaming ChangeSpec->ZW,Code->T9,DataW->aj',Func->YF,FuncId->TO,OpenClaim->Yj,Oper->Tv,Program->SJ,ReturnsInLeavingWide->Xx,Value->SO,World->Tp
open Go.Addr renaming add->atf
open Go.BinOp renaming neq->VX
open Go.ChangeSpec renaming post_blind->an',witness_shaped->an_
open Go.Claim7 renaming isSixth->Zw,new_of_sixth->YO,tied_new_at->YZ
open Go.Conc renaming Good->WZ
open Go.DataW renaming weightsEach->Zd
open Go.DataW.Whole renaming of_heap->aj_
open Go.Input renaming okWide->ZS
open Go.IntKind renaming i64->SF,u16->S6
open Go.Obj renaming deferred->atm
open Go.Op renaming equal->Xh
open Go.OpenClaim renaming holds_of_wide_leaving->apH
open Go.OpenSpec renaming ofChange->Vy
open Go.PathCond renaming test->asI
open Go.Program renaming headLifts->atj,liftsFinal->ati,make->ath,mayEnter->atg
open Go.Proofs.Tryz renaming checked->Uy,f15->XC,f34->ZJ,f39->am_,f5->Wt,f53->al',func5->Zb,prog->SC
open Go.Region renaming linearise->Za,schedule->VK,wanted->Tf
open Go.Region.linearise renaming go->UC
open Go.Value renaming agg->TD,cells->Z7,int->SG,okWide->Yy,slice->Us
open Go.World renaming doorLaid->ZB
open Int renaming add_zero->Z6,le_refl->X2,le_trans->XH,mul_le_mul->Yh,toNat->Ya,toNat_natCast->Vw
open List renaming all_eq_true->Tx,any_append->ZA,any_cons->YU,any_eq_true->UK,append_assoc->SD,append_eq->Vq,append_eq_nil_iff->YE,append_nil->SY,cons_append->VA,contains_append->YS,contains_eq_mem->Up,contains_iff_mem->YK,contains_nil->XB,countP_le_length->Y4,drop->Ur,drop_append->Vt,drop_append_of_le_length->Wp,drop_eq_getElem_cons->T8,drop_of_length_le->WX,drop_zero->XA,exists_mem_of_ne_nil->Vf,ext_getElem?->Yp,filter_congr->Vj,filter_eq_nil_iff->YD,flatMap_append->VR,flatMap_cons->Uo,flatMap_def->WR,flatMap_eq_nil_iff->WQ,flatMap_map->WO,foldl_append->ZO,foldl_cons->UW,forall_mem_cons->Xg,getD_cons_succ->Xf,getD_cons_zero->Xq,getD_eq_getElem?_getD->SE,getElem?_append_left->SZ,getElem?_append_right->Tj,getElem?_drop->Um,getElem?_eq_getElem->SP,getElem?_eq_none->Uu,getElem?_eq_some_iff->SN,getElem?_map->To,getElem?_of_mem->VF,getElem?_range->Xz,getElem?_set->UR,getElem?_take->Uc,getElem_mem->VQ,getLast?_eq_getElem?->Yf,getLastD_cons->Zs,getLastD_eq_getLast?->Vh,head?_append->WN,head?_cons->X0,length->Z5,length_append->S9,length_cons->Uj,length_drop->Uh,length_eraseIdx_of_lt->X9,length_map->Tn,length_nil->UP,length_pos_iff->VL,length_replicate->YJ,length_set->TQ,length_singleton->T7,length_take->TR,map->UY,map_append->TF,map_congr_left->Vx,map_cons->UU,map_flatMap->Vs,map_map->XY,map_take->VE,mem_append->SS,mem_append_left->Te,mem_append_right->S4,mem_cons->SL,mem_cons_of_mem->Tb,mem_cons_self->Tw,mem_filter->Ul,mem_flatMap->S7,mem_iff_getElem?->UO,mem_map->Tm,mem_of_getElem?->Ti,mem_of_mem_take->Ws,mem_range->TE,mem_reverse->XL,mem_singleton->S5,nil_append->UD,nodup_append->U4,nodup_cons->VS,nodup_iff_pairwise_ne->TY,nodup_nil->WM,nodup_range->WW,not_mem_nil->S0,pairwise_iff_getElem->WH,pairwise_map->WI,range->SV,range'->Ub,range'_succ->VP,range_eq_range'->Vo,range_succ->Vk,range_zero->Zz,replicate->TM,reverse_cons->Zk,set_append_left->Wy,set_append_right->UN,set_cons_succ->UB,set_cons_zero->TZ,take->Un,take_add_one->VG,take_append_drop->Vg,take_append_of_le_length->TA,take_eq_nil_iff->YR,take_length->TH,take_of_length_le->SX,take_set->Z4,take_sublist->Zj,take_succ_cons->VU,take_succ_eq_append_getElem->Wb,take_take->U0,take_zero->ak'
open List.Nodup renaming sublist->Yq
open List.Pairwise renaming imp->X_,imp_of_mem->Xw
open List.Perm renaming nodup_iff->ao_,refl->ac'
open List.cons renaming injEq->YT
open Nat renaming add_assoc->WV,add_sub_cancel->VY,add_sub_cancel_left->U7,add_zero->UJ,le_refl->SQ,le_trans->UF,lt_or_ge->YI,lt_succ_self->Uv,min_eq_left->Ww,pow_le_pow_right->Xp,reduceAdd->SW,reduceSub->Yv,sub_self->Vd,sub_zero->ZY,succ_mul->XF,testBit_or->Xo,testBit_two_pow->VO,zero_add->Wr,zero_testBit->Zx
open Option renaming getD_some->S8,map_eq_some_iff->Tq,map_some->UM
open Option.some renaming inj->VC,injEq->Tl
open Prod.mk renaming injEq->UZ
namespace Go.Gg
open Go.Conc Go.Proofs Go.Gg.Tk
namespace Tk
end Tk
section
variable {lv:Bool}{H:List aa}{k kp:AV->List aa->Prop}
end
open Go.Conc Go.Proofs Go.Gg.Tk
def u6 (τ:bm)(ns:List Int):Int:=ns.getD (dx τ (ns.length-1)).toNat 0
section
variable {lv:Bool}{H:List aa}{k kp:AV->List aa->Prop}{Gf:bm->List aa}{t N:Nat}{τ:bm}{b:Int}
theorem Iv{ns:List Int}{e:End}(hT:dQ Gf t N)(hτ:τ.Ok b)(hb:b<2^60)(hn:1<=ns.length)(j4:ns.length<2^20)(hk:k (iv (u6 τ ns)) (Gf (tick τ))):ba lv SC 45 (Gf τ) [.op t 0,.sl ns.length (ns.map iv) e] k kp:=by
 refine bE (rs:=[.tmp 4]) (nt:=13) Tryz.f45 λhH hA=> ?_;simp only[bk,SW];have bQ:SF.wrap ((ns.length:Int)-1)=(ns.length:Int)-1:=bC _ (by omega);have hr:=mz τ ((ns.length:Int)-1);unfold u6 at hk;obtain⟨j,hj⟩:=Int.eq_ofNat_of_zero_le hr.1;have eV:j<ns.length:=by omega
 obtain⟨v,hv⟩:=cC eV;rw[hj]at hk;have xi:ns.getD ((j:Int)).toNat 0=v:=by rw[Vw,SE,hv];rfl
 rw[xi]at hk;refine ai ?_;refine aj ?_;simp only[seval,bQ];refine aM ((rT hT hτ hb (by omega) ?_));rw[hj];(try simp only[seval,fZ hv,je eV]);refine aX ?_;exact bS hk
end
def mb (τ:bm)(n m lo hi:Int):i_:=⟨max lo (n-dx τ m),min hi (n+dx (tick τ) m)⟩
def kW (τ:bm)(h:List Int)(n hours:Int):aG:=⟨mb τ n 2 0 99,mb (tick (tick τ)) (lz h n (h.length-1)) 1 0 (hours-1)⟩
section
variable {lv:Bool}{k kp:AV->List aa->Prop}{Gf:bm->List aa}{t N:Nat}{τ:bm}{b:Int}
theorem Iw{n m lo hi:Int}(hT:dQ Gf t N)(hτ:τ.Ok b)(hb:b<2^30)(hn: -1000<=n/\n<=1000)(hm:0<=m/\m<=3)(hk:k (mb τ n m lo hi).av (Gf (tick (tick τ)))):ba lv SC 48 (Gf τ) [.op t 0,iv n,iv m,.agg [iv lo,iv hi]] k kp:=by
 refine bE (rs:=[.cell 8 46]) (nt:=26) Tryz.f48 λhH hA=> ?_;simp only[bk,SW];have nH:dQ (λτ=>Gf τ++[.cells [iv lo,iv hi] 46,.cells [iv 0,iv 0] 46]) t (N+2):=hT.more [_,_];have r1:=mz τ m;have r2:=mz (tick τ) m;have bQ:SF.wrap (n-dx τ m)=n-dx τ m:=bC _ (by omega);have gP:SF.wrap (n+dx (tick τ) m)=n+dx (tick τ) m:=bC _ (by omega);have BS:(if lo<n-dx τ m then n-dx τ m else lo)=max lo (n-dx τ m):=by split<;>omega
 have pA:(if n+dx (tick τ) m<hi then n+dx (tick τ) m else hi)=min hi (n+dx (tick τ) m):=by split<;>omega
 refine ai ?_;refine qi [5,13,17] (SV 18) (λD=>bif isDone 17 D then Gf (tick (tick τ))++[.cells [iv lo,iv hi] 46,.cells [iv (max lo (n-dx τ m)),iv (min hi (n+dx (tick τ) m))] 46]else bif isDone 13 D then Gf (tick (tick τ))++[.cells [iv lo,iv hi] 46,.cells [iv 0,iv 0] 46]else bif isDone 5 D then Gf (tick τ)++[.cells [iv lo,iv hi] 46,.cells [iv 0,iv 0] 46]else Gf τ++[.cells [iv lo,iv hi] 46,.cells [iv 0,iv 0] 46]) ?_;simp only[seval,hT.len,hT.g0,hT.g1,hT.g2,hT.g3,hT.h2,hT.h3,hT.s0,hT.s1,hT.s2,hT.s3,hT.t2,hT.t3,bQ,gP,BS,pA];refine u5 _ _ (dC (rT (nH) hτ (by omega) (by omega) ⟨rfl,rfl⟩)) ?_;(try simp only[seval,hT.len,hT.g0,hT.g1,hT.g2,hT.g3,hT.h2,hT.h3,hT.s0,hT.s1,hT.s2,hT.s3,hT.t2,hT.t3,bQ,gP,BS,pA]);refine u5 _ _ (dC (rT (nH) hτ.tick (by omega) (by omega) ⟨rfl,rfl⟩)) ?_;(try simp only[seval,hT.len,hT.g0,hT.g1,hT.g2,hT.g3,hT.h2,hT.h3,hT.s0,hT.s1,hT.s2,hT.s3,hT.t2,hT.t3,bQ,gP,BS,pA]);refine oq ?_;simp only[seval,hT.len,hT.g0,hT.g1,hT.g2,hT.g3,hT.h2,hT.h3,hT.s0,hT.s1,hT.s2,hT.s3,hT.t2,hT.t3];exact jy (b:=(mb τ n m lo hi).av) (H':=Gf (tick (tick τ))) (Wk.refl _) rfl (by simp[hT.len]) (hT.ay hH _) (by simp[i_.av,i_.l,sG,eE]) hk
theorem O9{h:List Int}{n hours:Int}{e:End}(hT:dQ Gf t N)(hτ:τ.Ok b)(hb:b<2^20)(hl:h.length<=4)(hn: -1000<=n/\n<=1000)(hh:1<=hours/\hours<=3)(pG: -1<=lz h n (h.length-1)/\lz h n (h.length-1)<=4)(hk:k (kW τ h n hours).av (Gf (tick (tick (tick (tick τ)))))):ba lv SC 47 (Gf τ) [.op t 0,.sl h.length (h.map iv) e,iv n,iv hours] k kp:=by
 refine bE (rs:=[.cell 8 48]) (nt:=22) Tryz.f47 λhH hA=> ?_;simp only[bk,SW];have tH:∀o:aa,dQ (λτ=>Gf τ++[o]) t (N+1):=λo=>hT.more [o];have bQ:SF.wrap (hours-1)=hours-1:=bC _ (by omega);refine ai ?_;refine aj ?_;simp only[seval,bQ];refine aM ((Iw (n:=n) (m:=2) (lo:=0) (hi:=99) (tH _) hτ (by omega) hn (by decide) ?_));(try simp only[seval]);refine aM ((ahw (h:=h) (n:=n) hl ?_));(try simp only[seval,bQ]);refine aM ((Iw (n:=lz h n (h.length-1)) (m:=1) (lo:=0) (hi:=hours-1) (tH _) hτ.tick.tick (by omega) (by omega) (by decide) ?_));(try simp only[seval,hT.len,hT.g0,hT.g1,hT.g2,hT.g3,hT.h2,hT.h3,hT.s0,hT.s1,hT.s2,hT.s3,hT.t2,hT.t3,i_.av,i_.l]);refine oq ?_;simp only[seval,hT.len,hT.g0,hT.g1,hT.g2,hT.g3,hT.h2,hT.h3,hT.s0,hT.s1,hT.s2,hT.s3,hT.t2,hT.t3];exact jy (b:=(kW τ h n hours).av) (H':=Gf (tick (tick (tick (tick τ))))) (Wk.refl _) rfl (by simp[hT.len]) (hT.ay hH _) (by simp[aG.av,aG.l,sG,eE]) hk
end
end Go.Gg
namespace Go.Gg.Tk
def sX:List Int->Prop
 |a::b::l=>a<=b/\sX (b::l)
 |_=>True
theorem aqS{h:List Int}{n:Int}(hl:2<=h.length)(pu:h.length<=4)(hm:sX h):lz h n (h.length-1)=iW h n:=by
 match h,hl,pu,hm with
 |[a,b],_,_,hm=>
  simp only[iW,fg,lz,Uj,UP,Xq,Xf,SW,Yv]
 |[a,b,c],_,_,hm=>
  obtain⟨h1,h2,_⟩:=hm;simp only[iW,fg,lz,Uj,UP,Xq,Xf,SW,Yv];split<;>split<;>first|rfl|omega
 |[a,b,c,d],_,_,hm=>
  obtain⟨h1,h2,h3,_⟩:=hm;simp only[iW,fg,lz,Uj,UP,Xq,Xf,SW,Yv];split<;>split<;>first|rfl|omega|(split<;>first|rfl|omega)
end Go.Gg.Tk
namespace Go.Gg
open Go.Conc
section
variable {lv:Bool}{P:SJ}{r:Option Nat}{o:Tv}{s:AS}{next:AS->Prop}{bad:AV->AS->Prop}
end
section
variable (lv:Bool)(P:SJ)(r:Option Nat)
def Aw:List Tv->AS->(AS->Prop)->(AV->AS->Prop)->Prop
 |[],s,K,_=>K s
 |o::rest,s,K,bad=>o.guard=none/\Step lv P r o s (λs'=>Aw rest s' K bad) bad
end
section
variable {lv:Bool}{P:SJ}{r:Option Nat}{s:AS}
theorem ab3{nt:Nat}{all:Array Tv}{Φ:am->AS->Prop}(db:∀o∈all,∀d,o.dst=some d->d<nt)(mU:∀o∈all,r=none\/lR o.op=false):∀(n k:Nat)(s:AS),k+n=all.size->Aw lv P r (all.toList.drop k) s (Φ .normal) (λpv s=>Φ (.panic pv) s)->
  ∀(E:Env)(V:View)(a:Act)(Q:Ex->Act->View->Prop),At E V s a nt->(∀ae e E' V' a' s',Kept E E' V V' a a'->At E' V' s' a' nt->oX E' ae e->Φ ae s'->Q e a' V')->c_ lv P r all Q (Ub k n) a V
 |0,k,s,hk,h,E,V,a,Q,ah,hQ=>by
  have:all.toList.drop k=[]:=by simp;omega
  rw[this]at h;exact hQ .normal .normal E V a s (Kept.refl E V a) ah trivial h
 |n+1,k,s,hk,h,E,V,a,Q,ah,hQ=>by
  have hlt:k<all.size:=by omega
  have hd:all.toList.drop k=all[k]::all.toList.drop (k+1):=by
   rw[T8 (by simpa using hlt)];simp
  rw[hd]at h;have fl:all[k]∈all:=XV hlt;have ho:all[k]?=some all[k]:=SK hlt;simp only[VP,c_,ho];obtain⟨hg,h⟩:=h;have hw:Tf all[k] (yielded all a.tmps)=true:=by unfold Tf;rw[hg]
  rw[if_pos hw];refine .inl (h E V a _ Q ah.br ah.tok (λd e=>by rw[ah.size];exact db _ fl d e) (mU _ fl) (λE' V' a' s' aI bf lP hn=> ?_) (λE' V' s' pv v aI bf lP bi hb=> ?_))
  ·exact ab3 db mU n (k+1) s' (by omega) hn E' V' a' Q ⟨bf,lP,aI.size.trans ah.size⟩ (λae e bO aR b8 c9 fF cX he hΦ=>hQ ae e bO aR b8 c9 (aI.trans fF) cX he hΦ)
  ·exact hQ (.panic pv) (.panic _) E' V' a s' aI ⟨bf,lP,ah.size⟩ ⟨v,rfl,bi⟩ hb
theorem aeP{nt id:Nat}{ops:Array Tv}{Φ:am->AS->Prop}(hd:jw nt ops=true)(h:Aw lv P r ops.toList s (Φ .normal) (λpv s=>Φ (.panic pv) s)):aU lv P r nt (.region id ops false) s Φ:=by
 intro E V a Q ah hQ;refine wp_region ?_;rw[Vo];exact ab3 (Φ:=Φ) (λo ho d e=>(jw.out hd ho).1 d e) (λo ho=> .inr (jw.out hd ho).2) ops.size 0 s (by omega) (by simpa using h) E V a Q ah hQ
end
section
variable {lv:Bool}{P:SJ}{r:Option Nat}{o:Tv}{s:AS}{next:AS->Prop}{bad:AV->AS->Prop}
theorem HG{nt id:Nat}{c:T9}{l:List AV}{el:TypeId}{Φ:am->AS->Prop}(bY:s.H[id]?=some (.cells l el))(h:aU lv P r nt c ⟨s.T,s.H.set id (.part l.length l el)⟩ Φ):aU lv P r nt c s Φ:=λE V a Q ah hQ=>by
 have hc:=ah.br;obtain⟨⟨cs,iP,hd⟩,mW⟩:=hc.obj id _ bY;have g:dP V (V.gT (E.blk id) cs (λo=>decide (o<l.length))):=yB iP (λo _=>mW o);refine WP.ghost g ?_;have hI:∀b o v,E.I b o=some v->(V.gT (E.blk id) cs (λo=>decide (o<l.length))).ab b o=some v:=λb o v e=>by
  rw[hc.I]at e;have hb:b≠E.blk id:=λhb=>by rw[hb,mW]at e;cases e
  simp only[View.gT];rw[if_neg (λx=>hb x.1)];exact e
 have hle:E.Le {E with I:=(V.gT (E.blk id) cs (λo=>decide (o<l.length))).ab}:=⟨hI,SQ _,λ_ _=>rfl,λ_ _=>SQ _,λ_ _ _ _=>rfl,rfl,rfl⟩;have cN:Conc {E with I:=(V.gT (E.blk id) cs (λo=>decide (o<l.length))).ab} (V.gT (E.blk id) cs (λo=>decide (o<l.length))) (s.H.set id (.part l.length l el)):=by
  refine hc.iF id _ hle rfl (by rw[TQ];exact hc.n) lq rfl (λ_ _ _=>rfl) (λb y fH hy=>⟨hy,λo=> ?_⟩) ⟨⟨cs,iP,(hd.mono hle).p,λo ho=> ?_⟩,λo ho=> ?_⟩ (λb hb=> .inl ⟨_,bY,hb⟩)
  ·have hb:b≠E.blk id:=λhb=>fH _ bY (by rw[hb];rfl);simp only[View.gT];rw[if_neg (λx=>hb x.1)]
  ·simp only[View.gT];rw[if_pos ⟨trivial,by simpa using ho⟩]
  ·simp only[View.gT];rw[if_neg (λx=>by have:=x.2;simp at this;omega)];exact mW o
 exact h _ _ a Q ⟨cN,ah.tok.mono hle,ah.size⟩ λae e E' aR a' s' hk=>hQ ae e E' aR a' s' ((⟨hle,rfl,rfl,rfl,rfl⟩:Kept E _ V (V.gT (E.blk id) cs (λo=>decide (o<l.length))) a a).trans hk)
def AA (H:List aa)(b a:AV):Prop:=∀E V v,Conc E V H->ap E b v->ap E a v
theorem AA.of{H:List aa}{b a:AV}(h:Wk b a):AA H b a:=λE _ v _ d=>h E v d
theorem MZ{H:List aa}{id n cap m p:Nat}{l:List AV}{el:TypeId}(bY:H[id]?=some (.part p l el))(hm:m<=p)(hp:p<=l.length):AA H (.bD id 0 n cap) (.sl n (l.take m) .shut):=λE V v hc hd=>by
 cases hd with
 |bD hi dJ=>
  rename_i cap';obtain⟨⟨cs,ho,ED,tO⟩,_⟩:=hc.obj id _ bY;refine .sl (E.blk id) 0 cap' (λi=>cs.getD i undef) dJ.1 trivial (λi cu=> ?_) (λi x hx=> ?_)
  ·rw[TR]at cu;have hlt:i<cs.size:=(by have:=ED.1;omega);rw[hc.I,Wr,tO i (by omega),SI,SK hlt];rfl
  ·rw[Uc]at hx;split at hx
   ·exact ED.2 i x hx
   ·cases hx
theorem aeU{nt id j:Nat}{c:T9}{l:List AV}{x y:AV}{el:TypeId}{Φ:am->AS->Prop}(bY:s.H[id]?=some (.cells l el))(hj:l[j]?=some x)(hw:AA s.H x y)(h:aU lv P r nt c ⟨s.T,s.H.set id (.cells (l.set j y) el)⟩ Φ):aU lv P r nt c s Φ:=λE V a Q ah hQ=>by
 have hc:=ah.br;obtain⟨⟨cs,iP,hd⟩,mW⟩:=hc.obj id _ bY;have cN:Conc E V (s.H.set id (.cells (l.set j y) el)):=
  hc.iF id _ (Env.Le.refl _) hc.I (by rw[hc.n,TQ]) lq rfl (λ_ _ _=>rfl) (λb y _ hy=>⟨hy,λ_=>rfl⟩) ⟨⟨cs,iP,OD hd hj (λv d=>hw E V v hc d)⟩,mW⟩ (λb du=> .inl ⟨_,bY,du⟩)
 exact h E V a Q ⟨cN,ah.tok,ah.size⟩ hQ
theorem NU{nt t:Nat}{c:T9}{x y:AV}{Φ:am->AS->Prop}(ht:look s.T t=some x)(hw:AA s.H x y)(h:aU lv P r nt c ⟨(t,y)::s.T,s.H⟩ Φ):aU lv P r nt c s Φ:=λE V a Q ah hQ=>by
 refine h E V a Q ⟨ah.br,λt' b e=> ?_,ah.size⟩ hQ;simp only[look]at e;split at e
 ·rename_i e';subst e';cases e;exact⟨(ah.tok t x ht).1,hw E V _ ah.br (ah.tok t x ht).2⟩
 ·exact ah.tok t' b e
end
open Go.Proofs Go.Gg.Tk
def gR (τ:bm)(n:Nat):Nat->List Int×bm
 |0=>(TM n 0,τ)
 |i+1=>(((gR τ n i).1.set i ((gR τ n i).1.getD (dx (gR τ n i).2 i).toNat 0)).set (dx (gR τ n i).2 i).toNat i,tick (gR τ n i).2)
theorem zw(τ:bm)(n:Nat):∀i,(gR τ n i).1.length=n
 |0=>YJ
 |i+1=>by rw[gR,TQ,TQ,zw τ n i]
theorem F0{τ:bm}{b:Int}(h:τ.Ok b)(n:Nat):∀i:Nat,(gR τ n i).2.Ok (b+i)
 |0=>h.mono (by simp)
 |i+1=>(F0 h n i).tick.mono (by simp;omega)
theorem ac2(n:Nat):gr (SG .i64 0) n=(TM n (0:Int)).map iv:=by
 have h:∀i∈SV n,AV.oQ ((SG SF 0).cells[i % (SG SF 0).cells.size]!)=iv 0:=λi _=>by
  rw[show (SG SF 0).cells.size=1 from rfl,Nat.mod_one];rfl
 rw[List.map_replicate];unfold gr;rw[Vx h,List.map_const',List.length_range]
section
variable {lv:Bool}{k kp:AV->List aa->Prop}{Gf:bm->List aa}{t N:Nat}{τ:bm}{b:Int}
theorem O7{n:Nat}(hT:dQ Gf t N)(hτ:τ.Ok b)(hb:b<2^30)(hn:n<=2^20)(hk:k (bp (gR τ n n).1) (Gf (gR τ n n).2)):ba lv SC 37 (Gf τ) [.op t 0,iv n] k kp:=by
 refine bE (rs:=[.tmp 4]) (nt:=30) Tryz.f37 λhH hA=> ?_;simp only[bk,SW];have tH:∀o:aa,dQ (λτ=>Gf τ++[o]) t (N+1):=λo=>hT.more [o];refine ai ?_;refine aj ?_;simp only[seval,ac2,hT.len];refine⟨by omega,by omega,?_⟩;refine ai ?_;refine cF ?_;refine gA n (λi:Nat=>[(6,iv i)]) (λi=>Gf (gR τ n i).2++[.cells ((gR τ n i).1.map iv) 3]) (λ_=>True) (λ_ _=>rfl) (by simp only[seval];simp[bN,Wk.refl]) rfl (λ_ _ _=>by simp[hT.len]) trivial (λbT cW i b_ hi R hR=> ?_);clear bT cW;refine ai ?_;refine aE ?_;refine⟨λh=> ?_,λh=> ?_⟩
 ·have bt:i<n:=by omega
  have ay:=F0 hτ n i;have hlen:=zw τ n i;have xn:SF.wrap ((i:Int)+1)=i+1:=bC _ (by omega);have eD:gR τ n (i+1)=(((gR τ n i).1.set i ((gR τ n i).1.getD (dx (gR τ n i).2 i).toNat 0)).set (dx (gR τ n i).2 i).toNat i,tick (gR τ n i).2):=rfl;generalize gR τ n i=m at ay hlen eD⊢;obtain⟨l,σ⟩:=m;simp only at ay hlen eD;have hr:=mz σ i;refine aN ?_;refine ai ?_;refine aM ((rT (tH _) ay (by omega) (by omega) ?_));(try simp only[seval]);generalize dx σ i=u at hr eD⊢;obtain⟨u,rfl⟩:∃w:Nat,u=w:=⟨u.toNat,by omega⟩;rw[Vw]at eD;have RN:u<n:=by omega
  obtain⟨a,ha⟩:=cC (xs:=l) (i:=u) (by omega);have JF:l.getD u 0=a:=by rw[SE,ha];rfl
  rw[JF]at eD;obtain⟨a2,Br⟩:=cC (xs:=l) (i:=i) (by omega);have ET:(i+1<=l.length)=True:=by simp;omega
  have hou:(u+1<=(l.set i a).length)=True:=by simp;omega
  refine aj ?_;simp only[seval,je bt,je RN,hT.len,hT.g0,hT.g1,hT.g2,hT.g3,hT.h2,hT.h3,hT.s0,hT.s1,hT.s2,hT.s3,hT.t2,hT.t3,kv ha,Tn,ET,vV (y:=a) (show i<l.length by omega)];refine aj ?_;simp only[seval,je RN,hT.len,hT.g0,hT.g1,hT.g2,hT.g3,hT.h2,hT.h3,hT.s0,hT.s1,hT.s2,hT.s3,hT.t2,hT.t3,Tn,hou,vV (xs:=l.set i a) (y:=i) (show u<(l.set i a).length by simp;omega)];refine aj ?_;simp only[seval,xn];refine hR _ ⟨bt,trivial,?_⟩;rw[eD];exact dn
 ·have iw:i=n:=by omega
  subst iw;clear hR;refine b9 ?_;have hlen:=zw τ i i;generalize gR τ i i=m at hlen hk⊢;obtain⟨l,σ⟩:=m;simp only at hlen hk
  (repeat apply gX);refine HG (id:=N) (by simp only[seval,hT.len,hT.g0,hT.g1,hT.g2,hT.g3,hT.h2,hT.h3,hT.s0,hT.s1,hT.s2,hT.s3,hT.t2,hT.t3]<;>rfl) ?_
  simp only[seval,hT.len,hT.g0,hT.g1,hT.g2,hT.g3,hT.h2,hT.h3,hT.s0,hT.s1,hT.s2,hT.s3,hT.t2,hT.t3]
  (repeat apply gX);refine NU (t:=5) (y:=bp l) (by simp only[seval]<;>rfl) ?_ ?_
  ·have e:bp l=.sl i ((l.map iv).take i) .shut:=by
    rw[SX (by simp;omega),bp,hlen]
   rw[e];exact MZ (p:=l.length) (by simp only[seval,hT.len,hT.g0,hT.g1,hT.g2,hT.g3,hT.h2,hT.h3,hT.s0,hT.s1,hT.s2,hT.s3,hT.t2,hT.t3]<;>rfl) (by omega) (by simp)
  refine ai ?_;refine aX ?_;exact jy (b:=bp l) (H':=Gf σ) (G:=[.part l.length (l.map iv) 3]) (Wk.refl _) rfl (by simp[hT.len]) (hT.ay hH σ) (by rw[zv];trivial) hk
end
structure Hk (p:List Int)(n:Nat):Prop where
 len:p.length=n
 nodup:p.Nodup
 Gr:∀v∈p,0<=v/\v<(n:Int)
theorem set_perm{t:List Int}{k:Nat}{a b:Int}(h:t[k]?=some a):(t.set k b++[a]).Perm (t++[b]):=by
 obtain⟨hk,rfl⟩:=SN.1 h;have e:t=t.take k++t[k]::t.drop (k+1):=by rw[<- T8 hk,Vg]
 rw[List.set_eq_take_append_cons_drop,if_pos hk]
 conv=>rhs;rw[e]
 rw[List.perm_iff_count];intro v;simp only[List.count_append,List.count_cons,List.count_nil];omega
theorem aat(τ:bm)(n:Nat):∀i:Nat,i<=n->((gR τ n i).1.take i).Nodup/\∀v∈(gR τ n i).1.take i,0<=v/\v<(i:Int)
 |0,_=>by simp
 |i+1,hi=>by
  obtain⟨h1,h2⟩:=aat τ n i (by omega);have hlen:=zw τ n i;rw[gR];generalize gR τ n i=m at h1 h2 hlen⊢;obtain⟨l,σ⟩:=m;simp only at h1 h2 hlen⊢;have hr:=mz σ i;generalize dx σ i=u at hr⊢;obtain⟨k,rfl⟩:∃w:Nat,u=w:=⟨u.toNat,by omega⟩;rw[Vw];obtain⟨a,ha⟩:=cC (xs:=l) (i:=k) (by omega);obtain⟨c,hc⟩:=cC (xs:=l) (i:=i) (by omega);have JF:l.getD k 0=a:=by rw[SE,ha];rfl
  have vG:(l.take i).length=i:=by rw[TR];omega
  have hp:(((l.set i a).set k (i:Int)).take (i+1)).Perm (l.take i++[(i:Int)]):=by
   rw[Z4,Z4,VG,hc];show ((((l.take i)++[c]).set i a).set k (i:Int)).Perm _;rw[UN _ _ (by omega),vG,Vd];show (((l.take i)++[a]).set k (i:Int)).Perm _;by_cases e:k=i
   ·subst e;rw[UN _ _ (by omega),vG,Vd];exact ac' _
   ·rw[Wy _ _ (by omega)];exact set_perm (by rw[Uc,if_pos (by omega)];exact ha)
  rw[JF];refine⟨(ao_ hp).2 ?_,λv hv=> ?_⟩
  ·exact U4.2 ⟨h1,by simp,λx hx y hy e=>by
    have:=h2 x hx;simp at hy;omega⟩
  ·rcases SS.1 (hp.mem_iff.1 hv)with hv|hv
   ·have:=h2 v hv;omega
   ·simp at hv;omega
theorem aau(τ:bm)(n:Nat):Hk (gR τ n n).1 n:=by
 obtain⟨h1,h2⟩:=aat τ n n (SQ _);rw[SX (by rw[zw];exact SQ _)]at h1 h2;exact⟨zw τ n n,h1,h2⟩
theorem DE{τ:bm}{n m lo hi:Int}(hn:lo<=n/\n<=hi)(oE:0<=lo):uC (mb τ n m lo hi) hi/\j8 (mb τ n m lo hi) n=true:=by
 have r1:=mz τ m;have r2:=mz (tick τ) m;unfold mb;refine⟨⟨?_,?_,?_⟩,?_⟩
 ·dsimp only;omega
 ·dsimp only;omega
 ·dsimp only;omega
 ·unfold j8;rw[Th,decide_eq_true_eq,decide_eq_true_eq];dsimp only;omega
theorem Il(τ:bm){ns:List Int}(h:ns≠[]):u6 τ ns∈ns:=by
 unfold u6;have hl:0<ns.length:=VL.2 h;have r:=mz τ ((ns.length:Int)-1);have hi:(dx τ ((ns.length:Int)-1)).toNat<ns.length:=by omega
 rw[SE,SP hi];exact VQ hi
def vX (τ:bm)(an:Int):Int:=u6 (tick τ) [0,an,dx τ an]
theorem ab6(τ:bm){an:Int}(h:0<=an):0<=vX τ an/\vX τ an<=an:=by
 have r:=mz τ an;have:=Il (tick τ) (ns:=[0,an,dx τ an]) (by simp);unfold vX;simp only[SL,S0,or_false]at this;omega
def kE (τ:bm)(first an:Int):Nat->List Int×bm
 |0=>([first],τ)
 |i+1=>((kE τ first an i).1++[(kE τ first an i).1.getD i 0+vX (kE τ first an i).2 an],tick (tick (kE τ first an i).2))
structure mB (first an:Int)(l:List Int)(i:Nat):Prop where
 len:l.length=i+1
 head:l.getD 0 0=first
 step:∀j,j<i->l.getD j 0<=l.getD (j+1) 0/\l.getD (j+1) 0<=l.getD j 0+an
theorem Ea{l:List Int}{v:Int}{j:Nat}(h:j<l.length):(l++[v]).getD j 0=l.getD j 0:=by
 rw[SE,SE,SZ h]
theorem aiG{l:List Int}{v:Int}{j:Nat}(h:l.length=j):(l++[v]).getD j 0=v:=by
 subst h;rw[SE,Tj (SQ _),Vd];rfl
theorem QO(τ:bm)(first:Int){an:Int}(h:0<=an):∀i,mB first an (kE τ first an i).1 i
 |0=>⟨rfl,rfl,λj hj=>by omega⟩
 |i+1=>by
  have ih:=QO τ first h i
  rw[kE];have hs:=ab6 (kE τ first an i).2 h;generalize vX (kE τ first an i).2 an=v at hs⊢;generalize(kE τ first an i).1=l at ih⊢;have hl:=ih.len;refine⟨by rw[S9,hl];rfl,by rw[Ea (by omega)];exact ih.head,λj hj=> ?_⟩;by_cases ce:j<i
  ·rw[Ea (by omega),Ea (by omega)];exact ih.step j ce
  ·have:j=i:=(by omega);subst this;rw[Ea (by omega),aiG (by omega)];omega
theorem QP{τ:bm}{b:Int}(h:τ.Ok b)(first an:Int):∀i:Nat,(kE τ first an i).2.Ok (b+2* i)
 |0=>h.mono (by simp)
 |i+1=>(QP h first an i).tick.tick.mono (by simp;omega)
theorem mB.ge{first an:Int}{l:List Int}{i:Nat}(h:mB first an l i)(hp:0<=an):∀j,j<=i->first<=l.getD j 0/\l.getD j 0<=first+an* j
 |0,_=>by rw[h.head];simp
 |j+1,hj=>by
  have ih:=h.ge hp j (by omega);have:=h.step j (by omega);have e:an* ((j+1:Nat):Int)=an* j+an:=by rw[Int.natCast_add,Int.mul_add];simp
  omega
def j9 (first:Int)(order:List Int)(i:Nat):List Int:=(SV i).map λj=>first+order.getD j 0
theorem aaF(first:Int)(order:List Int)(i:Nat):j9 first order (i+1)=j9 first order i++[first+order.getD i 0]:=by
 unfold j9;rw[Vk,TF];rfl
theorem aaE(first:Int)(order:List Int)(i:Nat):(j9 first order i).length=i:=by simp[j9]
def jX (h:List Int)(hours:Int)(num:Nat->Int)(τ:bm):Nat->List aG×bm
 |0=>([],τ)
 |i+1=>((jX h hours num τ i).1++[kW (tick (jX h hours num τ i).2) h (num i) hours],tick (tick (tick (tick (tick (jX h hours num τ i).2)))))
theorem yL(h:List Int)(hours:Int)(num:Nat->Int)(τ:bm):∀i,(jX h hours num τ i).1.length=i
 |0=>rfl
 |i+1=>by rw[jX,S9,yL h hours num τ i];rfl
theorem Jg{τ:bm}{b:Int}(hτ:τ.Ok b)(h:List Int)(hours:Int)(num:Nat->Int):∀i:Nat,(jX h hours num τ i).2.Ok (b+5* i)
 |0=>hτ.mono (by simp)
 |i+1=>(Jg hτ h hours num i).tick.tick.tick.tick.tick.mono (by simp;omega)
def ri (h:List Int)(hours:Int)(τ:bm):Nat->List Seen×bm
 |0=>([],τ)
 |i+1=>((ri h hours τ i).1++[⟨dx (ri h hours τ i).2 hours,mb (tick (ri h hours τ i).2) (h.getD (dx (ri h hours τ i).2 hours).toNat 0) 1 0 99⟩],tick (tick (tick (ri h hours τ i).2)))
theorem abB(h:List Int)(hours:Int)(τ:bm):∀i,(ri h hours τ i).1.length=i
 |0=>rfl
 |i+1=>by rw[ri,S9,abB h hours τ i];rfl
theorem abD{τ:bm}{b:Int}(hτ:τ.Ok b)(h:List Int)(hours:Int):∀i:Nat,(ri h hours τ i).2.Ok (b+3* i)
 |0=>hτ.mono (by simp)
 |i+1=>(abD hτ h hours i).tick.tick.tick.mono (by simp;omega)
theorem abC{h:List Int}{hours:Int}{τ:bm}(hu:∀τ,0<=dx τ hours/\dx τ hours<=hours):∀i,∀s∈(ri h hours τ i).1,0<=s.hour/\s.hour<=hours/\∃σ,s.next=mb σ (h.getD s.hour.toNat 0) 1 0 99
 |0,s,hs=>by cases hs
 |i+1,s,hs=>by
  rw[ri]at hs;rcases SS.1 hs with hs|hs
  ·exact abC hu i s hs
  ·rw[S5]at hs;subst hs;exact⟨(hu _).1,(hu _).2,_,rfl⟩
structure Dm (h:List Int)(hours n:Int)(y:aG):Prop where
 num:uC y.number 99
 hour:uC y.hour (hours-1)
 fits:fits h y n=true
theorem Jf{h:List Int}{hours:Int}{num:Nat->Int}{τ:bm}{P:Int->aG->Prop}(hP:∀τ n,P n (kW τ h n hours)):∀i j y,(jX h hours num τ i).1[j]?=some y->P (num j) y
 |0,j,y,hy=>by cases hy
 |i+1,j,y,hy=>by
  rw[jX]at hy;have hl:=yL h hours num τ i;by_cases hj:j<i
  ·rw[SZ (by omega)]at hy;exact Jf hP i j y hy
  ·rw[Tj (by omega),hl]at hy;have:j=i:=(by have:=(SN.1 hy).1;simp at this;omega);subst this;rw[Vd]at hy;cases hy;exact hP _ _
section
variable {lv:Bool}{P:SJ}{r:Option Nat}{s:AS}
theorem HF{nt:Nat}{x y:T9}{α:Type}{Φ Ψ:am->AS->Prop}(inv:α->AS)(ok:α->Prop)(h1:aU lv P r nt x s (am.then (λs'=>∃a,ok a/\s'.Sub (inv a)) Ψ))(h2:∀a,ok a->aU lv P r nt y (inv a) Φ):aU lv P r nt x s (am.then (λs'=>aU lv P r nt y s' Φ) Ψ):=
 h1.mono λe s' h=>by
  cases e with
  |normal=>
   obtain⟨a,h3,h4⟩:=h;exact AR h4 (h2 a h3)
  |_=>exact h
end
theorem Ng:gr (SG .i64 0) 3=[iv 0,iv 0,iv 0]:=rfl
theorem zE4:gr (SG .i64 0) 4=[iv 0,iv 0,iv 0,iv 0]:=rfl
theorem G_:gr (TD #[SG .i64 0,SG .i64 0,SG .i64 0,SG .i64 0]) 4=[iv 0,iv 0,iv 0,iv 0]:=rfl
theorem zS1:gr (TD #[SG .i64 0,SG .i64 0,SG .i64 0]) 3=[iv 0,iv 0,iv 0]:=rfl
theorem CG:(3<=2^24)=True:=eq_true (by decide)
theorem zG:(4<=2^24)=True:=eq_true (by decide)
theorem zF:(1<=2^24)=True:=eq_true (by decide)
theorem acT{first an w v:Int}{i:Nat}(h1:first<=w/\w<=first+an* i)(h2:0<=v/\v<=an)(hf:0<=first/\first<=90)(hp:1<=an/\an<=3)(hi:i<=3):0<=w+v/\w+v<=1000:=by
 have:an* (i:Int)<=3* 3:=Yh (by omega) (by omega) (by omega) (by omega);generalize an* (i:Int)=q at h1 this;omega
theorem KW{n:Int}(h:0<=n/\n<=1000):SF.wrap n=n:=bC _ (by omega)
theorem MS(h:List Int)(n:Int):∀m:Nat, -1<=lz h n m/\lz h n m<m
 |0=>by simp[lz]
 |m+1=>by
  have:=MS h n m;unfold lz;split
  ·omega
  ·omega
theorem IM:∀l:List aG,(l.flatMap aG.l).length=l.length* 4
 |[]=>rfl
 |a::l=>by rw[Uo,S9,IM l,aG.len,Uj];omega
theorem Pn:∀l:List Seen,(l.flatMap Seen.l).length=l.length* 3
 |[]=>rfl
 |a::l=>by rw[Uo,S9,Pn l,Seen.len,Uj];omega
theorem IN{α:Type}{f:α->List AV}{l:List α}{a:α}:(l++[a]).flatMap f=l.flatMap f++f a:=by rw[VR];simp
theorem ams{α:Type}{f:Nat->α}{l:List α}{n:Nat}(hl:l.length=n)(h:∀i,i<n->l[i]?=some (f i)):(SV n).map f=l:=by
 refine Yp λi=> ?_;rw[To];by_cases hi:i<n
 ·rw[Xz hi,UM,h i hi]
 ·rw[Uu (by simp;omega),Uu (by omega)];rfl
def No (a b:Nat):Prop:=(if(a:Int)<(b:Int)then(a:Int)else(b:Int))=((min b a:Nat):Int)
theorem aas(a b:Nat):No a b:=by unfold No;split<;>omega
structure Made (pm:Nat)(x:ak)(bB aA bK:List Int):Prop where
 first:0<=x.first/\x.first<=90
 hours:1<=x.hours/\x.hours<=3
 an:1<=x.an/\x.an<=3
 EL:mB x.first x.an bB x.hours.toNat
 amD:x.pieces.length<=pm
 xC:aA.length=x.pieces.length
 num:∀n∈aA,x.first<=n/\n<bB.getD x.hours.toNat 0
 LO:aA.Nodup
 piece:∀(p:Nat) y,x.pieces[p]?=some y->∃τ,y=kW τ bB (aA.getD p 0) x.hours
 vR:bK.length=x.aB.length
 aB:x.aB.length<=3
 own:∀v∈bK,0<=v/\v<(aA.length:Int)
 Gd:bK.Nodup
 stub:∀(s:Nat) y,x.aB[s]?=some y->∃τ,y=kW τ bB (aA.getD (bK.getD s 0).toNat 0) x.hours
 zS:x.seen.length<=2
 seen:∀s∈x.seen,0<=s.hour/\s.hour<=x.hours/\∃τ,s.next=mb τ (bB.getD s.hour.toNat 0) 1 0 99
structure AB (Gf:bm->List aa)(N:Nat)(zc:aa)(YY:List AV->Nat->Nat->Nat->Nat->Nat->List aa):Prop where
 len:∀r a b c d e,(YY r a b c d e).length=8
 y0:∀τ r a b c d e,(Gf τ++YY r a b c d e)[N]?=some zc
 y1:∀τ r a b c d e,(Gf τ++YY r a b c d e)[N+1]?=some (.cells r 26)
 y3:∀τ r a b c d e,(Gf τ++YY r a b c d e)[N+3]?=some (.tail a 4 48)
 y4:∀τ r a b c d e,(Gf τ++YY r a b c d e)[N+4]?=some (.tail b 4 48)
 y5:∀τ r a b c d e,(Gf τ++YY r a b c d e)[N+5]?=some (.tail c 3 61)
 y6:∀τ r a b c d e,(Gf τ++YY r a b c d e)[N+6]?=some (.tail d 1 3)
 y7:∀τ r a b c d e,(Gf τ++YY r a b c d e)[N+7]?=some (.tail e 1 3)
 z1:∀τ r r' a b c d e,(Gf τ++YY r a b c d e).set (N+1) (.cells r' 26)=Gf τ++YY r' a b c d e
 z3:∀τ r a a' b c d e,(Gf τ++YY r a b c d e).set (N+3) (.tail a' 4 48)=Gf τ++YY r a' b c d e
 z4:∀τ r a b b' c d e,(Gf τ++YY r a b c d e).set (N+4) (.tail b' 4 48)=Gf τ++YY r a b' c d e
 z5:∀τ r a b c c' d e,(Gf τ++YY r a b c d e).set (N+5) (.tail c' 3 61)=Gf τ++YY r a b c' d e
 z6:∀τ r a b c d d' e,(Gf τ++YY r a b c d e).set (N+6) (.tail d' 1 3)=Gf τ++YY r a b c d' e
 s0:∀r a b c d e y,∃L,(YY r a b c d e).set 0 y=y::L
 z7:∀τ r a b c d e e',(Gf τ++YY r a b c d e).set (N+7) (.tail e' 1 3)=Gf τ++YY r a b c d e'
noncomputable def uU:T9:=XC.body.getD .skip
def tn:Nat->T9->T9
 |0,c=>c
 |n+1,c=>tn n (cs c)
section
variable {lv:Bool}{k kp:AV->List aa->Prop}{Gf:bm->List aa}{t N:Nat}{b:Int}
theorem ahc{pm i mn:Nat}{first an:Int}{l order:List Int}{ρ:bm}{zc:aa}{YY:List AV->Nat->Nat->Nat->Nat->Nat->List aa}{Ψ:am->AS->Prop}(hT:dQ Gf t N)(hY:AB Gf N zc YY)(hb:b<2^10)(su:pm<=4)(hi:1<=i/\i<=3)(qB:0<=first/\first<=90)(iN:l.length=i+1)(Ra:mn<=9)(pB:Hk order mn)(pE:ρ.Ok (b+19)):
  aU lv SC none 240 (cs (cf (tn 7 uU))) ⟨[(17,iv 0),(16,.sl 0 [] (.opn (N+7))),(15,.sl 0 [] (.opn (N+6))),(14,bp order),(13,iv mn),(11,.sl (i+1) (l.map iv) (.opn (N+2))),(10,.op (N+1) 0),(6,.op N 0),(0,.op t 0),(1,iv pm),(2,bv true)],Gf ρ++YY [iv first,iv i,iv an,.sl 0 [] (.opn (N+5)),.sl 0 [] (.opn (N+3)),.sl 0 [] (.opn (N+4))] 0 0 0 0 0⟩ (am.then (λs'=>∃y:Nat×bm,(y.1<=pm/\y.1<=mn/\y.2.Ok (b+60))/\s'.Sub ⟨[(16,.sl 0 [] (.opn (N+7))),(15,.sl y.1 ((j9 first order y.1).map iv) (.opn (N+6))),(13,iv mn),(11,.sl (i+1) (l.map iv) (.opn (N+2))),(10,.op (N+1) 0),(6,.op N 0),(0,.op t 0),(2,bv true)],Gf y.2++YY [iv first,iv i,iv an,.sl 0 [] (.opn (N+5)),.sl y.1 ((jX l i (λj=>first+order.getD j 0) ρ y.1).1.flatMap aG.l) (.opn (N+3)),.sl 0 [] (.opn (N+4))] y.1 0 0 y.1 0⟩) Ψ):=by
 obtain⟨yI,y0,y1,y3,y4,y5,y6,y7,uz,C7,C8,C9,G7,dE,G8⟩:=hY;have mh:∀L:List aa,dQ (λτ=>Gf τ++L) t (N+L.length):=λL=>hT.more L;obtain⟨hv,yV⟩:∃hv:Nat->List aG×bm,∀j,hv j=jX l i (λj=>first+order.getD j 0) ρ j:=⟨_,λ_=>rfl⟩;simp only[<- yV];have hvl:∀j,(hv j).1.length=j:=λj=>by rw[yV];exact yL _ _ _ _ _
 have hvt:∀j:Nat,(hv j).2.Ok (b+19+5* j):=λj=>by rw[yV];exact(Jg pE _ _ _ j).mono (by omega)
 have qP:hv 0=([],ρ):=yV 0;unfold uU XC;dsimp only[S8,tn,cs,cf];have EP:=aas mn pm;refine cF ?_;refine gA (min pm mn) (λj:Nat=>[(15,.sl j ((j9 first order j).map iv) (.opn (N+6))),(17,iv j)]) (λj=>Gf (hv j).2++YY [iv first,iv i,iv an,.sl 0 [] (.opn (N+5)),.sl j ((hv j).1.flatMap aG.l) (.opn (N+3)),.sl 0 [] (.opn (N+4))] j 0 0 j 0) (λ_=>True) (λ_ _=>rfl) (by simp only[j9,Zz,List.map_nil];simp only[seval];simp[bN,Wk.refl]) (by rw[qP];rfl) (λ_ _ _=>by simp[hT.len,yI]) trivial (λbT cW j oD _ R hR=> ?_);clear bT cW;have kJ:=hvt j;by_cases eV:j<min pm mn
 ·have hd:decide ((j:Int)<((min pm mn:Nat):Int))=true:=by simpa using eV
  refine aj ?_;simp only[seval,show (if(mn:Int)<(pm:Int)then(mn:Int)else(pm:Int))=((min pm mn:Nat):Int)from EP,hd];have eD:hv (j+1)=((hv j).1++[kW (tick (hv j).2) l (first+order.getD j 0) i],tick (tick (tick (tick (tick (hv j).2))))):=by rw[yV,yV];rfl
  have qQ:=hvl j;generalize EJ:hv j=hj at kJ eD qQ⊢;obtain⟨ps,ρj⟩:=hj;dsimp only at kJ eD qQ⊢;refine aM ((O8 (n:=6) (mh _) kJ (by omega) (by decide) ?_));(try simp only[seval]);refine aE ?_;refine⟨λhc=> ?_,λhc=> ?_⟩
  ·obtain⟨o,ho⟩:=cC (xs:=order) (i:=j) (by rw[pB.len];omega);have hor:=pB.Gr o (uo ho);have hgo:order.getD j 0=o:=(by rw[SE,ho];rfl);rw[hgo]at eD;have KO:SF.wrap (first+o)=first+o:=KW (by omega)
   have w_:SF.wrap ((j:Int)+1)=((j+1:Nat):Int):=(by rw[bC _ (by omega)];rfl);have pn:(0<=(j:Int)/\(j:Int)<(order.length:Int))=True:=(by simp[pB.len];omega);have jB:=aaE first order j
   have BW:UY iv (j9 first order j)++[AV.val (SG SF (first+o))]=(j9 first order (j+1)).map iv:=(by rw[aaF,hgo,TF];rfl);have BV:(j9 first order (j+1))[j]?=some (first+o):=(by rw[aaF,hgo,Tj (by omega),jB,Vd];rfl);have tJ:(0<=(j:Int)/\(j:Int)<(j:Int)+1)=True:=(by simp;omega);refine aN ?_;refine cF ?_;refine eo 9 ?_;simp only[seval,z1,zF,y1,y6,G7,bp,fZ ho,pn,KO,jB];refine⟨by omega,?_⟩;rw[BW];obtain⟨n,hn⟩:∃n,n=first+o:=⟨_,rfl⟩
   rw[<- hn]at BV eD;have pG:=MS l n i;have wx:=λ(L:List aa) k kp=>O9 (lv:=lv) (k:=k) (kp:=kp) (h:=l) (n:=n) (hours:=i) (e:=.opn (N+2)) (mh L) kJ.tick (by omega) (by omega) (by omega) (by omega) (by rw[iN,VY];omega);simp only[iN]at wx;obtain⟨y,hy⟩:∃y,y=kW (tick ρj) l n i:=⟨_,rfl⟩;rw[<- hy]at eD wx;obtain⟨FP,qv⟩:∃FP,FP=ps.flatMap aG.l:=⟨_,rfl⟩;have u_:FP.length=j* 4:=(by rw[qv,IM,qQ]);have Bh:FP++aG.l y=(hv (j+1)).1.flatMap aG.l:=(by rw[eD,IN,qv]);rw[<- qv];refine qi [10,12,14] (SV 15) (λD=>bif isDone 14 D then Gf (tick (tick (tick (tick (tick ρj)))))++YY [iv first,iv i,iv an,.sl 0 [] (.opn (N+5)),.sl (j+1) (FP++aG.l y) (.opn (N+3)),.sl 0 [] (.opn (N+4))] (j+1) 0 0 (j+1) 0 else bif isDone 12 D then Gf (tick (tick (tick (tick (tick ρj)))))++YY [iv first,iv i,iv an,.sl 0 [] (.opn (N+5)),.sl j FP (.opn (N+3)),.sl 0 [] (.opn (N+4))] (j+1) 0 0 (j+1) 0 else bif isDone 10 D then Gf (tick (tick (tick (tick (tick ρj)))))++YY [iv first,iv i,iv an,.sl 0 [] (.opn (N+5)),.sl j FP (.opn (N+3)),.sl 0 [] (.opn (N+4))] j 0 0 (j+1) 0 else Gf (tick ρj)++YY [iv first,iv i,iv an,.sl 0 [] (.opn (N+5)),.sl j FP (.opn (N+3)),.sl 0 [] (.opn (N+4))] j 0 0 (j+1) 0) ?_;simp only[seval,G_,zG,y1,y3,uz,C7,fZ BV,tJ,u_];have Cg:y.l=[iv y.number.min,iv y.number.max,iv y.hour.min,iv y.hour.max]:=rfl;refine u5 y.av _ (dC (wx _ _ _ ⟨rfl,rfl⟩)) ?_;(try simp only[seval,G_,zG,y1,y3,uz,C7,fZ BV,tJ,u_,aG.av,Cg]);refine⟨by omega,?_⟩;refine aj ?_;simp only[seval,w_];refine hR _ ⟨by omega,trivial,?_⟩;rw[<- Bh,eD];exact dn
  ·refine b9 ?_;exact⟨(j,tick ρj),⟨by dsimp only;omega,by dsimp only;omega,kJ.tick.mono (by omega)⟩,fx (by simp only[seval];simp[bN,Wk.refl]) (by rw[EJ])⟩
 ·have hd:decide ((j:Int)<((min pm mn:Nat):Int))=false:=by simpa using eV
  refine aj ?_;simp only[seval,show (if(mn:Int)<(pm:Int)then(mn:Int)else(pm:Int))=((min pm mn:Nat):Int)from EP,hd];refine aE ?_;refine b9 ?_;exact⟨(j,(hv j).2),⟨by dsimp only;omega,by dsimp only;omega,kJ.mono (by omega)⟩,fx (by simp only[seval];simp[bN,Wk.refl]) rfl⟩
theorem ag9{i np:Nat}{first an w:Int}{l aA gH:List Int}{cZ:List aG}{ρ2:bm}{zc:aa}{YY:List AV->Nat->Nat->Nat->Nat->Nat->List aa}{Ψ:am->AS->Prop}(hT:dQ Gf t N)(hY:AB Gf N zc YY)(hb:b<2^10)(hi:1<=i/\i<=3)(qB:0<=first/\first<=90)(Fu:first<=w/\w<=first+9)(iN:l.length=i+1)(BY:np<=4)(jB:aA.length=np)(tT:∀n∈aA,first<=n/\n<w)(sv:Hk gH np)(xo:ρ2.Ok (b+64)):
  aU lv SC none 240 (cs (cf (tn 9 uU))) ⟨[(19,iv 0),(18,.sl np (gH.map iv) .shut),(16,.sl 0 [] (.opn (N+7))),(15,.sl np (aA.map iv) (.opn (N+6))),(11,.sl (i+1) (l.map iv) (.opn (N+2))),(10,.op (N+1) 0),(6,.op N 0),(0,.op t 0),(2,bv true)],Gf ρ2++YY [iv first,iv i,iv an,.sl 0 [] (.opn (N+5)),.sl np (cZ.flatMap aG.l) (.opn (N+3)),.sl 0 [] (.opn (N+4))] np 0 0 np 0⟩ (am.then (λs'=>∃y:Nat×bm,(y.1<=np/\y.1<=3/\y.2.Ok (b+90))/\s'.Sub ⟨[(16,.sl y.1 ((gH.take y.1).map iv) (.opn (N+7))),(15,.sl np (aA.map iv) (.opn (N+6))),(11,.sl (i+1) (l.map iv) (.opn (N+2))),(10,.op (N+1) 0),(6,.op N 0),(0,.op t 0),(2,bv true)],Gf y.2++YY [iv first,iv i,iv an,.sl 0 [] (.opn (N+5)),.sl np (cZ.flatMap aG.l) (.opn (N+3)),.sl y.1 ((jX l i (λj=>aA.getD (gH.getD j 0).toNat 0) ρ2 y.1).1.flatMap aG.l) (.opn (N+4))] np y.1 0 np y.1⟩) Ψ):=by
 obtain⟨yI,y0,y1,y3,y4,y5,y6,y7,uz,C7,C8,C9,G7,dE,G8⟩:=hY;have mh:∀L:List aa,dQ (λτ=>Gf τ++L) t (N+L.length):=λL=>hT.more L;obtain⟨hw,yW⟩:∃hw:Nat->List aG×bm,∀j,hw j=jX l i (λj=>aA.getD (gH.getD j 0).toNat 0) ρ2 j:=⟨_,λ_=>rfl⟩;simp only[<- yW];have qS:∀j,(hw j).1.length=j:=λj=>by rw[yW];exact yL _ _ _ _ _
 have ua:∀j:Nat,(hw j).2.Ok (b+64+5* j):=λj=>by rw[yW];exact Jg xo _ _ _ j
 have xk:hw 0=([],ρ2):=yW 0;have RS:=sv.len;unfold uU XC;dsimp only[S8,tn,cs,cf];have Q8:=aas 3 np;refine cF ?_;refine gA (min np 3) (λj:Nat=>[(16,.sl j ((gH.take j).map iv) (.opn (N+7))),(19,iv j)]) (λj=>Gf (hw j).2++YY [iv first,iv i,iv an,.sl 0 [] (.opn (N+5)),.sl np (cZ.flatMap aG.l) (.opn (N+3)),.sl j ((hw j).1.flatMap aG.l) (.opn (N+4))] np j 0 np j) (λ_=>True) (λ_ _=>rfl) (by simp only[seval];simp[bN,Wk.refl]) (by rw[xk];rfl) (λ_ _ _=>by simp[hT.len,yI]) trivial (λbT cW j oD _ R hR=> ?_);clear bT cW;have kJ:=ua j;by_cases eV:j<min np 3
 ·have hd:decide ((j:Int)<((min np 3:Nat):Int))=true:=by simpa using eV
  refine aj ?_;simp only[seval,bp,RS,show (if(3:Int)<(np:Int)then(3:Int)else(np:Int))=((min np 3:Nat):Int)from Q8,hd];have eD:hw (j+1)=((hw j).1++[kW (tick (hw j).2) l (aA.getD (gH.getD j 0).toNat 0) i],tick (tick (tick (tick (tick (hw j).2))))):=by rw[yW,yW];rfl
  have qQ:=qS j;generalize EJ:hw j=hj at kJ eD qQ⊢;obtain⟨ts,ρj⟩:=hj;dsimp only at kJ eD qQ⊢;refine aM ((O8 (n:=3) (mh _) kJ (by omega) (by decide) ?_));(try simp only[seval]);refine aE ?_;refine⟨λhc=> ?_,λhc=> ?_⟩
  ·obtain⟨v,oM⟩:=cC (xs:=gH) (i:=j) (by omega);have hvr:=sv.Gr v (uo oM);obtain⟨v,rfl⟩:∃v':Nat,v=v':=⟨v.toNat,by omega⟩;have BK:gH.getD j 0=v:=(by rw[SE,oM];rfl);rw[BK,Vw]at eD;obtain⟨n,ES⟩:=cC (xs:=aA) (i:=v) (by omega);have EG:aA.getD v 0=n:=(by rw[SE,ES];rfl);rw[EG]at eD;have qI:=tT n (uo ES);have w_:SF.wrap ((j:Int)+1)=((j+1:Nat):Int):=(by rw[bC _ (by omega)];rfl);have tJ:(0<=(j:Int)/\(j:Int)<(np:Int))=True:=(by simp;omega);have Ew:(0<=(v:Int)/\(v:Int)<(np:Int))=True:=(by simp;omega);have aF:(gH.take j).length=j:=(by rw[TR];omega);have akU:(gH.take j).map iv++[AV.val (SG SF v)]=(gH.take (j+1)).map iv:=(by rw[VG,oM,TF];rfl);refine aN ?_;refine aj ?_;simp only[seval,z1,zF,y7,G8,fZ oM,tJ,aF];refine⟨by omega,?_⟩;rw[akU];have pG:=MS l n i;have wx:=λ(L:List aa) k kp=>O9 (lv:=lv) (k:=k) (kp:=kp) (h:=l) (n:=n) (hours:=i) (e:=.opn (N+2)) (mh L) kJ.tick (by omega) (by omega) (by omega) (by omega) (by rw[iN,VY];omega);simp only[iN]at wx;obtain⟨y,hy⟩:∃y,y=kW (tick ρj) l n i:=⟨_,rfl⟩;rw[<- hy]at eD wx;obtain⟨FP,qv⟩:∃FP,FP=ts.flatMap aG.l:=⟨_,rfl⟩;have u_:FP.length=j* 4:=(by rw[qv,IM,qQ]);have Bh:FP++aG.l y=(hw (j+1)).1.flatMap aG.l:=(by rw[eD,IN,qv]);rw[<- qv];refine qi [13,15,17] (SV 18) (λD=>bif isDone 17 D then Gf (tick (tick (tick (tick (tick ρj)))))++YY [iv first,iv i,iv an,.sl 0 [] (.opn (N+5)),.sl np (cZ.flatMap aG.l) (.opn (N+3)),.sl (j+1) (FP++aG.l y) (.opn (N+4))] np (j+1) 0 np (j+1)else bif isDone 15 D then Gf (tick (tick (tick (tick (tick ρj)))))++YY [iv first,iv i,iv an,.sl 0 [] (.opn (N+5)),.sl np (cZ.flatMap aG.l) (.opn (N+3)),.sl j FP (.opn (N+4))] np (j+1) 0 np (j+1)else bif isDone 13 D then Gf (tick (tick (tick (tick (tick ρj)))))++YY [iv first,iv i,iv an,.sl 0 [] (.opn (N+5)),.sl np (cZ.flatMap aG.l) (.opn (N+3)),.sl j FP (.opn (N+4))] np j 0 np (j+1)else Gf (tick ρj)++YY [iv first,iv i,iv an,.sl 0 [] (.opn (N+5)),.sl np (cZ.flatMap aG.l) (.opn (N+3)),.sl j FP (.opn (N+4))] np j 0 np (j+1)) ?_;simp only[seval,G_,zG,y1,y4,uz,C8,fZ oM,tJ,fZ ES,Ew,u_,bp,jB];have Cg:y.l=[iv y.number.min,iv y.number.max,iv y.hour.min,iv y.hour.max]:=rfl;refine u5 y.av _ (dC (wx _ _ _ ⟨rfl,rfl⟩)) ?_;(try simp only[seval,G_,zG,y1,y4,uz,C8,fZ oM,tJ,fZ ES,Ew,u_,bp,jB,aG.av,Cg]);refine⟨by omega,?_⟩;refine aj ?_;simp only[seval,w_];refine hR _ ⟨by omega,trivial,?_⟩;rw[<- Bh,eD];exact dn
  ·refine b9 ?_;exact⟨(j,tick ρj),⟨by dsimp only;omega,by dsimp only;omega,kJ.tick.mono (by omega)⟩,fx (by simp only[seval];simp[bN,Wk.refl]) (by rw[EJ])⟩
 ·have hd:decide ((j:Int)<((min np 3:Nat):Int))=false:=by simpa using eV
  refine aj ?_;simp only[seval,bp,RS,show (if(3:Int)<(np:Int)then(3:Int)else(np:Int))=((min np 3:Nat):Int)from Q8,hd];refine aE ?_;refine b9 ?_;exact⟨(j,(hw j).2),⟨by dsimp only;omega,by dsimp only;omega,kJ.mono (by omega)⟩,fx (by simp only[seval];simp[bN,Wk.refl]) rfl⟩
theorem ahb{i np ns cn:Nat}{first an:Int}{l aA bK:List Int}{cZ eP:List aG}{ρ4:bm}{zc:aa}{YY:List AV->Nat->Nat->Nat->Nat->Nat->List aa}{Ψ:am->AS->Prop}(hT:dQ Gf t N)(hY:AB Gf N zc YY)(hb:b<2^10)(hi:1<=i/\i<=3)(qB:0<=first/\first<=90)(xd:1<=an/\an<=3)(ay:mB first an l i)(gC:cn<=2)(FB:ρ4.Ok (b+91)):
  aU lv SC none 240 (cs (cf (tn 10 uU))) ⟨[(20,iv cn),(16,.sl ns (bK.map iv) (.opn (N+7))),(15,.sl np (aA.map iv) (.opn (N+6))),(11,.sl (i+1) (l.map iv) (.opn (N+2))),(10,.op (N+1) 0),(6,.op N 0),(0,.op t 0),(2,bv true)],Gf ρ4++YY [iv first,iv i,iv an,.sl 0 [] (.opn (N+5)),.sl np (cZ.flatMap aG.l) (.opn (N+3)),.sl ns (eP.flatMap aG.l) (.opn (N+4))] np ns 0 np ns⟩ (am.then (λs'=>∃y:List Seen×bm,(y.1.length<=2/\(∀s∈y.1,0<=s.hour/\s.hour<=i/\∃τ,s.next=mb τ (l.getD s.hour.toNat 0) 1 0 99)/\y.2.Ok (b+97))/\s'.Sub ⟨[(16,.sl ns (bK.map iv) (.opn (N+7))),(15,.sl np (aA.map iv) (.opn (N+6))),(11,.sl (i+1) (l.map iv) (.opn (N+2))),(10,.op (N+1) 0),(6,.op N 0),(0,.op t 0),(2,bv true)],Gf y.2++YY [iv first,iv i,iv an,.sl y.1.length (y.1.flatMap Seen.l) (.opn (N+5)),.sl np (cZ.flatMap aG.l) (.opn (N+3)),.sl ns (eP.flatMap aG.l) (.opn (N+4))] np ns y.1.length np ns⟩) Ψ):=by
 obtain⟨yI,y0,y1,y3,y4,y5,y6,y7,uz,C7,C8,C9,G7,dE,G8⟩:=hY;have mh:∀L:List aa,dQ (λτ=>Gf τ++L) t (N+L.length):=λL=>hT.more L;have iN:=ay.len;unfold uU XC;dsimp only[S8,tn,cs,cf];obtain⟨hz,yX⟩:∃hz:Nat->List Seen×bm,∀j,hz j=ri l i ρ4 j:=⟨_,λ_=>rfl⟩;have nT:∀j,(hz j).1.length=j:=λj=>by rw[yX];exact abB _ _ _ _
 have KU:∀j:Nat,(hz j).2.Ok (b+91+3* j):=λj=>by rw[yX];exact(abD FB _ _ j).mono (by omega)
 have Fy:hz 0=([],ρ4):=yX 0;refine cF ?_;refine gA cn (λj:Nat=>[(20,iv ((cn:Int)-j))]) (λj=>Gf (hz j).2++YY [iv first,iv i,iv an,.sl j ((hz j).1.flatMap Seen.l) (.opn (N+5)),.sl np (cZ.flatMap aG.l) (.opn (N+3)),.sl ns (eP.flatMap aG.l) (.opn (N+4))] np ns j np ns) (λ_=>True) (λ_ _=>rfl) (by simp only[seval];simp[bN,Wk.refl]) (by rw[Fy];rfl) (λ_ _ _=>by simp[hT.len,yI]) trivial (λbT cW j oD _ R hR=> ?_);clear bT cW;have kJ:=KU j;refine ai ?_;refine aE ?_;refine⟨λhc=> ?_,λhc=> ?_⟩
 ·have eV:j<cn:=by omega
  have eD:hz (j+1)=((hz j).1++[⟨dx (hz j).2 i,mb (tick (hz j).2) (l.getD (dx (hz j).2 i).toNat 0) 1 0 99⟩],tick (tick (tick (hz j).2))):=by rw[yX,yX];rfl
  have qQ:=nT j;generalize EJ:hz j=hj at kJ eD qQ⊢;obtain⟨ss,ρj⟩:=hj;dsimp only at kJ eD qQ⊢;have hur:=mz ρj i;obtain⟨u,hu⟩:∃u:Nat,dx ρj i=u:=⟨(dx ρj i).toNat,by omega⟩;rw[hu,Vw]at eD;have hui:u<=i:=by omega
  obtain⟨n,JZ⟩:=cC (xs:=l) (i:=u) (by omega);have EG:l.getD u 0=n:=by rw[SE,JZ];rfl
  rw[EG]at eD;have qI:=ay.ge (by omega) u hui;rw[EG]at qI;have asJ:0<=n/\n<=1000:=by
   have:=acT (v:=0) qI (by omega) qB xd (by omega);omega
  have w_:SF.wrap ((cn:Int)-j-1)=(cn:Int)-((j+1:Nat):Int):=by rw[bC _ (by omega)];omega
  have Qk:(0<=(u:Int)/\(u:Int)<(i:Int)+1)=True:=by simp;omega
  refine aN ?_;refine aj ?_;simp only[seval,y1];refine aM ((rT (n:=i) (mh _) kJ (by omega) (by omega) ?_));rw[hu];(try simp only[seval]);have N9:=λ(L:List aa) k kp=>Iw (lv:=lv) (k:=k) (kp:=kp) (n:=n) (m:=1) (lo:=0) (hi:=99) (mh L) kJ.tick (by omega) (by omega) (by decide);obtain⟨y,hy⟩:∃y,y=mb (tick ρj) n 1 0 99:=⟨_,rfl⟩;rw[<- hy]at eD N9;obtain⟨FP,qv⟩:∃FP,FP=ss.flatMap Seen.l:=⟨_,rfl⟩;have u_:FP.length=j* 3:=by rw[qv,Pn,qQ]
  have Bh:FP++[iv u,iv y.min,iv y.max]=(hz (j+1)).1.flatMap Seen.l:=by rw[eD,IN,qv];rfl
  rw[<- qv];refine qi [9,12,14] (SV 15) (λD=>bif isDone 14 D then Gf (tick (tick (tick ρj)))++YY [iv first,iv i,iv an,.sl (j+1) (FP++[iv u,iv y.min,iv y.max]) (.opn (N+5)),.sl np (cZ.flatMap aG.l) (.opn (N+3)),.sl ns (eP.flatMap aG.l) (.opn (N+4))] np ns (j+1) np ns else bif isDone 12 D then Gf (tick (tick (tick ρj)))++YY [iv first,iv i,iv an,.sl j FP (.opn (N+5)),.sl np (cZ.flatMap aG.l) (.opn (N+3)),.sl ns (eP.flatMap aG.l) (.opn (N+4))] np ns (j+1) np ns else bif isDone 9 D then Gf (tick (tick (tick ρj)))++YY [iv first,iv i,iv an,.sl j FP (.opn (N+5)),.sl np (cZ.flatMap aG.l) (.opn (N+3)),.sl ns (eP.flatMap aG.l) (.opn (N+4))] np ns j np ns else Gf (tick ρj)++YY [iv first,iv i,iv an,.sl j FP (.opn (N+5)),.sl np (cZ.flatMap aG.l) (.opn (N+3)),.sl ns (eP.flatMap aG.l) (.opn (N+4))] np ns j np ns) ?_;simp only[seval,zS1,CG,y1,y5,uz,C9,fZ JZ,Qk,u_,iN];have Cg:y.l=[iv y.min,iv y.max]:=rfl;refine u5 y.av _ (dC (N9 _ _ _ ⟨rfl,rfl⟩)) ?_;(try simp only[seval,zS1,CG,y1,y5,uz,C9,fZ JZ,Qk,u_,iN,i_.av,Cg]);refine⟨by omega,?_⟩;refine aj ?_;simp only[seval,w_];refine hR _ ⟨by omega,trivial,?_⟩;rw[<- Bh,eD];exact dn
 ·have xa:j=cn:=by omega
  subst xa;clear hR;refine b9 ?_;have dG:=nT j;have hsm:∀s∈(hz j).1,0<=s.hour/\s.hour<=i/\∃τ,s.next=mb τ (l.getD s.hour.toNat 0) 1 0 99:=by
   rw[yX];exact abC (λτ=>by have:=mz τ i;omega) j
  refine⟨((hz j).1,(hz j).2),⟨by dsimp only;omega,hsm,kJ.mono (by omega)⟩,fx (by simp only[seval];simp[bN,Wk.refl]) ?_⟩;dsimp only;rw[dG]
theorem arm{a a' b b' c c' d d':AV}(h1:Wk a a')(h2:Wk b b')(h3:Wk c c')(h4:Wk d d'):Wk (.aJ [a,b,c,d]) (.aJ [a',b',c',d']):=λE v h=>by
 cases h with
 |aJ hs h=>
  refine .aJ hs λi x e=> ?_
  match i with
  |0=>cases e;exact h1 _ _ (h 0 a rfl)
  |1=>cases e;exact h2 _ _ (h 1 b rfl)
  |2=>cases e;exact h3 _ _ (h 2 c rfl)
  |3=>cases e;exact h4 _ _ (h 3 d rfl)
theorem ag8{i np ns:Nat}{first an:Int}{l aA bK:List Int}{cZ eP:List aG}{ρ3:bm}{zc:aa}{YY:List AV->Nat->Nat->Nat->Nat->Nat->List aa}(hT:dQ Gf t N)(hH:∀τ,bM (Gf τ))(hY:AB Gf N zc YY)(Ci:zc=.cells [.val (.int .i64 0),.val (.int .i64 0),.val (.int .i64 0),.sl 0 [] .exact,.sl 0 [] .exact,.sl 0 [] .exact] 26)(hb:b<2^10)(hi:1<=i/\i<=3)(qB:0<=first/\first<=90)(xd:1<=an/\an<=3)(ay:mB first an l i)(Cj:ρ3.Ok (b+90))(EW:cZ.length=np)(jB:aA.length=np)(nb:eP.length=ns)(aF:bK.length=ns)
  (hk:∀(ss:List Seen)(τ':bm),ss.length<=2->(∀s∈ss,0<=s.hour/\s.hour<=i/\∃τ,s.next=mb τ (l.getD s.hour.toNat 0) 1 0 99)->τ'.Ok (b+200)->k (.aJ [ak.av ⟨first,i,an,ss,cZ,eP⟩,bp l,bp aA,bp bK]) (Gf τ')):
  aU lv SC none 240 (tn 10 uU) ⟨[(16,.sl ns (bK.map iv) (.opn (N+7))),(15,.sl np (aA.map iv) (.opn (N+6))),(11,.sl (i+1) (l.map iv) (.opn (N+2))),(10,.op (N+1) 0),(6,.op N 0),(0,.op t 0),(2,bv true)],Gf ρ3++YY [iv first,iv i,iv an,.sl 0 [] (.opn (N+5)),.sl np (cZ.flatMap aG.l) (.opn (N+3)),.sl ns (eP.flatMap aG.l) (.opn (N+4))] np ns 0 np ns⟩ (sT SC [.cell 6 26,.tmp 7,.tmp 8,.tmp 9] N k kp):=by
 have hY':=hY;obtain⟨yI,y0,y1,y3,y4,y5,y6,y7,uz,C7,C8,C9,G7,dE,G8⟩:=hY;have mh:∀L:List aa,dQ (λτ=>Gf τ++L) t (N+L.length):=λL=>hT.more L;have KI:∀τ (L:List aa)(y:aa),(Gf τ++L).set N y=Gf τ++L.set 0 y:=λτ L y=>by have:=dX (Gf τ) L 0 y;rwa [hT.len]at this
 have Fo:∀τ (L:List aa),(Gf τ++L)[N]?=L[0]?:=λτ L=>by have:=a_ (Gf τ) L 0;rwa [hT.len]at this
 unfold uU XC;dsimp only[S8,tn,cs,cf];refine ai ?_;refine aM ((rT (n:=2) (mh _) Cj (by omega) (by omega) ?_));have gC:=mz ρ3 2;generalize dx ρ3 2=u2 at gC⊢;obtain⟨cn,rfl⟩:∃cn:Nat,u2=cn:=⟨u2.toNat,by omega⟩;have FB:=Cj.tick;generalize tick ρ3=ρ4 at FB⊢;(try simp only[seval]);refine HF (α:=List Seen×bm) (λy=>⟨[(16,.sl ns (bK.map iv) (.opn (N+7))),(15,.sl np (aA.map iv) (.opn (N+6))),(11,.sl (i+1) (l.map iv) (.opn (N+2))),(10,.op (N+1) 0),(6,.op N 0),(0,.op t 0),(2,bv true)],Gf y.2++YY [iv first,iv i,iv an,.sl y.1.length (y.1.flatMap Seen.l) (.opn (N+5)),.sl np (cZ.flatMap aG.l) (.opn (N+3)),.sl ns (eP.flatMap aG.l) (.opn (N+4))] np ns y.1.length np ns⟩) (λy=>y.1.length<=2/\(∀s∈y.1,0<=s.hour/\s.hour<=i/\∃τ,s.next=mb τ (l.getD s.hour.toNat 0) 1 0 99)/\y.2.Ok (b+97)) ?_ (λy hy=> ?_)
 ·exact AR (s':=⟨[(20,iv cn),(16,.sl ns (bK.map iv) (.opn (N+7))),(15,.sl np (aA.map iv) (.opn (N+6))),(11,.sl (i+1) (l.map iv) (.opn (N+2))),(10,.op (N+1) 0),(6,.op N 0),(0,.op t 0),(2,bv true)],Gf ρ4++YY [iv first,iv i,iv an,.sl 0 [] (.opn (N+5)),.sl np (cZ.flatMap aG.l) (.opn (N+3)),.sl ns (eP.flatMap aG.l) (.opn (N+4))] np ns 0 np ns⟩) (fx (by simp only[seval];simp[bN,Wk.refl]) rfl) (ahb hT hY' hb hi qB xd ay (by omega) (FB.mono (by omega)))
 obtain⟨ss,ρ5⟩:=y;obtain⟨dF,fI,oK⟩:=hy;dsimp only at dF fI oK⊢;have y00:∀τ r a b c d e,(Gf τ++YY r a b c d e)[N]?=some (.cells [.val (.int .i64 0),.val (.int .i64 0),.val (.int .i64 0),.sl 0 [] .exact,.sl 0 [] .exact,.sl 0 [] .exact] 26):=λτ r a b c d e=>by rw[y0,Ci]
 refine ai ?_;refine aE ?_;refine aj ?_;simp only[seval,y1,y00];rw[KI];obtain⟨LL,P0⟩:=dE [iv first,iv i,iv an,.sl ss.length (ss.flatMap Seen.l) (.opn (N+5)),.sl np (cZ.flatMap aG.l) (.opn (N+3)),.sl ns (eP.flatMap aG.l) (.opn (N+4))] np ns ss.length np ns (.cells [iv first,iv i,iv an,.sl ss.length (ss.flatMap Seen.l) (.opn (N+5)),.sl np (cZ.flatMap aG.l) (.opn (N+3)),.sl ns (eP.flatMap aG.l) (.opn (N+4))] 26);simp only[iv]at P0;rw[P0];refine oq ?_;simp only[seval,Fo];have dw:=hk ss ρ5 dF fI (oK.mono (by omega));refine jy (b:=.aJ [ak.av ⟨first,i,an,ss,cZ,eP⟩,bp l,bp aA,bp bK]) (H':=Gf ρ5) (arm (M0 (.cons (Wk.refl _) (.cons (Wk.refl _) (.cons (Wk.refl _) (.cons (iY _ _ _) (.cons ?_ (.cons ?_ .nil))))))) ?_ ?_ ?_) rfl (by simp[hT.len]) (hH _) (by simp only[jm,SL,S0,or_false,forall_eq_or_imp,forall_eq,FU,zv,and_self]) dw
 ·rw[<- EW];exact iY _ _ _
 ·rw[<- nb];exact iY _ _ _
 ·rw[<- ay.len];exact iY _ _ _
 ·rw[<- jB];exact iY _ _ _
 ·rw[<- aF];exact iY _ _ _
end
section
variable {lv:Bool}{k kp:AV->List aa->Prop}{Gf:bm->List aa}{t N:Nat}{τ:bm}{b:Int}
theorem aha{pm:Nat}(hT:dQ Gf t N)(hτ:τ.Ok b)(hb:b<2^10)(su:pm<=4)(hk:∀x bB aA bK τ',Made pm x bB aA bK->τ'.Ok (b+200)->k (.aJ [x.av,bp bB,bp aA,bp bK]) (Gf τ')):ba lv SC 15 (Gf τ) [.op t 0,iv pm,bv true] k kp:=by
 refine bE (rs:=[.cell 6 26,.tmp 7,.tmp 8,.tmp 9]) (nt:=240) XC λhH hA=> ?_;simp only[bk,SW];have tH:∀o:aa,dQ (λτ=>Gf τ++[o]) t (N+1):=λo=>hT.more [o];have mo:∀τ (L:List aa)(j:Nat),(Gf τ++L)[N+j]?=L[j]?:=λτ L j=>by rw[<- hT.len τ,a_]
 have dL:∀τ (L:List aa)(j:Nat)(y:aa),(Gf τ++L).set (N+j) y=Gf τ++L.set j y:=λτ L j y=>by rw[<- hT.len τ,dX]
 have Fo:∀τ (L:List aa),(Gf τ++L)[N]?=L[0]?:=λτ L=>mo τ L 0;have KI:∀τ (L:List aa)(y:aa),(Gf τ++L).set N y=Gf τ++L.set 0 y:=λτ L y=>dL τ L 0 y;refine ai ?_;refine ai ?_;refine aM ((rT (tH _) hτ (by omega) (by omega) ?_));have r1:=mz τ 90;generalize dx τ 90=u1 at r1⊢;(try simp only[seval,zE4,zG]);refine aM ((Iv (ns:=[0,1,10,u1]) (tH _) hτ.tick (by omega) (by simp) (by simp) ?_));have r2:=Il (tick τ) (ns:=[0,1,10,u1]) (by simp);simp only[SL,S0,or_false]at r2;generalize u6 (tick τ) [0,1,10,u1]=first at r2⊢
 (try simp only[seval]);refine aM ((ahk (lo:=1) (hi:=3) (tH _) hτ.tick.tick (by omega) (by decide) (by decide) ?_));have r3:=arl (tick (tick τ)) (show (1:Int)<=3 by decide);generalize C5 (tick (tick τ)) 1 3=hours at r3⊢;(try simp only[seval,zE4,zG]);refine aM ((Iv (ns:=[1,2,2,3]) (tH _) hτ.tick.tick.tick (by omega) (by simp) (by simp) ?_));have r4:=Il (tick (tick (tick τ))) (ns:=[1,2,2,3]) (by simp);simp only[SL,S0,or_false]at r4;generalize u6 (tick (tick (tick τ))) [1,2,2,3]=an at r4⊢;have qB:0<=first/\first<=90:=by omega
 have xd:1<=an/\an<=3:=by omega
 clear r1 r2 r4;have hσ:(tick (tick (tick (tick τ)))).Ok (b+4):=hτ.tick.tick.tick.tick.mono (by omega);generalize tick (tick (tick (tick τ)))=σ at hσ⊢;(try simp only[seval,hT.len,mo,dL,Fo,KI]);refine aj ?_;simp only[seval,mo,z1,zF]
 (repeat apply gX);refine uP (t:=11) (sz:=1) (el:=3) (by simp only[seval]<;>rfl) ?_
 simp only[seval,hT.len]
 (repeat apply gX);refine HH (id:=N+1) (j:=4) (sz:=4) (fO:=48) (by simp only[seval,mo]<;>rfl) rfl ?_
 simp only[seval,dL,hT.len]
 (repeat apply gX);refine HH (id:=N+1) (j:=5) (sz:=4) (fO:=48) (by simp only[seval,mo]<;>rfl) rfl ?_
 simp only[seval,dL,hT.len]
 (repeat apply gX);refine HH (id:=N+1) (j:=3) (sz:=3) (fO:=61) (by simp only[seval,mo]<;>rfl) rfl ?_
 simp only[seval,dL,hT.len];refine NP [11,10,6,0,1,2] ?_;show aU _ _ _ _ _ ⟨[(11,.sl 1 [iv first] (.opn (N+2))),(10,.op (N+1) 0),(6,.op N 0),(0,.op t 0),(1,iv pm),(2,bv true)],_⟩ _;obtain⟨zc,Ci⟩:∃zc:aa,zc=.cells [iv 0,iv 0,iv 0,.sl 0 [] .exact,.sl 0 [] .exact,.sl 0 [] .exact] 26:=⟨_,rfl⟩;simp only[iv]at Ci;rw[<- Ci];obtain⟨hn,hhn⟩:∃hn:Nat,hours=hn:=⟨hours.toNat,by omega⟩;subst hhn;refine ai ?_;refine cF ?_;refine gA hn (λi:Nat=>[(11,.sl (i+1) ((kE σ first an i).1.map iv) (.opn (N+2))),(12,iv i)]) (λi=>Gf (kE σ first an i).2++[zc,.cells [iv first,iv hn,iv an,.sl 0 [] (.opn (N+5)),.sl 0 [] (.opn (N+3)),.sl 0 [] (.opn (N+4))] 26,.tail (i+1) 1 3,.tail 0 4 48,.tail 0 4 48,.tail 0 3 61]) (λi=>True) (λ_ _=>rfl) (by simp only[kE];simp only[seval];simp[bN,Wk.refl]) rfl (λ_ _ _=>by simp[hT.len]) trivial (λbT cW i b_ _ R hR=> ?_)
 ·clear bT cW;have ay:=QO σ first (an:=an) (by omega) i
  have pE:=QP hσ first an i
  have eD:kE σ first an (i+1)=((kE σ first an i).1++[(kE σ first an i).1.getD i 0+vX (kE σ first an i).2 an],tick (tick (kE σ first an i).2)):=rfl
  have tN:=ay.ge (by omega) i (SQ _);generalize kE σ first an i=m at ay pE eD tN hR⊢
  obtain⟨l,ρ⟩:=m;dsimp only at ay pE eD tN⊢;have iN:=ay.len;refine aj ?_;simp only[seval,mo];refine aE ?_;refine⟨λh=> ?_,λh=> ?_⟩
  ·as_aux_lemma=>
   have bt:i<hn:=(by omega);obtain⟨w,hw⟩:=cC (xs:=l) (i:=i) (by omega);have EH:l.getD i 0=w:=(by rw[SE,hw];rfl);rw[EH]at eD tN;have aP:=ab6 ρ (an:=an) (by omega);have Rz:vX ρ an=u6 (tick ρ) [0,an,dx ρ an]:=rfl;obtain⟨v,hv⟩:∃v,v=vX ρ an:=⟨_,rfl⟩;rw[<- hv]at eD aP Rz;have Cd:SF.wrap (w+v)=w+v:=KW (acT tN aP qB xd (by omega));have fD:SF.wrap ((i:Int)+1)=((i+1:Nat):Int):=(by rw[bC _ (by omega)];rfl);have ik:(0<=(i:Int)/\(i:Int)<(i:Int)+1)=True:=(by simp;omega);have mh:∀L:List aa,dQ (λτ=>Gf τ++L) t (N+L.length):=λL=>hT.more L;refine aN ?_;refine cF ?_;obtain⟨X,hX⟩:∃X:Nat->List aa,∀a,X a=[zc,.cells [iv first,iv hn,iv an,.sl 0 [] (.opn (N+5)),.sl 0 [] (.opn (N+3)),.sl 0 [] (.opn (N+4))] 26,.tail a 1 3,.tail 0 4 48,.tail 0 4 48,.tail 0 3 61]:=⟨_,λ_=>rfl⟩;have P9:=(hX (i+1)).symm;simp only[iv]at P9;have x1:∀τ a,(Gf τ++X a)[N+1]?=some (.cells [iv first,iv hn,iv an,.sl 0 [] (.opn (N+5)),.sl 0 [] (.opn (N+3)),.sl 0 [] (.opn (N+4))] 26):=λτ a=>(by rw[mo,hX];rfl);have x2:∀τ a,(Gf τ++X a)[N+2]?=some (.tail a 1 3):=λτ a=>(by rw[mo,hX];rfl);have M_:∀τ a a',(Gf τ++X a).set (N+2) (.tail a' 1 3)=Gf τ++X a':=λτ a a'=>(by rw[dL,hX,hX];rfl);rw[P9];refine qi [11,13,16] (SV 18) (λD=>bif isDone 16 D then Gf (tick (tick ρ))++X (i+1+1)else bif isDone 13 D then Gf (tick (tick ρ))++X (i+1)else bif isDone 11 D then Gf (tick ρ)++X (i+1)else Gf ρ++X (i+1)) ?_;simp only[seval,Ng,CG,z1,zF,x1,x2,M_,fZ hw,ik,Cd,iN];refine u5 _ _ (dC (rT (mh (X (i+1))) pE (by omega) (by omega) ⟨rfl,rfl⟩)) ?_;(try simp only[seval,Ng,CG,z1,zF,x1,x2,M_,fZ hw,ik,Cd,iN]);refine u5 (iv v) _ (dC (Iv (ns:=[0,an,dx ρ an]) (mh (X (i+1))) pE.tick (by omega) (by simp) (by simp) ⟨by rw[Rz],rfl⟩)) ?_;(try simp only[seval,Ng,CG,z1,zF,x1,x2,M_,fZ hw,ik,Cd,iN]);refine⟨by omega,?_⟩;refine aj ?_;simp only[seval,fD];refine hR _ ⟨bt,trivial,?_⟩;rw[eD,TF,hX];exact dn
  ·as_aux_lemma=>
   have dl:i=hn:=(by omega);subst dl;clear hR;refine b9 ?_;obtain⟨w,hw⟩:=cC (xs:=l) (i:=i) (by omega);have EH:l.getD i 0=w:=(by rw[SE,hw];rfl);have Fu:first<=w/\w<=first+9:=by
    rw[EH]at tN;have:an* (i:Int)<=3* 3:=Yh (by omega) (by omega) (by omega) (by omega);generalize an* (i:Int)=q at tN this;omega
   obtain⟨mn,pA⟩:∃mn:Nat,w-first=mn:=⟨(w-first).toNat,by omega⟩
   have Ra:mn<=9:=(by omega);have hwm:SF.wrap (w-first)=mn:=(by rw[KW (by omega),pA]);have ik:(0<=(i:Int)/\(i:Int)<(i:Int)+1)=True:=(by simp;omega);refine eo 8 ?_;simp only[seval,mo,fZ hw,ik,hwm];have mh:∀L:List aa,dQ (λτ=>Gf τ++L) t (N+L.length):=λL=>hT.more L;refine ai ?_;refine aM ((O7 (n:=mn) (mh _) pE (by omega) (by omega) ?_));have pB:=aau ρ mn;have pE:=F0 pE mn mn;generalize gR ρ mn mn=m2 at pB pE⊢;obtain⟨order,ρ⟩:=m2;dsimp only at pB pE⊢;(try simp only[seval]);refine ai ?_
   (repeat apply gX);refine uP (t:=15) (sz:=1) (el:=3) (by simp only[seval]<;>rfl) ?_
   simp only[seval,hT.len]
   (repeat apply gX);refine uP (t:=16) (sz:=1) (el:=3) (by simp only[seval]<;>rfl) ?_
   simp only[seval,hT.len];refine NP [16,15,14,13,11,10,6,0,1,2] ?_;show aU _ _ _ _ _ ⟨[(16,.sl 0 [] (.opn (N+7))),(15,.sl 0 [] (.opn (N+6))),(14,bp order),(13,iv mn),(11,.sl (i+1) (l.map iv) (.opn (N+2))),(10,.op (N+1) 0),(6,.op N 0),(0,.op t 0),(1,iv pm),(2,bv true)],_⟩ _;obtain⟨YY,jz⟩:∃YY:List AV->Nat->Nat->Nat->Nat->Nat->List aa,∀r a b c d e,YY r a b c d e=[zc,.cells r 26,.tail (i+1) 1 3,.tail a 4 48,.tail b 4 48,.tail c 3 61,.tail d 1 3,.tail e 1 3]:=⟨_,λ_ _ _ _ _ _=>rfl⟩;have hY:AB Gf N zc YY:=by
    refine⟨λr a b c d e=>by rw[jz];rfl,λτ r a b c d e=>by rw[Fo,jz];rfl,λτ r a b c d e=>by rw[mo,jz];rfl,λτ r a b c d e=>by rw[mo,jz];rfl,λτ r a b c d e=>by rw[mo,jz];rfl,λτ r a b c d e=>by rw[mo,jz];rfl,λτ r a b c d e=>by rw[mo,jz];rfl,λτ r a b c d e=>by rw[mo,jz];rfl,λτ r r' a b c d e=>by rw[dL,jz,jz];rfl,λτ r a a' b c d e=>by rw[dL,jz,jz];rfl,λτ r a b b' c d e=>by rw[dL,jz,jz];rfl,λτ r a b c c' d e=>by rw[dL,jz,jz];rfl,λτ r a b c d d' e=>by rw[dL,jz,jz];rfl,λr a b c d e y=>⟨_,by rw[jz];rfl⟩,λτ r a b c d e e'=>by rw[dL,jz,jz];rfl⟩
   have P_:[zc,.cells [iv first,iv i,iv an,.sl 0 [] (.opn (N+5)),.sl 0 [] (.opn (N+3)),.sl 0 [] (.opn (N+4))] 26,.tail (i+1) 1 3,.tail 0 4 48,.tail 0 4 48,.tail 0 3 61,.tail 0 1 3,.tail 0 1 3]=YY [iv first,iv i,iv an,.sl 0 [] (.opn (N+5)),.sl 0 [] (.opn (N+3)),.sl 0 [] (.opn (N+4))] 0 0 0 0 0:=(by rw[jz]);simp only[iv]at P_;rw[P_];refine ai ?_;refine HF (α:=Nat×bm) (λy=>⟨[(16,.sl 0 [] (.opn (N+7))),(15,.sl y.1 ((j9 first order y.1).map iv) (.opn (N+6))),(13,iv mn),(11,.sl (i+1) (l.map iv) (.opn (N+2))),(10,.op (N+1) 0),(6,.op N 0),(0,.op t 0),(2,bv true)],Gf y.2++YY [iv first,iv i,iv an,.sl 0 [] (.opn (N+5)),.sl y.1 ((jX l i (λj=>first+order.getD j 0) ρ y.1).1.flatMap aG.l) (.opn (N+3)),.sl 0 [] (.opn (N+4))] y.1 0 0 y.1 0⟩) (λy=>y.1<=pm/\y.1<=mn/\y.2.Ok (b+60)) ?_ (λy hy=> ?_)
   ·exact ahc hT hY hb su (by omega) qB iN Ra pB (pE.mono (by omega))
   ·as_aux_lemma=>
    obtain⟨np,ρ1⟩:=y;obtain⟨aj7,aj8,KV⟩:=hy;dsimp only at aj7 aj8 KV⊢;have EW:(jX l i (λj=>first+order.getD j 0) ρ np).1.length=np:=yL _ _ _ _ _;have Rs:∀(p:Nat) z,(jX l i (λj=>first+order.getD j 0) ρ np).1[p]?=some z->∃τ,z=kW τ l (first+order.getD p 0) i:=λp z hz=>Jf (P:=λn z=>∃τ,z=kW τ l n i) (λτ n=>⟨τ,rfl⟩) np p z hz;generalize(jX l i (λj=>first+order.getD j 0) ρ np).1=cZ at EW Rs⊢;have jB:=aaE first order np
    have tT:∀n∈j9 first order np,first<=n/\n<w:=λn hn=>by
     unfold j9 at hn;obtain⟨p,hp,rfl⟩:=Tm.1 hn;have hp:=TE.1 hp;obtain⟨o,ho⟩:=cC (xs:=order) (i:=p) (by rw[pB.len];omega);have:=pB.Gr o (uo ho);rw[SE,ho];simp only[S8];omega
    have BX:(j9 first order np).Nodup:=by
     have e:j9 first order np=(order.take np).map λo=>first+o:=by
      unfold j9;refine ams (by rw[Tn,TR,pB.len];omega) λp hp=> ?_;rw[To,Uc,if_pos hp,SE];obtain⟨o,ho⟩:=cC (xs:=order) (i:=p) (by rw[pB.len];omega);rw[ho];rfl
     rw[e];have h1:(order.take np).Nodup:=Yq (Zj _ _) pB.nodup;rw[TY,WI];exact(TY.1 h1).imp λh e=>h (by omega)
    have Rd:∀p,p<np->(j9 first order np).getD p 0=first+order.getD p 0:=λp hp=>by
     unfold j9;rw[SE,To,Xz hp];rfl
    generalize j9 first order np=aA at jB tT BX Rd⊢
    refine ai ?_;refine aM ((O7 (n:=np) (mh _) KV (by omega) (by omega) ?_));have sv:=aau ρ1 np;have xo:=F0 KV np np;generalize gR ρ1 np np=m3 at sv xo⊢;obtain⟨gH,ρ2⟩:=m3;dsimp only at sv xo⊢;have xo:ρ2.Ok (b+64):=xo.mono (by omega);(try simp only[seval]);have hwe:bp gH=.sl np (gH.map iv) .shut:=(by rw[bp,sv.len]);rw[hwe];refine ai ?_;refine HF (α:=Nat×bm) (λy=>⟨[(16,.sl y.1 ((gH.take y.1).map iv) (.opn (N+7))),(15,.sl np (aA.map iv) (.opn (N+6))),(11,.sl (i+1) (l.map iv) (.opn (N+2))),(10,.op (N+1) 0),(6,.op N 0),(0,.op t 0),(2,bv true)],Gf y.2++YY [iv first,iv i,iv an,.sl 0 [] (.opn (N+5)),.sl np (cZ.flatMap aG.l) (.opn (N+3)),.sl y.1 ((jX l i (λj=>aA.getD (gH.getD j 0).toNat 0) ρ2 y.1).1.flatMap aG.l) (.opn (N+4))] np y.1 0 np y.1⟩) (λy=>y.1<=np/\y.1<=3/\y.2.Ok (b+90)) ?_ (λy hy=> ?_)
    ·exact AR (s':=⟨[(19,iv 0),(18,.sl np (gH.map iv) .shut),(16,.sl 0 [] (.opn (N+7))),(15,.sl np (aA.map iv) (.opn (N+6))),(11,.sl (i+1) (l.map iv) (.opn (N+2))),(10,.op (N+1) 0),(6,.op N 0),(0,.op t 0),(2,bv true)],Gf ρ2++YY [iv first,iv i,iv an,.sl 0 [] (.opn (N+5)),.sl np (cZ.flatMap aG.l) (.opn (N+3)),.sl 0 [] (.opn (N+4))] np 0 0 np 0⟩) (fx (by simp only[seval];simp[bN,Wk.refl]) rfl) (ag9 hT hY hb (by omega) qB Fu iN (by omega) jB tT sv xo)
    ·as_aux_lemma=>
     obtain⟨ns,ρ3⟩:=y;obtain⟨aj9,aka,Cj⟩:=hy;dsimp only at aj9 aka Cj⊢;have nb:(jX l i (λj=>aA.getD (gH.getD j 0).toNat 0) ρ2 ns).1.length=ns:=yL _ _ _ _ _;have RD:∀(s:Nat) z,(jX l i (λj=>aA.getD (gH.getD j 0).toNat 0) ρ2 ns).1[s]?=some z->∃τ,z=kW τ l (aA.getD (gH.getD s 0).toNat 0) i:=λs z hz=>Jf (P:=λn z=>∃τ,z=kW τ l n i) (λτ n=>⟨τ,rfl⟩) ns s z hz;generalize(jX l i (λj=>aA.getD (gH.getD j 0).toNat 0) ρ2 ns).1=eP at nb RD⊢;have qS:=sv.len;have aF:(gH.take ns).length=ns:=(by rw[TR];omega);have iP:∀v∈gH.take ns,0<=v/\v<(np:Int):=λv hv=>sv.Gr v (Ws hv);have Ro:(gH.take ns).Nodup:=Yq (Zj _ _) sv.nodup;have Rn:∀s,s<ns->(gH.take ns).getD s 0=gH.getD s 0:=λs hs=>by
      rw[SE,SE,Uc,if_pos hs]
     generalize gH.take ns=bK at aF iP Ro Rn⊢;refine ag8 hT (λτ'=>hT.ay hH τ') hY Ci hb (by omega) qB xd ay Cj EW jB nb aF λss τ' h1 h2 h3=>hk _ l aA bK τ' ⟨qB,by dsimp only;omega,xd,by simpa using ay,by dsimp only;omega,by dsimp only;omega,λn hn=> ?_,BX,λp y hy=> ?_,by dsimp only;omega,by dsimp only;omega,λv hv=>by rw[jB];exact iP v hv,Ro,λs y hy=> ?_,h1,h2⟩ h3
     ·have:=tT n hn;dsimp only;rw[Vw,EH];exact this
     ·dsimp only at hy;have hp:=(SN.1 hy).1;obtain⟨τ,e⟩:=Rs p y hy;exact⟨τ,by rw[Rd p (by omega)];exact e⟩
     ·dsimp only at hy;have hp:=(SN.1 hy).1;obtain⟨τ,e⟩:=RD s y hy;exact⟨τ,by rw[Rn s (by omega)];exact e⟩
end
end Go.Gg
namespace Go.Gg.Tk
theorem EK{x:ak}:∀(d:Nat)(pre h:List Int),h∈jZ x d pre->h.take pre.length=pre
 |0,pre,h,hm=>by
  unfold jZ at hm;split at hm
  ·rw[S5]at hm;subst hm;exact TH
  ·cases hm
 |d+1,pre,h,hm=>by
  unfold jZ at hm;split at hm
  ·obtain⟨n,_,hm⟩:=S7.1 hm;have:=EK d _ h hm;rw[S9,T7]at this;have h2:=congrArg (Un pre.length) this;rw[U0,TA (SQ _),TH,Ww (by omega)]at h2;exact h2
  ·cases hm
theorem QK{x:ak}:∀(d:Nat)(pre:List Int),(jZ x d pre).Nodup
 |0,pre=>by
  unfold jZ;split
  ·simp
  ·exact WM
 |d+1,pre=>by
  unfold jZ;split
  ·unfold List.Nodup;rw[List.pairwise_flatMap];refine⟨λn _=>QK d _,?_⟩;refine X_ ?_ (WW (n:=x.an.toNat+1));intro a b fC h ha g hb he;subst he;have h1:=EK d _ h ha;have h2:=EK d _ h hb;rw[S9,T7]at h1 h2;have h3:=h1.symm.trans h2;have:=List.append_cancel_left h3;simp at this;exact fC (by omega)
  ·exact WM
theorem ajQ(x:ak):(aK x).Nodup:=QK _ _
end Go.Gg.Tk
namespace Go.Gg.Tk
theorem FL{h pre:List Int}(hp:pre≠[])(ht:h.take pre.length=pre):pre.getLastD 0=h.getD (pre.length-1) 0:=by
 have hl:0<pre.length:=VL.2 hp;have e:pre[pre.length-1]?=h[pre.length-1]?:=by
  have:(h.take pre.length)[pre.length-1]?=pre[pre.length-1]?:=by rw[ht]
  rw[<- this,Uc,if_pos (by omega)]
 rw[SE,<- e,Vh,Yf]
def Good (x:ak)(k:Nat)(h:List Int):Prop:=∀j,k<=j->j<h.length->rh x j (h.getD j 0)=true/\(j+1<h.length->∃n:Nat,n<x.an.toNat+1/\h.getD (j+1) 0=h.getD j 0+n)
theorem GH{h pre:List Int}{v:Int}:h.take (pre.length+1)=pre++[v]<->h.take pre.length=pre/\pre.length<h.length/\h.getD pre.length 0=v:=by
 constructor
 ·intro e;have hl:pre.length+1<=h.length:=by
   have:=congrArg Z5 e;rw[TR,S9,T7]at this;omega
  have h1:=congrArg (Un pre.length) e;rw[U0,TA (SQ _),TH,Ww (by omega)]at h1;refine⟨h1,by omega,?_⟩;have h2:(h.take (pre.length+1))[pre.length]?=(pre++[v])[pre.length]?:=by rw[e]
  rw[Uc,if_pos (by omega),Tj (SQ _),Vd]at h2;rw[SE,h2];rfl
 ·rintro⟨h1,h2,h3⟩
  rw[VG,h1];congr 1;rw[SE,SP h2]at h3;rw[SP h2,<- h3];rfl
theorem JR{x:ak}:∀(d:Nat)(pre h:List Int),pre≠[]->(h∈jZ x d pre<->h.length=pre.length+d/\h.take pre.length=pre/\Good x (pre.length-1) h)
 |0,pre,h,hp=>by
  have hl:0<pre.length:=VL.2 hp;unfold jZ;constructor
  ·intro hm;split at hm
   ·rename_i hs;rw[S5]at hm;subst hm;refine⟨rfl,TH,λj h1 h2=> ?_⟩;have:j=h.length-1:=(by omega);subst this;rw[FL hp TH]at hs;exact⟨hs,λh=>by omega⟩
   ·cases hm
  ·rintro⟨h1,h2,h3⟩
   have e:h=pre:=(by rw[<- h2,SX (by omega)]);subst e;have:=(h3 (h.length-1) (SQ _) (by omega)).1;rw[<- FL hp TH]at this;rw[if_pos this];simp
 |d+1,pre,h,hp=>by
  have hl:0<pre.length:=VL.2 hp;unfold jZ;constructor
  ·intro hm;split at hm
   ·rename_i hs;obtain⟨n,hn,hm⟩:=S7.1 hm;rw[JR d _ h (by simp)]at hm;obtain⟨h1,h2,h3⟩:=hm;rw[S9,T7]at h1 h2 h3;obtain⟨h4,h5,h6⟩:=GH.1 h2;rw[FL hp h4]at hs h6;refine⟨by omega,h4,λj w_ EM=> ?_⟩;by_cases hj:j=pre.length-1
    ·subst hj;refine⟨hs,λ_=>⟨n,TE.1 hn,?_⟩⟩;rw[show pre.length-1+1=pre.length by omega];exact h6
    ·exact h3 j (by omega) EM
   ·cases hm
  ·rintro⟨h1,h2,h3⟩
   obtain⟨hs,aP⟩:=h3 (pre.length-1) (SQ _) (by omega);obtain⟨n,hn,he⟩:=aP (by omega);rw[show pre.length-1+1=pre.length by omega]at he;rw[FL hp h2,if_pos hs];refine S7.2 ⟨n,TE.2 hn,?_⟩;rw[JR d _ h (by simp),S9,T7];exact⟨by omega,GH.2 ⟨h2,by omega,he⟩,λj w_ EM=>h3 j (by omega) EM⟩
theorem amC{h:List Int}(hm:∀j,j+1<h.length->h.getD j 0<=h.getD (j+1) 0):sX h:=by
 induction h with
 |nil=>trivial
 |cons a l ih=>
  cases l with
  |nil=>trivial
  |cons b l=>
   refine⟨?_,ih λj hj=> ?_⟩
   ·have:=hm 0 (by simp);simpa using this
   ·have:=hm (j+1) (by simp at hj⊢;omega);simpa using this
theorem acE{n:Int}:∀(h:List Int)(i:Nat),sX h->(0<=fg i h n<->h.headD 0<=n/\n<h.getLastD 0)
 |[],i,_=>by simp[fg]<;>omega
 |[a],i,_=>by simp[fg]<;>omega
 |a::b::l,i,hm=>by
  obtain⟨h1,h2⟩:=hm;have ih:=acE (n:=n) (b::l) (i+1) h2;have tQ:(a::b::l).getLastD 0=(b::l).getLastD 0:=by simp[Zs]
  rw[tQ];unfold fg;split
  ·rename_i h;have cJ:b<=(b::l).getLastD 0:=aav h2;constructor
   ·intro _;exact⟨h.1,by omega⟩
   ·intro _;omega
  ·rename_i h;rw[ih];have e1:(a::b::l).headD 0=a:=rfl;have e2:(b::l).headD 0=b:=rfl;rw[e1,e2];omega
where
 aav {b:Int}:∀{l:List Int},sX (b::l)->b<=(b::l).getLastD 0
  |[],_=>by simp
  |c::l,hm=>by
   obtain⟨h1,h2⟩:=hm;have:=aav h2;have e:(b::c::l).getLastD 0=(c::l).getLastD 0:=(by simp[Zs]);rw[e];omega
theorem acH{h:List Int}{n:Int}(hm:sX h):0<=iW h n<->h.headD 0<=n/\n<h.getLastD 0:=acE h 0 hm
theorem acG{n:Int}:∀(h:List Int)(i:Nat),0<=fg i h n->fg i h n+1<i+h.length
 |[],i,h=>by simp[fg]at h
 |[a],i,h=>by simp[fg]at h
 |a::b::l,i,h=>by
  unfold fg at h⊢;split
  ·simp;omega
  ·rename_i hn;rw[if_neg hn]at h;have:=acG (b::l) (i+1) h;simp at this⊢;omega
theorem aie{h:List Int}{y:aG}{n:Int}(hm:sX h)(hf:fits h y n=true):n∈F2 h:=by
 unfold fits at hf;simp only[Th,decide_eq_true_eq]at hf;obtain⟨h1,h2⟩:=(acH hm).1 hf.1.1;unfold F2;refine Tm.2 ⟨(n-h.headD 0).toNat,TE.2 (by omega),by omega⟩
theorem PG{α:Type}[DecidableEq α]{l:List α}{d:α}{i:Nat}(hi:i<l.length):l.Nodup->l.getD i d∉l.take i:=λhn hm=>by
 obtain⟨j,hj⟩:=VF hm;rw[Uc]at hj;split at hj
 ·rename_i ce;rw[SE,SP hi,SP (by omega)]at hj;simp only[S8,Tl]at hj;have h2:=TY.1 hn;exact(WH.1 h2) j i (by omega) hi ce hj
 ·cases hj
theorem aaB{α:Type}{l:List α}{d:α}(h:∀i,i<l.length->l.getD i d∉l.take i):l.Nodup:=by
 rw[TY,WH];intro i j hi hj jP e;refine h j hj ?_;rw[SE,SP hj,S8,<- e];exact UO.2 ⟨i,by rw[Uc,if_pos jP,SP hi]⟩
theorem GI{α:Type}{d:α}{h pre:List α}{v:α}:h.take (pre.length+1)=pre++[v]<->h.take pre.length=pre/\pre.length<h.length/\h.getD pre.length d=v:=by
 constructor
 ·intro e;have hl:pre.length+1<=h.length:=by
   have:=congrArg Z5 e;rw[TR,S9,T7]at this;omega
  have h1:=congrArg (Un pre.length) e;rw[U0,TA (SQ _),TH,Ww (by omega)]at h1;refine⟨h1,by omega,?_⟩;have h2:(h.take (pre.length+1))[pre.length]?=(pre++[v])[pre.length]?:=by rw[e]
  rw[Uc,if_pos (by omega),Tj (SQ _),Vd]at h2;rw[SE,h2];rfl
 ·rintro⟨h1,h2,h3⟩
  rw[VG,h1];congr 1;rw[SE,SP h2]at h3;rw[SP h2,<- h3];rfl
theorem F4{h:List Int}(hm:sX h):∀(ys:List aG)(t ns:List Int),ns∈mv h ys t<->ns.length=t.length+ys.length/\ns.take t.length=t/\∀i y,ys[i]?=some y->fits h y (ns.getD (t.length+i) 0)=true/\ns.getD (t.length+i) 0∉ns.take (t.length+i)
 |[],t,ns=>by
  simp only[mv,S5,UP,UJ];constructor
  ·rintro rfl;exact⟨rfl,TH,λi y hy=>by cases hy⟩
  ·rintro⟨h1,h2,_⟩;rw[<- h2,SX (by omega)]
 |y::ys,t,ns=>by
  simp only[mv,S7,Ul,Th,TW,Uj];constructor
  ·rintro⟨n,⟨_,hf,ht⟩,fG⟩
   rw[F4 hm ys (t++[n]) ns]at fG;obtain⟨h1,h2,h3⟩:=fG;rw[S9,T7]at h1 h2 h3;obtain⟨h4,h5,h6⟩:=(GI (d:=0)).1 h2;refine⟨by omega,h4,λi z hz=> ?_⟩
   match i,hz with
   |0,hz=>
    cases hz;rw[UJ,h6,h4];refine⟨hf,?_⟩;intro hc;rw[Up]at ht;simp at ht;exact ht hc
   |i+1,hz=>
    have:=h3 i z hz;rw[show t.length+1+i=t.length+(i+1) by omega]at this;exact this
  ·rintro⟨h1,h2,h3⟩
   obtain⟨hf,hn⟩:=h3 0 y rfl;rw[UJ]at hf hn;rw[h2]at hn;refine⟨ns.getD t.length 0,⟨aie hm hf,hf,by rw[Up];simpa using hn⟩,?_⟩;rw[F4 hm ys _ ns,S9,T7];refine⟨by omega,(GI (d:=0)).2 ⟨h2,by omega,rfl⟩,λi z hz=> ?_⟩;have:=h3 (i+1) z hz;rw[show t.length+(i+1)=t.length+1+i by omega]at this;exact this
theorem Ge{h ns:List Int}:∀(ss:List aG)(t os:List Nat),os∈oT h ns ss t<->os.length=t.length+ss.length/\os.take t.length=t/\∀i s,ss[i]?=some s->fits h s (ns.getD (os.getD (t.length+i) 0) 0)=true/\os.getD (t.length+i) 0<ns.length/\os.getD (t.length+i) 0∉os.take (t.length+i)
 |[],t,os=>by
  simp only[oT,S5,UP,UJ];constructor
  ·rintro rfl;exact⟨rfl,TH,λi y hy=>by cases hy⟩
  ·rintro⟨h1,h2,_⟩;rw[<- h2,SX (by omega)]
 |s::ss,t,os=>by
  simp only[oT,S7,Ul,Th,TW,Uj,TE];constructor
  ·rintro⟨n,⟨hlt,hf,ht⟩,fG⟩
   rw[Ge ss (t++[n]) os]at fG;obtain⟨h1,h2,h3⟩:=fG;rw[S9,T7]at h1 h2 h3;obtain⟨h4,h5,h6⟩:=(GI (d:=0)).1 h2;refine⟨by omega,h4,λi z hz=> ?_⟩
   match i,hz with
   |0,hz=>
    cases hz;rw[UJ,h6,h4];refine⟨hf,hlt,?_⟩;intro hc;rw[Up]at ht;simp at ht;exact ht hc
   |i+1,hz=>
    have:=h3 i z hz;rw[show t.length+1+i=t.length+(i+1) by omega]at this;exact this
  ·rintro⟨h1,h2,h3⟩
   obtain⟨hf,hlt,hn⟩:=h3 0 s rfl;rw[UJ]at hf hlt hn;rw[h2]at hn;refine⟨os.getD t.length 0,⟨hlt,hf,by rw[Up];simpa using hn⟩,?_⟩;rw[Ge ss _ os,S9,T7];refine⟨by omega,(GI (d:=0)).2 ⟨h2,by omega,rfl⟩,λi z hz=> ?_⟩;have:=h3 (i+1) z hz;rw[show t.length+(i+1)=t.length+1+i by omega]at this;exact this
end Go.Gg.Tk
namespace Go.Gg.Tk
theorem QM{x:ak}{bc:Nat}:∀(d:Nat)(pre:List Int),2<=pre.length->ml x bc d pre=(jZ x d pre).map cH
 |0,pre,_=>by
  unfold ml jZ;split<;>rfl
 |d+1,pre,h=>by
  unfold ml jZ;split
  ·rw[Vs];congr 1;funext n;rw[if_neg (λhc=>by have:=hc.1;omega),QM d _ (by simp;omega)]
  ·rfl
theorem Po{α:Type}{t:Nat}{f:Nat->List α}:∀m,((SV m).flatMap λn=>if n≠t then[]else f n)=if t<m then f t else[]
 |0=>by simp
 |m+1=>by
  rw[Vk,VR,Po m];simp only[Uo,List.flatMap_nil,SY];by_cases h:m=t
  ·subst h;rw[if_neg (Nat.lt_irrefl _),if_neg (by simp),if_pos (Uv _),UD]
  ·rw[if_pos h,SY];by_cases h2:t<m
   ·rw[if_pos h2,if_pos (by omega)]
   ·rw[if_neg h2,if_neg (by omega)]
theorem QQ{x:ak}{bc:Nat}(hh:1<=x.hours)(ht:bc<x.an.toNat+1):j3 x bc=(vw x bc).map cH:=by
 unfold j3 vw;obtain⟨d,hd⟩:∃d,x.hours.toNat=d+1:=⟨x.hours.toNat-1,by omega⟩;rw[hd];unfold ml;simp only[T7,Vd,VY,true_and];rw[show ([x.first]:List Int).getLastD 0=x.first from rfl];split
 ·rw[Po (t:=bc) (f:=λn=>ml x bc d ([x.first]++[x.first+(n:Int)])),if_pos ht,QM d _ (by simp)];rfl
 ·rfl
theorem ajP{x:ak}(hh:1<=x.hours):((SV (x.an.toNat+1)).flatMap λt=>vw x t)=aK x:=by
 unfold aK vw;obtain⟨d,hd⟩:∃d,x.hours.toNat=d+1:=⟨x.hours.toNat-1,by omega⟩;rw[hd,VY,show jZ x (d+1) [x.first]=(if rh x 0 x.first then(SV (x.an.toNat+1)).flatMap λn:Nat=>jZ x d [x.first,x.first+(n:Int)]else[])from rfl];split
 ·rfl
 ·simp
end Go.Gg.Tk
namespace Go.Gg.Tk
theorem aoB{p:Nat->Bool}{m k:Nat}(h:m<=k):((SV k).filter λn=>decide (n<m)&&p n)=(SV m).filter p:=by
 obtain⟨j,rfl⟩:=Nat.exists_eq_add_of_le h;rw[List.range_add,List.filter_append];have h1:((SV j).map (m+·)).filter (λn=>decide (n<m)&&p n)=[]:=by
  rw[YD];intro a ha;obtain⟨b,_,rfl⟩:=Tm.1 ha;simp only[Th,decide_eq_true_eq,not_and];exactλhlt=>absurd hlt (by omega)
 rw[h1,SY];refine Vj λn hn=> ?_;rw[TE]at hn;simp[hn]
theorem IL{α:Type}{c:Nat->Bool}{f:Nat->List α}:∀l:List Nat,(l.flatMap λn=>if c n=true then[]else f n)=(l.filter λn=> !c n).flatMap f
 |[]=>rfl
 |n::l=>by
  rw[Uo,List.filter_cons,IL l];cases hc:c n<;>simp
def sJ (g:aG->Nat->Bool)(m:Nat):List aG->List Nat->List (List Nat)
 |[],t=>[t]
 |y::ys,t=>((SV m).filter λn=>g y n&& !t.contains n).flatMap λn=>sJ g m ys (t++[n])
theorem LP{g:aG->Nat->Bool}{q:aG->Nat}{m:Nat}(hm:m<=9):∀(ys:List aG)(u:Nat)(t:List Nat),(∀y∈ys,∀n,n<9->(q y).testBit n=(decide (n<m)&&g y n))->(∀n,u.testBit n=t.contains n)->j_ (ys.map q) u t=sJ g m ys t
 |[],u,t,_,_=>rfl
 |y::ys,u,t,hq,hu=>by
  rw[UU,j_,sJ];have e1:((SV 9).flatMap λn=>if(u.testBit n|| !(q y).testBit n)=true then[]else j_ (ys.map q) (u|||2^n) (t++[n]))=((SV 9).filter λn=> !(u.testBit n|| !(q y).testBit n)).flatMap λn=>j_ (ys.map q) (u|||2^n) (t++[n]):=IL _;rw[e1];have e2:((SV 9).filter λn=> !(u.testBit n|| !(q y).testBit n))=(SV m).filter λn=>g y n&& !t.contains n:=by
   rw[<- aoB hm];refine Vj λn hn=> ?_;rw[TE]at hn;rw[hu,hq y (by simp) n hn];cases t.contains n<;>cases decide (n<m)<;>cases g y n<;>rfl
  rw[e2];congr 1;funext n;refine LP hm ys _ _ (λz hz=>hq z (by simp[hz])) λi=> ?_;rw[Xo,hu,VO,YS];simp[eq_comm]
theorem aaH{h:List Int}{a:Int}{g:aG->Nat->Bool}{m:Nat}(hr:F2 h=(SV m).map λi:Nat=>a+(i:Int)):∀(ys:List aG)(t:List Nat),(∀y∈ys,∀n,n<m->fits h y (a+(n:Int))=g y n)->mv h ys (t.map λi:Nat=>a+(i:Int))=(sJ g m ys t).map λl=>l.map λi:Nat=>a+(i:Int)
 |[],t,_=>rfl
 |y::ys,t,hg=>by
  rw[mv,sJ,hr,List.filter_map,WO,Vs];have e:(SV m).filter ((λn=>fits h y n&& !(t.map λi:Nat=>a+(i:Int)).contains n)∘λi:Nat=>a+(i:Int))=(SV m).filter λn=>g y n&& !t.contains n:=by
   refine Vj λn hn=> ?_;rw[TE]at hn;simp only[Wh];rw[hg y (by simp) n hn];congr 1;congr 1;rw[U6,YK,YK,Tm];constructor
   ·rintro⟨i,h1,h2⟩
    have:i=n:=(by omega);rw[<- this];exact h1
   ·exactλh1=>⟨n,h1,rfl⟩
  rw[e];congr 1;funext n;have:=aaH hr ys (t++[n]) (λz hz=>hg z (by simp[hz]));rw[TF]at this;exact this
end Go.Gg.Tk
namespace Go.Gg.Tk
theorem aaY{h:List Int}{ns:List Nat}{nl:List Int}{q:aG->Nat}(hl:nl.length=ns.length):∀(ss:List aG)(u:Nat)(t:List Nat),(∀s∈ss,∀p,p<ns.length->(q s).testBit (ns.getD p 0)=fits h s (nl.getD p 0))->(∀n,u.testBit n=t.contains n)->lW ns.length ns (ss.map q) u t=oT h nl ss t
 |[],u,t,_,_=>rfl
 |s::ss,u,t,hq,hu=>by
  rw[UU,lW,oT,hl];have e1:((SV ns.length).flatMap λp=>if(u.testBit p|| !(q s).testBit (ns.getD p 0))=true then[]else lW ns.length ns (ss.map q) (u|||2^p) (t++[p]))=((SV ns.length).filter λp=> !(u.testBit p|| !(q s).testBit (ns.getD p 0))).flatMap λp=>lW ns.length ns (ss.map q) (u|||2^p) (t++[p]):=IL _;rw[e1];have e2:((SV ns.length).filter λp=> !(u.testBit p|| !(q s).testBit (ns.getD p 0)))=(SV ns.length).filter λp=>fits h s (nl.getD p 0)&& !t.contains p:=by
   refine Vj λp hp=> ?_;rw[TE]at hp;rw[hu,hq s (by simp) p hp];cases t.contains p<;>cases fits h s (nl.getD p 0)<;>rfl
  rw[e2];congr 1;funext p;refine aaY hl ss _ _ (λz hz=>hq z (by simp[hz])) λi=> ?_;rw[Xo,hu,VO,YS];simp[eq_comm]
theorem aaM{g:aG->Nat->Bool}{m:Nat}:∀{ys:List aG}{t ns:List Nat},ns∈sJ g m ys t->(∀n∈t,n<m)->ns.length=t.length+ys.length/\∀n∈ns,n<m
 |[],t,ns,h,ht=>by
  simp only[sJ,S5]at h;subst h;exact⟨by simp,ht⟩
 |y::ys,t,ns,h,ht=>by
  simp only[sJ,S7,Ul,TE]at h;obtain⟨n,⟨hn,_⟩,h⟩:=h;obtain⟨h1,h2⟩:=aaM h (λk hk=>by
   rcases SS.1 hk with h'|h'
   ·exact ht k h'
   ·rw[S5.1 h'];exact hn)
  exact⟨by rw[h1];simp;omega,h2⟩
end Go.Gg.Tk
namespace Go.Gg.Tk
structure wb (x:ak)(h:List Int):Prop where
 lo:2<=h.length
 hi:h.length<=4
 head:h.headD 0=x.first
 span:h.getLastD 0<=x.first+9
 pad:l7 (cH h)
theorem aa4{h:List Int}(hl:2<=h.length):(cH h).getD 0 0=h.headD 0:=by
 match h,hl with
 |a::b::l,_=>rfl
theorem aa5{h:List Int}(hl:2<=h.length)(h4:h.length<=4):(cH h).getD 3 0=h.getLastD 0:=by
 match h,hl,h4 with
 |[a,b],_,_=>rfl
 |[a,b,c],_,_=>rfl
 |[a,b,c,d],_,_=>rfl
theorem ann{h:List Int}{n:Int}(hl:2<=h.length)(h4:h.length<=4):iW (cH h) n=iW h n:=by
 match h,hl,h4 with
 |[a,b],_,_=>exact MR (i:=0) (k:=2) (z:=b) (h:=[a,b]) (n:=n) rfl (by simp)
 |[a,b,c],_,_=>exact MR (i:=0) (k:=1) (z:=c) (h:=[a,b,c]) (n:=n) rfl (by simp)
 |[a,b,c,d],_,_=>exact MR (i:=0) (k:=0) (z:=d) (h:=[a,b,c,d]) (n:=n) rfl (by simp)
def nV (h:List Int):Nat:=(h.getLastD 0-h.headD 0).toNat
theorem HN{x:ak}{h:List Int}(hh:wb x h)(y:aG){n:Nat}(hn:n<9):(bW (cH h) y).testBit n=(decide (n<nV h)&&fits h y (h.headD 0+(n:Int))):=by
 unfold bW;rw[AT];unfold kT fits;rw[aa4 hh.lo,aa5 hh.lo hh.hi,ann hh.lo hh.hi];have e1:decide (n<9)=true:=decide_eq_true hn;have e2:decide (h.headD 0+(n:Int)<h.getLastD 0)=decide (n<nV h):=by
  unfold nV;rw[U6];simp only[decide_eq_true_eq];omega
 rw[e1,e2,U9];by_cases hm:n<nV h
 ·have e3:0<=iW h (h.headD 0+(n:Int)):=by
   unfold nV at hm;refine MQ (a:=h.headD 0) ?_ (by omega) (by omega);have:=hh.lo
   match h,this with
   |a::b::l,_=>rfl
  rw[decide_eq_true e3,decide_eq_true hm];simp
 ·rw[decide_eq_false hm];simp
theorem aaG{x:ak}{h:List Int}(hh:wb x h):mv h x.pieces []=(fJ x (cH h)).map λl=>l.map λi:Nat=>h.headD 0+(i:Int):=by
 have EO:nV h<=9:=by unfold nV;have:=hh.span;have:=hh.head;omega
 have e1:fJ x (cH h)=sJ (λy n=>fits h y (h.headD 0+(n:Int))) (nV h) x.pieces []:=
  LP EO x.pieces 0 [] (λy _ n hn=>HN hh y hn) (by simp)
 rw[e1];exact aaH (a:=h.headD 0) rfl x.pieces [] λy _ n _=>rfl
end Go.Gg.Tk
namespace Go.Gg.Tk
theorem amQ{x:ak}{h:List Int}(hh:wb x h){ns:List Nat}(hn:ns∈fJ x (cH h)):ns.length=x.pieces.length/\∀n∈ns,n<nV h:=by
 have EO:nV h<=9:=by unfold nV;have:=hh.span;have:=hh.head;omega
 have e1:fJ x (cH h)=sJ (λy n=>fits h y (h.headD 0+(n:Int))) (nV h) x.pieces []:=
  LP EO x.pieces 0 [] (λy _ n hn=>HN hh y hn) (by simp)
 rw[e1]at hn;have:=aaM hn (by simp);exact⟨by simpa using this.1,this.2⟩
theorem anj{x:ak}{h:List Int}(hh:wb x h){ns:List Nat}(hn:ns∈fJ x (cH h)):gS x (cH h) ns=oT h (ns.map λi:Nat=>h.headD 0+(i:Int)) x.aB []:=by
 obtain⟨h1,h2⟩:=amQ hh hn;have EO:nV h<=9:=by unfold nV;have:=hh.span;have:=hh.head;omega
 unfold gS;rw[<- h1];refine aaY (by simp) x.aB 0 [] (λs _ p hp=> ?_) (by simp);have qC:ns.getD p 0=ns[p]:=by rw[SE,SP hp];rfl
 have hlt:=h2 ns[p] (VQ hp);have hg2:(ns.map λi:Nat=>h.headD 0+(i:Int)).getD p 0=h.headD 0+(ns[p]:Int):=by
  rw[SE,To,SP hp];rfl
 rw[qC,hg2,HN hh s (by omega),decide_eq_true hlt,U9]
def ep (t:Tr):List Int:=dp (cH t.bB) (t.aA.map λn=>(n-t.bB.headD 0).toNat) t.bK
theorem acM{x:ak}{h:List Int}(hh:wb x h){ns:List Nat}(hn:ns∈fJ x (cH h)):(C1 x h (ns.map λi:Nat=>h.headD 0+(i:Int))).map ep=(gS x (cH h) ns).map (dp (cH h) ns):=by
 unfold C1;rw[XY,anj hh hn];refine Vx λos _=> ?_;unfold ep;simp only[Wh,XY];congr 1
 conv=>rhs;rw[<- List.map_id ns]
 refine Vx λn _=> ?_;simp only[Wh,id];omega
theorem yw{α β:Type}{l:List α}{f g:α->List β}(h:∀a∈l,f a=g a):l.flatMap f=l.flatMap g:=by
 rw[WR,WR,Vx h]
theorem acv{α:Type}:∀ll:List (List α),(ll.map (·.take 1)).flatten.take 1=ll.flatten.take 1
 |[]=>rfl
 |[]::ll=>by simpa using acv ll
 |(a::l)::ll=>by simp
theorem aq1{x:ak}{h:List Int}{deep:Int}(hh:wb x h):iX x deep (cH h)=(rq x deep h).map ep:=by
 have e2:(n5 x h).map ep=(((fJ x (cH h)).map λns=>(gS x (cH h) ns).map λos=>dp (cH h) ns os)).flatten:=by
  unfold n5;rw[aaG hh,WO,Vs,<- WR];exact yw λns hn=>acM hh hn
 have e1:(uy x h).map ep=(((fJ x (cH h)).map λns=>(gS x (cH h) ns).map λos=>dp (cH h) ns os).map (·.take 1)).flatten:=by
  unfold uy;rw[aaG hh,WO,Vs,XY,<- WR];refine yw λns hn=> ?_;simp only[Wh];rw[VE,acM hh hn]
 unfold iX rq;dsimp only;split
 ·rw[VE,e1,acv]
 ·split
  ·exact e1.symm
  ·exact e2.symm
end Go.Gg.Tk
namespace Go.Gg.Tk
theorem yY{x:ak}:∀(d:Nat)(pre h:List Int),pre≠[]->h∈jZ x d pre->h.length=pre.length+d/\h.headD 0=pre.headD 0
 |0,pre,h,_,hm=>by
  unfold jZ at hm;split at hm
  ·rw[S5]at hm;subst hm;exact⟨rfl,rfl⟩
  ·cases hm
 |d+1,pre,h,hp,hm=>by
  unfold jZ at hm;split at hm
  ·obtain⟨n,_,hm⟩:=S7.1 hm;obtain⟨h1,h2⟩:=yY d _ h (by simp) hm;refine⟨by rw[h1];simp;omega,h2.trans ?_⟩
   match pre,hp with
   |a::l,_=>rfl
  ·cases hm
theorem QL{x:ak}{t:Nat}(hx:x.Ok)(ht:t<x.an.toNat+1){h:List Int}(hm:h∈vw x t):wb x h:=by
 have hh:=hx.hours;have EV:cH h∈j3 x t:=by rw[QQ hh.1 ht];exact Tm.2 ⟨h,hm,rfl⟩
 have h4:=QJ hx EV;unfold vw at hm;split at hm
 ·obtain⟨h1,h2⟩:=yY _ _ _ (by simp) hm;have oE:2<=h.length:=by rw[h1];simp
  have EI:h.length<=4:=by rw[h1];simp;omega
  have wM:h.headD 0=x.first:=h2;refine⟨oE,EI,wM,?_,h4⟩;have:=h4.span;rw[aa4 oE,aa5 oE EI,wM]at this;exact this
 ·cases hm
theorem acX{x:ak}{deep:Int}(hx:x.Ok):((SV (x.an.toNat+1)).flatMap λt=>GV x deep t)=(aK x).flatMap (rq x deep):=by
 unfold GV;rw[<- ajP hx.hours.1,List.flatMap_assoc]
end Go.Gg.Tk
namespace Go.Gg.Tk
theorem ad3{l:List Nat}{i v p n:Nat}(hi:i<l.length):((oh l i v).getD p 0).testBit n=((l.getD p 0).testBit n||(decide (p=i)&&decide (n=v))):=by
 unfold oh;rw[SE,UR];by_cases h:i=p
 ·subst h;rw[if_pos rfl,if_pos hi,S8,Xo,VO];simp[eq_comm]
 ·rw[if_neg h,<- SE];have:¬p=i:=λe=>h e.symm;simp[this]
def rK (v:Nat->Nat):Nat->List Nat->List Nat
 |0,l=>l
 |k+1,l=>oh (rK v k l) k (v k)
theorem aaK(t:List Int)(l:List Nat):∀k,qZ t k l=rK (lY t) k l
 |0=>rfl
 |k+1=>by rw[qZ,rK,aaK t l k]
theorem aa6(t:List Int)(l:List Nat):∀k,mw t k l=rK (rk t) k l
 |0=>rfl
 |k+1=>by rw[mw,rK,aa6 t l k]
theorem NB(v:Nat->Nat)(l:List Nat):∀k,(rK v k l).length=l.length
 |0=>rfl
 |k+1=>by rw[rK,AL,NB v l k]
theorem Hy{v:Nat->Nat}{l:List Nat}{p n:Nat}:∀k,k<=l.length->((rK v k l).getD p 0).testBit n=((l.getD p 0).testBit n||(decide (p<k)&&decide (n=v p)))
 |0,_=>by simp[rK]
 |k+1,h=>by
  rw[rK,ad3 (by rw[NB];omega),Hy k (by omega)];by_cases hp:p=k
  ·subst hp;simp
  ·have e:(p<k+1)<->p<k:=(by omega);simp[hp,e]
theorem aaV{l m:List Nat}{p n:Nat}(h:l.length=m.length):((lr l m).getD p 0).testBit n=((l.getD p 0).testBit n||(m.getD p 0).testBit n):=by
 unfold lr;rw[SE,List.getElem?_zipWith,SE,SE];by_cases hp:p<l.length
 ·rw[SP hp,SP (by omega)];simp[Xo]
 ·rw[Uu (by omega),Uu (by omega)];simp
theorem abd{hs:List (List Int)}{h g:List Int}:g∈jn hs h<->g∈hs\/g=h:=by
 unfold jn;split
 ·rename_i hm;exact⟨.inl,λe=>e.elim id λe=>e▸hm⟩
 ·rw[SS,S5]
theorem Pt{g:List Int}:∀{l hs:List (List Int)},g∈l.foldl jn hs<->g∈hs\/g∈l
 |[],hs=>by simp
 |a::l,hs=>by
  rw[UW,Pt,abd,SL,or_assoc]
theorem afa(Q:Kn)(t:List Int):(ju Q t).has=true:=by
 unfold ju;cases h:Q.has
 ·rfl
 ·rw[if_pos rfl];exact h
theorem acx(x:ak)(deep:Int)(Q:Kn)(t:List Int):(ej x deep Q t).has=true:=by
 have:=afa Q t;unfold ej;dsimp only;split
 ·exact this
 ·split<;>exact this
theorem Py{x:ak}{deep:Int}:∀(ts:List (List Int))(Q:Kn),(ts.foldl (ej x deep) Q).has=(Q.has|| !ts.isEmpty)
 |[],Q=>by simp
 |t::ts,Q=>by rw[UW,Py ts,acx];simp
theorem ak9{F G:Kn}{hs:List (List Int)}:(gE F hs G).has=(F.has||G.has):=by
 unfold gE;cases h:G.has
 ·simp
 ·simp
end Go.Gg.Tk
namespace Go.Gg.Tk
theorem aqw{x:ak}{Q:Kn}{t g:List Int}:g∈(ej x 0 Q t).aK<->g∈Q.aK\/g=t.take 4:=by
 have hB:(ju Q t).aK=Q.aK:=by unfold ju;split<;>rfl
 unfold ej;dsimp only;rw[if_neg (by decide),if_pos rfl,abd,hB]
theorem Pv{x:ak}{g:List Int}:∀(ts:List (List Int))(Q:Kn),g∈(ts.foldl (ej x 0) Q).aK<->g∈Q.aK\/∃t∈ts,g=t.take 4
 |[],Q=>by simp
 |t::ts,Q=>by
  rw[UW,Pv ts,aqw];constructor
  ·rintro((h|h)|⟨u,h1,h2⟩)
   ·exact .inl h
   ·exact .inr ⟨t,by simp,h⟩
   ·exact .inr ⟨u,by simp[h1],h2⟩
  ·rintro(h|⟨u,h1,h2⟩)
   ·exact .inl (.inl h)
   ·rcases SL.1 h1 with rfl|h1
    ·exact .inl (.inr h2)
    ·exact .inr ⟨u,h1,h2⟩
def eG (x:ak)(deep:Int)(j:Nat):List (List Int):=(j3 x j).flatMap (iX x deep)
theorem GU(x:ak)(deep:Int)(j:Nat):gq x deep j=(eG x deep j).foldl (ej x deep) Kn.zero:=rfl
theorem C6(x:ak)(deep:Int)(j:Nat):(gq x deep j).has= !(eG x deep j).isEmpty:=by
 rw[GU,Py];rfl
theorem arp{x:ak}{j:Nat}{g:List Int}:g∈(gq x 0 j).aK<->∃t∈eG x 0 j,g=t.take 4:=by
 rw[GU,Pv];simp[Kn.zero]
theorem Se{x:ak}{deep:Int}{js:List Nat}{D:Kn}(h:nv x deep js D):D.has=js.any λj=> !(eG x deep j).isEmpty:=by
 induction h with
 |nil=>rfl
 |snoc h hp ih=>rw[ak9,ih,C6,ZA];simp
theorem ala{x:ak}{js:List Nat}{D:Kn}{g:List Int}(h:nv x 0 js D):g∈D.aK<->∃j∈js,∃t∈eG x 0 j,g=t.take 4:=by
 induction h with
 |nil=>simp[Kn.zero]
 |@snoc js F j hs h hp ih=>
  have key:g∈(gE F hs (gq x 0 j)).aK<->g∈F.aK\/∃t∈eG x 0 j,g=t.take 4:=by
   unfold gE;split
   ·show g∈hs.foldl jn F.aK<->_;rw[Pt,hp.mem_iff,arp]
   ·rename_i hn;rw[C6]at hn;have:eG x 0 j=[]:=(by simpa using hn);rw[this];simp
  rw[key,ih];constructor
  ·rintro(⟨i,h1,h2⟩|h2)
   ·exact⟨i,by simp[h1],h2⟩
   ·exact⟨j,by simp,h2⟩
  ·rintro⟨i,h1,h2⟩
   rcases SS.1 h1 with h1|h1
   ·exact .inl ⟨i,h1,h2⟩
   ·rw[S5.1 h1]at h2;exact .inr h2
theorem Pu:∀{l hs:List (List Int)},hs.Nodup->(l.foldl jn hs).Nodup
 |[],hs,h=>h
 |a::l,hs,h=>by rw[UW];exact Pu (abe h)
theorem alc{x:ak}{deep:Int}{js:List Nat}{D:Kn}(h:nv x deep js D):D.aK.Nodup:=by
 induction h with
 |nil=>exact WM
 |snoc h hp ih=>
  unfold gE;split
  ·exact Pu ih
  ·exact ih
end Go.Gg.Tk
namespace Go.Gg.Tk
theorem Ed{x:ak}{deep:Int}{t:Nat}(hx:x.Ok)(ht:t<x.an.toNat+1):eG x deep t=(GV x deep t).map ep:=by
 unfold eG GV;rw[QQ hx.hours.1 ht,WO,Vs];exact yw λh hm=>aq1 (QL hx ht hm)
def oi (x:ak)(deep:Int):List Tr:=(aK x).flatMap (rq x deep)
theorem zr{x:ak}{deep:Int}{js:List Nat}{p:Nat}(hx:x.Ok)(hp:x.an=p)(gZ:js.Perm (SV (p+1))){t:List Int}:(∃j∈js,t∈eG x deep j)<->∃u∈oi x deep,t=ep u:=by
 have lN:x.an.toNat=p:=by omega
 unfold oi;rw[<- acX hx,lN];constructor
 ·rintro⟨j,h1,h2⟩
  have hj:=gZ.mem_iff.1 h1;rw[Ed hx (by rw[lN];simpa using hj)]at h2;obtain⟨u,h3,rfl⟩:=Tm.1 h2;exact⟨u,S7.2 ⟨j,hj,h3⟩,rfl⟩
 ·rintro⟨u,h1,rfl⟩
  obtain⟨j,hj,h3⟩:=S7.1 h1;refine⟨j,gZ.mem_iff.2 hj,?_⟩;rw[Ed hx (by rw[lN];simpa using hj)];exact Tm.2 ⟨u,h3,rfl⟩
theorem C0{x:ak}{deep:Int}{h:List Int}{u:Tr}(hu:u∈rq x deep h):u∈n5 x h:=by
 have h1:∀u,u∈uy x h->u∈n5 x h:=λu hu=>by
  unfold uy at hu;obtain⟨ns,h1,h2⟩:=S7.1 hu;exact S7.2 ⟨ns,h1,Ws h2⟩
 unfold rq at hu;split at hu
 ·exact h1 u (Ws hu)
 ·split at hu
  ·exact h1 u hu
  ·exact hu
theorem xP{x:ak}{h:List Int}{u:Tr}(hu:u∈n5 x h):u.bB=h:=by
 obtain⟨ns,_,h2⟩:=S7.1 hu;obtain⟨os,_,rfl⟩:=Tm.1 h2;rfl
theorem Pq{α β:Type}{f:α->List β}:∀{l:List α},(l.flatMap λa=>(f a).take 1)=[]<->l.flatMap f=[]
 |[]=>by simp
 |a::l=>by
  rw[Uo,Uo,YE,YE,Pq,YR];simp
theorem acL{x:ak}{deep:Int}{h:List Int}:rq x deep h=[]<->n5 x h=[]:=by
 have h1:uy x h=[]<->n5 x h=[]:=Pq;unfold rq;split
 ·rw[YR,h1];simp
 ·split
  ·exact h1
  ·exact Iff.rfl
theorem aeb{x:ak}{deep:Int}:oi x deep=[]<->bG x=[]:=by
 unfold oi bG;rw[WQ,WQ];exact forall_congr' λh=>forall_congr' λ_=>acL
theorem aed{x:ak}{deep:Int}{js:List Nat}:(js.any λj=> !(eG x deep j).isEmpty)=true<->∃t,∃j∈js,t∈eG x deep j:=by
 rw[UK];constructor
 ·rintro⟨j,h1,h2⟩
  cases hg:eG x deep j with
  |nil=>rw[hg]at h2;cases h2
  |cons t l=>exact⟨t,j,h1,by rw[hg];simp⟩
 ·rintro⟨t,j,h1,h2⟩
  refine⟨j,h1,?_⟩;cases hg:eG x deep j with
  |nil=>rw[hg]at h2;cases h2
  |cons=>rfl
end Go.Gg.Tk
namespace Go.Gg
open Go.Gg.Tk
theorem FH{x:ak}{deep:Int}{D:Kn}(hx:x.Ok)(h:fy x deep D):D.has= !(bG x).isEmpty:=by
 obtain⟨p,js,h1,h2,h3,_⟩:=h;rw[Se h3,U6,aed];have key:(∃t,∃j∈js,t∈eG x deep j)<->oi x deep≠[]:=by
  constructor
  ·rintro⟨t,h⟩ he
   obtain⟨u,hu,_⟩:=(zr hx h1 h2).1 h;rw[he]at hu;cases hu
  ·intro aC;obtain⟨u,hu⟩:=Vf _ aC;exact⟨ep u,(zr hx h1 h2).2 ⟨u,hu,rfl⟩⟩
 rw[key,ne_eq,aeb];cases bG x<;>simp
theorem ali{x:ak}{D:Kn}(hx:x.Ok)(h:fy x 0 D){g:List Int}:g∈D.aK<->∃u∈bG x,g=(ep u).take 4:=by
 obtain⟨p,js,h1,h2,h3,_⟩:=h;rw[ala h3];have e:(∃j∈js,∃t∈eG x 0 j,g=t.take 4)<->∃t,(∃j∈js,t∈eG x 0 j)/\g=t.take 4:=by
  constructor
  ·rintro⟨j,a,t,b,c⟩;exact⟨t,⟨j,a,b⟩,c⟩
  ·rintro⟨t,⟨j,a,b⟩,c⟩;exact⟨j,a,t,b,c⟩
 rw[e];have aF:∀u:Tr,u∈bG x->(ep u).take 4=cH u.bB:=λu hu=>by
  obtain⟨h,hm,lj⟩:=S7.1 hu;have hl:h.length=1+x.hours.toNat:=(yY _ _ _ (by simp) hm).1;have hh:=hx.hours;have h4:(cH u.bB).length=4:=by
   rw[xP lj];simp[cH];omega
  unfold ep dp;rw[SD,TA (by omega),SX (by omega)]
 have lg:∀u,u∈oi x 0->u∈bG x:=λu hu=>by
  obtain⟨h,a,b⟩:=S7.1 hu;exact S7.2 ⟨h,a,C0 b⟩
 constructor
 ·rintro⟨t,a,rfl⟩
  obtain⟨u,hu,rfl⟩:=(zr hx h1 h2).1 a;exact⟨u,lg u hu,rfl⟩
 ·rintro⟨u,hu,rfl⟩
  obtain⟨h,hm,lj⟩:=S7.1 hu;have aC:rq x 0 h≠[]:=λe=>by
   rw[acL]at e;rw[e]at lj;cases lj
  obtain⟨v,hv⟩:=Vf _ aC;have sB:v∈oi x 0:=S7.2 ⟨h,hm,hv⟩;refine⟨ep v,(zr hx h1 h2).2 ⟨v,sB,rfl⟩,?_⟩;rw[aF u hu,aF v (lg v sB),xP lj,xP (C0 hv)]
end Go.Gg
namespace Go.Gg.Tk
theorem N0(Q:Kn)(t:List Int):(ju Q t).aA=Q.aA/\(ju Q t).hours=Q.hours/\(ju Q t).less=Q.less/\(ju Q t).aS=Q.aS:=by
 unfold ju;split<;>exact⟨rfl,rfl,rfl,rfl⟩
theorem aqx{x:ak}{Q:Kn}{t:List Int}{p n:Nat}(hx:x.Ok)(hQ:bH Q)(hp:p<x.pieces.length):((ej x 1 Q t).aA.getD p 0).testBit n=((Q.aA.getD p 0).testBit n||decide (n=lY t p)):=by
 have h:(ej x 1 Q t).aA=qZ t x.pieces.length Q.aA:=by
  rw[<- (N0 Q t).1];rfl
 rw[h,aaK,Hy _ (by rw[hQ.aA];exact hx.cZ),decide_eq_true hp,U9]
theorem aqy{x:ak}{Q:Kn}{t:List Int}{s n:Nat}(hx:x.Ok)(hQ:bH Q)(hs:s<x.aB.length):((ej x 2 Q t).aS.getD s 0).testBit n=((Q.aS.getD s 0).testBit n||decide (n=rk t s)):=by
 have h:(ej x 2 Q t).aS=mw t x.aB.length Q.aS:=by
  rw[<- (N0 Q t).2.2.2];rfl
 rw[h,aa6,Hy _ (by rw[hQ.aS];exact hx.eP),decide_eq_true hs,U9]
theorem Pw{x:ak}{deep:Int}(hx:x.Ok){f:Kn->Bool}{g:List Int->Bool}(h:∀Q t,bH Q->jc x t->f (ej x deep Q t)=(f Q||g t)):∀(ts:List (List Int))(Q:Kn),bH Q->(∀t∈ts,jc x t)->f (ts.foldl (ej x deep) Q)=(f Q||ts.any g)
 |[],Q,_,_=>by simp
 |t::ts,Q,hQ,ht=>by
  rw[UW,Pw hx h ts _ (MN hx (ht t (by simp)) hQ) (λu hu=>ht u (by simp[hu])),h Q t hQ (ht t (by simp)),YU,Bool.or_assoc]
theorem PL{x:ak}{deep:Int}{j:Nat}(hx:x.Ok)(hj:j<=3){t:List Int}(ht:t∈eG x deep j):jc x t:=by
 obtain⟨h,h1,h2⟩:=S7.1 ht;obtain⟨ns,h3,h4⟩:=MU h2;exact((CZ hx) j hj h h1).2 ns h3 t h4
theorem alb{x:ak}{deep:Int}(hx:x.Ok){f:Kn->Bool}{g:List Int->Bool}(h0:f Kn.zero=false)(h:∀Q t,bH Q->jc x t->f (ej x deep Q t)=(f Q||g t))(hj:∀F G hs,bH F->bH G->G.has=true->f (gE F hs G)=(f F||f G)){js:List Nat}{D:Kn}(gZ:∀j∈js,j<=3)(hD:nv x deep js D):bH D/\f D=js.any λj=>(eG x deep j).any g:=by
 induction hD with
 |nil=>exact⟨Co,by simpa using h0⟩
 |@snoc js F j hs hJ hp ih=>
  obtain⟨mq,kK⟩:=ih λi hi=>gZ i (by simp[hi]);have QR:j<=3:=gZ j (by simp);have ay:bH (gq x deep j):=M4 hx ((CZ hx) j QR);refine⟨Sb mq ay hp,?_⟩;have hw:f (gq x deep j)=(eG x deep j).any g:=by
   rw[GU,Pw hx h _ _ Co (λt ht=>PL hx QR ht),h0,XU]
  rw[ZA,<- kK];simp only[YU,List.any_nil,ZX];cases hG:(gq x deep j).has with
  |true=>rw[hj F _ hs mq ay hG,hw]
  |false=>
   have hn:eG x deep j=[]:=by
    rw[C6]at hG;simpa using hG
   rw[hn];unfold gE;rw[hG];simp
end Go.Gg.Tk
namespace Go.Gg
open Go.Gg.Tk
theorem Sj{x:ak}{deep:Int}(hx:x.Ok){f:Kn->Bool}{g:List Int->Bool}(h0:f Kn.zero=false)(h:∀Q t,bH Q->jc x t->f (ej x deep Q t)=(f Q||g t))(hj:∀F G hs,bH F->bH G->G.has=true->f (gE F hs G)=(f F||f G)){D:Kn}(hD:fy x deep D):f D=true<->∃u∈oi x deep,g (ep u)=true:=by
 obtain⟨p,js,h1,h2,h3,_⟩:=hD;have hp:=hx.an;have gZ:∀j∈js,j<=3:=λj hm=>by
  have:=h2.mem_iff.1 hm;rw[TE]at this;omega
 rw[(alb hx h0 h hj gZ h3).2,UK];constructor
 ·rintro⟨j,a,b⟩
  obtain⟨t,c,d⟩:=UK.1 b;obtain⟨u,hu,rfl⟩:=(zr hx h1 h2).1 ⟨j,a,c⟩;exact⟨u,hu,d⟩
 ·rintro⟨u,hu,d⟩
  obtain⟨j,a,c⟩:=(zr hx h1 h2).2 ⟨u,hu,rfl⟩;exact⟨j,a,UK.2 ⟨_,c,d⟩⟩
theorem alk{x:ak}{D:Kn}{s n:Nat}(hx:x.Ok)(hD:fy x 2 D)(hs:s<x.aB.length):(D.aS.getD s 0).testBit n=true<->∃u∈bG x,rk (ep u) s=n:=by
 have aP:=hx.eP;have e:oi x 2=bG x:=rfl;rw[<- e,Sj (f:=λK=>(K.aS.getD s 0).testBit n) (g:=λt=>decide (n=rk t s)) hx ?_ (λQ t hQ _=>aqy hx hQ hs) (λF G oJ hF hG hh=> ?_) hD]
 ·exact exists_congr λu=>and_congr_right λ_=>by rw[decide_eq_true_eq];exact eq_comm
 ·have:([0,0,0]:List Nat).getD s 0=0:=by
   match s,(show s<3 by omega)with
   |0,_=>rfl
   |1,_=>rfl
   |2,_=>rfl
  show (([0,0,0]:List Nat).getD s 0).testBit n=false;rw[this];exact Zx n
 ·have e2:(gE F oJ G).aS=lr F.aS G.aS:=by unfold gE;rw[if_pos hh]
  rw[e2];exact aaV (by rw[hF.aS,hG.aS])
theorem ad9{x:ak}{P:List Int->List Int->Prop}:(∃u∈oi x 1,P u.bB u.aA)<->∃u∈bG x,P u.bB u.aA:=by
 constructor
 ·rintro⟨u,hu,hp⟩
  obtain⟨h,a,b⟩:=S7.1 hu;exact⟨u,S7.2 ⟨h,a,C0 b⟩,hp⟩
 ·rintro⟨u,hu,hp⟩
  obtain⟨h,a,b⟩:=S7.1 hu;obtain⟨ns,c,d⟩:=S7.1 b;obtain⟨os,c2,rfl⟩:=Tm.1 d;cases ho:oT h ns x.aB []with
  |nil=>rw[ho]at c2;cases c2
  |cons o os'=>
   refine⟨⟨h,ns,o⟩,S7.2 ⟨h,a,?_⟩,hp⟩;show _∈uy x h;refine S7.2 ⟨ns,c,?_⟩;unfold C1;rw[ho];simp
theorem aaJ{h:List Int}:∀{ys:List aG}{t ns:List Int},ns∈mv h ys t->ns.length=t.length+ys.length
 |[],t,ns,hm=>by
  simp only[mv,S5]at hm;subst hm;rfl
 |y::ys,t,ns,hm=>by
  simp only[mv,S7]at hm;obtain⟨n,_,hm⟩:=hm;have:=aaJ hm;simp at this⊢;omega
theorem v4{x:ak}(hx:x.Ok){u:Tr}(hu:u∈bG x):u.bB.length=1+x.hours.toNat/\u.aA.length=x.pieces.length:=by
 obtain⟨h,a,b⟩:=S7.1 hu;obtain⟨ns,c,d⟩:=S7.1 b;obtain⟨os,_,rfl⟩:=Tm.1 d;exact⟨(yY _ _ _ (by simp) a).1,by simpa using aaJ c⟩
theorem xF{h:List Int}(h4:h.length<=4):(cH h).length=4:=by simp[cH];omega
theorem agv{x:ak}(hx:x.Ok){u:Tr}(hu:u∈bG x){p:Nat}(hp:p<x.pieces.length):lY (ep u) p=(u.aA.getD p 0-u.bB.headD 0).toNat:=by
 obtain⟨h1,h2⟩:=v4 hx hu;have hh:=hx.hours;have h4:=xF (h:=u.bB) (by omega);have dc:p<u.aA.length:=by omega
 have hg:(ep u)[4+p]?=some (((u.aA[p]-u.bB.headD 0).toNat:Nat):Int):=by
  unfold ep dp kL;rw[SD,Tj (by omega),h4,U7,SZ (by simp;omega),SZ (by simpa using dc),To,To,SP dc];rfl
 unfold lY;rw[SE,hg,SE,SP dc];rfl
theorem arD{p:Nat}(hp:p<4):([0,0,0,0]:List Nat).getD p 0=0:=by
 match p,hp with
 |0,_=>rfl
 |1,_=>rfl
 |2,_=>rfl
 |3,_=>rfl
theorem alj{x:ak}{D:Kn}{p n:Nat}(hx:x.Ok)(hD:fy x 1 D)(hp:p<x.pieces.length):(D.aA.getD p 0).testBit n=true<->∃u∈bG x,(u.aA.getD p 0-u.bB.headD 0).toNat=n:=by
 have m9:=hx.cZ;rw[Sj (f:=λK=>(K.aA.getD p 0).testBit n) (g:=λt=>decide (n=lY t p)) hx ?_ (λQ t hQ _=>aqx hx hQ hp) (λF G oJ hF hG hh=> ?_) hD]
 ·rw[<- ad9 (P:=λh ns=>(ns.getD p 0-h.headD 0).toNat=n)];refine exists_congr λu=>and_congr_right λhu=> ?_;obtain⟨h,a,b⟩:=S7.1 hu;have hu2:u∈bG x:=S7.2 ⟨h,a,C0 b⟩;rw[decide_eq_true_eq,agv hx hu2 hp];exact eq_comm
 ·show (([0,0,0,0]:List Nat).getD p 0).testBit n=false;rw[arD (by omega)];exact Zx n
 ·have e2:(gE F oJ G).aA=lr F.aA G.aA:=by unfold gE;rw[if_pos hh]
  rw[e2];exact aaV (by rw[hF.aA,hG.aA])
theorem aaI{h:List Int}:∀{ys:List aG}{t ns:List Int},ns∈mv h ys t->(∀n∈t,h.headD 0<=n)->∀n∈ns,h.headD 0<=n
 |[],t,ns,hm,ht=>by
  simp only[mv,S5]at hm;subst hm;exact ht
 |y::ys,t,ns,hm,ht=>by
  simp only[mv,S7,Ul]at hm;obtain⟨n,⟨hn,_⟩,hm⟩:=hm;refine aaI hm λk hk=> ?_;rcases SS.1 hk with h'|h'
  ·exact ht k h'
  ·rw[S5.1 h'];obtain⟨i,_,rfl⟩:=Tm.1 hn;omega
theorem aq3{x:ak}{u:Tr}(hu:u∈bG x):∀n∈u.aA,u.bB.headD 0<=n:=by
 obtain⟨h,a,b⟩:=S7.1 hu;obtain⟨ns,c,d⟩:=S7.1 b;obtain⟨os,_,rfl⟩:=Tm.1 d;exact aaI c (by simp)
theorem agu{x:ak}(hx:x.Ok){u:Tr}(hu:u∈bG x){p:Nat}(hp:p<x.pieces.length):(ep u).getD (4+p) 0=u.aA.getD p 0-u.bB.headD 0:=by
 obtain⟨h1,h2⟩:=v4 hx hu;have hh:=hx.hours;have h4:=xF (h:=u.bB) (by omega);have dc:p<u.aA.length:=by omega
 have tN:=aq3 hu u.aA[p] (VQ dc);have hg:(ep u)[4+p]?=some (((u.aA[p]-u.bB.headD 0).toNat:Nat):Int):=by
  unfold ep dp kL;rw[SD,Tj (by omega),h4,U7,SZ (by simp;omega),SZ (by simpa using dc),To,To,SP dc];rfl
 rw[SE,hg,SE,SP dc];simp only[S8];omega
namespace Tk
structure Nk (x:ak)(u:Tr):Prop where
 bB:mB x.first x.an u.bB x.hours.toNat
 seen:∀s∈x.seen,j8 s.next (u.bB.getD s.hour.toNat 0)=true
 xC:u.aA.length=x.pieces.length
 piece:∀(p:Nat) y,x.pieces[p]?=some y->fits u.bB y (u.aA.getD p 0)=true
 LO:u.aA.Nodup
 vR:u.bK.length=x.aB.length
 own:∀v∈u.bK,v<x.pieces.length
 stub:∀(s:Nat) y,x.aB[s]?=some y->fits u.bB y (u.aA.getD (u.bK.getD s 0) 0)=true
 Gd:u.bK.Nodup
theorem _root_.Go.Gg.mB.mono{first an:Int}{l:List Int}{i:Nat}(h:mB first an l i):sX l:=amC λj hj=>(h.step j (by have:=h.len;omega)).1
theorem ajO{x:ak}(hx:x.Ok){h:List Int}:h∈aK x<->mB x.first x.an h x.hours.toNat/\∀s∈x.seen,j8 s.next (h.getD s.hour.toNat 0)=true:=by
 have hp:=hx.an;unfold aK;rw[JR _ _ _ (by simp)];simp only[T7];constructor
 ·rintro⟨h1,h2,h3⟩
  have h4:=(GH (pre:=[]) (v:=x.first)).1 h2;refine⟨⟨by omega,h4.2.2,λj hj=> ?_⟩,λs hs=> ?_⟩
  ·obtain⟨n,hn,e⟩:=(h3 j (by omega) (by omega)).2 (by omega);omega
  ·have hsr:=(hx.seen s hs).1;have:=(h3 s.hour.toNat (by omega) (by omega)).1;unfold rh at this;have:=Tx.1 this s hs;have e:s.hour=(s.hour.toNat:Int):=(by omega);rw[<- e]at this;simpa using this
 ·rintro⟨h1,h2⟩
  have hl:=h1.len;refine⟨by omega,(GH (pre:=[]) (v:=x.first)).2 ⟨rfl,by simp;omega,h1.head⟩,λj _ hj=>⟨?_,λEM=> ?_⟩⟩
  ·unfold rh;rw[Tx];intro s hs;by_cases e:s.hour=(j:Int)
   ·have:=h2 s hs;rw[show s.hour.toNat=j by omega]at this;rw[this];simp
   ·simp[e]
  ·have:=h1.step j (by omega);exact⟨(h.getD (j+1) 0-h.getD j 0).toNat,by omega,by omega⟩
theorem aq5{x:ak}{u:Tr}:u∈bG x<->u.bB∈aK x/\u.aA∈mv u.bB x.pieces []/\u.bK∈oT u.bB u.aA x.aB []:=by
 constructor
 ·intro hu;obtain⟨h,a,b⟩:=S7.1 hu;obtain⟨ns,c,d⟩:=S7.1 b;obtain⟨os,e,rfl⟩:=Tm.1 d;exact⟨a,c,e⟩
 ·rintro⟨a,b,c⟩
  exact S7.2 ⟨u.bB,a,S7.2 ⟨u.aA,b,Tm.2 ⟨u.bK,c,rfl⟩⟩⟩
theorem aiH{l:List Nat}{i:Nat}(h:i<l.length):l.getD i 0∈l:=by
 rw[SE,SP h];exact VQ h
theorem LF{x:ak}(hx:x.Ok){u:Tr}:u∈bG x<->Nk x u:=by
 rw[aq5,ajO hx];constructor
 ·rintro⟨⟨h1,h2⟩,h3,h4⟩
  have hm:=h1.mono;rw[F4 hm]at h3;rw[Ge]at h4;simp only[UP,Wr]at h3 h4;obtain⟨a1,_,a3⟩:=h3;obtain⟨b1,_,b3⟩:=h4;refine⟨h1,h2,a1,λp y hy=>(a3 p y hy).1,aaB (d:=0) λi hi=> ?_,b1,λv hv=> ?_,λs y hy=>(b3 s y hy).1,aaB (d:=0) λi hi=> ?_⟩
  ·obtain⟨y,hy⟩:∃y,x.pieces[i]?=some y:=⟨_,SP (by omega)⟩;exact(a3 i y hy).2
  ·obtain⟨i,hi⟩:=VF hv;have bt:=(SN.1 hi).1;obtain⟨y,hy⟩:∃y,x.aB[i]?=some y:=⟨_,SP (by omega)⟩;have:=(b3 i y hy).2.1;rw[SE,hi]at this;rw[<- a1];exact this
  ·obtain⟨y,hy⟩:∃y,x.aB[i]?=some y:=⟨_,SP (by omega)⟩;exact(b3 i y hy).2.2
 ·intro h;refine⟨⟨h.bB,h.seen⟩,?_,?_⟩
  ·rw[F4 h.bB.mono];simp only[UP,Wr];refine⟨h.xC,rfl,λi y hy=>⟨h.piece i y hy,PG ?_ h.LO⟩⟩;have:=(SN.1 hy).1;rw[h.xC];exact this
  ·rw[Ge];simp only[UP,Wr];refine⟨h.vR,rfl,λi y hy=> ?_⟩;have hi:=(SN.1 hy).1;have tO:i<u.bK.length:=(by rw[h.vR];exact hi);exact⟨h.stub i y hy,by rw[h.xC];exact h.own _ (aiH tO),PG tO h.Gd⟩
end Tk
open Go.Gg.Tk
theorem alv{first an:Int}{l:List Int}{i:Nat}(h:mB first an l i):l.getLastD 0=l.getD i 0:=by
 have hl:=h.len;rw[Vh,Yf,SE,hl];rfl
theorem ajF{first an:Int}{l:List Int}{i:Nat}(h:mB first an l i):l.headD 0=first:=by
 have hl:=h.len;have:=h.head;cases l with
 |nil=>cases hl
 |cons a l=>exact this
theorem mB.top{first an:Int}{l:List Int}{i:Nat}(h:mB first an l i)(hf:0<=first/\first<=90)(hp:1<=an/\an<=3)(hi:i<=3):∀j,j<=i->first<=l.getD j 0/\l.getD j 0<=first+9:=λj hj=>by
 have h1:=h.ge (by omega) j hj;have:an* (j:Int)<=3* 3:=Yh (by omega) (by omega) (by omega) (by omega);generalize an* (j:Int)=q at h1 this;omega
theorem ai2{first an:Int}{l:List Int}{i:Nat}(h:mB first an l i)(hi:1<=i/\i<=3)(hf:0<=first/\first<=90)(hp:1<=an/\an<=3){n:Int}(hn:first<=n/\n<l.getD i 0)(τ:bm):Dm l i n (kW τ l n i):=by
 have hl:=h.len;have hm:=h.mono;have ht:=h.top hf hp hi.2 i (SQ _);have hk:=aqS (n:=n) (by omega) (by omega) hm;have h0:0<=iW l n:=(acH hm).2 (by rw[ajF h,alv h];exact hn);have h1:=acG l 0 h0;have IY:iW l n+1<l.length:=by have:fg 0 l n=iW l n:=rfl;omega
 have a1:=DE (τ:=τ) (n:=n) (m:=2) (lo:=0) (hi:=99) (by omega) (by omega);have a2:=DE (τ:=tick (tick τ)) (n:=iW l n) (m:=1) (lo:=0) (hi:=(i:Int)-1) (by omega) (by omega);refine⟨a1.1,?_,?_⟩
 ·unfold kW;rw[hk];exact a2.1
 ·unfold Tk.fits kW;rw[hk,Th,Th,decide_eq_true_eq];exact⟨⟨h0,a1.2⟩,a2.2⟩
variable {pm:Nat}{x:ak}{bB aA bK:List Int}
theorem Made.Qf(h:Made pm x bB aA bK){n:Int}(hn:n∈aA)(τ:bm):Dm bB x.hours n (kW τ bB n x.hours):=by
 have hh:=h.hours;have:=ai2 h.EL (by omega) h.first h.an (h.num n hn) τ;rw[Int.toNat_of_nonneg (by omega)]at this;exact this
theorem IV{l:List Int}{i:Nat}(h:i<l.length):l.getD i 0∈l:=by
 rw[SE,SP h];exact VQ h
theorem Made.NJ(h:Made pm x bB aA bK){p:Nat}{y:aG}(hy:x.pieces[p]?=some y):Dm bB x.hours (aA.getD p 0) y:=by
 obtain⟨τ,rfl⟩:=h.piece p y hy;exact h.Qf (IV (by rw[h.xC];exact(SN.1 hy).1)) τ
theorem Made.NK(h:Made pm x bB aA bK){s:Nat}{y:aG}(hy:x.aB[s]?=some y):Dm bB x.hours (aA.getD (bK.getD s 0).toNat 0) y:=by
 obtain⟨τ,rfl⟩:=h.stub s y hy;have hs:s<bK.length:=by rw[h.vR];exact(SN.1 hy).1
 have:=h.own _ (IV hs);exact h.Qf (IV (by omega)) τ
theorem Made.ok(h:Made pm x bB aA bK)(su:pm<=4):x.Ok:=by
 have hh:=h.hours;refine⟨h.first,h.hours,h.an,by have:=h.zS;omega,by have:=h.amD;omega,h.aB,λs hs=> ?_,λy hy=> ?_,λy hy=> ?_⟩
 ·obtain⟨h1,h2,τ,h3⟩:=h.seen s hs;have ht:=h.EL.top h.first h.an (by omega) s.hour.toNat (by omega);have hf:=h.first;rw[h3];exact⟨⟨h1,h2⟩,(DE (by omega) (by omega)).1⟩
 ·obtain⟨p,hp⟩:=VF hy;have:=h.NJ hp;exact⟨this.num,this.hour⟩
 ·obtain⟨p,hp⟩:=VF hy;have:=h.NK hp;exact⟨this.num,this.hour⟩
def abm (bB aA bK:List Int):Tr:=⟨bB,aA,bK.map Ya⟩
theorem Made.aq0(h:Made pm x bB aA bK):Nk x (abm bB aA bK):=by
 have hh:=h.hours;have oH:∀s,s<bK.length->(bK.map Ya).getD s 0=(bK.getD s 0).toNat:=λs hs=>by
  rw[SE,SE,To,SP hs];rfl
 refine⟨h.EL,λs hs=> ?_,h.xC,λp y hy=>(h.NJ hy).fits,h.LO,by show (bK.map Ya).length=_;rw[Tn];exact h.vR,λv hv=> ?_,λs y hy=> ?_,?_⟩
 ·obtain⟨h1,h2,τ,h3⟩:=h.seen s hs;have ht:=h.EL.top h.first h.an (by omega) s.hour.toNat (by omega);have hf:=h.first;rw[h3];exact(DE (by show _<=bB.getD _ _/\_;omega) (by omega)).2
 ·obtain⟨w,hw,rfl⟩:=Tm.1 hv;have:=h.own w hw;have:=h.xC;omega
 ·have hs:s<bK.length:=by rw[h.vR];exact(SN.1 hy).1
  show Tk.fits bB y (aA.getD ((bK.map Ya).getD s 0) 0)=true;rw[oH s hs];exact(h.NK hy).fits
 ·show (bK.map Ya).Nodup;rw[TY,WI];refine Xw ?_ (TY.1 h.Gd);intro a c ha hc aC e;have h1:=h.own a ha;have h2:=h.own c hc;omega
theorem Made.mem(h:Made pm x bB aA bK)(su:pm<=4):abm bB aA bK∈bG x:=(LF (h.ok su)).2 h.aq0
theorem Made.ne(h:Made pm x bB aA bK)(su:pm<=4):bG x≠[]:=λe=>by
 have:=h.mem su;rw[e]at this;cases this
theorem aqz(x:ak)(deep:Int)(Q:Kn)(t:List Int):(ej x deep Q t).first=if Q.has=true then Q.first else t:=by
 have hB:(ju Q t).first=if Q.has=true then Q.first else t:=by unfold ju;split<;>rfl
 unfold ej;dsimp only;split
 ·exact hB
 ·split
  ·exact hB
  ·exact hB
theorem Px{x:ak}{deep:Int}:∀(ts:List (List Int))(Q:Kn),(ts.foldl (ej x deep) Q).first=if Q.has=true then Q.first else(match ts with|[]=>Q.first|t::_=>t)
 |[],Q=>by simp
 |t::ts,Q=>by
  rw[UW,Px ts,acx,if_pos rfl,aqz]
theorem arq{x:ak}{deep:Int}{j:Nat}{t:List Int}{l:List (List Int)}(h:eG x deep j=t::l):(gq x deep j).first=t:=by
 rw[GU,Px,h];rfl
theorem ak8{Q G:Kn}{hs:List (List Int)}(h:G.has=true):(gE Q hs G).first=if Q.has=false\/rO G.first Q.first=true then G.first else Q.first:=by
 unfold gE;rw[if_pos h]
theorem anm{h:List Int}{a b:Int}(hl:h.take 2=[a,b]):(cH h).take 4=a::b::((cH h).drop 2).take 2:=by
 match h,hl with
 |c::d::l,hl=>
  simp only[VU,ak',YT,and_true]at hl;obtain⟨rfl,rfl⟩:=hl;simp[cH]
theorem PM{x:ak}{deep:Int}{j:Nat}(hx:x.Ok)(hj:j<x.an.toNat+1){t:List Int}(ht:t∈eG x deep j):∃l,t.take 4=x.first::(x.first+(j:Int))::l:=by
 rw[Ed hx hj]at ht;obtain⟨u,hu,rfl⟩:=Tm.1 ht;obtain⟨h,hm,hu⟩:=S7.1 hu;have hL:=QL hx hj hm;have lj:=xP (C0 hu);have h2:h.take 2=[x.first,x.first+(j:Int)]:=by
  unfold vw at hm;split at hm
  ·exact EK _ _ _ hm
  ·cases hm
 have e:(ep u).take 4=(cH h).take 4:=by
  unfold ep dp;rw[lj,SD,TA (by rw[xF hL.hi];omega)]
 rw[e,anm h2];exact⟨_,rfl⟩
theorem aiM{x:ak}{deep:Int}{i j:Nat}(hx:x.Ok)(hi:i<x.an.toNat+1)(hj:j<x.an.toNat+1)(jP:i≠j){t u:List Int}(ht:t∈eG x deep i)(hu:u∈eG x deep j):rO t u=decide (i<j):=by
 obtain⟨l,h1⟩:=PM hx hi ht;obtain⟨m,h2⟩:=PM hx hj hu;have aC:t.take 4≠u.take 4:=by
  rw[h1,h2];simp only[ne_eq,YT,true_and,not_and];intro h;omega
 unfold rO;rw[if_neg aC,h1,h2];by_cases h:i<j
 ·have e1:me (x.first+(i:Int)) (x.first+(j:Int))= -1:=by unfold me;rw[if_pos (by omega)]
  have e0:me x.first x.first=0:=by unfold me;simp
  simp[nC,e0,e1,h]
 ·have e1:me (x.first+(i:Int)) (x.first+(j:Int))=1:=by unfold me;rw[if_neg (by omega),if_pos (by omega)]
  have e0:me x.first x.first=0:=by unfold me;simp
  simp[nC,e0,e1,h]
theorem Sd{x:ak}{deep:Int}{js:List Nat}{D:Kn}(hx:x.Ok)(hJ:nv x deep js D)(hn:js.Nodup)(hj:∀j∈js,j<x.an.toNat+1)(hh:D.has=true):∃j∈js,∃t l,eG x deep j=t::l/\D.first=t/\∀i∈js,eG x deep i≠[]->j<=i:=by
 induction hJ with
 |nil=>cases hh
 |@snoc js Q j hs hJ hp ih=>
  have j4:js.Nodup:=(U4.1 hn).1;have oD:j∉js:=λh=>(U4.1 hn).2.2 j h j (by simp) rfl;have R5:=ih j4 (λi hi=>hj i (by simp[hi]));by_cases hG:eG x deep j=[]
  ·have hg:(gq x deep j).has=false:=(by rw[C6,hG];rfl);have hD:gE Q hs (gq x deep j)=Q:=(by unfold gE;rw[hg];rfl);rw[hD]at hh⊢;obtain⟨i,h1,t,l,h2,h3,h4⟩:=R5 hh;refine⟨i,by simp[h1],t,l,h2,h3,λk hk aC=> ?_⟩;rcases SS.1 hk with hk|hk
   ·exact h4 k hk aC
   ·rw[S5]at hk;subst hk;exact absurd hG aC
  ·obtain⟨t,l,ht⟩:∃t l,eG x deep j=t::l:=by
    cases hg:eG x deep j with
    |nil=>exact absurd hg hG
    |cons t l=>exact⟨t,l,rfl⟩
   have hg:(gq x deep j).has=true:=(by rw[C6,ht];rfl);rw[ak8 hg,arq ht];by_cases hQ:Q.has=true
   ·obtain⟨i,h1,t',l',h2,h3,h4⟩:=R5 hQ;have hb:rO t Q.first=decide (j<i):=by
     rw[h3];exact aiM hx (hj j (by simp)) (hj i (by simp[h1])) (λe=>oD (e▸h1)) (by rw[ht];simp) (by rw[h2];simp)
    by_cases jP:j<i
    ·rw[if_pos (.inr (by rw[hb];simpa using jP))];refine⟨j,by simp,t,l,ht,rfl,λk hk aC=> ?_⟩;rcases SS.1 hk with hk|hk
     ·have:=h4 k hk aC;omega
     ·rw[S5]at hk;omega
    ·rw[if_neg (by rw[hQ,hb];simpa using jP)];refine⟨i,by simp[h1],t',l',h2,h3,λk hk aC=> ?_⟩;rcases SS.1 hk with hk|hk
     ·exact h4 k hk aC
     ·rw[S5]at hk;omega
   ·rw[if_pos (.inl (by simpa using hQ))];refine⟨j,by simp,t,l,ht,rfl,λk hk aC=> ?_⟩;rcases SS.1 hk with hk|hk
    ·have hQf:Q.has=js.any λj=> !(eG x deep j).isEmpty:=Se hJ;exfalso;apply hQ;rw[hQf,UK];refine⟨k,hk,?_⟩;cases hg:eG x deep k with
     |nil=>exact absurd hg aC
     |cons=>rfl
    ·rw[S5]at hk;omega
theorem Qz{α:Type}{f:Nat->List α}{j:Nat}{t:α}{l:List α}:∀{n:Nat},j<n->f j=t::l->(∀i,i<j->f i=[])->((SV n).flatMap f).head?=some t
 |0,h,_,_=>absurd h (by omega)
 |n+1,h,hf,h0=>by
  rw[Vk,VR,WN];by_cases hj:j<n
  ·rw[Qz hj hf h0];rfl
  ·have e:j=n:=(by omega);subst e;have:(SV j).flatMap f=[]:=by
    rw[WQ];intro i hi;exact h0 i (TE.1 hi)
   rw[this];simp[hf]
theorem Jw{α β:Type}{f g:α->List β}:∀(l:List α),(∀a,(f a).head?=(g a).head?)->(l.flatMap f).head?=(l.flatMap g).head?
 |[],_=>rfl
 |a::l,h=>by
  rw[Uo,Uo,WN,WN,h a,Jw l h]
theorem acw{α:Type}(l:List α):(l.take 1).head?=l.head?:=by cases l<;>rfl
theorem aea{x:ak}{deep:Int}:(oi x deep).head?=(bG x).head?:=by
 refine Jw _ λh=> ?_;have h1:(uy x h).head?=(n5 x h).head?:=Jw _ λns=>acw _;unfold rq;split
 ·rw[acw,h1]
 ·split
  ·exact h1
  ·rfl
theorem alh{x:ak}{deep:Int}{D:Kn}(hx:x.Ok)(h:fy x deep D)(hh:D.has=true):∃u l,bG x=u::l/\D.first=ep u:=by
 obtain⟨p,js,h1,h2,h3,_⟩:=h;have lN:x.an.toNat=p:=by omega
 have hj:∀j∈js,j<x.an.toNat+1:=λj hj=>by rw[lN];exact TE.1 (h2.mem_iff.1 hj)
 obtain⟨j,a,t,l,b,c,d⟩:=Sd hx h3 (h2.nodup_iff.2 WW) hj hh;have hd:((SV (p+1)).flatMap λj=>eG x deep j).head?=some t:=by
  refine Qz (TE.1 (h2.mem_iff.1 a)) b λi hi=> ?_;cases hg:eG x deep i with
  |nil=>rfl
  |cons v w=>
   have:=d i (h2.mem_iff.2 (TE.2 (by have:=hj j a;omega))) (by rw[hg];simp);omega
 have he:((SV (p+1)).flatMap λj=>eG x deep j)=(oi x deep).map ep:=by
  unfold oi;rw[<- acX hx,lN,Vs];exact yw λi hi=>Ed hx (by rw[lN];exact TE.1 hi)
 rw[he,List.head?_map,aea]at hd;cases ht:bG x with
 |nil=>rw[ht]at hd;cases hd
 |cons u l=>
  rw[ht]at hd;simp only[X0,UM,Tl]at hd;exact⟨u,l,rfl,by rw[c,hd]⟩
namespace Tk
def live (x:ak):List (List Int):=(aK x).filter λh=> !(n5 x h).isEmpty
def cnt (x:ak):Int:=(live x).length
theorem FQ{x:ak}{h:List Int}:h∈live x<->∃u∈bG x,u.bB=h:=by
 unfold live;rw[Ul];constructor
 ·rintro⟨h1,h2⟩
  cases ht:n5 x h with
  |nil=>rw[ht]at h2;cases h2
  |cons u l=>
   have hu:u∈n5 x h:=(by rw[ht];simp);exact⟨u,S7.2 ⟨h,h1,hu⟩,xP hu⟩
 ·rintro⟨u,hu,rfl⟩
  obtain⟨h,a,b⟩:=S7.1 hu;have e:=xP b;subst e;refine⟨a,?_⟩;cases ht:n5 x u.bB with
  |nil=>rw[ht]at b;cases b
  |cons=>rfl
theorem JS{x:ak}{h:List Int}(hm:h∈aK x):h.length=1+x.hours.toNat:=(yY _ _ _ (by simp) hm).1
theorem LX{h:List Int}{n:Nat}(hl:h.length=n):(cH h).take n=h:=by
 subst hl;unfold cH;rw[TA (SQ _),TH]
theorem al4(x:ak):((live x).map cH).Nodup:=by
 have h:(live x).Nodup:=(ajQ x).filter _;rw[TY,WI];have h2:=TY.1 h;refine Xw ?_ h2;intro a b ha hb aC e;have la:=JS ((Ul.1 ha).1);have lb:=JS ((Ul.1 hb).1);apply aC;rw[<- LX la,e,LX lb]
end Tk
theorem Ip{x:ak}(hx:x.Ok){u:Tr}(hu:u∈bG x):(ep u).take 4=cH u.bB:=by
 have hl:=(v4 hx hu).1;have hh:=hx.hours;unfold ep dp;rw[SD,TA (by rw[xF (by omega)];omega),SX (by rw[xF (by omega)];omega)]
theorem Sk{x:ak}{D:Kn}(hx:x.Ok)(h:fy x 0 D):D.aK.Perm ((live x).map cH):=by
 have hn:D.aK.Nodup:=by obtain⟨p,js,h1,h2,h3,_⟩:=h;exact alc h3
 refine(List.perm_ext_iff_of_nodup hn (al4 x)).2 λg=> ?_;rw[ali hx h,Tm];constructor
 ·rintro⟨u,hu,rfl⟩
  exact⟨u.bB,FQ.2 ⟨u,hu,rfl⟩,(Ip hx hu).symm⟩
 ·rintro⟨h,hm,rfl⟩
  obtain⟨u,hu,rfl⟩:=FQ.1 hm;exact⟨u,hu,(Ip hx hu).symm⟩
theorem xp{x:ak}{deep:Int}{D:Kn}(hx:x.Ok)(h:fy x deep D):D.has=false<->bG x=[]:=by
 rw[FH hx h];cases bG x<;>simp
theorem aae{x:ak}:live x=[]<->bG x=[]:=by
 constructor
 ·intro h;cases ht:bG x with
  |nil=>rfl
  |cons u l=>
   have:u.bB∈live x:=FQ.2 ⟨u,by rw[ht];simp,rfl⟩;rw[h]at this;cases this
 ·intro h;cases hl:live x with
  |nil=>rfl
  |cons a l=>
   obtain⟨u,hu,_⟩:=FQ.1 (show a∈live x by rw[hl];simp);rw[h]at hu;cases hu
theorem count_eq{x:ak}{D:Kn}(hx:x.Ok)(h:fy x 0 D):(if D.has then(D.aK.length:Int)else 0)=cnt x:=by
 cases hD:D.has with
 |true=>rw[if_pos rfl,(Sk hx h).length_eq,Tn];rfl
 |false=>
  have:=aae.2 ((xp hx h).1 hD);simp[cnt,this]
theorem amy(a b:Int):min a b=a\/min a b=b:=by omega
theorem amt(a b:Int):max a b=a\/max a b=b:=by omega
theorem N4(v:List Int->Int):∀(hs:List (List Int))(b:gI),b.is=true->(hs.foldl (λb h=>b.add (v h)) b).is=true/\((hs.foldl (λb h=>b.add (v h)) b).lo=b.lo\/∃h∈hs,(hs.foldl (λb h=>b.add (v h)) b).lo=v h)/\(hs.foldl (λb h=>b.add (v h)) b).lo<=b.lo/\(∀h∈hs,(hs.foldl (λb h=>b.add (v h)) b).lo<=v h)/\((hs.foldl (λb h=>b.add (v h)) b).hi=b.hi\/∃h∈hs,(hs.foldl (λb h=>b.add (v h)) b).hi=v h)/\b.hi<=(hs.foldl (λb h=>b.add (v h)) b).hi/\∀h∈hs,v h<=(hs.foldl (λb h=>b.add (v h)) b).hi
 |[],b,hb=>⟨hb,.inl rfl,X2 _,by simp,.inl rfl,X2 _,by simp⟩
 |g::hs,b,hb=>by
  have du:b.add (v g)=⟨min b.lo (v g),max b.hi (v g),true⟩:=by unfold gI.add;rw[if_pos hb]
  obtain⟨h1,h2,h3,h4,h5,h6,h7⟩:=N4 v hs (b.add (v g)) (by rw[du]);rw[UW];generalize hs.foldl (λb h=>b.add (v h)) (b.add (v g))=R at*;rw[du]at h2 h3 h5 h6;dsimp only at h2 h3 h5 h6;have m1:min b.lo (v g)=b.lo\/min b.lo (v g)=v g:=amy _ _;have m2:max b.hi (v g)=b.hi\/max b.hi (v g)=v g:=amt _ _;refine⟨h1,?_,XH h3 (Int.min_le_left _ _),?_,?_,XH (Int.le_max_left _ _) h6,?_⟩
  ·rcases h2 with h2|⟨h,a,c⟩
   ·rcases m1 with m1|m1
    ·exact .inl (h2.trans m1)
    ·exact .inr ⟨g,by simp,h2.trans m1⟩
   ·exact .inr ⟨h,by simp[a],c⟩
  ·intro h hm;rcases SL.1 hm with rfl|hm
   ·exact XH h3 (Int.min_le_right _ _)
   ·exact h4 h hm
  ·rcases h5 with h2|⟨h,a,c⟩
   ·rcases m2 with m1|m1
    ·exact .inl (h2.trans m1)
    ·exact .inr ⟨g,by simp,h2.trans m1⟩
   ·exact .inr ⟨h,by simp[a],c⟩
  ·intro h hm;rcases SL.1 hm with rfl|hm
   ·exact XH (Int.le_max_right _ _) h6
   ·exact h7 h hm
namespace Tk
structure Bounds (hs:List (List Int))(v:List Int->Int)(lo hi:Int):Prop where
 FF:∃h∈hs,lo=v h
 le:∀h∈hs,lo<=v h
 FE:∃h∈hs,hi=v h
 ge:∀h∈hs,v h<=hi
theorem Bounds.uniq{hs:List (List Int)}{v:List Int->Int}{a b c d:Int}(h:Bounds hs v a b)(k:Bounds hs v c d):a=c/\b=d:=by
 obtain⟨g1,m1,e1⟩:=h.FF;obtain⟨g2,m2,e2⟩:=h.FE;obtain⟨g3,m3,e3⟩:=k.FF;obtain⟨g4,m4,e4⟩:=k.FE;have:=h.le _ m3;have:=h.ge _ m4;have:=k.le _ m1;have:=k.ge _ m2;omega
theorem Bounds.am4{hs gs:List (List Int)}{v:List Int->Int}{a b:Int}(h:Bounds hs v a b)(hp:hs.Perm gs):Bounds gs v a b:=by
 obtain⟨g1,m1,e1⟩:=h.FF;obtain⟨g2,m2,e2⟩:=h.FE;exact⟨⟨g1,hp.mem_iff.1 m1,e1⟩,λg hg=>h.le g (hp.mem_iff.2 hg),⟨g2,hp.mem_iff.1 m2,e2⟩,λg hg=>h.ge g (hp.mem_iff.2 hg)⟩
end Tk
theorem afv{hs:List (List Int)}(v:List Int->Int)(aC:hs≠[]):Bounds hs v (hs.foldl (λ(b:gI) h=>b.add (v h)) (⟨0,0,false⟩:gI)).lo (hs.foldl (λ(b:gI) h=>b.add (v h)) (⟨0,0,false⟩:gI)).hi:=by
 cases hs with
 |nil=>exact absurd rfl aC
 |cons g hs=>
  rw[UW,show gI.add ⟨0,0,false⟩ (v g)=⟨v g,v g,true⟩from rfl];obtain⟨_,h2,h3,h4,h5,h6,h7⟩:=N4 v hs ⟨v g,v g,true⟩ rfl;generalize hs.foldl (λ(b:gI) h=>b.add (v h)) (⟨v g,v g,true⟩:gI)=R at*;dsimp only at h2 h3 h5 h6;refine⟨?_,?_,?_,?_⟩
  ·rcases h2 with h2|⟨h,a,c⟩
   ·exact⟨g,by simp,h2⟩
   ·exact⟨h,by simp[a],c⟩
  ·intro h hm;rcases SL.1 hm with rfl|hm
   ·exact h3
   ·exact h4 h hm
  ·rcases h5 with h2|⟨h,a,c⟩
   ·exact⟨g,by simp,h2⟩
   ·exact⟨h,by simp[a],c⟩
  ·intro h hm;rcases SL.1 hm with rfl|hm
   ·exact h6
   ·exact h7 h hm
open Go.Gg.Tk
theorem aaX{h ns:List Int}:∀{ss:List aG}{t os:List Nat},os∈oT h ns ss t->(∀p∈t,p<ns.length)->os.length=t.length+ss.length/\∀p∈os,p<ns.length
 |[],t,os,hm,ht=>by
  simp only[oT,S5]at hm;subst hm;exact⟨rfl,ht⟩
 |s::ss,t,os,hm,ht=>by
  simp only[oT,S7,Ul,TE]at hm;obtain⟨p,⟨hp,_⟩,hm⟩:=hm;have:=aaX hm λq hq=>by
   rcases SS.1 hq with hq|hq
   ·exact ht q hq
   ·rw[S5.1 hq];exact hp
  refine⟨?_,this.2⟩;rw[this.1];simp;omega
theorem GK{x:ak}(hx:x.Ok){u:Tr}(hu:u∈bG x):u.bK.length=x.aB.length/\∀p∈u.bK,p<x.pieces.length:=by
 have h2:=(v4 hx hu).2;obtain⟨h,a,b⟩:=S7.1 hu;obtain⟨ns,c,d⟩:=S7.1 b;obtain⟨os,e,rfl⟩:=Tm.1 d;have:=aaX e (by simp);dsimp only at h2⊢;rw[<- h2];exact⟨by simpa using this.1,this.2⟩
theorem agw{x:ak}(hx:x.Ok){u:Tr}(hu:u∈bG x){s:Nat}(hs:s<x.aB.length):rk (ep u) s=u.bK.getD s 0:=by
 obtain⟨h1,h2⟩:=v4 hx hu;have h3:=(GK hx hu).1;have hh:=hx.hours;have m9:=hx.cZ;have h4:=xF (h:=u.bB) (by omega);have dG:s<u.bK.length:=by omega
 have hg:(ep u)[8+s]?=some ((u.bK[s]:Nat):Int):=by
  unfold ep dp kL;have h8:(cH u.bB++((u.aA.map λn=>(n-u.bB.headD 0).toNat).map (λn:Nat=>(n:Int))++TM (4-(u.aA.map λn=>(n-u.bB.headD 0).toNat).length) (-1))).length=8:=by simp[h4];omega
  rw[Tj (by omega),h8,U7,SZ (by simpa using dG),To,SP dG];rfl
 unfold rk;rw[SE,hg,SE,SP dG];rfl
namespace Tk
def DC (x:ak)(f:Tr->Bool):Bool:=(bG x).any f
theorem s9{x:ak}{f:Tr->Bool}:DC x f=true<->∃u∈bG x,f u=true:=UK
def jH (f:Nat->Bool)(more:Int)(i:Nat):List Int:=((SV i).filter f).map λn:Nat=>(n:Int)+more
def CC (x:ak)(p n:Nat):Bool:=DC x λu=>decide ((u.aA.getD p 0-u.bB.headD 0).toNat=n)
def iB (x:ak)(s q:Nat):Bool:=DC x λu=>decide (u.bK.getD s 0=q)
def rc (x:ak)(s q:Nat):Bool:=DC x λu=> !decide (u.bK.getD s 0=q)
theorem aab{s:Nat}{f:Nat->Bool}{more:Int}{i:Nat}(h:∀n,n<i->s.testBit n=f n):fq s more i=jH f more i:=by
 unfold fq jH;congr 1;exact Vj λn hn=>h n (TE.1 hn)
end Tk
theorem amS{x:ak}{D:Kn}{p:Nat}(hx:x.Ok)(hD:fy x 1 D)(hp:p<x.pieces.length)(n:Nat):(D.aA.getD p 0).testBit n=CC x p n:=by
 rw[U6,alj hx hD hp];unfold CC;rw[s9];simp only[decide_eq_true_eq]
theorem LY{x:ak}{D:Kn}{s:Nat}(hx:x.Ok)(hD:fy x 2 D)(hs:s<x.aB.length)(n:Nat):(D.aS.getD s 0).testBit n=iB x s n:=by
 rw[U6,alk hx hD hs];unfold iB;rw[s9];refine exists_congr λu=>and_congr_right λhu=> ?_;rw[agw hx hu hs,decide_eq_true_eq]
theorem anp{x:ak}{D:Kn}{s q:Nat}(hx:x.Ok)(hD:fy x 2 D)(hs:s<x.aB.length)(hh:D.has=true):(D.aS.getD s 0!=2^q)=rc x s q:=by
 have hb:=LY hx hD hs;rw[U6,bne_iff_ne];unfold rc;rw[s9];constructor
 ·intro aC;obtain⟨u,hu⟩:∃u,u∈bG x:=by
   rw[FH hx hD]at hh;cases ht:bG x with
   |nil=>rw[ht]at hh;cases hh
   |cons u l=>exact⟨u,by simp⟩
  by_cases RM:u.bK.getD s 0=q
  ·refine Tu λfH=>aC ?_;apply Nat.eq_of_testBit_eq;intro n;rw[hb,VO,U6,decide_eq_true_eq];unfold iB;rw[s9];constructor
   ·rintro⟨v,hv,e⟩
    rw[decide_eq_true_eq]at e;refine Tu λE_=>fH ⟨v,hv,?_⟩;rw[e];simp;exactλh=>E_ h.symm
   ·rintro rfl
    exact⟨u,hu,by rw[decide_eq_true_eq];exact RM⟩
  ·exact⟨u,hu,by simpa using RM⟩
 ·rintro⟨u,hu,h⟩ he
  have hp:iB x s (u.bK.getD s 0)=true:=by
   unfold iB;rw[s9];exact⟨u,hu,by simp⟩
  rw[<- hb,he,VO,decide_eq_true_eq]at hp;rw[hp]at h;simp at h
theorem ano{x:ak}{D:Kn}{s q:Nat}(hx:x.Ok)(hD:fy x 2 D)(hs:s<x.aB.length):(if D.has then vM ((D.aS.getD s 0).testBit q) (D.aS.getD s 0!=2^q)else 0)=if(bG x).isEmpty then 0 else vM (iB x s q) (rc x s q):=by
 have hh:=FH hx hD;cases I4:D.has with
 |true=>
  rw[I4]at hh;have:(bG x).isEmpty=false:=by simpa using hh.symm
  rw[this,if_pos rfl,LY hx hD hs,anp hx hD hs I4];rfl
 |false=>
  rw[I4]at hh;have:(bG x).isEmpty=true:=by simpa using hh.symm
  rw[this];rfl
theorem ae9{x:ak}{deep:Int}{D:Kn}(hx:x.Ok)(hD:fy x deep D):eS D=if(bG x).isEmpty then 11 else 0:=by
 have hh:=FH hx hD;unfold eS;rw[hh];cases (bG x).isEmpty<;>rfl
open Go.Conc Go.Proofs Go.Gg.Tk
theorem acU{l:List AV}{a b:AV}(h:Wk a b):rJ (l++[a]) (l++[b]):=by
 induction l with
 |nil=>exact .cons h .nil
 |cons x l ih=>exact .cons (Wk.refl _) ih
theorem aak(n m k:Nat)(bs:List (List Int)):Lt n (.sl m (bs.map bp) (.opn k))=(k<n):=by
 rw[aml,eq_iff_iff];refine⟨λh=>h.1,λh=>⟨h,λa ha=> ?_⟩⟩;have:=aam n bs;rw[x_,un]at this;exact this.mpr trivial a ha
theorem Ni:gr (Us none 0 0) 1=[.sl 0 [] .exact]:=rfl
theorem Ri{H:List aa}(hH:bM H)(n sz:Nat)(el:TypeId):bM (H++[.tail n sz el]):=Rg hH λz hz m=>by rw[S5.1 hz];trivial
section
variable {lv:Bool}
end
namespace Tk
def iz (l:List Int):Nat:=if l.length=0 then 0 else(l.getD (l.length-1) 0).toNat+1
def ng (n:Nat)(l:List Int)(j:Nat):List (List Int):=(SV j).map λj:Nat=>l++[((iz l+j:Nat):Int)]
def nj (n:Nat):Nat->List (List Int)
 |0=>[[]]
 |i+1=>nj n i++ng n ((nj n i).getD i []) (n-iz ((nj n i).getD i []))
def vL (n:Nat):List (List Int):=nj n (2^n)
theorem alp(n:Nat)(l:List Int)(j:Nat):ng n l (j+1)=ng n l j++[l++[((iz l+j:Nat):Int)]]:=by
 unfold ng;rw[Vk,TF];rfl
theorem anh:∀n,n<4->(∀i,i<2^n->i<(nj n i).length/\(∀l∈nj n i,l.length<=3/\∀y∈l,0<=y/\y<n))/\(∀i,i<2^n+1->(nj n i).length<=8)/\(nj n (2^n)).length=2^n:=by decide+kernel
end Tk
section
variable {lv:Bool}{H:List aa}{k kp:AV->List aa->Prop}
theorem ahS{ns:List Int}{e:End}(hn:ns.length<=2^20)(h0:ns=[]->k (.sl 0 [] .exact) H)(hk:k (.sl ns.length (ns.map iv) (.opn H.length)) (H++[.tail ns.length 1 3])):ba lv SC 94 H [.sl ns.length (ns.map iv) e] k kp:=by
 refine bE (rs:=[.tmp 2]) (nt:=8) Tryz.f94 λhH hA=> ?_;simp only[bk,SW];refine ai ?_;refine ai ?_;intro b hb;refine aE ?_;refine⟨λh=> ?_,λh=> ?_⟩
 ·
  refine ai ?_;refine aX ?_;have:ns=[]:=by
   cases ns with
   |nil=>rfl
   |cons x xs=>rw[hb (by simp)]at h;cases h
  exact jy (H':=H) (G:=[]) (Wk.refl _) (by simp) (SQ _) hH (by simp[Lz]) (h0 this)
 ·
  refine aN ?_;refine ai ?_;refine⟨by omega,?_⟩;refine aX ?_;exact bS hk
theorem ahG{n:Nat}(hn:n<=3)(hk:k (x_ (vL n)) H):ba lv SC 70 H [iv n] k kp:=by
 refine bE (rs:=[.tmp 2]) (nt:=44) Tryz.f70 λhH hA=> ?_;simp only[bk,SW];obtain⟨kD,io,mj⟩:=anh n (by omega);refine ai ?_;refine aj ?_;simp only[seval,Ni,LW]
 (repeat apply gX);refine uP (t:=3) (sz:=1) (el:=22) (by simp only[seval]<;>rfl) ?_
 refine ai ?_;refine cF ?_;refine gA (2^n) (λi:Nat=>[(3,.sl (nj n i).length ((nj n i).map bp) (.opn H.length)),(4,iv i)]) (λi=>H++[.tail (nj n i).length 1 22]) (λi=>True) (λ_ _=>rfl) (by simp only[seval];simp[bN,Wk.refl];exact M1 (l:=[.sl 0 [] .exact]) (l':=[bp []]) rfl (rJ.cons (iY _ _ _) .nil).at) rfl (λ_ _ _=>by simp) trivial (λbT cW i b_ _ R hR=> ?_);clear bT cW;have bQ:i<2^n->SF.wrap ((i:Int)+1)=((i+1:Nat):Int):=λh=>by
  have:2^n<=2^3:=Xp (by omega) hn;rw[bC _ (by omega)];rfl
 refine ai ?_;refine aE ?_;refine⟨λh=> ?_,λh=> ?_⟩
 ·have bt:i<2^n:=by
   rcases YI i (2^n)with h'|h'
   ·exact h'
   ·have:i=2^n:=(by omega);subst this;rw[mj]at h;omega
  obtain⟨g1,g2⟩:=kD i bt;have g3:=io i (by omega);have bQ:=bQ bt;obtain⟨l,hl⟩:=cC g1;have RE:nj n (i+1)=nj n i++ng n l (n-iz l):=by
   rw[nj,SE,hl];rfl
  obtain⟨JY,hly⟩:=g2 l (uo hl);generalize nj n i=o at RE hl g1 g3 hR⊢;refine aN ?_;refine aj ?_;simp only[seval,abU hl,je g1];refine ai ?_;refine aj ?_;simp only[seval,bp];refine aE ?_;refine⟨λh=> ?p1,λh=> ?p2⟩
  case' p1=>
   have sj:0<l.length:=(by omega);obtain⟨y,hy⟩:=cC (xs:=l) (i:=l.length-1) (by omega);have hyb:=hly y (uo hy);have oE:iz l=y.toNat+1:=(by unfold iz;rw[if_neg (by omega),SE,hy];rfl);have gP:SF.wrap ((l.length:Int)-1)=((l.length-1:Nat):Int):=(by rw[bC _ (by omega)];omega);have t_:SF.wrap (y+1)=((iz l:Nat):Int):=(by rw[bC _ (by omega),oE];omega);have nK:(0<=((l.length-1:Nat):Int)/\((l.length-1:Nat):Int)<l.length)=True:=(by simp;omega);refine aj ?_;simp only[seval,gP,fZ hy,nK,t_];have Q0:iz l=iz l:=rfl
  case' p2=>
   have Q0:iz l=0:=(by unfold iz;rw[if_pos (by omega)]);refine aN ?_
  all_goals(
   refine ai ?_;refine cF ?_;refine gA (n-iz l) (λj:Nat=>[(3,.sl (o.length+j) ((o++ng n l j).map bp) (.opn H.length)),(7,iv (((iz l:Nat):Int)+j))]) (λj=>H++[.tail (o.length+j) 1 22]) (λi=>True) (λ_ _=>rfl) (by first|(simp only[seval];simp[bN,Wk.refl];done)|(simp only[seval,ng,Zz];simp[bN,Wk.refl,Q0])) (by simp) (λ_ _ _=>by simp) trivial (λbT cW j oD _ R2 tF=> ?_);clear bT cW;have QY:(n-iz l)<=3:=(by omega);refine ai ?_;refine aE ?_;refine⟨λh2=> ?_,λh2=> ?_⟩
   ·have eV:j<n-iz l:=(by omega);have cU:(o++ng n l (j+1)).map bp=(o++ng n l j).map bp++[bp (l++[((iz l:Nat):Int)+j])]:=(by rw[alp,<- SD,TF];rfl);have Rj:((o++ng n l j).map bp).length=o.length+j:=(by simp[ng]);have Ft:SF.wrap (((iz l:Nat):Int)+j+1)=((iz l:Nat):Int)+((j+1:Nat):Int):=(by rw[bC _ (by omega)];omega);refine aN ?_;refine ai ?_;refine aM ((ahS (ns:=l) (by omega) (λsj=> ?_) ?_))
    ·subst sj;try simp only[seval,z1,Ni,LW,Rj]
     first|refine⟨by decide,by omega,?_⟩|refine⟨by omega,?_⟩
     refine aj ?_;simp only[seval,Ft];refine tF _ ⟨eV,trivial,?_⟩;rw[cU];refine Ms [.tail 1 1 3] (pI rfl rfl) ?_ (Ri hH _ _ _) ?_ (by simp[WV])
     ·(try simp only[seval]);exact⟨⟨_,rfl,have h:=acU (l:=(o++ng n [] j).map bp) (show Wk (.sl 1 [iv (((iz []:Nat):Int)+j)] (.opn (H.length+1))) (bp ([]++[((iz []:Nat):Int)+j])) by exact iY _ _ _);M1 h.len h.at⟩,_,rfl,Wk.refl _⟩
     ·rw[<- cU];simp only[Xg,eE,aak,iv];simp
    ·(try simp only[seval,z1,Ni,LW,Rj]);refine⟨by omega,by omega,?_⟩;refine aj ?_;simp only[seval,Ft];refine tF _ ⟨eV,trivial,?_⟩;rw[cU];refine Ms [.tail (l.length+1) 1 3] (pI rfl rfl) ?_ (Ri hH _ _ _) ?_ (by simp[WV])
     ·(try simp only[seval]);exact⟨⟨_,rfl,have h:=acU (l:=(o++ng n l j).map bp) (show Wk (.sl (l.length+1) (l.map iv++[iv (((iz l:Nat):Int)+j)]) (.opn (H.length+1))) (bp (l++[((iz l:Nat):Int)+j])) by rw[bp,TF,S9];exact iY _ _ _);M1 h.len h.at⟩,_,rfl,Wk.refl _⟩
     ·rw[<- cU];simp only[Xg,eE,aak,iv];simp
   ·have xa:j=n-iz l:=(by omega);subst xa;refine b9 ?_;refine aj ?_;simp only[seval,bQ];refine hR _ ⟨bt,trivial,?_⟩;rw[RE];have BN:(o++ng n l (n-iz l)).length=o.length+(n-iz l):=(by simp[ng]);rw[BN];exact dn)
 ·have iw:i=2^n:=by
   rcases YI i (2^n)with h'|h'
   ·have:=(kD i h').1;omega
   ·omega
  subst iw;refine b9 ?_;refine ai ?_;refine aX ?_;exact jx (b:=x_ (vL n)) hH (iY _ _ _) (by rw[aam];trivial) hk
end
open Go.Conc Go.Proofs Go.Gg.Tk
theorem Pp{α:Type}{f:α->List AV}{s:Nat}(hf:∀a,(f a).length=s):∀(xs:List α)(n:Nat),(xs.flatMap f).take (n* s)=(xs.take n).flatMap f
 |[],n=>by simp
 |x::xs,0=>by simp
 |x::xs,n+1=>by
  rw[Uo,VU,Uo,List.take_append,SX (by rw[hf,XF];omega),hf,show (n+1)* s-s=n* s by rw[XF];omega,Pp hf xs n]
theorem Pm{α:Type}{f:α->List AV}{s:Nat}(hf:∀a,(f a).length=s):∀(xs:List α)(n:Nat),(xs.flatMap f).drop (n* s)=(xs.drop n).flatMap f
 |[],n=>by simp
 |x::xs,0=>by simp
 |x::xs,n+1=>by
  rw[Uo,List.drop_succ_cons,Vt,WX (by rw[hf,XF];omega),hf,show (n+1)* s-s=n* s by rw[XF];omega,Pm hf xs n,UD]
namespace Tk
def tu (ss:List aG)(ns:List Int):List aG:=ns.foldr (λn l=>l.eraseIdx n.toNat) ss
def ak.wo (x:ak)(ns:List Int):ak:={x with aB:=tu x.aB ns}
def sR (ns:List Int)(m:Nat):Prop:=∀(i:Nat) n,ns[i]?=some n->0<=n/\n+(ns.length-i:Nat)<=m
theorem sR.tail{n:Int}{ns:List Int}{m:Nat}(h:sR (n::ns) m):sR ns m:=λi k hk=>by
 have:=h (i+1) k hk;simp only[Uj]at this;exact⟨this.1,by omega⟩
theorem If{ss:List aG}:∀{ns:List Int},sR ns ss.length->(tu ss ns).length+ns.length=ss.length
 |[],_=>rfl
 |n::ns,h=>by
  have h1:=If h.tail;have h2:=h 0 n rfl;have e:tu ss (n::ns)=(tu ss ns).eraseIdx n.toNat:=rfl;simp only[Uj]at h2⊢;rw[e,X9 (by omega)];omega
end Tk
section
variable {lv:Bool}{H:List aa}{k kp:AV->List aa->Prop}
theorem O_{x:ak}{ns:List Int}{e:End}(aP:x.aB.length<=3)(iO:sR ns x.aB.length)(hk:k (x.wo ns).av H):ba lv SC 63 H [x.av,.sl ns.length (ns.map iv) e] k kp:=by
 have J7:ns.length<=3:=by have:=If iO;omega
 refine bE (rs:=[.cell 4 76]) (nt:=32) Tryz.f63 λhH hA=> ?_;simp only[bk,SW,ak.av];obtain⟨st,ld⟩:∃st:Nat->List aG,∀j,st j=tu x.aB (ns.drop (ns.length-j)):=⟨_,λ_=>rfl⟩;have kH:st 0=x.aB:=by rw[ld,ZY,List.drop_length];rfl
 have akO:st ns.length=tu x.aB ns:=by rw[ld,Vd,XA]
 obtain⟨xl,dA⟩:∃xl:List aG->List AV,∀ss,xl ss=[iv x.first,iv x.hours,iv x.an,dS x.seen,aZ x.pieces,aZ ss]:=⟨_,λ_=>rfl⟩;have sC:x.l=xl x.aB:=by rw[dA];rfl
 have qA:∀ss,(xl ss).drop 5=[.sl ss.length (ss.flatMap aG.l) .shut]:=λss=>by rw[dA];rfl
 have bh:∀(L:List aa),(H++L)[H.length]?=L[0]?:=λL=>a_ H L 0;have dE:∀(L:List aa)(y:aa),(H++L).set H.length y=H++L.set 0 y:=λL y=>dX H L 0 y;have di:∀(L:List aa),(H++L)[H.length+1]?=L[1]?:=λL=>a_ H L 1;have dF:∀(L:List aa)(y:aa),(H++L).set (H.length+1) y=H++L.set 1 y:=λL y=>dX H L 1 y;rw[sC];refine ai ?_;have qS:SF.wrap ((ns.length:Int)-1)=(ns.length:Int)-1:=bC _ (by omega);refine ai ?_;refine cF ?_;refine gA ns.length (λj:Nat=>[(5,iv ((ns.length:Int)-1-j))]) (λj=>H++[.cells (xl (st j)) 26,.cells pV 76]) (λi=>True) (λ_ _=>rfl) (by simp only[seval,qS];simp[bN,Wk.refl]) (by rw[kH];rfl) (λ_ _ _=>by simp) trivial (λbT cW j oD _ R hR=> ?_);clear cW;refine ai ?_;refine aE ?_;refine⟨λh=> ?_,λh=> ?_⟩
 ·have eV:j<ns.length:=by omega
  obtain⟨i,hi⟩:∃i:Nat,i=ns.length-1-j:=⟨_,rfl⟩;have QH:(ns.length:Int)-1-j=i:=by omega
  obtain⟨n,hn⟩:=cC (xs:=ns) (i:=i) (by omega);obtain⟨nS,tT⟩:=iO i n hn;obtain⟨n,rfl⟩:∃m:Nat,n=m:=⟨n.toNat,by omega⟩;have cU:st (j+1)=(st j).eraseIdx n:=by
   rw[ld,ld,show ns.length-(j+1)=i by omega,show ns.length-j=i+1 by omega];obtain⟨hlt,rfl'⟩:=SN.1 hn;rw[T8 hlt,rfl'];rfl
  have dG:(st j).length+j=x.aB.length:=by
   have hd:sR (ns.drop (ns.length-j)) x.aB.length:=λq m hq=>by
    rw[Um]at hq;have:=iO _ _ hq;rw[Uh];exact⟨this.1,by omega⟩
   have:=If hd;rw[<- ld,Uh]at this;omega
  have jB:n<(st j).length:=by omega
  generalize st j=ss at cU dG jB hR⊢;rw[QH];refine aN ?_;refine aj ?_;simp only[seval,fZ hn,je (show i<ns.length by omega)];have bQ:SF.wrap ((n:Int)+1)=((n+1:Nat):Int):=by rw[bC _ (by omega)];rfl
  have lJ:∀l:List aG,(l.flatMap aG.l).length=l.length* 4:=λl=>by
   induction l with
   |nil=>rfl
   |cons a l ih=>rw[Uo,S9,ih,aG.len,Uj];omega
  have lh:((n:Int)+1).toNat=n+1:=by omega
  have Kc:((n:Int)+1==0)=false:=by simp;omega
  have kD:(ss.take n).length=n:=by rw[TR];omega
  have io:(ss.drop (n+1)).length=ss.length-(n+1):=Uh;have hD1:∀l:List aG,(ss.length-(n+1))=l.length->l.take (ss.length-(n+1))=l:=λl h=>by rw[h,TH]
  have hD2:(ss.drop (n+1)).take (ss.length-(n+1))=ss.drop (n+1):=hD1 _ io.symm;refine eo 10 ?_;simp only[seval,bh,qA,bQ,lJ,lh,Pp aG.len,Pm aG.len,kD,io,beq_self_eq_true,Yt,Xi,Kc,hD2,TH];refine⟨by omega,by omega,by omega,by omega,by omega,by rw[dA];simp,?_⟩;have BF:(ss.eraseIdx n).length=n+(ss.length-(n+1)):=by rw[X9 jB];omega
  have BG:(ss.eraseIdx n).flatMap aG.l=(ss.take n).flatMap aG.l++(ss.drop (n+1)).flatMap aG.l:=by rw[List.eraseIdx_eq_take_drop_succ,VR]
  rw[<- BG,<- BF];have oy:∀y y',((xl ss).take 5++[y]++(xl ss).drop 6).set 5 y'=((xl ss).take 5++[y']++(xl ss).drop 6):=λy y'=>by rw[dA];rfl
  have hcg:∀y,((xl ss).take 5++[y]++(xl ss).drop 6)[5]?=some y:=λy=>by rw[dA];rfl
  have hce:(xl ss).take 5++[aZ (ss.eraseIdx n)]++(xl ss).drop 6=xl (ss.eraseIdx n):=by rw[dA,dA];rfl
  (repeat apply gX);refine aeV (id:=H.length) (j:=5) (y:=aZ (ss.eraseIdx n)) (by simp only[seval,bh]<;>rfl) (hcg _) (iY _ _ _) ?_
  simp only[seval,dE,oy,hce];have gP:SF.wrap ((i:Int)-1)=(ns.length:Int)-1-((j+1:Nat):Int):=by rw[bC _ (by omega)];omega
  refine aj ?_;simp only[seval,gP];refine hR _ ⟨eV,trivial,?_⟩;rw[cU];have sq:bM (H++[.cells (xl (ss.eraseIdx n)) 26,.cells pV 76]):=Rg hH λz hz m=>by
   simp only[SL,S0,or_false]at hz;rcases hz with rfl|rfl
   ·rw[dA];exact aal m {x with aB:=ss.eraseIdx n}
   ·intro a ha;simp only[pV,SL,S0,or_false]at ha;rcases ha with rfl|rfl|rfl|rfl|rfl|rfl<;>simp[eE,Lz]
  rw[<- QH];exact Ms [.tail (ss.eraseIdx n).length 4 48] (pI rfl rfl) (by simp only[seval];simp[bN,Wk.refl]) sq (by simp[eE]) (by rw[SD];rfl)
 ·have xa:j=ns.length:=by omega
  subst xa;refine b9 ?_;have Fx:(xl (st ns.length))=(x.wo ns).l:=by rw[dA,akO];rfl
  rw[Fx];have qS:(x.wo ns).l.length=6:=rfl;have ua:Un 6 (x.wo ns).l=(x.wo ns).l:=rfl;have nT:pV.length=6:=rfl;have KT:Ur 6 pV=[]:=rfl;refine aj ?_;simp only[seval,bh,dF,di,qS,ua,nT,KT];refine⟨ut _,?_⟩;refine oq ?_;simp only[seval,di];rw[ua];exact jx (b:=(x.wo ns).av) hH (Wk.refl _) (by rw[FU];trivial) hk
end
open Go.Conc Go.Proofs Go.Gg.Tk
namespace Tk
def NF (ns:List Int)(m:Nat):Bool:=(SV ns.length).all λi=>decide (0<=ns.getD i 0/\ns.getD i 0+(ns.length-i:Nat)<=m)
theorem aeC{ns:List Int}{m:Nat}(h:NF ns m=true):sR ns m:=λi n hn=>by
 have hi:=(SN.1 hn).1;have:=Tx.1 h i (TE.2 hi);rw[decide_eq_true_eq,SE,hn]at this;exact this
theorem aad:∀n,n<4->(vL n).length=2^n/\∀l∈vL n,NF l n=true:=by decide+kernel
theorem al2{n:Nat}(hn:n<4){l:List Int}(hl:l∈vL n):sR l n:=aeC ((aad n hn).2 l hl)
theorem OL{ss:List aG}:∀{ns:List Int}{y:aG},y∈tu ss ns->y∈ss
 |[],y,h=>h
 |n::ns,y,h=>OL (ns:=ns) (List.mem_of_mem_eraseIdx h)
theorem OK{ss:List aG}:∀{ns:List Int},(tu ss ns).length<=ss.length
 |[]=>SQ _
 |n::ns=>by
  have h1:=OK (ss:=ss) (ns:=ns);have h2:=List.length_eraseIdx_le (tu ss ns) n.toNat;exact UF h2 h1
theorem ak.Ok.wo{x:ak}(h:x.Ok)(ns:List Int):(x.wo ns).Ok:=⟨h.first,h.hours,h.an,h.zS,h.cZ,UF OK h.eP,h.seen,λy hy=>⟨(h.piece y hy).1,(h.piece y hy).2⟩,λy hy=>have k:=h.stub y (OL hy);⟨k.1,k.2⟩⟩
def D9 (x:ak):Option (List Int):=(vL x.aB.length).find? λl=>uW (x.wo l)
theorem Ph{α:Type}{p:α->Bool}:∀{l:List α}{i:Nat}{a:α},l[i]?=some a->p a=true->(∀j b,j<i->l[j]?=some b->p b=false)->l.find? p=some a
 |b::l,0,a,h,hp,_=>by cases h;rw[List.find?_cons_of_pos hp]
 |b::l,i+1,a,h,hp,h0=>by
  rw[List.find?_cons_of_neg (by rw[h0 0 b (by omega) rfl];simp)];exact Ph (i:=i) h hp λj c hj hc=>h0 (j+1) c (by omega) hc
theorem ah8{α:Type}{p:α->Bool}{l:List α}(h:∀(j:Nat) b,l[j]?=some b->p b=false):l.find? p=none:=by
 rw[List.find?_eq_none];intro a ha;obtain⟨j,hj⟩:=VF ha;rw[h j a hj];simp
end Tk
section
variable {lv:Bool}{H:List aa}{k kp:AV->List aa->Prop}
theorem ahr{x:ak}(hx:x.Ok)(g_:∀l,D9 x=some l->k (.aJ [bp l,iv 0]) H)(cz:D9 x=none->k (.aJ [bp [],iv 11]) H):ba lv SC 32 H [x.av] k kp:=by
 refine bE (rs:=[.tmp 2,.tmp 3]) (nt:=27) Tryz.f32 λhH hA=> ?_;simp only[bk,SW,ak.av];have aP:=hx.eP;have bP:x.l=[iv x.first,iv x.hours,iv x.an,dS x.seen,aZ x.pieces,aZ x.aB]:=rfl;have qA:Ur 5 x.l=[.sl x.aB.length (x.aB.flatMap aG.l) .shut]:=rfl;have bh:∀(L:List aa),(H++L)[H.length]?=L[0]?:=λL=>a_ H L 0;have dA:x.l.length=6:=rfl;have hO:Un 6 x.l=x.l:=rfl;refine ai ?_;refine aj ?_;simp only[seval,bh,dA,hO];refine aM ((Iz (x:=x) hx ?_));(try simp only[seval]);refine aj ?_;simp only[seval,show ((0:Int)!=0)=false from rfl];refine aE ?_;refine aN ?_;refine aj ?_;simp only[seval,bh,qA];refine aM ((ahG (n:=x.aB.length) aP ?_));have iN:=(aad x.aB.length (by omega)).1;have eW:=λl hl=>al2 (n:=x.aB.length) (by omega) (l:=l) hl;have vu:D9 x=(vL x.aB.length).find? λl=>uW (x.wo l):=rfl;generalize vL x.aB.length=ls at iN eW vu⊢;have hp8:2^x.aB.length<=2^3:=Xp (by omega) aP;(try simp only[seval,x_]);refine cF ?_;refine gA ls.length (λi:Nat=>[(17,iv i)]) (λi=>H++[.cells x.l 26]) (λi=>∀j b,j<i->ls[j]?=some b->uW (x.wo b)=false) (λ_ _=>rfl) (by simp only[seval];simp[bN,Wk.refl]) rfl (λ_ _ _=>by simp) (λj b hj=>by omega) (λbT cW i b_ ay R hR=> ?_);clear bT cW;refine ai ?_;refine aE ?_;refine⟨λh=> ?_,λh=> ?_⟩
 ·have bt:i<ls.length:=by omega
  obtain⟨l,hl⟩:=cC bt;have gk:=eW l (uo hl);have fD:SF.wrap ((i:Int)+1)=((i+1:Nat):Int):=by rw[bC _ (by omega)];rfl
  refine aN ?_;refine aj ?_;simp only[seval,abU hl,je bt];refine aj ?_;simp only[seval,bh,dA,hO];refine aM ((O_ (x:=x) (ns:=l) aP gk ?_));(try simp only[seval]);refine aM ((ahH (x:=x.wo l) (hx.wo l) ?_));(try simp only[seval]);refine aE ?_;refine⟨λhc=> ?_,λhc=> ?_⟩
  ·refine ai ?_;refine aX ?_;exact jx (b:=.aJ [bp l,iv 0]) hH (GR (Wk.refl _) (Wk.refl _)) (by simp[jm,eE,zv]) (g_ l (by rw[vu];exact Ph hl hc ay))
  ·refine aN ?_;refine aj ?_;simp only[seval,fD];refine hR _ ⟨bt,λj b hj hb=> ?_,dn⟩;rcases YI j i with h'|h'
   ·exact ay j b h' hb
   ·have:j=i:=(by omega);subst this;rw[hl]at hb;cases hb;simpa using hc
 ·have iw:i=ls.length:=by omega
  subst iw;refine b9 ?_;refine ai ?_;refine aX ?_;exact jx (b:=.aJ [bp [],iv 11]) hH (GR (iY _ _ _) (Wk.refl _)) (by simp[jm,eE,zv]) (cz (by rw[vu];exact ah8 λj b hb=>ay j b (eB hb) hb))
end
open Go.Conc
def behind (j:Nat)(o:Tv):Tv:={o with after:=o.after.push {on:=j,ground:=.data}}
def nA (ops:Array Tv)(i j:Nat):Array Tv:=ops.modify i (behind j)
theorem ad4(ops:Array Tv)(i j:Nat):(nA ops i j).size=ops.size:=by simp[nA]
theorem qg(ops:Array Tv)(i j k:Nat):(nA ops i j)[k]?=if i=k then(ops[k]?).map (behind j)else ops[k]?:=by
 unfold nA;rw[Wi]
theorem afb(j:Nat)(o:Tv):cK (behind j o)=cK o++[j]:=by
 unfold cK behind;simp only[Array.toList_push,List.filterMap_append];rfl
theorem aby{ops:Array Tv}{i j:Nat}{X l:List Nat}(h:lC ops X l):j∈X->lC (nA ops i j) X l:=by
 induction h with
 |nil X h=>exactλ_=> .nil X λk hk=>h k (by rwa [ad4]at hk)
 |cons o ho hn hd k_ ih=>
  rename_i X k l;intro hj;by_cases e:i=k
  ·exact .cons (behind j o) (by rw[qg,if_pos e,ho];rfl) hn (λq hq=>by
    rw[afb]at hq;rcases SS.1 hq with hq|hq
    ·exact hd q hq
    ·rw[S5.1 hq];exact hj) (ih (Tb _ hj))
  ·exact .cons o (by rw[qg,if_neg e];exact ho) hn hd (ih (Tb _ hj))
theorem apg{ops:Array Tv}{i j:Nat}(jP:i≠j)(hi:i<ops.size){X l:List Nat}(h:lC ops X l):i∉X->j∉X->lC (nA ops i j) X l\/lC (nA ops j i) X l:=by
 induction h with
 |nil X h=>exactλh1 _=>absurd (h i hi) h1
 |cons o ho hn hd k_ ih=>
  rename_i X k l;intro h1 h2;by_cases e:k=i
  ·subst e;exact .inr (.cons o (by rw[qg,if_neg (Ne.symm jP)];exact ho) hn hd (aby k_ Tw))
  ·by_cases e2:k=j
   ·subst e2;exact .inl (.cons o (by rw[qg,if_neg jP];exact ho) hn hd (aby k_ Tw))
   ·rcases ih (λhm=>(SL.1 hm).elim (λx=>e x.symm) h1) (λhm=>(SL.1 hm).elim (λx=>e2 x.symm) h2)with q|q
    ·exact .inl (.cons o (by rw[qg,if_neg (Ne.symm e)];exact ho) hn hd q)
    ·exact .inr (.cons o (by rw[qg,if_neg (Ne.symm e2)];exact ho) hn hd q)
section
variable {lv:Bool}{P:SJ}{r:Option Nat}{ops:Array Tv}{nt:Nat}
theorem ad5(i j:Nat)(tmps:Array SO):yielded (nA ops i j) tmps=yielded ops tmps:=by
 funext k;unfold yielded;rw[qg];by_cases e:i=k
 ·rw[if_pos e];cases ops[k]?<;>rfl
 ·rw[if_neg e]
theorem NA(i j:Nat)(Q:Ex->Act->View->Prop):∀l:List Nat,c_ lv P r (nA ops i j) Q l=c_ lv P r ops Q l
 |[]=>rfl
 |k::l=>by
  funext a V;have ih:=NA i j Q l;simp only[c_];rw[qg,ad5,ih];by_cases e:i=k
  ·rw[if_pos e];cases ho:ops[k]?with
   |none=>rfl
   |some o=>rfl
  ·rw[if_neg e]
theorem Hw(i j:Nat)(Hf:List Nat->List aa)(K:AS->Prop)(t:Ao K):∀(pl:List qa)(s:AS),fK lv P Hf (nA ops i j) pl s K t=fK lv P Hf ops pl s K t
 |[],_=>rfl
 |⟨k,false,_,l⟩::rest,s=>by
  have ih:=Hw i j Hf K t rest;simp only[fK,qg];have e:∀o,ao (some o) (λo=>AQ lv P s o λav=>BQ lv P Hf s.T o av l/\fK lv P Hf (nA ops i j) rest (s.put o.dst av) K t)=ao (some o) (λo=>AQ lv P s o λav=>BQ lv P Hf s.T o av l/\fK lv P Hf ops rest (s.put o.dst av) K t):=λo=>by
   simp only[ao,ih]
  have bq:∀(o:Tv) av,BQ lv P Hf s.T (behind j o) av l=BQ lv P Hf s.T o av l:=λo av=>by
   induction l with
   |nil=>rfl
   |cons p l kK=>exact congrArg (λx=>_/\x) (kK λo=>by simp only[ao,ih])
  split
  ·cases ops[k]?with
   |none=>rfl
   |some o=>
    simp only[UM,ao,ih,bq];rfl
  ·cases ops[k]?with
   |none=>rfl
   |some o=>exact e o
 |⟨k,true,D,l⟩::rest,s=>by
  have ih:=Hw i j Hf K t rest;simp only[fK,qg];have be:∀(o:Tv) av,BE lv P Hf s.T (behind j o) av l=BE lv P Hf s.T o av l:=λo av=>by
   induction l with
   |nil=>rfl
   |cons p l kK=>exact congrArg (λx=>_/\x) kK
  split
  ·cases ops[k]?with
   |none=>rfl
   |some o=>
    simp only[UM,ao,ih,be];rfl
  ·cases ops[k]?with
   |none=>rfl
   |some o=>simp only[ao,ih]
theorem agh{es ord:List Nat}(ay:qp nt ops es ord=true)(t:Nat):lC ops [] (UC .any ops ops.size t (TK ops.size false) []):=by
 have ay:=qp.out ay;obtain⟨vC,_,hlt⟩:=CW ay.top;have ready:∀(ord X:List Nat),jS ops X ord=true->∀A i B,ord=A++i::B->∃o,ops[i]?=some o/\∀j∈cK o,j∈A\/j∈X:=by
  intro ord;induction ord with
  |nil=>intro X _ A i B e;cases A<;>cases e
  |cons x l ih=>
   intro X nc A i B e;simp only[jS,Th,TW,Up,decide_eq_false_iff_not]at nc;obtain⟨⟨h1,h2⟩,h3⟩:=nc;cases A with
   |nil=>
    have e1:x=i:=(by have:=congrArg List.head? e;simpa using this);rw[e1]at h2;cases ho:ops[i]?with
    |none=>rw[ho]at h2;cases h2
    |some o=>
     rw[ho]at h2;exact⟨o,rfl,λj hj=> .inr (by have:=Tx.1 h2 j hj;simpa using this)⟩
   |cons y A=>
    cases e;obtain⟨o,ho,hb⟩:=ih (x::X) h3 A i B rfl;refine⟨o,ho,λj hj=> ?_⟩;rcases hb j hj with h|h
    ·exact .inl (Tb _ h)
    ·rcases SL.1 h with rfl|h
     ·exact .inl (Tw ..)
     ·exact .inr h
 exact Lv (ops:=ops) (λi o ho j hj=>by
   obtain⟨A,B,e⟩:=List.append_of_mem (ay.full i (SR.1 ho).1);obtain⟨o',aY,hb⟩:=ready ord [] ay.top A i B e;rw[ho]at aY;cases aY;rcases hb j hj with h|h
   ·exact hlt j (by rw[e];exact Te _ h)
   ·cases h)
  (λX ⟨i,hi,hn⟩=>by
   obtain⟨A,i',B,e,h1,h2⟩:=IJ (X:=X) ⟨i,ay.full i hi,hn⟩;obtain⟨o',aY,hb⟩:=ready ord [] ay.top A i' B e;refine⟨i',o',aY,h1,λj hj=> ?_⟩;rcases hb j hj with h|h
   ·exact h2 j h
   ·cases h)
  ops.size t (TK ops.size false) [] ⟨by simp,λi hi=>by simp[hi]⟩ (UF Y4 (by simp))
end
inductive pX (ops:Array Tv):Array Tv->Prop
 |base:pX ops ops
 |add {o:Array Tv} (h:pX ops o) (i j:Nat):pX ops (nA o i j)
section
variable {lv:Bool}{P:SJ}{r:Option Nat}{ops o:Array Tv}{nt:Nat}{s:AS}{Φ:am->AS->Prop}
theorem pX.wp(h:pX ops o)(Q:Ex->Act->View->Prop)(l:List Nat):c_ lv P r o Q l=c_ lv P r ops Q l:=by
 induction h with
 |base=>rfl
 |add _ i j ih=>rw[NA,ih]
theorem pX.N6(h:pX ops o)(Hf:List Nat->List aa)(K:AS->Prop)(t:Ao K)(pl:List qa)(s:AS):fK lv P Hf o pl s K t=fK lv P Hf ops pl s K t:=by
 induction h with
 |base=>rfl
 |add _ i j ih=>rw[Hw,ih]
def DG (lv:Bool)(P:SJ)(r:Option Nat)(nt:Nat)(ops o:Array Tv)(s:AS)(Φ:am->AS->Prop):Prop:=
 ∀l E V a Q,lC o [] l->At E V s a nt->(∀ae e E' V' a' s',Kept E E' V V' a a'->At E' V' s' a' nt->oX E' ae e->Φ ae s'->Q e a' V')->c_ lv P r ops Q l a V
theorem qn(i j:Nat)(jP:(i !=j&&decide (i<o.size))=true)(h1:DG lv P r nt ops (nA o i j) s Φ)(h2:DG lv P r nt ops (nA o j i) s Φ):DG lv P r nt ops o s Φ:=λl E V a Q hs ah hQ=>by
 rw[Th,bne_iff_ne,decide_eq_true_eq]at jP;rcases apg jP.1 jP.2 hs (by simp) (by simp)with hs|hs
 ·exact h1 l E V a Q hs ah hQ
 ·exact h2 l E V a Q hs ah hQ
theorem aeL{id:Nat}(es ord:List Nat)(hm:P.follows .mixedOrders=true)(ay:qp nt ops es ord=true)(h:DG lv P r nt ops ops s Φ):aU lv P r nt (.region id ops true) s Φ:=by
 intro E V a Q ah hQ;refine M6 λt=> ?_;rw[show VK (P.follows .mixedOrders) ops t=UC .any ops ops.size t (TK ops.size false) [] by unfold VK;rw[hm];simp[Za]];exact h _ E V a Q (agh ay t) ah hQ
end
def FX (lv:Bool)(P:SJ)(o:Tv)(s:AS)(next:AS->Prop):Prop:=match o.op with
 |.call c=>match c.callee with
  |.value x=>ao (s.ev x) λrP=>ao (eT s c.args.toList) λaD=>Ah lv P rP s.H aD (λb H'=>next ((⟨s.T,H'⟩:AS).put o.dst b)) (λ_ _=>False) ⟨0⟩
  |_=>False
 |_=>False
def aar (ops:Array Tv)(A B:List Nat)(m:Nat):Bool:=
 let cl:=gh ops (A++m::B) []
 A.all (λi=>(mP cl m).contains i)&&B.all λi=>(mP cl i).contains m
theorem pX.get{ops o:Array Tv}(h:pX ops o){m:Nat}{om:Tv}(hm:ops[m]?=some om):∃oR,o[m]?=some oR/\oR.op=om.op/\oR.dst=om.dst:=by
 induction h with
 |base=>exact⟨om,hm,rfl,rfl⟩
 |add _ i j ih=>
  obtain⟨q,h1,h2,h3⟩:=ih;rw[qg];split
  ·exact⟨behind j q,by rw[h1];rfl,h2,h3⟩
  ·exact⟨q,h1,h2,h3⟩
section
variable {lv:Bool}{P:SJ}{r:Option Nat}{ops o:Array Tv}{Hf:List Nat->List aa}{T0:List (Nat×AV)}{es ord:List Nat}{nt:Nat}{s:AS}{Φ:am->AS->Prop}
theorem OJ{f:Nat->AV}(ay:xU nt ops ord)(G:List Nat)(au:∀i∈G,∀o,ops[i]?=some o->∀X',kj ops X'->i∉X'->(∀j∈cK o,j∈X')->OB lv P r ops Hf T0 es f i o X'){X l:List Nat}(hs:lC ops X l):
  (∀i∈X,i<ops.size)->kj ops X->∀(E:Env)(V:View)(a:Act)(Q:Ex->Act->View->Prop),At E V ⟨TX ops T0 f X,Hf (done es X)⟩ a nt->
   (∀E' V' a' X' l',Kept E E' V V' a a'->At E' V' ⟨TX ops T0 f X',Hf (done es X')⟩ a' nt->(∀i∈X',i<ops.size)->kj ops X'->(∀i∈X',i∈X\/i∈G)->(∀i∈X,i∈X')->lC ops X' l'->(∀i xu,l'=i::xu->i∉G)->c_ lv P r ops Q l' a' V')->c_ lv P r ops Q l a V:=by
 induction hs with
 |nil X h=>
  intro hX hc E V a Q ah hQ;exact hQ E V a X [] (Kept.refl E V a) ah hX hc (λi hi=> .inl hi) (λi hi=>hi) (.nil X h) (λi xu e=>by cases e)
 |cons o ho hn hd k_ ih=>
  rename_i X i l;intro hX hc E V a Q ah hQ;by_cases hG:i∈G
  ·have hi:i<ops.size:=(SR.1 ho).1;simp only[c_,ho];have nJ:∀k∈i::X,k<ops.size:=λk hk=>(SL.1 hk).elim (λe=>by rw[e];exact hi) (hX k);have bf:=hc.cons ho hd;have hw:Tf o (yielded ops a.tmps)=true:=(by unfold Tf;rw[ay.Bd i o ho]);rw[if_pos hw];refine .inl ?_;have db:∀d,o.dst=some d->d<a.tmps.size:=λd e=>(by rw[ah.size];exact ay.dst i o d ho e);have kZ:=au i hG o ho X hc hn hd;have lg:∀{ma:List Nat},(∀j∈ma,j∈i::X\/j∈G)->∀j∈ma,j∈X\/j∈G:=λh j hj=>by
    rcases h j hj with h|h
    ·rcases SL.1 h with rfl|h
     ·exact .inr hG
     ·exact .inl h
    ·exact .inr h
   unfold OB at kZ;by_cases dl:i∈es
   ·rw[if_pos dl]at kZ;have aP:=kZ.step (r:=r) (bad:=λ_ _=>False);refine aP E V a _ Q ah.br ah.tok db (.inr (ay.uX i o ho)) (λE' V' a' s' hk cN ht e=> ?_) λ_ _ _ _ _ _ _ _ _ h=>h.elim;subst e;rw[wl ho rfl]at ht cN;exact ih nJ bf E' V' a' Q ⟨cN,ht,hk.size.trans ah.size⟩ λbO aR b8 ma xu aI cX w1 w2 w3 w4=>hQ bO aR b8 ma xu (hk.trans aI) cX w1 w2 (lg w3) (λj hj=>w4 j (Tb _ hj))
   ·rw[if_neg dl]at kZ;obtain⟨T,hT,hq⟩:=kZ;refine hq E V a _ Q ah.br (λt av e=>ah.tok t av (hT t av e)) (.inr (ay.uX i o ho)) λE' V' v hle bX eK cN hv=> ?_;have ht:bZ E' ((⟨TX ops T0 f X,Hf (done es X)⟩:AS).put o.dst (f i)).T (a.put o.dst v).tmps:=bZ.gF (s:=⟨TX ops T0 f X,Hf (done es X)⟩) (ah.tok.mono hle) db hv;rw[wl ho rfl]at ht;refine ih nJ bf E' V' (a.put o.dst v) Q ⟨by rw[Ic dl];exact cN,ht,(dR _ _ _).trans ah.size⟩ λbO aR b8 ma xu hk cX w1 w2 w3 w4=>
     hQ bO aR b8 ma xu ⟨hle.trans hk.le,hk.size.trans (dR _ _ _),hk.defers.trans (put_defers _ _ _),hk.role.trans bX,hk.deaf.trans eK⟩ cX w1 w2 (lg w3) (λj hj=>w4 j (Tb _ hj))
  ·exact hQ E V a X (i::l) (Kept.refl E V a) ah hX hc (λi hi=> .inl hi) (λi hi=>hi) (.cons o ho hn hd k_) (λj xu e=>by cases e;exact hG)
theorem acC{ops:Array Tv}:∀{A L X:List Nat},jS ops X (A++L)=true->jS ops X A=true/\jS ops (A.reverse++X) L=true
 |[],L,X,h=>⟨rfl,h⟩
 |i::A,L,X,h=>by
  rw[VA,jS,Th]at h;obtain⟨h1,h2⟩:=acC h.2;refine⟨by rw[jS,Th];exact⟨h.1,h1⟩,?_⟩;rw[Zk,SD];exact h2
theorem acD{ops:Array Tv}:∀{A X:List Nat},jS ops X A=true->kj ops X->kj ops (A.reverse++X)
 |[],X,h,hX=>hX
 |i::A,X,h,hX=>by
  have nc:=h;simp only[jS,Th,TW,Up,decide_eq_false_iff_not]at nc;obtain⟨⟨hi,h2⟩,h3⟩:=nc;cases ho:ops[i]?with
  |none=>rw[ho]at h2;cases h2
  |some o=>
   rw[ho]at h2;have hd:∀j∈cK o,j∈X:=λj hj=>(by have:=Tx.1 h2 j hj;simpa using this);have:=acD h3 (hX.cons ho hd);rw[Zk,SD];exact this
def Ar (lv:Bool)(P:SJ)(ops:Array Tv)(m:Nat)(Gl:List qa)(Φ:am->AS->Prop)(s1:AS):Prop:=ao (ops[m]?) λom=>FX lv P om s1 λs2=>∃nq:List Nat->List aa,s2.H=nq []/\fK lv P nq ops Gl s2 (Φ .normal) ⟨0⟩
theorem o_(m:Nat)(A B ov mO:List Nat){pl1 Gl:List qa}(oc:List Nat->List aa)(h:fK lv P oc ops pl1 s (Ar lv P ops m Gl Φ) ⟨0⟩)(ha:pX ops o:=by repeat first|exact .base|apply pX.add)(ay:qp nt o [] (A++m::B)=true:=by kernel_rfl)(EC:aar o A B m=true:=by kernel_rfl)(akj:pN (gh o (A++m::B) []) ov [] A=pl1:=by conv=>lhs;cbv)(akk:pN (gh o (A++m::B) []) mO (m::A.reverse) B=Gl:=by conv=>lhs;cbv)(ajI:mO.all B.contains=true:=by kernel_rfl)(h0:s.H=oc []:=by rfl):DG lv P r nt ops o s Φ:=λl E V a Q hs ah hQ=>by
 subst akj akk;rw[<- ha.wp];rw[<- ha.N6]at h;have ay:=qp.out ay;obtain⟨vC,_,hlt⟩:=CW ay.top;obtain⟨tA,tB⟩:=acC ay.top;rw[SY]at tB;have tB':jS o (m::A.reverse) B=true:=by
  rw[jS,Th]at tB;exact tB.2
 unfold aar at EC;dsimp only at EC;rw[Th,Tx,Tx]at EC;obtain⟨cA,cB⟩:=EC;have Q3:m∉A:=λhm=>(U4.1 vC).2.2 m hm m (by simp) rfl;have BP:m∉B:=(VS.1 (U4.1 vC).2.1).1;have PO:∀i∈B,i∉A:=λi hi hA=>(U4.1 vC).2.2 i hA i (by simp[hi]) rfl;have dE:s=⟨TX o s.T (λ_=> .val undef) [],oc (done ov [])⟩:=by
  have:done ov []=[]:=by simp[done]
  rw[this,<- h0];rfl
 have h':fK lv P oc o (pN (gh o (A++m::B) []) ov [] A) ⟨TX o s.T (λ_=> .val undef) [],oc (done ov [])⟩ (Ar lv P ops m (pN (gh o (A++m::B) []) mO (m::A.reverse) B) Φ) ⟨0⟩:=by rw[<- dE];exact h
 obtain⟨f,_,q2,q3⟩:=AX (r:=r) ay A [] _ tA (λi hi=>by cases hi) h';have r_:At E V ⟨TX o s.T f [],oc (done ov [])⟩ a nt:=by
  have e:(⟨TX o s.T f [],oc (done ov [])⟩:AS)=s:=dE.symm;rw[e];exact ah
 refine OJ (Hf:=oc) (es:=ov) ay A q2 hs (by simp) (λi hi=>by cases hi) E V a Q r_ λE1 V1 a1 X1 l1 g_ vd hX1 da KA _ dF Ff=> ?_;have Q4:m∉X1:=λhm=>by
  rcases KA m hm with h|h
  ·cases h
  ·exact Q3 h
 cases dF with
 |nil _ eI=>exact absurd (eI m (hlt m (by simp))) Q4
 |@cons _ i l2 oR ho hn hd k_=>
  have hi:i<o.size:=(SR.1 ho).1;have hiA:i∉A:=Ff i l2 rfl;have kX:i=m:=by
   rcases SS.1 (ay.full i hi)with h|h
   ·exact absurd h hiA
   ·rcases SL.1 h with h|h
    ·exact h
    ·have:=cB i h;have hr:m∈mP (gh o (A++m::B) []) i:=(by simpa using this);exact absurd (zK da (yi hr) λo' aY k hk=>by rw[ho]at aY;cases aY;exact hd k hk) Q4
  subst kX;have PP:∀j∈A,j∈X1:=λj hj=>by
   have:=cA j hj;have hr:j∈mP (gh o (A++i::B) []) i:=(by simpa using this);exact zK da (yi hr) λo' aY k hk=>by rw[ho]at aY;cases aY;exact hd k hk
  have J5:∀j,j∈X1<->j∈A.reverse++[]:=λj=>by
   rw[SY,XL];exact⟨λh=>(KA j h).elim (λh=>by cases h) id,PP j⟩
  have Ji:At E1 V1 ⟨TX o s.T f (A.reverse++[]),oc (done ov (A.reverse++[]))⟩ a1 nt:=by
   refine⟨?_,λt x e=> ?_,vd.size⟩
   ·rw[<- D2 J5];exact vd.br
   ·rw[<- Ds ay J5]at e;exact vd.tok t x e
  simp only[c_,ho];have hw:Tf oR (yielded o a1.tmps)=true:=by unfold Tf;rw[ay.Bd i oR ho]
  rw[if_pos hw];refine .inl ?_;have db:∀d,oR.dst=some d->d<a1.tmps.size:=λd e=>by rw[vd.size];exact ay.dst i oR d ho e
  unfold Ar at q3;obtain⟨om,hom,q3⟩:=q3.out;obtain⟨om2,g1,g2,g3⟩:=ha.get hom;rw[ho]at g1;cases g1;unfold FX at q3;obtain⟨c,x,ajp,aje,q4⟩:∃c x,om.op=.call c/\c.callee=.value x/\ao ((⟨TX o s.T f (A.reverse++[]),oc (done ov (A.reverse++[]))⟩:AS).ev x) λrP=>ao (eT ⟨TX o s.T f (A.reverse++[]),oc (done ov (A.reverse++[]))⟩ c.args.toList) λaD=>Ah lv P rP (oc (done ov (A.reverse++[]))) aD (λb H'=>∃nq:List Nat->List aa,((⟨TX o s.T f (A.reverse++[]),H'⟩:AS).put om.dst b).H=nq []/\fK lv P nq ops (pN (gh o (A++i::B) []) mO (i::A.reverse) B) ((⟨TX o s.T f (A.reverse++[]),H'⟩:AS).put om.dst b) (Φ .normal) ⟨0⟩) (λ_ _=>False) ⟨0⟩:=by
   split at q3
   ·rename_i c hc;split at q3
    ·rename_i x hx;exact⟨c,x,hc,hx,q3⟩
    ·exact q3.elim
   ·exact q3.elim
  obtain⟨rP,e1,q5⟩:=q4.out;obtain⟨aD,e2,q6⟩:=q5.out;have kI:=MI (lv:=lv) (P:=P) (r:=r) (o:=oR) (s:=⟨TX o s.T f (A.reverse++[]),oc (done ov (A.reverse++[]))⟩) (next:=λs2=>∃av H' nq,s2=(⟨TX o s.T f (A.reverse++[]),H'⟩:AS).put oR.dst av/\H'=nq []/\fK lv P nq ops (pN (gh o (A++i::B) []) mO (i::A.reverse) B) s2 (Φ .normal) ⟨0⟩) (bad:=λ_ _=>False) (g2.trans ajp) aje e1 e2 (iG.mono q6 (λav H'=>by
    rintro⟨nq,w1,w2⟩
    rw[<- g3]at w1 w2;refine⟨av,H',nq,rfl,?_,w2⟩;rw[<- w1];cases oR.dst<;>rfl) (λ_ _ h=>h))
  refine kI E1 V1 a1 _ Q Ji.br Ji.tok db (.inr (ay.uX i oR ho)) (λE2 V2 a2 s2 cz cN Fh e=> ?_) λ_ _ _ _ _ _ _ _ _ h=>h.elim;obtain⟨av,H',nq,rfl,hH',hb⟩:=e;obtain⟨f',QA⟩:∃f':Nat->AV,f'=λj=>if j=i then av else f j:=⟨_,rfl⟩;have hff:∀j∈A.reverse++[],f j=f' j:=λj hj=>by
   have:j≠i:=λe=>Q3 (by subst e;simpa using hj);rw[QA];simp[this]
  have hp:(⟨TX o s.T f (A.reverse++[]),H'⟩:AS).put oR.dst av=⟨TX o s.T f' (i::A.reverse),nq (done mO (i::A.reverse))⟩:=by
   have oA:done mO (i::A.reverse)=[]:=by
    unfold done;rw[YD];intro j hj;have:=Tx.1 ajI j hj;have EN:j∈B:=(by simpa using this);have h1:j≠i:=λe=>BP (e▸EN);have h2:=PO j EN;simp[h1,h2]
   rw[Ay hff,wl ho (by rw[QA];simp),oA,hH',SY]
  rw[hp]at hb cN Fh;rw[<- ha.N6]at hb;have ajk:kj o (i::A.reverse):=by
   have h1:=acD tA (X:=[]) (λi hi=>by cases hi);rw[SY]at h1;exact h1.cons ho λj hj=>by
    have:=KA j (hd j hj);simpa using this
  obtain⟨f2,p1,p2,p3⟩:=AX (r:=r) ay B (i::A.reverse) f' tB' ajk hb;have Q6:∀j,j∈i::X1<->j∈i::A.reverse:=λj=>by
   have:=J5 j;rw[SY]at this;rw[SL,SL,this]
  have tI:At E2 V2 ⟨TX o s.T f2 (i::X1),nq (done mO (i::X1))⟩ a2 nt:=by
   refine⟨?_,λt x e=> ?_,cz.size.trans Ji.size⟩
   ·rw[D2 Q6];exact cN
   ·rw[Ds ay Q6,Ay p1]at e;exact Fh t x e
  refine OJ (Hf:=nq) (es:=mO) ay B p2 k_ (λk hk=>(SL.1 hk).elim (λe=>by rw[e];exact hi) (hX1 k)) (da.cons ho hd) E2 V2 a2 Q tI λE3 V3 a3 X3 l3 vA pk hX3 dI asN Rb oK akN=> ?_;cases oK with
  |cons o3 Kd J7 yR asM=>
   rename_i j l4;exfalso;have hj:j<o.size:=(SR.1 Kd).1;have EN:=akN j l4 rfl;rcases SS.1 (ay.full j hj)with h|h
   ·exact J7 (Rb j (Tb _ (PP j h)))
   ·rcases SL.1 h with rfl|h
    ·exact J7 (Rb j (Tw ..))
    ·exact EN h
  |nil _ eI=>
   have Q7:∀j,j∈X3<->j∈B.reverse++i::A.reverse:=λj=>by
    rw[SS,SL,XL,XL];constructor
    ·intro h;have:=SS.1 (ay.full j (hX3 j h));rw[SL]at this;rcases this with h|h|h
     ·exact .inr (.inr h)
     ·exact .inr (.inl h)
     ·exact .inl h
    ·intro h;refine eI j (hlt j ?_);rw[SS,SL];rcases h with h|h|h
     ·exact .inr (.inr h)
     ·exact .inr (.inl h)
     ·exact .inl h
   refine hQ .normal .normal E3 V3 a3 _ ((g_.trans cz).trans vA) ⟨?_,λt x e=> ?_,pk.size⟩ trivial p3
   ·rw[<- D2 Q7];exact pk.br
   ·rw[<- Ds ay Q7]at e;exact pk.tok t x e
end
theorem amw:type_of% @FX.eq_1:=by intros;rw[FX.eq_1]
theorem amx:type_of% @Ar.eq_1:=by intros;rw[Ar.eq_1]
attribute [seval] amw amx
open Go.Proofs Go.Gg.Tk
theorem aa9{x:ak}{q:Nat}(hq:q<x.pieces.length):xG x [(q:Int)]=true:=by
 unfold xG;simp;omega
theorem af6{lv:Bool}{P:SJ}{r:Option Nat}{nt:Nat}{ops:Array Tv}{s:AS}{Φ:am->AS->Prop}{α:Type}{ok:α->Prop}(st:α->AS)(rest:∀x,ok x->Φ .normal (st x))(h:(∀x,ok x->Φ .normal (st x))->DG lv P r nt ops ops s Φ):DG lv P r nt ops ops s Φ:=h rest
theorem aqj{T V:List (Nat×AV)}{H H':List aa}(hH:H=H')(hv:∀p∈V,∃b,look T p.1=some b/\Wk b p.2):(⟨T,H⟩:AS).Sub ⟨V,H'⟩:=
 ⟨λt a e=>hv (t,a) (qX e),hH⟩
def opsOf:T9->Array Tv
 |.region _ o _=>o
 |.seq a _=>opsOf a
 |_=>#[]
structure Bk (H:List aa)(M:List AV->List AV->List aa)(L:List aa)(B:List AV->List AV->List aa)(N:Nat):Prop where
 f:∀u v,B u v=H++(M u v++L)
 l:∀u v,(B u v).length=N
section
variable {H L:List aa}{M B:List AV->List AV->List aa}{N:Nat}
theorem Bk.n(h:Bk H M L B N)(u v:List AV)(L':List aa)(j:Nat):(B u v++L')[N+j]?=L'[j]?:=by rw[<- h.l u v,a_]
theorem Bk.s(h:Bk H M L B N)(u v:List AV)(L':List aa)(j:Nat)(y:aa):(B u v++L').set (N+j) y=B u v++L'.set j y:=by rw[<- h.l u v,dX]
theorem Bk.n0(h:Bk H M L B N)(u v:List AV)(L':List aa):(B u v++L')[N]?=L'[0]?:=h.n u v L' 0
theorem Bk.s0(h:Bk H M L B N)(u v:List AV)(L':List aa)(y:aa):(B u v++L').set N y=B u v++L'.set 0 y:=h.s u v L' 0 y
theorem Bk.n1(h:Bk H M L B N)(u v:List AV)(L':List aa):(B u v++L')[N+1]?=L'[1]?:=h.n u v L' 1
theorem Bk.s1(h:Bk H M L B N)(u v:List AV)(L':List aa)(y:aa):(B u v++L').set (N+1) y=B u v++L'.set 1 y:=h.s u v L' 1 y
theorem Bk.g(h:Bk H M L B N){j:Nat}{u v:List AV}(hl:j<(M u v).length){a y:aa}{u' v':List AV}(ha:(M u v)[j]?=some a)(hy:(M u v).set j y=M u' v')(L':List aa):(B u v++L')[H.length+j]?=some a/\(B u v++L').set (H.length+j) y=B u' v'++L':=by
 rw[h.f,h.f,SD,SD,SD,SD,a_,dX,SZ hl,Wy _ _ hl,hy];exact⟨ha,rfl⟩
theorem Bk.gu(h:Bk H M L B N)(j:Nat)(hl:∀u v,j<(M u v).length)(ha:∀u v,(M u v)[j]?=some (.cells u 76))(hy:∀u v w,(M u v).set j (.cells w 76)=M w v):(∀u v L',(B u v++L')[H.length+j]?=some (.cells u 76))/\(∀u v w L',(B u v++L').set (H.length+j) (.cells w 76)=B w v++L')/\(∀u v,(B u v)[H.length+j]?=some (.cells u 76))/\∀u v w,(B u v).set (H.length+j) (.cells w 76)=B w v:=by
 have k1:=λu v w L'=>h.g (hl u v) (ha u v) (hy u v w) L';have k2:=λu v w=>k1 u v w [];simp only[SY]at k2;exact⟨λu v L'=>(k1 u v u L').1,λu v w L'=>(k1 u v w L').2,λu v=>(k2 u v u).1,λu v w=>(k2 u v w).2⟩
theorem Bk.gv(h:Bk H M L B N)(j:Nat)(hl:∀u v,j<(M u v).length)(ha:∀u v,(M u v)[j]?=some (.cells v 88))(hy:∀u v w,(M u v).set j (.cells w 88)=M u w):(∀u v L',(B u v++L')[H.length+j]?=some (.cells v 88))/\(∀u v w L',(B u v++L').set (H.length+j) (.cells w 88)=B u w++L')/\(∀u v,(B u v)[H.length+j]?=some (.cells v 88))/\∀u v w,(B u v).set (H.length+j) (.cells w 88)=B u w:=by
 have k1:=λu v w L'=>h.g (hl u v) (ha u v) (hy u v w) L';have k2:=λu v w=>k1 u v w [];simp only[SY]at k2;exact⟨λu v L'=>(k1 u v v L').1,λu v w L'=>(k1 u v w L').2,λu v=>(k2 u v v).1,λu v w=>(k2 u v w).2⟩
theorem ahx{x:ak}{p q:Nat}{G:List aa}{k kp:AV->List aa->Prop}(i j:Nat)(M:List AV->List AV->List aa)(u0 v0:List AV)(hG:G=H++M u0 v0)(hx:x.Ok)(gO:x.an=p)(m_:xG x [(q:Int)]=true)(hm:H[0]?=some .main)(h1:(M u0 v0)[i]?=some (.cells [.sl 1 [iv q] .exact] 22))(h2:(M u0 v0)[j]?=some (.cells x.l 26))(hn:∀u v,(M u v).length=(M u0 v0).length)(hk:∀D L mp N B,fy x 1 D->bH D->(D.l mp).length=28->(∀a∈D.l mp,a.leaf=true)->Bk H M L B N->k (.aJ [x.av,.agg (D.l mp),iv (eS D)]) (B u0 v0)):ba true SC 51 G [x.av,iv 1,.fn (.func 80) [] [.op (H.length+i) 0,.op (H.length+j) 0]] k kp:=by
 subst hG;refine yu (x:=x) (b:=xG x [(q:Int)]) hx gO (fA hm) (λL k kp hk=>dC (IC (x:=x) (ns:=[(q:Int)]) (e:=.exact) (il:=H.length+i) (ir:=H.length+j) hx (by simp) ?_ ?_ hk)) (λh=>by rw[m_]at h;cases h) λ_ js D L mp gZ ji dU so hg=> ?_
 ·rw[SD,a_];exact fA h1
 ·rw[SD,a_];exact fA h2
 ·have:=hk D L mp (H.length+(M u0 v0).length+L.length) (λu v=>H++(M u v++L)) ⟨p,js,gO,gZ,ji,dU⟩ dU (Kn.len dU mp) (ui D mp) ⟨λ_ _=>rfl,λu v=>by rw[S9,S9,hn];omega⟩;rw[SD];exact this
end
def xB (x:ak)(q:Nat)(u v:List AV):Nat->List aa
 |10=>[.cells u 76]
 |11=>[.cells v 88]
 |4=>[.cells x.l 26,.cells [.sl 1 [iv q] .exact] 22]
 |_=>[]
def xA (f:Nat->List aa)(D:List Nat):List Nat->List aa
 |[]=>[]
 |i::l=>(bif isDone i D then f i else[])++xA f D l
def nW (H:List aa)(x:ak)(q:Nat)(u v:List AV)(l:List Nat)(D:List Nat):List aa:=H++(.cells x.l 26::xA (xB x q u v) D l)
def LJ (x:ak)(q:Nat)(Bf:List AV->List AV->List aa)(u0 v0 u v:List AV)(t D:List Nat):List aa:=Bf (bif t.contains 10 then u0 else bif isDone 12 D then u else u0) (bif t.contains 11 then v0 else bif isDone 13 D then v else v0)++xA (xB x q (bif isDone 12 D then u else u0) (bif isDone 13 D then v else v0)) D t
theorem lf{P:Prop}{α:Type}(t:List Nat)(M:α)(ix:Nat->Nat)(h:∀t' M' ix',t=t'->M=M'->ix=ix'->P):P:=h t M ix rfl rfl rfl
def pL (x:ak)(q:Nat)(l:List Nat)(u v:List AV):List aa:=.cells x.l 26::l.flatMap (xB x q u v)
theorem amN{H:List aa}{x:ak}{q nt:Nat}{ops:Array Tv}{c:T9}{Ψ:am->AS->Prop}(ho:nt=27/\ops=opsOf (cs (am_.body.getD .skip))\/nt=29/\ops=opsOf (cs (ZJ.body.getD .skip)))(hx:x.Ok)(hq:q<x.pieces.length)(hm:H[0]?=some .main)(rest:∀y:Nat×Nat×Kn×List aa,fy x 1 y.2.2.1/\bH y.2.2.1/\(∃L,y.2.2.2=H++L)/\y.2.2.2[H.length]?=some (.cells x.l 26)/\y.2.2.2[y.1]?=some (.cells (y.2.2.1.l y.2.1) 88)->am.then (λs'=>aU true SC none nt c s' Ψ) Ψ .normal ⟨[(7,.op y.1 0),(8,iv (eS y.2.2.1)),(1,iv q),(2,.op H.length 0)],y.2.2.2⟩):DG true SC none nt ops ops ⟨[(5,iv 0),(4,.sl 0 [] .exact),(2,.op H.length 0),(0,.agg x.l),(1,iv q)],H++[.cells x.l 26]⟩ (am.then (λs'=>aU true SC none nt c s' Ψ) Ψ):=by
 rcases ho with⟨rfl,rfl⟩|⟨rfl,rfl⟩
 all_goals
  dsimp only[ZJ,am_,S8,cs,opsOf];have hp:=hx.an;have m9:=hx.cZ;have m_:=aa9 hq;obtain⟨p,gO⟩:∃p:Nat,x.an=p:=⟨x.an.toNat,by omega⟩;have bP:x.l=[iv x.first,iv x.hours,iv x.an,dS x.seen,aZ x.pieces,aZ x.aB]:=rfl;have fS:∀(L:List aa)(j:Nat),(H++L)[H.length+j]?=L[j]?:=λL j=>a_ H L j;have zi:∀(L:List aa)(j:Nat)(y:aa),(H++L).set (H.length+j) y=H++L.set j y:=λL j y=>dX H L j y;have bh:∀(L:List aa),(H++L)[H.length]?=L[0]?:=λL=>a_ H L 0;have dA:x.l.length=6:=rfl;have Eg:(1<=2^24)=True:=eq_true (by decide);have hO:Un 6 x.l=x.l:=rfl;obtain⟨u0,hu⟩:∃u0:List AV,u0=[.val (.int .i64 0),.val (.int .i64 0),.val (.int .i64 0),.sl 0 [] .exact,.sl 0 [] .exact,.sl 0 [] .exact]:=⟨_,rfl⟩;obtain⟨v0,hv⟩:∃v0:List AV,v0=[.val (.bool false),.val (.map none),.val (.int .u16 0),.val (.int .u16 0),.val (.int .u16 0),.val (.int .u16 0),.val (.int .u16 0),.val (.int .u16 0),.val (.int .u16 0),.val (.int .u16 0),.val (.int .u16 0),.val (.int .u16 0),.val (.int .u16 0),.val (.int .u16 0),.val (.int .u16 0),.val (.int .u16 0),.val (.int .u16 0),.val (.int .i64 0),.val (.int .i64 0),.val (.int .i64 0),.val (.int .i64 0),.val (.int .i64 0),.val (.int .i64 0),.val (.int .i64 0),.val (.int .i64 0),.val (.int .i64 0),.val (.int .i64 0),.val (.int .i64 0)]:=⟨_,rfl⟩;have Fp:=hu.symm;have qP:=hv.symm;have Fy:u0.length=6:=by rw[hu];rfl
  have Fz:v0.length=28:=by rw[hv];rfl
  have RY:Ur 6 u0=[]:=by rw[hu];rfl
  have ub:Ur 28 v0=[]:=by rw[hv];rfl
  refine qn 5 10 rfl (qn 5 11 rfl (qn 4 10 rfl (qn 4 11 rfl (qn 10 11 rfl (lf [] (pL x q [11,10,4]) (λ_=>H.length+1) λt M ix ht hM iw=>o_ 5 [0,1,2,3,11,10,4] [6,7,8,9,12,13,14] [11,10,4] [12,13] (nW H x q u0 v0 [11,10,4]) ?_) (lf [] (pL x q [10,11,4]) (λ_=>H.length+2) λt M ix ht hM iw=>o_ 5 [0,1,2,3,10,11,4] [6,7,8,9,12,13,14] [10,11,4] [12,13] (nW H x q u0 v0 [10,11,4]) ?_)) (lf [] (pL x q [10,4,11]) (λ_=>H.length+4) λt M ix ht hM iw=>o_ 5 [0,1,2,3,10,4,11] [6,7,8,9,12,13,14] [10,4,11] [12,13] (nW H x q u0 v0 [10,4,11]) ?_)) (qn 4 11 rfl (lf [] (pL x q [11,4,10]) (λ_=>H.length+1) λt M ix ht hM iw=>o_ 5 [0,1,2,3,11,4,10] [6,7,8,9,12,13,14] [11,4,10] [12,13] (nW H x q u0 v0 [11,4,10]) ?_) (qn 10 11 rfl (lf [] (pL x q [4,11,10]) (λ_=>H.length+3) λt M ix ht hM iw=>o_ 5 [0,1,2,3,4,11,10] [6,7,8,9,12,13,14] [4,11,10] [12,13] (nW H x q u0 v0 [4,11,10]) ?_) (lf [] (pL x q [4,10,11]) (λ_=>H.length+4) λt M ix ht hM iw=>o_ 5 [0,1,2,3,4,10,11] [6,7,8,9,12,13,14] [4,10,11] [12,13] (nW H x q u0 v0 [4,10,11]) ?_)))) (qn 4 10 rfl (lf [11] (pL x q [10,4]) (λN=>N) λt M ix ht hM iw=>o_ 5 [0,1,2,3,10,4] [6,7,8,9,11,12,13,14] [10,4] [11,12,13] (nW H x q u0 v0 [10,4]) ?_) (lf [11] (pL x q [4,10]) (λN=>N) λt M ix ht hM iw=>o_ 5 [0,1,2,3,4,10] [6,7,8,9,11,12,13,14] [4,10] [11,12,13] (nW H x q u0 v0 [4,10]) ?_))) (qn 5 11 rfl (qn 4 11 rfl (lf [10] (pL x q [11,4]) (λ_=>H.length+1) λt M ix ht hM iw=>o_ 5 [0,1,2,3,11,4] [6,7,8,9,10,12,13,14] [11,4] [10,12,13] (nW H x q u0 v0 [11,4]) ?_) (lf [10] (pL x q [4,11]) (λ_=>H.length+3) λt M ix ht hM iw=>o_ 5 [0,1,2,3,4,11] [6,7,8,9,10,12,13,14] [4,11] [10,12,13] (nW H x q u0 v0 [4,11]) ?_)) (qn 10 11 rfl (lf [11,10] (pL x q [4]) (λN=>N) λt M ix ht hM iw=>o_ 5 [0,1,2,3,4] [6,7,8,9,11,10,12,13,14] [4] [11,10,12,13] (nW H x q u0 v0 [4]) ?_) (lf [10,11] (pL x q [4]) (λN=>N+1) λt M ix ht hM iw=>o_ 5 [0,1,2,3,4] [6,7,8,9,10,11,12,13,14] [4] [10,11,12,13] (nW H x q u0 v0 [4]) ?_)))
  all_goals
   (try simp only[seval,nW,xA,xB,z1,hO,Eg,and_self,bh,Fp,qP,dA,S9,SD]);refine u5 _ _ (dC (Iy (x:=x) (ns:=[(q:Int)]) ⟨rfl,rfl⟩)) ?_;(try simp only[seval,nW,xA,xB,bh,Fp,qP,dA,S9,SD,WV]);refine aM ((ahx _ _ M u0 v0 (by subst hM;rfl) hx gO m_ hm (by subst hM;rfl) (by subst hM;rfl) (by subst hM;exactλ_ _=>rfl) λD L mp N Bf nG dU fb lL hB=> ?_));subst hM
   first
    |obtain⟨yx,zN,yy,zO⟩:=hB.gu 1 (λ_ _=>of_decide_eq_true rfl) (λ_ _=>rfl) λ_ _ _=>rfl
    |obtain⟨yx,zN,yy,zO⟩:=hB.gu 2 (λ_ _=>of_decide_eq_true rfl) (λ_ _=>rfl) λ_ _ _=>rfl
    |obtain⟨yx,zN,yy,zO⟩:=hB.gu 3 (λ_ _=>of_decide_eq_true rfl) (λ_ _=>rfl) λ_ _ _=>rfl
    |obtain⟨yx,zN,yy,zO⟩:=hB.gu 4 (λ_ _=>of_decide_eq_true rfl) (λ_ _=>rfl) λ_ _ _=>rfl
    |obtain⟨yx,zN,yy,zO⟩:=And.intro hB.l (And.intro hB.l (And.intro hB.l hB.l))
   first
    |obtain⟨yz,zP,yA,zQ⟩:=hB.gv 1 (λ_ _=>of_decide_eq_true rfl) (λ_ _=>rfl) λ_ _ _=>rfl
    |obtain⟨yz,zP,yA,zQ⟩:=hB.gv 2 (λ_ _=>of_decide_eq_true rfl) (λ_ _=>rfl) λ_ _ _=>rfl
    |obtain⟨yz,zP,yA,zQ⟩:=hB.gv 3 (λ_ _=>of_decide_eq_true rfl) (λ_ _=>rfl) λ_ _ _=>rfl
    |obtain⟨yz,zP,yA,zQ⟩:=hB.gv 4 (λ_ _=>of_decide_eq_true rfl) (λ_ _=>rfl) λ_ _ _=>rfl
    |obtain⟨yz,zP,yA,zQ⟩:=And.intro hB.l (And.intro hB.l (And.intro hB.l hB.l))
   have hR:=λG a b c=>rest (ix N,mp,D,G) ⟨nG,dU,a,b,c⟩;refine⟨λDD=>LJ x q Bf u0 v0 x.l (D.l mp) t DD,by subst ht;simp only[seval,LJ,xA,xB];first|done|rfl,?_⟩;subst ht iw;(try simp only[seval,LJ,XB,List.contains_cons,xA,xB,Fp,qP,hB.l,hB.n0,hB.s0,hB.n1,hB.s1,dA,fb,Fy,Fz,RY,ub,ak.av,yx,zN,yy,zO,yz,zP,yA,zQ]);refine⟨ut x,lL,?_⟩;exact AR (aqj rfl (by simp only[seval];simp[bN,Wk.refl])) (hR _ ⟨_,by rw[hB.f]<;>first|rfl|rw[SD]⟩ (by rw[hB.f];first|exact a_ H _ 0|(rw[SD];exact a_ H _ 0)) (by simp only[seval,Fp,qP,hB.l,hB.n0,hB.s0,hB.n1,hB.s1,dA,fb,Fy,Fz,RY,ub,ak.av,yx,zN,yy,zO,yz,zP,yA,zQ]))
section
variable {lv:Bool}{H:List aa}{k kp:AV->List aa->Prop}
theorem ahs{x:ak}{q:Nat}(hx:x.Ok)(hq:q<x.pieces.length)(hm:H[0]?=some .main)(hk:∀D,fy x 1 D->(D.has=false->k (.aJ [bp [],iv 11]) H)/\(D.has=true->k (.aJ [bp (fq (D.aA.getD q 0) x.first 16),iv 0]) H)):ba true SC 34 H [x.av,iv q] k kp:=by
 refine bE (rs:=[.tmp 4,.tmp 5]) (nt:=29) ZJ λhH hA=> ?_;simp only[bk,SW,ak.av];have hp:=hx.an;have m9:=hx.cZ;have bP:x.l=[iv x.first,iv x.hours,iv x.an,dS x.seen,aZ x.pieces,aZ x.aB]:=rfl;have bh:∀(L:List aa),(H++L)[H.length]?=L[0]?:=λL=>a_ H L 0;have dA:x.l.length=6:=rfl;refine ai ?_;(repeat apply gX);refine aeL [4,10,11,12,13] [0,1,2,3,4,5,6,7,8,9,10,11,12,13,14] F.mixed (by kernel_rfl) ?_;refine af6 (α:=Nat×Nat×Kn×List aa) (ok:=λy=>fy x 1 y.2.2.1/\bH y.2.2.1/\(∃L,y.2.2.2=H++L)/\y.2.2.2[H.length]?=some (.cells x.l 26)/\y.2.2.2[y.1]?=some (.cells (y.2.2.1.l y.2.1) 88)) (λy=>⟨[(7,.op y.1 0),(8,iv (eS y.2.2.1)),(1,iv q),(2,.op H.length 0)],y.2.2.2⟩) (λy hy=> ?_) (λrest=> ?_)
 ·obtain⟨i,mp,D,G⟩:=y;obtain⟨nG,dU,⟨L0,hG⟩,PV,PU⟩:=hy;dsimp only at hG PV PU;obtain⟨g_,cz⟩:=hk D nG;have eU:∀(ns:List Int)(e:End)(m:Int),k (.aJ [bp ns,iv m]) H->cy H.length G (.aJ [.sl ns.length (ns.map iv) e,iv m]) k:=λns e m h=>by
   rw[hG];exact jx hH (GR (iY _ _ _) (Wk.refl _)) (by simp[jm,eE,bp,un]) h
  (try simp only[seval]);cases iq:D.has with
  |false=>
   have hE:eS D=11:=(by rw[eS,iq];rfl);refine aj ?_;simp only[seval,hE,show ((11:Int)!=0)=true from rfl];refine aE ?_;refine ai ?_;refine aX ?_;exact eU [] .exact 11 (g_ iq)
  |true=>
   have hE:eS D=0:=(by rw[eS,iq];rfl);have cz:=cz iq;obtain⟨u,hu⟩:=cC (xs:=D.aA) (i:=q) (by rw[dU.aA];omega);have lu:=dU.lV _ (Ti hu);have lj:D.aA.getD q 0=u:=(by rw[SE,hu];rfl);rw[lj]at cz;have b3:(0<=(q:Int)/\(q:Int)<4)=True:=(by simp;omega);have BD:=Kn.F3 (mp:=mp) hu;have jh:=hx.first;refine aj ?_;simp only[seval,hE,show ((0:Int)!=0)=false from rfl];refine aE ?_;refine aN ?_;refine eo 6 ?_;simp only[seval,PV,PU,b3,BD,bP];refine aM ((Ix lu (by omega) ?_));(try simp only[seval]);refine aX ?_;exact eU _ _ 0 cz
 ·exact amN (.inr ⟨rfl,rfl⟩) hx hq hm rest
end
theorem alm{x:ak}{deep:Int}{D:Kn}(hx:x.Ok)(h:fy x deep D)(hh:D.has=true):jc x D.first:=by
 obtain⟨p,js,h1,h2,h3,_⟩:=h;have hp:=hx.an;have hj:∀j∈js,j<x.an.toNat+1:=λj hj=>by have:=TE.1 (h2.mem_iff.1 hj);omega
 obtain⟨j,a,t,l,b,c,d⟩:=Sd hx h3 (h2.nodup_iff.2 WW) hj hh;rw[c];exact PL (deep:=deep) (j:=j) hx (by have:=hj j a;omega) (by rw[b];simp)
namespace Tk
def rV (x:ak)(t:List Int)(i:Nat):List Int:=(SV i).map λp=>t.getD (4+p) 0+x.first
def rW (t:List Int)(i:Nat):List Int:=(SV i).map λs=>t.getD (8+s) 0
theorem ahX(x:ak)(t:List Int)(i:Nat):rV x t (i+1)=rV x t i++[t.getD (4+i) 0+x.first]:=by
 unfold rV;rw[Vk,TF];rfl
theorem ahZ(t:List Int)(i:Nat):rW t (i+1)=rW t i++[t.getD (8+i) 0]:=by
 unfold rW;rw[Vk,TF];rfl
theorem ahW(x:ak)(t:List Int)(i:Nat):(rV x t i).length=i:=by simp[rV]
theorem ahY(t:List Int)(i:Nat):(rW t i).length=i:=by simp[rW]
end Tk
theorem aro{a a' b b' c c' d d':AV}(h1:Wk a a')(h2:Wk b b')(h3:Wk c c')(h4:Wk d d'):Wk (.aJ [a,b,c,d]) (.aJ [a',b',c',d']):=λE v h=>by
 cases h with
 |aJ hs h=>
  refine .aJ hs λi x e=> ?_
  match i with
  |0=>cases e;exact h1 _ _ (h 0 a rfl)
  |1=>cases e;exact h2 _ _ (h 1 b rfl)
  |2=>cases e;exact h3 _ _ (h 2 c rfl)
  |3=>cases e;exact h4 _ _ (h 3 d rfl)
section
variable {lv:Bool}{H:List aa}{k kp:AV->List aa->Prop}
theorem ahf{x:ak}(hx:x.Ok)(hm:H[0]?=some .main)(hk:∀D,fy x 0 D->(D.has=false->k (.aJ [bp [],bp [],bp [],iv 11]) H)/\(D.has=true->k (.aJ [bp (D.first.take (x.hours.toNat+1)),bp (rV x D.first x.pieces.length),bp (rW D.first x.aB.length),iv 0]) H)):ba true SC 18 H [x.av] k kp:=by
 refine bE (rs:=[.tmp 2,.tmp 3,.tmp 4,.tmp 5]) (nt:=64) Tryz.f18 λhH hA=> ?_;simp only[bk,SW,ak.av];have hp:=hx.an;have hh:=hx.hours;have m9:=hx.cZ;have aP:=hx.eP;have jh:=hx.first;obtain⟨p,gO⟩:∃p:Nat,x.an=p:=⟨x.an.toNat,by omega⟩;have bP:x.l=[iv x.first,iv x.hours,iv x.an,dS x.seen,aZ x.pieces,aZ x.aB]:=rfl;have bh:∀(L:List aa),(H++L)[H.length]?=L[0]?:=λL=>a_ H L 0;have dA:x.l.length=6:=rfl;have hO:Un 6 x.l=x.l:=rfl;refine ai ?_;refine aj ?_;simp only[seval,bh,dA,hO];refine aM ((yu (x:=x) hx gO (fA hm) HD (λh=>by cases h) λ_ js D L mp gZ ji dU so hg=> ?_));have nG:fy x 0 D:=⟨p,js,gO,gZ,ji,dU⟩;have fb:=Kn.len dU mp;have lL:=ui D mp;obtain⟨g_,cz⟩:=hk D nG;obtain⟨Y,hY⟩:∃Y:List aa,Y=[aa.cells x.l 26]++L:=⟨_,rfl⟩;obtain⟨B,hB⟩:∃B,B=H++Y:=⟨_,rfl⟩;have rY:H++[aa.cells x.l 26]++L=B:=by rw[hB,hY,SD]
 have yO:∀(L':List aa),(B++L')[H.length]?=some (.cells x.l 26):=λL'=>by rw[hB,hY,SD,bh];rfl
 have bn:∀(L':List aa)(j:Nat),(B++L')[B.length+j]?=L'[j]?:=λL' j=>a_ B L' j;have uT:∀(L':List aa)(j:Nat)(y:aa),(B++L').set (B.length+j) y=B++L'.set j y:=λL' j y=>dX B L' j y;have eU:∀(L':List aa)(l1 l2 l3:List Int)(e e' OO:End)(m:Int),k (.aJ [bp l1,bp l2,bp l3,iv m]) H->cy H.length (B++L') (.aJ [.sl l1.length (l1.map iv) e,.sl l2.length (l2.map iv) e',.sl l3.length (l3.map iv) OO,iv m]) k:=λL' l1 l2 l3 e e' OO m h=>by
  rw[hB,SD];exact jx hH (aro (iY _ _ _) (iY _ _ _) (iY _ _ _) (Wk.refl _)) (by simp[jm,eE,bp,un]) h
 rw[rY];clear rY hg;(try simp only[seval,ak.av,dA,fb]);refine⟨ut x,lL,?_⟩;cases iq:D.has with
 |false=>
  have hE:eS D=11:=by rw[eS,iq];rfl
  refine aj ?_;simp only[seval,hE,show ((11:Int)!=0)=true from rfl];refine aE ?_;refine ai ?_;refine aX ?_;exact eU _ [] [] [] .exact .exact .exact 11 (g_ iq)
 |true=>
  have hE:eS D=0:=by rw[eS,iq];rfl
  have cz:=cz iq;have pG:=alm hx nG iq;obtain⟨t,ht⟩:∃t,t=D.first:=⟨_,rfl⟩;rw[<- ht]at pG cz;have pF:=pG.len;obtain⟨pre,QT,Jn⟩:∃pre:List AV,pre.length=17/\D.l mp=pre++(t.map iv++[]):=⟨bv D.has:: .mp mp::(D.aA.map (λn=>wv n)++(D.hours.map (λn=>wv n)++(D.less.map (λn=>wv n)++D.aS.map (λn=>wv n)))),by simp[dU.aA,dU.hours,dU.less,dU.aS],by rw[ht];simp[Kn.l]⟩;obtain⟨n,hn⟩:∃n:Nat,x.hours=n:=⟨x.hours.toNat,by omega⟩;have oG:x.hours+1=((n+1:Nat):Int):=by omega
  have bQ:SF.wrap (x.hours+1)=((n+1:Nat):Int):=by rw[bC _ (by omega)];exact oG
  have di:Ur 1 x.l=[iv x.hours,iv x.an,dS x.seen,aZ x.pieces,aZ x.aB]:=rfl;have yS:Ur 4 x.l=[.sl x.pieces.length (x.pieces.flatMap aG.l) .shut,.sl x.aB.length (x.aB.flatMap aG.l) .shut]:=rfl;have qA:Ur 5 x.l=[.sl x.aB.length (x.aB.flatMap aG.l) .shut]:=rfl;refine aj ?_;simp only[seval,hE,show ((0:Int)!=0)=false from rfl];refine aE ?_;refine aN ?_;have AW:∀(L':List aa),(B++L')[B.length+1]?=L'[1]?:=λL'=>bn L' 1;have ye:∀(L':List aa),(B++L')[B.length+2]?=L'[2]?:=λL'=>bn L' 2;have tg:∀(L':List aa)(y:aa),(B++L').set (B.length+2) y=B++L'.set 2 y:=λL' y=>uT L' 2 y;have bn3:∀(L':List aa),(B++L')[B.length+3]?=L'[3]?:=λL'=>bn L' 3;have bs3:∀(L':List aa)(y:aa),(B++L').set (B.length+3) y=B++L'.set 3 y:=λL' y=>uT L' 3 y;have bn4:∀(L':List aa),(B++L')[B.length+4]?=L'[4]?:=λL'=>bn L' 4;have bs4:∀(L':List aa)(y:aa),(B++L').set (B.length+4) y=B++L'.set 4 y:=λL' y=>uT L' 4 y;refine aj ?_;simp only[seval,yO,di,bQ,ac2];refine⟨by omega,by omega,?_⟩;have vp:(D.l mp).drop 17=t.map iv:=by rw[Jn,SY,Wp (by omega),WX (by omega),UD]
  have akS:((n:Int)+1).toNat=n+1:=by omega
  have pA:min 4 (n+1)=n+1:=by omega
  have BR:min 4 11=4:=rfl;have Q_:min (n+1) 4=n+1:=by omega
  have aV:Un (n+1) (Un 4 (UY iv t))++Ur (n+1) (UY iv (TM (n+1) 0))=(t.take (n+1)).map iv:=by rw[U0,Q_,WX (by simp),SY,VE]
  refine aj ?_;simp only[seval,vp,akS,pA,BR,pF,Q_,TR,YJ,AW,ye,tg];refine⟨by rw[<- VE];exact of_eq_true (Sw _),?_⟩;rw[aV];obtain⟨tl,KH⟩:∃tl,tl=t.take (n+1):=⟨_,rfl⟩;have RL:tl.length=n+1:=by rw[KH,TR];omega
  have BX:x.hours.toNat=n:=by omega
  rw[BX,<- KH]at cz;rw[<- KH]
  (repeat apply gX);refine HG (id:=B.length+2) (by simp only[seval,ye]<;>rfl) ?_
  simp only[seval,tg,RL]
  (repeat apply gX);refine NU (t:=2) (y:=bp tl) (by simp only[seval]<;>rfl) ?_ ?_
  ·have e:bp tl=.sl (n+1) ((tl.map iv).take (n+1)) .shut:=by
    rw[SX (by simp;omega),bp,RL]
   rw[e];exact MZ (p:=n+1) (by simp only[seval,ye]<;>rfl) (by omega) (by simp;omega)
  (repeat apply gX);refine uP (t:=3) (sz:=1) (el:=3) (by simp only[seval]<;>rfl) ?_
  refine aj ?_;simp only[seval,yO,yS];obtain⟨gl,nO⟩:∃gl:Nat->List Int,∀i,gl i=rV x t i:=⟨_,λ_=>rfl⟩;have BI:gl 0=[]:=by rw[nO];rfl
  have JJ:∀i,(gl i).length=i:=λi=>by rw[nO];exact ahW _ _ _
  refine cF ?_;refine gA x.pieces.length (λi:Nat=>[(3,.sl (gl i).length ((gl i).map iv) (.opn (B.length+3))),(31,iv i)]) (λi=>B++[.cells x.l 76,.cells (D.l mp) 88,.part (n+1) (tl.map iv) 3,.tail (gl i).length 1 3]) (λi=>True) (λ_ _=>rfl) (by rw[BI];simp only[seval];simp[bN,Wk.refl]) (by rw[BI];rfl) (λ_ _ _=>by simp) trivial (λbT cW i b_ _ R hR=> ?_);refine ai ?_;refine aE ?_;refine⟨λh=> ?_,λh=> ?_⟩
  ·have bt:i<x.pieces.length:=(by omega);obtain⟨v,hv,hv9,_⟩:=pG.num i bt;have BK:t.getD (4+i) 0=v:=(by rw[SE,hv];rfl);have b3:(0<=(i:Int)/\(i:Int)<4)=True:=(by simp;omega);have fD:SF.wrap ((i:Int)+1)=((i+1:Nat):Int):=(by rw[bC _ (by omega)];rfl);have Cd:SF.wrap ((v:Int)+x.first)=v+x.first:=bC _ (by omega);have Jv:(D.l mp).drop (21+i)=iv v::((t.drop (4+i+1)).map iv++[]):=by
    have:=D3 Jn QT hv;rw[show 21+i=17+(4+i) by omega];exact this
   have cU:gl (i+1)=gl i++[(v:Int)+x.first]:=(by rw[nO,nO,ahX,BK]);have QW:=JJ i;refine aN ?_;refine ai ?_;refine eo 10 ?_;simp only[seval,z1,yO,AW,b3,Jv,Cd,bP,bn3,bs3]
   first|refine⟨by decide,by omega,?_⟩|refine⟨by omega,?_⟩
   refine aj ?_;simp only[seval,fD];refine hR _ ⟨bt,trivial,?_⟩;rw[cU,TF,S9];exact dn
  ·have dl:i=x.pieces.length:=(by omega);subst dl;clear hR;refine b9 ?_
   (repeat apply gX);refine uP (t:=4) (sz:=1) (el:=3) (by simp only[seval]<;>rfl) ?_
   have Fx:(gl x.pieces.length)=rV x t x.pieces.length:=nO _;generalize gl x.pieces.length=nl at Fx⊢;refine aj ?_;simp only[seval,yO,qA];obtain⟨go,hgo⟩:∃go:Nat->List Int,∀i,go i=rW t i:=⟨_,λ_=>rfl⟩;have QC:go 0=[]:=(by rw[hgo];rfl);have ajK:∀i,(go i).length=i:=λi=>(by rw[hgo];exact ahY _ _);refine cF ?_;refine gA x.aB.length (λi:Nat=>[(4,.sl (go i).length ((go i).map iv) (.opn (B.length+4))),(49,iv i)]) (λi=>B++[.cells x.l 76,.cells (D.l mp) 88,.part (n+1) (tl.map iv) 3,.tail nl.length 1 3,.tail (go i).length 1 3]) (λi=>True) (λ_ _=>rfl) (by rw[QC];simp only[seval];simp[bN,Wk.refl]) (by rw[QC];rfl) (λ_ _ _=>by simp) trivial (λbT cW i b_ _ R hR=> ?_);refine ai ?_;refine aE ?_;refine⟨λh=> ?_,λh=> ?_⟩
   ·have bt:i<x.aB.length:=(by omega);obtain⟨v,hv,hv9⟩:=pG.own i bt;have BK:t.getD (8+i) 0=v:=(by rw[SE,hv];rfl);have b3:(0<=(i:Int)/\(i:Int)<3)=True:=(by simp;omega);have fD:SF.wrap ((i:Int)+1)=((i+1:Nat):Int):=(by rw[bC _ (by omega)];rfl);have Jv:(D.l mp).drop (25+i)=iv v::((t.drop (8+i+1)).map iv++[]):=by
     have:=D3 Jn QT hv;rw[show 25+i=17+(8+i) by omega];exact this
    have cU:go (i+1)=go i++[(v:Int)]:=(by rw[hgo,hgo,ahZ,BK]);have QW:=ajK i;refine aN ?_;refine ai ?_;refine aj ?_;simp only[seval,z1,AW,b3,Jv,bn4,bs4]
    first|refine⟨by decide,by omega,?_⟩|refine⟨by omega,?_⟩
    refine aj ?_;simp only[seval,fD];refine hR _ ⟨bt,trivial,?_⟩;rw[cU,TF,S9];exact dn
   ·have dl:i=x.aB.length:=(by omega);subst dl;clear hR;refine b9 ?_;have RX:(go x.aB.length)=rW t x.aB.length:=hgo _;generalize go x.aB.length=ol at RX⊢;refine ai ?_;refine aX ?_;rw[<- Fx,<- RX]at cz;exact eU _ tl nl ol .shut _ _ 0 cz
end
open Go.Conc Go.Proofs Go.Gg.Tk
namespace Tk
def aax (n:Int)(o k:Int):Int:=xv [o,max (k-n) (n-k)]
def Cz (l:List Int)(n:Int)(o:Int):Int:=l.foldl (aax n) o
def qh (own q:Nat)(m:Int×Nat)(t:List Int):Int×Nat:=if m.2.testBit (lY t q)then m else(Cz (fq own 0 16) (lY t q) m.1,m.2|||2^lY t q)
def uJ (x:ak)(y:aG)(q:Nat)(o:Int)(h:List Int):Int:=if bW h y=0 then o else((iX x 1 h).foldl (qh (bW h y) q) (o,0)).1
def yb (x:ak)(y:aG)(q:Nat):Nat->Int
 |0=> -1
 |i+1=>(j3 x i).foldl (uJ x y q) (yb x y q i)
def Hz (x:ak)(i:Nat):List aa:=[.cells x.l 76,.cells [iv i] 3,.obj (.deferred (some [])),.gone]
def oo (x:ak):Nat->List aa
 |0=>[]
 |i+1=>oo x i++Hz x i
def ws (n:Nat):Nat->List Nat
 |0=>[]
 |i+1=>(n+4* i+2)::ws n i
theorem HA(x:ak):∀i,(oo x i).length=4* i
 |0=>rfl
 |i+1=>by rw[oo,S9,HA x i];rfl
theorem ND(x:ak)(B:List aa):∀(i:Nat)(L:List aa),∃Y,ii (ws B.length i) (B++oo x i++L)=some (B++Y)
 |0,L=>⟨oo x 0++L,by rw[ws,yD,SD]⟩
 |i+1,L=>by
  have hl:(B++oo x i).length=B.length+4* i:=by rw[S9,HA]
  have e:B++oo x (i+1)++L=(B++oo x i)++(Hz x i++L):=by rw[oo];simp
  have hg:((B++oo x i)++(Hz x i++L))[B.length+4* i+2]?=some (.obj (.deferred (some []))):=by rw[<- hl,a_];rfl
  obtain⟨Y,hY⟩:=ND x B i ([.cells x.l 76,.cells [iv i] 3,.gone,.gone]++L);refine⟨Y,?_⟩;rw[ws,e,yC hg,<- hl,dX];exact hY
end Tk
theorem ae1{lv:Bool}{P:SJ}{nt:Nat}{c:T9}{s:AS}{ms:List Nat}{Φ:am->AS->List Nat->Prop}(h:jT lv P nt [] c s ms Φ):l6 lv P nt c s ms Φ:=λE V a Q ah hd hQ=>
 h E V a Q ah ⟨by rw[SY];exact hd.1,hd.2⟩ λae e E' V' a' s' cw hk aQ cr he hΦ=>hQ ae e E' V' a' s' cw hk aQ ⟨by have:=cr.1;rwa [SY]at this,cr.2⟩ he hΦ
section
variable {lv:Bool}{H:List aa}{k kp:AV->List aa->Prop}
theorem ahq{x:ak}{s q:Nat}{y:aG}(hx:x.Ok)(hs:x.aB[s]?=some y)(hq:q<x.pieces.length)(hk:∀o:Int,o=yb (x.wo [(s:Int)]) y q (x.an.toNat+1)->k (.aJ [iv (if o<0 then 0 else o),iv (if o<0 then 11 else 0)]) H):ba lv SC 31 H [x.av,iv s,iv q] k kp:=by
 refine Pr (rs:=[.tmp 6,.tmp 7]) (nt:=97) F.f31 rfl rfl rfl (by simp) λhH hA=> ?_;simp only[bk,SW,ak.av];have hp:=hx.an;have aP:=hx.eP;have m9:=hx.cZ;have dG:=eB hs;have m_:=aa9 hq;obtain⟨p,gO⟩:∃p:Nat,x.an=p:=⟨x.an.toNat,by omega⟩;obtain⟨w,hw⟩:∃w,w=x.wo [(s:Int)]:=⟨_,rfl⟩;have KP:w.Ok:=by rw[hw];exact hx.wo _
 have bP:x.l=[iv x.first,iv x.hours,iv x.an,dS x.seen,aZ x.pieces,aZ x.aB]:=rfl;have fS:∀(L:List aa)(j:Nat),(H++L)[H.length+j]?=L[j]?:=λL j=>a_ H L j;have zi:∀(L:List aa)(j:Nat)(y:aa),(H++L).set (H.length+j) y=H++L.set j y:=λL j y=>dX H L j y;have bh:∀(L:List aa),(H++L)[H.length]?=L[0]?:=λL=>a_ H L 0;have di:∀(L:List aa),(H++L)[H.length+1]?=L[1]?:=λL=>a_ H L 1;have kC:∀(L:List aa),(H++L)[H.length+2]?=L[2]?:=λL=>a_ H L 2;have qA:∀(L:List aa),(H++L)[H.length+5]?=L[5]?:=λL=>a_ H L 5;have Kw:∀(L:List aa)(y:aa),(H++L).set (H.length+5) y=H++L.set 5 y:=λL y=>dX H L 5 y;have hd6:∀(L:List aa),(H++L)[H.length+6]?=L[6]?:=λL=>a_ H L 6;have hs6:∀(L:List aa)(y:aa),(H++L).set (H.length+6) y=H++L.set 6 y:=λL y=>dX H L 6 y;have dA:x.l.length=6:=rfl;have hO:Un 6 x.l=x.l:=rfl;have Qv:Ur 5 x.l=[.sl x.aB.length (x.aB.flatMap aG.l) .shut]:=rfl;have BC:Ur 2 x.l=[iv x.an,dS x.seen,aZ x.pieces,aZ x.aB]:=rfl;have Eg:(1<=2^24)=True:=eq_true (by decide);(try refine mJ ?_);refine ai ?_;(try refine mJ ?_);refine aj ?_;simp only[seval,bh,dA,hO];refine aM ((Iz (x:=x) hx ?_));(try simp only[seval]);(try refine mJ ?_);refine aj ?_;simp only[seval,show ((0:Int)!=0)=false from rfl];(try refine mJ ?_);refine aE ?_;refine aN ?_;(try refine mJ ?_);refine aj ?_;simp only[seval,z1,Eg,bh,kC,dA,hO];refine aM ((Iy (x:=x) (ns:=[(q:Int)]) ?_));have bQ:SF.wrap ((x.aB.length:Int)-1)=(x.aB.length:Int)-1:=bC _ (by omega);have ho1:(decide ((s:Int)<0)||decide ((s:Int)>(x.aB.length:Int)-1))=false:=by simp;omega
 (try simp only[seval]);refine aM ((IC (x:=x) (ns:=[(q:Int)]) (e:=.exact) (il:=H.length+4) (ir:=H.length+3) hx (by simp) (by rw[fS];rfl) (by rw[fS];rfl) ?_));rw[m_];(try simp only[seval,bh,di,Qv,bQ]);refine aM ((rU (n:=s) (lo:=0) (hi:=(x.aB.length:Int)-1) ?_));rw[ho1];(try simp only[seval]);(try refine mJ ?_);refine aE ?_;refine aN ?_;(try refine mJ ?_);have ai5:sR [(s:Int)] x.aB.length:=λi n hn=>by
  match i,hn with
  |0,hn=>cases hn;simp;omega
 refine aj ?_;simp only[seval,z1,Eg,bh,di,dA,hO];refine aM ((O_ (x:=x) (ns:=[(s:Int)]) aP ai5 ?_));rw[<- hw];have qS:w.l.length=6:=rfl;have ua:Un 6 w.l=w.l:=rfl;have QZ:w.l=[iv w.first,iv w.hours,iv w.an,dS w.seen,aZ w.pieces,aZ w.aB]:=rfl;have KT:Ur 6 [AV.val (SG SF 0),AV.val (SG SF 0),AV.val (SG SF 0),AV.sl 0 [] .exact,AV.sl 0 [] .exact,AV.sl 0 [] .exact]=[]:=rfl;(try simp only[seval,ak.av,qS,ua,qA,Kw,hd6,hs6,KT]);refine⟨ut w,?_⟩;have gP:SF.wrap (x.an+1)=((p+1:Nat):Int):=by rw[gO,bC _ (by omega)];rfl
 refine HJ ?_;refine mJ ?_;refine aj ?_;simp only[seval,bh,BC,gP];obtain⟨Bo,qu⟩:∃Bo:Int->List aa,∀o,Bo o=H++[.cells x.l 26,.cells [iv s] 3,.cells [iv q] 3,.cells x.l 26,.cells [.sl 1 [iv q] .exact] 22,.cells w.l 76,.cells [iv o] 3]:=⟨_,λ_=>rfl⟩;have fB:∀o,(Bo o).length=H.length+7:=λo=>by rw[qu];simp
 have b0:∀o L,(Bo o++L)[H.length]?=some (.cells x.l 26):=λo L=>by rw[qu,SD,bh];rfl
 have b1:∀o L,(Bo o++L)[H.length+1]?=some (.cells [iv s] 3):=λo L=>by rw[qu,SD,fS];rfl
 have b2:∀o L,(Bo o++L)[H.length+2]?=some (.cells [iv q] 3):=λo L=>by rw[qu,SD,fS];rfl
 have b5:∀o L,(Bo o++L)[H.length+5]?=some (.cells w.l 76):=λo L=>by rw[qu,SD,fS];rfl
 have b6:∀o L,(Bo o++L)[H.length+6]?=some (.cells [iv o] 3):=λo L=>by rw[qu,SD,fS];rfl
 have s6:∀o o' L,(Bo o++L).set (H.length+6) (.cells [iv o'] 3)=Bo o'++L:=λo o' L=>by rw[qu,qu,SD,SD,zi];rfl
 obtain⟨fo,vu⟩:∃fo:Nat->Int,∀i,fo i=yb w y q i:=⟨_,λ_=>rfl⟩;refine ae1 ?_;refine ww ?_;refine NW (measure λi=>p+1-i).wf (λi:Nat=>⟨[(45,iv i),(44,iv ((p+1:Nat):Int)),(3,.op H.length 0),(4,.op (H.length+1) 0),(5,.op (H.length+2) 0),(9,.op (H.length+5) 0),(10,.op (H.length+6) 0)],Bo (fo i)++oo w i⟩) (λi=>ws (H.length+7) i) (λi=>i<=p+1) 0 (fx (by simp only[seval];simp[bN,Wk.refl]) (by rw[qu,vu];show _=_++[];rw[SY];rfl)) rfl (by omega) λi nP=> ?_;obtain⟨N,hN⟩:∃N,N=H.length+7+4* i:=⟨_,rfl⟩;obtain⟨AO,pf⟩:∃AO:Int->List aa,∀o,AO o=Bo o++oo w i:=⟨_,λ_=>rfl⟩;have pi:∀o,(AO o).length=N:=λo=>by rw[pf,S9,fB,HA,hN]
 have a0:∀o L,(AO o++L)[H.length]?=some (.cells x.l 26):=λo L=>by rw[pf,SD];exact b0 _ _
 have a1:∀o L,(AO o++L)[H.length+1]?=some (.cells [iv s] 3):=λo L=>by rw[pf,SD];exact b1 _ _
 have a2:∀o L,(AO o++L)[H.length+2]?=some (.cells [iv q] 3):=λo L=>by rw[pf,SD];exact b2 _ _
 have a5:∀o L,(AO o++L)[H.length+5]?=some (.cells w.l 76):=λo L=>by rw[pf,SD];exact b5 _ _
 have a50:∀o,(AO o)[H.length+5]?=some (.cells w.l 76):=λo=>by have:=a5 o [];rwa [SY]at this
 have a6:∀o L,(AO o++L)[H.length+6]?=some (.cells [iv o] 3):=λo L=>by rw[pf,SD];exact b6 _ _
 have as6:∀o o' L,(AO o++L).set (H.length+6) (.cells [iv o'] 3)=AO o'++L:=λo o' L=>by rw[pf,pf,SD,SD];exact s6 _ _ _
 have ag:∀o (L:List aa)(j:Nat),(AO o++L)[N+j]?=L[j]?:=λo L j=>by rw[<- pi o,a_]
 have s_:∀o (L:List aa)(j:Nat)(y:aa),(AO o++L).set (N+j) y=AO o++L.set j y:=λo L j y=>by rw[<- pi o,dX]
 have LQ:∀m o o',(∀z∈AO o,eR m z)->∀z∈AO o',eR m z:=λm o o' hz z eO=>by
  rw[pf,qu]at hz eO;simp only[SS]at eO;rcases eO with(h'|h')|h'
  ·exact hz z (by simp[h'])
  ·simp only[SL,S0,or_false]at h';rcases h' with rfl|rfl|rfl|rfl|rfl|rfl|rfl
   ·exact hz _ (by simp)
   ·exact hz _ (by simp)
   ·exact hz _ (by simp)
   ·exact hz _ (by simp)
   ·exact hz _ (by simp)
   ·exact hz _ (by simp)
   ·intro a ha;rw[S5]at ha;subst ha;exact .val _
  ·exact hz z (by simp[h'])
 have okX:∀(X:List aa) o o',bM (AO o++X)->bM (AO o'++X):=λX o o' hX z hz=>by
  have hlen:(AO o'++X).length=(AO o++X).length:=by simp[pi]
  rw[hlen];rcases SS.1 hz with h'|h'
  ·exact LQ _ o o' (λz hz=>hX z (Te _ hz)) z h'
  ·exact hX z (S4 _ h')
 rw[<- pf];refine rN ?_;refine ai ?_;refine rN ?_;refine aE ?_;refine⟨λhc=> ?_,λhc=> ?_⟩
 ·have pq:i<=3:=by omega
  have I1:=CZ KP i pq;refine aN ?_;refine DL ?_;refine ww ?_;refine rN ?_;refine ai ?_;refine rN ?_;refine aj ?_;simp only[seval,a50,QZ];refine aM ((IA (x:=w) (n:=i) ?_));rw[pi];(try simp only[seval]);refine ww ?_;refine HK (by rfl) λl fn T NC bo hT wR pn=> ?_;(try simp only[seval]);rw[pi];have hY:jr lv SC (.fn (.yield l) [] []) (λo h=> .go (uJ w y q o h)) (λo=>AO o++[.cells w.l 76,.cells [iv i] 3,.obj (.deferred (some [])),.loop l .ready none fn T 97 #[51] NC bo (N+2)]) (N+4) (λ_=>True) (λh=>l7 h/\∀ns∈fJ w h,∀a∈(gS w h ns).map (dp h ns),jc w a) (.aJ []):=by
   refine⟨λo h M k kp _ ha dw=> ?_,λ_ _ _ _ _ _=>trivial,λo=>by simp[pi],λm o o' hz z eO=> ?_,rfl,rfl,rfl⟩
   ·obtain⟨oC,Cb⟩:=ha;have h4:=oC.len;have mQ:(h.map iv).length=4:=(by rw[Tn,h4]);simp only[cP]at dw;obtain⟨Lo,kA⟩:∃Lo,Lo=aa.loop l .busy none fn T 97 #[51] NC bo (N+2):=⟨_,rfl⟩;obtain⟨C,hC⟩:∃C,C=N+4+M.length:=⟨_,rfl⟩;obtain⟨P1,dh⟩:∃P1:Int->List aa,∀o,P1 o=AO o++([.cells w.l 76,.cells [iv i] 3,.obj (.deferred (some [])),Lo]++M):=⟨_,λ_=>rfl⟩;have d_:∀o,(P1 o).length=C:=λo=>(by rw[dh,hC];simp[pi];omega);have p0:∀o L,(P1 o++L)[H.length]?=some (.cells x.l 26):=λo L=>(by rw[dh,SD];exact a0 _ _);have p1:∀o L,(P1 o++L)[H.length+1]?=some (.cells [iv s] 3):=λo L=>(by rw[dh,SD];exact a1 _ _);have p2:∀o L,(P1 o++L)[H.length+2]?=some (.cells [iv q] 3):=λo L=>(by rw[dh,SD];exact a2 _ _);have p5:∀o L,(P1 o++L)[H.length+5]?=some (.cells w.l 76):=λo L=>(by rw[dh,SD];exact a5 _ _);have p6:∀o L,(P1 o++L)[H.length+6]?=some (.cells [iv o] 3):=λo L=>(by rw[dh,SD];exact a6 _ _);have ps6:∀o o' L,(P1 o++L).set (H.length+6) (.cells [iv o'] 3)=P1 o'++L:=λo o' L=>(by rw[dh o,dh o',SD (AO o),SD (AO o')];exact as6 _ _ _);have L3:∀o L,(P1 o++L)[N+3]?=some Lo:=λo L=>(by rw[dh,SD,ag];rfl);have Ml:∀o (L:List aa) y,(P1 o++L).set (N+3) y=AO o++([.cells w.l 76,.cells [iv i] 3,.obj (.deferred (some [])),y]++M)++L:=λo L y=>(by rw[dh,SD,s_];simp);have pb:∀o (L:List aa)(j:Nat),(P1 o++L)[C+j]?=L[j]?:=λo L j=>(by rw[<- d_ o,a_]);have vS:∀o (L:List aa),(P1 o++L)[C]?=L[0]?:=λo L=>pb o L 0;have pb1:∀o (L:List aa),(P1 o++L)[C+1]?=L[1]?:=λo L=>pb o L 1;have pb2:∀o (L:List aa),(P1 o++L)[C+2]?=L[2]?:=λo L=>pb o L 2;have zI:∀o (L:List aa)(j:Nat)(y:aa),(P1 o++L).set (C+j) y=P1 o++L.set j y:=λo L j y=>(by rw[<- d_ o,dX]);have ps1:∀o (L:List aa)(y:aa),(P1 o++L).set (C+1) y=P1 o++L.set 1 y:=λo L y=>zI o L 1 y;have ps2:∀o (L:List aa)(y:aa),(P1 o++L).set (C+2) y=P1 o++L.set 2 y:=λo L y=>zI o L 2 y;have zA:∀m o o',(∀z∈P1 o,eR m z)->∀z∈P1 o',eR m z:=λm o o' hz z eO=>by
     rw[dh]at hz eO;rcases SS.1 eO with h'|h'
     ·exact LQ m o o' (λz ud=>hz z (Te _ ud)) z h'
     ·exact hz z (S4 _ h')
    subst hT wR pn;rw[SD];refine uV (id:=N+3) (by rw[ag];rfl) rfl (by kernel_rfl) λnF I2=> ?_;simp only[rz];have vq:Ur 4 [iv 0,iv 0,iv 0,iv 0]=[]:=rfl;refine aj ?_;simp only[seval,h4,vq];unfold sZ;refine⟨none,fn,_,97,#[51],_,_,_,by rw[ag];rfl,?_⟩;dsimp only;rw[s_];simp only[UB,TZ];rw[<- kA];have wN:(AO o).length+(M.length+1+1+1+1)=C:=(by rw[pi,hC];omega);rw[wN];have w5:∀z:aa,(AO o++aa.cells w.l 76::aa.cells [AV.val (SG SF ↑i)] 3::aa.obj (atm (some []))::Lo::(M++[z]))=P1 o++[z]:=λz=>(by rw[dh];simp[iv]);rw[w5];obtain⟨own,iP⟩:∃own,own=bW h y:=⟨_,rfl⟩;refine cF ?_;refine qi [7,8] (SV 9) (λD=>bif isDone 8 D then P1 o++[.cells (h.map iv) 83,.cells [wv own] 79]else bif isDone 7 D then P1 o++[.cells (h.map iv) 83,.cells [.val (.int .u16 0)] 79]else P1 o++[.cells (h.map iv) 83]) ?_;simp only[seval,d_,vS,pb1,ps1,p0,p1,h4,mQ,Qv,Gz hs,je dG];have hmE:Un 4 (UY (λn=>AV.val (SG SF n)) h)=h.map iv:=SX (by rw[mQ];exact SQ _);rw[hmE];refine ie (wv own) (dC (D5 (h:=h) (y:=y) oC ⟨by rw[iP],rfl⟩)) ?_;refine⟨ie (wv own) (dC (D5 (h:=h) (y:=y) oC ⟨by rw[iP],rfl⟩)) rfl,?_⟩;(try simp only[seval,wv]);have hm3:UY (λn=>AV.val (SG SF n)) h=h.map iv:=rfl;rw[hm3];refine aj ?_;simp only[seval,pb1];refine aE ?_;refine⟨λhz=> ?_,λhz=> ?_⟩
    ·refine b9 ?_;have eO:own=0:=(by simpa using hz);have e1:uJ w y q o h=o:=(by unfold uJ;rw[<- iP,if_pos eO]);rw[e1]at dw;show og _ _ _ _ _ _ _;refine⟨l,.busy,none,fn,_,97,#[51],_,_,N+2,by show (P1 _++_)[_]?=_;rw[L3,kA],?_⟩;show cy C ((P1 _++_).set _ _) _ k;rw[Ml];rw[SD]at dw;exact jy (G:=[.cells (h.map iv) 83,.cells [wv own] 79]) (Wk.refl _) rfl (by rw[hC];simp[pi];omega) nF (.val _) dw
    ·refine aN ?_;refine aj ?_;simp only[seval,d_];refine aj ?_;simp only[seval,p5,vS,QZ,h4,mQ];have aj0:Un 4 (UY iv h)=h.map iv:=SX (by rw[mQ];exact SQ _);rw[aj0];refine aM ((IB (x:=w) (h:=h) (deep:=1) ?_));(try simp only[seval]);have eO:own≠0:=(by simpa using hz);have akb:own<65536:=by
      rw[iP];have:bW h y<2^9:=DM;omega
     refine cF ?_;refine DJ (N+3) (by rfl) (by show (P1 _++_)[N+3]?=_;rw[L3,kA]) λl2 eA T2 gf gg nH wS wU=> ?_;simp only[seval];rw[d_]at nH⊢;have okm:∀v m m',(∀z∈[aa.cells (h.map iv) 83,.cells [wv own] 79,.cells [wv m] 79,.cells w.l 76,.cells (h.map iv) 83,.cells [iv 1] 3,.loop l2 .ready none eA T2 97 #[64] gf gg (N+2)],eR v z)->∀z∈[aa.cells (h.map iv) 83,.cells [wv own] 79,.cells [wv m'] 79,.cells w.l 76,.cells (h.map iv) 83,.cells [iv 1] 3,.loop l2 .ready none eA T2 97 #[64] gf gg (N+2)],eR v z:=λv m m' hz z eO=>by
      simp only[SL,S0,or_false]at eO;rcases eO with rfl|rfl|rfl|rfl|rfl|rfl|rfl
      ·exact hz _ (by simp)
      ·exact hz _ (by simp)
      ·intro a ha;rw[S5]at ha;subst ha;exact .val _
      ·exact hz _ (by simp)
      ·exact hz _ (by simp)
      ·exact hz _ (by simp)
      ·exact hz (.loop l2 .ready none eA T2 97 #[64] gf gg (N+2)) (by simp)
     have wQ:jr lv SC (.fn (.yield l2) [] []) (λm t=> .go (qh own q m t)) (λm:Int×Nat=>P1 m.1++[.cells (h.map iv) 83,.cells [wv own] 79,.cells [wv m.2] 79,.cells w.l 76,.cells (h.map iv) 83,.cells [iv 1] 3,.loop l2 .ready none eA T2 97 #[64] gf gg (N+2)]) (C+7) (λm=>m.2<65536) (jc w) (.aJ []):=by
      refine⟨λm t M2 k2 xr hm ht kF=> ?_,λm t m' hm ht he=> ?_,λm=>by simp[d_],λv m m' hz z eO=> ?_,rfl,rfl,rfl⟩
      ·obtain⟨o2,met⟩:=m;replace hm:met<65536:=hm;have pF:=ht.len;have zm:(t.map iv).length=11:=(by rw[Tn,pF]);simp only[cP]at kF;have Fv:w.pieces.length=x.pieces.length:=(by rw[hw];rfl);obtain⟨n,lh,hn9,_⟩:=ht.num q (by rw[Fv];exact hq);have Fi:lY t q=n:=(by unfold lY;rw[SE,lh];rfl);obtain⟨oZ,rZ⟩:∃Lo,Lo=aa.loop l2 .busy none eA T2 97 #[64] gf gg (N+2):=⟨_,rfl⟩;obtain⟨D,hD⟩:∃D,D=C+7+M2.length:=⟨_,rfl⟩;obtain⟨Q1,fP⟩:∃Q1:Int->Nat->List aa,∀o m,Q1 o m=P1 o++([.cells (h.map iv) 83,.cells [wv own] 79,.cells [wv m] 79,.cells w.l 76,.cells (h.map iv) 83,.cells [iv 1] 3,oZ]++M2):=⟨_,λ_ _=>rfl⟩;have P3:∀o m,(Q1 o m).length=D:=λo m=>(by rw[fP,hD];simp[d_];omega);have q2:∀o m L,(Q1 o m++L)[H.length+2]?=some (.cells [iv q] 3):=λo m L=>(by rw[fP,SD];exact p2 _ _);have q6:∀o m L,(Q1 o m++L)[H.length+6]?=some (.cells [iv o] 3):=λo m L=>(by rw[fP,SD];exact p6 _ _);have qs6:∀o o' m L,(Q1 o m++L).set (H.length+6) (.cells [iv o'] 3)=Q1 o' m++L:=λo o' m L=>(by rw[fP o,fP o',SD (P1 o),SD (P1 o')];exact ps6 _ _ _);have qo:∀o m L,(Q1 o m++L)[C+1]?=some (.cells [wv own] 79):=λo m L=>(by rw[fP,SD,pb];rfl);have qm:∀o m L,(Q1 o m++L)[C+2]?=some (.cells [wv m] 79):=λo m L=>(by rw[fP,SD,pb];rfl);have qsm:∀o m m' L,(Q1 o m++L).set (C+2) (.cells [wv m'] 79)=Q1 o m'++L:=λo m m' L=>(by rw[fP o m,fP o m',SD (P1 o),zI,SD (P1 o)];rfl);have ql:∀o m L,(Q1 o m++L)[C+6]?=some oZ:=λo m L=>(by rw[fP,SD,pb];rfl);have qsl:∀o m L y,(Q1 o m++L).set (C+6) y=(P1 o++([.cells (h.map iv) 83,.cells [wv own] 79,.cells [wv m] 79,.cells w.l 76,.cells (h.map iv) 83,.cells [iv 1] 3,y]++M2))++L:=λo m L y=>(by rw[fP,SD,zI];simp);have qc:∀o m (L:List aa),(Q1 o m++L)[D]?=L[0]?:=λo m L=>(by rw[<- P3 o m];exact a_ _ L 0);have Gh:∀o (L:List aa),(P1 o++L)[C+6]?=L[6]?:=λo L=>pb o L 6;have vt:∀(o':Int)(m':Nat)(G:List aa),bM (P1 o2++([aa.cells (h.map iv) 83,.cells [wv own] 79,.cells [wv met] 79,.cells w.l 76,.cells (h.map iv) 83,.cells [iv 1] 3,.loop l2 .ready none eA T2 97 #[64] gf gg (N+2)]++M2))->k2 (.val (.bool true)) (P1 o'++([aa.cells (h.map iv) 83,.cells [wv own] 79,.cells [wv m'] 79,.cells w.l 76,.cells (h.map iv) 83,.cells [iv 1] 3,.loop l2 .ready none eA T2 97 #[64] gf gg (N+2)]++M2))->cy D ((Q1 o' m'++G).set (C+6) (.loop l2 .ready none eA T2 97 #[64] gf gg (N+2))) (.val (.bool true)) k2:=λo' m' G ay aI=>by
        rw[qsl];refine jy (G:=G) (Wk.refl _) rfl (by rw[hD];simp[d_];omega) ?_ (.val _) aI;intro z hz;have hlen:(P1 o'++([aa.cells (h.map iv) 83,.cells [wv own] 79,.cells [wv m'] 79,.cells w.l 76,.cells (h.map iv) 83,.cells [iv 1] 3,.loop l2 .ready none eA T2 97 #[64] gf gg (N+2)]++M2)).length=(P1 o2++([aa.cells (h.map iv) 83,.cells [wv own] 79,.cells [wv met] 79,.cells w.l 76,.cells (h.map iv) 83,.cells [iv 1] 3,.loop l2 .ready none eA T2 97 #[64] gf gg (N+2)]++M2)).length:=(by simp[d_]);rw[hlen];rcases SS.1 hz with h'|h'
        ·exact zA _ o2 o' (λz hz=>ay z (Te _ hz)) z h'
        ·rcases SS.1 h' with h'|h'
         ·exact okm _ met m' (λz hz=>ay z (S4 _ (Te _ hz))) z h'
         ·exact ay z (S4 _ (S4 _ h'))
       subst nH wS wU;rw[SD];refine uV (id:=C+6) (by rw[Gh];rfl) rfl (by kernel_rfl) λqw I3=> ?_;simp only[rz];have BC:Ur 11 [iv 0,iv 0,iv 0,iv 0,iv 0,iv 0,iv 0,iv 0,iv 0,iv 0,iv 0]=[]:=rfl;refine aj ?_;simp only[seval,pF,BC];unfold sZ;refine⟨none,eA,_,97,#[64],_,_,_,by rw[Gh];rfl,?_⟩;dsimp only;rw[zI];simp only[UB,TZ];rw[<- rZ];have Be:(P1 o2).length+(M2.length+1+1+1+1+1+1+1)=D:=(by rw[d_,hD];omega);rw[Be];have io:∀z:aa,(P1 o2++aa.cells (UY iv h) 83::aa.cells [AV.val (SG S6 ↑own)] 79::aa.cells [AV.val (SG S6 ↑met)] 79::aa.cells w.l 76::aa.cells (UY iv h) 83::aa.cells [AV.val (SG SF 1)] 3::oZ::(M2++[z]))=Q1 o2 met++[z]:=λz=>(by rw[fP];simp[iv]);rw[io];have b4:(0<=(q:Int)/\(q:Int)<4)=True:=(by simp;omega);have oA:=kv (i:=4+q) lh;refine aj ?_;simp only[seval,q2,qc,b4,oA];refine aj ?_;simp only[seval,qm];refine aM ((wH (m:=met) (n:=n) hm ?_));(try simp only[seval]);refine aE ?_;refine⟨λhb=> ?_,λhb=> ?_⟩
       ·refine b9 ?_;have e1:qh own q (o2,met) t=(o2,met):=(by unfold qh;rw[Fi,if_pos hb]);rw[e1]at kF;rw[SD]at kF;show og _ _ _ _ _ _ _;refine⟨l2,.busy,none,eA,_,97,#[64],_,_,N+2,by show (Q1 _ _++_)[_]?=_;rw[ql,rZ],?_⟩;exact vt o2 met _ qw kF
       ·refine aN ?_;have du:met.testBit n=false:=(by simpa using hb);have e1:qh own q (o2,met) t=(Cz (fq own 0 16) n o2,met|||2^n):=(by unfold qh;rw[Fi,if_neg (by simpa using hb)]);rw[e1]at kF;rw[SD]at kF;refine aj ?_;simp only[seval,qm];refine aM ((tx (m:=met) (n:=n) hm (by omega) ?_));(try simp only[seval,qm,qsm,wv]);refine aj ?_;simp only[seval,qo];refine aM ((Ix (s:=own) (more:=0) akb (by decide) ?_));(try simp only[seval,bp]);have QV:∀v∈fq own 0 16,0<=v/\v<16:=λv hv=>by
         unfold fq at hv;obtain⟨j,hj,rfl⟩:=Tm.1 hv;have:=TE.1 (Ul.1 hj).1;omega
        have iN:=Lw own 0 16;generalize fq own 0 16=ls at QV iN kF⊢;obtain⟨oj,j5⟩:∃oj:Nat->Int,∀j,oj j=Cz (ls.take j) n o2:=⟨_,λ_=>rfl⟩;have akd:oj 0=o2:=(by rw[j5];rfl);generalize met|||2^n=aaq at kF⊢;refine cF ?_;refine gA ls.length (λj:Nat=>[(78,iv j)]) (λj=>Q1 (oj j) aaq++[.cells (t.map iv) 86]) (λ_=>True) (λ_ _=>rfl) (by simp only[seval];simp[bN,Wk.refl]) (by rw[akd]) (λ_ _ _=>by simp[P3]) trivial (λbT cW j oD _ R hR=> ?_);clear bT cW;refine ai ?_;refine aE ?_;refine⟨λh1=> ?_,λh1=> ?_⟩
        ·have eV:j<ls.length:=(by omega);obtain⟨v,hv⟩:=cC eV;have hvb:=QV v (uo hv);have cU:oj (j+1)=aax n (oj j) v:=by
          rw[j5,j5,Cz,Cz];obtain⟨ajS,xi⟩:=SN.1 hv;rw[Wb ajS,ZO,xi];rfl
         have hwa:SF.wrap (v-(n:Int))=v-n:=bC _ (by omega);have Fu:SF.wrap ((n:Int)-v)=n-v:=bC _ (by omega);have fD:SF.wrap ((j:Int)+1)=((j+1:Nat):Int):=(by rw[bC _ (by omega)];rfl);have aiV:(2<=2^24)=True:=eq_true (by decide);refine aN ?_;refine aj ?_;simp only[seval,fZ hv,je eV];refine aj ?_;simp only[seval,q6,z2,aiV,hwa,Fu];have BS:(if v-(n:Int)<(n:Int)-v then(n:Int)-v else v-(n:Int))=max (v-n) (n-v):=(by split<;>omega);rw[BS];refine aM ((ahF (ns:=[oj j,max (v-n) (n-v)]) (by simp) ?_));(try simp only[seval,q6,qs6]);refine aj ?_;simp only[seval,fD];refine hR _ ⟨eV,trivial,?_⟩;rw[cU];exact dn
        ·have xa:j=ls.length:=(by omega);subst xa;refine b9 ?_;show og _ _ _ _ _ _ _;refine⟨l2,.busy,none,eA,_,97,#[64],_,_,N+2,by show (Q1 _ _++_)[_]?=_;rw[ql,rZ],?_⟩;exact vt (oj ls.length) aaq _ qw (by rw[j5,TH];exact kF)
      ·cases he;show (qh own q m t).2<65536;unfold qh;split
       ·exact hm
       ·obtain⟨n,lh,hn9,_⟩:=ht.num q (by rw[hw];exact hq);have Fi:lY t q=n:=(by unfold lY;rw[SE,lh];rfl);rw[Fi];exact oS hm (v5 (by omega))
      ·rcases SS.1 eO with h'|h'
       ·exact zA v m.1 m'.1 (λz ud=>hz z (Te _ ud)) z h'
       ·exact okm v m.2 m'.2 (λz ud=>hz z (S4 _ ud)) z h'
     refine dC (IF (x:=w) (h:=h) (deep:=1) (ir:=C+3) (ih:=C+3+1) (id:=C+3+2) (σ:=(o,0)) KP oC wQ (λm L=> ?_) (λm L=> ?_) (λm L=> ?_) (λn=>by simp[jm]) (show (0:Nat)<65536 by decide) (λa ha=>ha.len) Cb ?_)
     ·rw[SD];exact pb _ _ 3
     ·rw[SD];exact pb _ _ 4
     ·rw[SD];exact pb _ _ 5
     rw[CJ (g:=qh own q) (λ_ _=>rfl)];simp only[fL,SY];have e1:uJ w y q o h=((iX w 1 h).foldl (qh own q) (o,0)).1:=(by unfold uJ;rw[<- iP,if_neg eO]);generalize(iX w 1 h).foldl (qh own q) (o,0)=r at e1⊢;rw[e1]at dw;have Gh:∀o (L:List aa),(P1 o++L)[C+6]?=L[6]?:=λo L=>pb o L 6;refine⟨.ready,none,_,_,_,_,_,_,_,by rw[Gh];rfl,by decide,?_⟩;rw[zI,Gk];(try simp only[seval]);show og _ _ _ _ _ _ _;refine⟨l,.busy,none,fn,_,97,#[51],_,_,N+2,by show (P1 _++_)[_]?=_;rw[L3,kA],?_⟩;show cy C ((P1 _++_).set _ _) _ k;rw[Ml];rw[SD]at dw;exact jy (G:=[.cells (h.map iv) 83,.cells [wv own] 79,.cells [wv r.2] 79,.cells w.l 76,.cells (h.map iv) 83,.cells [iv 1] 3,.gone]) (Wk.refl _) rfl (by rw[hC];simp[pi];omega) (okX _ o r.1 nF) (.val _) dw
   ·rcases SS.1 eO with h'|h'
    ·exact LQ m o o' (λz ud=>hz z (Te _ ud)) z h'
    ·exact hz z (S4 _ h')
  refine dC (ID (x:=w) (bc:=i) (ir:=N) (it:=N+1) (σ:=fo i) KP hY (λo L=> ?_) (λo L=> ?_) pq (λn=>by simp[jm]) trivial (λa ha=>I1 a ha) ?_)
  ·rw[SD];exact ag _ _ 0
  ·rw[SD];exact ag _ _ 1
  rw[CJ (g:=uJ w y q) (λ_ _=>rfl)];simp only[fL,SY];have hfx:(j3 w i).foldl (uJ w y q) (fo i)=fo (i+1):=by rw[vu,vu,yb]
  rw[hfx];have xn:SF.wrap ((i:Int)+1)=((i+1:Nat):Int):=by rw[bC _ (by omega)];rfl
  refine⟨.ready,none,_,_,_,_,_,_,_,by show (AO _++_)[N+3]?=_;rw[ag];rfl,by decide,?_⟩;rw[show N+2+1=N+3 from rfl,s_,Gj];(try simp only[seval]);refine DK ?_;refine aj ?_;simp only[seval,xn];refine⟨i+1,?_,by omega,fx (by push_cast;simp only[seval];simp[bN,Wk.refl]) (by rw[pf,oo,SD];rfl),by rw[ws,hN]⟩;show p+1-(i+1)<p+1-i;omega
 ·have dl:i=p+1:=by omega
  subst dl;refine b9 ?_;have Hv:∀o,(AO o)[H.length+6]?=some (.cells [iv o] 3):=λo=>by have:=a6 o [];rwa [SY]at this
  have lN:x.an.toNat=p:=by omega
  rw[lN]at hk;have aI:=hk (fo (p+1)) (by rw[vu,hw]);generalize fo (p+1)=o at aI⊢;(try refine mJ ?_);refine aj ?_;simp only[seval,Hv];obtain⟨Y,vb⟩:=ND w (Bo o) (p+1) [];rw[SY,fB]at vb;have Qa:ii (ws (H.length+7) (p+1)) (AO o)=some (H++([.cells x.l 26,.cells [iv s] 3,.cells [iv q] 3,.cells x.l 26,.cells [.sl 1 [iv q] .exact] 22,.cells w.l 76,.cells [iv o] 3]++Y)):=by rw[pf,vb,qu,SD]
  (try refine mJ ?_);refine aE ?_;refine⟨λho=> ?_,λho=> ?_⟩
  ·have aY:o<0:=(by simpa using ho);rw[if_pos aY,if_pos aY]at aI;refine ai ?_;refine aX ?_;refine dV Qa ?_;(try simp only[seval]);exact jx hH (Wk.refl _) (by simp[jm,eE]) aI
  ·have aY:¬o<0:=(by simpa using ho);rw[if_neg aY,if_neg aY]at aI;refine aN ?_;refine HI ?_;have Hv:∀o,(AO o)[H.length+6]?=some (.cells [iv o] 3):=λo=>(by have:=a6 o [];rwa [SY]at this);refine aj ?_;simp only[seval,Hv];refine aX ?_;refine dV Qa ?_;(try simp only[seval]);exact jx hH (Wk.refl _) (by simp[jm,eE]) aI
end
open Go.Conc
section
variable (lv:Bool)(P:SJ)
def v9 (s:AS)(o:Tv)(next:AS->Prop):Prop:=match o.op with
 |.buildSlice t len parts=>ao (qf P t) λ(e,sz,z)=>len* sz<=2^24/\ao (jJ s parts.toList) λlE=>ao (nD (gW.at (.elems sz)) (gr z (len* sz)) lE) λl=>next ((⟨s.T,s.H++[.cells l e]⟩:AS).put o.dst (.bD s.H.length 0 len len))
 |.call c=>match c.callee with
  |.builtin .append=>match c.args.toList,c.argTypes.toList with
   |[x,y],[t,t']=>ao (jo P t t') λ(elem,sz,_)=>ao (s.ev x) λa=>ao (s.ev y) λb=>a.uN λn l e=>e=.exact/\ao (s.src sz b) λ(m,l')=>l.length=n* sz/\l'.length=m* sz/\n+m<=2^30/\0<m/\next ((⟨s.T,s.H++[.own sz (l++l') elem]⟩:AS).put o.dst (.bD s.H.length 0 (n+m) 0))
   |_,_=>False
  |_=>False
 |_=>False
def p_ (m:Nat):Nat->List Tv->AS->(AS->Prop)->(AV->AS->Prop)->Prop
 |_,[],s,K,_=>K s
 |k,o::rest,s,K,bad=>o.guard=none/\(bif k==m then v9 P s o (λs'=>p_ m (k+1) rest s' K bad)else l5 lv P s o (λs'=>p_ m (k+1) rest s' K bad) bad)
end
section
variable {lv:Bool}{P:SJ}{r:Option Nat}{s:AS}
theorem v9.step{o:Tv}{next:AS->Prop}{bad:AV->AS->Prop}(h:v9 P s o next):Step lv P r o s next bad:=by
 unfold v9 at h;split at h
 ·rename_i t len parts ho;obtain⟨⟨e,sz,z⟩,h1,h2,h⟩:=h.out;obtain⟨lE,h3,h⟩:=h.out;obtain⟨l,h4,h⟩:=h.out;exact acb ho h1 h2 h3 h4 h
 ·rename_i c ho;split at h
  ·rename_i aV;split at h
   ·rename_i x y t t' ha dL;obtain⟨⟨elem,sz,z⟩,h1,hA⟩:=h.out;obtain⟨a,h2,hB⟩:=hA.out;obtain⟨b,h3,hC⟩:=hB.out;obtain⟨n,l,e,e1,e0,hD⟩:=NE hC;subst e1 e0;obtain⟨⟨m,l'⟩,h4,h5,h6,h7,h8,h9⟩:=hD.out;exact ab9 ho aV (mI ha) (ru dL) h1 h2 h3 h4 h5 h6 h7 h8 h9
   ·exact h.elim
  ·exact h.elim
 ·exact h.elim
theorem p_.ab2{m:Nat}{K:AS->Prop}{bad:AV->AS->Prop}:∀(l:List Tv)(k:Nat)(s:AS),p_ lv P m k l s K bad->Aw lv P r l s K bad
 |[],k,s,h=>h
 |o::rest,k,s,h=>by
  obtain⟨h1,h2⟩:=h;refine⟨h1,?_⟩;have hs:∀{s'},p_ lv P m (k+1) rest s' K bad->Aw lv P r rest s' K bad:=λ{s'} h=>p_.ab2 rest (k+1) s' h;cases hkm:(k==m)<;>rw[hkm]at h2<;>simp only[cond_true,cond_false]at h2
  rotate_left
  ·exact(v9.step h2).mono (λ_ h=>hs h) (λ_ _ h=>h)
  ·exact(l5.sound (r:=r) h2).mono (λ_ h=>hs h) (λ_ _ h=>h)
theorem aeO{nt id:Nat}{ops:Array Tv}{Φ:am->AS->Prop}(m:Nat)(hd:jw nt ops=true)(h:p_ lv P m 0 ops.toList s (Φ .normal) (λpv s=>Φ (.panic pv) s)):aU lv P r nt (.region id ops false) s Φ:=aeP hd (h.ab2 ops.toList 0 s)
end
theorem adI:type_of% @v9.eq_1:=by intros;rw[v9.eq_1]
theorem amU:type_of% @p_.eq_1:=by intros;rw[p_.eq_1]
theorem amT:type_of% @p_.eq_2:=by intros;rw[p_.eq_2]
attribute [seval] adI amU amT
open Go.Proofs Go.Gg.Tk
namespace Tk
def fu:ak:=⟨10,3,2,[⟨2,⟨12,13⟩⟩],[⟨⟨10,12⟩,⟨0,1⟩⟩,⟨⟨11,11⟩,⟨0,2⟩⟩,⟨⟨12,15⟩,⟨1,2⟩⟩],[⟨⟨12,12⟩,⟨0,2⟩⟩,⟨⟨10,15⟩,⟨2,2⟩⟩]⟩
def sK:ak:={fu with aB:=[⟨⟨15,15⟩,⟨0,0⟩⟩,⟨⟨10,15⟩,⟨2,2⟩⟩]}
end Tk
theorem ac6:gr (TD #[SG .i64 0,SG .i64 0,SG .i64 0]) 3=[iv 0,iv 0,iv 0]:=rfl
theorem ac5:gr (TD #[SG .i64 0,SG .i64 0,SG .i64 0,SG .i64 0]) 12=TM 12 (iv 0):=rfl
theorem ac4:gr (TD #[SG .i64 0,SG .i64 0,SG .i64 0,SG .i64 0]) 8=[iv 0,iv 0,iv 0,iv 0,iv 0,iv 0,iv 0,iv 0]:=rfl
theorem abr:TM 12 (iv 0)=[iv 0,iv 0,iv 0,iv 0,iv 0,iv 0,iv 0,iv 0,iv 0,iv 0,iv 0,iv 0]:=rfl
theorem aa2:(3<=2^24)=True:=eq_true (by decide)
theorem aa3:(8<=2^24)=True:=eq_true (by decide)
theorem aa1:(12<=2^24)=True:=eq_true (by decide)
section
variable {lv:Bool}{H:List aa}{k kp:AV->List aa->Prop}
theorem wG(hk:k fu.av H):ba lv SC 53 H [] k kp:=by
 refine bE (rs:=[.cell 0 26]) (nt:=11) al' λhH hA=> ?_;simp only[bk,SW];refine ai ?_;refine ai ?_;refine aM ((Pa (a:=2) (b:=12) (c:=13) ?_));(try simp only[seval,Seen.av,Seen.l,i_.av,ac6,aa2]);refine aM ((qq (a:=10) (b:=12) (c:=0) (d:=1) ?_));(try simp only[seval]);refine aM ((qq (a:=11) (b:=11) (c:=0) (d:=2) ?_));(try simp only[seval]);refine aM ((qq (a:=12) (b:=15) (c:=1) (d:=2) ?_));(try simp only[seval,aG.av,aG.l,ac5,abr,aa1]);refine aM ((qq (a:=12) (b:=12) (c:=0) (d:=2) ?_));(try simp only[seval]);refine aM ((qq (a:=10) (b:=15) (c:=2) (d:=2) ?_));have bh:∀(L:List aa),(H++L)[H.length]?=L[0]?:=λL=>a_ H L 0;have dE:∀(L:List aa)(y:aa),(H++L).set H.length y=H++L.set 0 y:=λL y=>dX H L 0 y;(try simp only[seval,aG.av,aG.l,ac4,aa3,bh,dE]);refine oq ?_;simp only[seval,bh];refine jx hH (b:=fu.av) (M0 (.cons (Wk.refl _) (.cons (Wk.refl _) (.cons (Wk.refl _) (.cons (iY _ _ _) (.cons (iY _ _ _) (.cons (iY _ _ _) .nil))))))) (by rw[FU];trivial) hk
theorem ahz(hk:∀X:aa,k (.agg [iv 10,iv 3,iv 2,.sl 1 (fu.seen.flatMap Seen.l) .exact,.sl 3 (fu.pieces.flatMap aG.l) .exact,.bD (H.length+1) 0 2 2]) (H++[X,.cells (fu.aB.flatMap aG.l) 48])):ba lv SC 53 H [] k kp:=by
 refine bE (rs:=[.cell 0 26]) (nt:=11) al' λhH hA=> ?_;simp only[bk,SW];refine ai ?_
 (repeat apply gX);refine aeO 8 (by kernel_rfl) ?_
 simp only[seval];refine aM ((Pa (a:=2) (b:=12) (c:=13) ?_));(try simp only[seval,Seen.av,Seen.l,i_.av,ac6,aa2]);refine aM ((qq (a:=10) (b:=12) (c:=0) (d:=1) ?_));(try simp only[seval]);refine aM ((qq (a:=11) (b:=11) (c:=0) (d:=2) ?_));(try simp only[seval]);refine aM ((qq (a:=12) (b:=15) (c:=1) (d:=2) ?_));(try simp only[seval,aG.av,aG.l,ac5,abr,aa1]);refine aM ((qq (a:=12) (b:=12) (c:=0) (d:=2) ?_));(try simp only[seval]);refine aM ((qq (a:=10) (b:=15) (c:=2) (d:=2) ?_));have bh:∀(L:List aa),(H++L)[H.length]?=L[0]?:=λL=>a_ H L 0;have dE:∀(L:List aa)(y:aa),(H++L).set H.length y=H++L.set 0 y:=λL y=>dX H L 0 y;(try simp only[seval,aG.av,aG.l,ac4,aa3,bh,dE]);refine oq ?_;simp only[seval,bh];exact bS (hk _)
theorem ahA(hk:k sK.av H):ba lv SC 54 H [] k kp:=by
 refine bE (rs:=[.cell 0 26]) (nt:=8) Tryz.f54 λhH hA=> ?_;simp only[bk,SW];have fS:∀(L:List aa)(j:Nat),(H++L)[H.length+j]?=L[j]?:=λL j=>a_ H L j;have zi:∀(L:List aa)(j:Nat)(y:aa),(H++L).set (H.length+j) y=H++L.set j y:=λL j y=>dX H L j y;have bh:∀(L:List aa),(H++L)[H.length]?=L[0]?:=λL=>a_ H L 0;have dE:∀(L:List aa)(y:aa),(H++L).set H.length y=H++L.set 0 y:=λL y=>dX H L 0 y;refine ai ?_;refine ai ?_;refine aM ((ahz (λX=> ?_)));simp only[SD,VA,UD];have kC:∀(L:List aa),(H++L)[H.length+2]?=L[2]?:=λL=>a_ H L 2;have fI:∀(L:List aa)(y:aa),(H++L).set (H.length+2) y=H++L.set 2 y:=λL y=>dX H L 2 y;have yR:∀(L:List aa),(H++L)[H.length+3]?=L[3]?:=λL=>a_ H L 3;have oK:∀(L:List aa)(y:aa),(H++L).set (H.length+3) y=H++L.set 3 y:=λL y=>dX H L 3 y;have hrx:fu.aB.flatMap aG.l=[iv 12,iv 12,iv 0,iv 2,iv 10,iv 15,iv 2,iv 2]:=rfl;rw[hrx];have e2:H.length+1+1=H.length+2:=rfl;(try simp only[seval,yR,oK,e2]);refine eo 4 ?_;simp only[seval,kC,fI,yR];refine ie _ (dC (qq (a:=15) (b:=15) (c:=0) (d:=0) ⟨rfl,rfl⟩)) ?_;(try simp only[seval,aG.av,aG.l,kC,fI]);obtain⟨rs,B7⟩:∃rs,rs=sK.aB.flatMap aG.l:=⟨_,rfl⟩;have akI:[AV.val (SG SF 15),AV.val (SG SF 15),AV.val (SG SF 0),AV.val (SG SF 0),AV.val (SG SF 10),AV.val (SG SF 15),AV.val (SG SF 2),AV.val (SG SF 2)]=rs:=by rw[B7];rfl
 have tY:rs.length=8:=by rw[B7];rfl
 rw[akI];refine aj ?_;simp only[seval,bh,dE,yR]
 (repeat apply gX);refine HG (id:=H.length+2) (by simp only[seval,kC]<;>rfl) ?_
 simp only[seval,fI,tY]
 (repeat apply gX);refine aeU (id:=H.length) (j:=5) (y:=aZ sK.aB) (by simp only[seval,bh]<;>rfl) rfl ?_ ?_
 ·have e:aZ sK.aB=.sl 2 (rs.take 8) .shut:=by rw[SX (by omega),B7];rfl
  rw[e];exact MZ (p:=8) (by simp only[seval,kC]<;>rfl) (by omega) (by omega)
 (try simp only[seval,dE]);refine oq ?_;simp only[seval,bh];refine jx hH (b:=sK.av) (M0 (.cons (Wk.refl _) (.cons (Wk.refl _) (.cons (Wk.refl _) (.cons (iY _ _ _) (.cons (iY _ _ _) (.cons (Wk.refl _) .nil))))))) (by rw[FU];trivial) hk
end
open Go.Gg.Tk
theorem xK:fu.Ok:=by
 refine⟨by decide,by decide,by decide,by decide,by decide,by decide,λs hs=> ?_,λy hy=> ?_,λy hy=> ?_⟩
 ·simp only[fu,S5]at hs;subst hs;exact⟨by decide,by decide,by decide,by decide⟩
 ·simp only[fu,SL,S0,or_false]at hy;rcases hy with rfl|rfl|rfl<;>exact⟨⟨by decide,by decide,by decide⟩,⟨by decide,by decide,by decide⟩⟩
 ·simp only[fu,SL,S0,or_false]at hy;rcases hy with rfl|rfl<;>exact⟨⟨by decide,by decide,by decide⟩,⟨by decide,by decide,by decide⟩⟩
theorem amV:sK.Ok:=by
 refine⟨by decide,by decide,by decide,by decide,by decide,by decide,λs hs=> ?_,λy hy=> ?_,λy hy=> ?_⟩
 ·simp only[sK,fu,S5]at hs;subst hs;exact⟨by decide,by decide,by decide,by decide⟩
 ·simp only[sK,fu,SL,S0,or_false]at hy;rcases hy with rfl|rfl|rfl<;>exact⟨⟨by decide,by decide,by decide⟩,⟨by decide,by decide,by decide⟩⟩
 ·simp only[sK,SL,S0,or_false]at hy;rcases hy with rfl|rfl<;>exact⟨⟨by decide,by decide,by decide⟩,⟨by decide,by decide,by decide⟩⟩
theorem agT:cnt fu=4:=by kernel_rfl
theorem agW:live fu=[[10,11,13,14],[10,11,13,15],[10,12,13,14],[10,12,13,15]]:=by kernel_rfl
theorem agU:(bG fu).head?=some ⟨[10,11,13,14],[12,11,13],[0,2]⟩:=by kernel_rfl
theorem agX:jH (CC fu 2) 10 16=[13,14]:=by kernel_rfl
theorem O0:iB fu 0 0=true/\rc fu 0 0=false:=by decide+kernel
theorem OY:D9 sK=some [0]:=by kernel_rfl
theorem agR:yb (fu.wo [1]) ⟨⟨10,15⟩,⟨2,2⟩⟩ 0 3=1:=by kernel_rfl
open Go.Conc Go.Proofs
theorem Tk.Bounds.of_map{l:List (List Int)}{g:List Int->List Int}{v w:List Int->Int}{a b:Int}(h:Bounds (l.map g) v a b)(e:∀y∈l,v (g y)=w y):Bounds l w a b:=by
 obtain⟨g1,m1,e1⟩:=h.FF;obtain⟨g2,m2,e2⟩:=h.FE;obtain⟨y1,n1,rfl⟩:=Tm.1 m1;obtain⟨y2,n2,rfl⟩:=Tm.1 m2;exact⟨⟨y1,n1,e1.trans (e y1 n1)⟩,λy hy=>by rw[<- e y hy];exact h.le _ (Tm.2 ⟨y,hy,rfl⟩),⟨y2,n2,e2.trans (e y2 n2)⟩,λy hy=>by rw[<- e y hy];exact h.ge _ (Tm.2 ⟨y,hy,rfl⟩)⟩
theorem anl{h:List Int}{i:Nat}(hi:i<h.length):(cH h).getD i 0=h.getD i 0:=by
 unfold cH;rw[SE,SE,SZ hi]
theorem al3{x:ak}{h:List Int}(hm:h∈live x):h.length=1+x.hours.toNat:=JS (Ul.1 hm).1
theorem anM{x:ak}{D:Kn}(hx:x.Ok)(hD:fy x 0 D)(hh:D.has=true){hs:List (List Int)}(hp:hs.Perm D.aK)(v:List Int->Int)(w:List Int->Int)(e:∀y∈live x,v (cH y)=w y):Bounds (live x) w (hs.foldl (λb h=>b.add (v h)) (⟨0,0,false⟩:gI)).lo (hs.foldl (λb h=>b.add (v h)) (⟨0,0,false⟩:gI)).hi:=by
 have dc:=hp.trans (Sk hx hD);have aC:hs≠[]:=λh=>by
  rw[h]at dc;have:=dc.length_eq;rw[Tn]at this;have h0:live x=[]:=List.eq_nil_of_length_eq_zero this.symm;rw[(xp hx hD).2 (aae.1 h0)]at hh;cases hh
 exact((afv v aC).am4 dc).of_map e
theorem Li{x:ak}{deep:Int}{D:Kn}(hx:x.Ok)(hD:fy x deep D)(hh:D.has=true):bG x≠[]:=λh=>by
 rw[(xp hx hD).2 h]at hh;cases hh
theorem aap{α:Type}{f:Nat->α}{l:List α}{n:Nat}(d:α)(hl:l.length=n)(h:∀i,i<n->f i=l.getD i d):(SV n).map f=l:=by
 refine Yp λi=> ?_;rw[To];by_cases hi:i<n
 ·rw[Xz hi,UM,h i hi,SE,SP (by omega)];rfl
 ·rw[Uu (by simp;omega),Uu (by omega)];rfl
theorem agx{x:ak}(hx:x.Ok){u:Tr}(hu:u∈bG x){s:Nat}(hs:s<x.aB.length):(ep u).getD (8+s) 0=((u.bK.getD s 0:Nat):Int):=by
 obtain⟨h1,h2⟩:=v4 hx hu;have h3:=(GK hx hu).1;have hh:=hx.hours;have m9:=hx.cZ;have h4:=xF (h:=u.bB) (by omega);have dG:s<u.bK.length:=by omega
 have hg:(ep u)[8+s]?=some ((u.bK[s]:Nat):Int):=by
  unfold ep dp kL;have h8:(cH u.bB++((u.aA.map λn=>(n-u.bB.headD 0).toNat).map (λn:Nat=>(n:Int))++TM (4-(u.aA.map λn=>(n-u.bB.headD 0).toNat).length) (-1))).length=8:=by simp[h4];omega
  rw[Tj (by omega),h8,U7,SZ (by simpa using dG),To,SP dG];rfl
 rw[SE,hg,SE,SP dG];rfl
theorem aq4{x:ak}{u:Tr}(hu:u∈bG x):u.bB.headD 0=x.first:=by
 obtain⟨h,a,b⟩:=S7.1 hu;rw[xP b];exact(yY _ _ _ (by simp) a).2
theorem ah9{x:ak}(hx:x.Ok){u:Tr}(hu:u∈bG x):(ep u).take (x.hours.toNat+1)=u.bB:=by
 have hl:=(v4 hx hu).1;have hh:=hx.hours;have h1:(ep u).take (x.hours.toNat+1)=((ep u).take 4).take (x.hours.toNat+1):=by rw[U0,Ww (by omega)]
 rw[h1,Ip hx hu];exact LX (by omega)
theorem aia{x:ak}(hx:x.Ok){u:Tr}(hu:u∈bG x):rV x (ep u) x.pieces.length=u.aA:=by
 unfold rV;refine aap 0 (v4 hx hu).2 λi hi=> ?_;rw[agu hx hu hi,aq4 hu];omega
theorem aib{x:ak}(hx:x.Ok){u:Tr}(hu:u∈bG x):rW (ep u) x.aB.length=u.bK.map λn:Nat=>(n:Int):=by
 unfold rW;refine aap 0 (by rw[Tn];exact(GK hx hu).1) λi hi=> ?_;have hl:=(GK hx hu).1;rw[agx hx hu hi,SE,SE,To,SP (by omega)];rfl
section
variable {H:List aa}{k kp:AV->List aa->Prop}{x:ak}
theorem ahj(hx:x.Ok)(hm:H[0]?=some .main)(hk:k (.aJ [iv (cnt x),iv 0]) H):ba true SC 21 H [x.av] k kp:=
 ahi hx hm λD hD=>by rw[count_eq hx hD];exact hk
theorem ahv{hour:Nat}(hx:x.Ok)(hh:(hour:Int)<=x.hours)(hm:H[0]?=some .main)(h0:bG x=[]->k (.aJ [.agg [iv 0,iv 0],iv 11]) H)(h1:∀lo hi,bG x≠[]->Bounds (live x) (λh=>h.getD hour 0) lo hi->k (.aJ [.agg [iv lo,iv hi],iv 0]) H):ba true SC 36 H [x.av,iv hour] k kp:=
 ahu hx hh hm λD hD=>⟨λhn=>h0 ((xp hx hD).1 hn),λhy hs hp=>h1 _ _ (Li hx hD hy) (anM hx hD hy hp (λh=>h.getD hour 0) _ λy oN=>anl (by rw[al3 oN];have:=hx.hours;omega))⟩
theorem aht{q:Nat}(hx:x.Ok)(hq:q<x.pieces.length)(hm:H[0]?=some .main)(h0:bG x=[]->k (.aJ [bp [],iv 11]) H)(h1:bG x≠[]->k (.aJ [bp (jH (CC x q) x.first 16),iv 0]) H):ba true SC 34 H [x.av,iv q] k kp:=
 ahs hx hq hm λD hD=>⟨λhn=>h0 ((xp hx hD).1 hn),λhy=>by rw[aab λn _=>amS hx hD hq n];exact h1 (Li hx hD hy)⟩
theorem O6{s q:Nat}(hx:x.Ok)(hs:s<x.aB.length)(hq:q<x.pieces.length)(hm:H[0]?=some .main)(hk:k (.aJ [iv (if(bG x).isEmpty then 0 else vM (iB x s q) (rc x s q)),iv (if(bG x).isEmpty then 11 else 0)]) H):ba true SC 28 H [x.av,iv s,iv q] k kp:=
 ahp hx hs hq hm λD hD=>by rw[ano hx hD hs,ae9 hx hD];exact hk
def u9 (x:ak)(i:Nat):List Int:=(SV i).flatMap λs=>if 1<(jH (iB x s) 0 16).length then[-1]else jH (iB x s) 0 16
theorem O5(hx:x.Ok)(hm:H[0]?=some .main)(h0:bG x=[]->k (.aJ [bp [],iv 11]) H)(h1:bG x≠[]->k (.aJ [bp (u9 x x.aB.length),iv 0]) H):ba true SC 26 H [x.av] k kp:=
 ahm hx hm λD hD=>⟨λhn=>h0 ((xp hx hD).1 hn),λhy=>by
  have e:tz D.aS x.aB.length=u9 x x.aB.length:=by
   unfold tz u9;refine yw λs hs=> ?_;rw[aab λn _=>LY hx hD (TE.1 hs) n]
  rw[e];exact h1 (Li hx hD hy)⟩
theorem ahg(hx:x.Ok)(hm:H[0]?=some .main)(h0:bG x=[]->k (.aJ [bp [],bp [],bp [],iv 11]) H)(h1:∀u l,bG x=u::l->k (.aJ [bp u.bB,bp u.aA,bp (u.bK.map λn:Nat=>(n:Int)),iv 0]) H):ba true SC 18 H [x.av] k kp:=
 ahf hx hm λD hD=>⟨λhn=>h0 ((xp hx hD).1 hn),λhy=>by
  obtain⟨u,l,e1,e2⟩:=alh hx hD hy;have hu:u∈bG x:=by rw[e1];simp
  rw[e2,ah9 hx hu,aia hx hu,aib hx hu];exact h1 u l e1⟩
end
theorem OZ:(bG fu).isEmpty=false:=by kernel_rfl
theorem agS{lo hi:Int}(h:Bounds (live fu) (λh=>h.getD 1 0) lo hi):lo=11/\hi=12:=by
 have k:Bounds (live fu) (λh=>h.getD 1 0) 11 12:=by
  rw[agW];exact⟨⟨[10,11,13,14],by simp,rfl⟩,by decide,⟨[10,12,13,14],by simp,rfl⟩,by decide⟩
 exact h.uniq k
theorem agV:u9 fu 2=[0,2]:=by kernel_rfl
theorem z3:gr (SG .i64 0) 3=[iv 0,iv 0,iv 0]:=rfl
theorem z4:gr (SG .i64 0) 4=[iv 0,iv 0,iv 0,iv 0]:=rfl
section
variable {H:List aa}{k kp:AV->List aa->Prop}
theorem ahh(hm:H[0]?=some .main)(hk:k (bv true) H):ba true SC 19 H [] k kp:=by
 have aC:bG fu≠[]:=λh=>by have:=OZ;rw[h]at this;cases this
 refine bE (rs:=[.tmp 0]) (nt:=138) Tryz.f19 λhH hA=> ?_;simp only[bk,SW];have bh:∀(L:List aa),(H++L)[H.length]?=L[0]?:=λL=>a_ H L 0;have dE:∀(L:List aa)(y:aa),(H++L).set H.length y=H++L.set 0 y:=λL y=>dX H L 0 y;refine ai ?_;refine ai ?_;refine aM ((wG ?_));(try simp only[seval]);refine aM ((ahj xK hm ?_));rw[agT];(try simp only[seval]);refine ai ?_;refine aM ((wG ?_));(try simp only[seval]);refine aM ((ahv (hour:=1) xK (by decide) hm (λh=>absurd h aC) (λlo hi _ hb=> ?_)));obtain⟨rfl,rfl⟩:=agS hb;(try simp only[seval,bh,dE]);refine ai ?_;refine aM ((wG ?_));(try simp only[seval]);refine aM ((aht (q:=2) xK (by decide) (fA hm) (λh=>absurd h aC) (λ_=> ?_)));rw[show jH (CC fu 2) fu.first 16=[13,14]from agX];(try simp only[seval]);refine ai ?_;refine aM ((wG ?_));(try simp only[seval]);refine aM ((O6 (s:=0) (q:=0) xK (by decide) (by decide) (fA hm) ?_));rw[OZ,O0.1,O0.2,show vM true false=1 from rfl];(try simp only[seval]);refine ai ?_;refine aM ((wG ?_));(try simp only[seval]);refine aM ((O5 xK (fA hm) (λh=>absurd h aC) (λ_=> ?_)));rw[show u9 fu fu.aB.length=[0,2]from agV];(try simp only[seval]);refine ai ?_;refine aM ((wG ?_));(try simp only[seval]);refine aM ((ahq (x:=fu) (s:=1) (q:=0) (y:=⟨⟨10,15⟩,⟨2,2⟩⟩) xK rfl (by decide) (λo ho=> ?_)));rw[show yb (fu.wo [((1:Nat):Int)]) ⟨⟨10,15⟩,⟨2,2⟩⟩ 0 (fu.an.toNat+1)=1 from agR]at ho;subst ho;(try simp only[seval]);refine ai ?_;refine aM ((ahA ?_));(try simp only[seval]);refine aM ((ahr amV (λl hl=> ?_) (λh=>by rw[OY]at h;cases h)));rw[OY]at hl;cases hl;(try simp only[seval]);refine ai ?_;refine aM ((wG ?_));(try simp only[seval]);refine aM ((ahg xK (fA hm) (λh=>absurd h aC) (λu l hu=> ?_)));have lj:=agU;rw[hu]at lj;cases lj;(try simp only[seval]);refine eo 77 ?_;simp only[seval,Vq,bh,beq_self_eq_true];refine ie (.agg [iv 11,iv 12]) (dC (ahl ⟨rfl,rfl⟩)) ?_;have fC:∀k,dg SC .eql 46 (.agg [iv 11,iv 12]) (.agg [iv 11,iv 12]) k=k (bv true):=λk=>adX (P:=SC) (t:=46) (n:=2) (xs:=[11,12]) (ys:=[11,12]) (by kernel_rfl) (by kernel_rfl) rfl rfl k;simp only[iv,bv]at fC;(try simp only[seval,fC,Vq,beq_self_eq_true,z2]);(try refine⟨by decide,?_⟩);refine ie (bv true) (dC (yr (xs:=[13,14]) (ys:=[13,14]) (e:=.shut) (e':=.exact) (by decide) ⟨by rw[decide_eq_true rfl],rfl⟩)) ?_;(try simp only[seval,Vq,z1,z2,z3,z4]);(try refine⟨by decide,?_⟩);refine ie (bv true) (dC (yr (xs:=[0,2]) (ys:=[0,2]) (e:=.shut) (e':=.exact) (by decide) ⟨by rw[decide_eq_true rfl],rfl⟩)) ?_;(try simp only[seval,Vq,z1,z2,z3,z4]);(try refine⟨by decide,?_⟩);refine ie (bv true) (dC (yr (xs:=[0]) (ys:=[0]) (e:=.shut) (e':=.exact) (by decide) ⟨by rw[decide_eq_true rfl],rfl⟩)) ?_;(try simp only[seval,Vq,z1,z2,z3,z4]);(try refine⟨by decide,?_⟩);refine ie (bv true) (dC (yr (xs:=[10,11,13,14]) (ys:=[10,11,13,14]) (e:=.shut) (e':=.exact) (by decide) ⟨by rw[decide_eq_true rfl],rfl⟩)) ?_;(try simp only[seval,Vq,z1,z2,z3,z4]);(try refine⟨by decide,?_⟩);refine ie (bv true) (dC (yr (xs:=[12,11,13]) (ys:=[12,11,13]) (e:=.shut) (e':=.exact) (by decide) ⟨by rw[decide_eq_true rfl],rfl⟩)) ?_;(try simp only[seval,Vq,z1,z2,z3,z4]);(try refine⟨by decide,?_⟩);refine ie (bv true) (dC (yr (xs:=[0,2]) (ys:=[0,2]) (e:=.shut) (e':=.exact) (by decide) ⟨by rw[decide_eq_true rfl],rfl⟩)) ?_;(try simp only[seval,Vq,z1,z2,z3,z4]);refine aX ?_;exact jx hH (Wk.refl _) (.val _) hk
end
def lH (x:ak)(s:Nat):Int:=if 1<(jH (iB x s) 0 16).length then -1 else(jH (iB x s) 0 16).headD 0
theorem N2{f:Nat->Bool}{m:Int}{i n:Nat}(hn:n<i)(h:f n=true):(n:Int)+m∈jH f m i:=
 Tm.2 ⟨n,Ul.2 ⟨TE.2 hn,h⟩,rfl⟩
theorem afi{f:Nat->Bool}{m v:Int}{i:Nat}:v∈jH f m i<->∃n:Nat,n<i/\f n=true/\v=(n:Int)+m:=by
 unfold jH;constructor
 ·intro h;obtain⟨n,hn,rfl⟩:=Tm.1 h;obtain⟨h1,h2⟩:=Ul.1 hn;exact⟨n,TE.1 h1,h2,rfl⟩
 ·rintro⟨n,h1,h2,rfl⟩
  exact N2 h1 h2
theorem afj(f:Nat->Bool)(m:Int)(i:Nat):(jH f m i).Nodup:=by
 unfold jH;rw[TY,WI];refine X_ ?_ (TY.1 (WW.filter f));intro a b h e;omega
theorem am9{l:List Int}{v:Int}(hn:l.Nodup)(h:∀w,w∈l<->w=v):l=[v]:=by
 cases l with
 |nil=>have:=(h v).2 rfl;cases this
 |cons a t=>
  have ha:=(h a).1 Tw;subst ha;cases t with
  |nil=>rfl
  |cons b t=>
   have hb:=(h b).1 (by simp);subst hb;simp at hn
variable {x:ak}
theorem aa0(hx:x.Ok){u:Tr}(hu:u∈bG x){s:Nat}(hs:s<x.aB.length):u.bK.getD s 0<x.pieces.length:=by
 have h:=(LF hx).1 hu;have hl:=h.vR;refine h.own _ ?_;rw[SE,SP (by omega)];exact VQ _
theorem Bc(hx:x.Ok)(aC:bG x≠[]){s:Nat}(hs:s<x.aB.length):
  (if 1<(jH (iB x s) 0 16).length then[-1]else jH (iB x s) 0 16)=[lH x s]/\
  ((lH x s= -1/\∀p:Nat,¬∀u∈bG x,u.bK.getD s 0=p)\/∃p:Nat,p<x.pieces.length/\lH x s=p/\∀u∈bG x,u.bK.getD s 0=p):=by
 obtain⟨u,hu⟩:=Vf _ aC;have BZ:=hx.cZ;have hq:=aa0 hx hu hs;have b_:∀w∈bG x,((w.bK.getD s 0:Nat):Int)∈jH (iB x s) 0 16:=λw hw=>by
  have:=aa0 hx hw hs;have e:=N2 (f:=iB x s) (m:=0) (i:=16) (n:=w.bK.getD s 0) (by omega) (s9.2 ⟨w,hw,by simp⟩);rwa [Z6]at e
 have Ki:∀v∈jH (iB x s) 0 16,∃w∈bG x,v=((w.bK.getD s 0:Nat):Int):=λv hv=>by
  obtain⟨n,h1,h2,h3⟩:=afi.1 hv;obtain⟨w,hw,e⟩:=s9.1 h2;refine⟨w,hw,?_⟩;rw[h3,of_decide_eq_true e,Z6]
 by_cases hc:1<(jH (iB x s) 0 16).length
 ·refine⟨by rw[if_pos hc];unfold lH;rw[if_pos hc],.inl ⟨by unfold lH;rw[if_pos hc],λp eI=> ?_⟩⟩;have:jH (iB x s) 0 16=[(p:Int)]:=am9 (afj _ _ _) λw=>⟨λhw=>by
   obtain⟨v,hv,rfl⟩:=Ki w hw;rw[eI v hv],λhw=>by rw[hw,<- eI u hu];exact b_ u hu⟩
  rw[this]at hc;simp at hc
 ·generalize hl:jH (iB x s) 0 16=l at*
  match l,hl with
  |[],_=>exact absurd (b_ u hu) (by simp)
  |[a],hl=>
   have hg:lH x s=a:=(by unfold lH;rw[hl];simp);refine⟨by rw[hg];simp,.inr ⟨u.bK.getD s 0,hq,?_,λw hw=> ?_⟩⟩
   ·rw[hg];exact(S5.1 (b_ u hu)).symm
   ·have h1:=S5.1 (b_ u hu);have h2:=S5.1 (b_ w hw);omega
  |a::b::t,_=>simp at hc
theorem PK(hx:x.Ok)(aC:bG x≠[]):u9 x x.aB.length=(SV x.aB.length).map (lH x):=by
 unfold u9;rw[List.map_eq_flatMap];refine yw λs hs=> ?_;exact(Bc hx aC (TE.1 hs)).1
theorem aiK(hx:x.Ok)(aC:bG x≠[]){s p:Nat}(hs:s<x.aB.length)(hp:p<x.pieces.length):(vM (iB x s p) (rc x s p)==1)=(lH x s==(p:Int)):=by
 obtain⟨u,hu⟩:=Vf _ aC;have ho:rc x s p=false<->∀u∈bG x,u.bK.getD s 0=p:=by
  unfold rc;rw[<- Bool.not_eq_true,s9];simp
 have lN:(∀u∈bG x,u.bK.getD s 0=p)->iB x s p=true:=λh=>s9.2 ⟨u,hu,by simpa using h u hu⟩;have hv:vM (iB x s p) (rc x s p)=1<->∀u∈bG x,u.bK.getD s 0=p:=by
  unfold vM;constructor
  ·intro h;rw[<- ho];cases h1:iB x s p<;>cases h2:rc x s p<;>rw[h1,h2]at h<;>simp at h⊢
  ·intro h;rw[lN h,ho.2 h];rfl
 have hg:lH x s=(p:Int)<->∀u∈bG x,u.bK.getD s 0=p:=by
  rcases(Bc hx aC hs).2 with⟨h1,h2⟩|⟨q,h0,h1,h2⟩
  ·exact⟨λh=>by omega,λh=>absurd h (h2 p)⟩
  ·refine⟨λh w hw=>by rw[h2 w hw];omega,λh=> ?_⟩;rw[h1,<- h2 u hu,h u hu]
 rw[U6,beq_iff_eq,beq_iff_eq,hv,hg]
theorem aiJ(hx:x.Ok)(aC:bG x≠[]){s:Nat}(hs:s<x.aB.length): -1<=lH x s/\lH x s<x.pieces.length:=by
 rcases(Bc hx aC hs).2 with⟨h1,_⟩|⟨q,h0,h1,_⟩<;>omega
theorem aiL(hx:x.Ok)(aC:bG x≠[]){s r:Nat}(hs:s<x.aB.length)(hr:r<s)(h0:0<=lH x s):lH x r≠lH x s:=λe=>by
 obtain⟨u,hu⟩:=Vf _ aC;have ht:=(LF hx).1 hu;have hl:=ht.vR;rcases(Bc hx aC hs).2 with⟨h1,_⟩|⟨q,h2,h3,h4⟩
 ·omega
 rcases(Bc hx aC (show r<x.aB.length by omega)).2 with⟨h1,_⟩|⟨q',wM,tC,ow⟩
 ·omega
 have a1:=h4 u hu;have a2:=ow u hu;rw[SE,SP (by omega)]at a1 a2;have:=(TY.1 ht.Gd);rw[WH]at this;exact this r s (by omega) (by omega) hr (by simp only[S8]at a1 a2;omega)
variable {P:SJ}
theorem adP{t:TypeId}(ht:P.underlying t=some .bool)(hg:P.eqGuardType P.depth t=false)(x y:Bool)(k:AV->Prop):dg P .neq t (.val (.bool x)) (.val (.bool y)) k=k (.val (.bool (x !=y))):=by
 have vF:cp P (Xh t (.bool x) (.bool y)) (x==y):=aqk (d:=9999) ht;have e:dg P .neq t (.val (.bool x)) (.val (.bool y)) k=((VX=.eql\/VX=.neq)/\ao (AV.raw (.val (.bool x))) λX=>ao (AV.raw (.val (.bool y))) λY=>wE X Y=true/\P.eqGuardType P.depth t=false/\∃e,cp P (Xh t X Y) e/\k (.val (.bool (if VX== .neq then !e else e)))):=rfl;have r:∀b:Bool,AV.raw (.val (.bool b))=some (.bool b):=λ_=>rfl;rw[e,r,r,vP,vP];apply propext;constructor
 ·rintro⟨_,_,_,b,h1,h2⟩
  have hb:=vF.uniq h1;subst hb;exact h2
 ·intro h;exact⟨.inr rfl,rfl,hg,_,vF,h⟩
section
variable {H:List aa}{k kp:AV->List aa->Prop}
theorem ahD{aA:List Int}(hm:H[0]?=some .main)(hn:aA.length<=2^50)(hk:k (bv true) H):ba true SC 5 H [bp aA] k kp:=by
 have pA:∀L:List aa,(H++L)[0]?=some .main:=λL=>fA hm;refine bE (rs:=[.tmp 2]) (nt:=103) Wt λhH hA=> ?_;simp only[bk,SW];refine ai ?_;refine ai ?_;refine aM ((ahe ?_));(try simp only[seval]);refine aM ((aha (pm:=4) (b:=0) (aqQ H) ⟨X2 _,X2 _,hn⟩ (by decide) (by decide) λx bB aA bK τ hM _=> ?_));have hx:=hM.ok (by decide);have aC:=hM.ne (by decide);have qJ:=hx.cZ;have aP:=hx.eP;have bP:x.l=[iv x.first,iv x.hours,iv x.an,dS x.seen,aZ x.pieces,aZ x.aB]:=rfl;clear hM;have dA:x.l.length=6:=rfl;have hO:Un 6 x.l=x.l:=rfl;obtain⟨B,hB⟩:∃B,B=H++[z9 τ]:=⟨_,rfl⟩;rw[<- hB];have BP:∀L:List aa,(B++L)[0]?=some .main:=λL=>by rw[hB,SD];exact pA _
 have b0:∀(L:List aa),(B++L)[B.length]?=L[0]?:=λL=>a_ B L 0;have s0:∀(L:List aa)(y:aa),(B++L).set B.length y=B++L.set 0 y:=λL y=>dX B L 0 y;(try simp only[seval,ak.av,b0,s0,dA]);refine⟨ut x,?_⟩;have yS:Ur 4 x.l=[aZ x.pieces,aZ x.aB]:=rfl;have qA:Ur 5 x.l=[aZ x.aB]:=rfl;obtain⟨G,hG,yF,PT⟩:∃G:List Int,G=u9 x x.aB.length/\G.length=x.aB.length/\∀s,s<x.aB.length->G[s]?=some (lH x s):=⟨_,rfl,by rw[PK hx aC];simp,λs hs=>by rw[PK hx aC];simp[hs]⟩;refine aj ?_;simp only[seval,b0,dA,hO];refine aM ((O5 (x:=x) hx (BP _) (λh=>absurd h aC) (λ_=> ?_)));rw[<- hG];(try simp only[seval]);refine aj ?_;simp only[seval,show ((0:Int)!=0)=false from rfl,bp,aZ,b0,qA,yF,bne_self_eq_false];refine aE ?_;refine aN ?_;refine ai ?_;refine cF ?_;refine rM x.aB.length (λs:Nat=>[(9,iv s)]) (λ_=>B++[.cells x.l 26]) (λ_=>True) trivial (λbT cW s hsn _ R hR=> ?_);clear bT cW;refine ai ?_;refine aE ?_;refine⟨λhc=> ?_,λhc=> ?_⟩
 ·have bt:s<x.aB.length:=by omega
  have bQ:SF.wrap ((s:Int)+1)=((s+1:Nat):Int):=by rw[bC _ (by omega)];rfl
  have hg:=aiJ hx aC bt;have h2:=λr hr=>aiL hx aC (r:=r) bt hr;have h3:=λp hp=>aiK hx aC (p:=p) bt hp;obtain⟨v,hv⟩:∃v,v=lH x s:=⟨_,rfl⟩;have PW:=PT s bt;have J':0<=v->v∉G.take s:=λh0 hm=>by
   obtain⟨r,hr,e⟩:=List.getElem_of_mem hm;have tV:r<s:=(by rw[TR]at hr;omega);have:=PT r (by omega);rw[List.getElem_take]at e;rw[SP (by omega)]at this;have:=VC this;exact h2 r tV (by omega) (by omega)
  rw[<- hv]at hg PW h3;have vn:0<=(s:Int)/\(s:Int)<x.aB.length:=⟨by omega,by omega⟩;refine aN ?_;refine cF ?_;have e2:decide (v< -1)=false:=by simp;omega
  have e3:decide (v>=(x.pieces.length:Int))=false:=by simp;omega
  have Fc:=fZ PW;have cG:(UY iv G).length=x.aB.length:=by rw[Tn,yF]
  have eU:∀{e:End}{k' pJ:AV->List aa->Prop},0<=v->k' (iv (-1)) (B++[.cells x.l 26])->ba true SC 27 (B++[.cells x.l 26]) [.sl s ((G.take s).map iv) e,iv v] k' pJ:=λ{e k' pJ} h0 aI=>by
   have hlen:(G.take s).length=s:=(by rw[TR];omega);have:=ahn (lv:=true) (H:=B++[.cells x.l 26]) (kp:=pJ) (xs:=G.take s) (n:=v) (e:=e) (k:=k') (by omega) λw bQ _ t_=>by
    have:¬0<=w:=λh=>J' h0 (bQ.1 h);obtain rfl:w= -1:=(by omega);exact aI
   rw[hlen]at this;exact this
  have hE:(bG x).isEmpty=false:=by cases ht:bG x with
   |nil=>exact absurd ht aC
   |cons a l=>rfl
  by_cases h0:0<=v
  case' pos=>
   have e1:decide (v>=0)=true:=(by simpa using h0);refine eo 33 ?_;simp only[seval,Fc,vn,e1,b0,yS,cG,aZ,e2,e3];refine⟨by omega,ie (iv (-1)) (DT (by kernel_rfl) ?_) ?_⟩
   ·rw[<- VE];exact eU h0 ⟨rfl,rfl⟩
   try simp only[seval,Fc,vn,e2,e3,b0,yS,show decide ((-1:Int)>=0)=false from rfl,decide_false,aZ]
  case' neg=>
   have e1:decide (v>=0)=false:=(by simpa using h0);refine eo 33 ?_;simp only[seval,Fc,vn,e1,b0,yS,cG,aZ,e2,e3]
  all_goals
   refine aE ?_;refine aN ?_;refine ai ?_;refine cF ?_;refine rM x.pieces.length (λp:Nat=>[(10,iv p)]) (λ_=>B++[.cells x.l 26]) (λ_=>True) trivial (λbT cW p Km _ R2 tF=> ?_);clear bT cW;refine aj ?_;simp only[seval,b0,yS,aZ];refine aE ?_;refine⟨λhc=> ?_,λhc=> ?_⟩
   ·have dc:p<x.pieces.length:=(by omega);have gP:SF.wrap ((p:Int)+1)=((p+1:Nat):Int):=(by rw[bC _ (by omega)];rfl);have h4:=h3 p dc;refine aN ?_;refine aj ?_;simp only[seval,b0,dA,hO];refine aM ((O6 (x:=x) (s:=s) (q:=p) hx bt dc (BP _) ?_));rw[hE];rw[if_neg Zg,if_neg Zg];generalize vM (iB x s p) (rc x s p)=w at h4;(try simp only[seval]);have fC:∀k,dg SC .neq 4 (.val (.bool (v==(p:Int)))) (.val (.bool (v==(p:Int)))) k=k (.val (.bool false)):=λk=>(by rw[adP (by kernel_rfl) (by kernel_rfl),bne_self_eq_false]);refine aj ?_;simp only[seval,show ((0:Int)!=0)=false from rfl,Fc,vn,h4,fC];refine aE ?_;refine aN ?_;refine aj ?_;simp only[seval,gP];refine tF _ ⟨dc,trivial,dn⟩
   ·have KQ:p=x.pieces.length:=(by omega);subst KQ;refine b9 ?_;refine aj ?_;simp only[seval,bQ];refine hR _ ⟨bt,trivial,dn⟩
 ·have KQ:s=x.aB.length:=by omega
  subst KQ;refine b9 ?_;refine ai ?_;refine aM ((ahh (BP _) ?_));(try simp only[seval]);refine aX ?_;rw[hB,SD];exact jx hH (Wk.refl _) (.val _) hk
end
open Go.ChangeShapes Go.WideShapes Go.ChangeAt Go.RowKit
def C4 (W:Tp):View:=⟨λb o=>W.cell? ⟨b,o,none⟩,λ_=>none,0,.plain⟩
def A5 (W:Tp):Env:=⟨(C4 W).ab,1,λ_=>0,λ_ _=>(none,0),λ_=>0,λ_=>none,true⟩
theorem ape(W:Tp):Sat (C4 W) W:=⟨λ_ _ _ h=>h,λ_ _ h=>by cases h⟩
theorem afP(W:Tp):Conc (A5 W) (C4 W) [.main]where
 I:=rfl
 n:=rfl
 obj:=λk x h=>by
  match k,h with
  |0,h=>cases h;exact rfl
  |k+1,h=>cases h
 inj:=λi j x y b hi hj h1 h2=>by
  match i,hi with
  |0,hi=>cases hi;cases h1
  |i+1,hi=>cases hi
 group:=λg h=>by cases h
 chan:=λc h=>by cases h
 top:=λ_=>⟨rfl,rfl⟩
 fr:=λb y h=>by cases h
theorem aiO{f:TO}{W:Tp}{args:Array SO}{lE:List AV}{Q:SO->Prop}(hi:SC.inits.idxOf? f=none)(hd:cE (A5 W) lE args)(h:ba true SC f [.main] lE (λa _=>∀E v,ap E a v->Q v) (λ_ _=>False)):
  ∃M last o w' t',runNT SC (M+1) (solo (G (Frame.enter SC f args .normal) []) W) #[]=(.ended o w',t')/\runN SC M (solo (G (Frame.enter SC f args .normal) []) W)=.next last/\step SC last=.ended o w'/\WZ SC (λv w=>Q v/\Left W.heap.size W w) last o w' t':=
 aiN hi (V:=C4 W) rfl rfl rfl (ape W) (h (A5 W) (C4 W) args (afP W) hd) λo V' r=>by
  cases o with
  |ret v=>
   obtain⟨av,E',H',_,bX,_,bi,_,hk⟩:=r;exact⟨bX,v,rfl,λw _ hl=>⟨hk _ _ bi,hl⟩⟩
  |panic ch=>
   obtain⟨pv,v,E',H',_,_,_,_,_,_,hf⟩:=r;exact hf.elim
theorem af1{W:Tp}{b o len cap:Nat}{zs:List Int}(hl:zs.length=len)(hc:len<=cap)(h:∀i,i<len->W.cell? ⟨b,o+i,none⟩=some (.int .i64 (zs.getD i 0))):ap (A5 W) (bp zs) (.slice (some ⟨b,o,none⟩) len cap):=by
 subst hl;refine .sl b o cap (λi=> .int .i64 (zs.getD i 0)) hc trivial (λi hi=> ?_) (λi x hx=> ?_)
 ·exact h i (by simpa using hi)
 ·rw[To]at hx;obtain⟨z,hz,rfl⟩:=Tq.1 hx;rw[SE,hz];exact .val _
theorem Left.below{W w:Tp}(h:Left W.heap.size W w):Below W.heap.size W w:=⟨h.os,h.tape,h.out,h.size,h.old⟩
theorem Tz.own:ownKnob SC.godebug=none:=by kernel_rfl
theorem Tz.laidOut:laidOutB SC=true:=by kernel_rfl
theorem Tz.GN:SC.underlying 22=some (.slice 3):=by kernel_rfl
theorem Tz.u3:SC.underlying 3=some (.int .i64):=by kernel_rfl
theorem Tz.u4:SC.underlying 4=some .bool:=by kernel_rfl
theorem Tz.c3:SC.cellsOf 3=1:=by kernel_rfl
theorem Tz.b3:SC.bytesOf 3=8:=by kernel_rfl
theorem Tz.r22:SC.readableRec 22=true:=by kernel_rfl
theorem Tz.Lj:22<SC.types.size:=of_decide_eq_true (by kernel_rfl)
theorem aoP{H:Type}{enc:TypeId×SO->H}{a:Assume}{C:Checked}{os:Os}{f:TO}{fn:YF}{s:ZW}{conds:List PathCond}{apart fresh handsOn again:Bool}{X:Tp->Array SO->Prop}
  (own:ownKnob C.prog.godebug=none) (started:os.Started) (wZ:C.prog.funcs[f]?=some fn)
  (witness:∃(w:Tp)(tape:Tape)(i:Input),w.os=os/\(w.forCall tape i).Shaped C.prog/\i.vars=[]/\ZS C.prog (w.forCall tape i) .any w.heap.size f i/\
   ((s.pre enc C.prog fn conds apart (w.forCall tape i).memory i.args/\X (w.forCall tape i).memory i.args)/\sizedMet enc C.prog fn (Vy s) apart (w.forCall tape i).memory i.args)/\a.holds C.prog (lone (Frame.enter C.prog f i.args .normal) [] (w.forCall tape i)))
  (runs:∀(W:Tp)(base:Nat)(args:Array SO)(ds gs:List (aj' H))(before:List MemPlace),
   (∀(j:Nat) t v,fn.params[j]?=some t->args[j]?=some v->Yy C.prog W .any base t v)->
   DataW.Whole enc C.prog fn.params.toList s.vars apart W args.toList ds gs before->
   conds.all (asI C.prog ⟨fn.params.toList,ds,s.plain.varTypes C.prog,gs⟩)=true->
   (Zd C.prog (fn.params.toList++s.plain.varTypes C.prog) (ds++gs)).all (·<=reachBytes)=true->
   a.holds C.prog (lone (Frame.enter C.prog f args .normal) [] W)->
   ∃M last o w' t',runNT C.prog (M+1) (solo (G (Frame.enter C.prog f args .normal) []) W) #[]=(.ended o w',t')/\runN C.prog M (solo (G (Frame.enter C.prog f args .normal) []) W)=.next last/\
    step C.prog last=.ended o w'/\WZ C.prog (λv W'=>s.post enc C.prog fn apart fresh handsOn again W args v W') last o w' t'):
  Xx a C os f .any (λw args=>(s.pre enc C.prog fn conds apart w args/\X w args)/\sizedMet enc C.prog fn (Vy s) apart w args) (s.post enc C.prog fn apart fresh handsOn again):=by
 refine returnsInLeavingWide_of_good own started witness ?_;intro w tape i _ _ _ ay Kq ajL;obtain⟨_,_,_,fi,ajJ,_,_,_,_,Fs⟩:=ay;have e:fi=fn:=VC (ajJ.symm.trans wZ);subst e;obtain⟨⟨⟨ds,gs,before,hw,hc⟩,_⟩,hz⟩:=Kq;have nd:=aj_ (w':=w.forCall tape i) (by rfl) hw;obtain⟨M,last,o,w',t',h1,h2,h3,h4⟩:=runs (w.forCall tape i) w.heap.size i.args ds gs before Fs nd hc (hz.weights hw) ajL;exact⟨M,last,o,w',t',h1,h2,h3,h4.mono λv hp=>an' hp⟩
def adb (f:TO):Prop:=∀aA:List Int,aA.length<=2^50->ba true SC f [.main] [bp aA] (λa _=>a=bv true) (λ_ _=>False)
set_option maxRecDepth 100000 in
theorem ak0{f:TO}{fn:YF}{s:ZW}{X:Tp->Array SO->Prop}(hf:SC.funcs[f]?=some fn)(hp:fn.params=#[22]) (hr:fn.resultTypes=#[4]) (hv:s.vars=[]) (hs:∀(H:Type)(d:aj' H),s.fn H [d]={results:=[.lit (.bool true)],args:=[d]}) (hi:SC.inits.idxOf? f=none) (ajV:adb f)
  (os:Os) (started:os.Started) (H:Type) (enc:TypeId×SO->H)
  (akY:∃(w:Tp)(tape:Tape)(i:Input),w.os=os/\(w.forCall tape i).Shaped Uy.prog/\i.vars=[]/\ZS Uy.prog (w.forCall tape i) .any w.heap.size f i/\
   ((s.pre enc Uy.prog fn [] false (w.forCall tape i).memory i.args/\X (w.forCall tape i).memory i.args)/\sizedMet enc Uy.prog fn (Vy s) false (w.forCall tape i).memory i.args)/\({}:Assume).holds Uy.prog (lone (Frame.enter Uy.prog f i.args .normal) [] (w.forCall tape i))):
  Xx {} Uy os f .any (λw args=>(s.pre enc SC fn [] false w args/\X w args)/\sizedMet enc SC fn (Vy s) false w args) (s.post enc SC fn false true false false):=by
 refine aoP (C:=Uy) Tz.own started hf akY ?_;intro W base args ds gs before RP hW _ KD _;have aT:(Zd SC (fn.params.toList++s.plain.varTypes SC) (ds++gs)).all (·<=reachBytes)=true:=KD;clear KD;have Fs:∀(j:Nat) t v,fn.params[j]?=some t->args[j]?=some v->Yy SC W .any base t v:=RP;have va:=hW;obtain⟨p,q,Eh,hV,rfl,_,_⟩:=hW;have hA:DataW.TrodAll enc SC W 0 (λ_=>true) true fn.params.toList args.toList ds p:=Eh;rw[hp]at hA Fs aT;obtain⟨v0,d0,rfl,rfl,h0⟩:=trodAll_one hA;rw[hv]at hV;obtain⟨rfl,rfl⟩:=trodVars_none hV;have ay:=Fs 0 22 v0 rfl rfl;obtain⟨a0,len,cap,rfl⟩:=okWide_slice Tz.GN ay;have h0k:=h0;obtain⟨fuel,hfu⟩:=h0;clear Eh RP;simp only[SY]at va;have hlt:∀x∈p,x.block<W.heap.size:=λx hx=>by simpa using va.lt x hx
 have cI:∀(W':Tp),Below W.heap.size W W'->DataW.Trod enc SC W' 0 (λb=>decide (b<W.heap.size)) true 22 (.slice a0 len cap) d0 p:=
  λW' hn=>Below.trod Tz.laidOut Tz.r22 Tz.Lj h0k hn hlt
 have close:∀aA:List Int,aA.length<=2^50->ap (A5 W) (bp aA) (.slice a0 len cap)->
   ∃M last o w' t',runNT Uy.prog (M+1) (solo (G (Frame.enter Uy.prog f #[.slice a0 len cap] .normal) []) W) #[]=(.ended o w',t')/\
    runN Uy.prog M (solo (G (Frame.enter Uy.prog f #[.slice a0 len cap] .normal) []) W)=.next last/\step Uy.prog last=.ended o w'/\
    WZ Uy.prog (λv W'=>s.post enc Uy.prog fn false true false false W #[.slice a0 len cap] v W') last o w' t':=by
  intro aA hn hd;obtain⟨M,last,o,w',t',h1,h2,h3,h4⟩:=aiO (Q:=λv=>v=.bool true) (args:=#[.slice a0 len cap]) (lE:=[bp aA]) hi ⟨rfl,λi a e=>by
   match i,e with
   |0,e=>cases e;exact hd⟩ ((ajV aA hn).mono (λa H' e E v bi=>by subst e;cases bi;rfl) λ_ _ h=>h)
  refine⟨M,last,o,w',t',h1,h2,h3,h4.mono λv ⟨hQ,hL⟩=> ?_⟩;subst hQ;have hb:=hL.below;refine⟨[d0],[],_,[],p,[],va,?_,?_,by rw[hv];exact(by rw[show ([d0]++[]:List (aj' H))=[d0]from rfl,hs];rfl),hb.frame _,λh=>by cases h⟩
  ·rw[show ([d0]++[]:List (aj' H))=[d0]from rfl,hs,hr];exact trodAll_mk1 (shut_bool Tz.u4 true)
  ·rw[show ([d0]++[]:List (aj' H))=[d0]from rfl,hs,hp];exact trodAll_mk1 (cI _ hb)
 rcases open_ints Tz.GN Tz.u3 Tz.c3 hfu with⟨oy,hx⟩|⟨a,asS,cap',zs,oy,_,hl,hm,hz,hx,Jo,hwz⟩
 ·simp[Z7]at oy;obtain⟨rfl,rfl,rfl⟩:=oy;exact close [] (by simp) (.nil trivial)
 ·simp[Z7]at oy;obtain⟨rfl,rfl,rfl⟩:=oy;simp only[UZ]at hx;obtain⟨rfl,rfl⟩:=hx;simp only[if_true]at hz;have RB:a.spot=none:=by
   have:=ay;simp only[Yy,Tz.GN,Cell.okWide,Cell.ok]at this;exact this.2.2.2.1
  have asL:len* 8<=140737488355328:=by
   have:=sized_slice aT (j:=0) (t:=22) (e:=3) rfl rfl Tz.GN;rw[Tz.b3]at this;simp only[lits,Tn,TR,Uh,reachBytes]at this;omega
  obtain⟨bl,off,spot⟩:=a;simp only at RB;subst RB;have nT:(zs.take len).length=len:=by rw[TR];omega
  refine close (zs.take len) (by rw[nT];omega) (af1 nT hl λi hi=> ?_);have:=Jo i (by omega);rw[show (atf ⟨bl,off,none⟩ i)=⟨bl,off+i,none⟩ by simp[atf]]at this;rw[this,SE,SE,List.getElem?_take_of_lt hi]
def R8:List (List Nat):=[99,117,116]::[97,116]::[[70,105,114,115,116],[87,105,100,101,114],[71,105,118,101,110],[65,112,97,114,116],[70,111,114,103,101,100],[82,101,97,100],[71,114,101,97,116,101,114],[77,105,120,101,100],[84,114,117,101],[83,116,101,112,115],[79,114,100,101,114],[65,108,108]].map ([103,108,97,100,115,116,111,110,101,47,103,108,97,100,115,116,111,110,101,108,97,119,48,49,46,84,105,99,107,101,116]++·)
def R7:List Nat:=[104,97,114,110,101,115,115,32,52,53,102,100,53,51,53,49,102,55,99,100,57,55,51,53,100,100,102,52,98,97,54,100,48,51,53,50,49,55,53,54,101,100,101,54,101,54,99,53,99,99,52,49,57,100,50,53,55,100,49,55,57,50,99,52,48,101,97,100,49,102,57,101]++R8.flatMap (32::·)
set_option maxRecDepth 100000 in
theorem ioL:SC.initOrder.toList=R7.map Zf:=by
 have h:SC.initOrder=String.ofList (R7.map Zf):=by kernel_rfl
 rw[h,String.toList_ofList]
def K5:List (List Char):=R8.map λl=>l.map Zf
set_option maxRecDepth 100000 in
theorem ioW:behindMainWord (wordsSigns SC.initOrder.toList)=K5:=by
 rw[ioL]
 kernel_rfl
section
variable {P:SJ}{c:List Char}{rest:List (List Char)}
theorem amu (h : behindMainWord (wordsSigns P.initOrder.toList) = c :: rest) (hc : c = "cut".toList) (h1 : stripLifts liftWords (c :: rest) = ([], c :: rest)) (h2 : P.laysLater = false) (h3 : P.bearsReflect = false) (h4 : P.doorFits [] = true) : P.mayEnter = true := by
 unfold atg;rw[h];subst hc;simp only[h1,h2,h3,h4,X0,beq_self_eq_true,XB,YG,XU,Bool.or_true,Yt,U9]
theorem ajG (h : behindMainWord (wordsSigns P.initOrder.toList) = c :: rest) (hc : c = "cut".toList) (h1 : stripLifts liftWords (c :: rest) = ([], c :: rest)) : P.headLifts = [] := by
 unfold atj;rw[h];simp only[h1,ite_self]
theorem al1 (h : behindMainWord (wordsSigns P.initOrder.toList) = c :: rest) (hc : c = "cut".toList) (h1 : stripLifts liftWords (c :: rest) = ([], c :: rest)) : P.liftsFinal = false := by
 unfold ati;rw [ajG h hc h1, h];subst hc;simp only [X0, XB, ZX];have : (some "cut".toList == some "carried".toList) = false := by decide +kernel
 rw[this,Xi]
theorem amp (h : behindMainWord (wordsSigns P.initOrder.toList) = c :: rest) (hc : c = "cut".toList) : P.make = some .cut := by
 unfold ath;rw [h];subst hc;have e1 : ("cut".toList == "gc".toList) = false := by decide +kernel
 have e2 : ("cut".toList == "spec".toList) = false := by decide +kernel
 simp only[e1,e2,Bool.or_self,TN,if_false,beq_self_eq_true,ag2,if_true]
end
def FG:List Char:=K5.headD []
def K3:List (List Char):=K5.tail
theorem K4:behindMainWord (wordsSigns SC.initOrder.toList)=FG::K3:=ioW.trans (by kernel_rfl)
theorem K2 : FG = "cut".toList := by kernel_rfl
theorem R9:stripLifts liftWords (FG::K3)=([],FG::K3):=by kernel_rfl
theorem Tz.mayEnter:SC.mayEnter=true:=amu K4 K2 R9 (by kernel_rfl) (by kernel_rfl) (by kernel_rfl)
theorem Tz.al0:SC.liftsFinal=false:=al1 K4 K2 R9
theorem Tz.make:SC.make=some .cut:=amp K4 K2
theorem ald{P:SJ}{f:TO}{fn:YF}{s:ZW}{c:Yj}
  (k0:(c.wf (Vy s))=true)
  (k1:(laidOutB P)=true)
  (k2:(mapsRowed P)=true)
  (k3:(fn.params.all (P.readableRec ·))=true)
  (k4:(namedTie P c.named s.vars)=true)
  (k5:((c.stops==[]))=true)
  (k6:((P.stops==[]))=true)
  (k7:((c.knobs==[]))=true)
  (k8:((P.stopKnobs==[]))=true)
  (k9:((c.inPlace==P.inPlace f))=true)
  (Cm:((c.unfollowed==P.unfollowed f))=true)
  (K7:((c.recurses==P.recurses f))=true)
  (zq:((c.named==P.varsNamed f))=true)
  (K8:((c.maps==(fn.params.toList++s.plain.varTypes P).any (P.mapsRec ·)))=true)
  (Cn:((c.ifaces==(fn.params.toList++s.plain.varTypes P).any (P.ifacesRec ·)))=true)
  (K9:((c.mapsOut==P.mapsAmong fn.resultTypes.toList))=true)
  (K_:((c.loops==(fn.params.toList++s.plain.varTypes P).any (P.loopsFrom ·)))=true)
  (La:((c.wideKeys==(fn.params.toList++s.plain.varTypes P++fn.resultTypes.toList).any (P.wideKeysFrom ·)))=true)
  (Sg:(s.vars.all (P.varReadable ·))=true)
  (k19:(fn.resultTypes.all (λt=>P.readableRec t&&decide (t<P.types.size)))=true)
  (Lb:((c.ifacesOut==fn.resultTypes.toList.any (P.ifacesRec ·)))=true)
  (Lc:((c.loopsOut==fn.resultTypes.toList.any (P.loopsFrom ·)))=true)
  (Ld:((c.plainKeys==P.plainKeys))=true)
  (Lf:(c.shortTexts.isNone)=true)
  (Lg:(P.stopsHeard)=true)
  (Lh:(P.mayEnter)=true)
  (k26:((c.lifted==P.liftsFinal))=true)
  (k27:((P.make==some c.make))=true)
  (k28:c.domain.isEmpty=true) (alg:c.kinds=[])
  (k29:((c.pinned==c.pinnedBy))=true)
  (k30:((c.veiled==(fn.params.toList++s.plain.varTypes P++fn.resultTypes.toList).any (P.veiledRec ·)))=true)
  (k31:(c.veiledFits P fn.params.toList (fn.params.toList++s.plain.varTypes P++fn.resultTypes.toList))=true):joinedFacts P f fn s c=true:=by
 simp only[joinedFacts,k0,k1,k2,k3,k4,k5,k6,k7,k8,k9,Cm,K7,zq,K8,Cn,K9,K_,La,Sg,k19,Lb,Lc,Ld,Lf,Lg,Lh,k26,k27,k28,alg,if_true,beq_self_eq_true,k29,k30,k31,Yt]
theorem alZ{c:Yj}(h:c.lifted=false):(c.lifted==SC.liftsFinal)=true:=by rw[Tz.al0,h];rfl
theorem amq{c:Yj}(h:c.make=.cut):(SC.make==some c.make)=true:=by rw[Tz.make,h];rfl
end Go.Gg
namespace Go.Proofs.YtkanpclgnhdbiaaGreatDoor
open Go.Conc Go.Proofs Go.Gg
theorem aqP(Lk:Looks){p:Pinned}{s:OpenSpec}{c:Yj}(al:List (List PathCond))(kinds:List LaidKind)(GJ:Bool)(vc:Bool×String)(lk:Bool)
  (hc:c.holds p s) (gk:∀D∈al,(c.withDomain D).holds p s) (hw:c.wfByText s=true) (akW:∀D∈al,(c.withDomain D).wfByText s=true)
  (akR:c.laidByTextAt Lk p kinds GJ)
  (aP:c.start=.entering) (tT:c.noBlocks=false/\c.again=false) (hm:p.checked.prog.mainIs=some (vc.1,vc.2.toList)) (hn:(!vc.1&&vc.2.isEmpty&& !lk)=false)
  (hl:∀f fn,p.checked.prog.funcNamed c.func=some f->p.checked.prog.funcs[f]?=some fn->lk=p.checked.prog.looks []/\∀(j:Nat) t,fn.params[j]?=some t->p.checked.prog.wantsStandIn t=false)
  (hg:true=c.goesBy p.checked.prog):
  Claim7.holds p (.plain s) {stood:={row:=c,standIns:=[],harness:=vc,looks:=lk},kinds:=[],alts:=al,goes:=true,laidByText:=true,laidKinds:=kinds,laidTests:=GJ,laidLooks:=Lk}:=by
 have h6:∀r:Yj,Zw {stood:={row:=r,standIns:=[],harness:=vc,looks:=lk},kinds:=[]}=false:=λr=>by simpa[Zw]using hn
 refine⟨YZ Lk kinds GJ (YO hc vc lk aP tT hm (h6 c) hl) hw,λD hD=> ?_,akR,(λh=>by cases h),hg⟩;exact YZ Lk kinds GJ (YO (gk D hD) vc lk aP tT hm (h6 _) hl) (akW D hD)
theorem Sq:SC.funcNamed Rows.ticketGivenRow.func=some 5:=by kernel_rfl
theorem alz:joinedFacts SC 5 Wt Rows.ticketGivenSpec Rows.ticketGivenRow=true:=
 ald (by kernel_rfl) Tz.laidOut (by kernel_rfl) (by kernel_rfl) (by kernel_rfl) (by kernel_rfl) (by kernel_rfl) (by kernel_rfl) (by kernel_rfl) (by kernel_rfl) (by kernel_rfl) (by kernel_rfl) (by kernel_rfl) (by kernel_rfl) (by kernel_rfl) (by kernel_rfl) (by kernel_rfl) (by kernel_rfl) (by kernel_rfl) (by kernel_rfl) (by kernel_rfl) (by kernel_rfl) (by kernel_rfl) (by kernel_rfl) (by kernel_rfl) Tz.mayEnter (alZ (by kernel_rfl)) (amq (by kernel_rfl)) (by kernel_rfl) (by kernel_rfl) (by kernel_rfl) (by kernel_rfl) (by kernel_rfl)
theorem aly:Wt.isInstance SC Rows.ticketGivenRow.origin Rows.ticketGivenRow.targs:=of_decide_eq_true (by kernel_rfl)
theorem alA:Wt.isWrapper SC Rows.ticketGivenRow.wrapper Rows.ticketGivenRow.mainSum:=by unfold Func.isWrapper;first|(rw[if_pos (by decide+kernel)];kernel_rfl)|(rw[if_neg (by decide+kernel)];exact⟨rfl,rfl⟩)
theorem alx(os:Os)(args:Array SO):laidMetH SC Rows.ticketGivenRow.laid ((ZB SC 400 os).forCall (λ_ _=>0) ⟨#[],args,[]⟩).memory:=
 laidMetH_of_parts (laidMet_nil _ _) (by kernel_rfl)
theorem alB(os:Os)(started:os.Started)(H:Type)(enc:TypeId×SO->H):
  Xx {} Uy os 5 .any (λw args=>(Rows.ticketGivenSpec.pre enc SC Wt [] false w args/\laidMetH SC Rows.ticketGivenRow.laid w)/\sizedMet enc SC Wt (Vy Rows.ticketGivenSpec) false w args) (Rows.ticketGivenSpec.post enc SC Wt false true false false):=
 ak0 (f:=5) (fn:=Wt) (s:=Rows.ticketGivenSpec) (X:=λw _=>laidMetH SC Rows.ticketGivenRow.laid w) Zb rfl rfl rfl (λ_ _=>rfl) (by kernel_rfl) (λaA hn=>ahD rfl hn rfl) os started H enc
  (an_ (enc:=enc) (C:=Uy) (os:=os) (X:=λw _=>laidMetH SC Rows.ticketGivenRow.laid w) false (ZB SC 400 os) #[.slice none 0 0] 8 rfl (World.shaped_of_RefB (by kernel_rfl) (by kernel_rfl)) (by kernel_rfl) (by kernel_rfl) (by kernel_rfl) (alx os _))
theorem aqO:Rows.TicketGivenSaid:=
 apH 5 Wt rfl rfl rfl rfl rfl rfl rfl ⟨rfl,rfl,rfl,rfl,rfl⟩ rfl rfl rfl rfl rfl Sq Zb alz aly alA
  (λos started H enc _=>alB os started H enc)
theorem ticketGivenCard_holds:Rows.TicketGivenCardSaid:=
 aqP .later [] [.handle] true (true, "45fd5351f7cd9735ddf4ba6d03521756ede6e6c5cc419d257d1792c40ead1f9e") true
  aqO (λ_ h=>by cases h) (by kernel_rfl) (λ_ h=>by cases h) ticketGiven_row_tie rfl ⟨rfl,rfl⟩ (by kernel_rfl) rfl
  (λf fn hf wZ=>by
   obtain rfl:f=5:=VC (Sq.symm.trans hf)|>.symm;obtain rfl:fn=Wt:=(VC (Zb.symm.trans wZ)).symm;exact⟨by kernel_rfl,λj t ht=>by
    rw[show Wt.params=#[22]from rfl]at ht;have h3:t=22:=by
     rcases j with _|j
     ·simpa using ht.symm
     ·simp at ht
    subst h3;exact(show SC.wantsStandIn 22=false by kernel_rfl)⟩)
  (by kernel_rfl)
end Go.Proofs.YtkanpclgnhdbiaaGreatDoor
