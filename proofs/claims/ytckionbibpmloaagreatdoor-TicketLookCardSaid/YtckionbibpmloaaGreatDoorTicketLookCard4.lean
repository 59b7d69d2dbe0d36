/- A part of the proof. -/
import Derived.Test.YtckionbibpmloaaGreatDoorTicketLookCard3
set_option linter.all false
set_option maxRecDepth 4000
set_option maxHeartbeats 4000000
open Array renaming getD_eq_getD_getElem?->Td,getElem?_eq_getElem->Tf,getElem_mem->XP
open BitVec renaming ofInt->U2
open Bool renaming and_eq_true->Uk,and_false->Zb,and_self->avP,eq_iff_iff->U9,false_and->Yy,false_or->an_,not_eq_true'->UK,not_false->W1,not_true->X6,or_false->ZD,true_and->VO
open Classical renaming byContradiction->Uj
open Function renaming comp_apply->Xl
open Go renaming Code->UX,Oper->U8,Program->Tg
open Go.IntKind renaming i64->Tc,u16->T6,u64->Ux,wrap->Y4
open Go.Obj renaming deferred->ac'
open Go.Proofs.Tryz renaming f41->asg,f43->awh,f47->Zo,f50->awg,f54->awf,f68->awd,prog->ij
open Go.Region renaming wanted->Ug
open Go.Value renaming agg->Us,bool->Yg,int->S_,slice->Vh
open Int renaming eq_ofNat_of_zero_le->Z5,le_refl->al_,le_trans->YI,mul_le_mul->ZA,ofNat_inj->avA,toNat->Y',toNat_natCast->Wc
open List renaming all_eq_true->Uv,any_append->apT,any_cons->ZT,any_eq_true->Vp,append_assoc->Ax,append_eq_nil_iff->Zz,append_nil->Tu,cons_append->WK,contains_append->ZR,contains_eq_mem->Vf,contains_iff_mem->ZH,contains_nil->apH,drop->Vv,drop_append->WA,drop_append_of_le_length->Xq,drop_eq_getElem_cons->UW,drop_eq_nil_of_le->UR,drop_of_length_le->XW,drop_zero->WY,eq_nil_of_length_eq_zero->YU,exists_mem_of_ne_nil->WS,ext_getElem?->X2,filter_append->Z_,filter_congr->Wo,findIdx?_eq_none_iff->Ze,findIdx?_eq_some_iff_getElem->YA,flatMap_append->VN,flatMap_cons->UQ,flatMap_def->XR,flatMap_eq_nil_iff->Wv,flatMap_map->XQ,foldl_append->YN,foldl_cons->VS,forall_mem_cons->Yl,getD_cons_succ->Yk,getD_cons_zero->Yv,getD_eq_getElem?_getD->Se,getElem?_append_left->Tw,getElem?_append_right->Ud,getElem?_drop->Vd,getElem?_eq_getElem->Ts,getElem?_eq_none->Vx,getElem?_eq_some_iff->Tj,getElem?_map->Uo,getElem?_of_mem->WQ,getElem?_range->au',getElem?_set->VP,getElem?_set_ne->U3,getElem?_take->U5,getElem_mem->WX,getLast?_eq_getElem?->Zd,getLastD_cons->ak',getLastD_eq_getLast?->Wn,head?_append->XN,head?_cons->au_,length->avG,length_append->Tx,length_cons->UU,length_drop->Va,length_eraseIdx_of_lt->Y_,length_map->Un,length_nil->VR,length_pos_iff->Wy,length_replicate->ZG,length_set->UF,length_singleton->UV,length_take->U_,map->Wh,mapM_cons->UY,mapM_nil->Vt,map_append->UJ,map_congr_left->WI,map_cons->VI,map_flatMap->WW,map_map->Y2,map_nil->aj',map_take->W7,mem_append->Tp,mem_append_left->Ue,mem_append_right->T1,mem_cons->Th,mem_filter->Vq,mem_flatMap->T4,mem_iff_getElem?->VF,mem_map->Um,mem_of_getElem?->Uf,mem_of_mem_take->YE,mem_range->UA,mem_replicate->XG,mem_singleton->T7,nil_append->Vo,nodup_append->V_,nodup_cons->WM,nodup_iff_pairwise_ne->Vm,nodup_nil->XL,nodup_range->Y0,not_mem_nil->Tv,pairwise_iff_getElem->XF,pairwise_map->ao',range->Tt,range'->UZ,range'_succ->WF,range_eq_range'->VX,range_succ->Wr,range_zero->ao_,replicate->UE,set_append_left->VW,set_append_right->VE,set_cons_succ->Vg,set_cons_zero->UP,set_set->Yb,take->VC,take_add_one->Wm,take_append_drop->WO,take_append_of_le_length->Uu,take_eq_nil_iff->ZQ,take_length->Uy,take_of_length_le->Tn,take_set->avE,take_succ_cons->W4,take_succ_eq_append_getElem->VK,take_take->Wi,take_zero->awb
open List.Pairwise renaming imp->avH,imp_of_mem->YB
open List.Perm renaming nodup_iff->awm,refl->avU
open List.cons renaming injEq->ZS
open Nat renaming add_assoc->X7,add_comm->awa,add_sub_cancel->Xa,add_sub_cancel_left->VJ,add_zero->Vl,le_refl->Tm,le_trans->Vb,lt_irrefl->av3,lt_or_ge->ZF,lt_succ_self->Ve,min_eq_left->Xx,pow_le_pow_right->Yu,reduceAdd->To,reduceSub->Zr,sub_self->WL,sub_zero->avz,succ_mul->Xg,testBit_or->Yt,testBit_two_pow->W3,zero_add->WN,zero_le->Z1,zero_testBit->YS
open Option renaming bind_eq_bind->UL,getD_some->T9,map_some->VL,pure_def->U7,toList_some->ZP
open Option.some renaming injEq->Uh
namespace Go.Gg
open Go.Conc Go.Proofs Go.Gg.Tk
def Ez (lv:Bool)(H:SA)(f:AV)(b:Bool):Prop:=∀(L:SA)(k kp:SF),k (bv b) (H++L)->eM lv ij f (H++L) [] k kp
def l6:SC:=[iv 0,iv 0,iv 0,.sl 0 [] .exact,.sl 0 [] .exact,.sl 0 [] .exact]
def eC (D:Kn):Int:=if D.has then 0 else 11
def TQ{x:aj}:VC 6 x.l=x.l:=rfl
def TP{x:aj}:x.l.length=6:=rfl
def TY{H:List aa}:∀(L:SA)(j:Nat)(y:aa),(H++L).set (H.length+j) y=H++L.set j y:=λL j y=>dg H L j y
def TV{H:List aa}:∀(L:SA)(j:Nat),(H++L)[H.length+j]?=L[j]?:=λL j=>aS H L j
def TR{H:List aa}:∀(L:SA),(H++L)[H.length+2]?=L[2]?:=λL=>aS H L 2
def TU{H:List aa}:∀(L:SA),(H++L)[H.length+3]?=L[3]?:=λL=>aS H L 3
def xF{x:aj}{deep:Int}{p:Nat}{H:SA}{k kp:SF}{f:AV}{b:Bool}(hx:x.Ok)(hp:x.am=p)(hm:H[0]?=some .main)(hf:Ez true H f b)(iD:b=false->k (.aF [.agg l6,.agg gG,iv 3]) H)(cH:b=true->∀js D L mp,js.Perm (Tt (p+1))->n4 x deep js D->bM D->H.length<=mp->(H++L)[mp]?=some (setH D.aM)->k (.aF [x.av,.agg (D.l mp),iv (eC D)]) (H++L)):a_ true ij 54 H [x.av,iv deep,f] k kp:=by
 refine bw (rs:=[.cell 6 73,.cell 7 85,.tmp 8]) (nt:=36) awf λhH hA=> ?_;simp only[bc,To,aj.av];refine ai ?_;refine ah ?_;simp only[seval,TN,TM];refine aK (zC (x:=x) (dF hm) ?_);rw[ud.2 hx];(try simp only[seval]);refine ai ?_;refine aA ?_;refine aL ?_;refine ai ?_;refine nu (hf _ _ _ ?_);(try simp only[seval]);refine aA ?_;refine⟨λhb=> ?_,λhb=> ?_⟩
 ·have dj:b=false:=by simpa using hb
  have:=iD dj;refine ai ?_;refine kq ?_;simp only[seval,TO,TR];exact eV hH (Wk.refl _) (by simp[im,lV,dN,l6,gG,Hi]) this
 ·have dj:b=true:=by simpa using hb
  refine aL ?_;refine ah ?_;simp only[seval,TN];refine⟨⟨rfl,rfl,rfl⟩,?_⟩;refine ah ?_;simp only[seval,TU];refine aK (ajA (x:=x) hx (Ek hx) hp (dF hm) λjs D L5 gS iS dS hl5=> ?_);have eE:=λmp=>Kn.len dS mp;have j7:=tz D;obtain⟨z0,z1,z2,z3,z4,rfl⟩:∃z0 z1 z2 z3 z4,L5=[z0,z1,z2,z3,z4]:=by
   match L5,hl5 with
   |[a,b,c,d,e],_=>exact⟨a,b,c,d,e,rfl⟩
  (try simp only[seval,eE]);refine⟨j7 _,?_⟩;have ak5:∀(L:SA),(H++L)[H.length+10]?=L[10]?:=λL=>aS H L 10;obtain⟨mp,ry⟩:∃mp,mp=H.length+4+5:=⟨_,rfl⟩;rw[<- ry];refine ah ?_;simp only[seval,ak5,Kn.Cl];obtain⟨lj,eY⟩:∃lj:SC->SC->SA,∀u v,lj u v=H++[.cells x.l 25,.cells u 73,.cells v 85,.cells x.l 73,z0,z1,z2,z3,z4,setH D.aM,.cells (D.l mp) 85]:=⟨_,λ_ _=>rfl⟩;have p1:∀u v,(lj u v)[H.length+1]?=some (.cells u 73):=λu v=>by rw[eY,TV];rfl
  have p2:∀u v,(lj u v)[H.length+2]?=some (.cells v 85):=λu v=>by rw[eY,TV];rfl
  have p3:∀u v,(lj u v)[H.length+3]?=some (.cells x.l 73):=λu v=>by rw[eY,TV];rfl
  have p10:∀u v,(lj u v)[H.length+10]?=some (.cells (D.l mp) 85):=λu v=>by rw[eY,TV];rfl
  have s1:∀u v w,(lj u v).set (H.length+1) (.cells w 73)=lj w v:=λu v w=>by rw[eY,TY,eY];rfl
  have s2:∀u v w,(lj u v).set (H.length+2) (.cells w 85)=lj u w:=λu v w=>by rw[eY,TY,eY];rfl
  have ee:∀(e:Int),e=eC D->k (.aF [x.av,.agg (D.l mp),iv e]) (lj x.l (D.l mp)):=λe he=>by
   rw[he,eY];refine cH dj js D _ mp gS iS dS (by omega) ?_;rw[ry,show H.length+4+5=H.length+9 from rfl,TV];rfl
  have e0:=eY l6 gG;simp only[l6,gG,TM,iv,bv,wv,UE,WK,Vo,push_cast,Int.cast_ofNat_Int]at e0;rw[<- e0];clear e0;have lr:gG.length=28:=rfl;have hzr:l6.length=6:=rfl;have GJ:VC 28 (D.l mp)=D.l mp:=Tn (by rw[eE];exact Tm _);have sT:∀l:SC,l.length=28->D.l mp++Vv (D.l mp).length l=D.l mp:=λl hl=>by rw[eE,UR (by omega),Tu]
  have aaS:∀a∈x.l,a.leaf=true:=λa ha=>by
   simp only[aj.l,Th,Tv,or_false]at ha;rcases ha with rfl|rfl|rfl|rfl|rfl|rfl<;>rfl
  refine aA ?_;refine⟨λhh=> ?_,λhh=> ?_⟩
  ·have Ky:D.has=false:=(by simpa using hh);have:=ee 11 (by rw[eC,Ky];rfl);refine oY [2,3] [0,1,2,3,4] (λD'=>bif isDone 3 D' then lj x.l (D.l mp)else bif isDone 2 D' then lj x.l gG else lj l6 gG) ?_;simp only[seval,p1,p2,p3,p10,s1,s2,eE,TP,lr,hzr,j7];rw[TQ,GJ];refine⟨rfl,Tm _,aaS,rfl,eE _,by rw[eE];exact Tm _,j7 _,by rw[sT _ rfl];rfl,?_⟩;refine kq ?_;simp only[seval,p1,p2,eE];rw[GJ];refine eg (a:=[x.av,.agg (D.l mp),iv 11]) rfl ?_;exact bZ this
  ·have Ky:D.has=true:=(by simpa using hh);have:=ee 0 (by rw[eC,Ky];rfl);refine aL ?_;refine oY [2,3] [0,1,2,3,4] (λD'=>bif isDone 3 D' then lj x.l (D.l mp)else bif isDone 2 D' then lj x.l gG else lj l6 gG) ?_;simp only[seval,p1,p2,p3,p10,s1,s2,eE,TP,lr,hzr,j7];rw[TQ,GJ];refine⟨rfl,Tm _,aaS,rfl,eE _,by rw[eE];exact Tm _,j7 _,by rw[sT _ rfl];rfl,?_⟩;refine kq ?_;simp only[seval,p1,p2,eE];rw[GJ];refine eg (a:=[x.av,.agg (D.l mp),iv 0]) rfl ?_;exact bZ this
namespace Tk
def fB (s:Nat)(more:Int)(i:Nat):SD:=((Tt i).filter s.testBit).map λn:Nat=>(n:Int)+more
def abo(s:Nat)(more:Int)(i:Nat):fB s more (i+1)=if s.testBit i then fB s more i++[(i:Int)+more]else fB s more i:=by
 unfold fB;rw[Wr,Z_,UJ];by_cases h:s.testBit i=true
 ·simp[h]
 ·simp[h]
def MZ(s:Nat)(more:Int)(i:Nat):(fB s more i).length<=i:=by
 unfold fB;rw[Un];exact Vb (List.length_filter_le _ _) (by simp)
end Tk
def z1:fO (S_ .i64 0) 1=[iv 0]:=rfl
section
variable {lv:Bool}{H:SA}{k kp:SF}
def JY{s:Nat}{more:Int}(hs:s<65536)(hm:0<=more/\more<=1000)(hk:k (bp (fB s more 16)) H):a_ lv ij 74 H [wv s,iv more] k kp:=by
 refine bw (rs:=[.tmp 4]) (nt:=21) Tryz.f74 λhH hA=> ?_;simp only[bc,To];refine ai ?_;refine ai ?_
 (repeat apply iA);refine vK (t:=5) (sz:=1) (el:=3) (by simp only[seval]<;>rfl) ?_
 refine ai ?_;refine b_ ?_;refine fS 16 (λi:Nat=>[(5,.sl (fB s more i).length ((fB s more i).map iv) (.opn H.length)),(7,iv i)]) (λi=>H++[.tail (fB s more i).length 1 3]) (λ_=>True) (λ_ _=>rfl) (by simp only[seval];simp[bP,Wk.refl];exact Wk.refl _) rfl (λ_ _ _=>by simp) trivial (λbX cU i cK hi R hR=> ?_);refine ai ?_;refine aA ?_;refine⟨λh=> ?_,λh=> ?_⟩
 ·have hl:i<16:=by omega
  have fW:=TL i (by omega)
  have rk:Tc.wrap ((i:Int)+more)=(i:Int)+more:=bF _ (by omega);have iE:=MZ s more i;refine aL ?_;refine ai ?_;refine ai ?_;refine aK (ul hs ?_);(try simp only[seval]);refine aA ?_;refine⟨λhb=> ?_,λhb=> ?_⟩
  ·refine ah ?_;simp only[seval,z1,rk]
   first|refine⟨by decide,by omega,?_⟩|refine⟨by omega,?_⟩
   refine ah ?_;simp only[seval,fW];have c_:fB s more (i+1)=fB s more i++[(i:Int)+more]:=(by rw[abo,if_pos hb]);refine hR _ ⟨hl,trivial,?_⟩;rw[c_,UJ,Tx];exact dp
  ·refine aL ?_;refine ah ?_;simp only[seval,fW];have c_:fB s more (i+1)=fB s more i:=(by rw[abo,if_neg (by simpa using hb)]);refine hR _ ⟨hl,trivial,?_⟩;rw[c_];exact dp
 ·refine bT ?_;have:i=16:=by omega
  subst this;refine ai ?_;refine aP ?_;rw[bp]at hk;exact eV hH (gF _ _ _) (by simp[u6,dN]) hk
def aiE{x:aj}{n:Int}{ir:Nat}(hx:x.Ok)(hr:H[ir]?=some (.cells x.l 25))(hk:k (bv (decide (n<0)||decide (n>(x.pieces.length:Int)-1))) H):a_ lv ij 104 H [iv n,.op ir 0] k kp:=by
 refine bw (rs:=[.tmp 3]) (nt:=10) Tryz.f104 λhH hA=> ?_;simp only[bc,To];have mT:=hx.cW;have hw:Tc.wrap ((x.pieces.length:Int)-1)=(x.pieces.length:Int)-1:=bF _ (by omega);refine ai ?_;refine ah ?_;simp only[seval,hr,TM,aQ,hw];refine aK (sI ?_);(try simp only[seval]);refine aP ?_;exact bZ hk
def aiP{ns:SD}{f:AV}{e:End}(jf:ns.length<=4)(g:Int->Bool)(hf:∀n∈ns,∀(k kp:SF),k (bv (g n)) H->eM lv ij f H [iv n] k kp)(hk:k (iv (match ns.findIdx? g with|some i=>(i:Int)|none=> -1)) H):a_ lv ij 130 H [.sl ns.length (ns.map iv) e,f] k kp:=by
 refine bw (rs:=[.tmp 4]) (nt:=19) Tryz.f130 λhH hA=> ?_;simp only[bc,To];refine ai ?_;refine ai ?_;refine b_ ?_;refine t_ ns.length (λi:Nat=>[(8,iv i)]) (λ_=>_) (λi=>∀n∈ns.take i,g n=false) (by simp) (λbX cU i cK hi R hR=> ?_);refine ai ?_;refine aA ?_;refine⟨λh=> ?_,λh=> ?_⟩
 ·have bG:i<ns.length:=by omega
  obtain⟨n,hn⟩:=bU bG;have fW:=TL i (by omega)
  refine aL ?_;refine ai ?_;refine ah ?_;simp only[seval,gW hn,iB bG];refine nu (hf n (Uf hn) _ _ ?_);(try simp only[seval]);refine aA ?_;refine⟨λhg=> ?_,λhg=> ?_⟩
  ·refine ai ?_;refine aP ?_;have:ns.findIdx? g=some i:=by
    rw[YA];refine⟨bG,?_,λj hj=> ?_⟩
    ·rw[Ts bG]at hn;cases hn;exact hg
    ·have:=hi ns[j] (by rw[List.mem_take_iff_getElem];exact⟨j,by omega,rfl⟩);simp[this]
   rw[this]at hk;exact bZ hk
  ·refine aL ?_;refine ah ?_;simp only[seval,fW];refine hR _ ⟨bG,λm hm=> ?_,dp⟩;rw[Wm,hn]at hm;rcases Tp.1 hm with h'|h'
   ·exact hi m h'
   ·simp at h';rw[h'];simpa using hg
 ·have:i=ns.length:=by omega
  subst this;rw[Uy]at hi;refine bT ?_;refine ai ?_;refine aP ?_;have:ns.findIdx? g=none:=by rw[Ze];exactλn hn=>hi n hn
  rw[this]at hk;exact bZ hk
def aiD{ns:SD}{f:AV}{e:End}(jf:ns.length<=4)(g:Int->Bool)(hf:∀n∈ns,∀(k kp:SF),k (bv (g n)) H->eM lv ij f H [iv n] k kp)(hk:k (bv (ns.any g)) H):a_ lv ij 103 H [.sl ns.length (ns.map iv) e,f] k kp:=by
 refine bw (rs:=[.tmp 4]) (nt:=9) Tryz.f103 λhH hA=> ?_;simp only[bc,To];refine ai ?_;refine ai ?_;refine aK (aiP jf g hf ?_);(try simp only[seval]);refine aP ?_;refine bZ ?_;have:decide ((match ns.findIdx? g with|some i=>(i:Int)|none=> -1)>=0)=ns.any g:=by
  cases h:ns.findIdx? g with
  |none=>
   rw[Ze]at h;have:ns.any g=false:=by
    rw[List.any_eq_false];exactλn hn=>by simp[h n hn]
   rw[this];rfl
  |some i=>
   rw[YA]at h;obtain⟨h1,h2,_⟩:=h;have:ns.any g=true:=Vp.2 ⟨ns[i],WX h1,h2⟩;rw[this];simp
 rw[this];exact hk
def m8 (x:aj)(ns:SD):Bool:= !(ns.any λn=>decide (n<0)||decide (n>(x.pieces.length:Int)-1))
def FB{x:aj}{ns:SD}{e:End}{il ir:Nat}(hx:x.Ok)(jf:ns.length<=4)(hl:H[il]?=some (.cells [.sl ns.length (ns.map iv) e] 30))(hr:H[ir]?=some (.cells x.l 25))(hk:k (bv (m8 x ns)) H):a_ lv ij 102 H [.op il 0,.op ir 0] k kp:=by
 refine bw (rs:=[.tmp 2]) (nt:=7) Tryz.f102 λhH hA=> ?_;simp only[bc,To];refine ai ?_;refine ah ?_;simp only[seval,hl,UY,Vt,U7,UL];refine aK (aiD (ns:=ns) jf (λn=>decide (n<0)||decide (n>(x.pieces.length:Int)-1)) (λn hn k kp hk=> ?_) ?_)
 ·exact cO (aiE hx hr hk)
 (try simp only[seval]);refine aP ?_;exact bZ hk
def FE{x:aj}{ns:SD}{e:End}(hk:k (.fn (.func 102) [] [.op (H.length+1) 0,.op H.length 0]) (H++[.cells x.l 25,.cells [.sl ns.length (ns.map iv) e] 30])):a_ lv ij 67 H [x.av,.sl ns.length (ns.map iv) e] k kp:=by
 refine bw (rs:=[.tmp 4]) (nt:=6) Tryz.f67 λhH hA=> ?_;simp only[bc,To,aj.av];refine ai ?_;refine ah ?_;simp only[seval,UY,Vt,U7,UL];refine aP ?_;exact bZ hk
end
open Go.Conc Go.Proofs Go.Gg.Tk
def eT (x:aj)(deep:Int)(D:Kn):Prop:=∃(p:Nat)(js:SE),x.am=p/\js.Perm (Tt (p+1))/\n4 x deep js D/\bM D
def vd(x:aj):∀a∈x.l,a.leaf=true:=λa ha=>by
 simp only[aj.l,Th,Tv,or_false]at ha;rcases ha with rfl|rfl|rfl|rfl|rfl|rfl<;>rfl
section
variable {H:SA}{k kp:SF}
def EZ{lv:Bool}:Ez lv H (.fn (.func 55) [] []) true:=λL k kp hk=>cO (ajq hk)
def aiY{x:aj}(hx:x.Ok)(hm:H[0]?=some .main)(hk:∀D,eT x 0 D->k (.aF [iv (if D.has then(D.aM.length:Int)else 0),iv 0]) H):a_ true ij 16 H [x.av] k kp:=by
 refine bw (rs:=[.tmp 2,.tmp 3]) (nt:=19) Tryz.f16 λhH hA=> ?_;simp only[bc,To,aj.av];have hp:=hx.am;obtain⟨p,gU⟩:∃p:Nat,x.am=p:=⟨x.am.toNat,by omega⟩;refine ai ?_;refine ah ?_;simp only[seval,TN,TP,TQ];refine aK (xF (x:=x) hx gU (dF hm) EZ (λh=>by cases h) λ_ js D L mp gS iS dS ry hg=> ?_);have ov:eT x 0 D:=⟨p,js,gU,gS,iS,dS⟩;have eE:=Kn.len dS mp;have j7:=tz D mp;obtain⟨B,hB⟩:∃B,B=H++[aa.cells x.l 25]++L:=⟨_,rfl⟩;rw[<- hB]at hg⊢;(try simp only[seval,aj.av,TP,eE]);refine⟨vd x,j7,?_⟩;have eQ:∀(L':SA)(n:Int),k (.aF [iv n,iv 0]) H->bY H.length (B++L') (.aF [iv n,iv 0]) k:=λL' n h=>by
  rw[hB,Ax,Ax];exact eV hH (Wk.refl _) (by simp[im,dN]) h
 have mO:∀(L':SA),(B++L')[B.length+1]?=L'[1]?:=λL'=>aS B L' 1;have wl:∀(L':SA),(B++L')[mp]?=some (.obj (.map (D.aM.zipIdx.map eA).toArray D.aM.length)):=λL'=>dF hg;have bA:(D.l mp).drop 1=.mp mp::((D.l mp).drop 2):=rfl;have aI:=hk D ov;cases hh:D.has with
 |false=>
  have hE:eC D=11:=by rw[eC,hh];rfl
  rw[hh]at aI;refine ah ?_;simp only[seval,hE,show ((11:Int)==11)=true from rfl];refine aA ?_;refine ai ?_;refine aP ?_;exact eQ _ 0 aI
 |true=>
  have hE:eC D=0:=by rw[eC,hh];rfl
  rw[hh]at aI;refine ah ?_;simp only[seval,hE,show ((0:Int)==11)=false from rfl];refine aA ?_;refine aL ?_;refine ah ?_;simp only[seval,mO,bA,wl];have aX:(D.aM.zipIdx.map eA).toArray.size=D.aM.length:=by simp
  rw[aeO _ _ _ _ _ F.OP (wl _),aX];refine aP ?_;exact eQ _ _ aI
end
namespace Tk
def vM (some other:Bool):Int:=if some&&other then 3 else if some then 1 else 2
end Tk
open Go.Conc Go.Proofs Go.Gg.Tk
section
variable {lv:Bool}{H:SA}{k kp:SF}
def aju{D:Kn}{mp a b:Nat}(hD:bM D)(ha:a<4)(hb:b<4)(hk:k (iv (vM ((D.less.getD a 0).testBit b) ((D.less.getD b 0).testBit a))) H):a_ lv ij 68 H [.agg (D.l mp),.bR 139 (.agg [iv a,iv b])] k kp:=by
 refine bw (rs:=[.tmp 4]) (nt:=65) awd λhH hA=> ?_;simp only[bc,To];have eE:=Kn.len hD mp;obtain⟨u,hu⟩:=bU (xs:=D.less) (i:=a) (by rw[hD.less];exact ha);obtain⟨v,hv⟩:=bU (xs:=D.less) (i:=b) (by rw[hD.less];exact hb);have kF:D.less.getD a 0=u:=by rw[Se,hu];rfl
 have uO:D.less.getD b 0=v:=by rw[Se,hv];rfl
 rw[kF,uO]at hk;have lu:=hD.lT _ (Uf hu);have lv':=hD.lT _ (Uf hv);have b4a:(0<=(a:Int)/\(a:Int)<4)=True:=by simp;omega
 have b4b:(0<=(b:Int)/\(b:Int)<4)=True:=by simp;omega
 have xV:=Kn.DI hD (mp:=mp) hu;have CP:=Kn.DI hD (mp:=mp) hv;have e1:∀n:Int,[iv n].drop 0=[iv n]:=λ_=>rfl;refine ai ?_;refine ai ?_;refine ai ?_;refine ah ?_;simp only[seval,F.MA];refine aA ?_;refine ai ?_;refine eo 15 ?_;simp only[seval,TN,TO,b4a,b4b,xV,CP];refine gE (bv (u.testBit b)) (cO (ul lu ⟨rfl,rfl⟩)) ?_;refine aK (ul lv' ?_);(try simp only[seval]);have fin:∀(L:SA)(n:Int),vM (u.testBit b) (v.testBit a)=n->bY H.length (H++L) (iv n) k:=λL n h=>by rw[h]at hk;exact gQ hH hk
 generalize u.testBit b=s1 at fin⊢;generalize v.testBit a=s2 at fin⊢;cases s1<;>cases s2
 all_goals
  refine ai ?_;refine b_ ?_;refine b_ ?_;refine b_ ?_;refine ai ?_;refine aA ?_
 ·refine aL ?_;refine ai ?_;refine aA ?_;refine bT ?_;refine ai ?_;refine ai ?_;refine bT ?_;refine ai ?_;refine aP ?_;exact fin _ 2 rfl
 ·refine aL ?_;refine ai ?_;refine aA ?_;refine bT ?_;refine ai ?_;refine ai ?_;refine bT ?_;refine ai ?_;refine aP ?_;exact fin _ 2 rfl
 ·refine aL ?_;refine ai ?_;refine aA ?_;refine aL ?_;refine bT ?_;refine ai ?_;refine bT ?_;refine ai ?_;refine aP ?_;exact fin _ 1 rfl
 ·refine bT ?_;refine ai ?_;refine ai ?_;refine ai ?_;refine bT ?_;refine ai ?_;refine aP ?_;exact fin _ 3 rfl
def ajv{D:Kn}{mp s q:Nat}(hD:bM D)(hs:s<3)(hq:q<4)(hk:k (iv (vM ((D.aY.getD s 0).testBit q) (D.aY.getD s 0!=2^q))) H):a_ lv ij 68 H [.agg (D.l mp),.bR 104 (.agg [iv s,iv q])] k kp:=by
 refine bw (rs:=[.tmp 4]) (nt:=65) awd λhH hA=> ?_;simp only[bc,To];have eE:=Kn.len hD mp;obtain⟨u,hu⟩:=bU (xs:=D.aY) (i:=s) (by rw[hD.aY];exact hs);have kF:D.aY.getD s 0=u:=by rw[Se,hu];rfl
 rw[kF]at hk;have lu:=hD.lW _ (Uf hu);have b3:(0<=(s:Int)/\(s:Int)<3)=True:=by simp;omega
 have xV:=Kn.D4 hD (mp:=mp) hu;refine ai ?_;refine ai ?_;refine ai ?_;refine ah ?_;simp only[seval,F.MA];refine aA ?_;refine ah ?_;simp only[seval,F.aaW];refine aA ?_;refine ai ?_;refine eo 18 ?_;simp only[seval,TN,TO,b3,xV];refine gE (bv (u.testBit q)) (cO (ul lu ⟨rfl,rfl⟩)) ?_;refine gE (wv (2^q)) (cO (um (m:=0) (by decide) (show q<16 by omega) ⟨by rw[Nat.zero_or],rfl⟩)) ?_;have aH:((u:Int)!=((2^q:Nat):Int))=(u !=2^q):=by
  rw[U9,bne_iff_ne,bne_iff_ne];exact not_congr avA
 rw[show wv u=AV.val (.int .u16 (u:Int))from rfl,show wv (2^q)=AV.val (.int .u16 ((2^q:Nat):Int))from rfl,OY,aH];have fin:∀(L:SA)(n:Int),vM (u.testBit q) (u !=2^q)=n->bY H.length (H++L) (iv n) k:=λL n h=>by rw[h]at hk;exact gQ hH hk
 generalize u.testBit q=s1 at fin⊢;generalize(u !=2^q)=s2 at fin⊢;cases s1<;>cases s2
 all_goals
  refine ai ?_;refine b_ ?_;refine b_ ?_;refine b_ ?_;refine ai ?_;refine aA ?_
 ·refine aL ?_;refine ai ?_;refine aA ?_;refine bT ?_;refine ai ?_;refine ai ?_;refine bT ?_;refine ai ?_;refine aP ?_;exact fin _ 2 rfl
 ·refine aL ?_;refine ai ?_;refine aA ?_;refine bT ?_;refine ai ?_;refine ai ?_;refine bT ?_;refine ai ?_;refine aP ?_;exact fin _ 2 rfl
 ·refine aL ?_;refine ai ?_;refine aA ?_;refine aL ?_;refine bT ?_;refine ai ?_;refine bT ?_;refine ai ?_;refine aP ?_;exact fin _ 1 rfl
 ·refine bT ?_;refine ai ?_;refine ai ?_;refine ai ?_;refine bT ?_;refine ai ?_;refine aP ?_;exact fin _ 3 rfl
def apA{x:aj}{q:Nat}(hq:q<x.pieces.length):m8 x [(q:Int)]=true:=by
 unfold m8;simp;omega
def ajt{x:aj}{s q ir ip is:Nat}(hx:x.Ok)(hs:s<x.aC.length)(hq:q<x.pieces.length)(hr:H[ir]?=some (.cells x.l 25))(h1:H[ip]?=some (.cells [iv q] 3))(h2:H[is]?=some (.cells [iv s] 3))(hk:k (bv true) H):a_ lv ij 66 H [.op ir 0,.op ip 0,.op is 0] k kp:=by
 refine bw (rs:=[.tmp 3]) (nt:=18) Tryz.f66 λhH hA=> ?_;simp only[bc,To];have aT:=hx.eG;have au:=apA hq;have hw:Tc.wrap ((x.aC.length:Int)-1)=(x.aC.length:Int)-1:=bF _ (by omega);have cK:(decide ((s:Int)<0)||decide ((s:Int)>(x.aC.length:Int)-1))=false:=by simp;omega
 refine ai ?_;refine ah ?_;simp only[seval,z1,hr,h1,TP,TQ];(try refine⟨by decide,?_⟩);refine aK (FE (x:=x) (ns:=[(q:Int)]) (e:=.exact) ?_);(try simp only[seval]);refine aK (FB (x:=x) (ns:=[(q:Int)]) (e:=.exact) hx (by simp) (by rw[TO];rfl) (by rw[TN];rfl) ?_);(try simp only[seval,au,dF hr,dF h2,TM,aQ,hw]);refine aK (sI ?_);(try simp only[seval,cK]);refine aP ?_;exact gQ hH hk
def ai0{x:aj}{s q:Nat}(hx:x.Ok)(hs:s<x.aC.length)(hq:q<x.pieces.length)(hm:H[0]?=some .main)(hk:∀D,eT x 2 D->k (.aF [iv (if D.has then vM ((D.aY.getD s 0).testBit q) (D.aY.getD s 0!=2^q)else 0),iv (eC D)]) H):a_ true ij 22 H [x.av,iv s,iv q] k kp:=by
 refine bw (rs:=[.tmp 6,.tmp 7]) (nt:=27) Tryz.f22 λhH hA=> ?_;simp only[bc,To,aj.av];have hp:=hx.am;obtain⟨p,gU⟩:∃p:Nat,x.am=p:=⟨x.am.toNat,by omega⟩;refine ai ?_;refine ah ?_;simp only[seval,TN,TP,TQ,UY,Vt,U7,UL];refine aK (xF (x:=x) (b:=true) hx gU (dF hm) (λL k kp hk=>cO (ajt hx hs hq (by rw[Ax,TN];rfl) (by rw[Ax,TR];rfl) (by rw[Ax,TO];rfl) hk)) (λh=>by cases h) λ_ js D L mp gS iS dS ry hg=> ?_);have ov:eT x 2 D:=⟨p,js,gU,gS,iS,dS⟩;have eE:=Kn.len dS mp;have j7:=tz D mp;obtain⟨Y,hY⟩:∃Y:SA,Y=[aa.cells x.l 25,.cells [iv s] 3,.cells [iv q] 3]++L:=⟨_,rfl⟩;obtain⟨B,hB⟩:∃B,B=H++Y:=⟨_,rfl⟩;have o0:H++[aa.cells x.l 25,.cells [iv s] 3,.cells [iv q] 3]++L=B:=by rw[hB,hY,Ax]
 have mO:∀(L':SA),(B++L')[B.length+1]?=L'[1]?:=λL'=>aS B L' 1;have hbs:∀(L':SA),(B++L')[H.length+1]?=some (.cells [iv s] 3):=λL'=>by rw[hB,hY,Ax,TO];rfl
 have hbq:∀(L':SA),(B++L')[H.length+2]?=some (.cells [iv q] 3):=λL'=>by rw[hB,hY,Ax,TR];rfl
 have aI:=hk D ov;have eQ:∀(L':SA)(n m:Int),k (.aF [iv n,iv m]) H->bY H.length (B++L') (.aF [iv n,iv m]) k:=λL' n m h=>by
  rw[hB,Ax];exact eV hH (Wk.refl _) (by simp[im,dN]) h
 rw[o0];clear o0 hg hB;(try simp only[seval,aj.av,TP,eE]);refine⟨vd x,j7,?_⟩;cases hh:D.has with
 |false=>
  have hE:eC D=11:=by rw[eC,hh];rfl
  rw[hE,hh]at aI;refine ah ?_;simp only[seval,hE,show ((11:Int)!=0)=true from rfl];refine aA ?_;refine ai ?_;refine aP ?_;exact eQ _ 0 11 aI
 |true=>
  have hE:eC D=0:=by rw[eC,hh];rfl
  rw[hE,hh]at aI;refine ah ?_;simp only[seval,hE,show ((0:Int)!=0)=false from rfl];refine aA ?_;refine aL ?_;refine ah ?_;simp only[seval,F.aaW,mO,hbs,hbq,eE];rw[Tn (i:=28) (by rw[eE];exact Tm _)];refine aK (ajv (s:=s) (q:=q) dS (by have:=hx.eG;omega) (by have:=hx.cW;omega) ?_);(try simp only[seval]);refine aP ?_;exact eQ _ _ 0 aI
end
def z2:fO (S_ .i64 0) 2=[iv 0,iv 0]:=rfl
section
variable {H:SA}{k kp:SF}
def ajf{x:aj}{a b:Nat}(hx:x.Ok)(ha:a<x.pieces.length)(hb:b<x.pieces.length)(hm:H[0]?=some .main)(h0:a=b->k (.aF [iv 0,iv 8]) H)(hk:a≠b->∀D,eT x 1 D->k (.aF [iv (if D.has then vM ((D.less.getD a 0).testBit b) ((D.less.getD b 0).testBit a)else 0),iv (eC D)]) H):a_ true ij 45 H [x.av,iv a,iv b] k kp:=by
 refine bw (rs:=[.tmp 6,.tmp 7]) (nt:=42) Tryz.f45 λhH hA=> ?_;simp only[bc,To,aj.av];have hp:=hx.am;have mT:=hx.cW;obtain⟨p,gU⟩:∃p:Nat,x.am=p:=⟨x.am.toNat,by omega⟩;have au:m8 x [(a:Int),(b:Int)]=true:=by unfold m8;simp;omega
 refine ai ?_;refine ah ?_;simp only[seval,TN,TP,TQ];refine aK (zC (x:=x) (dF hm) ?_);rw[ud.2 hx];(try simp only[seval]);refine ah ?_;simp only[seval,show ((0:Int)!=0)=false from rfl];refine aA ?_;refine aL ?_;refine ah ?_;simp only[seval,TN,TP,TQ,z2];(try refine⟨by decide,?_⟩);refine aK (FE (x:=x) (ns:=[(a:Int),(b:Int)]) (e:=.exact) ?_);(try simp only[seval]);refine aK (FB (x:=x) (ns:=[(a:Int),(b:Int)]) (e:=.exact) (il:=H.length+2) (ir:=H.length+1) hx (by simp) (by rw[TR];rfl) (by rw[TO];rfl) ?_);(try simp only[seval,au]);refine aA ?_;refine aL ?_;by_cases dJ:a=b
 ·have h1:((a:Int)==(b:Int))=true:=by rw[dJ];simp
  refine ah ?_;simp only[seval,h1];refine aA ?_;refine ai ?_;refine aP ?_;exact eV hH (Wk.refl _) (by simp[im,dN]) (h0 dJ)
 ·have h1:((a:Int)==(b:Int))=false:=by rw[beq_eq_false_iff_ne];exactλe=>dJ (avA.1 e)
  refine ah ?_;simp only[seval,h1];refine aA ?_;refine aL ?_;refine ah ?_;simp only[seval,TN,TP,TQ];refine aK (xF (x:=x) hx gU (dF hm) EZ (λh=>by cases h) λ_ js D L mp gS iS dS ry hg=> ?_);have ov:eT x 1 D:=⟨p,js,gU,gS,iS,dS⟩;have eE:=Kn.len dS mp;have j7:=tz D mp;have aI:=hk dJ D ov;obtain⟨Y,hY⟩:∃Y:SA,Y=[aa.cells x.l 25,.cells x.l 25,.cells [.sl 2 [iv a,iv b] .exact] 30]++L:=⟨_,rfl⟩;obtain⟨B,hB⟩:∃B,B=H++Y:=⟨_,rfl⟩;have o0:H++[aa.cells x.l 25,.cells x.l 25,.cells [.sl 2 [iv a,iv b] .exact] 30]++L=B:=by rw[hB,hY,Ax]
  have mO:∀(L':SA),(B++L')[B.length+1]?=L'[1]?:=λL'=>aS B L' 1;have eQ:∀(L':SA)(n m:Int),k (.aF [iv n,iv m]) H->bY H.length (B++L') (.aF [iv n,iv m]) k:=λL' n m h=>by
   rw[hB,Ax];exact eV hH (Wk.refl _) (by simp[im,dN]) h
  rw[o0];clear o0 hg hB;(try simp only[seval,aj.av,TP,eE]);refine⟨vd x,j7,?_⟩;cases hh:D.has with
  |false=>
   have hE:eC D=11:=(by rw[eC,hh];rfl);rw[hE,hh]at aI;refine ah ?_;simp only[seval,hE,show ((11:Int)!=0)=true from rfl];refine aA ?_;refine ai ?_;refine aP ?_;exact eQ _ 0 11 aI
  |true=>
   have hE:eC D=0:=(by rw[eC,hh];rfl);rw[hE,hh]at aI;refine ah ?_;simp only[seval,hE,show ((0:Int)!=0)=false from rfl];refine aA ?_;refine aL ?_;refine ah ?_;simp only[seval,F.MA,mO,eE];rw[Tn (i:=28) (by rw[eE];exact Tm _)];refine aK (aju (a:=a) (b:=b) dS (by omega) (by omega) ?_);(try simp only[seval]);refine aP ?_;exact eQ _ _ 0 aI
end
namespace Tk
structure gY where
 lo:Int
 hi:Int
 is:Bool
def gY.add (b:gY)(v:Int):gY:=if b.is then⟨min b.lo v,max b.hi v,true⟩else⟨v,v,true⟩
end Tk
def Tk.gY.l (b:gY):SC:=[iv b.lo,iv b.hi,bv b.is]
section
variable {lv:Bool}{H:SA}{k kp:SF}
def ajz{b:gY}{v:Int}{i:Nat}(hi:H[i]?=some (.cells b.l 134))(hk:k (.aF []) (H.set i (.cells (b.add v).l 134))):a_ lv ij 90 H [.op i 0,iv v] k kp:=by
 refine bw (rs:=[]) (nt:=38) Tryz.f90 λhH hA=> ?_;simp only[bc,To];have bG:=ep hi;obtain⟨hp,eY⟩:∃hp:SC->SA,∀l,hp l=H.set i (.cells l 134):=⟨_,λ_=>rfl⟩;have h0:H=hp b.l:=by rw[eY];exact(qE hi).symm
 have hg:∀l,(hp l)[i]?=some (.cells l 134):=λl=>by rw[eY,VP,if_pos rfl,if_pos bG]
 have hs:∀l l',(hp l).set i (.cells l' 134)=hp l':=λl l'=>by rw[eY,eY,Yb]
 have fin:∀(N:Nat)(l:SC),l=(b.add v).l->bY N (hp l) (.aF []) k:=λN l e=>by
  rw[e,eY];exact bZ hk
 rw[h0];clear hH hA eY h0 hi hk;refine ah ?_;simp only[seval,hg,gY.l];refine aA ?_;refine⟨λh=> ?_,λh=> ?_⟩
 ·have hb:b.is=false:=by simpa using h
  refine ah ?_;simp(maxSteps:=4000000) only[seval,hg,hs];refine oY [16,19] (Tt 20) (λD=>bif isDone 19 D then hp [iv (min v v),iv (max v v),bv true]else bif isDone 16 D then hp [iv (min v v),iv v,bv true]else hp [iv v,iv v,bv true]) ?_;simp only[seval,hg,hs];have m1:(if v<v then v else v)=v:=by split<;>rfl
  have m2:min v v=v:=by omega
  have m3:max v v=v:=by omega
  rw[m1,m2,m3];exact⟨rfl,rfl,fin _ _ (by rw[gY.add,if_neg (by rw[hb];decide)];rfl)⟩
 ·have hb:b.is=true:=by simpa using h
  refine aL ?_;refine oY [16,19] (Tt 20) (λD=>bif isDone 19 D then hp [iv (min b.lo v),iv (max b.hi v),bv b.is]else bif isDone 16 D then hp [iv (min b.lo v),iv b.hi,bv b.is]else hp [iv b.lo,iv b.hi,bv b.is]) ?_;simp only[seval,hg,hs];have m1:(if v<b.lo then v else b.lo)=min b.lo v:=by split<;>omega
  have m2:(if b.hi<v then v else b.hi)=max b.hi v:=by split<;>omega
  rw[m1,m2];exact⟨rfl,rfl,fin _ _ (by rw[gY.add,if_pos hb,hb];rfl)⟩
end
open Go.Conc Go.Proofs Go.Gg.Tk
namespace Tk
def vO (hour:Nat)(hs:SS):gY:=hs.foldl (λb h=>b.add (h.getD hour 0)) ⟨0,0,false⟩
end Tk
section
variable {lv:Bool}{H:SA}{k kp:SF}
def ajy{x:aj}{hour:Nat}{ih ir:Nat}(hh:(hour:Int)<=x.hours)(h1:H[ih]?=some (.cells [iv hour] 3))(hr:H[ir]?=some (.cells x.l 25))(hk:k (bv true) H):a_ lv ij 89 H [.op ih 0,.op ir 0] k kp:=by
 refine bw (rs:=[.tmp 2]) (nt:=8) Tryz.f89 λhH hA=> ?_;simp only[bc,To];have cK:(decide ((hour:Int)<0)||decide ((hour:Int)>x.hours))=false:=by simp;omega
 refine ai ?_;refine ah ?_;simp only[seval,h1,hr,TM];refine aK (sI ?_);(try simp only[seval,cK]);refine aP ?_;exact bZ hk
def TW{H:List aa}:∀(L:SA)(y:aa),(H++L).set (H.length+2) y=H++L.set 2 y:=λL y=>dg H L 2 y
def ai6{x:aj}{hour:Nat}(hx:x.Ok)(hh:(hour:Int)<=x.hours)(hm:H[0]?=some .main)(hk:∀D,eT x 0 D->(D.has=false->k (.aF [.agg [iv 0,iv 0],iv 11]) H)/\(D.has=true->∀hs:SS,hs.Perm D.aM->k (.aF [.agg [iv (vO hour hs).lo,iv (vO hour hs).hi],iv 0]) H)):a_ true ij 31 H [x.av,iv hour] k kp:=by
 refine bw (rs:=[.cell 4 27,.tmp 5]) (nt:=41) Tryz.f31 λhH hA=> ?_;simp only[bc,To,aj.av];have hp:=hx.am;have xY:=hx.hours;obtain⟨p,gU⟩:∃p:Nat,x.am=p:=⟨x.am.toNat,by omega⟩;refine ai ?_;refine ah ?_;simp only[seval,TN,TP,TQ,UY,Vt,U7,UL];refine aK (xF (x:=x) (b:=true) hx gU (dF hm) (λL k kp hk=>cO (ajy hh (by rw[Ax,TO];rfl) (by rw[Ax,TN];rfl) hk)) (λh=>by cases h) λ_ js D L mp gS iS dS ry hg=> ?_);have ov:eT x 0 D:=⟨p,js,gU,gS,iS,dS⟩;have eE:=Kn.len dS mp;have j7:=tz D mp;obtain⟨iD,cH⟩:=hk D ov;obtain⟨Bf,oq⟩:∃Bf:SC->SA,∀l,Bf l=H++([aa.cells x.l 25,.cells [iv hour] 3,.cells l 27]++L):=⟨_,λ_=>rfl⟩;have o0:H++[aa.cells x.l 25,.cells [iv hour] 3,.cells [iv 0,iv 0] 27]++L=Bf [iv 0,iv 0]:=by rw[oq,Ax]
 obtain⟨N,hN⟩:∃N,N=H.length+3+L.length:=⟨_,rfl⟩;have fV:∀l,(Bf l).length=N:=λl=>by rw[oq,hN];simp;omega
 have b1:∀l (L':SA),(Bf l++L')[H.length+1]?=some (.cells [iv hour] 3):=λl L'=>by rw[oq,Ax,TO];rfl
 have b2:∀l (L':SA),(Bf l++L')[H.length+2]?=some (.cells l 27):=λl L'=>by rw[oq,Ax,TR];rfl
 have uc:∀l l' (L':SA),(Bf l++L').set (H.length+2) (.cells l' 27)=Bf l'++L':=λl l' L'=>by rw[oq,Ax,TW,oq];simp
 have bn:∀l (L':SA)(j:Nat),(Bf l++L')[N+j]?=L'[j]?:=λl L' j=>by rw[<- fV l,aS]
 have vP:∀l (L':SA)(j:Nat)(y:aa),(Bf l++L').set (N+j) y=Bf l++L'.set j y:=λl L' j y=>by rw[<- fV l,dg]
 rw[o0]at hg⊢;have eQ:∀(l:SC)(L':SA)(a b:Int)(m:Int),k (.aF [.agg [iv a,iv b],iv m]) H->bY H.length (Bf l++L') (.aF [.agg [iv a,iv b],iv m]) k:=λl L' a b m h=>by
  rw[oq,Ax];exact eV hH (Wk.refl _) (by simp[im,dN,lV]) h
 (try simp only[seval,aj.av,TP,eE,fV]);refine⟨vd x,j7,?_⟩;cases iQ:D.has with
 |false=>
  have hE:eC D=11:=by rw[eC,iQ];rfl
  refine ah ?_;simp only[seval,hE,show ((11:Int)!=0)=true from rfl];refine aA ?_;refine ah ?_;simp only[seval,b2,uc];refine kq ?_;simp only[seval,b2];exact eQ _ _ 0 0 11 (iD iQ)
 |true=>
  have hE:eC D=0:=by rw[eC,iQ];rfl
  refine ah ?_;simp only[seval,hE,show ((0:Int)!=0)=false from rfl];refine aA ?_;refine aL ?_;refine ah ?_;simp only[seval,fV];refine ah ?_;simp only[seval,UY,Vt,U7,UL];have o6:(D.l mp).drop 1=.mp mp::((D.l mp).drop 2):=rfl;obtain⟨ts,dU⟩:∃ts,ts=D.aM.zipIdx:=⟨_,rfl⟩;obtain⟨ck,F_⟩:∃ck,ck=D.aM.length:=⟨_,rfl⟩;have wl:∀l (L':SA),(Bf l++L')[mp]?=some (.obj (.map (ts.map eA).toArray ck)):=λl L'=>by
   have h0:(Bf [iv 0,iv 0])[mp]?=some (setH D.aM):=hg;have aH:mp≠H.length+2:=λe=>by
    have:=b2 [iv 0,iv 0] [];rw[Tu,<- e,h0]at this;cases this
   have h1:(Bf l)[mp]?=some (setH D.aM):=by
    have:=uc [iv 0,iv 0] l [];rw[Tu,Tu]at this;rw[<- this,U3 (λe=>aH e.symm)];exact h0
   rw[dU,F_];exact dF h1
  have qb:∀y∈ts,y.2<ck:=λy hy=>by rw[dU]at hy;have:=List.snd_lt_add_of_mem_zipIdx hy;omega
  have C7:(ts.map (·.2)).Nodup:=by rw[dU,show (λy:SD×Nat=>y.2)=Prod.snd from rfl,List.zipIdx_map_snd];exact List.nodup_range'
  have h4:∀y∈ts,y.1.length=4:=λy hy=>by rw[dU]at hy;exact dS.h4 _ (Ey hy)
  have fI:=PG ts ck qb;have Md:ts.map (·.1)=D.aM:=by rw[dU,show (λy:SD×Nat=>y.1)=Prod.fst from rfl,List.zipIdx_map_fst]
  clear dU;refine ah ?_;simp only[seval,fV,bn,o6,wl];obtain⟨jP,eY⟩:∃jP:gY->Array Nat->SA,∀b sn,jP b sn=Bf [iv 0,iv 0]++[.cells x.l 73,.cells (D.l mp) 85,.cells b.l 134,.iter mp ck sn ck]:=⟨_,λ_ _=>rfl⟩;have p1:∀b sn (L':SA),(jP b sn++L')[H.length+1]?=some (.cells [iv hour] 3):=λb sn L'=>by rw[eY,Ax];exact b1 _ _
  have p2:∀b sn (L':SA),(jP b sn++L')[N+2]?=some (.cells b.l 134):=λb sn L'=>by rw[eY,Ax,bn];rfl
  have p3:∀b sn (L':SA),(jP b sn++L')[N+3]?=some (.iter mp ck sn ck):=λb sn L'=>by rw[eY,Ax,bn];rfl
  have p3':∀b sn,(jP b sn)[N+3]?=some (.iter mp ck sn ck):=λb sn=>by have:=p3 b sn [];rwa[Tu]at this
  have p4:∀b sn (L':SA),(jP b sn++L')[N+4]?=L'[0]?:=λb sn L'=>by rw[eY,Ax,bn];rfl
  have pm:∀b sn (L':SA),(jP b sn++L')[mp]?=some (.obj (.map (ts.map eA).toArray ck)):=λb sn L'=>by rw[eY,Ax];exact wl _ _
  have Ns:∀b sn,(jP b sn)[mp]?=some (.obj (.map (ts.map eA).toArray ck)):=λb sn=>by have:=pm b sn [];rwa[Tu]at this
  have s2:∀b sn b' (L':SA),(jP b sn++L').set (N+2) (.cells (gY.l b') 134)=jP b' sn++L':=λb sn b' L'=>by rw[eY,Ax,vP,eY,Ax];rfl
  have s3:∀b sn N1,(jP b sn).set (N+3) (.iter mp ck N1 ck)=jP b N1:=λb sn N1=>by rw[eY,vP,eY];rfl
  have pl:∀b sn,(jP b sn).length=N+4:=λb sn=>by rw[eY];simp[fV]
  have aT:Bf [AV.val (S_ Tc 0),AV.val (S_ Tc 0)]++[.cells x.l 73,.cells (D.l mp) 85,.cells [AV.val (S_ Tc 0),AV.val (S_ Tc 0),AV.val (Yg false)] 134,.iter mp ck #[] ck]=jP ⟨0,0,false⟩ #[]:=by rw[eY];rfl
  rw[aT];have pc:hour<4:=by omega
  have b4:(0<=(hour:Int)/\(hour:Int)<4)=True:=by simp;omega
  have s46:∀b sn l,(jP b sn).set (H.length+2) (.cells l 27)=Bf l++[.cells x.l 73,.cells (D.l mp) 85,.cells b.l 134,.iter mp ck sn ck]:=λb sn l=>by rw[eY,uc]
  have p46:∀b sn,(jP b sn)[H.length+2]?=some (.cells [iv 0,iv 0] 27):=λb sn=>by rw[eY,b2]
  have p2':∀b sn,(jP b sn)[N+2]?=some (.cells (gY.l b) 134):=λb sn=>by have:=p2 b sn [];rwa[Tu]at this
  refine b_ ?_;refine zi (measure λvs:List (SD×Nat)=>ts.length-vs.length).wf (λvs=>[]) (λvs=>jP (vO hour (vs.map (·.1))) (vs.map (·.2)).toArray) (λvs=>(vs.map (·.2)).Nodup/\∀y∈vs,y∈ts) [] (λ_ _=>rfl) (by simp) rfl (λ_ _=>by simp[pl]) ⟨by simp,by simp⟩ (λbX cU vs au R hR=> ?_);refine ah ?_;simp only[seval,p3',Ns,s3];refine⟨fI.elim .inl (λh=> .inr (.inl h)),λe he hn=> ?_,λhs=> ?_⟩
  ·obtain⟨y,hy,rfl⟩:∃y∈ts,eA y=e:=(by simpa using he);refine aA ?_;refine aL ?_;refine b_ ?_;have sL:=h4 y hy;have KS:(eA y).born=y.2:=rfl;have hlen:(y.1.map iv).length=4:=(by simp[sL]);have KZ:Vv 4 [AV.val (S_ Tc 0),AV.val (S_ Tc 0),AV.val (S_ Tc 0),AV.val (S_ Tc 0)]=[]:=rfl;obtain⟨w,hw⟩:=bU (xs:=y.1) (i:=hour) (by omega);have Mf:y.1.getD hour 0=w:=(by rw[Se,hw];rfl);have Mj:y.2∉vs.map (·.2):=(by simpa[eA]using hn);have Gv:((vs.map (·.2)).toArray.push y.2)=((vs++[y]).map (·.2)).toArray:=(by simp);have akO:(vO hour (vs.map (·.1))).add w=vO hour ((vs++[y]).map (·.1)):=by
    unfold vO;rw[UJ,YN];show _=gY.add _ (y.1.getD hour 0);rw[Mf]
   have s8:((vs++[y]).map (·.2)).Nodup/\∀z∈vs++[y],z∈ts:=by
    refine⟨?_,λz hz=> ?_⟩
    ·rw[UJ,V_];refine⟨au.1,by simp,λa ha b hb=> ?_⟩;simp at hb;subst hb;intro e;subst e;exact Mj ha
    ·rcases Tp.1 hz with h|h
     ·exact au.2 z h
     ·rw[T7.1 h];exact hy
   have au0:vs.length<ts.length:=by
    have h1:(vs++[y]).Nodup:=DU _ s8.1;have:=h1.length_le_of_subset s8.2;simp at this;omega
   have rC:ts.length-(vs++[y]).length<ts.length-vs.length:=(by simp;omega);have Gr:∀b sn,bO (jP b sn):=λb sn z hz=>by
    have Ry:bO (jP ⟨0,0,false⟩ #[]):=bX;rw[pl];rw[eY]at hz;have cK:∀z,z∈jP ⟨0,0,false⟩ #[]->eU (N+4) z:=λz hz=>by
     have:=Ry z hz;rwa[pl]at this
    rcases Tp.1 hz with h|h
    ·exact cK z (by rw[eY];exact Ue _ h)
    ·simp only[Th,Tv,or_false]at h;rcases h with rfl|rfl|rfl|rfl
     ·exact cK _ (by rw[eY];simp)
     ·exact cK _ (by rw[eY];simp)
     ·intro a ha;simp only[gY.l,Th,Tv,or_false]at ha;rcases ha with rfl|rfl|rfl<;>exact .val _
     ·show mp<N+4;have:=ep (Ns ⟨0,0,false⟩ #[]);rwa[pl]at this
   refine ah ?_;simp only[seval,p3',Ns,s3,pl,p4,KS,Array.back?_push,QT C7 hy,ab5,sL,hlen,KZ];refine ah ?_;simp only[seval,p1,p4,b4,kS hw];refine aK (ajz (b:=vO hour (vs.map (·.1))) (v:=w) (i:=N+2) (p2 _ _ _) ?_);rw[s2,akO,Gv];(try simp only[seval]);refine hR _ ⟨vs++[y],rC,s8,?_⟩;exact acF (qA rfl rfl) (by simp only[seval]<;>simp[bP,Wk.refl]) (Gr _ _) (by simp[dN])
  ·have nM:vs.Perm ts:=acP au.1 C7 au.2 λy hy=>by
    have:=hs (eA y) (by simp;exact⟨y.1,y.2,hy,rfl⟩) (qb y hy);simpa[eA]using this
   have yd:(vs.map (·.1)).Perm D.aM:=by
    have:=nM.map (·.1);rw[Md]at this;exact this
   have aI:=cH iQ _ yd;generalize F6:vO hour (vs.map (·.1))=bv' at aI;refine aA ?_;refine bT ?_;refine ah ?_;simp only[seval,p2',p46,s46,gY.l,F6];refine kq ?_;simp only[seval,b2];exact eQ _ _ _ _ 0 aI
end
open Go.Conc Go.Proofs Go.Gg.Tk
namespace Tk
end Tk
section
variable {lv:Bool}{H:SA}{k kp:SF}
end
open Go.Conc Go.Proofs Go.Gg.Tk
namespace Tk
def AG (out n:Int):Int:=if 0<=n/\(out<0\/n<out)then n else out
def yu (l:SD):Int:=l.foldl AG (-1)
def un (aY:SE)(i:Nat):SD:=(Tt i).flatMap λs=>if 1<(fB (aY.getD s 0) 0 16).length then[-1]else fB (aY.getD s 0) 0 16
def Rm(aY:SE)(i:Nat):un aY (i+1)=un aY i++(if 1<(fB (aY.getD i 0) 0 16).length then[-1]else fB (aY.getD i 0) 0 16):=by
 unfold un;rw[Wr,VN];simp
def Rl(aY:SE):∀i,(un aY i).length<=i
 |0=>by simp[un]
 |i+1=>by
  have:=Rl aY i;rw[Rm,Tx];split
  ·simp;omega
  ·omega
end Tk
def Er{a a' b b':AV}(h1:Wk a a')(h2:Wk b b'):Wk (.aF [a,b]) (.aF [a',b']):=λE v h=>by
 cases h with
 |aF hs h=>
  refine .aF hs λi x e=> ?_
  match i with
  |0=>cases e;exact h1 _ _ (h 0 a rfl)
  |1=>cases e;exact h2 _ _ (h 1 b rfl)
open Go.Conc Go.Proofs Go.Gg.Tk
section
variable {lv:Bool}{H:SA}{k kp:SF}
def TZ{x:aj}:Vv 5 x.l=[.sl x.aC.length (x.aC.flatMap aD.l) .shut]:=rfl
def ai2{x:aj}(hx:x.Ok)(hm:H[0]?=some .main)(hk:∀D,eT x 2 D->(D.has=false->k (.aF [bp [],iv 11]) H)/\(D.has=true->k (.aF [bp (un D.aY x.aC.length),iv 0]) H)):a_ true ij 24 H [x.av] k kp:=by
 refine bw (rs:=[.tmp 2,.tmp 3]) (nt:=39) Tryz.f24 λhH hA=> ?_;simp only[bc,To,aj.av];have hp:=hx.am;have aT:=hx.eG;obtain⟨p,gU⟩:∃p:Nat,x.am=p:=⟨x.am.toNat,by omega⟩;refine ai ?_;refine ah ?_;simp only[seval,TN,TP,TQ];refine aK (xF (x:=x) hx gU (dF hm) EZ (λh=>by cases h) λ_ js D L mp gS iS dS ry hg=> ?_);have ov:eT x 2 D:=⟨p,js,gU,gS,iS,dS⟩;have eE:=Kn.len dS mp;have j7:=tz D mp;obtain⟨iD,cH⟩:=hk D ov;obtain⟨Y,hY⟩:∃Y:SA,Y=[aa.cells x.l 25]++L:=⟨_,rfl⟩;obtain⟨B,hB⟩:∃B,B=H++Y:=⟨_,rfl⟩;have o0:H++[aa.cells x.l 25]++L=B:=by rw[hB,hY,Ax]
 have z8:∀(L':SA),(B++L')[H.length]?=some (.cells x.l 25):=λL'=>by rw[hB,hY,Ax,TN];rfl
 have bn:∀(L':SA)(j:Nat),(B++L')[B.length+j]?=L'[j]?:=λL' j=>aS B L' j;have vP:∀(L':SA)(j:Nat)(y:aa),(B++L').set (B.length+j) y=B++L'.set j y:=λL' j y=>dg B L' j y;have eQ:∀(L':SA)(ns:SD)(e:End)(m:Int),k (.aF [bp ns,iv m]) H->bY H.length (B++L') (.aF [.sl ns.length (ns.map iv) e,iv m]) k:=λL' ns e m h=>by
  rw[hB,Ax];exact eV hH (Er (gF _ _ _) (Wk.refl _)) (by simp[im,dN,bp,u6]) h
 rw[o0];clear o0 hg;(try simp only[seval,aj.av,TP,eE]);refine⟨vd x,j7,?_⟩;cases iQ:D.has with
 |false=>
  have hE:eC D=11:=by rw[eC,iQ];rfl
  refine ah ?_;simp only[seval,hE,show ((11:Int)!=0)=true from rfl];refine aA ?_;refine ai ?_;refine aP ?_;exact eQ _ [] .exact 11 (iD iQ)
 |true=>
  have hE:eC D=0:=by rw[eC,iQ];rfl
  refine ah ?_;simp only[seval,hE,show ((0:Int)!=0)=false from rfl];refine aA ?_;refine aL ?_;refine ai ?_
  (repeat apply iA);refine vK (t:=7) (sz:=1) (el:=3) (by simp only[seval]<;>rfl) ?_
  refine ah ?_;simp only[seval,z8,TZ];have B5:∀(L':SA),(B++L')[B.length+1]?=L'[1]?:=λL'=>bn L' 1;have zl:∀(L':SA),(B++L')[B.length+2]?=L'[2]?:=λL'=>bn L' 2;have uc:∀(L':SA)(y:aa),(B++L').set (B.length+2) y=B++L'.set 2 y:=λL' y=>vP L' 2 y;obtain⟨gl,mR⟩:∃gl:Nat->SD,∀i,gl i=un D.aY i:=⟨_,λ_=>rfl⟩;have CV:gl 0=[]:=by rw[mR];rfl
  have Ld:∀i,(gl i).length<=i:=λi=>by rw[mR];exact Rl _ _
  refine b_ ?_;refine fS x.aC.length (λi:Nat=>[(7,.sl (gl i).length ((gl i).map iv) (.opn (B.length+2))),(22,iv i)]) (λi=>B++[.cells x.l 73,.cells (D.l mp) 85,.tail (gl i).length 1 3]) (λi=>True) (λ_ _=>rfl) (by rw[CV];simp only[seval];simp[bP,Wk.refl]) (by rw[CV];rfl) (λ_ _ _=>by simp) trivial (λbX cU i cK _ R hR=> ?_);refine ai ?_;refine aA ?_;refine⟨λh=> ?_,λh=> ?_⟩
  ·have bG:i<x.aC.length:=(by omega);obtain⟨u,hu⟩:=bU (xs:=D.aY) (i:=i) (by rw[dS.aY];omega);have lu:=dS.lW _ (Uf hu);have b3:(0<=(i:Int)/\(i:Int)<3)=True:=(by simp;omega);have fW:=TL i (by omega);have xV:=Kn.D4 dS (mp:=mp) hu;have c_:gl (i+1)=gl i++(if 1<(fB u 0 16).length then[-1]else fB u 0 16):=by
    rw[mR,mR,Rm,Se,hu];rfl
   have hli:=Ld i;have iE:=MZ u 0 16;refine aL ?_;refine ai ?_;refine ah ?_;simp only[seval,B5,b3,xV];refine aK (JY lu (by decide) ?_);(try simp only[seval,bp]);refine ai ?_;refine aA ?_;refine⟨λhb=> ?_,λhb=> ?_⟩
   ·refine ah ?_;simp only[seval,z1];(try refine⟨by decide,?_⟩);refine ah ?_;simp only[seval,zl,uc];refine⟨by omega,?_⟩;refine ah ?_;simp only[seval,fW];have mO:1<(fB u 0 16).length:=(by have h2:(1:Int)<((fB u 0 16).length:Int):=(by simpa using hb);omega);rw[if_pos mO]at c_;refine hR _ ⟨bG,trivial,?_⟩;rw[c_,UJ,Tx];exact dp
   ·refine aL ?_;refine ah ?_;simp only[seval,zl,uc];refine⟨by omega,?_⟩;refine ah ?_;simp only[seval,fW];have mO:¬1<(fB u 0 16).length:=(by have h2:((fB u 0 16).length:Int)<=1:=(by simpa using hb);omega);rw[if_neg mO]at c_;refine hR _ ⟨bG,trivial,?_⟩;rw[c_,UJ,Tx];exact dp
  ·have dx:i=x.aC.length:=(by omega);subst dx;refine bT ?_;refine ai ?_;refine aP ?_;have aI:=cH iQ;rw[<- mR]at aI;exact eQ _ _ _ 0 aI
def ajw{ns:SD}{e:End}(jf:ns.length<=16)(hk:k (iv (yu ns)) H):a_ lv ij 81 H [.sl ns.length (ns.map iv) e] k kp:=by
 refine bw (rs:=[.tmp 2]) (nt:=26) Tryz.f81 λhH hA=> ?_;simp only[bc,To];refine ai ?_;refine ai ?_;refine ai ?_;refine b_ ?_;refine fS ns.length (λi:Nat=>[(3,iv (yu (ns.take i))),(8,iv i)]) (λ_=>_) (λi=>True) (λ_ _=>rfl) (by simp only[seval];simp[bP,Wk.refl];exact Wk.refl _) rfl (λ_ _ _=>rfl) trivial (λbX cU i cK _ R hR=> ?_);refine ai ?_;refine aA ?_;refine⟨λh=> ?_,λh=> ?_⟩
 ·have bG:i<ns.length:=by omega
  obtain⟨n,hn⟩:=bU bG;have fW:=TL i (by omega)
  have c_:yu (ns.take (i+1))=AG (yu (ns.take i)) n:=by
   unfold yu;rw[Wm,hn,YN];rfl
  generalize yu (ns.take i)=o at c_ hR⊢;refine aL ?_;refine ah ?_;simp only[seval,gW hn,iB bG];by_cases c1:0<=n
  ·have d1:decide (n>=0)=true:=decide_eq_true c1;by_cases c2:o<0
   ·have d2:decide (o<0)=true:=decide_eq_true c2;refine ah ?_;simp only[seval,d1,d2];refine aA ?_;refine ai ?_;refine ah ?_;simp only[seval,fW];rw[AG,if_pos ⟨c1,.inl c2⟩]at c_;refine hR _ ⟨bG,trivial,?_⟩;rw[c_];exact dp
   ·have d2:decide (o<0)=false:=decide_eq_false c2;by_cases c3:n<o
    ·have d3:decide (n<o)=true:=decide_eq_true c3;refine ah ?_;simp only[seval,d1,d2,d3];refine aA ?_;refine ai ?_;refine ah ?_;simp only[seval,fW];rw[AG,if_pos ⟨c1,.inr c3⟩]at c_;refine hR _ ⟨bG,trivial,?_⟩;rw[c_];exact dp
    ·have d3:decide (n<o)=false:=decide_eq_false c3;refine ah ?_;simp only[seval,d1,d2,d3];refine aA ?_;refine aL ?_;refine ah ?_;simp only[seval,fW];rw[AG,if_neg (λhc=>hc.2.elim c2 c3)]at c_;refine hR _ ⟨bG,trivial,?_⟩;rw[c_];exact dp
  ·have d1:decide (n>=0)=false:=decide_eq_false c1;(repeat apply iA);refine agc (by kernel_rfl) ?_;simp only[seval,d1];refine aA ?_;refine aL ?_;refine ah ?_;simp only[seval,fW];rw[AG,if_neg (λhc=>c1 hc.1)]at c_;refine hR _ ⟨bG,trivial,?_⟩;rw[c_];exact dp
 ·have:i=ns.length:=by omega
  subst this;refine bT ?_;refine ai ?_;refine aP ?_;rw[Uy];exact bZ hk
end
namespace Tk
def vW (x:aj):Int:=if kv x=0 then 3 else kv x
def aia(x:aj):vW x≠0:=by unfold vW;split<;>omega
end Tk
section
variable {H:SA}{k kp:SF}
def at7:∀a∈l6,a.leaf=true:=λa ha=>by
 simp only[l6,Th,Tv,or_false]at ha;rcases ha with rfl|rfl|rfl|rfl|rfl|rfl<;>rfl
def at6:∀a∈gG,a.leaf=true:=λa ha=>by
 simp only[gG,Th,Tp,XG]at ha;rcases ha with rfl|rfl|⟨_,rfl⟩|⟨_,rfl⟩<;>rfl
def ajp{x:aj}{deep:Int}{f:AV}{b:Bool}(hm:H[0]?=some .main)(hf:x.Ok->Ez true H f b)(hb:kv x≠0\/b=false)(hk:k (.aF [.agg l6,.agg gG,iv (vW x)]) H):a_ true ij 54 H [x.av,iv deep,f] k kp:=by
 refine bw (rs:=[.cell 6 73,.cell 7 85,.tmp 8]) (nt:=36) awf λhH hA=> ?_;simp only[bc,To,aj.av];refine ai ?_;refine ah ?_;simp only[seval,TN,TM];refine aK (zC (x:=x) (dF hm) ?_);(try simp only[seval]);unfold vW at hk;by_cases c1:kv x=0
 case' pos=>
  rw[if_pos c1]at hk;have dj:b=false:=hb.resolve_left λh=>h c1;rw[c1];refine ah ?_;simp only[seval,show ((0:Int)!=0)=false from rfl];refine aA ?_;refine aL ?_;refine ai ?_;refine nu (hf (ud.1 c1) _ _ _ ?_);rw[dj];(try simp only[seval]);refine aA ?_;refine ai ?_
 case' neg=>
  rw[if_neg c1]at hk;refine ah ?_;simp only[seval,show (kv x !=0)=true by simpa using c1];refine aA ?_;refine ai ?_
 all_goals
  refine kq ?_;simp only[seval,TO,TR];exact eV hH (Wk.refl _) (by simp[im,lV,dN,l6,gG,Hi]) hk
end
section
variable {lv:Bool}{H:SA}{k kp:SF}
def apz{x:aj}{q:Int}:m8 x [q]=(decide (0<=q)&&decide (q<x.pieces.length)):=by
 unfold m8;rw[U9];simp;omega
end
open Go.Conc Go.Proofs Go.Gg.Tk
structure bl where
 aB:SD
 g:Int
 s:Int
def vp (τ:bl):aa:=.cells [bp τ.aB,.val (.int .i64 τ.g),.val (.int .u64 τ.s)] 71
def Iz (a b:Int):Int:=Ux.wrap (U2 Ux.bits a^^^U2 Ux.bits b).toNat
def aef (g:Int):Int:=Ux.wrap (Ux.wrap (Ux.wrap g* 15074714826142052245)+11400714819323198485)
def Oq (τ:bl):Int:=match τ.aB[τ.g.toNat]?with
 |some x=>Iz (aef τ.g) (Ux.wrap (Ux.wrap x* 12620523164723586485))
 |none=>aef τ.g
def aon (s w:Int):Int:=Ux.wrap (Ux.wrap (s+w)* 13787848793156543929)
def aoo (s:Int):Int:=Iz s (s.fdiv (2^min 31 Ux.bits))
def HH (s:Int):Int:=(Iz s (s.fdiv (2^min 27 Ux.bits))).fdiv (2^min 9 Ux.bits)
def tick (τ:bl):bl:=⟨τ.aB,τ.g+1,aoo (aon τ.s (Oq τ))⟩
def wM (τ:bl):Int:=HH (Ux.wrap ((tick τ).s* 10723151780598845931))
def ad6(n:Int)(h0:0<=n)(h:n<2^64):Ux.wrap n=n:=by
 have h1:Ux.bits=64:=rfl;have h2:Ux.signed=false:=rfl;unfold Y4;rw[h1,h2];simp;omega
def atc(n:Int):0<=Ux.wrap n/\Ux.wrap n<2^64:=by
 have h1:Ux.bits=64:=rfl;have h2:Ux.signed=false:=rfl;unfold Y4;rw[h1,h2];simp;omega
def ab9(s:Int):0<=HH s/\HH s<2^55:=by
 unfold HH Iz;have h:=atc (U2 Ux.bits s^^^U2 Ux.bits (s.fdiv (2^min 27 Ux.bits))).toNat;have e:(2:Int)^min 9 Ux.bits=512:=by decide
 rw[e,Int.fdiv_eq_ediv_of_nonneg _ (show (0:Int)<=512 by decide)];omega
def cR (τ:bl)(n:Int):Int:=if n<1 then 0 else(wM τ).tmod (n+1)
def lC(τ:bl)(n:Int):0<=cR τ n/\(cR τ n<=n\/cR τ n=0):=by
 unfold cR;split
 ·omega
 ·have h:=(ab9 (Ux.wrap ((tick τ).s* 10723151780598845931))).1;have h1:=Int.tmod_nonneg (n+1) h;have h2:=Int.tmod_lt_of_pos (wM τ) (show 0<n+1 by omega);unfold wM at h2⊢;omega
def Eo (τ:bl)(lo hi:Int):Int:=lo+cR τ (hi-lo)
def atu(τ:bl){lo hi:Int}(h:lo<=hi):lo<=Eo τ lo hi/\Eo τ lo hi<=hi:=by
 have:=lC τ (hi-lo);unfold Eo;omega
def aqy (τ:bl)(n:Int):Bool:=cR τ (n-1)==0
structure dW (Gf:bl->SA)(t N:Nat):Prop where
 len:∀τ,(Gf τ).length=N
 get:∀τ,(Gf τ)[t]?=some (vp τ)
 set:∀τ τ',(Gf τ).set t (vp τ')=Gf τ'
 ok:∀m τ τ',(∀z∈Gf τ,eU m z)->∀z∈Gf τ',eU m z
def dW.more{Gf:bl->SA}{t N:Nat}(h:dW Gf t N)(L:SA):dW (λτ=>Gf τ++L) t (N+L.length)where
 len:=λτ=>by simp[h.len]
 get:=λτ=>dF (h.get τ)
 set:=λτ τ'=>by show (Gf τ++L).set t _=_;rw[VW _ _ (ep (h.get τ)),h.set]
 ok:=λm τ τ' hk z hz=>(Tp.1 hz).elim (λhz=>h.ok m τ τ' (λv hv=>hk v (Ue _ hv)) z hz) (λhz=>hk z (T1 _ hz))
def dW.au{Gf:bl->SA}{t N:Nat}(h:dW Gf t N){τ:bl}(hH:bO (Gf τ))(τ':bl):bO (Gf τ'):=λz hz=>by
 have:=h.ok N τ τ' (λw hw=>by have:=hH w hw;rwa[h.len]at this) z hz;rwa[h.len]
section
variable {Gf:bl->SA}{t N:Nat}(h:dW Gf t N)
include h
def dW.g0(τ:bl)(L:SA):(Gf τ++L)[N]?=L[0]?:=by have:=vF (Gf τ) L 0;rwa[h.len]at this
def dW.g1(τ:bl)(L:SA):(Gf τ++L)[N+1]?=L[1]?:=by have:=vF (Gf τ) L 1;rwa[h.len]at this
def dW.g2(τ:bl)(L:SA):(Gf τ++L)[N+1+1]?=L[2]?:=by have:=vF (Gf τ) L 2;rwa[h.len]at this
def dW.g3(τ:bl)(L:SA):(Gf τ++L)[N+1+1+1]?=L[3]?:=by have:=vF (Gf τ) L 3;rwa[h.len]at this
def dW.h2(τ:bl)(L:SA):(Gf τ++L)[N+2]?=L[2]?:=h.g2 τ L
def dW.h3(τ:bl)(L:SA):(Gf τ++L)[N+3]?=L[3]?:=h.g3 τ L
def dW.s0(τ:bl)(L:SA)(x:aa):(Gf τ++L).set N x=Gf τ++L.set 0 x:=by have:=vG (Gf τ) L 0 x;rwa[h.len]at this
def dW.s1(τ:bl)(L:SA)(x:aa):(Gf τ++L).set (N+1) x=Gf τ++L.set 1 x:=by have:=vG (Gf τ) L 1 x;rwa[h.len]at this
def dW.s2(τ:bl)(L:SA)(x:aa):(Gf τ++L).set (N+1+1) x=Gf τ++L.set 2 x:=by have:=vG (Gf τ) L 2 x;rwa[h.len]at this
def dW.s3(τ:bl)(L:SA)(x:aa):(Gf τ++L).set (N+1+1+1) x=Gf τ++L.set 3 x:=by have:=vG (Gf τ) L 3 x;rwa[h.len]at this
def dW.t2(τ:bl)(L:SA)(x:aa):(Gf τ++L).set (N+2) x=Gf τ++L.set 2 x:=h.s2 τ L x
def dW.t3(τ:bl)(L:SA)(x:aa):(Gf τ++L).set (N+3) x=Gf τ++L.set 3 x:=h.s3 τ L x
end
def aoX(m:Nat)(τ:bl):eU m (vp τ):=by
 intro a ha;simp only[Th,Tv,or_false]at ha;rcases ha with rfl|rfl|rfl
 ·rw[AI];trivial
 ·exact .val _
 ·exact .val _
def adO(H:SA):dW (λτ=>H++[vp τ]) H.length (H.length+1)where
 len:=λτ=>by simp
 get:=λτ=>by simp
 set:=λτ τ'=>by simp
 ok:=λm τ τ' hk z hz=>by
  rcases Tp.1 hz with hz|hz
  ·exact hk z (Ue _ hz)
  ·rw[T7.1 hz];exact aoX _ _
structure bl.Ok (τ:bl)(b:Int):Prop where
 g0:0<=τ.g
 g:τ.g<=b
 len:τ.aB.length<=2^50
section
variable {lv:Bool}{H:SA}{k kp:SF}{Gf:bl->SA}{t N:Nat}{τ:bl}{b:Int}
def aiU{aB:SD}(hk:k (.op H.length 0) (H++[vp ⟨aB,0,7640891576956012809⟩])):a_ lv ij 14 H [bp aB] k kp:=by
 refine bw (rs:=[.tmp 2]) (nt:=6) Tryz.f14 λhH hA=> ?_;simp only[bc,To];refine ai ?_;refine ai ?_;refine aP ?_;exact bZ hk
def bl.Ok.tick(h:τ.Ok b):(tick τ).Ok (b+1):=⟨by have:=h.g0;show 0<=τ.g+1;omega,by have:=h.g;show τ.g+1<=b+1;omega,h.len⟩
def bl.Ok.mono{b':Int}(h:τ.Ok b)(hb:b<=b'):τ.Ok b':=⟨h.g0,by have:=h.g;omega,h.len⟩
def ajs(hT:dW Gf t N)(hτ:τ.Ok b)(hb:b<2^60)(hk:k (.val (.int .u64 (wM τ))) (Gf (tick τ))):a_ lv ij 65 (Gf τ) [.op t 0] k kp:=by
 obtain⟨aB,g,s⟩:=τ;obtain⟨kA,hgb,oE⟩:=hτ;simp only at kA hgb oE;refine bw (rs:=[.tmp 2]) (nt:=76) Tryz.f65 λhH hA=> ?_;simp only[bc,To];have hg:∀τ,(Gf τ)[t]?=some (.cells [.sl τ.aB.length (τ.aB.map iv) .shut,.val (.int .i64 τ.g),.val (.int .u64 τ.s)] 71):=hT.get;have hs:∀τ (DX:SD) g' s',(Gf τ).set t (.cells [.sl DX.length (DX.map iv) .shut,.val (.int .i64 g'),.val (.int .u64 s')] 71)=Gf ⟨DX,g',s'⟩:=λτ DX g' s'=>hT.set τ ⟨DX,g',s'⟩;obtain⟨n,rfl⟩:∃n:Nat,g=n:=⟨g.toNat,by omega⟩;have hw:Tc.wrap ((n:Int)+1)=n+1:=bF _ (by omega);refine ai ?_;refine ah ?_;simp only[seval,hg];refine eo 9 ?_;simp only[seval,hg];refine aA ?_;refine⟨λh=> ?_,λh=> ?_⟩
 ·have je:n<aB.length:=by simpa using h
  obtain⟨x,hx⟩:=bU je;refine eo 13 ?_;simp only[seval,hg,gW hx,iB je,BU];refine ah ?_;simp only[seval,hg,hw,hs];refine ah ?_;simp only[seval,hg,hs];refine eo 11 ?_;simp only[seval,hg,hs,BT,BU];refine ah ?_;simp only[seval,hg];refine ah ?_;simp only[seval,BT,BU];refine aP ?_;refine bZ ?_;unfold wM tick Oq at hk;simp only[Wc,hx]at hk;exact hk
 ·have je:¬n<aB.length:=by simpa using h
  have hx:aB[n]?=none:=by rw[Vx];omega
  refine aL ?_;refine ah ?_;simp only[seval,hg,hw,hs];refine ah ?_;simp only[seval,hg,hs];refine eo 11 ?_;simp only[seval,hg,hs,BT,BU];refine ah ?_;simp only[seval,hg];refine ah ?_;simp only[seval,BT,BU];refine aP ?_;refine bZ ?_;unfold wM tick Oq at hk;simp only[Wc,hx]at hk;exact hk
def oh{n:Int}(hT:dW Gf t N)(hτ:τ.Ok b)(hb:b<2^60)(hn:n<2^60)(hk:k (iv (cR τ n)) (Gf (tick τ))):a_ lv ij 21 (Gf τ) [.op t 0,iv n] k kp:=by
 refine bw (rs:=[.tmp 4]) (nt:=16) Tryz.f21 λhH hA=> ?_;simp only[bc,To];refine ai ?_;refine ai ?_;refine aK (ajs hT hτ hb ?_);(try simp only[seval]);refine ai ?_;refine aA ?_;refine⟨λh=> ?_,λh=> ?_⟩
 ·have h:n<1:=by simpa using h
  refine ai ?_;refine aP ?_;rw[cR,if_pos h]at hk;exact bZ hk
 ·have h:¬n<1:=by simpa using h
  have ho:=ab9 (Ux.wrap ((tick τ).s* 10723151780598845931));have bH:Ux.wrap n=n:=ad6 n (by omega) (by omega);have fj:Ux.wrap (n+1)=n+1:=ad6 _ (by omega) (by omega);have oG:n+1≠0:=by omega
  have hr:=lC τ n;rw[cR,if_neg h]at hk hr;have wB:Tc.wrap ((wM τ).tmod (n+1))=(wM τ).tmod (n+1):=bF _ (by omega);refine aL ?_;refine ah ?_;simp only[seval,afh,bH,fj,wB,oG];refine aP ?_;exact bZ hk
def aja{lo hi:Int}(hT:dW Gf t N)(hτ:τ.Ok b)(hb:b<2^60)(oF:0<=lo/\lo<2^20)(Gd: -1<=hi/\hi<2^20)(hk:k (iv (Eo τ lo hi)) (Gf (tick τ))):a_ lv ij 37 (Gf τ) [.op t 0,iv lo,iv hi] k kp:=by
 refine bw (rs:=[.tmp 6]) (nt:=14) Tryz.f37 λhH hA=> ?_;simp only[bc,To];have bH:Tc.wrap (hi-lo)=hi-lo:=bF _ (by omega);have hr:=lC τ (hi-lo);have fj:Tc.wrap (lo+cR τ (hi-lo))=lo+cR τ (hi-lo):=bF _ (by omega);refine ai ?_;refine ah ?_;simp only[seval,bH];refine aK (oh hT hτ hb (by omega) ?_);(try simp only[seval,fj]);refine aP ?_;exact bZ hk
def QN{n:Int}(hT:dW Gf t N)(hτ:τ.Ok b)(hb:b<2^60)(hn:0<=n/\n<2^20)(hk:k (bv (aqy τ n)) (Gf (tick τ))):a_ lv ij 95 (Gf τ) [.op t 0,iv n] k kp:=by
 refine bw (rs:=[.tmp 4]) (nt:=10) Tryz.f95 λhH hA=> ?_;simp only[bc,To];have bH:Tc.wrap (n-1)=n-1:=bF _ (by omega);refine ai ?_;refine ah ?_;simp only[seval,bH];refine aK (oh hT hτ hb (by omega) ?_);(try simp only[seval]);refine aP ?_;exact bZ hk
end
def wI{α:Type}{xs:List α}{i:Nat}{x:α}(h:xs[i]?=some x):x∈xs:=Uf h
section
variable {lv:Bool}{H:SA}{k kp:SF}
inductive sw:List AV->List AV->Prop
 |nil:sw [] []
 |cons {a b:AV} {l m:List AV} (h:Wk a b) (t:sw l m):sw (a::l) (b::m)
def sw.len{l m:SC}(h:sw l m):l.length=m.length:=by
 induction h with
 |nil=>rfl
 |cons _ _ ih=>simp[ih]
def sw.at{l m:SC}(h:sw l m):∀(i:Nat)(a b:AV),m[i]?=some a->l[i]?=some b->Wk b a:=by
 induction h with
 |nil=>intro i a b h;simp at h
 |cons h _ ih=>
  intro i a b h1 h2
  match i with
  |0=>cases h1;cases h2;exact h
  |i+1=>exact ih i a b h1 h2
def Ep{l l':SC}(h:sw l l'):Wk (.agg l) (.agg l'):=λE v hd=>by
 cases hd with
 |agg hs h1=>
  refine .agg (by rw[hs,h.len]) λi x hx=> ?_;obtain⟨y,hy⟩:=bU (xs:=l) (i:=i) (by rw[h.len];exact ep hx);exact h.at i x y hx hy E _ (h1 i y hy)
def Oo{n:Nat}{l l':SC}{e:End}(hl:l.length=l'.length)(h:∀(i:Nat) a b,l'[i]?=some a->l[i]?=some b->Wk b a):Wk (.sl n l e) (.sl n l' e):=λE v hd=>by
 cases hd with
 |sl b o cap f hc he h1 h2=>
  refine .sl b o cap f hc he (λi hi=>h1 i (by omega)) λi x hx=> ?_;obtain⟨y,hy⟩:=bU (xs:=l) (i:=i) (by have:=ep hx;omega);exact h i x y hx hy E _ (h2 i y hy)
 |nil he=>
  have:l'=[]:=YU hl.symm;subst this;exact .nil he
def IE:fO (S_ .i64 0) 3=[iv 0,iv 0,iv 0]:=rfl
def HK:(1<=2^24)=True:=by simp
def aap{H L:SA}(h:bO H)(hL:∀z∈L,∀n,eU n z):bO (H++L):=λz hz=>by
 rcases Tp.1 hz with h'|h'
 ·exact(h z h').mono (by simp)
 ·exact hL z h' _
def NR{base Vi Vn T:SH}{H H':SA}(G:SA)(hk:sk T (Vi++base) Vn)(hv:∀p∈Vn,∃b,look T p.1=some b/\Wk b p.2)(au:bO H)(hlt:∀p∈Vn,Lt H.length p.2)(hG:H'=H++G):tX base Vi Vn H ⟨T,H'⟩:=⟨hk,hv,G,hG,.inr ⟨au,hlt⟩⟩
def asE{xs ys:SD}{i:Nat}{x y:Int}(hx:xs[i]?=some x)(hy:ys[i]?=some y)(h:xs.take i=ys.take i)(e:x=y):xs.take (i+1)=ys.take (i+1):=by
 obtain⟨hj,rfl⟩:=Tj.1 hx;obtain⟨hk,rfl⟩:=Tj.1 hy;rw[VK hj,VK hk,h,e]
def zD{xs ys:SD}{e e':End}(hx:xs.length<2^60)(hk:k (bv (decide (xs=ys))) H):a_ lv ij 26 H [.sl xs.length (xs.map iv) e,.sl ys.length (ys.map iv) e'] k kp:=by
 refine bw (rs:=[.tmp 4]) (nt:=26) Tryz.f26 λhH hA=> ?_;simp only[bc,To];refine ai ?_;refine ai ?_;refine aA ?_;refine⟨λh=> ?_,λh=> ?_⟩
 ·have h:xs≠ys:=λe=>by subst e;simp at h
  refine ai ?_;refine aP ?_;rw[decide_eq_false h]at hk;exact bZ hk
 ·have h:xs.length=ys.length:=by
   have h:(xs.length:Int)=ys.length:=(by simpa using h);omega
  refine aL ?_;refine ai ?_;refine b_ ?_;refine t_ xs.length (λi:Nat=>[(5,iv i)]) (λ_=>_) (λi=>xs.take i=ys.take i) (by simp) (λbX cU i cK hi R hR=> ?_);refine ai ?_;refine aA ?_;refine⟨λh2=> ?_,λh2=> ?_⟩
  ·have hlt:i<xs.length:=(by omega);obtain⟨x,pu⟩:=bU hlt;obtain⟨y,j9⟩:=bU (xs:=ys) (i:=i) (by omega);refine aL ?_;refine b_ ?_;refine eo 8 ?_;simp only[seval,gW pu,gW j9,iB hlt,iB (ep j9)];refine aA ?_;refine⟨λh3=> ?_,λh3=> ?_⟩
   ·have h3:xs≠ys:=λe=>(by subst e;rw[pu]at j9;cases j9;simp at h3);refine ai ?_;refine aP ?_;rw[decide_eq_false h3]at hk;exact bZ hk
   ·have h3:x=y:=(by simpa using h3);refine aL ?_;refine ai ?_;refine hR _ ⟨hlt,asE pu j9 hi h3,?_⟩;rw[bF _ (by omega)];exact dp
  ·have jz:i=xs.length:=(by omega);refine bT ?_;refine ai ?_;refine aP ?_;have h3:xs=ys:=by
    rw[jz,Uy]at hi;rw[hi,h,Uy]
   rw[decide_eq_true h3]at hk;exact bZ hk
end
namespace Tk
def aD.more (y:aD)(n:Int):aD:=⟨⟨y.number.min+n,y.number.max+n⟩,y.hour⟩
def l5 (h:SD)(n:Int):Nat->Int
 |0=> -1
 |i+1=>if h.getD i 0<=n/\n<h.getD (i+1) 0 then i else l5 h n i
end Tk
section
variable {lv:Bool}{H:SA}{k kp:SF}
def JX{a b:Int}(hk:k (.agg [iv a,iv b]) H):a_ lv ij 48 H [iv a,iv b] k kp:=by
 refine bw (rs:=[.cell 4 27]) (nt:=8) Tryz.f48 λhH hA=> ?_;simp only[bc,To];refine ai ?_;refine ai ?_;refine aP ?_;exact eV hH (Wk.refl _) (by simp[lV,dN]) hk
def QF{a b c:Int}(hk:k (Seen.av ⟨a,⟨b,c⟩⟩) H):a_ lv ij 51 H [iv a,iv b,iv c] k kp:=by
 refine bw (rs:=[.cell 6 29]) (nt:=12) Tryz.f51 λhH hA=> ?_;simp only[bc,To];refine ai ?_;refine ai ?_;refine aP ?_;exact eV hH (Wk.refl _) (by simp[lV,dN]) hk
def qX{a b c d:Int}(hk:k (aD.av ⟨⟨a,b⟩,⟨c,d⟩⟩) H):a_ lv ij 97 H [iv a,iv b,iv c,iv d] k kp:=by
 refine bw (rs:=[.cell 8 68]) (nt:=16) Tryz.f97 λhH hA=> ?_;simp only[bc,To];refine ai ?_;refine ai ?_;refine aP ?_;exact eV hH (Wk.refl _) (by simp[lV,dN]) hk
def aiL{h:SD}{n:Int}{e:End}(hl:h.length<=4)(hk:k (iv (l5 h n (h.length-1))) H):a_ lv ij 118 H [.sl h.length (h.map iv) e,iv n] k kp:=by
 refine bw (rs:=[.tmp 4]) (nt:=31) Tryz.f118 λhH hA=> ?_;simp only[bc,To];refine ai ?_;refine ai ?_;refine ai ?_;refine b_ ?_;refine fS (h.length-1) (λi:Nat=>[(5,iv (l5 h n i)),(6,iv i)]) (λ_=>_) (λi=>True) (λ_ _=>rfl) (by simp only[seval];simp[bP,Wk.refl];exact Wk.refl _) rfl (λ_ _ _=>rfl) trivial (λbX cU i cK _ R hR=> ?_);have fW:=TL i (by omega)
 refine ah ?_;simp only[seval,fW];refine aA ?_;refine⟨λhc=> ?_,λhc=> ?_⟩
 ·have bG:i+1<h.length:=by omega
  obtain⟨a,ha⟩:=bU (xs:=h) (i:=i) (by omega);obtain⟨b,hb⟩:=bU (xs:=h) (i:=i+1) bG;have gq:h.getD i 0=a:=by rw[Se,ha];rfl
  have dj:h.getD (i+1) 0=b:=by rw[Se,hb];rfl
  have iN:=iB (show i<h.length by omega);have uy:(0<=(i:Int)+1/\(i:Int)+1<(h.length:Int))=True:=by simp;omega
  have lQ:((i:Int)+1).toNat=i+1:=by omega
  have c_:l5 h n (i+1)=if a<=n/\n<b then(i:Int)else l5 h n i:=by rw[l5,gq,dj]
  refine aL ?_;refine b_ ?_;by_cases c1:a<=n
  ·have d1:decide (a<=n)=true:=decide_eq_true c1;by_cases c2:n<b
   ·have d2:decide (n<b)=true:=decide_eq_true c2;refine ah ?_;simp only[seval,gW ha,gW hb,iN,uy,lQ,d1,d2,fW];refine aA ?_;refine ai ?_;refine ah ?_;simp only[seval,fW];rw[if_pos ⟨c1,c2⟩]at c_;refine hR _ ⟨by omega,trivial,?_⟩;rw[c_];exact dp
   ·have d2:decide (n<b)=false:=decide_eq_false c2;refine ah ?_;simp only[seval,gW ha,gW hb,iN,uy,lQ,d1,d2,fW];refine aA ?_;refine aL ?_;refine ah ?_;simp only[seval,fW];rw[if_neg (λhh=>c2 hh.2)]at c_;refine hR _ ⟨by omega,trivial,?_⟩;rw[c_];exact dp
  ·have d1:decide (a<=n)=false:=decide_eq_false c1;refine ah ?_;simp only[seval,gW ha,iN,d1];refine aA ?_;refine aL ?_;refine ah ?_;simp only[seval,fW];rw[if_neg (λhh=>c1 hh.1)]at c_;refine hR _ ⟨by omega,trivial,?_⟩;rw[c_];exact dp
 ·have dx:i=h.length-1:=by omega
  subst dx;refine bT ?_;refine ai ?_;refine aP ?_;exact bZ hk
end
open Go.Conc Go.Proofs Go.Gg.Tk
namespace Tk
end Tk
section
variable {lv:Bool}{H:SA}{k kp:SF}
end
open Go.Conc Go.Proofs Go.Gg.Tk
def vV (τ:bl)(ns:SD):Int:=ns.getD (cR τ (ns.length-1)).toNat 0
section
variable {lv:Bool}{H:SA}{k kp:SF}{Gf:bl->SA}{t N:Nat}{τ:bl}{b:Int}
def J5{ns:SD}{e:End}(hT:dW Gf t N)(hτ:τ.Ok b)(hb:b<2^60)(hn:1<=ns.length)(kC:ns.length<2^20)(hk:k (iv (vV τ ns)) (Gf (tick τ))):a_ lv ij 93 (Gf τ) [.op t 0,.sl ns.length (ns.map iv) e] k kp:=by
 refine bw (rs:=[.tmp 4]) (nt:=13) Tryz.f93 λhH hA=> ?_;simp only[bc,To];have bH:Tc.wrap ((ns.length:Int)-1)=(ns.length:Int)-1:=bF _ (by omega);have hr:=lC τ ((ns.length:Int)-1);unfold vV at hk;obtain⟨j,hj⟩:=Z5 hr.1;have ff:j<ns.length:=by omega
 obtain⟨v,hv⟩:=bU ff;rw[hj]at hk;have uO:ns.getD (j:Int).toNat 0=v:=by rw[Wc,Se,hv];rfl
 rw[uO]at hk;refine ai ?_;refine ah ?_;simp only[seval,bH];refine aK (oh hT hτ hb (by omega) ?_);rw[hj];(try simp only[seval,gW hv,iB ff]);refine aP ?_;exact bZ hk
end
def aee{l:SC}{a b:AV}(h:Wk a b):sw (l++[a]) (l++[b]):=by
 induction l with
 |nil=>exact .cons h .nil
 |cons x l ih=>exact .cons (Wk.refl _) ih
def abx(n m k:Nat)(bs:SS):Lt n (.sl m (bs.map bp) (.opn k))=(k<n):=by
 rw[an9,eq_iff_iff];refine⟨λh=>h.1,λh=>⟨h,λa ha=> ?_⟩⟩;have:=abA n bs;rw[ze,u6]at this;exact this.mpr trivial a ha
def OK:fO (Vh none 0 0) 1=[.sl 0 [] .exact]:=rfl
def aas{H:SA}(hH:bO H)(n sz:Nat)(el:TypeId):bO (H++[.tail n sz el]):=aap hH λz hz m=>by rw[T7.1 hz];trivial
section
variable {lv:Bool}
end
namespace Tk
def iT (l:SD):Nat:=if l.length=0 then 0 else(l.getD (l.length-1) 0).toNat+1
def nS (n:Nat)(l:SD)(j:Nat):List (SD):=(Tt j).map λj:Nat=>l++[((iT l+j:Nat):Int)]
def nV (n:Nat):Nat->List (SD)
 |0=>[[]]
 |i+1=>nV n i++nS n ((nV n i).getD i []) (n-iT ((nV n i).getD i []))
def wG (n:Nat):List (SD):=nV n (2^n)
def am6(n:Nat)(l:SD)(j:Nat):nS n l (j+1)=nS n l j++[l++[((iT l+j:Nat):Int)]]:=by
 unfold nS;rw[Wr,UJ];rfl
def ao7:∀n,n<4->(∀i,i<2^n->i<(nV n i).length/\(∀l∈nV n i,l.length<=3/\∀y∈l,0<=y/\y<n))/\(∀i,i<2^n+1->(nV n i).length<=8)/\(nV n (2^n)).length=2^n:=by decide+kernel
end Tk
section
variable {lv:Bool}{H:SA}{k kp:SF}
def aiI{ns:SD}{e:End}(hn:ns.length<=2^20)(h0:ns=[]->k (.sl 0 [] .exact) H)(hk:k (.sl ns.length (ns.map iv) (.opn H.length)) (H++[.tail ns.length 1 3])):a_ lv ij 116 H [.sl ns.length (ns.map iv) e] k kp:=by
 refine bw (rs:=[.tmp 2]) (nt:=8) Tryz.f116 λhH hA=> ?_;simp only[bc,To];refine ai ?_;refine ai ?_;intro b hb;refine aA ?_;refine⟨λh=> ?_,λh=> ?_⟩
 ·
  refine ai ?_;refine aP ?_;have:ns=[]:=by
   cases ns with
   |nil=>rfl
   |cons x xs=>rw[hb (by simp)]at h;cases h
  exact iK (H':=H) (G:=[]) (Wk.refl _) (by simp) (Tm _) hH (by simp[Hi]) (h0 this)
 ·
  refine aL ?_;refine ai ?_;refine⟨by omega,?_⟩;refine aP ?_;exact bZ hk
def ajx{n:Nat}(hn:n<=3)(hk:k (ze (wG n)) H):a_ lv ij 86 H [iv n] k kp:=by
 refine bw (rs:=[.tmp 2]) (nt:=44) Tryz.f86 λhH hA=> ?_;simp only[bc,To];obtain⟨ld,iP,mQ⟩:=ao7 n (by omega);refine ai ?_;refine ah ?_;simp only[seval,OK,HK]
 (repeat apply iA);refine vK (t:=3) (sz:=1) (el:=30) (by simp only[seval]<;>rfl) ?_
 refine ai ?_;refine b_ ?_;refine fS (2^n) (λi:Nat=>[(3,.sl (nV n i).length ((nV n i).map bp) (.opn H.length)),(4,iv i)]) (λi=>H++[.tail (nV n i).length 1 30]) (λi=>True) (λ_ _=>rfl) (by simp only[seval];simp[bP,Wk.refl];exact Oo (l:=[.sl 0 [] .exact]) (l':=[bp []]) rfl (sw.cons (gF _ _ _) .nil).at) rfl (λ_ _ _=>by simp) trivial (λbX cU i cK _ R hR=> ?_);clear bX cU;have bH:i<2^n->Tc.wrap ((i:Int)+1)=((i+1:Nat):Int):=λh=>by
  have:2^n<=2^3:=Yu (by omega) hn;rw[bF _ (by omega)];rfl
 refine ai ?_;refine aA ?_;refine⟨λh=> ?_,λh=> ?_⟩
 ·have bG:i<2^n:=by
   rcases ZF i (2^n)with h'|h'
   ·exact h'
   ·have:i=2^n:=(by omega);subst this;rw[mQ]at h;omega
  obtain⟨g1,g2⟩:=ld i bG;have g3:=iP i (by omega);have bH:=bH bG;obtain⟨l,hl⟩:=bU g1;have aaH:nV n (i+1)=nV n i++nS n l (n-iT l):=by
   rw[nV,Se,hl];rfl
  obtain⟨C1,Lw⟩:=g2 l (wI hl);generalize nV n i=o at aaH hl g1 g3 hR⊢;refine aL ?_;refine ah ?_;simp only[seval,ada hl,iB g1];refine ai ?_;refine ah ?_;simp only[seval,bp];refine aA ?_;refine⟨λh=> ?p1,λh=> ?p2⟩
  case' p1=>
   have sY:0<l.length:=(by omega);obtain⟨y,hy⟩:=bU (xs:=l) (i:=l.length-1) (by omega);have hyb:=Lw y (wI hy);have oF:iT l=y.toNat+1:=(by unfold iT;rw[if_neg (by omega),Se,hy];rfl);have fj:Tc.wrap ((l.length:Int)-1)=((l.length-1:Nat):Int):=(by rw[bF _ (by omega)];omega);have wB:Tc.wrap (y+1)=((iT l:Nat):Int):=(by rw[bF _ (by omega),oF];omega);have mO:(0<=((l.length-1:Nat):Int)/\((l.length-1:Nat):Int)<l.length)=True:=(by simp;omega);refine ah ?_;simp only[seval,fj,gW hy,mO,wB];have hlz:iT l=iT l:=rfl
  case' p2=>
   have hlz:iT l=0:=(by unfold iT;rw[if_pos (by omega)]);refine aL ?_
  all_goals(
   refine ai ?_;refine b_ ?_;refine fS (n-iT l) (λj:Nat=>[(3,.sl (o.length+j) ((o++nS n l j).map bp) (.opn H.length)),(7,iv (((iT l:Nat):Int)+j))]) (λj=>H++[.tail (o.length+j) 1 30]) (λi=>True) (λ_ _=>rfl) (by first|(simp only[seval];simp[bP,Wk.refl];done)|(simp only[seval,nS,ao_];simp[bP,Wk.refl,hlz])) (by simp) (λ_ _ _=>by simp) trivial (λbX cU j pf _ R2 uu=> ?_);clear bX cU;have oE:(n-iT l)<=3:=(by omega);refine ai ?_;refine aA ?_;refine⟨λh2=> ?_,λh2=> ?_⟩
   ·have ff:j<n-iT l:=(by omega);have c_:(o++nS n l (j+1)).map bp=(o++nS n l j).map bp++[bp (l++[((iT l:Nat):Int)+j])]:=(by rw[am6,<- Ax,UJ];rfl);have hol:((o++nS n l j).map bp).length=o.length+j:=(by simp[nS]);have GO:Tc.wrap (((iT l:Nat):Int)+j+1)=((iT l:Nat):Int)+((j+1:Nat):Int):=(by rw[bF _ (by omega)];omega);refine aL ?_;refine ai ?_;refine aK (aiI (ns:=l) (by omega) (λsY=> ?_) ?_)
    ·subst sY;try simp only[seval,z1,OK,HK,hol]
     first|refine⟨by decide,by omega,?_⟩|refine⟨by omega,?_⟩
     refine ah ?_;simp only[seval,GO];refine uu _ ⟨ff,trivial,?_⟩;rw[c_];refine NR [.tail 1 1 3] (qA rfl rfl) ?_ (aas hH _ _ _) ?_ (by simp[X7])
     ·(try simp only[seval]);exact⟨⟨_,rfl,have h:=aee (l:=(o++nS n [] j).map bp) (show Wk (.sl 1 [iv (((iT []:Nat):Int)+j)] (.opn (H.length+1))) (bp ([]++[((iT []:Nat):Int)+j])) by exact gF _ _ _);Oo h.len h.at⟩,_,rfl,Wk.refl _⟩
     ·rw[<- c_];simp only[Yl,dN,abx,iv];simp
    ·(try simp only[seval,z1,OK,HK,hol]);refine⟨by omega,by omega,?_⟩;refine ah ?_;simp only[seval,GO];refine uu _ ⟨ff,trivial,?_⟩;rw[c_];refine NR [.tail (l.length+1) 1 3] (qA rfl rfl) ?_ (aas hH _ _ _) ?_ (by simp[X7])
     ·(try simp only[seval]);exact⟨⟨_,rfl,have h:=aee (l:=(o++nS n l j).map bp) (show Wk (.sl (l.length+1) (l.map iv++[iv (((iT l:Nat):Int)+j)]) (.opn (H.length+1))) (bp (l++[((iT l:Nat):Int)+j])) by rw[bp,UJ,Tx];exact gF _ _ _);Oo h.len h.at⟩,_,rfl,Wk.refl _⟩
     ·rw[<- c_];simp only[Yl,dN,abx,iv];simp
   ·have x_:j=n-iT l:=(by omega);subst x_;refine bT ?_;refine ah ?_;simp only[seval,bH];refine hR _ ⟨bG,trivial,?_⟩;rw[aaH];have C0:(o++nS n l (n-iT l)).length=o.length+(n-iT l):=(by simp[nS]);rw[C0];exact dp)
 ·have jz:i=2^n:=by
   rcases ZF i (2^n)with h'|h'
   ·have:=(ld i h').1;omega
   ·omega
  subst jz;refine bT ?_;refine ai ?_;refine aP ?_;exact eV (b:=ze (wG n)) hH (gF _ _ _) (by rw[abA];trivial) hk
end
open Go.Conc Go.Proofs Go.Gg.Tk
def Q2{α:Type}{f:α->SC}{s:Nat}(hf:∀a,(f a).length=s):∀(xs:List α)(n:Nat),(xs.flatMap f).take (n* s)=(xs.take n).flatMap f
 |[],n=>by simp
 |x::xs,0=>by simp
 |x::xs,n+1=>by
  rw[UQ,W4,UQ,List.take_append,Tn (by rw[hf,Xg];omega),hf,show (n+1)* s-s=n* s by rw[Xg];omega,Q2 hf xs n]
def QW{α:Type}{f:α->SC}{s:Nat}(hf:∀a,(f a).length=s):∀(xs:List α)(n:Nat),(xs.flatMap f).drop (n* s)=(xs.drop n).flatMap f
 |[],n=>by simp
 |x::xs,0=>by simp
 |x::xs,n+1=>by
  rw[UQ,List.drop_succ_cons,WA,XW (by rw[hf,Xg];omega),hf,show (n+1)* s-s=n* s by rw[Xg];omega,QW hf xs n,Vo]
namespace Tk
def uj (ss:S9)(ns:SD):List aD:=ns.foldr (λn l=>l.eraseIdx n.toNat) ss
def aj.wo (x:aj)(ns:SD):aj:={x with aC:=uj x.aC ns}
def tO (ns:SD)(m:Nat):Prop:=∀(i:Nat) n,ns[i]?=some n->0<=n/\n+(ns.length-i:Nat)<=m
def tO.tail{n:Int}{ns:SD}{m:Nat}(h:tO (n::ns) m):tO ns m:=λi k hk=>by
 have:=h (i+1) k hk;simp only[UU]at this;exact⟨this.1,by omega⟩
def JC{ss:S9}:∀{ns:SD},tO ns ss.length->(uj ss ns).length+ns.length=ss.length
 |[],_=>rfl
 |n::ns,h=>by
  have h1:=JC h.tail;have h2:=h 0 n rfl;have e:uj ss (n::ns)=(uj ss ns).eraseIdx n.toNat:=rfl;simp only[UU]at h2⊢;rw[e,Y_ (by omega)];omega
end Tk
section
variable {lv:Bool}{H:SA}{k kp:SF}
def Tb{H:List aa}:∀(L:SA)(y:aa),(H++L).set (H.length+1) y=H++L.set 1 y:=λL y=>dg H L 1 y
def QK{x:aj}{ns:SD}{e:End}(aT:x.aC.length<=3)(jf:tO ns x.aC.length)(hk:k (x.wo ns).av H):a_ lv ij 75 H [x.av,.sl ns.length (ns.map iv) e] k kp:=by
 have LB:ns.length<=3:=by have:=JC jf;omega
 refine bw (rs:=[.cell 4 73]) (nt:=32) Tryz.f75 λhH hA=> ?_;simp only[bc,To,aj.av];obtain⟨st,lO⟩:∃st:Nat->S9,∀j,st j=uj x.aC (ns.drop (ns.length-j)):=⟨_,λ_=>rfl⟩;have lm:st 0=x.aC:=by rw[lO,avz,List.drop_length];rfl
 have amt:st ns.length=uj x.aC ns:=by rw[lO,WL,WY]
 obtain⟨xl,dB⟩:∃xl:List aD->SC,∀ss,xl ss=[iv x.first,iv x.hours,iv x.am,cz x.seen,aQ x.pieces,aQ ss]:=⟨_,λ_=>rfl⟩;have qy:x.l=xl x.aC:=by rw[dB];rfl
 have uA:∀ss,(xl ss).drop 5=[.sl ss.length (ss.flatMap aD.l) .shut]:=λss=>by rw[dB];rfl
 rw[qy];refine ai ?_;have rJ:Tc.wrap ((ns.length:Int)-1)=(ns.length:Int)-1:=bF _ (by omega);refine ai ?_;refine b_ ?_;refine fS ns.length (λj:Nat=>[(5,iv ((ns.length:Int)-1-j))]) (λj=>H++[.cells (xl (st j)) 25,.cells l6 73]) (λi=>True) (λ_ _=>rfl) (by simp only[seval,rJ];simp[bP,Wk.refl]) (by rw[lm];rfl) (λ_ _ _=>by simp) trivial (λbX cU j pf _ R hR=> ?_);clear cU;refine ai ?_;refine aA ?_;refine⟨λh=> ?_,λh=> ?_⟩
 ·have ff:j<ns.length:=by omega
  obtain⟨i,hi⟩:∃i:Nat,i=ns.length-1-j:=⟨_,rfl⟩;have sX:(ns.length:Int)-1-j=i:=by omega
  obtain⟨n,hn⟩:=bU (xs:=ns) (i:=i) (by omega);obtain⟨oG,rz⟩:=jf i n hn;obtain⟨n,rfl⟩:∃m:Nat,n=m:=⟨n.toNat,by omega⟩;have c_:st (j+1)=(st j).eraseIdx n:=by
   rw[lO,lO,show ns.length-(j+1)=i by omega,show ns.length-j=i+1 by omega];obtain⟨hlt,rfl'⟩:=Tj.1 hn;rw[UW hlt,rfl'];rfl
  have dQ:(st j).length+j=x.aC.length:=by
   have hd:tO (ns.drop (ns.length-j)) x.aC.length:=λq m hq=>by
    rw[Vd]at hq;have:=jf _ _ hq;rw[Va];exact⟨this.1,by omega⟩
   have:=JC hd;rw[<- lO,Va]at this;omega
  have je:n<(st j).length:=by omega
  generalize st j=ss at c_ dQ je hR⊢;rw[sX];refine aL ?_;refine ah ?_;simp only[seval,gW hn,iB (show i<ns.length by omega)];have bH:=TL n (by omega)
  have ie:∀l:S9,(l.flatMap aD.l).length=l.length* 4:=λl=>by
   induction l with
   |nil=>rfl
   |cons a l ih=>rw[UQ,Tx,ih,aD.len,UU];omega
  have lQ:((n:Int)+1).toNat=n+1:=by omega
  have Ak:((n:Int)+1==0)=false:=by simp;omega
  have ld:(ss.take n).length=n:=by rw[U_];omega
  have iP:(ss.drop (n+1)).length=ss.length-(n+1):=Va;have hD1:∀l:S9,(ss.length-(n+1))=l.length->l.take (ss.length-(n+1))=l:=λl h=>by rw[h,Uy]
  have hD2:(ss.drop (n+1)).take (ss.length-(n+1))=ss.drop (n+1):=hD1 _ iP.symm;refine eo 10 ?_;simp only[seval,TN,uA,bH,ie,lQ,Q2 aD.len,QW aD.len,ld,iP,beq_self_eq_true,avP,Yy,Ak,hD2,Uy];refine⟨by omega,by omega,by omega,by omega,by omega,by rw[dB];simp,?_⟩;have CQ:(ss.eraseIdx n).length=n+(ss.length-(n+1)):=by rw[Y_ je];omega
  have CR:(ss.eraseIdx n).flatMap aD.l=(ss.take n).flatMap aD.l++(ss.drop (n+1)).flatMap aD.l:=by rw[List.eraseIdx_eq_take_drop_succ,VN]
  rw[<- CR,<- CQ];have kz:∀y y',((xl ss).take 5++[y]++(xl ss).drop 6).set 5 y'=((xl ss).take 5++[y']++(xl ss).drop 6):=λy y'=>by rw[dB];rfl
  have hcg:∀y,((xl ss).take 5++[y]++(xl ss).drop 6)[5]?=some y:=λy=>by rw[dB];rfl
  have hce:(xl ss).take 5++[aQ (ss.eraseIdx n)]++(xl ss).drop 6=xl (ss.eraseIdx n):=by rw[dB,dB];rfl
  (repeat apply iA);refine agi (id:=H.length) (j:=5) (y:=aQ (ss.eraseIdx n)) (by simp only[seval,TN]<;>rfl) (hcg _) (gF _ _ _) ?_
  simp only[seval,TS,kz,hce];have fj:Tc.wrap ((i:Int)-1)=(ns.length:Int)-1-((j+1:Nat):Int):=by rw[bF _ (by omega)];omega
  refine ah ?_;simp only[seval,fj];refine hR _ ⟨ff,trivial,?_⟩;rw[c_];have s8:bO (H++[.cells (xl (ss.eraseIdx n)) 25,.cells l6 73]):=aap hH λz hz m=>by
   simp only[Th,Tv,or_false]at hz;rcases hz with rfl|rfl
   ·rw[dB];exact abz m {x with aC:=ss.eraseIdx n}
   ·intro a ha;simp only[l6,Th,Tv,or_false]at ha;rcases ha with rfl|rfl|rfl|rfl|rfl|rfl<;>simp[dN,Hi]
  rw[<- sX];exact NR [.tail (ss.eraseIdx n).length 4 68] (qA rfl rfl) (by simp only[seval];simp[bP,Wk.refl]) s8 (by simp[dN]) (by rw[Ax];rfl)
 ·have x_:j=ns.length:=by omega
  subst x_;refine bT ?_;have GU:(xl (st ns.length))=(x.wo ns).l:=by rw[dB,amt];rfl
  rw[GU];have rJ:(x.wo ns).l.length=6:=rfl;have uP:VC 6 (x.wo ns).l=(x.wo ns).l:=rfl;have lr:l6.length=6:=rfl;have Ml:Vv 6 l6=[]:=rfl;refine ah ?_;simp only[seval,TN,Tb,TO,rJ,uP,lr,Ml];refine⟨vd _,?_⟩;refine kq ?_;simp only[seval,TO];rw[uP];exact eV (b:=(x.wo ns).av) hH (Wk.refl _) (by rw[AJ];trivial) hk
end
open Go.Conc Go.Proofs Go.Gg.Tk
namespace Tk
def Pd (ns:SD)(m:Nat):Bool:=(Tt ns.length).all λi=>decide (0<=ns.getD i 0/\ns.getD i 0+(ns.length-i:Nat)<=m)
def afY{ns:SD}{m:Nat}(h:Pd ns m=true):tO ns m:=λi n hn=>by
 have hi:=(Tj.1 hn).1;have:=Uv.1 h i (UA.2 hi);rw[decide_eq_true_eq,Se,hn]at this;exact this
def abq:∀n,n<4->(wG n).length=2^n/\∀l∈wG n,Pd l n=true:=by decide+kernel
def anN{n:Nat}(hn:n<4){l:SD}(hl:l∈wG n):tO l n:=afY ((abq n hn).2 l hl)
def Qi{ss:S9}:∀{ns:SD}{y:aD},y∈uj ss ns->y∈ss
 |[],y,h=>h
 |n::ns,y,h=>Qi (ns:=ns) (List.mem_of_mem_eraseIdx h)
def Qh{ss:S9}:∀{ns:SD},(uj ss ns).length<=ss.length
 |[]=>Tm _
 |n::ns=>by
  have h1:=Qh (ss:=ss) (ns:=ns);have h2:=List.length_eraseIdx_le (uj ss ns) n.toNat;exact Vb h2 h1
def aj.Ok.wo{x:aj}(h:x.Ok)(ns:SD):(x.wo ns).Ok:=⟨h.first,h.hours,h.am,h.ve,h.cW,Vb Qh h.eG,h.seen,λy hy=>⟨(h.piece y hy).1,(h.piece y hy).2⟩,λy hy=>have k:=h.stub y (Qi hy);⟨k.1,k.2⟩⟩
def FK (x:aj):Option (SD):=(wG x.aC.length).find? λl=>pX (x.wo l)
def QS{α:Type}{p:α->Bool}:∀{l:List α}{i:Nat}{a:α},l[i]?=some a->p a=true->(∀j b,j<i->l[j]?=some b->p b=false)->l.find? p=some a
 |b::l,0,a,h,hp,_=>by cases h;rw[List.find?_cons_of_pos hp]
 |b::l,i+1,a,h,hp,h0=>by
  rw[List.find?_cons_of_neg (by rw[h0 0 b (by omega) rfl];simp)];exact QS (i:=i) h hp λj c hj hc=>h0 (j+1) c (by omega) hc
def ajO{α:Type}{p:α->Bool}{l:List α}(h:∀(j:Nat) b,l[j]?=some b->p b=false):l.find? p=none:=by
 rw[List.find?_eq_none];intro a ha;obtain⟨j,hj⟩:=WQ ha;rw[h j a hj];simp
end Tk
section
variable {lv:Bool}{H:SA}{k kp:SF}
def ai5{x:aj}(hx:x.Ok)(hm:H[0]?=some .main)(iD:∀l,FK x=some l->k (.aF [bp l,iv 0]) H)(cH:FK x=none->k (.aF [bp [],iv 11]) H):a_ lv ij 29 H [x.av] k kp:=by
 refine bw (rs:=[.tmp 2,.tmp 3]) (nt:=27) Tryz.f29 λhH hA=> ?_;simp only[bc,To,aj.av];have aT:=hx.eG;refine ai ?_;refine ah ?_;simp only[seval,TN,TP,TQ];refine aK (zC (x:=x) (dF hm) ?_);rw[ud.2 hx];(try simp only[seval]);refine ah ?_;simp only[seval,show ((0:Int)!=0)=false from rfl];refine aA ?_;refine aL ?_;refine ah ?_;simp only[seval,TN,TZ];refine aK (ajx (n:=x.aC.length) aT ?_);have iE:=(abq x.aC.length (by omega)).1;have fh:=λl hl=>anN (n:=x.aC.length) (by omega) (l:=l) hl;have wj:FK x=(wG x.aC.length).find? λl=>pX (x.wo l):=rfl;generalize wG x.aC.length=ls at iE fh wj⊢;have hp8:2^x.aC.length<=2^3:=Yu (by omega) aT;(try simp only[seval,ze]);refine b_ ?_;refine fS ls.length (λi:Nat=>[(17,iv i)]) (λi=>H++[.cells x.l 25]) (λi=>∀j b,j<i->ls[j]?=some b->pX (x.wo b)=false) (λ_ _=>rfl) (by simp only[seval];simp[bP,Wk.refl]) rfl (λ_ _ _=>by simp) (λj b hj=>by omega) (λbX cU i cK au R hR=> ?_);clear bX cU;refine ai ?_;refine aA ?_;refine⟨λh=> ?_,λh=> ?_⟩
 ·have bG:i<ls.length:=by omega
  obtain⟨l,hl⟩:=bU bG;have fy:=fh l (wI hl);have fW:=TL i (by omega)
  refine aL ?_;refine ah ?_;simp only[seval,ada hl,iB bG];refine ah ?_;simp only[seval,TN,TP,TQ];refine aK (QK (x:=x) (ns:=l) aT fy ?_);(try simp only[seval]);refine aK (J4 (x:=x.wo l) (hx.wo l) ?_);(try simp only[seval]);refine aA ?_;refine⟨λhc=> ?_,λhc=> ?_⟩
  ·refine ai ?_;refine aP ?_;exact eV (b:=.aF [bp l,iv 0]) hH (Er (Wk.refl _) (Wk.refl _)) (by simp[im,dN,AI]) (iD l (by rw[wj];exact QS hl hc au))
  ·refine aL ?_;refine ah ?_;simp only[seval,fW];refine hR _ ⟨bG,λj b hj hb=> ?_,dp⟩;rcases ZF j i with h'|h'
   ·exact au j b h' hb
   ·have:j=i:=(by omega);subst this;rw[hl]at hb;cases hb;simpa using hc
 ·have jz:i=ls.length:=by omega
  subst jz;refine bT ?_;refine ai ?_;refine aP ?_;exact eV (b:=.aF [bp [],iv 11]) hH (Er (gF _ _ _) (Wk.refl _)) (by simp[im,dN,AI]) (cH (by rw[wj];exact ajO λj b hb=>au j b (ep hb) hb))
end
open Go.Conc Go.Proofs Go.Gg.Tk
def acn{x:aj}{q:Nat}(hq:q<x.pieces.length):m8 x [(q:Int)]=true:=by
 unfold m8;simp;omega
def ahz{lv:Bool}{P:Tg}{r:SL}{nt:Nat}{ops:SK}{s:AS}{Φ:SI}{α:Type}{ok:α->Prop}(st:α->AS)(rest:∀x,ok x->Φ .normal (st x))(h:(∀x,ok x->Φ .normal (st x))->DG lv P r nt ops ops s Φ):DG lv P r nt ops ops s Φ:=h rest
def asm{T V:SH}{H H':SA}(hH:H=H')(hv:∀p∈V,∃b,look T p.1=some b/\Wk b p.2):(⟨T,H⟩:AS).Sub ⟨V,H'⟩:=
 ⟨λt a e=>hv (t,a) (rO e),hH⟩
def opsOf:UX->Array U8
 |.region _ o _=>o
 |.seq a _=>opsOf a
 |_=>#[]
structure Bk (H:SA)(M:SC->SC->SA)(L:SA)(B:SC->SC->SA)(N:Nat):Prop where
 f:∀u v,B u v=H++(M u v++L)
 l:∀u v,(B u v).length=N
section
variable {H L:SA}{M B:SC->SC->SA}{N:Nat}
def Bk.n(h:Bk H M L B N)(u v:SC)(L':SA)(j:Nat):(B u v++L')[N+j]?=L'[j]?:=by rw[<- h.l u v,aS]
def Bk.s(h:Bk H M L B N)(u v:SC)(L':SA)(j:Nat)(y:aa):(B u v++L').set (N+j) y=B u v++L'.set j y:=by rw[<- h.l u v,dg]
def Bk.n0(h:Bk H M L B N)(u v:SC)(L':SA):(B u v++L')[N]?=L'[0]?:=h.n u v L' 0
def Bk.s0(h:Bk H M L B N)(u v:SC)(L':SA)(y:aa):(B u v++L').set N y=B u v++L'.set 0 y:=h.s u v L' 0 y
def Bk.n1(h:Bk H M L B N)(u v:SC)(L':SA):(B u v++L')[N+1]?=L'[1]?:=h.n u v L' 1
def Bk.s1(h:Bk H M L B N)(u v:SC)(L':SA)(y:aa):(B u v++L').set (N+1) y=B u v++L'.set 1 y:=h.s u v L' 1 y
def Bk.g(h:Bk H M L B N){j:Nat}{u v:SC}(hl:j<(M u v).length){a y:aa}{u' v':SC}(ha:(M u v)[j]?=some a)(hy:(M u v).set j y=M u' v')(L':SA):(B u v++L')[H.length+j]?=some a/\(B u v++L').set (H.length+j) y=B u' v'++L':=by
 rw[h.f,h.f,Ax,Ax,Ax,Ax,aS,dg,Tw hl,VW _ _ hl,hy];exact⟨ha,rfl⟩
def Bk.gu(h:Bk H M L B N)(j:Nat)(hl:∀u v,j<(M u v).length)(ha:∀u v,(M u v)[j]?=some (.cells u 73))(hy:∀u v w,(M u v).set j (.cells w 73)=M w v):(∀u v L',(B u v++L')[H.length+j]?=some (.cells u 73))/\(∀u v w L',(B u v++L').set (H.length+j) (.cells w 73)=B w v++L')/\(∀u v,(B u v)[H.length+j]?=some (.cells u 73))/\∀u v w,(B u v).set (H.length+j) (.cells w 73)=B w v:=by
 have k1:=λu v w L'=>h.g (hl u v) (ha u v) (hy u v w) L';have k2:=λu v w=>k1 u v w [];simp only[Tu]at k2;exact⟨λu v L'=>(k1 u v u L').1,λu v w L'=>(k1 u v w L').2,λu v=>(k2 u v u).1,λu v w=>(k2 u v w).2⟩
def Bk.gv(h:Bk H M L B N)(j:Nat)(hl:∀u v,j<(M u v).length)(ha:∀u v,(M u v)[j]?=some (.cells v 85))(hy:∀u v w,(M u v).set j (.cells w 85)=M u w):(∀u v L',(B u v++L')[H.length+j]?=some (.cells v 85))/\(∀u v w L',(B u v++L').set (H.length+j) (.cells w 85)=B u w++L')/\(∀u v,(B u v)[H.length+j]?=some (.cells v 85))/\∀u v w,(B u v).set (H.length+j) (.cells w 85)=B u w:=by
 have k1:=λu v w L'=>h.g (hl u v) (ha u v) (hy u v w) L';have k2:=λu v w=>k1 u v w [];simp only[Tu]at k2;exact⟨λu v L'=>(k1 u v v L').1,λu v w L'=>(k1 u v w L').2,λu v=>(k2 u v v).1,λu v w=>(k2 u v w).2⟩
def Hr (x:aj)(q:Int)(u v:SC)(e:Int):Prop:=((kv x≠0\/m8 x [q]=false)/\u=l6/\v=gG/\e=vW x)\/(x.Ok/\0<=q/\q<x.pieces.length/\∃D mp,u=x.l/\v=D.l mp/\e=eC D/\eT x 1 D/\bM D)
def aoB{x:aj}{q:Int}{u v:SC}{e:Int}(h:Hr x q u v e):u.length=6/\v.length=28/\(∀a∈u,a.leaf=true)/\∀a∈v,a.leaf=true:=by
 rcases h with⟨_,rfl,rfl,_⟩|⟨_,_,_,D,mp,rfl,rfl,_,_,dS⟩
 ·exact⟨rfl,rfl,at7,at6⟩
 ·exact⟨rfl,Kn.len dS mp,vd x,tz D mp⟩
def ajo{x:aj}{q:Int}{G:SA}{k kp:SF}(i j:Nat)(M:SC->SC->SA)(u0 v0:SC)(hG:G=H++M u0 v0)(hm:H[0]?=some .main)(h1:(M u0 v0)[i]?=some (.cells [.sl 1 [iv q] .exact] 30))(h2:(M u0 v0)[j]?=some (.cells x.l 25))(hn:∀u v,(M u v).length=(M u0 v0).length)(hk:∀u v e L N B,Hr x q u v e->Bk H M L B N->k (.aF [.agg u,.agg v,iv e]) (B u0 v0)):a_ true ij 54 G [x.av,iv 1,.fn (.func 102) [] [.op (H.length+i) 0,.op (H.length+j) 0]] k kp:=by
 subst hG;have ask:x.Ok->Ez true (H++M u0 v0) (.fn (.func 102) [] [.op (H.length+i) 0,.op (H.length+j) 0]) (m8 x [q]):=λhx L k kp hk=>cO (FB (x:=x) (ns:=[q]) (e:=.exact) (il:=H.length+i) (ir:=H.length+j) hx (by simp) (by rw[Ax,aS];exact dF h1) (by rw[Ax,aS];exact dF h2) hk);by_cases hb:kv x≠0\/m8 x [q]=false
 ·refine ajp (dF hm) ask hb ?_;have:=hk l6 gG (vW x) [] (H.length+(M u0 v0).length) (λu v=>H++(M u v++[])) (.inl ⟨hb,rfl,rfl,rfl⟩) ⟨λ_ _=>rfl,λu v=>by rw[Tu,Tx,hn]⟩;rw[Tu]at this;exact this
 ·have hc:kv x=0:=Uj λh=>hb (.inl h);have hx:=ud.1 hc;have nK:m8 x [q]=true:=by cases h:m8 x [q]with
   |true=>rfl
   |false=>exact absurd (.inr h) hb
  have hq:0<=q/\q<x.pieces.length:=by rw[apz,Uk,decide_eq_true_eq,decide_eq_true_eq]at nK;exact nK
  have hp:=hx.am;obtain⟨p,gU⟩:∃p:Nat,x.am=p:=⟨x.am.toNat,by omega⟩;refine xF (x:=x) (b:=m8 x [q]) hx gU (dF hm) (ask hx) (λh=>by rw[nK]at h;cases h) λ_ js D L mp gS iS dS ry hg=> ?_;have:=hk x.l (D.l mp) (eC D) L (H.length+(M u0 v0).length+L.length) (λu v=>H++(M u v++L)) (.inr ⟨hx,hq.1,hq.2,D,mp,rfl,rfl,rfl,⟨p,js,gU,gS,iS,dS⟩,dS⟩) ⟨λ_ _=>rfl,λu v=>by rw[Tx,Tx,hn];omega⟩;rw[Ax];exact this
end
def yA (x:aj)(q:Int)(u v:SC):Nat->SA
 |10=>[.cells u 73]
 |11=>[.cells v 85]
 |4=>[.cells x.l 25,.cells [.sl 1 [iv q] .exact] 30]
 |_=>[]
def yz (f:Nat->SA)(D:SE):SE->SA
 |[]=>[]
 |i::l=>(bif isDone i D then f i else[])++yz f D l
def oK (H:SA)(x:aj)(q:Int)(u v:SC)(l:SE)(D:SE):SA:=H++(.cells x.l 25::yz (yA x q u v) D l)
def Na (x:aj)(q:Int)(Bf:SC->SC->SA)(u0 v0 u v:SC)(t D:SE):SA:=Bf (bif t.contains 10 then u0 else bif isDone 12 D then u else u0) (bif t.contains 11 then v0 else bif isDone 13 D then v else v0)++yz (yA x q (bif isDone 12 D then u else u0) (bif isDone 13 D then v else v0)) D t
def lf{P:Prop}{α:Type}(t:SE)(M:α)(ix:Nat->Nat)(h:∀t' M' ix',t=t'->M=M'->ix=ix'->P):P:=h t M ix rfl rfl rfl
def qB (x:aj)(q:Int)(l:SE)(u v:SC):SA:=.cells x.l 25::l.flatMap (yA x q u v)
def aoC{H:SA}{x:aj}{q:Int}{nt:Nat}{ops:SK}{c:UX}{Ψ:SI}(ho:nt=27/\ops=opsOf (cs (awh.body.getD .skip))\/nt=29/\ops=opsOf (cs (asg.body.getD .skip)))(hm:H[0]?=some .main)(rest:∀y:Nat×SC×SC×Int×SA,Hr x q y.2.1 y.2.2.1 y.2.2.2.1/\(∃L,y.2.2.2.2=H++L)/\y.2.2.2.2[H.length]?=some (.cells x.l 25)/\y.2.2.2.2[y.1]?=some (.cells y.2.2.1 85)->an.then (λs'=>aZ true ij none nt c s' Ψ) Ψ .normal ⟨[(7,.op y.1 0),(8,iv y.2.2.2.1),(1,iv q),(2,.op H.length 0)],y.2.2.2.2⟩):DG true ij none nt ops ops ⟨[(5,iv 0),(4,.sl 0 [] .exact),(2,.op H.length 0),(0,.agg x.l),(1,iv q)],H++[.cells x.l 25]⟩ (an.then (λs'=>aZ true ij none nt c s' Ψ) Ψ):=by
 rcases ho with⟨rfl,rfl⟩|⟨rfl,rfl⟩
 all_goals
  dsimp only[asg,awh,T9,cs,opsOf];have FS:(1<=2^24)=True:=eq_true (by decide);obtain⟨u0,hu⟩:∃u0:SC,u0=[.val (.int .i64 0),.val (.int .i64 0),.val (.int .i64 0),.sl 0 [] .exact,.sl 0 [] .exact,.sl 0 [] .exact]:=⟨_,rfl⟩;obtain⟨v0,hv⟩:∃v0:SC,v0=[.val (.bool false),.val (.map none),.val (.int .u16 0),.val (.int .u16 0),.val (.int .u16 0),.val (.int .u16 0),.val (.int .u16 0),.val (.int .u16 0),.val (.int .u16 0),.val (.int .u16 0),.val (.int .u16 0),.val (.int .u16 0),.val (.int .u16 0),.val (.int .u16 0),.val (.int .u16 0),.val (.int .u16 0),.val (.int .u16 0),.val (.int .i64 0),.val (.int .i64 0),.val (.int .i64 0),.val (.int .i64 0),.val (.int .i64 0),.val (.int .i64 0),.val (.int .i64 0),.val (.int .i64 0),.val (.int .i64 0),.val (.int .i64 0),.val (.int .i64 0)]:=⟨_,rfl⟩;have GL:=hu.symm;have rG:=hv.symm;have GW:u0.length=6:=by rw[hu];rfl
  have GX:v0.length=28:=by rw[hv];rfl
  have hy0:Vv 6 u0=[]:=by rw[hu];rfl
  have j9:Vv 28 v0=[]:=by rw[hv];rfl
  refine qV 5 10 rfl (qV 5 11 rfl (qV 4 10 rfl (qV 4 11 rfl (qV 10 11 rfl (lf [] (qB x q [11,10,4]) (λ_=>H.length+1) λt M ix ht hM jz=>pY 5 [0,1,2,3,11,10,4] [6,7,8,9,12,13,14] [11,10,4] [12,13] (oK H x q u0 v0 [11,10,4]) ?_) (lf [] (qB x q [10,11,4]) (λ_=>H.length+2) λt M ix ht hM jz=>pY 5 [0,1,2,3,10,11,4] [6,7,8,9,12,13,14] [10,11,4] [12,13] (oK H x q u0 v0 [10,11,4]) ?_)) (lf [] (qB x q [10,4,11]) (λ_=>H.length+4) λt M ix ht hM jz=>pY 5 [0,1,2,3,10,4,11] [6,7,8,9,12,13,14] [10,4,11] [12,13] (oK H x q u0 v0 [10,4,11]) ?_)) (qV 4 11 rfl (lf [] (qB x q [11,4,10]) (λ_=>H.length+1) λt M ix ht hM jz=>pY 5 [0,1,2,3,11,4,10] [6,7,8,9,12,13,14] [11,4,10] [12,13] (oK H x q u0 v0 [11,4,10]) ?_) (qV 10 11 rfl (lf [] (qB x q [4,11,10]) (λ_=>H.length+3) λt M ix ht hM jz=>pY 5 [0,1,2,3,4,11,10] [6,7,8,9,12,13,14] [4,11,10] [12,13] (oK H x q u0 v0 [4,11,10]) ?_) (lf [] (qB x q [4,10,11]) (λ_=>H.length+4) λt M ix ht hM jz=>pY 5 [0,1,2,3,4,10,11] [6,7,8,9,12,13,14] [4,10,11] [12,13] (oK H x q u0 v0 [4,10,11]) ?_)))) (qV 4 10 rfl (lf [11] (qB x q [10,4]) (λN=>N) λt M ix ht hM jz=>pY 5 [0,1,2,3,10,4] [6,7,8,9,11,12,13,14] [10,4] [11,12,13] (oK H x q u0 v0 [10,4]) ?_) (lf [11] (qB x q [4,10]) (λN=>N) λt M ix ht hM jz=>pY 5 [0,1,2,3,4,10] [6,7,8,9,11,12,13,14] [4,10] [11,12,13] (oK H x q u0 v0 [4,10]) ?_))) (qV 5 11 rfl (qV 4 11 rfl (lf [10] (qB x q [11,4]) (λ_=>H.length+1) λt M ix ht hM jz=>pY 5 [0,1,2,3,11,4] [6,7,8,9,10,12,13,14] [11,4] [10,12,13] (oK H x q u0 v0 [11,4]) ?_) (lf [10] (qB x q [4,11]) (λ_=>H.length+3) λt M ix ht hM jz=>pY 5 [0,1,2,3,4,11] [6,7,8,9,10,12,13,14] [4,11] [10,12,13] (oK H x q u0 v0 [4,11]) ?_)) (qV 10 11 rfl (lf [11,10] (qB x q [4]) (λN=>N) λt M ix ht hM jz=>pY 5 [0,1,2,3,4] [6,7,8,9,11,10,12,13,14] [4] [11,10,12,13] (oK H x q u0 v0 [4]) ?_) (lf [10,11] (qB x q [4]) (λN=>N+1) λt M ix ht hM jz=>pY 5 [0,1,2,3,4] [6,7,8,9,10,11,12,13,14] [4] [10,11,12,13] (oK H x q u0 v0 [4]) ?_)))
  all_goals
   (try simp only[seval,oK,yz,yA,z1,TQ,FS,and_self,TN,GL,rG,TP,Tx,Ax]);refine og _ _ (cO (FE (x:=x) (ns:=[q]) ⟨rfl,rfl⟩)) ?_;(try simp only[seval,oK,yz,yA,TN,GL,rG,TP,Tx,Ax,X7]);refine aK (ajo _ _ M u0 v0 (by subst hM;rfl) hm (by subst hM;rfl) (by subst hM;rfl) (by subst hM;exactλ_ _=>rfl) λu v e L N Bf hq hB=> ?_);obtain⟨Dm,eE,huf,j7⟩:=aoB hq;subst hM
   first
    |obtain⟨zF,A5,zG,A6⟩:=hB.gu 1 (λ_ _=>of_decide_eq_true rfl) (λ_ _=>rfl) λ_ _ _=>rfl
    |obtain⟨zF,A5,zG,A6⟩:=hB.gu 2 (λ_ _=>of_decide_eq_true rfl) (λ_ _=>rfl) λ_ _ _=>rfl
    |obtain⟨zF,A5,zG,A6⟩:=hB.gu 3 (λ_ _=>of_decide_eq_true rfl) (λ_ _=>rfl) λ_ _ _=>rfl
    |obtain⟨zF,A5,zG,A6⟩:=hB.gu 4 (λ_ _=>of_decide_eq_true rfl) (λ_ _=>rfl) λ_ _ _=>rfl
    |obtain⟨zF,A5,zG,A6⟩:=And.intro hB.l (And.intro hB.l (And.intro hB.l hB.l))
   first
    |obtain⟨zH,A7,zI,A8⟩:=hB.gv 1 (λ_ _=>of_decide_eq_true rfl) (λ_ _=>rfl) λ_ _ _=>rfl
    |obtain⟨zH,A7,zI,A8⟩:=hB.gv 2 (λ_ _=>of_decide_eq_true rfl) (λ_ _=>rfl) λ_ _ _=>rfl
    |obtain⟨zH,A7,zI,A8⟩:=hB.gv 3 (λ_ _=>of_decide_eq_true rfl) (λ_ _=>rfl) λ_ _ _=>rfl
    |obtain⟨zH,A7,zI,A8⟩:=hB.gv 4 (λ_ _=>of_decide_eq_true rfl) (λ_ _=>rfl) λ_ _ _=>rfl
    |obtain⟨zH,A7,zI,A8⟩:=And.intro hB.l (And.intro hB.l (And.intro hB.l hB.l))
   have hR:=λG a b c=>rest (ix N,u,v,e,G) ⟨hq,a,b,c⟩;refine⟨λDD=>Na x q Bf u0 v0 u v t DD,by subst ht;simp only[seval,Na,yz,yA];first|done|rfl,?_⟩;subst ht jz;(try simp only[seval,Na,apH,List.contains_cons,yz,yA,GL,rG,hB.l,hB.n0,hB.s0,hB.n1,hB.s1,TP,Dm,eE,GW,GX,hy0,j9,aj.av,zF,A5,zG,A6,zH,A7,zI,A8]);refine⟨huf,j7,?_⟩;exact B1 (asm rfl (by simp only[seval];simp[bP,Wk.refl])) (hR _ ⟨_,by rw[hB.f]<;>first|rfl|rw[Ax]⟩ (by rw[hB.f];first|exact aS H _ 0|(rw[Ax];exact aS H _ 0)) (by simp only[seval,GL,rG,hB.l,hB.n0,hB.s0,hB.n1,hB.s1,TP,Dm,eE,GW,GX,hy0,j9,aj.av,zF,A5,zG,A6,zH,A7,zI,A8]))
section
variable {lv:Bool}{H:SA}{k kp:SF}
def ajc{x:aj}{q:Int}(hm:H[0]?=some .main)(hb:(kv x≠0\/m8 x [q]=false)->k (.aF [bp [],iv (vW x)]) H)(hk:x.Ok->0<=q->q<x.pieces.length->∀D,eT x 1 D->(D.has=false->k (.aF [bp [],iv 11]) H)/\(D.has=true->k (.aF [bp (fB (D.aB.getD q.toNat 0) x.first 16),iv 0]) H)):a_ true ij 41 H [x.av,iv q] k kp:=by
 refine bw (rs:=[.tmp 4,.tmp 5]) (nt:=29) asg λhH hA=> ?_;simp only[bc,To,aj.av];refine ai ?_;(repeat apply iA);refine af7 [4,10,11,12,13] [0,1,2,3,4,5,6,7,8,9,10,11,12,13,14] F.mixed (by kernel_rfl) ?_;refine ahz (α:=Nat×SC×SC×Int×SA) (ok:=λy=>Hr x q y.2.1 y.2.2.1 y.2.2.2.1/\(∃L,y.2.2.2.2=H++L)/\y.2.2.2.2[H.length]?=some (.cells x.l 25)/\y.2.2.2.2[y.1]?=some (.cells y.2.2.1 85)) (λy=>⟨[(7,.op y.1 0),(8,iv y.2.2.2.1),(1,iv q),(2,.op H.length 0)],y.2.2.2.2⟩) (λy hy=> ?_) (λrest=> ?_)
 ·obtain⟨i,u,v,e,G⟩:=y;obtain⟨hq,⟨L0,hG⟩,Rx,Rw⟩:=hy;dsimp only at hq hG Rx Rw;have eQ:∀(ns:SD)(e:End)(m:Int),k (.aF [bp ns,iv m]) H->bY H.length G (.aF [.sl ns.length (ns.map iv) e,iv m]) k:=λns e m h=>by
   rw[hG];exact eV hH (Er (gF _ _ _) (Wk.refl _)) (by simp[im,dN,bp,u6]) h
  (try simp only[seval]);rcases hq with⟨zX,rfl,rfl,rfl⟩|⟨hx,hq0,Gw,D,mp,rfl,rfl,rfl,ov,dS⟩
  ·refine ah ?_;simp only[seval,show (vW x !=0)=true by simpa using aia x];refine aA ?_;refine ai ?_;refine aP ?_;exact eQ [] .exact _ (hb zX)
  obtain⟨q,rfl⟩:=Z5 hq0;have hq:q<x.pieces.length:=by omega
  have mT:=hx.cW;obtain⟨iD,cH⟩:=hk hx hq0 Gw D ov;rw[Wc]at cH;cases iQ:D.has with
  |false=>
   have hE:eC D=11:=(by rw[eC,iQ];rfl);refine ah ?_;simp only[seval,hE,show ((11:Int)!=0)=true from rfl];refine aA ?_;refine ai ?_;refine aP ?_;exact eQ [] .exact 11 (iD iQ)
  |true=>
   have hE:eC D=0:=(by rw[eC,iQ];rfl);have cH:=cH iQ;obtain⟨u,hu⟩:=bU (xs:=D.aB) (i:=q) (by rw[dS.aB];omega);have lu:=dS.mv _ (Uf hu);have kF:D.aB.getD q 0=u:=(by rw[Se,hu];rfl);rw[kF]at cH;have b3:(0<=(q:Int)/\(q:Int)<4)=True:=(by simp;omega);have xV:=Kn.Hw (mp:=mp) hu;have jy:=hx.first;refine ah ?_;simp only[seval,hE,show ((0:Int)!=0)=false from rfl];refine aA ?_;refine aL ?_;refine eo 6 ?_;simp only[seval,Rx,Rw,b3,xV,TM];refine aK (JY lu (by omega) ?_);(try simp only[seval]);refine aP ?_;exact eQ _ _ 0 cH
 ·exact aoC (.inr ⟨rfl,rfl⟩) hm rest
def ajd{x:aj}{q:Nat}(hx:x.Ok)(hq:q<x.pieces.length)(hm:H[0]?=some .main)(hk:∀D,eT x 1 D->(D.has=false->k (.aF [bp [],iv 11]) H)/\(D.has=true->k (.aF [bp (fB (D.aB.getD q 0) x.first 16),iv 0]) H)):a_ true ij 41 H [x.av,iv q] k kp:=
 ajc hm (λh=>absurd h (by rw[acn hq];simp[ud.2 hx])) λ_ _ _ D hD=>hk D hD
end
section
variable {lv:Bool}{P:Tg}{r:SL}{o:U8}{s:AS}{next:SV}{bad:AV->SV}
end
section
variable (lv:Bool)(P:Tg)(r:SL)
def BG:List U8->AS->(SV)->(AV->SV)->Prop
 |[],s,K,_=>K s
 |o::rest,s,K,bad=>o.guard=none/\Step lv P r o s (λs'=>BG rest s' K bad) bad
end
section
variable {lv:Bool}{P:Tg}{r:SL}{s:AS}
def adj{nt:Nat}{all:SK}{Φ:SI}(dl:∀o∈all,∀d,o.dst=some d->d<nt)(nE:∀o∈all,r=none\/mq o.op=false):∀(n k:Nat)(s:AS),k+n=all.size->BG lv P r (all.toList.drop k) s (Φ .normal) (λpv s=>Φ (.panic pv) s)->
  ∀(E:Env)(V:View)(a:Act)(Q:SJ),At E V s a nt->(∀ae e E' V' a' s',Kept E E' V V' a a'->At E' V' s' a' nt->pL E' ae e->Φ ae s'->Q e a' V')->di lv P r all Q (UZ k n) a V
 |0,k,s,hk,h,E,V,a,Q,ak,hQ=>by
  have:all.toList.drop k=[]:=by simp;omega
  rw[this]at h;exact hQ .normal .normal E V a s (Kept.refl E V a) ak trivial h
 |n+1,k,s,hk,h,E,V,a,Q,ak,hQ=>by
  have hlt:k<all.size:=by omega
  have hd:all.toList.drop k=all[k]::all.toList.drop (k+1):=by
   rw[UW (by simpa using hlt)];simp
  rw[hd]at h;have fJ:all[k]∈all:=XP hlt;have ho:all[k]?=some all[k]:=Tf hlt;simp only[WF,di,ho];obtain⟨hg,h⟩:=h;have hw:Ug all[k] (yielded all a.tmps)=true:=by unfold Ug;rw[hg]
  rw[if_pos hw];refine .inl (h E V a _ Q ak.br ak.tok (λd e=>by rw[ak.size];exact dl _ fJ d e) (nE _ fJ) (λE' V' a' s' aI bi mm hn=> ?_) (λE' V' s' pv v aI bi mm bh hb=> ?_))
  ·exact adj dl nE n (k+1) s' (by omega) hn E' V' a' Q ⟨bi,mm,aI.size.trans ak.size⟩ (λae e bS aW cu de fY db he hΦ=>hQ ae e bS aW cu de (aI.trans fY) db he hΦ)
  ·exact hQ (.panic pv) (.panic _) E' V' a s' aI ⟨bi,mm,ak.size⟩ ⟨v,rfl,bh⟩ hb
def agb{nt id:Nat}{ops:SK}{Φ:SI}(hd:jL nt ops=true)(h:BG lv P r ops.toList s (Φ .normal) (λpv s=>Φ (.panic pv) s)):aZ lv P r nt (.region id ops false) s Φ:=by
 intro E V a Q ak hQ;refine wp_region ?_;rw[VX];exact adj (Φ:=Φ) (λo ho d e=>(jL.out hd ho).1 d e) (λo ho=> .inr (jL.out hd ho).2) ops.size 0 s (by omega) (by simpa using h) E V a Q ak hQ
end
section
variable {lv:Bool}{P:Tg}{r:SL}{o:U8}{s:AS}{next:SV}{bad:AV->SV}
def I6{nt id:Nat}{c:UX}{l:SC}{el:TypeId}{Φ:SI}(cq:s.H[id]?=some (.cells l el))(h:aZ lv P r nt c ⟨s.T,s.H.set id (.part l.length l el)⟩ Φ):aZ lv P r nt c s Φ:=λE V a Q ak hQ=>by
 have hc:=ak.br;obtain⟨⟨cs,jg,hd⟩,nG⟩:=hc.obj id _ cq;have g:d_ V (V.iu (E.blk id) cs (λo=>decide (o<l.length))):=zJ jg (λo _=>nG o);refine WP.ghost g ?_;have hI:∀b o v,E.I b o=some v->(V.iu (E.blk id) cs (λo=>decide (o<l.length))).ab b o=some v:=λb o v e=>by
  rw[hc.I]at e;have hb:b≠E.blk id:=λhb=>by rw[hb,nG]at e;cases e
  simp only[View.iu];rw[if_neg (λx=>hb x.1)];exact e
 have hle:E.Le {E with I:=(V.iu (E.blk id) cs (λo=>decide (o<l.length))).ab}:=⟨hI,Tm _,λ_ _=>rfl,λ_ _=>Tm _,λ_ _ _ _=>rfl,rfl,rfl⟩;have cx:Conc {E with I:=(V.iu (E.blk id) cs (λo=>decide (o<l.length))).ab} (V.iu (E.blk id) cs (λo=>decide (o<l.length))) (s.H.set id (.part l.length l el)):=by
  refine hc.iY id _ hle rfl (by rw[UF];exact hc.n) lU rfl (λ_ _ _=>rfl) (λb y fi hy=>⟨hy,λo=> ?_⟩) ⟨⟨cs,jg,(hd.mono hle).p,λo ho=> ?_⟩,λo ho=> ?_⟩ (λb hb=> .inl ⟨_,cq,hb⟩)
  ·have hb:b≠E.blk id:=λhb=>fi _ cq (by rw[hb];rfl);simp only[View.iu];rw[if_neg (λx=>hb x.1)]
  ·simp only[View.iu];rw[if_pos ⟨trivial,by simpa using ho⟩]
  ·simp only[View.iu];rw[if_neg (λx=>by have:=x.2;simp at this;omega)];exact nG o
 exact h _ _ a Q ⟨cx,ak.tok.mono hle,ak.size⟩ λae e E' aW a' s' hk=>hQ ae e E' aW a' s' ((⟨hle,rfl,rfl,rfl,rfl⟩:Kept E _ V (V.iu (E.blk id) cs (λo=>decide (o<l.length))) a a).trans hk)
def BK (H:SA)(b a:AV):Prop:=∀E V v,Conc E V H->ap E b v->ap E a v
def BK.of{H:SA}{b a:AV}(h:Wk b a):BK H b a:=λE _ v _ d=>h E v d
def On{H:SA}{id n cap m p:Nat}{l:SC}{el:TypeId}(cq:H[id]?=some (.part p l el))(hm:m<=p)(hp:p<=l.length):BK H (.bI id 0 n cap) (.sl n (l.take m) .shut):=λE V v hc hd=>by
 cases hd with
 |bI hi dK=>
  rename_i cap';obtain⟨⟨cs,ho,wc,rk⟩,_⟩:=hc.obj id _ cq;refine .sl (E.blk id) 0 cap' (λi=>cs.getD i undef) dK.1 trivial (λi cG=> ?_) (λi x hx=> ?_)
  ·rw[U_]at cG;have hlt:i<cs.size:=(by have:=wc.1;omega);rw[hc.I,WN,rk i (by omega),Td,Tf hlt];rfl
  ·rw[U5]at hx;split at hx
   ·exact wc.2 i x hx
   ·cases hx
def agh{nt id j:Nat}{c:UX}{l:SC}{x y:AV}{el:TypeId}{Φ:SI}(cq:s.H[id]?=some (.cells l el))(hj:l[j]?=some x)(hw:BK s.H x y)(h:aZ lv P r nt c ⟨s.T,s.H.set id (.cells (l.set j y) el)⟩ Φ):aZ lv P r nt c s Φ:=λE V a Q ak hQ=>by
 have hc:=ak.br;obtain⟨⟨cs,jg,hd⟩,nG⟩:=hc.obj id _ cq;have cx:Conc E V (s.H.set id (.cells (l.set j y) el)):=
  hc.iY id _ (Env.Le.refl _) hc.I (by rw[hc.n,UF]) lU rfl (λ_ _ _=>rfl) (λb y _ hy=>⟨hy,λ_=>rfl⟩) ⟨⟨cs,jg,P_ hd hj (λv d=>hw E V v hc d)⟩,nG⟩ (λb dj=> .inl ⟨_,cq,dj⟩)
 exact h E V a Q ⟨cx,ak.tok,ak.size⟩ hQ
def Pu{nt t:Nat}{c:UX}{x y:AV}{Φ:SI}(ht:look s.T t=some x)(hw:BK s.H x y)(h:aZ lv P r nt c ⟨(t,y)::s.T,s.H⟩ Φ):aZ lv P r nt c s Φ:=λE V a Q ak hQ=>by
 refine h E V a Q ⟨ak.br,λt' b e=> ?_,ak.size⟩ hQ;simp only[look]at e;split at e
 ·rename_i e';subst e';cases e;exact⟨(ak.tok t x ht).1,hw E V _ ak.br (ak.tok t x ht).2⟩
 ·exact ak.tok t' b e
end
def io (τ:bl)(n:Nat):Nat->SD×bl
 |0=>(UE n 0,τ)
 |i+1=>(((io τ n i).1.set i ((io τ n i).1.getD (cR (io τ n i).2 i).toNat 0)).set (cR (io τ n i).2 i).toNat i,tick (io τ n i).2)
def AK(τ:bl)(n:Nat):∀i,(io τ n i).1.length=n
 |0=>ZG
 |i+1=>by rw[io,UF,UF,AK τ n i]
def Hq{τ:bl}{b:Int}(h:τ.Ok b)(n:Nat):∀i:Nat,(io τ n i).2.Ok (b+i)
 |0=>h.mono (by simp)
 |i+1=>(Hq h n i).tick.mono (by simp;omega)
def aeo(n:Nat):fO (S_ .i64 0) n=(UE n (0:Int)).map iv:=by
 have h:∀i∈Tt n,AV.pD ((S_ Tc 0).cells[i % (S_ Tc 0).cells.size]!)=iv 0:=λi _=>by
  rw[show (S_ Tc 0).cells.size=1 from rfl,Nat.mod_one];rfl
 rw[List.map_replicate];unfold fO;rw[WI h,List.map_const',List.length_range]
section
variable {lv:Bool}{k kp:SF}{Gf:bl->SA}{t N:Nat}{τ:bl}{b:Int}
def QM{n:Nat}(hT:dW Gf t N)(hτ:τ.Ok b)(hb:b<2^30)(hn:n<=2^20)(hk:k (bp (io τ n n).1) (Gf (io τ n n).2)):a_ lv ij 94 (Gf τ) [.op t 0,iv n] k kp:=by
 refine bw (rs:=[.tmp 4]) (nt:=30) Tryz.f94 λhH hA=> ?_;simp only[bc,To];have uw:∀o:aa,dW (λτ=>Gf τ++[o]) t (N+1):=λo=>hT.more [o];refine ai ?_;refine ah ?_;simp only[seval,aeo,hT.len];refine⟨by omega,by omega,?_⟩;refine ai ?_;refine b_ ?_;refine fS n (λi:Nat=>[(6,iv i)]) (λi=>Gf (io τ n i).2++[.cells ((io τ n i).1.map iv) 3]) (λ_=>True) (λ_ _=>rfl) (by simp only[seval];simp[bP,Wk.refl]) rfl (λ_ _ _=>by simp[hT.len]) trivial (λbX cU i cK hi R hR=> ?_);clear bX cU;refine ai ?_;refine aA ?_;refine⟨λh=> ?_,λh=> ?_⟩
 ·have bG:i<n:=by omega
  have au:=Hq hτ n i;have hlen:=AK τ n i;have yl:Tc.wrap ((i:Int)+1)=i+1:=bF _ (by omega);have eS:io τ n (i+1)=(((io τ n i).1.set i ((io τ n i).1.getD (cR (io τ n i).2 i).toNat 0)).set (cR (io τ n i).2 i).toNat i,tick (io τ n i).2):=rfl;generalize io τ n i=m at au hlen eS⊢;obtain⟨l,σ⟩:=m;simp only at au hlen eS;have hr:=lC σ i;refine aL ?_;refine ai ?_;refine aK (oh (uw _) au (by omega) (by omega) ?_);(try simp only[seval]);generalize cR σ i=u at hr eS⊢;obtain⟨u,rfl⟩:∃w:Nat,u=w:=⟨u.toNat,by omega⟩;rw[Wc]at eS;have Dm:u<n:=by omega
  obtain⟨a,ha⟩:=bU (xs:=l) (i:=u) (by omega);have K_:l.getD u 0=a:=by rw[Se,ha];rfl
  rw[K_]at eS;obtain⟨a2,CA⟩:=bU (xs:=l) (i:=i) (by omega);have Gq:(i+1<=l.length)=True:=by simp;omega
  have hou:(u+1<=(l.set i a).length)=True:=by simp;omega
  refine ah ?_;simp only[seval,iB bG,iB Dm,hT.len,hT.g0,hT.g1,hT.g2,hT.g3,hT.h2,hT.h3,hT.s0,hT.s1,hT.s2,hT.s3,hT.t2,hT.t3,kS ha,Un,Gq,wR (y:=a) (show i<l.length by omega)];refine ah ?_;simp only[seval,iB Dm,hT.len,hT.g0,hT.g1,hT.g2,hT.g3,hT.h2,hT.h3,hT.s0,hT.s1,hT.s2,hT.s3,hT.t2,hT.t3,Un,hou,wR (xs:=l.set i a) (y:=i) (show u<(l.set i a).length by simp;omega)];refine ah ?_;simp only[seval,yl];refine hR _ ⟨bG,trivial,?_⟩;rw[eS];exact dp
 ·have jz:i=n:=by omega
  subst jz;clear hR;refine bT ?_;have hlen:=AK τ i i;generalize io τ i i=m at hlen hk⊢;obtain⟨l,σ⟩:=m;simp only at hlen hk
  (repeat apply iA);refine I6 (id:=N) (by simp only[seval,hT.len,hT.g0,hT.g1,hT.g2,hT.g3,hT.h2,hT.h3,hT.s0,hT.s1,hT.s2,hT.s3,hT.t2,hT.t3]<;>rfl) ?_
  simp only[seval,hT.len,hT.g0,hT.g1,hT.g2,hT.g3,hT.h2,hT.h3,hT.s0,hT.s1,hT.s2,hT.s3,hT.t2,hT.t3]
  (repeat apply iA);refine Pu (t:=5) (y:=bp l) (by simp only[seval]<;>rfl) ?_ ?_
  ·have e:bp l=.sl i ((l.map iv).take i) .shut:=by
    rw[Tn (by simp;omega),bp,hlen]
   rw[e];exact On (p:=l.length) (by simp only[seval,hT.len,hT.g0,hT.g1,hT.g2,hT.g3,hT.h2,hT.h3,hT.s0,hT.s1,hT.s2,hT.s3,hT.t2,hT.t3]<;>rfl) (by omega) (by simp)
  refine ai ?_;refine aP ?_;exact iK (b:=bp l) (H':=Gf σ) (G:=[.part l.length (l.map iv) 3]) (Wk.refl _) rfl (by simp[hT.len]) (hT.au hH σ) (by rw[AI];trivial) hk
end
end Go.Gg
namespace Go.Gg.Tk
def Sx{x:aj}{bk:Nat}:∀(d:Nat)(pre:SD),2<=pre.length->mS x bk d pre=(kB x d pre).map cL
 |0,pre,_=>by
  unfold mS kB;split<;>rfl
 |d+1,pre,h=>by
  unfold mS kB;split
  ·rw[WW];congr 1;funext n;rw[if_neg (λhc=>by have:=hc.1;omega),Sx d _ (by simp;omega)]
  ·rfl
def Q0{α:Type}{t:Nat}{f:Nat->List α}:∀m,((Tt m).flatMap λn=>if n≠t then[]else f n)=if t<m then f t else[]
 |0=>by simp
 |m+1=>by
  rw[Wr,VN,Q0 m];simp only[UQ,List.flatMap_nil,Tu];by_cases h:m=t
  ·subst h;rw[if_neg (av3 _),if_neg (by simp),if_pos (Ve _),Vo]
  ·rw[if_pos h,Tu];by_cases h2:t<m
   ·rw[if_pos h2,if_pos (by omega)]
   ·rw[if_neg h2,if_neg (by omega)]
def aab{x:aj}{bk:Nat}(hh:1<=x.hours)(ht:bk<x.am.toNat+1):j6 x bk=(wm x bk).map cL:=by
 unfold j6 wm;obtain⟨d,hd⟩:∃d,x.hours.toNat=d+1:=⟨x.hours.toNat-1,by omega⟩;rw[hd];unfold mS;simp only[UV,WL,Xa,true_and];rw[show ([x.first]:SD).getLastD 0=x.first from rfl];split
 ·rw[Q0 (t:=bk) (f:=λn=>mS x bk d ([x.first]++[x.first+(n:Int)])),if_pos ht,Sx d _ (by simp)];rfl
 ·rfl
def alt{x:aj}(hh:1<=x.hours):((Tt (x.am.toNat+1)).flatMap λt=>wm x t)=aM x:=by
 unfold aM wm;obtain⟨d,hd⟩:∃d,x.hours.toNat=d+1:=⟨x.hours.toNat-1,by omega⟩;rw[hd,Xa,show kB x (d+1) [x.first]=(if rU x 0 x.first then(Tt (x.am.toNat+1)).flatMap λn:Nat=>kB x d [x.first,x.first+(n:Int)]else[])from rfl];split
 ·rfl
 ·simp
end Go.Gg.Tk
namespace Go.Gg.Tk
def aqw{p:Nat->Bool}{m k:Nat}(h:m<=k):((Tt k).filter λn=>decide (n<m)&&p n)=(Tt m).filter p:=by
 obtain⟨j,rfl⟩:=Nat.exists_eq_add_of_le h;rw[List.range_add,Z_];have h1:((Tt j).map (m+·)).filter (λn=>decide (n<m)&&p n)=[]:=by
  rw[List.filter_eq_nil_iff];intro a ha;obtain⟨b,_,rfl⟩:=Um.1 ha;simp only[Uk,decide_eq_true_eq,not_and];exactλhlt=>absurd hlt (by omega)
 rw[h1,Tu];refine Wo λn hn=> ?_;rw[UA]at hn;simp[hn]
def Kd{α:Type}{c:Nat->Bool}{f:Nat->List α}:∀l:SE,(l.flatMap λn=>if c n=true then[]else f n)=(l.filter λn=> !c n).flatMap f
 |[]=>rfl
 |n::l=>by
  rw[UQ,List.filter_cons,Kd l];cases hc:c n<;>simp
def tE (g:aD->Nat->Bool)(m:Nat):List aD->SE->List (SE)
 |[],t=>[t]
 |y::ys,t=>((Tt m).filter λn=>g y n&& !t.contains n).flatMap λn=>tE g m ys (t++[n])
def Nf{g:aD->Nat->Bool}{q:aD->Nat}{m:Nat}(hm:m<=9):∀(ys:S9)(u:Nat)(t:SE),(∀y∈ys,∀n,n<9->(q y).testBit n=(decide (n<m)&&g y n))->(∀n,u.testBit n=t.contains n)->kK (ys.map q) u t=tE g m ys t
 |[],u,t,_,_=>rfl
 |y::ys,u,t,hq,hu=>by
  rw[VI,kK,tE];have e1:((Tt 9).flatMap λn=>if(u.testBit n|| !(q y).testBit n)=true then[]else kK (ys.map q) (u|||2^n) (t++[n]))=((Tt 9).filter λn=> !(u.testBit n|| !(q y).testBit n)).flatMap λn=>kK (ys.map q) (u|||2^n) (t++[n]):=Kd _;rw[e1];have e2:((Tt 9).filter λn=> !(u.testBit n|| !(q y).testBit n))=(Tt m).filter λn=>g y n&& !t.contains n:=by
   rw[<- aqw hm];refine Wo λn hn=> ?_;rw[UA]at hn;rw[hu,hq y (by simp) n hn];cases t.contains n<;>cases decide (n<m)<;>cases g y n<;>rfl
  rw[e2];congr 1;funext n;refine Nf hm ys _ _ (λz hz=>hq z (by simp[hz])) λi=> ?_;rw[Yt,hu,W3,ZR];simp[eq_comm]
def abV{h:SD}{a:Int}{g:aD->Nat->Bool}{m:Nat}(hr:Hv h=(Tt m).map λi:Nat=>a+(i:Int)):∀(ys:S9)(t:SE),(∀y∈ys,∀n,n<m->fits h y (a+(n:Int))=g y n)->mY h ys (t.map λi:Nat=>a+(i:Int))=(tE g m ys t).map λl=>l.map λi:Nat=>a+(i:Int)
 |[],t,_=>rfl
 |y::ys,t,hg=>by
  rw[mY,tE,hr,List.filter_map,XQ,WW];have e:(Tt m).filter ((λn=>fits h y n&& !(t.map λi:Nat=>a+(i:Int)).contains n)∘λi:Nat=>a+(i:Int))=(Tt m).filter λn=>g y n&& !t.contains n:=by
   refine Wo λn hn=> ?_;rw[UA]at hn;simp only[Xl];rw[hg y (by simp) n hn];congr 1;congr 1;rw[U9,ZH,ZH,Um];constructor
   ·rintro⟨i,h1,h2⟩
    have:i=n:=(by omega);rw[<- this];exact h1
   ·exactλh1=>⟨n,h1,rfl⟩
  rw[e];congr 1;funext n;have:=abV hr ys (t++[n]) (λz hz=>hg z (by simp[hz]));rw[UJ]at this;exact this
end Go.Gg.Tk
namespace Go.Gg.Tk
def acb{h:SD}{ns:SE}{nl:SD}{q:aD->Nat}(hl:nl.length=ns.length):∀(ss:S9)(u:Nat)(t:SE),(∀s∈ss,∀p,p<ns.length->(q s).testBit (ns.getD p 0)=fits h s (nl.getD p 0))->(∀n,u.testBit n=t.contains n)->mw ns.length ns (ss.map q) u t=pG h nl ss t
 |[],u,t,_,_=>rfl
 |s::ss,u,t,hq,hu=>by
  rw[VI,mw,pG,hl];have e1:((Tt ns.length).flatMap λp=>if(u.testBit p|| !(q s).testBit (ns.getD p 0))=true then[]else mw ns.length ns (ss.map q) (u|||2^p) (t++[p]))=((Tt ns.length).filter λp=> !(u.testBit p|| !(q s).testBit (ns.getD p 0))).flatMap λp=>mw ns.length ns (ss.map q) (u|||2^p) (t++[p]):=Kd _;rw[e1];have e2:((Tt ns.length).filter λp=> !(u.testBit p|| !(q s).testBit (ns.getD p 0)))=(Tt ns.length).filter λp=>fits h s (nl.getD p 0)&& !t.contains p:=by
   refine Wo λp hp=> ?_;rw[UA]at hp;rw[hu,hq s (by simp) p hp];cases t.contains p<;>cases fits h s (nl.getD p 0)<;>rfl
  rw[e2];congr 1;funext p;refine acb hl ss _ _ (λz hz=>hq z (by simp[hz])) λi=> ?_;rw[Yt,hu,W3,ZR];simp[eq_comm]
def ab0{g:aD->Nat->Bool}{m:Nat}:∀{ys:S9}{t ns:SE},ns∈tE g m ys t->(∀n∈t,n<m)->ns.length=t.length+ys.length/\∀n∈ns,n<m
 |[],t,ns,h,ht=>by
  simp only[tE,T7]at h;subst h;exact⟨by simp,ht⟩
 |y::ys,t,ns,h,ht=>by
  simp only[tE,T4,Vq,UA]at h;obtain⟨n,⟨hn,_⟩,h⟩:=h;obtain⟨h1,h2⟩:=ab0 h (λk hk=>by
   rcases Tp.1 hk with h'|h'
   ·exact ht k h'
   ·rw[T7.1 h'];exact hn)
  exact⟨by rw[h1];simp;omega,h2⟩
end Go.Gg.Tk
namespace Go.Gg.Tk
structure w8 (x:aj)(h:SD):Prop where
 lo:2<=h.length
 hi:h.length<=4
 head:h.headD 0=x.first
 span:h.getLastD 0<=x.first+9
 pad:mD (cL h)
def aci{h:SD}(hl:2<=h.length):(cL h).getD 0 0=h.headD 0:=by
 match h,hl with
 |a::b::l,_=>rfl
def acj{h:SD}(hl:2<=h.length)(h4:h.length<=4):(cL h).getD 3 0=h.getLastD 0:=by
 match h,hl,h4 with
 |[a,b],_,_=>rfl
 |[a,b,c],_,_=>rfl
 |[a,b,c,d],_,_=>rfl
def ape{h:SD}{n:Int}(hl:2<=h.length)(h4:h.length<=4):jp (cL h) n=jp h n:=by
 match h,hl,h4 with
 |[a,b],_,_=>exact Od (i:=0) (k:=2) (z:=b) (h:=[a,b]) (n:=n) rfl (by simp)
 |[a,b,c],_,_=>exact Od (i:=0) (k:=1) (z:=c) (h:=[a,b,c]) (n:=n) rfl (by simp)
 |[a,b,c,d],_,_=>exact Od (i:=0) (k:=0) (z:=d) (h:=[a,b,c,d]) (n:=n) rfl (by simp)
def oJ (h:SD):Nat:=(h.getLastD 0-h.headD 0).toNat
def Jd{x:aj}{h:SD}(hh:w8 x h)(y:aD){n:Nat}(hn:n<9):(ce (cL h) y).testBit n=(decide (n<oJ h)&&fits h y (h.headD 0+(n:Int))):=by
 unfold ce;rw[B3];unfold lF fits;rw[aci hh.lo,acj hh.lo hh.hi,ape hh.lo hh.hi];have e1:decide (n<9)=true:=decide_eq_true hn;have e2:decide (h.headD 0+(n:Int)<h.getLastD 0)=decide (n<oJ h):=by
  unfold oJ;rw[U9];simp only[decide_eq_true_eq];omega
 rw[e1,e2,VO];by_cases hm:n<oJ h
 ·have e3:0<=jp h (h.headD 0+(n:Int)):=by
   unfold oJ at hm;refine Oc (a:=h.headD 0) ?_ (by omega) (by omega);have:=hh.lo
   match h,this with
   |a::b::l,_=>rfl
  rw[decide_eq_true e3,decide_eq_true hm];simp
 ·rw[decide_eq_false hm];simp
def abU{x:aj}{h:SD}(hh:w8 x h):mY h x.pieces []=(f_ x (cL h)).map λl=>l.map λi:Nat=>h.headD 0+(i:Int):=by
 have C3:oJ h<=9:=by unfold oJ;have:=hh.span;have:=hh.head;omega
 have e1:f_ x (cL h)=tE (λy n=>fits h y (h.headD 0+(n:Int))) (oJ h) x.pieces []:=
  Nf C3 x.pieces 0 [] (λy _ n hn=>Jd hh y hn) (by simp)
 rw[e1];exact abV (a:=h.headD 0) rfl x.pieces [] λy _ n _=>rfl
end Go.Gg.Tk
namespace Go.Gg.Tk
def aoG{x:aj}{h:SD}(hh:w8 x h){ns:SE}(hn:ns∈f_ x (cL h)):ns.length=x.pieces.length/\∀n∈ns,n<oJ h:=by
 have C3:oJ h<=9:=by unfold oJ;have:=hh.span;have:=hh.head;omega
 have e1:f_ x (cL h)=tE (λy n=>fits h y (h.headD 0+(n:Int))) (oJ h) x.pieces []:=
  Nf C3 x.pieces 0 [] (λy _ n hn=>Jd hh y hn) (by simp)
 rw[e1]at hn;have:=ab0 hn (by simp);exact⟨by simpa using this.1,this.2⟩
def ao9{x:aj}{h:SD}(hh:w8 x h){ns:SE}(hn:ns∈f_ x (cL h)):iq x (cL h) ns=pG h (ns.map λi:Nat=>h.headD 0+(i:Int)) x.aC []:=by
 obtain⟨h1,h2⟩:=aoG hh hn;have C3:oJ h<=9:=by unfold oJ;have:=hh.span;have:=hh.head;omega
 unfold iq;rw[<- h1];refine acb (by simp) x.aC 0 [] (λs _ p hp=> ?_) (by simp);have o_:ns.getD p 0=ns[p]:=by rw[Se,Ts hp];rfl
 have hlt:=h2 ns[p] (WX hp);have hg2:(ns.map λi:Nat=>h.headD 0+(i:Int)).getD p 0=h.headD 0+(ns[p]:Int):=by
  rw[Se,Uo,Ts hp];rfl
 rw[o_,hg2,Jd hh s (by omega),decide_eq_true hlt,VO]
def eK (t:Tr):SD:=dC (cL t.bE) (t.aB.map λn=>(n-t.bE.headD 0).toNat) t.cj
def ad4{x:aj}{h:SD}(hh:w8 x h){ns:SE}(hn:ns∈f_ x (cL h)):(El x h (ns.map λi:Nat=>h.headD 0+(i:Int))).map eK=(iq x (cL h) ns).map (dC (cL h) ns):=by
 unfold El;rw[Y2,ao9 hh hn];refine WI λos _=> ?_;unfold eK;simp only[Xl,Y2];congr 1
 conv=>rhs;rw[<- List.map_id ns]
 refine WI λn _=> ?_;simp only[Xl,id];omega
def Ch{α β:Type}{l:List α}{f g:α->List β}(h:∀a∈l,f a=g a):l.flatMap f=l.flatMap g:=by
 rw[XR,XR,WI h]
def adK{α:Type}:∀ll:List (List α),(ll.map (·.take 1)).flatten.take 1=ll.flatten.take 1
 |[]=>rfl
 |[]::ll=>by simpa using adK ll
 |(a::l)::ll=>by simp
def as5{x:aj}{h:SD}{deep:Int}(hh:w8 x h):iI x deep (cL h)=(r6 x deep h).map eK:=by
 have e2:(oR x h).map eK=((f_ x (cL h)).map λns=>(iq x (cL h) ns).map λos=>dC (cL h) ns os).flatten:=by
  unfold oR;rw[abU hh,XQ,WW,<- XR];exact Ch λns hn=>ad4 hh hn
 have e1:(vq x h).map eK=(((f_ x (cL h)).map λns=>(iq x (cL h) ns).map λos=>dC (cL h) ns os).map (·.take 1)).flatten:=by
  unfold vq;rw[abU hh,XQ,WW,Y2,<- XR];refine Ch λns hn=> ?_;simp only[Xl];rw[W7,ad4 hh hn]
 unfold iI r6;dsimp only;split
 ·rw[W7,e1,adK]
 ·split
  ·exact e1.symm
  ·exact e2.symm
end Go.Gg.Tk
namespace Go.Gg.Tk
def Ah{x:aj}:∀(d:Nat)(pre h:SD),pre≠[]->h∈kB x d pre->h.length=pre.length+d/\h.headD 0=pre.headD 0
 |0,pre,h,_,hm=>by
  unfold kB at hm;split at hm
  ·rw[T7]at hm;subst hm;exact⟨rfl,rfl⟩
  ·cases hm
 |d+1,pre,h,hp,hm=>by
  unfold kB at hm;split at hm
  ·obtain⟨n,_,hm⟩:=T4.1 hm;obtain⟨h1,h2⟩:=Ah d _ h (by simp) hm;refine⟨by rw[h1];simp;omega,h2.trans ?_⟩
   match pre,hp with
   |a::l,_=>rfl
  ·cases hm
def Sw{x:aj}{t:Nat}(hx:x.Ok)(ht:t<x.am.toNat+1){h:SD}(hm:h∈wm x t):w8 x h:=by
 have hh:=hx.hours;have Gt:cL h∈j6 x t:=by rw[aab hh.1 ht];exact Um.2 ⟨h,hm,rfl⟩
 have h4:=Su hx Gt;unfold wm at hm;split at hm
 ·obtain⟨h1,h2⟩:=Ah _ _ _ (by simp) hm;have oF:2<=h.length:=by rw[h1];simp
  have Gd:h.length<=4:=by rw[h1];simp;omega
  have zN:h.headD 0=x.first:=h2;refine⟨oF,Gd,zN,?_,h4⟩;have:=h4.span;rw[aci oF,acj oF Gd,zN]at this;exact this
 ·cases hm
def Ou{x:aj}{deep:Int}(hx:x.Ok):((Tt (x.am.toNat+1)).flatMap λt=>Ip x deep t)=(aM x).flatMap (r6 x deep):=by
 unfold Ip;rw[<- alt hx.hours.1,List.flatMap_assoc]
end Go.Gg.Tk
namespace Go.Gg.Tk
def O4{l:SE}{i v p n:Nat}(hi:i<l.length):((oW l i v).getD p 0).testBit n=((l.getD p 0).testBit n||(decide (p=i)&&decide (n=v))):=by
 unfold oW;rw[Se,VP];by_cases h:i=p
 ·subst h;rw[if_pos rfl,if_pos hi,T9,Yt,W3];simp[eq_comm]
 ·rw[if_neg h,<- Se];have:¬p=i:=λe=>h e.symm;simp[this]
def sx (v:Nat->Nat):Nat->SE->SE
 |0,l=>l
 |k+1,l=>oW (sx v k l) k (v k)
def abY(t:SD)(l:SE):∀k,rQ t k l=sx (mz t) k l
 |0=>rfl
 |k+1=>by rw[rQ,sx,abY t l k]
def ack(t:SD)(l:SE):∀k,mZ t k l=sx (rX t) k l
 |0=>rfl
 |k+1=>by rw[mZ,sx,ack t l k]
def O6(v:Nat->Nat)(l:SE):∀k,(sx v k l).length=l.length
 |0=>rfl
 |k+1=>by rw[sx,zf,O6 v l k]
def I0{v:Nat->Nat}{l:SE}{p n:Nat}:∀k,k<=l.length->((sx v k l).getD p 0).testBit n=((l.getD p 0).testBit n||(decide (p<k)&&decide (n=v p)))
 |0,_=>by simp[sx]
 |k+1,h=>by
  rw[sx,O4 (by rw[O6];omega),I0 k (by omega)];by_cases hp:p=k
  ·subst hp;simp
  ·have e:(p<k+1)<->p<k:=(by omega);simp[hp,e]
def Nk{l m:SE}{p n:Nat}(h:l.length=m.length):((ly l m).getD p 0).testBit n=((l.getD p 0).testBit n||(m.getD p 0).testBit n):=by
 unfold ly;rw[Se,List.getElem?_zipWith,Se,Se];by_cases hp:p<l.length
 ·rw[Ts hp,Ts (by omega)];simp[Yt]
 ·rw[Vx (by omega),Vx (by omega)];simp
def acs{hs:SS}{h g:SD}:g∈jD hs h<->g∈hs\/g=h:=by
 unfold jD;split
 ·rename_i hm;exact⟨.inl,λe=>e.elim id λe=>e▸hm⟩
 ·rw[Tp,T7]
def Q6{g:SD}:∀{l hs:SS},g∈l.foldl jD hs<->g∈hs\/g∈l
 |[],hs=>by simp
 |a::l,hs=>by
  rw[VS,Q6,acs,Th,or_assoc]
def agx(Q:Kn)(t:SD):(jJ Q t).has=true:=by
 unfold jJ;cases h:Q.has
 ·rfl
 ·rw[if_pos rfl];exact h
def adM(x:aj)(deep:Int)(Q:Kn)(t:SD):(ew x deep Q t).has=true:=by
 have:=agx Q t;unfold ew;dsimp only;split
 ·exact this
 ·split<;>exact this
def Ra{x:aj}{deep:Int}:∀(ts:SS)(Q:Kn),(ts.foldl (ew x deep) Q).has=(Q.has|| !ts.isEmpty)
 |[],Q=>by simp
 |t::ts,Q=>by rw[VS,Ra ts,adM];simp
def amN{F G:Kn}{hs:SS}:(gB F hs G).has=(F.has||G.has):=by
 unfold gB;cases h:G.has
 ·simp
 ·simp
end Go.Gg.Tk
namespace Go.Gg.Tk
def asy{x:aj}{Q:Kn}{t g:SD}:g∈(ew x 0 Q t).aM<->g∈Q.aM\/g=t.take 4:=by
 have hB:(jJ Q t).aM=Q.aM:=by unfold jJ;split<;>rfl
 unfold ew;dsimp only;rw[if_neg (by decide),if_pos rfl,acs,hB]
def Q8{x:aj}{g:SD}:∀(ts:SS)(Q:Kn),g∈(ts.foldl (ew x 0) Q).aM<->g∈Q.aM\/∃t∈ts,g=t.take 4
 |[],Q=>by simp
 |t::ts,Q=>by
  rw[VS,Q8 ts,asy];constructor
  ·rintro((h|h)|⟨u,h1,h2⟩)
   ·exact .inl h
   ·exact .inr ⟨t,by simp,h⟩
   ·exact .inr ⟨u,by simp[h1],h2⟩
  ·rintro(h|⟨u,h1,h2⟩)
   ·exact .inl (.inl h)
   ·rcases Th.1 h1 with rfl|h1
    ·exact .inl (.inr h2)
    ·exact .inr ⟨u,h1,h2⟩
def eD (x:aj)(deep:Int)(j:Nat):List (SD):=(j6 x j).flatMap (iI x deep)
def Io(x:aj)(deep:Int)(j:Nat):gN x deep j=(eD x deep j).foldl (ew x deep) Kn.zero:=rfl
def Es(x:aj)(deep:Int)(j:Nat):(gN x deep j).has= !(eD x deep j).isEmpty:=by
 rw[Io,Ra];rfl
def aty{x:aj}{j:Nat}{g:SD}:g∈(gN x 0 j).aM<->∃t∈eD x 0 j,g=t.take 4:=by
 rw[Io,Q8];simp[Kn.zero]
def aa2{x:aj}{deep:Int}{js:SE}{D:Kn}(h:n4 x deep js D):D.has=js.any λj=> !(eD x deep j).isEmpty:=by
 induction h with
 |nil=>rfl
 |snoc h hp ih=>rw[amN,ih,Es,apT];simp
def amO{x:aj}{js:SE}{D:Kn}{g:SD}(h:n4 x 0 js D):g∈D.aM<->∃j∈js,∃t∈eD x 0 j,g=t.take 4:=by
 induction h with
 |nil=>simp[Kn.zero]
 |@snoc js F j hs h hp ih=>
  have key:g∈(gB F hs (gN x 0 j)).aM<->g∈F.aM\/∃t∈eD x 0 j,g=t.take 4:=by
   unfold gB;split
   ·show g∈hs.foldl jD F.aM<->_;rw[Q6,hp.mem_iff,aty]
   ·rename_i hn;rw[Es]at hn;have:eD x 0 j=[]:=(by simpa using hn);rw[this];simp
  rw[key,ih];constructor
  ·rintro(⟨i,h1,h2⟩|h2)
   ·exact⟨i,by simp[h1],h2⟩
   ·exact⟨j,by simp,h2⟩
  ·rintro⟨i,h1,h2⟩
   rcases Tp.1 h1 with h1|h1
   ·exact .inl ⟨i,h1,h2⟩
   ·rw[T7.1 h1]at h2;exact .inr h2
def Q7:∀{l hs:SS},hs.Nodup->(l.foldl jD hs).Nodup
 |[],hs,h=>h
 |a::l,hs,h=>by rw[VS];exact Q7 (acu h)
def amQ{x:aj}{deep:Int}{js:SE}{D:Kn}(h:n4 x deep js D):D.aM.Nodup:=by
 induction h with
 |nil=>exact XL
 |snoc h hp ih=>
  unfold gB;split
  ·exact Q7 ih
  ·exact ih
end Go.Gg.Tk
namespace Go.Gg.Tk
def zK{x:aj}{deep:Int}{t:Nat}(hx:x.Ok)(ht:t<x.am.toNat+1):eD x deep t=(Ip x deep t).map eK:=by
 unfold eD Ip;rw[aab hx.hours.1 ht,XQ,WW];exact Ch λh hm=>as5 (Sw hx ht hm)
def nj (x:aj)(deep:Int):List Tr:=(aM x).flatMap (r6 x deep)
def AF{x:aj}{deep:Int}{js:SE}{p:Nat}(hx:x.Ok)(hp:x.am=p)(gS:js.Perm (Tt (p+1))){t:SD}:(∃j∈js,t∈eD x deep j)<->∃u∈nj x deep,t=eK u:=by
 have nL:x.am.toNat=p:=by omega
 unfold nj;rw[<- Ou hx,nL];constructor
 ·rintro⟨j,h1,h2⟩
  have hj:=gS.mem_iff.1 h1;rw[zK hx (by rw[nL];simpa using hj)]at h2;obtain⟨u,h3,rfl⟩:=Um.1 h2;exact⟨u,T4.2 ⟨j,hj,h3⟩,rfl⟩
 ·rintro⟨u,h1,rfl⟩
  obtain⟨j,hj,h3⟩:=T4.1 h1;refine⟨j,gS.mem_iff.2 hj,?_⟩;rw[zK hx (by rw[nL];simpa using hj)];exact Um.2 ⟨u,h3,rfl⟩
def Bh{x:aj}{deep:Int}{h:SD}{u:Tr}(hu:u∈r6 x deep h):u∈oR x h:=by
 have h1:∀u,u∈vq x h->u∈oR x h:=λu hu=>by
  unfold vq at hu;obtain⟨ns,h1,h2⟩:=T4.1 hu;exact T4.2 ⟨ns,h1,YE h2⟩
 unfold r6 at hu;split at hu
 ·exact h1 u (YE hu)
 ·split at hu
  ·exact h1 u hu
  ·exact hu
def yQ{x:aj}{h:SD}{u:Tr}(hu:u∈oR x h):u.bE=h:=by
 obtain⟨ns,_,h2⟩:=T4.1 hu;obtain⟨os,_,rfl⟩:=Um.1 h2;rfl
def Q3{α β:Type}{f:α->List β}:∀{l:List α},(l.flatMap λa=>(f a).take 1)=[]<->l.flatMap f=[]
 |[]=>by simp
 |a::l=>by
  rw[UQ,UQ,Zz,Zz,Q3,ZQ];simp
def ad3{x:aj}{deep:Int}{h:SD}:r6 x deep h=[]<->oR x h=[]:=by
 have h1:vq x h=[]<->oR x h=[]:=Q3;unfold r6;split
 ·rw[ZQ,h1];simp
 ·split
  ·exact h1
  ·exact Iff.rfl
def O9{x:aj}{deep:Int}:nj x deep=[]<->bx x=[]:=by
 unfold nj bx;rw[Wv,Wv];exact forall_congr' λh=>forall_congr' λ_=>ad3
def afv{x:aj}{deep:Int}{js:SE}:(js.any λj=> !(eD x deep j).isEmpty)=true<->∃t,∃j∈js,t∈eD x deep j:=by
 rw[Vp];constructor
 ·rintro⟨j,h1,h2⟩
  cases hg:eD x deep j with
  |nil=>rw[hg]at h2;cases h2
  |cons t l=>exact⟨t,j,h1,by rw[hg];simp⟩
 ·rintro⟨t,j,h1,h2⟩
  refine⟨j,h1,?_⟩;cases hg:eD x deep j with
  |nil=>rw[hg]at h2;cases h2
  |cons=>rfl
end Go.Gg.Tk
namespace Go.Gg
open Go.Gg.Tk
def Dx{x:aj}{deep:Int}{D:Kn}(hx:x.Ok)(h:eT x deep D):D.has= !(bx x).isEmpty:=by
 obtain⟨p,js,h1,h2,h3,_⟩:=h;rw[aa2 h3,U9,afv];have key:(∃t,∃j∈js,t∈eD x deep j)<->nj x deep≠[]:=by
  constructor
  ·rintro⟨t,h⟩ he
   obtain⟨u,hu,_⟩:=(AF hx h1 h2).1 h;rw[he]at hu;cases hu
  ·intro aH;obtain⟨u,hu⟩:=WS _ aH;exact⟨eK u,(AF hx h1 h2).2 ⟨u,hu,rfl⟩⟩
 rw[key,ne_eq,O9];cases bx x<;>simp
def amZ{x:aj}{D:Kn}(hx:x.Ok)(h:eT x 0 D){g:SD}:g∈D.aM<->∃u∈bx x,g=(eK u).take 4:=by
 obtain⟨p,js,h1,h2,h3,_⟩:=h;rw[amO h3];have e:(∃j∈js,∃t∈eD x 0 j,g=t.take 4)<->∃t,(∃j∈js,t∈eD x 0 j)/\g=t.take 4:=by
  constructor
  ·rintro⟨j,a,t,b,c⟩;exact⟨t,⟨j,a,b⟩,c⟩
  ·rintro⟨t,⟨j,a,b⟩,c⟩;exact⟨j,a,t,b,c⟩
 rw[e];have aE:∀u:Tr,u∈bx x->(eK u).take 4=cL u.bE:=λu hu=>by
  obtain⟨h,hm,kF⟩:=T4.1 hu;have hl:h.length=1+x.hours.toNat:=(Ah _ _ _ (by simp) hm).1;have hh:=hx.hours;have h4:(cL u.bE).length=4:=by
   rw[yQ kF];simp[cL];omega
  unfold eK dC;rw[Ax,Uu (by omega),Tn (by omega)]
 have lP:∀u,u∈nj x 0->u∈bx x:=λu hu=>by
  obtain⟨h,a,b⟩:=T4.1 hu;exact T4.2 ⟨h,a,Bh b⟩
 constructor
 ·rintro⟨t,a,rfl⟩
  obtain⟨u,hu,rfl⟩:=(AF hx h1 h2).1 a;exact⟨u,lP u hu,rfl⟩
 ·rintro⟨u,hu,rfl⟩
  obtain⟨h,hm,kF⟩:=T4.1 hu;have aH:r6 x 0 h≠[]:=λe=>by
   rw[ad3]at e;rw[e]at kF;cases kF
  obtain⟨v,hv⟩:=WS _ aH;have tr:v∈nj x 0:=T4.2 ⟨h,hm,hv⟩;refine⟨eK v,(AF hx h1 h2).2 ⟨v,tr,rfl⟩,?_⟩;rw[aE u hu,aE v (lP v tr),yQ kF,yQ (Bh hv)]
end Go.Gg
namespace Go.Gg.Tk
def Jc(Q:Kn)(t:SD):(jJ Q t).aB=Q.aB/\(jJ Q t).hours=Q.hours/\(jJ Q t).less=Q.less/\(jJ Q t).aY=Q.aY:=by
 unfold jJ;split<;>exact⟨rfl,rfl,rfl,rfl⟩
def asA{x:aj}{Q:Kn}{t:SD}{p n:Nat}(hx:x.Ok)(hQ:bM Q)(hp:p<x.pieces.length):((ew x 1 Q t).aB.getD p 0).testBit n=((Q.aB.getD p 0).testBit n||decide (n=mz t p)):=by
 have h:(ew x 1 Q t).aB=rQ t x.pieces.length Q.aB:=by
  rw[<- (Jc Q t).1];rfl
 rw[h,abY,I0 _ (by rw[hQ.aB];exact hx.cW),decide_eq_true hp,VO]
def asB{x:aj}{Q:Kn}{t:SD}{s n:Nat}(hx:x.Ok)(hQ:bM Q)(hs:s<x.aC.length):((ew x 2 Q t).aY.getD s 0).testBit n=((Q.aY.getD s 0).testBit n||decide (n=rX t s)):=by
 have h:(ew x 2 Q t).aY=mZ t x.aC.length Q.aY:=by
  rw[<- (Jc Q t).2.2.2];rfl
 rw[h,ack,I0 _ (by rw[hQ.aY];exact hx.eG),decide_eq_true hs,VO]
def Q9{x:aj}{deep:Int}(hx:x.Ok){f:Kn->Bool}{g:SD->Bool}(h:∀Q t,bM Q->ju x t->f (ew x deep Q t)=(f Q||g t)):∀(ts:SS)(Q:Kn),bM Q->(∀t∈ts,ju x t)->f (ts.foldl (ew x deep) Q)=(f Q||ts.any g)
 |[],Q,_,_=>by simp
 |t::ts,Q,hQ,ht=>by
  rw[VS,Q9 hx h ts _ (N9 hx (ht t (by simp)) hQ) (λu hu=>ht u (by simp[hu])),h Q t hQ (ht t (by simp)),ZT,Bool.or_assoc]
def Rn{x:aj}{deep:Int}{j:Nat}(hx:x.Ok)(hj:j<=3){t:SD}(ht:t∈eD x deep j):ju x t:=by
 obtain⟨h,h1,h2⟩:=T4.1 ht;obtain⟨ns,h3,h4⟩:=Og h2;exact((Ek hx) j hj h h1).2 ns h3 t h4
def amP{x:aj}{deep:Int}(hx:x.Ok){f:Kn->Bool}{g:SD->Bool}(h0:f Kn.zero=false)(h:∀Q t,bM Q->ju x t->f (ew x deep Q t)=(f Q||g t))(hj:∀F G hs,bM F->bM G->G.has=true->f (gB F hs G)=(f F||f G)){js:SE}{D:Kn}(gS:∀j∈js,j<=3)(hD:n4 x deep js D):bM D/\f D=js.any λj=>(eD x deep j).any g:=by
 induction hD with
 |nil=>exact⟨Dy,by simpa using h0⟩
 |@snoc js F j hs hJ hp ih=>
  obtain⟨mW,lw⟩:=ih λi hi=>gS i (by simp[hi]);have hj3:j<=3:=gS j (by simp);have au:bM (gN x deep j):=Ot hx ((Ek hx) j hj3);refine⟨aaZ mW au hp,?_⟩;have hw:f (gN x deep j)=(eD x deep j).any g:=by
   rw[Io,Q9 hx h _ _ Dy (λt ht=>Rn hx hj3 ht),h0,an_]
  rw[apT,<- lw];simp only[ZT,List.any_nil,ZD];cases hG:(gN x deep j).has with
  |true=>rw[hj F _ hs mW au hG,hw]
  |false=>
   have hn:eD x deep j=[]:=by
    rw[Es]at hG;simpa using hG
   rw[hn];unfold gB;rw[hG];simp
end Go.Gg.Tk
namespace Go.Gg
open Go.Gg.Tk
def MP{x:aj}{deep:Int}(hx:x.Ok){f:Kn->Bool}{g:SD->Bool}(h0:f Kn.zero=false)(h:∀Q t,bM Q->ju x t->f (ew x deep Q t)=(f Q||g t))(hj:∀F G hs,bM F->bM G->G.has=true->f (gB F hs G)=(f F||f G)){D:Kn}(hD:eT x deep D):f D=true<->∃u∈nj x deep,g (eK u)=true:=by
 obtain⟨p,js,h1,h2,h3,_⟩:=hD;have hp:=hx.am;have gS:∀j∈js,j<=3:=λj hm=>by
  have:=h2.mem_iff.1 hm;rw[UA]at this;omega
 rw[(amP hx h0 h hj gS h3).2,Vp];constructor
 ·rintro⟨j,a,b⟩
  obtain⟨t,c,d⟩:=Vp.1 b;obtain⟨u,hu,rfl⟩:=(AF hx h1 h2).1 ⟨j,a,c⟩;exact⟨u,hu,d⟩
 ·rintro⟨u,hu,d⟩
  obtain⟨j,a,c⟩:=(AF hx h1 h2).2 ⟨u,hu,rfl⟩;exact⟨j,a,Vp.2 ⟨_,c,d⟩⟩
def am2{x:aj}{D:Kn}{s n:Nat}(hx:x.Ok)(hD:eT x 2 D)(hs:s<x.aC.length):(D.aY.getD s 0).testBit n=true<->∃u∈bx x,rX (eK u) s=n:=by
 have aT:=hx.eG;have e:nj x 2=bx x:=rfl;rw[<- e,MP (f:=λK=>(K.aY.getD s 0).testBit n) (g:=λt=>decide (n=rX t s)) hx ?_ (λQ t hQ _=>asB hx hQ hs) (λF G nN hF hG hh=> ?_) hD]
 ·exact exists_congr λu=>and_congr_right λ_=>by rw[decide_eq_true_eq];exact eq_comm
 ·have:([0,0,0]:SE).getD s 0=0:=by
   match s,(show s<3 by omega)with
   |0,_=>rfl
   |1,_=>rfl
   |2,_=>rfl
  show (([0,0,0]:SE).getD s 0).testBit n=false;rw[this];exact YS n
 ·have e2:(gB F nN G).aY=ly F.aY G.aY:=by unfold gB;rw[if_pos hh]
  rw[e2];exact Nk (by rw[hF.aY,hG.aY])
def O8{x:aj}{P:SD->SD->Prop}:(∃u∈nj x 1,P u.bE u.aB)<->∃u∈bx x,P u.bE u.aB:=by
 constructor
 ·rintro⟨u,hu,hp⟩
  obtain⟨h,a,b⟩:=T4.1 hu;exact⟨u,T4.2 ⟨h,a,Bh b⟩,hp⟩
 ·rintro⟨u,hu,hp⟩
  obtain⟨h,a,b⟩:=T4.1 hu;obtain⟨ns,c,d⟩:=T4.1 b;obtain⟨os,c2,rfl⟩:=Um.1 d;cases ho:pG h ns x.aC []with
  |nil=>rw[ho]at c2;cases c2
  |cons o os'=>
   refine⟨⟨h,ns,o⟩,T4.2 ⟨h,a,?_⟩,hp⟩;show _∈vq x h;refine T4.2 ⟨ns,c,?_⟩;unfold El;rw[ho];simp
def abX{h:SD}:∀{ys:S9}{t ns:SD},ns∈mY h ys t->ns.length=t.length+ys.length
 |[],t,ns,hm=>by
  simp only[mY,T7]at hm;subst hm;rfl
 |y::ys,t,ns,hm=>by
  simp only[mY,T4]at hm;obtain⟨n,_,hm⟩:=hm;have:=abX hm;simp at this⊢;omega
def wV{x:aj}(hx:x.Ok){u:Tr}(hu:u∈bx x):u.bE.length=1+x.hours.toNat/\u.aB.length=x.pieces.length:=by
 obtain⟨h,a,b⟩:=T4.1 hu;obtain⟨ns,c,d⟩:=T4.1 b;obtain⟨os,_,rfl⟩:=Um.1 d;exact⟨(Ah _ _ _ (by simp) a).1,by simpa using abX c⟩
def yE{h:SD}(h4:h.length<=4):(cL h).length=4:=by simp[cL];omega
def ah2{x:aj}(hx:x.Ok){u:Tr}(hu:u∈bx x){p:Nat}(hp:p<x.pieces.length):mz (eK u) p=(u.aB.getD p 0-u.bE.headD 0).toNat:=by
 obtain⟨h1,h2⟩:=wV hx hu;have hh:=hx.hours;have h4:=yE (h:=u.bE) (by omega);have dM:p<u.aB.length:=by omega
 have hg:(eK u)[4+p]?=some (((u.aB[p]-u.bE.headD 0).toNat:Nat):Int):=by
  unfold eK dC lz;rw[Ax,Ud (by omega),h4,VJ,Tw (by simp;omega),Tw (by simpa using dM),Uo,Uo,Ts dM];rfl
 unfold mz;rw[Se,hg,Se,Ts dM];rfl
def aen{p:Nat}(hp:p<4):([0,0,0,0]:SE).getD p 0=0:=by
 match p,hp with
 |0,_=>rfl
 |1,_=>rfl
 |2,_=>rfl
 |3,_=>rfl
def am1{x:aj}{D:Kn}{p n:Nat}(hx:x.Ok)(hD:eT x 1 D)(hp:p<x.pieces.length):(D.aB.getD p 0).testBit n=true<->∃u∈bx x,(u.aB.getD p 0-u.bE.headD 0).toNat=n:=by
 have mT:=hx.cW;rw[MP (f:=λK=>(K.aB.getD p 0).testBit n) (g:=λt=>decide (n=mz t p)) hx ?_ (λQ t hQ _=>asA hx hQ hp) (λF G nN hF hG hh=> ?_) hD]
 ·rw[<- O8 (P:=λh ns=>(ns.getD p 0-h.headD 0).toNat=n)];refine exists_congr λu=>and_congr_right λhu=> ?_;obtain⟨h,a,b⟩:=T4.1 hu;have GM:u∈bx x:=T4.2 ⟨h,a,Bh b⟩;rw[decide_eq_true_eq,ah2 hx GM hp];exact eq_comm
 ·show (([0,0,0,0]:SE).getD p 0).testBit n=false;rw[aen (by omega)];exact YS n
 ·have e2:(gB F nN G).aB=ly F.aB G.aB:=by unfold gB;rw[if_pos hh]
  rw[e2];exact Nk (by rw[hF.aB,hG.aB])
def abW{h:SD}:∀{ys:S9}{t ns:SD},ns∈mY h ys t->(∀n∈t,h.headD 0<=n)->∀n∈ns,h.headD 0<=n
 |[],t,ns,hm,ht=>by
  simp only[mY,T7]at hm;subst hm;exact ht
 |y::ys,t,ns,hm,ht=>by
  simp only[mY,T4,Vq]at hm;obtain⟨n,⟨hn,_⟩,hm⟩:=hm;refine abW hm λk hk=> ?_;rcases Tp.1 hk with h'|h'
  ·exact ht k h'
  ·rw[T7.1 h'];obtain⟨i,_,rfl⟩:=Um.1 hn;omega
def as8{x:aj}{u:Tr}(hu:u∈bx x):∀n∈u.aB,u.bE.headD 0<=n:=by
 obtain⟨h,a,b⟩:=T4.1 hu;obtain⟨ns,c,d⟩:=T4.1 b;obtain⟨os,_,rfl⟩:=Um.1 d;exact abW c (by simp)
end Go.Gg
namespace Go.Gg.Tk
def Gh{x:aj}:∀(d:Nat)(pre h:SD),h∈kB x d pre->h.take pre.length=pre
 |0,pre,h,hm=>by
  unfold kB at hm;split at hm
  ·rw[T7]at hm;subst hm;exact Uy
  ·cases hm
 |d+1,pre,h,hm=>by
  unfold kB at hm;split at hm
  ·obtain⟨n,_,hm⟩:=T4.1 hm;have:=Gh d _ h hm;rw[Tx,UV]at this;have h2:=congrArg (VC pre.length) this;rw[Wi,Uu (Tm _),Uy,Xx (by omega)]at h2;exact h2
  ·cases hm
def Sv{x:aj}:∀(d:Nat)(pre:SD),(kB x d pre).Nodup
 |0,pre=>by
  unfold kB;split
  ·simp
  ·exact XL
 |d+1,pre=>by
  unfold kB;split
  ·unfold List.Nodup;rw[List.pairwise_flatMap];refine⟨λn _=>Sv d _,?_⟩;refine avH ?_ (Y0 (n:=x.am.toNat+1));intro a b dJ h ha g hb he;subst he;have h1:=Gh d _ h ha;have h2:=Gh d _ h hb;rw[Tx,UV]at h1 h2;have h3:=h1.symm.trans h2;have:=List.append_cancel_left h3;simp at this;exact dJ (by omega)
  ·exact XL
def aac(x:aj):(aM x).Nodup:=Sv _ _
end Go.Gg.Tk
namespace Go.Gg
open Go.Gg.Tk
def asC(x:aj)(deep:Int)(Q:Kn)(t:SD):(ew x deep Q t).first=if Q.has=true then Q.first else t:=by
 have hB:(jJ Q t).first=if Q.has=true then Q.first else t:=by unfold jJ;split<;>rfl
 unfold ew;dsimp only;split
 ·exact hB
 ·split
  ·exact hB
  ·exact hB
def Q_{x:aj}{deep:Int}:∀(ts:SS)(Q:Kn),(ts.foldl (ew x deep) Q).first=if Q.has=true then Q.first else(match ts with|[]=>Q.first|t::_=>t)
 |[],Q=>by simp
 |t::ts,Q=>by
  rw[VS,Q_ ts,adM,if_pos rfl,asC]
def atz{x:aj}{deep:Int}{j:Nat}{t:SD}{l:SS}(h:eD x deep j=t::l):(gN x deep j).first=t:=by
 rw[Io,Q_,h];rfl
def amM{Q G:Kn}{hs:SS}(h:G.has=true):(gB Q hs G).first=if Q.has=false\/sD G.first Q.first=true then G.first else Q.first:=by
 unfold gB;rw[if_pos h]
def apd{h:SD}{a b:Int}(hl:h.take 2=[a,b]):(cL h).take 4=a::b::((cL h).drop 2).take 2:=by
 match h,hl with
 |c::d::l,hl=>
  simp only[W4,awb,ZS,and_true]at hl;obtain⟨rfl,rfl⟩:=hl;simp[cL]
def Ro{x:aj}{deep:Int}{j:Nat}(hx:x.Ok)(hj:j<x.am.toNat+1){t:SD}(ht:t∈eD x deep j):∃l,t.take 4=x.first::(x.first+(j:Int))::l:=by
 rw[zK hx hj]at ht;obtain⟨u,hu,rfl⟩:=Um.1 ht;obtain⟨h,hm,hu⟩:=T4.1 hu;have hL:=Sw hx hj hm;have kF:=yQ (Bh hu);have h2:h.take 2=[x.first,x.first+(j:Int)]:=by
  unfold wm at hm;split at hm
  ·exact Gh _ _ _ hm
  ·cases hm
 have e:(eK u).take 4=(cL h).take 4:=by
  unfold eK dC;rw[kF,Ax,Uu (by rw[yE hL.hi];omega)]
 rw[e,apd h2];exact⟨_,rfl⟩
def akr{x:aj}{deep:Int}{i j:Nat}(hx:x.Ok)(hi:i<x.am.toNat+1)(hj:j<x.am.toNat+1)(j5:i≠j){t u:SD}(ht:t∈eD x deep i)(hu:u∈eD x deep j):sD t u=decide (i<j):=by
 obtain⟨l,h1⟩:=Ro hx hi ht;obtain⟨m,h2⟩:=Ro hx hj hu;have aH:t.take 4≠u.take 4:=by
  rw[h1,h2];simp only[ne_eq,ZS,true_and,not_and];intro h;omega
 unfold sD;rw[if_neg aH,h1,h2];by_cases h:i<j
 ·have e1:mJ (x.first+(i:Int)) (x.first+(j:Int))= -1:=by unfold mJ;rw[if_pos (by omega)]
  have e0:mJ x.first x.first=0:=by unfold mJ;simp
  simp[oe,e0,e1,h]
 ·have e1:mJ (x.first+(i:Int)) (x.first+(j:Int))=1:=by unfold mJ;rw[if_neg (by omega),if_pos (by omega)]
  have e0:mJ x.first x.first=0:=by unfold mJ;simp
  simp[oe,e0,e1,h]
def aa1{x:aj}{deep:Int}{js:SE}{D:Kn}(hx:x.Ok)(hJ:n4 x deep js D)(hn:js.Nodup)(hj:∀j∈js,j<x.am.toNat+1)(hh:D.has=true):∃j∈js,∃t l,eD x deep j=t::l/\D.first=t/\∀i∈js,eD x deep i≠[]->j<=i:=by
 induction hJ with
 |nil=>cases hh
 |@snoc js Q j hs hJ hp ih=>
  have kC:js.Nodup:=(V_.1 hn).1;have pf:j∉js:=λh=>(V_.1 hn).2.2 j h j (by simp) rfl;have ih':=ih kC (λi hi=>hj i (by simp[hi]));by_cases hG:eD x deep j=[]
  ·have hg:(gN x deep j).has=false:=(by rw[Es,hG];rfl);have hD:gB Q hs (gN x deep j)=Q:=(by unfold gB;rw[hg];rfl);rw[hD]at hh⊢;obtain⟨i,h1,t,l,h2,h3,h4⟩:=ih' hh;refine⟨i,by simp[h1],t,l,h2,h3,λk hk aH=> ?_⟩;rcases Tp.1 hk with hk|hk
   ·exact h4 k hk aH
   ·rw[T7]at hk;subst hk;exact absurd hG aH
  ·obtain⟨t,l,ht⟩:∃t l,eD x deep j=t::l:=by
    cases hg:eD x deep j with
    |nil=>exact absurd hg hG
    |cons t l=>exact⟨t,l,rfl⟩
   have hg:(gN x deep j).has=true:=(by rw[Es,ht];rfl);rw[amM hg,atz ht];by_cases hQ:Q.has=true
   ·obtain⟨i,h1,t',l',h2,h3,h4⟩:=ih' hQ;have hb:sD t Q.first=decide (j<i):=by
     rw[h3];exact akr hx (hj j (by simp)) (hj i (by simp[h1])) (λe=>pf (e▸h1)) (by rw[ht];simp) (by rw[h2];simp)
    by_cases j5:j<i
    ·rw[if_pos (.inr (by rw[hb];simpa using j5))];refine⟨j,by simp,t,l,ht,rfl,λk hk aH=> ?_⟩;rcases Tp.1 hk with hk|hk
     ·have:=h4 k hk aH;omega
     ·rw[T7]at hk;omega
    ·rw[if_neg (by rw[hQ,hb];simpa using j5)];refine⟨i,by simp[h1],t',l',h2,h3,λk hk aH=> ?_⟩;rcases Tp.1 hk with hk|hk
     ·exact h4 k hk aH
     ·rw[T7]at hk;omega
   ·rw[if_pos (.inl (by simpa using hQ))];refine⟨j,by simp,t,l,ht,rfl,λk hk aH=> ?_⟩;rcases Tp.1 hk with hk|hk
    ·have hQf:Q.has=js.any λj=> !(eD x deep j).isEmpty:=aa2 hJ;exfalso;apply hQ;rw[hQf,Vp];refine⟨k,hk,?_⟩;cases hg:eD x deep k with
     |nil=>exact absurd hg aH
     |cons=>rfl
    ·rw[T7]at hk;omega
def Sj{α:Type}{f:Nat->List α}{j:Nat}{t:α}{l:List α}:∀{n:Nat},j<n->f j=t::l->(∀i,i<j->f i=[])->((Tt n).flatMap f).head?=some t
 |0,h,_,_=>absurd h (by omega)
 |n+1,h,hf,h0=>by
  rw[Wr,VN,XN];by_cases hj:j<n
  ·rw[Sj hj hf h0];rfl
  ·have e:j=n:=(by omega);subst e;have:(Tt j).flatMap f=[]:=by
    rw[Wv];intro i hi;exact h0 i (UA.1 hi)
   rw[this];simp[hf]
def K0{α β:Type}{f g:α->List β}:∀(l:List α),(∀a,(f a).head?=(g a).head?)->(l.flatMap f).head?=(l.flatMap g).head?
 |[],_=>rfl
 |a::l,h=>by
  rw[UQ,UQ,XN,XN,h a,K0 l h]
def adL{α:Type}(l:List α):(l.take 1).head?=l.head?:=by cases l<;>rfl
def afs{x:aj}{deep:Int}:(nj x deep).head?=(bx x).head?:=by
 refine K0 _ λh=> ?_;have h1:(vq x h).head?=(oR x h).head?:=K0 _ λns=>adL _;unfold r6;split
 ·rw[adL,h1]
 ·split
  ·exact h1
  ·rfl
def amY{x:aj}{deep:Int}{D:Kn}(hx:x.Ok)(h:eT x deep D)(hh:D.has=true):∃u l,bx x=u::l/\D.first=eK u:=by
 obtain⟨p,js,h1,h2,h3,_⟩:=h;have nL:x.am.toNat=p:=by omega
 have hj:∀j∈js,j<x.am.toNat+1:=λj hj=>by rw[nL];exact UA.1 (h2.mem_iff.1 hj)
 obtain⟨j,a,t,l,b,c,d⟩:=aa1 hx h3 (h2.nodup_iff.2 Y0) hj hh;have hd:((Tt (p+1)).flatMap λj=>eD x deep j).head?=some t:=by
  refine Sj (UA.1 (h2.mem_iff.1 a)) b λi hi=> ?_;cases hg:eD x deep i with
  |nil=>rfl
  |cons v w=>
   have:=d i (h2.mem_iff.2 (UA.2 (by have:=hj j a;omega))) (by rw[hg];simp);omega
 have he:((Tt (p+1)).flatMap λj=>eD x deep j)=(nj x deep).map eK:=by
  unfold nj;rw[<- Ou hx,nL,WW];exact Ch λi hi=>zK hx (by rw[nL];exact UA.1 hi)
 rw[he,List.head?_map,afs]at hd;cases ht:bx x with
 |nil=>rw[ht]at hd;cases hd
 |cons u l=>
  rw[ht]at hd;simp only[au_,VL,Uh]at hd;exact⟨u,l,rfl,by rw[c,hd]⟩
open Go.Conc Go.Proofs
def am3{x:aj}{deep:Int}{D:Kn}(hx:x.Ok)(h:eT x deep D)(hh:D.has=true):ju x D.first:=by
 obtain⟨p,js,h1,h2,h3,_⟩:=h;have hp:=hx.am;have hj:∀j∈js,j<x.am.toNat+1:=λj hj=>by have:=UA.1 (h2.mem_iff.1 hj);omega
 obtain⟨j,a,t,l,b,c,d⟩:=aa1 hx h3 (h2.nodup_iff.2 Y0) hj hh;rw[c];exact Rn (deep:=deep) (j:=j) hx (by have:=hj j a;omega) (by rw[b];simp)
namespace Tk
def sJ (x:aj)(t:SD)(i:Nat):SD:=(Tt i).map λp=>t.getD (4+p) 0+x.first
def sK (t:SD)(i:Nat):SD:=(Tt i).map λs=>t.getD (8+s) 0
def ajD(x:aj)(t:SD)(i:Nat):sJ x t (i+1)=sJ x t i++[t.getD (4+i) 0+x.first]:=by
 unfold sJ;rw[Wr,UJ];rfl
def ajF(t:SD)(i:Nat):sK t (i+1)=sK t i++[t.getD (8+i) 0]:=by
 unfold sK;rw[Wr,UJ];rfl
def ajC(x:aj)(t:SD)(i:Nat):(sJ x t i).length=i:=by simp[sJ]
def ajE(t:SD)(i:Nat):(sK t i).length=i:=by simp[sK]
end Tk
def atx{a a' b b' c c' d d':AV}(h1:Wk a a')(h2:Wk b b')(h3:Wk c c')(h4:Wk d d'):Wk (.aF [a,b,c,d]) (.aF [a',b',c',d']):=λE v h=>by
 cases h with
 |aF hs h=>
  refine .aF hs λi x e=> ?_
  match i with
  |0=>cases e;exact h1 _ _ (h 0 a rfl)
  |1=>cases e;exact h2 _ _ (h 1 b rfl)
  |2=>cases e;exact h3 _ _ (h 2 c rfl)
  |3=>cases e;exact h4 _ _ (h 3 d rfl)
section
variable {lv:Bool}{H:SA}{k kp:SF}
def ai8{x:aj}(hx:x.Ok)(hm:H[0]?=some .main)(hk:∀D,eT x 0 D->(D.has=false->k (.aF [bp [],bp [],bp [],iv 11]) H)/\(D.has=true->k (.aF [bp (D.first.take (x.hours.toNat+1)),bp (sJ x D.first x.pieces.length),bp (sK D.first x.aC.length),iv 0]) H)):a_ true ij 35 H [x.av] k kp:=by
 refine bw (rs:=[.tmp 2,.tmp 3,.tmp 4,.tmp 5]) (nt:=64) Tryz.f35 λhH hA=> ?_;simp only[bc,To,aj.av];have hp:=hx.am;have hh:=hx.hours;have mT:=hx.cW;have aT:=hx.eG;have jy:=hx.first;obtain⟨p,gU⟩:∃p:Nat,x.am=p:=⟨x.am.toNat,by omega⟩;refine ai ?_;refine ah ?_;simp only[seval,TN,TP,TQ];refine aK (xF (x:=x) hx gU (dF hm) EZ (λh=>by cases h) λ_ js D L mp gS iS dS ry hg=> ?_);have ov:eT x 0 D:=⟨p,js,gU,gS,iS,dS⟩;have eE:=Kn.len dS mp;have j7:=tz D mp;obtain⟨iD,cH⟩:=hk D ov;obtain⟨Y,hY⟩:∃Y:SA,Y=[aa.cells x.l 25]++L:=⟨_,rfl⟩;obtain⟨B,hB⟩:∃B,B=H++Y:=⟨_,rfl⟩;have o0:H++[aa.cells x.l 25]++L=B:=by rw[hB,hY,Ax]
 have z8:∀(L':SA),(B++L')[H.length]?=some (.cells x.l 25):=λL'=>by rw[hB,hY,Ax,TN];rfl
 have bn:∀(L':SA)(j:Nat),(B++L')[B.length+j]?=L'[j]?:=λL' j=>aS B L' j;have vP:∀(L':SA)(j:Nat)(y:aa),(B++L').set (B.length+j) y=B++L'.set j y:=λL' j y=>dg B L' j y;have eQ:∀(L':SA)(l1 l2 l3:SD)(e e' Ql:End)(m:Int),k (.aF [bp l1,bp l2,bp l3,iv m]) H->bY H.length (B++L') (.aF [.sl l1.length (l1.map iv) e,.sl l2.length (l2.map iv) e',.sl l3.length (l3.map iv) Ql,iv m]) k:=λL' l1 l2 l3 e e' Ql m h=>by
  rw[hB,Ax];exact eV hH (atx (gF _ _ _) (gF _ _ _) (gF _ _ _) (Wk.refl _)) (by simp[im,dN,bp,u6]) h
 rw[o0];clear o0 hg;(try simp only[seval,aj.av,TP,eE]);refine⟨vd x,j7,?_⟩;cases iQ:D.has with
 |false=>
  have hE:eC D=11:=by rw[eC,iQ];rfl
  refine ah ?_;simp only[seval,hE,show ((11:Int)!=0)=true from rfl];refine aA ?_;refine ai ?_;refine aP ?_;exact eQ _ [] [] [] .exact .exact .exact 11 (iD iQ)
 |true=>
  have hE:eC D=0:=by rw[eC,iQ];rfl
  have cH:=cH iQ;have qw:=am3 hx ov iQ;obtain⟨t,ht⟩:∃t,t=D.first:=⟨_,rfl⟩;rw[<- ht]at qw cH;have qv:=qw.len;obtain⟨pre,aad,KT⟩:∃pre:SC,pre.length=17/\D.l mp=pre++(t.map iv++[]):=⟨bv D.has:: .mp mp::(D.aB.map (λn=>wv n)++(D.hours.map (λn=>wv n)++(D.less.map (λn=>wv n)++D.aY.map (λn=>wv n)))),by simp[dS.aB,dS.hours,dS.less,dS.aY],by rw[ht];simp[Kn.l]⟩;obtain⟨n,hn⟩:∃n:Nat,x.hours=n:=⟨x.hours.toNat,by omega⟩;have pk:x.hours+1=((n+1:Nat):Int):=by omega
  have bH:Tc.wrap (x.hours+1)=((n+1:Nat):Int):=by rw[bF _ (by omega)];exact pk
  have bA:Vv 1 x.l=[iv x.hours,iv x.am,cz x.seen,aQ x.pieces,aQ x.aC]:=rfl;have Ab:Vv 4 x.l=[.sl x.pieces.length (x.pieces.flatMap aD.l) .shut,.sl x.aC.length (x.aC.flatMap aD.l) .shut]:=rfl;refine ah ?_;simp only[seval,hE,show ((0:Int)!=0)=false from rfl];refine aA ?_;refine aL ?_;have B5:∀(L':SA),(B++L')[B.length+1]?=L'[1]?:=λL'=>bn L' 1;have zl:∀(L':SA),(B++L')[B.length+2]?=L'[2]?:=λL'=>bn L' 2;have uc:∀(L':SA)(y:aa),(B++L').set (B.length+2) y=B++L'.set 2 y:=λL' y=>vP L' 2 y;have bn3:∀(L':SA),(B++L')[B.length+3]?=L'[3]?:=λL'=>bn L' 3;have bs3:∀(L':SA)(y:aa),(B++L').set (B.length+3) y=B++L'.set 3 y:=λL' y=>vP L' 3 y;have bn4:∀(L':SA),(B++L')[B.length+4]?=L'[4]?:=λL'=>bn L' 4;have bs4:∀(L':SA)(y:aa),(B++L').set (B.length+4) y=B++L'.set 4 y:=λL' y=>vP L' 4 y;refine ah ?_;simp only[seval,z8,bA,bH,aeo];refine⟨by omega,by omega,?_⟩;have sT:(D.l mp).drop 17=t.map iv:=by rw[KT,Tu,Xq (by omega),XW (by omega),Vo]
  have amx:((n:Int)+1).toNat=n+1:=by omega
  have lL:min 4 (n+1)=n+1:=by omega
  have C4:min 4 11=4:=rfl;have aal:min (n+1) 4=n+1:=by omega
  have aV:VC (n+1) (VC 4 (Wh iv t))++Vv (n+1) (Wh iv (UE (n+1) 0))=(t.take (n+1)).map iv:=by rw[Wi,aal,XW (by simp),Tu,W7]
  refine ah ?_;simp only[seval,sT,amx,lL,C4,qv,aal,U_,ZG,B5,zl,uc];refine⟨by rw[<- W7];exact of_eq_true (abd _),?_⟩;rw[aV];obtain⟨tl,Mb⟩:∃tl,tl=t.take (n+1):=⟨_,rfl⟩;have aaO:tl.length=n+1:=by rw[Mb,U_];omega
  have uJ:x.hours.toNat=n:=by omega
  rw[uJ,<- Mb]at cH;rw[<- Mb]
  (repeat apply iA);refine I6 (id:=B.length+2) (by simp only[seval,zl]<;>rfl) ?_
  simp only[seval,uc,aaO]
  (repeat apply iA);refine Pu (t:=2) (y:=bp tl) (by simp only[seval]<;>rfl) ?_ ?_
  ·have e:bp tl=.sl (n+1) ((tl.map iv).take (n+1)) .shut:=by
    rw[Tn (by simp;omega),bp,aaO]
   rw[e];exact On (p:=n+1) (by simp only[seval,zl]<;>rfl) (by omega) (by simp;omega)
  (repeat apply iA);refine vK (t:=3) (sz:=1) (el:=3) (by simp only[seval]<;>rfl) ?_
  refine ah ?_;simp only[seval,z8,Ab];obtain⟨gl,mR⟩:∃gl:Nat->SD,∀i,gl i=sJ x t i:=⟨_,λ_=>rfl⟩;have CV:gl 0=[]:=by rw[mR];rfl
  have Ld:∀i,(gl i).length=i:=λi=>by rw[mR];exact ajC _ _ _
  refine b_ ?_;refine fS x.pieces.length (λi:Nat=>[(3,.sl (gl i).length ((gl i).map iv) (.opn (B.length+3))),(31,iv i)]) (λi=>B++[.cells x.l 73,.cells (D.l mp) 85,.part (n+1) (tl.map iv) 3,.tail (gl i).length 1 3]) (λi=>True) (λ_ _=>rfl) (by rw[CV];simp only[seval];simp[bP,Wk.refl]) (by rw[CV];rfl) (λ_ _ _=>by simp) trivial (λbX cU i cK _ R hR=> ?_);refine ai ?_;refine aA ?_;refine⟨λh=> ?_,λh=> ?_⟩
  ·have bG:i<x.pieces.length:=(by omega);obtain⟨v,hv,hv9,_⟩:=qw.num i bG;have CX:t.getD (4+i) 0=v:=(by rw[Se,hv];rfl);have b3:(0<=(i:Int)/\(i:Int)<4)=True:=(by simp;omega);have fW:=TL i (by omega);have Do:Tc.wrap ((v:Int)+x.first)=v+x.first:=bF _ (by omega);have CP:(D.l mp).drop (21+i)=iv v::((t.drop (4+i+1)).map iv++[]):=by
    have:=Fy KT aad hv;rw[show 21+i=17+(4+i) by omega];exact this
   have c_:gl (i+1)=gl i++[(v:Int)+x.first]:=(by rw[mR,mR,ajD,CX]);have hli:=Ld i;refine aL ?_;refine ai ?_;refine eo 10 ?_;simp only[seval,z1,z8,B5,b3,CP,Do,TM,bn3,bs3]
   first|refine⟨by decide,by omega,?_⟩|refine⟨by omega,?_⟩
   refine ah ?_;simp only[seval,fW];refine hR _ ⟨bG,trivial,?_⟩;rw[c_,UJ,Tx];exact dp
  ·have dx:i=x.pieces.length:=(by omega);subst dx;clear hR;refine bT ?_
   (repeat apply iA);refine vK (t:=4) (sz:=1) (el:=3) (by simp only[seval]<;>rfl) ?_
   have GU:(gl x.pieces.length)=sJ x t x.pieces.length:=mR _;generalize gl x.pieces.length=nl at GU⊢;refine ah ?_;simp only[seval,z8,TZ];obtain⟨go,hgo⟩:∃go:Nat->SD,∀i,go i=sK t i:=⟨_,λ_=>rfl⟩;have Sn:go 0=[]:=(by rw[hgo];rfl);have alo:∀i,(go i).length=i:=λi=>(by rw[hgo];exact ajE _ _);refine b_ ?_;refine fS x.aC.length (λi:Nat=>[(4,.sl (go i).length ((go i).map iv) (.opn (B.length+4))),(49,iv i)]) (λi=>B++[.cells x.l 73,.cells (D.l mp) 85,.part (n+1) (tl.map iv) 3,.tail nl.length 1 3,.tail (go i).length 1 3]) (λi=>True) (λ_ _=>rfl) (by rw[Sn];simp only[seval];simp[bP,Wk.refl]) (by rw[Sn];rfl) (λ_ _ _=>by simp) trivial (λbX cU i cK _ R hR=> ?_);refine ai ?_;refine aA ?_;refine⟨λh=> ?_,λh=> ?_⟩
   ·have bG:i<x.aC.length:=(by omega);obtain⟨v,hv,hv9⟩:=qw.own i bG;have CX:t.getD (8+i) 0=v:=(by rw[Se,hv];rfl);have b3:(0<=(i:Int)/\(i:Int)<3)=True:=(by simp;omega);have fW:=TL i (by omega);have CP:(D.l mp).drop (25+i)=iv v::((t.drop (8+i+1)).map iv++[]):=by
     have:=Fy KT aad hv;rw[show 25+i=17+(8+i) by omega];exact this
    have c_:go (i+1)=go i++[(v:Int)]:=(by rw[hgo,hgo,ajF,CX]);have hli:=alo i;refine aL ?_;refine ai ?_;refine ah ?_;simp only[seval,z1,B5,b3,CP,bn4,bs4]
    first|refine⟨by decide,by omega,?_⟩|refine⟨by omega,?_⟩
    refine ah ?_;simp only[seval,fW];refine hR _ ⟨bG,trivial,?_⟩;rw[c_,UJ,Tx];exact dp
   ·have dx:i=x.aC.length:=(by omega);subst dx;clear hR;refine bT ?_;have hxo:(go x.aC.length)=sK t x.aC.length:=hgo _;generalize go x.aC.length=ol at hxo⊢;refine ai ?_;refine aP ?_;rw[<- GU,<- hxo]at cH;exact eQ _ tl nl ol .shut _ _ 0 cH
end
open Go.Conc Go.Proofs Go.Gg.Tk
namespace Tk
def abK (n:Int)(o k:Int):Int:=yu [o,max (k-n) (n-k)]
def DT (l:SD)(n:Int)(o:Int):Int:=l.foldl (abK n) o
def qS (own q:Nat)(m:Int×Nat)(t:SD):Int×Nat:=if m.2.testBit (mz t q)then m else(DT (fB own 0 16) (mz t q) m.1,m.2|||2^mz t q)
def vE (x:aj)(y:aD)(q:Nat)(o:Int)(h:SD):Int:=if ce h y=0 then o else((iI x 1 h).foldl (qS (ce h y) q) (o,0)).1
def zh (x:aj)(y:aD)(q:Nat):Nat->Int
 |0=> -1
 |i+1=>(j6 x i).foldl (vE x y q) (zh x y q i)
def I1 (x:aj)(i:Nat):SA:=[.cells x.l 73,.cells [iv i] 3,.obj (.deferred (some [])),.gone]
def oX (x:aj):Nat->SA
 |0=>[]
 |i+1=>oX x i++I1 x i
def xk (n:Nat):Nat->SE
 |0=>[]
 |i+1=>(n+4* i+2)::xk n i
def I2(x:aj):∀i,(oX x i).length=4* i
 |0=>rfl
 |i+1=>by rw[oX,Tx,I2 x i];rfl
def Pb(x:aj)(B:SA):∀(i:Nat)(L:SA),∃Y,iL (xk B.length i) (B++oX x i++L)=some (B++Y)
 |0,L=>⟨oX x 0++L,by rw[xk,zM,Ax]⟩
 |i+1,L=>by
  have hl:(B++oX x i).length=B.length+4* i:=by rw[Tx,I2]
  have e:B++oX x (i+1)++L=(B++oX x i)++(I1 x i++L):=by rw[oX];simp
  have hg:((B++oX x i)++(I1 x i++L))[B.length+4* i+2]?=some (.obj (.deferred (some []))):=by rw[<- hl,aS];rfl
  obtain⟨Y,hY⟩:=Pb x B i ([.cells x.l 73,.cells [iv i] 3,.gone,.gone]++L);refine⟨Y,?_⟩;rw[xk,e,zL hg,<- hl,dg];exact hY
end Tk
def ago{lv:Bool}{P:Tg}{nt:Nat}{c:UX}{s:AS}{ms:SE}{Φ:SN}(h:ki lv P nt [] c s ms Φ):mC lv P nt c s ms Φ:=λE V a Q ak hd hQ=>
 h E V a Q ak ⟨by rw[Tu];exact hd.1,hd.2⟩ λae e E' V' a' s' cI hk aU cF he hΦ=>hQ ae e E' V' a' s' cI hk aU ⟨by have:=cF.1;rwa[Tu]at this,cF.2⟩ he hΦ
section
variable {lv:Bool}{H:SA}{k kp:SF}
def ai4{x:aj}{s q:Nat}{y:aD}(hx:x.Ok)(hs:x.aC[s]?=some y)(hq:q<x.pieces.length)(hm:H[0]?=some .main)(hk:∀o:Int,o=zh (x.wo [(s:Int)]) y q (x.am.toNat+1)->k (.aF [iv (if o<0 then 0 else o),iv (if o<0 then 11 else 0)]) H):a_ lv ij 27 H [x.av,iv s,iv q] k kp:=by
 refine Q4 (rs:=[.tmp 6,.tmp 7]) (nt:=97) F.f27 rfl rfl rfl (by simp) λhH hA=> ?_;simp only[bc,To,aj.av];have hp:=hx.am;have aT:=hx.eG;have mT:=hx.cW;have dQ:=ep hs;have nK:=acn hq;obtain⟨p,gU⟩:∃p:Nat,x.am=p:=⟨x.am.toNat,by omega⟩;obtain⟨w,hw⟩:∃w,w=x.wo [(s:Int)]:=⟨_,rfl⟩;have Mi:w.Ok:=by rw[hw];exact hx.wo _
 have uA:∀(L:SA),(H++L)[H.length+5]?=L[5]?:=λL=>aS H L 5;have Au:∀(L:SA)(y:aa),(H++L).set (H.length+5) y=H++L.set 5 y:=λL y=>dg H L 5 y;have hd6:∀(L:SA),(H++L)[H.length+6]?=L[6]?:=λL=>aS H L 6;have hs6:∀(L:SA)(y:aa),(H++L).set (H.length+6) y=H++L.set 6 y:=λL y=>dg H L 6 y;have CO:Vv 2 x.l=[iv x.am,cz x.seen,aQ x.pieces,aQ x.aC]:=rfl;have FS:(1<=2^24)=True:=eq_true (by decide);(try refine nm ?_);refine ai ?_;(try refine nm ?_);refine ah ?_;simp only[seval,TN,TP,TQ];refine aK (zC (x:=x) (dF hm) ?_);rw[ud.2 hx];(try simp only[seval]);(try refine nm ?_);refine ah ?_;simp only[seval,show ((0:Int)!=0)=false from rfl];(try refine nm ?_);refine aA ?_;refine aL ?_;(try refine nm ?_);refine ah ?_;simp only[seval,z1,FS,TN,TR,TP,TQ];refine aK (FE (x:=x) (ns:=[(q:Int)]) ?_);have bH:Tc.wrap ((x.aC.length:Int)-1)=(x.aC.length:Int)-1:=bF _ (by omega);have oH:(decide ((s:Int)<0)||decide ((s:Int)>(x.aC.length:Int)-1))=false:=by simp;omega
 (try simp only[seval]);refine aK (FB (x:=x) (ns:=[(q:Int)]) (e:=.exact) (il:=H.length+4) (ir:=H.length+3) hx (by simp) (by rw[TV];rfl) (by rw[TV];rfl) ?_);rw[nK];(try simp only[seval,TN,TO,TZ,bH]);refine aK (sI (n:=s) (lo:=0) (hi:=(x.aC.length:Int)-1) ?_);rw[oH];(try simp only[seval]);(try refine nm ?_);refine aA ?_;refine aL ?_;(try refine nm ?_);have akJ:tO [(s:Int)] x.aC.length:=λi n hn=>by
  match i,hn with
  |0,hn=>cases hn;simp;omega
 refine ah ?_;simp only[seval,z1,FS,TN,TO,TP,TQ];refine aK (QK (x:=x) (ns:=[(s:Int)]) aT akJ ?_);rw[<- hw];have rJ:w.l.length=6:=rfl;have uP:VC 6 w.l=w.l:=rfl;have hlw:w.l=[iv w.first,iv w.hours,iv w.am,cz w.seen,aQ w.pieces,aQ w.aC]:=rfl;have Ml:Vv 6 [AV.val (S_ Tc 0),AV.val (S_ Tc 0),AV.val (S_ Tc 0),AV.sl 0 [] .exact,AV.sl 0 [] .exact,AV.sl 0 [] .exact]=[]:=rfl;(try simp only[seval,aj.av,rJ,uP,uA,Au,hd6,hs6,Ml]);refine⟨vd w,?_⟩;have fj:Tc.wrap (x.am+1)=((p+1:Nat):Int):=by rw[gU,bF _ (by omega)];rfl
 refine I9 ?_;refine nm ?_;refine ah ?_;simp only[seval,TN,CO,fj];obtain⟨Bo,q_⟩:∃Bo:Int->SA,∀o,Bo o=H++[.cells x.l 25,.cells [iv s] 3,.cells [iv q] 3,.cells x.l 25,.cells [.sl 1 [iv q] .exact] 30,.cells w.l 73,.cells [iv o] 3]:=⟨_,λ_=>rfl⟩;have fV:∀o,(Bo o).length=H.length+7:=λo=>by rw[q_];simp
 have b0:∀o L,(Bo o++L)[H.length]?=some (.cells x.l 25):=λo L=>by rw[q_,Ax,TN];rfl
 have b1:∀o L,(Bo o++L)[H.length+1]?=some (.cells [iv s] 3):=λo L=>by rw[q_,Ax,TV];rfl
 have b2:∀o L,(Bo o++L)[H.length+2]?=some (.cells [iv q] 3):=λo L=>by rw[q_,Ax,TV];rfl
 have b5:∀o L,(Bo o++L)[H.length+5]?=some (.cells w.l 73):=λo L=>by rw[q_,Ax,TV];rfl
 have b6:∀o L,(Bo o++L)[H.length+6]?=some (.cells [iv o] 3):=λo L=>by rw[q_,Ax,TV];rfl
 have s6:∀o o' L,(Bo o++L).set (H.length+6) (.cells [iv o'] 3)=Bo o'++L:=λo o' L=>by rw[q_,q_,Ax,Ax,TY];rfl
 obtain⟨fo,wj⟩:∃fo:Nat->Int,∀i,fo i=zh w y q i:=⟨_,λ_=>rfl⟩;refine ago ?_;refine xo ?_;refine Pw (measure λi=>p+1-i).wf (λi:Nat=>⟨[(45,iv i),(44,iv ((p+1:Nat):Int)),(3,.op H.length 0),(4,.op (H.length+1) 0),(5,.op (H.length+2) 0),(9,.op (H.length+5) 0),(10,.op (H.length+6) 0)],Bo (fo i)++oX w i⟩) (λi=>xk (H.length+7) i) (λi=>i<=p+1) 0 (fN (by simp only[seval];simp[bP,Wk.refl]) (by rw[q_,wj];show _=_++[];rw[Tu];rfl)) rfl (by omega) λi oB=> ?_;obtain⟨N,hN⟩:∃N,N=H.length+7+4* i:=⟨_,rfl⟩;obtain⟨AO,p8⟩:∃AO:Int->SA,∀o,AO o=Bo o++oX w i:=⟨_,λ_=>rfl⟩;have p9:∀o,(AO o).length=N:=λo=>by rw[p8,Tx,fV,I2,hN]
 have a0:∀o L,(AO o++L)[H.length]?=some (.cells x.l 25):=λo L=>by rw[p8,Ax];exact b0 _ _
 have a1:∀o L,(AO o++L)[H.length+1]?=some (.cells [iv s] 3):=λo L=>by rw[p8,Ax];exact b1 _ _
 have a2:∀o L,(AO o++L)[H.length+2]?=some (.cells [iv q] 3):=λo L=>by rw[p8,Ax];exact b2 _ _
 have a5:∀o L,(AO o++L)[H.length+5]?=some (.cells w.l 73):=λo L=>by rw[p8,Ax];exact b5 _ _
 have a50:∀o,(AO o)[H.length+5]?=some (.cells w.l 73):=λo=>by have:=a5 o [];rwa[Tu]at this
 have a6:∀o L,(AO o++L)[H.length+6]?=some (.cells [iv o] 3):=λo L=>by rw[p8,Ax];exact b6 _ _
 have as6:∀o o' L,(AO o++L).set (H.length+6) (.cells [iv o'] 3)=AO o'++L:=λo o' L=>by rw[p8,p8,Ax,Ax];exact s6 _ _ _
 have ag:∀o (L:SA)(j:Nat),(AO o++L)[N+j]?=L[j]?:=λo L j=>by rw[<- p9 o,aS]
 have tZ:∀o (L:SA)(j:Nat)(y:aa),(AO o++L).set (N+j) y=AO o++L.set j y:=λo L j y=>by rw[<- p9 o,dg]
 have Ng:∀m o o',(∀z∈AO o,eU m z)->∀z∈AO o',eU m z:=λm o o' hz z e9=>by
  rw[p8,q_]at hz e9;simp only[Tp]at e9;rcases e9 with(h'|h')|h'
  ·exact hz z (by simp[h'])
  ·simp only[Th,Tv,or_false]at h';rcases h' with rfl|rfl|rfl|rfl|rfl|rfl|rfl
   ·exact hz _ (by simp)
   ·exact hz _ (by simp)
   ·exact hz _ (by simp)
   ·exact hz _ (by simp)
   ·exact hz _ (by simp)
   ·exact hz _ (by simp)
   ·intro a ha;rw[T7]at ha;subst ha;exact .val _
  ·exact hz z (by simp[h'])
 have okX:∀(X:SA) o o',bO (AO o++X)->bO (AO o'++X):=λX o o' hX z hz=>by
  have hlen:(AO o'++X).length=(AO o++X).length:=by simp[p9]
  rw[hlen];rcases Tp.1 hz with h'|h'
  ·exact Ng _ o o' (λz hz=>hX z (Ue _ hz)) z h'
  ·exact hX z (T1 _ h')
 rw[<- p8];refine sC ?_;refine ai ?_;refine sC ?_;refine aA ?_;refine⟨λhc=> ?_,λhc=> ?_⟩
 ·have qf:i<=3:=by omega
  have Ku:=Ek Mi i qf;refine aL ?_;refine Fc ?_;refine xo ?_;refine sC ?_;refine ai ?_;refine sC ?_;refine ah ?_;simp only[seval,a50,hlw];refine aK (JZ (x:=w) (n:=i) ?_);rw[p9];(try simp only[seval]);refine xo ?_;refine I_ (by rfl) λl fn T O7 bo hT xN qb=> ?_;(try simp only[seval]);rw[p9];have hY:jH lv ij (.fn (.yield l) [] []) (λo h=> .go (vE w y q o h)) (λo=>AO o++[.cells w.l 73,.cells [iv i] 3,.obj (.deferred (some [])),.loop l .ready none fn T 97 #[51] O7 bo (N+2)]) (N+4) (λ_=>True) (λh=>mD h/\∀ns∈f_ w h,∀a∈(iq w h ns).map (dC h ns),ju w a) (.aF []):=by
   refine⟨λo h M k kp _ ha dG=> ?_,λ_ _ _ _ _ _=>trivial,λo=>by simp[p9],λm o o' hz z e9=> ?_,rfl,rfl,rfl⟩
   ·obtain⟨pc,Dk⟩:=ha;have h4:=pc.len;have nA:(h.map iv).length=4:=(by rw[Un,h4]);simp only[cX]at dG;obtain⟨Lo,kY⟩:∃Lo,Lo=aa.loop l .busy none fn T 97 #[51] O7 bo (N+2):=⟨_,rfl⟩;obtain⟨C,hC⟩:∃C,C=N+4+M.length:=⟨_,rfl⟩;obtain⟨P1,dt⟩:∃P1:Int->SA,∀o,P1 o=AO o++([.cells w.l 73,.cells [iv i] 3,.obj (.deferred (some [])),Lo]++M):=⟨_,λ_=>rfl⟩;have ey:∀o,(P1 o).length=C:=λo=>(by rw[dt,hC];simp[p9];omega);have p0:∀o L,(P1 o++L)[H.length]?=some (.cells x.l 25):=λo L=>(by rw[dt,Ax];exact a0 _ _);have p1:∀o L,(P1 o++L)[H.length+1]?=some (.cells [iv s] 3):=λo L=>(by rw[dt,Ax];exact a1 _ _);have p2:∀o L,(P1 o++L)[H.length+2]?=some (.cells [iv q] 3):=λo L=>(by rw[dt,Ax];exact a2 _ _);have p5:∀o L,(P1 o++L)[H.length+5]?=some (.cells w.l 73):=λo L=>(by rw[dt,Ax];exact a5 _ _);have p6:∀o L,(P1 o++L)[H.length+6]?=some (.cells [iv o] 3):=λo L=>(by rw[dt,Ax];exact a6 _ _);have ps6:∀o o' L,(P1 o++L).set (H.length+6) (.cells [iv o'] 3)=P1 o'++L:=λo o' L=>(by rw[dt o,dt o',Ax (AO o),Ax (AO o')];exact as6 _ _ _);have Nr:∀o L,(P1 o++L)[N+3]?=some Lo:=λo L=>(by rw[dt,Ax,ag];rfl);have NK:∀o (L:SA) y,(P1 o++L).set (N+3) y=AO o++([.cells w.l 73,.cells [iv i] 3,.obj (.deferred (some [])),y]++M)++L:=λo L y=>(by rw[dt,Ax,tZ];simp);have pb:∀o (L:SA)(j:Nat),(P1 o++L)[C+j]?=L[j]?:=λo L j=>(by rw[<- ey o,aS]);have wN:∀o (L:SA),(P1 o++L)[C]?=L[0]?:=λo L=>pb o L 0;have pb1:∀o (L:SA),(P1 o++L)[C+1]?=L[1]?:=λo L=>pb o L 1;have pb2:∀o (L:SA),(P1 o++L)[C+2]?=L[2]?:=λo L=>pb o L 2;have A0:∀o (L:SA)(j:Nat)(y:aa),(P1 o++L).set (C+j) y=P1 o++L.set j y:=λo L j y=>(by rw[<- ey o,dg]);have ps1:∀o (L:SA)(y:aa),(P1 o++L).set (C+1) y=P1 o++L.set 1 y:=λo L y=>A0 o L 1 y;have ps2:∀o (L:SA)(y:aa),(P1 o++L).set (C+2) y=P1 o++L.set 2 y:=λo L y=>A0 o L 2 y;have AN:∀m o o',(∀z∈P1 o,eU m z)->∀z∈P1 o',eU m z:=λm o o' hz z e9=>by
     rw[dt]at hz e9;rcases Tp.1 e9 with h'|h'
     ·exact Ng m o o' (λz uR=>hz z (Ue _ uR)) z h'
     ·exact hz z (T1 _ h')
    subst hT xN qb;rw[Ax];refine vR (id:=N+3) (by rw[ag];rfl) rfl (by kernel_rfl) λou Kv=> ?_;simp only[se];have we:Vv 4 [iv 0,iv 0,iv 0,iv 0]=[]:=rfl;refine ah ?_;simp only[seval,h4,we];unfold tW;refine⟨none,fn,_,97,#[51],_,_,_,by rw[ag];rfl,?_⟩;dsimp only;rw[tZ];simp only[Vg,UP];rw[<- kY];have xJ:(AO o).length+(M.length+1+1+1+1)=C:=(by rw[p9,hC];omega);rw[xJ];have xX:∀z:aa,(AO o++aa.cells w.l 73::aa.cells [AV.val (S_ Tc ↑i)] 3::aa.obj (ac' (some []))::Lo::(M++[z]))=P1 o++[z]:=λz=>(by rw[dt];simp[iv]);rw[xX];obtain⟨own,jg⟩:∃own,own=ce h y:=⟨_,rfl⟩;refine b_ ?_;refine oY [7,8] (Tt 9) (λD=>bif isDone 8 D then P1 o++[.cells (h.map iv) 80,.cells [wv own] 76]else bif isDone 7 D then P1 o++[.cells (h.map iv) 80,.cells [.val (.int .u16 0)] 76]else P1 o++[.cells (h.map iv) 80]) ?_;simp only[seval,ey,wN,pb1,ps1,p0,p1,h4,nA,TZ,Ba hs,iB dQ];have hmE:VC 4 (Wh (λn=>AV.val (S_ Tc n)) h)=h.map iv:=Tn (by rw[nA];exact Tm _);rw[hmE];refine gE (wv own) (cO (FF (h:=h) (y:=y) pc ⟨by rw[jg],rfl⟩)) ?_;refine⟨gE (wv own) (cO (FF (h:=h) (y:=y) pc ⟨by rw[jg],rfl⟩)) rfl,?_⟩;(try simp only[seval,wv]);have hm3:Wh (λn=>AV.val (S_ Tc n)) h=h.map iv:=rfl;rw[hm3];refine ah ?_;simp only[seval,pb1];refine aA ?_;refine⟨λhz=> ?_,λhz=> ?_⟩
    ·refine bT ?_;have e9:own=0:=(by simpa using hz);have e1:vE w y q o h=o:=(by unfold vE;rw[<- jg,if_pos e9]);rw[e1]at dG;show oV _ _ _ _ _ _ _;refine⟨l,.busy,none,fn,_,97,#[51],_,_,N+2,by show (P1 _++_)[_]?=_;rw[Nr,kY],?_⟩;show bY C ((P1 _++_).set _ _) _ k;rw[NK];rw[Ax]at dG;exact iK (G:=[.cells (h.map iv) 80,.cells [wv own] 76]) (Wk.refl _) rfl (by rw[hC];simp[p9];omega) ou (.val _) dG
    ·refine aL ?_;refine ah ?_;simp only[seval,ey];refine ah ?_;simp only[seval,p5,wN,hlw,h4,nA];have alD:VC 4 (Wh iv h)=h.map iv:=Tn (by rw[nA];exact Tm _);rw[alD];refine aK (J3 (x:=w) (h:=h) (deep:=1) ?_);(try simp only[seval]);have e9:own≠0:=(by simpa using hz);have alP:own<65536:=by
      rw[jg];have:ce h y<2^9:=Ff;omega
     refine b_ ?_;refine Fa (N+3) (by rfl) (by show (P1 _++_)[N+3]?=_;rw[Nr,kY]) λl2 eP T2 gI gJ ow xO xQ=> ?_;simp only[seval];rw[ey]at ow⊢;have okm:∀v m m',(∀z∈[aa.cells (h.map iv) 80,.cells [wv own] 76,.cells [wv m] 76,.cells w.l 73,.cells (h.map iv) 80,.cells [iv 1] 3,.loop l2 .ready none eP T2 97 #[64] gI gJ (N+2)],eU v z)->∀z∈[aa.cells (h.map iv) 80,.cells [wv own] 76,.cells [wv m'] 76,.cells w.l 73,.cells (h.map iv) 80,.cells [iv 1] 3,.loop l2 .ready none eP T2 97 #[64] gI gJ (N+2)],eU v z:=λv m m' hz z e9=>by
      simp only[Th,Tv,or_false]at e9;rcases e9 with rfl|rfl|rfl|rfl|rfl|rfl|rfl
      ·exact hz _ (by simp)
      ·exact hz _ (by simp)
      ·intro a ha;rw[T7]at ha;subst ha;exact .val _
      ·exact hz _ (by simp)
      ·exact hz _ (by simp)
      ·exact hz _ (by simp)
      ·exact hz (.loop l2 .ready none eP T2 97 #[64] gI gJ (N+2)) (by simp)
     have xM:jH lv ij (.fn (.yield l2) [] []) (λm t=> .go (qS own q m t)) (λm:Int×Nat=>P1 m.1++[.cells (h.map iv) 80,.cells [wv own] 76,.cells [wv m.2] 76,.cells w.l 73,.cells (h.map iv) 80,.cells [iv 1] 3,.loop l2 .ready none eP T2 97 #[64] gI gJ (N+2)]) (C+7) (λm=>m.2<65536) (ju w) (.aF []):=by
      refine⟨λm t M2 k2 yq hm ht lh=> ?_,λm t m' hm ht he=> ?_,λm=>by simp[ey],λv m m' hz z e9=> ?_,rfl,rfl,rfl⟩
      ·obtain⟨o2,met⟩:=m;replace hm:met<65536:=hm;have qv:=ht.len;have AA:(t.map iv).length=11:=(by rw[Un,qv]);simp only[cX]at lh;have GQ:w.pieces.length=x.pieces.length:=(by rw[hw];rfl);obtain⟨n,lQ,hn9,_⟩:=ht.num q (by rw[GQ];exact hq);have GH:mz t q=n:=(by unfold mz;rw[Se,lQ];rfl);obtain⟨pN,sM⟩:∃Lo,Lo=aa.loop l2 .busy none eP T2 97 #[64] gI gJ (N+2):=⟨_,rfl⟩;obtain⟨D,hD⟩:∃D,D=C+7+M2.length:=⟨_,rfl⟩;obtain⟨Q1,gp⟩:∃Q1:Int->Nat->SA,∀o m,Q1 o m=P1 o++([.cells (h.map iv) 80,.cells [wv own] 76,.cells [wv m] 76,.cells w.l 73,.cells (h.map iv) 80,.cells [iv 1] 3,pN]++M2):=⟨_,λ_ _=>rfl⟩;have RE:∀o m,(Q1 o m).length=D:=λo m=>(by rw[gp,hD];simp[ey];omega);have q2:∀o m L,(Q1 o m++L)[H.length+2]?=some (.cells [iv q] 3):=λo m L=>(by rw[gp,Ax];exact p2 _ _);have q6:∀o m L,(Q1 o m++L)[H.length+6]?=some (.cells [iv o] 3):=λo m L=>(by rw[gp,Ax];exact p6 _ _);have qs6:∀o o' m L,(Q1 o m++L).set (H.length+6) (.cells [iv o'] 3)=Q1 o' m++L:=λo o' m L=>(by rw[gp o,gp o',Ax (P1 o),Ax (P1 o')];exact ps6 _ _ _);have qo:∀o m L,(Q1 o m++L)[C+1]?=some (.cells [wv own] 76):=λo m L=>(by rw[gp,Ax,pb];rfl);have qm:∀o m L,(Q1 o m++L)[C+2]?=some (.cells [wv m] 76):=λo m L=>(by rw[gp,Ax,pb];rfl);have qsm:∀o m m' L,(Q1 o m++L).set (C+2) (.cells [wv m'] 76)=Q1 o m'++L:=λo m m' L=>(by rw[gp o m,gp o m',Ax (P1 o),A0,Ax (P1 o)];rfl);have ql:∀o m L,(Q1 o m++L)[C+6]?=some pN:=λo m L=>(by rw[gp,Ax,pb];rfl);have qsl:∀o m L y,(Q1 o m++L).set (C+6) y=(P1 o++([.cells (h.map iv) 80,.cells [wv own] 76,.cells [wv m] 76,.cells w.l 73,.cells (h.map iv) 80,.cells [iv 1] 3,y]++M2))++L:=λo m L y=>(by rw[gp,Ax,A0];simp);have qc:∀o m (L:SA),(Q1 o m++L)[D]?=L[0]?:=λo m L=>(by rw[<- RE o m];exact aS _ L 0);have HL:∀o (L:SA),(P1 o++L)[C+6]?=L[6]?:=λo L=>pb o L 6;have wi:∀(o':Int)(m':Nat)(G:SA),bO (P1 o2++([aa.cells (h.map iv) 80,.cells [wv own] 76,.cells [wv met] 76,.cells w.l 73,.cells (h.map iv) 80,.cells [iv 1] 3,.loop l2 .ready none eP T2 97 #[64] gI gJ (N+2)]++M2))->k2 (.val (.bool true)) (P1 o'++([aa.cells (h.map iv) 80,.cells [wv own] 76,.cells [wv m'] 76,.cells w.l 73,.cells (h.map iv) 80,.cells [iv 1] 3,.loop l2 .ready none eP T2 97 #[64] gI gJ (N+2)]++M2))->bY D ((Q1 o' m'++G).set (C+6) (.loop l2 .ready none eP T2 97 #[64] gI gJ (N+2))) (.val (.bool true)) k2:=λo' m' G au aI=>by
        rw[qsl];refine iK (G:=G) (Wk.refl _) rfl (by rw[hD];simp[ey];omega) ?_ (.val _) aI;intro z hz;have hlen:(P1 o'++([aa.cells (h.map iv) 80,.cells [wv own] 76,.cells [wv m'] 76,.cells w.l 73,.cells (h.map iv) 80,.cells [iv 1] 3,.loop l2 .ready none eP T2 97 #[64] gI gJ (N+2)]++M2)).length=(P1 o2++([aa.cells (h.map iv) 80,.cells [wv own] 76,.cells [wv met] 76,.cells w.l 73,.cells (h.map iv) 80,.cells [iv 1] 3,.loop l2 .ready none eP T2 97 #[64] gI gJ (N+2)]++M2)).length:=(by simp[ey]);rw[hlen];rcases Tp.1 hz with h'|h'
        ·exact AN _ o2 o' (λz hz=>au z (Ue _ hz)) z h'
        ·rcases Tp.1 h' with h'|h'
         ·exact okm _ met m' (λz hz=>au z (T1 _ (Ue _ hz))) z h'
         ·exact au z (T1 _ (T1 _ h'))
       subst ow xO xQ;rw[Ax];refine vR (id:=C+6) (by rw[HL];rfl) rfl (by kernel_rfl) λre Kw=> ?_;simp only[se];have CO:Vv 11 [iv 0,iv 0,iv 0,iv 0,iv 0,iv 0,iv 0,iv 0,iv 0,iv 0,iv 0]=[]:=rfl;refine ah ?_;simp only[seval,qv,CO];unfold tW;refine⟨none,eP,_,97,#[64],_,_,_,by rw[HL];rfl,?_⟩;dsimp only;rw[A0];simp only[Vg,UP];rw[<- sM];have Cq:(P1 o2).length+(M2.length+1+1+1+1+1+1+1)=D:=(by rw[ey,hD];omega);rw[Cq];have iP:∀z:aa,(P1 o2++aa.cells (Wh iv h) 80::aa.cells [AV.val (S_ T6 ↑own)] 76::aa.cells [AV.val (S_ T6 ↑met)] 76::aa.cells w.l 73::aa.cells (Wh iv h) 80::aa.cells [AV.val (S_ Tc 1)] 3::pN::(M2++[z]))=Q1 o2 met++[z]:=λz=>(by rw[gp];simp[iv]);rw[iP];have b4:(0<=(q:Int)/\(q:Int)<4)=True:=(by simp;omega);have lc:=kS (i:=4+q) lQ;refine ah ?_;simp only[seval,q2,qc,b4,lc];refine ah ?_;simp only[seval,qm];refine aK (ul (m:=met) (n:=n) hm ?_);(try simp only[seval]);refine aA ?_;refine⟨λhb=> ?_,λhb=> ?_⟩
       ·refine bT ?_;have e1:qS own q (o2,met) t=(o2,met):=(by unfold qS;rw[GH,if_pos hb]);rw[e1]at lh;rw[Ax]at lh;show oV _ _ _ _ _ _ _;refine⟨l2,.busy,none,eP,_,97,#[64],_,_,N+2,by show (Q1 _ _++_)[_]?=_;rw[ql,sM],?_⟩;exact wi o2 met _ re lh
       ·refine aL ?_;have dj:met.testBit n=false:=(by simpa using hb);have e1:qS own q (o2,met) t=(DT (fB own 0 16) n o2,met|||2^n):=(by unfold qS;rw[GH,if_neg (by simpa using hb)]);rw[e1]at lh;rw[Ax]at lh;refine ah ?_;simp only[seval,qm];refine aK (um (m:=met) (n:=n) hm (by omega) ?_);(try simp only[seval,qm,qsm,wv]);refine ah ?_;simp only[seval,qo];refine aK (JY (s:=own) (more:=0) alP (by decide) ?_);(try simp only[seval,bp]);have hlb:∀v∈fB own 0 16,0<=v/\v<16:=λv hv=>by
         unfold fB at hv;obtain⟨j,hj,rfl⟩:=Um.1 hv;have:=UA.1 (Vq.1 hj).1;omega
        have iE:=MZ own 0 16;generalize fB own 0 16=ls at hlb iE lh⊢;obtain⟨oj,kD⟩:∃oj:Nat->Int,∀j,oj j=DT (ls.take j) n o2:=⟨_,λ_=>rfl⟩;have alR:oj 0=o2:=(by rw[kD];rfl);generalize met|||2^n=abE at lh⊢;refine b_ ?_;refine fS ls.length (λj:Nat=>[(78,iv j)]) (λj=>Q1 (oj j) abE++[.cells (t.map iv) 83]) (λ_=>True) (λ_ _=>rfl) (by simp only[seval];simp[bP,Wk.refl]) (by rw[alR]) (λ_ _ _=>by simp[RE]) trivial (λbX cU j pf _ R hR=> ?_);clear bX cU;refine ai ?_;refine aA ?_;refine⟨λh1=> ?_,λh1=> ?_⟩
        ·have ff:j<ls.length:=(by omega);obtain⟨v,hv⟩:=bU ff;have hvb:=hlb v (wI hv);have c_:oj (j+1)=abK n (oj j) v:=by
          rw[kD,kD,DT,DT];obtain⟨alv,uO⟩:=Tj.1 hv;rw[VK alv,YN,uO];rfl
         have hwa:Tc.wrap (v-(n:Int))=v-n:=bF _ (by omega);have GP:Tc.wrap ((n:Int)-v)=n-v:=bF _ (by omega);have fW:=TL j (by omega);have akx:(2<=2^24)=True:=eq_true (by decide);refine aL ?_;refine ah ?_;simp only[seval,gW hv,iB ff];refine ah ?_;simp only[seval,q6,z2,akx,hwa,GP];have C5:(if v-(n:Int)<(n:Int)-v then(n:Int)-v else v-(n:Int))=max (v-n) (n-v):=(by split<;>omega);rw[C5];refine aK (ajw (ns:=[oj j,max (v-n) (n-v)]) (by simp) ?_);(try simp only[seval,q6,qs6]);refine ah ?_;simp only[seval,fW];refine hR _ ⟨ff,trivial,?_⟩;rw[c_];exact dp
        ·have x_:j=ls.length:=(by omega);subst x_;refine bT ?_;show oV _ _ _ _ _ _ _;refine⟨l2,.busy,none,eP,_,97,#[64],_,_,N+2,by show (Q1 _ _++_)[_]?=_;rw[ql,sM],?_⟩;exact wi (oj ls.length) abE _ re (by rw[kD,Uy];exact lh)
      ·cases he;show (qS own q m t).2<65536;unfold qS;split
       ·exact hm
       ·obtain⟨n,lQ,hn9,_⟩:=ht.num q (by rw[hw];exact hq);have GH:mz t q=n:=(by unfold mz;rw[Se,lQ];rfl);rw[GH];exact pF hm (wW (by omega))
      ·rcases Tp.1 e9 with h'|h'
       ·exact AN v m.1 m'.1 (λz uR=>hz z (Ue _ uR)) z h'
       ·exact okm v m.2 m'.2 (λz uR=>hz z (T1 _ uR)) z h'
     refine cO (JU (x:=w) (h:=h) (deep:=1) (ir:=C+3) (ih:=C+3+1) (id:=C+3+2) (σ:=(o,0)) Mi pc xM (λm L=> ?_) (λm L=> ?_) (λm L=> ?_) (λn=>by simp[im]) (show (0:Nat)<65536 by decide) (λa ha=>ha.len) Dk ?_)
     ·rw[Ax];exact pb _ _ 3
     ·rw[Ax];exact pb _ _ 4
     ·rw[Ax];exact pb _ _ 5
     rw[D6 (g:=qS own q) (λ_ _=>rfl)];simp only[gg,Tu];have e1:vE w y q o h=((iI w 1 h).foldl (qS own q) (o,0)).1:=(by unfold vE;rw[<- jg,if_neg e9]);generalize(iI w 1 h).foldl (qS own q) (o,0)=r at e1⊢;rw[e1]at dG;have HL:∀o (L:SA),(P1 o++L)[C+6]?=L[6]?:=λo L=>pb o L 6;refine⟨.ready,none,_,_,_,_,_,_,_,by rw[HL];rfl,by decide,?_⟩;rw[A0,HO];(try simp only[seval]);show oV _ _ _ _ _ _ _;refine⟨l,.busy,none,fn,_,97,#[51],_,_,N+2,by show (P1 _++_)[_]?=_;rw[Nr,kY],?_⟩;show bY C ((P1 _++_).set _ _) _ k;rw[NK];rw[Ax]at dG;exact iK (G:=[.cells (h.map iv) 80,.cells [wv own] 76,.cells [wv r.2] 76,.cells w.l 73,.cells (h.map iv) 80,.cells [iv 1] 3,.gone]) (Wk.refl _) rfl (by rw[hC];simp[p9];omega) (okX _ o r.1 ou) (.val _) dG
   ·rcases Tp.1 e9 with h'|h'
    ·exact Ng m o o' (λz uR=>hz z (Ue _ uR)) z h'
    ·exact hz z (T1 _ h')
  refine cO (JR (x:=w) (bk:=i) (ir:=N) (it:=N+1) (σ:=fo i) Mi hY (λo L=> ?_) (λo L=> ?_) qf (λn=>by simp[im]) trivial (λa ha=>Ku a ha) ?_)
  ·rw[Ax];exact ag _ _ 0
  ·rw[Ax];exact ag _ _ 1
  rw[D6 (g:=vE w y q) (λ_ _=>rfl)];simp only[gg,Tu];have hfx:(j6 w i).foldl (vE w y q) (fo i)=fo (i+1):=by rw[wj,wj,zh]
  rw[hfx];have yl:=TL i (by omega)
  refine⟨.ready,none,_,_,_,_,_,_,_,by show (AO _++_)[N+3]?=_;rw[ag];rfl,by decide,?_⟩;rw[show N+2+1=N+3 from rfl,tZ,HN];(try simp only[seval]);refine Fb ?_;refine ah ?_;simp only[seval,yl];refine⟨i+1,?_,by omega,fN (by push_cast;simp only[seval];simp[bP,Wk.refl]) (by rw[p8,oX,Ax];rfl),by rw[xk,hN]⟩;show p+1-(i+1)<p+1-i;omega
 ·have dx:i=p+1:=by omega
  subst dx;refine bT ?_;have IX:∀o,(AO o)[H.length+6]?=some (.cells [iv o] 3):=λo=>by have:=a6 o [];rwa[Tu]at this
  have nL:x.am.toNat=p:=by omega
  rw[nL]at hk;have aI:=hk (fo (p+1)) (by rw[wj,hw]);generalize fo (p+1)=o at aI⊢;(try refine nm ?_);refine ah ?_;simp only[seval,IX];obtain⟨Y,v6⟩:=Pb w (Bo o) (p+1) [];rw[Tu,fV]at v6;have RN:iL (xk (H.length+7) (p+1)) (AO o)=some (H++([.cells x.l 25,.cells [iv s] 3,.cells [iv q] 3,.cells x.l 25,.cells [.sl 1 [iv q] .exact] 30,.cells w.l 73,.cells [iv o] 3]++Y)):=by rw[p8,v6,q_,Ax]
  (try refine nm ?_);refine aA ?_;refine⟨λho=> ?_,λho=> ?_⟩
  ·have bf:o<0:=(by simpa using ho);rw[if_pos bf,if_pos bf]at aI;refine ai ?_;refine aP ?_;refine eg RN ?_;(try simp only[seval]);exact eV hH (Wk.refl _) (by simp[im,dN]) aI
  ·have bf:¬o<0:=(by simpa using ho);rw[if_neg bf,if_neg bf]at aI;refine aL ?_;refine I8 ?_;have IX:∀o,(AO o)[H.length+6]?=some (.cells [iv o] 3):=λo=>(by have:=a6 o [];rwa[Tu]at this);refine ah ?_;simp only[seval,IX];refine aP ?_;refine eg RN ?_;(try simp only[seval]);exact eV hH (Wk.refl _) (by simp[im,dN]) aI
end
open Go.Conc Go.Proofs Go.Gg.Tk
section
variable {H:SA}{k kp:SF}
end
end Go.Gg
namespace Go.Gg.Tk
structure Want where
 kind:Int
 x:Int
 y:Int
end Go.Gg.Tk
namespace Go.Gg
open Go.Conc Go.Proofs Go.Gg.Tk
def jU (τ:bl)(n m lo hi:Int):iz:=⟨max lo (n-cR τ m),min hi (n+cR (tick τ) m)⟩
def lI (τ:bl)(h:SD)(n hours:Int):aD:=⟨jU τ n 2 0 99,jU (tick (tick τ)) (l5 h n (h.length-1)) 1 0 (hours-1)⟩
section
variable {lv:Bool}{k kp:SF}{Gf:bl->SA}{t N:Nat}{τ:bl}{b:Int}
def FC{n m lo hi:Int}(hT:dW Gf t N)(hτ:τ.Ok b)(hb:b<2^30)(hn: -1000<=n/\n<=1000)(hm:0<=m/\m<=3)(hk:k (jU τ n m lo hi).av (Gf (tick (tick τ)))):a_ lv ij 38 (Gf τ) [.op t 0,iv n,iv m,.agg [iv lo,iv hi]] k kp:=by
 refine bw (rs:=[.cell 8 27]) (nt:=26) Tryz.f38 λhH hA=> ?_;simp only[bc,To];have ow:dW (λτ=>Gf τ++[.cells [iv lo,iv hi] 27,.cells [iv 0,iv 0] 27]) t (N+2):=hT.more [_,_];have r1:=lC τ m;have r2:=lC (tick τ) m;have bH:Tc.wrap (n-cR τ m)=n-cR τ m:=bF _ (by omega);have fj:Tc.wrap (n+cR (tick τ) m)=n+cR (tick τ) m:=bF _ (by omega);have C5:(if lo<n-cR τ m then n-cR τ m else lo)=max lo (n-cR τ m):=by split<;>omega
 have lL:(if n+cR (tick τ) m<hi then n+cR (tick τ) m else hi)=min hi (n+cR (tick τ) m):=by split<;>omega
 refine ai ?_;refine oY [5,13,17] (Tt 18) (λD=>bif isDone 17 D then Gf (tick (tick τ))++[.cells [iv lo,iv hi] 27,.cells [iv (max lo (n-cR τ m)),iv (min hi (n+cR (tick τ) m))] 27]else bif isDone 13 D then Gf (tick (tick τ))++[.cells [iv lo,iv hi] 27,.cells [iv 0,iv 0] 27]else bif isDone 5 D then Gf (tick τ)++[.cells [iv lo,iv hi] 27,.cells [iv 0,iv 0] 27]else Gf τ++[.cells [iv lo,iv hi] 27,.cells [iv 0,iv 0] 27]) ?_;simp only[seval,hT.len,hT.g0,hT.g1,hT.g2,hT.g3,hT.h2,hT.h3,hT.s0,hT.s1,hT.s2,hT.s3,hT.t2,hT.t3,bH,fj,C5,lL];refine og _ _ (cO (oh (ow) hτ (by omega) (by omega) ⟨rfl,rfl⟩)) ?_;(try simp only[seval,hT.len,hT.g0,hT.g1,hT.g2,hT.g3,hT.h2,hT.h3,hT.s0,hT.s1,hT.s2,hT.s3,hT.t2,hT.t3,bH,fj,C5,lL]);refine og _ _ (cO (oh (ow) hτ.tick (by omega) (by omega) ⟨rfl,rfl⟩)) ?_;(try simp only[seval,hT.len,hT.g0,hT.g1,hT.g2,hT.g3,hT.h2,hT.h3,hT.s0,hT.s1,hT.s2,hT.s3,hT.t2,hT.t3,bH,fj,C5,lL]);refine kq ?_;simp only[seval,hT.len,hT.g0,hT.g1,hT.g2,hT.g3,hT.h2,hT.h3,hT.s0,hT.s1,hT.s2,hT.s3,hT.t2,hT.t3];exact iK (b:=(jU τ n m lo hi).av) (H':=Gf (tick (tick τ))) (Wk.refl _) rfl (by simp[hT.len]) (hT.au hH _) (by simp[iz.av,iz.l,lV,dN]) hk
def QO{h:SD}{n hours:Int}{e:End}(hT:dW Gf t N)(hτ:τ.Ok b)(hb:b<2^20)(hl:h.length<=4)(hn: -1000<=n/\n<=1000)(hh:1<=hours/\hours<=3)(qw: -1<=l5 h n (h.length-1)/\l5 h n (h.length-1)<=4)(hk:k (lI τ h n hours).av (Gf (tick (tick (tick (tick τ)))))):a_ lv ij 96 (Gf τ) [.op t 0,.sl h.length (h.map iv) e,iv n,iv hours] k kp:=by
 refine bw (rs:=[.cell 8 68]) (nt:=22) Tryz.f96 λhH hA=> ?_;simp only[bc,To];have uw:∀o:aa,dW (λτ=>Gf τ++[o]) t (N+1):=λo=>hT.more [o];have bH:Tc.wrap (hours-1)=hours-1:=bF _ (by omega);refine ai ?_;refine ah ?_;simp only[seval,bH];refine aK (FC (n:=n) (m:=2) (lo:=0) (hi:=99) (uw _) hτ (by omega) hn (by decide) ?_);(try simp only[seval]);refine aK (aiL (h:=h) (n:=n) hl ?_);(try simp only[seval,bH]);refine aK (FC (n:=l5 h n (h.length-1)) (m:=1) (lo:=0) (hi:=hours-1) (uw _) hτ.tick.tick (by omega) (by omega) (by decide) ?_);(try simp only[seval,hT.len,hT.g0,hT.g1,hT.g2,hT.g3,hT.h2,hT.h3,hT.s0,hT.s1,hT.s2,hT.s3,hT.t2,hT.t3,iz.av,iz.l]);refine kq ?_;simp only[seval,hT.len,hT.g0,hT.g1,hT.g2,hT.g3,hT.h2,hT.h3,hT.s0,hT.s1,hT.s2,hT.s3,hT.t2,hT.t3];exact iK (b:=(lI τ h n hours).av) (H':=Gf (tick (tick (tick (tick τ))))) (Wk.refl _) rfl (by simp[hT.len]) (hT.au hH _) (by simp[aD.av,aD.l,lV,dN]) hk
end
end Go.Gg
namespace Go.Gg.Tk
def sq:SD->Prop
 |a::b::l=>a<=b/\sq (b::l)
 |_=>True
def asV{h:SD}{n:Int}(hl:2<=h.length)(qh:h.length<=4)(hm:sq h):l5 h n (h.length-1)=jp h n:=by
 match h,hl,qh,hm with
 |[a,b],_,_,hm=>
  simp only[jp,fD,l5,UU,VR,Yv,Yk,To,Zr]
 |[a,b,c],_,_,hm=>
  obtain⟨h1,h2,_⟩:=hm;simp only[jp,fD,l5,UU,VR,Yv,Yk,To,Zr];split<;>split<;>first|rfl|omega
 |[a,b,c,d],_,_,hm=>
  obtain⟨h1,h2,h3,_⟩:=hm;simp only[jp,fD,l5,UU,VR,Yv,Yk,To,Zr];split<;>split<;>first|rfl|omega|(split<;>first|rfl|omega)
end Go.Gg.Tk
namespace Go.Gg
open Go.Conc Go.Proofs Go.Gg.Tk
structure IP (p:SD)(n:Nat):Prop where
 len:p.length=n
 nodup:p.Nodup
 HU:∀v∈p,0<=v/\v<(n:Int)
def set_perm{t:SD}{k:Nat}{a b:Int}(h:t[k]?=some a):(t.set k b++[a]).Perm (t++[b]):=by
 obtain⟨hk,rfl⟩:=Tj.1 h;have e:t=t.take k++t[k]::t.drop (k+1):=by rw[<- UW hk,WO]
 rw[List.set_eq_take_append_cons_drop,if_pos hk]
 conv=>rhs;rw[e]
 rw[List.perm_iff_count];intro v;simp only[List.count_append,List.count_cons,List.count_nil];omega
def abG(τ:bl)(n:Nat):∀i:Nat,i<=n->((io τ n i).1.take i).Nodup/\∀v∈(io τ n i).1.take i,0<=v/\v<(i:Int)
 |0,_=>by simp
 |i+1,hi=>by
  obtain⟨h1,h2⟩:=abG τ n i (by omega);have hlen:=AK τ n i;rw[io];generalize io τ n i=m at h1 h2 hlen⊢;obtain⟨l,σ⟩:=m;simp only at h1 h2 hlen⊢;have hr:=lC σ i;generalize cR σ i=u at hr⊢;obtain⟨k,rfl⟩:∃w:Nat,u=w:=⟨u.toNat,by omega⟩;rw[Wc];obtain⟨a,ha⟩:=bU (xs:=l) (i:=k) (by omega);obtain⟨c,hc⟩:=bU (xs:=l) (i:=i) (by omega);have K_:l.getD k 0=a:=by rw[Se,ha];rfl
  have wA:(l.take i).length=i:=by rw[U_];omega
  have hp:(((l.set i a).set k (i:Int)).take (i+1)).Perm (l.take i++[(i:Int)]):=by
   rw[avE,avE,Wm,hc];show ((((l.take i)++[c]).set i a).set k (i:Int)).Perm _;rw[VE _ _ (by omega),wA,WL];show (((l.take i)++[a]).set k (i:Int)).Perm _;by_cases e:k=i
   ·subst e;rw[VE _ _ (by omega),wA,WL];exact avU _
   ·rw[VW _ _ (by omega)];exact set_perm (by rw[U5,if_pos (by omega)];exact ha)
  rw[K_];refine⟨(awm hp).2 ?_,λv hv=> ?_⟩
  ·exact V_.2 ⟨h1,by simp,λx hx y hy e=>by
    have:=h2 x hx;simp at hy;omega⟩
  ·rcases Tp.1 (hp.mem_iff.1 hv)with hv|hv
   ·have:=h2 v hv;omega
   ·simp at hv;omega
def abH(τ:bl)(n:Nat):IP (io τ n n).1 n:=by
 obtain⟨h1,h2⟩:=abG τ n n (Tm _);rw[Tn (by rw[AK];exact Tm _)]at h1 h2;exact⟨AK τ n n,h1,h2⟩
def BX{τ:bl}{n m lo hi:Int}(hn:lo<=n/\n<=hi)(oF:0<=lo):vv (jU τ n m lo hi) hi/\kI (jU τ n m lo hi) n=true:=by
 have r1:=lC τ m;have r2:=lC (tick τ) m;unfold jU;refine⟨⟨?_,?_,?_⟩,?_⟩
 ·dsimp only;omega
 ·dsimp only;omega
 ·dsimp only;omega
 ·unfold kI;rw[Uk,decide_eq_true_eq,decide_eq_true_eq];dsimp only;omega
def JK(τ:bl){ns:SD}(h:ns≠[]):vV τ ns∈ns:=by
 unfold vV;have hl:0<ns.length:=Wy.2 h;have r:=lC τ ((ns.length:Int)-1);have hi:(cR τ ((ns.length:Int)-1)).toNat<ns.length:=by omega
 rw[Se,Ts hi];exact WX hi
def wT (τ:bl)(am:Int):Int:=vV (tick τ) [0,am,cR τ am]
def adm(τ:bl){am:Int}(h:0<=am):0<=wT τ am/\wT τ am<=am:=by
 have r:=lC τ am;have:=JK (tick τ) (ns:=[0,am,cR τ am]) (by simp);unfold wT;simp only[Th,Tv,or_false]at this;omega
def lg (τ:bl)(first am:Int):Nat->SD×bl
 |0=>([first],τ)
 |i+1=>((lg τ first am i).1++[(lg τ first am i).1.getD i 0+wT (lg τ first am i).2 am],tick (tick (lg τ first am i).2))
structure nb (first am:Int)(l:SD)(i:Nat):Prop where
 len:l.length=i+1
 head:l.getD 0 0=first
 step:∀j,j<i->l.getD j 0<=l.getD (j+1) 0/\l.getD (j+1) 0<=l.getD j 0+am
def FM{l:SD}{v:Int}{j:Nat}(h:j<l.length):(l++[v]).getD j 0=l.getD j 0:=by
 rw[Se,Se,Tw h]
def akn{l:SD}{v:Int}{j:Nat}(h:l.length=j):(l++[v]).getD j 0=v:=by
 subst h;rw[Se,Ud (Tm _),WL];rfl
def Sz(τ:bl)(first:Int){am:Int}(h:0<=am):∀i,nb first am (lg τ first am i).1 i
 |0=>⟨rfl,rfl,λj hj=>by omega⟩
 |i+1=>by
  have ih:=Sz τ first h i
  rw[lg];have hs:=adm (lg τ first am i).2 h;generalize wT (lg τ first am i).2 am=v at hs⊢;generalize(lg τ first am i).1=l at ih⊢;have hl:=ih.len;refine⟨by rw[Tx,hl];rfl,by rw[FM (by omega)];exact ih.head,λj hj=> ?_⟩;by_cases cy:j<i
  ·rw[FM (by omega),FM (by omega)];exact ih.step j cy
  ·have:j=i:=(by omega);subst this;rw[FM (by omega),akn (by omega)];omega
def aaa{τ:bl}{b:Int}(h:τ.Ok b)(first am:Int):∀i:Nat,(lg τ first am i).2.Ok (b+2* i)
 |0=>h.mono (by simp)
 |i+1=>(aaa h first am i).tick.tick.mono (by simp;omega)
def nb.ge{first am:Int}{l:SD}{i:Nat}(h:nb first am l i)(hp:0<=am):∀j,j<=i->first<=l.getD j 0/\l.getD j 0<=first+am* j
 |0,_=>by rw[h.head];simp
 |j+1,hj=>by
  have ih:=h.ge hp j (by omega);have:=h.step j (by omega);have e:am* ((j+1:Nat):Int)=am* j+am:=by rw[Int.natCast_add,Int.mul_add];simp
  omega
def kJ (first:Int)(order:SD)(i:Nat):SD:=(Tt i).map λj=>first+order.getD j 0
def abT(first:Int)(order:SD)(i:Nat):kJ first order (i+1)=kJ first order i++[first+order.getD i 0]:=by
 unfold kJ;rw[Wr,UJ];rfl
def abS(first:Int)(order:SD)(i:Nat):(kJ first order i).length=i:=by simp[kJ]
def kx (h:SD)(hours:Int)(num:Nat->Int)(τ:bl):Nat->List aD×bl
 |0=>([],τ)
 |i+1=>((kx h hours num τ i).1++[lI (tick (kx h hours num τ i).2) h (num i) hours],tick (tick (tick (tick (tick (kx h hours num τ i).2)))))
def zW(h:SD)(hours:Int)(num:Nat->Int)(τ:bl):∀i,(kx h hours num τ i).1.length=i
 |0=>rfl
 |i+1=>by rw[kx,Tx,zW h hours num τ i];rfl
def KM{τ:bl}{b:Int}(hτ:τ.Ok b)(h:SD)(hours:Int)(num:Nat->Int):∀i:Nat,(kx h hours num τ i).2.Ok (b+5* i)
 |0=>hτ.mono (by simp)
 |i+1=>(KM hτ h hours num i).tick.tick.tick.tick.tick.mono (by simp;omega)
def rV (h:SD)(hours:Int)(τ:bl):Nat->List Seen×bl
 |0=>([],τ)
 |i+1=>((rV h hours τ i).1++[⟨cR (rV h hours τ i).2 hours,jU (tick (rV h hours τ i).2) (h.getD (cR (rV h hours τ i).2 hours).toNat 0) 1 0 99⟩],tick (tick (tick (rV h hours τ i).2)))
def acQ(h:SD)(hours:Int)(τ:bl):∀i,(rV h hours τ i).1.length=i
 |0=>rfl
 |i+1=>by rw[rV,Tx,acQ h hours τ i];rfl
def acS{τ:bl}{b:Int}(hτ:τ.Ok b)(h:SD)(hours:Int):∀i:Nat,(rV h hours τ i).2.Ok (b+3* i)
 |0=>hτ.mono (by simp)
 |i+1=>(acS hτ h hours i).tick.tick.tick.mono (by simp;omega)
def acR{h:SD}{hours:Int}{τ:bl}(hu:∀τ,0<=cR τ hours/\cR τ hours<=hours):∀i,∀s∈(rV h hours τ i).1,0<=s.hour/\s.hour<=hours/\∃σ,s.next=jU σ (h.getD s.hour.toNat 0) 1 0 99
 |0,s,hs=>by cases hs
 |i+1,s,hs=>by
  rw[rV]at hs;rcases Tp.1 hs with hs|hs
  ·exact acR hu i s hs
  ·rw[T7]at hs;subst hs;exact⟨(hu _).1,(hu _).2,_,rfl⟩
structure EL (h:SD)(hours n:Int)(y:aD):Prop where
 num:vv y.number 99
 hour:vv y.hour (hours-1)
 fits:fits h y n=true
def KL{h:SD}{hours:Int}{num:Nat->Int}{τ:bl}{P:Int->aD->Prop}(hP:∀τ n,P n (lI τ h n hours)):∀i j y,(kx h hours num τ i).1[j]?=some y->P (num j) y
 |0,j,y,hy=>by cases hy
 |i+1,j,y,hy=>by
  rw[kx]at hy;have hl:=zW h hours num τ i;by_cases hj:j<i
  ·rw[Tw (by omega)]at hy;exact KL hP i j y hy
  ·rw[Ud (by omega),hl]at hy;have:j=i:=(by have:=(Tj.1 hy).1;simp at this;omega);subst this;rw[WL]at hy;cases hy;exact hP _ _
end Go.Gg
namespace Go.Gg.Tk
def Ha{h pre:SD}(hp:pre≠[])(ht:h.take pre.length=pre):pre.getLastD 0=h.getD (pre.length-1) 0:=by
 have hl:0<pre.length:=Wy.2 hp;have e:pre[pre.length-1]?=h[pre.length-1]?:=by
  have:(h.take pre.length)[pre.length-1]?=pre[pre.length-1]?:=by rw[ht]
  rw[<- this,U5,if_pos (by omega)]
 rw[Se,<- e,Wn,Zd]
def Good (x:aj)(k:Nat)(h:SD):Prop:=∀j,k<=j->j<h.length->rU x j (h.getD j 0)=true/\(j+1<h.length->∃n:Nat,n<x.am.toNat+1/\h.getD (j+1) 0=h.getD j 0+n)
def Ib{h pre:SD}{v:Int}:h.take (pre.length+1)=pre++[v]<->h.take pre.length=pre/\pre.length<h.length/\h.getD pre.length 0=v:=by
 constructor
 ·intro e;have hl:pre.length+1<=h.length:=by
   have:=congrArg avG e;rw[U_,Tx,UV]at this;omega
  have h1:=congrArg (VC pre.length) e;rw[Wi,Uu (Tm _),Uy,Xx (by omega)]at h1;refine⟨h1,by omega,?_⟩;have h2:(h.take (pre.length+1))[pre.length]?=(pre++[v])[pre.length]?:=by rw[e]
  rw[U5,if_pos (by omega),Ud (Tm _),WL]at h2;rw[Se,h2];rfl
 ·rintro⟨h1,h2,h3⟩
  rw[Wm,h1];congr 1;rw[Se,Ts h2]at h3;rw[Ts h2,<- h3];rfl
def Lm{x:aj}:∀(d:Nat)(pre h:SD),pre≠[]->(h∈kB x d pre<->h.length=pre.length+d/\h.take pre.length=pre/\Good x (pre.length-1) h)
 |0,pre,h,hp=>by
  have hl:0<pre.length:=Wy.2 hp;unfold kB;constructor
  ·intro hm;split at hm
   ·rename_i hs;rw[T7]at hm;subst hm;refine⟨rfl,Uy,λj h1 h2=> ?_⟩;have:j=h.length-1:=(by omega);subst this;rw[Ha hp Uy]at hs;exact⟨hs,λh=>by omega⟩
   ·cases hm
  ·rintro⟨h1,h2,h3⟩
   have e:h=pre:=(by rw[<- h2,Tn (by omega)]);subst e;have:=(h3 (h.length-1) (Tm _) (by omega)).1;rw[<- Ha hp Uy]at this;rw[if_pos this];simp
 |d+1,pre,h,hp=>by
  have hl:0<pre.length:=Wy.2 hp;unfold kB;constructor
  ·intro hm;split at hm
   ·rename_i hs;obtain⟨n,hn,hm⟩:=T4.1 hm;rw[Lm d _ h (by simp)]at hm;obtain⟨h1,h2,h3⟩:=hm;rw[Tx,UV]at h1 h2 h3;obtain⟨h4,h5,h6⟩:=Ib.1 h2;rw[Ha hp h4]at hs h6;refine⟨by omega,h4,λj x9 Gj=> ?_⟩;by_cases hj:j=pre.length-1
    ·subst hj;refine⟨hs,λ_=>⟨n,UA.1 hn,?_⟩⟩;rw[show pre.length-1+1=pre.length by omega];exact h6
    ·exact h3 j (by omega) Gj
   ·cases hm
  ·rintro⟨h1,h2,h3⟩
   obtain⟨hs,aT⟩:=h3 (pre.length-1) (Tm _) (by omega);obtain⟨n,hn,he⟩:=aT (by omega);rw[show pre.length-1+1=pre.length by omega]at he;rw[Ha hp h2,if_pos hs];refine T4.2 ⟨n,UA.2 hn,?_⟩;rw[Lm d _ h (by simp),Tx,UV];exact⟨by omega,Ib.2 ⟨h2,by omega,he⟩,λj x9 Gj=>h3 j (by omega) Gj⟩
def aoq{h:SD}(hm:∀j,j+1<h.length->h.getD j 0<=h.getD (j+1) 0):sq h:=by
 induction h with
 |nil=>trivial
 |cons a l ih=>
  cases l with
  |nil=>trivial
  |cons b l=>
   refine⟨?_,ih λj hj=> ?_⟩
   ·have:=hm 0 (by simp);simpa using this
   ·have:=hm (j+1) (by simp at hj⊢;omega);simpa using this
def adV{n:Int}:∀(h:SD)(i:Nat),sq h->(0<=fD i h n<->h.headD 0<=n/\n<h.getLastD 0)
 |[],i,_=>by simp[fD]<;>omega
 |[a],i,_=>by simp[fD]<;>omega
 |a::b::l,i,hm=>by
  obtain⟨h1,h2⟩:=hm;have ih:=adV (n:=n) (b::l) (i+1) h2;have uG:(a::b::l).getLastD 0=(b::l).getLastD 0:=by simp[ak']
  rw[uG];unfold fD;split
  ·rename_i h;have cD:b<=(b::l).getLastD 0:=abI h2;constructor
   ·intro _;exact⟨h.1,by omega⟩
   ·intro _;omega
  ·rename_i h;rw[ih];have e1:(a::b::l).headD 0=a:=rfl;have e2:(b::l).headD 0=b:=rfl;rw[e1,e2];omega
where
 abI {b:Int}:∀{l:SD},sq (b::l)->b<=(b::l).getLastD 0
  |[],_=>by simp
  |c::l,hm=>by
   obtain⟨h1,h2⟩:=hm;have:=abI h2;have e:(b::c::l).getLastD 0=(c::l).getLastD 0:=(by simp[ak']);rw[e];omega
def adY{h:SD}{n:Int}(hm:sq h):0<=jp h n<->h.headD 0<=n/\n<h.getLastD 0:=adV h 0 hm
def adX{n:Int}:∀(h:SD)(i:Nat),0<=fD i h n->fD i h n+1<i+h.length
 |[],i,h=>by simp[fD]at h
 |[a],i,h=>by simp[fD]at h
 |a::b::l,i,h=>by
  unfold fD at h⊢;split
  ·simp;omega
  ·rename_i hn;rw[if_neg hn]at h;have:=adX (b::l) (i+1) h;simp at this⊢;omega
def ajU{h:SD}{y:aD}{n:Int}(hm:sq h)(hf:fits h y n=true):n∈Hv h:=by
 unfold fits at hf;simp only[Uk,decide_eq_true_eq]at hf;obtain⟨h1,h2⟩:=(adY hm).1 hf.1.1;unfold Hv;refine Um.2 ⟨(n-h.headD 0).toNat,UA.2 (by omega),by omega⟩
def Rj{α:Type}[DecidableEq α]{l:List α}{d:α}{i:Nat}(hi:i<l.length):l.Nodup->l.getD i d∉l.take i:=λhn hm=>by
 obtain⟨j,hj⟩:=WQ hm;rw[U5]at hj;split at hj
 ·rename_i cy;rw[Se,Ts hi,Ts (by omega)]at hj;simp only[T9,Uh]at hj;have h2:=Vm.1 hn;exact(XF.1 h2) j i (by omega) hi cy hj
 ·cases hj
def abP{α:Type}{l:List α}{d:α}(h:∀i,i<l.length->l.getD i d∉l.take i):l.Nodup:=by
 rw[Vm,XF];intro i j hi hj j5 e;refine h j hj ?_;rw[Se,Ts hj,T9,<- e];exact VF.2 ⟨i,by rw[U5,if_pos j5,Ts hi]⟩
def Ic{α:Type}{d:α}{h pre:List α}{v:α}:h.take (pre.length+1)=pre++[v]<->h.take pre.length=pre/\pre.length<h.length/\h.getD pre.length d=v:=by
 constructor
 ·intro e;have hl:pre.length+1<=h.length:=by
   have:=congrArg avG e;rw[U_,Tx,UV]at this;omega
  have h1:=congrArg (VC pre.length) e;rw[Wi,Uu (Tm _),Uy,Xx (by omega)]at h1;refine⟨h1,by omega,?_⟩;have h2:(h.take (pre.length+1))[pre.length]?=(pre++[v])[pre.length]?:=by rw[e]
  rw[U5,if_pos (by omega),Ud (Tm _),WL]at h2;rw[Se,h2];rfl
 ·rintro⟨h1,h2,h3⟩
  rw[Wm,h1];congr 1;rw[Se,Ts h2]at h3;rw[Ts h2,<- h3];rfl
def Hx{h:SD}(hm:sq h):∀(ys:S9)(t ns:SD),ns∈mY h ys t<->ns.length=t.length+ys.length/\ns.take t.length=t/\∀i y,ys[i]?=some y->fits h y (ns.getD (t.length+i) 0)=true/\ns.getD (t.length+i) 0∉ns.take (t.length+i)
 |[],t,ns=>by
  simp only[mY,T7,VR,Vl];constructor
  ·rintro rfl;exact⟨rfl,Uy,λi y hy=>by cases hy⟩
  ·rintro⟨h1,h2,_⟩;rw[<- h2,Tn (by omega)]
 |y::ys,t,ns=>by
  simp only[mY,T4,Vq,Uk,UK,UU];constructor
  ·rintro⟨n,⟨_,hf,ht⟩,fZ⟩
   rw[Hx hm ys (t++[n]) ns]at fZ;obtain⟨h1,h2,h3⟩:=fZ;rw[Tx,UV]at h1 h2 h3;obtain⟨h4,h5,h6⟩:=(Ic (d:=0)).1 h2;refine⟨by omega,h4,λi z hz=> ?_⟩
   match i,hz with
   |0,hz=>
    cases hz;rw[Vl,h6,h4];refine⟨hf,?_⟩;intro hc;rw[Vf]at ht;simp at ht;exact ht hc
   |i+1,hz=>
    have:=h3 i z hz;rw[show t.length+1+i=t.length+(i+1) by omega]at this;exact this
  ·rintro⟨h1,h2,h3⟩
   obtain⟨hf,hn⟩:=h3 0 y rfl;rw[Vl]at hf hn;rw[h2]at hn;refine⟨ns.getD t.length 0,⟨ajU hm hf,hf,by rw[Vf];simpa using hn⟩,?_⟩;rw[Hx hm ys _ ns,Tx,UV];refine⟨by omega,(Ic (d:=0)).2 ⟨h2,by omega,rfl⟩,λi z hz=> ?_⟩;have:=h3 (i+1) z hz;rw[show t.length+(i+1)=t.length+1+i by omega]at this;exact this
def HJ{h ns:SD}:∀(ss:S9)(t os:SE),os∈pG h ns ss t<->os.length=t.length+ss.length/\os.take t.length=t/\∀i s,ss[i]?=some s->fits h s (ns.getD (os.getD (t.length+i) 0) 0)=true/\os.getD (t.length+i) 0<ns.length/\os.getD (t.length+i) 0∉os.take (t.length+i)
 |[],t,os=>by
  simp only[pG,T7,VR,Vl];constructor
  ·rintro rfl;exact⟨rfl,Uy,λi y hy=>by cases hy⟩
  ·rintro⟨h1,h2,_⟩;rw[<- h2,Tn (by omega)]
 |s::ss,t,os=>by
  simp only[pG,T4,Vq,Uk,UK,UU,UA];constructor
  ·rintro⟨n,⟨hlt,hf,ht⟩,fZ⟩
   rw[HJ ss (t++[n]) os]at fZ;obtain⟨h1,h2,h3⟩:=fZ;rw[Tx,UV]at h1 h2 h3;obtain⟨h4,h5,h6⟩:=(Ic (d:=0)).1 h2;refine⟨by omega,h4,λi z hz=> ?_⟩
   match i,hz with
   |0,hz=>
    cases hz;rw[Vl,h6,h4];refine⟨hf,hlt,?_⟩;intro hc;rw[Vf]at ht;simp at ht;exact ht hc
   |i+1,hz=>
    have:=h3 i z hz;rw[show t.length+1+i=t.length+(i+1) by omega]at this;exact this
  ·rintro⟨h1,h2,h3⟩
   obtain⟨hf,hlt,hn⟩:=h3 0 s rfl;rw[Vl]at hf hlt hn;rw[h2]at hn;refine⟨os.getD t.length 0,⟨hlt,hf,by rw[Vf];simpa using hn⟩,?_⟩;rw[HJ ss _ os,Tx,UV];refine⟨by omega,(Ic (d:=0)).2 ⟨h2,by omega,rfl⟩,λi z hz=> ?_⟩;have:=h3 (i+1) z hz;rw[show t.length+(i+1)=t.length+1+i by omega]at this;exact this
end Go.Gg.Tk
namespace Go.Gg
open Go.Gg.Tk
def Hc{t:SD}{p:Nat}{l:SE}:∀q,(pB t p q l).length=l.length
 |0=>rfl
 |q+1=>by
  unfold pB;split
  ·rw[zf,Hc q]
  ·exact Hc q
def abi{t:SD}{p i n:Nat}{l:SE}(hp:p<l.length):∀q,((pB t p q l).getD i 0).testBit n=((l.getD i 0).testBit n||(decide (i=p)&&(decide (n<q)&&decide (t.getD (4+p) 0<t.getD (4+n) 0))))
 |0=>by simp[pB]
 |q+1=>by
  have ih:=abi (t:=t) (i:=i) (n:=n) hp q;unfold pB;split
  ·rename_i h;rw[O4 (by rw[Hc];exact hp),ih];by_cases hn:n=q
   ·subst hn;rw[decide_eq_true h,decide_eq_true (Ve n),decide_eq_false (av3 n),decide_eq_true (rfl:n=n)];simp only[Yy,Zb,ZD,Bool.and_true]
   ·have e:decide (n<q+1)=decide (n<q):=(by rw[U9];simp only[decide_eq_true_eq];omega);rw[e,decide_eq_false hn,Zb,ZD]
  ·rename_i h;rw[ih];by_cases hn:n=q
   ·subst hn;simp only[decide_eq_false h,Zb]
   ·have e:decide (n<q+1)=decide (n<q):=(by rw[U9];simp only[decide_eq_true_eq];omega);rw[e]
def abg{t:SD}{k:Nat}{l:SE}:∀p,(pA t k p l).length=l.length
 |0=>rfl
 |p+1=>by unfold pA;rw[Hc,abg p]
def abf{t:SD}{k i n:Nat}{l:SE}:∀p,p<=l.length->((pA t k p l).getD i 0).testBit n=((l.getD i 0).testBit n||(decide (i<p)&&(decide (n<k)&&decide (t.getD (4+i) 0<t.getD (4+n) 0))))
 |0,_=>by simp[pA]
 |p+1,h=>by
  unfold pA;rw[abi (by rw[abg];omega),abf p (by omega)];by_cases hi:i=p
  ·subst hi;simp
  ·have e:(i<p+1)<->i<p:=(by omega);simp[hi,e]
def asz{x:aj}{Q:Kn}{t:SD}{p q:Nat}(hx:x.Ok)(hQ:bM Q)(hp:p<x.pieces.length)(hq:q<x.pieces.length):((ew x 1 Q t).less.getD p 0).testBit q=((Q.less.getD p 0).testBit q||decide (t.getD (4+p) 0<t.getD (4+q) 0)):=by
 have h:(ew x 1 Q t).less=pA t x.pieces.length x.pieces.length Q.less:=by
  rw[<- (Jc Q t).2.2.1];rfl
 rw[h,abf _ (by rw[hQ.less];exact hx.cW),decide_eq_true hp,decide_eq_true hq,VO,VO]
def JM{x:aj}(hx:x.Ok){u:Tr}(hu:u∈bx x){p:Nat}(hp:p<x.pieces.length):(eK u).getD (4+p) 0=u.aB.getD p 0-u.bE.headD 0:=by
 obtain⟨h1,h2⟩:=wV hx hu;have hh:=hx.hours;have h4:=yE (h:=u.bE) (by omega);have dM:p<u.aB.length:=by omega
 have uE:=as8 hu u.aB[p] (WX dM);have hg:(eK u)[4+p]?=some (((u.aB[p]-u.bE.headD 0).toNat:Nat):Int):=by
  unfold eK dC lz;rw[Ax,Ud (by omega),h4,VJ,Tw (by simp;omega),Tw (by simpa using dM),Uo,Uo,Ts dM];rfl
 rw[Se,hg,Se,Ts dM];simp only[T9];omega
def am0{x:aj}{D:Kn}{p q:Nat}(hx:x.Ok)(hD:eT x 1 D)(hp:p<x.pieces.length)(hq:q<x.pieces.length):(D.less.getD p 0).testBit q=true<->∃u∈bx x,u.aB.getD p 0<u.aB.getD q 0:=by
 have mT:=hx.cW;rw[MP (f:=λK=>(K.less.getD p 0).testBit q) (g:=λt=>decide (t.getD (4+p) 0<t.getD (4+q) 0)) hx ?_ (λQ t hQ _=>asz hx hQ hp hq) (λF G nN hF hG hh=> ?_) hD]
 ·rw[<- O8 (P:=λ_ ns=>ns.getD p 0<ns.getD q 0)];refine exists_congr λu=>and_congr_right λhu=> ?_;obtain⟨h,a,b⟩:=T4.1 hu;have GM:u∈bx x:=T4.2 ⟨h,a,Bh b⟩;rw[decide_eq_true_eq,JM hx GM hp,JM hx GM hq];omega
 ·show (([0,0,0,0]:SE).getD p 0).testBit q=false;rw[aen (by omega)];exact YS q
 ·have e2:(gB F nN G).less=ly F.less G.less:=by unfold gB;rw[if_pos hh]
  rw[e2];exact Nk (by rw[hF.less,hG.less])
namespace Tk
structure OM (x:aj)(u:Tr):Prop where
 bE:nb x.first x.am u.bE x.hours.toNat
 seen:∀s∈x.seen,kI s.next (u.bE.getD s.hour.toNat 0)=true
 u_:u.aB.length=x.pieces.length
 piece:∀(p:Nat) y,x.pieces[p]?=some y->fits u.bE y (u.aB.getD p 0)=true
 DY:u.aB.Nodup
 yD:u.cj.length=x.aC.length
 own:∀v∈u.cj,v<x.pieces.length
 stub:∀(s:Nat) y,x.aC[s]?=some y->fits u.bE y (u.aB.getD (u.cj.getD s 0) 0)=true
 HI:u.cj.Nodup
def _root_.Go.Gg.nb.mono{first am:Int}{l:SD}{i:Nat}(h:nb first am l i):sq l:=aoq λj hj=>(h.step j (by have:=h.len;omega)).1
def als{x:aj}(hx:x.Ok){h:SD}:h∈aM x<->nb x.first x.am h x.hours.toNat/\∀s∈x.seen,kI s.next (h.getD s.hour.toNat 0)=true:=by
 have hp:=hx.am;unfold aM;rw[Lm _ _ _ (by simp)];simp only[UV];constructor
 ·rintro⟨h1,h2,h3⟩
  have h4:=(Ib (pre:=[]) (v:=x.first)).1 h2;refine⟨⟨by omega,h4.2.2,λj hj=> ?_⟩,λs hs=> ?_⟩
  ·obtain⟨n,hn,e⟩:=(h3 j (by omega) (by omega)).2 (by omega);omega
  ·have hsr:=(hx.seen s hs).1;have:=(h3 s.hour.toNat (by omega) (by omega)).1;unfold rU at this;have:=Uv.1 this s hs;have e:s.hour=(s.hour.toNat:Int):=(by omega);rw[<- e]at this;simpa using this
 ·rintro⟨h1,h2⟩
  have hl:=h1.len;refine⟨by omega,(Ib (pre:=[]) (v:=x.first)).2 ⟨rfl,by simp;omega,h1.head⟩,λj _ hj=>⟨?_,λGj=> ?_⟩⟩
  ·unfold rU;rw[Uv];intro s hs;by_cases e:s.hour=(j:Int)
   ·have:=h2 s hs;rw[show s.hour.toNat=j by omega]at this;rw[this];simp
   ·simp[e]
  ·have:=h1.step j (by omega);exact⟨(h.getD (j+1) 0-h.getD j 0).toNat,by omega,by omega⟩
def ata{x:aj}{u:Tr}:u∈bx x<->u.bE∈aM x/\u.aB∈mY u.bE x.pieces []/\u.cj∈pG u.bE u.aB x.aC []:=by
 constructor
 ·intro hu;obtain⟨h,a,b⟩:=T4.1 hu;obtain⟨ns,c,d⟩:=T4.1 b;obtain⟨os,e,rfl⟩:=Um.1 d;exact⟨a,c,e⟩
 ·rintro⟨a,b,c⟩
  exact T4.2 ⟨u.bE,a,T4.2 ⟨u.aB,b,Um.2 ⟨u.cj,c,rfl⟩⟩⟩
def ako{l:SE}{i:Nat}(h:i<l.length):l.getD i 0∈l:=by
 rw[Se,Ts h];exact WX h
def Hl{x:aj}(hx:x.Ok){u:Tr}:u∈bx x<->OM x u:=by
 rw[ata,als hx];constructor
 ·rintro⟨⟨h1,h2⟩,h3,h4⟩
  have hm:=h1.mono;rw[Hx hm]at h3;rw[HJ]at h4;simp only[VR,WN]at h3 h4;obtain⟨a1,_,a3⟩:=h3;obtain⟨b1,_,b3⟩:=h4;refine⟨h1,h2,a1,λp y hy=>(a3 p y hy).1,abP (d:=0) λi hi=> ?_,b1,λv hv=> ?_,λs y hy=>(b3 s y hy).1,abP (d:=0) λi hi=> ?_⟩
  ·obtain⟨y,hy⟩:∃y,x.pieces[i]?=some y:=⟨_,Ts (by omega)⟩;exact(a3 i y hy).2
  ·obtain⟨i,hi⟩:=WQ hv;have bG:=(Tj.1 hi).1;obtain⟨y,hy⟩:∃y,x.aC[i]?=some y:=⟨_,Ts (by omega)⟩;have:=(b3 i y hy).2.1;rw[Se,hi]at this;rw[<- a1];exact this
  ·obtain⟨y,hy⟩:∃y,x.aC[i]?=some y:=⟨_,Ts (by omega)⟩;exact(b3 i y hy).2.2
 ·intro h;refine⟨⟨h.bE,h.seen⟩,?_,?_⟩
  ·rw[Hx h.bE.mono];simp only[VR,WN];refine⟨h.u_,rfl,λi y hy=>⟨h.piece i y hy,Rj ?_ h.DY⟩⟩;have:=(Tj.1 hy).1;rw[h.u_];exact this
  ·rw[HJ];simp only[VR,WN];refine⟨h.yD,rfl,λi y hy=> ?_⟩;have hi:=(Tj.1 hy).1;have rk:i<u.cj.length:=(by rw[h.yD];exact hi);exact⟨h.stub i y hy,by rw[h.u_];exact h.own _ (ako rk),Rj rk h.HI⟩
end Tk
open Go.Conc
section
variable {lv:Bool}{P:Tg}{r:SL}{s:AS}
def I5{nt:Nat}{x y:UX}{α:Type}{Φ Ψ:SI}(inv:α->AS)(ok:α->Prop)(h1:aZ lv P r nt x s (an.then (λs'=>∃a,ok a/\s'.Sub (inv a)) Ψ))(h2:∀a,ok a->aZ lv P r nt y (inv a) Φ):aZ lv P r nt x s (an.then (λs'=>aZ lv P r nt y s' Φ) Ψ):=
 h1.mono λe s' h=>by
  cases e with
  |normal=>
   obtain⟨a,h3,h4⟩:=h;exact B1 h4 (h2 a h3)
  |_=>exact h
end
open Go.Proofs Go.Gg.Tk
def OI:fO (S_ .i64 0) 3=[iv 0,iv 0,iv 0]:=rfl
def zE4:fO (S_ .i64 0) 4=[iv 0,iv 0,iv 0,iv 0]:=rfl
def ID:fO (Us #[S_ .i64 0,S_ .i64 0,S_ .i64 0,S_ .i64 0]) 4=[iv 0,iv 0,iv 0,iv 0]:=rfl
def zS1:fO (Us #[S_ .i64 0,S_ .i64 0,S_ .i64 0]) 3=[iv 0,iv 0,iv 0]:=rfl
def D3:(3<=2^24)=True:=eq_true (by decide)
def AX:(4<=2^24)=True:=eq_true (by decide)
def AW:(1<=2^24)=True:=eq_true (by decide)
def aeb{first am w v:Int}{i:Nat}(h1:first<=w/\w<=first+am* i)(h2:0<=v/\v<=am)(hf:0<=first/\first<=90)(hp:1<=am/\am<=3)(hi:i<=3):0<=w+v/\w+v<=1000:=by
 have:am* (i:Int)<=3* 3:=ZA (by omega) (by omega) (by omega) (by omega);generalize am* (i:Int)=q at h1 this;omega
def Mo{n:Int}(h:0<=n/\n<=1000):Tc.wrap n=n:=bF _ (by omega)
def Oe(h:SD)(n:Int):∀m:Nat, -1<=l5 h n m/\l5 h n m<m
 |0=>by simp[l5]
 |m+1=>by
  have:=Oe h n m;unfold l5;split
  ·omega
  ·omega
def Ke:∀l:S9,(l.flatMap aD.l).length=l.length* 4
 |[]=>rfl
 |a::l=>by rw[UQ,Tx,Ke l,aD.len,UU];omega
def QZ:∀l:List Seen,(l.flatMap Seen.l).length=l.length* 3
 |[]=>rfl
 |a::l=>by rw[UQ,Tx,QZ l,Seen.len,UU];omega
def Kf{α:Type}{f:α->SC}{l:List α}{a:α}:(l++[a]).flatMap f=l.flatMap f++f a:=by rw[VN];simp
def aog{α:Type}{f:Nat->α}{l:List α}{n:Nat}(hl:l.length=n)(h:∀i,i<n->l[i]?=some (f i)):(Tt n).map f=l:=by
 refine X2 λi=> ?_;rw[Uo];by_cases hi:i<n
 ·rw[au' hi,VL,h i hi]
 ·rw[Vx (by simp;omega),Vx (by omega)];rfl
def OR (a b:Nat):Prop:=(if(a:Int)<(b:Int)then(a:Int)else(b:Int))=((min b a:Nat):Int)
def abF(a b:Nat):OR a b:=by unfold OR;split<;>omega
structure Made (pm:Nat)(x:aj)(bE aB cj:SD):Prop where
 first:0<=x.first/\x.first<=90
 hours:1<=x.hours/\x.hours<=3
 am:1<=x.am/\x.am<=3
 Gi:nb x.first x.am bE x.hours.toNat
 aor:x.pieces.length<=pm
 u_:aB.length=x.pieces.length
 num:∀n∈aB,x.first<=n/\n<bE.getD x.hours.toNat 0
 DY:aB.Nodup
 piece:∀(p:Nat) y,x.pieces[p]?=some y->∃τ,y=lI τ bE (aB.getD p 0) x.hours
 yD:cj.length=x.aC.length
 aC:x.aC.length<=3
 own:∀v∈cj,0<=v/\v<(aB.length:Int)
 HI:cj.Nodup
 stub:∀(s:Nat) y,x.aC[s]?=some y->∃τ,y=lI τ bE (aB.getD (cj.getD s 0).toNat 0) x.hours
 ve:x.seen.length<=2
 seen:∀s∈x.seen,0<=s.hour/\s.hour<=x.hours/\∃τ,s.next=jU τ (bE.getD s.hour.toNat 0) 1 0 99
structure BL (Gf:bl->SA)(N:Nat)(zc:aa)(YY:SC->Nat->Nat->Nat->Nat->Nat->SA):Prop where
 len:∀r a b c d e,(YY r a b c d e).length=8
 y0:∀τ r a b c d e,(Gf τ++YY r a b c d e)[N]?=some zc
 y1:∀τ r a b c d e,(Gf τ++YY r a b c d e)[N+1]?=some (.cells r 25)
 y3:∀τ r a b c d e,(Gf τ++YY r a b c d e)[N+3]?=some (.tail a 4 68)
 y4:∀τ r a b c d e,(Gf τ++YY r a b c d e)[N+4]?=some (.tail b 4 68)
 y5:∀τ r a b c d e,(Gf τ++YY r a b c d e)[N+5]?=some (.tail c 3 29)
 y6:∀τ r a b c d e,(Gf τ++YY r a b c d e)[N+6]?=some (.tail d 1 3)
 y7:∀τ r a b c d e,(Gf τ++YY r a b c d e)[N+7]?=some (.tail e 1 3)
 z1:∀τ r r' a b c d e,(Gf τ++YY r a b c d e).set (N+1) (.cells r' 25)=Gf τ++YY r' a b c d e
 z3:∀τ r a a' b c d e,(Gf τ++YY r a b c d e).set (N+3) (.tail a' 4 68)=Gf τ++YY r a' b c d e
 z4:∀τ r a b b' c d e,(Gf τ++YY r a b c d e).set (N+4) (.tail b' 4 68)=Gf τ++YY r a b' c d e
 z5:∀τ r a b c c' d e,(Gf τ++YY r a b c d e).set (N+5) (.tail c' 3 29)=Gf τ++YY r a b c' d e
 z6:∀τ r a b c d d' e,(Gf τ++YY r a b c d e).set (N+6) (.tail d' 1 3)=Gf τ++YY r a b c d' e
 s0:∀r a b c d e y,∃L,(YY r a b c d e).set 0 y=y::L
 z7:∀τ r a b c d e e',(Gf τ++YY r a b c d e).set (N+7) (.tail e' 1 3)=Gf τ++YY r a b c d e'
noncomputable def vQ:UX:=Zo.body.getD .skip
def ug:Nat->UX->UX
 |0,c=>c
 |n+1,c=>ug n (cs c)
def ane{first am:Int}{l:SD}{i:Nat}(h:nb first am l i):l.getLastD 0=l.getD i 0:=by
 have hl:=h.len;rw[Wn,Zd,Se,hl];rfl
def alj{first am:Int}{l:SD}{i:Nat}(h:nb first am l i):l.headD 0=first:=by
 have hl:=h.len;have:=h.head;cases l with
 |nil=>cases hl
 |cons a l=>exact this
def nb.top{first am:Int}{l:SD}{i:Nat}(h:nb first am l i)(hf:0<=first/\first<=90)(hp:1<=am/\am<=3)(hi:i<=3):∀j,j<=i->first<=l.getD j 0/\l.getD j 0<=first+9:=λj hj=>by
 have h1:=h.ge (by omega) j hj;have:am* (j:Int)<=3* 3:=ZA (by omega) (by omega) (by omega) (by omega);generalize am* (j:Int)=q at h1 this;omega
def akG{first am:Int}{l:SD}{i:Nat}(h:nb first am l i)(hi:1<=i/\i<=3)(hf:0<=first/\first<=90)(hp:1<=am/\am<=3){n:Int}(hn:first<=n/\n<l.getD i 0)(τ:bl):EL l i n (lI τ l n i):=by
 have hl:=h.len;have hm:=h.mono;have ht:=h.top hf hp hi.2 i (Tm _);have hk:=asV (n:=n) (by omega) (by omega) hm;have h0:0<=jp l n:=(adY hm).2 (by rw[alj h,ane h];exact hn);have h1:=adX l 0 h0;have Kq:jp l n+1<l.length:=by have:fD 0 l n=jp l n:=rfl;omega
 have a1:=BX (τ:=τ) (n:=n) (m:=2) (lo:=0) (hi:=99) (by omega) (by omega);have a2:=BX (τ:=tick (tick τ)) (n:=jp l n) (m:=1) (lo:=0) (hi:=(i:Int)-1) (by omega) (by omega);refine⟨a1.1,?_,?_⟩
 ·unfold lI;rw[hk];exact a2.1
 ·unfold Tk.fits lI;rw[hk,Uk,Uk,decide_eq_true_eq];exact⟨⟨h0,a1.2⟩,a2.2⟩
variable {pm:Nat}{x:aj}{bE aB cj:SD}
def Made.RU(h:Made pm x bE aB cj){n:Int}(hn:n∈aB)(τ:bl):EL bE x.hours n (lI τ bE n x.hours):=by
 have hh:=h.hours;have:=akG h.Gi (by omega) h.first h.am (h.num n hn) τ;rw[Int.toNat_of_nonneg (by omega)]at this;exact this
def Km{l:SD}{i:Nat}(h:i<l.length):l.getD i 0∈l:=by
 rw[Se,Ts h];exact WX h
def Made.Pj(h:Made pm x bE aB cj){p:Nat}{y:aD}(hy:x.pieces[p]?=some y):EL bE x.hours (aB.getD p 0) y:=by
 obtain⟨τ,rfl⟩:=h.piece p y hy;exact h.RU (Km (by rw[h.u_];exact(Tj.1 hy).1)) τ
def Made.Pk(h:Made pm x bE aB cj){s:Nat}{y:aD}(hy:x.aC[s]?=some y):EL bE x.hours (aB.getD (cj.getD s 0).toNat 0) y:=by
 obtain⟨τ,rfl⟩:=h.stub s y hy;have hs:s<cj.length:=by rw[h.yD];exact(Tj.1 hy).1
 have:=h.own _ (Km hs);exact h.RU (Km (by omega)) τ
def Made.ok(h:Made pm x bE aB cj)(s_:pm<=4):x.Ok:=by
 have hh:=h.hours;refine⟨h.first,h.hours,h.am,by have:=h.ve;omega,by have:=h.aor;omega,h.aC,λs hs=> ?_,λy hy=> ?_,λy hy=> ?_⟩
 ·obtain⟨h1,h2,τ,h3⟩:=h.seen s hs;have ht:=h.Gi.top h.first h.am (by omega) s.hour.toNat (by omega);have hf:=h.first;rw[h3];exact⟨⟨h1,h2⟩,(BX (by omega) (by omega)).1⟩
 ·obtain⟨p,hp⟩:=WQ hy;have:=h.Pj hp;exact⟨this.num,this.hour⟩
 ·obtain⟨p,hp⟩:=WQ hy;have:=h.Pk hp;exact⟨this.num,this.hour⟩
def acC (bE aB cj:SD):Tr:=⟨bE,aB,cj.map Y'⟩
def Made.as4(h:Made pm x bE aB cj):OM x (acC bE aB cj):=by
 have hh:=h.hours;have pn:∀s,s<cj.length->(cj.map Y').getD s 0=(cj.getD s 0).toNat:=λs hs=>by
  rw[Se,Se,Uo,Ts hs];rfl
 refine⟨h.Gi,λs hs=> ?_,h.u_,λp y hy=>(h.Pj hy).fits,h.DY,by show (cj.map Y').length=_;rw[Un];exact h.yD,λv hv=> ?_,λs y hy=> ?_,?_⟩
 ·obtain⟨h1,h2,τ,h3⟩:=h.seen s hs;have ht:=h.Gi.top h.first h.am (by omega) s.hour.toNat (by omega);have hf:=h.first;rw[h3];exact(BX (by show _<=bE.getD _ _/\_;omega) (by omega)).2
 ·obtain⟨w,hw,rfl⟩:=Um.1 hv;have:=h.own w hw;have:=h.u_;omega
 ·have hs:s<cj.length:=by rw[h.yD];exact(Tj.1 hy).1
  show Tk.fits bE y (aB.getD ((cj.map Y').getD s 0) 0)=true;rw[pn s hs];exact(h.Pk hy).fits
 ·show (cj.map Y').Nodup;rw[Vm,ao'];refine YB ?_ (Vm.1 h.HI);intro a c ha hc aH e;have h1:=h.own a ha;have h2:=h.own c hc;omega
def Made.mem(h:Made pm x bE aB cj)(s_:pm<=4):acC bE aB cj∈bx x:=(Hl (h.ok s_)).2 h.as4
def Made.ne(h:Made pm x bE aB cj)(s_:pm<=4):bx x≠[]:=λe=>by
 have:=h.mem s_;rw[e]at this;cases this
namespace Tk
def live (x:aj):List (SD):=(aM x).filter λh=> !(oR x h).isEmpty
def cnt (x:aj):Int:=(live x).length
def wH{x:aj}{h:SD}:h∈live x<->∃u∈bx x,u.bE=h:=by
 unfold live;rw[Vq];constructor
 ·rintro⟨h1,h2⟩
  cases ht:oR x h with
  |nil=>rw[ht]at h2;cases h2
  |cons u l=>
   have hu:u∈oR x h:=(by rw[ht];simp);exact⟨u,T4.2 ⟨h,h1,hu⟩,yQ hu⟩
 ·rintro⟨u,hu,rfl⟩
  obtain⟨h,a,b⟩:=T4.1 hu;have e:=yQ b;subst e;refine⟨a,?_⟩;cases ht:oR x u.bE with
  |nil=>rw[ht]at b;cases b
  |cons=>rfl
def Ln{x:aj}{h:SD}(hm:h∈aM x):h.length=1+x.hours.toNat:=(Ah _ _ _ (by simp) hm).1
def Nm{h:SD}{n:Nat}(hl:h.length=n):(cL h).take n=h:=by
 subst hl;unfold cL;rw[Uu (Tm _),Uy]
def anR(x:aj):((live x).map cL).Nodup:=by
 have h:(live x).Nodup:=(aac x).filter _;rw[Vm,ao'];have h2:=Vm.1 h;refine YB ?_ h2;intro a b ha hb aH e;have la:=Ln ((Vq.1 ha).1);have lb:=Ln ((Vq.1 hb).1);apply aH;rw[<- Nm la,e,Nm lb]
end Tk
def JN{x:aj}(hx:x.Ok){u:Tr}(hu:u∈bx x):(eK u).take 4=cL u.bE:=by
 have hl:=(wV hx hu).1;have hh:=hx.hours;unfold eK dC;rw[Ax,Uu (by rw[yE (by omega)];omega),Tn (by rw[yE (by omega)];omega)]
def aa6{x:aj}{D:Kn}(hx:x.Ok)(h:eT x 0 D):D.aM.Perm ((live x).map cL):=by
 have hn:D.aM.Nodup:=by obtain⟨p,js,h1,h2,h3,_⟩:=h;exact amQ h3
 refine(List.perm_ext_iff_of_nodup hn (anR x)).2 λg=> ?_;rw[amZ hx h,Um];constructor
 ·rintro⟨u,hu,rfl⟩
  exact⟨u.bE,wH.2 ⟨u,hu,rfl⟩,(JN hx hu).symm⟩
 ·rintro⟨h,hm,rfl⟩
  obtain⟨u,hu,rfl⟩:=wH.1 hm;exact⟨u,hu,(JN hx hu).symm⟩
def yo{x:aj}{deep:Int}{D:Kn}(hx:x.Ok)(h:eT x deep D):D.has=false<->bx x=[]:=by
 rw[Dx hx h];cases bx x<;>simp
def M0{x:aj}:live x=[]<->bx x=[]:=by
 constructor
 ·intro h;cases ht:bx x with
  |nil=>rfl
  |cons u l=>
   have:u.bE∈live x:=wH.2 ⟨u,by rw[ht];simp,rfl⟩;rw[h]at this;cases this
 ·intro h;cases hl:live x with
  |nil=>rfl
  |cons a l=>
   obtain⟨u,hu,_⟩:=wH.1 (show a∈live x by rw[hl];simp);rw[h]at hu;cases hu
def count_eq{x:aj}{D:Kn}(hx:x.Ok)(h:eT x 0 D):(if D.has then(D.aM.length:Int)else 0)=cnt x:=by
 cases hD:D.has with
 |true=>rw[if_pos rfl,(aa6 hx h).length_eq,Un];rfl
 |false=>
  have:=M0.2 ((yo hx h).1 hD);simp[cnt,this]
def aom(a b:Int):min a b=a\/min a b=b:=by omega
def aoh(a b:Int):max a b=a\/max a b=b:=by omega
def PD(v:SD->Int):∀(hs:SS)(b:gY),b.is=true->(hs.foldl (λb h=>b.add (v h)) b).is=true/\((hs.foldl (λb h=>b.add (v h)) b).lo=b.lo\/∃h∈hs,(hs.foldl (λb h=>b.add (v h)) b).lo=v h)/\(hs.foldl (λb h=>b.add (v h)) b).lo<=b.lo/\(∀h∈hs,(hs.foldl (λb h=>b.add (v h)) b).lo<=v h)/\((hs.foldl (λb h=>b.add (v h)) b).hi=b.hi\/∃h∈hs,(hs.foldl (λb h=>b.add (v h)) b).hi=v h)/\b.hi<=(hs.foldl (λb h=>b.add (v h)) b).hi/\∀h∈hs,v h<=(hs.foldl (λb h=>b.add (v h)) b).hi
 |[],b,hb=>⟨hb,.inl rfl,al_ _,by simp,.inl rfl,al_ _,by simp⟩
 |g::hs,b,hb=>by
  have dj:b.add (v g)=⟨min b.lo (v g),max b.hi (v g),true⟩:=by unfold gY.add;rw[if_pos hb]
  obtain⟨h1,h2,h3,h4,h5,h6,h7⟩:=PD v hs (b.add (v g)) (by rw[dj]);rw[VS];generalize hs.foldl (λb h=>b.add (v h)) (b.add (v g))=R at*;rw[dj]at h2 h3 h5 h6;dsimp only at h2 h3 h5 h6;have m1:min b.lo (v g)=b.lo\/min b.lo (v g)=v g:=aom _ _;have m2:max b.hi (v g)=b.hi\/max b.hi (v g)=v g:=aoh _ _;refine⟨h1,?_,YI h3 (Int.min_le_left _ _),?_,?_,YI (Int.le_max_left _ _) h6,?_⟩
  ·rcases h2 with h2|⟨h,a,c⟩
   ·rcases m1 with m1|m1
    ·exact .inl (h2.trans m1)
    ·exact .inr ⟨g,by simp,h2.trans m1⟩
   ·exact .inr ⟨h,by simp[a],c⟩
  ·intro h hm;rcases Th.1 hm with rfl|hm
   ·exact YI h3 (Int.min_le_right _ _)
   ·exact h4 h hm
  ·rcases h5 with h2|⟨h,a,c⟩
   ·rcases m2 with m1|m1
    ·exact .inl (h2.trans m1)
    ·exact .inr ⟨g,by simp,h2.trans m1⟩
   ·exact .inr ⟨h,by simp[a],c⟩
  ·intro h hm;rcases Th.1 hm with rfl|hm
   ·exact YI (Int.le_max_right _ _) h6
   ·exact h7 h hm
namespace Tk
structure Bounds (hs:List (SD))(v:SD->Int)(lo hi:Int):Prop where
 G4:∃h∈hs,lo=v h
 le:∀h∈hs,lo<=v h
 G3:∃h∈hs,hi=v h
 ge:∀h∈hs,v h<=hi
def Bounds.uniq{hs:SS}{v:SD->Int}{a b c d:Int}(h:Bounds hs v a b)(k:Bounds hs v c d):a=c/\b=d:=by
 obtain⟨g1,m1,e1⟩:=h.G4;obtain⟨g2,m2,e2⟩:=h.G3;obtain⟨g3,m3,e3⟩:=k.G4;obtain⟨g4,m4,e4⟩:=k.G3;have:=h.le _ m3;have:=h.ge _ m4;have:=k.le _ m1;have:=k.ge _ m2;omega
def Bounds.aoV{hs gs:SS}{v:SD->Int}{a b:Int}(h:Bounds hs v a b)(hp:hs.Perm gs):Bounds gs v a b:=by
 obtain⟨g1,m1,e1⟩:=h.G4;obtain⟨g2,m2,e2⟩:=h.G3;exact⟨⟨g1,hp.mem_iff.1 m1,e1⟩,λg hg=>h.le g (hp.mem_iff.2 hg),⟨g2,hp.mem_iff.1 m2,e2⟩,λg hg=>h.ge g (hp.mem_iff.2 hg)⟩
end Tk
def agP{hs:SS}(v:SD->Int)(aH:hs≠[]):Bounds hs v (hs.foldl (λ(b:gY) h=>b.add (v h)) (⟨0,0,false⟩:gY)).lo (hs.foldl (λ(b:gY) h=>b.add (v h)) (⟨0,0,false⟩:gY)).hi:=by
 cases hs with
 |nil=>exact absurd rfl aH
 |cons g hs=>
  rw[VS,show gY.add ⟨0,0,false⟩ (v g)=⟨v g,v g,true⟩from rfl];obtain⟨_,h2,h3,h4,h5,h6,h7⟩:=PD v hs ⟨v g,v g,true⟩ rfl;generalize hs.foldl (λ(b:gY) h=>b.add (v h)) (⟨v g,v g,true⟩:gY)=R at*;dsimp only at h2 h3 h5 h6;refine⟨?_,?_,?_,?_⟩
  ·rcases h2 with h2|⟨h,a,c⟩
   ·exact⟨g,by simp,h2⟩
   ·exact⟨h,by simp[a],c⟩
  ·intro h hm;rcases Th.1 hm with rfl|hm
   ·exact h3
   ·exact h4 h hm
  ·rcases h5 with h2|⟨h,a,c⟩
   ·exact⟨g,by simp,h2⟩
   ·exact⟨h,by simp[a],c⟩
  ·intro h hm;rcases Th.1 hm with rfl|hm
   ·exact h6
   ·exact h7 h hm
open Go.Gg.Tk
def aca{h ns:SD}:∀{ss:S9}{t os:SE},os∈pG h ns ss t->(∀p∈t,p<ns.length)->os.length=t.length+ss.length/\∀p∈os,p<ns.length
 |[],t,os,hm,ht=>by
  simp only[pG,T7]at hm;subst hm;exact⟨rfl,ht⟩
 |s::ss,t,os,hm,ht=>by
  simp only[pG,T4,Vq,UA]at hm;obtain⟨p,⟨hp,_⟩,hm⟩:=hm;have:=aca hm λq hq=>by
   rcases Tp.1 hq with hq|hq
   ·exact ht q hq
   ·rw[T7.1 hq];exact hp
  refine⟨?_,this.2⟩;rw[this.1];simp;omega
def If{x:aj}(hx:x.Ok){u:Tr}(hu:u∈bx x):u.cj.length=x.aC.length/\∀p∈u.cj,p<x.pieces.length:=by
 have h2:=(wV hx hu).2;obtain⟨h,a,b⟩:=T4.1 hu;obtain⟨ns,c,d⟩:=T4.1 b;obtain⟨os,e,rfl⟩:=Um.1 d;have:=aca e (by simp);dsimp only at h2⊢;rw[<- h2];exact⟨by simpa using this.1,this.2⟩
def ah3{x:aj}(hx:x.Ok){u:Tr}(hu:u∈bx x){s:Nat}(hs:s<x.aC.length):rX (eK u) s=u.cj.getD s 0:=by
 obtain⟨h1,h2⟩:=wV hx hu;have h3:=(If hx hu).1;have hh:=hx.hours;have mT:=hx.cW;have h4:=yE (h:=u.bE) (by omega);have dQ:s<u.cj.length:=by omega
 have hg:(eK u)[8+s]?=some ((u.cj[s]:Nat):Int):=by
  unfold eK dC lz;have h8:(cL u.bE++((u.aB.map λn=>(n-u.bE.headD 0).toNat).map (λn:Nat=>(n:Int))++UE (4-(u.aB.map λn=>(n-u.bE.headD 0).toNat).length) (-1))).length=8:=by simp[h4];omega
  rw[Ud (by omega),h8,VJ,Tw (by simpa using dQ),Uo,Ts dQ];rfl
 unfold rX;rw[Se,hg,Se,Ts dQ];rfl
namespace Tk
def BW (x:aj)(f:Tr->Bool):Bool:=(bx x).any f
def sA{x:aj}{f:Tr->Bool}:BW x f=true<->∃u∈bx x,f u=true:=Vp
def xp (f:Nat->Bool)(more:Int)(i:Nat):SD:=((Tt i).filter f).map λn:Nat=>(n:Int)+more
def DW (x:aj)(p n:Nat):Bool:=BW x λu=>decide ((u.aB.getD p 0-u.bE.headD 0).toNat=n)
def jk (x:aj)(p q:Nat):Bool:=BW x λu=>decide (u.aB.getD p 0<u.aB.getD q 0)
def tG (x:aj)(s q:Nat):Bool:=BW x λu=>decide (u.cj.getD s 0=q)
def D2 (x:aj)(s q:Nat):Bool:=BW x λu=> !decide (u.cj.getD s 0=q)
def abn{s:Nat}{f:Nat->Bool}{more:Int}{i:Nat}(h:∀n,n<i->s.testBit n=f n):fB s more i=xp f more i:=by
 unfold fB xp;congr 1;exact Wo λn hn=>h n (UA.1 hn)
end Tk
def aoI{x:aj}{D:Kn}{p:Nat}(hx:x.Ok)(hD:eT x 1 D)(hp:p<x.pieces.length)(n:Nat):(D.aB.getD p 0).testBit n=DW x p n:=by
 rw[U9,am1 hx hD hp];unfold DW;rw[sA];simp only[decide_eq_true_eq]
def abk{x:aj}{D:Kn}{p q:Nat}(hx:x.Ok)(hD:eT x 1 D)(hp:p<x.pieces.length)(hq:q<x.pieces.length):(D.less.getD p 0).testBit q=jk x p q:=by
 rw[U9,am0 hx hD hp hq];unfold jk;rw[sA];simp only[decide_eq_true_eq]
def Nn{x:aj}{D:Kn}{s:Nat}(hx:x.Ok)(hD:eT x 2 D)(hs:s<x.aC.length)(n:Nat):(D.aY.getD s 0).testBit n=tG x s n:=by
 rw[U9,am2 hx hD hs];unfold tG;rw[sA];refine exists_congr λu=>and_congr_right λhu=> ?_;rw[ah3 hx hu hs,decide_eq_true_eq]
def apg{x:aj}{D:Kn}{s q:Nat}(hx:x.Ok)(hD:eT x 2 D)(hs:s<x.aC.length)(hh:D.has=true):(D.aY.getD s 0!=2^q)=D2 x s q:=by
 have hb:=Nn hx hD hs;rw[U9,bne_iff_ne];unfold D2;rw[sA];constructor
 ·intro aH;obtain⟨u,hu⟩:∃u,u∈bx x:=by
   rw[Dx hx hD]at hh;cases ht:bx x with
   |nil=>rw[ht]at hh;cases hh
   |cons u l=>exact⟨u,by simp⟩
  by_cases hu1:u.cj.getD s 0=q
  ·refine Uj λfi=>aH ?_;apply Nat.eq_of_testBit_eq;intro n;rw[hb,W3,U9,decide_eq_true_eq];unfold tG;rw[sA];constructor
   ·rintro⟨v,hv,e⟩
    rw[decide_eq_true_eq]at e;refine Uj λGz=>fi ⟨v,hv,?_⟩;rw[e];simp;exactλh=>Gz h.symm
   ·rintro rfl
    exact⟨u,hu,by rw[decide_eq_true_eq];exact hu1⟩
  ·exact⟨u,hu,by simpa using hu1⟩
 ·rintro⟨u,hu,h⟩ he
  have hp:tG x s (u.cj.getD s 0)=true:=by
   unfold tG;rw[sA];exact⟨u,hu,by simp⟩
  rw[<- hb,he,W3,decide_eq_true_eq]at hp;rw[hp]at h;simp at h
def apf{x:aj}{D:Kn}{s q:Nat}(hx:x.Ok)(hD:eT x 2 D)(hs:s<x.aC.length):(if D.has then vM ((D.aY.getD s 0).testBit q) (D.aY.getD s 0!=2^q)else 0)=if(bx x).isEmpty then 0 else vM (tG x s q) (D2 x s q):=by
 have hh:=Dx hx hD;cases Kx:D.has with
 |true=>
  rw[Kx]at hh;have:(bx x).isEmpty=false:=by simpa using hh.symm
  rw[this,if_pos rfl,Nn hx hD hs,apg hx hD hs Kx];rfl
 |false=>
  rw[Kx]at hh;have:(bx x).isEmpty=true:=by simpa using hh.symm
  rw[this];rfl
def agw{x:aj}{D:Kn}{a b:Nat}(hx:x.Ok)(hD:eT x 1 D)(ha:a<x.pieces.length)(hb:b<x.pieces.length):(if D.has then vM ((D.less.getD a 0).testBit b) ((D.less.getD b 0).testBit a)else 0)=if(bx x).isEmpty then 0 else vM (jk x a b) (jk x b a):=by
 have hh:=Dx hx hD;rw[abk hx hD ha hb,abk hx hD hb ha,hh];cases (bx x).isEmpty<;>rfl
def Pz{x:aj}{deep:Int}{D:Kn}(hx:x.Ok)(hD:eT x deep D):eC D=if(bx x).isEmpty then 11 else 0:=by
 have hh:=Dx hx hD;unfold eC;rw[hh];cases (bx x).isEmpty<;>rfl
open Go.Conc
section
variable (lv:Bool)(P:Tg)
def w5 (s:AS)(o:U8)(next:SV):Prop:=match o.op with
 |.buildSlice t len parts=>ao (qQ P t) λ(e,sz,z)=>len* sz<=2^24/\ao (jX s parts.toList) λjI=>ao (oi (gO.at (.elems sz)) (fO z (len* sz)) jI) λl=>next ((⟨s.T,s.H++[.cells l e]⟩:AS).put o.dst (.bI s.H.length 0 len len))
 |.call c=>match c.callee with
  |.builtin .append=>match c.args.toList,c.argTypes.toList with
   |[x,y],[t,t']=>ao (jE P t t') λ(elem,sz,_)=>ao (s.ev x) λa=>ao (s.ev y) λb=>a.vJ λn l e=>e=.exact/\ao (s.src sz b) λ(m,l')=>l.length=n* sz/\l'.length=m* sz/\n+m<=2^30/\0<m/\next ((⟨s.T,s.H++[.own sz (l++l') elem]⟩:AS).put o.dst (.bI s.H.length 0 (n+m) 0))
   |_,_=>False
  |_=>False
 |_=>False
def qM (m:Nat):Nat->List U8->AS->(SV)->(AV->SV)->Prop
 |_,[],s,K,_=>K s
 |k,o::rest,s,K,bad=>o.guard=none/\(bif k==m then w5 P s o (λs'=>qM m (k+1) rest s' K bad)else mB lv P s o (λs'=>qM m (k+1) rest s' K bad) bad)
end
section
variable {lv:Bool}{P:Tg}{r:SL}{s:AS}
def w5.step{o:U8}{next:SV}{bad:AV->SV}(h:w5 P s o next):Step lv P r o s next bad:=by
 unfold w5 at h;split at h
 ·rename_i t len parts ho;obtain⟨⟨e,sz,z⟩,h1,h2,h⟩:=h.out;obtain⟨jI,h3,h⟩:=h.out;obtain⟨l,h4,h⟩:=h.out;exact adr ho h1 h2 h3 h4 h
 ·rename_i c ho;split at h
  ·rename_i aV;split at h
   ·rename_i x y t t' ha dU;obtain⟨⟨elem,sz,z⟩,h1,hA⟩:=h.out;obtain⟨a,h2,hB⟩:=hA.out;obtain⟨b,h3,hC⟩:=hB.out;obtain⟨n,l,e,e1,e0,hD⟩:=Pc hC;subst e1 e0;obtain⟨⟨m,l'⟩,h4,h5,h6,h7,h8,h9⟩:=hD.out;exact adp ho aV (nk ha) (r_ dU) h1 h2 h3 h4 h5 h6 h7 h8 h9
   ·exact h.elim
  ·exact h.elim
 ·exact h.elim
def qM.adi{m:Nat}{K:SV}{bad:AV->SV}:∀(l:List U8)(k:Nat)(s:AS),qM lv P m k l s K bad->BG lv P r l s K bad
 |[],k,s,h=>h
 |o::rest,k,s,h=>by
  obtain⟨h1,h2⟩:=h;refine⟨h1,?_⟩;have hs:∀{s'},qM lv P m (k+1) rest s' K bad->BG lv P r rest s' K bad:=λ{s'} h=>qM.adi rest (k+1) s' h;cases hkm:(k==m)<;>rw[hkm]at h2<;>simp only[cond_true,cond_false]at h2
  rotate_left
  ·exact(w5.step h2).mono (λ_ h=>hs h) (λ_ _ h=>h)
  ·exact(mB.sound (r:=r) h2).mono (λ_ h=>hs h) (λ_ _ h=>h)
def aga{nt id:Nat}{ops:SK}{Φ:SI}(m:Nat)(hd:jL nt ops=true)(h:qM lv P m 0 ops.toList s (Φ .normal) (λpv s=>Φ (.panic pv) s)):aZ lv P r nt (.region id ops false) s Φ:=agb hd (h.adi ops.toList 0 s)
end
def ae1:type_of% @w5.eq_1:=by intros;rw[w5.eq_1]
def aoL:type_of% @qM.eq_1:=by intros;rw[qM.eq_1]
def aoK:type_of% @qM.eq_2:=by intros;rw[qM.eq_2]
attribute [seval] ae1 aoL aoK
open Go.Proofs Go.Gg.Tk
namespace Tk
def fL:aj:=⟨10,3,2,[⟨2,⟨12,13⟩⟩],[⟨⟨10,12⟩,⟨0,1⟩⟩,⟨⟨11,11⟩,⟨0,2⟩⟩,⟨⟨12,15⟩,⟨1,2⟩⟩],[⟨⟨12,12⟩,⟨0,2⟩⟩,⟨⟨10,15⟩,⟨2,2⟩⟩]⟩
def tF:aj:={fL with aC:=[⟨⟨15,15⟩,⟨0,0⟩⟩,⟨⟨10,15⟩,⟨2,2⟩⟩]}
end Tk
def aes:fO (Us #[S_ .i64 0,S_ .i64 0,S_ .i64 0]) 3=[iv 0,iv 0,iv 0]:=rfl
def aer:fO (Us #[S_ .i64 0,S_ .i64 0,S_ .i64 0,S_ .i64 0]) 12=UE 12 (iv 0):=rfl
def aeq:fO (Us #[S_ .i64 0,S_ .i64 0,S_ .i64 0,S_ .i64 0]) 8=[iv 0,iv 0,iv 0,iv 0,iv 0,iv 0,iv 0,iv 0]:=rfl
def acH:UE 12 (iv 0)=[iv 0,iv 0,iv 0,iv 0,iv 0,iv 0,iv 0,iv 0,iv 0,iv 0,iv 0,iv 0]:=rfl
def acg:(3<=2^24)=True:=eq_true (by decide)
def ach:(8<=2^24)=True:=eq_true (by decide)
def acf:(12<=2^24)=True:=eq_true (by decide)
section
variable {lv:Bool}{H:SA}{k kp:SF}
def xE(hk:k fL.av H):a_ lv ij 50 H [] k kp:=by
 refine bw (rs:=[.cell 0 25]) (nt:=11) awg λhH hA=> ?_;simp only[bc,To];refine ai ?_;refine ai ?_;refine aK (QF (a:=2) (b:=12) (c:=13) ?_);(try simp only[seval,Seen.av,Seen.l,iz.av,aes,acg]);refine aK (qX (a:=10) (b:=12) (c:=0) (d:=1) ?_);(try simp only[seval]);refine aK (qX (a:=11) (b:=11) (c:=0) (d:=2) ?_);(try simp only[seval]);refine aK (qX (a:=12) (b:=15) (c:=1) (d:=2) ?_);(try simp only[seval,aD.av,aD.l,aer,acH,acf]);refine aK (qX (a:=12) (b:=12) (c:=0) (d:=2) ?_);(try simp only[seval]);refine aK (qX (a:=10) (b:=15) (c:=2) (d:=2) ?_);(try simp only[seval,aD.av,aD.l,aeq,ach,TN,TS]);refine kq ?_;simp only[seval,TN];refine eV hH (b:=fL.av) (Ep (.cons (Wk.refl _) (.cons (Wk.refl _) (.cons (Wk.refl _) (.cons (gF _ _ _) (.cons (gF _ _ _) (.cons (gF _ _ _) .nil))))))) (by rw[AJ];trivial) hk
def ajm(hk:∀X:aa,k (.agg [iv 10,iv 3,iv 2,.sl 1 (fL.seen.flatMap Seen.l) .exact,.sl 3 (fL.pieces.flatMap aD.l) .exact,.bI (H.length+1) 0 2 2]) (H++[X,.cells (fL.aC.flatMap aD.l) 68])):a_ lv ij 50 H [] k kp:=by
 refine bw (rs:=[.cell 0 25]) (nt:=11) awg λhH hA=> ?_;simp only[bc,To];refine ai ?_
 (repeat apply iA);refine aga 8 (by kernel_rfl) ?_
 simp only[seval];refine aK (QF (a:=2) (b:=12) (c:=13) ?_);(try simp only[seval,Seen.av,Seen.l,iz.av,aes,acg]);refine aK (qX (a:=10) (b:=12) (c:=0) (d:=1) ?_);(try simp only[seval]);refine aK (qX (a:=11) (b:=11) (c:=0) (d:=2) ?_);(try simp only[seval]);refine aK (qX (a:=12) (b:=15) (c:=1) (d:=2) ?_);(try simp only[seval,aD.av,aD.l,aer,acH,acf]);refine aK (qX (a:=12) (b:=12) (c:=0) (d:=2) ?_);(try simp only[seval]);refine aK (qX (a:=10) (b:=15) (c:=2) (d:=2) ?_);(try simp only[seval,aD.av,aD.l,aeq,ach,TN,TS]);refine kq ?_;simp only[seval,TN];exact bZ (hk _)
def Ta{H:List aa}:∀(L:SA)(y:aa),(H++L).set (H.length+3) y=H++L.set 3 y:=λL y=>dg H L 3 y
def ajn(hk:k tF.av H):a_ lv ij 53 H [] k kp:=by
 refine bw (rs:=[.cell 0 25]) (nt:=8) Tryz.f53 λhH hA=> ?_;simp only[bc,To];refine ai ?_;refine ai ?_;refine aK (ajm (λX=> ?_));simp only[Ax,WK,Vo];have hrx:fL.aC.flatMap aD.l=[iv 12,iv 12,iv 0,iv 2,iv 10,iv 15,iv 2,iv 2]:=rfl;rw[hrx];have e2:H.length+1+1=H.length+2:=rfl;(try simp only[seval,TU,Ta,e2]);refine eo 4 ?_;simp only[seval,TR,TW,TU];refine gE _ (cO (qX (a:=15) (b:=15) (c:=0) (d:=0) ⟨rfl,rfl⟩)) ?_;(try simp only[seval,aD.av,aD.l,TR,TW]);obtain⟨rs,Dg⟩:∃rs,rs=tF.aC.flatMap aD.l:=⟨_,rfl⟩;have amm:[AV.val (S_ Tc 15),AV.val (S_ Tc 15),AV.val (S_ Tc 0),AV.val (S_ Tc 0),AV.val (S_ Tc 10),AV.val (S_ Tc 15),AV.val (S_ Tc 2),AV.val (S_ Tc 2)]=rs:=by rw[Dg];rfl
 have tg:rs.length=8:=by rw[Dg];rfl
 rw[amm];refine ah ?_;simp only[seval,TN,TS,TU]
 (repeat apply iA);refine I6 (id:=H.length+2) (by simp only[seval,TR]<;>rfl) ?_
 simp only[seval,TW,tg]
 (repeat apply iA);refine agh (id:=H.length) (j:=5) (y:=aQ tF.aC) (by simp only[seval,TN]<;>rfl) rfl ?_ ?_
 ·have e:aQ tF.aC=.sl 2 (rs.take 8) .shut:=by rw[Tn (by omega),Dg];rfl
  rw[e];exact On (p:=8) (by simp only[seval,TR]<;>rfl) (by omega) (by omega)
 (try simp only[seval,TS]);refine kq ?_;simp only[seval,TN];refine eV hH (b:=tF.av) (Ep (.cons (Wk.refl _) (.cons (Wk.refl _) (.cons (Wk.refl _) (.cons (gF _ _ _) (.cons (gF _ _ _) (.cons (Wk.refl _) .nil))))))) (by rw[AJ];trivial) hk
end
open Go.Gg.Tk
def yH:fL.Ok:=by
 refine⟨by decide,by decide,by decide,by decide,by decide,by decide,λs hs=> ?_,λy hy=> ?_,λy hy=> ?_⟩
 ·simp only[fL,T7]at hs;subst hs;exact⟨by decide,by decide,by decide,by decide⟩
 ·simp only[fL,Th,Tv,or_false]at hy;rcases hy with rfl|rfl|rfl<;>exact⟨⟨by decide,by decide,by decide⟩,⟨by decide,by decide,by decide⟩⟩
 ·simp only[fL,Th,Tv,or_false]at hy;rcases hy with rfl|rfl<;>exact⟨⟨by decide,by decide,by decide⟩,⟨by decide,by decide,by decide⟩⟩
def aoM:tF.Ok:=by
 refine⟨by decide,by decide,by decide,by decide,by decide,by decide,λs hs=> ?_,λy hy=> ?_,λy hy=> ?_⟩
 ·simp only[tF,fL,T7]at hs;subst hs;exact⟨by decide,by decide,by decide,by decide⟩
 ·simp only[tF,fL,Th,Tv,or_false]at hy;rcases hy with rfl|rfl|rfl<;>exact⟨⟨by decide,by decide,by decide⟩,⟨by decide,by decide,by decide⟩⟩
 ·simp only[tF,Th,Tv,or_false]at hy;rcases hy with rfl|rfl<;>exact⟨⟨by decide,by decide,by decide⟩,⟨by decide,by decide,by decide⟩⟩
def ais:cnt fL=4:=by kernel_rfl
def aiv:live fL=[[10,11,13,14],[10,11,13,15],[10,12,13,14],[10,12,13,15]]:=by kernel_rfl
def ait:(bx fL).head?=some ⟨[10,11,13,14],[12,11,13],[0,2]⟩:=by kernel_rfl
def aiw:xp (DW fL 2) 10 16=[13,14]:=by kernel_rfl
def Qw:tG fL 0 0=true/\D2 fL 0 0=false:=by decide+kernel
def Qu:FK tF=some [0]:=by kernel_rfl
def aiq:zh (fL.wo [1]) ⟨⟨10,15⟩,⟨2,2⟩⟩ 0 3=1:=by kernel_rfl
open Go.Conc Go.Proofs
def Tk.Bounds.of_map{l:SS}{g:SD->SD}{v w:SD->Int}{a b:Int}(h:Bounds (l.map g) v a b)(e:∀y∈l,v (g y)=w y):Bounds l w a b:=by
 obtain⟨g1,m1,e1⟩:=h.G4;obtain⟨g2,m2,e2⟩:=h.G3;obtain⟨y1,n1,rfl⟩:=Um.1 m1;obtain⟨y2,n2,rfl⟩:=Um.1 m2;exact⟨⟨y1,n1,e1.trans (e y1 n1)⟩,λy hy=>by rw[<- e y hy];exact h.le _ (Um.2 ⟨y,hy,rfl⟩),⟨y2,n2,e2.trans (e y2 n2)⟩,λy hy=>by rw[<- e y hy];exact h.ge _ (Um.2 ⟨y,hy,rfl⟩)⟩
def apc{h:SD}{i:Nat}(hi:i<h.length):(cL h).getD i 0=h.getD i 0:=by
 unfold cL;rw[Se,Se,Tw hi]
def anO{x:aj}{h:SD}(hm:h∈live x):h.length=1+x.hours.toNat:=Ln (Vq.1 hm).1
def apE{x:aj}{D:Kn}(hx:x.Ok)(hD:eT x 0 D)(hh:D.has=true){hs:SS}(hp:hs.Perm D.aM)(v:SD->Int)(w:SD->Int)(e:∀y∈live x,v (cL y)=w y):Bounds (live x) w (hs.foldl (λb h=>b.add (v h)) (⟨0,0,false⟩:gY)).lo (hs.foldl (λb h=>b.add (v h)) (⟨0,0,false⟩:gY)).hi:=by
 have dM:=hp.trans (aa6 hx hD);have aH:hs≠[]:=λh=>by
  rw[h]at dM;have:=dM.length_eq;rw[Un]at this;have h0:live x=[]:=YU this.symm;rw[(yo hx hD).2 (M0.1 h0)]at hh;cases hh
 exact((agP v aH).aoV dM).of_map e
def MQ{x:aj}{deep:Int}{D:Kn}(hx:x.Ok)(hD:eT x deep D)(hh:D.has=true):bx x≠[]:=λh=>by
 rw[(yo hx hD).2 h]at hh;cases hh
def abD{α:Type}{f:Nat->α}{l:List α}{n:Nat}(d:α)(hl:l.length=n)(h:∀i,i<n->f i=l.getD i d):(Tt n).map f=l:=by
 refine X2 λi=> ?_;rw[Uo];by_cases hi:i<n
 ·rw[au' hi,VL,h i hi,Se,Ts (by omega)];rfl
 ·rw[Vx (by simp;omega),Vx (by omega)];rfl
def ah4{x:aj}(hx:x.Ok){u:Tr}(hu:u∈bx x){s:Nat}(hs:s<x.aC.length):(eK u).getD (8+s) 0=((u.cj.getD s 0:Nat):Int):=by
 obtain⟨h1,h2⟩:=wV hx hu;have h3:=(If hx hu).1;have hh:=hx.hours;have mT:=hx.cW;have h4:=yE (h:=u.bE) (by omega);have dQ:s<u.cj.length:=by omega
 have hg:(eK u)[8+s]?=some ((u.cj[s]:Nat):Int):=by
  unfold eK dC lz;have h8:(cL u.bE++((u.aB.map λn=>(n-u.bE.headD 0).toNat).map (λn:Nat=>(n:Int))++UE (4-(u.aB.map λn=>(n-u.bE.headD 0).toNat).length) (-1))).length=8:=by simp[h4];omega
  rw[Ud (by omega),h8,VJ,Tw (by simpa using dQ),Uo,Ts dQ];rfl
 rw[Se,hg,Se,Ts dQ];rfl
def as9{x:aj}{u:Tr}(hu:u∈bx x):u.bE.headD 0=x.first:=by
 obtain⟨h,a,b⟩:=T4.1 hu;rw[yQ b];exact(Ah _ _ _ (by simp) a).2
def ajP{x:aj}(hx:x.Ok){u:Tr}(hu:u∈bx x):(eK u).take (x.hours.toNat+1)=u.bE:=by
 have hl:=(wV hx hu).1;have hh:=hx.hours;have h1:(eK u).take (x.hours.toNat+1)=((eK u).take 4).take (x.hours.toNat+1):=by rw[Wi,Xx (by omega)]
 rw[h1,JN hx hu];exact Nm (by omega)
def ajQ{x:aj}(hx:x.Ok){u:Tr}(hu:u∈bx x):sJ x (eK u) x.pieces.length=u.aB:=by
 unfold sJ;refine abD 0 (wV hx hu).2 λi hi=> ?_;rw[JM hx hu hi,as9 hu];omega
def ajR{x:aj}(hx:x.Ok){u:Tr}(hu:u∈bx x):sK (eK u) x.aC.length=u.cj.map λn:Nat=>(n:Int):=by
 unfold sK;refine abD 0 (by rw[Un];exact(If hx hu).1) λi hi=> ?_;have hl:=(If hx hu).1;rw[ah4 hx hu hi,Se,Se,Uo,Ts (by omega)];rfl
def ag1{x:aj}(hx:x.Ok):pX x= !(bx x).isEmpty:=by
 rw[U9];unfold pX;rw[Vp];have key:(∃i∈Tt (x.am.toNat+1),((j6 x i).any λh=> !(iI x 0 h).isEmpty)=true)<->∃i,i<x.am.toNat+1/\eD x 0 i≠[]:=by
  refine exists_congr λi=> ?_;rw[UA];refine and_congr_right λhi=> ?_;rw[Vp,ne_eq];unfold eD;rw[Wv];constructor
  ·rintro⟨h,h1,h2⟩ h3
   rw[h3 h h1]at h2;cases h2
  ·intro h1;refine Uj λh2=>h1 λh hm=> ?_;refine Uj λh3=>h2 ⟨h,hm,?_⟩;cases hc:iI x 0 h with
   |nil=>exact absurd hc h3
   |cons=>rfl
 rw[key];have k2:(∃i,i<x.am.toNat+1/\eD x 0 i≠[])<->nj x 0≠[]:=by
  unfold nj;rw[<- Ou hx,ne_eq,Wv];constructor
  ·rintro⟨i,h1,h2⟩ h3
   rw[zK hx h1]at h2;exact h2 (by rw[h3 i (UA.2 h1)];rfl)
  ·intro h1;refine Uj λh2=>h1 λi hi=> ?_;refine Uj λh3=>h2 ⟨i,UA.1 hi,?_⟩;rw[zK hx (UA.1 hi)];simpa using h3
 rw[k2,ne_eq,O9];cases bx x<;>simp
section
variable {H:SA}{k kp:SF}{x:aj}
def JW(hx:x.Ok)(hm:H[0]?=some .main)(hk:k (.aF [iv (cnt x),iv 0]) H):a_ true ij 16 H [x.av] k kp:=
 aiY hx hm λD hD=>by rw[count_eq hx hD];exact hk
def ai7{hour:Nat}(hx:x.Ok)(hh:(hour:Int)<=x.hours)(hm:H[0]?=some .main)(h0:bx x=[]->k (.aF [.agg [iv 0,iv 0],iv 11]) H)(h1:∀lo hi,bx x≠[]->Bounds (live x) (λh=>h.getD hour 0) lo hi->k (.aF [.agg [iv lo,iv hi],iv 0]) H):a_ true ij 31 H [x.av,iv hour] k kp:=
 ai6 hx hh hm λD hD=>⟨λhn=>h0 ((yo hx hD).1 hn),λhy hs hp=>h1 _ _ (MQ hx hD hy) (apE hx hD hy hp (λh=>h.getD hour 0) _ λy pw=>apc (by rw[anO pw];have:=hx.hours;omega))⟩
def aje{q:Nat}(hx:x.Ok)(hq:q<x.pieces.length)(hm:H[0]?=some .main)(h0:bx x=[]->k (.aF [bp [],iv 11]) H)(h1:bx x≠[]->k (.aF [bp (xp (DW x q) x.first 16),iv 0]) H):a_ true ij 41 H [x.av,iv q] k kp:=
 ajd hx hq hm λD hD=>⟨λhn=>h0 ((yo hx hD).1 hn),λhy=>by rw[abn λn _=>aoI hx hD hq n];exact h1 (MQ hx hD hy)⟩
def ai1{s q:Nat}(hx:x.Ok)(hs:s<x.aC.length)(hq:q<x.pieces.length)(hm:H[0]?=some .main)(hk:k (.aF [iv (if(bx x).isEmpty then 0 else vM (tG x s q) (D2 x s q)),iv (if(bx x).isEmpty then 11 else 0)]) H):a_ true ij 22 H [x.av,iv s,iv q] k kp:=
 ai0 hx hs hq hm λD hD=>by rw[apf hx hD hs,Pz hx hD];exact hk
def QE{a b:Nat}(hx:x.Ok)(ha:a<x.pieces.length)(hb:b<x.pieces.length)(hm:H[0]?=some .main)(h0:a=b->k (.aF [iv 0,iv 8]) H)(hk:a≠b->k (.aF [iv (if(bx x).isEmpty then 0 else vM (jk x a b) (jk x b a)),iv (if(bx x).isEmpty then 11 else 0)]) H):a_ true ij 45 H [x.av,iv a,iv b] k kp:=
 ajf hx ha hb hm h0 λdJ D hD=>by rw[agw hx hD ha hb,Pz hx hD];exact hk dJ
def Cn (x:aj)(i:Nat):SD:=(Tt i).flatMap λs=>if 1<(xp (tG x s) 0 16).length then[-1]else xp (tG x s) 0 16
def ai3(hx:x.Ok)(hm:H[0]?=some .main)(h0:bx x=[]->k (.aF [bp [],iv 11]) H)(h1:bx x≠[]->k (.aF [bp (Cn x x.aC.length),iv 0]) H):a_ true ij 24 H [x.av] k kp:=
 ai2 hx hm λD hD=>⟨λhn=>h0 ((yo hx hD).1 hn),λhy=>by
  have e:un D.aY x.aC.length=Cn x x.aC.length:=by
   unfold un Cn;refine Ch λs hs=> ?_;rw[abn λn _=>Nn hx hD (UA.1 hs) n]
  rw[e];exact h1 (MQ hx hD hy)⟩
def ai9(hx:x.Ok)(hm:H[0]?=some .main)(h0:bx x=[]->k (.aF [bp [],bp [],bp [],iv 11]) H)(h1:∀u l,bx x=u::l->k (.aF [bp u.bE,bp u.aB,bp (u.cj.map λn:Nat=>(n:Int)),iv 0]) H):a_ true ij 35 H [x.av] k kp:=
 ai8 hx hm λD hD=>⟨λhn=>h0 ((yo hx hD).1 hn),λhy=>by
  obtain⟨u,l,e1,e2⟩:=amY hx hD hy;have hu:u∈bx x:=by rw[e1];simp
  rw[e2,ajP hx hu,ajQ hx hu,ajR hx hu];exact h1 u l e1⟩
end
variable {x:aj}
namespace Tk
end Tk
variable {x:aj}
def aoJ(hx:x.Ok){u:Tr}(hu:u∈bx x){a b:Nat}(ha:a<x.pieces.length)(hb:b<x.pieces.length)(dJ:a≠b):u.aB.getD a 0≠u.aB.getD b 0:=by
 have h:=(Hl hx).1 hu;have hl:=h.u_;have hn:=Vm.1 h.DY;rw[XF]at hn;rw[Se,Se,Ts (by omega),Ts (by omega)];rcases Nat.lt_or_gt_of_ne dJ with h1|h1
 ·exact hn a b (by omega) (by omega) h1
 ·exact(hn b a (by omega) (by omega) h1).symm
def anJ(hx:x.Ok)(aH:bx x≠[]){a b:Nat}(ha:a<x.pieces.length)(hb:b<x.pieces.length)(dJ:a≠b):jk x a b=true\/jk x b a=true:=by
 obtain⟨u,hu⟩:=WS _ aH;have:=aoJ hx hu ha hb dJ;rcases Int.lt_or_gt_of_ne this with h|h
 ·exact .inl (sA.2 ⟨u,hu,by simpa using h⟩)
 ·exact .inr (sA.2 ⟨u,hu,by simpa using h⟩)
open Go.Gg.Tk
variable {x:aj}
def Ca(x:aj):0<cnt x<->bx x≠[]:=by
 unfold cnt;rw[show (0:Int)<((live x).length:Int)<->live x≠[] by rw[<- Wy];omega];exact not_congr M0
namespace Tk
def tS (P:Int->Prop)(o:Int):Prop:=(o= -1/\∀d,¬P d)\/(0<=o/\P o/\∀d,P d->o<=d)
def tS.congr{P Q:Int->Prop}{o:Int}(h:∀d,P d<->Q d)(hP:tS P o):tS Q o:=by
 rcases hP with⟨e,h1⟩|⟨e,h1,h2⟩
 ·exact .inl ⟨e,λd hd=>h1 d ((h d).2 hd)⟩
 ·exact .inr ⟨e,(h o).1 h1,λd hd=>h2 d ((h d).2 hd)⟩
def tS.uniq{P:Int->Prop}{a b:Int}(ha:tS P a)(hb:tS P b):a=b:=by
 rcases ha with⟨e,h1⟩|⟨e,h1,h2⟩<;>rcases hb with⟨f,g1⟩|⟨f,g1,g2⟩
 ·omega
 ·exact absurd g1 (h1 _)
 ·exact absurd h1 (g1 _)
 ·have:=h2 _ g1;have:=g2 _ h1;omega
def tS.add{P:Int->Prop}{o m o':Int}(h:tS P o)(hm:0<=m)(ho:o'=if o<0\/m<o then m else o):tS (λd=>P d\/d=m) o':=by
 subst ho;right;rcases h with⟨e,h1⟩|⟨e,h1,h2⟩
 ·rw[if_pos (.inl (by omega))];exact⟨hm,.inr rfl,λd hd=>by
   rcases hd with hd|hd
   ·exact absurd hd (h1 d)
   ·omega⟩
 ·by_cases c:m<o
  ·rw[if_pos (.inr c)];exact⟨hm,.inr rfl,λd hd=>by
    rcases hd with hd|hd
    ·have:=h2 d hd;omega
    ·omega⟩
  ·rw[if_neg (by omega)];exact⟨e,.inl h1,λd hd=>by
    rcases hd with hd|hd
    ·exact h2 d hd
    ·omega⟩
end Tk
open Go.Gg.Tk
namespace Tk
def ag0{x:aj}(hx:x.Ok):pX x=decide (0<cnt x):=by
 rw[ag1 hx];have:=Ca x;cases h:bx x with
 |nil=>
  have:¬0<cnt x:=λe=>(this.1 e) h;rw[decide_eq_false this];rfl
 |cons a l=>
  rw[decide_eq_true (this.2 (by rw[h];simp))];rfl
end Tk
open Go.Gg.Tk
namespace Tk
def Before (l m:SD):Prop:=∃k,l.take k=m.take k/\k<l.length/\k<m.length/\l.getD k 0<m.getD k 0
end Tk
variable {x:aj}
open Go.Gg.Tk
namespace Tk
def abO{α:Type}[DecidableEq α]:∀{l m:List α},l.Nodup->(∀a∈l,a∈m)->l.length<=m.length
 |[],m,_,_=>Z1 _
 |a::l,m,h,hs=>by
  have ha:=hs a (by simp);obtain⟨h1,h2⟩:=WM.1 h;have:=abO (m:=m.erase a) h2 λb hb=>(List.mem_erase_of_ne (λe=>h1 (by rw[<- e];exact hb))).2 (hs b (by simp[hb]));have h3:=List.length_erase_of_mem ha;have h4:=List.length_pos_of_mem ha;rw[UU];omega
def anP(x:aj):(live x).Nodup:=(aac x).filter _
def ahc{x z:aj}(h:∀u∈bx x,∃w∈bx z,w.bE=u.bE):cnt x<=cnt z:=by
 have:=abO (l:=live x) (m:=live z) (anP x) λg hg=>by
  obtain⟨u,hu,rfl⟩:=wH.1 hg;obtain⟨w,hw,e⟩:=h u hu;exact wH.2 ⟨w,hw,e⟩
 unfold cnt;omega
def Ea (x:aj)(p:Nat)(y:aD):aj:={x with pieces:=x.pieces.set p y}
end Tk
variable {x:aj}
open Go.Gg.Tk
namespace Tk
end Tk
open Go.Gg.Tk
namespace Tk
structure Inv (f g:Nat->Nat)(n:Nat):Prop where
 fl:∀i,i<n->f i<n
 gl:∀i,i<n->g i<n
 gf:∀i,i<n->g (f i)=i
 fg:∀i,i<n->f (g i)=i
def Inv.symm{f g:Nat->Nat}{n:Nat}(h:Inv f g n):Inv g f n:=⟨h.gl,h.fl,h.fg,h.gf⟩
variable {x:aj}{l:S9}{f g:Nat->Nat}
end Tk
open Go.Gg.Tk
namespace Tk
end Tk
section
variable {x:aj}
end
open Go.Gg.Tk
namespace Tk
section
variable {x:aj}
end
end Tk
open Go.Gg.Tk
namespace Tk
variable {x:aj}
def anQ{x:aj}:(!(live x).isEmpty)=true<->∃u,u∈bx x:=by
 rw[UK,List.isEmpty_eq_false_iff];constructor
 ·intro h;obtain⟨a,ha⟩:=WS _ h;obtain⟨u,hu,_⟩:=wH.1 ha;exact⟨u,hu⟩
 ·rintro⟨u,hu⟩ h
  have:=wH.2 ⟨u,hu,rfl⟩;rw[h]at this;cases this
end Tk
open Go.Gg.Tk
namespace Tk
end Tk
open Go.Conc Go.Proofs Go.Gg.Tk
section
variable {lv:Bool}{H:SA}{k kp:SF}
end
namespace Tk
end Tk
open Go.Conc Go.Proofs Go.Gg.Tk
section
variable {lv:Bool}{H:SA}{k kp:SF}
end
namespace Tk
def Want.l (w:Want):SC:=[iv w.kind,iv w.x,iv w.y]
def Want.av (w:Want):AV:=.agg w.l
end Tk
open Go.Conc Go.Proofs Go.Gg.Tk
section
variable {lv:Bool}{H:SA}{k kp:SF}
end
namespace Tk
end Tk
section
variable {lv:Bool}
end
open Go.Conc Go.Proofs Go.Gg.Tk
section
variable {lv:Bool}{H:SA}{k kp:SF}
def fb (x:aj)(y:Seen):aj:={x with seen:=x.seen++[y]}
def ajl{x:aj}{y:Seen}(hl:x.seen.length<=2^20)(hk:k (fb x y).av H):a_ lv ij 49 H [x.av,y.av] k kp:=by
 refine bw (rs:=[.cell 4 25]) (nt:=14) Tryz.f49 λhH hA=> ?_;simp only[bc,To,aj.av,Seen.av];have oE:∀L:SA,(H++L).length=H.length+L.length:=λL=>Tx;have ie:(x.seen.flatMap Seen.l).length=x.seen.length* 3:=by
  generalize x.seen=l;induction l with
  |nil=>rfl
  |cons a l ih=>rw[UQ,Tx,ih,UU,Xg,awa];rfl
 have aE:VC (x.seen.length* 3) (x.seen.flatMap Seen.l)=x.seen.flatMap Seen.l:=Tn (by omega);have IE:fO (Us #[S_ .i64 0,S_ .i64 0,S_ .i64 0]) 3=[iv 0,iv 0,iv 0]:=rfl;refine ah ?_;simp only[seval,TM,Seen.l];refine oY [3,6,8] (Tt 9) (λD=>bif isDone 8 D then H++[.cells [iv x.first,iv x.hours,iv x.am,.sl (x.seen.length+1) (x.seen.flatMap Seen.l++[iv y.hour,iv y.next.min,iv y.next.max]) (.opn (H.length+3)),aQ x.pieces,aQ x.aC] 25,.cells y.l 29,.cells [iv 0,iv 0,iv 0,.sl 0 [] .exact,.sl 0 [] .exact,.sl 0 [] .exact] 25,.tail (x.seen.length+1) 3 29]else bif isDone 6 D then H++[.cells x.l 25,.cells y.l 29,.cells [iv 0,iv 0,iv 0,.sl 0 [] .exact,.sl 0 [] .exact,.sl 0 [] .exact] 25,.tail (x.seen.length+1) 3 29]else bif isDone 3 D then H++[.cells x.l 25,.cells y.l 29,.cells [iv 0,iv 0,iv 0,.sl 0 [] .exact,.sl 0 [] .exact,.sl 0 [] .exact] 25,.tail x.seen.length 3 29]else H++[.cells x.l 25,.cells y.l 29,.cells [iv 0,iv 0,iv 0,.sl 0 [] .exact,.sl 0 [] .exact,.sl 0 [] .exact] 25]) ?_;simp only[seval,TM,cz,Seen.l,TN,TO,TR,TU,TS,Ta,oE,ie,aE,IE];(repeat refine⟨by first|omega|decide|simp,?_⟩);have Sb:∀(L:SA),(H++L)[H.length+1+1]?=L[2]?:=TR;have amn:∀(L:SA)(y:aa),(H++L).set (H.length+1+1) y=H++L.set 2 y:=TW;refine ah ?_;simp only[seval,TN,Sb,amn];refine⟨⟨rfl,rfl⟩,?_⟩;refine kq ?_;simp only[seval,Sb];have F3:(fb x y).av=.agg [iv x.first,iv x.hours,iv x.am,.sl (x.seen.length+1) (x.seen.flatMap Seen.l++[iv y.hour,iv y.next.min,iv y.next.max]) .shut,aQ x.pieces,aQ x.aC]:=by
  unfold fb aj.av aj.l cz;rw[Tx,VN];rfl
 rw[F3]at hk;refine eV hH (Ep (.cons (Wk.refl _) (.cons (Wk.refl _) (.cons (Wk.refl _) (.cons (gF _ _ _) (.cons (Wk.refl _) (.cons (Wk.refl _) .nil))))))) ?_ hk;rw[<- F3];rw[AJ];trivial
end
variable {x:aj}{s:Seen}
def atq(hx:x.Ok)(hl:x.seen.length<=2)(hs:(0<=s.hour/\s.hour<=x.hours)/\vv s.next 99):(fb x s).Ok:=by
 refine⟨hx.first,hx.hours,hx.am,?_,hx.cW,hx.eG,λz hz=> ?_,λz hz=>⟨(hx.piece z hz).1,(hx.piece z hz).2⟩,λz hz=>⟨(hx.stub z hz).1,(hx.stub z hz).2⟩⟩
 ·unfold fb;rw[Tx];simp;omega
 ·rcases Tp.1 hz with hz|hz
  ·exact hx.seen z hz
  ·obtain rfl:z=s:=(by simpa using hz);exact hs
def aed(hx:x.Ok)(hw:(fb x s).Ok){u:Tr}(hu:u∈bx (fb x s)):u∈bx x:=by
 have h:=(Hl hw).1 hu;exact(Hl hx).2 ⟨h.bE,λz hz=>h.seen z (Tp.2 (.inl hz)),h.u_,h.piece,h.DY,h.yD,h.own,h.stub,h.HI⟩
def atp(hx:x.Ok)(hw:(fb x s).Ok):cnt (fb x s)<=cnt x:=ahc λu hu=>⟨u,aed hx hw hu,rfl⟩
def aec(hx:x.Ok)(hw:(fb x s).Ok){a b:Nat}(h:jk (fb x s) a b=true):jk x a b=true:=by
 obtain⟨u,hu,h1⟩:=sA.1 h;exact sA.2 ⟨u,aed hx hw hu,h1⟩
def atr(hx:x.Ok)(hw:(fb x s).Ok)(aH:bx (fb x s)≠[]){a b:Nat}(ha:a<x.pieces.length)(hb:b<x.pieces.length)(dJ:a≠b)(hv:vM (jk x a b) (jk x b a)≠3):vM (jk (fb x s) a b) (jk (fb x s) b a)=vM (jk x a b) (jk x b a):=by
 have h2:=anJ hw aH (a:=a) (b:=b) ha hb dJ;have h3:=λh=>aec hx hw (a:=a) (b:=b) h;have h4:=λh=>aec hx hw (a:=b) (b:=a) h;cases e1:jk x a b<;>cases e2:jk x b a<;>cases e3:jk (fb x s) a b<;>cases e4:jk (fb x s) b a<;>rw[e1,e2]at hv<;>rw[e1,e3]at h3<;>rw[e2,e4]at h4<;>rw[e3,e4]at h2<;>simp[vM]at hv h3 h4 h2⊢
section
variable {lv:Bool}
end
section
variable {lv:Bool}{H:SA}{k kp:SF}
end
end Go.Gg
namespace Go.Gg.Tk
def ext:SD->SD->SD
 |pre,[]=>pre
 |pre,i::st=>ext (pre++[pre.getLastD 0+i]) st
end Go.Gg.Tk
namespace Go.Gg
open Go.Gg.Tk
namespace Tk
end Tk
open Go.Gg.Tk
namespace Tk
end Tk
open Go.Gg.Tk
namespace Tk
end Tk
open Go.Gg.Tk
namespace Tk
end Tk
open Go.Conc Go.Proofs Go.Gg.Tk
section
variable {lv:Bool}{H:SA}{k kp:SF}
structure aua (x:aj)(h:SD):Prop where
 len:(h.length:Int)=x.hours+1
 mono:sq h
 span:h.getLastD 0-h.headD 0<=9
 head:0<=h.headD 0/\h.headD 0<=90
end
def abr{x:aj}:(live x).isEmpty=true<->bx x=[]:=by
 have:=anQ (x:=x);cases h:(live x).isEmpty with
 |true=>
  rw[h]at this;refine⟨λ_=> ?_,λ_=>rfl⟩;refine List.eq_nil_iff_forall_not_mem.2 λu hu=> ?_;exact absurd (this.2 ⟨u,hu⟩) (by decide)
 |false=>
  rw[h]at this;obtain⟨u,hu⟩:=this.1 rfl;refine⟨λh=>(by cases h),λh=> ?_⟩;rw[h]at hu;cases hu
namespace Tk
def xy (ss:S9)(ns:SD):Nat->List aD
 |0=>[]
 |i+1=>if(i:Int)∈ns then xy ss ns i else xy ss ns i++(ss[i]?).toList
def Qg(ss:S9)(ns:SD):∀i,(xy ss ns i).length<=i
 |0=>Tm _
 |i+1=>by
  have:=Qg ss ns i;unfold xy;split
  ·omega
  ·rw[Tx];have:(ss[i]?).toList.length<=1:=(by cases ss[i]?<;>simp);omega
def JB{ss:S9}{ns:SD}:∀{i:Nat}{y:aD},y∈xy ss ns i->y∈ss
 |0,y,h=>by cases h
 |i+1,y,h=>by
  unfold xy at h;split at h
  ·exact JB h
  ·rcases Tp.1 h with h|h
   ·exact JB h
   ·cases hi:ss[i]?with
    |none=>rw[hi]at h;cases h
    |some z=>
     rw[hi]at h;simp only[ZP,T7]at h;rw[h];exact Uf hi
def aj.wk (x:aj)(ns:SD):aj:={x with aC:=xy x.aC ns x.aC.length}
def aj.Ok.wk{x:aj}(h:x.Ok)(ns:SD):(x.wk ns).Ok:=⟨h.first,h.hours,h.am,h.ve,h.cW,Vb (Qg _ _ _) h.eG,h.seen,λy hy=>⟨(h.piece y hy).1,(h.piece y hy).2⟩,λy hy=>have k:=h.stub y (JB hy);⟨k.1,k.2⟩⟩
end Tk
open Go.Gg.Tk
def HS:aj:=⟨0,0,0,[],[],[]⟩
def xi (x:aj)(s:Seen):Int:=if kv x=0 then(if x.seen.length=3 then 6 else if lZ x.hours s=0 then(if(!(live x).isEmpty&&(live (fb x s)).isEmpty)=true then 9 else 0)else lZ x.hours s)else kv x
def EU (x:aj)(s:Seen):aj:=if xi x s=0 then fb x s else HS
def O3{x:aj}{s:Seen}(hx:x.Ok)(h3:x.seen.length≠3)(hs:lZ x.hours s=0):(fb x s).Ok:=atq hx (by have:=hx.ve;omega) ⟨(yI.1 hs).1,(yI.1 hs).2.1,(yI.1 hs).2.2.1,(yI.1 hs).2.2.2⟩
open Go.Conc
section
variable {lv:Bool}{P:Tg}{r:SL}{o:U8}{s:AS}{next:SV}{bad:AV->SV}
end
open Go.Proofs
section
variable {lv:Bool}{H:SA}{k kp:SF}
end
section
variable {lv:Bool}{P:Tg}{r:SL}
end
section
variable {lv:Bool}{H:SA}{k kp:SF}
end
section
variable {H:SA}{k kp:SF}{x:aj}
end
end Go.Gg
namespace Go.Gg.Tk
end Go.Gg.Tk
namespace Go.Gg
open Go.Conc Go.Proofs Go.Gg.Tk
section
variable {lv:Bool}
end
section
variable {lv:Bool}{H:SA}{k kp:SF}
end
section
variable {lv:Bool}{P:Tg}{r:SL}{s:AS}
end
structure YW (Gf:bl->SA)(N:Nat)(zc:aa)(YY:SC->Nat->Nat->Nat->SA):Prop where
 len:∀r c d e,(YY r c d e).length=6
 n:∀τ r c d e G,(Gf τ++(YY r c d e++G)).length=N+6+G.length
 y0:∀τ r c d e G,(Gf τ++(YY r c d e++G))[N]?=some zc
 y1:∀τ r c d e G,(Gf τ++(YY r c d e++G))[N+1]?=some (.cells r 25)
 y3:∀τ r c d e G,(Gf τ++(YY r c d e++G))[N+3]?=some (.tail c 3 29)
 y4:∀τ r c d e G,(Gf τ++(YY r c d e++G))[N+4]?=some (.tail d 1 3)
 y5:∀τ r c d e G,(Gf τ++(YY r c d e++G))[N+5]?=some (.tail e 1 3)
 z1:∀τ r r' c d e G,(Gf τ++(YY r c d e++G)).set (N+1) (.cells r' 25)=Gf τ++(YY r' c d e++G)
 z3:∀τ r c c' d e G,(Gf τ++(YY r c d e++G)).set (N+3) (.tail c' 3 29)=Gf τ++(YY r c' d e++G)
 z4:∀τ r c d d' e G,(Gf τ++(YY r c d e++G)).set (N+4) (.tail d' 1 3)=Gf τ++(YY r c d' e++G)
 z5:∀τ r c d e e' G,(Gf τ++(YY r c d e++G)).set (N+5) (.tail e' 1 3)=Gf τ++(YY r c d e'++G)
 w:∀τ r c d e G m,(Gf τ++(YY r c d e++G))[N+6+m]?=G[m]?
 v:∀τ r c d e G m y,(Gf τ++(YY r c d e++G)).set (N+6+m) y=Gf τ++(YY r c d e++G.set m y)
 s0:∀r c d e y,∃L,(YY r c d e).set 0 y=y::L
section
variable {Gf:bl->SA}{N:Nat}{zc:aa}{YY:SC->Nat->Nat->Nat->SA}(h:YW Gf N zc YY)
include h
def YW.n0(τ r c d e):(Gf τ++YY r c d e).length=N+6:=by have:=h.n τ r c d e [];rwa[Tu]at this
def YW.w0(τ r c d e G):(Gf τ++(YY r c d e++G))[N+6]?=G[0]?:=h.w τ r c d e G 0
end
section
variable {lv:Bool}{Gf:bl->SA}{t N:Nat}{b:Int}
end
section
variable {lv:Bool}{H:SA}{k kp:SF}
end
section
variable {lv:Bool}
end
section
variable {lv:Bool}{H:SA}{k kp:SF}
def aoD:Wk (.agg [iv 0,iv 0,iv 0,.sl 0 [] .exact,.sl 0 [] .exact,.sl 0 [] .exact]) HS.av:=Ep (.cons (Wk.refl _) (.cons (Wk.refl _) (.cons (Wk.refl _) (.cons (gF _ _ _) (.cons (gF _ _ _) (.cons (gF _ _ _) .nil))))))
def aby(n:Nat)(x:aj)(e:Int):Lt n (.aF [x.av,iv e]):=by
 rw[im];intro a ha;simp only[Th,Tv,or_false]at ha;rcases ha with rfl|rfl
 ·rw[AJ];trivial
 ·exact .val _
def PN{x:aj}(hx:x.Ok):pX x= !(live x).isEmpty:=by
 rw[ag0 hx];unfold cnt;cases live x<;>simp
def QL{l:S9}(hn:l.length<=2^20)(hk:k (aQ l) H):a_ lv ij 92 H [aQ l] k kp:=by
 refine bw (rs:=[.tmp 2]) (nt:=8) Tryz.f92 λhH hA=> ?_;simp only[bc,To];have ie:(l.flatMap aD.l).length=l.length* 4:=MX aD.len _;have Oa:VC (l.length* 4) (l.flatMap aD.l)=l.flatMap aD.l:=Tn (by omega);have hlt:∀n,Lt n (aQ l):=λn=>by rw[DM];trivial
 refine ai ?_;refine ah ?_;simp only[seval,aQ];intro b hb;refine aA ?_;refine⟨λh=> ?_,λh=> ?_⟩
 ·
  refine ai ?_;refine aP ?_;have:l=[]:=by
   cases l with
   |nil=>rfl
   |cons x xs=>rw[hb (by simp)]at h;cases h
  subst this;exact iK (b:=aQ []) (H':=H) (G:=[]) (gF _ _ _) (by simp) (Tm _) hH (hlt _) hk
 ·
  refine aL ?_;refine ah ?_;simp only[seval,Oa,ie];refine⟨by omega,?_⟩;refine aP ?_;exact eV (b:=aQ l) hH (gF _ _ _) (hlt _) hk
def ajb{x:aj}{s:Seen}(hm:H[0]?=some .main)(hl:x.seen.length<=2^20)(hk:k (.aF [(EU x s).av,iv (xi x s)]) H):a_ lv ij 39 H [x.av,s.av] k kp:=by
 refine bw (rs:=[.cell 4 25,.tmp 5]) (nt:=60) Tryz.f39 λhH hA=> ?_;simp only[bc,To,aj.av,Seen.av,Seen.l];have s7:∀L:SA,(H++L)[0]?=some .main:=λL=>dF hm;have bad:∀(L:SA)(m:Int),m≠0->xi x s=m->bY H.length (H++L) (.aF [.agg [iv 0,iv 0,iv 0,.sl 0 [] .exact,.sl 0 [] .exact,.sl 0 [] .exact],iv m]) k:=λL m h0 h=>by
  unfold EU at hk;rw[h,if_neg h0]at hk;exact eV hH (Er aoD (Wk.refl _)) (aby _ _ _) hk
 have oo:∀(L:SA),xi x s=0->bY H.length (H++L) (.aF [(fb x s).av,iv 0]) k:=λL h=>by
  unfold EU at hk;rw[if_pos h,h]at hk;exact eV hH (Wk.refl _) (aby _ _ _) hk
 unfold xi at bad oo;refine ah ?_;simp only[seval,TM];refine ah ?_;simp only[seval,TM,TN];refine aK (zC (x:=x) (dF hm) ?_);(try simp only[seval]);by_cases c1:kv x=0
 case' neg=>
  refine ah ?_;simp only[seval,show (kv x !=0)=true by simpa using c1];refine aA ?_;refine ah ?_;simp only[seval,TR,TW];refine kq ?_;simp only[seval,TR];exact bad _ _ c1 (if_neg c1)
 have hx:=ud.1 c1;have qp:=hx.cW;have aT:=hx.eG;rw[if_pos c1]at bad oo;rw[c1];refine ah ?_;simp only[seval,show ((0:Int)!=0)=false from rfl];refine aA ?_;refine aL ?_;refine ah ?_;simp only[seval,TN,TM,cz];by_cases c2:x.seen.length=3
 case' pos=>
  rw[if_pos c2]at bad;have e3:((x.seen.length:Int)==3)=true:=by rw[c2];rfl
  refine ah ?_;simp only[seval,e3];refine aA ?_;refine ah ?_;simp only[seval,TR,TW];refine kq ?_;simp only[seval,TR];exact bad _ _ (by decide) rfl
 rw[if_neg c2]at bad oo;have e3:((x.seen.length:Int)==3)=false:=by rw[beq_eq_false_iff_ne];omega
 refine ah ?_;simp only[seval,e3];refine aA ?_;refine aL ?_;refine ah ?_;simp only[seval,TM,TN,TO];refine aK (QH (x:=x) (y:=s) ?_);(try simp only[seval]);by_cases c3:lZ x.hours s=0
 case' neg=>
  rw[if_neg c3]at bad;rw[ny c3];refine ah ?_;simp only[seval,F.qz];refine aA ?_;refine ai ?_;rw[<- ny c3];refine aK (FD (s7 _) ?_);(try simp only[seval,TR,TW]);refine kq ?_;simp only[seval,TR];exact bad _ _ c3 rfl
 rw[if_pos c3]at bad oo;have hw:=O3 hx c2 c3;rw[c3,xC];refine ah ?_;simp only[seval,F.qz];refine aA ?_;refine aL ?_;refine ah ?_;simp only[seval,TM,TN,TU,Ta];refine⟨⟨rfl,rfl⟩,?_⟩;have ie:(x.seen.flatMap Seen.l).length=x.seen.length* 3:=MX Seen.len _;have Oa:VC (x.seen.length* 3) (x.seen.flatMap Seen.l)=x.seen.flatMap Seen.l:=Tn (by omega);have IE:fO (Us #[S_ .i64 0,S_ .i64 0,S_ .i64 0]) 3=[iv 0,iv 0,iv 0]:=rfl;have CI:(0<=(x.seen.length:Int)/\(x.seen.length:Int)<=(x.seen.length:Int))=True:=by simp
 refine eo 8 ?_;simp only[seval,TN,TO,TU,Ta,Oa,ie,IE,HK];(repeat refine⟨by first|omega|decide|simp,?_⟩);have L7:AV.sl (x.seen.length+1) (List.flatMap Seen.l x.seen++[iv s.hour,iv s.next.min,iv s.next.max]) .shut=cz (fb x s).seen:=by
  unfold fb cz;rw[Tx,VN];rfl
 simp only[iv]at L7;rw[L7];obtain⟨z,hz⟩:∃z,z=fb x s:=⟨_,rfl⟩;have Gw:z.first=x.first/\z.hours=x.hours/\z.am=x.am/\z.pieces=x.pieces/\z.aC=x.aC:=by rw[hz];exact⟨rfl,rfl,rfl,rfl,rfl⟩
 rw[<- hz]at bad oo hw⊢;obtain⟨q1,q2,q3,q4,q5⟩:=Gw;have CL:∀(H':SA)(k kp:SF),k (bv (!(live z).isEmpty)) H'->a_ lv ij 87 H' [.agg [iv x.first,iv x.hours,iv x.am,cz z.seen,aQ x.pieces,aQ x.aC]] k kp:=λH' k kp hk=>by
  rw[<- PN hw]at hk;rw[<- q1,<- q2,<- q3,<- q4,<- q5];exact J4 hw hk
 have lr:z.av=.agg [iv x.first,iv x.hours,iv x.am,cz z.seen,aQ x.pieces,aQ x.aC]:=by
  rw[<- q1,<- q2,<- q3,<- q4,<- q5];rfl
 rw[lr]at oo;clear q1 q2 q3 q4 q5 lr hz L7;refine ah ?_;simp only[seval,TN];refine aK (J4 (x:=x) hx ?_);rw[PN hx];cases h1:(live x).isEmpty
 case' false=>
  rw[h1]at bad oo;(try simp only[seval,TU]);refine aK (CL _ _ _ ?_);cases h2:(live z).isEmpty
  case true=>
   rw[h2]at bad;(try simp only[seval]);refine aA ?_;refine ah ?_;simp only[seval,TR,TW];refine kq ?_;simp only[seval,TR];exact bad _ _ (by decide) rfl
  rw[h2]at oo
 case' true=>rw[h1]at oo
 all_goals
  (try simp only[seval]);refine aA ?_;refine aL ?_;refine eo 7 ?_;simp only[seval,TN,TU,Ta];refine gE (aQ x.pieces) (cO (QL (by omega) ⟨rfl,rfl⟩)) ?_;refine gE (aQ x.aC) (cO (QL (by omega) ⟨rfl,rfl⟩)) ?_;(try simp only[seval,aQ]);refine ah ?_;simp only[seval,TR,TW,TU];refine⟨rfl,?_⟩;refine kq ?_;simp only[seval,TR];exact oo _ rfl
def akF(x y:aD):(([x.number.min,x.number.max,x.hour.min,x.hour.max]:SD)==[y.number.min,y.number.max,y.hour.min,y.hour.max])=decide (x=y):=by
 rw[U9,beq_iff_eq,decide_eq_true_eq];obtain⟨⟨a,b⟩,c,d⟩:=x;obtain⟨⟨a',b'⟩,c',d'⟩:=y;simp[and_assoc]
def arh(x y:Seen):(([x.hour,x.next.min,x.next.max]:SD)==[y.hour,y.next.min,y.next.max])=decide (x=y):=by
 rw[U9,beq_iff_eq,decide_eq_true_eq];obtain⟨a,b,c⟩:=x;obtain⟨a',b',c'⟩:=y;simp
def afb(x y:aD)(k:SQ):dh ij .neq 68 (.agg [iv x.number.min,iv x.number.max,iv x.hour.min,iv x.hour.max]) (.agg [iv y.number.min,iv y.number.max,iv y.hour.min,iv y.hour.max]) k=k (bv (!decide (x=y))):=by
 rw[<- akF];exact OZ (P:=ij) (t:=68) (n:=4) (xs:=[x.number.min,x.number.max,x.hour.min,x.hour.max]) (ys:=[y.number.min,y.number.max,y.hour.min,y.hour.max]) (by kernel_rfl) (by kernel_rfl) rfl rfl k
def afi(x y:Seen)(k:SQ):dh ij .neq 29 (.agg [iv x.hour,iv x.next.min,iv x.next.max]) (.agg [iv y.hour,iv y.next.min,iv y.next.max]) k=k (bv (!decide (x=y))):=by
 rw[<- arh];exact OZ (P:=ij) (t:=29) (n:=3) (xs:=[x.hour,x.next.min,x.next.max]) (ys:=[y.hour,y.next.min,y.next.max]) (by kernel_rfl) (by kernel_rfl) rfl rfl k
def adN{α:Type}{xs ys:List α}{i:Nat}{x y:α}(hx:xs[i]?=some x)(hy:ys[i]?=some y)(h:xs.take i=ys.take i)(e:x=y):xs.take (i+1)=ys.take (i+1):=by
 obtain⟨hj,rfl⟩:=Tj.1 hx;obtain⟨hk,rfl⟩:=Tj.1 hy;rw[VK hj,VK hk,h,e]
def QJ{xs ys:S9}(hx:xs.length<=2^20)(hk:k (bv (decide (xs=ys))) H):a_ lv ij 64 H [aQ xs,aQ ys] k kp:=by
 refine bw (rs:=[.tmp 4]) (nt:=26) Tryz.f64 λhH hA=> ?_;simp only[bc,To];refine ai ?_;refine ah ?_;simp only[seval,aQ];refine aA ?_;refine⟨λh=> ?_,λh=> ?_⟩
 ·have h:xs≠ys:=λe=>by subst e;simp at h
  refine ai ?_;refine aP ?_;rw[decide_eq_false h]at hk;exact bZ hk
 ·have h:xs.length=ys.length:=by
   have h:(xs.length:Int)=ys.length:=(by simpa using h);omega
  refine aL ?_;refine ai ?_;refine b_ ?_;refine t_ xs.length (λi:Nat=>[(5,iv i)]) (λ_=>_) (λi=>xs.take i=ys.take i) (by simp) (λbX cU i cK hi R hR=> ?_);clear cU bX;refine ah ?_;simp only[seval,aQ];refine aA ?_;refine⟨λh2=> ?_,λh2=> ?_⟩
  ·have hlt:i<xs.length:=(by omega);obtain⟨x,pu⟩:=bU hlt;obtain⟨y,j9⟩:=bU (xs:=ys) (i:=i) (by omega);have bH:=TL i (by omega);refine aL ?_;refine b_ ?_;refine eo 9 ?_;simp only[seval,Ba pu,Ba j9,iB hlt,iB (ep j9),aQ,afb];by_cases h3:x=y
   ·(try simp only[seval,show decide (x=y)=true from decide_eq_true h3,X6]);refine aA ?_;refine aL ?_;refine ah ?_;simp only[seval,bH];exact hR _ ⟨hlt,adN pu j9 hi h3,dp⟩
   ·(try simp only[seval,show decide (x=y)=false from decide_eq_false h3,W1]);refine aA ?_;have h4:xs≠ys:=λe=>(by subst e;rw[pu]at j9;cases j9;exact h3 rfl);refine ai ?_;refine aP ?_;rw[decide_eq_false h4]at hk;exact bZ hk
  ·have sX:i=xs.length:=(by omega);subst sX;have h4:xs=ys:=(by rw[Uy,Tn (by omega)]at hi;exact hi);rw[decide_eq_true h4]at hk;refine bT ?_;refine ai ?_;refine aP ?_;exact bZ hk
def aiZ{x y:aj}(cP:x.seen.length<=2^20)(mi:x.pieces.length<=2^20)(C1:x.aC.length<=2^20)(hk:k (bv (decide (x=y))) H):a_ lv ij 20 H [x.av,y.av] k kp:=by
 refine bw (rs:=[.tmp 4]) (nt:=68) Tryz.f20 λhH hA=> ?_;simp only[bc,To,aj.av];have Lw:y.l=[iv y.first,iv y.hours,iv y.am,cz y.seen,aQ y.pieces,aQ y.aC]:=rfl;have no:x≠y->∀L,bY H.length (H++L) (bv false) k:=λh L=>by rw[decide_eq_false h]at hk;exact gQ hH hk
 obtain⟨c1,cN⟩:∃c,(x.first !=y.first)=c:=⟨_,rfl⟩;obtain⟨c2,cx⟩:∃c,(x.hours !=y.hours)=c:=⟨_,rfl⟩;obtain⟨c3,du⟩:∃c,(x.am !=y.am)=c:=⟨_,rfl⟩;obtain⟨c4,jN⟩:∃c,((x.seen.length:Int)!=y.seen.length)=c:=⟨_,rfl⟩;refine ah ?_;simp only[seval,TM,Lw];have bad:(c1||(c2||(c3||c4)))=true->x≠y:=λh e=>by
  subst e;rw[<- cN,<- cx,<- du,<- jN]at h;simp at h
 cases c1
 case' false=>cases c2
 case' false.false=>cases c3
 case' false.false.false=>cases c4
 case' true|false.true|false.false.true|false.false.false.true=>
  refine ah ?_;simp only[seval,cN,cx,du,jN,TN,TO,cz];refine aA ?_;refine ai ?_;refine aP ?_;exact no (bad rfl) _
 have e1:x.first=y.first:=by simpa using cN
 have e2:x.hours=y.hours:=by simpa using cx
 have e3:x.am=y.am:=by simpa using du
 have e4:x.seen.length=y.seen.length:=by
  have h:(x.seen.length:Int)=y.seen.length:=by simpa using jN
  omega
 refine ah ?_;simp only[seval,cN,cx,du,jN,TN,TO,cz];refine aK (QJ (xs:=x.pieces) (ys:=y.pieces) mi ?_);by_cases e5:x.pieces=y.pieces
 case' neg=>
  (try simp only[seval,show decide (x.pieces=y.pieces)=false from decide_eq_false e5,W1,uq,uo,ur,up]);refine aA ?_;refine ai ?_;refine aP ?_;exact no (λe=>e5 (by rw[e])) _
 (try simp only[seval,show decide (x.pieces=y.pieces)=true from decide_eq_true e5,X6,uq,uo,ur,up,TN,TO]);refine aK (QJ (xs:=x.aC) (ys:=y.aC) C1 ?_);by_cases e6:x.aC=y.aC
 case' neg=>
  (try simp only[seval,show decide (x.aC=y.aC)=false from decide_eq_false e6,W1]);refine aA ?_;refine ai ?_;refine aP ?_;exact no (λe=>e6 (by rw[e])) _
 (try simp only[seval,show decide (x.aC=y.aC)=true from decide_eq_true e6,X6]);refine aA ?_;refine aL ?_;refine ai ?_;refine b_ ?_;refine t_ x.seen.length (λi:Nat=>[(5,iv i)]) (λ_=>_) (λi=>x.seen.take i=y.seen.take i) (by simp) (λbX cU i cK hi R hR=> ?_);clear cU bX;refine ah ?_;simp only[seval,TN,cz];refine aA ?_;refine⟨λh2=> ?_,λh2=> ?_⟩
 ·have hlt:i<x.seen.length:=by omega
  obtain⟨a,pu⟩:=bU hlt;obtain⟨b,j9⟩:=bU (xs:=y.seen) (i:=i) (by omega);have bH:=TL i (by omega)
  refine aL ?_;refine b_ ?_;refine eo 11 ?_;simp only[seval,H5 pu,H5 j9,iB hlt,iB (ep j9),TN,TO,cz,afi];by_cases h3:a=b
  ·(try simp only[seval,show decide (a=b)=true from decide_eq_true h3,X6]);refine aA ?_;refine aL ?_;refine ah ?_;simp only[seval,bH];exact hR _ ⟨hlt,adN pu j9 hi h3,dp⟩
  ·(try simp only[seval,show decide (a=b)=false from decide_eq_false h3,W1]);refine aA ?_;have h4:x≠y:=λe=>(by subst e;rw[pu]at j9;cases j9;exact h3 rfl);refine ai ?_;refine aP ?_;exact no h4 _
 ·have sX:i=x.seen.length:=by omega
  subst sX;have h4:x=y:=by
   rw[Uy,Tn (by omega)]at hi;obtain⟨a1,a2,a3,a4,a5,a6⟩:=x;obtain⟨b1,b2,b3,b4,b5,b6⟩:=y;dsimp only at*;subst e1 e2 e3 e5 e6 hi;rfl
  rw[decide_eq_true h4]at hk;refine bT ?_;refine ai ?_;refine aP ?_;exact gQ hH hk
end
section
variable {lv:Bool}{k kp:SF}{Gf:bl->SA}{t N:Nat}{b:Int}
def ajk{pm i mn:Nat}{first am:Int}{l order:SD}{ρ:bl}{zc:aa}{YY:SC->Nat->Nat->Nat->Nat->Nat->SA}{Ψ:SI}(hT:dW Gf t N)(hY:BL Gf N zc YY)(hb:b<2^10)(s_:pm<=4)(hi:1<=i/\i<=3)(rj:0<=first/\first<=90)(iE:l.length=i+1)(aam:mn<=9)(qn:IP order mn)(qu:ρ.Ok (b+19)):
  aZ lv ij none 240 (cs (cf (ug 7 vQ))) ⟨[(17,iv 0),(16,.sl 0 [] (.opn (N+7))),(15,.sl 0 [] (.opn (N+6))),(14,bp order),(13,iv mn),(11,.sl (i+1) (l.map iv) (.opn (N+2))),(10,.op (N+1) 0),(6,.op N 0),(0,.op t 0),(1,iv pm),(2,bv true)],Gf ρ++YY [iv first,iv i,iv am,.sl 0 [] (.opn (N+5)),.sl 0 [] (.opn (N+3)),.sl 0 [] (.opn (N+4))] 0 0 0 0 0⟩ (an.then (λs'=>∃y:Nat×bl,(y.1<=pm/\y.1<=mn/\y.2.Ok (b+60))/\s'.Sub ⟨[(16,.sl 0 [] (.opn (N+7))),(15,.sl y.1 ((kJ first order y.1).map iv) (.opn (N+6))),(13,iv mn),(11,.sl (i+1) (l.map iv) (.opn (N+2))),(10,.op (N+1) 0),(6,.op N 0),(0,.op t 0),(2,bv true)],Gf y.2++YY [iv first,iv i,iv am,.sl 0 [] (.opn (N+5)),.sl y.1 ((kx l i (λj=>first+order.getD j 0) ρ y.1).1.flatMap aD.l) (.opn (N+3)),.sl 0 [] (.opn (N+4))] y.1 0 0 y.1 0⟩) Ψ):=by
 obtain⟨zS,y0,y1,y3,y4,y5,y6,y7,vr,Et,Eu,Ev,IA,dz,IB⟩:=hY;have mM:∀L:SA,dW (λτ=>Gf τ++L) t (N+L.length):=λL=>hT.more L;obtain⟨hv,Ae⟩:∃hv:Nat->List aD×bl,∀j,hv j=kx l i (λj=>first+order.getD j 0) ρ j:=⟨_,λ_=>rfl⟩;simp only[<- Ae];have hvl:∀j,(hv j).1.length=j:=λj=>by rw[Ae];exact zW _ _ _ _ _
 have hvt:∀j:Nat,(hv j).2.Ok (b+19+5* j):=λj=>by rw[Ae];exact(KM qu _ _ _ j).mono (by omega)
 have rG:hv 0=([],ρ):=Ae 0;unfold vQ Zo;dsimp only[T9,ug,cs,cf];have Gl:=abF mn pm;refine b_ ?_;refine fS (min pm mn) (λj:Nat=>[(15,.sl j ((kJ first order j).map iv) (.opn (N+6))),(17,iv j)]) (λj=>Gf (hv j).2++YY [iv first,iv i,iv am,.sl 0 [] (.opn (N+5)),.sl j ((hv j).1.flatMap aD.l) (.opn (N+3)),.sl 0 [] (.opn (N+4))] j 0 0 j 0) (λ_=>True) (λ_ _=>rfl) (by simp only[kJ,ao_,aj'];simp only[seval];simp[bP,Wk.refl]) (by rw[rG];rfl) (λ_ _ _=>by simp[hT.len,zS]) trivial (λbX cU j pf _ R hR=> ?_);clear bX cU;have lq:=hvt j;by_cases ff:j<min pm mn
 ·have hd:decide ((j:Int)<((min pm mn:Nat):Int))=true:=by simpa using ff
  refine ah ?_;simp only[seval,show (if(mn:Int)<(pm:Int)then(mn:Int)else(pm:Int))=((min pm mn:Nat):Int)from Gl,hd];have eS:hv (j+1)=((hv j).1++[lI (tick (hv j).2) l (first+order.getD j 0) i],tick (tick (tick (tick (tick (hv j).2))))):=by rw[Ae,Ae];rfl
  have rH:=hvl j;generalize Ge:hv j=hj at lq eS rH⊢;obtain⟨ps,ρj⟩:=hj;dsimp only at lq eS rH⊢;refine aK (QN (n:=6) (mM _) lq (by omega) (by decide) ?_);(try simp only[seval]);refine aA ?_;refine⟨λhc=> ?_,λhc=> ?_⟩
  ·obtain⟨o,ho⟩:=bU (xs:=order) (i:=j) (by rw[qn.len];omega);have hor:=qn.HU o (wI ho);have hgo:order.getD j 0=o:=(by rw[Se,ho];rfl);rw[hgo]at eS;have Mh:Tc.wrap (first+o)=first+o:=Mo (by omega)
   have x9:=TL j (by omega);have qb:(0<=(j:Int)/\(j:Int)<(order.length:Int))=True:=(by simp[qn.len];omega);have je:=abS first order j
   have C9:Wh iv (kJ first order j)++[AV.val (S_ Tc (first+o))]=(kJ first order (j+1)).map iv:=(by rw[abT,hgo,UJ];rfl);have C8:(kJ first order (j+1))[j]?=some (first+o):=(by rw[abT,hgo,Ud (by omega),je,WL];rfl);have uy:(0<=(j:Int)/\(j:Int)<(j:Int)+1)=True:=(by simp;omega);refine aL ?_;refine b_ ?_;refine eo 9 ?_;simp only[seval,z1,AW,y1,y6,IA,bp,gW ho,qb,Mh,je];refine⟨by omega,?_⟩;rw[C9];obtain⟨n,hn⟩:∃n,n=first+o:=⟨_,rfl⟩
   rw[<- hn]at C8 eS;have qw:=Oe l n i;have xq:=λ(L:SA) k kp=>QO (lv:=lv) (k:=k) (kp:=kp) (h:=l) (n:=n) (hours:=i) (e:=.opn (N+2)) (mM L) lq.tick (by omega) (by omega) (by omega) (by omega) (by rw[iE,Xa];omega);simp only[iE]at xq;obtain⟨y,hy⟩:∃y,y=lI (tick ρj) l n i:=⟨_,rfl⟩;rw[<- hy]at eS xq;obtain⟨FP,rc⟩:∃FP,FP=ps.flatMap aD.l:=⟨_,rfl⟩;have v4:FP.length=j* 4:=(by rw[rc,Ke,rH]);have Cs:FP++aD.l y=(hv (j+1)).1.flatMap aD.l:=(by rw[eS,Kf,rc]);rw[<- rc];refine oY [10,12,14] (Tt 15) (λD=>bif isDone 14 D then Gf (tick (tick (tick (tick (tick ρj)))))++YY [iv first,iv i,iv am,.sl 0 [] (.opn (N+5)),.sl (j+1) (FP++aD.l y) (.opn (N+3)),.sl 0 [] (.opn (N+4))] (j+1) 0 0 (j+1) 0 else bif isDone 12 D then Gf (tick (tick (tick (tick (tick ρj)))))++YY [iv first,iv i,iv am,.sl 0 [] (.opn (N+5)),.sl j FP (.opn (N+3)),.sl 0 [] (.opn (N+4))] (j+1) 0 0 (j+1) 0 else bif isDone 10 D then Gf (tick (tick (tick (tick (tick ρj)))))++YY [iv first,iv i,iv am,.sl 0 [] (.opn (N+5)),.sl j FP (.opn (N+3)),.sl 0 [] (.opn (N+4))] j 0 0 (j+1) 0 else Gf (tick ρj)++YY [iv first,iv i,iv am,.sl 0 [] (.opn (N+5)),.sl j FP (.opn (N+3)),.sl 0 [] (.opn (N+4))] j 0 0 (j+1) 0) ?_;simp only[seval,ID,AX,y1,y3,vr,Et,gW C8,uy,v4];have Dq:y.l=[iv y.number.min,iv y.number.max,iv y.hour.min,iv y.hour.max]:=rfl;refine og y.av _ (cO (xq _ _ _ ⟨rfl,rfl⟩)) ?_;(try simp only[seval,ID,AX,y1,y3,vr,Et,gW C8,uy,v4,aD.av,Dq]);refine⟨by omega,?_⟩;refine ah ?_;simp only[seval,x9];refine hR _ ⟨by omega,trivial,?_⟩;rw[<- Cs,eS];exact dp
  ·refine bT ?_;exact⟨(j,tick ρj),⟨by dsimp only;omega,by dsimp only;omega,lq.tick.mono (by omega)⟩,fN (by simp only[seval];simp[bP,Wk.refl]) (by rw[Ge])⟩
 ·have hd:decide ((j:Int)<((min pm mn:Nat):Int))=false:=by simpa using ff
  refine ah ?_;simp only[seval,show (if(mn:Int)<(pm:Int)then(mn:Int)else(pm:Int))=((min pm mn:Nat):Int)from Gl,hd];refine aA ?_;refine bT ?_;exact⟨(j,(hv j).2),⟨by dsimp only;omega,by dsimp only;omega,lq.mono (by omega)⟩,fN (by simp only[seval];simp[bP,Wk.refl]) rfl⟩
def ajh{i np:Nat}{first am w:Int}{l aB gX:SD}{cW:S9}{ρ2:bl}{zc:aa}{YY:SC->Nat->Nat->Nat->Nat->Nat->SA}{Ψ:SI}(hT:dW Gf t N)(hY:BL Gf N zc YY)(hb:b<2^10)(hi:1<=i/\i<=3)(rj:0<=first/\first<=90)(GP:first<=w/\w<=first+9)(iE:l.length=i+1)(C_:np<=4)(je:aB.length=np)(rz:∀n∈aB,first<=n/\n<w)(td:IP gX np)(yn:ρ2.Ok (b+64)):
  aZ lv ij none 240 (cs (cf (ug 9 vQ))) ⟨[(19,iv 0),(18,.sl np (gX.map iv) .shut),(16,.sl 0 [] (.opn (N+7))),(15,.sl np (aB.map iv) (.opn (N+6))),(11,.sl (i+1) (l.map iv) (.opn (N+2))),(10,.op (N+1) 0),(6,.op N 0),(0,.op t 0),(2,bv true)],Gf ρ2++YY [iv first,iv i,iv am,.sl 0 [] (.opn (N+5)),.sl np (cW.flatMap aD.l) (.opn (N+3)),.sl 0 [] (.opn (N+4))] np 0 0 np 0⟩ (an.then (λs'=>∃y:Nat×bl,(y.1<=np/\y.1<=3/\y.2.Ok (b+90))/\s'.Sub ⟨[(16,.sl y.1 ((gX.take y.1).map iv) (.opn (N+7))),(15,.sl np (aB.map iv) (.opn (N+6))),(11,.sl (i+1) (l.map iv) (.opn (N+2))),(10,.op (N+1) 0),(6,.op N 0),(0,.op t 0),(2,bv true)],Gf y.2++YY [iv first,iv i,iv am,.sl 0 [] (.opn (N+5)),.sl np (cW.flatMap aD.l) (.opn (N+3)),.sl y.1 ((kx l i (λj=>aB.getD (gX.getD j 0).toNat 0) ρ2 y.1).1.flatMap aD.l) (.opn (N+4))] np y.1 0 np y.1⟩) Ψ):=by
 obtain⟨zS,y0,y1,y3,y4,y5,y6,y7,vr,Et,Eu,Ev,IA,dz,IB⟩:=hY;have mM:∀L:SA,dW (λτ=>Gf τ++L) t (N+L.length):=λL=>hT.more L;obtain⟨hw,Af⟩:∃hw:Nat->List aD×bl,∀j,hw j=kx l i (λj=>aB.getD (gX.getD j 0).toNat 0) ρ2 j:=⟨_,λ_=>rfl⟩;simp only[<- Af];have rJ:∀j,(hw j).1.length=j:=λj=>by rw[Af];exact zW _ _ _ _ _
 have uP:∀j:Nat,(hw j).2.Ok (b+64+5* j):=λj=>by rw[Af];exact KM yn _ _ _ j
 have yk:hw 0=([],ρ2):=Af 0;have aaR:=td.len;unfold vQ Zo;dsimp only[T9,ug,cs,cf];have aaj:=abF 3 np;refine b_ ?_;refine fS (min np 3) (λj:Nat=>[(16,.sl j ((gX.take j).map iv) (.opn (N+7))),(19,iv j)]) (λj=>Gf (hw j).2++YY [iv first,iv i,iv am,.sl 0 [] (.opn (N+5)),.sl np (cW.flatMap aD.l) (.opn (N+3)),.sl j ((hw j).1.flatMap aD.l) (.opn (N+4))] np j 0 np j) (λ_=>True) (λ_ _=>rfl) (by simp only[seval];simp[bP,Wk.refl]) (by rw[yk];rfl) (λ_ _ _=>by simp[hT.len,zS]) trivial (λbX cU j pf _ R hR=> ?_);clear bX cU;have lq:=uP j;by_cases ff:j<min np 3
 ·have hd:decide ((j:Int)<((min np 3:Nat):Int))=true:=by simpa using ff
  refine ah ?_;simp only[seval,bp,aaR,show (if(3:Int)<(np:Int)then(3:Int)else(np:Int))=((min np 3:Nat):Int)from aaj,hd];have eS:hw (j+1)=((hw j).1++[lI (tick (hw j).2) l (aB.getD (gX.getD j 0).toNat 0) i],tick (tick (tick (tick (tick (hw j).2))))):=by rw[Af,Af];rfl
  have rH:=rJ j;generalize Ge:hw j=hj at lq eS rH⊢;obtain⟨ts,ρj⟩:=hj;dsimp only at lq eS rH⊢;refine aK (QN (n:=3) (mM _) lq (by omega) (by decide) ?_);(try simp only[seval]);refine aA ?_;refine⟨λhc=> ?_,λhc=> ?_⟩
  ·obtain⟨v,pt⟩:=bU (xs:=gX) (i:=j) (by omega);have hvr:=td.HU v (wI pt);obtain⟨v,rfl⟩:∃v':Nat,v=v':=⟨v.toNat,by omega⟩;have CX:gX.getD j 0=v:=(by rw[Se,pt];rfl);rw[CX,Wc]at eS;obtain⟨n,Gp⟩:=bU (xs:=aB) (i:=v) (by omega);have Gb:aB.getD v 0=n:=(by rw[Se,Gp];rfl);rw[Gb]at eS;have rA:=rz n (wI Gp);have x9:=TL j (by omega);have uy:(0<=(j:Int)/\(j:Int)<(np:Int))=True:=(by simp;omega);have F6:(0<=(v:Int)/\(v:Int)<(np:Int))=True:=(by simp;omega);have aE:(gX.take j).length=j:=(by rw[U_];omega);have amz:(gX.take j).map iv++[AV.val (S_ Tc v)]=(gX.take (j+1)).map iv:=(by rw[Wm,pt,UJ];rfl);refine aL ?_;refine ah ?_;simp only[seval,z1,AW,y7,IB,gW pt,uy,aE];refine⟨by omega,?_⟩;rw[amz];have qw:=Oe l n i;have xq:=λ(L:SA) k kp=>QO (lv:=lv) (k:=k) (kp:=kp) (h:=l) (n:=n) (hours:=i) (e:=.opn (N+2)) (mM L) lq.tick (by omega) (by omega) (by omega) (by omega) (by rw[iE,Xa];omega);simp only[iE]at xq;obtain⟨y,hy⟩:∃y,y=lI (tick ρj) l n i:=⟨_,rfl⟩;rw[<- hy]at eS xq;obtain⟨FP,rc⟩:∃FP,FP=ts.flatMap aD.l:=⟨_,rfl⟩;have v4:FP.length=j* 4:=(by rw[rc,Ke,rH]);have Cs:FP++aD.l y=(hw (j+1)).1.flatMap aD.l:=(by rw[eS,Kf,rc]);rw[<- rc];refine oY [13,15,17] (Tt 18) (λD=>bif isDone 17 D then Gf (tick (tick (tick (tick (tick ρj)))))++YY [iv first,iv i,iv am,.sl 0 [] (.opn (N+5)),.sl np (cW.flatMap aD.l) (.opn (N+3)),.sl (j+1) (FP++aD.l y) (.opn (N+4))] np (j+1) 0 np (j+1)else bif isDone 15 D then Gf (tick (tick (tick (tick (tick ρj)))))++YY [iv first,iv i,iv am,.sl 0 [] (.opn (N+5)),.sl np (cW.flatMap aD.l) (.opn (N+3)),.sl j FP (.opn (N+4))] np (j+1) 0 np (j+1)else bif isDone 13 D then Gf (tick (tick (tick (tick (tick ρj)))))++YY [iv first,iv i,iv am,.sl 0 [] (.opn (N+5)),.sl np (cW.flatMap aD.l) (.opn (N+3)),.sl j FP (.opn (N+4))] np j 0 np (j+1)else Gf (tick ρj)++YY [iv first,iv i,iv am,.sl 0 [] (.opn (N+5)),.sl np (cW.flatMap aD.l) (.opn (N+3)),.sl j FP (.opn (N+4))] np j 0 np (j+1)) ?_;simp only[seval,ID,AX,y1,y4,vr,Eu,gW pt,uy,gW Gp,F6,v4,bp,je];have Dq:y.l=[iv y.number.min,iv y.number.max,iv y.hour.min,iv y.hour.max]:=rfl;refine og y.av _ (cO (xq _ _ _ ⟨rfl,rfl⟩)) ?_;(try simp only[seval,ID,AX,y1,y4,vr,Eu,gW pt,uy,gW Gp,F6,v4,bp,je,aD.av,Dq]);refine⟨by omega,?_⟩;refine ah ?_;simp only[seval,x9];refine hR _ ⟨by omega,trivial,?_⟩;rw[<- Cs,eS];exact dp
  ·refine bT ?_;exact⟨(j,tick ρj),⟨by dsimp only;omega,by dsimp only;omega,lq.tick.mono (by omega)⟩,fN (by simp only[seval];simp[bP,Wk.refl]) (by rw[Ge])⟩
 ·have hd:decide ((j:Int)<((min np 3:Nat):Int))=false:=by simpa using ff
  refine ah ?_;simp only[seval,bp,aaR,show (if(3:Int)<(np:Int)then(3:Int)else(np:Int))=((min np 3:Nat):Int)from aaj,hd];refine aA ?_;refine bT ?_;exact⟨(j,(hw j).2),⟨by dsimp only;omega,by dsimp only;omega,lq.mono (by omega)⟩,fN (by simp only[seval];simp[bP,Wk.refl]) rfl⟩
end
end Go.Gg
