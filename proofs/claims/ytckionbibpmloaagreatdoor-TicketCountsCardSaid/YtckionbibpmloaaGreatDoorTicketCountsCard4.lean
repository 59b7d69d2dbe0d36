/- A part of the proof. -/
import Derived.Test.YtckionbibpmloaaGreatDoorTicketCountsCard3
set_option linter.all false
set_option maxRecDepth 4000
set_option maxHeartbeats 4000000
open Array renaming getD_eq_getD_getElem?->Th,getElem?_eq_getElem->Tj,getElem_mem->XZ
open BitVec renaming ofInt->Va
open Bool renaming and_eq_true->Ui,and_self->axn,eq_iff_iff->Ve,false_and->Ww,false_or->ar_,not_eq_true'->UV,or_eq_true->XP,or_false->axm,true_and->VO
open Classical renaming byContradiction->Uv
open Decidable renaming not_not->W4
open Function renaming comp_apply->Xv
open Go renaming Code->U5,Oper->Vp,Program->Tl
open Go.IntKind renaming i64->Tg,u16->Ua,u64->UF,wrap->Ze
open Go.Obj renaming deferred->ag'
open Go.Proofs.Tryz renaming f41->awS,f43->axQ,f47->Yu,f50->axP,f54->axO,prog->BI
open Go.Region renaming wanted->Uo
open Go.Value renaming agg->Uy,bool->Yp,int->S_,slice->UP
open Int renaming eq_ofNat_of_zero_le->aa_,le_refl->YF,le_trans->YU,mul_le_mul->axt,toNat->Zm,toNat_natCast->WO
open List renaming all_eq_false->al',all_eq_true->Uq,any_append->Zd,any_cons->Z3,any_eq_true->VP,append_assoc->Ev,append_eq_nil_iff->ZM,append_nil->Ts,cons_append->WX,contains_append->Z1,contains_eq_any_beq->Zz,contains_eq_mem->Vq,contains_iff_mem->Xt,contains_nil->ats,drop->U7,drop_append->WG,drop_append_of_le_length->XB,drop_eq_getElem_cons->UL,drop_eq_nil_of_le->UX,drop_of_length_le->X9,drop_zero->Wx,eq_nil_of_length_eq_zero->WS,exists_mem_of_ne_nil->Zr,ext_getElem?->Yd,filter_append->YO,filter_congr->WB,filter_map->as',find?_cons->aw0,find?_eq_none->ad',find?_flatMap->ad_,findIdx?_eq_none_iff->Zq,findIdx?_eq_some_iff_getElem->YJ,flatMap_append->VX,flatMap_assoc->ac',flatMap_cons->UT,flatMap_def->X4,flatMap_eq_nil_iff->X2,flatMap_map->X0,foldl_append->Y1,foldl_cons->Wd,forall_mem_cons->W3,getD_cons_succ->Yt,getD_cons_zero->YE,getD_eq_getElem?_getD->Tf,getElem?_append_left->T6,getElem?_append_right->Uc,getElem?_cons_succ->VL,getElem?_cons_zero->WF,getElem?_drop->Vo,getElem?_eq_getElem->T4,getElem?_eq_none->VI,getElem?_eq_some_iff->Tn,getElem?_map->Ur,getElem?_of_mem->Wl,getElem?_range->awZ,getElem?_set->VZ,getElem?_set_ne->Vd,getElem?_take->Vh,getElem_mem->W_,getLast?_eq_getElem?->XV,getLastD_cons->ap_,getLastD_eq_getLast?->Wc,head?_append->XX,head?_cons->awY,length->axg,length_append->Tp,length_cons->U4,length_drop->Vm,length_eraseIdx_of_lt->Zl,length_map->Um,length_nil->Vz,length_pos_iff->W9,length_range->as_,length_replicate->ZR,length_set->UK,length_singleton->Uw,length_take->Vl,map->We,mapM_cons->U6,mapM_nil->VB,map_append->UA,map_congr_left->WR,map_cons->VN,map_flatMap->WN,map_map->Zb,map_take->Xg,mem_append->T1,mem_append_left->Uk,mem_append_right->T7,mem_cons->Tm,mem_filter->Vx,mem_flatMap->T8,mem_iff_getElem?->VQ,mem_map->Uh,mem_of_getElem?->Un,mem_of_mem_take->YN,mem_range->UB,mem_replicate->XO,mem_singleton->Ub,nil_append->Vv,nodup_append->Wo,nodup_iff_pairwise_ne->VJ,nodup_nil->XU,nodup_range->Y',not_mem_nil->T5,pairwise_iff_getElem->Zp,pairwise_map->asI,range->Tt,range'->U8,range'_succ->WL,range_eq_range'->Wj,range_succ->Wb,replicate->UQ,set_append_left->VE,set_append_right->Vg,set_cons_succ->Vs,set_cons_zero->U1,set_set->Yk,take->U9,take_add_one->WY,take_append_drop->W2,take_append_of_le_length->UD,take_eq_nil_iff->Z0,take_left'->XA,take_length->Ux,take_of_length_le->Tu,take_set->axd,take_succ_cons->Xd,take_succ_eq_append_getElem->VH,take_take->VF,take_zero->axK
open List.Pairwise renaming imp->axh,imp_of_mem->YK
open List.Perm renaming nodup_iff->axV,refl->axs
open List.cons renaming injEq->Z2
open Nat renaming add_assoc->VY,add_comm->axJ,add_sub_cancel->X7,add_sub_cancel_left->UU,add_zero->Vr,eq_zero_or_pos->Vf,le_refl->Tv,le_trans->UJ,lt_or_ge->ZQ,lt_succ_self->Vw,min_eq_left->Wa,mul_le_mul->axp,pow_le_pow_right->XL,reduceAdd->Tq,reduceSub->ZE,sub_self->WV,sub_zero->aw',succ_mul->WW,testBit_or->YD,testBit_two_pow->Xc,zero_add->WK,zero_testBit->ar'
open Option renaming bind_eq_bind->UW,getD_some->T_,map_some->VT,pure_def->Vk
open Option.some renaming injEq->Ul
namespace Go.Gg
open Go.Conc Go.Proofs Go.Gg.Tk
def FS (lv:Bool)(H:SA)(f:AV)(b:Bool):Prop:=∀(L:SA)(k kp:SF),k (bv b) (H++L)->fh lv BI f (H++L) [] k kp
def lY:SC:=[iv 0,iv 0,iv 0,.sl 0 [] .exact,.sl 0 [] .exact,.sl 0 [] .exact]
def fP (D:Kn):Int:=if D.has then 0 else 11
def TR{x:aj}:U9 6 x.l=x.l:=rfl
def TQ{x:aj}:x.l.length=6:=rfl
def TZ{H:List aa}:∀(L:SA)(j:Nat)(y:aa),(H++L).set (H.length+j) y=H++L.set j y:=λL j y=>cG H L j y
def TY{H:List aa}:∀(L:SA)(j:Nat),(H++L)[H.length+j]?=L[j]?:=λL j=>aP H L j
def TP{H:List aa}:∀(L:SA),(H++L)[H.length+2]?=L[2]?:=λL=>aP H L 2
def TW{H:List aa}:∀(L:SA),(H++L)[H.length+3]?=L[3]?:=λL=>aP H L 3
def A2{x:aj}{deep:Int}{p:Nat}{H:SA}{k kp:SF}{f:AV}{b:Bool}(hx:x.Ok)(hp:x.am=p)(hm:H[0]?=some .main)(hf:FS true H f b)(iY:b=false->k (.aJ [.agg lY,.agg gp,iv 3]) H)(cO:b=true->∀js D L mp,js.Perm (Tt (p+1))->oU x deep js D->bW D->H.length<=mp->(H++L)[mp]?=some (setH D.aQ)->k (.aJ [x.av,.agg (D.l mp),iv (fP D)]) (H++L)):aS true BI 54 H [x.av,iv deep,f] k kp:=by
 refine br (rs:=[.cell 6 73,.cell 7 85,.tmp 8]) (nt:=36) axO λhH hA=> ?_;simp only[ba,Tq,aj.av];refine ai ?_;refine ab ?_;simp only[seval,TN,TM];refine aK (Dp (x:=x) (dW hm) ?_);rw[wV.2 hx];(try simp only[seval]);refine ai ?_;refine ao ?_;refine aF ?_;refine ai ?_;refine n9 (hf _ _ _ ?_);(try simp only[seval]);refine ao ?_;refine⟨λhb=> ?_,λhb=> ?_⟩
 ·have de:b=false:=by simpa using hb
  have:=iY de;refine ai ?_;refine jR ?_;simp only[seval,TO,TP];exact dS hH (Wk.refl _) (by simp[iw,lT,dF,lY,gp,Ix]) this
 ·have de:b=true:=by simpa using hb
  refine aF ?_;refine ab ?_;simp only[seval,TN];refine⟨⟨rfl,rfl,rfl⟩,?_⟩;refine ab ?_;simp only[seval,TW];refine aK (akO (x:=x) hx (FI hx) hp (dW hm) λjs D L5 iX jW eI hl5=> ?_);have fV:=λmp=>Kn.len eI mp;have kG:=v7 D;obtain⟨z0,z1,z2,z3,z4,rfl⟩:∃z0 z1 z2 z3 z4,L5=[z0,z1,z2,z3,z4]:=by
   match L5,hl5 with
   |[a,b,c,d,e],_=>exact⟨a,b,c,d,e,rfl⟩
  (try simp only[seval,fV]);refine⟨kG _,?_⟩;have aml:∀(L:SA),(H++L)[H.length+10]?=L[10]?:=λL=>aP H L 10;obtain⟨mp,uj⟩:∃mp,mp=H.length+4+5:=⟨_,rfl⟩;rw[<- uj];refine ab ?_;simp only[seval,aml,Kn.Dy];obtain⟨ku,fC⟩:∃ku:SC->SC->SA,∀u v,ku u v=H++[.cells x.l 25,.cells u 73,.cells v 85,.cells x.l 73,z0,z1,z2,z3,z4,setH D.aQ,.cells (D.l mp) 85]:=⟨_,λ_ _=>rfl⟩;have p1:∀u v,(ku u v)[H.length+1]?=some (.cells u 73):=λu v=>by rw[fC,TY];rfl
  have p2:∀u v,(ku u v)[H.length+2]?=some (.cells v 85):=λu v=>by rw[fC,TY];rfl
  have p3:∀u v,(ku u v)[H.length+3]?=some (.cells x.l 73):=λu v=>by rw[fC,TY];rfl
  have p10:∀u v,(ku u v)[H.length+10]?=some (.cells (D.l mp) 85):=λu v=>by rw[fC,TY];rfl
  have s1:∀u v w,(ku u v).set (H.length+1) (.cells w 73)=ku w v:=λu v w=>by rw[fC,TZ,fC];rfl
  have s2:∀u v w,(ku u v).set (H.length+2) (.cells w 85)=ku u w:=λu v w=>by rw[fC,TZ,fC];rfl
  have eA:∀(e:Int),e=fP D->k (.aJ [x.av,.agg (D.l mp),iv e]) (ku x.l (D.l mp)):=λe he=>by rw[he,fC];refine cO de js D _ mp iX jW eI (by omega) ?_;rw[uj,show H.length+4+5=H.length+9 from rfl,TY];rfl
  have e0:=fC lY gp;simp only[lY,gp,TM,iv,bv,wv,UQ,WX,Vv,push_cast,Int.cast_ofNat_Int]at e0;rw[<- e0];clear e0;have mQ:gp.length=28:=rfl;have hzr:lY.length=6:=rfl;have HX:U9 28 (D.l mp)=D.l mp:=Tu (by rw[fV];exact Tv _);have po:∀l:SC,l.length=28->D.l mp++U7 (D.l mp).length l=D.l mp:=λl hl=>by rw[fV,UX (by omega),Ts]
  have abY:∀a∈x.l,a.leaf=true:=λa ha=>by simp only[aj.l,Tm,T5,or_false]at ha;rcases ha with rfl|rfl|rfl|rfl|rfl|rfl<;>rfl
  refine ao ?_;refine⟨λhh=> ?_,λhh=> ?_⟩;have LS:D.has=false:=(by simpa using hh);have:=eA 11 (by rw[fP,LS];rfl);refine mC [2,3] [0,1,2,3,4] (λD'=>bif isDone 3 D' then ku x.l (D.l mp)else bif isDone 2 D' then ku x.l gp else ku lY gp) ?_;simp only[seval,p1,p2,p3,p10,s1,s2,fV,TQ,mQ,hzr,kG];rw[TR,HX];refine⟨rfl,Tv _,abY,rfl,fV _,by rw[fV];exact Tv _,kG _,by rw[po _ rfl];rfl,?_⟩;refine jR ?_;simp only[seval,p1,p2,fV];rw[HX];refine eB (a:=[x.av,.agg (D.l mp),iv 11]) rfl ?_;exact b8 this;have LS:D.has=true:=(by simpa using hh);have:=eA 0 (by rw[fP,LS];rfl);refine aF ?_;refine mC [2,3] [0,1,2,3,4] (λD'=>bif isDone 3 D' then ku x.l (D.l mp)else bif isDone 2 D' then ku x.l gp else ku lY gp) ?_;simp only[seval,p1,p2,p3,p10,s1,s2,fV,TQ,mQ,hzr,kG];rw[TR,HX];refine⟨rfl,Tv _,abY,rfl,fV _,by rw[fV];exact Tv _,kG _,by rw[po _ rfl];rfl,?_⟩;refine jR ?_;simp only[seval,p1,p2,fV];rw[HX];refine eB (a:=[x.av,.agg (D.l mp),iv 0]) rfl ?_;exact b8 this
namespace Tk
def gg (s:Nat)(more:Int)(i:Nat):SD:=((Tt i).filter s.testBit).map λn:Nat=>(n:Int)+more
def acv(s:Nat)(more:Int)(i:Nat):gg s more (i+1)=if s.testBit i then gg s more i++[(i:Int)+more]else gg s more i:=by unfold gg;rw[Wb,YO,UA];by_cases h:s.testBit i=true;simp[h];simp[h]
def Oh(s:Nat)(more:Int)(i:Nat):(gg s more i).length<=i:=by unfold gg;rw[Um];exact UJ (List.length_filter_le _ _) (by simp)
end Tk
def z1:gF (S_ .i64 0) 1=[iv 0]:=rfl
section
variable {lv:Bool}{H:SA}{k kp:SF}
def K_{s:Nat}{more:Int}(hs:s<65536)(hm:0<=more/\more<=1000)(hk:k (aV (gg s more 16)) H):aS lv BI 74 H [wv s,iv more] k kp:=by
 refine br (rs:=[.tmp 4]) (nt:=21) Tryz.f74 λhH hA=> ?_;simp only[ba,Tq];refine ai ?_;refine ai ?_
 (repeat apply ii);refine tM (t:=5) (sz:=1) (el:=3) (by simp only[seval]<;>rfl) ?_;refine ai ?_;refine bO ?_;refine gU 16 (λi:Nat=>[(5,.sl (gg s more i).length ((gg s more i).map iv) (.opn H.length)),(7,iv i)]) (λi=>H++[.tail (gg s more i).length 1 3]) (λ_=>True) (λ_ _=>rfl) (by simp only[seval];simp[bE,Wk.refl];exact Wk.refl _) rfl (λ_ _ _=>by simp) trivial (λbN cm i ce hi R hR=> ?_);refine ai ?_;refine ao ?_;refine⟨λh=> ?_,λh=> ?_⟩
 ·have hl:i<16:=by omega
  have e9:=TL i (by omega);have sG:Tg.wrap ((i:Int)+more)=(i:Int)+more:=bt _ (by omega);have fE:=Oh s more i;refine aF ?_;refine ai ?_;refine ai ?_;refine aK (yI hs ?_);(try simp only[seval]);refine ao ?_;refine⟨λhb=> ?_,λhb=> ?_⟩
  ·refine ab ?_;simp only[seval,z1,sG]
   first|refine⟨by decide,by omega,?_⟩|refine⟨by omega,?_⟩
   refine ab ?_;simp only[seval,e9];have dj:gg s more (i+1)=gg s more i++[(i:Int)+more]:=(by rw[acv,if_pos hb]);refine hR _ ⟨hl,trivial,?_⟩;rw[dj,UA,Tp];exact cK
  ·refine aF ?_;refine ab ?_;simp only[seval,e9];have dj:gg s more (i+1)=gg s more i:=(by rw[acv,if_neg (by simpa using hb)]);refine hR _ ⟨hl,trivial,?_⟩;rw[dj];exact cK
 ·refine bT ?_;have:i=16:=by omega
  subst this;refine ai ?_;refine aH ?_;rw[aV]at hk;exact dS hH (dQ _ _ _) (by simp[sX,dF]) hk
def ajJ{x:aj}{n:Int}{ir:Nat}(hx:x.Ok)(hr:H[ir]?=some (.cells x.l 25))(hk:k (bv (decide (n<0)||decide (n>(x.pieces.length:Int)-1))) H):aS lv BI 104 H [iv n,.op ir 0] k kp:=by refine br (rs:=[.tmp 3]) (nt:=10) Tryz.f104 λhH hA=> ?_;simp only[ba,Tq];have pA:=hx.ey;have hw:Tg.wrap ((x.pieces.length:Int)-1)=(x.pieces.length:Int)-1:=bt _ (by omega);refine ai ?_;refine ab ?_;simp only[seval,hr,TM,aG,hw];refine aK (tT ?_);(try simp only[seval]);refine aH ?_;exact b8 hk
def ajV{ns:SD}{f:AV}{e:End}(gA:ns.length<=4)(g:Int->Bool)(hf:∀n∈ns,∀(k kp:SF),k (bv (g n)) H->fh lv BI f H [iv n] k kp)(hk:k (iv (match ns.findIdx? g with|some i=>(i:Int)|none=> -1)) H):aS lv BI 130 H [.sl ns.length (ns.map iv) e,f] k kp:=by
 refine br (rs:=[.tmp 4]) (nt:=19) Tryz.f130 λhH hA=> ?_;simp only[ba,Tq];refine ai ?_;refine ai ?_;refine bO ?_;refine nj ns.length (λi:Nat=>[(8,iv i)]) (λ_=>_) (λi=>∀n∈ns.take i,g n=false) (by simp) (λbN cm i ce hi R hR=> ?_);refine ai ?_;refine ao ?_;refine⟨λh=> ?_,λh=> ?_⟩
 ·have bh:i<ns.length:=by omega
  obtain⟨n,hn⟩:=bF bh;have e9:=TL i (by omega);refine aF ?_;refine ai ?_;refine ab ?_;simp only[seval,dn hn,fy bh];refine n9 (hf n (Un hn) _ _ ?_);(try simp only[seval]);refine ao ?_;refine⟨λhg=> ?_,λhg=> ?_⟩
  ·refine ai ?_;refine aH ?_;have:ns.findIdx? g=some i:=by rw[YJ];refine⟨bh,?_,λj hj=> ?_⟩;rw[T4 bh]at hn;cases hn;exact hg;have:=hi ns[j] (by rw[List.mem_take_iff_getElem];exact⟨j,by omega,rfl⟩);simp[this]
   rw[this]at hk;exact b8 hk
  ·refine aF ?_;refine ab ?_;simp only[seval,e9];refine hR _ ⟨bh,λm hm=> ?_,cK⟩;rw[WY,hn]at hm;rcases T1.1 hm with h'|h';exact hi m h';(simp at h';rw[h'];simpa using hg)
 ·have:i=ns.length:=by omega
  subst this;rw[Ux]at hi;refine bT ?_;refine ai ?_;refine aH ?_;have:ns.findIdx? g=none:=by rw[Zq];exactλn hn=>hi n hn
  rw[this]at hk;exact b8 hk
def ajI{ns:SD}{f:AV}{e:End}(gA:ns.length<=4)(g:Int->Bool)(hf:∀n∈ns,∀(k kp:SF),k (bv (g n)) H->fh lv BI f H [iv n] k kp)(hk:k (bv (ns.any g)) H):aS lv BI 103 H [.sl ns.length (ns.map iv) e,f] k kp:=by
 refine br (rs:=[.tmp 4]) (nt:=9) Tryz.f103 λhH hA=> ?_;simp only[ba,Tq];refine ai ?_;refine ai ?_;refine aK (ajV gA g hf ?_);(try simp only[seval]);refine aH ?_;refine b8 ?_;have:decide ((match ns.findIdx? g with|some i=>(i:Int)|none=> -1)>=0)=ns.any g:=by
  cases h:ns.findIdx? g with
  |none=>
   rw[Zq]at h;have:ns.any g=false:=by rw[List.any_eq_false];exactλn hn=>by simp[h n hn]
   rw[this];rfl
  |some i=>rw[YJ]at h;obtain⟨h1,h2,_⟩:=h;have:ns.any g=true:=VP.2 ⟨ns[i],W_ h1,h2⟩;rw[this];simp
 rw[this];exact hk
def pI (x:aj)(ns:SD):Bool:= !(ns.any λn=>decide (n<0)||decide (n>(x.pieces.length:Int)-1))
def K2{x:aj}{ns:SD}{e:End}{il ir:Nat}(hx:x.Ok)(gA:ns.length<=4)(hl:H[il]?=some (.cells [.sl ns.length (ns.map iv) e] 30))(hr:H[ir]?=some (.cells x.l 25))(hk:k (bv (pI x ns)) H):aS lv BI 102 H [.op il 0,.op ir 0] k kp:=by
 refine br (rs:=[.tmp 2]) (nt:=7) Tryz.f102 λhH hA=> ?_;simp only[ba,Tq];refine ai ?_;refine ab ?_;simp only[seval,hl,U6,VB,Vk,UW];refine aK (ajI (ns:=ns) gA (λn=>decide (n<0)||decide (n>(x.pieces.length:Int)-1)) (λn hn k kp hk=> ?_) ?_)
 ·exact bX (ajJ hx hr hk)
 (try simp only[seval]);refine aH ?_;exact b8 hk
def K9{x:aj}{ns:SD}{e:End}(hk:k (.fn (.func 102) [] [.op (H.length+1) 0,.op H.length 0]) (H++[.cells x.l 25,.cells [.sl ns.length (ns.map iv) e] 30])):aS lv BI 67 H [x.av,.sl ns.length (ns.map iv) e] k kp:=by refine br (rs:=[.tmp 4]) (nt:=6) Tryz.f67 λhH hA=> ?_;simp only[ba,Tq,aj.av];refine ai ?_;refine ab ?_;simp only[seval,U6,VB,Vk,UW];refine aH ?_;exact b8 hk
end
open Go.Conc Go.Proofs Go.Gg.Tk
structure bp where
 aC:SD
 g:Int
 s:Int
def xZ (τ:bp):aa:=.cells [aV τ.aC,.val (.int .i64 τ.g),.val (.int .u64 τ.s)] 71
def JG (a b:Int):Int:=UF.wrap (Va UF.bits a^^^Va UF.bits b).toNat
def afc (g:Int):Int:=UF.wrap (UF.wrap (UF.wrap g* 15074714826142052245)+11400714819323198485)
def PQ (τ:bp):Int:=match τ.aC[τ.g.toNat]?with
 |some x=>JG (afc τ.g) (UF.wrap (UF.wrap x* 12620523164723586485))
 |none=>afc τ.g
def apF (s w:Int):Int:=UF.wrap (UF.wrap (s+w)* 13787848793156543929)
def apG (s:Int):Int:=JG s (s.fdiv (2^min 31 UF.bits))
def IT (s:Int):Int:=(JG s (s.fdiv (2^min 27 UF.bits))).fdiv (2^min 9 UF.bits)
def tick (τ:bp):bp:=⟨τ.aC,τ.g+1,apG (apF τ.s (PQ τ))⟩
def xO (τ:bp):Int:=IT (UF.wrap ((tick τ).s* 10723151780598845931))
def ae3(n:Int)(h0:0<=n)(h:n<2^64):UF.wrap n=n:=by have h1:UF.bits=64:=rfl;have h2:UF.signed=false:=rfl;unfold Ze;rw[h1,h2];simp;omega
def auK(n:Int):0<=UF.wrap n/\UF.wrap n<2^64:=by have h1:UF.bits=64:=rfl;have h2:UF.signed=false:=rfl;unfold Ze;rw[h1,h2];simp;omega
def adb(s:Int):0<=IT s/\IT s<2^55:=by
 unfold IT JG;have h:=auK (Va UF.bits s^^^Va UF.bits (s.fdiv (2^min 27 UF.bits))).toNat;have e:(2:Int)^min 9 UF.bits=512:=by decide
 rw[e,Int.fdiv_eq_ediv_of_nonneg _ (show (0:Int)<=512 by decide)];omega
def dp (τ:bp)(n:Int):Int:=if n<1 then 0 else(xO τ).tmod (n+1)
def lX(τ:bp)(n:Int):0<=dp τ n/\(dp τ n<=n\/dp τ n=0):=by unfold dp;split;omega;have h:=(adb (UF.wrap ((tick τ).s* 10723151780598845931))).1;have h1:=Int.tmod_nonneg (n+1) h;have h2:=Int.tmod_lt_of_pos (xO τ) (show 0<n+1 by omega);unfold xO at h2⊢;omega
def Cw (τ:bp)(lo hi:Int):Int:=lo+dp τ (hi-lo)
def ae9(τ:bp){lo hi:Int}(h:lo<=hi):lo<=Cw τ lo hi/\Cw τ lo hi<=hi:=by have:=lX τ (hi-lo);unfold Cw;omega
def arV (τ:bp)(n:Int):Bool:=dp τ (n-1)==0
structure dO (Gf:bp->SA)(t N:Nat):Prop where
 len:∀τ,(Gf τ).length=N
 get:∀τ,(Gf τ)[t]?=some (xZ τ)
 set:∀τ τ',(Gf τ).set t (xZ τ')=Gf τ'
 ok:∀m τ τ',(∀z∈Gf τ,fw m z)->∀z∈Gf τ',fw m z
def dO.more{Gf:bp->SA}{t N:Nat}(h:dO Gf t N)(L:SA):dO (λτ=>Gf τ++L) t (N+L.length)where
 len:=λτ=>by simp[h.len]
 get:=λτ=>dW (h.get τ)
 set:=λτ τ'=>by show (Gf τ++L).set t _=_;rw[VE _ _ (eF (h.get τ)),h.set]
 ok:=λm τ τ' hk z hz=>(T1.1 hz).elim (λhz=>h.ok m τ τ' (λv hv=>hk v (Uk _ hv)) z hz) (λhz=>hk z (T7 _ hz))
def dO.an{Gf:bp->SA}{t N:Nat}(h:dO Gf t N){τ:bp}(hH:bJ (Gf τ))(τ':bp):bJ (Gf τ'):=λz hz=>by have:=h.ok N τ τ' (λw hw=>by have:=hH w hw;rwa[h.len]at this) z hz;rwa[h.len]
section
variable {Gf:bp->SA}{t N:Nat}(h:dO Gf t N)
include h
def dO.g0(τ:bp)(L:SA):(Gf τ++L)[N]?=L[0]?:=by have:=wL (Gf τ) L 0;rwa[h.len]at this
def dO.g1(τ:bp)(L:SA):(Gf τ++L)[N+1]?=L[1]?:=by have:=wL (Gf τ) L 1;rwa[h.len]at this
def dO.g2(τ:bp)(L:SA):(Gf τ++L)[N+1+1]?=L[2]?:=by have:=wL (Gf τ) L 2;rwa[h.len]at this
def dO.g3(τ:bp)(L:SA):(Gf τ++L)[N+1+1+1]?=L[3]?:=by have:=wL (Gf τ) L 3;rwa[h.len]at this
def dO.h2(τ:bp)(L:SA):(Gf τ++L)[N+2]?=L[2]?:=h.g2 τ L
def dO.h3(τ:bp)(L:SA):(Gf τ++L)[N+3]?=L[3]?:=h.g3 τ L
def dO.s0(τ:bp)(L:SA)(x:aa):(Gf τ++L).set N x=Gf τ++L.set 0 x:=by have:=wM (Gf τ) L 0 x;rwa[h.len]at this
def dO.s1(τ:bp)(L:SA)(x:aa):(Gf τ++L).set (N+1) x=Gf τ++L.set 1 x:=by have:=wM (Gf τ) L 1 x;rwa[h.len]at this
def dO.s2(τ:bp)(L:SA)(x:aa):(Gf τ++L).set (N+1+1) x=Gf τ++L.set 2 x:=by have:=wM (Gf τ) L 2 x;rwa[h.len]at this
def dO.s3(τ:bp)(L:SA)(x:aa):(Gf τ++L).set (N+1+1+1) x=Gf τ++L.set 3 x:=by have:=wM (Gf τ) L 3 x;rwa[h.len]at this
def dO.t2(τ:bp)(L:SA)(x:aa):(Gf τ++L).set (N+2) x=Gf τ++L.set 2 x:=h.s2 τ L x
def dO.t3(τ:bp)(L:SA)(x:aa):(Gf τ++L).set (N+3) x=Gf τ++L.set 3 x:=h.s3 τ L x
end
def aqk(m:Nat)(τ:bp):fw m (xZ τ):=by intro a ha;simp only[Tm,T5,or_false]at ha;rcases ha with rfl|rfl|rfl;rw[BV];trivial;exact .val _;exact .val _
def aut(H:SA):dO (λτ=>H++[xZ τ]) H.length (H.length+1)where
 len:=λτ=>by simp
 get:=λτ=>by simp
 set:=λτ τ'=>by simp
 ok:=λm τ τ' hk z hz=>by rcases T1.1 hz with hz|hz;exact hk z (Uk _ hz);rw[Ub.1 hz];exact aqk _ _
structure bp.Ok (τ:bp)(b:Int):Prop where
 g0:0<=τ.g
 g:τ.g<=b
 len:τ.aC.length<=2^50
section
variable {lv:Bool}{H:SA}{k kp:SF}{Gf:bp->SA}{t N:Nat}{τ:bp}{b:Int}
def aj1{aC:SD}(hk:k (.op H.length 0) (H++[xZ ⟨aC,0,7640891576956012809⟩])):aS lv BI 14 H [aV aC] k kp:=by refine br (rs:=[.tmp 2]) (nt:=6) Tryz.f14 λhH hA=> ?_;simp only[ba,Tq];refine ai ?_;refine ai ?_;refine aH ?_;exact b8 hk
def bp.Ok.tick(h:τ.Ok b):(tick τ).Ok (b+1):=⟨by have:=h.g0;show 0<=τ.g+1;omega,by have:=h.g;show τ.g+1<=b+1;omega,h.len⟩
def bp.Ok.mono{b':Int}(h:τ.Ok b)(hb:b<=b'):τ.Ok b':=⟨h.g0,by have:=h.g;omega,h.len⟩
def akG(hT:dO Gf t N)(hτ:τ.Ok b)(hb:b<2^60)(hk:k (.val (.int .u64 (xO τ))) (Gf (tick τ))):aS lv BI 65 (Gf τ) [.op t 0] k kp:=by
 obtain⟨aC,g,s⟩:=τ;obtain⟨jE,hgb,lL⟩:=hτ;simp only at jE hgb lL;refine br (rs:=[.tmp 2]) (nt:=76) Tryz.f65 λhH hA=> ?_;simp only[ba,Tq];have hg:∀τ,(Gf τ)[t]?=some (.cells [.sl τ.aC.length (τ.aC.map iv) .shut,.val (.int .i64 τ.g),.val (.int .u64 τ.s)] 71):=hT.get;have hs:∀τ (Fg:SD) g' s',(Gf τ).set t (.cells [.sl Fg.length (Fg.map iv) .shut,.val (.int .i64 g'),.val (.int .u64 s')] 71)=Gf ⟨Fg,g',s'⟩:=λτ Fg g' s'=>hT.set τ ⟨Fg,g',s'⟩;obtain⟨n,rfl⟩:∃n:Nat,g=n:=⟨g.toNat,by omega⟩;have hw:Tg.wrap ((n:Int)+1)=n+1:=bt _ (by omega);refine ai ?_;refine ab ?_;simp only[seval,hg];refine cS 9 ?_;simp only[seval,hg];refine ao ?_;refine⟨λh=> ?_,λh=> ?_⟩
 ·have jm:n<aC.length:=by simpa using h
  obtain⟨x,hx⟩:=bF jm;refine cS 13 ?_;simp only[seval,hg,dn hx,fy jm,C6];refine ab ?_;simp only[seval,hg,hw,hs];refine ab ?_;simp only[seval,hg,hs];refine cS 11 ?_;simp only[seval,hg,hs,C5,C6];refine ab ?_;simp only[seval,hg];refine ab ?_;simp only[seval,C5,C6];refine aH ?_;refine b8 ?_;unfold xO tick PQ at hk;simp only[WO,hx]at hk;exact hk
 ·have jm:¬n<aC.length:=by simpa using h
  have hx:aC[n]?=none:=by rw[VI];omega
  refine aF ?_;refine ab ?_;simp only[seval,hg,hw,hs];refine ab ?_;simp only[seval,hg,hs];refine cS 11 ?_;simp only[seval,hg,hs,C5,C6];refine ab ?_;simp only[seval,hg];refine ab ?_;simp only[seval,C5,C6];refine aH ?_;refine b8 ?_;unfold xO tick PQ at hk;simp only[WO,hx]at hk;exact hk
def qe{n:Int}(hT:dO Gf t N)(hτ:τ.Ok b)(hb:b<2^60)(hn:n<2^60)(hk:k (iv (dp τ n)) (Gf (tick τ))):aS lv BI 21 (Gf τ) [.op t 0,iv n] k kp:=by
 refine br (rs:=[.tmp 4]) (nt:=16) Tryz.f21 λhH hA=> ?_;simp only[ba,Tq];refine ai ?_;refine ai ?_;refine aK (akG hT hτ hb ?_);(try simp only[seval]);refine ai ?_;refine ao ?_;refine⟨λh=> ?_,λh=> ?_⟩
 ·have h:n<1:=by simpa using h
  refine ai ?_;refine aH ?_;rw[dp,if_pos h]at hk;exact b8 hk
 ·have h:¬n<1:=by simpa using h
  have ho:=adb (UF.wrap ((tick τ).s* 10723151780598845931));have bz:UF.wrap n=n:=ae3 n (by omega) (by omega);have f_:UF.wrap (n+1)=n+1:=ae3 _ (by omega) (by omega);have pz:n+1≠0:=by omega
  have hr:=lX τ n;rw[dp,if_neg h]at hk hr;have ux:Tg.wrap ((xO τ).tmod (n+1))=(xO τ).tmod (n+1):=bt _ (by omega);refine aF ?_;refine ab ?_;simp only[seval,agj,bz,f_,ux,pz];refine aH ?_;exact b8 hk
def Sd{lo hi:Int}(hT:dO Gf t N)(hτ:τ.Ok b)(hb:b<2^60)(py:0<=lo/\lo<2^20)(Hq: -1<=hi/\hi<2^20)(hk:k (iv (Cw τ lo hi)) (Gf (tick τ))):aS lv BI 37 (Gf τ) [.op t 0,iv lo,iv hi] k kp:=by refine br (rs:=[.tmp 6]) (nt:=14) Tryz.f37 λhH hA=> ?_;simp only[ba,Tq];have bz:Tg.wrap (hi-lo)=hi-lo:=bt _ (by omega);have hr:=lX τ (hi-lo);have f_:Tg.wrap (lo+dp τ (hi-lo))=lo+dp τ (hi-lo):=bt _ (by omega);refine ai ?_;refine ab ?_;simp only[seval,bz];refine aK (qe hT hτ hb (by omega) ?_);(try simp only[seval,f_]);refine aH ?_;exact b8 hk
def GK{n:Int}(hT:dO Gf t N)(hτ:τ.Ok b)(hb:b<2^60)(hn:0<=n/\n<2^20)(hk:k (bv (arV τ n)) (Gf (tick τ))):aS lv BI 95 (Gf τ) [.op t 0,iv n] k kp:=by refine br (rs:=[.tmp 4]) (nt:=10) Tryz.f95 λhH hA=> ?_;simp only[ba,Tq];have bz:Tg.wrap (n-1)=n-1:=bt _ (by omega);refine ai ?_;refine ab ?_;simp only[seval,bz];refine aK (qe hT hτ hb (by omega) ?_);(try simp only[seval]);refine aH ?_;exact b8 hk
end
def sZ{α:Type}{xs:List α}{i:Nat}{x:α}(h:xs[i]?=some x):x∈xs:=Un h
section
variable {lv:Bool}{H:SA}{k kp:SF}
inductive sf:List AV->List AV->Prop
 |nil:sf [] []
 |cons {a b:AV} {l m:List AV} (h:Wk a b) (t:sf l m):sf (a::l) (b::m)
def sf.len{l m:SC}(h:sf l m):l.length=m.length:=by
 induction h with
 |nil=>rfl
 |cons _ _ ih=>simp[ih]
def sf.at{l m:SC}(h:sf l m):∀(i:Nat)(a b:AV),m[i]?=some a->l[i]?=some b->Wk b a:=by
 induction h with
 |nil=>intro i a b h;simp at h
 |cons h _ ih=>
  intro i a b h1 h2
  match i with
  |0=>cases h1;cases h2;exact h
  |i+1=>exact ih i a b h1 h2
def uP{l l':SC}(h:sf l l'):Wk (.agg l) (.agg l'):=λE v hd=>by
 cases hd with
 |agg hs h1=>refine .agg (by rw[hs,h.len]) λi x hx=> ?_;obtain⟨y,hy⟩:=bF (xs:=l) (i:=i) (by rw[h.len];exact eF hx);exact h.at i x y hx hy E _ (h1 i y hy)
def Ju{n:Nat}{l l':SC}{e:End}(hl:l.length=l'.length)(h:∀(i:Nat) a b,l'[i]?=some a->l[i]?=some b->Wk b a):Wk (.sl n l e) (.sl n l' e):=λE v hd=>by
 cases hd with
 |sl b o cap f hc he h1 h2=>refine .sl b o cap f hc he (λi hi=>h1 i (by omega)) λi x hx=> ?_;obtain⟨y,hy⟩:=bF (xs:=l) (i:=i) (by have:=eF hx;omega);exact h i x y hx hy E _ (h2 i y hy)
 |nil he=>have:l'=[]:=WS hl.symm;subst this;exact .nil he
def au0{a b c:AV}(h:Wk a b)(k:Wk b c):Wk a c:=λE v hd=>k E v (h E v hd)
def auZ{n:Nat}{l l':SC}{e:End}(h:sf l l'):Wk (.sl n l e) (.sl n l' .shut):=au0 (Ju h.len h.at) (dQ _ _ _)
def zr3:gF (S_ .i64 0) 3=[iv 0,iv 0,iv 0]:=rfl
def uI:(1<=2^24)=True:=by simp
def abx{H L:SA}(h:bJ H)(hL:∀z∈L,∀n,fw n z):bJ (H++L):=λz hz=>by rcases T1.1 hz with h'|h';exact(h z h').mono (by simp);exact hL z h' _
def Ce{base Vi Vn T:SH}{H H':SA}(G:SA)(hk:tD T (Vi++base) Vn)(hv:∀p∈Vn,∃b,look T p.1=some b/\Wk b p.2)(an:bJ H)(hlt:∀p∈Vn,Lt H.length p.2)(hG:H'=H++G):sd base Vi Vn H ⟨T,H'⟩:=⟨hk,hv,G,hG,.inr ⟨an,hlt⟩⟩
def aud{xs ys:SD}{i:Nat}{x y:Int}(hx:xs[i]?=some x)(hy:ys[i]?=some y)(h:xs.take i=ys.take i)(e:x=y):xs.take (i+1)=ys.take (i+1):=by obtain⟨hj,rfl⟩:=Tn.1 hx;obtain⟨hk,rfl⟩:=Tn.1 hy;rw[VH hj,VH hk,h,e]
def aik{xs:SD}{i:Nat}{x n:Int}(h:xs[i]?=some x):(xs.take (i+1)).contains n=((xs.take i).contains n||n==x):=by obtain⟨hj,rfl⟩:=Tn.1 h;rw[VH hj,Zz,Zz,Zd];simp
def A1{xs ys:SD}{e e':End}(hx:xs.length<2^60)(hk:k (bv (decide (xs=ys))) H):aS lv BI 26 H [.sl xs.length (xs.map iv) e,.sl ys.length (ys.map iv) e'] k kp:=by
 refine br (rs:=[.tmp 4]) (nt:=26) Tryz.f26 λhH hA=> ?_;simp only[ba,Tq];refine ai ?_;refine ai ?_;refine ao ?_;refine⟨λh=> ?_,λh=> ?_⟩
 ·have h:xs≠ys:=λe=>by subst e;simp at h
  refine ai ?_;refine aH ?_;rw[decide_eq_false h]at hk;exact b8 hk
 ·have h:xs.length=ys.length:=by have h:(xs.length:Int)=ys.length:=(by simpa using h);omega
  refine aF ?_;refine ai ?_;refine bO ?_;refine nj xs.length (λi:Nat=>[(5,iv i)]) (λ_=>_) (λi=>xs.take i=ys.take i) (by simp) (λbN cm i ce hi R hR=> ?_);refine ai ?_;refine ao ?_;refine⟨λh2=> ?_,λh2=> ?_⟩;have hlt:i<xs.length:=(by omega);obtain⟨x,mP⟩:=bF hlt;obtain⟨y,kI⟩:=bF (xs:=ys) (i:=i) (by omega);refine aF ?_;refine bO ?_;refine cS 8 ?_;simp only[seval,dn mP,dn kI,fy hlt,fy (eF kI)];refine ao ?_;refine⟨λh3=> ?_,λh3=> ?_⟩;(have h3:xs≠ys:=λe=>(by subst e;rw[mP]at kI;cases kI;simp at h3);refine ai ?_;refine aH ?_;rw[decide_eq_false h3]at hk;exact b8 hk);have h3:x=y:=(by simpa using h3);refine aF ?_;refine ai ?_;refine hR _ ⟨hlt,aud mP kI hi h3,?_⟩;rw[bt _ (by omega)];exact cK
  ·have jj:i=xs.length:=(by omega);refine bT ?_;refine ai ?_;refine aH ?_;have h3:xs=ys:=by rw[jj,Ux]at hi;rw[hi,h,Ux]
   rw[decide_eq_true h3]at hk;exact b8 hk
def R7{xs:SD}{n:Int}{e:End}(hx:xs.length<2^60)(hk:k (bv (xs.contains n)) H):aS lv BI 113 H [.sl xs.length (xs.map iv) e,iv n] k kp:=by
 refine br (rs:=[.tmp 4]) (nt:=18) Tryz.f113 λhH hA=> ?_;simp only[ba,Tq];refine ai ?_;refine ai ?_;refine bO ?_;refine nj xs.length (λi:Nat=>[(5,iv i)]) (λ_=>_) (λi=>(xs.take i).contains n=false) (by simp) (λbN cm i ce hi R hR=> ?_);refine ai ?_;refine ao ?_;refine⟨λh2=> ?_,λh2=> ?_⟩
 ·have hlt:i<xs.length:=by omega
  obtain⟨x,mP⟩:=bF hlt;have D5:=aik (n:=n) mP;refine aF ?_;refine ab ?_;simp only[seval,dn mP,fy hlt];refine ao ?_;refine⟨λh3=> ?_,λh3=> ?_⟩;have h3:x=n:=(by simpa using h3);refine ai ?_;refine aH ?_;have:xs.contains n=true:=(by rw[Xt];rw[<- h3];exact sZ mP);rw[this]at hk;exact b8 hk;have h3:¬x=n:=(by simpa using h3);refine aF ?_;refine ai ?_;refine hR _ ⟨hlt,by rw[D5,hi];simp;omega,?_⟩;rw[bt _ (by omega)];exact cK
 ·have jj:i=xs.length:=by omega
  subst jj;rw[Ux]at hi;rw[hi]at hk;refine bT ?_;refine ai ?_;refine aH ?_;exact b8 hk
end
namespace Tk
def aeR{n:Int}:∀{h:SD}{i0 i:Nat}{a b:Int},(∀j,j<i->∀a b,h[j]?=some a->h[j+1]?=some b->¬(a<=n/\n<b))->h[i]?=some a->h[i+1]?=some b->a<=n/\n<b->eW i0 h n=((i0+i:Nat):Int)
 |[],i0,i,a,b,_,ha,_,_=>by simp at ha
 |[c],i0,0,a,b,_,_,hb,_=>by simp at hb
 |[c],i0,i+1,a,b,_,ha,_,_=>by simp at ha
 |c::d::l,i0,0,a,b,_,ha,hb,hn=>by simp only[WF,Ul,VL,WK]at ha hb;subst ha hb;unfold eW;rw[if_pos hn];rfl
 |c::d::l,i0,i+1,a,b,h0,ha,hb,hn=>by have h1:=h0 0 (by omega) c d rfl rfl;unfold eW;rw[if_neg h1,aeR (i0:=i0+1) (i:=i) (λj hj a b ha hb=>h0 (j+1) (by omega) a b (by simpa using ha) (by simpa using hb)) (by simpa using ha) (by simpa using hb) hn];congr 1;omega
def aeU{n:Int}:∀{h:SD}{i0:Nat},(∀(j:Nat) a b,h[j]?=some a->h[j+1]?=some b->¬(a<=n/\n<b))->eW i0 h n= -1
 |[],_,_=>rfl
 |[_],_,_=>rfl
 |c::d::l,i0,h0=>by unfold eW;rw[if_neg (h0 0 c d rfl rfl)];exact aeU λj a b ha hb=>h0 (j+1) a b (by simpa using ha) (by simpa using hb)
end Tk
open Go.Conc Go.Proofs Go.Gg.Tk
section
variable {lv:Bool}{H:SA}{k kp:SF}
def R9{h:SD}{n:Int}{e:End}(hl:h.length<=2^40)(hk:k (iv (ff h n)) H):aS lv BI 115 H [.sl h.length (h.map iv) e,iv n] k kp:=by
 refine br (rs:=[.tmp 4]) (nt:=29) Tryz.f115 λhH hA=> ?_;simp only[ba,Tq];refine ai ?_;refine ai ?_;refine bO ?_;refine nj (h.length-1) (λi:Nat=>[(5,iv i)]) (λ_=>_) (λi=>∀j,j<i->∀a b,h[j]?=some a->h[j+1]?=some b->¬(a<=n/\n<b)) (λj hj=>by omega) (λbN cm i ce an R hR=> ?_);have e9:=TL i (by omega)
 refine ab ?_;simp only[seval,e9];refine ao ?_;refine⟨λhc=> ?_,λhc=> ?_⟩
 ·have bh:i+1<h.length:=by omega
  obtain⟨a,ha⟩:=bF (xs:=h) (i:=i) (by omega);obtain⟨b,hb⟩:=bF (xs:=h) (i:=i+1) bh;have dA:=fy (show i<h.length by omega);have ma:(0<=(i:Int)+1/\(i:Int)+1<(h.length:Int))=True:=by simp;omega
  have gL:((i:Int)+1).toNat=i+1:=by omega
  have HF:¬(a<=n/\n<b)->∀j,j<i+1->∀a b,h[j]?=some a->h[j+1]?=some b->¬(a<=n/\n<b):=λvz j hj a' b' fK de=>by by_cases e:j=i;subst e;rw[ha]at fK;rw[hb]at de;cases fK;cases de;exact vz;exact an j (by omega) a' b' fK de
  refine aF ?_;refine bO ?_;by_cases c1:a<=n;have d1:decide (n>=a)=true:=decide_eq_true c1;by_cases c2:n<b;have d2:decide (n<b)=true:=decide_eq_true c2;refine ab ?_;simp only[seval,dn ha,dn hb,dA,ma,gL,d1,d2,e9];refine ao ?_;refine ai ?_;refine aH ?_;have e:ff h n=(i:Int):=(by unfold ff;rw[aeR an ha hb ⟨c1,c2⟩];simp);rw[e]at hk;exact b8 hk;have d2:decide (n<b)=false:=decide_eq_false c2;refine ab ?_;simp only[seval,dn ha,dn hb,dA,ma,gL,d1,d2,e9];refine ao ?_;refine aF ?_;refine ab ?_;simp only[seval,e9];refine hR _ ⟨by omega,HF λhh=>c2 hh.2,cK⟩;have d1:decide (n>=a)=false:=decide_eq_false c1;refine ab ?_;simp only[seval,dn ha,dA,d1];refine ao ?_;refine aF ?_;refine ab ?_;simp only[seval,e9];refine hR _ ⟨by omega,HF λhh=>c1 hh.1,cK⟩
 ·refine bT ?_;have e:ff h n= -1:=by unfold ff;refine aeU λj a b ha hb=>an j ?_ a b ha hb;have:=(Tn.1 hb).1;omega
  rw[e]at hk;refine ai ?_;refine aH ?_;exact b8 hk
def Sr{h:SD}{y:aD}{n:Int}{e:End}(hl:h.length<=2^40)(hk:k (bv (fits h y n)) H):aS lv BI 85 H [.sl h.length (h.map iv) e,y.av,iv n] k kp:=by
 refine br (rs:=[.tmp 6]) (nt:=25) Tryz.f85 λhH hA=> ?_;simp only[ba,Tq,aD.av];unfold fits at hk;refine ai ?_;refine cS 18 ?_;simp only[seval,TN];refine dG (iv (ff h n)) (bX (R9 hl ⟨rfl,rfl⟩)) ?_;by_cases c1:0<=ff h n
 ·have d0:decide (ff h n>=0)=true:=decide_eq_true c1;have d1:decide (0<=ff h n)=true:=decide_eq_true c1;rw[d1,VO]at hk;(try simp only[seval,d0,aD.l,TN]);refine dG (bv (ec y.number n)) (bX (tU (b:=y.number) ⟨rfl,rfl⟩)) ?_;cases c2:ec y.number n with
  |true=>rw[c2,VO]at hk;(try simp only[seval,aD.l,TN]);refine dG (iv (ff h n)) (bX (R9 hl ⟨rfl,rfl⟩)) ?_;(try simp only[seval,aD.l,TN]);refine dG (bv (ec y.hour (ff h n))) (bX (tU (b:=y.hour) ⟨rfl,rfl⟩)) ?_;(try simp only[seval]);refine aH ?_;exact cW hH hk
  |false=>rw[c2,Ww]at hk;(try simp only[seval]);refine aH ?_;exact cW hH hk
 ·have d0:decide (ff h n>=0)=false:=decide_eq_false c1;have d1:decide (0<=ff h n)=false:=decide_eq_false c1;rw[d1,Ww,Ww]at hk;(try simp only[seval,d0]);refine aH ?_;exact cW hH hk
def Si{x:aj}{l:SY}{m:Nat}(sF:1<=x.hours/\x.hours<=3)(hm:m<=4)(hk:k (iv (if l.length>m then 6 else iM (gz x.hours) l)) H):aS lv BI 63 H [x.av,aG l,iv m] k kp:=by
 refine br (rs:=[.tmp 6]) (nt:=66) Tryz.f63 λhH hA=> ?_;simp only[ba,Tq,aj.av];have pC:Tg.wrap (x.hours-1)=x.hours-1:=bt _ (by omega);refine ab ?_;simp only[seval,TM];by_cases g3:l.length>m
 ·have d3:decide ((m:Int)<l.length)=true:=by simp;omega
  rw[if_pos g3]at hk;refine ab ?_;simp only[seval,aG,d3];refine ao ?_;refine ai ?_;refine aH ?_;exact cW hH hk
 have d3:decide ((m:Int)<l.length)=false:=by simp;omega
 rw[if_neg g3]at hk;refine ab ?_;simp only[seval,aG,d3];refine ao ?_;refine aF ?_;refine ab ?_;simp only[seval,TN,TV,pC];refine ai ?_;refine bO ?_;refine nj l.length (λi:Nat=>[(8,iv i)]) (λ_=>_) (λi=>∀j,j<i->∀z,l[j]?=some z->gz x.hours z=0) (λj hj=>by omega) (λbN cm i ce an R hR=> ?_);refine ai ?_;refine ao ?_;refine⟨λh=> ?_,λh=> ?_⟩
 ·have bh:i<l.length:=by omega
  obtain⟨y,hy⟩:=bF bh;have bz:=TL i (by omega);have nz:=fy bh;refine aF ?_;refine ab ?_;simp only[seval,oR hy,nz];refine aK (R4 (b:=y.number) ?_);(try simp only[seval]);by_cases h1:fx y.number 99 1=0
  ·rw[h1];have hE:gz x.hours y=fx y.hour (x.hours-1) 3:=(by unfold gz;rw[if_pos h1]);refine ab ?_;simp only[seval,show ((0:Int)!=0)=false from rfl];refine ao ?_;refine aF ?_;refine cS 20 ?_;simp only[seval,oR hy,nz,TO];refine dG (bv (ec ⟨0,x.hours-1⟩ y.hour.min)) (bX (tU (b:=⟨0,x.hours-1⟩) ⟨rfl,rfl⟩)) ?_;have hB:fx y.hour (x.hours-1) 3=if ec ⟨0,x.hours-1⟩ y.hour.min&&ec ⟨0,x.hours-1⟩ y.hour.max then(if y.hour.min>y.hour.max then 5 else 0)else 3:=by unfold fx ec;simp only[Ui,decide_eq_true_eq];by_cases h:(y.hour.min<0\/y.hour.min>x.hours-1)\/(y.hour.max<0\/y.hour.max>x.hours-1);rw[if_pos h,if_neg (show ¬((0<=y.hour.min/\y.hour.min<=x.hours-1)/\0<=y.hour.max/\y.hour.max<=x.hours-1) by omega)];rw[if_neg h,if_pos (show (0<=y.hour.min/\y.hour.min<=x.hours-1)/\0<=y.hour.max/\y.hour.max<=x.hours-1 by omega)]
   have bad:fx y.hour (x.hours-1) 3≠0->k (iv (fx y.hour (x.hours-1) 3)) H:=λhn=>by have hF:=yJ (f:=gz x.hours) an hy (by rw[hE];exact hn);rw[hF,hE]at hk;exact hk
   cases c1:ec ⟨0,x.hours-1⟩ y.hour.min with
   |false=>rw[c1,Ww,if_neg (by decide)]at hB;rw[hB]at bad;(try simp only[seval]);refine ao ?_;refine ai ?_;refine aH ?_;exact cW hH (bad (by decide))
   |true=>
   rw[c1,VO]at hB;(try simp only[seval,oR hy,nz,TO]);refine dG (bv (ec ⟨0,x.hours-1⟩ y.hour.max)) (bX (tU (b:=⟨0,x.hours-1⟩) ⟨rfl,rfl⟩)) ?_;cases c2:ec ⟨0,x.hours-1⟩ y.hour.max with
   |false=>rw[c2,if_neg (by decide)]at hB;rw[hB]at bad;(try simp only[seval]);refine ao ?_;refine ai ?_;refine aH ?_;exact cW hH (bad (by decide))
   |true=>
   rw[c2,if_pos rfl]at hB;(try simp only[seval]);refine ao ?_;refine aF ?_;by_cases c3:y.hour.min>y.hour.max;have d4:decide (y.hour.min>y.hour.max)=true:=decide_eq_true c3;rw[if_pos c3]at hB;rw[hB]at bad;refine cS 13 ?_;simp only[seval,oR hy,nz,d4];refine ao ?_;refine ai ?_;refine aH ?_;exact cW hH (bad (by decide));have d4:decide (y.hour.min>y.hour.max)=false:=decide_eq_false c3;rw[if_neg c3]at hB;refine cS 13 ?_;simp only[seval,oR hy,nz,d4];refine ao ?_;refine aF ?_;refine ab ?_;simp only[seval,bz];refine hR _ ⟨bh,λj hj z hz=> ?_,cK⟩;by_cases e:j=i;subst e;rw[hy]at hz;cases hz;rw[hE,hB];exact an j (by omega) z hz
  ·have hE:gz x.hours y=fx y.number 99 1:=(by unfold gz;rw[if_neg h1]);have hF:=yJ (f:=gz x.hours) an hy (by rw[hE];exact h1);rw[hF,hE]at hk;have d1:(fx y.number 99 1!=0)=true:=(by rw[bne_iff_ne];exact h1);refine ab ?_;simp only[seval,d1];refine ao ?_;refine ai ?_;refine aH ?_;exact cW hH hk
 ·have nD:i=l.length:=by omega
  subst nD;rw[GP an]at hk;refine bT ?_;refine ai ?_;refine aH ?_;exact cW hH hk
def Sc{x:aj}(hk:k (iv (eK x)) H):aS lv BI 19 H [x.av] k kp:=by
 refine br (rs:=[.tmp 2]) (nt:=57) Tryz.f19 λhH hA=> ?_;simp only[ba,Tq,aj.av];have nz:∀a b n:Int,ec ⟨a,b⟩ n=false<->(n<a\/n>b):=λa b n=>by unfold ec;dsimp only;rw[Bool.and_eq_false_iff,decide_eq_false_iff_not,decide_eq_false_iff_not];constructor<;>intro h<;>omega
 have Mf:∀a b n:Int,ec ⟨a,b⟩ n=true<->(a<=n/\n<=b):=λa b n=>by unfold ec;rw[Ui,decide_eq_true_eq,decide_eq_true_eq]
 refine ab ?_;simp only[seval,TM];refine ab ?_;simp only[seval,TN];refine aK (tU (b:=⟨0,90⟩) ?_);cases c1:ec ⟨0,90⟩ x.first with
 |false=>
  have hE:eK x=1:=by unfold eK;rw[if_pos (.inl ((nz _ _ _).1 c1))]
  rw[hE]at hk;(try simp only[seval]);refine ao ?_;refine ai ?_;refine aH ?_;exact cW hH hk
 |true=>
 (try simp only[seval,TN]);refine aK (tU (b:=⟨1,3⟩) ?_);cases c2:ec ⟨1,3⟩ x.hours with
 |false=>
  have hE:eK x=1:=by unfold eK;rw[if_pos (.inr (.inl ((nz _ _ _).1 c2)))]
  rw[hE]at hk;(try simp only[seval]);refine ao ?_;refine ai ?_;refine aH ?_;exact cW hH hk
 |true=>
 (try simp only[seval,TN]);refine aK (tU (b:=⟨1,3⟩) ?_);cases c3:ec ⟨1,3⟩ x.am with
 |false=>
  have hE:eK x=1:=by unfold eK;rw[if_pos (.inr (.inr ((nz _ _ _).1 c3)))]
  rw[hE]at hk;(try simp only[seval]);refine ao ?_;refine ai ?_;refine aH ?_;exact cW hH hk
 |true=>
 have e1:=(Mf _ _ _).1 c1;have e2:=(Mf _ _ _).1 c2;have e3:=(Mf _ _ _).1 c3;unfold eK at hk;rw[if_neg (show ¬((x.first<0\/x.first>90)\/(x.hours<1\/x.hours>3)\/(x.am<1\/x.am>3)) by omega)]at hk;(try simp only[seval]);refine ao ?_;refine aF ?_;by_cases g3:x.seen.length>3
 ·have d3:decide ((3:Int)<x.seen.length)=true:=by simp;omega
  rw[if_pos g3]at hk;refine ab ?_;simp only[seval,TN,bM,d3];refine ao ?_;refine ai ?_;refine aH ?_;exact cW hH hk
 have d3:decide ((3:Int)<x.seen.length)=false:=by simp;omega
 rw[if_neg g3]at hk;refine ab ?_;simp only[seval,TN,bM,d3];refine ao ?_;refine aF ?_;refine ai ?_;refine bO ?_;refine nj x.seen.length (λi:Nat=>[(3,iv i)]) (λ_=>_) (λi=>∀j,j<i->∀z,x.seen[j]?=some z->iG x.hours z=0) (λj hj=>by omega) (λbN cm i ce an R hR=> ?_);refine ab ?_;simp only[seval,TN];refine ao ?_;refine⟨λh=> ?_,λh=> ?_⟩
 ·have bh:i<x.seen.length:=by omega
  obtain⟨y,hy⟩:=bF bh;have bz:=TL i (by omega);refine aF ?_;refine bO ?_;refine cS 7 ?_;simp only[seval,Ad hy,fy bh,TN];refine dG (iv (iG x.hours y)) (bX (akF (x:=x) (y:=y) ⟨rfl,rfl⟩)) ?_;(try simp only[seval]);by_cases h1:iG x.hours y=0;have d1:(iG x.hours y !=0)=false:=(by rw[h1];rfl);refine ab ?_;simp only[seval,d1];refine ao ?_;refine aF ?_;refine ab ?_;simp only[seval,bz];refine hR _ ⟨bh,λj hj z hz=> ?_,cK⟩;by_cases e:j=i;subst e;rw[hy]at hz;cases hz;exact h1;exact an j (by omega) z hz;have d1:(iG x.hours y !=0)=true:=(by rw[bne_iff_ne];exact h1);have hF:=yJ (f:=iG x.hours) an hy h1;rw[hF,if_pos h1]at hk;refine ab ?_;simp only[seval,d1];refine ao ?_;refine ai ?_;refine aH ?_;exact cW hH hk
 ·have nD:i=x.seen.length:=by omega
  subst nD;rw[if_neg (by rw[W4];exact GP an)]at hk;refine bT ?_;refine ab ?_;simp only[seval,TN];refine aK (Si (x:=x) (l:=x.pieces) (m:=4) (by omega) (by omega) ?_);(try simp only[seval]);have awk:∀l:SY,∀q r:Int,(if(if l.length>4 then(6:Int)else iM (gz x.hours) l)=0 then q else r)=(if l.length>4 then r else if iM (gz x.hours) l=0 then q else r):=λl q r=>by by_cases g:l.length>4;rw[if_pos g,if_pos g,if_neg (by decide)];rw[if_neg g,if_neg g]
  by_cases h1:(if x.pieces.length>4 then(6:Int)else iM (gz x.hours) x.pieces)=0;(have d1:((if x.pieces.length>4 then(6:Int)else iM (gz x.hours) x.pieces)!=0)=false:=(by rw[h1];rfl);have Ek:¬x.pieces.length>4:=λg=>(by rw[if_pos g]at h1;omega);rw[if_neg Ek]at h1;rw[if_neg Ek,if_neg (by rw[W4];exact h1)]at hk;refine ab ?_;simp only[seval,d1];refine ao ?_;refine aF ?_;refine ab ?_;simp only[seval,TN];refine aK (Si (x:=x) (l:=x.aq) (m:=3) (by omega) (by omega) ?_);(try simp only[seval]);refine aH ?_;exact cW hH hk)
  ·have d1:((if x.pieces.length>4 then(6:Int)else iM (gz x.hours) x.pieces)!=0)=true:=(by rw[bne_iff_ne];exact h1);have aO:k (iv (if x.pieces.length>4 then(6:Int)else iM (gz x.hours) x.pieces)) H:=by by_cases g:x.pieces.length>4;rw[if_pos g]at hk⊢;exact hk;rw[if_neg g]at hk h1⊢;rw[if_pos h1]at hk;exact hk
   refine ab ?_;simp only[seval,d1];refine ao ?_;refine ai ?_;refine aH ?_;exact cW hH aO
end
end Go.Gg
namespace Go.Gg.Tk
structure Want where
 kind:Int
 x:Int
 y:Int
def jL (w:Want)(ns:SD)(os:SE):Bool:=
 if w.kind=1 then decide (os.length=0/\(ns.length:Int)-1=w.x/\ns.getD (ns.length-1) 0≠w.y)
 else if w.kind=2 then decide (os.length=0/\(ns.length:Int)-1=max w.x w.y/\ns.getD w.x.toNat 0>ns.getD w.y.toNat 0)
 else if w.kind=3 then decide ((os.length:Int)-1=w.x/\(os.getD (os.length-1) 0:Int)≠w.y)
 else if w.kind=4 then decide ((os.length:Int)-1=w.x/\(os.getD (os.length-1) 0:Int)=w.y)
 else false
def fH (w:Want)(ns:SD)(os:SE):Bool:=decide (0<ns.length+os.length)&&jL w ns os
def og (R:SD->SE->Bool)(h ns:SD):List aD->SE->Option Tr
 |[],os=>if R ns os then none else some ⟨h,ns,os⟩
 |s::ss,os=>if R ns os then none else((Tt ns.length).filter λp=>fits h s (ns.getD p 0)&& !os.contains p).findSome? λp=>og R h ns ss (os++[p])
def nu (R:SD->SE->Bool)(h:SD)(aq:SY):List aD->SD->Option Tr
 |[],ns=>og R h ns aq []
 |y::ys,ns=>if R ns []then none else((xJ h).filter λn=>fits h y n&& !ns.contains n).findSome? λn=>nu R h aq ys (ns++[n])
def uH (R:SD->SE->Bool)(ns:SD)(j:Nat)(os:SE):Bool:=(Tt (os.length+1)).all λk=>decide (k<j)|| !R ns (os.take k)
def wi (R:SD->SE->Bool)(j:Nat)(ns:SD):Bool:=(Tt ns.length).all λk=>decide (k<j)|| !R (ns.take k) []
def OM{h ns:SD}:∀{ss:SY}{os o:SE},o∈ld h ns ss os->os.length<=o.length/\o.take os.length=os
 |[],os,o,ho=>by rw[Ub.1 ho];exact⟨Tv _,Ux⟩
 |s::ss,os,o,ho=>by unfold ld at ho;obtain⟨p,_,hp⟩:=T8.1 ho;obtain⟨h1,h2⟩:=OM hp;rw[Tp]at h1 h2;simp only[Uw]at h1 h2;refine⟨by omega,?_⟩;have:=congrArg (U9 os.length) h2;rw[VF,Wa (by omega),XA]at this;exact this;rfl
def OE{h:SD}:∀{ys:SY}{t n:SD},n∈kJ h ys t->t.length<=n.length/\n.take t.length=t
 |[],t,n,hn=>by rw[Ub.1 hn];exact⟨Tv _,Ux⟩
 |y::ys,t,n,hn=>by unfold kJ at hn;obtain⟨p,_,hp⟩:=T8.1 hn;obtain⟨h1,h2⟩:=OE hp;rw[Tp]at h1 h2;simp only[Uw]at h1 h2;refine⟨by omega,?_⟩;have:=congrArg (U9 t.length) h2;rw[VF,Wa (by omega),XA]at this;exact this;rfl
def Li{α:Type}{l:List α}{p:α->Bool}(h:∀a∈l,p a=false):l.find? p=none:=by rw[ad'];intro a ha e;rw[h a ha]at e;cases e
def find_congr{α:Type}{l:List α}{p q:α->Bool}(h:∀a∈l,p a=q a):l.find? p=l.find? q:=by
 induction l with
 |nil=>rfl
 |cons a l ih=>rw[aw0,aw0,h a (by simp),ih λb hb=>h b (by simp[hb])]
def aqg{R:SD->SE->Bool}{ns:SD}{os o:SE}(h1:os.length<o.length)(h2:o.take os.length=os)(hR:R ns os=false):uH R ns os.length o=uH R ns (os.length+1) o:=by unfold uH;rw[Ve,Uq,Uq];refine⟨λh k hk=> ?_,λh k hk=> ?_⟩;have:=h k hk;rw[XP,decide_eq_true_eq]at this⊢;rcases this with h'|h';exact .inl (by omega);exact .inr h';have:=h k hk;rw[XP,decide_eq_true_eq]at this⊢;rcases this with h'|h';by_cases e:k=os.length;subst e;rw[h2,hR];exact .inr rfl;exact .inl (by omega);exact .inr h'
def ac7{R:SD->SE->Bool}{ns:SD}{os o:SE}(h1:os.length<=o.length)(h2:o.take os.length=os)(hR:R ns os=true):uH R ns os.length o=false:=by unfold uH;rw[al'];exact⟨os.length,UB.2 (by omega),by rw[h2,hR];simp⟩
def aaD(R:SD->SE->Bool)(h ns:SD):∀(ss:SY)(os:SE),og R h ns ss os=((ld h ns ss os).map λo=>(⟨h,ns,o⟩:Tr)).find? λt=>uH R ns os.length t.bL
 |[],os=>by
  unfold og ld;cases hR:R ns os with
  |true=>rw[if_pos rfl,Li];intro a ha;obtain rfl:a=⟨h,ns,os⟩:=(by simpa using ha);exact ac7 (Tv _) Ux hR
  |false=>
   rw[if_neg (by simp)];have:uH R ns os.length os=true:=by unfold uH;rw[Uq];intro k hk;have:=UB.1 hk;by_cases e:k=os.length;subst e;rw[Ux,hR];simp;rw[decide_eq_true (by omega)];rfl
   simp[this]
 |s::ss,os=>by
  unfold og ld;cases hR:R ns os with
  |true=>rw[if_pos rfl,Li];intro a ha;obtain⟨o,ho,rfl⟩:=Uh.1 ha;have hp:=OM (h:=h) (ns:=ns) (ss:=s::ss) (by unfold ld;exact ho);exact ac7 hp.1 hp.2 hR
  |false=>rw[if_neg (by simp),WN,ad_];congr 1;funext p;rw[aaD R h ns ss (os++[p])];refine find_congr λa ha=> ?_;obtain⟨o,ho,rfl⟩:=Uh.1 ha;obtain⟨h1,h2⟩:=OM ho;rw[Tp,Uw]at h1 h2;rw[Tp,Uw];refine(aqg (by dsimp only;omega) ?_ hR).symm;have:=congrArg (U9 os.length) h2;rw[VF,Wa (by omega),XA rfl]at this;exact this
def aqf{R:SD->SE->Bool}{t n:SD}(h1:t.length<n.length)(h2:n.take t.length=t)(hR:R t []=false):wi R t.length n=wi R (t.length+1) n:=by unfold wi;rw[Ve,Uq,Uq];refine⟨λh k hk=> ?_,λh k hk=> ?_⟩;have:=h k hk;rw[XP,decide_eq_true_eq]at this⊢;rcases this with h'|h';exact .inl (by omega);exact .inr h';have:=h k hk;rw[XP,decide_eq_true_eq]at this⊢;rcases this with h'|h';by_cases e:k=t.length;subst e;rw[h2,hR];exact .inr rfl;exact .inl (by omega);exact .inr h'
def xL (R:SD->SE->Bool)(j:Nat)(t:Tr):Bool:=wi R j t.aC&&uH R t.aC 0 t.bL
def aaC(R:SD->SE->Bool)(h:SD)(aq:SY):∀(ys:SY)(ns:SD),nu R h aq ys ns=((kJ h ys ns).flatMap λn=>(ld h n aq []).map λo=>(⟨h,n,o⟩:Tr)).find? (xL R ns.length)
 |[],ns=>by
  unfold nu kJ;rw[aaD,List.flatMap_singleton];refine find_congr λa ha=> ?_;obtain⟨o,ho,rfl⟩:=Uh.1 ha;have:wi R ns.length ns=true:=by unfold wi;rw[Uq];intro k hk;rw[decide_eq_true (UB.1 hk)];rfl
  unfold xL;rw[this];rfl
 |y::ys,ns=>by
  unfold nu kJ;cases hR:R ns []with
  |true=>
   rw[if_pos rfl,Li];intro a ha;obtain⟨n,hn,ha⟩:=T8.1 ha;obtain⟨o,ho,rfl⟩:=Uh.1 ha;obtain⟨p,_,hp⟩:=T8.1 hn;obtain⟨h1,h2⟩:=OE hp;rw[Tp,Uw]at h1 h2;have h3:=congrArg (U9 ns.length) h2;rw[VF,Wa (by omega),XA rfl]at h3;unfold xL;have:wi R ns.length n=false:=by unfold wi;rw[al'];exact⟨ns.length,UB.2 (by omega),by rw[h3,hR];simp⟩
   dsimp only;rw[this];rfl
  |false=>rw[if_neg (by simp),ac',ad_];congr 1;funext p;rw[aaC R h aq ys (ns++[p])];refine find_congr λa ha=> ?_;obtain⟨n,hn,ha⟩:=T8.1 ha;obtain⟨o,ho,rfl⟩:=Uh.1 ha;obtain⟨h1,h2⟩:=OE hn;rw[Tp,Uw]at h1 h2;have h3:=congrArg (U9 ns.length) h2;rw[VF,Wa (by omega),XA rfl]at h3;unfold xL;rw[Tp,Uw];dsimp only;rw[aqf (by omega) h3 hR]
def alI(R:SD->SE->Bool)(x:aj)(h:SD):nu R h x.aq x.pieces []=(nO x h).find? (xL R 0):=aaC R h x.aq x.pieces []
end Go.Gg.Tk
namespace Go.Gg
open Go.Conc Go.Proofs Go.Gg.Tk
def gN (x:aj)(deep:Int)(D:Kn):Prop:=∃(p:Nat)(js:SE),x.am=p/\js.Perm (Tt (p+1))/\oU x deep js D/\bW D
def xT(x:aj):∀a∈x.l,a.leaf=true:=λa ha=>by simp only[aj.l,Tm,T5,or_false]at ha;rcases ha with rfl|rfl|rfl|rfl|rfl|rfl<;>rfl
section
variable {H:SA}{k kp:SF}
def Gi{lv:Bool}:FS lv H (.fn (.func 55) [] []) true:=λL k kp hk=>bX (akB hk)
def aj7{x:aj}(hx:x.Ok)(hm:H[0]?=some .main)(hk:∀D,gN x 0 D->k (.aJ [iv (if D.has then(D.aQ.length:Int)else 0),iv 0]) H):aS true BI 16 H [x.av] k kp:=by
 refine br (rs:=[.tmp 2,.tmp 3]) (nt:=19) Tryz.f16 λhH hA=> ?_;simp only[ba,Tq,aj.av];have hp:=hx.am;obtain⟨p,jn⟩:∃p:Nat,x.am=p:=⟨x.am.toNat,by omega⟩;refine ai ?_;refine ab ?_;simp only[seval,TN,TQ,TR];refine aK (A2 (x:=x) hx jn (dW hm) Gi (λh=>by cases h) λ_ js D L mp iX jW eI uj hg=> ?_);have re:gN x 0 D:=⟨p,js,jn,iX,jW,eI⟩;have fV:=Kn.len eI mp;have kG:=v7 D mp;obtain⟨B,hB⟩:∃B,B=H++[aa.cells x.l 25]++L:=⟨_,rfl⟩;rw[<- hB]at hg⊢;(try simp only[seval,aj.av,TQ,fV]);refine⟨xT x,kG,?_⟩;have fW:∀(L':SA)(n:Int),k (.aJ [iv n,iv 0]) H->cz H.length (B++L') (.aJ [iv n,iv 0]) k:=λL' n h=>by rw[hB,Ev,Ev];exact dS hH (Wk.refl _) (by simp[iw,dF]) h
 have ny:∀(L':SA),(B++L')[B.length+1]?=L'[1]?:=λL'=>aP B L' 1;have xn:∀(L':SA),(B++L')[mp]?=some (.obj (.map (D.aQ.zipIdx.map eP).toArray D.aQ.length)):=λL'=>dW hg;have bi:(D.l mp).drop 1=.mp mp::((D.l mp).drop 2):=rfl;have aO:=hk D re;cases hh:D.has with
 |false=>
  have hE:fP D=11:=by rw[fP,hh];rfl
  rw[hh]at aO;refine ab ?_;simp only[seval,hE,show ((11:Int)==11)=true from rfl];refine ao ?_;refine ai ?_;refine aH ?_;exact fW _ 0 aO
 |true=>
  have hE:fP D=0:=by rw[fP,hh];rfl
  rw[hh]at aO;refine ab ?_;simp only[seval,hE,show ((0:Int)==11)=false from rfl];refine ao ?_;refine aF ?_;refine ab ?_;simp only[seval,ny,bi,xn];have a_:(D.aQ.zipIdx.map eP).toArray.size=D.aQ.length:=by simp
  rw[afO _ _ _ _ _ F.JV (xn _),a_];refine aH ?_;exact fW _ _ aO
end
namespace Tk
def vM (some other:Bool):Int:=if some&&other then 3 else if some then 1 else 2
end Tk
open Go.Conc Go.Proofs Go.Gg.Tk
section
variable {lv:Bool}{H:SA}{k kp:SF}
def akI{D:Kn}{mp s q:Nat}(hD:bW D)(hs:s<3)(hq:q<4)(hk:k (iv (vM ((D.bc.getD s 0).testBit q) (D.bc.getD s 0!=2^q))) H):aS lv BI 68 H [.agg (D.l mp),.bY 104 (.agg [iv s,iv q])] k kp:=by
 refine br (rs:=[.tmp 4]) (nt:=65) Tryz.f68 λhH hA=> ?_;simp only[ba,Tq];have fV:=Kn.len hD mp;obtain⟨u,hu⟩:=bF (xs:=D.bc) (i:=s) (by rw[hD.bc];exact hs);have ml:D.bc.getD s 0=u:=by rw[Tf,hu];rfl
 rw[ml]at hk;have lu:=hD.mr _ (Un hu);have b3:(0<=(s:Int)/\(s:Int)<3)=True:=by simp;omega
 have D7:=Kn.Fq hD (mp:=mp) hu;refine ai ?_;refine ai ?_;refine ai ?_;refine ab ?_;simp only[seval,F.an4];refine ao ?_;refine ab ?_;simp only[seval,F.ab2];refine ao ?_;refine ai ?_;refine cS 18 ?_;simp only[seval,TN,TO,b3,D7];refine dG (bv (u.testBit q)) (bX (yI lu ⟨rfl,rfl⟩)) ?_;refine dG (wv (2^q)) (bX (vn (m:=0) (by decide) (show q<16 by omega) ⟨by rw[Nat.zero_or],rfl⟩)) ?_;have aN:((u:Int)!=((2^q:Nat):Int))=(u !=2^q):=by rw[Ve,bne_iff_ne,bne_iff_ne];exact not_congr Int.ofNat_inj
 rw[show wv u=AV.val (.int .u16 (u:Int))from rfl,show wv (2^q)=AV.val (.int .u16 ((2^q:Nat):Int))from rfl,Qi,aN];have fin:∀(L:SA)(n:Int),vM (u.testBit q) (u !=2^q)=n->cz H.length (H++L) (iv n) k:=λL n h=>by rw[h]at hk;exact cW hH hk
 generalize u.testBit q=s1 at fin⊢;generalize(u !=2^q)=s2 at fin⊢;cases s1<;>cases s2
 all_goals
  refine ai ?_;refine bO ?_;refine bO ?_;refine bO ?_;refine ai ?_;refine ao ?_
 ·refine aF ?_;refine ai ?_;refine ao ?_;refine bT ?_;refine ai ?_;refine ai ?_;refine bT ?_;refine ai ?_;refine aH ?_;exact fin _ 2 rfl
 ·refine aF ?_;refine ai ?_;refine ao ?_;refine bT ?_;refine ai ?_;refine ai ?_;refine bT ?_;refine ai ?_;refine aH ?_;exact fin _ 2 rfl
 ·refine aF ?_;refine ai ?_;refine ao ?_;refine aF ?_;refine bT ?_;refine ai ?_;refine bT ?_;refine ai ?_;refine aH ?_;exact fin _ 1 rfl
 ·refine bT ?_;refine ai ?_;refine ai ?_;refine ai ?_;refine bT ?_;refine ai ?_;refine aH ?_;exact fin _ 3 rfl
def aqX{x:aj}{q:Nat}(hq:q<x.pieces.length):pI x [(q:Int)]=true:=by unfold pI;simp;omega
def akH{x:aj}{s q ir ip is:Nat}(hx:x.Ok)(hs:s<x.aq.length)(hq:q<x.pieces.length)(hr:H[ir]?=some (.cells x.l 25))(h1:H[ip]?=some (.cells [iv q] 3))(h2:H[is]?=some (.cells [iv s] 3))(hk:k (bv true) H):aS lv BI 66 H [.op ir 0,.op ip 0,.op is 0] k kp:=by
 refine br (rs:=[.tmp 3]) (nt:=18) Tryz.f66 λhH hA=> ?_;simp only[ba,Tq];have aU:=hx.di;have an:=aqX hq;have hw:Tg.wrap ((x.aq.length:Int)-1)=(x.aq.length:Int)-1:=bt _ (by omega);have ce:(decide ((s:Int)<0)||decide ((s:Int)>(x.aq.length:Int)-1))=false:=by simp;omega
 refine ai ?_;refine ab ?_;simp only[seval,z1,hr,h1,TQ,TR];(try refine⟨by decide,?_⟩);refine aK (K9 (x:=x) (ns:=[(q:Int)]) (e:=.exact) ?_);(try simp only[seval]);refine aK (K2 (x:=x) (ns:=[(q:Int)]) (e:=.exact) hx (by simp) (by rw[TO];rfl) (by rw[TN];rfl) ?_);(try simp only[seval,an,dW hr,dW h2,TM,aG,hw]);refine aK (tT ?_);(try simp only[seval,ce]);refine aH ?_;exact cW hH hk
def akb{x:aj}{s q:Nat}(hx:x.Ok)(hs:s<x.aq.length)(hq:q<x.pieces.length)(hm:H[0]?=some .main)(hk:∀D,gN x 2 D->k (.aJ [iv (if D.has then vM ((D.bc.getD s 0).testBit q) (D.bc.getD s 0!=2^q)else 0),iv (fP D)]) H):aS true BI 22 H [x.av,iv s,iv q] k kp:=by
 refine br (rs:=[.tmp 6,.tmp 7]) (nt:=27) Tryz.f22 λhH hA=> ?_;simp only[ba,Tq,aj.av];have hp:=hx.am;obtain⟨p,jn⟩:∃p:Nat,x.am=p:=⟨x.am.toNat,by omega⟩;refine ai ?_;refine ab ?_;simp only[seval,TN,TQ,TR,U6,VB,Vk,UW];refine aK (A2 (x:=x) (b:=true) hx jn (dW hm) (λL k kp hk=>bX (akH hx hs hq (by rw[Ev,TN];rfl) (by rw[Ev,TP];rfl) (by rw[Ev,TO];rfl) hk)) (λh=>by cases h) λ_ js D L mp iX jW eI uj hg=> ?_);have re:gN x 2 D:=⟨p,js,jn,iX,jW,eI⟩;have fV:=Kn.len eI mp;have kG:=v7 D mp;obtain⟨Y,hY⟩:∃Y:SA,Y=[aa.cells x.l 25,.cells [iv s] 3,.cells [iv q] 3]++L:=⟨_,rfl⟩;obtain⟨B,hB⟩:∃B,B=H++Y:=⟨_,rfl⟩;have tY:H++[aa.cells x.l 25,.cells [iv s] 3,.cells [iv q] 3]++L=B:=by rw[hB,hY,Ev]
 have ny:∀(L':SA),(B++L')[B.length+1]?=L'[1]?:=λL'=>aP B L' 1;have Hh:∀(L':SA),(B++L')[H.length+1]?=some (.cells [iv s] 3):=λL'=>by rw[hB,hY,Ev,TO];rfl
 have DZ:∀(L':SA),(B++L')[H.length+2]?=some (.cells [iv q] 3):=λL'=>by rw[hB,hY,Ev,TP];rfl
 have aO:=hk D re;have fW:∀(L':SA)(n m:Int),k (.aJ [iv n,iv m]) H->cz H.length (B++L') (.aJ [iv n,iv m]) k:=λL' n m h=>by rw[hB,Ev];exact dS hH (Wk.refl _) (by simp[iw,dF]) h
 rw[tY];clear tY hg hB;(try simp only[seval,aj.av,TQ,fV]);refine⟨xT x,kG,?_⟩;cases hh:D.has with
 |false=>
  have hE:fP D=11:=by rw[fP,hh];rfl
  rw[hE,hh]at aO;refine ab ?_;simp only[seval,hE,show ((11:Int)!=0)=true from rfl];refine ao ?_;refine ai ?_;refine aH ?_;exact fW _ 0 11 aO
 |true=>
  have hE:fP D=0:=by rw[fP,hh];rfl
  rw[hE,hh]at aO;refine ab ?_;simp only[seval,hE,show ((0:Int)!=0)=false from rfl];refine ao ?_;refine aF ?_;refine ab ?_;simp only[seval,F.ab2,ny,Hh,DZ,fV];rw[Tu (i:=28) (by rw[fV];exact Tv _)];refine aK (akI (s:=s) (q:=q) eI (by have:=hx.di;omega) (by have:=hx.ey;omega) ?_);(try simp only[seval]);refine aH ?_;exact fW _ _ 0 aO
end
def z2:gF (S_ .i64 0) 2=[iv 0,iv 0]:=rfl
section
variable {H:SA}{k kp:SF}
end
namespace Tk
structure iI where
 lo:Int
 hi:Int
 is:Bool
def iI.add (b:iI)(v:Int):iI:=if b.is then⟨min b.lo v,max b.hi v,true⟩else⟨v,v,true⟩
end Tk
def Tk.iI.l (b:iI):SC:=[iv b.lo,iv b.hi,bv b.is]
section
variable {lv:Bool}{H:SA}{k kp:SF}
def akN{b:iI}{v:Int}{i:Nat}(hi:H[i]?=some (.cells b.l 134))(hk:k (.aJ []) (H.set i (.cells (b.add v).l 134))):aS lv BI 90 H [.op i 0,iv v] k kp:=by
 refine br (rs:=[]) (nt:=38) Tryz.f90 λhH hA=> ?_;simp only[ba,Tq];have bh:=eF hi;obtain⟨hp,fC⟩:∃hp:SC->SA,∀l,hp l=H.set i (.cells l 134):=⟨_,λ_=>rfl⟩;have h0:H=hp b.l:=by rw[fC];exact(rR hi).symm
 have hg:∀l,(hp l)[i]?=some (.cells l 134):=λl=>by rw[fC,VZ,if_pos rfl,if_pos bh]
 have hs:∀l l',(hp l).set i (.cells l' 134)=hp l':=λl l'=>by rw[fC,fC,Yk]
 have fin:∀(N:Nat)(l:SC),l=(b.add v).l->cz N (hp l) (.aJ []) k:=λN l e=>by rw[e,fC];exact b8 hk
 rw[h0];clear hH hA fC h0 hi hk;refine ab ?_;simp only[seval,hg,iI.l];refine ao ?_;refine⟨λh=> ?_,λh=> ?_⟩
 ·have hb:b.is=false:=by simpa using h
  refine ab ?_;simp(maxSteps:=4000000) only[seval,hg,hs];refine mC [16,19] (Tt 20) (λD=>bif isDone 19 D then hp [iv (min v v),iv (max v v),bv true]else bif isDone 16 D then hp [iv (min v v),iv v,bv true]else hp [iv v,iv v,bv true]) ?_;simp only[seval,hg,hs];have m1:(if v<v then v else v)=v:=by split<;>rfl
  have m2:min v v=v:=by omega
  have m3:max v v=v:=by omega
  rw[m1,m2,m3];exact⟨rfl,rfl,fin _ _ (by rw[iI.add,if_neg (by rw[hb];decide)];rfl)⟩
 ·have hb:b.is=true:=by simpa using h
  refine aF ?_;refine mC [16,19] (Tt 20) (λD=>bif isDone 19 D then hp [iv (min b.lo v),iv (max b.hi v),bv b.is]else bif isDone 16 D then hp [iv (min b.lo v),iv b.hi,bv b.is]else hp [iv b.lo,iv b.hi,bv b.is]) ?_;simp only[seval,hg,hs];have m1:(if v<b.lo then v else b.lo)=min b.lo v:=by split<;>omega
  have m2:(if b.hi<v then v else b.hi)=max b.hi v:=by split<;>omega
  rw[m1,m2];exact⟨rfl,rfl,fin _ _ (by rw[iI.add,if_pos hb,hb];rfl)⟩
end
open Go.Conc Go.Proofs Go.Gg.Tk
namespace Tk
def wR (hour:Nat)(hs:SS):iI:=hs.foldl (λb h=>b.add (h.getD hour 0)) ⟨0,0,false⟩
end Tk
section
variable {lv:Bool}{H:SA}{k kp:SF}
def akM{x:aj}{hour:Nat}{ih ir:Nat}(hh:(hour:Int)<=x.hours)(h1:H[ih]?=some (.cells [iv hour] 3))(hr:H[ir]?=some (.cells x.l 25))(hk:k (bv true) H):aS lv BI 89 H [.op ih 0,.op ir 0] k kp:=by
 refine br (rs:=[.tmp 2]) (nt:=8) Tryz.f89 λhH hA=> ?_;simp only[ba,Tq];have ce:(decide ((hour:Int)<0)||decide ((hour:Int)>x.hours))=false:=by simp;omega
 refine ai ?_;refine ab ?_;simp only[seval,h1,hr,TM];refine aK (tT ?_);(try simp only[seval,ce]);refine aH ?_;exact b8 hk
def TU{H:List aa}:∀(L:SA)(y:aa),(H++L).set (H.length+2) y=H++L.set 2 y:=λL y=>cG H L 2 y
def akh{x:aj}{hour:Nat}(hx:x.Ok)(hh:(hour:Int)<=x.hours)(hm:H[0]?=some .main)(hk:∀D,gN x 0 D->(D.has=false->k (.aJ [.agg [iv 0,iv 0],iv 11]) H)/\(D.has=true->∀hs:SS,hs.Perm D.aQ->k (.aJ [.agg [iv (wR hour hs).lo,iv (wR hour hs).hi],iv 0]) H)):aS true BI 31 H [x.av,iv hour] k kp:=by
 refine br (rs:=[.cell 4 27,.tmp 5]) (nt:=41) Tryz.f31 λhH hA=> ?_;simp only[ba,Tq,aj.av];have hp:=hx.am;have sF:=hx.hours;obtain⟨p,jn⟩:∃p:Nat,x.am=p:=⟨x.am.toNat,by omega⟩;refine ai ?_;refine ab ?_;simp only[seval,TN,TQ,TR,U6,VB,Vk,UW];refine aK (A2 (x:=x) (b:=true) hx jn (dW hm) (λL k kp hk=>bX (akM hh (by rw[Ev,TO];rfl) (by rw[Ev,TN];rfl) hk)) (λh=>by cases h) λ_ js D L mp iX jW eI uj hg=> ?_);have re:gN x 0 D:=⟨p,js,jn,iX,jW,eI⟩;have fV:=Kn.len eI mp;have kG:=v7 D mp;obtain⟨iY,cO⟩:=hk D re;obtain⟨Bf,o_⟩:∃Bf:SC->SA,∀l,Bf l=H++([aa.cells x.l 25,.cells [iv hour] 3,.cells l 27]++L):=⟨_,λ_=>rfl⟩;have tY:H++[aa.cells x.l 25,.cells [iv hour] 3,.cells [iv 0,iv 0] 27]++L=Bf [iv 0,iv 0]:=by rw[o_,Ev]
 obtain⟨N,hN⟩:∃N,N=H.length+3+L.length:=⟨_,rfl⟩;have gH:∀l,(Bf l).length=N:=λl=>by rw[o_,hN];simp;omega
 have b1:∀l (L':SA),(Bf l++L')[H.length+1]?=some (.cells [iv hour] 3):=λl L'=>by rw[o_,Ev,TO];rfl
 have b2:∀l (L':SA),(Bf l++L')[H.length+2]?=some (.cells l 27):=λl L'=>by rw[o_,Ev,TP];rfl
 have u_:∀l l' (L':SA),(Bf l++L').set (H.length+2) (.cells l' 27)=Bf l'++L':=λl l' L'=>by rw[o_,Ev,TU,o_];simp
 have bn:∀l (L':SA)(j:Nat),(Bf l++L')[N+j]?=L'[j]?:=λl L' j=>by rw[<- gH l,aP]
 have wS:∀l (L':SA)(j:Nat)(y:aa),(Bf l++L').set (N+j) y=Bf l++L'.set j y:=λl L' j y=>by rw[<- gH l,cG]
 rw[tY]at hg⊢;have fW:∀(l:SC)(L':SA)(a b:Int)(m:Int),k (.aJ [.agg [iv a,iv b],iv m]) H->cz H.length (Bf l++L') (.aJ [.agg [iv a,iv b],iv m]) k:=λl L' a b m h=>by rw[o_,Ev];exact dS hH (Wk.refl _) (by simp[iw,dF,lT]) h
 (try simp only[seval,aj.av,TQ,fV,gH]);refine⟨xT x,kG,?_⟩;cases jh:D.has with
 |false=>
  have hE:fP D=11:=by rw[fP,jh];rfl
  refine ab ?_;simp only[seval,hE,show ((11:Int)!=0)=true from rfl];refine ao ?_;refine ab ?_;simp only[seval,b2,u_];refine jR ?_;simp only[seval,b2];exact fW _ _ 0 0 11 (iY jh)
 |true=>
  have hE:fP D=0:=by rw[fP,jh];rfl
  refine ab ?_;simp only[seval,hE,show ((0:Int)!=0)=false from rfl];refine ao ?_;refine aF ?_;refine ab ?_;simp only[seval,gH];refine ab ?_;simp only[seval,U6,VB,Vk,UW];have qj:(D.l mp).drop 1=.mp mp::((D.l mp).drop 2):=rfl;obtain⟨ts,d_⟩:∃ts,ts=D.aQ.zipIdx:=⟨_,rfl⟩;obtain⟨ck,Hl⟩:∃ck,ck=D.aQ.length:=⟨_,rfl⟩;have xn:∀l (L':SA),(Bf l++L')[mp]?=some (.obj (.map (ts.map eP).toArray ck)):=λl L'=>by
   have h0:(Bf [iv 0,iv 0])[mp]?=some (setH D.aQ):=hg;have aN:mp≠H.length+2:=λe=>by have:=b2 [iv 0,iv 0] [];rw[Ts,<- e,h0]at this;cases this
   have h1:(Bf l)[mp]?=some (setH D.aQ):=by have:=u_ [iv 0,iv 0] l [];rw[Ts,Ts]at this;rw[<- this,Vd (λe=>aN e.symm)];exact h0
   rw[d_,Hl];exact dW h1
  have rn:∀y∈ts,y.2<ck:=λy hy=>by rw[d_]at hy;have:=List.snd_lt_add_of_mem_zipIdx hy;omega
  have El:(ts.map (·.2)).Nodup:=by rw[d_,show (λy:SD×Nat=>y.2)=Prod.snd from rfl,List.zipIdx_map_snd];exact List.nodup_range'
  have h4:∀y∈ts,y.1.length=4:=λy hy=>by rw[d_]at hy;exact eI.h4 _ (FQ hy)
  have fL:=Q3 ts ck rn;have ND:ts.map (·.1)=D.aQ:=by rw[d_,show (λy:SD×Nat=>y.1)=Prod.fst from rfl,List.zipIdx_map_fst]
  clear d_;refine ab ?_;simp only[seval,gH,bn,qj,xn];obtain⟨kv,fC⟩:∃kv:iI->Array Nat->SA,∀b sn,kv b sn=Bf [iv 0,iv 0]++[.cells x.l 73,.cells (D.l mp) 85,.cells b.l 134,.iter mp ck sn ck]:=⟨_,λ_ _=>rfl⟩;have p1:∀b sn (L':SA),(kv b sn++L')[H.length+1]?=some (.cells [iv hour] 3):=λb sn L'=>by rw[fC,Ev];exact b1 _ _
  have p2:∀b sn (L':SA),(kv b sn++L')[N+2]?=some (.cells b.l 134):=λb sn L'=>by rw[fC,Ev,bn];rfl
  have p3:∀b sn (L':SA),(kv b sn++L')[N+3]?=some (.iter mp ck sn ck):=λb sn L'=>by rw[fC,Ev,bn];rfl
  have p3':∀b sn,(kv b sn)[N+3]?=some (.iter mp ck sn ck):=λb sn=>by have:=p3 b sn [];rwa[Ts]at this
  have p4:∀b sn (L':SA),(kv b sn++L')[N+4]?=L'[0]?:=λb sn L'=>by rw[fC,Ev,bn];rfl
  have pm:∀b sn (L':SA),(kv b sn++L')[mp]?=some (.obj (.map (ts.map eP).toArray ck)):=λb sn L'=>by rw[fC,Ev];exact xn _ _
  have OU:∀b sn,(kv b sn)[mp]?=some (.obj (.map (ts.map eP).toArray ck)):=λb sn=>by have:=pm b sn [];rwa[Ts]at this
  have s2:∀b sn b' (L':SA),(kv b sn++L').set (N+2) (.cells (iI.l b') 134)=kv b' sn++L':=λb sn b' L'=>by rw[fC,Ev,wS,fC,Ev];rfl
  have s3:∀b sn Pv,(kv b sn).set (N+3) (.iter mp ck Pv ck)=kv b Pv:=λb sn Pv=>by rw[fC,wS,fC];rfl
  have pl:∀b sn,(kv b sn).length=N+4:=λb sn=>by rw[fC];simp[gH]
  have aU:Bf [AV.val (S_ Tg 0),AV.val (S_ Tg 0)]++[.cells x.l 73,.cells (D.l mp) 85,.cells [AV.val (S_ Tg 0),AV.val (S_ Tg 0),AV.val (Yp false)] 134,.iter mp ck #[] ck]=kv ⟨0,0,false⟩ #[]:=by rw[fC];rfl
  rw[aU];have qn:hour<4:=by omega
  have b4:(0<=(hour:Int)/\(hour:Int)<4)=True:=by simp;omega
  have s46:∀b sn l,(kv b sn).set (H.length+2) (.cells l 27)=Bf l++[.cells x.l 73,.cells (D.l mp) 85,.cells b.l 134,.iter mp ck sn ck]:=λb sn l=>by rw[fC,u_]
  have p46:∀b sn,(kv b sn)[H.length+2]?=some (.cells [iv 0,iv 0] 27):=λb sn=>by rw[fC,b2]
  have p2':∀b sn,(kv b sn)[N+2]?=some (.cells (iI.l b) 134):=λb sn=>by have:=p2 b sn [];rwa[Ts]at this
  refine bO ?_;refine AD (measure λvs:List (SD×Nat)=>ts.length-vs.length).wf (λvs=>[]) (λvs=>kv (wR hour (vs.map (·.1))) (vs.map (·.2)).toArray) (λvs=>(vs.map (·.2)).Nodup/\∀y∈vs,y∈ts) [] (λ_ _=>rfl) (by simp) rfl (λ_ _=>by simp[pl]) ⟨by simp,by simp⟩ (λbN cm vs an R hR=> ?_);refine ab ?_;simp only[seval,p3',OU,s3];refine⟨fL.elim .inl (λh=> .inr (.inl h)),λe he hn=> ?_,λhs=> ?_⟩
  ·obtain⟨y,hy,rfl⟩:∃y∈ts,eP y=e:=(by simpa using he);refine ao ?_;refine aF ?_;refine bO ?_;have tX:=h4 y hy;have Me:(eP y).born=y.2:=rfl;have hlen:(y.1.map iv).length=4:=(by simp[tX]);have Mo:U7 4 [AV.val (S_ Tg 0),AV.val (S_ Tg 0),AV.val (S_ Tg 0),AV.val (S_ Tg 0)]=[]:=rfl;obtain⟨w,hw⟩:=bF (xs:=y.1) (i:=hour) (by omega);have NF:y.1.getD hour 0=w:=(by rw[Tf,hw];rfl);have NH:y.2∉vs.map (·.2):=(by simpa[eP]using hn);have HN:((vs.map (·.2)).toArray.push y.2)=((vs++[y]).map (·.2)).toArray:=(by simp);have al4:(wR hour (vs.map (·.1))).add w=wR hour ((vs++[y]).map (·.1)):=by unfold wR;rw[UA,Y1];show _=iI.add _ (y.1.getD hour 0);rw[NF]
   have um:((vs++[y]).map (·.2)).Nodup/\∀z∈vs++[y],z∈ts:=by refine⟨?_,λz hz=> ?_⟩;rw[UA,Wo];refine⟨an.1,by simp,λa ha b hb=> ?_⟩;simp at hb;subst hb;intro e;subst e;exact NH ha;rcases T1.1 hz with h|h;exact an.2 z h;rw[Ub.1 h];exact hy
   have awr:vs.length<ts.length:=by have h1:(vs++[y]).Nodup:=Fc _ um.1;have:=h1.length_le_of_subset um.2;simp at this;omega
   have sN:ts.length-(vs++[y]).length<ts.length-vs.length:=(by simp;omega);have HI:∀b sn,bJ (kv b sn):=λb sn z hz=>by
    have aaG:bJ (kv ⟨0,0,false⟩ #[]):=bN;rw[pl];rw[fC]at hz;have ce:∀z,z∈kv ⟨0,0,false⟩ #[]->fw (N+4) z:=λz hz=>by have:=aaG z hz;rwa[pl]at this
    rcases T1.1 hz with h|h;exact ce z (by rw[fC];exact Uk _ h);simp only[Tm,T5,or_false]at h;rcases h with rfl|rfl|rfl|rfl;exact ce _ (by rw[fC];simp);exact ce _ (by rw[fC];simp);intro a ha;simp only[iI.l,Tm,T5,or_false]at ha;rcases ha with rfl|rfl|rfl<;>exact .val _;show mp<N+4;have:=eF (OU ⟨0,0,false⟩ #[]);rwa[pl]at this
   refine ab ?_;simp only[seval,p3',OU,s3,pl,p4,Me,Array.back?_push,Sz El hy,ac5,tX,hlen,Mo];refine ab ?_;simp only[seval,p1,p4,b4,lx hw];refine aK (akN (b:=wR hour (vs.map (·.1))) (v:=w) (i:=N+2) (p2 _ _ _) ?_);rw[s2,al4,HN];(try simp only[seval]);refine hR _ ⟨vs++[y],sN,um,?_⟩;exact adH (oI rfl rfl) (by simp only[seval]<;>simp[bE,Wk.refl]) (HI _ _) (by simp[dF])
  ·have mK:vs.Perm ts:=adQ an.1 El an.2 λy hy=>by have:=hs (eP y) (by simp;exact⟨y.1,y.2,hy,rfl⟩) (rn y hy);simpa[eP]using this
   have sM:(vs.map (·.1)).Perm D.aQ:=by have:=mK.map (·.1);rw[ND]at this;exact this
   have aO:=cO jh _ sM;generalize Bm:wR hour (vs.map (·.1))=bv' at aO;refine ao ?_;refine bT ?_;refine ab ?_;simp only[seval,p2',p46,s46,iI.l,Bm];refine jR ?_;simp only[seval,b2];exact fW _ _ _ _ 0 aO
end
open Go.Conc Go.Proofs Go.Gg.Tk
namespace Tk
end Tk
section
variable {lv:Bool}{H:SA}{k kp:SF}
end
open Go.Conc Go.Proofs Go.Gg.Tk
namespace Tk
def BU (out n:Int):Int:=if 0<=n/\(out<0\/n<out)then n else out
def zI (l:SD):Int:=l.foldl BU (-1)
def vo (bc:SE)(i:Nat):SD:=(Tt i).flatMap λs=>if 1<(gg (bc.getD s 0) 0 16).length then[-1]else gg (bc.getD s 0) 0 16
def aaz(bc:SE)(i:Nat):vo bc (i+1)=vo bc i++(if 1<(gg (bc.getD i 0) 0 16).length then[-1]else gg (bc.getD i 0) 0 16):=by unfold vo;rw[Wb,VX];simp
def aay(bc:SE):∀i,(vo bc i).length<=i
 |0=>by simp[vo]
 |i+1=>by have:=aay bc i;rw[aaz,Tp];split;simp;omega;omega
end Tk
def wz{a a' b b':AV}(h1:Wk a a')(h2:Wk b b'):Wk (.aJ [a,b]) (.aJ [a',b']):=λE v h=>by
 cases h with
 |aJ hs h=>
  refine .aJ hs λi x e=> ?_
  match i with
  |0=>cases e;exact h1 _ _ (h 0 a rfl)
  |1=>cases e;exact h2 _ _ (h 1 b rfl)
open Go.Conc Go.Proofs Go.Gg.Tk
section
variable {lv:Bool}{H:SA}{k kp:SF}
def Ta{x:aj}:U7 5 x.l=[.sl x.aq.length (x.aq.flatMap aD.l) .shut]:=rfl
def akd{x:aj}(hx:x.Ok)(hm:H[0]?=some .main)(hk:∀D,gN x 2 D->(D.has=false->k (.aJ [aV [],iv 11]) H)/\(D.has=true->k (.aJ [aV (vo D.bc x.aq.length),iv 0]) H)):aS true BI 24 H [x.av] k kp:=by
 refine br (rs:=[.tmp 2,.tmp 3]) (nt:=39) Tryz.f24 λhH hA=> ?_;simp only[ba,Tq,aj.av];have hp:=hx.am;have aU:=hx.di;obtain⟨p,jn⟩:∃p:Nat,x.am=p:=⟨x.am.toNat,by omega⟩;refine ai ?_;refine ab ?_;simp only[seval,TN,TQ,TR];refine aK (A2 (x:=x) hx jn (dW hm) Gi (λh=>by cases h) λ_ js D L mp iX jW eI uj hg=> ?_);have re:gN x 2 D:=⟨p,js,jn,iX,jW,eI⟩;have fV:=Kn.len eI mp;have kG:=v7 D mp;obtain⟨iY,cO⟩:=hk D re;obtain⟨Y,hY⟩:∃Y:SA,Y=[aa.cells x.l 25]++L:=⟨_,rfl⟩;obtain⟨B,hB⟩:∃B,B=H++Y:=⟨_,rfl⟩;have tY:H++[aa.cells x.l 25]++L=B:=by rw[hB,hY,Ev]
 have Bl:∀(L':SA),(B++L')[H.length]?=some (.cells x.l 25):=λL'=>by rw[hB,hY,Ev,TN];rfl
 have bn:∀(L':SA)(j:Nat),(B++L')[B.length+j]?=L'[j]?:=λL' j=>aP B L' j;have wS:∀(L':SA)(j:Nat)(y:aa),(B++L').set (B.length+j) y=B++L'.set j y:=λL' j y=>cG B L' j y;have fW:∀(L':SA)(ns:SD)(e:End)(m:Int),k (.aJ [aV ns,iv m]) H->cz H.length (B++L') (.aJ [.sl ns.length (ns.map iv) e,iv m]) k:=λL' ns e m h=>by rw[hB,Ev];exact dS hH (wz (dQ _ _ _) (Wk.refl _)) (by simp[iw,dF,aV,sX]) h
 rw[tY];clear tY hg;(try simp only[seval,aj.av,TQ,fV]);refine⟨xT x,kG,?_⟩;cases jh:D.has with
 |false=>
  have hE:fP D=11:=by rw[fP,jh];rfl
  refine ab ?_;simp only[seval,hE,show ((11:Int)!=0)=true from rfl];refine ao ?_;refine ai ?_;refine aH ?_;exact fW _ [] .exact 11 (iY jh)
 |true=>
  have hE:fP D=0:=by rw[fP,jh];rfl
  refine ab ?_;simp only[seval,hE,show ((0:Int)!=0)=false from rfl];refine ao ?_;refine aF ?_;refine ai ?_
  (repeat apply ii);refine tM (t:=7) (sz:=1) (el:=3) (by simp only[seval]<;>rfl) ?_;refine ab ?_;simp only[seval,Bl,Ta];have Df:∀(L':SA),(B++L')[B.length+1]?=L'[1]?:=λL'=>bn L' 1;have AF:∀(L':SA),(B++L')[B.length+2]?=L'[2]?:=λL'=>bn L' 2;have u_:∀(L':SA)(y:aa),(B++L').set (B.length+2) y=B++L'.set 2 y:=λL' y=>wS L' 2 y;obtain⟨gl,ko⟩:∃gl:Nat->SD,∀i,gl i=vo D.bc i:=⟨_,λ_=>rfl⟩;have Eb:gl 0=[]:=by rw[ko];rfl
  have MG:∀i,(gl i).length<=i:=λi=>by rw[ko];exact aay _ _
  refine bO ?_;refine gU x.aq.length (λi:Nat=>[(7,.sl (gl i).length ((gl i).map iv) (.opn (B.length+2))),(22,iv i)]) (λi=>B++[.cells x.l 73,.cells (D.l mp) 85,.tail (gl i).length 1 3]) (λi=>True) (λ_ _=>rfl) (by rw[Eb];simp only[seval];simp[bE,Wk.refl]) (by rw[Eb];rfl) (λ_ _ _=>by simp) trivial (λbN cm i ce _ R hR=> ?_);refine ai ?_;refine ao ?_;refine⟨λh=> ?_,λh=> ?_⟩
  ·have bh:i<x.aq.length:=(by omega);obtain⟨u,hu⟩:=bF (xs:=D.bc) (i:=i) (by rw[eI.bc];omega);have lu:=eI.mr _ (Un hu);have b3:(0<=(i:Int)/\(i:Int)<3)=True:=(by simp;omega);have e9:=TL i (by omega);have D7:=Kn.Fq eI (mp:=mp) hu;have dj:gl (i+1)=gl i++(if 1<(gg u 0 16).length then[-1]else gg u 0 16):=by rw[ko,ko,aaz,Tf,hu];rfl
   have hli:=MG i;have fE:=Oh u 0 16;refine aF ?_;refine ai ?_;refine ab ?_;simp only[seval,Df,b3,D7];refine aK (K_ lu (by decide) ?_);(try simp only[seval,aV]);refine ai ?_;refine ao ?_;refine⟨λhb=> ?_,λhb=> ?_⟩;refine ab ?_;simp only[seval,z1];(try refine⟨by decide,?_⟩);refine ab ?_;simp only[seval,AF,u_];refine⟨by omega,?_⟩;refine ab ?_;simp only[seval,e9];have ny:1<(gg u 0 16).length:=(by have h2:(1:Int)<((gg u 0 16).length:Int):=(by simpa using hb);omega);rw[if_pos ny]at dj;refine hR _ ⟨bh,trivial,?_⟩;rw[dj,UA,Tp];exact cK;refine aF ?_;refine ab ?_;simp only[seval,AF,u_];refine⟨by omega,?_⟩;refine ab ?_;simp only[seval,e9];have ny:¬1<(gg u 0 16).length:=(by have h2:((gg u 0 16).length:Int)<=1:=(by simpa using hb);omega);rw[if_neg ny]at dj;refine hR _ ⟨bh,trivial,?_⟩;rw[dj,UA,Tp];exact cK
  ·have dL:i=x.aq.length:=(by omega);subst dL;refine bT ?_;refine ai ?_;refine aH ?_;have aO:=cO jh;rw[<- ko]at aO;exact fW _ _ _ 0 aO
def akJ{ns:SD}{e:End}(gA:ns.length<=16)(hk:k (iv (zI ns)) H):aS lv BI 81 H [.sl ns.length (ns.map iv) e] k kp:=by
 refine br (rs:=[.tmp 2]) (nt:=26) Tryz.f81 λhH hA=> ?_;simp only[ba,Tq];refine ai ?_;refine ai ?_;refine ai ?_;refine bO ?_;refine gU ns.length (λi:Nat=>[(3,iv (zI (ns.take i))),(8,iv i)]) (λ_=>_) (λi=>True) (λ_ _=>rfl) (by simp only[seval];simp[bE,Wk.refl];exact Wk.refl _) rfl (λ_ _ _=>rfl) trivial (λbN cm i ce _ R hR=> ?_);refine ai ?_;refine ao ?_;refine⟨λh=> ?_,λh=> ?_⟩
 ·have bh:i<ns.length:=by omega
  obtain⟨n,hn⟩:=bF bh;have e9:=TL i (by omega);have dj:zI (ns.take (i+1))=BU (zI (ns.take i)) n:=by unfold zI;rw[WY,hn,Y1];rfl
  generalize zI (ns.take i)=o at dj hR⊢;refine aF ?_;refine ab ?_;simp only[seval,dn hn,fy bh];by_cases c1:0<=n;have d1:decide (n>=0)=true:=decide_eq_true c1;by_cases c2:o<0;have d2:decide (o<0)=true:=decide_eq_true c2;refine ab ?_;simp only[seval,d1,d2];refine ao ?_;refine ai ?_;refine ab ?_;simp only[seval,e9];rw[BU,if_pos ⟨c1,.inl c2⟩]at dj;refine hR _ ⟨bh,trivial,?_⟩;rw[dj];exact cK;have d2:decide (o<0)=false:=decide_eq_false c2;by_cases c3:n<o;have d3:decide (n<o)=true:=decide_eq_true c3;refine ab ?_;simp only[seval,d1,d2,d3];refine ao ?_;refine ai ?_;refine ab ?_;simp only[seval,e9];rw[BU,if_pos ⟨c1,.inr c3⟩]at dj;refine hR _ ⟨bh,trivial,?_⟩;rw[dj];exact cK;have d3:decide (n<o)=false:=decide_eq_false c3;refine ab ?_;simp only[seval,d1,d2,d3];refine ao ?_;refine aF ?_;refine ab ?_;simp only[seval,e9];rw[BU,if_neg (λhc=>hc.2.elim c2 c3)]at dj;refine hR _ ⟨bh,trivial,?_⟩;rw[dj];exact cK
  ·have d1:decide (n>=0)=false:=decide_eq_false c1;(repeat apply ii);refine ahk (by kernel_rfl) ?_;simp only[seval,d1];refine ao ?_;refine aF ?_;refine ab ?_;simp only[seval,e9];rw[BU,if_neg (λhc=>c1 hc.1)]at dj;refine hR _ ⟨bh,trivial,?_⟩;rw[dj];exact cK
 ·have:i=ns.length:=by omega
  subst this;refine bT ?_;refine ai ?_;refine aH ?_;rw[Ux];exact b8 hk
end
namespace Tk
def aD.more (y:aD)(n:Int):aD:=⟨⟨y.number.min+n,y.number.max+n⟩,y.hour⟩
def mw (h:SD)(n:Int):Nat->Int
 |0=> -1
 |i+1=>if h.getD i 0<=n/\n<h.getD (i+1) 0 then i else mw h n i
end Tk
section
variable {lv:Bool}{H:SA}{k kp:SF}
def akw{a b:Int}(hk:k (.agg [iv a,iv b]) H):aS lv BI 48 H [iv a,iv b] k kp:=by refine br (rs:=[.cell 4 27]) (nt:=8) Tryz.f48 λhH hA=> ?_;simp only[ba,Tq];refine ai ?_;refine ai ?_;refine aH ?_;exact dS hH (Wk.refl _) (by simp[lT,dF]) hk
def Se{a b c:Int}(hk:k (Seen.av ⟨a,⟨b,c⟩⟩) H):aS lv BI 51 H [iv a,iv b,iv c] k kp:=by refine br (rs:=[.cell 6 29]) (nt:=12) Tryz.f51 λhH hA=> ?_;simp only[ba,Tq];refine ai ?_;refine ai ?_;refine aH ?_;exact dS hH (Wk.refl _) (by simp[lT,dF]) hk
def so{a b c d:Int}(hk:k (aD.av ⟨⟨a,b⟩,⟨c,d⟩⟩) H):aS lv BI 97 H [iv a,iv b,iv c,iv d] k kp:=by refine br (rs:=[.cell 8 68]) (nt:=16) Tryz.f97 λhH hA=> ?_;simp only[ba,Tq];refine ai ?_;refine ai ?_;refine aH ?_;exact dS hH (Wk.refl _) (by simp[lT,dF]) hk
def ajQ{h:SD}{n:Int}{e:End}(hl:h.length<=4)(hk:k (iv (mw h n (h.length-1))) H):aS lv BI 118 H [.sl h.length (h.map iv) e,iv n] k kp:=by
 refine br (rs:=[.tmp 4]) (nt:=31) Tryz.f118 λhH hA=> ?_;simp only[ba,Tq];refine ai ?_;refine ai ?_;refine ai ?_;refine bO ?_;refine gU (h.length-1) (λi:Nat=>[(5,iv (mw h n i)),(6,iv i)]) (λ_=>_) (λi=>True) (λ_ _=>rfl) (by simp only[seval];simp[bE,Wk.refl];exact Wk.refl _) rfl (λ_ _ _=>rfl) trivial (λbN cm i ce _ R hR=> ?_);have e9:=TL i (by omega)
 refine ab ?_;simp only[seval,e9];refine ao ?_;refine⟨λhc=> ?_,λhc=> ?_⟩
 ·have bh:i+1<h.length:=by omega
  obtain⟨a,ha⟩:=bF (xs:=h) (i:=i) (by omega);obtain⟨b,hb⟩:=bF (xs:=h) (i:=i+1) bh;have fK:h.getD i 0=a:=by rw[Tf,ha];rfl
  have de:h.getD (i+1) 0=b:=by rw[Tf,hb];rfl
  have dA:=fy (show i<h.length by omega);have ma:(0<=(i:Int)+1/\(i:Int)+1<(h.length:Int))=True:=by simp;omega
  have gL:((i:Int)+1).toNat=i+1:=by omega
  have dj:mw h n (i+1)=if a<=n/\n<b then(i:Int)else mw h n i:=by rw[mw,fK,de]
  refine aF ?_;refine bO ?_;by_cases c1:a<=n;have d1:decide (a<=n)=true:=decide_eq_true c1;by_cases c2:n<b;have d2:decide (n<b)=true:=decide_eq_true c2;refine ab ?_;simp only[seval,dn ha,dn hb,dA,ma,gL,d1,d2,e9];refine ao ?_;refine ai ?_;refine ab ?_;simp only[seval,e9];rw[if_pos ⟨c1,c2⟩]at dj;refine hR _ ⟨by omega,trivial,?_⟩;rw[dj];exact cK;have d2:decide (n<b)=false:=decide_eq_false c2;refine ab ?_;simp only[seval,dn ha,dn hb,dA,ma,gL,d1,d2,e9];refine ao ?_;refine aF ?_;refine ab ?_;simp only[seval,e9];rw[if_neg (λhh=>c2 hh.2)]at dj;refine hR _ ⟨by omega,trivial,?_⟩;rw[dj];exact cK;have d1:decide (a<=n)=false:=decide_eq_false c1;refine ab ?_;simp only[seval,dn ha,dA,d1];refine ao ?_;refine aF ?_;refine ab ?_;simp only[seval,e9];rw[if_neg (λhh=>c1 hh.1)]at dj;refine hR _ ⟨by omega,trivial,?_⟩;rw[dj];exact cK
 ·have dL:i=h.length-1:=by omega
  subst dL;refine bT ?_;refine ai ?_;refine aH ?_;exact b8 hk
end
open Go.Conc Go.Proofs Go.Gg.Tk
namespace Tk
end Tk
section
variable {lv:Bool}{H:SA}{k kp:SF}
end
open Go.Conc Go.Proofs Go.Gg.Tk
def wZ (τ:bp)(ns:SD):Int:=ns.getD (dp τ (ns.length-1)).toNat 0
section
variable {lv:Bool}{H:SA}{k kp:SF}{Gf:bp->SA}{t N:Nat}{τ:bp}{b:Int}
def Lc{ns:SD}{e:End}(hT:dO Gf t N)(hτ:τ.Ok b)(hb:b<2^60)(hn:1<=ns.length)(jl:ns.length<2^20)(hk:k (iv (wZ τ ns)) (Gf (tick τ))):aS lv BI 93 (Gf τ) [.op t 0,.sl ns.length (ns.map iv) e] k kp:=by
 refine br (rs:=[.tmp 4]) (nt:=13) Tryz.f93 λhH hA=> ?_;simp only[ba,Tq];have bz:Tg.wrap ((ns.length:Int)-1)=(ns.length:Int)-1:=bt _ (by omega);have hr:=lX τ ((ns.length:Int)-1);unfold wZ at hk;obtain⟨j,hj⟩:=aa_ hr.1;have fM:j<ns.length:=by omega
 obtain⟨v,hv⟩:=bF fM;rw[hj]at hk;have zw:ns.getD (j:Int).toNat 0=v:=by rw[WO,Tf,hv];rfl
 rw[zw]at hk;refine ai ?_;refine ab ?_;simp only[seval,bz];refine aK (qe hT hτ hb (by omega) ?_);rw[hj];(try simp only[seval,dn hv,fy fM]);refine aH ?_;exact b8 hk
end
def nZ (τ:bp)(n m lo hi:Int):eX:=⟨max lo (n-dp τ m),min hi (n+dp (tick τ) m)⟩
def l_ (τ:bp)(h:SD)(n hours:Int):aD:=⟨nZ τ n 2 0 99,nZ (tick (tick τ)) (mw h n (h.length-1)) 1 0 (hours-1)⟩
section
variable {lv:Bool}{k kp:SF}{Gf:bp->SA}{t N:Nat}{τ:bp}{b:Int}
def K7{n m lo hi:Int}(hT:dO Gf t N)(hτ:τ.Ok b)(hb:b<2^30)(hn: -1000<=n/\n<=1000)(hm:0<=m/\m<=3)(hk:k (nZ τ n m lo hi).av (Gf (tick (tick τ)))):aS lv BI 38 (Gf τ) [.op t 0,iv n,iv m,.agg [iv lo,iv hi]] k kp:=by
 refine br (rs:=[.cell 8 27]) (nt:=26) Tryz.f38 λhH hA=> ?_;simp only[ba,Tq];have pf:dO (λτ=>Gf τ++[.cells [iv lo,iv hi] 27,.cells [iv 0,iv 0] 27]) t (N+2):=hT.more [_,_];have r1:=lX τ m;have r2:=lX (tick τ) m;have bz:Tg.wrap (n-dp τ m)=n-dp τ m:=bt _ (by omega);have f_:Tg.wrap (n+dp (tick τ) m)=n+dp (tick τ) m:=bt _ (by omega);have xv:(if lo<n-dp τ m then n-dp τ m else lo)=max lo (n-dp τ m):=by split<;>omega
 have oy:(if n+dp (tick τ) m<hi then n+dp (tick τ) m else hi)=min hi (n+dp (tick τ) m):=by split<;>omega
 refine ai ?_;refine mC [5,13,17] (Tt 18) (λD=>bif isDone 17 D then Gf (tick (tick τ))++[.cells [iv lo,iv hi] 27,.cells [iv (max lo (n-dp τ m)),iv (min hi (n+dp (tick τ) m))] 27]else bif isDone 13 D then Gf (tick (tick τ))++[.cells [iv lo,iv hi] 27,.cells [iv 0,iv 0] 27]else bif isDone 5 D then Gf (tick τ)++[.cells [iv lo,iv hi] 27,.cells [iv 0,iv 0] 27]else Gf τ++[.cells [iv lo,iv hi] 27,.cells [iv 0,iv 0] 27]) ?_;simp only[seval,hT.len,hT.g0,hT.g1,hT.g2,hT.g3,hT.h2,hT.h3,hT.s0,hT.s1,hT.s2,hT.s3,hT.t2,hT.t3,bz,f_,xv,oy];refine sk _ _ (bX (qe (pf) hτ (by omega) (by omega) ⟨rfl,rfl⟩)) ?_;(try simp only[seval,hT.len,hT.g0,hT.g1,hT.g2,hT.g3,hT.h2,hT.h3,hT.s0,hT.s1,hT.s2,hT.s3,hT.t2,hT.t3,bz,f_,xv,oy]);refine sk _ _ (bX (qe (pf) hτ.tick (by omega) (by omega) ⟨rfl,rfl⟩)) ?_;(try simp only[seval,hT.len,hT.g0,hT.g1,hT.g2,hT.g3,hT.h2,hT.h3,hT.s0,hT.s1,hT.s2,hT.s3,hT.t2,hT.t3,bz,f_,xv,oy]);refine jR ?_;simp only[seval,hT.len,hT.g0,hT.g1,hT.g2,hT.g3,hT.h2,hT.h3,hT.s0,hT.s1,hT.s2,hT.s3,hT.t2,hT.t3];exact jy (b:=(nZ τ n m lo hi).av) (H':=Gf (tick (tick τ))) (Wk.refl _) rfl (by simp[hT.len]) (hT.an hH _) (by simp[eX.av,eX.l,lT,dF]) hk
def Su{h:SD}{n hours:Int}{e:End}(hT:dO Gf t N)(hτ:τ.Ok b)(hb:b<2^20)(hl:h.length<=4)(hn: -1000<=n/\n<=1000)(hh:1<=hours/\hours<=3)(rK: -1<=mw h n (h.length-1)/\mw h n (h.length-1)<=4)(hk:k (l_ τ h n hours).av (Gf (tick (tick (tick (tick τ)))))):aS lv BI 96 (Gf τ) [.op t 0,.sl h.length (h.map iv) e,iv n,iv hours] k kp:=by refine br (rs:=[.cell 8 68]) (nt:=22) Tryz.f96 λhH hA=> ?_;simp only[ba,Tq];have vu:∀o:aa,dO (λτ=>Gf τ++[o]) t (N+1):=λo=>hT.more [o];have bz:Tg.wrap (hours-1)=hours-1:=bt _ (by omega);refine ai ?_;refine ab ?_;simp only[seval,bz];refine aK (K7 (n:=n) (m:=2) (lo:=0) (hi:=99) (vu _) hτ (by omega) hn (by decide) ?_);(try simp only[seval]);refine aK (ajQ (h:=h) (n:=n) hl ?_);(try simp only[seval,bz]);refine aK (K7 (n:=mw h n (h.length-1)) (m:=1) (lo:=0) (hi:=hours-1) (vu _) hτ.tick.tick (by omega) (by omega) (by decide) ?_);(try simp only[seval,hT.len,hT.g0,hT.g1,hT.g2,hT.g3,hT.h2,hT.h3,hT.s0,hT.s1,hT.s2,hT.s3,hT.t2,hT.t3,eX.av,eX.l]);refine jR ?_;simp only[seval,hT.len,hT.g0,hT.g1,hT.g2,hT.g3,hT.h2,hT.h3,hT.s0,hT.s1,hT.s2,hT.s3,hT.t2,hT.t3];exact jy (b:=(l_ τ h n hours).av) (H':=Gf (tick (tick (tick (tick τ))))) (Wk.refl _) rfl (by simp[hT.len]) (hT.an hH _) (by simp[aD.av,aD.l,lT,dF]) hk
end
end Go.Gg
namespace Go.Gg.Tk
def tF:SD->Prop
 |a::b::l=>a<=b/\tF (b::l)
 |_=>True
def auv{h:SD}{n:Int}(hl:2<=h.length)(rz:h.length<=4)(hm:tF h):mw h n (h.length-1)=ff h n:=by
 match h,hl,rz,hm with
 |[a,b],_,_,hm=>simp only[ff,eW,mw,U4,Vz,YE,Yt,Tq,ZE]
 |[a,b,c],_,_,hm=>obtain⟨h1,h2,_⟩:=hm;simp only[ff,eW,mw,U4,Vz,YE,Yt,Tq,ZE];split<;>split<;>first|rfl|omega
 |[a,b,c,d],_,_,hm=>obtain⟨h1,h2,h3,_⟩:=hm;simp only[ff,eW,mw,U4,Vz,YE,Yt,Tq,ZE];split<;>split<;>first|rfl|omega|(split<;>first|rfl|omega)
end Go.Gg.Tk
namespace Go.Gg
open Go.Conc
section
variable {lv:Bool}{P:Tl}{r:SL}{o:Vp}{s:AS}{next:SV}{bad:AV->SV}
end
section
variable (lv:Bool)(P:Tl)(r:SL)
def CS:List Vp->AS->(SV)->(AV->SV)->Prop
 |[],s,K,_=>K s
 |o::rest,s,K,bad=>o.guard=none/\Step lv P r o s (λs'=>CS rest s' K bad) bad
end
section
variable {lv:Bool}{P:Tl}{r:SL}{s:AS}
def aei{nt:Nat}{all:SK}{Φ:SI}(dC:∀o∈all,∀d,o.dst=some d->d<nt)(oq:∀o∈all,r=none\/mR o.op=false):∀(n k:Nat)(s:AS),k+n=all.size->CS lv P r (all.toList.drop k) s (Φ .normal) (λpv s=>Φ (.panic pv) s)->
  ∀(E:Env)(V:View)(a:Act)(Q:SJ),At E V s a nt->(∀ae e E' V' a' s',Kept E E' V V' a a'->At E' V' s' a' nt->pS E' ae e->Φ ae s'->Q e a' V')->dq lv P r all Q (U8 k n) a V
 |0,k,s,hk,h,E,V,a,Q,ak,hQ=>by
  have:all.toList.drop k=[]:=by simp;omega
  rw[this]at h;exact hQ .normal .normal E V a s (Kept.refl E V a) ak trivial h
 |n+1,k,s,hk,h,E,V,a,Q,ak,hQ=>by
  have hlt:k<all.size:=by omega
  have hd:all.toList.drop k=all[k]::all.toList.drop (k+1):=by rw[UL (by simpa using hlt)];simp
  rw[hd]at h;have e_:all[k]∈all:=XZ hlt;have ho:all[k]?=some all[k]:=Tj hlt;simp only[WL,dq,ho];obtain⟨hg,h⟩:=h;have hw:Uo all[k] (yielded all a.tmps)=true:=by unfold Uo;rw[hg]
  rw[if_pos hw];refine .inl (h E V a _ Q ak.bx ak.tok (λd e=>by rw[ak.size];exact dC _ e_ d e) (oq _ e_) (λE' V' a' s' aO bu mN hn=> ?_) (λE' V' s' pv v aO bu mN bm hb=> ?_));exact aei dC oq n (k+1) s' (by omega) hn E' V' a' Q ⟨bu,mN,aO.size.trans ak.size⟩ (λae e bZ aZ cD dw gJ dt he hΦ=>hQ ae e bZ aZ cD dw (aO.trans gJ) dt he hΦ);exact hQ (.panic pv) (.panic _) E' V' a s' aO ⟨bu,mN,ak.size⟩ ⟨v,rfl,bm⟩ hb
def ahj{nt id:Nat}{ops:SK}{Φ:SI}(hd:ki nt ops=true)(h:CS lv P r ops.toList s (Φ .normal) (λpv s=>Φ (.panic pv) s)):aW lv P r nt (.region id ops false) s Φ:=by intro E V a Q ak hQ;refine wp_region ?_;rw[Wj];exact aei (Φ:=Φ) (λo ho d e=>(ki.out hd ho).1 d e) (λo ho=> .inr (ki.out hd ho).2) ops.size 0 s (by omega) (by simpa using h) E V a Q ak hQ
end
section
variable {lv:Bool}{P:Tl}{r:SL}{o:Vp}{s:AS}{next:SV}{bad:AV->SV}
def Kd{nt id:Nat}{c:U5}{l:SC}{el:TypeId}{Φ:SI}(b_:s.H[id]?=some (.cells l el))(h:aW lv P r nt c ⟨s.T,s.H.set id (.part l.length l el)⟩ Φ):aW lv P r nt c s Φ:=λE V a Q ak hQ=>by
 have hc:=ak.bx;obtain⟨⟨cs,eO,hd⟩,lI⟩:=hc.obj id _ b_;have g:eg V (V.fe (E.blk id) cs (λo=>decide (o<l.length))):=yN eO (λo _=>lI o);refine WP.ghost g ?_;have hI:∀b o v,E.I b o=some v->(V.fe (E.blk id) cs (λo=>decide (o<l.length))).ah b o=some v:=λb o v e=>by
  rw[hc.I]at e;have hb:b≠E.blk id:=λhb=>by rw[hb,lI]at e;cases e
  simp only[View.fe];rw[if_neg (λx=>hb x.1)];exact e
 have hle:E.Le {E with I:=(V.fe (E.blk id) cs (λo=>decide (o<l.length))).ah}:=⟨hI,Tv _,λ_ _=>rfl,λ_ _=>Tv _,λ_ _ _ _=>rfl,rfl,rfl⟩;have cg:Conc {E with I:=(V.fe (E.blk id) cs (λo=>decide (o<l.length))).ah} (V.fe (E.blk id) cs (λo=>decide (o<l.length))) (s.H.set id (.part l.length l el)):=by refine hc.ja id _ hle rfl (by rw[UK];exact hc.n) lS rfl (λ_ _ _=>rfl) (λb y ew hy=>⟨hy,λo=> ?_⟩) ⟨⟨cs,eO,(hd.mono hle).p,λo ho=> ?_⟩,λo ho=> ?_⟩ (λb hb=> .inl ⟨_,b_,hb⟩);(have hb:b≠E.blk id:=λhb=>ew _ b_ (by rw[hb];rfl);simp only[View.fe];rw[if_neg (λx=>hb x.1)]);simp only[View.fe];rw[if_pos ⟨trivial,by simpa using ho⟩];simp only[View.fe];rw[if_neg (λx=>by have:=x.2;simp at this;omega)];exact lI o
 exact h _ _ a Q ⟨cg,ak.tok.mono hle,ak.size⟩ λae e E' aZ a' s' hk=>hQ ae e E' aZ a' s' ((⟨hle,rfl,rfl,rfl,rfl⟩:Kept E _ V (V.fe (E.blk id) cs (λo=>decide (o<l.length))) a a).trans hk)
def AA (H:SA)(b a:AV):Prop:=∀E V v,Conc E V H->ay E b v->ay E a v
def AA.of{H:SA}{b a:AV}(h:Wk b a):AA H b a:=λE _ v _ d=>h E v d
def Jt{H:SA}{id n cap m p:Nat}{l:SC}{el:TypeId}(b_:H[id]?=some (.part p l el))(hm:m<=p)(hp:p<=l.length):AA H (.bB id 0 n cap) (.sl n (l.take m) .shut):=λE V v hc hd=>by
 cases hd with
 |bB hi dT=>rename_i cap';obtain⟨⟨cs,ho,xg,sG⟩,_⟩:=hc.obj id _ b_;refine .sl (E.blk id) 0 cap' (λi=>cs.getD i undef) dT.1 trivial (λi cN=> ?_) (λi x hx=> ?_);rw[Vl]at cN;have hlt:i<cs.size:=(by have:=xg.1;omega);rw[hc.I,WK,sG i (by omega),Th,Tj hlt];rfl;rw[Vh]at hx;split at hx;exact xg.2 i x hx;cases hx
def Ke{nt id j:Nat}{c:U5}{l:SC}{x y:AV}{el:TypeId}{Φ:SI}(b_:s.H[id]?=some (.cells l el))(hj:l[j]?=some x)(hw:AA s.H x y)(h:aW lv P r nt c ⟨s.T,s.H.set id (.cells (l.set j y) el)⟩ Φ):aW lv P r nt c s Φ:=λE V a Q ak hQ=>by
 have hc:=ak.bx;obtain⟨⟨cs,eO,hd⟩,lI⟩:=hc.obj id _ b_;have cg:Conc E V (s.H.set id (.cells (l.set j y) el)):=
  hc.ja id _ (Env.Le.refl _) hc.I (by rw[hc.n,UK]) lS rfl (λ_ _ _=>rfl) (λb y _ hy=>⟨hy,λ_=>rfl⟩) ⟨⟨cs,eO,Rw hd hj (λv d=>hw E V v hc d)⟩,lI⟩ (λb de=> .inl ⟨_,b_,de⟩)
 exact h E V a Q ⟨cg,ak.tok,ak.size⟩ hQ
def QP{nt t:Nat}{c:U5}{x y:AV}{Φ:SI}(ht:look s.T t=some x)(hw:AA s.H x y)(h:aW lv P r nt c ⟨(t,y)::s.T,s.H⟩ Φ):aW lv P r nt c s Φ:=λE V a Q ak hQ=>by refine h E V a Q ⟨ak.bx,λt' b e=> ?_,ak.size⟩ hQ;simp only[look]at e;split at e;rename_i e';subst e';cases e;exact⟨(ak.tok t x ht).1,hw E V _ ak.bx (ak.tok t x ht).2⟩;exact ak.tok t' b e
end
open Go.Proofs Go.Gg.Tk
def iR (τ:bp)(n:Nat):Nat->SD×bp
 |0=>(UQ n 0,τ)
 |i+1=>(((iR τ n i).1.set i ((iR τ n i).1.getD (dp (iR τ n i).2 i).toNat 0)).set (dp (iR τ n i).2 i).toNat i,tick (iR τ n i).2)
def BY(τ:bp)(n:Nat):∀i,(iR τ n i).1.length=n
 |0=>ZR
 |i+1=>by rw[iR,UK,UK,BY τ n i]
def IE{τ:bp}{b:Int}(h:τ.Ok b)(n:Nat):∀i:Nat,(iR τ n i).2.Ok (b+i)
 |0=>h.mono (by simp)
 |i+1=>(IE h n i).tick.mono (by simp;omega)
def afl(n:Nat):gF (S_ .i64 0) n=(UQ n (0:Int)).map iv:=by
 have h:∀i∈Tt n,AV.qG ((S_ Tg 0).cells[i % (S_ Tg 0).cells.size]!)=iv 0:=λi _=>by rw[show (S_ Tg 0).cells.size=1 from rfl,Nat.mod_one];rfl
 rw[List.map_replicate];unfold gF;rw[WR h,List.map_const',as_]
section
variable {lv:Bool}{k kp:SF}{Gf:bp->SA}{t N:Nat}{τ:bp}{b:Int}
def St{n:Nat}(hT:dO Gf t N)(hτ:τ.Ok b)(hb:b<2^30)(hn:n<=2^20)(hk:k (aV (iR τ n n).1) (Gf (iR τ n n).2)):aS lv BI 94 (Gf τ) [.op t 0,iv n] k kp:=by
 refine br (rs:=[.tmp 4]) (nt:=30) Tryz.f94 λhH hA=> ?_;simp only[ba,Tq];have vu:∀o:aa,dO (λτ=>Gf τ++[o]) t (N+1):=λo=>hT.more [o];refine ai ?_;refine ab ?_;simp only[seval,afl,hT.len];refine⟨by omega,by omega,?_⟩;refine ai ?_;refine bO ?_;refine gU n (λi:Nat=>[(6,iv i)]) (λi=>Gf (iR τ n i).2++[.cells ((iR τ n i).1.map iv) 3]) (λ_=>True) (λ_ _=>rfl) (by simp only[seval];simp[bE,Wk.refl]) rfl (λ_ _ _=>by simp[hT.len]) trivial (λbN cm i ce hi R hR=> ?_);clear bN cm;refine ai ?_;refine ao ?_;refine⟨λh=> ?_,λh=> ?_⟩
 ·have bh:i<n:=by omega
  have an:=IE hτ n i;have hlen:=BY τ n i;have zA:Tg.wrap ((i:Int)+1)=i+1:=bt _ (by omega);have eT:iR τ n (i+1)=(((iR τ n i).1.set i ((iR τ n i).1.getD (dp (iR τ n i).2 i).toNat 0)).set (dp (iR τ n i).2 i).toNat i,tick (iR τ n i).2):=rfl;generalize iR τ n i=m at an hlen eT⊢;obtain⟨l,σ⟩:=m;simp only at an hlen eT;have hr:=lX σ i;refine aF ?_;refine ai ?_;refine aK (qe (vu _) an (by omega) (by omega) ?_);(try simp only[seval]);generalize dp σ i=u at hr eT⊢;obtain⟨u,rfl⟩:∃w:Nat,u=w:=⟨u.toNat,by omega⟩;rw[WO]at eT;have ED:u<n:=by omega
  obtain⟨a,ha⟩:=bF (xs:=l) (i:=u) (by omega);have MC:l.getD u 0=a:=by rw[Tf,ha];rfl
  rw[MC]at eT;obtain⟨a2,DR⟩:=bF (xs:=l) (i:=i) (by omega);have HH:(i+1<=l.length)=True:=by simp;omega
  have hou:(u+1<=(l.set i a).length)=True:=by simp;omega
  refine ab ?_;simp only[seval,fy bh,fy ED,hT.len,hT.g0,hT.g1,hT.g2,hT.g3,hT.h2,hT.h3,hT.s0,hT.s1,hT.s2,hT.s3,hT.t2,hT.t3,lx ha,Um,HH,xU (y:=a) (show i<l.length by omega)];refine ab ?_;simp only[seval,fy ED,hT.len,hT.g0,hT.g1,hT.g2,hT.g3,hT.h2,hT.h3,hT.s0,hT.s1,hT.s2,hT.s3,hT.t2,hT.t3,Um,hou,xU (xs:=l.set i a) (y:=i) (show u<(l.set i a).length by simp;omega)];refine ab ?_;simp only[seval,zA];refine hR _ ⟨bh,trivial,?_⟩;rw[eT];exact cK
 ·have jj:i=n:=by omega
  subst jj;clear hR;refine bT ?_;have hlen:=BY τ i i;generalize iR τ i i=m at hlen hk⊢;obtain⟨l,σ⟩:=m;simp only at hlen hk
  (repeat apply ii);refine Kd (id:=N) (by simp only[seval,hT.len,hT.g0,hT.g1,hT.g2,hT.g3,hT.h2,hT.h3,hT.s0,hT.s1,hT.s2,hT.s3,hT.t2,hT.t3]<;>rfl) ?_;simp only[seval,hT.len,hT.g0,hT.g1,hT.g2,hT.g3,hT.h2,hT.h3,hT.s0,hT.s1,hT.s2,hT.s3,hT.t2,hT.t3]
  (repeat apply ii);refine QP (t:=5) (y:=aV l) (by simp only[seval]<;>rfl) ?_ ?_
  ·have e:aV l=.sl i ((l.map iv).take i) .shut:=by rw[Tu (by simp;omega),aV,hlen]
   rw[e];exact Jt (p:=l.length) (by simp only[seval,hT.len,hT.g0,hT.g1,hT.g2,hT.g3,hT.h2,hT.h3,hT.s0,hT.s1,hT.s2,hT.s3,hT.t2,hT.t3]<;>rfl) (by omega) (by simp)
  refine ai ?_;refine aH ?_;exact jy (b:=aV l) (H':=Gf σ) (G:=[.part l.length (l.map iv) 3]) (Wk.refl _) rfl (by simp[hT.len]) (hT.an hH σ) (by rw[BV];trivial) hk
end
structure JR (p:SD)(n:Nat):Prop where
 len:p.length=n
 nodup:p.Nodup
 I4:∀v∈p,0<=v/\v<(n:Int)
def set_perm{t:SD}{k:Nat}{a b:Int}(h:t[k]?=some a):(t.set k b++[a]).Perm (t++[b]):=by
 obtain⟨hk,rfl⟩:=Tn.1 h;have e:t=t.take k++t[k]::t.drop (k+1):=by rw[<- UL hk,W2]
 rw[List.set_eq_take_append_cons_drop,if_pos hk]
 conv=>rhs;rw[e]
 rw[List.perm_iff_count];intro v;simp only[List.count_append,List.count_cons,List.count_nil];omega
def acH(τ:bp)(n:Nat):∀i:Nat,i<=n->((iR τ n i).1.take i).Nodup/\∀v∈(iR τ n i).1.take i,0<=v/\v<(i:Int)
 |0,_=>by simp
 |i+1,hi=>by
  obtain⟨h1,h2⟩:=acH τ n i (by omega);have hlen:=BY τ n i;rw[iR];generalize iR τ n i=m at h1 h2 hlen⊢;obtain⟨l,σ⟩:=m;simp only at h1 h2 hlen⊢;have hr:=lX σ i;generalize dp σ i=u at hr⊢;obtain⟨k,rfl⟩:∃w:Nat,u=w:=⟨u.toNat,by omega⟩;rw[WO];obtain⟨a,ha⟩:=bF (xs:=l) (i:=k) (by omega);obtain⟨c,hc⟩:=bF (xs:=l) (i:=i) (by omega);have MC:l.getD k 0=a:=by rw[Tf,ha];rfl
  have xB:(l.take i).length=i:=by rw[Vl];omega
  have hp:(((l.set i a).set k (i:Int)).take (i+1)).Perm (l.take i++[(i:Int)]):=by rw[axd,axd,WY,hc];show ((((l.take i)++[c]).set i a).set k (i:Int)).Perm _;rw[Vg _ _ (by omega),xB,WV];show (((l.take i)++[a]).set k (i:Int)).Perm _;by_cases e:k=i;subst e;rw[Vg _ _ (by omega),xB,WV];exact axs _;rw[VE _ _ (by omega)];exact set_perm (by rw[Vh,if_pos (by omega)];exact ha)
  rw[MC];refine⟨(axV hp).2 ?_,λv hv=> ?_⟩;exact Wo.2 ⟨h1,by simp,λx hx y hy e=>by have:=h2 x hx;simp at hy;omega⟩;rcases T1.1 (hp.mem_iff.1 hv)with hv|hv;have:=h2 v hv;omega;simp at hv;omega
def acI(τ:bp)(n:Nat):JR (iR τ n n).1 n:=by obtain⟨h1,h2⟩:=acH τ n n (Tv _);rw[Tu (by rw[BY];exact Tv _)]at h1 h2;exact⟨BY τ n n,h1,h2⟩
def C_{τ:bp}{n m lo hi:Int}(hn:lo<=n/\n<=hi)(py:0<=lo):uS (nZ τ n m lo hi) hi/\ec (nZ τ n m lo hi) n=true:=by have r1:=lX τ m;have r2:=lX (tick τ) m;unfold nZ;refine⟨⟨?_,?_,?_⟩,?_⟩;dsimp only;omega;dsimp only;omega;dsimp only;omega;unfold ec;rw[Ui,decide_eq_true_eq,decide_eq_true_eq];dsimp only;omega
def KW(τ:bp){ns:SD}(h:ns≠[]):wZ τ ns∈ns:=by
 unfold wZ;have hl:0<ns.length:=W9.2 h;have r:=lX τ ((ns.length:Int)-1);have hi:(dp τ ((ns.length:Int)-1)).toNat<ns.length:=by omega
 rw[Tf,T4 hi];exact W_ hi
def xX (τ:bp)(am:Int):Int:=wZ (tick τ) [0,am,dp τ am]
def ael(τ:bp){am:Int}(h:0<=am):0<=xX τ am/\xX τ am<=am:=by have r:=lX τ am;have:=KW (tick τ) (ns:=[0,am,dp τ am]) (by simp);unfold xX;simp only[Tm,T5,or_false]at this;omega
def lJ (τ:bp)(first am:Int):Nat->SD×bp
 |0=>([first],τ)
 |i+1=>((lJ τ first am i).1++[(lJ τ first am i).1.getD i 0+xX (lJ τ first am i).2 am],tick (tick (lJ τ first am i).2))
structure oT (first am:Int)(l:SD)(i:Nat):Prop where
 len:l.length=i+1
 head:l.getD 0 0=first
 step:∀j,j<i->l.getD j 0<=l.getD (j+1) 0/\l.getD (j+1) 0<=l.getD j 0+am
def GU{l:SD}{v:Int}{j:Nat}(h:j<l.length):(l++[v]).getD j 0=l.getD j 0:=by rw[Tf,Tf,T6 h]
def alB{l:SD}{v:Int}{j:Nat}(h:l.length=j):(l++[v]).getD j 0=v:=by subst h;rw[Tf,Uc (Tv _),WV];rfl
def abf(τ:bp)(first:Int){am:Int}(h:0<=am):∀i,oT first am (lJ τ first am i).1 i
 |0=>⟨rfl,rfl,λj hj=>by omega⟩
 |i+1=>by
  have ih:=abf τ first h i
  rw[lJ];have hs:=ael (lJ τ first am i).2 h;generalize xX (lJ τ first am i).2 am=v at hs⊢;generalize(lJ τ first am i).1=l at ih⊢;have hl:=ih.len;refine⟨by rw[Tp,hl];rfl,by rw[GU (by omega)];exact ih.head,λj hj=> ?_⟩;by_cases cF:j<i;rw[GU (by omega),GU (by omega)];exact ih.step j cF;have:j=i:=(by omega);subst this;rw[GU (by omega),alB (by omega)];omega
def abg{τ:bp}{b:Int}(h:τ.Ok b)(first am:Int):∀i:Nat,(lJ τ first am i).2.Ok (b+2* i)
 |0=>h.mono (by simp)
 |i+1=>(abg h first am i).tick.tick.mono (by simp;omega)
def oT.ge{first am:Int}{l:SD}{i:Nat}(h:oT first am l i)(hp:0<=am):∀j,j<=i->first<=l.getD j 0/\l.getD j 0<=first+am* j
 |0,_=>by rw[h.head];simp
 |j+1,hj=>by
  have ih:=h.ge hp j (by omega);have:=h.step j (by omega);have e:am* ((j+1:Nat):Int)=am* j+am:=by rw[Int.natCast_add,Int.mul_add];simp
  omega
def k_ (first:Int)(order:SD)(i:Nat):SD:=(Tt i).map λj=>first+order.getD j 0
def acT(first:Int)(order:SD)(i:Nat):k_ first order (i+1)=k_ first order i++[first+order.getD i 0]:=by unfold k_;rw[Wb,UA];rfl
def acS(first:Int)(order:SD)(i:Nat):(k_ first order i).length=i:=by simp[k_]
def kR (h:SD)(hours:Int)(num:Nat->Int)(τ:bp):Nat->List aD×bp
 |0=>([],τ)
 |i+1=>((kR h hours num τ i).1++[l_ (tick (kR h hours num τ i).2) h (num i) hours],tick (tick (tick (tick (tick (kR h hours num τ i).2)))))
def Bg(h:SD)(hours:Int)(num:Nat->Int)(τ:bp):∀i,(kR h hours num τ i).1.length=i
 |0=>rfl
 |i+1=>by rw[kR,Tp,Bg h hours num τ i];rfl
def L9{τ:bp}{b:Int}(hτ:τ.Ok b)(h:SD)(hours:Int)(num:Nat->Int):∀i:Nat,(kR h hours num τ i).2.Ok (b+5* i)
 |0=>hτ.mono (by simp)
 |i+1=>(L9 hτ h hours num i).tick.tick.tick.tick.tick.mono (by simp;omega)
def td (h:SD)(hours:Int)(τ:bp):Nat->List Seen×bp
 |0=>([],τ)
 |i+1=>((td h hours τ i).1++[⟨dp (td h hours τ i).2 hours,nZ (tick (td h hours τ i).2) (h.getD (dp (td h hours τ i).2 hours).toNat 0) 1 0 99⟩],tick (tick (tick (td h hours τ i).2)))
def adR(h:SD)(hours:Int)(τ:bp):∀i,(td h hours τ i).1.length=i
 |0=>rfl
 |i+1=>by rw[td,Tp,adR h hours τ i];rfl
def adT{τ:bp}{b:Int}(hτ:τ.Ok b)(h:SD)(hours:Int):∀i:Nat,(td h hours τ i).2.Ok (b+3* i)
 |0=>hτ.mono (by simp)
 |i+1=>(adT hτ h hours i).tick.tick.tick.mono (by simp;omega)
def adS{h:SD}{hours:Int}{τ:bp}(hu:∀τ,0<=dp τ hours/\dp τ hours<=hours):∀i,∀s∈(td h hours τ i).1,0<=s.hour/\s.hour<=hours/\∃σ,s.next=nZ σ (h.getD s.hour.toNat 0) 1 0 99
 |0,s,hs=>by cases hs
 |i+1,s,hs=>by rw[td]at hs;rcases T1.1 hs with hs|hs;exact adS hu i s hs;rw[Ub]at hs;subst hs;exact⟨(hu _).1,(hu _).2,_,rfl⟩
structure F4 (h:SD)(hours n:Int)(y:aD):Prop where
 num:uS y.number 99
 hour:uS y.hour (hours-1)
 fits:fits h y n=true
def L8{h:SD}{hours:Int}{num:Nat->Int}{τ:bp}{P:Int->aD->Prop}(hP:∀τ n,P n (l_ τ h n hours)):∀i j y,(kR h hours num τ i).1[j]?=some y->P (num j) y
 |0,j,y,hy=>by cases hy
 |i+1,j,y,hy=>by rw[kR]at hy;have hl:=Bg h hours num τ i;by_cases hj:j<i;rw[T6 (by omega)]at hy;exact L8 hP i j y hy;rw[Uc (by omega),hl]at hy;have:j=i:=(by have:=(Tn.1 hy).1;simp at this;omega);subst this;rw[WV]at hy;cases hy;exact hP _ _
end Go.Gg
namespace Go.Gg.Tk
def Hu{x:aj}:∀(d:Nat)(pre h:SD),h∈eG x d pre->h.take pre.length=pre
 |0,pre,h,hm=>by unfold eG at hm;split at hm;rw[Ub]at hm;subst hm;exact Ux;cases hm
 |d+1,pre,h,hm=>by unfold eG at hm;split at hm;obtain⟨n,_,hm⟩:=T8.1 hm;have:=Hu d _ h hm;rw[Tp,Uw]at this;have h2:=congrArg (U9 pre.length) this;rw[VF,UD (Tv _),Ux,Wa (by omega)]at h2;exact h2;cases hm
def abb{x:aj}:∀(d:Nat)(pre:SD),(eG x d pre).Nodup
 |0,pre=>by unfold eG;split;simp;exact XU
 |d+1,pre=>by unfold eG;split;unfold List.Nodup;rw[List.pairwise_flatMap];refine⟨λn _=>abb d _,?_⟩;refine axh ?_ (Y' (n:=x.am.toNat+1));intro a b im h ha g hb he;subst he;have h1:=Hu d _ h ha;have h2:=Hu d _ h hb;rw[Tp,Uw]at h1 h2;have h3:=h1.symm.trans h2;have:=List.append_cancel_left h3;simp at this;exact im (by omega);exact XU
def amK(x:aj):(aQ x).Nodup:=abb _ _
end Go.Gg.Tk
namespace Go.Gg.Tk
def Iq{h pre:SD}(hp:pre≠[])(ht:h.take pre.length=pre):pre.getLastD 0=h.getD (pre.length-1) 0:=by
 have hl:0<pre.length:=W9.2 hp;have e:pre[pre.length-1]?=h[pre.length-1]?:=by
  have:(h.take pre.length)[pre.length-1]?=pre[pre.length-1]?:=by rw[ht]
  rw[<- this,Vh,if_pos (by omega)]
 rw[Tf,<- e,Wc,XV]
def Good (x:aj)(k:Nat)(h:SD):Prop:=∀j,k<=j->j<h.length->qK x j (h.getD j 0)=true/\(j+1<h.length->∃n:Nat,n<x.am.toNat+1/\h.getD (j+1) 0=h.getD j 0+n)
def Ji{h pre:SD}{v:Int}:h.take (pre.length+1)=pre++[v]<->h.take pre.length=pre/\pre.length<h.length/\h.getD pre.length 0=v:=by
 constructor
 ·intro e;have hl:pre.length+1<=h.length:=by have:=congrArg axg e;rw[Vl,Tp,Uw]at this;omega
  have h1:=congrArg (U9 pre.length) e;rw[VF,UD (Tv _),Ux,Wa (by omega)]at h1;refine⟨h1,by omega,?_⟩;have h2:(h.take (pre.length+1))[pre.length]?=(pre++[v])[pre.length]?:=by rw[e]
  rw[Vh,if_pos (by omega),Uc (Tv _),WV]at h2;rw[Tf,h2];rfl
 ·rintro⟨h1,h2,h3⟩
  rw[WY,h1];congr 1;rw[Tf,T4 h2]at h3;rw[T4 h2,<- h3];rfl
def MP{x:aj}:∀(d:Nat)(pre h:SD),pre≠[]->(h∈eG x d pre<->h.length=pre.length+d/\h.take pre.length=pre/\Good x (pre.length-1) h)
 |0,pre,h,hp=>by
  have hl:0<pre.length:=W9.2 hp;unfold eG;constructor;intro hm;split at hm;rename_i hs;rw[Ub]at hm;subst hm;refine⟨rfl,Ux,λj h1 h2=> ?_⟩;have:j=h.length-1:=(by omega);subst this;rw[Iq hp Ux]at hs;exact⟨hs,λh=>by omega⟩;cases hm
  ·rintro⟨h1,h2,h3⟩
   have e:h=pre:=(by rw[<- h2,Tu (by omega)]);subst e;have:=(h3 (h.length-1) (Tv _) (by omega)).1;rw[<- Iq hp Ux]at this;rw[if_pos this];simp
 |d+1,pre,h,hp=>by
  have hl:0<pre.length:=W9.2 hp;unfold eG;constructor;intro hm;split at hm;rename_i hs;obtain⟨n,hn,hm⟩:=T8.1 hm;rw[MP d _ h (by simp)]at hm;obtain⟨h1,h2,h3⟩:=hm;rw[Tp,Uw]at h1 h2 h3;obtain⟨h4,h5,h6⟩:=Ji.1 h2;rw[Iq hp h4]at hs h6;refine⟨by omega,h4,λj zf Hx=> ?_⟩;by_cases hj:j=pre.length-1;subst hj;refine⟨hs,λ_=>⟨n,UB.1 hn,?_⟩⟩;rw[show pre.length-1+1=pre.length by omega];exact h6;exact h3 j (by omega) Hx;cases hm
  ·rintro⟨h1,h2,h3⟩
   obtain⟨hs,aU⟩:=h3 (pre.length-1) (Tv _) (by omega);obtain⟨n,hn,he⟩:=aU (by omega);rw[show pre.length-1+1=pre.length by omega]at he;rw[Iq hp h2,if_pos hs];refine T8.2 ⟨n,UB.2 hn,?_⟩;rw[MP d _ h (by simp),Tp,Uw];exact⟨by omega,Ji.2 ⟨h2,by omega,he⟩,λj zf Hx=>h3 j (by omega) Hx⟩
def apJ{h:SD}(hm:∀j,j+1<h.length->h.getD j 0<=h.getD (j+1) 0):tF h:=by
 induction h with
 |nil=>trivial
 |cons a l ih=>
  cases l with
  |nil=>trivial
  |cons b l=>refine⟨?_,ih λj hj=> ?_⟩;(have:=hm 0 (by simp);simpa using this);(have:=hm (j+1) (by simp at hj⊢;omega);simpa using this)
def aeS{n:Int}:∀(h:SD)(i:Nat),tF h->(0<=eW i h n<->h.headD 0<=n/\n<h.getLastD 0)
 |[],i,_=>by simp[eW]<;>omega
 |[a],i,_=>by simp[eW]<;>omega
 |a::b::l,i,hm=>by
  obtain⟨h1,h2⟩:=hm;have ih:=aeS (n:=n) (b::l) (i+1) h2;have rA:(a::b::l).getLastD 0=(b::l).getLastD 0:=by simp[ap_]
  rw[rA];unfold eW;split;rename_i h;have cI:b<=(b::l).getLastD 0:=acJ h2;constructor;intro _;exact⟨h.1,by omega⟩;intro _;omega;rename_i h;rw[ih];have e1:(a::b::l).headD 0=a:=rfl;have e2:(b::l).headD 0=b:=rfl;rw[e1,e2];omega
where
 acJ {b:Int}:∀{l:SD},tF (b::l)->b<=(b::l).getLastD 0
  |[],_=>by simp
  |c::l,hm=>by obtain⟨h1,h2⟩:=hm;have:=acJ h2;have e:(b::c::l).getLastD 0=(c::l).getLastD 0:=(by simp[ap_]);rw[e];omega
def aeW{h:SD}{n:Int}(hm:tF h):0<=ff h n<->h.headD 0<=n/\n<h.getLastD 0:=aeS h 0 hm
def aeV{n:Int}:∀(h:SD)(i:Nat),0<=eW i h n->eW i h n+1<i+h.length
 |[],i,h=>by simp[eW]at h
 |[a],i,h=>by simp[eW]at h
 |a::b::l,i,h=>by unfold eW at h⊢;split;simp;omega;rename_i hn;rw[if_neg hn]at h;have:=aeV (b::l) (i+1) h;simp at this⊢;omega
def ak7{h:SD}{y:aD}{n:Int}(hm:tF h)(hf:fits h y n=true):n∈xJ h:=by unfold fits at hf;simp only[Ui,decide_eq_true_eq]at hf;obtain⟨h1,h2⟩:=(aeW hm).1 hf.1.1;unfold xJ;refine Uh.2 ⟨(n-h.headD 0).toNat,UB.2 (by omega),by omega⟩
def aaw{α:Type}[DecidableEq α]{l:List α}{d:α}{i:Nat}(hi:i<l.length):l.Nodup->l.getD i d∉l.take i:=λhn hm=>by obtain⟨j,hj⟩:=Wl hm;rw[Vh]at hj;split at hj;rename_i cF;rw[Tf,T4 hi,T4 (by omega)]at hj;simp only[T_,Ul]at hj;have h2:=VJ.1 hn;exact(Zp.1 h2) j i (by omega) hi cF hj;cases hj
def acP{α:Type}{l:List α}{d:α}(h:∀i,i<l.length->l.getD i d∉l.take i):l.Nodup:=by rw[VJ,Zp];intro i j hi hj kF e;refine h j hj ?_;rw[Tf,T4 hj,T_,<- e];exact VQ.2 ⟨i,by rw[Vh,if_pos kF,T4 hi]⟩
def Jj{α:Type}{d:α}{h pre:List α}{v:α}:h.take (pre.length+1)=pre++[v]<->h.take pre.length=pre/\pre.length<h.length/\h.getD pre.length d=v:=by
 constructor
 ·intro e;have hl:pre.length+1<=h.length:=by have:=congrArg axg e;rw[Vl,Tp,Uw]at this;omega
  have h1:=congrArg (U9 pre.length) e;rw[VF,UD (Tv _),Ux,Wa (by omega)]at h1;refine⟨h1,by omega,?_⟩;have h2:(h.take (pre.length+1))[pre.length]?=(pre++[v])[pre.length]?:=by rw[e]
  rw[Vh,if_pos (by omega),Uc (Tv _),WV]at h2;rw[Tf,h2];rfl
 ·rintro⟨h1,h2,h3⟩
  rw[WY,h1];congr 1;rw[Tf,T4 h2]at h3;rw[T4 h2,<- h3];rfl
def II{h:SD}(hm:tF h):∀(ys:SY)(t ns:SD),ns∈kJ h ys t<->ns.length=t.length+ys.length/\ns.take t.length=t/\∀i y,ys[i]?=some y->fits h y (ns.getD (t.length+i) 0)=true/\ns.getD (t.length+i) 0∉ns.take (t.length+i)
 |[],t,ns=>by simp only[kJ,Ub,Vz,Vr];constructor;rintro rfl;exact⟨rfl,Ux,λi y hy=>by cases hy⟩;rintro⟨h1,h2,_⟩;rw[<- h2,Tu (by omega)]
 |y::ys,t,ns=>by
  simp only[kJ,T8,Vx,Ui,UV,U4];constructor
  ·rintro⟨n,⟨_,hf,ht⟩,gK⟩
   rw[II hm ys (t++[n]) ns]at gK;obtain⟨h1,h2,h3⟩:=gK;rw[Tp,Uw]at h1 h2 h3;obtain⟨h4,h5,h6⟩:=(Jj (d:=0)).1 h2;refine⟨by omega,h4,λi z hz=> ?_⟩
   match i,hz with
   |0,hz=>cases hz;rw[Vr,h6,h4];refine⟨hf,?_⟩;intro hc;rw[Vq]at ht;simp at ht;exact ht hc
   |i+1,hz=>have:=h3 i z hz;rw[show t.length+1+i=t.length+(i+1) by omega]at this;exact this
  ·rintro⟨h1,h2,h3⟩
   obtain⟨hf,hn⟩:=h3 0 y rfl;rw[Vr]at hf hn;rw[h2]at hn;refine⟨ns.getD t.length 0,⟨ak7 hm hf,hf,by rw[Vq];simpa using hn⟩,?_⟩;rw[II hm ys _ ns,Tp,Uw];refine⟨by omega,(Jj (d:=0)).2 ⟨h2,by omega,rfl⟩,λi z hz=> ?_⟩;have:=h3 (i+1) z hz;rw[show t.length+(i+1)=t.length+1+i by omega]at this;exact this
def IU{h ns:SD}:∀(ss:SY)(t os:SE),os∈ld h ns ss t<->os.length=t.length+ss.length/\os.take t.length=t/\∀i s,ss[i]?=some s->fits h s (ns.getD (os.getD (t.length+i) 0) 0)=true/\os.getD (t.length+i) 0<ns.length/\os.getD (t.length+i) 0∉os.take (t.length+i)
 |[],t,os=>by simp only[ld,Ub,Vz,Vr];constructor;rintro rfl;exact⟨rfl,Ux,λi y hy=>by cases hy⟩;rintro⟨h1,h2,_⟩;rw[<- h2,Tu (by omega)]
 |s::ss,t,os=>by
  simp only[ld,T8,Vx,Ui,UV,U4,UB];constructor
  ·rintro⟨n,⟨hlt,hf,ht⟩,gK⟩
   rw[IU ss (t++[n]) os]at gK;obtain⟨h1,h2,h3⟩:=gK;rw[Tp,Uw]at h1 h2 h3;obtain⟨h4,h5,h6⟩:=(Jj (d:=0)).1 h2;refine⟨by omega,h4,λi z hz=> ?_⟩
   match i,hz with
   |0,hz=>cases hz;rw[Vr,h6,h4];refine⟨hf,hlt,?_⟩;intro hc;rw[Vq]at ht;simp at ht;exact ht hc
   |i+1,hz=>have:=h3 i z hz;rw[show t.length+1+i=t.length+(i+1) by omega]at this;exact this
  ·rintro⟨h1,h2,h3⟩
   obtain⟨hf,hlt,hn⟩:=h3 0 s rfl;rw[Vr]at hf hlt hn;rw[h2]at hn;refine⟨os.getD t.length 0,⟨hlt,hf,by rw[Vq];simpa using hn⟩,?_⟩;rw[IU ss _ os,Tp,Uw];refine⟨by omega,(Jj (d:=0)).2 ⟨h2,by omega,rfl⟩,λi z hz=> ?_⟩;have:=h3 (i+1) z hz;rw[show t.length+(i+1)=t.length+1+i by omega]at this;exact this
end Go.Gg.Tk
namespace Go.Gg.Tk
def abd{x:aj}{bw:Nat}:∀(d:Nat)(pre:SD),2<=pre.length->nE x bw d pre=(eG x d pre).map cT
 |0,pre,_=>by unfold nE eG;split<;>rfl
 |d+1,pre,h=>by unfold nE eG;split;rw[WN];congr 1;funext n;rw[if_neg (λhc=>by have:=hc.1;omega),abd d _ (by simp;omega)];rfl
def aae{α:Type}{t:Nat}{f:Nat->List α}:∀m,((Tt m).flatMap λn=>if n≠t then[]else f n)=if t<m then f t else[]
 |0=>by simp
 |m+1=>by rw[Wb,VX,aae m];simp only[UT,List.flatMap_nil,Ts];by_cases h:m=t;subst h;rw[if_neg (Nat.lt_irrefl _),if_neg (by simp),if_pos (Vw _),Vv];rw[if_pos h,Ts];by_cases h2:t<m;rw[if_pos h2,if_pos (by omega)];rw[if_neg h2,if_neg (by omega)]
def abj{x:aj}{bw:Nat}(hh:1<=x.hours)(ht:bw<x.am.toNat+1):kV x bw=(xo x bw).map cT:=by unfold kV xo;obtain⟨d,hd⟩:∃d,x.hours.toNat=d+1:=⟨x.hours.toNat-1,by omega⟩;rw[hd];unfold nE;simp only[Uw,WV,X7,true_and];rw[show ([x.first]:SD).getLastD 0=x.first from rfl];split;rw[aae (t:=bw) (f:=λn=>nE x bw d ([x.first]++[x.first+(n:Int)])),if_pos ht,abd d _ (by simp)];rfl;rfl
def amI{x:aj}(hh:1<=x.hours):((Tt (x.am.toNat+1)).flatMap λt=>xo x t)=aQ x:=by unfold aQ xo;obtain⟨d,hd⟩:∃d,x.hours.toNat=d+1:=⟨x.hours.toNat-1,by omega⟩;rw[hd,X7,show eG x (d+1) [x.first]=(if qK x 0 x.first then(Tt (x.am.toNat+1)).flatMap λn:Nat=>eG x d [x.first,x.first+(n:Int)]else[])from rfl];split;rfl;simp
end Go.Gg.Tk
namespace Go.Gg.Tk
def arT{p:Nat->Bool}{m k:Nat}(h:m<=k):((Tt k).filter λn=>decide (n<m)&&p n)=(Tt m).filter p:=by
 obtain⟨j,rfl⟩:=Nat.exists_eq_add_of_le h;rw[List.range_add,YO];have h1:((Tt j).map (m+·)).filter (λn=>decide (n<m)&&p n)=[]:=by rw[List.filter_eq_nil_iff];intro a ha;obtain⟨b,_,rfl⟩:=Uh.1 ha;simp only[Ui,decide_eq_true_eq,not_and];exactλhlt=>absurd hlt (by omega)
 rw[h1,Ts];refine WB λn hn=> ?_;rw[UB]at hn;simp[hn]
def Ln{α:Type}{c:Nat->Bool}{f:Nat->List α}:∀l:SE,(l.flatMap λn=>if c n=true then[]else f n)=(l.filter λn=> !c n).flatMap f
 |[]=>rfl
 |n::l=>by rw[UT,List.filter_cons,Ln l];cases hc:c n<;>simp
def uF (g:aD->Nat->Bool)(m:Nat):List aD->SE->List (SE)
 |[],t=>[t]
 |y::ys,t=>((Tt m).filter λn=>g y n&& !t.contains n).flatMap λn=>uF g m ys (t++[n])
def OG{g:aD->Nat->Bool}{q:aD->Nat}{m:Nat}(hm:m<=9):∀(ys:SY)(u:Nat)(t:SE),(∀y∈ys,∀n,n<9->(q y).testBit n=(decide (n<m)&&g y n))->(∀n,u.testBit n=t.contains n)->lc (ys.map q) u t=uF g m ys t
 |[],u,t,_,_=>rfl
 |y::ys,u,t,hq,hu=>by
  rw[VN,lc,uF];have e1:((Tt 9).flatMap λn=>if(u.testBit n|| !(q y).testBit n)=true then[]else lc (ys.map q) (u|||2^n) (t++[n]))=((Tt 9).filter λn=> !(u.testBit n|| !(q y).testBit n)).flatMap λn=>lc (ys.map q) (u|||2^n) (t++[n]):=Ln _;rw[e1];have e2:((Tt 9).filter λn=> !(u.testBit n|| !(q y).testBit n))=(Tt m).filter λn=>g y n&& !t.contains n:=by rw[<- arT hm];refine WB λn hn=> ?_;rw[UB]at hn;rw[hu,hq y (by simp) n hn];cases t.contains n<;>cases decide (n<m)<;>cases g y n<;>rfl
  rw[e2];congr 1;funext n;refine OG hm ys _ _ (λz hz=>hq z (by simp[hz])) λi=> ?_;rw[YD,hu,Xc,Z1];simp[eq_comm]
def acV{h:SD}{a:Int}{g:aD->Nat->Bool}{m:Nat}(hr:xJ h=(Tt m).map λi:Nat=>a+(i:Int)):∀(ys:SY)(t:SE),(∀y∈ys,∀n,n<m->fits h y (a+(n:Int))=g y n)->kJ h ys (t.map λi:Nat=>a+(i:Int))=(uF g m ys t).map λl=>l.map λi:Nat=>a+(i:Int)
 |[],t,_=>rfl
 |y::ys,t,hg=>by
  rw[kJ,uF,hr,as',X0,WN];have e:(Tt m).filter ((λn=>fits h y n&& !(t.map λi:Nat=>a+(i:Int)).contains n)∘λi:Nat=>a+(i:Int))=(Tt m).filter λn=>g y n&& !t.contains n:=by
   refine WB λn hn=> ?_;rw[UB]at hn;simp only[Xv];rw[hg y (by simp) n hn];congr 1;congr 1;rw[Ve,Xt,Xt,Uh];constructor
   ·rintro⟨i,h1,h2⟩
    have:i=n:=(by omega);rw[<- this];exact h1
   ·exactλh1=>⟨n,h1,rfl⟩
  rw[e];congr 1;funext n;have:=acV hr ys (t++[n]) (λz hz=>hg z (by simp[hz]));rw[UA]at this;exact this
end Go.Gg.Tk
namespace Go.Gg.Tk
def ade{h:SD}{ns:SE}{nl:SD}{q:aD->Nat}(hl:nl.length=ns.length):∀(ss:SY)(u:Nat)(t:SE),(∀s∈ss,∀p,p<ns.length->(q s).testBit (ns.getD p 0)=fits h s (nl.getD p 0))->(∀n,u.testBit n=t.contains n)->mV ns.length ns (ss.map q) u t=ld h nl ss t
 |[],u,t,_,_=>rfl
 |s::ss,u,t,hq,hu=>by
  rw[VN,mV,ld,hl];have e1:((Tt ns.length).flatMap λp=>if(u.testBit p|| !(q s).testBit (ns.getD p 0))=true then[]else mV ns.length ns (ss.map q) (u|||2^p) (t++[p]))=((Tt ns.length).filter λp=> !(u.testBit p|| !(q s).testBit (ns.getD p 0))).flatMap λp=>mV ns.length ns (ss.map q) (u|||2^p) (t++[p]):=Ln _;rw[e1];have e2:((Tt ns.length).filter λp=> !(u.testBit p|| !(q s).testBit (ns.getD p 0)))=(Tt ns.length).filter λp=>fits h s (nl.getD p 0)&& !t.contains p:=by refine WB λp hp=> ?_;rw[UB]at hp;rw[hu,hq s (by simp) p hp];cases t.contains p<;>cases fits h s (nl.getD p 0)<;>rfl
  rw[e2];congr 1;funext p;refine ade hl ss _ _ (λz hz=>hq z (by simp[hz])) λi=> ?_;rw[YD,hu,Xc,Z1];simp[eq_comm]
def ac0{g:aD->Nat->Bool}{m:Nat}:∀{ys:SY}{t ns:SE},ns∈uF g m ys t->(∀n∈t,n<m)->ns.length=t.length+ys.length/\∀n∈ns,n<m
 |[],t,ns,h,ht=>by simp only[uF,Ub]at h;subst h;exact⟨by simp,ht⟩
 |y::ys,t,ns,h,ht=>by
  simp only[uF,T8,Vx,UB]at h;obtain⟨n,⟨hn,_⟩,h⟩:=h;obtain⟨h1,h2⟩:=ac0 h (λk hk=>by
   rcases T1.1 hk with h'|h';exact ht k h'
   ·rw[Ub.1 h'];exact hn)
  exact⟨by rw[h1];simp;omega,h2⟩
end Go.Gg.Tk
namespace Go.Gg.Tk
structure ye (x:aj)(h:SD):Prop where
 lo:2<=h.length
 hi:h.length<=4
 head:h.headD 0=x.first
 span:h.getLastD 0<=x.first+9
 pad:nc (cT h)
def adk{h:SD}(hl:2<=h.length):(cT h).getD 0 0=h.headD 0:=by
 match h,hl with
 |a::b::l,_=>rfl
def adl{h:SD}(hl:2<=h.length)(h4:h.length<=4):(cT h).getD 3 0=h.getLastD 0:=by
 match h,hl,h4 with
 |[a,b],_,_=>rfl
 |[a,b,c],_,_=>rfl
 |[a,b,c,d],_,_=>rfl
def aqB{h:SD}{n:Int}(hl:2<=h.length)(h4:h.length<=4):ff (cT h) n=ff h n:=by
 match h,hl,h4 with
 |[a,b],_,_=>exact PH (i:=0) (k:=2) (z:=b) (h:=[a,b]) (n:=n) rfl (by simp)
 |[a,b,c],_,_=>exact PH (i:=0) (k:=1) (z:=c) (h:=[a,b,c]) (n:=n) rfl (by simp)
 |[a,b,c,d],_,_=>exact PH (i:=0) (k:=0) (z:=d) (h:=[a,b,c,d]) (n:=n) rfl (by simp)
def pG (h:SD):Nat:=(h.getLastD 0-h.headD 0).toNat
def Kk{x:aj}{h:SD}(hh:ye x h)(y:aD){n:Nat}(hn:n<9):(cq (cT h) y).testBit n=(decide (n<pG h)&&fits h y (h.headD 0+(n:Int))):=by
 unfold cq;rw[Dd];unfold l7 fits;rw[adk hh.lo,adl hh.lo hh.hi,aqB hh.lo hh.hi];have e1:decide (n<9)=true:=decide_eq_true hn;have e2:decide (h.headD 0+(n:Int)<h.getLastD 0)=decide (n<pG h):=by unfold pG;rw[Ve];simp only[decide_eq_true_eq];omega
 rw[e1,e2,VO];by_cases hm:n<pG h
 ·have e3:0<=ff h (h.headD 0+(n:Int)):=by
   unfold pG at hm;refine PG (a:=h.headD 0) ?_ (by omega) (by omega);have:=hh.lo
   match h,this with
   |a::b::l,_=>rfl
  rw[decide_eq_true e3,decide_eq_true hm];simp
 ·rw[decide_eq_false hm];simp
def acU{x:aj}{h:SD}(hh:ye x h):kJ h x.pieces []=(gM x (cT h)).map λl=>l.map λi:Nat=>h.headD 0+(i:Int):=by
 have Hz:pG h<=9:=by unfold pG;have:=hh.span;have:=hh.head;omega
 have e1:gM x (cT h)=uF (λy n=>fits h y (h.headD 0+(n:Int))) (pG h) x.pieces []:=
  OG Hz x.pieces 0 [] (λy _ n hn=>Kk hh y hn) (by simp)
 rw[e1];exact acV (a:=h.headD 0) rfl x.pieces [] λy _ n _=>rfl
end Go.Gg.Tk
namespace Go.Gg.Tk
def ap0{x:aj}{h:SD}(hh:ye x h){ns:SE}(hn:ns∈gM x (cT h)):ns.length=x.pieces.length/\∀n∈ns,n<pG h:=by
 have Hz:pG h<=9:=by unfold pG;have:=hh.span;have:=hh.head;omega
 have e1:gM x (cT h)=uF (λy n=>fits h y (h.headD 0+(n:Int))) (pG h) x.pieces []:=
  OG Hz x.pieces 0 [] (λy _ n hn=>Kk hh y hn) (by simp)
 rw[e1]at hn;have:=ac0 hn (by simp);exact⟨by simpa using this.1,this.2⟩
def aqw{x:aj}{h:SD}(hh:ye x h){ns:SE}(hn:ns∈gM x (cT h)):iS x (cT h) ns=ld h (ns.map λi:Nat=>h.headD 0+(i:Int)) x.aq []:=by
 obtain⟨h1,h2⟩:=ap0 hh hn;have Hz:pG h<=9:=by unfold pG;have:=hh.span;have:=hh.head;omega
 unfold iS;rw[<- h1];refine ade (by simp) x.aq 0 [] (λs _ p hp=> ?_) (by simp);have qk:ns.getD p 0=ns[p]:=by rw[Tf,T4 hp];rfl
 have hlt:=h2 ns[p] (W_ hp);have hg2:(ns.map λi:Nat=>h.headD 0+(i:Int)).getD p 0=h.headD 0+(ns[p]:Int):=by rw[Tf,Ur,T4 hp];rfl
 rw[qk,hg2,Kk hh s (by omega),decide_eq_true hlt,VO]
def eZ (t:Tr):SD:=dM (cT t.bG) (t.aC.map λn=>(n-t.bG.headD 0).toNat) t.bL
def ae1{x:aj}{h:SD}(hh:ye x h){ns:SE}(hn:ns∈gM x (cT h)):(FK x h (ns.map λi:Nat=>h.headD 0+(i:Int))).map eZ=(iS x (cT h) ns).map (dM (cT h) ns):=by
 unfold FK;rw[Zb,aqw hh hn];refine WR λos _=> ?_;unfold eZ;simp only[Xv,Zb];congr 1
 conv=>rhs;rw[<- List.map_id ns]
 refine WR λn _=> ?_;simp only[Xv,id];omega
def Ds{α β:Type}{l:List α}{f g:α->List β}(h:∀a∈l,f a=g a):l.flatMap f=l.flatMap g:=by rw[X4,X4,WR h]
def aeH{α:Type}:∀ll:List (List α),(ll.map (·.take 1)).flatten.take 1=ll.flatten.take 1
 |[]=>rfl
 |[]::ll=>by simpa using aeH ll
 |(a::l)::ll=>by simp
def auE{x:aj}{h:SD}{deep:Int}(hh:ye x h):jN x deep (cT h)=(tn x deep h).map eZ:=by
 have e2:(nO x h).map eZ=((gM x (cT h)).map λns=>(iS x (cT h) ns).map λos=>dM (cT h) ns os).flatten:=by unfold nO;rw[acU hh,X0,WN,<- X4];exact Ds λns hn=>ae1 hh hn
 have e1:(wy x h).map eZ=(((gM x (cT h)).map λns=>(iS x (cT h) ns).map λos=>dM (cT h) ns os).map (·.take 1)).flatten:=by unfold wy;rw[acU hh,X0,WN,Zb,<- X4];refine Ds λns hn=> ?_;simp only[Xv];rw[Xg,ae1 hh hn]
 unfold jN tn;dsimp only;split;rw[Xg,e1,aeH];split;exact e1.symm;exact e2.symm
end Go.Gg.Tk
namespace Go.Gg.Tk
def Bv{x:aj}:∀(d:Nat)(pre h:SD),pre≠[]->h∈eG x d pre->h.length=pre.length+d/\h.headD 0=pre.headD 0
 |0,pre,h,_,hm=>by unfold eG at hm;split at hm;rw[Ub]at hm;subst hm;exact⟨rfl,rfl⟩;cases hm
 |d+1,pre,h,hp,hm=>by
  unfold eG at hm;split at hm
  ·obtain⟨n,_,hm⟩:=T8.1 hm;obtain⟨h1,h2⟩:=Bv d _ h (by simp) hm;refine⟨by rw[h1];simp;omega,h2.trans ?_⟩
   match pre,hp with
   |a::l,_=>rfl
  ·cases hm
def abc{x:aj}{t:Nat}(hx:x.Ok)(ht:t<x.am.toNat+1){h:SD}(hm:h∈xo x t):ye x h:=by
 have hh:=hx.hours;have HL:cT h∈kV x t:=by rw[abj hh.1 ht];exact Uh.2 ⟨h,hm,rfl⟩
 have h4:=aba hx HL;unfold xo at hm;split at hm
 ·obtain⟨h1,h2⟩:=Bv _ _ _ (by simp) hm;have py:2<=h.length:=by rw[h1];simp
  have Hq:h.length<=4:=by rw[h1];simp;omega
  have A':h.headD 0=x.first:=h2;refine⟨py,Hq,A',?_,h4⟩;have:=h4.span;rw[adk py,adl py Hq,A']at this;exact this
 ·cases hm
def afe{x:aj}{deep:Int}(hx:x.Ok):((Tt (x.am.toNat+1)).flatMap λt=>Jw x deep t)=(aQ x).flatMap (tn x deep):=by unfold Jw;rw[<- amI hx.hours.1,ac']
end Go.Gg.Tk
namespace Go.Gg.Tk
def agp{l:SE}{i v p n:Nat}(hi:i<l.length):((pZ l i v).getD p 0).testBit n=((l.getD p 0).testBit n||(decide (p=i)&&decide (n=v))):=by unfold pZ;rw[Tf,VZ];by_cases h:i=p;subst h;rw[if_pos rfl,if_pos hi,T_,YD,Xc];simp[eq_comm];(rw[if_neg h,<- Tf];have:¬p=i:=λe=>h e.symm;simp[this])
def tK (v:Nat->Nat):Nat->SE->SE
 |0,l=>l
 |k+1,l=>pZ (tK v k l) k (v k)
def acY(t:SD)(l:SE):∀k,s7 t k l=tK (mY t) k l
 |0=>rfl
 |k+1=>by rw[s7,tK,acY t l k]
def adm(t:SD)(l:SE):∀k,nL t k l=tK (tg t) k l
 |0=>rfl
 |k+1=>by rw[nL,tK,adm t l k]
def Qo(v:Nat->Nat)(l:SE):∀k,(tK v k l).length=l.length
 |0=>rfl
 |k+1=>by rw[tK,C8,Qo v l k]
def J7{v:Nat->Nat}{l:SE}{p n:Nat}:∀k,k<=l.length->((tK v k l).getD p 0).testBit n=((l.getD p 0).testBit n||(decide (p<k)&&decide (n=v p)))
 |0,_=>by simp[tK]
 |k+1,h=>by rw[tK,agp (by rw[Qo];omega),J7 k (by omega)];by_cases hp:p=k;subst hp;simp;have e:(p<k+1)<->p<k:=(by omega);simp[hp,e]
def ada{l m:SE}{p n:Nat}(h:l.length=m.length):((mq l m).getD p 0).testBit n=((l.getD p 0).testBit n||(m.getD p 0).testBit n):=by unfold mq;rw[Tf,List.getElem?_zipWith,Tf,Tf];by_cases hp:p<l.length;rw[T4 hp,T4 (by omega)];simp[YD];rw[VI (by omega),VI (by omega)];simp
def ads{hs:SS}{h g:SD}:g∈j3 hs h<->g∈hs\/g=h:=by unfold j3;split;rename_i hm;exact⟨.inl,λe=>e.elim id λe=>e▸hm⟩;rw[T1,Ub]
def aai{g:SD}:∀{l hs:SS},g∈l.foldl j3 hs<->g∈hs\/g∈l
 |[],hs=>by simp
 |a::l,hs=>by rw[Wd,aai,ads,Tm,or_assoc]
def ahE(Q:Kn)(t:SD):(j_ Q t).has=true:=by unfold j_;cases h:Q.has;rfl;rw[if_pos rfl];exact h
def aeJ(x:aj)(deep:Int)(Q:Kn)(t:SD):(eV x deep Q t).has=true:=by have:=ahE Q t;unfold eV;dsimp only;split;exact this;split<;>exact this
def aan{x:aj}{deep:Int}:∀(ts:SS)(Q:Kn),(ts.foldl (eV x deep) Q).has=(Q.has|| !ts.isEmpty)
 |[],Q=>by simp
 |t::ts,Q=>by rw[Wd,aan ts,aeJ];simp
def an9{F G:Kn}{hs:SS}:(iE F hs G).has=(F.has||G.has):=by unfold iE;cases h:G.has;simp;simp
end Go.Gg.Tk
namespace Go.Gg.Tk
def at6{x:aj}{Q:Kn}{t g:SD}:g∈(eV x 0 Q t).aQ<->g∈Q.aQ\/g=t.take 4:=by
 have hB:(j_ Q t).aQ=Q.aQ:=by unfold j_;split<;>rfl
 unfold eV;dsimp only;rw[if_neg (by decide),if_pos rfl,ads,hB]
def aak{x:aj}{g:SD}:∀(ts:SS)(Q:Kn),g∈(ts.foldl (eV x 0) Q).aQ<->g∈Q.aQ\/∃t∈ts,g=t.take 4
 |[],Q=>by simp
 |t::ts,Q=>by
  rw[Wd,aak ts,at6];constructor
  ·rintro((h|h)|⟨u,h1,h2⟩)
   ·exact .inl h
   ·exact .inr ⟨t,by simp,h⟩
   ·exact .inr ⟨u,by simp[h1],h2⟩
  ·rintro(h|⟨u,h1,h2⟩)
   ·exact .inl (.inl h)
   ·rcases Tm.1 h1 with rfl|h1;exact .inl (.inr h2);exact .inr ⟨u,h1,h2⟩
def fz (x:aj)(deep:Int)(j:Nat):List (SD):=(kV x j).flatMap (jN x deep)
def Jv(x:aj)(deep:Int)(j:Nat):iz x deep j=(fz x deep j).foldl (eV x deep) Kn.zero:=rfl
def FN(x:aj)(deep:Int)(j:Nat):(iz x deep j).has= !(fz x deep j).isEmpty:=by rw[Jv,aan];rfl
def au1{x:aj}{j:Nat}{g:SD}:g∈(iz x 0 j).aQ<->∃t∈fz x 0 j,g=t.take 4:=by rw[Jv,aak];simp[Kn.zero]
def ab8{x:aj}{deep:Int}{js:SE}{D:Kn}(h:oU x deep js D):D.has=js.any λj=> !(fz x deep j).isEmpty:=by
 induction h with
 |nil=>rfl
 |snoc h hp ih=>rw[an9,ih,FN,Zd];simp
def aoa{x:aj}{js:SE}{D:Kn}{g:SD}(h:oU x 0 js D):g∈D.aQ<->∃j∈js,∃t∈fz x 0 j,g=t.take 4:=by
 induction h with
 |nil=>simp[Kn.zero]
 |@snoc js F j hs h hp ih=>
  have key:g∈(iE F hs (iz x 0 j)).aQ<->g∈F.aQ\/∃t∈fz x 0 j,g=t.take 4:=by unfold iE;split;show g∈hs.foldl j3 F.aQ<->_;rw[aai,hp.mem_iff,au1];rename_i hn;rw[FN]at hn;have:fz x 0 j=[]:=(by simpa using hn);rw[this];simp
  rw[key,ih];constructor
  ·rintro(⟨i,h1,h2⟩|h2)
   ·exact⟨i,by simp[h1],h2⟩
   ·exact⟨j,by simp,h2⟩
  ·rintro⟨i,h1,h2⟩
   rcases T1.1 h1 with h1|h1;exact .inl ⟨i,h1,h2⟩;rw[Ub.1 h1]at h2;exact .inr h2
def aaj:∀{l hs:SS},hs.Nodup->(l.foldl j3 hs).Nodup
 |[],hs,h=>h
 |a::l,hs,h=>by rw[Wd];exact aaj (adt h)
def aoc{x:aj}{deep:Int}{js:SE}{D:Kn}(h:oU x deep js D):D.aQ.Nodup:=by
 induction h with
 |nil=>exact XU
 |snoc h hp ih=>unfold iE;split;exact aaj ih;exact ih
end Go.Gg.Tk
namespace Go.Gg.Tk
def GX{x:aj}{deep:Int}{t:Nat}(hx:x.Ok)(ht:t<x.am.toNat+1):fz x deep t=(Jw x deep t).map eZ:=by unfold fz Jw;rw[abj hx.hours.1 ht,X0,WN];exact Ds λh hm=>auE (abc hx ht hm)
def p7 (x:aj)(deep:Int):List Tr:=(aQ x).flatMap (tn x deep)
def BT{x:aj}{deep:Int}{js:SE}{p:Nat}(hx:x.Ok)(hp:x.am=p)(iX:js.Perm (Tt (p+1))){t:SD}:(∃j∈js,t∈fz x deep j)<->∃u∈p7 x deep,t=eZ u:=by
 have oD:x.am.toNat=p:=by omega
 unfold p7;rw[<- afe hx,oD];constructor
 ·rintro⟨j,h1,h2⟩
  have hj:=iX.mem_iff.1 h1;rw[GX hx (by rw[oD];simpa using hj)]at h2;obtain⟨u,h3,rfl⟩:=Uh.1 h2;exact⟨u,T8.2 ⟨j,hj,h3⟩,rfl⟩
 ·rintro⟨u,h1,rfl⟩
  obtain⟨j,hj,h3⟩:=T8.1 h1;refine⟨j,iX.mem_iff.2 hj,?_⟩;rw[GX hx (by rw[oD];simpa using hj)];exact Uh.2 ⟨u,h3,rfl⟩
def FJ{x:aj}{deep:Int}{h:SD}{u:Tr}(hu:u∈tn x deep h):u∈nO x h:=by
 have h1:∀u,u∈wy x h->u∈nO x h:=λu hu=>by unfold wy at hu;obtain⟨ns,h1,h2⟩:=T8.1 hu;exact T8.2 ⟨ns,h1,YN h2⟩
 unfold tn at hu;split at hu;exact h1 u (YN hu);split at hu;exact h1 u hu;exact hu
def Ah{x:aj}{h:SD}{u:Tr}(hu:u∈nO x h):u.bG=h:=by obtain⟨ns,_,h2⟩:=T8.1 hu;obtain⟨os,_,rfl⟩:=Uh.1 h2;rfl
def aaf{α β:Type}{f:α->List β}:∀{l:List α},(l.flatMap λa=>(f a).take 1)=[]<->l.flatMap f=[]
 |[]=>by simp
 |a::l=>by rw[UT,UT,ZM,ZM,aaf,Z0];simp
def ae0{x:aj}{deep:Int}{h:SD}:tn x deep h=[]<->nO x h=[]:=by have h1:wy x h=[]<->nO x h=[]:=aaf;unfold tn;split;rw[Z0,h1];simp;split;exact h1;exact Iff.rfl
def agx{x:aj}{deep:Int}:p7 x deep=[]<->cR x=[]:=by unfold p7 cR;rw[X2,X2];exact forall_congr' λh=>forall_congr' λ_=>ae0
def agz{x:aj}{deep:Int}{js:SE}:(js.any λj=> !(fz x deep j).isEmpty)=true<->∃t,∃j∈js,t∈fz x deep j:=by
 rw[VP];constructor
 ·rintro⟨j,h1,h2⟩
  cases hg:fz x deep j with
  |nil=>rw[hg]at h2;cases h2
  |cons t l=>exact⟨t,j,h1,by rw[hg];simp⟩
 ·rintro⟨t,j,h1,h2⟩
  refine⟨j,h1,?_⟩;cases hg:fz x deep j with
  |nil=>rw[hg]at h2;cases h2
  |cons=>rfl
end Go.Gg.Tk
namespace Go.Gg
open Go.Gg.Tk
def Ik{x:aj}{deep:Int}{D:Kn}(hx:x.Ok)(h:gN x deep D):D.has= !(cR x).isEmpty:=by
 obtain⟨p,js,h1,h2,h3,_⟩:=h;rw[ab8 h3,Ve,agz];have key:(∃t,∃j∈js,t∈fz x deep j)<->p7 x deep≠[]:=by
  constructor
  ·rintro⟨t,h⟩ he
   obtain⟨u,hu,_⟩:=(BT hx h1 h2).1 h;rw[he]at hu;cases hu
  ·intro aN;obtain⟨u,hu⟩:=Zr _ aN;exact⟨eZ u,(BT hx h1 h2).2 ⟨u,hu,rfl⟩⟩
 rw[key,ne_eq,agx];cases cR x<;>simp
def aol{x:aj}{D:Kn}(hx:x.Ok)(h:gN x 0 D){g:SD}:g∈D.aQ<->∃u∈cR x,g=(eZ u).take 4:=by
 obtain⟨p,js,h1,h2,h3,_⟩:=h;rw[aoa h3];have e:(∃j∈js,∃t∈fz x 0 j,g=t.take 4)<->∃t,(∃j∈js,t∈fz x 0 j)/\g=t.take 4:=by constructor;rintro⟨j,a,t,b,c⟩;exact⟨t,⟨j,a,b⟩,c⟩;rintro⟨t,⟨j,a,b⟩,c⟩;exact⟨j,a,t,b,c⟩
 rw[e];have aI:∀u:Tr,u∈cR x->(eZ u).take 4=cT u.bG:=λu hu=>by
  obtain⟨h,hm,ml⟩:=T8.1 hu;have hl:h.length=1+x.hours.toNat:=(Bv _ _ _ (by simp) hm).1;have hh:=hx.hours;have h4:(cT u.bG).length=4:=by rw[Ah ml];simp[cT];omega
  unfold eZ dM;rw[Ev,UD (by omega),Tu (by omega)]
 have mj:∀u,u∈p7 x 0->u∈cR x:=λu hu=>by obtain⟨h,a,b⟩:=T8.1 hu;exact T8.2 ⟨h,a,FJ b⟩
 constructor
 ·rintro⟨t,a,rfl⟩
  obtain⟨u,hu,rfl⟩:=(BT hx h1 h2).1 a;exact⟨u,mj u hu,rfl⟩
 ·rintro⟨u,hu,rfl⟩
  obtain⟨h,hm,ml⟩:=T8.1 hu;have aN:tn x 0 h≠[]:=λe=>by rw[ae0]at e;rw[e]at ml;cases ml
  obtain⟨v,hv⟩:=Zr _ aN;have uw:v∈p7 x 0:=T8.2 ⟨h,hm,hv⟩;refine⟨eZ v,(BT hx h1 h2).2 ⟨v,uw,rfl⟩,?_⟩;rw[aI u hu,aI v (mj v uw),Ah ml,Ah (FJ hv)]
end Go.Gg
namespace Go.Gg.Tk
def QW(Q:Kn)(t:SD):(j_ Q t).aC=Q.aC/\(j_ Q t).hours=Q.hours/\(j_ Q t).less=Q.less/\(j_ Q t).bc=Q.bc:=by unfold j_;split<;>exact⟨rfl,rfl,rfl,rfl⟩
def at7{x:aj}{Q:Kn}{t:SD}{p n:Nat}(hx:x.Ok)(hQ:bW Q)(hp:p<x.pieces.length):((eV x 1 Q t).aC.getD p 0).testBit n=((Q.aC.getD p 0).testBit n||decide (n=mY t p)):=by
 have h:(eV x 1 Q t).aC=s7 t x.pieces.length Q.aC:=by rw[<- (QW Q t).1];rfl
 rw[h,acY,J7 _ (by rw[hQ.aC];exact hx.ey),decide_eq_true hp,VO]
def aua{x:aj}{Q:Kn}{t:SD}{s n:Nat}(hx:x.Ok)(hQ:bW Q)(hs:s<x.aq.length):((eV x 2 Q t).bc.getD s 0).testBit n=((Q.bc.getD s 0).testBit n||decide (n=tg t s)):=by
 have h:(eV x 2 Q t).bc=nL t x.aq.length Q.bc:=by rw[<- (QW Q t).2.2.2];rfl
 rw[h,adm,J7 _ (by rw[hQ.bc];exact hx.di),decide_eq_true hs,VO]
def aal{x:aj}{deep:Int}(hx:x.Ok){f:Kn->Bool}{g:SD->Bool}(h:∀Q t,bW Q->jQ x t->f (eV x deep Q t)=(f Q||g t)):∀(ts:SS)(Q:Kn),bW Q->(∀t∈ts,jQ x t)->f (ts.foldl (eV x deep) Q)=(f Q||ts.any g)
 |[],Q,_,_=>by simp
 |t::ts,Q,hQ,ht=>by rw[Wd,aal hx h ts _ (PD hx (ht t (by simp)) hQ) (λu hu=>ht u (by simp[hu])),h Q t hQ (ht t (by simp)),Z3,Bool.or_assoc]
def aaA{x:aj}{deep:Int}{j:Nat}(hx:x.Ok)(hj:j<=3){t:SD}(ht:t∈fz x deep j):jQ x t:=by obtain⟨h,h1,h2⟩:=T8.1 ht;obtain⟨ns,h3,h4⟩:=PK h2;exact((FI hx) j hj h h1).2 ns h3 t h4
def aob{x:aj}{deep:Int}(hx:x.Ok){f:Kn->Bool}{g:SD->Bool}(h0:f Kn.zero=false)(h:∀Q t,bW Q->jQ x t->f (eV x deep Q t)=(f Q||g t))(hj:∀F G hs,bW F->bW G->G.has=true->f (iE F hs G)=(f F||f G)){js:SE}{D:Kn}(iX:∀j∈js,j<=3)(hD:oU x deep js D):bW D/\f D=js.any λj=>(fz x deep j).any g:=by
 induction hD with
 |nil=>exact⟨EP,by simpa using h0⟩
 |@snoc js F j hs hJ hp ih=>
  obtain⟨nI,lQ⟩:=ih λi hi=>iX i (by simp[hi]);have hj3:j<=3:=iX j (by simp);have an:bW (iz x deep j):=PR hx ((FI hx) j hj3);refine⟨ab5 nI an hp,?_⟩;have hw:f (iz x deep j)=(fz x deep j).any g:=by rw[Jv,aal hx h _ _ EP (λt ht=>aaA hx hj3 ht),h0,ar_]
  rw[Zd,<- lQ];simp only[Z3,List.any_nil,axm];cases hG:(iz x deep j).has with
  |true=>rw[hj F _ hs nI an hG,hw]
  |false=>
   have hn:fz x deep j=[]:=by rw[FN]at hG;simpa using hG
   rw[hn];unfold iE;rw[hG];simp
end Go.Gg.Tk
namespace Go.Gg
open Go.Gg.Tk
def acd{x:aj}{deep:Int}(hx:x.Ok){f:Kn->Bool}{g:SD->Bool}(h0:f Kn.zero=false)(h:∀Q t,bW Q->jQ x t->f (eV x deep Q t)=(f Q||g t))(hj:∀F G hs,bW F->bW G->G.has=true->f (iE F hs G)=(f F||f G)){D:Kn}(hD:gN x deep D):f D=true<->∃u∈p7 x deep,g (eZ u)=true:=by
 obtain⟨p,js,h1,h2,h3,_⟩:=hD;have hp:=hx.am;have iX:∀j∈js,j<=3:=λj hm=>by have:=h2.mem_iff.1 hm;rw[UB]at this;omega
 rw[(aob hx h0 h hj iX h3).2,VP];constructor
 ·rintro⟨j,a,b⟩
  obtain⟨t,c,d⟩:=VP.1 b;obtain⟨u,hu,rfl⟩:=(BT hx h1 h2).1 ⟨j,a,c⟩;exact⟨u,hu,d⟩
 ·rintro⟨u,hu,d⟩
  obtain⟨j,a,c⟩:=(BT hx h1 h2).2 ⟨u,hu,rfl⟩;exact⟨j,a,VP.2 ⟨_,c,d⟩⟩
def aon{x:aj}{D:Kn}{s n:Nat}(hx:x.Ok)(hD:gN x 2 D)(hs:s<x.aq.length):(D.bc.getD s 0).testBit n=true<->∃u∈cR x,tg (eZ u) s=n:=by
 have aU:=hx.di;have e:p7 x 2=cR x:=rfl;rw[<- e,acd (f:=λK=>(K.bc.getD s 0).testBit n) (g:=λt=>decide (n=tg t s)) hx ?_ (λQ t hQ _=>aua hx hQ hs) (λF G qx hF hG hh=> ?_) hD];(exact exists_congr λu=>and_congr_right λ_=>by rw[decide_eq_true_eq];exact eq_comm)
 ·have:([0,0,0]:SE).getD s 0=0:=by
   match s,(show s<3 by omega)with
   |0,_=>rfl
   |1,_=>rfl
   |2,_=>rfl
  show (([0,0,0]:SE).getD s 0).testBit n=false;rw[this];exact ar' n
 ·have e2:(iE F qx G).bc=mq F.bc G.bc:=by unfold iE;rw[if_pos hh]
  rw[e2];exact ada (by rw[hF.bc,hG.bc])
def agv{x:aj}{P:SD->SD->Prop}:(∃u∈p7 x 1,P u.bG u.aC)<->∃u∈cR x,P u.bG u.aC:=by
 constructor
 ·rintro⟨u,hu,hp⟩
  obtain⟨h,a,b⟩:=T8.1 hu;exact⟨u,T8.2 ⟨h,a,FJ b⟩,hp⟩
 ·rintro⟨u,hu,hp⟩
  obtain⟨h,a,b⟩:=T8.1 hu;obtain⟨ns,c,d⟩:=T8.1 b;obtain⟨os,c2,rfl⟩:=Uh.1 d;cases ho:ld h ns x.aq []with
  |nil=>rw[ho]at c2;cases c2
  |cons o os'=>refine⟨⟨h,ns,o⟩,T8.2 ⟨h,a,?_⟩,hp⟩;show _∈wy x h;refine T8.2 ⟨ns,c,?_⟩;unfold FK;rw[ho];simp
def acX{h:SD}:∀{ys:SY}{t ns:SD},ns∈kJ h ys t->ns.length=t.length+ys.length
 |[],t,ns,hm=>by simp only[kJ,Ub]at hm;subst hm;rfl
 |y::ys,t,ns,hm=>by simp only[kJ,T8]at hm;obtain⟨n,_,hm⟩:=hm;have:=acX hm;simp at this⊢;omega
def x6{x:aj}(hx:x.Ok){u:Tr}(hu:u∈cR x):u.bG.length=1+x.hours.toNat/\u.aC.length=x.pieces.length:=by obtain⟨h,a,b⟩:=T8.1 hu;obtain⟨ns,c,d⟩:=T8.1 b;obtain⟨os,_,rfl⟩:=Uh.1 d;exact⟨(Bv _ _ _ (by simp) a).1,by simpa using acX c⟩
def zW{h:SD}(h4:h.length<=4):(cT h).length=4:=by simp[cT];omega
def ai7{x:aj}(hx:x.Ok){u:Tr}(hu:u∈cR x){p:Nat}(hp:p<x.pieces.length):mY (eZ u) p=(u.aC.getD p 0-u.bG.headD 0).toNat:=by
 obtain⟨h1,h2⟩:=x6 hx hu;have hh:=hx.hours;have h4:=zW (h:=u.bG) (by omega);have cJ:p<u.aC.length:=by omega
 have hg:(eZ u)[4+p]?=some (((u.aC[p]-u.bG.headD 0).toNat:Nat):Int):=by unfold eZ dM lU;rw[Ev,Uc (by omega),h4,UU,T6 (by simp;omega),T6 (by simpa using cJ),Ur,Ur,T4 cJ];rfl
 unfold mY;rw[Tf,hg,Tf,T4 cJ];rfl
def avn{p:Nat}(hp:p<4):([0,0,0,0]:SE).getD p 0=0:=by
 match p,hp with
 |0,_=>rfl
 |1,_=>rfl
 |2,_=>rfl
 |3,_=>rfl
def aom{x:aj}{D:Kn}{p n:Nat}(hx:x.Ok)(hD:gN x 1 D)(hp:p<x.pieces.length):(D.aC.getD p 0).testBit n=true<->∃u∈cR x,(u.aC.getD p 0-u.bG.headD 0).toNat=n:=by
 have pA:=hx.ey;rw[acd (f:=λK=>(K.aC.getD p 0).testBit n) (g:=λt=>decide (n=mY t p)) hx ?_ (λQ t hQ _=>at7 hx hQ hp) (λF G qx hF hG hh=> ?_) hD];(rw[<- agv (P:=λh ns=>(ns.getD p 0-h.headD 0).toNat=n)];refine exists_congr λu=>and_congr_right λhu=> ?_;obtain⟨h,a,b⟩:=T8.1 hu;have hu2:u∈cR x:=T8.2 ⟨h,a,FJ b⟩;rw[decide_eq_true_eq,ai7 hx hu2 hp];exact eq_comm);show (([0,0,0,0]:SE).getD p 0).testBit n=false;rw[avn (by omega)];exact ar' n
 ·have e2:(iE F qx G).aC=mq F.aC G.aC:=by unfold iE;rw[if_pos hh]
  rw[e2];exact ada (by rw[hF.aC,hG.aC])
def acW{h:SD}:∀{ys:SY}{t ns:SD},ns∈kJ h ys t->(∀n∈t,h.headD 0<=n)->∀n∈ns,h.headD 0<=n
 |[],t,ns,hm,ht=>by simp only[kJ,Ub]at hm;subst hm;exact ht
 |y::ys,t,ns,hm,ht=>by
  simp only[kJ,T8,Vx]at hm;obtain⟨n,⟨hn,_⟩,hm⟩:=hm;refine acW hm λk hk=> ?_;rcases T1.1 hk with h'|h'
  ·exact ht k h'
  ·rw[Ub.1 h'];obtain⟨i,_,rfl⟩:=Uh.1 hn;omega
def auG{x:aj}{u:Tr}(hu:u∈cR x):∀n∈u.aC,u.bG.headD 0<=n:=by obtain⟨h,a,b⟩:=T8.1 hu;obtain⟨ns,c,d⟩:=T8.1 b;obtain⟨os,_,rfl⟩:=Uh.1 d;exact acW c (by simp)
def ai6{x:aj}(hx:x.Ok){u:Tr}(hu:u∈cR x){p:Nat}(hp:p<x.pieces.length):(eZ u).getD (4+p) 0=u.aC.getD p 0-u.bG.headD 0:=by
 obtain⟨h1,h2⟩:=x6 hx hu;have hh:=hx.hours;have h4:=zW (h:=u.bG) (by omega);have cJ:p<u.aC.length:=by omega
 have vF:=auG hu u.aC[p] (W_ cJ);have hg:(eZ u)[4+p]?=some (((u.aC[p]-u.bG.headD 0).toNat:Nat):Int):=by unfold eZ dM lU;rw[Ev,Uc (by omega),h4,UU,T6 (by simp;omega),T6 (by simpa using cJ),Ur,Ur,T4 cJ];rfl
 rw[Tf,hg,Tf,T4 cJ];simp only[T_];omega
namespace Tk
structure P8 (x:aj)(u:Tr):Prop where
 bG:oT x.first x.am u.bG x.hours.toNat
 seen:∀s∈x.seen,ec s.next (u.bG.getD s.hour.toNat 0)=true
 zS:u.aC.length=x.pieces.length
 piece:∀(p:Nat) y,x.pieces[p]?=some y->fits u.bG y (u.aC.getD p 0)=true
 OF:u.aC.Nodup
 B7:u.bL.length=x.aq.length
 own:∀v∈u.bL,v<x.pieces.length
 stub:∀(s:Nat) y,x.aq[s]?=some y->fits u.bG y (u.aC.getD (u.bL.getD s 0) 0)=true
 ON:u.bL.Nodup
def _root_.Go.Gg.oT.mono{first am:Int}{l:SD}{i:Nat}(h:oT first am l i):tF l:=apJ λj hj=>(h.step j (by have:=h.len;omega)).1
def abh{x:aj}(hx:x.Ok){h:SD}:h∈aQ x<->oT x.first x.am h x.hours.toNat/\∀s∈x.seen,ec s.next (h.getD s.hour.toNat 0)=true:=by
 have hp:=hx.am;unfold aQ;rw[MP _ _ _ (by simp)];simp only[Uw];constructor
 ·rintro⟨h1,h2,h3⟩
  have h4:=(Ji (pre:=[]) (v:=x.first)).1 h2;refine⟨⟨by omega,h4.2.2,λj hj=> ?_⟩,λs hs=> ?_⟩;obtain⟨n,hn,e⟩:=(h3 j (by omega) (by omega)).2 (by omega);omega;(have hsr:=(hx.seen s hs).1;have:=(h3 s.hour.toNat (by omega) (by omega)).1;unfold qK at this;have:=Uq.1 this s hs;have e:s.hour=(s.hour.toNat:Int):=(by omega);rw[<- e]at this;simpa using this)
 ·rintro⟨h1,h2⟩
  have hl:=h1.len;refine⟨by omega,(Ji (pre:=[]) (v:=x.first)).2 ⟨rfl,by simp;omega,h1.head⟩,λj _ hj=>⟨?_,λHx=> ?_⟩⟩;unfold qK;rw[Uq];intro s hs;by_cases e:s.hour=(j:Int);have:=h2 s hs;rw[show s.hour.toNat=j by omega]at this;rw[this];simp;simp[e];have:=h1.step j (by omega);exact⟨(h.getD (j+1) 0-h.getD j 0).toNat,by omega,by omega⟩
def auI{x:aj}{u:Tr}:u∈cR x<->u.bG∈aQ x/\u.aC∈kJ u.bG x.pieces []/\u.bL∈ld u.bG u.aC x.aq []:=by
 constructor;intro hu;obtain⟨h,a,b⟩:=T8.1 hu;obtain⟨ns,c,d⟩:=T8.1 b;obtain⟨os,e,rfl⟩:=Uh.1 d;exact⟨a,c,e⟩
 ·rintro⟨a,b,c⟩
  exact T8.2 ⟨u.bG,a,T8.2 ⟨u.aC,b,Uh.2 ⟨u.bL,c,rfl⟩⟩⟩
def alC{l:SE}{i:Nat}(h:i<l.length):l.getD i 0∈l:=by rw[Tf,T4 h];exact W_ h
def apB{x:aj}(hx:x.Ok){u:Tr}:u∈cR x<->P8 x u:=by
 rw[auI,abh hx];constructor
 ·rintro⟨⟨h1,h2⟩,h3,h4⟩
  have hm:=h1.mono;rw[II hm]at h3;rw[IU]at h4;simp only[Vz,WK]at h3 h4;obtain⟨a1,_,a3⟩:=h3;obtain⟨b1,_,b3⟩:=h4;refine⟨h1,h2,a1,λp y hy=>(a3 p y hy).1,acP (d:=0) λi hi=> ?_,b1,λv hv=> ?_,λs y hy=>(b3 s y hy).1,acP (d:=0) λi hi=> ?_⟩;obtain⟨y,hy⟩:∃y,x.pieces[i]?=some y:=⟨_,T4 (by omega)⟩;exact(a3 i y hy).2;obtain⟨i,hi⟩:=Wl hv;have bh:=(Tn.1 hi).1;obtain⟨y,hy⟩:∃y,x.aq[i]?=some y:=⟨_,T4 (by omega)⟩;have:=(b3 i y hy).2.1;rw[Tf,hi]at this;rw[<- a1];exact this;obtain⟨y,hy⟩:∃y,x.aq[i]?=some y:=⟨_,T4 (by omega)⟩;exact(b3 i y hy).2.2
 ·intro h;refine⟨⟨h.bG,h.seen⟩,?_,?_⟩;rw[II h.bG.mono];simp only[Vz,WK];refine⟨h.zS,rfl,λi y hy=>⟨h.piece i y hy,aaw ?_ h.OF⟩⟩;have:=(Tn.1 hy).1;rw[h.zS];exact this;rw[IU];simp only[Vz,WK];refine⟨h.B7,rfl,λi y hy=> ?_⟩;have hi:=(Tn.1 hy).1;have sG:i<u.bL.length:=(by rw[h.B7];exact hi);exact⟨h.stub i y hy,by rw[h.zS];exact h.own _ (alC sG),aaw sG h.ON⟩
end Tk
open Go.Conc
section
variable {lv:Bool}{P:Tl}{r:SL}{s:AS}
def Kc{nt:Nat}{x y:U5}{α:Type}{Φ Ψ:SI}(inv:α->AS)(ok:α->Prop)(h1:aW lv P r nt x s (ap.then (λs'=>∃a,ok a/\s'.Sub (inv a)) Ψ))(h2:∀a,ok a->aW lv P r nt y (inv a) Φ):aW lv P r nt x s (ap.then (λs'=>aW lv P r nt y s' Φ) Ψ):=
 h1.mono λe s' h=>by
  cases e with
  |normal=>obtain⟨a,h3,h4⟩:=h;exact nk h4 (h2 a h3)
  |_=>exact h
end
open Go.Proofs Go.Gg.Tk
def P5:gF (S_ .i64 0) 3=[iv 0,iv 0,iv 0]:=rfl
def zE4:gF (S_ .i64 0) 4=[iv 0,iv 0,iv 0,iv 0]:=rfl
def ya:gF (Uy #[S_ .i64 0,S_ .i64 0,S_ .i64 0,S_ .i64 0]) 4=[iv 0,iv 0,iv 0,iv 0]:=rfl
def zS1:gF (Uy #[S_ .i64 0,S_ .i64 0,S_ .i64 0]) 3=[iv 0,iv 0,iv 0]:=rfl
def Fp:(3<=2^24)=True:=eq_true (by decide)
def uJ:(4<=2^24)=True:=eq_true (by decide)
def B8:(1<=2^24)=True:=eq_true (by decide)
def ae8{first am w v:Int}{i:Nat}(h1:first<=w/\w<=first+am* i)(h2:0<=v/\v<=am)(hf:0<=first/\first<=90)(hp:1<=am/\am<=3)(hi:i<=3):0<=w+v/\w+v<=1000:=by have:am* (i:Int)<=3* 3:=axt (by omega) (by omega) (by omega) (by omega);generalize am* (i:Int)=q at h1 this;omega
def NM{n:Int}(h:0<=n/\n<=1000):Tg.wrap n=n:=bt _ (by omega)
def PI(h:SD)(n:Int):∀m:Nat, -1<=mw h n m/\mw h n m<m
 |0=>by simp[mw]
 |m+1=>by have:=PI h n m;unfold mw;split;omega;omega
def Lq:∀l:SY,(l.flatMap aD.l).length=l.length* 4
 |[]=>rfl
 |a::l=>by rw[UT,Tp,Lq l,aD.len,U4];omega
def aad:∀l:List Seen,(l.flatMap Seen.l).length=l.length* 3
 |[]=>rfl
 |a::l=>by rw[UT,Tp,aad l,Seen.len,U4];omega
def Lr{α:Type}{f:α->SC}{l:List α}{a:α}:(l++[a]).flatMap f=l.flatMap f++f a:=by rw[VX];simp
def apx{α:Type}{f:Nat->α}{l:List α}{n:Nat}(hl:l.length=n)(h:∀i,i<n->l[i]?=some (f i)):(Tt n).map f=l:=by
 refine Yd λi=> ?_;rw[Ur];by_cases hi:i<n
 ·rw[awZ hi,VT,h i hi]
 ·rw[VI (by simp;omega),VI (by omega)];rfl
def Qb (a b:Nat):Prop:=(if(a:Int)<(b:Int)then(a:Int)else(b:Int))=((min b a:Nat):Int)
def acG(a b:Nat):Qb a b:=by unfold Qb;split<;>omega
structure Made (pm:Nat)(x:aj)(bG aC bL:SD):Prop where
 first:0<=x.first/\x.first<=90
 hours:1<=x.hours/\x.hours<=3
 am:1<=x.am/\x.am<=3
 Hv:oT x.first x.am bG x.hours.toNat
 apK:x.pieces.length<=pm
 zS:aC.length=x.pieces.length
 num:∀n∈aC,x.first<=n/\n<bG.getD x.hours.toNat 0
 OF:aC.Nodup
 piece:∀(p:Nat) y,x.pieces[p]?=some y->∃τ,y=l_ τ bG (aC.getD p 0) x.hours
 B7:bL.length=x.aq.length
 aq:x.aq.length<=3
 own:∀v∈bL,0<=v/\v<(aC.length:Int)
 ON:bL.Nodup
 stub:∀(s:Nat) y,x.aq[s]?=some y->∃τ,y=l_ τ bG (aC.getD (bL.getD s 0).toNat 0) x.hours
 qL:x.seen.length<=2
 seen:∀s∈x.seen,0<=s.hour/\s.hour<=x.hours/\∃τ,s.next=nZ τ (bG.getD s.hour.toNat 0) 1 0 99
structure YOk (Gf:bp->SA)(N:Nat)(zc:aa)(YY:SC->Nat->Nat->Nat->Nat->Nat->SA):Prop where
 len:∀r a b c d e,(YY r a b c d e).length=8
 y0:∀τ r a b c d e,(Gf τ++YY r a b c d e)[N]?=some zc
 y1:∀τ r a b c d e,(Gf τ++YY r a b c d e)[N+1]?=some (.cells r 25)
 y3:∀τ r a b c d e,(Gf τ++YY r a b c d e)[N+3]?=some (.tail a 4 68)
 y4:∀τ r a b c d e,(Gf τ++YY r a b c d e)[N+4]?=some (.tail b 4 68)
 y5:∀τ r a b c d e,(Gf τ++YY r a b c d e)[N+5]?=some (.tail c 3 29)
 y6:∀τ r a b c d e,(Gf τ++YY r a b c d e)[N+6]?=some (.tail d 1 3)
 y7:∀τ r a b c d e,(Gf τ++YY r a b c d e)[N+7]?=some (.tail e 1 3)
 z1:∀τ r r' a b c d e,(Gf τ++YY r a b c d e).set (N+1) (.cells r' 25)=Gf τ++YY r' a b c d e
 z3:∀τ r a a' b c d e,(Gf τ++YY r a b c d e).set (N+3) (.tail a' 4 68)=Gf τ++YY r a' b c d e
 z4:∀τ r a b b' c d e,(Gf τ++YY r a b c d e).set (N+4) (.tail b' 4 68)=Gf τ++YY r a b' c d e
 z5:∀τ r a b c c' d e,(Gf τ++YY r a b c d e).set (N+5) (.tail c' 3 29)=Gf τ++YY r a b c' d e
 z6:∀τ r a b c d d' e,(Gf τ++YY r a b c d e).set (N+6) (.tail d' 1 3)=Gf τ++YY r a b c d' e
 s0:∀r a b c d e y,∃L,(YY r a b c d e).set 0 y=y::L
 z7:∀τ r a b c d e e',(Gf τ++YY r a b c d e).set (N+7) (.tail e' 1 3)=Gf τ++YY r a b c d e'
noncomputable def o0:U5:=Yu.body.getD .skip
def lr:Nat->U5->U5
 |0,c=>c
 |n+1,c=>lr n (cs c)
def ach{first am:Int}{l:SD}{i:Nat}(h:oT first am l i):l.getLastD 0=l.getD i 0:=by have hl:=h.len;rw[Wc,XV,Tf,hl];rfl
def Mq{first am:Int}{l:SD}{i:Nat}(h:oT first am l i):l.headD 0=first:=by
 have hl:=h.len;have:=h.head;cases l with
 |nil=>cases hl
 |cons a l=>exact this
def oT.top{first am:Int}{l:SD}{i:Nat}(h:oT first am l i)(hf:0<=first/\first<=90)(hp:1<=am/\am<=3)(hi:i<=3):∀j,j<=i->first<=l.getD j 0/\l.getD j 0<=first+9:=λj hj=>by have h1:=h.ge (by omega) j hj;have:am* (j:Int)<=3* 3:=axt (by omega) (by omega) (by omega) (by omega);generalize am* (j:Int)=q at h1 this;omega
def L7{first am:Int}{l:SD}{i:Nat}(h:oT first am l i)(hi:1<=i/\i<=3)(hf:0<=first/\first<=90)(hp:1<=am/\am<=3){n:Int}(hn:first<=n/\n<l.getD i 0)(τ:bp):F4 l i n (l_ τ l n i):=by
 have hl:=h.len;have hm:=h.mono;have ht:=h.top hf hp hi.2 i (Tv _);have hk:=auv (n:=n) (by omega) (by omega) hm;have h0:0<=ff l n:=(aeW hm).2 (by rw[Mq h,ach h];exact hn);have h1:=aeV l 0 h0;have LJ:ff l n+1<l.length:=by have:eW 0 l n=ff l n:=rfl;omega
 have a1:=C_ (τ:=τ) (n:=n) (m:=2) (lo:=0) (hi:=99) (by omega) (by omega);have a2:=C_ (τ:=tick (tick τ)) (n:=ff l n) (m:=1) (lo:=0) (hi:=(i:Int)-1) (by omega) (by omega);refine⟨a1.1,?_,?_⟩;unfold l_;rw[hk];exact a2.1;unfold Tk.fits l_;rw[hk,Ui,Ui,decide_eq_true_eq];exact⟨⟨h0,a1.2⟩,a2.2⟩
variable {pm:Nat}{x:aj}{bG aC bL:SD}
def Made.aaP(h:Made pm x bG aC bL){n:Int}(hn:n∈aC)(τ:bp):F4 bG x.hours n (l_ τ bG n x.hours):=by have hh:=h.hours;have:=L7 h.Hv (by omega) h.first h.am (h.num n hn) τ;rw[Int.toNat_of_nonneg (by omega)]at this;exact this
def A8{l:SD}{i:Nat}(h:i<l.length):l.getD i 0∈l:=by rw[Tf,T4 h];exact W_ h
def Made.QA(h:Made pm x bG aC bL){p:Nat}{y:aD}(hy:x.pieces[p]?=some y):F4 bG x.hours (aC.getD p 0) y:=by obtain⟨τ,rfl⟩:=h.piece p y hy;exact h.aaP (A8 (by rw[h.zS];exact(Tn.1 hy).1)) τ
def Made.QB(h:Made pm x bG aC bL){s:Nat}{y:aD}(hy:x.aq[s]?=some y):F4 bG x.hours (aC.getD (bL.getD s 0).toNat 0) y:=by
 obtain⟨τ,rfl⟩:=h.stub s y hy;have hs:s<bL.length:=by rw[h.B7];exact(Tn.1 hy).1
 have:=h.own _ (A8 hs);exact h.aaP (A8 (by omega)) τ
def Made.ok(h:Made pm x bG aC bL)(uo:pm<=4):x.Ok:=by have hh:=h.hours;refine⟨h.first,h.hours,h.am,by have:=h.qL;omega,by have:=h.apK;omega,h.aq,λs hs=> ?_,λy hy=> ?_,λy hy=> ?_⟩;obtain⟨h1,h2,τ,h3⟩:=h.seen s hs;have ht:=h.Hv.top h.first h.am (by omega) s.hour.toNat (by omega);have hf:=h.first;rw[h3];exact⟨⟨h1,h2⟩,(C_ (by omega) (by omega)).1⟩;obtain⟨p,hp⟩:=Wl hy;have:=h.QA hp;exact⟨this.num,this.hour⟩;obtain⟨p,hp⟩:=Wl hy;have:=h.QB hp;exact⟨this.num,this.hour⟩
def adD (bG aC bL:SD):Tr:=⟨bG,aC,bL.map Zm⟩
def Made.auD(h:Made pm x bG aC bL):P8 x (adD bG aC bL):=by
 have hh:=h.hours;have qv:∀s,s<bL.length->(bL.map Zm).getD s 0=(bL.getD s 0).toNat:=λs hs=>by rw[Tf,Tf,Ur,T4 hs];rfl
 refine⟨h.Hv,λs hs=> ?_,h.zS,λp y hy=>(h.QA hy).fits,h.OF,by show (bL.map Zm).length=_;rw[Um];exact h.B7,λv hv=> ?_,λs y hy=> ?_,?_⟩;obtain⟨h1,h2,τ,h3⟩:=h.seen s hs;have ht:=h.Hv.top h.first h.am (by omega) s.hour.toNat (by omega);have hf:=h.first;rw[h3];exact(C_ (by show _<=bG.getD _ _/\_;omega) (by omega)).2;obtain⟨w,hw,rfl⟩:=Uh.1 hv;have:=h.own w hw;have:=h.zS;omega
 ·have hs:s<bL.length:=by rw[h.B7];exact(Tn.1 hy).1
  show Tk.fits bG y (aC.getD ((bL.map Zm).getD s 0) 0)=true;rw[qv s hs];exact(h.QB hy).fits
 ·show (bL.map Zm).Nodup;rw[VJ,asI];refine YK ?_ (VJ.1 h.ON);intro a c ha hc aN e;have h1:=h.own a ha;have h2:=h.own c hc;omega
def Made.mem(h:Made pm x bG aC bL)(uo:pm<=4):adD bG aC bL∈cR x:=(apB (h.ok uo)).2 h.auD
def Made.ne(h:Made pm x bG aC bL)(uo:pm<=4):cR x≠[]:=λe=>by have:=h.mem uo;rw[e]at this;cases this
def aub(x:aj)(deep:Int)(Q:Kn)(t:SD):(eV x deep Q t).first=if Q.has=true then Q.first else t:=by
 have hB:(j_ Q t).first=if Q.has=true then Q.first else t:=by unfold j_;split<;>rfl
 unfold eV;dsimp only;split;exact hB;split;exact hB;exact hB
def aam{x:aj}{deep:Int}:∀(ts:SS)(Q:Kn),(ts.foldl (eV x deep) Q).first=if Q.has=true then Q.first else(match ts with|[]=>Q.first|t::_=>t)
 |[],Q=>by simp
 |t::ts,Q=>by rw[Wd,aam ts,aeJ,if_pos rfl,aub]
def au2{x:aj}{deep:Int}{j:Nat}{t:SD}{l:SS}(h:fz x deep j=t::l):(iz x deep j).first=t:=by rw[Jv,aam,h];rfl
def an8{Q G:Kn}{hs:SS}(h:G.has=true):(iE Q hs G).first=if Q.has=false\/tO G.first Q.first=true then G.first else Q.first:=by unfold iE;rw[if_pos h]
def aqA{h:SD}{a b:Int}(hl:h.take 2=[a,b]):(cT h).take 4=a::b::((cT h).drop 2).take 2:=by
 match h,hl with
 |c::d::l,hl=>simp only[Xd,axK,Z2,and_true]at hl;obtain⟨rfl,rfl⟩:=hl;simp[cT]
def aaB{x:aj}{deep:Int}{j:Nat}(hx:x.Ok)(hj:j<x.am.toNat+1){t:SD}(ht:t∈fz x deep j):∃l,t.take 4=x.first::(x.first+(j:Int))::l:=by
 rw[GX hx hj]at ht;obtain⟨u,hu,rfl⟩:=Uh.1 ht;obtain⟨h,hm,hu⟩:=T8.1 hu;have hL:=abc hx hj hm;have ml:=Ah (FJ hu);have h2:h.take 2=[x.first,x.first+(j:Int)]:=by unfold xo at hm;split at hm;exact Hu _ _ _ hm;cases hm
 have e:(eZ u).take 4=(cT h).take 4:=by unfold eZ dM;rw[ml,Ev,UD (by rw[zW hL.hi];omega)]
 rw[e,aqA h2];exact⟨_,rfl⟩
def alF{x:aj}{deep:Int}{i j:Nat}(hx:x.Ok)(hi:i<x.am.toNat+1)(hj:j<x.am.toNat+1)(kF:i≠j){t u:SD}(ht:t∈fz x deep i)(hu:u∈fz x deep j):tO t u=decide (i<j):=by
 obtain⟨l,h1⟩:=aaB hx hi ht;obtain⟨m,h2⟩:=aaB hx hj hu;have aN:t.take 4≠u.take 4:=by rw[h1,h2];simp only[ne_eq,Z2,true_and,not_and];intro h;omega
 unfold tO;rw[if_neg aN,h1,h2];by_cases h:i<j
 ·have e1:nm (x.first+(i:Int)) (x.first+(j:Int))= -1:=by unfold nm;rw[if_pos (by omega)]
  have e0:nm x.first x.first=0:=by unfold nm;simp
  simp[o4,e0,e1,h]
 ·have e1:nm (x.first+(i:Int)) (x.first+(j:Int))=1:=by unfold nm;rw[if_neg (by omega),if_pos (by omega)]
  have e0:nm x.first x.first=0:=by unfold nm;simp
  simp[o4,e0,e1,h]
def ab7{x:aj}{deep:Int}{js:SE}{D:Kn}(hx:x.Ok)(hJ:oU x deep js D)(hn:js.Nodup)(hj:∀j∈js,j<x.am.toNat+1)(hh:D.has=true):∃j∈js,∃t l,fz x deep j=t::l/\D.first=t/\∀i∈js,fz x deep i≠[]->j<=i:=by
 induction hJ with
 |nil=>cases hh
 |@snoc js Q j hs hJ hp ih=>
  have jl:js.Nodup:=(Wo.1 hn).1;have qq:j∉js:=λh=>(Wo.1 hn).2.2 j h j (by simp) rfl;have ih':=ih jl (λi hi=>hj i (by simp[hi]));by_cases hG:fz x deep j=[]
  ·have hg:(iz x deep j).has=false:=(by rw[FN,hG];rfl);have hD:iE Q hs (iz x deep j)=Q:=(by unfold iE;rw[hg];rfl);rw[hD]at hh⊢;obtain⟨i,h1,t,l,h2,h3,h4⟩:=ih' hh;refine⟨i,by simp[h1],t,l,h2,h3,λk hk aN=> ?_⟩;rcases T1.1 hk with hk|hk;exact h4 k hk aN;rw[Ub]at hk;subst hk;exact absurd hG aN
  ·obtain⟨t,l,ht⟩:∃t l,fz x deep j=t::l:=by
    cases hg:fz x deep j with
    |nil=>exact absurd hg hG
    |cons t l=>exact⟨t,l,rfl⟩
   have hg:(iz x deep j).has=true:=(by rw[FN,ht];rfl);rw[an8 hg,au2 ht];by_cases hQ:Q.has=true
   ·obtain⟨i,h1,t',l',h2,h3,h4⟩:=ih' hQ;have hb:tO t Q.first=decide (j<i):=by rw[h3];exact alF hx (hj j (by simp)) (hj i (by simp[h1])) (λe=>qq (e▸h1)) (by rw[ht];simp) (by rw[h2];simp)
    by_cases kF:j<i;rw[if_pos (.inr (by rw[hb];simpa using kF))];refine⟨j,by simp,t,l,ht,rfl,λk hk aN=> ?_⟩;rcases T1.1 hk with hk|hk;have:=h4 k hk aN;omega;rw[Ub]at hk;omega;rw[if_neg (by rw[hQ,hb];simpa using kF)];refine⟨i,by simp[h1],t',l',h2,h3,λk hk aN=> ?_⟩;rcases T1.1 hk with hk|hk;exact h4 k hk aN;rw[Ub]at hk;omega
   ·rw[if_pos (.inl (by simpa using hQ))];refine⟨j,by simp,t,l,ht,rfl,λk hk aN=> ?_⟩;rcases T1.1 hk with hk|hk
    ·have hQf:Q.has=js.any λj=> !(fz x deep j).isEmpty:=ab8 hJ;exfalso;apply hQ;rw[hQf,VP];refine⟨k,hk,?_⟩;cases hg:fz x deep k with
     |nil=>exact absurd hg aN
     |cons=>rfl
    ·rw[Ub]at hk;omega
def aa6{α:Type}{f:Nat->List α}{j:Nat}{t:α}{l:List α}:∀{n:Nat},j<n->f j=t::l->(∀i,i<j->f i=[])->((Tt n).flatMap f).head?=some t
 |0,h,_,_=>absurd h (by omega)
 |n+1,h,hf,h0=>by
  rw[Wb,VX,XX];by_cases hj:j<n;rw[aa6 hj hf h0];rfl
  ·have e:j=n:=(by omega);subst e;have:(Tt j).flatMap f=[]:=by rw[X2];intro i hi;exact h0 i (UB.1 hi)
   rw[this];simp[hf]
def Mr{α β:Type}{f g:α->List β}:∀(l:List α),(∀a,(f a).head?=(g a).head?)->(l.flatMap f).head?=(l.flatMap g).head?
 |[],_=>rfl
 |a::l,h=>by rw[UT,UT,XX,XX,h a,Mr l h]
def aeI{α:Type}(l:List α):(l.take 1).head?=l.head?:=by cases l<;>rfl
def agw{x:aj}{deep:Int}:(p7 x deep).head?=(cR x).head?:=by
 refine Mr _ λh=> ?_;have h1:(wy x h).head?=(nO x h).head?:=Mr _ λns=>aeI _;unfold tn;split
 ·rw[aeI,h1]
 ·split;exact h1;rfl
def aok{x:aj}{deep:Int}{D:Kn}(hx:x.Ok)(h:gN x deep D)(hh:D.has=true):∃u l,cR x=u::l/\D.first=eZ u:=by
 obtain⟨p,js,h1,h2,h3,_⟩:=h;have oD:x.am.toNat=p:=by omega
 have hj:∀j∈js,j<x.am.toNat+1:=λj hj=>by rw[oD];exact UB.1 (h2.mem_iff.1 hj)
 obtain⟨j,a,t,l,b,c,d⟩:=ab7 hx h3 (h2.nodup_iff.2 Y') hj hh;have hd:((Tt (p+1)).flatMap λj=>fz x deep j).head?=some t:=by
  refine aa6 (UB.1 (h2.mem_iff.1 a)) b λi hi=> ?_;cases hg:fz x deep i with
  |nil=>rfl
  |cons v w=>have:=d i (h2.mem_iff.2 (UB.2 (by have:=hj j a;omega))) (by rw[hg];simp);omega
 have he:((Tt (p+1)).flatMap λj=>fz x deep j)=(p7 x deep).map eZ:=by unfold p7;rw[<- afe hx,oD,WN];exact Ds λi hi=>GX hx (by rw[oD];exact UB.1 hi)
 rw[he,List.head?_map,agw]at hd;cases ht:cR x with
 |nil=>rw[ht]at hd;cases hd
 |cons u l=>rw[ht]at hd;simp only[awY,VT,Ul]at hd;exact⟨u,l,rfl,by rw[c,hd]⟩
namespace Tk
def live (x:aj):List (SD):=(aQ x).filter λh=> !(nO x h).isEmpty
def cnt (x:aj):Int:=(live x).length
def Iu{x:aj}{h:SD}:h∈live x<->∃u∈cR x,u.bG=h:=by
 unfold live;rw[Vx];constructor
 ·rintro⟨h1,h2⟩
  cases ht:nO x h with
  |nil=>rw[ht]at h2;cases h2
  |cons u l=>have hu:u∈nO x h:=(by rw[ht];simp);exact⟨u,T8.2 ⟨h,h1,hu⟩,Ah hu⟩
 ·rintro⟨u,hu,rfl⟩
  obtain⟨h,a,b⟩:=T8.1 hu;have e:=Ah b;subst e;refine⟨a,?_⟩;cases ht:nO x u.bG with
  |nil=>rw[ht]at b;cases b
  |cons=>rfl
def MQ{x:aj}{h:SD}(hm:h∈aQ x):h.length=1+x.hours.toNat:=(Bv _ _ _ (by simp) hm).1
def OO{h:SD}{n:Nat}(hl:h.length=n):(cT h).take n=h:=by subst hl;unfold cT;rw[UD (Tv _),Ux]
def ao7(x:aj):((live x).map cT).Nodup:=by have h:(live x).Nodup:=(amK x).filter _;rw[VJ,asI];have h2:=VJ.1 h;refine YK ?_ h2;intro a b ha hb aN e;have la:=MQ ((Vx.1 ha).1);have lb:=MQ ((Vx.1 hb).1);apply aN;rw[<- OO la,e,OO lb]
end Tk
def KY{x:aj}(hx:x.Ok){u:Tr}(hu:u∈cR x):(eZ u).take 4=cT u.bG:=by have hl:=(x6 hx hu).1;have hh:=hx.hours;unfold eZ dM;rw[Ev,UD (by rw[zW (by omega)];omega),Tu (by rw[zW (by omega)];omega)]
def ace{x:aj}{D:Kn}(hx:x.Ok)(h:gN x 0 D):D.aQ.Perm ((live x).map cT):=by
 have hn:D.aQ.Nodup:=by obtain⟨p,js,h1,h2,h3,_⟩:=h;exact aoc h3
 refine(List.perm_ext_iff_of_nodup hn (ao7 x)).2 λg=> ?_;rw[aol hx h,Uh];constructor
 ·rintro⟨u,hu,rfl⟩
  exact⟨u.bG,Iu.2 ⟨u,hu,rfl⟩,(KY hx hu).symm⟩
 ·rintro⟨h,hm,rfl⟩
  obtain⟨u,hu,rfl⟩:=Iu.1 hm;exact⟨u,hu,(KY hx hu).symm⟩
def zE{x:aj}{deep:Int}{D:Kn}(hx:x.Ok)(h:gN x deep D):D.has=false<->cR x=[]:=by rw[Ik hx h];cases cR x<;>simp
def acy{x:aj}:live x=[]<->cR x=[]:=by
 constructor
 ·intro h;cases ht:cR x with
  |nil=>rfl
  |cons u l=>have:u.bG∈live x:=Iu.2 ⟨u,by rw[ht];simp,rfl⟩;rw[h]at this;cases this
 ·intro h;cases hl:live x with
  |nil=>rfl
  |cons a l=>obtain⟨u,hu,_⟩:=Iu.1 (show a∈live x by rw[hl];simp);rw[h]at hu;cases hu
def count_eq{x:aj}{D:Kn}(hx:x.Ok)(h:gN x 0 D):(if D.has then(D.aQ.length:Int)else 0)=cnt x:=by
 cases hD:D.has with
 |true=>rw[if_pos rfl,(ace hx h).length_eq,Um];rfl
 |false=>have:=acy.2 ((zE hx h).1 hD);simp[cnt,this]
def apE(a b:Int):min a b=a\/min a b=b:=by omega
def apy(a b:Int):max a b=a\/max a b=b:=by omega
def QZ(v:SD->Int):∀(hs:SS)(b:iI),b.is=true->(hs.foldl (λb h=>b.add (v h)) b).is=true/\((hs.foldl (λb h=>b.add (v h)) b).lo=b.lo\/∃h∈hs,(hs.foldl (λb h=>b.add (v h)) b).lo=v h)/\(hs.foldl (λb h=>b.add (v h)) b).lo<=b.lo/\(∀h∈hs,(hs.foldl (λb h=>b.add (v h)) b).lo<=v h)/\((hs.foldl (λb h=>b.add (v h)) b).hi=b.hi\/∃h∈hs,(hs.foldl (λb h=>b.add (v h)) b).hi=v h)/\b.hi<=(hs.foldl (λb h=>b.add (v h)) b).hi/\∀h∈hs,v h<=(hs.foldl (λb h=>b.add (v h)) b).hi
 |[],b,hb=>⟨hb,.inl rfl,YF _,by simp,.inl rfl,YF _,by simp⟩
 |g::hs,b,hb=>by
  have de:b.add (v g)=⟨min b.lo (v g),max b.hi (v g),true⟩:=by unfold iI.add;rw[if_pos hb]
  obtain⟨h1,h2,h3,h4,h5,h6,h7⟩:=QZ v hs (b.add (v g)) (by rw[de]);rw[Wd];generalize hs.foldl (λb h=>b.add (v h)) (b.add (v g))=R at*;rw[de]at h2 h3 h5 h6;dsimp only at h2 h3 h5 h6;have m1:min b.lo (v g)=b.lo\/min b.lo (v g)=v g:=apE _ _;have m2:max b.hi (v g)=b.hi\/max b.hi (v g)=v g:=apy _ _;refine⟨h1,?_,YU h3 (Int.min_le_left _ _),?_,?_,YU (Int.le_max_left _ _) h6,?_⟩;rcases h2 with h2|⟨h,a,c⟩;rcases m1 with m1|m1;exact .inl (h2.trans m1);exact .inr ⟨g,by simp,h2.trans m1⟩;exact .inr ⟨h,by simp[a],c⟩;intro h hm;rcases Tm.1 hm with rfl|hm;exact YU h3 (Int.min_le_right _ _);exact h4 h hm;rcases h5 with h2|⟨h,a,c⟩;rcases m2 with m1|m1;exact .inl (h2.trans m1);exact .inr ⟨g,by simp,h2.trans m1⟩;exact .inr ⟨h,by simp[a],c⟩;intro h hm;rcases Tm.1 hm with rfl|hm;exact YU (Int.le_max_right _ _) h6;exact h7 h hm
namespace Tk
structure Bounds (hs:List (SD))(v:SD->Int)(lo hi:Int):Prop where
 Ig:∃h∈hs,lo=v h
 le:∀h∈hs,lo<=v h
 If:∃h∈hs,hi=v h
 ge:∀h∈hs,v h<=hi
def Bounds.uniq{hs:SS}{v:SD->Int}{a b c d:Int}(h:Bounds hs v a b)(k:Bounds hs v c d):a=c/\b=d:=by obtain⟨g1,m1,e1⟩:=h.Ig;obtain⟨g2,m2,e2⟩:=h.If;obtain⟨g3,m3,e3⟩:=k.Ig;obtain⟨g4,m4,e4⟩:=k.If;have:=h.le _ m3;have:=h.ge _ m4;have:=k.le _ m1;have:=k.ge _ m2;omega
def Bounds.aqe{hs gs:SS}{v:SD->Int}{a b:Int}(h:Bounds hs v a b)(hp:hs.Perm gs):Bounds gs v a b:=by obtain⟨g1,m1,e1⟩:=h.Ig;obtain⟨g2,m2,e2⟩:=h.If;exact⟨⟨g1,hp.mem_iff.1 m1,e1⟩,λg hg=>h.le g (hp.mem_iff.2 hg),⟨g2,hp.mem_iff.1 m2,e2⟩,λg hg=>h.ge g (hp.mem_iff.2 hg)⟩
end Tk
def ahW{hs:SS}(v:SD->Int)(aN:hs≠[]):Bounds hs v (hs.foldl (λ(b:iI) h=>b.add (v h)) (⟨0,0,false⟩:iI)).lo (hs.foldl (λ(b:iI) h=>b.add (v h)) (⟨0,0,false⟩:iI)).hi:=by
 cases hs with
 |nil=>exact absurd rfl aN
 |cons g hs=>rw[Wd,show iI.add ⟨0,0,false⟩ (v g)=⟨v g,v g,true⟩from rfl];obtain⟨_,h2,h3,h4,h5,h6,h7⟩:=QZ v hs ⟨v g,v g,true⟩ rfl;generalize hs.foldl (λ(b:iI) h=>b.add (v h)) (⟨v g,v g,true⟩:iI)=R at*;dsimp only at h2 h3 h5 h6;refine⟨?_,?_,?_,?_⟩;rcases h2 with h2|⟨h,a,c⟩;exact⟨g,by simp,h2⟩;exact⟨h,by simp[a],c⟩;intro h hm;rcases Tm.1 hm with rfl|hm;exact h3;exact h4 h hm;rcases h5 with h2|⟨h,a,c⟩;exact⟨g,by simp,h2⟩;exact⟨h,by simp[a],c⟩;intro h hm;rcases Tm.1 hm with rfl|hm;exact h6;exact h7 h hm
open Go.Gg.Tk
def adc{h ns:SD}:∀{ss:SY}{t os:SE},os∈ld h ns ss t->(∀p∈t,p<ns.length)->os.length=t.length+ss.length/\∀p∈os,p<ns.length
 |[],t,os,hm,ht=>by simp only[ld,Ub]at hm;subst hm;exact⟨rfl,ht⟩
 |s::ss,t,os,hm,ht=>by
  simp only[ld,T8,Vx,UB]at hm;obtain⟨p,⟨hp,_⟩,hm⟩:=hm;have:=adc hm λq hq=>by rcases T1.1 hq with hq|hq;exact ht q hq;rw[Ub.1 hq];exact hp
  refine⟨?_,this.2⟩;rw[this.1];simp;omega
def Jm{x:aj}(hx:x.Ok){u:Tr}(hu:u∈cR x):u.bL.length=x.aq.length/\∀p∈u.bL,p<x.pieces.length:=by have h2:=(x6 hx hu).2;obtain⟨h,a,b⟩:=T8.1 hu;obtain⟨ns,c,d⟩:=T8.1 b;obtain⟨os,e,rfl⟩:=Uh.1 d;have:=adc e (by simp);dsimp only at h2⊢;rw[<- h2];exact⟨by simpa using this.1,this.2⟩
def ai8{x:aj}(hx:x.Ok){u:Tr}(hu:u∈cR x){s:Nat}(hs:s<x.aq.length):tg (eZ u) s=u.bL.getD s 0:=by
 obtain⟨h1,h2⟩:=x6 hx hu;have h3:=(Jm hx hu).1;have hh:=hx.hours;have pA:=hx.ey;have h4:=zW (h:=u.bG) (by omega);have cy:s<u.bL.length:=by omega
 have hg:(eZ u)[8+s]?=some ((u.bL[s]:Nat):Int):=by
  unfold eZ dM lU;have h8:(cT u.bG++((u.aC.map λn=>(n-u.bG.headD 0).toNat).map (λn:Nat=>(n:Int))++UQ (4-(u.aC.map λn=>(n-u.bG.headD 0).toNat).length) (-1))).length=8:=by simp[h4];omega
  rw[Uc (by omega),h8,UU,T6 (by simpa using cy),Ur,T4 cy];rfl
 unfold tg;rw[Tf,hg,Tf,T4 cy];rfl
namespace Tk
def Ge (x:aj)(f:Tr->Bool):Bool:=(cR x).any f
def C9{x:aj}{f:Tr->Bool}:Ge x f=true<->∃u∈cR x,f u=true:=VP
def yw (f:Nat->Bool)(more:Int)(i:Nat):SD:=((Tt i).filter f).map λn:Nat=>(n:Int)+more
def Ff (x:aj)(p n:Nat):Bool:=Ge x λu=>decide ((u.aC.getD p 0-u.bG.headD 0).toNat=n)
def uK (x:aj)(s q:Nat):Bool:=Ge x λu=>decide (u.bL.getD s 0=q)
def Fj (x:aj)(s q:Nat):Bool:=Ge x λu=> !decide (u.bL.getD s 0=q)
def acu{s:Nat}{f:Nat->Bool}{more:Int}{i:Nat}(h:∀n,n<i->s.testBit n=f n):gg s more i=yw f more i:=by unfold gg yw;congr 1;exact WB λn hn=>h n (UB.1 hn)
end Tk
def ap2{x:aj}{D:Kn}{p:Nat}(hx:x.Ok)(hD:gN x 1 D)(hp:p<x.pieces.length)(n:Nat):(D.aC.getD p 0).testBit n=Ff x p n:=by rw[Ve,aom hx hD hp];unfold Ff;rw[C9];simp only[decide_eq_true_eq]
def OP{x:aj}{D:Kn}{s:Nat}(hx:x.Ok)(hD:gN x 2 D)(hs:s<x.aq.length)(n:Nat):(D.bc.getD s 0).testBit n=uK x s n:=by rw[Ve,aon hx hD hs];unfold uK;rw[C9];refine exists_congr λu=>and_congr_right λhu=> ?_;rw[ai8 hx hu hs,decide_eq_true_eq]
def aqD{x:aj}{D:Kn}{s q:Nat}(hx:x.Ok)(hD:gN x 2 D)(hs:s<x.aq.length)(hh:D.has=true):(D.bc.getD s 0!=2^q)=Fj x s q:=by
 have hb:=OP hx hD hs;rw[Ve,bne_iff_ne];unfold Fj;rw[C9];constructor
 ·intro aN;obtain⟨u,hu⟩:∃u,u∈cR x:=by
   rw[Ik hx hD]at hh;cases ht:cR x with
   |nil=>rw[ht]at hh;cases hh
   |cons u l=>exact⟨u,by simp⟩
  by_cases hu1:u.bL.getD s 0=q
  ·refine Uv λew=>aN ?_;apply Nat.eq_of_testBit_eq;intro n;rw[hb,Xc,Ve,decide_eq_true_eq];unfold uK;rw[C9];constructor
   ·rintro⟨v,hv,e⟩
    rw[decide_eq_true_eq]at e;refine Uv λBC=>ew ⟨v,hv,?_⟩;rw[e];simp;exactλh=>BC h.symm
   ·rintro rfl
    exact⟨u,hu,by rw[decide_eq_true_eq];exact hu1⟩
  ·exact⟨u,hu,by simpa using hu1⟩
 ·rintro⟨u,hu,h⟩ he
  have hp:uK x s (u.bL.getD s 0)=true:=by unfold uK;rw[C9];exact⟨u,hu,by simp⟩
  rw[<- hb,he,Xc,decide_eq_true_eq]at hp;rw[hp]at h;simp at h
def aqC{x:aj}{D:Kn}{s q:Nat}(hx:x.Ok)(hD:gN x 2 D)(hs:s<x.aq.length):(if D.has then vM ((D.bc.getD s 0).testBit q) (D.bc.getD s 0!=2^q)else 0)=if(cR x).isEmpty then 0 else vM (uK x s q) (Fj x s q):=by
 have hh:=Ik hx hD;cases LR:D.has with
 |true=>
  rw[LR]at hh;have:(cR x).isEmpty=false:=by simpa using hh.symm
  rw[this,if_pos rfl,OP hx hD hs,aqD hx hD hs LR];rfl
 |false=>
  rw[LR]at hh;have:(cR x).isEmpty=true:=by simpa using hh.symm
  rw[this];rfl
def ahD{x:aj}{deep:Int}{D:Kn}(hx:x.Ok)(hD:gN x deep D):fP D=if(cR x).isEmpty then 11 else 0:=by have hh:=Ik hx hD;unfold fP;rw[hh];cases (cR x).isEmpty<;>rfl
open Go.Conc Go.Proofs Go.Gg.Tk
def afb{l:SC}{a b:AV}(h:Wk a b):sf (l++[a]) (l++[b]):=by
 induction l with
 |nil=>exact .cons h .nil
 |cons x l ih=>exact .cons (Wk.refl _) ih
def EX(n m k:Nat)(bs:SS):Lt n (.sl m (bs.map aV) (.opn k))=(k<n):=by rw[apo,eq_iff_iff];refine⟨λh=>h.1,λh=>⟨h,λa ha=> ?_⟩⟩;have:=BX n bs;rw[ln,sX]at this;exact this.mpr trivial a ha
def FR:gF (UP none 0 0) 1=[.sl 0 [] .exact]:=rfl
def abz{H:SA}(hH:bJ H)(n sz:Nat)(el:TypeId):bJ (H++[.tail n sz el]):=abx hH λz hz m=>by rw[Ub.1 hz];trivial
section
variable {lv:Bool}
end
namespace Tk
def jo (l:SD):Nat:=if l.length=0 then 0 else(l.getD (l.length-1) 0).toNat+1
def oJ (n:Nat)(l:SD)(j:Nat):List (SD):=(Tt j).map λj:Nat=>l++[((jo l+j:Nat):Int)]
def oM (n:Nat):Nat->List (SD)
 |0=>[[]]
 |i+1=>oM n i++oJ n ((oM n i).getD i []) (n-jo ((oM n i).getD i []))
def xI (n:Nat):List (SD):=oM n (2^n)
def aor(n:Nat)(l:SD)(j:Nat):oJ n l (j+1)=oJ n l j++[l++[((jo l+j:Nat):Int)]]:=by unfold oJ;rw[Wb,UA];rfl
def aqu:∀n,n<4->(∀i,i<2^n->i<(oM n i).length/\(∀l∈oM n i,l.length<=3/\∀y∈l,0<=y/\y<n))/\(∀i,i<2^n+1->(oM n i).length<=8)/\(oM n (2^n)).length=2^n:=by decide+kernel
end Tk
section
variable {lv:Bool}{H:SA}{k kp:SF}
def ajN{ns:SD}{e:End}(hn:ns.length<=2^20)(h0:ns=[]->k (.sl 0 [] .exact) H)(hk:k (.sl ns.length (ns.map iv) (.opn H.length)) (H++[.tail ns.length 1 3])):aS lv BI 116 H [.sl ns.length (ns.map iv) e] k kp:=by
 refine br (rs:=[.tmp 2]) (nt:=8) Tryz.f116 λhH hA=> ?_;simp only[ba,Tq];refine ai ?_;refine ai ?_;intro b hb;refine ao ?_;refine⟨λh=> ?_,λh=> ?_⟩
 ·
  refine ai ?_;refine aH ?_;have:ns=[]:=by
   cases ns with
   |nil=>rfl
   |cons x xs=>rw[hb (by simp)]at h;cases h
  exact jy (H':=H) (G:=[]) (Wk.refl _) (by simp) (Tv _) hH (by simp[Ix]) (h0 this)
 ·
  refine aF ?_;refine ai ?_;refine⟨by omega,?_⟩;refine aH ?_;exact b8 hk
def akK{n:Nat}(hn:n<=3)(hk:k (ln (xI n)) H):aS lv BI 86 H [iv n] k kp:=by
 refine br (rs:=[.tmp 2]) (nt:=44) Tryz.f86 λhH hA=> ?_;simp only[ba,Tq];obtain⟨lG,jg,nC⟩:=aqu n (by omega);refine ai ?_;refine ab ?_;simp only[seval,FR,uI]
 (repeat apply ii);refine tM (t:=3) (sz:=1) (el:=30) (by simp only[seval]<;>rfl) ?_;refine ai ?_;refine bO ?_;refine gU (2^n) (λi:Nat=>[(3,.sl (oM n i).length ((oM n i).map aV) (.opn H.length)),(4,iv i)]) (λi=>H++[.tail (oM n i).length 1 30]) (λi=>True) (λ_ _=>rfl) (by simp only[seval];simp[bE,Wk.refl];exact Ju (l:=[.sl 0 [] .exact]) (l':=[aV []]) rfl (sf.cons (dQ _ _ _) .nil).at) rfl (λ_ _ _=>by simp) trivial (λbN cm i ce _ R hR=> ?_);clear bN cm;have bz:i<2^n->Tg.wrap ((i:Int)+1)=((i+1:Nat):Int):=λh=>by have:2^n<=2^3:=XL (by omega) hn;rw[bt _ (by omega)];rfl
 refine ai ?_;refine ao ?_;refine⟨λh=> ?_,λh=> ?_⟩
 ·have bh:i<2^n:=by rcases ZQ i (2^n)with h'|h';exact h';have:i=2^n:=(by omega);subst this;rw[nC]at h;omega
  obtain⟨g1,g2⟩:=lG i bh;have g3:=jg i (by omega);have bz:=bz bh;obtain⟨l,hl⟩:=bF g1;have zr:oM n (i+1)=oM n i++oJ n l (n-jo l):=by rw[oM,Tf,hl];rfl
  obtain⟨Ef,Eh⟩:=g2 l (sZ hl);generalize oM n i=o at zr hl g1 g3 hR⊢;refine aF ?_;refine ab ?_;simp only[seval,Jb hl,fy g1];refine ai ?_;refine ab ?_;simp only[seval,aV];refine ao ?_;refine⟨λh=> ?p1,λh=> ?p2⟩
  case' p1=>have uh:0<l.length:=(by omega);obtain⟨y,hy⟩:=bF (xs:=l) (i:=l.length-1) (by omega);have H9:=Eh y (sZ hy);have py:jo l=y.toNat+1:=(by unfold jo;rw[if_neg (by omega),Tf,hy];rfl);have f_:Tg.wrap ((l.length:Int)-1)=((l.length-1:Nat):Int):=(by rw[bt _ (by omega)];omega);have ux:Tg.wrap (y+1)=((jo l:Nat):Int):=(by rw[bt _ (by omega),py];omega);have ny:(0<=((l.length-1:Nat):Int)/\((l.length-1:Nat):Int)<l.length)=True:=(by simp;omega);refine ab ?_;simp only[seval,f_,dn hy,ny,ux];have hlz:jo l=jo l:=rfl
  case' p2=>have hlz:jo l=0:=(by unfold jo;rw[if_pos (by omega)]);refine aF ?_
  all_goals(
   refine ai ?_;refine bO ?_;refine gU (n-jo l) (λj:Nat=>[(3,.sl (o.length+j) ((o++oJ n l j).map aV) (.opn H.length)),(7,iv (((jo l:Nat):Int)+j))]) (λj=>H++[.tail (o.length+j) 1 30]) (λi=>True) (λ_ _=>rfl) (by first|(simp only[seval];simp[bE,Wk.refl];done)|(simp only[seval,oJ,List.range_zero];simp[bE,Wk.refl,hlz])) (by simp) (λ_ _ _=>by simp) trivial (λbN cm j qq _ R2 rh=> ?_);clear bN cm;have lL:(n-jo l)<=3:=(by omega);refine ai ?_;refine ao ?_;refine⟨λh2=> ?_,λh2=> ?_⟩
   ·have fM:j<n-jo l:=(by omega);have dj:(o++oJ n l (j+1)).map aV=(o++oJ n l j).map aV++[aV (l++[((jo l:Nat):Int)+j])]:=(by rw[aor,<- Ev,UA];rfl);have vQ:((o++oJ n l j).map aV).length=o.length+j:=(by simp[oJ]);have H2:Tg.wrap (((jo l:Nat):Int)+j+1)=((jo l:Nat):Int)+((j+1:Nat):Int):=(by rw[bt _ (by omega)];omega);refine aF ?_;refine ai ?_;refine aK (ajN (ns:=l) (by omega) (λuh=> ?_) ?_)
    ·subst uh;try simp only[seval,z1,FR,uI,vQ]
     first|refine⟨by decide,by omega,?_⟩|refine⟨by omega,?_⟩
     refine ab ?_;simp only[seval,H2];refine rh _ ⟨fM,trivial,?_⟩;rw[dj];refine Ce [.tail 1 1 3] (oI rfl rfl) ?_ (abz hH _ _ _) ?_ (by simp[VY]);(try simp only[seval]);exact⟨⟨_,rfl,have h:=afb (l:=(o++oJ n [] j).map aV) (show Wk (.sl 1 [iv (((jo []:Nat):Int)+j)] (.opn (H.length+1))) (aV ([]++[((jo []:Nat):Int)+j])) by exact dQ _ _ _);Ju h.len h.at⟩,_,rfl,Wk.refl _⟩;rw[<- dj];simp only[W3,dF,EX,iv];simp
    ·(try simp only[seval,z1,FR,uI,vQ]);refine⟨by omega,by omega,?_⟩;refine ab ?_;simp only[seval,H2];refine rh _ ⟨fM,trivial,?_⟩;rw[dj];refine Ce [.tail (l.length+1) 1 3] (oI rfl rfl) ?_ (abz hH _ _ _) ?_ (by simp[VY]);(try simp only[seval]);exact⟨⟨_,rfl,have h:=afb (l:=(o++oJ n l j).map aV) (show Wk (.sl (l.length+1) (l.map iv++[iv (((jo l:Nat):Int)+j)]) (.opn (H.length+1))) (aV (l++[((jo l:Nat):Int)+j])) by rw[aV,UA,Tp];exact dQ _ _ _);Ju h.len h.at⟩,_,rfl,Wk.refl _⟩;rw[<- dj];simp only[W3,dF,EX,iv];simp
   ·have zg:j=n-jo l:=(by omega);subst zg;refine bT ?_;refine ab ?_;simp only[seval,bz];refine hR _ ⟨bh,trivial,?_⟩;rw[zr];have Ee:(o++oJ n l (n-jo l)).length=o.length+(n-jo l):=(by simp[oJ]);rw[Ee];exact cK)
 ·have jj:i=2^n:=by rcases ZQ i (2^n)with h'|h';have:=(lG i h').1;omega;omega
  subst jj;refine bT ?_;refine ai ?_;refine aH ?_;exact dS (b:=ln (xI n)) hH (dQ _ _ _) (by rw[BX];trivial) hk
end
open Go.Conc Go.Proofs Go.Gg.Tk
def Lv{α:Type}{f:α->SC}{s:Nat}(hf:∀a,(f a).length=s):∀(xs:List α)(n:Nat),(xs.flatMap f).take (n* s)=(xs.take n).flatMap f
 |[],n=>by simp
 |x::xs,0=>by simp
 |x::xs,n+1=>by rw[UT,Xd,UT,List.take_append,Tu (by rw[hf,WW];omega),hf,show (n+1)* s-s=n* s by rw[WW];omega,Lv hf xs n]
def yK{α:Type}{f:α->SC}{s:Nat}(hf:∀a,(f a).length=s):∀(xs:List α)(n:Nat),(xs.flatMap f).drop (n* s)=(xs.drop n).flatMap f
 |[],n=>by simp
 |x::xs,0=>by simp
 |x::xs,n+1=>by rw[UT,List.drop_succ_cons,WG,X9 (by rw[hf,WW];omega),hf,show (n+1)* s-s=n* s by rw[WW];omega,yK hf xs n,Vv]
namespace Tk
def vf (ss:SY)(ns:SD):List aD:=ns.foldr (λn l=>l.eraseIdx n.toNat) ss
def aj.wo (x:aj)(ns:SD):aj:={x with aq:=vf x.aq ns}
def uR (ns:SD)(m:Nat):Prop:=∀(i:Nat) n,ns[i]?=some n->0<=n/\n+(ns.length-i:Nat)<=m
def uR.tail{n:Int}{ns:SD}{m:Nat}(h:uR (n::ns) m):uR ns m:=λi k hk=>by have:=h (i+1) k hk;simp only[U4]at this;exact⟨this.1,by omega⟩
def KO{ss:SY}:∀{ns:SD},uR ns ss.length->(vf ss ns).length+ns.length=ss.length
 |[],_=>rfl
 |n::ns,h=>by have h1:=KO h.tail;have h2:=h 0 n rfl;have e:vf ss (n::ns)=(vf ss ns).eraseIdx n.toNat:=rfl;simp only[U4]at h2⊢;rw[e,Zl (by omega)];omega
end Tk
section
variable {lv:Bool}{H:SA}{k kp:SF}
def Sk{x:aj}{ns:SD}{e:End}(aU:x.aq.length<=3)(gA:uR ns x.aq.length)(hk:k (x.wo ns).av H):aS lv BI 75 H [x.av,.sl ns.length (ns.map iv) e] k kp:=by
 have M3:ns.length<=3:=by have:=KO gA;omega
 refine br (rs:=[.cell 4 73]) (nt:=32) Tryz.f75 λhH hA=> ?_;simp only[ba,Tq,aj.av];obtain⟨st,mi⟩:∃st:Nat->SY,∀j,st j=vf x.aq (ns.drop (ns.length-j)):=⟨_,λ_=>rfl⟩;have lM:st 0=x.aq:=by rw[mi,aw',List.drop_length];rfl
 have anN:st ns.length=vf x.aq ns:=by rw[mi,WV,Wx]
 obtain⟨xl,dU⟩:∃xl:List aD->SC,∀ss,xl ss=[iv x.first,iv x.hours,iv x.am,bM x.seen,aG x.pieces,aG ss]:=⟨_,λ_=>rfl⟩;have rN:x.l=xl x.aq:=by rw[dU];rfl
 have mF:∀ss,(xl ss).drop 5=[.sl ss.length (ss.flatMap aD.l) .shut]:=λss=>by rw[dU];rfl
 rw[rN];refine ai ?_;have sS:Tg.wrap ((ns.length:Int)-1)=(ns.length:Int)-1:=bt _ (by omega);refine ai ?_;refine bO ?_;refine gU ns.length (λj:Nat=>[(5,iv ((ns.length:Int)-1-j))]) (λj=>H++[.cells (xl (st j)) 25,.cells lY 73]) (λi=>True) (λ_ _=>rfl) (by simp only[seval,sS];simp[bE,Wk.refl]) (by rw[lM];rfl) (λ_ _ _=>by simp) trivial (λbN cm j qq _ R hR=> ?_);clear cm;refine ai ?_;refine ao ?_;refine⟨λh=> ?_,λh=> ?_⟩
 ·have fM:j<ns.length:=by omega
  obtain⟨i,hi⟩:∃i:Nat,i=ns.length-1-j:=⟨_,rfl⟩;have nD:(ns.length:Int)-1-j=i:=by omega
  obtain⟨n,hn⟩:=bF (xs:=ns) (i:=i) (by omega);obtain⟨pz,uk⟩:=gA i n hn;obtain⟨n,rfl⟩:∃m:Nat,n=m:=⟨n.toNat,by omega⟩;have dj:st (j+1)=(st j).eraseIdx n:=by rw[mi,mi,show ns.length-(j+1)=i by omega,show ns.length-j=i+1 by omega];obtain⟨hlt,rfl'⟩:=Tn.1 hn;rw[UL hlt,rfl'];rfl
  have cy:(st j).length+j=x.aq.length:=by
   have hd:uR (ns.drop (ns.length-j)) x.aq.length:=λq m hq=>by rw[Vo]at hq;have:=gA _ _ hq;rw[Vm];exact⟨this.1,by omega⟩
   have:=KO hd;rw[<- mi,Vm]at this;omega
  have jm:n<(st j).length:=by omega
  generalize st j=ss at dj cy jm hR⊢;rw[nD];refine aF ?_;refine ab ?_;simp only[seval,dn hn,fy (show i<ns.length by omega)];have bz:=TL n (by omega);have iV:∀l:SY,(l.flatMap aD.l).length=l.length* 4:=λl=>by
   induction l with
   |nil=>rfl
   |cons a l ih=>rw[UT,Tp,ih,aD.len,U4];omega
  have gL:((n:Int)+1).toNat=n+1:=by omega
  have M7:((n:Int)+1==0)=false:=by simp;omega
  have lG:(ss.take n).length=n:=by rw[Vl];omega
  have jg:(ss.drop (n+1)).length=ss.length-(n+1):=Vm;have hD1:∀l:SY,(ss.length-(n+1))=l.length->l.take (ss.length-(n+1))=l:=λl h=>by rw[h,Ux]
  have hD2:(ss.drop (n+1)).take (ss.length-(n+1))=ss.drop (n+1):=hD1 _ jg.symm;refine cS 10 ?_;simp only[seval,TN,mF,bz,iV,gL,Lv aD.len,yK aD.len,lG,jg,beq_self_eq_true,axn,Ww,M7,hD2,Ux];refine⟨by omega,by omega,by omega,by omega,by omega,by rw[dU];simp,?_⟩;have D8:(ss.eraseIdx n).length=n+(ss.length-(n+1)):=by rw[Zl jm];omega
  have D9:(ss.eraseIdx n).flatMap aD.l=(ss.take n).flatMap aD.l++(ss.drop (n+1)).flatMap aD.l:=by rw[List.eraseIdx_eq_take_drop_succ,VX]
  rw[<- D9,<- D8];have kT:∀y y',((xl ss).take 5++[y]++(xl ss).drop 6).set 5 y'=((xl ss).take 5++[y']++(xl ss).drop 6):=λy y'=>by rw[dU];rfl
  have hcg:∀y,((xl ss).take 5++[y]++(xl ss).drop 6)[5]?=some y:=λy=>by rw[dU];rfl
  have hce:(xl ss).take 5++[aG (ss.eraseIdx n)]++(xl ss).drop 6=xl (ss.eraseIdx n):=by rw[dU,dU];rfl
  (repeat apply ii);refine ahp (id:=H.length) (j:=5) (y:=aG (ss.eraseIdx n)) (by simp only[seval,TN]<;>rfl) (hcg _) (dQ _ _ _) ?_;simp only[seval,TS,kT,hce];have f_:Tg.wrap ((i:Int)-1)=(ns.length:Int)-1-((j+1:Nat):Int):=by rw[bt _ (by omega)];omega
  refine ab ?_;simp only[seval,f_];refine hR _ ⟨fM,trivial,?_⟩;rw[dj];have um:bJ (H++[.cells (xl (ss.eraseIdx n)) 25,.cells lY 73]):=abx hH λz hz m=>by simp only[Tm,T5,or_false]at hz;rcases hz with rfl|rfl;rw[dU];exact On m {x with aq:=ss.eraseIdx n};intro a ha;simp only[lY,Tm,T5,or_false]at ha;rcases ha with rfl|rfl|rfl|rfl|rfl|rfl<;>simp[dF,Ix]
  rw[<- nD];exact Ce [.tail (ss.eraseIdx n).length 4 68] (oI rfl rfl) (by simp only[seval];simp[bE,Wk.refl]) um (by simp[dF]) (by rw[Ev];rfl)
 ·have zg:j=ns.length:=by omega
  subst zg;refine bT ?_;have H8:(xl (st ns.length))=(x.wo ns).l:=by rw[dU,anN];rfl
  rw[H8];have sS:(x.wo ns).l.length=6:=rfl;have vW:U9 6 (x.wo ns).l=(x.wo ns).l:=rfl;have mQ:lY.length=6:=rfl;have EJ:U7 6 lY=[]:=rfl;refine ab ?_;simp only[seval,TN,TV,TO,sS,vW,mQ,EJ];refine⟨xT _,?_⟩;refine jR ?_;simp only[seval,TO];rw[vW];exact dS (b:=(x.wo ns).av) hH (Wk.refl _) (by rw[BW];trivial) hk
end
open Go.Conc Go.Proofs Go.Gg.Tk
namespace Tk
def Qv (ns:SD)(m:Nat):Bool:=(Tt ns.length).all λi=>decide (0<=ns.getD i 0/\ns.getD i 0+(ns.length-i:Nat)<=m)
def ag5{ns:SD}{m:Nat}(h:Qv ns m=true):uR ns m:=λi n hn=>by have hi:=(Tn.1 hn).1;have:=Uq.1 h i (UB.2 hi);rw[decide_eq_true_eq,Tf,hn]at this;exact this
def acx:∀n,n<4->(xI n).length=2^n/\∀l∈xI n,Qv l n=true:=by decide+kernel
def ao5{n:Nat}(hn:n<4){l:SD}(hl:l∈xI n):uR l n:=ag5 ((acx n hn).2 l hl)
def RH{ss:SY}:∀{ns:SD}{y:aD},y∈vf ss ns->y∈ss
 |[],y,h=>h
 |n::ns,y,h=>RH (ns:=ns) (List.mem_of_mem_eraseIdx h)
def RG{ss:SY}:∀{ns:SD},(vf ss ns).length<=ss.length
 |[]=>Tv _
 |n::ns=>by have h1:=RG (ss:=ss) (ns:=ns);have h2:=List.length_eraseIdx_le (vf ss ns) n.toNat;exact UJ h2 h1
def aj.Ok.wo{x:aj}(h:x.Ok)(ns:SD):(x.wo ns).Ok:=⟨h.first,h.hours,h.am,h.qL,h.ey,UJ RG h.di,h.seen,λy hy=>⟨(h.piece y hy).1,(h.piece y hy).2⟩,λy hy=>have k:=h.stub y (RH hy);⟨k.1,k.2⟩⟩
def GQ (x:aj):Option (SD):=(xI x.aq.length).find? λl=>wU (x.wo l)
def Sy{α:Type}{p:α->Bool}:∀{l:List α}{i:Nat}{a:α},l[i]?=some a->p a=true->(∀j b,j<i->l[j]?=some b->p b=false)->l.find? p=some a
 |b::l,0,a,h,hp,_=>by cases h;rw[List.find?_cons_of_pos hp]
 |b::l,i+1,a,h,hp,h0=>by rw[List.find?_cons_of_neg (by rw[h0 0 b (by omega) rfl];simp)];exact Sy (i:=i) h hp λj c hj hc=>h0 (j+1) c (by omega) hc
def ak1{α:Type}{p:α->Bool}{l:List α}(h:∀(j:Nat) b,l[j]?=some b->p b=false):l.find? p=none:=by rw[ad'];intro a ha;obtain⟨j,hj⟩:=Wl ha;rw[h j a hj];simp
end Tk
section
variable {lv:Bool}{H:SA}{k kp:SF}
def akg{x:aj}(hx:x.Ok)(hm:H[0]?=some .main)(iY:∀l,GQ x=some l->k (.aJ [aV l,iv 0]) H)(cO:GQ x=none->k (.aJ [aV [],iv 11]) H):aS lv BI 29 H [x.av] k kp:=by
 refine br (rs:=[.tmp 2,.tmp 3]) (nt:=27) Tryz.f29 λhH hA=> ?_;simp only[ba,Tq,aj.av];have aU:=hx.di;refine ai ?_;refine ab ?_;simp only[seval,TN,TQ,TR];refine aK (Dp (x:=x) (dW hm) ?_);rw[wV.2 hx];(try simp only[seval]);refine ab ?_;simp only[seval,show ((0:Int)!=0)=false from rfl];refine ao ?_;refine aF ?_;refine ab ?_;simp only[seval,TN,Ta];refine aK (akK (n:=x.aq.length) aU ?_);have fE:=(acx x.aq.length (by omega)).1;have fN:=λl hl=>ao5 (n:=x.aq.length) (by omega) (l:=l) hl;have xj:GQ x=(xI x.aq.length).find? λl=>wU (x.wo l):=rfl;generalize xI x.aq.length=ls at fE fN xj⊢;have hp8:2^x.aq.length<=2^3:=XL (by omega) aU;(try simp only[seval,ln]);refine bO ?_;refine gU ls.length (λi:Nat=>[(17,iv i)]) (λi=>H++[.cells x.l 25]) (λi=>∀j b,j<i->ls[j]?=some b->wU (x.wo b)=false) (λ_ _=>rfl) (by simp only[seval];simp[bE,Wk.refl]) rfl (λ_ _ _=>by simp) (λj b hj=>by omega) (λbN cm i ce an R hR=> ?_);clear bN cm;refine ai ?_;refine ao ?_;refine⟨λh=> ?_,λh=> ?_⟩
 ·have bh:i<ls.length:=by omega
  obtain⟨l,hl⟩:=bF bh;have io:=fN l (sZ hl);have e9:=TL i (by omega);refine aF ?_;refine ab ?_;simp only[seval,Jb hl,fy bh];refine ab ?_;simp only[seval,TN,TQ,TR];refine aK (Sk (x:=x) (ns:=l) aU io ?_);(try simp only[seval]);refine aK (akL (x:=x.wo l) (hx.wo l) ?_);(try simp only[seval]);refine ao ?_;refine⟨λhc=> ?_,λhc=> ?_⟩;refine ai ?_;refine aH ?_;exact dS (b:=.aJ [aV l,iv 0]) hH (wz (Wk.refl _) (Wk.refl _)) (by simp[iw,dF,BV]) (iY l (by rw[xj];exact Sy hl hc an));refine aF ?_;refine ab ?_;simp only[seval,e9];refine hR _ ⟨bh,λj b hj hb=> ?_,cK⟩;rcases ZQ j i with h'|h';exact an j b h' hb;(have:j=i:=(by omega);subst this;rw[hl]at hb;cases hb;simpa using hc)
 ·have jj:i=ls.length:=by omega
  subst jj;refine bT ?_;refine ai ?_;refine aH ?_;exact dS (b:=.aJ [aV [],iv 11]) hH (wz (dQ _ _ _) (Wk.refl _)) (by simp[iw,dF,BV]) (cO (by rw[xj];exact ak1 λj b hb=>an j b (eF hb) hb))
end
open Go.Conc Go.Proofs Go.Gg.Tk
namespace Tk
def vg (x:aj):Int:=if eK x=0 then 3 else eK x
def ajf(x:aj):vg x≠0:=by unfold vg;split<;>omega
end Tk
section
variable {H:SA}{k kp:SF}
def afr:∀a∈lY,a.leaf=true:=λa ha=>by simp only[lY,Tm,T5,or_false]at ha;rcases ha with rfl|rfl|rfl|rfl|rfl|rfl<;>rfl
def afn:∀a∈gp,a.leaf=true:=λa ha=>by simp only[gp,Tm,T1,XO]at ha;rcases ha with rfl|rfl|⟨_,rfl⟩|⟨_,rfl⟩<;>rfl
def Sf{x:aj}{deep:Int}{f:AV}{b:Bool}(hm:H[0]?=some .main)(hf:x.Ok->FS true H f b)(hb:eK x≠0\/b=false)(hk:k (.aJ [.agg lY,.agg gp,iv (vg x)]) H):aS true BI 54 H [x.av,iv deep,f] k kp:=by
 refine br (rs:=[.cell 6 73,.cell 7 85,.tmp 8]) (nt:=36) axO λhH hA=> ?_;simp only[ba,Tq,aj.av];refine ai ?_;refine ab ?_;simp only[seval,TN,TM];refine aK (Dp (x:=x) (dW hm) ?_);(try simp only[seval]);unfold vg at hk;by_cases c1:eK x=0
 case' pos=>rw[if_pos c1]at hk;have de:b=false:=hb.resolve_left λh=>h c1;rw[c1];refine ab ?_;simp only[seval,show ((0:Int)!=0)=false from rfl];refine ao ?_;refine aF ?_;refine ai ?_;refine n9 (hf (wV.1 c1) _ _ _ ?_);rw[de];(try simp only[seval]);refine ao ?_;refine ai ?_
 case' neg=>rw[if_neg c1]at hk;refine ab ?_;simp only[seval,show (eK x !=0)=true by simpa using c1];refine ao ?_;refine ai ?_
 all_goals
  refine jR ?_;simp only[seval,TO,TP];exact dS hH (Wk.refl _) (by simp[iw,lT,dF,lY,gp,Ix]) hk
end
section
variable {lv:Bool}{H:SA}{k kp:SF}
def aqW{x:aj}{q:Int}:pI x [q]=(decide (0<=q)&&decide (q<x.pieces.length)):=by unfold pI;rw[Ve];simp;omega
end
open Go.Conc Go.Proofs Go.Gg.Tk
def adp{x:aj}{q:Nat}(hq:q<x.pieces.length):pI x [(q:Int)]=true:=by unfold pI;simp;omega
def aiD{lv:Bool}{P:Tl}{r:SL}{nt:Nat}{ops:SK}{s:AS}{Φ:SI}{α:Type}{ok:α->Prop}(st:α->AS)(rest:∀x,ok x->Φ .normal (st x))(h:(∀x,ok x->Φ .normal (st x))->DG lv P r nt ops ops s Φ):DG lv P r nt ops ops s Φ:=h rest
def atT{T V:SH}{H H':SA}(hH:H=H')(hv:∀p∈V,∃b,look T p.1=some b/\Wk b p.2):(⟨T,H⟩:AS).Sub ⟨V,H'⟩:=
 ⟨λt a e=>hv (t,a) (pF e),hH⟩
def opsOf:U5->Array Vp
 |.region _ o _=>o
 |.seq a _=>opsOf a
 |_=>#[]
structure Bk (H:SA)(M:SC->SC->SA)(L:SA)(B:SC->SC->SA)(N:Nat):Prop where
 f:∀u v,B u v=H++(M u v++L)
 l:∀u v,(B u v).length=N
section
variable {H L:SA}{M B:SC->SC->SA}{N:Nat}
def Bk.n(h:Bk H M L B N)(u v:SC)(L':SA)(j:Nat):(B u v++L')[N+j]?=L'[j]?:=by rw[<- h.l u v,aP]
def Bk.s(h:Bk H M L B N)(u v:SC)(L':SA)(j:Nat)(y:aa):(B u v++L').set (N+j) y=B u v++L'.set j y:=by rw[<- h.l u v,cG]
def Bk.n0(h:Bk H M L B N)(u v:SC)(L':SA):(B u v++L')[N]?=L'[0]?:=h.n u v L' 0
def Bk.s0(h:Bk H M L B N)(u v:SC)(L':SA)(y:aa):(B u v++L').set N y=B u v++L'.set 0 y:=h.s u v L' 0 y
def Bk.n1(h:Bk H M L B N)(u v:SC)(L':SA):(B u v++L')[N+1]?=L'[1]?:=h.n u v L' 1
def Bk.s1(h:Bk H M L B N)(u v:SC)(L':SA)(y:aa):(B u v++L').set (N+1) y=B u v++L'.set 1 y:=h.s u v L' 1 y
def Bk.g(h:Bk H M L B N){j:Nat}{u v:SC}(hl:j<(M u v).length){a y:aa}{u' v':SC}(ha:(M u v)[j]?=some a)(hy:(M u v).set j y=M u' v')(L':SA):(B u v++L')[H.length+j]?=some a/\(B u v++L').set (H.length+j) y=B u' v'++L':=by rw[h.f,h.f,Ev,Ev,Ev,Ev,aP,cG,T6 hl,VE _ _ hl,hy];exact⟨ha,rfl⟩
def Bk.gu(h:Bk H M L B N)(j:Nat)(hl:∀u v,j<(M u v).length)(ha:∀u v,(M u v)[j]?=some (.cells u 73))(hy:∀u v w,(M u v).set j (.cells w 73)=M w v):(∀u v L',(B u v++L')[H.length+j]?=some (.cells u 73))/\(∀u v w L',(B u v++L').set (H.length+j) (.cells w 73)=B w v++L')/\(∀u v,(B u v)[H.length+j]?=some (.cells u 73))/\∀u v w,(B u v).set (H.length+j) (.cells w 73)=B w v:=by have k1:=λu v w L'=>h.g (hl u v) (ha u v) (hy u v w) L';have k2:=λu v w=>k1 u v w [];simp only[Ts]at k2;exact⟨λu v L'=>(k1 u v u L').1,λu v w L'=>(k1 u v w L').2,λu v=>(k2 u v u).1,λu v w=>(k2 u v w).2⟩
def Bk.gv(h:Bk H M L B N)(j:Nat)(hl:∀u v,j<(M u v).length)(ha:∀u v,(M u v)[j]?=some (.cells v 85))(hy:∀u v w,(M u v).set j (.cells w 85)=M u w):(∀u v L',(B u v++L')[H.length+j]?=some (.cells v 85))/\(∀u v w L',(B u v++L').set (H.length+j) (.cells w 85)=B u w++L')/\(∀u v,(B u v)[H.length+j]?=some (.cells v 85))/\∀u v w,(B u v).set (H.length+j) (.cells w 85)=B u w:=by have k1:=λu v w L'=>h.g (hl u v) (ha u v) (hy u v w) L';have k2:=λu v w=>k1 u v w [];simp only[Ts]at k2;exact⟨λu v L'=>(k1 u v v L').1,λu v w L'=>(k1 u v w L').2,λu v=>(k2 u v v).1,λu v w=>(k2 u v w).2⟩
def IF (x:aj)(q:Int)(u v:SC)(e:Int):Prop:=((eK x≠0\/pI x [q]=false)/\u=lY/\v=gp/\e=vg x)\/(x.Ok/\0<=q/\q<x.pieces.length/\∃D mp,u=x.l/\v=D.l mp/\e=fP D/\gN x 1 D/\bW D)
def apV{x:aj}{q:Int}{u v:SC}{e:Int}(h:IF x q u v e):u.length=6/\v.length=28/\(∀a∈u,a.leaf=true)/\∀a∈v,a.leaf=true:=by rcases h with⟨_,rfl,rfl,_⟩|⟨_,_,_,D,mp,rfl,rfl,_,_,eI⟩;exact⟨rfl,rfl,afr,afn⟩;exact⟨rfl,Kn.len eI mp,xT x,v7 D mp⟩
def akA{x:aj}{q:Int}{G:SA}{k kp:SF}(i j:Nat)(M:SC->SC->SA)(u0 v0:SC)(hG:G=H++M u0 v0)(hm:H[0]?=some .main)(h1:(M u0 v0)[i]?=some (.cells [.sl 1 [iv q] .exact] 30))(h2:(M u0 v0)[j]?=some (.cells x.l 25))(hn:∀u v,(M u v).length=(M u0 v0).length)(hk:∀u v e L N B,IF x q u v e->Bk H M L B N->k (.aJ [.agg u,.agg v,iv e]) (B u0 v0)):aS true BI 54 G [x.av,iv 1,.fn (.func 102) [] [.op (H.length+i) 0,.op (H.length+j) 0]] k kp:=by
 subst hG;have ask:x.Ok->FS true (H++M u0 v0) (.fn (.func 102) [] [.op (H.length+i) 0,.op (H.length+j) 0]) (pI x [q]):=λhx L k kp hk=>bX (K2 (x:=x) (ns:=[q]) (e:=.exact) (il:=H.length+i) (ir:=H.length+j) hx (by simp) (by rw[Ev,aP];exact dW h1) (by rw[Ev,aP];exact dW h2) hk);by_cases hb:eK x≠0\/pI x [q]=false
 ·refine Sf (dW hm) ask hb ?_;have:=hk lY gp (vg x) [] (H.length+(M u0 v0).length) (λu v=>H++(M u v++[])) (.inl ⟨hb,rfl,rfl,rfl⟩) ⟨λ_ _=>rfl,λu v=>by rw[Ts,Tp,hn]⟩;rw[Ts]at this;exact this
 ·have hc:eK x=0:=Uv λh=>hb (.inl h);have hx:=wV.1 hc;have oC:pI x [q]=true:=by cases h:pI x [q]with
   |true=>rfl
   |false=>exact absurd (.inr h) hb
  have hq:0<=q/\q<x.pieces.length:=by rw[aqW,Ui,decide_eq_true_eq,decide_eq_true_eq]at oC;exact oC
  have hp:=hx.am;obtain⟨p,jn⟩:∃p:Nat,x.am=p:=⟨x.am.toNat,by omega⟩;refine A2 (x:=x) (b:=pI x [q]) hx jn (dW hm) (ask hx) (λh=>by rw[oC]at h;cases h) λ_ js D L mp iX jW eI uj hg=> ?_;have:=hk x.l (D.l mp) (fP D) L (H.length+(M u0 v0).length+L.length) (λu v=>H++(M u v++L)) (.inr ⟨hx,hq.1,hq.2,D,mp,rfl,rfl,rfl,⟨p,js,jn,iX,jW,eI⟩,eI⟩) ⟨λ_ _=>rfl,λu v=>by rw[Tp,Tp,hn];omega⟩;rw[Ev];exact this
end
def zQ (x:aj)(q:Int)(u v:SC):Nat->SA
 |10=>[.cells u 73]
 |11=>[.cells v 85]
 |4=>[.cells x.l 25,.cells [.sl 1 [iv q] .exact] 30]
 |_=>[]
def zP (f:Nat->SA)(D:SE):SE->SA
 |[]=>[]
 |i::l=>(bif isDone i D then f i else[])++zP f D l
def pH (H:SA)(x:aj)(q:Int)(u v:SC)(l:SE)(D:SE):SA:=H++(.cells x.l 25::zP (zQ x q u v) D l)
def Oz (x:aj)(q:Int)(Bf:SC->SC->SA)(u0 v0 u v:SC)(t D:SE):SA:=Bf (bif t.contains 10 then u0 else bif isDone 12 D then u else u0) (bif t.contains 11 then v0 else bif isDone 13 D then v else v0)++zP (zQ x q (bif isDone 12 D then u else u0) (bif isDone 13 D then v else v0)) D t
def lf{P:Prop}{α:Type}(t:SE)(M:α)(ix:Nat->Nat)(h:∀t' M' ix',t=t'->M=M'->ix=ix'->P):P:=h t M ix rfl rfl rfl
def rO (x:aj)(q:Int)(l:SE)(u v:SC):SA:=.cells x.l 25::l.flatMap (zQ x q u v)
def apW{H:SA}{x:aj}{q:Int}{nt:Nat}{ops:SK}{c:U5}{Ψ:SI}(ho:nt=27/\ops=opsOf (cs (axQ.body.getD .skip))\/nt=29/\ops=opsOf (cs (awS.body.getD .skip)))(hm:H[0]?=some .main)(rest:∀y:Nat×SC×SC×Int×SA,IF x q y.2.1 y.2.2.1 y.2.2.2.1/\(∃L,y.2.2.2.2=H++L)/\y.2.2.2.2[H.length]?=some (.cells x.l 25)/\y.2.2.2.2[y.1]?=some (.cells y.2.2.1 85)->ap.then (λs'=>aW true BI none nt c s' Ψ) Ψ .normal ⟨[(7,.op y.1 0),(8,iv y.2.2.2.1),(1,iv q),(2,.op H.length 0)],y.2.2.2.2⟩):DG true BI none nt ops ops ⟨[(5,iv 0),(4,.sl 0 [] .exact),(2,.op H.length 0),(0,.agg x.l),(1,iv q)],H++[.cells x.l 25]⟩ (ap.then (λs'=>aW true BI none nt c s' Ψ) Ψ):=by
 rcases ho with⟨rfl,rfl⟩|⟨rfl,rfl⟩
 all_goals
  dsimp only[awS,axQ,T_,cs,opsOf];have G0:(1<=2^24)=True:=eq_true (by decide);obtain⟨u0,hu⟩:∃u0:SC,u0=[.val (.int .i64 0),.val (.int .i64 0),.val (.int .i64 0),.sl 0 [] .exact,.sl 0 [] .exact,.sl 0 [] .exact]:=⟨_,rfl⟩;obtain⟨v0,hv⟩:∃v0:SC,v0=[.val (.bool false),.val (.map none),.val (.int .u16 0),.val (.int .u16 0),.val (.int .u16 0),.val (.int .u16 0),.val (.int .u16 0),.val (.int .u16 0),.val (.int .u16 0),.val (.int .u16 0),.val (.int .u16 0),.val (.int .u16 0),.val (.int .u16 0),.val (.int .u16 0),.val (.int .u16 0),.val (.int .u16 0),.val (.int .u16 0),.val (.int .i64 0),.val (.int .i64 0),.val (.int .i64 0),.val (.int .i64 0),.val (.int .i64 0),.val (.int .i64 0),.val (.int .i64 0),.val (.int .i64 0),.val (.int .i64 0),.val (.int .i64 0),.val (.int .i64 0)]:=⟨_,rfl⟩;have HY:=hu.symm;have sQ:=hv.symm;have EH:u0.length=6:=by rw[hu];rfl
  have H_:v0.length=28:=by rw[hv];rfl
  have hy0:U7 6 u0=[]:=by rw[hu];rfl
  have kI:U7 28 v0=[]:=by rw[hv];rfl
  refine qa 5 10 rfl (qa 5 11 rfl (qa 4 10 rfl (qa 4 11 rfl (qa 10 11 rfl (lf [] (rO x q [11,10,4]) (λ_=>H.length+1) λt M ix ht hM jj=>p_ 5 [0,1,2,3,11,10,4] [6,7,8,9,12,13,14] [11,10,4] [12,13] (pH H x q u0 v0 [11,10,4]) ?_) (lf [] (rO x q [10,11,4]) (λ_=>H.length+2) λt M ix ht hM jj=>p_ 5 [0,1,2,3,10,11,4] [6,7,8,9,12,13,14] [10,11,4] [12,13] (pH H x q u0 v0 [10,11,4]) ?_)) (lf [] (rO x q [10,4,11]) (λ_=>H.length+4) λt M ix ht hM jj=>p_ 5 [0,1,2,3,10,4,11] [6,7,8,9,12,13,14] [10,4,11] [12,13] (pH H x q u0 v0 [10,4,11]) ?_)) (qa 4 11 rfl (lf [] (rO x q [11,4,10]) (λ_=>H.length+1) λt M ix ht hM jj=>p_ 5 [0,1,2,3,11,4,10] [6,7,8,9,12,13,14] [11,4,10] [12,13] (pH H x q u0 v0 [11,4,10]) ?_) (qa 10 11 rfl (lf [] (rO x q [4,11,10]) (λ_=>H.length+3) λt M ix ht hM jj=>p_ 5 [0,1,2,3,4,11,10] [6,7,8,9,12,13,14] [4,11,10] [12,13] (pH H x q u0 v0 [4,11,10]) ?_) (lf [] (rO x q [4,10,11]) (λ_=>H.length+4) λt M ix ht hM jj=>p_ 5 [0,1,2,3,4,10,11] [6,7,8,9,12,13,14] [4,10,11] [12,13] (pH H x q u0 v0 [4,10,11]) ?_)))) (qa 4 10 rfl (lf [11] (rO x q [10,4]) (λN=>N) λt M ix ht hM jj=>p_ 5 [0,1,2,3,10,4] [6,7,8,9,11,12,13,14] [10,4] [11,12,13] (pH H x q u0 v0 [10,4]) ?_) (lf [11] (rO x q [4,10]) (λN=>N) λt M ix ht hM jj=>p_ 5 [0,1,2,3,4,10] [6,7,8,9,11,12,13,14] [4,10] [11,12,13] (pH H x q u0 v0 [4,10]) ?_))) (qa 5 11 rfl (qa 4 11 rfl (lf [10] (rO x q [11,4]) (λ_=>H.length+1) λt M ix ht hM jj=>p_ 5 [0,1,2,3,11,4] [6,7,8,9,10,12,13,14] [11,4] [10,12,13] (pH H x q u0 v0 [11,4]) ?_) (lf [10] (rO x q [4,11]) (λ_=>H.length+3) λt M ix ht hM jj=>p_ 5 [0,1,2,3,4,11] [6,7,8,9,10,12,13,14] [4,11] [10,12,13] (pH H x q u0 v0 [4,11]) ?_)) (qa 10 11 rfl (lf [11,10] (rO x q [4]) (λN=>N) λt M ix ht hM jj=>p_ 5 [0,1,2,3,4] [6,7,8,9,11,10,12,13,14] [4] [11,10,12,13] (pH H x q u0 v0 [4]) ?_) (lf [10,11] (rO x q [4]) (λN=>N+1) λt M ix ht hM jj=>p_ 5 [0,1,2,3,4] [6,7,8,9,10,11,12,13,14] [4] [10,11,12,13] (pH H x q u0 v0 [4]) ?_)))
  all_goals
   (try simp only[seval,pH,zP,zQ,z1,TR,G0,and_self,TN,HY,sQ,TQ,Tp,Ev]);refine sk _ _ (bX (K9 (x:=x) (ns:=[q]) ⟨rfl,rfl⟩)) ?_;(try simp only[seval,pH,zP,zQ,TN,HY,sQ,TQ,Tp,Ev,VY]);refine aK (akA _ _ M u0 v0 (by subst hM;rfl) hm (by subst hM;rfl) (by subst hM;rfl) (by subst hM;exactλ_ _=>rfl) λu v e L N Bf hq hB=> ?_);obtain⟨ED,fV,huf,kG⟩:=apV hq;subst hM
   first
    |obtain⟨A4,Cg,A5,Ch⟩:=hB.gu 1 (λ_ _=>of_decide_eq_true rfl) (λ_ _=>rfl) λ_ _ _=>rfl
    |obtain⟨A4,Cg,A5,Ch⟩:=hB.gu 2 (λ_ _=>of_decide_eq_true rfl) (λ_ _=>rfl) λ_ _ _=>rfl
    |obtain⟨A4,Cg,A5,Ch⟩:=hB.gu 3 (λ_ _=>of_decide_eq_true rfl) (λ_ _=>rfl) λ_ _ _=>rfl
    |obtain⟨A4,Cg,A5,Ch⟩:=hB.gu 4 (λ_ _=>of_decide_eq_true rfl) (λ_ _=>rfl) λ_ _ _=>rfl
    |obtain⟨A4,Cg,A5,Ch⟩:=And.intro hB.l (And.intro hB.l (And.intro hB.l hB.l))
   first
    |obtain⟨A6,Ci,A7,Cj⟩:=hB.gv 1 (λ_ _=>of_decide_eq_true rfl) (λ_ _=>rfl) λ_ _ _=>rfl
    |obtain⟨A6,Ci,A7,Cj⟩:=hB.gv 2 (λ_ _=>of_decide_eq_true rfl) (λ_ _=>rfl) λ_ _ _=>rfl
    |obtain⟨A6,Ci,A7,Cj⟩:=hB.gv 3 (λ_ _=>of_decide_eq_true rfl) (λ_ _=>rfl) λ_ _ _=>rfl
    |obtain⟨A6,Ci,A7,Cj⟩:=hB.gv 4 (λ_ _=>of_decide_eq_true rfl) (λ_ _=>rfl) λ_ _ _=>rfl
    |obtain⟨A6,Ci,A7,Cj⟩:=And.intro hB.l (And.intro hB.l (And.intro hB.l hB.l))
   have hR:=λG a b c=>rest (ix N,u,v,e,G) ⟨hq,a,b,c⟩;refine⟨λDD=>Oz x q Bf u0 v0 u v t DD,by subst ht;simp only[seval,Oz,zP,zQ];first|done|rfl,?_⟩;subst ht jj;(try simp only[seval,Oz,ats,List.contains_cons,zP,zQ,HY,sQ,hB.l,hB.n0,hB.s0,hB.n1,hB.s1,TQ,ED,fV,EH,H_,hy0,kI,aj.av,A4,Cg,A5,Ch,A6,Ci,A7,Cj]);refine⟨huf,kG,?_⟩;exact nk (atT rfl (by simp only[seval];simp[bE,Wk.refl])) (hR _ ⟨_,by rw[hB.f]<;>first|rfl|rw[Ev]⟩ (by rw[hB.f];first|exact aP H _ 0|(rw[Ev];exact aP H _ 0)) (by simp only[seval,HY,sQ,hB.l,hB.n0,hB.s0,hB.n1,hB.s1,TQ,ED,fV,EH,H_,hy0,kI,aj.av,A4,Cg,A5,Ch,A6,Ci,A7,Cj]))
section
variable {lv:Bool}{H:SA}{k kp:SF}
def akm{x:aj}{q:Int}(hm:H[0]?=some .main)(hb:(eK x≠0\/pI x [q]=false)->k (.aJ [aV [],iv (vg x)]) H)(hk:x.Ok->0<=q->q<x.pieces.length->∀D,gN x 1 D->(D.has=false->k (.aJ [aV [],iv 11]) H)/\(D.has=true->k (.aJ [aV (gg (D.aC.getD q.toNat 0) x.first 16),iv 0]) H)):aS true BI 41 H [x.av,iv q] k kp:=by
 refine br (rs:=[.tmp 4,.tmp 5]) (nt:=29) awS λhH hA=> ?_;simp only[ba,Tq,aj.av];refine ai ?_;(repeat apply ii);refine Gk [4,10,11,12,13] [0,1,2,3,4,5,6,7,8,9,10,11,12,13,14] F.mixed (by kernel_rfl) ?_;refine aiD (α:=Nat×SC×SC×Int×SA) (ok:=λy=>IF x q y.2.1 y.2.2.1 y.2.2.2.1/\(∃L,y.2.2.2.2=H++L)/\y.2.2.2.2[H.length]?=some (.cells x.l 25)/\y.2.2.2.2[y.1]?=some (.cells y.2.2.1 85)) (λy=>⟨[(7,.op y.1 0),(8,iv y.2.2.2.1),(1,iv q),(2,.op H.length 0)],y.2.2.2.2⟩) (λy hy=> ?_) (λrest=> ?_)
 ·obtain⟨i,u,v,e,G⟩:=y;obtain⟨hq,⟨L0,hG⟩,hGr,hGi⟩:=hy;dsimp only at hq hG hGr hGi;have fW:∀(ns:SD)(e:End)(m:Int),k (.aJ [aV ns,iv m]) H->cz H.length G (.aJ [.sl ns.length (ns.map iv) e,iv m]) k:=λns e m h=>by rw[hG];exact dS hH (wz (dQ _ _ _) (Wk.refl _)) (by simp[iw,dF,aV,sX]) h
  (try simp only[seval]);rcases hq with⟨Bh,rfl,rfl,rfl⟩|⟨hx,hq0,hq1,D,mp,rfl,rfl,rfl,re,eI⟩;refine ab ?_;simp only[seval,show (vg x !=0)=true by simpa using ajf x];refine ao ?_;refine ai ?_;refine aH ?_;exact fW [] .exact _ (hb Bh);obtain⟨q,rfl⟩:=aa_ hq0;have hq:q<x.pieces.length:=by omega
  have pA:=hx.ey;obtain⟨iY,cO⟩:=hk hx hq0 hq1 D re;rw[WO]at cO;cases jh:D.has with
  |false=>have hE:fP D=11:=(by rw[fP,jh];rfl);refine ab ?_;simp only[seval,hE,show ((11:Int)!=0)=true from rfl];refine ao ?_;refine ai ?_;refine aH ?_;exact fW [] .exact 11 (iY jh)
  |true=>have hE:fP D=0:=(by rw[fP,jh];rfl);have cO:=cO jh;obtain⟨u,hu⟩:=bF (xs:=D.aC) (i:=q) (by rw[eI.aC];omega);have lu:=eI.mU _ (Un hu);have ml:D.aC.getD q 0=u:=(by rw[Tf,hu];rfl);rw[ml]at cO;have b3:(0<=(q:Int)/\(q:Int)<4)=True:=(by simp;omega);have D7:=Kn.IH (mp:=mp) hu;have jD:=hx.first;refine ab ?_;simp only[seval,hE,show ((0:Int)!=0)=false from rfl];refine ao ?_;refine aF ?_;refine cS 6 ?_;simp only[seval,hGr,hGi,b3,D7,TM];refine aK (K_ lu (by omega) ?_);(try simp only[seval]);refine aH ?_;exact fW _ _ 0 cO
 ·exact apW (.inr ⟨rfl,rfl⟩) hm rest
def akn{x:aj}{q:Nat}(hx:x.Ok)(hq:q<x.pieces.length)(hm:H[0]?=some .main)(hk:∀D,gN x 1 D->(D.has=false->k (.aJ [aV [],iv 11]) H)/\(D.has=true->k (.aJ [aV (gg (D.aC.getD q 0) x.first 16),iv 0]) H)):aS true BI 41 H [x.av,iv q] k kp:=
 akm hm (λh=>absurd h (by rw[adp hq];simp[wV.2 hx])) λ_ _ _ D hD=>hk D hD
end
def aoo{x:aj}{deep:Int}{D:Kn}(hx:x.Ok)(h:gN x deep D)(hh:D.has=true):jQ x D.first:=by
 obtain⟨p,js,h1,h2,h3,_⟩:=h;have hp:=hx.am;have hj:∀j∈js,j<x.am.toNat+1:=λj hj=>by have:=UB.1 (h2.mem_iff.1 hj);omega
 obtain⟨j,a,t,l,b,c,d⟩:=ab7 hx h3 (h2.nodup_iff.2 Y') hj hh;rw[c];exact aaA (deep:=deep) (j:=j) hx (by have:=hj j a;omega) (by rw[b];simp)
namespace Tk
def tV (x:aj)(t:SD)(i:Nat):SD:=(Tt i).map λp=>t.getD (4+p) 0+x.first
def tW (t:SD)(i:Nat):SD:=(Tt i).map λs=>t.getD (8+s) 0
def akQ(x:aj)(t:SD)(i:Nat):tV x t (i+1)=tV x t i++[t.getD (4+i) 0+x.first]:=by unfold tV;rw[Wb,UA];rfl
def akS(t:SD)(i:Nat):tW t (i+1)=tW t i++[t.getD (8+i) 0]:=by unfold tW;rw[Wb,UA];rfl
def akP(x:aj)(t:SD)(i:Nat):(tV x t i).length=i:=by simp[tV]
def akR(t:SD)(i:Nat):(tW t i).length=i:=by simp[tW]
end Tk
def afa{a a' b b' c c' d d':AV}(h1:Wk a a')(h2:Wk b b')(h3:Wk c c')(h4:Wk d d'):Wk (.aJ [a,b,c,d]) (.aJ [a',b',c',d']):=λE v h=>by
 cases h with
 |aJ hs h=>
  refine .aJ hs λi x e=> ?_
  match i with
  |0=>cases e;exact h1 _ _ (h 0 a rfl)
  |1=>cases e;exact h2 _ _ (h 1 b rfl)
  |2=>cases e;exact h3 _ _ (h 2 c rfl)
  |3=>cases e;exact h4 _ _ (h 3 d rfl)
section
variable {lv:Bool}{H:SA}{k kp:SF}
def akj{x:aj}(hx:x.Ok)(hm:H[0]?=some .main)(hk:∀D,gN x 0 D->(D.has=false->k (.aJ [aV [],aV [],aV [],iv 11]) H)/\(D.has=true->k (.aJ [aV (D.first.take (x.hours.toNat+1)),aV (tV x D.first x.pieces.length),aV (tW D.first x.aq.length),iv 0]) H)):aS true BI 35 H [x.av] k kp:=by
 refine br (rs:=[.tmp 2,.tmp 3,.tmp 4,.tmp 5]) (nt:=64) Tryz.f35 λhH hA=> ?_;simp only[ba,Tq,aj.av];have hp:=hx.am;have hh:=hx.hours;have pA:=hx.ey;have aU:=hx.di;have jD:=hx.first;obtain⟨p,jn⟩:∃p:Nat,x.am=p:=⟨x.am.toNat,by omega⟩;refine ai ?_;refine ab ?_;simp only[seval,TN,TQ,TR];refine aK (A2 (x:=x) hx jn (dW hm) Gi (λh=>by cases h) λ_ js D L mp iX jW eI uj hg=> ?_);have re:gN x 0 D:=⟨p,js,jn,iX,jW,eI⟩;have fV:=Kn.len eI mp;have kG:=v7 D mp;obtain⟨iY,cO⟩:=hk D re;obtain⟨Y,hY⟩:∃Y:SA,Y=[aa.cells x.l 25]++L:=⟨_,rfl⟩;obtain⟨B,hB⟩:∃B,B=H++Y:=⟨_,rfl⟩;have tY:H++[aa.cells x.l 25]++L=B:=by rw[hB,hY,Ev]
 have Bl:∀(L':SA),(B++L')[H.length]?=some (.cells x.l 25):=λL'=>by rw[hB,hY,Ev,TN];rfl
 have bn:∀(L':SA)(j:Nat),(B++L')[B.length+j]?=L'[j]?:=λL' j=>aP B L' j;have wS:∀(L':SA)(j:Nat)(y:aa),(B++L').set (B.length+j) y=B++L'.set j y:=λL' j y=>cG B L' j y;have fW:∀(L':SA)(l1 l2 l3:SD)(e e' AW:End)(m:Int),k (.aJ [aV l1,aV l2,aV l3,iv m]) H->cz H.length (B++L') (.aJ [.sl l1.length (l1.map iv) e,.sl l2.length (l2.map iv) e',.sl l3.length (l3.map iv) AW,iv m]) k:=λL' l1 l2 l3 e e' AW m h=>by rw[hB,Ev];exact dS hH (afa (dQ _ _ _) (dQ _ _ _) (dQ _ _ _) (Wk.refl _)) (by simp[iw,dF,aV,sX]) h
 rw[tY];clear tY hg;(try simp only[seval,aj.av,TQ,fV]);refine⟨xT x,kG,?_⟩;cases jh:D.has with
 |false=>
  have hE:fP D=11:=by rw[fP,jh];rfl
  refine ab ?_;simp only[seval,hE,show ((11:Int)!=0)=true from rfl];refine ao ?_;refine ai ?_;refine aH ?_;exact fW _ [] [] [] .exact .exact .exact 11 (iY jh)
 |true=>
  have hE:fP D=0:=by rw[fP,jh];rfl
  have cO:=cO jh;have rK:=aoo hx re jh;obtain⟨t,ht⟩:∃t,t=D.first:=⟨_,rfl⟩;rw[<- ht]at rK cO;have rJ:=rK.len;obtain⟨pre,abk,Mh⟩:∃pre:SC,pre.length=17/\D.l mp=pre++(t.map iv++[]):=⟨bv D.has:: .mp mp::(D.aC.map (λn=>wv n)++(D.hours.map (λn=>wv n)++(D.less.map (λn=>wv n)++D.bc.map (λn=>wv n)))),by simp[eI.aC,eI.hours,eI.less,eI.bc],by rw[ht];simp[Kn.l]⟩;obtain⟨n,hn⟩:∃n:Nat,x.hours=n:=⟨x.hours.toNat,by omega⟩;have qu:x.hours+1=((n+1:Nat):Int):=by omega
  have bz:Tg.wrap (x.hours+1)=((n+1:Nat):Int):=by rw[bt _ (by omega)];exact qu
  have bi:U7 1 x.l=[iv x.hours,iv x.am,bM x.seen,aG x.pieces,aG x.aq]:=rfl;have vB:U7 4 x.l=[.sl x.pieces.length (x.pieces.flatMap aD.l) .shut,.sl x.aq.length (x.aq.flatMap aD.l) .shut]:=rfl;refine ab ?_;simp only[seval,hE,show ((0:Int)!=0)=false from rfl];refine ao ?_;refine aF ?_;have Df:∀(L':SA),(B++L')[B.length+1]?=L'[1]?:=λL'=>bn L' 1;have AF:∀(L':SA),(B++L')[B.length+2]?=L'[2]?:=λL'=>bn L' 2;have u_:∀(L':SA)(y:aa),(B++L').set (B.length+2) y=B++L'.set 2 y:=λL' y=>wS L' 2 y;have bn3:∀(L':SA),(B++L')[B.length+3]?=L'[3]?:=λL'=>bn L' 3;have bs3:∀(L':SA)(y:aa),(B++L').set (B.length+3) y=B++L'.set 3 y:=λL' y=>wS L' 3 y;have bn4:∀(L':SA),(B++L')[B.length+4]?=L'[4]?:=λL'=>bn L' 4;have bs4:∀(L':SA)(y:aa),(B++L').set (B.length+4) y=B++L'.set 4 y:=λL' y=>wS L' 4 y;refine ab ?_;simp only[seval,Bl,bi,bz,afl];refine⟨by omega,by omega,?_⟩;have po:(D.l mp).drop 17=t.map iv:=by rw[Mh,Ts,XB (by omega),X9 (by omega),Vv]
  have anR:((n:Int)+1).toNat=n+1:=by omega
  have oy:min 4 (n+1)=n+1:=by omega
  have Ei:min 4 11=4:=rfl;have abt:min (n+1) 4=n+1:=by omega
  have aY:U9 (n+1) (U9 4 (We iv t))++U7 (n+1) (We iv (UQ (n+1) 0))=(t.take (n+1)).map iv:=by rw[VF,abt,X9 (by simp),Ts,Xg]
  refine ab ?_;simp only[seval,po,anR,oy,Ei,rJ,abt,Vl,ZR,Df,AF,u_];refine⟨by rw[<- Xg];exact of_eq_true (acm _),?_⟩;rw[aY];obtain⟨tl,NB⟩:∃tl,tl=t.take (n+1):=⟨_,rfl⟩;have abU:tl.length=n+1:=by rw[NB,Vl];omega
  have HE:x.hours.toNat=n:=by omega
  rw[HE,<- NB]at cO;rw[<- NB]
  (repeat apply ii);refine Kd (id:=B.length+2) (by simp only[seval,AF]<;>rfl) ?_;simp only[seval,u_,abU]
  (repeat apply ii);refine QP (t:=2) (y:=aV tl) (by simp only[seval]<;>rfl) ?_ ?_
  ·have e:aV tl=.sl (n+1) ((tl.map iv).take (n+1)) .shut:=by rw[Tu (by simp;omega),aV,abU]
   rw[e];exact Jt (p:=n+1) (by simp only[seval,AF]<;>rfl) (by omega) (by simp;omega)
  (repeat apply ii);refine tM (t:=3) (sz:=1) (el:=3) (by simp only[seval]<;>rfl) ?_;refine ab ?_;simp only[seval,Bl,vB];obtain⟨gl,ko⟩:∃gl:Nat->SD,∀i,gl i=tV x t i:=⟨_,λ_=>rfl⟩;have Eb:gl 0=[]:=by rw[ko];rfl
  have MG:∀i,(gl i).length=i:=λi=>by rw[ko];exact akP _ _ _
  refine bO ?_;refine gU x.pieces.length (λi:Nat=>[(3,.sl (gl i).length ((gl i).map iv) (.opn (B.length+3))),(31,iv i)]) (λi=>B++[.cells x.l 73,.cells (D.l mp) 85,.part (n+1) (tl.map iv) 3,.tail (gl i).length 1 3]) (λi=>True) (λ_ _=>rfl) (by rw[Eb];simp only[seval];simp[bE,Wk.refl]) (by rw[Eb];rfl) (λ_ _ _=>by simp) trivial (λbN cm i ce _ R hR=> ?_);refine ai ?_;refine ao ?_;refine⟨λh=> ?_,λh=> ?_⟩
  ·have bh:i<x.pieces.length:=(by omega);obtain⟨v,hv,hv9,_⟩:=rK.num i bh;have kU:t.getD (4+i) 0=v:=(by rw[Tf,hv];rfl);have b3:(0<=(i:Int)/\(i:Int)<4)=True:=(by simp;omega);have e9:=TL i (by omega);have EF:Tg.wrap ((v:Int)+x.first)=v+x.first:=bt _ (by omega);have Mp:(D.l mp).drop (21+i)=iv v::((t.drop (4+i+1)).map iv++[]):=by have:=GG Mh abk hv;rw[show 21+i=17+(4+i) by omega];exact this
   have dj:gl (i+1)=gl i++[(v:Int)+x.first]:=(by rw[ko,ko,akQ,kU]);have hli:=MG i;refine aF ?_;refine ai ?_;refine cS 10 ?_;simp only[seval,z1,Bl,Df,b3,Mp,EF,TM,bn3,bs3]
   first|refine⟨by decide,by omega,?_⟩|refine⟨by omega,?_⟩
   refine ab ?_;simp only[seval,e9];refine hR _ ⟨bh,trivial,?_⟩;rw[dj,UA,Tp];exact cK
  ·have dL:i=x.pieces.length:=(by omega);subst dL;clear hR;refine bT ?_
   (repeat apply ii);refine tM (t:=4) (sz:=1) (el:=3) (by simp only[seval]<;>rfl) ?_;have H8:(gl x.pieces.length)=tV x t x.pieces.length:=ko _;generalize gl x.pieces.length=nl at H8⊢;refine ab ?_;simp only[seval,Bl,Ta];obtain⟨go,hgo⟩:∃go:Nat->SD,∀i,go i=tW t i:=⟨_,λ_=>rfl⟩;have aa7:go 0=[]:=(by rw[hgo];rfl);have amC:∀i,(go i).length=i:=λi=>(by rw[hgo];exact akR _ _);refine bO ?_;refine gU x.aq.length (λi:Nat=>[(4,.sl (go i).length ((go i).map iv) (.opn (B.length+4))),(49,iv i)]) (λi=>B++[.cells x.l 73,.cells (D.l mp) 85,.part (n+1) (tl.map iv) 3,.tail nl.length 1 3,.tail (go i).length 1 3]) (λi=>True) (λ_ _=>rfl) (by rw[aa7];simp only[seval];simp[bE,Wk.refl]) (by rw[aa7];rfl) (λ_ _ _=>by simp) trivial (λbN cm i ce _ R hR=> ?_);refine ai ?_;refine ao ?_;refine⟨λh=> ?_,λh=> ?_⟩
   ·have bh:i<x.aq.length:=(by omega);obtain⟨v,hv,hv9⟩:=rK.own i bh;have kU:t.getD (8+i) 0=v:=(by rw[Tf,hv];rfl);have b3:(0<=(i:Int)/\(i:Int)<3)=True:=(by simp;omega);have e9:=TL i (by omega);have Mp:(D.l mp).drop (25+i)=iv v::((t.drop (8+i+1)).map iv++[]):=by have:=GG Mh abk hv;rw[show 25+i=17+(8+i) by omega];exact this
    have dj:go (i+1)=go i++[(v:Int)]:=(by rw[hgo,hgo,akS,kU]);have hli:=amC i;refine aF ?_;refine ai ?_;refine ab ?_;simp only[seval,z1,Df,b3,Mp,bn4,bs4]
    first|refine⟨by decide,by omega,?_⟩|refine⟨by omega,?_⟩
    refine ab ?_;simp only[seval,e9];refine hR _ ⟨bh,trivial,?_⟩;rw[dj,UA,Tp];exact cK
   ·have dL:i=x.aq.length:=(by omega);subst dL;clear hR;refine bT ?_;have hxo:(go x.aq.length)=tW t x.aq.length:=hgo _;generalize go x.aq.length=ol at hxo⊢;refine ai ?_;refine aH ?_;rw[<- H8,<- hxo]at cO;exact fW _ tl nl ol .shut _ _ 0 cO
end
open Go.Conc Go.Proofs Go.Gg.Tk
namespace Tk
def acL (n:Int)(o k:Int):Int:=zI [o,max (k-n) (n-k)]
def Fa (l:SD)(n:Int)(o:Int):Int:=l.foldl (acL n) o
def sh (own q:Nat)(m:Int×Nat)(t:SD):Int×Nat:=if m.2.testBit (mY t q)then m else(Fa (gg own 0 16) (mY t q) m.1,m.2|||2^mY t q)
def wK (x:aj)(y:aD)(q:Nat)(o:Int)(h:SD):Int:=if cq h y=0 then o else((jN x 1 h).foldl (sh (cq h y) q) (o,0)).1
def AC (x:aj)(y:aD)(q:Nat):Nat->Int
 |0=> -1
 |i+1=>(kV x i).foldl (wK x y q) (AC x y q i)
def J8 (x:aj)(i:Nat):SA:=[.cells x.l 73,.cells [iv i] 3,.obj (.deferred (some [])),.gone]
def p8 (x:aj):Nat->SA
 |0=>[]
 |i+1=>p8 x i++J8 x i
def yq (n:Nat):Nat->SE
 |0=>[]
 |i+1=>(n+4* i+2)::yq n i
def J9(x:aj):∀i,(p8 x i).length=4* i
 |0=>rfl
 |i+1=>by rw[p8,Tp,J9 x i];rfl
def Qs(x:aj)(B:SA):∀(i:Nat)(L:SA),∃Y,jd (yq B.length i) (B++p8 x i++L)=some (B++Y)
 |0,L=>⟨p8 x 0++L,by rw[yq,A_,Ev]⟩
 |i+1,L=>by
  have hl:(B++p8 x i).length=B.length+4* i:=by rw[Tp,J9]
  have e:B++p8 x (i+1)++L=(B++p8 x i)++(J8 x i++L):=by rw[p8];simp
  have hg:((B++p8 x i)++(J8 x i++L))[B.length+4* i+2]?=some (.obj (.deferred (some []))):=by rw[<- hl,aP];rfl
  obtain⟨Y,hY⟩:=Qs x B i ([.cells x.l 73,.cells [iv i] 3,.gone,.gone]++L);refine⟨Y,?_⟩;rw[yq,e,A9 hg,<- hl,cG];exact hY
end Tk
def ahv{lv:Bool}{P:Tl}{nt:Nat}{c:U5}{s:AS}{ms:SE}{Φ:SN}(h:kM lv P nt [] c s ms Φ):m9 lv P nt c s ms Φ:=λE V a Q ak hd hQ=>h E V a Q ak ⟨by rw[Ts];exact hd.1,hd.2⟩ λae e E' V' a' s' cP hk aX cM he hΦ=>hQ ae e E' V' a' s' cP hk aX ⟨by have:=cM.1;rwa[Ts]at this,cM.2⟩ he hΦ
section
variable {lv:Bool}{H:SA}{k kp:SF}
def Td{H:List aa}:∀(L:SA)(y:aa),(H++L).set (H.length+5) y=H++L.set 5 y:=λL y=>cG H L 5 y
def Tc{H:List aa}:∀(L:SA),(H++L)[H.length+5]?=L[5]?:=λL=>aP H L 5
def akf{x:aj}{s q:Nat}{y:aD}(hx:x.Ok)(hs:x.aq[s]?=some y)(hq:q<x.pieces.length)(hm:H[0]?=some .main)(hk:∀o:Int,o=AC (x.wo [(s:Int)]) y q (x.am.toNat+1)->k (.aJ [iv (if o<0 then 0 else o),iv (if o<0 then 11 else 0)]) H):aS lv BI 27 H [x.av,iv s,iv q] k kp:=by
 refine aag (rs:=[.tmp 6,.tmp 7]) (nt:=97) F.f27 rfl rfl rfl (by simp) λhH hA=> ?_;simp only[ba,Tq,aj.av];have hp:=hx.am;have aU:=hx.di;have pA:=hx.ey;have cy:=eF hs;have oC:=adp hq;obtain⟨p,jn⟩:∃p:Nat,x.am=p:=⟨x.am.toNat,by omega⟩;obtain⟨w,hw⟩:∃w,w=x.wo [(s:Int)]:=⟨_,rfl⟩;have nH:w.Ok:=by rw[hw];exact hx.wo _
 have hd6:∀(L:SA),(H++L)[H.length+6]?=L[6]?:=λL=>aP H L 6;have hs6:∀(L:SA)(y:aa),(H++L).set (H.length+6) y=H++L.set 6 y:=λL y=>cG H L 6 y;have D6:U7 2 x.l=[iv x.am,bM x.seen,aG x.pieces,aG x.aq]:=rfl;have G0:(1<=2^24)=True:=eq_true (by decide);(try refine n4 ?_);refine ai ?_;(try refine n4 ?_);refine ab ?_;simp only[seval,TN,TQ,TR];refine aK (Dp (x:=x) (dW hm) ?_);rw[wV.2 hx];(try simp only[seval]);(try refine n4 ?_);refine ab ?_;simp only[seval,show ((0:Int)!=0)=false from rfl];(try refine n4 ?_);refine ao ?_;refine aF ?_;(try refine n4 ?_);refine ab ?_;simp only[seval,z1,G0,TN,TP,TQ,TR];refine aK (K9 (x:=x) (ns:=[(q:Int)]) ?_);have bz:Tg.wrap ((x.aq.length:Int)-1)=(x.aq.length:Int)-1:=bt _ (by omega);have me:(decide ((s:Int)<0)||decide ((s:Int)>(x.aq.length:Int)-1))=false:=by simp;omega
 (try simp only[seval]);refine aK (K2 (x:=x) (ns:=[(q:Int)]) (e:=.exact) (il:=H.length+4) (ir:=H.length+3) hx (by simp) (by rw[TY];rfl) (by rw[TY];rfl) ?_);rw[oC];(try simp only[seval,TN,TO,Ta,bz]);refine aK (tT (n:=s) (lo:=0) (hi:=(x.aq.length:Int)-1) ?_);rw[me];(try simp only[seval]);(try refine n4 ?_);refine ao ?_;refine aF ?_;(try refine n4 ?_);have alZ:uR [(s:Int)] x.aq.length:=λi n hn=>by
  match i,hn with
  |0,hn=>cases hn;simp;omega
 refine ab ?_;simp only[seval,z1,G0,TN,TO,TQ,TR];refine aK (Sk (x:=x) (ns:=[(s:Int)]) aU alZ ?_);rw[<- hw];have sS:w.l.length=6:=rfl;have vW:U9 6 w.l=w.l:=rfl;have hlw:w.l=[iv w.first,iv w.hours,iv w.am,bM w.seen,aG w.pieces,aG w.aq]:=rfl;have EJ:U7 6 [AV.val (S_ Tg 0),AV.val (S_ Tg 0),AV.val (S_ Tg 0),AV.sl 0 [] .exact,AV.sl 0 [] .exact,AV.sl 0 [] .exact]=[]:=rfl;(try simp only[seval,aj.av,sS,vW,Tc,Td,hd6,hs6,EJ]);refine⟨xT w,?_⟩;have f_:Tg.wrap (x.am+1)=((p+1:Nat):Int):=by rw[jn,bt _ (by omega)];rfl
 refine Kg ?_;refine n4 ?_;refine ab ?_;simp only[seval,TN,D6,f_];obtain⟨Bo,su⟩:∃Bo:Int->SA,∀o,Bo o=H++[.cells x.l 25,.cells [iv s] 3,.cells [iv q] 3,.cells x.l 25,.cells [.sl 1 [iv q] .exact] 30,.cells w.l 73,.cells [iv o] 3]:=⟨_,λ_=>rfl⟩;have gH:∀o,(Bo o).length=H.length+7:=λo=>by rw[su];simp
 have b0:∀o L,(Bo o++L)[H.length]?=some (.cells x.l 25):=λo L=>by rw[su,Ev,TN];rfl
 have b1:∀o L,(Bo o++L)[H.length+1]?=some (.cells [iv s] 3):=λo L=>by rw[su,Ev,TY];rfl
 have b2:∀o L,(Bo o++L)[H.length+2]?=some (.cells [iv q] 3):=λo L=>by rw[su,Ev,TY];rfl
 have b5:∀o L,(Bo o++L)[H.length+5]?=some (.cells w.l 73):=λo L=>by rw[su,Ev,TY];rfl
 have b6:∀o L,(Bo o++L)[H.length+6]?=some (.cells [iv o] 3):=λo L=>by rw[su,Ev,TY];rfl
 have s6:∀o o' L,(Bo o++L).set (H.length+6) (.cells [iv o'] 3)=Bo o'++L:=λo o' L=>by rw[su,su,Ev,Ev,TZ];rfl
 obtain⟨fo,xj⟩:∃fo:Nat->Int,∀i,fo i=AC w y q i:=⟨_,λ_=>rfl⟩;refine ahv ?_;refine yu ?_;refine QR (measure λi=>p+1-i).wf (λi:Nat=>⟨[(45,iv i),(44,iv ((p+1:Nat):Int)),(3,.op H.length 0),(4,.op (H.length+1) 0),(5,.op (H.length+2) 0),(9,.op (H.length+5) 0),(10,.op (H.length+6) 0)],Bo (fo i)++p8 w i⟩) (λi=>yq (H.length+7) i) (λi=>i<=p+1) 0 (ep (by simp only[seval];simp[bE,Wk.refl]) (by rw[su,xj];show _=_++[];rw[Ts];rfl)) rfl (by omega) λi pt=> ?_;obtain⟨N,hN⟩:∃N,N=H.length+7+4* i:=⟨_,rfl⟩;obtain⟨AO,q_⟩:∃AO:Int->SA,∀o,AO o=Bo o++p8 w i:=⟨_,λ_=>rfl⟩;have rc:∀o,(AO o).length=N:=λo=>by rw[q_,Tp,gH,J9,hN]
 have a0:∀o L,(AO o++L)[H.length]?=some (.cells x.l 25):=λo L=>by rw[q_,Ev];exact b0 _ _
 have a1:∀o L,(AO o++L)[H.length+1]?=some (.cells [iv s] 3):=λo L=>by rw[q_,Ev];exact b1 _ _
 have a2:∀o L,(AO o++L)[H.length+2]?=some (.cells [iv q] 3):=λo L=>by rw[q_,Ev];exact b2 _ _
 have a5:∀o L,(AO o++L)[H.length+5]?=some (.cells w.l 73):=λo L=>by rw[q_,Ev];exact b5 _ _
 have a50:∀o,(AO o)[H.length+5]?=some (.cells w.l 73):=λo=>by have:=a5 o [];rwa[Ts]at this
 have a6:∀o L,(AO o++L)[H.length+6]?=some (.cells [iv o] 3):=λo L=>by rw[q_,Ev];exact b6 _ _
 have as6:∀o o' L,(AO o++L).set (H.length+6) (.cells [iv o'] 3)=AO o'++L:=λo o' L=>by rw[q_,q_,Ev,Ev];exact s6 _ _ _
 have ag:∀o (L:SA)(j:Nat),(AO o++L)[N+j]?=L[j]?:=λo L j=>by rw[<- rc o,aP]
 have u6:∀o (L:SA)(j:Nat)(y:aa),(AO o++L).set (N+j) y=AO o++L.set j y:=λo L j y=>by rw[<- rc o,cG]
 have OH:∀m o o',(∀z∈AO o,fw m z)->∀z∈AO o',fw m z:=λm o o' hz z fF=>by rw[q_,su]at hz fF;simp only[T1]at fF;rcases fF with(h'|h')|h';exact hz z (by simp[h']);simp only[Tm,T5,or_false]at h';rcases h' with rfl|rfl|rfl|rfl|rfl|rfl|rfl;exact hz _ (by simp);exact hz _ (by simp);exact hz _ (by simp);exact hz _ (by simp);exact hz _ (by simp);exact hz _ (by simp);intro a ha;rw[Ub]at ha;subst ha;exact .val _;exact hz z (by simp[h'])
 have okX:∀(X:SA) o o',bJ (AO o++X)->bJ (AO o'++X):=λX o o' hX z hz=>by
  have hlen:(AO o'++X).length=(AO o++X).length:=by simp[rc]
  rw[hlen];rcases T1.1 hz with h'|h';exact OH _ o o' (λz hz=>hX z (Uk _ hz)) z h';exact hX z (T7 _ h')
 rw[<- q_];refine tN ?_;refine ai ?_;refine tN ?_;refine ao ?_;refine⟨λhc=> ?_,λhc=> ?_⟩
 ·have ru:i<=3:=by omega
  have LO:=FI nH i ru;refine aF ?_;refine Gn ?_;refine yu ?_;refine tN ?_;refine ai ?_;refine tN ?_;refine ab ?_;simp only[seval,a50,hlw];refine aK (La (x:=w) (n:=i) ?_);rw[rc];(try simp only[seval]);refine yu ?_;refine Kh (by rfl) λl fn T Qp bo hT yV rn=> ?_;(try simp only[seval]);rw[rc];have hY:j8 lv BI (.fn (.yield l) [] []) (λo h=> .go (wK w y q o h)) (λo=>AO o++[.cells w.l 73,.cells [iv i] 3,.obj (.deferred (some [])),.loop l .ready none fn T 97 #[51] Qp bo (N+2)]) (N+4) (λ_=>True) (λh=>nc h/\∀ns∈gM w h,∀a∈(iS w h ns).map (dM h ns),jQ w a) (.aJ []):=by
   refine⟨λo h M k kp _ ha dY=> ?_,λ_ _ _ _ _ _=>trivial,λo=>by simp[rc],λm o o' hz z fF=> ?_,rfl,rfl,rfl⟩
   ·obtain⟨qn,EB⟩:=ha;have h4:=qn.len;have oh:(h.map iv).length=4:=(by rw[Um,h4]);simp only[db]at dY;obtain⟨Lo,lD⟩:∃Lo,Lo=aa.loop l .busy none fn T 97 #[51] Qp bo (N+2):=⟨_,rfl⟩;obtain⟨C,hC⟩:∃C,C=N+4+M.length:=⟨_,rfl⟩;obtain⟨P1,dI⟩:∃P1:Int->SA,∀o,P1 o=AO o++([.cells w.l 73,.cells [iv i] 3,.obj (.deferred (some [])),Lo]++M):=⟨_,λ_=>rfl⟩;have eM:∀o,(P1 o).length=C:=λo=>(by rw[dI,hC];simp[rc];omega);have p0:∀o L,(P1 o++L)[H.length]?=some (.cells x.l 25):=λo L=>(by rw[dI,Ev];exact a0 _ _);have p1:∀o L,(P1 o++L)[H.length+1]?=some (.cells [iv s] 3):=λo L=>(by rw[dI,Ev];exact a1 _ _);have p2:∀o L,(P1 o++L)[H.length+2]?=some (.cells [iv q] 3):=λo L=>(by rw[dI,Ev];exact a2 _ _);have p5:∀o L,(P1 o++L)[H.length+5]?=some (.cells w.l 73):=λo L=>(by rw[dI,Ev];exact a5 _ _);have p6:∀o L,(P1 o++L)[H.length+6]?=some (.cells [iv o] 3):=λo L=>(by rw[dI,Ev];exact a6 _ _);have ps6:∀o o' L,(P1 o++L).set (H.length+6) (.cells [iv o'] 3)=P1 o'++L:=λo o' L=>(by rw[dI o,dI o',Ev (AO o),Ev (AO o')];exact as6 _ _ _);have OT:∀o L,(P1 o++L)[N+3]?=some Lo:=λo L=>(by rw[dI,Ev,ag];rfl);have Pa:∀o (L:SA) y,(P1 o++L).set (N+3) y=AO o++([.cells w.l 73,.cells [iv i] 3,.obj (.deferred (some [])),y]++M)++L:=λo L y=>(by rw[dI,Ev,u6];simp);have pb:∀o (L:SA)(j:Nat),(P1 o++L)[C+j]?=L[j]?:=λo L j=>(by rw[<- eM o,aP]);have xP:∀o (L:SA),(P1 o++L)[C]?=L[0]?:=λo L=>pb o L 0;have pb1:∀o (L:SA),(P1 o++L)[C+1]?=L[1]?:=λo L=>pb o L 1;have pb2:∀o (L:SA),(P1 o++L)[C+2]?=L[2]?:=λo L=>pb o L 2;have Ca:∀o (L:SA)(j:Nat)(y:aa),(P1 o++L).set (C+j) y=P1 o++L.set j y:=λo L j y=>(by rw[<- eM o,cG]);have ps1:∀o (L:SA)(y:aa),(P1 o++L).set (C+1) y=P1 o++L.set 1 y:=λo L y=>Ca o L 1 y;have ps2:∀o (L:SA)(y:aa),(P1 o++L).set (C+2) y=P1 o++L.set 2 y:=λo L y=>Ca o L 2 y;have B1:∀m o o',(∀z∈P1 o,fw m z)->∀z∈P1 o',fw m z:=λm o o' hz z fF=>by rw[dI]at hz fF;rcases T1.1 fF with h'|h';exact OH m o o' (λz vY=>hz z (Uk _ vY)) z h';exact hz z (T7 _ h')
    subst hT yV rn;rw[Ev];refine wT (id:=N+3) (by rw[ag];rfl) rfl (by kernel_rfl) λpc LP=> ?_;simp only[tu];have xh:U7 4 [iv 0,iv 0,iv 0,iv 0]=[]:=rfl;refine ab ?_;simp only[seval,h4,xh];unfold uZ;refine⟨none,fn,_,97,#[51],_,_,_,by rw[ag];rfl,?_⟩;dsimp only;rw[u6];simp only[Vs,U1];rw[<- lD];have yQ:(AO o).length+(M.length+1+1+1+1)=C:=(by rw[rc,hC];omega);rw[yQ];have za:∀z:aa,(AO o++aa.cells w.l 73::aa.cells [AV.val (S_ Tg ↑i)] 3::aa.obj (ag' (some []))::Lo::(M++[z]))=P1 o++[z]:=λz=>(by rw[dI];simp[iv]);rw[za];obtain⟨own,eO⟩:∃own,own=cq h y:=⟨_,rfl⟩;refine bO ?_;refine mC [7,8] (Tt 9) (λD=>bif isDone 8 D then P1 o++[.cells (h.map iv) 80,.cells [wv own] 76]else bif isDone 7 D then P1 o++[.cells (h.map iv) 80,.cells [.val (.int .u16 0)] 76]else P1 o++[.cells (h.map iv) 80]) ?_;simp only[seval,eM,xP,pb1,ps1,p0,p1,h4,oh,Ta,oR hs,fy cy];have hmE:U9 4 (We (λn=>AV.val (S_ Tg n)) h)=h.map iv:=Tu (by rw[oh];exact Tv _);rw[hmE];refine dG (wv own) (bX (GJ (h:=h) (y:=y) qn ⟨by rw[eO],rfl⟩)) ?_;refine⟨dG (wv own) (bX (GJ (h:=h) (y:=y) qn ⟨by rw[eO],rfl⟩)) rfl,?_⟩;(try simp only[seval,wv]);have hm3:We (λn=>AV.val (S_ Tg n)) h=h.map iv:=rfl;rw[hm3];refine ab ?_;simp only[seval,pb1];refine ao ?_;refine⟨λhz=> ?_,λhz=> ?_⟩
    ·refine bT ?_;have fF:own=0:=(by simpa using hz);have e1:wK w y q o h=o:=(by unfold wK;rw[<- eO,if_pos fF]);rw[e1]at dY;show pY _ _ _ _ _ _ _;refine⟨l,.busy,none,fn,_,97,#[51],_,_,N+2,by show (P1 _++_)[_]?=_;rw[OT,lD],?_⟩;show cz C ((P1 _++_).set _ _) _ k;rw[Pa];rw[Ev]at dY;exact jy (G:=[.cells (h.map iv) 80,.cells [wv own] 76]) (Wk.refl _) rfl (by rw[hC];simp[rc];omega) pc (.val _) dY
    ·refine aF ?_;refine ab ?_;simp only[seval,eM];refine ab ?_;simp only[seval,p5,xP,hlw,h4,oh];have amU:U9 4 (We iv h)=h.map iv:=Tu (by rw[oh];exact Tv _);rw[amU];refine aK (Lb (x:=w) (h:=h) (deep:=1) ?_);(try simp only[seval]);have fF:own≠0:=(by simpa using hz);have am5:own<65536:=by rw[eO];have:cq h y<2^9:=Gq;omega
     refine bO ?_;refine Gl (N+3) (by rfl) (by show (P1 _++_)[N+3]?=_;rw[OT,lD]) λl2 fj T2 ig ij pf yW yY=> ?_;simp only[seval];rw[eM]at pf⊢;have okm:∀v m m',(∀z∈[aa.cells (h.map iv) 80,.cells [wv own] 76,.cells [wv m] 76,.cells w.l 73,.cells (h.map iv) 80,.cells [iv 1] 3,.loop l2 .ready none fj T2 97 #[64] ig ij (N+2)],fw v z)->∀z∈[aa.cells (h.map iv) 80,.cells [wv own] 76,.cells [wv m'] 76,.cells w.l 73,.cells (h.map iv) 80,.cells [iv 1] 3,.loop l2 .ready none fj T2 97 #[64] ig ij (N+2)],fw v z:=λv m m' hz z fF=>by simp only[Tm,T5,or_false]at fF;rcases fF with rfl|rfl|rfl|rfl|rfl|rfl|rfl;exact hz _ (by simp);exact hz _ (by simp);intro a ha;rw[Ub]at ha;subst ha;exact .val _;exact hz _ (by simp);exact hz _ (by simp);exact hz _ (by simp);exact hz (.loop l2 .ready none fj T2 97 #[64] ig ij (N+2)) (by simp)
     have yU:j8 lv BI (.fn (.yield l2) [] []) (λm t=> .go (sh own q m t)) (λm:Int×Nat=>P1 m.1++[.cells (h.map iv) 80,.cells [wv own] 76,.cells [wv m.2] 76,.cells w.l 73,.cells (h.map iv) 80,.cells [iv 1] 3,.loop l2 .ready none fj T2 97 #[64] ig ij (N+2)]) (C+7) (λm=>m.2<65536) (jQ w) (.aJ []):=by
      refine⟨λm t M2 k2 zG hm ht lK=> ?_,λm t m' hm ht he=> ?_,λm=>by simp[eM],λv m m' hz z fF=> ?_,rfl,rfl,rfl⟩
      ·obtain⟨o2,met⟩:=m;replace hm:met<65536:=hm;have rJ:=ht.len;have BL:(t.map iv).length=11:=(by rw[Um,rJ]);simp only[db]at lK;have H6:w.pieces.length=x.pieces.length:=(by rw[hw];rfl);obtain⟨n,gL,hn9,_⟩:=ht.num q (by rw[H6];exact hq);have HV:mY t q=n:=(by unfold mY;rw[Tf,gL];rfl);obtain⟨qR,tZ⟩:∃Lo,Lo=aa.loop l2 .busy none fj T2 97 #[64] ig ij (N+2):=⟨_,rfl⟩;obtain⟨D,hD⟩:∃D,D=C+7+M2.length:=⟨_,rfl⟩;obtain⟨Q1,gX⟩:∃Q1:Int->Nat->SA,∀o m,Q1 o m=P1 o++([.cells (h.map iv) 80,.cells [wv own] 76,.cells [wv m] 76,.cells w.l 73,.cells (h.map iv) 80,.cells [iv 1] 3,qR]++M2):=⟨_,λ_ _=>rfl⟩;have hQl:∀o m,(Q1 o m).length=D:=λo m=>(by rw[gX,hD];simp[eM];omega);have q2:∀o m L,(Q1 o m++L)[H.length+2]?=some (.cells [iv q] 3):=λo m L=>(by rw[gX,Ev];exact p2 _ _);have q6:∀o m L,(Q1 o m++L)[H.length+6]?=some (.cells [iv o] 3):=λo m L=>(by rw[gX,Ev];exact p6 _ _);have qs6:∀o o' m L,(Q1 o m++L).set (H.length+6) (.cells [iv o'] 3)=Q1 o' m++L:=λo o' m L=>(by rw[gX o,gX o',Ev (P1 o),Ev (P1 o')];exact ps6 _ _ _);have qo:∀o m L,(Q1 o m++L)[C+1]?=some (.cells [wv own] 76):=λo m L=>(by rw[gX,Ev,pb];rfl);have qm:∀o m L,(Q1 o m++L)[C+2]?=some (.cells [wv m] 76):=λo m L=>(by rw[gX,Ev,pb];rfl);have qsm:∀o m m' L,(Q1 o m++L).set (C+2) (.cells [wv m'] 76)=Q1 o m'++L:=λo m m' L=>(by rw[gX o m,gX o m',Ev (P1 o),Ca,Ev (P1 o)];rfl);have ql:∀o m L,(Q1 o m++L)[C+6]?=some qR:=λo m L=>(by rw[gX,Ev,pb];rfl);have qsl:∀o m L y,(Q1 o m++L).set (C+6) y=(P1 o++([.cells (h.map iv) 80,.cells [wv own] 76,.cells [wv m] 76,.cells w.l 73,.cells (h.map iv) 80,.cells [iv 1] 3,y]++M2))++L:=λo m L y=>(by rw[gX,Ev,Ca];simp);have qc:∀o m (L:SA),(Q1 o m++L)[D]?=L[0]?:=λo m L=>(by rw[<- hQl o m];exact aP _ L 0);have IV:∀o (L:SA),(P1 o++L)[C+6]?=L[6]?:=λo L=>pb o L 6;have ue:∀(o':Int)(m':Nat)(G:SA),bJ (P1 o2++([aa.cells (h.map iv) 80,.cells [wv own] 76,.cells [wv met] 76,.cells w.l 73,.cells (h.map iv) 80,.cells [iv 1] 3,.loop l2 .ready none fj T2 97 #[64] ig ij (N+2)]++M2))->k2 (.val (.bool true)) (P1 o'++([aa.cells (h.map iv) 80,.cells [wv own] 76,.cells [wv m'] 76,.cells w.l 73,.cells (h.map iv) 80,.cells [iv 1] 3,.loop l2 .ready none fj T2 97 #[64] ig ij (N+2)]++M2))->cz D ((Q1 o' m'++G).set (C+6) (.loop l2 .ready none fj T2 97 #[64] ig ij (N+2))) (.val (.bool true)) k2:=λo' m' G an aO=>by rw[qsl];refine jy (G:=G) (Wk.refl _) rfl (by rw[hD];simp[eM];omega) ?_ (.val _) aO;intro z hz;have hlen:(P1 o'++([aa.cells (h.map iv) 80,.cells [wv own] 76,.cells [wv m'] 76,.cells w.l 73,.cells (h.map iv) 80,.cells [iv 1] 3,.loop l2 .ready none fj T2 97 #[64] ig ij (N+2)]++M2)).length=(P1 o2++([aa.cells (h.map iv) 80,.cells [wv own] 76,.cells [wv met] 76,.cells w.l 73,.cells (h.map iv) 80,.cells [iv 1] 3,.loop l2 .ready none fj T2 97 #[64] ig ij (N+2)]++M2)).length:=(by simp[eM]);rw[hlen];rcases T1.1 hz with h'|h';exact B1 _ o2 o' (λz hz=>an z (Uk _ hz)) z h';rcases T1.1 h' with h'|h';exact okm _ met m' (λz hz=>an z (T7 _ (Uk _ hz))) z h';exact an z (T7 _ (T7 _ h'))
       subst pf yW yY;rw[Ev];refine wT (id:=C+6) (by rw[IV];rfl) rfl (by kernel_rfl) λsw LQ=> ?_;simp only[tu];have D6:U7 11 [iv 0,iv 0,iv 0,iv 0,iv 0,iv 0,iv 0,iv 0,iv 0,iv 0,iv 0]=[]:=rfl;refine ab ?_;simp only[seval,rJ,D6];unfold uZ;refine⟨none,fj,_,97,#[64],_,_,_,by rw[IV];rfl,?_⟩;dsimp only;rw[Ca];simp only[Vs,U1];rw[<- tZ];have DI:(P1 o2).length+(M2.length+1+1+1+1+1+1+1)=D:=(by rw[eM,hD];omega);rw[DI];have jg:∀z:aa,(P1 o2++aa.cells (We iv h) 80::aa.cells [AV.val (S_ Ua ↑own)] 76::aa.cells [AV.val (S_ Ua ↑met)] 76::aa.cells w.l 73::aa.cells (We iv h) 80::aa.cells [AV.val (S_ Tg 1)] 3::qR::(M2++[z]))=Q1 o2 met++[z]:=λz=>(by rw[gX];simp[iv]);rw[jg];have b4:(0<=(q:Int)/\(q:Int)<4)=True:=(by simp;omega);have lF:=lx (i:=4+q) gL;refine ab ?_;simp only[seval,q2,qc,b4,lF];refine ab ?_;simp only[seval,qm];refine aK (yI (m:=met) (n:=n) hm ?_);(try simp only[seval]);refine ao ?_;refine⟨λhb=> ?_,λhb=> ?_⟩
       ·refine bT ?_;have e1:sh own q (o2,met) t=(o2,met):=(by unfold sh;rw[HV,if_pos hb]);rw[e1]at lK;rw[Ev]at lK;show pY _ _ _ _ _ _ _;refine⟨l2,.busy,none,fj,_,97,#[64],_,_,N+2,by show (Q1 _ _++_)[_]?=_;rw[ql,tZ],?_⟩;exact ue o2 met _ sw lK
       ·refine aF ?_;have de:met.testBit n=false:=(by simpa using hb);have e1:sh own q (o2,met) t=(Fa (gg own 0 16) n o2,met|||2^n):=(by unfold sh;rw[HV,if_neg (by simpa using hb)]);rw[e1]at lK;rw[Ev]at lK;refine ab ?_;simp only[seval,qm];refine aK (vn (m:=met) (n:=n) hm (by omega) ?_);(try simp only[seval,qm,qsm,wv]);refine ab ?_;simp only[seval,qo];refine aK (K_ (s:=own) (more:=0) am5 (by decide) ?_);(try simp only[seval,aV]);have hlb:∀v∈gg own 0 16,0<=v/\v<16:=λv hv=>by unfold gg at hv;obtain⟨j,hj,rfl⟩:=Uh.1 hv;have:=UB.1 (Vx.1 hj).1;omega
        have fE:=Oh own 0 16;generalize gg own 0 16=ls at hlb fE lK⊢;obtain⟨oj,kW⟩:∃oj:Nat->Int,∀j,oj j=Fa (ls.take j) n o2:=⟨_,λ_=>rfl⟩;have am7:oj 0=o2:=(by rw[kW];rfl);generalize met|||2^n=acF at lK⊢;refine bO ?_;refine gU ls.length (λj:Nat=>[(78,iv j)]) (λj=>Q1 (oj j) acF++[.cells (t.map iv) 83]) (λ_=>True) (λ_ _=>rfl) (by simp only[seval];simp[bE,Wk.refl]) (by rw[am7]) (λ_ _ _=>by simp[hQl]) trivial (λbN cm j qq _ R hR=> ?_);clear bN cm;refine ai ?_;refine ao ?_;refine⟨λh1=> ?_,λh1=> ?_⟩
        ·have fM:j<ls.length:=(by omega);obtain⟨v,hv⟩:=bF fM;have hvb:=hlb v (sZ hv);have dj:oj (j+1)=acL n (oj j) v:=by rw[kW,kW,Fa,Fa];obtain⟨amM,zw⟩:=Tn.1 hv;rw[VH amM,Y1,zw];rfl
         have hwa:Tg.wrap (v-(n:Int))=v-n:=bt _ (by omega);have H5:Tg.wrap ((n:Int)-v)=n-v:=bt _ (by omega);have e9:=TL j (by omega);have alM:(2<=2^24)=True:=eq_true (by decide);refine aF ?_;refine ab ?_;simp only[seval,dn hv,fy fM];refine ab ?_;simp only[seval,q6,z2,alM,hwa,H5];have xv:(if v-(n:Int)<(n:Int)-v then(n:Int)-v else v-(n:Int))=max (v-n) (n-v):=(by split<;>omega);rw[xv];refine aK (akJ (ns:=[oj j,max (v-n) (n-v)]) (by simp) ?_);(try simp only[seval,q6,qs6]);refine ab ?_;simp only[seval,e9];refine hR _ ⟨fM,trivial,?_⟩;rw[dj];exact cK
        ·have zg:j=ls.length:=(by omega);subst zg;refine bT ?_;show pY _ _ _ _ _ _ _;refine⟨l2,.busy,none,fj,_,97,#[64],_,_,N+2,by show (Q1 _ _++_)[_]?=_;rw[ql,tZ],?_⟩;exact ue (oj ls.length) acF _ sw (by rw[kW,Ux];exact lK)
      ·cases he;show (sh own q m t).2<65536;unfold sh;split;exact hm;obtain⟨n,gL,hn9,_⟩:=ht.num q (by rw[hw];exact hq);have HV:mY t q=n:=(by unfold mY;rw[Tf,gL];rfl);rw[HV];exact qI hm (x7 (by omega))
      ·rcases T1.1 fF with h'|h';exact B1 v m.1 m'.1 (λz vY=>hz z (Uk _ vY)) z h';exact okm v m.2 m'.2 (λz vY=>hz z (T7 _ vY)) z h'
     refine bX (K5 (x:=w) (h:=h) (deep:=1) (ir:=C+3) (ih:=C+3+1) (id:=C+3+2) (σ:=(o,0)) nH qn yU (λm L=> ?_) (λm L=> ?_) (λm L=> ?_) (λn=>by simp[iw]) (show (0:Nat)<65536 by decide) (λa ha=>ha.len) EB ?_);rw[Ev];exact pb _ _ 3;rw[Ev];exact pb _ _ 4;rw[Ev];exact pb _ _ 5;rw[Fu (g:=sh own q) (λ_ _=>rfl)];simp only[gQ,Ts];have e1:wK w y q o h=((jN w 1 h).foldl (sh own q) (o,0)).1:=(by unfold wK;rw[<- eO,if_neg fF]);generalize(jN w 1 h).foldl (sh own q) (o,0)=r at e1⊢;rw[e1]at dY;have IV:∀o (L:SA),(P1 o++L)[C+6]?=L[6]?:=λo L=>pb o L 6;refine⟨.ready,none,_,_,_,_,_,_,_,by rw[IV];rfl,by decide,?_⟩;rw[Ca,IY];(try simp only[seval]);show pY _ _ _ _ _ _ _;refine⟨l,.busy,none,fn,_,97,#[51],_,_,N+2,by show (P1 _++_)[_]?=_;rw[OT,lD],?_⟩;show cz C ((P1 _++_).set _ _) _ k;rw[Pa];rw[Ev]at dY;exact jy (G:=[.cells (h.map iv) 80,.cells [wv own] 76,.cells [wv r.2] 76,.cells w.l 73,.cells (h.map iv) 80,.cells [iv 1] 3,.gone]) (Wk.refl _) rfl (by rw[hC];simp[rc];omega) (okX _ o r.1 pc) (.val _) dY
   ·rcases T1.1 fF with h'|h';exact OH m o o' (λz vY=>hz z (Uk _ vY)) z h';exact hz z (T7 _ h')
  refine bX (K3 (x:=w) (bw:=i) (ir:=N) (it:=N+1) (σ:=fo i) nH hY (λo L=> ?_) (λo L=> ?_) ru (λn=>by simp[iw]) trivial (λa ha=>LO a ha) ?_);rw[Ev];exact ag _ _ 0;rw[Ev];exact ag _ _ 1;rw[Fu (g:=wK w y q) (λ_ _=>rfl)];simp only[gQ,Ts];have hfx:(kV w i).foldl (wK w y q) (fo i)=fo (i+1):=by rw[xj,xj,AC]
  rw[hfx];have zA:=TL i (by omega);refine⟨.ready,none,_,_,_,_,_,_,_,by show (AO _++_)[N+3]?=_;rw[ag];rfl,by decide,?_⟩;rw[show N+2+1=N+3 from rfl,u6,IX];(try simp only[seval]);refine Gm ?_;refine ab ?_;simp only[seval,zA];refine⟨i+1,?_,by omega,ep (by push_cast;simp only[seval];simp[bE,Wk.refl]) (by rw[q_,p8,Ev];rfl),by rw[yq,hN]⟩;show p+1-(i+1)<p+1-i;omega
 ·have dL:i=p+1:=by omega
  subst dL;refine bT ?_;have J4:∀o,(AO o)[H.length+6]?=some (.cells [iv o] 3):=λo=>by have:=a6 o [];rwa[Ts]at this
  have oD:x.am.toNat=p:=by omega
  rw[oD]at hk;have aO:=hk (fo (p+1)) (by rw[xj,hw]);generalize fo (p+1)=o at aO⊢;(try refine n4 ?_);refine ab ?_;simp only[seval,J4];obtain⟨Y,w_⟩:=Qs w (Bo o) (p+1) [];rw[Ts,gH]at w_;have hYo:jd (yq (H.length+7) (p+1)) (AO o)=some (H++([.cells x.l 25,.cells [iv s] 3,.cells [iv q] 3,.cells x.l 25,.cells [.sl 1 [iv q] .exact] 30,.cells w.l 73,.cells [iv o] 3]++Y)):=by rw[q_,w_,su,Ev]
  (try refine n4 ?_);refine ao ?_;refine⟨λho=> ?_,λho=> ?_⟩;have bl:o<0:=(by simpa using ho);rw[if_pos bl,if_pos bl]at aO;refine ai ?_;refine aH ?_;refine eB hYo ?_;(try simp only[seval]);exact dS hH (Wk.refl _) (by simp[iw,dF]) aO;(have bl:¬o<0:=(by simpa using ho);rw[if_neg bl,if_neg bl]at aO;refine aF ?_;refine Kf ?_;have J4:∀o,(AO o)[H.length+6]?=some (.cells [iv o] 3):=λo=>(by have:=a6 o [];rwa[Ts]at this);refine ab ?_;simp only[seval,J4];refine aH ?_;refine eB hYo ?_;(try simp only[seval]);exact dS hH (Wk.refl _) (by simp[iw,dF]) aO)
end
open Go.Conc
section
variable (lv:Bool)(P:Tl)
def yb (s:AS)(o:Vp)(next:SV):Prop:=match o.op with
 |.buildSlice t len parts=>au (qS P t) λ(e,sz,z)=>len* sz<=2^24/\au (kB s parts.toList) λj9=>au (o6 (h_.at (.elems sz)) (gF z (len* sz)) j9) λl=>next ((⟨s.T,s.H++[.cells l e]⟩:AS).put o.dst (.bB s.H.length 0 len len))
 |.call c=>match c.callee with
  |.builtin .append=>match c.args.toList,c.argTypes.toList with
   |[x,y],[t,t']=>au (j4 P t t') λ(elem,sz,_)=>au (s.ev x) λa=>au (s.ev y) λb=>a.wO λn l e=>e=.exact/\au (s.src sz b) λ(m,l')=>l.length=n* sz/\l'.length=m* sz/\n+m<=2^30/\0<m/\next ((⟨s.T,s.H++[.own sz (l++l') elem]⟩:AS).put o.dst (.bB s.H.length 0 (n+m) 0))
   |_,_=>False
  |_=>False
 |_=>False
def r6 (m:Nat):Nat->List Vp->AS->(SV)->(AV->SV)->Prop
 |_,[],s,K,_=>K s
 |k,o::rest,s,K,bad=>o.guard=none/\(bif k==m then yb P s o (λs'=>r6 m (k+1) rest s' K bad)else m8 lv P s o (λs'=>r6 m (k+1) rest s' K bad) bad)
end
section
variable {lv:Bool}{P:Tl}{r:SL}{s:AS}
def yb.step{o:Vp}{next:SV}{bad:AV->SV}(h:yb P s o next):Step lv P r o s next bad:=by unfold yb at h;split at h;rename_i t len parts ho;obtain⟨⟨e,sz,z⟩,h1,h2,h⟩:=h.out;obtain⟨j9,h3,h⟩:=h.out;obtain⟨l,h4,h⟩:=h.out;exact aeq ho h1 h2 h3 h4 h;rename_i c ho;split at h;rename_i aY;split at h;rename_i x y t t' ha d_;obtain⟨⟨elem,sz,z⟩,h1,hA⟩:=h.out;obtain⟨a,h2,hB⟩:=hA.out;obtain⟨b,h3,hC⟩:=hB.out;obtain⟨n,l,e,e1,e0,hD⟩:=Qu hC;subst e1 e0;obtain⟨⟨m,l'⟩,h4,h5,h6,h7,h8,h9⟩:=hD.out;exact aeo ho aY (nY ha) (tp d_) h1 h2 h3 h4 h5 h6 h7 h8 h9;exact h.elim;exact h.elim;exact h.elim
def r6.aeh{m:Nat}{K:SV}{bad:AV->SV}:∀(l:List Vp)(k:Nat)(s:AS),r6 lv P m k l s K bad->CS lv P r l s K bad
 |[],k,s,h=>h
 |o::rest,k,s,h=>by
  obtain⟨h1,h2⟩:=h;refine⟨h1,?_⟩;have hs:∀{s'},r6 lv P m (k+1) rest s' K bad->CS lv P r rest s' K bad:=λ{s'} h=>r6.aeh rest (k+1) s' h;cases hkm:(k==m)<;>rw[hkm]at h2<;>simp only[cond_true,cond_false]at h2
  rotate_left
  ·exact(yb.step h2).mono (λ_ h=>hs h) (λ_ _ h=>h)
  ·exact(m8.sound (r:=r) h2).mono (λ_ h=>hs h) (λ_ _ h=>h)
def ahi{nt id:Nat}{ops:SK}{Φ:SI}(m:Nat)(hd:ki nt ops=true)(h:r6 lv P m 0 ops.toList s (Φ .normal) (λpv s=>Φ (.panic pv) s)):aW lv P r nt (.region id ops false) s Φ:=ahj hd (h.aeh ops.toList 0 s)
end
def af2:type_of% @yb.eq_1:=by intros;rw[yb.eq_1]
def ap4:type_of% @r6.eq_1:=by intros;rw[r6.eq_1]
def ap3:type_of% @r6.eq_2:=by intros;rw[r6.eq_2]
attribute [seval] af2 ap4 ap3
open Go.Proofs Go.Gg.Tk
namespace Tk
def gD:aj:=⟨10,3,2,[⟨2,⟨12,13⟩⟩],[⟨⟨10,12⟩,⟨0,1⟩⟩,⟨⟨11,11⟩,⟨0,2⟩⟩,⟨⟨12,15⟩,⟨1,2⟩⟩],[⟨⟨12,12⟩,⟨0,2⟩⟩,⟨⟨10,15⟩,⟨2,2⟩⟩]⟩
def uG:aj:={gD with aq:=[⟨⟨15,15⟩,⟨0,0⟩⟩,⟨⟨10,15⟩,⟨2,2⟩⟩]}
end Tk
def afq:gF (Uy #[S_ .i64 0,S_ .i64 0,S_ .i64 0]) 3=[iv 0,iv 0,iv 0]:=rfl
def afp:gF (Uy #[S_ .i64 0,S_ .i64 0,S_ .i64 0,S_ .i64 0]) 12=UQ 12 (iv 0):=rfl
def afo:gF (Uy #[S_ .i64 0,S_ .i64 0,S_ .i64 0,S_ .i64 0]) 8=[iv 0,iv 0,iv 0,iv 0,iv 0,iv 0,iv 0,iv 0]:=rfl
def adI:UQ 12 (iv 0)=[iv 0,iv 0,iv 0,iv 0,iv 0,iv 0,iv 0,iv 0,iv 0,iv 0,iv 0,iv 0]:=rfl
def adi:(3<=2^24)=True:=eq_true (by decide)
def adj:(8<=2^24)=True:=eq_true (by decide)
def adh:(12<=2^24)=True:=eq_true (by decide)
section
variable {lv:Bool}{H:SA}{k kp:SF}
def yH(hk:k gD.av H):aS lv BI 50 H [] k kp:=by refine br (rs:=[.cell 0 25]) (nt:=11) axP λhH hA=> ?_;simp only[ba,Tq];refine ai ?_;refine ai ?_;refine aK (Se (a:=2) (b:=12) (c:=13) ?_);(try simp only[seval,Seen.av,Seen.l,eX.av,afq,adi]);refine aK (so (a:=10) (b:=12) (c:=0) (d:=1) ?_);(try simp only[seval]);refine aK (so (a:=11) (b:=11) (c:=0) (d:=2) ?_);(try simp only[seval]);refine aK (so (a:=12) (b:=15) (c:=1) (d:=2) ?_);(try simp only[seval,aD.av,aD.l,afp,adI,adh]);refine aK (so (a:=12) (b:=12) (c:=0) (d:=2) ?_);(try simp only[seval]);refine aK (so (a:=10) (b:=15) (c:=2) (d:=2) ?_);(try simp only[seval,aD.av,aD.l,afo,adj,TN,TS]);refine jR ?_;simp only[seval,TN];refine dS hH (b:=gD.av) (uP (.cons (Wk.refl _) (.cons (Wk.refl _) (.cons (Wk.refl _) (.cons (dQ _ _ _) (.cons (dQ _ _ _) (.cons (dQ _ _ _) .nil))))))) (by rw[BW];trivial) hk
def aky(hk:∀X:aa,k (.agg [iv 10,iv 3,iv 2,.sl 1 (gD.seen.flatMap Seen.l) .exact,.sl 3 (gD.pieces.flatMap aD.l) .exact,.bB (H.length+1) 0 2 2]) (H++[X,.cells (gD.aq.flatMap aD.l) 68])):aS lv BI 50 H [] k kp:=by
 refine br (rs:=[.cell 0 25]) (nt:=11) axP λhH hA=> ?_;simp only[ba,Tq];refine ai ?_
 (repeat apply ii);refine ahi 8 (by kernel_rfl) ?_;simp only[seval];refine aK (Se (a:=2) (b:=12) (c:=13) ?_);(try simp only[seval,Seen.av,Seen.l,eX.av,afq,adi]);refine aK (so (a:=10) (b:=12) (c:=0) (d:=1) ?_);(try simp only[seval]);refine aK (so (a:=11) (b:=11) (c:=0) (d:=2) ?_);(try simp only[seval]);refine aK (so (a:=12) (b:=15) (c:=1) (d:=2) ?_);(try simp only[seval,aD.av,aD.l,afp,adI,adh]);refine aK (so (a:=12) (b:=12) (c:=0) (d:=2) ?_);(try simp only[seval]);refine aK (so (a:=10) (b:=15) (c:=2) (d:=2) ?_);(try simp only[seval,aD.av,aD.l,afo,adj,TN,TS]);refine jR ?_;simp only[seval,TN];exact b8 (hk _)
def Tb{H:List aa}:∀(L:SA)(y:aa),(H++L).set (H.length+3) y=H++L.set 3 y:=λL y=>cG H L 3 y
def akz(hk:k uG.av H):aS lv BI 53 H [] k kp:=by
 refine br (rs:=[.cell 0 25]) (nt:=8) Tryz.f53 λhH hA=> ?_;simp only[ba,Tq];refine ai ?_;refine ai ?_;refine aK (aky (λX=> ?_));simp only[Ev,WX,Vv];have hrx:gD.aq.flatMap aD.l=[iv 12,iv 12,iv 0,iv 2,iv 10,iv 15,iv 2,iv 2]:=rfl;rw[hrx];have e2:H.length+1+1=H.length+2:=rfl;(try simp only[seval,TW,Tb,e2]);refine cS 4 ?_;simp only[seval,TP,TU,TW];refine dG _ (bX (so (a:=15) (b:=15) (c:=0) (d:=0) ⟨rfl,rfl⟩)) ?_;(try simp only[seval,aD.av,aD.l,TP,TU]);obtain⟨rs,us⟩:∃rs,rs=uG.aq.flatMap aD.l:=⟨_,rfl⟩;have anG:[AV.val (S_ Tg 15),AV.val (S_ Tg 15),AV.val (S_ Tg 0),AV.val (S_ Tg 0),AV.val (S_ Tg 10),AV.val (S_ Tg 15),AV.val (S_ Tg 2),AV.val (S_ Tg 2)]=rs:=by rw[us];rfl
 have pB:rs.length=8:=by rw[us];rfl
 rw[anG];refine ab ?_;simp only[seval,TN,TS,TW]
 (repeat apply ii);refine Kd (id:=H.length+2) (by simp only[seval,TP]<;>rfl) ?_;simp only[seval,TU,pB]
 (repeat apply ii);refine Ke (id:=H.length) (j:=5) (y:=aG uG.aq) (by simp only[seval,TN]<;>rfl) rfl ?_ ?_
 ·have e:aG uG.aq=.sl 2 (rs.take 8) .shut:=by rw[Tu (by omega),us];rfl
  rw[e];exact Jt (p:=8) (by simp only[seval,TP]<;>rfl) (by omega) (by omega)
 (try simp only[seval,TS]);refine jR ?_;simp only[seval,TN];refine dS hH (b:=uG.av) (uP (.cons (Wk.refl _) (.cons (Wk.refl _) (.cons (Wk.refl _) (.cons (dQ _ _ _) (.cons (dQ _ _ _) (.cons (Wk.refl _) .nil))))))) (by rw[BW];trivial) hk
end
open Go.Gg.Tk
def z8:gD.Ok:=by refine⟨by decide,by decide,by decide,by decide,by decide,by decide,λs hs=> ?_,λy hy=> ?_,λy hy=> ?_⟩;simp only[gD,Ub]at hs;subst hs;exact⟨by decide,by decide,by decide,by decide⟩;simp only[gD,Tm,T5,or_false]at hy;rcases hy with rfl|rfl|rfl<;>exact⟨⟨by decide,by decide,by decide⟩,⟨by decide,by decide,by decide⟩⟩;simp only[gD,Tm,T5,or_false]at hy;rcases hy with rfl|rfl<;>exact⟨⟨by decide,by decide,by decide⟩,⟨by decide,by decide,by decide⟩⟩
def ap5:uG.Ok:=by refine⟨by decide,by decide,by decide,by decide,by decide,by decide,λs hs=> ?_,λy hy=> ?_,λy hy=> ?_⟩;simp only[uG,gD,Ub]at hs;subst hs;exact⟨by decide,by decide,by decide,by decide⟩;simp only[uG,gD,Tm,T5,or_false]at hy;rcases hy with rfl|rfl|rfl<;>exact⟨⟨by decide,by decide,by decide⟩,⟨by decide,by decide,by decide⟩⟩;simp only[uG,Tm,T5,or_false]at hy;rcases hy with rfl|rfl<;>exact⟨⟨by decide,by decide,by decide⟩,⟨by decide,by decide,by decide⟩⟩
def ajx:cnt gD=4:=by kernel_rfl
def ajA:live gD=[[10,11,13,14],[10,11,13,15],[10,12,13,14],[10,12,13,15]]:=by kernel_rfl
def ajy:(cR gD).head?=some ⟨[10,11,13,14],[12,11,13],[0,2]⟩:=by kernel_rfl
def ajB:yw (Ff gD 2) 10 16=[13,14]:=by kernel_rfl
def RY:uK gD 0 0=true/\Fj gD 0 0=false:=by decide+kernel
def RV:GQ uG=some [0]:=by kernel_rfl
def ajv:AC (gD.wo [1]) ⟨⟨10,15⟩,⟨2,2⟩⟩ 0 3=1:=by kernel_rfl
open Go.Conc Go.Proofs
def Tk.Bounds.of_map{l:SS}{g:SD->SD}{v w:SD->Int}{a b:Int}(h:Bounds (l.map g) v a b)(e:∀y∈l,v (g y)=w y):Bounds l w a b:=by obtain⟨g1,m1,e1⟩:=h.Ig;obtain⟨g2,m2,e2⟩:=h.If;obtain⟨y1,n1,rfl⟩:=Uh.1 m1;obtain⟨y2,n2,rfl⟩:=Uh.1 m2;exact⟨⟨y1,n1,e1.trans (e y1 n1)⟩,λy hy=>by rw[<- e y hy];exact h.le _ (Uh.2 ⟨y,hy,rfl⟩),⟨y2,n2,e2.trans (e y2 n2)⟩,λy hy=>by rw[<- e y hy];exact h.ge _ (Uh.2 ⟨y,hy,rfl⟩)⟩
def aqz{h:SD}{i:Nat}(hi:i<h.length):(cT h).getD i 0=h.getD i 0:=by unfold cT;rw[Tf,Tf,T6 hi]
def ao6{x:aj}{h:SD}(hm:h∈live x):h.length=1+x.hours.toNat:=MQ (Vx.1 hm).1
def aq1{x:aj}{D:Kn}(hx:x.Ok)(hD:gN x 0 D)(hh:D.has=true){hs:SS}(hp:hs.Perm D.aQ)(v:SD->Int)(w:SD->Int)(e:∀y∈live x,v (cT y)=w y):Bounds (live x) w (hs.foldl (λb h=>b.add (v h)) (⟨0,0,false⟩:iI)).lo (hs.foldl (λb h=>b.add (v h)) (⟨0,0,false⟩:iI)).hi:=by
 have cJ:=hp.trans (ace hx hD);have aN:hs≠[]:=λh=>by rw[h]at cJ;have:=cJ.length_eq;rw[Um]at this;have h0:live x=[]:=WS this.symm;rw[(zE hx hD).2 (acy.1 h0)]at hh;cases hh
 exact((ahW v aN).aqe cJ).of_map e
def N9{x:aj}{deep:Int}{D:Kn}(hx:x.Ok)(hD:gN x deep D)(hh:D.has=true):cR x≠[]:=λh=>by rw[(zE hx hD).2 h]at hh;cases hh
def acE{α:Type}{f:Nat->α}{l:List α}{n:Nat}(d:α)(hl:l.length=n)(h:∀i,i<n->f i=l.getD i d):(Tt n).map f=l:=by
 refine Yd λi=> ?_;rw[Ur];by_cases hi:i<n
 ·rw[awZ hi,VT,h i hi,Tf,T4 (by omega)];rfl
 ·rw[VI (by simp;omega),VI (by omega)];rfl
def ai9{x:aj}(hx:x.Ok){u:Tr}(hu:u∈cR x){s:Nat}(hs:s<x.aq.length):(eZ u).getD (8+s) 0=((u.bL.getD s 0:Nat):Int):=by
 obtain⟨h1,h2⟩:=x6 hx hu;have h3:=(Jm hx hu).1;have hh:=hx.hours;have pA:=hx.ey;have h4:=zW (h:=u.bG) (by omega);have cy:s<u.bL.length:=by omega
 have hg:(eZ u)[8+s]?=some ((u.bL[s]:Nat):Int):=by
  unfold eZ dM lU;have h8:(cT u.bG++((u.aC.map λn=>(n-u.bG.headD 0).toNat).map (λn:Nat=>(n:Int))++UQ (4-(u.aC.map λn=>(n-u.bG.headD 0).toNat).length) (-1))).length=8:=by simp[h4];omega
  rw[Uc (by omega),h8,UU,T6 (by simpa using cy),Ur,T4 cy];rfl
 rw[Tf,hg,Tf,T4 cy];rfl
def auH{x:aj}{u:Tr}(hu:u∈cR x):u.bG.headD 0=x.first:=by obtain⟨h,a,b⟩:=T8.1 hu;rw[Ah b];exact(Bv _ _ _ (by simp) a).2
def ak2{x:aj}(hx:x.Ok){u:Tr}(hu:u∈cR x):(eZ u).take (x.hours.toNat+1)=u.bG:=by
 have hl:=(x6 hx hu).1;have hh:=hx.hours;have h1:(eZ u).take (x.hours.toNat+1)=((eZ u).take 4).take (x.hours.toNat+1):=by rw[VF,Wa (by omega)]
 rw[h1,KY hx hu];exact OO (by omega)
def ak3{x:aj}(hx:x.Ok){u:Tr}(hu:u∈cR x):tV x (eZ u) x.pieces.length=u.aC:=by unfold tV;refine acE 0 (x6 hx hu).2 λi hi=> ?_;rw[ai6 hx hu hi,auH hu];omega
def ak4{x:aj}(hx:x.Ok){u:Tr}(hu:u∈cR x):tW (eZ u) x.aq.length=u.bL.map λn:Nat=>(n:Int):=by unfold tW;refine acE 0 (by rw[Um];exact(Jm hx hu).1) λi hi=> ?_;have hl:=(Jm hx hu).1;rw[ai9 hx hu hi,Tf,Tf,Ur,T4 (by omega)];rfl
section
variable {H:SA}{k kp:SF}{x:aj}
def Sb(hx:x.Ok)(hm:H[0]?=some .main)(hk:k (.aJ [iv (cnt x),iv 0]) H):aS true BI 16 H [x.av] k kp:=
 aj7 hx hm λD hD=>by rw[count_eq hx hD];exact hk
def aki{hour:Nat}(hx:x.Ok)(hh:(hour:Int)<=x.hours)(hm:H[0]?=some .main)(h0:cR x=[]->k (.aJ [.agg [iv 0,iv 0],iv 11]) H)(h1:∀lo hi,cR x≠[]->Bounds (live x) (λh=>h.getD hour 0) lo hi->k (.aJ [.agg [iv lo,iv hi],iv 0]) H):aS true BI 31 H [x.av,iv hour] k kp:=
 akh hx hh hm λD hD=>⟨λhn=>h0 ((zE hx hD).1 hn),λhy hs hp=>h1 _ _ (N9 hx hD hy) (aq1 hx hD hy hp (λh=>h.getD hour 0) _ λy qC=>aqz (by rw[ao6 qC];have:=hx.hours;omega))⟩
def ako{q:Nat}(hx:x.Ok)(hq:q<x.pieces.length)(hm:H[0]?=some .main)(h0:cR x=[]->k (.aJ [aV [],iv 11]) H)(h1:cR x≠[]->k (.aJ [aV (yw (Ff x q) x.first 16),iv 0]) H):aS true BI 41 H [x.av,iv q] k kp:=
 akn hx hq hm λD hD=>⟨λhn=>h0 ((zE hx hD).1 hn),λhy=>by rw[acu λn _=>ap2 hx hD hq n];exact h1 (N9 hx hD hy)⟩
def akc{s q:Nat}(hx:x.Ok)(hs:s<x.aq.length)(hq:q<x.pieces.length)(hm:H[0]?=some .main)(hk:k (.aJ [iv (if(cR x).isEmpty then 0 else vM (uK x s q) (Fj x s q)),iv (if(cR x).isEmpty then 11 else 0)]) H):aS true BI 22 H [x.av,iv s,iv q] k kp:=
 akb hx hs hq hm λD hD=>by rw[aqC hx hD hs,ahD hx hD];exact hk
def DC (x:aj)(i:Nat):SD:=(Tt i).flatMap λs=>if 1<(yw (uK x s) 0 16).length then[-1]else yw (uK x s) 0 16
def ake(hx:x.Ok)(hm:H[0]?=some .main)(h0:cR x=[]->k (.aJ [aV [],iv 11]) H)(h1:cR x≠[]->k (.aJ [aV (DC x x.aq.length),iv 0]) H):aS true BI 24 H [x.av] k kp:=
 akd hx hm λD hD=>⟨λhn=>h0 ((zE hx hD).1 hn),λhy=>by
  have e:vo D.bc x.aq.length=DC x x.aq.length:=by unfold vo DC;refine Ds λs hs=> ?_;rw[acu λn _=>OP hx hD (UB.1 hs) n]
  rw[e];exact h1 (N9 hx hD hy)⟩
def akk(hx:x.Ok)(hm:H[0]?=some .main)(h0:cR x=[]->k (.aJ [aV [],aV [],aV [],iv 11]) H)(h1:∀u l,cR x=u::l->k (.aJ [aV u.bG,aV u.aC,aV (u.bL.map λn:Nat=>(n:Int)),iv 0]) H):aS true BI 35 H [x.av] k kp:=
 akj hx hm λD hD=>⟨λhn=>h0 ((zE hx hD).1 hn),λhy=>by
  obtain⟨u,l,e1,e2⟩:=aok hx hD hy;have hu:u∈cR x:=by rw[e1];simp
  rw[e2,ak2 hx hu,ak3 hx hu,ak4 hx hu];exact h1 u l e1⟩
end
variable {x:aj}
namespace Tk
end Tk
variable {x:aj}
open Go.Gg.Tk
variable {x:aj}
namespace Tk
def uV (P:Int->Prop)(o:Int):Prop:=(o= -1/\∀d,¬P d)\/(0<=o/\P o/\∀d,P d->o<=d)
def uV.congr{P Q:Int->Prop}{o:Int}(h:∀d,P d<->Q d)(hP:uV P o):uV Q o:=by rcases hP with⟨e,h1⟩|⟨e,h1,h2⟩;exact .inl ⟨e,λd hd=>h1 d ((h d).2 hd)⟩;exact .inr ⟨e,(h o).1 h1,λd hd=>h2 d ((h d).2 hd)⟩
def uV.uniq{P:Int->Prop}{a b:Int}(ha:uV P a)(hb:uV P b):a=b:=by rcases ha with⟨e,h1⟩|⟨e,h1,h2⟩<;>rcases hb with⟨f,g1⟩|⟨f,g1,g2⟩;omega;exact absurd g1 (h1 _);exact absurd h1 (g1 _);have:=h2 _ g1;have:=g2 _ h1;omega
def uV.add{P:Int->Prop}{o m o':Int}(h:uV P o)(hm:0<=m)(ho:o'=if o<0\/m<o then m else o):uV (λd=>P d\/d=m) o':=by
 subst ho;right;rcases h with⟨e,h1⟩|⟨e,h1,h2⟩
 ·rw[if_pos (.inl (by omega))];exact⟨hm,.inr rfl,λd hd=>by
   rcases hd with hd|hd;exact absurd hd (h1 d)
   ·omega⟩
 ·by_cases c:m<o
  ·rw[if_pos (.inr c)];exact⟨hm,.inr rfl,λd hd=>by
    rcases hd with hd|hd;have:=h2 d hd;omega
    ·omega⟩
  ·rw[if_neg (by omega)];exact⟨e,.inl h1,λd hd=>by
    rcases hd with hd|hd;exact h2 d hd
    ·omega⟩
end Tk
open Go.Gg.Tk
namespace Tk
end Tk
open Go.Gg.Tk
namespace Tk
def Before (l m:SD):Prop:=∃k,l.take k=m.take k/\k<l.length/\k<m.length/\l.getD k 0<m.getD k 0
end Tk
variable {x:aj}
open Go.Gg.Tk
namespace Tk
def Fz (x:aj)(p:Nat)(y:aD):aj:={x with pieces:=x.pieces.set p y}
end Tk
variable {x:aj}
open Go.Gg.Tk
namespace Tk
end Tk
open Go.Gg.Tk
namespace Tk
structure Inv (f g:Nat->Nat)(n:Nat):Prop where
 fl:∀i,i<n->f i<n
 gl:∀i,i<n->g i<n
 gf:∀i,i<n->g (f i)=i
 fg:∀i,i<n->f (g i)=i
def Inv.symm{f g:Nat->Nat}{n:Nat}(h:Inv f g n):Inv g f n:=⟨h.gl,h.fl,h.fg,h.gf⟩
variable {x:aj}{l:SY}{f g:Nat->Nat}
end Tk
open Go.Gg.Tk
namespace Tk
end Tk
section
variable {x:aj}
end
open Go.Gg.Tk
namespace Tk
def aqh{w:Want}{t:Tr}:xL (fH w) 0 t=true<->(∀k,k<t.aC.length->fH w (t.aC.take k) []=false)/\∀k,k<=t.bL.length->fH w t.aC (t.bL.take k)=false:=by
 unfold xL wi uH;rw[Ui,Uq,Uq];constructor
 ·rintro⟨h1,h2⟩
  refine⟨λk hk=> ?_,λk hk=> ?_⟩;(have:=h1 k (UB.2 hk);simpa using this);(have:=h2 k (UB.2 (by omega));simpa using this)
 ·rintro⟨h1,h2⟩
  refine⟨λk hk=> ?_,λk hk=> ?_⟩;rw[h1 k (UB.1 hk)];simp;rw[h2 k (by have:=UB.1 hk;omega)];simp
def adE{w:Want}{ns:SD}{os:SE}:fH w ns os=false<->(0<ns.length+os.length->jL w ns os=false):=by unfold fH;cases h:jL w ns os<;>simp
def aqi(w:Want)(h:w.kind=0)(t:Tr):xL (fH w) 0 t=true:=by
 have:∀ns os,jL w ns os=false:=λns os=>by unfold jL;rw[if_neg (by omega),if_neg (by omega),if_neg (by omega),if_neg (by omega)]
 rw[aqh];exact⟨λk _=>adE.2 λ_=>this _ _,λk _=>adE.2 λ_=>this _ _⟩
section
variable {x:aj}
end
end Tk
open Go.Conc Go.Proofs Go.Gg.Tk
namespace Tk
def Want.l (w:Want):SC:=[iv w.kind,iv w.x,iv w.y]
def Want.av (w:Want):AV:=.agg w.l
def gB (os:SE):SD:=os.map λn:Nat=>(n:Int)
end Tk
def qU (h ns:SD)(os:SE)(e1 e2 e3:End):AV:=.agg [.sl h.length (h.map iv) e1,.sl ns.length (ns.map iv) e2,.sl os.length ((gB os).map iv) e3]
open Go.Conc Go.Proofs Go.Gg.Tk
section
variable {lv:Bool}{H:SA}{k kp:SF}
def R8{w:Want}{h ns:SD}{os:SE}{e1 e2 e3:End}(hn:ns.length<=2^40)(ho:os.length<=2^40)(hx:0<=w.x)(hy:w.kind=2->0<=w.y)(hk:k (bv (jL w ns os)) H):aS lv BI 114 H [w.av,qU h ns os e1 e2 e3] k kp:=by
 refine br (rs:=[.tmp 4]) (nt:=97) Tryz.f114 λhH hA=> ?_;simp only[ba,Tq,qU,Want.av,Want.l];have bz:Tg.wrap ((ns.length:Int)-1)=(ns.length:Int)-1:=bt _ (by omega);have f_:Tg.wrap ((os.length:Int)-1)=(os.length:Int)-1:=bt _ (by omega);refine ai ?_;refine mC [] (Tt 10) (λ_=>H++[.cells [iv w.kind,iv w.x,iv w.y] 113,.cells [.sl h.length (h.map iv) e1,.sl ns.length (ns.map iv) e2,.sl os.length ((gB os).map iv) e3] 109]) ?_;simp only[seval,TO,bz,f_];refine ab ?_;simp only[seval,TN];refine bO ?_;have zK:(gB os).length=os.length:=Um _;have ret:∀(T:SH) b,jL w ns os=b->cz H.length (H++[.cells [iv w.kind,iv w.x,iv w.y] 113,.cells [.sl h.length (h.map iv) e1,.sl ns.length (ns.map iv) e2,.sl os.length ((gB os).map iv) e3] 109]) (bv b) k:=λ_ b e=>by rw[e]at hk;exact cW hH hk
 by_cases k1:w.kind=1
 ·have q1:(w.kind==1)=true:=by rw[beq_iff_eq];exact k1
  have hR:jL w ns os=decide (os.length=0/\(ns.length:Int)-1=w.x/\ns.getD (ns.length-1) 0≠w.y):=by unfold jL;rw[if_pos k1]
  refine ab ?_;simp only[seval,q1];refine ao ?_;by_cases a1:os.length=0
  ·have d1:decide ((os.length:Int)-1<0)=true:=decide_eq_true (by omega);by_cases a2:(ns.length:Int)-1=w.x
   ·have d2:((ns.length:Int)-1==w.x)=true:=(by rw[beq_iff_eq];exact a2);obtain⟨v,hv⟩:=bF (xs:=ns) (i:=ns.length-1) (by omega);have kU:ns.getD (ns.length-1) 0=v:=(by rw[Tf,hv];rfl);have dA:(0<=(ns.length:Int)-1/\(ns.length:Int)-1<ns.length)=True:=(by simp;omega);have gL:((ns.length:Int)-1).toNat=ns.length-1:=(by omega);have hE:jL w ns os=(v !=w.y):=by rw[hR,kU];by_cases c:v=w.y;rw[c,bne_self_eq_false,decide_eq_false (λh=>h.2.2 rfl)];rw[show (v !=w.y)=true from by rw[bne_iff_ne];exact c,decide_eq_true ⟨a1,a2,c⟩]
    refine cS 19 ?_;simp only[seval,TN,TO,d1,d2,dA,gL,dn hv];refine aH ?_;exact ret [] _ hE
   ·have d2:((ns.length:Int)-1==w.x)=false:=(by rw[beq_eq_false_iff_ne];exact a2);refine cS 19 ?_;simp only[seval,TN,TO,d1,d2];refine aH ?_;exact ret [] _ (by rw[hR];exact decide_eq_false λh=>a2 h.2.1)
  ·have d1:decide ((os.length:Int)-1<0)=false:=decide_eq_false (by omega);refine cS 19 ?_;simp only[seval,TN,TO,d1];refine aH ?_;exact ret [] _ (by rw[hR];exact decide_eq_false λh=>a1 h.1)
 have q1:(w.kind==1)=false:=by rw[beq_eq_false_iff_ne];exact k1
 refine ab ?_;simp only[seval,q1];refine ao ?_;by_cases k2:w.kind=2
 ·have q2:(w.kind==2)=true:=by rw[beq_iff_eq];exact k2
  have hR:jL w ns os=decide (os.length=0/\(ns.length:Int)-1=max w.x w.y/\ns.getD w.x.toNat 0>ns.getD w.y.toNat 0):=by unfold jL;rw[if_neg k1,if_pos k2]
  refine ab ?_;simp only[seval,q2];refine ao ?_;have hy:=hy k2;have xv:(if w.x<w.y then w.y else w.x)=max w.x w.y:=by split<;>omega
  by_cases a1:os.length=0
  ·have d1:decide ((os.length:Int)-1<0)=true:=decide_eq_true (by omega);by_cases a2:(ns.length:Int)-1=max w.x w.y
   ·have d2:((ns.length:Int)-1==max w.x w.y)=true:=(by rw[beq_iff_eq];exact a2);obtain⟨v,hv⟩:=bF (xs:=ns) (i:=w.x.toNat) (by omega);obtain⟨z,hz⟩:=bF (xs:=ns) (i:=w.y.toNat) (by omega);have kU:ns.getD w.x.toNat 0=v:=(by rw[Tf,hv];rfl);have hgz:ns.getD w.y.toNat 0=z:=(by rw[Tf,hz];rfl);have dA:(0<=w.x/\w.x<(ns.length:Int))=True:=(by simp;omega);have ma:(0<=w.y/\w.y<(ns.length:Int))=True:=(by simp;omega);have hE:jL w ns os=decide (v>z):=by rw[hR,kU,hgz];by_cases c:v>z;rw[decide_eq_true c,decide_eq_true ⟨a1,a2,c⟩];rw[decide_eq_false c,decide_eq_false λh=>c h.2.2]
    refine cS 27 ?_;simp only[seval,TN,TO,d1,xv,d2,dA,ma,dn hv,dn hz];refine aH ?_;exact ret [] _ hE
   ·have d2:((ns.length:Int)-1==max w.x w.y)=false:=(by rw[beq_eq_false_iff_ne];exact a2);refine cS 27 ?_;simp only[seval,TN,TO,d1,xv,d2];refine aH ?_;exact ret [] _ (by rw[hR];exact decide_eq_false λh=>a2 h.2.1)
  ·have d1:decide ((os.length:Int)-1<0)=false:=decide_eq_false (by omega);refine cS 27 ?_;simp only[seval,TN,TO,d1];refine aH ?_;exact ret [] _ (by rw[hR];exact decide_eq_false λh=>a1 h.1)
 have q2:(w.kind==2)=false:=by rw[beq_eq_false_iff_ne];exact k2
 refine ab ?_;simp only[seval,q2];refine ao ?_;by_cases k3:w.kind=3
 ·have q3:(w.kind==3)=true:=by rw[beq_iff_eq];exact k3
  have hR:jL w ns os=decide ((os.length:Int)-1=w.x/\(os.getD (os.length-1) 0:Int)≠w.y):=by unfold jL;rw[if_neg k1,if_neg k2,if_pos k3]
  refine ab ?_;simp only[seval,q3];refine ao ?_;by_cases a2:(os.length:Int)-1=w.x
  ·have d2:((os.length:Int)-1==w.x)=true:=(by rw[beq_iff_eq];exact a2);obtain⟨v,hv⟩:=bF (xs:=os) (i:=os.length-1) (by omega);have kU:os.getD (os.length-1) 0=v:=(by rw[Tf,hv];rfl);have ul:(gB os)[os.length-1]?=some (v:Int):=(by unfold gB;rw[Ur,hv];rfl);have dA:(0<=(os.length:Int)-1/\(os.length:Int)-1<os.length)=True:=(by simp;omega);have gL:((os.length:Int)-1).toNat=os.length-1:=(by omega);have hE:jL w ns os=(((v:Nat):Int)!=w.y):=by rw[hR,kU];by_cases c:((v:Nat):Int)=w.y;rw[c,bne_self_eq_false,decide_eq_false (λh=>h.2 rfl)];rw[show (((v:Nat):Int)!=w.y)=true from by rw[bne_iff_ne];exact c,decide_eq_true ⟨a2,c⟩]
   refine cS 15 ?_;simp only[seval,TN,TO,d2,dA,gL,dn ul];refine aH ?_;exact ret [] _ hE
  ·have d2:((os.length:Int)-1==w.x)=false:=(by rw[beq_eq_false_iff_ne];exact a2);refine cS 15 ?_;simp only[seval,TN,TO,d2];refine aH ?_;exact ret [] _ (by rw[hR];exact decide_eq_false λh=>a2 h.1)
 have q3:(w.kind==3)=false:=by rw[beq_eq_false_iff_ne];exact k3
 refine ab ?_;simp only[seval,q3];refine ao ?_;by_cases k4:w.kind=4
 ·have q4:(w.kind==4)=true:=by rw[beq_iff_eq];exact k4
  have hR:jL w ns os=decide ((os.length:Int)-1=w.x/\(os.getD (os.length-1) 0:Int)=w.y):=by unfold jL;rw[if_neg k1,if_neg k2,if_neg k3,if_pos k4]
  refine ab ?_;simp only[seval,q4];refine ao ?_;by_cases a2:(os.length:Int)-1=w.x
  ·have d2:((os.length:Int)-1==w.x)=true:=(by rw[beq_iff_eq];exact a2);obtain⟨v,hv⟩:=bF (xs:=os) (i:=os.length-1) (by omega);have kU:os.getD (os.length-1) 0=v:=(by rw[Tf,hv];rfl);have ul:(gB os)[os.length-1]?=some (v:Int):=(by unfold gB;rw[Ur,hv];rfl);have dA:(0<=(os.length:Int)-1/\(os.length:Int)-1<os.length)=True:=(by simp;omega);have gL:((os.length:Int)-1).toNat=os.length-1:=(by omega);have hE:jL w ns os=(((v:Nat):Int)==w.y):=by rw[hR,kU];by_cases c:((v:Nat):Int)=w.y;rw[c,beq_self_eq_true,decide_eq_true ⟨a2,rfl⟩];rw[show (((v:Nat):Int)==w.y)=false from by rw[beq_eq_false_iff_ne];exact c,decide_eq_false (λh=>c h.2)]
   refine cS 15 ?_;simp only[seval,TN,TO,d2,dA,gL,dn ul];refine aH ?_;exact ret [] _ hE
  ·have d2:((os.length:Int)-1==w.x)=false:=(by rw[beq_eq_false_iff_ne];exact a2);refine cS 15 ?_;simp only[seval,TN,TO,d2];refine aH ?_;exact ret [] _ (by rw[hR];exact decide_eq_false λh=>a2 h.1)
 have q4:(w.kind==4)=false:=by rw[beq_eq_false_iff_ne];exact k4
 refine ab ?_;simp only[seval,q4];refine ao ?_;refine aF ?_;refine ai ?_;refine aH ?_;exact ret [] _ (by unfold jL;rw[if_neg k1,if_neg k2,if_neg k3,if_neg k4])
end
namespace Tk
def qg (x:aj)(d:Nat)(pre:SD)(i:Nat):List (SD):=(Tt i).flatMap λn:Nat=>eG x d (pre++[pre.getLastD 0+(n:Int)])
def aaJ(x:aj)(d:Nat)(pre:SD)(i:Nat):qg x d pre (i+1)=qg x d pre i++eG x d (pre++[pre.getLastD 0+(i:Int)]):=by unfold qg;rw[Wb,VX];simp
def Hw{x:aj}(hp:x.am<=3):∀(d:Nat)(pre:SD),(eG x d pre).length<=4^d
 |0,pre=>by unfold eG;split<;>simp
 |d+1,pre=>by
  unfold eG;split
  ·rw[List.length_flatMap];have:∀(l:SE),(l.map λn:Nat=>(eG x d (pre++[pre.getLastD 0+(n:Int)])).length).sum<=l.length* 4^d:=by
    intro l;induction l with
    |nil=>simp
    |cons a l ih=>rw[VN,List.sum_cons,U4,WW];have:=Hw hp d (pre++[pre.getLastD 0+(a:Int)]);omega
   refine UJ (this _) ?_;rw[as_,Nat.pow_succ,Nat.mul_comm];exact Nat.mul_le_mul_left _ (by omega)
  ·simp
def alR{x:aj}(hp:x.am<=3)(d:Nat)(pre:SD)(i:Nat):(qg x d pre i).length<=i* 4^d:=by
 induction i with
 |zero=>simp[qg]
 |succ i ih=>rw[aaJ,Tp,WW];have:=Hw hp d (pre++[pre.getLastD 0+(i:Int)]);omega
end Tk
section
variable {lv:Bool}
def Sm{x:aj}(hx:x.Ok)(d:Nat)(ih:∀d',d'+1=d->∀{pre:SD}{e:End}{v:Int}{H:SA}{k kp:SF},pre[pre.length-1]?=some v->(0<=v/\v<=87+3* (pre.length:Int))->((pre.length:Int)-1+(d':Int)=x.hours/\0<pre.length)->k (ln (eG x d' pre)) H->aS lv BI 83 H [x.av,.sl pre.length (pre.map iv) e] k kp):∀{pre:SD}{e:End}{v:Int}{H:SA}{k kp:SF},pre[pre.length-1]?=some v->(0<=v/\v<=87+3* (pre.length:Int))->((pre.length:Int)-1+(d:Int)=x.hours/\0<pre.length)->k (ln (eG x d pre)) H->aS lv BI 83 H [x.av,.sl pre.length (pre.map iv) e] k kp:=by
  intro pre e v H k kp hv hvb hd hk;refine br (rs:=[.tmp 4]) (nt:=69) Tryz.f83 λhH hA=> ?_;simp only[ba,Tq,aj.av];have sF:=hx.hours;have Nh:=hx.am;have zq:=hx.qL;have pC:Tg.wrap ((pre.length:Int)-1)=(pre.length:Int)-1:=bt _ (by omega);have kU:pre.getLastD 0=v:=by rw[Wc,XV,hv];rfl
  have dA:(0<=(pre.length:Int)-1/\(pre.length:Int)-1<pre.length)=True:=by simp;omega
  have gL:((pre.length:Int)-1).toNat=pre.length-1:=by omega
  refine ab ?_;simp only[seval,TM];refine ab ?_;simp only[seval,pC];refine ai ?_;refine bO ?_;refine nj x.seen.length (λi:Nat=>[(6,iv i)]) (λ_=>_) (λi=>∀j,j<i->∀z,x.seen[j]?=some z->nM (pre.length-1) v z=true) (λj hj=>by omega) (λbN cm i ce an R hR=> ?_);clear cm;refine ab ?_;simp only[seval,TN,bM];refine ao ?_;refine⟨λhc=> ?_,λhc=> ?_⟩
  ·have bh:i<x.seen.length:=(by omega);obtain⟨y,hy⟩:=bF bh;have bz:=TL i (by omega);have nz:=fy bh;have go:nM (pre.length-1) v y=true->∀j,j<i+1->∀z,x.seen[j]?=some z->nM (pre.length-1) v z=true:=λh0 j hj z hz=>by by_cases e:j=i;subst e;rw[hy]at hz;cases hz;exact h0;exact an j (by omega) z hz
   refine aF ?_;refine bO ?_;by_cases c1:y.hour=(pre.length:Int)-1
   ·have d1:(y.hour==(pre.length:Int)-1)=true:=(by rw[beq_iff_eq];exact c1);refine cS 22 ?_;simp only[seval,Ad hy,nz,TN,d1,dn hv,dA,gL];refine dG (bv (ec y.next v)) (bX (tU (b:=y.next) ⟨rfl,rfl⟩)) ?_;cases c2:ec y.next v with
    |true=>(try simp only[seval]);refine ao ?_;refine aF ?_;refine ab ?_;simp only[seval,bz];refine hR _ ⟨bh,go (by unfold nM;rw[c2,Bool.or_true]),cK⟩
    |false=>
     (try simp only[seval]);refine ao ?_;refine ai ?_;refine aH ?_;have ew:eG x d pre=[]:=by
      have zp:qK x (pre.length-1) (pre.getLastD 0)=false:=by rw[Bool.eq_false_iff,kU,I7];intro h;have:=Uq.1 h y (Un hy);unfold nM at this;rw[c2,axm,UV,decide_eq_false_iff_not]at this;omega
      cases d<;>(unfold eG;rw[zp];rfl)
     rw[ew]at hk;exact dS (b:=ln []) hH (dQ _ _ _) (by rw[BX];trivial) hk
   ·have d1:(y.hour==(pre.length:Int)-1)=false:=(by rw[beq_eq_false_iff_ne];exact c1);refine cS 22 ?_;simp only[seval,Ad hy,nz,TN,d1,dn hv,dA,gL];refine ao ?_;refine aF ?_;refine ab ?_;simp only[seval,bz];refine hR _ ⟨bh,go (by unfold nM;rw[decide_eq_false (by omega)];rfl),cK⟩
  ·have nD:i=x.seen.length:=(by omega);subst nD;refine bT ?_;have Ez:qK x (pre.length-1) v=true:=by rw[I7,Uq];intro s hs;obtain⟨j,hj⟩:=Wl hs;exact an j (Tn.1 hj).1 s hj
   rcases Vf d with hz|hz;subst hz;have hE:eG x 0 pre=[pre]:=(by unfold eG;rw[kU,if_pos Ez]);rw[hE]at hk;have dz:((pre.length:Int)-1==x.hours)=true:=(by rw[beq_iff_eq];omega);refine ab ?_;simp only[seval,TN,dz];refine ao ?_;refine ab ?_;simp only[seval,FR,uI];refine aH ?_;exact dS (b:=ln [pre]) hH (auZ (.cons (dQ _ _ _) .nil)) (by rw[BX];trivial) hk;obtain⟨d,rfl⟩:∃d',d=d'+1:=⟨d-1,by omega⟩;have ih:=λ{pre e v H k kp}=>@ih d rfl pre e v H k kp;have hE:eG x (d+1) pre=qg x d pre (x.am.toNat+1):=by unfold eG qg;rw[kU,if_pos Ez]
   rw[hE]at hk;have dz:((pre.length:Int)-1==x.hours)=false:=(by rw[beq_eq_false_iff_ne];omega);refine ab ?_;simp only[seval,TN,dz];refine ao ?_;refine aF ?_;refine ai ?_
   (repeat apply ii);refine tM (t:=7) (sz:=1) (el:=30) (by simp only[seval]<;>rfl) ?_;refine ai ?_;refine bO ?_;have lL:∀L:SA,(H++L).length=H.length+L.length:=λL=>Tp;have h64:(4:Nat)^d<=64:=UJ (XL (by decide) (show d<=3 by omega)) (by decide);refine gU (x.am.toNat+1) (λi:Nat=>[(7,.sl (qg x d pre i).length ((qg x d pre i).map aV) (.opn (H.length+1))),(8,iv i)]) (λi=>H++[.cells x.l 25,.tail (qg x d pre i).length 1 30]) (λ_=>True) (λ_ _=>rfl) (by simp only[seval];simp[bE,Wk.refl];exact Wk.refl _) rfl (λ_ _ _=>by simp) trivial (λaaH aaI i awo _ R2 rh=> ?_);have alP:=aaH;clear aaI;rw[TM];refine ab ?_;simp only[seval,TN];refine ao ?_;refine⟨λcg=> ?_,λcg=> ?_⟩
   ·have bh:i<x.am.toNat+1:=(by omega);have f_:=TL i (by omega);have ux:Tg.wrap (v+(i:Int))=v+(i:Int):=bt _ (by omega);have zr:=aaJ x d pre i;have vQ:=alR Nh.2 d pre i;have fE:=Hw Nh.2 d (pre++[pre.getLastD 0+(i:Int)]);rw[kU]at zr fE;have pB:(eG x d (pre++[v+(i:Int)])).length<=64:=UJ fE h64;have ana:(qg x d pre i).length<=4* 64:=UJ vQ (axp (by omega) h64);rw[zr]at rh;generalize qg x d pre i=o at zr vQ ana rh⊢;refine aF ?_;refine bO ?_;refine mC [4,12,14] (Tt 16) (λD=>bif isDone 14 D then H++[.cells x.l 25,.tail (o.length+(eG x d (pre++[v+(i:Int)])).length) 1 30,.tail (pre.length+1) 1 3]else bif isDone 12 D then H++[.cells x.l 25,.tail o.length 1 30,.tail (pre.length+1) 1 3]else bif isDone 4 D then H++[.cells x.l 25,.tail o.length 1 30,.tail pre.length 1 3]else H++[.cells x.l 25,.tail o.length 1 30]) ?_;simp only[seval,TM,TN,TO,TP,TV,TU,lL,dn hv,dA,gL,ux,z1];have hq:∀(e':End)(H':SA)(k kp:SF),k (ln (eG x d (pre++[v+(i:Int)]))) H'->aS lv BI 83 H' [x.av,.sl (pre.length+1) (pre.map iv++[iv (v+(i:Int))]) e'] k kp:=λe' H' k kp hk=>by have:=ih (pre:=pre++[v+(i:Int)]) (e:=e') (v:=v+(i:Int)) (H:=H') (k:=k) (kp:=kp) (by simp) (by simp;omega) (by simp;omega) hk;rwa[Tp,UA]at this
    generalize eG x d (pre++[v+(i:Int)])=l at zr fE pB rh hq⊢;(repeat refine⟨by first|omega|decide|simp,?_⟩);refine dG (ln l) (bX (hq _ _ _ _ ⟨rfl,rfl⟩)) ?_;(try simp only[seval,ln,TO,TV,lL]);refine⟨by omega,λa ha=> ?_,?_⟩;obtain⟨r,_,rfl⟩:=Uh.1 ha;rfl;refine ab ?_;simp only[seval,f_];refine rh _ ⟨bh,trivial,?_⟩;simp only[UA,Tp];refine Ce [.tail (pre.length+1) 1 3] (oI rfl rfl) (by simp only[seval];exact⟨⟨_,rfl,Wk.refl _⟩,_,rfl,Wk.refl _⟩) (show bJ (H++([_]++[_]))from HJ (L:=[_]) (c':=.tail (o.length+l.length) 1 30) alP λ_=>trivial) ?_ (by simp;rfl);rw[<- UA];simp only[W3,dF,EX,iv];simp
   ·have hxx:i=x.am.toNat+1:=(by omega);subst hxx;refine bT ?_;refine ai ?_;refine aH ?_;exact dS (b:=ln (qg x d pre (x.am.toNat+1))) hH (dQ _ _ _) (by rw[BX];trivial) hk
def Sl{x:aj}(hx:x.Ok):∀(d:Nat){pre:SD}{e:End}{v:Int}{H:SA}{k kp:SF},pre[pre.length-1]?=some v->(0<=v/\v<=87+3* (pre.length:Int))->((pre.length:Int)-1+(d:Int)=x.hours/\0<pre.length)->k (ln (eG x d pre)) H->aS lv BI 83 H [x.av,.sl pre.length (pre.map iv) e] k kp
 |0=>Sm hx 0 λd' h=>absurd h (by omega)
 |d+1=>Sm hx (d+1) λd' h=>by
  obtain rfl:d'=d:=by omega
  exact Sl hx d'
end
open Go.Conc Go.Proofs Go.Gg.Tk
section
variable {lv:Bool}{H:SA}{k kp:SF}
def pO (x:aj)(y:Seen):aj:={x with seen:=x.seen++[y]}
def akx{x:aj}{y:Seen}(hl:x.seen.length<=2^20)(hk:k (pO x y).av H):aS lv BI 49 H [x.av,y.av] k kp:=by
 refine br (rs:=[.cell 4 25]) (nt:=14) Tryz.f49 λhH hA=> ?_;simp only[ba,Tq,aj.av,Seen.av];have lL:∀L:SA,(H++L).length=H.length+L.length:=λL=>Tp;have iV:(x.seen.flatMap Seen.l).length=x.seen.length* 3:=by
  generalize x.seen=l;induction l with
  |nil=>rfl
  |cons a l ih=>rw[UT,Tp,ih,U4,WW,axJ];rfl
 have aI:U9 (x.seen.length* 3) (x.seen.flatMap Seen.l)=x.seen.flatMap Seen.l:=Tu (by omega);have zr3:gF (Uy #[S_ .i64 0,S_ .i64 0,S_ .i64 0]) 3=[iv 0,iv 0,iv 0]:=rfl;refine ab ?_;simp only[seval,TM,Seen.l];refine mC [3,6,8] (Tt 9) (λD=>bif isDone 8 D then H++[.cells [iv x.first,iv x.hours,iv x.am,.sl (x.seen.length+1) (x.seen.flatMap Seen.l++[iv y.hour,iv y.next.min,iv y.next.max]) (.opn (H.length+3)),aG x.pieces,aG x.aq] 25,.cells y.l 29,.cells [iv 0,iv 0,iv 0,.sl 0 [] .exact,.sl 0 [] .exact,.sl 0 [] .exact] 25,.tail (x.seen.length+1) 3 29]else bif isDone 6 D then H++[.cells x.l 25,.cells y.l 29,.cells [iv 0,iv 0,iv 0,.sl 0 [] .exact,.sl 0 [] .exact,.sl 0 [] .exact] 25,.tail (x.seen.length+1) 3 29]else bif isDone 3 D then H++[.cells x.l 25,.cells y.l 29,.cells [iv 0,iv 0,iv 0,.sl 0 [] .exact,.sl 0 [] .exact,.sl 0 [] .exact] 25,.tail x.seen.length 3 29]else H++[.cells x.l 25,.cells y.l 29,.cells [iv 0,iv 0,iv 0,.sl 0 [] .exact,.sl 0 [] .exact,.sl 0 [] .exact] 25]) ?_;simp only[seval,TM,bM,Seen.l,TN,TO,TP,TW,TS,Tb,lL,iV,aI,zr3];(repeat refine⟨by first|omega|decide|simp,?_⟩);have aa0:∀(L:SA),(H++L)[H.length+1+1]?=L[2]?:=TP;have anH:∀(L:SA)(y:aa),(H++L).set (H.length+1+1) y=H++L.set 2 y:=TU;refine ab ?_;simp only[seval,TN,aa0,anH];refine⟨⟨rfl,rfl⟩,?_⟩;refine jR ?_;simp only[seval,aa0];have Hd:(pO x y).av=.agg [iv x.first,iv x.hours,iv x.am,.sl (x.seen.length+1) (x.seen.flatMap Seen.l++[iv y.hour,iv y.next.min,iv y.next.max]) .shut,aG x.pieces,aG x.aq]:=by unfold pO aj.av aj.l bM;rw[Tp,VX];rfl
 rw[Hd]at hk;refine dS hH (uP (.cons (Wk.refl _) (.cons (Wk.refl _) (.cons (Wk.refl _) (.cons (dQ _ _ _) (.cons (Wk.refl _) (.cons (Wk.refl _) .nil))))))) ?_ hk;rw[<- Hd];rw[BW];trivial
end
end Go.Gg
namespace Go.Gg.Tk
def LA{α:Type}(c:Nat->Bool)(g:Nat->Option α)(i:Nat):((Tt (i+1)).filter c).findSome? g=(((Tt i).filter c).findSome? g).or (if c i then g i else none):=by rw[Wb,YO,List.findSome?_append];congr 1;cases h:c i<;>simp[h]
def aas{α:Type}{c:Nat->Bool}{g:Nat->Option α}{i n:Nat}{t:α}(hi:i<n)(h0:((Tt i).filter c).findSome? g=none)(hc:c i=true)(hg:g i=some t):((Tt n).filter c).findSome? g=some t:=by
 have h1:((Tt (i+1)).filter c).findSome? g=some t:=by rw[LA,h0,hc,if_pos rfl,hg];rfl
 obtain⟨m,rfl⟩:∃m,n=i+1+m:=⟨n-(i+1),by omega⟩;clear hi;induction m with
 |zero=>exact h1
 |succ m ih=>rw[<- VY,LA,ih];rfl
def aat{α:Type}{c:Nat->Bool}{g:Nat->Option α}{i:Nat}(h0:((Tt i).filter c).findSome? g=none)(h:c i=true->g i=none):((Tt (i+1)).filter c).findSome? g=none:=by
 rw[LA,h0];cases hc:c i with
 |false=>rfl
 |true=>rw[if_pos rfl,h hc];rfl
def apZ{α:Type}(h:SD)(c:Int->Bool)(g:Int->Option α):((xJ h).filter c).findSome? g=((Tt (h.getLastD 0-h.headD 0).toNat).filter λi:Nat=>c (h.headD 0+(i:Int))).findSome? λi:Nat=>g (h.headD 0+(i:Int)):=by unfold xJ;rw[as',List.findSome?_map];rfl
end Go.Gg.Tk
