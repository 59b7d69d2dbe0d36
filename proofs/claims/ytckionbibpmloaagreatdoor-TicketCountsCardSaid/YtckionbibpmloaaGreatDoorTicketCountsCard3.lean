/- A part of the proof. -/
import Derived.Test.YtckionbibpmloaaGreatDoorTicketCountsCard2
import Derived.Test.YtckionbibpmloaaGreatDoorProg
import Derived.Conc.TokenWalk
set_option linter.all false
set_option maxRecDepth 4000
set_option maxHeartbeats 4000000
open Array renaming eq_empty_of_size_eq_zero->Xw,ext'->Wz,getD_eq_getD_getElem?->Th,getElem?_eq_getElem->Tj,replicate->US
open Bool renaming and_eq_true->Ui,false_and->Ww,false_eq_true->UH,false_or->ar_,not_false->W5,not_true->Xn,or_eq_true->XP,true_and->VO,true_or->axA
open Classical renaming byContradiction->Uv
open Decidable renaming not_not->W4
open Eq renaming trans->Xm
open Function renaming comp_def->ZI
open Go renaming Addr->Wy,CallKind->Yr,Code->U5,Deferred->Yn,Frame->VM,FrameMode->Wp,Func->aw5,FuncId->UR,GStep->ayi,Goroutine->Ti,IntKind->UZ,LoopState->axj,Oper->Vp,Operand->Up,Program->Tl,Value->T9,World->Us,mark->axv,method->ZS
open Go.BinOp renaming neq->Xh
open Go.Conc renaming QuitsD->Y5
open Go.Event renaming mute->Xr
open Go.Extern.Atomic renaming casT->YH,loadT->ai',storeT->ai_,update->ah'
open Go.Extern.Race renaming marked->Xk,none_->Yi
open Go.Extern.Sync renaming semacquire->YG,semrelease->awW
open Go.GStep renaming after->U3
open Go.Instr renaming loadAt->X_,sureAddr->Wh
open Go.IntKind renaming i64->Tg,u64->UF,wrap->Ze
open Go.Made renaming depth->ZN
open Go.Obj renaming deferred->ag'
open Go.Op renaming equal->XW
open Go.Operand renaming const->ayf,tmp->ax6
open Go.Proofs.Tryz renaming f100->axE,f120->axX,f134->axB,f59->axN,f98->Y3,prog->BI
open Go.Result renaming ok->af'
open Go.Sem renaming runT_eq->UE
open Go.Value renaming chan->Y7,int->S_,pointer->Zs
open Go.World renaming cell?->VA,frozen?->aw2
open Int renaming eq_ofNat_of_zero_le->aa_,ofNat->aya,toNat->Zm
open List renaming any_cons->Z3,any_eq_true->VP,append_assoc->Ev,append_nil->Ts,cons_append->WX,drop->U7,drop_append->WG,drop_append_of_le_length->XB,drop_drop->axL,drop_eq_getElem_cons->UL,drop_eq_nil_of_le->UX,drop_zero->Wx,ext_getElem?->Yd,foldl->axr,foldl_append->Y1,foldl_cons->Wd,forall_mem_cons->W3,getD_eq_getElem?_getD->Tf,getElem?_append_left->T6,getElem?_append_right->Uc,getElem?_eq_getElem->T4,getElem?_eq_none->VI,getElem?_eq_some_iff->Tn,getElem?_map->Ur,getElem?_of_mem->Wl,getElem?_range->awZ,getElem?_set->VZ,getElem?_set_ne->Vd,getElem?_take->Vh,getElem?_toArray->Ws,getElem_mem->W_,getLast?_eq_some_getLast->Y6,getLastD_eq_getLast?->Wc,getLast_mem->apT,head?_append->XX,length_append->Tp,length_cons->U4,length_drop->Vm,length_map->Um,length_nil->Vz,length_pos_iff->W9,length_range->as_,length_set->UK,length_singleton->Uw,map->We,mapM_cons->U6,mapM_nil->VB,mapM_toArray->Zc,map_append->UA,map_congr_left->WR,map_cons->VN,map_flatMap->WN,map_map->Zb,map_nil->Zk,map_take->Xg,mem_append->T1,mem_append_left->Uk,mem_append_right->T7,mem_cons->Tm,mem_flatMap->T8,mem_flatten->Y0,mem_iff_getElem?->VQ,mem_map->Uh,mem_of_getElem?->Un,mem_of_mem_take->YN,mem_or_eq_of_mem_set->VD,mem_range->UB,mem_replicate->XO,mem_singleton->Ub,mem_toArray->UN,nil_append->Vv,nodup_append->Wo,nodup_nil->XU,nodup_range->Y',not_mem_nil->T5,range->Tt,range'->U8,range_succ->Wb,replicate->UQ,replicate_succ->XE,set_append_left->VE,set_append_right->Vg,set_cons_succ->Vs,set_cons_zero->U1,set_set->Yk,take->U9,take_add_one->WY,take_append_drop->W2,take_append_of_le_length->UD,take_length->Ux,take_of_length_le->Tu,take_succ->Ys,take_succ_cons->Xd,take_take->VF,take_zero->axK
open List.Perm renaming refl->axs
open Nat renaming add_sub_cancel_left->UU,add_zero->Vr,le_of_eq->Yx,le_refl->Tv,lt_trans->Xx,reduceAdd->Tq,reduceEqDiff->asg,sub_self->WV,sub_zero->aw'
open Option renaming bind_eq_bind->UW,bind_eq_some_iff->Uj,getD_none->WA,getD_some->T_,map_eq_some_iff->Uu,map_some->VT,pure_def->Vk,toList_some->ZZ
open Option.some renaming inj->V_,injEq->Ul
open Prod.mk renaming inj->Yb,injEq->VW
namespace Go.Gg
open Go.Conc Go.Proofs Go.Gg.Tk
def Pr{α:Type}{g:α->AV}{xs:List α}{i:Nat}{y:α}(h:i<xs.length):(xs.map g).take i++[g y]++(xs.map g).drop (i+1)=(xs.set i y).map g:=by rw[List.map_set,List.set_eq_take_append_cons_drop,if_pos (by simpa using h)];simp
namespace Tk
def qX (l:SE)(i:Nat):SE:=l.take i++UQ (4-i) 0
def ahL{l:SE}{i q:Nat}(h:l[i]?=some q)(hl:l.length<=4):(qX l i).set i q=qX l (i+1):=by have hi:=eF h;unfold qX;rw[Vg _ _ (by simp;omega),show i-(l.take i).length=0 by simp;omega,show 4-i=(4-(i+1))+1 by omega,XE,U1,Ys,h];simp
def ahK{l:SE}{i:Nat}(hi:i<=l.length)(hl:l.length<=4):(qX l i).length=4:=by simp[qX];omega
def ahJ{l:SE}:qX l l.length=l++UQ (4-l.length) 0:=by simp[qX]
end Tk
def HJ{H L:SA}{c c':aa}(h:bJ (H++(L++[c])))(hc:∀n,fw n c'):bJ (H++(L++[c'])):=λz hz=>by
 have hl:(H++(L++[c'])).length=(H++(L++[c])).length:=by simp
 rw[hl];rcases T1.1 hz with h'|h';exact h z (Uk _ h');rcases T1.1 h' with h'|h';exact h z (T7 _ (Uk _ h'));rw[Ub.1 h'];exact hc _
def ac8(l:SE)(t n:Nat):fw n (.cells (l.map λn=>wv n) t):=by intro a ha;obtain⟨x,_,rfl⟩:=Uh.1 ha;exact .val _
def aqj(l:SD)(t n:Nat):fw n (.cells (l.map iv) t):=by intro a ha;obtain⟨x,_,rfl⟩:=Uh.1 ha;exact .val _
section
variable {lv:Bool}
def ajL{H:SA}{k kp:SF}{x:aj}{h:SD}(hk:k (.fn (.func 131) [] [.op (H.length+1) 0,.op H.length 0]) (H++[.cells x.l 73,.cells (h.map iv) 80])):aS lv BI 111 H [x.av,.agg (h.map iv)] k kp:=by refine br (rs:=[.tmp 4]) (nt:=6) Tryz.f111 λhH hA=> ?_;simp only[ba,Tq,aj.av];refine ai ?_;refine ab ?_;simp only[seval,U6,VB,Vk,UW];refine aH ?_;exact b8 hk
def ajW{x:aj}{h:SD}{N ir ih:Nat}{yv pv:AV}{S:Type}{f:S->SD->dN S}{Gf:S->SA}{I:S->Prop}{A:SD->Prop}{σ:S}{k kp:SF}(hx:x.Ok)(hh:nc h)(hY:j8 lv BI yv f Gf N I A pv)(hr:∀σ L,(Gf σ++L)[ir]?=some (.cells x.l 73))(hi:∀σ L,(Gf σ++L)[ih]?=some (.cells (h.map iv) 80))
  (mK:∀n,Lt n pv) (hI:I σ) (hA:∀a∈(gM x h).map (ee h),A a) (hk:gQ Gf pv k kp [] (bI f ((gM x h).map (ee h)) σ)):aS lv BI 131 (Gf σ) [yv,.op ih 0,.op ir 0] k kp:=by
 refine br (rs:=[]) (nt:=45) Tryz.f131 λhH vp=> ?_;simp only[ba,Tq];have hN:=hY.len σ;have pA:=hx.ey;obtain⟨a,b,c,d,rfl,ha,hb,hc,hd,hs⟩:=hh.out;have okH:∀L:SA,(∀z∈L,∀n,fw n z)->bJ (Gf σ++L):=λL hL z hz=>by rcases T1.1 hz with h|h;exact(hH z h).mono (by simp);exact hL z h _
 refine ab ?_;simp only[seval,hY.parts];refine ab ?_;simp only[seval,hi];refine ai ?_;refine bO ?_;refine gU 4 (λi:Nat=>[(13,iv i)]) (λi=>Gf σ++[.cells [yv] 155,.cells ((jz [a,b,c,d,0,0,0,0,0,0,0] 4 i (-1)).map iv) 83]) (λi=>True) (λ_ _=>rfl) (by simp only[seval];simp[bE,Wk.refl]) rfl (λ_ _ _=>by simp) trivial (λbN cm i ce _ R hR=> ?_);refine ai ?_;refine ao ?_;refine⟨λhc=> ?_,λhc=> ?_⟩
 ·have bh:i<4:=by omega
  have b4:(0<=(i:Int)/\(i:Int)<4)=True:=by simp;omega
  have bz:=TL i (by omega);have iV:(jz [a,b,c,d,0,0,0,0,0,0,0] 4 i (-1)).length=11:=GL (by show 4+i<=11;omega);have mH:((jz [a,b,c,d,0,0,0,0,0,0,0] 4 i (-1)).map iv).length=11:=by rw[Um,iV]
  refine aF ?_;refine ai ?_;refine ab ?_;simp only[seval,b4,mH];refine⟨by omega,?_⟩;rw[xU (show 4+i<(jz [a,b,c,d,0,0,0,0,0,0,0] 4 i (-1)).length by omega),Lf (by show 4+i<11;omega)];refine ab ?_;simp only[seval,bz];exact hR _ ⟨bh,trivial,cK⟩
 have:i=4:=by omega
 subst this;clear hc ce;refine bT ?_;refine ai ?_;rw[show jz [a,b,c,d,0,0,0,0,0,0,0] 4 4 (-1)=[a,b,c,d, -1, -1, -1, -1,0,0,0]from rfl];refine bO ?_;refine gU 3 (λi:Nat=>[(20,iv i)]) (λi=>Gf σ++[.cells [yv] 155,.cells ((jz [a,b,c,d, -1, -1, -1, -1,0,0,0] 8 i (-1)).map iv) 83]) (λi=>True) (λ_ _=>rfl) (by simp only[seval];simp[bE,Wk.refl]) rfl (λ_ _ _=>by simp) trivial (λbN cm i ce _ R hR=> ?_);refine ai ?_;refine ao ?_;refine⟨λhc=> ?_,λhc=> ?_⟩
 ·have bh:i<3:=by omega
  have b4:(0<=(i:Int)/\(i:Int)<3)=True:=by simp;omega
  have bz:=TL i (by omega);have iV:(jz [a,b,c,d, -1, -1, -1, -1,0,0,0] 8 i (-1)).length=11:=GL (by show 8+i<=11;omega);have mH:((jz [a,b,c,d, -1, -1, -1, -1,0,0,0] 8 i (-1)).map iv).length=11:=by rw[Um,iV]
  refine aF ?_;refine ai ?_;refine ab ?_;simp only[seval,b4,mH];refine⟨by omega,?_⟩;rw[xU (show 8+i<(jz [a,b,c,d, -1, -1, -1, -1,0,0,0] 8 i (-1)).length by omega),Lf (by show 8+i<11;omega)];refine ab ?_;simp only[seval,bz];exact hR _ ⟨bh,trivial,cK⟩
 have:i=3:=by omega
 subst this;clear hc ce;refine bT ?_;rw[show jz [a,b,c,d, -1, -1, -1, -1,0,0,0] 8 3 (-1)=[a,b,c,d, -1, -1, -1, -1, -1, -1, -1]from rfl];refine ai ?_;refine ab ?_;simp only[seval,hr,TM,aG];refine bO ?_;refine gU x.pieces.length (λi:Nat=>[(31,iv i)]) (λi=>Gf σ++[.cells [yv] 155,.cells ([a,b,c,d, -1, -1, -1, -1, -1, -1, -1].map iv) 83,.cells ((qX (x.pieces.map (cq [a,b,c,d])) i).map λn=>wv n) 77]) (λi=>True) (λ_ _=>rfl) (by simp only[seval];simp[bE,Wk.refl]) rfl (λ_ _ _=>by simp) trivial (λbN cm i ce _ R hR=> ?_);refine ai ?_;refine ao ?_;refine⟨λhc=> ?_,λhc=> ?_⟩
 ·have bh:i<x.pieces.length:=by omega
  obtain⟨y,hy⟩:=bF bh;have vX:(x.pieces.map (cq [a,b,c,d]))[i]?=some (cq [a,b,c,d] y):=by rw[Ur,hy];rfl
  have b4:(0<=(i:Int)/\(i:Int)<4)=True:=by simp;omega
  have bz:=TL i (by omega);have cI:(qX (x.pieces.map (cq [a,b,c,d])) i).length=4:=ahK (by simp;omega) (by simpa using pA);have xf:((qX (x.pieces.map (cq [a,b,c,d])) i).map λn=>wv n).length=4:=by rw[Um,cI]
  refine aF ?_;refine ab ?_;simp only[seval,oR hy,fy bh];refine ab ?_;simp only[seval,hi,b4];refine aK (GJ (h:=[a,b,c,d]) (y:=y) hh ?_);(try simp only[seval,b4,xf]);refine⟨by omega,?_⟩;rw[Pr (g:=λn=>wv n) (show i<(qX (x.pieces.map (cq [a,b,c,d])) i).length by omega),ahL vX (by simpa using pA)];refine ab ?_;simp only[seval,bz];exact hR _ ⟨bh,trivial,Cd (oI rfl rfl) (by simp only[seval];simp[bE,Wk.refl]) (HJ (L:=[_,_]) bN (ac8 _ _)) (by simp[dF])⟩
 have:i=x.pieces.length:=by omega
 subst this;clear hc ce;refine bT ?_;refine ai ?_;refine ab ?_;simp only[seval,U6,VB,Vk,UW];refine ai ?_;have qw:qX (x.pieces.map (cq [a,b,c,d])) x.pieces.length=x.pieces.map (cq [a,b,c,d])++UQ (4-x.pieces.length) 0:=by have:=ahJ (l:=x.pieces.map (cq [a,b,c,d]));simpa using this
 refine aK (?_);rw[hN];have sY:∀n,Lt n (.aJ []):=λn=>by simp[iw]
 have hT0:∀eC,pV [a,b,c,d] x.pieces.length 0 [] eC->True:=λ_ _=>trivial;refine ajX (x:=x) (h:=[a,b,c,d]) hx rfl hY hr qw x.pieces.length 0 0 [] [a,b,c,d, -1, -1, -1, -1, -1, -1, -1] σ [] _ _ rfl (by decide) rfl ⟨rfl,rfl,?_⟩ hI hA (λeC t_=> ?_)
 ·have:x.pieces.length=0\/x.pieces.length=1\/x.pieces.length=2\/x.pieces.length=3\/x.pieces.length=4:=by omega
  rcases this with e|e|e|e|e<;>rw[e]<;>rfl
 change db Gf pv _ _ _ (bI f ((gM x [a,b,c,d]).map (ee [a,b,c,d])) σ);cases hf:bI f ((gM x [a,b,c,d]).map (ee [a,b,c,d])) σ with
 |go s=>rw[hf]at hk;simp only[db,gQ]at hk⊢;rw[Ts]at hk;(try simp only[seval]);rw[<- hN];exact wm hY hH sY hk
 |stop s=>rw[hf]at hk;simp only[db,gQ]at hk⊢;rw[Ts]at hk;(try simp only[seval]);rw[<- hN];exact wm hY hH sY hk
 |bad s=>rw[hf]at hk;simp only[db,gQ]at hk⊢;rw[Ts]at hk;rw[<- hN];exact wm hY hH mK hk
end
open Go.Conc Go.Proofs Go.Gg.Tk
namespace Tk
structure oW (h:SD)(ns:SE)(k s:Nat)(o:SE)(tc:SD):Prop where
 len:tc.length=11
 pre:tc.take (8+s)=h++lU 4 ns++o.map λn:Nat=>(n:Int)
 tl:tc.drop (8+k)=UQ (3-k) (-1)
def oW.all{h:SD}{ns:SE}{k:Nat}{o:SE}{tc:SD}(ho:o.length=k)(n:oW h ns k k o tc):tc=dM h ns o:=by
 have:=W2 (8+k) tc;rw[n.pre,n.tl]at this;rw[<- this];unfold dM
 conv=>rhs;unfold lU
 rw[ho,Ev];rfl
def B9{k:Nat}{l:SE}(h:l.length<=k):(lU k l).length=k:=by simp[lU];omega
def oW.back{h:SD}{ns:SE}{k s:Nat}{o:SE}{n:Nat}{tc:SD}(h4:h.length=4)(hn:ns.length<=4)(ho:o.length=s)(q:oW h ns k (s+1) (o++[n]) tc):oW h ns k s o tc:=by
 refine⟨q.len,?_,q.tl⟩;have e:tc.take (8+s)=(tc.take (8+(s+1))).take (8+s):=by rw[VF];congr 1;omega
 have hp:=B9 hn;rw[e,q.pre,UA,<- Ev,UD (by simp[h4,ho,hp];omega),Tu (by simp[h4,ho,hp];omega)]
def oW.next{h:SD}{ns:SE}{k s:Nat}{o:SE}{n:Nat}{tc:SD}(hp:s<k)(hk:k<=3)(q:oW h ns k s o tc):oW h ns k (s+1) (o++[n]) (tc.set (8+s) (n:Int)):=by refine⟨by rw[UK];exact q.len,?_,?_⟩;rw[show 8+(s+1)=(8+s)+1 by omega,PE (by rw[q.len];omega),q.pre];simp;rw[RJ (by omega)];exact q.tl
def oW.num{h:SD}{ns:SE}{k s p:Nat}{o:SE}{tc:SD}(h4:h.length=4)(hn:ns.length<=4)(hp:p<ns.length)(q:oW h ns k s o tc):tc[4+p]?=some ((ns.getD p 0:Nat):Int):=by
 have h1:(tc.take (8+s))[4+p]?=some ((ns.getD p 0:Nat):Int):=by rw[q.pre,Ev,Uc (by omega),h4,show 4+p-4=p by omega,T6 (by rw[B9 hn];omega)];unfold lU;rw[T6 (by simpa using hp),Ur,Tf,T4 hp];rfl
 rwa[Vh,if_pos (by omega)]at h1
def aqx{h:SD}{ns:SE}{k q:Nat}{qs:SE}{u:Nat}{o:SE}:(mV k ns (q::qs) u o).map (dM h ns)=(Tt k).flatMap λp=>if u.testBit p|| !q.testBit (ns.getD p 0)then[]else(mV k ns qs (u|||2^p) (o++[p])).map (dM h ns):=by rw[mV,WN];congr 1;funext n;split<;>rfl
end Tk
open Go.Conc Go.Proofs Go.Gg.Tk
section
variable {lv:Bool}
def zV (yv:AV)(N ir it is:Nat):SA:=[.cells [yv] 155,.cells [.fn (.func 134) [] [.op ir 0,.op N 0,.op it 0,.op is 0,.op (N+1) 0]] 191]
def ajZ{x:aj}{h:SD}{ns qs:SE}{N ir it is:Nat}{yv pv:AV}{S:Type}{f:S->SD->dN S}{Gf:SD->S->SA}{I:S->Prop}{A:SD->Prop}(hx:x.Ok)(h4:h.length=4)(gA:ns.length=x.pieces.length)(hY:∀tc,j8 lv BI yv f (Gf tc) N I A pv)(hr:∀tc σ L,(Gf tc σ++L)[ir]?=some (.cells x.l 73))
  (ht:∀tc σ L,(Gf tc σ++L)[it]?=some (.cells (tc.map iv) 83)) (d_:∀tc eC σ L,(Gf tc σ++L).set it (.cells (eC.map iv) 83)=Gf eC σ++L) (hs:∀tc σ L,(Gf tc σ++L)[is]?=some (.cells (qs.map λn=>wv n) 78)) (BF:∃r,qs=x.aq.map (cq h)++r) (zl:qs.length=3):
  ∀(d s u:Nat)(o:SE)(tc:SD)(σ:S)(M:SA)(k kp:SF),d+s=x.aq.length->u<65536->o.length=s->oW h ns x.aq.length s o tc->I σ->(∀a∈(mV x.pieces.length ns ((x.aq.map (cq h)).drop s) u o).map (dM h ns),A a)->
   (∀eC,oW h ns x.aq.length s o eC->db (Gf eC) pv k kp (zV yv N ir it is++M) (bI f ((mV x.pieces.length ns ((x.aq.map (cq h)).drop s) u o).map (dM h ns)) σ))->
   aS lv BI 134 (Gf tc σ++(zV yv N ir it is++M)) [iv s,wv u,.op ir 0,.op N 0,.op it 0,.op is 0,.op (N+1) 0] k kp:=by
 intro d;induction d with
 |zero=>
  intro s u o tc σ M k kp mG hu ho hT hI hA hk;refine br (rs:=[.tmp 9]) (nt:=54) axB λhH vp=> ?_;simp only[ba,Tq];have g0:∀(tc:SD)(σ:S)(L:SA),(Gf tc σ++L)[N]?=L[0]?:=λtc σ L=>(hY tc).get σ L 0;have cJ:s=x.aq.length:=by omega
  have po:(x.aq.map (cq h)).drop s=[]:=UX (by simp;omega);rw[po,mV]at hA hk;rw[List.map_singleton]at hA hk;rw[Pl]at hk;have zv:tc=dM h ns o:=by subst cJ;exact hT.all ho
  have jV:(tc.map iv).length=11:=by rw[Um,hT.len]
  refine ai ?_;refine ab ?_;simp only[seval,hr,TM,aG];refine ao ?_;refine⟨λhc=> ?_,λhc=>by exfalso;simp at hc;omega⟩;refine ab ?_;simp only[seval,g0,ht,zV,jV];rw[Tu (i:=11) (l:=tc.map iv) (by rw[jV];exact Tv _)];rw[<- zv]at hA hk;have aO:=hk tc hT;refine n9 ((hY tc).call σ tc (zV yv N ir it is++M) _ _ hI (hA _ (by simp)) ?_);cases hf:f σ tc with
  |go σ'=>rw[hf]at aO;simp only[db]at aO⊢;(try simp only[seval]);refine aH ?_;exact b8 aO
  |stop σ'=>rw[hf]at aO;simp only[db]at aO⊢;(try simp only[seval]);refine aH ?_;exact b8 aO
  |bad σ'=>rw[hf]at aO;simp only[db]at aO⊢;exact b8 aO
 |succ d ihd=>
  intro s u o tc σ M k kp mG hu ho hT hI hA hk;refine br (rs:=[.tmp 9]) (nt:=54) axB λhH vp=> ?_;simp only[ba,Tq];have TM:x.l=[iv x.first,iv x.hours,iv x.am,bM x.seen,aG x.pieces,aG x.aq]:=rfl;have g1:∀(tc:SD)(σ:S)(L:SA),(Gf tc σ++L)[N+1]?=L[1]?:=λtc σ L=>(hY tc).get σ L 1;have pA:=hx.ey;have zn:=hx.di;obtain⟨y,hy⟩:=bF (xs:=x.aq) (i:=s) (by omega);have vX:(x.aq.map (cq h))[s]?=some (cq h y):=by rw[Ur,hy];rfl
  have oC:qs[s]?=some (cq h y):=by obtain⟨r,e⟩:=BF;rw[e,T6 (by simp;omega)];exact vX
  have mL:cq h y<65536:=Xx (aaa h y) (by decide);have aN:¬(s:Int)=(x.aq.length:Int):=by omega
  rw[wY vX,aqx]at hA hk;generalize hg:(λp=>if u.testBit p|| !(cq h y).testBit (ns.getD p 0)then[]else(mV x.pieces.length ns ((x.aq.map (cq h)).drop (s+1)) (u|||2^p) (o++[p])).map (dM h ns))=g at hA hk;refine ai ?_;refine ab ?_;simp only[seval,hr,TM,aG];refine ao ?_;refine⟨λhc=>by exfalso;exact aN (by simpa using hc),λhc=> ?_⟩;refine aF ?_;refine ab ?_;simp only[seval,hr,TM,aG];refine bO ?_;refine AD (measure λm:Nat×S×SD=>x.pieces.length-m.1).wf (λm=>[(24,iv (m.1:Nat))]) (λm=>Gf m.2.2 m.2.1++(zV yv N ir it is++M)) (λm=>m.1<=x.pieces.length/\bI f ((Tt m.1).flatMap g) σ=.go m.2.1/\oW h ns x.aq.length s o m.2.2) (0,σ,tc) (λ_ _=>rfl) (by intro p hp;simp at hp;subst hp;exact⟨_,rfl,Wk.refl _⟩) rfl (λ_ _=>by simp[zV,(hY _).len]) ⟨by omega,rfl,hT⟩ (λbN cm m an R hR=> ?_);obtain⟨i,τ,tq⟩:=m;obtain⟨hi,bQ,l9⟩:=an;replace hi:i<=x.pieces.length:=hi;replace bQ:bI f ((Tt i).flatMap g) σ=.go τ:=bQ;replace l9:oW h ns x.aq.length s o tq:=l9;refine ai ?_;refine ao ?_;refine⟨λhc=> ?_,λhc=> ?_⟩
  ·have bh:i<x.pieces.length:=(by omega);have bz:=TL i (by omega);have hws:=TL s (by omega);have sO:=Ls g bh;have uu:=Lu g i;have DL:I τ:=Cf (A:=A) (hY tc).inv _ σ τ (λa ha=>hA a (by rw[sO];exact Uk _ ha)) hI bQ;have b3:(0<=(s:Int)/\(s:Int)<3)=True:=(by simp;omega);have b4:(0<=(i:Int)/\(i:Int)<4)=True:=(by simp;omega);have FB:(u.testBit i|| !(cq h y).testBit (ns.getD i 0))=true->g i=[]:=λe=>(by rw[<- hg];exact if_pos e);have LC:(u.testBit i|| !(cq h y).testBit (ns.getD i 0))=false->g i=(mV x.pieces.length ns ((x.aq.map (cq h)).drop (s+1)) (u|||2^i) (o++[i])).map (dM h ns):=λe=>(by rw[<- hg];exact if_neg (by rw[e];simp));have abv:=l9.num h4 (by omega) (show i<ns.length by omega);refine aF ?_;refine ai ?_;refine cS 14 ?_;simp only[seval,ht,hs,b3,b4,AU oC,lx abv];refine dG (bv (u.testBit i)) (bX (yI hu ⟨rfl,rfl⟩)) ?_;(try simp only[seval]);refine yO (λh2=> ?_) (λh2=> ?_)
   ·(try simp only[seval,ht,hs,b3,b4,AU oC,lx abv]);refine dG (bv ((cq h y).testBit (ns.getD i 0))) (bX (yI mL ⟨rfl,rfl⟩)) ?_;(try simp only[seval]);refine ao ?_;refine⟨λh3=> ?_,λh3=> ?_⟩;have aR:=FB (by rw[h2];simpa using h3);refine bT ?_;refine ab ?_;simp only[seval,bz];exact hR _ ⟨(i+1,τ,tq),(by show x.pieces.length-(i+1)<x.pieces.length-i;omega),⟨by omega,by rw[uu,aR,Ts];exact bQ,l9⟩,cK⟩
    ·have aR:=LC (by rw[h2];simpa using h3);have jV:(tq.map iv).length=11:=(by rw[Um,l9.len]);have Kj:8+s<tq.length:=(by rw[l9.len];omega);refine aF ?_;refine ab ?_;simp only[seval,ht,b3,jV];refine⟨by omega,?_⟩;rw[xU Kj,d_];refine cS 6 ?_;simp only[seval,g1,zV];refine dG (wv (u|||2^i)) (bX (vn hu (show i<16 by omega) ⟨rfl,rfl⟩)) ?_;rw[hws];have ml:u|||2^i<65536:=qI hu (x7 (by omega));refine aK (ihd (s+1) (u|||2^i) (o++[i]) (tq.set (8+s) (i:Int)) τ M _ _ (by omega) ml (by simp[ho]) (l9.next (by omega) zn) DL (λa ha=>hA a (by rw[sO,aR];exact T7 _ (Uk _ ha))) (λeC t_=> ?_));have DO:=t_.back h4 (by omega) ho;have BM:bI f ((Tt x.pieces.length).flatMap g) σ=match bI f (g i) τ with
       |.go s'=>bI f ((U8 (i+1) (x.pieces.length-(i+1))).flatMap g) s'
       |r=>r:=by
      rw[sO,rQ,bQ];exact rQ f (g i) _ τ
     rw[<- aR];have aO:=hk eC DO;rw[BM]at aO;cases hf:bI f (g i) τ with
     |go τ'=>simp only[db];(try simp only[seval]);refine ao ?_;refine aF ?_;refine ab ?_;simp only[seval,bz];exact hR _ ⟨(i+1,τ',eC),(by show x.pieces.length-(i+1)<x.pieces.length-i;omega),⟨by omega,by rw[uu,rQ,bQ];exact hf,DO⟩,cK⟩
     |stop τ'=>rw[hf]at aO;simp only[db]at aO⊢;(try simp only[seval]);refine ao ?_;refine ai ?_;refine aH ?_;exact b8 aO
     |bad τ'=>rw[hf]at aO;simp only[db]at aO⊢;exact b8 aO
   ·(try simp only[seval]);refine ao ?_;have aR:=FB (by rw[show u.testBit i=true by simpa using h2];rfl);refine bT ?_;refine ab ?_;simp only[seval,bz];exact hR _ ⟨(i+1,τ,tq),(by show x.pieces.length-(i+1)<x.pieces.length-i;omega),⟨by omega,by rw[uu,aR,Ts];exact bQ,l9⟩,cK⟩
  ·have dL:i=x.pieces.length:=(by omega);subst dL;have aO:=hk tq l9;rw[bQ]at aO;refine bT ?_;refine ai ?_;refine aH ?_;exact b8 aO
def ajM{H:SA}{k kp:SF}{x:aj}{tc:SD}{qs:SE}(hk:k (.fn (.func 133) [] [.op H.length 0,.op (H.length+1) 0,.op (H.length+2) 0]) (H++[.cells x.l 73,.cells (tc.map iv) 83,.cells (qs.map λn=>wv n) 78])):aS lv BI 112 H [x.av,.agg (tc.map iv),.agg (qs.map λn=>wv n)] k kp:=by refine br (rs:=[.tmp 6]) (nt:=8) Tryz.f112 λhH hA=> ?_;simp only[ba,Tq,aj.av];refine ai ?_;refine ab ?_;simp only[seval,U6,VB,Vk,UW];refine aH ?_;exact b8 hk
def ajY{x:aj}{h:SD}{ns qs:SE}{N ir it is:Nat}{yv pv:AV}{S:Type}{f:S->SD->dN S}{Gf:SD->S->SA}{I:S->Prop}{A:SD->Prop}{tc:SD}{σ:S}{k kp:SF}(hx:x.Ok)(h4:h.length=4)(gA:ns.length=x.pieces.length)(hY:∀tc,j8 lv BI yv f (Gf tc) N I A pv)(hr:∀tc σ L,(Gf tc σ++L)[ir]?=some (.cells x.l 73))
  (ht:∀tc σ L,(Gf tc σ++L)[it]?=some (.cells (tc.map iv) 83)) (d_:∀tc eC σ L,(Gf tc σ++L).set it (.cells (eC.map iv) 83)=Gf eC σ++L) (hs:∀tc σ L,(Gf tc σ++L)[is]?=some (.cells (qs.map λn=>wv n) 78)) (BF:∃r,qs=x.aq.map (cq h)++r) (zl:qs.length=3)
  (an:∀m tc eC σ,(∀z∈Gf tc σ,fw m z)->∀z∈Gf eC σ,fw m z) (mK:∀n,Lt n pv) (zv:tc=ee h ns) (hI:I σ) (hA:∀a∈(iS x h ns).map (dM h ns),A a) (hk:∀eC,eC.length=11->gQ (Gf eC) pv k kp [] (bI f ((iS x h ns).map (dM h ns)) σ)):aS lv BI 133 (Gf tc σ) [yv,.op ir 0,.op it 0,.op is 0] k kp:=by
 refine br (rs:=[]) (nt:=9) Tryz.f133 λhH vp=> ?_;simp only[ba,Tq];have hN:=(hY tc).len σ;have pA:=hx.ey;have zn:=hx.di;refine ab ?_;simp only[seval,(hY tc).parts];refine ai ?_;refine ab ?_;simp only[seval,U6,VB,Vk,UW];refine ai ?_;refine aK (?_);rw[hN];have sY:∀n,Lt n (.aJ []):=λn=>by simp[iw]
 have cJ:=B9 (k:=4) (l:=ns) (by omega);have cut:∀(eC:SD)(σ':S)(L:SA)(a:AV)(k:SF),(∀n,Lt n a)->k a (Gf eC σ')->cz (Gf tc σ).length (Gf eC σ'++L) a k:=λeC σ' L a k ha aO=>by refine jy (H':=Gf eC σ') (Wk.refl _) rfl (by rw[(hY eC).len,(hY tc).len];exact Tv _) ?_ (ha _) aO;intro z hz;have h1:∀z∈Gf eC σ,fw N z:=an N tc eC σ (λw hw=>by have:=hH w hw;rwa[hN]at this);rw[(hY eC).len];exact(hY eC).ok N σ σ' h1 z hz
 refine ajZ (x:=x) (h:=h) (ns:=ns) (qs:=qs) hx h4 gA hY hr ht d_ hs BF zl x.aq.length 0 0 [] tc σ [] _ _ rfl (by decide) rfl ⟨?_,?_,?_⟩ hI hA (λeC t_=> ?_);rw[zv];simp[ee,h4,cJ];rw[zv];unfold ee;rw[Zk,Ts,UD (by simp[h4,cJ]),Tu (by simp[h4,cJ])]
 ·rw[zv];unfold ee;rw[WG,UX (by simp[h4,cJ]),Vv];have:(h++lU 4 ns).length=8:=by simp[h4,cJ]
  rw[this];have:x.aq.length=0\/x.aq.length=1\/x.aq.length=2\/x.aq.length=3:=by omega
  rcases this with e|e|e|e<;>rw[e]<;>rfl
 have hk:=hk eC t_.len;change db (Gf eC) pv _ _ _ (bI f ((iS x h ns).map (dM h ns)) σ);cases hf:bI f ((iS x h ns).map (dM h ns)) σ with
 |go s=>rw[hf]at hk;simp only[db,gQ]at hk⊢;rw[Ts]at hk;(try simp only[seval]);rw[<- hN];exact cut _ _ _ _ _ sY hk
 |stop s=>rw[hf]at hk;simp only[db,gQ]at hk⊢;rw[Ts]at hk;(try simp only[seval]);rw[<- hN];exact cut _ _ _ _ _ sY hk
 |bad s=>rw[hf]at hk;simp only[db,gQ]at hk⊢;rw[Ts]at hk;rw[<- hN];exact cut _ _ _ _ _ mK hk
end
section
variable {lv:Bool}{P:Tl}{s:AS}{ms:SE}{bs:S5}{nt:Nat}
def aht{f:Up}{ps:TE}{bS body:U5}{fv:AV}{Φ:SN}(hf:s.ev f=some fv)
  (h:∀(l fn:Nat)(T:SH)(ag bo:U5),T=s.T->ag=bS->bo=body->fh lv P fv (s.H++[.obj (.deferred (some [])),.loop l .ready none fn T nt ps ag bo s.H.length]) [.fn (.yield l) [] []]
   (λ_ H'=>∃st pe gr T' jI hO gT fQ gV,H'[s.H.length+1]?=some (.loop l st pe gr T' jI hO gT fQ gV)/\st≠ .busy/\tI Φ ⟨s.T,H'.set (s.H.length+1) .gone⟩ (s.H.length::ms) pe)
   (λpv H'=>Φ (.panic pv) ⟨s.T,H'⟩ (s.H.length::ms))):m9 lv P nt (.rangeFunc f ps bS body) s ms Φ:=ahs hf λl fn=>h l fn _ _ _ rfl rfl rfl
def Kh{f:Up}{ps:TE}{bS body:U5}{fv:AV}{Φ:SN}(hf:s.ev f=some fv)
  (h:∀(l fn:Nat)(T:SH)(ag bo:U5),T=s.T->ag=bS->bo=body->fh lv P fv (s.H++[.obj (.deferred (some [])),.loop l .ready none fn T nt ps ag bo s.H.length]) [.fn (.yield l) [] []]
   (λ_ H'=>∃st pe gr T' jI hO gT fQ gV,H'[s.H.length+1]?=some (.loop l st pe gr T' jI hO gT fQ gV)/\st≠ .busy/\tI Φ ⟨s.T,H'.set (s.H.length+1) .gone⟩ (s.H.length::ms) pe)
   (λpv H'=>Φ (.panic pv) ⟨s.T,H'⟩ (s.H.length::ms))):kM lv P nt bs (.rangeFunc f ps bS body) s ms Φ:=ahw hf λl fn=>h l fn _ _ _ rfl rfl rfl
def Gl{f:Up}{ps:TE}{bS body:U5}{fv:AV}{Φ:SI}{l0:Nat}(Ic:Nat){Lw OC df:Nat}{Px:axj}{OR:Option U5}{T0:SH}{O_:TE}{J' Km:U5}(hf:s.ev f=some fv)(h0:s.H[Ic]?=some (.loop l0 Px OR Lw T0 OC O_ J' Km df))
  (h:∀(l fn:Nat)(T:SH)(ag bo:U5),T=s.T->ag=bS->bo=body->fh lv P fv (s.H++[.loop l .ready none fn T nt ps ag bo df]) [.fn (.yield l) [] []]
   (λ_ H'=>∃st pe gr T' jI hO gT fQ gV,H'[s.H.length]?=some (.loop l st pe gr T' jI hO gT fQ gV)/\st≠ .busy/\uY Φ ⟨s.T,H'.set s.H.length .gone⟩ pe)
   (λpv H'=>Φ (.panic pv) ⟨s.T,H'⟩)):aW lv P (some l0) nt (.rangeFunc f ps bS body) s Φ:=ahh hf h0 λl fn=>h l fn _ _ _ rfl rfl rfl
end
section
variable {P:Tl}
def IX(Φ:SN)(s:AS)(ms:SE):tI Φ s ms none=Φ .normal s ms:=by rw[tI]
def aqY(Φ:SN)(s:AS)(ms:SE):tI Φ s ms (some .ret)=Φ .ret s ms:=by rw[tI]
def IY(Φ:SI)(s:AS):uY Φ s none=Φ .normal s:=by rw[uY]
def aq0(Φ:SI)(s:AS):uY Φ s (some .ret)=Φ .ret s:=by rw[uY]
def aqZ(Φ:SI)(s:AS)(i:Nat):uY Φ s (some (.exit i))=Φ (.exit i) s:=by rw[uY]
def ahP(id:Nat)(Φ:SN)(s:AS)(ms:SE):ap.qY id Φ .ret s ms=Φ .ret s ms:=by rw[ap.qY];simp
def ahO(id:Nat)(Φ:SN)(pv:AV)(s:AS)(ms:SE):ap.qY id Φ (.panic pv) s ms=Φ (.panic pv) s ms:=by rw[ap.qY];simp
def atz(Φ:SN)(pv:AV)(s:AS)(ms:SE):ap.wx Φ (.panic pv) s ms=Φ (.panic pv) s ms:=by rw[ap.wx];simp
def auj(K:AS->SE->Prop)(Φ:SN)(pv:AV)(s:AS)(ms:SE):ap.tj K Φ (.panic pv) s ms=Φ (.panic pv) s ms:=by rw[ap.tj];simp
def ald(rs:SW)(n:Nat)(k kp:SF)(s:AS)(ms:SE):tz P rs n k kp .normal s ms=au (jd ms s.H) λH'=>au (iF P ⟨s.T,H'⟩ rs) λl=>cz n H' (jr l) k:=by rw[tz]
def ale(rs:SW)(n:Nat)(k kp:SF)(pv:AV)(s:AS)(ms:SE):tz P rs n k kp (.panic pv) s ms=au (jd ms s.H) λH'=>cz n H' pv kp:=by rw[tz]
attribute [seval] ahP ahO atz auj ald ale
end
inductive Lp where
 |ready
 |ret
 |exit (i:Nat)
 |busy
def Lp.st:Lp->axj
 |.ready=> .ready
 |.ret=> .done
 |.exit _=> .done
 |.busy=> .busy
def Lp.pe:Lp->Option U5
 |.ready=>none
 |.ret=>some .ret
 |.exit i=>some (.exit i)
 |.busy=>none
namespace Tk
def dN.map {S T:Type}(g:S->T):dN S->dN T
 |.go s=> .go (g s)
 |.stop s=> .stop (g s)
 |.bad s=> .bad (g s)
def dN.fin {S:Type}:dN S->Bool×S
 |.go s=>(false,s)
 |.stop s=>(false,s)
 |.bad s=>(true,s)
end Tk
def Pj{S:Type}{Gf:S->SA}{pv:AV}{k kp:SF}{M:SA}{r r':dN S}(h:r.fin=r'.fin)(hk:gQ Gf pv k kp M r):gQ Gf pv k kp M r':=by
 cases r<;>cases r'<;>simp only[dN.fin,VW]at h<;>first
  |(obtain⟨_,rfl⟩:=h;exact hk)
  |(exact absurd h.1 (by decide))
end Go.Gg
namespace Go.Gg.Tk
open Go.Gg
def ju {S:Type}(f:S->SD->dN S)(deep:Int)(m:S×Lp)(b:SD):dN (S×Lp):=match f m.1 b with
 |.go σ=>if deep=0 then .stop (σ,.ret)else if deep=1 then .stop (σ,.exit 3)else .go (σ,.ready)
 |.stop σ=> .stop (σ,.ret)
 |.bad σ=> .bad (σ,.busy)
def lq {S:Type}:dN (S×Lp)->dN (S×Lp)
 |.go m=> .go (m.1,.ready)
 |.stop (σ,.ret)=> .stop (σ,.ret)
 |.stop (σ,_)=> .go (σ,.ready)
 |.bad m=> .bad (m.1,.busy)
def qM {S:Type}(f:S->SD->dN S)(deep:Int)(L:SD->SS)(m:S×Lp)(a:SD):dN (S×Lp):=lq (bI (ju f deep) (L a) (m.1,.ready))
def s9 (deep:Int)(ll:List (SS)):List (SD):=if deep=0 then ll.flatten.take 1 else if deep=1 then(ll.map (·.take 1)).flatten else ll.flatten
def aux{S:Type}{f:S->SD->dN S}{σ:S}{l:Lp}:∀(M:SS),bI (ju f 0) M (σ,l)=match M with
  |[]=> .go (σ,l)
  |b::_=>match f σ b with
   |.go τ=> .stop (τ,.ret)
   |.stop τ=> .stop (τ,.ret)
   |.bad τ=> .bad (τ,.busy)
 |[]=>rfl
 |b::M=>by simp only[bI,ju];cases f σ b<;>simp
def auy{S:Type}{f:S->SD->dN S}{σ:S}{l:Lp}:∀(M:SS),bI (ju f 1) M (σ,l)=match M with
  |[]=> .go (σ,l)
  |b::_=>match f σ b with
   |.go τ=> .stop (τ,.exit 3)
   |.stop τ=> .stop (τ,.ret)
   |.bad τ=> .bad (τ,.busy)
 |[]=>rfl
 |b::M=>by simp only[bI,ju];cases f σ b<;>simp
def aeY{S:Type}{f:S->SD->dN S}{deep:Int}(h0:deep≠0)(h1:deep≠1):∀(M:SS)(σ:S),bI (ju f deep) M (σ,.ready)=match bI f M σ with
  |.go τ=> .go (τ,.ready)
  |.stop τ=> .stop (τ,.ret)
  |.bad τ=> .bad (τ,.busy)
 |[],σ=>rfl
 |b::M,σ=>by
  simp only[bI,ju,h0,h1,if_false];cases f σ b with
  |go τ=>exact aeY h0 h1 M τ
  |stop τ=>rfl
  |bad τ=>rfl
def aeZ{S:Type}{f:S->SD->dN S}{deep:Int}{L:SD->SS}:∀(l:SS)(σ:S),((bI (qM f deep L) l (σ,.ready)).map Prod.fst).fin=(bI f (s9 deep (l.map L)) σ).fin/\(∀m,bI (qM f deep L) l (σ,.ready)=.go m->m.2=.ready)
 |[],σ=>by
  have:s9 deep (([]:SS).map L)=[]:=by unfold s9;by_cases h0:deep=0;rw[if_pos h0];rfl;by_cases h1:deep=1;rw[if_neg h0,if_pos h1];rfl;rw[if_neg h0,if_neg h1];rfl
  rw[this];exact⟨rfl,λm h=>by cases h;rfl⟩
 |a::l,σ=>by
  have ih:=aeZ (f:=f) (deep:=deep) (L:=L) l;by_cases h0:deep=0
  ·subst h0;have hp:s9 0 ((a::l).map L)=(L a++(l.map L).flatten).take 1:=rfl;have ku:s9 0 (l.map L)=((l.map L).flatten).take 1:=rfl;rw[hp];simp only[bI,qM,aux];cases hL:L a with
   |nil=>simp only[lq,Vv];rw[<- ku];exact ih σ
   |cons b M=>
    simp only[WX,Xd,axK];cases hf:f σ b with
    |go τ=>simp only[lq,bI,hf];exact⟨rfl,λm h=>by cases h⟩
    |stop τ=>simp only[lq,bI,hf];exact⟨rfl,λm h=>by cases h⟩
    |bad τ=>simp only[lq,bI,hf];exact⟨rfl,λm h=>by cases h⟩
  by_cases h1:deep=1
  ·subst h1;have hp:s9 1 ((a::l).map L)=(L a).take 1++s9 1 (l.map L):=rfl;rw[hp,rQ];simp only[bI,qM,auy];cases hL:L a with
   |nil=>simp only[lq,List.take_nil,bI];exact ih σ
   |cons b M=>
    simp only[Xd,axK,bI];cases hf:f σ b with
    |go τ=>simp only[lq];exact ih τ
    |stop τ=>simp only[lq];exact⟨rfl,λm h=>by cases h⟩
    |bad τ=>simp only[lq];exact⟨rfl,λm h=>by cases h⟩
  ·have hp:s9 deep ((a::l).map L)=L a++s9 deep (l.map L):=(by unfold s9;rw[if_neg h0,if_neg h1,if_neg h0,if_neg h1];rfl);rw[hp,rQ];simp only[bI,qM];rw[aeY h0 h1];cases hf:bI f (L a) σ with
   |go τ=>simp only[lq];exact ih τ
   |stop τ=>simp only[lq];exact⟨rfl,λm h=>by cases h⟩
   |bad τ=>simp only[lq];exact⟨rfl,λm h=>by cases h⟩
def Pm{S α:Type}{F:S->α->dN S}:∀{l:List α}{s s':S},bI F l s=.stop s'->∃t a,F t a=.stop s'
 |[],s,s',h=>by cases h
 |a::l,s,s',h=>by
  simp only[bI]at h;cases hf:F s a with
  |go t=>rw[hf]at h;exact Pm h
  |stop t=>rw[hf]at h;cases h;exact⟨s,a,hf⟩
  |bad t=>rw[hf]at h;cases h
def auw{S:Type}{f:S->SD->dN S}{deep:Int}{L:SD->SS}{m m':S×Lp}{a:SD}(h:qM f deep L m a=.stop m'):m'.2=.ret:=by
 unfold qM at h;generalize bI (ju f deep) (L a) (m.1,.ready)=r at h;cases r with
 |go q=>cases h
 |bad q=>cases h
 |stop q=>obtain⟨s,lp⟩:=q;cases lp<;>cases h;rfl
def auA{S:Type}{f:S->SD->dN S}{deep:Int}{m m':S×Lp}{a:SD}(h:ju f deep m a=.stop m'):m'.2=.ret\/m'.2=.exit 3:=by
 unfold ju at h;cases hf:f m.1 a with
 |go q=>rw[hf]at h;dsimp only at h;by_cases h0:deep=0;rw[if_pos h0]at h;cases h;exact .inl rfl;rw[if_neg h0]at h;by_cases h1:deep=1;rw[if_pos h1]at h;cases h;exact .inr rfl;rw[if_neg h1]at h;cases h
 |stop q=>rw[hf]at h;cases h;exact .inl rfl
 |bad q=>rw[hf]at h;cases h
def auz{S:Type}{f:S->SD->dN S}{deep:Int}{m m':S×Lp}{a:SD}(h:ju f deep m a=.go m'):m'.2=.ready:=by
 unfold ju at h;cases hf:f m.1 a with
 |go q=>rw[hf]at h;dsimp only at h;by_cases h0:deep=0;rw[if_pos h0]at h;cases h;rw[if_neg h0]at h;by_cases h1:deep=1;rw[if_pos h1]at h;cases h;rw[if_neg h1]at h;cases h;rfl
 |stop q=>rw[hf]at h;cases h
 |bad q=>rw[hf]at h;cases h
def adJ{S α:Type}{F:S->α->dN S}{J:S->Prop}{A:α->Prop}(hi:∀s a s',J s->A a->F s a=.go s'->J s'):∀{l:List α}{s s':S},(∀a∈l,A a)->J s->bI F l s=.stop s'->∃t a,J t/\A a/\F t a=.stop s'
 |[],s,s',_,_,h=>by cases h
 |a::l,s,s',ha,hs,h=>by
  simp only[bI]at h;cases hf:F s a with
  |go t=>rw[hf]at h;exact adJ hi (λb hb=>ha b (by simp[hb])) (hi s a t hs (ha a (by simp)) hf) h
  |stop t=>rw[hf]at h;cases h;exact⟨s,a,hs,ha a (by simp),hf⟩
  |bad t=>rw[hf]at h;cases h
def FG{S:Type}{f:S->SD->dN S}{deep:Int}{I:S->Prop}{A:SD->Prop}(hi:∀s a s',I s->A a->f s a=.go s'->I s'){m m':S×Lp}{a:SD}(hm:I m.1)(ha:A a)(h:ju f deep m a=.go m'\/ju f deep m a=.stop m'/\m'.2≠ .ret):I m'.1:=by
 unfold ju at h;cases hf:f m.1 a with
 |go q=>have hq:=hi _ _ _ hm ha hf;rw[hf]at h;dsimp only at h;by_cases h0:deep=0;rw[if_pos h0]at h;rcases h with h|⟨h,h2⟩;cases h;cases h;exact hq;rw[if_neg h0]at h;by_cases h1:deep=1;rw[if_pos h1]at h;rcases h with h|⟨h,h2⟩;cases h;cases h;exact hq;rw[if_neg h1]at h;rcases h with h|⟨h,h2⟩;cases h;exact hq;cases h
 |stop q=>rw[hf]at h;rcases h with h|⟨h,h2⟩;cases h;cases h;exact absurd rfl h2
 |bad q=>rw[hf]at h;rcases h with h|⟨h,h2⟩;cases h;cases h
def agu{S:Type}{f:S->SD->dN S}{deep:Int}{I:S->Prop}{A:SD->Prop}(hi:∀s a s',I s->A a->f s a=.go s'->I s'){l:SS}{σ:S}{m:S×Lp}(hl:∀a∈l,A a)(hs:I σ)(h:lq (bI (ju f deep) l (σ,.ready))=.go m):I m.1/\m.2=.ready:=by
 cases hr:bI (ju f deep) l (σ,.ready)with
 |go q=>rw[hr]at h;cases h;exact⟨Cf (f:=ju f deep) (s':=q) (I:=λm:S×Lp=>I m.1) (A:=A) (λs a s' h1 h2 h3=>FG hi h1 h2 (.inl h3)) l _ hl hs hr,rfl⟩
 |stop q=>
  obtain⟨t,a,h1,h2,h3⟩:=adJ (J:=λm:S×Lp=>I m.1) (A:=A) (λs a s' h1 h2 h3=>FG hi h1 h2 (.inl h3)) hl hs hr;rw[hr]at h;obtain⟨q1,q2⟩:=q;cases q2 with
  |ret=>cases h
  |ready=>cases h;exact⟨FG (m':=(q1,.ready)) hi h1 h2 (.inr ⟨h3,by simp⟩),rfl⟩
  |exit i=>cases h;exact⟨FG (m':=(q1,.exit i)) hi h1 h2 (.inr ⟨h3,by simp⟩),rfl⟩
  |busy=>cases h;exact⟨FG (m':=(q1,.busy)) hi h1 h2 (.inr ⟨h3,by simp⟩),rfl⟩
 |bad q=>rw[hr]at h;cases h
end Go.Gg.Tk
namespace Go.Gg
open Go.Conc Go.Proofs Go.Gg.Tk
namespace Tk
def n5 (l:SE)(i:Nat):SE:=l.take i++UQ (3-i) 0
def ahI{l:SE}{i q:Nat}(h:l[i]?=some q)(hl:l.length<=3):(n5 l i).set i q=n5 l (i+1):=by have hi:=eF h;unfold n5;rw[Vg _ _ (by simp;omega),show i-(l.take i).length=0 by simp;omega,show 3-i=(3-(i+1))+1 by omega,XE,U1,Ys,h];simp
def QX{l:SE}{i:Nat}(hi:i<=l.length)(hl:l.length<=3):(n5 l i).length=3:=by simp[n5];omega
def ahH{l:SE}:n5 l l.length=l++UQ (3-l.length) 0:=by simp[n5]
def ac1:∀{qs:SE}{u:Nat}{t ns:SE},ns∈lc qs u t->ns.length=t.length+qs.length
 |[],u,t,ns,h=>by simp only[lc,Ub]at h;subst h;rfl
 |q::qs,u,t,ns,h=>by simp only[lc,T8]at h;obtain⟨n,_,h⟩:=h;split at h;cases h;have:=ac1 h;simp at this⊢;omega
def OD{x:aj}{h:SD}{ns:SE}(hm:ns∈gM x h):ns.length=x.pieces.length:=by have:=ac1 hm;simpa using this
def IG (k:Nat)(a:SD):SE:=((a.drop 4).take k).map Zm
def apY{h:SD}{ns:SE}(h4:h.length=4):IG ns.length (ee h ns)=ns:=by
 unfold IG ee lU;rw[Ev,WG,UX (by omega),h4,Vv,WV,Wx,Ev,UD (by simp),Tu (by simp),Zb]
 conv=>rhs;rw[<- List.map_id ns]
 exact WR λn _=>by simp
def v4 (x:aj)(h:SD)(a:SD):List (SD):=(iS x h (IG x.pieces.length a)).map (dM h (IG x.pieces.length a))
def NS{x:aj}{h:SD}{ns:SE}(h4:h.length=4)(hn:ns.length=x.pieces.length):v4 x h (ee h ns)=(iS x h ns).map (dM h ns):=by unfold v4;rw[<- hn,apY h4]
def auF{x:aj}{h:SD}{deep:Int}(h4:h.length=4):jN x deep h=s9 deep (((gM x h).map (ee h)).map (v4 x h)):=by rw[Zb];have:(gM x h).map (v4 x h∘ee h)=(gM x h).map λns=>(iS x h ns).map λos=>dM h ns os:=WR λns hm=>NS h4 (OD hm);rw[this];rfl
end Tk
section
variable {lv:Bool}
def Lb{H:SA}{k kp:SF}{x:aj}{h:SD}{deep:Int}(hk:k (.fn (.func 110) [] [.op H.length 0,.op (H.length+1) 0,.op (H.length+2) 0]) (H++[.cells x.l 73,.cells (h.map iv) 80,.cells [iv deep] 3])):aS lv BI 78 H [x.av,.agg (h.map iv),iv deep] k kp:=by refine br (rs:=[.tmp 6]) (nt:=8) Tryz.f78 λhH hA=> ?_;simp only[ba,Tq,aj.av];refine ai ?_;refine ab ?_;simp only[seval,U6,VB,Vk,UW];refine aH ?_;exact b8 hk
def K5{x:aj}{h:SD}{deep:Int}{N ir ih id:Nat}{yv pv:AV}{S:Type}{f:S->SD->dN S}{Gf:S->SA}{I:S->Prop}{A:SD->Prop}{σ:S}{k kp:SF}(hx:x.Ok)(hh:nc h)(hY:j8 lv BI yv f Gf N I A pv)(hr:∀σ L,(Gf σ++L)[ir]?=some (.cells x.l 73))(hi:∀σ L,(Gf σ++L)[ih]?=some (.cells (h.map iv) 80))(hd:∀σ L,(Gf σ++L)[id]?=some (.cells [iv deep] 3))
  (mK:∀n,Lt n pv) (hI:I σ) (rc:∀a,A a->a.length=11) (hA:∀ns∈gM x h,∀a∈(iS x h ns).map (dM h ns),A a) (hk:gQ Gf pv k kp [] (bI f (jN x deep h) σ)):aS lv BI 110 (Gf σ) [yv,.op ir 0,.op ih 0,.op id 0] k kp:=by
 refine aag (rs:=[]) (nt:=44) F.f110 rfl rfl rfl (by simp) λhH vp=> ?_;simp only[ba,Tq];have hN:=hY.len σ;have zn:=hx.di;have oh:(h.map iv).length=4:=by rw[Um,hh.len]
 refine n4 ?_;refine ab ?_;simp only[seval,hY.parts];refine ahu ?_;refine n4 ?_;refine ai ?_;refine Kg ?_;refine n4 ?_;refine ab ?_;simp only[seval,hr,TM,aG];refine Kf ?_;refine bO ?_;refine gU x.aq.length (λi:Nat=>[(14,iv i)]) (λi=>Gf σ++[.cells [yv] 155,.cells ((n5 (x.aq.map (cq h)) i).map λn=>wv n) 78]) (λi=>True) (λ_ _=>rfl) (by simp only[seval];simp[bE,Wk.refl]) rfl (λ_ _ _=>by simp) trivial (λbN cm i ce _ R hR=> ?_);refine ai ?_;refine ao ?_;refine⟨λhc=> ?_,λhc=> ?_⟩
 ·have bh:i<x.aq.length:=by omega
  obtain⟨y,hy⟩:=bF bh;have vX:(x.aq.map (cq h))[i]?=some (cq h y):=by rw[Ur,hy];rfl
  have b3:(0<=(i:Int)/\(i:Int)<3)=True:=by simp;omega
  have bz:=TL i (by omega);have cI:(n5 (x.aq.map (cq h)) i).length=3:=QX (by simp;omega) (by simpa using zn);have xf:((n5 (x.aq.map (cq h)) i).map λn=>wv n).length=3:=by rw[Um,cI]
  refine aF ?_;refine ab ?_;simp only[seval,oR hy,fy bh];refine ab ?_;simp only[seval,hi,oh];rw[Tu (i:=4) (l:=h.map iv) (by rw[oh];exact Tv _)];refine aK (GJ (h:=h) (y:=y) hh ?_);(try simp only[seval,b3,xf]);refine⟨by omega,?_⟩;rw[Pr (g:=λn=>wv n) (show i<(n5 (x.aq.map (cq h)) i).length by omega),ahI vX (by simpa using zn)];refine ab ?_;simp only[seval,bz];exact hR _ ⟨bh,trivial,Cd (oI rfl rfl) (by simp only[seval];simp[bE,Wk.refl]) (HJ (L:=[_]) bN (ac8 _ _)) (by simp[dF])⟩
 have:i=x.aq.length:=by omega
 subst this;clear hc ce;refine bT ?_;have BF:∃r,n5 (x.aq.map (cq h)) x.aq.length=x.aq.map (cq h)++r:=⟨_,by have:=ahH (l:=x.aq.map (cq h));simpa using this⟩;have zl:(n5 (x.aq.map (cq h)) x.aq.length).length=3:=QX (by simp) (by simpa using zn);have Nk:((n5 (x.aq.map (cq h)) x.aq.length).map λn=>wv n).length=3:=by rw[Um,zl]
 generalize n5 (x.aq.map (cq h)) x.aq.length=qs at BF zl Nk;refine n4 ?_;(repeat apply ii);refine QH ?_;simp only[seval];refine n4 ?_;refine ab ?_;simp only[seval,hr,TM,hi,oh];rw[Tu (i:=4) (l:=h.map iv) (by rw[oh];exact Tv _)];refine aK (ajL (x:=x) (h:=h) ?_);(try simp only[seval]);refine ahr ?_;refine aht (by rfl) λl fn T ag bo hT yV rn=> ?_;(try simp only[seval]);rw[hN]at hT⊢;have h4:=hh.len;have alS:j8 lv BI (.fn (.yield l) [] []) (qM f deep (v4 x h)) (λm:S×Lp=>Gf m.1++[.cells [yv] 155,.cells (qs.map λn=>wv n) 78,.cells x.l 73,.cells (h.map iv) 80,.obj (.deferred (some [])),.loop l m.2.st m.2.pe fn T 44 #[28] ag bo (N+4)]) (N+6) (λm=>I m.1/\m.2=.ready) (λa=>∃ns∈gM x h,a=ee h ns) pv:=by
  have g3:∀(σ:S)(L:SA),(Gf σ++L)[N+1]?=L[1]?:=λσ L=>hY.get σ L 1;have g5:∀(σ:S)(L:SA),(Gf σ++L)[N+5]?=L[5]?:=λσ L=>hY.get σ L 5;have s5:∀(σ:S)(L:SA) y,(Gf σ++L).set (N+5) y=Gf σ++L.set 5 y:=λσ L y=>hY.set σ L 5 y;refine⟨λm a M k kp hm ha dY=> ?_,λm a m' hm ha he=> ?_,λm=>by simp[hY.len],λq m m' hz z fF=> ?_,rfl,rfl,rfl⟩
  ·obtain⟨σ,lp⟩:=m;obtain⟨LV,iC⟩:=hm;replace LV:I σ:=LV;replace iC:lp=.ready:=iC;subst iC;obtain⟨ns,gA,rfl⟩:=ha;have jm:=OD gA;have rJ:(ee h ns).length=11:=(by simp[ee,h4,B9 (k:=4) (l:=ns) (by have:=hx.ey;omega)]);have BL:((ee h ns).map iv).length=11:=(by rw[Um,rJ]);obtain⟨Lo,lD⟩:∃Lo,Lo=aa.loop l .busy none fn T 44 #[28] ag bo (N+4):=⟨_,rfl⟩;obtain⟨P1,dI⟩:∃P1:S->SA,∀σ,P1 σ=Gf σ++([.cells [yv] 155,.cells (qs.map λn=>wv n) 78,.cells x.l 73,.cells (h.map iv) 80,.obj (.deferred (some [])),Lo]++M):=⟨_,λ_=>rfl⟩;have eM:∀σ,(P1 σ).length=N+6+M.length:=λσ=>(by rw[dI];simp[hY.len];omega);have pg:∀(σ:S)(L:SA)(i:Nat),i<6->(P1 σ++L)[N+i]?=[aa.cells [yv] 155,.cells (qs.map λn=>wv n) 78,.cells x.l 73,.cells (h.map iv) 80,.obj (.deferred (some [])),Lo][i]?:=λσ L i ML=>by rw[dI,Ev,hY.get,Ev,T6 (by simpa using ML)]
   have pr:∀(σ:S)(L:SA),(P1 σ++L)[ir]?=some (.cells x.l 73):=λσ L=>(by rw[dI,Ev];exact hr σ _);have pd:∀(σ:S)(L:SA),(P1 σ++L)[id]?=some (.cells [iv deep] 3):=λσ L=>(by rw[dI,Ev];exact hd σ _);have pb:∀(σ:S)(L:SA)(i:Nat),(P1 σ++L)[N+6+M.length+i]?=L[i]?:=λσ L i=>(by rw[<- eM σ,aP]);have xP:∀(σ:S)(L:SA),(P1 σ++L)[N+6+M.length]?=L[0]?:=λσ L=>pb σ L 0;have pg1:∀(σ:S)(L:SA),(P1 σ++L)[N+1]?=some (.cells (qs.map λn=>wv n) 78):=λσ L=>pg σ L 1 (by omega);have pg0:∀(σ:S)(L:SA),(P1 σ++L)[N]?=some (.cells [yv] 155):=λσ L=>pg σ L 0 (by omega);have aaY:∀(τ:S)(lp:Lp),bJ (Gf σ++(([aa.cells [yv] 155,.cells (qs.map λn=>wv n) 78,.cells x.l 73,.cells (h.map iv) 80,.obj (.deferred (some [])),.loop l .ready none fn T 44 #[28] ag bo (N+4)]:SA)++M))->bJ (Gf τ++(([aa.cells [yv] 155,.cells (qs.map λn=>wv n) 78,.cells x.l 73,.cells (h.map iv) 80,.obj (.deferred (some [])),.loop l lp.st lp.pe fn T 44 #[28] ag bo (N+4)]:SA)++M)):=λτ lp iN z hz=>by have hlen:(Gf τ++(([aa.cells [yv] 155,.cells (qs.map λn=>wv n) 78,.cells x.l 73,.cells (h.map iv) 80,.obj (.deferred (some [])),.loop l lp.st lp.pe fn T 44 #[28] ag bo (N+4)]:SA)++M)).length=(Gf σ++(([aa.cells [yv] 155,.cells (qs.map λn=>wv n) 78,.cells x.l 73,.cells (h.map iv) 80,.obj (.deferred (some [])),.loop l .ready none fn T 44 #[28] ag bo (N+4)]:SA)++M)).length:=(by simp[hY.len]);have hl:=iN (.loop l .ready none fn T 44 #[28] ag bo (N+4)) (by simp);rw[hlen];rcases T1.1 hz with h'|h';exact hY.ok _ σ τ (λw hw=>iN w (Uk _ hw)) z h';rcases T1.1 h' with h'|h';simp only[Tm,T5,or_false]at h';rcases h' with rfl|rfl|rfl|rfl|rfl|rfl;exact iN _ (by simp);exact iN _ (by simp);exact iN _ (by simp);exact iN _ (by simp);exact iN _ (by simp);exact hl;exact iN z (T7 _ (T7 _ h'))
   have Lg:bJ (Gf σ++(([aa.cells [yv] 155,.cells (qs.map λn=>wv n) 78,.cells x.l 73,.cells (h.map iv) 80,.obj (.deferred (some [])),.loop l .ready none fn T 44 #[28] ag bo (N+4)]:SA)++M))->∀(τ:S)(lp:Lp)(b':Bool)(TT:SH)(L:SA),k (bv b') ((Gf τ++[.cells [yv] 155,.cells (qs.map λn=>wv n) 78,.cells x.l 73,.cells (h.map iv) 80,.obj (.deferred (some [])),.loop l lp.st lp.pe fn T 44 #[28] ag bo (N+4)])++M)->pY (N+5) (N+6+M.length) k lp.st lp.pe b' ⟨TT,P1 τ++L⟩:=λiN τ lp b' TT L dY=>by refine⟨l,.busy,none,fn,T,44,#[28],ag,bo,N+4,by show (P1 τ++L)[_]?=_;rw[pg τ _ 5 (by omega),lD];rfl,?_⟩;show cz (N+6+M.length) ((P1 τ++L).set _ _) _ k;rw[dI,Ev,s5];rw[Ev]at dY;exact jy (G:=L) (Wk.refl _) (by simp) (by simp[hY.len];omega) (aaY τ lp iN) (.val _) dY
   have akZ:bJ (Gf σ++(([aa.cells [yv] 155,.cells (qs.map λn=>wv n) 78,.cells x.l 73,.cells (h.map iv) 80,.obj (.deferred (some [])),.loop l .ready none fn T 44 #[28] ag bo (N+4)]:SA)++M))->∀(τ:S)(L:SA),kp pv ((Gf τ++[.cells [yv] 155,.cells (qs.map λn=>wv n) 78,.cells x.l 73,.cells (h.map iv) 80,.obj (.deferred (some [])),.loop l Lp.busy.st Lp.busy.pe fn T 44 #[28] ag bo (N+4)])++M)->cz (N+6+M.length) (P1 τ++L) pv kp:=λiN τ L dY=>by rw[Ev]at dY;rw[dI,lD];exact jy (G:=L) (Wk.refl _) rfl (by simp[hY.len];omega) (aaY τ .busy iN) (mK _) dY
   subst hT yV rn;rw[Ev];refine wT (id:=N+5) (by rw[g5];rfl) rfl (by kernel_rfl) λpc LP=> ?_;simp only[tu];have xh:U7 11 [iv 0,iv 0,iv 0,iv 0,iv 0,iv 0,iv 0,iv 0,iv 0,iv 0,iv 0]=[]:=rfl;refine ab ?_;simp only[seval,rJ,xh];unfold uZ;refine⟨none,fn,_,44,#[28],_,_,_,by rw[g5];rfl,?_⟩;dsimp only;rw[s5];simp only[Vs,U1];rw[<- lD];have yQ:(Gf σ).length+(M.length+1+1+1+1+1+1)=N+6+M.length:=(by rw[hY.len];omega);rw[yQ];have za:∀z:aa,Gf σ++aa.cells [yv] 155::aa.cells (We (λn=>wv n) qs) 78::aa.cells x.l 73::aa.cells (We iv h) 80::aa.obj (ag' (some []))::Lo::(M++[z])=P1 σ++[z]:=λz=>(by rw[dI];simp);rw[za];refine ab ?_;simp only[seval,pr,TM,xP,pg1,BL,rJ,Nk,zl];rw[Tu (i:=11) (l:=(ee h ns).map iv) (by rw[BL];exact Tv _),Tu (i:=3) (l:=qs.map λn=>wv n) (by rw[Nk];exact Tv _)];refine aK (ajM (x:=x) (tc:=ee h ns) (qs:=qs) ?_);(try simp only[seval]);refine bO ?_;have rz:∀(σ:S)(a b c d:aa),(P1 σ++[a,b,c,d]).length=N+6+M.length+4:=λσ a b c d=>(by simp[eM]);refine Gl (N+5) (by rfl) (by show (P1 σ++_)[N+5]?=_;rw[pg σ _ 5 (by omega),lD];rfl) λl2 fj T2 ig ij pf yW yY=> ?_;simp only[seval];rw[eM]at pf⊢;have B1:∀(σ τ:S)(L L':SA),L'.length=L.length->(∀q,(∀z∈L,fw q z)->∀z∈L',fw q z)->bJ (P1 σ++L)->bJ (P1 τ++L'):=λσ τ L L' hl hL hH z hz=>by have hlen:(P1 τ++L').length=(P1 σ++L).length:=(by simp[eM,hl]);rw[hlen];rcases T1.1 hz with h'|h';rw[dI]at h';rcases T1.1 h' with h'|h';exact hY.ok _ σ τ (λw hw=>hH w (Uk _ (by rw[dI];exact Uk _ hw))) z h';exact hH z (Uk _ (by rw[dI];exact T7 _ h'));exact hL _ (λw hw=>hH w (T7 _ hw)) z h'
   have yU:∀tc:SD,j8 lv BI (.fn (.yield l2) [] []) (ju f deep) (λm:S×Lp=>P1 m.1++[.cells ((ee h ns).map iv) 83,.cells x.l 73,.cells (tc.map iv) 83,.cells (qs.map λn=>wv n) 78,.loop l2 m.2.st m.2.pe fj T2 44 #[33] ig ij (N+4)]) (N+6+M.length+5) (λm=>I m.1/\m.2=.ready) A pv:=λtc=>by
    refine⟨λm b M2 k2 zG hm hb lK=> ?_,λm b m' hm hb he=> ?_,λm=>by simp[eM],λq m m' hz z fF=> ?_,rfl,rfl,rfl⟩
    ·obtain⟨σ',lp⟩:=m;obtain⟨LW,iC⟩:=hm;replace LW:I σ':=LW;replace iC:lp=.ready:=iC;subst iC;have cI:b.length=11:=rc b hb;have xf:(b.map iv).length=11:=(by rw[Um,cI]);obtain⟨qR,tZ⟩:∃Lo,Lo=aa.loop l2 .busy none fj T2 44 #[33] ig ij (N+4):=⟨_,rfl⟩;obtain⟨Q1,gX⟩:∃Q1:S->SA,∀σ,Q1 σ=P1 σ++([.cells ((ee h ns).map iv) 83,.cells x.l 73,.cells (tc.map iv) 83,.cells (qs.map λn=>wv n) 78,qR]++M2):=⟨_,λ_=>rfl⟩;obtain⟨C,hC⟩:∃C,C=N+6+M.length+5+M2.length:=⟨_,rfl⟩;have L3:∀σ,(Q1 σ).length=C:=λσ=>(by rw[gX,hC];simp[eM];omega);have mv:∀(σ:S)(L:SA),(P1 σ++L)[N+6+M.length+4]?=L[4]?:=λσ L=>pb σ L 4;have qJ:∀(σ:S)(L:SA)(y:aa),(P1 σ++L).set (N+6+M.length+4) y=P1 σ++L.set 4 y:=λσ L y=>(by rw[<- eM σ,cG]);have qN:∀(σ:S)(L:SA),(Q1 σ++L)[N]?=some (.cells [yv] 155):=λσ L=>(by rw[gX,Ev];exact pg0 σ _);have qd:∀(σ:S)(L:SA),(Q1 σ++L)[id]?=some (.cells [iv deep] 3):=λσ L=>(by rw[gX,Ev];exact pd σ _);have q4:∀(σ:S)(L:SA),(Q1 σ++L)[N+6+M.length+4]?=some qR:=λσ L=>(by rw[gX,Ev,mv];rfl);have qc:∀(σ:S)(L:SA),(Q1 σ++L)[C]?=L[0]?:=λσ L=>(by rw[<- L3 σ];exact aP _ L 0);have Pc:∀(σ:S)(L:SA)(y:aa),(Q1 σ++L).set (N+6+M.length+4) y=(P1 σ++([.cells ((ee h ns).map iv) 83,.cells x.l 73,.cells (tc.map iv) 83,.cells (qs.map λn=>wv n) 78,y]++M2))++L:=λσ L y=>(by rw[gX,Ev,qJ];simp);obtain⟨Mz,G6⟩:∃Mz:SA,∀σ,Q1 σ++[.cells (b.map iv) 83]=Gf σ++Mz:=⟨_,λσ=>by rw[gX,dI,Ev,Ev]⟩;have fW:∀(τ:S)(lp:Lp),bJ (P1 σ'++([.cells ((ee h ns).map iv) 83,.cells x.l 73,.cells (tc.map iv) 83,.cells (qs.map λn=>wv n) 78,.loop l2 .ready none fj T2 44 #[33] ig ij (N+4)]++M2))->bJ (P1 τ++([.cells ((ee h ns).map iv) 83,.cells x.l 73,.cells (tc.map iv) 83,.cells (qs.map λn=>wv n) 78,.loop l2 lp.st lp.pe fj T2 44 #[33] ig ij (N+4)]++M2)):=λτ lp iN=>B1 σ' τ _ _ (by simp) (λq hz z fF=>by
      have hl:=hz (.loop l2 .ready none fj T2 44 #[33] ig ij (N+4)) (by simp);rcases T1.1 fF with h'|h';simp only[Tm,T5,or_false]at h';rcases h' with rfl|rfl|rfl|rfl|rfl;exact hz _ (by simp);exact hz _ (by simp);exact hz _ (by simp);exact hz _ (by simp);exact hl
      ·exact hz _ (T7 _ h')) iN
     have fu:db (λm:S×Lp=>P1 m.1++[.cells ((ee h ns).map iv) 83,.cells x.l 73,.cells (tc.map iv) 83,.cells (qs.map λn=>wv n) 78,.loop l2 m.2.st m.2.pe fj T2 44 #[33] ig ij (N+4)]) pv k2 zG M2 (ju f deep (σ',.ready) b):=lK;have Mx:∀z:aa,P1 σ'++(aa.cells (We iv (ee h ns)) 83::aa.cells x.l 73::aa.cells (We iv tc) 83::aa.cells (We (λn=>wv n) qs) 78::qR::(M2++[z]))=Q1 σ'++[z]:=λz=>(by rw[gX];simp);have GN:bJ (P1 σ'++([.cells ((ee h ns).map iv) 83,.cells x.l 73,.cells (tc.map iv) 83,.cells (qs.map λn=>wv n) 78,.loop l2 .ready none fj T2 44 #[33] ig ij (N+4)]++M2))->∀(τ:S)(lp:Lp)(b':Bool)(TT:SH),k2 (bv b') ((P1 τ++[.cells ((ee h ns).map iv) 83,.cells x.l 73,.cells (tc.map iv) 83,.cells (qs.map λn=>wv n) 78,.loop l2 lp.st lp.pe fj T2 44 #[33] ig ij (N+4)])++M2)->pY (N+6+M.length+4) C k2 lp.st lp.pe b' ⟨TT,Gf τ++Mz⟩:=λiN τ lp b' TT dY=>by refine⟨l2,.busy,none,fj,T2,44,#[33],ig,ij,N+4,by show (Gf τ++Mz)[_]?=_;rw[<- G6,q4,tZ],?_⟩;show cz C ((Gf τ++Mz).set _ _) _ k2;rw[<- G6,Pc];rw[Ev]at dY;exact jy (G:=[.cells (b.map iv) 83]) (Wk.refl _) rfl (by rw[hC];simp[eM];omega) (fW τ lp iN) (.val _) dY
     have akY:bJ (P1 σ'++([.cells ((ee h ns).map iv) 83,.cells x.l 73,.cells (tc.map iv) 83,.cells (qs.map λn=>wv n) 78,.loop l2 .ready none fj T2 44 #[33] ig ij (N+4)]++M2))->∀τ:S,zG pv ((P1 τ++[.cells ((ee h ns).map iv) 83,.cells x.l 73,.cells (tc.map iv) 83,.cells (qs.map λn=>wv n) 78,.loop l2 Lp.busy.st Lp.busy.pe fj T2 44 #[33] ig ij (N+4)])++M2)->cz C (Gf τ++Mz) pv zG:=λiN τ dY=>by rw[<- G6,gX,tZ];rw[Ev]at dY;exact jy (G:=[.cells (b.map iv) 83]) (Wk.refl _) rfl (by rw[hC];simp[eM];omega) (fW τ .busy iN) (mK _) dY
     subst pf yW yY;rw[Ev];refine wT (id:=N+6+M.length+4) (by rw[mv];rfl) rfl (by kernel_rfl) λsw LQ=> ?_;simp only[tu];refine ab ?_;simp only[seval,cI,xh];unfold uZ;refine⟨none,fj,_,44,#[33],_,_,_,by rw[mv];rfl,?_⟩;dsimp only;rw[qJ];simp only[Vs,U1];rw[<- tZ];have DI:(P1 σ').length+(M2.length+1+1+1+1+1)=C:=(by rw[eM,hC];omega);rw[DI,Mx];refine ab ?_;simp only[seval,qN,qc,cI,xf];rw[Tu (i:=11) (l:=b.map iv) (by rw[xf];exact Tv _),G6];refine n9 (hY.call σ' b Mz _ _ LW hb ?_);unfold ju at fu;rw[show f (σ',Lp.ready).1 b=f σ' b from rfl]at fu;cases hf:f σ' b with
     |go τ=>rw[hf]at fu;dsimp only at fu;simp only[db];(try simp only[seval,hd]);refine ao ?_;refine⟨λh0=> ?_,λh0=> ?_⟩;replace h0:deep=0:=(by simpa using h0);rw[if_pos h0]at fu;simp only[db]at fu;refine aH ?_;exact GN sw τ .ret false _ fu;replace h0:¬deep=0:=(by simpa using h0);rw[if_neg h0]at fu;refine aF ?_;refine ab ?_;simp only[seval,hd];refine ao ?_;refine⟨λh1=> ?_,λh1=> ?_⟩;replace h1:deep=1:=(by simpa using h1);rw[if_pos h1]at fu;simp only[db]at fu;refine bT ?_;exact GN sw τ (.exit 3) false _ fu;replace h1:¬deep=1:=(by simpa using h1);rw[if_neg h1]at fu;simp only[db]at fu;refine aF ?_;exact GN sw τ .ready true _ fu
     |stop τ=>rw[hf]at fu;dsimp only at fu;simp only[db]at fu⊢;(try simp only[seval]);refine ao ?_;refine aH ?_;exact GN sw τ .ret false _ fu
     |bad τ=>rw[hf]at fu;dsimp only at fu;simp only[db]at fu⊢;exact akY sw τ fu
    ·obtain⟨σ',lp⟩:=m;obtain⟨τ,EW⟩:=m';unfold ju at he;have hi:=(hY.inv σ' b τ hm.1 hb);cases hf:f σ' b with
     |go τ'=>rw[show f (σ',lp).1 b=f σ' b from rfl,hf]at he;dsimp only at he;by_cases h0:deep=0;rw[if_pos h0]at he;cases he;rw[if_neg h0]at he;by_cases h1:deep=1;rw[if_pos h1]at he;cases he;rw[if_neg h1]at he;cases he;exact⟨hi hf,rfl⟩
     |stop τ'=>rw[show f (σ',lp).1 b=f σ' b from rfl,hf]at he;cases he
     |bad τ'=>rw[show f (σ',lp).1 b=f σ' b from rfl,hf]at he;cases he
    ·rcases T1.1 fF with h'|h';rw[dI]at h';rcases T1.1 h' with h'|h';exact hY.ok q m.1 m'.1 (λw hw=>hz w (Uk _ (by rw[dI];exact Uk _ hw))) z h';exact hz z (Uk _ (by rw[dI];exact T7 _ h'));have hl:=hz _ (T7 _ (Un (i:=4) rfl));simp only[Tm,T5,or_false]at h';rcases h' with rfl|rfl|rfl|rfl|rfl;exact hz _ (T7 _ (by simp));exact hz _ (T7 _ (by simp));exact hz _ (T7 _ (by simp));exact hz _ (T7 _ (by simp));exact hl
   have e1:qM f deep (v4 x h) (σ,.ready) (ee h ns)=lq (bI (ju f deep) ((iS x h ns).map (dM h ns)) (σ,.ready)):=(by unfold qM;rw[NS h4 jm]);rw[e1]at dY;refine bX (ajY (x:=x) (h:=h) (ns:=ns) (qs:=qs) (N:=N+6+M.length+5) (ir:=N+6+M.length+1) (it:=N+6+M.length+2) (is:=N+6+M.length+3) (tc:=ee h ns) (σ:=(σ,Lp.ready)) hx h4 jm yU (λtc m L=> ?_) (λtc m L=> ?_) (λtc eC m L=> ?_) (λtc m L=> ?_) BF zl (λq tc eC m hz z fF=> ?_) mK rfl ⟨LV,rfl⟩ (hA ns gA) (λeC awz=> ?_));rw[Ev];exact pb _ _ 1;rw[Ev];exact pb _ _ 2;rw[Ev,<- eM m.1,cG,Ev];rfl;rw[Ev];exact pb _ _ 3;rcases T1.1 fF with h'|h';exact hz z (Uk _ h');simp only[Tm,T5,or_false]at h';rcases h' with rfl|rfl|rfl|rfl|rfl;exact hz _ (by simp);exact hz _ (by simp);exact aqj _ _ _;exact hz _ (by simp);exact hz _ (by simp);have mv:∀(σ:S)(L:SA),(P1 σ++L)[N+6+M.length+4]?=L[4]?:=λσ L=>pb σ L 4;have qJ:∀(σ:S)(L:SA)(y:aa),(P1 σ++L).set (N+6+M.length+4) y=P1 σ++L.set 4 y:=λσ L y=>(by rw[<- eM σ,cG]);cases ce:bI (ju f deep) ((iS x h ns).map (dM h ns)) (σ,.ready)with
   |go m=>obtain⟨τ,lp⟩:=m;have iC:lp=.ready:=Cf (I:=λm:S×Lp=>m.2=.ready) (A:=λ_=>True) (λs a s' _ _ e=>auz e) _ _ _ (λ_ _=>trivial) rfl ce;subst iC;rw[ce]at dY;simp only[lq,db]at dY;simp only[gQ,Ts];refine⟨.ready,none,_,_,_,_,_,_,_,by rw[mv];rfl,by decide,?_⟩;rw[qJ,IY];(try simp only[seval]);exact Lg pc τ .ready true _ _ dY
   |stop m=>
    obtain⟨τ,lp⟩:=m;have iC:lp=.ret\/lp=.exit 3:=by obtain⟨_,_,q⟩:=Pm ce;exact auA q
    rw[ce]at dY;rcases iC with rfl|rfl;simp only[lq,db]at dY;simp only[gQ,Ts];refine⟨.done,some .ret,_,_,_,_,_,_,_,by rw[mv];rfl,by decide,?_⟩;rw[qJ,aq0];(try simp only[seval]);exact Lg pc τ .ret false _ _ dY;simp only[lq,db]at dY;simp only[gQ,Ts];refine⟨.done,some (.exit 3),_,_,_,_,_,_,_,by rw[mv];rfl,by decide,?_⟩;rw[qJ,aqZ];(try simp only[seval]);exact Lg pc τ .ready true _ _ dY
   |bad m=>obtain⟨τ,lp⟩:=m;rw[ce]at dY;simp only[lq,db]at dY;simp only[gQ,Ts];exact akZ pc τ _ dY
  ·obtain⟨σ',lp⟩:=m;obtain⟨τ,EW⟩:=m';obtain⟨ns,gA,rfl⟩:=ha;have e1:qM f deep (v4 x h) (σ',lp) (ee h ns)=lq (bI (ju f deep) ((iS x h ns).map (dM h ns)) (σ',.ready)):=(by unfold qM;rw[NS h4 (OD gA)]);rw[e1]at he;exact agu hY.inv (hA ns gA) hm.1 he
  ·rcases T1.1 fF with h'|h';exact hY.ok q m.1 m'.1 (λw hw=>hz w (Uk _ hw)) z h';have hl:=hz _ (T7 _ (Un (i:=5) rfl));simp only[Tm,T5,or_false]at h';rcases h' with rfl|rfl|rfl|rfl|rfl|rfl;exact hz _ (T7 _ (by simp));exact hz _ (T7 _ (by simp));exact hz _ (T7 _ (by simp));exact hz _ (T7 _ (by simp));exact hz _ (T7 _ (by simp));exact hl
 obtain⟨eA,vS⟩:=aeZ (f:=f) (deep:=deep) (L:=v4 x h) ((gM x h).map (ee h)) σ;rw[<- auF h4]at eA;have g4:∀(σ:S)(L:SA),(Gf σ++L)[N+4]?=L[4]?:=λσ L=>hY.get σ L 4;have g5:∀(σ:S)(L:SA),(Gf σ++L)[N+4+1]?=L[5]?:=λσ L=>hY.get σ L 5;have s4:∀(σ:S)(L:SA) y,(Gf σ++L).set (N+4) y=Gf σ++L.set 4 y:=λσ L y=>hY.set σ L 4 y;have s5:∀(σ:S)(L:SA) y,(Gf σ++L).set (N+4+1) y=Gf σ++L.set 5 y:=λσ L y=>hY.set σ L 5 y;have sY:∀n,Lt n (.aJ []):=λn=>by simp[iw]
 refine bX (ajW (x:=x) (h:=h) (N:=N+6) (ir:=N+2) (ih:=N+3) (σ:=(σ,Lp.ready)) hx hh alS (λm L=> ?_) (λm L=> ?_) mK ⟨hI,rfl⟩ (λa ha=> ?_) ?_);rw[Ev,hY.get m.1 _ 2];rfl;rw[Ev,hY.get m.1 _ 3];rfl;obtain⟨ns,h1,rfl⟩:=Uh.1 ha;exact⟨ns,h1,rfl⟩;cases bQ:bI (qM f deep (v4 x h)) ((gM x h).map (ee h)) (σ,.ready)with
 |go m=>obtain⟨σ',lp⟩:=m;have iC:lp=.ready:=vS _ bQ;subst iC;rw[bQ]at eA;have aO:=Pj (r':=.go σ') eA.symm hk;simp only[gQ,Ts]at aO⊢;refine⟨.ready,none,_,_,_,_,_,_,_,by rw[g5];rfl,by decide,?_⟩;rw[s5];simp only[Vs,U1];rw[IX];(try simp only[seval]);rw[A9 (by rw[g4];rfl),A_,s4];(try simp only[seval]);rw[<- hN];exact wm hY hH sY aO
 |stop m=>
  obtain⟨σ',lp⟩:=m;have iC:lp=.ret:=by obtain⟨_,_,q⟩:=Pm bQ;exact auw q
  subst iC;rw[bQ]at eA;have aO:=Pj (r':=.stop σ') eA.symm hk;simp only[gQ,Ts]at aO⊢;refine⟨.done,some .ret,_,_,_,_,_,_,_,by rw[g5];rfl,by decide,?_⟩;rw[s5];simp only[Vs,U1];rw[aqY];(try simp only[seval]);rw[A9 (by rw[g4];rfl),A_,s4];(try simp only[seval]);rw[<- hN];exact wm hY hH sY aO
 |bad m=>obtain⟨σ',lp⟩:=m;rw[bQ]at eA;have aO:=Pj (r':=.bad σ') eA.symm hk;simp only[gQ,Ts]at aO⊢;rw[A9 (by rw[g4];rfl),A_,s4];rw[xN,<- hN];exact wm hY hH mK aO
end
open Go.Conc Go.Proofs Go.Gg.Tk
namespace Tk
def nm (x y:Int):Int:=if x<y then -1 else if y<x then 1 else 0
def o4:SD->SD->Int
 |a::l,b::m=>if nm a b≠0 then nm a b else o4 l m
 |[],[]=>0
 |[],_::_=> -1
 |_::_,[]=>1
def tO (a b:SD):Bool:=if a.take 4=b.take 4 then(if o4 ((a.drop 4).take 4) ((b.drop 4).take 4)≠0 then decide (o4 ((a.drop 4).take 4) ((b.drop 4).take 4)<0)else decide (o4 (a.drop 8) (b.drop 8)<0))else decide (o4 (a.take 4) (b.take 4)<0)
end Tk
def GG{ca pa ra:SC}{xs:SD}{o i:Nat}{x:Int}(hc:ca=pa++(xs.map iv++ra))(ho:pa.length=o)(h:xs[i]?=some x):ca.drop (o+i)=iv x::((xs.drop (i+1)).map iv++ra):=by subst hc ho;rw[WG,UX (by omega),Vv,show pa.length+i-pa.length=i by omega,WG,lx h,show i-(xs.map iv).length=0 by have:=eF h;simp;omega,Wx];rfl
section
variable {lv:Bool}{H:SA}{k kp:SF}
def Sa{x:Int}(hk:k (bv false) H):aS lv BI 164 H [iv x] k kp:=by refine br (rs:=[.tmp 2]) (nt:=6) Tryz.f164 λhH hA=> ?_;simp only[ba,Tq];refine ai ?_;refine ab ?_;simp only[seval,bne_self_eq_false];refine aH ?_;refine b8 ?_;simpa using hk
def aj5{x y:Int}(hk:k (iv (nm x y)) H):aS lv BI 163 H [iv x,iv y] k kp:=by
 refine br (rs:=[.tmp 4]) (nt:=20) Tryz.f163 λhH hA=> ?_;simp only[ba,Tq];refine ai ?_;refine ai ?_;refine aK (Sa ?_);(try simp only[seval]);refine ai ?_;refine aK (Sa ?_);(try simp only[seval]);refine ai ?_;refine ao ?_;refine aF ?_;refine ai ?_;refine ao ?_;refine aF ?_;refine ai ?_;refine ao ?_;refine⟨λh=> ?_,λh=> ?_⟩
 ·refine ai ?_;refine aH ?_;rw[nm,if_pos h]at hk;exact b8 hk
 ·refine aF ?_;refine ai ?_;refine ao ?_;refine⟨λh2=> ?_,λh2=> ?_⟩;refine ai ?_;refine aH ?_;rw[nm,if_neg h,if_pos h2]at hk;exact b8 hk;refine aF ?_;refine ai ?_;refine aH ?_;rw[nm,if_neg h,if_neg h2]at hk;exact b8 hk
def K6{xs ys:SD}{ia oa ib ob ta tb:Nat}{ca cb pa ra pb rb:SC}(ha:H[ia]?=some (.cells ca ta))(hb:H[ib]?=some (.cells cb tb))(hca:ca=pa++(xs.map iv++ra))(Nc:pa.length=oa)(hcb:cb=pb++(ys.map iv++rb))(hpb:pb.length=ob)(hl:ys.length=xs.length)(h4:xs.length<=4)(hk:k (iv (o4 xs ys)) H):
  aS lv BI 162 H [.bB ia oa xs.length xs.length,.bB ib ob ys.length ys.length] k kp:=by
 refine br (rs:=[.tmp 4]) (nt:=36) Tryz.f162 λhH hA=> ?_;simp only[ba,Tq];refine ai ?_;refine ai ?_;refine bO ?_;refine nj xs.length (λi:Nat=>[(11,iv i)]) (λ_=>H) (λi=>o4 xs ys=o4 (xs.drop i) (ys.drop i)) rfl (λbN cm i ce hI R hR=> ?_);refine ai ?_;refine ao ?_;refine⟨λh=> ?_,λh=> ?_⟩
 ·have bh:i<xs.length:=by omega
  obtain⟨x,hx⟩:=bF bh;obtain⟨y,hy⟩:=bF (xs:=ys) (i:=i) (by omega);have bz:=TL i (by omega);have lN:o4 xs ys=if nm x y≠0 then nm x y else o4 (xs.drop (i+1)) (ys.drop (i+1)):=by rw[hI,wY hx,wY hy,o4]
  refine aF ?_;refine ab ?_;simp only[seval,ha,fy bh,GG hca Nc hx];refine ai ?_;refine ao ?_;refine⟨λh2=>by exfalso;omega,λh2=> ?_⟩;refine aF ?_;refine ab ?_;simp only[seval,hb,fy (show i<ys.length by omega),GG hcb hpb hy];refine ai ?_;refine aK (aj5 ?_);(try simp only[seval]);refine ai ?_;refine ao ?_;refine⟨λh3=> ?_,λh3=> ?_⟩;refine ai ?_;refine aH ?_;rw[lN,if_pos (by simpa using h3)]at hk;exact b8 hk;refine aF ?_;refine ab ?_;simp only[seval,bz];refine hR _ ⟨bh,?_,cK⟩;rw[lN,if_neg (by simpa using h3)]
 ·have dL:i=xs.length:=by omega
  subst dL;refine bT ?_;refine ab ?_;simp only[seval,hl];refine ao ?_;refine⟨λh2=>by exfalso;omega,λh2=> ?_⟩;refine aF ?_;refine ai ?_;refine aH ?_;rw[hI,List.drop_length,UX (Yx hl),o4]at hk;exact b8 hk
def F.FL:BI.underlying 80=some (.array 4 3):=by kernel_rfl
def F.u3:BI.underlying 3=some (.int .i64):=by kernel_rfl
def agd{P:Tl}{t e:TypeId}{k0:UZ}{n:Nat}{xs ys:SD}(ht:P.underlying t=some (.array n e))(he:P.underlying e=some (.int k0))(hs:(P.info? e).map (·.size)=some 1)(hg:P.eqGuardType P.depth t=false)(hx:xs.length=n)(hy:ys.length=n)(k:SP):
  dx P .neq t (.agg (xs.map iv)) (.agg (ys.map iv)) k=k (bv (!(xs==ys))):=by
 obtain⟨i,hi,hs⟩:=Uu.1 hs;have xA:=aeA ht he hi hs hx hy;have e:dx P .neq t (.agg (xs.map iv)) (.agg (ys.map iv)) k=((Xh=.eql\/Xh=.neq)/\au (AV.raw (.agg (xs.map iv))) λX=>au (AV.raw (.agg (ys.map iv))) λY=>yE X Y=true/\P.eqGuardType P.depth t=false/\∃e,bA P (XW t X Y) e/\k (.val (.bool (if Xh== .neq then !e else e)))):=rfl;rw[e,wj,wj,xN,xN];apply propext;constructor
 ·rintro⟨_,_,_,b,h1,h2⟩
  rw[xA.uniq h1];exact h2
 ·intro h;exact⟨.inr rfl,rfl,hg,_,xA,h⟩
def F.i3s:(BI.info? 3).map (·.size)=some 1:=by kernel_rfl
def F.g83:BI.eqGuardType BI.depth 80=false:=by kernel_rfl
def aj2{a b:SD}(ha:a.length=11)(hb:b.length=11)(hk:k (bv (tO a b)) H):aS lv BI 153 H [.agg (a.map iv),.agg (b.map iv)] k kp:=by
 refine br (rs:=[.tmp 4]) (nt:=32) Tryz.f153 λhH hA=> ?_;simp only[ba,Tq];have ham:(a.map iv).length=11:=by rw[Um,ha]
 have xf:(b.map iv).length=11:=by rw[Um,hb]
 have ea:a.map iv=(a.take 4).map iv++(((a.drop 4).take 4).map iv++(a.drop 8).map iv):=by
  rw[<- UA,<- UA];congr 1;have:(a.drop 4).take 4++a.drop 8=a.drop 4:=by
   conv=>rhs;rw[<- W2 4 (a.drop 4)]
   rw[axL]
  rw[this,W2]
 have eb:b.map iv=(b.take 4).map iv++(((b.drop 4).take 4).map iv++(b.drop 8).map iv):=by
  rw[<- UA,<- UA];congr 1;have:(b.drop 4).take 4++b.drop 8=b.drop 4:=by
   conv=>rhs;rw[<- W2 4 (b.drop 4)]
   rw[axL]
  rw[this,W2]
 refine ai ?_;refine ab ?_;simp only[seval,ham,xf,ha,hb];have HW:(a.take 4).length=4:=by simp[ha]
 have Nz:(b.take 4).length=4:=by simp[hb]
 have Nw:((a.drop 4).take 4).length=4:=by simp[ha]
 have abQ:((b.drop 4).take 4).length=4:=by simp[hb]
 have Ny:(a.drop 8).length=3:=by simp[ha]
 have abR:(b.drop 8).length=3:=by simp[hb]
 rw[<- Xg,<- Xg,agd F.FL F.u3 F.i3s F.g83 HW Nz];refine ao ?_;refine⟨λh=> ?_,λh=> ?_⟩;(refine cS 4 ?_;simp only[seval];have c1:=λk kp=>K6 (lv:=lv) (k:=k) (kp:=kp) (H:=H++[.cells (a.map iv) 83,.cells (b.map iv) 83]) (xs:=a.take 4) (ys:=b.take 4) (ia:=H.length) (ib:=H.length+1) (oa:=0) (ob:=0) (pa:=[]) (pb:=[]) (aP H _ 0) (aP H _ 1) ea rfl eb rfl (by rw[HW,Nz]) (by rw[HW];exact Tv _);simp only[HW,Nz]at c1;refine aK (c1 _ _ ?_);(try simp only[seval]);refine aH ?_;rw[tO,if_neg (by simpa using h)]at hk;exact cW hH hk)
 ·have h:=(by simpa using h:a.take 4=b.take 4);rw[tO,if_pos h]at hk;refine aF ?_;refine cS 4 ?_;simp only[seval];have c2:=λk kp=>K6 (lv:=lv) (k:=k) (kp:=kp) (H:=H++[.cells (a.map iv) 83,.cells (b.map iv) 83]) (xs:=(a.drop 4).take 4) (ys:=(b.drop 4).take 4) (ia:=H.length) (ib:=H.length+1) (oa:=4) (ob:=4) (pa:=(a.take 4).map iv) (pb:=(b.take 4).map iv) (aP H _ 0) (aP H _ 1) ea (by simp[ha]) eb (by simp[hb]) (by rw[Nw,abQ]) (by rw[Nw];exact Tv _);simp only[Nw,abQ]at c2;refine aK (c2 _ _ ?_);(try simp only[seval]);refine ai ?_;refine ao ?_;refine⟨λh2=> ?_,λh2=> ?_⟩
  ·refine ai ?_;refine aH ?_;rw[if_pos (by simpa using h2)]at hk;exact cW hH hk
  ·refine aF ?_;rw[if_neg (by simpa using h2)]at hk;refine cS 4 ?_;simp only[seval];have c3:=λk kp=>K6 (lv:=lv) (k:=k) (kp:=kp) (H:=H++[.cells (a.map iv) 83,.cells (b.map iv) 83]) (xs:=a.drop 8) (ys:=b.drop 8) (ia:=H.length) (ib:=H.length+1) (oa:=8) (ob:=8) (pa:=(a.take 4).map iv++((a.drop 4).take 4).map iv) (pb:=(b.take 4).map iv++((b.drop 4).take 4).map iv) (ra:=[]) (rb:=[]) (aP H _ 0) (aP H _ 1) (by rw[ea];simp) (by simp[ha]) (by rw[eb];simp) (by simp[hb]) (by rw[Ny,abR]) (by rw[Ny];omega);simp only[Ny,abR]at c3;refine aK (c3 _ _ ?_);(try simp only[seval]);refine aH ?_;exact cW hH hk
end
open Go.Conc Go.Proofs Go.Gg.Tk
def IC{α:Type}{g:α->AV}{ca pa ra:SC}{xs:List α}{o i:Nat}{x:α}(hc:ca=pa++(xs.map g++ra))(ho:pa.length=o)(h:xs[i]?=some x):ca.drop (o+i)=g x::((xs.drop (i+1)).map g++ra):=by subst hc ho;rw[WG,UX (by omega),Vv,show pa.length+i-pa.length=i by omega,WG,AU h,show i-(xs.map g).length=0 by have:=eF h;simp;omega,Wx];rfl
def ID{α:Type}{g:α->AV}{ca pa ra:SC}{xs:List α}{o i:Nat}{y:α}(hc:ca=pa++(xs.map g++ra))(ho:pa.length=o)(h:i<xs.length):ca.take (o+i)++[g y]++ca.drop (o+i+1)=pa++((xs.set i y).map g++ra):=by
 subst hc ho;have h1:(pa++(xs.map g++ra)).take (pa.length+i)=pa++(xs.map g).take i:=by rw[List.take_append,Tu (by omega),show pa.length+i-pa.length=i by omega,UD (by simp;omega)]
 have h2:(pa++(xs.map g++ra)).drop (pa.length+i+1)=(xs.map g).drop (i+1)++ra:=by rw[WG,UX (by omega),Vv,show pa.length+i+1-pa.length=i+1 by omega,XB (by simp;omega)]
 rw[h1,h2,<- Pr h];simp[Ev]
namespace Tk
def Kn.l (F:Kn)(mp:Nat):SC:=bv F.has:: .mp mp::(F.aC.map (λn=>wv n)++(F.hours.map (λn=>wv n)++(F.less.map (λn=>wv n)++(F.bc.map (λn=>wv n)++F.first.map iv))))
structure bW (F:Kn):Prop where
 aC:F.aC.length=4
 hours:F.hours.length=4
 less:F.less.length=4
 bc:F.bc.length=3
 first:F.first.length=11
 mU:∀n∈F.aC,n<65536
 nv:∀n∈F.hours,n<65536
 nK:∀n∈F.less,n<65536
 mr:∀n∈F.bc,n<65536
 h4:∀h∈F.aQ,h.length=4
def Kn.len{F:Kn}(h:bW F)(mp:Nat):(F.l mp).length=28:=by simp[Kn.l,h.aC,h.hours,h.less,h.bc,h.first]
def Kn.IH{F:Kn}{mp p n:Nat}(h:F.aC[p]?=some n):(F.l mp).drop (2+p)=wv n::((F.aC.drop (p+1)).map (λn=>wv n)++(F.hours.map (λn=>wv n)++(F.less.map (λn=>wv n)++(F.bc.map (λn=>wv n)++F.first.map iv)))):=IC (pa:=[bv F.has,.mp mp]) rfl rfl h
def Kn.ac3{F:Kn}{mp p v:Nat}(h:p<F.aC.length):(F.l mp).take (2+p)++[wv v]++(F.l mp).drop (2+p+1)=({F with aC:=F.aC.set p v}:Kn).l mp:=ID (g:=λn=>wv n) (pa:=[bv F.has,.mp mp]) rfl rfl h
def Kn.Na{F:Kn}(k:bW F){mp p n:Nat}(h:F.hours[p]?=some n):(F.l mp).drop (6+p)=wv n::((F.hours.drop (p+1)).map (λn=>wv n)++(F.less.map (λn=>wv n)++(F.bc.map (λn=>wv n)++F.first.map iv))):=IC (pa:=bv F.has:: .mp mp::F.aC.map (λn=>wv n)) rfl (by simp[k.aC]) h
def Kn.abC{F:Kn}(k:bW F){mp p v:Nat}(h:p<F.hours.length):(F.l mp).take (6+p)++[wv v]++(F.l mp).drop (6+p+1)=({F with hours:=F.hours.set p v}:Kn).l mp:=ID (g:=λn=>wv n) (pa:=bv F.has:: .mp mp::F.aC.map (λn=>wv n)) rfl (by simp[k.aC]) h
def Kn.Of{F:Kn}(k:bW F){mp p n:Nat}(h:F.less[p]?=some n):(F.l mp).drop (10+p)=wv n::((F.less.drop (p+1)).map (λn=>wv n)++(F.bc.map (λn=>wv n)++F.first.map iv)):=IC (pa:=bv F.has:: .mp mp::(F.aC.map (λn=>wv n)++F.hours.map (λn=>wv n))) (by simp[Kn.l]) (by simp[k.aC,k.hours]) h
def Kn.acr{F:Kn}(k:bW F){mp p v:Nat}(h:p<F.less.length):(F.l mp).take (10+p)++[wv v]++(F.l mp).drop (10+p+1)=({F with less:=F.less.set p v}:Kn).l mp:=by have:=ID (g:=λn=>wv n) (ca:=F.l mp) (y:=v) (pa:=bv F.has:: .mp mp::(F.aC.map (λn=>wv n)++F.hours.map (λn=>wv n))) (ra:=F.bc.map (λn=>wv n)++F.first.map iv) (by simp[Kn.l]) (show _=10 by simp[k.aC,k.hours]) h;rw[this];simp[Kn.l]
def Kn.Fq{F:Kn}(k:bW F){mp p n:Nat}(h:F.bc[p]?=some n):(F.l mp).drop (14+p)=wv n::((F.bc.drop (p+1)).map (λn=>wv n)++F.first.map iv):=IC (pa:=bv F.has:: .mp mp::(F.aC.map (λn=>wv n)++(F.hours.map (λn=>wv n)++F.less.map (λn=>wv n)))) (by simp[Kn.l]) (by simp[k.aC,k.hours,k.less]) h
def Kn.ado{F:Kn}(k:bW F){mp p v:Nat}(h:p<F.bc.length):(F.l mp).take (14+p)++[wv v]++(F.l mp).drop (14+p+1)=({F with bc:=F.bc.set p v}:Kn).l mp:=by have:=ID (g:=λn=>wv n) (ca:=F.l mp) (y:=v) (pa:=bv F.has:: .mp mp::(F.aC.map (λn=>wv n)++(F.hours.map (λn=>wv n)++F.less.map (λn=>wv n)))) (ra:=F.first.map iv) (by simp[Kn.l]) (show _=14 by simp[k.aC,k.hours,k.less]) h;rw[this];simp[Kn.l]
def Kn.Dy{F:Kn}{mp:Nat}:(F.l mp)[0]?=some (bv F.has):=rfl
def Kn.aiO{F:Kn}{mp:Nat}:(F.l mp).drop 1=.mp mp::(F.aC.map (λn=>wv n)++(F.hours.map (λn=>wv n)++(F.less.map (λn=>wv n)++(F.bc.map (λn=>wv n)++F.first.map iv)))):=rfl
def Kn.as0{F:Kn}{mp:Nat}:(F.l mp).take 0++[bv true]++(F.l mp).drop (0+1)=({F with has:=true}:Kn).l mp:=rfl
def Kn.ad2{F:Kn}(k:bW F){mp:Nat}{t:SD}(ht:t.length=11):(F.l mp).take 17++t.map iv++(F.l mp).drop (17+11)=({F with first:=t}:Kn).l mp:=by
 have e:F.l mp=(bv F.has:: .mp mp::(F.aC.map (λn=>wv n)++(F.hours.map (λn=>wv n)++(F.less.map (λn=>wv n)++F.bc.map (λn=>wv n)))))++F.first.map iv:=by simp[Kn.l]
 have hl:(bv F.has::AV.mp mp::(F.aC.map (λn=>wv n)++(F.hours.map (λn=>wv n)++(F.less.map (λn=>wv n)++F.bc.map (λn=>wv n))))).length=17:=by simp[k.aC,k.hours,k.less,k.bc]
 rw[UX (by rw[Kn.len k];omega),e,UD (by omega),Tu (by omega),Ts];simp[Kn.l]
structure jQ (x:aj)(t:SD):Prop where
 len:t.length=11
 bG:nc (t.take 4)
 num:∀p,p<x.pieces.length->∃n:Nat,t[4+p]?=some (n:Int)/\n<9/\0<=ff (t.take 4) (n+t.getD 0 0)
 own:∀s,s<x.aq.length->∃o:Nat,t[8+s]?=some (o:Int)/\o<4
end Tk
def setH (hs:SS):aa:=.obj (.map (hs.zipIdx.map eP).toArray hs.length)
def rR{H:SA}{i:Nat}{x:aa}(h:H[i]?=some x):H.set i x=H:=by apply Yd;intro j;rw[VZ];split;rename_i e;subst e;rw[if_pos (eF h)];exact h.symm;rfl
def ww{H L:SA}{i:Nat}{x:aa}(h:i<H.length):(H++L).set i x=H.set i x++L:=VE _ _ h
section
variable {lv:Bool}{H:SA}{k kp:SF}
def QV{F:Kn}{t:SD}(h:bW F)(ht:t.length=11):bW (j_ F t):=by unfold j_;split;exact h;exact⟨h.aC,h.hours,h.less,h.bc,ht,h.mU,h.nv,h.nK,h.mr,h.h4⟩
def EY{l:SE}{i v:Nat}(h:∀n∈l,n<65536)(hv:v<65536):∀n∈l.set i v,n<65536:=λn hn=>by rcases VD hn with h'|rfl;exact h n h';exact hv
def Tk.bW.Fz{G:Kn}(h:bW G){i v:Nat}(hv:v<65536):bW {G with bc:=G.bc.set i v}:=⟨h.aC,h.hours,h.less,by simp[h.bc],h.first,h.mU,h.nv,h.nK,EY h.mr hv,h.h4⟩
def Tk.bW.ad7{G:Kn}(h:bW G){i v:Nat}(hv:v<65536):bW {G with aC:=G.aC.set i v}:=⟨by simp[h.aC],h.hours,h.less,h.bc,h.first,EY h.mU hv,h.nv,h.nK,h.mr,h.h4⟩
def Tk.bW.ad5{G:Kn}(h:bW G){i v:Nat}(hv:v<65536):bW {G with hours:=G.hours.set i v}:=⟨h.aC,by simp[h.hours],h.less,h.bc,h.first,h.mU,EY h.nv hv,h.nK,h.mr,h.h4⟩
def Tk.bW.ad6{G:Kn}(h:bW G){i v:Nat}(hv:v<65536):bW {G with less:=G.less.set i v}:=⟨h.aC,h.hours,by simp[h.less],h.bc,h.first,h.mU,h.nv,EY h.nK hv,h.mr,h.h4⟩
def Gb{l:SE}{i n v:Nat}(h:l[i]?=some n):pZ l i v=l.set i (n|||2^v):=by unfold pZ;rw[Tf,h];rfl
def ad4(hs:SS):setH hs=.obj (.map (hs.zipIdx.map eP).toArray hs.length):=rfl
def ad3(hs:SS)(h:SD):setH (hs++[h])=.obj (.map ((hs.zipIdx++[(h,hs.length)]).map eP).toArray (hs.length+1)):=by rw[ad4,List.zipIdx_append,Tp];simp
def FQ{α:Type}{l:List α}{y:α×Nat}(h:y∈l.zipIdx):y.1∈l:=by obtain⟨a,b⟩:=y;have:=List.mem_zipIdx h;simp at this;rw[this.2];exact W_ _
def Lh{x:SD}{hs:SS}:(qZ x hs.zipIdx 0=none/\x∉hs)\/(∃i b,qZ x hs.zipIdx 0=some (i,.bool true)/\hs.zipIdx[i]?=some (x,b)/\x∈hs):=by
 cases h:qZ x hs.zipIdx 0 with
 |none=>refine .inl ⟨rfl,λhm=> ?_⟩;obtain⟨i,hi⟩:=VQ.1 hm;have:(x,i)∈hs.zipIdx:=VQ.2 ⟨i,by rw[List.getElem?_zipIdx,hi];simp⟩;exact Sw h _ this rfl
 |some p=>obtain⟨i,v⟩:=p;obtain⟨b,_,h2,rfl⟩:=Sx h;rw[aw']at h2;exact .inr ⟨i,b,rfl,h2,FQ (y:=(x,b)) (Un h2)⟩
def F.i3:∃i,BI.info? 3=some i/\i.size=1:=by obtain⟨i,h1,h2⟩:=Uu.1 F.i3s;exact⟨i,h1,h2⟩
def wq{H L:SA}{i:Nat}{z:aa}(h:i<H.length):(H.set i z++L)[i]?=some z:=by rw[T6 (by simpa using h),VZ,if_pos rfl,if_pos h]
def wu{H L:SA}{i:Nat}{z y:aa}(h:i<H.length):(H.set i z++L).set i y=H.set i y++L:=by rw[ww (by simpa using h),Yk]
def ajS{x:aj}{t:SD}{deep:Int}{fp mp:Nat}{Q:Kn}(hx:x.Ok)(ht:jQ x t)(hQ:bW Q)(mH:fp≠mp)(hf:H[fp]?=some (.cells (Q.l mp) 85))(hm:H[mp]?=some (setH Q.aQ))(hk:k (.aJ []) ((H.set fp (.cells ((eV x deep Q t).l mp) 85)).set mp (setH (eV x deep Q t).aQ))):aS lv BI 122 H [.op fp 0,x.av,.agg (t.map iv),iv deep] k kp:=by
 refine br (rs:=[]) (nt:=135) Tryz.f122 λhH hA=> ?_;simp only[ba,Tq,aj.av];have jV:=ht.len;have LK:(t.map iv).length=11:=by rw[Um,jV]
 have iV:=eF hf;have Ei:=eF hm;have abl:=Kn.len hQ mp;have dK:∀(L:SA) i,(H++L)[H.length+i]?=L[i]?:=λL i=>aP H L i;obtain⟨R1,rf⟩:∃R1,R1=j_ Q t:=⟨_,rfl⟩;have oi:bW R1:=by rw[rf];exact QV hQ jV
 have DN:R1.aQ=Q.aQ:=by rw[rf];unfold j_;split<;>rfl
 obtain⟨H1,l8⟩:∃H1,H1=H.set fp (.cells (R1.l mp) 85):=⟨_,rfl⟩;have cX:H1.length=H.length:=by rw[l8,UK]
 have yP:H1[fp]?=some (.cells (R1.l mp) 85):=by rw[l8,VZ,if_pos rfl,if_pos iV]
 have GZ:H1[mp]?=some (setH R1.aQ):=by rw[l8,Vd mH,DN];exact hm
 have am8:∀G:Kn,∀hs:SS,bJ ((H1.set fp (.cells (G.l mp) 85)).set mp (setH hs)):=λG hs=>by
  have hl:((H1.set fp (.cells (G.l mp) 85)).set mp (setH hs)).length=H.length:=by rw[UK,UK,cX]
  intro z hz;rw[hl];rcases VD hz with hz|rfl
  ·rcases VD hz with hz|rfl
   ·rw[l8]at hz;rcases VD hz with hz|rfl;exact hH z hz
    ·intro a ha;simp only[Kn.l,Tm,T1,Uh]at ha;rcases ha with rfl|rfl|⟨_,_,rfl⟩|⟨_,_,rfl⟩|⟨_,_,rfl⟩|⟨_,_,rfl⟩|⟨_,_,rfl⟩;exact .val _;exact .mp (by omega)
     all_goals exact .val _
   ·intro a ha;simp only[Kn.l,Tm,T1,Uh]at ha;rcases ha with rfl|rfl|⟨_,_,rfl⟩|⟨_,_,rfl⟩|⟨_,_,rfl⟩|⟨_,_,rfl⟩|⟨_,_,rfl⟩;exact .val _;exact .mp (by omega)
    all_goals exact .val _
  ·trivial
 have iY:k (.aJ []) ((H1.set fp (.cells ((eV x deep Q t).l mp) 85)).set mp (setH (eV x deep Q t).aQ)):=by rw[l8,Yk];exact hk
 have eA:∀(G:Kn)(hs:SS)(L:SA),eV x deep Q t=G->G.aQ=hs->cz H1.length ((H1.set fp (.cells (G.l mp) 85)).set mp (setH hs)++L) (.aJ []) k:=λG hs L hG jh=>by subst hG jh;exact jy (Wk.refl _) rfl (by rw[UK,UK,cX];exact Tv _) (am8 _ _) (by simp[iw]) iY
 have aI:eV x deep Q t=(if deep=2 then{R1 with bc:=nL t x.aq.length R1.bc}else if deep=0 then{R1 with aQ:=j3 R1.aQ (t.take 4)}else{R1 with aC:=s7 t x.pieces.length R1.aC,hours:=xy t x.pieces.length R1.hours,less:=zJ t x.pieces.length x.pieces.length R1.less}):=by rw[rf];rfl
 rw[aI]at eA;clear hk iY aI;refine ai ?_;refine ab ?_;simp only[seval,dW hf,Kn.Dy];refine ao ?_;refine⟨λhc=> ?ga,λhc=> ?gb⟩
 case' ga=>
  have e1:R1={Q with has:=true,first:=t}:=by rw[rf];unfold j_;rw[hc];rfl
  have eH:∀L:SA,(H++L).set fp (.cells (({Q with has:=true}:Kn).l mp) 85)=H.set fp (.cells (({Q with has:=true}:Kn).l mp) 85)++L:=λL=>ww iV;have G8:bW {Q with has:=true}:=⟨hQ.aC,hQ.hours,hQ.less,hQ.bc,hQ.first,hQ.mU,hQ.nv,hQ.nK,hQ.mr,hQ.h4⟩;have amO:=Kn.len G8 mp;have I6:=Kn.ad2 G8 (mp:=mp) (t:=t) jV;have BK:U9 11 (t.map iv)=t.map iv:=Tu (by omega);have amy:∀(z:aa)(L:SA),(H.set fp z++L)[H.length+1]?=L[1]?:=λz L=>by have:=aP (H.set fp z) L 1;rwa[UK]at this
  refine mC [5,8] (Tt 9) (λD=>bif isDone 8 D then H1++[.cells x.l 73,.cells (t.map iv) 83]else bif isDone 5 D then H.set fp (.cells (({Q with has:=true}:Kn).l mp) 85)++[.cells x.l 73,.cells (t.map iv) 83]else H++[.cells x.l 73,.cells (t.map iv) 83]) ?_;simp only[seval,dW hf,wq iV,wu iV,ww iV,abl,amO,jV,LK,BK,amy];have eL:(AV.val (.bool true)::(U9 16 (U7 1 (Q.l mp))++t.map iv++U7 27 (U7 1 (Q.l mp))))=R1.l mp:=by rw[e1];exact I6
  refine⟨by rfl,by rw[Vm,abl];omega,by rw[eL,l8],?_⟩;rw[eL,<- l8,<- cX]
 case' gb=>
  have e1:R1=Q:=by rw[rf];unfold j_;rw[hc];rfl
  have KT:H1=H:=by rw[l8,e1];exact rR hf
  refine aF ?_;rw[<- KT]
 all_goals
  clear hc e1;have mc:fp<H1.length:=by omega
  have aE:∀(L:SA),(H1++L)[H1.length]?=L[0]?:=λL=>aP H1 L 0;have bi:∀(L:SA),(H1++L)[H1.length+1]?=L[1]?:=λL=>aP H1 L 1;have cx:∀(z:aa)(L:SA),(H1.set fp z++L)[H1.length]?=L[0]?:=λz L=>by have:=aP (H1.set fp z) L 0;rwa[UK]at this
  have da:∀(z:aa)(L:SA),(H1.set fp z++L)[H1.length+1]?=L[1]?:=λz L=>by have:=aP (H1.set fp z) L 1;rwa[UK]at this
  have HS:∀G:Kn,G.aQ=R1.aQ->(H1.set fp (.cells (G.l mp) 85)).set mp (setH R1.aQ)=H1.set fp (.cells (G.l mp) 85):=λG _=>rR (by rw[Vd mH];exact GZ);refine ai ?_;refine ai ?_;refine ao ?_;refine⟨λh2=> ?_,λh2=> ?_⟩
  ·
   replace h2:deep=2:=(by simpa using h2);have zn:=hx.di;rw[if_pos h2]at eA;refine ab ?_;simp only[seval,aE,TM,aG];refine bO ?_;refine gU x.aq.length (λi:Nat=>[(30,iv i)]) (λi=>H1.set fp (.cells (({R1 with bc:=nL t i R1.bc}:Kn).l mp) 85)++[.cells x.l 73,.cells (t.map iv) 83]) (λi=>bW {R1 with bc:=nL t i R1.bc}) (λ_ _=>rfl) (by simp only[seval];simp[bE,Wk.refl]) (by rw[show ({R1 with bc:=nL t 0 R1.bc}:Kn)=R1 from rfl,rR yP];rfl) (λ_ _ _=>by simp) oi (λbN cm i ce an R hR=> ?_);refine ai ?_;refine ao ?_;refine⟨λh3=> ?_,λh3=> ?_⟩;have bh:i<x.aq.length:=(by omega);obtain⟨o,ho,ho4⟩:=ht.own i bh;have rK:tg t i=o:=(by unfold tg;rw[Tf,ho];rfl);obtain⟨n,hn⟩:=bF (xs:=nL t i R1.bc) (i:=i) (by have:=an.bc;simp only at this;omega);have Ej:n<65536:=an.mr n (Un hn);have b3:(0<=(i:Int)/\(i:Int)<3)=True:=(by simp;omega);have bz:=TL i (by omega);have BA:=Kn.Fq an (mp:=mp) (p:=i) (n:=n) hn;have qw:=Kn.ado an (mp:=mp) (p:=i) (v:=n|||2^o) (eF hn);have cJ:=Kn.len an mp;refine aF ?_;refine ai ?_;refine cS 15 ?_;simp only[seval,da,wq mc,wu mc,b3,BA,lx ho];refine dG (wv (n|||2^o)) (bX (vn Ej (show o<16 by omega) ⟨rfl,rfl⟩)) ?_;(try simp only[seval,wq mc,wu mc,b3,cJ]);refine⟨by omega,?_⟩;rw[qw];refine ab ?_;simp only[seval,bz];have dj:nL t (i+1) R1.bc=(nL t i R1.bc).set i (n|||2^o):=(by rw[nL,rK,Gb hn]);refine hR _ ⟨bh,?_,?_⟩;rw[dj];exact an.Fz (qI Ej (x7 (by omega)));rw[dj];exact cK;have dL:i=x.aq.length:=(by omega);subst dL;have:=eA _ R1.aQ [.cells x.l 73,.cells (t.map iv) 83] rfl rfl;rw[HS {R1 with bc:=nL t x.aq.length R1.bc} rfl]at this;refine bT ?_;refine aH ?_;exact this
  ·replace h2:¬deep=2:=(by simpa using h2);rw[if_neg h2]at eA;refine ai ?_;refine ao ?_;refine⟨λh3=> ?_,λh3=> ?_⟩
   ·
    replace h3:deep=0:=(by simpa using h3);rw[if_pos h3]at eA;have EA:(t.take 4).length=4:=(by simp[jV]);have uj:∀L:SA,(H1++L)[mp]?=some (.obj (.map (R1.aQ.zipIdx.map eP).toArray R1.aQ.length)):=λL=>dW GZ;have hfp:∀L:SA,(H1++L)[fp]?=some (.cells (R1.l mp) 85):=λL=>dW yP;have abr:mp<H1.length:=(by omega);obtain⟨i3,ru,jH⟩:=F.i3;have LM:∀y∈R1.aQ.zipIdx,y.1.length=4:=λy hy=>oi.h4 _ (FQ hy);have Hm:=aeC (ts:=R1.aQ.zipIdx) F.FL F.u3 ru jH EA LM;have Hk:=λb=>aey (b:=b) (k:=.i64) (d:=9998) F.FL F.u3 ru jH EA;refine cS 6 ?_;simp only[seval,hfp,bi,uj,Kn.aiO,jV,LK];rw[<- Xg];refine eB (wj _) (eB rfl ⟨Hk _,_,Hm,?_,?_⟩)
    ·intro i v qp;rcases Lh (x:=t.take 4) (hs:=R1.aQ)with⟨h,_⟩|⟨i',b,h,h2,_⟩;rw[h]at qp;cases qp;rw[h]at qp;cases qp;rw[Ur,h2];exact asC _
    ·rcases Lh (x:=t.take 4) (hs:=R1.aQ)with⟨h,hn⟩|⟨i',b,h,h2,hn⟩;rw[h,adu,ww abr];have:=eA _ _ [.cells x.l 73,.cells (t.map iv) 83] rfl rfl;rw[show j3 R1.aQ (t.take 4)=R1.aQ++[t.take 4] by rw[j3,if_neg hn],ad3]at this;rw[show H1.set fp (.cells (({R1 with aQ:=R1.aQ++[t.take 4]}:Kn).l mp) 85)=H1 from rR yP]at this;refine aH ?_;exact this;rw[h,ara h2,ww abr];have:=eA _ _ [.cells x.l 73,.cells (t.map iv) 83] rfl rfl;rw[show j3 R1.aQ (t.take 4)=R1.aQ by rw[j3,if_pos hn],ad4]at this;rw[show H1.set fp (.cells (({R1 with aQ:=R1.aQ}:Kn).l mp) 85)=H1 from rR yP]at this;refine aH ?_;exact this
   ·
    replace h3:¬deep=0:=(by simpa using h3);rw[if_neg h3]at eA;refine aF ?_;have pA:=hx.ey;obtain⟨P,hP⟩:∃P:Nat->Kn,∀p,P p={R1 with aC:=s7 t p R1.aC,hours:=xy t p R1.hours,less:=zJ t x.pieces.length p R1.less}:=⟨_,λ_=>rfl⟩;obtain⟨P',G7⟩:∃P':Nat->Nat->Kn,∀p q,P' p q={R1 with aC:=s7 t (p+1) R1.aC,hours:=xy t (p+1) R1.hours,less:=xH t p q (zJ t x.pieces.length p R1.less)}:=⟨_,λ_ _=>rfl⟩;have hP0:P 0=R1:=(by rw[hP];rfl);have hPs:∀p,P' p x.pieces.length=P (p+1):=λp=>(by rw[hP,G7];rfl);refine ab ?_;simp only[seval,aE,TM,aG];refine bO ?_;refine gU x.pieces.length (λi:Nat=>[(62,iv i)]) (λi=>H1.set fp (.cells ((P i).l mp) 85)++[.cells x.l 73,.cells (t.map iv) 83]) (λi=>bW (P i)) (λ_ _=>rfl) (by simp only[seval];simp[bE,Wk.refl]) (by rw[hP0,rR yP];rfl) (λ_ _ _=>by simp) (by rw[hP0];exact oi) (λbN cm p ce an R hR=> ?_);refine ai ?_;refine ao ?_;refine⟨λh=> ?_,λh=> ?_⟩
    ·have cJ:p<x.pieces.length:=(by omega);obtain⟨o,ho,ho9,rK⟩:=ht.num p cJ;obtain⟨n,hn⟩:=bF (xs:=(P p).aC) (i:=p) (by have:=an.aC;omega);obtain⟨m,gK⟩:=bF (xs:=(P p).hours) (i:=p) (by have:=an.hours;omega);have Ej:n<65536:=an.mU n (Un hn);have abm:m<65536:=an.nv m (Un gK);have b4:(0<=(p:Int)/\(p:Int)<4)=True:=(by simp;omega);have bz:=TL p (by omega);have BA:=Kn.IH (mp:=mp) hn;have qw:=Kn.ac3 (mp:=mp) (p:=p) (v:=n|||2^o) (eF hn);have hpn:=Kn.len an mp;have gL:mY t p=o:=(by unfold mY;rw[Tf,ho];rfl);refine aF ?_;refine ai ?_;refine cS 15 ?_;simp only[seval,da,wq mc,wu mc,b4,BA,lx ho];refine dG (wv (n|||2^o)) (bX (vn Ej (show o<16 by omega) ⟨rfl,rfl⟩)) ?_;(try simp only[seval,wq mc,wu mc,b4,hpn]);refine⟨by omega,?_⟩;rw[qw];obtain⟨c0,vz⟩:=bF (xs:=t) (i:=0) (by omega);have Hi:t.getD 0 0=c0:=(by rw[Tf,vz];rfl);rw[Hi]at rK;have aaT:c0∈t.take 4:=by
      match t,jV,vz with
      |a::t',_,vz=>cases vz;simp
     have py:=ht.bG.lo c0 aaT;have Hq:=ht.bG.hi c0 aaT;have f_:Tg.wrap ((o:Int)+c0)=(o:Int)+c0:=bt _ (by omega);have al6:(t.map iv)[0]?=some (iv c0):=(by rw[Ur,vz];rfl);obtain⟨u,hu⟩:=aa_ rK;have hu4:u<4:=by have h5:ff (t.take 4) ((o:Int)+c0)<0+(t.take 4).length:=aeT;rw[ht.bG.len,hu]at h5;omega
     have hth:FF t p=u:=by unfold FF;rw[Tf,ho,Hi];simp only[T_];rw[hu];rfl
     obtain⟨G1,yR⟩:∃G1,G1=({P p with aC:=(P p).aC.set p (n|||2^o)}:Kn):=⟨_,rfl⟩;have DK:bW G1:=(by rw[yR];exact an.ad7 (qI Ej (x7 (by omega))));have MX:G1.hours[p]?=some m:=(by rw[yR];exact gK);rw[<- yR];have abG:=Kn.Na DK (mp:=mp) MX;have abI:=Kn.abC DK (mp:=mp) (p:=p) (v:=m|||2^u) (eF MX);have abH:=Kn.len DK mp;refine cS 22 ?_;simp only[seval,da,wq mc,wu mc,b4,abG,lx ho,LK,jV,f_];rw[<- Xg];refine eB al6 ?_;(try simp only[seval,f_]);refine dG (iv u) (bX (R6 (h:=t.take 4) (n:=(o:Int)+c0) ht.bG.len ⟨by rw[hu],rfl⟩)) ?_;refine dG (wv (m|||2^u)) (bX (vn abm (show u<16 by omega) ⟨rfl,rfl⟩)) ?_;(try simp only[seval,wq mc,wu mc,b4,abH]);refine⟨by omega,?_⟩;rw[abI];have L2:({G1 with hours:=G1.hours.set p (m|||2^u)}:Kn)=P' p 0:=by rw[yR,G7];simp only[hP]at hn gK⊢;rw[s7,gL,Gb hn,xy,hth,Gb gK];rfl
     have alQ:bW (P' p 0):=(by rw[<- L2];exact DK.ad5 (qI abm (x7 (by omega))));rw[L2];clear qw BA hpn DK MX abG abI abH L2 yR hn gK an;refine ab ?_;simp only[seval,cx,TM,aG];refine bO ?_;refine gU x.pieces.length (λi:Nat=>[(108,iv i)]) (λi=>H1.set fp (.cells ((P' p i).l mp) 85)++[.cells x.l 73,.cells (t.map iv) 83]) (λi=>bW (P' p i)) (λ_ _=>rfl) (by simp only[seval];simp[bE,Wk.refl]) rfl (λ_ _ _=>by simp) alQ (λaaG awi q BC oB R' hR'=> ?_);refine ai ?_;refine ao ?_;refine⟨λh=> ?_,λh=> ?_⟩
     ·have mL:q<x.pieces.length:=(by omega);obtain⟨o2,oA,awu,_⟩:=ht.num q mL;have b4q:(0<=(q:Int)/\(q:Int)<4)=True:=(by simp;omega);have ux:=TL q (by omega);have dj:P' p (q+1)={P' p q with less:=if o<o2 then pZ (P' p q).less p q else(P' p q).less}:=by rw[G7,G7,xH];simp only[Tf,ho,oA,T_];by_cases hlt:o<o2;rw[if_pos (by omega),if_pos hlt];rw[if_neg (by omega),if_neg hlt]
      refine aF ?_;refine ai ?_;refine cS 8 ?_;simp only[seval,da,b4,b4q,lx ho,lx oA];refine ao ?_;refine⟨λh=> ?_,λh=> ?_⟩;have hlt:o<o2:=(by simpa using h);rw[if_pos hlt]at dj;obtain⟨v,hv⟩:=bF (xs:=(P' p q).less) (i:=p) (by have:=oB.less;omega);have HZ:v<65536:=oB.nK v (Un hv);have ang:=Kn.Of oB (mp:=mp) hv;have ani:=Kn.acr oB (mp:=mp) (p:=p) (v:=v|||2^q) (eF hv);have anh:=Kn.len oB mp;rw[Gb hv]at dj;refine cS 12 ?_;simp only[seval,wq mc,wu mc,b4,ang];refine dG (wv (v|||2^q)) (bX (vn HZ (show q<16 by omega) ⟨rfl,rfl⟩)) ?_;(try simp only[seval,wq mc,wu mc,b4,anh]);refine⟨by omega,?_⟩;rw[ani,<- dj];refine ab ?_;simp only[seval,ux];refine hR' _ ⟨mL,?_,?_⟩;rw[dj];exact oB.ad6 (qI HZ (x7 (by omega)));exact cK;have hlt:¬o<o2:=(by simpa using h);rw[if_neg hlt]at dj;refine aF ?_;refine ab ?_;simp only[seval,ux];rw[show ({P' p q with less:=(P' p q).less}:Kn)=P' p q from rfl]at dj;refine hR' _ ⟨mL,?_,?_⟩;rw[dj];exact oB;rw[dj];exact cK
     ·have hqe:q=x.pieces.length:=(by omega);subst hqe;rw[hPs]at oB⊢;refine bT ?_;refine ab ?_;simp only[seval,bz];exact hR _ ⟨cJ,oB,cK⟩
    ·have jn:p=x.pieces.length:=(by omega);subst jn;have:=eA _ R1.aQ [.cells x.l 73,.cells (t.map iv) 83] rfl rfl;rw[<- hP,HS (P _) (by rw[hP])]at this;refine bT ?_;exact this
end
open Go.Conc Go.Proofs Go.Gg.Tk
namespace Tk
def iE (F:Kn)(hs:SS)(G:Kn):Kn:=if G.has then⟨true,hs.foldl j3 F.aQ,mq F.aC G.aC,mq F.hours G.hours,mq F.less G.less,mq F.bc G.bc,if F.has=false\/tO G.first F.first then G.first else F.first⟩else F
def oL (l m:SE):Nat->SE
 |0=>l
 |i+1=>(oL l m i).set i ((oL l m i).getD i 0|||m.getD i 0)
end Tk
def IR{l m:SE}{i a b:Nat}(ha:(oL l m i)[i]?=some a)(hb:m[i]?=some b):oL l m (i+1)=(oL l m i).set i (a|||b):=by rw[oL,Tf,Tf,ha,hb];rfl
def aqs{l m:SE}(h:l.length=m.length){i:Nat}(hi:i<=l.length):oL l m i=mq (l.take i) (m.take i)++l.drop i:=by
 induction i with
 |zero=>simp[oL,mq]
 |succ i ih=>
  have hl:i<l.length:=by omega
  have hm:i<m.length:=by omega
  have e1:(mq (l.take i) (m.take i)).length=i:=by simp[mq];omega
  have e2:(oL l m i).getD i 0=l[i]:=by rw[ih (by omega),Tf,Uc (by omega),e1];simp[hl]
  rw[oL,e2,ih (by omega),Vg _ _ (by omega),e1,WV,Tf,T4 hm,T_,UL hl,U1,WY,WY,T4 hl,T4 hm,ZZ,ZZ];unfold mq;rw[List.zipWith_append (by simp;omega)];simp
def IQ{l m:SE}(h:l.length=m.length){n:Nat}(hn:l.length=n):oL l m n=mq l m:=by subst hn;rw[aqs h (Tv _),h,Ux,UX (by omega),Ts,<- h,Ux]
def TN{H:List aa}:∀(L:SA),(H++L)[H.length]?=L[0]?:=λL=>aP H L 0
def ajT{lv:Bool}{H:SA}{k kp:SF}{fp mp mg:Nat}{Q G:Kn}(hQ:bW Q)(hG:bW G)(mH:fp≠mp)(xn:mg≠mp)(hf:H[fp]?=some (.cells (Q.l mp) 85))(hm:H[mp]?=some (setH Q.aQ))(hg:H[mg]?=some (setH G.aQ))(fY:G.aQ.Nodup)(hk:∀hs:SS,hs.Perm G.aQ->k (.aJ []) ((H.set fp (.cells ((iE Q hs G).l mp) 85)).set mp (setH (iE Q hs G).aQ))):aS lv BI 125 H [.op fp 0,.agg (G.l mg)] k kp:=by
 refine br (rs:=[]) (nt:=121) Tryz.f125 λhH hA=> ?_;simp only[ba,Tq];have iV:=eF hf;have Ei:=eF hm;have ko:=eF hg;have Ho:=Kn.len hG mg;have HP:=Kn.len hQ mp;have uf:(G.l mg).drop 17=G.first.map iv:=by
  have e:G.l mg=(bv G.has:: .mp mg::(G.aC.map (λn=>wv n)++(G.hours.map (λn=>wv n)++(G.less.map (λn=>wv n)++G.bc.map (λn=>wv n)))))++G.first.map iv:=by simp[Kn.l]
  rw[e,XB (by simp[hG.aC,hG.hours,hG.less,hG.bc]),UX (by simp[hG.aC,hG.hours,hG.less,hG.bc])];rfl
 refine ai ?_;refine ab ?_;simp only[seval,Kn.Dy];refine ao ?_;refine⟨λh=> ?_,λh=> ?_⟩
 ·
  have ME:G.has=false:=by simpa using h
  have:=hk G.aQ (axs _);rw[iE,ME]at this;simp only[UH,if_false]at this;rw[rR hf,rR hm]at this;refine aH ?_;exact dS hH (Wk.refl _) (by simp[iw]) this
 ·have ME:G.has=true:=by simpa using h
  refine aF ?_;obtain⟨R1,rf⟩:∃R1,R1=(if Q.has=false\/tO G.first Q.first=true then{Q with first:=G.first}else Q):=⟨_,rfl⟩;have oi:bW R1:=by rw[rf];split;exact⟨hQ.aC,hQ.hours,hQ.less,hQ.bc,hG.first,hQ.mU,hQ.nv,hQ.nK,hQ.mr,hQ.h4⟩;exact hQ
  have DN:R1.aQ=Q.aQ:=by rw[rf];split<;>rfl
  obtain⟨H1,l8⟩:∃H1,H1=H.set fp (.cells (R1.l mp) 85):=⟨_,rfl⟩;have cx:∀(z:aa)(L:SA),(H.set fp z++L)[H.length]?=L[0]?:=λz L=>by have:=aP (H.set fp z) L 0;rwa[UK]at this
  have jV:=hG.first;have BK:U9 11 (G.first.map iv)=G.first.map iv:=Tu (by rw[Um];omega);have I6:U9 17 (Q.l mp)++G.first.map iv++U7 28 (Q.l mp)=({Q with first:=G.first}:Kn).l mp:=Kn.ad2 hQ jV;have hqd:(Q.l mp).drop 17=Q.first.map iv:=by have e:Q.l mp=(bv Q.has:: .mp mp::(Q.aC.map (λn=>wv n)++(Q.hours.map (λn=>wv n)++(Q.less.map (λn=>wv n)++Q.bc.map (λn=>wv n)))))++Q.first.map iv:=(by simp[Kn.l]);rw[e,XB (by simp[hQ.aC,hQ.hours,hQ.less,hQ.bc]),UX (by simp[hQ.aC,hQ.hours,hQ.less,hQ.bc])];rfl
  have abT:U9 11 (Q.first.map iv)=Q.first.map iv:=Tu (by rw[Um,hQ.first];exact Tv _);have cX:H1.length=H.length:=by rw[l8,UK]
  cases HO:Q.has
  case' true=>refine cS 12 ?_;simp only[seval,dW hf,Kn.Dy,HO,TN,uf,hqd,Ho,HP,BK,abT];refine⟨by omega,by have:=hQ.first;omega,?_⟩;refine aK (aj2 hG.first hQ.first ?_);(try simp only[seval]);refine ao ?_;refine⟨λhb=> ?tt,λhb=> ?tf⟩
  case' false=>refine cS 12 ?_;simp only[seval,dW hf,Kn.Dy,HO,TN,uf,hqd,Ho,HP,BK,abT];refine ao ?_
  case' tt=>have e1:R1={Q with first:=G.first}:=(by rw[rf,if_pos (.inr hb)]);refine ab ?_;simp only[seval,dW hf,TN,uf,Ho,HP,BK,jV,ww iV];rw[I6,<- e1,<- l8,<- cX]
  case' tf=>have e1:R1=Q:=(by rw[rf,if_neg (by rw[HO,hb];simp)]);have KT:H1=H:=(by rw[l8,e1];exact rR hf);refine aF ?_;rw[<- KT]
  case' false=>have e1:R1={Q with first:=G.first}:=(by rw[rf,if_pos (.inl HO)]);refine ab ?_;simp only[seval,dW hf,TN,uf,Ho,HP,BK,jV,ww iV];rw[I6,<- e1,<- l8,<- cX]
  all_goals
   clear e1;have mc:fp<H1.length:=(by omega);have yP:H1[fp]?=some (.cells (R1.l mp) 85):=(by rw[l8,VZ,if_pos rfl,if_pos iV]);have GZ:H1[mp]?=some (setH R1.aQ):=(by rw[l8,Vd mH,DN];exact hm);have hfg:fp≠mg:=λe=>(by subst e;rw[hf]at hg;cases hg);have h1g:H1[mg]?=some (setH G.aQ):=(by rw[l8,Vd hfg];exact hg);obtain⟨R2,rh⟩:∃R2,R2=({R1 with has:=true}:Kn):=⟨_,rfl⟩;have eL:AV.val (.bool true)::U7 1 (R1.l mp)=R2.l mp:=(by rw[rh];rfl);have L4:R2.aQ=Q.aQ:=(by rw[rh];exact DN);have vt:bW R2:=(by rw[rh];exact⟨oi.aC,oi.hours,oi.less,oi.bc,oi.first,oi.mU,oi.nv,oi.nK,oi.mr,oi.h4⟩);refine ab ?_;simp only[seval,dW yP,ww mc,Kn.as0];refine⟨by have:=Kn.len oi mp;omega,?_⟩;rw[eL];obtain⟨B,hB⟩:∃B:Kn->List (SD)->SA,∀K hs,B K hs=(H1.set fp (.cells (K.l mp) 85)).set mp (setH hs):=⟨_,λ_ _=>rfl⟩;have gH:∀K hs,(B K hs).length=H1.length:=λK hs=>(by rw[hB,UK,UK]);have hBm:∀K hs (L:SA),(B K hs++L)[mp]?=some (.obj (.map (hs.zipIdx.map eP).toArray hs.length)):=λK hs L=>by rw[T6 (by rw[gH];omega),hB,VZ,if_pos rfl,if_pos (by rw[UK];omega)];rfl
   have G3:∀K hs (L:SA),(B K hs++L)[mg]?=some (.obj (.map (G.aQ.zipIdx.map eP).toArray G.aQ.length)):=λK hs L=>by rw[T6 (by rw[gH];omega),hB,Vd (λe=>xn e.symm),Vd hfg,h1g];rfl
   have o_:∀K hs (L:SA),(B K hs++L)[fp]?=some (.cells (K.l mp) 85):=λK hs L=>by rw[T6 (by rw[gH];omega),hB,Vd (λe=>mH e.symm),VZ,if_pos rfl,if_pos (by omega)]
   have alN:∀K hs qx (L:SA),(B K hs++L).set mp (setH qx)=B K qx++L:=λK hs qx L=>by rw[VE _ _ (by rw[gH];omega),hB,hB,Yk]
   have G4:∀K hs K' (L:SA),(B K hs++L).set fp (.cells (K'.l mp) 85)=B K' hs++L:=λK hs K' L=>by rw[VE _ _ (by rw[gH];omega),hB,hB,List.set_comm _ _ (λe=>mH e.symm),Yk]
   have hBs:H1.set fp (.cells (R2.l mp) 85)=B R2 R2.aQ:=by rw[hB];symm;exact rR (by rw[Vd mH,GZ,L4,DN])
   have TN:∀K hs (L:SA),(B K hs++L)[H1.length]?=L[0]?:=λK hs L=>(by rw[<- gH K hs];exact aP _ L 0);have bi:∀K hs (L:SA),(B K hs++L)[H1.length+1]?=L[1]?:=λK hs L=>(by rw[<- gH K hs];exact aP _ L 1);have dB:∀K hs (L:SA),(B K hs++L)[H1.length+2]?=L[2]?:=λK hs L=>(by rw[<- gH K hs];exact aP _ L 2);have MB:(G.l mg).drop 1=.mp mg::((G.l mg).drop 2):=rfl;have hKd:∀K:Kn,(K.l mp).drop 1=.mp mp::((K.l mp).drop 2):=λ_=>rfl;have cO:∀(K:Kn)(hs:SS),bJ (B K hs):=λK hs=>by
    intro z hz;rw[gH];rw[hB]at hz;rcases VD hz with hz|rfl
    ·rcases VD hz with hz|rfl
     ·rw[l8]at hz;rcases VD hz with hz|rfl;exact cX▸hH z hz
      ·intro a ha;simp only[Kn.l,Tm,T1,Uh]at ha;rcases ha with rfl|rfl|⟨_,_,rfl⟩|⟨_,_,rfl⟩|⟨_,_,rfl⟩|⟨_,_,rfl⟩|⟨_,_,rfl⟩;exact .val _;exact .mp (by omega)
       all_goals exact .val _
     ·intro a ha;simp only[Kn.l,Tm,T1,Uh]at ha;rcases ha with rfl|rfl|⟨_,_,rfl⟩|⟨_,_,rfl⟩|⟨_,_,rfl⟩|⟨_,_,rfl⟩|⟨_,_,rfl⟩;exact .val _;exact .mp (by omega)
      all_goals exact .val _
    ·trivial
   have eA:∀(hs:SS)(K:Kn)(L:SA),hs.Perm G.aQ->iE Q hs G=K->cz H1.length (B K K.aQ++L) (.aJ []) k:=λhs K L hp hK=>by have:=hk hs hp;rw[hK]at this;subst hK;refine jy (Wk.refl _) rfl (by rw[gH];exact Tv _) (cO _ _) (by simp[iw]) ?_;rw[hB,l8,Yk];exact this
   rw[hBs];clear hk hBs;refine ab ?_;simp only[seval,TN,MB,G3];rw[gH];have aaS:∀K hs (L:SA) z,(B K hs++L).set (H1.length+1) z=B K hs++L.set 1 z:=λK hs L z=>by rw[Vg _ _ (by rw[gH];omega),gH,UU]
   have al5:∀K hs (L:SA) z,(B K hs++L).set (H1.length+2) z=B K hs++L.set 2 z:=λK hs L z=>by rw[Vg _ _ (by rw[gH];omega),gH,UU]
   obtain⟨ts,d_⟩:∃ts,ts=G.aQ.zipIdx:=⟨_,rfl⟩;obtain⟨ck,Hl⟩:∃ck,ck=G.aQ.length:=⟨_,rfl⟩;rw[<- d_,<- Hl]at G3;rw[<- Hl];have hb:∀y∈ts,y.2<ck:=λy hy=>(by rw[d_]at hy;have:=List.snd_lt_add_of_mem_zipIdx hy;omega);have El:(ts.map (·.2)).Nodup:=(by rw[d_,show (λy:SD×Nat=>y.2)=Prod.snd from rfl,List.zipIdx_map_snd];exact List.nodup_range');have h4:∀y∈ts,y.1.length=4:=λy hy=>(by rw[d_]at hy;exact hG.h4 _ (FQ hy));have fL:=Q3 ts ck hb;have ND:ts.map (·.1)=G.aQ:=(by rw[d_,show (λy:SD×Nat=>y.1)=Prod.fst from rfl,List.zipIdx_map_fst]);clear d_;obtain⟨ac,Ha⟩:∃ac:List (SD×Nat)->SS,∀vs,ac vs=vs.foldl (λa y=>j3 a y.1) R2.aQ:=⟨_,λ_=>rfl⟩;have aaL:ac []=R2.aQ:=(by rw[Ha];rfl);have L6:∀vs y,ac (vs++[y])=j3 (ac vs) y.1:=λvs y=>(by rw[Ha,Ha,Y1];rfl);obtain⟨i3,ru,jH⟩:=F.i3;refine bO ?_;refine AD (measure λvs:List (SD×Nat)=>ts.length-vs.length).wf (λvs=>[]) (λvs=>B R2 (ac vs)++[.cells (G.l mg) 85,.iter mg ck (vs.map (·.2)).toArray ck]) (λvs=>(vs.map (·.2)).Nodup/\(∀y∈vs,y∈ts)/\∀h∈ac vs,h.length=4) [] (λ_ _=>rfl) (by simp) (by rw[aaL];rfl) (λ_ _=>by simp[gH]) ⟨by simp,by simp,by rw[aaL,L4];exact hQ.h4⟩ (λbN cm vs an R hR=> ?_);refine ab ?_;simp only[seval,bi,G3,aaS];refine⟨fL.elim .inl (λh=> .inr (.inl h)),λe he hn=> ?_,λhs=> ?_⟩
   ·obtain⟨y,hy,rfl⟩:∃y∈ts,eP y=e:=(by simpa using he);refine ao ?_;refine aF ?_;refine bO ?_;have tX:=h4 y hy;have Me:(eP y).born=y.2:=rfl;have hlen:(y.1.map iv).length=4:=(by simp[tX]);have Mo:U7 4 [AV.val (S_ Tg 0),AV.val (S_ Tg 0),AV.val (S_ Tg 0),AV.val (S_ Tg 0)]=[]:=rfl;refine ab ?_;simp only[seval,bi,G3,aaS,al5,dB,gH,Array.back?_push,Me,Sz El hy,ac5,tX,hlen,Mo];refine cS 10 ?_;simp only[seval,o_,hKd,hBm,dB,hlen,tX];have abS:U9 4 (y.1.map iv)=y.1.map iv:=Tu (by omega);have LM:∀z∈(ac vs).zipIdx,z.1.length=4:=λz hz=>an.2.2 _ (FQ hz);have Hm:=aeC (ts:=(ac vs).zipIdx) F.FL F.u3 ru jH tX LM;have Hk:=λb=>aey (b:=b) (k:=.i64) (d:=9998) F.FL F.u3 ru jH tX;have HN:((vs.map (·.2)).toArray.push y.2)=((vs++[y]).map (·.2)).toArray:=(by simp);have NH:y.2∉vs.map (·.2):=(by simpa[eP]using hn);have um:((vs++[y]).map (·.2)).Nodup/\(∀z∈vs++[y],z∈ts)/\∀h∈ac (vs++[y]),h.length=4:=by refine⟨?_,λz hz=> ?_,λh hh=> ?_⟩;rw[UA,Wo];refine⟨an.1,by simp,λa ha b hb=> ?_⟩;simp at hb;subst hb;intro e;subst e;exact NH ha;rcases T1.1 hz with h|h;exact an.2.1 z h;rw[Ub.1 h];exact hy;rw[L6,j3]at hh;split at hh;exact an.2.2 _ hh;rcases T1.1 hh with h'|h';exact an.2.2 _ h';rw[Ub.1 h'];exact tX
    have hlen:vs.length<ts.length:=by have h1:(vs++[y]).Nodup:=Fc _ um.1;have:=h1.length_le_of_subset um.2.1;simp at this;omega
    have sN:ts.length-(vs++[y]).length<ts.length-vs.length:=(by simp;omega);have HI:∀sn,bJ (B R2 (ac (vs++[y]))++[aa.cells (G.l mg) 85,aa.iter mg ck sn ck]):=λsn z hz=>by
     rcases T1.1 hz with h|h;exact(cO _ _ z h).mono (by simp)
     ·have LU:∀a∈G.l mg,Lt H1.length a:=λa ha=>by
       simp only[Kn.l,Tm,T1,Uh]at ha;rcases ha with rfl|rfl|⟨_,_,rfl⟩|⟨_,_,rfl⟩|⟨_,_,rfl⟩|⟨_,_,rfl⟩|⟨_,_,rfl⟩;exact .val _;exact .mp (by omega)
       all_goals exact .val _
      simp only[Tm,T5,or_false]at h;rcases h with rfl|rfl;intro a ha;exact(LU a ha).mono (by simp[gH]);show mg<_;simp[gH];omega
    rw[abS];refine eB F.Qg (eB (wj _) ⟨Hk _,_,Hm,?_⟩);rcases Lh (x:=y.1) (hs:=ac vs)with⟨h,Em⟩|⟨i',b,h,h2,Em⟩;rw[h];(try simp only[seval,AV.found]);refine ai ?_;refine ao ?_;refine cS 5 ?_;simp only[seval,o_,hKd,hBm,dB,hlen,tX];rw[abS];refine eB (wj _) (eB rfl ⟨Hk _,_,Hm,?_,?_⟩);intro i v qp;rw[h]at qp;cases qp;rw[h,adu,<- ad3,alN,show ac vs++[y.1]=ac (vs++[y]) by rw[L6,j3,if_neg Em],HN];refine hR _ ⟨vs++[y],sN,um,?_⟩;exact Cd (oI rfl rfl) (by simp only[seval]<;>simp[bE,Wk.refl]) (HI _) (by simp[dF]);rw[h];(try simp only[seval,AV.found]);refine ai ?_;refine ao ?_;refine aF ?_;rw[show ac vs=ac (vs++[y]) by rw[L6,j3,if_pos Em],HN];refine hR _ ⟨vs++[y],sN,um,?_⟩;exact Cd (oI rfl rfl) (by simp only[seval]<;>simp[bE,Wk.refl]) (HI _) (by simp[dF])
   ·have hp:vs.Perm ts:=adQ an.1 El an.2.1 λy hy=>by have:=hs (eP y) (by simp;exact⟨y.1,y.2,hy,rfl⟩) (hb y hy);simpa[eP]using this
    refine ao ?_;refine bT ?_;obtain⟨K,hK⟩:∃K:Nat->Nat->Kn,∀i j,K i j={R2 with aC:=oL R2.aC G.aC i,hours:=oL R2.hours G.hours i,less:=oL R2.less G.less i,bc:=oL R2.bc G.bc j}:=⟨_,λ_ _=>rfl⟩;have hK0:K 0 0=R2:=(by rw[hK];rfl);refine ai ?_;refine bO ?_;refine gU 4 (λi:Nat=>[(57,iv i)]) (λi=>B (K i 0) (ac vs)++[.cells (G.l mg) 85,.iter mg ck (vs.map (·.2)).toArray ck]) (λi=>bW (K i 0)) (λ_ _=>rfl) (by simp only[seval];simp[bE,Wk.refl]) (by rw[hK0]) (λ_ _ _=>by simp[gH]) (by rw[hK0];exact vt) (λaaH aaI i ce vP R hR=> ?_);refine ai ?_;refine ao ?_;refine⟨λh=> ?_,λh=> ?_⟩
    ·have bh:i<4:=(by omega);obtain⟨a1,sA⟩:=bF (xs:=(K i 0).aC) (i:=i) (by have:=vP.aC;omega);obtain⟨a2,DR⟩:=bF (xs:=(K i 0).hours) (i:=i) (by have:=vP.hours;omega);obtain⟨a3,G_⟩:=bF (xs:=(K i 0).less) (i:=i) (by have:=vP.less;omega);obtain⟨c1,cV⟩:=bF (xs:=G.aC) (i:=i) (by have:=hG.aC;omega);obtain⟨c2,cg⟩:=bF (xs:=G.hours) (i:=i) (by have:=hG.hours;omega);obtain⟨c3,dJ⟩:=bF (xs:=G.less) (i:=i) (by have:=hG.less;omega);have EQ:=vP.mU _ (Un sA);have la2:=vP.nv _ (Un DR);have la3:=vP.nK _ (Un G_);have ES:=hG.mU _ (Un cV);have lc2:=hG.nv _ (Un cg);have lc3:=hG.nK _ (Un dJ);have b4:(0<=(i:Int)/\(i:Int)<4)=True:=(by simp;omega);have bz:=TL i (by omega);refine aF ?_;refine ai ?_;obtain⟨Ka,DM⟩:∃Ka,Ka=({K i 0 with aC:=(K i 0).aC.set i (a1|||c1)}:Kn):=⟨_,rfl⟩;have IJ:bW Ka:=(by rw[DM];exact vP.ad7 (qI EQ ES));have sa:=Kn.ac3 (F:=K i 0) (mp:=mp) (p:=i) (v:=a1|||c1) (eF sA);rw[<- DM]at sa;refine cS 13 ?_;simp only[seval,o_,TN,b4,Kn.IH sA,Kn.IH cV,C4,IS EQ ES,Kn.len vP mp];refine⟨by omega,?_⟩;rw[sa,G4];obtain⟨Kb,G5⟩:∃Kb,Kb=({Ka with hours:=Ka.hours.set i (a2|||c2)}:Kn):=⟨_,rfl⟩;have IK:bW Kb:=(by rw[G5];exact IJ.ad5 (qI la2 lc2));have yX:Ka.hours[i]?=some a2:=(by rw[DM];exact DR);have sb:=Kn.abC IJ (mp:=mp) (p:=i) (v:=a2|||c2) (eF yX);rw[<- G5]at sb;refine cS 13 ?_;simp only[seval,o_,TN,b4,Kn.Na IJ yX,Kn.Na hG cg,C4,IS la2 lc2,Kn.len IJ mp];refine⟨by omega,?_⟩;rw[sb,G4];have He:Kb.less[i]?=some a3:=(by rw[G5,DM];exact G_);have sc:=Kn.acr IK (mp:=mp) (p:=i) (v:=a3|||c3) (eF He);have yS:({Kb with less:=Kb.less.set i (a3|||c3)}:Kn)=K (i+1) 0:=by rw[G5,DM,hK (i+1)];simp only[hK]at sA DR G_⊢;rw[IR sA cV,IR DR cg,IR G_ dJ]
     have OI:bW (K (i+1) 0):=(by rw[<- yS];exact IK.ad6 (qI la3 lc3));rw[yS]at sc;refine cS 13 ?_;simp only[seval,o_,TN,b4,Kn.Of IK He,Kn.Of hG dJ,C4,IS la3 lc3,Kn.len IK mp];refine⟨by omega,?_⟩;rw[sc,G4];refine ab ?_;simp only[seval,bz];exact hR _ ⟨bh,OI,cK⟩
    ·have dL:i=4:=(by omega);subst dL;refine bT ?_;refine ai ?_;refine bO ?_;refine gU 3 (λi:Nat=>[(103,iv i)]) (λj=>B (K 4 j) (ac vs)++[.cells (G.l mg) 85,.iter mg ck (vs.map (·.2)).toArray ck]) (λj=>bW (K 4 j)) (λ_ _=>rfl) (by simp only[seval];simp[bE,Wk.refl]) rfl (λ_ _ _=>by simp[gH]) vP (λawg awj j qq Bx R hR=> ?_);refine ai ?_;refine ao ?_;refine⟨λh=> ?_,λh=> ?_⟩
     ·have fM:j<3:=(by omega);obtain⟨a1,sA⟩:=bF (xs:=(K 4 j).bc) (i:=j) (by have:=Bx.bc;omega);obtain⟨c1,cV⟩:=bF (xs:=G.bc) (i:=j) (by have:=hG.bc;omega);have EQ:=Bx.mr _ (Un sA);have ES:=hG.mr _ (Un cV);have b3:(0<=(j:Int)/\(j:Int)<3)=True:=(by simp;omega);have bz:=TL j (by omega);refine aF ?_;refine ai ?_;have sa:=Kn.ado Bx (mp:=mp) (p:=j) (v:=a1|||c1) (eF sA);have yS:({K 4 j with bc:=(K 4 j).bc.set j (a1|||c1)}:Kn)=K 4 (j+1):=by rw[hK 4 (j+1)];simp only[hK]at sA⊢;rw[IR sA cV]
      have OI:bW (K 4 (j+1)):=(by rw[<- yS];exact Bx.Fz (qI EQ ES));rw[yS]at sa;refine cS 13 ?_;simp only[seval,o_,TN,b3,Kn.Fq Bx sA,Kn.Fq hG cV,C4,IS EQ ES,Kn.len Bx mp];refine⟨by omega,?_⟩;rw[sa,G4];refine ab ?_;simp only[seval,bz];exact hR _ ⟨fM,OI,cK⟩
     ·have MR:j=3:=(by omega);subst MR;refine bT ?_;have sM:(vs.map (·.1)).Perm G.aQ:=by have:=hp.map (·.1);rw[ND]at this;exact this
      have alU:ac vs=(vs.map (·.1)).foldl j3 Q.aQ:=(by rw[Ha,L4,List.foldl_map]);have hJ:iE Q (vs.map (·.1)) G={K 4 3 with aQ:=ac vs}:=by
       have e2:R2=⟨true,Q.aQ,Q.aC,Q.hours,Q.less,Q.bc,if Q.has=false\/tO G.first Q.first=true then G.first else Q.first⟩:=by rw[rh,rf];split<;>rfl
       rw[iE,if_pos ME,hK,IQ (by rw[vt.aC,hG.aC]) vt.aC,IQ (by rw[vt.hours,hG.hours]) vt.hours,IQ (by rw[vt.less,hG.less]) vt.less,IQ (by rw[vt.bc,hG.bc]) vt.bc,alU,e2]
      have:=eA (vs.map (·.1)) _ [.cells (G.l mg) 85,.iter mg ck (vs.map (·.2)).toArray ck] sM hJ;rw[show B ({K 4 3 with aQ:=ac vs}:Kn) (ac vs)=B (K 4 3) (ac vs) by rw[hB,hB];rfl]at this;exact this
open Go.Conc Go.Proofs Go.Gg.Tk
namespace Tk
def C8{l:SE}{i v:Nat}:(pZ l i v).length=l.length:=by simp[pZ]
def Gc{l:SE}{i v:Nat}(h:∀n∈l,n<65536)(hv:v<16):∀n∈pZ l i v,n<65536:=by
 refine EY h (qI ?_ (x7 hv));rw[Tf];cases hi:l[i]?with
 |none=>exact(by decide:0<65536)
 |some a=>exact h _ (Un hi)
def at4{x:aj}{t:SD}(ht:jQ x t){p:Nat}(hp:p<x.pieces.length):mY t p<16:=by obtain⟨n,h1,h2,_⟩:=ht.num p hp;unfold mY;rw[Tf,h1];show n<16;omega
def at3{t:SD}(h:t.length=11){p:Nat}:FF t p<16:=by
 unfold FF;have h5:ff (t.take 4) (t.getD (4+p) 0+t.getD 0 0)<0+(t.take 4).length:=aeT;have:(t.take 4).length=4:=by simp[h]
 omega
def at5{x:aj}{t:SD}(ht:jQ x t){s:Nat}(hs:s<x.aq.length):tg t s<16:=by obtain⟨n,h1,h2⟩:=ht.own s hs;unfold tg;rw[Tf,h1];show n<16;omega
def adn{x:aj}{t:SD}(ht:jQ x t){l:SE}(hl:∀n∈l,n<65536):∀{s:Nat},s<=x.aq.length->(nL t s l).length=l.length/\∀n∈nL t s l,n<65536
 |0,_=>⟨rfl,hl⟩
 |s+1,h=>by obtain⟨h1,h2⟩:=adn ht hl (s:=s) (by omega);exact⟨C8.trans h1,Gc h2 (at5 ht (by omega))⟩
def acZ{x:aj}{t:SD}(ht:jQ x t){l:SE}(hl:∀n∈l,n<65536):∀{s:Nat},s<=x.pieces.length->(s7 t s l).length=l.length/\∀n∈s7 t s l,n<65536
 |0,_=>⟨rfl,hl⟩
 |s+1,h=>by obtain⟨h1,h2⟩:=acZ ht hl (s:=s) (by omega);exact⟨C8.trans h1,Gc h2 (at4 ht (by omega))⟩
def abB{t:SD}(ht:t.length=11){l:SE}(hl:∀n∈l,n<65536):∀{s:Nat},(xy t s l).length=l.length/\∀n∈xy t s l,n<65536
 |0=>⟨rfl,hl⟩
 |s+1=>by obtain⟨h1,h2⟩:=abB ht hl (s:=s);exact⟨C8.trans h1,Gc h2 (at3 ht)⟩
def acp{t:SD}{p:Nat}{l:SE}(hl:∀n∈l,n<65536):∀{q:Nat},q<=4->(xH t p q l).length=l.length/\∀n∈xH t p q l,n<65536
 |0,_=>⟨rfl,hl⟩
 |q+1,h=>by obtain⟨h1,h2⟩:=acp hl (q:=q) (t:=t) (p:=p) (by omega);unfold xH;split;exact⟨C8.trans h1,Gc h2 (by omega)⟩;exact⟨h1,h2⟩
def aco{t:SD}{k:Nat}(hk:k<=4){l:SE}(hl:∀n∈l,n<65536):∀{p:Nat},(zJ t k p l).length=l.length/\∀n∈zJ t k p l,n<65536
 |0=>⟨rfl,hl⟩
 |p+1=>by obtain⟨h1,h2⟩:=aco hk hl (p:=p) (t:=t);obtain⟨h3,h4⟩:=acp h2 (t:=t) (p:=p) hk;exact⟨h3.trans h1,h4⟩
def adr{hs:SS}{h:SD}(h1:∀y∈hs,y.length=4)(h2:h.length=4):∀y∈j3 hs h,y.length=4:=λy hy=>by unfold j3 at hy;split at hy;exact h1 y hy;rcases T1.1 hy with h'|h';exact h1 y h';rw[Ub.1 h'];exact h2
def PD{x:aj}{deep:Int}{Q:Kn}{t:SD}(hx:x.Ok)(ht:jQ x t)(hQ:bW Q):bW (eV x deep Q t):=by have hB:=QV hQ ht.len;unfold eV;dsimp only;generalize j_ Q t=R at hB;split;obtain⟨h1,h2⟩:=adn ht hB.mr (Tv _);exact⟨hB.aC,hB.hours,hB.less,h1.trans hB.bc,hB.first,hB.mU,hB.nv,hB.nK,h2,hB.h4⟩;split;exact⟨hB.aC,hB.hours,hB.less,hB.bc,hB.first,hB.mU,hB.nv,hB.nK,hB.mr,adr hB.h4 (by simp[ht.len])⟩;obtain⟨h1,h2⟩:=acZ ht hB.mU (Tv _);obtain⟨h3,h4⟩:=abB ht.len hB.nv (s:=x.pieces.length);obtain⟨h5,h6⟩:=aco (t:=t) hx.ey hB.nK (p:=x.pieces.length);exact⟨h1.trans hB.aC,h3.trans hB.hours,h5.trans hB.less,hB.bc,hB.first,h2,h4,h6,hB.mr,hB.h4⟩
def PK{x:aj}{deep:Int}{h t:SD}(ht:t∈jN x deep h):∃ns∈gM x h,t∈(iS x h ns).map (dM h ns):=by
 have key:t∈((gM x h).map λns=>(iS x h ns).map λos=>dM h ns os).flatten:=by unfold jN at ht;dsimp only at ht;split at ht;exact YN ht;split at ht;obtain⟨l,h1,h2⟩:=Y0.1 ht;obtain⟨m,h3,rfl⟩:=Uh.1 h1;exact Y0.2 ⟨m,h3,YN h2⟩;exact ht
 obtain⟨l,h1,h2⟩:=Y0.1 key;obtain⟨ns,h3,rfl⟩:=Uh.1 h1;exact⟨ns,h3,h2⟩
def EP:bW Kn.zero:=by
 have h0:∀k:Nat,∀n∈UQ k 0,n<65536:=λk n h=>by rw[(XO.1 h).2];decide
 exact⟨rfl,rfl,rfl,rfl,rfl,h0 4,h0 4,h0 4,h0 3,λh hh=>by cases hh⟩
def Lx{x:aj}{deep:Int}(hx:x.Ok):∀{ts:SS}{Q:Kn},(∀t∈ts,jQ x t)->bW Q->bW (ts.foldl (eV x deep) Q)
 |[],Q,_,h=>h
 |t::ts,Q,ht,h=>by rw[Wd];exact Lx hx (λu hu=>ht u (by simp[hu])) (PD hx (ht t (by simp)) h)
end Tk
def zF{K:Kn}{mp m:Nat}(h:mp<m):∀a∈K.l mp,Lt m a:=λa ha=>by
 simp only[Kn.l,Tm,T1,Uh]at ha;rcases ha with rfl|rfl|⟨_,_,rfl⟩|⟨_,_,rfl⟩|⟨_,_,rfl⟩|⟨_,_,rfl⟩|⟨_,_,rfl⟩;exact .val _;exact .mp h
 all_goals exact .val _
def Il{K:Kn}{mp m:Nat}(h:∀a∈K.l mp,Lt m a):mp<m:=by cases h (.mp mp) (by simp[Kn.l]);assumption
def cs:U5->U5
 |.seq _ c=>c
 |_=> .skip
def cf:U5->U5
 |.seq c _=>c
 |_=> .skip
noncomputable def acb:U5:=axX.body.getD .skip
def v6 (x:aj)(bw:Nat)(deep:Int)(c:Nat)(w:T9):List (Nat×AV):=[(12,.fn (.func 105) [] [.op 2 0,.op 3 0]),(5,.op 1 0),(0,.val w),(1,.rp x.l),(2,.rp [iv bw]),(3,.rp [iv deep]),(4,.rp [.val (.chan (some c))])]
def xE (x:aj)(bw:Nat)(K:Kn):SA:=[setH K.aQ,.cells (K.l 0) 85,.cells x.l 73,.cells [iv bw] 3]
def aog{lv:Bool}{x:aj}{bw c:Nat}{w:T9}{deep:Int}{bs:S5}(hx:x.Ok)(gL:bw<=3)(hA:∀h∈kV x bw,nc h/\∀ns∈gM x h,∀a∈(iS x h ns).map (dM h ns),jQ x a)(Φ:SN)(hΦ:Φ .normal ⟨v6 x bw deep c w,xE x bw (iz x deep bw)++[.obj (.deferred (some [])),.gone]⟩ [4]):
  kM lv BI 25 bs (cs (cf (cs (cs acb)))) ⟨v6 x bw deep c w,xE x bw Kn.zero⟩ [] Φ:=by
 unfold acb axX;dsimp only[T_,cs,cf];refine yu ?_;refine Kh (by rfl) λl fn T ag bo hT yV rn=> ?_;(try simp only[seval,xE]);simp only[v6,iv]at hT;obtain⟨Gf,vq⟩:∃Gf:Kn->SA,∀K,Gf K=[setH K.aQ,.cells (K.l 0) 85,.cells x.l 73,.cells [iv bw] 3,.obj (.deferred (some [])),.loop l .ready none fn T 25 #[13] ag bo 4]:=⟨_,λ_=>rfl⟩;have LU:∀K,(Gf K).length=6:=λK=>by rw[vq];rfl
 have alO:∀m K K',(∀z∈Gf K,fw m z)->∀z∈Gf K',fw m z:=λm K K' hz z fF=>by rw[vq]at hz fF;have h1:=hz (.cells (K.l 0) 85) (by simp);simp only[Tm,T5,or_false]at fF;rcases fF with rfl|rfl|rfl|rfl|rfl|rfl;trivial;exact zF (Il h1);exact hz _ (by simp);exact hz _ (by simp);exact hz _ (by simp);exact hz _ (by simp)
 have hY:j8 lv BI (.fn (.yield l) [] []) (λK h=> .go ((jN x deep h).foldl (eV x deep) K)) Gf 6 bW (λh=>nc h/\∀ns∈gM x h,∀a∈(iS x h ns).map (dM h ns),jQ x a) (.aJ []):=by
  refine⟨λK h M k kp hK ha dY=> ?_,λK h K' hK ha he=> ?_,LU,alO,rfl,rfl,rfl⟩
  ·obtain⟨qn,EB⟩:=ha;have h4:=qn.len;have oh:(h.map iv).length=4:=(by rw[Um,h4]);obtain⟨Lo,lD⟩:∃Lo,Lo=aa.loop l .busy none fn T 25 #[13] ag bo 4:=⟨_,rfl⟩;obtain⟨P1,dI⟩:∃P1:Kn->SA,∀K,P1 K=[setH K.aQ,.cells (K.l 0) 85,.cells x.l 73,.cells [iv bw] 3,.obj (.deferred (some [])),Lo]++M:=⟨_,λ_=>rfl⟩;have eM:∀K,(P1 K).length=6+M.length:=λK=>(by rw[dI];simp;omega);have pg:∀(K:Kn)(L:SA)(i:Nat),i<6->(P1 K++L)[i]?=[setH K.aQ,aa.cells (K.l 0) 85,.cells x.l 73,.cells [iv bw] 3,.obj (.deferred (some [])),Lo][i]?:=λK L i ML=>by rw[dI,Ev,T6 (by simpa using ML)]
   have pb:∀(K:Kn)(L:SA)(i:Nat),(P1 K++L)[6+M.length+i]?=L[i]?:=λK L i=>(by rw[<- eM K,aP]);have xP:∀(K:Kn)(L:SA),(P1 K++L)[6+M.length]?=L[0]?:=λK L=>pb K L 0;have qJ:∀(K:Kn)(L:SA)(y:aa),(P1 K++L).set (6+M.length+4) y=P1 K++L.set 4 y:=λK L y=>(by rw[<- eM K,cG]);have s5:∀(K:Kn)(L:SA) y,(P1 K++L).set 5 y=[setH K.aQ,.cells (K.l 0) 85,.cells x.l 73,.cells [iv bw] 3,.obj (.deferred (some [])),y]++M++L:=λK L y=>(by rw[dI];rfl);have B1:∀(K K':Kn)(L L':SA),L'.length=L.length->(∀q,(∀z∈L,fw q z)->∀z∈L',fw q z)->bJ (P1 K++L)->bJ (P1 K'++L'):=λK K' L L' hl hL hH z hz=>by
    have hlen:(P1 K'++L').length=(P1 K++L).length:=(by simp[eM,hl]);rw[hlen];rcases T1.1 hz with h'|h'
    ·rw[dI]at h';rcases T1.1 h' with h'|h'
     ·have h1:=hH (.cells (K.l 0) 85) (by rw[dI];simp);have hq:∀w∈[setH K.aQ,aa.cells (K.l 0) 85,.cells x.l 73,.cells [iv bw] 3,.obj (.deferred (some [])),Lo],fw (P1 K++L).length w:=λw hw=>hH w (by rw[dI,Ev];exact Uk _ hw);simp only[Tm,T5,or_false]at h';rcases h' with rfl|rfl|rfl|rfl|rfl|rfl
      ·trivial
      ·exact zF (Il h1)
      ·exact hq _ (by simp)
      ·exact hq _ (by simp)
      ·exact hq _ (by simp)
      ·exact hq _ (by simp)
     ·exact hH z (by rw[dI];simp[h'])
    ·exact hL _ (λw hw=>hH w (T7 _ hw)) z h'
   simp only[db]at dY;rw[vq]at dY;rw[vq];subst hT yV rn;refine wT (id:=5) (by rfl) rfl (by kernel_rfl) λpc LP=> ?_;simp only[tu];have xh:U7 4 [iv 0,iv 0,iv 0,iv 0]=[]:=rfl;refine ab ?_;simp only[seval,v6,h4,xh];unfold uZ;refine⟨none,fn,_,25,#[13],_,_,_,by rfl,?_⟩;dsimp only;simp only[Vs,U1];rw[<- lD];have yQ:M.length+1+1+1+1+1+1=6+M.length:=(by omega);rw[yQ];have za:∀z:aa,(setH K.aQ::aa.cells (K.l 0) 85::aa.cells x.l 73::aa.cells [AV.val (S_ Tg ↑bw)] 3::aa.obj (ag' (some []))::Lo::(M++[z]))=P1 K++[z]:=λz=>(by rw[dI];rfl);rw[za];refine ab ?_;simp only[seval,TM,xP,h4,oh];rw[Tu (i:=4) (l:=h.map iv) (by rw[oh];exact Tv _)];refine aK (Lb (x:=x) (h:=h) (deep:=deep) ?_);(try simp only[seval]);refine bO ?_;have rz:∀(K:Kn)(a b c d:aa),(P1 K++[a,b,c,d]).length=6+M.length+4:=λK a b c d=>(by simp[eM]);refine Gl 5 (by rfl) (by show (P1 K++_)[5]?=_;rw[pg K _ 5 (by omega),lD];rfl) λl2 fj T2 ig ij pf yW yY=> ?_;simp only[seval];rw[eM]at pf⊢;have yU:j8 lv BI (.fn (.yield l2) [] []) (λK t=> .go (eV x deep K t)) (λK=>P1 K++[.cells (h.map iv) 80,.cells x.l 73,.cells (h.map iv) 80,.cells [iv deep] 3,.loop l2 .ready none fj T2 25 #[18] ig ij 4]) (6+M.length+5) bW (jQ x) (.aJ []):=by
    refine⟨λK' t M2 k2 zG LX ht lK=> ?_,λK' t CJ LX ht he=> ?_,λK'=>by simp[eM],λq K' CJ hz z fF=> ?_,rfl,rfl,rfl⟩;(have rJ:=ht.len;have BL:(t.map iv).length=11:=(by rw[Um,rJ]);obtain⟨qR,tZ⟩:∃Lo,Lo=aa.loop l2 .busy none fj T2 25 #[18] ig ij 4:=⟨_,rfl⟩;obtain⟨Q1,gX⟩:∃Q1:Kn->SA,∀K,Q1 K=P1 K++([.cells (h.map iv) 80,.cells x.l 73,.cells (h.map iv) 80,.cells [iv deep] 3,qR]++M2):=⟨_,λ_=>rfl⟩;obtain⟨C,hC⟩:∃C,C=6+M.length+5+M2.length:=⟨_,rfl⟩;have L3:∀K,(Q1 K).length=C:=λK=>(by rw[gX,hC];simp[eM];omega);have mv:∀(K:Kn)(L:SA),(P1 K++L)[6+M.length+4]?=L[4]?:=λK L=>pb K L 4;have q0:∀(K:Kn)(L:SA),(Q1 K++L)[0]?=some (setH K.aQ):=λK L=>(by rw[gX,Ev];exact pg K _ 0 (by omega));have q1:∀(K:Kn)(L:SA),(Q1 K++L)[1]?=some (.cells (K.l 0) 85):=λK L=>(by rw[gX,Ev];exact pg K _ 1 (by omega));have q4:∀(K:Kn)(L:SA),(Q1 K++L)[6+M.length+4]?=some qR:=λK L=>(by rw[gX,Ev,mv];rfl);have qc:∀(K:Kn)(L:SA),(Q1 K++L)[C]?=L[0]?:=λK L=>(by rw[<- L3 K];exact aP _ L 0);have Pc:∀(K:Kn)(L:SA)(y:aa),(Q1 K++L).set (6+M.length+4) y=(P1 K++([.cells (h.map iv) 80,.cells x.l 73,.cells (h.map iv) 80,.cells [iv deep] 3,y]++M2))++L:=λK L y=>(by rw[gX,Ev,qJ];simp);have arP:∀(K K':Kn)(L:SA),((Q1 K++L).set 1 (.cells (K'.l 0) 85)).set 0 (setH K'.aQ)=Q1 K'++L:=λK K' L=>(by rw[gX,gX,dI,dI];rfl);have fW:∀(CJ:Kn),bJ (P1 K'++([.cells (h.map iv) 80,.cells x.l 73,.cells (h.map iv) 80,.cells [iv deep] 3,.loop l2 .ready none fj T2 25 #[18] ig ij 4]++M2))->bJ (P1 CJ++([.cells (h.map iv) 80,.cells x.l 73,.cells (h.map iv) 80,.cells [iv deep] 3,.loop l2 .ready none fj T2 25 #[18] ig ij 4]++M2)):=λCJ iN=>B1 K' CJ _ _ rfl (λq hz=>hz) iN;simp only[db]at lK;have Mx:∀z:aa,P1 K'++(aa.cells (We iv h) 80::aa.cells x.l 73::aa.cells (We iv h) 80::aa.cells [AV.val (S_ Tg deep)] 3::qR::(M2++[z]))=Q1 K'++[z]:=λz=>(by rw[gX];simp[iv]);subst pf yW yY;rw[Ev];refine wT (id:=6+M.length+4) (by rw[mv];rfl) rfl (by kernel_rfl) λsw LQ=> ?_;simp only[tu];have D6:U7 11 [iv 0,iv 0,iv 0,iv 0,iv 0,iv 0,iv 0,iv 0,iv 0,iv 0,iv 0]=[]:=rfl;refine ab ?_;simp only[seval,rJ,D6];unfold uZ;refine⟨none,fj,_,25,#[18],_,_,_,by rw[mv];rfl,?_⟩;dsimp only;rw[qJ];simp only[Vs,U1];rw[<- tZ];have DI:(P1 K').length+(M2.length+1+1+1+1+1)=C:=(by rw[eM,hC];omega);rw[DI];have jg:∀z:aa,(P1 K'++aa.cells (We iv h) 80::aa.cells x.l 73::aa.cells (We iv h) 80::aa.cells [AV.val (S_ Tg deep)] 3::qR::(M2++[z]))=Q1 K'++[z]:=Mx;rw[jg];refine ab ?_;simp only[seval,TM,qc,rJ,BL];rw[Tu (i:=11) (l:=t.map iv) (by rw[BL];exact Tv _)];refine aK (ajS (x:=x) (t:=t) (deep:=deep) (fp:=1) (mp:=0) (Q:=K') hx ht LX (by decide) (q1 K' _) (q0 K' _) ?_);rw[arP];(try simp only[seval]);show pY _ _ _ _ _ _ _;refine⟨l2,.busy,none,fj,_,25,#[18],_,_,4,by show (Q1 _++_)[_]?=_;rw[q4,tZ],?_⟩;show cz C ((Q1 _++_).set _ _) _ k2;rw[Pc];rw[Ev]at lK;exact jy (G:=[.cells (t.map iv) 83]) (Wk.refl _) rfl (by rw[hC];simp[eM];omega) (fW _ sw) (.val _) lK);cases he;exact PD hx ht LX
    ·rcases T1.1 fF with h'|h'
     ·have h1:=hz (.cells (K'.l 0) 85) (by rw[dI];simp);rw[dI]at h';rcases T1.1 h' with h'|h'
      ·simp only[Tm,T5,or_false]at h';rcases h' with rfl|rfl|rfl|rfl|rfl|rfl;trivial;exact zF (Il h1)
       all_goals exact hz _ (by rw[dI];simp)
      ·exact hz z (by rw[dI];simp[h'])
     ·exact hz z (T7 _ h')
   refine bX (K5 (x:=x) (h:=h) (deep:=deep) (ir:=6+M.length+1) (ih:=6+M.length+1+1) (id:=6+M.length+1+2) (σ:=K) hx qn yU (λK L=> ?_) (λK L=> ?_) (λK L=> ?_) (λn=>by simp[iw]) hK (λa ha=>ha.len) EB ?_);rw[Ev];exact pb _ _ 1;rw[Ev];exact pb _ _ 2;rw[Ev];exact pb _ _ 3;rw[Fu (g:=eV x deep) (λ_ _=>rfl)];simp only[gQ,Ts];have mv:∀(K:Kn)(L:SA),(P1 K++L)[6+M.length+4]?=L[4]?:=λK L=>pb K L 4;refine⟨.ready,none,_,_,_,_,_,_,_,by rw[mv];rfl,by decide,?_⟩;rw[qJ,IY];(try simp only[seval]);show pY _ _ _ _ _ _ _;have awh:=lD;refine⟨l,.busy,none,fn,_,25,#[13],_,_,4,by show (P1 _++_)[_]?=_;rw[pg _ _ 5 (by omega),lD];rfl,?_⟩;show cz (6+M.length) ((P1 _++_).set _ _) _ k;rw[s5];refine jy (G:=[.cells (h.map iv) 80,.cells x.l 73,.cells (h.map iv) 80,.cells [iv deep] 3,.gone]) (Wk.refl _) rfl (by simp;omega) ?_ (.val _) dY;intro z hz;have h1:=pc (.cells (K.l 0) 85) (by simp);have hlen:∀(y:aa),([setH (axr (eV x deep) K (jN x deep h)).aQ,aa.cells ((axr (eV x deep) K (jN x deep h)).l 0) 85,.cells x.l 73,.cells [iv bw] 3,.obj (.deferred (some [])),y]++M).length=(setH K.aQ::aa.cells (K.l 0) 85::aa.cells x.l 73:: .cells [iv bw] 3:: .obj (.deferred (some []))::y::M).length:=λy=>rfl;rcases T1.1 hz with h'|h'
   ·simp only[Tm,T5,or_false]at h';rcases h' with rfl|rfl|rfl|rfl|rfl|rfl;trivial;exact zF (Il h1)
    all_goals exact pc _ (by simp)
   ·exact pc z (by simp[h'])
  ·cases he;exact Lx hx (λt ht=>by obtain⟨ns,h1,h2⟩:=PK ht;exact ha.2 ns h1 t h2) hK
 have hgo:bI (λK h=>dN.go ((jN x deep h).foldl (eV x deep) K)) (kV x bw) Kn.zero=.go (iz x deep bw):=by rw[Fu (g:=λK h=>(jN x deep h).foldl (eV x deep) K) (λ_ _=>rfl),iz,List.foldl_flatMap]
 refine Kq (by kernel_rfl) ?_;have e0:=vq Kn.zero;simp only[iv]at e0;rw[<- e0];refine K3 (lv:=lv) (x:=x) (bw:=bw) (N:=6) (ir:=2) (it:=3) (σ:=Kn.zero) hx hY (λK L=>by rw[vq];rfl) (λK L=>by rw[vq];rfl) gL (λn=>by simp[iw]) EP hA ?_;rw[hgo];simp only[gQ,Ts];refine⟨.ready,none,_,_,_,_,_,_,_,by rw[vq];rfl,by decide,?_⟩;rw[vq,IX];exact hΦ
open Go.Conc Go.Proofs
section
variable {P:Tl}
def Pu{Stop:S0}{d:Nat}{g g':Ti}{es:SO}(hr:g.status=.running)(hm:∀e∈es,Xr e=true)(h:∀w,stepG P false g w=.go g' w es)(hs:∃m,cZ P Stop m (deafBehind d es) g'):∃m,cZ P Stop m d g:=by obtain⟨m,hs⟩:=hs;exact⟨m+1,.inr ⟨hr,g',es,hm,h,hs⟩⟩
def Je{main:Bool}{g:Ti}{f:UR}{w:Us}{m:Mark}(hm:∀g,m≠ .extern g)(h:cH g=some (f,#[]))(he:Ext P f (λ_=>do axv m;pure Yi)):stepG P main g w=.go (fin g (.tuple #[])) w #[⟨.mark m,false,true⟩]:=by obtain⟨o,xs,mB,h1,h2,h3⟩:=cH.out h;obtain⟨b,a,ops,i,rest,kk,cs,e,q1,q2,q3,q4,q5,q6,_⟩:=ready.out h1;obtain⟨fn,f1,f2,f3,f4,f5⟩:=he.fn;rw[<- q4]at h3;rw[<- q5];refine Xm (congrArg (λx=>stepG P main x w) e) ?_;exact stepG_mark0 m hm q1 q2 q3 h2 f1 f2 f3 f4 f5
def aek{main:Bool}{g:Ti}{f:UR}{w:Us}{v:T9}{vs:SG}(h:cH g=some (f,vs))(he:Ext P f (λ_=>pure v)):stepG P main g w=.go (fin g v) w #[]:=by obtain⟨o,xs,mB,h1,h2,h3⟩:=cH.out h;obtain⟨b,a,ops,i,rest,kk,cs,e,q1,q2,q3,q4,q5,q6,_⟩:=ready.out h1;obtain⟨fn,f1,f2,f3,f4,f5⟩:=he.fn;rw[<- q5];refine Xm (congrArg (λx=>stepG P main x w) e) ?_;exact stepG_entry_pure v q1 q2 q3 h2 f1 f2 f3 f4 f5
def WgAt.st{Wg:Nat}{w:Us}{st sm:Int}(h:WgAt P Wg w st sm):w.cell? ⟨Wg,0,none⟩=some (.int .u64 st)/\w.cell? ⟨Wg,1,none⟩=some (.int .u32 sm)/\w.frozen? ⟨Wg,0,none⟩=false/\w.frozen? ⟨Wg,1,none⟩=false:=by unfold WgAt wgBlock at h;refine⟨?_,?_,?_,?_⟩<;>simp[VA,aw2,h]
def Oy{m:Mark}(hm:m=.disable\/m=.enable):∀e∈(#[⟨.mark m,false,true⟩]:SO),Xr e=true:=by intro e he;simp only[UN,Tm,T5,or_false]at he;subst he;rcases hm with rfl|rfl<;>rfl
end
set_option maxRecDepth 100000
def KP:Ext BI 135 (Xk .releaseMerge):=⟨⟨Tryz.f135,by kernel_rfl,by kernel_rfl,by kernel_rfl,by kernel_rfl,by kernel_rfl⟩⟩
def KQ:Ext BI 136 (λ_=>do axv .disable;pure Yi):=⟨⟨Tryz.f136,by kernel_rfl,by kernel_rfl,by kernel_rfl,by kernel_rfl,by kernel_rfl⟩⟩
def KR:Ext BI 137 (λ_=>do axv .enable;pure Yi):=⟨⟨Tryz.f137,by kernel_rfl,by kernel_rfl,by kernel_rfl,by kernel_rfl,by kernel_rfl⟩⟩
def GH:Ext BI 138 (λ_=>pure (.bool false)):=⟨⟨Tryz.f138,by kernel_rfl,by kernel_rfl,by kernel_rfl,by kernel_rfl,by kernel_rfl⟩⟩
def aiW:Ext BI 143 (Xk .read):=⟨⟨Tryz.f143,by kernel_rfl,by kernel_rfl,by kernel_rfl,by kernel_rfl,by kernel_rfl⟩⟩
def aiX:Ext BI 147 awW:=⟨⟨Tryz.f147,by kernel_rfl,by kernel_rfl,by kernel_rfl,by kernel_rfl,by kernel_rfl⟩⟩
def aiY:Ext BI 148 (Xk .acquire):=⟨⟨Tryz.f148,by kernel_rfl,by kernel_rfl,by kernel_rfl,by kernel_rfl,by kernel_rfl⟩⟩
def aiZ:Ext BI 151 (Xk .write):=⟨⟨Tryz.f151,by kernel_rfl,by kernel_rfl,by kernel_rfl,by kernel_rfl,by kernel_rfl⟩⟩
def RL:Ext BI 152 YG:=⟨⟨Tryz.f152,by kernel_rfl,by kernel_rfl,by kernel_rfl,by kernel_rfl,by kernel_rfl⟩⟩
def RM:Ext BI 158 (ah' (Op.intArith .add) .u64 true):=⟨⟨Tryz.f158,by kernel_rfl,by kernel_rfl,by kernel_rfl,by kernel_rfl,by kernel_rfl⟩⟩
def KS:Ext BI 159 (ai' (.int .u64)):=⟨⟨Tryz.f159,by kernel_rfl,by kernel_rfl,by kernel_rfl,by kernel_rfl,by kernel_rfl⟩⟩
def ai0:Ext BI 160 ai_:=⟨⟨Tryz.f160,by kernel_rfl,by kernel_rfl,by kernel_rfl,by kernel_rfl,by kernel_rfl⟩⟩
def RN:Ext BI 161 (YH (.int .u64)):=⟨⟨Tryz.f161,by kernel_rfl,by kernel_rfl,by kernel_rfl,by kernel_rfl,by kernel_rfl⟩⟩
def ae2:BI.underlying 192=some (.pointer 174):=by kernel_rfl
def Jn:BI.underlying 178=some .unsafePointer:=by kernel_rfl
def i182:(BI.info? 174).map (λi=>decide (i.size=0))=some false:=by kernel_rfl
noncomputable def ase:VM:={(default:VM)with fn:=205,defers:=[],mode:=.panicking [goexitEntry]}
noncomputable def asa (fn:UR)(tmps:SG)(todo:SZ):VM:={fn,tmps,todo,defers:=[],mode:=.returning,kind:=.deferred,roundOf:=none}
noncomputable def pW (Wg o:Nat):T9:=.pointer (some ⟨Wg,o,none⟩)
section
variable (Wg:Nat)(tmps:SG)(todo:SZ)
noncomputable def d0:Ti:=G (Frame.enter BI 121 #[pW Wg 0] .deferred) [asa 120 tmps todo,ase]
noncomputable def d14:Ti:=cQ BI false 14 (d0 Wg tmps todo)
noncomputable def d15:Ti:=fin (d14 Wg tmps todo) (pW Wg 0)
noncomputable def d16:Ti:=fin (d15 Wg tmps todo) (.tuple #[])
noncomputable def d19:Ti:=cQ BI false 3 (d16 Wg tmps todo)
noncomputable def d20:Ti:=fin (d19 Wg tmps todo) (.tuple #[])
noncomputable def d31:Ti:=cQ BI false 11 (d20 Wg tmps todo)
noncomputable def d32:Ti:=fin (d31 Wg tmps todo) (.bool false)
noncomputable def d54:Ti:=cQ BI false 22 (d32 Wg tmps todo)
noncomputable def d55 (s:Int):Ti:=fin (d54 Wg tmps todo) (.int .u64 s)
noncomputable def d158:Ti:=cQ BI false 103 (d55 Wg tmps todo 1)
noncomputable def d159:Ti:=fin (d158 Wg tmps todo) (.int .u64 1)
noncomputable def d179:Ti:=cQ BI false 20 (d159 Wg tmps todo)
noncomputable def d180:Ti:=fin (d179 Wg tmps todo) (.tuple #[])
noncomputable def Dk:Ti:=cQ BI false 27 (d180 Wg tmps todo)
noncomputable def AN:Ti:=fin (Dk Wg tmps todo) (.tuple #[])
set_option maxRecDepth 100000
variable (w:Us)
def x0:(gE BI false w 14 (d0 Wg tmps todo),pJ BI false 14 (d0 Wg tmps todo),bU (d14 Wg tmps todo),bU (d15 Wg tmps todo))=(gw BI false w 14 (d0 Wg tmps todo),true,true,true):=by kernel_rfl
def x14:p9 (d14 Wg tmps todo)=some (192,178,pW Wg 0):=by kernel_rfl
def x15:cH (d15 Wg tmps todo)=some (135,#[pW Wg 0]):=by kernel_rfl
def JA:(gE BI false w 3 (d16 Wg tmps todo),jp BI false 3 (d16 Wg tmps todo),bU (d19 Wg tmps todo),kg BI false 3 0 (d16 Wg tmps todo))=(gw BI false w 3 (d16 Wg tmps todo),true,true,0):=by kernel_rfl
def x19:cH (d19 Wg tmps todo)=some (136,#[]):=by kernel_rfl
def JC:(gE BI false w 11 (d20 Wg tmps todo),jp BI false 11 (d20 Wg tmps todo),bU (d31 Wg tmps todo),kg BI false 11 1 (d20 Wg tmps todo))=(gw BI false w 11 (d20 Wg tmps todo),true,true,1):=by kernel_rfl
def x31:cH (d31 Wg tmps todo)=some (138,#[]):=by kernel_rfl
def JE:(gE BI false w 22 (d32 Wg tmps todo),jp BI false 22 (d32 Wg tmps todo),bU (d54 Wg tmps todo),kg BI false 22 1 (d32 Wg tmps todo))=(gw BI false w 22 (d32 Wg tmps todo),true,true,1):=by kernel_rfl
def x54:cH (d54 Wg tmps todo)=some (158,#[pW Wg 0,.int .u64 18446744069414584320]):=by kernel_rfl
def q30:(gE BI false w 94 (d55 Wg tmps todo (3* 4294967296)),jp BI false 94 (d55 Wg tmps todo (3* 4294967296)),(cQ BI false 94 (d55 Wg tmps todo (3* 4294967296))).status,kg BI false 94 1 (d55 Wg tmps todo (3* 4294967296)))=(gw BI false w 94 (d55 Wg tmps todo (3* 4294967296)),true,.finished,0):=by kernel_rfl
def q31:(gE BI false w 94 (d55 Wg tmps todo (3* 4294967296+1)),jp BI false 94 (d55 Wg tmps todo (3* 4294967296+1)),(cQ BI false 94 (d55 Wg tmps todo (3* 4294967296+1))).status,kg BI false 94 1 (d55 Wg tmps todo (3* 4294967296+1)))=(gw BI false w 94 (d55 Wg tmps todo (3* 4294967296+1)),true,.finished,0):=by kernel_rfl
def q20:(gE BI false w 94 (d55 Wg tmps todo (2* 4294967296)),jp BI false 94 (d55 Wg tmps todo (2* 4294967296)),(cQ BI false 94 (d55 Wg tmps todo (2* 4294967296))).status,kg BI false 94 1 (d55 Wg tmps todo (2* 4294967296)))=(gw BI false w 94 (d55 Wg tmps todo (2* 4294967296)),true,.finished,0):=by kernel_rfl
def q21:(gE BI false w 94 (d55 Wg tmps todo (2* 4294967296+1)),jp BI false 94 (d55 Wg tmps todo (2* 4294967296+1)),(cQ BI false 94 (d55 Wg tmps todo (2* 4294967296+1))).status,kg BI false 94 1 (d55 Wg tmps todo (2* 4294967296+1)))=(gw BI false w 94 (d55 Wg tmps todo (2* 4294967296+1)),true,.finished,0):=by kernel_rfl
def q10:(gE BI false w 94 (d55 Wg tmps todo (1* 4294967296)),jp BI false 94 (d55 Wg tmps todo (1* 4294967296)),(cQ BI false 94 (d55 Wg tmps todo (1* 4294967296))).status,kg BI false 94 1 (d55 Wg tmps todo (1* 4294967296)))=(gw BI false w 94 (d55 Wg tmps todo (1* 4294967296)),true,.finished,0):=by kernel_rfl
def q11:(gE BI false w 94 (d55 Wg tmps todo (1* 4294967296+1)),jp BI false 94 (d55 Wg tmps todo (1* 4294967296+1)),(cQ BI false 94 (d55 Wg tmps todo (1* 4294967296+1))).status,kg BI false 94 1 (d55 Wg tmps todo (1* 4294967296+1)))=(gw BI false w 94 (d55 Wg tmps todo (1* 4294967296+1)),true,.finished,0):=by kernel_rfl
def q00:(gE BI false w 94 (d55 Wg tmps todo 0),jp BI false 94 (d55 Wg tmps todo 0),(cQ BI false 94 (d55 Wg tmps todo 0)).status,kg BI false 94 1 (d55 Wg tmps todo 0))=(gw BI false w 94 (d55 Wg tmps todo 0),true,.finished,0):=by kernel_rfl
def JF:(gE BI false w 103 (d55 Wg tmps todo 1),jp BI false 103 (d55 Wg tmps todo 1),bU (d158 Wg tmps todo),kg BI false 103 1 (d55 Wg tmps todo 1))=(gw BI false w 103 (d55 Wg tmps todo 1),true,true,1):=by kernel_rfl
def avf:cH (d158 Wg tmps todo)=some (159,#[pW Wg 0]):=by kernel_rfl
def Jz:(gE BI false w 20 (d159 Wg tmps todo),jp BI false 20 (d159 Wg tmps todo),bU (d179 Wg tmps todo),kg BI false 20 1 (d159 Wg tmps todo))=(gw BI false w 20 (d159 Wg tmps todo),true,true,1):=by kernel_rfl
def avg:cH (d179 Wg tmps todo)=some (160,#[pW Wg 0,.int .u64 0]):=by kernel_rfl
def JB:(gE BI false w 27 (d180 Wg tmps todo),jp BI false 27 (d180 Wg tmps todo),bU (Dk Wg tmps todo),kg BI false 27 1 (d180 Wg tmps todo))=(gw BI false w 27 (d180 Wg tmps todo),true,true,1):=by kernel_rfl
def avh:cH (Dk Wg tmps todo)=some (147,#[pW Wg 1,.bool false,.int .i64 0]):=by kernel_rfl
def JD:(gE BI false w 24 (AN Wg tmps todo),jp BI false 24 (AN Wg tmps todo),(cQ BI false 24 (AN Wg tmps todo)).status,kg BI false 24 1 (AN Wg tmps todo))=(gw BI false w 24 (AN Wg tmps todo),true,.finished,0):=by kernel_rfl
def xm:mayWake BI (Dk Wg tmps todo)=true:=by kernel_rfl
end
section
variable (Wg:Nat)(tmps:SG)(todo:SZ)
def ej{α β γ δ:Type}{a a':α}{b b':β}{c c':γ}{d d':δ}(h:(a,b,c,d)=(a',b',c',d')):a=a'/\b=b'/\c=c'/\d=d':=by simpa[VW]using h
def yB{s:Int}(h:∀w,(gE BI false w 94 (d55 Wg tmps todo s),jp BI false 94 (d55 Wg tmps todo s),(cQ BI false 94 (d55 Wg tmps todo s)).status,kg BI false 94 1 (d55 Wg tmps todo s))=(gw BI false w 94 (d55 Wg tmps todo s),true,.finished,0)):∃q,Y5 BI q 1 (d55 Wg tmps todo s):=
 I2 94 1 _ (λw=>(ej (h w)).1) (ej (h default)).2.1 (Pd (ej (h default)).2.2.1 (ej (h default)).2.2.2)
def aiI:FX BI Wg 1 (Dk Wg tmps todo):=by refine⟨rfl,bU.out (ej (JB Wg tmps todo default)).2.2.1,xm Wg tmps todo,AN Wg tmps todo,λw hw=> ?_,?_⟩;exact atv (n:=0) (avh Wg tmps todo) aiX hw.st.2.1 hw.st.2.2.2;exact I2 24 1 _ (λw=>(ej (JD Wg tmps todo w)).1) (ej (JD Wg tmps todo default)).2.1 (Pd (ej (JD Wg tmps todo default)).2.2.1 (ej (JD Wg tmps todo default)).2.2.2)
def aiJ:FY BI Wg 1 (d179 Wg tmps todo):=by refine⟨rfl,bU.out (ej (Jz Wg tmps todo default)).2.2.1,d180 Wg tmps todo,λw hw=> ?_,?_⟩;exact atx (avg Wg tmps todo) ai0 hw.st.1 hw.st.2.2.1;refine xV 27 1 _ (λw=>(ej (JB Wg tmps todo w)).1) (ej (JB Wg tmps todo default)).2.1 ?_;rw[(ej (JB Wg tmps todo default)).2.2.2];exact⟨0,aiI Wg tmps todo⟩
def aiH:FW BI Wg 1 (d158 Wg tmps todo):=by refine⟨rfl,bU.out (ej (JF Wg tmps todo default)).2.2.1,d159 Wg tmps todo,λw hw=> ?_,?_⟩;exact Py (avf Wg tmps todo) KS hw.st.1;refine xV 20 1 _ (λw=>(ej (Jz Wg tmps todo w)).1) (ej (Jz Wg tmps todo default)).2.1 ?_;rw[(ej (Jz Wg tmps todo default)).2.2.2];exact⟨0,aiJ Wg tmps todo⟩
def aiF:CF BI Wg 1 (d54 Wg tmps todo):=by
 refine⟨rfl,bU.out (ej (JE Wg tmps todo default)).2.2.1,λv wt vW hv=>⟨d55 Wg tmps todo ((v:Int)* KK+wt),λw hw=> ?_,λh=> ?_,λh=> ?_⟩⟩
 ·have e:UF.wrap ((((v+1:Nat):Int)* KK+wt)+18446744069414584320)=(v:Int)* KK+wt:=by have h1:UF.bits=64:=rfl;have h2:UF.signed=false:=rfl;unfold Ze KK;rw[h1,h2];simp;omega
  have:=aej (P:=BI) (main:=false) (w:=w) (x54 Wg tmps todo) RM hw.st.1 hw.st.2.2.1;rw[e]at this;exact this
 ·obtain⟨rfl,rfl⟩:=h;refine xV 103 1 _ (λw=>(ej (JF Wg tmps todo w)).1) (ej (JF Wg tmps todo default)).2.1 ?_;have e:=(ej (JF Wg tmps todo default)).2.2.2;exact⟨0,by rw[show (((0:Nat):Int)* KK+((1:Nat):Int))=1 from rfl,e];exact aiH Wg tmps todo⟩
 ·have hv4:v=0\/v=1\/v=2\/v=3:=by omega
  have f_:wt=0\/wt=1:=by omega
  rcases hv4 with rfl|rfl|rfl|rfl<;>rcases f_ with rfl|rfl;exact yB Wg tmps todo (q00 Wg tmps todo);exact absurd ⟨rfl,rfl⟩ h;exact yB Wg tmps todo (q10 Wg tmps todo);exact yB Wg tmps todo (q11 Wg tmps todo);exact yB Wg tmps todo (q20 Wg tmps todo);exact yB Wg tmps todo (q21 Wg tmps todo);exact yB Wg tmps todo (q30 Wg tmps todo);exact yB Wg tmps todo (q31 Wg tmps todo)
def aiG:F3 BI Wg (d15 Wg tmps todo):=by refine⟨bU.out (ej (x0 Wg tmps todo default)).2.2.2,d16 Wg tmps todo,λw=>Jf .releaseMerge (λ_ _ h=>by cases h) (x15 Wg tmps todo) KP,?_⟩;refine xV 3 0 _ (λw=>(ej (JA Wg tmps todo w)).1) (ej (JA Wg tmps todo default)).2.1 ?_;rw[(ej (JA Wg tmps todo default)).2.2.2];refine Pu (g:=d19 Wg tmps todo) (g':=d20 Wg tmps todo) (bU.out (ej (JA Wg tmps todo default)).2.2.1) (Oy (.inl rfl)) (λw=>Je (λ_ h=>by cases h) (x19 Wg tmps todo) KQ) ?_;refine xV 11 1 (d20 Wg tmps todo) (λw=>(ej (JC Wg tmps todo w)).1) (ej (JC Wg tmps todo default)).2.1 ?_;rw[(ej (JC Wg tmps todo default)).2.2.2];refine Pu (es:=#[]) (g:=d31 Wg tmps todo) (g':=d32 Wg tmps todo) (bU.out (ej (JC Wg tmps todo default)).2.2.1) (by simp) (λw=>aek (x31 Wg tmps todo) GH) ?_;refine xV 22 1 (d32 Wg tmps todo) (λw=>(ej (JE Wg tmps todo w)).1) (ej (JE Wg tmps todo default)).2.1 ?_;rw[(ej (JE Wg tmps todo default)).2.2.2];exact⟨0,aiF Wg tmps todo⟩
def aiK{J:SM}(C:Am BI false J){V:View}{c:Nat}(hr:V.role=.work c Wg [])(hd:V.deaf=0):J V (d0 Wg tmps todo):=by have C':Closed false BI false J:={C with more:=λh=>by cases h};have hx:=ej (x0 Wg tmps todo default);refine uz C' 14 _ (λw=>(ej (x0 Wg tmps todo w)).1) hx.2.1 ?_;refine C.slip V _ (d15 Wg tmps todo) c Wg hr (bU.out hx.2.2.1) (λw st hw hW=> ?_) (C.done V _ c Wg hr hd (aiG Wg tmps todo));exact Jg (x14 Wg tmps todo) ae2 Jn i182 hW.st.1
end
section
variable (Wg:Nat)(cs:SX)(main:Bool)
noncomputable def a0:Ti:=G (Frame.enter BI 119 #[pW Wg 0,.int .i64 1] .normal) cs
noncomputable def F_:Ti:=cQ BI main 12 (a0 Wg cs)
noncomputable def C0:Ti:=fin (F_ Wg cs main) (.tuple #[])
noncomputable def F':Ti:=cQ BI main 11 (C0 Wg cs main)
noncomputable def C2:Ti:=fin (F' Wg cs main) (.bool false)
noncomputable def Ga:Ti:=cQ BI main 22 (C2 Wg cs main)
noncomputable def nW (s:Int):Ti:=fin (Ga Wg cs main) (.int .u64 s)
noncomputable def nV (s:Int):Ti:=cQ BI main 87 (nW Wg cs main s)
noncomputable def J3:Ti:=cQ BI main 52 (nW Wg cs main 4294967296)
noncomputable def CY:Ti:=fin (J3 Wg cs main) (pW Wg 1)
noncomputable def CZ:Ti:=fin (CY Wg cs main) (.tuple #[])
noncomputable def C1:Ti:=cQ BI main 39 (CZ Wg cs main)
set_option maxRecDepth 100000
variable (w:Us)
def y0:(gE BI main w 12 (a0 Wg cs),pJ BI main 12 (a0 Wg cs),bU (F_ Wg cs main),cH (F_ Wg cs main))=(gw BI main w 12 (a0 Wg cs),true,true,some (136,#[])):=by kernel_rfl
def y13:(gE BI main w 11 (C0 Wg cs main),pJ BI main 11 (C0 Wg cs main),bU (F' Wg cs main),cH (F' Wg cs main))=(gw BI main w 11 (C0 Wg cs main),true,true,some (138,#[])):=by kernel_rfl
def y25:(gE BI main w 22 (C2 Wg cs main),pJ BI main 22 (C2 Wg cs main),bU (Ga Wg cs main),cH (Ga Wg cs main))=(gw BI main w 22 (C2 Wg cs main),true,true,some (158,#[pW Wg 0,.int .u64 4294967296])):=by kernel_rfl
noncomputable def zN (g:Ti):ayi×Wp×Nat×Yr×List Yn×Bool:=(.go (eU BI main g) w #[⟨.mark .enable,false,true⟩],(eU BI main g).frame.mode,(eU BI main g).frame.fn,(eU BI main g).frame.kind,(eU BI main g).frame.defers,bU (eU BI main g))
def PZ:(gE BI main w 87 (nW Wg cs main (2* 4294967296)),pJ BI main 87 (nW Wg cs main (2* 4294967296)),bU (nV Wg cs main (2* 4294967296)),zN main w (nV Wg cs main (2* 4294967296)))=(gw BI main w 87 (nW Wg cs main (2* 4294967296)),true,true,stepG BI main (nV Wg cs main (2* 4294967296)) w,.returning,119,.normal,[],true):=by kernel_rfl
def P2:(gE BI main w 87 (nW Wg cs main (3* 4294967296)),pJ BI main 87 (nW Wg cs main (3* 4294967296)),bU (nV Wg cs main (3* 4294967296)),zN main w (nV Wg cs main (3* 4294967296)))=(gw BI main w 87 (nW Wg cs main (3* 4294967296)),true,true,stepG BI main (nV Wg cs main (3* 4294967296)) w,.returning,119,.normal,[],true):=by kernel_rfl
def P3:(gE BI main w 87 (nW Wg cs main (4* 4294967296)),pJ BI main 87 (nW Wg cs main (4* 4294967296)),bU (nV Wg cs main (4* 4294967296)),zN main w (nV Wg cs main (4* 4294967296)))=(gw BI main w 87 (nW Wg cs main (4* 4294967296)),true,true,stepG BI main (nV Wg cs main (4* 4294967296)) w,.returning,119,.normal,[],true):=by kernel_rfl
def afk:(gE BI main w 52 (nW Wg cs main 4294967296),pJ BI main 52 (nW Wg cs main 4294967296),bU (J3 Wg cs main),p9 (J3 Wg cs main))=(gw BI main w 52 (nW Wg cs main 4294967296),true,true,some (198,178,pW Wg 1)):=by kernel_rfl
def avl:cH (CY Wg cs main)=some (143,#[pW Wg 1]):=by kernel_rfl
def PY:(gE BI main w 39 (CZ Wg cs main),pJ BI main 39 (CZ Wg cs main),bU (C1 Wg cs main),zN main w (C1 Wg cs main))=(gw BI main w 39 (CZ Wg cs main),true,true,stepG BI main (C1 Wg cs main) w,.returning,119,.normal,[],true):=by kernel_rfl
def yr1:bU (CY Wg cs main)=true:=by kernel_rfl
def Jo:∃t,BI.underlying 198=some (.pointer t)/\(BI.info? t).map (λi=>decide (i.size=0))=some false:=⟨172,by kernel_rfl,by kernel_rfl⟩
def aj4:∃fn,BI.funcs[119]?=some fn/\fn.results=#[]:=⟨Tryz.f119,by kernel_rfl,by kernel_rfl⟩
end
section
variable {P:Tl}{V:View}
def atF{w:Us}{b o:Nat}{v:T9}{c:SG}{el:TypeId}(hw:Sat V w)(ho:V.own b=some (.cells c el (0,0)))(cN:V.ah b o=none)(MD:V.role.chan≠some b):
  dl V w (V.upd b (.cells (c.setIfInBounds o v) el (0,0))) (w.setCell ⟨b,o,none⟩ v) #[⟨.cell ⟨b,o,none⟩,false,true⟩,⟨.cell ⟨b,o,none⟩,true,true⟩]:=by
 refine⟨hw.ae6 ho cN,rfl,rfl,rfl,by rw[FA];exact Tv _,λb' de e=>xi _ _ _ (λx=> ?_),λb' de e=> ?_,λ_ _ _ e=>e,λ_ _ _ e=> .inl e,λev cw=> ?_,by simp[deafBehind];rfl,rfl,λc' x bu e=>by rw[<- e];simp only[View.upd,ite_eq_right_iff];intro x';subst x';exact absurd bu MD,λev cw=> ?_⟩;have x':b=b':=x;subst x';rw[ho]at e;cases e
 ·have:b'≠b:=by intro x;subst x;rw[ho]at e;cases e
  simp only[View.upd,this,if_false];exact e
 ·simp only[UN,Tm,T5,or_false]at cw;rcases cw with rfl|rfl;exact⟨.inr (.inl (by show V.own b≠none;rw[ho];simp)),.inl rfl⟩;exact⟨.inr ⟨by show V.own b≠none;rw[ho];simp,cN⟩,.inl rfl⟩
 ·simp only[UN,Tm,T5,or_false]at cw;rcases cw with rfl|rfl<;>(show b<_;rw[FA];exact hw.lt ho)
def Closed.said{lv main:Bool}{J:SM}(C:Closed lv P main J){g g':Ti}{a:Wy}(hr:g.status=.running)(ha:V.own a.block≠none/\V.ah a.block a.off=none)(h:∀w,stepG P main g w=.go g' w #[⟨.mark (.read a),false,true⟩])(hJ:J V g'):J V g:=by
 refine C.step _ _ hr λw hw=> ?_;have hs:=asW (P:=P) (V:=V) (k:=(.pure ():Sem Unit)) (K:=λ_ V'=>V'=V) (Kp:=λ_ _=>False) (m:=.read a) (.inl rfl) ha (cj rfl);obtain⟨es,w',V',k1,k2,k3⟩:=hs.runs hw;rcases k3 with⟨x,k3,rfl⟩|⟨_,_,hx⟩
 ·have e1:af' () w=af' x w':=k3;have e2:es=#[⟨.mark (.read a),false,true⟩]:=k2.symm;cases e1;subst e2;refine⟨g',w,_,_,h w,?_,hJ⟩;rwa[uD (by simp)]at k1
 ·exact hx.elim
end
section
variable (Wg:Nat)(cs:SX)(main:Bool)
set_option maxRecDepth 100000
def yG2:eU BI main (nV Wg cs main (2* 4294967296))=G (eU BI main (nV Wg cs main (2* 4294967296))).frame cs:=by kernel_rfl
def yG3:eU BI main (nV Wg cs main (3* 4294967296))=G (eU BI main (nV Wg cs main (3* 4294967296))).frame cs:=by kernel_rfl
def yG4:eU BI main (nV Wg cs main (4* 4294967296))=G (eU BI main (nV Wg cs main (4* 4294967296))).frame cs:=by kernel_rfl
def yG1:eU BI main (C1 Wg cs main)=G (eU BI main (C1 Wg cs main)).frame cs:=by kernel_rfl
end
def lg{α β γ δ:Type}{a a':α}{b b':β}{c c':γ}{d d':δ}(h:(a,b,c,d)=(a',b',c',d')):a=a'/\b=b'/\c=c'/\d=d':=by simpa[VW]using h
section
variable {lv main:Bool}{J:SM}{V:View}{cs:SX}
def Gd(C:Closed lv BI main J){g:Ti}{U:View}(bQ:bU g=true)(h:∀w,(Go.Gg.zN main w g)=(stepG BI main g w,.returning,119,.normal,[],true))(hG:eU BI main g=G (eU BI main g).frame cs)
  (hU:U={V with deaf:=deafBehind V.deaf #[⟨.mark .enable,false,true⟩]}) (hJ:∀fr,Leaves BI fr 119 .normal (.ret (.tuple #[])) U->J U (G fr cs)):J V g:=by
 refine C.mute (.inr rfl) (bU.out bQ) (λw=> ?_) (g':=eU BI main g) ?_;have:=h w;simp only[Go.Gg.zN,VW]at this;exact this.1.symm;have:=h default;simp only[Go.Gg.zN,VW]at this;obtain⟨_,h1,h2,h3,h4,_⟩:=this;rw[hG,<- hU];refine hJ _ ⟨h2,h4,h3,?_⟩;obtain⟨fn,hf,hr⟩:=aj4;exact⟨fn,hf,h1,results_none hr⟩
def agt{n Wg:Nat}{sm:TypeId}(hn:n<4)(hW:V.own Wg=some (.cells #[.int .u64 ((n:Int)* KK),.int .u32 0] sm (0,0)))(hi:∀o,V.ah Wg o=none)(hc:V.role.chan≠some Wg)(hd:V.deaf=0):
  Body lv BI 119 #[pW Wg 0,.int .i64 1] .normal V (λo V'=>o=.ret (.tuple #[])/\V'=V.upd Wg (.cells #[.int .u64 (((n+1:Nat):Int)* KK),.int .u32 0] sm (0,0))):=by
 intro main J C cs hJ;have hA:=lg (y0 Wg cs main default);show J V (a0 Wg cs);refine uz C 12 _ (λw=>(lg (y0 Wg cs main w)).1) hA.2.1 ?_;refine C.mute (g:=F_ Wg cs main) (g':=C0 Wg cs main) (.inl rfl) (bU.out hA.2.2.1) (λw=>Je (λ_ h=>by cases h) hA.2.2.2 KQ) ?_;have hB:=lg (y13 Wg cs main default);refine uz C 11 _ (λw=>(lg (y13 Wg cs main w)).1) hB.2.1 ?_;refine C.idle (g:=F' Wg cs main) (g':=C2 Wg cs main) (bU.out hB.2.2.1) (λw=>aek hB.2.2.2 GH) ?_;have hC:=lg (y25 Wg cs main default);refine uz C 22 _ (λw=>(lg (y25 Wg cs main w)).1) hC.2.1 ?_;let V1:View:={V with deaf:=deafBehind V.deaf #[⟨.mark .disable,false,true⟩]};let V2:View:=V1.upd Wg (.cells #[.int .u64 (((n+1:Nat):Int)* KK),.int .u32 0] sm (0,0));have Bb:{V2 with deaf:=deafBehind V2.deaf #[⟨.mark .enable,false,true⟩]}=V.upd Wg (.cells #[.int .u64 (((n+1:Nat):Int)* KK),.int .u32 0] sm (0,0)):=by obtain⟨i,o,d,r⟩:=V;have:d=0:=hd;subst this;rfl
 show J V1 (Ga Wg cs main);refine C.step _ _ (bU.out hC.2.2.1) λw hw=> ?_;have hh:=hw.own Wg _ hW;have cV:w.cell? ⟨Wg,0,none⟩=some (.int .u64 ((n:Int)* KK)):=by simp[VA,hh]
 have H_:w.frozen? ⟨Wg,0,none⟩=false:=by simp[aw2,hh]
 have hs:=aej (P:=BI) (main:=main) (w:=w) hC.2.2.2 RM cV H_;have e:UF.wrap (((n:Int)* KK)+4294967296)=((n+1:Nat):Int)* KK:=by have h1:UF.bits=64:=rfl;have h2:UF.signed=false:=rfl;unfold Ze KK;rw[h1,h2];simp;omega
 rw[e]at hs;refine⟨nW Wg cs main (((n+1:Nat):Int)* KK),_,_,V2,hs,?_,?_⟩;exact atF (V:=V1) hw hW (hi 0) hc;have Ek:n=0\/n=1\/n=2\/n=3:=by omega
 rcases Ek with rfl|rfl|rfl|rfl
 ·have hD:=lg (afk Wg cs main default);refine uz C 52 _ (λw=>(lg (afk Wg cs main w)).1) hD.2.1 ?_;obtain⟨t,Nv,zu⟩:=Jo;have hW2:V2.own Wg=some (.cells #[.int .u64 (((0+1:Nat):Int)* KK),.int .u32 0] sm (0,0)):=by simp[V2,View.upd]
  refine C.step _ _ (bU.out hD.2.2.1) λw hw=>⟨CY Wg cs main,w,#[],V2,?_,.idle hw,?_⟩
  ·have hh:=hw.own Wg _ hW2;exact Jg hD.2.2.2 Nv Jn zu (v:=.int .u32 0) (by simp[VA,hh])
  refine C.said (g:=CY Wg cs main) (g':=CZ Wg cs main) (a:=⟨Wg,1,none⟩) (bU.out (yr1 Wg cs main)) ⟨by show V2.own Wg≠none;rw[hW2];simp,hi 1⟩ (λw=>Jf .read (λ_ _ h=>by cases h) (avl Wg cs main) aiW) ?_;have hE:=lg (PY Wg cs main default);refine uz C 39 _ (λw=>(lg (PY Wg cs main w)).1) hE.2.1 ?_;exact Gd C hE.2.2.1 (λw=>(lg (PY Wg cs main w)).2.2.2) (yG1 Wg cs main) Bb.symm λfr hl=>hJ _ _ fr ⟨rfl,rfl⟩ hl
 ·have hE:=lg (PZ Wg cs main default);refine uz C 87 _ (λw=>(lg (PZ Wg cs main w)).1) hE.2.1 ?_;exact Gd C hE.2.2.1 (λw=>(lg (PZ Wg cs main w)).2.2.2) (yG2 Wg cs main) Bb.symm λfr hl=>hJ _ _ fr ⟨rfl,rfl⟩ hl
 ·have hE:=lg (P2 Wg cs main default);refine uz C 87 _ (λw=>(lg (P2 Wg cs main w)).1) hE.2.1 ?_;exact Gd C hE.2.2.1 (λw=>(lg (P2 Wg cs main w)).2.2.2) (yG3 Wg cs main) Bb.symm λfr hl=>hJ _ _ fr ⟨rfl,rfl⟩ hl
 ·have hE:=lg (P3 Wg cs main default);refine uz C 87 _ (λw=>(lg (P3 Wg cs main w)).1) hE.2.1 ?_;exact Gd C hE.2.2.1 (λw=>(lg (P3 Wg cs main w)).2.2.2) (yG4 Wg cs main) Bb.symm λfr hl=>hJ _ _ fr ⟨rfl,rfl⟩ hl
end
section
variable {P:Tl}{main:Bool}{g:Ti}{w:Us}
def wa (g:Ti):Option (TypeId×T9):=match ready g with
 |some {op:=.load t x, .. }=>some (t,g.frame.eval x)
 |_=>none
def att{t:TypeId}{d:TypeDesc}{ad:Wy}{v:T9}(h:wa g=some (t,.pointer (some ad)))(ht:P.underlying t=some d)(hd:TypeDesc.agg d=false)(hq:(P.funcs[g.frame.fn]?).any (·.norace)=false)(hc:w.cell? ad=some v):
  stepG P main g w=.go (fin g v) w #[⟨.cell ad,false,false⟩]:=by
 obtain⟨o,x,h1,h2,h3⟩:∃o x,ready g=some o/\o.op=.load t x/\g.frame.eval x=.pointer (some ad):=by unfold wa at h;split at h;rename_i s x _ _ _ _ ho;simp only[Ul,VW]at h;obtain⟨rfl,h⟩:=h;exact⟨_,x,ho,rfl,h⟩;cases h
 obtain⟨b,a,ops,i,rest,kk,cs,e,q1,q2,q3,q4,q5,q6,_⟩:=ready.out h1;rw[<- q4]at h3;rw[<- q5];refine Xm (congrArg (λx=>stepG P main x w) e) ?_;have e1:execOp a.eval o=(do let v<- X_ t (.pointer (some ad));pure (.value v)):=by unfold execOp;simp only[h2,h3]
 have e2:(isAgg t:Sem Bool).run P w=.ok false w/\∀es,(isAgg t:Sem Bool).events P w es=es:=by
  unfold isAgg Go.underlying;cases d<;>first
   |(exact(Bool.noConfusion hd))
   |(constructor<;>simp[go_sem,ht])
 have hr:(execOp a.eval o).run P w=.ok (.value v) w:=by rw[e1];simp[X_,Wh,loadVar,e2.1,hc]
 have cw:(execOp a.eval o).events P w #[]=#[⟨.cell ad,false,false⟩]:=by rw[e1];simp[X_,Wh,loadVar,e2.1,e2.2,hc]
 rw[stepG_value q1 q2 q3 hr];unfold listed;rw[cw,seen_eq (by rw[q6];exact hq) (by intro e he f;simp only[UN,Tm,T5,or_false]at he;rw[he];simp)]
def yy (g:Ti):Option T9:=match ready g with
 |some {op:=.call {callee:=.builtin .close,args, .. }, .. }=>match args.toList with
  |[x]=>some (g.frame.eval x)
  |_=>none
 |_=>none
def atr{c cap s r:Nat}{Gt:SG}{tm:Bool}(h:yy g=some (.chan (some c)))(hq:(P.funcs[g.frame.fn]?).any (·.norace)=false)(hc:w.heap[c]?=some (.chan cap Gt false s r tm)):
  stepG P main g w=.go (fin g (.tuple #[])) {w with heap:=w.heap.setIfInBounds c (.chan cap Gt true s r tm)} #[⟨.obj c,false,true⟩,⟨.obj c,true,true⟩]:=by
 obtain⟨o,x,mB,h1,h2,h3⟩:∃o x mB,ready g=some o/\o.op=.call {callee:=.builtin .close,args:=#[x],argTypes:=mB}/\g.frame.eval x=.chan (some c):=by unfold yy at h;split at h;rename_i dst xs mB ty pos af gd ho;split at h;rename_i x hx;have:xs=#[x]:=(by apply Wz;simpa using hx);subst this;exact⟨_,x,_,ho,rfl,by simpa using h⟩;cases h;cases h
 obtain⟨b,a,ops,i,rest,kk,cs,e,q1,q2,q3,q4,q5,q6,_⟩:=ready.out h1;rw[<- q4]at h3;rw[<- q5];refine Xm (congrArg (λx=>stepG P main x w) e) ?_;exact stepG_close q1 q2 q3 h2 h3 hc (by rw[q6];exact hq)
end
section
variable (Wg fc c:Nat)
noncomputable def e0:Ti:=born BI ⟨.fn (.func 123) #[pW Wg 0,pW fc 0],#[]⟩
noncomputable def e7:Ti:=cQ BI false 7 (e0 Wg fc)
noncomputable def e8:Ti:=fin (e7 Wg fc) (.tuple #[])
noncomputable def e27:Ti:=cQ BI false 19 (e8 Wg fc)
noncomputable def f76 (h:Ti)(v:Int):Ti:=cQ BI false 48 (fin h (.int .u64 v))
noncomputable def Oo (b:Ti):Ti:=cQ BI false 25 (fin b (.bool false))
noncomputable def f96 (b:Ti):Ti:=cQ BI false 19 (fin b (.bool true))
noncomputable def f97 (b:Ti):Ti:=fin (f96 b) (pW Wg 1)
noncomputable def f121 (b:Ti):Ti:=cQ BI false 23 (fin (f97 Wg b) (.tuple #[]))
noncomputable def f138 (b:Ti):Ti:=cQ BI false 16 (fin (f121 Wg b) (.tuple #[]))
noncomputable def f150 (b:Ti):Ti:=cQ BI false 11 (fin (f138 Wg b) (.int .u64 0))
noncomputable def f154 (b:Ti):Ti:=cQ BI false 3 (fin (f150 Wg b) (.tuple #[]))
noncomputable def f155 (b:Ti):Ti:=fin (f154 Wg b) (pW Wg 0)
noncomputable def f168 (b:Ti):Ti:=cQ BI false 12 (fin (f155 Wg b) (.tuple #[]))
noncomputable def f169 (b:Ti):Ti:=fin (f168 Wg b) (.chan (some c))
noncomputable def f170 (b:Ti):Ti:=fin (f169 Wg c b) (.tuple #[])
noncomputable def Al (h:Ti):Ti:=cQ BI false 31 (fin h (.int .u64 0))
noncomputable def P4 (h:Ti):Ti:=cQ BI false 3 (fin (Al h) (.tuple #[]))
noncomputable def wA (h:Ti):Ti:=fin (P4 h) (pW Wg 0)
noncomputable def FO (h:Ti):Ti:=cQ BI false 22 (fin (wA Wg h) (.tuple #[]))
noncomputable def wB (h:Ti):Ti:=fin (FO Wg h) (.chan (some c))
noncomputable def JH (h:Ti):Ti:=fin (wB Wg c h) (.tuple #[])
noncomputable def hd:SD->Ti
 |[]=>e27 Wg fc
 |v::l=>Oo (f76 (hd l) v)
noncomputable def bd (l:SD)(v:Int):Ti:=f76 (hd Wg fc l) v
noncomputable def fU (w:Us)(n d:Nat)(g:Ti):List ayi×Bool×Bool×Nat:=(gE BI false w n g,jp BI false n g,bU (cQ BI false n g),kg BI false n d g)
noncomputable def fS (w:Us)(n d:Nat)(g:Ti):List ayi×Bool×Bool×Nat:=(gw BI false w n g,true,true,d)
noncomputable def AZ (w:Us)(n:Nat)(g:Ti):List ayi×Bool×GoStatus×Nat:=(gE BI false w n g,jp BI false n g,(cQ BI false n g).status,kg BI false n 0 g)
noncomputable def AY (w:Us)(n:Nat)(g:Ti):List ayi×Bool×GoStatus×Nat:=(gw BI false w n g,true,.finished,0)
noncomputable def rP (g:Ti):Bool:= !(BI.funcs[g.frame.fn]?).any (·.norace)
noncomputable def zT (w:Us)(h:Ti):=(cH h,bU h,fU w 31 1 (fin h (.int .u64 0)),cH (Al h),fU w 3 0 (fin (Al h) (.tuple #[])),p9 (P4 h),cH (wA Wg h),bU (wA Wg h),fU w 22 0 (fin (wA Wg h) (.tuple #[])),wa (FO Wg h),rP (FO Wg h),yy (wB Wg c h),rP (wB Wg c h),bU (wB Wg c h),mayWake BI (wB Wg c h),AZ w 4 (JH Wg c h))
noncomputable def zR (w:Us)(h:Ti):=(some ((159:UR),#[pW Wg 0]),true,fS w 31 1 (fin h (.int .u64 0)),some ((137:UR),(#[]:SG)),fS w 3 0 (fin (Al h) (.tuple #[])),some ((192:TypeId),(178:TypeId),pW Wg 0),some ((148:UR),#[pW Wg 0]),true,fS w 22 0 (fin (wA Wg h) (.tuple #[])),some ((166:TypeId),pW fc 0),true,some (Y7 (some c)),true,true,true,AY w 4 (JH Wg c h))
noncomputable def fT (w:Us)(b:Ti):=(cH b,bU b,fU w 25 1 (fin b (.bool false)),fU w 19 1 (fin b (.bool true)),p9 (f96 b),cH (f97 Wg b),bU (f97 Wg b),fU w 23 1 (fin (f97 Wg b) (.tuple #[])),cH (f121 Wg b),(f121 Wg b).offers,fU w 16 1 (fin (f121 Wg b) (.tuple #[])),cH (f138 Wg b),fU w 11 1 (fin (f138 Wg b) (.int .u64 0)),cH (f150 Wg b),fU w 3 0 (fin (f150 Wg b) (.tuple #[])),p9 (f154 Wg b),cH (f155 Wg b),bU (f155 Wg b),fU w 12 0 (fin (f155 Wg b) (.tuple #[])),wa (f168 Wg b),rP (f168 Wg b),yy (f169 Wg c b),rP (f169 Wg c b),bU (f169 Wg c b),mayWake BI (f169 Wg c b),AZ w 4 (f170 Wg c b))
noncomputable def fR (w:Us)(b:Ti)(v:Int):=(some ((161:UR),#[pW Wg 0,.int .u64 v,.int .u64 (v+1)]),true,fS w 25 1 (fin b (.bool false)),fS w 19 1 (fin b (.bool true)),some ((198:TypeId),(178:TypeId),pW Wg 1),some ((151:UR),#[pW Wg 1]),true,fS w 23 1 (fin (f97 Wg b) (.tuple #[])),some ((152:UR),#[pW Wg 1,.bool false]),(none:Option (Array CommCase×CommShape)),fS w 16 1 (fin (f121 Wg b) (.tuple #[])),some ((159:UR),#[pW Wg 0]),fS w 11 1 (fin (f138 Wg b) (.int .u64 0)),some ((137:UR),(#[]:SG)),fS w 3 0 (fin (f150 Wg b) (.tuple #[])),some ((192:TypeId),(178:TypeId),pW Wg 0),some ((148:UR),#[pW Wg 0]),true,fS w 12 0 (fin (f155 Wg b) (.tuple #[])),some ((166:TypeId),pW fc 0),true,some (Y7 (some c)),true,true,true,AY w 4 (f170 Wg c b))
set_option maxRecDepth 100000
def c0(w:Us):(fU w 7 0 (e0 Wg fc),cH (e7 Wg fc),fU w 19 1 (e8 Wg fc))=(fS w 7 0 (e0 Wg fc),some ((136:UR),(#[]:SG)),fS w 19 1 (e8 Wg fc)):=by kernel_rfl
noncomputable def pT (w:Us)(l:SD)(v:Int):=(fU w 48 1 (fin (hd Wg fc l) (.int .u64 v)),fT Wg c w (bd Wg fc l v),zT Wg c w (hd Wg fc (v::l)))
noncomputable def pR (w:Us)(l:SD)(v:Int):=(fS w 48 1 (fin (hd Wg fc l) (.int .u64 v)),fR Wg fc c w (bd Wg fc l v) v,zR Wg fc c w (hd Wg fc (v::l)))
def zz(w:Us):zT Wg c w (hd Wg fc [])=zR Wg fc c w (hd Wg fc []):=by kernel_rfl
def O9(w:Us):pT Wg fc c w [] (4* 4294967296)=pR Wg fc c w [] (4* 4294967296):=by kernel_rfl
def O8(w:Us):pT Wg fc c w [4* 4294967296] (3* 4294967296)=pR Wg fc c w [4* 4294967296] (3* 4294967296):=by kernel_rfl
def O5(w:Us):pT Wg fc c w [3* 4294967296,4* 4294967296] (2* 4294967296)=pR Wg fc c w [3* 4294967296,4* 4294967296] (2* 4294967296):=by kernel_rfl
def OY(w:Us):pT Wg fc c w [2* 4294967296,3* 4294967296,4* 4294967296] (1* 4294967296)=pR Wg fc c w [2* 4294967296,3* 4294967296,4* 4294967296] (1* 4294967296):=by kernel_rfl
def O1(w:Us):pT Wg fc c w [3* 4294967296,4* 4294967296] (1* 4294967296)=pR Wg fc c w [3* 4294967296,4* 4294967296] (1* 4294967296):=by kernel_rfl
def O6(w:Us):pT Wg fc c w [4* 4294967296] (2* 4294967296)=pR Wg fc c w [4* 4294967296] (2* 4294967296):=by kernel_rfl
def OZ(w:Us):pT Wg fc c w [2* 4294967296,4* 4294967296] (1* 4294967296)=pR Wg fc c w [2* 4294967296,4* 4294967296] (1* 4294967296):=by kernel_rfl
def O2(w:Us):pT Wg fc c w [4* 4294967296] (1* 4294967296)=pR Wg fc c w [4* 4294967296] (1* 4294967296):=by kernel_rfl
def O7(w:Us):pT Wg fc c w [] (3* 4294967296)=pR Wg fc c w [] (3* 4294967296):=by kernel_rfl
def O4(w:Us):pT Wg fc c w [3* 4294967296] (2* 4294967296)=pR Wg fc c w [3* 4294967296] (2* 4294967296):=by kernel_rfl
def OX(w:Us):pT Wg fc c w [2* 4294967296,3* 4294967296] (1* 4294967296)=pR Wg fc c w [2* 4294967296,3* 4294967296] (1* 4294967296):=by kernel_rfl
def O0(w:Us):pT Wg fc c w [3* 4294967296] (1* 4294967296)=pR Wg fc c w [3* 4294967296] (1* 4294967296):=by kernel_rfl
def O3(w:Us):pT Wg fc c w [] (2* 4294967296)=pR Wg fc c w [] (2* 4294967296):=by kernel_rfl
def OW(w:Us):pT Wg fc c w [2* 4294967296] (1* 4294967296)=pR Wg fc c w [2* 4294967296] (1* 4294967296):=by kernel_rfl
def OV(w:Us):pT Wg fc c w [] (1* 4294967296)=pR Wg fc c w [] (1* 4294967296):=by kernel_rfl
end
section
variable {P:Tl}{Wg:Nat}{Stop:S0}
def RU{n d d':Nat}{g:Ti}(h:∀w,fU w n d g=fS w n d' g):(∀w,gE BI false w n g=gw BI false w n g)/\jp BI false n g=true/\bU (cQ BI false n g)=true/\kg BI false n d g=d':=
 ⟨λw=>(ej (h w)).1,(ej (h default)).2.1,(ej (h default)).2.2.1,(ej (h default)).2.2.2⟩
def yG{n d d':Nat}{g:Ti}(h:∀w,fU w n d g=fS w n d' g)(hs:∃m,cZ BI Stop m d' (cQ BI false n g)):∃m,cZ BI Stop m d g:=by obtain⟨h1,h2,_,h4⟩:=RU h;exact xV n d g h1 h2 (by rw[h4];exact hs)
def K0{n d d':Nat}{g:Ti}(h:∀w,fU w n d g=fS w n d' g)(hs:∃m,iJ BI Wg Stop m d' (cQ BI false n g)):∃m,iJ BI Wg Stop m d g:=by obtain⟨h1,h2,_,h4⟩:=RU h;exact aef n d g h1 h2 (by rw[h4];exact hs)
def ajo{n:Nat}{g:Ti}(h:∀w,AZ w n g=AY w n g):∃q,Y5 BI q 0 g:=
 I2 n 0 g (λw=>(ej (h w)).1) (ej (h default)).2.1 (Pd (ej (h default)).2.2.1 (ej (h default)).2.2.2)
def atc{d:Nat}{g g':Ti}{es:SO}(hr:g.status=.running)(hm:∀e∈es,Xr e=true)(h:∀w,stepG P false g w=.go g' w es)(hs:∃m,iJ P Wg Stop m (deafBehind d es) g'):∃m,iJ P Wg Stop m d g:=by obtain⟨m,gK⟩:=hs;exact⟨m+1,.inr ⟨hr,g',es,hm,λw _ _ _=>h w,gK⟩⟩
end
set_option maxRecDepth 100000
def t173:(BI.underlying 166).map TypeDesc.agg=some false:=by kernel_rfl
def Ph{g:Ti}{o:Vp}(h:ready g=some o):bU g=true:=by obtain⟨_,_,_,_,_,_,_,_,_,_,_,_,_,_,hr⟩:=ready.out h;unfold bU;rw[hr]
def AI{g:Ti}{f:UR}{vs:SG}(h:cH g=some (f,vs)):bU g=true:=by obtain⟨_,_,_,h1,_,_⟩:=cH.out h;exact Ph h1
def Rh{g:Ti}{s d:TypeId}{v:T9}(h:p9 g=some (s,d,v)):bU g=true:=by unfold p9 at h;split at h;rename_i ho;exact Ph ho;cases h
def ape{g:Ti}{t:TypeId}{v:T9}(h:wa g=some (t,v)):bU g=true:=by unfold wa at h;split at h;rename_i ho;exact Ph ho;cases h
section
variable {Wg fc c:Nat}{Im:cC}
def Qm{n:Nat}{g:Ti}(hi:Im fc 0=some (.chan (some c)))(h1:cH g=some (148,#[pW Wg 0]))(h3:∀w,fU w n 0 (fin g (.tuple #[]))=fS w n 0 (fin g (.tuple #[])))
  (h4:wa (cQ BI false n (fin g (.tuple #[])))=some (166,pW fc 0)) (h5:rP (cQ BI false n (fin g (.tuple #[])))=true)
  (h6:yy (fin (cQ BI false n (fin g (.tuple #[]))) (.chan (some c)))=some (.chan (some c))) (h7:rP (fin (cQ BI false n (fin g (.tuple #[]))) (.chan (some c)))=true) (h8:bU (fin (cQ BI false n (fin g (.tuple #[]))) (.chan (some c)))=true)
  (h9:mayWake BI (fin (cQ BI false n (fin g (.tuple #[]))) (.chan (some c)))=true) (h10:∀w,AZ w 4 (fin (fin (cQ BI false n (fin g (.tuple #[]))) (.chan (some c))) (.tuple #[]))=AY w 4 (fin (fin (cQ BI false n (fin g (.tuple #[]))) (.chan (some c))) (.tuple #[]))):uT BI Im c Wg 0 g:=by
 refine⟨rfl,bU.out (AI h1),_,λw=>Jf .acquire (λ_ _ h=>by cases h) h1 aiY,?_⟩;refine yG h3 ⟨0,rfl,bU.out (ape h4),fc,0,_,_,hi,λw hc=> ?_,0,rfl,bU.out h8,h9,_,λw s hw=> ?_,ajo h10⟩;obtain⟨d,bi,dB⟩:=Uu.1 t173;exact att h4 bi dB (by simpa[rP]using h5) hc;exact atr h6 (by simpa[rP]using h7) hw
def aci{n1 n2:Nat}{g:Ti}(h1:∀w,fU w n1 1 g=fS w n1 1 g)(h2:cH (cQ BI false n1 g)=some (137,#[]))(h3:∀w,fU w n2 0 (fin (cQ BI false n1 g) (.tuple #[]))=fS w n2 0 (fin (cQ BI false n1 g) (.tuple #[])))
  (h4:p9 (cQ BI false n2 (fin (cQ BI false n1 g) (.tuple #[])))=some (192,178,pW Wg 0)) (h5:uT BI Im c Wg 0 (fin (cQ BI false n2 (fin (cQ BI false n1 g) (.tuple #[]))) (pW Wg 0))):∃n,iJ BI Wg (uT BI Im c Wg) n 1 g:=by
 refine K0 h1 ?_;refine atc (bU.out (AI h2)) (Oy (.inr rfl)) (λw=>Je (λ_ h=>by cases h) h2 KR) ?_;refine K0 (d:=deafBehind 1 #[⟨.mark .enable,false,true⟩]) h3 ?_;exact aeg (bU.out (Rh h4)) (λw x y hW=>Jg h4 ae2 Jn i182 hW.st.1) ⟨0,h5⟩
def avp{h:Ti}(hi:Im fc 0=some (.chan (some c)))(H:∀w,zT Wg c w h=zR Wg fc c w h):cH h=some (159,#[pW Wg 0])/\∃n,iJ BI Wg (uT BI Im c Wg) n 1 (fin h (.int .u64 0)):=by
 have key:∀w,cH h=some ((159:UR),#[pW Wg 0])/\bU h=true/\fU w 31 1 (fin h (.int .u64 0))=fS w 31 1 (fin h (.int .u64 0))/\cH (Al h)=some ((137:UR),(#[]:SG))/\fU w 3 0 (fin (Al h) (.tuple #[]))=fS w 3 0 (fin (Al h) (.tuple #[]))/\p9 (P4 h)=some ((192:TypeId),(178:TypeId),pW Wg 0)/\cH (wA Wg h)=some ((148:UR),#[pW Wg 0])/\bU (wA Wg h)=true/\fU w 22 0 (fin (wA Wg h) (.tuple #[]))=fS w 22 0 (fin (wA Wg h) (.tuple #[]))/\wa (FO Wg h)=some ((166:TypeId),pW fc 0)/\rP (FO Wg h)=true/\yy (wB Wg c h)=some (Y7 (some c))/\rP (wB Wg c h)=true/\bU (wB Wg c h)=true/\mayWake BI (wB Wg c h)=true/\AZ w 4 (JH Wg c h)=AY w 4 (JH Wg c h):=λw=>by have:=H w;unfold zT zR at this;simpa only[VW]using this
 obtain⟨k1,k2,_,k4,_,k6,k7,k8,_,EN,NY,BS,NZ,EO,N0,_⟩:=key default;refine⟨k1,aci (n1:=31) (n2:=3) (λw=>(key w).2.2.1) k4 (λw=>(key w).2.2.2.2.1) k6 ?_⟩;exact Qm (n:=22) hi k7 (λw=>(key w).2.2.2.2.2.2.2.2.1) EN NY BS NZ EO N0 (λw=>(key w).2.2.2.2.2.2.2.2.2.2.2.2.2.2.2)
def ah8{b:Ti}{v:Nat}(hv:0<v)(hi:Im fc 0=some (.chan (some c)))(H:∀w,fT Wg c w b=fR Wg fc c w b ((v:Int)* 4294967296))(hm:∃n,cZ BI (eY BI Im c Wg v) n 1 (Oo b)):FT BI c Wg Im v 1 b:=by
 have key:∀w,cH b=some ((161:UR),#[pW Wg 0,.int .u64 ((v:Int)* 4294967296),.int .u64 ((v:Int)* 4294967296+1)])/\bU b=true/\fU w 25 1 (fin b (.bool false))=fS w 25 1 (fin b (.bool false))/\fU w 19 1 (fin b (.bool true))=fS w 19 1 (fin b (.bool true))/\p9 (f96 b)=some ((198:TypeId),(178:TypeId),pW Wg 1)/\cH (f97 Wg b)=some ((151:UR),#[pW Wg 1])/\bU (f97 Wg b)=true/\fU w 23 1 (fin (f97 Wg b) (.tuple #[]))=fS w 23 1 (fin (f97 Wg b) (.tuple #[]))/\cH (f121 Wg b)=some ((152:UR),#[pW Wg 1,.bool false])/\(f121 Wg b).offers=none/\fU w 16 1 (fin (f121 Wg b) (.tuple #[]))=fS w 16 1 (fin (f121 Wg b) (.tuple #[]))/\cH (f138 Wg b)=some ((159:UR),#[pW Wg 0])/\fU w 11 1 (fin (f138 Wg b) (.int .u64 0))=fS w 11 1 (fin (f138 Wg b) (.int .u64 0))/\cH (f150 Wg b)=some ((137:UR),(#[]:SG))/\fU w 3 0 (fin (f150 Wg b) (.tuple #[]))=fS w 3 0 (fin (f150 Wg b) (.tuple #[]))/\p9 (f154 Wg b)=some ((192:TypeId),(178:TypeId),pW Wg 0)/\cH (f155 Wg b)=some ((148:UR),#[pW Wg 0])/\bU (f155 Wg b)=true/\fU w 12 0 (fin (f155 Wg b) (.tuple #[]))=fS w 12 0 (fin (f155 Wg b) (.tuple #[]))/\wa (f168 Wg b)=some ((166:TypeId),pW fc 0)/\rP (f168 Wg b)=true/\yy (f169 Wg c b)=some (Y7 (some c))/\rP (f169 Wg c b)=true/\bU (f169 Wg c b)=true/\mayWake BI (f169 Wg c b)=true/\AZ w 4 (f170 Wg c b)=AY w 4 (f170 Wg c b):=λw=>by have:=H w;unfold fT fR at this;simpa only[VW]using this
 obtain⟨k1,k2,_,_,k5,k6,k7,_,k9,EN,_,BS,_,EO,_,N1,N2,k18,_,N3,N4,N5,N6,N7,N8,_⟩:=key default;refine⟨rfl,bU.out k2,⟨_,λw hW=>atp k1 RN hW.st.1 hW.st.2.2.1,?_⟩,λu hu=>⟨_,λw hW=>atq k1 RN hW.st.1 hW.st.2.2.1 (λe=> ?_),?_⟩⟩;refine K0 (λw=>(key w).2.2.2.1) ?_;have hs:BI.underlying 198=some (.pointer (Jo.choose))/\(BI.info? Jo.choose).map (λi=>decide (i.size=0))=some false:=Jo.choose_spec;refine aeg (bU.out (Rh k5)) (λw x y hW=>Jg k5 hs.1 Jn hs.2 hW.st.2.1) ⟨0,rfl,bU.out k7,_,λw=>Jf .write (λ_ _ h=>by cases h) k6 aiZ,?_⟩;refine yG (λw=>(key w).2.2.2.2.2.2.2.1) ⟨0,rfl,bU.out (AI k9),EN,λw st hW=> ?_,fin (f121 Wg b) (.tuple #[]),λw hW=> ?_,?_⟩;exact atw k9 RL hW.st.2.1;exact atu (n:=1) k9 RL hW.st.2.1 (by decide) hW.st.2.2.2;refine yG (λw=>(key w).2.2.2.2.2.2.2.2.2.2.1) ⟨0,rfl,bU.out (AI BS),_,λw hW=>Py BS KS hW.st.1,?_⟩;refine aci (n1:=11) (n2:=3) (λw=>(key w).2.2.2.2.2.2.2.2.2.2.2.2.1) EO (λw=>(key w).2.2.2.2.2.2.2.2.2.2.2.2.2.2.1) N1 ?_;exact Qm (n:=12) hi N2 (λw=>(key w).2.2.2.2.2.2.2.2.2.2.2.2.2.2.2.2.2.2.1) N3 N4 N5 N6 N7 N8 (λw=>(key w).2.2.2.2.2.2.2.2.2.2.2.2.2.2.2.2.2.2.2.2.2.2.2.2.2);unfold KK at e;omega;exact yG (λw=>(key w).2.2.1) hm
def nB(hi:Im fc 0=some (.chan (some c))){h:Ti}{k:Nat}(hz:∀w,zT Wg c w h=zR Wg fc c w h)
  (hv:∀v,0<v->v<=k->v<=4->(∀w,fU w 48 1 (fin h (.int .u64 ((v:Int)* 4294967296)))=fS w 48 1 (fin h (.int .u64 ((v:Int)* 4294967296))))/\(∀w,fT Wg c w (f76 h ((v:Int)* 4294967296))=fR Wg fc c w (f76 h ((v:Int)* 4294967296)) ((v:Int)* 4294967296))/\eY BI Im c Wg v 1 (Oo (f76 h ((v:Int)* 4294967296)))):eY BI Im c Wg (k+1) 1 h:=by
 obtain⟨z1,z2⟩:=avp hi hz;rw[eY];refine⟨rfl,bU.out (AI z1),λv h1 h2=> ?_⟩;refine⟨_,λw hW=>Py z1 KS hW.st.1,λe=> ?_,λe=> ?_⟩;subst e;exact z2;obtain⟨q1,q2,q3⟩:=hv v (by omega) h1 h2;exact yG q1 ⟨0,ah8 (by omega) hi q2 ⟨0,q3⟩⟩
def dZ{l:SD}{v:Int}(h:∀w,pT Wg fc c w l v=pR Wg fc c w l v):(∀w,fU w 48 1 (fin (hd Wg fc l) (.int .u64 v))=fS w 48 1 (fin (hd Wg fc l) (.int .u64 v)))/\(∀w,fT Wg c w (bd Wg fc l v)=fR Wg fc c w (bd Wg fc l v) v)/\(∀w,zT Wg c w (hd Wg fc (v::l))=zR Wg fc c w (hd Wg fc (v::l))):=by refine⟨λw=>(Yb (h w)).1,λw=>(Yb (Yb (h w)).2).1,λw=>(Yb (Yb (h w)).2).2⟩
end
section
variable (Wg fc c:Nat){Im:cC}
def anl(hi:Im fc 0=some (.chan (some c))):eY BI Im c Wg 1 1 (hd Wg fc [1* 4294967296]):=by refine nB (k:=0) hi (dZ (OV Wg fc c)).2.2 λv h1 h2 h3=> ?_;omega
def anm(hi:Im fc 0=some (.chan (some c))):eY BI Im c Wg 1 1 (hd Wg fc [1* 4294967296,2* 4294967296]):=by refine nB (k:=0) hi (dZ (OW Wg fc c)).2.2 λv h1 h2 h3=> ?_;omega
def ant(hi:Im fc 0=some (.chan (some c))):eY BI Im c Wg 2 1 (hd Wg fc [2* 4294967296]):=by
 refine nB (k:=1) hi (dZ (O3 Wg fc c)).2.2 λv h1 h2 h3=> ?_;rcases(show v=1 by omega)with rfl
 ·exact⟨(dZ (OW Wg fc c)).1,(dZ (OW Wg fc c)).2.1,anm Wg fc c hi⟩
def anq(hi:Im fc 0=some (.chan (some c))):eY BI Im c Wg 1 1 (hd Wg fc [1* 4294967296,3* 4294967296]):=by refine nB (k:=0) hi (dZ (O0 Wg fc c)).2.2 λv h1 h2 h3=> ?_;omega
def ann(hi:Im fc 0=some (.chan (some c))):eY BI Im c Wg 1 1 (hd Wg fc [1* 4294967296,2* 4294967296,3* 4294967296]):=by refine nB (k:=0) hi (dZ (OX Wg fc c)).2.2 λv h1 h2 h3=> ?_;omega
def anu(hi:Im fc 0=some (.chan (some c))):eY BI Im c Wg 2 1 (hd Wg fc [2* 4294967296,3* 4294967296]):=by
 refine nB (k:=1) hi (dZ (O4 Wg fc c)).2.2 λv h1 h2 h3=> ?_;rcases(show v=1 by omega)with rfl
 ·exact⟨(dZ (OX Wg fc c)).1,(dZ (OX Wg fc c)).2.1,ann Wg fc c hi⟩
def anx(hi:Im fc 0=some (.chan (some c))):eY BI Im c Wg 3 1 (hd Wg fc [3* 4294967296]):=by
 refine nB (k:=2) hi (dZ (O7 Wg fc c)).2.2 λv h1 h2 h3=> ?_;rcases(show v=1\/v=2 by omega)with rfl|rfl
 ·exact⟨(dZ (O0 Wg fc c)).1,(dZ (O0 Wg fc c)).2.1,anq Wg fc c hi⟩
 ·exact⟨(dZ (O4 Wg fc c)).1,(dZ (O4 Wg fc c)).2.1,anu Wg fc c hi⟩
def ans(hi:Im fc 0=some (.chan (some c))):eY BI Im c Wg 1 1 (hd Wg fc [1* 4294967296,4* 4294967296]):=by refine nB (k:=0) hi (dZ (O2 Wg fc c)).2.2 λv h1 h2 h3=> ?_;omega
def anp(hi:Im fc 0=some (.chan (some c))):eY BI Im c Wg 1 1 (hd Wg fc [1* 4294967296,2* 4294967296,4* 4294967296]):=by refine nB (k:=0) hi (dZ (OZ Wg fc c)).2.2 λv h1 h2 h3=> ?_;omega
def anw(hi:Im fc 0=some (.chan (some c))):eY BI Im c Wg 2 1 (hd Wg fc [2* 4294967296,4* 4294967296]):=by
 refine nB (k:=1) hi (dZ (O6 Wg fc c)).2.2 λv h1 h2 h3=> ?_;rcases(show v=1 by omega)with rfl
 ·exact⟨(dZ (OZ Wg fc c)).1,(dZ (OZ Wg fc c)).2.1,anp Wg fc c hi⟩
def anr(hi:Im fc 0=some (.chan (some c))):eY BI Im c Wg 1 1 (hd Wg fc [1* 4294967296,3* 4294967296,4* 4294967296]):=by refine nB (k:=0) hi (dZ (O1 Wg fc c)).2.2 λv h1 h2 h3=> ?_;omega
def ano(hi:Im fc 0=some (.chan (some c))):eY BI Im c Wg 1 1 (hd Wg fc [1* 4294967296,2* 4294967296,3* 4294967296,4* 4294967296]):=by refine nB (k:=0) hi (dZ (OY Wg fc c)).2.2 λv h1 h2 h3=> ?_;omega
def anv(hi:Im fc 0=some (.chan (some c))):eY BI Im c Wg 2 1 (hd Wg fc [2* 4294967296,3* 4294967296,4* 4294967296]):=by
 refine nB (k:=1) hi (dZ (O5 Wg fc c)).2.2 λv h1 h2 h3=> ?_;rcases(show v=1 by omega)with rfl
 ·exact⟨(dZ (OY Wg fc c)).1,(dZ (OY Wg fc c)).2.1,ano Wg fc c hi⟩
def anz(hi:Im fc 0=some (.chan (some c))):eY BI Im c Wg 3 1 (hd Wg fc [3* 4294967296,4* 4294967296]):=by
 refine nB (k:=2) hi (dZ (O8 Wg fc c)).2.2 λv h1 h2 h3=> ?_;rcases(show v=1\/v=2 by omega)with rfl|rfl
 ·exact⟨(dZ (O1 Wg fc c)).1,(dZ (O1 Wg fc c)).2.1,anr Wg fc c hi⟩
 ·exact⟨(dZ (O5 Wg fc c)).1,(dZ (O5 Wg fc c)).2.1,anv Wg fc c hi⟩
def anA(hi:Im fc 0=some (.chan (some c))):eY BI Im c Wg 4 1 (hd Wg fc [4* 4294967296]):=by
 refine nB (k:=3) hi (dZ (O9 Wg fc c)).2.2 λv h1 h2 h3=> ?_;rcases(show v=1\/v=2\/v=3 by omega)with rfl|rfl|rfl
 ·exact⟨(dZ (O2 Wg fc c)).1,(dZ (O2 Wg fc c)).2.1,ans Wg fc c hi⟩
 ·exact⟨(dZ (O6 Wg fc c)).1,(dZ (O6 Wg fc c)).2.1,anw Wg fc c hi⟩
 ·exact⟨(dZ (O8 Wg fc c)).1,(dZ (O8 Wg fc c)).2.1,anz Wg fc c hi⟩
def hq_(hi:Im fc 0=some (.chan (some c))):eY BI Im c Wg 5 1 (hd Wg fc []):=by
 refine nB (k:=4) hi (zz Wg fc c) λv h1 h2 h3=> ?_;rcases(show v=1\/v=2\/v=3\/v=4 by omega)with rfl|rfl|rfl|rfl
 ·exact⟨(dZ (OV Wg fc c)).1,(dZ (OV Wg fc c)).2.1,anl Wg fc c hi⟩
 ·exact⟨(dZ (O3 Wg fc c)).1,(dZ (O3 Wg fc c)).2.1,ant Wg fc c hi⟩
 ·exact⟨(dZ (O7 Wg fc c)).1,(dZ (O7 Wg fc c)).2.1,anx Wg fc c hi⟩
 ·exact⟨(dZ (O9 Wg fc c)).1,(dZ (O9 Wg fc c)).2.1,anA Wg fc c hi⟩
def aig(hi:Im fc 0=some (.chan (some c))):JL BI Im c Wg (born BI ⟨.fn (.func 123) #[pW Wg 0,pW fc 0],#[]⟩):=by
 have h0:∀w,fU w 7 0 (e0 Wg fc)=fS w 7 0 (e0 Wg fc)/\cH (e7 Wg fc)=some ((136:UR),(#[]:SG))/\fU w 19 1 (e8 Wg fc)=fS w 19 1 (e8 Wg fc):=λw=>by have:=c0 Wg fc w;simpa only[VW]using this
 show ∃n,cZ BI (eY BI Im c Wg 5) n 0 (e0 Wg fc);refine yG (λw=>(h0 w).1) ?_;refine Pu (bU.out (AI (h0 default).2.1)) (Oy (.inl rfl)) (λw=>Je (λ_ h=>by cases h) (h0 default).2.1 KQ) ?_;exact yG (d:=deafBehind 0 #[⟨.mark .disable,false,true⟩]) (λw=>(h0 w).2.2) ⟨0,hq_ Wg fc c hi⟩
end
open Go.Gg.Tk
section
variable {lv:Bool}{P:Tl}{r:SL}{nt:Nat}{E:Env}{V:View}{a:Act}{s:AS}{c:U5}{Q:SJ}
def AE(s3:AS)(ak:At E V s a nt)(h:aW lv P r nt c s (λe s'=>match e with|.normal=>s'.Sub s3|_=>False))(hQ:∀E' V' a',Kept E E' V V' a a'->At E' V' s3 a' nt->Q .normal a' V'):WP lv P r c Q a V:=
 h E V a Q ak λae e E' V' a' s' hk aX he hΦ=>by
  cases ae<;>cases e<;>first
   |exact he.elim
   |exact hΦ.elim
   |exact hQ E' V' a' hk (aX.sub hΦ)
def unwind_mark{lv:Bool}{P:Tl}{main:Bool}{J:SM}(C:Closed lv P main J){V:View}{fr:VM}{cs:SX}{b:Nat}{ds:S5}(h4:fr.defers={target:=.collected b,args:=#[]}::ds)(hm:(fr.mode matches .run)=false)(ho:V.own b=some (.deferred (some [])))(fA:V.role.chan≠some b)(h:J (V.upd b (.deferred none)) (G {fr with defers:=ds} cs)):J V (G fr cs):=by
 refine C.step _ _ rfl λw hw=> ?_;obtain⟨es,w',V',k1,k2,k3⟩:=(Pq (P:=P) ho fA).runs hw;rcases k3 with⟨x,k3,rfl,rfl⟩|⟨_,_,hx⟩
 ·refine⟨G {fr with defers:=ds} cs,w',seen P fr.fn es,_,?_,k1.seen P fr.fn,h⟩;have e:stepG P main (G fr cs) w=unwind P main fr cs none w:=by
   obtain⟨fn,tmps,todo,defers,mode,kind,ro⟩:=fr;cases mode with
   |run=>cases hm
   |returning=>simp[G,stepG]
   |panicking ch=>simp[G,stepG]
  rw[e];simp only[unwind,h4];simp[UE,k3,k2,U3,G]
 ·exact hx.elim
def ep{s s':AS}(h:∀p∈s'.T,∃b,look s.T p.1=some b/\Wk b p.2)(hH:s.H=s'.H):s.Sub s':=⟨λ_ _ e=>h _ (pF e),hH⟩
def ve{E:Env}{x v:T9}(h:ay E (.val x) v):v=x:=by cases h;rfl
def GA{E:Env}{cs:SG}(h:bR E [] cs):cs=#[]:=Array.size_eq_zero_iff.1 h.1
def Rx{E:Env}{l:S6}{cs:SG}(h:bR E (l.map .val) cs):cs=l.toArray:=by
 have hs:cs.size=l.length:=by simpa using h.1
 refine Array.ext hs λi h1 h2=> ?_;have hi:i<l.length:=by simpa using h2
 have:=ve (h.2 i (.val l[i]) (by simp[T4 hi]));rw[Th,Tj h1]at this;simpa using this
def sV (K:Kn)(b:Nat):List T9:=.bool K.has:: .map (some b)::(K.aC.map (λn:Nat=>S_ .u16 n)++(K.hours.map (λn:Nat=>S_ .u16 n)++(K.less.map (λn:Nat=>S_ .u16 n)++(K.bc.map (λn:Nat=>S_ .u16 n)++K.first.map (S_ .i64)))))
def sU (K:Kn):Obj:=.map (K.aQ.zipIdx.map eP).toArray K.aQ.length
def aiw{E:Env}{K:Kn}{mp:Nat}{v:T9}(h:ay E (.agg (K.l mp)) v):v=.agg (sV K (E.blk mp)).toArray:=by
 cases h with
 |agg hs h=>
  rename_i cs;congr 1;have hl:(K.l mp).length=(sV K (E.blk mp)).length:=by simp[Kn.l,sV]
  have key:∀(i:Nat)(x:AV),(K.l mp)[i]?=some x->∀y,ay E x y->(sV K (E.blk mp))[i]?=some y:=by
   intro i x hx y hy
   match i with
   |0=>cases hx;rw[ve hy];rfl
   |1=>cases hx;cases hy;rfl
   |i+2=>
    have e:(K.l mp)[i+2]?=((K.aC.map (λn:Nat=>S_ .u16 n)++(K.hours.map (λn:Nat=>S_ .u16 n)++(K.less.map (λn:Nat=>S_ .u16 n)++(K.bc.map (λn:Nat=>S_ .u16 n)++K.first.map (S_ .i64))))).map AV.val)[i]?:=by simp[Kn.l,wv,iv,ZI]
    rw[e,Ur]at hx;obtain⟨z,h1,rfl⟩:=Uu.1 hx;rw[ve hy];exact h1
  have qx:cs.size=(sV K (E.blk mp)).length:=hs.trans hl;refine Array.ext qx λi h1 h2=> ?_;have hi:i<(K.l mp).length:=by omega
  have:=key i _ (T4 hi) _ (h i _ (T4 hi));rw[Th,Tj h1]at this;have h3:(sV K (E.blk mp)).toArray[i]?=some cs[i]:=by simpa using this
  rw[Tj h2]at h3;exact(V_ h3).symm
def rS (x:aj)(deep:Int)(bw:Nat):Spec:=λv _ Ow=>∃b,v=.agg (sV (iz x deep bw) b).toArray/\∀b',Ow b'=if b'=b then some (sU (iz x deep bw))else none
set_option maxRecDepth 100000 in
def aq4:BI.funcs.size=205:=by kernel_rfl
def PR{x:aj}{deep:Int}{bw:Nat}(hx:x.Ok)(hA:∀h∈kV x bw,nc h/\∀ns∈gM x h,∀a∈(iS x h ns).map (dM h ns),jQ x a):bW (iz x deep bw):=by unfold iz;refine Lx hx (λt ht=> ?_) EP;obtain⟨h,h1,h2⟩:=T8.1 ht;obtain⟨ns,h3,h4⟩:=PK h2;exact(hA h h1).2 ns h3 t h4
def au5{J:SM}(C:Am BI false J){E:Env}{V:View}{x:aj}{bw c Wg:Nat}{deep:Int}{rv tv dv fv:T9}(hx:x.Ok)(gL:bw<=3)(hA:∀h∈kV x bw,nc h/\∀ns∈gM x h,∀a∈(iS x h ns).map (dM h ns),jQ x a)(ami:Conc E V [])
  (hr:ay E (.rp x.l) rv) (ht:ay E (.rp [iv bw]) tv) (hd:ay E (.rp [iv deep]) dv) (hf:ay E (.rp [.val (.chan (some c))]) fv) (cr:V.role=.work c Wg [rS x deep bw]) (fB:V.deaf=0):J V (born BI ⟨.fn (.func 120) #[pW Wg 0,rv,tv,dv,fv],#[]⟩):=by
 have C':Closed false BI false J:={C with more:=λh=>by cases h};unfold born;rw[aq4];refine ae5 C' (fr:={(default:VM)with fn:=205,defers:=[⟨.fn (.func 120) #[pW Wg 0,rv,tv,dv,fv],#[]⟩],mode:=.panicking [goexitEntry]}) (ds:=[]) rfl rfl (by kernel_rfl) ?_;refine aja (Q:=λa' V'=>∃b,a'.defers=[{target:=.collected b,args:=#[]},⟨.fn (.func 121) #[],#[pW Wg 0]⟩]/\V'.own b=some (.deferred (some []))/\V'.role=.work c Wg []/\V'.deaf=0) C' (by simp) F.f120 rfl ?_ ?_
 rotate_left
 ·rintro a' V' todo ⟨b,h1,h0,h2,h3⟩
  refine unwind_mark C' (ds:=[⟨.fn (.func 121) #[],#[pW Wg 0]⟩]) h1 rfl h0 (by rw[h2];simp[nT.chan]) ?_;refine ae5 C' (ds:=[]) rfl rfl (by kernel_rfl) ?_;exact aiK Wg a'.tmps todo C h2 h3
 have cU:bR E [.val (pW Wg 0),.rp x.l,.rp [iv bw],.rp [iv deep],.rp [.val (.chan (some c))]] (#[]++#[pW Wg 0,rv,tv,dv,fv]):=by
  refine⟨rfl,λi a e=> ?_⟩
  match i,e with
  |0,e=>cases e;exact .val _
  |1,e=>cases e;exact hr
  |2,e=>cases e;exact ht
  |3,e=>cases e;exact hd
  |4,e=>cases e;exact hf
 have ak:=Dc (nt:=25) ami cU (by simp);simp only[ba,Tq]at ak;refine wp_seq ?_;refine(QQ (nt:=25) (n:=0) (ds:=[]) (Φ:=λe s' ly=>e=.normal/\s'=⟨[(0,.val (pW Wg 0)),(1,.rp x.l),(2,.rp [iv bw]),(3,.rp [iv deep]),(4,.rp [.val (.chan (some c))])],[]⟩/\ly=[(.fn (.func 121) [] [],[.val (pW Wg 0)])]) rfl rfl rfl rfl rfl rfl (by kernel_rfl) ?_) E V _ _ ak trivial λae e E1 V1 a1 s1 ds1 iY xb bi D8 h1=> ?_
 ·(try simp only[seval]);exact⟨_,_,_,rfl⟩
 obtain⟨rfl,rfl,rfl⟩:=h1;cases e<;>first
  |exact D8.elim
  |skip
 have amr:a1.defers=[⟨.fn (.func 121) #[],#[pW Wg 0]⟩]:=by
  match jC:a1.defers,bi with
  |[d],bi=>obtain⟨⟨f,first,c9,fa,ca,vs,q1,rfl,q3,q4,q5⟩,_⟩:=bi;cases q1;rw[GA q3,GA q4,Rx (l:=[pW Wg 0]) q5];rfl
  |[],bi=>exact bi.elim
  |_::_::_,bi=>exact bi.2.elim
 refine wp_seq ?_;refine AE ⟨[(5,.op 1 0),(0,.val (pW Wg 0)),(1,.rp x.l),(2,.rp [iv bw]),(3,.rp [iv deep]),(4,.rp [.val (.chan (some c))])],[setH [],.cells (Kn.zero.l 0) 85]⟩ xb ?_ λE2 V2 a2 cO vw=> ?_
 ·refine ai ?_;exact ep (by simp only[seval];simp[bE,Wk.refl]) rfl
 refine wp_seq (wp_seq ?_);refine AE ⟨v6 x bw deep c (pW Wg 0),xE x bw Kn.zero⟩ vw ?_ λE3 V3 a3 xq rk=> ?_
 ·refine ab ?_;simp only[seval,TM];refine aK (La (x:=x) (n:=bw) ?_);(try simp only[seval]);exact ep (by unfold v6;simp only[seval];simp[bE,Wk.refl];exact Wk.refl _) rfl
 have ams:a3.defers=[⟨.fn (.func 121) #[],#[pW Wg 0]⟩]:=xq.defers.trans (cO.defers.trans amr);have anC:V3.role=.work c Wg [rS x deep bw]:=xq.role.trans (cO.role.trans (iY.role.trans cr));have amm:V3.deaf=0:=xq.deaf.trans (cO.deaf.trans (iY.deaf.trans fB));refine aog (lv:=false) (bs:=[⟨.fn (.func 121) #[],#[pW Wg 0]⟩]) hx gL hA (λe s' cP=>e=.normal/\s'=⟨v6 x bw deep c (pW Wg 0),xE x bw (iz x deep bw)++[.obj (.deferred (some [])),.gone]⟩/\cP=[4]) ⟨rfl,rfl,rfl⟩ E3 V3 a3 _ rk ⟨by simp[ams],by simp⟩ λae e E4 V4 a4 s4 ms4 sH sB amX he4 hΦ4=> ?_;obtain⟨rfl,rfl,rfl⟩:=hΦ4;cases e<;>first
  |exact he4.elim
  |skip
 have amt:a4.defers=[{target:=.collected (E4.blk 4),args:=#[]},⟨.fn (.func 121) #[],#[pW Wg 0]⟩]:=amX.1;have anD:V4.role=.work c Wg [rS x deep bw]:=sH.role.trans anC;have aa1:V4.deaf=0:=sH.deaf.trans amm;have yT:bW (iz x deep bw):=PR hx hA;generalize hW:iz x deep bw=W at sB yT;have G9:=Kn.len yT 0;refine Jx (K:=λs'=>look s'.T 23=some (.val (.chan (some c)))/\look s'.T 24=some (.agg (W.l 0))/\s'.Sub ⟨v6 x bw deep c (pW Wg 0),xE x bw W++[.obj (.deferred (some [])),.gone]⟩) 2 1 rfl (by kernel_rfl) sB ?_ λE5 V5 a5 s5 g_ kD hK=> ?_
 ·unfold v6 xE;(try simp only[seval,G9]);rw[Tu (i:=28) (by omega)];exact⟨rfl,ep (by simp only[seval];simp[bE,Wk.refl]) rfl⟩
 obtain⟨l23,l24,mj⟩:=hK;have Hc:=kD.sub mj;have e23:a5.eval (.tmp 23)=.chan (some c):=ve (kD.tok _ _ l23).2;have e24:a5.eval (.tmp 24)=.agg (sV W (E5.blk 0)).toArray:=aiw (kD.tok _ _ l24).2;have h0:V5.own (E5.blk 0)=some (sU W):=(Hc.bx.obj 0 (setH W.aQ) rfl).1;have h4:V5.own (E5.blk 4)=some (.deferred (some [])):=(Hc.bx.obj 4 (.obj (.deferred (some []))) rfl).1;have aN:E5.blk 4≠E5.blk 0:=λe=>by rw[e,h0]at h4;cases h4
 have hb4:E5.blk 4=E4.blk 4:=g_.le.blk 4 (by rw[sB.bx.n];simp[xE]);refine PV rfl rfl ?_;refine⟨c,Wg,rS x deep bw,[],λb=>decide (b=E5.blk 0),e23,by rw[g_.role];exact anD,g_.deaf.trans aa1,⟨E5.blk 0,by rw[hW];exact e24,λb'=> ?_⟩,?_⟩;rw[hW];by_cases hb:b'=E5.blk 0;subst hb;simp[h0];simp[hb];refine⟨trivial,E5.blk 4,?_,?_,rfl,g_.deaf.trans aa1⟩;rw[hb4];exact g_.defers.trans amt;show (if decide (E5.blk 4=E5.blk 0)=true then none else V5.own (E5.blk 4))=_;rw[if_neg (by simpa using aN)];exact h4
def aqH(r:SL):AV.parts (.val (.chan r))=some [.val (.chan r)]:=rfl
def avt(r:SL):my (.chan r)=[.val (.chan r)]:=rfl
def aoG(r:SL):AV.leaf (.val (.chan r))=true:=rfl
def PS{x y:U5}{t:Nat}{b:Bool}(ak:At E V s a nt)(hl:look s.T t=some (.val (.bool b)))(h:WP lv P r (if b then x else y) Q a V):WP lv P r (.cond (.tmp t) x y) Q a V:=by have hd:=(ak.tok t _ hl).2;generalize hx:a.tmps.getD t undef=v at hd;cases hd;exact wp_cond (t:=b) hx h
end
def Rt{E:Env}{f:Fn}{first c9:SC}{v:T9}(h:ay E (.fn f first c9) v):∃fa ca,v=.func f fa ca/\bR E first fa/\bR E c9 ca:=by
 cases h with
 |fn da eJ h1 h2=>exact⟨_,_,rfl,⟨da,h1⟩,⟨eJ,h2⟩⟩
def Dl{E:Env}{i o:Nat}{v:T9}(h:ay E (.op i o) v):v=.pointer (some ⟨E.blk i,o,none⟩):=by cases h;rfl
def Iz(x:aj)(n:Nat):∀a∈x.l,Lt n a:=by intro a ha;simp only[aj.l,Tm,T5,or_false]at ha;rcases ha with rfl|rfl|rfl|rfl|rfl|rfl;exact .val _;exact .val _;exact .val _;rw[acC];trivial;rw[Iy];trivial;rw[Iy];trivial
def apn(x:aj):Lt 0 (.rp x.l):=by rw[zM];exact Iz x 0
set_option maxRecDepth 100000 in
def wgT:PP BI=174:=by kernel_rfl
def ci:U5->U5
 |.block _ c|.loop c|.scope c=>c
 |_=> .skip
noncomputable def v8:U5:=Y3.body.getD .skip
noncomputable def mS:U5:=cs (cs (cs v8))
def tQ:Obj:=.chan 0 #[] false 0 0 false
def gp:SC:=bv false:: .val (.map none)::(UQ 15 (wv 0)++UQ 11 (iv 0))
def dE (x:aj)(deep:Int)(c:Nat):SA:=[.part 6 x.l 73,.part 1 [iv deep] 3,.cells gp 85,.part 1 [.val (.chan (some c))] 166,.gone]
structure jP (x:aj)(deep:Int)(Hs:SA)(E:Env)(c Wg:Nat)(rv dv fv:T9)(T:List (Nat×AV))(M:SA)(E':Env)(V':View)(a':Act):Prop where
 ak:At E' V' ⟨T,Hs++(dE x deep c++M)⟩ a' 35
 lo:E.Lo E'
 main:E'.main=false
 defers:a'.defers=[]
 deaf:V'.deaf=0
 er:rv=.pointer (some ⟨E'.blk Hs.length,0,none⟩)
 ed:dv=.pointer (some ⟨E'.blk (Hs.length+1),0,none⟩)
 ef:fv=.pointer (some ⟨E'.blk (Hs.length+3),0,none⟩)
 dr:ay E' (.rp x.l) rv
 dd:ay E' (.rp [iv deep]) dv
 df:ay E' (.rp [.val (.chan (some c))]) fv
 fr:∀b y,E.fr b=some y->E'.fr b=some y/\b≠c/\b≠Wg
 ne:c≠Wg
section
variable {x:aj}{deep:Int}{Hs:SA}{E:Env}{c Wg:Nat}{rv dv fv:T9}{T T':SH}{M M' G:SA}{E1 E2:Env}{V1 V2:View}{a1 a2:Act}
def jP.Jh(h:jP x deep Hs E c Wg rv dv fv T M E1 V1 a1)(le:E1.Le E2)(bC:a2.defers=a1.defers)(fB:V2.deaf=V1.deaf)(ak:At E2 V2 ⟨T',Hs++(dE x deep c++M')⟩ a2 35):jP x deep Hs E c Wg rv dv fv T' M' E2 V2 a2:=by
 have hl:∀i,i<5->Hs.length+i<E1.n:=λi hi=>by rw[h.ak.bx.n];simp[dE];omega
 exact⟨ak,h.lo.trans le.lo,le.main.trans h.main,bC.trans h.defers,fB.trans h.deaf,by have:=le.blk _ (hl 0 (by omega));rw[Vr]at this;rw[this];exact h.er,by rw[le.blk _ (hl 1 (by omega))];exact h.ed,by rw[le.blk _ (hl 3 (by omega))];exact h.ef,h.dr.mono le,h.dd.mono le,h.df.mono le,λb y e=>by rw[le.fr];exact h.fr b y e,h.ne⟩
def jP.step(h:jP x deep Hs E c Wg rv dv fv T M E1 V1 a1)(hk:Kept E1 E2 V1 V2 a1 a2)(ak:At E2 V2 ⟨T',Hs++(dE x deep c++M')⟩ a2 35):jP x deep Hs E c Wg rv dv fv T' M' E2 V2 a2:=h.Jh hk.le hk.defers hk.deaf ak
def jP.to(T':SH)(M':SA)(h:jP x deep Hs E c Wg rv dv fv T M E1 V1 a1){cd:U5}{Q:SJ}(hw:aW true BI none 35 cd ⟨T,Hs++(dE x deep c++M)⟩ (λe s'=>match e with|.normal=>s'.Sub ⟨T',Hs++(dE x deep c++M')⟩|_=>False))
  (hQ:∀E2 V2 a2,Kept E1 E2 V1 V2 a1 a2->jP x deep Hs E c Wg rv dv fv T' M' E2 V2 a2->Q .normal a2 V2):WP true BI none cd Q a1 V1:=
 AE ⟨T',Hs++(dE x deep c++M')⟩ h.ak hw λE2 V2 a2 hk ak=>hQ E2 V2 a2 hk (h.step hk ak)
def jP.cut(h:jP x deep Hs E c Wg rv dv fv T (M++G) E1 V1 a1)(hE:E.n<=Hs.length)(hT:∀p∈T',∃b,look T p.1=some b/\Wk b p.2/\Lt (Hs.length+5+M.length) p.2)(an:bJ (Hs++(dE x deep c++M))):jP x deep Hs E c Wg rv dv fv T' M {E1 with n:=Hs.length+5+M.length} V1 a1:=by
 have hlen:(Hs++(dE x deep c++M)).length=Hs.length+5+M.length:=by simp[dE];omega
 have hc:=h.ak.cut (s':=⟨T',Hs++(dE x deep c++M)⟩) ⟨λt a e=>by obtain⟨b,h1,h2,h3⟩:=hT _ (pF e);exact⟨b,h1,h2,by rw[hlen];exact h3⟩,⟨G,by simp⟩,an⟩;simp only[hlen]at hc;exact⟨hc,h.lo.cut (by omega),h.main,h.defers,h.deaf,h.er,h.ed,h.ef,h.dr.trim (by rw[zM];exact Iz x _),h.dd.trim (by simp[zM,dF]),h.df.trim (by simp[zM,dF]),h.fr,h.ne⟩
def acg(hH:bJ Hs)(hM:∀z∈M,fw (Hs.length+5+M.length) z):bJ (Hs++(dE x deep c++M)):=by
 intro y hy;have hlen:(Hs++(dE x deep c++M)).length=Hs.length+5+M.length:=by simp[dE];omega
 rw[hlen];rcases T1.1 hy with h|h;exact(hH y h).mono (by omega);rcases T1.1 h with h|h;simp only[dE,Tm,T5,or_false]at h;rcases h with rfl|rfl|rfl|rfl|rfl;(exactλa ha=>Iz x _ a ha);intro a ha;simp at ha;subst ha;exact .val _;intro a ha;simp only[gp,Tm,T1,XO]at ha;rcases ha with rfl|rfl|⟨_,rfl⟩|⟨_,rfl⟩<;>exact .val _;intro a ha;simp at ha;subst ha;exact .val _;trivial;exact hM y h
end
def pN (x:aj)(deep:Int)(i:Nat):List (TH):=(Tt i).map λk=>[rS x deep k]
def Pw(x:aj)(deep:Int)(i:Nat):(pN x deep i).length=i:=by simp[pN]
def atg(x:aj)(deep:Int)(i:Nat):pN x deep (i+1)=pN x deep i++[[rS x deep i]]:=by simp[pN,Wb]
def yn (x:aj):Prop:=∀bw,bw<=3->∀h∈kV x bw,nc h/\∀ns∈gM x h,∀a∈(iS x h ns).map (dM h ns),jQ x a
noncomputable def jU (Hs:SA)(Wg:Nat)(n:Int)(i:Nat):List (Nat×AV):=[(16,iv i),(15,iv n),(6,.val (pW Wg 0)),(5,.op (Hs.length+3) 0),(4,.op (Hs.length+2) 0),(3,.op (Hs.length+1) 0),(2,.op Hs.length 0)]
structure wE (x:aj)(deep:Int)(Hs:SA)(E:Env)(c Wg:Nat)(rv dv fv:T9)(i:Nat)(T:List (Nat×AV))(M:SA)(E':Env)(V':View)(a':Act):Prop where
 ok:jP x deep Hs E c Wg rv dv fv T M E' V' a'
 role:V'.role=.fork c Wg (pN x deep i)
 GR:E'.fr c=some tQ
 Du:E'.fr Wg=some (wgBlock BI ((i:Int)* 4294967296) 0)
section
variable {x:aj}{deep n:Int}{Hs:SA}{E:Env}{c Wg i:Nat}{rv dv fv:T9}{T T':SH}{M M':SA}{E1 E2:Env}{V1 V2:View}{a1 a2:Act}
def wE.step(h:wE x deep Hs E c Wg rv dv fv i T M E1 V1 a1)(hk:Kept E1 E2 V1 V2 a1 a2)(hc:jP x deep Hs E c Wg rv dv fv T' M' E2 V2 a2):wE x deep Hs E c Wg rv dv fv i T' M' E2 V2 a2:=
 ⟨hc,hk.role.trans h.role,by rw[hk.le.fr];exact h.GR,by rw[hk.le.fr];exact h.Du⟩
def aou(hx:x.Ok)(hA:yn x)(Ba:E.n<=Hs.length)(an:bJ (Hs++(dE x deep c++[])))(h:wE x deep Hs E c Wg rv dv fv i (jU Hs Wg n i) [] E1 V1 a1)(hi:i<=3){cd:U5}{Q:SJ}(yZ:cd=cs (cs (ci (ci (cs (cf mS))))))
  (hQ:∀E2 V2 a2,wE x deep Hs E c Wg rv dv fv (i+1) (jU Hs Wg n (i+1)) [] E2 V2 a2->Q .normal a2 V2):WP true BI none cd Q a1 V1:=by
 subst yZ;refine wp_seq (wp_block (wp_seq ?_));refine h.ok.to ((7,.op (Hs.length+5) 0)::jU Hs Wg n i) [.cells [iv i] 3] ?_ λE2 V2 a2 cO cg=> ?_
 ·unfold jU dE;refine ai ?_;exact ep (by simp only[seval];simp[bE,Wk.refl]) rfl
 have h2:=h.step cO cg;obtain⟨V3,g3,o3,r3,d3,Ir,Kw,Ro⟩:=cg.ak.bx.I0 (id:=Hs.length+5) (by rw[aP];rfl) 1 (by simp);rw[cG]at Kw;have MU:Kept E2 {E2 with I:=V3.ah} V2 V3 a2 a2:=⟨Ir,rfl,rfl,r3,d3⟩;have dJ:=cg.step (T':=(7,.op (Hs.length+5) 0)::jU Hs Wg n i) (M':=[.part 1 [iv i] 3]) MU ⟨Kw,cg.ak.tok.mono Ir,cg.ak.size⟩;have h3:=h2.step MU dJ;refine WP.ghost g3 ?_;generalize{E2 with I:=V3.ah}=E3 at Ir Kw Ro MU dJ h3;have e6:a2.eval (.tmp 6)=pW Wg 0:=ve (dJ.ak.tok 6 (.val (pW Wg 0)) rfl).2;obtain⟨w1,w2,w3⟩:=dJ.ak.bx.fr Wg _ h3.Du;have hrc:V3.role.chan≠some Wg:=by rw[h3.role];intro e;cases e;exact dJ.ne rfl
 refine wp_seq (afg rfl rfl (aqq rfl rfl (by kernel_rfl) ?_));have cU:(#[ax6 6,ayf (.int .i64 1)]:Array Up).map a2.eval=#[pW Wg 0,.int .i64 1]:=by simp only[List.map_toArray,VN,Zk,e6];rfl
 rw[cU];refine(agt (n:=i) (sm:=PP BI) (by omega) w1 w2 hrc dJ.deaf).mono λo V4 hV=> ?_;obtain⟨rfl,rfl⟩:=hV;dsimp only;refine au9 ?_;let x_:Obj:=wgBlock BI (((i+1:Nat):Int)* 4294967296) 0;show WP true BI none _ _ (a2.put (some 19) (.tuple #[])) (V3.upd Wg x_);have tR:=dJ.ak.bx.alr h3.Du x_;let f4:Nat->Option Obj:=λb'=>if b'=Wg then some x_ else E3.fr b';have kj:jP x deep Hs E c Wg rv dv fv ((7,.op (Hs.length+5) 0)::jU Hs Wg n i) [.part 1 [iv i] 3] (E3.frame f4) (V3.upd Wg x_) (a2.put (some 19) (.tuple #[])):=by
  refine⟨⟨tR,λt av e=> ?_,(ek a2 (some 19) _).trans dJ.ak.size⟩,dJ.lo.trans (Env.Iv E3 f4),dJ.main,(put_defers a2 _ _).trans dJ.defers,dJ.deaf,dJ.er,dJ.ed,dJ.ef,dJ.dr.frame f4,dJ.dd.frame f4,dJ.df.frame f4,λb y e=> ?_,dJ.ne⟩
  ·have aN:t≠19:=by intro et;subst et;simp[jU,look]at e
   have:=((dJ.ak.tok.frame f4).put (d:=19) (a:=.aJ []) (v:=.tuple #[]) (by rw[dJ.ak.size];omega) (.aJ rfl (by simp))) t av (by simp only[look];rw[if_neg (Ne.symm aN)];exact e);exact this
  ·obtain⟨q1,q2,q3⟩:=dJ.fr b y e;exact⟨by show (if b=Wg then _ else _)=_;rw[if_neg q3];exact q1,q2,q3⟩
 have RB:ay (E3.frame f4) (.rp [iv i]) (.pointer (some ⟨(E3.frame f4).blk (Hs.length+5),0,none⟩)):=by
  have hl:Hs.length+5<E2.n:=by rw[cg.ak.bx.n];simp[dE]
  have e:(E3.frame f4).blk (Hs.length+5)=E2.blk (Hs.length+5):=Ir.blk _ hl;rw[e];exact Ro.frame f4
 have I5:(V3.upd Wg x_).role=.fork c Wg (pN x deep i):=h3.role;have aaq:(E3.frame f4).fr c=some tQ:=by show (if c=Wg then _ else _)=_;rw[if_neg dJ.ne];exact h3.GR
 have aar:(E3.frame f4).fr Wg=some x_:=by show (if Wg=Wg then _ else _)=_;rw[if_pos rfl]
 generalize E3.frame f4=E4 at kj RB aaq aar;generalize V3.upd Wg x_=V4 at kj I5;generalize a2.put (some 19) (.tuple #[])=a4 at kj;clear tR;refine Jx (K:=λs'=>look s'.T 20=some (.fn (.func 120) [] [.val (pW Wg 0),.op Hs.length 0,.op (Hs.length+5) 0,.op (Hs.length+1) 0,.op (Hs.length+3) 0])/\s'.Sub ⟨jU Hs Wg n i,Hs++(dE x deep c++[.part 1 [iv i] 3])⟩) 1 1 rfl (by kernel_rfl) kj.ak ?_ λE5 V5 a5 s5 g_ kD hK=> ?_
 ·unfold jU dE;(try simp only[seval,U6,VB,Vk,UW]);exact ep (by simp only[seval];simp[bE,Wk.refl]) rfl
 obtain⟨l20,mj⟩:=hK;have Hc:=kD.sub mj;have cL:=kj.step g_ Hc;have Fs:V5.role=.fork c Wg (pN x deep i):=g_.role.trans I5;have w6:E5.fr c=some tQ:=by rw[g_.le.fr];exact aaq
 have Dv:E5.fr Wg=some x_:=by rw[g_.le.fr];exact aar
 have dk5:=RB.mono g_.le;have rz:Hs.length+5<E4.n:=by rw[kj.ak.bx.n];simp[dE]
 refine PV rfl rfl ?_;obtain⟨c1,c2,c3⟩:=cL.ak.bx.fr c _ w6;obtain⟨v1,v2,v3⟩:=cL.ak.bx.fr Wg _ Dv;have e20:a5.eval (.tmp 20)=.func (.func 120) #[] #[pW Wg 0,rv,.pointer (some ⟨E5.blk (Hs.length+5),0,none⟩),dv,fv]:=by
  obtain⟨fa,ca,q1,q2,q3⟩:=Rt (kD.tok 20 _ l20).2;rw[GA q2]at q1;refine q1.trans ?_;have vT:ca.size=5:=q3.1;have k0:=ve (q3.2 0 _ rfl);have k1:=Dl (q3.2 1 _ rfl);have k2:=Dl (q3.2 2 _ rfl);have k3:=Dl (q3.2 3 _ rfl);have k4:=Dl (q3.2 4 _ rfl);rw[<- cL.er]at k1;rw[<- cL.ed]at k3;rw[<- cL.ef]at k4;congr 1;refine Array.ext vT λj h1 h2=> ?_;have hj:j=0\/j=1\/j=2\/j=3\/j=4:=by omega
  rw[Th,Tj (by omega)]at k0 k1 k2 k3 k4;rcases hj with rfl|rfl|rfl|rfl|rfl;exact k0;exact k1;exact k2;exact k3;exact k4
 refine⟨rfl,.tmp 20,120,#[],_,rfl,e20,cL.deaf,.inl ⟨c,Wg,pN x deep i,rS x deep i,[],Fs,c1,?_,?_,v2,λJ0 C=> ?_,?_⟩⟩;rw[v1,Pw];rw[Pw];omega;(have hb:E5.blk (Hs.length+5)=E4.blk (Hs.length+5):=g_.le.blk _ rz;rw[hb];have:=au5 (J:=J0) (V:={ah:=V5.ah,own:=λ_=>none,deaf:=0,role:=.work c Wg [rS x deep i]}) C hx hi (hA i hi) (aij cL.ak.bx.I rfl rfl) (cL.dr.bare (apn x)) (dk5.bare (by simp[zM,dF])) (cL.dd.bare (by simp[zM,dF])) (cL.df.bare (by simp[zM,dF])) rfl rfl;simpa using this);let V6:View:={V5 with role:=.fork c Wg (pN x deep i++[[rS x deep i]])};have Kx:Conc (E5.frame E5.fr) V6 (Hs++(dE x deep c++[.part 1 [iv i] 3])):=by refine cL.ak.bx.zY (V':=V6) _ rfl (λ_ _ _ _ _ _ h=>h) (λg hg=> ?_) (λg hg=> ?_) (λhm=>by rw[cL.main]at hm;cases hm) cL.ak.bx.fr;cases hg;exact⟨by show V5.own Wg≠none;rw[v1];simp,v2,v3⟩;cases hg;exact⟨by show V5.own c≠none;rw[c1];simp,c2,c3⟩
 have pk:jP x deep Hs E c Wg rv dv fv (jU Hs Wg n i) [.part 1 [iv i] 3] E5 V6 (a5.put none undef):=⟨⟨Kx,cL.ak.tok,cL.ak.size⟩,cL.lo,cL.main,cL.defers,cL.deaf,cL.er,cL.ed,cL.ef,cL.dr,cL.dd,cL.df,cL.fr,cL.ne⟩;show WP true BI none _ _ (a5.put none undef) V6;refine pk.to (jU Hs Wg n (i+1)) [.part 1 [iv i] 3] ?_ λE7 V7 a7 pu D1=> ?_
 ·unfold jU dE;have hw:Tg.wrap ((i:Int)+1)=(i:Int)+1:=bt _ (by omega);refine ab ?_;simp only[seval,hw];exact ep (by simp only[seval];simp[bE,Wk.refl]) rfl
 have fW:=jP.cut (M:=[]) (T':=jU Hs Wg n (i+1)) D1 Ba (by unfold jU;simp only[W3,T5,false_imp_iff,implies_true,and_true,look,asg,if_false,if_true,Ul,exists_eq_left',Wk.refl,true_and,dF,acB,Vz];omega) an;refine hQ _ V7 a7 ⟨fW,?_,?_,?_⟩;rw[pu.role,atg];show E7.fr c=_;rw[pu.le.fr];exact w6;show E7.fr Wg=_;rw[pu.le.fr];exact Dv
end
namespace Tk
def adt{hs:SS}{h:SD}(hn:hs.Nodup):(j3 hs h).Nodup:=by unfold j3;split;exact hn;rename_i hm;rw[Wo];exact⟨hn,by simp,λa ha b hb=>by rw[Ub.1 hb];exactλe=>hm (e▸ha)⟩
def auc{x:aj}{deep:Int}{Q:Kn}{t:SD}(hn:Q.aQ.Nodup):(eV x deep Q t).aQ.Nodup:=by
 have hB:(j_ Q t).aQ.Nodup:=by unfold j_;split<;>exact hn
 unfold eV;dsimp only;generalize j_ Q t=R at hB;split;exact hB;split;exact adt hB;exact hB
def au3{x:aj}{deep:Int}{bw:Nat}:(iz x deep bw).aQ.Nodup:=by
 unfold iz;have key:∀(ts:SS)(Q:Kn),Q.aQ.Nodup->(ts.foldl (eV x deep) Q).aQ.Nodup:=by
  intro ts;induction ts with
  |nil=>exactλQ h=>h
  |cons t ts ih=>exactλQ h=>ih _ (auc h)
 exact key _ _ XU
def aah:∀{l hs:SS},(∀y∈hs,y.length=4)->(∀y∈l,y.length=4)->∀y∈l.foldl j3 hs,y.length=4
 |[],hs,h1,_=>h1
 |a::l,hs,h1,h2=>by rw[Wd];exact aah (adr h1 (h2 a (by simp))) (λy hy=>h2 y (by simp[hy]))
def IN{l m:SE}(h:l.length=m.length):(mq l m).length=l.length:=by simp[mq,h]
def IP{l m:SE}(h1:∀n∈l,n<65536)(h2:∀n∈m,n<65536):∀n∈mq l m,n<65536:=λn hn=>by
 unfold mq at hn;rw[VQ]at hn;obtain⟨i,hi⟩:=hn;rw[List.getElem?_zipWith]at hi;cases ha:l[i]?with
 |none=>rw[ha]at hi;cases hi
 |some a=>
  cases hb:m[i]?with
  |none=>rw[ha,hb]at hi;cases hi
  |some b=>rw[ha,hb]at hi;cases hi;exact qI (h1 _ (Un ha)) (h2 _ (Un hb))
def ab5{F G:Kn}{hs:SS}(hF:bW F)(hG:bW G)(hp:hs.Perm G.aQ):bW (iE F hs G):=by unfold iE;split;refine⟨(IN (by rw[hF.aC,hG.aC])).trans hF.aC,(IN (by rw[hF.hours,hG.hours])).trans hF.hours,(IN (by rw[hF.less,hG.less])).trans hF.less,(IN (by rw[hF.bc,hG.bc])).trans hF.bc,?_,IP hF.mU hG.mU,IP hF.nv hG.nv,IP hF.nK hG.nK,IP hF.mr hG.mr,aah hF.h4 λy hy=>hG.h4 y (hp.mem_iff.1 hy)⟩;split;exact hG.first;exact hF.first;exact hF
inductive oU (x:aj)(deep:Int):List Nat->Kn->Prop where
 |nil:oU x deep [] Kn.zero
 |snoc {js:List Nat} {F:Kn} {j:Nat} {hs:List (List Int)} (h:oU x deep js F) (hp:hs.Perm (iz x deep j).aQ):oU x deep (js++[j]) (iE F hs (iz x deep j))
end Tk
def yn.work{x:aj}{deep:Int}{j:Nat}(hA:yn x)(hx:x.Ok)(hj:j<=3):bW (iz x deep j):=PR hx (hA j hj)
def nN (x:aj)(deep:Int)(n:Nat)(js:SE):List (TH):=(Tt n).map λk=>if k∈js then[]else[rS x deep k]
def atj(x:aj)(deep:Int)(n:Nat):nN x deep n []=pN x deep n:=by simp[nN,pN]
def ati{x:aj}{deep:Int}{n j:Nat}{js:SE}{sp:Spec}{S:TH}(h:(nN x deep n js)[j]?=some (sp::S)):j<n/\j∉js/\sp=rS x deep j/\S=[]:=by
 unfold nN at h;rw[Ur]at h;obtain⟨k,h1,h2⟩:=Uu.1 h;have hk:j<n/\k=j:=by have:=Tn.1 h1;obtain⟨h3,h4⟩:=this;simp at h3 h4;exact⟨h3,h4.symm⟩
 obtain⟨h3,rfl⟩:=hk;split at h2;cases h2;rename_i hm;cases h2;exact⟨h3,hm,rfl,rfl⟩
def atk{x:aj}{deep:Int}{n j:Nat}{js:SE}:(nN x deep n js).set j []=nN x deep n (js++[j]):=by
 apply Yd;intro k;unfold nN;rw[VZ,Ur,Ur,Um,as_];by_cases hk:k<n
 ·rw[awZ hk];by_cases hj:j=k;subst hj;rw[if_pos rfl,if_pos hk];simp
  ·rw[if_neg hj];have e:(k∈js++[j])<->k∈js:=by rw[T1,Ub];exact⟨λh=>h.elim id λe=>absurd e.symm hj,.inl⟩
   simp only[VT,e]
 ·have e:(Tt n)[k]?=none:=VI (by simp;omega);rw[e];by_cases hj:j=k;subst hj;rw[if_pos rfl,if_neg hk];rfl;rw[if_neg hj];rfl
def ath{x:aj}{deep:Int}{n:Nat}{js:SE}(h:∀S∈nN x deep n js,S=[]):∀k,k<n->k∈js:=λk hk=>by apply Uv;intro hn;have:=h [rS x deep k] (Uh.2 ⟨k,by simpa using hk,by rw[if_neg hn]⟩);cases this
def aos{E:Env}{K:Kn}{mp b:Nat}(hb:E.blk mp=b)(hm:mp<E.n):ay E (.agg (K.l mp)) (.agg (sV K b).toArray):=by
 subst hb;refine .agg (by simp[Kn.l,sV]) λi a e=> ?_
 match i with
 |0=>cases e;exact .val _
 |1=>cases e;exact .mp hm
 |i+2=>
  have e':(K.l mp)[i+2]?=((K.aC.map (λn:Nat=>S_ .u16 n)++(K.hours.map (λn:Nat=>S_ .u16 n)++(K.less.map (λn:Nat=>S_ .u16 n)++(K.bc.map (λn:Nat=>S_ .u16 n)++K.first.map (S_ .i64))))).map AV.val)[i]?:=by simp[Kn.l,wv,iv,ZI]
  rw[e',Ur]at e;obtain⟨z,h1,rfl⟩:=Uu.1 e;have h2:(sV K (E.blk mp))[i+2]?=some z:=h1;rw[Th,Ws,h2];exact .val _
def v7(K:Kn)(mp:Nat):∀a∈K.l mp,a.leaf=true:=λa ha=>by simp only[Kn.l,Tm,T1,Uh]at ha;rcases ha with rfl|rfl|⟨_,_,rfl⟩|⟨_,_,rfl⟩|⟨_,_,rfl⟩|⟨_,_,rfl⟩|⟨_,_,rfl⟩<;>rfl
def aho{lv:Bool}{P:Tl}{r:SL}{nt:Nat}{E:Env}{V:View}{a:Act}{s:AS}{c:U5}{Q:SJ}{α:Type}(p:α->Prop)(S3:α->AS)(ak:At E V s a nt)(h:aW lv P r nt c s (λe s'=>match e with|.normal=>∃q,p q/\s'.Sub (S3 q)|_=>False))(hQ:∀q E' V' a',p q->Kept E E' V V' a a'->At E' V' (S3 q) a' nt->Q .normal a' V'):WP lv P r c Q a V:=
 h E V a Q ak λae e E' V' a' s' hk aX he hΦ=>by
  cases ae<;>cases e<;>first
   |exact he.elim
   |exact hΦ.elim
   |(obtain⟨q,h1,h2⟩:=hΦ
     exact hQ q E' V' a' h1 hk (aX.sub h2))
def aiy{E:Env}(l:S6):ay E (.agg (l.map .val)) (.agg l.toArray):=by refine .agg (by simp) λi a e=> ?_;rw[Ur]at e;obtain⟨z,h1,rfl⟩:=Uu.1 e;rw[Th,Ws,h1];exact .val _
def P6:List T9:=.bool false:: .map none::(UQ 15 (.int .u16 0)++UQ 11 (.int .i64 0))
def iQ (Hs:SA)(F:Kn):SA:=[setH F.aQ,.cells (F.l (Hs.length+5)) 85]
noncomputable def jK (Hs:SA):List (Nat×AV):=[(8,.op (Hs.length+6) 0),(5,.op (Hs.length+3) 0),(4,.op (Hs.length+2) 0)]
structure F6 (x:aj)(deep:Int)(n:Nat)(Hs:SA)(E:Env)(c Wg:Nat)(rv dv fv:T9)(js:SE)(F:Kn)(T:List (Nat×AV))(G:SA)(E':Env)(V':View)(a':Act):Prop where
 ok:jP x deep Hs E c Wg rv dv fv T (iQ Hs F++G) E' V' a'
 role:V'.role=.recv c Wg (nN x deep n js)
 ab6:oU x deep js F
 kn:bW F
 nodup:js.Nodup
 lt:∀j∈js,j<n
noncomputable def acf:U5:=ci (ci (cs (cs (cs mS))))
def aot{x:aj}{deep:Int}{Hs:SA}{c:Nat}{F:Kn}(hH:bJ Hs):bJ (Hs++(dE x deep c++iQ Hs F)):=by
 refine acg hH λz hz=> ?_;simp only[iQ,Tm,T5,or_false]at hz;rcases hz with rfl|rfl
 ·trivial
 ·exact zF (by simp[iQ])
def apw{V:View}{Im:cC}{b:Nat}{K:Kn}{w:Us}(hS:Sat V w)(hI:∀b o x,Im b o=some x->w.cell? ⟨b,o,none⟩=some x)(hb:w.heap[b]?=some (sU K)):∀o,V.ah b o=none/\Im b o=none:=λo=>by
 have hc:w.cell? ⟨b,o,none⟩=none:=by simp[VA,hb,sU]
 constructor
 ·cases h:V.ah b o with
  |none=>rfl
  |some v=>have:=hS.ah b o v h;rw[hc]at this;cases this
 ·cases h:Im b o with
  |none=>rfl
  |some v=>have:=hI b o v h;rw[hc]at this;cases this
section
variable {x:aj}{deep:Int}{n:Nat}{Hs:SA}{E:Env}{c Wg:Nat}{js:SE}{D:Kn}{rv dv fv:T9}{T T':SH}{G G':SA}{E1 E2:Env}{V1 V2:View}{a1 a2:Act}
def aov(hx:x.Ok)(hA:yn x)(Ek:n<=4)(Ba:E.n<=Hs.length)(bN:bJ Hs)(h:F6 x deep n Hs E c Wg rv dv fv js D (jK Hs) [] E1 V1 a1){Q:SJ}
  (hQ:∀j D' E2 V2 a2,j∉js->F6 x deep n Hs E c Wg rv dv fv (js++[j]) D' (jK Hs) [] E2 V2 a2->Q .normal a2 V2)
  (G8:∀E2 V2 a2 G,At E2 V2 ⟨[(4,.op (Hs.length+2) 0)],Hs++([.part 6 x.l 73,.part 1 [iv deep] 3,.cells (D.l (Hs.length+5)) 85,.part 1 [.val (.chan (some c))] 166,.gone,setH D.aQ]++G)⟩ a2 35->E.Lo E2->a2.defers=[]->V2.deaf=0->V2.role=.plain->(∀b y,E.fr b=some y->E2.fr b=some y)->(∀k,k<n->k∈js)->Q .ret a2 V2):WP true BI none acf Q a1 V1:=by
 refine wp_block (id:=3) (wp_seq ?_);refine Jx (K:=λs'=>look s'.T 26=some (.val (.chan (some c)))/\s'.Sub ⟨jK Hs,Hs++(dE x deep c++(iQ Hs D++[]))⟩) 1 7 rfl (by kernel_rfl) h.ok.ak ?_ λE3 V3 a3 s3 xq rk hK=> ?_
 ·unfold jK dE iQ;(try simp only[seval]);exact ep (by simp only[seval];simp[bE,Wk.refl]) rfl
 obtain⟨l26,mj⟩:=hK;have dJ:=h.ok.step xq (rk.sub mj);have ro3:V3.role=.recv c Wg (nN x deep n js):=xq.role.trans h.role;have e26:a3.eval (.tmp 26)=.chan (some c):=ve (rk.tok 26 _ l26).2;obtain⟨ti,xB,hzi⟩:=Uj.1 F.Qh;refine au8 rfl rfl (.inr ?_);refine⟨rfl,c,Wg,nN x deep n js,.both,85,ti,_,e26,by kernel_rfl,xB,hzi,ro3,dJ.deaf,λj sp S v Im Ow r1 r2 r3 r4 r5=> ?_,λhS=> ?_⟩
 ·
  obtain⟨qq,iX,rfl,rfl⟩:=ati r1;obtain⟨b,hv,L1⟩:=r2;have yT:bW (iz x deep j):=hA.work hx (by omega);have hWn:(iz x deep j).aQ.Nodup:=au3;obtain⟨W,hW⟩:∃W,W=iz x deep j:=⟨_,rfl⟩;rw[<- hW]at hv L1 yT hWn;let qT:View:={V3 with ah:=λb o=>match V3.ah b o with|some x=>some x|none=>Im b o,role:=.recv c Wg ((nN x deep n js).set j [])};obtain⟨ack,Rg⟩:=dJ.ak.bx.aoV (V':=qT) rfl (λb o v e=>by show (match V3.ah b o with|some x=>some x|none=>Im b o)=some v;rw[e]) (λb o hb e=>by show (match V3.ah b o with|some x=>some x|none=>Im b o)=none;rw[e];apply Uv;intro aN;exact absurd e (r4 b o hb aN)) rfl rfl (λhm=>by rw[dJ.main]at hm;cases hm);have LZ:Ow b=some (sU W):=by rw[L1];simp
  obtain⟨w,hSw,hIw,hww⟩:=r5;have jD:=apw hSw hIw (hww b _ LZ);have eO:V3.own b=none:=by apply Uv;intro aN;have:=r3 b aN;rw[LZ]at this;cases this
  have My:qT.fresh b:=⟨eO,λo=>by show (match V3.ah b o with|some x=>some x|none=>Im b o)=none;rw[(jD o).1];exact(jD o).2⟩;have amR:E3.n=Hs.length+7:=by rw[dJ.ak.bx.n];simp[dE,iQ]
  have tR:=Rg.add My (sU W) (x:=.obj (sU W)) ⟨by rw[Env.dP];simp[View.upd],rfl,rfl,λo=>by rw[Env.dP];exact My.2 o⟩ (λb' e=>by simp only[bP,Env.dP,Ul]at e;exact e.symm);have hV4:qT.upd b (sU W)={V3 with ah:=λb o=>match V3.ah b o with|some x=>some x|none=>Im b o,own:=λb=>match V3.own b with|some x=>some x|none=>Ow b,role:=.recv c Wg ((nN x deep n js).set j [])}:=by
   have:(λb'=>if b'=b then some (sU W)else V3.own b')=λb=>match V3.own b with|some x=>some x|none=>Ow b:=by
    funext b';by_cases hb:b'=b;subst hb;rw[if_pos rfl,eO,LZ]
    ·rw[if_neg hb];cases de:V3.own b' with
     |some y=>rfl
     |none=>simp[L1,hb]
   show View.mk _ _ _ _=View.mk _ _ _ _;congr 1
  have hEb:(({E3 with I:=qT.ah}:Env).add b qT.ah).blk (Hs.length+7)=b:=by rw[<- amR];exact Env.dP ({E3 with I:=qT.ah}:Env) b _
  have Od:E3.Le (({E3 with I:=qT.ah}:Env).add b qT.ah):=ack.trans (Env.qE _ b λ_ _ _ e=>e);have amY:(({E3 with I:=qT.ah}:Env).add b qT.ah).n=Hs.length+8:=by show E3.n+1=_;omega
  rw[hV4]at tR;generalize hE4:(({E3 with I:=qT.ah}:Env).add b qT.ah)=E4 at tR hEb Od amY;have bm:ay E4 (.aJ [.agg (W.l (Hs.length+7)),bv true]) (.tuple #[v,.bool true]):=by
   subst hv;refine .aJ rfl λq a e=> ?_
   match q,e with
   |0,e=>cases e;exact aos hEb (by omega)
   |1,e=>cases e;exact .val _
  have alX:Hs++(dE x deep c++(iQ Hs D++[]))++[aa.obj (sU W)]=Hs++(dE x deep c++(iQ Hs D++[setH W.aQ])):=by simp[setH,sU]
  rw[alX]at tR;clear hV4 hE4 Rg ack My;generalize aaK:({V3 with ah:=λb o=>match V3.ah b o with|some x=>some x|none=>Im b o,own:=λb=>match V3.own b with|some x=>some x|none=>Ow b,role:=.recv c Wg ((nN x deep n js).set j [])}:View)=V4 at tR;have I5:V4.role=.recv c Wg (nN x deep n (js++[j])):=by rw[<- aaK];show nT.recv c Wg _=_;rw[atk]
  have de4:V4.deaf=V3.deaf:=by rw[<- aaK]
  have sB:At E4 V4 ⟨(27,.aJ [.agg (W.l (Hs.length+7)),bv true])::jK Hs,Hs++(dE x deep c++(iQ Hs D++[setH W.aQ]))⟩ (a3.put (some 27) (.tuple #[v,.bool true])) 35:=⟨tR,(dJ.ak.tok.mono Od).put (by rw[dJ.ak.size];omega) bm,(ek a3 (some 27) _).trans dJ.ak.size⟩;have kj:jP x deep Hs E c Wg rv dv fv ((27,.aJ [.agg (W.l (Hs.length+7)),bv true])::jK Hs) (iQ Hs D++[setH W.aQ]) E4 V4 (a3.put (some 27) (.tuple #[v,.bool true])):=
   dJ.Jh Od (put_defers a3 _ _) de4 sB
  have G9:=Kn.len yT (Hs.length+7);refine PW ⟨(10,bv true)::(9,.op (Hs.length+8) 0)::jK Hs,Hs++(dE x deep c++(iQ Hs D++[setH W.aQ,.cells (W.l (Hs.length+7)) 85]))⟩ rfl (by kernel_rfl) sB ?_ λE5 V5 a5 g_ kD=> ?_
  ·unfold jK dE iQ;(try simp only[seval,G9]);exact⟨v7 _ _,ep (by simp only[seval];simp[bE,Wk.refl]) rfl⟩
  have cL:=kj.step g_ kD;have Fs:V5.role=.recv c Wg (nN x deep n (js++[j])):=g_.role.trans I5;refine wp_seq (wp_seq ?_);refine cL.to ((31,bv false)::(9,.op (Hs.length+8) 0)::jK Hs) (iQ Hs D++[setH W.aQ,.cells (W.l (Hs.length+7)) 85]) ?_ λE6 V6 a6 MT pk=> ?_
  ·unfold jK dE iQ;refine ai ?_;exact ep (by simp only[seval];simp[bE,Wk.refl]) rfl
  refine PS pk.ak rfl ?_;refine wp_skip ?_;refine aho (λhs:List (SD)=>hs.Perm W.aQ) (λhs=>⟨jK Hs,Hs++(dE x deep c++(iQ Hs (iE D hs W)++[setH W.aQ,.cells (W.l (Hs.length+7)) 85]))⟩) pk.ak ?_ λhs E7 V7 a7 Nb pu Mb=> ?_
  ·unfold jK dE iQ;refine ab ?_;simp only[seval,G9];rw[Tu (i:=28) (by omega)];refine aK (ajT (fp:=Hs.length+6) (mp:=Hs.length+5) (mg:=Hs.length+7) h.kn yT (by omega) (by omega) (by rw[aP];rfl) (by rw[aP];rfl) (by rw[aP];rfl) hWn ?_);intro hs hp;rw[cG,cG];(try simp only[seval]);exact⟨hs,hp,ep (by simp only[seval];simp[bE,Wk.refl]) rfl⟩
  have D1:=pk.step pu Mb;have fW:=jP.cut (T':=jK Hs) D1 Ba (by unfold jK iQ;simp only[W3,T5,false_imp_iff,implies_true,and_true,look,asg,if_false,if_true,Ul,exists_eq_left',Wk.refl,true_and,acB,U4,Vz];omega) (aot bN);have jW:oU x deep (js++[j]) (iE D hs W):=by rw[hW]at Nb⊢;exact h.ab6.snoc Nb
  refine hQ j (iE D hs W) _ V7 a7 iX ⟨by rw[Ts];exact fW,?_,jW,ab5 h.kn yT Nb,?_,?_⟩;rw[pu.role,MT.role];exact Fs;rw[Wo];exact⟨h.nodup,by simp,λa ha b hb=>by rw[Ub.1 hb];exactλe=>iX (e▸ha)⟩;intro k hk;rcases T1.1 hk with h'|h';exact h.lt k h';rw[Ub.1 h'];exact qq
 ·
  have fL:=ath hS;let V4:View:={V3 with role:=.plain};have tR:Conc (E3.frame E3.fr) V4 (Hs++(dE x deep c++(iQ Hs D++[]))):=
   dJ.ak.bx.zY (V':=V4) _ rfl (λ_ _ _ _ _ _ h=>h) (λg hg=>by cases hg) (λg hg=>by cases hg) (λhm=>by rw[dJ.main]at hm;cases hm) dJ.ak.bx.fr
  have bm:ay E3 (.aJ [.agg gp,bv false]) (.tuple #[.agg P6.toArray,.bool false]):=by
   refine .aJ rfl λq a e=> ?_
   match q,e with
   |0,e=>cases e;exact aiy P6
   |1,e=>cases e;exact .val _
  have sB:At E3 V4 ⟨(27,.aJ [.agg gp,bv false])::jK Hs,Hs++(dE x deep c++(iQ Hs D++[]))⟩ (a3.put (some 27) (.tuple #[.agg P6.toArray,.bool false])) 35:=⟨tR,dJ.ak.tok.put (by rw[dJ.ak.size];omega) bm,(ek a3 (some 27) _).trans dJ.ak.size⟩;have kj:=dJ.Jh (V2:=V4) (Env.Le.refl E3) (put_defers a3 (some 27) _) rfl sB;have mQ:gp.length=28:=rfl;have fV:=Kn.len h.kn (Hs.length+5);refine PW ⟨(10,bv false)::jK Hs,Hs++(dE x deep c++(iQ Hs D++[.cells gp 85]))⟩ rfl (by kernel_rfl) sB ?_ λE5 V5 a5 g_ kD=> ?_
  ·unfold jK dE iQ;(try simp only[seval,mQ]);exact⟨λa ha=>by simp only[gp,Tm,T1,XO]at ha;rcases ha with rfl|rfl|⟨_,rfl⟩|⟨_,rfl⟩<;>rfl,ep (by simp only[seval];simp[bE,Wk.refl]) rfl⟩
  have cL:=kj.step g_ kD;refine wp_seq (wp_seq ?_);refine cL.to ((31,bv true)::jK Hs) (iQ Hs D++[.cells gp 85]) ?_ λE6 V6 a6 MT pk=> ?_
  ·unfold jK dE iQ;refine ai ?_;exact ep (by simp only[seval];simp[bE,Wk.refl]) rfl
  refine PS pk.ak rfl ?_;refine wp_seq ?_;refine AE ⟨[(4,.op (Hs.length+2) 0)],Hs++([.part 6 x.l 73,.part 1 [iv deep] 3,.cells (D.l (Hs.length+5)) 85,.part 1 [.val (.chan (some c))] 166,.gone,setH D.aQ]++[.cells (D.l (Hs.length+5)) 85,.cells gp 85])⟩ pk.ak ?_ λE7 V7 a7 pu Mb=> ?_
  ·unfold jK dE iQ;refine ab ?_;simp only[seval,fV,mQ];rw[Tu (i:=28) (l:=D.l (Hs.length+5)) (by omega)];exact⟨fV,by omega,v7 _ _,ep (by simp only[seval];simp[bE,Wk.refl]) (by rw[fV,UX (by rw[mQ];exact Tv _),Ts])⟩
  refine wp_ret ?_;exact G8 E7 V7 a7 _ Mb (pk.lo.trans pu.le.lo) (pu.defers.trans pk.defers) (pu.deaf.trans pk.deaf) (pu.role.trans (MT.role.trans g_.role)) (λb y e=>by rw[pu.le.fr];exact(pk.fr b y e).1) fL
end
open Go.Conc Go.Proofs Go.Gg.Tk
def asb{P:Tl}{rs:SW}{fn:aw5}{nt:Nat}{k kp:SF}{E E':Env}{V V':View}{H L G:SA}{T:SH}{a':Act}{av:AV}(hr:fn.results=rs.toArray)(ak:At E' V' ⟨T,H.map strip++(L++G)⟩ a' nt)(py:E.Lo E')(hc:Conc E V H)(cr:V'.role=V.role)(fB:V'.deaf=V.deaf)(hf:∀b y,E.fr b=some y->E'.fr b=some y)
  (fu:iF P ⟨T,H.map strip++(L++G)⟩ rs=some [av]) (hL:L.map strip=L) (an:bJ (H.map strip++L)) (hlt:Lt (H.length+L.length) av) (hk:k av (H++L)):∃v,aT P V' (results fn a'.tmps) (λx aZ=>x=v/\aZ=V') (λ_ _=>False)/\gR E V k kp (.ret v) V':=by
 obtain⟨vs,hl,mm,zk⟩:=I3 ak rs [av] fu;obtain⟨v,rfl⟩:∃v,vs=[v]:=List.length_eq_one_iff.1 hl;have bm:ay E' av v:=mm 0 av rfl;have rH:aT P V' (results fn a'.tmps) (λx aZ=>x=v/\aZ=V') (λ_ _=>False):=by unfold results;rw[hr,Zc];refine aA ?_;refine aA (zk ?_);refine az (az ⟨?_,rfl⟩);simp
 have Mj:=ak.bx;dsimp only at Mj;rw[<- Ev]at Mj;have fW:=Mj.trim (H:=H.map strip++L) (G:=G) an;have hlen:(H.map strip++L).length=H.length+L.length:=by simp
 rw[hlen]at fW;have vO:(H++L).map strip=H.map strip++L:=by rw[UA,hL]
 rw[<- vO]at fW;refine⟨v,rH,av,((({E' with n:=H.length+L.length}:Env).fO E.main).frame E.fr),H++L,?_,cr,fB,?_,fW.ar2 E.main E.fr (λk e=> ?_) (λe=>by rw[cr,fB];exact hc.top e) hf,hk⟩;refine Env.Lo.le (E':={E' with n:=H.length+L.length}) ⟨py.I,?_,py.blk,py.gn,py.room⟩;show E.n<=H.length+L.length;rw[hc.n];omega;exact((bm.trim hlt).fO E.main).frame E.fr;by_cases Ee:k<H.length;rw[T6 Ee]at e;exact⟨(hc.obj k _ e).1,(hc.obj k _ e).2.mono py.I⟩;rw[Uc (by omega)]at e;have h2:(L.map strip)[k-H.length]?=some .gone:=(by rw[Ur,e];rfl);rw[hL,e]at h2;cases h2
section
variable {x:aj}{deep:Int}{Hs:SA}{E:Env}{c Wg p:Nat}{rv dv fv:T9}{T:SH}{E1:Env}{V1:View}{a1:Act}
def aow(hx:x.Ok)(hA:yn x)(hp:x.am=p)(Ba:E.n<=Hs.length)(bN:bJ Hs)(h:wE x deep Hs E c Wg rv dv fv 0 [(6,.val (pW Wg 0)),(5,.op (Hs.length+3) 0),(4,.op (Hs.length+2) 0),(3,.op (Hs.length+1) 0),(2,.op Hs.length 0)] [] E1 V1 a1){Q:SJ}
  (hQ:∀js D E2 V2 a2 G,js.Perm (Tt (p+1))->oU x deep js D->bW D->At E2 V2 ⟨[(4,.op (Hs.length+2) 0)],Hs++([.part 6 x.l 73,.part 1 [iv deep] 3,.cells (D.l (Hs.length+5)) 85,.part 1 [.val (.chan (some c))] 166,.gone,setH D.aQ]++G)⟩ a2 35->E.Lo E2->a2.defers=[]->V2.deaf=0->V2.role=.plain->(∀b y,E.fr b=some y->E2.fr b=some y)->Q .ret a2 V2):WP true BI none mS Q a1 V1:=by
 have hp3:p<=3:=by have:=hx.am;omega
 have am9:bJ (Hs++(dE x deep c++[])):=acg bN (by simp);refine wp_seq (x:=cf mS) (wp_seq (x:=cf (cf mS)) ?_);refine h.ok.to (jU Hs Wg ((p+1:Nat):Int) 0) [] ?_ λE2 V2 a2 cO cg=> ?_
 ·show aW true BI none 35 (cf (cf mS)) _ _;unfold jU dE;have hw:Tg.wrap (x.am+1)=((p+1:Nat):Int):=by rw[hp,bt _ (by omega)];rfl
  refine ab ?_;simp only[seval,TM,hw];exact ep (by simp only[seval];simp[bE,Wk.refl]) rfl
 have h2:wE x deep Hs E c Wg rv dv fv 0 (jU Hs Wg ((p+1:Nat):Int) 0) [] E2 V2 a2:=h.step cO cg;refine wp_block (id:=0) (c:=.loop (ci (ci (cs (cf mS))))) ?_;refine wp_loop (λm a' V'=>∃E' i,m=p+1-i/\i<=p+1/\wE x deep Hs E c Wg rv dv fv i (jU Hs Wg ((p+1:Nat):Int) i) [] E' V' a') (p+1) ⟨E2,0,rfl,by omega,h2⟩ λm a3 V3 hI=> ?_;obtain⟨E3,i,rfl,hi,h3⟩:=hI;refine wp_seq (x:=cf (ci (ci (cs (cf mS))))) (y:=cs (ci (ci (cs (cf mS))))) ?_;refine h3.ok.to ((17,bv (decide ((i:Int)<((p+1:Nat):Int))))::jU Hs Wg ((p+1:Nat):Int) i) [] ?_ λE4 V4 a4 sH kj=> ?_
 ·show aW true BI none 35 (cf (ci (ci (cs (cf mS))))) _ _;unfold jU dE;refine ai ?_;exact ep (by simp only[seval];simp[bE,Wk.refl]) rfl
 have sr:=h3.step sH kj;refine wp_seq (x:=.cond (.tmp 17) .skip (.exit 0)) (y:=cs (cs (ci (ci (cs (cf mS)))))) (PS kj.ak rfl ?_);by_cases hik:i<p+1;(rw[show decide ((i:Int)<((p+1:Nat):Int))=true from decide_eq_true (by omega)];refine wp_skip ?_;have al7:jP x deep Hs E c Wg rv dv fv (jU Hs Wg ((p+1:Nat):Int) i) [] E4 V4 a4:=kj.Jh (Env.Le.refl E4) rfl rfl (kj.ak.sub (ep (by unfold jU dE;simp only[seval];simp[bE,Wk.refl]) rfl));exact aou hx hA Ba am9 ⟨al7,sr.role,sr.GR,sr.Du⟩ (by omega) rfl λE5 V5 a5 h5=>⟨p+1-(i+1),by omega,E5,i+1,rfl,by omega,h5⟩);have dL:i=p+1:=by omega
 subst dL;rw[show decide (((p+1:Nat):Int)<((p+1:Nat):Int))=false by simp];refine wp_exit ?_;refine wp_seq (x:=cf (cs mS)) (y:=cs (cs mS)) ?_;refine Jx (K:=λs'=>look s'.T 22=some (.fn (.func 123) [] [.val (pW Wg 0),.op (Hs.length+3) 0])/\s'.Sub ⟨[(5,.op (Hs.length+3) 0),(4,.op (Hs.length+2) 0)],Hs++(dE x deep c++[])⟩) 1 1 rfl (by kernel_rfl) kj.ak ?_ λE5 V5 a5 s5 g_ kD hK=> ?_
 ·unfold jU dE;(try simp only[seval,U6,VB,Vk,UW]);exact ep (by simp only[seval];simp[bE,Wk.refl]) rfl
 obtain⟨l22,mj⟩:=hK;have cL:=kj.step g_ (kD.sub mj);have Fs:V5.role=.fork c Wg (pN x deep (p+1)):=g_.role.trans sr.role;have w6:E5.fr c=some tQ:=by rw[g_.le.fr];exact sr.GR
 have Dv:E5.fr Wg=some (wgBlock BI (((p+1:Nat):Int)* 4294967296) 0):=by rw[g_.le.fr];exact sr.Du
 obtain⟨c1,c2,c3⟩:=cL.ak.bx.fr c _ w6;obtain⟨v1,v2,v3⟩:=cL.ak.bx.fr Wg _ Dv;have e22:a5.eval (.tmp 22)=.func (.func 123) #[] #[pW Wg 0,fv]:=by
  obtain⟨fa,ca,q1,q2,q3⟩:=Rt (kD.tok 22 _ l22).2;rw[GA q2]at q1;refine q1.trans ?_;have eJ:ca.size=2:=q3.1;have k0:=ve (q3.2 0 _ rfl);have k1:=Dl (q3.2 1 _ rfl);rw[<- cL.ef]at k1;congr 1;refine Array.ext eJ λj h1 h2=> ?_;have hj:j=0\/j=1:=by omega
  rw[Th,Tj (by omega)]at k0 k1;rcases hj with rfl|rfl;exact k0;exact k1
 have hfc:V5.ah (E5.blk (Hs.length+3)) 0=some (.chan (some c)):=by
  have bC:=cL.df;rw[cL.ef]at bC;generalize hp:(Zs (some ⟨E5.blk (Hs.length+3),0,none⟩))=pv at bC;cases bC with
  |rp b o f h1 h2=>cases hp;have:=h1 0 (by simp);rw[cL.ak.bx.I]at this;rw[Vr]at this;rw[this,ve (h2 0 _ rfl)]
 refine PV rfl rfl ?_;refine⟨rfl,.tmp 22,123,#[],_,rfl,e22,cL.deaf,.inr ⟨c,Wg,_,Fs,cL.ne,c1,?_,c2,v2,?_,?_⟩⟩;rw[v1,Pw];(have:=aig Wg (E5.blk (Hs.length+3)) c (Im:=V5.ah) hfc;rw[cL.ef];simpa[pW]using this);let V6:View:={V5 with own:=λb=>if b=c\/b=Wg then none else V5.own b,role:=.recv c Wg (pN x deep (p+1))};let f6:Nat->Option Obj:=λb=>if b=c\/b=Wg then none else E5.fr b;have Kx:Conc (E5.frame f6) V6 (Hs++(dE x deep c++[])):=by refine cL.ak.bx.zY (V':=V6) _ rfl (λb z k w hk kS hz=> ?_) (λg hg=>by cases hg) (λg hg=>by cases hg) (λhm=>by rw[cL.main]at hm;cases hm) (λb y hb=> ?_);have n1:b≠c:=cL.ak.bx.Fe w6 hk kS;have n2:b≠Wg:=cL.ak.bx.Fe Dv hk kS;show (if b=c\/b=Wg then none else V5.own b)=some z;rw[if_neg (λe=>e.elim n1 n2)];exact hz;by_cases Bj:b=c\/b=Wg;simp only[f6,if_pos Bj]at hb;cases hb;simp only[f6,if_neg Bj]at hb;obtain⟨q1,q2,q3⟩:=cL.ak.bx.fr b y hb;refine⟨?_,q2,q3⟩;show (if b=c\/b=Wg then none else V5.own b)=some y;rw[if_neg Bj];exact q1
 have pk:jP x deep Hs E c Wg rv dv fv [(5,.op (Hs.length+3) 0),(4,.op (Hs.length+2) 0)] [] (E5.frame f6) V6 (a5.put none undef):=by refine⟨⟨Kx,cL.ak.tok.frame _,cL.ak.size⟩,cL.lo.trans (Env.Iv E5 f6),cL.main,cL.defers,cL.deaf,cL.er,cL.ed,cL.ef,cL.dr.frame f6,cL.dd.frame f6,cL.df.frame f6,λb y e=> ?_,cL.ne⟩;obtain⟨q1,q2,q3⟩:=cL.fr b y e;refine⟨?_,q2,q3⟩;show (if b=c\/b=Wg then none else E5.fr b)=some y;rw[if_neg (λe=>e.elim q2 q3)];exact q1
 show WP true BI none (.seq (cf (cs (cs mS))) (cs (cs (cs mS)))) Q (a5.put none undef) V6;refine wp_seq ?_;refine pk.to (jK Hs) (iQ Hs Kn.zero) ?_ λE7 V7 a7 pu D1=> ?_
 ·show aW true BI none 35 (cf (cs (cs mS))) _ _;unfold jK dE iQ;refine ai ?_;exact ep (by simp only[seval];simp[bE,Wk.refl]) rfl
 refine wp_block (id:=2) (c:=.loop acf) ?_;have ce:F6 x deep (p+1) Hs E c Wg rv dv fv [] Kn.zero (jK Hs) [] E7 V7 a7:=⟨by rw[Ts];exact D1,by rw[pu.role,atj],.nil,EP,XU,λj hj=>by cases hj⟩;refine wp_loop (λm a' V'=>∃E' js D,m=p+1-js.length/\F6 x deep (p+1) Hs E c Wg rv dv fv js D (jK Hs) [] E' V' a') _ ⟨E7,[],Kn.zero,rfl,ce⟩ λm a8 V8 hI=> ?_;obtain⟨E8,js,D,rfl,h8⟩:=hI;have hlen:∀js:SE,js.Nodup->(∀j∈js,j<p+1)->js.length<=p+1:=λjs hn hl=>by
  have:=hn.length_le_of_subset (l₂:=Tt (p+1)) λj hj=>by simpa using hl j hj
  simpa using this
 refine aov hx hA (by omega) Ba bN h8 (λj D' E9 V9 a9 hj h9=> ?_) λE9 V9 a9 G al0 Oi KI Ky Pk yL fL=> ?_
 ·have h1:=hlen _ h9.nodup h9.lt;simp only[Tp,Uw]at h1;exact⟨p+1-(js++[j]).length,by simp;omega,E9,js++[j],D',rfl,h9⟩
 ·have Nd:js.Perm (Tt (p+1)):=by refine(List.perm_ext_iff_of_nodup h8.nodup Y').2 λk=> ?_;rw[UB];exact⟨h8.lt k,fL k⟩
  exact hQ js D E9 V9 a9 G Nd h8.ab6 h8.kn al0 Oi KI Ky Pk yL
end
def akO{x:aj}{deep:Int}{p:Nat}{H:SA}{k kp:SF}(hx:x.Ok)(hA:yn x)(hp:x.am=p)(hm:H[0]?=some .main)(hk:∀js D L,js.Perm (Tt (p+1))->oU x deep js D->bW D->L.length=5->k (.agg (D.l (H.length+5))) (H++(L++[setH D.aQ]))):aS true BI 98 H [x.av,iv deep] k kp:=by
 intro E V vs hc hd;have hEm:E.main=true:=(hc.obj 0 _ hm).1;obtain⟨jG,vC⟩:=hc.top hEm;have hn:E.n=H.length:=hc.n;refine Q2 (by simp) F.f98 rfl ?_;have rj:At (E.fO false) V ⟨[(0,x.av),(1,iv deep)],H.map strip⟩ {tmps:=vs++US (Y3.ntmps-vs.size) undef,defers:=[]} 35:=by have:=Dc (nt:=35) hc hd (by simp);exact⟨hc.aiv,this.tok.fO false,this.size⟩
 have hlen:(H.map strip).length=H.length:=Um _;have M9:bJ (H.map strip):=rj.bx.an
 suffices qt:∀Hs,H.map strip=Hs->WP true BI none v8 (Ends BI Y3 (gR E V k kp)) {tmps:=vs++US (Y3.ntmps-vs.size) undef,defers:=[]} V from qt _ rfl
 intro Hs bN;rw[bN]at rj hlen M9;have aaN:({tmps:=vs++US (Y3.ntmps-vs.size) undef,defers:=[]}:Act).defers=[]:=rfl;generalize({tmps:=vs++US (Y3.ntmps-vs.size) undef,defers:=[]}:Act)=a0 at rj aaN;refine wp_seq (x:=cf v8) (y:=cs v8) ?_;refine AE ⟨[(4,.op (Hs.length+2) 0),(3,.op (Hs.length+1) 0),(2,.op Hs.length 0)],Hs++[.cells x.l 73,.cells [iv deep] 3,.cells gp 85]⟩ rj ?_ λE2 V2 a2 cO vw=> ?_
 ·show aW true BI none 35 (cf v8) _ _;simp only[aj.av];refine ai ?_;exact ep (by simp only[seval];simp[bE,Wk.refl]) rfl
 obtain⟨ti,xB⟩:∃i,BI.info? 85=some i:=Option.isSome_iff_exists.1 (by kernel_rfl);refine wp_seq (x:=cf (cs v8)) (y:=cs (cs v8)) (afg rfl rfl (aqr rfl (d:=.both) (el:=85) (by kernel_rfl) xB λc nA=> ?_));let f3:Nat->Option Obj:=λb=>if b=c then some tQ else E2.fr b;have rk:At (E2.frame f3) (V2.upd c tQ) ⟨[(11,.val (.chan (some c))),(4,.op (Hs.length+2) 0),(3,.op (Hs.length+1) 0),(2,.op Hs.length 0)],Hs++[.cells x.l 73,.cells [iv deep] 3,.cells gp 85]⟩ (a2.put (some 11) (.chan (some c))) 35:=
  ⟨vw.bx.alp nA tQ,(vw.tok.frame _).put (by rw[vw.size];omega) (.val _),(ek a2 (some 11) _).trans vw.size⟩
 refine PW ⟨[(5,.op (Hs.length+3) 0),(4,.op (Hs.length+2) 0),(3,.op (Hs.length+1) 0),(2,.op Hs.length 0)],Hs++[.cells x.l 73,.cells [iv deep] 3,.cells gp 85,.cells [.val (.chan (some c))] 166]⟩ rfl (by kernel_rfl) rk ?_ λE4 V4 a4 sH sB=> ?_
 ·(try simp only[seval,aqH,avt,aoG]);exact ep (by simp only[seval];simp[bE,Wk.refl]) rfl
 refine wp_seq (x:=cf (cs (cs v8))) (y:=mS) ?_;refine AE ⟨[(6,.op (Hs.length+4) 0),(5,.op (Hs.length+3) 0),(4,.op (Hs.length+2) 0),(3,.op (Hs.length+1) 0),(2,.op Hs.length 0)],Hs++[.cells x.l 73,.cells [iv deep] 3,.cells gp 85,.cells [.val (.chan (some c))] 166,.cells [.val (.int .u64 0),.val (.int .u32 0)] 174]⟩ sB ?_ λE5 V5 a5 g_ kD=> ?_
 ·show aW true BI none 35 (cf (cs (cs v8))) _ _;refine ai ?_;exact ep (by simp only[seval];simp[bE,Wk.refl]) rfl
 obtain⟨wcs,NF,hwo,zA,D4⟩:=kD.bx.alq (id:=Hs.length+4) (aP _ _ 4);have anX:=Rx (l:=[.int .u64 0,.int .u32 0]) NF;subst anX;rw[cG]at D4;simp only[Vs,U1]at D4;have RP:=kD.auW (t:=6) (id:=Hs.length+4) (off:=0) rfl;have fr5:E5.fr=f3:=g_.le.fr.trans sH.le.fr;have w6:E5.fr c=some tQ:=by rw[fr5];simp[f3]
 have aN:c≠E5.blk (Hs.length+4):=λe=>kD.bx.Fe w6 (aP Hs _ 4) rfl e.symm;have frE:∀b y,E.fr b=some y->E5.fr b=some y/\b≠c/\b≠E5.blk (Hs.length+4):=λb y hb=>by
  have h2:E2.fr b=some y:=by rw[cO.le.fr];exact hb
  have Bj:b≠c:=λe=>by subst e;have:=(vw.bx.fr b y h2).1;rw[nA.1]at this;cases this
  have h5:E5.fr b=some y:=by rw[fr5];simp[f3,Bj,h2]
  exact⟨h5,Bj,λe=>kD.bx.Fe h5 (aP Hs _ 4) rfl e.symm⟩
 generalize Bc:E5.blk (Hs.length+4)=Wg at hwo zA D4 RP aN frE;let f6:Nat->Option Obj:=λb'=>if b'=Wg then some (wgBlock BI 0 0)else E5.fr b';have aaX:Conc (E5.frame f6) V5 (Hs++[.cells x.l 73,.cells [iv deep] 3,.cells gp 85,.cells [.val (.chan (some c))] 166,.gone]):=by
  have:(λb'=>if b'=Wg then some (Obj.cells #[.int .u64 0,.int .u32 0] 174 (0,0))else E5.fr b')=f6:=by funext b';simp only[f6,wgBlock,wgT]
  rw[<- this];exact D4
 have DU:At (E5.frame f6) V5 ⟨[(6,.val (pW Wg 0)),(5,.op (Hs.length+3) 0),(4,.op (Hs.length+2) 0),(3,.op (Hs.length+1) 0),(2,.op Hs.length 0)],Hs++[.cells x.l 73,.cells [iv deep] 3,.cells gp 85,.cells [.val (.chan (some c))] 166,.gone]⟩ a5 35:=by refine⟨aaX,λt av e=> ?_,kD.size⟩;by_cases ht:t=6;subst ht;cases e;refine⟨by rw[kD.size];omega,?_⟩;have:a5.tmps.getD 6 undef=pW Wg 0:=RP;rw[this];exact .val _;refine(kD.tok.frame f6) t av ?_;simp only[look]at e⊢;rw[if_neg (Ne.symm ht)]at e⊢;exact e
 clear D4 aaX;have lo6:E.Lo (E5.frame f6):=((((E.apd false).trans cO.le.lo).trans (Env.Iv E2 f3)).trans (sH.le.lo.trans g_.le.lo)).trans (Env.Iv E5 f6);have Oq:(E5.frame f6).main=false:=g_.le.main.trans (sH.le.main.trans cO.le.main);have ais:a5.defers=[]:=g_.defers.trans (sH.defers.trans ((put_defers a2 _ _).trans (cO.defers.trans aaN)));have ro6:V5.role=.plain:=g_.role.trans (sH.role.trans (cO.role.trans jG));have de6:V5.deaf=0:=g_.deaf.trans (sH.deaf.trans (cO.deaf.trans vC));have Ly:(E5.frame f6).fr c=some tQ:=by show f6 c=_;simp only[f6,if_neg aN];exact w6
 have Lz:(E5.frame f6).fr Wg=some (wgBlock BI 0 0):=by show f6 Wg=_;simp[f6]
 have aap:∀b y,E.fr b=some y->(E5.frame f6).fr b=some y/\b≠c/\b≠Wg:=λb y hb=>by obtain⟨q1,q2,q3⟩:=frE b y hb;refine⟨?_,q2,q3⟩;show f6 b=_;simp only[f6,if_neg q3];exact q1
 generalize E5.frame f6=E6 at DU lo6 Oq Ly Lz aap;obtain⟨V7,g7,o7,r7,d7,xG,Gv,Rp⟩:=DU.bx.I0 (id:=Hs.length) (aP _ _ 0) 6 (by simp[TM]);rw[show Hs.length=Hs.length+0 from rfl,cG]at Gv;simp only[U1]at Gv;have aeM:=DU.tok.mono xG;generalize hE7:({E6 with I:=V7.ah}:Env)=E7 at xG Gv Rp aeM;obtain⟨V8,g8,o8,r8,d8,v9,Gw,Rq⟩:=Gv.I0 (id:=Hs.length+1) (aP _ _ 1) 1 (by simp);rw[cG]at Gw;simp only[Vs,U1]at Gw;have aeN:=aeM.mono v9;generalize hE8:({E7 with I:=V8.ah}:Env)=E8 at v9 Gw Rq aeN;obtain⟨V9,g9,o9,r9,d9,v_,yz,KB⟩:=Gw.I0 (id:=Hs.length+3) (aP _ _ 3) 1 (by simp);rw[cG]at yz;simp only[Vs,U1]at yz;have aeO:=aeN.mono v_;generalize hE9:({E8 with I:=V9.ah}:Env)=E9 at v_ yz KB aeO;refine WP.ghost g7 (WP.ghost g8 (WP.ghost g9 ?_));have Oi:E.Lo E9:=lo6.trans ((xG.trans v9).trans v_).lo;have Pk:V9.role=.plain:=r9.trans (r8.trans (r7.trans ro6));have Ky:V9.deaf=0:=d9.trans (d8.trans (d7.trans de6));have yL:E9.fr=E6.fr:=v_.fr.trans (v9.fr.trans xG.fr);have n6:E6.n=Hs.length+5:=by rw[DU.bx.n];simp
 have b7:∀k,k<Hs.length+5->E9.blk k=E6.blk k/\E9.blk k=E7.blk k/\E9.blk k=E8.blk k:=λk hk=>by have n7:=xG.n;have n8:=v9.n;have q7:=xG.blk k (by omega);have q8:=v9.blk k (by omega);have q9:=v_.blk k (by omega);exact⟨by rw[q9,q8,q7],by rw[q9,q8],q9⟩
 obtain⟨c1,c2,c3⟩:=yz.fr c tQ (by rw[yL];exact Ly);obtain⟨v1,v2,v3⟩:=yz.fr Wg _ (by rw[yL];exact Lz);refine au7 (c:=c) (Wg:=Wg) rfl Pk aN c1 (by rw[v1];simp) v2 ?_;let JZ:View:={V9 with role:=.fork c Wg []};have aih:Conc (E9.frame E9.fr) JZ (Hs++(dE x deep c++[])):=by refine yz.zY (V':=JZ) _ rfl (λ_ _ _ _ _ _ h=>h) (λg hg=> ?_) (λg hg=> ?_) (λhm=>by rw[v_.main,v9.main,xG.main,Oq]at hm;cases hm) yz.fr;cases hg;exact⟨by show V9.own Wg≠none;rw[v1];simp,v2,v3⟩;cases hg;exact⟨by show V9.own c≠none;rw[c1];simp,c2,c3⟩
 have dr9:ay E9 (.rp x.l) (.pointer (some ⟨E9.blk Hs.length,0,none⟩)):=by have h7:=(Rp.mono v9).mono v_;rw[<- (b7 Hs.length (by omega)).1]at h7;rwa[Tu (by simp[TM])]at h7
 have dd9:ay E9 (.rp [iv deep]) (.pointer (some ⟨E9.blk (Hs.length+1),0,none⟩)):=by have h8:=Rq.mono v_;rw[<- (b7 (Hs.length+1) (by omega)).2.1]at h8;exact h8
 have KI:ay E9 (.rp [.val (.chan (some c))]) (.pointer (some ⟨E9.blk (Hs.length+3),0,none⟩)):=by rw[<- (b7 (Hs.length+3) (by omega)).2.2]at KB;exact KB
 have M5:jP x deep Hs E c Wg (.pointer (some ⟨E9.blk Hs.length,0,none⟩)) (.pointer (some ⟨E9.blk (Hs.length+1),0,none⟩)) (.pointer (some ⟨E9.blk (Hs.length+3),0,none⟩)) [(6,.val (pW Wg 0)),(5,.op (Hs.length+3) 0),(4,.op (Hs.length+2) 0),(3,.op (Hs.length+1) 0),(2,.op Hs.length 0)] [] E9 JZ a5:=
  ⟨⟨aih,aeO,DU.size⟩,Oi,v_.main.trans (v9.main.trans (xG.main.trans Oq)),ais,Ky,rfl,rfl,rfl,dr9,dd9,KI,λb y hb=>by rw[yL];exact aap b y hb,aN⟩
 refine aow hx hA hp (by omega) M9 ⟨M5,rfl,by rw[yL];exact Ly,by rw[yL];exact Lz⟩ λjs D E11 V11 a11 G Nd jW eI aaQ apc air aio asd alo=> ?_;subst bN;have fV:=Kn.len eI (H.length+5);let L5:SA:=[.part 6 x.l 73,.part 1 [iv deep] 3,.cells (D.l (H.length+5)) 85,.part 1 [.val (.chan (some c))] 166,.gone];rw[hlen]at aaQ;refine⟨air,asb (P:=BI) (rs:=[.cell 4 85]) (H:=H) (L:=L5++[setH D.aQ]) (G:=G) (T:=[(4,.op (H.length+2) 0)]) (av:=.agg (D.l (H.length+5))) rfl aaQ apc hc (asd.trans jG.symm) (aio.trans vC.symm) alo ?_ rfl ?_ ?_ (hk js D L5 Nd jW eI rfl)⟩
 ·have hg:(H.map strip++(L5++[setH D.aQ]++G))[H.length+2]?=some (.cells (D.l (H.length+5)) 85):=by have:=aP (H.map strip) (L5++[setH D.aQ]++G) 2;rw[hlen]at this;exact this
  have aI:U9 28 (D.l (H.length+5))=D.l (H.length+5):=Tu (by omega);generalize hLG:H.map strip++(L5++[setH D.aQ]++G)=LG at hg;try simp only[seval,iF,wl,hg,fV,aI,aa.cellsOf]
 ·have hl:H.length=(H.map strip).length:=hlen.symm;intro y hy;have amQ:(H.map strip++(L5++[setH D.aQ])).length=H.length+6:=by simp[L5]
  rw[amQ];rcases T1.1 hy with h|h;exact(M9 y h).mono (by omega);simp only[L5,Tm,T1,T5,or_false]at h;rcases h with(rfl|rfl|rfl|rfl|rfl)|rfl;(exactλa ha=>Iz x _ a ha);intro a ha;simp at ha;subst ha;exact .val _;exact zF (by omega);intro a ha;simp at ha;subst ha;exact .val _;trivial;trivial
 ·refine .agg λa ha=> ?_;exact zF (by simp[L5]) a ha
namespace Tk
def abe{x:aj}{bw:Nat}(h0:0<=x.first)(h90:x.first<=90)(hp:0<=x.am/\x.am<=3):∀(d:Nat)(pre:SD),pre.length+d<=4->pre.head?=some x.first->(∀a∈pre,x.first<=a/\a<=x.first+3* (pre.length-1:Nat))->∀h∈nE x bw d pre,h.length=4/\h.head?=some x.first/\∀a∈h,x.first<=a/\a<=x.first+9
 |0,pre,hl,hh,ha,h,hm=>by
  unfold nE at hm;split at hm
  ·rw[Ub]at hm;subst hm;have aN:pre≠[]:=λe=>(by rw[e]at hh;cases hh);have cX:0<pre.length:=W9.2 aN;have rA:pre.getLastD 0∈pre:=by rw[Wc,Y6 aN];exact apT aN
   refine⟨by simp[cT];omega,by rw[cT,XX,hh];rfl,λa hm=> ?_⟩;have MY:a∈pre:=by rcases T1.1 hm with h|h;exact h;rw[(XO.1 h).2];exact rA
   have:=ha a MY;omega
  ·cases hm
 |d+1,pre,hl,hh,ha,h,hm=>by
  unfold nE at hm;split at hm
  ·obtain⟨n,hn,hm⟩:=T8.1 hm;have jl:n<x.am.toNat+1:=(by simpa using hn);split at hm;cases hm
   ·have aN:pre≠[]:=λe=>(by rw[e]at hh;cases hh);have cX:0<pre.length:=W9.2 aN;have rA:pre.getLastD 0∈pre:=by rw[Wc,Y6 aN];exact apT aN
    refine abe h0 h90 hp d _ (by simp;omega) (by rw[XX,hh];rfl) (λa MY=> ?_) h hm;rw[Tp,Uw];rcases T1.1 MY with h'|h';have:=ha a h';omega;rw[Ub]at h';subst h';have:=ha _ rA;omega
  ·cases hm
def aba{x:aj}{bw:Nat}(hx:x.Ok){h:SD}(hm:h∈kV x bw):nc h:=by
 have hf:=hx.first;have hh:=hx.hours;have hp:=hx.am;obtain⟨h1,h2,h3⟩:=abe (bw:=bw) hf.1 hf.2 ⟨by omega,hp.2⟩ x.hours.toNat [x.first] (by simp;omega) rfl (λa ha=>by rw[Ub]at ha;subst ha;simp) h hm;refine⟨h1,λa ha=>by have:=h3 a ha;omega,λa ha=>by have:=h3 a ha;omega,?_⟩
 match h,h1,h2,h3 with
 |[a,b,c,d],_,h2,h3=>
  have ha:a=x.first:=by simpa using h2
  have:=h3 d (by simp);simp;omega
def ac2:∀{qs:SE}{u:Nat}{t ns:SE},ns∈lc qs u t->∃l,ns=t++l/\l.length=qs.length/\∀(i n q:Nat),l[i]?=some n->qs[i]?=some q->n<9/\q.testBit n=true
 |[],u,t,ns,h=>by simp only[lc,Ub]at h;exact⟨[],by simp[h],rfl,λi n q h1=>by cases h1⟩
 |q::qs,u,t,ns,h=>by
  simp only[lc,T8]at h;obtain⟨n,hn,h⟩:=h;split at h;cases h
  ·rename_i hc;obtain⟨l,h1,h2,h3⟩:=ac2 h;refine⟨n::l,by rw[h1];simp,by simp[h2],λi m q' h4 h5=> ?_⟩
   match i with
   |0=>cases h4;cases h5;refine⟨by simpa using hn,?_⟩;simp at hc;exact hc.2
   |i+1=>exact h3 i m q' h4 h5
def adf{k:Nat}{ns:SE}:∀{qs:SE}{u:Nat}{t os:SE},os∈mV k ns qs u t->∃l,os=t++l/\l.length=qs.length/\∀n∈l,n<k
 |[],u,t,os,h=>by simp only[mV,Ub]at h;exact⟨[],by simp[h],rfl,λn h1=>by cases h1⟩
 |q::qs,u,t,os,h=>by simp only[mV,T8]at h;obtain⟨n,hn,h⟩:=h;split at h;cases h;obtain⟨l,h1,h2,h3⟩:=adf h;refine⟨n::l,by rw[h1];simp,by simp[h2],λm hm=> ?_⟩;rcases Tm.1 hm with rfl|hm;(simpa using hn);exact h3 m hm
def PG:∀{h:SD}{i:Nat}{n a:Int},h.head?=some a->a<=n->n<h.getLastD 0->0<=eW i h n
 |[],i,n,a,h1,_,_=>by cases h1
 |[b],i,n,a,h1,h2,h3=>by simp at h1 h3;omega
 |b::c::l,i,n,a,h1,h2,h3=>by
  have:b=a:=by simpa using h1
  subst this;unfold eW;split;omega;rename_i hc;exact PG (a:=c) rfl (by omega) (by simpa[Wc]using h3)
def auB{x:aj}{h:SD}{ns os:SE}(hx:x.Ok)(hh:nc h)(hn:ns∈gM x h)(ho:os∈iS x h ns):jQ x (dM h ns os):=by
 obtain⟨l,e1,e2,e3⟩:=ac2 hn;simp only[Vv]at e1;subst e1;obtain⟨m,g1,g2,g3⟩:=adf ho;simp only[Vv]at g1;subst g1;rw[Um]at e2 g2;have h4:=hh.len;have HK:=hx.ey;have jH:=hx.di;have EA:(dM h ns os).take 4=h:=by unfold dM;rw[Ev,UD (by omega),Tu (by omega)]
 have cJ:(lU 4 ns).length=4:=B9 (by omega);have hg:∀p,p<ns.length->(dM h ns os)[4+p]?=(ns[p]?).map λn:Nat=>(n:Int):=λp hp=>by unfold dM;rw[Ev,Uc (by omega),T6 (by omega),h4,UU];unfold lU;rw[T6 (by simpa using hp),Ur]
 refine⟨by simp[dM,h4,cJ,B9 (k:=3) (l:=os) (by omega)],by rw[EA];exact hh,λp hp=> ?_,λs hs=> ?_⟩;obtain⟨n,En⟩:=bF (xs:=ns) (i:=p) (by omega);obtain⟨y,hy⟩:=bF hp;obtain⟨q1,q2⟩:=e3 p n (cq h y) En (by rw[Ur,hy];rfl);refine⟨n,by rw[hg p (by omega),En];rfl,q1,?_⟩;rw[EA];unfold cq at q2;rw[Dd]at q2;simp only[Ui,l7,decide_eq_true_eq]at q2;obtain⟨a,b,c,d,rfl,_⟩:=hh.out;have e0:(dM [a,b,c,d] ns os).getD 0 0=a:=rfl;rw[e0];have:=q2.2.1.1;simp at this;exact PG (a:=a) rfl (by omega) (by simp;omega);obtain⟨o,By⟩:=bF (xs:=os) (i:=s) (by omega);refine⟨o,?_,by have:=g3 o (Un By);omega⟩;unfold dM;rw[Uc (by simp[h4,cJ]),show (h++lU 4 ns).length=8 by simp[h4,cJ],UU];unfold lU;rw[T6 (by have:=eF By;simpa using this),Ur,By];rfl
end Tk
def FI{x:aj}(hx:x.Ok):yn x:=λbw _ h hm=>by have hh:=aba hx hm;refine⟨hh,λns gA a ha=> ?_⟩;obtain⟨os,h1,rfl⟩:=Uh.1 ha;exact auB hx hh gA h1
open Go.Conc
section
variable {lv:Bool}{P:Tl}{s:AS}{ms:SE}{bs:S5}{nt:Nat}
def ala{f:UR}{fn:aw5}{c0 c1 c2:U5}{rs:SW}{H:SA}{args:SC}{k kp:SF}(hf:P.funcs[f]?=some fn)(hb:fn.body=some (.seq c0 (.seq c1 c2)))(hr:fn.results=rs.toArray)(hn:fn.ntmps=nt)(cU:args.length<=nt)
  (h:bJ H->(∀a∈args,Lt H.length a)->aW lv P none nt c0 ⟨ba 0 args,H⟩ λe s0=>e=.normal/\CB lv P nt c1 s0 [] (λe s' ly=>e=.normal/\∃c,ly=[c]/\∀bs,kM lv P nt bs c2 s' [] (Au lv P rs H.length c k kp))):aS lv P f H args k kp:=by
 intro E V vs hc hd;have hlt:∀a∈args,Lt H.length a:=λa ha=>by obtain⟨i,hi⟩:=qF ha;rw[<- hc.n];exact(hd.2 i a hi).lt
 have ak:=Dc (nt:=nt) hc hd cU;refine ah0 (by simp) hf hb ?_;rw[hn];refine wp_seq (h hc.an hlt E V _ _ ak λae e E0 V0 a0 s0 vK rj he0 hΦ0=> ?_);obtain⟨rfl,pC⟩:=hΦ0;cases e<;>first
  |exact he0.elim
  |skip
 have amq:a0.defers=[]:=vK.defers;refine wp_seq (pC E0 V0 a0 _ rj (by rw[amq];trivial) λae e E1 V1 a1 s1 ds1 amN xb bi D8 hΦ1=> ?_);obtain⟨rfl,c,rfl,hw⟩:=hΦ1;have iY:=vK.d.trans amN;cases e<;>first
  |exact D8.elim
  |skip
 obtain⟨d,jC,bm⟩:∃d,a1.defers=[d]/\An E1 c d:=by
  match jC:a1.defers,bi with
  |[d],bi=>exact⟨d,rfl,bi.1⟩
  |[],bi=>exact bi.elim
  |_::_::_,bi=>exact bi.2.elim
 refine hw [d] E1 V1 a1 _ xb ⟨by simp[jC],by simp⟩ λae e E' V' a' s' cP hk aX gK he hΦ=> ?_;have hle:E.Le E':=iY.le.trans hk.le;have fin:∀(md:Wp)(m:Option AV)(H':SA),(md matches .run)=false->jd cP s'.H=some H'->Qa E' m md->rV lv P c H' m (λH'=>au (iF P ⟨s'.T,H'⟩ rs) λl=>cz H.length H' (jr l) k) (λH'=>∀pv,m=some pv->cz H.length H' pv kp)->u5 lv P fn (gR E V k kp) a'.defers md a'.tmps V':=by
  intro md m H' rD hg abn hD;refine ae4 rD cP _ H' E' V' _ hg aX.bx gK λV2 r1 r2 cg=> ?_;have amn:=bm.mono hk.le;refine⟨rD,.inr ⟨?_,?_⟩⟩
  ·obtain⟨f,first,c9,fa,ca,vs,h1,rfl,h3,h4,h5⟩:=bm;exact⟨_,_,rfl⟩
  ·refine(hD E' V2 d md cg amn abn).mono (λnx aZ hx=> ?_) λ_ _ h=>h;obtain⟨g,args,rfl,DJ⟩:=hx;refine⟨g,args,rfl,DJ.mono λoK V3 hx=> ?_⟩;obtain⟨E3,H3,q1,q2,q3,q4,q5|q5⟩:=hx
   ·obtain⟨rfl,q5⟩:=q5;exact adG (s':=⟨s'.T,H3⟩) (a':=a') hr ⟨q4,aX.tok.mono q1,aX.size⟩ (hle.trans q1) hc.n (q2.trans (r1.trans (hk.role.trans iY.role))) (q3.trans (r2.trans (hk.deaf.trans iY.deaf))) q5
   ·obtain⟨rfl,vO,q5⟩:=q5;cases m with
    |none=>cases vO
    |some pv=>obtain⟨v,rfl,mK⟩:=abn;obtain⟨b,bZ,uU,t1,t2,t3,t4⟩:=yD (q5 pv rfl) q4 (mK.mono q1) (hle.trans q1) hc.n;exact⟨b,v,bZ,uU,rfl,t1,q2.trans (r1.trans (hk.role.trans iY.role)),q3.trans (r2.trans (hk.deaf.trans iY.deaf)),t2,t3,t4⟩
 have ak0:Au lv P rs H.length c k kp .ret s' cP->u5 lv P fn (gR E V k kp) a'.defers .returning a'.tmps V':=λhΦ=>by
  obtain⟨H',hg,hΦ⟩:=au.out hΦ;refine fin .returning none H' rfl hg rfl λE2 V2 d2 Ou c1 c2 c3=> ?_;refine(hΦ E2 V2 d2 Ou c1 c2 c3).mono (λnx aZ hx=> ?_) λ_ _ h=>h;obtain⟨g,args,rfl,DJ⟩:=hx;refine⟨g,args,rfl,DJ.mono λoK V3 hx=> ?_⟩;obtain⟨E3,H3,q1,q2,q3,q4,q5|q5⟩:=hx
  ·exact⟨E3,H3,q1,q2,q3,q4,.inl q5⟩
  ·exact q5.2.2.elim
 cases ae<;>cases e<;>first
  |exact he.elim
  |exact ak0 hΦ
  |exact hΦ.elim
  |skip
 rename_i pv ch;obtain⟨v,fA,amo⟩:∃v,ch=[{v,recovered:=false}]/\ay E' pv v:=he;subst fA;obtain⟨H',hg,hΦ⟩:=au.out hΦ;refine fin _ (some pv) H' rfl hg ⟨v,rfl,amo⟩ λE2 V2 d2 Ou c1 c2 c3=> ?_;refine(hΦ E2 V2 d2 Ou c1 c2 c3).mono (λnx aZ hx=> ?_) λ_ _ h=>h;obtain⟨g,args,rfl,DJ⟩:=hx;refine⟨g,args,rfl,DJ.mono λoK V3 hx=> ?_⟩;obtain⟨E3,H3,q1,q2,q3,q4,q5|q5⟩:=hx
 ·exact⟨E3,H3,q1,q2,q3,q4,.inl q5⟩
 ·exact⟨E3,H3,q1,q2,q3,q4,.inr ⟨q5.1,q5.2.1,λpv' e=>by cases e;exact q5.2.2⟩⟩
end
open Go.Proofs Go.Gg.Tk
namespace Tk
def wU (x:aj):Bool:=(Tt (x.am.toNat+1)).any λbw=>(kV x bw).any λh=> !(jN x 0 h).isEmpty
end Tk
def we:AV:=.bY 163 (.agg [])
section
variable {lv:Bool}{H:SA}{kr kp:SA->Prop}
def ajO{r:Nat}(h:∀L,kr (H++L)):rV lv BI (.fn (.func 117) [] [.op r 0],[]) H none kr kp:=by refine Rn (nt:=9) (by kernel_rfl) F.f117 rfl rfl rfl rfl rfl rfl rfl rfl (by kernel_rfl) (by simp) ?_;simp only[ba,Tq,Vv,WA];(try simp only[seval,F.NX]);refine eB (a:=[]) rfl ⟨rfl,by decide,by simp,?_⟩;refine ai ?_;refine ao ?_;refine ahm ?_;exact .inl (h _)
def ajP{r:Nat}{a:AV}(hr:H[r]?=some (.cells [a] 4))(h:∀L,kr (H.set r (.cells [bv true] 4)++L)):rV lv BI (.fn (.func 117) [] [.op r 0],[]) H (some we) kr kp:=by refine Rn (nt:=9) (by kernel_rfl) F.f117 rfl rfl rfl rfl rfl rfl rfl rfl (by kernel_rfl) (by simp) ?_;simp only[ba,Tq,Vv,T_,we];(try simp only[seval,F.NX]);have pB:=eF hr;have zm:∀L:SA,(H++L)[r]?=some (.cells [a] 4):=λL=>dW hr;refine ai ?_;refine ao ?_;refine ab ?_;simp only[seval,zm,ww pB];exact .inl (h _)
end
def sj (x:aj)(m:Lp)(h:SD):dN Lp:=if(jN x 0 h).isEmpty then .go .ready else .bad .busy
def Q9{x:aj}:∀(l:SS),bI (sj x) l .ready=if l.any (λh=> !(jN x 0 h).isEmpty)=true then .bad .busy else .go .ready
 |[]=>by simp[bI]
 |h::l=>by have ih:=Q9 (x:=x) l;by_cases he:(jN x 0 h).isEmpty=true;have e1:sj x .ready h=.go .ready:=(by unfold sj;rw[if_pos he]);rw[bI,e1];dsimp only;rw[ih];simp only[Z3,he,Xn,ar_];have e1:sj x .ready h=.bad .busy:=(by unfold sj;rw[if_neg he]);rw[bI,e1];dsimp only;have e2:(jN x 0 h).isEmpty=false:=(by simpa using he);simp only[Z3,e2,W5,axA,if_true]
def ahA(l:SS):bI (λ(_:Lp) (_:SD)=>(.bad .busy:dN Lp)) l .ready=if l.isEmpty then .go .ready else .bad .busy:=by cases l<;>rfl
def Di (x:aj)(i:Nat):SA:=[.cells x.l 73,.cells [iv i] 3,.obj (.deferred (some [])),.gone]
def kQ (x:aj)(H:SA):Nat->SA
 |0=>H++[.cells x.l 73,.cells [bv false] 4]
 |i+1=>kQ x H i++Di x i
def yx (H:SA):Nat->SE
 |0=>[]
 |i+1=>(H.length+2+4* i+2)::yx H i
def Ks(x:aj)(H:SA):∀i,(kQ x H i).length=H.length+2+4* i
 |0=>by simp[kQ]
 |i+1=>by simp[kQ,Di,Ks x H i];omega
def Q8(x:aj)(H:SA):∀i,∃Y,kQ x H i=H++[.cells x.l 73,.cells [bv false] 4]++Y
 |0=>⟨[],by simp[kQ]⟩
 |i+1=>by obtain⟨Y,h⟩:=Q8 x H i;exact⟨Y++Di x i,by rw[kQ,h,Ev]⟩
def Kr(x:aj)(H:SA):∀(i:Nat)(L:SA),∃Y,jd (yx H i) (kQ x H i++L)=some (H++[.cells x.l 73,.cells [bv false] 4]++Y)
 |0,L=>⟨L,by rw[yx,A_,kQ]⟩
 |i+1,L=>by
  have hl:=Ks x H i;have e:(kQ x H (i+1)++L)=kQ x H i++(Di x i++L):=by rw[kQ,Ev]
  have hg:(kQ x H i++(Di x i++L))[H.length+2+4* i+2]?=some (.obj (.deferred (some []))):=by rw[<- hl,aP];rfl
  obtain⟨Y,hY⟩:=Kr x H i ([.cells x.l 73,.cells [iv i] 3,.gone,.gone]++L);refine⟨Y,?_⟩;rw[yx,e,A9 hg,<- hl,cG];exact hY
def Q7(x:aj)(H:SA)(i:Nat)(L:SA):(kQ x H i++L)[H.length]?=some (.cells x.l 73)/\(kQ x H i++L)[H.length+1]?=some (.cells [bv false] 4):=by obtain⟨Y,h⟩:=Q8 x H i;rw[h,Ev,Ev];exact⟨aP H _ 0,aP H _ 1⟩
section
variable {lv:Bool}
def alg{P:Tl}(rs:SW)(n:Nat)(c:AV×SC)(k kp:SF)(pv:AV)(s:AS)(ms:SE):Au lv P rs n c k kp (.panic pv) s ms=au (jd ms s.H) λH'=>rV lv P c H' (some pv) (λH'=>au (iF P ⟨s.T,H'⟩ rs) λl=>cz n H' (jr l) k) (λH'=>cz n H' pv kp):=by rw[Au]
def alh{P:Tl}(rs:SW)(n:Nat)(c:AV×SC)(k kp:SF)(s:AS)(ms:SE):Au lv P rs n c k kp .ret s ms=au (jd ms s.H) λH'=>rV lv P c H' none (λH'=>au (iF P ⟨s.T,H'⟩ rs) λl=>cz n H' (jr l) k) (λ_=>False):=by rw[Au]
def akL{H:SA}{k kp:SF}{x:aj}(hx:x.Ok)(hk:k (bv (wU x)) H):aS lv BI 87 H [x.av] k kp:=by
 refine ala (rs:=[.cell 2 4]) (nt:=24) F.f87 rfl rfl rfl (by simp) λhH hA=> ?_;simp only[ba,Tq,aj.av];have LO:=FI hx;have hp:=hx.am;obtain⟨p,jn⟩:∃p:Nat,x.am=p:=⟨x.am.toNat,by omega⟩;have hw:Tg.wrap (x.am+1)=((p+1:Nat):Int):=by rw[jn,bt _ (by omega)];rfl
 refine ab ?_;simp only[seval,F.Qg];refine QQ (n:=1) rfl rfl rfl rfl rfl rfl (by kernel_rfl) ?_;(try simp only[seval,U6,VB,Vk,UW]);refine⟨⟨_,_,_,rfl⟩,_,rfl,λbs=> ?_⟩;refine Gn ?_;refine tN ?_;refine ab ?_;simp only[seval,TN,TM,hw];refine yu ?_;refine QR (measure λi=>p+1-i).wf (λi:Nat=>⟨[(10,iv i),(9,iv ((p+1:Nat):Int)),(2,.op (H.length+1) 0),(1,.op H.length 0)],kQ x H i⟩) (λi=>yx H i) (λi=>i<=p+1/\∀j,j<i->∀h∈kV x j,(jN x 0 h).isEmpty=true) 0 (ep (by simp only[seval];simp[bE,Wk.refl]) rfl) rfl ⟨by omega,λj hj=>by omega⟩ λi an=> ?_;obtain⟨pt,ew⟩:=an;have cI:=Ks x H i;have ny:=λL=>(Q7 x H i L).1;have yX:=λL=>(Q7 x H i L).2;obtain⟨N,hN⟩:∃N,N=H.length+2+4* i:=⟨_,rfl⟩;rw[<- hN]at cI;have hbx:(kQ x H i)[H.length]?=some (.cells x.l 73):=by have:=ny [];rwa[Ts]at this
 refine tN ?_;refine ai ?_;refine tN ?_;refine ao ?_;refine⟨λh=> ?_,λh=> ?_⟩
 ·
  have ru:i<=3:=by omega
  refine aF ?_;refine Gn ?_;refine yu ?_;refine tN ?_;refine ai ?_;refine tN ?_;refine ab ?_;simp only[seval,hbx,TM];refine aK (La (x:=x) (n:=i) ?_);rw[cI];(try simp only[seval]);refine yu ?_;refine Kh (by rfl) λl fn T ag bo hT yV rn=> ?_;have mI:(kQ x H i++[aa.cells x.l 73,aa.cells [iv i] 3]).length=N+2:=by rw[Tp,cI];rfl
  (try simp only[seval]);rw[cI];obtain⟨B,hB⟩:∃B,B=kQ x H i:=⟨_,rfl⟩;rw[<- hB]at cI hbx ny yX⊢;have bg:∀(L:SA)(j:Nat),(B++L)[N+j]?=L[j]?:=λL j=>by rw[<- cI,aP]
  have Gs:∀(L:SA)(j:Nat)(y:aa),(B++L).set (N+j) y=B++L.set j y:=λL j y=>by rw[<- cI,cG]
  have aaZ:∀(M:SA)(lp:Lp),bJ (B++([aa.cells x.l 73,.cells [iv i] 3,.obj (.deferred (some [])),.loop l .ready none fn T 24 #[16] ag bo (N+2)]++M))->bJ (B++([aa.cells x.l 73,.cells [iv i] 3,.obj (.deferred (some [])),.loop l lp.st lp.pe fn T 24 #[16] ag bo (N+2)]++M)):=λM lp iN z hz=>by have hlen:(B++([aa.cells x.l 73,.cells [iv i] 3,.obj (.deferred (some [])),.loop l lp.st lp.pe fn T 24 #[16] ag bo (N+2)]++M)).length=(B++([aa.cells x.l 73,.cells [iv i] 3,.obj (.deferred (some [])),.loop l .ready none fn T 24 #[16] ag bo (N+2)]++M)).length:=(by simp);have hl:=iN (.loop l .ready none fn T 24 #[16] ag bo (N+2)) (by simp);rw[hlen];rcases T1.1 hz with h'|h';exact iN z (Uk _ h');rcases T1.1 h' with h'|h';simp only[Tm,T5,or_false]at h';rcases h' with rfl|rfl|rfl|rfl;exact iN _ (by simp);exact iN _ (by simp);exact iN _ (by simp);exact hl;exact iN z (T7 _ (T7 _ h'))
  have hY:j8 lv BI (.fn (.yield l) [] []) (sj x) (λlp:Lp=>B++[.cells x.l 73,.cells [iv i] 3,.obj (.deferred (some [])),.loop l lp.st lp.pe fn T 24 #[16] ag bo (N+2)]) (N+4) (λlp=>lp=.ready) (λh=>nc h/\∀ns∈gM x h,∀a∈(iS x h ns).map (dM h ns),jQ x a) we:=by
   refine⟨λlp h M k kp iC ha dY=> ?_,λlp h EW iC ha he=> ?_,λlp=>by simp[cI],λm lp EW hz z fF=> ?_,rfl,rfl,rfl⟩
   ·replace iC:lp=.ready:=iC;subst iC;obtain⟨qn,EB⟩:=ha;have h4:=qn.len;have oh:(h.map iv).length=4:=(by rw[Um,h4]);obtain⟨Lo,lD⟩:∃Lo,Lo=aa.loop l .busy none fn T 24 #[16] ag bo (N+2):=⟨_,rfl⟩;obtain⟨P1,dI⟩:∃P1:SA,P1=B++([.cells x.l 73,.cells [iv i] 3,.obj (.deferred (some [])),Lo]++M):=⟨_,rfl⟩;have eM:P1.length=N+4+M.length:=(by rw[dI];simp[cI];omega);have pg3:∀(L:SA),(P1++L)[N+3]?=some Lo:=λL=>(by rw[dI,Ev,bg];rfl);have px:∀(L:SA),(P1++L)[H.length]?=some (.cells x.l 73):=λL=>(by rw[dI,Ev];exact ny _);have pb:∀(L:SA)(j:Nat),(P1++L)[N+4+M.length+j]?=L[j]?:=λL j=>(by rw[<- eM,aP]);have xP:∀(L:SA),(P1++L)[N+4+M.length]?=L[0]?:=λL=>pb L 0;have qJ:∀(L:SA)(y:aa),(P1++L).set (N+4+M.length+4) y=P1++L.set 4 y:=λL y=>(by rw[<- eM,cG]);have s3:∀(L:SA) y,(P1++L).set (N+3) y=B++([.cells x.l 73,.cells [iv i] 3,.obj (.deferred (some [])),y]++M)++L:=λL y=>by rw[dI,Ev,Gs];simp
    subst hT yV rn;rw[Ev];refine wT (id:=N+3) (by rw[bg];rfl) rfl (by kernel_rfl) λpc LP=> ?_;simp only[tu];have xh:U7 4 [iv 0,iv 0,iv 0,iv 0]=[]:=rfl;refine ab ?_;simp only[seval,h4,xh];unfold uZ;refine⟨none,fn,_,24,#[16],_,_,_,by rw[bg];rfl,?_⟩;dsimp only;rw[Gs];simp only[Vs,U1];rw[<- lD];have yQ:B.length+(M.length+1+1+1+1)=N+4+M.length:=(by rw[cI];omega);rw[yQ];have za:∀z:aa,(B++aa.cells x.l 73::aa.cells [AV.val (S_ Tg ↑i)] 3::aa.obj (ag' (some []))::Lo::(M++[z]))=P1++[z]:=λz=>(by rw[dI];simp[iv]);rw[za];refine ab ?_;simp only[seval,px,TM,xP,h4,oh];rw[Tu (i:=4) (l:=h.map iv) (by rw[oh];exact Tv _)];refine aK (Lb (x:=x) (h:=h) (deep:=0) ?_);(try simp only[seval]);refine bO ?_;refine Gl (N+3) (by rfl) (by show (P1++_)[N+3]?=_;rw[pg3,lD]) λl2 fj T2 ig ij pf yW yY=> ?_;simp only[seval];rw[eM];have yU:j8 lv BI (.fn (.yield l2) [] []) (λ(_:Lp) (_:SD)=>(.bad .busy:dN Lp)) (λlp:Lp=>P1++[.cells (h.map iv) 80,.cells x.l 73,.cells (h.map iv) 80,.cells [iv 0] 3,.loop l2 lp.st lp.pe fj T2 24 #[20] ig ij (N+2)]) (N+4+M.length+5) (λlp=>lp=.ready) (λa=>a.length=11) we:=by refine⟨λlp t M2 k2 zG iC ht lK=> ?_,λlp t EW iC ht he=>(by cases he),λlp=>by simp[eM],λq lp EW hz z fF=> ?_,rfl,rfl,rfl⟩;(replace iC:lp=.ready:=iC;subst iC;simp only[db]at lK;have mv:∀(L:SA),(P1++L)[N+4+M.length+4]?=L[4]?:=λL=>pb L 4;subst pf yW yY;rw[Ev];refine wT (id:=N+4+M.length+4) (by rw[mv];rfl) rfl (by kernel_rfl) λsw LQ=> ?_;simp only[tu];refine aF ?_;unfold uZ;refine⟨none,fj,_,24,#[20],_,_,_,by rw[mv];rfl,?_⟩;dsimp only;rw[qJ];simp only[Vs,U1];refine ab ?_;simp only[seval,F.NX];show cz _ (P1++_) _ zG;rw[Ev]at lK;exact b8 lK);rcases T1.1 fF with h'|h';exact hz z (Uk _ h');have hl:=hz _ (T7 _ (Un (i:=4) rfl));simp only[Tm,T5,or_false]at h';rcases h' with rfl|rfl|rfl|rfl|rfl;exact hz _ (T7 _ (by simp));exact hz _ (T7 _ (by simp));exact hz _ (T7 _ (by simp));exact hz _ (T7 _ (by simp));exact hl
    rw[eM]at pf;have HD:∀n,Lt n we:=λn=>(by simp[we,wc,lT]);refine bX (K5 (x:=x) (h:=h) (deep:=0) (ir:=N+4+M.length+1) (ih:=N+4+M.length+1+1) (id:=N+4+M.length+1+2) (σ:=Lp.ready) hx qn yU (λlp L=> ?_) (λlp L=> ?_) (λlp L=> ?_) HD rfl (λa ha=>ha) (λns gA a ha=>(EB ns gA a ha).len) ?_)
    ·rw[Ev];exact pb _ 1
    ·rw[Ev];exact pb _ 2
    ·rw[Ev];exact pb _ 3
    rw[ahA];have mv:∀(L:SA),(P1++L)[N+4+M.length+4]?=L[4]?:=λL=>pb L 4;by_cases ud:(jN x 0 h).isEmpty=true
    ·rw[if_pos ud];have e1:sj x .ready h=.go .ready:=(by unfold sj;rw[if_pos ud]);rw[e1]at dY;simp only[db]at dY;simp only[gQ,Ts];refine⟨.ready,none,_,_,_,_,_,_,_,by rw[mv];rfl,by decide,?_⟩;rw[qJ,IY];(try simp only[seval]);show pY _ _ _ _ _ _ _;refine⟨l,.busy,none,fn,_,24,#[16],_,_,N+2,by show (P1++_)[_]?=_;rw[pg3,lD],?_⟩;show cz (N+4+M.length) ((P1++_).set _ _) _ k;rw[s3];rw[Ev]at dY;exact jy (G:=[.cells (h.map iv) 80,.cells x.l 73,.cells (h.map iv) 80,.cells [iv 0] 3,.gone]) (Wk.refl _) (by simp[iv];exact⟨rfl,rfl⟩) (by simp[cI];omega) (aaZ M .ready pc) (.val _) dY
    ·rw[if_neg ud];have e1:sj x .ready h=.bad .busy:=(by unfold sj;rw[if_neg ud]);rw[e1]at dY;simp only[db]at dY;simp only[gQ,Ts];show cz (N+4+M.length) (P1++_) we kp;rw[Ev]at dY;refine jy (H':=B++([aa.cells x.l 73,.cells [iv i] 3,.obj (.deferred (some [])),.loop l Lp.busy.st Lp.busy.pe fn _ 24 #[16] _ _ (N+2)]++M)) (Wk.refl _) (by rw[dI,lD];rfl) (by simp[cI];omega) (aaZ M .busy pc) (HD _) dY
   ·replace iC:lp=.ready:=iC;subst iC;unfold sj at he;split at he;cases he;rfl;cases he
   ·rcases T1.1 fF with h'|h';exact hz z (Uk _ h');have hl:=hz _ (T7 _ (Un (i:=3) rfl));simp only[Tm,T5,or_false]at h';rcases h' with rfl|rfl|rfl|rfl;exact hz _ (T7 _ (by simp));exact hz _ (T7 _ (by simp));exact hz _ (T7 _ (by simp));exact hl
  have HD:∀n,Lt n we:=λn=>by simp[we,wc,lT]
  refine bX (K3 (x:=x) (bw:=i) (ir:=N) (it:=N+1) (σ:=Lp.ready) hx hY (λlp L=> ?_) (λlp L=> ?_) ru HD rfl (λa ha=>LO i ru a ha) ?_);rw[Ev];exact bg _ 0;rw[Ev];exact bg _ 1;rw[Q9];have bz:=TL i (by omega);by_cases Hb:(kV x i).any (λh=> !(jN x 0 h).isEmpty)=true
  ·rw[if_pos Hb];have Mg:wU x=true:=by unfold wU;rw[VP];exact⟨i,by rw[UB];omega,Hb⟩
   rw[Mg]at hk;simp only[gQ,Ts];(try simp only[seval,alg]);obtain⟨Y,w_⟩:=Kr x H i [.cells x.l 73,.cells [iv i] 3,.gone,.loop l .busy none fn T 24 #[16] ag bo (N+2)];rw[<- hB]at w_;have hgo:jd ((N+2)::yx H i) (B++[.cells x.l 73,.cells [iv i] 3,.obj (.deferred (some [])),.loop l Lp.busy.st Lp.busy.pe fn T 24 #[16] ag bo (N+2)])=some (H++[.cells x.l 73,.cells [bv false] 4]++Y):=by rw[A9 (by rw[bg];rfl),Gs];exact w_
   refine eB hgo ?_;have cV:(H++[aa.cells x.l 73,.cells [bv false] 4]++Y)[H.length+1]?=some (.cells [bv false] 4):=(by rw[Ev];exact aP H _ 1);refine ajP cV λL=> ?_;have cg:((H++[aa.cells x.l 73,.cells [bv false] 4]++Y).set (H.length+1) (.cells [bv true] 4)++L)[H.length+1]?=some (.cells [bv true] 4):=by rw[Ev,cG,Ev];exact aP H _ 1
   (try simp only[seval,iF,wl,cg,aa.cellsOf]);exact cW hH hk
  ·rw[if_neg Hb];simp only[gQ,Ts];refine⟨.ready,none,_,_,_,_,_,_,_,by show (B++_)[N+3]?=_;rw[bg];rfl,by decide,?_⟩;rw[show N+2+1=N+3 from rfl,Gs,IX];(try simp only[seval]);refine Gm ?_;refine ab ?_;simp only[seval,bz];refine⟨i+1,?_,⟨by omega,λj hj g hm=> ?_⟩,ep (by push_cast;simp only[seval];simp[bE,Wk.refl]) (by rw[hB];rfl),by rw[yx,hN]⟩;show p+1-(i+1)<p+1-i;omega;by_cases cF:j<i;exact ew j cF g hm;have:j=i:=(by omega);subst this;apply Uv;intro aN;exact Hb (VP.2 ⟨g,hm,by simpa using aN⟩)
 ·
  have dL:i=p+1:=by omega
  subst dL;have Mg:wU x=false:=by unfold wU;rw[Bool.eq_false_iff];intro hc;obtain⟨j,h1,h2⟩:=VP.1 hc;obtain⟨h,h3,h4⟩:=VP.1 h2;rw[UB]at h1;have:=ew j (by omega) h h3;rw[this]at h4;cases h4
  rw[Mg]at hk;have aaR:(kQ x H (p+1))[H.length+1]?=some (.cells [bv false] 4):=by have:=yX [];rwa[Ts]at this
  refine bT ?_;refine tN ?_;refine ab ?_;simp only[seval,aaR];rw[rR aaR];refine Gm ?_;refine jR ?_;rw[alh];obtain⟨Y,w_⟩:=Kr x H (p+1) [];rw[Ts]at w_;refine eB w_ ?_;refine ajO λL=> ?_;have cg:(H++[aa.cells x.l 73,.cells [bv false] 4]++Y++L)[H.length+1]?=some (.cells [bv false] 4):=by rw[Ev,Ev];exact aP H _ 1
  (try simp only[seval,iF,wl,cg,aa.cellsOf]);exact cW hH hk
end
open Go.Conc Go.Proofs Go.Gg.Tk
open Go.Extern
section
variable {lv:Bool}{H:SA}{k kp:SF}
def tT{n lo hi:Int}(hk:k (bv (decide (n<lo)||decide (n>hi))) H):aS lv BI 57 H [iv n,iv lo,iv hi] k kp:=by
 refine br (rs:=[.tmp 6]) (nt:=15) Tryz.f57 λhH hA=> ?_;simp only[ba,Tq];refine ai ?_;by_cases h:n<lo
 ·have h1:decide (n<lo)=true:=by simpa using h
  refine ab ?_;simp only[seval,h1];refine aH ?_;rw[h1,axA]at hk;exact b8 hk
 ·have h1:decide (n<lo)=false:=by simpa using h
  refine ab ?_;simp only[seval,h1];refine aH ?_;rw[h1,ar_]at hk;exact b8 hk
def akB(hk:k (bv true) H):aS lv BI 55 H [] k kp:=by refine br (rs:=[.tmp 0]) (nt:=1) Tryz.f55 λhH hA=> ?_;simp only[ba,Tq];refine ai ?_;refine ai ?_;refine aH ?_;exact b8 hk
def ajH{t:AV}(hk:k (bv false) H):aS lv BI 100 H [.val .nilIface,t] k kp:=by refine br (rs:=[.tmp 4]) (nt:=42) axE λhH hA=> ?_;simp only[ba,Tq];refine ai ?_;refine ab ?_;simp only[seval,F.uB];refine ao ?_;refine ai ?_;refine aH ?_;exact b8 hk
def akE(hk:k (iv 0) H):aS lv BI 59 H [.val .nilIface] k kp:=by refine br (rs:=[.tmp 2]) (nt:=9) axN λhH hA=> ?_;simp only[ba,Tq];refine ai ?_;refine ai ?_;refine ab ?_;simp only[seval,F.ab3];refine aK (ajH ?_);(try simp only[seval]);refine ao ?_;refine aF ?_;refine ai ?_;refine aH ?_;exact cW hH hk
def fY (t:Nat):T9:=.pointer (some ⟨1,t,none⟩)
def R.alL:bA BI (Rtype.handle 147) (fY 147):=λw es=>by kernel_rfl
def R.aaF:bA BI (Rtype.handle 144) (fY 144):=λw es=>by kernel_rfl
def R.aof:bA BI (Rtype.kind 147) 22:=λw es=>by kernel_rfl
def R.aca:bA BI (Rtype.kind 144) 25:=λw es=>by kernel_rfl
def R.kind (p : T9) : bA BI (ZS (BI.types.size + ZN) 209 (.agg #[p]) "Kind") (179, p) := λw es => by kernel_rfl
def R.elem (p : T9) : bA BI (ZS (BI.types.size + ZN) 209 (.agg #[p]) "Elem") (192, .agg #[p]) := λw es => by kernel_rfl
def R.impl (p : T9) : bA BI (ZS (BI.types.size + ZN) 209 (.agg #[p]) "Implements") (193, .agg #[p]) := λw es => by kernel_rfl
def R.ag6 (p : T9) : bA BI (ZS (BI.types.size + ZN) 209 (.agg #[p]) "AssignableTo") (190, .agg #[p]) := λw es => by kernel_rfl
def R.aiP:Ext BI 126 (λargs=>ReflectliteValue.unpack (args.getD 0 (.tuple #[]))):=⟨⟨Tryz.f126,by kernel_rfl,by kernel_rfl,by kernel_rfl,by kernel_rfl,by kernel_rfl⟩⟩
def R.aiQ : Ext BI 127 (ReflectliteValue.methodAny (ReflectliteValue.valueError "reflectlite.Value.Type" 0) λt _ _ _ => ReflectliteType.toType t) := ⟨⟨Tryz.f127, by kernel_rfl, by kernel_rfl, by kernel_rfl, by kernel_rfl, by kernel_rfl⟩⟩
def R.aiR : Ext BI 128 (ReflectliteValue.method (ReflectliteValue.valueError "reflectlite.Value.IsNil" 0) ReflectliteValue.isNil) := ⟨⟨Tryz.f128, by kernel_rfl, by kernel_rfl, by kernel_rfl, by kernel_rfl, by kernel_rfl⟩⟩
def R.aiT : Ext BI 155 (ReflectliteValue.method (ReflectliteValue.valueError "reflectlite.Value.Elem" 0) ReflectliteValue.elem) := ⟨⟨Tryz.f155, by kernel_rfl, by kernel_rfl, by kernel_rfl, by kernel_rfl, by kernel_rfl⟩⟩
def R.aiU:Ext BI 156 ReflectliteValue.set:=⟨⟨Tryz.f156,by kernel_rfl,by kernel_rfl,by kernel_rfl,by kernel_rfl,by kernel_rfl⟩⟩
def R.aiS:Ext BI 154 ReflectliteType.typeOf:=⟨⟨Tryz.f154,by kernel_rfl,by kernel_rfl,by kernel_rfl,by kernel_rfl,by kernel_rfl⟩⟩
def R.aiV:Ext BI 179 (ReflectliteType.abiMethod λt=>do pure (.int .u8 (<- Rtype.kind t))):=⟨⟨Tryz.f179,by kernel_rfl,by kernel_rfl,by kernel_rfl,by kernel_rfl,by kernel_rfl⟩⟩
def R.KR:Ext BI 192 (ReflectliteType.method ReflectliteType.elem):=⟨⟨Tryz.f192,by kernel_rfl,by kernel_rfl,by kernel_rfl,by kernel_rfl,by kernel_rfl⟩⟩
def R.GH : Ext BI 193 (ReflectliteType.relation "Implements" ReflectliteType.implements_) := ⟨⟨Tryz.f193, by kernel_rfl, by kernel_rfl, by kernel_rfl, by kernel_rfl, by kernel_rfl⟩⟩
def R.KP : Ext BI 190 (ReflectliteType.relation "AssignableTo" ReflectliteType.assignableTo) := ⟨⟨Tryz.f190, by kernel_rfl, by kernel_rfl, by kernel_rfl, by kernel_rfl, by kernel_rfl⟩⟩
def R.adg(a:Wy):bA BI (ReflectliteValue.parts (.agg #[fY 147,.pointer (some a),.int .u64 150])) (some (147,a,150)):=λw es=>by kernel_rfl
def R.aqy(a:Wy)(f:Int)(hf:f=409\/f=153):bA BI (ReflectliteValue.parts (.agg #[fY 144,.pointer (some a),.int .u64 f])) (some (144,a,f.toNat)):=by rcases hf with rfl|rfl;(exactλw es=>by kernel_rfl);(exactλw es=>by kernel_rfl)
def R.type (a : Wy) : bA BI (ReflectliteValue.methodAny (ReflectliteValue.valueError "reflectlite.Value.Type" 0) (λt _ _ _ => ReflectliteType.toType t) #[.agg #[fY 147, .pointer (some a), .int .u64 150]]) (.iface 209 (.agg #[fY 147])) := λw es => by kernel_rfl
def R.aoj:bA BI (ReflectliteType.abiMethod (λt=>do pure (.int .u8 (<- Rtype.kind t))) #[fY 147]) (.int .u8 22):=λw es=>by kernel_rfl
def R.aoi:bA BI (ReflectliteType.abiMethod (λt=>do pure (.int .u8 (<- Rtype.kind t))) #[fY 144]) (.int .u8 25):=λw es=>by kernel_rfl
def R.ai5:bA BI (ReflectliteType.method ReflectliteType.elem #[.agg #[fY 147]]) (.iface 209 (.agg #[fY 144])):=λw es=>by kernel_rfl
def R.an1 : bA BI (ReflectliteType.relation "Implements" ReflectliteType.implements_ #[.agg #[fY 144], .iface 209 (.agg #[fY 92])]) (.bool true) := λw es => by kernel_rfl
def R.agR : bA BI (ReflectliteType.relation "AssignableTo" ReflectliteType.assignableTo #[.agg #[fY 144], .iface 209 (.agg #[fY 144])]) (.bool true) := λw es => by kernel_rfl
def R.auJ(v:T9):bA BI (ReflectliteType.typeOf #[.iface 144 v]) (.iface 209 (.agg #[fY 144])):=λw es=>by kernel_rfl
def R.ajg:bA BI (Rtype.elem? 147) (some 144):=λw es=>by kernel_rfl
def R.ain:bA BI (Rtype.directlyAssignable 144 144) true:=λw es=>by kernel_rfl
def R.t156:Ty BI 147=some (1,false):=by kernel_rfl
def R.t153:Ty BI 144=some (2,true):=by kernel_rfl
def vH (t c:Nat)(f:Int):AV:=.agg [.val (fY t),.op c 0,.val (.int .u64 f)]
def tH (t:Nat):AV:=.bY 209 (.agg [.val (fY t)])
def aiz{E:Env}{t:Nat}{vs:SG}(h:bR E [tH t] vs):vs=#[.iface 209 (.agg #[fY t])]:=by
 obtain⟨v,rfl,hv⟩:=yA h;cases hv with
 |bY hv=>rw[Rr hv]
def afi{t:Nat}{a:AV}{l:SC}{kd:Nat}(hh:bA BI (Rtype.handle t) (fY t))(dX:bA BI (Rtype.kind t) kd)(hl:a.parts=some l)(hk:k (vH t H.length (aya (kd+128))) (H++[.cells l t])):fh lv BI (.fn (.func 126) [] []) H [.bY t a] k kp:=ajF R.aiP hh dX hl hk
def ava{c:Nat}(hk:k (tH 147) H):fh lv BI (.fn (.func 127) [] []) H [vH 147 c 150] k kp:=
 Q6 R.aiQ (tH 147) (λE vs hd=>by obtain⟨v,rfl,hv⟩:=yA hd;obtain⟨hi,rfl⟩:=Dm hv;exact⟨_,R.type _,.bY (.agg rfl λi b hb=>by match i,hb with|0,hb=>cases hb;exact .val _)⟩) hk
def afj {t : Nat} {n : Int} (h : bA BI (ReflectliteType.abiMethod (λt => do pure (.int .u8 (<- Rtype.kind t))) #[fY t]) (.int .u8 n)) (hk : k (.val (.int .u8 n)) H) : tC lv BI (tH t) "Kind" H [] k kp :=
 Ih _ (R.kind _) R.aiV (λE vs hd=>by obtain rfl:vs=#[]:=Xw hd.1;exact⟨_,h,.val _⟩) hk
def avb {c b : Nat} (hc : H[c]? = some (.cells [.op b 0] 147)) (hk : k (bv false) H) : fh lv BI (.fn (.func 128) [] []) H [vH 147 c 150] k kp := ajD (z := ReflectliteValue.valueError "reflectlite.Value.IsNil" 0) R.aiR R.adg rfl R.t156 hc hk
def avj (hk : k (tH 144) H) : tC lv BI (tH 147) "Elem" H [] k kp :=
 Ih (tH 144) (R.elem _) R.KR (λE vs hd=>by obtain rfl:vs=#[]:=Xw hd.1;exact⟨_,R.ai5,.bY (.agg rfl λi b hb=>by match i,hb with|0,hb=>cases hb;exact .val _)⟩) hk
def avk (hk : k (bv true) H) : tC lv BI (tH 144) "Implements" H [.val (.iface 209 (.agg #[fY 92]))] k kp :=
 Ih _ (R.impl _) R.GH (λE vs hd=>by obtain⟨v,rfl,hv⟩:=yA hd;cases hv;exact⟨_,R.an1,.val _⟩) hk
def avc{a:AV}(hk:k (tH 144) H):fh lv BI (.fn (.func 154) [] []) H [.bY 144 a] k kp:=
 Q6 R.aiS (tH 144) (λE vs hd=>by
  obtain⟨v,rfl,hv⟩:=yA hd;cases hv with
  |bY hv=>exact⟨_,R.auJ _,.bY (.agg rfl λi b hb=>by match i,hb with|0,hb=>cases hb;exact .val _)⟩) hk
def avi (hk : k (bv true) H) : tC lv BI (tH 144) "AssignableTo" H [tH 144] k kp :=
 Ih _ (R.ag6 _) R.KP (λE vs hd=>by obtain rfl:=aiz hd;exact⟨_,R.agR,.val _⟩) hk
def avd {c b : Nat} (hc : H[c]? = some (.cells [.op b 0] 147)) (hk : k (vH 144 b 409) H) : fh lv BI (.fn (.func 155) [] []) H [vH 147 c 150] k kp := ajC (z := ReflectliteValue.valueError "reflectlite.Value.Elem" 0) R.aiT R.adg rfl R.t156 R.ajg R.aaF R.aca hc hk
def ave{b c:Nat}{p q r s:AV}(hb:H[b]?=some (.cells [r,s] 144))(hc:H[c]?=some (.cells [p,q] 144))(hl:∀a∈[p,q],a.leaf=true)(hk:k (.aJ []) (H.set b (.cells [p,q] 144))):fh lv BI (.fn (.func 156) [] []) H [vH 144 b 409,vH 144 c 153] k kp:=
 ajE (f1:=409) (f2:=153) R.aiU (λa f hf=>R.aqy a f hf) rfl R.t153 R.ain hb hc rfl rfl hl hk
def ajU{p q:Int}{r s:AV}{b c:Nat}(hb:H[b]?=some (.cells [r,s] 144))(hc:H[c]?=some (.cells [.op b 0] 147))(hk:k (bv true) (H.set b (.cells [iv p,iv q] 144))):aS lv BI 129 H [.bY 144 (.agg [iv p,iv q]),.bY 147 (.op b 0),vH 147 c 150,tH 144] k kp:=by
 refine br (rs:=[.tmp 8]) (nt:=62) Tryz.f129 λhH hA=> ?_;simp only[ba,Tq,vH];have cI:b<H.length:=(Tn.1 hb).1;have Mc:∀L:SA,(H++L)[b]?=some (.cells [r,s] 144):=λL=>dW hb;have hcA:∀L:SA,(H++L)[c]?=some (.cells [.op b 0] 147):=λL=>dW hc;have No:∀(L:SA)(y:aa),(H++L).set b y=H.set b y++L:=λL y=>VE _ _ cI;have t177:Ty BI 181=some (3,true):=by kernel_rfl
 refine ai ?_;refine bO ?_;refine gU 0 (λ_=>[]) (λ_=>H++[.cells [.val (fY 147),.op c 0,.val (.int .u64 150)] 181]) (λ_=>True) (λ_ _=>rfl) (by simp) rfl (λ_ _ _=>rfl) trivial (λbN cm i ce _ RR hR=> ?_);clear bN cm hR;refine ai ?_;refine n9 (avc ?_);(try simp only[seval]);refine EL (avi ?_);(try simp only[seval]);refine ao ?_;refine ab ?_;simp only[seval,t177,TN];refine n9 (avd (c:=c) (b:=b) (hcA _) ?_);(try simp only[seval]);refine n9 (afi R.aaF R.aca rfl ?_);have lL:∀L:SA,(H++L).length=H.length+L.length:=λL=>Tp;(try simp only[seval,lL]);refine n9 (ave (b:=b) (c:=H.length+1) (p:=iv p) (q:=iv q) (r:=r) (s:=s) ?_ ?_ (by simp[AV.leaf,Value.one]) ?_)
 ·exact Mc _
 ·exact aP H _ 1
 (try simp only[seval]);refine ai ?_;refine aH ?_;rw[No];exact jy (Wk.refl _) rfl (by rw[UK];exact Tv _) (aby hH (by intro a ha;simp only[Tm,T5,or_false]at ha;rcases ha with rfl|rfl<;>exact .val _)) (.val _) hk
def TO{H:List aa}:∀(L:SA),(H++L)[H.length+1]?=L[1]?:=λL=>aP H L 1
def ajG{p q:Int}{r s:AV}{b:Nat}(hm:H[0]?=some .main)(hb:H[b]?=some (.cells [r,s] 144))(hk:k (bv true) (H.set b (.cells [iv p,iv q] 144))):aS lv BI 100 H [.bY 144 (.agg [iv p,iv q]),.bY 147 (.op b 0)] k kp:=by
 refine br (rs:=[.tmp 4]) (nt:=42) axE λhH hA=> ?_;simp only[ba,Tq];have cI:b<H.length:=(Tn.1 hb).1;have Mc:∀L:SA,(H++L)[b]?=some (.cells [r,s] 144):=λL=>dW hb;have xu:∀L:SA,(H++L)[0]?=some .main:=λL=>dW hm;have No:∀(L:SA)(y:aa),(H++L).set b y=H.set b y++L:=λL y=>VE _ _ cI;have lL:∀L:SA,(H++L).length=H.length+L.length:=λL=>Tp;have t177:Ty BI 181=some (3,true):=by kernel_rfl
 have t180:Ty BI 184=some (1,false):=by kernel_rfl
 refine ai ?_;refine ab ?_;simp only[seval,F.uB];refine ao ?_;refine aF ?_;have i20:lR BI 20=some true:=by kernel_rfl
 refine ab ?_;simp only[seval,i20];refine ao ?_;refine aF ?_;refine ai ?_;refine n9 (afi R.alL R.aof rfl ?_);have z1:eR BI 181=some (.agg #[.pointer none,.pointer none,.int .u64 0]):=by kernel_rfl
 have po:U7 3 [AV.val (Zs none),AV.val (Zs none),AV.val (S_ UF 0)]=[]:=rfl;(try simp only[seval,vH,lL,t177,z1,TO,po,cG]);refine⟨rfl,?_⟩;refine ab ?_;simp only[seval,t177,TO];refine n9 (ava (c:=H.length) ?_);(try simp only[seval]);refine ai ?_;refine EL (afj (t:=147) R.aoj ?_);(try simp only[seval,t177,TO,show ((22:Int)!=22)=false from rfl]);refine n9 (avb (c:=H.length) (b:=b) (by exact TN _) ?_);(try simp only[seval]);refine ao ?_;refine aF ?_;refine ai ?_;refine EL (avj ?_);(try simp only[seval]);refine ai ?_;refine EL (afj (t:=144) R.aoi ?_);have ko:DE.lookup 0=some (.iface 209 (.agg #[fY 92])):=rfl;(try simp only[seval,t180,xu,ko,show ((25:Int)!=20)=true from rfl]);refine EL (avk ?_);(try simp only[seval]);refine ao ?_;refine aF ?_;refine ab ?_;simp only[seval,t177,TO];refine aK (ajU (p:=p) (q:=q) (r:=r) (s:=s) (b:=b) (c:=H.length) (by exact Mc _) (by exact TN _) ?_);(try simp only[seval]);refine aH ?_;rw[No];exact jy (Wk.refl _) rfl (by rw[UK];exact Tv _) (aby hH (by intro a ha;simp only[Tm,T5,or_false]at ha;rcases ha with rfl|rfl<;>exact .val _)) (.val _) hk
end
namespace Tk
def fx (b:eX)(hi e:Int):Int:=if(b.min<0\/b.min>hi)\/(b.max<0\/b.max>hi)then e else if b.min>b.max then 5 else 0
def gz (hours:Int)(y:aD):Int:=if fx y.number 99 1=0 then fx y.hour (hours-1) 3 else fx y.number 99 1
def iG (hours:Int)(s:Seen):Int:=if s.hour<0\/s.hour>hours then 3 else fx s.next 99 1
def iM {α:Type}(f:α->Int):List α->Int
 |[]=>0
 |a::l=>if f a=0 then iM f l else f a
def eK (x:aj):Int:=
 if(x.first<0\/x.first>90)\/(x.hours<1\/x.hours>3)\/(x.am<1\/x.am>3)then 1 else
 if x.seen.length>3 then 6 else
 if iM (iG x.hours) x.seen≠0 then iM (iG x.hours) x.seen else
 if x.pieces.length>4 then 6 else
 if iM (gz x.hours) x.pieces≠0 then iM (gz x.hours) x.pieces else
 if x.aq.length>3 then 6 else iM (gz x.hours) x.aq
def A3{α:Type}{f:α->Int}:∀{l:List α},iM f l=0<->∀a∈l,f a=0
 |[]=>by simp[iM]
 |a::l=>by unfold iM;by_cases h:f a=0;rw[if_pos h,A3];simp[h];rw[if_neg h];simp[h]
def Gp{b:eX}{hi e:Int}(he:e≠0):fx b hi e=0<->(0<=b.min/\b.min<=b.max/\b.max<=hi):=by unfold fx;by_cases h:(b.min<0\/b.min>hi)\/(b.max<0\/b.max>hi);rw[if_pos h];constructor;intro e';exact absurd e' he;intro h';omega;rw[if_neg h];by_cases h2:b.min>b.max;rw[if_pos h2];constructor;intro e';omega;intro h';omega;rw[if_neg h2];constructor;intro _;omega;intro _;rfl
def alV{hours:Int}{y:aD}:gz hours y=0<->(0<=y.number.min/\y.number.min<=y.number.max/\y.number.max<=99)/\(0<=y.hour.min/\y.hour.min<=y.hour.max/\y.hour.max<=hours-1):=by unfold gz;by_cases h:fx y.number 99 1=0;rw[if_pos h,Gp (by decide)];rw[Gp (by decide)]at h;exact⟨λh'=>⟨h,h'⟩,λh'=>h'.2⟩;rw[if_neg h];constructor;intro h';exact absurd h' h;intro h';exact absurd ((Gp (by decide)).2 h'.1) h
def adP{hours:Int}{s:Seen}:iG hours s=0<->(0<=s.hour/\s.hour<=hours)/\(0<=s.next.min/\s.next.min<=s.next.max/\s.next.max<=99):=by unfold iG;by_cases h:s.hour<0\/s.hour>hours;rw[if_pos h];constructor;intro h';omega;intro h';omega;rw[if_neg h,Gp (by decide)];exact⟨λh'=>⟨by omega,h'⟩,λh'=>h'.2⟩
def wV{x:aj}:eK x=0<->x.Ok:=by
 have hb:∀{b:eX}{hi:Int},uS b hi<->(0<=b.min/\b.min<=b.max/\b.max<=hi):=λ{b hi}=>⟨λh=>⟨h.min,h.le,h.max⟩,λh=>⟨h.1,h.2.1,h.2.2⟩⟩;have hh:∀{y:aD},JQ x y<->gz x.hours y=0:=λ{y}=>by rw[alV];exact⟨λh=>⟨hb.1 h.number,hb.1 h.hour⟩,λh=>⟨hb.2 h.1,hb.2 h.2⟩⟩
 unfold eK;constructor;intro h;by_cases h1:(x.first<0\/x.first>90)\/(x.hours<1\/x.hours>3)\/(x.am<1\/x.am>3);rw[if_pos h1]at h;omega;rw[if_neg h1]at h;by_cases h2:x.seen.length>3;rw[if_pos h2]at h;omega;rw[if_neg h2]at h;by_cases h3:iM (iG x.hours) x.seen=0;rw[if_neg (by simpa using h3)]at h;by_cases h4:x.pieces.length>4;rw[if_pos h4]at h;omega;rw[if_neg h4]at h;by_cases h5:iM (gz x.hours) x.pieces=0;rw[if_neg (by simpa using h5)]at h;by_cases h6:x.aq.length>3;rw[if_pos h6]at h;omega;rw[if_neg h6]at h;rw[A3]at h h3 h5;refine⟨by omega,by omega,by omega,by omega,by omega,by omega,λs hs=> ?_,λy hy=>hh.2 (h5 y hy),λy hy=>hh.2 (h y hy)⟩;have:=adP.1 (h3 s hs);exact⟨this.1,hb.2 this.2⟩;rw[if_pos h5]at h;exact absurd h h5;rw[if_pos h3]at h;exact absurd h h3;intro h;have h1:=h.first;have h2:=h.hours;have h3:=h.am;have h4:=h.qL;have h5:=h.ey;have h6:=h.di;rw[if_neg (by omega),if_neg (by omega),if_neg,if_neg (by omega),if_neg,if_neg (by omega),A3];(exactλy hy=>hh.1 (h.stub y hy));(rw[W4,A3];exactλy hy=>hh.1 (h.piece y hy));(rw[W4,A3];exactλs hs=>adP.2 ⟨(h.seen s hs).1,hb.1 (h.seen s hs).2⟩)
end Tk
open Go.Conc Go.Proofs Go.Gg.Tk
namespace Tk
def yJ{α:Type}{f:α->Int}:∀{l:List α}{i:Nat}{y:α},(∀j,j<i->∀z,l[j]?=some z->f z=0)->l[i]?=some y->f y≠0->iM f l=f y
 |[],i,y,_,hy,_=>by simp at hy
 |a::l,0,y,_,hy,hn=>by
  obtain rfl:a=y:=by simpa using hy
  unfold iM;rw[if_neg hn]
 |a::l,i+1,y,h0,hy,hn=>by unfold iM;rw[if_pos (h0 0 (by omega) a rfl)];exact yJ (i:=i) (λj hj z hz=>h0 (j+1) (by omega) z (by simpa using hz)) (by simpa using hy) hn
def GP{α:Type}{f:α->Int}{l:List α}(h:∀j,j<l.length->∀z,l[j]?=some z->f z=0):iM f l=0:=
 A3.2 λa ha=>by obtain⟨j,hj⟩:=Wl ha;exact h j (Tn.1 hj).1 a hj
end Tk
def yF (c a:Int):AV:=if c=0 then .val .nilIface else .bY 144 (.agg [iv c,iv a])
def AX(a:Int):yF 0 a=.val .nilIface:=rfl
def qb{c a:Int}(h:c≠0):yF c a=.bY 144 (.agg [iv c,iv a]):=if_neg h
open Go.Conc Go.Proofs Go.Gg.Tk
section
variable {lv:Bool}{H:SA}{k kp:SF}
def Ld{b:eX}{hi e at':Int}(he:e≠0)(hk:k (yF (fx b hi e) at') H):aS lv BI 99 H [b.av,iv hi,iv e,iv at'] k kp:=by
 refine br (rs:=[.tmp 8]) (nt:=33) Tryz.f99 λhH hA=> ?_;simp only[ba,Tq,eX.av];obtain⟨o1,me⟩:∃o,o=(decide (b.min<0)||decide (b.min>hi)):=⟨_,rfl⟩;obtain⟨o2,oA⟩:∃o,o=(decide (b.max<0)||decide (b.max>hi)):=⟨_,rfl⟩;refine ai ?_;refine ab ?_;simp only[seval,eX.l];refine aK (tT ?_);rw[<- me];cases o1 with
 |true=>
  have hE:fx b hi e=e:=by unfold fx;rw[if_pos (.inl (by simpa using me.symm))]
  rw[hE,qb he]at hk;(try simp only[seval]);refine ao ?_;refine ab ?_;simp only[seval,F.Ij];refine aH ?_;exact dS hH (Wk.refl _) (by simp[dF,wc,lT]) hk
 |false=>
  (try simp only[seval]);refine aK (tT ?_);rw[<- oA];cases o2 with
  |true=>have hE:fx b hi e=e:=(by unfold fx;rw[if_pos (.inr (by simpa using oA.symm))]);rw[hE,qb he]at hk;(try simp only[seval]);refine ao ?_;refine ab ?_;simp only[seval,F.Ij];refine aH ?_;exact dS hH (Wk.refl _) (by simp[dF,wc,lT]) hk
  |false=>
   have ew:¬((b.min<0\/b.min>hi)\/(b.max<0\/b.max>hi)):=by have h1:=me.symm;have h2:=oA.symm;simp at h1 h2;omega
   (try simp only[seval]);refine ao ?_;by_cases h3:b.min>b.max;have hE:fx b hi e=5:=(by unfold fx;rw[if_neg ew,if_pos h3]);rw[hE,qb (by decide)]at hk;have d3:decide (b.min>b.max)=true:=decide_eq_true h3;refine ab ?_;simp only[seval,d3];refine ao ?_;refine ab ?_;simp only[seval,F.Ij];refine aH ?_;exact dS hH (Wk.refl _) (by simp[dF,wc,lT]) hk;have hE:fx b hi e=0:=(by unfold fx;rw[if_neg ew,if_neg h3]);rw[hE,AX]at hk;have d3:decide (b.min>b.max)=false:=decide_eq_false h3;refine ab ?_;simp only[seval,d3];refine ao ?_;refine aF ?_;refine ai ?_;refine aH ?_;exact cW hH hk
def TS{H:List aa}:∀(L:SA)(y:aa),(H++L).set H.length y=H++L.set 0 y:=λL y=>cG H L 0 y
def K8{c a:Int}(hm:H[0]?=some .main)(hk:k (iv c) H):aS lv BI 59 H [yF c a] k kp:=by by_cases h:c=0;subst h;exact akE hk;rw[qb h];refine br (rs:=[.tmp 2]) (nt:=9) axN λhH hA=> ?_;simp only[ba,Tq];refine ai ?_;refine ai ?_;refine ab ?_;simp only[seval,F.ab3];refine aK (ajG (p:=c) (q:=a) (dW hm) (TN _) ?_);(try simp only[seval,TS]);refine ao ?_;refine ab ?_;simp only[seval,TN];refine aH ?_;exact cW hH hk
def akD{x:aj}{y:Seen}{at':Int}(hk:k (yF (iG x.hours y) at') H):aS lv BI 58 H [x.av,y.av,iv at'] k kp:=by
 refine br (rs:=[.tmp 6]) (nt:=19) Tryz.f58 λhH hA=> ?_;simp only[ba,Tq,aj.av,Seen.av];obtain⟨o1,me⟩:∃o,o=(decide (y.hour<0)||decide (y.hour>x.hours)):=⟨_,rfl⟩;refine ab ?_;simp only[seval,TM,Seen.l];refine ai ?_;refine aK (tT ?_);rw[<- me];cases o1 with
 |true=>
  have hE:iG x.hours y=3:=by unfold iG;rw[if_pos (by simpa using me.symm)]
  rw[hE,qb (by decide)]at hk;(try simp only[seval]);refine ao ?_;refine ab ?_;simp only[seval,F.Ij];refine aH ?_;exact dS hH (Wk.refl _) (by simp[dF,wc,lT]) hk
 |false=>
  have hE:iG x.hours y=fx y.next 99 1:=by unfold iG;rw[if_neg (by have:=me.symm;simp at this;omega)]
  rw[hE]at hk;(try simp only[seval]);refine ao ?_;refine aF ?_;refine ai ?_;refine aK (Ld (b:=y.next) (by decide) ?_);(try simp only[seval]);refine aH ?_;exact dS hH (Wk.refl _) (by unfold yF;split<;>simp[dF,wc,lT]) hk
def Sg{x:aj}{l:SY}(sF:1<=x.hours/\x.hours<=3)(rz:l.length<=4)(hk:∀a,k (yF (iM (gz x.hours) l) a) H):aS lv BI 60 H [x.av,aG l] k kp:=by
 refine br (rs:=[.tmp 4]) (nt:=34) Tryz.f60 λhH hA=> ?_;simp only[ba,Tq,aj.av];have pC:Tg.wrap (x.hours-1)=x.hours-1:=bt _ (by omega);refine ab ?_;simp only[seval,TM];refine ab ?_;simp only[seval,aG];refine bO ?_;refine nj l.length (λi:Nat=>[(11,iv i)]) (λ_=>_) (λi=>∀j,j<i->∀z,l[j]?=some z->gz x.hours z=0) (λj hj=>by omega) (λbN cm i ce an R hR=> ?_);refine ai ?_;refine ao ?_;refine⟨λh=> ?_,λh=> ?_⟩
 ·have bh:i<l.length:=by omega
  obtain⟨y,hy⟩:=bF bh;have bz:=TL i (by omega);refine aF ?_;refine ab ?_;simp only[seval,oR hy,fy bh];refine ai ?_;refine aK (Ld (b:=y.number) (by decide) ?_);(try simp only[seval]);by_cases h1:fx y.number 99 1=0;rw[h1,AX];refine ab ?_;simp only[seval,F.uB];refine ao ?_;refine aF ?_;refine ab ?_;simp only[seval,TN,pC];refine aK (Ld (b:=y.hour) (by decide) ?_);(try simp only[seval]);have hE:gz x.hours y=fx y.hour (x.hours-1) 3:=(by unfold gz;rw[if_pos h1]);by_cases h2:fx y.hour (x.hours-1) 3=0;rw[h2,AX];refine ab ?_;simp only[seval,F.uB];refine ao ?_;refine aF ?_;refine ab ?_;simp only[seval,bz];refine hR _ ⟨bh,λj hj z hz=> ?_,Cd (oI rfl rfl) (by simp only[seval];simp[bE,Wk.refl]) bN (by simp[dF])⟩;by_cases e:j=i;subst e;rw[hy]at hz;cases hz;rw[hE,h2];exact an j (by omega) z hz;have hF:=yJ (f:=gz x.hours) an hy (by rw[hE];exact h2);have hk:=hk i;rw[hF,hE,qb h2]at hk;rw[qb h2];refine ab ?_;simp only[seval,F.uB];refine ao ?_;refine ai ?_;refine aH ?_;exact dS hH (Wk.refl _) (by simp[dF,wc,lT]) hk;have hE:gz x.hours y=fx y.number 99 1:=(by unfold gz;rw[if_neg h1]);have hF:=yJ (f:=gz x.hours) an hy (by rw[hE];exact h1);have hk:=hk i;rw[hF,hE,qb h1]at hk;rw[qb h1];refine ab ?_;simp only[seval,F.uB];refine ao ?_;refine ai ?_;refine aH ?_;exact dS hH (Wk.refl _) (by simp[dF,wc,lT]) hk
 ·have nD:i=l.length:=by omega
  subst nD;have hk:=hk 0;rw[GP an,AX]at hk;refine bT ?_;refine ai ?_;refine aH ?_;exact cW hH hk
def Dp{x:aj}(hm:H[0]?=some .main)(hk:k (iv (eK x)) H):aS lv BI 18 H [x.av] k kp:=by
 refine br (rs:=[.tmp 2]) (nt:=62) Tryz.f18 λhH hA=> ?_;simp only[ba,Tq,aj.av];have xu:∀L:SA,(H++L)[0]?=some .main:=λL=>dW hm;obtain⟨o1,me⟩:∃o,o=(decide (x.first<0)||decide (x.first>90)):=⟨_,rfl⟩;obtain⟨o2,oA⟩:∃o,o=(decide (x.hours<1)||decide (x.hours>3)):=⟨_,rfl⟩;obtain⟨o3,xx⟩:∃o,o=(decide (x.am<1)||decide (x.am>3)):=⟨_,rfl⟩;have Bh:(o1||(o2||o3))=true->eK x=1:=λh=>by unfold eK;rw[if_pos];rw[me,oA,xx]at h;simpa[XP,decide_eq_true_eq]using h
 have aa8:(o1||(o2||o3))=false->¬((x.first<0\/x.first>90)\/(x.hours<1\/x.hours>3)\/(x.am<1\/x.am>3)):=λh=>by rw[me,oA,xx]at h;simp only[Bool.or_eq_false_iff,decide_eq_false_iff_not]at h;omega
 refine ab ?_;simp only[seval,TM];refine ab ?_;simp only[seval,TN];refine aK (tT ?_);rw[<- me];have one:eK x=1->cz H.length (H++[.cells [iv x.first,iv x.hours,iv x.am,bM x.seen,aG x.pieces,aG x.aq] 25]) (iv 1) k:=λh=>by rw[h]at hk;exact cW hH hk
 cases o1 with
 |true=>(try simp only[seval]);refine ao ?_;refine ai ?_;refine aH ?_;exact one (Bh rfl)
 |false=>
 (try simp only[seval,TN]);refine aK (tT ?_);rw[<- oA];cases o2 with
 |true=>(try simp only[seval]);refine ao ?_;refine ai ?_;refine aH ?_;exact one (Bh rfl)
 |false=>
 (try simp only[seval,TN]);refine aK (tT ?_);rw[<- xx];cases o3 with
 |true=>(try simp only[seval]);refine ao ?_;refine ai ?_;refine aH ?_;exact one (Bh rfl)
 |false=>
 have hg:=aa8 rfl;have sF:1<=x.hours/\x.hours<=3:=by omega
 unfold eK at hk;rw[if_neg hg]at hk;clear one Bh aa8 me oA xx;(try simp only[seval]);refine ao ?_;refine aF ?_;by_cases g3:x.seen.length>3
 ·have d3:decide ((3:Int)<x.seen.length)=true:=by simp;omega
  rw[if_pos g3]at hk;refine ab ?_;simp only[seval,TN,bM,d3];refine ao ?_;refine ai ?_;refine aH ?_;exact cW hH hk
 have d3:decide ((3:Int)<x.seen.length)=false:=by simp;omega
 rw[if_neg g3]at hk;refine ab ?_;simp only[seval,TN,bM,d3];refine ao ?_;refine aF ?_;refine ab ?_;simp only[seval,TN,bM];refine bO ?_;refine nj x.seen.length (λi:Nat=>[(27,iv i)]) (λ_=>_) (λi=>∀j,j<i->∀z,x.seen[j]?=some z->iG x.hours z=0) (λj hj=>by omega) (λbN cm i ce an R hR=> ?_);refine ai ?_;refine ao ?_;refine⟨λh=> ?_,λh=> ?_⟩
 ·have bh:i<x.seen.length:=by omega
  obtain⟨y,hy⟩:=bF bh;have bz:=TL i (by omega);refine aF ?_;refine ab ?_;simp only[seval,Ad hy,fy bh];refine ab ?_;simp only[seval,TN];refine aK (akD (x:=x) (y:=y) ?_);(try simp only[seval]);by_cases h1:iG x.hours y=0;rw[h1,AX];refine ab ?_;simp only[seval,F.uB];refine ao ?_;refine aF ?_;refine ab ?_;simp only[seval,bz];refine hR _ ⟨bh,λj hj z hz=> ?_,Cd (oI rfl rfl) (by simp only[seval];simp[bE,Wk.refl]) bN (by simp[dF])⟩;by_cases e:j=i;subst e;rw[hy]at hz;cases hz;exact h1;exact an j (by omega) z hz;have hF:=yJ (f:=iG x.hours) an hy h1;rw[hF,if_pos h1]at hk;rw[qb h1];refine ab ?_;simp only[seval,F.uB];refine ao ?_;refine ai ?_;rw[<- qb h1];refine aK (K8 (xu _) ?_);(try simp only[seval]);refine aH ?_;exact cW hH hk
 ·have nD:i=x.seen.length:=by omega
  subst nD;rw[if_neg (by rw[W4];exact GP an)]at hk;refine bT ?_;by_cases g4:x.pieces.length>4;have d4:decide ((4:Int)<x.pieces.length)=true:=(by simp;omega);rw[if_pos g4]at hk;refine ab ?_;simp only[seval,TN,aG,d4];refine ao ?_;refine ai ?_;refine aH ?_;exact cW hH hk;have d4:decide ((4:Int)<x.pieces.length)=false:=by simp;omega
  rw[if_neg g4]at hk;refine ab ?_;simp only[seval,TN,aG,d4];refine ao ?_;refine aF ?_;refine ab ?_;simp only[seval,TN];refine aK (Sg (x:=x) (l:=x.pieces) sF (by omega) (λa=> ?_));(try simp only[seval]);by_cases h1:iM (gz x.hours) x.pieces=0;rw[if_neg (by rw[W4];exact h1)]at hk;rw[h1,AX];refine ab ?_;simp only[seval,F.uB];refine ao ?_;refine aF ?_;by_cases g5:x.aq.length>3;have d5:decide ((3:Int)<x.aq.length)=true:=(by simp;omega);rw[if_pos g5]at hk;refine ab ?_;simp only[seval,TN,aG,d5];refine ao ?_;refine ai ?_;refine aH ?_;exact cW hH hk;have d5:decide ((3:Int)<x.aq.length)=false:=(by simp;omega);rw[if_neg g5]at hk;refine ab ?_;simp only[seval,TN,aG,d5];refine ao ?_;refine aF ?_;refine ab ?_;simp only[seval,TN];refine aK (Sg (x:=x) (l:=x.aq) sF (by omega) (λa=> ?_));(try simp only[seval]);refine aK (K8 (xu _) ?_);(try simp only[seval]);refine aH ?_;exact cW hH hk;rw[if_pos h1]at hk;rw[qb h1];refine ab ?_;simp only[seval,F.uB];refine ao ?_;refine ai ?_;rw[<- qb h1];refine aK (K8 (xu _) ?_);(try simp only[seval]);refine aH ?_;exact cW hH hk
def tU{b:eX}{n:Int}(hk:k (bv (ec b n)) H):aS lv BI 61 H [iv n,b.av] k kp:=by
 refine br (rs:=[.tmp 4]) (nt:=15) Tryz.f61 λhH hA=> ?_;simp only[ba,Tq,eX.av];unfold ec at hk;refine ab ?_;simp only[seval,eX.l];by_cases h:b.min<=n
 ·have h1:decide (b.min<=n)=true:=by simpa using h
  rw[h1,VO]at hk;refine ab ?_;simp only[seval,h1];refine aH ?_;exact cW hH hk
 ·have h1:decide (b.min<=n)=false:=by simpa using h
  rw[h1,Ww]at hk;refine ab ?_;simp only[seval,h1];refine aH ?_;exact cW hH hk
def TV{H:List aa}:∀(L:SA)(y:aa),(H++L).set (H.length+1) y=H++L.set 1 y:=λL y=>cG H L 1 y
def R4{b:eX}(hk:k (iv (fx b 99 1)) H):aS lv BI 101 H [b.av] k kp:=by
 refine br (rs:=[.tmp 2]) (nt:=22) Tryz.f101 λhH hA=> ?_;simp only[ba,Tq,eX.av];obtain⟨o1,me⟩:∃o,o=ec ⟨0,99⟩ b.min:=⟨_,rfl⟩;obtain⟨o2,oA⟩:∃o,o=ec ⟨0,99⟩ b.max:=⟨_,rfl⟩;have hE:fx b 99 1=if o1&&o2 then(if b.min>b.max then 5 else 0)else 1:=by unfold fx;unfold ec at me oA;rw[me,oA];simp only[Ui,decide_eq_true_eq];by_cases h:(b.min<0\/b.min>99)\/(b.max<0\/b.max>99);rw[if_pos h,if_neg (show ¬((0<=b.min/\b.min<=99)/\0<=b.max/\b.max<=99) by omega)];rw[if_neg h,if_pos (show (0<=b.min/\b.min<=99)/\0<=b.max/\b.max<=99 by omega)]
 rw[hE]at hk;refine ab ?_;simp only[seval,eX.l];refine ab ?_;simp only[seval,TV];refine ab ?_;simp only[seval,TN,TO];refine aK (tU (b:=⟨0,99⟩) ?_);rw[<- me];cases o1 with
 |false=>rw[if_neg (by simp)]at hk;(try simp only[seval]);refine ao ?_;refine ai ?_;refine aH ?_;exact cW hH hk
 |true=>
 (try simp only[seval,TN,TO]);refine aK (tU (b:=⟨0,99⟩) ?_);rw[<- oA];cases o2 with
 |false=>rw[if_neg (by simp)]at hk;(try simp only[seval]);refine ao ?_;refine ai ?_;refine aH ?_;exact cW hH hk
 |true=>
 rw[if_pos (by simp)]at hk;(try simp only[seval]);refine ao ?_;refine aF ?_;by_cases h3:b.min>b.max;have d3:decide (b.min>b.max)=true:=decide_eq_true h3;rw[if_pos h3]at hk;refine ab ?_;simp only[seval,TN,d3];refine ao ?_;refine ai ?_;refine aH ?_;exact cW hH hk;have d3:decide (b.min>b.max)=false:=decide_eq_false h3;rw[if_neg h3]at hk;refine ab ?_;simp only[seval,TN,d3];refine ao ?_;refine aF ?_;refine ai ?_;refine aH ?_;exact cW hH hk
def akF{x:aj}{y:Seen}(hk:k (iv (iG x.hours y)) H):aS lv BI 62 H [x.av,y.av] k kp:=by
 refine br (rs:=[.tmp 4]) (nt:=18) Tryz.f62 λhH hA=> ?_;simp only[ba,Tq,aj.av,Seen.av];refine ab ?_;simp only[seval,TM,Seen.l];by_cases h1:y.hour<0
 ·have d1:decide (y.hour<0)=true:=decide_eq_true h1;have hE:iG x.hours y=3:=by unfold iG;rw[if_pos (.inl h1)]
  rw[hE]at hk;refine ab ?_;simp only[seval,TN,TO,d1];refine ao ?_;refine ai ?_;refine aH ?_;exact cW hH hk
 have d1:decide (y.hour<0)=false:=decide_eq_false h1;by_cases h2:y.hour>x.hours
 ·have d2:decide (y.hour>x.hours)=true:=decide_eq_true h2;have hE:iG x.hours y=3:=by unfold iG;rw[if_pos (.inr h2)]
  rw[hE]at hk;refine ab ?_;simp only[seval,TN,TO,d1,d2];refine ao ?_;refine ai ?_;refine aH ?_;exact cW hH hk
 have d2:decide (y.hour>x.hours)=false:=decide_eq_false h2;have hE:iG x.hours y=fx y.next 99 1:=by unfold iG;rw[if_neg (by omega)]
 rw[hE]at hk;refine ab ?_;simp only[seval,TN,TO,d1,d2];refine ao ?_;refine aF ?_;refine ab ?_;simp only[seval,TO];refine aK (R4 (b:=y.next) ?_);(try simp only[seval]);refine aH ?_;exact cW hH hk
end
end Go.Gg
