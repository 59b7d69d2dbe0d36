/- A part of the proof. -/
import Derived.Test.YtckionbibpmloaaGreatDoorTicketLookCard2
import Derived.Test.YtckionbibpmloaaGreatDoorProg
import Derived.Conc.TokenWalk
set_option linter.all false
set_option maxRecDepth 4000
set_option maxHeartbeats 4000000
open Array renaming eq_empty_of_size_eq_zero->Xm,ext'->Ws,getD_eq_getD_getElem?->Td,getElem?_eq_getElem->Tf,replicate->UI
open Bool renaming and_eq_true->Uk,false_eq_true->UB,false_or->an_,not_false->W1,not_true->X6,or_eq_true->avO,true_or->av2
open Classical renaming byContradiction->Uj
open Decidable renaming not_not->Xt
open Eq renaming trans->Xd
open Function renaming comp_def->Zv
open Go renaming Addr->Wp,CallKind->Yi,Code->UX,Deferred->Ye,Frame->VA,FrameMode->Wa,Func->avu,FuncId->UH,GStep->awL,Goroutine->Te,IntKind->UN,LoopState->avK,Oper->U8,Operand->Ui,Program->Tg,Value->T5,World->Ul,mark->avW,method->ZI
open Go.BinOp renaming neq->W8
open Go.Conc renaming QuitsD->YR
open Go.Event renaming mute->Xi
open Go.Extern.Atomic renaming casT->Yx,loadT->ad',storeT->ad_,update->adE
open Go.Extern.Race renaming marked->Xb,none_->X_
open Go.Extern.Sync renaming semacquire->Yw,semrelease->ats
open Go.GStep renaming after->UT
open Go.Instr renaming loadAt->XX,sureAddr->VT
open Go.IntKind renaming i64->Tc,u64->Ux,wrap->Y4
open Go.Made renaming depth->ZB
open Go.Obj renaming deferred->ac'
open Go.Op renaming equal->XM
open Go.Operand renaming const->awI,tmp->awx
open Go.Proofs.Tryz renaming f100->av7,f120->awo,f134->av4,f59->awe,f98->YP,prog->ij
open Go.Result renaming ok->ab_
open Go.Sem renaming runT_eq->Uw
open Go.Value renaming chan->YV,int->S_,pointer->Zf
open Go.World renaming cell?->Vs,frozen?->avr
open Int renaming eq_ofNat_of_zero_le->Z5,ofNat->awD,toNat->Y'
open List renaming any_cons->ZT,any_eq_true->Vp,append_assoc->Ax,append_nil->Tu,cons_append->WK,drop->Vv,drop_append->WA,drop_append_of_le_length->Xq,drop_drop->avT,drop_eq_getElem_cons->UW,drop_eq_nil_of_le->UR,drop_zero->WY,ext_getElem?->X2,foldl->avS,foldl_append->YN,foldl_cons->VS,forall_mem_cons->Yl,getD_eq_getElem?_getD->Se,getElem?_append_left->Tw,getElem?_append_right->Ud,getElem?_eq_getElem->Ts,getElem?_eq_none->Vx,getElem?_eq_some_iff->Tj,getElem?_map->Uo,getElem?_of_mem->WQ,getElem?_range->au',getElem?_set->VP,getElem?_set_ne->U3,getElem?_take->U5,getElem?_toArray->We,getElem_mem->WX,getLast?_eq_some_getLast->YT,getLastD_eq_getLast?->Wn,getLast_mem->ak_,head?_append->XN,length_append->Tx,length_cons->UU,length_drop->Va,length_map->Un,length_nil->VR,length_pos_iff->Wy,length_set->UF,length_singleton->UV,map->Wh,mapM_cons->UY,mapM_nil->Vt,mapM_toArray->Y3,map_append->UJ,map_congr_left->WI,map_cons->VI,map_flatMap->WW,map_map->Y2,map_nil->aj',map_take->W7,mem_append->Tp,mem_append_left->Ue,mem_append_right->T1,mem_cons->Th,mem_flatMap->T4,mem_flatten->YM,mem_iff_getElem?->VF,mem_map->Um,mem_of_getElem?->Uf,mem_of_mem_take->YE,mem_or_eq_of_mem_set->VB,mem_range->UA,mem_replicate->XG,mem_singleton->T7,mem_toArray->UC,nil_append->Vo,nodup_append->V_,nodup_nil->XL,nodup_range->Y0,not_mem_nil->Tv,range->Tt,range'->UZ,range_succ->Wr,replicate->UE,replicate_succ->Xu,set_append_left->VW,set_append_right->VE,set_cons_succ->Vg,set_cons_zero->UP,set_set->Yb,take->VC,take_add_one->Wm,take_append_drop->WO,take_append_of_le_length->Uu,take_length->Uy,take_of_length_le->Tn,take_succ->Yj,take_succ_cons->W4,take_take->Wi,take_zero->awb
open List.Perm renaming refl->avU
open Nat renaming add_sub_cancel_left->VJ,add_zero->Vl,le_of_eq->Yo,le_refl->Tm,lt_trans->Xn,reduceAdd->To,reduceEqDiff->an',sub_self->WL,sub_zero->avz
open Option renaming bind_eq_bind->UL,bind_eq_some_iff->Uc,getD_none->Wt,getD_some->T9,map_eq_some_iff->Uq,map_some->VL,pure_def->U7,toList_some->ZP
open Option.some renaming inj->Wq,injEq->Uh
open Prod.mk renaming inj->XZ,injEq->VQ
namespace Go.Gg
open Go.Conc Go.Proofs Go.Gg.Tk
def NY{α:Type}{g:α->AV}{xs:List α}{i:Nat}{y:α}(h:i<xs.length):(xs.map g).take i++[g y]++(xs.map g).drop (i+1)=(xs.set i y).map g:=by
 rw[List.map_set,List.set_eq_take_append_cons_drop,if_pos (by simpa using h)];simp
namespace Tk
def pU (l:SE)(i:Nat):SE:=l.take i++UE (4-i) 0
def agE{l:SE}{i q:Nat}(h:l[i]?=some q)(hl:l.length<=4):(pU l i).set i q=pU l (i+1):=by
 have hi:=ep h;unfold pU;rw[VE _ _ (by simp;omega),show i-(l.take i).length=0 by simp;omega,show 4-i=(4-(i+1))+1 by omega,Xu,UP,Yj,h];simp
def agD{l:SE}{i:Nat}(hi:i<=l.length)(hl:l.length<=4):(pU l i).length=4:=by simp[pU];omega
def agC{l:SE}:pU l l.length=l++UE (4-l.length) 0:=by simp[pU]
end Tk
def aaq{H L:SA}{c c':aa}(h:bO (H++(L++[c])))(hc:∀n,eU n c'):bO (H++(L++[c'])):=λz hz=>by
 have hl:(H++(L++[c'])).length=(H++(L++[c])).length:=by simp
 rw[hl];rcases Tp.1 hz with h'|h'
 ·exact h z (Ue _ h')
 ·rcases Tp.1 h' with h'|h'
  ·exact h z (T1 _ (Ue _ h'))
  ·rw[T7.1 h'];exact hc _
def ab7(l:SE)(t n:Nat):eU n (.cells (l.map λn=>wv n) t):=by
 intro a ha;obtain⟨x,_,rfl⟩:=Um.1 ha;exact .val _
def aoW(l:SD)(t n:Nat):eU n (.cells (l.map iv) t):=by
 intro a ha;obtain⟨x,_,rfl⟩:=Um.1 ha;exact .val _
section
variable {lv:Bool}
def aiG{H:SA}{k kp:SF}{x:aj}{h:SD}(hk:k (.fn (.func 131) [] [.op (H.length+1) 0,.op H.length 0]) (H++[.cells x.l 73,.cells (h.map iv) 80])):a_ lv ij 111 H [x.av,.agg (h.map iv)] k kp:=by
 refine bw (rs:=[.tmp 4]) (nt:=6) Tryz.f111 λhH hA=> ?_;simp only[bc,To,aj.av];refine ai ?_;refine ah ?_;simp only[seval,UY,Vt,U7,UL];refine aP ?_;exact bZ hk
def aiQ{x:aj}{h:SD}{N ir ih:Nat}{yv pv:AV}{S:Type}{f:S->SD->dD S}{Gf:S->SA}{I:S->Prop}{A:SD->Prop}{σ:S}{k kp:SF}(hx:x.Ok)(hh:mD h)(hY:jH lv ij yv f Gf N I A pv)(hr:∀σ L,(Gf σ++L)[ir]?=some (.cells x.l 73))(hi:∀σ L,(Gf σ++L)[ih]?=some (.cells (h.map iv) 80))
  (nM:∀n,Lt n pv) (hI:I σ) (hA:∀a∈(f_ x h).map (dV h),A a) (hk:gg Gf pv k kp [] (bC f ((f_ x h).map (dV h)) σ)):a_ lv ij 131 (Gf σ) [yv,.op ih 0,.op ir 0] k kp:=by
 refine bw (rs:=[]) (nt:=45) Tryz.f131 λhH us=> ?_;simp only[bc,To];have hN:=hY.len σ;have mT:=hx.cW;obtain⟨a,b,c,d,rfl,ha,hb,hc,hd,hs⟩:=hh.out;have okH:∀L:SA,(∀z∈L,∀n,eU n z)->bO (Gf σ++L):=λL hL z hz=>by
  rcases Tp.1 hz with h|h
  ·exact(hH z h).mono (by simp)
  ·exact hL z h _
 refine ah ?_;simp only[seval,hY.parts];refine ah ?_;simp only[seval,hi];refine ai ?_;refine b_ ?_;refine fS 4 (λi:Nat=>[(13,iv i)]) (λi=>Gf σ++[.cells [yv] 155,.cells ((jb [a,b,c,d,0,0,0,0,0,0,0] 4 i (-1)).map iv) 83]) (λi=>True) (λ_ _=>rfl) (by simp only[seval];simp[bP,Wk.refl]) rfl (λ_ _ _=>by simp) trivial (λbX cU i cK _ R hR=> ?_);refine ai ?_;refine aA ?_;refine⟨λhc=> ?_,λhc=> ?_⟩
 ·have bG:i<4:=by omega
  have b4:(0<=(i:Int)/\(i:Int)<4)=True:=by simp;omega
  have bH:=TL i (by omega)
  have ie:(jb [a,b,c,d,0,0,0,0,0,0,0] 4 i (-1)).length=11:=FG (by show 4+i<=11;omega);have mh:((jb [a,b,c,d,0,0,0,0,0,0,0] 4 i (-1)).map iv).length=11:=by rw[Un,ie]
  refine aL ?_;refine ai ?_;refine ah ?_;simp only[seval,b4,mh];refine⟨by omega,?_⟩;rw[wR (show 4+i<(jb [a,b,c,d,0,0,0,0,0,0,0] 4 i (-1)).length by omega),J7 (by show 4+i<11;omega)];refine ah ?_;simp only[seval,bH];exact hR _ ⟨bG,trivial,dp⟩
 have:i=4:=by omega
 subst this;clear hc cK;refine bT ?_;refine ai ?_;rw[show jb [a,b,c,d,0,0,0,0,0,0,0] 4 4 (-1)=[a,b,c,d, -1, -1, -1, -1,0,0,0]from rfl];refine b_ ?_;refine fS 3 (λi:Nat=>[(20,iv i)]) (λi=>Gf σ++[.cells [yv] 155,.cells ((jb [a,b,c,d, -1, -1, -1, -1,0,0,0] 8 i (-1)).map iv) 83]) (λi=>True) (λ_ _=>rfl) (by simp only[seval];simp[bP,Wk.refl]) rfl (λ_ _ _=>by simp) trivial (λbX cU i cK _ R hR=> ?_);refine ai ?_;refine aA ?_;refine⟨λhc=> ?_,λhc=> ?_⟩
 ·have bG:i<3:=by omega
  have b4:(0<=(i:Int)/\(i:Int)<3)=True:=by simp;omega
  have bH:=TL i (by omega)
  have ie:(jb [a,b,c,d, -1, -1, -1, -1,0,0,0] 8 i (-1)).length=11:=FG (by show 8+i<=11;omega);have mh:((jb [a,b,c,d, -1, -1, -1, -1,0,0,0] 8 i (-1)).map iv).length=11:=by rw[Un,ie]
  refine aL ?_;refine ai ?_;refine ah ?_;simp only[seval,b4,mh];refine⟨by omega,?_⟩;rw[wR (show 8+i<(jb [a,b,c,d, -1, -1, -1, -1,0,0,0] 8 i (-1)).length by omega),J7 (by show 8+i<11;omega)];refine ah ?_;simp only[seval,bH];exact hR _ ⟨bG,trivial,dp⟩
 have:i=3:=by omega
 subst this;clear hc cK;refine bT ?_;rw[show jb [a,b,c,d, -1, -1, -1, -1,0,0,0] 8 3 (-1)=[a,b,c,d, -1, -1, -1, -1, -1, -1, -1]from rfl];refine ai ?_;refine ah ?_;simp only[seval,hr,TM,aQ];refine b_ ?_;refine fS x.pieces.length (λi:Nat=>[(31,iv i)]) (λi=>Gf σ++[.cells [yv] 155,.cells ([a,b,c,d, -1, -1, -1, -1, -1, -1, -1].map iv) 83,.cells ((pU (x.pieces.map (ce [a,b,c,d])) i).map λn=>wv n) 77]) (λi=>True) (λ_ _=>rfl) (by simp only[seval];simp[bP,Wk.refl]) rfl (λ_ _ _=>by simp) trivial (λbX cU i cK _ R hR=> ?_);refine ai ?_;refine aA ?_;refine⟨λhc=> ?_,λhc=> ?_⟩
 ·have bG:i<x.pieces.length:=by omega
  obtain⟨y,hy⟩:=bU bG;have uQ:(x.pieces.map (ce [a,b,c,d]))[i]?=some (ce [a,b,c,d] y):=by rw[Uo,hy];rfl
  have b4:(0<=(i:Int)/\(i:Int)<4)=True:=by simp;omega
  have bH:=TL i (by omega)
  have cD:(pU (x.pieces.map (ce [a,b,c,d])) i).length=4:=agD (by simp;omega) (by simpa using mT);have wa:((pU (x.pieces.map (ce [a,b,c,d])) i).map λn=>wv n).length=4:=by rw[Un,cD]
  refine aL ?_;refine ah ?_;simp only[seval,Ba hy,iB bG];refine ah ?_;simp only[seval,hi,b4];refine aK (FF (h:=[a,b,c,d]) (y:=y) hh ?_);(try simp only[seval,b4,wa]);refine⟨by omega,?_⟩;rw[NY (g:=λn=>wv n) (show i<(pU (x.pieces.map (ce [a,b,c,d])) i).length by omega),agE uQ (by simpa using mT)];refine ah ?_;simp only[seval,bH];exact hR _ ⟨bG,trivial,A3 (qA rfl rfl) (by simp only[seval];simp[bP,Wk.refl]) (aaq (L:=[_,_]) bX (ab7 _ _)) (by simp[dN])⟩
 have:i=x.pieces.length:=by omega
 subst this;clear hc cK;refine bT ?_;refine ai ?_;refine ah ?_;simp only[seval,UY,Vt,U7,UL];refine ai ?_;have qp:pU (x.pieces.map (ce [a,b,c,d])) x.pieces.length=x.pieces.map (ce [a,b,c,d])++UE (4-x.pieces.length) 0:=by
  have:=agC (l:=x.pieces.map (ce [a,b,c,d]));simpa using this
 refine aK (?_);rw[hN];have rP:∀n,Lt n (.aF []):=λn=>by simp[im]
 have hT0:∀ej,oU [a,b,c,d] x.pieces.length 0 [] ej->True:=λ_ _=>trivial;refine aiR (x:=x) (h:=[a,b,c,d]) hx rfl hY hr qp x.pieces.length 0 0 [] [a,b,c,d, -1, -1, -1, -1, -1, -1, -1] σ [] _ _ rfl (by decide) rfl ⟨rfl,rfl,?_⟩ hI hA (λej sN=> ?_)
 ·have:x.pieces.length=0\/x.pieces.length=1\/x.pieces.length=2\/x.pieces.length=3\/x.pieces.length=4:=by omega
  rcases this with e|e|e|e|e<;>rw[e]<;>rfl
 change cX Gf pv _ _ _ (bC f ((f_ x [a,b,c,d]).map (dV [a,b,c,d])) σ);cases hf:bC f ((f_ x [a,b,c,d]).map (dV [a,b,c,d])) σ with
 |go s=>
  rw[hf]at hk;simp only[cX,gg]at hk⊢;rw[Tu]at hk;(try simp only[seval]);rw[<- hN];exact vc hY hH rP hk
 |stop s=>
  rw[hf]at hk;simp only[cX,gg]at hk⊢;rw[Tu]at hk;(try simp only[seval]);rw[<- hN];exact vc hY hH rP hk
 |bad s=>
  rw[hf]at hk;simp only[cX,gg]at hk⊢;rw[Tu]at hk;rw[<- hN];exact vc hY hH nM hk
end
open Go.Conc Go.Proofs Go.Gg.Tk
namespace Tk
structure n9 (h:SD)(ns:SE)(k s:Nat)(o:SE)(tc:SD):Prop where
 len:tc.length=11
 pre:tc.take (8+s)=h++lz 4 ns++o.map λn:Nat=>(n:Int)
 tl:tc.drop (8+k)=UE (3-k) (-1)
def n9.all{h:SD}{ns:SE}{k:Nat}{o:SE}{tc:SD}(ho:o.length=k)(n:n9 h ns k k o tc):tc=dC h ns o:=by
 have:=WO (8+k) tc;rw[n.pre,n.tl]at this;rw[<- this];unfold dC
 conv=>rhs;unfold lz
 rw[ho,Ax];rfl
def AY{k:Nat}{l:SE}(h:l.length<=k):(lz k l).length=k:=by simp[lz];omega
def n9.back{h:SD}{ns:SE}{k s:Nat}{o:SE}{n:Nat}{tc:SD}(h4:h.length=4)(hn:ns.length<=4)(ho:o.length=s)(q:n9 h ns k (s+1) (o++[n]) tc):n9 h ns k s o tc:=by
 refine⟨q.len,?_,q.tl⟩;have e:tc.take (8+s)=(tc.take (8+(s+1))).take (8+s):=by rw[Wi];congr 1;omega
 have hp:=AY hn;rw[e,q.pre,UJ,<- Ax,Uu (by simp[h4,ho,hp];omega),Tn (by simp[h4,ho,hp];omega)]
def n9.next{h:SD}{ns:SE}{k s:Nat}{o:SE}{n:Nat}{tc:SD}(hp:s<k)(hk:k<=3)(q:n9 h ns k s o tc):n9 h ns k (s+1) (o++[n]) (tc.set (8+s) (n:Int)):=by
 refine⟨by rw[UF];exact q.len,?_,?_⟩
 ·rw[show 8+(s+1)=(8+s)+1 by omega,N_ (by rw[q.len];omega),q.pre];simp
 ·rw[Qk (by omega)];exact q.tl
def n9.num{h:SD}{ns:SE}{k s p:Nat}{o:SE}{tc:SD}(h4:h.length=4)(hn:ns.length<=4)(hp:p<ns.length)(q:n9 h ns k s o tc):tc[4+p]?=some ((ns.getD p 0:Nat):Int):=by
 have h1:(tc.take (8+s))[4+p]?=some ((ns.getD p 0:Nat):Int):=by
  rw[q.pre,Ax,Ud (by omega),h4,show 4+p-4=p by omega,Tw (by rw[AY hn];omega)];unfold lz;rw[Tw (by simpa using hp),Uo,Se,Ts hp];rfl
 rwa[U5,if_pos (by omega)]at h1
def apa{h:SD}{ns:SE}{k q:Nat}{qs:SE}{u:Nat}{o:SE}:(mw k ns (q::qs) u o).map (dC h ns)=(Tt k).flatMap λp=>if u.testBit p|| !q.testBit (ns.getD p 0)then[]else(mw k ns qs (u|||2^p) (o++[p])).map (dC h ns):=by
 rw[mw,WW];congr 1;funext n;split<;>rfl
end Tk
open Go.Conc Go.Proofs Go.Gg.Tk
section
variable {lv:Bool}
def yC (yv:AV)(N ir it is:Nat):SA:=[.cells [yv] 155,.cells [.fn (.func 134) [] [.op ir 0,.op N 0,.op it 0,.op is 0,.op (N+1) 0]] 191]
def aiT{x:aj}{h:SD}{ns qs:SE}{N ir it is:Nat}{yv pv:AV}{S:Type}{f:S->SD->dD S}{Gf:SD->S->SA}{I:S->Prop}{A:SD->Prop}(hx:x.Ok)(h4:h.length=4)(jf:ns.length=x.pieces.length)(hY:∀tc,jH lv ij yv f (Gf tc) N I A pv)(hr:∀tc σ L,(Gf tc σ++L)[ir]?=some (.cells x.l 73))
  (ht:∀tc σ L,(Gf tc σ++L)[it]?=some (.cells (tc.map iv) 83)) (dU:∀tc ej σ L,(Gf tc σ++L).set it (.cells (ej.map iv) 83)=Gf ej σ++L) (hs:∀tc σ L,(Gf tc σ++L)[is]?=some (.cells (qs.map λn=>wv n) 78)) (Aq:∃r,qs=x.aC.map (ce h)++r) (ye:qs.length=3):
  ∀(d s u:Nat)(o:SE)(tc:SD)(σ:S)(M:SA)(k kp:SF),d+s=x.aC.length->u<65536->o.length=s->n9 h ns x.aC.length s o tc->I σ->(∀a∈(mw x.pieces.length ns ((x.aC.map (ce h)).drop s) u o).map (dC h ns),A a)->
   (∀ej,n9 h ns x.aC.length s o ej->cX (Gf ej) pv k kp (yC yv N ir it is++M) (bC f ((mw x.pieces.length ns ((x.aC.map (ce h)).drop s) u o).map (dC h ns)) σ))->
   a_ lv ij 134 (Gf tc σ++(yC yv N ir it is++M)) [iv s,wv u,.op ir 0,.op N 0,.op it 0,.op is 0,.op (N+1) 0] k kp:=by
 intro d;induction d with
 |zero=>
  intro s u o tc σ M k kp mf hu ho hT hI hA hk;refine bw (rs:=[.tmp 9]) (nt:=54) av4 λhH us=> ?_;simp only[bc,To];have g0:∀(tc:SD)(σ:S)(L:SA),(Gf tc σ++L)[N]?=L[0]?:=λtc σ L=>(hY tc).get σ L 0;have dM:s=x.aC.length:=by omega
  have sT:(x.aC.map (ce h)).drop s=[]:=UR (by simp;omega);rw[sT,mw]at hA hk;rw[List.map_singleton]at hA hk;rw[NS]at hk;have yi:tc=dC h ns o:=by subst dM;exact hT.all ho
  have jY:(tc.map iv).length=11:=by rw[Un,hT.len]
  refine ai ?_;refine ah ?_;simp only[seval,hr,TM,aQ];refine aA ?_;refine⟨λhc=> ?_,λhc=>by exfalso;simp at hc;omega⟩;refine ah ?_;simp only[seval,g0,ht,yC,jY];rw[Tn (i:=11) (l:=tc.map iv) (by rw[jY];exact Tm _)];rw[<- yi]at hA hk;have aI:=hk tc hT;refine nu ((hY tc).call σ tc (yC yv N ir it is++M) _ _ hI (hA _ (by simp)) ?_);cases hf:f σ tc with
  |go σ'=>
   rw[hf]at aI;simp only[cX]at aI⊢;(try simp only[seval]);refine aP ?_;exact bZ aI
  |stop σ'=>
   rw[hf]at aI;simp only[cX]at aI⊢;(try simp only[seval]);refine aP ?_;exact bZ aI
  |bad σ'=>
   rw[hf]at aI;simp only[cX]at aI⊢;exact bZ aI
 |succ d ihd=>
  intro s u o tc σ M k kp mf hu ho hT hI hA hk;refine bw (rs:=[.tmp 9]) (nt:=54) av4 λhH us=> ?_;simp only[bc,To];have TM:x.l=[iv x.first,iv x.hours,iv x.am,cz x.seen,aQ x.pieces,aQ x.aC]:=rfl;have g1:∀(tc:SD)(σ:S)(L:SA),(Gf tc σ++L)[N+1]?=L[1]?:=λtc σ L=>(hY tc).get σ L 1;have mT:=hx.cW;have yg:=hx.eG;obtain⟨y,hy⟩:=bU (xs:=x.aC) (i:=s) (by omega);have uQ:(x.aC.map (ce h))[s]?=some (ce h y):=by rw[Uo,hy];rfl
  have nK:qs[s]?=some (ce h y):=by obtain⟨r,e⟩:=Aq;rw[e,Tw (by simp;omega)];exact uQ
  have ml:ce h y<65536:=Xn (QV h y) (by decide);have aH:¬(s:Int)=(x.aC.length:Int):=by omega
  rw[vU uQ,apa]at hA hk;generalize hg:(λp=>if u.testBit p|| !(ce h y).testBit (ns.getD p 0)then[]else(mw x.pieces.length ns ((x.aC.map (ce h)).drop (s+1)) (u|||2^p) (o++[p])).map (dC h ns))=g at hA hk;refine ai ?_;refine ah ?_;simp only[seval,hr,TM,aQ];refine aA ?_;refine⟨λhc=>by exfalso;exact aH (by simpa using hc),λhc=> ?_⟩;refine aL ?_;refine ah ?_;simp only[seval,hr,TM,aQ];refine b_ ?_;refine zi (measure λm:Nat×S×SD=>x.pieces.length-m.1).wf (λm=>[(24,iv (m.1:Nat))]) (λm=>Gf m.2.2 m.2.1++(yC yv N ir it is++M)) (λm=>m.1<=x.pieces.length/\bC f ((Tt m.1).flatMap g) σ=.go m.2.1/\n9 h ns x.aC.length s o m.2.2) (0,σ,tc) (λ_ _=>rfl) (by intro p hp;simp at hp;subst hp;exact⟨_,rfl,Wk.refl _⟩) rfl (λ_ _=>by simp[yC,(hY _).len]) ⟨by omega,rfl,hT⟩ (λbX cU m au R hR=> ?_);obtain⟨i,τ,tq⟩:=m;obtain⟨hi,bK,lH⟩:=au;replace hi:i<=x.pieces.length:=hi;replace bK:bC f ((Tt i).flatMap g) σ=.go τ:=bK;replace lH:n9 h ns x.aC.length s o tq:=lH;refine ai ?_;refine aA ?_;refine⟨λhc=> ?_,λhc=> ?_⟩
  ·have bG:i<x.pieces.length:=(by omega);have bH:=TL i (by omega);have hws:=TL s (by omega);have rE:=Kg g bG;have tj:=Kh g i;have Cw:I τ:=A4 (A:=A) (hY tc).inv _ σ τ (λa ha=>hA a (by rw[rE];exact Ue _ ha)) hI bK;have b3:(0<=(s:Int)/\(s:Int)<3)=True:=(by simp;omega);have b4:(0<=(i:Int)/\(i:Int)<4)=True:=(by simp;omega);have Ec:(u.testBit i|| !(ce h y).testBit (ns.getD i 0))=true->g i=[]:=λe=>(by rw[<- hg];exact if_pos e);have Ko:(u.testBit i|| !(ce h y).testBit (ns.getD i 0))=false->g i=(mw x.pieces.length ns ((x.aC.map (ce h)).drop (s+1)) (u|||2^i) (o++[i])).map (dC h ns):=λe=>(by rw[<- hg];exact if_neg (by rw[e];simp));have aao:=lH.num h4 (by omega) (show i<ns.length by omega);refine aL ?_;refine ai ?_;refine eo 14 ?_;simp only[seval,ht,hs,b3,b4,zx nK,kS aao];refine gE (bv (u.testBit i)) (cO (ul hu ⟨rfl,rfl⟩)) ?_;(try simp only[seval]);refine xH (λh2=> ?_) (λh2=> ?_)
   ·(try simp only[seval,ht,hs,b3,b4,zx nK,kS aao]);refine gE (bv ((ce h y).testBit (ns.getD i 0))) (cO (ul ml ⟨rfl,rfl⟩)) ?_;(try simp only[seval]);refine aA ?_;refine⟨λh3=> ?_,λh3=> ?_⟩
    ·have aN:=Ec (by rw[h2];simpa using h3);refine bT ?_;refine ah ?_;simp only[seval,bH];exact hR _ ⟨(i+1,τ,tq),(by show x.pieces.length-(i+1)<x.pieces.length-i;omega),⟨by omega,by rw[tj,aN,Tu];exact bK,lH⟩,dp⟩
    ·have aN:=Ko (by rw[h2];simpa using h3);have jY:(tq.map iv).length=11:=(by rw[Un,lH.len]);have Jb:8+s<tq.length:=(by rw[lH.len];omega);refine aL ?_;refine ah ?_;simp only[seval,ht,b3,jY];refine⟨by omega,?_⟩;rw[wR Jb,dU];refine eo 6 ?_;simp only[seval,g1,yC];refine gE (wv (u|||2^i)) (cO (um hu (show i<16 by omega) ⟨rfl,rfl⟩)) ?_;rw[hws];have kF:u|||2^i<65536:=pF hu (wW (by omega));refine aK (ihd (s+1) (u|||2^i) (o++[i]) (tq.set (8+s) (i:Int)) τ M _ _ (by omega) kF (by simp[ho]) (lH.next (by omega) yg) Cw (λa ha=>hA a (by rw[rE,aN];exact T1 _ (Ue _ ha))) (λej sN=> ?_));have Cz:=sN.back h4 (by omega) ho;have AB:bC f ((Tt x.pieces.length).flatMap g) σ=match bC f (g i) τ with
       |.go s'=>bC f ((UZ (i+1) (x.pieces.length-(i+1))).flatMap g) s'
       |r=>r:=by
      rw[rE,qD,bK];exact qD f (g i) _ τ
     rw[<- aN];have aI:=hk ej Cz;rw[AB]at aI;cases hf:bC f (g i) τ with
     |go τ'=>
      simp only[cX];(try simp only[seval]);refine aA ?_;refine aL ?_;refine ah ?_;simp only[seval,bH];exact hR _ ⟨(i+1,τ',ej),(by show x.pieces.length-(i+1)<x.pieces.length-i;omega),⟨by omega,by rw[tj,qD,bK];exact hf,Cz⟩,dp⟩
     |stop τ'=>
      rw[hf]at aI;simp only[cX]at aI⊢;(try simp only[seval]);refine aA ?_;refine ai ?_;refine aP ?_;exact bZ aI
     |bad τ'=>
      rw[hf]at aI;simp only[cX]at aI⊢;exact bZ aI
   ·(try simp only[seval]);refine aA ?_;have aN:=Ec (by rw[show u.testBit i=true by simpa using h2];rfl);refine bT ?_;refine ah ?_;simp only[seval,bH];exact hR _ ⟨(i+1,τ,tq),(by show x.pieces.length-(i+1)<x.pieces.length-i;omega),⟨by omega,by rw[tj,aN,Tu];exact bK,lH⟩,dp⟩
  ·have dx:i=x.pieces.length:=(by omega);subst dx;have aI:=hk tq lH;rw[bK]at aI;refine bT ?_;refine ai ?_;refine aP ?_;exact bZ aI
def aiH{H:SA}{k kp:SF}{x:aj}{tc:SD}{qs:SE}(hk:k (.fn (.func 133) [] [.op H.length 0,.op (H.length+1) 0,.op (H.length+2) 0]) (H++[.cells x.l 73,.cells (tc.map iv) 83,.cells (qs.map λn=>wv n) 78])):a_ lv ij 112 H [x.av,.agg (tc.map iv),.agg (qs.map λn=>wv n)] k kp:=by
 refine bw (rs:=[.tmp 6]) (nt:=8) Tryz.f112 λhH hA=> ?_;simp only[bc,To,aj.av];refine ai ?_;refine ah ?_;simp only[seval,UY,Vt,U7,UL];refine aP ?_;exact bZ hk
def aiS{x:aj}{h:SD}{ns qs:SE}{N ir it is:Nat}{yv pv:AV}{S:Type}{f:S->SD->dD S}{Gf:SD->S->SA}{I:S->Prop}{A:SD->Prop}{tc:SD}{σ:S}{k kp:SF}(hx:x.Ok)(h4:h.length=4)(jf:ns.length=x.pieces.length)(hY:∀tc,jH lv ij yv f (Gf tc) N I A pv)(hr:∀tc σ L,(Gf tc σ++L)[ir]?=some (.cells x.l 73))
  (ht:∀tc σ L,(Gf tc σ++L)[it]?=some (.cells (tc.map iv) 83)) (dU:∀tc ej σ L,(Gf tc σ++L).set it (.cells (ej.map iv) 83)=Gf ej σ++L) (hs:∀tc σ L,(Gf tc σ++L)[is]?=some (.cells (qs.map λn=>wv n) 78)) (Aq:∃r,qs=x.aC.map (ce h)++r) (ye:qs.length=3)
  (au:∀m tc ej σ,(∀z∈Gf tc σ,eU m z)->∀z∈Gf ej σ,eU m z) (nM:∀n,Lt n pv) (yi:tc=dV h ns) (hI:I σ) (hA:∀a∈(iq x h ns).map (dC h ns),A a) (hk:∀ej,ej.length=11->gg (Gf ej) pv k kp [] (bC f ((iq x h ns).map (dC h ns)) σ)):a_ lv ij 133 (Gf tc σ) [yv,.op ir 0,.op it 0,.op is 0] k kp:=by
 refine bw (rs:=[]) (nt:=9) Tryz.f133 λhH us=> ?_;simp only[bc,To];have hN:=(hY tc).len σ;have mT:=hx.cW;have yg:=hx.eG;refine ah ?_;simp only[seval,(hY tc).parts];refine ai ?_;refine ah ?_;simp only[seval,UY,Vt,U7,UL];refine ai ?_;refine aK (?_);rw[hN];have rP:∀n,Lt n (.aF []):=λn=>by simp[im]
 have dM:=AY (k:=4) (l:=ns) (by omega);have cut:∀(ej:SD)(σ':S)(L:SA)(a:AV)(k:SF),(∀n,Lt n a)->k a (Gf ej σ')->bY (Gf tc σ).length (Gf ej σ'++L) a k:=λej σ' L a k ha aI=>by
  refine iK (H':=Gf ej σ') (Wk.refl _) rfl (by rw[(hY ej).len,(hY tc).len];exact Tm _) ?_ (ha _) aI;intro z hz;have h1:∀z∈Gf ej σ,eU N z:=au N tc ej σ (λw hw=>by have:=hH w hw;rwa[hN]at this);rw[(hY ej).len];exact(hY ej).ok N σ σ' h1 z hz
 refine aiT (x:=x) (h:=h) (ns:=ns) (qs:=qs) hx h4 jf hY hr ht dU hs Aq ye x.aC.length 0 0 [] tc σ [] _ _ rfl (by decide) rfl ⟨?_,?_,?_⟩ hI hA (λej sN=> ?_)
 ·rw[yi];simp[dV,h4,dM]
 ·rw[yi];unfold dV;rw[aj',Tu,Uu (by simp[h4,dM]),Tn (by simp[h4,dM])]
 ·rw[yi];unfold dV;rw[WA,UR (by simp[h4,dM]),Vo];have:(h++lz 4 ns).length=8:=by simp[h4,dM]
  rw[this];have:x.aC.length=0\/x.aC.length=1\/x.aC.length=2\/x.aC.length=3:=by omega
  rcases this with e|e|e|e<;>rw[e]<;>rfl
 have hk:=hk ej sN.len;change cX (Gf ej) pv _ _ _ (bC f ((iq x h ns).map (dC h ns)) σ);cases hf:bC f ((iq x h ns).map (dC h ns)) σ with
 |go s=>
  rw[hf]at hk;simp only[cX,gg]at hk⊢;rw[Tu]at hk;(try simp only[seval]);rw[<- hN];exact cut _ _ _ _ _ rP hk
 |stop s=>
  rw[hf]at hk;simp only[cX,gg]at hk⊢;rw[Tu]at hk;(try simp only[seval]);rw[<- hN];exact cut _ _ _ _ _ rP hk
 |bad s=>
  rw[hf]at hk;simp only[cX,gg]at hk⊢;rw[Tu]at hk;rw[<- hN];exact cut _ _ _ _ _ nM hk
end
section
variable {lv:Bool}{P:Tg}{s:AS}{ms:SE}{bs:S4}{nt:Nat}
def agm{f:Ui}{ps:TE}{bN body:UX}{fv:AV}{Φ:SN}(hf:s.ev f=some fv)
  (h:∀(l fn:Nat)(T:SH)(ag bo:UX),T=s.T->ag=bN->bo=body->eM lv P fv (s.H++[.obj (.deferred (some [])),.loop l .ready none fn T nt ps ag bo s.H.length]) [.fn (.yield l) [] []]
   (λ_ H'=>∃st pe fG T' jl gD gk fu gn,H'[s.H.length+1]?=some (.loop l st pe fG T' jl gD gk fu gn)/\st≠ .busy/\su Φ ⟨s.T,H'.set (s.H.length+1) .gone⟩ (s.H.length::ms) pe)
   (λpv H'=>Φ (.panic pv) ⟨s.T,H'⟩ (s.H.length::ms))):mC lv P nt (.rangeFunc f ps bN body) s ms Φ:=agl hf λl fn=>h l fn _ _ _ rfl rfl rfl
def I_{f:Ui}{ps:TE}{bN body:UX}{fv:AV}{Φ:SN}(hf:s.ev f=some fv)
  (h:∀(l fn:Nat)(T:SH)(ag bo:UX),T=s.T->ag=bN->bo=body->eM lv P fv (s.H++[.obj (.deferred (some [])),.loop l .ready none fn T nt ps ag bo s.H.length]) [.fn (.yield l) [] []]
   (λ_ H'=>∃st pe fG T' jl gD gk fu gn,H'[s.H.length+1]?=some (.loop l st pe fG T' jl gD gk fu gn)/\st≠ .busy/\su Φ ⟨s.T,H'.set (s.H.length+1) .gone⟩ (s.H.length::ms) pe)
   (λpv H'=>Φ (.panic pv) ⟨s.T,H'⟩ (s.H.length::ms))):ki lv P nt bs (.rangeFunc f ps bN body) s ms Φ:=agp hf λl fn=>h l fn _ _ _ rfl rfl rfl
def Fa{f:Ui}{ps:TE}{bN body:UX}{fv:AV}{Φ:SI}{l0:Nat}(G0:Nat){Ki Nc df:Nat}{N3:avK}{Np:Option UX}{T0:SH}{NJ:TE}{I4 Jf:UX}(hf:s.ev f=some fv)(h0:s.H[G0]?=some (.loop l0 N3 Np Ki T0 Nc NJ I4 Jf df))
  (h:∀(l fn:Nat)(T:SH)(ag bo:UX),T=s.T->ag=bN->bo=body->eM lv P fv (s.H++[.loop l .ready none fn T nt ps ag bo df]) [.fn (.yield l) [] []]
   (λ_ H'=>∃st pe fG T' jl gD gk fu gn,H'[s.H.length]?=some (.loop l st pe fG T' jl gD gk fu gn)/\st≠ .busy/\tV Φ ⟨s.T,H'.set s.H.length .gone⟩ pe)
   (λpv H'=>Φ (.panic pv) ⟨s.T,H'⟩)):aZ lv P (some l0) nt (.rangeFunc f ps bN body) s Φ:=af9 hf h0 λl fn=>h l fn _ _ _ rfl rfl rfl
end
section
variable {P:Tg}
def HN(Φ:SN)(s:AS)(ms:SE):su Φ s ms none=Φ .normal s ms:=by rw[su]
def apB(Φ:SN)(s:AS)(ms:SE):su Φ s ms (some .ret)=Φ .ret s ms:=by rw[su]
def HO(Φ:SI)(s:AS):tV Φ s none=Φ .normal s:=by rw[tV]
def apD(Φ:SI)(s:AS):tV Φ s (some .ret)=Φ .ret s:=by rw[tV]
def apC(Φ:SI)(s:AS)(i:Nat):tV Φ s (some (.exit i))=Φ (.exit i) s:=by rw[tV]
def agI(id:Nat)(Φ:SN)(s:AS)(ms:SE):an.pV id Φ .ret s ms=Φ .ret s ms:=by rw[an.pV];simp
def agH(id:Nat)(Φ:SN)(pv:AV)(s:AS)(ms:SE):an.pV id Φ (.panic pv) s ms=Φ (.panic pv) s ms:=by rw[an.pV];simp
def ar2(Φ:SN)(pv:AV)(s:AS)(ms:SE):an.vo Φ (.panic pv) s ms=Φ (.panic pv) s ms:=by rw[an.vo];simp
def asL(K:AS->SE->Prop)(Φ:SN)(pv:AV)(s:AS)(ms:SE):an.rZ K Φ (.panic pv) s ms=Φ (.panic pv) s ms:=by rw[an.rZ];simp
def aj0(rs:SW)(n:Nat)(k kp:SF)(s:AS)(ms:SE):si P rs n k kp .normal s ms=ao (iL ms s.H) λH'=>ao (gV P ⟨s.T,H'⟩ rs) λl=>bY n H' (iW l) k:=by rw[si]
def aj1(rs:SW)(n:Nat)(k kp:SF)(pv:AV)(s:AS)(ms:SE):si P rs n k kp (.panic pv) s ms=ao (iL ms s.H) λH'=>bY n H' pv kp:=by rw[si]
attribute [seval] agI agH ar2 asL aj0 aj1
end
inductive Lp where
 |ready
 |ret
 |exit (i:Nat)
 |busy
def Lp.st:Lp->avK
 |.ready=> .ready
 |.ret=> .done
 |.exit _=> .done
 |.busy=> .busy
def Lp.pe:Lp->Option UX
 |.ready=>none
 |.ret=>some .ret
 |.exit i=>some (.exit i)
 |.busy=>none
namespace Tk
def dD.map {S T:Type}(g:S->T):dD S->dD T
 |.go s=> .go (g s)
 |.stop s=> .stop (g s)
 |.bad s=> .bad (g s)
def dD.fin {S:Type}:dD S->Bool×S
 |.go s=>(false,s)
 |.stop s=>(false,s)
 |.bad s=>(true,s)
end Tk
def NP{S:Type}{Gf:S->SA}{pv:AV}{k kp:SF}{M:SA}{r r':dD S}(h:r.fin=r'.fin)(hk:gg Gf pv k kp M r):gg Gf pv k kp M r':=by
 cases r<;>cases r'<;>simp only[dD.fin,VQ]at h<;>first
  |(obtain⟨_,rfl⟩:=h;exact hk)
  |(exact absurd h.1 (by decide))
end Go.Gg
namespace Go.Gg.Tk
open Go.Gg
def iX {S:Type}(f:S->SD->dD S)(deep:Int)(m:S×Lp)(b:SD):dD (S×Lp):=match f m.1 b with
 |.go σ=>if deep=0 then .stop (σ,.ret)else if deep=1 then .stop (σ,.exit 3)else .go (σ,.ready)
 |.stop σ=> .stop (σ,.ret)
 |.bad σ=> .bad (σ,.busy)
def kQ {S:Type}:dD (S×Lp)->dD (S×Lp)
 |.go m=> .go (m.1,.ready)
 |.stop (σ,.ret)=> .stop (σ,.ret)
 |.stop (σ,_)=> .go (σ,.ready)
 |.bad m=> .bad (m.1,.busy)
def pI {S:Type}(f:S->SD->dD S)(deep:Int)(L:SD->SS)(m:S×Lp)(a:SD):dD (S×Lp):=kQ (bC (iX f deep) (L a) (m.1,.ready))
def rS (deep:Int)(ll:List (SS)):List (SD):=if deep=0 then ll.flatten.take 1 else if deep=1 then(ll.map (·.take 1)).flatten else ll.flatten
def asX{S:Type}{f:S->SD->dD S}{σ:S}{l:Lp}:∀(M:SS),bC (iX f 0) M (σ,l)=match M with
  |[]=> .go (σ,l)
  |b::_=>match f σ b with
   |.go τ=> .stop (τ,.ret)
   |.stop τ=> .stop (τ,.ret)
   |.bad τ=> .bad (τ,.busy)
 |[]=>rfl
 |b::M=>by
  simp only[bC,iX];cases f σ b<;>simp
def asY{S:Type}{f:S->SD->dD S}{σ:S}{l:Lp}:∀(M:SS),bC (iX f 1) M (σ,l)=match M with
  |[]=> .go (σ,l)
  |b::_=>match f σ b with
   |.go τ=> .stop (τ,.exit 3)
   |.stop τ=> .stop (τ,.ret)
   |.bad τ=> .bad (τ,.busy)
 |[]=>rfl
 |b::M=>by
  simp only[bC,iX];cases f σ b<;>simp
def ad0{S:Type}{f:S->SD->dD S}{deep:Int}(h0:deep≠0)(h1:deep≠1):∀(M:SS)(σ:S),bC (iX f deep) M (σ,.ready)=match bC f M σ with
  |.go τ=> .go (τ,.ready)
  |.stop τ=> .stop (τ,.ret)
  |.bad τ=> .bad (τ,.busy)
 |[],σ=>rfl
 |b::M,σ=>by
  simp only[bC,iX,h0,h1,if_false];cases f σ b with
  |go τ=>exact ad0 h0 h1 M τ
  |stop τ=>rfl
  |bad τ=>rfl
def ad1{S:Type}{f:S->SD->dD S}{deep:Int}{L:SD->SS}:∀(l:SS)(σ:S),((bC (pI f deep L) l (σ,.ready)).map Prod.fst).fin=(bC f (rS deep (l.map L)) σ).fin/\(∀m,bC (pI f deep L) l (σ,.ready)=.go m->m.2=.ready)
 |[],σ=>by
  have:rS deep (([]:SS).map L)=[]:=by
   unfold rS;by_cases h0:deep=0
   ·rw[if_pos h0];rfl
   ·by_cases h1:deep=1
    ·rw[if_neg h0,if_pos h1];rfl
    ·rw[if_neg h0,if_neg h1];rfl
  rw[this];exact⟨rfl,λm h=>by cases h;rfl⟩
 |a::l,σ=>by
  have ih:=ad1 (f:=f) (deep:=deep) (L:=L) l;by_cases h0:deep=0
  ·subst h0;have hp:rS 0 ((a::l).map L)=(L a++(l.map L).flatten).take 1:=rfl;have lj:rS 0 (l.map L)=((l.map L).flatten).take 1:=rfl;rw[hp];simp only[bC,pI,asX];cases hL:L a with
   |nil=>
    simp only[kQ,Vo];rw[<- lj];exact ih σ
   |cons b M=>
    simp only[WK,W4,awb];cases hf:f σ b with
    |go τ=>simp only[kQ,bC,hf];exact⟨rfl,λm h=>by cases h⟩
    |stop τ=>simp only[kQ,bC,hf];exact⟨rfl,λm h=>by cases h⟩
    |bad τ=>simp only[kQ,bC,hf];exact⟨rfl,λm h=>by cases h⟩
  by_cases h1:deep=1
  ·subst h1;have hp:rS 1 ((a::l).map L)=(L a).take 1++rS 1 (l.map L):=rfl;rw[hp,qD];simp only[bC,pI,asY];cases hL:L a with
   |nil=>
    simp only[kQ,List.take_nil,bC];exact ih σ
   |cons b M=>
    simp only[W4,awb,bC];cases hf:f σ b with
    |go τ=>simp only[kQ];exact ih τ
    |stop τ=>simp only[kQ];exact⟨rfl,λm h=>by cases h⟩
    |bad τ=>simp only[kQ];exact⟨rfl,λm h=>by cases h⟩
  ·have hp:rS deep ((a::l).map L)=L a++rS deep (l.map L):=(by unfold rS;rw[if_neg h0,if_neg h1,if_neg h0,if_neg h1];rfl);rw[hp,qD];simp only[bC,pI];rw[ad0 h0 h1];cases hf:bC f (L a) σ with
   |go τ=>simp only[kQ];exact ih τ
   |stop τ=>simp only[kQ];exact⟨rfl,λm h=>by cases h⟩
   |bad τ=>simp only[kQ];exact⟨rfl,λm h=>by cases h⟩
def NT{S α:Type}{F:S->α->dD S}:∀{l:List α}{s s':S},bC F l s=.stop s'->∃t a,F t a=.stop s'
 |[],s,s',h=>by cases h
 |a::l,s,s',h=>by
  simp only[bC]at h;cases hf:F s a with
  |go t=>rw[hf]at h;exact NT h
  |stop t=>rw[hf]at h;cases h;exact⟨s,a,hf⟩
  |bad t=>rw[hf]at h;cases h
def asW{S:Type}{f:S->SD->dD S}{deep:Int}{L:SD->SS}{m m':S×Lp}{a:SD}(h:pI f deep L m a=.stop m'):m'.2=.ret:=by
 unfold pI at h;generalize bC (iX f deep) (L a) (m.1,.ready)=r at h;cases r with
 |go q=>cases h
 |bad q=>cases h
 |stop q=>
  obtain⟨s,lp⟩:=q;cases lp<;>cases h;rfl
def as0{S:Type}{f:S->SD->dD S}{deep:Int}{m m':S×Lp}{a:SD}(h:iX f deep m a=.stop m'):m'.2=.ret\/m'.2=.exit 3:=by
 unfold iX at h;cases hf:f m.1 a with
 |go q=>
  rw[hf]at h;dsimp only at h;by_cases h0:deep=0
  ·rw[if_pos h0]at h;cases h;exact .inl rfl
  ·rw[if_neg h0]at h;by_cases h1:deep=1
   ·rw[if_pos h1]at h;cases h;exact .inr rfl
   ·rw[if_neg h1]at h;cases h
 |stop q=>rw[hf]at h;cases h;exact .inl rfl
 |bad q=>rw[hf]at h;cases h
def asZ{S:Type}{f:S->SD->dD S}{deep:Int}{m m':S×Lp}{a:SD}(h:iX f deep m a=.go m'):m'.2=.ready:=by
 unfold iX at h;cases hf:f m.1 a with
 |go q=>
  rw[hf]at h;dsimp only at h;by_cases h0:deep=0
  ·rw[if_pos h0]at h;cases h
  ·rw[if_neg h0]at h;by_cases h1:deep=1
   ·rw[if_pos h1]at h;cases h
   ·rw[if_neg h1]at h;cases h;rfl
 |stop q=>rw[hf]at h;cases h
 |bad q=>rw[hf]at h;cases h
def acI{S α:Type}{F:S->α->dD S}{J:S->Prop}{A:α->Prop}(hi:∀s a s',J s->A a->F s a=.go s'->J s'):∀{l:List α}{s s':S},(∀a∈l,A a)->J s->bC F l s=.stop s'->∃t a,J t/\A a/\F t a=.stop s'
 |[],s,s',_,_,h=>by cases h
 |a::l,s,s',ha,hs,h=>by
  simp only[bC]at h;cases hf:F s a with
  |go t=>rw[hf]at h;exact acI hi (λb hb=>ha b (by simp[hb])) (hi s a t hs (ha a (by simp)) hf) h
  |stop t=>rw[hf]at h;cases h;exact⟨s,a,hs,ha a (by simp),hf⟩
  |bad t=>rw[hf]at h;cases h
def Ei{S:Type}{f:S->SD->dD S}{deep:Int}{I:S->Prop}{A:SD->Prop}(hi:∀s a s',I s->A a->f s a=.go s'->I s'){m m':S×Lp}{a:SD}(hm:I m.1)(ha:A a)(h:iX f deep m a=.go m'\/iX f deep m a=.stop m'/\m'.2≠ .ret):I m'.1:=by
 unfold iX at h;cases hf:f m.1 a with
 |go q=>
  have hq:=hi _ _ _ hm ha hf;rw[hf]at h;dsimp only at h;by_cases h0:deep=0
  ·rw[if_pos h0]at h;rcases h with h|⟨h,h2⟩
   ·cases h
   ·cases h;exact hq
  ·rw[if_neg h0]at h;by_cases h1:deep=1
   ·rw[if_pos h1]at h;rcases h with h|⟨h,h2⟩
    ·cases h
    ·cases h;exact hq
   ·rw[if_neg h1]at h;rcases h with h|⟨h,h2⟩
    ·cases h;exact hq
    ·cases h
 |stop q=>
  rw[hf]at h;rcases h with h|⟨h,h2⟩
  ·cases h
  ·cases h;exact absurd rfl h2
 |bad q=>
  rw[hf]at h;rcases h with h|⟨h,h2⟩
  ·cases h
  ·cases h
def afr{S:Type}{f:S->SD->dD S}{deep:Int}{I:S->Prop}{A:SD->Prop}(hi:∀s a s',I s->A a->f s a=.go s'->I s'){l:SS}{σ:S}{m:S×Lp}(hl:∀a∈l,A a)(hs:I σ)(h:kQ (bC (iX f deep) l (σ,.ready))=.go m):I m.1/\m.2=.ready:=by
 cases hr:bC (iX f deep) l (σ,.ready)with
 |go q=>
  rw[hr]at h;cases h;exact⟨A4 (f:=iX f deep) (s':=q) (I:=λm:S×Lp=>I m.1) (A:=A) (λs a s' h1 h2 h3=>Ei hi h1 h2 (.inl h3)) l _ hl hs hr,rfl⟩
 |stop q=>
  obtain⟨t,a,h1,h2,h3⟩:=acI (J:=λm:S×Lp=>I m.1) (A:=A) (λs a s' h1 h2 h3=>Ei hi h1 h2 (.inl h3)) hl hs hr;rw[hr]at h;obtain⟨q1,q2⟩:=q;cases q2 with
  |ret=>cases h
  |ready=>cases h;exact⟨Ei (m':=(q1,.ready)) hi h1 h2 (.inr ⟨h3,by simp⟩),rfl⟩
  |exit i=>cases h;exact⟨Ei (m':=(q1,.exit i)) hi h1 h2 (.inr ⟨h3,by simp⟩),rfl⟩
  |busy=>cases h;exact⟨Ei (m':=(q1,.busy)) hi h1 h2 (.inr ⟨h3,by simp⟩),rfl⟩
 |bad q=>rw[hr]at h;cases h
end Go.Gg.Tk
namespace Go.Gg
open Go.Conc Go.Proofs Go.Gg.Tk
namespace Tk
def nq (l:SE)(i:Nat):SE:=l.take i++UE (3-i) 0
def agB{l:SE}{i q:Nat}(h:l[i]?=some q)(hl:l.length<=3):(nq l i).set i q=nq l (i+1):=by
 have hi:=ep h;unfold nq;rw[VE _ _ (by simp;omega),show i-(l.take i).length=0 by simp;omega,show 3-i=(3-(i+1))+1 by omega,Xu,UP,Yj,h];simp
def PB{l:SE}{i:Nat}(hi:i<=l.length)(hl:l.length<=3):(nq l i).length=3:=by simp[nq];omega
def agA{l:SE}:nq l l.length=l++UE (3-l.length) 0:=by simp[nq]
def ab1:∀{qs:SE}{u:Nat}{t ns:SE},ns∈kK qs u t->ns.length=t.length+qs.length
 |[],u,t,ns,h=>by
  simp only[kK,T7]at h;subst h;rfl
 |q::qs,u,t,ns,h=>by
  simp only[kK,T4]at h;obtain⟨n,_,h⟩:=h;split at h
  ·cases h
  ·have:=ab1 h;simp at this⊢;omega
def Nd{x:aj}{h:SD}{ns:SE}(hm:ns∈f_ x h):ns.length=x.pieces.length:=by
 have:=ab1 hm;simpa using this
def Hu (k:Nat)(a:SD):SE:=((a.drop 4).take k).map Y'
def aoF{h:SD}{ns:SE}(h4:h.length=4):Hu ns.length (dV h ns)=ns:=by
 unfold Hu dV lz;rw[Ax,WA,UR (by omega),h4,Vo,WL,WY,Ax,Uu (by simp),Tn (by simp),Y2]
 conv=>rhs;rw[<- List.map_id ns]
 exact WI λn _=>by simp
def uT (x:aj)(h:SD)(a:SD):List (SD):=(iq x h (Hu x.pieces.length a)).map (dC h (Hu x.pieces.length a))
def Mu{x:aj}{h:SD}{ns:SE}(h4:h.length=4)(hn:ns.length=x.pieces.length):uT x h (dV h ns)=(iq x h ns).map (dC h ns):=by
 unfold uT;rw[<- hn,aoF h4]
def as7{x:aj}{h:SD}{deep:Int}(h4:h.length=4):iI x deep h=rS deep (((f_ x h).map (dV h)).map (uT x h)):=by
 rw[Y2];have:(f_ x h).map (uT x h∘dV h)=(f_ x h).map λns=>(iq x h ns).map λos=>dC h ns os:=WI λns hm=>Mu h4 (Nd hm);rw[this];rfl
end Tk
section
variable {lv:Bool}
def J3{H:SA}{k kp:SF}{x:aj}{h:SD}{deep:Int}(hk:k (.fn (.func 110) [] [.op H.length 0,.op (H.length+1) 0,.op (H.length+2) 0]) (H++[.cells x.l 73,.cells (h.map iv) 80,.cells [iv deep] 3])):a_ lv ij 78 H [x.av,.agg (h.map iv),iv deep] k kp:=by
 refine bw (rs:=[.tmp 6]) (nt:=8) Tryz.f78 λhH hA=> ?_;simp only[bc,To,aj.av];refine ai ?_;refine ah ?_;simp only[seval,UY,Vt,U7,UL];refine aP ?_;exact bZ hk
def JU{x:aj}{h:SD}{deep:Int}{N ir ih id:Nat}{yv pv:AV}{S:Type}{f:S->SD->dD S}{Gf:S->SA}{I:S->Prop}{A:SD->Prop}{σ:S}{k kp:SF}(hx:x.Ok)(hh:mD h)(hY:jH lv ij yv f Gf N I A pv)(hr:∀σ L,(Gf σ++L)[ir]?=some (.cells x.l 73))(hi:∀σ L,(Gf σ++L)[ih]?=some (.cells (h.map iv) 80))(hd:∀σ L,(Gf σ++L)[id]?=some (.cells [iv deep] 3))
  (nM:∀n,Lt n pv) (hI:I σ) (p9:∀a,A a->a.length=11) (hA:∀ns∈f_ x h,∀a∈(iq x h ns).map (dC h ns),A a) (hk:gg Gf pv k kp [] (bC f (iI x deep h) σ)):a_ lv ij 110 (Gf σ) [yv,.op ir 0,.op ih 0,.op id 0] k kp:=by
 refine Q4 (rs:=[]) (nt:=44) F.f110 rfl rfl rfl (by simp) λhH us=> ?_;simp only[bc,To];have hN:=hY.len σ;have yg:=hx.eG;have nA:(h.map iv).length=4:=by rw[Un,hh.len]
 refine nm ?_;refine ah ?_;simp only[seval,hY.parts];refine agn ?_;refine nm ?_;refine ai ?_;refine I9 ?_;refine nm ?_;refine ah ?_;simp only[seval,hr,TM,aQ];refine I8 ?_;refine b_ ?_;refine fS x.aC.length (λi:Nat=>[(14,iv i)]) (λi=>Gf σ++[.cells [yv] 155,.cells ((nq (x.aC.map (ce h)) i).map λn=>wv n) 78]) (λi=>True) (λ_ _=>rfl) (by simp only[seval];simp[bP,Wk.refl]) rfl (λ_ _ _=>by simp) trivial (λbX cU i cK _ R hR=> ?_);refine ai ?_;refine aA ?_;refine⟨λhc=> ?_,λhc=> ?_⟩
 ·have bG:i<x.aC.length:=by omega
  obtain⟨y,hy⟩:=bU bG;have uQ:(x.aC.map (ce h))[i]?=some (ce h y):=by rw[Uo,hy];rfl
  have b3:(0<=(i:Int)/\(i:Int)<3)=True:=by simp;omega
  have bH:=TL i (by omega)
  have cD:(nq (x.aC.map (ce h)) i).length=3:=PB (by simp;omega) (by simpa using yg);have wa:((nq (x.aC.map (ce h)) i).map λn=>wv n).length=3:=by rw[Un,cD]
  refine aL ?_;refine ah ?_;simp only[seval,Ba hy,iB bG];refine ah ?_;simp only[seval,hi,nA];rw[Tn (i:=4) (l:=h.map iv) (by rw[nA];exact Tm _)];refine aK (FF (h:=h) (y:=y) hh ?_);(try simp only[seval,b3,wa]);refine⟨by omega,?_⟩;rw[NY (g:=λn=>wv n) (show i<(nq (x.aC.map (ce h)) i).length by omega),agB uQ (by simpa using yg)];refine ah ?_;simp only[seval,bH];exact hR _ ⟨bG,trivial,A3 (qA rfl rfl) (by simp only[seval];simp[bP,Wk.refl]) (aaq (L:=[_]) bX (ab7 _ _)) (by simp[dN])⟩
 have:i=x.aC.length:=by omega
 subst this;clear hc cK;refine bT ?_;have Aq:∃r,nq (x.aC.map (ce h)) x.aC.length=x.aC.map (ce h)++r:=⟨_,by
  have:=agA (l:=x.aC.map (ce h));simpa using this⟩
 have ye:(nq (x.aC.map (ce h)) x.aC.length).length=3:=PB (by simp) (by simpa using yg);have LV:((nq (x.aC.map (ce h)) x.aC.length).map λn=>wv n).length=3:=by rw[Un,ye]
 generalize nq (x.aC.map (ce h)) x.aC.length=qs at Aq ye LV;refine nm ?_;(repeat apply iA);refine Po ?_;simp only[seval];refine nm ?_;refine ah ?_;simp only[seval,hr,TM,hi,nA];rw[Tn (i:=4) (l:=h.map iv) (by rw[nA];exact Tm _)];refine aK (aiG (x:=x) (h:=h) ?_);(try simp only[seval]);refine agk ?_;refine agm (by rfl) λl fn T ag bo hT xN qb=> ?_;(try simp only[seval]);rw[hN]at hT⊢;have h4:=hh.len;have akB:jH lv ij (.fn (.yield l) [] []) (pI f deep (uT x h)) (λm:S×Lp=>Gf m.1++[.cells [yv] 155,.cells (qs.map λn=>wv n) 78,.cells x.l 73,.cells (h.map iv) 80,.obj (.deferred (some [])),.loop l m.2.st m.2.pe fn T 44 #[28] ag bo (N+4)]) (N+6) (λm=>I m.1/\m.2=.ready) (λa=>∃ns∈f_ x h,a=dV h ns) pv:=by
  have g3:∀(σ:S)(L:SA),(Gf σ++L)[N+1]?=L[1]?:=λσ L=>hY.get σ L 1;have g5:∀(σ:S)(L:SA),(Gf σ++L)[N+5]?=L[5]?:=λσ L=>hY.get σ L 5;have s5:∀(σ:S)(L:SA) y,(Gf σ++L).set (N+5) y=Gf σ++L.set 5 y:=λσ L y=>hY.set σ L 5 y;refine⟨λm a M k kp hm ha dG=> ?_,λm a m' hm ha he=> ?_,λm=>by simp[hY.len],λq m m' hz z e9=> ?_,rfl,rfl,rfl⟩
  ·obtain⟨σ,lp⟩:=m;obtain⟨KA,gT⟩:=hm;replace KA:I σ:=KA;replace gT:lp=.ready:=gT;subst gT;obtain⟨ns,jf,rfl⟩:=ha;have je:=Nd jf;have qv:(dV h ns).length=11:=(by simp[dV,h4,AY (k:=4) (l:=ns) (by have:=hx.cW;omega)]);have AA:((dV h ns).map iv).length=11:=(by rw[Un,qv]);obtain⟨Lo,kY⟩:∃Lo,Lo=aa.loop l .busy none fn T 44 #[28] ag bo (N+4):=⟨_,rfl⟩;obtain⟨P1,dt⟩:∃P1:S->SA,∀σ,P1 σ=Gf σ++([.cells [yv] 155,.cells (qs.map λn=>wv n) 78,.cells x.l 73,.cells (h.map iv) 80,.obj (.deferred (some [])),Lo]++M):=⟨_,λ_=>rfl⟩;have ey:∀σ,(P1 σ).length=N+6+M.length:=λσ=>(by rw[dt];simp[hY.len];omega);have pg:∀(σ:S)(L:SA)(i:Nat),i<6->(P1 σ++L)[N+i]?=[aa.cells [yv] 155,.cells (qs.map λn=>wv n) 78,.cells x.l 73,.cells (h.map iv) 80,.obj (.deferred (some [])),Lo][i]?:=λσ L i Li=>by
    rw[dt,Ax,hY.get,Ax,Tw (by simpa using Li)]
   have pr:∀(σ:S)(L:SA),(P1 σ++L)[ir]?=some (.cells x.l 73):=λσ L=>(by rw[dt,Ax];exact hr σ _);have pd:∀(σ:S)(L:SA),(P1 σ++L)[id]?=some (.cells [iv deep] 3):=λσ L=>(by rw[dt,Ax];exact hd σ _);have pb:∀(σ:S)(L:SA)(i:Nat),(P1 σ++L)[N+6+M.length+i]?=L[i]?:=λσ L i=>(by rw[<- ey σ,aS]);have wN:∀(σ:S)(L:SA),(P1 σ++L)[N+6+M.length]?=L[0]?:=λσ L=>pb σ L 0;have pg1:∀(σ:S)(L:SA),(P1 σ++L)[N+1]?=some (.cells (qs.map λn=>wv n) 78):=λσ L=>pg σ L 1 (by omega);have pg0:∀(σ:S)(L:SA),(P1 σ++L)[N]?=some (.cells [yv] 155):=λσ L=>pg σ L 0 (by omega);have R9:∀(τ:S)(lp:Lp),bO (Gf σ++(([aa.cells [yv] 155,.cells (qs.map λn=>wv n) 78,.cells x.l 73,.cells (h.map iv) 80,.obj (.deferred (some [])),.loop l .ready none fn T 44 #[28] ag bo (N+4)]:SA)++M))->bO (Gf τ++(([aa.cells [yv] 155,.cells (qs.map λn=>wv n) 78,.cells x.l 73,.cells (h.map iv) 80,.obj (.deferred (some [])),.loop l lp.st lp.pe fn T 44 #[28] ag bo (N+4)]:SA)++M)):=λτ lp h_ z hz=>by
    have hlen:(Gf τ++(([aa.cells [yv] 155,.cells (qs.map λn=>wv n) 78,.cells x.l 73,.cells (h.map iv) 80,.obj (.deferred (some [])),.loop l lp.st lp.pe fn T 44 #[28] ag bo (N+4)]:SA)++M)).length=(Gf σ++(([aa.cells [yv] 155,.cells (qs.map λn=>wv n) 78,.cells x.l 73,.cells (h.map iv) 80,.obj (.deferred (some [])),.loop l .ready none fn T 44 #[28] ag bo (N+4)]:SA)++M)).length:=(by simp[hY.len]);have hl:=h_ (.loop l .ready none fn T 44 #[28] ag bo (N+4)) (by simp);rw[hlen];rcases Tp.1 hz with h'|h'
    ·exact hY.ok _ σ τ (λw hw=>h_ w (Ue _ hw)) z h'
    ·rcases Tp.1 h' with h'|h'
     ·simp only[Th,Tv,or_false]at h';rcases h' with rfl|rfl|rfl|rfl|rfl|rfl
      ·exact h_ _ (by simp)
      ·exact h_ _ (by simp)
      ·exact h_ _ (by simp)
      ·exact h_ _ (by simp)
      ·exact h_ _ (by simp)
      ·exact hl
     ·exact h_ z (T1 _ (T1 _ h'))
   have J8:bO (Gf σ++(([aa.cells [yv] 155,.cells (qs.map λn=>wv n) 78,.cells x.l 73,.cells (h.map iv) 80,.obj (.deferred (some [])),.loop l .ready none fn T 44 #[28] ag bo (N+4)]:SA)++M))->∀(τ:S)(lp:Lp)(b':Bool)(TT:SH)(L:SA),k (bv b') ((Gf τ++[.cells [yv] 155,.cells (qs.map λn=>wv n) 78,.cells x.l 73,.cells (h.map iv) 80,.obj (.deferred (some [])),.loop l lp.st lp.pe fn T 44 #[28] ag bo (N+4)])++M)->oV (N+5) (N+6+M.length) k lp.st lp.pe b' ⟨TT,P1 τ++L⟩:=λh_ τ lp b' TT L dG=>by
    refine⟨l,.busy,none,fn,T,44,#[28],ag,bo,N+4,by show (P1 τ++L)[_]?=_;rw[pg τ _ 5 (by omega),kY];rfl,?_⟩;show bY (N+6+M.length) ((P1 τ++L).set _ _) _ k;rw[dt,Ax,s5];rw[Ax]at dG;exact iK (G:=L) (Wk.refl _) (by simp) (by simp[hY.len];omega) (R9 τ lp h_) (.val _) dG
   have ajM:bO (Gf σ++(([aa.cells [yv] 155,.cells (qs.map λn=>wv n) 78,.cells x.l 73,.cells (h.map iv) 80,.obj (.deferred (some [])),.loop l .ready none fn T 44 #[28] ag bo (N+4)]:SA)++M))->∀(τ:S)(L:SA),kp pv ((Gf τ++[.cells [yv] 155,.cells (qs.map λn=>wv n) 78,.cells x.l 73,.cells (h.map iv) 80,.obj (.deferred (some [])),.loop l Lp.busy.st Lp.busy.pe fn T 44 #[28] ag bo (N+4)])++M)->bY (N+6+M.length) (P1 τ++L) pv kp:=λh_ τ L dG=>by
    rw[Ax]at dG;rw[dt,kY];exact iK (G:=L) (Wk.refl _) rfl (by simp[hY.len];omega) (R9 τ .busy h_) (nM _) dG
   subst hT xN qb;rw[Ax];refine vR (id:=N+5) (by rw[g5];rfl) rfl (by kernel_rfl) λou Kv=> ?_;simp only[se];have we:Vv 11 [iv 0,iv 0,iv 0,iv 0,iv 0,iv 0,iv 0,iv 0,iv 0,iv 0,iv 0]=[]:=rfl;refine ah ?_;simp only[seval,qv,we];unfold tW;refine⟨none,fn,_,44,#[28],_,_,_,by rw[g5];rfl,?_⟩;dsimp only;rw[s5];simp only[Vg,UP];rw[<- kY];have xJ:(Gf σ).length+(M.length+1+1+1+1+1+1)=N+6+M.length:=(by rw[hY.len];omega);rw[xJ];have xX:∀z:aa,Gf σ++aa.cells [yv] 155::aa.cells (Wh (λn=>wv n) qs) 78::aa.cells x.l 73::aa.cells (Wh iv h) 80::aa.obj (ac' (some []))::Lo::(M++[z])=P1 σ++[z]:=λz=>(by rw[dt];simp);rw[xX];refine ah ?_;simp only[seval,pr,TM,wN,pg1,AA,qv,LV,ye];rw[Tn (i:=11) (l:=(dV h ns).map iv) (by rw[AA];exact Tm _),Tn (i:=3) (l:=qs.map λn=>wv n) (by rw[LV];exact Tm _)];refine aK (aiH (x:=x) (tc:=dV h ns) (qs:=qs) ?_);(try simp only[seval]);refine b_ ?_;have qh:∀(σ:S)(a b c d:aa),(P1 σ++[a,b,c,d]).length=N+6+M.length+4:=λσ a b c d=>(by simp[ey]);refine Fa (N+5) (by rfl) (by show (P1 σ++_)[N+5]?=_;rw[pg σ _ 5 (by omega),kY];rfl) λl2 eP T2 gI gJ ow xO xQ=> ?_;simp only[seval];rw[ey]at ow⊢;have AN:∀(σ τ:S)(L L':SA),L'.length=L.length->(∀q,(∀z∈L,eU q z)->∀z∈L',eU q z)->bO (P1 σ++L)->bO (P1 τ++L'):=λσ τ L L' hl hL hH z hz=>by
    have hlen:(P1 τ++L').length=(P1 σ++L).length:=(by simp[ey,hl]);rw[hlen];rcases Tp.1 hz with h'|h'
    ·rw[dt]at h';rcases Tp.1 h' with h'|h'
     ·exact hY.ok _ σ τ (λw hw=>hH w (Ue _ (by rw[dt];exact Ue _ hw))) z h'
     ·exact hH z (Ue _ (by rw[dt];exact T1 _ h'))
    ·exact hL _ (λw hw=>hH w (T1 _ hw)) z h'
   have xM:∀tc:SD,jH lv ij (.fn (.yield l2) [] []) (iX f deep) (λm:S×Lp=>P1 m.1++[.cells ((dV h ns).map iv) 83,.cells x.l 73,.cells (tc.map iv) 83,.cells (qs.map λn=>wv n) 78,.loop l2 m.2.st m.2.pe eP T2 44 #[33] gI gJ (N+4)]) (N+6+M.length+5) (λm=>I m.1/\m.2=.ready) A pv:=λtc=>by
    refine⟨λm b M2 k2 yq hm hb lh=> ?_,λm b m' hm hb he=> ?_,λm=>by simp[ey],λq m m' hz z e9=> ?_,rfl,rfl,rfl⟩
    ·obtain⟨σ',lp⟩:=m;obtain⟨KB,gT⟩:=hm;replace KB:I σ':=KB;replace gT:lp=.ready:=gT;subst gT;have cD:b.length=11:=p9 b hb;have wa:(b.map iv).length=11:=(by rw[Un,cD]);obtain⟨pN,sM⟩:∃Lo,Lo=aa.loop l2 .busy none eP T2 44 #[33] gI gJ (N+4):=⟨_,rfl⟩;obtain⟨Q1,gp⟩:∃Q1:S->SA,∀σ,Q1 σ=P1 σ++([.cells ((dV h ns).map iv) 83,.cells x.l 73,.cells (tc.map iv) 83,.cells (qs.map λn=>wv n) 78,pN]++M2):=⟨_,λ_=>rfl⟩;obtain⟨C,hC⟩:∃C,C=N+6+M.length+5+M2.length:=⟨_,rfl⟩;have KH:∀σ,(Q1 σ).length=C:=λσ=>(by rw[gp,hC];simp[ey];omega);have lY:∀(σ:S)(L:SA),(P1 σ++L)[N+6+M.length+4]?=L[4]?:=λσ L=>pb σ L 4;have pH:∀(σ:S)(L:SA)(y:aa),(P1 σ++L).set (N+6+M.length+4) y=P1 σ++L.set 4 y:=λσ L y=>(by rw[<- ey σ,dg]);have qN:∀(σ:S)(L:SA),(Q1 σ++L)[N]?=some (.cells [yv] 155):=λσ L=>(by rw[gp,Ax];exact pg0 σ _);have qd:∀(σ:S)(L:SA),(Q1 σ++L)[id]?=some (.cells [iv deep] 3):=λσ L=>(by rw[gp,Ax];exact pd σ _);have q4:∀(σ:S)(L:SA),(Q1 σ++L)[N+6+M.length+4]?=some pN:=λσ L=>(by rw[gp,Ax,lY];rfl);have qc:∀(σ:S)(L:SA),(Q1 σ++L)[C]?=L[0]?:=λσ L=>(by rw[<- KH σ];exact aS _ L 0);have NM:∀(σ:S)(L:SA)(y:aa),(Q1 σ++L).set (N+6+M.length+4) y=(P1 σ++([.cells ((dV h ns).map iv) 83,.cells x.l 73,.cells (tc.map iv) 83,.cells (qs.map λn=>wv n) 78,y]++M2))++L:=λσ L y=>(by rw[gp,Ax,pH];simp);obtain⟨Mz,FW⟩:∃Mz:SA,∀σ,Q1 σ++[.cells (b.map iv) 83]=Gf σ++Mz:=⟨_,λσ=>by rw[gp,dt,Ax,Ax]⟩;have eQ:∀(τ:S)(lp:Lp),bO (P1 σ'++([.cells ((dV h ns).map iv) 83,.cells x.l 73,.cells (tc.map iv) 83,.cells (qs.map λn=>wv n) 78,.loop l2 .ready none eP T2 44 #[33] gI gJ (N+4)]++M2))->bO (P1 τ++([.cells ((dV h ns).map iv) 83,.cells x.l 73,.cells (tc.map iv) 83,.cells (qs.map λn=>wv n) 78,.loop l2 lp.st lp.pe eP T2 44 #[33] gI gJ (N+4)]++M2)):=λτ lp h_=>AN σ' τ _ _ (by simp) (λq hz z e9=>by
      have hl:=hz (.loop l2 .ready none eP T2 44 #[33] gI gJ (N+4)) (by simp);rcases Tp.1 e9 with h'|h'
      ·simp only[Th,Tv,or_false]at h';rcases h' with rfl|rfl|rfl|rfl|rfl
       ·exact hz _ (by simp)
       ·exact hz _ (by simp)
       ·exact hz _ (by simp)
       ·exact hz _ (by simp)
       ·exact hl
      ·exact hz _ (T1 _ h')) h_
     have gA:cX (λm:S×Lp=>P1 m.1++[.cells ((dV h ns).map iv) 83,.cells x.l 73,.cells (tc.map iv) 83,.cells (qs.map λn=>wv n) 78,.loop l2 m.2.st m.2.pe eP T2 44 #[33] gI gJ (N+4)]) pv k2 yq M2 (iX f deep (σ',.ready) b):=lh;have K6:∀z:aa,P1 σ'++(aa.cells (Wh iv (dV h ns)) 83::aa.cells x.l 73::aa.cells (Wh iv tc) 83::aa.cells (Wh (λn=>wv n) qs) 78::pN::(M2++[z]))=Q1 σ'++[z]:=λz=>(by rw[gp];simp);have FI:bO (P1 σ'++([.cells ((dV h ns).map iv) 83,.cells x.l 73,.cells (tc.map iv) 83,.cells (qs.map λn=>wv n) 78,.loop l2 .ready none eP T2 44 #[33] gI gJ (N+4)]++M2))->∀(τ:S)(lp:Lp)(b':Bool)(TT:SH),k2 (bv b') ((P1 τ++[.cells ((dV h ns).map iv) 83,.cells x.l 73,.cells (tc.map iv) 83,.cells (qs.map λn=>wv n) 78,.loop l2 lp.st lp.pe eP T2 44 #[33] gI gJ (N+4)])++M2)->oV (N+6+M.length+4) C k2 lp.st lp.pe b' ⟨TT,Gf τ++Mz⟩:=λh_ τ lp b' TT dG=>by
      refine⟨l2,.busy,none,eP,T2,44,#[33],gI,gJ,N+4,by show (Gf τ++Mz)[_]?=_;rw[<- FW,q4,sM],?_⟩;show bY C ((Gf τ++Mz).set _ _) _ k2;rw[<- FW,NM];rw[Ax]at dG;exact iK (G:=[.cells (b.map iv) 83]) (Wk.refl _) rfl (by rw[hC];simp[ey];omega) (eQ τ lp h_) (.val _) dG
     have ajL:bO (P1 σ'++([.cells ((dV h ns).map iv) 83,.cells x.l 73,.cells (tc.map iv) 83,.cells (qs.map λn=>wv n) 78,.loop l2 .ready none eP T2 44 #[33] gI gJ (N+4)]++M2))->∀τ:S,yq pv ((P1 τ++[.cells ((dV h ns).map iv) 83,.cells x.l 73,.cells (tc.map iv) 83,.cells (qs.map λn=>wv n) 78,.loop l2 Lp.busy.st Lp.busy.pe eP T2 44 #[33] gI gJ (N+4)])++M2)->bY C (Gf τ++Mz) pv yq:=λh_ τ dG=>by
      rw[<- FW,gp,sM];rw[Ax]at dG;exact iK (G:=[.cells (b.map iv) 83]) (Wk.refl _) rfl (by rw[hC];simp[ey];omega) (eQ τ .busy h_) (nM _) dG
     subst ow xO xQ;rw[Ax];refine vR (id:=N+6+M.length+4) (by rw[lY];rfl) rfl (by kernel_rfl) λre Kw=> ?_;simp only[se];refine ah ?_;simp only[seval,cD,we];unfold tW;refine⟨none,eP,_,44,#[33],_,_,_,by rw[lY];rfl,?_⟩;dsimp only;rw[pH];simp only[Vg,UP];rw[<- sM];have Cq:(P1 σ').length+(M2.length+1+1+1+1+1)=C:=(by rw[ey,hC];omega);rw[Cq,K6];refine ah ?_;simp only[seval,qN,qc,cD,wa];rw[Tn (i:=11) (l:=b.map iv) (by rw[wa];exact Tm _),FW];refine nu (hY.call σ' b Mz _ _ KB hb ?_);unfold iX at gA;rw[show f (σ',Lp.ready).1 b=f σ' b from rfl]at gA;cases hf:f σ' b with
     |go τ=>
      rw[hf]at gA;dsimp only at gA;simp only[cX];(try simp only[seval,hd]);refine aA ?_;refine⟨λh0=> ?_,λh0=> ?_⟩
      ·replace h0:deep=0:=(by simpa using h0);rw[if_pos h0]at gA;simp only[cX]at gA;refine aP ?_;exact FI re τ .ret false _ gA
      ·replace h0:¬deep=0:=(by simpa using h0);rw[if_neg h0]at gA;refine aL ?_;refine ah ?_;simp only[seval,hd];refine aA ?_;refine⟨λh1=> ?_,λh1=> ?_⟩
       ·replace h1:deep=1:=(by simpa using h1);rw[if_pos h1]at gA;simp only[cX]at gA;refine bT ?_;exact FI re τ (.exit 3) false _ gA
       ·replace h1:¬deep=1:=(by simpa using h1);rw[if_neg h1]at gA;simp only[cX]at gA;refine aL ?_;exact FI re τ .ready true _ gA
     |stop τ=>
      rw[hf]at gA;dsimp only at gA;simp only[cX]at gA⊢;(try simp only[seval]);refine aA ?_;refine aP ?_;exact FI re τ .ret false _ gA
     |bad τ=>
      rw[hf]at gA;dsimp only at gA;simp only[cX]at gA⊢;exact ajL re τ gA
    ·obtain⟨σ',lp⟩:=m;obtain⟨τ,DL⟩:=m';unfold iX at he;have hi:=(hY.inv σ' b τ hm.1 hb);cases hf:f σ' b with
     |go τ'=>
      rw[show f (σ',lp).1 b=f σ' b from rfl,hf]at he;dsimp only at he;by_cases h0:deep=0
      ·rw[if_pos h0]at he;cases he
      ·rw[if_neg h0]at he;by_cases h1:deep=1
       ·rw[if_pos h1]at he;cases he
       ·rw[if_neg h1]at he;cases he;exact⟨hi hf,rfl⟩
     |stop τ'=>rw[show f (σ',lp).1 b=f σ' b from rfl,hf]at he;cases he
     |bad τ'=>rw[show f (σ',lp).1 b=f σ' b from rfl,hf]at he;cases he
    ·rcases Tp.1 e9 with h'|h'
     ·rw[dt]at h';rcases Tp.1 h' with h'|h'
      ·exact hY.ok q m.1 m'.1 (λw hw=>hz w (Ue _ (by rw[dt];exact Ue _ hw))) z h'
      ·exact hz z (Ue _ (by rw[dt];exact T1 _ h'))
     ·have hl:=hz _ (T1 _ (Uf (i:=4) rfl));simp only[Th,Tv,or_false]at h';rcases h' with rfl|rfl|rfl|rfl|rfl
      ·exact hz _ (T1 _ (by simp))
      ·exact hz _ (T1 _ (by simp))
      ·exact hz _ (T1 _ (by simp))
      ·exact hz _ (T1 _ (by simp))
      ·exact hl
   have e1:pI f deep (uT x h) (σ,.ready) (dV h ns)=kQ (bC (iX f deep) ((iq x h ns).map (dC h ns)) (σ,.ready)):=(by unfold pI;rw[Mu h4 je]);rw[e1]at dG;refine cO (aiS (x:=x) (h:=h) (ns:=ns) (qs:=qs) (N:=N+6+M.length+5) (ir:=N+6+M.length+1) (it:=N+6+M.length+2) (is:=N+6+M.length+3) (tc:=dV h ns) (σ:=(σ,Lp.ready)) hx h4 je xM (λtc m L=> ?_) (λtc m L=> ?_) (λtc ej m L=> ?_) (λtc m L=> ?_) Aq ye (λq tc ej m hz z e9=> ?_) nM rfl ⟨KA,rfl⟩ (hA ns jf) (λej au7=> ?_))
   ·rw[Ax];exact pb _ _ 1
   ·rw[Ax];exact pb _ _ 2
   ·rw[Ax,<- ey m.1,dg,Ax];rfl
   ·rw[Ax];exact pb _ _ 3
   ·rcases Tp.1 e9 with h'|h'
    ·exact hz z (Ue _ h')
    ·simp only[Th,Tv,or_false]at h';rcases h' with rfl|rfl|rfl|rfl|rfl
     ·exact hz _ (by simp)
     ·exact hz _ (by simp)
     ·exact aoW _ _ _
     ·exact hz _ (by simp)
     ·exact hz _ (by simp)
   have lY:∀(σ:S)(L:SA),(P1 σ++L)[N+6+M.length+4]?=L[4]?:=λσ L=>pb σ L 4;have pH:∀(σ:S)(L:SA)(y:aa),(P1 σ++L).set (N+6+M.length+4) y=P1 σ++L.set 4 y:=λσ L y=>(by rw[<- ey σ,dg]);cases cK:bC (iX f deep) ((iq x h ns).map (dC h ns)) (σ,.ready)with
   |go m=>
    obtain⟨τ,lp⟩:=m;have gT:lp=.ready:=A4 (I:=λm:S×Lp=>m.2=.ready) (A:=λ_=>True) (λs a s' _ _ e=>asZ e) _ _ _ (λ_ _=>trivial) rfl cK;subst gT;rw[cK]at dG;simp only[kQ,cX]at dG;simp only[gg,Tu];refine⟨.ready,none,_,_,_,_,_,_,_,by rw[lY];rfl,by decide,?_⟩;rw[pH,HO];(try simp only[seval]);exact J8 ou τ .ready true _ _ dG
   |stop m=>
    obtain⟨τ,lp⟩:=m;have gT:lp=.ret\/lp=.exit 3:=by
     obtain⟨_,_,q⟩:=NT cK;exact as0 q
    rw[cK]at dG;rcases gT with rfl|rfl
    ·simp only[kQ,cX]at dG;simp only[gg,Tu];refine⟨.done,some .ret,_,_,_,_,_,_,_,by rw[lY];rfl,by decide,?_⟩;rw[pH,apD];(try simp only[seval]);exact J8 ou τ .ret false _ _ dG
    ·simp only[kQ,cX]at dG;simp only[gg,Tu];refine⟨.done,some (.exit 3),_,_,_,_,_,_,_,by rw[lY];rfl,by decide,?_⟩;rw[pH,apC];(try simp only[seval]);exact J8 ou τ .ready true _ _ dG
   |bad m=>
    obtain⟨τ,lp⟩:=m;rw[cK]at dG;simp only[kQ,cX]at dG;simp only[gg,Tu];exact ajM ou τ _ dG
  ·obtain⟨σ',lp⟩:=m;obtain⟨τ,DL⟩:=m';obtain⟨ns,jf,rfl⟩:=ha;have e1:pI f deep (uT x h) (σ',lp) (dV h ns)=kQ (bC (iX f deep) ((iq x h ns).map (dC h ns)) (σ',.ready)):=(by unfold pI;rw[Mu h4 (Nd jf)]);rw[e1]at he;exact afr hY.inv (hA ns jf) hm.1 he
  ·rcases Tp.1 e9 with h'|h'
   ·exact hY.ok q m.1 m'.1 (λw hw=>hz w (Ue _ hw)) z h'
   ·have hl:=hz _ (T1 _ (Uf (i:=5) rfl));simp only[Th,Tv,or_false]at h';rcases h' with rfl|rfl|rfl|rfl|rfl|rfl
    ·exact hz _ (T1 _ (by simp))
    ·exact hz _ (T1 _ (by simp))
    ·exact hz _ (T1 _ (by simp))
    ·exact hz _ (T1 _ (by simp))
    ·exact hz _ (T1 _ (by simp))
    ·exact hl
 obtain⟨ee,uM⟩:=ad1 (f:=f) (deep:=deep) (L:=uT x h) ((f_ x h).map (dV h)) σ;rw[<- as7 h4]at ee;have g4:∀(σ:S)(L:SA),(Gf σ++L)[N+4]?=L[4]?:=λσ L=>hY.get σ L 4;have g5:∀(σ:S)(L:SA),(Gf σ++L)[N+4+1]?=L[5]?:=λσ L=>hY.get σ L 5;have s4:∀(σ:S)(L:SA) y,(Gf σ++L).set (N+4) y=Gf σ++L.set 4 y:=λσ L y=>hY.set σ L 4 y;have s5:∀(σ:S)(L:SA) y,(Gf σ++L).set (N+4+1) y=Gf σ++L.set 5 y:=λσ L y=>hY.set σ L 5 y;have rP:∀n,Lt n (.aF []):=λn=>by simp[im]
 refine cO (aiQ (x:=x) (h:=h) (N:=N+6) (ir:=N+2) (ih:=N+3) (σ:=(σ,Lp.ready)) hx hh akB (λm L=> ?_) (λm L=> ?_) nM ⟨hI,rfl⟩ (λa ha=> ?_) ?_)
 ·rw[Ax,hY.get m.1 _ 2];rfl
 ·rw[Ax,hY.get m.1 _ 3];rfl
 ·obtain⟨ns,h1,rfl⟩:=Um.1 ha;exact⟨ns,h1,rfl⟩
 cases bK:bC (pI f deep (uT x h)) ((f_ x h).map (dV h)) (σ,.ready)with
 |go m=>
  obtain⟨σ',lp⟩:=m;have gT:lp=.ready:=uM _ bK;subst gT;rw[bK]at ee;have aI:=NP (r':=.go σ') ee.symm hk;simp only[gg,Tu]at aI⊢;refine⟨.ready,none,_,_,_,_,_,_,_,by rw[g5];rfl,by decide,?_⟩;rw[s5];simp only[Vg,UP];rw[HN];(try simp only[seval]);rw[zL (by rw[g4];rfl),zM,s4];(try simp only[seval]);rw[<- hN];exact vc hY hH rP aI
 |stop m=>
  obtain⟨σ',lp⟩:=m;have gT:lp=.ret:=by
   obtain⟨_,_,q⟩:=NT bK;exact asW q
  subst gT;rw[bK]at ee;have aI:=NP (r':=.stop σ') ee.symm hk;simp only[gg,Tu]at aI⊢;refine⟨.done,some .ret,_,_,_,_,_,_,_,by rw[g5];rfl,by decide,?_⟩;rw[s5];simp only[Vg,UP];rw[apB];(try simp only[seval]);rw[zL (by rw[g4];rfl),zM,s4];(try simp only[seval]);rw[<- hN];exact vc hY hH rP aI
 |bad m=>
  obtain⟨σ',lp⟩:=m;rw[bK]at ee;have aI:=NP (r':=.bad σ') ee.symm hk;simp only[gg,Tu]at aI⊢;rw[zL (by rw[g4];rfl),zM,s4];rw[wL,<- hN];exact vc hY hH nM aI
end
open Go.Conc Go.Proofs Go.Gg.Tk
namespace Tk
def mJ (x y:Int):Int:=if x<y then -1 else if y<x then 1 else 0
def oe:SD->SD->Int
 |a::l,b::m=>if mJ a b≠0 then mJ a b else oe l m
 |[],[]=>0
 |[],_::_=> -1
 |_::_,[]=>1
def sD (a b:SD):Bool:=if a.take 4=b.take 4 then(if oe ((a.drop 4).take 4) ((b.drop 4).take 4)≠0 then decide (oe ((a.drop 4).take 4) ((b.drop 4).take 4)<0)else decide (oe (a.drop 8) (b.drop 8)<0))else decide (oe (a.take 4) (b.take 4)<0)
end Tk
def Fy{ca pa ra:SC}{xs:SD}{o i:Nat}{x:Int}(hc:ca=pa++(xs.map iv++ra))(ho:pa.length=o)(h:xs[i]?=some x):ca.drop (o+i)=iv x::((xs.drop (i+1)).map iv++ra):=by
 subst hc ho;rw[WA,UR (by omega),Vo,show pa.length+i-pa.length=i by omega,WA,kS h,show i-(xs.map iv).length=0 by have:=ep h;simp;omega,WY];rfl
section
variable {lv:Bool}{H:SA}{k kp:SF}
def QD{x:Int}(hk:k (bv false) H):a_ lv ij 164 H [iv x] k kp:=by
 refine bw (rs:=[.tmp 2]) (nt:=6) Tryz.f164 λhH hA=> ?_;simp only[bc,To];refine ai ?_;refine ah ?_;simp only[seval,bne_self_eq_false];refine aP ?_;refine bZ ?_;simpa using hk
def aiX{x y:Int}(hk:k (iv (mJ x y)) H):a_ lv ij 163 H [iv x,iv y] k kp:=by
 refine bw (rs:=[.tmp 4]) (nt:=20) Tryz.f163 λhH hA=> ?_;simp only[bc,To];refine ai ?_;refine ai ?_;refine aK (QD ?_);(try simp only[seval]);refine ai ?_;refine aK (QD ?_);(try simp only[seval]);refine ai ?_;refine aA ?_;refine aL ?_;refine ai ?_;refine aA ?_;refine aL ?_;refine ai ?_;refine aA ?_;refine⟨λh=> ?_,λh=> ?_⟩
 ·refine ai ?_;refine aP ?_;rw[mJ,if_pos h]at hk;exact bZ hk
 ·refine aL ?_;refine ai ?_;refine aA ?_;refine⟨λh2=> ?_,λh2=> ?_⟩
  ·refine ai ?_;refine aP ?_;rw[mJ,if_neg h,if_pos h2]at hk;exact bZ hk
  ·refine aL ?_;refine ai ?_;refine aP ?_;rw[mJ,if_neg h,if_neg h2]at hk;exact bZ hk
def JV{xs ys:SD}{ia oa ib ob ta tb:Nat}{ca cb pa ra pb rb:SC}(ha:H[ia]?=some (.cells ca ta))(hb:H[ib]?=some (.cells cb tb))(hca:ca=pa++(xs.map iv++ra))(LN:pa.length=oa)(hcb:cb=pb++(ys.map iv++rb))(hpb:pb.length=ob)(hl:ys.length=xs.length)(h4:xs.length<=4)(hk:k (iv (oe xs ys)) H):
  a_ lv ij 162 H [.bI ia oa xs.length xs.length,.bI ib ob ys.length ys.length] k kp:=by
 refine bw (rs:=[.tmp 4]) (nt:=36) Tryz.f162 λhH hA=> ?_;simp only[bc,To];refine ai ?_;refine ai ?_;refine b_ ?_;refine t_ xs.length (λi:Nat=>[(11,iv i)]) (λ_=>H) (λi=>oe xs ys=oe (xs.drop i) (ys.drop i)) rfl (λbX cU i cK hI R hR=> ?_);refine ai ?_;refine aA ?_;refine⟨λh=> ?_,λh=> ?_⟩
 ·have bG:i<xs.length:=by omega
  obtain⟨x,hx⟩:=bU bG;obtain⟨y,hy⟩:=bU (xs:=ys) (i:=i) (by omega);have bH:=TL i (by omega)
  have ln:oe xs ys=if mJ x y≠0 then mJ x y else oe (xs.drop (i+1)) (ys.drop (i+1)):=by rw[hI,vU hx,vU hy,oe]
  refine aL ?_;refine ah ?_;simp only[seval,ha,iB bG,Fy hca LN hx];refine ai ?_;refine aA ?_;refine⟨λh2=>by exfalso;omega,λh2=> ?_⟩;refine aL ?_;refine ah ?_;simp only[seval,hb,iB (show i<ys.length by omega),Fy hcb hpb hy];refine ai ?_;refine aK (aiX ?_);(try simp only[seval]);refine ai ?_;refine aA ?_;refine⟨λh3=> ?_,λh3=> ?_⟩
  ·refine ai ?_;refine aP ?_;rw[ln,if_pos (by simpa using h3)]at hk;exact bZ hk
  ·refine aL ?_;refine ah ?_;simp only[seval,bH];refine hR _ ⟨bG,?_,dp⟩;rw[ln,if_neg (by simpa using h3)]
 ·have dx:i=xs.length:=by omega
  subst dx;refine bT ?_;refine ah ?_;simp only[seval,hl];refine aA ?_;refine⟨λh2=>by exfalso;omega,λh2=> ?_⟩;refine aL ?_;refine ai ?_;refine aP ?_;rw[hI,List.drop_length,UR (Yo hl),oe]at hk;exact bZ hk
def F.Em:ij.underlying 80=some (.array 4 3):=by kernel_rfl
def F.u3:ij.underlying 3=some (.int .i64):=by kernel_rfl
def afc{P:Tg}{t e:TypeId}{k0:UN}{n:Nat}{xs ys:SD}(ht:P.underlying t=some (.array n e))(he:P.underlying e=some (.int k0))(hs:(P.info? e).map (·.size)=some 1)(hg:P.eqGuardType P.depth t=false)(hx:xs.length=n)(hy:ys.length=n)(k:SQ):
  dh P .neq t (.agg (xs.map iv)) (.agg (ys.map iv)) k=k (bv (!(xs==ys))):=by
 obtain⟨i,hi,hs⟩:=Uq.1 hs;have tp:=adC ht he hi hs hx hy;have e:dh P .neq t (.agg (xs.map iv)) (.agg (ys.map iv)) k=((W8=.eql\/W8=.neq)/\ao (AV.raw (.agg (xs.map iv))) λX=>ao (AV.raw (.agg (ys.map iv))) λY=>xA X Y=true/\P.eqGuardType P.depth t=false/\∃e,bm P (XM t X Y) e/\k (.val (.bool (if W8== .neq then !e else e)))):=rfl;rw[e,va,va,wL,wL];apply propext;constructor
 ·rintro⟨_,_,_,b,h1,h2⟩
  rw[tp.uniq h1];exact h2
 ·intro h;exact⟨.inr rfl,rfl,hg,_,tp,h⟩
def F.i3s:(ij.info? 3).map (·.size)=some 1:=by kernel_rfl
def F.g83:ij.eqGuardType ij.depth 80=false:=by kernel_rfl
def aiV{a b:SD}(ha:a.length=11)(hb:b.length=11)(hk:k (bv (sD a b)) H):a_ lv ij 153 H [.agg (a.map iv),.agg (b.map iv)] k kp:=by
 refine bw (rs:=[.tmp 4]) (nt:=32) Tryz.f153 λhH hA=> ?_;simp only[bc,To];have ham:(a.map iv).length=11:=by rw[Un,ha]
 have wa:(b.map iv).length=11:=by rw[Un,hb]
 have ea:a.map iv=(a.take 4).map iv++(((a.drop 4).take 4).map iv++(a.drop 8).map iv):=by
  rw[<- UJ,<- UJ];congr 1;have:(a.drop 4).take 4++a.drop 8=a.drop 4:=by
   conv=>rhs;rw[<- WO 4 (a.drop 4)]
   rw[avT]
  rw[this,WO]
 have eb:b.map iv=(b.take 4).map iv++(((b.drop 4).take 4).map iv++(b.drop 8).map iv):=by
  rw[<- UJ,<- UJ];congr 1;have:(b.drop 4).take 4++b.drop 8=b.drop 4:=by
   conv=>rhs;rw[<- WO 4 (b.drop 4)]
   rw[avT]
  rw[this,WO]
 refine ai ?_;refine ah ?_;simp only[seval,ham,wa,ha,hb];have GI:(a.take 4).length=4:=by simp[ha]
 have Ma:(b.take 4).length=4:=by simp[hb]
 have L9:((a.drop 4).take 4).length=4:=by simp[ha]
 have aaK:((b.drop 4).take 4).length=4:=by simp[hb]
 have L_:(a.drop 8).length=3:=by simp[ha]
 have aaL:(b.drop 8).length=3:=by simp[hb]
 rw[<- W7,<- W7,afc F.Em F.u3 F.i3s F.g83 GI Ma];refine aA ?_;refine⟨λh=> ?_,λh=> ?_⟩
 ·refine eo 4 ?_;simp only[seval];have c1:=λk kp=>JV (lv:=lv) (k:=k) (kp:=kp) (H:=H++[.cells (a.map iv) 83,.cells (b.map iv) 83]) (xs:=a.take 4) (ys:=b.take 4) (ia:=H.length) (ib:=H.length+1) (oa:=0) (ob:=0) (pa:=[]) (pb:=[]) (aS H _ 0) (aS H _ 1) ea rfl eb rfl (by rw[GI,Ma]) (by rw[GI];exact Tm _);simp only[GI,Ma]at c1;refine aK (c1 _ _ ?_);(try simp only[seval]);refine aP ?_;rw[sD,if_neg (by simpa using h)]at hk;exact gQ hH hk
 ·have h:=(by simpa using h:a.take 4=b.take 4);rw[sD,if_pos h]at hk;refine aL ?_;refine eo 4 ?_;simp only[seval];have c2:=λk kp=>JV (lv:=lv) (k:=k) (kp:=kp) (H:=H++[.cells (a.map iv) 83,.cells (b.map iv) 83]) (xs:=(a.drop 4).take 4) (ys:=(b.drop 4).take 4) (ia:=H.length) (ib:=H.length+1) (oa:=4) (ob:=4) (pa:=(a.take 4).map iv) (pb:=(b.take 4).map iv) (aS H _ 0) (aS H _ 1) ea (by simp[ha]) eb (by simp[hb]) (by rw[L9,aaK]) (by rw[L9];exact Tm _);simp only[L9,aaK]at c2;refine aK (c2 _ _ ?_);(try simp only[seval]);refine ai ?_;refine aA ?_;refine⟨λh2=> ?_,λh2=> ?_⟩
  ·refine ai ?_;refine aP ?_;rw[if_pos (by simpa using h2)]at hk;exact gQ hH hk
  ·refine aL ?_;rw[if_neg (by simpa using h2)]at hk;refine eo 4 ?_;simp only[seval];have c3:=λk kp=>JV (lv:=lv) (k:=k) (kp:=kp) (H:=H++[.cells (a.map iv) 83,.cells (b.map iv) 83]) (xs:=a.drop 8) (ys:=b.drop 8) (ia:=H.length) (ib:=H.length+1) (oa:=8) (ob:=8) (pa:=(a.take 4).map iv++((a.drop 4).take 4).map iv) (pb:=(b.take 4).map iv++((b.drop 4).take 4).map iv) (ra:=[]) (rb:=[]) (aS H _ 0) (aS H _ 1) (by rw[ea];simp) (by simp[ha]) (by rw[eb];simp) (by simp[hb]) (by rw[L_,aaL]) (by rw[L_];omega);simp only[L_,aaL]at c3;refine aK (c3 _ _ ?_);(try simp only[seval]);refine aP ?_;exact gQ hH hk
end
open Go.Conc Go.Proofs Go.Gg.Tk
def Ho{α:Type}{g:α->AV}{ca pa ra:SC}{xs:List α}{o i:Nat}{x:α}(hc:ca=pa++(xs.map g++ra))(ho:pa.length=o)(h:xs[i]?=some x):ca.drop (o+i)=g x::((xs.drop (i+1)).map g++ra):=by
 subst hc ho;rw[WA,UR (by omega),Vo,show pa.length+i-pa.length=i by omega,WA,zx h,show i-(xs.map g).length=0 by have:=ep h;simp;omega,WY];rfl
def Hp{α:Type}{g:α->AV}{ca pa ra:SC}{xs:List α}{o i:Nat}{y:α}(hc:ca=pa++(xs.map g++ra))(ho:pa.length=o)(h:i<xs.length):ca.take (o+i)++[g y]++ca.drop (o+i+1)=pa++((xs.set i y).map g++ra):=by
 subst hc ho;have h1:(pa++(xs.map g++ra)).take (pa.length+i)=pa++(xs.map g).take i:=by
  rw[List.take_append,Tn (by omega),show pa.length+i-pa.length=i by omega,Uu (by simp;omega)]
 have h2:(pa++(xs.map g++ra)).drop (pa.length+i+1)=(xs.map g).drop (i+1)++ra:=by
  rw[WA,UR (by omega),Vo,show pa.length+i+1-pa.length=i+1 by omega,Xq (by simp;omega)]
 rw[h1,h2,<- NY h];simp[Ax]
namespace Tk
def Kn.l (F:Kn)(mp:Nat):SC:=bv F.has:: .mp mp::(F.aB.map (λn=>wv n)++(F.hours.map (λn=>wv n)++(F.less.map (λn=>wv n)++(F.aY.map (λn=>wv n)++F.first.map iv))))
structure bM (F:Kn):Prop where
 aB:F.aB.length=4
 hours:F.hours.length=4
 less:F.less.length=4
 aY:F.aY.length=3
 first:F.first.length=11
 mv:∀n∈F.aB,n<65536
 mL:∀n∈F.hours,n<65536
 lT:∀n∈F.less,n<65536
 lW:∀n∈F.aY,n<65536
 h4:∀h∈F.aM,h.length=4
def Kn.len{F:Kn}(h:bM F)(mp:Nat):(F.l mp).length=28:=by simp[Kn.l,h.aB,h.hours,h.less,h.aY,h.first]
def Kn.Hw{F:Kn}{mp p n:Nat}(h:F.aB[p]?=some n):(F.l mp).drop (2+p)=wv n::((F.aB.drop (p+1)).map (λn=>wv n)++(F.hours.map (λn=>wv n)++(F.less.map (λn=>wv n)++(F.aY.map (λn=>wv n)++F.first.map iv)))):=Ho (pa:=[bv F.has,.mp mp]) rfl rfl h
def Kn.ab3{F:Kn}{mp p v:Nat}(h:p<F.aB.length):(F.l mp).take (2+p)++[wv v]++(F.l mp).drop (2+p+1)=({F with aB:=F.aB.set p v}:Kn).l mp:=Hp (g:=λn=>wv n) (pa:=[bv F.has,.mp mp]) rfl rfl h
def Kn.LK{F:Kn}(k:bM F){mp p n:Nat}(h:F.hours[p]?=some n):(F.l mp).drop (6+p)=wv n::((F.hours.drop (p+1)).map (λn=>wv n)++(F.less.map (λn=>wv n)++(F.aY.map (λn=>wv n)++F.first.map iv))):=Ho (pa:=bv F.has:: .mp mp::F.aB.map (λn=>wv n)) rfl (by simp[k.aB]) h
def Kn.aav{F:Kn}(k:bM F){mp p v:Nat}(h:p<F.hours.length):(F.l mp).take (6+p)++[wv v]++(F.l mp).drop (6+p+1)=({F with hours:=F.hours.set p v}:Kn).l mp:=Hp (g:=λn=>wv n) (pa:=bv F.has:: .mp mp::F.aB.map (λn=>wv n)) rfl (by simp[k.aB]) h
def Kn.DI{F:Kn}(k:bM F){mp p n:Nat}(h:F.less[p]?=some n):(F.l mp).drop (10+p)=wv n::((F.less.drop (p+1)).map (λn=>wv n)++(F.aY.map (λn=>wv n)++F.first.map iv)):=Ho (pa:=bv F.has:: .mp mp::(F.aB.map (λn=>wv n)++F.hours.map (λn=>wv n))) (by simp[Kn.l]) (by simp[k.aB,k.hours]) h
def Kn.abl{F:Kn}(k:bM F){mp p v:Nat}(h:p<F.less.length):(F.l mp).take (10+p)++[wv v]++(F.l mp).drop (10+p+1)=({F with less:=F.less.set p v}:Kn).l mp:=by
 have:=Hp (g:=λn=>wv n) (ca:=F.l mp) (y:=v) (pa:=bv F.has:: .mp mp::(F.aB.map (λn=>wv n)++F.hours.map (λn=>wv n))) (ra:=F.aY.map (λn=>wv n)++F.first.map iv) (by simp[Kn.l]) (show _=10 by simp[k.aB,k.hours]) h;rw[this];simp[Kn.l]
def Kn.D4{F:Kn}(k:bM F){mp p n:Nat}(h:F.aY[p]?=some n):(F.l mp).drop (14+p)=wv n::((F.aY.drop (p+1)).map (λn=>wv n)++F.first.map iv):=Ho (pa:=bv F.has:: .mp mp::(F.aB.map (λn=>wv n)++(F.hours.map (λn=>wv n)++F.less.map (λn=>wv n)))) (by simp[Kn.l]) (by simp[k.aB,k.hours,k.less]) h
def Kn.acm{F:Kn}(k:bM F){mp p v:Nat}(h:p<F.aY.length):(F.l mp).take (14+p)++[wv v]++(F.l mp).drop (14+p+1)=({F with aY:=F.aY.set p v}:Kn).l mp:=by
 have:=Hp (g:=λn=>wv n) (ca:=F.l mp) (y:=v) (pa:=bv F.has:: .mp mp::(F.aB.map (λn=>wv n)++(F.hours.map (λn=>wv n)++F.less.map (λn=>wv n)))) (ra:=F.first.map iv) (by simp[Kn.l]) (show _=14 by simp[k.aB,k.hours,k.less]) h;rw[this];simp[Kn.l]
def Kn.Cl{F:Kn}{mp:Nat}:(F.l mp)[0]?=some (bv F.has):=rfl
def Kn.ahK{F:Kn}{mp:Nat}:(F.l mp).drop 1=.mp mp::(F.aB.map (λn=>wv n)++(F.hours.map (λn=>wv n)++(F.less.map (λn=>wv n)++(F.aY.map (λn=>wv n)++F.first.map iv)))):=rfl
def Kn.arA{F:Kn}{mp:Nat}:(F.l mp).take 0++[bv true]++(F.l mp).drop (0+1)=({F with has:=true}:Kn).l mp:=rfl
def Kn.ac1{F:Kn}(k:bM F){mp:Nat}{t:SD}(ht:t.length=11):(F.l mp).take 17++t.map iv++(F.l mp).drop (17+11)=({F with first:=t}:Kn).l mp:=by
 have e:F.l mp=(bv F.has:: .mp mp::(F.aB.map (λn=>wv n)++(F.hours.map (λn=>wv n)++(F.less.map (λn=>wv n)++F.aY.map (λn=>wv n)))))++F.first.map iv:=by simp[Kn.l]
 have hl:(bv F.has::AV.mp mp::(F.aB.map (λn=>wv n)++(F.hours.map (λn=>wv n)++(F.less.map (λn=>wv n)++F.aY.map (λn=>wv n))))).length=17:=by simp[k.aB,k.hours,k.less,k.aY]
 rw[UR (by rw[Kn.len k];omega),e,Uu (by omega),Tn (by omega),Tu];simp[Kn.l]
structure ju (x:aj)(t:SD):Prop where
 len:t.length=11
 bE:mD (t.take 4)
 num:∀p,p<x.pieces.length->∃n:Nat,t[4+p]?=some (n:Int)/\n<9/\0<=jp (t.take 4) (n+t.getD 0 0)
 own:∀s,s<x.aC.length->∃o:Nat,t[8+s]?=some (o:Int)/\o<4
end Tk
def setH (hs:SS):aa:=.obj (.map (hs.zipIdx.map eA).toArray hs.length)
def qE{H:SA}{i:Nat}{x:aa}(h:H[i]?=some x):H.set i x=H:=by
 apply X2;intro j;rw[VP];split
 ·rename_i e;subst e;rw[if_pos (ep h)];exact h.symm
 ·rfl
def vn{H L:SA}{i:Nat}{x:aa}(h:i<H.length):(H++L).set i x=H.set i x++L:=VW _ _ h
section
variable {lv:Bool}{H:SA}{k kp:SF}
def PA{F:Kn}{t:SD}(h:bM F)(ht:t.length=11):bM (jJ F t):=by
 unfold jJ;split
 ·exact h
 ·exact⟨h.aB,h.hours,h.less,h.aY,ht,h.mv,h.mL,h.lT,h.lW,h.h4⟩
def DN{l:SE}{i v:Nat}(h:∀n∈l,n<65536)(hv:v<65536):∀n∈l.set i v,n<65536:=λn hn=>by
 rcases VB hn with h'|rfl
 ·exact h n h'
 ·exact hv
def Tk.bM.Ea{G:Kn}(h:bM G){i v:Nat}(hv:v<65536):bM {G with aY:=G.aY.set i v}:=⟨h.aB,h.hours,h.less,by simp[h.aY],h.first,h.mv,h.mL,h.lT,DN h.lW hv,h.h4⟩
def Tk.bM.ac6{G:Kn}(h:bM G){i v:Nat}(hv:v<65536):bM {G with aB:=G.aB.set i v}:=⟨by simp[h.aB],h.hours,h.less,h.aY,h.first,DN h.mv hv,h.mL,h.lT,h.lW,h.h4⟩
def Tk.bM.ac4{G:Kn}(h:bM G){i v:Nat}(hv:v<65536):bM {G with hours:=G.hours.set i v}:=⟨h.aB,by simp[h.hours],h.less,h.aY,h.first,h.mv,DN h.mL hv,h.lT,h.lW,h.h4⟩
def Tk.bM.ac5{G:Kn}(h:bM G){i v:Nat}(hv:v<65536):bM {G with less:=G.less.set i v}:=⟨h.aB,h.hours,by simp[h.less],h.aY,h.first,h.mv,h.mL,DN h.lT hv,h.lW,h.h4⟩
def EV{l:SE}{i n v:Nat}(h:l[i]?=some n):oW l i v=l.set i (n|||2^v):=by
 unfold oW;rw[Se,h];rfl
def ac3(hs:SS):setH hs=.obj (.map (hs.zipIdx.map eA).toArray hs.length):=rfl
def ac2(hs:SS)(h:SD):setH (hs++[h])=.obj (.map ((hs.zipIdx++[(h,hs.length)]).map eA).toArray (hs.length+1)):=by
 rw[ac3,List.zipIdx_append,Tx];simp
def Ey{α:Type}{l:List α}{y:α×Nat}(h:y∈l.zipIdx):y.1∈l:=by
 obtain⟨a,b⟩:=y;have:=List.mem_zipIdx h;simp at this;rw[this.2];exact WX _
def J9{x:SD}{hs:SS}:(p7 x hs.zipIdx 0=none/\x∉hs)\/(∃i b,p7 x hs.zipIdx 0=some (i,.bool true)/\hs.zipIdx[i]?=some (x,b)/\x∈hs):=by
 cases h:p7 x hs.zipIdx 0 with
 |none=>
  refine .inl ⟨rfl,λhm=> ?_⟩;obtain⟨i,hi⟩:=VF.1 hm;have:(x,i)∈hs.zipIdx:=VF.2 ⟨i,by rw[List.getElem?_zipIdx,hi];simp⟩;exact QQ h _ this rfl
 |some p=>
  obtain⟨i,v⟩:=p;obtain⟨b,_,h2,rfl⟩:=QR h;rw[avz]at h2;exact .inr ⟨i,b,rfl,h2,Ey (y:=(x,b)) (Uf h2)⟩
def F.i3:∃i,ij.info? 3=some i/\i.size=1:=by
 obtain⟨i,h1,h2⟩:=Uq.1 F.i3s;exact⟨i,h1,h2⟩
def vg{H L:SA}{i:Nat}{z:aa}(h:i<H.length):(H.set i z++L)[i]?=some z:=by
 rw[Tw (by simpa using h),VP,if_pos rfl,if_pos h]
def vk{H L:SA}{i:Nat}{z y:aa}(h:i<H.length):(H.set i z++L).set i y=H.set i y++L:=by
 rw[vn (by simpa using h),Yb]
def aiM{x:aj}{t:SD}{deep:Int}{fp mp:Nat}{Q:Kn}(hx:x.Ok)(ht:ju x t)(hQ:bM Q)(mh:fp≠mp)(hf:H[fp]?=some (.cells (Q.l mp) 85))(hm:H[mp]?=some (setH Q.aM))(hk:k (.aF []) ((H.set fp (.cells ((ew x deep Q t).l mp) 85)).set mp (setH (ew x deep Q t).aM))):a_ lv ij 122 H [.op fp 0,x.av,.agg (t.map iv),iv deep] k kp:=by
 refine bw (rs:=[]) (nt:=135) Tryz.f122 λhH hA=> ?_;simp only[bc,To,aj.av];have jY:=ht.len;have Kr:(t.map iv).length=11:=by rw[Un,jY]
 have ie:=ep hf;have C4:=ep hm;have aae:=Kn.len hQ mp;have dw:∀(L:SA) i,(H++L)[H.length+i]?=L[i]?:=λL i=>aS H L i;obtain⟨R1,p_⟩:∃R1,R1=jJ Q t:=⟨_,rfl⟩;have nB:bM R1:=by rw[p_];exact PA hQ jY
 have Cy:R1.aM=Q.aM:=by rw[p_];unfold jJ;split<;>rfl
 obtain⟨H1,lG⟩:∃H1,H1=H.set fp (.cells (R1.l mp) 85):=⟨_,rfl⟩;have cP:H1.length=H.length:=by rw[lG,UF]
 have xI:H1[fp]?=some (.cells (R1.l mp) 85):=by rw[lG,VP,if_pos rfl,if_pos ie]
 have FR:H1[mp]?=some (setH R1.aM):=by rw[lG,U3 mh,Cy];exact hm
 have alS:∀G:Kn,∀hs:SS,bO ((H1.set fp (.cells (G.l mp) 85)).set mp (setH hs)):=λG hs=>by
  have hl:((H1.set fp (.cells (G.l mp) 85)).set mp (setH hs)).length=H.length:=by rw[UF,UF,cP]
  intro z hz;rw[hl];rcases VB hz with hz|rfl
  ·rcases VB hz with hz|rfl
   ·rw[lG]at hz;rcases VB hz with hz|rfl
    ·exact hH z hz
    ·intro a ha;simp only[Kn.l,Th,Tp,Um]at ha;rcases ha with rfl|rfl|⟨_,_,rfl⟩|⟨_,_,rfl⟩|⟨_,_,rfl⟩|⟨_,_,rfl⟩|⟨_,_,rfl⟩
     ·exact .val _
     ·exact .mp (by omega)
     all_goals exact .val _
   ·intro a ha;simp only[Kn.l,Th,Tp,Um]at ha;rcases ha with rfl|rfl|⟨_,_,rfl⟩|⟨_,_,rfl⟩|⟨_,_,rfl⟩|⟨_,_,rfl⟩|⟨_,_,rfl⟩
    ·exact .val _
    ·exact .mp (by omega)
    all_goals exact .val _
  ·trivial
 have iD:k (.aF []) ((H1.set fp (.cells ((ew x deep Q t).l mp) 85)).set mp (setH (ew x deep Q t).aM)):=by rw[lG,Yb];exact hk
 have ee:∀(G:Kn)(hs:SS)(L:SA),ew x deep Q t=G->G.aM=hs->bY H1.length ((H1.set fp (.cells (G.l mp) 85)).set mp (setH hs)++L) (.aF []) k:=λG hs L hG iQ=>by
  subst hG iQ;exact iK (Wk.refl _) rfl (by rw[UF,UF,cP];exact Tm _) (alS _ _) (by simp[im]) iD
 have aE:ew x deep Q t=(if deep=2 then{R1 with aY:=mZ t x.aC.length R1.aY}else if deep=0 then{R1 with aM:=jD R1.aM (t.take 4)}else{R1 with aB:=rQ t x.pieces.length R1.aB,hours:=wy t x.pieces.length R1.hours,less:=pA t x.pieces.length x.pieces.length R1.less}):=by rw[p_];rfl
 rw[aE]at ee;clear hk iD aE;refine ai ?_;refine ah ?_;simp only[seval,dF hf,Kn.Cl];refine aA ?_;refine⟨λhc=> ?ga,λhc=> ?gb⟩
 case' ga=>
  have e1:R1={Q with has:=true,first:=t}:=by rw[p_];unfold jJ;rw[hc];rfl
  have eH:∀L:SA,(H++L).set fp (.cells (({Q with has:=true}:Kn).l mp) 85)=H.set fp (.cells (({Q with has:=true}:Kn).l mp) 85)++L:=λL=>vn ie;have FY:bM {Q with has:=true}:=⟨hQ.aB,hQ.hours,hQ.less,hQ.aY,hQ.first,hQ.mv,hQ.mL,hQ.lT,hQ.lW,hQ.h4⟩;have alx:=Kn.len FY mp;have HW:=Kn.ac1 FY (mp:=mp) (t:=t) jY;have Az:VC 11 (t.map iv)=t.map iv:=Tn (by omega);have ali:∀(z:aa)(L:SA),(H.set fp z++L)[H.length+1]?=L[1]?:=λz L=>by have:=aS (H.set fp z) L 1;rwa[UF]at this
  refine oY [5,8] (Tt 9) (λD=>bif isDone 8 D then H1++[.cells x.l 73,.cells (t.map iv) 83]else bif isDone 5 D then H.set fp (.cells (({Q with has:=true}:Kn).l mp) 85)++[.cells x.l 73,.cells (t.map iv) 83]else H++[.cells x.l 73,.cells (t.map iv) 83]) ?_;simp only[seval,dF hf,vg ie,vk ie,vn ie,aae,alx,jY,Kr,Az,ali];have eL:(AV.val (.bool true)::(VC 16 (Vv 1 (Q.l mp))++t.map iv++Vv 27 (Vv 1 (Q.l mp))))=R1.l mp:=by rw[e1];exact HW
  refine⟨by rfl,by rw[Va,aae];omega,by rw[eL,lG],?_⟩;rw[eL,<- lG,<- cP]
 case' gb=>
  have e1:R1=Q:=by rw[p_];unfold jJ;rw[hc];rfl
  have JH:H1=H:=by rw[lG,e1];exact qE hf
  refine aL ?_;rw[<- JH]
 all_goals
  clear hc e1;have lK:fp<H1.length:=by omega
  have aO:∀(L:SA),(H1++L)[H1.length]?=L[0]?:=λL=>aS H1 L 0;have bA:∀(L:SA),(H1++L)[H1.length+1]?=L[1]?:=λL=>aS H1 L 1;have dz:∀(z:aa)(L:SA),(H1.set fp z++L)[H1.length]?=L[0]?:=λz L=>by have:=aS (H1.set fp z) L 0;rwa[UF]at this
  have dA:∀(z:aa)(L:SA),(H1.set fp z++L)[H1.length+1]?=L[1]?:=λz L=>by have:=aS (H1.set fp z) L 1;rwa[UF]at this
  have GB:∀G:Kn,G.aM=R1.aM->(H1.set fp (.cells (G.l mp) 85)).set mp (setH R1.aM)=H1.set fp (.cells (G.l mp) 85):=λG _=>qE (by rw[U3 mh];exact FR);refine ai ?_;refine ai ?_;refine aA ?_;refine⟨λh2=> ?_,λh2=> ?_⟩
  ·
   replace h2:deep=2:=(by simpa using h2);have yg:=hx.eG;rw[if_pos h2]at ee;refine ah ?_;simp only[seval,aO,TM,aQ];refine b_ ?_;refine fS x.aC.length (λi:Nat=>[(30,iv i)]) (λi=>H1.set fp (.cells (({R1 with aY:=mZ t i R1.aY}:Kn).l mp) 85)++[.cells x.l 73,.cells (t.map iv) 83]) (λi=>bM {R1 with aY:=mZ t i R1.aY}) (λ_ _=>rfl) (by simp only[seval];simp[bP,Wk.refl]) (by rw[show ({R1 with aY:=mZ t 0 R1.aY}:Kn)=R1 from rfl,qE xI];rfl) (λ_ _ _=>by simp) nB (λbX cU i cK au R hR=> ?_);refine ai ?_;refine aA ?_;refine⟨λh3=> ?_,λh3=> ?_⟩
   ·have bG:i<x.aC.length:=(by omega);obtain⟨o,ho,ho4⟩:=ht.own i bG;have qw:rX t i=o:=(by unfold rX;rw[Se,ho];rfl);obtain⟨n,hn⟩:=bU (xs:=mZ t i R1.aY) (i:=i) (by have:=au.aY;simp only at this;omega);have C6:n<65536:=au.lW n (Uf hn);have b3:(0<=(i:Int)/\(i:Int)<3)=True:=(by simp;omega);have bH:=TL i (by omega);have An:=Kn.D4 au (mp:=mp) (p:=i) (n:=n) hn;have qp:=Kn.acm au (mp:=mp) (p:=i) (v:=n|||2^o) (ep hn);have dM:=Kn.len au mp;refine aL ?_;refine ai ?_;refine eo 15 ?_;simp only[seval,dA,vg lK,vk lK,b3,An,kS ho];refine gE (wv (n|||2^o)) (cO (um C6 (show o<16 by omega) ⟨rfl,rfl⟩)) ?_;(try simp only[seval,vg lK,vk lK,b3,dM]);refine⟨by omega,?_⟩;rw[qp];refine ah ?_;simp only[seval,bH];have c_:mZ t (i+1) R1.aY=(mZ t i R1.aY).set i (n|||2^o):=(by rw[mZ,qw,EV hn]);refine hR _ ⟨bG,?_,?_⟩
    ·rw[c_];exact au.Ea (pF C6 (wW (by omega)))
    ·rw[c_];exact dp
   ·have dx:i=x.aC.length:=(by omega);subst dx;have:=ee _ R1.aM [.cells x.l 73,.cells (t.map iv) 83] rfl rfl;rw[GB {R1 with aY:=mZ t x.aC.length R1.aY} rfl]at this;refine bT ?_;refine aP ?_;exact this
  ·replace h2:¬deep=2:=(by simpa using h2);rw[if_neg h2]at ee;refine ai ?_;refine aA ?_;refine⟨λh3=> ?_,λh3=> ?_⟩
   ·
    replace h3:deep=0:=(by simpa using h3);rw[if_pos h3]at ee;have Dj:(t.take 4).length=4:=(by simp[jY]);have ry:∀L:SA,(H1++L)[mp]?=some (.obj (.map (R1.aM.zipIdx.map eA).toArray R1.aM.length)):=λL=>dF FR;have hfp:∀L:SA,(H1++L)[fp]?=some (.cells (R1.l mp) 85):=λL=>dF xI;have aak:mp<H1.length:=(by omega);obtain⟨i3,qf,jj⟩:=F.i3;have Ks:∀y∈R1.aM.zipIdx,y.1.length=4:=λy hy=>nB.h4 _ (Ey hy);have F':=adF (ts:=R1.aM.zipIdx) F.Em F.u3 qf jj Dj Ks;have F9:=λb=>adz (b:=b) (k:=.i64) (d:=9998) F.Em F.u3 qf jj Dj;refine eo 6 ?_;simp only[seval,hfp,bA,ry,Kn.ahK,jY,Kr];rw[<- W7];refine eg (va _) (eg rfl ⟨F9 _,_,F',?_,?_⟩)
    ·intro i v x7;rcases J9 (x:=t.take 4) (hs:=R1.aM)with⟨h,_⟩|⟨i',b,h,h2,_⟩
     ·rw[h]at x7;cases x7
     ·rw[h]at x7;cases x7;rw[Uo,h2];exact arc _
    ·rcases J9 (x:=t.take 4) (hs:=R1.aM)with⟨h,hn⟩|⟨i',b,h,h2,hn⟩
     ·rw[h,acv,vn aak];have:=ee _ _ [.cells x.l 73,.cells (t.map iv) 83] rfl rfl;rw[show jD R1.aM (t.take 4)=R1.aM++[t.take 4] by rw[jD,if_neg hn],ac2]at this;rw[show H1.set fp (.cells (({R1 with aM:=R1.aM++[t.take 4]}:Kn).l mp) 85)=H1 from qE xI]at this;refine aP ?_;exact this
     ·rw[h,apO h2,vn aak];have:=ee _ _ [.cells x.l 73,.cells (t.map iv) 83] rfl rfl;rw[show jD R1.aM (t.take 4)=R1.aM by rw[jD,if_pos hn],ac3]at this;rw[show H1.set fp (.cells (({R1 with aM:=R1.aM}:Kn).l mp) 85)=H1 from qE xI]at this;refine aP ?_;exact this
   ·
    replace h3:¬deep=0:=(by simpa using h3);rw[if_neg h3]at ee;refine aL ?_;have mT:=hx.cW;obtain⟨P,hP⟩:∃P:Nat->Kn,∀p,P p={R1 with aB:=rQ t p R1.aB,hours:=wy t p R1.hours,less:=pA t x.pieces.length p R1.less}:=⟨_,λ_=>rfl⟩;obtain⟨P',FX⟩:∃P':Nat->Nat->Kn,∀p q,P' p q={R1 with aB:=rQ t (p+1) R1.aB,hours:=wy t (p+1) R1.hours,less:=pB t p q (pA t x.pieces.length p R1.less)}:=⟨_,λ_ _=>rfl⟩;have RD:P 0=R1:=(by rw[hP];rfl);have hPs:∀p,P' p x.pieces.length=P (p+1):=λp=>(by rw[hP,FX];rfl);refine ah ?_;simp only[seval,aO,TM,aQ];refine b_ ?_;refine fS x.pieces.length (λi:Nat=>[(62,iv i)]) (λi=>H1.set fp (.cells ((P i).l mp) 85)++[.cells x.l 73,.cells (t.map iv) 83]) (λi=>bM (P i)) (λ_ _=>rfl) (by simp only[seval];simp[bP,Wk.refl]) (by rw[RD,qE xI];rfl) (λ_ _ _=>by simp) (by rw[RD];exact nB) (λbX cU p cK au R hR=> ?_);refine ai ?_;refine aA ?_;refine⟨λh=> ?_,λh=> ?_⟩
    ·have dM:p<x.pieces.length:=(by omega);obtain⟨o,ho,ho9,qw⟩:=ht.num p dM;obtain⟨n,hn⟩:=bU (xs:=(P p).aB) (i:=p) (by have:=au.aB;omega);obtain⟨m,fZ⟩:=bU (xs:=(P p).hours) (i:=p) (by have:=au.hours;omega);have C6:n<65536:=au.mv n (Uf hn);have aaf:m<65536:=au.mL m (Uf fZ);have b4:(0<=(p:Int)/\(p:Int)<4)=True:=(by simp;omega);have bH:=TL p (by omega);have An:=Kn.Hw (mp:=mp) hn;have qp:=Kn.ab3 (mp:=mp) (p:=p) (v:=n|||2^o) (ep hn);have hpn:=Kn.len au mp;have lQ:mz t p=o:=(by unfold mz;rw[Se,ho];rfl);refine aL ?_;refine ai ?_;refine eo 15 ?_;simp only[seval,dA,vg lK,vk lK,b4,An,kS ho];refine gE (wv (n|||2^o)) (cO (um C6 (show o<16 by omega) ⟨rfl,rfl⟩)) ?_;(try simp only[seval,vg lK,vk lK,b4,hpn]);refine⟨by omega,?_⟩;rw[qp];obtain⟨c0,xR⟩:=bU (xs:=t) (i:=0) (by omega);have F7:t.getD 0 0=c0:=(by rw[Se,xR];rfl);rw[F7]at qw;have R4:c0∈t.take 4:=by
      match t,jY,xR with
      |a::t',_,xR=>cases xR;simp
     have oF:=ht.bE.lo c0 R4;have Gd:=ht.bE.hi c0 R4;have fj:Tc.wrap ((o:Int)+c0)=(o:Int)+c0:=bF _ (by omega);have akQ:(t.map iv)[0]?=some (iv c0):=(by rw[Uo,xR];rfl);obtain⟨u,hu⟩:=Z5 qw;have hu4:u<4:=by
      have h5:jp (t.take 4) ((o:Int)+c0)<0+(t.take 4).length:=adW;rw[ht.bE.len,hu]at h5;omega
     have hth:Eg t p=u:=by
      unfold Eg;rw[Se,ho,F7];simp only[T9];rw[hu];rfl
     obtain⟨G1,Ct⟩:∃G1,G1=({P p with aB:=(P p).aB.set p (n|||2^o)}:Kn):=⟨_,rfl⟩;have Cu:bM G1:=(by rw[Ct];exact au.ac6 (pF C6 (wW (by omega))));have Lx:G1.hours[p]?=some m:=(by rw[Ct];exact fZ);rw[<- Ct];have aaA:=Kn.LK Cu (mp:=mp) Lx;have aaC:=Kn.aav Cu (mp:=mp) (p:=p) (v:=m|||2^u) (ep Lx);have aaB:=Kn.len Cu mp;refine eo 22 ?_;simp only[seval,dA,vg lK,vk lK,b4,aaA,kS ho,Kr,jY,fj];rw[<- W7];refine eg akQ ?_;(try simp only[seval,fj]);refine gE (iv u) (cO (QB (h:=t.take 4) (n:=(o:Int)+c0) ht.bE.len ⟨by rw[hu],rfl⟩)) ?_;refine gE (wv (m|||2^u)) (cO (um aaf (show u<16 by omega) ⟨rfl,rfl⟩)) ?_;(try simp only[seval,vg lK,vk lK,b4,aaB]);refine⟨by omega,?_⟩;rw[aaC];have KG:({G1 with hours:=G1.hours.set p (m|||2^u)}:Kn)=P' p 0:=by
      rw[Ct,FX];simp only[hP]at hn fZ⊢;rw[rQ,lQ,EV hn,wy,hth,EV fZ];rfl
     have akA:bM (P' p 0):=(by rw[<- KG];exact Cu.ac4 (pF aaf (wW (by omega))));rw[KG];clear qp An hpn Cu Lx aaA aaC aaB KG Ct hn fZ au;refine ah ?_;simp only[seval,dz,TM,aQ];refine b_ ?_;refine fS x.pieces.length (λi:Nat=>[(108,iv i)]) (λi=>H1.set fp (.cells ((P' p i).l mp) 85)++[.cells x.l 73,.cells (t.map iv) 83]) (λi=>bM (P' p i)) (λ_ _=>rfl) (by simp only[seval];simp[bP,Wk.refl]) rfl (λ_ _ _=>by simp) akA (λRy auS q Gz po R' RF=> ?_);refine ai ?_;refine aA ?_;refine⟨λh=> ?_,λh=> ?_⟩
     ·have ml:q<x.pieces.length:=(by omega);obtain⟨o2,rB,au3,_⟩:=ht.num q ml;have b4q:(0<=(q:Int)/\(q:Int)<4)=True:=(by simp;omega);have wB:=TL q (by omega);have c_:P' p (q+1)={P' p q with less:=if o<o2 then oW (P' p q).less p q else(P' p q).less}:=by
       rw[FX,FX,pB];simp only[Se,ho,rB,T9];by_cases hlt:o<o2
       ·rw[if_pos (by omega),if_pos hlt]
       ·rw[if_neg (by omega),if_neg hlt]
      refine aL ?_;refine ai ?_;refine eo 8 ?_;simp only[seval,dA,b4,b4q,kS ho,kS rB];refine aA ?_;refine⟨λh=> ?_,λh=> ?_⟩
      ·have hlt:o<o2:=(by simpa using h);rw[if_pos hlt]at c_;obtain⟨v,hv⟩:=bU (xs:=(P' p q).less) (i:=p) (by have:=po.less;omega);have GN:v<65536:=po.lT v (Uf hv);have alX:=Kn.DI po (mp:=mp) hv;have alZ:=Kn.abl po (mp:=mp) (p:=p) (v:=v|||2^q) (ep hv);have alY:=Kn.len po mp;rw[EV hv]at c_;refine eo 12 ?_;simp only[seval,vg lK,vk lK,b4,alX];refine gE (wv (v|||2^q)) (cO (um GN (show q<16 by omega) ⟨rfl,rfl⟩)) ?_;(try simp only[seval,vg lK,vk lK,b4,alY]);refine⟨by omega,?_⟩;rw[alZ,<- c_];refine ah ?_;simp only[seval,wB];refine RF _ ⟨ml,?_,?_⟩
       ·rw[c_];exact po.ac5 (pF GN (wW (by omega)))
       ·exact dp
      ·have hlt:¬o<o2:=(by simpa using h);rw[if_neg hlt]at c_;refine aL ?_;refine ah ?_;simp only[seval,wB];rw[show ({P' p q with less:=(P' p q).less}:Kn)=P' p q from rfl]at c_;refine RF _ ⟨ml,?_,?_⟩
       ·rw[c_];exact po
       ·rw[c_];exact dp
     ·have hqe:q=x.pieces.length:=(by omega);subst hqe;rw[hPs]at po⊢;refine bT ?_;refine ah ?_;simp only[seval,bH];exact hR _ ⟨dM,po,dp⟩
    ·have gU:p=x.pieces.length:=(by omega);subst gU;have:=ee _ R1.aM [.cells x.l 73,.cells (t.map iv) 83] rfl rfl;rw[<- hP,GB (P _) (by rw[hP])]at this;refine bT ?_;exact this
end
open Go.Conc Go.Proofs Go.Gg.Tk
namespace Tk
def gB (F:Kn)(hs:SS)(G:Kn):Kn:=if G.has then⟨true,hs.foldl jD F.aM,ly F.aB G.aB,ly F.hours G.hours,ly F.less G.less,ly F.aY G.aY,if F.has=false\/sD G.first F.first then G.first else F.first⟩else F
def nU (l m:SE):Nat->SE
 |0=>l
 |i+1=>(nU l m i).set i ((nU l m i).getD i 0|||m.getD i 0)
end Tk
def HF{l m:SE}{i a b:Nat}(ha:(nU l m i)[i]?=some a)(hb:m[i]?=some b):nU l m (i+1)=(nU l m i).set i (a|||b):=by
 rw[nU,Se,Se,ha,hb];rfl
def ao5{l m:SE}(h:l.length=m.length){i:Nat}(hi:i<=l.length):nU l m i=ly (l.take i) (m.take i)++l.drop i:=by
 induction i with
 |zero=>simp[nU,ly]
 |succ i ih=>
  have hl:i<l.length:=by omega
  have hm:i<m.length:=by omega
  have e1:(ly (l.take i) (m.take i)).length=i:=by simp[ly];omega
  have e2:(nU l m i).getD i 0=l[i]:=by
   rw[ih (by omega),Se,Ud (by omega),e1];simp[hl]
  rw[nU,e2,ih (by omega),VE _ _ (by omega),e1,WL,Se,Ts hm,T9,UW hl,UP,Wm,Wm,Ts hl,Ts hm,ZP,ZP];unfold ly;rw[List.zipWith_append (by simp;omega)];simp
def HE{l m:SE}(h:l.length=m.length){n:Nat}(hn:l.length=n):nU l m n=ly l m:=by
 subst hn;rw[ao5 h (Tm _),h,Uy,UR (by omega),Tu,<- h,Uy]
def TN{H:List aa}:∀(L:SA),(H++L)[H.length]?=L[0]?:=λL=>aS H L 0
def aiN{lv:Bool}{H:SA}{k kp:SF}{fp mp mg:Nat}{Q G:Kn}(hQ:bM Q)(hG:bM G)(mh:fp≠mp)(wl:mg≠mp)(hf:H[fp]?=some (.cells (Q.l mp) 85))(hm:H[mp]?=some (setH Q.aM))(hg:H[mg]?=some (setH G.aM))(fK:G.aM.Nodup)(hk:∀hs:SS,hs.Perm G.aM->k (.aF []) ((H.set fp (.cells ((gB Q hs G).l mp) 85)).set mp (setH (gB Q hs G).aM))):a_ lv ij 125 H [.op fp 0,.agg (G.l mg)] k kp:=by
 refine bw (rs:=[]) (nt:=121) Tryz.f125 λhH hA=> ?_;simp only[bc,To];have ie:=ep hf;have C4:=ep hm;have mR:=ep hg;have Ga:=Kn.len hG mg;have Gy:=Kn.len hQ mp;have sV:(G.l mg).drop 17=G.first.map iv:=by
  have e:G.l mg=(bv G.has:: .mp mg::(G.aB.map (λn=>wv n)++(G.hours.map (λn=>wv n)++(G.less.map (λn=>wv n)++G.aY.map (λn=>wv n)))))++G.first.map iv:=by simp[Kn.l]
  rw[e,Xq (by simp[hG.aB,hG.hours,hG.less,hG.aY]),UR (by simp[hG.aB,hG.hours,hG.less,hG.aY])];rfl
 refine ai ?_;refine ah ?_;simp only[seval,Kn.Cl];refine aA ?_;refine⟨λh=> ?_,λh=> ?_⟩
 ·
  have Lb:G.has=false:=by simpa using h
  have:=hk G.aM (avU _);rw[gB,Lb]at this;simp only[UB,if_false]at this;rw[qE hf,qE hm]at this;refine aP ?_;exact eV hH (Wk.refl _) (by simp[im]) this
 ·have Lb:G.has=true:=by simpa using h
  refine aL ?_;obtain⟨R1,p_⟩:∃R1,R1=(if Q.has=false\/sD G.first Q.first=true then{Q with first:=G.first}else Q):=⟨_,rfl⟩;have nB:bM R1:=by
   rw[p_];split
   ·exact⟨hQ.aB,hQ.hours,hQ.less,hQ.aY,hG.first,hQ.mv,hQ.mL,hQ.lT,hQ.lW,hQ.h4⟩
   ·exact hQ
  have Cy:R1.aM=Q.aM:=by rw[p_];split<;>rfl
  obtain⟨H1,lG⟩:∃H1,H1=H.set fp (.cells (R1.l mp) 85):=⟨_,rfl⟩;have dz:∀(z:aa)(L:SA),(H.set fp z++L)[H.length]?=L[0]?:=λz L=>by have:=aS (H.set fp z) L 0;rwa[UF]at this
  have jY:=hG.first;have Az:VC 11 (G.first.map iv)=G.first.map iv:=Tn (by rw[Un];omega);have HW:VC 17 (Q.l mp)++G.first.map iv++Vv 28 (Q.l mp)=({Q with first:=G.first}:Kn).l mp:=Kn.ac1 hQ jY;have hqd:(Q.l mp).drop 17=Q.first.map iv:=by
   have e:Q.l mp=(bv Q.has:: .mp mp::(Q.aB.map (λn=>wv n)++(Q.hours.map (λn=>wv n)++(Q.less.map (λn=>wv n)++Q.aY.map (λn=>wv n)))))++Q.first.map iv:=(by simp[Kn.l]);rw[e,Xq (by simp[hQ.aB,hQ.hours,hQ.less,hQ.aY]),UR (by simp[hQ.aB,hQ.hours,hQ.less,hQ.aY])];rfl
  have aaN:VC 11 (Q.first.map iv)=Q.first.map iv:=Tn (by rw[Un,hQ.first];exact Tm _);have cP:H1.length=H.length:=by rw[lG,UF]
  cases Gx:Q.has
  case' true=>
   refine eo 12 ?_;simp only[seval,dF hf,Kn.Cl,Gx,TN,sV,hqd,Ga,Gy,Az,aaN];refine⟨by omega,by have:=hQ.first;omega,?_⟩;refine aK (aiV hG.first hQ.first ?_);(try simp only[seval]);refine aA ?_;refine⟨λhb=> ?tt,λhb=> ?tf⟩
  case' false=>
   refine eo 12 ?_;simp only[seval,dF hf,Kn.Cl,Gx,TN,sV,hqd,Ga,Gy,Az,aaN];refine aA ?_
  case' tt=>
   have e1:R1={Q with first:=G.first}:=(by rw[p_,if_pos (.inr hb)]);refine ah ?_;simp only[seval,dF hf,TN,sV,Ga,Gy,Az,jY,vn ie];rw[HW,<- e1,<- lG,<- cP]
  case' tf=>
   have e1:R1=Q:=(by rw[p_,if_neg (by rw[Gx,hb];simp)]);have JH:H1=H:=(by rw[lG,e1];exact qE hf);refine aL ?_;rw[<- JH]
  case' false=>
   have e1:R1={Q with first:=G.first}:=(by rw[p_,if_pos (.inl Gx)]);refine ah ?_;simp only[seval,dF hf,TN,sV,Ga,Gy,Az,jY,vn ie];rw[HW,<- e1,<- lG,<- cP]
  all_goals
   clear e1;have lK:fp<H1.length:=(by omega);have xI:H1[fp]?=some (.cells (R1.l mp) 85):=(by rw[lG,VP,if_pos rfl,if_pos ie]);have FR:H1[mp]?=some (setH R1.aM):=(by rw[lG,U3 mh,Cy];exact hm);have Sm:fp≠mg:=λe=>(by subst e;rw[hf]at hg;cases hg);have h1g:H1[mg]?=some (setH G.aM):=(by rw[lG,U3 Sm];exact hg);obtain⟨R2,uu⟩:∃R2,R2=({R1 with has:=true}:Kn):=⟨_,rfl⟩;have eL:AV.val (.bool true)::Vv 1 (R1.l mp)=R2.l mp:=(by rw[uu];rfl);have KI:R2.aM=Q.aM:=(by rw[uu];exact Cy);have uv:bM R2:=(by rw[uu];exact⟨nB.aB,nB.hours,nB.less,nB.aY,nB.first,nB.mv,nB.mL,nB.lT,nB.lW,nB.h4⟩);refine ah ?_;simp only[seval,dF xI,vn lK,Kn.arA];refine⟨by have:=Kn.len nB mp;omega,?_⟩;rw[eL];obtain⟨B,hB⟩:∃B:Kn->List (SD)->SA,∀K hs,B K hs=(H1.set fp (.cells (K.l mp) 85)).set mp (setH hs):=⟨_,λ_ _=>rfl⟩;have fV:∀K hs,(B K hs).length=H1.length:=λK hs=>(by rw[hB,UF,UF]);have Rt:∀K hs (L:SA),(B K hs++L)[mp]?=some (.obj (.map (hs.zipIdx.map eA).toArray hs.length)):=λK hs L=>by
    rw[Tw (by rw[fV];omega),hB,VP,if_pos rfl,if_pos (by rw[UF];omega)];rfl
   have FT:∀K hs (L:SA),(B K hs++L)[mg]?=some (.obj (.map (G.aM.zipIdx.map eA).toArray G.aM.length)):=λK hs L=>by
    rw[Tw (by rw[fV];omega),hB,U3 (λe=>wl e.symm),U3 Sm,h1g];rfl
   have oq:∀K hs (L:SA),(B K hs++L)[fp]?=some (.cells (K.l mp) 85):=λK hs L=>by
    rw[Tw (by rw[fV];omega),hB,U3 (λe=>mh e.symm),VP,if_pos rfl,if_pos (by omega)]
   have aky:∀K hs nN (L:SA),(B K hs++L).set mp (setH nN)=B K nN++L:=λK hs nN L=>by
    rw[VW _ _ (by rw[fV];omega),hB,hB,Yb]
   have FU:∀K hs K' (L:SA),(B K hs++L).set fp (.cells (K'.l mp) 85)=B K' hs++L:=λK hs K' L=>by
    rw[VW _ _ (by rw[fV];omega),hB,hB,List.set_comm _ _ (λe=>mh e.symm),Yb]
   have Ru:H1.set fp (.cells (R2.l mp) 85)=B R2 R2.aM:=by
    rw[hB];symm;exact qE (by rw[U3 mh,FR,KI,Cy])
   have TN:∀K hs (L:SA),(B K hs++L)[H1.length]?=L[0]?:=λK hs L=>(by rw[<- fV K hs];exact aS _ L 0);have bA:∀K hs (L:SA),(B K hs++L)[H1.length+1]?=L[1]?:=λK hs L=>(by rw[<- fV K hs];exact aS _ L 1);have dL:∀K hs (L:SA),(B K hs++L)[H1.length+2]?=L[2]?:=λK hs L=>(by rw[<- fV K hs];exact aS _ L 2);have K9:(G.l mg).drop 1=.mp mg::((G.l mg).drop 2):=rfl;have RA:∀K:Kn,(K.l mp).drop 1=.mp mp::((K.l mp).drop 2):=λ_=>rfl;have cH:∀(K:Kn)(hs:SS),bO (B K hs):=λK hs=>by
    intro z hz;rw[fV];rw[hB]at hz;rcases VB hz with hz|rfl
    ·rcases VB hz with hz|rfl
     ·rw[lG]at hz;rcases VB hz with hz|rfl
      ·exact cP▸hH z hz
      ·intro a ha;simp only[Kn.l,Th,Tp,Um]at ha;rcases ha with rfl|rfl|⟨_,_,rfl⟩|⟨_,_,rfl⟩|⟨_,_,rfl⟩|⟨_,_,rfl⟩|⟨_,_,rfl⟩
       ·exact .val _
       ·exact .mp (by omega)
       all_goals exact .val _
     ·intro a ha;simp only[Kn.l,Th,Tp,Um]at ha;rcases ha with rfl|rfl|⟨_,_,rfl⟩|⟨_,_,rfl⟩|⟨_,_,rfl⟩|⟨_,_,rfl⟩|⟨_,_,rfl⟩
      ·exact .val _
      ·exact .mp (by omega)
      all_goals exact .val _
    ·trivial
   have ee:∀(hs:SS)(K:Kn)(L:SA),hs.Perm G.aM->gB Q hs G=K->bY H1.length (B K K.aM++L) (.aF []) k:=λhs K L hp hK=>by
    have:=hk hs hp;rw[hK]at this;subst hK;refine iK (Wk.refl _) rfl (by rw[fV];exact Tm _) (cH _ _) (by simp[im]) ?_;rw[hB,lG,Yb];exact this
   rw[Ru];clear hk Ru;refine ah ?_;simp only[seval,TN,K9,FT];rw[fV];have RZ:∀K hs (L:SA) z,(B K hs++L).set (H1.length+1) z=B K hs++L.set 1 z:=λK hs L z=>by
    rw[VE _ _ (by rw[fV];omega),fV,VJ]
   have akP:∀K hs (L:SA) z,(B K hs++L).set (H1.length+2) z=B K hs++L.set 2 z:=λK hs L z=>by
    rw[VE _ _ (by rw[fV];omega),fV,VJ]
   obtain⟨ts,dU⟩:∃ts,ts=G.aM.zipIdx:=⟨_,rfl⟩;obtain⟨ck,F_⟩:∃ck,ck=G.aM.length:=⟨_,rfl⟩;rw[<- dU,<- F_]at FT;rw[<- F_];have hb:∀y∈ts,y.2<ck:=λy hy=>(by rw[dU]at hy;have:=List.snd_lt_add_of_mem_zipIdx hy;omega);have C7:(ts.map (·.2)).Nodup:=(by rw[dU,show (λy:SD×Nat=>y.2)=Prod.snd from rfl,List.zipIdx_map_snd];exact List.nodup_range');have h4:∀y∈ts,y.1.length=4:=λy hy=>(by rw[dU]at hy;exact hG.h4 _ (Ey hy));have fI:=PG ts ck hb;have Md:ts.map (·.1)=G.aM:=(by rw[dU,show (λy:SD×Nat=>y.1)=Prod.fst from rfl,List.zipIdx_map_fst]);clear dU;obtain⟨ac,F1⟩:∃ac:List (SD×Nat)->SS,∀vs,ac vs=vs.foldl (λa y=>jD a y.1) R2.aM:=⟨_,λ_=>rfl⟩;have RP:ac []=R2.aM:=(by rw[F1];rfl);have KJ:∀vs y,ac (vs++[y])=jD (ac vs) y.1:=λvs y=>(by rw[F1,F1,YN];rfl);obtain⟨i3,qf,jj⟩:=F.i3;refine b_ ?_;refine zi (measure λvs:List (SD×Nat)=>ts.length-vs.length).wf (λvs=>[]) (λvs=>B R2 (ac vs)++[.cells (G.l mg) 85,.iter mg ck (vs.map (·.2)).toArray ck]) (λvs=>(vs.map (·.2)).Nodup/\(∀y∈vs,y∈ts)/\∀h∈ac vs,h.length=4) [] (λ_ _=>rfl) (by simp) (by rw[RP];rfl) (λ_ _=>by simp[fV]) ⟨by simp,by simp,by rw[RP,KI];exact hQ.h4⟩ (λbX cU vs au R hR=> ?_);refine ah ?_;simp only[seval,bA,FT,RZ];refine⟨fI.elim .inl (λh=> .inr (.inl h)),λe he hn=> ?_,λhs=> ?_⟩
   ·obtain⟨y,hy,rfl⟩:∃y∈ts,eA y=e:=(by simpa using he);refine aA ?_;refine aL ?_;refine b_ ?_;have sL:=h4 y hy;have KS:(eA y).born=y.2:=rfl;have hlen:(y.1.map iv).length=4:=(by simp[sL]);have KZ:Vv 4 [AV.val (S_ Tc 0),AV.val (S_ Tc 0),AV.val (S_ Tc 0),AV.val (S_ Tc 0)]=[]:=rfl;refine ah ?_;simp only[seval,bA,FT,RZ,akP,dL,fV,Array.back?_push,KS,QT C7 hy,ab5,sL,hlen,KZ];refine eo 10 ?_;simp only[seval,oq,RA,Rt,dL,hlen,sL];have aaM:VC 4 (y.1.map iv)=y.1.map iv:=Tn (by omega);have Ks:∀z∈(ac vs).zipIdx,z.1.length=4:=λz hz=>au.2.2 _ (Ey hz);have F':=adF (ts:=(ac vs).zipIdx) F.Em F.u3 qf jj sL Ks;have F9:=λb=>adz (b:=b) (k:=.i64) (d:=9998) F.Em F.u3 qf jj sL;have Gv:((vs.map (·.2)).toArray.push y.2)=((vs++[y]).map (·.2)).toArray:=(by simp);have Mj:y.2∉vs.map (·.2):=(by simpa[eA]using hn);have s8:((vs++[y]).map (·.2)).Nodup/\(∀z∈vs++[y],z∈ts)/\∀h∈ac (vs++[y]),h.length=4:=by
     refine⟨?_,λz hz=> ?_,λh hh=> ?_⟩
     ·rw[UJ,V_];refine⟨au.1,by simp,λa ha b hb=> ?_⟩;simp at hb;subst hb;intro e;subst e;exact Mj ha
     ·rcases Tp.1 hz with h|h
      ·exact au.2.1 z h
      ·rw[T7.1 h];exact hy
     ·rw[KJ,jD]at hh;split at hh
      ·exact au.2.2 _ hh
      ·rcases Tp.1 hh with h'|h'
       ·exact au.2.2 _ h'
       ·rw[T7.1 h'];exact sL
    have hlen:vs.length<ts.length:=by
     have h1:(vs++[y]).Nodup:=DU _ s8.1;have:=h1.length_le_of_subset s8.2.1;simp at this;omega
    have rC:ts.length-(vs++[y]).length<ts.length-vs.length:=(by simp;omega);have Gr:∀sn,bO (B R2 (ac (vs++[y]))++[aa.cells (G.l mg) 85,aa.iter mg ck sn ck]):=λsn z hz=>by
     rcases Tp.1 hz with h|h
     ·exact(cH _ _ z h).mono (by simp)
     ·have Kz:∀a∈G.l mg,Lt H1.length a:=λa ha=>by
       simp only[Kn.l,Th,Tp,Um]at ha;rcases ha with rfl|rfl|⟨_,_,rfl⟩|⟨_,_,rfl⟩|⟨_,_,rfl⟩|⟨_,_,rfl⟩|⟨_,_,rfl⟩
       ·exact .val _
       ·exact .mp (by omega)
       all_goals exact .val _
      simp only[Th,Tv,or_false]at h;rcases h with rfl|rfl
      ·intro a ha;exact(Kz a ha).mono (by simp[fV])
      ·show mg<_;simp[fV];omega
    rw[aaM];refine eg F.OW (eg (va _) ⟨F9 _,_,F',?_⟩);rcases J9 (x:=y.1) (hs:=ac vs)with⟨h,C9⟩|⟨i',b,h,h2,C9⟩
    ·rw[h];(try simp only[seval,AV.found]);refine ai ?_;refine aA ?_;refine eo 5 ?_;simp only[seval,oq,RA,Rt,dL,hlen,sL];rw[aaM];refine eg (va _) (eg rfl ⟨F9 _,_,F',?_,?_⟩)
     ·intro i v x7;rw[h]at x7;cases x7
     ·rw[h,acv,<- ac2,aky,show ac vs++[y.1]=ac (vs++[y]) by rw[KJ,jD,if_neg C9],Gv];refine hR _ ⟨vs++[y],rC,s8,?_⟩;exact A3 (qA rfl rfl) (by simp only[seval]<;>simp[bP,Wk.refl]) (Gr _) (by simp[dN])
    ·rw[h];(try simp only[seval,AV.found]);refine ai ?_;refine aA ?_;refine aL ?_;rw[show ac vs=ac (vs++[y]) by rw[KJ,jD,if_pos C9],Gv];refine hR _ ⟨vs++[y],rC,s8,?_⟩;exact A3 (qA rfl rfl) (by simp only[seval]<;>simp[bP,Wk.refl]) (Gr _) (by simp[dN])
   ·have hp:vs.Perm ts:=acP au.1 C7 au.2.1 λy hy=>by
     have:=hs (eA y) (by simp;exact⟨y.1,y.2,hy,rfl⟩) (hb y hy);simpa[eA]using this
    refine aA ?_;refine bT ?_;obtain⟨K,hK⟩:∃K:Nat->Nat->Kn,∀i j,K i j={R2 with aB:=nU R2.aB G.aB i,hours:=nU R2.hours G.hours i,less:=nU R2.less G.less i,aY:=nU R2.aY G.aY j}:=⟨_,λ_ _=>rfl⟩;have Rz:K 0 0=R2:=(by rw[hK];rfl);refine ai ?_;refine b_ ?_;refine fS 4 (λi:Nat=>[(57,iv i)]) (λi=>B (K i 0) (ac vs)++[.cells (G.l mg) 85,.iter mg ck (vs.map (·.2)).toArray ck]) (λi=>bM (K i 0)) (λ_ _=>rfl) (by simp only[seval];simp[bP,Wk.refl]) (by rw[Rz]) (λ_ _ _=>by simp[fV]) (by rw[Rz];exact uv) (λauP auT i cK uK R hR=> ?_);refine ai ?_;refine aA ?_;refine⟨λh=> ?_,λh=> ?_⟩
    ·have bG:i<4:=(by omega);obtain⟨a1,rf⟩:=bU (xs:=(K i 0).aB) (i:=i) (by have:=uK.aB;omega);obtain⟨a2,CA⟩:=bU (xs:=(K i 0).hours) (i:=i) (by have:=uK.hours;omega);obtain⟨a3,F0⟩:=bU (xs:=(K i 0).less) (i:=i) (by have:=uK.less;omega);obtain⟨c1,cN⟩:=bU (xs:=G.aB) (i:=i) (by have:=hG.aB;omega);obtain⟨c2,cx⟩:=bU (xs:=G.hours) (i:=i) (by have:=hG.hours;omega);obtain⟨c3,du⟩:=bU (xs:=G.less) (i:=i) (by have:=hG.less;omega);have Dz:=uK.mv _ (Uf rf);have la2:=uK.mL _ (Uf CA);have la3:=uK.lT _ (Uf F0);have DE:=hG.mv _ (Uf cN);have lc2:=hG.mL _ (Uf cx);have lc3:=hG.lT _ (Uf du);have b4:(0<=(i:Int)/\(i:Int)<4)=True:=(by simp;omega);have bH:=TL i (by omega);refine aL ?_;refine ai ?_;obtain⟨Ka,Cx⟩:∃Ka,Ka=({K i 0 with aB:=(K i 0).aB.set i (a1|||c1)}:Kn):=⟨_,rfl⟩;have Hy:bM Ka:=(by rw[Cx];exact uK.ac6 (pF Dz DE));have sa:=Kn.ab3 (F:=K i 0) (mp:=mp) (p:=i) (v:=a1|||c1) (ep rf);rw[<- Cx]at sa;refine eo 13 ?_;simp only[seval,oq,TN,b4,Kn.Hw rf,Kn.Hw cN,BS,HG Dz DE,Kn.len uK mp];refine⟨by omega,?_⟩;rw[sa,FU];obtain⟨Kb,FV⟩:∃Kb,Kb=({Ka with hours:=Ka.hours.set i (a2|||c2)}:Kn):=⟨_,rfl⟩;have Hz:bM Kb:=(by rw[FV];exact Hy.ac4 (pF la2 lc2));have xP:Ka.hours[i]?=some a2:=(by rw[Cx];exact CA);have sb:=Kn.aav Hy (mp:=mp) (p:=i) (v:=a2|||c2) (ep xP);rw[<- FV]at sb;refine eo 13 ?_;simp only[seval,oq,TN,b4,Kn.LK Hy xP,Kn.LK hG cx,BS,HG la2 lc2,Kn.len Hy mp];refine⟨by omega,?_⟩;rw[sb,FU];have F4:Kb.less[i]?=some a3:=(by rw[FV,Cx];exact F0);have sc:=Kn.abl Hz (mp:=mp) (p:=i) (v:=a3|||c3) (ep F4);have xK:({Kb with less:=Kb.less.set i (a3|||c3)}:Kn)=K (i+1) 0:=by
      rw[FV,Cx,hK (i+1)];simp only[hK]at rf CA F0⊢;rw[HF rf cN,HF CA cx,HF F0 du]
     have Nh:bM (K (i+1) 0):=(by rw[<- xK];exact Hz.ac5 (pF la3 lc3));rw[xK]at sc;refine eo 13 ?_;simp only[seval,oq,TN,b4,Kn.DI Hz F4,Kn.DI hG du,BS,HG la3 lc3,Kn.len Hz mp];refine⟨by omega,?_⟩;rw[sc,FU];refine ah ?_;simp only[seval,bH];exact hR _ ⟨bG,Nh,dp⟩
    ·have dx:i=4:=(by omega);subst dx;refine bT ?_;refine ai ?_;refine b_ ?_;refine fS 3 (λi:Nat=>[(103,iv i)]) (λj=>B (K 4 j) (ac vs)++[.cells (G.l mg) 85,.iter mg ck (vs.map (·.2)).toArray ck]) (λj=>bM (K 4 j)) (λ_ _=>rfl) (by simp only[seval];simp[bP,Wk.refl]) rfl (λ_ _ _=>by simp[fV]) uK (λauQ auU j pf Al R hR=> ?_);refine ai ?_;refine aA ?_;refine⟨λh=> ?_,λh=> ?_⟩
     ·have ff:j<3:=(by omega);obtain⟨a1,rf⟩:=bU (xs:=(K 4 j).aY) (i:=j) (by have:=Al.aY;omega);obtain⟨c1,cN⟩:=bU (xs:=G.aY) (i:=j) (by have:=hG.aY;omega);have Dz:=Al.lW _ (Uf rf);have DE:=hG.lW _ (Uf cN);have b3:(0<=(j:Int)/\(j:Int)<3)=True:=(by simp;omega);have bH:=TL j (by omega);refine aL ?_;refine ai ?_;have sa:=Kn.acm Al (mp:=mp) (p:=j) (v:=a1|||c1) (ep rf);have xK:({K 4 j with aY:=(K 4 j).aY.set j (a1|||c1)}:Kn)=K 4 (j+1):=by
       rw[hK 4 (j+1)];simp only[hK]at rf⊢;rw[HF rf cN]
      have Nh:bM (K 4 (j+1)):=(by rw[<- xK];exact Al.Ea (pF Dz DE));rw[xK]at sa;refine eo 13 ?_;simp only[seval,oq,TN,b3,Kn.D4 Al rf,Kn.D4 hG cN,BS,HG Dz DE,Kn.len Al mp];refine⟨by omega,?_⟩;rw[sa,FU];refine ah ?_;simp only[seval,bH];exact hR _ ⟨ff,Nh,dp⟩
     ·have Lq:j=3:=(by omega);subst Lq;refine bT ?_;have yd:(vs.map (·.1)).Perm G.aM:=by
       have:=hp.map (·.1);rw[Md]at this;exact this
      have akD:ac vs=(vs.map (·.1)).foldl jD Q.aM:=(by rw[F1,KI,List.foldl_map]);have hJ:gB Q (vs.map (·.1)) G={K 4 3 with aM:=ac vs}:=by
       have e2:R2=⟨true,Q.aM,Q.aB,Q.hours,Q.less,Q.aY,if Q.has=false\/sD G.first Q.first=true then G.first else Q.first⟩:=by
        rw[uu,p_];split<;>rfl
       rw[gB,if_pos Lb,hK,HE (by rw[uv.aB,hG.aB]) uv.aB,HE (by rw[uv.hours,hG.hours]) uv.hours,HE (by rw[uv.less,hG.less]) uv.less,HE (by rw[uv.aY,hG.aY]) uv.aY,akD,e2]
      have:=ee (vs.map (·.1)) _ [.cells (G.l mg) 85,.iter mg ck (vs.map (·.2)).toArray ck] yd hJ;rw[show B ({K 4 3 with aM:=ac vs}:Kn) (ac vs)=B (K 4 3) (ac vs) by rw[hB,hB];rfl]at this;exact this
open Go.Conc Go.Proofs Go.Gg.Tk
namespace Tk
def zf{l:SE}{i v:Nat}:(oW l i v).length=l.length:=by simp[oW]
def EW{l:SE}{i v:Nat}(h:∀n∈l,n<65536)(hv:v<16):∀n∈oW l i v,n<65536:=by
 refine DN h (pF ?_ (wW hv));rw[Se];cases hi:l[i]?with
 |none=>exact(by decide:0<65536)
 |some a=>exact h _ (Uf hi)
def asw{x:aj}{t:SD}(ht:ju x t){p:Nat}(hp:p<x.pieces.length):mz t p<16:=by
 obtain⟨n,h1,h2,_⟩:=ht.num p hp;unfold mz;rw[Se,h1];show n<16;omega
def asv{t:SD}(h:t.length=11){p:Nat}:Eg t p<16:=by
 unfold Eg;have h5:jp (t.take 4) (t.getD (4+p) 0+t.getD 0 0)<0+(t.take 4).length:=adW;have:(t.take 4).length=4:=by simp[h]
 omega
def asx{x:aj}{t:SD}(ht:ju x t){s:Nat}(hs:s<x.aC.length):rX t s<16:=by
 obtain⟨n,h1,h2⟩:=ht.own s hs;unfold rX;rw[Se,h1];show n<16;omega
def acl{x:aj}{t:SD}(ht:ju x t){l:SE}(hl:∀n∈l,n<65536):∀{s:Nat},s<=x.aC.length->(mZ t s l).length=l.length/\∀n∈mZ t s l,n<65536
 |0,_=>⟨rfl,hl⟩
 |s+1,h=>by
  obtain⟨h1,h2⟩:=acl ht hl (s:=s) (by omega);exact⟨zf.trans h1,EW h2 (asx ht (by omega))⟩
def abZ{x:aj}{t:SD}(ht:ju x t){l:SE}(hl:∀n∈l,n<65536):∀{s:Nat},s<=x.pieces.length->(rQ t s l).length=l.length/\∀n∈rQ t s l,n<65536
 |0,_=>⟨rfl,hl⟩
 |s+1,h=>by
  obtain⟨h1,h2⟩:=abZ ht hl (s:=s) (by omega);exact⟨zf.trans h1,EW h2 (asw ht (by omega))⟩
def aau{t:SD}(ht:t.length=11){l:SE}(hl:∀n∈l,n<65536):∀{s:Nat},(wy t s l).length=l.length/\∀n∈wy t s l,n<65536
 |0=>⟨rfl,hl⟩
 |s+1=>by
  obtain⟨h1,h2⟩:=aau ht hl (s:=s);exact⟨zf.trans h1,EW h2 (asv ht)⟩
def abj{t:SD}{p:Nat}{l:SE}(hl:∀n∈l,n<65536):∀{q:Nat},q<=4->(pB t p q l).length=l.length/\∀n∈pB t p q l,n<65536
 |0,_=>⟨rfl,hl⟩
 |q+1,h=>by
  obtain⟨h1,h2⟩:=abj hl (q:=q) (t:=t) (p:=p) (by omega);unfold pB;split
  ·exact⟨zf.trans h1,EW h2 (by omega)⟩
  ·exact⟨h1,h2⟩
def abh{t:SD}{k:Nat}(hk:k<=4){l:SE}(hl:∀n∈l,n<65536):∀{p:Nat},(pA t k p l).length=l.length/\∀n∈pA t k p l,n<65536
 |0=>⟨rfl,hl⟩
 |p+1=>by
  obtain⟨h1,h2⟩:=abh hk hl (p:=p) (t:=t);obtain⟨h3,h4⟩:=abj h2 (t:=t) (p:=p) hk;exact⟨h3.trans h1,h4⟩
def acr{hs:SS}{h:SD}(h1:∀y∈hs,y.length=4)(h2:h.length=4):∀y∈jD hs h,y.length=4:=λy hy=>by
 unfold jD at hy;split at hy
 ·exact h1 y hy
 ·rcases Tp.1 hy with h'|h'
  ·exact h1 y h'
  ·rw[T7.1 h'];exact h2
def N9{x:aj}{deep:Int}{Q:Kn}{t:SD}(hx:x.Ok)(ht:ju x t)(hQ:bM Q):bM (ew x deep Q t):=by
 have hB:=PA hQ ht.len;unfold ew;dsimp only;generalize jJ Q t=R at hB;split
 ·obtain⟨h1,h2⟩:=acl ht hB.lW (Tm _);exact⟨hB.aB,hB.hours,hB.less,h1.trans hB.aY,hB.first,hB.mv,hB.mL,hB.lT,h2,hB.h4⟩
 ·split
  ·exact⟨hB.aB,hB.hours,hB.less,hB.aY,hB.first,hB.mv,hB.mL,hB.lT,hB.lW,acr hB.h4 (by simp[ht.len])⟩
  ·obtain⟨h1,h2⟩:=abZ ht hB.mv (Tm _);obtain⟨h3,h4⟩:=aau ht.len hB.mL (s:=x.pieces.length);obtain⟨h5,h6⟩:=abh (t:=t) hx.cW hB.lT (p:=x.pieces.length);exact⟨h1.trans hB.aB,h3.trans hB.hours,h5.trans hB.less,hB.aY,hB.first,h2,h4,h6,hB.lW,hB.h4⟩
def Og{x:aj}{deep:Int}{h t:SD}(ht:t∈iI x deep h):∃ns∈f_ x h,t∈(iq x h ns).map (dC h ns):=by
 have key:t∈((f_ x h).map λns=>(iq x h ns).map λos=>dC h ns os).flatten:=by
  unfold iI at ht;dsimp only at ht;split at ht
  ·exact YE ht
  ·split at ht
   ·obtain⟨l,h1,h2⟩:=YM.1 ht;obtain⟨m,h3,rfl⟩:=Um.1 h1;exact YM.2 ⟨m,h3,YE h2⟩
   ·exact ht
 obtain⟨l,h1,h2⟩:=YM.1 key;obtain⟨ns,h3,rfl⟩:=Um.1 h1;exact⟨ns,h3,h2⟩
def Dy:bM Kn.zero:=by
 have h0:∀k:Nat,∀n∈UE k 0,n<65536:=λk n h=>by rw[(XG.1 h).2];decide
 exact⟨rfl,rfl,rfl,rfl,rfl,h0 4,h0 4,h0 4,h0 3,λh hh=>by cases hh⟩
def Kj{x:aj}{deep:Int}(hx:x.Ok):∀{ts:SS}{Q:Kn},(∀t∈ts,ju x t)->bM Q->bM (ts.foldl (ew x deep) Q)
 |[],Q,_,h=>h
 |t::ts,Q,ht,h=>by rw[VS];exact Kj hx (λu hu=>ht u (by simp[hu])) (N9 hx (ht t (by simp)) h)
end Tk
def yp{K:Kn}{mp m:Nat}(h:mp<m):∀a∈K.l mp,Lt m a:=λa ha=>by
 simp only[Kn.l,Th,Tp,Um]at ha;rcases ha with rfl|rfl|⟨_,_,rfl⟩|⟨_,_,rfl⟩|⟨_,_,rfl⟩|⟨_,_,rfl⟩|⟨_,_,rfl⟩
 ·exact .val _
 ·exact .mp h
 all_goals exact .val _
def G8{K:Kn}{mp m:Nat}(h:∀a∈K.l mp,Lt m a):mp<m:=by
 cases h (.mp mp) (by simp[Kn.l]);assumption
def cs:UX->UX
 |.seq _ c=>c
 |_=> .skip
def cf:UX->UX
 |.seq c _=>c
 |_=> .skip
noncomputable def aa5:UX:=awo.body.getD .skip
def uV (x:aj)(bk:Nat)(deep:Int)(c:Nat)(w:T5):List (Nat×AV):=[(12,.fn (.func 105) [] [.op 2 0,.op 3 0]),(5,.op 1 0),(0,.val w),(1,.rp x.l),(2,.rp [iv bk]),(3,.rp [iv deep]),(4,.rp [.val (.chan (some c))])]
def wD (x:aj)(bk:Nat)(K:Kn):SA:=[setH K.aM,.cells (K.l 0) 85,.cells x.l 73,.cells [iv bk] 3]
def amU{lv:Bool}{x:aj}{bk c:Nat}{w:T5}{deep:Int}{bs:S4}(hx:x.Ok)(lQ:bk<=3)(hA:∀h∈j6 x bk,mD h/\∀ns∈f_ x h,∀a∈(iq x h ns).map (dC h ns),ju x a)(Φ:SN)(hΦ:Φ .normal ⟨uV x bk deep c w,wD x bk (gN x deep bk)++[.obj (.deferred (some [])),.gone]⟩ [4]):
  ki lv ij 25 bs (cs (cf (cs (cs aa5)))) ⟨uV x bk deep c w,wD x bk Kn.zero⟩ [] Φ:=by
 unfold aa5 awo;dsimp only[T9,cs,cf];refine xo ?_;refine I_ (by rfl) λl fn T ag bo hT xN qb=> ?_;(try simp only[seval,wD]);simp only[uV,iv]at hT;obtain⟨Gf,ut⟩:∃Gf:Kn->SA,∀K,Gf K=[setH K.aM,.cells (K.l 0) 85,.cells x.l 73,.cells [iv bk] 3,.obj (.deferred (some [])),.loop l .ready none fn T 25 #[13] ag bo 4]:=⟨_,λ_=>rfl⟩;have Kz:∀K,(Gf K).length=6:=λK=>by rw[ut];rfl
 have akz:∀m K K',(∀z∈Gf K,eU m z)->∀z∈Gf K',eU m z:=λm K K' hz z e9=>by
  rw[ut]at hz e9;have h1:=hz (.cells (K.l 0) 85) (by simp);simp only[Th,Tv,or_false]at e9;rcases e9 with rfl|rfl|rfl|rfl|rfl|rfl
  ·trivial
  ·exact yp (G8 h1)
  ·exact hz _ (by simp)
  ·exact hz _ (by simp)
  ·exact hz _ (by simp)
  ·exact hz _ (by simp)
 have hY:jH lv ij (.fn (.yield l) [] []) (λK h=> .go ((iI x deep h).foldl (ew x deep) K)) Gf 6 bM (λh=>mD h/\∀ns∈f_ x h,∀a∈(iq x h ns).map (dC h ns),ju x a) (.aF []):=by
  refine⟨λK h M k kp hK ha dG=> ?_,λK h K' hK ha he=> ?_,Kz,akz,rfl,rfl,rfl⟩
  ·obtain⟨pc,Dk⟩:=ha;have h4:=pc.len;have nA:(h.map iv).length=4:=(by rw[Un,h4]);obtain⟨Lo,kY⟩:∃Lo,Lo=aa.loop l .busy none fn T 25 #[13] ag bo 4:=⟨_,rfl⟩;obtain⟨P1,dt⟩:∃P1:Kn->SA,∀K,P1 K=[setH K.aM,.cells (K.l 0) 85,.cells x.l 73,.cells [iv bk] 3,.obj (.deferred (some [])),Lo]++M:=⟨_,λ_=>rfl⟩;have ey:∀K,(P1 K).length=6+M.length:=λK=>(by rw[dt];simp;omega);have pg:∀(K:Kn)(L:SA)(i:Nat),i<6->(P1 K++L)[i]?=[setH K.aM,aa.cells (K.l 0) 85,.cells x.l 73,.cells [iv bk] 3,.obj (.deferred (some [])),Lo][i]?:=λK L i Li=>by
    rw[dt,Ax,Tw (by simpa using Li)]
   have pb:∀(K:Kn)(L:SA)(i:Nat),(P1 K++L)[6+M.length+i]?=L[i]?:=λK L i=>(by rw[<- ey K,aS]);have wN:∀(K:Kn)(L:SA),(P1 K++L)[6+M.length]?=L[0]?:=λK L=>pb K L 0;have pH:∀(K:Kn)(L:SA)(y:aa),(P1 K++L).set (6+M.length+4) y=P1 K++L.set 4 y:=λK L y=>(by rw[<- ey K,dg]);have s5:∀(K:Kn)(L:SA) y,(P1 K++L).set 5 y=[setH K.aM,.cells (K.l 0) 85,.cells x.l 73,.cells [iv bk] 3,.obj (.deferred (some [])),y]++M++L:=λK L y=>(by rw[dt];rfl);have AN:∀(K K':Kn)(L L':SA),L'.length=L.length->(∀q,(∀z∈L,eU q z)->∀z∈L',eU q z)->bO (P1 K++L)->bO (P1 K'++L'):=λK K' L L' hl hL hH z hz=>by
    have hlen:(P1 K'++L').length=(P1 K++L).length:=(by simp[ey,hl]);rw[hlen];rcases Tp.1 hz with h'|h'
    ·rw[dt]at h';rcases Tp.1 h' with h'|h'
     ·have h1:=hH (.cells (K.l 0) 85) (by rw[dt];simp);have hq:∀w∈[setH K.aM,aa.cells (K.l 0) 85,.cells x.l 73,.cells [iv bk] 3,.obj (.deferred (some [])),Lo],eU (P1 K++L).length w:=λw hw=>hH w (by rw[dt,Ax];exact Ue _ hw);simp only[Th,Tv,or_false]at h';rcases h' with rfl|rfl|rfl|rfl|rfl|rfl
      ·trivial
      ·exact yp (G8 h1)
      ·exact hq _ (by simp)
      ·exact hq _ (by simp)
      ·exact hq _ (by simp)
      ·exact hq _ (by simp)
     ·exact hH z (by rw[dt];simp[h'])
    ·exact hL _ (λw hw=>hH w (T1 _ hw)) z h'
   simp only[cX]at dG;rw[ut]at dG;rw[ut];subst hT xN qb;refine vR (id:=5) (by rfl) rfl (by kernel_rfl) λou Kv=> ?_;simp only[se];have we:Vv 4 [iv 0,iv 0,iv 0,iv 0]=[]:=rfl;refine ah ?_;simp only[seval,uV,h4,we];unfold tW;refine⟨none,fn,_,25,#[13],_,_,_,by rfl,?_⟩;dsimp only;simp only[Vg,UP];rw[<- kY];have xJ:M.length+1+1+1+1+1+1=6+M.length:=(by omega);rw[xJ];have xX:∀z:aa,(setH K.aM::aa.cells (K.l 0) 85::aa.cells x.l 73::aa.cells [AV.val (S_ Tc ↑bk)] 3::aa.obj (ac' (some []))::Lo::(M++[z]))=P1 K++[z]:=λz=>(by rw[dt];rfl);rw[xX];refine ah ?_;simp only[seval,TM,wN,h4,nA];rw[Tn (i:=4) (l:=h.map iv) (by rw[nA];exact Tm _)];refine aK (J3 (x:=x) (h:=h) (deep:=deep) ?_);(try simp only[seval]);refine b_ ?_;have qh:∀(K:Kn)(a b c d:aa),(P1 K++[a,b,c,d]).length=6+M.length+4:=λK a b c d=>(by simp[ey]);refine Fa 5 (by rfl) (by show (P1 K++_)[5]?=_;rw[pg K _ 5 (by omega),kY];rfl) λl2 eP T2 gI gJ ow xO xQ=> ?_;simp only[seval];rw[ey]at ow⊢;have xM:jH lv ij (.fn (.yield l2) [] []) (λK t=> .go (ew x deep K t)) (λK=>P1 K++[.cells (h.map iv) 80,.cells x.l 73,.cells (h.map iv) 80,.cells [iv deep] 3,.loop l2 .ready none eP T2 25 #[18] gI gJ 4]) (6+M.length+5) bM (ju x) (.aF []):=by
    refine⟨λK' t M2 k2 yq KC ht lh=> ?_,λK' t Bx KC ht he=> ?_,λK'=>by simp[ey],λq K' Bx hz z e9=> ?_,rfl,rfl,rfl⟩
    ·have qv:=ht.len;have AA:(t.map iv).length=11:=(by rw[Un,qv]);obtain⟨pN,sM⟩:∃Lo,Lo=aa.loop l2 .busy none eP T2 25 #[18] gI gJ 4:=⟨_,rfl⟩;obtain⟨Q1,gp⟩:∃Q1:Kn->SA,∀K,Q1 K=P1 K++([.cells (h.map iv) 80,.cells x.l 73,.cells (h.map iv) 80,.cells [iv deep] 3,pN]++M2):=⟨_,λ_=>rfl⟩;obtain⟨C,hC⟩:∃C,C=6+M.length+5+M2.length:=⟨_,rfl⟩;have KH:∀K,(Q1 K).length=C:=λK=>(by rw[gp,hC];simp[ey];omega);have lY:∀(K:Kn)(L:SA),(P1 K++L)[6+M.length+4]?=L[4]?:=λK L=>pb K L 4;have q0:∀(K:Kn)(L:SA),(Q1 K++L)[0]?=some (setH K.aM):=λK L=>(by rw[gp,Ax];exact pg K _ 0 (by omega));have q1:∀(K:Kn)(L:SA),(Q1 K++L)[1]?=some (.cells (K.l 0) 85):=λK L=>(by rw[gp,Ax];exact pg K _ 1 (by omega));have q4:∀(K:Kn)(L:SA),(Q1 K++L)[6+M.length+4]?=some pN:=λK L=>(by rw[gp,Ax,lY];rfl);have qc:∀(K:Kn)(L:SA),(Q1 K++L)[C]?=L[0]?:=λK L=>(by rw[<- KH K];exact aS _ L 0);have NM:∀(K:Kn)(L:SA)(y:aa),(Q1 K++L).set (6+M.length+4) y=(P1 K++([.cells (h.map iv) 80,.cells x.l 73,.cells (h.map iv) 80,.cells [iv deep] 3,y]++M2))++L:=λK L y=>(by rw[gp,Ax,pH];simp);have aqs:∀(K K':Kn)(L:SA),((Q1 K++L).set 1 (.cells (K'.l 0) 85)).set 0 (setH K'.aM)=Q1 K'++L:=λK K' L=>(by rw[gp,gp,dt,dt];rfl);have eQ:∀(Bx:Kn),bO (P1 K'++([.cells (h.map iv) 80,.cells x.l 73,.cells (h.map iv) 80,.cells [iv deep] 3,.loop l2 .ready none eP T2 25 #[18] gI gJ 4]++M2))->bO (P1 Bx++([.cells (h.map iv) 80,.cells x.l 73,.cells (h.map iv) 80,.cells [iv deep] 3,.loop l2 .ready none eP T2 25 #[18] gI gJ 4]++M2)):=λBx h_=>AN K' Bx _ _ rfl (λq hz=>hz) h_;simp only[cX]at lh;have K6:∀z:aa,P1 K'++(aa.cells (Wh iv h) 80::aa.cells x.l 73::aa.cells (Wh iv h) 80::aa.cells [AV.val (S_ Tc deep)] 3::pN::(M2++[z]))=Q1 K'++[z]:=λz=>(by rw[gp];simp[iv]);subst ow xO xQ;rw[Ax];refine vR (id:=6+M.length+4) (by rw[lY];rfl) rfl (by kernel_rfl) λre Kw=> ?_;simp only[se];have CO:Vv 11 [iv 0,iv 0,iv 0,iv 0,iv 0,iv 0,iv 0,iv 0,iv 0,iv 0,iv 0]=[]:=rfl;refine ah ?_;simp only[seval,qv,CO];unfold tW;refine⟨none,eP,_,25,#[18],_,_,_,by rw[lY];rfl,?_⟩;dsimp only;rw[pH];simp only[Vg,UP];rw[<- sM];have Cq:(P1 K').length+(M2.length+1+1+1+1+1)=C:=(by rw[ey,hC];omega);rw[Cq];have iP:∀z:aa,(P1 K'++aa.cells (Wh iv h) 80::aa.cells x.l 73::aa.cells (Wh iv h) 80::aa.cells [AV.val (S_ Tc deep)] 3::pN::(M2++[z]))=Q1 K'++[z]:=K6;rw[iP];refine ah ?_;simp only[seval,TM,qc,qv,AA];rw[Tn (i:=11) (l:=t.map iv) (by rw[AA];exact Tm _)];refine aK (aiM (x:=x) (t:=t) (deep:=deep) (fp:=1) (mp:=0) (Q:=K') hx ht KC (by decide) (q1 K' _) (q0 K' _) ?_);rw[aqs];(try simp only[seval]);show oV _ _ _ _ _ _ _;refine⟨l2,.busy,none,eP,_,25,#[18],_,_,4,by show (Q1 _++_)[_]?=_;rw[q4,sM],?_⟩;show bY C ((Q1 _++_).set _ _) _ k2;rw[NM];rw[Ax]at lh;exact iK (G:=[.cells (t.map iv) 83]) (Wk.refl _) rfl (by rw[hC];simp[ey];omega) (eQ _ re) (.val _) lh
    ·cases he;exact N9 hx ht KC
    ·rcases Tp.1 e9 with h'|h'
     ·have h1:=hz (.cells (K'.l 0) 85) (by rw[dt];simp);rw[dt]at h';rcases Tp.1 h' with h'|h'
      ·simp only[Th,Tv,or_false]at h';rcases h' with rfl|rfl|rfl|rfl|rfl|rfl
       ·trivial
       ·exact yp (G8 h1)
       all_goals exact hz _ (by rw[dt];simp)
      ·exact hz z (by rw[dt];simp[h'])
     ·exact hz z (T1 _ h')
   refine cO (JU (x:=x) (h:=h) (deep:=deep) (ir:=6+M.length+1) (ih:=6+M.length+1+1) (id:=6+M.length+1+2) (σ:=K) hx pc xM (λK L=> ?_) (λK L=> ?_) (λK L=> ?_) (λn=>by simp[im]) hK (λa ha=>ha.len) Dk ?_)
   ·rw[Ax];exact pb _ _ 1
   ·rw[Ax];exact pb _ _ 2
   ·rw[Ax];exact pb _ _ 3
   rw[D6 (g:=ew x deep) (λ_ _=>rfl)];simp only[gg,Tu];have lY:∀(K:Kn)(L:SA),(P1 K++L)[6+M.length+4]?=L[4]?:=λK L=>pb K L 4;refine⟨.ready,none,_,_,_,_,_,_,_,by rw[lY];rfl,by decide,?_⟩;rw[pH,HO];(try simp only[seval]);show oV _ _ _ _ _ _ _;have auR:=kY;refine⟨l,.busy,none,fn,_,25,#[13],_,_,4,by show (P1 _++_)[_]?=_;rw[pg _ _ 5 (by omega),kY];rfl,?_⟩;show bY (6+M.length) ((P1 _++_).set _ _) _ k;rw[s5];refine iK (G:=[.cells (h.map iv) 80,.cells x.l 73,.cells (h.map iv) 80,.cells [iv deep] 3,.gone]) (Wk.refl _) rfl (by simp;omega) ?_ (.val _) dG;intro z hz;have h1:=ou (.cells (K.l 0) 85) (by simp);have hlen:∀(y:aa),([setH (avS (ew x deep) K (iI x deep h)).aM,aa.cells ((avS (ew x deep) K (iI x deep h)).l 0) 85,.cells x.l 73,.cells [iv bk] 3,.obj (.deferred (some [])),y]++M).length=(setH K.aM::aa.cells (K.l 0) 85::aa.cells x.l 73:: .cells [iv bk] 3:: .obj (.deferred (some []))::y::M).length:=λy=>rfl;rcases Tp.1 hz with h'|h'
   ·simp only[Th,Tv,or_false]at h';rcases h' with rfl|rfl|rfl|rfl|rfl|rfl
    ·trivial
    ·exact yp (G8 h1)
    all_goals exact ou _ (by simp)
   ·exact ou z (by simp[h'])
  ·cases he;exact Kj hx (λt ht=>by obtain⟨ns,h1,h2⟩:=Og ht;exact ha.2 ns h1 t h2) hK
 have hgo:bC (λK h=>dD.go ((iI x deep h).foldl (ew x deep) K)) (j6 x bk) Kn.zero=.go (gN x deep bk):=by
  rw[D6 (g:=λK h=>(iI x deep h).foldl (ew x deep) K) (λ_ _=>rfl),gN,List.foldl_flatMap]
 refine Jg (by kernel_rfl) ?_;have e0:=ut Kn.zero;simp only[iv]at e0;rw[<- e0];refine JR (lv:=lv) (x:=x) (bk:=bk) (N:=6) (ir:=2) (it:=3) (σ:=Kn.zero) hx hY (λK L=>by rw[ut];rfl) (λK L=>by rw[ut];rfl) lQ (λn=>by simp[im]) Dy hA ?_;rw[hgo];simp only[gg,Tu];refine⟨.ready,none,_,_,_,_,_,_,_,by rw[ut];rfl,by decide,?_⟩;rw[ut,HN];exact hΦ
open Go.Conc Go.Proofs
section
variable {P:Tg}
def N0{Stop:SZ}{d:Nat}{g g':Te}{es:SO}(hr:g.status=.running)(hm:∀e∈es,Xi e=true)(h:∀w,stepG P false g w=.go g' w es)(hs:∃m,cS P Stop m (deafBehind d es) g'):∃m,cS P Stop m d g:=by
 obtain⟨m,hs⟩:=hs;exact⟨m+1,.inr ⟨hr,g',es,hm,h,hs⟩⟩
def H8{main:Bool}{g:Te}{f:UH}{w:Ul}{m:Mark}(hm:∀g,m≠ .extern g)(h:cC g=some (f,#[]))(he:Ext P f (λ_=>do avW m;pure X_)):stepG P main g w=.go (fin g (.tuple #[])) w #[⟨.mark m,false,true⟩]:=by
 obtain⟨o,xs,ma,h1,h2,h3⟩:=cC.out h;obtain⟨b,a,ops,i,rest,kk,cs,e,q1,q2,q3,q4,q5,q6,_⟩:=ready.out h1;obtain⟨fn,f1,f2,f3,f4,f5⟩:=he.fn;rw[<- q4]at h3;rw[<- q5];refine Xd (congrArg (λx=>stepG P main x w) e) ?_;exact stepG_mark0 m hm q1 q2 q3 h2 f1 f2 f3 f4 f5
def adl{main:Bool}{g:Te}{f:UH}{w:Ul}{v:T5}{vs:SG}(h:cC g=some (f,vs))(he:Ext P f (λ_=>pure v)):stepG P main g w=.go (fin g v) w #[]:=by
 obtain⟨o,xs,ma,h1,h2,h3⟩:=cC.out h;obtain⟨b,a,ops,i,rest,kk,cs,e,q1,q2,q3,q4,q5,q6,_⟩:=ready.out h1;obtain⟨fn,f1,f2,f3,f4,f5⟩:=he.fn;rw[<- q5];refine Xd (congrArg (λx=>stepG P main x w) e) ?_;exact stepG_entry_pure v q1 q2 q3 h2 f1 f2 f3 f4 f5
def WgAt.st{Wg:Nat}{w:Ul}{st sm:Int}(h:WgAt P Wg w st sm):w.cell? ⟨Wg,0,none⟩=some (.int .u64 st)/\w.cell? ⟨Wg,1,none⟩=some (.int .u32 sm)/\w.frozen? ⟨Wg,0,none⟩=false/\w.frozen? ⟨Wg,1,none⟩=false:=by
 unfold WgAt wgBlock at h;refine⟨?_,?_,?_,?_⟩<;>simp[Vs,avr,h]
def M_{m:Mark}(hm:m=.disable\/m=.enable):∀e∈(#[⟨.mark m,false,true⟩]:SO),Xi e=true:=by
 intro e he;simp only[UC,Th,Tv,or_false]at he;subst he;rcases hm with rfl|rfl<;>rfl
end
set_option maxRecDepth 100000
def JD:Ext ij 135 (Xb .releaseMerge):=⟨⟨Tryz.f135,by kernel_rfl,by kernel_rfl,by kernel_rfl,by kernel_rfl,by kernel_rfl⟩⟩
def JE:Ext ij 136 (λ_=>do avW .disable;pure X_):=⟨⟨Tryz.f136,by kernel_rfl,by kernel_rfl,by kernel_rfl,by kernel_rfl,by kernel_rfl⟩⟩
def JF:Ext ij 137 (λ_=>do avW .enable;pure X_):=⟨⟨Tryz.f137,by kernel_rfl,by kernel_rfl,by kernel_rfl,by kernel_rfl,by kernel_rfl⟩⟩
def Fz:Ext ij 138 (λ_=>pure (.bool false)):=⟨⟨Tryz.f138,by kernel_rfl,by kernel_rfl,by kernel_rfl,by kernel_rfl,by kernel_rfl⟩⟩
def ahS:Ext ij 143 (Xb .read):=⟨⟨Tryz.f143,by kernel_rfl,by kernel_rfl,by kernel_rfl,by kernel_rfl,by kernel_rfl⟩⟩
def ahT:Ext ij 147 ats:=⟨⟨Tryz.f147,by kernel_rfl,by kernel_rfl,by kernel_rfl,by kernel_rfl,by kernel_rfl⟩⟩
def ahU:Ext ij 148 (Xb .acquire):=⟨⟨Tryz.f148,by kernel_rfl,by kernel_rfl,by kernel_rfl,by kernel_rfl,by kernel_rfl⟩⟩
def ahV:Ext ij 151 (Xb .write):=⟨⟨Tryz.f151,by kernel_rfl,by kernel_rfl,by kernel_rfl,by kernel_rfl,by kernel_rfl⟩⟩
def Qm:Ext ij 152 Yw:=⟨⟨Tryz.f152,by kernel_rfl,by kernel_rfl,by kernel_rfl,by kernel_rfl,by kernel_rfl⟩⟩
def Qn:Ext ij 158 (adE (Op.intArith .add) .u64 true):=⟨⟨Tryz.f158,by kernel_rfl,by kernel_rfl,by kernel_rfl,by kernel_rfl,by kernel_rfl⟩⟩
def JG:Ext ij 159 (ad' (.int .u64)):=⟨⟨Tryz.f159,by kernel_rfl,by kernel_rfl,by kernel_rfl,by kernel_rfl,by kernel_rfl⟩⟩
def ahW:Ext ij 160 ad_:=⟨⟨Tryz.f160,by kernel_rfl,by kernel_rfl,by kernel_rfl,by kernel_rfl,by kernel_rfl⟩⟩
def Qo:Ext ij 161 (Yx (.int .u64)):=⟨⟨Tryz.f161,by kernel_rfl,by kernel_rfl,by kernel_rfl,by kernel_rfl,by kernel_rfl⟩⟩
def ad5:ij.underlying 192=some (.pointer 174):=by kernel_rfl
def Ig:ij.underlying 178=some .unsafePointer:=by kernel_rfl
def i182:(ij.info? 174).map (λi=>decide (i.size=0))=some false:=by kernel_rfl
noncomputable def aqQ:VA:={(default:VA)with fn:=205,defers:=[],mode:=.panicking [goexitEntry]}
noncomputable def aqM (fn:UH)(tmps:SG)(todo:SY):VA:={fn,tmps,todo,defers:=[],mode:=.returning,kind:=.deferred,roundOf:=none}
noncomputable def pW (Wg o:Nat):T5:=.pointer (some ⟨Wg,o,none⟩)
section
variable (Wg:Nat)(tmps:SG)(todo:SY)
noncomputable def d0:Te:=G (Frame.enter ij 121 #[pW Wg 0] .deferred) [aqM 120 tmps todo,aqQ]
noncomputable def d14:Te:=cJ ij false 14 (d0 Wg tmps todo)
noncomputable def d15:Te:=fin (d14 Wg tmps todo) (pW Wg 0)
noncomputable def d16:Te:=fin (d15 Wg tmps todo) (.tuple #[])
noncomputable def d19:Te:=cJ ij false 3 (d16 Wg tmps todo)
noncomputable def d20:Te:=fin (d19 Wg tmps todo) (.tuple #[])
noncomputable def d31:Te:=cJ ij false 11 (d20 Wg tmps todo)
noncomputable def d32:Te:=fin (d31 Wg tmps todo) (.bool false)
noncomputable def d54:Te:=cJ ij false 22 (d32 Wg tmps todo)
noncomputable def d55 (s:Int):Te:=fin (d54 Wg tmps todo) (.int .u64 s)
noncomputable def d158:Te:=cJ ij false 103 (d55 Wg tmps todo 1)
noncomputable def d159:Te:=fin (d158 Wg tmps todo) (.int .u64 1)
noncomputable def d179:Te:=cJ ij false 20 (d159 Wg tmps todo)
noncomputable def d180:Te:=fin (d179 Wg tmps todo) (.tuple #[])
noncomputable def Cb:Te:=cJ ij false 27 (d180 Wg tmps todo)
noncomputable def zt:Te:=fin (Cb Wg tmps todo) (.tuple #[])
set_option maxRecDepth 100000
variable (w:Ul)
def x0:(fM ij false w 14 (d0 Wg tmps todo),oM ij false 14 (d0 Wg tmps todo),bQ (d14 Wg tmps todo),bQ (d15 Wg tmps todo))=(fH ij false w 14 (d0 Wg tmps todo),true,true,true):=by kernel_rfl
def x14:oZ (d14 Wg tmps todo)=some (192,178,pW Wg 0):=by kernel_rfl
def x15:cC (d15 Wg tmps todo)=some (135,#[pW Wg 0]):=by kernel_rfl
def It:(fM ij false w 3 (d16 Wg tmps todo),iU ij false 3 (d16 Wg tmps todo),bQ (d19 Wg tmps todo),jK ij false 3 0 (d16 Wg tmps todo))=(fH ij false w 3 (d16 Wg tmps todo),true,true,0):=by kernel_rfl
def x19:cC (d19 Wg tmps todo)=some (136,#[]):=by kernel_rfl
def Iv:(fM ij false w 11 (d20 Wg tmps todo),iU ij false 11 (d20 Wg tmps todo),bQ (d31 Wg tmps todo),jK ij false 11 1 (d20 Wg tmps todo))=(fH ij false w 11 (d20 Wg tmps todo),true,true,1):=by kernel_rfl
def x31:cC (d31 Wg tmps todo)=some (138,#[]):=by kernel_rfl
def Ix:(fM ij false w 22 (d32 Wg tmps todo),iU ij false 22 (d32 Wg tmps todo),bQ (d54 Wg tmps todo),jK ij false 22 1 (d32 Wg tmps todo))=(fH ij false w 22 (d32 Wg tmps todo),true,true,1):=by kernel_rfl
def x54:cC (d54 Wg tmps todo)=some (158,#[pW Wg 0,.int .u64 18446744069414584320]):=by kernel_rfl
def q30:(fM ij false w 94 (d55 Wg tmps todo (3* 4294967296)),iU ij false 94 (d55 Wg tmps todo (3* 4294967296)),(cJ ij false 94 (d55 Wg tmps todo (3* 4294967296))).status,jK ij false 94 1 (d55 Wg tmps todo (3* 4294967296)))=(fH ij false w 94 (d55 Wg tmps todo (3* 4294967296)),true,.finished,0):=by kernel_rfl
def q31:(fM ij false w 94 (d55 Wg tmps todo (3* 4294967296+1)),iU ij false 94 (d55 Wg tmps todo (3* 4294967296+1)),(cJ ij false 94 (d55 Wg tmps todo (3* 4294967296+1))).status,jK ij false 94 1 (d55 Wg tmps todo (3* 4294967296+1)))=(fH ij false w 94 (d55 Wg tmps todo (3* 4294967296+1)),true,.finished,0):=by kernel_rfl
def q20:(fM ij false w 94 (d55 Wg tmps todo (2* 4294967296)),iU ij false 94 (d55 Wg tmps todo (2* 4294967296)),(cJ ij false 94 (d55 Wg tmps todo (2* 4294967296))).status,jK ij false 94 1 (d55 Wg tmps todo (2* 4294967296)))=(fH ij false w 94 (d55 Wg tmps todo (2* 4294967296)),true,.finished,0):=by kernel_rfl
def q21:(fM ij false w 94 (d55 Wg tmps todo (2* 4294967296+1)),iU ij false 94 (d55 Wg tmps todo (2* 4294967296+1)),(cJ ij false 94 (d55 Wg tmps todo (2* 4294967296+1))).status,jK ij false 94 1 (d55 Wg tmps todo (2* 4294967296+1)))=(fH ij false w 94 (d55 Wg tmps todo (2* 4294967296+1)),true,.finished,0):=by kernel_rfl
def q10:(fM ij false w 94 (d55 Wg tmps todo (1* 4294967296)),iU ij false 94 (d55 Wg tmps todo (1* 4294967296)),(cJ ij false 94 (d55 Wg tmps todo (1* 4294967296))).status,jK ij false 94 1 (d55 Wg tmps todo (1* 4294967296)))=(fH ij false w 94 (d55 Wg tmps todo (1* 4294967296)),true,.finished,0):=by kernel_rfl
def q11:(fM ij false w 94 (d55 Wg tmps todo (1* 4294967296+1)),iU ij false 94 (d55 Wg tmps todo (1* 4294967296+1)),(cJ ij false 94 (d55 Wg tmps todo (1* 4294967296+1))).status,jK ij false 94 1 (d55 Wg tmps todo (1* 4294967296+1)))=(fH ij false w 94 (d55 Wg tmps todo (1* 4294967296+1)),true,.finished,0):=by kernel_rfl
def q00:(fM ij false w 94 (d55 Wg tmps todo 0),iU ij false 94 (d55 Wg tmps todo 0),(cJ ij false 94 (d55 Wg tmps todo 0)).status,jK ij false 94 1 (d55 Wg tmps todo 0))=(fH ij false w 94 (d55 Wg tmps todo 0),true,.finished,0):=by kernel_rfl
def Iy:(fM ij false w 103 (d55 Wg tmps todo 1),iU ij false 103 (d55 Wg tmps todo 1),bQ (d158 Wg tmps todo),jK ij false 103 1 (d55 Wg tmps todo 1))=(fH ij false w 103 (d55 Wg tmps todo 1),true,true,1):=by kernel_rfl
def atM:cC (d158 Wg tmps todo)=some (159,#[pW Wg 0]):=by kernel_rfl
def Is:(fM ij false w 20 (d159 Wg tmps todo),iU ij false 20 (d159 Wg tmps todo),bQ (d179 Wg tmps todo),jK ij false 20 1 (d159 Wg tmps todo))=(fH ij false w 20 (d159 Wg tmps todo),true,true,1):=by kernel_rfl
def atN:cC (d179 Wg tmps todo)=some (160,#[pW Wg 0,.int .u64 0]):=by kernel_rfl
def Iu:(fM ij false w 27 (d180 Wg tmps todo),iU ij false 27 (d180 Wg tmps todo),bQ (Cb Wg tmps todo),jK ij false 27 1 (d180 Wg tmps todo))=(fH ij false w 27 (d180 Wg tmps todo),true,true,1):=by kernel_rfl
def atO:cC (Cb Wg tmps todo)=some (147,#[pW Wg 1,.bool false,.int .i64 0]):=by kernel_rfl
def Iw:(fM ij false w 24 (zt Wg tmps todo),iU ij false 24 (zt Wg tmps todo),(cJ ij false 24 (zt Wg tmps todo)).status,jK ij false 24 1 (zt Wg tmps todo))=(fH ij false w 24 (zt Wg tmps todo),true,.finished,0):=by kernel_rfl
def xm:mayWake ij (Cb Wg tmps todo)=true:=by kernel_rfl
end
section
variable (Wg:Nat)(tmps:SG)(todo:SY)
def dX{α β γ δ:Type}{a a':α}{b b':β}{c c':γ}{d d':δ}(h:(a,b,c,d)=(a',b',c',d')):a=a'/\b=b'/\c=c'/\d=d':=by
 simpa[VQ]using h
def xx{s:Int}(h:∀w,(fM ij false w 94 (d55 Wg tmps todo s),iU ij false 94 (d55 Wg tmps todo s),(cJ ij false 94 (d55 Wg tmps todo s)).status,jK ij false 94 1 (d55 Wg tmps todo s))=(fH ij false w 94 (d55 Wg tmps todo s),true,.finished,0)):∃q,YR ij q 1 (d55 Wg tmps todo s):=
 HR 94 1 _ (λw=>(dX (h w)).1) (dX (h default)).2.1 (NN (dX (h default)).2.2.1 (dX (h default)).2.2.2)
def ahE:EE ij Wg 1 (Cb Wg tmps todo):=by
 refine⟨rfl,bQ.out (dX (Iu Wg tmps todo default)).2.2.1,xm Wg tmps todo,zt Wg tmps todo,λw hw=> ?_,?_⟩
 ·exact arY (n:=0) (atO Wg tmps todo) ahT hw.st.2.1 hw.st.2.2.2
 ·exact HR 24 1 _ (λw=>(dX (Iw Wg tmps todo w)).1) (dX (Iw Wg tmps todo default)).2.1 (NN (dX (Iw Wg tmps todo default)).2.2.1 (dX (Iw Wg tmps todo default)).2.2.2)
def ahF:EF ij Wg 1 (d179 Wg tmps todo):=by
 refine⟨rfl,bQ.out (dX (Is Wg tmps todo default)).2.2.1,d180 Wg tmps todo,λw hw=> ?_,?_⟩
 ·exact ar0 (atN Wg tmps todo) ahW hw.st.1 hw.st.2.2.1
 ·refine wS 27 1 _ (λw=>(dX (Iu Wg tmps todo w)).1) (dX (Iu Wg tmps todo default)).2.1 ?_;rw[(dX (Iu Wg tmps todo default)).2.2.2];exact⟨0,ahE Wg tmps todo⟩
def ahD:ED ij Wg 1 (d158 Wg tmps todo):=by
 refine⟨rfl,bQ.out (dX (Iy Wg tmps todo default)).2.2.1,d159 Wg tmps todo,λw hw=> ?_,?_⟩
 ·exact N4 (atM Wg tmps todo) JG hw.st.1
 ·refine wS 20 1 _ (λw=>(dX (Is Wg tmps todo w)).1) (dX (Is Wg tmps todo default)).2.1 ?_;rw[(dX (Is Wg tmps todo default)).2.2.2];exact⟨0,ahF Wg tmps todo⟩
def ahB:Bt ij Wg 1 (d54 Wg tmps todo):=by
 refine⟨rfl,bQ.out (dX (Ix Wg tmps todo default)).2.2.1,λv wt uP hv=>⟨d55 Wg tmps todo ((v:Int)* KK+wt),λw hw=> ?_,λh=> ?_,λh=> ?_⟩⟩
 ·have e:Ux.wrap ((((v+1:Nat):Int)* KK+wt)+18446744069414584320)=(v:Int)* KK+wt:=by
   have h1:Ux.bits=64:=rfl;have h2:Ux.signed=false:=rfl;unfold Y4 KK;rw[h1,h2];simp;omega
  have:=adk (P:=ij) (main:=false) (w:=w) (x54 Wg tmps todo) Qn hw.st.1 hw.st.2.2.1;rw[e]at this;exact this
 ·obtain⟨rfl,rfl⟩:=h;refine wS 103 1 _ (λw=>(dX (Iy Wg tmps todo w)).1) (dX (Iy Wg tmps todo default)).2.1 ?_;have e:=(dX (Iy Wg tmps todo default)).2.2.2;exact⟨0,by rw[show (((0:Nat):Int)* KK+((1:Nat):Int))=1 from rfl,e];exact ahD Wg tmps todo⟩
 ·have hv4:v=0\/v=1\/v=2\/v=3:=by omega
  have fj:wt=0\/wt=1:=by omega
  rcases hv4 with rfl|rfl|rfl|rfl<;>rcases fj with rfl|rfl
  ·exact xx Wg tmps todo (q00 Wg tmps todo)
  ·exact absurd ⟨rfl,rfl⟩ h
  ·exact xx Wg tmps todo (q10 Wg tmps todo)
  ·exact xx Wg tmps todo (q11 Wg tmps todo)
  ·exact xx Wg tmps todo (q20 Wg tmps todo)
  ·exact xx Wg tmps todo (q21 Wg tmps todo)
  ·exact xx Wg tmps todo (q30 Wg tmps todo)
  ·exact xx Wg tmps todo (q31 Wg tmps todo)
def ahC:EK ij Wg (d15 Wg tmps todo):=by
 refine⟨bQ.out (dX (x0 Wg tmps todo default)).2.2.2,d16 Wg tmps todo,λw=>H9 .releaseMerge (λ_ _ h=>by cases h) (x15 Wg tmps todo) JD,?_⟩;refine wS 3 0 _ (λw=>(dX (It Wg tmps todo w)).1) (dX (It Wg tmps todo default)).2.1 ?_;rw[(dX (It Wg tmps todo default)).2.2.2];refine N0 (g:=d19 Wg tmps todo) (g':=d20 Wg tmps todo) (bQ.out (dX (It Wg tmps todo default)).2.2.1) (M_ (.inl rfl)) (λw=>H8 (λ_ h=>by cases h) (x19 Wg tmps todo) JE) ?_;refine wS 11 1 (d20 Wg tmps todo) (λw=>(dX (Iv Wg tmps todo w)).1) (dX (Iv Wg tmps todo default)).2.1 ?_;rw[(dX (Iv Wg tmps todo default)).2.2.2];refine N0 (es:=#[]) (g:=d31 Wg tmps todo) (g':=d32 Wg tmps todo) (bQ.out (dX (Iv Wg tmps todo default)).2.2.1) (by simp) (λw=>adl (x31 Wg tmps todo) Fz) ?_;refine wS 22 1 (d32 Wg tmps todo) (λw=>(dX (Ix Wg tmps todo w)).1) (dX (Ix Wg tmps todo default)).2.1 ?_;rw[(dX (Ix Wg tmps todo default)).2.2.2];exact⟨0,ahB Wg tmps todo⟩
def ahG{J:SM}(C:yS ij false J){V:View}{c:Nat}(hr:V.role=.work c Wg [])(hd:V.deaf=0):J V (d0 Wg tmps todo):=by
 have C':Closed false ij false J:={C with more:=λh=>by cases h};have hx:=dX (x0 Wg tmps todo default);refine tw C' 14 _ (λw=>(dX (x0 Wg tmps todo w)).1) hx.2.1 ?_;refine C.slip V _ (d15 Wg tmps todo) c Wg hr (bQ.out hx.2.2.1) (λw st hw hW=> ?_) (C.done V _ c Wg hr hd (ahC Wg tmps todo));exact H_ (x14 Wg tmps todo) ad5 Ig i182 hW.st.1
end
section
variable (Wg:Nat)(cs:SX)(main:Bool)
noncomputable def a0:Te:=G (Frame.enter ij 119 #[pW Wg 0,.int .i64 1] .normal) cs
noncomputable def ER:Te:=cJ ij main 12 (a0 Wg cs)
noncomputable def BO:Te:=fin (ER Wg cs main) (.tuple #[])
noncomputable def ES:Te:=cJ ij main 11 (BO Wg cs main)
noncomputable def BR:Te:=fin (ES Wg cs main) (.bool false)
noncomputable def ET:Te:=cJ ij main 22 (BR Wg cs main)
noncomputable def nh (s:Int):Te:=fin (ET Wg cs main) (.int .u64 s)
noncomputable def ng (s:Int):Te:=cJ ij main 87 (nh Wg cs main s)
noncomputable def IW:Te:=cJ ij main 52 (nh Wg cs main 4294967296)
noncomputable def BM:Te:=fin (IW Wg cs main) (pW Wg 1)
noncomputable def BN:Te:=fin (BM Wg cs main) (.tuple #[])
noncomputable def BP:Te:=cJ ij main 39 (BN Wg cs main)
set_option maxRecDepth 100000
variable (w:Ul)
def y0:(fM ij main w 12 (a0 Wg cs),oM ij main 12 (a0 Wg cs),bQ (ER Wg cs main),cC (ER Wg cs main))=(fH ij main w 12 (a0 Wg cs),true,true,some (136,#[])):=by kernel_rfl
def y13:(fM ij main w 11 (BO Wg cs main),oM ij main 11 (BO Wg cs main),bQ (ES Wg cs main),cC (ES Wg cs main))=(fH ij main w 11 (BO Wg cs main),true,true,some (138,#[])):=by kernel_rfl
def y25:(fM ij main w 22 (BR Wg cs main),oM ij main 22 (BR Wg cs main),bQ (ET Wg cs main),cC (ET Wg cs main))=(fH ij main w 22 (BR Wg cs main),true,true,some (158,#[pW Wg 0,.int .u64 4294967296])):=by kernel_rfl
noncomputable def yx (g:Te):awL×Wa×Nat×Yi×List Ye×Bool:=(.go (gC ij main g) w #[⟨.mark .enable,false,true⟩],(gC ij main g).frame.mode,(gC ij main g).frame.fn,(gC ij main g).frame.kind,(gC ij main g).frame.defers,bQ (gC ij main g))
def OE:(fM ij main w 87 (nh Wg cs main (2* 4294967296)),oM ij main 87 (nh Wg cs main (2* 4294967296)),bQ (ng Wg cs main (2* 4294967296)),yx main w (ng Wg cs main (2* 4294967296)))=(fH ij main w 87 (nh Wg cs main (2* 4294967296)),true,true,stepG ij main (ng Wg cs main (2* 4294967296)) w,.returning,119,.normal,[],true):=by kernel_rfl
def OF:(fM ij main w 87 (nh Wg cs main (3* 4294967296)),oM ij main 87 (nh Wg cs main (3* 4294967296)),bQ (ng Wg cs main (3* 4294967296)),yx main w (ng Wg cs main (3* 4294967296)))=(fH ij main w 87 (nh Wg cs main (3* 4294967296)),true,true,stepG ij main (ng Wg cs main (3* 4294967296)) w,.returning,119,.normal,[],true):=by kernel_rfl
def OG:(fM ij main w 87 (nh Wg cs main (4* 4294967296)),oM ij main 87 (nh Wg cs main (4* 4294967296)),bQ (ng Wg cs main (4* 4294967296)),yx main w (ng Wg cs main (4* 4294967296)))=(fH ij main w 87 (nh Wg cs main (4* 4294967296)),true,true,stepG ij main (ng Wg cs main (4* 4294967296)) w,.returning,119,.normal,[],true):=by kernel_rfl
def aem:(fM ij main w 52 (nh Wg cs main 4294967296),oM ij main 52 (nh Wg cs main 4294967296),bQ (IW Wg cs main),oZ (IW Wg cs main))=(fH ij main w 52 (nh Wg cs main 4294967296),true,true,some (198,178,pW Wg 1)):=by kernel_rfl
def atT:cC (BM Wg cs main)=some (143,#[pW Wg 1]):=by kernel_rfl
def OD:(fM ij main w 39 (BN Wg cs main),oM ij main 39 (BN Wg cs main),bQ (BP Wg cs main),yx main w (BP Wg cs main))=(fH ij main w 39 (BN Wg cs main),true,true,stepG ij main (BP Wg cs main) w,.returning,119,.normal,[],true):=by kernel_rfl
def yr1:bQ (BM Wg cs main)=true:=by kernel_rfl
def Ih:∃t,ij.underlying 198=some (.pointer t)/\(ij.info? t).map (λi=>decide (i.size=0))=some false:=⟨172,by kernel_rfl,by kernel_rfl⟩
def aiW:∃fn,ij.funcs[119]?=some fn/\fn.results=#[]:=⟨Tryz.f119,by kernel_rfl,by kernel_rfl⟩
end
section
variable {P:Tg}{V:View}
def ar8{w:Ul}{b o:Nat}{v:T5}{c:SG}{el:TypeId}(hw:Sat V w)(ho:V.own b=some (.cells c el (0,0)))(cG:V.ab b o=none)(La:V.role.chan≠some b):
  da V w (V.upd b (.cells (c.setIfInBounds o v) el (0,0))) (w.setCell ⟨b,o,none⟩ v) #[⟨.cell ⟨b,o,none⟩,false,true⟩,⟨.cell ⟨b,o,none⟩,true,true⟩]:=by
 refine⟨hw.ad9 ho cG,rfl,rfl,rfl,by rw[Eb];exact Tm _,λb' dj e=>wh _ _ _ (λx=> ?_),λb' dj e=> ?_,λ_ _ _ e=>e,λ_ _ _ e=> .inl e,λev cp=> ?_,by simp[deafBehind];rfl,rfl,λc' x bi e=>by rw[<- e];simp only[View.upd,ite_eq_right_iff];intro x';subst x';exact absurd bi La,λev cp=> ?_⟩
 ·have x':b=b':=x;subst x';rw[ho]at e;cases e
 ·have:b'≠b:=by intro x;subst x;rw[ho]at e;cases e
  simp only[View.upd,this,if_false];exact e
 ·simp only[UC,Th,Tv,or_false]at cp;rcases cp with rfl|rfl
  ·exact⟨.inr (.inl (by show V.own b≠none;rw[ho];simp)),.inl rfl⟩
  ·exact⟨.inr ⟨by show V.own b≠none;rw[ho];simp,cG⟩,.inl rfl⟩
 ·simp only[UC,Th,Tv,or_false]at cp;rcases cp with rfl|rfl<;>(show b<_;rw[Eb];exact hw.lt ho)
def Closed.said{lv main:Bool}{J:SM}(C:Closed lv P main J){g g':Te}{a:Wp}(hr:g.status=.running)(ha:V.own a.block≠none/\V.ab a.block a.off=none)(h:∀w,stepG P main g w=.go g' w #[⟨.mark (.read a),false,true⟩])(hJ:J V g'):J V g:=by
 refine C.step _ _ hr λw hw=> ?_;have hs:=arw (P:=P) (V:=V) (k:=(.pure ():Sem Unit)) (K:=λ_ V'=>V'=V) (Kp:=λ_ _=>False) (m:=.read a) (.inl rfl) ha (b8 rfl);obtain⟨es,w',V',k1,k2,k3⟩:=hs.runs hw;rcases k3 with⟨x,k3,rfl⟩|⟨_,_,hx⟩
 ·have e1:ab_ () w=ab_ x w':=k3;have e2:es=#[⟨.mark (.read a),false,true⟩]:=k2.symm;cases e1;subst e2;refine⟨g',w,_,_,h w,?_,hJ⟩;rwa[tC (by simp)]at k1
 ·exact hx.elim
end
section
variable (Wg:Nat)(cs:SX)(main:Bool)
set_option maxRecDepth 100000
def yG2:gC ij main (ng Wg cs main (2* 4294967296))=G (gC ij main (ng Wg cs main (2* 4294967296))).frame cs:=by kernel_rfl
def yG3:gC ij main (ng Wg cs main (3* 4294967296))=G (gC ij main (ng Wg cs main (3* 4294967296))).frame cs:=by kernel_rfl
def yG4:gC ij main (ng Wg cs main (4* 4294967296))=G (gC ij main (ng Wg cs main (4* 4294967296))).frame cs:=by kernel_rfl
def yG1:gC ij main (BP Wg cs main)=G (gC ij main (BP Wg cs main)).frame cs:=by kernel_rfl
end
def kL{α β γ δ:Type}{a a':α}{b b':β}{c c':γ}{d d':δ}(h:(a,b,c,d)=(a',b',c',d')):a=a'/\b=b'/\c=c'/\d=d':=by
 simpa[VQ]using h
section
variable {lv main:Bool}{J:SM}{V:View}{cs:SX}
def EX(C:Closed lv ij main J){g:Te}{U:View}(bK:bQ g=true)(h:∀w,(Go.Gg.yx main w g)=(stepG ij main g w,.returning,119,.normal,[],true))(hG:gC ij main g=G (gC ij main g).frame cs)
  (hU:U={V with deaf:=deafBehind V.deaf #[⟨.mark .enable,false,true⟩]}) (hJ:∀fr,Leaves ij fr 119 .normal (.ret (.tuple #[])) U->J U (G fr cs)):J V g:=by
 refine C.mute (.inr rfl) (bQ.out bK) (λw=> ?_) (g':=gC ij main g) ?_
 ·have:=h w;simp only[Go.Gg.yx,VQ]at this;exact this.1.symm
 ·have:=h default;simp only[Go.Gg.yx,VQ]at this;obtain⟨_,h1,h2,h3,h4,_⟩:=this;rw[hG,<- hU];refine hJ _ ⟨h2,h4,h3,?_⟩;obtain⟨fn,hf,hr⟩:=aiW;exact⟨fn,hf,h1,results_none hr⟩
def afq{n Wg:Nat}{sm:TypeId}(hn:n<4)(hW:V.own Wg=some (.cells #[.int .u64 ((n:Int)* KK),.int .u32 0] sm (0,0)))(hi:∀o,V.ab Wg o=none)(hc:V.role.chan≠some Wg)(hd:V.deaf=0):
  Body lv ij 119 #[pW Wg 0,.int .i64 1] .normal V (λo V'=>o=.ret (.tuple #[])/\V'=V.upd Wg (.cells #[.int .u64 (((n+1:Nat):Int)* KK),.int .u32 0] sm (0,0))):=by
 intro main J C cs hJ;have hA:=kL (y0 Wg cs main default);show J V (a0 Wg cs);refine tw C 12 _ (λw=>(kL (y0 Wg cs main w)).1) hA.2.1 ?_;refine C.mute (g:=ER Wg cs main) (g':=BO Wg cs main) (.inl rfl) (bQ.out hA.2.2.1) (λw=>H8 (λ_ h=>by cases h) hA.2.2.2 JE) ?_;have hB:=kL (y13 Wg cs main default);refine tw C 11 _ (λw=>(kL (y13 Wg cs main w)).1) hB.2.1 ?_;refine C.idle (g:=ES Wg cs main) (g':=BR Wg cs main) (bQ.out hB.2.2.1) (λw=>adl hB.2.2.2 Fz) ?_;have hC:=kL (y25 Wg cs main default);refine tw C 22 _ (λw=>(kL (y25 Wg cs main w)).1) hC.2.1 ?_;let V1:View:={V with deaf:=deafBehind V.deaf #[⟨.mark .disable,false,true⟩]};let V2:View:=V1.upd Wg (.cells #[.int .u64 (((n+1:Nat):Int)* KK),.int .u32 0] sm (0,0));have zP:{V2 with deaf:=deafBehind V2.deaf #[⟨.mark .enable,false,true⟩]}=V.upd Wg (.cells #[.int .u64 (((n+1:Nat):Int)* KK),.int .u32 0] sm (0,0)):=by
  obtain⟨i,o,d,r⟩:=V;have:d=0:=hd;subst this;rfl
 show J V1 (ET Wg cs main);refine C.step _ _ (bQ.out hC.2.2.1) λw hw=> ?_;have hh:=hw.own Wg _ hW;have cN:w.cell? ⟨Wg,0,none⟩=some (.int .u64 ((n:Int)* KK)):=by simp[Vs,hh]
 have GX:w.frozen? ⟨Wg,0,none⟩=false:=by simp[avr,hh]
 have hs:=adk (P:=ij) (main:=main) (w:=w) hC.2.2.2 Qn cN GX;have e:Ux.wrap (((n:Int)* KK)+4294967296)=((n+1:Nat):Int)* KK:=by
  have h1:Ux.bits=64:=rfl;have h2:Ux.signed=false:=rfl;unfold Y4 KK;rw[h1,h2];simp;omega
 rw[e]at hs;refine⟨nh Wg cs main (((n+1:Nat):Int)* KK),_,_,V2,hs,?_,?_⟩
 ·exact ar8 (V:=V1) hw hW (hi 0) hc
 have hn4:n=0\/n=1\/n=2\/n=3:=by omega
 rcases hn4 with rfl|rfl|rfl|rfl
 ·have hD:=kL (aem Wg cs main default);refine tw C 52 _ (λw=>(kL (aem Wg cs main w)).1) hD.2.1 ?_;obtain⟨t,ht1,GG⟩:=Ih;have RI:V2.own Wg=some (.cells #[.int .u64 (((0+1:Nat):Int)* KK),.int .u32 0] sm (0,0)):=by simp[V2,View.upd]
  refine C.step _ _ (bQ.out hD.2.2.1) λw hw=>⟨BM Wg cs main,w,#[],V2,?_,.idle hw,?_⟩
  ·have hh:=hw.own Wg _ RI;exact H_ hD.2.2.2 ht1 Ig GG (v:=.int .u32 0) (by simp[Vs,hh])
  refine C.said (g:=BM Wg cs main) (g':=BN Wg cs main) (a:=⟨Wg,1,none⟩) (bQ.out (yr1 Wg cs main)) ⟨by show V2.own Wg≠none;rw[RI];simp,hi 1⟩ (λw=>H9 .read (λ_ _ h=>by cases h) (atT Wg cs main) ahS) ?_;have hE:=kL (OD Wg cs main default);refine tw C 39 _ (λw=>(kL (OD Wg cs main w)).1) hE.2.1 ?_;exact EX C hE.2.2.1 (λw=>(kL (OD Wg cs main w)).2.2.2) (yG1 Wg cs main) zP.symm λfr hl=>hJ _ _ fr ⟨rfl,rfl⟩ hl
 ·have hE:=kL (OE Wg cs main default);refine tw C 87 _ (λw=>(kL (OE Wg cs main w)).1) hE.2.1 ?_;exact EX C hE.2.2.1 (λw=>(kL (OE Wg cs main w)).2.2.2) (yG2 Wg cs main) zP.symm λfr hl=>hJ _ _ fr ⟨rfl,rfl⟩ hl
 ·have hE:=kL (OF Wg cs main default);refine tw C 87 _ (λw=>(kL (OF Wg cs main w)).1) hE.2.1 ?_;exact EX C hE.2.2.1 (λw=>(kL (OF Wg cs main w)).2.2.2) (yG3 Wg cs main) zP.symm λfr hl=>hJ _ _ fr ⟨rfl,rfl⟩ hl
 ·have hE:=kL (OG Wg cs main default);refine tw C 87 _ (λw=>(kL (OG Wg cs main w)).1) hE.2.1 ?_;exact EX C hE.2.2.1 (λw=>(kL (OG Wg cs main w)).2.2.2) (yG4 Wg cs main) zP.symm λfr hl=>hJ _ _ fr ⟨rfl,rfl⟩ hl
end
section
variable {P:Tg}{main:Bool}{g:Te}{w:Ul}
def uZ (g:Te):Option (TypeId×T5):=match ready g with
 |some {op:=.load t x, .. }=>some (t,g.frame.eval x)
 |_=>none
def arW{t:TypeId}{d:TypeDesc}{ad:Wp}{v:T5}(h:uZ g=some (t,.pointer (some ad)))(ht:P.underlying t=some d)(hd:TypeDesc.agg d=false)(hq:(P.funcs[g.frame.fn]?).any (·.norace)=false)(hc:w.cell? ad=some v):
  stepG P main g w=.go (fin g v) w #[⟨.cell ad,false,false⟩]:=by
 obtain⟨o,x,h1,h2,h3⟩:∃o x,ready g=some o/\o.op=.load t x/\g.frame.eval x=.pointer (some ad):=by
  unfold uZ at h;split at h
  ·rename_i s x _ _ _ _ ho;simp only[Uh,VQ]at h;obtain⟨rfl,h⟩:=h;exact⟨_,x,ho,rfl,h⟩
  ·cases h
 obtain⟨b,a,ops,i,rest,kk,cs,e,q1,q2,q3,q4,q5,q6,_⟩:=ready.out h1;rw[<- q4]at h3;rw[<- q5];refine Xd (congrArg (λx=>stepG P main x w) e) ?_;have e1:execOp a.eval o=(do let v<- XX t (.pointer (some ad));pure (.value v)):=by
  unfold execOp;simp only[h2,h3]
 have e2:(isAgg t:Sem Bool).run P w=.ok false w/\∀es,(isAgg t:Sem Bool).events P w es=es:=by
  unfold isAgg Go.underlying;cases d<;>first
   |(exact(Bool.noConfusion hd))
   |(constructor<;>simp[go_sem,ht])
 have hr:(execOp a.eval o).run P w=.ok (.value v) w:=by
  rw[e1];simp[XX,VT,loadVar,e2.1,hc]
 have cp:(execOp a.eval o).events P w #[]=#[⟨.cell ad,false,false⟩]:=by
  rw[e1];simp[XX,VT,loadVar,e2.1,e2.2,hc]
 rw[stepG_value q1 q2 q3 hr];unfold listed;rw[cp,seen_eq (by rw[q6];exact hq) (by intro e he f;simp only[UC,Th,Tv,or_false]at he;rw[he];simp)]
def xu (g:Te):Option T5:=match ready g with
 |some {op:=.call {callee:=.builtin .close,args, .. }, .. }=>match args.toList with
  |[x]=>some (g.frame.eval x)
  |_=>none
 |_=>none
def arV{c cap s r:Nat}{Fi:SG}{tm:Bool}(h:xu g=some (.chan (some c)))(hq:(P.funcs[g.frame.fn]?).any (·.norace)=false)(hc:w.heap[c]?=some (.chan cap Fi false s r tm)):
  stepG P main g w=.go (fin g (.tuple #[])) {w with heap:=w.heap.setIfInBounds c (.chan cap Fi true s r tm)} #[⟨.obj c,false,true⟩,⟨.obj c,true,true⟩]:=by
 obtain⟨o,x,ma,h1,h2,h3⟩:∃o x ma,ready g=some o/\o.op=.call {callee:=.builtin .close,args:=#[x],argTypes:=ma}/\g.frame.eval x=.chan (some c):=by
  unfold xu at h;split at h
  ·rename_i dst xs ma ty pos af gd ho;split at h
   ·rename_i x hx;have:xs=#[x]:=(by apply Ws;simpa using hx);subst this;exact⟨_,x,_,ho,rfl,by simpa using h⟩
   ·cases h
  ·cases h
 obtain⟨b,a,ops,i,rest,kk,cs,e,q1,q2,q3,q4,q5,q6,_⟩:=ready.out h1;rw[<- q4]at h3;rw[<- q5];refine Xd (congrArg (λx=>stepG P main x w) e) ?_;exact stepG_close q1 q2 q3 h2 h3 hc (by rw[q6];exact hq)
end
section
variable (Wg fc c:Nat)
noncomputable def e0:Te:=born ij ⟨.fn (.func 123) #[pW Wg 0,pW fc 0],#[]⟩
noncomputable def e7:Te:=cJ ij false 7 (e0 Wg fc)
noncomputable def e8:Te:=fin (e7 Wg fc) (.tuple #[])
noncomputable def e27:Te:=cJ ij false 19 (e8 Wg fc)
noncomputable def f76 (h:Te)(v:Int):Te:=cJ ij false 48 (fin h (.int .u64 v))
noncomputable def M4 (b:Te):Te:=cJ ij false 25 (fin b (.bool false))
noncomputable def f96 (b:Te):Te:=cJ ij false 19 (fin b (.bool true))
noncomputable def f97 (b:Te):Te:=fin (f96 b) (pW Wg 1)
noncomputable def f121 (b:Te):Te:=cJ ij false 23 (fin (f97 Wg b) (.tuple #[]))
noncomputable def f138 (b:Te):Te:=cJ ij false 16 (fin (f121 Wg b) (.tuple #[]))
noncomputable def f150 (b:Te):Te:=cJ ij false 11 (fin (f138 Wg b) (.int .u64 0))
noncomputable def f154 (b:Te):Te:=cJ ij false 3 (fin (f150 Wg b) (.tuple #[]))
noncomputable def f155 (b:Te):Te:=fin (f154 Wg b) (pW Wg 0)
noncomputable def f168 (b:Te):Te:=cJ ij false 12 (fin (f155 Wg b) (.tuple #[]))
noncomputable def f169 (b:Te):Te:=fin (f168 Wg b) (.chan (some c))
noncomputable def f170 (b:Te):Te:=fin (f169 Wg c b) (.tuple #[])
noncomputable def yR (h:Te):Te:=cJ ij false 31 (fin h (.int .u64 0))
noncomputable def OH (h:Te):Te:=cJ ij false 3 (fin (yR h) (.tuple #[]))
noncomputable def vt (h:Te):Te:=fin (OH h) (pW Wg 0)
noncomputable def Ew (h:Te):Te:=cJ ij false 22 (fin (vt Wg h) (.tuple #[]))
noncomputable def vu (h:Te):Te:=fin (Ew Wg h) (.chan (some c))
noncomputable def IC (h:Te):Te:=fin (vu Wg c h) (.tuple #[])
noncomputable def hd:SD->Te
 |[]=>e27 Wg fc
 |v::l=>M4 (f76 (hd l) v)
noncomputable def bd (l:SD)(v:Int):Te:=f76 (hd Wg fc l) v
noncomputable def fx (w:Ul)(n d:Nat)(g:Te):List awL×Bool×Bool×Nat:=(fM ij false w n g,iU ij false n g,bQ (cJ ij false n g),jK ij false n d g)
noncomputable def fw (w:Ul)(n d:Nat)(g:Te):List awL×Bool×Bool×Nat:=(fH ij false w n g,true,true,d)
noncomputable def zA (w:Ul)(n:Nat)(g:Te):List awL×Bool×GoStatus×Nat:=(fM ij false w n g,iU ij false n g,(cJ ij false n g).status,jK ij false n 0 g)
noncomputable def zy (w:Ul)(n:Nat)(g:Te):List awL×Bool×GoStatus×Nat:=(fH ij false w n g,true,.finished,0)
noncomputable def qC (g:Te):Bool:= !(ij.funcs[g.frame.fn]?).any (·.norace)
noncomputable def zT (w:Ul)(h:Te):=(cC h,bQ h,fx w 31 1 (fin h (.int .u64 0)),cC (yR h),fx w 3 0 (fin (yR h) (.tuple #[])),oZ (OH h),cC (vt Wg h),bQ (vt Wg h),fx w 22 0 (fin (vt Wg h) (.tuple #[])),uZ (Ew Wg h),qC (Ew Wg h),xu (vu Wg c h),qC (vu Wg c h),bQ (vu Wg c h),mayWake ij (vu Wg c h),zA w 4 (IC Wg c h))
noncomputable def zR (w:Ul)(h:Te):=(some ((159:UH),#[pW Wg 0]),true,fw w 31 1 (fin h (.int .u64 0)),some ((137:UH),(#[]:SG)),fw w 3 0 (fin (yR h) (.tuple #[])),some ((192:TypeId),(178:TypeId),pW Wg 0),some ((148:UH),#[pW Wg 0]),true,fw w 22 0 (fin (vt Wg h) (.tuple #[])),some ((166:TypeId),pW fc 0),true,some (YV (some c)),true,true,true,zy w 4 (IC Wg c h))
noncomputable def fT (w:Ul)(b:Te):=(cC b,bQ b,fx w 25 1 (fin b (.bool false)),fx w 19 1 (fin b (.bool true)),oZ (f96 b),cC (f97 Wg b),bQ (f97 Wg b),fx w 23 1 (fin (f97 Wg b) (.tuple #[])),cC (f121 Wg b),(f121 Wg b).offers,fx w 16 1 (fin (f121 Wg b) (.tuple #[])),cC (f138 Wg b),fx w 11 1 (fin (f138 Wg b) (.int .u64 0)),cC (f150 Wg b),fx w 3 0 (fin (f150 Wg b) (.tuple #[])),oZ (f154 Wg b),cC (f155 Wg b),bQ (f155 Wg b),fx w 12 0 (fin (f155 Wg b) (.tuple #[])),uZ (f168 Wg b),qC (f168 Wg b),xu (f169 Wg c b),qC (f169 Wg c b),bQ (f169 Wg c b),mayWake ij (f169 Wg c b),zA w 4 (f170 Wg c b))
noncomputable def fR (w:Ul)(b:Te)(v:Int):=(some ((161:UH),#[pW Wg 0,.int .u64 v,.int .u64 (v+1)]),true,fw w 25 1 (fin b (.bool false)),fw w 19 1 (fin b (.bool true)),some ((198:TypeId),(178:TypeId),pW Wg 1),some ((151:UH),#[pW Wg 1]),true,fw w 23 1 (fin (f97 Wg b) (.tuple #[])),some ((152:UH),#[pW Wg 1,.bool false]),(none:Option (Array CommCase×CommShape)),fw w 16 1 (fin (f121 Wg b) (.tuple #[])),some ((159:UH),#[pW Wg 0]),fw w 11 1 (fin (f138 Wg b) (.int .u64 0)),some ((137:UH),(#[]:SG)),fw w 3 0 (fin (f150 Wg b) (.tuple #[])),some ((192:TypeId),(178:TypeId),pW Wg 0),some ((148:UH),#[pW Wg 0]),true,fw w 12 0 (fin (f155 Wg b) (.tuple #[])),some ((166:TypeId),pW fc 0),true,some (YV (some c)),true,true,true,zy w 4 (f170 Wg c b))
set_option maxRecDepth 100000
def c0(w:Ul):(fx w 7 0 (e0 Wg fc),cC (e7 Wg fc),fx w 19 1 (e8 Wg fc))=(fw w 7 0 (e0 Wg fc),some ((136:UH),(#[]:SG)),fw w 19 1 (e8 Wg fc)):=by kernel_rfl
noncomputable def pT (w:Ul)(l:SD)(v:Int):=(fx w 48 1 (fin (hd Wg fc l) (.int .u64 v)),fT Wg c w (bd Wg fc l v),zT Wg c w (hd Wg fc (v::l)))
noncomputable def pR (w:Ul)(l:SD)(v:Int):=(fw w 48 1 (fin (hd Wg fc l) (.int .u64 v)),fR Wg fc c w (bd Wg fc l v) v,zR Wg fc c w (hd Wg fc (v::l)))
def zz(w:Ul):zT Wg c w (hd Wg fc [])=zR Wg fc c w (hd Wg fc []):=by kernel_rfl
def NI(w:Ul):pT Wg fc c w [] (4* 4294967296)=pR Wg fc c w [] (4* 4294967296):=by kernel_rfl
def NH(w:Ul):pT Wg fc c w [4* 4294967296] (3* 4294967296)=pR Wg fc c w [4* 4294967296] (3* 4294967296):=by kernel_rfl
def NE(w:Ul):pT Wg fc c w [3* 4294967296,4* 4294967296] (2* 4294967296)=pR Wg fc c w [3* 4294967296,4* 4294967296] (2* 4294967296):=by kernel_rfl
def Nw(w:Ul):pT Wg fc c w [2* 4294967296,3* 4294967296,4* 4294967296] (1* 4294967296)=pR Wg fc c w [2* 4294967296,3* 4294967296,4* 4294967296] (1* 4294967296):=by kernel_rfl
def NA(w:Ul):pT Wg fc c w [3* 4294967296,4* 4294967296] (1* 4294967296)=pR Wg fc c w [3* 4294967296,4* 4294967296] (1* 4294967296):=by kernel_rfl
def NF(w:Ul):pT Wg fc c w [4* 4294967296] (2* 4294967296)=pR Wg fc c w [4* 4294967296] (2* 4294967296):=by kernel_rfl
def Ny(w:Ul):pT Wg fc c w [2* 4294967296,4* 4294967296] (1* 4294967296)=pR Wg fc c w [2* 4294967296,4* 4294967296] (1* 4294967296):=by kernel_rfl
def NB(w:Ul):pT Wg fc c w [4* 4294967296] (1* 4294967296)=pR Wg fc c w [4* 4294967296] (1* 4294967296):=by kernel_rfl
def NG(w:Ul):pT Wg fc c w [] (3* 4294967296)=pR Wg fc c w [] (3* 4294967296):=by kernel_rfl
def ND(w:Ul):pT Wg fc c w [3* 4294967296] (2* 4294967296)=pR Wg fc c w [3* 4294967296] (2* 4294967296):=by kernel_rfl
def Nv(w:Ul):pT Wg fc c w [2* 4294967296,3* 4294967296] (1* 4294967296)=pR Wg fc c w [2* 4294967296,3* 4294967296] (1* 4294967296):=by kernel_rfl
def Nz(w:Ul):pT Wg fc c w [3* 4294967296] (1* 4294967296)=pR Wg fc c w [3* 4294967296] (1* 4294967296):=by kernel_rfl
def NC(w:Ul):pT Wg fc c w [] (2* 4294967296)=pR Wg fc c w [] (2* 4294967296):=by kernel_rfl
def Nu(w:Ul):pT Wg fc c w [2* 4294967296] (1* 4294967296)=pR Wg fc c w [2* 4294967296] (1* 4294967296):=by kernel_rfl
def Nt(w:Ul):pT Wg fc c w [] (1* 4294967296)=pR Wg fc c w [] (1* 4294967296):=by kernel_rfl
end
section
variable {P:Tg}{Wg:Nat}{Stop:SZ}
def Qt{n d d':Nat}{g:Te}(h:∀w,fx w n d g=fw w n d' g):(∀w,fM ij false w n g=fH ij false w n g)/\iU ij false n g=true/\bQ (cJ ij false n g)=true/\jK ij false n d g=d':=
 ⟨λw=>(dX (h w)).1,(dX (h default)).2.1,(dX (h default)).2.2.1,(dX (h default)).2.2.2⟩
def xD{n d d':Nat}{g:Te}(h:∀w,fx w n d g=fw w n d' g)(hs:∃m,cS ij Stop m d' (cJ ij false n g)):∃m,cS ij Stop m d g:=by
 obtain⟨h1,h2,_,h4⟩:=Qt h;exact wS n d g h1 h2 (by rw[h4];exact hs)
def JP{n d d':Nat}{g:Te}(h:∀w,fx w n d g=fw w n d' g)(hs:∃m,gZ ij Wg Stop m d' (cJ ij false n g)):∃m,gZ ij Wg Stop m d g:=by
 obtain⟨h1,h2,_,h4⟩:=Qt h;exact adg n d g h1 h2 (by rw[h4];exact hs)
def aij{n:Nat}{g:Te}(h:∀w,zA w n g=zy w n g):∃q,YR ij q 0 g:=
 HR n 0 g (λw=>(dX (h w)).1) (dX (h default)).2.1 (NN (dX (h default)).2.2.1 (dX (h default)).2.2.2)
def arH{d:Nat}{g g':Te}{es:SO}(hr:g.status=.running)(hm:∀e∈es,Xi e=true)(h:∀w,stepG P false g w=.go g' w es)(hs:∃m,gZ P Wg Stop m (deafBehind d es) g'):∃m,gZ P Wg Stop m d g:=by
 obtain⟨m,fZ⟩:=hs;exact⟨m+1,.inr ⟨hr,g',es,hm,λw _ _ _=>h w,fZ⟩⟩
end
set_option maxRecDepth 100000
def t173:(ij.underlying 166).map TypeDesc.agg=some false:=by kernel_rfl
def NO{g:Te}{o:U8}(h:ready g=some o):bQ g=true:=by
 obtain⟨_,_,_,_,_,_,_,_,_,_,_,_,_,_,hr⟩:=ready.out h;unfold bQ;rw[hr]
def zn{g:Te}{f:UH}{vs:SG}(h:cC g=some (f,vs)):bQ g=true:=by
 obtain⟨_,_,_,h1,_,_⟩:=cC.out h;exact NO h1
def PV{g:Te}{s d:TypeId}{v:T5}(h:oZ g=some (s,d,v)):bQ g=true:=by
 unfold oZ at h;split at h
 ·rename_i ho;exact NO ho
 ·cases h
def anY{g:Te}{t:TypeId}{v:T5}(h:uZ g=some (t,v)):bQ g=true:=by
 unfold uZ at h;split at h
 ·rename_i ho;exact NO ho
 ·cases h
section
variable {Wg fc c:Nat}{Im:cr}
def O2{n:Nat}{g:Te}(hi:Im fc 0=some (.chan (some c)))(h1:cC g=some (148,#[pW Wg 0]))(h3:∀w,fx w n 0 (fin g (.tuple #[]))=fw w n 0 (fin g (.tuple #[])))
  (h4:uZ (cJ ij false n (fin g (.tuple #[])))=some (166,pW fc 0)) (h5:qC (cJ ij false n (fin g (.tuple #[])))=true)
  (h6:xu (fin (cJ ij false n (fin g (.tuple #[]))) (.chan (some c)))=some (.chan (some c))) (h7:qC (fin (cJ ij false n (fin g (.tuple #[]))) (.chan (some c)))=true) (h8:bQ (fin (cJ ij false n (fin g (.tuple #[]))) (.chan (some c)))=true)
  (h9:mayWake ij (fin (cJ ij false n (fin g (.tuple #[]))) (.chan (some c)))=true) (h10:∀w,zA w 4 (fin (fin (cJ ij false n (fin g (.tuple #[]))) (.chan (some c))) (.tuple #[]))=zy w 4 (fin (fin (cJ ij false n (fin g (.tuple #[]))) (.chan (some c))) (.tuple #[]))):tP ij Im c Wg 0 g:=by
 refine⟨rfl,bQ.out (zn h1),_,λw=>H9 .acquire (λ_ _ h=>by cases h) h1 ahU,?_⟩;refine xD h3 ⟨0,rfl,bQ.out (anY h4),fc,0,_,_,hi,λw hc=> ?_,0,rfl,bQ.out h8,h9,_,λw s hw=> ?_,aij h10⟩
 ·obtain⟨d,bA,dL⟩:=Uq.1 t173;exact arW h4 bA dL (by simpa[qC]using h5) hc
 ·exact arV h6 (by simpa[qC]using h7) hw
def aa9{n1 n2:Nat}{g:Te}(h1:∀w,fx w n1 1 g=fw w n1 1 g)(h2:cC (cJ ij false n1 g)=some (137,#[]))(h3:∀w,fx w n2 0 (fin (cJ ij false n1 g) (.tuple #[]))=fw w n2 0 (fin (cJ ij false n1 g) (.tuple #[])))
  (h4:oZ (cJ ij false n2 (fin (cJ ij false n1 g) (.tuple #[])))=some (192,178,pW Wg 0)) (h5:tP ij Im c Wg 0 (fin (cJ ij false n2 (fin (cJ ij false n1 g) (.tuple #[]))) (pW Wg 0))):∃n,gZ ij Wg (tP ij Im c Wg) n 1 g:=by
 refine JP h1 ?_;refine arH (bQ.out (zn h2)) (M_ (.inr rfl)) (λw=>H8 (λ_ h=>by cases h) h2 JF) ?_;refine JP (d:=deafBehind 1 #[⟨.mark .enable,false,true⟩]) h3 ?_;exact adh (bQ.out (PV h4)) (λw x y hW=>H_ h4 ad5 Ig i182 hW.st.1) ⟨0,h5⟩
def atV{h:Te}(hi:Im fc 0=some (.chan (some c)))(H:∀w,zT Wg c w h=zR Wg fc c w h):cC h=some (159,#[pW Wg 0])/\∃n,gZ ij Wg (tP ij Im c Wg) n 1 (fin h (.int .u64 0)):=by
 have key:∀w,cC h=some ((159:UH),#[pW Wg 0])/\bQ h=true/\fx w 31 1 (fin h (.int .u64 0))=fw w 31 1 (fin h (.int .u64 0))/\cC (yR h)=some ((137:UH),(#[]:SG))/\fx w 3 0 (fin (yR h) (.tuple #[]))=fw w 3 0 (fin (yR h) (.tuple #[]))/\oZ (OH h)=some ((192:TypeId),(178:TypeId),pW Wg 0)/\cC (vt Wg h)=some ((148:UH),#[pW Wg 0])/\bQ (vt Wg h)=true/\fx w 22 0 (fin (vt Wg h) (.tuple #[]))=fw w 22 0 (fin (vt Wg h) (.tuple #[]))/\uZ (Ew Wg h)=some ((166:TypeId),pW fc 0)/\qC (Ew Wg h)=true/\xu (vu Wg c h)=some (YV (some c))/\qC (vu Wg c h)=true/\bQ (vu Wg c h)=true/\mayWake ij (vu Wg c h)=true/\zA w 4 (IC Wg c h)=zy w 4 (IC Wg c h):=λw=>by
  have:=H w;unfold zT zR at this;simpa only[VQ]using this
 obtain⟨k1,k2,_,k4,_,k6,k7,k8,_,Dv,MD,AE,ME,Dw,MF,_⟩:=key default;refine⟨k1,aa9 (n1:=31) (n2:=3) (λw=>(key w).2.2.1) k4 (λw=>(key w).2.2.2.2.1) k6 ?_⟩;exact O2 (n:=22) hi k7 (λw=>(key w).2.2.2.2.2.2.2.2.1) Dv MD AE ME Dw MF (λw=>(key w).2.2.2.2.2.2.2.2.2.2.2.2.2.2.2)
def ag4{b:Te}{v:Nat}(hv:0<v)(hi:Im fc 0=some (.chan (some c)))(H:∀w,fT Wg c w b=fR Wg fc c w b ((v:Int)* 4294967296))(hm:∃n,cS ij (eI ij Im c Wg v) n 1 (M4 b)):EA ij c Wg Im v 1 b:=by
 have key:∀w,cC b=some ((161:UH),#[pW Wg 0,.int .u64 ((v:Int)* 4294967296),.int .u64 ((v:Int)* 4294967296+1)])/\bQ b=true/\fx w 25 1 (fin b (.bool false))=fw w 25 1 (fin b (.bool false))/\fx w 19 1 (fin b (.bool true))=fw w 19 1 (fin b (.bool true))/\oZ (f96 b)=some ((198:TypeId),(178:TypeId),pW Wg 1)/\cC (f97 Wg b)=some ((151:UH),#[pW Wg 1])/\bQ (f97 Wg b)=true/\fx w 23 1 (fin (f97 Wg b) (.tuple #[]))=fw w 23 1 (fin (f97 Wg b) (.tuple #[]))/\cC (f121 Wg b)=some ((152:UH),#[pW Wg 1,.bool false])/\(f121 Wg b).offers=none/\fx w 16 1 (fin (f121 Wg b) (.tuple #[]))=fw w 16 1 (fin (f121 Wg b) (.tuple #[]))/\cC (f138 Wg b)=some ((159:UH),#[pW Wg 0])/\fx w 11 1 (fin (f138 Wg b) (.int .u64 0))=fw w 11 1 (fin (f138 Wg b) (.int .u64 0))/\cC (f150 Wg b)=some ((137:UH),(#[]:SG))/\fx w 3 0 (fin (f150 Wg b) (.tuple #[]))=fw w 3 0 (fin (f150 Wg b) (.tuple #[]))/\oZ (f154 Wg b)=some ((192:TypeId),(178:TypeId),pW Wg 0)/\cC (f155 Wg b)=some ((148:UH),#[pW Wg 0])/\bQ (f155 Wg b)=true/\fx w 12 0 (fin (f155 Wg b) (.tuple #[]))=fw w 12 0 (fin (f155 Wg b) (.tuple #[]))/\uZ (f168 Wg b)=some ((166:TypeId),pW fc 0)/\qC (f168 Wg b)=true/\xu (f169 Wg c b)=some (YV (some c))/\qC (f169 Wg c b)=true/\bQ (f169 Wg c b)=true/\mayWake ij (f169 Wg c b)=true/\zA w 4 (f170 Wg c b)=zy w 4 (f170 Wg c b):=λw=>by
  have:=H w;unfold fT fR at this;simpa only[VQ]using this
 obtain⟨k1,k2,_,_,k5,k6,k7,_,k9,Dv,_,AE,_,Dw,_,MG,MH,k18,_,MI,MK,ML,MM,MN,MO,_⟩:=key default;refine⟨rfl,bQ.out k2,⟨_,λw hW=>arT k1 Qo hW.st.1 hW.st.2.2.1,?_⟩,λu hu=>⟨_,λw hW=>arU k1 Qo hW.st.1 hW.st.2.2.1 (λe=> ?_),?_⟩⟩
 ·refine JP (λw=>(key w).2.2.2.1) ?_;have hs:ij.underlying 198=some (.pointer (Ih.choose))/\(ij.info? Ih.choose).map (λi=>decide (i.size=0))=some false:=Ih.choose_spec;refine adh (bQ.out (PV k5)) (λw x y hW=>H_ k5 hs.1 Ig hs.2 hW.st.2.1) ⟨0,rfl,bQ.out k7,_,λw=>H9 .write (λ_ _ h=>by cases h) k6 ahV,?_⟩;refine xD (λw=>(key w).2.2.2.2.2.2.2.1) ⟨0,rfl,bQ.out (zn k9),Dv,λw st hW=> ?_,fin (f121 Wg b) (.tuple #[]),λw hW=> ?_,?_⟩
  ·exact arZ k9 Qm hW.st.2.1
  ·exact arX (n:=1) k9 Qm hW.st.2.1 (by decide) hW.st.2.2.2
  ·refine xD (λw=>(key w).2.2.2.2.2.2.2.2.2.2.1) ⟨0,rfl,bQ.out (zn AE),_,λw hW=>N4 AE JG hW.st.1,?_⟩;refine aa9 (n1:=11) (n2:=3) (λw=>(key w).2.2.2.2.2.2.2.2.2.2.2.2.1) Dw (λw=>(key w).2.2.2.2.2.2.2.2.2.2.2.2.2.2.1) MG ?_;exact O2 (n:=12) hi MH (λw=>(key w).2.2.2.2.2.2.2.2.2.2.2.2.2.2.2.2.2.2.1) MI MK ML MM MN MO (λw=>(key w).2.2.2.2.2.2.2.2.2.2.2.2.2.2.2.2.2.2.2.2.2.2.2.2.2)
 ·unfold KK at e;omega
 ·exact xD (λw=>(key w).2.2.1) hm
def mP(hi:Im fc 0=some (.chan (some c))){h:Te}{k:Nat}(hz:∀w,zT Wg c w h=zR Wg fc c w h)
  (hv:∀v,0<v->v<=k->v<=4->(∀w,fx w 48 1 (fin h (.int .u64 ((v:Int)* 4294967296)))=fw w 48 1 (fin h (.int .u64 ((v:Int)* 4294967296))))/\(∀w,fT Wg c w (f76 h ((v:Int)* 4294967296))=fR Wg fc c w (f76 h ((v:Int)* 4294967296)) ((v:Int)* 4294967296))/\eI ij Im c Wg v 1 (M4 (f76 h ((v:Int)* 4294967296)))):eI ij Im c Wg (k+1) 1 h:=by
 obtain⟨z1,z2⟩:=atV hi hz;rw[eI];refine⟨rfl,bQ.out (zn z1),λv h1 h2=> ?_⟩;refine⟨_,λw hW=>N4 z1 JG hW.st.1,λe=> ?_,λe=> ?_⟩
 ·subst e;exact z2
 ·obtain⟨q1,q2,q3⟩:=hv v (by omega) h1 h2;exact xD q1 ⟨0,ag4 (by omega) hi q2 ⟨0,q3⟩⟩
def dR{l:SD}{v:Int}(h:∀w,pT Wg fc c w l v=pR Wg fc c w l v):(∀w,fx w 48 1 (fin (hd Wg fc l) (.int .u64 v))=fw w 48 1 (fin (hd Wg fc l) (.int .u64 v)))/\(∀w,fT Wg c w (bd Wg fc l v)=fR Wg fc c w (bd Wg fc l v) v)/\(∀w,zT Wg c w (hd Wg fc (v::l))=zR Wg fc c w (hd Wg fc (v::l))):=by
 refine⟨λw=>(XZ (h w)).1,λw=>(XZ (XZ (h w)).2).1,λw=>(XZ (XZ (h w)).2).2⟩
end
section
variable (Wg fc c:Nat){Im:cr}
def al2(hi:Im fc 0=some (.chan (some c))):eI ij Im c Wg 1 1 (hd Wg fc [1* 4294967296]):=by
 refine mP (k:=0) hi (dR (Nt Wg fc c)).2.2 λv h1 h2 h3=> ?_;omega
def al3(hi:Im fc 0=some (.chan (some c))):eI ij Im c Wg 1 1 (hd Wg fc [1* 4294967296,2* 4294967296]):=by
 refine mP (k:=0) hi (dR (Nu Wg fc c)).2.2 λv h1 h2 h3=> ?_;omega
def ama(hi:Im fc 0=some (.chan (some c))):eI ij Im c Wg 2 1 (hd Wg fc [2* 4294967296]):=by
 refine mP (k:=1) hi (dR (NC Wg fc c)).2.2 λv h1 h2 h3=> ?_;rcases(show v=1 by omega)with rfl
 ·exact⟨(dR (Nu Wg fc c)).1,(dR (Nu Wg fc c)).2.1,al3 Wg fc c hi⟩
def al7(hi:Im fc 0=some (.chan (some c))):eI ij Im c Wg 1 1 (hd Wg fc [1* 4294967296,3* 4294967296]):=by
 refine mP (k:=0) hi (dR (Nz Wg fc c)).2.2 λv h1 h2 h3=> ?_;omega
def al4(hi:Im fc 0=some (.chan (some c))):eI ij Im c Wg 1 1 (hd Wg fc [1* 4294967296,2* 4294967296,3* 4294967296]):=by
 refine mP (k:=0) hi (dR (Nv Wg fc c)).2.2 λv h1 h2 h3=> ?_;omega
def amb(hi:Im fc 0=some (.chan (some c))):eI ij Im c Wg 2 1 (hd Wg fc [2* 4294967296,3* 4294967296]):=by
 refine mP (k:=1) hi (dR (ND Wg fc c)).2.2 λv h1 h2 h3=> ?_;rcases(show v=1 by omega)with rfl
 ·exact⟨(dR (Nv Wg fc c)).1,(dR (Nv Wg fc c)).2.1,al4 Wg fc c hi⟩
def ame(hi:Im fc 0=some (.chan (some c))):eI ij Im c Wg 3 1 (hd Wg fc [3* 4294967296]):=by
 refine mP (k:=2) hi (dR (NG Wg fc c)).2.2 λv h1 h2 h3=> ?_;rcases(show v=1\/v=2 by omega)with rfl|rfl
 ·exact⟨(dR (Nz Wg fc c)).1,(dR (Nz Wg fc c)).2.1,al7 Wg fc c hi⟩
 ·exact⟨(dR (ND Wg fc c)).1,(dR (ND Wg fc c)).2.1,amb Wg fc c hi⟩
def al9(hi:Im fc 0=some (.chan (some c))):eI ij Im c Wg 1 1 (hd Wg fc [1* 4294967296,4* 4294967296]):=by
 refine mP (k:=0) hi (dR (NB Wg fc c)).2.2 λv h1 h2 h3=> ?_;omega
def al6(hi:Im fc 0=some (.chan (some c))):eI ij Im c Wg 1 1 (hd Wg fc [1* 4294967296,2* 4294967296,4* 4294967296]):=by
 refine mP (k:=0) hi (dR (Ny Wg fc c)).2.2 λv h1 h2 h3=> ?_;omega
def amd(hi:Im fc 0=some (.chan (some c))):eI ij Im c Wg 2 1 (hd Wg fc [2* 4294967296,4* 4294967296]):=by
 refine mP (k:=1) hi (dR (NF Wg fc c)).2.2 λv h1 h2 h3=> ?_;rcases(show v=1 by omega)with rfl
 ·exact⟨(dR (Ny Wg fc c)).1,(dR (Ny Wg fc c)).2.1,al6 Wg fc c hi⟩
def al8(hi:Im fc 0=some (.chan (some c))):eI ij Im c Wg 1 1 (hd Wg fc [1* 4294967296,3* 4294967296,4* 4294967296]):=by
 refine mP (k:=0) hi (dR (NA Wg fc c)).2.2 λv h1 h2 h3=> ?_;omega
def al5(hi:Im fc 0=some (.chan (some c))):eI ij Im c Wg 1 1 (hd Wg fc [1* 4294967296,2* 4294967296,3* 4294967296,4* 4294967296]):=by
 refine mP (k:=0) hi (dR (Nw Wg fc c)).2.2 λv h1 h2 h3=> ?_;omega
def amc(hi:Im fc 0=some (.chan (some c))):eI ij Im c Wg 2 1 (hd Wg fc [2* 4294967296,3* 4294967296,4* 4294967296]):=by
 refine mP (k:=1) hi (dR (NE Wg fc c)).2.2 λv h1 h2 h3=> ?_;rcases(show v=1 by omega)with rfl
 ·exact⟨(dR (Nw Wg fc c)).1,(dR (Nw Wg fc c)).2.1,al5 Wg fc c hi⟩
def amf(hi:Im fc 0=some (.chan (some c))):eI ij Im c Wg 3 1 (hd Wg fc [3* 4294967296,4* 4294967296]):=by
 refine mP (k:=2) hi (dR (NH Wg fc c)).2.2 λv h1 h2 h3=> ?_;rcases(show v=1\/v=2 by omega)with rfl|rfl
 ·exact⟨(dR (NA Wg fc c)).1,(dR (NA Wg fc c)).2.1,al8 Wg fc c hi⟩
 ·exact⟨(dR (NE Wg fc c)).1,(dR (NE Wg fc c)).2.1,amc Wg fc c hi⟩
def amg(hi:Im fc 0=some (.chan (some c))):eI ij Im c Wg 4 1 (hd Wg fc [4* 4294967296]):=by
 refine mP (k:=3) hi (dR (NI Wg fc c)).2.2 λv h1 h2 h3=> ?_;rcases(show v=1\/v=2\/v=3 by omega)with rfl|rfl|rfl
 ·exact⟨(dR (NB Wg fc c)).1,(dR (NB Wg fc c)).2.1,al9 Wg fc c hi⟩
 ·exact⟨(dR (NF Wg fc c)).1,(dR (NF Wg fc c)).2.1,amd Wg fc c hi⟩
 ·exact⟨(dR (NH Wg fc c)).1,(dR (NH Wg fc c)).2.1,amf Wg fc c hi⟩
def hq_(hi:Im fc 0=some (.chan (some c))):eI ij Im c Wg 5 1 (hd Wg fc []):=by
 refine mP (k:=4) hi (zz Wg fc c) λv h1 h2 h3=> ?_;rcases(show v=1\/v=2\/v=3\/v=4 by omega)with rfl|rfl|rfl|rfl
 ·exact⟨(dR (Nt Wg fc c)).1,(dR (Nt Wg fc c)).2.1,al2 Wg fc c hi⟩
 ·exact⟨(dR (NC Wg fc c)).1,(dR (NC Wg fc c)).2.1,ama Wg fc c hi⟩
 ·exact⟨(dR (NG Wg fc c)).1,(dR (NG Wg fc c)).2.1,ame Wg fc c hi⟩
 ·exact⟨(dR (NI Wg fc c)).1,(dR (NI Wg fc c)).2.1,amg Wg fc c hi⟩
def ahb(hi:Im fc 0=some (.chan (some c))):II ij Im c Wg (born ij ⟨.fn (.func 123) #[pW Wg 0,pW fc 0],#[]⟩):=by
 have h0:∀w,fx w 7 0 (e0 Wg fc)=fw w 7 0 (e0 Wg fc)/\cC (e7 Wg fc)=some ((136:UH),(#[]:SG))/\fx w 19 1 (e8 Wg fc)=fw w 19 1 (e8 Wg fc):=λw=>by
  have:=c0 Wg fc w;simpa only[VQ]using this
 show ∃n,cS ij (eI ij Im c Wg 5) n 0 (e0 Wg fc);refine xD (λw=>(h0 w).1) ?_;refine N0 (bQ.out (zn (h0 default).2.1)) (M_ (.inl rfl)) (λw=>H8 (λ_ h=>by cases h) (h0 default).2.1 JE) ?_;exact xD (d:=deafBehind 0 #[⟨.mark .disable,false,true⟩]) (λw=>(h0 w).2.2) ⟨0,hq_ Wg fc c hi⟩
end
open Go.Gg.Tk
section
variable {lv:Bool}{P:Tg}{r:SL}{nt:Nat}{E:Env}{V:View}{a:Act}{s:AS}{c:UX}{Q:SJ}
def zk(s3:AS)(ak:At E V s a nt)(h:aZ lv P r nt c s (λe s'=>match e with|.normal=>s'.Sub s3|_=>False))(hQ:∀E' V' a',Kept E E' V V' a a'->At E' V' s3 a' nt->Q .normal a' V'):WP lv P r c Q a V:=
 h E V a Q ak λae e E' V' a' s' hk aU he hΦ=>by
  cases ae<;>cases e<;>first
   |exact he.elim
   |exact hΦ.elim
   |exact hQ E' V' a' hk (aU.sub hΦ)
def unwind_mark{lv:Bool}{P:Tg}{main:Bool}{J:SM}(C:Closed lv P main J){V:View}{fr:VA}{cs:SX}{b:Nat}{ds:S4}(h4:fr.defers={target:=.collected b,args:=#[]}::ds)(hm:(fr.mode matches .run)=false)(ho:V.own b=some (.deferred (some [])))(eW:V.role.chan≠some b)(h:J (V.upd b (.deferred none)) (G {fr with defers:=ds} cs)):J V (G fr cs):=by
 refine C.step _ _ rfl λw hw=> ?_;obtain⟨es,w',V',k1,k2,k3⟩:=(NX (P:=P) ho eW).runs hw;rcases k3 with⟨x,k3,rfl,rfl⟩|⟨_,_,hx⟩
 ·refine⟨G {fr with defers:=ds} cs,w',seen P fr.fn es,_,?_,k1.seen P fr.fn,h⟩;have e:stepG P main (G fr cs) w=unwind P main fr cs none w:=by
   obtain⟨fn,tmps,todo,defers,mode,kind,ro⟩:=fr;cases mode with
   |run=>cases hm
   |returning=>simp[G,stepG]
   |panicking ch=>simp[G,stepG]
  rw[e];simp only[unwind,h4];simp[Uw,k3,k2,UT,G]
 ·exact hx.elim
def fN{s s':AS}(h:∀p∈s'.T,∃b,look s.T p.1=some b/\Wk b p.2)(hH:s.H=s'.H):s.Sub s':=⟨λ_ _ e=>h _ (rO e),hH⟩
def ui{E:Env}{x v:T5}(h:ap E (.val x) v):v=x:=by cases h;rfl
def Fs{E:Env}{cs:SG}(h:bL E [] cs):cs=#[]:=Array.size_eq_zero_iff.1 h.1
def Qa{E:Env}{l:S5}{cs:SG}(h:bL E (l.map .val) cs):cs=l.toArray:=by
 have hs:cs.size=l.length:=by simpa using h.1
 refine Array.ext hs λi h1 h2=> ?_;have hi:i<l.length:=by simpa using h2
 have:=ui (h.2 i (.val l[i]) (by simp[Ts hi]));rw[Td,Tf h1]at this;simpa using this
def rM (K:Kn)(b:Nat):List T5:=.bool K.has:: .map (some b)::(K.aB.map (λn:Nat=>S_ .u16 n)++(K.hours.map (λn:Nat=>S_ .u16 n)++(K.less.map (λn:Nat=>S_ .u16 n)++(K.aY.map (λn:Nat=>S_ .u16 n)++K.first.map (S_ .i64)))))
def rL (K:Kn):Obj:=.map (K.aM.zipIdx.map eA).toArray K.aM.length
def ahr{E:Env}{K:Kn}{mp:Nat}{v:T5}(h:ap E (.agg (K.l mp)) v):v=.agg (rM K (E.blk mp)).toArray:=by
 cases h with
 |agg hs h=>
  rename_i cs;congr 1;have hl:(K.l mp).length=(rM K (E.blk mp)).length:=by simp[Kn.l,rM]
  have key:∀(i:Nat)(x:AV),(K.l mp)[i]?=some x->∀y,ap E x y->(rM K (E.blk mp))[i]?=some y:=by
   intro i x hx y hy
   match i with
   |0=>cases hx;rw[ui hy];rfl
   |1=>cases hx;cases hy;rfl
   |i+2=>
    have e:(K.l mp)[i+2]?=((K.aB.map (λn:Nat=>S_ .u16 n)++(K.hours.map (λn:Nat=>S_ .u16 n)++(K.less.map (λn:Nat=>S_ .u16 n)++(K.aY.map (λn:Nat=>S_ .u16 n)++K.first.map (S_ .i64))))).map AV.val)[i]?:=by
     simp[Kn.l,wv,iv,Zv]
    rw[e,Uo]at hx;obtain⟨z,h1,rfl⟩:=Uq.1 hx;rw[ui hy];exact h1
  have nN:cs.size=(rM K (E.blk mp)).length:=hs.trans hl;refine Array.ext nN λi h1 h2=> ?_;have hi:i<(K.l mp).length:=by omega
  have:=key i _ (Ts hi) _ (h i _ (Ts hi));rw[Td,Tf h1]at this;have h3:(rM K (E.blk mp)).toArray[i]?=some cs[i]:=by simpa using this
  rw[Tf h2]at h3;exact(Wq h3).symm
def qF (x:aj)(deep:Int)(bk:Nat):Spec:=λv _ Ow=>∃b,v=.agg (rM (gN x deep bk) b).toArray/\∀b',Ow b'=if b'=b then some (rL (gN x deep bk))else none
set_option maxRecDepth 100000 in
def apI:ij.funcs.size=205:=by kernel_rfl
def Ot{x:aj}{deep:Int}{bk:Nat}(hx:x.Ok)(hA:∀h∈j6 x bk,mD h/\∀ns∈f_ x h,∀a∈(iq x h ns).map (dC h ns),ju x a):bM (gN x deep bk):=by
 unfold gN;refine Kj hx (λt ht=> ?_) Dy;obtain⟨h,h1,h2⟩:=T4.1 ht;obtain⟨ns,h3,h4⟩:=Og h2;exact(hA h h1).2 ns h3 t h4
def atC{J:SM}(C:yS ij false J){E:Env}{V:View}{x:aj}{bk c Wg:Nat}{deep:Int}{rv tv dv fv:T5}(hx:x.Ok)(lQ:bk<=3)(hA:∀h∈j6 x bk,mD h/\∀ns∈f_ x h,∀a∈(iq x h ns).map (dC h ns),ju x a)(ak2:Conc E V [])
  (hr:ap E (.rp x.l) rv) (ht:ap E (.rp [iv bk]) tv) (hd:ap E (.rp [iv deep]) dv) (hf:ap E (.rp [.val (.chan (some c))]) fv) (cg:V.role=.work c Wg [qF x deep bk]) (eX:V.deaf=0):J V (born ij ⟨.fn (.func 120) #[pW Wg 0,rv,tv,dv,fv],#[]⟩):=by
 have C':Closed false ij false J:={C with more:=λh=>by cases h};unfold born;rw[apI];refine ad8 C' (fr:={(default:VA)with fn:=205,defers:=[⟨.fn (.func 120) #[pW Wg 0,rv,tv,dv,fv],#[]⟩],mode:=.panicking [goexitEntry]}) (ds:=[]) rfl rfl (by kernel_rfl) ?_;refine ah5 (Q:=λa' V'=>∃b,a'.defers=[{target:=.collected b,args:=#[]},⟨.fn (.func 121) #[],#[pW Wg 0]⟩]/\V'.own b=some (.deferred (some []))/\V'.role=.work c Wg []/\V'.deaf=0) C' (by simp) F.f120 rfl ?_ ?_
 rotate_left
 ·rintro a' V' todo ⟨b,h1,h0,h2,h3⟩
  refine unwind_mark C' (ds:=[⟨.fn (.func 121) #[],#[pW Wg 0]⟩]) h1 rfl h0 (by rw[h2];simp[nd.chan]) ?_;refine ad8 C' (ds:=[]) rfl rfl (by kernel_rfl) ?_;exact ahG Wg a'.tmps todo C h2 h3
 have cM:bL E [.val (pW Wg 0),.rp x.l,.rp [iv bk],.rp [iv deep],.rp [.val (.chan (some c))]] (#[]++#[pW Wg 0,rv,tv,dv,fv]):=by
  refine⟨rfl,λi a e=> ?_⟩
  match i,e with
  |0,e=>cases e;exact .val _
  |1,e=>cases e;exact hr
  |2,e=>cases e;exact ht
  |3,e=>cases e;exact hd
  |4,e=>cases e;exact hf
 have ak:=B0 (nt:=25) ak2 cM (by simp);simp only[bc,To]at ak;refine wp_seq ?_;refine(Pv (nt:=25) (n:=0) (ds:=[]) (Φ:=λe s' kT=>e=.normal/\s'=⟨[(0,.val (pW Wg 0)),(1,.rp x.l),(2,.rp [iv bk]),(3,.rp [iv deep]),(4,.rp [.val (.chan (some c))])],[]⟩/\kT=[(.fn (.func 121) [] [],[.val (pW Wg 0)])]) rfl rfl rfl rfl rfl rfl (by kernel_rfl) ?_) E V _ _ ak trivial λae e E1 V1 a1 s1 ds1 iD v8 bA CQ h1=> ?_
 ·(try simp only[seval]);exact⟨_,_,_,rfl⟩
 obtain⟨rfl,rfl,rfl⟩:=h1;cases e<;>first
  |exact CQ.elim
  |skip
 have alb:a1.defers=[⟨.fn (.func 121) #[],#[pW Wg 0]⟩]:=by
  match jd:a1.defers,bA with
  |[d],bA=>
   obtain⟨⟨f,first,cT,fa,ca,vs,q1,rfl,q3,q4,q5⟩,_⟩:=bA;cases q1;rw[Fs q3,Fs q4,Qa (l:=[pW Wg 0]) q5];rfl
  |[],bA=>exact bA.elim
  |_::_::_,bA=>exact bA.2.elim
 refine wp_seq ?_;refine zk ⟨[(5,.op 1 0),(0,.val (pW Wg 0)),(1,.rp x.l),(2,.rp [iv bk]),(3,.rp [iv deep]),(4,.rp [.val (.chan (some c))])],[setH [],.cells (Kn.zero.l 0) 85]⟩ v8 ?_ λE2 V2 a2 cH ux=> ?_
 ·refine ai ?_;exact fN (by simp only[seval];simp[bP,Wk.refl]) rfl
 refine wp_seq (wp_seq ?_);refine zk ⟨uV x bk deep c (pW Wg 0),wD x bk Kn.zero⟩ ux ?_ λE3 V3 a3 wq qa=> ?_
 ·refine ah ?_;simp only[seval,TM];refine aK (JZ (x:=x) (n:=bk) ?_);(try simp only[seval]);exact fN (by unfold uV;simp only[seval];simp[bP,Wk.refl];exact Wk.refl _) rfl
 have alc:a3.defers=[⟨.fn (.func 121) #[],#[pW Wg 0]⟩]:=wq.defers.trans (cH.defers.trans alb);have ami:V3.role=.work c Wg [qF x deep bk]:=wq.role.trans (cH.role.trans (iD.role.trans cg));have ak6:V3.deaf=0:=wq.deaf.trans (cH.deaf.trans (iD.deaf.trans eX));refine amU (lv:=false) (bs:=[⟨.fn (.func 121) #[],#[pW Wg 0]⟩]) hx lQ hA (λe s' cI=>e=.normal/\s'=⟨uV x bk deep c (pW Wg 0),wD x bk (gN x deep bk)++[.obj (.deferred (some [])),.gone]⟩/\cI=[4]) ⟨rfl,rfl,rfl⟩ E3 V3 a3 _ qa ⟨by simp[alc],by simp⟩ λae e E4 V4 a4 s4 ms4 rl rh alG he4 hΦ4=> ?_;obtain⟨rfl,rfl,rfl⟩:=hΦ4;cases e<;>first
  |exact he4.elim
  |skip
 have ald:a4.defers=[{target:=.collected (E4.blk 4),args:=#[]},⟨.fn (.func 121) #[],#[pW Wg 0]⟩]:=alG.1;have amj:V4.role=.work c Wg [qF x deep bk]:=rl.role.trans ami;have Sc:V4.deaf=0:=rl.deaf.trans ak6;have xL:bM (gN x deep bk):=Ot hx hA;generalize hW:gN x deep bk=W at rh xL;have FZ:=Kn.len xL 0;refine Iq (K:=λs'=>look s'.T 23=some (.val (.chan (some c)))/\look s'.T 24=some (.agg (W.l 0))/\s'.Sub ⟨uV x bk deep c (pW Wg 0),wD x bk W++[.obj (.deferred (some [])),.gone]⟩) 2 1 rfl (by kernel_rfl) rh ?_ λE5 V5 a5 s5 gz j3 hK=> ?_
 ·unfold uV wD;(try simp only[seval,FZ]);rw[Tn (i:=28) (by omega)];exact⟨rfl,fN (by simp only[seval];simp[bP,Wk.refl]) rfl⟩
 obtain⟨l23,l24,lP⟩:=hK;have F2:=j3.sub lP;have e23:a5.eval (.tmp 23)=.chan (some c):=ui (j3.tok _ _ l23).2;have e24:a5.eval (.tmp 24)=.agg (rM W (E5.blk 0)).toArray:=ahr (j3.tok _ _ l24).2;have h0:V5.own (E5.blk 0)=some (rL W):=(F2.br.obj 0 (setH W.aM) rfl).1;have h4:V5.own (E5.blk 4)=some (.deferred (some [])):=(F2.br.obj 4 (.obj (.deferred (some []))) rfl).1;have aH:E5.blk 4≠E5.blk 0:=λe=>by rw[e,h0]at h4;cases h4
 have hb4:E5.blk 4=E4.blk 4:=gz.le.blk 4 (by rw[rh.br.n];simp[wD]);refine Oz rfl rfl ?_;refine⟨c,Wg,qF x deep bk,[],λb=>decide (b=E5.blk 0),e23,by rw[gz.role];exact amj,gz.deaf.trans Sc,⟨E5.blk 0,by rw[hW];exact e24,λb'=> ?_⟩,?_⟩
 ·rw[hW];by_cases hb:b'=E5.blk 0
  ·subst hb;simp[h0]
  ·simp[hb]
 ·refine⟨trivial,E5.blk 4,?_,?_,rfl,gz.deaf.trans Sc⟩
  ·rw[hb4];exact gz.defers.trans ald
  ·show (if decide (E5.blk 4=E5.blk 0)=true then none else V5.own (E5.blk 4))=_;rw[if_neg (by simpa using aH)];exact h4
def apk(r:SL):AV.parts (.val (.chan r))=some [.val (.chan r)]:=rfl
def atY(r:SL):l7 (.chan r)=[.val (.chan r)]:=rfl
def ann(r:SL):AV.leaf (.val (.chan r))=true:=rfl
def Ov{x y:UX}{t:Nat}{b:Bool}(ak:At E V s a nt)(hl:look s.T t=some (.val (.bool b)))(h:WP lv P r (if b then x else y) Q a V):WP lv P r (.cond (.tmp t) x y) Q a V:=by
 have hd:=(ak.tok t _ hl).2;generalize hx:a.tmps.getD t undef=v at hd;cases hd;exact wp_cond (t:=b) hx h
end
def P8{E:Env}{f:Fn}{first cT:SC}{v:T5}(h:ap E (.fn f first cT) v):∃fa ca,v=.func f fa ca/\bL E first fa/\bL E cT ca:=by
 cases h with
 |fn dA dH h1 h2=>exact⟨_,_,rfl,⟨dA,h1⟩,⟨dH,h2⟩⟩
def Cc{E:Env}{i o:Nat}{v:T5}(h:ap E (.op i o) v):v=.pointer (some ⟨E.blk i,o,none⟩):=by cases h;rfl
def Hj(x:aj)(n:Nat):∀a∈x.l,Lt n a:=by
 intro a ha;simp only[aj.l,Th,Tv,or_false]at ha;rcases ha with rfl|rfl|rfl|rfl|rfl|rfl
 ·exact .val _
 ·exact .val _
 ·exact .val _
 ·rw[abB];trivial
 ·rw[DM];trivial
 ·rw[DM];trivial
def an8(x:aj):Lt 0 (.rp x.l):=by
 rw[yw];exact Hj x 0
set_option maxRecDepth 100000 in
def wgT:Om ij=174:=by kernel_rfl
def ci:UX->UX
 |.block _ c|.loop c|.scope c=>c
 |_=> .skip
noncomputable def uW:UX:=YP.body.getD .skip
noncomputable def mr:UX:=cs (cs (cs uW))
def sF:Obj:=.chan 0 #[] false 0 0 false
def gG:SC:=bv false:: .val (.map none)::(UE 15 (wv 0)++UE 11 (iv 0))
def dn (x:aj)(deep:Int)(c:Nat):SA:=[.part 6 x.l 73,.part 1 [iv deep] 3,.cells gG 85,.part 1 [.val (.chan (some c))] 166,.gone]
structure jr (x:aj)(deep:Int)(Hs:SA)(E:Env)(c Wg:Nat)(rv dv fv:T5)(T:List (Nat×AV))(M:SA)(E':Env)(V':View)(a':Act):Prop where
 ak:At E' V' ⟨T,Hs++(dn x deep c++M)⟩ a' 35
 lo:E.Lo E'
 main:E'.main=false
 defers:a'.defers=[]
 deaf:V'.deaf=0
 er:rv=.pointer (some ⟨E'.blk Hs.length,0,none⟩)
 ed:dv=.pointer (some ⟨E'.blk (Hs.length+1),0,none⟩)
 ef:fv=.pointer (some ⟨E'.blk (Hs.length+3),0,none⟩)
 dr:ap E' (.rp x.l) rv
 dd:ap E' (.rp [iv deep]) dv
 df:ap E' (.rp [.val (.chan (some c))]) fv
 fr:∀b y,E.fr b=some y->E'.fr b=some y/\b≠c/\b≠Wg
 ne:c≠Wg
section
variable {x:aj}{deep:Int}{Hs:SA}{E:Env}{c Wg:Nat}{rv dv fv:T5}{T T':SH}{M M' G:SA}{E1 E2:Env}{V1 V2:View}{a1 a2:Act}
def jr.Ia(h:jr x deep Hs E c Wg rv dv fv T M E1 V1 a1)(le:E1.Le E2)(bt:a2.defers=a1.defers)(eX:V2.deaf=V1.deaf)(ak:At E2 V2 ⟨T',Hs++(dn x deep c++M')⟩ a2 35):jr x deep Hs E c Wg rv dv fv T' M' E2 V2 a2:=by
 have hl:∀i,i<5->Hs.length+i<E1.n:=λi hi=>by rw[h.ak.br.n];simp[dn];omega
 exact⟨ak,h.lo.trans le.lo,le.main.trans h.main,bt.trans h.defers,eX.trans h.deaf,by have:=le.blk _ (hl 0 (by omega));rw[Vl]at this;rw[this];exact h.er,by rw[le.blk _ (hl 1 (by omega))];exact h.ed,by rw[le.blk _ (hl 3 (by omega))];exact h.ef,h.dr.mono le,h.dd.mono le,h.df.mono le,λb y e=>by rw[le.fr];exact h.fr b y e,h.ne⟩
def jr.step(h:jr x deep Hs E c Wg rv dv fv T M E1 V1 a1)(hk:Kept E1 E2 V1 V2 a1 a2)(ak:At E2 V2 ⟨T',Hs++(dn x deep c++M')⟩ a2 35):jr x deep Hs E c Wg rv dv fv T' M' E2 V2 a2:=h.Ia hk.le hk.defers hk.deaf ak
def jr.to(T':SH)(M':SA)(h:jr x deep Hs E c Wg rv dv fv T M E1 V1 a1){cd:UX}{Q:SJ}(hw:aZ true ij none 35 cd ⟨T,Hs++(dn x deep c++M)⟩ (λe s'=>match e with|.normal=>s'.Sub ⟨T',Hs++(dn x deep c++M')⟩|_=>False))
  (hQ:∀E2 V2 a2,Kept E1 E2 V1 V2 a1 a2->jr x deep Hs E c Wg rv dv fv T' M' E2 V2 a2->Q .normal a2 V2):WP true ij none cd Q a1 V1:=
 zk ⟨T',Hs++(dn x deep c++M')⟩ h.ak hw λE2 V2 a2 hk ak=>hQ E2 V2 a2 hk (h.step hk ak)
def jr.cut(h:jr x deep Hs E c Wg rv dv fv T (M++G) E1 V1 a1)(hE:E.n<=Hs.length)(hT:∀p∈T',∃b,look T p.1=some b/\Wk b p.2/\Lt (Hs.length+5+M.length) p.2)(au:bO (Hs++(dn x deep c++M))):jr x deep Hs E c Wg rv dv fv T' M {E1 with n:=Hs.length+5+M.length} V1 a1:=by
 have hlen:(Hs++(dn x deep c++M)).length=Hs.length+5+M.length:=by simp[dn];omega
 have hc:=h.ak.cut (s':=⟨T',Hs++(dn x deep c++M)⟩) ⟨λt a e=>by
  obtain⟨b,h1,h2,h3⟩:=hT _ (rO e);exact⟨b,h1,h2,by rw[hlen];exact h3⟩,⟨G,by simp⟩,au⟩
 simp only[hlen]at hc;exact⟨hc,h.lo.cut (by omega),h.main,h.defers,h.deaf,h.er,h.ed,h.ef,h.dr.trim (by rw[yw];exact Hj x _),h.dd.trim (by simp[yw,dN]),h.df.trim (by simp[yw,dN]),h.fr,h.ne⟩
def aa8(hH:bO Hs)(hM:∀z∈M,eU (Hs.length+5+M.length) z):bO (Hs++(dn x deep c++M)):=by
 intro y hy;have hlen:(Hs++(dn x deep c++M)).length=Hs.length+5+M.length:=by simp[dn];omega
 rw[hlen];rcases Tp.1 hy with h|h
 ·exact(hH y h).mono (by omega)
 ·rcases Tp.1 h with h|h
  ·simp only[dn,Th,Tv,or_false]at h;rcases h with rfl|rfl|rfl|rfl|rfl
   ·exactλa ha=>Hj x _ a ha
   ·intro a ha;simp at ha;subst ha;exact .val _
   ·intro a ha;simp only[gG,Th,Tp,XG]at ha;rcases ha with rfl|rfl|⟨_,rfl⟩|⟨_,rfl⟩<;>exact .val _
   ·intro a ha;simp at ha;subst ha;exact .val _
   ·trivial
  ·exact hM y h
end
def oQ (x:aj)(deep:Int)(i:Nat):List (TH):=(Tt i).map λk=>[qF x deep k]
def N2(x:aj)(deep:Int)(i:Nat):(oQ x deep i).length=i:=by simp[oQ]
def arK(x:aj)(deep:Int)(i:Nat):oQ x deep (i+1)=oQ x deep i++[[qF x deep i]]:=by simp[oQ,Wr]
def xg (x:aj):Prop:=∀bk,bk<=3->∀h∈j6 x bk,mD h/\∀ns∈f_ x h,∀a∈(iq x h ns).map (dC h ns),ju x a
noncomputable def jx (Hs:SA)(Wg:Nat)(n:Int)(i:Nat):List (Nat×AV):=[(16,iv i),(15,iv n),(6,.val (pW Wg 0)),(5,.op (Hs.length+3) 0),(4,.op (Hs.length+2) 0),(3,.op (Hs.length+1) 0),(2,.op Hs.length 0)]
structure vz (x:aj)(deep:Int)(Hs:SA)(E:Env)(c Wg:Nat)(rv dv fv:T5)(i:Nat)(T:List (Nat×AV))(M:SA)(E':Env)(V':View)(a':Act):Prop where
 ok:jr x deep Hs E c Wg rv dv fv T M E' V' a'
 role:V'.role=.fork c Wg (oQ x deep i)
 FL:E'.fr c=some sF
 Cj:E'.fr Wg=some (wgBlock ij ((i:Int)* 4294967296) 0)
section
variable {x:aj}{deep n:Int}{Hs:SA}{E:Env}{c Wg i:Nat}{rv dv fv:T5}{T T':SH}{M M':SA}{E1 E2:Env}{V1 V2:View}{a1 a2:Act}
def vz.step(h:vz x deep Hs E c Wg rv dv fv i T M E1 V1 a1)(hk:Kept E1 E2 V1 V2 a1 a2)(hc:jr x deep Hs E c Wg rv dv fv T' M' E2 V2 a2):vz x deep Hs E c Wg rv dv fv i T' M' E2 V2 a2:=
 ⟨hc,hk.role.trans h.role,by rw[hk.le.fr];exact h.FL,by rw[hk.le.fr];exact h.Cj⟩
def am9(hx:x.Ok)(hA:xg x)(zO:E.n<=Hs.length)(au:bO (Hs++(dn x deep c++[])))(h:vz x deep Hs E c Wg rv dv fv i (jx Hs Wg n i) [] E1 V1 a1)(hi:i<=3){cd:UX}{Q:SJ}(hcd:cd=cs (cs (ci (ci (cs (cf mr))))))
  (hQ:∀E2 V2 a2,vz x deep Hs E c Wg rv dv fv (i+1) (jx Hs Wg n (i+1)) [] E2 V2 a2->Q .normal a2 V2):WP true ij none cd Q a1 V1:=by
 subst hcd;refine wp_seq (wp_block (wp_seq ?_));refine h.ok.to ((7,.op (Hs.length+5) 0)::jx Hs Wg n i) [.cells [iv i] 3] ?_ λE2 V2 a2 cH cx=> ?_
 ·unfold jx dn;refine ai ?_;exact fN (by simp only[seval];simp[bP,Wk.refl]) rfl
 have h2:=h.step cH cx;obtain⟨V3,g3,o3,r3,d3,Hb,Jm,P3⟩:=cx.ak.br.HP (id:=Hs.length+5) (by rw[aS];rfl) 1 (by simp);rw[dg]at Jm;have Lu:Kept E2 {E2 with I:=V3.ab} V2 V3 a2 a2:=⟨Hb,rfl,rfl,r3,d3⟩;have du:=cx.step (T':=(7,.op (Hs.length+5) 0)::jx Hs Wg n i) (M':=[.part 1 [iv i] 3]) Lu ⟨Jm,cx.ak.tok.mono Hb,cx.ak.size⟩;have h3:=h2.step Lu du;refine WP.ghost g3 ?_;generalize{E2 with I:=V3.ab}=E3 at Hb Jm P3 Lu du h3;have e6:a2.eval (.tmp 6)=pW Wg 0:=ui (du.ak.tok 6 (.val (pW Wg 0)) rfl).2;obtain⟨w1,w2,w3⟩:=du.ak.br.fr Wg _ h3.Cj;have hrc:V3.role.chan≠some Wg:=by rw[h3.role];intro e;cases e;exact du.ne rfl
 refine wp_seq (aei rfl rfl (ao3 rfl rfl (by kernel_rfl) ?_));have cM:(#[awx 6,awI (.int .i64 1)]:Array Ui).map a2.eval=#[pW Wg 0,.int .i64 1]:=by
  simp only[List.map_toArray,VI,aj',e6];rfl
 rw[cM];refine(afq (n:=i) (sm:=Om ij) (by omega) w1 w2 hrc du.deaf).mono λo V4 hV=> ?_;obtain⟨rfl,rfl⟩:=hV;dsimp only;refine atG ?_;let wZ:Obj:=wgBlock ij (((i+1:Nat):Int)* 4294967296) 0;show WP true ij none _ _ (a2.put (some 19) (.tuple #[])) (V3.upd Wg wZ);have sG:=du.ak.br.akd h3.Cj wZ;let f4:Nat->Option Obj:=λb'=>if b'=Wg then some wZ else E3.fr b';have jN:jr x deep Hs E c Wg rv dv fv ((7,.op (Hs.length+5) 0)::jx Hs Wg n i) [.part 1 [iv i] 3] (E3.frame f4) (V3.upd Wg wZ) (a2.put (some 19) (.tuple #[])):=by
  refine⟨⟨sG,λt av e=> ?_,(dY a2 (some 19) _).trans du.ak.size⟩,du.lo.trans (Env.Hg E3 f4),du.main,(put_defers a2 _ _).trans du.defers,du.deaf,du.er,du.ed,du.ef,du.dr.frame f4,du.dd.frame f4,du.df.frame f4,λb y e=> ?_,du.ne⟩
  ·have aH:t≠19:=by
    intro et;subst et;simp[jx,look]at e
   have:=((du.ak.tok.frame f4).put (d:=19) (a:=.aF []) (v:=.tuple #[]) (by rw[du.ak.size];omega) (.aF rfl (by simp))) t av (by simp only[look];rw[if_neg (Ne.symm aH)];exact e);exact this
  ·obtain⟨q1,q2,q3⟩:=du.fr b y e;exact⟨by show (if b=Wg then _ else _)=_;rw[if_neg q3];exact q1,q2,q3⟩
 have Qe:ap (E3.frame f4) (.rp [iv i]) (.pointer (some ⟨(E3.frame f4).blk (Hs.length+5),0,none⟩)):=by
  have hl:Hs.length+5<E2.n:=by rw[cx.ak.br.n];simp[dn]
  have e:(E3.frame f4).blk (Hs.length+5)=E2.blk (Hs.length+5):=Hb.blk _ hl;rw[e];exact P3.frame f4
 have HV:(V3.upd Wg wZ).role=.fork c Wg (oQ x deep i):=h3.role;have Rg:(E3.frame f4).fr c=some sF:=by
  show (if c=Wg then _ else _)=_;rw[if_neg du.ne];exact h3.FL
 have Rh:(E3.frame f4).fr Wg=some wZ:=by
  show (if Wg=Wg then _ else _)=_;rw[if_pos rfl]
 generalize E3.frame f4=E4 at jN Qe Rg Rh;generalize V3.upd Wg wZ=V4 at jN HV;generalize a2.put (some 19) (.tuple #[])=a4 at jN;clear sG;refine Iq (K:=λs'=>look s'.T 20=some (.fn (.func 120) [] [.val (pW Wg 0),.op Hs.length 0,.op (Hs.length+5) 0,.op (Hs.length+1) 0,.op (Hs.length+3) 0])/\s'.Sub ⟨jx Hs Wg n i,Hs++(dn x deep c++[.part 1 [iv i] 3])⟩) 1 1 rfl (by kernel_rfl) jN.ak ?_ λE5 V5 a5 s5 gz j3 hK=> ?_
 ·unfold jx dn;(try simp only[seval,UY,Vt,U7,UL]);exact fN (by simp only[seval];simp[bP,Wk.refl]) rfl
 obtain⟨l20,lP⟩:=hK;have F2:=j3.sub lP;have cE:=jN.step gz F2;have D5:V5.role=.fork c Wg (oQ x deep i):=gz.role.trans HV;have vY:E5.fr c=some sF:=by rw[gz.le.fr];exact Rg
 have Ck:E5.fr Wg=some wZ:=by rw[gz.le.fr];exact Rh
 have dk5:=Qe.mono gz.le;have qh:Hs.length+5<E4.n:=by rw[jN.ak.br.n];simp[dn]
 refine Oz rfl rfl ?_;obtain⟨c1,c2,c3⟩:=cE.ak.br.fr c _ vY;obtain⟨v1,v2,v3⟩:=cE.ak.br.fr Wg _ Ck;have e20:a5.eval (.tmp 20)=.func (.func 120) #[] #[pW Wg 0,rv,.pointer (some ⟨E5.blk (Hs.length+5),0,none⟩),dv,fv]:=by
  obtain⟨fa,ca,q1,q2,q3⟩:=P8 (j3.tok 20 _ l20).2;rw[Fs q2]at q1;refine q1.trans ?_;have Au:ca.size=5:=q3.1;have k0:=ui (q3.2 0 _ rfl);have k1:=Cc (q3.2 1 _ rfl);have k2:=Cc (q3.2 2 _ rfl);have k3:=Cc (q3.2 3 _ rfl);have k4:=Cc (q3.2 4 _ rfl);rw[<- cE.er]at k1;rw[<- cE.ed]at k3;rw[<- cE.ef]at k4;congr 1;refine Array.ext Au λj h1 h2=> ?_;have hj:j=0\/j=1\/j=2\/j=3\/j=4:=by omega
  rw[Td,Tf (by omega)]at k0 k1 k2 k3 k4;rcases hj with rfl|rfl|rfl|rfl|rfl
  ·exact k0
  ·exact k1
  ·exact k2
  ·exact k3
  ·exact k4
 refine⟨rfl,.tmp 20,120,#[],_,rfl,e20,cE.deaf,.inl ⟨c,Wg,oQ x deep i,qF x deep i,[],D5,c1,?_,?_,v2,λJ0 C=> ?_,?_⟩⟩
 ·rw[v1,N2]
 ·rw[N2];omega
 ·have hb:E5.blk (Hs.length+5)=E4.blk (Hs.length+5):=gz.le.blk _ qh;rw[hb];have:=atC (J:=J0) (V:={ab:=V5.ab,own:=λ_=>none,deaf:=0,role:=.work c Wg [qF x deep i]}) C hx hi (hA i hi) (ahf cE.ak.br.I rfl rfl) (cE.dr.bare (an8 x)) (dk5.bare (by simp[yw,dN])) (cE.dd.bare (by simp[yw,dN])) (cE.df.bare (by simp[yw,dN])) rfl rfl;simpa using this
 let V6:View:={V5 with role:=.fork c Wg (oQ x deep i++[[qF x deep i]])};have Jn:Conc (E5.frame E5.fr) V6 (Hs++(dn x deep c++[.part 1 [iv i] 3])):=by
  refine cE.ak.br.yF (V':=V6) _ rfl (λ_ _ _ _ _ _ h=>h) (λg hg=> ?_) (λg hg=> ?_) (λhm=>by rw[cE.main]at hm;cases hm) cE.ak.br.fr
  ·cases hg;exact⟨by show V5.own Wg≠none;rw[v1];simp,v2,v3⟩
  ·cases hg;exact⟨by show V5.own c≠none;rw[c1];simp,c2,c3⟩
 have oz:jr x deep Hs E c Wg rv dv fv (jx Hs Wg n i) [.part 1 [iv i] 3] E5 V6 (a5.put none undef):=⟨⟨Jn,cE.ak.tok,cE.ak.size⟩,cE.lo,cE.main,cE.defers,cE.deaf,cE.er,cE.ed,cE.ef,cE.dr,cE.dd,cE.df,cE.fr,cE.ne⟩;show WP true ij none _ _ (a5.put none undef) V6;refine oz.to (jx Hs Wg n (i+1)) [.part 1 [iv i] 3] ?_ λE7 V7 a7 oC CJ=> ?_
 ·unfold jx dn;have hw:Tc.wrap ((i:Int)+1)=(i:Int)+1:=bF _ (by omega);refine ah ?_;simp only[seval,hw];exact fN (by simp only[seval];simp[bP,Wk.refl]) rfl
 have eQ:=jr.cut (M:=[]) (T':=jx Hs Wg n (i+1)) CJ zO (by
  unfold jx;simp only[Yl,Tv,false_imp_iff,implies_true,and_true,look,an',if_false,if_true,Uh,exists_eq_left',Wk.refl,true_and,dN,abw,VR];omega) au
 refine hQ _ V7 a7 ⟨eQ,?_,?_,?_⟩
 ·rw[oC.role,arK]
 ·show E7.fr c=_;rw[oC.le.fr];exact vY
 ·show E7.fr Wg=_;rw[oC.le.fr];exact Ck
end
namespace Tk
def acu{hs:SS}{h:SD}(hn:hs.Nodup):(jD hs h).Nodup:=by
 unfold jD;split
 ·exact hn
 ·rename_i hm;rw[V_];exact⟨hn,by simp,λa ha b hb=>by rw[T7.1 hb];exactλe=>hm (e▸ha)⟩
def asD{x:aj}{deep:Int}{Q:Kn}{t:SD}(hn:Q.aM.Nodup):(ew x deep Q t).aM.Nodup:=by
 have hB:(jJ Q t).aM.Nodup:=by unfold jJ;split<;>exact hn
 unfold ew;dsimp only;generalize jJ Q t=R at hB;split
 ·exact hB
 ·split
  ·exact acu hB
  ·exact hB
def atA{x:aj}{deep:Int}{bk:Nat}:(gN x deep bk).aM.Nodup:=by
 unfold gN;have key:∀(ts:SS)(Q:Kn),Q.aM.Nodup->(ts.foldl (ew x deep) Q).aM.Nodup:=by
  intro ts;induction ts with
  |nil=>exactλQ h=>h
  |cons t ts ih=>exactλQ h=>ih _ (asD h)
 exact key _ _ XL
def Q5:∀{l hs:SS},(∀y∈hs,y.length=4)->(∀y∈l,y.length=4)->∀y∈l.foldl jD hs,y.length=4
 |[],hs,h1,_=>h1
 |a::l,hs,h1,h2=>by rw[VS];exact Q5 (acr h1 (h2 a (by simp))) (λy hy=>h2 y (by simp[hy]))
def HC{l m:SE}(h:l.length=m.length):(ly l m).length=l.length:=by simp[ly,h]
def HD{l m:SE}(h1:∀n∈l,n<65536)(h2:∀n∈m,n<65536):∀n∈ly l m,n<65536:=λn hn=>by
 unfold ly at hn;rw[VF]at hn;obtain⟨i,hi⟩:=hn;rw[List.getElem?_zipWith]at hi;cases ha:l[i]?with
 |none=>rw[ha]at hi;cases hi
 |some a=>
  cases hb:m[i]?with
  |none=>rw[ha,hb]at hi;cases hi
  |some b=>
   rw[ha,hb]at hi;cases hi;exact pF (h1 _ (Uf ha)) (h2 _ (Uf hb))
def aaZ{F G:Kn}{hs:SS}(hF:bM F)(hG:bM G)(hp:hs.Perm G.aM):bM (gB F hs G):=by
 unfold gB;split
 ·refine⟨(HC (by rw[hF.aB,hG.aB])).trans hF.aB,(HC (by rw[hF.hours,hG.hours])).trans hF.hours,(HC (by rw[hF.less,hG.less])).trans hF.less,(HC (by rw[hF.aY,hG.aY])).trans hF.aY,?_,HD hF.mv hG.mv,HD hF.mL hG.mL,HD hF.lT hG.lT,HD hF.lW hG.lW,Q5 hF.h4 λy hy=>hG.h4 y (hp.mem_iff.1 hy)⟩;split
  ·exact hG.first
  ·exact hF.first
 ·exact hF
inductive n4 (x:aj)(deep:Int):List Nat->Kn->Prop where
 |nil:n4 x deep [] Kn.zero
 |snoc {js:List Nat} {F:Kn} {j:Nat} {hs:List (List Int)} (h:n4 x deep js F) (hp:hs.Perm (gN x deep j).aM):n4 x deep (js++[j]) (gB F hs (gN x deep j))
end Tk
def xg.work{x:aj}{deep:Int}{j:Nat}(hA:xg x)(hx:x.Ok)(hj:j<=3):bM (gN x deep j):=Ot hx (hA j hj)
def m9 (x:aj)(deep:Int)(n:Nat)(js:SE):List (TH):=(Tt n).map λk=>if k∈js then[]else[qF x deep k]
def arN(x:aj)(deep:Int)(n:Nat):m9 x deep n []=oQ x deep n:=by simp[m9,oQ]
def arM{x:aj}{deep:Int}{n j:Nat}{js:SE}{sp:Spec}{S:TH}(h:(m9 x deep n js)[j]?=some (sp::S)):j<n/\j∉js/\sp=qF x deep j/\S=[]:=by
 unfold m9 at h;rw[Uo]at h;obtain⟨k,h1,h2⟩:=Uq.1 h;have hk:j<n/\k=j:=by
  have:=Tj.1 h1;obtain⟨h3,h4⟩:=this;simp at h3 h4;exact⟨h3,h4.symm⟩
 obtain⟨h3,rfl⟩:=hk;split at h2
 ·cases h2
 ·rename_i hm;cases h2;exact⟨h3,hm,rfl,rfl⟩
def arO{x:aj}{deep:Int}{n j:Nat}{js:SE}:(m9 x deep n js).set j []=m9 x deep n (js++[j]):=by
 apply X2;intro k;unfold m9;rw[VP,Uo,Uo,Un,List.length_range];by_cases hk:k<n
 ·rw[au' hk];by_cases hj:j=k
  ·subst hj;rw[if_pos rfl,if_pos hk];simp
  ·rw[if_neg hj];have e:(k∈js++[j])<->k∈js:=by
    rw[Tp,T7];exact⟨λh=>h.elim id λe=>absurd e.symm hj,.inl⟩
   simp only[VL,e]
 ·have e:(Tt n)[k]?=none:=Vx (by simp;omega);rw[e];by_cases hj:j=k
  ·subst hj;rw[if_pos rfl,if_neg hk];rfl
  ·rw[if_neg hj];rfl
def arL{x:aj}{deep:Int}{n:Nat}{js:SE}(h:∀S∈m9 x deep n js,S=[]):∀k,k<n->k∈js:=λk hk=>by
 apply Uj;intro hn;have:=h [qF x deep k] (Um.2 ⟨k,by simpa using hk,by rw[if_neg hn]⟩);cases this
def am7{E:Env}{K:Kn}{mp b:Nat}(hb:E.blk mp=b)(hm:mp<E.n):ap E (.agg (K.l mp)) (.agg (rM K b).toArray):=by
 subst hb;refine .agg (by simp[Kn.l,rM]) λi a e=> ?_
 match i with
 |0=>cases e;exact .val _
 |1=>cases e;exact .mp hm
 |i+2=>
  have e':(K.l mp)[i+2]?=((K.aB.map (λn:Nat=>S_ .u16 n)++(K.hours.map (λn:Nat=>S_ .u16 n)++(K.less.map (λn:Nat=>S_ .u16 n)++(K.aY.map (λn:Nat=>S_ .u16 n)++K.first.map (S_ .i64))))).map AV.val)[i]?:=by
   simp[Kn.l,wv,iv,Zv]
  rw[e',Uo]at e;obtain⟨z,h1,rfl⟩:=Uq.1 e;have h2:(rM K (E.blk mp))[i+2]?=some z:=h1;rw[Td,We,h2];exact .val _
def tz(K:Kn)(mp:Nat):∀a∈K.l mp,a.leaf=true:=λa ha=>by
 simp only[Kn.l,Th,Tp,Um]at ha;rcases ha with rfl|rfl|⟨_,_,rfl⟩|⟨_,_,rfl⟩|⟨_,_,rfl⟩|⟨_,_,rfl⟩|⟨_,_,rfl⟩<;>rfl
def agf{lv:Bool}{P:Tg}{r:SL}{nt:Nat}{E:Env}{V:View}{a:Act}{s:AS}{c:UX}{Q:SJ}{α:Type}(p:α->Prop)(S3:α->AS)(ak:At E V s a nt)(h:aZ lv P r nt c s (λe s'=>match e with|.normal=>∃q,p q/\s'.Sub (S3 q)|_=>False))(hQ:∀q E' V' a',p q->Kept E E' V V' a a'->At E' V' (S3 q) a' nt->Q .normal a' V'):WP lv P r c Q a V:=
 h E V a Q ak λae e E' V' a' s' hk aU he hΦ=>by
  cases ae<;>cases e<;>first
   |exact he.elim
   |exact hΦ.elim
   |(obtain⟨q,h1,h2⟩:=hΦ
     exact hQ q E' V' a' h1 hk (aU.sub h2))
def aht{E:Env}(l:S5):ap E (.agg (l.map .val)) (.agg l.toArray):=by
 refine .agg (by simp) λi a e=> ?_;rw[Uo]at e;obtain⟨z,h1,rfl⟩:=Uq.1 e;rw[Td,We,h1];exact .val _
def OJ:List T5:=.bool false:: .map none::(UE 15 (.int .u16 0)++UE 11 (.int .i64 0))
def ik (Hs:SA)(F:Kn):SA:=[setH F.aM,.cells (F.l (Hs.length+5)) 85]
noncomputable def jn (Hs:SA):List (Nat×AV):=[(8,.op (Hs.length+6) 0),(5,.op (Hs.length+3) 0),(4,.op (Hs.length+2) 0)]
structure EM (x:aj)(deep:Int)(n:Nat)(Hs:SA)(E:Env)(c Wg:Nat)(rv dv fv:T5)(js:SE)(F:Kn)(T:List (Nat×AV))(G:SA)(E':Env)(V':View)(a':Act):Prop where
 ok:jr x deep Hs E c Wg rv dv fv T (ik Hs F++G) E' V' a'
 role:V'.role=.recv c Wg (m9 x deep n js)
 aa0:n4 x deep js F
 kn:bM F
 nodup:js.Nodup
 lt:∀j∈js,j<n
noncomputable def aa7:UX:=ci (ci (cs (cs (cs mr))))
def am8{x:aj}{deep:Int}{Hs:SA}{c:Nat}{F:Kn}(hH:bO Hs):bO (Hs++(dn x deep c++ik Hs F)):=by
 refine aa8 hH λz hz=> ?_;simp only[ik,Th,Tv,or_false]at hz;rcases hz with rfl|rfl
 ·trivial
 ·exact yp (by simp[ik])
def aof{V:View}{Im:cr}{b:Nat}{K:Kn}{w:Ul}(hS:Sat V w)(hI:∀b o x,Im b o=some x->w.cell? ⟨b,o,none⟩=some x)(hb:w.heap[b]?=some (rL K)):∀o,V.ab b o=none/\Im b o=none:=λo=>by
 have hc:w.cell? ⟨b,o,none⟩=none:=by simp[Vs,hb,rL]
 constructor
 ·cases h:V.ab b o with
  |none=>rfl
  |some v=>have:=hS.ab b o v h;rw[hc]at this;cases this
 ·cases h:Im b o with
  |none=>rfl
  |some v=>have:=hI b o v h;rw[hc]at this;cases this
section
variable {x:aj}{deep:Int}{n:Nat}{Hs:SA}{E:Env}{c Wg:Nat}{js:SE}{D:Kn}{rv dv fv:T5}{T T':SH}{G G':SA}{E1 E2:Env}{V1 V2:View}{a1 a2:Act}
def ana(hx:x.Ok)(hA:xg x)(hn4:n<=4)(zO:E.n<=Hs.length)(bX:bO Hs)(h:EM x deep n Hs E c Wg rv dv fv js D (jn Hs) [] E1 V1 a1){Q:SJ}
  (hQ:∀j D' E2 V2 a2,j∉js->EM x deep n Hs E c Wg rv dv fv (js++[j]) D' (jn Hs) [] E2 V2 a2->Q .normal a2 V2)
  (FY:∀E2 V2 a2 G,At E2 V2 ⟨[(4,.op (Hs.length+2) 0)],Hs++([.part 6 x.l 73,.part 1 [iv deep] 3,.cells (D.l (Hs.length+5)) 85,.part 1 [.val (.chan (some c))] 166,.gone,setH D.aM]++G)⟩ a2 35->E.Lo E2->a2.defers=[]->V2.deaf=0->V2.role=.plain->(∀b y,E.fr b=some y->E2.fr b=some y)->(∀k,k<n->k∈js)->Q .ret a2 V2):WP true ij none aa7 Q a1 V1:=by
 refine wp_block (id:=3) (wp_seq ?_);refine Iq (K:=λs'=>look s'.T 26=some (.val (.chan (some c)))/\s'.Sub ⟨jn Hs,Hs++(dn x deep c++(ik Hs D++[]))⟩) 1 7 rfl (by kernel_rfl) h.ok.ak ?_ λE3 V3 a3 s3 wq qa hK=> ?_
 ·unfold jn dn ik;(try simp only[seval]);exact fN (by simp only[seval];simp[bP,Wk.refl]) rfl
 obtain⟨l26,lP⟩:=hK;have du:=h.ok.step wq (qa.sub lP);have ro3:V3.role=.recv c Wg (m9 x deep n js):=wq.role.trans h.role;have e26:a3.eval (.tmp 26)=.chan (some c):=ui (qa.tok 26 _ l26).2;obtain⟨ti,wA,hzi⟩:=Uc.1 F.OX;refine atF rfl rfl (.inr ?_);refine⟨rfl,c,Wg,m9 x deep n js,.both,85,ti,_,e26,by kernel_rfl,wA,hzi,ro3,du.deaf,λj sp S v Im Ow r1 r2 r3 r4 r5=> ?_,λhS=> ?_⟩
 ·
  obtain⟨pf,gS,rfl,rfl⟩:=arM r1;obtain⟨b,hv,KF⟩:=r2;have xL:bM (gN x deep j):=hA.work hx (by omega);have RJ:(gN x deep j).aM.Nodup:=atA;obtain⟨W,hW⟩:∃W,W=gN x deep j:=⟨_,rfl⟩;rw[<- hW]at hv KF xL RJ;let pP:View:={V3 with ab:=λb o=>match V3.ab b o with|some x=>some x|none=>Im b o,role:=.recv c Wg ((m9 x deep n js).set j [])};obtain⟨abb,PU⟩:=du.ak.br.anD (V':=pP) rfl (λb o v e=>by show (match V3.ab b o with|some x=>some x|none=>Im b o)=some v;rw[e]) (λb o hb e=>by
   show (match V3.ab b o with|some x=>some x|none=>Im b o)=none;rw[e];apply Uj;intro aH;exact absurd e (r4 b o hb aH)) rfl rfl (λhm=>by rw[du.main]at hm;cases hm)
  have KE:Ow b=some (rL W):=by rw[KF];simp
  obtain⟨w,hSw,hIw,hww⟩:=r5;have jy:=aof hSw hIw (hww b _ KE);have jg:V3.own b=none:=by
   apply Uj;intro aH;have:=r3 b aH;rw[KE]at this;cases this
  have K7:pP.fresh b:=⟨jg,λo=>by
   show (match V3.ab b o with|some x=>some x|none=>Im b o)=none;rw[(jy o).1];exact(jy o).2⟩
  have alA:E3.n=Hs.length+7:=by rw[du.ak.br.n];simp[dn,ik]
  have sG:=PU.add K7 (rL W) (x:=.obj (rL W)) ⟨by rw[Env.dE];simp[View.upd],rfl,rfl,λo=>by rw[Env.dE];exact K7.2 o⟩ (λb' e=>by
   simp only[bJ,Env.dE,Uh]at e;exact e.symm)
  have RG:pP.upd b (rL W)={V3 with ab:=λb o=>match V3.ab b o with|some x=>some x|none=>Im b o,own:=λb=>match V3.own b with|some x=>some x|none=>Ow b,role:=.recv c Wg ((m9 x deep n js).set j [])}:=by
   have:(λb'=>if b'=b then some (rL W)else V3.own b')=λb=>match V3.own b with|some x=>some x|none=>Ow b:=by
    funext b';by_cases hb:b'=b
    ·subst hb;rw[if_pos rfl,jg,KE]
    ·rw[if_neg hb];cases dj:V3.own b' with
     |some y=>rfl
     |none=>simp[KF,hb]
   show View.mk _ _ _ _=View.mk _ _ _ _;congr 1
  have Rv:(({E3 with I:=pP.ab}:Env).add b pP.ab).blk (Hs.length+7)=b:=by rw[<- alA];exact Env.dE ({E3 with I:=pP.ab}:Env) b _
  have MV:E3.Le (({E3 with I:=pP.ab}:Env).add b pP.ab):=abb.trans (Env.pz _ b λ_ _ _ e=>e);have alH:(({E3 with I:=pP.ab}:Env).add b pP.ab).n=Hs.length+8:=by show E3.n+1=_;omega
  rw[RG]at sG;generalize hE4:(({E3 with I:=pP.ab}:Env).add b pP.ab)=E4 at sG Rv MV alH;have bh:ap E4 (.aF [.agg (W.l (Hs.length+7)),bv true]) (.tuple #[v,.bool true]):=by
   subst hv;refine .aF rfl λq a e=> ?_
   match q,e with
   |0,e=>cases e;exact am7 Rv (by omega)
   |1,e=>cases e;exact .val _
  have akH:Hs++(dn x deep c++(ik Hs D++[]))++[aa.obj (rL W)]=Hs++(dn x deep c++(ik Hs D++[setH W.aM])):=by simp[setH,rL]
  rw[akH]at sG;clear RG hE4 PU abb K7;generalize RH:({V3 with ab:=λb o=>match V3.ab b o with|some x=>some x|none=>Im b o,own:=λb=>match V3.own b with|some x=>some x|none=>Ow b,role:=.recv c Wg ((m9 x deep n js).set j [])}:View)=V4 at sG;have HV:V4.role=.recv c Wg (m9 x deep n (js++[j])):=by rw[<- RH];show nd.recv c Wg _=_;rw[arO]
  have de4:V4.deaf=V3.deaf:=by rw[<- RH]
  have rh:At E4 V4 ⟨(27,.aF [.agg (W.l (Hs.length+7)),bv true])::jn Hs,Hs++(dn x deep c++(ik Hs D++[setH W.aM]))⟩ (a3.put (some 27) (.tuple #[v,.bool true])) 35:=⟨sG,(du.ak.tok.mono MV).put (by rw[du.ak.size];omega) bh,(dY a3 (some 27) _).trans du.ak.size⟩;have jN:jr x deep Hs E c Wg rv dv fv ((27,.aF [.agg (W.l (Hs.length+7)),bv true])::jn Hs) (ik Hs D++[setH W.aM]) E4 V4 (a3.put (some 27) (.tuple #[v,.bool true])):=
   du.Ia MV (put_defers a3 _ _) de4 rh
  have FZ:=Kn.len xL (Hs.length+7);refine OA ⟨(10,bv true)::(9,.op (Hs.length+8) 0)::jn Hs,Hs++(dn x deep c++(ik Hs D++[setH W.aM,.cells (W.l (Hs.length+7)) 85]))⟩ rfl (by kernel_rfl) rh ?_ λE5 V5 a5 gz j3=> ?_
  ·unfold jn dn ik;(try simp only[seval,FZ]);exact⟨tz _ _,fN (by simp only[seval];simp[bP,Wk.refl]) rfl⟩
  have cE:=jN.step gz j3;have D5:V5.role=.recv c Wg (m9 x deep n (js++[j])):=gz.role.trans HV;refine wp_seq (wp_seq ?_);refine cE.to ((31,bv false)::(9,.op (Hs.length+8) 0)::jn Hs) (ik Hs D++[setH W.aM,.cells (W.l (Hs.length+7)) 85]) ?_ λE6 V6 a6 Ls oz=> ?_
  ·unfold jn dn ik;refine ai ?_;exact fN (by simp only[seval];simp[bP,Wk.refl]) rfl
  refine Ov oz.ak rfl ?_;refine wp_skip ?_;refine agf (λhs:List (SD)=>hs.Perm W.aM) (λhs=>⟨jn Hs,Hs++(dn x deep c++(ik Hs (gB D hs W)++[setH W.aM,.cells (W.l (Hs.length+7)) 85]))⟩) oz.ak ?_ λhs E7 V7 a7 LM oC KP=> ?_
  ·unfold jn dn ik;refine ah ?_;simp only[seval,FZ];rw[Tn (i:=28) (by omega)];refine aK (aiN (fp:=Hs.length+6) (mp:=Hs.length+5) (mg:=Hs.length+7) h.kn xL (by omega) (by omega) (by rw[aS];rfl) (by rw[aS];rfl) (by rw[aS];rfl) RJ ?_);intro hs hp;rw[dg,dg];(try simp only[seval]);exact⟨hs,hp,fN (by simp only[seval];simp[bP,Wk.refl]) rfl⟩
  have CJ:=oz.step oC KP;have eQ:=jr.cut (T':=jn Hs) CJ zO (by
   unfold jn ik;simp only[Yl,Tv,false_imp_iff,implies_true,and_true,look,an',if_false,if_true,Uh,exists_eq_left',Wk.refl,true_and,abw,UU,VR];omega) (am8 bX)
  have iS:n4 x deep (js++[j]) (gB D hs W):=by
   rw[hW]at LM⊢;exact h.aa0.snoc LM
  refine hQ j (gB D hs W) _ V7 a7 gS ⟨by rw[Tu];exact eQ,?_,iS,aaZ h.kn xL LM,?_,?_⟩
  ·rw[oC.role,Ls.role];exact D5
  ·rw[V_];exact⟨h.nodup,by simp,λa ha b hb=>by rw[T7.1 hb];exactλe=>gS (e▸ha)⟩
  ·intro k hk;rcases Tp.1 hk with h'|h'
   ·exact h.lt k h'
   ·rw[T7.1 h'];exact pf
 ·
  have fI:=arL hS;let V4:View:={V3 with role:=.plain};have sG:Conc (E3.frame E3.fr) V4 (Hs++(dn x deep c++(ik Hs D++[]))):=
   du.ak.br.yF (V':=V4) _ rfl (λ_ _ _ _ _ _ h=>h) (λg hg=>by cases hg) (λg hg=>by cases hg) (λhm=>by rw[du.main]at hm;cases hm) du.ak.br.fr
  have bh:ap E3 (.aF [.agg gG,bv false]) (.tuple #[.agg OJ.toArray,.bool false]):=by
   refine .aF rfl λq a e=> ?_
   match q,e with
   |0,e=>cases e;exact aht OJ
   |1,e=>cases e;exact .val _
  have rh:At E3 V4 ⟨(27,.aF [.agg gG,bv false])::jn Hs,Hs++(dn x deep c++(ik Hs D++[]))⟩ (a3.put (some 27) (.tuple #[.agg OJ.toArray,.bool false])) 35:=⟨sG,du.ak.tok.put (by rw[du.ak.size];omega) bh,(dY a3 (some 27) _).trans du.ak.size⟩;have jN:=du.Ia (V2:=V4) (Env.Le.refl E3) (put_defers a3 (some 27) _) rfl rh;have lr:gG.length=28:=rfl;have eE:=Kn.len h.kn (Hs.length+5);refine OA ⟨(10,bv false)::jn Hs,Hs++(dn x deep c++(ik Hs D++[.cells gG 85]))⟩ rfl (by kernel_rfl) rh ?_ λE5 V5 a5 gz j3=> ?_
  ·unfold jn dn ik;(try simp only[seval,lr]);exact⟨λa ha=>by simp only[gG,Th,Tp,XG]at ha;rcases ha with rfl|rfl|⟨_,rfl⟩|⟨_,rfl⟩<;>rfl,fN (by simp only[seval];simp[bP,Wk.refl]) rfl⟩
  have cE:=jN.step gz j3;refine wp_seq (wp_seq ?_);refine cE.to ((31,bv true)::jn Hs) (ik Hs D++[.cells gG 85]) ?_ λE6 V6 a6 Ls oz=> ?_
  ·unfold jn dn ik;refine ai ?_;exact fN (by simp only[seval];simp[bP,Wk.refl]) rfl
  refine Ov oz.ak rfl ?_;refine wp_seq ?_;refine zk ⟨[(4,.op (Hs.length+2) 0)],Hs++([.part 6 x.l 73,.part 1 [iv deep] 3,.cells (D.l (Hs.length+5)) 85,.part 1 [.val (.chan (some c))] 166,.gone,setH D.aM]++[.cells (D.l (Hs.length+5)) 85,.cells gG 85])⟩ oz.ak ?_ λE7 V7 a7 oC KP=> ?_
  ·unfold jn dn ik;refine ah ?_;simp only[seval,eE,lr];rw[Tn (i:=28) (l:=D.l (Hs.length+5)) (by omega)];exact⟨eE,by omega,tz _ _,fN (by simp only[seval];simp[bP,Wk.refl]) (by rw[eE,UR (by rw[lr];exact Tm _),Tu])⟩
  refine wp_ret ?_;exact FY E7 V7 a7 _ KP (oz.lo.trans oC.le.lo) (oC.defers.trans oz.defers) (oC.deaf.trans oz.deaf) (oC.role.trans (Ls.role.trans gz.role)) (λb y e=>by rw[oC.le.fr];exact(oz.fr b y e).1) fI
end
open Go.Conc Go.Proofs Go.Gg.Tk
def aqN{P:Tg}{rs:SW}{fn:avu}{nt:Nat}{k kp:SF}{E E':Env}{V V':View}{H L G:SA}{T:SH}{a':Act}{av:AV}(hr:fn.results=rs.toArray)(ak:At E' V' ⟨T,H.map strip++(L++G)⟩ a' nt)(oF:E.Lo E')(hc:Conc E V H)(cg:V'.role=V.role)(eX:V'.deaf=V.deaf)(hf:∀b y,E.fr b=some y->E'.fr b=some y)
  (gA:gV P ⟨T,H.map strip++(L++G)⟩ rs=some [av]) (hL:L.map strip=L) (au:bO (H.map strip++L)) (hlt:Lt (H.length+L.length) av) (hk:k av (H++L)):∃v,aR P V' (results fn a'.tmps) (λx aW=>x=v/\aW=V') (λ_ _=>False)/\gh E V k kp (.ret v) V':=by
 obtain⟨vs,hl,lR,yb⟩:=HT ak rs [av] gA;obtain⟨v,rfl⟩:∃v,vs=[v]:=List.length_eq_one_iff.1 hl;have bh:ap E' av v:=lR 0 av rfl;have qt:aR P V' (results fn a'.tmps) (λx aW=>x=v/\aW=V') (λ_ _=>False):=by
  unfold results;rw[hr,Y3];refine ay ?_;refine ay (yb ?_);refine aq (aq ⟨?_,rfl⟩);simp
 have KV:=ak.br;dsimp only at KV;rw[<- Ax]at KV;have eQ:=KV.trim (H:=H.map strip++L) (G:=G) au;have hlen:(H.map strip++L).length=H.length+L.length:=by simp
 rw[hlen]at eQ;have uI:(H++L).map strip=H.map strip++L:=by rw[UJ,hL]
 rw[<- uI]at eQ;refine⟨v,qt,av,((({E' with n:=H.length+L.length}:Env).fq E.main).frame E.fr),H++L,?_,cg,eX,?_,eQ.aqE E.main E.fr (λk e=> ?_) (λe=>by rw[cg,eX];exact hc.top e) hf,hk⟩
 ·refine Env.Lo.le (E':={E' with n:=H.length+L.length}) ⟨oF.I,?_,oF.blk,oF.fE,oF.room⟩;show E.n<=H.length+L.length;rw[hc.n];omega
 ·exact((bh.trim hlt).fq E.main).frame E.fr
 ·by_cases C0:k<H.length
  ·rw[Tw C0]at e;exact⟨(hc.obj k _ e).1,(hc.obj k _ e).2.mono oF.I⟩
  ·rw[Ud (by omega)]at e;have h2:(L.map strip)[k-H.length]?=some .gone:=(by rw[Uo,e];rfl);rw[hL,e]at h2;cases h2
section
variable {x:aj}{deep:Int}{Hs:SA}{E:Env}{c Wg p:Nat}{rv dv fv:T5}{T:SH}{E1:Env}{V1:View}{a1:Act}
def anb(hx:x.Ok)(hA:xg x)(hp:x.am=p)(zO:E.n<=Hs.length)(bX:bO Hs)(h:vz x deep Hs E c Wg rv dv fv 0 [(6,.val (pW Wg 0)),(5,.op (Hs.length+3) 0),(4,.op (Hs.length+2) 0),(3,.op (Hs.length+1) 0),(2,.op Hs.length 0)] [] E1 V1 a1){Q:SJ}
  (hQ:∀js D E2 V2 a2 G,js.Perm (Tt (p+1))->n4 x deep js D->bM D->At E2 V2 ⟨[(4,.op (Hs.length+2) 0)],Hs++([.part 6 x.l 73,.part 1 [iv deep] 3,.cells (D.l (Hs.length+5)) 85,.part 1 [.val (.chan (some c))] 166,.gone,setH D.aM]++G)⟩ a2 35->E.Lo E2->a2.defers=[]->V2.deaf=0->V2.role=.plain->(∀b y,E.fr b=some y->E2.fr b=some y)->Q .ret a2 V2):WP true ij none mr Q a1 V1:=by
 have hp3:p<=3:=by have:=hx.am;omega
 have alT:bO (Hs++(dn x deep c++[])):=aa8 bX (by simp);refine wp_seq (x:=cf mr) (wp_seq (x:=cf (cf mr)) ?_);refine h.ok.to (jx Hs Wg ((p+1:Nat):Int) 0) [] ?_ λE2 V2 a2 cH cx=> ?_
 ·show aZ true ij none 35 (cf (cf mr)) _ _;unfold jx dn;have hw:Tc.wrap (x.am+1)=((p+1:Nat):Int):=by rw[hp,bF _ (by omega)];rfl
  refine ah ?_;simp only[seval,TM,hw];exact fN (by simp only[seval];simp[bP,Wk.refl]) rfl
 have h2:vz x deep Hs E c Wg rv dv fv 0 (jx Hs Wg ((p+1:Nat):Int) 0) [] E2 V2 a2:=h.step cH cx;refine wp_block (id:=0) (c:=.loop (ci (ci (cs (cf mr))))) ?_;refine wp_loop (λm a' V'=>∃E' i,m=p+1-i/\i<=p+1/\vz x deep Hs E c Wg rv dv fv i (jx Hs Wg ((p+1:Nat):Int) i) [] E' V' a') (p+1) ⟨E2,0,rfl,by omega,h2⟩ λm a3 V3 hI=> ?_;obtain⟨E3,i,rfl,hi,h3⟩:=hI;refine wp_seq (x:=cf (ci (ci (cs (cf mr))))) (y:=cs (ci (ci (cs (cf mr))))) ?_;refine h3.ok.to ((17,bv (decide ((i:Int)<((p+1:Nat):Int))))::jx Hs Wg ((p+1:Nat):Int) i) [] ?_ λE4 V4 a4 rl jN=> ?_
 ·show aZ true ij none 35 (cf (ci (ci (cs (cf mr))))) _ _;unfold jx dn;refine ai ?_;exact fN (by simp only[seval];simp[bP,Wk.refl]) rfl
 have qZ:=h3.step rl jN;refine wp_seq (x:=.cond (.tmp 17) .skip (.exit 0)) (y:=cs (cs (ci (ci (cs (cf mr)))))) (Ov jN.ak rfl ?_);by_cases St:i<p+1
 ·rw[show decide ((i:Int)<((p+1:Nat):Int))=true from decide_eq_true (by omega)];refine wp_skip ?_;have akR:jr x deep Hs E c Wg rv dv fv (jx Hs Wg ((p+1:Nat):Int) i) [] E4 V4 a4:=jN.Ia (Env.Le.refl E4) rfl rfl (jN.ak.sub (fN (by unfold jx dn;simp only[seval];simp[bP,Wk.refl]) rfl));exact am9 hx hA zO alT ⟨akR,qZ.role,qZ.FL,qZ.Cj⟩ (by omega) rfl λE5 V5 a5 h5=>⟨p+1-(i+1),by omega,E5,i+1,rfl,by omega,h5⟩
 have dx:i=p+1:=by omega
 subst dx;rw[show decide (((p+1:Nat):Int)<((p+1:Nat):Int))=false by simp];refine wp_exit ?_;refine wp_seq (x:=cf (cs mr)) (y:=cs (cs mr)) ?_;refine Iq (K:=λs'=>look s'.T 22=some (.fn (.func 123) [] [.val (pW Wg 0),.op (Hs.length+3) 0])/\s'.Sub ⟨[(5,.op (Hs.length+3) 0),(4,.op (Hs.length+2) 0)],Hs++(dn x deep c++[])⟩) 1 1 rfl (by kernel_rfl) jN.ak ?_ λE5 V5 a5 s5 gz j3 hK=> ?_
 ·unfold jx dn;(try simp only[seval,UY,Vt,U7,UL]);exact fN (by simp only[seval];simp[bP,Wk.refl]) rfl
 obtain⟨l22,lP⟩:=hK;have cE:=jN.step gz (j3.sub lP);have D5:V5.role=.fork c Wg (oQ x deep (p+1)):=gz.role.trans qZ.role;have vY:E5.fr c=some sF:=by rw[gz.le.fr];exact qZ.FL
 have Ck:E5.fr Wg=some (wgBlock ij (((p+1:Nat):Int)* 4294967296) 0):=by rw[gz.le.fr];exact qZ.Cj
 obtain⟨c1,c2,c3⟩:=cE.ak.br.fr c _ vY;obtain⟨v1,v2,v3⟩:=cE.ak.br.fr Wg _ Ck;have e22:a5.eval (.tmp 22)=.func (.func 123) #[] #[pW Wg 0,fv]:=by
  obtain⟨fa,ca,q1,q2,q3⟩:=P8 (j3.tok 22 _ l22).2;rw[Fs q2]at q1;refine q1.trans ?_;have dH:ca.size=2:=q3.1;have k0:=ui (q3.2 0 _ rfl);have k1:=Cc (q3.2 1 _ rfl);rw[<- cE.ef]at k1;congr 1;refine Array.ext dH λj h1 h2=> ?_;have hj:j=0\/j=1:=by omega
  rw[Td,Tf (by omega)]at k0 k1;rcases hj with rfl|rfl
  ·exact k0
  ·exact k1
 have hfc:V5.ab (E5.blk (Hs.length+3)) 0=some (.chan (some c)):=by
  have bt:=cE.df;rw[cE.ef]at bt;generalize hp:(Zf (some ⟨E5.blk (Hs.length+3),0,none⟩))=pv at bt;cases bt with
  |rp b o f h1 h2=>
   cases hp;have:=h1 0 (by simp);rw[cE.ak.br.I]at this;rw[Vl]at this;rw[this,ui (h2 0 _ rfl)]
 refine Oz rfl rfl ?_;refine⟨rfl,.tmp 22,123,#[],_,rfl,e22,cE.deaf,.inr ⟨c,Wg,_,D5,cE.ne,c1,?_,c2,v2,?_,?_⟩⟩
 ·rw[v1,N2]
 ·have:=ahb Wg (E5.blk (Hs.length+3)) c (Im:=V5.ab) hfc;rw[cE.ef];simpa[pW]using this
 let V6:View:={V5 with own:=λb=>if b=c\/b=Wg then none else V5.own b,role:=.recv c Wg (oQ x deep (p+1))};let f6:Nat->Option Obj:=λb=>if b=c\/b=Wg then none else E5.fr b;have Jn:Conc (E5.frame f6) V6 (Hs++(dn x deep c++[])):=by
  refine cE.ak.br.yF (V':=V6) _ rfl (λb z k w hk ky hz=> ?_) (λg hg=>by cases hg) (λg hg=>by cases hg) (λhm=>by rw[cE.main]at hm;cases hm) (λb y hb=> ?_)
  ·have n1:b≠c:=cE.ak.br.DV vY hk ky;have n2:b≠Wg:=cE.ak.br.DV Ck hk ky;show (if b=c\/b=Wg then none else V5.own b)=some z;rw[if_neg (λe=>e.elim n1 n2)];exact hz
  ·by_cases zZ:b=c\/b=Wg
   ·simp only[f6,if_pos zZ]at hb;cases hb
   ·simp only[f6,if_neg zZ]at hb;obtain⟨q1,q2,q3⟩:=cE.ak.br.fr b y hb;refine⟨?_,q2,q3⟩;show (if b=c\/b=Wg then none else V5.own b)=some y;rw[if_neg zZ];exact q1
 have oz:jr x deep Hs E c Wg rv dv fv [(5,.op (Hs.length+3) 0),(4,.op (Hs.length+2) 0)] [] (E5.frame f6) V6 (a5.put none undef):=by
  refine⟨⟨Jn,cE.ak.tok.frame _,cE.ak.size⟩,cE.lo.trans (Env.Hg E5 f6),cE.main,cE.defers,cE.deaf,cE.er,cE.ed,cE.ef,cE.dr.frame f6,cE.dd.frame f6,cE.df.frame f6,λb y e=> ?_,cE.ne⟩;obtain⟨q1,q2,q3⟩:=cE.fr b y e;refine⟨?_,q2,q3⟩;show (if b=c\/b=Wg then none else E5.fr b)=some y;rw[if_neg (λe=>e.elim q2 q3)];exact q1
 show WP true ij none (.seq (cf (cs (cs mr))) (cs (cs (cs mr)))) Q (a5.put none undef) V6;refine wp_seq ?_;refine oz.to (jn Hs) (ik Hs Kn.zero) ?_ λE7 V7 a7 oC CJ=> ?_
 ·show aZ true ij none 35 (cf (cs (cs mr))) _ _;unfold jn dn ik;refine ai ?_;exact fN (by simp only[seval];simp[bP,Wk.refl]) rfl
 refine wp_block (id:=2) (c:=.loop aa7) ?_;have cK:EM x deep (p+1) Hs E c Wg rv dv fv [] Kn.zero (jn Hs) [] E7 V7 a7:=⟨by rw[Tu];exact CJ,by rw[oC.role,arN],.nil,Dy,XL,λj hj=>by cases hj⟩;refine wp_loop (λm a' V'=>∃E' js D,m=p+1-js.length/\EM x deep (p+1) Hs E c Wg rv dv fv js D (jn Hs) [] E' V' a') _ ⟨E7,[],Kn.zero,rfl,cK⟩ λm a8 V8 hI=> ?_;obtain⟨E8,js,D,rfl,h8⟩:=hI;have hlen:∀js:SE,js.Nodup->(∀j∈js,j<p+1)->js.length<=p+1:=λjs hn hl=>by
  have:=hn.length_le_of_subset (l₂:=Tt (p+1)) λj hj=>by simpa using hl j hj
  simpa using this
 refine ana hx hA (by omega) zO bX h8 (λj D' E9 V9 a9 hj h9=> ?_) λE9 V9 a9 G akK M1 Jy Jo NQ xG fI=> ?_
 ·have h1:=hlen _ h9.nodup h9.lt;simp only[Tx,UV]at h1;exact⟨p+1-(js++[j]).length,by simp;omega,E9,js++[j],D',rfl,h9⟩
 ·have LO:js.Perm (Tt (p+1)):=by
   refine(List.perm_ext_iff_of_nodup h8.nodup Y0).2 λk=> ?_;rw[UA];exact⟨h8.lt k,fI k⟩
  exact hQ js D E9 V9 a9 G LO h8.aa0 h8.kn akK M1 Jy Jo NQ xG
end
def ajA{x:aj}{deep:Int}{p:Nat}{H:SA}{k kp:SF}(hx:x.Ok)(hA:xg x)(hp:x.am=p)(hm:H[0]?=some .main)(hk:∀js D L,js.Perm (Tt (p+1))->n4 x deep js D->bM D->L.length=5->k (.agg (D.l (H.length+5))) (H++(L++[setH D.aM]))):a_ true ij 98 H [x.av,iv deep] k kp:=by
 intro E V vs hc hd;have hEm:E.main=true:=(hc.obj 0 _ hm).1;obtain⟨ji,uB⟩:=hc.top hEm;have hn:E.n=H.length:=hc.n;refine PE (by simp) F.f98 rfl ?_;have sO:At (E.fq false) V ⟨[(0,x.av),(1,iv deep)],H.map strip⟩ {tmps:=vs++UI (YP.ntmps-vs.size) undef,defers:=[]} 35:=by
  have:=B0 (nt:=35) hc hd (by simp);exact⟨hc.ahq,this.tok.fq false,this.size⟩
 have hlen:(H.map strip).length=H.length:=Un _;have LH:bO (H.map strip):=sO.br.au
 suffices pi:∀Hs,H.map strip=Hs->WP true ij none uW (Ends ij YP (gh E V k kp)) {tmps:=vs++UI (YP.ntmps-vs.size) undef,defers:=[]} V from pi _ rfl
 intro Hs bX;rw[bX]at sO hlen LH;have RS:({tmps:=vs++UI (YP.ntmps-vs.size) undef,defers:=[]}:Act).defers=[]:=rfl;generalize({tmps:=vs++UI (YP.ntmps-vs.size) undef,defers:=[]}:Act)=a0 at sO RS;refine wp_seq (x:=cf uW) (y:=cs uW) ?_;refine zk ⟨[(4,.op (Hs.length+2) 0),(3,.op (Hs.length+1) 0),(2,.op Hs.length 0)],Hs++[.cells x.l 73,.cells [iv deep] 3,.cells gG 85]⟩ sO ?_ λE2 V2 a2 cH ux=> ?_
 ·show aZ true ij none 35 (cf uW) _ _;simp only[aj.av];refine ai ?_;exact fN (by simp only[seval];simp[bP,Wk.refl]) rfl
 obtain⟨ti,wA⟩:∃i,ij.info? 85=some i:=Option.isSome_iff_exists.1 (by kernel_rfl);refine wp_seq (x:=cf (cs uW)) (y:=cs (cs uW)) (aei rfl rfl (ao4 rfl (d:=.both) (el:=85) (by kernel_rfl) wA λc wb=> ?_));let f3:Nat->Option Obj:=λb=>if b=c then some sF else E2.fr b;have qa:At (E2.frame f3) (V2.upd c sF) ⟨[(11,.val (.chan (some c))),(4,.op (Hs.length+2) 0),(3,.op (Hs.length+1) 0),(2,.op Hs.length 0)],Hs++[.cells x.l 73,.cells [iv deep] 3,.cells gG 85]⟩ (a2.put (some 11) (.chan (some c))) 35:=
  ⟨ux.br.akb wb sF,(ux.tok.frame _).put (by rw[ux.size];omega) (.val _),(dY a2 (some 11) _).trans ux.size⟩
 refine OA ⟨[(5,.op (Hs.length+3) 0),(4,.op (Hs.length+2) 0),(3,.op (Hs.length+1) 0),(2,.op Hs.length 0)],Hs++[.cells x.l 73,.cells [iv deep] 3,.cells gG 85,.cells [.val (.chan (some c))] 166]⟩ rfl (by kernel_rfl) qa ?_ λE4 V4 a4 rl rh=> ?_
 ·(try simp only[seval,apk,atY,ann]);exact fN (by simp only[seval];simp[bP,Wk.refl]) rfl
 refine wp_seq (x:=cf (cs (cs uW))) (y:=mr) ?_;refine zk ⟨[(6,.op (Hs.length+4) 0),(5,.op (Hs.length+3) 0),(4,.op (Hs.length+2) 0),(3,.op (Hs.length+1) 0),(2,.op Hs.length 0)],Hs++[.cells x.l 73,.cells [iv deep] 3,.cells gG 85,.cells [.val (.chan (some c))] 166,.cells [.val (.int .u64 0),.val (.int .u32 0)] 174]⟩ rh ?_ λE5 V5 a5 gz j3=> ?_
 ·show aZ true ij none 35 (cf (cs (cs uW))) _ _;refine ai ?_;exact fN (by simp only[seval];simp[bP,Wk.refl]) rfl
 obtain⟨wcs,Mf,hwo,yl,CN⟩:=j3.br.akc (id:=Hs.length+4) (aS _ _ 4);have amD:=Qa (l:=[.int .u64 0,.int .u32 0]) Mf;subst amD;rw[dg]at CN;simp only[Vg,UP]at CN;have Qq:=j3.ato (t:=6) (id:=Hs.length+4) (off:=0) rfl;have Rc:E5.fr=f3:=gz.le.fr.trans rl.le.fr;have vY:E5.fr c=some sF:=by rw[Rc];simp[f3]
 have aH:c≠E5.blk (Hs.length+4):=λe=>j3.br.DV vY (aS Hs _ 4) rfl e.symm;have Re:∀b y,E.fr b=some y->E5.fr b=some y/\b≠c/\b≠E5.blk (Hs.length+4):=λb y hb=>by
  have h2:E2.fr b=some y:=by rw[cH.le.fr];exact hb
  have zZ:b≠c:=λe=>by subst e;have:=(ux.br.fr b y h2).1;rw[wb.1]at this;cases this
  have h5:E5.fr b=some y:=by rw[Rc];simp[f3,zZ,h2]
  exact⟨h5,zZ,λe=>j3.br.DV h5 (aS Hs _ 4) rfl e.symm⟩
 generalize zQ:E5.blk (Hs.length+4)=Wg at hwo yl CN Qq aH Re;let f6:Nat->Option Obj:=λb'=>if b'=Wg then some (wgBlock ij 0 0)else E5.fr b';have R8:Conc (E5.frame f6) V5 (Hs++[.cells x.l 73,.cells [iv deep] 3,.cells gG 85,.cells [.val (.chan (some c))] 166,.gone]):=by
  have:(λb'=>if b'=Wg then some (Obj.cells #[.int .u64 0,.int .u32 0] 174 (0,0))else E5.fr b')=f6:=by
   funext b';simp only[f6,wgBlock,wgT]
  rw[<- this];exact CN
 have CD:At (E5.frame f6) V5 ⟨[(6,.val (pW Wg 0)),(5,.op (Hs.length+3) 0),(4,.op (Hs.length+2) 0),(3,.op (Hs.length+1) 0),(2,.op Hs.length 0)],Hs++[.cells x.l 73,.cells [iv deep] 3,.cells gG 85,.cells [.val (.chan (some c))] 166,.gone]⟩ a5 35:=by
  refine⟨R8,λt av e=> ?_,j3.size⟩;by_cases ht:t=6
  ·subst ht;cases e;refine⟨by rw[j3.size];omega,?_⟩;have:a5.tmps.getD 6 undef=pW Wg 0:=Qq;rw[this];exact .val _
  ·refine(j3.tok.frame f6) t av ?_;simp only[look]at e⊢;rw[if_neg (Ne.symm ht)]at e⊢;exact e
 clear CN R8;have lo6:E.Lo (E5.frame f6):=((((E.anX false).trans cH.le.lo).trans (Env.Hg E2 f3)).trans (rl.le.lo.trans gz.le.lo)).trans (Env.Hg E5 f6);have M5:(E5.frame f6).main=false:=gz.le.main.trans (rl.le.main.trans cH.le.main);have ahn:a5.defers=[]:=gz.defers.trans (rl.defers.trans ((put_defers a2 _ _).trans (cH.defers.trans RS)));have ro6:V5.role=.plain:=gz.role.trans (rl.role.trans (cH.role.trans ji));have de6:V5.deaf=0:=gz.deaf.trans (rl.deaf.trans (cH.deaf.trans uB));have Kk:(E5.frame f6).fr c=some sF:=by show f6 c=_;simp only[f6,if_neg aH];exact vY
 have Kl:(E5.frame f6).fr Wg=some (wgBlock ij 0 0):=by show f6 Wg=_;simp[f6]
 have Rf:∀b y,E.fr b=some y->(E5.frame f6).fr b=some y/\b≠c/\b≠Wg:=λb y hb=>by
  obtain⟨q1,q2,q3⟩:=Re b y hb;refine⟨?_,q2,q3⟩;show f6 b=_;simp only[f6,if_neg q3];exact q1
 generalize E5.frame f6=E6 at CD lo6 M5 Kk Kl Rf;obtain⟨V7,g7,o7,r7,d7,wF,Fj,P4⟩:=CD.br.HP (id:=Hs.length) (aS _ _ 0) 6 (by simp[TM]);rw[show Hs.length=Hs.length+0 from rfl,dg]at Fj;simp only[UP]at Fj;have adQ:=CD.tok.mono wF;generalize hE7:({E6 with I:=V7.ab}:Env)=E7 at wF Fj P4 adQ;obtain⟨V8,g8,o8,r8,d8,uX,Fl,P5⟩:=Fj.HP (id:=Hs.length+1) (aS _ _ 1) 1 (by simp);rw[dg]at Fl;simp only[Vg,UP]at Fl;have adR:=adQ.mono uX;generalize hE8:({E7 with I:=V8.ab}:Env)=E8 at uX Fl P5 adR;obtain⟨V9,g9,o9,r9,d9,uY,xv,Jr⟩:=Fl.HP (id:=Hs.length+3) (aS _ _ 3) 1 (by simp);rw[dg]at xv;simp only[Vg,UP]at xv;have adS:=adR.mono uY;generalize hE9:({E8 with I:=V9.ab}:Env)=E9 at uY xv Jr adS;refine WP.ghost g7 (WP.ghost g8 (WP.ghost g9 ?_));have M1:E.Lo E9:=lo6.trans ((wF.trans uX).trans uY).lo;have NQ:V9.role=.plain:=r9.trans (r8.trans (r7.trans ro6));have Jo:V9.deaf=0:=d9.trans (d8.trans (d7.trans de6));have xG:E9.fr=E6.fr:=uY.fr.trans (uX.fr.trans wF.fr);have n6:E6.n=Hs.length+5:=by rw[CD.br.n];simp
 have b7:∀k,k<Hs.length+5->E9.blk k=E6.blk k/\E9.blk k=E7.blk k/\E9.blk k=E8.blk k:=λk hk=>by
  have n7:=wF.n;have n8:=uX.n;have q7:=wF.blk k (by omega);have q8:=uX.blk k (by omega);have q9:=uY.blk k (by omega);exact⟨by rw[q9,q8,q7],by rw[q9,q8],q9⟩
 obtain⟨c1,c2,c3⟩:=xv.fr c sF (by rw[xG];exact Kk);obtain⟨v1,v2,v3⟩:=xv.fr Wg _ (by rw[xG];exact Kl);refine atE (c:=c) (Wg:=Wg) rfl NQ aH c1 (by rw[v1];simp) v2 ?_;let IV:View:={V9 with role:=.fork c Wg []};have ahd:Conc (E9.frame E9.fr) IV (Hs++(dn x deep c++[])):=by
  refine xv.yF (V':=IV) _ rfl (λ_ _ _ _ _ _ h=>h) (λg hg=> ?_) (λg hg=> ?_) (λhm=>by rw[uY.main,uX.main,wF.main,M5]at hm;cases hm) xv.fr
  ·cases hg;exact⟨by show V9.own Wg≠none;rw[v1];simp,v2,v3⟩
  ·cases hg;exact⟨by show V9.own c≠none;rw[c1];simp,c2,c3⟩
 have dr9:ap E9 (.rp x.l) (.pointer (some ⟨E9.blk Hs.length,0,none⟩)):=by
  have h7:=(P4.mono uX).mono uY;rw[<- (b7 Hs.length (by omega)).1]at h7;rwa[Tn (by simp[TM])]at h7
 have dd9:ap E9 (.rp [iv deep]) (.pointer (some ⟨E9.blk (Hs.length+1),0,none⟩)):=by
  have h8:=P5.mono uY;rw[<- (b7 (Hs.length+1) (by omega)).2.1]at h8;exact h8
 have Jy:ap E9 (.rp [.val (.chan (some c))]) (.pointer (some ⟨E9.blk (Hs.length+3),0,none⟩)):=by
  rw[<- (b7 (Hs.length+3) (by omega)).2.2]at Jr;exact Jr
 have LD:jr x deep Hs E c Wg (.pointer (some ⟨E9.blk Hs.length,0,none⟩)) (.pointer (some ⟨E9.blk (Hs.length+1),0,none⟩)) (.pointer (some ⟨E9.blk (Hs.length+3),0,none⟩)) [(6,.val (pW Wg 0)),(5,.op (Hs.length+3) 0),(4,.op (Hs.length+2) 0),(3,.op (Hs.length+1) 0),(2,.op Hs.length 0)] [] E9 IV a5:=
  ⟨⟨ahd,adS,CD.size⟩,M1,uY.main.trans (uX.main.trans (wF.main.trans M5)),ahn,Jo,rfl,rfl,rfl,dr9,dd9,Jy,λb y hb=>by rw[xG];exact Rf b y hb,aH⟩
 refine anb hx hA hp (by omega) LH ⟨LD,rfl,by rw[xG];exact Kk,by rw[xG];exact Kl⟩ λjs D E11 V11 a11 G LO iS dS RV anW ahm ahj aqP aka=> ?_;subst bX;have eE:=Kn.len dS (H.length+5);let L5:SA:=[.part 6 x.l 73,.part 1 [iv deep] 3,.cells (D.l (H.length+5)) 85,.part 1 [.val (.chan (some c))] 166,.gone];rw[hlen]at RV;refine⟨ahm,aqN (P:=ij) (rs:=[.cell 4 85]) (H:=H) (L:=L5++[setH D.aM]) (G:=G) (T:=[(4,.op (H.length+2) 0)]) (av:=.agg (D.l (H.length+5))) rfl RV anW hc (aqP.trans ji.symm) (ahj.trans uB.symm) aka ?_ rfl ?_ ?_ (hk js D L5 LO iS dS rfl)⟩
 ·have hg:(H.map strip++(L5++[setH D.aM]++G))[H.length+2]?=some (.cells (D.l (H.length+5)) 85):=by
   have:=aS (H.map strip) (L5++[setH D.aM]++G) 2;rw[hlen]at this;exact this
  have aE:VC 28 (D.l (H.length+5))=D.l (H.length+5):=Tn (by omega);generalize hLG:H.map strip++(L5++[setH D.aM]++G)=LG at hg;try simp only[seval,gV,vb,hg,eE,aE,aa.cellsOf]
 ·have hl:H.length=(H.map strip).length:=hlen.symm;intro y hy;have alz:(H.map strip++(L5++[setH D.aM])).length=H.length+6:=by simp[L5]
  rw[alz];rcases Tp.1 hy with h|h
  ·exact(LH y h).mono (by omega)
  ·simp only[L5,Th,Tp,Tv,or_false]at h;rcases h with(rfl|rfl|rfl|rfl|rfl)|rfl
   ·exactλa ha=>Hj x _ a ha
   ·intro a ha;simp at ha;subst ha;exact .val _
   ·exact yp (by omega)
   ·intro a ha;simp at ha;subst ha;exact .val _
   ·trivial
   ·trivial
 ·refine .agg λa ha=> ?_;exact yp (by simp[L5]) a ha
namespace Tk
def Sy{x:aj}{bk:Nat}(h0:0<=x.first)(h90:x.first<=90)(hp:0<=x.am/\x.am<=3):∀(d:Nat)(pre:SD),pre.length+d<=4->pre.head?=some x.first->(∀a∈pre,x.first<=a/\a<=x.first+3* (pre.length-1:Nat))->∀h∈mS x bk d pre,h.length=4/\h.head?=some x.first/\∀a∈h,x.first<=a/\a<=x.first+9
 |0,pre,hl,hh,ha,h,hm=>by
  unfold mS at hm;split at hm
  ·rw[T7]at hm;subst hm;have aH:pre≠[]:=λe=>(by rw[e]at hh;cases hh);have cP:0<pre.length:=Wy.2 aH;have uG:pre.getLastD 0∈pre:=by
    rw[Wn,YT aH];exact ak_ aH
   refine⟨by simp[cL];omega,by rw[cL,XN,hh];rfl,λa hm=> ?_⟩;have Ly:a∈pre:=by
    rcases Tp.1 hm with h|h
    ·exact h
    ·rw[(XG.1 h).2];exact uG
   have:=ha a Ly;omega
  ·cases hm
 |d+1,pre,hl,hh,ha,h,hm=>by
  unfold mS at hm;split at hm
  ·obtain⟨n,hn,hm⟩:=T4.1 hm;have kC:n<x.am.toNat+1:=(by simpa using hn);split at hm
   ·cases hm
   ·have aH:pre≠[]:=λe=>(by rw[e]at hh;cases hh);have cP:0<pre.length:=Wy.2 aH;have uG:pre.getLastD 0∈pre:=by
     rw[Wn,YT aH];exact ak_ aH
    refine Sy h0 h90 hp d _ (by simp;omega) (by rw[XN,hh];rfl) (λa Ly=> ?_) h hm;rw[Tx,UV];rcases Tp.1 Ly with h'|h'
    ·have:=ha a h';omega
    ·rw[T7]at h';subst h';have:=ha _ uG;omega
  ·cases hm
def Su{x:aj}{bk:Nat}(hx:x.Ok){h:SD}(hm:h∈j6 x bk):mD h:=by
 have hf:=hx.first;have hh:=hx.hours;have hp:=hx.am;obtain⟨h1,h2,h3⟩:=Sy (bk:=bk) hf.1 hf.2 ⟨by omega,hp.2⟩ x.hours.toNat [x.first] (by simp;omega) rfl (λa ha=>by rw[T7]at ha;subst ha;simp) h hm;refine⟨h1,λa ha=>by have:=h3 a ha;omega,λa ha=>by have:=h3 a ha;omega,?_⟩
 match h,h1,h2,h3 with
 |[a,b,c,d],_,h2,h3=>
  have ha:a=x.first:=by simpa using h2
  have:=h3 d (by simp);simp;omega
def ab2:∀{qs:SE}{u:Nat}{t ns:SE},ns∈kK qs u t->∃l,ns=t++l/\l.length=qs.length/\∀(i n q:Nat),l[i]?=some n->qs[i]?=some q->n<9/\q.testBit n=true
 |[],u,t,ns,h=>by
  simp only[kK,T7]at h;exact⟨[],by simp[h],rfl,λi n q h1=>by cases h1⟩
 |q::qs,u,t,ns,h=>by
  simp only[kK,T4]at h;obtain⟨n,hn,h⟩:=h;split at h
  ·cases h
  ·rename_i hc;obtain⟨l,h1,h2,h3⟩:=ab2 h;refine⟨n::l,by rw[h1];simp,by simp[h2],λi m q' h4 h5=> ?_⟩
   match i with
   |0=>
    cases h4;cases h5;refine⟨by simpa using hn,?_⟩;simp at hc;exact hc.2
   |i+1=>exact h3 i m q' h4 h5
def acd{k:Nat}{ns:SE}:∀{qs:SE}{u:Nat}{t os:SE},os∈mw k ns qs u t->∃l,os=t++l/\l.length=qs.length/\∀n∈l,n<k
 |[],u,t,os,h=>by
  simp only[mw,T7]at h;exact⟨[],by simp[h],rfl,λn h1=>by cases h1⟩
 |q::qs,u,t,os,h=>by
  simp only[mw,T4]at h;obtain⟨n,hn,h⟩:=h;split at h
  ·cases h
  ·obtain⟨l,h1,h2,h3⟩:=acd h;refine⟨n::l,by rw[h1];simp,by simp[h2],λm hm=> ?_⟩;rcases Th.1 hm with rfl|hm
   ·simpa using hn
   ·exact h3 m hm
def Oc:∀{h:SD}{i:Nat}{n a:Int},h.head?=some a->a<=n->n<h.getLastD 0->0<=fD i h n
 |[],i,n,a,h1,_,_=>by cases h1
 |[b],i,n,a,h1,h2,h3=>by
  simp at h1 h3;omega
 |b::c::l,i,n,a,h1,h2,h3=>by
  have:b=a:=by simpa using h1
  subst this;unfold fD;split
  ·omega
  ·rename_i hc;exact Oc (a:=c) rfl (by omega) (by simpa[Wn]using h3)
def as1{x:aj}{h:SD}{ns os:SE}(hx:x.Ok)(hh:mD h)(hn:ns∈f_ x h)(ho:os∈iq x h ns):ju x (dC h ns os):=by
 obtain⟨l,e1,e2,e3⟩:=ab2 hn;simp only[Vo]at e1;subst e1;obtain⟨m,g1,g2,g3⟩:=acd ho;simp only[Vo]at g1;subst g1;rw[Un]at e2 g2;have h4:=hh.len;have Gs:=hx.cW;have jj:=hx.eG;have Dj:(dC h ns os).take 4=h:=by
  unfold dC;rw[Ax,Uu (by omega),Tn (by omega)]
 have dM:(lz 4 ns).length=4:=AY (by omega);have hg:∀p,p<ns.length->(dC h ns os)[4+p]?=(ns[p]?).map λn:Nat=>(n:Int):=λp hp=>by
  unfold dC;rw[Ax,Ud (by omega),Tw (by omega),h4,VJ];unfold lz;rw[Tw (by simpa using hp),Uo]
 refine⟨by simp[dC,h4,dM,AY (k:=3) (l:=os) (by omega)],by rw[Dj];exact hh,λp hp=> ?_,λs hs=> ?_⟩
 ·obtain⟨n,C_⟩:=bU (xs:=ns) (i:=p) (by omega);obtain⟨y,hy⟩:=bU hp;obtain⟨q1,q2⟩:=e3 p n (ce h y) C_ (by rw[Uo,hy];rfl);refine⟨n,by rw[hg p (by omega),C_];rfl,q1,?_⟩;rw[Dj];unfold ce at q2;rw[B3]at q2;simp only[Uk,lF,decide_eq_true_eq]at q2;obtain⟨a,b,c,d,rfl,_⟩:=hh.out;have e0:(dC [a,b,c,d] ns os).getD 0 0=a:=rfl;rw[e0];have:=q2.2.1.1;simp at this;exact Oc (a:=a) rfl (by omega) (by simp;omega)
 ·obtain⟨o,LJ⟩:=bU (xs:=os) (i:=s) (by omega);refine⟨o,?_,by have:=g3 o (Uf LJ);omega⟩;unfold dC;rw[Ud (by simp[h4,dM]),show (h++lz 4 ns).length=8 by simp[h4,dM],VJ];unfold lz;rw[Tw (by have:=ep LJ;simpa using this),Uo,LJ];rfl
end Tk
def Ek{x:aj}(hx:x.Ok):xg x:=λbk _ h hm=>by
 have hh:=Su hx hm;refine⟨hh,λns jf a ha=> ?_⟩;obtain⟨os,h1,rfl⟩:=Um.1 ha;exact as1 hx hh jf h1
open Go.Conc
section
variable {lv:Bool}{P:Tg}{s:AS}{ms:SE}{bs:S4}{nt:Nat}
def ajX{f:UH}{fn:avu}{c0 c1 c2:UX}{rs:SW}{H:SA}{args:SC}{k kp:SF}(hf:P.funcs[f]?=some fn)(hb:fn.body=some (.seq c0 (.seq c1 c2)))(hr:fn.results=rs.toArray)(hn:fn.ntmps=nt)(cM:args.length<=nt)
  (h:bO H->(∀a∈args,Lt H.length a)->aZ lv P none nt c0 ⟨bc 0 args,H⟩ λe s0=>e=.normal/\Bp lv P nt c1 s0 [] (λe s' kT=>e=.normal/\∃c,kT=[c]/\∀bs,ki lv P nt bs c2 s' [] (yZ lv P rs H.length c k kp))):a_ lv P f H args k kp:=by
 intro E V vs hc hd;have hlt:∀a∈args,Lt H.length a:=λa ha=>by
  obtain⟨i,hi⟩:=pC ha;rw[<- hc.n];exact(hd.2 i a hi).lt
 have ak:=B0 (nt:=nt) hc hd cM;refine agT (by simp) hf hb ?_;rw[hn];refine wp_seq (h hc.au hlt E V _ _ ak λae e E0 V0 a0 s0 Ai sO he0 hΦ0=> ?_);obtain⟨rfl,yk⟩:=hΦ0;cases e<;>first
  |exact he0.elim
  |skip
 have ala:a0.defers=[]:=Ai.defers;refine wp_seq (yk E0 V0 a0 _ sO (by rw[ala];trivial) λae e E1 V1 a1 s1 ds1 alw v8 bA CQ hΦ1=> ?_);obtain⟨rfl,c,rfl,hw⟩:=hΦ1;have iD:=Ai.d.trans alw;cases e<;>first
  |exact CQ.elim
  |skip
 obtain⟨d,jd,bh⟩:∃d,a1.defers=[d]/\yT E1 c d:=by
  match jd:a1.defers,bA with
  |[d],bA=>exact⟨d,rfl,bA.1⟩
  |[],bA=>exact bA.elim
  |_::_::_,bA=>exact bA.2.elim
 refine hw [d] E1 V1 a1 _ v8 ⟨by simp[jd],by simp⟩ λae e E' V' a' s' cI hk aU fZ he hΦ=> ?_;have hle:E.Le E':=iD.le.trans hk.le;have fin:∀(md:Wa)(m:Option AV)(H':SA),(md matches .run)=false->iL cI s'.H=some H'->OQ E' m md->qI lv P c H' m (λH'=>ao (gV P ⟨s'.T,H'⟩ rs) λl=>bY H.length H' (iW l) k) (λH'=>∀pv,m=some pv->bY H.length H' pv kp)->tY lv P fn (gh E V k kp) a'.defers md a'.tmps V':=by
  intro md m H' qk hg aag hD;refine ad7 qk cI _ H' E' V' _ hg aU.br fZ λV2 r1 r2 cx=> ?_;have ak7:=bh.mono hk.le;refine⟨qk,.inr ⟨?_,?_⟩⟩
  ·obtain⟨f,first,cT,fa,ca,vs,h1,rfl,h3,h4,h5⟩:=bh;exact⟨_,_,rfl⟩
  ·refine(hD E' V2 d md cx ak7 aag).mono (λnx aW hx=> ?_) λ_ _ h=>h;obtain⟨g,args,rfl,Cr⟩:=hx;refine⟨g,args,rfl,Cr.mono λnT V3 hx=> ?_⟩;obtain⟨E3,H3,q1,q2,q3,q4,q5|q5⟩:=hx
   ·obtain⟨rfl,q5⟩:=q5;exact acE (s':=⟨s'.T,H3⟩) (a':=a') hr ⟨q4,aU.tok.mono q1,aU.size⟩ (hle.trans q1) hc.n (q2.trans (r1.trans (hk.role.trans iD.role))) (q3.trans (r2.trans (hk.deaf.trans iD.deaf))) q5
   ·obtain⟨rfl,uI,q5⟩:=q5;cases m with
    |none=>cases uI
    |some pv=>
     obtain⟨v,rfl,nM⟩:=aag;obtain⟨b,bS,tR,t1,t2,t3,t4⟩:=xz (q5 pv rfl) q4 (nM.mono q1) (hle.trans q1) hc.n;exact⟨b,v,bS,tR,rfl,t1,q2.trans (r1.trans (hk.role.trans iD.role)),q3.trans (r2.trans (hk.deaf.trans iD.deaf)),t2,t3,t4⟩
 have ajN:yZ lv P rs H.length c k kp .ret s' cI->tY lv P fn (gh E V k kp) a'.defers .returning a'.tmps V':=λhΦ=>by
  obtain⟨H',hg,hΦ⟩:=ao.out hΦ;refine fin .returning none H' rfl hg rfl λE2 V2 d2 M7 c1 c2 c3=> ?_;refine(hΦ E2 V2 d2 M7 c1 c2 c3).mono (λnx aW hx=> ?_) λ_ _ h=>h;obtain⟨g,args,rfl,Cr⟩:=hx;refine⟨g,args,rfl,Cr.mono λnT V3 hx=> ?_⟩;obtain⟨E3,H3,q1,q2,q3,q4,q5|q5⟩:=hx
  ·exact⟨E3,H3,q1,q2,q3,q4,.inl q5⟩
  ·exact q5.2.2.elim
 cases ae<;>cases e<;>first
  |exact he.elim
  |exact ajN hΦ
  |exact hΦ.elim
  |skip
 rename_i pv ch;obtain⟨v,eW,ak8⟩:∃v,ch=[{v,recovered:=false}]/\ap E' pv v:=he;subst eW;obtain⟨H',hg,hΦ⟩:=ao.out hΦ;refine fin _ (some pv) H' rfl hg ⟨v,rfl,ak8⟩ λE2 V2 d2 M7 c1 c2 c3=> ?_;refine(hΦ E2 V2 d2 M7 c1 c2 c3).mono (λnx aW hx=> ?_) λ_ _ h=>h;obtain⟨g,args,rfl,Cr⟩:=hx;refine⟨g,args,rfl,Cr.mono λnT V3 hx=> ?_⟩;obtain⟨E3,H3,q1,q2,q3,q4,q5|q5⟩:=hx
 ·exact⟨E3,H3,q1,q2,q3,q4,.inl q5⟩
 ·exact⟨E3,H3,q1,q2,q3,q4,.inr ⟨q5.1,q5.2.1,λpv' e=>by cases e;exact q5.2.2⟩⟩
end
open Go.Proofs Go.Gg.Tk
namespace Tk
def pX (x:aj):Bool:=(Tt (x.am.toNat+1)).any λbk=>(j6 x bk).any λh=> !(iI x 0 h).isEmpty
end Tk
def u7:AV:=.bR 163 (.agg [])
section
variable {lv:Bool}{H:SA}{kr kp:SA->Prop}
def aiJ{r:Nat}(h:∀L,kr (H++L)):qI lv ij (.fn (.func 117) [] [.op r 0],[]) H none kr kp:=by
 refine P2 (nt:=9) (by kernel_rfl) F.f117 rfl rfl rfl rfl rfl rfl rfl rfl (by kernel_rfl) (by simp) ?_;simp only[bc,To,Vo,Wt];(try simp only[seval,F.MB]);refine eg (a:=[]) rfl ⟨rfl,by decide,by simp,?_⟩;refine ai ?_;refine aA ?_;refine age ?_;exact .inl (h _)
def aiK{r:Nat}{a:AV}(hr:H[r]?=some (.cells [a] 4))(h:∀L,kr (H.set r (.cells [bv true] 4)++L)):qI lv ij (.fn (.func 117) [] [.op r 0],[]) H (some u7) kr kp:=by
 refine P2 (nt:=9) (by kernel_rfl) F.f117 rfl rfl rfl rfl rfl rfl rfl rfl (by kernel_rfl) (by simp) ?_;simp only[bc,To,Vo,T9,u7];(try simp only[seval,F.MB]);have tg:=ep hr;have yf:∀L:SA,(H++L)[r]?=some (.cells [a] 4):=λL=>dF hr;refine ai ?_;refine aA ?_;refine ah ?_;simp only[seval,yf,vn tg];exact .inl (h _)
end
def qU (x:aj)(m:Lp)(h:SD):dD Lp:=if(iI x 0 h).isEmpty then .go .ready else .bad .busy
def PM{x:aj}:∀(l:SS),bC (qU x) l .ready=if l.any (λh=> !(iI x 0 h).isEmpty)=true then .bad .busy else .go .ready
 |[]=>by simp[bC]
 |h::l=>by
  have ih:=PM (x:=x) l;by_cases he:(iI x 0 h).isEmpty=true
  ·have e1:qU x .ready h=.go .ready:=(by unfold qU;rw[if_pos he]);rw[bC,e1];dsimp only;rw[ih];simp only[ZT,he,X6,an_]
  ·have e1:qU x .ready h=.bad .busy:=(by unfold qU;rw[if_neg he]);rw[bC,e1];dsimp only;have e2:(iI x 0 h).isEmpty=false:=(by simpa using he);simp only[ZT,e2,W1,av2,if_true]
def agt(l:SS):bC (λ(_:Lp) (_:SD)=>(.bad .busy:dD Lp)) l .ready=if l.isEmpty then .go .ready else .bad .busy:=by
 cases l<;>rfl
def B9 (x:aj)(i:Nat):SA:=[.cells x.l 73,.cells [iv i] 3,.obj (.deferred (some [])),.gone]
def ku (x:aj)(H:SA):Nat->SA
 |0=>H++[.cells x.l 73,.cells [bv false] 4]
 |i+1=>ku x H i++B9 x i
def xr (H:SA):Nat->SE
 |0=>[]
 |i+1=>(H.length+2+4* i+2)::xr H i
def Ji(x:aj)(H:SA):∀i,(ku x H i).length=H.length+2+4* i
 |0=>by simp[ku]
 |i+1=>by simp[ku,B9,Ji x H i];omega
def PL(x:aj)(H:SA):∀i,∃Y,ku x H i=H++[.cells x.l 73,.cells [bv false] 4]++Y
 |0=>⟨[],by simp[ku]⟩
 |i+1=>by
  obtain⟨Y,h⟩:=PL x H i;exact⟨Y++B9 x i,by rw[ku,h,Ax]⟩
def Jh(x:aj)(H:SA):∀(i:Nat)(L:SA),∃Y,iL (xr H i) (ku x H i++L)=some (H++[.cells x.l 73,.cells [bv false] 4]++Y)
 |0,L=>⟨L,by rw[xr,zM,ku]⟩
 |i+1,L=>by
  have hl:=Ji x H i;have e:(ku x H (i+1)++L)=ku x H i++(B9 x i++L):=by rw[ku,Ax]
  have hg:(ku x H i++(B9 x i++L))[H.length+2+4* i+2]?=some (.obj (.deferred (some []))):=by rw[<- hl,aS];rfl
  obtain⟨Y,hY⟩:=Jh x H i ([.cells x.l 73,.cells [iv i] 3,.gone,.gone]++L);refine⟨Y,?_⟩;rw[xr,e,zL hg,<- hl,dg];exact hY
def PK(x:aj)(H:SA)(i:Nat)(L:SA):(ku x H i++L)[H.length]?=some (.cells x.l 73)/\(ku x H i++L)[H.length+1]?=some (.cells [bv false] 4):=by
 obtain⟨Y,h⟩:=PL x H i;rw[h,Ax,Ax];exact⟨aS H _ 0,aS H _ 1⟩
section
variable {lv:Bool}
def aj3{P:Tg}(rs:SW)(n:Nat)(c:AV×SC)(k kp:SF)(pv:AV)(s:AS)(ms:SE):yZ lv P rs n c k kp (.panic pv) s ms=ao (iL ms s.H) λH'=>qI lv P c H' (some pv) (λH'=>ao (gV P ⟨s.T,H'⟩ rs) λl=>bY n H' (iW l) k) (λH'=>bY n H' pv kp):=by rw[yZ]
def aj4{P:Tg}(rs:SW)(n:Nat)(c:AV×SC)(k kp:SF)(s:AS)(ms:SE):yZ lv P rs n c k kp .ret s ms=ao (iL ms s.H) λH'=>qI lv P c H' none (λH'=>ao (gV P ⟨s.T,H'⟩ rs) λl=>bY n H' (iW l) k) (λ_=>False):=by rw[yZ]
def J4{H:SA}{k kp:SF}{x:aj}(hx:x.Ok)(hk:k (bv (pX x)) H):a_ lv ij 87 H [x.av] k kp:=by
 refine ajX (rs:=[.cell 2 4]) (nt:=24) F.f87 rfl rfl rfl (by simp) λhH hA=> ?_;simp only[bc,To,aj.av];have Ku:=Ek hx;have hp:=hx.am;obtain⟨p,gU⟩:∃p:Nat,x.am=p:=⟨x.am.toNat,by omega⟩;have hw:Tc.wrap (x.am+1)=((p+1:Nat):Int):=by rw[gU,bF _ (by omega)];rfl
 refine ah ?_;simp only[seval,F.OW];refine Pv (n:=1) rfl rfl rfl rfl rfl rfl (by kernel_rfl) ?_;(try simp only[seval,UY,Vt,U7,UL]);refine⟨⟨_,_,_,rfl⟩,_,rfl,λbs=> ?_⟩;refine Fc ?_;refine sC ?_;refine ah ?_;simp only[seval,TN,TM,hw];refine xo ?_;refine Pw (measure λi=>p+1-i).wf (λi:Nat=>⟨[(10,iv i),(9,iv ((p+1:Nat):Int)),(2,.op (H.length+1) 0),(1,.op H.length 0)],ku x H i⟩) (λi=>xr H i) (λi=>i<=p+1/\∀j,j<i->∀h∈j6 x j,(iI x 0 h).isEmpty=true) 0 (fN (by simp only[seval];simp[bP,Wk.refl]) rfl) rfl ⟨by omega,λj hj=>by omega⟩ λi au=> ?_;obtain⟨oB,fi⟩:=au;have cD:=Ji x H i;have mO:=λL=>(PK x H i L).1;have xP:=λL=>(PK x H i L).2;obtain⟨N,hN⟩:∃N,N=H.length+2+4* i:=⟨_,rfl⟩;rw[<- hN]at cD;have R3:(ku x H i)[H.length]?=some (.cells x.l 73):=by have:=mO [];rwa[Tu]at this
 refine sC ?_;refine ai ?_;refine sC ?_;refine aA ?_;refine⟨λh=> ?_,λh=> ?_⟩
 ·
  have qf:i<=3:=by omega
  refine aL ?_;refine Fc ?_;refine xo ?_;refine sC ?_;refine ai ?_;refine sC ?_;refine ah ?_;simp only[seval,R3,TM];refine aK (JZ (x:=x) (n:=i) ?_);rw[cD];(try simp only[seval]);refine xo ?_;refine I_ (by rfl) λl fn T ag bo hT xN qb=> ?_;have mi:(ku x H i++[aa.cells x.l 73,aa.cells [iv i] 3]).length=N+2:=by rw[Tx,cD];rfl
  (try simp only[seval]);rw[cD];obtain⟨B,hB⟩:∃B,B=ku x H i:=⟨_,rfl⟩;rw[<- hB]at cD R3 mO xP⊢;have bg:∀(L:SA)(j:Nat),(B++L)[N+j]?=L[j]?:=λL j=>by rw[<- cD,aS]
  have Fh:∀(L:SA)(j:Nat)(y:aa),(B++L).set (N+j) y=B++L.set j y:=λL j y=>by rw[<- cD,dg]
  have R_:∀(M:SA)(lp:Lp),bO (B++([aa.cells x.l 73,.cells [iv i] 3,.obj (.deferred (some [])),.loop l .ready none fn T 24 #[16] ag bo (N+2)]++M))->bO (B++([aa.cells x.l 73,.cells [iv i] 3,.obj (.deferred (some [])),.loop l lp.st lp.pe fn T 24 #[16] ag bo (N+2)]++M)):=λM lp h_ z hz=>by
   have hlen:(B++([aa.cells x.l 73,.cells [iv i] 3,.obj (.deferred (some [])),.loop l lp.st lp.pe fn T 24 #[16] ag bo (N+2)]++M)).length=(B++([aa.cells x.l 73,.cells [iv i] 3,.obj (.deferred (some [])),.loop l .ready none fn T 24 #[16] ag bo (N+2)]++M)).length:=(by simp);have hl:=h_ (.loop l .ready none fn T 24 #[16] ag bo (N+2)) (by simp);rw[hlen];rcases Tp.1 hz with h'|h'
   ·exact h_ z (Ue _ h')
   ·rcases Tp.1 h' with h'|h'
    ·simp only[Th,Tv,or_false]at h';rcases h' with rfl|rfl|rfl|rfl
     ·exact h_ _ (by simp)
     ·exact h_ _ (by simp)
     ·exact h_ _ (by simp)
     ·exact hl
    ·exact h_ z (T1 _ (T1 _ h'))
  have hY:jH lv ij (.fn (.yield l) [] []) (qU x) (λlp:Lp=>B++[.cells x.l 73,.cells [iv i] 3,.obj (.deferred (some [])),.loop l lp.st lp.pe fn T 24 #[16] ag bo (N+2)]) (N+4) (λlp=>lp=.ready) (λh=>mD h/\∀ns∈f_ x h,∀a∈(iq x h ns).map (dC h ns),ju x a) u7:=by
   refine⟨λlp h M k kp gT ha dG=> ?_,λlp h DL gT ha he=> ?_,λlp=>by simp[cD],λm lp DL hz z e9=> ?_,rfl,rfl,rfl⟩
   ·replace gT:lp=.ready:=gT;subst gT;obtain⟨pc,Dk⟩:=ha;have h4:=pc.len;have nA:(h.map iv).length=4:=(by rw[Un,h4]);obtain⟨Lo,kY⟩:∃Lo,Lo=aa.loop l .busy none fn T 24 #[16] ag bo (N+2):=⟨_,rfl⟩;obtain⟨P1,dt⟩:∃P1:SA,P1=B++([.cells x.l 73,.cells [iv i] 3,.obj (.deferred (some [])),Lo]++M):=⟨_,rfl⟩;have ey:P1.length=N+4+M.length:=(by rw[dt];simp[cD];omega);have pg3:∀(L:SA),(P1++L)[N+3]?=some Lo:=λL=>(by rw[dt,Ax,bg];rfl);have px:∀(L:SA),(P1++L)[H.length]?=some (.cells x.l 73):=λL=>(by rw[dt,Ax];exact mO _);have pb:∀(L:SA)(j:Nat),(P1++L)[N+4+M.length+j]?=L[j]?:=λL j=>(by rw[<- ey,aS]);have wN:∀(L:SA),(P1++L)[N+4+M.length]?=L[0]?:=λL=>pb L 0;have pH:∀(L:SA)(y:aa),(P1++L).set (N+4+M.length+4) y=P1++L.set 4 y:=λL y=>(by rw[<- ey,dg]);have s3:∀(L:SA) y,(P1++L).set (N+3) y=B++([.cells x.l 73,.cells [iv i] 3,.obj (.deferred (some [])),y]++M)++L:=λL y=>by
     rw[dt,Ax,Fh];simp
    subst hT xN qb;rw[Ax];refine vR (id:=N+3) (by rw[bg];rfl) rfl (by kernel_rfl) λou Kv=> ?_;simp only[se];have we:Vv 4 [iv 0,iv 0,iv 0,iv 0]=[]:=rfl;refine ah ?_;simp only[seval,h4,we];unfold tW;refine⟨none,fn,_,24,#[16],_,_,_,by rw[bg];rfl,?_⟩;dsimp only;rw[Fh];simp only[Vg,UP];rw[<- kY];have xJ:B.length+(M.length+1+1+1+1)=N+4+M.length:=(by rw[cD];omega);rw[xJ];have xX:∀z:aa,(B++aa.cells x.l 73::aa.cells [AV.val (S_ Tc ↑i)] 3::aa.obj (ac' (some []))::Lo::(M++[z]))=P1++[z]:=λz=>(by rw[dt];simp[iv]);rw[xX];refine ah ?_;simp only[seval,px,TM,wN,h4,nA];rw[Tn (i:=4) (l:=h.map iv) (by rw[nA];exact Tm _)];refine aK (J3 (x:=x) (h:=h) (deep:=0) ?_);(try simp only[seval]);refine b_ ?_;refine Fa (N+3) (by rfl) (by show (P1++_)[N+3]?=_;rw[pg3,kY]) λl2 eP T2 gI gJ ow xO xQ=> ?_;simp only[seval];rw[ey];have xM:jH lv ij (.fn (.yield l2) [] []) (λ(_:Lp) (_:SD)=>(.bad .busy:dD Lp)) (λlp:Lp=>P1++[.cells (h.map iv) 80,.cells x.l 73,.cells (h.map iv) 80,.cells [iv 0] 3,.loop l2 lp.st lp.pe eP T2 24 #[20] gI gJ (N+2)]) (N+4+M.length+5) (λlp=>lp=.ready) (λa=>a.length=11) u7:=by
     refine⟨λlp t M2 k2 yq gT ht lh=> ?_,λlp t DL gT ht he=>(by cases he),λlp=>by simp[ey],λq lp DL hz z e9=> ?_,rfl,rfl,rfl⟩
     ·replace gT:lp=.ready:=gT;subst gT;simp only[cX]at lh;have lY:∀(L:SA),(P1++L)[N+4+M.length+4]?=L[4]?:=λL=>pb L 4;subst ow xO xQ;rw[Ax];refine vR (id:=N+4+M.length+4) (by rw[lY];rfl) rfl (by kernel_rfl) λre Kw=> ?_;simp only[se];refine aL ?_;unfold tW;refine⟨none,eP,_,24,#[20],_,_,_,by rw[lY];rfl,?_⟩;dsimp only;rw[pH];simp only[Vg,UP];refine ah ?_;simp only[seval,F.MB];show bY _ (P1++_) _ yq;rw[Ax]at lh;exact bZ lh
     ·rcases Tp.1 e9 with h'|h'
      ·exact hz z (Ue _ h')
      ·have hl:=hz _ (T1 _ (Uf (i:=4) rfl));simp only[Th,Tv,or_false]at h';rcases h' with rfl|rfl|rfl|rfl|rfl
       ·exact hz _ (T1 _ (by simp))
       ·exact hz _ (T1 _ (by simp))
       ·exact hz _ (T1 _ (by simp))
       ·exact hz _ (T1 _ (by simp))
       ·exact hl
    rw[ey]at ow;have Gn:∀n,Lt n u7:=λn=>(by simp[u7,u5,lV]);refine cO (JU (x:=x) (h:=h) (deep:=0) (ir:=N+4+M.length+1) (ih:=N+4+M.length+1+1) (id:=N+4+M.length+1+2) (σ:=Lp.ready) hx pc xM (λlp L=> ?_) (λlp L=> ?_) (λlp L=> ?_) Gn rfl (λa ha=>ha) (λns jf a ha=>(Dk ns jf a ha).len) ?_)
    ·rw[Ax];exact pb _ 1
    ·rw[Ax];exact pb _ 2
    ·rw[Ax];exact pb _ 3
    rw[agt];have lY:∀(L:SA),(P1++L)[N+4+M.length+4]?=L[4]?:=λL=>pb L 4;by_cases sU:(iI x 0 h).isEmpty=true
    ·rw[if_pos sU];have e1:qU x .ready h=.go .ready:=(by unfold qU;rw[if_pos sU]);rw[e1]at dG;simp only[cX]at dG;simp only[gg,Tu];refine⟨.ready,none,_,_,_,_,_,_,_,by rw[lY];rfl,by decide,?_⟩;rw[pH,HO];(try simp only[seval]);show oV _ _ _ _ _ _ _;refine⟨l,.busy,none,fn,_,24,#[16],_,_,N+2,by show (P1++_)[_]?=_;rw[pg3,kY],?_⟩;show bY (N+4+M.length) ((P1++_).set _ _) _ k;rw[s3];rw[Ax]at dG;exact iK (G:=[.cells (h.map iv) 80,.cells x.l 73,.cells (h.map iv) 80,.cells [iv 0] 3,.gone]) (Wk.refl _) (by simp[iv];exact⟨rfl,rfl⟩) (by simp[cD];omega) (R_ M .ready ou) (.val _) dG
    ·rw[if_neg sU];have e1:qU x .ready h=.bad .busy:=(by unfold qU;rw[if_neg sU]);rw[e1]at dG;simp only[cX]at dG;simp only[gg,Tu];show bY (N+4+M.length) (P1++_) u7 kp;rw[Ax]at dG;refine iK (H':=B++([aa.cells x.l 73,.cells [iv i] 3,.obj (.deferred (some [])),.loop l Lp.busy.st Lp.busy.pe fn _ 24 #[16] _ _ (N+2)]++M)) (Wk.refl _) (by rw[dt,kY];rfl) (by simp[cD];omega) (R_ M .busy ou) (Gn _) dG
   ·replace gT:lp=.ready:=gT;subst gT;unfold qU at he;split at he
    ·cases he;rfl
    ·cases he
   ·rcases Tp.1 e9 with h'|h'
    ·exact hz z (Ue _ h')
    ·have hl:=hz _ (T1 _ (Uf (i:=3) rfl));simp only[Th,Tv,or_false]at h';rcases h' with rfl|rfl|rfl|rfl
     ·exact hz _ (T1 _ (by simp))
     ·exact hz _ (T1 _ (by simp))
     ·exact hz _ (T1 _ (by simp))
     ·exact hl
  have Gn:∀n,Lt n u7:=λn=>by simp[u7,u5,lV]
  refine cO (JR (x:=x) (bk:=i) (ir:=N) (it:=N+1) (σ:=Lp.ready) hx hY (λlp L=> ?_) (λlp L=> ?_) qf Gn rfl (λa ha=>Ku i qf a ha) ?_)
  ·rw[Ax];exact bg _ 0
  ·rw[Ax];exact bg _ 1
  rw[PM];have bH:=TL i (by omega)
  by_cases CC:(j6 x i).any (λh=> !(iI x 0 h).isEmpty)=true
  ·rw[if_pos CC];have CL:pX x=true:=by
    unfold pX;rw[Vp];exact⟨i,by rw[UA];omega,CC⟩
   rw[CL]at hk;simp only[gg,Tu];(try simp only[seval,aj3]);obtain⟨Y,v6⟩:=Jh x H i [.cells x.l 73,.cells [iv i] 3,.gone,.loop l .busy none fn T 24 #[16] ag bo (N+2)];rw[<- hB]at v6;have hgo:iL ((N+2)::xr H i) (B++[.cells x.l 73,.cells [iv i] 3,.obj (.deferred (some [])),.loop l Lp.busy.st Lp.busy.pe fn T 24 #[16] ag bo (N+2)])=some (H++[.cells x.l 73,.cells [bv false] 4]++Y):=by
    rw[zL (by rw[bg];rfl),Fh];exact v6
   refine eg hgo ?_;have cN:(H++[aa.cells x.l 73,.cells [bv false] 4]++Y)[H.length+1]?=some (.cells [bv false] 4):=(by rw[Ax];exact aS H _ 1);refine aiK cN λL=> ?_;have cx:((H++[aa.cells x.l 73,.cells [bv false] 4]++Y).set (H.length+1) (.cells [bv true] 4)++L)[H.length+1]?=some (.cells [bv true] 4):=by
    rw[Ax,dg,Ax];exact aS H _ 1
   (try simp only[seval,gV,vb,cx,aa.cellsOf]);exact gQ hH hk
  ·rw[if_neg CC];simp only[gg,Tu];refine⟨.ready,none,_,_,_,_,_,_,_,by show (B++_)[N+3]?=_;rw[bg];rfl,by decide,?_⟩;rw[show N+2+1=N+3 from rfl,Fh,HN];(try simp only[seval]);refine Fb ?_;refine ah ?_;simp only[seval,bH];refine⟨i+1,?_,⟨by omega,λj hj g hm=> ?_⟩,fN (by push_cast;simp only[seval];simp[bP,Wk.refl]) (by rw[hB];rfl),by rw[xr,hN]⟩
   ·show p+1-(i+1)<p+1-i;omega
   ·by_cases cy:j<i
    ·exact fi j cy g hm
    ·have:j=i:=(by omega);subst this;apply Uj;intro aH;exact CC (Vp.2 ⟨g,hm,by simpa using aH⟩)
 ·
  have dx:i=p+1:=by omega
  subst dx;have CL:pX x=false:=by
   unfold pX;rw[Bool.eq_false_iff];intro hc;obtain⟨j,h1,h2⟩:=Vp.1 hc;obtain⟨h,h3,h4⟩:=Vp.1 h2;rw[UA]at h1;have:=fi j (by omega) h h3;rw[this]at h4;cases h4
  rw[CL]at hk;have RX:(ku x H (p+1))[H.length+1]?=some (.cells [bv false] 4):=by have:=xP [];rwa[Tu]at this
  refine bT ?_;refine sC ?_;refine ah ?_;simp only[seval,RX];rw[qE RX];refine Fb ?_;refine kq ?_;rw[aj4];obtain⟨Y,v6⟩:=Jh x H (p+1) [];rw[Tu]at v6;refine eg v6 ?_;refine aiJ λL=> ?_;have cx:(H++[aa.cells x.l 73,.cells [bv false] 4]++Y++L)[H.length+1]?=some (.cells [bv false] 4):=by
   rw[Ax,Ax];exact aS H _ 1
  (try simp only[seval,gV,vb,cx,aa.cellsOf]);exact gQ hH hk
end
open Go.Conc Go.Proofs Go.Gg.Tk
open Go.Extern
section
variable {lv:Bool}{H:SA}{k kp:SF}
def sI{n lo hi:Int}(hk:k (bv (decide (n<lo)||decide (n>hi))) H):a_ lv ij 57 H [iv n,iv lo,iv hi] k kp:=by
 refine bw (rs:=[.tmp 6]) (nt:=15) Tryz.f57 λhH hA=> ?_;simp only[bc,To];refine ai ?_;by_cases h:n<lo
 ·have h1:decide (n<lo)=true:=by simpa using h
  refine ah ?_;simp only[seval,h1];refine aP ?_;rw[h1,av2]at hk;exact bZ hk
 ·have h1:decide (n<lo)=false:=by simpa using h
  refine ah ?_;simp only[seval,h1];refine aP ?_;rw[h1,an_]at hk;exact bZ hk
def ajq(hk:k (bv true) H):a_ lv ij 55 H [] k kp:=by
 refine bw (rs:=[.tmp 0]) (nt:=1) Tryz.f55 λhH hA=> ?_;simp only[bc,To];refine ai ?_;refine ai ?_;refine aP ?_;exact bZ hk
def aiC{t:AV}(hk:k (bv false) H):a_ lv ij 100 H [.val .nilIface,t] k kp:=by
 refine bw (rs:=[.tmp 4]) (nt:=42) av7 λhH hA=> ?_;simp only[bc,To];refine ai ?_;refine ah ?_;simp only[seval,F.qz];refine aA ?_;refine ai ?_;refine aP ?_;exact bZ hk
def ajr(hk:k (iv 0) H):a_ lv ij 59 H [.val .nilIface] k kp:=by
 refine bw (rs:=[.tmp 2]) (nt:=9) awe λhH hA=> ?_;simp only[bc,To];refine ai ?_;refine ai ?_;refine ah ?_;simp only[seval,F.aaX];refine aK (aiC ?_);(try simp only[seval]);refine aA ?_;refine aL ?_;refine ai ?_;refine aP ?_;exact gQ hH hk
def fK (t:Nat):T5:=.pointer (some ⟨1,t,none⟩)
def R.akw:bm ij (Rtype.handle 147) (fK 147):=λw es=>by kernel_rfl
def R.Rq:bm ij (Rtype.handle 144) (fK 144):=λw es=>by kernel_rfl
def R.amT:bm ij (Rtype.kind 147) 22:=λw es=>by kernel_rfl
def R.aa4:bm ij (Rtype.kind 144) 25:=λw es=>by kernel_rfl
def R.kind (p : T5) : bm ij (ZI (ij.types.size + ZB) 209 (.agg #[p]) "Kind") (179, p) := λw es => by kernel_rfl
def R.elem (p : T5) : bm ij (ZI (ij.types.size + ZB) 209 (.agg #[p]) "Elem") (192, .agg #[p]) := λw es => by kernel_rfl
def R.impl (p : T5) : bm ij (ZI (ij.types.size + ZB) 209 (.agg #[p]) "Implements") (193, .agg #[p]) := λw es => by kernel_rfl
def R.afZ (p : T5) : bm ij (ZI (ij.types.size + ZB) 209 (.agg #[p]) "AssignableTo") (190, .agg #[p]) := λw es => by kernel_rfl
def R.ahL:Ext ij 126 (λargs=>ReflectliteValue.unpack (args.getD 0 (.tuple #[]))):=⟨⟨Tryz.f126,by kernel_rfl,by kernel_rfl,by kernel_rfl,by kernel_rfl,by kernel_rfl⟩⟩
def R.ahM : Ext ij 127 (ReflectliteValue.methodAny (ReflectliteValue.valueError "reflectlite.Value.Type" 0) λt _ _ _ => ReflectliteType.toType t) := ⟨⟨Tryz.f127, by kernel_rfl, by kernel_rfl, by kernel_rfl, by kernel_rfl, by kernel_rfl⟩⟩
def R.ahN : Ext ij 128 (ReflectliteValue.method (ReflectliteValue.valueError "reflectlite.Value.IsNil" 0) ReflectliteValue.isNil) := ⟨⟨Tryz.f128, by kernel_rfl, by kernel_rfl, by kernel_rfl, by kernel_rfl, by kernel_rfl⟩⟩
def R.ahP : Ext ij 155 (ReflectliteValue.method (ReflectliteValue.valueError "reflectlite.Value.Elem" 0) ReflectliteValue.elem) := ⟨⟨Tryz.f155, by kernel_rfl, by kernel_rfl, by kernel_rfl, by kernel_rfl, by kernel_rfl⟩⟩
def R.ahQ:Ext ij 156 ReflectliteValue.set:=⟨⟨Tryz.f156,by kernel_rfl,by kernel_rfl,by kernel_rfl,by kernel_rfl,by kernel_rfl⟩⟩
def R.ahO:Ext ij 154 ReflectliteType.typeOf:=⟨⟨Tryz.f154,by kernel_rfl,by kernel_rfl,by kernel_rfl,by kernel_rfl,by kernel_rfl⟩⟩
def R.ahR:Ext ij 179 (ReflectliteType.abiMethod λt=>do pure (.int .u8 (<- Rtype.kind t))):=⟨⟨Tryz.f179,by kernel_rfl,by kernel_rfl,by kernel_rfl,by kernel_rfl,by kernel_rfl⟩⟩
def R.JF:Ext ij 192 (ReflectliteType.method ReflectliteType.elem):=⟨⟨Tryz.f192,by kernel_rfl,by kernel_rfl,by kernel_rfl,by kernel_rfl,by kernel_rfl⟩⟩
def R.Fz : Ext ij 193 (ReflectliteType.relation "Implements" ReflectliteType.implements_) := ⟨⟨Tryz.f193, by kernel_rfl, by kernel_rfl, by kernel_rfl, by kernel_rfl, by kernel_rfl⟩⟩
def R.JD : Ext ij 190 (ReflectliteType.relation "AssignableTo" ReflectliteType.assignableTo) := ⟨⟨Tryz.f190, by kernel_rfl, by kernel_rfl, by kernel_rfl, by kernel_rfl, by kernel_rfl⟩⟩
def R.ace(a:Wp):bm ij (ReflectliteValue.parts (.agg #[fK 147,.pointer (some a),.int .u64 150])) (some (147,a,150)):=λw es=>by kernel_rfl
def R.apb(a:Wp)(f:Int)(hf:f=409\/f=153):bm ij (ReflectliteValue.parts (.agg #[fK 144,.pointer (some a),.int .u64 f])) (some (144,a,f.toNat)):=by
 rcases hf with rfl|rfl
 ·exactλw es=>by kernel_rfl
 ·exactλw es=>by kernel_rfl
def R.type (a : Wp) : bm ij (ReflectliteValue.methodAny (ReflectliteValue.valueError "reflectlite.Value.Type" 0) (λt _ _ _ => ReflectliteType.toType t) #[.agg #[fK 147, .pointer (some a), .int .u64 150]]) (.iface 209 (.agg #[fK 147])) := λw es => by kernel_rfl
def R.amX:bm ij (ReflectliteType.abiMethod (λt=>do pure (.int .u8 (<- Rtype.kind t))) #[fK 147]) (.int .u8 22):=λw es=>by kernel_rfl
def R.amW:bm ij (ReflectliteType.abiMethod (λt=>do pure (.int .u8 (<- Rtype.kind t))) #[fK 144]) (.int .u8 25):=λw es=>by kernel_rfl
def R.ah1:bm ij (ReflectliteType.method ReflectliteType.elem #[.agg #[fK 147]]) (.iface 209 (.agg #[fK 144])):=λw es=>by kernel_rfl
def R.amG : bm ij (ReflectliteType.relation "Implements" ReflectliteType.implements_ #[.agg #[fK 144], .iface 209 (.agg #[fK 92])]) (.bool true) := λw es => by kernel_rfl
def R.afL : bm ij (ReflectliteType.relation "AssignableTo" ReflectliteType.assignableTo #[.agg #[fK 144], .iface 209 (.agg #[fK 144])]) (.bool true) := λw es => by kernel_rfl
def R.atb(v:T5):bm ij (ReflectliteType.typeOf #[.iface 144 v]) (.iface 209 (.agg #[fK 144])):=λw es=>by kernel_rfl
def R.aib:bm ij (Rtype.elem? 147) (some 144):=λw es=>by kernel_rfl
def R.ahi:bm ij (Rtype.directlyAssignable 144 144) true:=λw es=>by kernel_rfl
def R.t156:Ty ij 147=some (1,false):=by kernel_rfl
def R.t153:Ty ij 144=some (2,true):=by kernel_rfl
def vH (t c:Nat)(f:Int):AV:=.agg [.val (fK t),.op c 0,.val (.int .u64 f)]
def tH (t:Nat):AV:=.bR 209 (.agg [.val (fK t)])
def ahv{E:Env}{t:Nat}{vs:SG}(h:bL E [tH t] vs):vs=#[.iface 209 (.agg #[fK t])]:=by
 obtain⟨v,rfl,hv⟩:=xw h;cases hv with
 |bR hv=>rw[P6 hv]
def aek{t:Nat}{a:AV}{l:SC}{kd:Nat}(hh:bm ij (Rtype.handle t) (fK t))(dP:bm ij (Rtype.kind t) kd)(hl:a.parts=some l)(hk:k (vH t H.length (awD (kd+128))) (H++[.cells l t])):eM lv ij (.fn (.func 126) [] []) H [.bR t a] k kp:=aiA R.ahL hh dP hl hk
def atH{c:Nat}(hk:k (tH 147) H):eM lv ij (.fn (.func 127) [] []) H [vH 147 c 150] k kp:=
 PJ R.ahM (tH 147) (λE vs hd=>by
  obtain⟨v,rfl,hv⟩:=xw hd;obtain⟨hi,rfl⟩:=Cd hv;exact⟨_,R.type _,.bR (.agg rfl λi b hb=>by match i,hb with|0,hb=>cases hb;exact .val _)⟩) hk
def ael {t : Nat} {n : Int} (h : bm ij (ReflectliteType.abiMethod (λt => do pure (.int .u8 (<- Rtype.kind t))) #[fK t]) (.int .u8 n)) (hk : k (.val (.int .u8 n)) H) : sj lv ij (tH t) "Kind" H [] k kp :=
 G5 _ (R.kind _) R.ahR (λE vs hd=>by
  obtain rfl:vs=#[]:=Xm hd.1;exact⟨_,h,.val _⟩) hk
def atI {c b : Nat} (hc : H[c]? = some (.cells [.op b 0] 147)) (hk : k (bv false) H) : eM lv ij (.fn (.func 128) [] []) H [vH 147 c 150] k kp := aiy (z := ReflectliteValue.valueError "reflectlite.Value.IsNil" 0) R.ahN R.ace rfl R.t156 hc hk
def atQ (hk : k (tH 144) H) : sj lv ij (tH 147) "Elem" H [] k kp :=
 G5 (tH 144) (R.elem _) R.JF (λE vs hd=>by
  obtain rfl:vs=#[]:=Xm hd.1;exact⟨_,R.ah1,.bR (.agg rfl λi b hb=>by match i,hb with|0,hb=>cases hb;exact .val _)⟩) hk
def atS (hk : k (bv true) H) : sj lv ij (tH 144) "Implements" H [.val (.iface 209 (.agg #[fK 92]))] k kp :=
 G5 _ (R.impl _) R.Fz (λE vs hd=>by
  obtain⟨v,rfl,hv⟩:=xw hd;cases hv;exact⟨_,R.amG,.val _⟩) hk
def atJ{a:AV}(hk:k (tH 144) H):eM lv ij (.fn (.func 154) [] []) H [.bR 144 a] k kp:=
 PJ R.ahO (tH 144) (λE vs hd=>by
  obtain⟨v,rfl,hv⟩:=xw hd;cases hv with
  |bR hv=>exact⟨_,R.atb _,.bR (.agg rfl λi b hb=>by match i,hb with|0,hb=>cases hb;exact .val _)⟩) hk
def atP (hk : k (bv true) H) : sj lv ij (tH 144) "AssignableTo" H [tH 144] k kp :=
 G5 _ (R.afZ _) R.JD (λE vs hd=>by
  obtain rfl:=ahv hd;exact⟨_,R.afL,.val _⟩) hk
def atK {c b : Nat} (hc : H[c]? = some (.cells [.op b 0] 147)) (hk : k (vH 144 b 409) H) : eM lv ij (.fn (.func 155) [] []) H [vH 147 c 150] k kp := aix (z := ReflectliteValue.valueError "reflectlite.Value.Elem" 0) R.ahP R.ace rfl R.t156 R.aib R.Rq R.aa4 hc hk
def atL{b c:Nat}{p q r s:AV}(hb:H[b]?=some (.cells [r,s] 144))(hc:H[c]?=some (.cells [p,q] 144))(hl:∀a∈[p,q],a.leaf=true)(hk:k (.aF []) (H.set b (.cells [p,q] 144))):eM lv ij (.fn (.func 156) [] []) H [vH 144 b 409,vH 144 c 153] k kp:=
 aiz (f1:=409) (f2:=153) R.ahQ (λa f hf=>R.apb a f hf) rfl R.t153 R.ahi hb hc rfl rfl hl hk
def aiO{p q:Int}{r s:AV}{b c:Nat}(hb:H[b]?=some (.cells [r,s] 144))(hc:H[c]?=some (.cells [.op b 0] 147))(hk:k (bv true) (H.set b (.cells [iv p,iv q] 144))):a_ lv ij 129 H [.bR 144 (.agg [iv p,iv q]),.bR 147 (.op b 0),vH 147 c 150,tH 144] k kp:=by
 refine bw (rs:=[.tmp 8]) (nt:=62) Tryz.f129 λhH hA=> ?_;simp only[bc,To,vH];have cD:b<H.length:=(Tj.1 hb).1;have KQ:∀L:SA,(H++L)[b]?=some (.cells [r,s] 144):=λL=>dF hb;have hcA:∀L:SA,(H++L)[c]?=some (.cells [.op b 0] 147):=λL=>dF hc;have LZ:∀(L:SA)(y:aa),(H++L).set b y=H.set b y++L:=λL y=>VW _ _ cD;have t177:Ty ij 181=some (3,true):=by kernel_rfl
 refine ai ?_;refine b_ ?_;refine fS 0 (λ_=>[]) (λ_=>H++[.cells [.val (fK 147),.op c 0,.val (.int .u64 150)] 181]) (λ_=>True) (λ_ _=>rfl) (by simp) rfl (λ_ _ _=>rfl) trivial (λbX cU i cK _ RR hR=> ?_);clear bX cU hR;refine ai ?_;refine nu (atJ ?_);(try simp only[seval]);refine Du (atP ?_);(try simp only[seval]);refine aA ?_;refine ah ?_;simp only[seval,t177,TN];refine nu (atK (c:=c) (b:=b) (hcA _) ?_);(try simp only[seval]);refine nu (aek R.Rq R.aa4 rfl ?_);have oE:∀L:SA,(H++L).length=H.length+L.length:=λL=>Tx;(try simp only[seval,oE]);refine nu (atL (b:=b) (c:=H.length+1) (p:=iv p) (q:=iv q) (r:=r) (s:=s) ?_ ?_ (by simp[AV.leaf,Value.one]) ?_)
 ·exact KQ _
 ·exact aS H _ 1
 (try simp only[seval]);refine ai ?_;refine aP ?_;rw[LZ];exact iK (Wk.refl _) rfl (by rw[UF];exact Tm _) (aar hH (by intro a ha;simp only[Th,Tv,or_false]at ha;rcases ha with rfl|rfl<;>exact .val _)) (.val _) hk
def TO{H:List aa}:∀(L:SA),(H++L)[H.length+1]?=L[1]?:=λL=>aS H L 1
def aiB{p q:Int}{r s:AV}{b:Nat}(hm:H[0]?=some .main)(hb:H[b]?=some (.cells [r,s] 144))(hk:k (bv true) (H.set b (.cells [iv p,iv q] 144))):a_ lv ij 100 H [.bR 144 (.agg [iv p,iv q]),.bR 147 (.op b 0)] k kp:=by
 refine bw (rs:=[.tmp 4]) (nt:=42) av7 λhH hA=> ?_;simp only[bc,To];have cD:b<H.length:=(Tj.1 hb).1;have KQ:∀L:SA,(H++L)[b]?=some (.cells [r,s] 144):=λL=>dF hb;have s7:∀L:SA,(H++L)[0]?=some .main:=λL=>dF hm;have LZ:∀(L:SA)(y:aa),(H++L).set b y=H.set b y++L:=λL y=>VW _ _ cD;have oE:∀L:SA,(H++L).length=H.length+L.length:=λL=>Tx;have t177:Ty ij 181=some (3,true):=by kernel_rfl
 have t180:Ty ij 184=some (1,false):=by kernel_rfl
 refine ai ?_;refine ah ?_;simp only[seval,F.qz];refine aA ?_;refine aL ?_;have i20:lx ij 20=some true:=by kernel_rfl
 refine ah ?_;simp only[seval,i20];refine aA ?_;refine aL ?_;refine ai ?_;refine nu (aek R.akw R.amT rfl ?_);have z1:eJ ij 181=some (.agg #[.pointer none,.pointer none,.int .u64 0]):=by kernel_rfl
 have sT:Vv 3 [AV.val (Zf none),AV.val (Zf none),AV.val (S_ Ux 0)]=[]:=rfl;(try simp only[seval,vH,oE,t177,z1,TO,sT,dg]);refine⟨rfl,?_⟩;refine ah ?_;simp only[seval,t177,TO];refine nu (atH (c:=H.length) ?_);(try simp only[seval]);refine ai ?_;refine Du (ael (t:=147) R.amX ?_);(try simp only[seval,t177,TO,show ((22:Int)!=22)=false from rfl]);refine nu (atI (c:=H.length) (b:=b) (by exact TN _) ?_);(try simp only[seval]);refine aA ?_;refine aL ?_;refine ai ?_;refine Du (atQ ?_);(try simp only[seval]);refine ai ?_;refine Du (ael (t:=144) R.amW ?_);have mR:Co.lookup 0=some (.iface 209 (.agg #[fK 92])):=rfl;(try simp only[seval,t180,s7,mR,show ((25:Int)!=20)=true from rfl]);refine Du (atS ?_);(try simp only[seval]);refine aA ?_;refine aL ?_;refine ah ?_;simp only[seval,t177,TO];refine aK (aiO (p:=p) (q:=q) (r:=r) (s:=s) (b:=b) (c:=H.length) (by exact KQ _) (by exact TN _) ?_);(try simp only[seval]);refine aP ?_;rw[LZ];exact iK (Wk.refl _) rfl (by rw[UF];exact Tm _) (aar hH (by intro a ha;simp only[Th,Tv,or_false]at ha;rcases ha with rfl|rfl<;>exact .val _)) (.val _) hk
end
namespace Tk
def jV (b:iz)(hi e:Int):Int:=if(b.min<0\/b.min>hi)\/(b.max<0\/b.max>hi)then e else if b.min>b.max then 5 else 0
def mN (hours:Int)(y:aD):Int:=if jV y.number 99 1=0 then jV y.hour (hours-1) 3 else jV y.number 99 1
def lZ (hours:Int)(s:Seen):Int:=if s.hour<0\/s.hour>hours then 3 else jV s.next 99 1
def me {α:Type}(f:α->Int):List α->Int
 |[]=>0
 |a::l=>if f a=0 then me f l else f a
def kv (x:aj):Int:=
 if(x.first<0\/x.first>90)\/(x.hours<1\/x.hours>3)\/(x.am<1\/x.am>3)then 1 else
 if x.seen.length>3 then 6 else
 if me (lZ x.hours) x.seen≠0 then me (lZ x.hours) x.seen else
 if x.pieces.length>4 then 6 else
 if me (mN x.hours) x.pieces≠0 then me (mN x.hours) x.pieces else
 if x.aC.length>3 then 6 else me (mN x.hours) x.aC
def zE{α:Type}{f:α->Int}:∀{l:List α},me f l=0<->∀a∈l,f a=0
 |[]=>by simp[me]
 |a::l=>by
  unfold me;by_cases h:f a=0
  ·rw[if_pos h,zE];simp[h]
  ·rw[if_neg h];simp[h]
def Fe{b:iz}{hi e:Int}(he:e≠0):jV b hi e=0<->(0<=b.min/\b.min<=b.max/\b.max<=hi):=by
 unfold jV;by_cases h:(b.min<0\/b.min>hi)\/(b.max<0\/b.max>hi)
 ·rw[if_pos h];constructor
  ·intro e';exact absurd e' he
  ·intro h';omega
 ·rw[if_neg h];by_cases h2:b.min>b.max
  ·rw[if_pos h2];constructor
   ·intro e';omega
   ·intro h';omega
  ·rw[if_neg h2];constructor
   ·intro _;omega
   ·intro _;rfl
def akE{hours:Int}{y:aD}:mN hours y=0<->(0<=y.number.min/\y.number.min<=y.number.max/\y.number.max<=99)/\(0<=y.hour.min/\y.hour.min<=y.hour.max/\y.hour.max<=hours-1):=by
 unfold mN;by_cases h:jV y.number 99 1=0
 ·rw[if_pos h,Fe (by decide)];rw[Fe (by decide)]at h;exact⟨λh'=>⟨h,h'⟩,λh'=>h'.2⟩
 ·rw[if_neg h];constructor
  ·intro h';exact absurd h' h
  ·intro h';exact absurd ((Fe (by decide)).2 h'.1) h
def yI{hours:Int}{s:Seen}:lZ hours s=0<->(0<=s.hour/\s.hour<=hours)/\(0<=s.next.min/\s.next.min<=s.next.max/\s.next.max<=99):=by
 unfold lZ;by_cases h:s.hour<0\/s.hour>hours
 ·rw[if_pos h];constructor
  ·intro h';omega
  ·intro h';omega
 ·rw[if_neg h,Fe (by decide)];exact⟨λh'=>⟨by omega,h'⟩,λh'=>h'.2⟩
def ud{x:aj}:kv x=0<->x.Ok:=by
 have hb:∀{b:iz}{hi:Int},vv b hi<->(0<=b.min/\b.min<=b.max/\b.max<=hi):=λ{b hi}=>⟨λh=>⟨h.min,h.le,h.max⟩,λh=>⟨h.1,h.2.1,h.2.2⟩⟩;have hh:∀{y:aD},IN x y<->mN x.hours y=0:=λ{y}=>by
  rw[akE];exact⟨λh=>⟨hb.1 h.number,hb.1 h.hour⟩,λh=>⟨hb.2 h.1,hb.2 h.2⟩⟩
 unfold kv;constructor
 ·intro h;by_cases h1:(x.first<0\/x.first>90)\/(x.hours<1\/x.hours>3)\/(x.am<1\/x.am>3)
  ·rw[if_pos h1]at h;omega
  rw[if_neg h1]at h;by_cases h2:x.seen.length>3
  ·rw[if_pos h2]at h;omega
  rw[if_neg h2]at h;by_cases h3:me (lZ x.hours) x.seen=0
  ·rw[if_neg (by simpa using h3)]at h;by_cases h4:x.pieces.length>4
   ·rw[if_pos h4]at h;omega
   rw[if_neg h4]at h;by_cases h5:me (mN x.hours) x.pieces=0
   ·rw[if_neg (by simpa using h5)]at h;by_cases h6:x.aC.length>3
    ·rw[if_pos h6]at h;omega
    rw[if_neg h6]at h;rw[zE]at h h3 h5;refine⟨by omega,by omega,by omega,by omega,by omega,by omega,λs hs=> ?_,λy hy=>hh.2 (h5 y hy),λy hy=>hh.2 (h y hy)⟩;have:=yI.1 (h3 s hs);exact⟨this.1,hb.2 this.2⟩
   ·rw[if_pos h5]at h;exact absurd h h5
  ·rw[if_pos h3]at h;exact absurd h h3
 ·intro h;have h1:=h.first;have h2:=h.hours;have h3:=h.am;have h4:=h.ve;have h5:=h.cW;have h6:=h.eG;rw[if_neg (by omega),if_neg (by omega),if_neg,if_neg (by omega),if_neg,if_neg (by omega),zE]
  ·exactλy hy=>hh.1 (h.stub y hy)
  ·rw[Xt,zE];exactλy hy=>hh.1 (h.piece y hy)
  ·rw[Xt,zE];exactλs hs=>yI.2 ⟨(h.seen s hs).1,hb.1 (h.seen s hs).2⟩
end Tk
open Go.Conc Go.Proofs Go.Gg.Tk
namespace Tk
def FJ{α:Type}{f:α->Int}:∀{l:List α}{i:Nat}{y:α},(∀j,j<i->∀z,l[j]?=some z->f z=0)->l[i]?=some y->f y≠0->me f l=f y
 |[],i,y,_,hy,_=>by simp at hy
 |a::l,0,y,_,hy,hn=>by
  obtain rfl:a=y:=by simpa using hy
  unfold me;rw[if_neg hn]
 |a::l,i+1,y,h0,hy,hn=>by
  unfold me;rw[if_pos (h0 0 (by omega) a rfl)];exact FJ (i:=i) (λj hj z hz=>h0 (j+1) (by omega) z (by simpa using hz)) (by simpa using hy) hn
def QU{α:Type}{f:α->Int}{l:List α}(h:∀j,j<l.length->∀z,l[j]?=some z->f z=0):me f l=0:=
 zE.2 λa ha=>by
  obtain⟨j,hj⟩:=WQ ha;exact h j (Tj.1 hj).1 a hj
end Tk
def xB (c a:Int):AV:=if c=0 then .val .nilIface else .bR 144 (.agg [iv c,iv a])
def xC(a:Int):xB 0 a=.val .nilIface:=rfl
def ny{c a:Int}(h:c≠0):xB c a=.bR 144 (.agg [iv c,iv a]):=if_neg h
open Go.Conc Go.Proofs Go.Gg.Tk
section
variable {lv:Bool}{H:SA}{k kp:SF}
def J6{b:iz}{hi e at':Int}(he:e≠0)(hk:k (xB (jV b hi e) at') H):a_ lv ij 99 H [b.av,iv hi,iv e,iv at'] k kp:=by
 refine bw (rs:=[.tmp 8]) (nt:=33) Tryz.f99 λhH hA=> ?_;simp only[bc,To,iz.av];obtain⟨o1,oH⟩:∃o,o=(decide (b.min<0)||decide (b.min>hi)):=⟨_,rfl⟩;obtain⟨o2,rB⟩:∃o,o=(decide (b.max<0)||decide (b.max>hi)):=⟨_,rfl⟩;refine ai ?_;refine ah ?_;simp only[seval,iz.l];refine aK (sI ?_);rw[<- oH];cases o1 with
 |true=>
  have hE:jV b hi e=e:=by unfold jV;rw[if_pos (.inl (by simpa using oH.symm))]
  rw[hE,ny he]at hk;(try simp only[seval]);refine aA ?_;refine ah ?_;simp only[seval,F.G7];refine aP ?_;exact eV hH (Wk.refl _) (by simp[dN,u5,lV]) hk
 |false=>
  (try simp only[seval]);refine aK (sI ?_);rw[<- rB];cases o2 with
  |true=>
   have hE:jV b hi e=e:=(by unfold jV;rw[if_pos (.inr (by simpa using rB.symm))]);rw[hE,ny he]at hk;(try simp only[seval]);refine aA ?_;refine ah ?_;simp only[seval,F.G7];refine aP ?_;exact eV hH (Wk.refl _) (by simp[dN,u5,lV]) hk
  |false=>
   have fi:¬((b.min<0\/b.min>hi)\/(b.max<0\/b.max>hi)):=by
    have h1:=oH.symm;have h2:=rB.symm;simp at h1 h2;omega
   (try simp only[seval]);refine aA ?_;by_cases h3:b.min>b.max
   ·have hE:jV b hi e=5:=(by unfold jV;rw[if_neg fi,if_pos h3]);rw[hE,ny (by decide)]at hk;have d3:decide (b.min>b.max)=true:=decide_eq_true h3;refine ah ?_;simp only[seval,d3];refine aA ?_;refine ah ?_;simp only[seval,F.G7];refine aP ?_;exact eV hH (Wk.refl _) (by simp[dN,u5,lV]) hk
   ·have hE:jV b hi e=0:=(by unfold jV;rw[if_neg fi,if_neg h3]);rw[hE,xC]at hk;have d3:decide (b.min>b.max)=false:=decide_eq_false h3;refine ah ?_;simp only[seval,d3];refine aA ?_;refine aL ?_;refine ai ?_;refine aP ?_;exact gQ hH hk
def TS{H:List aa}:∀(L:SA)(y:aa),(H++L).set H.length y=H++L.set 0 y:=λL y=>dg H L 0 y
def FD{c a:Int}(hm:H[0]?=some .main)(hk:k (iv c) H):a_ lv ij 59 H [xB c a] k kp:=by
 by_cases h:c=0
 ·subst h;exact ajr hk
 rw[ny h];refine bw (rs:=[.tmp 2]) (nt:=9) awe λhH hA=> ?_;simp only[bc,To];refine ai ?_;refine ai ?_;refine ah ?_;simp only[seval,F.aaX];refine aK (aiB (p:=c) (q:=a) (dF hm) (TN _) ?_);(try simp only[seval,TS]);refine aA ?_;refine ah ?_;simp only[seval,TN];refine aP ?_;exact gQ hH hk
def QH{x:aj}{y:Seen}{at':Int}(hk:k (xB (lZ x.hours y) at') H):a_ lv ij 58 H [x.av,y.av,iv at'] k kp:=by
 refine bw (rs:=[.tmp 6]) (nt:=19) Tryz.f58 λhH hA=> ?_;simp only[bc,To,aj.av,Seen.av];obtain⟨o1,oH⟩:∃o,o=(decide (y.hour<0)||decide (y.hour>x.hours)):=⟨_,rfl⟩;refine ah ?_;simp only[seval,TM,Seen.l];refine ai ?_;refine aK (sI ?_);rw[<- oH];cases o1 with
 |true=>
  have hE:lZ x.hours y=3:=by unfold lZ;rw[if_pos (by simpa using oH.symm)]
  rw[hE,ny (by decide)]at hk;(try simp only[seval]);refine aA ?_;refine ah ?_;simp only[seval,F.G7];refine aP ?_;exact eV hH (Wk.refl _) (by simp[dN,u5,lV]) hk
 |false=>
  have hE:lZ x.hours y=jV y.next 99 1:=by unfold lZ;rw[if_neg (by have:=oH.symm;simp at this;omega)]
  rw[hE]at hk;(try simp only[seval]);refine aA ?_;refine aL ?_;refine ai ?_;refine aK (J6 (b:=y.next) (by decide) ?_);(try simp only[seval]);refine aP ?_;exact eV hH (Wk.refl _) (by unfold xB;split<;>simp[dN,u5,lV]) hk
def QI{x:aj}{l:S9}(xY:1<=x.hours/\x.hours<=3)(qh:l.length<=4)(hk:∀a,k (xB (me (mN x.hours) l) a) H):a_ lv ij 60 H [x.av,aQ l] k kp:=by
 refine bw (rs:=[.tmp 4]) (nt:=34) Tryz.f60 λhH hA=> ?_;simp only[bc,To,aj.av];have yk:Tc.wrap (x.hours-1)=x.hours-1:=bF _ (by omega);refine ah ?_;simp only[seval,TM];refine ah ?_;simp only[seval,aQ];refine b_ ?_;refine t_ l.length (λi:Nat=>[(11,iv i)]) (λ_=>_) (λi=>∀j,j<i->∀z,l[j]?=some z->mN x.hours z=0) (λj hj=>by omega) (λbX cU i cK au R hR=> ?_);refine ai ?_;refine aA ?_;refine⟨λh=> ?_,λh=> ?_⟩
 ·have bG:i<l.length:=by omega
  obtain⟨y,hy⟩:=bU bG;have bH:=TL i (by omega)
  refine aL ?_;refine ah ?_;simp only[seval,Ba hy,iB bG];refine ai ?_;refine aK (J6 (b:=y.number) (by decide) ?_);(try simp only[seval]);by_cases h1:jV y.number 99 1=0
  ·rw[h1,xC];refine ah ?_;simp only[seval,F.qz];refine aA ?_;refine aL ?_;refine ah ?_;simp only[seval,TN,yk];refine aK (J6 (b:=y.hour) (by decide) ?_);(try simp only[seval]);have hE:mN x.hours y=jV y.hour (x.hours-1) 3:=(by unfold mN;rw[if_pos h1]);by_cases h2:jV y.hour (x.hours-1) 3=0
   ·rw[h2,xC];refine ah ?_;simp only[seval,F.qz];refine aA ?_;refine aL ?_;refine ah ?_;simp only[seval,bH];refine hR _ ⟨bG,λj hj z hz=> ?_,A3 (qA rfl rfl) (by simp only[seval];simp[bP,Wk.refl]) bX (by simp[dN])⟩;by_cases e:j=i
    ·subst e;rw[hy]at hz;cases hz;rw[hE,h2]
    ·exact au j (by omega) z hz
   ·have hF:=FJ (f:=mN x.hours) au hy (by rw[hE];exact h2);have hk:=hk i;rw[hF,hE,ny h2]at hk;rw[ny h2];refine ah ?_;simp only[seval,F.qz];refine aA ?_;refine ai ?_;refine aP ?_;exact eV hH (Wk.refl _) (by simp[dN,u5,lV]) hk
  ·have hE:mN x.hours y=jV y.number 99 1:=(by unfold mN;rw[if_neg h1]);have hF:=FJ (f:=mN x.hours) au hy (by rw[hE];exact h1);have hk:=hk i;rw[hF,hE,ny h1]at hk;rw[ny h1];refine ah ?_;simp only[seval,F.qz];refine aA ?_;refine ai ?_;refine aP ?_;exact eV hH (Wk.refl _) (by simp[dN,u5,lV]) hk
 ·have sX:i=l.length:=by omega
  subst sX;have hk:=hk 0;rw[QU au,xC]at hk;refine bT ?_;refine ai ?_;refine aP ?_;exact gQ hH hk
def zC{x:aj}(hm:H[0]?=some .main)(hk:k (iv (kv x)) H):a_ lv ij 18 H [x.av] k kp:=by
 refine bw (rs:=[.tmp 2]) (nt:=62) Tryz.f18 λhH hA=> ?_;simp only[bc,To,aj.av];have s7:∀L:SA,(H++L)[0]?=some .main:=λL=>dF hm;obtain⟨o1,oH⟩:∃o,o=(decide (x.first<0)||decide (x.first>90)):=⟨_,rfl⟩;obtain⟨o2,rB⟩:∃o,o=(decide (x.hours<1)||decide (x.hours>3)):=⟨_,rfl⟩;obtain⟨o3,wx⟩:∃o,o=(decide (x.am<1)||decide (x.am>3)):=⟨_,rfl⟩;have zX:(o1||(o2||o3))=true->kv x=1:=λh=>by
  unfold kv;rw[if_pos];rw[oH,rB,wx]at h;simpa[avO,decide_eq_true_eq]using h
 have So:(o1||(o2||o3))=false->¬((x.first<0\/x.first>90)\/(x.hours<1\/x.hours>3)\/(x.am<1\/x.am>3)):=λh=>by
  rw[oH,rB,wx]at h;simp only[Bool.or_eq_false_iff,decide_eq_false_iff_not]at h;omega
 refine ah ?_;simp only[seval,TM];refine ah ?_;simp only[seval,TN];refine aK (sI ?_);rw[<- oH];have one:kv x=1->bY H.length (H++[.cells [iv x.first,iv x.hours,iv x.am,cz x.seen,aQ x.pieces,aQ x.aC] 25]) (iv 1) k:=λh=>by
  rw[h]at hk;exact gQ hH hk
 cases o1 with
 |true=>
  (try simp only[seval]);refine aA ?_;refine ai ?_;refine aP ?_;exact one (zX rfl)
 |false=>
 (try simp only[seval,TN]);refine aK (sI ?_);rw[<- rB];cases o2 with
 |true=>
  (try simp only[seval]);refine aA ?_;refine ai ?_;refine aP ?_;exact one (zX rfl)
 |false=>
 (try simp only[seval,TN]);refine aK (sI ?_);rw[<- wx];cases o3 with
 |true=>
  (try simp only[seval]);refine aA ?_;refine ai ?_;refine aP ?_;exact one (zX rfl)
 |false=>
 have hg:=So rfl;have xY:1<=x.hours/\x.hours<=3:=by omega
 unfold kv at hk;rw[if_neg hg]at hk;clear one zX So oH rB wx;(try simp only[seval]);refine aA ?_;refine aL ?_;by_cases g3:x.seen.length>3
 ·have d3:decide ((3:Int)<x.seen.length)=true:=by simp;omega
  rw[if_pos g3]at hk;refine ah ?_;simp only[seval,TN,cz,d3];refine aA ?_;refine ai ?_;refine aP ?_;exact gQ hH hk
 have d3:decide ((3:Int)<x.seen.length)=false:=by simp;omega
 rw[if_neg g3]at hk;refine ah ?_;simp only[seval,TN,cz,d3];refine aA ?_;refine aL ?_;refine ah ?_;simp only[seval,TN,cz];refine b_ ?_;refine t_ x.seen.length (λi:Nat=>[(27,iv i)]) (λ_=>_) (λi=>∀j,j<i->∀z,x.seen[j]?=some z->lZ x.hours z=0) (λj hj=>by omega) (λbX cU i cK au R hR=> ?_);refine ai ?_;refine aA ?_;refine⟨λh=> ?_,λh=> ?_⟩
 ·have bG:i<x.seen.length:=by omega
  obtain⟨y,hy⟩:=bU bG;have bH:=TL i (by omega)
  refine aL ?_;refine ah ?_;simp only[seval,H5 hy,iB bG];refine ah ?_;simp only[seval,TN];refine aK (QH (x:=x) (y:=y) ?_);(try simp only[seval]);by_cases h1:lZ x.hours y=0
  ·rw[h1,xC];refine ah ?_;simp only[seval,F.qz];refine aA ?_;refine aL ?_;refine ah ?_;simp only[seval,bH];refine hR _ ⟨bG,λj hj z hz=> ?_,A3 (qA rfl rfl) (by simp only[seval];simp[bP,Wk.refl]) bX (by simp[dN])⟩;by_cases e:j=i
   ·subst e;rw[hy]at hz;cases hz;exact h1
   ·exact au j (by omega) z hz
  ·have hF:=FJ (f:=lZ x.hours) au hy h1;rw[hF,if_pos h1]at hk;rw[ny h1];refine ah ?_;simp only[seval,F.qz];refine aA ?_;refine ai ?_;rw[<- ny h1];refine aK (FD (s7 _) ?_);(try simp only[seval]);refine aP ?_;exact gQ hH hk
 ·have sX:i=x.seen.length:=by omega
  subst sX;rw[if_neg (by rw[Xt];exact QU au)]at hk;refine bT ?_;by_cases g4:x.pieces.length>4
  ·have d4:decide ((4:Int)<x.pieces.length)=true:=(by simp;omega);rw[if_pos g4]at hk;refine ah ?_;simp only[seval,TN,aQ,d4];refine aA ?_;refine ai ?_;refine aP ?_;exact gQ hH hk
  have d4:decide ((4:Int)<x.pieces.length)=false:=by simp;omega
  rw[if_neg g4]at hk;refine ah ?_;simp only[seval,TN,aQ,d4];refine aA ?_;refine aL ?_;refine ah ?_;simp only[seval,TN];refine aK (QI (x:=x) (l:=x.pieces) xY (by omega) (λa=> ?_));(try simp only[seval]);by_cases h1:me (mN x.hours) x.pieces=0
  ·rw[if_neg (by rw[Xt];exact h1)]at hk;rw[h1,xC];refine ah ?_;simp only[seval,F.qz];refine aA ?_;refine aL ?_;by_cases g5:x.aC.length>3
   ·have d5:decide ((3:Int)<x.aC.length)=true:=(by simp;omega);rw[if_pos g5]at hk;refine ah ?_;simp only[seval,TN,aQ,d5];refine aA ?_;refine ai ?_;refine aP ?_;exact gQ hH hk
   have d5:decide ((3:Int)<x.aC.length)=false:=(by simp;omega);rw[if_neg g5]at hk;refine ah ?_;simp only[seval,TN,aQ,d5];refine aA ?_;refine aL ?_;refine ah ?_;simp only[seval,TN];refine aK (QI (x:=x) (l:=x.aC) xY (by omega) (λa=> ?_));(try simp only[seval]);refine aK (FD (s7 _) ?_);(try simp only[seval]);refine aP ?_;exact gQ hH hk
  ·rw[if_pos h1]at hk;rw[ny h1];refine ah ?_;simp only[seval,F.qz];refine aA ?_;refine ai ?_;rw[<- ny h1];refine aK (FD (s7 _) ?_);(try simp only[seval]);refine aP ?_;exact gQ hH hk
end
end Go.Gg
