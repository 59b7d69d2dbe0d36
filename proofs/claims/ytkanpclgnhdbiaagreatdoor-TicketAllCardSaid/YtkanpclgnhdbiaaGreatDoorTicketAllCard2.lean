/- A part of the proof. -/
import Derived.Test.YtkanpclgnhdbiaaGreatDoorTicketAllCard1
import Derived.Conc.Beside
import Derived.Conc.CrowdTrace
import Derived.Conc.CrowdComm
set_option linter.all false
set_option maxRecDepth 4000
set_option maxHeartbeats 4000000
open Array renaming getElem?_append_right->Y',getElem?_eq_getElem->Tn,getElem?_eq_some_iff->T5,getElem?_map->XE,getElem?_modify->Xn,getElem?_setIfInBounds_ne->T6,getElem?_setIfInBounds_self_of_lt->Ug,getElem_mem->YV,mem_append->Vx,size_append->YC
open Bool renaming false_eq_true->UD
open Classical renaming byContradiction->Uz
open Go renaming Addr->WC,Code->U_,Event->XH,FuncId->UW,Goroutine->Tj,IntKind->U3,LoopState->axk,MemOp->Xj,Operand->Ur,Program->Tl,Touch->ZJ,Trace->Vq,Value->Uf,World->Uu
open Go.BinOp renaming neq->WZ
open Go.Conc renaming Deaf->VZ,Deaf_other->ayb,Knows->Xq,QuitsD->Z8,act?_of->axz,act?_old->Y9,deaf_succ->axo,getElem?_append_cases->Yo,getElem?_stand->Zd,heard_old->Xu,knows_own->ae',lt_of_act?->Xh,lt_size_of_getElem?->UQ,mem_ofEvents->UU,mem_of_getElem?->YU,ofEvent_cell0->axS,offersAt_of_not_blocked->Wc,offersAt_ph->aj_,served->U9,touch_mute->aw8,touch_of->Wb,woken_run->Zl
open Go.Conc.QuitsD renaming status->ar'
open Go.ConcN renaming le_sumTo->XD,sumTo_congr->Wz
open Go.Event renaming mute->XG
open Go.GoStatus renaming blocked->ax'
open Go.Goroutine renaming again->ZX
open Go.IntKind renaming i64->Tg
open Go.MemAct renaming low_mono->ah',ofEvent->Uw,touch?->Xk
open Go.MemAct.mark renaming injEq->axF
open Go.MemOp renaming ofEvents->Ui
open Go.Obj renaming deferred->ayj
open Go.Op renaming equal->XP
open Go.Proofs.Tryz renaming f107->axD,f109->axC,f89->axN,f97->ax5,prog->S_
open Go.Trace renaming g?->XB
open Go.Value renaming int->Th
open Go.World renaming cell?->VC,setCell->Yn
open Int renaming toNat->Zc
open List renaming append_assoc->Te,append_nil->To,cons_append->Wv,drop->U4,drop_append->WL,drop_append_of_le_length->Xt,drop_drop->axL,drop_eq_getElem_cons->UY,drop_eq_nil_of_le->U2,drop_length->asI,drop_zero->YA,ext_getElem?->Zo,flatMap_append->Vf,flatMap_cons->UV,foldl->axr,foldl_append->Xo,foldl_cons->VO,getD_eq_getElem?_getD->Tf,getElem?_append_left->T4,getElem?_append_right->Ud,getElem?_drop->Vs,getElem?_eq_getElem->Tw,getElem?_eq_some_iff->Tq,getElem?_map->Ut,getElem?_set->VT,getElem?_set_ne->U6,getElem?_set_self->Yb,getElem?_take->Vm,getElem_mem->W_,getLastD_eq_getLast?->WB,length_append->Tt,length_drop->Vr,length_map->Ue,length_set->UM,map->Wn,mapM_cons->Vb,mapM_nil->VH,map_append->Uq,map_congr_left->WR,map_cons->Wd,map_drop->axB,map_flatMap->WQ,map_map->XN,map_singleton->ab_,map_take->Xd,mem_append->Tv,mem_append_left->Ul,mem_append_right->T_,mem_cons->Tm,mem_flatMap->T9,mem_flatten->YM,mem_iff_getElem?->VU,mem_map->Uo,mem_of_getElem?->T8,mem_of_mem_take->W5,mem_or_eq_of_mem_set->VF,mem_replicate->YL,mem_singleton->Ub,mem_toArray->UR,nil_append->VK,nodup_append->V_,not_mem_nil->T7,range->T1,range'->Vd,range'_append_1->aa_,range'_succ->W9,range_eq_range'->WE,range_succ->VW,replicate->UP,replicate_succ->Xx,set_append_left->VX,set_append_right->Va,set_cons_succ->VI,set_cons_zero->U7,set_eq_take_append_cons_drop->YO,set_set->Ya,take->VN,take_add_one->UZ,take_append_drop->Ww,take_append_of_le_length->UA,take_length->Un,take_of_length_le->Tx,take_set->axg,take_succ->XA,take_succ_cons->Xb,take_take->Wh,take_zero->Z'
open List.Perm renaming refl->axs
open Nat renaming add_sub_cancel->Xi,add_sub_cancel_left->US,add_zero->VA,eq_zero_or_pos->Vu,le_of_eq->XI,le_refl->Ts,le_trans->UK,lt_of_lt_of_le->Uk,lt_trans->Xr,reduceAdd->Tu,strongRecOn->Zn,sub_self->Ws,sub_zero->aw',zero_add->Xv
open Option renaming bind_eq_bind->UX,getD_some->Ua,map_eq_some_iff->Uv,pure_def->Vk,toList_some->ZN
open Option.some renaming inj->WV,injEq->Us
open Prod.mk renaming injEq->We
namespace Go.Gg
open Go.Conc Go.Proofs Go.Gg.Tk
namespace Tk
structure tE (b:eG)(hi:Int):Prop where
 min:0<=b.min
 le:b.min<=b.max
 max:b.max<=hi
structure Kh (x:ak)(y:aD):Prop where
 number:tE y.number 99
 hour:tE y.hour (x.hours-1)
structure ak.Ok (x:ak):Prop where
 first:0<=x.first/\x.first<=90
 hours:1<=x.hours/\x.hours<=3
 am:1<=x.am/\x.am<=3
 Ad:x.seen.length<=3
 dQ:x.pieces.length<=4
 dC:x.aC.length<=3
 seen:∀s∈x.seen,(0<=s.hour/\s.hour<=x.hours)/\tE s.next 99
 piece:∀y∈x.pieces,Kh x y
 stub:∀y∈x.aC,Kh x y
def uP (hour:Nat)(n:Int)(s:Seen):Bool:= !decide (s.hour=hour)||iq s.next n
def aeB(x:ak)(hour:Nat)(n:Int):mW x hour n=x.seen.all (uP hour n):=rfl
end Tk
def fH{H L:SA}{i:Nat}{x:aa}(h:H[i]?=some x):(H++L)[i]?=some x:=by rw[T4 (Tq.1 h).1];exact h
def aW(Hs L:SA)(i:Nat):(Hs++L)[Hs.length+i]?=L[i]?:=by rw[Ud (by omega)];congr 1;omega
def dB(Hs L:SA)(i:Nat)(y:aa):(Hs++L).set (Hs.length+i) y=Hs++L.set i y:=by rw[Va _ _ (by omega)];congr 2;omega
section
variable {lv:Bool}{H:SA}{k kp:SF}
def TO{x:ak}:x.l=[iv x.first,iv x.hours,iv x.am,dl x.seen,aR x.pieces,aR x.aC]:=rfl
def aaP{x:ak}{h:SD}{hour ir ih:Nat}{n:Int}(hx:x.Ok)(h4:h.length=4)(hn:h[hour]?=some n)(hr:H[ir]?=some (.cells x.l 76))(hi:H[ih]?=some (.cells (h.map iv) 83))(hk:k (bv (mW x hour n)) H):ba lv S_ 87 H [iv hour,.op ir 0,.op ih 0] k kp:=by
 refine bH (rs:=[.tmp 4]) (nt:=29) Tryz.f87 λhH hA=> ?_;simp only[bm,Tu];have oZ:hour<4:=by have:=e_ hn;omega
 have b4:(0<=(hour:Int)/\(hour:Int)<4)=True:=by simp;omega
 have hlen:=hx.Ad;have zy:∀L:SA,(H++L)[ir]?=some (.cells x.l 76):=λL=>fH hr;have cI:∀L:SA,(H++L)[ih]?=some (.cells (h.map iv) 83):=λL=>fH hi;refine ah ?_;refine ab ?_;simp only[seval,hr,TO,dl];refine bF ?_;refine pL x.seen.length (λi:Nat=>[(11,iv i)]) (λ_=>H) (λi=>x.seen.all (uP hour n)=(x.seen.drop i).all (uP hour n)) rfl (λbz bE i ce hI R hR=> ?_);refine ah ?_;refine aB ?_;refine⟨λhc=> ?_,λhc=> ?_⟩
 ·
  have bk:i<x.seen.length:=by omega
  obtain⟨s,hs⟩:=bA bk;have lM:x.seen.all (uP hour n)=(uP hour n s&&(x.seen.drop (i+1)).all (uP hour n)):=by rw[hI,xb hs];rfl
  have hw:=TN i (by omega)
  refine aE ?_;refine ab ?_;simp only[seval,P_ hs,jx bk];refine eA 13 ?_;simp only[seval,cI,b4,ky hn];refine yX (λh2=> ?_) (λh2=> ?_)
  ·(try simp only[seval,cI,b4,ky hn]);refine fE (bv (iq s.next n)) (cP (LJ (b:=s.next) ⟨rfl,rfl⟩)) ?_;(try simp only[seval]);refine aB ?_;have hp:uP hour n s=iq s.next n:=(by unfold uP;rw[decide_eq_true (show s.hour=(hour:Int) by simpa using h2)];rfl);rw[hp]at lM;refine⟨λh3=> ?_,λh3=> ?_⟩
   ·refine ah ?_;refine aT ?_;rw[aeB,lM,h3]at hk;exact jg hH hk
   ·refine aE ?_;refine ab ?_;simp only[seval,hw];refine hR _ ⟨bk,?_,(aet bz)⟩;rw[lM,h3];rfl
  ·(try simp only[seval]);refine aB ?_;refine aE ?_;have hp:uP hour n s=true:=(by unfold uP;rw[decide_eq_false (show ¬s.hour=(hour:Int) by simpa using h2)];rfl);rw[hp]at lM;refine ab ?_;simp only[seval,hw];refine hR _ ⟨bk,?_,(aet bz)⟩;rw[lM];rfl
 ·
  have:i=x.seen.length:=by omega
  subst this;refine bD ?_;refine ah ?_;refine aT ?_;rw[aeB,hI,asI]at hk;exact b8 hk
end
open Go.Conc Go.Proofs Go.Gg.Tk
def L1{α:Type}(g:Nat->List α)(i:Nat):(T1 (i+1)).flatMap g=(T1 i).flatMap g++g i:=by
 rw[VW,Vf];simp
def LZ{α:Type}(g:Nat->List α){i n:Nat}(h:i<n):(T1 n).flatMap g=(T1 i).flatMap g++(g i++(Vd (i+1) (n-(i+1))).flatMap g):=by
 have:T1 n=T1 i++(i::Vd (i+1) (n-(i+1))):=by
  rw[WE,WE,<- W9];have:=aa_ (s:=0) (m:=i) (n:=n-(i+1)+1);rw[Xv]at this;rw[this];congr 1;omega
 rw[this,Vf,UV]
def Qn{α:Type}{l:List α}{i:Nat}{v:α}(h:i<l.length):(l.set i v).take (i+1)=l.take i++[v]:=by
 rw[XA,axg,VT,if_pos rfl,if_pos h,List.set_eq_of_length_le (by simp;omega)];rfl
namespace Tk
def jz (h:SD)(hour j:Nat)(n:Int):SD:=h.take hour++UP j n++h.drop (hour+j)
def He{h:SD}{hour j:Nat}{n:Int}(hj:hour+j<=h.length):(jz h hour j n).length=h.length:=by simp[jz];omega
def alj(h:SD)(hour:Nat)(n:Int):jz h hour 0 n=h:=by simp[jz]
def LM{h:SD}{hour j:Nat}{n:Int}(hj:hour+j<h.length):(jz h hour j n).set (hour+j) n=jz h hour (j+1) n:=by
 unfold jz;have hl:(h.take hour++UP j n).length=hour+j:=by simp;omega
 rw[Va _ _ (by omega),hl,Ws,List.replicate_succ'];rw[UY hj,U7,Te,Te,Te];rfl
def ali{h:SD}{hour j:Nat}{n:Int}(hn:h[hour]?=some n)(hj:hour+j<=h.length):(jz h hour j n)[hour]?=some n:=by
 have hl:=e_ hn;unfold jz;rw[Te,Ud (by simp;omega)];have:hour-(h.take hour).length=0:=by simp;omega
 rw[this];cases j with
 |zero=>simpa using hn
 |succ j=>simp[Xx]
def alh{h pre:SD}{hour:Nat}{n:Int}(h4:h.length=4)(hn:h[hour]?=some n)(hp:pre=h.take (hour+1)):jz h hour (4-hour) n=cM pre:=by
 have hl:=e_ hn;have e:pre=h.take hour++[n]:=by rw[hp,XA,hn];rfl
 unfold jz cM;rw[U2 (by omega),To,e];have h1:(h.take hour++[n]).length=hour+1:=by simp;omega
 rw[h1,show (h.take hour++[n]).getLastD 0=n by simp[WB],Te];congr 1;rw[show 4-hour=(4-(hour+1))+1 by omega,Xx];rfl
def aee{h pre:SD}{hour:Nat}{n:Int}(hn:h[hour]?=some n)(hp:pre=h.take (hour+1)):pre.length=hour+1/\pre.getLastD 0=n:=by
 have hl:=e_ hn;have e:pre=h.take hour++[n]:=by rw[hp,XA,hn];rfl
 subst e;exact⟨by simp;omega,by simp[WB]⟩
end Tk
open Go.Conc Go.Proofs Go.Gg.Tk
section
variable {lv:Bool}
def qW (yv:AV)(N ir it:Nat)(h:SD):SA:=[.cells [yv] 130,.cells (h.map iv) 83,.cells [.fn (.func 87) [] [.op ir 0,.op (N+1) 0]] 68,.cells [.fn (.func 89) [] [.op (N+2) 0,.op ir 0,.op (N+1) 0,.op N 0,.op it 0,.op (N+3) 0]] 68]
def ak4{x:ak}{bu N ir it:Nat}{yv pv:AV}{S:Type}{f:S->SD->dM S}{Gf:S->SA}{I:S->Prop}{A:TK}(hx:x.Ok)(hY:j6 lv S_ yv f Gf N I A pv)(hr:∀σ L,(Gf σ++L)[ir]?=some (.cells x.l 76))(ht:∀σ L,(Gf σ++L)[it]?=some (.cells [iv bu] 3))(kX:bu<=3):
  ∀(d hour:Nat)(h pre:SD)(n0:Int)(σ:S)(M:SA)(k kp:SF),d+hour=x.hours.toNat->h.length=4->h[hour]?=some n0->(0<=n0/\n0<=90+3* hour)->pre=h.take (hour+1)->I σ->(∀a∈nq x bu d pre,A a)->
   (∀h',h'.length=4->h'.take (hour+1)=pre->db Gf pv k kp (qW yv N ir it h'++M) (bM f (nq x bu d pre) σ))->
   ba lv S_ 89 (Gf σ++(qW yv N ir it h++M)) [iv hour,.op (N+2) 0,.op ir 0,.op (N+1) 0,.op N 0,.op it 0,.op (N+3) 0] k kp:=by
 intro d;induction d with
 |zero=>
  intro hour h pre n0 σ M k kp pX h4 o_ hb hp hI hA hk;refine bH (rs:=[.tmp 8]) (nt:=61) axN λhH vA=> ?_;simp only[bm,Tu];obtain⟨cr,vV⟩:=aee o_ hp;have oZ:hour<4:=by have:=e_ o_;omega
  have um:=hx.hours;have g0:∀(σ:S)(L:SA),(Gf σ++L)[N]?=L[0]?:=λσ L=>hY.get σ L 0;have g1:∀(σ:S)(L:SA),(Gf σ++L)[N+1]?=L[1]?:=λσ L=>hY.get σ L 1;have g2:∀(σ:S)(L:SA),(Gf σ++L)[N+2]?=L[2]?:=λσ L=>hY.get σ L 2;have s1:∀(σ:S)(L:SA) x,(Gf σ++L).set (N+1) x=Gf σ++L.set 1 x:=λσ L x=>hY.set σ L 1 x;rw[nq,cr,vV,Xi]at hA hk;refine ah ?_;refine ab ?_;simp only[seval,g2,qW];refine aG (aaP (x:=x) (h:=h) (n:=n0) hx h4 o_ (hr _ _) (by rw[g1];rfl) ?_);(try simp only[seval]);refine aB ?_;refine⟨λhs=> ?_,λhs=> ?_⟩
  ·refine ah ?_;refine aT ?_;have:=hk h h4 hp.symm;rw[hs]at this;simp only[UD,if_false,bM,db]at this;exact b8 this
  ·rw[if_pos hs]at hA hk;rw[PX]at hk;have hhe:(hour:Int)=x.hours:=(by omega);refine aE ?_;refine ab ?_;simp only[seval,hr,TO];refine aB ?_;refine⟨λhc=> ?_,λhc=>by exfalso;simp at hc;omega⟩;refine ah ?_;refine bF ?_;refine ej (4-hour) (λj:Nat=>[(9,iv ((hour+j:Nat):Int))]) (λj=>Gf σ++(qW yv N ir it (jz h hour j n0)++M)) (λj=>True) (λ_ _=>rfl) (by simp only[seval];simp[bh,Wk.refl]) (by rw[alj];rfl) (λm _ _=>by simp[qW]) trivial (λbz bE j mI hj R hR=> ?_);refine ah ?_;refine aB ?_;refine⟨λhc=> ?_,λhc=> ?_⟩
   ·have dW:j<4-hour:=(by omega);have bb:(0<=(hour:Int)/\(hour:Int)<4)=True:=(by simp;omega);have bj:(0<=(hour:Int)+(j:Int)/\(hour:Int)+(j:Int)<4)=True:=(by simp;omega);have zv:((hour:Int)+(j:Int)).toNat=hour+j:=(by omega);have mG:(jz h hour j n0).length=4:=(by rw[He (by omega),h4]);have mH:(Wn iv (jz h hour j n0)).length=4:=(by rw[Ue,mG]);have hw:Tg.wrap ((hour:Int)+(j:Int)+1)=(hour:Int)+((j+1:Nat):Int):=(by rw[a_ _ (by omega)];push_cast;omega);refine aE ?_;refine ab ?_;simp only[seval,g1,s1,qW,bb,bj,zv,mH,ky (ali o_ (show hour+j<=h.length by omega))];refine⟨by omega,?_⟩;rw[ya (by omega),LM (by omega)];refine ab ?_;simp only[seval,hw];exact hR _ ⟨dW,trivial,bX⟩
   ·have:j=4-hour:=(by omega);subst this;have Ie:=alh h4 o_ hp;rw[Ie];have Ic:(cM pre).length=4:=(by rw[<- Ie,He (by omega),h4]);have ur:((cM pre).map iv).length=4:=(by rw[Ue,Ic]);have mL:(cM pre).take (hour+1)=pre:=(by unfold cM;rw[UA (by omega),Tx (by omega)]);refine bD ?_;refine ab ?_;simp only[seval,g0,g1,qW,ur];rw[Tx (i:=4) (l:=(cM pre).map iv) (by rw[ur];exact Ts _)];refine yI (hY.call σ (cM pre) (qW yv N ir it (cM pre)++M) _ _ hI (hA _ (by simp)) ?_);have aI:=hk (cM pre) Ic mL;cases hf:f σ (cM pre)with
    |go σ'=>
     rw[hf]at aI;simp only[db]at aI⊢;(try simp only[seval]);refine aT ?_;exact b8 aI
    |stop σ'=>
     rw[hf]at aI;simp only[db]at aI⊢;(try simp only[seval]);refine aT ?_;exact b8 aI
    |bad σ'=>
     rw[hf]at aI;simp only[db]at aI⊢;exact b8 aI
 |succ d ih=>
  intro hour h pre n0 σ M k kp pX h4 o_ hb hp hI hA hk;refine bH (rs:=[.tmp 8]) (nt:=61) axN λhH vA=> ?_;simp only[bm,Tu];obtain⟨cr,vV⟩:=aee o_ hp;have um:=hx.hours;have EG:=hx.am;have hh3:hour<3:=by omega
  have TO:x.l=[iv x.first,iv x.hours,iv x.am,dl x.seen,aR x.pieces,aR x.aC]:=rfl;have g1:∀(σ:S)(L:SA),(Gf σ++L)[N+1]?=L[1]?:=λσ L=>hY.get σ L 1;have g2:∀(σ:S)(L:SA),(Gf σ++L)[N+2]?=L[2]?:=λσ L=>hY.get σ L 2;have g3:∀(σ:S)(L:SA),(Gf σ++L)[N+3]?=L[3]?:=λσ L=>hY.get σ L 3;have s1:∀(σ:S)(L:SA) x,(Gf σ++L).set (N+1) x=Gf σ++L.set 1 x:=λσ L x=>hY.set σ L 1 x;rw[nq,cr,vV,Xi]at hA hk;refine ah ?_;refine ab ?_;simp only[seval,g2,qW];refine aG (aaP (x:=x) (h:=h) (n:=n0) hx h4 o_ (hr _ _) (by rw[g1];rfl) ?_);(try simp only[seval]);refine aB ?_;refine⟨λhs=> ?_,λhs=> ?_⟩
  ·refine ah ?_;refine aT ?_;have:=hk h h4 hp.symm;rw[hs]at this;simp only[UD,if_false,bM,db]at this;exact b8 this
  ·rw[if_pos hs]at hA hk;have hhe:¬(hour:Int)=x.hours:=(by omega);refine aE ?_;refine ab ?_;simp only[seval,hr,TO];refine aB ?_;refine⟨λhc=>by exfalso;exact hhe hc,λhc=> ?_⟩;refine aE ?_;refine ab ?_;simp only[seval,hr,TO,a_ (x.am+1) (by omega)];generalize hg:(λn:Nat=>if hour+1=1/\n≠bu then[]else nq x bu d (pre++[n0+(n:Int)]))=g at hA hk;refine bF ?_;refine yF (measure λm:Nat×S×SD=>(x.am.toNat+1)-m.1).wf (λm=>[(37,iv (m.1:Nat))]) (λm=>Gf m.2.1++(qW yv N ir it m.2.2++M)) (λm=>m.1<=x.am.toNat+1/\bM f ((T1 m.1).flatMap g) σ=.go m.2.1/\m.2.2.length=4/\m.2.2.take (hour+1)=pre) (0,σ,h) (λ_ _=>rfl) (by intro p hp;simp at hp;subst hp;exact⟨_,rfl,Wk.refl _⟩) rfl (λ_ _=>by simp[qW,hY.len]) ⟨by omega,rfl,h4,hp.symm⟩ (λbz bE m aq R hR=> ?_);obtain⟨i,τ,hq⟩:=m;obtain⟨hi,bQ,BL,BM⟩:=aq;replace hi:i<=x.am.toNat+1:=hi;replace bQ:bM f ((T1 i).flatMap g) σ=.go τ:=bQ;replace BL:hq.length=4:=BL;replace BM:hq.take (hour+1)=pre:=BM;have uu:hq[hour]?=some n0:=by
    have h1:(hq.take (hour+1))[hour]?=some n0:=(by rw[BM,hp,Vm,if_pos (by omega)];exact o_);rwa[Vm,if_pos (by omega)]at h1
   refine ah ?_;refine aB ?_;refine⟨λhc=> ?_,λhc=> ?_⟩
   ·have bk:i<x.am.toNat+1:=(by omega);have bK:=TN i (by omega);have sL:=LZ g bk;have qf:=L1 g i;have DX:I τ:=Cl (A:=A) hY.inv _ σ τ (λa ha=>hA a (by rw[sL];exact Ul _ ha)) hI bQ;refine aE ?_;refine ah ?_;have hqm:(Wn iv hq).length=4:=(by rw[Ue,BL]);have bb:(0<=(hour:Int)/\(hour:Int)<4)=True:=(by simp;omega);have bb1:(0<=(hour:Int)+1/\(hour:Int)+1<4)=True:=(by simp;omega);have p9:((hour:Int)+1).toNat=hour+1:=(by omega);have Ix:Tg.wrap ((hour:Int)+1)=(hour:Int)+1:=a_ _ (by omega);have N9:Tg.wrap (n0+(i:Int))=n0+(i:Int):=a_ _ (by omega);refine ab ?_;simp only[seval,ht];refine yX (λh2=> ?ga) (λh2=> ?gb)
    case' ga=>
     (try simp only[seval,ht]);refine aB ?_;refine⟨λh3=> ?gc,λh3=> ?gd⟩
     case gc=>
      have aQ:g i=[]:=(by rw[<- hg];exact if_pos ⟨by simp at h2;omega,by omega⟩);refine bD ?_;refine ab ?_;simp only[seval,bK];exact hR _ ⟨(i+1,τ,hq),(by show x.am.toNat+1-(i+1)<x.am.toNat+1-i;omega),⟨by omega,by rw[qf,aQ,To];exact bQ,BL,BM⟩,bX⟩
    case' gb=>
     (try simp only[seval]);refine aB ?_
    all_goals
     have aQ:g i=nq x bu d (pre++[n0+(i:Int)]):=by
      rw[<- hg];refine if_neg ?_
      rintro⟨q1,q2⟩
      first|(simp at h3;omega)|(simp at h2;omega)
     refine aE ?_;refine ab ?_;simp only[seval,g1,s1,qW,bb,bb1,p9,Ix,N9,hqm,ky uu];refine⟨by omega,?_⟩;rw[ya (show hour+1<hq.length by omega)];refine ab ?_;simp only[seval,g3,Ix];have anL:(hq.set (hour+1) (n0+(i:Int))).length=4:=(by rw[UM,BL]);have hqt:pre++[n0+(i:Int)]=(hq.set (hour+1) (n0+(i:Int))).take (hour+1+1):=(by rw[Qn (by omega),BM]);refine aG (ih (hour+1) (hq.set (hour+1) (n0+(i:Int))) (pre++[n0+(i:Int)]) (n0+(i:Int)) τ M _ _ (by omega) anL (by rw[VT,if_pos rfl,if_pos (by omega)]) (by omega) hqt DX (λa ha=>hA a (by rw[sL,aQ];exact T_ _ (Ul _ ha))) (λh' sg anK=> ?_));have NI:h'.take (hour+1)=pre:=by
      have e:h'.take (hour+1)=(h'.take (hour+1+1)).take (hour+1):=(by rw[Wh];congr 1;omega);rw[e,anK,UA (XI cr.symm),Tx (XI cr)]
     have BU:bM f ((T1 (x.am.toNat+1)).flatMap g) σ=match bM f (g i) τ with
       |.go s'=>bM f ((Vd (i+1) (x.am.toNat+1-(i+1))).flatMap g) s'
       |r=>r:=by
      rw[sL,rC,bQ];exact rC f (g i) _ τ
     rw[<- aQ];cases hf:bM f (g i) τ with
     |go τ'=>
      simp only[db];(try simp only[seval]);refine aB ?_;refine aE ?_;refine ab ?_;simp only[seval,bK];exact hR _ ⟨(i+1,τ',h'),(by show x.am.toNat+1-(i+1)<x.am.toNat+1-i;omega),⟨by omega,by rw[qf,rC,bQ];exact hf,sg,NI⟩,bX⟩
     |stop τ'=>
      simp only[db];(try simp only[seval]);refine aB ?_;refine ah ?_;refine aT ?_;have aI:=hk h' sg NI;rw[BU,hf]at aI;exact b8 aI
     |bad τ'=>
      simp only[db];have aI:=hk h' sg NI;rw[BU,hf]at aI;exact b8 aI
   ·have dK:i=x.am.toNat+1:=(by omega);subst dK;have aI:=hk hq BL BM;rw[bQ]at aI;refine bD ?_;refine ah ?_;refine aT ?_;exact b8 aI
def wB{P:Tl}{yv pv:AV}{S:Type}{f:S->SD->dM S}{Gf:S->SA}{N:Nat}{I:S->Prop}{A:TK}{k:SF}(hY:j6 lv P yv f Gf N I A pv){σ σ':S}{L:SA}{a:AV}(hH:bJ (Gf σ))(ha:∀n,Lt n a)(hk:k a (Gf σ')):cz (Gf σ).length (Gf σ'++L) a k:=by
 refine jS (H':=Gf σ') (Wk.refl _) rfl (by rw[hY.len,hY.len];exact Ts _) ?_ (ha _) hk;have:=hY.aq (σ:=σ) (M:=[]) (by simpa using hH) σ';simpa using this
def LD{H:SA}{k kp:SF}{x:ak}{n:Int}(hk:k (.fn (.func 86) [] [.op H.length 0,.op (H.length+1) 0]) (H++[.cells x.l 76,.cells [iv n] 3])):ba lv S_ 64 H [x.av,iv n] k kp:=by
 refine bH (rs:=[.tmp 4]) (nt:=6) Tryz.f64 λhH hA=> ?_;simp only[bm,Tu,ak.av];refine ah ?_;refine ab ?_;simp only[seval,Vb,VH,Vk,UX];refine aT ?_;exact b8 hk
def LI{x:ak}{bu N ir it:Nat}{yv pv:AV}{S:Type}{f:S->SD->dM S}{Gf:S->SA}{I:S->Prop}{A:TK}{σ:S}{k kp:SF}(hx:x.Ok)(hY:j6 lv S_ yv f Gf N I A pv)(hr:∀σ L,(Gf σ++L)[ir]?=some (.cells x.l 76))(ht:∀σ L,(Gf σ++L)[it]?=some (.cells [iv bu] 3))(kX:bu<=3)
  (lK:∀n,Lt n pv) (hI:I σ) (hA:∀a∈kU x bu,A a) (hk:gG Gf pv k kp [] (bM f (kU x bu) σ)):ba lv S_ 86 (Gf σ) [yv,.op ir 0,.op it 0] k kp:=by
 refine bH (rs:=[]) (nt:=15) Tryz.f86 λhH vA=> ?_;simp only[bm,Tu];have hN:=hY.len σ;refine ab ?_;simp only[seval,hY.parts];refine ah ?_;refine ab ?_;simp only[seval,Vb,VH,Vk,UX];refine ah ?_;refine ab ?_;simp only[seval,Vb,VH,Vk,UX];refine ab ?_;simp only[seval,hr,TO];refine ah ?_;have h0:=hx.first;have hh:=hx.hours;have NH:[x.first]=VN (0+1) [x.first,0,0,0]:=rfl;refine aG (?_);rw[hN];refine ak4 (x:=x) (bu:=bu) hx hY hr ht kX x.hours.toNat 0 [x.first,0,0,0] [x.first] x.first σ [] _ _ rfl rfl rfl (by omega) NH hI hA (λh' sg BH=> ?_);change db Gf pv _ _ _ (bM f (kU x bu) σ);have sV:∀n,Lt n (.aL []):=λn=>by simp[iF]
 cases hf:bM f (kU x bu) σ with
 |go s=>
  rw[hf]at hk;simp only[db,gG]at hk⊢;rw[To]at hk;(try simp only[seval]);rw[<- hN];exact wB hY hH sV hk
 |stop s=>
  rw[hf]at hk;simp only[db,gG]at hk⊢;rw[To]at hk;(try simp only[seval]);rw[<- hN];exact wB hY hH sV hk
 |bad s=>
  rw[hf]at hk;simp only[db,gG]at hk⊢;rw[To]at hk;rw[<- hN];exact wB hY hH lK hk
end
def aad{α:Type}{l:List α}{i j:Nat}{v:α}(h:i<j):(l.set i v).drop j=l.drop j:=by
 apply Zo;intro k;rw[Vs,Vs,U6 (by omega)]
def AZ{α:Type}{g:α->AV}{xs:List α}{i:Nat}{x:α}(h:xs[i]?=some x):(xs.map g).drop i=g x::(xs.drop (i+1)).map g:=by
 rw[<- axB,xb h,Wd]
namespace Tk
def afw (k:Nat):SD:=UP (4-k) (-1)++[-1, -1, -1]
structure pG (h:SD)(k p:Nat)(t:SE)(tc:SD):Prop where
 len:tc.length=11
 pre:tc.take (4+p)=h++t.map λn:Nat=>(n:Int)
 tl:tc.drop (4+k)=afw k
def pG.all{h:SD}{k:Nat}{t:SE}{tc:SD}(ht:t.length=k)(n:pG h k k t tc):tc=ew h t:=by
 have:=Ww (4+k) tc;rw[n.pre,n.tl]at this;rw[<- this];unfold ew lg afw;rw[ht];simp[Te]
def pG.back{h:SD}{k p:Nat}{t:SE}{n:Nat}{tc:SD}(h4:h.length=4)(ht:t.length=p)(q:pG h k (p+1) (t++[n]) tc):pG h k p t tc:=by
 refine⟨q.len,?_,q.tl⟩;have e:tc.take (4+p)=(tc.take (4+(p+1))).take (4+p):=by rw[Wh];congr 1;omega
 rw[e,q.pre,Uq,<- Te,UA (by simp[h4,ht]),Tx (by simp[h4,ht])]
def pG.next{h:SD}{k p:Nat}{t:SE}{n:Nat}{tc:SD}(hp:p<k)(hk:k<=4)(q:pG h k p t tc):pG h k (p+1) (t++[n]) (tc.set (4+p) (n:Int)):=by
 refine⟨by rw[UM];exact q.len,?_,?_⟩
 ·rw[show 4+(p+1)=(4+p)+1 by omega,Qn (by rw[q.len];omega),q.pre];simp
 ·rw[aad (by omega)];exact q.tl
def aqv{h:SD}{q:Nat}{qs:SE}{u:Nat}{t:SE}:(lc (q::qs) u t).map (ew h)=(T1 9).flatMap λn=>if u.testBit n|| !q.testBit n then[]else(lc qs (u|||2^n) (t++[n])).map (ew h):=by
 rw[lc,WQ];congr 1;funext n;split<;>rfl
end Tk
section
variable {lv:Bool}
def uK (yv:AV)(N ir:Nat)(ps:SE)(tc:SD):SA:=[.cells [yv] 132,.cells (tc.map iv) 86,.cells (ps.map λn=>wv n) 80,.cells [.fn (.func 107) [] [.op ir 0,.op N 0,.op (N+1) 0,.op (N+2) 0,.op (N+3) 0]] 157]
def aj9{x:ak}{h ps N ir:_}{yv pv:AV}{S:Type}{f:S->SD->dM S}{Gf:S->SA}{I:S->Prop}{A:TK}(hx:x.Ok)(h4:h.length=4)(hY:j6 lv S_ yv f Gf N I A pv)(hr:∀σ L,(Gf σ++L)[ir]?=some (.cells x.l 76))(ou:ps=x.pieces.map (cx h)++UP (4-x.pieces.length) 0):
  ∀(d p u:Nat)(t:SE)(tc:SD)(σ:S)(M:SA)(k kp:SF),d+p=x.pieces.length->u<65536->t.length=p->pG h x.pieces.length p t tc->I σ->(∀a∈(lc ((x.pieces.map (cx h)).drop p) u t).map (ew h),A a)->
   (∀eN,pG h x.pieces.length p t eN->db Gf pv k kp (uK yv N ir ps eN++M) (bM f ((lc ((x.pieces.map (cx h)).drop p) u t).map (ew h)) σ))->
   ba lv S_ 107 (Gf σ++(uK yv N ir ps tc++M)) [iv p,wv u,.op ir 0,.op N 0,.op (N+1) 0,.op (N+2) 0,.op (N+3) 0] k kp:=by
 intro d;induction d with
 |zero=>
  intro p u t tc σ M k kp MS hu ht hT hI hA hk;refine bH (rs:=[.tmp 9]) (nt:=47) axD λhH vA=> ?_;simp only[bm,Tu];have g0:∀(σ:S)(L:SA),(Gf σ++L)[N]?=L[0]?:=λσ L=>hY.get σ L 0;have g1:∀(σ:S)(L:SA),(Gf σ++L)[N+1]?=L[1]?:=λσ L=>hY.get σ L 1;have cr:p=x.pieces.length:=by omega
  have xx:(x.pieces.map (cx h)).drop p=[]:=U2 (by simp;omega);rw[xx,lc]at hA hk;rw[ab_]at hA hk;rw[PX]at hk;have zE:tc=ew h t:=by subst cr;exact hT.all ht
  have kB:(tc.map iv).length=11:=by rw[Ue,hT.len]
  refine ah ?_;(repeat apply fu);refine Ry ?_;refine ab ?_;simp only[seval,hr,TO,aR];refine aB ?_;refine⟨λhc=> ?_,λhc=>by exfalso;simp at hc;omega⟩;refine ab ?_;simp only[seval,g0,g1,uK,kB];rw[Tx (i:=11) (l:=tc.map iv) (by rw[kB];exact Ts _)];rw[<- zE]at hA hk;have aI:=hk tc hT;refine yI (hY.call σ tc (uK yv N ir ps tc++M) _ _ hI (hA _ (by simp)) ?_);cases hf:f σ tc with
  |go σ'=>
   rw[hf]at aI;simp only[db]at aI⊢;(try simp only[seval]);refine aT ?_;exact b8 aI
  |stop σ'=>
   rw[hf]at aI;simp only[db]at aI⊢;(try simp only[seval]);refine aT ?_;exact b8 aI
  |bad σ'=>
   rw[hf]at aI;simp only[db]at aI⊢;exact b8 aI
 |succ d ih=>
  intro p u t tc σ M k kp MS hu ht hT hI hA hk;refine bH (rs:=[.tmp 9]) (nt:=47) axD λhH vA=> ?_;simp only[bm,Tu];have TO:x.l=[iv x.first,iv x.hours,iv x.am,dl x.seen,aR x.pieces,aR x.aC]:=rfl;have g1:∀(σ:S)(L:SA),(Gf σ++L)[N+1]?=L[1]?:=λσ L=>hY.get σ L 1;have g2:∀(σ:S)(L:SA),(Gf σ++L)[N+2]?=L[2]?:=λσ L=>hY.get σ L 2;have g3:∀(σ:S)(L:SA),(Gf σ++L)[N+3]?=L[3]?:=λσ L=>hY.get σ L 3;have s1:∀(σ:S)(L:SA) x,(Gf σ++L).set (N+1) x=Gf σ++L.set 1 x:=λσ L x=>hY.set σ L 1 x;have lJ:=hx.dQ;have Ic:p<4:=by omega
  obtain⟨y,hy⟩:=bA (xs:=x.pieces) (i:=p) (by omega);have wb:(x.pieces.map (cx h))[p]?=some (cx h y):=by rw[Ut,hy];rfl
  have kW:ps[p]?=some (cx h y):=by rw[ou,T4 (by simp;omega)];exact wb
  have fJ:cx h y<65536:=Xr (aaX h y) (by decide);have aF:¬(p:Int)=(x.pieces.length:Int):=by omega
  rw[xb wb,aqv]at hA hk;generalize hg:(λn=>if u.testBit n|| !(cx h y).testBit n then[]else(lc ((x.pieces.map (cx h)).drop (p+1)) (u|||2^n) (t++[n])).map (ew h))=g at hA hk;refine ah ?_;(repeat apply fu);refine Ry ?_;refine ab ?_;simp only[seval,hr,TO,aR];refine aB ?_;refine⟨λhc=>by exfalso;exact aF (by simpa using hc),λhc=> ?_⟩;refine aE ?_;(repeat apply fu);refine Rt ?_;simp only[seval];refine ah ?_;refine bF ?_;refine yF (measure λm:Nat×S×SD=>9-m.1).wf (λm=>[(20,iv (m.1:Nat))]) (λm=>Gf m.2.1++(uK yv N ir ps m.2.2++M)) (λm=>m.1<=9/\bM f ((T1 m.1).flatMap g) σ=.go m.2.1/\pG h x.pieces.length p t m.2.2) (0,σ,tc) (λ_ _=>rfl) (by intro p hp;simp at hp;subst hp;exact⟨_,rfl,Wk.refl _⟩) rfl (λ_ _=>by simp[uK,hY.len]) ⟨by omega,rfl,hT⟩ (λbz bE m aq R hR=> ?_);obtain⟨i,τ,tq⟩:=m;obtain⟨hi,bQ,l6⟩:=aq;replace hi:i<=9:=hi;replace bQ:bM f ((T1 i).flatMap g) σ=.go τ:=bQ;replace l6:pG h x.pieces.length p t tq:=l6;refine ah ?_;refine aB ?_;refine⟨λhc=> ?_,λhc=> ?_⟩
  ·have bk:i<9:=(by omega);have bK:=TN i (by omega);have sL:=LZ g bk;have qf:=L1 g i;have DX:I τ:=Cl (A:=A) hY.inv _ σ τ (λa ha=>hA a (by rw[sL];exact Ul _ ha)) hI bQ;have b4:(0<=(p:Int)/\(p:Int)<4)=True:=(by simp;omega);have FW:(u.testBit i|| !(cx h y).testBit i)=true->g i=[]:=λe=>(by rw[<- hg];exact if_pos e);have L_:(u.testBit i|| !(cx h y).testBit i)=false->g i=(lc ((x.pieces.map (cx h)).drop (p+1)) (u|||2^i) (t++[i])).map (ew h):=λe=>(by rw[<- hg];exact if_neg (by rw[e];simp));refine aE ?_;refine ah ?_;refine ab ?_;simp only[seval,g2,uK,b4,AZ kW];refine aG (vu hu ?_);(try simp only[seval,g2,uK,b4,AZ kW]);refine yX (λh2=> ?_) (λh2=> ?_)
   ·(try simp only[seval,g2,uK,b4,AZ kW]);refine aG (vu fJ ?_);(try simp only[seval]);refine aB ?_;refine⟨λh3=> ?_,λh3=> ?_⟩
    ·have aQ:=FW (by rw[h2];simpa using h3);refine bD ?_;refine ab ?_;simp only[seval,bK];exact hR _ ⟨(i+1,τ,tq),(by show 9-(i+1)<9-i;omega),⟨by omega,by rw[qf,aQ,To];exact bQ,l6⟩,bX⟩
    ·have aQ:=L_ (by rw[h2];simpa using h3);have kB:(tq.map iv).length=11:=(by rw[Ue,l6.len]);have KL:4+p<tq.length:=(by rw[l6.len];omega);have BY:=TN p (by omega);refine aE ?_;refine ab ?_;simp only[seval,g1,s1,uK,b4];refine⟨by omega,?_⟩;rw[ya KL];refine eA 6 ?_;simp only[seval,g3,BY];refine fE (wv (u|||2^i)) (cP (vv hu (show i<16 by omega) ⟨rfl,rfl⟩)) ?_;rw[BY];have ko:u|||2^i<65536:=qw hu (yf (by omega));refine aG (ih (p+1) (u|||2^i) (t++[i]) (tq.set (4+p) (i:Int)) τ M _ _ (by omega) ko (by simp[ht]) (l6.next (by omega) lJ) DX (λa ha=>hA a (by rw[sL,aQ];exact T_ _ (Ul _ ha))) (λeN ua=> ?_));have D4:=ua.back h4 ht;have BU:bM f ((T1 9).flatMap g) σ=match bM f (g i) τ with
       |.go s'=>bM f ((Vd (i+1) (9-(i+1))).flatMap g) s'
       |r=>r:=by
      rw[sL,rC,bQ];exact rC f (g i) _ τ
     rw[<- aQ];have aI:=hk eN D4;rw[BU]at aI;cases hf:bM f (g i) τ with
     |go τ'=>
      simp only[db];(try simp only[seval]);refine aB ?_;refine aE ?_;refine ab ?_;simp only[seval,bK];exact hR _ ⟨(i+1,τ',eN),(by show 9-(i+1)<9-i;omega),⟨by omega,by rw[qf,rC,bQ];exact hf,D4⟩,bX⟩
     |stop τ'=>
      rw[hf]at aI;simp only[db]at aI⊢;(try simp only[seval]);refine aB ?_;refine ah ?_;refine aT ?_;exact b8 aI
     |bad τ'=>
      rw[hf]at aI;simp only[db]at aI⊢;exact b8 aI
   ·(try simp only[seval]);refine aB ?_;have aQ:=FW (by rw[show u.testBit i=true by simpa using h2];rfl);refine bD ?_;refine ab ?_;simp only[seval,bK];exact hR _ ⟨(i+1,τ,tq),(by show 9-(i+1)<9-i;omega),⟨by omega,by rw[qf,aQ,To];exact bQ,l6⟩,bX⟩
  ·have dK:i=9:=(by omega);subst dK;have aI:=hk tq l6;rw[bQ]at aI;refine bD ?_;refine ah ?_;refine aT ?_;exact b8 aI
end
open Go.Conc Go.Proofs Go.Gg.Tk
def P8{α:Type}{g:α->AV}{xs:List α}{i:Nat}{y:α}(h:i<xs.length):(xs.map g).take i++[g y]++(xs.map g).drop (i+1)=(xs.set i y).map g:=by
 rw[List.map_set,YO,if_pos (by simpa using h)];simp
namespace Tk
def qK (l:SE)(i:Nat):SE:=l.take i++UP (4-i) 0
def aio{l:SE}{i q:Nat}(h:l[i]?=some q)(hl:l.length<=4):(qK l i).set i q=qK l (i+1):=by
 have hi:=e_ h;unfold qK;rw[Va _ _ (by simp;omega),show i-(l.take i).length=0 by simp;omega,show 4-i=(4-(i+1))+1 by omega,Xx,U7,XA,h];simp
def ain{l:SE}{i:Nat}(hi:i<=l.length)(hl:l.length<=4):(qK l i).length=4:=by simp[qK];omega
def aim{l:SE}:qK l l.length=l++UP (4-l.length) 0:=by simp[qK]
end Tk
def ach{H L:SA}{c c':aa}(h:bJ (H++(L++[c])))(hc:∀n,e9 n c'):bJ (H++(L++[c'])):=λz hz=>by
 have hl:(H++(L++[c'])).length=(H++(L++[c])).length:=by simp
 rw[hl];rcases Tv.1 hz with h'|h'
 ·exact h z (Ul _ h')
 ·rcases Tv.1 h' with h'|h'
  ·exact h z (T_ _ (Ul _ h'))
  ·rw[Ub.1 h'];exact hc _
def adY(l:SE)(t n:Nat):e9 n (.cells (l.map λn=>wv n) t):=by
 intro a ha;obtain⟨x,_,rfl⟩:=Uo.1 ha;exact .val _
def aqK(l:SD)(t n:Nat):e9 n (.cells (l.map iv) t):=by
 intro a ha;obtain⟨x,_,rfl⟩:=Uo.1 ha;exact .val _
section
variable {lv:Bool}
def ak5{H:SA}{k kp:SF}{x:ak}{h:SD}(hk:k (.fn (.func 106) [] [.op (H.length+1) 0,.op H.length 0]) (H++[.cells x.l 76,.cells (h.map iv) 83])):ba lv S_ 92 H [x.av,.agg (h.map iv)] k kp:=by
 refine bH (rs:=[.tmp 4]) (nt:=6) Tryz.f92 λhH hA=> ?_;simp only[bm,Tu,ak.av];refine ah ?_;refine ab ?_;simp only[seval,Vb,VH,Vk,UX];refine aT ?_;exact b8 hk
def aj8{x:ak}{h:SD}{N ir ih:Nat}{yv pv:AV}{S:Type}{f:S->SD->dM S}{Gf:S->SA}{I:S->Prop}{A:TK}{σ:S}{k kp:SF}(hx:x.Ok)(hh:jO h)(hY:j6 lv S_ yv f Gf N I A pv)(hr:∀σ L,(Gf σ++L)[ir]?=some (.cells x.l 76))(hi:∀σ L,(Gf σ++L)[ih]?=some (.cells (h.map iv) 83))
  (lK:∀n,Lt n pv) (hI:I σ) (hA:∀a∈(gE x h).map (ew h),A a) (hk:gG Gf pv k kp [] (bM f ((gE x h).map (ew h)) σ)):ba lv S_ 106 (Gf σ) [yv,.op ih 0,.op ir 0] k kp:=by
 refine bH (rs:=[]) (nt:=45) Tryz.f106 λhH vA=> ?_;simp only[bm,Tu];have hN:=hY.len σ;have lJ:=hx.dQ;obtain⟨a,b,c,d,rfl,ha,hb,hc,hd,hs⟩:=hh.out;have okH:∀L:SA,(∀z∈L,∀n,e9 n z)->bJ (Gf σ++L):=λL hL z hz=>by
  rcases Tv.1 hz with h|h
  ·exact(hH z h).mono (by simp)
  ·exact hL z h _
 refine ab ?_;simp only[seval,hY.parts];refine ab ?_;simp only[seval,hi];refine ah ?_;refine bF ?_;refine ej 4 (λi:Nat=>[(13,iv i)]) (λi=>Gf σ++[.cells [yv] 132,.cells ((jz [a,b,c,d,0,0,0,0,0,0,0] 4 i (-1)).map iv) 86]) (λi=>True) (λ_ _=>rfl) (by simp only[seval];simp[bh,Wk.refl]) rfl (λ_ _ _=>by simp) trivial (λbz bE i ce _ R hR=> ?_);refine ah ?_;refine aB ?_;refine⟨λhc=> ?_,λhc=> ?_⟩
 ·have bk:i<4:=by omega
  have b4:(0<=(i:Int)/\(i:Int)<4)=True:=by simp;omega
  have bK:=TN i (by omega)
  have mG:(jz [a,b,c,d,0,0,0,0,0,0,0] 4 i (-1)).length=11:=He (by show 4+i<=11;omega);have mH:((jz [a,b,c,d,0,0,0,0,0,0,0] 4 i (-1)).map iv).length=11:=by rw[Ue,mG]
  refine aE ?_;refine ah ?_;refine ab ?_;simp only[seval,b4,mH];refine⟨by omega,?_⟩;rw[ya (show 4+i<(jz [a,b,c,d,0,0,0,0,0,0,0] 4 i (-1)).length by omega),LM (by show 4+i<11;omega)];refine ab ?_;simp only[seval,bK];exact hR _ ⟨bk,trivial,bX⟩
 have:i=4:=by omega
 subst this;clear hc ce;refine bD ?_;refine ah ?_;rw[show jz [a,b,c,d,0,0,0,0,0,0,0] 4 4 (-1)=[a,b,c,d, -1, -1, -1, -1,0,0,0]from rfl];refine bF ?_;refine ej 3 (λi:Nat=>[(20,iv i)]) (λi=>Gf σ++[.cells [yv] 132,.cells ((jz [a,b,c,d, -1, -1, -1, -1,0,0,0] 8 i (-1)).map iv) 86]) (λi=>True) (λ_ _=>rfl) (by simp only[seval];simp[bh,Wk.refl]) rfl (λ_ _ _=>by simp) trivial (λbz bE i ce _ R hR=> ?_);refine ah ?_;refine aB ?_;refine⟨λhc=> ?_,λhc=> ?_⟩
 ·have bk:i<3:=by omega
  have b4:(0<=(i:Int)/\(i:Int)<3)=True:=by simp;omega
  have bK:=TN i (by omega)
  have mG:(jz [a,b,c,d, -1, -1, -1, -1,0,0,0] 8 i (-1)).length=11:=He (by show 8+i<=11;omega);have mH:((jz [a,b,c,d, -1, -1, -1, -1,0,0,0] 8 i (-1)).map iv).length=11:=by rw[Ue,mG]
  refine aE ?_;refine ah ?_;refine ab ?_;simp only[seval,b4,mH];refine⟨by omega,?_⟩;rw[ya (show 8+i<(jz [a,b,c,d, -1, -1, -1, -1,0,0,0] 8 i (-1)).length by omega),LM (by show 8+i<11;omega)];refine ab ?_;simp only[seval,bK];exact hR _ ⟨bk,trivial,bX⟩
 have:i=3:=by omega
 subst this;clear hc ce;refine bD ?_;rw[show jz [a,b,c,d, -1, -1, -1, -1,0,0,0] 8 3 (-1)=[a,b,c,d, -1, -1, -1, -1, -1, -1, -1]from rfl];refine ah ?_;refine ab ?_;simp only[seval,hr,TO,aR];refine bF ?_;refine ej x.pieces.length (λi:Nat=>[(31,iv i)]) (λi=>Gf σ++[.cells [yv] 132,.cells ([a,b,c,d, -1, -1, -1, -1, -1, -1, -1].map iv) 86,.cells ((qK (x.pieces.map (cx [a,b,c,d])) i).map λn=>wv n) 80]) (λi=>True) (λ_ _=>rfl) (by simp only[seval];simp[bh,Wk.refl]) rfl (λ_ _ _=>by simp) trivial (λbz bE i ce _ R hR=> ?_);refine ah ?_;refine aB ?_;refine⟨λhc=> ?_,λhc=> ?_⟩
 ·have bk:i<x.pieces.length:=by omega
  obtain⟨y,hy⟩:=bA bk;have wb:(x.pieces.map (cx [a,b,c,d]))[i]?=some (cx [a,b,c,d] y):=by rw[Ut,hy];rfl
  have b4:(0<=(i:Int)/\(i:Int)<4)=True:=by simp;omega
  have bK:=TN i (by omega)
  have cT:(qK (x.pieces.map (cx [a,b,c,d])) i).length=4:=ain (by simp;omega) (by simpa using lJ);have xu:((qK (x.pieces.map (cx [a,b,c,d])) i).map λn=>wv n).length=4:=by rw[Ue,cT]
  refine aE ?_;refine ab ?_;simp only[seval,Cu hy,jx bk];refine ab ?_;simp only[seval,hi,b4];refine aG (Hc (h:=[a,b,c,d]) (y:=y) hh ?_);(try simp only[seval,b4,xu]);refine⟨by omega,?_⟩;rw[P8 (g:=λn=>wv n) (show i<(qK (x.pieces.map (cx [a,b,c,d])) i).length by omega),aio wb (by simpa using lJ)];refine ab ?_;simp only[seval,bK];exact hR _ ⟨bk,trivial,Ck (jZ rfl rfl) (by simp only[seval];simp[bh,Wk.refl]) (ach (L:=[_,_]) bz (adY _ _)) (by simp[dj])⟩
 have:i=x.pieces.length:=by omega
 subst this;clear hc ce;refine bD ?_;refine ah ?_;refine ab ?_;simp only[seval,Vb,VH,Vk,UX];refine ah ?_;have ou:qK (x.pieces.map (cx [a,b,c,d])) x.pieces.length=x.pieces.map (cx [a,b,c,d])++UP (4-x.pieces.length) 0:=by
  have:=aim (l:=x.pieces.map (cx [a,b,c,d]));simpa using this
 refine aG (?_);rw[hN];have sV:∀n,Lt n (.aL []):=λn=>by simp[iF]
 have Mv:∀eN,pG [a,b,c,d] x.pieces.length 0 [] eN->True:=λ_ _=>trivial;refine aj9 (x:=x) (h:=[a,b,c,d]) hx rfl hY hr ou x.pieces.length 0 0 [] [a,b,c,d, -1, -1, -1, -1, -1, -1, -1] σ [] _ _ rfl (by decide) rfl ⟨rfl,rfl,?_⟩ hI hA (λeN ua=> ?_)
 ·have:x.pieces.length=0\/x.pieces.length=1\/x.pieces.length=2\/x.pieces.length=3\/x.pieces.length=4:=by omega
  rcases this with e|e|e|e|e<;>rw[e]<;>rfl
 change db Gf pv _ _ _ (bM f ((gE x [a,b,c,d]).map (ew [a,b,c,d])) σ);cases hf:bM f ((gE x [a,b,c,d]).map (ew [a,b,c,d])) σ with
 |go s=>
  rw[hf]at hk;simp only[db,gG]at hk⊢;rw[To]at hk;(try simp only[seval]);rw[<- hN];exact wB hY hH sV hk
 |stop s=>
  rw[hf]at hk;simp only[db,gG]at hk⊢;rw[To]at hk;(try simp only[seval]);rw[<- hN];exact wB hY hH sV hk
 |bad s=>
  rw[hf]at hk;simp only[db,gG]at hk⊢;rw[To]at hk;rw[<- hN];exact wB hY hH lK hk
end
open Go.Conc Go.Proofs Go.Gg.Tk
namespace Tk
structure oK (h:SD)(ns:SE)(k s:Nat)(o:SE)(tc:SD):Prop where
 len:tc.length=11
 pre:tc.take (8+s)=h++lg 4 ns++o.map λn:Nat=>(n:Int)
 tl:tc.drop (8+k)=UP (3-k) (-1)
def oK.all{h:SD}{ns:SE}{k:Nat}{o:SE}{tc:SD}(ho:o.length=k)(n:oK h ns k k o tc):tc=dq h ns o:=by
 have:=Ww (8+k) tc;rw[n.pre,n.tl]at this;rw[<- this];unfold dq
 conv=>rhs;unfold lg
 rw[ho,Te];rfl
def Cg{k:Nat}{l:SE}(h:l.length<=k):(lg k l).length=k:=by simp[lg];omega
def oK.back{h:SD}{ns:SE}{k s:Nat}{o:SE}{n:Nat}{tc:SD}(h4:h.length=4)(hn:ns.length<=4)(ho:o.length=s)(q:oK h ns k (s+1) (o++[n]) tc):oK h ns k s o tc:=by
 refine⟨q.len,?_,q.tl⟩;have e:tc.take (8+s)=(tc.take (8+(s+1))).take (8+s):=by rw[Wh];congr 1;omega
 have hp:=Cg hn;rw[e,q.pre,Uq,<- Te,UA (by simp[h4,ho,hp];omega),Tx (by simp[h4,ho,hp];omega)]
def oK.next{h:SD}{ns:SE}{k s:Nat}{o:SE}{n:Nat}{tc:SD}(hp:s<k)(hk:k<=3)(q:oK h ns k s o tc):oK h ns k (s+1) (o++[n]) (tc.set (8+s) (n:Int)):=by
 refine⟨by rw[UM];exact q.len,?_,?_⟩
 ·rw[show 8+(s+1)=(8+s)+1 by omega,Qn (by rw[q.len];omega),q.pre];simp
 ·rw[aad (by omega)];exact q.tl
def oK.num{h:SD}{ns:SE}{k s p:Nat}{o:SE}{tc:SD}(h4:h.length=4)(hn:ns.length<=4)(hp:p<ns.length)(q:oK h ns k s o tc):tc[4+p]?=some ((ns.getD p 0:Nat):Int):=by
 have h1:(tc.take (8+s))[4+p]?=some ((ns.getD p 0:Nat):Int):=by
  rw[q.pre,Te,Ud (by omega),h4,show 4+p-4=p by omega,T4 (by rw[Cg hn];omega)];unfold lg;rw[T4 (by simpa using hp),Ut,Tf,Tw hp];rfl
 rwa[Vm,if_pos (by omega)]at h1
def aqX{h:SD}{ns:SE}{k q:Nat}{qs:SE}{u:Nat}{o:SE}:(mV k ns (q::qs) u o).map (dq h ns)=(T1 k).flatMap λp=>if u.testBit p|| !q.testBit (ns.getD p 0)then[]else(mV k ns qs (u|||2^p) (o++[p])).map (dq h ns):=by
 rw[mV,WQ];congr 1;funext n;split<;>rfl
end Tk
open Go.Conc Go.Proofs Go.Gg.Tk
section
variable {lv:Bool}
def zZ (yv:AV)(N ir it is:Nat):SA:=[.cells [yv] 132,.cells [.fn (.func 109) [] [.op ir 0,.op N 0,.op it 0,.op is 0,.op (N+1) 0]] 157]
def akb{x:ak}{h:SD}{ns qs:SE}{N ir it is:Nat}{yv pv:AV}{S:Type}{f:S->SD->dM S}{Gf:SD->S->SA}{I:S->Prop}{A:TK}(hx:x.Ok)(h4:h.length=4)(iW:ns.length=x.pieces.length)(hY:∀tc,j6 lv S_ yv f (Gf tc) N I A pv)(hr:∀tc σ L,(Gf tc σ++L)[ir]?=some (.cells x.l 76))
  (ht:∀tc σ L,(Gf tc σ++L)[it]?=some (.cells (tc.map iv) 86)) (dz:∀tc eN σ L,(Gf tc σ++L).set it (.cells (eN.map iv) 86)=Gf eN σ++L) (hs:∀tc σ L,(Gf tc σ++L)[is]?=some (.cells (qs.map λn=>wv n) 81)) (BN:∃r,qs=x.aC.map (cx h)++r) (zx:qs.length=3):
  ∀(d s u:Nat)(o:SE)(tc:SD)(σ:S)(M:SA)(k kp:SF),d+s=x.aC.length->u<65536->o.length=s->oK h ns x.aC.length s o tc->I σ->(∀a∈(mV x.pieces.length ns ((x.aC.map (cx h)).drop s) u o).map (dq h ns),A a)->
   (∀eN,oK h ns x.aC.length s o eN->db (Gf eN) pv k kp (zZ yv N ir it is++M) (bM f ((mV x.pieces.length ns ((x.aC.map (cx h)).drop s) u o).map (dq h ns)) σ))->
   ba lv S_ 109 (Gf tc σ++(zZ yv N ir it is++M)) [iv s,wv u,.op ir 0,.op N 0,.op it 0,.op is 0,.op (N+1) 0] k kp:=by
 intro d;induction d with
 |zero=>
  intro s u o tc σ M k kp pY hu ho hT hI hA hk;refine bH (rs:=[.tmp 9]) (nt:=54) axC λhH vA=> ?_;simp only[bm,Tu];have g0:∀(tc:SD)(σ:S)(L:SA),(Gf tc σ++L)[N]?=L[0]?:=λtc σ L=>(hY tc).get σ L 0;have cr:s=x.aC.length:=by omega
  have xx:(x.aC.map (cx h)).drop s=[]:=U2 (by simp;omega);rw[xx,mV]at hA hk;rw[ab_]at hA hk;rw[PX]at hk;have zE:tc=dq h ns o:=by subst cr;exact hT.all ho
  have kB:(tc.map iv).length=11:=by rw[Ue,hT.len]
  refine ah ?_;refine ab ?_;simp only[seval,hr,TO,aR];refine aB ?_;refine⟨λhc=> ?_,λhc=>by exfalso;simp at hc;omega⟩;refine ab ?_;simp only[seval,g0,ht,zZ,kB];rw[Tx (i:=11) (l:=tc.map iv) (by rw[kB];exact Ts _)];rw[<- zE]at hA hk;have aI:=hk tc hT;refine yI ((hY tc).call σ tc (zZ yv N ir it is++M) _ _ hI (hA _ (by simp)) ?_);cases hf:f σ tc with
  |go σ'=>
   rw[hf]at aI;simp only[db]at aI⊢;(try simp only[seval]);refine aT ?_;exact b8 aI
  |stop σ'=>
   rw[hf]at aI;simp only[db]at aI⊢;(try simp only[seval]);refine aT ?_;exact b8 aI
  |bad σ'=>
   rw[hf]at aI;simp only[db]at aI⊢;exact b8 aI
 |succ d ihd=>
  intro s u o tc σ M k kp pY hu ho hT hI hA hk;refine bH (rs:=[.tmp 9]) (nt:=54) axC λhH vA=> ?_;simp only[bm,Tu];have TO:x.l=[iv x.first,iv x.hours,iv x.am,dl x.seen,aR x.pieces,aR x.aC]:=rfl;have g1:∀(tc:SD)(σ:S)(L:SA),(Gf tc σ++L)[N+1]?=L[1]?:=λtc σ L=>(hY tc).get σ L 1;have lJ:=hx.dQ;have zB:=hx.dC;obtain⟨y,hy⟩:=bA (xs:=x.aC) (i:=s) (by omega);have wb:(x.aC.map (cx h))[s]?=some (cx h y):=by rw[Ut,hy];rfl
  have kW:qs[s]?=some (cx h y):=by obtain⟨r,e⟩:=BN;rw[e,T4 (by simp;omega)];exact wb
  have fJ:cx h y<65536:=Xr (aaX h y) (by decide);have aF:¬(s:Int)=(x.aC.length:Int):=by omega
  rw[xb wb,aqX]at hA hk;generalize hg:(λp=>if u.testBit p|| !(cx h y).testBit (ns.getD p 0)then[]else(mV x.pieces.length ns ((x.aC.map (cx h)).drop (s+1)) (u|||2^p) (o++[p])).map (dq h ns))=g at hA hk;refine ah ?_;refine ab ?_;simp only[seval,hr,TO,aR];refine aB ?_;refine⟨λhc=>by exfalso;exact aF (by simpa using hc),λhc=> ?_⟩;refine aE ?_;refine ab ?_;simp only[seval,hr,TO,aR];refine bF ?_;refine yF (measure λm:Nat×S×SD=>x.pieces.length-m.1).wf (λm=>[(24,iv (m.1:Nat))]) (λm=>Gf m.2.2 m.2.1++(zZ yv N ir it is++M)) (λm=>m.1<=x.pieces.length/\bM f ((T1 m.1).flatMap g) σ=.go m.2.1/\oK h ns x.aC.length s o m.2.2) (0,σ,tc) (λ_ _=>rfl) (by intro p hp;simp at hp;subst hp;exact⟨_,rfl,Wk.refl _⟩) rfl (λ_ _=>by simp[zZ,(hY _).len]) ⟨by omega,rfl,hT⟩ (λbz bE m aq R hR=> ?_);obtain⟨i,τ,tq⟩:=m;obtain⟨hi,bQ,l6⟩:=aq;replace hi:i<=x.pieces.length:=hi;replace bQ:bM f ((T1 i).flatMap g) σ=.go τ:=bQ;replace l6:oK h ns x.aC.length s o tq:=l6;refine ah ?_;refine aB ?_;refine⟨λhc=> ?_,λhc=> ?_⟩
  ·have bk:i<x.pieces.length:=(by omega);have bK:=TN i (by omega);have hws:=TN s (by omega);have sL:=LZ g bk;have qf:=L1 g i;have DX:I τ:=Cl (A:=A) (hY tc).inv _ σ τ (λa ha=>hA a (by rw[sL];exact Ul _ ha)) hI bQ;have b3:(0<=(s:Int)/\(s:Int)<3)=True:=(by simp;omega);have b4:(0<=(i:Int)/\(i:Int)<4)=True:=(by simp;omega);have FW:(u.testBit i|| !(cx h y).testBit (ns.getD i 0))=true->g i=[]:=λe=>(by rw[<- hg];exact if_pos e);have L_:(u.testBit i|| !(cx h y).testBit (ns.getD i 0))=false->g i=(mV x.pieces.length ns ((x.aC.map (cx h)).drop (s+1)) (u|||2^i) (o++[i])).map (dq h ns):=λe=>(by rw[<- hg];exact if_neg (by rw[e];simp));have acg:=l6.num h4 (by omega) (show i<ns.length by omega);refine aE ?_;refine ah ?_;refine eA 14 ?_;simp only[seval,ht,hs,b3,b4,AZ kW,ky acg];refine fE (bv (u.testBit i)) (cP (vu hu ⟨rfl,rfl⟩)) ?_;(try simp only[seval]);refine yX (λh2=> ?_) (λh2=> ?_)
   ·(try simp only[seval,ht,hs,b3,b4,AZ kW,ky acg]);refine fE (bv ((cx h y).testBit (ns.getD i 0))) (cP (vu fJ ⟨rfl,rfl⟩)) ?_;(try simp only[seval]);refine aB ?_;refine⟨λh3=> ?_,λh3=> ?_⟩
    ·have aQ:=FW (by rw[h2];simpa using h3);refine bD ?_;refine ab ?_;simp only[seval,bK];exact hR _ ⟨(i+1,τ,tq),(by show x.pieces.length-(i+1)<x.pieces.length-i;omega),⟨by omega,by rw[qf,aQ,To];exact bQ,l6⟩,bX⟩
    ·have aQ:=L_ (by rw[h2];simpa using h3);have kB:(tq.map iv).length=11:=(by rw[Ue,l6.len]);have KL:8+s<tq.length:=(by rw[l6.len];omega);refine aE ?_;refine ab ?_;simp only[seval,ht,b3,kB];refine⟨by omega,?_⟩;rw[ya KL,dz];refine eA 6 ?_;simp only[seval,g1,zZ];refine fE (wv (u|||2^i)) (cP (vv hu (show i<16 by omega) ⟨rfl,rfl⟩)) ?_;rw[hws];have ko:u|||2^i<65536:=qw hu (yf (by omega));refine aG (ihd (s+1) (u|||2^i) (o++[i]) (tq.set (8+s) (i:Int)) τ M _ _ (by omega) ko (by simp[ho]) (l6.next (by omega) zB) DX (λa ha=>hA a (by rw[sL,aQ];exact T_ _ (Ul _ ha))) (λeN ua=> ?_));have D4:=ua.back h4 (by omega) ho;have BU:bM f ((T1 x.pieces.length).flatMap g) σ=match bM f (g i) τ with
       |.go s'=>bM f ((Vd (i+1) (x.pieces.length-(i+1))).flatMap g) s'
       |r=>r:=by
      rw[sL,rC,bQ];exact rC f (g i) _ τ
     rw[<- aQ];have aI:=hk eN D4;rw[BU]at aI;cases hf:bM f (g i) τ with
     |go τ'=>
      simp only[db];(try simp only[seval]);refine aB ?_;refine aE ?_;refine ab ?_;simp only[seval,bK];exact hR _ ⟨(i+1,τ',eN),(by show x.pieces.length-(i+1)<x.pieces.length-i;omega),⟨by omega,by rw[qf,rC,bQ];exact hf,D4⟩,bX⟩
     |stop τ'=>
      rw[hf]at aI;simp only[db]at aI⊢;(try simp only[seval]);refine aB ?_;refine ah ?_;refine aT ?_;exact b8 aI
     |bad τ'=>
      rw[hf]at aI;simp only[db]at aI⊢;exact b8 aI
   ·(try simp only[seval]);refine aB ?_;have aQ:=FW (by rw[show u.testBit i=true by simpa using h2];rfl);refine bD ?_;refine ab ?_;simp only[seval,bK];exact hR _ ⟨(i+1,τ,tq),(by show x.pieces.length-(i+1)<x.pieces.length-i;omega),⟨by omega,by rw[qf,aQ,To];exact bQ,l6⟩,bX⟩
  ·have dK:i=x.pieces.length:=(by omega);subst dK;have aI:=hk tq l6;rw[bQ]at aI;refine bD ?_;refine ah ?_;refine aT ?_;exact b8 aI
def ak6{H:SA}{k kp:SF}{x:ak}{tc:SD}{qs:SE}(hk:k (.fn (.func 108) [] [.op H.length 0,.op (H.length+1) 0,.op (H.length+2) 0]) (H++[.cells x.l 76,.cells (tc.map iv) 86,.cells (qs.map λn=>wv n) 81])):ba lv S_ 93 H [x.av,.agg (tc.map iv),.agg (qs.map λn=>wv n)] k kp:=by
 refine bH (rs:=[.tmp 6]) (nt:=8) Tryz.f93 λhH hA=> ?_;simp only[bm,Tu,ak.av];refine ah ?_;refine ab ?_;simp only[seval,Vb,VH,Vk,UX];refine aT ?_;exact b8 hk
def aka{x:ak}{h:SD}{ns qs:SE}{N ir it is:Nat}{yv pv:AV}{S:Type}{f:S->SD->dM S}{Gf:SD->S->SA}{I:S->Prop}{A:TK}{tc:SD}{σ:S}{k kp:SF}(hx:x.Ok)(h4:h.length=4)(iW:ns.length=x.pieces.length)(hY:∀tc,j6 lv S_ yv f (Gf tc) N I A pv)(hr:∀tc σ L,(Gf tc σ++L)[ir]?=some (.cells x.l 76))
  (ht:∀tc σ L,(Gf tc σ++L)[it]?=some (.cells (tc.map iv) 86)) (dz:∀tc eN σ L,(Gf tc σ++L).set it (.cells (eN.map iv) 86)=Gf eN σ++L) (hs:∀tc σ L,(Gf tc σ++L)[is]?=some (.cells (qs.map λn=>wv n) 81)) (BN:∃r,qs=x.aC.map (cx h)++r) (zx:qs.length=3)
  (aq:∀m tc eN σ,(∀z∈Gf tc σ,e9 m z)->∀z∈Gf eN σ,e9 m z) (lK:∀n,Lt n pv) (zE:tc=ew h ns) (hI:I σ) (hA:∀a∈(iR x h ns).map (dq h ns),A a) (hk:∀eN,eN.length=11->gG (Gf eN) pv k kp [] (bM f ((iR x h ns).map (dq h ns)) σ)):ba lv S_ 108 (Gf tc σ) [yv,.op ir 0,.op it 0,.op is 0] k kp:=by
 refine bH (rs:=[]) (nt:=9) Tryz.f108 λhH vA=> ?_;simp only[bm,Tu];have hN:=(hY tc).len σ;have lJ:=hx.dQ;have zB:=hx.dC;refine ab ?_;simp only[seval,(hY tc).parts];refine ah ?_;refine ab ?_;simp only[seval,Vb,VH,Vk,UX];refine ah ?_;refine aG (?_);rw[hN];have sV:∀n,Lt n (.aL []):=λn=>by simp[iF]
 have cr:=Cg (k:=4) (l:=ns) (by omega);have cut:∀(eN:SD)(σ':S)(L:SA)(a:AV)(k:SF),(∀n,Lt n a)->k a (Gf eN σ')->cz (Gf tc σ).length (Gf eN σ'++L) a k:=λeN σ' L a k ha aI=>by
  refine jS (H':=Gf eN σ') (Wk.refl _) rfl (by rw[(hY eN).len,(hY tc).len];exact Ts _) ?_ (ha _) aI;intro z hz;have h1:∀z∈Gf eN σ,e9 N z:=aq N tc eN σ (λw hw=>by have:=hH w hw;rwa[hN]at this);rw[(hY eN).len];exact(hY eN).ok N σ σ' h1 z hz
 refine akb (x:=x) (h:=h) (ns:=ns) (qs:=qs) hx h4 iW hY hr ht dz hs BN zx x.aC.length 0 0 [] tc σ [] _ _ rfl (by decide) rfl ⟨?_,?_,?_⟩ hI hA (λeN ua=> ?_)
 ·rw[zE];simp[ew,h4,cr]
 ·rw[zE];unfold ew;rw[List.map_nil,To,UA (by simp[h4,cr]),Tx (by simp[h4,cr])]
 ·rw[zE];unfold ew;rw[WL,U2 (by simp[h4,cr]),VK];have:(h++lg 4 ns).length=8:=by simp[h4,cr]
  rw[this];have:x.aC.length=0\/x.aC.length=1\/x.aC.length=2\/x.aC.length=3:=by omega
  rcases this with e|e|e|e<;>rw[e]<;>rfl
 have hk:=hk eN ua.len;change db (Gf eN) pv _ _ _ (bM f ((iR x h ns).map (dq h ns)) σ);cases hf:bM f ((iR x h ns).map (dq h ns)) σ with
 |go s=>
  rw[hf]at hk;simp only[db,gG]at hk⊢;rw[To]at hk;(try simp only[seval]);rw[<- hN];exact cut _ _ _ _ _ sV hk
 |stop s=>
  rw[hf]at hk;simp only[db,gG]at hk⊢;rw[To]at hk;(try simp only[seval]);rw[<- hN];exact cut _ _ _ _ _ sV hk
 |bad s=>
  rw[hf]at hk;simp only[db,gG]at hk⊢;rw[To]at hk;rw[<- hN];exact cut _ _ _ _ _ lK hk
end
section
variable {lv:Bool}{P:Tl}{s:AS}{ms:SE}{bs:S5}{nt:Nat}
def ah6{f:Ur}{ps:TD}{bS body:U_}{fv:AV}{Φ:SN}(hf:s.ev f=some fv)
  (h:∀(l fn:Nat)(T:SH)(ag bo:U_),T=s.T->ag=bS->bo=body->ju lv P fv (s.H++[.obj (.deferred (some [])),.loop l .ready none fn T nt ps ag bo s.H.length]) [.fn (.yield l) [] []]
   (λ_ H'=>∃st pe gg T' jI gX gH fN gI,H'[s.H.length+1]?=some (.loop l st pe gg T' jI gX gH fN gI)/\st≠ .busy/\tL Φ ⟨s.T,H'.set (s.H.length+1) .gone⟩ (s.H.length::ms) pe)
   (λpv H'=>Φ (.panic pv) ⟨s.T,H'⟩ (s.H.length::ms))):m9 lv P nt (.rangeFunc f ps bS body) s ms Φ:=ah5 hf λl fn=>h l fn _ _ _ rfl rfl rfl
def KH{f:Ur}{ps:TD}{bS body:U_}{fv:AV}{Φ:SN}(hf:s.ev f=some fv)
  (h:∀(l fn:Nat)(T:SH)(ag bo:U_),T=s.T->ag=bS->bo=body->ju lv P fv (s.H++[.obj (.deferred (some [])),.loop l .ready none fn T nt ps ag bo s.H.length]) [.fn (.yield l) [] []]
   (λ_ H'=>∃st pe gg T' jI gX gH fN gI,H'[s.H.length+1]?=some (.loop l st pe gg T' jI gX gH fN gI)/\st≠ .busy/\tL Φ ⟨s.T,H'.set (s.H.length+1) .gone⟩ (s.H.length::ms) pe)
   (λpv H'=>Φ (.panic pv) ⟨s.T,H'⟩ (s.H.length::ms))):kL lv P nt bs (.rangeFunc f ps bS body) s ms Φ:=ah9 hf λl fn=>h l fn _ _ _ rfl rfl rfl
def GJ{f:Ur}{ps:TD}{bS body:U_}{fv:AV}{Φ:SI}{l0:Nat}(ID:Nat){L3 Pb df:Nat}{Qg:axk}{Pu:Option U_}{T0:SH}{PO:TD}{KA KO:U_}(hf:s.ev f=some fv)(h0:s.H[ID]?=some (.loop l0 Qg Pu L3 T0 Pb PO KA KO df))
  (h:∀(l fn:Nat)(T:SH)(ag bo:U_),T=s.T->ag=bS->bo=body->ju lv P fv (s.H++[.loop l .ready none fn T nt ps ag bo df]) [.fn (.yield l) [] []]
   (λ_ H'=>∃st pe gg T' jI gX gH fN gI,H'[s.H.length]?=some (.loop l st pe gg T' jI gX gH fN gI)/\st≠ .busy/\u_ Φ ⟨s.T,H'.set s.H.length .gone⟩ pe)
   (λpv H'=>Φ (.panic pv) ⟨s.T,H'⟩)):aS lv P (some l0) nt (.rangeFunc f ps bS body) s Φ:=ahV hf h0 λl fn=>h l fn _ _ _ rfl rfl rfl
end
section
variable {P:Tl}
def Jm(Φ:SN)(s:AS)(ms:SE):tL Φ s ms none=Φ .normal s ms:=by rw[tL]
def arn(Φ:SN)(s:AS)(ms:SE):tL Φ s ms (some .ret)=Φ .ret s ms:=by rw[tL]
def Jn(Φ:SI)(s:AS):u_ Φ s none=Φ .normal s:=by rw[u_]
def arp(Φ:SI)(s:AS):u_ Φ s (some .ret)=Φ .ret s:=by rw[u_]
def aro(Φ:SI)(s:AS)(i:Nat):u_ Φ s (some (.exit i))=Φ (.exit i) s:=by rw[u_]
def ais(id:Nat)(Φ:SN)(s:AS)(ms:SE):an.qL id Φ .ret s ms=Φ .ret s ms:=by rw[an.qL];simp
def air(id:Nat)(Φ:SN)(pv:AV)(s:AS)(ms:SE):an.qL id Φ (.panic pv) s ms=Φ (.panic pv) s ms:=by rw[an.qL];simp
def atN(Φ:SN)(pv:AV)(s:AS)(ms:SE):an.wG Φ (.panic pv) s ms=Φ (.panic pv) s ms:=by rw[an.wG];simp
def auE(K:AS->SE->Prop)(Φ:SN)(pv:AV)(s:AS)(ms:SE):an.tp K Φ (.panic pv) s ms=Φ (.panic pv) s ms:=by rw[an.tp];simp
def alz(rs:SW)(n:Nat)(k kp:SF)(s:AS)(ms:SE):tH P rs n k kp .normal s ms=ao (jh ms s.H) λH'=>ao (iH P ⟨s.T,H'⟩ rs) λl=>cz n H' (jq l) k:=by rw[tH]
def alA(rs:SW)(n:Nat)(k kp:SF)(pv:AV)(s:AS)(ms:SE):tH P rs n k kp (.panic pv) s ms=ao (jh ms s.H) λH'=>cz n H' pv kp:=by rw[tH]
attribute [seval] ais air atN auE alz alA
end
inductive Lp where
 |ready
 |ret
 |exit (i:Nat)
 |busy
def Lp.st:Lp->axk
 |.ready=> .ready
 |.ret=> .done
 |.exit _=> .done
 |.busy=> .busy
def Lp.pe:Lp->Option U_
 |.ready=>none
 |.ret=>some .ret
 |.exit i=>some (.exit i)
 |.busy=>none
namespace Tk
def dM.map {S T:Type}(g:S->T):dM S->dM T
 |.go s=> .go (g s)
 |.stop s=> .stop (g s)
 |.bad s=> .bad (g s)
def dM.fin {S:Type}:dM S->Bool×S
 |.go s=>(false,s)
 |.stop s=>(false,s)
 |.bad s=>(true,s)
end Tk
def PU{S:Type}{Gf:S->SA}{pv:AV}{k kp:SF}{M:SA}{r r':dM S}(h:r.fin=r'.fin)(hk:gG Gf pv k kp M r):gG Gf pv k kp M r':=by
 cases r<;>cases r'<;>simp only[dM.fin,We]at h<;>first
  |(obtain⟨_,rfl⟩:=h;exact hk)
  |(exact absurd h.1 (by decide))
end Go.Gg
namespace Go.Gg.Tk
open Go.Gg
def jr {S:Type}(f:S->SD->dM S)(deep:Int)(m:S×Lp)(b:SD):dM (S×Lp):=match f m.1 b with
 |.go σ=>if deep=0 then .stop (σ,.ret)else if deep=1 then .stop (σ,.exit 3)else .go (σ,.ready)
 |.stop σ=> .stop (σ,.ret)
 |.bad σ=> .bad (σ,.busy)
def lw {S:Type}:dM (S×Lp)->dM (S×Lp)
 |.go m=> .go (m.1,.ready)
 |.stop (σ,.ret)=> .stop (σ,.ret)
 |.stop (σ,_)=> .go (σ,.ready)
 |.bad m=> .bad (m.1,.busy)
def qz {S:Type}(f:S->SD->dM S)(deep:Int)(L:SD->SO)(m:S×Lp)(a:SD):dM (S×Lp):=lw (bM (jr f deep) (L a) (m.1,.ready))
def s8 (deep:Int)(ll:List (SO)):List (SD):=if deep=0 then ll.flatten.take 1 else if deep=1 then(ll.map (·.take 1)).flatten else ll.flatten
def auR{S:Type}{f:S->SD->dM S}{σ:S}{l:Lp}:∀(M:SO),bM (jr f 0) M (σ,l)=match M with
  |[]=> .go (σ,l)
  |b::_=>match f σ b with
   |.go τ=> .stop (τ,.ret)
   |.stop τ=> .stop (τ,.ret)
   |.bad τ=> .bad (τ,.busy)
 |[]=>rfl
 |b::M=>by
  simp only[bM,jr];cases f σ b<;>simp
def auS{S:Type}{f:S->SD->dM S}{σ:S}{l:Lp}:∀(M:SO),bM (jr f 1) M (σ,l)=match M with
  |[]=> .go (σ,l)
  |b::_=>match f σ b with
   |.go τ=> .stop (τ,.exit 3)
   |.stop τ=> .stop (τ,.ret)
   |.bad τ=> .bad (τ,.busy)
 |[]=>rfl
 |b::M=>by
  simp only[bM,jr];cases f σ b<;>simp
def afK{S:Type}{f:S->SD->dM S}{deep:Int}(h0:deep≠0)(h1:deep≠1):∀(M:SO)(σ:S),bM (jr f deep) M (σ,.ready)=match bM f M σ with
  |.go τ=> .go (τ,.ready)
  |.stop τ=> .stop (τ,.ret)
  |.bad τ=> .bad (τ,.busy)
 |[],σ=>rfl
 |b::M,σ=>by
  simp only[bM,jr,h0,h1,if_false];cases f σ b with
  |go τ=>exact afK h0 h1 M τ
  |stop τ=>rfl
  |bad τ=>rfl
def afL{S:Type}{f:S->SD->dM S}{deep:Int}{L:SD->SO}:∀(l:SO)(σ:S),((bM (qz f deep L) l (σ,.ready)).map Prod.fst).fin=(bM f (s8 deep (l.map L)) σ).fin/\(∀m,bM (qz f deep L) l (σ,.ready)=.go m->m.2=.ready)
 |[],σ=>by
  have:s8 deep (([]:SO).map L)=[]:=by
   unfold s8;by_cases h0:deep=0
   ·rw[if_pos h0];rfl
   ·by_cases h1:deep=1
    ·rw[if_neg h0,if_pos h1];rfl
    ·rw[if_neg h0,if_neg h1];rfl
  rw[this];exact⟨rfl,λm h=>by cases h;rfl⟩
 |a::l,σ=>by
  have ih:=afL (f:=f) (deep:=deep) (L:=L) l;by_cases h0:deep=0
  ·subst h0;have hp:s8 0 ((a::l).map L)=(L a++(l.map L).flatten).take 1:=rfl;have kj:s8 0 (l.map L)=((l.map L).flatten).take 1:=rfl;rw[hp];simp only[bM,qz,auR];cases hL:L a with
   |nil=>
    simp only[lw,VK];rw[<- kj];exact ih σ
   |cons b M=>
    simp only[Wv,Xb,Z'];cases hf:f σ b with
    |go τ=>simp only[lw,bM,hf];exact⟨rfl,λm h=>by cases h⟩
    |stop τ=>simp only[lw,bM,hf];exact⟨rfl,λm h=>by cases h⟩
    |bad τ=>simp only[lw,bM,hf];exact⟨rfl,λm h=>by cases h⟩
  by_cases h1:deep=1
  ·subst h1;have hp:s8 1 ((a::l).map L)=(L a).take 1++s8 1 (l.map L):=rfl;rw[hp,rC];simp only[bM,qz,auS];cases hL:L a with
   |nil=>
    simp only[lw,List.take_nil,bM];exact ih σ
   |cons b M=>
    simp only[Xb,Z',bM];cases hf:f σ b with
    |go τ=>simp only[lw];exact ih τ
    |stop τ=>simp only[lw];exact⟨rfl,λm h=>by cases h⟩
    |bad τ=>simp only[lw];exact⟨rfl,λm h=>by cases h⟩
  ·have hp:s8 deep ((a::l).map L)=L a++s8 deep (l.map L):=(by unfold s8;rw[if_neg h0,if_neg h1,if_neg h0,if_neg h1];rfl);rw[hp,rC];simp only[bM,qz];rw[afK h0 h1];cases hf:bM f (L a) σ with
   |go τ=>simp only[lw];exact ih τ
   |stop τ=>simp only[lw];exact⟨rfl,λm h=>by cases h⟩
   |bad τ=>simp only[lw];exact⟨rfl,λm h=>by cases h⟩
def PY{S α:Type}{F:S->α->dM S}:∀{l:List α}{s s':S},bM F l s=.stop s'->∃t a,F t a=.stop s'
 |[],s,s',h=>by cases h
 |a::l,s,s',h=>by
  simp only[bM]at h;cases hf:F s a with
  |go t=>rw[hf]at h;exact PY h
  |stop t=>rw[hf]at h;cases h;exact⟨s,a,hf⟩
  |bad t=>rw[hf]at h;cases h
def auQ{S:Type}{f:S->SD->dM S}{deep:Int}{L:SD->SO}{m m':S×Lp}{a:SD}(h:qz f deep L m a=.stop m'):m'.2=.ret:=by
 unfold qz at h;generalize bM (jr f deep) (L a) (m.1,.ready)=r at h;cases r with
 |go q=>cases h
 |bad q=>cases h
 |stop q=>
  obtain⟨s,lp⟩:=q;cases lp<;>cases h;rfl
def auU{S:Type}{f:S->SD->dM S}{deep:Int}{m m':S×Lp}{a:SD}(h:jr f deep m a=.stop m'):m'.2=.ret\/m'.2=.exit 3:=by
 unfold jr at h;cases hf:f m.1 a with
 |go q=>
  rw[hf]at h;dsimp only at h;by_cases h0:deep=0
  ·rw[if_pos h0]at h;cases h;exact .inl rfl
  ·rw[if_neg h0]at h;by_cases h1:deep=1
   ·rw[if_pos h1]at h;cases h;exact .inr rfl
   ·rw[if_neg h1]at h;cases h
 |stop q=>rw[hf]at h;cases h;exact .inl rfl
 |bad q=>rw[hf]at h;cases h
def auT{S:Type}{f:S->SD->dM S}{deep:Int}{m m':S×Lp}{a:SD}(h:jr f deep m a=.go m'):m'.2=.ready:=by
 unfold jr at h;cases hf:f m.1 a with
 |go q=>
  rw[hf]at h;dsimp only at h;by_cases h0:deep=0
  ·rw[if_pos h0]at h;cases h
  ·rw[if_neg h0]at h;by_cases h1:deep=1
   ·rw[if_pos h1]at h;cases h
   ·rw[if_neg h1]at h;cases h;rfl
 |stop q=>rw[hf]at h;cases h
 |bad q=>rw[hf]at h;cases h
def aev{S α:Type}{F:S->α->dM S}{J:S->Prop}{A:α->Prop}(hi:∀s a s',J s->A a->F s a=.go s'->J s'):∀{l:List α}{s s':S},(∀a∈l,A a)->J s->bM F l s=.stop s'->∃t a,J t/\A a/\F t a=.stop s'
 |[],s,s',_,_,h=>by cases h
 |a::l,s,s',ha,hs,h=>by
  simp only[bM]at h;cases hf:F s a with
  |go t=>rw[hf]at h;exact aev hi (λb hb=>ha b (by simp[hb])) (hi s a t hs (ha a (by simp)) hf) h
  |stop t=>rw[hf]at h;cases h;exact⟨s,a,hs,ha a (by simp),hf⟩
  |bad t=>rw[hf]at h;cases h
def F2{S:Type}{f:S->SD->dM S}{deep:Int}{I:S->Prop}{A:TK}(hi:∀s a s',I s->A a->f s a=.go s'->I s'){m m':S×Lp}{a:SD}(hm:I m.1)(ha:A a)(h:jr f deep m a=.go m'\/jr f deep m a=.stop m'/\m'.2≠ .ret):I m'.1:=by
 unfold jr at h;cases hf:f m.1 a with
 |go q=>
  have hq:=hi _ _ _ hm ha hf;rw[hf]at h;dsimp only at h;by_cases h0:deep=0
  ·rw[if_pos h0]at h;rcases h with h|⟨h,h2⟩
   ·cases h
   ·cases h;exact hq
  ·rw[if_neg h0]at h;by_cases h1:deep=1
   ·rw[if_pos h1]at h;rcases h with h|⟨h,h2⟩
    ·cases h
    ·cases h;exact hq
   ·rw[if_neg h1]at h;rcases h with h|⟨h,h2⟩
    ·cases h;exact hq
    ·cases h
 |stop q=>
  rw[hf]at h;rcases h with h|⟨h,h2⟩
  ·cases h
  ·cases h;exact absurd rfl h2
 |bad q=>
  rw[hf]at h;rcases h with h|⟨h,h2⟩
  ·cases h
  ·cases h
def ahg{S:Type}{f:S->SD->dM S}{deep:Int}{I:S->Prop}{A:TK}(hi:∀s a s',I s->A a->f s a=.go s'->I s'){l:SO}{σ:S}{m:S×Lp}(hl:∀a∈l,A a)(hs:I σ)(h:lw (bM (jr f deep) l (σ,.ready))=.go m):I m.1/\m.2=.ready:=by
 cases hr:bM (jr f deep) l (σ,.ready)with
 |go q=>
  rw[hr]at h;cases h;exact⟨Cl (f:=jr f deep) (s':=q) (I:=λm:S×Lp=>I m.1) (A:=A) (λs a s' h1 h2 h3=>F2 hi h1 h2 (.inl h3)) l _ hl hs hr,rfl⟩
 |stop q=>
  obtain⟨t,a,h1,h2,h3⟩:=aev (J:=λm:S×Lp=>I m.1) (A:=A) (λs a s' h1 h2 h3=>F2 hi h1 h2 (.inl h3)) hl hs hr;rw[hr]at h;obtain⟨q1,q2⟩:=q;cases q2 with
  |ret=>cases h
  |ready=>cases h;exact⟨F2 (m':=(q1,.ready)) hi h1 h2 (.inr ⟨h3,by simp⟩),rfl⟩
  |exit i=>cases h;exact⟨F2 (m':=(q1,.exit i)) hi h1 h2 (.inr ⟨h3,by simp⟩),rfl⟩
  |busy=>cases h;exact⟨F2 (m':=(q1,.busy)) hi h1 h2 (.inr ⟨h3,by simp⟩),rfl⟩
 |bad q=>rw[hr]at h;cases h
end Go.Gg.Tk
namespace Go.Gg
open Go.Conc Go.Proofs Go.Gg.Tk
namespace Tk
def nR (l:SE)(i:Nat):SE:=l.take i++UP (3-i) 0
def ail{l:SE}{i q:Nat}(h:l[i]?=some q)(hl:l.length<=3):(nR l i).set i q=nR l (i+1):=by
 have hi:=e_ h;unfold nR;rw[Va _ _ (by simp;omega),show i-(l.take i).length=0 by simp;omega,show 3-i=(3-(i+1))+1 by omega,Xx,U7,XA,h];simp
def RI{l:SE}{i:Nat}(hi:i<=l.length)(hl:l.length<=3):(nR l i).length=3:=by simp[nR];omega
def aik{l:SE}:nR l l.length=l++UP (3-l.length) 0:=by simp[nR]
def adT:∀{qs:SE}{u:Nat}{t ns:SE},ns∈lc qs u t->ns.length=t.length+qs.length
 |[],u,t,ns,h=>by
  simp only[lc,Ub]at h;subst h;rfl
 |q::qs,u,t,ns,h=>by
  simp only[lc,T9]at h;obtain⟨n,_,h⟩:=h;split at h
  ·cases h
  ·have:=adT h;simp at this⊢;omega
def Pc{x:ak}{h:SD}{ns:SE}(hm:ns∈gE x h):ns.length=x.pieces.length:=by
 have:=adT hm;simpa using this
def I5 (k:Nat)(a:SD):SE:=((a.drop 4).take k).map Zc
def aqs{h:SD}{ns:SE}(h4:h.length=4):I5 ns.length (ew h ns)=ns:=by
 unfold I5 ew lg;rw[Te,WL,U2 (by omega),h4,VK,Ws,YA,Te,UA (by simp),Tx (by simp),XN]
 conv=>rhs;rw[<- List.map_id ns]
 exact WR λn _=>by simp
def wh (x:ak)(h:SD)(a:SD):List (SD):=(iR x h (I5 x.pieces.length a)).map (dq h (I5 x.pieces.length a))
def Om{x:ak}{h:SD}{ns:SE}(h4:h.length=4)(hn:ns.length=x.pieces.length):wh x h (ew h ns)=(iR x h ns).map (dq h ns):=by
 unfold wh;rw[<- hn,aqs h4]
def au0{x:ak}{h:SD}{deep:Int}(h4:h.length=4):jL x deep h=s8 deep (((gE x h).map (ew h)).map (wh x h)):=by
 rw[XN];have:(gE x h).map (wh x h∘ew h)=(gE x h).map λns=>(iR x h ns).map λos=>dq h ns os:=WR λns hm=>Om h4 (Pc hm);rw[this];rfl
end Tk
section
variable {lv:Bool}
def LF{H:SA}{k kp:SF}{x:ak}{h:SD}{deep:Int}(hk:k (.fn (.func 91) [] [.op H.length 0,.op (H.length+1) 0,.op (H.length+2) 0]) (H++[.cells x.l 76,.cells (h.map iv) 83,.cells [iv deep] 3])):ba lv S_ 66 H [x.av,.agg (h.map iv),iv deep] k kp:=by
 refine bH (rs:=[.tmp 6]) (nt:=8) Tryz.f66 λhH hA=> ?_;simp only[bm,Tu,ak.av];refine ah ?_;refine ab ?_;simp only[seval,Vb,VH,Vk,UX];refine aT ?_;exact b8 hk
def LK{x:ak}{h:SD}{deep:Int}{N ir ih id:Nat}{yv pv:AV}{S:Type}{f:S->SD->dM S}{Gf:S->SA}{I:S->Prop}{A:TK}{σ:S}{k kp:SF}(hx:x.Ok)(hh:jO h)(hY:j6 lv S_ yv f Gf N I A pv)(hr:∀σ L,(Gf σ++L)[ir]?=some (.cells x.l 76))(hi:∀σ L,(Gf σ++L)[ih]?=some (.cells (h.map iv) 83))(hd:∀σ L,(Gf σ++L)[id]?=some (.cells [iv deep] 3))
  (lK:∀n,Lt n pv) (hI:I σ) (qQ:∀a,A a->a.length=11) (hA:∀ns∈gE x h,∀a∈(iR x h ns).map (dq h ns),A a) (hk:gG Gf pv k kp [] (bM f (jL x deep h) σ)):ba lv S_ 91 (Gf σ) [yv,.op ir 0,.op ih 0,.op id 0] k kp:=by
 refine aa1 (rs:=[]) (nt:=44) F.f91 rfl rfl rfl (by simp) λhH vA=> ?_;simp only[bm,Tu];have hN:=hY.len σ;have zB:=hx.dC;have nY:(h.map iv).length=4:=by rw[Ue,hh.len]
 refine nQ ?_;refine ab ?_;simp only[seval,hY.parts];refine ah7 ?_;refine nQ ?_;refine ah ?_;refine KG ?_;refine nQ ?_;refine ab ?_;simp only[seval,hr,TO,aR];refine KF ?_;refine bF ?_;refine ej x.aC.length (λi:Nat=>[(14,iv i)]) (λi=>Gf σ++[.cells [yv] 132,.cells ((nR (x.aC.map (cx h)) i).map λn=>wv n) 81]) (λi=>True) (λ_ _=>rfl) (by simp only[seval];simp[bh,Wk.refl]) rfl (λ_ _ _=>by simp) trivial (λbz bE i ce _ R hR=> ?_);refine ah ?_;refine aB ?_;refine⟨λhc=> ?_,λhc=> ?_⟩
 ·have bk:i<x.aC.length:=by omega
  obtain⟨y,hy⟩:=bA bk;have wb:(x.aC.map (cx h))[i]?=some (cx h y):=by rw[Ut,hy];rfl
  have b3:(0<=(i:Int)/\(i:Int)<3)=True:=by simp;omega
  have bK:=TN i (by omega)
  have cT:(nR (x.aC.map (cx h)) i).length=3:=RI (by simp;omega) (by simpa using zB);have xu:((nR (x.aC.map (cx h)) i).map λn=>wv n).length=3:=by rw[Ue,cT]
  refine aE ?_;refine ab ?_;simp only[seval,Cu hy,jx bk];refine ab ?_;simp only[seval,hi,nY];rw[Tx (i:=4) (l:=h.map iv) (by rw[nY];exact Ts _)];refine aG (Hc (h:=h) (y:=y) hh ?_);(try simp only[seval,b3,xu]);refine⟨by omega,?_⟩;rw[P8 (g:=λn=>wv n) (show i<(nR (x.aC.map (cx h)) i).length by omega),ail wb (by simpa using zB)];refine ab ?_;simp only[seval,bK];exact hR _ ⟨bk,trivial,Ck (jZ rfl rfl) (by simp only[seval];simp[bh,Wk.refl]) (ach (L:=[_]) bz (adY _ _)) (by simp[dj])⟩
 have:i=x.aC.length:=by omega
 subst this;clear hc ce;refine bD ?_;have BN:∃r,nR (x.aC.map (cx h)) x.aC.length=x.aC.map (cx h)++r:=⟨_,by
  have:=aik (l:=x.aC.map (cx h));simpa using this⟩
 have zx:(nR (x.aC.map (cx h)) x.aC.length).length=3:=RI (by simp) (by simpa using zB);have NJ:((nR (x.aC.map (cx h)) x.aC.length).map λn=>wv n).length=3:=by rw[Ue,zx]
 generalize nR (x.aC.map (cx h)) x.aC.length=qs at BN zx NJ;refine nQ ?_;(repeat apply fu);refine Rt ?_;simp only[seval];refine nQ ?_;refine ab ?_;simp only[seval,hr,TO,hi,nY];rw[Tx (i:=4) (l:=h.map iv) (by rw[nY];exact Ts _)];refine aG (ak5 (x:=x) (h:=h) ?_);(try simp only[seval]);refine ah4 ?_;refine ah6 (by rfl) λl fn T ag bo hT zb n5=> ?_;(try simp only[seval]);rw[hN]at hT⊢;have h4:=hh.len;have amd:j6 lv S_ (.fn (.yield l) [] []) (qz f deep (wh x h)) (λm:S×Lp=>Gf m.1++[.cells [yv] 132,.cells (qs.map λn=>wv n) 81,.cells x.l 76,.cells (h.map iv) 83,.obj (.deferred (some [])),.loop l m.2.st m.2.pe fn T 44 #[28] ag bo (N+4)]) (N+6) (λm=>I m.1/\m.2=.ready) (λa=>∃ns∈gE x h,a=ew h ns) pv:=by
  have g3:∀(σ:S)(L:SA),(Gf σ++L)[N+1]?=L[1]?:=λσ L=>hY.get σ L 1;have g5:∀(σ:S)(L:SA),(Gf σ++L)[N+5]?=L[5]?:=λσ L=>hY.get σ L 5;have s5:∀(σ:S)(L:SA) y,(Gf σ++L).set (N+5) y=Gf σ++L.set 5 y:=λσ L y=>hY.set σ L 5 y;refine⟨λm a M k kp hm ha dR=> ?_,λm a m' hm ha he=> ?_,λm=>by simp[hY.len],λq m m' hz z fD=> ?_,rfl,rfl,rfl⟩
  ·obtain⟨σ,lp⟩:=m;obtain⟨Mj,iE⟩:=hm;replace Mj:I σ:=Mj;replace iE:lp=.ready:=iE;subst iE;obtain⟨ns,iW,rfl⟩:=ha;have iV:=Pc iW;have ox:(ew h ns).length=11:=(by simp[ew,h4,Cg (k:=4) (l:=ns) (by have:=hx.dQ;omega)]);have BT:((ew h ns).map iv).length=11:=(by rw[Ue,ox]);obtain⟨Lo,lC⟩:∃Lo,Lo=aa.loop l .busy none fn T 44 #[28] ag bo (N+4):=⟨_,rfl⟩;obtain⟨P1,dI⟩:∃P1:S->SA,∀σ,P1 σ=Gf σ++([.cells [yv] 132,.cells (qs.map λn=>wv n) 81,.cells x.l 76,.cells (h.map iv) 83,.obj (.deferred (some [])),Lo]++M):=⟨_,λ_=>rfl⟩;have eS:∀σ,(P1 σ).length=N+6+M.length:=λσ=>(by rw[dI];simp[hY.len];omega);have pg:∀(σ:S)(L:SA)(i:Nat),i<6->(P1 σ++L)[N+i]?=[aa.cells [yv] 132,.cells (qs.map λn=>wv n) 81,.cells x.l 76,.cells (h.map iv) 83,.obj (.deferred (some [])),Lo][i]?:=λσ L i M_=>by
    rw[dI,Te,hY.get,Te,T4 (by simpa using M_)]
   have pr:∀(σ:S)(L:SA),(P1 σ++L)[ir]?=some (.cells x.l 76):=λσ L=>(by rw[dI,Te];exact hr σ _);have pd:∀(σ:S)(L:SA),(P1 σ++L)[id]?=some (.cells [iv deep] 3):=λσ L=>(by rw[dI,Te];exact hd σ _);have pb:∀(σ:S)(L:SA)(i:Nat),(P1 σ++L)[N+6+M.length+i]?=L[i]?:=λσ L i=>(by rw[<- eS σ,aW]);have x7:∀(σ:S)(L:SA),(P1 σ++L)[N+6+M.length]?=L[0]?:=λσ L=>pb σ L 0;have pg1:∀(σ:S)(L:SA),(P1 σ++L)[N+1]?=some (.cells (qs.map λn=>wv n) 81):=λσ L=>pg σ L 1 (by omega);have pg0:∀(σ:S)(L:SA),(P1 σ++L)[N]?=some (.cells [yv] 132):=λσ L=>pg σ L 0 (by omega);have abI:∀(τ:S)(lp:Lp),bJ (Gf σ++(([aa.cells [yv] 132,.cells (qs.map λn=>wv n) 81,.cells x.l 76,.cells (h.map iv) 83,.obj (.deferred (some [])),.loop l .ready none fn T 44 #[28] ag bo (N+4)]:SA)++M))->bJ (Gf τ++(([aa.cells [yv] 132,.cells (qs.map λn=>wv n) 81,.cells x.l 76,.cells (h.map iv) 83,.obj (.deferred (some [])),.loop l lp.st lp.pe fn T 44 #[28] ag bo (N+4)]:SA)++M)):=λτ lp iM z hz=>by
    have hlen:(Gf τ++(([aa.cells [yv] 132,.cells (qs.map λn=>wv n) 81,.cells x.l 76,.cells (h.map iv) 83,.obj (.deferred (some [])),.loop l lp.st lp.pe fn T 44 #[28] ag bo (N+4)]:SA)++M)).length=(Gf σ++(([aa.cells [yv] 132,.cells (qs.map λn=>wv n) 81,.cells x.l 76,.cells (h.map iv) 83,.obj (.deferred (some [])),.loop l .ready none fn T 44 #[28] ag bo (N+4)]:SA)++M)).length:=(by simp[hY.len]);have hl:=iM (.loop l .ready none fn T 44 #[28] ag bo (N+4)) (by simp);rw[hlen];rcases Tv.1 hz with h'|h'
    ·exact hY.ok _ σ τ (λw hw=>iM w (Ul _ hw)) z h'
    ·rcases Tv.1 h' with h'|h'
     ·simp only[Tm,T7,or_false]at h';rcases h' with rfl|rfl|rfl|rfl|rfl|rfl
      ·exact iM _ (by simp)
      ·exact iM _ (by simp)
      ·exact iM _ (by simp)
      ·exact iM _ (by simp)
      ·exact iM _ (by simp)
      ·exact hl
     ·exact iM z (T_ _ (T_ _ h'))
   have LO:bJ (Gf σ++(([aa.cells [yv] 132,.cells (qs.map λn=>wv n) 81,.cells x.l 76,.cells (h.map iv) 83,.obj (.deferred (some [])),.loop l .ready none fn T 44 #[28] ag bo (N+4)]:SA)++M))->∀(τ:S)(lp:Lp)(b':Bool)(TT:SH)(L:SA),k (bv b') ((Gf τ++[.cells [yv] 132,.cells (qs.map λn=>wv n) 81,.cells x.l 76,.cells (h.map iv) 83,.obj (.deferred (some [])),.loop l lp.st lp.pe fn T 44 #[28] ag bo (N+4)])++M)->pH (N+5) (N+6+M.length) k lp.st lp.pe b' ⟨TT,P1 τ++L⟩:=λiM τ lp b' TT L dR=>by
    refine⟨l,.busy,none,fn,T,44,#[28],ag,bo,N+4,by show (P1 τ++L)[_]?=_;rw[pg τ _ 5 (by omega),lC];rfl,?_⟩;show cz (N+6+M.length) ((P1 τ++L).set _ _) _ k;rw[dI,Te,s5];rw[Te]at dR;exact jS (G:=L) (Wk.refl _) (by simp) (by simp[hY.len];omega) (abI τ lp iM) (.val _) dR
   have alm:bJ (Gf σ++(([aa.cells [yv] 132,.cells (qs.map λn=>wv n) 81,.cells x.l 76,.cells (h.map iv) 83,.obj (.deferred (some [])),.loop l .ready none fn T 44 #[28] ag bo (N+4)]:SA)++M))->∀(τ:S)(L:SA),kp pv ((Gf τ++[.cells [yv] 132,.cells (qs.map λn=>wv n) 81,.cells x.l 76,.cells (h.map iv) 83,.obj (.deferred (some [])),.loop l Lp.busy.st Lp.busy.pe fn T 44 #[28] ag bo (N+4)])++M)->cz (N+6+M.length) (P1 τ++L) pv kp:=λiM τ L dR=>by
    rw[Te]at dR;rw[dI,lC];exact jS (G:=L) (Wk.refl _) rfl (by simp[hY.len];omega) (abI τ .busy iM) (lK _) dR
   subst hT zb n5;rw[Te];refine w8 (id:=N+5) (by rw[g5];rfl) rfl (by kernel_rfl) λoR Me=> ?_;simp only[tz];have xy:U4 11 [iv 0,iv 0,iv 0,iv 0,iv 0,iv 0,iv 0,iv 0,iv 0,iv 0,iv 0]=[]:=rfl;refine ab ?_;simp only[seval,ox,xy];unfold va;refine⟨none,fn,_,44,#[28],_,_,_,by rw[g5];rfl,?_⟩;dsimp only;rw[s5];simp only[VI,U7];rw[<- lC];have yZ:(Gf σ).length+(M.length+1+1+1+1+1+1)=N+6+M.length:=(by rw[hY.len];omega);rw[yZ];have zm:∀z:aa,Gf σ++aa.cells [yv] 132::aa.cells (Wn (λn=>wv n) qs) 81::aa.cells x.l 76::aa.cells (Wn iv h) 83::aa.obj (ayj (some []))::Lo::(M++[z])=P1 σ++[z]:=λz=>(by rw[dI];simp);rw[zm];refine ab ?_;simp only[seval,pr,TO,x7,pg1,BT,ox,NJ,zx];rw[Tx (i:=11) (l:=(ew h ns).map iv) (by rw[BT];exact Ts _),Tx (i:=3) (l:=qs.map λn=>wv n) (by rw[NJ];exact Ts _)];refine aG (ak6 (x:=x) (tc:=ew h ns) (qs:=qs) ?_);(try simp only[seval]);refine bF ?_;have o4:∀(σ:S)(a b c d:aa),(P1 σ++[a,b,c,d]).length=N+6+M.length+4:=λσ a b c d=>(by simp[eS]);refine GJ (N+5) (by rfl) (by show (P1 σ++_)[N+5]?=_;rw[pg σ _ 5 (by omega),lC];rfl) λl2 fq T2 h_ ie oS zd zf=> ?_;simp only[seval];rw[eS]at oS⊢;have Ca:∀(σ τ:S)(L L':SA),L'.length=L.length->(∀q,(∀z∈L,e9 q z)->∀z∈L',e9 q z)->bJ (P1 σ++L)->bJ (P1 τ++L'):=λσ τ L L' hl hL hH z hz=>by
    have hlen:(P1 τ++L').length=(P1 σ++L).length:=(by simp[eS,hl]);rw[hlen];rcases Tv.1 hz with h'|h'
    ·rw[dI]at h';rcases Tv.1 h' with h'|h'
     ·exact hY.ok _ σ τ (λw hw=>hH w (Ul _ (by rw[dI];exact Ul _ hw))) z h'
     ·exact hH z (Ul _ (by rw[dI];exact T_ _ h'))
    ·exact hL _ (λw hw=>hH w (T_ _ hw)) z h'
   have za:∀tc:SD,j6 lv S_ (.fn (.yield l2) [] []) (jr f deep) (λm:S×Lp=>P1 m.1++[.cells ((ew h ns).map iv) 86,.cells x.l 76,.cells (tc.map iv) 86,.cells (qs.map λn=>wv n) 81,.loop l2 m.2.st m.2.pe fq T2 44 #[33] h_ ie (N+4)]) (N+6+M.length+5) (λm=>I m.1/\m.2=.ready) A pv:=λtc=>by
    refine⟨λm b M2 k2 zL hm hb lH=> ?_,λm b m' hm hb he=> ?_,λm=>by simp[eS],λq m m' hz z fD=> ?_,rfl,rfl,rfl⟩
    ·obtain⟨σ',lp⟩:=m;obtain⟨Mk,iE⟩:=hm;replace Mk:I σ':=Mk;replace iE:lp=.ready:=iE;subst iE;have cT:b.length=11:=qQ b hb;have xu:(b.map iv).length=11:=(by rw[Ue,cT]);obtain⟨qD,t_⟩:∃Lo,Lo=aa.loop l2 .busy none fq T2 44 #[33] h_ ie (N+4):=⟨_,rfl⟩;obtain⟨Q1,gJ⟩:∃Q1:S->SA,∀σ,Q1 σ=P1 σ++([.cells ((ew h ns).map iv) 86,.cells x.l 76,.cells (tc.map iv) 86,.cells (qs.map λn=>wv n) 81,qD]++M2):=⟨_,λ_=>rfl⟩;obtain⟨C,hC⟩:∃C,C=N+6+M.length+5+M2.length:=⟨_,rfl⟩;have Ms:∀σ,(Q1 σ).length=C:=λσ=>(by rw[gJ,hC];simp[eS];omega);have mu:∀(σ:S)(L:SA),(P1 σ++L)[N+6+M.length+4]?=L[4]?:=λσ L=>pb σ L 4;have qx:∀(σ:S)(L:SA)(y:aa),(P1 σ++L).set (N+6+M.length+4) y=P1 σ++L.set 4 y:=λσ L y=>(by rw[<- eS σ,dB]);have qN:∀(σ:S)(L:SA),(Q1 σ++L)[N]?=some (.cells [yv] 132):=λσ L=>(by rw[gJ,Te];exact pg0 σ _);have qd:∀(σ:S)(L:SA),(Q1 σ++L)[id]?=some (.cells [iv deep] 3):=λσ L=>(by rw[gJ,Te];exact pd σ _);have q4:∀(σ:S)(L:SA),(Q1 σ++L)[N+6+M.length+4]?=some qD:=λσ L=>(by rw[gJ,Te,mu];rfl);have qc:∀(σ:S)(L:SA),(Q1 σ++L)[C]?=L[0]?:=λσ L=>(by rw[<- Ms σ];exact aW _ L 0);have PR:∀(σ:S)(L:SA)(y:aa),(Q1 σ++L).set (N+6+M.length+4) y=(P1 σ++([.cells ((ew h ns).map iv) 86,.cells x.l 76,.cells (tc.map iv) 86,.cells (qs.map λn=>wv n) 81,y]++M2))++L:=λσ L y=>(by rw[gJ,Te,qx];simp);obtain⟨Mz,HA⟩:∃Mz:SA,∀σ,Q1 σ++[.cells (b.map iv) 86]=Gf σ++Mz:=⟨_,λσ=>by rw[gJ,dI,Te,Te]⟩;have eI:∀(τ:S)(lp:Lp),bJ (P1 σ'++([.cells ((ew h ns).map iv) 86,.cells x.l 76,.cells (tc.map iv) 86,.cells (qs.map λn=>wv n) 81,.loop l2 .ready none fq T2 44 #[33] h_ ie (N+4)]++M2))->bJ (P1 τ++([.cells ((ew h ns).map iv) 86,.cells x.l 76,.cells (tc.map iv) 86,.cells (qs.map λn=>wv n) 81,.loop l2 lp.st lp.pe fq T2 44 #[33] h_ ie (N+4)]++M2)):=λτ lp iM=>Ca σ' τ _ _ (by simp) (λq hz z fD=>by
      have hl:=hz (.loop l2 .ready none fq T2 44 #[33] h_ ie (N+4)) (by simp);rcases Tv.1 fD with h'|h'
      ·simp only[Tm,T7,or_false]at h';rcases h' with rfl|rfl|rfl|rfl|rfl
       ·exact hz _ (by simp)
       ·exact hz _ (by simp)
       ·exact hz _ (by simp)
       ·exact hz _ (by simp)
       ·exact hl
      ·exact hz _ (T_ _ h')) iM
     have gV:db (λm:S×Lp=>P1 m.1++[.cells ((ew h ns).map iv) 86,.cells x.l 76,.cells (tc.map iv) 86,.cells (qs.map λn=>wv n) 81,.loop l2 m.2.st m.2.pe fq T2 44 #[33] h_ ie (N+4)]) pv k2 zL M2 (jr f deep (σ',.ready) b):=lH;have MX:∀z:aa,P1 σ'++(aa.cells (Wn iv (ew h ns)) 86::aa.cells x.l 76::aa.cells (Wn iv tc) 86::aa.cells (Wn (λn=>wv n) qs) 81::qD::(M2++[z]))=Q1 σ'++[z]:=λz=>(by rw[gJ];simp);have Hh:bJ (P1 σ'++([.cells ((ew h ns).map iv) 86,.cells x.l 76,.cells (tc.map iv) 86,.cells (qs.map λn=>wv n) 81,.loop l2 .ready none fq T2 44 #[33] h_ ie (N+4)]++M2))->∀(τ:S)(lp:Lp)(b':Bool)(TT:SH),k2 (bv b') ((P1 τ++[.cells ((ew h ns).map iv) 86,.cells x.l 76,.cells (tc.map iv) 86,.cells (qs.map λn=>wv n) 81,.loop l2 lp.st lp.pe fq T2 44 #[33] h_ ie (N+4)])++M2)->pH (N+6+M.length+4) C k2 lp.st lp.pe b' ⟨TT,Gf τ++Mz⟩:=λiM τ lp b' TT dR=>by
      refine⟨l2,.busy,none,fq,T2,44,#[33],h_,ie,N+4,by show (Gf τ++Mz)[_]?=_;rw[<- HA,q4,t_],?_⟩;show cz C ((Gf τ++Mz).set _ _) _ k2;rw[<- HA,PR];rw[Te]at dR;exact jS (G:=[.cells (b.map iv) 86]) (Wk.refl _) rfl (by rw[hC];simp[eS];omega) (eI τ lp iM) (.val _) dR
     have alk:bJ (P1 σ'++([.cells ((ew h ns).map iv) 86,.cells x.l 76,.cells (tc.map iv) 86,.cells (qs.map λn=>wv n) 81,.loop l2 .ready none fq T2 44 #[33] h_ ie (N+4)]++M2))->∀τ:S,zL pv ((P1 τ++[.cells ((ew h ns).map iv) 86,.cells x.l 76,.cells (tc.map iv) 86,.cells (qs.map λn=>wv n) 81,.loop l2 Lp.busy.st Lp.busy.pe fq T2 44 #[33] h_ ie (N+4)])++M2)->cz C (Gf τ++Mz) pv zL:=λiM τ dR=>by
      rw[<- HA,gJ,t_];rw[Te]at dR;exact jS (G:=[.cells (b.map iv) 86]) (Wk.refl _) rfl (by rw[hC];simp[eS];omega) (eI τ .busy iM) (lK _) dR
     subst oS zd zf;rw[Te];refine w8 (id:=N+6+M.length+4) (by rw[mu];rfl) rfl (by kernel_rfl) λsh Mf=> ?_;simp only[tz];refine ab ?_;simp only[seval,cT,xy];unfold va;refine⟨none,fq,_,44,#[33],_,_,_,by rw[mu];rfl,?_⟩;dsimp only;rw[qx];simp only[VI,U7];rw[<- t_];have DR:(P1 σ').length+(M2.length+1+1+1+1+1)=C:=(by rw[eS,hC];omega);rw[DR,MX];refine ab ?_;simp only[seval,qN,qc,cT,xu];rw[Tx (i:=11) (l:=b.map iv) (by rw[xu];exact Ts _),HA];refine yI (hY.call σ' b Mz _ _ Mk hb ?_);unfold jr at gV;rw[show f (σ',Lp.ready).1 b=f σ' b from rfl]at gV;cases hf:f σ' b with
     |go τ=>
      rw[hf]at gV;dsimp only at gV;simp only[db];(try simp only[seval,hd]);refine aB ?_;refine⟨λh0=> ?_,λh0=> ?_⟩
      ·replace h0:deep=0:=(by simpa using h0);rw[if_pos h0]at gV;simp only[db]at gV;refine aT ?_;exact Hh sh τ .ret false _ gV
      ·replace h0:¬deep=0:=(by simpa using h0);rw[if_neg h0]at gV;refine aE ?_;refine ab ?_;simp only[seval,hd];refine aB ?_;refine⟨λh1=> ?_,λh1=> ?_⟩
       ·replace h1:deep=1:=(by simpa using h1);rw[if_pos h1]at gV;simp only[db]at gV;refine bD ?_;exact Hh sh τ (.exit 3) false _ gV
       ·replace h1:¬deep=1:=(by simpa using h1);rw[if_neg h1]at gV;simp only[db]at gV;refine aE ?_;exact Hh sh τ .ready true _ gV
     |stop τ=>
      rw[hf]at gV;dsimp only at gV;simp only[db]at gV⊢;(try simp only[seval]);refine aB ?_;refine aT ?_;exact Hh sh τ .ret false _ gV
     |bad τ=>
      rw[hf]at gV;dsimp only at gV;simp only[db]at gV⊢;exact alk sh τ gV
    ·obtain⟨σ',lp⟩:=m;obtain⟨τ,Ft⟩:=m';unfold jr at he;have hi:=(hY.inv σ' b τ hm.1 hb);cases hf:f σ' b with
     |go τ'=>
      rw[show f (σ',lp).1 b=f σ' b from rfl,hf]at he;dsimp only at he;by_cases h0:deep=0
      ·rw[if_pos h0]at he;cases he
      ·rw[if_neg h0]at he;by_cases h1:deep=1
       ·rw[if_pos h1]at he;cases he
       ·rw[if_neg h1]at he;cases he;exact⟨hi hf,rfl⟩
     |stop τ'=>rw[show f (σ',lp).1 b=f σ' b from rfl,hf]at he;cases he
     |bad τ'=>rw[show f (σ',lp).1 b=f σ' b from rfl,hf]at he;cases he
    ·rcases Tv.1 fD with h'|h'
     ·rw[dI]at h';rcases Tv.1 h' with h'|h'
      ·exact hY.ok q m.1 m'.1 (λw hw=>hz w (Ul _ (by rw[dI];exact Ul _ hw))) z h'
      ·exact hz z (Ul _ (by rw[dI];exact T_ _ h'))
     ·have hl:=hz _ (T_ _ (T8 (i:=4) rfl));simp only[Tm,T7,or_false]at h';rcases h' with rfl|rfl|rfl|rfl|rfl
      ·exact hz _ (T_ _ (by simp))
      ·exact hz _ (T_ _ (by simp))
      ·exact hz _ (T_ _ (by simp))
      ·exact hz _ (T_ _ (by simp))
      ·exact hl
   have e1:qz f deep (wh x h) (σ,.ready) (ew h ns)=lw (bM (jr f deep) ((iR x h ns).map (dq h ns)) (σ,.ready)):=(by unfold qz;rw[Om h4 iV]);rw[e1]at dR;refine cP (aka (x:=x) (h:=h) (ns:=ns) (qs:=qs) (N:=N+6+M.length+5) (ir:=N+6+M.length+1) (it:=N+6+M.length+2) (is:=N+6+M.length+3) (tc:=ew h ns) (σ:=(σ,Lp.ready)) hx h4 iV za (λtc m L=> ?_) (λtc m L=> ?_) (λtc eN m L=> ?_) (λtc m L=> ?_) BN zx (λq tc eN m hz z fD=> ?_) lK rfl ⟨Mj,rfl⟩ (hA ns iW) (λeN awH=> ?_))
   ·rw[Te];exact pb _ _ 1
   ·rw[Te];exact pb _ _ 2
   ·rw[Te,<- eS m.1,dB,Te];rfl
   ·rw[Te];exact pb _ _ 3
   ·rcases Tv.1 fD with h'|h'
    ·exact hz z (Ul _ h')
    ·simp only[Tm,T7,or_false]at h';rcases h' with rfl|rfl|rfl|rfl|rfl
     ·exact hz _ (by simp)
     ·exact hz _ (by simp)
     ·exact aqK _ _ _
     ·exact hz _ (by simp)
     ·exact hz _ (by simp)
   have mu:∀(σ:S)(L:SA),(P1 σ++L)[N+6+M.length+4]?=L[4]?:=λσ L=>pb σ L 4;have qx:∀(σ:S)(L:SA)(y:aa),(P1 σ++L).set (N+6+M.length+4) y=P1 σ++L.set 4 y:=λσ L y=>(by rw[<- eS σ,dB]);cases ce:bM (jr f deep) ((iR x h ns).map (dq h ns)) (σ,.ready)with
   |go m=>
    obtain⟨τ,lp⟩:=m;have iE:lp=.ready:=Cl (I:=λm:S×Lp=>m.2=.ready) (A:=λ_=>True) (λs a s' _ _ e=>auT e) _ _ _ (λ_ _=>trivial) rfl ce;subst iE;rw[ce]at dR;simp only[lw,db]at dR;simp only[gG,To];refine⟨.ready,none,_,_,_,_,_,_,_,by rw[mu];rfl,by decide,?_⟩;rw[qx,Jn];(try simp only[seval]);exact LO oR τ .ready true _ _ dR
   |stop m=>
    obtain⟨τ,lp⟩:=m;have iE:lp=.ret\/lp=.exit 3:=by
     obtain⟨_,_,q⟩:=PY ce;exact auU q
    rw[ce]at dR;rcases iE with rfl|rfl
    ·simp only[lw,db]at dR;simp only[gG,To];refine⟨.done,some .ret,_,_,_,_,_,_,_,by rw[mu];rfl,by decide,?_⟩;rw[qx,arp];(try simp only[seval]);exact LO oR τ .ret false _ _ dR
    ·simp only[lw,db]at dR;simp only[gG,To];refine⟨.done,some (.exit 3),_,_,_,_,_,_,_,by rw[mu];rfl,by decide,?_⟩;rw[qx,aro];(try simp only[seval]);exact LO oR τ .ready true _ _ dR
   |bad m=>
    obtain⟨τ,lp⟩:=m;rw[ce]at dR;simp only[lw,db]at dR;simp only[gG,To];exact alm oR τ _ dR
  ·obtain⟨σ',lp⟩:=m;obtain⟨τ,Ft⟩:=m';obtain⟨ns,iW,rfl⟩:=ha;have e1:qz f deep (wh x h) (σ',lp) (ew h ns)=lw (bM (jr f deep) ((iR x h ns).map (dq h ns)) (σ',.ready)):=(by unfold qz;rw[Om h4 (Pc iW)]);rw[e1]at he;exact ahg hY.inv (hA ns iW) hm.1 he
  ·rcases Tv.1 fD with h'|h'
   ·exact hY.ok q m.1 m'.1 (λw hw=>hz w (Ul _ hw)) z h'
   ·have hl:=hz _ (T_ _ (T8 (i:=5) rfl));simp only[Tm,T7,or_false]at h';rcases h' with rfl|rfl|rfl|rfl|rfl|rfl
    ·exact hz _ (T_ _ (by simp))
    ·exact hz _ (T_ _ (by simp))
    ·exact hz _ (T_ _ (by simp))
    ·exact hz _ (T_ _ (by simp))
    ·exact hz _ (T_ _ (by simp))
    ·exact hl
 obtain⟨eJ,vZ⟩:=afL (f:=f) (deep:=deep) (L:=wh x h) ((gE x h).map (ew h)) σ;rw[<- au0 h4]at eJ;have g4:∀(σ:S)(L:SA),(Gf σ++L)[N+4]?=L[4]?:=λσ L=>hY.get σ L 4;have g5:∀(σ:S)(L:SA),(Gf σ++L)[N+4+1]?=L[5]?:=λσ L=>hY.get σ L 5;have s4:∀(σ:S)(L:SA) y,(Gf σ++L).set (N+4) y=Gf σ++L.set 4 y:=λσ L y=>hY.set σ L 4 y;have s5:∀(σ:S)(L:SA) y,(Gf σ++L).set (N+4+1) y=Gf σ++L.set 5 y:=λσ L y=>hY.set σ L 5 y;have sV:∀n,Lt n (.aL []):=λn=>by simp[iF]
 refine cP (aj8 (x:=x) (h:=h) (N:=N+6) (ir:=N+2) (ih:=N+3) (σ:=(σ,Lp.ready)) hx hh amd (λm L=> ?_) (λm L=> ?_) lK ⟨hI,rfl⟩ (λa ha=> ?_) ?_)
 ·rw[Te,hY.get m.1 _ 2];rfl
 ·rw[Te,hY.get m.1 _ 3];rfl
 ·obtain⟨ns,h1,rfl⟩:=Uo.1 ha;exact⟨ns,h1,rfl⟩
 cases bQ:bM (qz f deep (wh x h)) ((gE x h).map (ew h)) (σ,.ready)with
 |go m=>
  obtain⟨σ',lp⟩:=m;have iE:lp=.ready:=vZ _ bQ;subst iE;rw[bQ]at eJ;have aI:=PU (r':=.go σ') eJ.symm hk;simp only[gG,To]at aI⊢;refine⟨.ready,none,_,_,_,_,_,_,_,by rw[g5];rfl,by decide,?_⟩;rw[s5];simp only[VI,U7];rw[Jm];(try simp only[seval]);rw[A8 (by rw[g4];rfl),A9,s4];(try simp only[seval]);rw[<- hN];exact wB hY hH sV aI
 |stop m=>
  obtain⟨σ',lp⟩:=m;have iE:lp=.ret:=by
   obtain⟨_,_,q⟩:=PY bQ;exact auQ q
  subst iE;rw[bQ]at eJ;have aI:=PU (r':=.stop σ') eJ.symm hk;simp only[gG,To]at aI⊢;refine⟨.done,some .ret,_,_,_,_,_,_,_,by rw[g5];rfl,by decide,?_⟩;rw[s5];simp only[VI,U7];rw[arn];(try simp only[seval]);rw[A8 (by rw[g4];rfl),A9,s4];(try simp only[seval]);rw[<- hN];exact wB hY hH sV aI
 |bad m=>
  obtain⟨σ',lp⟩:=m;rw[bQ]at eJ;have aI:=PU (r':=.bad σ') eJ.symm hk;simp only[gG,To]at aI⊢;rw[A8 (by rw[g4];rfl),A9,s4];rw[xY,<- hN];exact wB hY hH lK aI
end
open Go.Conc Go.Proofs Go.Gg.Tk
namespace Tk
def ni (x y:Int):Int:=if x<y then -1 else if y<x then 1 else 0
def oP:SD->SD->Int
 |a::l,b::m=>if ni a b≠0 then ni a b else oP l m
 |[],[]=>0
 |[],_::_=> -1
 |_::_,[]=>1
def tP (a b:SD):Bool:=if a.take 4=b.take 4 then(if oP ((a.drop 4).take 4) ((b.drop 4).take 4)≠0 then decide (oP ((a.drop 4).take 4) ((b.drop 4).take 4)<0)else decide (oP (a.drop 8) (b.drop 8)<0))else decide (oP (a.take 4) (b.take 4)<0)
end Tk
def G6{ca pa ra:SC}{xs:SD}{o i:Nat}{x:Int}(hc:ca=pa++(xs.map iv++ra))(ho:pa.length=o)(h:xs[i]?=some x):ca.drop (o+i)=iv x::((xs.drop (i+1)).map iv++ra):=by
 subst hc ho;rw[WL,U2 (by omega),VK,show pa.length+i-pa.length=i by omega,WL,ky h,show i-(xs.map iv).length=0 by have:=e_ h;simp;omega,YA];rfl
section
variable {lv:Bool}{H:SA}{k kp:SF}
def aax{x:Int}(hk:k (bv false) H):ba lv S_ 143 H [iv x] k kp:=by
 refine bH (rs:=[.tmp 2]) (nt:=6) Tryz.f143 λhH hA=> ?_;simp only[bm,Tu];refine ah ?_;refine ab ?_;simp only[seval,bne_self_eq_false];refine aT ?_;refine b8 ?_;simpa using hk
def akd{x y:Int}(hk:k (iv (ni x y)) H):ba lv S_ 142 H [iv x,iv y] k kp:=by
 refine bH (rs:=[.tmp 4]) (nt:=20) Tryz.f142 λhH hA=> ?_;simp only[bm,Tu];refine ah ?_;refine ah ?_;refine aG (aax ?_);(try simp only[seval]);refine ah ?_;refine aG (aax ?_);(try simp only[seval]);refine ah ?_;refine aB ?_;refine aE ?_;refine ah ?_;refine aB ?_;refine aE ?_;refine ah ?_;refine aB ?_;refine⟨λh=> ?_,λh=> ?_⟩
 ·refine ah ?_;refine aT ?_;rw[ni,if_pos h]at hk;exact b8 hk
 ·refine aE ?_;refine ah ?_;refine aB ?_;refine⟨λh2=> ?_,λh2=> ?_⟩
  ·refine ah ?_;refine aT ?_;rw[ni,if_neg h,if_pos h2]at hk;exact b8 hk
  ·refine aE ?_;refine ah ?_;refine aT ?_;rw[ni,if_neg h,if_neg h2]at hk;exact b8 hk
def Lx{xs ys:SD}{ia oa ib ob ta tb:Nat}{ca cb pa ra pb rb:SC}(ha:H[ia]?=some (.cells ca ta))(hb:H[ib]?=some (.cells cb tb))(hca:ca=pa++(xs.map iv++ra))(NF:pa.length=oa)(hcb:cb=pb++(ys.map iv++rb))(hpb:pb.length=ob)(hl:ys.length=xs.length)(h4:xs.length<=4)(hk:k (iv (oP xs ys)) H):
  ba lv S_ 138 H [.bC ia oa xs.length xs.length,.bC ib ob ys.length ys.length] k kp:=by
 refine bH (rs:=[.tmp 4]) (nt:=36) Tryz.f138 λhH hA=> ?_;simp only[bm,Tu];refine ah ?_;refine ah ?_;refine bF ?_;refine pL xs.length (λi:Nat=>[(11,iv i)]) (λ_=>H) (λi=>oP xs ys=oP (xs.drop i) (ys.drop i)) rfl (λbz bE i ce hI R hR=> ?_);refine ah ?_;refine aB ?_;refine⟨λh=> ?_,λh=> ?_⟩
 ·have bk:i<xs.length:=by omega
  obtain⟨x,hx⟩:=bA bk;obtain⟨y,hy⟩:=bA (xs:=ys) (i:=i) (by omega);have bK:=TN i (by omega)
  have lM:oP xs ys=if ni x y≠0 then ni x y else oP (xs.drop (i+1)) (ys.drop (i+1)):=by rw[hI,xb hx,xb hy,oP]
  refine aE ?_;refine ab ?_;simp only[seval,ha,jx bk,G6 hca NF hx];refine ah ?_;refine aB ?_;refine⟨λh2=>by exfalso;omega,λh2=> ?_⟩;refine aE ?_;refine ab ?_;simp only[seval,hb,jx (show i<ys.length by omega),G6 hcb hpb hy];refine ah ?_;refine aG (akd ?_);(try simp only[seval]);refine ah ?_;refine aB ?_;refine⟨λh3=> ?_,λh3=> ?_⟩
  ·refine ah ?_;refine aT ?_;rw[lM,if_pos (by simpa using h3)]at hk;exact b8 hk
  ·refine aE ?_;refine ab ?_;simp only[seval,bK];refine hR _ ⟨bk,?_,bX⟩;rw[lM,if_neg (by simpa using h3)]
 ·have dK:i=xs.length:=by omega
  subst dK;refine bD ?_;refine ab ?_;simp only[seval,hl];refine aB ?_;refine⟨λh2=>by exfalso;omega,λh2=> ?_⟩;refine aE ?_;refine ah ?_;refine aT ?_;rw[hI,asI,U2 (XI hl),oP]at hk;exact b8 hk
def F.F4:S_.underlying 83=some (.array 4 3):=by kernel_rfl
def F.u3:S_.underlying 3=some (.int .i64):=by kernel_rfl
def ag0{P:Tl}{t e:TypeId}{k0:U3}{n:Nat}{xs ys:SD}(ht:P.underlying t=some (.array n e))(he:P.underlying e=some (.int k0))(hs:(P.info? e).map (·.size)=some 1)(hg:P.eqGuardType P.depth t=false)(hx:xs.length=n)(hy:ys.length=n)(k:SR):
  dH P .neq t (.agg (xs.map iv)) (.agg (ys.map iv)) k=k (bv (!(xs==ys))):=by
 obtain⟨i,hi,hs⟩:=Uv.1 hs;have xM:=afp ht he hi hs hx hy;have e:dH P .neq t (.agg (xs.map iv)) (.agg (ys.map iv)) k=((WZ=.eql\/WZ=.neq)/\ao (AV.raw (.agg (xs.map iv))) λX=>ao (AV.raw (.agg (ys.map iv))) λY=>yO X Y=true/\P.eqGuardType P.depth t=false/\∃e,cL P (XP t X Y) e/\k (.val (.bool (if WZ== .neq then !e else e)))):=rfl;rw[e,wz,wz,xY,xY];apply propext;constructor
 ·rintro⟨_,_,_,b,h1,h2⟩
  rw[xM.uniq h1];exact h2
 ·intro h;exact⟨.inr rfl,rfl,hg,_,xM,h⟩
def F.i3s:(S_.info? 3).map (·.size)=some 1:=by kernel_rfl
def F.g83:S_.eqGuardType S_.depth 83=false:=by kernel_rfl
def akc{a b:SD}(ha:a.length=11)(hb:b.length=11)(hk:k (bv (tP a b)) H):ba lv S_ 128 H [.agg (a.map iv),.agg (b.map iv)] k kp:=by
 refine bH (rs:=[.tmp 4]) (nt:=32) Tryz.f128 λhH hA=> ?_;simp only[bm,Tu];have ham:(a.map iv).length=11:=by rw[Ue,ha]
 have xu:(b.map iv).length=11:=by rw[Ue,hb]
 have ea:a.map iv=(a.take 4).map iv++(((a.drop 4).take 4).map iv++(a.drop 8).map iv):=by
  rw[<- Uq,<- Uq];congr 1;have:(a.drop 4).take 4++a.drop 8=a.drop 4:=by
   conv=>rhs;rw[<- Ww 4 (a.drop 4)]
   rw[axL]
  rw[this,Ww]
 have eb:b.map iv=(b.take 4).map iv++(((b.drop 4).take 4).map iv++(b.drop 8).map iv):=by
  rw[<- Uq,<- Uq];congr 1;have:(b.drop 4).take 4++b.drop 8=b.drop 4:=by
   conv=>rhs;rw[<- Ww 4 (b.drop 4)]
   rw[axL]
  rw[this,Ww]
 refine ah ?_;refine ab ?_;simp only[seval,ham,xu,ha,hb];have Ir:(a.take 4).length=4:=by simp[ha]
 have N1:(b.take 4).length=4:=by simp[hb]
 have NZ:((a.drop 4).take 4).length=4:=by simp[ha]
 have acz:((b.drop 4).take 4).length=4:=by simp[hb]
 have N0:(a.drop 8).length=3:=by simp[ha]
 have acA:(b.drop 8).length=3:=by simp[hb]
 rw[<- Xd,<- Xd,ag0 F.F4 F.u3 F.i3s F.g83 Ir N1];refine aB ?_;refine⟨λh=> ?_,λh=> ?_⟩
 ·refine eA 4 ?_;simp only[seval];have c1:=λk kp=>Lx (lv:=lv) (k:=k) (kp:=kp) (H:=H++[.cells (a.map iv) 86,.cells (b.map iv) 86]) (xs:=a.take 4) (ys:=b.take 4) (ia:=H.length) (ib:=H.length+1) (oa:=0) (ob:=0) (pa:=[]) (pb:=[]) (aW H _ 0) (aW H _ 1) ea rfl eb rfl (by rw[Ir,N1]) (by rw[Ir];exact Ts _);simp only[Ir,N1]at c1;refine aG (c1 _ _ ?_);(try simp only[seval]);refine aT ?_;rw[tP,if_neg (by simpa using h)]at hk;exact jg hH hk
 ·have h:=(by simpa using h:a.take 4=b.take 4);rw[tP,if_pos h]at hk;refine aE ?_;refine eA 4 ?_;simp only[seval];have c2:=λk kp=>Lx (lv:=lv) (k:=k) (kp:=kp) (H:=H++[.cells (a.map iv) 86,.cells (b.map iv) 86]) (xs:=(a.drop 4).take 4) (ys:=(b.drop 4).take 4) (ia:=H.length) (ib:=H.length+1) (oa:=4) (ob:=4) (pa:=(a.take 4).map iv) (pb:=(b.take 4).map iv) (aW H _ 0) (aW H _ 1) ea (by simp[ha]) eb (by simp[hb]) (by rw[NZ,acz]) (by rw[NZ];exact Ts _);simp only[NZ,acz]at c2;refine aG (c2 _ _ ?_);(try simp only[seval]);refine ah ?_;refine aB ?_;refine⟨λh2=> ?_,λh2=> ?_⟩
  ·refine ah ?_;refine aT ?_;rw[if_pos (by simpa using h2)]at hk;exact jg hH hk
  ·refine aE ?_;rw[if_neg (by simpa using h2)]at hk;refine eA 4 ?_;simp only[seval];have c3:=λk kp=>Lx (lv:=lv) (k:=k) (kp:=kp) (H:=H++[.cells (a.map iv) 86,.cells (b.map iv) 86]) (xs:=a.drop 8) (ys:=b.drop 8) (ia:=H.length) (ib:=H.length+1) (oa:=8) (ob:=8) (pa:=(a.take 4).map iv++((a.drop 4).take 4).map iv) (pb:=(b.take 4).map iv++((b.drop 4).take 4).map iv) (ra:=[]) (rb:=[]) (aW H _ 0) (aW H _ 1) (by rw[ea];simp) (by simp[ha]) (by rw[eb];simp) (by simp[hb]) (by rw[N0,acA]) (by rw[N0];omega);simp only[N0,acA]at c3;refine aG (c3 _ _ ?_);(try simp only[seval]);refine aT ?_;exact jg hH hk
end
open Go.Conc Go.Proofs Go.Gg.Tk
def I2{α:Type}{g:α->AV}{ca pa ra:SC}{xs:List α}{o i:Nat}{x:α}(hc:ca=pa++(xs.map g++ra))(ho:pa.length=o)(h:xs[i]?=some x):ca.drop (o+i)=g x::((xs.drop (i+1)).map g++ra):=by
 subst hc ho;rw[WL,U2 (by omega),VK,show pa.length+i-pa.length=i by omega,WL,AZ h,show i-(xs.map g).length=0 by have:=e_ h;simp;omega,YA];rfl
def I3{α:Type}{g:α->AV}{ca pa ra:SC}{xs:List α}{o i:Nat}{y:α}(hc:ca=pa++(xs.map g++ra))(ho:pa.length=o)(h:i<xs.length):ca.take (o+i)++[g y]++ca.drop (o+i+1)=pa++((xs.set i y).map g++ra):=by
 subst hc ho;have h1:(pa++(xs.map g++ra)).take (pa.length+i)=pa++(xs.map g).take i:=by
  rw[List.take_append,Tx (by omega),show pa.length+i-pa.length=i by omega,UA (by simp;omega)]
 have h2:(pa++(xs.map g++ra)).drop (pa.length+i+1)=(xs.map g).drop (i+1)++ra:=by
  rw[WL,U2 (by omega),VK,show pa.length+i+1-pa.length=i+1 by omega,Xt (by simp;omega)]
 rw[h1,h2,<- P8 h];simp[Te]
namespace Tk
def Kn.l (F:Kn)(mp:Nat):SC:=bv F.has:: .mp mp::(F.ap.map (λn=>wv n)++(F.hours.map (λn=>wv n)++(F.less.map (λn=>wv n)++(F.aY.map (λn=>wv n)++F.first.map iv))))
structure bP (F:Kn):Prop where
 ap:F.ap.length=4
 hours:F.hours.length=4
 less:F.less.length=4
 aY:F.aY.length=3
 first:F.first.length=11
 mU:∀n∈F.ap,n<65536
 mF:∀n∈F.hours,n<65536
 mm:∀n∈F.less,n<65536
 mq:∀n∈F.aY,n<65536
 h4:∀h∈F.aM,h.length=4
def Kn.len{F:Kn}(h:bP F)(mp:Nat):(F.l mp).length=28:=by simp[Kn.l,h.ap,h.hours,h.less,h.aY,h.first]
def Kn.I7{F:Kn}{mp p n:Nat}(h:F.ap[p]?=some n):(F.l mp).drop (2+p)=wv n::((F.ap.drop (p+1)).map (λn=>wv n)++(F.hours.map (λn=>wv n)++(F.less.map (λn=>wv n)++(F.aY.map (λn=>wv n)++F.first.map iv)))):=I2 (pa:=[bv F.has,.mp mp]) rfl rfl h
def Kn.adV{F:Kn}{mp p v:Nat}(h:p<F.ap.length):(F.l mp).take (2+p)++[wv v]++(F.l mp).drop (2+p+1)=({F with ap:=F.ap.set p v}:Kn).l mp:=I3 (g:=λn=>wv n) (pa:=[bv F.has,.mp mp]) rfl rfl h
def Kn.Ib{F:Kn}(k:bP F){mp p n:Nat}(h:F.hours[p]?=some n):(F.l mp).drop (6+p)=wv n::((F.hours.drop (p+1)).map (λn=>wv n)++(F.less.map (λn=>wv n)++(F.aY.map (λn=>wv n)++F.first.map iv))):=I2 (pa:=bv F.has:: .mp mp::F.ap.map (λn=>wv n)) rfl (by simp[k.ap]) h
def Kn.acl{F:Kn}(k:bP F){mp p v:Nat}(h:p<F.hours.length):(F.l mp).take (6+p)++[wv v]++(F.l mp).drop (6+p+1)=({F with hours:=F.hours.set p v}:Kn).l mp:=I3 (g:=λn=>wv n) (pa:=bv F.has:: .mp mp::F.ap.map (λn=>wv n)) rfl (by simp[k.ap]) h
def Kn.Fp{F:Kn}(k:bP F){mp p n:Nat}(h:F.less[p]?=some n):(F.l mp).drop (10+p)=wv n::((F.less.drop (p+1)).map (λn=>wv n)++(F.aY.map (λn=>wv n)++F.first.map iv)):=I2 (pa:=bv F.has:: .mp mp::(F.ap.map (λn=>wv n)++F.hours.map (λn=>wv n))) (by simp[Kn.l]) (by simp[k.ap,k.hours]) h
def Kn.ade{F:Kn}(k:bP F){mp p v:Nat}(h:p<F.less.length):(F.l mp).take (10+p)++[wv v]++(F.l mp).drop (10+p+1)=({F with less:=F.less.set p v}:Kn).l mp:=by
 have:=I3 (g:=λn=>wv n) (ca:=F.l mp) (y:=v) (pa:=bv F.has:: .mp mp::(F.ap.map (λn=>wv n)++F.hours.map (λn=>wv n))) (ra:=F.aY.map (λn=>wv n)++F.first.map iv) (by simp[Kn.l]) (show _=10 by simp[k.ap,k.hours]) h;rw[this];simp[Kn.l]
def Kn.FL{F:Kn}(k:bP F){mp p n:Nat}(h:F.aY[p]?=some n):(F.l mp).drop (14+p)=wv n::((F.aY.drop (p+1)).map (λn=>wv n)++F.first.map iv):=I2 (pa:=bv F.has:: .mp mp::(F.ap.map (λn=>wv n)++(F.hours.map (λn=>wv n)++F.less.map (λn=>wv n)))) (by simp[Kn.l]) (by simp[k.ap,k.hours,k.less]) h
def Kn.aea{F:Kn}(k:bP F){mp p v:Nat}(h:p<F.aY.length):(F.l mp).take (14+p)++[wv v]++(F.l mp).drop (14+p+1)=({F with aY:=F.aY.set p v}:Kn).l mp:=by
 have:=I3 (g:=λn=>wv n) (ca:=F.l mp) (y:=v) (pa:=bv F.has:: .mp mp::(F.ap.map (λn=>wv n)++(F.hours.map (λn=>wv n)++F.less.map (λn=>wv n)))) (ra:=F.first.map iv) (by simp[Kn.l]) (show _=14 by simp[k.ap,k.hours,k.less]) h;rw[this];simp[Kn.l]
def Kn.DK{F:Kn}{mp:Nat}:(F.l mp)[0]?=some (bv F.has):=rfl
def Kn.ajn{F:Kn}{mp:Nat}:(F.l mp).drop 1=.mp mp::(F.ap.map (λn=>wv n)++(F.hours.map (λn=>wv n)++(F.less.map (λn=>wv n)++(F.aY.map (λn=>wv n)++F.first.map iv)))):=rfl
def Kn.ath{F:Kn}{mp:Nat}:(F.l mp).take 0++[bv true]++(F.l mp).drop (0+1)=({F with has:=true}:Kn).l mp:=rfl
def Kn.aeM{F:Kn}(k:bP F){mp:Nat}{t:SD}(ht:t.length=11):(F.l mp).take 17++t.map iv++(F.l mp).drop (17+11)=({F with first:=t}:Kn).l mp:=by
 have e:F.l mp=(bv F.has:: .mp mp::(F.ap.map (λn=>wv n)++(F.hours.map (λn=>wv n)++(F.less.map (λn=>wv n)++F.aY.map (λn=>wv n)))))++F.first.map iv:=by simp[Kn.l]
 have hl:(bv F.has::AV.mp mp::(F.ap.map (λn=>wv n)++(F.hours.map (λn=>wv n)++(F.less.map (λn=>wv n)++F.aY.map (λn=>wv n))))).length=17:=by simp[k.ap,k.hours,k.less,k.aY]
 rw[U2 (by rw[Kn.len k];omega),e,UA (by omega),Tx (by omega),To];simp[Kn.l]
structure jd (x:ak)(t:SD):Prop where
 len:t.length=11
 aK:jO (t.take 4)
 num:∀p,p<x.pieces.length->∃n:Nat,t[4+p]?=some (n:Int)/\n<9/\0<=iu (t.take 4) (n+t.getD 0 0)
 own:∀s,s<x.aC.length->∃o:Nat,t[8+s]?=some (o:Int)/\o<4
end Tk
def setH (hs:SO):aa:=.obj (.map (hs.zipIdx.map dS).toArray hs.length)
def rE{H:SA}{i:Nat}{x:aa}(h:H[i]?=some x):H.set i x=H:=by
 apply Zo;intro j;rw[VT];split
 ·rename_i e;subst e;rw[if_pos (e_ h)];exact h.symm
 ·rfl
def wE{H L:SA}{i:Nat}{x:aa}(h:i<H.length):(H++L).set i x=H.set i x++L:=VX _ _ h
section
variable {lv:Bool}{H:SA}{k kp:SF}
def RH{F:Kn}{t:SD}(h:bP F)(ht:t.length=11):bP (je F t):=by
 unfold je;split
 ·exact h
 ·exact⟨h.ap,h.hours,h.less,h.aY,ht,h.mU,h.mF,h.mm,h.mq,h.h4⟩
def Fw{l:SE}{i v:Nat}(h:∀n∈l,n<65536)(hv:v<65536):∀n∈l.set i v,n<65536:=λn hn=>by
 rcases VF hn with h'|rfl
 ·exact h n h'
 ·exact hv
def Tk.bP.FU{G:Kn}(h:bP G){i v:Nat}(hv:v<65536):bP {G with aY:=G.aY.set i v}:=⟨h.ap,h.hours,h.less,by simp[h.aY],h.first,h.mU,h.mF,h.mm,Fw h.mq hv,h.h4⟩
def Tk.bP.aeR{G:Kn}(h:bP G){i v:Nat}(hv:v<65536):bP {G with ap:=G.ap.set i v}:=⟨by simp[h.ap],h.hours,h.less,h.aY,h.first,Fw h.mU hv,h.mF,h.mm,h.mq,h.h4⟩
def Tk.bP.aeP{G:Kn}(h:bP G){i v:Nat}(hv:v<65536):bP {G with hours:=G.hours.set i v}:=⟨h.ap,by simp[h.hours],h.less,h.aY,h.first,h.mU,Fw h.mF hv,h.mm,h.mq,h.h4⟩
def Tk.bP.aeQ{G:Kn}(h:bP G){i v:Nat}(hv:v<65536):bP {G with less:=G.less.set i v}:=⟨h.ap,h.hours,by simp[h.less],h.aY,h.first,h.mU,h.mF,Fw h.mm hv,h.mq,h.h4⟩
def Gz{l:SE}{i n v:Nat}(h:l[i]?=some n):pI l i v=l.set i (n|||2^v):=by
 unfold pI;rw[Tf,h];rfl
def aeO(hs:SO):setH hs=.obj (.map (hs.zipIdx.map dS).toArray hs.length):=rfl
def aeN(hs:SO)(h:SD):setH (hs++[h])=.obj (.map ((hs.zipIdx++[(h,hs.length)]).map dS).toArray (hs.length+1)):=by
 rw[aeO,List.zipIdx_append,Tt];simp
def CJ{α:Type}{l:List α}{y:α×Nat}(h:y∈l.zipIdx):y.1∈l:=by
 obtain⟨a,b⟩:=y;have:=List.mem_zipIdx h;simp at this;rw[this.2];exact W_ _
def LP{x:SD}{hs:SO}:(qO x hs.zipIdx 0=none/\x∉hs)\/(∃i b,qO x hs.zipIdx 0=some (i,.bool true)/\hs.zipIdx[i]?=some (x,b)/\x∈hs):=by
 cases h:qO x hs.zipIdx 0 with
 |none=>
  refine .inl ⟨rfl,λhm=> ?_⟩;obtain⟨i,hi⟩:=VU.1 hm;have:(x,i)∈hs.zipIdx:=VU.2 ⟨i,by rw[List.getElem?_zipIdx,hi];simp⟩;exact aaT h _ this rfl
 |some p=>
  obtain⟨i,v⟩:=p;obtain⟨b,_,h2,rfl⟩:=aaU h;rw[aw']at h2;exact .inr ⟨i,b,rfl,h2,CJ (y:=(x,b)) (T8 h2)⟩
def F.i3:∃i,S_.info? 3=some i/\i.size=1:=by
 obtain⟨i,h1,h2⟩:=Uv.1 F.i3s;exact⟨i,h1,h2⟩
def wC{H L:SA}{i:Nat}{z:aa}(h:i<H.length):(H.set i z++L)[i]?=some z:=by
 rw[T4 (by simpa using h),VT,if_pos rfl,if_pos h]
def wD{H L:SA}{i:Nat}{z y:aa}(h:i<H.length):(H.set i z++L).set i y=H.set i y++L:=by
 rw[wE (by simpa using h),Ya]
def ala{x:ak}{t:SD}{deep:Int}{fp mp:Nat}{Q:Kn}(hx:x.Ok)(ht:jd x t)(hQ:bP Q)(mH:fp≠mp)(hf:H[fp]?=some (.cells (Q.l mp) 88))(hm:H[mp]?=some (setH Q.aM))(hk:k (.aL []) ((H.set fp (.cells ((eg x deep Q t).l mp) 88)).set mp (setH (eg x deep Q t).aM))):ba lv S_ 99 H [.op fp 0,x.av,.agg (t.map iv),iv deep] k kp:=by
 refine bH (rs:=[]) (nt:=135) Tryz.f99 λhH hA=> ?_;simp only[bm,Tu,ak.av];have kB:=ht.len;have Mb:(t.map iv).length=11:=by rw[Ue,kB]
 have mG:=e_ hf;have sH:=e_ hm;have ab6:=Kn.len hQ mp;have dJ:∀(L:SA) i,(H++L)[H.length+i]?=L[i]?:=λL i=>aW H L i;obtain⟨R1,qR⟩:∃R1,R1=je Q t:=⟨_,rfl⟩;have n3:bP R1:=by rw[qR];exact RH hQ kB
 have D2:R1.aM=Q.aM:=by rw[qR];unfold je;split<;>rfl
 obtain⟨H1,l5⟩:∃H1,H1=H.set fp (.cells (R1.l mp) 88):=⟨_,rfl⟩;have cR:H1.length=H.length:=by rw[l5,UM]
 have yY:H1[fp]?=some (.cells (R1.l mp) 88):=by rw[l5,VT,if_pos rfl,if_pos mG]
 have Hq:H1[mp]?=some (setH R1.aM):=by rw[l5,U6 mH,D2];exact hm
 have anv:∀G:Kn,∀hs:SO,bJ ((H1.set fp (.cells (G.l mp) 88)).set mp (setH hs)):=λG hs=>by
  have hl:((H1.set fp (.cells (G.l mp) 88)).set mp (setH hs)).length=H.length:=by rw[UM,UM,cR]
  intro z hz;rw[hl];rcases VF hz with hz|rfl
  ·rcases VF hz with hz|rfl
   ·rw[l5]at hz;rcases VF hz with hz|rfl
    ·exact hH z hz
    ·intro a ha;simp only[Kn.l,Tm,Tv,Uo]at ha;rcases ha with rfl|rfl|⟨_,_,rfl⟩|⟨_,_,rfl⟩|⟨_,_,rfl⟩|⟨_,_,rfl⟩|⟨_,_,rfl⟩
     ·exact .val _
     ·exact .mp (by omega)
     all_goals exact .val _
   ·intro a ha;simp only[Kn.l,Tm,Tv,Uo]at ha;rcases ha with rfl|rfl|⟨_,_,rfl⟩|⟨_,_,rfl⟩|⟨_,_,rfl⟩|⟨_,_,rfl⟩|⟨_,_,rfl⟩
    ·exact .val _
    ·exact .mp (by omega)
    all_goals exact .val _
  ·trivial
 have gT:k (.aL []) ((H1.set fp (.cells ((eg x deep Q t).l mp) 88)).set mp (setH (eg x deep Q t).aM)):=by rw[l5,Ya];exact hk
 have eJ:∀(G:Kn)(hs:SO)(L:SA),eg x deep Q t=G->G.aM=hs->cz H1.length ((H1.set fp (.cells (G.l mp) 88)).set mp (setH hs)++L) (.aL []) k:=λG hs L hG fA=>by
  subst hG fA;exact jS (Wk.refl _) rfl (by rw[UM,UM,cR];exact Ts _) (anv _ _) (by simp[iF]) gT
 have aH:eg x deep Q t=(if deep=2 then{R1 with aY:=nA t x.aC.length R1.aY}else if deep=0 then{R1 with aM:=iZ R1.aM (t.take 4)}else{R1 with ap:=sY t x.pieces.length R1.ap,hours:=sJ t x.pieces.length R1.hours,less:=qk t x.pieces.length x.pieces.length R1.less}):=by rw[qR];rfl
 rw[aH]at eJ;clear hk gT aH;refine ah ?_;refine ab ?_;simp only[seval,fH hf,Kn.DK];refine aB ?_;refine⟨λhc=> ?ga,λhc=> ?gb⟩
 case' ga=>
  have e1:R1={Q with has:=true,first:=t}:=by rw[qR];unfold je;rw[hc];rfl
  have eH:∀L:SA,(H++L).set fp (.cells (({Q with has:=true}:Kn).l mp) 88)=H.set fp (.cells (({Q with has:=true}:Kn).l mp) 88)++L:=λL=>wE mG;have HD:bP {Q with has:=true}:=⟨hQ.ap,hQ.hours,hQ.less,hQ.aY,hQ.first,hQ.mU,hQ.mF,hQ.mm,hQ.mq,hQ.h4⟩;have am9:=Kn.len HD mp;have Jv:=Kn.aeM HD (mp:=mp) (t:=t) kB;have BS:VN 11 (t.map iv)=t.map iv:=Tx (by omega);have amS:∀(z:aa)(L:SA),(H.set fp z++L)[H.length+1]?=L[1]?:=λz L=>by have:=aW (H.set fp z) L 1;rwa[UM]at this
  refine lY [5,8] (T1 9) (λD=>bif isDone 8 D then H1++[.cells x.l 76,.cells (t.map iv) 86]else bif isDone 5 D then H.set fp (.cells (({Q with has:=true}:Kn).l mp) 88)++[.cells x.l 76,.cells (t.map iv) 86]else H++[.cells x.l 76,.cells (t.map iv) 86]) ?_;simp only[seval,fH hf,wC mG,wD mG,wE mG,ab6,am9,kB,Mb,BS,amS];have eL:(AV.val (.bool true)::(VN 16 (U4 1 (Q.l mp))++t.map iv++U4 27 (U4 1 (Q.l mp))))=R1.l mp:=by rw[e1];exact Jv
  refine⟨by rfl,by rw[Vr,ab6];omega,by rw[eL,l5],?_⟩;rw[eL,<- l5,<- cR]
 case' gb=>
  have e1:R1=Q:=by rw[qR];unfold je;rw[hc];rfl
  have Lh:H1=H:=by rw[l5,e1];exact rE hf
  refine aE ?_;rw[<- Lh]
 all_goals
  clear hc e1;have l_:fp<H1.length:=by omega
  have bf:∀(L:SA),(H1++L)[H1.length]?=L[0]?:=λL=>aW H1 L 0;have cm:∀(L:SA),(H1++L)[H1.length+1]?=L[1]?:=λL=>aW H1 L 1;have dn:∀(z:aa)(L:SA),(H1.set fp z++L)[H1.length]?=L[0]?:=λz L=>by have:=aW (H1.set fp z) L 0;rwa[UM]at this
  have ep:∀(z:aa)(L:SA),(H1.set fp z++L)[H1.length+1]?=L[1]?:=λz L=>by have:=aW (H1.set fp z) L 1;rwa[UM]at this
  have Ik:∀G:Kn,G.aM=R1.aM->(H1.set fp (.cells (G.l mp) 88)).set mp (setH R1.aM)=H1.set fp (.cells (G.l mp) 88):=λG _=>rE (by rw[U6 mH];exact Hq);refine ah ?_;refine ah ?_;refine aB ?_;refine⟨λh2=> ?_,λh2=> ?_⟩
  ·
   replace h2:deep=2:=(by simpa using h2);have zB:=hx.dC;rw[if_pos h2]at eJ;refine ab ?_;simp only[seval,bf,TO,aR];refine bF ?_;refine ej x.aC.length (λi:Nat=>[(30,iv i)]) (λi=>H1.set fp (.cells (({R1 with aY:=nA t i R1.aY}:Kn).l mp) 88)++[.cells x.l 76,.cells (t.map iv) 86]) (λi=>bP {R1 with aY:=nA t i R1.aY}) (λ_ _=>rfl) (by simp only[seval];simp[bh,Wk.refl]) (by rw[show ({R1 with aY:=nA t 0 R1.aY}:Kn)=R1 from rfl,rE yY];rfl) (λ_ _ _=>by simp) n3 (λbz bE i ce aq R hR=> ?_);refine ah ?_;refine aB ?_;refine⟨λh3=> ?_,λh3=> ?_⟩
   ·have bk:i<x.aC.length:=(by omega);obtain⟨o,ho,ho4⟩:=ht.own i bk;have rl:tj t i=o:=(by unfold tj;rw[Tf,ho];rfl);obtain⟨n,hn⟩:=bA (xs:=nA t i R1.aY) (i:=i) (by have:=aq.aY;simp only at this;omega);have Ez:n<65536:=aq.mq n (T8 hn);have b3:(0<=(i:Int)/\(i:Int)<3)=True:=(by simp;omega);have bK:=TN i (by omega);have BI:=Kn.FL aq (mp:=mp) (p:=i) (n:=n) hn;have ou:=Kn.aea aq (mp:=mp) (p:=i) (v:=n|||2^o) (e_ hn);have cr:=Kn.len aq mp;refine aE ?_;refine ah ?_;refine eA 15 ?_;simp only[seval,ep,wC l_,wD l_,b3,BI,ky ho];refine fE (wv (n|||2^o)) (cP (vv Ez (show o<16 by omega) ⟨rfl,rfl⟩)) ?_;(try simp only[seval,wC l_,wD l_,b3,cr]);refine⟨by omega,?_⟩;rw[ou];refine ab ?_;simp only[seval,bK];have cW:nA t (i+1) R1.aY=(nA t i R1.aY).set i (n|||2^o):=(by rw[nA,rl,Gz hn]);refine hR _ ⟨bk,?_,?_⟩
    ·rw[cW];exact aq.FU (qw Ez (yf (by omega)))
    ·rw[cW];exact bX
   ·have dK:i=x.aC.length:=(by omega);subst dK;have:=eJ _ R1.aM [.cells x.l 76,.cells (t.map iv) 86] rfl rfl;rw[Ik {R1 with aY:=nA t x.aC.length R1.aY} rfl]at this;refine bD ?_;refine aT ?_;exact this
  ·replace h2:¬deep=2:=(by simpa using h2);rw[if_neg h2]at eJ;refine ah ?_;refine aB ?_;refine⟨λh3=> ?_,λh3=> ?_⟩
   ·
    replace h3:deep=0:=(by simpa using h3);rw[if_pos h3]at eJ;have ER:(t.take 4).length=4:=(by simp[kB]);have q_:∀L:SA,(H1++L)[mp]?=some (.obj (.map (R1.aM.zipIdx.map dS).toArray R1.aM.length)):=λL=>fH Hq;have hfp:∀L:SA,(H1++L)[fp]?=some (.cells (R1.l mp) 88):=λL=>fH yY;have acd:mp<H1.length:=(by omega);obtain⟨i3,qV,qb⟩:=F.i3;have Mc:∀y∈R1.aM.zipIdx,y.1.length=4:=λy hy=>n3.h4 _ (CJ hy);have HR:=afr (ts:=R1.aM.zipIdx) F.F4 F.u3 qV qb ER Mc;have HN:=λb=>afn (b:=b) (k:=.i64) (d:=9998) F.F4 F.u3 qV qb ER;refine eA 6 ?_;simp only[seval,hfp,cm,q_,Kn.ajn,kB,Mb];rw[<- Xd];refine eK (wz _) (eK rfl ⟨HN _,_,HR,?_,?_⟩)
    ·intro i v pZ;rcases LP (x:=t.take 4) (hs:=R1.aM)with⟨h,_⟩|⟨i',b,h,h2,_⟩
     ·rw[h]at pZ;cases pZ
     ·rw[h]at pZ;cases pZ;rw[Ut,h2];exact asU _
    ·rcases LP (x:=t.take 4) (hs:=R1.aM)with⟨h,hn⟩|⟨i',b,h,h2,hn⟩
     ·rw[h,aej,wE acd];have:=eJ _ _ [.cells x.l 76,.cells (t.map iv) 86] rfl rfl;rw[show iZ R1.aM (t.take 4)=R1.aM++[t.take 4] by rw[iZ,if_neg hn],aeN]at this;rw[show H1.set fp (.cells (({R1 with aM:=R1.aM++[t.take 4]}:Kn).l mp) 88)=H1 from rE yY]at this;refine aT ?_;exact this
     ·rw[h,arz h2,wE acd];have:=eJ _ _ [.cells x.l 76,.cells (t.map iv) 86] rfl rfl;rw[show iZ R1.aM (t.take 4)=R1.aM by rw[iZ,if_pos hn],aeO]at this;rw[show H1.set fp (.cells (({R1 with aM:=R1.aM}:Kn).l mp) 88)=H1 from rE yY]at this;refine aT ?_;exact this
   ·
    replace h3:¬deep=0:=(by simpa using h3);rw[if_neg h3]at eJ;refine aE ?_;have lJ:=hx.dQ;obtain⟨P,hP⟩:∃P:Nat->Kn,∀p,P p={R1 with ap:=sY t p R1.ap,hours:=sJ t p R1.hours,less:=qk t x.pieces.length p R1.less}:=⟨_,λ_=>rfl⟩;obtain⟨P',HC⟩:∃P':Nat->Nat->Kn,∀p q,P' p q={R1 with ap:=sY t (p+1) R1.ap,hours:=sJ t (p+1) R1.hours,less:=qn t p q (qk t x.pieces.length p R1.less)}:=⟨_,λ_ _=>rfl⟩;have hP0:P 0=R1:=(by rw[hP];rfl);have hPs:∀p,P' p x.pieces.length=P (p+1):=λp=>(by rw[hP,HC];rfl);refine ab ?_;simp only[seval,bf,TO,aR];refine bF ?_;refine ej x.pieces.length (λi:Nat=>[(62,iv i)]) (λi=>H1.set fp (.cells ((P i).l mp) 88)++[.cells x.l 76,.cells (t.map iv) 86]) (λi=>bP (P i)) (λ_ _=>rfl) (by simp only[seval];simp[bh,Wk.refl]) (by rw[hP0,rE yY];rfl) (λ_ _ _=>by simp) (by rw[hP0];exact n3) (λbz bE p ce aq R hR=> ?_);refine ah ?_;refine aB ?_;refine⟨λh=> ?_,λh=> ?_⟩
    ·have cr:p<x.pieces.length:=(by omega);obtain⟨o,ho,ho9,rl⟩:=ht.num p cr;obtain⟨n,hn⟩:=bA (xs:=(P p).ap) (i:=p) (by have:=aq.ap;omega);obtain⟨m,gD⟩:=bA (xs:=(P p).hours) (i:=p) (by have:=aq.hours;omega);have Ez:n<65536:=aq.mU n (T8 hn);have ab7:m<65536:=aq.mF m (T8 gD);have b4:(0<=(p:Int)/\(p:Int)<4)=True:=(by simp;omega);have bK:=TN p (by omega);have BI:=Kn.I7 (mp:=mp) hn;have ou:=Kn.adV (mp:=mp) (p:=p) (v:=n|||2^o) (e_ hn);have EE:=Kn.len aq mp;have kX:mY t p=o:=(by unfold mY;rw[Tf,ho];rfl);refine aE ?_;refine ah ?_;refine eA 15 ?_;simp only[seval,ep,wC l_,wD l_,b4,BI,ky ho];refine fE (wv (n|||2^o)) (cP (vv Ez (show o<16 by omega) ⟨rfl,rfl⟩)) ?_;(try simp only[seval,wC l_,wD l_,b4,EE]);refine⟨by omega,?_⟩;rw[ou];obtain⟨c0,sr⟩:=bA (xs:=t) (i:=0) (by omega);have HL:t.getD 0 0=c0:=(by rw[Tf,sr];rfl);rw[HL]at rl;have abD:c0∈t.take 4:=by
      match t,kB,sr with
      |a::t',_,sr=>cases sr;simp
     have p7:=ht.aK.lo c0 abD;have HV:=ht.aK.hi c0 abD;have c_:Tg.wrap ((o:Int)+c0)=(o:Int)+c0:=a_ _ (by omega);have amq:(t.map iv)[0]?=some (iv c0):=(by rw[Ut,sr];rfl);obtain⟨u,hu⟩:=Int.eq_ofNat_of_zero_le rl;have hu4:u<4:=by
      have h5:iu (t.take 4) ((o:Int)+c0)<0+(t.take 4).length:=afI;rw[ht.aK.len,hu]at h5;omega
     have hth:uW t p=u:=by
      unfold uW;rw[Tf,ho,HL];simp only[Ua];rw[hu];rfl
     obtain⟨G1,y8⟩:∃G1,G1=({P p with ap:=(P p).ap.set p (n|||2^o)}:Kn):=⟨_,rfl⟩;have DV:bP G1:=(by rw[y8];exact aq.aeR (qw Ez (yf (by omega))));have sF:G1.hours[p]?=some m:=(by rw[y8];exact gD);rw[<- y8];have acp:=Kn.Ib DV (mp:=mp) sF;have acs:=Kn.acl DV (mp:=mp) (p:=p) (v:=m|||2^u) (e_ sF);have acr:=Kn.len DV mp;refine eA 22 ?_;simp only[seval,ep,wC l_,wD l_,b4,acp,ky ho,Mb,kB,c_];rw[<- Xd];refine eK amq ?_;(try simp only[seval,c_]);refine fE (iv u) (cP (aaQ (h:=t.take 4) (n:=(o:Int)+c0) ht.aK.len ⟨by rw[hu],rfl⟩)) ?_;refine fE (wv (m|||2^u)) (cP (vv ab7 (show u<16 by omega) ⟨rfl,rfl⟩)) ?_;(try simp only[seval,wC l_,wD l_,b4,acr]);refine⟨by omega,?_⟩;rw[acs];have Mr:({G1 with hours:=G1.hours.set p (m|||2^u)}:Kn)=P' p 0:=by
      rw[y8,HC];simp only[hP]at hn gD⊢;rw[sY,kX,Gz hn,sJ,hth,Gz gD];rfl
     have amc:bP (P' p 0):=(by rw[<- Mr];exact DV.aeP (qw ab7 (yf (by omega))));rw[Mr];clear ou BI EE DV sF acp acs acr Mr y8 hn gD aq;refine ab ?_;simp only[seval,dn,TO,aR];refine bF ?_;refine ej x.pieces.length (λi:Nat=>[(108,iv i)]) (λi=>H1.set fp (.cells ((P' p i).l mp) 88)++[.cells x.l 76,.cells (t.map iv) 86]) (λi=>bP (P' p i)) (λ_ _=>rfl) (by simp only[seval];simp[bh,Wk.refl]) rfl (λ_ _ _=>by simp) amc (λHx awq q uu oq R' hR'=> ?_);refine ah ?_;refine aB ?_;refine⟨λh=> ?_,λh=> ?_⟩
     ·have fJ:q<x.pieces.length:=(by omega);obtain⟨o2,ho2,awC,_⟩:=ht.num q fJ;have b4q:(0<=(q:Int)/\(q:Int)<4)=True:=(by simp;omega);have iX:=TN q (by omega);have cW:P' p (q+1)={P' p q with less:=if o<o2 then pI (P' p q).less p q else(P' p q).less}:=by
       rw[HC,HC,qn];simp only[Tf,ho,ho2,Ua];by_cases hlt:o<o2
       ·rw[if_pos (by omega),if_pos hlt]
       ·rw[if_neg (by omega),if_neg hlt]
      refine aE ?_;refine ah ?_;refine eA 8 ?_;simp only[seval,ep,b4,b4q,ky ho,ky ho2];refine aB ?_;refine⟨λh=> ?_,λh=> ?_⟩
      ·have hlt:o<o2:=(by simpa using h);rw[if_pos hlt]at cW;obtain⟨v,hv⟩:=bA (xs:=(P' p q).less) (i:=p) (by have:=oq.less;omega);have Iu:v<65536:=oq.mm v (T8 hv);have anF:=Kn.Fp oq (mp:=mp) hv;have anJ:=Kn.ade oq (mp:=mp) (p:=p) (v:=v|||2^q) (e_ hv);have anI:=Kn.len oq mp;rw[Gz hv]at cW;refine eA 12 ?_;simp only[seval,wC l_,wD l_,b4,anF];refine fE (wv (v|||2^q)) (cP (vv Iu (show q<16 by omega) ⟨rfl,rfl⟩)) ?_;(try simp only[seval,wC l_,wD l_,b4,anI]);refine⟨by omega,?_⟩;rw[anJ,<- cW];refine ab ?_;simp only[seval,iX];refine hR' _ ⟨fJ,?_,?_⟩
       ·rw[cW];exact oq.aeQ (qw Iu (yf (by omega)))
       ·exact bX
      ·have hlt:¬o<o2:=(by simpa using h);rw[if_neg hlt]at cW;refine aE ?_;refine ab ?_;simp only[seval,iX];rw[show ({P' p q with less:=(P' p q).less}:Kn)=P' p q from rfl]at cW;refine hR' _ ⟨fJ,?_,?_⟩
       ·rw[cW];exact oq
       ·rw[cW];exact bX
     ·have hqe:q=x.pieces.length:=(by omega);subst hqe;rw[hPs]at oq⊢;refine bD ?_;refine ab ?_;simp only[seval,bK];exact hR _ ⟨cr,oq,bX⟩
    ·have fU:p=x.pieces.length:=(by omega);subst fU;have:=eJ _ R1.aM [.cells x.l 76,.cells (t.map iv) 86] rfl rfl;rw[<- hP,Ik (P _) (by rw[hP])]at this;refine bD ?_;exact this
end
open Go.Conc Go.Proofs Go.Gg.Tk
namespace Tk
def fW (F:Kn)(hs:SO)(G:Kn):Kn:=if G.has then⟨true,hs.foldl iZ F.aM,ld F.ap G.ap,ld F.hours G.hours,ld F.less G.less,ld F.aY G.aY,if F.has=false\/tP G.first F.first then G.first else F.first⟩else F
def oE (l m:SE):Nat->SE
 |0=>l
 |i+1=>(oE l m i).set i ((oE l m i).getD i 0|||m.getD i 0)
end Tk
def Jg{l m:SE}{i a b:Nat}(ha:(oE l m i)[i]?=some a)(hb:m[i]?=some b):oE l m (i+1)=(oE l m i).set i (a|||b):=by
 rw[oE,Tf,Tf,ha,hb];rfl
def aqS{l m:SE}(h:l.length=m.length){i:Nat}(hi:i<=l.length):oE l m i=ld (l.take i) (m.take i)++l.drop i:=by
 induction i with
 |zero=>simp[oE,ld]
 |succ i ih=>
  have hl:i<l.length:=by omega
  have hm:i<m.length:=by omega
  have e1:(ld (l.take i) (m.take i)).length=i:=by simp[ld];omega
  have e2:(oE l m i).getD i 0=l[i]:=by
   rw[ih (by omega),Tf,Ud (by omega),e1];simp[hl]
  rw[oE,e2,ih (by omega),Va _ _ (by omega),e1,Ws,Tf,Tw hm,Ua,UY hl,U7,UZ,UZ,Tw hl,Tw hm,ZN,ZN];unfold ld;rw[List.zipWith_append (by simp;omega)];simp
def Jf{l m:SE}(h:l.length=m.length){n:Nat}(hn:l.length=n):oE l m n=ld l m:=by
 subst hn;rw[aqS h (Ts _),h,Un,U2 (by omega),To,<- h,Un]
def TP{H:List aa}:∀(L:SA),(H++L)[H.length]?=L[0]?:=λL=>aW H L 0
def aj5{lv:Bool}{H:SA}{k kp:SF}{fp mp mg:Nat}{Q G:Kn}(hQ:bP Q)(hG:bP G)(mH:fp≠mp)(sA:mg≠mp)(hf:H[fp]?=some (.cells (Q.l mp) 88))(hm:H[mp]?=some (setH Q.aM))(hg:H[mg]?=some (setH G.aM))(xG:G.aM.Nodup)(hk:∀hs:SO,hs.Perm G.aM->k (.aL []) ((H.set fp (.cells ((fW Q hs G).l mp) 88)).set mp (setH (fW Q hs G).aM))):ba lv S_ 102 H [.op fp 0,.agg (G.l mg)] k kp:=by
 refine bH (rs:=[]) (nt:=121) Tryz.f102 λhH hA=> ?_;simp only[bm,Tu];have mG:=e_ hf;have sH:=e_ hm;have kg:=e_ hg;have HT:=Kn.len hG mg;have Ih:=Kn.len hQ mp;have uj:(G.l mg).drop 17=G.first.map iv:=by
  have e:G.l mg=(bv G.has:: .mp mg::(G.ap.map (λn=>wv n)++(G.hours.map (λn=>wv n)++(G.less.map (λn=>wv n)++G.aY.map (λn=>wv n)))))++G.first.map iv:=by simp[Kn.l]
  rw[e,Xt (by simp[hG.ap,hG.hours,hG.less,hG.aY]),U2 (by simp[hG.ap,hG.hours,hG.less,hG.aY])];rfl
 refine ah ?_;refine ab ?_;simp only[seval,Kn.DK];refine aB ?_;refine⟨λh=> ?_,λh=> ?_⟩
 ·
  have M4:G.has=false:=by simpa using h
  have:=hk G.aM (axs _);rw[fW,M4]at this;simp only[UD,if_false]at this;rw[rE hf,rE hm]at this;refine aT ?_;exact f_ hH (Wk.refl _) (by simp[iF]) this
 ·have M4:G.has=true:=by simpa using h
  refine aE ?_;obtain⟨R1,qR⟩:∃R1,R1=(if Q.has=false\/tP G.first Q.first=true then{Q with first:=G.first}else Q):=⟨_,rfl⟩;have n3:bP R1:=by
   rw[qR];split
   ·exact⟨hQ.ap,hQ.hours,hQ.less,hQ.aY,hG.first,hQ.mU,hQ.mF,hQ.mm,hQ.mq,hQ.h4⟩
   ·exact hQ
  have D2:R1.aM=Q.aM:=by rw[qR];split<;>rfl
  obtain⟨H1,l5⟩:∃H1,H1=H.set fp (.cells (R1.l mp) 88):=⟨_,rfl⟩;have dn:∀(z:aa)(L:SA),(H.set fp z++L)[H.length]?=L[0]?:=λz L=>by have:=aW (H.set fp z) L 0;rwa[UM]at this
  have kB:=hG.first;have BS:VN 11 (G.first.map iv)=G.first.map iv:=Tx (by rw[Ue];omega);have Jv:VN 17 (Q.l mp)++G.first.map iv++U4 28 (Q.l mp)=({Q with first:=G.first}:Kn).l mp:=Kn.aeM hQ kB;have hqd:(Q.l mp).drop 17=Q.first.map iv:=by
   have e:Q.l mp=(bv Q.has:: .mp mp::(Q.ap.map (λn=>wv n)++(Q.hours.map (λn=>wv n)++(Q.less.map (λn=>wv n)++Q.aY.map (λn=>wv n)))))++Q.first.map iv:=(by simp[Kn.l]);rw[e,Xt (by simp[hQ.ap,hQ.hours,hQ.less,hQ.aY]),U2 (by simp[hQ.ap,hQ.hours,hQ.less,hQ.aY])];rfl
  have acC:VN 11 (Q.first.map iv)=Q.first.map iv:=Tx (by rw[Ue,hQ.first];exact Ts _);have cR:H1.length=H.length:=by rw[l5,UM]
  cases Ig:Q.has
  case' true=>
   refine eA 12 ?_;simp only[seval,fH hf,Kn.DK,Ig,TP,uj,hqd,HT,Ih,BS,acC];refine⟨by omega,by have:=hQ.first;omega,?_⟩;refine aG (akc hG.first hQ.first ?_);(try simp only[seval]);refine aB ?_;refine⟨λhb=> ?tt,λhb=> ?tf⟩
  case' false=>
   refine eA 12 ?_;simp only[seval,fH hf,Kn.DK,Ig,TP,uj,hqd,HT,Ih,BS,acC];refine aB ?_
  case' tt=>
   have e1:R1={Q with first:=G.first}:=(by rw[qR,if_pos (.inr hb)]);refine ab ?_;simp only[seval,fH hf,TP,uj,HT,Ih,BS,kB,wE mG];rw[Jv,<- e1,<- l5,<- cR]
  case' tf=>
   have e1:R1=Q:=(by rw[qR,if_neg (by rw[Ig,hb];simp)]);have Lh:H1=H:=(by rw[l5,e1];exact rE hf);refine aE ?_;rw[<- Lh]
  case' false=>
   have e1:R1={Q with first:=G.first}:=(by rw[qR,if_pos (.inl Ig)]);refine ab ?_;simp only[seval,fH hf,TP,uj,HT,Ih,BS,kB,wE mG];rw[Jv,<- e1,<- l5,<- cR]
  all_goals
   clear e1;have l_:fp<H1.length:=(by omega);have yY:H1[fp]?=some (.cells (R1.l mp) 88):=(by rw[l5,VT,if_pos rfl,if_pos mG]);have Hq:H1[mp]?=some (setH R1.aM):=(by rw[l5,U6 mH,D2];exact hm);have hfg:fp≠mg:=λe=>(by subst e;rw[hf]at hg;cases hg);have h1g:H1[mg]?=some (setH G.aM):=(by rw[l5,U6 hfg];exact hg);obtain⟨R2,eY⟩:∃R2,R2=({R1 with has:=true}:Kn):=⟨_,rfl⟩;have eL:AV.val (.bool true)::U4 1 (R1.l mp)=R2.l mp:=(by rw[eY];rfl);have Mt:R2.aM=Q.aM:=(by rw[eY];exact D2);have vD:bP R2:=(by rw[eY];exact⟨n3.ap,n3.hours,n3.less,n3.aY,n3.first,n3.mU,n3.mF,n3.mm,n3.mq,n3.h4⟩);refine ab ?_;simp only[seval,fH yY,wE l_,Kn.ath];refine⟨by have:=Kn.len n3 mp;omega,?_⟩;rw[eL];obtain⟨B,hB⟩:∃B:Kn->List (SD)->SA,∀K hs,B K hs=(H1.set fp (.cells (K.l mp) 88)).set mp (setH hs):=⟨_,λ_ _=>rfl⟩;have c9:∀K hs,(B K hs).length=H1.length:=λK hs=>(by rw[hB,UM,UM]);have hBm:∀K hs (L:SA),(B K hs++L)[mp]?=some (.obj (.map (hs.zipIdx.map dS).toArray hs.length)):=λK hs L=>by
    rw[T4 (by rw[c9];omega),hB,VT,if_pos rfl,if_pos (by rw[UM];omega)];rfl
   have Hu:∀K hs (L:SA),(B K hs++L)[mg]?=some (.obj (.map (G.aM.zipIdx.map dS).toArray G.aM.length)):=λK hs L=>by
    rw[T4 (by rw[c9];omega),hB,U6 (λe=>sA e.symm),U6 hfg,h1g];rfl
   have j9:∀K hs (L:SA),(B K hs++L)[fp]?=some (.cells (K.l mp) 88):=λK hs L=>by
    rw[T4 (by rw[c9];omega),hB,U6 (λe=>mH e.symm),VT,if_pos rfl,if_pos (by omega)]
   have al8:∀K hs mM (L:SA),(B K hs++L).set mp (setH mM)=B K mM++L:=λK hs mM L=>by
    rw[VX _ _ (by rw[c9];omega),hB,hB,Ya]
   have Hv:∀K hs K' (L:SA),(B K hs++L).set fp (.cells (K'.l mp) 88)=B K' hs++L:=λK hs K' L=>by
    rw[VX _ _ (by rw[c9];omega),hB,hB,List.set_comm _ _ (λe=>mH e.symm),Ya]
   have hBs:H1.set fp (.cells (R2.l mp) 88)=B R2 R2.aM:=by
    rw[hB];symm;exact rE (by rw[U6 mH,Hq,Mt,D2])
   have TP:∀K hs (L:SA),(B K hs++L)[H1.length]?=L[0]?:=λK hs L=>(by rw[<- c9 K hs];exact aW _ L 0);have cm:∀K hs (L:SA),(B K hs++L)[H1.length+1]?=L[1]?:=λK hs L=>(by rw[<- c9 K hs];exact aW _ L 1);have iD:∀K hs (L:SA),(B K hs++L)[H1.length+2]?=L[2]?:=λK hs L=>(by rw[<- c9 K hs];exact aW _ L 2);have M0:(G.l mg).drop 1=.mp mg::((G.l mg).drop 2):=rfl;have hKd:∀K:Kn,(K.l mp).drop 1=.mp mp::((K.l mp).drop 2):=λ_=>rfl;have cp:∀(K:Kn)(hs:SO),bJ (B K hs):=λK hs=>by
    intro z hz;rw[c9];rw[hB]at hz;rcases VF hz with hz|rfl
    ·rcases VF hz with hz|rfl
     ·rw[l5]at hz;rcases VF hz with hz|rfl
      ·exact cR▸hH z hz
      ·intro a ha;simp only[Kn.l,Tm,Tv,Uo]at ha;rcases ha with rfl|rfl|⟨_,_,rfl⟩|⟨_,_,rfl⟩|⟨_,_,rfl⟩|⟨_,_,rfl⟩|⟨_,_,rfl⟩
       ·exact .val _
       ·exact .mp (by omega)
       all_goals exact .val _
     ·intro a ha;simp only[Kn.l,Tm,Tv,Uo]at ha;rcases ha with rfl|rfl|⟨_,_,rfl⟩|⟨_,_,rfl⟩|⟨_,_,rfl⟩|⟨_,_,rfl⟩|⟨_,_,rfl⟩
      ·exact .val _
      ·exact .mp (by omega)
      all_goals exact .val _
    ·trivial
   have eJ:∀(hs:SO)(K:Kn)(L:SA),hs.Perm G.aM->fW Q hs G=K->cz H1.length (B K K.aM++L) (.aL []) k:=λhs K L hp hK=>by
    have:=hk hs hp;rw[hK]at this;subst hK;refine jS (Wk.refl _) rfl (by rw[c9];exact Ts _) (cp _ _) (by simp[iF]) ?_;rw[hB,l5,Ya];exact this
   rw[hBs];clear hk hBs;refine ab ?_;simp only[seval,TP,M0,Hu];rw[c9];have abC:∀K hs (L:SA) z,(B K hs++L).set (H1.length+1) z=B K hs++L.set 1 z:=λK hs L z=>by
    rw[Va _ _ (by rw[c9];omega),c9,US]
   have amp:∀K hs (L:SA) z,(B K hs++L).set (H1.length+2) z=B K hs++L.set 2 z:=λK hs L z=>by
    rw[Va _ _ (by rw[c9];omega),c9,US]
   obtain⟨ts,dz⟩:∃ts,ts=G.aM.zipIdx:=⟨_,rfl⟩;obtain⟨ck,Br⟩:∃ck,ck=G.aM.length:=⟨_,rfl⟩;rw[<- dz,<- Br]at Hu;rw[<- Br];have hb:∀y∈ts,y.2<ck:=λy hy=>(by rw[dz]at hy;have:=List.snd_lt_add_of_mem_zipIdx hy;omega);have xH:(ts.map (·.2)).Nodup:=(by rw[dz,show (λy:SD×Nat=>y.2)=Prod.snd from rfl,List.zipIdx_map_snd];exact List.nodup_range');have h4:∀y∈ts,y.1.length=4:=λy hy=>(by rw[dz]at hy;exact hG.h4 _ (CJ hy));have eT:=KP ts ck hb;have BV:ts.map (·.1)=G.aM:=(by rw[dz,show (λy:SD×Nat=>y.1)=Prod.fst from rfl,List.zipIdx_map_fst]);clear dz;obtain⟨ac,HF⟩:∃ac:List (SD×Nat)->SO,∀vs,ac vs=vs.foldl (λa y=>iZ a y.1) R2.aM:=⟨_,λ_=>rfl⟩;have abw:ac []=R2.aM:=(by rw[HF];rfl);have Mw:∀vs y,ac (vs++[y])=iZ (ac vs) y.1:=λvs y=>(by rw[HF,HF,Xo];rfl);obtain⟨i3,qV,qb⟩:=F.i3;refine bF ?_;refine yF (measure λvs:List (SD×Nat)=>ts.length-vs.length).wf (λvs=>[]) (λvs=>B R2 (ac vs)++[.cells (G.l mg) 88,.iter mg ck (vs.map (·.2)).toArray ck]) (λvs=>(vs.map (·.2)).Nodup/\(∀y∈vs,y∈ts)/\∀h∈ac vs,h.length=4) [] (λ_ _=>rfl) (by simp) (by rw[abw];rfl) (λ_ _=>by simp[c9]) ⟨by simp,by simp,by rw[abw,Mt];exact hQ.h4⟩ (λbz bE vs aq R hR=> ?_);refine ab ?_;simp only[seval,cm,Hu,abC];refine⟨eT.elim .inl (λh=> .inr (.inl h)),λe he hn=> ?_,λhs=> ?_⟩
   ·obtain⟨y,hy,rfl⟩:∃y∈ts,dS y=e:=(by simpa using he);refine aB ?_;refine aE ?_;refine bF ?_;have pQ:=h4 y hy;have Eb:(dS y).born=y.2:=rfl;have hlen:(y.1.map iv).length=4:=(by simp[pQ]);have Eh:U4 4 [AV.val (Th Tg 0),AV.val (Th Tg 0),AV.val (Th Tg 0),AV.val (Th Tg 0)]=[]:=rfl;refine ab ?_;simp only[seval,cm,Hu,abC,amp,iD,c9,Array.back?_push,Eb,LQ xH hy,Pe,pQ,hlen,Eh];refine eA 10 ?_;simp only[seval,j9,hKd,hBm,iD,hlen,pQ];have acB:VN 4 (y.1.map iv)=y.1.map iv:=Tx (by omega);have Mc:∀z∈(ac vs).zipIdx,z.1.length=4:=λz hz=>aq.2.2 _ (CJ hz);have HR:=afr (ts:=(ac vs).zipIdx) F.F4 F.u3 qV qb pQ Mc;have HN:=λb=>afn (b:=b) (k:=.i64) (d:=9998) F.F4 F.u3 qV qb pQ;have BK:((vs.map (·.2)).toArray.push y.2)=((vs++[y]).map (·.2)).toArray:=(by simp);have B0:y.2∉vs.map (·.2):=(by simpa[dS]using hn);have pc:((vs++[y]).map (·.2)).Nodup/\(∀z∈vs++[y],z∈ts)/\∀h∈ac (vs++[y]),h.length=4:=by
     refine⟨?_,λz hz=> ?_,λh hh=> ?_⟩
     ·rw[Uq,V_];refine⟨aq.1,by simp,λa ha b hb=> ?_⟩;simp at hb;subst hb;intro e;subst e;exact B0 ha
     ·rcases Tv.1 hz with h|h
      ·exact aq.2.1 z h
      ·rw[Ub.1 h];exact hy
     ·rw[Mw,iZ]at hh;split at hh
      ·exact aq.2.2 _ hh
      ·rcases Tv.1 hh with h'|h'
       ·exact aq.2.2 _ h'
       ·rw[Ub.1 h'];exact pQ
    have hlen:vs.length<ts.length:=by
     have h1:(vs++[y]).Nodup:=B8 _ pc.1;have:=h1.length_le_of_subset pc.2.1;simp at this;omega
    have qa:ts.length-(vs++[y]).length<ts.length-vs.length:=(by simp;omega);have BC:∀sn,bJ (B R2 (ac (vs++[y]))++[aa.cells (G.l mg) 88,aa.iter mg ck sn ck]):=λsn z hz=>by
     rcases Tv.1 hz with h|h
     ·exact(cp _ _ z h).mono (by simp)
     ·have tZ:∀a∈G.l mg,Lt H1.length a:=λa ha=>by
       simp only[Kn.l,Tm,Tv,Uo]at ha;rcases ha with rfl|rfl|⟨_,_,rfl⟩|⟨_,_,rfl⟩|⟨_,_,rfl⟩|⟨_,_,rfl⟩|⟨_,_,rfl⟩
       ·exact .val _
       ·exact .mp (by omega)
       all_goals exact .val _
      simp only[Tm,T7,or_false]at h;rcases h with rfl|rfl
      ·intro a ha;exact(tZ a ha).mono (by simp[c9])
      ·show mg<_;simp[c9];omega
    rw[acB];refine eK F.Q6 (eK (wz _) ⟨HN _,_,HR,?_⟩);rcases LP (x:=y.1) (hs:=ac vs)with⟨h,EA⟩|⟨i',b,h,h2,EA⟩
    ·rw[h];(try simp only[seval,AV.found]);refine ah ?_;refine aB ?_;refine eA 5 ?_;simp only[seval,j9,hKd,hBm,iD,hlen,pQ];rw[acB];refine eK (wz _) (eK rfl ⟨HN _,_,HR,?_,?_⟩)
     ·intro i v pZ;rw[h]at pZ;cases pZ
     ·rw[h,aej,<- aeN,al8,show ac vs++[y.1]=ac (vs++[y]) by rw[Mw,iZ,if_neg EA],BK];refine hR _ ⟨vs++[y],qa,pc,?_⟩;exact Ck (jZ rfl rfl) (by simp only[seval]<;>simp[bh,Wk.refl]) (BC _) (by simp[dj])
    ·rw[h];(try simp only[seval,AV.found]);refine ah ?_;refine aB ?_;refine aE ?_;rw[show ac vs=ac (vs++[y]) by rw[Mw,iZ,if_pos EA],BK];refine hR _ ⟨vs++[y],qa,pc,?_⟩;exact Ck (jZ rfl rfl) (by simp only[seval]<;>simp[bh,Wk.refl]) (BC _) (by simp[dj])
   ·have hp:vs.Perm ts:=P2 aq.1 xH aq.2.1 λy hy=>by
     have:=hs (dS y) (by simp;exact⟨y.1,y.2,hy,rfl⟩) (hb y hy);simpa[dS]using this
    refine aB ?_;refine bD ?_;obtain⟨K,hK⟩:∃K:Nat->Nat->Kn,∀i j,K i j={R2 with ap:=oE R2.ap G.ap i,hours:=oE R2.hours G.hours i,less:=oE R2.less G.less i,aY:=oE R2.aY G.aY j}:=⟨_,λ_ _=>rfl⟩;have hK0:K 0 0=R2:=(by rw[hK];rfl);refine ah ?_;refine bF ?_;refine ej 4 (λi:Nat=>[(57,iv i)]) (λi=>B (K i 0) (ac vs)++[.cells (G.l mg) 88,.iter mg ck (vs.map (·.2)).toArray ck]) (λi=>bP (K i 0)) (λ_ _=>rfl) (by simp only[seval];simp[bh,Wk.refl]) (by rw[hK0]) (λ_ _ _=>by simp[c9]) (by rw[hK0];exact vD) (λxj awr i ce vX R hR=> ?_);refine ah ?_;refine aB ?_;refine⟨λh=> ?_,λh=> ?_⟩
    ·have bk:i<4:=(by omega);obtain⟨a1,sk⟩:=bA (xs:=(K i 0).ap) (i:=i) (by have:=vX.ap;omega);obtain⟨a2,D5⟩:=bA (xs:=(K i 0).hours) (i:=i) (by have:=vX.hours;omega);obtain⟨a3,HE⟩:=bA (xs:=(K i 0).less) (i:=i) (by have:=vX.less;omega);obtain⟨c1,dE⟩:=bA (xs:=G.ap) (i:=i) (by have:=hG.ap;omega);obtain⟨c2,bZ⟩:=bA (xs:=G.hours) (i:=i) (by have:=hG.hours;omega);obtain⟨c3,cQ⟩:=bA (xs:=G.less) (i:=i) (by have:=hG.less;omega);have Fi:=vX.mU _ (T8 sk);have la2:=vX.mF _ (T8 D5);have la3:=vX.mm _ (T8 HE);have Fl:=hG.mU _ (T8 dE);have lc2:=hG.mF _ (T8 bZ);have lc3:=hG.mm _ (T8 cQ);have b4:(0<=(i:Int)/\(i:Int)<4)=True:=(by simp;omega);have bK:=TN i (by omega);refine aE ?_;refine ah ?_;obtain⟨Ka,DZ⟩:∃Ka,Ka=({K i 0 with ap:=(K i 0).ap.set i (a1|||c1)}:Kn):=⟨_,rfl⟩;have I9:bP Ka:=(by rw[DZ];exact vX.aeR (qw Fi Fl));have sa:=Kn.adV (F:=K i 0) (mp:=mp) (p:=i) (v:=a1|||c1) (e_ sk);rw[<- DZ]at sa;refine eA 13 ?_;simp only[seval,j9,TP,b4,Kn.I7 sk,Kn.I7 dE,Db,Jh Fi Fl,Kn.len vX mp];refine⟨by omega,?_⟩;rw[sa,Hv];obtain⟨Kb,Hz⟩:∃Kb,Kb=({Ka with hours:=Ka.hours.set i (a2|||c2)}:Kn):=⟨_,rfl⟩;have I_:bP Kb:=(by rw[Hz];exact I9.aeP (qw la2 lc2));have sq:Ka.hours[i]?=some a2:=(by rw[DZ];exact D5);have sb:=Kn.acl I9 (mp:=mp) (p:=i) (v:=a2|||c2) (e_ sq);rw[<- Hz]at sb;refine eA 13 ?_;simp only[seval,j9,TP,b4,Kn.Ib I9 sq,Kn.Ib hG bZ,Db,Jh la2 lc2,Kn.len I9 mp];refine⟨by omega,?_⟩;rw[sb,Hv];have ze:Kb.less[i]?=some a3:=(by rw[Hz,DZ];exact HE);have sc:=Kn.ade I_ (mp:=mp) (p:=i) (v:=a3|||c3) (e_ ze);have y9:({Kb with less:=Kb.less.set i (a3|||c3)}:Kn)=K (i+1) 0:=by
      rw[Hz,DZ,hK (i+1)];simp only[hK]at sk D5 HE⊢;rw[Jg sk dE,Jg D5 bZ,Jg HE cQ]
     have Pg:bP (K (i+1) 0):=(by rw[<- y9];exact I_.aeQ (qw la3 lc3));rw[y9]at sc;refine eA 13 ?_;simp only[seval,j9,TP,b4,Kn.Fp I_ ze,Kn.Fp hG cQ,Db,Jh la3 lc3,Kn.len I_ mp];refine⟨by omega,?_⟩;rw[sc,Hv];refine ab ?_;simp only[seval,bK];exact hR _ ⟨bk,Pg,bX⟩
    ·have dK:i=4:=(by omega);subst dK;refine bD ?_;refine ah ?_;refine bF ?_;refine ej 3 (λi:Nat=>[(103,iv i)]) (λj=>B (K 4 j) (ac vs)++[.cells (G.l mg) 88,.iter mg ck (vs.map (·.2)).toArray ck]) (λj=>bP (K 4 j)) (λ_ _=>rfl) (by simp only[seval];simp[bh,Wk.refl]) rfl (λ_ _ _=>by simp[c9]) vX (λBc aws j mI BF R hR=> ?_);refine ah ?_;refine aB ?_;refine⟨λh=> ?_,λh=> ?_⟩
     ·have dW:j<3:=(by omega);obtain⟨a1,sk⟩:=bA (xs:=(K 4 j).aY) (i:=j) (by have:=BF.aY;omega);obtain⟨c1,dE⟩:=bA (xs:=G.aY) (i:=j) (by have:=hG.aY;omega);have Fi:=BF.mq _ (T8 sk);have Fl:=hG.mq _ (T8 dE);have b3:(0<=(j:Int)/\(j:Int)<3)=True:=(by simp;omega);have bK:=TN j (by omega);refine aE ?_;refine ah ?_;have sa:=Kn.aea BF (mp:=mp) (p:=j) (v:=a1|||c1) (e_ sk);have y9:({K 4 j with aY:=(K 4 j).aY.set j (a1|||c1)}:Kn)=K 4 (j+1):=by
       rw[hK 4 (j+1)];simp only[hK]at sk⊢;rw[Jg sk dE]
      have Pg:bP (K 4 (j+1)):=(by rw[<- y9];exact BF.FU (qw Fi Fl));rw[y9]at sa;refine eA 13 ?_;simp only[seval,j9,TP,b3,Kn.FL BF sk,Kn.FL hG dE,Db,Jh Fi Fl,Kn.len BF mp];refine⟨by omega,?_⟩;rw[sa,Hv];refine ab ?_;simp only[seval,bK];exact hR _ ⟨dW,Pg,bX⟩
     ·have Nh:j=3:=(by omega);subst Nh;refine bD ?_;have EF:(vs.map (·.1)).Perm G.aM:=by
       have:=hp.map (·.1);rw[BV]at this;exact this
      have amf:ac vs=(vs.map (·.1)).foldl iZ Q.aM:=(by rw[HF,Mt,List.foldl_map]);have hJ:fW Q (vs.map (·.1)) G={K 4 3 with aM:=ac vs}:=by
       have e2:R2=⟨true,Q.aM,Q.ap,Q.hours,Q.less,Q.aY,if Q.has=false\/tP G.first Q.first=true then G.first else Q.first⟩:=by
        rw[eY,qR];split<;>rfl
       rw[fW,if_pos M4,hK,Jf (by rw[vD.ap,hG.ap]) vD.ap,Jf (by rw[vD.hours,hG.hours]) vD.hours,Jf (by rw[vD.less,hG.less]) vD.less,Jf (by rw[vD.aY,hG.aY]) vD.aY,amf,e2]
      have:=eJ (vs.map (·.1)) _ [.cells (G.l mg) 88,.iter mg ck (vs.map (·.2)).toArray ck] EF hJ;rw[show B ({K 4 3 with aM:=ac vs}:Kn) (ac vs)=B (K 4 3) (ac vs) by rw[hB,hB];rfl]at this;exact this
open Go.Conc Go.Proofs Go.Gg.Tk
namespace Tk
def AH{l:SE}{i v:Nat}:(pI l i v).length=l.length:=by simp[pI]
def GA{l:SE}{i v:Nat}(h:∀n∈l,n<65536)(hv:v<16):∀n∈pI l i v,n<65536:=by
 refine Fw h (qw ?_ (yf hv));rw[Tf];cases hi:l[i]?with
 |none=>exact(by decide:0<65536)
 |some a=>exact h _ (T8 hi)
def auo{x:ak}{t:SD}(ht:jd x t){p:Nat}(hp:p<x.pieces.length):mY t p<16:=by
 obtain⟨n,h1,h2,_⟩:=ht.num p hp;unfold mY;rw[Tf,h1];show n<16;omega
def aun{t:SD}(h:t.length=11){p:Nat}:uW t p<16:=by
 unfold uW;have h5:iu (t.take 4) (t.getD (4+p) 0+t.getD 0 0)<0+(t.take 4).length:=afI;have:(t.take 4).length=4:=by simp[h]
 omega
def aup{x:ak}{t:SD}(ht:jd x t){s:Nat}(hs:s<x.aC.length):tj t s<16:=by
 obtain⟨n,h1,h2⟩:=ht.own s hs;unfold tj;rw[Tf,h1];show n<16;omega
def ad9{x:ak}{t:SD}(ht:jd x t){l:SE}(hl:∀n∈l,n<65536):∀{s:Nat},s<=x.aC.length->(nA t s l).length=l.length/\∀n∈nA t s l,n<65536
 |0,_=>⟨rfl,hl⟩
 |s+1,h=>by
  obtain⟨h1,h2⟩:=ad9 ht hl (s:=s) (by omega);exact⟨AH.trans h1,GA h2 (aup ht (by omega))⟩
def adR{x:ak}{t:SD}(ht:jd x t){l:SE}(hl:∀n∈l,n<65536):∀{s:Nat},s<=x.pieces.length->(sY t s l).length=l.length/\∀n∈sY t s l,n<65536
 |0,_=>⟨rfl,hl⟩
 |s+1,h=>by
  obtain⟨h1,h2⟩:=adR ht hl (s:=s) (by omega);exact⟨AH.trans h1,GA h2 (auo ht (by omega))⟩
def ack{t:SD}(ht:t.length=11){l:SE}(hl:∀n∈l,n<65536):∀{s:Nat},(sJ t s l).length=l.length/\∀n∈sJ t s l,n<65536
 |0=>⟨rfl,hl⟩
 |s+1=>by
  obtain⟨h1,h2⟩:=ack ht hl (s:=s);exact⟨AH.trans h1,GA h2 (aun ht)⟩
def adb{t:SD}{p:Nat}{l:SE}(hl:∀n∈l,n<65536):∀{q:Nat},q<=4->(qn t p q l).length=l.length/\∀n∈qn t p q l,n<65536
 |0,_=>⟨rfl,hl⟩
 |q+1,h=>by
  obtain⟨h1,h2⟩:=adb hl (q:=q) (t:=t) (p:=p) (by omega);unfold qn;split
  ·exact⟨AH.trans h1,GA h2 (by omega)⟩
  ·exact⟨h1,h2⟩
def ac9{t:SD}{k:Nat}(hk:k<=4){l:SE}(hl:∀n∈l,n<65536):∀{p:Nat},(qk t k p l).length=l.length/\∀n∈qk t k p l,n<65536
 |0=>⟨rfl,hl⟩
 |p+1=>by
  obtain⟨h1,h2⟩:=ac9 hk hl (p:=p) (t:=t);obtain⟨h3,h4⟩:=adb h2 (t:=t) (p:=p) hk;exact⟨h3.trans h1,h4⟩
def aeg{hs:SO}{h:SD}(h1:∀y∈hs,y.length=4)(h2:h.length=4):∀y∈iZ hs h,y.length=4:=λy hy=>by
 unfold iZ at hy;split at hy
 ·exact h1 y hy
 ·rcases Tv.1 hy with h'|h'
  ·exact h1 y h'
  ·rw[Ub.1 h'];exact h2
def Qm{x:ak}{deep:Int}{Q:Kn}{t:SD}(hx:x.Ok)(ht:jd x t)(hQ:bP Q):bP (eg x deep Q t):=by
 have hB:=RH hQ ht.len;unfold eg;dsimp only;generalize je Q t=R at hB;split
 ·obtain⟨h1,h2⟩:=ad9 ht hB.mq (Ts _);exact⟨hB.ap,hB.hours,hB.less,h1.trans hB.aY,hB.first,hB.mU,hB.mF,hB.mm,h2,hB.h4⟩
 ·split
  ·exact⟨hB.ap,hB.hours,hB.less,hB.aY,hB.first,hB.mU,hB.mF,hB.mm,hB.mq,aeg hB.h4 (by simp[ht.len])⟩
  ·obtain⟨h1,h2⟩:=adR ht hB.mU (Ts _);obtain⟨h3,h4⟩:=ack ht.len hB.mF (s:=x.pieces.length);obtain⟨h5,h6⟩:=ac9 (t:=t) hx.dQ hB.mm (p:=x.pieces.length);exact⟨h1.trans hB.ap,h3.trans hB.hours,h5.trans hB.less,hB.aY,hB.first,h2,h4,h6,hB.mq,hB.h4⟩
def JI{x:ak}{deep:Int}{h t:SD}(ht:t∈jL x deep h):∃ns∈gE x h,t∈(iR x h ns).map (dq h ns):=by
 have key:t∈((gE x h).map λns=>(iR x h ns).map λos=>dq h ns os).flatten:=by
  unfold jL at ht;dsimp only at ht;split at ht
  ·exact W5 ht
  ·split at ht
   ·obtain⟨l,h1,h2⟩:=YM.1 ht;obtain⟨m,h3,rfl⟩:=Uo.1 h1;exact YM.2 ⟨m,h3,W5 h2⟩
   ·exact ht
 obtain⟨l,h1,h2⟩:=YM.1 key;obtain⟨ns,h3,rfl⟩:=Uo.1 h1;exact⟨ns,h3,h2⟩
def Fh:bP Kn.zero:=by
 have h0:∀k:Nat,∀n∈UP k 0,n<65536:=λk n h=>by rw[(YL.1 h).2];decide
 exact⟨rfl,rfl,rfl,rfl,rfl,h0 4,h0 4,h0 4,h0 3,λh hh=>by cases hh⟩
def L4{x:ak}{deep:Int}(hx:x.Ok):∀{ts:SO}{Q:Kn},(∀t∈ts,jd x t)->bP Q->bP (ts.foldl (eg x deep) Q)
 |[],Q,_,h=>h
 |t::ts,Q,ht,h=>by rw[VO];exact L4 hx (λu hu=>ht u (by simp[hu])) (Qm hx (ht t (by simp)) h)
end Tk
def zK{K:Kn}{mp m:Nat}(h:mp<m):∀a∈K.l mp,Lt m a:=λa ha=>by
 simp only[Kn.l,Tm,Tv,Uo]at ha;rcases ha with rfl|rfl|⟨_,_,rfl⟩|⟨_,_,rfl⟩|⟨_,_,rfl⟩|⟨_,_,rfl⟩|⟨_,_,rfl⟩
 ·exact .val _
 ·exact .mp h
 all_goals exact .val _
def IJ{K:Kn}{mp m:Nat}(h:∀a∈K.l mp,Lt m a):mp<m:=by
 cases h (.mp mp) (by simp[Kn.l]);assumption
def cs:U_->U_
 |.seq _ c=>c
 |_=> .skip
def cf:U_->U_
 |.seq c _=>c
 |_=> .skip
noncomputable def acW:U_:=ax5.body.getD .skip
def wj (x:ak)(bu:Nat)(deep:Int)(c:Nat)(w:Uf):List (Nat×AV):=[(12,.fn (.func 86) [] [.op 2 0,.op 3 0]),(5,.op 1 0),(0,.val w),(1,.rp x.l),(2,.rp [iv bu]),(3,.rp [iv deep]),(4,.rp [.val (.chan (some c))])]
def xR (x:ak)(bu:Nat)(K:Kn):SA:=[setH K.aM,.cells (K.l 0) 88,.cells x.l 76,.cells [iv bu] 3]
def aoI{lv:Bool}{x:ak}{bu c:Nat}{w:Uf}{deep:Int}{bs:S5}(hx:x.Ok)(kX:bu<=3)(hA:∀h∈kU x bu,jO h/\∀ns∈gE x h,∀a∈(iR x h ns).map (dq h ns),jd x a)(Φ:SN)(hΦ:Φ .normal ⟨wj x bu deep c w,xR x bu (iw x deep bu)++[.obj (.deferred (some [])),.gone]⟩ [4]):
  kL lv S_ 25 bs (cs (cf (cs (cs acW)))) ⟨wj x bu deep c w,xR x bu Kn.zero⟩ [] Φ:=by
 unfold acW ax5;dsimp only[Ua,cs,cf];refine yG ?_;refine KH (by rfl) λl fn T ag bo hT zb n5=> ?_;(try simp only[seval,xR]);simp only[wj,iv]at hT;obtain⟨Gf,vB⟩:∃Gf:Kn->SA,∀K,Gf K=[setH K.aM,.cells (K.l 0) 88,.cells x.l 76,.cells [iv bu] 3,.obj (.deferred (some [])),.loop l .ready none fn T 25 #[13] ag bo 4]:=⟨_,λ_=>rfl⟩;have tZ:∀K,(Gf K).length=6:=λK=>by rw[vB];rfl
 have al9:∀m K K',(∀z∈Gf K,e9 m z)->∀z∈Gf K',e9 m z:=λm K K' hz z fD=>by
  rw[vB]at hz fD;have h1:=hz (.cells (K.l 0) 88) (by simp);simp only[Tm,T7,or_false]at fD;rcases fD with rfl|rfl|rfl|rfl|rfl|rfl
  ·trivial
  ·exact zK (IJ h1)
  ·exact hz _ (by simp)
  ·exact hz _ (by simp)
  ·exact hz _ (by simp)
  ·exact hz _ (by simp)
 have hY:j6 lv S_ (.fn (.yield l) [] []) (λK h=> .go ((jL x deep h).foldl (eg x deep) K)) Gf 6 bP (λh=>jO h/\∀ns∈gE x h,∀a∈(iR x h ns).map (dq h ns),jd x a) (.aL []):=by
  refine⟨λK h M k kp hK ha dR=> ?_,λK h K' hK ha he=> ?_,tZ,al9,rfl,rfl,rfl⟩
  ·obtain⟨oZ,ES⟩:=ha;have h4:=oZ.len;have nY:(h.map iv).length=4:=(by rw[Ue,h4]);obtain⟨Lo,lC⟩:∃Lo,Lo=aa.loop l .busy none fn T 25 #[13] ag bo 4:=⟨_,rfl⟩;obtain⟨P1,dI⟩:∃P1:Kn->SA,∀K,P1 K=[setH K.aM,.cells (K.l 0) 88,.cells x.l 76,.cells [iv bu] 3,.obj (.deferred (some [])),Lo]++M:=⟨_,λ_=>rfl⟩;have eS:∀K,(P1 K).length=6+M.length:=λK=>(by rw[dI];simp;omega);have pg:∀(K:Kn)(L:SA)(i:Nat),i<6->(P1 K++L)[i]?=[setH K.aM,aa.cells (K.l 0) 88,.cells x.l 76,.cells [iv bu] 3,.obj (.deferred (some [])),Lo][i]?:=λK L i M_=>by
    rw[dI,Te,T4 (by simpa using M_)]
   have pb:∀(K:Kn)(L:SA)(i:Nat),(P1 K++L)[6+M.length+i]?=L[i]?:=λK L i=>(by rw[<- eS K,aW]);have x7:∀(K:Kn)(L:SA),(P1 K++L)[6+M.length]?=L[0]?:=λK L=>pb K L 0;have qx:∀(K:Kn)(L:SA)(y:aa),(P1 K++L).set (6+M.length+4) y=P1 K++L.set 4 y:=λK L y=>(by rw[<- eS K,dB]);have s5:∀(K:Kn)(L:SA) y,(P1 K++L).set 5 y=[setH K.aM,.cells (K.l 0) 88,.cells x.l 76,.cells [iv bu] 3,.obj (.deferred (some [])),y]++M++L:=λK L y=>(by rw[dI];rfl);have Ca:∀(K K':Kn)(L L':SA),L'.length=L.length->(∀q,(∀z∈L,e9 q z)->∀z∈L',e9 q z)->bJ (P1 K++L)->bJ (P1 K'++L'):=λK K' L L' hl hL hH z hz=>by
    have hlen:(P1 K'++L').length=(P1 K++L).length:=(by simp[eS,hl]);rw[hlen];rcases Tv.1 hz with h'|h'
    ·rw[dI]at h';rcases Tv.1 h' with h'|h'
     ·have h1:=hH (.cells (K.l 0) 88) (by rw[dI];simp);have hq:∀w∈[setH K.aM,aa.cells (K.l 0) 88,.cells x.l 76,.cells [iv bu] 3,.obj (.deferred (some [])),Lo],e9 (P1 K++L).length w:=λw hw=>hH w (by rw[dI,Te];exact Ul _ hw);simp only[Tm,T7,or_false]at h';rcases h' with rfl|rfl|rfl|rfl|rfl|rfl
      ·trivial
      ·exact zK (IJ h1)
      ·exact hq _ (by simp)
      ·exact hq _ (by simp)
      ·exact hq _ (by simp)
      ·exact hq _ (by simp)
     ·exact hH z (by rw[dI];simp[h'])
    ·exact hL _ (λw hw=>hH w (T_ _ hw)) z h'
   simp only[db]at dR;rw[vB]at dR;rw[vB];subst hT zb n5;refine w8 (id:=5) (by rfl) rfl (by kernel_rfl) λoR Me=> ?_;simp only[tz];have xy:U4 4 [iv 0,iv 0,iv 0,iv 0]=[]:=rfl;refine ab ?_;simp only[seval,wj,h4,xy];unfold va;refine⟨none,fn,_,25,#[13],_,_,_,by rfl,?_⟩;dsimp only;simp only[VI,U7];rw[<- lC];have yZ:M.length+1+1+1+1+1+1=6+M.length:=(by omega);rw[yZ];have zm:∀z:aa,(setH K.aM::aa.cells (K.l 0) 88::aa.cells x.l 76::aa.cells [AV.val (Th Tg ↑bu)] 3::aa.obj (ayj (some []))::Lo::(M++[z]))=P1 K++[z]:=λz=>(by rw[dI];rfl);rw[zm];refine ab ?_;simp only[seval,TO,x7,h4,nY];rw[Tx (i:=4) (l:=h.map iv) (by rw[nY];exact Ts _)];refine aG (LF (x:=x) (h:=h) (deep:=deep) ?_);(try simp only[seval]);refine bF ?_;have o4:∀(K:Kn)(a b c d:aa),(P1 K++[a,b,c,d]).length=6+M.length+4:=λK a b c d=>(by simp[eS]);refine GJ 5 (by rfl) (by show (P1 K++_)[5]?=_;rw[pg K _ 5 (by omega),lC];rfl) λl2 fq T2 h_ ie oS zd zf=> ?_;simp only[seval];rw[eS]at oS⊢;have za:j6 lv S_ (.fn (.yield l2) [] []) (λK t=> .go (eg x deep K t)) (λK=>P1 K++[.cells (h.map iv) 83,.cells x.l 76,.cells (h.map iv) 83,.cells [iv deep] 3,.loop l2 .ready none fq T2 25 #[18] h_ ie 4]) (6+M.length+5) bP (jd x) (.aL []):=by
    refine⟨λK' t M2 k2 zL Ml ht lH=> ?_,λK' t CU Ml ht he=> ?_,λK'=>by simp[eS],λq K' CU hz z fD=> ?_,rfl,rfl,rfl⟩
    ·have ox:=ht.len;have BT:(t.map iv).length=11:=(by rw[Ue,ox]);obtain⟨qD,t_⟩:∃Lo,Lo=aa.loop l2 .busy none fq T2 25 #[18] h_ ie 4:=⟨_,rfl⟩;obtain⟨Q1,gJ⟩:∃Q1:Kn->SA,∀K,Q1 K=P1 K++([.cells (h.map iv) 83,.cells x.l 76,.cells (h.map iv) 83,.cells [iv deep] 3,qD]++M2):=⟨_,λ_=>rfl⟩;obtain⟨C,hC⟩:∃C,C=6+M.length+5+M2.length:=⟨_,rfl⟩;have Ms:∀K,(Q1 K).length=C:=λK=>(by rw[gJ,hC];simp[eS];omega);have mu:∀(K:Kn)(L:SA),(P1 K++L)[6+M.length+4]?=L[4]?:=λK L=>pb K L 4;have q0:∀(K:Kn)(L:SA),(Q1 K++L)[0]?=some (setH K.aM):=λK L=>(by rw[gJ,Te];exact pg K _ 0 (by omega));have q1:∀(K:Kn)(L:SA),(Q1 K++L)[1]?=some (.cells (K.l 0) 88):=λK L=>(by rw[gJ,Te];exact pg K _ 1 (by omega));have q4:∀(K:Kn)(L:SA),(Q1 K++L)[6+M.length+4]?=some qD:=λK L=>(by rw[gJ,Te,mu];rfl);have qc:∀(K:Kn)(L:SA),(Q1 K++L)[C]?=L[0]?:=λK L=>(by rw[<- Ms K];exact aW _ L 0);have PR:∀(K:Kn)(L:SA)(y:aa),(Q1 K++L).set (6+M.length+4) y=(P1 K++([.cells (h.map iv) 83,.cells x.l 76,.cells (h.map iv) 83,.cells [iv deep] 3,y]++M2))++L:=λK L y=>(by rw[gJ,Te,qx];simp);have asb:∀(K K':Kn)(L:SA),((Q1 K++L).set 1 (.cells (K'.l 0) 88)).set 0 (setH K'.aM)=Q1 K'++L:=λK K' L=>(by rw[gJ,gJ,dI,dI];rfl);have eI:∀(CU:Kn),bJ (P1 K'++([.cells (h.map iv) 83,.cells x.l 76,.cells (h.map iv) 83,.cells [iv deep] 3,.loop l2 .ready none fq T2 25 #[18] h_ ie 4]++M2))->bJ (P1 CU++([.cells (h.map iv) 83,.cells x.l 76,.cells (h.map iv) 83,.cells [iv deep] 3,.loop l2 .ready none fq T2 25 #[18] h_ ie 4]++M2)):=λCU iM=>Ca K' CU _ _ rfl (λq hz=>hz) iM;simp only[db]at lH;have MX:∀z:aa,P1 K'++(aa.cells (Wn iv h) 83::aa.cells x.l 76::aa.cells (Wn iv h) 83::aa.cells [AV.val (Th Tg deep)] 3::qD::(M2++[z]))=Q1 K'++[z]:=λz=>(by rw[gJ];simp[iv]);subst oS zd zf;rw[Te];refine w8 (id:=6+M.length+4) (by rw[mu];rfl) rfl (by kernel_rfl) λsh Mf=> ?_;simp only[tz];have Eg:U4 11 [iv 0,iv 0,iv 0,iv 0,iv 0,iv 0,iv 0,iv 0,iv 0,iv 0,iv 0]=[]:=rfl;refine ab ?_;simp only[seval,ox,Eg];unfold va;refine⟨none,fq,_,25,#[18],_,_,_,by rw[mu];rfl,?_⟩;dsimp only;rw[qx];simp only[VI,U7];rw[<- t_];have DR:(P1 K').length+(M2.length+1+1+1+1+1)=C:=(by rw[eS,hC];omega);rw[DR];have jj:∀z:aa,(P1 K'++aa.cells (Wn iv h) 83::aa.cells x.l 76::aa.cells (Wn iv h) 83::aa.cells [AV.val (Th Tg deep)] 3::qD::(M2++[z]))=Q1 K'++[z]:=MX;rw[jj];refine ab ?_;simp only[seval,TO,qc,ox,BT];rw[Tx (i:=11) (l:=t.map iv) (by rw[BT];exact Ts _)];refine aG (ala (x:=x) (t:=t) (deep:=deep) (fp:=1) (mp:=0) (Q:=K') hx ht Ml (by decide) (q1 K' _) (q0 K' _) ?_);rw[asb];(try simp only[seval]);show pH _ _ _ _ _ _ _;refine⟨l2,.busy,none,fq,_,25,#[18],_,_,4,by show (Q1 _++_)[_]?=_;rw[q4,t_],?_⟩;show cz C ((Q1 _++_).set _ _) _ k2;rw[PR];rw[Te]at lH;exact jS (G:=[.cells (t.map iv) 86]) (Wk.refl _) rfl (by rw[hC];simp[eS];omega) (eI _ sh) (.val _) lH
    ·cases he;exact Qm hx ht Ml
    ·rcases Tv.1 fD with h'|h'
     ·have h1:=hz (.cells (K'.l 0) 88) (by rw[dI];simp);rw[dI]at h';rcases Tv.1 h' with h'|h'
      ·simp only[Tm,T7,or_false]at h';rcases h' with rfl|rfl|rfl|rfl|rfl|rfl
       ·trivial
       ·exact zK (IJ h1)
       all_goals exact hz _ (by rw[dI];simp)
      ·exact hz z (by rw[dI];simp[h'])
     ·exact hz z (T_ _ h')
   refine cP (LK (x:=x) (h:=h) (deep:=deep) (ir:=6+M.length+1) (ih:=6+M.length+1+1) (id:=6+M.length+1+2) (σ:=K) hx oZ za (λK L=> ?_) (λK L=> ?_) (λK L=> ?_) (λn=>by simp[iF]) hK (λa ha=>ha.len) ES ?_)
   ·rw[Te];exact pb _ _ 1
   ·rw[Te];exact pb _ _ 2
   ·rw[Te];exact pb _ _ 3
   rw[FN (g:=eg x deep) (λ_ _=>rfl)];simp only[gG,To];have mu:∀(K:Kn)(L:SA),(P1 K++L)[6+M.length+4]?=L[4]?:=λK L=>pb K L 4;refine⟨.ready,none,_,_,_,_,_,_,_,by rw[mu];rfl,by decide,?_⟩;rw[qx,Jn];(try simp only[seval]);show pH _ _ _ _ _ _ _;have awp:=lC;refine⟨l,.busy,none,fn,_,25,#[13],_,_,4,by show (P1 _++_)[_]?=_;rw[pg _ _ 5 (by omega),lC];rfl,?_⟩;show cz (6+M.length) ((P1 _++_).set _ _) _ k;rw[s5];refine jS (G:=[.cells (h.map iv) 83,.cells x.l 76,.cells (h.map iv) 83,.cells [iv deep] 3,.gone]) (Wk.refl _) rfl (by simp;omega) ?_ (.val _) dR;intro z hz;have h1:=oR (.cells (K.l 0) 88) (by simp);have hlen:∀(y:aa),([setH (axr (eg x deep) K (jL x deep h)).aM,aa.cells ((axr (eg x deep) K (jL x deep h)).l 0) 88,.cells x.l 76,.cells [iv bu] 3,.obj (.deferred (some [])),y]++M).length=(setH K.aM::aa.cells (K.l 0) 88::aa.cells x.l 76:: .cells [iv bu] 3:: .obj (.deferred (some []))::y::M).length:=λy=>rfl;rcases Tv.1 hz with h'|h'
   ·simp only[Tm,T7,or_false]at h';rcases h' with rfl|rfl|rfl|rfl|rfl|rfl
    ·trivial
    ·exact zK (IJ h1)
    all_goals exact oR _ (by simp)
   ·exact oR z (by simp[h'])
  ·cases he;exact L4 hx (λt ht=>by obtain⟨ns,h1,h2⟩:=JI ht;exact ha.2 ns h1 t h2) hK
 have hgo:bM (λK h=>dM.go ((jL x deep h).foldl (eg x deep) K)) (kU x bu) Kn.zero=.go (iw x deep bu):=by
  rw[FN (g:=λK h=>(jL x deep h).foldl (eg x deep) K) (λ_ _=>rfl),iw,List.foldl_flatMap]
 refine KQ (by kernel_rfl) ?_;have e0:=vB Kn.zero;simp only[iv]at e0;rw[<- e0];refine LI (lv:=lv) (x:=x) (bu:=bu) (N:=6) (ir:=2) (it:=3) (σ:=Kn.zero) hx hY (λK L=>by rw[vB];rfl) (λK L=>by rw[vB];rfl) kX (λn=>by simp[iF]) Fh hA ?_;rw[hgo];simp only[gG,To];refine⟨.ready,none,_,_,_,_,_,_,_,by rw[vB];rfl,by decide,?_⟩;rw[vB,Jm];exact hΦ
open Go.Conc
inductive Ht where
 |z
 |s (f:Uu->Ht)
inductive CR:Ht->Ht->Prop where
 |mk (f:Uu->Ht) (w:Uu):CR (f w) (.s f)
def aog:WellFounded CR:=by
 refine⟨λh=> ?_⟩;induction h with
 |z=>exact⟨_,λy hy=>by cases hy⟩
 |s f ih=>exact⟨_,λy hy=>by cases hy with|mk _ w=>exact ih w⟩
inductive lX (P:Tl):Ht->View->Tj->Prop where
 |step {f:Uu->Ht} {V V₁:View} {g:Tj} (G':Uu->Tj) (W':Uu->Uu) (E':Uu->Array XH) (V':Uu->View) (hs:g.status=.running) (hg:ey V V₁)
   (h1:∀w,Sat V₁ w->stepG P false g w=.go (G' w) (W' w) (E' w)) (h2:∀w,Sat V₁ w->du V₁ w (V' w) (W' w) (E' w)) (h3:∀w,Sat V₁ w->lX P (f w) (V' w) (G' w)):lX P (.s f) V g
 |send {h:Ht} {V V₁:View} {g:Tj} (c Wg:Nat) (sp:Spec) (S:List Spec) (v z:Uf) (B:Nat->Bool) (hs:g.status=.running) (hg:ey V V₁) (hr:V₁.role=.work c Wg (sp::S)) (hd:V₁.deaf=0) (ho:g.offers=none)
   (h1:∀w,Sat V₁ w->stepG P false g w=.comm g #[scase c v z] true .send w #[]) (h2:sp v V₁.ai (λb=>if B b then V₁.own b else none))
   (h3:lX P h {V₁ with own:=λb=>if B b then none else V₁.own b,role:=.work c Wg S} (U9 g undef)):lX P (.s λ_=>h) V g
 |done {V V₁:View} {g:Tj} (c Wg:Nat) (hg:ey V V₁) (hr:V₁.role=.work c Wg []) (hd:V₁.deaf=0) (h1:Gl P Wg g):lX P (.s λ_=> .z) V g
 |slip {h:Ht} {V V₁:View} {g g':Tj} (c Wg:Nat) (hs:g.status=.running) (hg:ey V V₁) (hr:V₁.role=.work c Wg []) (h1:∀w st,Sat V₁ w->WgAt P Wg w st 0->stepG P false g w=.go g' w #[]) (h3:lX P h V₁ g'):lX P (.s λ_=>h) V g
def lX.running{P:Tl}{h:Ht}{V:View}{g:Tj}(k:lX P h V g):g.status=.running:=by
 cases k with
 |step _ _ _ _ hs=>exact hs
 |send _ _ _ _ _ _ _ hs=>exact hs
 |done _ _ _ _ _ h1=>exact h1.1
 |slip _ _ hs=>exact hs
open Classical in
def avi(P:Tl):Av P false (λV g=>∃h,lX P h V g)where
 step V g hs h:=by
  have hc:∀w,∃h' g' w' es V',Sat V w->stepG P false g w=.go g' w' es/\du V w V' w' es/\lX P h' V' g':=by
   intro w;by_cases hw:Sat V w
   ·obtain⟨g',w',es,V',h1,h2,h',h3⟩:=h w hw;exact⟨h',g',w',es,V',λ_=>⟨h1,h2,h3⟩⟩
   ·exact⟨.z,g,w,#[],V,λx=>absurd x hw⟩
  have pV:=λw=>(hc w).choose_spec.choose_spec.choose_spec.choose_spec.choose_spec;exact⟨.s λw=>(hc w).choose,.step (λw=>(hc w).choose_spec.choose) (λw=>(hc w).choose_spec.choose_spec.choose) (λw=>(hc w).choose_spec.choose_spec.choose_spec.choose)
   (λw=>(hc w).choose_spec.choose_spec.choose_spec.choose_spec.choose) hs (ey.refl V) (λw hw=>(pV w hw).1) (λw hw=>(pV w hw).2.1) (λw hw=>(pV w hw).2.2)⟩
 ghost V V' g hg h:=by
  obtain⟨h,hk⟩:=h;cases hk with
  |step a b c d e f x y z=>exact⟨_,.step a b c d e (hg.trans f) x y z⟩
  |send a b c d e f m n o p q r s t u=>exact⟨_,.send a b c d e f m n (hg.trans o) p q r s t u⟩
  |done a b o p q r=>exact⟨_,.done a b (hg.trans o) p q r⟩
  |slip a b f o p q r=>exact⟨_,.slip a b f (hg.trans o) p q r⟩
 send V g c Wg sp S v z B h1 h2 h3 h4 h5 h6 h7:=by
  obtain⟨h,hk⟩:=h7;exact⟨_,.send c Wg sp S v z B h3 (ey.refl V) h1 h2 h4 h5 h6 hk⟩
 done V g c Wg h1 h2 h3:=⟨_,.done c Wg (ey.refl V) h1 h2 h3⟩
 slip V g g' c Wg h1 h2 h3 h4:=by
  obtain⟨h,hk⟩:=h4;exact⟨_,.slip c Wg h2 (ey.refl V) h1 h3 hk⟩
structure AF where
 a:Nat
 h:Ht
 n:Nat
def rP:AF->AF->Prop:=λx y=>x.a<y.a\/(x.a=y.a/\(CR x.h y.h\/(x.h=y.h/\x.n<y.n)))
def ash:WellFounded rP:=by
 refine⟨λ⟨a,h,n⟩=> ?_⟩;induction a using Zn generalizing h n with
 |_ a iha=>
  induction h using aog.induction generalizing n with
  |_ h ihh=>
   induction n using Zn with
   |_ n Oj=>
    refine⟨_,λ⟨a',h',n'⟩ hlt=> ?_⟩;rcases hlt with x|⟨rfl,x|⟨rfl,x⟩⟩
    ·exact iha a' x h' n'
    ·exact ihh h' x n'
    ·exact Oj n' x
def C4 (N:Nat)(f' f:Nat->AF):Prop:=∃i,i<N/\rP (f' i) (f i)/\∀j,j≠i->f' j=f j
def atr(N:Nat):WellFounded (C4 N):=by
 refine⟨?_⟩;induction N with
 |zero=>intro f;exact⟨_,λf' ⟨i,hi,_⟩=>by omega⟩
 |succ N ih=>
  have key:∀x:AF,∀f,f N=x->Acc (C4 (N+1)) f:=by
   intro x;induction x using ash.induction with
   |_ x ihx=>
    intro f hf;have inner:∀f,Acc (C4 N) f->f N=x->Acc (C4 (N+1)) f:=by
     intro f ha;induction ha with
     |intro f _ Oi=>
      intro hf;refine⟨_,λf' ⟨i,hi,hlt,ho⟩=> ?_⟩;by_cases fQ:i=N
      ·subst fQ;exact ihx (f' i) (hf▸hlt) f' rfl
      ·exact Oi f' ⟨i,by omega,hlt,ho⟩ ((ho N (Ne.symm fQ)).trans hf)
    exact inner f (ih f) hf
  exactλf=>key (f N) f rfl
def C0 (N:Nat)(x y:(Nat->AF)×Nat):Prop:=C4 N x.1 y.1\/(x.1=y.1/\x.2<y.2)
def adB(N:Nat):WellFounded (C0 N):=by
 refine⟨λ⟨f,n⟩=> ?_⟩;induction f using(atr N).induction generalizing n with
 |_ f Oi=>
  induction n using Zn with
  |_ n Oj=>
   refine⟨_,λ⟨f',n'⟩ hlt=> ?_⟩;rcases hlt with x|⟨x,y⟩
   ·exact Oi f' x n'
   ·have x':f'=f:=x;subst x';exact Oj n' y
open Go.ConcN
structure TI (t:Vq)(B N:Nat)(rd wr:Nat->Loc->Prop)(Sh:Loc->Prop)(act:Nat->Prop)(ic:Nat):Prop where
 nr:∀said,¬Race said t
 low:∀op∈t,op.act.low B
 gs:∀op∈t,op.g<N
 norel:∀op∈t,∀a,op.act≠ .mark (.release a)
 kr:∀i,i<N->∀l,rd i l->PermW t i l
 kw:∀i,i<N->∀l,wr i l->Perm t i l
 sp:∀idx a,touchAt t idx=some a->Sh a.loc->(a.kind=.plain->∀i,act i->Xq t i idx)/\(a.kind=.said->Xq t ic idx)
def Fit (B:Nat)(rd wr:Nat->Loc->Prop)(Sh:Loc->Prop)(act:S7)(ic i:Nat)(x:ZJ):Prop:=
 (Sh x.loc/\x.kind=.atomic/\act i)\/(Sh x.loc/\x.kind=.said/\i=ic/\act i)\/(¬Sh x.loc/\(wr i x.loc\/(rd i x.loc/\x.write=false)\/¬x.loc.low B))
def apQ{B:Nat}{m:MemAct}(h:m.low B){x:ZJ}(hx:m.touch?=some x):x.loc.low B:=by
 cases m with
 |access e=>simp only[Xk,Us]at hx;subst hx;exact h
 |mark m=>cases m<;>simp[Xk]at hx<;>(subst hx;exact h)
 |_=>simp[Xk]at hx
def Qv{t:Vq}{B:Nat}(h:∀op∈t,op.act.low B){idx:Nat}{a:ZJ}(ha:touchAt t idx=some a):a.loc.low B:=by
 obtain⟨x,hx,Iy⟩:=Wb ha;exact apQ (h x (YU hx)) Iy
def CA{t u:Vq}{idx:Nat}{a:ZJ}(h:touchAt (t++u) idx=some a):touchAt t idx=some a\/(t.size<=idx/\∃op∈u,(t++u)[idx]?=some op/\op.act.touch?=some a):=by
 obtain⟨x,hx,Iy⟩:=Wb h;rcases Yo hx with⟨_,jY⟩|⟨hi,hu⟩
 ·exact .inl (by rw[touchAt_of jY];exact Iy)
 ·exact .inr ⟨hi,x,hu,hx,Iy⟩
def TI.app{t:Vq}{B N B':Nat}{rd wr rd' wr':Nat->Loc->Prop}{Sh:Loc->Prop}{act:S7}{ic:Nat}(h:TI t B N rd wr Sh act ic){u:Vq}{i:Nat}(hi:i<N)(hu:∀op∈u,op.g=i)
  (hf:∀op∈u,∀x,op.act.touch?=some x->Fit B rd wr Sh act ic i x) (hl:∀op∈u,op.act.low B') (hB:B<=B') (hn:∀op∈u,∀a,op.act≠ .mark (.release a))
  (NL:∀j l,j≠i->rd' j l->rd j l) (rq:∀j l,j≠i->wr' j l->wr j l) (NM:∀l,rd' i l->l.low B->rd i l\/wr i l) (v9:∀l,wr' i l->l.low B->wr i l)
  (ex:∀l j,j≠i->(wr i l->¬rd j l/\¬wr j l)/\(rd i l->¬wr j l)) (JA:∀l j,Sh l->¬rd j l/\¬wr j l) (adl:∀j l,rd j l\/wr j l->l.low B):
  TI (t++u) B' N rd' wr' Sh act ic where
 nr said:=by
  refine noRace_append (h.nr said) hu λidx a ha op az b hb hc=> ?_;have bw:=hc;obtain⟨cR,_,Nl,o4⟩:=hc;rcases hf op az b hb with⟨h1,h2,h3⟩|⟨h1,h2,h3,h4⟩|⟨_,h2|⟨h2,h3⟩|h2⟩
  ·rw[h2]at o4;rcases o4 with x|x|⟨_,_,x⟩
   ·exact(h.sp idx a ha (cR▸h1)).1 x i h3
   ·cases x
   ·cases x
  ·rw[h2]at o4;rcases o4 with x|x|⟨_,x,_⟩
   ·exact(h.sp idx a ha (cR▸h1)).1 x i h4
   ·cases x
   ·rw[h3];exact(h.sp idx a ha (cR▸h1)).2 x
  ·exact h.kw i hi _ h2 idx a ha cR
  ·exact h.kr i hi _ h2 idx a ha cR (by rw[h3]at Nl;simpa using Nl)
  ·exact absurd (cR▸Qv h.low ha) h2
 low op az:=(Vx.1 az).elim (λx=>ah' hB (h.low op x)) (hl op)
 gs op az:=(Vx.1 az).elim (h.gs op) (λx=>by rw[hu op x];exact hi)
 norel op az:=(Vx.1 az).elim (h.norel op) (hn op)
 kr j hj l uv:=by
  by_cases cE:j=i
  ·subst cE;intro idx a ha ij hw;rcases CA ha with gL|⟨_,op,az,de,hx⟩
   ·have iO:l.low B:=ij▸Qv h.low gL;rcases NM l uv iO with x|x
    ·exact(h.kr j hj l x idx a gL ij hw).app u
    ·exact(h.kw j hj l x idx a gL ij).app u
   ·have:=ae' de;rwa[hu op az]at this
  ·have EK:=NL j l cE uv;refine(h.kr j hj l EK).app λop az b hb cT hw=> ?_;exfalso;rcases hf op az b hb with⟨h1,_⟩|⟨h1,_⟩|⟨_,h2|⟨_,h3⟩|h2⟩
   ·exact(JA l j (cT▸h1)).1 EK
   ·exact(JA l j (cT▸h1)).1 EK
   ·exact((ex l j cE).1 (cT▸h2)).1 EK
   ·rw[h3]at hw;cases hw
   ·exact h2 (cT▸adl j l (.inl EK))
 kw j hj l oz:=by
  by_cases cE:j=i
  ·subst cE;intro idx a ha ij;rcases CA ha with gL|⟨_,op,az,de,hx⟩
   ·exact(h.kw j hj l (v9 l oz (ij▸Qv h.low gL)) idx a gL ij).app u
   ·have:=ae' de;rwa[hu op az]at this
  ·have lO:=rq j l cE oz;refine(h.kw j hj l lO).app λop az b hb cT=> ?_;exfalso;rcases hf op az b hb with⟨h1,_⟩|⟨h1,_⟩|⟨_,h2|⟨h2,_⟩|h2⟩
   ·exact(JA l j (cT▸h1)).2 lO
   ·exact(JA l j (cT▸h1)).2 lO
   ·exact((ex l j cE).1 (cT▸h2)).2 lO
   ·exact(ex l j cE).2 (cT▸h2) lO
   ·exact h2 (cT▸adl j l (.inr lO))
 sp idx a ha dP:=by
  rcases CA ha with gL|⟨_,op,az,de,hx⟩
  ·exact⟨λhp j hj=>((h.sp idx a gL dP).1 hp j hj).app u,λhp=>((h.sp idx a gL dP).2 hp).app u⟩
  ·rcases hf op az a hx with⟨_,h2,_⟩|⟨_,h2,h3,_⟩|⟨h1,_⟩
   ·exact⟨λhp=>absurd (h2.symm.trans hp) (by simp),λhp=>absurd (h2.symm.trans hp) (by simp)⟩
   ·refine⟨λhp=>absurd (h2.symm.trans hp) (by simp),λ_=> ?_⟩;have:=ae' de;rw[hu op az,h3]at this;exact this
   ·exact absurd dP h1
def TI.weaken{t:Vq}{B N B':Nat}{rd wr rd' wr':Nat->Loc->Prop}{Sh Q4:Loc->Prop}{act act':S7}{ic kY:Nat}(h:TI t B N rd wr Sh act ic)(hB:B<=B')
  (NL:∀i l,i<N->rd' i l->rd i l\/wr i l) (rq:∀i l,i<N->wr' i l->wr i l)
  (pf:∀idx a,touchAt t idx=some a->Q4 a.loc->(a.kind=.plain->∀i,act' i->Xq t i idx)/\(a.kind=.said->Xq t kY idx)):TI t B' N rd' wr' Q4 act' kY:=
 ⟨h.nr,λop az=>ah' hB (h.low op az),h.gs,h.norel,λi hi l x=>(NL i l hi x).elim (h.kr i hi l) (λy=>PermW.of (h.kw i hi l y)),λi hi l x=>h.kw i hi l (rq i l hi x),pf⟩
def aqq{t u:Vq}(h:∀said,¬Race said t)(hn:∀op∈u,op.act.touch?=none):∀said,¬Race said (t++u):=by
 intro said
 rintro⟨i,j,kH,⟨a,b,ha,hb,hc⟩,n1,n2⟩
 have old:∀{k:Nat}{x:ZJ},((t++u).act? k).bind (·.touch?)=some x->k<t.size/\(t.act? k).bind (·.touch?)=some x:=by
  intro k x hx;obtain⟨y,hy,Ob⟩:=Wb hx;rcases Yo hy with⟨hk,mP⟩|⟨_,hyu⟩
  ·exact⟨hk,by simp[Trace.act?,mP,Ob]⟩
  ·rw[hn y hyu]at Ob;cases Ob
 exact h said ⟨i,j,kH,⟨a,b,(old ha).2,(old hb).2,hc⟩,λe=>n1 (hb_app u e),λe=>n2 (hb_app u e)⟩
def CB{t u:Vq}(hn:∀op∈u,op.act.touch?=none){idx:Nat}{a:ZJ}(h:touchAt (t++u) idx=some a):touchAt t idx=some a:=by
 rcases CA h with h|⟨_,op,az,_,hx⟩
 ·exact h
 ·rw[hn op az]at hx;cases hx
def TI.mute{t:Vq}{B N N':Nat}{rd wr rd' wr':Nat->Loc->Prop}{Sh:Loc->Prop}{act act':S7}{ic kY:Nat}(h:TI t B N rd wr Sh act ic){u:Vq}(hn:∀op∈u,op.act.touch?=none)(hl:∀op∈u,op.act.low B)(hg:∀op∈u,op.g<N')(hN:N<=N')
  (sI:∀op∈u,∀a,op.act≠ .mark (.release a))
  (kr:∀i,i<N'->∀l,rd' i l->∀idx a,touchAt t idx=some a->a.loc=l->a.write=true->Xq (t++u) i idx) (kw:∀i,i<N'->∀l,wr' i l->∀idx a,touchAt t idx=some a->a.loc=l->Xq (t++u) i idx)
  (sp:∀idx a,touchAt t idx=some a->Sh a.loc->(a.kind=.plain->∀i,act' i->Xq (t++u) i idx)/\(a.kind=.said->Xq (t++u) kY idx)):TI (t++u) B N' rd' wr' Sh act' kY:=
 ⟨aqq h.nr hn,λop az=>(Vx.1 az).elim (h.low op) (hl op),λop az=>(Vx.1 az).elim (λx=>Uk (h.gs op x) hN) (hg op),λop az=>(Vx.1 az).elim (h.norel op) (sI op),
  λi hi l x idx a ha=>kr i hi l x idx a (CB hn ha),λi hi l x idx a ha=>kw i hi l x idx a (CB hn ha),λidx a ha=>sp idx a (CB hn ha)⟩
def sf{t u:Vq}{k:Nat}{x:Xj}(h:u[k]?=some x):(t++u)[t.size+k]?=some x:=by
 rw[Y' (by omega)];simpa using h
def heard_new{t u:Vq}{k g:Nat}{x:Xj}(h:u[k]?=some x)(hx:x.g=g)(hd:(t++u).deaf g (t.size+k)=0):(t++u).heard (t.size+k):=⟨g,by simp[XB,sf h,hx],hd⟩
def still (m:MemAct):Prop:=m≠ .mark .disable/\m≠ .mark .enable
def K2{g d:Nat}{y:Xj}(h:still y.act):deafStep g d y=d:=by
 unfold deafStep;obtain⟨_,_,_,act⟩:=y;cases act with
 |mark m=>cases m<;>first|rfl|exact absurd rfl h.1|exact absurd rfl h.2
 |_=>rfl
def vn{t u:Vq}{g:Nat}(hs:∀op∈u,still op.act):∀{k:Nat},k<=u.size->(t++u).deaf g (t.size+k)=VZ t g:=by
 intro k;induction k with
 |zero=>intro _;exact deaf_old (Ts _)
 |succ k ih=>
  intro hk;have hlt:k<u.size:=by omega
  have hy:u[k]?=some u[k]:=Tn hlt;have e:=axo (g:=g) (sf (t:=t) hy);rw[show t.size+(k+1)=t.size+k+1 from rfl,e,ih (by omega),K2 (hs _ (YV hlt))]
def Deaf_still{t u:Vq}{g:Nat}(hs:∀op∈u,still op.act):VZ (t++u) g=VZ t g:=by
 have:=vn (t:=t) (g:=g) hs (Ts u.size);unfold VZ;rw[YC];exact this
def ap7{t u:Vq}{k c s:Nat}{x0 x1 x2 x3:Xj}(hu:u=#[x0,x1,x2,x3]) (h0:x0.g=k/\x0.act=.send c s) (h1:still x1.act) (h2:still x2.act) (h3:x3.g=0/\x3.act=.recvDone c s) (dk:VZ t k=0) (d0:VZ t 0=0) {idx:Nat} (h:Xq t k idx):Xq (t++u) 0 idx:=by
 have hs:∀op∈u,still op.act:=by
  subst hu;intro op az;simp only[UR,Tm,T7,or_false]at az;rcases az with rfl|rfl|rfl|rfl
  ·rw[h0.2];exact⟨by simp,by simp⟩
  ·exact h1
  ·exact h2
  ·rw[h3.2];exact⟨by simp,by simp⟩
 have e0:u[0]?=some x0:=by subst hu;rfl
 have e3:u[3]?=some x3:=by subst hu;rfl
 have aZ:u.size=4:=by subst hu;rfl
 have g0:=sf (t:=t) e0;have g3:=sf (t:=t) e3;have Ep:(t++u).heard (t.size+0):=heard_new e0 h0.1 (by rw[vn hs (by omega)];exact dk);have hh3:(t++u).heard (t.size+3):=heard_new e3 h3.1 (by rw[vn hs (by omega)];exact d0);have hb:HappensBefore (t++u) idx (t.size+0):=h.hb_new (by omega) g0 h0.1;exact⟨_,x3,g3,h3.1,.inr (hb.trans (.single (.inr ⟨.handOver (c:=c) (k:=s) (by rw[axz g0,h0.2]) (by rw[axz g3,h3.2]),Ep,hh3⟩)))⟩
def ahb{t:Vq}{a:WC}{r q i:Nat}{y:Xj}(hr:t.act? r=some (.mark (.releaseMerge a)))(hh:t.heard r)(hn:∀op∈t,∀a,op.act≠ .mark (.release a))(hy:y.g=q/\y.act=.mark (.acquire a))(hd:VZ t q=0)(hb:Before t i r):Xq (t++#[y]) q i:=by
 have e:(#[y]:Vq)[0]?=some y:=rfl;have g:=sf (t:=t) e;have uv:=Xh hr;have aP:∀op∈(#[y]:Vq),still op.act:=by
  intro op az;simp only[UR,Tm,T7,or_false]at az;subst az;rw[hy.2];exact⟨by simp,by simp⟩
 have M9:(t++#[y]).heard (t.size+0):=heard_new e hy.1 (by rw[vn aP (by simp)];exact hd);refine⟨_,y,g,hy.1,.inr ((hb.app #[y]).hb (.single (.inr ⟨.marked (a:=a) (by omega) (.inr (by rw[Y9 uv];exact hr)) (by rw[axz g,hy.2]) (λk gT cp e'=> ?_),(Xu uv).2 hh,M9⟩)))⟩;obtain⟨op,ho,hoa⟩:=Uv.1 e';rcases Yo ho with⟨_,bt⟩|⟨hk,_⟩
 ·exact hn op (YU bt) a hoa
 ·omega
def aiT{t:Vq}{c p q i:Nat}{y:Xj}(hp:t.act? p=some (.close c))(hh:t.heard p)(hy:y.g=q/\y.act=.recvClosed c)(hd:VZ t q=0)(hb:Before t i p):Xq (t++#[y]) q i:=by
 have e:(#[y]:Vq)[0]?=some y:=rfl;have g:=sf (t:=t) e;have cr:=Xh hp;have aP:∀op∈(#[y]:Vq),still op.act:=by
  intro op az;simp only[UR,Tm,T7,or_false]at az;subst az;rw[hy.2];exact⟨by simp,by simp⟩
 have M9:(t++#[y]).heard (t.size+0):=heard_new e hy.1 (by rw[vn aP (by simp)];exact hd);exact⟨_,y,g,hy.1,.inr ((hb.app #[y]).hb (.single (.inr ⟨.closed (c:=c) (by rw[Y9 cr];exact hp) (by rw[axz g,hy.2]),(Xu cr).2 hh,M9⟩)))⟩
def j4 (U V:View):Prop:=∀b,U.own b≠none->V.own b=none/\∀o,V.ai b o≠none->U.ai b o≠none
def iz (V:View):Loc->Prop
 |.cell a=>V.own a.block≠none\/V.ai a.block a.off≠none
 |.obj r=>V.own r≠none
 |_=>False
def j5 (V:View):Loc->Prop
 |.cell a=>V.own a.block≠none/\V.ai a.block a.off=none
 |.obj r=>V.own r≠none
 |_=>False
def j5.rd{V:View}:∀{l:Loc},j5 V l->iz V l
 |.cell _,h=> .inl h.1
 |.obj _,h=>h
def du.others{V V' U:View}{w w':Uu}{es:SP}(s:du V w V' w' es)(hV:Sat V w)(h:Sat U w)(d:j4 V U):Sat U w':=by
 refine⟨λb o v e=> ?_,λb x e=> ?_⟩
 ·have hc:=h.ai b o v e;have hb:=h.Fa e;cases ho:V.own b with
  |none=>
   have:=s.frame b hb ho;simp only[VC,this]at hc⊢;exact hc
  |some x=>
   have hp:=(d b (by rw[ho];simp)).2 o (by rw[e];simp);cases hi:V.ai b o with
   |none=>exact absurd hi hp
   |some v'=>
    have e1:=hV.ai b o v' hi;rw[hc]at e1;cases e1;exact s.sat.ai b o v (s.ai b o v hi)
 ·have hb:=h.lt e;have ho:V.own b=none:=by
   cases ho:V.own b with
   |none=>rfl
   |some y=>rw[(d b (by rw[ho];simp)).1]at e;cases e
  rw[s.frame b hb ho];exact h.own b x e
def du.xa{V V' U:View}{w w':Uu}{es:SP}(s:du V w V' w' es)(h:Sat U w)(d:j4 V U)(d':j4 U V):j4 V' U/\j4 U V':=by
 have key:∀b,V'.own b≠none->V.own b≠none\/w.heap.size<=b:=by
  intro b hb;by_cases hlt:b<w.heap.size
  ·exact .inl λe=>hb (s.own b hlt e)
  ·exact .inr (by omega)
 refine⟨λb hb=> ?_,λb hb=> ?_⟩
 ·rcases key b hb with x|x
  ·refine⟨(d b x).1,λo ho=> ?_⟩;have:=(d b x).2 o ho;cases e:V.ai b o with
   |none=>exact absurd e this
   |some v=>rw[s.ai b o v e];simp
  ·have:=h.fresh x;exact⟨this.1,λo ho=>absurd (this.2 o) ho⟩
 ·have hlt:b<w.heap.size:=by
   cases e:U.own b with
   |none=>exact absurd e hb
   |some x=>exact h.lt e
  refine⟨?_,λo ho=> ?_⟩
  ·exact s.own b hlt (d' b hb).1
  ·cases e:V'.ai b o with
   |none=>exact absurd e ho
   |some v=>
    rcases s.kZ b o v e with x|x|x
    ·exact(d' b hb).2 o (by rw[x];simp)
    ·exact absurd (d' b hb).1 x
    ·omega
def ey.xa{V V' U:View}(g:ey V V')(d:j4 V U)(d':j4 U V):j4 V' U/\j4 U V':=by
 refine⟨λb hb=> ?_,λb hb=>⟨g.own b (d' b hb).1,λo ho=> ?_⟩⟩
 ·have x:V.own b≠none:=λe=>hb (g.own b e);refine⟨(d b x).1,λo ho=> ?_⟩;cases e:V.ai b o with
  |none=>exact absurd e ((d b x).2 o ho)
  |some v=>rw[g.ai b o v e];simp
 ·cases e:V'.ai b o with
  |none=>exact absurd e ho
  |some v=>
   rcases g.kZ b o v e with x|x
   ·exact(d' b hb).2 o (by rw[x];simp)
   ·exact absurd (d' b hb).1 x
def ey.rd{V V':View}(g:ey V V'):∀{l:Loc},iz V' l->iz V l
 |.cell a,h=>by
  rcases h with h|h
  ·exact .inl λe=>h (g.own _ e)
  ·cases e:V'.ai a.block a.off with
   |none=>exact absurd e h
   |some v=>exact(g.kZ _ _ _ e).elim (λx=> .inr (by rw[x];simp)) .inl
 |.obj _,h=>λe=>h (g.own _ e)
def ey.wr{V V':View}(g:ey V V'):∀{l:Loc},j5 V' l->j5 V l
 |.cell a,h=>⟨λe=>h.1 (g.own _ e),by
  cases e:V.ai a.block a.off with
  |none=>rfl
  |some v=>exact absurd (g.ai _ _ _ e) (by rw[h.2];simp)⟩
 |.obj _,h=>λe=>h (g.own _ e)
def iz.low{V:View}{w:Uu}(h:Sat V w):∀{l:Loc},iz V l->l.low w.heap.size
 |.cell a,x=>by
  rcases x with x|x
  ·cases e:V.own a.block with
   |none=>exact absurd e x
   |some y=>exact h.lt e
  ·cases e:V.ai a.block a.off with
   |none=>exact absurd e x
   |some y=>exact h.Fa e
 |.obj r,x=>by
  cases e:V.own r with
  |none=>exact absurd e x
  |some y=>exact h.lt e
def du.rd{V V':View}{w w':Uu}{es:SP}(s:du V w V' w' es):∀{l:Loc},iz V' l->l.low w.heap.size->iz V l
 |.cell a,h,hl=>by
  have fb:a.block<w.heap.size:=hl;rcases h with h|h
  ·exact .inl λe=>h (s.own _ fb e)
  ·cases e:V'.ai a.block a.off with
   |none=>exact absurd e h
   |some v=>
    rcases s.kZ _ _ _ e with x|x|x
    ·exact .inr (by rw[x];simp)
    ·exact .inl x
    ·omega
 |.obj r,h,hl=>λe=>h (s.own _ hl e)
def du.wr{V V':View}{w w':Uu}{es:SP}(s:du V w V' w' es):∀{l:Loc},j5 V' l->l.low w.heap.size->j5 V l
 |.cell a,h,hl=>⟨λe=>h.1 (s.own _ hl e),by
  cases e:V.ai a.block a.off with
  |none=>rfl
  |some v=>exact absurd (s.ai _ _ _ e) (by rw[h.2];simp)⟩
 |.obj r,h,hl=>λe=>h (s.own _ hl e)
def ajd{U V:View}(d:j4 U V)(d':j4 V U)(l:Loc):(j5 U l->¬iz V l/\¬j5 V l)/\(iz U l->¬j5 V l):=by
 cases l with
 |cell a=>
  refine⟨λh=> ?_,λh=> ?_⟩
  ·have:=d _ h.1;refine⟨λx=> ?_,λx=>x.1 this.1⟩;rcases x with x|x
   ·exact x this.1
   ·exact this.2 _ x h.2
  ·intro x;have:=d' _ x.1;rcases h with h|h
   ·exact h this.1
   ·exact this.2 _ h x.2
 |obj r=>exact⟨λh=>⟨λx=>x (d r h).1,λx=>x (d r h).1⟩,λh x=>h (d' r x).1⟩
 |_=>exact⟨λh=>h.elim,λh=>h.elim⟩
def rR (c Wg:Nat):Loc->Prop
 |.cell a=>a.block=Wg
 |.obj r=>r=c
 |_=>False
structure Core (VV:Nat->View)(N:Nat)(w:Uu)(t:Vq)(Sh:Loc->Prop)(act:Nat->Prop)(ic n0:Nat)(W0:Uu):Prop where
 sat:∀i,i<N->Sat (VV i) w
 d_:∀i j,i<N->j<N->i≠j->j4 (VV i) (VV j)
 ti:TI t w.heap.size N (λi l=>i<N/\iz (VV i) l/\¬Sh l) (λi l=>i<N/\j5 (VV i) l/\¬Sh l) Sh act ic
 tape:w.tape=W0.tape
 os:w.os=W0.os
 out:w.output=W0.output
 old:∀b,b<n0->w.heap[b]?=W0.heap[b]?
 jJ:∀i,i<N->∀b,b<n0->(VV i).own b=none
 n0:n0<=w.heap.size
def upd {α:Type}(f:Nat->α)(i:Nat)(x:α):Nat->α:=λj=>if j=i then x else f j
def bG{α:Type}(f:Nat->α)(i:Nat)(x:α):upd f i x i=x:=by simp[upd]
def br{α:Type}(f:Nat->α){i j:Nat}(x:α)(h:j≠i):upd f i x j=f j:=by simp[upd,h]
section
variable {VV:Nat->View}{N:Nat}{w w':Uu}{t:Vq}{Sh:Loc->Prop}{act:S7}{ic n0 i:Nat}{W0:Uu}
def Core.draw(h:Core VV N w t Sh act ic n0 W0)(d:Nat):Core VV N (w.at d) t Sh act ic n0 W0:=
 ⟨λi hi=>⟨(h.sat i hi).ai,(h.sat i hi).own⟩,h.d_,h.ti,h.tape,h.os,h.out,h.old,h.jJ,h.n0⟩
def Lr{V:View}{B:Nat}{e:XH}(he:nE V B e){x:ZJ}(hx:(Uw e).touch?=some x):(j5 V x.loc\/(iz V x.loc/\x.write=false)\/¬x.loc.low B)/\
  (∀c,V.role.chan=some c->x.loc≠ .obj c)/\(∀Wg a,V.role.group=some Wg->x.loc=.cell a->a.block=Wg->x.kind≠ .plain):=by
 obtain⟨l,wr,s⟩:=e;cases l with
 |cell a=>
  simp only[axS,Xk,Us]at hx;subst hx;cases wr with
  |false=>
   refine⟨?_,λc _=>by simp,λWg a' hr ha hb=> ?_⟩
   ·rcases he.1 with h|h|h
    ·exact .inr (.inr (by show ¬a.block<B;omega))
    ·exact .inr (.inl ⟨.inl h,rfl⟩)
    ·exact .inr (.inl ⟨.inr h,rfl⟩)
   ·cases ha;rcases he.2 with h|h
    ·subst h;simp
    ·subst hb;exact absurd hr h
  |true=>
   refine⟨?_,λc _=>by simp,λWg a' hr ha hb=> ?_⟩
   ·rcases he.1 with h|h
    ·exact .inr (.inr (by show ¬a.block<B;omega))
    ·exact .inl h
   ·cases ha;rcases he.2 with h|h
    ·subst h;simp
    ·subst hb;exact absurd hr h
 |obj r=>
  obtain⟨⟨rfl,h2⟩,h3⟩:=he;have e1:Uw ⟨.obj r,wr,false⟩=.access ⟨.obj r,wr,false⟩:=by cases wr<;>rfl
  rw[e1]at hx;simp only[Xk,Us]at hx;subst hx;refine⟨?_,λc hc e=> ?_,λWg a _ ha=>by cases ha⟩
  ·rcases h2 with h|h
   ·exact .inr (.inr (by show ¬r<B;omega))
   ·exact .inl h
  ·cases e;exact h3 hc
 |mark m=>
  have e1:Uw ⟨.mark m,wr,s⟩=.mark m:=by cases wr<;>cases s<;>rfl
  rw[e1]at hx;cases m<;>simp only[Xk,Us,reduceCtorEq]at hx
  all_goals
   subst hx;refine⟨?_,λc _=>by simp,λWg a' _ _ _=>by simp⟩;have kF:na V B _:=he;rcases kF with h|h
   ·exact .inr (.inr (by simp only[Loc.low];omega))
   ·exact .inl h
 |_=>exact he.elim
def Core.aar(h:Core VV N w t Sh act ic n0 W0)(l:Loc){i j:Nat}(hi:i<N)(hj:j≠i):
  ((i<N/\j5 (VV i) l/\¬Sh l)->¬(j<N/\iz (VV j) l/\¬Sh l)/\¬(j<N/\j5 (VV j) l/\¬Sh l))/\((i<N/\iz (VV i) l/\¬Sh l)->¬(j<N/\j5 (VV j) l/\¬Sh l)):=by
 by_cases Es:j<N
 ·have:=ajd (h.d_ i j hi Es (Ne.symm hj)) (h.d_ j i Es hi hj) l;exact⟨λ⟨_,x,_⟩=>⟨λ⟨_,y,_⟩=>(this.1 x).1 y,λ⟨_,y,_⟩=>(this.1 x).2 y⟩,λ⟨_,x,_⟩ ⟨_,y,_⟩=>this.2 x y⟩
 ·exact⟨λ_=>⟨λ⟨y,_⟩=>Es y,λ⟨y,_⟩=>Es y⟩,λ_ ⟨y,_⟩=>Es y⟩
def Core.step(h:Core VV N w t Sh act ic n0 W0)(hi:i<N){V':View}{es:SP}(s:du (VV i) w V' w' es)
  (dP:∀e∈es,∀x,(Uw e).touch?=some x->Sh x.loc->(x.kind=.atomic/\act i)\/(x.kind=.said/\i=ic/\act i)) (fn:UW) (pos:String):
  Core (upd VV i V') N w' (t++Ui i fn pos es) Sh act ic n0 W0 where
 sat j hj:=by
  by_cases cE:j=i
  ·subst cE;rw[bG];exact s.sat
  ·rw[br _ _ cE];exact s.others (h.sat i hi) (h.sat j hj) (h.d_ i j hi hj (Ne.symm cE))
 d_ a b ha hb eQ:=by
  by_cases n4:a=i
  ·subst n4;have xq:b≠a:=Ne.symm eQ;rw[bG,br _ _ xq];exact(s.xa (h.sat b hb) (h.d_ a b ha hb eQ) (h.d_ b a hb ha xq)).1
  ·by_cases dV:b=i
   ·subst dV;rw[bG,br _ _ n4];exact(s.xa (h.sat a ha) (h.d_ b a hb ha (Ne.symm eQ)) (h.d_ a b ha hb eQ)).2
   ·rw[br _ _ n4,br _ _ dV];exact h.d_ a b ha hb eQ
 ti:=by
  refine h.ti.app hi (λop az=>by obtain⟨e,_,rfl⟩:=UU az;rfl) (λop az x hx=> ?_) (λop az=>by obtain⟨e,he,rfl⟩:=UU az;exact s.low e he) s.size (λop az a=> ?_)
   (λj l hj ⟨x,y⟩=>by rw[br _ _ hj]at y;exact⟨x,y⟩) (λj l hj ⟨x,y⟩=>by rw[br _ _ hj]at y;exact⟨x,y⟩)
   (λl ⟨x,y,z⟩ hl=>by rw[bG]at y;exact .inl ⟨x,s.rd y hl,z⟩) (λl ⟨x,y,z⟩ hl=>by rw[bG]at y;exact⟨x,s.wr y hl,z⟩)
   (λl j hj=>h.aar l hi hj) (λl j hs=>⟨λx=>x.2.2 hs,λx=>x.2.2 hs⟩) (λj l x=>x.elim (λy=>iz.low (h.sat j y.1) y.2.1) (λy=>iz.low (h.sat j y.1) y.2.1.rd))
  ·obtain⟨e,he,rfl⟩:=UU az;by_cases hs:Sh x.loc
   ·rcases dP e he x hx hs with⟨a,b⟩|⟨a,b,c⟩
    ·exact .inl ⟨hs,a,b⟩
    ·exact .inr (.inl ⟨hs,a,b,c⟩)
   ·refine .inr (.inr ⟨hs,?_⟩);rcases(Lr (s.fG e he) hx).1 with x'|⟨x',y⟩|x'
    ·exact .inl ⟨hi,x',hs⟩
    ·exact .inr (.inl ⟨⟨hi,x',hs⟩,y⟩)
    ·exact .inr (.inr x')
  ·obtain⟨e,he,rfl⟩:=UU az;intro e';have hk:=s.fG e he;obtain⟨l,wr,sy⟩:=e;cases l with
   |mark m=>
    have e1:Uw ⟨.mark m,wr,sy⟩=.mark m:=(by cases wr<;>cases sy<;>rfl);simp only[e1,axF]at e';subst e';exact hk
   |cell a'=>simp[axS]at e'
   |obj r=>cases wr<;>cases sy<;>simp[Uw]at e'
   |_=>exact hk
 tape:=s.tape.trans h.tape
 os:=s.os.trans h.os
 out:=s.output.trans h.out
 old b hb:=(s.frame b (Uk hb h.n0) (h.jJ i hi b hb)).trans (h.old b hb)
 jJ j hj b hb:=by
  by_cases cE:j=i
  ·subst cE;rw[bG];exact s.own b (Uk hb h.n0) (h.jJ j hj b hb)
  ·rw[br _ _ cE];exact h.jJ j hj b hb
 n0:=UK h.n0 s.size
def Core.ghost(h:Core VV N w t Sh act ic n0 W0)(hi:i<N){V':View}(g:ey (VV i) V'):Core (upd VV i V') N w t Sh act ic n0 W0 where
 sat j hj:=by
  by_cases cE:j=i
  ·subst cE;rw[bG];exact g.sat _ (h.sat j hj)
  ·rw[br _ _ cE];exact h.sat j hj
 d_ a b ha hb eQ:=by
  by_cases n4:a=i
  ·subst n4;have xq:b≠a:=Ne.symm eQ;rw[bG,br _ _ xq];exact(g.xa (h.d_ a b ha hb eQ) (h.d_ b a hb ha xq)).1
  ·by_cases dV:b=i
   ·subst dV;rw[bG,br _ _ n4];exact(g.xa (h.d_ b a hb ha (Ne.symm eQ)) (h.d_ a b ha hb eQ)).2
   ·rw[br _ _ n4,br _ _ dV];exact h.d_ a b ha hb eQ
 ti:=h.ti.weaken (Ts _) (λj l _ ⟨x,y,z⟩=>by
   by_cases cE:j=i
   ·subst cE;rw[bG]at y;exact .inl ⟨x,g.rd y,z⟩
   ·rw[br _ _ cE]at y;exact .inl ⟨x,y,z⟩) (λj l _ ⟨x,y,z⟩=>by
   by_cases cE:j=i
   ·subst cE;rw[bG]at y;exact⟨x,g.wr y,z⟩
   ·rw[br _ _ cE]at y;exact⟨x,y,z⟩) h.ti.sp
 tape:=h.tape
 os:=h.os
 out:=h.out
 old:=h.old
 jJ j hj b hb:=by
  by_cases cE:j=i
  ·subst cE;rw[bG];exact g.own b (h.jJ j hj b hb)
  ·rw[br _ _ cE];exact h.jJ j hj b hb
 n0:=h.n0
def m_ (V' V:View):Prop:=(∀b,V'.own b=none\/V'.own b=V.own b)/\(∀b o,V'.ai b o=none\/V'.ai b o=V.ai b o)/\(∀b,V'.own b≠none->∀o,V'.ai b o=V.ai b o)
def m_.sat{V V':View}(l:m_ V' V){w:Uu}(h:Sat V w):Sat V' w:=
 ⟨λb o v e=>h.ai b o v (by rcases l.2.1 b o with x|x<;>rw[x]at e;cases e;exact e),λb x e=>h.own b x (by rcases l.1 b with y|y<;>rw[y]at e;cases e;exact e)⟩
def m_.rd{V V':View}(k:m_ V' V):∀{l:Loc},iz V' l->iz V l
 |.cell a,h=>h.imp (λx y=>by rcases k.1 a.block with z|z;exact x z;exact x (z.trans y)) (λx y=>by rcases k.2.1 a.block a.off with z|z;exact x z;exact x (z.trans y))
 |.obj r,h=>λy=>by rcases k.1 r with z|z;exact h z;exact h (z.trans y)
def m_.wr{V V':View}(k:m_ V' V):∀{l:Loc},j5 V' l->j5 V l
 |.cell a,h=>⟨λy=>by rcases k.1 a.block with z|z;exact h.1 z;exact h.1 (z.trans y),by rw[<- k.2.2 _ h.1];exact h.2⟩
 |.obj r,h=>λy=>by rcases k.1 r with z|z;exact h z;exact h (z.trans y)
def m_.xa{V V' U:View}(k:m_ V' V)(d:j4 V U)(d':j4 U V):j4 V' U/\j4 U V':=by
 refine⟨λb hb=> ?_,λb hb=>⟨?_,λo ho=> ?_⟩⟩
 ·have x:V.own b≠none:=λy=>by rcases k.1 b with z|z;exact hb z;exact hb (z.trans y)
  exact⟨(d b x).1,λo ho=>by rw[k.2.2 b hb];exact(d b x).2 o ho⟩
 ·rcases k.1 b with z|z;exact z;exact z.trans (d' b hb).1
 ·exact(d' b hb).2 o λy=>by rcases k.2.1 b o with z|z;exact ho z;exact ho (z.trans y)
def Core.less(h:Core VV N w t Sh act ic n0 W0)(hi:i<N){V':View}(k:m_ V' (VV i)):Core (upd VV i V') N w t Sh act ic n0 W0 where
 sat j hj:=by
  by_cases cE:j=i
  ·subst cE;rw[bG];exact k.sat (h.sat j hj)
  ·rw[br _ _ cE];exact h.sat j hj
 d_ a b ha hb eQ:=by
  by_cases n4:a=i
  ·subst n4;have xq:b≠a:=Ne.symm eQ;rw[bG,br _ _ xq];exact(k.xa (h.d_ a b ha hb eQ) (h.d_ b a hb ha xq)).1
  ·by_cases dV:b=i
   ·subst dV;rw[bG,br _ _ n4];exact(k.xa (h.d_ b a hb ha (Ne.symm eQ)) (h.d_ a b ha hb eQ)).2
   ·rw[br _ _ n4,br _ _ dV];exact h.d_ a b ha hb eQ
 ti:=h.ti.weaken (Ts _) (λj l _ ⟨x,y,z⟩=>by
   by_cases cE:j=i
   ·subst cE;rw[bG]at y;exact .inl ⟨x,k.rd y,z⟩
   ·rw[br _ _ cE]at y;exact .inl ⟨x,y,z⟩) (λj l _ ⟨x,y,z⟩=>by
   by_cases cE:j=i
   ·subst cE;rw[bG]at y;exact⟨x,k.wr y,z⟩
   ·rw[br _ _ cE]at y;exact⟨x,y,z⟩) h.ti.sp
 tape:=h.tape
 os:=h.os
 out:=h.out
 old:=h.old
 jJ j hj b hb:=by
  by_cases cE:j=i
  ·subst cE;rw[bG];rcases k.1 b with z|z;exact z;exact z.trans (h.jJ j hj b hb)
  ·rw[br _ _ cE];exact h.jJ j hj b hb
 n0:=h.n0
def Core.uQ(h:Core VV N w t Sh act ic n0 W0)(hi:i<N){es:SP}(cq:∀e∈es,∀x,(Uw e).touch?=some x->Fit w.heap.size (λi l=>i<N/\iz (VV i) l/\¬Sh l) (λi l=>i<N/\j5 (VV i) l/\¬Sh l) Sh act ic i x)
  (iO:∀e∈es,(Uw e).low w.heap.size) (sI:∀e∈es,∀a,Uw e≠ .mark (.release a)) (SB:S7) (qe:∀b,SB b->n0<=b/\∀j,j<N->(VV j).own b=none/\∀o,(VV j).ai b o=none)
  (aZ:w'.heap.size=w.heap.size) (ik:∀b,¬SB b->w'.heap[b]?=w.heap[b]?) (ht:w'.tape=w.tape) (ho:w'.os=w.os) (hu:w'.output=w.output) (fn:UW) (pos:String):
  Core VV N w' (t++Ui i fn pos es) Sh act ic n0 W0 where
 sat j hj:=by
  have hs:=h.sat j hj;refine⟨λb o v e=> ?_,λb x e=> ?_⟩
  ·have hb:¬SB b:=λx=>(by rw[((qe b x).2 j hj).2 o]at e;cases e);have:=hs.ai b o v e;simp only[VC,ik b hb];exact this
  ·have hb:¬SB b:=λy=>(by rw[((qe b y).2 j hj).1]at e;cases e);rw[ik b hb];exact hs.own b x e
 d_:=h.d_
 ti:=by
  rw[aZ];refine h.ti.app hi (λop az=>by obtain⟨e,_,rfl⟩:=UU az;rfl) (λop az x hx=>by obtain⟨e,he,rfl⟩:=UU az;exact cq e he x hx) (λop az=>by obtain⟨e,he,rfl⟩:=UU az;exact iO e he) (Ts _) (λop az a=>by obtain⟨e,he,rfl⟩:=UU az;exact sI e he a)
   (λj l _ x=>x) (λj l _ x=>x) (λl x _=> .inl x) (λl x _=>x) (λl j hj=>h.aar l hi hj) (λl j hs=>⟨λx=>x.2.2 hs,λx=>x.2.2 hs⟩) (λj l x=>x.elim (λy=>iz.low (h.sat j y.1) y.2.1) (λy=>iz.low (h.sat j y.1) y.2.1.rd))
 tape:=ht.trans h.tape
 os:=ho.trans h.os
 out:=hu.trans h.out
 old b hb:=(ik b (λx=>by have:=(qe b x).1;omega)).trans (h.old b hb)
 jJ:=h.jJ
 n0:=by rw[aZ];exact h.n0
def Core.quiet(h:Core VV N w t Sh act ic n0 W0)(hi:i<N){es:SP}(Bu:∀e∈es,(Uw e).touch?=none/\(Uw e).low w.heap.size/\∀a,Uw e≠ .mark (.release a))(fn:UW)(pos:String):
  Core VV N w (t++Ui i fn pos es) Sh act ic n0 W0:=
 h.uQ hi (λe he x hx=>by rw[(Bu e he).1]at hx;cases hx) (λe he=>(Bu e he).2.1) (λe he=>(Bu e he).2.2) (λ_=>False) (λb x=>x.elim) rfl (λ_ _=>rfl) rfl rfl rfl fn pos
def Core.role(h:Core VV N w t Sh act ic n0 W0)(hi:i<N){V':View}(h1:V'.ai=(VV i).ai)(h2:V'.own=(VV i).own):Core (upd VV i V') N w t Sh act ic n0 W0:=
 h.less hi ⟨λb=> .inr (by rw[h2]),λb o=> .inr (by rw[h1]),λb _ o=>by rw[h1]⟩
end
inductive GS where
 |gone (q:Nat)
 |work (j:Nat) (h:Ht) (V:View)
 |oG (j:Nat) (h:Ht) (V V':View) (g0:Tj) (v z:Uf)
 |add (n:Nat)
 |load (n:Nat)
 |store (n:Nat)
 |mX (n:Nat)
 |head (k n:Nat)
 |mD (v n:Nat)
 |said (n:Nat)
 |iL (n:Nat)
 |last (n:Nat)
 |acq (n:Nat)
 |look (n:Nat)
 |close (n:Nat)
def noView:View:={ai:=λ_ _=>none,own:=λ_=>none,deaf:=0,role:=.plain}
def GS.view (Im:cG):GS->View
 |.work _ _ V=>V
 |.oG _ _ V _ _ _ _=>V
 |.head .. |.mD .. |.said _|.iL _|.last _|.acq _|.look _=>{noView with ai:=Im}
 |_=>noView
def GS.cnt:GS->Nat
 |.work .. |.oG .. |.add _=>1
 |_=>0
def GS.late:GS->Nat
 |.load _|.store _|.mX _=>1
 |_=>0
def GS.idx:GS->Option Nat
 |.work j _ _=>some j
 |.oG j _ _ _ _ _ _=>some j
 |_=>none
def GS.shape:GS->GS
 |.gone _=> .gone 0
 |.work j _ _=> .work j .z noView
 |.oG j _ _ _ _ _ _=> .work j .z noView
 |.add _=> .add 0
 |.load _=> .load 0
 |.store _=> .store 0
 |.mX _=> .mX 0
 |.head k _=> .head k 0
 |.mD v _=> .mD v 0
 |.said _=> .said 0
 |.iL _=> .iL 0
 |.last _=> .last 0
 |.acq _=> .acq 0
 |.look _=> .look 0
 |.close _=> .close 0
def GS.nT:∀K:GS,K.shape.cnt=K.cnt:=by intro K;cases K<;>rfl
def GS.mT:∀K:GS,K.shape.late=K.late:=by intro K;cases K<;>rfl
def GS.IE:∀K:GS,K.shape.idx=K.idx:=by intro K;cases K<;>rfl
def GS.nS:GS->Bool
 |.head .. |.mD .. |.said _|.iL _|.last _|.acq _|.look _|.close _=>true
 |_=>false
def GS.R_:∀K:GS,K.shape.nS=K.nS:=by intro K;cases K<;>rfl
def GS.dg:GS->AF
 |.gone q=>⟨0,.z,q⟩
 |.work _ h V=>⟨11+2* (match V.role with|.work _ _ S=>S.length|_=>0),h,0⟩
 |.oG _ h V _ _ _ _=>⟨10+2* (match V.role with|.work _ _ S=>S.length|_=>0),h,0⟩
 |.add n=>⟨8,.z,n⟩
 |.load n=>⟨7,.z,n⟩
 |.store n=>⟨6,.z,n⟩
 |.mX n=>⟨5,.z,n⟩
 |.head k n=>⟨100+3* k,.z,n⟩
 |.mD v n=>⟨102+3* v,.z,n⟩
 |.said n=>⟨60,.z,n⟩
 |.iL n=>⟨50,.z,n⟩
 |.last n=>⟨40,.z,n⟩
 |.acq n=>⟨30,.z,n⟩
 |.look n=>⟨20,.z,n⟩
 |.close n=>⟨15,.z,n⟩
section
variable (P:Tl)(c Wg:Nat)(Im:cG)(Ss:TA)
def F' (v d:Nat)(g:Tj):Prop:=d=1/\g.status=.running/\
 (∃g',(∀w,WgAt P Wg w ((v:Int)* KK) 0->stepG P false g w=.go g' (w.setCell (eE Wg) (.int .u64 ((v:Int)* KK+1))) #[jy (eE Wg),lA (eE Wg)])/\∃n,iJ P Wg (Ga P Im c Wg) n 1 g')/\
 (∀u:Nat,u<v->∃g',(∀w,WgAt P Wg w ((u:Int)* KK) 0->stepG P false g w=.go g' w #[jy (eE Wg)])/\∃n,cY P (eZ P Im c Wg v) n 1 g')
def eZ.succ{k d:Nat}{g:Tj}(h:eZ P Im c Wg (k+1) d g):d=1/\g.status=.running/\∀v:Nat,v<=k->v<=4->∃g',(∀w,WgAt P Wg w ((v:Int)* KK) 0->stepG P false g w=.go g' w #[jy (eE Wg)])/\
  (v=0->∃n,iJ P Wg (uZ P Im c Wg) n 1 g')/\(v≠0->∃n,cY P (F' P c Wg Im v) n 1 g'):=by
 rw[eZ]at h;exact h
def eZ.zero{d:Nat}{g:Tj}(h:eZ P Im c Wg 0 d g):False:=by
 rw[eZ]at h;exact h
def GS.is:GS->Nat->Tj->Prop
 |.gone q,d,g=>Z8 P q d g
 |.work j h V,d,g=>d=V.deaf/\lX P h V g/\∃S,Ss[j]?=some S/\V.role=.work c Wg S
 |.oG j h V V' g0 v z,d,g=>d=0/\V.deaf=0/\g=parked g0 #[scase c v z] .send/\lX P h V' (U9 g0 undef)/\∃sp S,∃B:Nat->Bool,Ss[j]?=some (sp::S)/\V.role=.work c Wg (sp::S)/\
   sp v V.ai (λb=>if B b then V.own b else none)/\V'={V with own:=λb=>if B b then none else V.own b,role:=.work c Wg S}
 |.add n,d,g=>cY P (CP P Wg) n d g
 |.load n,d,g=>cY P (Gc P Wg) n d g
 |.store n,d,g=>cY P (Ge P Wg) n d g
 |.mX n,d,g=>cY P (Gd P Wg) n d g
 |.head k n,d,g=>cY P (eZ P Im c Wg k) n d g
 |.mD v n,d,g=>cY P (F' P c Wg Im v) n d g
 |.said n,d,g=>iJ P Wg (Ga P Im c Wg) n d g
 |.iL n,d,g=>cY P (Gb P Im c Wg) n d g\/(n=0/\∃g1,g={g1 with status:=.blocked}/\Gb P Im c Wg d g1)
 |.last n,d,g=>cY P (J_ P Im c Wg) n d g
 |.acq n,d,g=>iJ P Wg (uZ P Im c Wg) n d g
 |.look n,d,g=>cY P (J' P Im c) n d g
 |.close n,d,g=>cY P (J9 P c) n d g
end
def cY.running{P:Tl}{Stop:S0}(hs:∀d g,Stop d g->g.status=.running):∀{n d:Nat}{g:Tj},cY P Stop n d g->g.status=.running
 |0,_,_,h=>hs _ _ h
 |_+1,_,_,h=>h.elim (hs _ _) (λx=>x.1)
def iJ.running{P:Tl}{Wg:Nat}{Stop:S0}(hs:∀d g,Stop d g->g.status=.running):∀{n d:Nat}{g:Tj},iJ P Wg Stop n d g->g.status=.running
 |0,_,_,h=>hs _ _ h
 |_+1,_,_,h=>h.elim (hs _ _) (λx=>x.1)
def abO{P:Tl}{Im:cG}{c Wg:Nat}:∀{k d:Nat}{g:Tj},eZ P Im c Wg k d g->g.status=.running
 |0,_,_,h=>(eZ.zero P c Wg Im h).elim
 |_+1,_,_,h=>(eZ.succ P c Wg Im h).2.1
def GS.runs{P:Tl}{c Wg:Nat}{Im:cG}{Ss:TA}{K:GS}{d:Nat}{g:Tj}(h:K.is P c Wg Im Ss d g):
  g.status=.running\/g.status=.finished/\(∃q,K=.gone q)\/(∃j h V V' g0 v z,K=.oG j h V V' g0 v z)\/((∃n,K=.iL n)/\g.status=.blocked/\g.offers=none):=by
 cases K with
 |gone q=>exact(ar' h).elim .inl (λx=> .inr (.inl ⟨x,q,rfl⟩))
 |work j h' V=>exact .inl h.2.1.running
 |oG j h' V V' g0 v z=>exact .inr (.inr (.inl ⟨j,h',V,V',g0,v,z,rfl⟩))
 |add n=>exact .inl (cY.running (λd g x=>x.2.1) h)
 |load n=>exact .inl (cY.running (λd g x=>x.2.1) h)
 |store n=>exact .inl (cY.running (λd g x=>x.2.1) h)
 |mX n=>exact .inl (cY.running (λd g x=>x.2.1) h)
 |head k n=>exact .inl (cY.running (λd g x=>abO x) h)
 |mD v n=>exact .inl (cY.running (λd g x=>x.2.1) h)
 |said n=>exact .inl (iJ.running (λd g x=>x.2.1) h)
 |iL n=>
  rcases h with h|⟨_,g1,rfl,h⟩
  ·exact .inl (cY.running (λd g x=>x.2.1) h)
  ·exact .inr (.inr (.inr ⟨⟨n,rfl⟩,rfl,h.2.2.1⟩))
 |last n=>exact .inl (cY.running (λd g x=>x.2.1) h)
 |acq n=>exact .inl (iJ.running (λd g x=>x.2.1) h)
 |look n=>exact .inl (cY.running (λd g x=>x.2.1) h)
 |close n=>exact .inl (cY.running (λd g x=>x.2.1) h)
structure Rel (Wg:Nat)(t:Vq)(i r:Nat):Prop where
 act:t.act? r=some (.mark (.releaseMerge (eE Wg)))
 g:t.g? r=some i
 heard:t.heard r
def Rel.app{Wg:Nat}{t u:Vq}{i r:Nat}(h:Rel Wg t i r):Rel Wg (t++u) i r:=
 have hr:=Xh h.act
 ⟨by rw[Y9 hr];exact h.act,by rw[g?_old hr];exact h.g,(Xu hr).2 h.heard⟩
inductive eO where
 |early
 |got
 |shut (p:Nat)
 deriving DecidableEq
def yn (Wg:Nat)(t:Vq)(K:Nat->GS)(ic:Nat):eO->Nat->Prop
 |.early,idx=>∃i,t.g? idx=some i/\0<i/\(((K i).idx.isSome=true)\/(i=ic)\/∃r,Rel Wg t i r/\idx<=r)
 |.got,idx=>Xq t ic idx
 |.shut p,idx=>Before t idx p
abbrev TG:=Option eO
def Rest (Wg:Nat)(t:Vq)(K:Nat->GS)(ic:Nat)(st:TG):Prop:=
 ∀idx a,touchAt t idx=some a->a.loc.isMemory=true->Xq t 0 idx\/(a.kind=.atomic/\¬t.heard idx)\/∃s,st=some s/\yn Wg t K ic s idx
abbrev SQ:=Array Tj
def Mode (P:Tl)(c Wg N:Nat)(w:Uu)(gs:SQ)(t:Vq)(K:Nat->GS)(ic:Nat)(s:eO):Prop:=
 let cn:Nat:=sumTo N λi=>(K i).cnt;let la:Nat:=sumTo N λi=>(K i).late;let opn:=∃n,w.heap[c]?=some (.chan 0 #[] false n n false)
 (opn/\s=.early/\la=0/\cn<=4/\WgAt P Wg w ((cn:Int)* KK) 0/\((∃k,(K ic).shape=.head k 0/\cn<k)\/(∃v,(K ic).shape=.mD v 0/\cn<=v/\0<v)))\/
 (opn/\s=.early/\la=0/\1<=cn/\cn<=4/\WgAt P Wg w ((cn:Int)* KK+1) 0/\((K ic).shape=.said 0\/(K ic).shape=.iL 0))\/
 (opn/\s=.early/\la=1/\cn=0/\((K ic).shape=.said 0\/(K ic).shape=.iL 0)/\(∀i,i<N->((K i).shape=.load 0\/(K i).shape=.store 0)->WgAt P Wg w 1 0)/\(∀i,i<N->(K i).shape=.mX 0->WgAt P Wg w 0 0))\/
 (opn/\s=.early/\la=0/\cn=0/\WgAt P Wg w 0 1/\(∀g,gs[ic]?=some g->g.status=.running)/\((K ic).shape=.said 0\/(K ic).shape=.iL 0))\/
 (opn/\s=.early/\la=0/\cn=0/\WgAt P Wg w 0 0/\((K ic).shape=.last 0\/(K ic).shape=.acq 0))\/
 (opn/\s=.got/\la=0/\cn=0/\((K ic).shape=.look 0\/(K ic).shape=.close 0))\/
 ((∃p n,s=.shut p/\t.act? p=some (.close c)/\t.heard p/\w.heap[c]?=some (.chan 0 #[] true n n false))/\la=0/\cn=0/\(K ic).shape=.gone 0)
def kN (gs:SQ)(g:Tj):Prop:=∃g0,gs[0]?=some g0/\g0.status=.running/\g0.frame=g.frame/\g0.callers=g.callers/\g0.dying=g.dying
def oJ (gs:SQ)(g:Tj)(c:Nat):Prop:=∃g0 z,gs[0]?=some (parked g0 #[rcase c z] (.recv true))/\g0.frame=g.frame/\g0.callers=g.callers/\g0.dying=g.dying
structure Phase where
 c:Nat
 Wg:Nat
 Ss:List (List Spec)
 recv:Bool
def bO (V:View)(Im:cG)(K:Nat->GS):Nat->View:=λi=>if i=0 then V else(K i).view Im
structure Inv (P:Tl)(n0:Nat)(W0:Uu)(V:View)(gs:Array Tj)(w:Uu)(t:Vq)(K:Nat->GS)(Im:cG)(ic:Nat)(ph:Option Phase)(st:Option eO):Prop where
 pos:0<gs.size
 k0:K 0=.gone 0
 d0:VZ t 0=V.deaf
 «is» : ∀ i g, 0 < i -> gs[i]? = some g -> match ph with
  |some p=>(K i).is P p.c p.Wg Im p.Ss (VZ t i) g
  |none=>∃q,K i=.gone q/\Z8 P q (VZ t i) g
 core:Core (bO V Im K) gs.size w t (match ph with|some p=>rR p.c p.Wg|none=>λ_=>False)
  (λi=>match ph with|some p=>if p.recv then 0<i/\i<gs.size/\((K i).idx.isSome=true\/i=ic\/(K i).cnt=1\/(K i).late=1)else i=0\/(i<gs.size/\(K i).idx.isSome=true)|none=>False) ic n0 W0
 rest:Rest (match ph with|some p=>p.Wg|none=>0) t K ic st
 phase:match ph with
  |none=>st=none
  |some p=>n0<=p.c/\n0<=p.Wg/\p.c≠p.Wg/\p.c<w.heap.size/\p.Wg<w.heap.size/\p.Ss.length<=4/\
   (∀i,0<i->((K i).view Im).own p.c=none/\(∀o,((K i).view Im).ai p.c o=none)/\((K i).view Im).own p.Wg=none/\(∀o,((K i).view Im).ai p.Wg o=none)/\((K i).nS=true->i=ic))/\
   (∀i i' j,0<i->i<gs.size->0<i'->i'<gs.size->(K i).idx=some j->(K i').idx=some j->i=i')/\
   (∀j S,p.Ss[j]?=some S->S≠[]->∃i,0<i/\i<gs.size/\(K i).idx=some j)/\
   (if p.recv then(V.own p.c=none/\(∀o,V.ai p.c o=none)/\V.own p.Wg=none/\(∀o,V.ai p.Wg o=none))/\0<ic/\ic<gs.size/\(∃s,st=some s/\Mode P p.c p.Wg gs.size w gs t K ic s)
    else V.own p.c=some (.chan 0 #[] false 0 0 false)/\ic=0/\st=some .early/\(∀i,0<i->i<gs.size->(K i).idx.isSome=true\/∃q,K i=.gone q)/\(∀S∈p.Ss,S≠[])/\(sumTo gs.size λi=>(K i).cnt)=p.Ss.length)
def Cx(K:Nat->GS)(k:GS)(φ:GS->Nat){i N:Nat}(hi:i<N):sumTo N (λa=>φ (upd K i k a))+φ (K i)=sumTo N (λa=>φ (K a))+φ k:=sumTo_upd K k φ hi
def lT(K:Nat->GS)(k:GS)(φ:GS->Nat){i N:Nat}(h:φ k=φ (K i)):sumTo N (λa=>φ (upd K i k a))=sumTo N (λa=>φ (K a)):=
 Wz λa _=>by by_cases ha:a=i;subst ha;rw[bG,h];rw[br _ _ ha]
def Core.De{VV:Nat->View}{N:Nat}{w:Uu}{t:Vq}{Sh:Loc->Prop}{act act':S7}{ic n0:Nat}{W0:Uu}(h:Core VV N w t Sh act ic n0 W0)(ha:∀i,act' i->act i):Core VV N w t Sh act' ic n0 W0:=
 ⟨h.sat,h.d_,h.ti.weaken (Ts _) (λ_ _ _ x=> .inl x) (λ_ _ _ x=>x) (λidx a x y=>⟨λhp i hi=>(h.ti.sp idx a x y).1 hp i (ha i hi),(h.ti.sp idx a x y).2⟩),h.tape,h.os,h.out,h.old,h.jJ,h.n0⟩
def Core.congr{VV Gv:Nat->View}{N:Nat}{w:Uu}{t:Vq}{Sh:Loc->Prop}{act:S7}{ic n0:Nat}{W0:Uu}(h:Core VV N w t Sh act ic n0 W0)(e:∀i,i<N->Gv i=VV i):Core Gv N w t Sh act ic n0 W0:=
 ⟨λi hi=>by rw[e i hi];exact h.sat i hi,λi j hi hj kH=>by rw[e i hi,e j hj];exact h.d_ i j hi hj kH,
  h.ti.weaken (Ts _) (λi l hi ⟨x,y,z⟩=> .inl ⟨x,by rw[<- e i hi];exact y,z⟩) (λi l hi ⟨x,y,z⟩=>⟨x,by rw[<- e i hi];exact y,z⟩) h.ti.sp,h.tape,h.os,h.out,h.old,λi hi b hb=>by rw[e i hi];exact h.jJ i hi b hb,h.n0⟩
def Qy(V:View)(Im:cG)(K:Nat->GS){i:Nat}(hi:0<i)(k:GS):bO V Im (upd K i k)=upd (bO V Im K) i (k.view Im):=by
 funext j;by_cases hj:j=i
 ·subst hj;rw[bG];simp[bO,bG];omega
 ·rw[br _ _ hj];simp[bO,br _ _ hj]
def acQ{P:Tl}{c Wg:Nat}{Im:cG}{Ss:TA}{k:GS}{d:Nat}{x g g':Tj}{w':Uu}(ho:(∃n,w'.heap[c]?=some (.chan 0 #[] false n n false))\/k.idx=none) (h:k.is P c Wg Im Ss d x):
  k.is P c Wg Im Ss d (woken P g g' w' x):=by
 rcases GS.runs h with hr|⟨hf,q,rfl⟩|⟨j,h',V,V',g0,v,z,rfl⟩|⟨⟨n,rfl⟩,hb,hof⟩
 ·rw[Zl hr];exact h
 ·rw[woken_quitsD h];exact h
 ·rcases ho with⟨n,ho⟩|ho
  ·obtain⟨h1,h2,rfl,h4⟩:=h;rw[woken_send_open _ _ ho];exact⟨h1,h2,rfl,h4⟩
  ·cases ho
 ·rcases h with h|⟨hn,g1,rfl,h⟩
  ·rw[cY.running (λd g x=>x.2.1) h]at hb;cases hb
  ·unfold woken;split
   ·subst hn;refine .inl ?_;have e:({g1 with status:=ax'}:Tj).again w'=g1:=by
     obtain⟨f,cs,s,dy,o⟩:=g1;have h2:=h.2.1;have h3:=h.2.2.1;simp only at h2 h3;subst h2 h3;rfl
    rw[e];exact h
   ·exact .inr ⟨hn,g1,rfl,h⟩
def O5{P:Tl}{gs:SQ}{g:Tj}{w':Uu}{i:Nat}{gi bL:Tj}(hi:0<i)(h:kN gs g):kN ((gs.map (woken P gi bL w')).setIfInBounds i bL) g:=by
 obtain⟨g0,h0,h1,h2⟩:=h;exact⟨g0,by rw[T6 (by omega),XE,h0];simp[Zl h1],h1,h2⟩
def Pt{P:Tl}{gs:SQ}{g:Tj}{w':Uu}{i c:Nat}{gi bL:Tj}(hi:0<i)(h:oJ gs g c)(ho:∃n,w'.heap[c]?=some (.chan 0 #[] false n n false)):oJ ((gs.map (woken P gi bL w')).setIfInBounds i bL) g c:=by
 obtain⟨g0,z,h0,h2⟩:=h;obtain⟨n,ho⟩:=ho;exact⟨g0,z,by rw[T6 (by omega),XE,h0];simp[woken_recv_open _ _ ho],h2⟩
def aq3{P:Tl}{gs:SQ}{g:Tj}{w':Uu}{i c:Nat}{gi bL:Tj}(hi:0<i)(h:oJ gs g c)(hw:mayWake P gi=true)(hs:bL.status=.running\/bL.status=.finished)(ho:∃n,w'.heap[c]?=some (.chan 0 #[] true n n false)):
  kN ((gs.map (woken P gi bL w')).setIfInBounds i bL) g:=by
 obtain⟨g0,z,h0,h2⟩:=h;obtain⟨n,ho⟩:=ho;refine⟨{parked g0 #[rcase c z] (.recv true)with status:=.running},?_,rfl,h2⟩;rw[T6 (by omega),XE,h0];have:woken P gi bL w' (parked g0 #[rcase c z] (.recv true))={parked g0 #[rcase c z] (.recv true)with status:=.running}:=by
  unfold woken;have hc:(mayWake P gi&&bL.status != .blocked&&bL.status != .waiting)=true:=by rcases hs with hs|hs<;>simp[hw,hs]
  rw[if_pos hc,again_recv_closed ho]
 simp[this]
def AD (w:Uu)(c:Nat):Prop:=∃n,w.heap[c]?=some (.chan 0 #[] false n n false)
def Km (gs gs':SQ)(w w':Uu)(g:Tj)(c:Nat):Prop:=(kN gs g->kN gs' g)/\(oJ gs g c->AD w c->kN gs' g\/(oJ gs' g c/\AD w' c))
def Calm (gs:SQ):Prop:=∀i x,0<i->gs[i]?=some x->x.status=.blocked->x.offers=none
def flag (gs:SQ)(ic:Nat):Nat:=if(gs[ic]?).any (·.status== .running)then 1 else 0
def jv (p:Phase)(N ic:Nat)(K:Nat->GS)(i:Nat):Prop:=if p.recv then 0<i/\i<N/\((K i).idx.isSome=true\/i=ic\/(K i).cnt=1\/(K i).late=1)else i=0\/(i<N/\(K i).idx.isSome=true)
section
abbrev TB:=Option Phase
variable {P:Tl}{n0:Nat}{W0:Uu}{V:View}{gs:SQ}{w:Uu}{t:Vq}{K:Nat->GS}{Im:cG}{ic:Nat}{ph:TB}{st:TG}
structure g_ (P:Tl)(n0:Nat)(W0:Uu)(V:View)(gs:Array Tj)(w:Uu)(sl:Option (Nat×Nat))(t:Vq)(K:Nat->GS)(Im:cG)(ic:Nat)(ph:Option Phase)(st:Option eO)(i:Nat):Prop where
 intro::
 aw1:∃gs' w' ops K' st',runT P (crowd gs w sl) i=(.next (crowd gs' w' sl),ops)/\gs'.size=gs.size/\Inv P n0 W0 V gs' w' (t++ops) K' Im ic ph st'/\(∀g c,(∀p,ph=some p->p.c=c)->Km gs gs' w w' g c)/\(∀g c,oJ gs g c->Calm gs->Calm gs')/\
  C0 gs.size ((λj=>(K' j).dg),flag gs' ic) ((λj=>(K j).dg),flag gs ic)
def getElem?_next{gi bL:Tj}{w':Uu}{i j:Nat}{x:Tj}(hlt:i<gs.size)(h:((gs.map (woken P gi bL w')).setIfInBounds i bL)[j]?=some x):(j=i/\x=bL)\/(j≠i/\∃y,gs[j]?=some y/\x=woken P gi bL w' y):=by
 by_cases cE:j=i
 ·subst cE;rw[Ug (by simpa using hlt)]at h;exact .inl ⟨rfl,(WV h).symm⟩
 ·rw[T6 (Ne.symm cE),XE]at h;obtain⟨y,hy,rfl⟩:=Uv.1 h;exact .inr ⟨cE,y,hy,rfl⟩
def Rest.app{Wg:Nat}{t u:Vq}{K K':Nat->GS}{ic:Nat}{s s':eO}(h:Rest Wg t K ic (some s))(hold:∀idx a,touchAt t idx=some a->yn Wg t K ic s idx->Xq (t++u) 0 idx\/yn Wg (t++u) K' ic s' idx)
  (xI:∀idx a,t.size<=idx->(∃op∈u,(t++u)[idx]?=some op/\op.act.touch?=some a)->a.loc.isMemory=true->Xq (t++u) 0 idx\/(a.kind=.atomic/\¬(t++u).heard idx)\/yn Wg (t++u) K' ic s' idx):Rest Wg (t++u) K' ic (some s'):=by
 intro idx a ha hm;rcases CA ha with gL|⟨hi,hx⟩
 ·obtain⟨op,az,_⟩:=Wb gL;rcases h idx a gL hm with x|⟨x,y⟩|⟨s1,ep,x⟩
  ·exact .inl (x.app u)
  ·exact .inr (.inl ⟨x,λz=>y ((Xu (UQ az)).1 z)⟩)
  ·cases ep;exact(hold idx a gL x).imp id λy=> .inr ⟨s',rfl,y⟩
 ·exact(xI idx a hi hx hm).imp id (λy=>y.imp id λz=>⟨s',rfl,z⟩)
def yn.app{Wg:Nat}{t u:Vq}{K K':Nat->GS}{ic idx:Nat}{s:eO}(de:idx<t.size)(h:yn Wg t K ic s idx)(hK:∀i,t.g? idx=some i->0<i->(K i).idx.isSome=true->(K' i).idx.isSome=true\/∃r,Rel Wg (t++u) i r/\idx<=r):yn Wg (t++u) K' ic s idx:=by
 cases s with
 |early=>
  obtain⟨i,hg,h0,hx⟩:=h;refine⟨i,by rw[g?_old de];exact hg,h0,?_⟩;rcases hx with x|x|⟨r,x,y⟩
  ·exact(hK i hg h0 x).imp id .inr
  ·exact .inr (.inl x)
  ·exact .inr (.inr ⟨r,x.app,y⟩)
 |got=>exact Knows.app u h
 |shut p=>exact Before.app u h
end
def te (ph:TB):Loc->Prop:=match ph with|some p=>rR p.c p.Wg|none=>λ_=>False
def nN (ph:TB)(N ic:Nat)(K:Nat->GS):Nat->Prop:=λi=>match ph with|some p=>jv p N ic K i|none=>False
def CE (ph:TB):Nat:=match ph with|some p=>p.Wg|none=>0
section
variable {P:Tl}{n0:Nat}{W0:Uu}{V:View}{gs:SQ}{w w':Uu}{sl:S6}{t:Vq}{K:Nat->GS}{Im:cG}{ic:Nat}{ph:TB}{st st':TG}
def AE (P:Tl)(n0:Nat)(V:View)(gs:SQ)(w:Uu)(t:Vq)(K:Nat->GS)(Im:cG)(ic:Nat)(ph:TB)(st:TG):Prop:=match ph with
  |none=>st=none
  |some p=>n0<=p.c/\n0<=p.Wg/\p.c≠p.Wg/\p.c<w.heap.size/\p.Wg<w.heap.size/\p.Ss.length<=4/\
   (∀i,0<i->((K i).view Im).own p.c=none/\(∀o,((K i).view Im).ai p.c o=none)/\((K i).view Im).own p.Wg=none/\(∀o,((K i).view Im).ai p.Wg o=none)/\((K i).nS=true->i=ic))/\
   (∀i i' j,0<i->i<gs.size->0<i'->i'<gs.size->(K i).idx=some j->(K i').idx=some j->i=i')/\
   (∀j S,p.Ss[j]?=some S->S≠[]->∃i,0<i/\i<gs.size/\(K i).idx=some j)/\
   (if p.recv then(V.own p.c=none/\(∀o,V.ai p.c o=none)/\V.own p.Wg=none/\(∀o,V.ai p.Wg o=none))/\0<ic/\ic<gs.size/\(∃s,st=some s/\Mode P p.c p.Wg gs.size w gs t K ic s)
    else V.own p.c=some (.chan 0 #[] false 0 0 false)/\ic=0/\st=some .early/\(∀i,0<i->i<gs.size->(K i).idx.isSome=true\/∃q,K i=.gone q)/\(∀S∈p.Ss,S≠[])/\(sumTo gs.size λi=>(K i).cnt)=p.Ss.length)
def CS (P:Tl)(Im:cG)(ph:TB)(k:GS)(d:Nat)(g:Tj):Prop:=match ph with
  |some p=>k.is P p.c p.Wg Im p.Ss d g
  |none=>∃q,k=.gone q/\Z8 P q d g
def Inv.mk'(pos:0<gs.size)(k0:K 0=.gone 0)(d0:VZ t 0=V.deaf)(dx:∀i g,0<i->gs[i]?=some g->CS P Im ph (K i) (VZ t i) g)
  (hc:Core (bO V Im K) gs.size w t (te ph) (nN ph gs.size ic K) ic n0 W0) (hr:Rest (CE ph) t K ic st) (hp:AE P n0 V gs w t K Im ic ph st):Inv P n0 W0 V gs w t K Im ic ph st:=by
 cases ph with
 |none=>exact⟨pos,k0,d0,dx,hc,hr,hp⟩
 |some p=>exact⟨pos,k0,d0,dx,hc,hr,hp⟩
def Inv.out(h:Inv P n0 W0 V gs w t K Im ic ph st):(∀i g,0<i->gs[i]?=some g->CS P Im ph (K i) (VZ t i) g)/\Core (bO V Im K) gs.size w t (te ph) (nN ph gs.size ic K) ic n0 W0/\Rest (CE ph) t K ic st/\AE P n0 V gs w t K Im ic ph st:=by
 cases ph with
 |none=>exact⟨h.is,h.core,h.rest,h.phase⟩
 |some p=>exact⟨h.is,h.core,h.rest,h.phase⟩
def aiI{y:Tj}(hy:y.status=.blocked->y.offers=none):(y.again w').status=.blocked->(y.again w').offers=none:=by
 obtain⟨f,cs,s,d,o⟩:=y;unfold ZX;cases s<;>cases o<;>simp_all
def aiJ{g g' y:Tj}(hy:y.status=.blocked->y.offers=none)(hb:(woken P g g' w' y).status=.blocked):(woken P g g' w' y).offers=none:=by
 unfold woken at hb⊢;split
 ·rename_i hh;rw[if_pos hh]at hb;exact aiI hy hb
 ·rename_i hh;rw[if_neg hh]at hb;exact hy hb
def Inv.adD(h:Inv P n0 W0 V gs w t K Im ic ph st){i:Nat}{gi bL:Tj}{es:SP}{k':GS}(hi:0<i)(aQ:gs[i]?=some gi)(aP:stepG P false gi w=.go bL w' es)
  (hk:CS P Im ph k' (deafBehind (VZ t i) es) bL) (uf:bL.status=.blocked->bL.offers=none) (im:∀p,ph=some p->(∃n,w'.heap[p.c]?=some (.chan 0 #[] false n n false))\/(∀j,0<j->j<gs.size->j≠i->(K j).idx=none))
  (zi:Core (bO V Im (upd K i k')) gs.size w' (t++Ui i gi.frame.fn gi.frame.place es) (te ph) (nN ph gs.size ic (upd K i k')) ic n0 W0)
  (mc:Rest (CE ph) (t++Ui i gi.frame.fn gi.frame.place es) (upd K i k') ic st')
  (ED:AE P n0 V ((gs.map (woken P gi bL w')).setIfInBounds i bL) w' (t++Ui i gi.frame.fn gi.frame.place es) (upd K i k') Im ic ph st')
  (jW:C0 gs.size ((λj=>(upd K i k' j).dg),flag ((gs.map (woken P gi bL w')).setIfInBounds i bL) ic) ((λj=>(K j).dg),flag gs ic))
  (p8:∀g c,(∀p,ph=some p->p.c=c)->Km gs ((gs.map (woken P gi bL w')).setIfInBounds i bL) w w' g c):g_ P n0 W0 V gs w sl t K Im ic ph st i:=by
 have hlt:i<gs.size:=(T5.1 aQ).1;have eU:(i==0)=false:=by simp;omega
 have aZ:((gs.map (woken P gi bL w')).setIfInBounds i bL).size=gs.size:=by simp
 have EP:∀op∈Ui i gi.frame.fn gi.frame.place es,op.g=i:=λop az=>by obtain⟨e,_,rfl⟩:=UU az;rfl
 refine⟨_,w',_,upd K i k',st',runT_crowd_go (P:=P) (sl:=sl) aQ (by rw[eU];exact aP),aZ,?_,p8,?_,jW⟩
 rotate_left
 ·intro g c _ hc j x hj hx hb;rcases getElem?_next hlt hx with⟨_,rfl⟩|⟨_,y,hy,rfl⟩
  ·exact uf hb
  ·exact aiJ (hc j y hj hy) hb
 refine Inv.mk' (by rw[aZ];exact h.pos) (by rw[br _ _ (by omega)];exact h.k0) ?_ (λj x hj hx=> ?_) (by rw[aZ];exact zi) mc ED
 ·rw[ayb t (g:=0) (g':=i) (by omega) _ EP];exact h.d0
 ·rcases getElem?_next hlt hx with⟨rfl,rfl⟩|⟨cE,y,hy,rfl⟩
  ·rw[bG,Deaf_own];exact hk
  ·rw[br _ _ cE,ayb t (g:=j) (g':=i) (Ne.symm cE) _ EP];have EX:=h.out.1 j y hj hy;have Ni:j<gs.size:=(T5.1 hy).1;cases ph with
   |none=>
    obtain⟨q,hq,mP⟩:=EX;exact⟨q,hq,by rw[woken_quitsD mP];exact mP⟩
   |some p=>
    refine acQ ?_ EX;rcases im p rfl with x|x
    ·exact .inl x
    ·exact .inr (x j hj Ni cE)
def Inv.next(h:Inv P n0 W0 V gs w t K Im ic ph st){i:Nat}{gi bL:Tj}{es:SP}{k':GS}(hi:0<i)(aQ:gs[i]?=some gi)(aP:stepG P false gi w=.go bL w' es)
  (hk:CS P Im ph k' (deafBehind (VZ t i) es) bL) (uf:bL.status=.blocked->bL.offers=none) (im:∀p,ph=some p->(∃n,w'.heap[p.c]?=some (.chan 0 #[] false n n false))\/(∀j,0<j->j<gs.size->j≠i->(K j).idx=none))
  (zi:Core (bO V Im (upd K i k')) gs.size w' (t++Ui i gi.frame.fn gi.frame.place es) (te ph) (nN ph gs.size ic (upd K i k')) ic n0 W0)
  (mc:Rest (CE ph) (t++Ui i gi.frame.fn gi.frame.place es) (upd K i k') ic st')
  (ED:AE P n0 V ((gs.map (woken P gi bL w')).setIfInBounds i bL) w' (t++Ui i gi.frame.fn gi.frame.place es) (upd K i k') Im ic ph st')
  (vY:rP k'.dg (K i).dg)
  (p8:∀g c,(∀p,ph=some p->p.c=c)->Km gs ((gs.map (woken P gi bL w')).setIfInBounds i bL) w w' g c):g_ P n0 W0 V gs w sl t K Im ic ph st i:=
 h.adD hi aQ aP hk uf im zi mc ED (.inl ⟨i,(T5.1 aQ).1,by simpa only[bG]using vY,λj hj=>by show (upd K i k' j).dg=(K j).dg;rw[br _ _ hj]⟩) p8
def aqg{B:Nat}{e:XH}(h:e.mute=true):(Uw e).touch?=none/\(Uw e).low B/\∀a,Uw e≠ .mark (.release a):=by
 refine⟨aw8 h,low_mute h B,λa=> ?_⟩;obtain⟨l,wr,sy⟩:=e;cases l with
 |mark m=>cases m<;>cases wr<;>cases sy<;>simp_all[Uw,XG]
 |_=>simp[XG]at h
def Mode.keep{c Wg N:Nat}{gs':SQ}{u:Vq}{K':Nat->GS}{s:eO}(h:Mode P c Wg N w gs t K ic s)(hs:∀j,(K' j).shape=(K j).shape)(hc:w'.heap[c]?=w.heap[c]?)(hW:w'.heap[Wg]?=w.heap[Wg]?)
  (hr:(∀g,gs[ic]?=some g->g.status=.running)->∀g,gs'[ic]?=some g->g.status=.running):Mode P c Wg N w' gs' (t++u) K' ic s:=by
 have e1:sumTo N (λi=>(K' i).cnt)=sumTo N λi=>(K i).cnt:=Wz λi _=>by rw[<- GS.nT,hs i,GS.nT]
 have e2:sumTo N (λi=>(K' i).late)=sumTo N λi=>(K i).late:=Wz λi _=>by rw[<- GS.mT,hs i,GS.mT]
 have e3:∀st sm,WgAt P Wg w' st sm=WgAt P Wg w st sm:=λst sm=>by unfold WgAt;rw[hW]
 unfold Mode at h⊢;simp only[e1,e2,e3,hs,hc];rcases h with h|h|h|h|h|h|h
 ·exact .inl h
 ·exact .inr (.inl h)
 ·exact .inr (.inr (.inl h))
 ·exact .inr (.inr (.inr (.inl ⟨h.1,h.2.1,h.2.2.1,h.2.2.2.1,h.2.2.2.2.1,hr h.2.2.2.2.2.1,h.2.2.2.2.2.2⟩)))
 ·exact .inr (.inr (.inr (.inr (.inl h))))
 ·exact .inr (.inr (.inr (.inr (.inr (.inl h)))))
 ·obtain⟨⟨p,n,a,b,c',d⟩,e⟩:=h;exact .inr (.inr (.inr (.inr (.inr (.inr ⟨⟨p,n,a,by rw[Y9 (Xh b)];exact b,(Xu (Xh b)).2 c',d⟩,e⟩)))))
def aew{i:Nat}{gi bL:Tj}(hlt:i<gs.size)(hg:bL.status=.running)(h:∀g,gs[ic]?=some g->g.status=.running):∀g,((gs.map (woken P gi bL w')).setIfInBounds i bL)[ic]?=some g->g.status=.running:=by
 intro g MZ;rcases getElem?_next hlt MZ with⟨_,rfl⟩|⟨_,y,hy,rfl⟩
 ·exact hg
 ·rw[Zl (h y hy)];exact h y hy
def GS.acL{k:GS}(h:k.cnt=0):k.idx=none:=by
 cases k<;>first|rfl|(simp[GS.cnt]at h)
def Inv.opens(h:Inv P n0 W0 V gs w t K Im ic ph st){p:Phase}(hp:ph=some p):(∃n,w.heap[p.c]?=some (.chan 0 #[] false n n false))\/((∀j,0<j->j<gs.size->(K j).idx=none)/\(∃n,w.heap[p.c]?=some (.chan 0 #[] true n n false))/\p.recv=true):=by
 subst hp;obtain⟨_,hc,_,io⟩:=h.out;obtain⟨_,_,_,_,_,_,_,_,_,hx⟩:=io;by_cases hr:p.recv=true
 ·rw[if_pos hr]at hx;obtain⟨_,_,_,s,_,hm⟩:=hx;rcases hm with h|h|h|h|h|h|h
  ·exact .inl h.1
  ·exact .inl h.1
  ·exact .inl h.1
  ·exact .inl h.1
  ·exact .inl h.1
  ·exact .inl h.1
  ·obtain⟨⟨_,n,_,_,_,hn⟩,_,gz,_⟩:=h;refine .inr ⟨λj hj gR=> ?_,⟨n,hn⟩,hr⟩;have hle:(K j).cnt<=sumTo gs.size λi=>(K i).cnt:=XD (f:=λi=>(K i).cnt) gR;exact GS.acL (by omega)
 ·rw[if_neg hr]at hx;have:=(hc.sat 0 h.pos).own p.c _ (by simp only[bO,if_true];exact hx.1);exact .inl ⟨0,this⟩
def Inv.slip(h:Inv P n0 W0 V gs w t K Im ic ph st){i:Nat}{gi bL:Tj}{es:SP}{k':GS}(hi:0<i)(aQ:gs[i]?=some gi)(aP:stepG P false gi w=.go bL w es)(jW:∀e∈es,e.mute=true)
  (hk:CS P Im ph k' (deafBehind (VZ t i) es) bL) (uf:bL.status=.blocked->bL.offers=none) (dP:k'.shape=(K i).shape) (mO:k'.view Im=(K i).view Im) (bQ:(K i).shape=.iL 0\/(K i).shape=.said 0->bL.status=.running) (vY:rP k'.dg (K i).dg):g_ P n0 W0 V gs w sl t K Im ic ph st i:=by
 have hlt:i<gs.size:=(T5.1 aQ).1;obtain⟨_,hc,hr,hp⟩:=h.out;have de:∀j,((upd K i k') j).idx=(K j).idx:=λj=>by
  by_cases hj:j=i
  ·subst hj;rw[bG,<- GS.IE,dP,GS.IE]
  ·rw[br _ _ hj]
 have me:∀j,((upd K i k') j).shape=(K j).shape:=λj=>by
  by_cases hj:j=i
  ·subst hj;rw[bG,dP]
  ·rw[br _ _ hj]
 have acH:∀j,((upd K i k') j).view Im=(K j).view Im:=λj=>by
  by_cases hj:j=i
  ·subst hj;rw[bG,mO]
  ·rw[br _ _ hj]
 have pU:∀j,((upd K i k') j).cnt=(K j).cnt:=λj=>by rw[<- GS.nT,me,GS.nT]
 have xF:∀j,((upd K i k') j).late=(K j).late:=λj=>by rw[<- GS.mT,me,GS.mT]
 refine h.next (st':=st) hi aQ aP hk uf (λp BH=>(h.opens BH).imp id λx j a b _=>x.1 j a b) ?_ ?_ ?_ vY ?_
 ·refine((hc.quiet hlt (λe he=>aqg (jW e he)) gi.frame.fn gi.frame.place).congr λj hj=> ?_).De λj hj=> ?_
  ·simp only[bO,acH]
  ·cases ph with
   |none=>exact hj
   |some p=>simpa only[nN,jv,de,pU,xF]using hj
 ·cases st with
  |none=>
   intro idx a ha hm;have gL:=CB (λop az=>by obtain⟨e,he,rfl⟩:=UU az;exact aw8 (jW e he)) ha;obtain⟨op,az,_⟩:=Wb gL;rcases hr idx a gL hm with x|⟨x,y⟩|⟨_,z,_⟩
   ·exact .inl (x.app _)
   ·exact .inr (.inl ⟨x,λz=>y ((Xu (UQ az)).1 z)⟩)
   ·cases z
  |some s=>
   refine hr.app (λidx a ha hx=> .inr (hx.app (by obtain⟨op,az,_⟩:=Wb ha;exact UQ az) λj _ _ hj=> .inl (by rw[de];exact hj))) (λidx a _ ⟨op,az,_,hx⟩ _=> ?_);obtain⟨e,he,rfl⟩:=UU az;rw[aw8 (jW e he)]at hx;cases hx
 ·cases ph with
  |none=>exact hp
  |some p=>
   obtain⟨a1,a2,a3,a4,a5,a6,a7,a8,a9,b_⟩:=hp;refine⟨a1,a2,a3,a4,a5,a6,λj hj=>by rw[acH,<- GS.R_,me,GS.R_];exact a7 j hj,λj j' m b1 b2 b3 b4 b5 b6=>a8 j j' m b1 (by simpa using b2) b3 (by simpa using b4) (by rw[<- de];exact b5) (by rw[<- de];exact b6),λj S b1 b2=> ?_,?_⟩
   ·obtain⟨m,c1,c2,c3⟩:=a9 j S b1 b2;exact⟨m,c1,by simpa using c2,by rw[de];exact c3⟩
   ·split
    ·rename_i aN;rw[if_pos aN]at b_;obtain⟨c1,c2,c3,s,c4,c5⟩:=b_;refine⟨c1,c2,by simpa using c3,s,c4,?_⟩;have aZ:((gs.map (woken P gi bL w)).setIfInBounds i bL).size=gs.size:=(by simp);rw[aZ];by_cases gB:i=ic/\bL.status≠ .running
     ·
      obtain⟨rfl,sI⟩:=gB;unfold Mode at c5⊢;have e1:sumTo gs.size (λj=>((upd K i k') j).cnt)=sumTo gs.size λj=>(K j).cnt:=Wz λj _=>pU j;have e2:sumTo gs.size (λj=>((upd K i k') j).late)=sumTo gs.size λj=>(K j).late:=Wz λj _=>xF j;simp only[e1,e2,me];rcases c5 with h|h|h|h|h|h|h
      ·exact .inl h
      ·exact .inr (.inl h)
      ·exact .inr (.inr (.inl h))
      ·exact absurd (bQ h.2.2.2.2.2.2.symm) sI
      ·exact .inr (.inr (.inr (.inr (.inl h))))
      ·exact .inr (.inr (.inr (.inr (.inr (.inl h)))))
      ·obtain⟨⟨p,n,a,b,c',d⟩,e⟩:=h;exact .inr (.inr (.inr (.inr (.inr (.inr ⟨⟨p,n,a,by rw[Y9 (Xh b)];exact b,(Xu (Xh b)).2 c',d⟩,e⟩)))))
     ·refine c5.keep me rfl rfl λsK g hg=> ?_;rcases getElem?_next hlt hg with⟨rfl,rfl⟩|⟨_,y,hy,rfl⟩
      ·exact Uz λx=>gB ⟨rfl,x⟩
      ·rw[Zl (sK y hy)];exact sK y hy
    ·rename_i aN;rw[if_neg aN]at b_;refine⟨b_.1,b_.2.1,b_.2.2.1,λj b1 b2=> ?_,b_.2.2.2.2.1,?_⟩
     rotate_left
     ·rw[show ((gs.map (woken P gi bL w)).setIfInBounds i bL).size=gs.size by simp,Wz λj _=>pU j];exact b_.2.2.2.2.2
     rcases b_.2.2.2.1 j b1 (by simpa using b2)with x|⟨q,x⟩
     ·exact .inl (by rw[de];exact x)
     ·by_cases hj:j=i
      ·subst hj;rw[bG];rw[x]at dP;cases k'<;>simp[GS.shape]at dP;exact .inr ⟨_,rfl⟩
      ·rw[br _ _ hj];exact .inr ⟨q,x⟩
 ·intro g c _;exact⟨O5 hi,λjE ho=> .inr ⟨Pt hi jE ho,ho⟩⟩
end
section
variable {P:Tl}{n0:Nat}{W0:Uu}{V:View}{gs:SQ}{w w':Uu}{sl:S6}{t:Vq}{K:Nat->GS}{Im:cG}{ic:Nat}{p:Phase}{st st':TG}
def jN (p:Phase)(U:View):Prop:=U.own p.c=none/\(∀o,U.ai p.c o=none)/\U.own p.Wg=none/\(∀o,U.ai p.Wg o=none)
def jN.step{U U':View}{es:SP}(b:jN p U)(s:du U w U' w' es)(hc:p.c<w.heap.size)(hW:p.Wg<w.heap.size):jN p U':=by
 have key:∀b,b<w.heap.size->U.own b=none->(∀o,U.ai b o=none)->U'.own b=none/\∀o,U'.ai b o=none:=by
  intro b hb ho hi;refine⟨s.own b hb ho,λo=> ?_⟩;cases e:U'.ai b o with
  |none=>rfl
  |some v=>
   rcases s.kZ b o v e with x|x|x
   ·rw[hi o]at x;cases x
   ·exact absurd ho x
   ·omega
 have k1:=key p.c hc b.1 b.2.1;have k2:=key p.Wg hW b.2.2.1 b.2.2.2;exact⟨k1.1,k1.2,k2.1,k2.2⟩
def jN.B9{U:View}(b:jN p U){l:Loc}(h:iz U l):¬rR p.c p.Wg l:=by
 intro hs;cases l with
 |cell a=>
  have e:a.block=p.Wg:=hs;rcases h with h|h
  ·exact h (by rw[e];exact b.2.2.1)
  ·exact h (by rw[e];exact b.2.2.2 _)
 |obj r=>have e:r=p.c:=hs;exact h (by rw[e];exact b.1)
 |_=>exact hs
def jN.ghost{U U':View}(b:jN p U)(g:ey U U'):jN p U':=by
 have key:∀b,U.own b=none->(∀o,U.ai b o=none)->U'.own b=none/\∀o,U'.ai b o=none:=by
  intro b ho hi;refine⟨g.own b ho,λo=> ?_⟩;cases e:U'.ai b o with
  |none=>rfl
  |some v=>
   rcases g.kZ b o v e with x|x
   ·rw[hi o]at x;cases x
   ·exact absurd ho x
 have k1:=key p.c b.1 b.2.1;have k2:=key p.Wg b.2.2.1 b.2.2.2;exact⟨k1.1,k1.2,k2.1,k2.2⟩
def aip:jN p noView:=⟨rfl,λ_=>rfl,rfl,λ_=>rfl⟩
def Inv.blind(h:Inv P n0 W0 V gs w t K Im ic (some p) st){i:Nat}(hi:0<i):jN p ((K i).view Im):=let x:=h.phase.2.2.2.2.2.2.1 i hi;⟨x.1,x.2.1,x.2.2.1,x.2.2.2.1⟩
def Inv.tn(h:Inv P n0 W0 V gs w t K Im ic (some p) st){i:Nat}(hi:0<i)(hc:(K i).nS=true):i=ic:=(h.phase.2.2.2.2.2.2.1 i hi).2.2.2.2 hc
def Inv.low(h:Inv P n0 W0 V gs w t K Im ic (some p) st):p.c<w.heap.size/\p.Wg<w.heap.size:=⟨h.phase.2.2.2.1,h.phase.2.2.2.2.1⟩
def aeV(hc:p.c<w.heap.size)(hW:p.Wg<w.heap.size){l:Loc}(h:rR p.c p.Wg l):l.low w.heap.size:=by
 cases l with
 |cell a=>show a.block<_;rw[show a.block=p.Wg from h];exact hW
 |obj r=>show r<_;rw[show r=p.c from h];exact hc
 |_=>exact h.elim
def Inv.aiY(h:Inv P n0 W0 V gs w t K Im ic (some p) st)(hr:p.recv=true){i:Nat}(hlt:i<gs.size)(hk:(K i).cnt=1):∃s,WgAt P p.Wg w s 0:=by
 obtain⟨_,_,_,_,_,_,_,_,_,hx⟩:=h.phase;rw[if_pos hr]at hx;obtain⟨_,_,_,s,hs,hm⟩:=hx;have hle:(K i).cnt<=sumTo gs.size λi=>(K i).cnt:=XD (f:=λi=>(K i).cnt) hlt;rcases hm with h|h|h|h|h|h|h
 ·exact⟨_,h.2.2.2.2.1⟩
 ·exact⟨_,h.2.2.2.2.2.1⟩
 ·have:=h.2.2.2.1;omega
 ·have:=h.2.2.2.1;omega
 ·have:=h.2.2.2.1;omega
 ·have:=h.2.2.2.1;omega
 ·have:=h.2.2.1;omega
def Inv.Q_(h:Inv P n0 W0 V gs w t K Im ic (some p) st)(hr:p.recv=true){n:Nat}(hk:K ic=.acq n\/K ic=.said n):∃x y,WgAt P p.Wg w x y:=by
 obtain⟨_,_,_,_,_,_,_,_,_,hx⟩:=h.phase;rw[if_pos hr]at hx;obtain⟨_,_,_,s,hs,hm⟩:=hx;unfold Mode at hm;rcases hm with h|h|h|h|h|h|h
 ·exact⟨_,_,h.2.2.2.2.1⟩
 ·exact⟨_,_,h.2.2.2.2.2.1⟩
 ·have key:∀N,0<(sumTo N λi=>(K i).late)->∃i,i<N/\(K i).late≠0:=by
   intro N;induction N with
   |zero=>intro h;exact absurd h (by simp[sumTo])
   |succ N ih=>
    intro h;by_cases h0:(K N).late=0
    ·simp only[sumTo,h0]at h;obtain⟨i,hi,hl⟩:=ih (by omega);exact⟨i,by omega,hl⟩
    ·exact⟨N,by omega,h0⟩
  have:=key gs.size (by have:=h.2.2.1;omega);obtain⟨i,hi,hl⟩:=this;cases lB:K i<;>rw[lB]at hl<;>first
   |exact⟨_,_,h.2.2.2.2.2.1 i hi (by rw[lB];exact .inl rfl)⟩
   |exact⟨_,_,h.2.2.2.2.2.1 i hi (by rw[lB];exact .inr rfl)⟩
   |exact⟨_,_,h.2.2.2.2.2.2 i hi (by rw[lB];rfl)⟩
   |exact absurd rfl hl
 ·exact⟨_,_,h.2.2.2.2.1⟩
 ·exact⟨_,_,h.2.2.2.2.1⟩
 ·exfalso;rcases hk with hk|hk<;>rw[hk]at h<;>rcases h.2.2.2.2 with h|h<;>cases h
 ·exfalso;rcases hk with hk|hk<;>rw[hk]at h<;>cases h.2.2.2
def Inv.counted(h:Inv P n0 W0 V gs w t K Im ic (some p) st){i:Nat}(_hi:0<i)(hlt:i<gs.size)(hk:(K i).cnt=1):(∃n,w.heap[p.c]?=some (.chan 0 #[] false n n false))/\st=some .early:=by
 have io:=h.phase;obtain⟨_,_,_,_,_,_,_,_,_,hx⟩:=io;by_cases hr:p.recv=true
 ·rw[if_pos hr]at hx;obtain⟨_,_,_,s,hs,hm⟩:=hx;have hle:(K i).cnt<=sumTo gs.size λi=>(K i).cnt:=XD (f:=λi=>(K i).cnt) hlt;rcases hm with h|h|h|h|h|h|h
  ·exact⟨h.1,by rw[hs,h.2.1]⟩
  ·exact⟨h.1,by rw[hs,h.2.1]⟩
  ·exact⟨h.1,by rw[hs,h.2.1]⟩
  ·exact⟨h.1,by rw[hs,h.2.1]⟩
  ·exact⟨h.1,by rw[hs,h.2.1]⟩
  ·have:=h.2.2.2.1;omega
  ·have:=h.2.2.1;omega
 ·rw[if_neg hr]at hx;have:=(h.core.sat 0 h.pos).own p.c _ (by simp only[bO,if_true];exact hx.1);exact⟨⟨0,this⟩,hx.2.2.1⟩
def Inv.Pv(h:Inv P n0 W0 V gs w t K Im ic (some p) st){i:Nat}{k':GS}{gs':SQ}{t':Vq}(aZ:gs'.size=gs.size)(fA:w.heap.size<=w'.heap.size)(hb:jN p (k'.view Im))(zg:k'.nS=true->i=ic)
  (de:k'.idx=(K i).idx\/(k'.idx=none/\∀j,(K i).idx=some j->p.Ss[j]?=some []))
  (eJ:if p.recv then∃s,st'=some s/\Mode P p.c p.Wg gs.size w' gs' t' (upd K i k') ic s
    else st'=some .early/\k'.idx.isSome=true/\k'.cnt=(K i).cnt):AE P n0 V gs' w' t' (upd K i k') Im ic (some p) st':=by
 obtain⟨a1,a2,a3,a4,a5,a6,a7,a8,a9,b_⟩:=h.phase;have jl:∀j m,((upd K i k') j).idx=some m->(K j).idx=some m:=by
  intro j m hj;by_cases cE:j=i
  ·subst cE;rw[bG]at hj;rcases de with x|⟨x,_⟩
   ·rw[<- x];exact hj
   ·rw[x]at hj;cases hj
  ·rw[br _ _ cE]at hj;exact hj
 refine⟨a1,a2,a3,Uk a4 fA,Uk a5 fA,a6,λj hj=> ?_,λj j' m b1 b2 b3 b4 b5 b6=>a8 j j' m b1 (aZ▸b2) b3 (aZ▸b4) (jl _ _ b5) (jl _ _ b6),λj S b1 b2=> ?_,?_⟩
 ·by_cases cE:j=i
  ·subst cE;rw[bG];exact⟨hb.1,hb.2.1,hb.2.2.1,hb.2.2.2,zg⟩
  ·rw[br _ _ cE];exact a7 j hj
 ·obtain⟨m,c1,c2,c3⟩:=a9 j S b1 b2;refine⟨m,c1,by rw[aZ];exact c2,?_⟩;by_cases cV:m=i
  ·subst cV;rw[bG];rcases de with x|⟨_,x⟩
   ·rw[x];exact c3
   ·have:=x j c3;rw[this]at b1;cases b1;exact absurd rfl b2
  ·rw[br _ _ cV];exact c3
 ·split
  ·rename_i aN;rw[if_pos aN]at b_ eJ;obtain⟨c1,c2,c3,_⟩:=b_;exact⟨c1,c2,by rw[aZ];exact c3,by rw[aZ];exact eJ⟩
  ·rename_i aN;rw[if_neg aN]at b_ eJ;obtain⟨c1,c2,_,c4,c5⟩:=b_;refine⟨c1,c2,eJ.1,λj b1 b2=> ?_,c5.1,by rw[aZ,lT K k' GS.cnt eJ.2.2];exact c5.2⟩;by_cases cE:j=i
   ·subst cE;rw[bG];exact .inl eJ.2.1
   ·rw[br _ _ cE];exact c4 j b1 (aZ▸b2)
def Inv.af4(h:Inv P n0 W0 V gs w t K Im ic (some p) st){i j:Nat}{gi bL:Tj}{es:SP}{hh h':Ht}{Vi V':View}(hi:0<i)(aQ:gs[i]?=some gi)(hK:K i=.work j hh Vi)(aP:stepG P false gi w=.go bL w' es)
  (s:du Vi w V' w' es) (hk:lX P h' V' bL) (mJ:CR h' hh):g_ P n0 W0 V gs w sl t K Im ic (some p) st i:=by
 have hlt:i<gs.size:=(T5.1 aQ).1;have dx:=h.is i gi hi aQ;simp only[hK,GS.is]at dx;obtain⟨hd,_,S,hS,jF⟩:=dx;have gz:(K i).cnt=1:=by rw[hK];rfl
 obtain⟨⟨n,im⟩,lL⟩:=h.counted hi hlt gz;have iO:=h.low;have cT:jN p Vi:=by have:=h.blind hi;rw[hK]at this;exact this
 have amo:=cT.step s iO.1 iO.2;have mO:bO V Im K i=Vi:=by simp[bO,hK,GS.view];omega
 have fy:w'.heap[p.c]?=w.heap[p.c]?:=s.frame p.c iO.1 cT.1;have hWh:w'.heap[p.Wg]?=w.heap[p.Wg]?:=s.frame p.Wg iO.2 cT.2.2.1;have me:∀m,((upd K i (.work j h' V')) m).shape=(K m).shape:=λm=>by
  by_cases hm:m=i
  ·subst hm;rw[bG,hK];rfl
  ·rw[br _ _ hm]
 have de:∀m,((upd K i (.work j h' V')) m).idx=(K m).idx:=λm=>by rw[<- GS.IE,me,GS.IE]
 have pU:∀m,((upd K i (.work j h' V')) m).cnt=(K m).cnt:=λm=>by rw[<- GS.nT,me,GS.nT]
 have xF:∀m,((upd K i (.work j h' V')) m).late=(K m).late:=λm=>by rw[<- GS.mT,me,GS.mT]
 have cy:V'.role=Vi.role:=s.role;refine h.next (k':=.work j h' V') (st':=st) hi aQ aP ⟨by rw[hd,s.deaf],hk,S,hS,cy.trans jF⟩ (λx=>by rw[hk.running]at x;cases x) (λq hq=>by cases hq;exact .inl ⟨n,by rw[fy];exact im⟩) ?_ ?_ ?_ ?_ ?_
 ·rw[Qy V Im K hi];refine(Core.step (V':=V') h.core hlt (by rw[mO];exact s) (λe he x hx hs=> ?_) gi.frame.fn gi.frame.place).De λm hm=> ?_
  ·exfalso;rcases(Lr (s.fG e he) hx).1 with y|⟨y,_⟩|y
   ·exact cT.B9 y.rd hs
   ·exact cT.B9 y hs
   ·exact y (aeV iO.1 iO.2 hs)
  ·simpa only[nN,jv,de,pU,xF]using hm
 ·rw[lL];have hr:Rest (CE (some p)) t K ic st:=h.out.2.2.1;rw[lL]at hr;refine hr.app (λidx a ha hx=> .inr (hx.app (by obtain⟨op,az,_⟩:=Wb ha;exact UQ az) λm _ _ hm=> .inl (by rw[de];exact hm))) (λidx a _ ⟨op,az,zo,_⟩ _=> .inr (.inr ⟨i,?_,hi,.inl ?_⟩))
  ·obtain⟨e,_,rfl⟩:=UU az;simp[XB,zo]
  ·rw[bG];rfl
 ·refine h.Pv (by simp) s.size amo (λx=>by cases x) (.inl (by rw[hK];rfl)) ?_;have hx:=h.phase.2.2.2.2.2.2.2.2.2;split
  ·rename_i aN;rw[if_pos aN]at hx;obtain⟨_,_,_,s',mM,hm⟩:=hx;exact⟨s',mM,hm.keep me fy hWh λsK=>aew hlt hk.running sK⟩
  ·exact⟨lL,rfl,by rw[hK];rfl⟩
 ·rw[hK];refine .inr ⟨by simp[GS.dg,cy],.inl mJ⟩
 ·intro g c MQ;have ho:AD w' c:=⟨n,by rw[<- MQ p rfl,fy];exact im⟩;exact⟨O5 hi,λjE _=> .inr ⟨Pt hi jE ho,ho⟩⟩
end
def oA (V:View)(I':cG)(O':C2)(r:nJ):View:=
 {V with ai:=λb o=>match V.ai b o with|some x=>some x|none=>I' b o,own:=λb=>match V.own b with|some x=>some x|none=>O' b,role:=r}
def mr (B:Nat->Bool)(U:View):C2:=λb=>if B b then U.own b else none
def ml (B:Nat->Bool)(U:View)(r:nJ):View:={U with own:=λb=>if B b then none else U.own b,role:=r}
section
variable {P:Tl}{n0:Nat}{W0:Uu}{V:View}{gs gs':SQ}{w w':Uu}{sl:S6}{t:Vq}{K:Nat->GS}{Im:cG}{ic:Nat}{p:Phase}{st:TG}
def adX{k:GS}{d:Nat}{x:Tj}(h:k.is P p.c p.Wg Im p.Ss d x)(r:Nat):offersAt x r false=[]:=by
 rcases GS.runs h with hr|⟨hf,_⟩|⟨j,h',V,V',g0,v,z,rfl⟩|⟨_,hb,ho⟩
 ·exact Wc (by rw[hr];simp) r false
 ·exact Wc (by rw[hf];simp) r false
 ·obtain⟨_,_,rfl,_⟩:=h;exact offersAt_parked_send' _ _ _ _ _ _
 ·unfold offersAt;simp[hb,ho]
def apZ{g:Tj}(h:kN gs g){x:Tj}(hx:gs[0]?=some x)(r:Nat)(s:Bool):offersAt x r s=[]:=by
 obtain⟨g0,h0,h1,_⟩:=h;rw[h0]at hx;cases hx;exact Wc (by rw[h1];simp) r s
def Inv.avn(h:Inv P n0 W0 V gs w t K Im ic (some p) st){g:Tj}(hm:kN gs g){i j:Nat}{gi:Tj}{hh h':Ht}{Vi V₁:View}{sp:Spec}{S:TJ}{v z:Uf}{B:Nat->Bool}(hi:0<i)(aQ:gs[i]?=some gi)
  (hK:K i=.work j hh Vi) (hg:ey Vi V₁) (hr:V₁.role=.work p.c p.Wg (sp::S)) (hd:V₁.deaf=0) (aP:stepG P false gi w=.comm gi #[scase p.c v z] true .send w #[])
  (pf:sp v V₁.ai (mr B V₁)) (hk:lX P h' (ml B V₁ (.work p.c p.Wg S)) (U9 gi undef)):g_ P n0 W0 V gs w sl t K Im ic (some p) st i:=by
 have hlt:i<gs.size:=(T5.1 aQ).1;have dx:=h.is i gi hi aQ;simp only[hK,GS.is]at dx;obtain⟨bI,_,S',hS,jF⟩:=dx;have gz:(K i).cnt=1:=by rw[hK];rfl
 obtain⟨⟨n,im⟩,lL⟩:=h.counted hi hlt gz;have eU:(i==0)=false:=by simp;omega
 have er:nJ.work p.c p.Wg S'=.work p.c p.Wg (sp::S):=by rw[<- jF,<- hg.role,hr]
 cases er;let k':GS:=.oG j h' V₁ (ml B V₁ (.work p.c p.Wg S)) gi v z;have hw:=crowd_waits (P:=P) (sl:=sl) (i:=i) aQ (by rw[eU];exact aP) (λcc jA=>by
  simp only[UR,Tm,T7,or_false]at jA;subst jA;refine ways_send_none im (by simp) (partners_nil λm x hx=> ?_);rcases Zd gs i m x hx with⟨_,rfl⟩|⟨_,jY⟩
  ·exact aj_ _ _
  ·rcases Vu m with rfl|eB
   ·exact apZ hm jY _ _
   ·exact adX (h.is m x eB jY) _)
 have mO:bO V Im K i=Vi:=by simp[bO,hK,GS.view];omega
 have cT:jN p Vi:=by have:=h.blind hi;rw[hK]at this;exact this
 have de:∀m,((upd K i k') m).idx=(K m).idx:=λm=>by
  by_cases hm:m=i
  ·subst hm;rw[bG,hK];rfl
  ·rw[br _ _ hm]
 have me:∀m,((upd K i k') m).shape=(K m).shape:=λm=>by
  by_cases hm:m=i
  ·subst hm;rw[bG,hK];rfl
  ·rw[br _ _ hm]
 have pU:∀m,((upd K i k') m).cnt=(K m).cnt:=λm=>by rw[<- GS.nT,me,GS.nT]
 have xF:∀m,((upd K i k') m).late=(K m).late:=λm=>by rw[<- GS.mT,me,GS.mT]
 have e0:t++Ui i gi.frame.fn gi.frame.place #[]=t:=by simp[Ui]
 have aZ:(gs.setIfInBounds i (parked gi #[scase p.c v z] .send)).size=gs.size:=by simp
 refine⟨_,w,_,upd K i k',st,hw,aZ,?_,λg' c _=>⟨λ⟨g0,a,b⟩=>⟨g0,by rw[T6 (by omega)];exact a,b⟩,λ⟨g0,z',a,b⟩ ho=> .inr ⟨⟨g0,z',by rw[T6 (by omega)];exact a,b⟩,ho⟩⟩,λg' c ⟨g1,z',a,_⟩ _=>(by obtain⟨g0,h0,h1,_⟩:=hm;rw[a]at h0;cases h0;cases h1),
  .inl ⟨i,hlt,?_,λm hm=>by show (upd K i k' m).dg=(K m).dg;rw[br _ _ hm]⟩⟩
 ·rw[e0];refine Inv.mk' (by rw[aZ];exact h.pos) (by rw[br _ _ (by omega)];exact h.k0) h.d0 (λm x hm hx=> ?_) ?_ ?_ ?_
  ·by_cases cV:m=i
   ·subst cV;rw[Ug hlt]at hx;cases hx;rw[bG];exact⟨by rw[bI,<- hg.deaf,hd],hd,rfl,hk,sp,S,B,hS,hr,pf,rfl⟩
   ·rw[T6 (Ne.symm cV)]at hx;rw[br _ _ cV];exact h.is m x hm hx
  ·rw[aZ,Qy V Im K hi];exact(Core.ghost (V':=V₁) h.core hlt (by rw[mO];exact hg)).De λm hm=>by simpa only[nN,jv,de,pU,xF]using hm
  ·have hr:Rest (CE (some p)) t K ic st:=h.out.2.2.1;rw[lL]at hr⊢;have:=hr.app (u:=#[]) (K':=upd K i k') (s':=.early) (λidx a ha hx=> .inr (hx.app (by obtain⟨op,az,_⟩:=Wb ha;exact UQ az) λm _ _ hm=> .inl (by rw[de];exact hm))) (λidx a _ ⟨op,az,_⟩ _=>by simp at az);simpa using this
  ·refine h.Pv aZ (Ts _) (cT.ghost hg) (λx=>by cases x) (.inl (by rw[hK];rfl)) ?_;have hx:=h.phase.2.2.2.2.2.2.2.2.2;split
   ·rename_i aN;rw[if_pos aN]at hx;obtain⟨_,gQ,_,s',mM,gD⟩:=hx;refine⟨s',mM,?_⟩;have:=gD.keep (w':=w) (gs':=gs.setIfInBounds i (parked gi #[scase p.c v z] .send)) (u:=#[]) me rfl rfl λsK x hx=>by
     by_cases gB:ic=i
     ·subst gB;exfalso;unfold Mode at gD;have aF:∀s:GS,(K ic).shape=s->s=.work j .z noView:=λs e=>(by rw[<- e,hK];rfl);rcases gD with h|h|h|h|h|h|h
      ·rcases h.2.2.2.2.2 with⟨_,e,_⟩|⟨_,e,_⟩<;>cases aF _ e
      ·rcases h.2.2.2.2.2.2 with e|e<;>cases aF _ e
      ·rcases h.2.2.2.2.1 with e|e<;>cases aF _ e
      ·rcases h.2.2.2.2.2.2 with e|e<;>cases aF _ e
      ·rcases h.2.2.2.2.2 with e|e<;>cases aF _ e
      ·rcases h.2.2.2.2 with e|e<;>cases aF _ e
      ·cases aF _ h.2.2.2
     ·rw[T6 (Ne.symm gB)]at hx;exact sK x hx
    simpa using this
   ·exact⟨lL,rfl,by rw[hK];rfl⟩
 ·show rP (upd K i k' i).dg (K i).dg;rw[hK];refine .inl ?_;simp only[bG,k',GS.dg,hr,jF];omega
def Mode.aoT{c Wg N:Nat}{u:Vq}{K':Nat->GS}{s:eO}(h:Mode P c Wg N w gs t K ic s)(gz:1<=sumTo N λi=>(K i).cnt)(hs:∀j,(K' j).shape=(K j).shape)(ho:∃n,w'.heap[c]?=some (.chan 0 #[] false n n false)) (hW:w'.heap[Wg]?=w.heap[Wg]?):Mode P c Wg N w' gs' (t++u) K' ic s:=by
 have e1:sumTo N (λi=>(K' i).cnt)=sumTo N λi=>(K i).cnt:=Wz λi _=>by rw[<- GS.nT,hs i,GS.nT]
 have e2:sumTo N (λi=>(K' i).late)=sumTo N λi=>(K i).late:=Wz λi _=>by rw[<- GS.mT,hs i,GS.mT]
 have e3:∀st sm,WgAt P Wg w' st sm=WgAt P Wg w st sm:=λst sm=>by unfold WgAt;rw[hW]
 unfold Mode at h⊢;simp only[e1,e2,e3,hs];rcases h with h|h|h|h|h|h|h
 ·exact .inl ⟨ho,h.2⟩
 ·exact .inr (.inl ⟨ho,h.2⟩)
 ·have:=h.2.2.2.1;omega
 ·have:=h.2.2.2.1;omega
 ·have:=h.2.2.2.1;omega
 ·have:=h.2.2.2.1;omega
 ·have:=h.2.2.1;omega
def Inv.met(h:Inv P n0 W0 V gs w t K Im ic (some p) st)(aN:p.recv=true)(ii:V.deaf=0){i j:Nat}{h':Ht}{V₁:View}{gi:Tj}{sp:Spec}{S:TJ}{B:Nat->Bool}(hi:0<i)(hlt:i<gs.size)
  (zp:(K i).idx=some j) (hg:ey ((K i).view Im) V₁) (hr:V₁.role=.work p.c p.Wg (sp::S)) (hd:V₁.deaf=0) (oX:VZ t i=0) (hS:p.Ss[j]?=some (sp::S))
  (hk:lX P h' (ml B V₁ (.work p.c p.Wg S)) (U9 gi undef)) (aZ:gs'.size=gs.size) (aQ:gs'[i]?=some (U9 gi undef)) (hgo:∀m,m≠i->0<m->gs'[m]?=gs[m]?)
  {u:Vq} {x0 x1 x2 x3:Xj} (hu:u=#[x0,x1,x2,x3]) {s:Nat} (h0:x0.g=i/\x0.act=.send p.c s) (h1:x1.g=0/\x1.act=.recv p.c s 0) (h2:x2.g=i/\x2.act=.sendDone p.c s) (h3:x3.g=0/\x3.act=.recvDone p.c s)
  (bK:w'.heap.size=w.heap.size) (c_:∀b,b≠p.c->w'.heap[b]?=w.heap[b]?) (iX:∃n,w'.heap[p.c]?=some (.chan 0 #[] false n n false)) (uz:w'.tape=w.tape) (N7:w'.os=w.os) (hw6:w'.output=w.output):
  (∀b,V.own b≠none->mr B V₁ b=none)/\(∀b o,V.own b≠none->V₁.ai b o≠none->V.ai b o≠none)/\
  Inv P n0 W0 (oA V V₁.ai (mr B V₁) (.recv p.c p.Wg (p.Ss.set j S))) gs' w' (t++u) (upd K i (.work j h' (ml B V₁ (.work p.c p.Wg S)))) Im ic (some {p with Ss:=p.Ss.set j S}) st:=by
 obtain⟨dx,hc,mc,io⟩:=h.out;obtain⟨a1,a2,a3,a4,a5,a6,a7,a8,a9,b_⟩:=io;rw[if_pos aN]at b_;obtain⟨⟨c1,c2,c3,c4⟩,c5,c6,s',c7,c8⟩:=b_;have D9:jN p V:=⟨c1,c2,c3,c4⟩;have xp:=(h.blind hi).ghost hg;have mO:bO V Im K i=(K i).view Im:=by simp[bO];omega
 have sO:bO V Im K 0=V:=by simp[bO]
 have dE:Core (upd (bO V Im K) i V₁) gs.size w t (te (some p)) (nN (some p) gs.size ic K) ic n0 W0:=hc.ghost hlt (by rw[mO];exact hg);have ep:Sat V₁ w:=by have:=dE.sat i hlt;rwa[bG]at this
 have dn:Sat V w:=by have:=dE.sat 0 h.pos;rwa[br _ _ (by omega),sO]at this
 have GY:j4 V V₁:=by have:=dE.d_ 0 i h.pos hlt (by omega);rwa[br _ _ (show 0≠i by omega),bG,sO]at this
 have Sx:j4 V₁ V:=by have:=dE.d_ i 0 hlt h.pos (by omega);rwa[bG,br _ _ (show 0≠i by omega),sO]at this
 have amP:∀b,V.own b≠none->mr B V₁ b=none:=λb hb=>by
  unfold mr;split
  ·exact(GY b hb).1
  ·rfl
 refine⟨amP,λb o hb=>(GY b hb).2 o,?_⟩;have jW:∀op∈u,op.act.touch?=none/\still op.act/\(op.g=0\/op.g=i)/\op.act.low w.heap.size/\∀a,op.act≠ .mark (.release a):=by
  intro op az;rw[hu]at az;simp only[UR,Tm,T7,or_false]at az;rcases az with rfl|rfl|rfl|rfl
  ·rw[h0.2,h0.1];exact⟨rfl,⟨by simp,by simp⟩,.inr rfl,a4,by simp⟩
  ·rw[h1.2,h1.1];exact⟨rfl,⟨by simp,by simp⟩,.inl rfl,a4,by simp⟩
  ·rw[h2.2,h2.1];exact⟨rfl,⟨by simp,by simp⟩,.inr rfl,a4,by simp⟩
  ·rw[h3.2,h3.1];exact⟨rfl,⟨by simp,by simp⟩,.inl rfl,a4,by simp⟩
 have ov:∀op∈u,still op.act:=λop az=>(jW op az).2.1;have vK:∀m,VZ (t++u) m=VZ t m:=λm=>Deaf_still ov;have d00:VZ t 0=0:=by rw[h.d0,ii]
 have di:∀idx,Xq t i idx->Xq (t++u) 0 idx:=λidx hx=>ap7 hu h0 (jW x1 (by rw[hu];simp)).2.1 (jW x2 (by rw[hu];simp)).2.1 h3 oX d00 hx;let k':GS:=.work j h' (ml B V₁ (.work p.c p.Wg S));let V':View:=oA V V₁.ai (mr B V₁) (.recv p.c p.Wg (p.Ss.set j S));have de:∀m,((upd K i k') m).idx=(K m).idx:=λm=>by
  by_cases hm:m=i
  ·subst hm;rw[bG,zp];rfl
  ·rw[br _ _ hm]
 have dP:(K i).shape=.work j .z noView:=by
  cases lB:K i<;>rw[lB]at zp<;>simp[GS.idx]at zp
  ·subst zp;rfl
  ·subst zp;rfl
 have me:∀m,((upd K i k') m).shape=(K m).shape:=λm=>by
  by_cases hm:m=i
  ·subst hm;rw[bG,dP];rfl
  ·rw[br _ _ hm]
 have pU:∀m,((upd K i k') m).cnt=(K m).cnt:=λm=>by rw[<- GS.nT,me,GS.nT]
 have xF:∀m,((upd K i k') m).late=(K m).late:=λm=>by rw[<- GS.mT,me,GS.mT]
 have gz:(K i).cnt=1:=by rw[<- GS.nT,dP];rfl
 have lL:=(h.counted hi hlt gz).2;have tx:bO V' Im (upd K i k') 0=V':=by simp[bO]
 have yg:bO V' Im (upd K i k') i=ml B V₁ (.work p.c p.Wg S):=by simp[bO,bG,k',GS.view];omega
 have yi:∀m,m≠0->m≠i->bO V' Im (upd K i k') m=upd (bO V Im K) i V₁ m:=λm h1 h2=>by simp[bO,br _ _ h2,h1]
 have FG:upd (bO V Im K) i V₁ 0=V:=by rw[br _ _ (by omega),sO]
 have xX:upd (bO V Im K) i V₁ i=V₁:=bG _ _ _;have kT:∀{U:View},jN p U->Sat U w->Sat U w':=λ{U} hb hs=>⟨λb o v e=>by
   have aF:b≠p.c:=λx=>(by rw[x,hb.2.1 o]at e;cases e);have:=hs.ai b o v e;simp only[VC,c_ b aF]at this⊢;exact this,λb x e=>by
   have aF:b≠p.c:=λy=>(by rw[y,hb.1]at e;cases e);rw[c_ b aF];exact hs.own b x e⟩
 have an8:Sat V' w:=⟨λb o v e=>by
   simp only[V',oA]at e;split at e
   ·rename_i x hx;cases e;exact dn.ai b o _ hx
   ·exact ep.ai b o v e,λb x e=>by
   simp only[V',oA]at e;split at e
   ·rename_i y hy;cases e;exact dn.own b _ hy
   ·unfold mr at e;split at e
    ·exact ep.own b x e
    ·cases e⟩
 have D_:jN p V':=⟨by simp[V',oA,c1,mr,xp.1],λo=>by simp[V',oA,c2,xp.2.1],by simp[V',oA,c3,mr,xp.2.2.1],λo=>by simp[V',oA,c4,xp.2.2.2]⟩;have hsK:Sat (ml B V₁ (.work p.c p.Wg S)) w:=⟨ep.ai,λb x e=>by
   simp only[ml]at e;split at e
   ·cases e
   ·exact ep.own b x e⟩
 have D8:jN p (ml B V₁ (.work p.c p.Wg S)):=⟨by simp[ml,xp.1],xp.2.1,by simp[ml,xp.2.2.1],xp.2.2.2⟩;have Ce:∀b,V'.own b≠none->V.own b≠none\/(B b=true/\V₁.own b≠none):=λb hb=>by
  simp only[V',oA]at hb;split at hb
  ·rename_i y hy;exact .inl (by rw[hy];simp)
  ·unfold mr at hb;split at hb
   ·rename_i hB;exact .inr ⟨hB,hb⟩
   ·exact absurd rfl hb
 have we:∀b o,V'.ai b o≠none<->(V.ai b o≠none\/V₁.ai b o≠none):=λb o=>by
  simp only[V',oA];cases e:V.ai b o with
  |some x=>simp
  |none=>simp
 have Cf:∀b,(ml B V₁ (.work p.c p.Wg S)).own b≠none->B b=false/\V₁.own b≠none:=λb hb=>by
  simp only[ml]at hb;split at hb
  ·exact absurd rfl hb
  ·rename_i hB;exact⟨by simpa using hB,hb⟩
 have zi:Core (bO V' Im (upd K i k')) gs.size w' (t++u) (te (some p)) (nN (some p) gs.size ic K) ic n0 W0:=by
  refine⟨λm hm=> ?_,λa b ha hb eQ=> ?_,?_,uz.trans hc.tape,N7.trans hc.os,hw6.trans hc.out,λb hb=>(c_ b (by omega)).trans (hc.old b hb),λm hm b hb=> ?_,by rw[bK];exact hc.n0⟩
  ·by_cases eB:m=0
   ·subst eB;rw[tx];exact kT D_ an8
   ·by_cases cV:m=i
    ·subst cV;rw[yg];exact kT D8 hsK
    ·rw[yi m eB cV,br _ _ cV];have:=hc.sat m hm;refine kT ?_ this;have e:bO V Im K m=(K m).view Im:=(by simp[bO,eB]);rw[e];exact h.blind (by omega)
  ·
   have dm:∀m,m<gs.size->m≠0->m≠i->j4 (upd (bO V Im K) i V₁ m) V/\j4 V (upd (bO V Im K) i V₁ m)/\j4 (upd (bO V Im K) i V₁ m) V₁/\j4 V₁ (upd (bO V Im K) i V₁ m):=λm hm h1 h2=>
    ⟨by have:=dE.d_ m 0 hm h.pos h1;rwa[FG]at this,by have:=dE.d_ 0 m h.pos hm (Ne.symm h1);rwa[FG]at this,by have:=dE.d_ m i hm hlt h2;rwa[xX]at this,by have:=dE.d_ i m hlt hm (Ne.symm h2);rwa[xX]at this⟩
   by_cases Bi:a=0
   ·subst Bi;by_cases dV:b=i
    ·subst dV;rw[tx,yg];intro q hq;rcases Ce q hq with x|⟨hB,x⟩
     ·refine⟨?_,λo ho=>(we q o).2 (.inl ((GY q x).2 o ho))⟩;simp only[ml];split
      ·rfl
      ·exact(GY q x).1
     ·refine⟨by simp only[ml,hB,if_true],λo ho=>(we q o).2 (.inr ho)⟩
    ·have qU:b≠0:=Ne.symm eQ;rw[tx,yi b qU dV];obtain⟨_,e2,_,e4⟩:=dm b hb qU dV;intro q hq;rcases Ce q hq with x|⟨_,x⟩
     ·exact⟨(e2 q x).1,λo ho=>(we q o).2 (.inl ((e2 q x).2 o ho))⟩
     ·exact⟨(e4 q x).1,λo ho=>(we q o).2 (.inr ((e4 q x).2 o ho))⟩
   ·by_cases n4:a=i
    ·subst n4;by_cases qU:b=0
     ·subst qU;rw[tx,yg];intro q hq;obtain⟨hB,x⟩:=Cf q hq;refine⟨?_,λo ho=> ?_⟩
      ·simp only[V',oA,(Sx q x).1,mr,hB];rfl
      ·rcases(we q o).1 ho with y|y
       ·exact(Sx q x).2 o y
       ·exact y
     ·rw[yg,yi b qU (Ne.symm eQ)];obtain⟨_,_,_,e4⟩:=dm b hb qU (Ne.symm eQ);intro q hq;exact e4 q (Cf q hq).2
    ·rw[yi a Bi n4];obtain⟨e1,e2,e3,e4⟩:=dm a ha Bi n4;by_cases qU:b=0
     ·subst qU;rw[tx];intro q hq;refine⟨?_,λo ho=>((we q o).1 ho).elim ((e1 q hq).2 o) ((e3 q hq).2 o)⟩;simp only[V',oA,(e1 q hq).1,mr,(e3 q hq).1,ite_self]
     ·by_cases dV:b=i
      ·subst dV;rw[yg];intro q hq;refine⟨?_,(e3 q hq).2⟩;simp only[ml,(e3 q hq).1,ite_self]
      ·rw[yi b qU dV];exact dE.d_ a b ha hb eQ
  ·rw[bK];refine dE.ti.mute (λop az=>(jW op az).1) (λop az=>(jW op az).2.2.2.1) (λop az=>((jW op az).2.2.1).elim (λx=>by rw[x];exact h.pos) (λx=>by rw[x];exact hlt)) (Ts _) (λop az=>(jW op az).2.2.2.2) (λm hm l hl idx a ha ij rq=> ?_) (λm hm l hl idx a ha ij=> ?_) (λidx a ha dP=>⟨λhp m hm=>((dE.ti.sp idx a ha dP).1 hp m hm).app u,λhp=>((dE.ti.sp idx a ha dP).2 hp).app u⟩)
   ·obtain⟨_,cR,lI⟩:=hl;by_cases eB:m=0
    ·subst eB;rw[tx]at cR;have:iz V l\/iz V₁ l:=by
      cases l with
      |cell a'=>
       rcases cR with x|x
       ·exact(Ce _ x).imp .inl (λy=> .inl y.2)
       ·exact((we _ _).1 x).imp .inr .inr
      |obj r=>exact(Ce _ cR).imp id (λy=>y.2)
      |_=>exact cR.elim
     rcases this with x|x
     ·exact(dE.ti.kr 0 h.pos l ⟨h.pos,by rw[FG];exact x,lI⟩ idx a ha ij rq).app u
     ·exact di idx (dE.ti.kr i hlt l ⟨hlt,by rw[xX];exact x,lI⟩ idx a ha ij rq)
    ·by_cases cV:m=i
     ·subst cV;rw[yg]at cR;have:iz V₁ l:=by
       cases l with
       |cell a'=>exact cR.imp (λx=>(Cf _ x).2) id
       |obj r=>exact(Cf _ cR).2
       |_=>exact cR.elim
      exact(dE.ti.kr m hm l ⟨hm,by rw[xX];exact this,lI⟩ idx a ha ij rq).app u
     ·rw[yi m eB cV]at cR;exact(dE.ti.kr m hm l ⟨hm,cR,lI⟩ idx a ha ij rq).app u
   ·obtain⟨_,cR,lI⟩:=hl;by_cases eB:m=0
    ·subst eB;rw[tx]at cR;have:j5 V l\/j5 V₁ l:=by
      cases l with
      |cell a'=>
       have gA:V.ai a'.block a'.off=none:=by
        cases e:V.ai a'.block a'.off with
        |none=>rfl
        |some x=>exact absurd cR.2 ((we _ _).2 (.inl (by rw[e];simp)))
       have vP:V₁.ai a'.block a'.off=none:=by
        cases e:V₁.ai a'.block a'.off with
        |none=>rfl
        |some x=>exact absurd cR.2 ((we _ _).2 (.inr (by rw[e];simp)))
       exact(Ce _ cR.1).imp (λx=>⟨x,gA⟩) (λx=>⟨x.2,vP⟩)
      |obj r=>exact(Ce _ cR).imp id (λy=>y.2)
      |_=>exact cR.elim
     rcases this with x|x
     ·exact(dE.ti.kw 0 h.pos l ⟨h.pos,by rw[FG];exact x,lI⟩ idx a ha ij).app u
     ·exact di idx (dE.ti.kw i hlt l ⟨hlt,by rw[xX];exact x,lI⟩ idx a ha ij)
    ·by_cases cV:m=i
     ·subst cV;rw[yg]at cR;have:j5 V₁ l:=by
       cases l with
       |cell a'=>exact⟨(Cf _ cR.1).2,cR.2⟩
       |obj r=>exact(Cf _ cR).2
       |_=>exact cR.elim
      exact(dE.ti.kw m hm l ⟨hm,by rw[xX];exact this,lI⟩ idx a ha ij).app u
     ·rw[yi m eB cV]at cR;exact(dE.ti.kw m hm l ⟨hm,cR,lI⟩ idx a ha ij).app u
  ·by_cases eB:m=0
   ·subst eB;rw[tx];have e1:=dE.jJ 0 h.pos b hb;have e2:=dE.jJ i hlt b hb;rw[FG]at e1;rw[xX]at e2;simp[V',oA,e1,mr,e2]
   ·by_cases cV:m=i
    ·subst cV;rw[yg];have e2:=dE.jJ m hm b hb;rw[xX]at e2;simp[ml,e2]
    ·rw[yi m eB cV];exact dE.jJ m hm b hb
 refine Inv.mk' (by rw[aZ];exact h.pos) (by rw[br _ _ (by omega)];exact h.k0) (by rw[vK];exact h.d0) (λm x hm hx=> ?_) ?_ ?_ ?_
 ·show (upd K i k' m).is P p.c p.Wg Im (p.Ss.set j S) (VZ (t++u) m) x;rw[vK];by_cases cV:m=i
  ·subst cV;rw[aQ]at hx;cases hx;rw[bG];have dW:j<p.Ss.length:=(Tq.1 hS).1;exact⟨by rw[oX];exact hd.symm,hk,S,by simp[Yb dW],rfl⟩
  ·rw[hgo m cV hm]at hx;rw[br _ _ cV];have BZ:=dx m x hm hx;have sH:m<gs.size:=(T5.1 hx).1;have aF:(K m).idx≠some j:=λe=>cV (a8 m i j hm sH hi hlt e zp);cases Mm:K m with
   |work j2 h2 V2=>
    rw[Mm]at BZ aF;obtain⟨b1,b2,S2,b3,b4⟩:=BZ;exact⟨b1,b2,S2,by rw[U6 (λe=>aF (by rw[e];rfl))];exact b3,b4⟩
   |oG j2 h2 V2 V3 g2 v2 z2=>
    rw[Mm]at BZ aF;obtain⟨b1,b2,b3,b4,sp2,S2,B2,b5,b6⟩:=BZ;exact⟨b1,b2,b3,b4,sp2,S2,B2,by rw[U6 (λe=>aF (by rw[e];rfl))];exact b5,b6⟩
   |_=>rw[Mm]at BZ;exact BZ
 ·rw[aZ];refine zi.De λm hm=> ?_;have gD:jv p gs.size ic (upd K i k') m:=hm;show jv p gs.size ic K m;unfold jv at gD⊢;rw[de,pU,xF]at gD;exact gD
 ·show Rest p.Wg (t++u) (upd K i k') ic st;have zy:Rest p.Wg t K ic st:=mc;rw[lL]at zy⊢;exact zy.app (λidx a ha hx=> .inr (hx.app (by obtain⟨op,az,_⟩:=Wb ha;exact UQ az) λm _ _ hm=> .inl (by rw[de];exact hm))) (λidx a _ ⟨op,az,_,hx⟩ _=>by rw[(jW op az).1]at hx;cases hx)
 ·refine⟨a1,a2,a3,by rw[bK];exact a4,by rw[bK];exact a5,by simpa using a6,λm hm=> ?_,λm m' q b1 b2 b3 b4 b5 b6=>a8 m m' q b1 (aZ▸b2) b3 (aZ▸b4) (by rw[<- de];exact b5) (by rw[<- de];exact b6),λq S2 b1 b2=> ?_,?_⟩
  ·by_cases cV:m=i
   ·subst cV;rw[bG];exact⟨D8.1,D8.2.1,D8.2.2.1,D8.2.2.2,λx=>by cases x⟩
   ·rw[br _ _ cV];exact a7 m hm
  ·rw[aZ];by_cases hq:q=j
   ·subst hq;exact⟨i,hi,hlt,by rw[de];exact zp⟩
   ·have KJ:p.Ss[q]?=some S2:=by
     have:=b1;rwa[show ({p with Ss:=p.Ss.set j S}:Phase).Ss=p.Ss.set j S from rfl,U6 (Ne.symm hq)]at this
    obtain⟨m,e1,e2,e3⟩:=a9 q S2 KJ b2;exact⟨m,e1,e2,by rw[de];exact e3⟩
  ·show if p.recv=true then _ else _;rw[if_pos aN];refine⟨⟨D_.1,D_.2.1,D_.2.2.1,D_.2.2.2⟩,c5,by rw[aZ];exact c6,s',c7,?_⟩;have hle:(K i).cnt<=sumTo gs.size λi=>(K i).cnt:=XD (f:=λi=>(K i).cnt) hlt;rw[aZ];exact c8.aoT (by omega) me iX (c_ _ (Ne.symm a3))
end
section
variable {P:Tl}{n0:Nat}{W0:Uu}{V:View}{gs gs':SQ}{w w':Uu}{sl:S6}{t:Vq}{K:Nat->GS}{Im:cG}{ic:Nat}{p:Phase}{st st':TG}
def Inv.uQ(h:Inv P n0 W0 V gs w t K Im ic (some p) st)(aN:p.recv=true){i:Nat}{gi bL:Tj}{es:SP}{k':GS}{s':eO}(hi:0<i)(aQ:gs[i]?=some gi)(aP:stepG P false gi w=.go bL w' es)
  (hk:k'.is P p.c p.Wg Im p.Ss (deafBehind (VZ t i) es) bL) (qY:m_ (k'.view Im) ((K i).view Im))
  (zg:k'.nS=true->i=ic) (de:k'.idx=none) (zo:∀j,(K i).idx=some j->p.Ss[j]?=some []/\∃r,Rel p.Wg (t++Ui i gi.frame.fn gi.frame.place es) i r/\t.size<=r)
  (kD:i=ic\/(K i).idx.isSome=true\/(K i).cnt=1\/(K i).late=1)
  (cq:∀e∈es,∀x,(Uw e).touch?=some x->(rR p.c p.Wg x.loc/\x.kind=.atomic)\/(rR p.c p.Wg x.loc/\x.kind=.said/\i=ic)\/(¬rR p.c p.Wg x.loc/\iz ((K i).view Im) x.loc/\x.write=false))
  (iO:∀e∈es,(Uw e).low w.heap.size) (sI:∀e∈es,∀a,Uw e≠ .mark (.release a))
  (aZ:w'.heap.size=w.heap.size) (ik:∀b,b≠p.c->b≠p.Wg->w'.heap[b]?=w.heap[b]?) (ht:w'.tape=w.tape) (ho:w'.os=w.os) (hu:w'.output=w.output)
  (zu:Mode P p.c p.Wg gs.size w' ((gs.map (woken P gi bL w')).setIfInBounds i bL) (t++Ui i gi.frame.fn gi.frame.place es) (upd K i k') ic s')
  (im:(∃n,w'.heap[p.c]?=some (.chan 0 #[] false n n false))\/((∀j,0<j->j<gs.size->j≠i->(K j).idx=none)/\∀g,oJ gs g p.c->kN ((gs.map (woken P gi bL w')).setIfInBounds i bL) g))
  (mc:Rest p.Wg (t++Ui i gi.frame.fn gi.frame.place es) (upd K i k') ic (some s'))
  (jW:C0 gs.size ((λj=>(upd K i k' j).dg),flag ((gs.map (woken P gi bL w')).setIfInBounds i bL) ic) ((λj=>(K j).dg),flag gs ic)):g_ P n0 W0 V gs w sl t K Im ic (some p) st i:=by
 have hlt:i<gs.size:=(T5.1 aQ).1;obtain⟨_,hc,_,hp⟩:=h.out;obtain⟨a1,a2,a3,a4,a5,a6,a7,a8,a9,b_⟩:=hp;rw[if_pos aN]at b_;obtain⟨c1,c2,c3,_⟩:=b_;have rn:bO V Im K i=(K i).view Im:=by simp[bO];omega
 have D9:∀j,j<gs.size->jN p (bO V Im K j):=λj _=>by
  by_cases hj:j=0
  ·subst hj;rw[show bO V Im K 0=V by simp[bO]];exact⟨c1.1,c1.2.1,c1.2.2.1,c1.2.2.2⟩
  ·simp only[bO,hj,if_false];exact h.blind (by omega)
 have abx:nN (some p) gs.size ic K i:=by
  show jv p gs.size ic K i;unfold jv;rw[if_pos aN];exact⟨hi,hlt,by rcases kD with x|x|x|x;exact .inr (.inl x);exact .inl x;exact .inr (.inr (.inl x));exact .inr (.inr (.inr x))⟩
 refine h.adD (st':=some s') hi aQ aP hk (λhb=> ?_) (λq hq=>by cases hq;exact im.imp id And.left) ?_ mc ?_ jW ?_
 ·rcases GS.runs hk with x|⟨x,_⟩|⟨_,_,_,_,_,_,_,e⟩|⟨_,_,x⟩
  ·rw[x]at hb;cases hb
  ·rw[x]at hb;cases hb
  ·rw[e]at de;cases de
  ·exact x
 ·rw[Qy V Im K hi];have dP:=hc.uQ hlt (es:=es) (w':=w') (λe he x hx=>by
    rcases cq e he x hx with⟨x1,x2⟩|⟨x1,x2,x3⟩|⟨x1,x2,x3⟩
    ·exact .inl ⟨x1,x2,abx⟩
    ·exact .inr (.inl ⟨x1,x2,x3,abx⟩)
    ·exact .inr (.inr ⟨x1,.inr (.inl ⟨⟨hlt,by rw[rn];exact x2,x1⟩,x3⟩)⟩)) iO sI (λb=>b=p.c\/b=p.Wg)
   (λb hb=>by
    rcases hb with rfl|rfl
    ·exact⟨a1,λj hj=>⟨(D9 j hj).1,(D9 j hj).2.1⟩⟩
    ·exact⟨a2,λj hj=>⟨(D9 j hj).2.2.1,(D9 j hj).2.2.2⟩⟩) aZ (λb hb=>ik b (λx=>hb (.inl x)) (λx=>hb (.inr x))) ht ho hu gi.frame.fn gi.frame.place
  refine(dP.less (V':=k'.view Im) hlt (by rw[rn];exact qY)).De λm hm=> ?_;have gD:jv p gs.size ic (upd K i k') m:=hm;show jv p gs.size ic K m;unfold jv at gD⊢;rw[if_pos aN]at gD⊢;by_cases cV:m=i
  ·subst cV;exact⟨hi,hlt,by rcases kD with x|x|x|x;exact .inr (.inl x);exact .inl x;exact .inr (.inr (.inl x));exact .inr (.inr (.inr x))⟩
  ·rw[br _ _ cV]at gD;exact gD
 ·refine h.Pv (by simp) (by omega) ?_ zg (.inr ⟨de,λj hj=>(zo j hj).1⟩) ?_
  ·have hb:=h.blind hi;exact⟨(qY.1 _).elim id (λx=>x.trans hb.1),λo=>(qY.2.1 _ o).elim id (λx=>x.trans (hb.2.1 o)),(qY.1 _).elim id (λx=>x.trans hb.2.2.1),λo=>(qY.2.1 _ o).elim id (λx=>x.trans (hb.2.2.2 o))⟩
  ·rw[if_pos aN];exact⟨s',rfl,zu⟩
 ·intro g c MQ;refine⟨O5 hi,λjE _=> ?_⟩;rw[<- MQ p rfl]at jE⊢;rcases im with x|⟨_,x⟩
  ·exact .inr ⟨Pt hi jE x,x⟩
  ·exact .inl (x g jE)
def Mode.aoS{c Wg N:Nat}{u:Vq}{K':Nat->GS}{s:eO}(h:Mode P c Wg N w gs t K ic s)(e1:sumTo N (λi=>(K' i).cnt)=sumTo N λi=>(K i).cnt)(e2:sumTo N (λi=>(K' i).late)=sumTo N λi=>(K i).late)
  (e4:(K' ic).shape=(K ic).shape) (e5:∀i,i<N->((K' i).shape=.load 0\/(K' i).shape=.store 0)->((K i).shape=.load 0\/(K i).shape=.store 0)) (e6:∀i,i<N->(K' i).shape=.mX 0->(K i).shape=.mX 0) (hc:w'.heap[c]?=w.heap[c]?) (hW:w'.heap[Wg]?=w.heap[Wg]?)
  (hr:(∀g,gs[ic]?=some g->g.status=.running)->∀g,gs'[ic]?=some g->g.status=.running):Mode P c Wg N w' gs' (t++u) K' ic s:=by
 have e3:∀st sm,WgAt P Wg w' st sm=WgAt P Wg w st sm:=λst sm=>by unfold WgAt;rw[hW]
 unfold Mode at h⊢;simp only[e1,e2,e3,e4,hc];rcases h with h|h|h|h|h|h|h
 ·exact .inl h
 ·exact .inr (.inl h)
 ·exact .inr (.inr (.inl ⟨h.1,h.2.1,h.2.2.1,h.2.2.2.1,h.2.2.2.2.1,λi hi x=>h.2.2.2.2.2.1 i hi (e5 i hi x),λi hi x=>h.2.2.2.2.2.2 i hi (e6 i hi x)⟩))
 ·exact .inr (.inr (.inr (.inl ⟨h.1,h.2.1,h.2.2.1,h.2.2.2.1,h.2.2.2.2.1,hr h.2.2.2.2.2.1,h.2.2.2.2.2.2⟩)))
 ·exact .inr (.inr (.inr (.inr (.inl h))))
 ·exact .inr (.inr (.inr (.inr (.inr (.inl h)))))
 ·obtain⟨⟨p,n,a,b,c',d⟩,e⟩:=h;exact .inr (.inr (.inr (.inr (.inr (.inr ⟨⟨p,n,a,by rw[Y9 (Xh b)];exact b,(Xu (Xh b)).2 c',d⟩,e⟩)))))
def Mode.waits{c Wg N:Nat}{s:eO}(h:Mode P c Wg N w gs t K ic s):(K ic).cnt=0/\(K ic).late=0:=by
 rw[<- GS.nT,<- GS.mT];rcases h with h|h|h|h|h|h|h
 ·rcases h.2.2.2.2.2 with⟨_,e,_⟩|⟨_,e,_⟩<;>rw[e]<;>exact⟨rfl,rfl⟩
 ·rcases h.2.2.2.2.2.2 with e|e<;>rw[e]<;>exact⟨rfl,rfl⟩
 ·rcases h.2.2.2.2.1 with e|e<;>rw[e]<;>exact⟨rfl,rfl⟩
 ·rcases h.2.2.2.2.2.2 with e|e<;>rw[e]<;>exact⟨rfl,rfl⟩
 ·rcases h.2.2.2.2.2 with e|e<;>rw[e]<;>exact⟨rfl,rfl⟩
 ·rcases h.2.2.2.2 with e|e<;>rw[e]<;>exact⟨rfl,rfl⟩
 ·rw[h.2.2.2];exact⟨rfl,rfl⟩
def zV{i:Nat}{k':GS}{a b:Nat}(hlt:i<gs.size)(hr:rP k'.dg (K i).dg):C0 gs.size ((λj=>(upd K i k' j).dg),a) ((λj=>(K j).dg),b):=
 .inl ⟨i,hlt,by simpa only[bG]using hr,λj hj=>by show (upd K i k' j).dg=(K j).dg;rw[br _ _ hj]⟩
def Inv.mode(h:Inv P n0 W0 V gs w t K Im ic (some p) st)(aN:p.recv=true):∃s,st=some s/\0<ic/\ic<gs.size/\Mode P p.c p.Wg gs.size w gs t K ic s:=by
 have hx:=h.phase.2.2.2.2.2.2.2.2.2;rw[if_pos aN]at hx;obtain⟨_,h1,h2,s,h3,h4⟩:=hx;exact⟨s,h3,h1,h2,h4⟩
def ofEvents_one{i:Nat}{fn:UW}{pos:String}{e:XH}:Ui i fn pos #[e]=#[{g:=i,fn,pos,act:=.ofEvent e}]:=by simp[Ui]
def Sg{t u:Vq}{g:Nat}:(t++u).deaf g t.size=VZ t g:=deaf_old (Ts _)
def IR(U:View):m_ noView U:=⟨λ_=> .inl rfl,λ_ _=> .inl rfl,λb hb=>absurd rfl hb⟩
def Inv.release(h:Inv P n0 W0 V gs w t K Im ic (some p) st)(aN:p.recv=true){i j:Nat}{gi:Tj}{hh:Ht}{Vi V₁:View}{c Wg:Nat}(hi:0<i)(aQ:gs[i]?=some gi)(hK:K i=.work j hh Vi)(hg:ey Vi V₁)
  (hr:V₁.role=.work c Wg []) (hd:V₁.deaf=0) (hf:Gl P Wg gi):g_ P n0 W0 V gs w sl t K Im ic (some p) st i:=by
 have hlt:i<gs.size:=(T5.1 aQ).1;have dx:=h.is i gi hi aQ;simp only[hK,GS.is]at dx;obtain⟨bI,_,S,hS,jF⟩:=dx;rw[hg.role,jF]at hr;cases hr;have gz:(K i).cnt=1:=by rw[hK];rfl
 obtain⟨⟨n,im⟩,lL⟩:=h.counted hi hlt gz;obtain⟨s,hs,gQ,jk,hm⟩:=h.mode aN;rw[lL]at hs;cases hs;obtain⟨bQ,g',lM,m,cu⟩:=hf;have aF:i≠ic:=λe=>by have:=(Mode.waits hm).1;rw[<- e,gz]at this;cases this
 have bf:VZ t i=0:=by rw[bI,<- hg.deaf,hd]
 have qa:Rel p.Wg (t++Ui i gi.frame.fn gi.frame.place #[kz (.releaseMerge (eE p.Wg))]) i t.size:=by
  rw[ofEvents_one];have e:(#[({g:=i,fn:=gi.frame.fn,pos:=gi.frame.place,act:=.ofEvent (kz (.releaseMerge (eE p.Wg)))}:Xj)]:Vq)[0]?=some _:=rfl;have g0:=sf (t:=t) e;exact⟨axz g0,by simp[XB,g0],heard_new e rfl (by rw[show t.size+0=t.size from rfl,Sg];exact bf)⟩
 have oo:∀e∈#[kz (.releaseMerge (eE p.Wg))],e=kz (.releaseMerge (eE p.Wg)):=λe he=>by simpa using he
 refine h.uQ aN (k':=.add m) (s':=.early) hi aQ (lM w) ?_ (by rw[hK];exact IR _) (λx=>by cases x) rfl (λj' iT=> ?_) (.inr (.inr (.inl gz))) (λe he x hx=> ?_) (λe he=> ?_) (λe he a=> ?_) rfl (λ_ _ _=>rfl) rfl rfl rfl ?_ (.inl ⟨n,im⟩) ?_ (zV hlt ?_)
 ·show cY P (CP P p.Wg) m _ g';rw[bf];exact cu
 ·rw[hK]at iT;cases iT;exact⟨hS,t.size,qa,Ts _⟩
 ·rw[oo e he]at hx;cases hx
 ·rw[oo e he];exact h.low.2
 ·rw[oo e he];simp[kz,Uw]
 ·refine hm.aoS (lT K _ GS.cnt (by rw[gz];rfl)) (lT K _ GS.late (by rw[hK];rfl)) (by rw[br _ _ (Ne.symm aF)]) (λm hm=> ?_) (λm hm=> ?_) rfl rfl (aew hlt ?_)
  ·by_cases cV:m=i
   ·subst cV;rw[bG];intro x;rcases x with x|x<;>cases x
   ·rw[br _ _ cV];exact id
  ·by_cases cV:m=i
   ·subst cV;rw[bG];intro x;cases x
   ·rw[br _ _ cV];exact id
  ·exact cY.running (λd g x=>x.2.1) cu
 ·have hr:Rest p.Wg t K ic st:=h.out.2.2.1;rw[lL]at hr;refine hr.app (λidx a ha hx=> .inr (hx.app (by obtain⟨op,az,_⟩:=Wb ha;exact UQ az) λm sA _ hm=> ?_)) (λidx a _ ⟨op,az,_,hx⟩ _=> ?_)
  ·by_cases cV:m=i
   ·subst cV;exact .inr ⟨t.size,qa,by obtain⟨op,az,_⟩:=Wb ha;exact Nat.le_of_lt (UQ az)⟩
   ·rw[br _ _ cV];exact .inl hm
  ·rw[ofEvents_one]at az;simp only[UR,Tm,T7,or_false]at az;subst az;cases hx
 ·rw[hK];refine .inl ?_;simp only[GS.dg,jF];omega
def Atom (a:WC)(es:SP):Prop:=es=#[jy a]\/es=#[lA a]\/es=#[jy a,lA a]\/es=Cq a
def Atom.mem{a:WC}{es:SP}(h:Atom a es){e:XH}(he:e∈es):e=jy a\/e=lA a\/e=kz .disable\/e=kz .enable:=by
 rcases h with rfl|rfl|rfl|rfl<;>simp only[Cq,UR,Tm,T7,or_false]at he
 ·exact .inl he
 ·exact .inr (.inl he)
 ·exact he.imp id .inl
 ·rcases he with x|x|x|x
  ·exact .inr (.inr (.inl x))
  ·exact .inl x
  ·exact .inr (.inl x)
  ·exact .inr (.inr (.inr x))
def Atom.behind{a:WC}{es:SP}(h:Atom a es):deafBehind 1 es=1:=by
 rcases h with rfl|rfl|rfl|rfl<;>rfl
def Atom.touch{a:WC}{es:SP}(h:Atom a es){e:XH}(he:e∈es){x:ZJ}(hx:(Uw e).touch?=some x):x.loc=.cell a/\x.kind=.atomic:=by
 rcases h.mem he with rfl|rfl|rfl|rfl
 ·cases hx;exact⟨rfl,rfl⟩
 ·cases hx;exact⟨rfl,rfl⟩
 ·cases hx
 ·cases hx
def Atom.low{a:WC}{es:SP}(h:Atom a es){n:Nat}(ha:a.block<n){e:XH}(he:e∈es):(Uw e).low n:=by
 rcases h.mem he with rfl|rfl|rfl|rfl
 ·exact ha
 ·exact ha
 ·trivial
 ·trivial
def Atom.norel{a:WC}{es:SP}(h:Atom a es){e:XH}(he:e∈es)(b:WC):Uw e≠ .mark (.release b):=by
 rcases h.mem he with rfl|rfl|rfl|rfl<;>simp[jy,lA,kz,Uw]
def Atom.avb{a:WC}{es:SP}(h:Atom a es){i:Nat}{fn:UW}{pos:String}(hd:VZ t i=1){idx:Nat}{op:Xj}{x:ZJ}(de:t.size<=idx)(az:(t++Ui i fn pos es)[idx]?=some op)(hx:op.act.touch?=some x):
  ¬(t++Ui i fn pos es).heard idx:=by
 obtain⟨k,rfl⟩:∃k,idx=t.size+k:=⟨idx-t.size,by omega⟩;have up:(Ui i fn pos es)[k]?=some op:=by rw[Y' (by omega)]at az;simpa using az
 have aQ:op.g=i:=by obtain⟨e,_,rfl⟩:=UU (YU up);rfl
 rintro⟨g,hg,hz⟩
 have:g=i:=by simp[XB,az,aQ]at hg;exact hg.symm
 subst this;have Cw:∀y:Xj,y.act=Uw (jy a)\/y.act=Uw (lA a)->still y.act:=λy hy=>by rcases hy with e|e<;>rw[e]<;>exact⟨by simp[jy,lA,Uw],by simp[jy,lA,Uw]⟩
 rcases h with rfl|rfl|rfl|rfl
 ·have:=vn (t:=t) (u:=Ui g fn pos #[jy a]) (g:=g) (λop az=>by obtain⟨e,he,rfl⟩:=UU az;simp only[UR,Tm,T7,or_false]at he;subst he;exact Cw _ (.inl rfl)) (k:=k) (by have:=UQ up;omega);omega
 ·have:=vn (t:=t) (u:=Ui g fn pos #[lA a]) (g:=g) (λop az=>by obtain⟨e,he,rfl⟩:=UU az;simp only[UR,Tm,T7,or_false]at he;subst he;exact Cw _ (.inr rfl)) (k:=k) (by have:=UQ up;omega);omega
 ·have:=vn (t:=t) (u:=Ui g fn pos #[jy a,lA a]) (g:=g) (λop az=>by obtain⟨e,he,rfl⟩:=UU az;simp only[UR,Tm,T7,or_false]at he;rcases he with rfl|rfl;exact Cw _ (.inl rfl);exact Cw _ (.inr rfl)) (k:=k) (by have:=UQ up;omega);omega
 ·
  have eu:Ui g fn pos (Cq a)=#[{g,fn,pos,act:=.mark .disable},{g,fn,pos,act:=.ofEvent (jy a)},{g,fn,pos,act:=.ofEvent (lA a)},{g,fn,pos,act:=.mark .enable}]:=by simp[Ui,Cq,kz,Uw]
  rw[eu]at up hz;have d0:(t++#[({g,fn,pos,act:=.mark .disable}:Xj),{g,fn,pos,act:=.ofEvent (jy a)},{g,fn,pos,act:=.ofEvent (lA a)},{g,fn,pos,act:=.mark .enable}]).deaf g t.size=1:=by rw[Sg];exact hd
  have d1:=axo (g:=g) (sf (t:=t) (show (#[({g,fn,pos,act:=.mark .disable}:Xj),{g,fn,pos,act:=.ofEvent (jy a)},{g,fn,pos,act:=.ofEvent (lA a)},{g,fn,pos,act:=.mark .enable}]:Vq)[0]?=some _ from rfl));have d2:=axo (g:=g) (sf (t:=t) (show (#[({g,fn,pos,act:=.mark .disable}:Xj),{g,fn,pos,act:=.ofEvent (jy a)},{g,fn,pos,act:=.ofEvent (lA a)},{g,fn,pos,act:=.mark .enable}]:Vq)[1]?=some _ from rfl));have d3:=axo (g:=g) (sf (t:=t) (show (#[({g,fn,pos,act:=.mark .disable}:Xj),{g,fn,pos,act:=.ofEvent (jy a)},{g,fn,pos,act:=.ofEvent (lA a)},{g,fn,pos,act:=.mark .enable}]:Vq)[2]?=some _ from rfl));rw[K2 (Cw _ (.inl rfl))]at d2;rw[K2 (Cw _ (.inr rfl))]at d3;simp only[VA]at d1;rw[d0]at d1;have d1:=d1.trans (show deafStep g 1 {g,fn,pos,act:=.mark .disable}=2 by simp[deafStep]);have hk:k<4:=by have:=UQ up;simpa using this
  match k,hk with
  |0,_=>simp at up;subst up;cases hx
  |1,_=>rw[d1]at hz;omega
  |2,_=>rw[show t.size+2=t.size+1+1 from rfl,d2,d1]at hz;omega
  |3,_=>simp at up;subst up;cases hx
def Rest.atom{Wg:Nat}{s:eO}(hr:Rest Wg t K ic (some s)){a:WC}{es:SP}(h:Atom a es){i:Nat}{fn:UW}{pos:String}(hd:VZ t i=1){K':Nat->GS}(de:∀m,(K' m).idx=(K m).idx):Rest Wg (t++Ui i fn pos es) K' ic (some s):=by
 refine hr.app (λidx a ha hx=> .inr (hx.app (by obtain⟨op,az,_⟩:=Wb ha;exact UQ az) λm _ _ hm=> .inl (by rw[de];exact hm))) (λidx x hi ⟨op,az,zo,hx⟩ _=> .inr (.inl ⟨?_,h.avb hd hi zo hx⟩));obtain⟨e,he,rfl⟩:=UU az;exact(h.touch he hx).2
def WgAt.Jz{Wg:Nat}{a b:Int}(h:WgAt P Wg w a b)(v:Int):WgAt P Wg (w.setCell (eE Wg) (.int .u64 v)) v b:=by
 unfold WgAt at h⊢;unfold Yn;rw[Xn];simp[eE,h,wgBlock]
def WgAt.aeU{Wg:Nat}{a b:Int}(h:WgAt P Wg w a b)(v:Int):WgAt P Wg (w.setCell (pz Wg) (.int .u32 v)) a v:=by
 unfold WgAt at h⊢;unfold Yn;rw[Xn];simp[pz,h,wgBlock]
def WgAt.inj{Wg:Nat}{a b a' b':Int}(h:WgAt P Wg w a b)(k:WgAt P Wg w a' b'):a=a'/\b=b':=by
 unfold WgAt at h k;rw[h]at k;simp[wgBlock]at k;exact k
def Inv.GI(h:Inv P n0 W0 V gs w t K Im ic (some p) st)(aN:p.recv=true){i:Nat}{gi bL:Tj}{es:SP}{k':GS}{s:eO}{a:WC}(hs:st=some s)(hi:0<i)(aQ:gs[i]?=some gi)(aP:stepG P false gi w=.go bL w' es)(hd:VZ t i=1)
  (ha:Atom a es) (Bj:a=eE p.Wg\/a=pz p.Wg) (oy:w'=w\/∃x,w'=w.setCell a x) (hk:k'.is P p.c p.Wg Im p.Ss 1 bL) (qY:m_ (k'.view Im) ((K i).view Im)) (zg:k'.nS=true->i=ic) (de:k'.idx=none) (vQ:(K i).idx=none)
  (kD:i=ic\/(K i).cnt=1\/(K i).late=1) (im:∃n,w.heap[p.c]?=some (.chan 0 #[] false n n false))
  (zu:Mode P p.c p.Wg gs.size w' ((gs.map (woken P gi bL w')).setIfInBounds i bL) (t++Ui i gi.frame.fn gi.frame.place es) (upd K i k') ic s) (vY:rP k'.dg (K i).dg):g_ P n0 W0 V gs w sl t K Im ic (some p) st i:=by
 have hlt:i<gs.size:=(T5.1 aQ).1;have xr:a.block=p.Wg:=by rcases Bj with rfl|rfl<;>rfl
 have su:p.c≠p.Wg:=h.phase.2.2.1;have ik:∀b,b≠p.Wg->w'.heap[b]?=w.heap[b]?:=λb hb=>by
  rcases oy with rfl|⟨x,rfl⟩
  ·rfl
  ·exact xz _ _ _ (by rw[xr];exact Ne.symm hb)
 have aZ:w'.heap.size=w.heap.size:=by rcases oy with rfl|⟨x,rfl⟩;rfl;exact FV _ _ _
 refine h.uQ aN hi aQ aP (by rw[hd,ha.behind];exact hk) qY zg de (λj hj=>by rw[vQ]at hj;cases hj) (kD.imp id .inr) (λe he x hx=> .inl ?_) (λe he=>ha.low (by rw[xr];exact h.low.2) he) (λe he b=>ha.norel he b) aZ (λb _ hb=>ik b hb)
  (by rcases oy with rfl|⟨x,rfl⟩<;>rfl) (by rcases oy with rfl|⟨x,rfl⟩<;>rfl) (by rcases oy with rfl|⟨x,rfl⟩<;>rfl) zu (.inl (by rw[ik _ su];exact im)) ?_ (zV hlt vY)
 ·have:=ha.touch he hx;exact⟨by rw[this.1];exact xr,this.2⟩
 ·have hr:Rest p.Wg t K ic st:=h.out.2.2.1;rw[hs]at hr;exact hr.atom ha hd λm=>by
   by_cases hm:m=i
   ·subst hm;rw[bG,de,vQ]
   ·rw[br _ _ hm]
def Inv.ahe(h:Inv P n0 W0 V gs w t K Im ic (some p) st)(aN:p.recv=true){i n:Nat}{gi:Tj}(hi:0<i)(aQ:gs[i]?=some gi)(hK:K i=.add n)(jX:CP P p.Wg (VZ t i) gi):g_ P n0 W0 V gs w sl t K Im ic (some p) st i:=by
 have hlt:i<gs.size:=(T5.1 aQ).1;obtain⟨s,hs,gQ,jk,hm⟩:=h.mode aN;have gz:(K i).cnt=1:=by rw[hK];rfl
 have fC:(K i).late=0:=by rw[hK];rfl
 have vQ:(K i).idx=none:=by rw[hK];rfl
 have im:=(h.counted hi hlt gz).1;have aF:ic≠i:=λe=>by have:=(Mode.waits hm).1;rw[e,gz]at this;cases this
 obtain⟨hd,bQ,Ip⟩:=jX;have hle:(K i).cnt<=sumTo gs.size λi=>(K i).cnt:=XD (f:=λi=>(K i).cnt) hlt;have su:p.c≠p.Wg:=h.phase.2.2.1;have hq:∀(k':GS),sumTo gs.size (λa=>(upd K i k' a).cnt)+(K i).cnt=sumTo gs.size (λa=>(K a).cnt)+k'.cnt:=λk'=>Cx K k' GS.cnt hlt;have ut:∀(k':GS),sumTo gs.size (λa=>(upd K i k' a).late)+(K i).late=sumTo gs.size (λa=>(K a).late)+k'.late:=λk'=>Cx K k' GS.late hlt;have qY:∀k':GS,k'.view Im=noView->m_ (k'.view Im) ((K i).view Im):=λk' e=>by rw[e];exact IR _
 have leave:∀(wt v:Nat),wt<=1->v+1=(sumTo gs.size λi=>(K i).cnt)->v<4->¬(v=0/\wt=1)->s=.early->(sumTo gs.size λi=>(K i).late)=0->WgAt P p.Wg w (((v+1:Nat):Int)* KK+wt) 0->
   ((wt=0/\((∃k,(K ic).shape=.head k 0/\v<k)\/(∃u,(K ic).shape=.mD u 0/\v<=u/\0<u)))\/(wt=1/\((K ic).shape=.said 0\/(K ic).shape=.iL 0)))->g_ P n0 W0 V gs w sl t K Im ic (some p) st i:=by
  intro wt v v_ hv Iu fS hse awz hW bi;obtain⟨g',aP,_,fJ⟩:=Ip v wt v_ Iu;obtain⟨q,fJ⟩:=fJ fS;have EI:=hq (.gone q);have EH:=ut (.gone q);simp only[gz,fC]at EI EH;rw[show (GS.gone q).cnt=0 from rfl]at EI;rw[show (GS.gone q).late=0 from rfl]at EH;refine h.GI aN (k':=.gone q) (a:=eE p.Wg) hs hi aQ (aP w hW) hd (.inr (.inr (.inl rfl))) (.inl rfl) (.inr ⟨_,rfl⟩) fJ (qY _ rfl) (λx=>by cases x) rfl vQ (.inr (.inl gz)) im ?_ (by rw[hK];exact .inl (by simp[GS.dg]));have xk:=hW.Jz ((v:Int)* KK+wt);unfold Mode;simp only[br _ _ aF];have Li:sumTo gs.size (λa=>(upd K i (.gone q) a).cnt)=v:=by omega
  have Lm:sumTo gs.size (λa=>(upd K i (.gone q) a).late)=0:=by omega
  simp only[Li,Lm];have ho:∃n,(w.setCell (eE p.Wg) (.int .u64 ((v:Int)* KK+wt))).heap[p.c]?=some (.chan 0 #[] false n n false):=by
   obtain⟨n,hn⟩:=im;exact⟨n,by rw[xz _ _ _ (Ne.symm su)];exact hn⟩
  rcases bi with⟨rfl,bi⟩|⟨rfl,bi⟩
  ·exact .inl ⟨ho,hse,trivial,by omega,by simpa using xk,bi⟩
  ·exact .inr (.inl ⟨ho,hse,trivial,by omega,by omega,by simpa using xk,bi⟩)
 unfold Mode at hm;rcases hm with m|m|m|m|m|m|m
 ·obtain⟨m1,m2,m3,m4,m5,m6⟩:=m;refine leave 0 ((sumTo gs.size λi=>(K i).cnt)-1) (by omega) (by omega) (by omega) (by omega) m2 m3 ?_ (.inl ⟨rfl,?_⟩)
  ·rw[show (sumTo gs.size λi=>(K i).cnt)-1+1=(sumTo gs.size λi=>(K i).cnt) by omega];simpa using m5
  ·rcases m6 with⟨k,e1,e2⟩|⟨u,e1,e2,e3⟩
   ·exact .inl ⟨k,e1,by omega⟩
   ·exact .inr ⟨u,e1,by omega,e3⟩
 ·obtain⟨m1,m2,m3,m4,m5,m6,m7⟩:=m;by_cases hv:(sumTo gs.size λi=>(K i).cnt)=1
  ·
   obtain⟨g',aP,fI,_⟩:=Ip 0 1 (by omega) (by omega);obtain⟨n',fI⟩:=fI ⟨rfl,rfl⟩;have EI:=hq (.load n');have EH:=ut (.load n');simp only[gz,fC]at EI EH;rw[show (GS.load n').cnt=0 from rfl]at EI;rw[show (GS.load n').late=1 from rfl]at EH;rw[hv]at m6;have hW:WgAt P p.Wg w (((0+1:Nat):Int)* KK+(1:Nat)) 0:=(by simpa using m6);refine h.GI aN (k':=.load n') (a:=eE p.Wg) hs hi aQ (aP w hW) hd (.inr (.inr (.inl rfl))) (.inl rfl) (.inr ⟨_,rfl⟩) fI (qY _ rfl) (λx=>by cases x) rfl vQ (.inr (.inl gz)) im ?_ (by rw[hK];exact .inl (by simp[GS.dg]));have xk:=hW.Jz (((0:Nat):Int)* KK+(1:Nat));unfold Mode;simp only[br _ _ aF];have Li:sumTo gs.size (λa=>(upd K i (.load n') a).cnt)=0:=(by omega);have Lm:sumTo gs.size (λa=>(upd K i (.load n') a).late)=1:=(by omega);simp only[Li,Lm];have ho:∃n,(w.setCell (eE p.Wg) (.int .u64 (((0:Nat):Int)* KK+(1:Nat)))).heap[p.c]?=some (.chan 0 #[] false n n false):=by
    obtain⟨n,hn⟩:=im;exact⟨n,by rw[xz _ _ _ (Ne.symm su)];exact hn⟩
   refine .inr (.inr (.inl ⟨ho,m2,trivial,trivial,m7,λ_ _ _=>by simpa using xk,λm hm rj=> ?_⟩));exfalso;have cV:m≠i:=λe=>(by subst e;rw[bG]at rj;cases rj);rw[br _ _ cV]at rj;have hlm:(K m).late<=sumTo gs.size λi=>(K i).late:=XD (f:=λi=>(K i).late) hm;rw[m3,<- GS.mT,rj]at hlm;simp[GS.late]at hlm
  ·refine leave 1 ((sumTo gs.size λi=>(K i).cnt)-1) (by omega) (by omega) (by omega) (by omega) m2 m3 ?_ (.inr ⟨rfl,m7⟩);rw[show (sumTo gs.size λi=>(K i).cnt)-1+1=(sumTo gs.size λi=>(K i).cnt) by omega];simpa using m6
 ·have:=m.2.2.2.1;omega
 ·have:=m.2.2.2.1;omega
 ·have:=m.2.2.2.1;omega
 ·have:=m.2.2.2.1;omega
 ·have:=m.2.2.1;omega
def Mode.Fj{c Wg N:Nat}{s:eO}(hm:Mode P c Wg N w gs t K ic s){i:Nat}(hlt:i<N)(fC:(K i).late=1):
  (∃n,w.heap[c]?=some (.chan 0 #[] false n n false))/\s=.early/\(sumTo N λi=>(K i).late)=1/\(sumTo N λi=>(K i).cnt)=0/\((K ic).shape=.said 0\/(K ic).shape=.iL 0)/\
  (((K i).shape=.load 0\/(K i).shape=.store 0)->WgAt P Wg w 1 0)/\((K i).shape=.mX 0->WgAt P Wg w 0 0):=by
 have hle:(K i).late<=sumTo N λi=>(K i).late:=XD (f:=λi=>(K i).late) hlt;unfold Mode at hm;rcases hm with m|m|m|m|m|m|m
 ·have:=m.2.2.1;omega
 ·have:=m.2.2.1;omega
 ·exact⟨m.1,m.2.1,m.2.2.1,m.2.2.2.1,m.2.2.2.2.1,m.2.2.2.2.2.1 i hlt,m.2.2.2.2.2.2 i hlt⟩
 ·have:=m.2.2.1;omega
 ·have:=m.2.2.1;omega
 ·have:=m.2.2.1;omega
 ·have:=m.2.1;omega
def adZ{N:Nat}(h:(sumTo N λi=>(K i).late)=1){i m:Nat}(hi:i<N)(hm:m<N)(aF:m≠i)(fC:(K i).late=1):(K m).late=0:=by
 have:=Cx K (.gone 0) GS.late hi;have h2:((upd K i (.gone 0)) m).late<=sumTo N λa=>(upd K i (.gone 0) a).late:=XD (f:=λa=>(upd K i (.gone 0) a).late) hm;rw[br _ _ aF]at h2;simp only[fC,h,show (GS.gone 0).late=0 from rfl]at this;omega
def Inv.ON(h:Inv P n0 W0 V gs w t K Im ic (some p) st)(aN:p.recv=true){i:Nat}{gi bL:Tj}{es:SP}{k':GS}{a:WC}(hi:0<i)(aQ:gs[i]?=some gi)(aP:stepG P false gi w=.go bL w' es)(hd:VZ t i=1)
  (ha:Atom a es) (Bj:a=eE p.Wg\/a=pz p.Wg) (oy:w'=w\/∃x,w'=w.setCell a x) (hk:k'.is P p.c p.Wg Im p.Ss 1 bL) (hv:k'.view Im=noView) (de:k'.idx=none) (vQ:(K i).idx=none) (pU:(K i).cnt=0) (amB:k'.cnt=0) (zg:k'.nS=false) (fC:(K i).late=1)
  (ui:(k'.late=1/\((k'.shape=.load 0\/k'.shape=.store 0)->WgAt P p.Wg w' 1 0)/\(k'.shape=.mX 0->WgAt P p.Wg w' 0 0))\/
   (k'.late=0/\WgAt P p.Wg w' 0 1/\∀g,((gs.map (woken P gi bL w')).setIfInBounds i bL)[ic]?=some g->g.status=.running)) (vY:rP k'.dg (K i).dg):g_ P n0 W0 V gs w sl t K Im ic (some p) st i:=by
 have hlt:i<gs.size:=(T5.1 aQ).1;obtain⟨s,hs,gQ,jk,hm⟩:=h.mode aN;obtain⟨m1,m2,m3,m4,m5,m6,m7⟩:=hm.Fj hlt fC;have aF:ic≠i:=λe=>by have:=(Mode.waits hm).2;rw[e,fC]at this;cases this
 have su:p.c≠p.Wg:=h.phase.2.2.1;have xr:a.block=p.Wg:=by rcases Bj with rfl|rfl<;>rfl
 have ik:∀b,b≠p.Wg->w'.heap[b]?=w.heap[b]?:=λb hb=>by
  rcases oy with rfl|⟨x,rfl⟩
  ·rfl
  ·exact xz _ _ _ (by rw[xr];exact Ne.symm hb)
 refine h.GI aN hs hi aQ aP hd ha Bj oy hk (by rw[hv];exact IR _) (λx=>by rw[zg]at x;cases x) de vQ (.inr (.inr fC)) m1 ?_ vY;have e1:sumTo gs.size (λa=>(upd K i k' a).cnt)=0:=by have:=Cx K k' GS.cnt hlt;simp only[pU,amB,m4]at this;omega
 unfold Mode;simp only[br _ _ aF,e1,ik _ su];rcases ui with⟨x1,x2,x3⟩|⟨x1,x2,x3⟩
 ·have e2:sumTo gs.size (λa=>(upd K i k' a).late)=1:=by have:=Cx K k' GS.late hlt;simp only[fC,x1,m3]at this;omega
  refine .inr (.inr (.inl ⟨m1,m2,e2,trivial,m5,λm hm dP=> ?_,λm hm dP=> ?_⟩))
  ·by_cases cV:m=i
   ·subst cV;rw[bG]at dP;exact x2 dP
   ·rw[br _ _ cV]at dP;have:=adZ m3 hlt hm cV fC;rw[<- GS.mT]at this;rcases dP with e|e<;>rw[e]at this<;>cases this
  ·by_cases cV:m=i
   ·subst cV;rw[bG]at dP;exact x3 dP
   ·rw[br _ _ cV]at dP;have:=adZ m3 hlt hm cV fC;rw[<- GS.mT,dP]at this;cases this
 ·have e2:sumTo gs.size (λa=>(upd K i k' a).late)=0:=by have:=Cx K k' GS.late hlt;simp only[fC,x1,m3]at this;omega
  exact .inr (.inr (.inr (.inl ⟨m1,m2,e2,trivial,x2,x3,m5⟩)))
def Inv.apJ(h:Inv P n0 W0 V gs w t K Im ic (some p) st)(aN:p.recv=true){i n:Nat}{gi:Tj}(hi:0<i)(aQ:gs[i]?=some gi)(hK:K i=.load n)(jX:Gc P p.Wg (VZ t i) gi):g_ P n0 W0 V gs w sl t K Im ic (some p) st i:=by
 have hlt:i<gs.size:=(T5.1 aQ).1;obtain⟨s,hs,gQ,jk,hm⟩:=h.mode aN;have fC:(K i).late=1:=by rw[hK];rfl
 obtain⟨m1,m2,m3,m4,m5,m6,m7⟩:=hm.Fj hlt fC;obtain⟨hd,bQ,g',aP,n',cu⟩:=jX;have hW:=m6 (by rw[hK];exact .inl rfl);exact h.ON aN (k':=.store n') (a:=eE p.Wg) hi aQ (aP w hW) hd (.inl rfl) (.inl rfl) (.inl rfl) cu rfl rfl (by rw[hK];rfl) (by rw[hK];rfl) rfl rfl fC (.inl ⟨rfl,λ_=>hW,λx=>by cases x⟩) (by rw[hK];exact .inl (by simp[GS.dg]))
def Inv.auc(h:Inv P n0 W0 V gs w t K Im ic (some p) st)(aN:p.recv=true){i n:Nat}{gi:Tj}(hi:0<i)(aQ:gs[i]?=some gi)(hK:K i=.store n)(jX:Ge P p.Wg (VZ t i) gi):g_ P n0 W0 V gs w sl t K Im ic (some p) st i:=by
 have hlt:i<gs.size:=(T5.1 aQ).1;obtain⟨s,hs,gQ,jk,hm⟩:=h.mode aN;have fC:(K i).late=1:=by rw[hK];rfl
 obtain⟨m1,m2,m3,m4,m5,m6,m7⟩:=hm.Fj hlt fC;obtain⟨hd,bQ,g',aP,n',cu⟩:=jX;have hW:=m6 (by rw[hK];exact .inr rfl);exact h.ON aN (k':=.mX n') (a:=eE p.Wg) hi aQ (aP w hW) hd (.inr (.inl rfl)) (.inl rfl) (.inr ⟨_,rfl⟩) cu rfl rfl (by rw[hK];rfl) (by rw[hK];rfl) rfl rfl fC (.inl ⟨rfl,λx=>(x.elim (λy=>by cases y) (λy=>by cases y)),λ_=>hW.Jz 0⟩) (by rw[hK];exact .inl (by simp[GS.dg]))
def Inv.atf(h:Inv P n0 W0 V gs w t K Im ic (some p) st)(aN:p.recv=true){i n:Nat}{gi:Tj}(hi:0<i)(aQ:gs[i]?=some gi)(hK:K i=.mX n)(jX:Gd P p.Wg (VZ t i) gi):g_ P n0 W0 V gs w sl t K Im ic (some p) st i:=by
 have hlt:i<gs.size:=(T5.1 aQ).1;obtain⟨s,hs,gQ,jk,hm⟩:=h.mode aN;have fC:(K i).late=1:=by rw[hK];rfl
 obtain⟨m1,m2,m3,m4,m5,m6,m7⟩:=hm.Fj hlt fC;obtain⟨hd,bQ,Ns,g',aP,q,fJ⟩:=jX;have hW:=m7 (by rw[hK];rfl);have aF:ic≠i:=λe=>by have:=(Mode.waits hm).2;rw[e,fC]at this;cases this
 refine h.ON aN (k':=.gone q) (a:=pz p.Wg) hi aQ (aP w hW) hd (.inr (.inr (.inr rfl))) (.inr rfl) (.inr ⟨_,rfl⟩) fJ rfl rfl (by rw[hK];rfl) (by rw[hK];rfl) rfl rfl fC (.inr ⟨rfl,hW.aeU 1,λg hg=> ?_⟩) (by rw[hK];exact .inl (by simp[GS.dg]));rcases getElem?_next hlt hg with⟨e,_⟩|⟨_,y,hy,rfl⟩
 ·exact absurd e aF
 ·have zq:=h.is ic y gQ hy;simp only at zq;have dP:(∃n,K ic=.said n)\/∃n,K ic=.iL n:=by
   cases y9:K ic<;>rw[y9]at m5<;>simp[GS.shape]at m5
   ·exact .inl ⟨_,rfl⟩
   ·exact .inr ⟨_,rfl⟩
  rcases dP with⟨n1,e⟩|⟨n1,e⟩
  ·rw[e]at zq;have hr:y.status=.running:=iJ.running (λd g x=>x.2.1) zq;rw[Zl hr];exact hr
  ·rw[e]at zq;rcases zq with zq|⟨_,g1,rfl,M0⟩
   ·have hr:y.status=.running:=cY.running (λd g x=>x.2.1) zq;rw[Zl hr];exact hr
   ·have M7:g'.status=.running\/g'.status=.finished:=ar' fJ;unfold woken;have amA:(mayWake P gi&&g'.status != .blocked&&g'.status != .waiting)=true:=(by rcases M7 with hs|hs<;>simp[Ns,hs]);rw[if_pos amA];unfold ZX;have:=M0.2.2.1;simp[this]
def Mode.ahL{c Wg N k:Nat}{s:eO}(hm:Mode P c Wg N w gs t K ic s)(e:(K ic).shape=.head k 0):
  (∃n,w.heap[c]?=some (.chan 0 #[] false n n false))/\s=.early/\(sumTo N λi=>(K i).late)=0/\(sumTo N λi=>(K i).cnt)<=4/\WgAt P Wg w (((sumTo N λi=>(K i).cnt:Nat):Int)* KK) 0/\(sumTo N λi=>(K i).cnt)<k:=by
 unfold Mode at hm;simp only[e]at hm;rcases hm with m|m|m|m|m|m|m
 ·obtain⟨a,b,c,d,f,x⟩:=m;refine⟨a,b,c,d,f,?_⟩;rcases x with⟨k',x,y⟩|⟨v,x,_⟩
  ·cases x;exact y
  ·cases x
 ·rcases m.2.2.2.2.2.2 with x|x<;>cases x
 ·rcases m.2.2.2.2.1 with x|x<;>cases x
 ·rcases m.2.2.2.2.2.2 with x|x<;>cases x
 ·rcases m.2.2.2.2.2 with x|x<;>cases x
 ·rcases m.2.2.2.2 with x|x<;>cases x
 ·cases m.2.2.2
def Mode.ahK{c Wg N v:Nat}{s:eO}(hm:Mode P c Wg N w gs t K ic s)(e:(K ic).shape=.mD v 0):
  (∃n,w.heap[c]?=some (.chan 0 #[] false n n false))/\s=.early/\(sumTo N λi=>(K i).late)=0/\(sumTo N λi=>(K i).cnt)<=4/\WgAt P Wg w (((sumTo N λi=>(K i).cnt:Nat):Int)* KK) 0/\(sumTo N λi=>(K i).cnt)<=v/\0<v:=by
 unfold Mode at hm;simp only[e]at hm;rcases hm with m|m|m|m|m|m|m
 ·obtain⟨a,b,c,d,f,x⟩:=m;refine⟨a,b,c,d,f,?_⟩;rcases x with⟨k',x,y⟩|⟨v,x,y⟩
  ·cases x
  ·cases x;exact y
 ·rcases m.2.2.2.2.2.2 with x|x<;>cases x
 ·rcases m.2.2.2.2.1 with x|x<;>cases x
 ·rcases m.2.2.2.2.2.2 with x|x<;>cases x
 ·rcases m.2.2.2.2.2 with x|x<;>cases x
 ·rcases m.2.2.2.2 with x|x<;>cases x
 ·cases m.2.2.2
def Mode.Rj{c Wg N:Nat}{s:eO}(hm:Mode P c Wg N w gs t K ic s)(e:(K ic).shape=.last 0\/(K ic).shape=.acq 0):
  (∃n,w.heap[c]?=some (.chan 0 #[] false n n false))/\s=.early/\(sumTo N λi=>(K i).late)=0/\(sumTo N λi=>(K i).cnt)=0/\WgAt P Wg w 0 0:=by
 unfold Mode at hm;rcases hm with m|m|m|m|m|m|m
 ·rcases m.2.2.2.2.2 with⟨_,x,_⟩|⟨_,x,_⟩<;>rcases e with e|e<;>rw[e]at x<;>cases x
 ·rcases m.2.2.2.2.2.2 with x|x<;>rcases e with e|e<;>rw[e]at x<;>cases x
 ·rcases m.2.2.2.2.1 with x|x<;>rcases e with e|e<;>rw[e]at x<;>cases x
 ·rcases m.2.2.2.2.2.2 with x|x<;>rcases e with e|e<;>rw[e]at x<;>cases x
 ·exact⟨m.1,m.2.1,m.2.2.1,m.2.2.2.1,m.2.2.2.2.1⟩
 ·rcases m.2.2.2.2 with x|x<;>rcases e with e|e<;>rw[e]at x<;>cases x
 ·have x:=m.2.2.2;rcases e with e|e<;>rw[e]at x<;>cases x
def Mode.Rk{c Wg N:Nat}{s:eO}(hm:Mode P c Wg N w gs t K ic s)(e:(K ic).shape=.look 0\/(K ic).shape=.close 0):
  (∃n,w.heap[c]?=some (.chan 0 #[] false n n false))/\s=.got/\(sumTo N λi=>(K i).late)=0/\(sumTo N λi=>(K i).cnt)=0:=by
 unfold Mode at hm;rcases hm with m|m|m|m|m|m|m
 ·rcases m.2.2.2.2.2 with⟨_,x,_⟩|⟨_,x,_⟩<;>rcases e with e|e<;>rw[e]at x<;>cases x
 ·rcases m.2.2.2.2.2.2 with x|x<;>rcases e with e|e<;>rw[e]at x<;>cases x
 ·rcases m.2.2.2.2.1 with x|x<;>rcases e with e|e<;>rw[e]at x<;>cases x
 ·rcases m.2.2.2.2.2.2 with x|x<;>rcases e with e|e<;>rw[e]at x<;>cases x
 ·rcases m.2.2.2.2.2 with x|x<;>rcases e with e|e<;>rw[e]at x<;>cases x
 ·exact⟨m.1,m.2.1,m.2.2.1,m.2.2.2.1⟩
 ·have x:=m.2.2.2;rcases e with e|e<;>rw[e]at x<;>cases x
def Mode.Rl{c Wg N:Nat}{s:eO}(hm:Mode P c Wg N w gs t K ic s)(e:(K ic).shape=.said 0\/(K ic).shape=.iL 0):
  (∃n,w.heap[c]?=some (.chan 0 #[] false n n false))/\s=.early/\((∃st,WgAt P Wg w st 0)\/((sumTo N λi=>(K i).late)=0/\(sumTo N λi=>(K i).cnt)=0/\WgAt P Wg w 0 1))/\
  ∀{w':Uu}{gs':SQ}{u:Vq}{k':GS},(k'.shape=.said 0\/k'.shape=.iL 0)->w'.heap[c]?=w.heap[c]?->w'.heap[Wg]?=w.heap[Wg]?->(WgAt P Wg w 0 1->∀g,gs'[ic]?=some g->g.status=.running)->ic<N->Mode P c Wg N w' gs' (t++u) (upd K ic k') ic s:=by
 have wait:∀{k:GS},(k.shape=.said 0\/k.shape=.iL 0)->k.cnt=0/\k.late=0:=λ{k} h=>by rw[<- GS.nT,<- GS.mT];rcases h with h|h<;>rw[h]<;>exact⟨rfl,rfl⟩
 have tail:∀(w':Uu)(gs':SQ)(u:Vq)(k':GS),(k'.shape=.said 0\/k'.shape=.iL 0)->w'.heap[c]?=w.heap[c]?->w'.heap[Wg]?=w.heap[Wg]?->(WgAt P Wg w 0 1->∀g,gs'[ic]?=some g->g.status=.running)->ic<N->Mode P c Wg N w' gs' (t++u) (upd K ic k') ic s:=by
  intro w' gs' u k' hk hc hW hr gB;have e1:sumTo N (λi=>(upd K ic k' i).cnt)=sumTo N λi=>(K i).cnt:=lT K k' GS.cnt (by rw[(wait hk).1,(wait e).1]);have e2:sumTo N (λi=>(upd K ic k' i).late)=sumTo N λi=>(K i).late:=lT K k' GS.late (by rw[(wait hk).2,(wait e).2]);have e3:∀st sm,WgAt P Wg w' st sm=WgAt P Wg w st sm:=λst sm=>by unfold WgAt;rw[hW]
  have e5:∀i (q:GS),(q=.load 0\/q=.store 0\/q=.mX 0)->(upd K ic k' i).shape=q->(K i).shape=q:=λi q hq hs=>by
   by_cases hi:i=ic
   ·subst hi;rw[bG]at hs;rcases hk with x|x<;>rw[x]at hs<;>subst hs<;>rcases hq with y|y|y<;>cases y
   ·rw[br _ _ hi]at hs;exact hs
  unfold Mode at hm⊢;simp only[e1,e2,e3,hc,bG];rcases hm with m|m|m|m|m|m|m
  ·rcases m.2.2.2.2.2 with⟨_,x,_⟩|⟨_,x,_⟩<;>rcases e with e|e<;>rw[e]at x<;>cases x
  ·exact .inr (.inl ⟨m.1,m.2.1,m.2.2.1,m.2.2.2.1,m.2.2.2.2.1,m.2.2.2.2.2.1,hk⟩)
  ·exact .inr (.inr (.inl ⟨m.1,m.2.1,m.2.2.1,m.2.2.2.1,hk,λi hi x=>m.2.2.2.2.2.1 i hi (x.imp (e5 i _ (.inl rfl)) (e5 i _ (.inr (.inl rfl)))),λi hi x=>m.2.2.2.2.2.2 i hi (e5 i _ (.inr (.inr rfl)) x)⟩))
  ·exact .inr (.inr (.inr (.inl ⟨m.1,m.2.1,m.2.2.1,m.2.2.2.1,m.2.2.2.2.1,hr m.2.2.2.2.1,hk⟩)))
  ·rcases m.2.2.2.2.2 with x|x<;>rcases e with e|e<;>rw[e]at x<;>cases x
  ·rcases m.2.2.2.2 with x|x<;>rcases e with e|e<;>rw[e]at x<;>cases x
  ·have x:=m.2.2.2;rcases e with e|e<;>rw[e]at x<;>cases x
 have eB:=hm;unfold Mode at hm;rcases hm with m|m|m|m|m|m|m
 ·rcases m.2.2.2.2.2 with⟨_,x,_⟩|⟨_,x,_⟩<;>rcases e with e|e<;>rw[e]at x<;>cases x
 ·exact⟨m.1,m.2.1,.inl ⟨_,m.2.2.2.2.2.1⟩,λ{w'} {gs'} {u} {k'}=>tail w' gs' u k'⟩
 ·refine⟨m.1,m.2.1,.inl ?_,λ{w'} {gs'} {u} {k'}=>tail w' gs' u k'⟩;have:∃i,i<N/\(K i).late=1:=by
   apply Uz;intro fS;have hz:sumTo N (λi=>(K i).late)=sumTo N λ_=>0:=Wz λi hi=>by
    have aF:¬(K i).late=1:=λx=>fS ⟨i,hi,x⟩;cases lB:K i<;>rw[lB]at aF<;>first|rfl|exact absurd rfl aF
   have h0:sumTo N (λ_=>0)=0:=by
    have:∀N,sumTo N (λ_=>0)=0:=λN=>(by induction N with|zero=>rfl|succ N ih=>simp[sumTo,ih]);exact this N
   have:=m.2.2.1;omega
  obtain⟨i,hi,fC⟩:=this;obtain⟨_,_,_,_,_,m6,m7⟩:=eB.Fj hi fC;cases lB:K i<;>rw[lB]at fC m6 m7<;>simp[GS.late]at fC
  ·exact⟨1,m6 (.inl rfl)⟩
  ·exact⟨1,m6 (.inr rfl)⟩
  ·exact⟨0,m7 rfl⟩
 ·exact⟨m.1,m.2.1,.inr ⟨m.2.2.1,m.2.2.2.1,m.2.2.2.2.1⟩,λ{w'} {gs'} {u} {k'}=>tail w' gs' u k'⟩
 ·rcases m.2.2.2.2.2 with x|x<;>rcases e with e|e<;>rw[e]at x<;>cases x
 ·rcases m.2.2.2.2 with x|x<;>rcases e with e|e<;>rw[e]at x<;>cases x
 ·have x:=m.2.2.2;rcases e with e|e<;>rw[e]at x<;>cases x
def IQ(Im:cG):m_ {noView with ai:=Im} {noView with ai:=Im}:=⟨λ_=> .inr rfl,λ_ _=> .inr rfl,λ_ _ _=>rfl⟩
def apu(Im:cG):m_ noView {noView with ai:=Im}:=⟨λ_=> .inr rfl,λ_ _=> .inl rfl,λb hb=>absurd rfl hb⟩
def Inv.AU(h:Inv P n0 W0 V gs w t K Im ic (some p) st)(aN:p.recv=true){gi bL:Tj}{es:SP}{k':GS}{a:WC}{s:eO}(hs:st=some s)(aQ:gs[ic]?=some gi)(aP:stepG P false gi w=.go bL w' es)(hd:VZ t ic=1)
  (ha:Atom a es) (Bj:a=eE p.Wg\/a=pz p.Wg) (oy:w'=w\/∃x,w'=w.setCell a x) (hk:k'.is P p.c p.Wg Im p.Ss 1 bL) (hv:k'.view Im={noView with ai:=Im}) (v8:(K ic).view Im={noView with ai:=Im}) (de:k'.idx=none) (vQ:(K ic).idx=none)
  (im:∃n,w.heap[p.c]?=some (.chan 0 #[] false n n false))
  (zu:Mode P p.c p.Wg gs.size w' ((gs.map (woken P gi bL w')).setIfInBounds ic bL) (t++Ui ic gi.frame.fn gi.frame.place es) (upd K ic k') ic s) (vY:rP k'.dg (K ic).dg):g_ P n0 W0 V gs w sl t K Im ic (some p) st ic:=by
 obtain⟨s',_,gQ,_,_⟩:=h.mode aN;exact h.GI aN hs gQ aQ aP hd ha Bj oy hk (by rw[hv,v8];exact IQ Im) (λ_=>rfl) de vQ (.inl rfl) im zu vY
def Inv.amU(h:Inv P n0 W0 V gs w t K Im ic (some p) st)(aN:p.recv=true){k n:Nat}{gi:Tj}(aQ:gs[ic]?=some gi)(hK:K ic=.head k n)(jX:eZ P Im p.c p.Wg k (VZ t ic) gi):g_ P n0 W0 V gs w sl t K Im ic (some p) st ic:=by
 obtain⟨s,hs,gQ,jk,hm⟩:=h.mode aN;obtain⟨m1,m2,m3,m4,m5,m6⟩:=hm.ahL (k:=k) (by rw[hK];rfl);obtain⟨k,rfl⟩:∃k',k=k'+1:=⟨k-1,by omega⟩;obtain⟨hd,bQ,Ip⟩:=eZ.succ _ _ _ _ jX;obtain⟨g',aP,hz,Ny⟩:=Ip _ (by omega) m4;have mf:=aP w m5;have vk:∀k':GS,k'.cnt=0->k'.late=0->sumTo gs.size (λi=>(upd K ic k' i).cnt)=(sumTo gs.size λi=>(K i).cnt)/\sumTo gs.size (λi=>(upd K ic k' i).late)=(sumTo gs.size λi=>(K i).late):=λk' h1 h2=>
  ⟨lT K k' GS.cnt (by rw[h1,hK];rfl),lT K k' GS.late (by rw[h2,hK];rfl)⟩
 by_cases hv:(sumTo gs.size λi=>(K i).cnt)=0
 ·obtain⟨n',cu⟩:=hz hv;refine h.AU aN (k':=.acq n') (a:=eE p.Wg) hs aQ mf hd (.inl rfl) (.inl rfl) (.inl rfl) cu rfl (by rw[hK];rfl) rfl (by rw[hK];rfl) m1 ?_ (by rw[hK];exact .inl (by simp[GS.dg];omega));unfold Mode;simp only[(vk (.acq n') rfl rfl).1,(vk (.acq n') rfl rfl).2,bG];refine .inr (.inr (.inr (.inr (.inl ⟨m1,m2,m3,hv,?_,.inr rfl⟩))));rw[hv]at m5;simpa using m5
 ·obtain⟨n',cu⟩:=Ny hv;refine h.AU aN (k':=.mD (sumTo gs.size λi=>(K i).cnt) n') (a:=eE p.Wg) hs aQ mf hd (.inl rfl) (.inl rfl) (.inl rfl) cu rfl (by rw[hK];rfl) rfl (by rw[hK];rfl) m1 ?_ (by rw[hK];exact .inl (by simp[GS.dg];omega));unfold Mode;simp only[(vk (.mD _ n') rfl rfl).1,(vk (.mD _ n') rfl rfl).2,bG];exact .inl ⟨m1,m2,m3,m4,m5,.inr ⟨_,rfl,Ts _,by omega⟩⟩
def Inv.aiK(h:Inv P n0 W0 V gs w t K Im ic (some p) st)(aN:p.recv=true){v n:Nat}{gi:Tj}(aQ:gs[ic]?=some gi)(hK:K ic=.mD v n)(jX:F' P p.c p.Wg Im v (VZ t ic) gi):g_ P n0 W0 V gs w sl t K Im ic (some p) st ic:=by
 obtain⟨s,hs,gQ,jk,hm⟩:=h.mode aN;obtain⟨m1,m2,m3,m4,m5,m6,m7⟩:=hm.ahK (v:=v) (by rw[hK];rfl);obtain⟨hd,bQ,⟨g1,Io,n1,aob⟩,ani⟩:=jX;have su:p.c≠p.Wg:=h.phase.2.2.1;have vk:∀k':GS,k'.cnt=0->k'.late=0->sumTo gs.size (λi=>(upd K ic k' i).cnt)=(sumTo gs.size λi=>(K i).cnt)/\sumTo gs.size (λi=>(upd K ic k' i).late)=(sumTo gs.size λi=>(K i).late):=λk' h1 h2=>
  ⟨lT K k' GS.cnt (by rw[h1,hK];rfl),lT K k' GS.late (by rw[h2,hK];rfl)⟩
 by_cases hv:(sumTo gs.size λi=>(K i).cnt)=v
 ·refine h.AU aN (k':=.said n1) (a:=eE p.Wg) hs aQ (Io w (by rw[<- hv];exact m5)) hd (.inr (.inr (.inl rfl))) (.inl rfl) (.inr ⟨_,rfl⟩) aob rfl (by rw[hK];rfl) rfl (by rw[hK];rfl) m1 ?_ (by rw[hK];exact .inl (by simp[GS.dg];omega));unfold Mode;simp only[(vk (.said n1) rfl rfl).1,(vk (.said n1) rfl rfl).2,bG];refine .inr (.inl ⟨?_,m2,m3,by omega,m4,?_,.inl rfl⟩)
  ·obtain⟨n,hn⟩:=m1;exact⟨n,by rw[xz _ _ _ (Ne.symm su)];exact hn⟩
  ·rw[hv];exact m5.Jz _
 ·obtain⟨g',mf,n',cu⟩:=ani (sumTo gs.size λi=>(K i).cnt) (by omega);refine h.AU aN (k':=.head v n') (a:=eE p.Wg) hs aQ (mf w m5) hd (.inl rfl) (.inl rfl) (.inl rfl) cu rfl (by rw[hK];rfl) rfl (by rw[hK];rfl) m1 ?_ (by rw[hK];exact .inl (by simp[GS.dg]));unfold Mode;simp only[(vk (.head v n') rfl rfl).1,(vk (.head v n') rfl rfl).2,bG];exact .inl ⟨m1,m2,m3,m4,m5,.inl ⟨v,rfl,by omega⟩⟩
def Inv.ao1(h:Inv P n0 W0 V gs w t K Im ic (some p) st)(aN:p.recv=true){n:Nat}{gi:Tj}(aQ:gs[ic]?=some gi)(hK:K ic=.last n)(jX:J_ P Im p.c p.Wg (VZ t ic) gi):g_ P n0 W0 V gs w sl t K Im ic (some p) st ic:=by
 obtain⟨s,hs,gQ,jk,hm⟩:=h.mode aN;obtain⟨m1,m2,m3,m4,m5⟩:=hm.Rj (.inl (by rw[hK];rfl));obtain⟨hd,bQ,g',aP,n',cu⟩:=jX;refine h.AU aN (k':=.acq n') (a:=eE p.Wg) hs aQ (aP w m5) hd (.inl rfl) (.inl rfl) (.inl rfl) cu rfl (by rw[hK];rfl) rfl (by rw[hK];rfl) m1 ?_ (by rw[hK];exact .inl (by simp[GS.dg]));unfold Mode;have e1:sumTo gs.size (λi=>(upd K ic (.acq n') i).cnt)=0:=by rw[lT K (.acq n') GS.cnt (by rw[hK];rfl)];exact m4
 have e2:sumTo gs.size (λi=>(upd K ic (.acq n') i).late)=0:=by rw[lT K (.acq n') GS.late (by rw[hK];rfl)];exact m3
 simp only[e1,e2,bG];exact .inr (.inr (.inr (.inr (.inl ⟨m1,m2,trivial,trivial,m5,.inr rfl⟩))))
def Inv.aiZ(h:Inv P n0 W0 V gs w t K Im ic (some p) st)(aN:p.recv=true){n:Nat}{gi:Tj}(aQ:gs[ic]?=some gi)(hK:K ic=.iL n)(jX:Gb P Im p.c p.Wg (VZ t ic) gi):g_ P n0 W0 V gs w sl t K Im ic (some p) st ic:=by
 obtain⟨s,hs,gQ,jk,hm⟩:=h.mode aN;obtain⟨m1,m2,m3,mk⟩:=hm.Rl (.inr (by rw[hK];rfl));obtain⟨hd,bQ,ant,xr,g',Is,n',cu⟩:=jX;have su:p.c≠p.Wg:=h.phase.2.2.1;rcases m3 with⟨stv,hW⟩|⟨m4,m5,hW⟩
 ·
  have aP:=xr w stv hW;have ann:¬WgAt P p.Wg w 0 1:=λx=>by have:=(hW.inj x).2;cases this
  refine h.uQ aN (k':=.iL 0) (s':=s) gQ aQ aP (.inr ⟨rfl,gi,rfl,by rw[hd];exact⟨rfl,bQ,ant,xr,g',Is,n',cu⟩⟩) (by rw[hK];exact IQ Im) (λ_=>rfl) rfl (λj hj=>by rw[hK]at hj;cases hj) (.inl rfl) (by simp) (by simp) (by simp) rfl (λ_ _ _=>rfl) rfl rfl rfl
   (mk (.inr rfl) rfl rfl (λx=>absurd x ann) jk) (.inl m1) ?_ ?_
  ·have e0:t++Ui ic gi.frame.fn gi.frame.place #[]=t:=(by simp[Ui]);have hr:Rest p.Wg t K ic st:=h.out.2.2.1;rw[hs]at hr;refine hr.app (λidx a ha hx=> .inr (hx.app (by obtain⟨op,az,_⟩:=Wb ha;exact UQ az) λm _ _ hj=> .inl ?_)) (λidx a _ ⟨op,az,_⟩ _=>by simp[Ui]at az);by_cases cV:m=ic
   ·subst cV;rw[hK]at hj;cases hj
   ·rw[br _ _ cV];exact hj
  ·by_cases hn:n=0
   ·refine .inr ⟨funext λj=> ?_,?_⟩
    ·by_cases hj:j=ic
     ·subst hj;simp only[bG,hK,hn]
     ·simp only[br _ _ hj]
    ·simp only[flag];rw[Ug (by simpa using jk),aQ];simp[bQ]
   ·exact zV jk (by rw[hK];exact .inr ⟨rfl,.inr ⟨rfl,by simp only[GS.dg];omega⟩⟩)
 ·refine h.AU aN (k':=.last n') (a:=pz p.Wg) hs aQ (Is w hW) hd (.inr (.inr (.inr rfl))) (.inr rfl) (.inr ⟨_,rfl⟩) cu rfl (by rw[hK];rfl) rfl (by rw[hK];rfl) m1 ?_ (by rw[hK];exact .inl (by simp[GS.dg]));unfold Mode;have e1:sumTo gs.size (λi=>(upd K ic (.last n') i).cnt)=0:=by rw[lT K (.last n') GS.cnt (by rw[hK];rfl)];exact m5
  have e2:sumTo gs.size (λi=>(upd K ic (.last n') i).late)=0:=by rw[lT K (.last n') GS.late (by rw[hK];rfl)];exact m4
  simp only[e1,e2,bG];obtain⟨n,hn⟩:=m1;exact .inr (.inr (.inr (.inr (.inl ⟨⟨n,by rw[xz _ _ _ (Ne.symm su)];exact hn⟩,m2,trivial,trivial,hW.aeU 0,.inl rfl⟩))))
def Inv.asT(h:Inv P n0 W0 V gs w t K Im ic (some p) st)(aN:p.recv=true){n:Nat}{gi:Tj}(aQ:gs[ic]?=some gi)(hK:K ic=.said n)(jX:Ga P Im p.c p.Wg (VZ t ic) gi):g_ P n0 W0 V gs w sl t K Im ic (some p) st ic:=by
 obtain⟨s,hs,gQ,jk,hm⟩:=h.mode aN;obtain⟨m1,m2,m3,mk⟩:=hm.Rl (.inl (by rw[hK];rfl));obtain⟨hd,bQ,g',aP,n',cu⟩:=jX;have oo:∀e∈#[kz (.write (pz p.Wg))],e=kz (.write (pz p.Wg)):=λe he=>by simpa using he
 have acv:g'.status=.running:=cY.running (λd g x=>x.2.1) cu;refine h.uQ aN (k':=.iL n') (s':=s) gQ aQ (aP w) (.inl (by rw[hd];exact cu)) (by rw[hK];exact IQ Im) (λ_=>rfl) rfl (λj hj=>by rw[hK]at hj;cases hj) (.inl rfl) (λe he x hx=> .inr (.inl ?_)) (λe he=> ?_) (λe he a=> ?_) rfl (λ_ _ _=>rfl) rfl rfl rfl
  (mk (.inr rfl) rfl rfl (λ_ g hg=> ?_) jk) (.inl m1) ?_ (zV jk (by rw[hK];exact .inl (by simp[GS.dg])))
 ·rw[oo e he]at hx;cases hx;exact⟨rfl,rfl,rfl⟩
 ·rw[oo e he];exact h.low.2
 ·rw[oo e he];simp[kz,Uw]
 ·rcases getElem?_next jk hg with⟨_,rfl⟩|⟨aF,_⟩
  ·exact acv
  ·exact absurd rfl aF
 ·have hr:Rest p.Wg t K ic st:=h.out.2.2.1;rw[hs,m2]at hr;rw[m2];refine hr.app (λidx a ha hx=> .inr (hx.app (by obtain⟨op,az,_⟩:=Wb ha;exact UQ az) λm _ _ hj=> .inl ?_)) (λidx a _ ⟨op,az,zo,_⟩ _=> .inr (.inr ⟨ic,?_,gQ,.inr (.inl rfl)⟩))
  ·by_cases cV:m=ic
   ·subst cV;rw[hK]at hj;cases hj
   ·rw[br _ _ cV];exact hj
  ·obtain⟨e,_,rfl⟩:=UU az;simp[XB,zo]
end
end Go.Gg
