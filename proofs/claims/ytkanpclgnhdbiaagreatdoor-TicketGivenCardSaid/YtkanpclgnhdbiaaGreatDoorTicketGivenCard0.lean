/- A part of the proof. -/
import Derived.Conc.Own5
import Derived.Conc.Own4
import Derived.Conc.Own3
import Derived.Conc.Own2
import Derived.Conc.QuitsD
import Derived.Conc.Deaf
import Derived.Conc.CompanyDraw
import Derived.Conc.Comm2
import Derived.Conc.Beside
import Derived.Conc.Events
import Derived.Orders
set_option linter.all false
set_option maxRecDepth 4000
set_option maxHeartbeats 4000000
open Array renaming all_eq_true_iff_forall_mem->UE,append_assoc->Xt,empty_append->Xs,ext'->Vz,getD_eq_getD_getElem?->SI,getElem?_append_left->Yc,getElem?_append_right->X8,getElem?_eq_getElem->SK,getElem?_eq_some_iff->SR,getElem?_map->WC,getElem?_modify->Wi,getElem?_push->Xj,getElem?_push_lt->YB,getElem?_setIfInBounds_ne->SU,getElem?_setIfInBounds_self_of_lt->S_,getElem_mem->XV,isEmpty_iff->Zh,mem_append->Ut,range->WK,replicate->TK,size_append->XE,toList_map->VJ
open BitVec renaming ofInt->Uf
open Bool renaming and_eq_true->Th,false_eq_true->TN,false_or->XU,not_eq_true'->TW,not_false->YG,not_true->ak_
open Classical renaming byContradiction->Tu
open Function renaming comp_def->YA
open Go renaming Addr->U2,BinOp->VZ,Call->Xr,CallKind->Xe,Code->T9,Event->Uq,Field->YX,Frame->Ua,Func->YF,FuncId->TO,Goroutine->SH,IntKind->TV,Item->WT,LoopState->Z9,MapEntry->Wl,Oper->Tv,Operand->Tg,PanicEntry->ZR,Program->SJ,ResultVar->UL,TypeInfo->Wj,Value->SO,World->Tp
open Go.Act renaming put->X5
open Go.Addr renaming add->atf
open Go.Builtin renaming append_->Vv,copy_->atq,delete_->atp,firstCells->Vr,growBy->Zp,lenOf->ato,len_->Yn,nextslicecap->W3,zeroCells->Xn
open Go.CallKind renaming early->U3
open Go.Conc renaming QuitsD->Y7,seen_none->Z',served->T4
open Go.Deferred renaming ofValue->U1
open Go.Event renaming mute->WF
open Go.Frame renaming catches->ZT,oper?->YN,round->W_
open Go.GStep renaming after->T1
open Go.Instr renaming checkKey->Va,fill->Z_,findKey->VM,index->Z0,indexAt->ZL,loadAt->XD,mapUpdate->Zv,sameBits->WA,slice->ZZ,sliceAt->Yl,sliceBound->Zn,sliceBounds->Zc,storeAt->Yk,sureAddr->U_,typeAssert->Zm
open Go.IntKind renaming bits->atb,i64->SF,signed->ata,wrap->Xc
open Go.Item renaming plain->ae_
open Go.MemAct renaming low_mono->Zl,ofEvent->Ts
open Go.Next renaming value->W5
open Go.Obj renaming isChan->ah'
open Go.Op renaming equal->Xh,equalIn->U8,intArith->atl,intDiv->apT,shift->as'
open Go.Question renaming cut->Zu,forced->ar'
open Go.Region renaming binds->Yr,schedule->VK,wanted->Tf
open Go.Region.linearise renaming go->UC
open Go.Sem renaming events_pure->ZI,runT->VD,runT_eq->TC,run_pure->Z8
open Go.Value renaming bool->Xb,slice->Us,tuple->YL
open Go.World renaming cell?->Ux,frozen?->ZQ,setCell->Xl
open Go.stepG renaming exec->Ud,oper->Y5
open Int renaming toNat_natCast->Vw
open List renaming append_assoc->SD,append_nil->SY,contains_eq_mem->Up,countP_cons_of_neg->WS,countP_cons_of_pos->VT,drop_drop->ac_,drop_eq_getElem_cons->T8,drop_zero->XA,ext_getElem?->Yp,flatMap_cons->Uo,foldl_cons->UW,getD_cons_zero->Xq,getD_eq_getElem?_getD->SE,getElem?_append_left->SZ,getElem?_append_right->Tj,getElem?_cons_succ->UH,getElem?_cons_zero->Vp,getElem?_drop->Um,getElem?_eq_getElem->SP,getElem?_eq_some_iff->SN,getElem?_map->To,getElem?_range->Xz,getElem?_set_ne->T5,getElem?_set_self->W9,getElem?_take->Uc,getElem?_toArray->Ve,getElem_mem->VQ,length_append->S9,length_cons->Uj,length_drop->Uh,length_nil->UP,length_take->TR,mapM_cons->T_,mapM_nil->UA,mapM_toArray->XZ,map_congr_left->Vx,map_cons->UU,map_drop->ag_,mem_cons->SL,mem_cons_of_mem->Tb,mem_cons_self->Tw,mem_filter->Ul,mem_filterMap->VW,mem_iff_getElem?->UO,mem_of_getElem?->Ti,mem_of_mem_take->Ws,mem_range->TE,mem_toArray->TJ,not_mem_nil->S0,range->SV,range'->Ub,range'_succ->VP,range_eq_range'->Vo,reverse_nil->XW,set_append_right->UN,set_set->W8,singleton_append->Y3,take_length->TH,take_take->U0,take_zero->ak'
open Nat renaming add_assoc->WV,add_comm->Z3,add_mul->Vb,add_zero->UJ,le_of_eq->WG,le_refl->SQ,le_succ->Y2,le_trans->UF,lt_of_lt_of_le->Tc,lt_trans->Wn,min_le_left->ZH,mod_lt->ar_,mul_le_mul->ZN,mul_le_mul_right->Ue,mul_one->Ye,ne_of_lt->V_,strongRecOn->Yo,sub_zero->ZY,zero_add->Wr,zero_le->Yd,zero_mul->Z2
open Option renaming bind_eq_bind->TP,bind_eq_some_iff->Td,getD_none->Vm,getD_some->S8,map_eq_some_iff->Tq,map_some->UM,pure_def->Ug
open Option.some renaming inj->VC,injEq->Tl
open Prod.mk renaming injEq->UZ
namespace Go.Gg
open Go.Conc
abbrev cm:=Nat->Nat->Option SO
abbrev Av:=Nat->Option Obj
abbrev Spec:=SO->cm->Av->Prop
inductive mD where
 |plain
 |fork (c Wg:Nat) (Ss:List (List Spec))
 |recv (c Wg:Nat) (Ss:List (List Spec))
 |work (c Wg:Nat) (S:List Spec)
def mD.group:mD->Option Nat
 |.fork _ Wg _=>some Wg
 |_=>none
def mD.chan:mD->Option Nat
 |.fork c _ _=>some c
 |_=>none
structure View where
 ab:cm
 own:Av
 deaf:Nat
 role:mD
structure Sat (V:View)(w:Tp):Prop where
 ab:∀b o v,V.ab b o=some v->w.cell? ⟨b,o,none⟩=some v
 own:∀b x,V.own b=some x->w.heap[b]?=some x
def sW (V:View)(n:Nat)(a:U2):Prop:=n<=a.block\/V.own a.block≠none\/V.ab a.block a.off≠none
def l9 (V:View)(n:Nat)(a:U2):Prop:=n<=a.block\/(V.own a.block≠none/\V.ab a.block a.off=none)
def mA (V:View)(n:Nat)(e:Uq):Prop:=
 match e with
 |⟨.cell a,false,s⟩=>sW V n a/\(s=true\/V.role.group≠some a.block)
 |⟨.cell a,true,s⟩=>l9 V n a/\(s=true\/V.role.group≠some a.block)
 |⟨.obj r,_,s⟩=>(s=false/\(n<=r\/V.own r≠none))/\V.role.chan≠some r
 |⟨.mark (.read a),_,_⟩=>l9 V n a
 |⟨.mark (.write a),_,_⟩=>l9 V n a
 |⟨.mark .disable,_,s⟩=>s=true
 |⟨.mark .enable,_,s⟩=>s=true
 |⟨.mark .noRoom,_,_⟩=>True
 |_=>False
structure cV (V:View)(w:Tp)(V':View)(w':Tp)(es:Array Uq):Prop where
 sat:Sat V' w'
 tape:w'.tape=w.tape
 os:w'.os=w.os
 output:w'.output=w.output
 size:w.heap.size<=w'.heap.size
 frame:∀b,b<w.heap.size->V.own b=none->w'.heap[b]?=w.heap[b]?
 own:∀b,b<w.heap.size->V.own b=none->V'.own b=none
 ab:∀b o v,V.ab b o=some v->V'.ab b o=some v
 j7:∀b o v,V'.ab b o=some v->V.ab b o=some v\/V.own b≠none\/w.heap.size<=b
 eT:∀e∈es,mA V w.heap.size e
 deaf:V'.deaf=deafBehind V.deaf es
 role:V'.role=V.role
 chan:∀c x,V.role.chan=some c->V.own c=some x->V'.own c=some x
 low:∀e∈es,(Ts e).low w'.heap.size
structure dP (V V':View):Prop where
 sat:∀w,Sat V w->Sat V' w
 own:∀b,V.own b=none->V'.own b=none
 ab:∀b o v,V.ab b o=some v->V'.ab b o=some v
 j7:∀b o v,V'.ab b o=some v->V.ab b o=some v\/V.own b≠none
 deaf:V'.deaf=V.deaf
 role:V'.role=V.role
 chan:∀c x,V.role.chan=some c->V.own c=some x->V'.own c=some x
theorem dP.refl(V:View):dP V V:=⟨λ_ h=>h,λ_ h=>h,λ_ _ _ h=>h,λ_ _ _ h=> .inl h,rfl,rfl,λ_ _ _ e=>e⟩
theorem dP.trans{V V' aR:View}(h:dP V V')(k:dP V' aR):dP V aR:=
 ⟨λw x=>k.sat w (h.sat w x),λb x=>k.own b (h.own b x),λb o v x=>k.ab b o v (h.ab b o v x),λb o v x=>(k.j7 b o v x).elim (λy=>h.j7 b o v y) (λy=> .inr λz=>y (h.own b z)),k.deaf.trans h.deaf,k.role.trans h.role,λc x e e'=>k.chan c x (by rw[h.role];exact e) (h.chan c x e e')⟩
theorem sW.q_{V V':View}(g:dP V V'){n:Nat}{a:U2}(h:sW V' n a):sW V n a:=by
 rcases h with h|h|h
 ·exact .inl h
 ·exact .inr (.inl λe=>h (g.own _ e))
 ·cases e:V'.ab a.block a.off with
  |none=>exact absurd e h
  |some v=>exact(g.j7 _ _ _ e).elim (λx=> .inr (.inr (by rw[x];simp))) (λx=> .inr (.inl x))
theorem l9.q_{V V':View}(g:dP V V'){n:Nat}{a:U2}(h:l9 V' n a):l9 V n a:=by
 rcases h with h|⟨h,h'⟩
 ·exact .inl h
 ·refine .inr ⟨λe=>h (g.own _ e),?_⟩;cases e:V.ab a.block a.off with
  |none=>rfl
  |some v=>rw[g.ab _ _ _ e]at h';cases h'
theorem mA.q_{V V':View}(g:dP V V'){n:Nat}{e:Uq}(h:mA V' n e):mA V n e:=by
 unfold mA at h⊢;split at h
 ·exact⟨sW.q_ g h.1,by rw[<- g.role];exact h.2⟩
 ·exact⟨l9.q_ g h.1,by rw[<- g.role];exact h.2⟩
 ·exact⟨⟨h.1.1,h.1.2.imp id λx y=>x (g.own _ y)⟩,by rw[<- g.role];exact h.2⟩
 ·exact l9.q_ g h
 ·exact l9.q_ g h
 ·exact h
 ·exact h
 ·trivial
 ·exact h.elim
theorem cV.q_{V V₁ V':View}{w w':Tp}{es:Array Uq}(g:dP V V₁)(h:cV V₁ w V' w' es):cV V w V' w' es:=
 ⟨h.sat,h.tape,h.os,h.output,h.size,λb hb e=>h.frame b hb (g.own b e),λb hb e=>h.own b hb (g.own b e),λb o v e=>h.ab b o v (g.ab b o v e),
  λb o v e=>(h.j7 b o v e).elim (λx=>(g.j7 b o v x).imp id .inl) (λx=> .inr (x.imp (λy z=>y (g.own b z)) id)),λe he=>mA.q_ g (h.eT e he),by rw[h.deaf,g.deaf],h.role.trans g.role,λc x e e'=>h.chan c x (by rw[g.role];exact e) (g.chan c x e e'),h.low⟩
theorem cV.ghost{V V' aR:View}{w w':Tp}{es:Array Uq}(h:cV V w V' w' es)(g:dP V' aR):cV V w aR w' es:=
 ⟨g.sat _ h.sat,h.tape,h.os,h.output,h.size,h.frame,λb hb e=>g.own b (h.own b hb e),λb o v e=>g.ab b o v (h.ab b o v e),
  λb o v e=>(g.j7 b o v e).elim (λx=>h.j7 b o v x) (λx=>by
   by_cases hb:b<w.heap.size
   ·exact .inr (.inl λy=>x (h.own b hb y))
   ·exact .inr (.inr (by omega))),h.eT,by rw[g.deaf,h.deaf],g.role.trans h.role,λc x e e'=>g.chan c x (by rw[h.role];exact e) (h.chan c x e e'),h.low⟩
theorem cV.idle{V:View}{w:Tp}(h:Sat V w):cV V w V w #[]:=
 ⟨h,rfl,rfl,rfl,SQ _,λ_ _ _=>rfl,λ_ _ e=>e,λ_ _ _ e=>e,λ_ _ _ e=> .inl e,by simp,rfl,rfl,λ_ _ _ e=>e,by simp⟩
theorem Sat.drew{V:View}{w:Tp}(h:Sat V w)(d:Nat):Sat V {w with drawn:=d}:=⟨h.ab,h.own⟩
theorem cV.draw{V:View}{w:Tp}(h:Sat V w)(d:Nat):cV V w V {w with drawn:=d} #[]:=
 ⟨h.drew d,rfl,rfl,rfl,SQ _,λ_ _ _=>rfl,λ_ _ e=>e,λ_ _ _ e=>e,λ_ _ _ e=> .inl e,by simp,rfl,rfl,λ_ _ _ e=>e,by simp⟩
def dO (Wg:Nat):U2:=⟨Wg,0,none⟩
def nZ (Wg:Nat):U2:=⟨Wg,1,none⟩
def MY (P : SJ) : TypeId := ((P.types.findIdx? λi => match i.desc with | .named n _ => n == "sync.WaitGroup" | _ => false).getD 0)
def wgBlock (P:SJ)(st sm:Int):Obj:=.cells #[.int .u64 st,.int .u32 sm] (MY P)
def WgAt (P:SJ)(Wg:Nat)(w:Tp)(st sm:Int):Prop:=w.heap[Wg]?=some (wgBlock P st sm)
def KK:Int:=4294967296
def iJ (a:U2):Uq:=⟨.cell a,false,true⟩
def ky (a:U2):Uq:=⟨.cell a,true,true⟩
def jI (m:Mark):Uq:=⟨.mark m,false,true⟩
def zU (a:U2):Array Uq:=#[jI .disable,iJ a,ky a,jI .enable]
def cL (P:SJ)(Stop:Nat->SH->Prop):Nat->Nat->SH->Prop
 |0,d,g=>Stop d g
 |n+1,d,g=>Stop d g\/(g.status=.running/\∃g' es,(∀e∈es,WF e=true)/\(∀w,stepG P false g w=.go g' w es)/\cL P Stop n (deafBehind d es) g')
def gJ (P:SJ)(Wg:Nat)(Stop:Nat->SH->Prop):Nat->Nat->SH->Prop
 |0,d,g=>Stop d g
 |n+1,d,g=>Stop d g\/(g.status=.running/\∃g' es,(∀e∈es,WF e=true)/\(∀w x y,WgAt P Wg w x y->stepG P false g w=.go g' w es)/\gJ P Wg Stop n (deafBehind d es) g')
section
variable (P:SJ)(Wg:Nat)
def Df (d:Nat)(g:SH):Prop:=d=1/\g.status=.running/\mayWake P g=true/\∃g',(∀w,WgAt P Wg w 0 0->stepG P false g w=.go g' (w.setCell (nZ Wg) (.int .u32 1)) (zU (nZ Wg)))/\∃q,Y7 P q 1 g'
def Dg (d:Nat)(g:SH):Prop:=d=1/\g.status=.running/\∃g',(∀w,WgAt P Wg w 1 0->stepG P false g w=.go g' (w.setCell (dO Wg) (.int .u64 0)) #[ky (dO Wg)])/\∃n,cL P (Df P Wg) n 1 g'
def De (d:Nat)(g:SH):Prop:=d=1/\g.status=.running/\∃g',(∀w,WgAt P Wg w 1 0->stepG P false g w=.go g' w #[iJ (dO Wg)])/\∃n,cL P (Dg P Wg) n 1 g'
def Aj (d:Nat)(g:SH):Prop:=d=1/\g.status=.running/\∀v wt:Nat,wt<=1->v<4->∃g',(∀w,WgAt P Wg w (((v+1:Nat):Int)* KK+wt) 0->stepG P false g w=.go g' (w.setCell (dO Wg) (.int .u64 ((v:Int)* KK+wt))) #[iJ (dO Wg),ky (dO Wg)])/\
 ((v=0/\wt=1)->∃n,cL P (De P Wg) n 1 g')/\(¬(v=0/\wt=1)->∃q,Y7 P q 1 g')
def Dl (g:SH):Prop:=g.status=.running/\∃g',(∀w,stepG P false g w=.go g' w #[jI (.releaseMerge (dO Wg))])/\∃n,cL P (Aj P Wg) n 0 g'
end
section
variable (P:SJ)(Im:cm)(c Wg:Nat)
def Ha (d:Nat)(g:SH):Prop:=d=0/\g.status=.running/\mayWake P g=true/\∃g',(∀w s,w.heap[c]?=some (.chan 0 #[] false s s false)->stepG P false g w=.go g' {w with heap:=w.heap.setIfInBounds c (.chan 0 #[] true s s false)} #[⟨.obj c,false,true⟩,⟨.obj c,true,true⟩])/\∃q,Y7 P q 0 g'
def Hc (d:Nat)(g:SH):Prop:=d=0/\g.status=.running/\∃b o x g',Im b o=some x/\(∀w,w.cell? ⟨b,o,none⟩=some x->stepG P false g w=.go g' w #[⟨.cell ⟨b,o,none⟩,false,false⟩])/\∃n,cL P (Ha P c) n 0 g'
def sS (d:Nat)(g:SH):Prop:=d=0/\g.status=.running/\∃g',(∀w,stepG P false g w=.go g' w #[jI (.acquire (dO Wg))])/\∃n,cL P (Hc P Im c) n 0 g'
def Hb (d:Nat)(g:SH):Prop:=d=1/\g.status=.running/\∃g',(∀w,WgAt P Wg w 0 0->stepG P false g w=.go g' w #[iJ (dO Wg)])/\∃n,gJ P Wg (sS P Im c Wg) n 1 g'
def Dd (d:Nat)(g:SH):Prop:=d=1/\g.status=.running/\g.offers=none/\(∀w st,WgAt P Wg w st 0->stepG P false g w=.go {g with status:=.blocked} w #[])/\
 ∃g',(∀w,WgAt P Wg w 0 1->stepG P false g w=.go g' (w.setCell (nZ Wg) (.int .u32 0)) (zU (nZ Wg)))/\∃n,cL P (Hb P Im c Wg) n 1 g'
def Dc (d:Nat)(g:SH):Prop:=d=1/\g.status=.running/\∃g',(∀w,stepG P false g w=.go g' w #[jI (.write (nZ Wg))])/\∃n,cL P (Dd P Im c Wg) n 1 g'
def ek:Nat->Nat->SH->Prop
 |0,_,_=>False
 |k+1,d,g=>d=1/\g.status=.running/\∀v:Nat,v<=k->v<=4->∃g',(∀w,WgAt P Wg w ((v:Int)* KK) 0->stepG P false g w=.go g' w #[iJ (dO Wg)])/\(v=0->∃n,gJ P Wg (sS P Im c Wg) n 1 g')/\
  (v≠0->∃n,cL P (λd g=>d=1/\g.status=.running/\
   (∃g',(∀w,WgAt P Wg w ((v:Int)* KK) 0->stepG P false g w=.go g' (w.setCell (dO Wg) (.int .u64 ((v:Int)* KK+1))) #[iJ (dO Wg),ky (dO Wg)])/\∃n,gJ P Wg (Dc P Im c Wg) n 1 g')/\
   (∀u:Nat,u<v->∃g',(∀w,WgAt P Wg w ((u:Int)* KK) 0->stepG P false g w=.go g' w #[iJ (dO Wg)])/\∃n,cL P (ek v) n 1 g')) n 1 g')
 termination_by k _ _=>k
def Hd (g:SH):Prop:=∃n,cL P (ek P Im c Wg 5) n 0 g
end
structure xR (P:SJ)(main:Bool)(J:View->SH->Prop):Prop where
 step:∀V g,g.status=.running->(∀w,Sat V w->∃g' w' es V',stepG P main g w=.go g' w' es/\cV V w V' w' es/\J V' g')->J V g
 ghost:∀V V' g,dP V V'->J V' g->J V g
 send:∀V g c Wg sp S v z (B:Nat->Bool),V.role=.work c Wg (sp::S)->V.deaf=0->g.status=.running->g.offers=none->
  (∀w,Sat V w->stepG P main g w=.comm g #[scase c v z] true .send w #[])->sp v V.ab (λb=>if B b then V.own b else none)->
  J {V with own:=λb=>if B b then none else V.own b,role:=.work c Wg S} (T4 g undef)->J V g
 done:∀V g c Wg,V.role=.work c Wg []->V.deaf=0->Dl P Wg g->J V g
 slip:∀V g g' c Wg,V.role=.work c Wg []->g.status=.running->(∀w st,Sat V w->WgAt P Wg w st 0->stepG P main g w=.go g' w #[])->J V g'->J V g
structure ac7 (P:SJ)(main:Bool)(J:View->SH->Prop):Prop where
 start:∀V g c Wg,V.role=.plain->c≠Wg->V.own c=some (.chan 0 #[] false 0 0 false)->V.own Wg≠none->(∀o,V.ab Wg o=none)->J {V with role:=.fork c Wg []} g->J V g
 Ec:∀V g g' child c Wg Ss sp S,V.role=.fork c Wg Ss->V.deaf=0->g.status=.running->V.own c=some (.chan 0 #[] false 0 0 false)->V.own Wg=some (wgBlock P (((Ss.length+1:Nat):Int)* 4294967296) 0)->Ss.length<4->(∀o,V.ab Wg o=none)->
  (∀w,Sat V w->stepG P main g w=.spawn g' child w #[])->child.status=.running->
  (∀J0,xR P false J0->J0 {ab:=V.ab,own:=λ_=>none,deaf:=0,role:=.work c Wg (sp::S)} child)->
  J {V with role:=.fork c Wg (Ss++[sp::S])} g'->J V g
 Eb:∀V g g' child c Wg Ss,V.role=.fork c Wg Ss->V.deaf=0->g.status=.running->c≠Wg->V.own c=some (.chan 0 #[] false 0 0 false)->V.own Wg=some (wgBlock P (((Ss.length:Nat):Int)* 4294967296) 0)->(∀o,V.ab c o=none)->(∀o,V.ab Wg o=none)->
  (∀w,Sat V w->stepG P main g w=.spawn g' child w #[])->child.status=.running->Hd P V.ab c Wg child->
  J {V with own:=λb=>if b=c\/b=Wg then none else V.own b,role:=.recv c Wg Ss} g'->J V g
 recv:∀V g c Wg Ss z,V.role=.recv c Wg Ss->V.deaf=0->g.status=.running->g.offers=none->
  (∀w,Sat V w->stepG P main g w=.comm g #[rcase c z] true (.recv true) w #[])->
  (∀i sp S v Im Ow,Ss[i]?=some (sp::S)->sp v Im Ow->(∀b,V.own b≠none->Ow b=none)->(∀b o,V.own b≠none->Im b o≠none->V.ab b o≠none)->(∃w,Sat V w/\(∀b o x,Im b o=some x->w.cell? ⟨b,o,none⟩=some x)/\∀b x,Ow b=some x->w.heap[b]?=some x)->
   J {V with ab:=λb o=>match V.ab b o with|some x=>some x|none=>Im b o,own:=λb=>match V.own b with|some x=>some x|none=>Ow b,role:=.recv c Wg (Ss.set i S)} (T4 g (.tuple #[v,.bool true])))->
  ((∀S∈Ss,S=[])->J {V with role:=.plain} (T4 g (.tuple #[z,.bool false])))->J V g
structure Closed (lv:Bool)(P:SJ)(main:Bool)(J:View->SH->Prop):Prop extends xR P main J where
 more:lv=true->ac7 P main J
theorem Closed.idle{lv:Bool}{P:SJ}{main:Bool}{J:View->SH->Prop}(C:Closed lv P main J){V:View}{g g':SH}(hs:g.status=.running)(h:∀w,stepG P main g w=.go g' w #[]) (hJ:J V g'):J V g:=
 C.step V g hs λw hw=>⟨g',w,#[],V,h w,.idle hw,hJ⟩
def on (b:Ua)(a:Act)(todo:List WT):Ua:={b with tmps:=a.tmps,todo,defers:=a.defers,mode:=.run}
inductive Ex where
 |normal
 |exit (id:Nat)
 |goto (l:Nat)
 |ret
 |panic (chain:List ZR)
def oY (J:View->SH->Prop)(b:Ua)(cs:List Ua)(a:Act)(V:View)(x:T9)(to:List WT->Option (List WT))(k:List WT):Prop:=
 (∃k',to k=some k'/\J V (G (on b a k') cs))\/(to k=none/\∀k2,to k2=none->J V (G (on b a (.code x::k2)) cs))
theorem oY.under{J:View->SH->Prop}{b:Ua}{cs:List Ua}{a:Act}{V:View}{x:T9}{to:List WT->Option (List WT)}{k k2:List WT}(h:oY J b cs a V x to k)(e:to k2=to k):oY J b cs a V x to k2:=by
 rcases h with⟨k',h1,h2⟩|⟨h1,h2⟩
 ·exact .inl ⟨k',e.trans h1,h2⟩
 ·exact .inr ⟨e.trans h1,h2⟩
def aaz:List WT->Bool
 |.call .. ::_=>false
 |_=>true
def uG (J:View->SH->Prop)(b:Ua)(k:List WT)(cs:List Ua):Ex->Act->View->Prop
 |.normal,a,V=>J V (G (on b a k) cs)
 |.exit id,a,V=>oY J b cs a V (.exit id) (exitTo id) k
 |.goto l,a,V=>oY J b cs a V (.goto l) (gotoIn l) k
 |.ret,a,V=>∀k,J V (G (on b a (.code .ret::k)) cs)
 |.panic chain,a,V=>∀todo,aaz todo=true->J V (G {on b a todo with mode:=.panicking chain} cs)
def WP (lv:Bool)(P:SJ)(r:Option Nat)(c:T9)(Q:Ex->Act->View->Prop)(a:Act)(V:View):Prop:=
 ∀(main:Bool)(J:View->SH->Prop),Closed lv P main J->∀(b:Ua)(k:List WT)(cs:List Ua),b.kind≠ .early->b.roundOf=r->
  (∀e a' V',Q e a' V'->uG J b k cs e a' V')->J V (G (on b a (.code c::k)) cs)
section steps
variable {P:SJ}{main:Bool}{b:Ua}{a:Act}{k:List WT}{cs:List Ua}{w:Tp}
theorem apb:stepG P main (G (on b a (.code .skip::k)) cs) w=.go (G (on b a k) cs) w #[]:=by simp[G,stepG,Ud,on]
theorem ao5{l:Nat}:stepG P main (G (on b a (.code (.label l)::k)) cs) w=.go (G (on b a k) cs) w #[]:=by simp[G,stepG,Ud,on]
theorem ao2{id:Nat}:stepG P main (G (on b a (.inBlock id::k)) cs) w=.go (G (on b a k) cs) w #[]:=by simp[G,stepG,Ud,on]
theorem ao4{c:T9}:stepG P main (G (on b a (.inScope c::k)) cs) w=.go (G (on b a k) cs) w #[]:=by simp[G,stepG,Ud,on]
theorem abx{x y:T9}:stepG P main (G (on b a (.code (.seq x y)::k)) cs) w=.go (G (on b a (.code x:: .code y::k)) cs) w #[]:=by simp[G,stepG,Ud,on]
theorem F7(b:Ua)(a:Act)(todo:List WT)(x:Tg):(on b a todo).eval x=a.eval x:=by cases x<;>rfl
theorem am7(b:Ua)(a:Act)(todo:List WT):(on b a todo).eval=a.eval:=funext (F7 b a todo)
theorem s_cond{c:Tg}{x y:T9}{t:Bool}(h:a.eval c=.bool t):
  stepG P main (G (on b a (.code (.cond c x y)::k)) cs) w=.go (G (on b a (.code (if t then x else y)::k)) cs) w #[]:=by
 have h':(on b a (.code (.cond c x y)::k)).eval c=.bool t:=by rw[F7];exact h
 simp only[on]at h';simp[G,stepG,Ud,on,h']
theorem aoZ{id:Nat}{c:T9}:stepG P main (G (on b a (.code (.block id c)::k)) cs) w=.go (G (on b a (.code c:: .inBlock id::k)) cs) w #[]:=by simp[G,stepG,Ud,on]
theorem apa{c:T9}:stepG P main (G (on b a (.code (.scope c)::k)) cs) w=.go (G (on b a (.code c:: .inScope c::k)) cs) w #[]:=by simp[G,stepG,Ud,on]
theorem ao6{c:T9}:stepG P main (G (on b a (.code (.loop c)::k)) cs) w=.go (G (on b a (.code c:: .inLoop c::k)) cs) w #[]:=by simp[G,stepG,Ud,on]
theorem ao3{c:T9}:stepG P main (G (on b a (.inLoop c::k)) cs) w=.go (G (on b a (.code c:: .inLoop c::k)) cs) w #[]:=by simp[G,stepG,Ud,on]
theorem s_exit{id:Nat}{k':List WT}(h:exitTo id k=some k'):stepG P main (G (on b a (.code (.exit id)::k)) cs) w=.go (G (on b a k') cs) w #[]:=by simp[G,stepG,Ud,on,h]
theorem ao1{l:Nat}{k':List WT}(h:gotoIn l k=some k'):stepG P main (G (on b a (.code (.goto l)::k)) cs) w=.go (G (on b a k') cs) w #[]:=by simp[G,stepG,Ud,on,h]
theorem abw{id:Nat}{ops:Array Tv}:stepG P main (G (on b a (.code (.region id ops false)::k)) cs) w=.go (G (on b a (.inRegion ops (SV ops.size)::k)) cs) w #[]:=by simp[G,stepG,Ud,on]
theorem ao0{id:Nat}{ops:Array Tv}:stepG P main (G (on b a (.code (.region id ops true)::k)) cs) w=
  .go (G (on b a (.inRegion ops (VK (P.follows .mixedOrders) ops (w.tape w.drawn (.order b.fn id)))::k)) cs) {w with drawn:=w.drawn+1} #[]:=by
 simp[G,stepG,Ud,on,choose,Sem.run,ar',Zu]
theorem ao9{ops:Array Tv}:stepG P main (G (on b a (.inRegion ops []::k)) cs) w=.go (G (on b a k) cs) w #[]:=by simp[G,stepG,Ud,on]
theorem CL(h:b.roundOf=none):stepG P main (G (on b a (.code .ret::k)) cs) w=.go (G {on b a (.code .ret::k)with mode:=.returning} cs) w #[]:=by simp[G,stepG,Ud,on,h]
theorem CK(h:b.roundOf=none):stepG P main (G (on b a []) cs) w=.go (G {on b a []with mode:=.returning} cs) w #[]:=by simp[G,stepG,Ud,on,h]
end steps
section rules
variable {lv:Bool}{P:SJ}{r:Option Nat}{Q:Ex->Act->View->Prop}{a:Act}{V:View}
theorem WP.mono{c:T9}{Q':Ex->Act->View->Prop}(h:WP lv P r c Q a V)(hq:∀e a V,Q e a V->Q' e a V):WP lv P r c Q' a V:=
 λmain J C b k cs hb hr hL=>h main J C b k cs hb hr λe a' V' q=>hL e a' V' (hq _ _ _ q)
theorem WP.ghost{c:T9}{V':View}(g:dP V V')(h:WP lv P r c Q a V'):WP lv P r c Q a V:=
 λmain J C b k cs hb hr hL=>C.ghost _ _ _ g (h main J C b k cs hb hr hL)
theorem wp_skip(h:Q .normal a V):WP lv P r .skip Q a V:=λ_ _ C _ _ _ _ _ hL=>C.idle rfl (λ_=>apb) (hL _ _ _ h)
theorem wp_label{l:Nat}(h:Q .normal a V):WP lv P r (.label l) Q a V:=λ_ _ C _ _ _ _ _ hL=>C.idle rfl (λ_=>ao5) (hL _ _ _ h)
theorem Sf{main:Bool}{J:View->SH->Prop}(C:Closed lv P main J){b:Ua}{cs:List Ua}{a:Act}{V:View}{id:Nat}{k:List WT}(h:oY J b cs a V (.exit id) (exitTo id) k):J V (G (on b a (.code (.exit id)::k)) cs):=
 h.elim (λ⟨_,hk,hJ⟩=>C.idle rfl (λ_=>s_exit hk) hJ) (λ⟨hk,hJ⟩=>hJ k hk)
theorem ale{main:Bool}{J:View->SH->Prop}(C:Closed lv P main J){b:Ua}{cs:List Ua}{a:Act}{V:View}{l:Nat}{k:List WT}(h:oY J b cs a V (.goto l) (gotoIn l) k):J V (G (on b a (.code (.goto l)::k)) cs):=
 h.elim (λ⟨_,hk,hJ⟩=>C.idle rfl (λ_=>ao1 hk) hJ) (λ⟨hk,hJ⟩=>hJ k hk)
theorem wp_exit{id:Nat}(h:Q (.exit id) a V):WP lv P r (.exit id) Q a V:=λ_ _ C _ _ _ _ _ hL=>Sf C (hL _ _ _ h)
theorem wp_ret(h:Q .ret a V):WP lv P r .ret Q a V:=λ_ _ _ _ k _ _ _ hL=>hL _ _ _ h k
def Ex.then (next:Act->View->Prop)(Q:Ex->Act->View->Prop):Ex->Act->View->Prop
 |.normal,a,V=>next a V
 |e,a,V=>Q e a V
theorem uG.under{J:View->SH->Prop}{b:Ua}{k:List WT}{cs:List Ua}{x:WT}(hx:x.plain=true){e:Ex}(he:e≠ .normal){a:Act}{V:View}(h:uG J b k cs e a V):uG J b (x::k) cs e a V:=by
 cases e with
 |normal=>exact absurd rfl he
 |exit id=>exact oY.under h (by cases x<;>simp_all[exitTo,ae_])
 |goto l=>exact oY.under h (by cases x<;>simp_all[gotoIn,ae_])
 |ret=>exact h
 |panic ch=>exact h
theorem wp_seq{x y:T9}(h:WP lv P r x (Ex.then (WP lv P r y Q) Q) a V):WP lv P r (.seq x y) Q a V:=by
 intro main J C b k cs hb hr hL;refine C.idle rfl (λ_=>abx) (h main J C b (.code y::k) cs hb hr λe a' V' q=> ?_);cases e with
 |normal=>exact q main J C b k cs hb hr hL
 |exit id=>exact(hL _ _ _ q).under rfl (by simp)
 |goto l=>exact(hL _ _ _ q).under rfl (by simp)
 |ret=>exact(hL _ _ _ q).under rfl (by simp)
 |panic ch=>exact(hL _ _ _ q).under rfl (by simp)
theorem wp_cond{c:Tg}{x y:T9}{t:Bool}(hc:a.eval c=.bool t)(h:WP lv P r (if t then x else y) Q a V):WP lv P r (.cond c x y) Q a V:=
 λmain J C b k cs hb hr hL=>C.idle rfl (λ_=>s_cond hc) (h main J C b k cs hb hr hL)
def Ex.inBlock (id:Nat)(Q:Ex->Act->View->Prop):Ex->Act->View->Prop
 |.exit nU,a,V=>if nU=id then Q .normal a V else Q (.exit nU) a V
 |e,a,V=>Q e a V
theorem wp_block{id:Nat}{c:T9}(h:WP lv P r c (Ex.inBlock id Q) a V):WP lv P r (.block id c) Q a V:=by
 intro main J C b k cs hb hr hL;refine C.idle rfl (λ_=>aoZ) (h main J C b (.inBlock id::k) cs hb hr λe a' V' q=> ?_);cases e with
 |normal=>exact C.idle rfl (λ_=>ao2) (hL _ _ _ q)
 |exit nU=>
  by_cases bY:nU=id
  ·simp only[Ex.inBlock,bY,if_true]at q;exact .inl ⟨k,by simp[exitTo,bY],hL _ _ _ q⟩
  ·simp only[Ex.inBlock,bY,if_false]at q;have:(id==nU)=false:=(by simp;exactλh=>bY h.symm);exact oY.under (hL _ _ _ q) (by simp[exitTo,this])
 |goto l=>exact oY.under (hL _ _ _ q) (by simp[gotoIn])
 |ret=>exact hL _ _ _ q
 |panic ch=>exact hL _ _ _ q
theorem M7{α:Type}{lt:α->α->Prop}(wf:WellFounded lt){c:T9}(I:α->Act->View->Prop)(m:α)(h₀:I m a V)
  (round:∀m a V,I m a V->WP lv P r c (Ex.then (λa' V'=>∃m',lt m' m/\I m' a' V') Q) a V):WP lv P r (.loop c) Q a V:=by
 intro main J C b k cs hb hr hL;have key:∀m a V,I m a V->J V (G (on b a (.code c:: .inLoop c::k)) cs):=by
  intro m;induction m using wf.induction with
  |_ m ih=>
   intro a V hI;refine round m a V hI main J C b (.inLoop c::k) cs hb hr λe a' V' q=> ?_;cases e with
   |normal=>obtain⟨m',hlt,hI'⟩:=q;exact C.idle rfl (λ_=>ao3) (ih m' hlt a' V' hI')
   |exit id=>exact(hL _ _ _ q).under rfl (by simp)
   |goto l=>exact(hL _ _ _ q).under rfl (by simp)
   |ret=>exact(hL _ _ _ q).under rfl (by simp)
   |panic ch=>exact(hL _ _ _ q).under rfl (by simp)
 exact C.idle rfl (λ_=>ao6) (key m a V h₀)
theorem wp_loop{c:T9}(I:Nat->Act->View->Prop)(m:Nat)(h₀:I m a V)
  (round:∀m a V,I m a V->WP lv P r c (Ex.then (λa' V'=>∃m',m'<m/\I m' a' V') Q) a V):WP lv P r (.loop c) Q a V:=
 M7 Nat.lt_wfRel.wf I m h₀ round
theorem ac0{c:T9}(I:Nat->Nat->Act->View->Prop)
  (start:∃n:Nat,WP lv P r c (λe a V=>match e with
   |.goto l=>∃rest,findLabel c l=some rest/\∃m,m<n/\I l m a V
   |e=>Q e a V) a V)
  (back:∀l rest m a V,findLabel c l=some rest->I l m a V->WP lv P r rest (λe a V=>match e with
   |.goto l'=>∃xJ,findLabel c l'=some xJ/\∃m',m'<m/\I l' m' a V
   |e=>Q e a V) a V):WP lv P r (.scope c) Q a V:=by
 intro main J C b k cs hb hr hL;have land:∀(n:Nat),(∀l rest m a V,m<n->findLabel c l=some rest->I l m a V->J V (G (on b a (.code rest:: .inScope c::k)) cs))->
   ∀e a' V',(match e with
   |.goto l=>∃rest,findLabel c l=some rest/\∃m,m<n/\I l m a' V'
   |e=>Q e a' V')->uG J b (.inScope c::k) cs e a' V':=by
  intro n hn e a' V' q;cases e with
  |normal=>exact C.idle rfl (λ_=>ao4) (hL _ _ _ q)
  |exit id=>exact oY.under (hL _ _ _ q) (by simp[exitTo])
  |goto l=>
   obtain⟨rest,hf,m,hm,hI⟩:=q;exact .inl ⟨_,by simp[gotoIn,hf],hn l rest m a' V' hm hf hI⟩
  |ret=>exact hL _ _ _ q
  |panic ch=>exact hL _ _ _ q
 have key:∀n l rest m a V,m<n->findLabel c l=some rest->I l m a V->J V (G (on b a (.code rest:: .inScope c::k)) cs):=by
  intro n;induction n with
  |zero=>intro _ _ _ _ _ h;omega
  |succ n ih=>
   intro l rest m a V hm hf hI;exact back l rest m a V hf hI main J C b (.inScope c::k) cs hb hr (land m λl' xJ m' a' V' h'=>ih l' xJ m' a' V' (by omega))
 obtain⟨n,hn⟩:=start;exact C.idle rfl (λ_=>apa) (hn main J C b (.inScope c::k) cs hb hr (land n (key n)))
end rules
open Go.Conc
def View.get (V:View)(b o:Nat):Option SO:=
 match V.ab b o with
 |some v=>some v
 |none=>match V.own b with
  |some (.cells c _ _)=>c[o]?
  |_=>none
def View.upd (V:View)(b:Nat)(x:Obj):View:={V with own:=λb'=>if b'=b then some x else V.own b'}
def View.fresh (V:View)(b:Nat):Prop:=V.own b=none/\∀o,V.ab b o=none
theorem Sat.get{V:View}{w:Tp}(h:Sat V w){b o:Nat}{v:SO}(e:V.get b o=some v):w.cell? ⟨b,o,none⟩=some v:=by
 unfold View.get at e;split at e
 ·rename_i v' hv;cases e;exact h.ab _ _ _ hv
 ·split at e
  ·rename_i c el f ho;have:=h.own _ _ ho;simpa[Ux,this]using e
  ·cases e
theorem Sat.lt{V:View}{w:Tp}(h:Sat V w){b:Nat}{x:Obj}(e:V.own b=some x):b<w.heap.size:=by
 have:=h.own _ _ e;exact(SR.1 this).1
theorem Sat.Ck{V:View}{w:Tp}(h:Sat V w){b o:Nat}{v:SO}(e:V.ab b o=some v):b<w.heap.size:=by
 have:=h.ab _ _ _ e;unfold Ux at this;split at this
 ·rename_i hh;exact(SR.1 hh).1
 ·cases this
theorem Sat.fresh{V:View}{w:Tp}(h:Sat V w){b:Nat}(hb:w.heap.size<=b):V.fresh b:=
 ⟨by cases e:V.own b with
  |none=>rfl
  |some x=>have:=h.lt e;omega,λo=>by
  cases e:V.ab b o with
  |none=>rfl
  |some x=>have:=h.Ck e;omega⟩
theorem Sat.eB{V:View}{w:Tp}(h:Sat V w){b o:Nat}{v:SO}(e:V.get b o=some v):b<w.heap.size:=by
 have:=h.get e;unfold Ux at this;split at this
 ·rename_i hh;exact(SR.1 hh).1
 ·cases this
theorem sW.xD{V V₁:View}{w w₁:Tp}{es:Array Uq}(s:cV V w V₁ w₁ es){a:U2}(h:sW V₁ w₁.heap.size a):sW V w.heap.size a:=by
 rcases h with h|h|h
 ·exact .inl (UF s.size h)
 ·by_cases hb:a.block<w.heap.size
  ·exact .inr (.inl λe=>h (s.own _ hb e))
  ·exact .inl (by omega)
 ·cases e:V₁.ab a.block a.off with
  |none=>exact absurd e h
  |some v=>
   rcases s.j7 _ _ _ e with x|x|x
   ·exact .inr (.inr (by rw[x];simp))
   ·exact .inr (.inl x)
   ·exact .inl x
theorem l9.xD{V V₁:View}{w w₁:Tp}{es:Array Uq}(s:cV V w V₁ w₁ es){a:U2}(h:l9 V₁ w₁.heap.size a):l9 V w.heap.size a:=by
 rcases h with h|⟨h,h'⟩
 ·exact .inl (UF s.size h)
 ·by_cases hb:a.block<w.heap.size
  ·refine .inr ⟨λe=>h (s.own _ hb e),?_⟩;cases e:V.ab a.block a.off with
   |none=>rfl
   |some v=>rw[s.ab _ _ _ e]at h';cases h'
  ·exact .inl (by omega)
theorem mA.xD{V V₁:View}{w w₁:Tp}{es:Array Uq}(s:cV V w V₁ w₁ es){e:Uq}(h:mA V₁ w₁.heap.size e):mA V w.heap.size e:=by
 unfold mA at h⊢;split at h
 ·exact⟨sW.xD s h.1,by rw[<- s.role];exact h.2⟩
 ·exact⟨l9.xD s h.1,by rw[<- s.role];exact h.2⟩
 ·refine⟨⟨h.1.1,?_⟩,by rw[<- s.role];exact h.2⟩;rename_i r _ _;rcases h.1.2 with x|x
  ·exact .inl (UF s.size x)
  ·by_cases hb:r<w.heap.size
   ·exact .inr λy=>x (s.own _ hb y)
   ·exact .inl (by omega)
 ·exact l9.xD s h
 ·exact l9.xD s h
 ·exact h
 ·exact h
 ·trivial
 ·exact h.elim
theorem HY(d:Nat)(x y:Array Uq):deafBehind d (x++y)=deafBehind (deafBehind d x) y:=by
 simp[deafBehind]
theorem cV.trans{V V₁ V₂:View}{w w₁ w₂:Tp}{es tw:Array Uq}(s:cV V w V₁ w₁ es)(s':cV V₁ w₁ V₂ w₂ tw):cV V w V₂ w₂ (es++tw):=
 ⟨s'.sat,s'.tape.trans s.tape,s'.os.trans s.os,s'.output.trans s.output,UF s.size s'.size,
  λb hb e=>(s'.frame b (Tc hb s.size) (s.own b hb e)).trans (s.frame b hb e),λb hb e=>s'.own b (Tc hb s.size) (s.own b hb e),
  λb o v e=>s'.ab b o v (s.ab b o v e),λb o v e=>by
   rcases s'.j7 b o v e with x|x|x
   ·exact s.j7 b o v x
   ·by_cases hb:b<w.heap.size
    ·exact .inr (.inl λy=>x (s.own b hb y))
    ·exact .inr (.inr (by omega))
   ·exact .inr (.inr (UF s.size x)),
  λe he=>(Ut.1 he).elim (s.eT e) (λh=>(s'.eT e h).xD s),by rw[s'.deaf,s.deaf,HY],s'.role.trans s.role,λc x e e'=>s'.chan c x (by rw[s.role];exact e) (s.chan c x e e'),
  λe he=>(Ut.1 he).elim (λx=>Zl s'.size (s.low e x)) (s'.low e)⟩
def ft (es:Array Uq):Array Uq:=es.filter λe=>match e.loc with|.mark (.extern _)=>false|_=>true
def aO (P:SJ){α:Type}(V:View)(s:Sem α)(K:α->View->Prop)(Kp:SO->View->Prop):Prop:=
 ∀w,Sat V w->∀eF,∃es w' V',cV V w V' w' (ft es)/\
  ((∃x,s.runT P w eF=(.ok x w',eF++es)/\K x V')\/(∃v,s.runT P w eF=(.halt (.panic v) w',eF++es)/\Kp v V'))
section
variable {P:SJ}{α β:Type}{V:View}{K:α->View->Prop}{Kp:SO->View->Prop}
theorem LK(x y:Array Uq):ft (x++y)=ft x++ft y:=by simp[ft]
theorem aO.mono{s:Sem α}{K':α->View->Prop}{Nl:SO->View->Prop}(h:aO P V s K Kp)(hk:∀x V,K x V->K' x V)(hp:∀x V,Kp x V->Nl x V):aO P V s K' Nl:=λw hw eF=>
 let⟨es,w',V',h1,h2⟩:=h w hw eF
 ⟨es,w',V',h1,h2.imp (λ⟨x,a,b⟩=>⟨x,a,hk _ _ b⟩) (λ⟨x,a,b⟩=>⟨x,a,hp _ _ b⟩)⟩
theorem aO.ghost{s:Sem α}{V':View}(g:dP V V')(h:aO P V' s K Kp):aO P V s K Kp:=λw hw eF=>
 let⟨es,w',V',h1,h2⟩:=h w (g.sat w hw) eF
 ⟨es,w',V',h1.q_ g,h2⟩
theorem aO.cont{s:Sem α}(h:∀w,Sat V w->∃es w' V' s',cV V w V' w' (ft es)/\(∀eF,s.runT P w eF=s'.runT P w' (eF++es))/\aO P V' s' K Kp):aO P V s K Kp:=by
 intro w hw eF;obtain⟨es,w',V',s',h1,h2,h3⟩:=h w hw;obtain⟨tw,MX,aR,h4,h5⟩:=h3 w' h1.sat (eF++es);refine⟨es++tw,MX,aR,by rw[LK];exact h1.trans h4,?_⟩;rw[h2,<- Xt];exact h5
theorem cD{x:α}(h:K x V):aO P V (.pure x) K Kp:=λw hw eF=>⟨#[],w,V,by simpa[ft]using cV.idle hw,.inl ⟨x,by simp[-TC,VD],h⟩⟩
theorem aq{x:α}(h:K x V):aO P V (pure x) K Kp:=cD h
theorem apt{v:SO}(h:Kp v V):aO P V (.halt (.panic v):Sem α) K Kp:=λw hw eF=>⟨#[],w,V,by simpa[ft]using cV.idle hw,.inr ⟨v,by simp[-TC,VD],h⟩⟩
theorem sH{e:Uq}(h:∀f,e.loc≠ .mark (.extern f)):ft #[e]=#[e]:=by
 unfold ft;have:(match e.loc with|.mark (.extern _)=>false|_=>true)=true:=by
  split
  ·rename_i f hf;exact absurd hf (h f)
  ·rfl
 simp[Array.filter]
theorem Om(d:Nat)(a:U2)(wr s:Bool):deafBehind d #[⟨.cell a,wr,s⟩]=d:=by simp[deafBehind]
theorem On(d:Nat)(a:Nat)(wr s:Bool):deafBehind d #[⟨.obj a,wr,s⟩]=d:=by simp[deafBehind]
theorem Mw{m:Mode}{b o:Nat}{v:SO}{k:SO->Sem α}(e:V.get b o=some v)(jO:V.role.group≠some b\/m=.atomic)(h:aO P V (k v) K Kp):aO P V (.load m ⟨b,o,none⟩ k) K Kp:=by
 refine .cont λw hw=>⟨#[⟨.cell ⟨b,o,none⟩,false,m== .atomic⟩],w,V,k v,?_,λeF=> ?_,h⟩
 ·rw[sH (by simp)];refine⟨hw,rfl,rfl,rfl,SQ _,λ_ _ _=>rfl,λ_ _ e=>e,λ_ _ _ e=>e,λ_ _ _ e=> .inl e,λev cj=> ?_,by rw[Om],rfl,λ_ _ _ e=>e,λev cj=>by simp at cj;subst cj;exact hw.eB e⟩;simp only[TJ,SL,S0,or_false]at cj;subst cj;refine⟨.inr ?_,jO.elim .inr (λx=> .inl (by subst x;rfl))⟩;show V.own b≠none\/V.ab b o≠none;unfold View.get at e;split at e
  ·rename_i hv;exact .inr (by rw[hv];simp)
  ·split at e
   ·rename_i hv;exact .inl (by rw[hv];simp)
   ·cases e
 ·simp[-TC,VD,hw.get e]
def _root_.Go.Value.one:SO->Bool
 |.agg _|.tuple _=>false
 |_=>true
theorem Sat.acR{V:View}{w:Tp}(h:Sat V w){b o:Nat}{v:SO}{c:Array SO}{el:TypeId}{f:Nat×Nat}(ho:V.own b=some (.cells c el f))(hi:V.ab b o=none):
  Sat (V.upd b (.cells (c.setIfInBounds o v) el f)) (w.setCell ⟨b,o,none⟩ v):=by
 have hb:=h.own _ _ ho;have hlt:=h.lt ho;have hm:(w.setCell ⟨b,o,none⟩ v).heap=w.heap.setIfInBounds b (.cells (c.setIfInBounds o v) el f):=by
  unfold Xl;apply Array.ext_getElem?;intro i;by_cases cu:b=i
  ·subst cu;rw[Wi,S_ hlt];simp[hb]
  ·simp[Wi,cu,SU cu]
 refine⟨λb' o' v' e=> ?_,λb' x e=> ?_⟩
 ·have:=h.ab _ _ _ e;simp only[View.upd]at e;by_cases yM:b=b'
  ·subst yM;have Kf:o≠o':=(by intro x;subst x;rw[hi]at e;cases e);simp only[Ux,hb]at this;simp only[Ux,hm,S_ hlt,SU Kf];exact this
  ·simp only[Ux,hm,SU yM];exact this
 ·simp only[View.upd]at e;rw[hm];by_cases yM:b'=b
  ·subst yM;simp at e;rw[S_ hlt,e]
  ·simp only[yM,if_false]at e;rw[SU (Ne.symm yM)];exact h.own _ _ e
theorem CP(w:Tp)(a:U2)(v:SO):(w.setCell a v).heap.size=w.heap.size:=by simp[Xl]
theorem vr(w:Tp)(a:U2)(v:SO){b:Nat}(h:a.block≠b):(w.setCell a v).heap[b]?=w.heap[b]?:=by simp[Xl,Wi,h]
theorem apv{m:Mode}{b o:Nat}{v:SO}{k:Sem α}{c:Array SO}{el:TypeId}{lo hi:Nat}(ho:V.own b=some (.cells c el (lo,hi)))(b_:o<c.size)(cu:V.ab b o=none)(hv:v.one=true)
  (hf:¬(lo<=o/\o<hi)) (jO:V.role.group≠some b\/m=.atomic) (JG:V.role.chan≠some b) (h:aO P (V.upd b (.cells (c.setIfInBounds o v) el (lo,hi))) k K Kp):aO P V (.store m ⟨b,o,none⟩ v k) K Kp:=by
 refine .cont λw hw=>⟨#[⟨.cell ⟨b,o,none⟩,true,m== .atomic⟩],w.setCell ⟨b,o,none⟩ v,_,k,?_,λeF=> ?_,h⟩
 ·rw[sH (by simp)];refine⟨hw.acR ho cu,rfl,rfl,rfl,by rw[CP];exact SQ _,λb' du e=>vr _ _ _ (λx=> ?_),λb' du e=> ?_,λ_ _ _ e=>e,λ_ _ _ e=> .inl e,λev cj=> ?_,by rw[Om];rfl,rfl,λc' x bf e=>by rw[<- e];simp only[View.upd,ite_eq_right_iff];intro x';subst x';exact absurd bf JG,λev cj=>by simp at cj;subst cj;show b<_;rw[CP];exact hw.lt ho⟩
  ·have x':b=b':=x;subst x';rw[ho]at e;cases e
  ·have:b'≠b:=(by intro x;subst x;rw[ho]at e;cases e);simp only[View.upd,this,if_false];exact e
  ·simp only[TJ,SL,S0,or_false]at cj;subst cj;exact⟨.inr ⟨by show V.own b≠none;rw[ho];simp,cu⟩,jO.elim .inr (λx=> .inl (by subst x;rfl))⟩
 ·have hc:w.cell? ⟨b,o,none⟩=some c[o]:=by simp[Ux,hw.own _ _ ho,b_]
  have hfz:w.frozen? ⟨b,o,none⟩=false:=by
   simp only[ZQ,hw.own _ _ ho];simpa using hf
  cases v<;>simp_all[-TC,VD,Value.one]
theorem nY{x:Obj}{k:Nat->Sem α}(h:∀r,V.fresh r->aO P (V.upd r x) (k r) K Kp):aO P V (.new x k) K Kp:=by
 refine .cont λw hw=>⟨#[],{w with heap:=w.heap.push x},V.upd w.heap.size x,k w.heap.size,?_,λeF=>by simp[-TC,VD],h _ (hw.fresh (SQ _))⟩;have jh:=hw.fresh (SQ w.heap.size);have aC:∀{b y},V.own b=some y->b≠w.heap.size:=λe x=>by rw[x,jh.1]at e;cases e
 refine⟨⟨λb o v e=> ?_,λb y e=> ?_⟩,rfl,rfl,rfl,by simp,λb hb _=> ?_,λb hb e=> ?_,λ_ _ _ e=>e,λ_ _ _ e=> .inl e,by simp[ft],rfl,rfl,λc' x bf e=>by rw[<- e];simp only[View.upd,ite_eq_right_iff];intro x';exact absurd x' (aC e),by simp[ft]⟩
 ·have hlt:=hw.Ck e;have:=hw.ab _ _ _ e;simp only[Ux,YB hlt]at this⊢;simpa[Ux,hlt]using this
 ·simp only[View.upd]at e;by_cases hb:b=w.heap.size
  ·subst hb;simp at e;simp[e]
  ·simp only[hb,if_false]at e;have:=hw.own _ _ e;have hlt:=hw.lt e;simp only[YB hlt];simpa[hlt]using this
 ·simp[Xj,V_ hb]
 ·simp only[View.upd,V_ hb,if_false];exact e
theorem abI{q:Question}{k:Nat->Sem α}(h0:q.forced=true->aO P V (k 0) K Kp)(h:q.forced=false->∀t,aO P V (k (q.cut t)) K Kp):aO P V (.choose q k) K Kp:=by
 cases hf:q.forced with
 |true=>exact .cont λw hw=>⟨#[],w,V,k 0,by simpa[ft]using cV.idle hw,λeF=>by simp[-TC,VD,hf],h0 hf⟩
 |false=>exact .cont λw hw=>⟨#[],{w with drawn:=w.drawn+1},V,_,by simpa[ft]using cV.draw hw (w.drawn+1),λeF=>by simp[-TC,VD,hf],h hf (w.tape w.drawn q)⟩
theorem pP{k:SJ->Sem α}(h:aO P V (k P) K Kp):aO P V (.program k) K Kp:=
 .cont λw hw=>⟨#[],w,V,k P,by simpa[ft]using cV.idle hw,λeF=>by simp[-TC,VD],h⟩
theorem aps{k:Sem α}(h:aO P V k K Kp):aO P V (.mark .noRoom k) K Kp:=
 .cont λw hw=>⟨#[⟨.mark .noRoom,false,true⟩],w,V,k,by
  rw[sH (by simp)];exact⟨hw,rfl,rfl,rfl,SQ _,λ_ _ _=>rfl,λ_ _ e=>e,λ_ _ _ e=>e,λ_ _ _ e=> .inl e,λev cj=>by simp at cj;subst cj;trivial,by simp[deafBehind],rfl,λ_ _ _ e=>e,λev cj=>by simp at cj;subst cj;trivial⟩,
  λeF=>by simp[-TC,VD],h⟩
theorem apr{m:Mark}{k:Sem α}(hm:m=.disable\/m=.enable)(h:aO P {V with deaf:=deafBehind V.deaf #[⟨.mark m,false,true⟩]} k K Kp):aO P V (.mark m k) K Kp:=
 .cont λw hw=>⟨#[⟨.mark m,false,true⟩],w,_,k,by
  rw[sH (by rcases hm with rfl|rfl<;>simp)];exact⟨⟨hw.ab,hw.own⟩,rfl,rfl,rfl,SQ _,λ_ _ _=>rfl,λ_ _ e=>e,λ_ _ _ e=>e,λ_ _ _ e=> .inl e,λev cj=>by simp at cj;subst cj;rcases hm with rfl|rfl<;>rfl,rfl,rfl,λ_ _ _ e=>e,λev cj=>by simp at cj;subst cj;rcases hm with rfl|rfl<;>trivial⟩,
  λeF=>by simp[-TC,VD],h⟩
theorem apu{m:Mark}{a:U2}{k:Sem α}(hm:m=.read a\/m=.write a)(ha:V.own a.block≠none/\V.ab a.block a.off=none)(h:aO P V k K Kp):aO P V (.mark m k) K Kp:=
 .cont λw hw=>⟨#[⟨.mark m,false,true⟩],w,_,k,by
  rw[sH (by rcases hm with rfl|rfl<;>simp)];exact⟨⟨hw.ab,hw.own⟩,rfl,rfl,rfl,SQ _,λ_ _ _=>rfl,λ_ _ e=>e,λ_ _ _ e=>e,λ_ _ _ e=> .inl e,λev cj=>by simp at cj;subst cj;rcases hm with rfl|rfl<;>exact .inr ha,
   by rcases hm with rfl|rfl<;>simp[deafBehind],rfl,λ_ _ _ e=>e,λev cj=>by
    simp at cj;subst cj;have:a.block<w.heap.size:=by
     cases e:V.own a.block with
     |none=>exact absurd e ha.1
     |some y=>exact hw.lt e
    rcases hm with rfl|rfl<;>exact this⟩,
  λeF=>by simp[-TC,VD],h⟩
def _root_.Go.Obj.ug:Obj->Bool
 |.cells .. =>true
 |_=>false
theorem nm{r:Nat}{x:Obj}{k:Obj->Sem α}(ho:V.own r=some x)(hx:x.ug=false)(hc:x.isChan=false)(jO:V.role.chan≠some r)(h:aO P V (k x) K Kp):aO P V (.getObj r k) K Kp:=
 .cont λw hw=>⟨#[⟨.obj r,false,false⟩],w,V,k x,by
  rw[sH (by simp)];exact⟨hw,rfl,rfl,rfl,SQ _,λ_ _ _=>rfl,λ_ _ e=>e,λ_ _ _ e=>e,λ_ _ _ e=> .inl e,λev cj=>by simp at cj;subst cj;exact⟨⟨rfl,.inr (by rw[ho];simp)⟩,jO⟩,by rw[On],rfl,λ_ _ _ e=>e,λev cj=>by simp at cj;subst cj;exact hw.lt ho⟩,
  λeF=>by
   have:=hw.own _ _ ho;cases x<;>simp_all[-TC,VD,Obj.ug,ah'],h⟩
theorem Sat.arf{V:View}{w:Tp}(h:Sat V w){r:Nat}{x y:Obj}(ho:V.own r=some x)(hx:x.ug=false):Sat (V.upd r y) {w with heap:=w.heap.setIfInBounds r y}:=by
 have hlt:=h.lt ho;refine⟨λb o v e=> ?_,λb z e=> ?_⟩
 ·have:=h.ab _ _ _ e;have hb:r≠b:=by
   intro e';subst e';simp only[Ux,h.own _ _ ho]at this;cases x<;>simp_all[Obj.ug]
  simp only[Ux,SU hb]at this⊢;exact this
 ·simp only[View.upd]at e;by_cases hb:b=r
  ·subst hb;simp at e;simp[hlt,e]
  ·simp only[hb,if_false]at e;simp only[SU (Ne.symm hb)];exact h.own _ _ e
theorem xL{r:Nat}{x y:Obj}{k:Sem α}(ho:V.own r=some x)(hx:x.ug=false)(hy:y.isChan=false)(jO:V.role.chan≠some r)(h:aO P (V.upd r y) k K Kp):aO P V (.setObj r y k) K Kp:=
 .cont λw hw=>⟨#[⟨.obj r,true,false⟩],{w with heap:=w.heap.setIfInBounds r y},_,k,by
  rw[sH (by simp)];refine⟨hw.arf ho hx,rfl,rfl,rfl,by simp,λb hb e=> ?_,λb hb e=> ?_,λ_ _ _ e=>e,λ_ _ _ e=> .inl e,λev cj=>by simp at cj;subst cj;exact⟨⟨rfl,.inr (by rw[ho];simp)⟩,jO⟩,by rw[On];rfl,rfl,λc' x bf e=>by rw[<- e];simp only[View.upd,ite_eq_right_iff];intro x';subst x';exact absurd bf jO,λev cj=>by simp at cj;subst cj;show r<_;simp;exact hw.lt ho⟩
  ·exact SU (λx'=>by subst x';rw[ho]at e;cases e)
  ·have:b≠r:=(by intro x';subst x';rw[ho]at e;cases e);simp only[View.upd,this,if_false];exact e,
  λeF=>by
   have:=hw.own _ _ ho;cases x<;>simp_all[-TC,VD,Obj.ug,ah'],h⟩
theorem apj{s:Sem α}{f:α->Sem β}{K:β->View->Prop}(h:aO P V s (λx V'=>aO P V' (f x) K Kp) Kp):aO P V (s.bind f) K Kp:=by
 intro w hw eF;obtain⟨es,w',V',h1,h2⟩:=h w hw eF;have key:(s.bind f).runT P w eF=match s.runT P w eF with
   |(.ok x w',e)=>(f x).runT P w' e
   |(.halt h w',e)=>(.halt h w',e):=by
  have hr:=Sem.run_bind' P s f w;have he:=Sem.events_bind' P s f w eF;rw[TC,TC];have tV:(s.bind f).run P w=_:=hr;have jN:(s.bind f).events P w eF=_:=he;rw[tV,jN];cases s.run P w<;>simp[Result.andThen,Result.evThen]
 rcases h2 with⟨x,hx,hK⟩|⟨v,hv,hKp⟩
 ·obtain⟨tw,MX,aR,h3,h4⟩:=hK w' h1.sat (eF++es);refine⟨es++tw,MX,aR,by rw[LK];exact h1.trans h3,?_⟩;rw[key,hx,<- Xt];exact h4
 ·refine⟨es,w',V',h1,.inr ⟨v,?_,hKp⟩⟩;rw[key,hv]
theorem az{s:Sem α}{f:α->Sem β}{K:β->View->Prop}(h:aO P V s (λx V'=>aO P V' (f x) K Kp) Kp):aO P V (s>>=f) K Kp:=apj h
end
open Go.Conc
def xX (e:Uq):Prop:=∀m,e.loc=.mark m->(m=.disable\/m=.enable)->e.sync=true
theorem mA.IW{V:View}{n:Nat}{e:Uq}(h:mA V n e):xX e:=by
 intro m hm hd;obtain⟨l,wr,s⟩:=e;simp only at hm;subst hm;rcases hd with rfl|rfl
 ·simpa[mA]using h
 ·simpa[mA]using h
theorem afU(d:Nat)(x:Array Uq)(e:Uq):deafBehind d (x.push e)=deafBehind (deafBehind d x) #[e]:=by
 simp[deafBehind]
theorem afV{d:Nat}{e:Uq}(hg:xX e)(hs:e.sync=false):deafBehind d #[e]=d:=by
 obtain⟨l,wr,s⟩:=e;cases l with
 |mark m=>
  cases m<;>first
   |(have:=hg _ rfl (.inl rfl);simp_all)
   |(have:=hg _ rfl (.inr rfl);simp_all)
   |simp[deafBehind]
 |_=>simp[deafBehind]
theorem aph(P:SJ)(fn:TO)(es:Array Uq)(hg:∀e∈ft es,xX e)(d:Nat):(∀e∈seen P fn es,e∈ft es)/\deafBehind d (seen P fn es)=deafBehind d (ft es):=by
 rw[seen_def];obtain⟨l⟩:=es;have key:∀(l:List Uq)(q:Bool)(kept ref:Array Uq),(∀e∈ft l.toArray,xX e)->(∀e∈kept,e∈ref)->deafBehind d kept=deafBehind d ref->
   (∀e∈(l.foldl (seenStep λf=>(P.funcs[f]?).any (·.norace)) (q,kept)).2,e∈ref++ft l.toArray)/\
   deafBehind d (l.foldl (seenStep λf=>(P.funcs[f]?).any (·.norace)) (q,kept)).2=deafBehind d (ref++ft l.toArray):=by
  intro l;induction l with
  |nil=>intro q kept ref _ h1 h2;simpa[ft]using⟨h1,h2⟩
  |cons e l ih=>
   intro q kept ref hg h1 h2;rw[UW];by_cases hx:∃f,e.loc=.mark (.extern f)
   ·obtain⟨f,hf⟩:=hx;have e1:ft (e::l).toArray=ft l.toArray:=(by simp[ft,hf]);rw[e1]at hg⊢;have e3:seenStep (λf=>(P.funcs[f]?).any (·.norace)) (q,kept) e=((P.funcs[f]?).any (·.norace),kept):=(by simp[seenStep,hf]);rw[e3];exact ih _ kept ref hg h1 h2
   ·have aC:∀f,e.loc≠ .mark (.extern f):=λf hf=>hx ⟨f,hf⟩;have e1:ft (e::l).toArray=#[e]++ft l.toArray:=by
     have:(e::l).toArray=#[e]++l.toArray:=(by simp);rw[this,LK,sH aC]
    have tN:xX e:=hg e (by rw[e1];simp);have nO:∀x∈ft l.toArray,xX x:=λx hx=>hg x (by rw[e1];exact Ut.2 (.inr hx));have e2:seenStep (λf=>(P.funcs[f]?).any (·.norace)) (q,kept) e=(q,if q&& !e.sync then kept else kept.push e):=by
     unfold seenStep;dsimp only;split
     ·rename_i f hf;exact absurd hf (aC f)
     ·rfl
    rw[e1,<- Xt];rw[e2];refine ih q _ (ref++#[e]) nO (λx hx=> ?_) ?_
    ·split at hx
     ·exact Ut.2 (.inl (h1 x hx))
     ·rcases Array.mem_push.1 hx with hx|rfl
      ·exact Ut.2 (.inl (h1 x hx))
      ·exact Ut.2 (.inr (by simp))
    ·split
     ·rename_i hq;simp only[Th,TW]at hq;rw[HY,afV tN hq.2,h2]
     ·rw[HY,afU,h2]
 have:=key l ((P.funcs[fn]?).any (·.norace)) #[] #[] hg (by simp) rfl;simpa only[Xs]using this
theorem cV.seen{V V':View}{w w':Tp}{es:Array Uq}(h:cV V w V' w' (ft es))(P:SJ)(fn:TO):cV V w V' w' (seen P fn es):=by
 have:=aph P fn es (λe he=>(h.eT e he).IW) V.deaf;exact⟨h.sat,h.tape,h.os,h.output,h.size,h.frame,h.own,h.ab,h.j7,λe he=>h.eT e (this.1 e he),by rw[h.deaf,this.2],h.role,h.chan,λe he=>h.low e (this.1 e he)⟩
open Go.Conc
inductive Out where
 |ret (v:SO)
 |panic (chain:List ZR)
def Leaves (P:SJ)(fr:Ua)(f:TO)(kd:Xe)(o:Out)(V:View):Prop:=
 fr.fn=f/\fr.defers=[]/\fr.kind=kd/\∃fn,P.funcs[f]?=some fn/\
  match o with
  |.ret v=>fr.mode=.returning/\aO P V (results fn fr.tmps) (λx V'=>x=v/\V'=V) (λ_ _=>False)
  |.panic ch=>fr.mode=.panicking ch
def Body (lv:Bool)(P:SJ)(f:TO)(args:Array SO)(kd:Xe)(V:View)(R:Out->View->Prop):Prop:=
 ∀(main:Bool)(J:View->SH->Prop),Closed lv P main J->∀cs,(∀o V' fr,R o V'->Leaves P fr f kd o V'->J V' (G fr cs))->J V (G (Frame.enter P f args kd) cs)
def mE (lv:Bool)(P:SJ)(fr:Ua)(V:View)(R:Out->View->Prop):Prop:=
 ∀(main:Bool)(J:View->SH->Prop),Closed lv P main J->∀c cs,(∀v V',R (.ret v) V'->J V' (G (c.finish v) cs))->(∀ch V',R (.panic ch) V'->J V' (G (c.raise ch) cs))->J V (G fr (c::cs))
theorem Body.mono{lv:Bool}{P:SJ}{f:TO}{args:Array SO}{kd:Xe}{V:View}{R R':Out->View->Prop}(h:Body lv P f args kd V R)(hr:∀o V,R o V->R' o V):Body lv P f args kd V R':=
 λmain J C cs hk=>h main J C cs λo V' fr r hl=>hk o V' fr (hr _ _ r) hl
theorem Body.ghost{lv:Bool}{P:SJ}{f:TO}{args:Array SO}{kd:Xe}{V V':View}{R:Out->View->Prop}(g:dP V V')(h:Body lv P f args kd V' R):Body lv P f args kd V R:=
 λmain J C cs hk=>C.ghost _ _ _ g (h main J C cs hk)
theorem mE.mono{lv:Bool}{P:SJ}{fr:Ua}{V:View}{R R':Out->View->Prop}(h:mE lv P fr V R)(hr:∀o V,R o V->R' o V):mE lv P fr V R':=
 λmain J C c cs h1 h2=>h main J C c cs (λv V' r=>h1 v V' (hr _ _ r)) (λv V' r=>h2 v V' (hr _ _ r))
theorem mE.ghost{lv:Bool}{P:SJ}{fr:Ua}{V V':View}{R:Out->View->Prop}(g:dP V V')(h:mE lv P fr V' R):mE lv P fr V R:=
 λmain J C c cs h1 h2=>C.ghost _ _ _ g (h main J C c cs h1 h2)
theorem aO.runs{P:SJ}{α:Type}{V:View}{s:Sem α}{K:α->View->Prop}{Kp:SO->View->Prop}(h:aO P V s K Kp){w:Tp}(hw:Sat V w):
  ∃es w' V',cV V w V' w' (ft es)/\s.events P w #[]=es/\((∃x,s.run P w=.ok x w'/\K x V')\/(∃v,s.run P w=.halt (.panic v) w'/\Kp v V')):=by
 obtain⟨es,w',V',h1,h2⟩:=h w hw #[];refine⟨es,w',V',h1,?_⟩;simp only[TC,UZ,Xs]at h2;rcases h2 with⟨x,⟨a,b⟩,c⟩|⟨x,⟨a,b⟩,c⟩
 ·exact⟨b,.inl ⟨x,a,c⟩⟩
 ·exact⟨b,.inr ⟨x,a,c⟩⟩
theorem alU{lv:Bool}{P:SJ}{main:Bool}{J:View->SH->Prop}(C:Closed lv P main J){fr c:Ua}{cs:List Ua}{f:TO}{v:SO}{V:View}(h:Leaves P fr f .normal (.ret v) V)(hJ:J V (G (c.finish v) cs)):J V (G fr (c::cs)):=by
 obtain⟨rfl,hd,hk,fn,hf,hm,hr⟩:=h;refine C.step _ _ rfl λw hw=> ?_;obtain⟨es,w',V',h1,h2,h3⟩:=hr.runs hw;rcases h3 with⟨x,h3,rfl,rfl⟩|⟨_,_,h⟩
 ·exact⟨G (c.finish x) cs,w',seen P fr.fn es,V',by simp[G,stepG,unwind,doReturn,hm,hd,hk,hf,h3,h2,T1],h1.seen P fr.fn,hJ⟩
 ·exact h.elim
theorem alT{lv:Bool}{P:SJ}{main:Bool}{J:View->SH->Prop}(C:Closed lv P main J){fr c:Ua}{cs:List Ua}{f:TO}{kd:Xe}{ch:List ZR}{V:View}(h:Leaves P fr f kd (.panic ch) V)(hJ:J V (G (c.raise ch) cs)):J V (G fr (c::cs)):=by
 obtain⟨rfl,hd,hk,fn,hf,hm⟩:=h;refine C.idle rfl (λw=> ?_) hJ;simp[G,stepG,unwind,ZT,hm,hd,hf]
theorem Body.runs{lv:Bool}{P:SJ}{f:TO}{args:Array SO}{V:View}{R:Out->View->Prop}(h:Body lv P f args .normal V R):mE lv P (Frame.enter P f args .normal) V R:=by
 intro main J C c cs h1 h2;refine h main J C (c::cs) λo V' fr r hl=> ?_;cases o with
 |ret v=>exact alU C hl (h1 v V' r)
 |panic ch=>exact alT C hl (h2 ch V' r)
def l_ (lv:Bool)(P:SJ)(r:Option Nat)(o:Tv)(a:Act)(next:Act->View->Prop)(Q:Ex->Act->View->Prop)(nx:Next)(V:View):Prop:=
 match nx with
 |.value v=>next (a.put o.dst v) V
 |.skip=>next (a.put o.dst undef) V
 |.defer d=>r=none/\next ({a with defers:=d::a.defers}.put o.dst undef) V
 |.enter f args=>Body lv P f args .normal V fun
   |.ret v,V'=>next (a.put o.dst v) V'
   |.panic ch,V'=>Q (.panic ch) a V'
 |.round l f tmps assign body=>mE lv P (W_ l f tmps assign body .normal) V fun
   |.ret v,V'=>next (a.put o.dst v) V'
   |.panic ch,V'=>Q (.panic ch) a V'
 |_=>False
def lR:Op->Bool
 |.defer _=>true
 |_=>false
def we (lv:Bool)(P:SJ)(r:Option Nat)(o:Tv)(a:Act)(V:View)(next:Act->View->Prop)(Q:Ex->Act->View->Prop):Prop:=
 (r=none\/lR o.op=false)/\aO P V (execOp a.eval o) (l_ lv P r o a next Q) (λv V'=>Q (.panic [{v,recovered:=false}]) a V')
def uI (lv:Bool)(P:SJ)(o:Tv)(a:Act)(V:View)(next:Act->View->Prop):Prop:=match o.op with
 |.send ch x=>∃(c Wg:Nat)(sp:Spec)(S:List Spec)(B:Nat->Bool),a.eval ch=.chan (some c)/\V.role=.work c Wg (sp::S)/\V.deaf=0/\sp (a.eval x) V.ab (λb=>if B b then V.own b else none)/\
   next (a.put o.dst undef) {V with own:=λb=>if B b then none else V.own b,role:=.work c Wg S}
 |.go cl=>lv=true/\∃(x:Tg)(f:TO)(fa ca:Array SO),cl.callee=.value x/\a.eval x=.func (.func f) fa ca/\V.deaf=0/\
   ((∃(c Wg:Nat)(Ss:List (List Spec))(sp:Spec)(S:List Spec),V.role=.fork c Wg Ss/\V.own c=some (.chan 0 #[] false 0 0 false)/\V.own Wg=some (wgBlock P (((Ss.length+1:Nat):Int)* 4294967296) 0)/\Ss.length<4/\(∀o,V.ab Wg o=none)/\
    (∀J0,xR P false J0->J0 {ab:=V.ab,own:=λ_=>none,deaf:=0,role:=.work c Wg (sp::S)} (born P ⟨.fn (.func f) ca,fa++cl.args.map a.eval⟩))/\next (a.put o.dst undef) {V with role:=.fork c Wg (Ss++[sp::S])})\/
    (∃(c Wg:Nat)(Ss:List (List Spec)),V.role=.fork c Wg Ss/\c≠Wg/\V.own c=some (.chan 0 #[] false 0 0 false)/\V.own Wg=some (wgBlock P (((Ss.length:Nat):Int)* 4294967296) 0)/\(∀o,V.ab c o=none)/\(∀o,V.ab Wg o=none)/\
    Hd P V.ab c Wg (born P ⟨.fn (.func f) ca,fa++cl.args.map a.eval⟩)/\next (a.put o.dst undef) {V with own:=λb=>if b=c\/b=Wg then none else V.own b,role:=.recv c Wg Ss}))
 |.recv t ch true=>lv=true/\∃(c Wg:Nat)(Ss:List (List Spec))(d:ChanDir)(el:TypeId)(i:Wj)(z:SO),a.eval ch=.chan (some c)/\P.underlying t=some (.chan d el)/\P.info? el=some i/\i.zero=some z/\V.role=.recv c Wg Ss/\V.deaf=0/\
   (∀(i:Nat)(sp:Spec)(S:List Spec)(v:SO)(Im:cm)(Ow:Av),Ss[i]?=some (sp::S)->sp v Im Ow->(∀b,V.own b≠none->Ow b=none)->(∀b o,V.own b≠none->Im b o≠none->V.ab b o≠none)->(∃w,Sat V w/\(∀b o x,Im b o=some x->w.cell? ⟨b,o,none⟩=some x)/\∀b x,Ow b=some x->w.heap[b]?=some x)->
    next (a.put o.dst (.tuple #[v,.bool true])) {V with ab:=λb o=>match V.ab b o with|some x=>some x|none=>Im b o,own:=λb=>match V.own b with|some x=>some x|none=>Ow b,role:=.recv c Wg (Ss.set i S)})/\
   ((∀S∈Ss,S=[])->next (a.put o.dst (.tuple #[z,.bool false])) {V with role:=.plain})
 |_=>False
theorem uI.mono{lv:Bool}{P:SJ}{o:Tv}{a:Act}{V:View}{N N':Act->View->Prop}(h:uI lv P o a V N)(hN:∀a V,N a V->N' a V):uI lv P o a V N':=by
 unfold uI at h⊢;split at h
 ·obtain⟨c,Wg,sp,S,B,h1,h2,h3,h4,h5⟩:=h;exact⟨c,Wg,sp,S,B,h1,h2,h3,h4,hN _ _ h5⟩
 ·obtain⟨sk,x,f,fa,ca,h1,h2,h3,h4⟩:=h;refine⟨sk,x,f,fa,ca,h1,h2,h3,h4.imp ?_ ?_⟩
  ·rintro⟨c,Wg,Ss,sp,S,q1,q2,q3,q4,q5,q6,q7⟩
   exact⟨c,Wg,Ss,sp,S,q1,q2,q3,q4,q5,q6,hN _ _ q7⟩
  ·rintro⟨c,Wg,Ss,q1,q2,q3,q4,q5,q6,q7,q8⟩
   exact⟨c,Wg,Ss,q1,q2,q3,q4,q5,q6,q7,hN _ _ q8⟩
 ·obtain⟨sk,c,Wg,Ss,d,el,ti,z,h1,h2,h3,h4,h5,h6,h7,h8⟩:=h;exact⟨sk,c,Wg,Ss,d,el,ti,z,h1,h2,h3,h4,h5,h6,λi sp S v Im Ow r1 r2 r3 r4 r5=>hN _ _ (h7 i sp S v Im Ow r1 r2 r3 r4 r5),λhS=>hN _ _ (h8 hS)⟩
 ·exact h
def Au (lv:Bool)(P:SJ)(r:Option Nat)(o:Tv)(a:Act)(V:View)(next:Act->View->Prop)(Q:Ex->Act->View->Prop):Prop:=we lv P r o a V next Q\/uI lv P o a V next
def c_ (lv:Bool)(P:SJ)(r:Option Nat)(ops:Array Tv)(Q:Ex->Act->View->Prop):List Nat->Act->View->Prop
 |[],a,V=>Q .normal a V
 |i::rest,a,V=>
  match ops[i]?with
  |none=>c_ lv P r ops Q rest a V
  |some o=>if Tf o (yielded ops a.tmps)then Au lv P r o a V (c_ lv P r ops Q rest) Q else c_ lv P r ops Q rest (a.put o.dst undef) V
theorem zB(b:Ua)(a:Act)(ops:Array Tv)(i:Nat)(rest:List Nat)(k:List WT)(v:SO):
  (on b a (.inRegion ops (i::rest)::k)).finish v=on b (a.put ((ops[i]?).bind (·.dst)) v) (.inRegion ops rest::k):=by
 cases h:(ops[i]?).bind (·.dst)<;>simp[Frame.finish,on,X5,h]
theorem abv{P:SJ}{main:Bool}{b:Ua}{a:Act}{k:List WT}{cs:List Ua}{w:Tp}{ops:Array Tv}{i:Nat}{rest:List Nat}(h:((ops[i]?).map (Tf · (yielded ops a.tmps))).getD false=false):
  stepG P main (G (on b a (.inRegion ops (i::rest)::k)) cs) w=.go (G (on b (a.put ((ops[i]?).bind (·.dst)) undef) (.inRegion ops rest::k)) cs) w #[]:=by
 rw[<- zB];simp only[on]at*;simp[G,stepG,Ud,h]
theorem s_op{P:SJ}{main:Bool}{b:Ua}{a:Act}{k:List WT}{cs:List Ua}{w:Tp}{ops:Array Tv}{i:Nat}{rest:List Nat}{o:Tv}(ho:ops[i]?=some o)(hw:Tf o (yielded ops a.tmps)=true)(hd:b.roundOf=none\/lR o.op=false):
  stepG P main (G (on b a (.inRegion ops (i::rest)::k)) cs) w=stepG.apply P true (on b a (.inRegion ops (i::rest)::k)) cs none (execOp a.eval o) w:=by
 have he:=am7 b a (.inRegion ops (i::rest)::k);simp only[on]at he;rcases hd with hd|hd
 ·rw[hd]at he;simp[G,stepG,Ud,Y5,YN,on,ho,hw,he,hd]
 ·cases hr:b.roundOf with
  |none=>
   rw[hr]at he;simp[G,stepG,Ud,Y5,YN,on,ho,hw,he,hr]
  |some l=>cases au:o.op<;>simp_all[G,stepG,Ud,Y5,YN,on,lR]
theorem apO{lv:Bool}{P:SJ}{main:Bool}{J:View->SH->Prop}(C:Closed lv P main J){ops:Array Tv}{i:Nat}{rest:List Nat}{o:Tv}{a:Act}{V:View}{N:Act->View->Prop}{b:Ua}{k:List WT}{cs:List Ua}(hb:b.kind≠ .early)
  (ho:ops[i]?=some o) (hw:Tf o (yielded ops a.tmps)=true) (h:uI lv P o a V N) (hN:∀a' V',N a' V'->J V' (G (on b a' (.inRegion ops rest::k)) cs)):J V (G (on b a (.inRegion ops (i::rest)::k)) cs):=by
 have jA:((on b a (.inRegion ops (i::rest)::k)).kind==U3)=false:=by simpa[on]using hb
 have dT:∀v,(on b a (.inRegion ops (i::rest)::k)).finish v=on b (a.put o.dst v) (.inRegion ops rest::k):=by
  intro v;rw[zB,ho];rfl
 have KB:∀v,T4 (G (on b a (.inRegion ops (i::rest)::k)) cs) v=G (on b (a.put o.dst v) (.inRegion ops rest::k)) cs:=λv=>by rw[<- dT v];rfl
 unfold uI at h;split at h
 ·rename_i ch x au;obtain⟨c,Wg,sp,S,B,h1,h2,h3,h4,h5⟩:=h;have aP:∀w,stepG P main (G (on b a (.inRegion ops (i::rest)::k)) cs) w=.comm (G (on b a (.inRegion ops (i::rest)::k)) cs) #[scase c (a.eval x) (.tuple #[])] true .send w #[]:=λw=>by
   rw[s_op ho hw (.inr (by rw[au];rfl))];have e:execOp a.eval o=pure (.comm #[scase c (a.eval x) (.tuple #[])] true .send):=by
    unfold execOp;simp only[au];rw[h1];rfl
   rw[e];simp only[stepG.apply,TC,if_true,jA,T1,Z8,ZI,Z'];rfl
  exact C.send _ _ c Wg sp S (a.eval x) (.tuple #[]) B h2 h3 rfl rfl (λw _=>aP w) h4 (by rw[KB];exact hN _ _ h5)
 ·rename_i cl au;obtain⟨sk,x,f,fa,ca,h1,h2,h3,h4⟩:=h;have aP:∀w,stepG P main (G (on b a (.inRegion ops (i::rest)::k)) cs) w=.spawn (G (on b (a.put o.dst undef) (.inRegion ops rest::k)) cs) (born P ⟨.fn (.func f) ca,fa++cl.args.map a.eval⟩) w #[]:=λw=>by
   rw[s_op ho hw (.inr (by rw[au];rfl)),<- dT undef];have e:execOp a.eval o=(pure (.spawn ⟨.fn (.func f) ca,fa++cl.args.map a.eval⟩):Sem Next):=by
    unfold execOp;simp only[au];unfold resolve;simp only[h1,h2];rfl
   rw[e];simp only[stepG.apply,TC,if_true,jA,T1,Z8,ZI,Z'];simp[born,G,on];exact Z' _ _
  rcases h4 with⟨c,Wg,Ss,sp,S,q1,q2,q3,q4,q5,q6,q7⟩|⟨c,Wg,Ss,q1,q2,q3,q4,q5,q6,q7,q8⟩
  ·exact(C.more sk).Ec _ _ _ _ c Wg Ss sp S q1 h3 rfl q2 q3 q4 q5 (λw _=>aP w) rfl q6 (hN _ _ q7)
  ·exact(C.more sk).Eb _ _ _ _ c Wg Ss q1 h3 rfl q2 q3 q4 q5 q6 (λw _=>aP w) rfl q7 (hN _ _ q8)
 ·rename_i t ch au;obtain⟨sk,c,Wg,Ss,d,el,ti,z,h1,h2,h3,h4,h5,h6,h7,h8⟩:=h;have aP:∀w,stepG P main (G (on b a (.inRegion ops (i::rest)::k)) cs) w=.comm (G (on b a (.inRegion ops (i::rest)::k)) cs) #[rcase c z] true (.recv true) w #[]:=λw=>by
   rw[s_op ho hw (.inr (by rw[au];rfl))];have hu:(underlying t).run P w=.ok (.chan d el) w:=run_underlying h2 w;have hi:(typeInfo el).run P w=.ok ti w:=(by simp[typeInfo,h3]);have hz:(zeroValue el).run P w=.ok z w:=(by simp[zeroValue,hi,h4]);have ud:(zeroValue el).events P w #[]=#[]:=(by simp[zeroValue,hi,h4]);have e1:(execOp a.eval o).run P w=.ok (.comm #[rcase c z] true (.recv true)) w:=by
    unfold execOp;simp only[au];rw[h1];simp[hu,hz,rcase]
   have e2:(execOp a.eval o).events P w #[]=#[]:=by
    unfold execOp;simp only[au];rw[h1];simp[hu,hz,ud]
   simp only[stepG.apply,TC,if_true,jA,T1,e1,e2,Z'];rfl
  refine(C.more sk).recv _ _ c Wg Ss z h5 h6 rfl rfl (λw _=>aP w) (λi sp S v Im Ow r1 r2 r3 r4 r5=> ?_) λhS=> ?_
  ·rw[KB];exact hN _ _ (h7 i sp S v Im Ow r1 r2 r3 r4 r5)
  ·rw[KB];exact hN _ _ (h8 hS)
 ·exact h.elim
theorem wp_ops{lv:Bool}{P:SJ}{r:Option Nat}{ops:Array Tv}{Q:Ex->Act->View->Prop}(l:List Nat):
  ∀(a:Act)(V:View),c_ lv P r ops Q l a V->∀(main:Bool)(J:View->SH->Prop),Closed lv P main J->∀(b:Ua)(k:List WT)(cs:List Ua),b.kind≠ .early->b.roundOf=r->
   (∀e a' V',Q e a' V'->uG J b k cs e a' V')->J V (G (on b a (.inRegion ops l::k)) cs):=by
 induction l with
 |nil=>exactλa V h main J C b k cs _ _ hL=>C.idle rfl (λ_=>ao9) (hL _ _ _ h)
 |cons i rest ih=>
  intro a V h main J C b k cs hb hr hL;simp only[c_]at h;cases ho:ops[i]?with
  |none=>
   simp only[ho]at h;refine C.idle rfl (λw=>abv (by simp[ho])) ?_;simp only[ho,Option.bind_none,X5];exact ih a V h main J C b k cs hb hr hL
  |some o=>
   simp only[ho]at h;by_cases hw:Tf o (yielded ops a.tmps)=true
   ·simp only[hw,if_true]at h;rcases h with h|h
    rotate_left
    ·exact apO C hb ho hw h λa' V' h'=>ih a' V' h' main J C b k cs hb hr hL
    obtain⟨bw,au⟩:=h;have ajv:b.roundOf=none\/lR o.op=false:=hr▸bw;have dT:∀v,(on b a (.inRegion ops (i::rest)::k)).finish v=on b (a.put o.dst v) (.inRegion ops rest::k):=by
     intro v;rw[zB,ho];rfl
    have jA:((on b a (.inRegion ops (i::rest)::k)).kind==U3)=false:=(by simpa[on]using hb);refine C.step _ _ rfl λw ff=> ?_;obtain⟨es,w',V',h1,h2,h3⟩:=au.runs ff;rw[s_op ho hw ajv];rcases h3 with⟨nx,h3,hU⟩|⟨v,h3,hU⟩
    ·cases nx with
     |value v=>exact⟨_,w',seen P b.fn es,V',by rw[<- dT v];simp only[stepG.apply,TC,if_true,h3,h2,jA,T1];rfl,h1.seen P _,ih _ _ hU main J C b k cs hb hr hL⟩
     |skip=>exact⟨_,w',seen P b.fn es,V',by rw[<- dT undef];simp only[stepG.apply,TC,if_true,h3,h2,jA,T1];rfl,h1.seen P _,ih _ _ hU main J C b k cs hb hr hL⟩
     | «defer» d =>
      obtain⟨zf,hU⟩:=hU;have io:({on b a (.inRegion ops (i::rest)::k)with defers:=d::a.defers}:Ua).finish undef=on b ({a with defers:=d::a.defers}.put o.dst undef) (.inRegion ops rest::k):=by
       have:=zB b {a with defers:=d::a.defers} ops i rest k undef;rw[ho]at this;exact this
      exact⟨_,w',seen P b.fn es,V',by
       rw[<- io];simp only[stepG.apply,TC,if_true,h3,h2,jA,T1];rfl,h1.seen P _,ih _ _ hU main J C b k cs hb hr hL⟩
     |enter f args=>
      refine⟨G (Frame.enter P f args .normal) (on b a (.inRegion ops (i::rest)::k)::cs),w',seen P b.fn es,V',by simp only[stepG.apply,TC,if_true,h3,h2,jA,T1];rfl,h1.seen P _,?_⟩;refine Body.runs hU main J C _ cs (λv aR hR=> ?_) (λch aR hR=> ?_)
      ·rw[dT];exact ih _ _ hR main J C b k cs hb hr hL
      ·exact hL _ _ _ hR _ rfl
     |round l f tmps assign body=>
      refine⟨G (W_ l f tmps assign body .normal) (on b a (.inRegion ops (i::rest)::k)::cs),w',seen P b.fn es,V',by simp only[stepG.apply,TC,if_true,h3,h2,jA,T1];rfl,h1.seen P _,?_⟩;refine hU main J C _ cs (λv aR hR=> ?_) (λch aR hR=> ?_)
      ·rw[dT];exact ih _ _ hR main J C b k cs hb hr hL
      ·exact hL _ _ _ hR _ rfl
     |_=>exact hU.elim
    ·refine⟨G ((on b a (.inRegion ops (i::rest)::k)).raise [{v,recovered:=false}]) cs,w',seen P b.fn es,V',by simp only[stepG.apply,TC,if_true,h3,h2,jA,T1];rfl,h1.seen P _,hL _ _ _ hU _ rfl⟩
   ·have nd:Tf o (yielded ops a.tmps)=false:=(by simpa using hw);simp only[nd,if_false,TN]at h;refine C.idle rfl (λw=>abv (by simp[ho,nd])) ?_;simp only[ho,Option.bind_some];exact ih _ _ h main J C b k cs hb hr hL
theorem wp_region{lv:Bool}{P:SJ}{r:Option Nat}{id:Nat}{ops:Array Tv}{Q:Ex->Act->View->Prop}{a:Act}{V:View}(h:c_ lv P r ops Q (SV ops.size) a V):WP lv P r (.region id ops false) Q a V:=
 λmain J C b k cs hb hr hL=>C.idle rfl (λ_=>abw) (wp_ops _ a V h main J C b k cs hb hr hL)
theorem M6{lv:Bool}{P:SJ}{r:Option Nat}{id:Nat}{ops:Array Tv}{Q:Ex->Act->View->Prop}{a:Act}{V:View}(h:∀t,c_ lv P r ops Q (VK (P.follows .mixedOrders) ops t) a V):WP lv P r (.region id ops true) Q a V:=
 λmain J C b k cs hb hr hL=>C.step _ _ rfl λw hw=>⟨_,_,#[],V,ao0,.draw hw _,wp_ops _ a V (h _) main J C b k cs hb hr hL⟩
def Ends (P:SJ)(fn:YF)(R:Out->View->Prop):Ex->Act->View->Prop
 |.normal,a,V|.ret,a,V=>a.defers=[]/\∃v,aO P V (results fn a.tmps) (λx V'=>x=v/\V'=V) (λ_ _=>False)/\R (.ret v) V
 |.panic ch,a,V=>a.defers=[]/\R (.panic ch) V
 |_,_,_=>False
theorem N5{lv:Bool}{P:SJ}{f:TO}{fn:YF}{c:T9}{args:Array SO}{kd:Xe}{V:View}{R:Out->View->Prop}(hk:kd≠ .early)(hf:P.funcs[f]?=some fn)(hb:fn.body=some c)
  (h:WP lv P none c (Ends P fn R) {tmps:=args++TK (fn.ntmps-args.size) undef,defers:=[]} V):Body lv P f args kd V R:=by
 intro main J C cs hR;let b:Ua:={(default:Ua)with fn:=f,kind:=kd,roundOf:=none};have tM:Frame.enter P f args kd=on b {tmps:=args++TK (fn.ntmps-args.size) undef,defers:=[]} [.code c]:=by
  simp[Frame.enter,on,hf,hb,b]
 rw[tM];refine h main J C b [] cs hk rfl λe a' V' q=> ?_;cases e with
 |normal=>
  obtain⟨hd,v,hs,hr⟩:=q;exact C.idle rfl (λw=>CK rfl) (hR _ _ _ hr ⟨rfl,hd,rfl,fn,hf,rfl,hs⟩)
 |ret=>
  obtain⟨hd,v,hs,hr⟩:=q;intro k;exact C.idle rfl (λw=>CL rfl) (hR _ _ _ hr ⟨rfl,hd,rfl,fn,hf,rfl,hs⟩)
 |panic ch=>
  obtain⟨hd,hr⟩:=q;intro todo _;exact hR _ _ _ hr ⟨rfl,hd,rfl,fn,hf,rfl⟩
 |exit id=>exact q.elim
 |goto l=>exact q.elim
open Go.Conc
inductive End where
 |exact
 |shut
 |opn (k:Nat)
 deriving DecidableEq
inductive AV where
 |val (x:SO)
 |agg (l:List AV)
 |aJ (l:List AV)
 |sl (n:Nat) (l:List AV) (e:End)
 |bD (id off n cap:Nat)
 |rp (l:List AV)
 |op (id off:Nat)
 |fn (f:Fn) (first cM:List AV)
 |cS (t:TypeId) (x:AV)
 |mp (id:Nat)
structure Env where
 I:cm
 n:Nat
 blk:Nat->Nat
 room:Nat->Nat->Option U2×Nat
 fh:Nat->Nat
 fr:Nat->Option Obj
 main:Bool
structure Env.Le (E E':Env):Prop where
 I:∀b o v,E.I b o=some v->E'.I b o=some v
 n:E.n<=E'.n
 blk:∀k,k<E.n->E'.blk k=E.blk k
 fh:∀k,k<E.n->E.fh k<=E'.fh k
 room:∀k v,k<E.n->v<=E.fh k->E'.room k v=E.room k v
 fr:E'.fr=E.fr
 main:E'.main=E.main
theorem Env.Le.refl(E:Env):E.Le E:=⟨λ_ _ _ h=>h,SQ _,λ_ _=>rfl,λ_ _=>SQ _,λ_ _ _ _=>rfl,rfl,rfl⟩
theorem Env.Le.trans{E E' bO:Env}(h:E.Le E')(k:E'.Le bO):E.Le bO:=
 ⟨λb o v e=>k.I b o v (h.I b o v e),UF h.n k.n,λi hi=>(k.blk i (Tc hi h.n)).trans (h.blk i hi),λi hi=>UF (h.fh i hi) (k.fh i (Tc hi h.n)),
  λi v hi hv=>(k.room i v (Tc hi h.n) (UF hv (h.fh i hi))).trans (h.room i v hi hv),k.fr.trans h.fr,k.main.trans h.main⟩
def oW (E:Env)(e:End)(a:Option U2)(n cap:Nat):Prop:=match e with
 |.exact=>cap=n
 |.shut=>True
 |.opn k=>k<E.n/\n<=E.fh k/\E.room k n=(a,cap)
inductive ap (E:Env):AV->SO->Prop
 |val (x:SO):ap E (.val x) x
 |agg {l:List AV} {cs:Array SO} (hs:cs.size=l.length) (h:∀(i:Nat) a,l[i]?=some a->ap E a (cs.getD i undef)):ap E (.agg l) (.agg cs)
 |aJ {l:List AV} {cs:Array SO} (hs:cs.size=l.length) (h:∀(i:Nat) a,l[i]?=some a->ap E a (cs.getD i undef)):ap E (.aJ l) (.tuple cs)
 |sl {n:Nat} {l:List AV} {e:End} (b o cap:Nat) (f:Nat->SO) (hc:n<=cap) (he:oW E e (some ⟨b,o,none⟩) n cap)
   (h1:∀i,i<l.length->E.I b (o+i)=some (f i)) (h2:∀(i:Nat) x,l[i]?=some x->ap E x (f i)):ap E (.sl n l e) (.slice (some ⟨b,o,none⟩) n cap)
 |nil {e:End} {a:Option U2} (he:oW E e a 0 0):ap E (.sl 0 [] e) (.slice a 0 0)
 |bD {id off n cap cap':Nat} (hi:id<E.n) (dJ:n<=cap'/\(n<=cap->cap=cap')/\(cap<n->cap'<=(E.room id 0).2)):ap E (.bD id off n cap) (.slice (some ⟨E.blk id,off,none⟩) n cap')
 |rp {l:List AV} (b o:Nat) (f:Nat->SO) (h1:∀i,i<l.length->E.I b (o+i)=some (f i)) (h2:∀(i:Nat) x,l[i]?=some x->ap E x (f i)):ap E (.rp l) (.pointer (some ⟨b,o,none⟩))
 |op {id off:Nat} (hi:id<E.n):ap E (.op id off) (.pointer (some ⟨E.blk id,off,none⟩))
 |fn {f:Fn} {first cM:List AV} {fa ca:Array SO} (dF:fa.size=first.length) (fI:ca.size=cM.length) (h1:∀(i:Nat) a,first[i]?=some a->ap E a (fa.getD i undef)) (h2:∀(i:Nat) a,cM[i]?=some a->ap E a (ca.getD i undef)):ap E (.fn f first cM) (.func f fa ca)
 |cS {t:TypeId} {x:AV} {v:SO} (h:ap E x v):ap E (.cS t x) (.iface t v)
 |mp {id:Nat} (hi:id<E.n):ap E (.mp id) (.map (some (E.blk id)))
theorem oW.mono{E E':Env}(h:E.Le E'){e:End}{a:Option U2}{n cap:Nat}(k:oW E e a n cap):oW E' e a n cap:=by
 cases e with
 |exact=>exact k
 |shut=>trivial
 |opn i=>exact⟨Tc k.1 h.n,UF k.2.1 (h.fh i k.1),by rw[h.room i n k.1 k.2.1];exact k.2.2⟩
theorem ap.mono{E E':Env}(h:E.Le E'){a:AV}{v:SO}(d:ap E a v):ap E' a v:=by
 induction d with
 |val x=>exact .val x
 |agg hs _ ih=>exact .agg hs ih
 |aJ hs _ ih=>exact .aJ hs ih
 |sl b o cap f hc he h1 _ ih=>exact .sl b o cap f hc (he.mono h) (λi hi=>h.I _ _ _ (h1 i hi)) ih
 |nil he=>exact .nil (he.mono h)
 |bD hi dJ=>rw[<- h.blk _ hi];exact .bD (Tc hi h.n) ⟨dJ.1,dJ.2.1,λe=>by rw[h.room _ 0 hi (Yd _)];exact dJ.2.2 e⟩
 |rp b o f h1 _ ih=>exact .rp b o f (λi hi=>h.I _ _ _ (h1 i hi)) ih
 |op hi=>rw[<- h.blk _ hi];exact .op (Tc hi h.n)
 |fn dF fI _ _ mq kK=>exact .fn dF fI mq kK
 |cS _ ih=>exact .cS ih
 |mp hi=>rw[<- h.blk _ hi];exact .mp (Tc hi h.n)
def AV.leaf:AV->Bool
 |.agg _|.aJ _=>false
 |.val x=>x.one
 |_=>true
inductive aa where
 |cells (l:List AV) (elem:TypeId)
 |part (p:Nat) (l:List AV) (elem:TypeId)
 |own (sz:Nat) (l:List AV) (elem:TypeId)
 |tail (n sz:Nat) (elem:TypeId)
 |obj (x:Obj)
 |iter (m since:Nat) (seen:Array Nat) (sO:Nat)
 |loop (r:Nat) (st:Z9) (pend:Option T9) (fn:TO) (T:List (Nat×AV)) (nt:Nat) (ps:Array Tmp) (bI body:T9) (df:Nat)
 |gone
 |main
def look:List (Nat×AV)->Nat->Option AV
 |[],_=>none
 |(k,a)::l,t=>if k=t then some a else look l t
def bZ (E:Env)(T:List (Nat×AV))(tmps:Array SO):Prop:=∀t a,look T t=some a->t<tmps.size/\ap E a (tmps.getD t undef)
theorem bZ.mono{E E':Env}(h:E.Le E'){T:List (Nat×AV)}{tmps:Array SO}(k:bZ E T tmps):bZ E' T tmps:=λt a e=>⟨(k t a e).1,(k t a e).2.mono h⟩
theorem bZ.put{E:Env}{T:List (Nat×AV)}{tmps:Array SO}(k:bZ E T tmps){d:Nat}(hd:d<tmps.size){a:AV}{v:SO}(hv:ap E a v):bZ E ((d,a)::T) (tmps.setIfInBounds d v):=by
 intro t x e;simp only[look]at e;by_cases h:d=t
 ·subst h;rw[if_pos rfl]at e;cases e;exact⟨by simpa using hd,by simpa[SI,S_ hd]using hv⟩
 ·rw[if_neg h]at e;have:=k t x e;exact⟨by simpa using this.1,by simpa[SI,SU h]using this.2⟩
def cE (E:Env)(l:List AV)(cs:Array SO):Prop:=cs.size=l.length/\∀(i:Nat) a,l[i]?=some a->ap E a (cs.getD i undef)
theorem cE.mono{E E':Env}(h:E.Le E'){l:List AV}{cs:Array SO}(d:cE E l cs):cE E' l cs:=⟨d.1,λi a e=>(d.2 i a e).mono h⟩
def jF (E:Env)(l:List AV)(cs:Array SO):Prop:=l.length<=cs.size/\∀(i:Nat) a,l[i]?=some a->ap E a (cs.getD i undef)
theorem jF.mono{E E':Env}(h:E.Le E'){l:List AV}{cs:Array SO}(d:jF E l cs):jF E' l cs:=⟨d.1,λi a e=>(d.2 i a e).mono h⟩
theorem cE.p{E:Env}{l:List AV}{cs:Array SO}(d:cE E l cs):jF E l cs:=⟨WG d.1.symm,d.2⟩
def bJ (E:Env)(k:Nat):aa->Option Nat
 |.tail n _ _=>if(E.room k n).2=n then none else(E.room k n).1.map (·.block)
 |.gone|.main=>none
 |_=>some (E.blk k)
def fz (E:Env)(V:View)(k:Nat):aa->Prop
 |.cells l elem=>(∃cs,V.own (E.blk k)=some (.cells cs elem (0,0))/\cE E l cs)/\∀o,V.ab (E.blk k) o=none
 |.part p l elem=>(∃cs,V.own (E.blk k)=some (.cells cs elem (0,0))/\jF E l cs/\∀o,o<p->V.ab (E.blk k) o=cs[o]?)/\∀o,p<=o->V.ab (E.blk k) o=none
 |.own sz l elem=>(∃cs,V.own (E.blk k)=some (.cells cs elem (0,0))/\jF E l cs/\cs.size=(E.room k 0).2* sz)/\∀o,V.ab (E.blk k) o=none
 |.tail n sz elem=>E.fh k=n/\((E.room k n).2=n\/∃b cap cs,E.room k n=(some ⟨b,0,none⟩,cap)/\V.own b=some (.cells cs elem (0,0))/\cs.size=cap* sz/\n<cap/\∀o,n* sz<=o->V.ab b o=none)
 |.obj x=>V.own (E.blk k)=some x/\x.ug=false/\x.isChan=false/\∀o,V.ab (E.blk k) o=none
 |.iter m since seen sO=>m<E.n/\V.own (E.blk k)=some (.mapIter (some (E.blk m)) since seen sO)/\∀o,V.ab (E.blk k) o=none
 |.loop r st pend fn T nt ps bI body df=>(∃tmps,V.own (E.blk k)=some (.loop {state:=st,pending:=pend,fn,tmps,params:=ps,assign:=bI,body,defers:=E.blk df})/\tmps.size=nt/\bZ E T tmps)/\df<E.n/\(∀o,V.ab (E.blk k) o=none)/\E.blk k=r
 |.gone=>True
 |.main=>E.main=true
structure Conc (E:Env)(V:View)(H:List aa):Prop where
 I:E.I=V.ab
 n:E.n=H.length
 obj:∀k x,H[k]?=some x->fz E V k x
 inj:∀i j x y b,H[i]?=some x->H[j]?=some y->bJ E i x=some b->bJ E j y=some b->i=j
 group:∀g,V.role.group=some g->V.own g≠none/\(∀o,V.ab g o=none)/\∀(k:Nat) x,H[k]?=some x->bJ E k x≠some g
 chan:∀c,V.role.chan=some c->V.own c≠none/\(∀o,V.ab c o=none)/\∀(k:Nat) x,H[k]?=some x->bJ E k x≠some c
 top:E.main=true->V.role=.plain/\V.deaf=0
 fr:∀b y,E.fr b=some y->V.own b=some y/\(∀o,V.ab b o=none)/\∀(k:Nat) x,H[k]?=some x->bJ E k x≠some b
structure AS where
 T:List (Nat×AV)
 H:List aa
def AS.Le (s s':AS):Prop:=(∀t a,look s'.T t=some a->look s.T t=some a)/\s'.H=s.H
def AV.of:SO->AV
 |.agg cs=> .agg (cs.toList.map λ|.slice none 0 0=> .sl 0 [] .exact|v=> .val v)
 |.slice none 0 0=> .sl 0 [] .exact
 |v=> .val v
def AV.oQ:SO->AV
 |.slice none 0 0=> .sl 0 [] .exact
 |v=> .val v
theorem H6(E:Env)(v:SO):ap E (AV.oQ v) v:=by
 unfold AV.oQ;split
 ·exact .nil rfl
 ·exact .val _
theorem rS(E:Env)(v:SO):ap E (AV.of v) v:=by
 unfold AV.of;split
 ·rename_i cs;refine .agg (by simp) λi a h=> ?_;rw[To]at h;obtain⟨x,hx,rfl⟩:=Tq.1 h;have:cs[i]?=some x:=by simpa using hx
  rw[SI,this];exact H6 E x
 ·exact .nil rfl
 ·exact .val _
def AS.ev (s:AS):Tg->Option AV
 |.tmp t=>look s.T t
 |.const v=>some (AV.of v)
 |.func f=>some (.fn (.func f) [] [])
 |.global _=>none
theorem ap.ev{E:Env}{s:AS}{a:Act}(k:bZ E s.T a.tmps){x:Tg}{av:AV}(h:s.ev x=some av):ap E av (a.eval x):=by
 cases x with
 |tmp t=>exact(k t av h).2
 |const v=>cases h;exact rS E v
 |func f=>cases h;exact .fn rfl rfl (by simp) (by simp)
 |global g=>cases h
theorem fz.AU{E:Env}{V:View}{k:Nat}{x:aa}(h:fz E V k x){b:Nat}(hb:bJ E k x=some b):∃y,V.own b=some y:=by
 cases x with
 |cells l el=>cases hb;obtain⟨⟨cs,h1,_⟩,_⟩:=h;exact⟨_,h1⟩
 |part p l el=>cases hb;obtain⟨⟨cs,h1,_⟩,_⟩:=h;exact⟨_,h1⟩
 |own p l el=>cases hb;obtain⟨⟨cs,h1,_⟩,_⟩:=h;exact⟨_,h1⟩
 |tail n sz el=>
  obtain⟨hv,h|⟨b',cap,cs,h1,h2,h3,h4,h5⟩⟩:=h
  ·simp only[bJ,h,if_true]at hb;cases hb
  ·simp only[bJ,h1]at hb;rw[if_neg (by omega)]at hb;cases hb;exact⟨_,h2⟩
 |obj x=>cases hb;exact⟨_,h.1⟩
 |iter m since seen sO=>cases hb;exact⟨_,h.2.1⟩
 |loop=>cases hb;obtain⟨⟨tmps,h1,_⟩,_⟩:=h;exact⟨_,h1⟩
 |gone=>cases hb
 |main=>cases hb
theorem N3{E E':Env}(hl:E.Le E'){k:Nat}(hk:k<E.n){x:aa}{V:View}(h:fz E V k x):bJ E' k x=bJ E k x:=by
 cases x with
 |tail n sz el=>simp only[bJ];rw[hl.room k n hk (WG h.1.symm)]
 |gone=>rfl
 |main=>rfl
 |_=>simp only[bJ,hl.blk k hk]
theorem fz.mono{E E':Env}{V V':View}{k:Nat}{x:aa}(h:fz E V k x)(hl:E.Le E')(hk:k<E.n)(zo:E'.fh k=E.fh k)
  (ho:∀b y,bJ E k x=some b->V.own b=some y->V'.own b=some y) (hi:∀b,bJ E k x=some b->∀o,V'.ab b o=V.ab b o):fz E' V' k x:=by
 cases x with
 |cells l el=>
  obtain⟨⟨cs,h1,h2⟩,h3⟩:=h;simp only[fz,hl.blk k hk];exact⟨⟨cs,ho _ _ rfl h1,h2.mono hl⟩,λo=>(hi _ rfl o).trans (h3 o)⟩
 |part p l el=>
  obtain⟨⟨cs,h1,h2,h4⟩,h3⟩:=h;simp only[fz,hl.blk k hk];exact⟨⟨cs,ho _ _ rfl h1,h2.mono hl,λo hp=>(hi _ rfl o).trans (h4 o hp)⟩,λo hp=>(hi _ rfl o).trans (h3 o hp)⟩
 |own sz l el=>
  obtain⟨⟨cs,h1,h2,h4⟩,h3⟩:=h;simp only[fz,hl.blk k hk,hl.room k 0 hk (Yd _)];exact⟨⟨cs,ho _ _ rfl h1,h2.mono hl,h4⟩,λo=>(hi _ rfl o).trans (h3 o)⟩
 |tail n sz el=>
  obtain⟨hv,h⟩:=h;simp only[fz,zo,hl.room k n hk (WG hv.symm)];refine⟨hv,?_⟩;rcases h with h|⟨b',cap,cs,h1,h2,h3,h4,h5⟩
  ·exact .inl h
  ·have hb:bJ E k (.tail n sz el)=some b':=(by simp only[bJ,h1];rw[if_neg (by omega)];rfl);exact .inr ⟨b',cap,cs,h1,ho _ _ hb h2,h3,h4,λo hm=>(hi _ hb o).trans (h5 o hm)⟩
 |obj x=>
  obtain⟨h1,h2,h4,h3⟩:=h;simp only[fz,hl.blk k hk];exact⟨ho _ _ rfl h1,h2,h4,λo=>(hi _ rfl o).trans (h3 o)⟩
 |iter m since seen sO=>
  obtain⟨h0,h1,h2⟩:=h;simp only[fz,hl.blk k hk,hl.blk m h0];exact⟨Tc h0 hl.n,ho _ _ rfl h1,λo=>(hi _ rfl o).trans (h2 o)⟩
 |loop r st pend fn T nt ps bI body df=>
  obtain⟨⟨tmps,h1,h2,h3⟩,h4,h5,h6⟩:=h;simp only[fz,hl.blk k hk,hl.blk df h4];exact⟨⟨tmps,ho _ _ rfl h1,h2,h3.mono hl⟩,Tc h4 hl.n,λo=>(hi _ rfl o).trans (h5 o),h6⟩
 |gone=>trivial
 |main=>exact hl.main.trans h
theorem Conc.iF{E E':Env}{V V':View}{H H':List aa}(hc:Conc E V H)(k:Nat)(x':aa)(hle:E.Le E')(hI:E'.I=V'.ab)(hn:E'.n=H'.length)
  (hH:∀(j:Nat) y,H'[j]?=some y->(j=k/\y=x')\/(j≠k/\H[j]?=some y)) (hr:V'.role=V.role)
  (zo:∀j,j≠k->j<E.n->E'.fh j=E.fh j)
  (ho:∀b y,(∀x,H[k]?=some x->bJ E k x≠some b)->V.own b=some y->V'.own b=some y/\∀o,V'.ab b o=V.ab b o)
  (hx:fz E' V' k x') (hb:∀b,bJ E' k x'=some b->(∃x,H[k]?=some x/\bJ E k x=some b)\/V.own b=none) (bw:V'.deaf=V.deaf:=by rfl):Conc E' V' H':=by
 have hlt:∀(j:Nat) y,H[j]?=some y->j<E.n:=λj y h=>by rw[hc.n];exact(SN.1 h).1
 have cJ:∀(j:Nat) y b,H[j]?=some y->bJ E' j y=some b->bJ E j y=some b:=λj y b h e=>by rw[<- N3 hle (hlt j y h) (hc.obj j y h)];exact e
 have Rk:∀(j:Nat) y b,j≠k->H[j]?=some y->bJ E j y=some b->∀x,H[k]?=some x->bJ E k x≠some b:=λj y b hj h1 h2 x h3 h4=>hj (hc.inj j k y x b h1 h3 h2 h4);have hg:∀(j:Nat) y,H'[j]?=some y->∀g,V.own g≠none->(∀(i:Nat) x,H[i]?=some x->bJ E i x≠some g)->bJ E' j y≠some g:=λj y h g oH fH e=>by
  rcases hH j y h with⟨rfl,rfl⟩|⟨hj,h⟩
  ·rcases hb g e with⟨x,h1,h2⟩|h2
   ·exact fH _ x h1 h2
   ·exact oH h2
  ·exact fH j y h (cJ j y g h e)
 have hk:∀g,V.own g≠none->(∀(i:Nat) x,H[i]?=some x->bJ E i x≠some g)->V'.own g≠none/\∀o,V'.ab g o=V.ab g o:=λg oH fH=>by
  cases e:V.own g with
  |none=>exact absurd e oH
  |some y=>
   have:=ho g y (λx hx=>fH k x hx) e;exact⟨by rw[this.1];simp,this.2⟩
 refine⟨hI,hn,λj y h=> ?_,λi j y z b h1 h2 e1 e2=> ?_,λg QD=> ?_,λc eJ=> ?_,λhm=>(by rw[hr,bw];exact hc.top (by rw[<- hle.main];exact hm)),λb y jh=> ?_⟩
 ·rcases hH j y h with⟨rfl,rfl⟩|⟨hj,h⟩
  ·exact hx
  ·have kZ:=hc.obj j y h;refine kZ.mono hle (hlt j y h) (zo j hj (hlt j y h)) (λb z jY hz=> ?_) (λb jY o=> ?_)
   ·exact(ho b z (Rk j y b hj h jY) hz).1
   ·obtain⟨z,hz⟩:=kZ.AU jY;exact(ho b z (Rk j y b hj h jY) hz).2 o
 ·have new:∀(j:Nat) y,j≠k->H[j]?=some y->bJ E' j y=some b->bJ E' k x'≠some b:=λj y hj h e e'=>by
   have e:=cJ j y b h e;rcases hb b e' with⟨x,Ce,hx2⟩|h1
   ·exact hj (hc.inj j k y x b h Ce e hx2)
   ·obtain⟨q,hq⟩:=(hc.obj j y h).AU e;rw[h1]at hq;cases hq
  rcases hH i y h1 with⟨rfl,rfl⟩|⟨hi,h1⟩<;>rcases hH j z h2 with⟨rfl,rfl⟩|⟨hj,h2⟩
  ·rfl
  ·exact absurd e1 (new j z hj h2 e2)
  ·exact absurd e2 (new i y hi h1 e1)
  ·exact hc.inj i j y z b h1 h2 (cJ i y b h1 e1) (cJ j z b h2 e2)
 ·rw[hr]at QD;obtain⟨h0,h1,h2⟩:=hc.group g QD;exact⟨(hk g h0 h2).1,λo=>((hk g h0 h2).2 o).trans (h1 o),λj y h=>hg j y h g h0 h2⟩
 ·rw[hr]at eJ;obtain⟨h0,h1,h2⟩:=hc.chan c eJ;exact⟨(hk c h0 h2).1,λo=>((hk c h0 h2).2 o).trans (h1 o),λj y h=>hg j y h c h0 h2⟩
 ·rw[hle.fr]at jh;obtain⟨h0,h1,h2⟩:=hc.fr b y jh;have Ee:V.own b≠none:=by rw[h0];simp
  exact⟨(ho b y (λx hx=>h2 k x hx) h0).1,λo=>((hk b Ee h2).2 o).trans (h1 o),λj z h=>hg j z h b Ee h2⟩
theorem lq{α:Type}{H:List α}{k:Nat}{x':α}:∀(j:Nat) y,(H.set k x')[j]?=some y->(j=k/\y=x')\/(j≠k/\H[j]?=some y):=λj y h=>by
 by_cases hj:j=k
 ·subst hj;rw[List.getElem?_set_self']at h;cases e:H[j]?with
  |none=>rw[e]at h;cases h
  |some z=>rw[e]at h;exact .inl ⟨rfl,by simpa using h.symm⟩
 ·rw[T5 (Ne.symm hj)]at h;exact .inr ⟨hj,h⟩
theorem Ct{α:Type}{H:List α}{x':α}:∀(j:Nat) y,(H++[x'])[j]?=some y->(j=H.length/\y=x')\/(j≠H.length/\H[j]?=some y):=λj y h=>by
 by_cases hk:j<H.length
 ·rw[SZ hk]at h;exact .inr ⟨by omega,h⟩
 ·rw[Tj (by omega)]at h;have aI:j-H.length=0:=by
   have:=(SN.1 h).1;simpa using this
  rw[aI]at h;exact .inl ⟨by omega,by simpa using h.symm⟩
theorem Conc.iS{E:Env}{V:View}{H:List aa}(hc:Conc E V H){k:Nat}{x:aa}(hk:H[k]?=some x){b:Nat}(hb:bJ E k x=some b):V.role.group≠some b/\V.role.chan≠some b:=
 ⟨λe=>(hc.group b e).2.2 k x hk hb,λe=>(hc.chan b e).2.2 k x hk hb⟩
theorem Conc.R6{E:Env}{V:View}{H:List aa}(hc:Conc E V H){b o:Nat}{v:SO}(h:E.I b o=some v):V.role.group≠some b/\V.role.chan≠some b:=
 ⟨λe=>(by have:=(hc.group b e).2.1 o;rw[<- hc.I,h]at this;cases this),λe=>(by have:=(hc.chan b e).2.1 o;rw[<- hc.I,h]at this;cases this)⟩
open Go.Conc
def AS.put (s:AS)(dst:Option Nat)(av:AV):AS:=match dst with
 |some d=>⟨(d,av)::s.T,s.H⟩
 |none=>s
theorem bZ.gF{E:Env}{s:AS}{a:Act}(k:bZ E s.T a.tmps){dst:Option Nat}(hd:∀d,dst=some d->d<a.tmps.size){av:AV}{v:SO}(hv:ap E av v):bZ E (s.put dst av).T (a.put dst v).tmps:=by
 cases dst with
 |none=>exact k
 |some d=>exact bZ.put k (hd d rfl) hv
theorem eX(s:AS)(dst:Option Nat)(av:AV):(s.put dst av).H=s.H:=by cases dst<;>rfl
theorem dR(a:Act)(dst:Option Nat)(v:SO):(a.put dst v).tmps.size=a.tmps.size:=by cases dst<;>simp[X5]
theorem put_defers(a:Act)(dst:Option Nat)(v:SO):(a.put dst v).defers=a.defers:=by cases dst<;>rfl
structure Kept (E E':Env)(V V':View)(a a':Act):Prop where
 le:E.Le E'
 size:a'.tmps.size=a.tmps.size
 defers:a'.defers=a.defers
 role:V'.role=V.role
 deaf:V'.deaf=V.deaf
def Step (lv:Bool)(P:SJ)(r:Option Nat)(o:Tv)(s:AS)(next:AS->Prop)(bad:AV->AS->Prop):Prop:=
 ∀(E:Env)(V:View)(a:Act)(N:Act->View->Prop)(Q:Ex->Act->View->Prop),Conc E V s.H->bZ E s.T a.tmps->(∀d,o.dst=some d->d<a.tmps.size)->(r=none\/lR o.op=false)->
  (∀E' V' a' s',Kept E E' V V' a a'->Conc E' V' s'.H->bZ E' s'.T a'.tmps->next s'->N a' V')->
  (∀E' V' s' pv v,Kept E E' V V' a a->Conc E' V' s'.H->bZ E' s'.T a.tmps->ap E' pv v->bad pv s'->Q (.panic [{v,recovered:=false}]) a V')->we lv P r o a V N Q
def dq (lv:Bool)(P:SJ)(r:Option Nat)(o:Tv)(s:AS)(av:AV):Prop:=
 ∀(E:Env)(V:View)(a:Act)(N:Act->View->Prop)(Q:Ex->Act->View->Prop),Conc E V s.H->bZ E s.T a.tmps->(r=none\/lR o.op=false)->
  (∀E' V' v,E.Le E'->V'.role=V.role->V'.deaf=V.deaf->Conc E' V' s.H->ap E' av v->N (a.put o.dst v) V')->we lv P r o a V N Q
section
variable {lv:Bool}{P:SJ}{r:Option Nat}{o:Tv}{s:AS}{next:AS->Prop}{bad:AV->AS->Prop}
theorem Step.mono{next':AS->Prop}{NX:AV->AS->Prop}(h:Step lv P r o s next bad)(hn:∀s,next s->next' s)(hb:∀c s,bad c s->NX c s):Step lv P r o s next' NX:=
 λE V a N Q h1 h2 h3 h4 h5 h6=>h E V a N Q h1 h2 h3 h4 (λE' V' a' s' x1 x2 x3 x4=>h5 E' V' a' s' x1 x2 x3 (hn _ x4)) (λE' V' s' pv v x1 x2 x3 x4 x5=>h6 E' V' s' pv v x1 x2 x3 x4 (hb _ _ x5))
theorem iC{av:AV}(h:∀(E:Env)(V:View)(a:Act),Conc E V s.H->bZ E s.T a.tmps->aO P V (execOp a.eval o) (λnx V'=>V'=V/\∃v,nx=.value v/\ap E av v) (λ_ _=>False)):dq lv P r o s av:=by
 intro E V a N Q hc ht bw h1;refine⟨bw,(h E V a hc ht).mono (λnx V' hx=> ?_) (λ_ _ hx=>hx.elim)⟩;obtain⟨rfl,v,rfl,hv⟩:=hx;exact h1 E V' v (Env.Le.refl E) rfl rfl hc hv
theorem rf{av:AV}(h:∀(E:Env)(V:View)(a:Act),Conc E V s.H->bZ E s.T a.tmps->∃v,execOp a.eval o=.pure (.value v)/\ap E av v):dq lv P r o s av:=
 iC (λE V a hc ht=>by
  obtain⟨v,h1,h2⟩:=h E V a hc ht;rw[h1];exact cD ⟨rfl,v,rfl,h2⟩)
theorem dq.step{av:AV}(h:dq lv P r o s av)(hn:next (s.put o.dst av)):Step lv P r o s next bad:=by
 intro E V a N Q hc ht hd bw h1 _;refine h E V a N Q hc ht bw λE' V' v hle bX eK bf hv=> ?_;exact h1 E' V' (a.put o.dst v) (s.put o.dst av) ⟨hle,dR _ _ _,put_defers _ _ _,bX,eK⟩ (by rw[eX];exact bf) ((ht.mono hle).gF hd hv) hn
theorem abj{x:Tg}{av:AV}(ho:o.op=.move x\/o.op=.assign x)(hx:s.ev x=some av):dq lv P r o s (av):=
 rf (λE V a hc ht=>⟨a.eval x,by unfold execOp;rcases ho with ho|ho<;>rw[ho]<;>rfl,ap.ev ht hx⟩)
theorem aoq{c x y:Tg}{b:Bool}{av aw:AV}(ho:o.op=.pick c x y)(hc:s.ev c=some (.val (.bool b)))(hx:s.ev x=some av)(hy:s.ev y=some aw):dq lv P r o s ((if b then av else aw)):=
 rf (λE V a iL ht=>by
  have h1:=ap.ev ht hc;generalize hv:a.eval c=v at h1;cases h1;refine⟨if b then a.eval x else a.eval y,by unfold execOp;rw[ho];simp only[hv];cases b<;>rfl,?_⟩;cases b
  ·exact ap.ev ht hy
  ·exact ap.ev ht hx)
def lF (op:VZ)(k:TV)(x y:Int):Option SO:=match op with
 |.add=>some (.int k (k.wrap (x+y)))
 |.sub=>some (.int k (k.wrap (x-y)))
 |.mul=>some (.int k (k.wrap (x* y)))
 |.eql=>some (.bool (x==y))
 |.neq=>some (.bool (x !=y))
 |.lss=>some (.bool (x<y))
 |.leq=>some (.bool (x<=y))
 |.gtr=>some (.bool (x>y))
 |.geq=>some (.bool (x>=y))
 |.and=>some (.int k (k.wrap (Uf k.bits x&&&Uf k.bits y).toNat))
 |.or=>some (.int k (k.wrap (Uf k.bits x|||Uf k.bits y).toNat))
 |.xor=>some (.int k (k.wrap (Uf k.bits x^^^Uf k.bits y).toNat))
 |.quo=>if y=0 then none else some (.int k (k.wrap (x.tdiv y)))
 |.rem=>if y=0 then none else some (.int k (x.tmod y))
 |_=>none
def zY (op:VZ)(k:TV)(x y:Int):Option SO:=if y<0 then none else match op with
 |.shl=>some (.int k (k.wrap (x* 2^(min y.toNat k.bits))))
 |.shr=>some (.int k (x.fdiv (2^(min y.toNat k.bits))))
 |_=>none
def mr:VZ->Bool
 |.shl|.shr=>true
 |_=>false
theorem afc{op:VZ}{k:TV}{x y:Int}{v:SO}{t:TypeId}(h:lF op k x y=some v):binOp op t (.int k x) (.int k y)=.pure v:=by
 cases op<;>simp only[lF,Tl,reduceCtorEq]at h<;>try(subst h;simp[binOp,atl,Op.intCmp,Op.intBits];rfl)
 ·split at h
  ·cases h
  ·rename_i hy;simp only[Tl]at h;subst h;simp[binOp,apT,hy];rfl
 ·split at h
  ·cases h
  ·rename_i hy;simp only[Tl]at h;subst h;simp[binOp,apT,hy];rfl
theorem apz{op:VZ}{k j:TV}{x y:Int}{v:SO}{t:TypeId}(h:zY op k x y=some v):binOp op t (.int k x) (.int j y)=.pure v:=by
 unfold zY at h;split at h
 ·cases h
 ·rename_i hy;cases op<;>simp only[Tl,reduceCtorEq]at h
  ·subst h;simp[binOp,as',hy];rfl
  ·subst h;simp[binOp,as',hy];rfl
theorem OV{op:VZ}{t:TypeId}{x y:Tg}{j k:TV}{a b:Int}:eqGuard op t x y (.int j a) (.int k b)=.pure ():=by
 unfold eqGuard;cases op<;>rfl
theorem an0{op:VZ}{xt yt:TypeId}{x y:Tg}{k:TV}{m n:Int}{v:SO}(ho:o.op=.binOp op xt x y yt)(hx:s.ev x=some (.val (.int k m)))(hy:s.ev y=some (.val (.int k n)))(hv:lF op k m n=some v):dq lv P r o s ((.val v)):=
 rf (λE V a iL ht=>by
  have h1:=ap.ev ht hx;have h2:=ap.ev ht hy;generalize oL:a.eval x=v1 at h1;generalize sB:a.eval y=v2 at h2;cases h1;cases h2;refine⟨v,?_,.val v⟩;unfold execOp;rw[ho];simp only[oL,sB,OV,afc hv];rfl)
theorem aor{op:VZ}{xt yt:TypeId}{x y:Tg}{k j:TV}{m n:Int}{v:SO}(ho:o.op=.binOp op xt x y yt)(hx:s.ev x=some (.val (.int k m)))(hy:s.ev y=some (.val (.int j n)))(hv:zY op k m n=some v):dq lv P r o s ((.val v)):=
 rf (λE V a iL ht=>by
  have h1:=ap.ev ht hx;have h2:=ap.ev ht hy;generalize oL:a.eval x=v1 at h1;generalize sB:a.eval y=v2 at h2;cases h1;cases h2;refine⟨v,?_,.val v⟩;unfold execOp;rw[ho];simp only[oL,sB,OV,apz hv];rfl)
theorem aop{t:TypeId}{x:Tg}{b:Bool}(ho:o.op=.unOp .not t x)(hx:s.ev x=some (.val (.bool b))):dq lv P r o s ((.val (.bool !b))):=
 rf (λE V a iL ht=>by
  have h1:=ap.ev ht hx;generalize oL:a.eval x=v1 at h1;cases h1;exact⟨_,by unfold execOp;rw[ho];simp only[oL];rfl,.val _⟩)
theorem aom{t:TypeId}{x:Tg}{k:TV}{n:Int}(ho:o.op=.unOp .neg t x)(hx:s.ev x=some (.val (.int k n))):dq lv P r o s (.val (.int k (k.wrap (0-n)))):=
 rf (λE V a iL ht=>by
  have h1:=ap.ev ht hx;generalize oL:a.eval x=v1 at h1;cases h1;exact⟨_,by unfold execOp;rw[ho];simp only[oL];rfl,.val _⟩)
theorem an6{x:Tg}{i:Nat}{l:List AV}{av:AV}(ho:o.op=.extract x i)(hx:s.ev x=some (.aJ l))(hi:l[i]?=some av):dq lv P r o s (av):=
 rf (λE V a iL ht=>by
  have h1:=ap.ev ht hx;generalize oL:a.eval x=v1 at h1;cases h1 with
  |aJ hs h=>
   rename_i cs;have hlt:i<cs.size:=(by rw[hs];exact(SN.1 hi).1);refine⟨cs[i],?_,?_⟩
   ·unfold execOp;rw[ho];simp only[oL,Instr.extract,SK hlt];rfl
   ·have:=h i av hi;rwa [SI,SK hlt]at this)
end
theorem add_plain(b o n:Nat):(⟨b,o,none⟩:U2).add n=⟨b,o+n,none⟩:=by
 unfold atf;split
 ·rename_i h;subst h;rfl
 ·rfl
def AS.at (s:AS):AV->Option (List AV)
 |.rp l=>some l
 |.op id off=>match s.H[id]?with
  |some (.cells l _)=>some (l.drop off)
  |some (.part _ l _)=>some (l.drop off)
  |some (.own _ l _)=>some (l.drop off)
  |_=>none
 |_=>none
def AV.shift (n:Nat):AV->Option AV
 |.rp l=>if n<=l.length then some (.rp (l.drop n))else none
 |.op id off=>some (.op id (off+n))
 |_=>none
theorem Conc.at{E:Env}{V:View}{s:AS}(hc:Conc E V s.H){p:AV}{v:SO}(hd:ap E p v){l:List AV}(h:s.at p=some l):
  ∃(b o:Nat)(f:Nat->SO),v=.pointer (some ⟨b,o,none⟩)/\(∀i,i<l.length->V.get b (o+i)=some (f i))/\(0<l.length->V.role.group≠some b)/\∀(i:Nat) x,l[i]?=some x->ap E x (f i):=by
 cases hd with
 |rp b o f h1 h2=>
  cases h;exact⟨b,o,f,rfl,λi hi=>by unfold View.get;rw[<- hc.I,h1 i hi],λhp=>(hc.R6 (h1 0 hp)).1,h2⟩
 |op hi=>
  rename_i id off;simp only[AS.at]at h;cases hk:s.H[id]?with
  |none=>rw[hk]at h;cases h
  |some ob=>
   rw[hk]at h;cases ob with
   |cells l' el=>
    cases h;obtain⟨⟨cs,ho,hs,bi⟩,kX⟩:=hc.obj id _ hk;refine⟨E.blk id,off,λi=>cs.getD (off+i) undef,rfl,λi hi=> ?_,λ_=>(hc.iS hk rfl).1,λi x hx=> ?_⟩
    ·unfold View.get;rw[kX,ho];simp only[Uh]at hi;have hlt:off+i<cs.size:=(by omega);simp only[SI,SK hlt,S8]
    ·rw[Um]at hx;exact bi _ _ hx
   |part p l' el=>
    cases h;obtain⟨⟨cs,ho,⟨hs,bi⟩,lN⟩,kX⟩:=hc.obj id _ hk;refine⟨E.blk id,off,λi=>cs.getD (off+i) undef,rfl,λi hi=> ?_,λ_=>(hc.iS hk rfl).1,λi x hx=> ?_⟩
    ·simp only[Uh]at hi;have hlt:off+i<cs.size:=(by omega);unfold View.get;by_cases hp:off+i<p
     ·rw[lN _ hp];simp only[SI,SK hlt,S8]
     ·rw[kX _ (by omega),ho];simp only[SI,SK hlt,S8]
    ·rw[Um]at hx;exact bi _ _ hx
   |own sz l' el=>
    cases h;obtain⟨⟨cs,ho,⟨hs,bi⟩,_⟩,kX⟩:=hc.obj id _ hk;refine⟨E.blk id,off,λi=>cs.getD (off+i) undef,rfl,λi hi=> ?_,λ_=>(hc.iS hk rfl).1,λi x hx=> ?_⟩
    ·simp only[Uh]at hi;have hlt:off+i<cs.size:=(by omega);unfold View.get;rw[kX,ho];simp only[SI,SK hlt,S8]
    ·rw[Um]at hx;exact bi _ _ hx
   |_=>cases h
 |_=>cases h
theorem ap.shift{E:Env}{p q:AV}{v:SO}(hd:ap E p v){n:Nat}(h:p.shift n=some q):∃b o,v=.pointer (some ⟨b,o,none⟩)/\ap E q (.pointer (some ⟨b,o+n,none⟩)):=by
 cases hd with
 |rp b o f h1 h2=>
  simp only[AV.shift]at h;split at h
  ·rename_i hn;cases h;refine⟨b,o,rfl,.rp b (o+n) (λi=>f (n+i)) (λi hi=> ?_) (λi x hx=> ?_)⟩
   ·simp only[Uh]at hi;rw[WV];exact h1 _ (by omega)
   ·rw[Um]at hx;exact h2 _ _ hx
  ·cases h
 |op hi=>cases h;exact⟨_,_,rfl,.op hi⟩
 |_=>cases h
section
variable {P:SJ}{V:View}{α:Type}{K:α->View->Prop}{Kp:SO->View->Prop}
theorem dW{t:TypeId}{d:TypeDesc}{k:TypeDesc->Sem α}(h:P.underlying t=some d)(hk:aO P V (k d) K Kp):aO P V (underlying t>>=k) K Kp:=by
 unfold underlying;refine az (az (pP (cD ?_)));rw[h];exact aq hk
theorem xM{t:TypeId}{i:Wj}{k:Wj->Sem α}(h:P.info? t=some i)(hk:aO P V (k i) K Kp):aO P V (typeInfo t>>=k) K Kp:=by
 unfold typeInfo;refine az (az (pP (cD ?_)));rw[h];exact aq hk
theorem jD{t:TypeId}{i:Wj}{k:Nat->Sem α}(h:P.info? t=some i)(hk:aO P V (k i.size) K Kp):aO P V (sizeOf t>>=k) K Kp:=by
 refine az ?_;unfold sizeOf;exact xM h (aq hk)
def TypeDesc.agg:TypeDesc->Bool
 |.struct _|.array _ _=>true
 |_=>false
theorem CN{t:TypeId}{d:TypeDesc}{k:Bool->Sem α}(h:P.underlying t=some d)(hk:aO P V (k (TypeDesc.agg d)) K Kp):aO P V (isAgg t>>=k) K Kp:=by
 refine az ?_;unfold isAgg;refine dW h ?_;cases d<;>exact aq hk
theorem apq{b o:Nat}{v:SO}{k:SO->Sem α}(hg:V.role.group≠some b)(e:V.get b o=some v)(hk:aO P V (k v) K Kp):aO P V (load ⟨b,o,none⟩>>=k) K Kp:=
 az (Mw e (.inl hg) (cD hk))
theorem abH{b o:Nat}{f:Nat->SO}{K:Array SO->View->Prop}:∀(n i:Nat)(acc:Array SO),(0<n->V.role.group≠some b)->(∀j,j<n->V.get b (o+(i+j))=some (f (i+j)))->
  K (acc++((SV n).map λj=>f (i+j)).toArray) V->aO P V (loadCellsFrom ⟨b,o,none⟩ i n acc) K Kp
 |0,i,acc,_,_,h=>aq (by simpa using h)
 |n+1,i,acc,hg,he,h=>by
  have h0:=he 0 (by omega);unfold loadCellsFrom;rw[add_plain];refine apq (hg (by omega)) h0 ?_;refine abH n (i+1) _ (λ_=>hg (by omega)) (λj hj=>by have:=he (j+1) (by omega);rwa [show i+(j+1)=i+1+j by omega]at this) ?_;have e:(acc.push (f (i+0))++((SV n).map λj=>f (i+1+j)).toArray)=acc++((SV (n+1)).map λj=>f (i+j)).toArray:=by
   rw[List.range_succ_eq_map];apply Vz;simp[YA,WV,Z3 1]
  rw[e];exact h
theorem zV{b o n:Nat}{f:Nat->SO}(hg:0<n->V.role.group≠some b){K:Array SO->View->Prop}(he:∀j,j<n->V.get b (o+j)=some (f j))(h:K ((SV n).map f).toArray V):aO P V (loadCells ⟨b,o,none⟩ n) K Kp:=
 abH n 0 #[] hg (λj hj=>by simpa using he j hj) (by simpa using h)
end
theorem kx{α β:Type}{x:Option α}{f:α->β}{y:β}(h:x.map f=some y):∃a,x=some a/\f a=y:=Tq.1 h
def Ty (P:SJ)(t:TypeId):Option (Nat×Bool):=(P.info? t).bind λi=>(P.underlying t).map λd=>(i.size,TypeDesc.agg d)
theorem Ty.out{P:SJ}{t:TypeId}{n:Nat}{g:Bool}(h:Ty P t=some (n,g)):∃i d,P.info? t=some i/\P.underlying t=some d/\i.size=n/\TypeDesc.agg d=g:=by
 unfold Ty at h;obtain⟨i,h1,h2⟩:=Td.1 h;obtain⟨d,h3,h4⟩:=kx h2;cases h4;exact⟨i,d,h1,h3,rfl,rfl⟩
theorem H8{E:Env}{l:List AV}{f:Nat->SO}{n:Nat}(hn:n<=l.length)(h:∀(i:Nat) x,l[i]?=some x->ap E x (f i)):ap E (.agg (l.take n)) (.agg ((SV n).map f).toArray):=by
 refine .agg (by simp;omega) λi x hx=> ?_;rw[Uc]at hx;split at hx
 ·rename_i hi;have:=h i x hx;simpa[SI,hi]using this
 ·cases hx
def AV.row:AV->Option (Nat×AV)
 |.sl n l _=>some (n,.rp l)
 |.bD id off n _=>some (n,.op id off)
 |_=>none
theorem ap.row{E:Env}{a p:AV}{v:SO}{n:Nat}(hd:ap E a v)(h:a.row=some (n,p))(h0:0<n):∃b o cap,v=.slice (some ⟨b,o,none⟩) n cap/\ap E p (.pointer (some ⟨b,o,none⟩)):=by
 cases hd with
 |sl b o cap f hc he h1 h2=>cases h;exact⟨b,o,cap,rfl,.rp b o f h1 h2⟩
 |nil he=>cases h;exact absurd h0 (by simp)
 |bD hi=>cases h;exact⟨_,_,_,rfl,.op hi⟩
 |_=>cases h
def AV.len:AV->Option Nat
 |.sl n _ _=>some n
 |.bD _ _ n _=>some n
 |_=>none
theorem ap.len{E:Env}{a:AV}{v:SO}{n:Nat}(hd:ap E a v)(h:a.len=some n):∃ad cap,v=.slice ad n cap:=by
 cases hd with
 |sl b o cap f hc he h1 h2=>cases h;exact⟨_,_,rfl⟩
 |nil he=>cases h;exact⟨_,_,rfl⟩
 |bD hi=>cases h;exact⟨_,_,rfl⟩
 |_=>cases h
def eQ (P:SJ)(t:TypeId)(k:Nat):Option Nat:=match P.underlying t with
 |some (.struct fs)=>match fs[k]?with
  |some f=>match P.info? f.type with
   |some i=>if i.size=0 then none else some f.offset
   |none=>none
  |none=>none
 |_=>none
def nu (P:SJ)(t:TypeId):Option (Option Nat×Nat):=match P.underlying t with
 |some (.array n e)=>(P.info? e).map λi=>(some n,i.size)
 |some (.slice e)=>(P.info? e).map λi=>(none,i.size)
 |_=>none
inductive x6 where
 |slice|map|str|arr (n:Nat)
def kQ (P:SJ)(t:TypeId):Option x6:=match P.underlying t with
 |some (.slice _)=>some .slice
 |some (.map _ _)=>some .map
 |some .string=>some .str
 |some (.array n _)=>some (.arr n)
 |_=>none
def Hq (P:SJ)(t:TypeId)(k:Nat):Option (Nat×Nat×Bool):=match P.underlying t with
 |some (.struct fs)=>match fs[k]?with
  |some f=>(Ty P f.type).map λx=>(f.offset,x.1,x.2)
  |none=>none
 |_=>none
def Hi (P:SJ)(t:TypeId):Option (Nat×Nat×Bool):=match P.underlying t with
 |some (.array n e)=>(Ty P e).map λx=>(n,x.1,x.2)
 |_=>none
section
variable {lv:Bool}{P:SJ}{r:Option Nat}{o:Tv}{s:AS}{next:AS->Prop}{bad:AV->AS->Prop}
theorem aof{t:TypeId}{x:Tg}{p:AV}{l:List AV}{n:Nat}(ho:o.op=.load t x)(ht:Ty P t=some (n,true))(hx:s.ev x=some p)(hl:s.at p=some l)(hlen:n<=l.length):dq lv P r o s ((.agg (l.take n))):=
 iC (λE V a hc aF=>by
  obtain⟨i,d,h1,h2,rfl,h4⟩:=Ty.out ht;obtain⟨b,off,f,hv,hg,jO,hd⟩:=hc.at (ap.ev aF hx) hl;unfold execOp;rw[ho];simp only[hv];refine az ?_;unfold XD U_;refine az (aq ?_);unfold loadVar;refine CN h2 ?_;rw[h4];simp only[if_true];refine jD h1 ?_;refine az (zV (f:=f) (λh=>jO (by omega)) (λj hj=>hg j (by omega)) ?_);exact aq (aq ⟨rfl,_,rfl,H8 hlen hd⟩))
theorem aog{t:TypeId}{x:Tg}{p:AV}{l:List AV}{n:Nat}{av:AV}(ho:o.op=.load t x)(ht:Ty P t=some (n,false))(hx:s.ev x=some p)(hl:s.at p=some l)(h0:l[0]?=some av):dq lv P r o s (av):=
 iC (λE V a hc aF=>by
  obtain⟨i,d,h1,h2,rfl,h4⟩:=Ty.out ht;obtain⟨b,off,f,hv,hg,jO,hd⟩:=hc.at (ap.ev aF hx) hl;unfold execOp;rw[ho];simp only[hv];refine az ?_;unfold XD U_;refine az (aq ?_);unfold loadVar;refine CN h2 ?_;rw[h4];simp only[TN,if_false];have hlen:0<l.length:=(SN.1 h0).1;have nN:=hg 0 hlen;rw[UJ]at nN;exact Mw nN (.inl (jO hlen)) (cD (aq ⟨rfl,_,rfl,hd 0 av h0⟩)))
def AV.sure:AV->Bool
 |.rp _|.op _ _=>true
 |.fn (.func _) _ _=>true
 |.fn (.yield _) _ _=>true
 |.cS _ _=>true
 |_=>false
theorem aon{x:Tg}{p:AV}(ho:o.op=.nilCheck x)(hx:s.ev x=some p)(hp:p.sure=true):dq lv P r o s (p):=
 rf (λE V a hc aF=>by
  have hd:=ap.ev aF hx;refine⟨a.eval x,?_,hd⟩;unfold execOp;rw[ho];dsimp only;generalize a.eval x=v at hd⊢;cases hd with
  |rp=>rfl
  |op=>rfl
  |cS=>rfl
  |fn dF fI h1 h2=>
   rename_i f _ _ _ _;cases f with
   |func=>rfl
   |yield=>rfl
   |_=>cases hp
  |_=>cases hp)
theorem an7{t:TypeId}{x:Tg}{k n:Nat}{p q:AV}(ho:o.op=.fieldAddr t x k)(ht:eQ P t k=some n)(hx:s.ev x=some p)(hp:p.shift n=some q):dq lv P r o s (q):=
 iC (λE V a hc aF=>by
  obtain⟨b,off,hv,hq⟩:=(ap.ev aF hx).shift hp;unfold eQ at ht;split at ht
  ·rename_i fs hu;split at ht
   ·rename_i f hf;split at ht
    ·rename_i i hi;split at ht
     ·cases ht
     ·rename_i hz;cases ht;unfold execOp;rw[ho];simp only[hv];refine az ?_;unfold Instr.fieldAt;refine dW hu ?_;simp only[hf];unfold U_;refine az (aq ?_);unfold fieldPlace;refine az (jD hi ?_);rw[if_neg hz];refine aq (aq (aq ⟨rfl,_,rfl,?_⟩));rw[add_plain];exact hq
    ·cases ht
   ·cases ht
  ·cases ht)
theorem an9{t:TypeId}{x ix:Tg}{a p q:AV}{k:TV}{i:Int}{n sz:Nat}(ho:o.op=.indexAddr t x ix)(ht:nu P t=some (none,sz))(hx:s.ev x=some a)(ha:a.row=some (n,p))(hi:s.ev ix=some (.val (.int k i)))(h0:0<=i)(h1:i<n)
  (hp:p.shift (i.toNat* sz)=some q):dq lv P r o s (q):=
 iC (λE V ac hc aF=>by
  obtain⟨b,off,cap,hv,za⟩:=(ap.ev aF hx).row ha (by omega);obtain⟨b',o',hb,hq⟩:=za.shift hp;cases hb;have hd:=ap.ev aF hi;generalize pH:ac.eval ix=vi at hd;cases hd;unfold nu at ht;split at ht
  ·obtain⟨_,_,h⟩:=kx ht;cases h
  ·rename_i e hu;obtain⟨inf,JQ,h⟩:=kx ht;cases h;unfold execOp;rw[ho];simp only[hv,pH];refine az ?_;unfold ZL asIntOf;refine az (aq ?_);dsimp only;refine dW hu ?_;refine az (aq ?_);dsimp only;refine dW hu ?_;dsimp only;rw[if_pos ⟨h0,h1⟩];refine jD JQ ?_;refine aq (aq ⟨rfl,_,rfl,?_⟩);rw[add_plain];exact hq
  ·cases ht)
theorem aoa{t:TypeId}{x ix:Tg}{p q:AV}{k:TV}{i:Int}{n sz:Nat}(ho:o.op=.indexAddr t x ix)(ht:nu P t=some (some n,sz))(hx:s.ev x=some p)(hi:s.ev ix=some (.val (.int k i)))(h0:0<=i)(h1:i<n)
  (hp:p.shift (i.toNat* sz)=some q):dq lv P r o s (q):=
 iC (λE V ac hc aF=>by
  obtain⟨b,off,hv,hq⟩:=(ap.ev aF hx).shift hp;have hd:=ap.ev aF hi;generalize pH:ac.eval ix=vi at hd;cases hd;unfold nu at ht;split at ht
  ·rename_i m e hu;obtain⟨inf,JQ,h⟩:=kx ht;cases h;unfold execOp;rw[ho];simp only[hv,pH];refine az ?_;unfold ZL asIntOf;refine az (aq ?_);dsimp only;refine dW hu ?_;dsimp only;unfold U_;refine az (az (aq (aq ?_)));refine dW hu ?_;dsimp only;rw[if_pos ⟨h0,h1⟩];refine jD JQ ?_;refine aq (aq ⟨rfl,_,rfl,?_⟩);rw[add_plain];exact hq
  ·obtain⟨_,_,h⟩:=kx ht;cases h
  ·cases ht)
theorem abi{c:Xr}{x:Tg}{t:TypeId}{a:AV}{n:Nat}(ho:o.op=.call c)(aV:c.callee=.builtin .len)(sC:c.args[0]?=some x)(B_:c.argTypes[0]?=some t)(ht:kQ P t=some .slice)(hx:s.ev x=some a)(ha:a.len=some n):dq lv P r o s (.val (.int .i64 n)):=
 iC (λE V ac hc aF=>by
  obtain⟨ad,cap,hv⟩:=(ap.ev aF hx).len ha;unfold kQ at ht;split at ht<;>cases ht;rename_i e hu;unfold execOp;rw[ho];dsimp only;unfold resolve;rw[aV];dsimp only;refine az (aq ?_);unfold invoke builtin;dsimp only;refine az ?_;unfold Yn;have e1:(c.args.map ac.eval)[0]?=some (.slice ad n cap):=by simp[sC,hv]
  simp only[B_,e1];refine dW hu ?_;exact aq (aq ⟨rfl,_,rfl,.val _⟩))
theorem aoe{c:Xr}{x:Tg}{t:TypeId}{b:ByteArray}(ho:o.op=.call c)(aV:c.callee=.builtin .len)(sC:c.args[0]?=some x)(B_:c.argTypes[0]?=some t)(ht:kQ P t=some .str)(hx:s.ev x=some (.val (.string b))):dq lv P r o s (.val (.int .i64 b.size)):=
 iC (λE V ac hc aF=>by
  have hd:=ap.ev aF hx;generalize hv:ac.eval x=v at hd;cases hd;unfold kQ at ht;split at ht<;>cases ht;rename_i hu;unfold execOp;rw[ho];dsimp only;unfold resolve;rw[aV];dsimp only;refine az (aq ?_);unfold invoke builtin;dsimp only;refine az ?_;unfold Yn;have e1:(c.args.map ac.eval)[0]?=some (.string b):=by simp[sC,hv]
  simp only[B_,e1];refine dW hu ?_;exact aq (aq ⟨rfl,_,rfl,.val _⟩))
theorem aod{c:Xr}{x:Tg}{t:TypeId}{id:Nat}{es:Array Wl}{ck:Nat}(ho:o.op=.call c)(aV:c.callee=.builtin .len)(sC:c.args[0]?=some x)(B_:c.argTypes[0]?=some t)(ht:kQ P t=some .map)(hx:s.ev x=some (.mp id))(hk:s.H[id]?=some (.obj (.map es ck))):dq lv P r o s (.val (.int .i64 es.size)):=
 iC (λE V ac hc aF=>by
  have hd:=ap.ev aF hx;generalize hv:ac.eval x=v at hd;cases hd;obtain⟨h1,h2,h3,h4⟩:=hc.obj id _ hk;unfold kQ at ht;split at ht<;>cases ht;rename_i hu;unfold execOp;rw[ho];dsimp only;unfold resolve;rw[aV];dsimp only;refine az (aq ?_);unfold invoke builtin;dsimp only;refine az ?_;unfold Yn;have e1:(c.args.map ac.eval)[0]?=some (.map (some (E.blk id))):=by simp[sC,hv]
  simp only[B_,e1];refine dW hu ?_;refine az (nm h1 h2 h3 (hc.iS hk rfl).2 (cD ?_));exact aq (aq ⟨rfl,_,rfl,.val _⟩))
theorem abJ{t:TypeId}{n off:Nat}{g:Bool}{E:Env}{V:View}{l:List AV}{cs:Array SO}{K:SO->View->Prop}{Kp:SO->View->Prop}(ht:Ty P t=some (n,g))(hd:cE E l cs)(hl:off+n<=l.length)(hn:g=false->0<n)
  (h:∀v,(g=true->ap E (.agg ((l.drop off).take n)) v)->(g=false->∀a,l[off]?=some a->ap E a v)->K v V):aO P V (part t cs off) K Kp:=by
 obtain⟨i,d,h1,h2,rfl,h4⟩:=Ty.out ht;unfold part;refine CN h2 ?_;rw[h4];cases g with
 |true=>
  simp only[if_true];refine jD h1 (aq (h _ (λ_=> .agg (by have:=hd.1;simp;omega) λj a e=> ?_) (by simp)));rw[Uc]at e;split at e
  ·rename_i hj;rw[Um]at e;have:=hd.2 _ _ e;have hlt:off+j<cs.size:=(by rw[hd.1];omega);have ajY:j<(cs.extract off (off+i.size)).size:=(by have:=hd.1;simp;omega);rw[SI,SK ajY];rw[SI,SK hlt]at this;simpa using this
  ·cases e
 |false=>
  simp only[TN,if_false];have hlt:off<cs.size:=by have:=hn rfl;rw[hd.1];omega
  rw[SK hlt];refine aq (h _ (by simp) λ_ a e=> ?_);have:=hd.2 _ _ e;rwa [SI,SK hlt]at this
def AV.cut (l:List AV)(off n:Nat)(g:Bool):Option AV:=if off+n<=l.length/\(g=false->0<n)then(if g then some (.agg ((l.drop off).take n))else l[off]?)else none
theorem an8{t:TypeId}{x:Tg}{k off n:Nat}{g:Bool}{l:List AV}{av:AV}(ho:o.op=.field t x k)(ht:Hq P t k=some (off,n,g))(hx:s.ev x=some (.agg l))(hv:AV.cut l off n g=some av):dq lv P r o s av:=
 iC (λE V a hc aF=>by
  have hd:=ap.ev aF hx;generalize he:a.eval x=v at hd;cases hd with
  |agg hs h=>
   unfold Hq at ht;split at ht
   ·rename_i fs hu;split at ht
    ·rename_i f hf;obtain⟨⟨n',g'⟩,h1,h2⟩:=kx ht;cases h2;unfold AV.cut at hv;split at hv
     ·rename_i wX;unfold execOp;rw[ho];simp only[he];refine az ?_;unfold Instr.field;refine dW hu ?_;simp only[hf];unfold asAgg;refine az (aq ?_);refine abJ h1 ⟨hs,h⟩ wX.1 wX.2 λv h3 h4=>aq ⟨rfl,v,rfl,?_⟩;cases g' with
      |true=>simp only[if_true,Tl]at hv;subst hv;exact h3 rfl
      |false=>simp only[TN,if_false]at hv;exact h4 rfl _ hv
     ·cases hv
    ·cases ht
   ·cases ht)
theorem aoc{t:TypeId}{x ix:Tg}{n sz:Nat}{g:Bool}{l:List AV}{av:AV}{k:TV}{i:Int}(ho:o.op=.index t x ix)(ht:Hi P t=some (n,sz,g))(hx:s.ev x=some (.agg l))(hi:s.ev ix=some (.val (.int k i)))(h0:0<=i)(h1:i<n)(hv:AV.cut l (i.toNat* sz) sz g=some av):dq lv P r o s av:=
 iC (λE V a hc aF=>by
  have hd:=ap.ev aF hx;generalize he:a.eval x=v at hd;have nM:=ap.ev aF hi;generalize Jx:a.eval ix=vi at nM;cases nM;cases hd with
  |agg hs h=>
   unfold Hi at ht;split at ht
   ·rename_i m e hu;obtain⟨⟨n',g'⟩,h2,h3⟩:=kx ht;cases h3;unfold AV.cut at hv;split at hv
    ·rename_i wX;obtain⟨inf,d,q1,q2,q3,q4⟩:=Ty.out h2;unfold execOp;rw[ho];simp only[he,Jx];refine az ?_;unfold Z0 asIntOf;refine az (aq ?_);dsimp only;refine dW hu ?_;dsimp only;rw[if_pos ⟨h0,h1⟩];refine jD q1 ?_;rw[q3];refine abJ h2 ⟨hs,h⟩ wX.1 wX.2 λv h4 h5=>aq ⟨rfl,v,rfl,?_⟩;cases g' with
     |true=>simp only[if_true,Tl]at hv;subst hv;exact h4 rfl
     |false=>simp only[TN,if_false]at hv;exact h5 rfl _ hv
    ·cases hv
   ·cases ht)
theorem aob{t:TypeId}{x ix:Tg}{b:ByteArray}{k:TV}{i:Int}{c:UInt8}(ho:o.op=.index t x ix)(ht:kQ P t=some .str)(hx:s.ev x=some (.val (.string b)))(hi:s.ev ix=some (.val (.int k i)))(h0:0<=i)(h1:b[i.toNat]?=some c):dq lv P r o s (.val (.int .u8 c.toNat)):=
 iC (λE V a hc aF=>by
  have hd:=ap.ev aF hx;generalize he:a.eval x=v at hd;have nM:=ap.ev aF hi;generalize Jx:a.eval ix=vi at nM;cases nM;cases hd;unfold kQ at ht;split at ht<;>cases ht;rename_i hu;unfold execOp;rw[ho];simp only[he,Jx];refine az ?_;unfold Z0 asIntOf;refine az (aq ?_);dsimp only;refine dW hu ?_;dsimp only;rw[if_pos h0,h1];exact aq (aq ⟨rfl,_,rfl,.val _⟩))
theorem Oy{E:Env}{s:AS}{a:Act}(k:bZ E s.T a.tmps){l:Array Tg}{aD:List AV}(h:l.toList.mapM s.ev=some aD):cE E aD (l.map a.eval):=by
 have key:∀(l:List Tg)(aD:List AV),l.mapM s.ev=some aD->cE E aD (l.map a.eval).toArray:=by
  intro l;induction l with
  |nil=>intro aD h;simp at h;subst h;exact⟨rfl,by simp⟩
  |cons x l ih=>
   intro aD h;simp only[T_,Ug,TP,Td,Tl]at h;obtain⟨b,h1,bs,h2,rfl⟩:=h;have:=ih bs h2;refine⟨by have:=this.1;simpa using this,λi c e=> ?_⟩;cases i with
   |zero=>simp at e;subst e;simpa[SI]using ap.ev k h1
   |succ i=>
    simp only[UH]at e;have:=this.2 i c e;simpa[SI]using this
 have:=key l.toList aD h;have e:l.map a.eval=(l.toList.map a.eval).toArray:=by apply Vz;simp
 rw[e];exact this
theorem aoi{f:Fn}{first cM:Array Tg}{fa ca:List AV}(ho:o.op=.makeFunc f first cM)(h1:first.toList.mapM s.ev=some fa)(h2:cM.toList.mapM s.ev=some ca):dq lv P r o s (.fn f fa ca):=
 rf (λE V a hc ht=>by
  have d1:=Oy ht h1;have d2:=Oy ht h2;exact⟨_,by unfold execOp;rw[ho];rfl,.fn d1.1 d2.1 d1.2 d2.2⟩)
def lS (P:SJ)(t:TypeId):Option Bool:=(P.underlying t).map λ|.interface _=>true|_=>false
theorem aoj{t:TypeId}{x:Tg}{av:AV}(ho:o.op=.makeInterface t x)(ht:lS P t=some false)(hx:s.ev x=some av):dq lv P r o s (.cS t av):=
 iC (λE V a hc aF=>by
  obtain⟨d,hu,hd⟩:=kx ht;unfold execOp;rw[ho];dsimp only;refine az ?_;unfold Instr.makeInterface;refine dW hu ?_;split
  ·cases hd
  ·exact aq (aq ⟨rfl,_,rfl,.cS (ap.ev aF hx)⟩))
def Ai (P:SJ)(src dst:TypeId):Option (Option TV):=(P.underlying src).bind λ_=>match P.underlying dst with
 |some (.int k)=>some (some k)
 |_=>none
theorem an3{src dst:TypeId}{x:Tg}{k j:TV}{n:Int}(ho:o.op=.convert src dst x)(ht:Ai P src dst=some (some k))(hx:s.ev x=some (.val (.int j n))):dq lv P r o s (.val (.int k (k.wrap n))):=
 iC (λE V a hc aF=>by
  have hd:=ap.ev aF hx;generalize he:a.eval x=v at hd;cases hd;unfold Ai at ht;obtain⟨d,h1,h2⟩:=Td.1 ht;split at h2
  ·rename_i k' hu;cases h2;unfold execOp;rw[ho];simp only[he];refine az ?_;unfold convert;refine dW h1 (dW hu ?_);dsimp only;exact aq (aq ⟨rfl,_,rfl,.val _⟩)
  ·cases h2)
end
open Go.Conc
def Env.add (E:Env)(r:Nat)(I:cm):Env:={E with I:=I,n:=E.n+1,blk:=λk=>if k=E.n then r else E.blk k}
theorem Env.pK(E:Env)(r:Nat){I:cm}(hI:∀b o v,E.I b o=some v->I b o=some v):E.Le (E.add r I):=
 ⟨hI,Y2 _,λk hk=>by simp[Env.add,V_ hk],λ_ _=>SQ _,λ_ _ _ _=>rfl,rfl,rfl⟩
def View.gT (V:View)(b:Nat)(cs:Array SO)(p:Nat->Bool):View:={V with ab:=λb' o=>if b'=b/\p o=true then cs[o]?else V.ab b' o}
theorem yB{V:View}{b:Nat}{cs:Array SO}{el:TypeId}{f:Nat×Nat}{p:Nat->Bool}(ho:V.own b=some (.cells cs el f))(hp:∀o,p o=true->V.ab b o=none):dP V (V.gT b cs p)where
 sat w h:=⟨λb' o v e=>by
   simp only[View.gT]at e;split at e
   ·rename_i hb;obtain⟨rfl,_⟩:=hb;have:=h.own _ _ ho;simpa[Ux,this]using e
   ·exact h.ab _ _ _ e,λb' x e=>h.own b' x e⟩
 own b' e:=e
 ab b' o v e:=by
  have hn:¬(b'=b/\p o=true):=λhb=>by obtain⟨rfl,h2⟩:=hb;rw[hp o h2]at e;cases e
  simp only[View.gT,if_neg hn];exact e
 j7 b' o v e:=by
  simp only[View.gT]at e;split at e
  ·rename_i hb;obtain⟨rfl,_⟩:=hb;exact .inr (by rw[ho];simp)
  ·exact .inl e
 deaf:=rfl
 role:=rfl
 chan c x _ h:=h
def View.jR (V:View)(r:Nat)(cs:Array SO):View:={V with ab:=λb o=>if b=r then cs[o]?else V.ab b o}
theorem aiI{V:View}{r:Nat}{cs:Array SO}{el:TypeId}{f:Nat×Nat}(hf:V.fresh r)(hc:V.role.chan≠some r):dP (V.upd r (.cells cs el f)) (V.jR r cs)where
 sat w h:=⟨λb o v e=>by
   simp only[View.jR]at e;split at e
   ·rename_i hb;subst hb;have:=h.own b (.cells cs el f) (by simp[View.upd]);simpa[Ux,this]using e
   ·exact h.ab b o v e,λb x e=>by
   have hb:b≠r:=λhb=>(by subst hb;rw[show (V.jR b cs).own b=V.own b from rfl,hf.1]at e;cases e);have e':V.own b=some x:=e;exact h.own b x (by simpa[View.upd,hb]using e')⟩
 own b e:=by
  simp only[View.upd]at e;split at e
  ·cases e
  ·exact e
 ab b o v e:=by
  have e':V.ab b o=some v:=e;have hb:b≠r:=λhb=>by subst hb;rw[hf.2 o]at e';cases e'
  simpa[View.jR,hb]using e'
 j7 b o v e:=by
  simp only[View.jR]at e;split at e
  ·rename_i hb;exact .inr (by simp[View.upd,hb])
  ·exact .inl e
 deaf:=rfl
 role:=rfl
 chan c x hcx h:=by
  have hb:c≠r:=λhb=>by subst hb;exact hc hcx
  have h':V.own c=some x:=by simpa[View.upd,hb]using h
  exact h'
theorem Conc.aix{E:Env}{V:View}{H:List aa}(hc:Conc E V H){r:Nat}(hf:V.own r=none):V.role.chan≠some r/\V.role.group≠some r:=
 ⟨λe=>(hc.chan r e).1 hf,λe=>(hc.group r e).1 hf⟩
theorem Conc.add{E:Env}{V:View}{H:List aa}(hc:Conc E V H){r:Nat}(hf:V.fresh r)(y:Obj){x:aa}(hx:fz (E.add r V.ab) (V.upd r y) E.n x)(hb:∀b,bJ (E.add r V.ab) E.n x=some b->b=r):Conc (E.add r V.ab) (V.upd r y) (H++[x]):=by
 refine hc.iF (E':=E.add r V.ab) H.length x (E.pK r (λb o v h=>by rw[<- hc.I];exact h)) rfl (by simp[Env.add,hc.n]) Ct rfl (λ_ _ _=>rfl) (λb z _ hz=>⟨?_,λ_=>rfl⟩) (by rw[<- hc.n];exact hx) (λb h=> .inr ?_)
 ·have:b≠r:=λe=>by rw[e,hf.1]at hz;cases hz
  simpa[View.upd,this]using hz
 ·rw[<- hc.n]at h;rw[hb b h];exact hf.1
theorem Env.dB(E:Env)(r:Nat)(I:cm):(E.add r I).blk E.n=r:=by simp[Env.add]
theorem OA{E:Env}{H:List aa}(hn:E.n=H.length)(r:Nat)(I:cm):ap (E.add r I) (.op H.length 0) (.pointer (some ⟨r,0,none⟩)):=by
 have:=ap.op (E:=E.add r I) (id:=H.length) (off:=0) (by show _<E.n+1;rw[hn];omega);have e:(E.add r I).blk H.length=r:=by rw[<- hn];exact E.dB r I
 rwa [e]at this
def AV.parts:AV->Option (List AV)
 |.agg l=>some l
 |.aJ _=>none
 |.val (.agg _)=>none
 |a=>some [a]
theorem ap.parts{E:Env}{a:AV}{v:SO}{l:List AV}(h:ap E a v)(hp:a.parts=some l):cE E l v.cells:=by
 have one:∀a v,ap E a v->v.cells=#[v]->cE E [a] v.cells:=λa v h e=>by
  rw[e];refine⟨rfl,λi x hx=> ?_⟩;have hi:i=0:=by have:=(SN.1 hx).1;simpa using this
  subst hi;simp at hx;subst hx;simpa using h
 cases h with
 |val=>cases v<;>first|(cases hp;exact one _ _ (.val _) rfl)|cases hp
 |agg hs h=>cases hp;exact⟨hs,h⟩
 |aJ hs h=>cases hp
 |sl b o cap f hc he h1 h2=>cases hp;exact one _ _ (.sl b o cap f hc he h1 h2) rfl
 |nil he=>cases hp;exact one _ _ (.nil he) rfl
 |bD hi dJ=>cases hp;exact one _ _ (.bD hi dJ) rfl
 |rp b o f h1 h2=>cases hp;exact one _ _ (.rp b o f h1 h2) rfl
 |op hi=>cases hp;exact one _ _ (.op hi) rfl
 |fn dF fI h1 h2=>cases hp;exact one _ _ (.fn dF fI h1 h2) rfl
 |cS h=>cases hp;exact one _ _ (.cS h) rfl
 |mp hi=>cases hp;exact one _ _ (.mp hi) rfl
def ey (P:SJ)(t:TypeId):Option SO:=(P.info? t).bind (·.zero)
def lA (z:SO):List AV:=z.cells.toList.map AV.oQ
theorem Ia(E:Env)(z:SO):cE E (lA z) z.cells:=by
 refine⟨by simp[lA],λi a h=> ?_⟩;unfold lA at h;rw[To]at h;obtain⟨x,hx,rfl⟩:=Tq.1 h;have:z.cells[i]?=some x:=by simpa using hx
 rw[SI,this];exact H6 E x
section
variable {P:SJ}{V:View}{α:Type}{K:α->View->Prop}{Kp:SO->View->Prop}
theorem Gw{t:TypeId}{z:SO}{k:SO->Sem α}(h:ey P t=some z)(hk:aO P V (k z) K Kp):aO P V (zeroValue t>>=k) K Kp:=by
 unfold ey at h;obtain⟨i,h1,h2⟩:=Td.1 h;refine az ?_;unfold zeroValue;refine xM h1 ?_;rw[h2];exact aq hk
end
section
variable {lv:Bool}{P:SJ}{r:Option Nat}{o:Tv}{s:AS}{next:AS->Prop}{bad:AV->AS->Prop}
theorem acf{t:TypeId}{l:List AV}(h:∀(E:Env)(V:View)(a:Act),Conc E V s.H->bZ E s.T a.tmps->∃cs,cE E l cs/\aO P V (execOp a.eval o) (λnx V'=>∃rr,V.fresh rr/\V'=V.upd rr (.cells cs t)/\nx=.value (.pointer (some ⟨rr,0,none⟩))) (λ_ _=>False))
  (hn:next ((⟨s.T,s.H++[.cells l t]⟩:AS).put o.dst (.op s.H.length 0))):Step lv P r o s next bad:=by
 intro E V a N Q hc ht hd bw h1 _;obtain⟨cs,oy,pD⟩:=h E V a hc ht;refine⟨bw,pD.mono (λnx V' hx=> ?_) (λ_ _ hx=>hx.elim)⟩;obtain⟨rr,hf,rfl,rfl⟩:=hx;have hle:E.Le (E.add rr V.ab):=E.pK rr (λb o v h=>by rw[<- hc.I];exact h);have bf:Conc (E.add rr V.ab) (V.upd rr (.cells cs t)) (s.H++[.cells l t]):=by
  refine hc.add hf _ ⟨⟨cs,?_,oy.mono hle⟩,λo=> ?_⟩ (λb e=> ?_)
  ·rw[Env.dB];simp[View.upd]
  ·rw[Env.dB];exact hf.2 o
  ·simp only[bJ,Env.dB,Tl]at e;exact e.symm
 exact h1 _ _ (a.put o.dst (.pointer (some ⟨rr,0,none⟩))) ((⟨s.T,s.H++[.cells l t]⟩:AS).put o.dst (.op s.H.length 0)) ⟨hle,dR _ _ _,put_defers _ _ _,rfl,rfl⟩ (by rw[eX];exact bf)
  (bZ.gF (s:=⟨s.T,s.H++[.cells l t]⟩) (ht.mono hle) hd (OA hc.n rr V.ab)) hn
theorem aca{t:TypeId}{x:Tg}{av:AV}{l:List AV}(ho:o.op=.box t x)(hx:s.ev x=some av)(hl:av.parts=some l)(hn:next ((⟨s.T,s.H++[.cells l t]⟩:AS).put o.dst (.op s.H.length 0))):Step lv P r o s next bad:=
 acf (λE V a hc ht=>⟨(a.eval x).cells,(ap.ev ht hx).parts hl,by
  unfold execOp;rw[ho];dsimp only;refine az ?_;unfold Instr.box newVar newRow;refine az (az (az (nY λrr hf=>cD (aq (aq (aq (aq ⟨rr,hf,rfl,rfl⟩)))))))⟩) hn
theorem ab7{t:TypeId}{z:SO}(ho:o.op=.alloc t)(hz:ey P t=some z)(hn:next ((⟨s.T,s.H++[.cells (lA z) t]⟩:AS).put o.dst (.op s.H.length 0))):Step lv P r o s next bad:=
 acf (λE V a hc ht=>⟨z.cells,Ia E z,by
  unfold execOp;rw[ho];dsimp only;refine az ?_;unfold Instr.alloc;refine Gw hz ?_;unfold newVar newRow;refine az (az (az (nY λrr hf=>cD (aq (aq (aq (aq ⟨rr,hf,rfl,rfl⟩)))))))⟩) hn
theorem aqb{t:TypeId}(ho:o.op=.makeMap t none)(hn:next ((⟨s.T,s.H++[.obj (.map #[] 0)]⟩:AS).put o.dst (.mp s.H.length))):Step lv P r o s next bad:=by
 intro E V a N Q hc ht hd bw h1 _;refine⟨bw,?_⟩;unfold execOp;rw[ho];dsimp only;refine az ?_;unfold Instr.makeMap;refine az (nY λrr hf=>cD (aq (aq ?_)));have hle:E.Le (E.add rr V.ab):=E.pK rr (λb o v h=>by rw[<- hc.I];exact h);have bf:Conc (E.add rr V.ab) (V.upd rr (.map #[] 0)) (s.H++[.obj (.map #[] 0)]):=by
  refine hc.add hf _ ⟨?_,rfl,rfl,λo=> ?_⟩ (λb e=> ?_)
  ·rw[Env.dB];simp[View.upd]
  ·rw[Env.dB];exact hf.2 o
  ·simp only[bJ,Env.dB,Tl]at e;exact e.symm
 have bi:ap (E.add rr V.ab) (.mp s.H.length) (.map (some rr)):=by
  have:=ap.mp (E:=E.add rr V.ab) (id:=s.H.length) (by show _<E.n+1;rw[hc.n];omega);have e:(E.add rr V.ab).blk s.H.length=rr:=by rw[<- hc.n];exact E.dB rr _
  rwa [e]at this
 exact h1 _ _ (a.put o.dst (.map (some rr))) ((⟨s.T,s.H++[.obj (.map #[] 0)]⟩:AS).put o.dst (.mp s.H.length)) ⟨hle,dR _ _ _,put_defers _ _ _,rfl,rfl⟩ (by rw[eX];exact bf)
  (bZ.gF (s:=⟨s.T,s.H++[.obj (.map #[] 0)]⟩) (ht.mono hle) hd bi) hn
end
def storeAt:Array SO->Nat->List SO->Array SO
 |cs,_,[]=>cs
 |cs,o,v::vs=>storeAt (cs.setIfInBounds o v) (o+1) vs
theorem xO:∀(vs:List SO)(cs:Array SO)(o:Nat),(storeAt cs o vs).size=cs.size
 |[],_,_=>rfl
 |v::vs,cs,o=>by rw[storeAt,xO];simp
theorem CS:∀(vs:List SO)(cs:Array SO)(o k:Nat),o+vs.length<=cs.size->(storeAt cs o vs).getD k undef=if o<=k/\k<o+vs.length then vs.getD (k-o) undef else cs.getD k undef
 |[],cs,o,k,_=>by
  have:¬(o<=k/\k<o+([]:List SO).length):=by intro h;simp only[UP]at h;omega
  rw[if_neg this];rfl
 |v::vs,cs,o,k,h=>by
  simp only[Uj]at h;rw[storeAt,CS vs _ (o+1) k (by simp;omega)];by_cases h1:k=o
  ·subst h1;rw[if_neg (by omega),if_pos (by simp)];simp[SI,S_ (show k<cs.size by omega)]
  ·by_cases h2:o+1<=k/\k<o+1+vs.length
   ·rw[if_pos h2,if_pos (by simp only[Uj];omega)];have:k-o=(k-(o+1))+1:=(by omega);rw[this];simp[SE]
   ·rw[if_neg h2,if_neg (by simp only[Uj];omega)];simp[SI,SU (Ne.symm h1)]
theorem arh(V:View)(b:Nat)(x y:Obj):(V.upd b x).upd b y=V.upd b y:=by
 unfold View.upd;congr 1;funext k;dsimp only;split<;>rfl
theorem ari{V:View}{b:Nat}{x:Obj}(h:V.own b=some x):V.upd b x=V:=by
 unfold View.upd;have:(λk=>if k=b then some x else V.own k)=V.own:=by
  funext k;split
  ·rename_i e;subst e;rw[h]
  ·rfl
 rw[this]
section
variable {P:SJ}{K:Unit->View->Prop}{Kp:SO->View->Prop}{b off:Nat}{el:TypeId}
theorem zX:∀(vs:List SO)(i:Nat)(V:View)(cs:Array SO),V.role.group≠some b->V.role.chan≠some b->V.own b=some (.cells cs el (0,0))->(∀o,off+i<=o->o<off+i+vs.length->V.ab b o=none)->off+i+vs.length<=cs.size->(∀v∈vs,v.one=true)->
  K () (V.upd b (.cells (storeAt cs (off+i) vs) el (0,0)))->aO P V (storeCells ⟨b,off,none⟩ vs i) K Kp
 |[],i,V,cs,hg,hc,ho,hi,hl,hv,h=>by
  unfold storeCells;rw[show storeAt cs (off+i) []=cs from rfl,ari ho]at h;exact aq h
 |v::vs,i,V,cs,hg,hc,ho,hi,hl,hv,h=>by
  unfold storeCells;rw[add_plain];simp only[Uj]at hl hi;refine az (apv ho (by omega) (hi _ (by omega) (by omega)) (hv v (Tw ..)) (by omega) (.inl hg) hc (cD ?_));refine zX vs (i+1) (V.upd b (.cells (cs.setIfInBounds (off+i) v) el (0,0))) (cs.setIfInBounds (off+i) v) hg hc (by simp[View.upd]) (λo h1 h2=>hi o (by omega) (by omega)) (by simp;omega) (λx hx=>hv x (Tb _ hx)) ?_;rw[arh];exact h
end
theorem Conc.set{E:Env}{V:View}{H:List aa}(hc:Conc E V H){id:Nat}{l l':List AV}{el:TypeId}(hk:H[id]?=some (.cells l el)){ez:Array SO}(hd:cE E l' ez):Conc E (V.upd (E.blk id) (.cells ez el (0,0))) (H.set id (.cells l' el)):=by
 obtain⟨⟨cs,h1,_⟩,h3⟩:=hc.obj id _ hk;refine hc.iF id (.cells l' el) (Env.Le.refl E) hc.I (by simpa using hc.n) lq rfl (λ_ _ _=>rfl) (λb y hb hy=>⟨?_,λ_=>rfl⟩) ⟨⟨ez,by simp[View.upd],hd⟩,h3⟩ (λb h=> .inl ⟨_,hk,h⟩);have:b≠E.blk id:=λe=>hb _ hk (by rw[e];rfl);simpa[View.upd,this]using hy
theorem aci:∀(vs:List SO)(cs:Array SO)(off o:Nat),o<off->(storeAt cs off vs)[o]?=cs[o]?
 |[],_,_,_,_=>rfl
 |v::vs,cs,off,o,h=>by
  rw[storeAt,aci vs _ (off+1) o (by omega),SU (by omega)]
theorem Conc.Gx{E:Env}{V:View}{H:List aa}(hc:Conc E V H){id p:Nat}{l l':List AV}{el:TypeId}(hk:H[id]?=some (.part p l el)){cs ez:Array SO}(h1:V.own (E.blk id)=some (.cells cs el (0,0)))(hd:jF E l' ez)(hs:∀o,o<p->ez[o]?=cs[o]?):Conc E (V.upd (E.blk id) (.cells ez el (0,0))) (H.set id (.part p l' el)):=by
 obtain⟨⟨yk,q1,_,q2⟩,h3⟩:=hc.obj id _ hk;rw[h1]at q1;cases q1;refine hc.iF id (.part p l' el) (Env.Le.refl E) hc.I (by simpa using hc.n) lq rfl (λ_ _ _=>rfl) (λb y hb hy=>⟨?_,λ_=>rfl⟩) ⟨⟨ez,by simp[View.upd],hd,λo ho=>(q2 o ho).trans (hs o ho).symm⟩,h3⟩ (λb h=> .inl ⟨_,hk,h⟩);have:b≠E.blk id:=λe=>hb _ hk (by rw[e];rfl);simpa[View.upd,this]using hy
theorem Conc.abR{E:Env}{V:View}{H:List aa}(hc:Conc E V H){id sz:Nat}{l l':List AV}{el:TypeId}(hk:H[id]?=some (.own sz l el)){ez:Array SO}(hd:jF E l' ez)(hz:ez.size=(E.room id 0).2* sz):Conc E (V.upd (E.blk id) (.cells ez el (0,0))) (H.set id (.own sz l' el)):=by
 obtain⟨⟨cs,h1,_⟩,h3⟩:=hc.obj id _ hk;refine hc.iF id (.own sz l' el) (Env.Le.refl E) hc.I (by simpa using hc.n) lq rfl (λ_ _ _=>rfl) (λb y hb hy=>⟨?_,λ_=>rfl⟩) ⟨⟨ez,by simp[View.upd],hd,hz⟩,h3⟩ (λb h=> .inl ⟨_,hk,h⟩);have:b≠E.blk id:=λe=>hb _ hk (by rw[e];rfl);simpa[View.upd,this]using hy
theorem Conc.setObj{E:Env}{V:View}{H:List aa}(hc:Conc E V H){id:Nat}{x y:Obj}(hk:H[id]?=some (.obj x))(h1:y.ug=false)(h2:y.isChan=false):Conc E (V.upd (E.blk id) y) (H.set id (.obj y)):=by
 obtain⟨p1,p2,p3,p4⟩:=hc.obj id _ hk;refine hc.iF id (.obj y) (Env.Le.refl E) hc.I (by simpa using hc.n) lq rfl (λ_ _ _=>rfl) (λb z hb hz=>⟨?_,λ_=>rfl⟩) ⟨by simp[View.upd],h1,h2,p4⟩ (λb h=> .inl ⟨_,hk,h⟩);have:b≠E.blk id:=λe=>hb _ hk (by rw[e];rfl);simpa[View.upd,this]using hz
theorem alL{E:Env}{a:AV}{v:SO}(h:ap E a v)(hl:a.leaf=true):v.one=true:=by
 cases h with
 |val x=>exact hl
 |agg _ _=>cases hl
 |aJ _ _=>cases hl
 |_=>rfl
def h_ (l:List AV)(off:Nat)(lp:List AV):List AV:=l.take off++lp++l.drop (off+lp.length)
theorem H9{E:Env}{l lp:List AV}{cs vs:Array SO}{off:Nat}(h:cE E l cs)(k:cE E lp vs)(hl:off+lp.length<=l.length):cE E (h_ l off lp) (storeAt cs off vs.toList):=by
 have hv:vs.toList.length=lp.length:=by simpa using k.1
 refine⟨by rw[xO,h.1];simp[h_];omega,λi a e=> ?_⟩;rw[CS _ _ _ _ (by rw[h.1,hv];exact hl),hv];unfold h_ at e;by_cases h1:i<off
 ·rw[if_neg (by omega)];rw[SD,SZ (by simp;omega),Uc,if_pos h1]at e;exact h.2 i a e
 ·by_cases h2:i<off+lp.length
  ·rw[if_pos ⟨by omega,h2⟩];rw[SZ (by simp;omega),Tj (by simp;omega)]at e;have e':lp[i-off]?=some a:=by
    have:min off l.length=off:=(by omega);simpa[this]using e
   have:=k.2 _ a e';simpa[SI,SE]using this
  ·rw[if_neg (by omega)];rw[Tj (by simp;omega),Um]at e;have e':l[i]?=some a:=by
    have h3:off+lp.length+(i-(l.take off++lp).length)=i:=(by simp;omega);rw[h3]at e;exact e
   exact h.2 i a e'
theorem OG{E:Env}{l lp:List AV}{cs vs:Array SO}{off:Nat}(h:jF E l cs)(k:cE E lp vs)(hl:off+lp.length<=l.length):jF E (h_ l off lp) (storeAt cs off vs.toList):=by
 have hv:vs.toList.length=lp.length:=by simpa using k.1
 refine⟨by rw[xO];have:=h.1;simp[h_];omega,λi a e=> ?_⟩;rw[CS _ _ _ _ (by have:=h.1;rw[hv];omega),hv];unfold h_ at e;by_cases h1:i<off
 ·rw[if_neg (by omega)];rw[SD,SZ (by simp;omega),Uc,if_pos h1]at e;exact h.2 i a e
 ·by_cases h2:i<off+lp.length
  ·rw[if_pos ⟨by omega,h2⟩];rw[SZ (by simp;omega),Tj (by simp;omega)]at e;have e':lp[i-off]?=some a:=by
    have:min off l.length=off:=(by omega);simpa[this]using e
   have:=k.2 _ a e';simpa[SI,SE]using this
  ·rw[if_neg (by omega)];rw[Tj (by simp;omega),Um]at e;have e':l[i]?=some a:=by
    have h3:off+lp.length+(i-(l.take off++lp).length)=i:=(by simp;omega);rw[h3]at e;exact e
   exact h.2 i a e'
theorem A4{E:Env}{lp:List AV}{vs:Array SO}(h:cE E lp vs)(mY:∀a∈lp,a.leaf=true):∀v∈vs.toList,v.one=true:=by
 intro v hv;obtain⟨j,hj⟩:=UO.1 hv;have eV:j<lp.length:=by have:=(SN.1 hj).1;have:=h.1;simp at*;omega
 have:=h.2 j lp[j] (SP eV);have gY:vs[j]?=some v:=by simpa using hj
 rw[SI,gY]at this;exact alL this (mY _ (VQ eV))
section
variable {lv:Bool}{P:SJ}{r:Option Nat}{o:Tv}{s:AS}{next:AS->Prop}{bad:AV->AS->Prop}
theorem acg{t:TypeId}{x y:Tg}{id off n:Nat}{l lp:List AV}{el:TypeId}{g:Bool}{av:AV}(ho:o.op=.store t x y)(ht:Ty P t=some (n,g))(hx:s.ev x=some (.op id off))(hk:s.H[id]?=some (.cells l el))(hy:s.ev y=some av)(hp:av.parts=some lp)(j4:lp.length=n)(hl:off+lp.length<=l.length)
  (mY:∀a∈lp,a.leaf=true) (hn:next ((⟨s.T,s.H.set id (.cells (h_ l off lp) el)⟩:AS).put o.dst (.val undef))):Step lv P r o s next bad:=by
 intro E V a N Q hc aF hd bw h1 _;obtain⟨i,d,q1,q2,rfl,q4⟩:=Ty.out ht;have dj:=ap.ev aF hx;generalize jQ:a.eval x=vx at dj;cases dj with
 |op bY=>
  have bi:=(ap.ev aF hy).parts hp;obtain⟨⟨cs,p1,p2⟩,p3⟩:=hc.obj id _ hk;obtain⟨g1,g2⟩:=hc.iS hk rfl;refine⟨bw,?_⟩;unfold execOp;rw[ho];simp only[jQ];refine az ?_;unfold Yk U_;refine az (aq ?_);unfold storeVar;refine jD q1 ?_;rw[if_neg (by rw[bi.1,j4];simp)];refine zX _ 0 V cs g1 g2 p1 (λo _ _=>p3 o) (by have:=bi.1;have:=p2.1;simp;omega) (A4 bi mY) ?_;rw[UJ];exact aq (h1 E _ (a.put o.dst undef) _ ⟨Env.Le.refl E,dR _ _ _,put_defers _ _ _,rfl,rfl⟩ (by rw[eX];exact hc.set hk (H9 p2 bi hl))
   (bZ.gF (s:=⟨s.T,s.H.set id (.cells (h_ l off lp) el)⟩) aF hd (.val undef)) hn)
theorem aqh{t:TypeId}{x y:Tg}{id off n p:Nat}{l lp:List AV}{el:TypeId}{g:Bool}{av:AV}(ho:o.op=.store t x y)(ht:Ty P t=some (n,g))(hx:s.ev x=some (.op id off))(hk:s.H[id]?=some (.part p l el))(hpo:p<=off)(hy:s.ev y=some av)(hp:av.parts=some lp)(j4:lp.length=n)(hl:off+lp.length<=l.length)
  (mY:∀a∈lp,a.leaf=true) (hn:next ((⟨s.T,s.H.set id (.part p (h_ l off lp) el)⟩:AS).put o.dst (.val undef))):Step lv P r o s next bad:=by
 intro E V a N Q hc aF hd bw h1 _;obtain⟨i,d,q1,q2,rfl,q4⟩:=Ty.out ht;have dj:=ap.ev aF hx;generalize jQ:a.eval x=vx at dj;cases dj with
 |op bY=>
  have bi:=(ap.ev aF hy).parts hp;obtain⟨⟨cs,p1,p2,p4⟩,p3⟩:=hc.obj id _ hk;obtain⟨g1,g2⟩:=hc.iS hk rfl;refine⟨bw,?_⟩;unfold execOp;rw[ho];simp only[jQ];refine az ?_;unfold Yk U_;refine az (aq ?_);unfold storeVar;refine jD q1 ?_;rw[if_neg (by rw[bi.1,j4];simp)];refine zX _ 0 V cs g1 g2 p1 (λo _ _=>p3 o (by omega)) (by have:=bi.1;have:=p2.1;simp;omega) (A4 bi mY) ?_;rw[UJ];exact aq (h1 E _ (a.put o.dst undef) _ ⟨Env.Le.refl E,dR _ _ _,put_defers _ _ _,rfl,rfl⟩ (by rw[eX];exact hc.Gx hk p1 (OG p2 bi hl) λo ho=>aci _ _ _ _ (by omega))
   (bZ.gF (s:=⟨s.T,s.H.set id (.part p (h_ l off lp) el)⟩) aF hd (.val undef)) hn)
theorem ach{t:TypeId}{x y:Tg}{id off n p:Nat}{l lp:List AV}{el:TypeId}{g:Bool}{av:AV}(ho:o.op=.store t x y)(ht:Ty P t=some (n,g))(hx:s.ev x=some (.op id off))(hk:s.H[id]?=some (.own p l el))(hy:s.ev y=some av)(hp:av.parts=some lp)(j4:lp.length=n)(hl:off+lp.length<=l.length)
  (mY:∀a∈lp,a.leaf=true) (hn:next ((⟨s.T,s.H.set id (.own p (h_ l off lp) el)⟩:AS).put o.dst (.val undef))):Step lv P r o s next bad:=by
 intro E V a N Q hc aF hd bw h1 _;obtain⟨i,d,q1,q2,rfl,q4⟩:=Ty.out ht;have dj:=ap.ev aF hx;generalize jQ:a.eval x=vx at dj;cases dj with
 |op bY=>
  have bi:=(ap.ev aF hy).parts hp;obtain⟨⟨cs,p1,p2,p4⟩,p3⟩:=hc.obj id _ hk;obtain⟨g1,g2⟩:=hc.iS hk rfl;refine⟨bw,?_⟩;unfold execOp;rw[ho];simp only[jQ];refine az ?_;unfold Yk U_;refine az (aq ?_);unfold storeVar;refine jD q1 ?_;rw[if_neg (by rw[bi.1,j4];simp)];refine zX _ 0 V cs g1 g2 p1 (λo _ _=>p3 o) (by have:=bi.1;have:=p2.1;simp;omega) (A4 bi mY) ?_;rw[UJ];exact aq (h1 E _ (a.put o.dst undef) _ ⟨Env.Le.refl E,dR _ _ _,put_defers _ _ _,rfl,rfl⟩ (by rw[eX];exact hc.abR hk (OG p2 bi hl) (by rw[xO];exact p4))
   (bZ.gF (s:=⟨s.T,s.H.set id (.own p (h_ l off lp) el)⟩) aF hd (.val undef)) hn)
theorem Conc.jR{E:Env}{V:View}{H:List aa}(hc:Conc E V H){r:Nat}(hf:V.fresh r)(cs:Array SO):E.Le {E with I:=(V.jR r cs).ab}/\Conc {E with I:=(V.jR r cs).ab} (V.jR r cs) H:=by
 have hle:E.Le {E with I:=(V.jR r cs).ab}:=⟨λb o v h=>by
  rw[hc.I]at h;have hb:b≠r:=λhb=>by subst hb;rw[hf.2 o]at h;cases h
  simpa[View.jR,hb]using h,SQ _,λ_ _=>rfl,λ_ _=>SQ _,λ_ _ _ _=>rfl,rfl,rfl⟩
 have hlt:∀(k:Nat) y,H[k]?=some y->k<E.n:=λk y h=>by rw[hc.n];exact(SN.1 h).1
 refine⟨hle,rfl,hc.n,λk x h=>(hc.obj k x h).mono hle (hlt k x h) rfl (λb y _ hb=>hb) (λb hb o=> ?_),hc.inj,λg hg=> ?_,λg hg=> ?_,hc.top,λb y hg=> ?_⟩
 ·obtain⟨y,hy⟩:=(hc.obj k x h).AU hb;have aC:b≠r:=λe=>by subst e;rw[hf.1]at hy;cases hy
  simp[View.jR,aC]
 ·obtain⟨h0,h1,h2⟩:=hc.group g hg;have aC:g≠r:=λe=>by subst e;exact h0 hf.1
  exact⟨h0,λo=>by simp[View.jR,aC,h1 o],h2⟩
 ·obtain⟨h0,h1,h2⟩:=hc.chan g hg;have aC:g≠r:=λe=>by subst e;exact h0 hf.1
  exact⟨h0,λo=>by simp[View.jR,aC,h1 o],h2⟩
 ·obtain⟨h0,h1,h2⟩:=hc.fr b y hg;have aC:b≠r:=λe=>by subst e;rw[hf.1]at h0;cases h0
  exact⟨h0,λo=>by simp[View.jR,aC,h1 o],h2⟩
theorem ap.anQ{E:Env}{V:View}{H:List aa}(hc:Conc E V H){r:Nat}(hf:V.fresh r){cs:Array SO}{l:List AV}(h:cE E l cs){n cap:Nat}(dJ:n<=cap){e:End}(he:oW {E with I:=(V.jR r cs).ab} e (some ⟨r,0,none⟩) n cap):ap {E with I:=(V.jR r cs).ab} (.sl n l e) (.slice (some ⟨r,0,none⟩) n cap):=by
 refine .sl r 0 cap (λi=>cs.getD i undef) dJ he (λi hi=> ?_) λi x hx=>(h.2 i x hx).mono (hc.jR hf cs).1;have hlt:i<cs.size:=by rw[h.1];exact hi
 simp[View.jR,SI,SK hlt]
def nD (place:Nat->Option (Nat×Nat))(cells:List AV):List (Nat×AV)->Option (List AV)
 |[]=>some cells
 |(i,a)::rest=>match place i,a.parts with
  |some (off,size),some lp=>if lp.length≠size\/off+lp.length>cells.length then none else nD place (h_ cells off lp) rest
  |_,_=>none
theorem Pz:∀(vs:List SO)(k off:Nat)(cs:Array SO),(vs.zipIdx k).foldl (λ(cs:Array SO) (x:SO×Nat)=>cs.setIfInBounds (off+x.2) x.1) cs=storeAt cs (off+k) vs
 |[],_,_,_=>rfl
 |v::vs,k,off,cs=>by
  rw[List.zipIdx_cons,UW,Pz vs (k+1) off];rfl
theorem A7{E:Env}{place:Nat->Option (Nat×Nat)}:∀{parts:List (Nat×AV)}{vs:List (Nat×SO)}{l l':List AV}{cs:Array SO},cE E l cs->parts.length=vs.length->(∀(j:Nat) p q,parts[j]?=some p->vs[j]?=some q->p.1=q.1/\ap E p.2 q.2)->
  nD place l parts=some l'->∃ez,Z_ place cs vs=some ez/\cE E l' ez
 |[],[],l,l',cs,h,_,_,e=>by cases e;exact⟨cs,rfl,h⟩
 |[],_::_,_,_,_,_,h,_,_=>by simp at h
 |_::_,[],_,_,_,_,h,_,_=>by simp at h
 |(i,a)::parts,(i',v)::vs,l,l',cs,h,hl,hp,e=>by
  obtain⟨e1,hd⟩:=hp 0 (i,a) (i',v) rfl rfl;have e1':i=i':=e1;subst e1';simp only[nD]at e;split at e
  ·rename_i off size lp dc Kk;split at e
   ·cases e
   ·rename_i hc;have bi:=ap.parts (v:=v) hd Kk;have aT:v.cells.size=lp.length:=bi.1;have hle:off+lp.length<=l.length:=(by omega);obtain⟨ez,h1,h2⟩:=A7 (H9 h bi hle) (by simpa using hl) (λj p q x y=>hp (j+1) p q (by simpa using x) (by simpa using y)) e;refine⟨ez,?_,h2⟩;unfold Z_;rw[dc];simp only;rw[if_neg (by rw[aT,h.1];simp;omega)];have:=Pz v.cells.toList 0 off cs;rw[UJ]at this;rw[<- h1,<- this];congr 1;rw[<- Array.toList_zipIdx,Array.foldl_toList]
  ·cases e
def jJ (s:AS):List (Nat×Tg)->Option (List (Nat×AV))
 |[]=>some []
 |(i,x)::l=>match s.ev x,jJ s l with
  |some a,some aD=>some ((i,a)::aD)
  |_,_=>none
theorem D4{E:Env}{s:AS}{a:Act}(k:bZ E s.T a.tmps):∀{l:List (Nat×Tg)}{aD:List (Nat×AV)},jJ s l=some aD->aD.length=(l.map λ(i,x)=>(i,a.eval x)).length/\∀(j:Nat) p q,aD[j]?=some p->(l.map λ(i,x)=>(i,a.eval x))[j]?=some q->p.1=q.1/\ap E p.2 q.2
 |[],aD,h=>by cases h;exact⟨rfl,by simp⟩
 |(i,x)::l,aD,h=>by
  simp only[jJ]at h;split at h
  ·rename_i av lE h1 h2;cases h;obtain⟨mq,kK⟩:=D4 k h2;refine⟨by simpa using mq,λj p q e1 e2=> ?_⟩;cases j with
   |zero=>simp at e1 e2;subst e1 e2;exact⟨rfl,ap.ev k h1⟩
   |succ j=>exact kK j p q (by simpa using e1) (by simpa using e2)
  ·cases h
def qf (P:SJ)(t:TypeId):Option (TypeId×Nat×SO):=match P.underlying t with
 |some (.slice e)=>(P.info? e).bind λi=>i.zero.map λz=>(e,i.size,z)
 |_=>none
def gr (z:SO)(m:Nat):List AV:=(SV m).map λi=>AV.oQ (z.cells[i % z.cells.size]!)
inductive gW where
 |fields (l:List (Nat×Nat))
 |elems (sz:Nat)
def gW.at:gW->Nat->Option (Nat×Nat)
 |.fields l,i=>l[i]?
 |.elems sz,i=>some (i* sz,sz)
def n9 (P:SJ)(t:TypeId):Option (gW×SO):=(ey P t).bind λz=>match P.underlying t with
 |some (.struct fs)=>(fs.toList.mapM λf=>(P.info? f.type).map λi=>(f.offset,i.size)).map λl=>(.fields l,z)
 |some (.array _ e)=>(P.info? e).map λi=>(.elems i.size,z)
 |_=>none
theorem abK{P:SJ}{V:View}{Kp:SO->View->Prop}:∀(fs:List YX)(l:List (Nat×Nat)){K:List (Nat×Nat)->View->Prop},fs.mapM (λf=>(P.info? f.type).map λi=>(f.offset,i.size))=some l->
  K l V->aO P V (fs.mapM λf=>(do pure (f.offset,<- sizeOf f.type):Sem (Nat×Nat))) K Kp
 |[],l,K,h,hk=>by
  simp at h;subst h;rw[UA];exact aq hk
 |f::fs,l,K,h,hk=>by
  simp only[T_,Ug,TP,Td,Tl]at h;obtain⟨b,h1,bs,h2,rfl⟩:=h;obtain⟨i,hi,rfl⟩:=kx h1;rw[T_];exact az (jD hi (aq (az (abK fs bs h2 (aq hk)))))
theorem an1{t:TypeId}{parts:Array (Nat×Tg)}{pl:gW}{z:SO}{aD:List (Nat×AV)}{l:List AV}(ho:o.op=.build t parts)(ht:n9 P t=some (pl,z))(hp:jJ s parts.toList=some aD)
  (hl:nD pl.at (lA z) aD=some l):dq lv P r o s (.agg l):=
 iC (λE V a hc aF=>by
  unfold n9 at ht;obtain⟨z',hz,ht⟩:=Td.1 ht;obtain⟨hlen,bi⟩:=D4 aF hp;unfold execOp;rw[ho];dsimp only;refine az ?_;unfold Instr.build;refine Gw hz ?_;split at ht
  ·rename_i fs hu;obtain⟨lp,h1,h2⟩:=kx ht;cases h2;obtain⟨ez,mV,tK⟩:=A7 (Ia E z) hlen bi hl;refine dW hu ?_;dsimp only;have e:fs=fs.toList.toArray:=(by simp);rw[e,XZ];refine az ?_;refine az (abK fs.toList lp h1 ?_);refine aq ?_;rw[VJ];have e2:(λx=>lp.toArray[x]?)=gW.at (.fields lp):=(by funext x;simp[gW.at]);rw[e2,mV];exact aq (aq ⟨rfl,_,rfl,.agg tK.1 tK.2⟩)
  ·rename_i n e hu;obtain⟨i,h1,h2⟩:=kx ht;cases h2;obtain⟨ez,mV,tK⟩:=A7 (Ia E z) hlen bi hl;refine dW hu ?_;dsimp only;refine jD h1 ?_;rw[VJ];have e2:(λj=>some (j* i.size,i.size))=gW.at (.elems i.size):=rfl;rw[e2,mV];exact aq (aq ⟨rfl,_,rfl,.agg tK.1 tK.2⟩)
  ·cases ht)
theorem H_{E:Env}(z:SO)(m:Nat):cE E (gr z m) ((WK m).map (λx=>z.cells[x % z.cells.size]!)):=by
 refine⟨by simp[gr],λj x hx=> ?_⟩;unfold gr at hx;rw[To]at hx;obtain⟨k,hk,rfl⟩:=Tq.1 hx;have hj:j<m:=by have:=(SN.1 hk).1;simpa using this
 have hmj:k=j:=by rw[Xz hj]at hk;cases hk;rfl
 subst hmj;simp only[SI,WC,Array.getElem?_range,hj,if_true,UM,S8];exact H6 E _
theorem an2{t e:TypeId}{len sz:Nat}{z:SO}{parts:Array (Nat×Tg)}{aD:List (Nat×AV)}{l:List AV}(ho:o.op=.buildSlice t len parts)(ht:qf P t=some (e,sz,z))(aT:len* sz<=2^24)(hp:jJ s parts.toList=some aD)
  (hl:nD (gW.at (.elems sz)) (gr z (len* sz)) aD=some l):dq lv P r o s (.sl len l .exact):=by
 intro E V a N Q hc aF bw h1;unfold qf at ht;split at ht
 ·rename_i e' hu;obtain⟨i,hi,ht⟩:=Td.1 ht;obtain⟨z',hz,ht⟩:=Tq.1 ht;cases ht;refine⟨bw,?_⟩;unfold execOp;rw[ho];dsimp only;refine az ?_;unfold Instr.buildSlice;refine dW hu ?_;dsimp only;refine jD hi ?_;rw[if_neg (by omega)];obtain⟨hlen,bi⟩:=D4 aF hp;obtain⟨ez,mV,tK⟩:=A7 (H_ (E:=E) z (len* i.size)) hlen bi hl;have fin:∀(rr:Nat),V.fresh rr->aO P (V.upd rr (.cells ez e)) (pure (W5 (.slice (some ⟨rr,0,none⟩) len len))) (l_ lv P r o a N Q) (λv V'=>Q (.panic [{v,recovered:=false}]) a V'):=λrr hf=>
   aO.ghost (aiI hf (hc.aix hf.1).1) (aq (h1 _ _ _ (hc.jR hf ez).1 rfl rfl (hc.jR hf ez).2 (ap.anQ hc hf tK (SQ _) rfl)))
  have e2:(λj=>some (j* i.size,i.size))=gW.at (.elems i.size):=rfl;rw[e2];by_cases h0:len* i.size=0
  ·rw[if_pos h0];refine az (aq ?_);rw[h0]at mV⊢;rw[show WK 0=#[]from rfl]at mV⊢;simp only[List.map_toArray,List.map_nil,VJ]at mV⊢;rw[mV];unfold newRow;exact az (az (az (nY λrr hf=>cD (aq (aq (aq (fin rr hf)))))))
  ·rw[if_neg h0];refine az (az ?_);unfold typeInfo;refine az (pP (cD ?_));rw[hi];refine aq ?_;rw[hz];refine aq (az (aq ?_));rw[VJ,mV];unfold newRow;exact az (az (az (nY λrr hf=>cD (aq (aq (aq (fin rr hf)))))))
 ·cases ht
end
open Go.Conc
def aaC (P:SJ)(t:TypeId):Bool:=match P.underlying t with
 |some (.int _)=>false
 |some _=>true
 |none=>false
def jo (P:SJ)(t t':TypeId):Option (TypeId×Nat×SO):=match P.underlying t with
 |some (.slice e)=>(P.info? e).bind λi=>i.zero.bind λz=>if z.cells.size=i.size/\i.bytes<=2^16/\i.bytes≠0/\aaC P t'=true then some (e,i.size,z)else none
 |_=>none
theorem jo.out{P:SJ}{t t' e:TypeId}{sz:Nat}{z:SO}(h:jo P t t'=some (e,sz,z)):∃i d,P.underlying t=some (.slice e)/\P.info? e=some i/\i.zero=some z/\i.size=sz/\z.cells.size=sz/\i.bytes<=2^16/\i.bytes≠0/\P.underlying t'=some d/\(∀k,d≠ .int k):=by
 unfold jo at h;split at h
 ·rename_i e' hu;obtain⟨i,h1,h⟩:=Td.1 h;obtain⟨z',h2,h⟩:=Td.1 h;split at h
  ·rename_i hc;obtain⟨c1,c2,c3,c4⟩:=hc;cases h;unfold aaC at c4;split at c4
   ·cases c4
   ·rename_i d hd aC;exact⟨i,d,hu,h1,h2,rfl,c1,c2,c3,aC,λk e=>hd k e⟩
   ·cases c4
  ·cases h
 ·cases h
def AS.src (s:AS)(sz:Nat):AV->Option (Nat×List AV)
 |.sl m l _=>some (m,l.take (m* sz))
 |.bD id off m _=>match s.H[id]?with
  |some (.cells l _)|some (.part _ l _)|some (.own _ l _)=>some (m,(l.drop off).take (m* sz))
  |_=>none
 |_=>none
section
variable {P:SJ}{E:Env}{V:View}{s:AS}{K:Array SO->View->Prop}{Kp:SO->View->Prop}
theorem DZ{l:List AV}{f:Nat->SO}{n:Nat}(hn:n<=l.length)(h:∀(i:Nat) x,l[i]?=some x->ap E x (f i)):cE E (l.take n) ((SV n).map f).toArray:=by
 have:=H8 hn h;cases this with
 |agg h1 h2=>exact⟨h1,h2⟩
theorem CM(hc:Conc E V s.H){av:AV}{v:SO}(hd:ap E av v){sz m k:Nat}{l:List AV}(h:s.src sz av=some (m,l))(hl:l.length=m* sz)(hk:k<=m)(hK:∀cs,cE E (l.take (k* sz)) cs->K cs V):aO P V (Vr sz k v) K Kp:=by
 have hks:k* sz<=m* sz:=Ue _ hk;cases hd with
 |sl b o cap f dJ he h1 h2=>
  cases h;rename_i l _;simp only[TR]at hl;have e:(l.take (m* sz)).take (k* sz)=l.take (k* sz):=by rw[U0];congr 1;omega
  rw[e]at hK;unfold Vr;exact zV (f:=f) (λhp=>(hc.R6 (h1 0 (by omega))).1) (λj hj=>by unfold View.get;rw[<- hc.I,h1 j (by omega)]) (hK _ (DZ (by omega) h2))
 |nil he=>
  cases h;have:k=0:=by omega
  subst this;have hK:=hK #[] ⟨by simp,by simp⟩;unfold Vr;split
  ·rw[Z2];exact aq hK
  ·exact aq hK
  ·rename_i h;cases h
  ·rename_i a _ _ h1 h2 _;cases a with
   |none=>exact(h2 _ _ rfl).elim
   |some x=>exact(h1 _ _ _ rfl).elim
 |bD hi dJ=>
  rename_i id off m' cap cap';simp only[AS.src]at h;cases hq:s.H[id]?with
  |none=>rw[hq]at h;cases h
  |some ob=>
   rw[hq]at h;cases ob with
   |cells l' el=>
    cases h;obtain⟨⟨cs,ho,hs,bi⟩,kX⟩:=hc.obj id _ hq;simp only[TR,Uh]at hl;have e:((l'.drop off).take (m* sz)).take (k* sz)=(l'.drop off).take (k* sz):=(by rw[U0];congr 1;omega);rw[e]at hK;unfold Vr;refine zV (f:=λi=>cs.getD (off+i) undef) (λ_=>(hc.iS hq rfl).1) (λj hj=> ?_) (hK _ (DZ (by simp only[Uh];omega) λi x hx=> ?_))
    ·unfold View.get;rw[kX,ho];have hlt:off+j<cs.size:=(by omega);simp only[SI,SK hlt,S8]
    ·rw[Um]at hx;exact bi _ _ hx
   |part p l' el=>
    cases h;obtain⟨⟨cs,ho,⟨hs,bi⟩,lN⟩,kX⟩:=hc.obj id _ hq;simp only[TR,Uh]at hl;have e:((l'.drop off).take (m* sz)).take (k* sz)=(l'.drop off).take (k* sz):=(by rw[U0];congr 1;omega);rw[e]at hK;unfold Vr;refine zV (f:=λi=>cs.getD (off+i) undef) (λ_=>(hc.iS hq rfl).1) (λj hj=> ?_) (hK _ (DZ (by simp only[Uh];omega) λi x hx=> ?_))
    ·have hlt:off+j<cs.size:=(by omega);unfold View.get;by_cases hp:off+j<p
     ·rw[lN _ hp];simp only[SI,SK hlt,S8]
     ·rw[kX _ (by omega),ho];simp only[SI,SK hlt,S8]
    ·rw[Um]at hx;exact bi _ _ hx
   |own eg l' el=>
    cases h;obtain⟨⟨cs,ho,⟨hs,bi⟩,_⟩,kX⟩:=hc.obj id _ hq;simp only[TR,Uh]at hl;have e:((l'.drop off).take (m* sz)).take (k* sz)=(l'.drop off).take (k* sz):=(by rw[U0];congr 1;omega);rw[e]at hK;unfold Vr;refine zV (f:=λi=>cs.getD (off+i) undef) (λ_=>(hc.iS hq rfl).1) (λj hj=> ?_) (hK _ (DZ (by simp only[Uh];omega) λi x hx=> ?_))
    ·have hlt:off+j<cs.size:=(by omega);unfold View.get;rw[kX,ho];simp only[SI,SK hlt,S8]
    ·rw[Um]at hx;exact bi _ _ hx
   |_=>cases h
 |_=>cases h
theorem GB{av:AV}{v:SO}(hd:ap E av v){sz m:Nat}{l:List AV}(h:s.src sz av=some (m,l)):ato v=pure m:=by
 cases hd with
 |sl=>cases h;rfl
 |nil=>cases h;rfl
 |bD=>
  simp only[AS.src]at h;split at h
  ·cases h;rfl
  ·cases h;rfl
  ·cases h;rfl
  ·cases h
 |_=>cases h
end
theorem PN(uq:Nat):∀(r c:Nat),c<=2* uq+200->Zp uq r c<=2* uq+200
 |0,c,h=>h
 |r+1,c,h=>by
  unfold Zp;split
  ·exact h
  ·exact PN uq r _ (by omega)
theorem amM(uq cap:Nat)(h:cap<uq):W3 uq cap<=2* uq+200:=by
 unfold W3;split
 ·omega
 ·split
  ·omega
  ·exact PN uq 4 cap (by omega)
theorem A3{E:Env}{l m:List AV}{x y:Array SO}(h:cE E l x)(k:cE E m y):cE E (l++m) (x++y):=by
 refine⟨by simp[h.1,k.1],λi a e=> ?_⟩;by_cases hi:i<l.length
 ·rw[SZ hi]at e;have:=h.2 i a e;rw[SI,Yc (by rw[h.1];exact hi)];rwa [SI]at this
 ·rw[Tj (by omega)]at e;have:=k.2 _ a e;rw[SI,X8 (by rw[h.1];omega),h.1];rwa [SI]at this
theorem Mx{P:SJ}{V:View}{α:Type}{K:α->View->Prop}{Kp:SO->View->Prop}{b:Bool}{k:Bool->Sem α}(hb:b=false)(h:aO P V (k false) K Kp):aO P V (pure b>>=k) K Kp:=by
 subst hb;exact az (aq h)
section
variable {P:SJ}{E:Env}{V:View}{s:AS}{K:SO->View->Prop}{Kp:SO->View->Prop}
theorem abG{n:Nat}{K:Unit->View->Prop}(h:K () V):aO P V (askRoom n) K Kp:=by
 unfold askRoom;split
 ·exact aps (cD h)
 ·exact aq h
theorem abF(hc:Conc E V s.H){t t' e:TypeId}{sz n m cap:Nat}{z:SO}{base:Option U2}{av:AV}{v:SO}{ax:AV}{l l':List AV}{ty:TypeId}(ht:jo P t t'=some (e,sz,z))(hd:ap E ax (.slice base n cap))(dE:s.src sz ax=some (n,l))(cr:ap E av v)(hs:s.src sz av=some (m,l'))
  (hl:l.length=n* sz) (ew:l'.length=m* sz) (hb:n+m<=2^30) (JL:cap<n+m)
  (hK:∀r cs cap',V.fresh r->cE E (l++l') (cs.extract 0 ((n+m)* sz))->n+m<=cap'->cs.size=cap'* sz->K (.slice (some ⟨r,0,none⟩) (n+m) cap') (V.upd r (.cells cs e))):aO P V (Vv #[t,t'] ty #[.slice base n cap,v]) K Kp:=by
 obtain⟨i,d,h1,h2,h3,h4,h5,h6,h7,h8,h9⟩:=jo.out ht;unfold Vv;simp only[Ve,Vp,UH];refine dW h1 ?_;dsimp only;refine jD h2 ?_;rw[h4];refine dW h8 ?_;refine Mx (by cases d<;>first|rfl|exact absurd rfl (h9 _)) ?_;simp only[TN,if_false,YG,if_true];rw[GB cr hs];refine az (aq ?_);rw[if_neg (by omega)];refine xM h2 ?_;rw[if_neg (by intro hx;exact hx.2.elim (λx=>x.elim) h7)];refine xM h2 ?_;have dJ:=amM (n+m) cap JL;have hmul:W3 (n+m) cap* i.bytes<=(2* 2^30+200)* 2^16:=ZN (by omega) h6;rw[if_neg (by omega)];refine az (abI (λhf=>by cases hf) (λ_ t=>cD ?_));generalize iL:Zu (.appendCap (n+m) cap e) t=cap';have Ez:n+m<=cap':=by rw[<- iL];exact Nat.le_add_right _ _
 refine xM h2 (az (abG (az ?_)));refine CM hc hd dE hl (SQ _) λyk Js=> ?_;refine az (CM hc cr hs ew (SQ _) λjf kB=> ?_);refine Gw (z:=z) (by unfold ey;rw[h2];exact h3) ?_;rw[<- hl,TH]at Js;rw[<- ew,TH]at kB;unfold newRow;refine az (az (nY λr hf=>cD (aq (aq ?_))));have akP:yk.size=n* sz:=by rw[Js.1,hl]
 have zk:jf.size=m* sz:=by rw[kB.1,ew]
 have aT:(yk++jf).size=(n+m)* sz:=by rw[XE,akP,zk,Vb]
 refine hK r _ cap' hf ?_ Ez ?_
 ·have e1:(yk++jf++Xn z.cells (cap'-(n+m))).extract 0 ((n+m)* sz)=yk++jf:=by
   rw[<- aT];generalize yk++jf=q;apply Vz;simp[Array.toList_extract,List.extract_eq_take_drop]
  rw[e1];exact A3 Js kB
 ·rw[XE,aT];have:(Xn z.cells (cap'-(n+m))).size=(cap'-(n+m))* sz:=by simp[Xn,h5]
  rw[this,<- Vb];congr 1;omega
theorem Gu(hc:Conc E V s.H){t t' e:TypeId}{sz n m cap:Nat}{z:SO}{base:Option U2}{av:AV}{v:SO}{en:End}{l l':List AV}{ty:TypeId}(ht:jo P t t'=some (e,sz,z))(hd:ap E (.sl n l en) (.slice base n cap))(cr:ap E av v)(hs:s.src sz av=some (m,l'))
  (hl:l.length=n* sz) (ew:l'.length=m* sz) (hb:n+m<=2^30) (JL:cap<n+m)
  (hK:∀r cs cap',V.fresh r->cE E (l++l') (cs.extract 0 ((n+m)* sz))->n+m<=cap'->cs.size=cap'* sz->K (.slice (some ⟨r,0,none⟩) (n+m) cap') (V.upd r (.cells cs e))):aO P V (Vv #[t,t'] ty #[.slice base n cap,v]) K Kp:=
 abF hc ht hd (by simp only[AS.src];rw[<- hl,TH]) cr hs hl ew hb JL hK
theorem Gv(hc:Conc E V s.H){t t' e:TypeId}{sz n cap:Nat}{z:SO}{base:Option U2}{av:AV}{v:SO}{l':List AV}{ty:TypeId}(ht:jo P t t'=some (e,sz,z))(cr:ap E av v)(hs:s.src sz av=some (0,l'))
  (ew:l'.length=0* sz) (hle:n<=cap) (hK:K (.slice base n cap) V):aO P V (Vv #[t,t'] ty #[.slice base n cap,v]) K Kp:=by
 obtain⟨i,d,h1,h2,h3,h4,h5,h6,h7,h8,h9⟩:=jo.out ht;unfold Vv;simp only[Ve,Vp,UH];refine dW h1 ?_;dsimp only;refine jD h2 ?_;rw[h4];refine dW h8 ?_;refine Mx (by cases d<;>first|rfl|exact absurd rfl (h9 _)) ?_;simp only[TN,if_false,YG,if_true];rw[GB cr hs];refine az (aq ?_);rw[if_pos (by omega)];refine az (CM hc cr hs ew (SQ _) λjf kB=> ?_);have zk:jf=#[]:=by
  have:=kB.1;apply Array.eq_empty_of_size_eq_zero;rw[this];simp
 subst zk;rw[UJ];cases base with
 |none=>exact aq hK
 |some a=>
  dsimp only;unfold storeCells;exact az (aq (aq hK))
theorem abE(hc:Conc E V s.H){t t' e:TypeId}{sz n m cap:Nat}{z:SO}{b:Nat}{av:AV}{v:SO}{l':List AV}{ty:TypeId}{cs:Array SO}{el:TypeId}(ht:jo P t t'=some (e,sz,z))(cr:ap E av v)(hs:s.src sz av=some (m,l'))
  (ew:l'.length=m* sz) (hle:n+m<=cap) (ho:V.own b=some (.cells cs el (0,0))) (aT:cap* sz<=cs.size) (hi:∀o,n* sz<=o->V.ab b o=none) (hg:V.role.group≠some b/\V.role.chan≠some b) (mY:∀a∈l',a.leaf=true)
  (hK:∀jf,cE E l' jf->K (.slice (some ⟨b,0,none⟩) (n+m) cap) (V.upd b (.cells (storeAt cs (n* sz) jf.toList) el (0,0)))):aO P V (Vv #[t,t'] ty #[.slice (some ⟨b,0,none⟩) n cap,v]) K Kp:=by
 obtain⟨i,d,h1,h2,h3,h4,h5,h6,h7,h8,h9⟩:=jo.out ht;unfold Vv;simp only[Ve,Vp,UH];refine dW h1 ?_;dsimp only;refine jD h2 ?_;rw[h4];refine dW h8 ?_;refine Mx (by cases d<;>first|rfl|exact absurd rfl (h9 _)) ?_;simp only[TN,if_false,YG,if_true];rw[GB cr hs];refine az (aq ?_);rw[if_pos (by omega)];refine az (CM hc cr hs ew (SQ _) λjf kB=> ?_);rw[<- ew,TH]at kB;rw[add_plain];have tS:(n+m)* sz<=cap* sz:=Ue _ hle;rw[Vb]at tS;refine az (zX _ 0 V cs hg.1 hg.2 ho (λo h _=>hi o (by omega)) (by have:=kB.1;simp;omega) (A4 kB mY) ?_);rw[Wr,UJ];exact aq (hK jf kB)
end
def Env.tok (E:Env)(I:cm)(rm:Option U2×Nat)(v:Nat):Env:={E with I:=I,n:=E.n+1,room:=λk u=>if k=E.n/\u=v then rm else E.room k u,fh:=λk=>if k=E.n then v else E.fh k}
theorem Env.Ls(E:Env){I:cm}(hI:∀b o v,E.I b o=some v->I b o=some v)(rm:Option U2×Nat)(v:Nat):E.Le (E.tok I rm v):=
 ⟨hI,Y2 _,λk hk=>rfl,λk hk=>by simp[Env.tok,V_ hk],λk u hk _=>by simp[Env.tok,V_ hk],rfl,rfl⟩
def Env.grow (E:Env)(I:cm)(k:Nat)(rm:Option U2×Nat)(v:Nat):Env:={E with I:=I,room:=λj u=>if j=k/\u=v then rm else E.room j u,fh:=λj=>if j=k then v else E.fh j}
theorem Env.Sv(E:Env){I:cm}(hI:∀b o v,E.I b o=some v->I b o=some v){k:Nat}(rm:Option U2×Nat){v:Nat}(hv:E.fh k<v):E.Le (E.grow I k rm v):=
 ⟨hI,SQ _,λ_ _=>rfl,λj _=>by
  simp only[Env.grow];split
  ·rename_i e;subst e;omega
  ·exact SQ _,λj u _ hu=>by
  simp only[Env.grow];split
  ·rename_i e;obtain⟨rfl,rfl⟩:=e;omega
  ·rfl,rfl,rfl⟩
open Go.Conc
abbrev View.laid (V:View)(b:Nat)(cs:Array SO)(el:TypeId)(p:Nat->Bool):View:=(V.upd b (.cells cs el (0,0))).gT b cs p
theorem Lm{V:View}{b b':Nat}{cs:Array SO}{el:TypeId}{p:Nat->Bool}(h:b'≠b):(V.laid b cs el p).own b'=V.own b':=by simp[View.laid,View.gT,View.upd,h]
theorem Ll{V:View}{b b':Nat}{cs:Array SO}{el:TypeId}{p:Nat->Bool}(h:b'≠b)(o:Nat):(V.laid b cs el p).ab b' o=V.ab b' o:=by simp[View.laid,View.gT,View.upd,h]
theorem FK{V:View}{b:Nat}{cs:Array SO}{el:TypeId}{p:Nat->Bool}(hp:∀o,p o=true->V.ab b o=none):∀b' o v,V.ab b' o=some v->(V.laid b cs el p).ab b' o=some v:=λb' o v h=>by
 have hn:¬(b'=b/\p o=true):=λhb=>by obtain⟨rfl,h2⟩:=hb;rw[hp o h2]at h;cases h
 simp only[View.laid,View.gT,View.upd,if_neg hn];exact h
theorem FJ{V:View}{b:Nat}{cs:Array SO}{el:TypeId}{p:Nat->Bool}{o:Nat}(h:p o=true):(V.laid b cs el p).ab b o=cs[o]?:=by simp[View.laid,View.gT,h]
theorem Ln{V:View}{b:Nat}{cs:Array SO}{el:TypeId}{p:Nat->Bool}:(V.laid b cs el p).own b=some (.cells cs el (0,0)):=by simp[View.laid,View.gT,View.upd]
theorem H7{E:Env}{I:cm}{b n cap:Nat}{cs:Array SO}{l:List AV}{e:End}{sz:Nat}(hI:E.I=I)(hd:cE E l (cs.extract 0 (n* sz)))(hl:l.length=n* sz)(hs:n* sz<=cs.size)(hi:∀o,o<n* sz->I b o=cs[o]?)(hc:n<=cap)(he:oW E e (some ⟨b,0,none⟩) n cap):ap E (.sl n l e) (.slice (some ⟨b,0,none⟩) n cap):=by
 refine .sl b 0 cap (λi=>cs.getD i undef) hc he (λi h=> ?_) (λi x hx=> ?_)
 ·rw[hl]at h;have hlt:i<cs.size:=by omega
  rw[hI,Wr,hi i h];simp only[SI,SK hlt,S8]
 ·have cu:i<n* sz:=by rw[<- hl];exact(SN.1 hx).1
  have:=hd.2 i x hx;have hlt:i<cs.size:=by omega
  rw[SI,SK hlt];rw[SI]at this;rw[Array.getElem?_extract]at this;have EP:i<min (n* sz) cs.size:=by omega
  simpa[cu,hlt,EP]using this
section
variable {E:Env}{V:View}{H:List aa}
theorem Conc.MP(hc:Conc E V H){n:Nat}(sz:Nat)(el:TypeId)(a:Option U2):Conc (E.tok V.ab (a,n) n) V (H++[.tail n sz el])/\E.Le (E.tok V.ab (a,n) n):=by
 have hle:=E.Ls (I:=V.ab) (λb o v h=>by rw[<- hc.I];exact h) (a,n) n;refine⟨hc.iF H.length (.tail n sz el) hle rfl (by simp[Env.tok,hc.n]) Ct rfl (λj hj _=>by simp[Env.tok,hc.n,hj]) (λb y _ hy=>⟨hy,λ_=>rfl⟩) ?_ (λb h=> ?_),hle⟩
 ·rw[<- hc.n];exact⟨by simp[Env.tok],.inl (by simp[Env.tok])⟩
 ·rw[<- hc.n]at h;simp[bJ,Env.tok]at h
theorem Conc.acy(hc:Conc E V H){r n cap sz:Nat}{el:TypeId}{cs:Array SO}(hf:V.fresh r)(hs:cs.size=cap* sz)(hn:n<=cap):
  Conc (E.tok (V.laid r cs el (·<n* sz)).ab (some ⟨r,0,none⟩,cap) n) (V.laid r cs el (·<n* sz)) (H++[.tail n sz el])/\E.Le (E.tok (V.laid r cs el (·<n* sz)).ab (some ⟨r,0,none⟩,cap) n):=by
 have hle:=E.Ls (I:=(V.laid r cs el (·<n* sz)).ab) (λb o v h=>FK (λo _=>hf.2 o) b o v (by rw[<- hc.I];exact h)) (some ⟨r,0,none⟩,cap) n;refine⟨hc.iF H.length (.tail n sz el) hle rfl (by simp[Env.tok,hc.n]) Ct rfl (λj hj _=>by simp[Env.tok,hc.n,hj]) (λb y _ hy=> ?_) ?_ (λb h=> .inr ?_),hle⟩
 ·have hb:b≠r:=λe=>by subst e;rw[hf.1]at hy;cases hy
  exact⟨by rw[Lm hb];exact hy,λo=>Ll hb o⟩
 ·rw[<- hc.n];refine⟨by simp[Env.tok],?_⟩;by_cases e:cap=n
  ·exact .inl (by simp[Env.tok,e])
  ·refine .inr ⟨r,cap,cs,by simp[Env.tok],Ln,hs,by omega,λo ho=> ?_⟩;have:¬(decide (o<n* sz)=true):=(by simpa using ho);simp only[View.laid,View.gT];rw[if_neg (λx=>this x.2)];exact hf.2 o
 ·rw[<- hc.n]at h;simp[bJ,Env.tok]at h;obtain⟨_,rfl⟩:=h;exact hf.1
theorem Conc.aiP(hc:Conc E V H){k r n n' cap sz:Nat}{el fO:TypeId}{cs:Array SO}(hk:H[k]?=some (.tail n sz fO))(hf:V.fresh r)(hs:cs.size=cap* sz)(hn:n'<=cap)(hlt:n<n'):
  Conc (E.grow (V.laid r cs el (·<n'* sz)).ab k (some ⟨r,0,none⟩,cap) n') (V.laid r cs el (·<n'* sz)) (H.set k (.tail n' sz el))/\E.Le (E.grow (V.laid r cs el (·<n'* sz)).ab k (some ⟨r,0,none⟩,cap) n'):=by
 have zo:E.fh k=n:=(hc.obj k _ hk).1;have hle:=E.Sv (I:=(V.laid r cs el (·<n'* sz)).ab) (λb o v h=>FK (λo _=>hf.2 o) b o v (by rw[<- hc.I];exact h)) (k:=k) (some ⟨r,0,none⟩,cap) (v:=n') (by omega);refine⟨hc.iF k (.tail n' sz el) hle rfl (by simpa[Env.grow]using hc.n) lq rfl (λj hj _=>by simp[Env.grow,hj]) (λb y _ hy=> ?_) ?_ (λb h=> .inr ?_),hle⟩
 ·have hb:b≠r:=λe=>by subst e;rw[hf.1]at hy;cases hy
  exact⟨by rw[Lm hb];exact hy,λo=>Ll hb o⟩
 ·refine⟨by simp[Env.grow],?_⟩;by_cases e:cap=n'
  ·exact .inl (by simp[Env.grow,e])
  ·refine .inr ⟨r,cap,cs,by simp[Env.grow],Ln,hs,by omega,λo ho=> ?_⟩;have:¬(decide (o<n'* sz)=true):=(by simpa using ho);simp only[View.laid,View.gT];rw[if_neg (λx=>this x.2)];exact hf.2 o
 ·simp[bJ,Env.grow]at h;obtain⟨_,rfl⟩:=h;exact hf.1
theorem Conc.aiQ(hc:Conc E V H){k b n n' cap sz:Nat}{el fO:TypeId}{cs ez:Array SO}(hk:H[k]?=some (.tail n sz fO))(hrm:E.room k n=(some ⟨b,0,none⟩,cap))(ho:V.own b=some (.cells cs el (0,0)))(hi:∀o,n* sz<=o->V.ab b o=none)(hs:ez.size=cap* sz)(hn:n'<=cap)(hlt:n<n'):
  Conc (E.grow (V.laid b ez el (λo=>n* sz<=o&&o<n'* sz)).ab k (some ⟨b,0,none⟩,cap) n') (V.laid b ez el (λo=>n* sz<=o&&o<n'* sz)) (H.set k (.tail n' sz el))/\E.Le (E.grow (V.laid b ez el (λo=>n* sz<=o&&o<n'* sz)).ab k (some ⟨b,0,none⟩,cap) n'):=by
 have zo:E.fh k=n:=(hc.obj k _ hk).1;have hp:∀o,(λo=>decide (n* sz<=o)&&decide (o<n'* sz)) o=true->V.ab b o=none:=λo h=>hi o (by simp at h;exact h.1);have hle:=E.Sv (I:=(V.laid b ez el (λo=>n* sz<=o&&o<n'* sz)).ab) (λb o v h=>FK hp b o v (by rw[<- hc.I];exact h)) (k:=k) (some ⟨b,0,none⟩,cap) (v:=n') (by omega);have jY:bJ E k (.tail n sz fO)=some b:=by
  simp only[bJ,hrm];rw[if_neg (by omega)];rfl
 refine⟨hc.iF k (.tail n' sz el) hle rfl (by simpa[Env.grow]using hc.n) lq rfl (λj hj _=>by simp[Env.grow,hj]) (λb' y fH hy=> ?_) ?_ (λb' h=> .inl ⟨_,hk,?_⟩),hle⟩
 ·have hb:b'≠b:=λe=>by subst e;exact fH _ hk jY
  exact⟨by rw[Lm hb];exact hy,λo=>Ll hb o⟩
 ·refine⟨by simp[Env.grow],?_⟩;by_cases e:cap=n'
  ·exact .inl (by simp[Env.grow,e])
  ·have BX:n* sz<=n'* sz:=Ue _ (by omega);refine .inr ⟨b,cap,ez,by simp[Env.grow],Ln,hs,by omega,λo aY=> ?_⟩;have:¬((decide (n* sz<=o)&&decide (o<n'* sz))=true):=(by simp;omega);simp only[View.laid,View.gT];rw[if_neg (λx=>this x.2)];exact hi o (by omega)
 ·simp[bJ,Env.grow]at h;obtain⟨_,rfl⟩:=h;exact jY
end
section
variable {lv:Bool}{P:SJ}{r:Option Nat}{o:Tv}{s:AS}{next:AS->Prop}{bad:AV->AS->Prop}
def Ag (s:AS)(dst:Option Nat)(next:AS->Prop)(n m sz:Nat)(elem:TypeId)(l l':List AV):End->Prop
 |.exact=>next ((⟨s.T,s.H++[.tail (n+m) sz elem]⟩:AS).put dst (.sl (n+m) (l++l') (.opn s.H.length)))
 |.opn k=>(match s.H[k]?with
   |some (.tail n' eg fO)=>n'=n/\eg=sz/\fO=elem
   |_=>False)/\(∀a∈l',a.leaf=true)/\next ((⟨s.T,s.H.set k (.tail (n+m) sz elem)⟩:AS).put dst (.sl (n+m) (l++l') (.opn k)))
 |.shut=>m=0/\next (s.put dst (.sl n l .shut))
theorem af3{E E':Env}{n:Nat}{l:List AV}{en:End}{base:Option U2}{cap:Nat}(h:ap E (.sl n l en) (.slice base n cap))(hl:E.Le E'){e':End}(he:oW E' e' base n cap):ap E' (.sl n l e') (.slice base n cap):=by
 cases h with
 |sl b o cap f hc _ h1 h2=>exact .sl b o cap f hc he (λi hi=>hl.I _ _ _ (h1 i hi)) (λi x hx=>(h2 i x hx).mono hl)
 |nil _=>exact .nil he
theorem step_append{c:Xr}{x y:Tg}{t t' elem:TypeId}{sz n m:Nat}{z:SO}{en:End}{l l':List AV}{av:AV}(ho:o.op=.call c)(aV:c.callee=.builtin .append)(cI:c.args=#[x,y]) (dL:c.argTypes=#[t,t']) (ht:jo P t t'=some (elem,sz,z))
  (hx:s.ev x=some (.sl n l en)) (hy:s.ev y=some av) (hs:s.src sz av=some (m,l')) (hl:l.length=n* sz) (ew:l'.length=m* sz) (hb:n+m<=2^30) (hn:Ag s o.dst next n m sz elem l l' en):Step lv P r o s next bad:=by
 intro E V a N Q hc aF hd bw h1 _;refine⟨bw,?_⟩;have dj:=ap.ev aF hx;have im:=ap.ev aF hy;generalize jQ:a.eval x=vx at dj;generalize qR:a.eval y=vy at im;unfold execOp;rw[ho];dsimp only;unfold resolve;rw[aV];dsimp only;refine az (aq ?_);unfold invoke builtin;dsimp only;refine az ?_;have mZ:c.args.map a.eval=#[vx,vy]:=by rw[cI];simp[jQ,qR]
 rw[mZ,dL];obtain⟨base,cap,rfl⟩:∃base cap,vx=.slice base n cap:=by
  cases dj with
  |sl b o cap f dJ he q1 q2=>exact⟨_,_,rfl⟩
  |nil he=>exact⟨_,_,rfl⟩
 have dJ:n<=cap:=by
  cases dj with
  |sl b o cap f dJ he q1 q2=>exact dJ
  |nil he=>exact SQ _
 have fin:∀E' V' H' (mc:AV) v',E.Le E'->V'.role=V.role->V'.deaf=V.deaf->Conc E' V' H'->ap E' mc v'->next ((⟨s.T,H'⟩:AS).put o.dst mc)->aO P V' (pure (W5 v')) (l_ lv P r o a N Q) (λv V'=>Q (.panic [{v,recovered:=false}]) a V'):=λE' V' H' mc v' hle hr tL bf bi cU=>
  aq (h1 E' V' (a.put o.dst v') ((⟨s.T,H'⟩:AS).put o.dst mc) ⟨hle,dR _ _ _,put_defers _ _ _,hr,tL⟩ (by rw[eX];exact bf) (bZ.gF (s:=⟨s.T,H'⟩) (aF.mono hle) hd bi) cU)
 have sA:(l++l').length=(n+m)* sz:=by rw[S9,hl,ew,Vb]
 cases en with
 |exact=>
  have gB:cap=n:=by
   cases dj with
   |sl b o cap f dJ he q1 q2=>exact he
   |nil he=>rfl
  subst gB;have j4:=hn;simp only[Ag]at j4;by_cases hm:m=0
  ·subst hm;have sj:l'=[]:=(by simpa using ew);subst sj;refine Gv hc ht im hs ew (SQ _) ?_;obtain⟨bf,hle⟩:=hc.MP (n:=cap) sz elem base;refine fin _ V _ _ _ hle rfl rfl bf (af3 (e':=.opn s.H.length) dj hle ⟨?_,?_,?_⟩) (by simpa using j4)
   ·simp[Env.tok,hc.n]
   ·simp[Env.tok,hc.n]
   ·simp[Env.tok,hc.n]
  ·refine Gu hc ht dj im hs hl ew hb (by omega) λrr cs cap' hf bi hle aT=> ?_;obtain⟨bf,qF⟩:=hc.acy (el:=elem) hf aT hle;have tZ:(cap+m)* sz<=cs.size:=(by rw[aT];exact Ue _ hle);refine aO.ghost (yB (f:=(0,0)) (cs:=cs) (el:=elem) (p:=(·<(cap+m)* sz)) (by simp[View.upd]) (λo _=>hf.2 o)) ?_;refine fin _ _ _ _ _ qF rfl rfl bf (H7 (I:=(V.laid rr cs elem (·<(cap+m)* sz)).ab) (e:=.opn s.H.length) (sz:=sz) (cs:=cs) rfl (bi.mono qF) sA tZ (λo h=>FJ (by simpa using h)) hle ⟨?_,?_,?_⟩) j4
   ·simp[Env.tok,hc.n]
   ·simp[Env.tok,hc.n]
   ·simp[Env.tok,hc.n]
 |shut=>
  obtain⟨rfl,j4⟩:=hn;have sj:l'=[]:=by simpa using ew
  subst sj;refine Gv hc ht im hs ew dJ ?_;exact fin E V s.H _ _ (Env.Le.refl E) rfl rfl hc dj j4
 |opn k=>
  obtain⟨yZ,mY,j4⟩:=hn;split at yZ
  ·rename_i n' eg fO hk;obtain⟨rfl,rfl,rfl⟩:=yZ;have heo:oW E (.opn k) base n' cap:=by
    cases dj with
    |sl b o cap f dJ he q1 q2=>exact he
    |nil he=>exact he
   obtain⟨e1,e2,e3⟩:=heo;obtain⟨zo,Fa⟩:=hc.obj k _ hk;have zg:s.H.set k (.tail n' eg fO)=s.H:=by
    apply Yp;intro i;by_cases hi:i=k
    ·subst hi;rw[W9 (SN.1 hk).1,hk]
    ·rw[T5 (Ne.symm hi)]
   by_cases hm:m=0
   ·subst hm;have sj:l'=[]:=(by simpa using ew);subst sj;refine Gv hc ht im hs ew dJ ?_;refine fin E V s.H _ _ (Env.Le.refl E) rfl rfl hc dj ?_;rw[UJ,zg,SY]at j4;exact j4
   ·by_cases po:n'+m<=cap
    ·rcases Fa with Fa|⟨b,asm,cs,r1,r2,r3,r4,r5⟩
     ·rw[e3]at Fa;simp only at Fa;omega
     ·rw[e3]at r1;cases r1;have jY:bJ E k (.tail n' eg fO)=some b:=by
       simp only[bJ,e3];rw[if_neg (by omega)];rfl
      refine abE hc ht im hs ew po r2 (WG r3.symm) r5 (hc.iS hk jY) mY λjf kB=> ?_;have zk:jf.toList.length=m* eg:=(by have:=kB.1;simp;omega);have tS:(n'+m)* eg<=cap* eg:=Ue _ po;rw[Vb]at tS;have Fe:(storeAt cs (n'* eg) jf.toList).size=cap* eg:=(by rw[xO];exact r3);obtain⟨bf,qF⟩:=hc.aiQ hk e3 r2 r5 Fe po (by omega);refine aO.ghost (yB (f:=(0,0)) (cs:=storeAt cs (n'* eg) jf.toList) (el:=fO) (p:=λo=>n'* eg<=o&&o<(n'+m)* eg) (by simp[View.upd]) (λo h=>r5 o (by simp at h;exact h.1))) ?_;refine fin _ _ _ _ _ qF rfl rfl bf ?_ j4;cases dj with
      |nil he=>exact absurd po (by omega)
      |sl b' o' cap f Ez he q1 q2=>
       have q1':∀i,i<l.length->V.ab b i=some (f i):=λi hi=>(by have:=q1 i hi;rwa [hc.I,Wr]at this);refine .sl b 0 cap (λi=>if i<n'* eg then f i else(storeAt cs (n'* eg) jf.toList).getD i undef) (by omega) ⟨?_,?_,?_⟩ (λi hi=> ?_) (λi x hx=> ?_)
       ·exact e1
       ·simp[Env.grow]
       ·simp[Env.grow]
       ·rw[sA,Vb]at hi;show (V.laid b (storeAt cs (n'* eg) jf.toList) fO (λo=>n'* eg<=o&&o<(n'+m)* eg)).ab b (0+i)=_;rw[Wr];by_cases cu:i<n'* eg
        ·rw[if_pos cu];exact FK (λo h=>r5 o (by simp at h;exact h.1)) _ _ _ (q1' i (by omega))
        ·rw[if_neg cu,FJ (by simp[Vb];omega)];have hlt:i<(storeAt cs (n'* eg) jf.toList).size:=(by rw[Fe];omega);simp only[SI,SK hlt,S8]
       ·by_cases cu:i<n'* eg
        ·rw[SZ (by omega)]at hx;rw[if_pos cu];exact(q2 i x hx).mono qF
        ·rw[Tj (by omega)]at hx;have tO:i-l.length<l'.length:=(SN.1 hx).1;rw[if_neg cu,CS _ _ _ _ (by rw[zk,r3];omega),if_pos (by rw[zk];omega)];have:=(kB.2 _ _ hx).mono qF;rw[hl]at this;simpa[SI,SE]using this
    ·refine Gu hc ht dj im hs hl ew hb (by omega) λrr cs cap' hf bi hle aT=> ?_;obtain⟨bf,qF⟩:=hc.aiP (el:=fO) (n':=n'+m) hk hf aT hle (by omega);have tZ:(n'+m)* eg<=cs.size:=(by rw[aT];exact Ue _ hle);refine aO.ghost (yB (f:=(0,0)) (cs:=cs) (el:=fO) (p:=(·<(n'+m)* eg)) (by simp[View.upd]) (λo _=>hf.2 o)) ?_;refine fin _ _ _ _ _ qF rfl rfl bf (H7 (I:=(V.laid rr cs fO (·<(n'+m)* eg)).ab) (e:=.opn k) (sz:=eg) (cs:=cs) rfl (bi.mono qF) sA tZ (λo h=>FJ (by simpa using h)) hle ⟨?_,?_,?_⟩) j4
     ·exact e1
     ·simp[Env.grow]
     ·simp[Env.grow]
  ·exact yZ.elim
def Env.gK (E:Env)(r:Nat)(I:cm)(c:Nat):Env:={E with I:=I,n:=E.n+1,blk:=λk=>if k=E.n then r else E.blk k,room:=λk u=>if k=E.n/\u=0 then(none,c)else E.room k u}
theorem Env.Cs(E:Env)(r c:Nat){I:cm}(hI:∀b o v,E.I b o=some v->I b o=some v):E.Le (E.gK r I c):=
 ⟨hI,Y2 _,λk hk=>by simp[Env.gK,V_ hk],λ_ _=>SQ _,λk u hk _=>by simp[Env.gK,V_ hk],rfl,rfl⟩
theorem Env.wq(E:Env)(r c:Nat)(I:cm):(E.gK r I c).blk E.n=r:=by simp[Env.gK]
theorem Env.Hx(E:Env)(r c:Nat)(I:cm):(E.gK r I c).room E.n 0=(none,c):=by simp[Env.gK]
theorem Conc.gK{E:Env}{V:View}{H:List aa}(hc:Conc E V H){r c:Nat}(hf:V.fresh r){cs:Array SO}{sz:Nat}{l:List AV}{el:TypeId}(hd:jF (E.gK r V.ab c) l cs)(hs:cs.size=c* sz):Conc (E.gK r V.ab c) (V.upd r (.cells cs el)) (H++[.own sz l el]):=by
 refine hc.iF (E':=E.gK r V.ab c) H.length (.own sz l el) (E.Cs r c (λb o v h=>by rw[<- hc.I];exact h)) rfl (by simp[Env.gK,hc.n]) Ct rfl (λ_ _ _=>rfl) (λb z _ hz=>⟨?_,λ_=>rfl⟩) ?_ (λb h=> .inr ?_)
 ·have:b≠r:=λe=>by rw[e,hf.1]at hz;cases hz
  simpa[View.upd,this]using hz
 ·rw[<- hc.n];refine⟨⟨cs,by rw[Env.wq];simp[View.upd],hd,by rw[Env.Hx];exact hs⟩,λo=> ?_⟩;rw[Env.wq];exact hf.2 o
 ·rw[<- hc.n]at h;simp only[bJ,Env.wq,Tl]at h;subst h;exact hf.1
theorem H5{E:Env}{H:List aa}(hn:E.n=H.length){r c n:Nat}(I:cm)(h:n<=c){cap:Nat}(nS:n<=cap)(hc:cap<=c)(h0:0<n):ap (E.gK r I c) (.bD H.length 0 n 0) (.slice (some ⟨r,0,none⟩) n cap):=by
 have:=ap.bD (E:=E.gK r I c) (id:=H.length) (off:=0) (n:=n) (cap:=0) (cap':=cap) (by show _<E.n+1;rw[hn];omega) ⟨nS,λe=>by omega,λ_=>by rw[<- hn,Env.Hx];exact hc⟩;have e:(E.gK r I c).blk H.length=r:=by rw[<- hn];exact E.wq r c I
 rwa [e]at this
theorem Conc.relabel{E:Env}{V:View}{H:List aa}(hc:Conc E V H){id sz:Nat}{l:List AV}{el:TypeId}(hk:H[id]?=some (.own sz l el)):Conc (E.gK (E.blk id) V.ab (E.room id 0).2) V (H.set id .gone++[.own sz l el]):=by
 have hle:=E.Cs (E.blk id) (E.room id 0).2 (I:=V.ab) (λb o v h=>by rw[<- hc.I];exact h);have asD:=(SN.1 hk).1;have hlt:∀(j:Nat) y,H[j]?=some y->j<E.n:=λj y h=>by rw[hc.n];exact(SN.1 h).1
 have qC:∀(j:Nat) y,(H.set id .gone++[aa.own sz l el])[j]?=some y->(j=H.length/\y=.own sz l el)\/(j=id/\y=.gone)\/(j≠id/\H[j]?=some y):=λj y h=>by
  rcases Ct j y h with⟨h1,h2⟩|⟨_,h⟩
  ·exact .inl ⟨by simpa using h1,h2⟩
  ·rcases lq j y h with h|h
   ·exact .inr (.inl h)
   ·exact .inr (.inr h)
 have cJ:∀(j:Nat) y b,H[j]?=some y->bJ (E.gK (E.blk id) V.ab (E.room id 0).2) j y=some b->bJ E j y=some b:=λj y b h e=>by rw[<- N3 hle (hlt j y h) (hc.obj j y h)];exact e
 have vD:∀b,bJ (E.gK (E.blk id) V.ab (E.room id 0).2) H.length (.own sz l el)=some b->b=E.blk id:=λb e=>by
  simp only[bJ,<- hc.n,Env.wq,Tl]at e;exact e.symm
 have fH:∀g,(∀(k:Nat) x,H[k]?=some x->bJ E k x≠some g)->∀(k:Nat) x,(H.set id .gone++[aa.own sz l el])[k]?=some x->bJ (E.gK (E.blk id) V.ab (E.room id 0).2) k x≠some g:=λg h0 k x hx e=>by
  rcases qC k x hx with⟨rfl,rfl⟩|⟨_,rfl⟩|⟨_,hx⟩
  ·have:=vD g e;exact h0 id _ hk (by rw[this];rfl)
  ·cases e
  ·exact h0 k x hx (cJ k x g hx e)
 refine⟨rfl,by simp[Env.gK,hc.n],λj y h=> ?_,λi j y z b h1 h2 e1 e2=> ?_,λg hg=> ?_,λg hg=> ?_,λhm=>hc.top hm,λb y hf=> ?_⟩
 ·rcases qC j y h with⟨rfl,rfl⟩|⟨_,rfl⟩|⟨_,h⟩
  ·obtain⟨⟨cs,q1,q2,q3⟩,q4⟩:=hc.obj id _ hk;rw[<- hc.n];refine⟨⟨cs,by rw[Env.wq];exact q1,q2.mono hle,by rw[Env.Hx];exact q3⟩,λo=> ?_⟩;rw[Env.wq];exact q4 o
  ·trivial
  ·exact(hc.obj j y h).mono hle (hlt j y h) rfl (λ_ _ _ h=>h) (λ_ _ _=>rfl)
 ·rcases qC i y h1 with⟨rfl,rfl⟩|⟨_,rfl⟩|⟨hi,h1⟩
  ·rcases qC j z h2 with⟨rfl,rfl⟩|⟨_,rfl⟩|⟨hj,h2⟩
   ·rfl
   ·cases e2
   ·have:=vD b e1;exact absurd (hc.inj id j _ z b hk h2 (by rw[this];rfl) (cJ j z b h2 e2)).symm hj
  ·cases e1
  ·rcases qC j z h2 with⟨rfl,rfl⟩|⟨_,rfl⟩|⟨hj,h2⟩
   ·have:=vD b e2;exact absurd (hc.inj id i _ y b hk h1 (by rw[this];rfl) (cJ i y b h1 e1)).symm hi
   ·cases e2
   ·exact hc.inj i j y z b h1 h2 (cJ i y b h1 e1) (cJ j z b h2 e2)
 ·obtain⟨h0,h1,h2⟩:=hc.group g hg;exact⟨h0,h1,fH g h2⟩
 ·obtain⟨h0,h1,h2⟩:=hc.chan g hg;exact⟨h0,h1,fH g h2⟩
 ·obtain⟨h0,h1,h2⟩:=hc.fr b y hf;exact⟨h0,h1,fH b h2⟩
theorem Conc.leave{E:Env}{V:View}{H:List aa}(hc:Conc E V H)(id:Nat):Conc E V (H.set id .gone):=
 hc.iF id .gone (Env.Le.refl E) hc.I (by simpa using hc.n) lq rfl (λ_ _ _=>rfl) (λ_ _ _ hy=>⟨hy,λ_=>rfl⟩) trivial (λb h=>by cases h)
theorem af5{E:Env}{l l':List AV}{cs vs:Array SO}(h:jF E l cs)(k:cE E l' vs)(hl:l.length+l'.length<=cs.size):jF E (l++l') (storeAt cs l.length vs.toList):=by
 have hv:vs.toList.length=l'.length:=by simpa using k.1
 refine⟨by rw[xO,S9];exact hl,λi a e=> ?_⟩;rw[CS _ _ _ _ (by rw[hv];exact hl),hv];by_cases h1:i<l.length
 ·rw[if_neg (by omega)];rw[SZ h1]at e;exact h.2 i a e
 ·rw[Tj (by omega)]at e;have h2:=(SN.1 e).1;rw[if_pos ⟨by omega,by omega⟩];have:=k.2 _ a e;simpa[SI,SE]using this
theorem OF{E:Env}{l:List AV}{cs:Array SO}{k:Nat}(h:cE E l (cs.extract 0 k))(hk:l.length=k)(hs:k<=cs.size):jF E l cs:=by
 refine⟨by omega,λi a e=> ?_⟩;have hi:=(SN.1 e).1;have fE:i<cs.size:=by omega
 have:=h.2 i a e;rw[SI,Array.getElem?_extract_of_lt (by omega)]at this;rw[SI];simpa[SK fE]using this
theorem ab9{c:Xr}{x y:Tg}{t t' elem:TypeId}{sz n m:Nat}{z:SO}{l l':List AV}{av:AV}(ho:o.op=.call c)(aV:c.callee=.builtin .append)(cI:c.args=#[x,y]) (dL:c.argTypes=#[t,t']) (ht:jo P t t'=some (elem,sz,z))
  (hx:s.ev x=some (.sl n l .exact)) (hy:s.ev y=some av) (hs:s.src sz av=some (m,l')) (hl:l.length=n* sz) (ew:l'.length=m* sz) (hb:n+m<=2^30) (hm:0<m) (hn:next ((⟨s.T,s.H++[.own sz (l++l') elem]⟩:AS).put o.dst (.bD s.H.length 0 (n+m) 0))):Step lv P r o s next bad:=by
 intro E V a N Q hc aF hd bw h1 _;refine⟨bw,?_⟩;have dj:=ap.ev aF hx;have im:=ap.ev aF hy;generalize jQ:a.eval x=vx at dj;generalize qR:a.eval y=vy at im;unfold execOp;rw[ho];dsimp only;unfold resolve;rw[aV];dsimp only;refine az (aq ?_);unfold invoke builtin;dsimp only;refine az ?_;have mZ:c.args.map a.eval=#[vx,vy]:=by rw[cI];simp[jQ,qR]
 rw[mZ,dL];obtain⟨base,cap,rfl⟩:∃base cap,vx=.slice base n cap:=by
  cases dj with
  |sl b o cap f dJ he q1 q2=>exact⟨_,_,rfl⟩
  |nil he=>exact⟨_,_,rfl⟩
 have gB:cap=n:=by
  cases dj with
  |sl b o cap f dJ he q1 q2=>exact he
  |nil he=>rfl
 subst gB;refine Gu hc ht dj im hs hl ew hb (by omega) λrr cs cap' hf bi hle aT=> ?_;have sA:(l++l').length=(cap+m)* sz:=by rw[S9,hl,ew,Vb]
 have tZ:(cap+m)* sz<=cs.size:=by rw[aT];exact Ue _ hle
 have nR:E.Le (E.gK rr V.ab cap'):=E.Cs rr cap' (λb o v h=>by rw[<- hc.I];exact h);have bf:=hc.gK (el:=elem) (c:=cap') hf ((OF bi sA tZ).mono nR) aT;have oA:=H5 hc.n (r:=rr) V.ab hle (n:=cap+m) (cap:=cap') hle (SQ _) (by omega);exact aq (h1 _ _ (a.put o.dst _) _ ⟨nR,dR _ _ _,put_defers _ _ _,rfl,rfl⟩ (by rw[eX];exact bf) (bZ.gF (s:=⟨s.T,s.H++[.own sz (l++l') elem]⟩) (aF.mono nR) hd oA) hn)
theorem ab8{c:Xr}{x y:Tg}{t t' elem el:TypeId}{sz n m c0 id:Nat}{z:SO}{l l':List AV}{av:AV}(ho:o.op=.call c)(aV:c.callee=.builtin .append)(cI:c.args=#[x,y]) (dL:c.argTypes=#[t,t']) (ht:jo P t t'=some (elem,sz,z))
  (hx:s.ev x=some (.bD id 0 n c0)) (wV:c0<n) (bY:s.H[id]?=some (.own sz l el)) (hel:el=elem) (hy:s.ev y=some av) (hs:s.src sz av=some (m,l')) (hl:l.length=n* sz) (ew:l'.length=m* sz) (hb:n+m<=2^30) (mY:∀a∈l',a.leaf=true) (hn:next ((⟨s.T,s.H.set id .gone++[.own sz (l++l') elem]⟩:AS).put o.dst (.bD s.H.length 0 (n+m) 0))):Step lv P r o s next bad:=by
 subst hel;intro E V a N Q hc aF hd bw h1 _;refine⟨bw,?_⟩;have dj:=ap.ev aF hx;have im:=ap.ev aF hy;generalize jQ:a.eval x=vx at dj;generalize qR:a.eval y=vy at im;unfold execOp;rw[ho];dsimp only;unfold resolve;rw[aV];dsimp only;refine az (aq ?_);unfold invoke builtin;dsimp only;refine az ?_;have mZ:c.args.map a.eval=#[vx,vy]:=by rw[cI];simp[jQ,qR]
 rw[mZ,dL];have ajD:=dj;have sA:(l++l').length=(n+m)* sz:=by rw[S9,hl,ew,Vb]
 have dE:s.src sz (.bD id 0 n c0)=some (n,l):=by
  simp only[AS.src];rw[bY];simp only[XA];rw[<- hl,TH]
 cases dj with
 |bD hi dJ=>
  rename_i cap';obtain⟨q1,_,q3⟩:=dJ;have q3:=q3 wV;obtain⟨⟨cs,p1,p2,p3⟩,p4⟩:=hc.obj id _ bY;by_cases po:n+m<=cap'
  ·have nK:(n+m)* sz<=cap'* sz:=Ue _ po;have wT:cap'* sz<=cs.size:=(by rw[p3];exact Ue _ q3);refine abE hc ht im hs ew po p1 wT (λo _=>p4 o) (hc.iS bY rfl) mY λjf kB=> ?_;have Jt:jF E (l++l') (storeAt cs (n* sz) jf.toList):=by
    rw[<- hl];exact af5 p2 kB (by rw[<- S9,sA];omega)
   have da:=hc.abR bY Jt (by rw[xO];exact p3);have qC:(s.H.set id (.own sz (l++l') el))[id]?=some (.own sz (l++l') el):=(by rw[W9 ((SN.1 bY).1)]);have cN:=da.relabel qC;rw[W8]at cN;have nR:E.Le (E.gK (E.blk id) V.ab (E.room id 0).2):=E.Cs _ _ (λb o v h=>by rw[<- hc.I];exact h);have oA:ap (E.gK (E.blk id) V.ab (E.room id 0).2) (.bD s.H.length 0 (n+m) 0) (.slice (some ⟨E.blk id,0,none⟩) (n+m) cap'):=H5 hc.n V.ab (by omega) po q3 (by omega);exact aq (h1 _ _ (a.put o.dst _) _ ⟨nR,dR _ _ _,put_defers _ _ _,rfl,rfl⟩ (by rw[eX];exact cN) (bZ.gF (s:=⟨s.T,s.H.set id .gone++[.own sz (l++l') el]⟩) (aF.mono nR) hd oA) hn)
  ·refine abF hc ht ajD dE im hs hl ew hb (by omega) λrr ez A0 hf bi hle aT=> ?_;have tZ:(n+m)* sz<=ez.size:=(by rw[aT];exact Ue _ hle);have nR:E.Le (E.gK rr V.ab A0):=E.Cs rr A0 (λb o v h=>by rw[<- hc.I];exact h);have Ey:=hc.leave id;have bf:=Ey.gK (el:=el) (c:=A0) hf ((OF bi sA tZ).mono nR) aT;have oA:ap (E.gK rr V.ab A0) (.bD s.H.length 0 (n+m) 0) (.slice (some ⟨rr,0,none⟩) (n+m) A0):=H5 hc.n V.ab hle hle (SQ _) (by omega);exact aq (h1 _ _ (a.put o.dst _) _ ⟨nR,dR _ _ _,put_defers _ _ _,rfl,rfl⟩ (by rw[eX];exact bf) (bZ.gF (s:=⟨s.T,s.H.set id .gone++[.own sz (l++l') el]⟩) (aF.mono nR) hd oA) hn)
end
open Go.Conc
theorem bC(n:Int)(h: -9223372036854775808<=n/\n<=9223372036854775807):SF.wrap n=n:=by
 have e:SF.wrap n=if n % 18446744073709551616>=9223372036854775808 then n % 18446744073709551616-18446744073709551616 else n % 18446744073709551616:=by
  unfold Xc;simp[atb,ata]
 rw[e];split<;>omega
def cp (P:SJ){α:Type}(s:Sem α)(x:α):Prop:=∀w es,s.runT P w es=(.ok x w,es)
theorem cp.ok{P:SJ}{α:Type}{V:View}{s:Sem α}{x:α}{K:α->View->Prop}{Kp:SO->View->Prop}(h:cp P s x)(hk:K x V):aO P V s K Kp:=
 λw hw eF=>⟨#[],w,V,by simpa[ft]using cV.idle hw,.inl ⟨x,by rw[h w eF];simp,hk⟩⟩
theorem cp.bind{P:SJ}{α β:Type}{V:View}{s:Sem α}{x:α}{f:α->Sem β}{K:β->View->Prop}{Kp:SO->View->Prop}(h:cp P s x)(hk:aO P V (f x) K Kp):aO P V (s>>=f) K Kp:=
 az (h.ok hk)
def AV.uM:AV->Option Int
 |.val (.int _ n)=>some n
 |_=>none
theorem ap.uM{E:Env}{a:AV}{v:SO}{n:Int}(hd:ap E a v)(h:a.uM=some n):∃k,v=.int k n:=by
 cases hd with
 |val x=>unfold AV.uM at h;split at h<;>simp_all
 |_=>cases h
def AS.iI (s:AS):Option Tg->Option (Option Int)
 |none=>some none
 |some x=>match s.ev x with
  |some a=>a.uM.map some
  |none=>none
theorem yf{E:Env}{s:AS}{a:Act}(k:bZ E s.T a.tmps){x:Option Tg}{i:Option Int}(h:s.iI x=some i):(i=none/\x.map a.eval=none)\/∃n kd,i=some n/\x.map a.eval=some (.int kd n):=by
 cases x with
 |none=>cases h;exact .inl ⟨rfl,rfl⟩
 |some x=>
  simp only[AS.iI]at h;split at h
  ·rename_i av hav;obtain⟨n,hn,rfl⟩:=kx h;obtain⟨kd,hv⟩:=(ap.ev k hav).uM hn;exact .inr ⟨n,kd,rfl,by simp[hv]⟩
  ·cases h
section
variable {P:SJ}{V:View}{Kp:SO->View->Prop}
theorem zW{kd:TV}{n:Int}{y:Nat}{code:BoundsCode}{K:Nat->View->Prop}(h0:0<=n)(h1:n<=y)(h:K n.toNat V):aO P V (Zn (.int kd n) y code) K Kp:=by
 unfold Zn asIntOf;refine az (aq ?_);dsimp only;rw[if_pos ⟨h0,h1⟩];exact aq h
theorem My{E:Env}{s:AS}{a:Act}(k:bZ E s.T a.tmps){isS:Bool}{len cap:Nat}{lo hi mx:Option Tg}{l h m:Option Int}(hl:s.iI lo=some l)(hh:s.iI hi=some h)(hm:s.iI mx=some m){K:Nat×Nat×Nat->View->Prop}
  (hlc:len<=cap) (c0:0<=l.getD 0) (c1:l.getD 0<=h.getD len) (c2:h.getD len<=m.getD cap) (c3:m.getD cap<=cap) (c4:m.isSome=true->h.isSome=true) (hK:K ((l.getD 0).toNat,(h.getD len).toNat,(m.getD cap).toNat) V):
  aO P V (Zc isS len cap (lo.map a.eval) (hi.map a.eval) (mx.map a.eval)) K Kp:=by
 unfold Zc;rcases yf k hm with⟨rfl,em⟩|⟨vm,km,rfl,em⟩
 ·rw[em];refine az (aq ?_);rcases yf k hh with⟨rfl,eh⟩|⟨vh,kh,rfl,eh⟩
  ·rw[eh];refine az (aq ?_);rcases yf k hl with⟨rfl,el⟩|⟨vl,kl,rfl,el⟩
   ·rw[el];exact az (aq (aq (by simpa using hK)))
   ·rw[el];simp only[S8,Vm]at c0 c1 c2;exact az (zW c0 c1 (aq (by simpa using hK)))
  ·rw[eh];simp only[S8,Vm]at c0 c1 c2 c3;refine az (zW (by omega) c2 ?_);rcases yf k hl with⟨rfl,el⟩|⟨vl,kl,rfl,el⟩
   ·rw[el];exact az (aq (aq (by simpa using hK)))
   ·rw[el];simp only[S8,Vm]at c0 c1 c2;exact az (zW c0 (by omega) (aq (by simpa using hK)))
 ·rw[em];simp only[S8,Option.isSome_some,true_implies]at c2 c3 c4;rcases yf k hh with⟨rfl,eh⟩|⟨vh,kh,rfl,eh⟩
  ·cases c4
  ·rw[eh];simp only[S8]at c1 c2 c0;refine az (zW (by omega) c3 ?_);refine az (zW (by omega) (by omega) ?_);rcases yf k hl with⟨rfl,el⟩|⟨vl,kl,rfl,el⟩
   ·rw[el];exact az (aq (aq (by simpa using hK)))
   ·rw[el];simp only[S8]at c0 c1;exact az (zW c0 (by omega) (aq (by simpa using hK)))
end
def wi (n:Nat)(l:List AV)(e:End)(sz:Nat)(lo hi mx:Option Int)(k:AV->Prop):Prop:=
 l.length=n* sz/\0<=lo.getD 0/\lo.getD 0<=hi.getD n/\hi.getD n<=mx.getD n/\mx.getD n<=n/\(mx.isSome=true->hi.isSome=true)/\
 k (.sl ((hi.getD n).toNat-(lo.getD 0).toNat) ((l.drop ((lo.getD 0).toNat* sz)).take (((hi.getD n).toNat-(lo.getD 0).toNat)* sz))
  (if mx.isSome&&mx.getD n==hi.getD n then .exact else if lo.getD 0==0&&hi.getD n==n&&mx.isNone then e else .shut))
def jU (P:SJ)(t:TypeId):Option (TypeId×Nat):=match P.underlying t with
 |some (.slice e)=>(P.info? e).map λi=>(e,i.size)
 |_=>none
def uE (P:SJ)(t:TypeId):Option (Nat×Nat):=match P.underlying t with
 |some (.array n e)=>(P.info? e).map λi=>(n,i.size)
 |_=>none
open Go.Conc
section
variable {lv:Bool}{P:SJ}{r:Option Nat}{o:Tv}{s:AS}{next:AS->Prop}{bad:AV->AS->Prop}
theorem aos{t e:TypeId}{x:Tg}{lo hi mx:Option Tg}{l h m:Option Int}{n sz:Nat}{li:List AV}{en:End}(ho:o.op=.slice t x lo hi mx)(ht:jU P t=some (e,sz))(hx:s.ev x=some (.sl n li en))(hl:s.iI lo=some l)(hh:s.iI hi=some h)(hm:s.iI mx=some m)
  {k:AV->Prop} (hc:wi n li en sz l h m k):∃av,dq lv P r o s av/\k av:=by
 obtain⟨hlen,c0,c1,c2,c3,c4,hk⟩:=hc;refine⟨_,iC (λE V a hc aF=> ?_),hk⟩;have hd:=ap.ev aF hx;generalize hv:a.eval x=v at hd;unfold jU at ht;split at ht
 ·rename_i e' hu;obtain⟨i,cu,ht⟩:=kx ht;cases ht;unfold execOp;rw[ho];simp only[hv];refine az ?_;unfold Yl;refine dW hu ?_;dsimp only;unfold ZZ;refine dW hu ?_;obtain⟨base,cap,rfl⟩:∃base cap,v=.slice base n cap:=by
   cases hd with
   |sl b o cap f dJ he q1 q2=>exact⟨_,_,rfl⟩
   |nil he=>exact⟨_,_,rfl⟩
  have dJ:n<=cap:=by
   cases hd with
   |sl b o cap f dJ he q1 q2=>exact dJ
   |nil he=>exact SQ _
  dsimp only;have hmm:m.getD (cap:Int)=if m.isSome then m.getD n else cap:=by cases m<;>simp
  refine az (My aF hl hh hm dJ c0 c1 ?_ ?_ c4 ?_)
  ·cases m with
   |none=>simp only[Vm]at c2⊢;omega
   |some m=>simpa using c2
  ·cases m with
   |none=>simp
   |some m=>simp only[S8]at c3⊢;omega
  refine jD cu ?_;refine aq (aq ⟨rfl,_,rfl,?_⟩);generalize hA:(l.getD 0).toNat=A;generalize hB:(h.getD (n:Int)).toNat=B;have PO:A<=B:=by omega
  have hBn:B<=n:=by omega
  generalize hM:(m.getD (cap:Int)).toNat=M;have hBM:B<=M:=by
   cases m with
   |none=>simp only[Vm]at hM;omega
   |some m=>simp only[S8]at hM c2;omega
  cases hd with
  |nil he=>
   have Eh:A=0:=(by omega);have hB0:B=0:=(by omega);have hM0:M=0:=by
    cases m with
    |none=>simp only[Vm]at hM;omega
    |some m=>simp only[S8]at hM c3;omega
   rw[Eh,hB0,hM0];simp only[if_true,ZY,Z2,ak'];refine .nil ?_;split
   ·rfl
   ·split
    ·exact he
    ·trivial
  |sl b o cap f dJ he q1 q2=>
   have Bs:(if M=A then some (⟨b,o,none⟩:U2)else(some (⟨b,o,none⟩:U2)).map λx=>x.add (A* i.size))=some ⟨b,if M=A then o else o+A* i.size,none⟩:=by
    split
    ·rfl
    ·simp only[UM,add_plain]
   rw[Bs];have hb:(B-A)* i.size+A* i.size<=n* i.size:=(by rw[<- Vb];exact Ue _ (by omega));refine .sl b _ (M-A) (λj=>f (A* i.size+j)) (by omega) ?_ (λj hj=> ?_) (λj y hj=> ?_)
   ·split
    ·rename_i hx;simp only[Th,beq_iff_eq]at hx;cases m with
     |none=>simp at hx
     |some m=>
      simp only[S8]at hM hx;show M-A=B-A;omega
    ·split
     ·rename_i hx;simp only[Th,beq_iff_eq]at hx;obtain⟨⟨x1,x2⟩,x3⟩:=hx;have:A=0:=(by omega);have:B=n:=(by omega);cases m with
      |some m=>cases x3
      |none=>
       simp only[Vm]at hM;have hMc:M=cap:=(by omega);subst hMc;have e1:M-A=M:=(by omega);have e2:B-A=n:=(by omega);have e3:(if M=A then o else o+A* i.size)=o:=(by split<;>simp_all);rw[e1,e2,e3];exact he
     ·trivial
   ·simp only[TR,Uh]at hj;have hMA:M≠A:=by
     intro e;have:B-A=0:=(by omega);rw[this]at hj;omega
    rw[if_neg hMA,WV];exact q1 _ (by omega)
   ·rw[Uc]at hj;split at hj
    ·rw[Um]at hj;exact q2 _ _ hj
    ·cases hj
 ·cases ht
def rG (id off n cap sz:Nat)(lo hi mx:Option Int)(k:AV->Prop):Prop:=
 n<=cap/\0<=lo.getD 0/\lo.getD 0<=hi.getD n/\hi.getD n<=mx.getD cap/\mx.getD cap<=cap/\(mx.isSome=true->hi.isSome=true)/\(lo.getD 0=0\/lo.getD 0<mx.getD cap)/\
 k (.bD id (off+(lo.getD 0).toNat* sz) ((hi.getD n).toNat-(lo.getD 0).toNat) ((mx.getD cap).toNat-(lo.getD 0).toNat))
theorem aou{t e:TypeId}{x:Tg}{lo hi mx:Option Tg}{l h m:Option Int}{id off n cap sz:Nat}(ho:o.op=.slice t x lo hi mx)(ht:jU P t=some (e,sz))(hx:s.ev x=some (.bD id off n cap))(hl:s.iI lo=some l)(hh:s.iI hi=some h)(hm:s.iI mx=some m)
  {k:AV->Prop} (hc:rG id off n cap sz l h m k):∃av,dq lv P r o s av/\k av:=by
 obtain⟨hlen,c0,c1,c2,c3,c4,c5,hk⟩:=hc;refine⟨_,iC (λE V a hc aF=> ?_),hk⟩;have hd:=ap.ev aF hx;generalize hv:a.eval x=v at hd;unfold jU at ht;split at ht
 ·rename_i e' hu;obtain⟨i,cu,ht⟩:=kx ht;cases ht;unfold execOp;rw[ho];simp only[hv];refine az ?_;unfold Yl;refine dW hu ?_;dsimp only;unfold ZZ;refine dW hu ?_;cases hd with
  |bD bY dJ=>
   rename_i cap';obtain rfl:cap=cap':=dJ.2.1 hlen;dsimp only;refine az (My aF hl hh hm hlen c0 c1 c2 c3 c4 ?_);refine jD cu ?_;refine aq (aq ⟨rfl,_,rfl,?_⟩);have Bs:(if(m.getD (cap:Int)).toNat=(l.getD 0).toNat then some (⟨E.blk id,off,none⟩:U2)else(some (⟨E.blk id,off,none⟩:U2)).map λx=>x.add ((l.getD 0).toNat* i.size))=some ⟨E.blk id,off+(l.getD 0).toNat* i.size,none⟩:=by
    split
    ·have:(l.getD 0).toNat=0:=(by omega);rw[this];simp
    ·simp only[UM,add_plain]
   rw[Bs];exact .bD bY ⟨by dsimp only;omega,λ_=>rfl,λh=>absurd h (by omega)⟩
 ·cases ht
theorem aot{t:TypeId}{x:Tg}{lo hi mx:Option Tg}{l h m:Option Int}{id off n sz:Nat}(ho:o.op=.slice t x lo hi mx)(ht:uE P t=some (n,sz))(hx:s.ev x=some (.op id off))(hl:s.iI lo=some l)(hh:s.iI hi=some h)(hm:s.iI mx=some m)
  {k:AV->Prop} (hc:rG id off n n sz l h m k):∃av,dq lv P r o s av/\k av:=by
 obtain⟨hlen,c0,c1,c2,c3,c4,c5,hk⟩:=hc;refine⟨_,iC (λE V a hc aF=> ?_),hk⟩;have hd:=ap.ev aF hx;generalize hv:a.eval x=v at hd;unfold uE at ht;split at ht
 ·rename_i m' e' hu;obtain⟨i,cu,ht⟩:=kx ht;cases ht;unfold execOp;rw[ho];simp only[hv];refine az ?_;unfold Yl;refine dW hu ?_;cases hd with
  |op bY=>
   dsimp only;unfold U_;refine az (aq ?_);refine az (My aF hl hh hm hlen c0 c1 c2 c3 c4 ?_);refine jD cu ?_;refine aq (aq ⟨rfl,_,rfl,?_⟩);have Bs:(if(m.getD (n:Int)).toNat=(l.getD 0).toNat then(⟨E.blk id,off,none⟩:U2)else(⟨E.blk id,off,none⟩:U2).add ((l.getD 0).toNat* i.size))=⟨E.blk id,off+(l.getD 0).toNat* i.size,none⟩:=by
    split
    ·have:(l.getD 0).toNat=0:=(by omega);rw[this];simp
    ·rw[add_plain]
   rw[Bs];exact .bD bY ⟨by dsimp only;omega,λ_=>rfl,λh=>absurd h (by omega)⟩
 ·cases ht
theorem ap9{c:Xr}{x y:Tg}{t t' e:TypeId}{id off n cap sz m:Nat}{l l':List AV}{el:TypeId}{av:AV}(ho:o.op=.call c)(aV:c.callee=.builtin .copy)(cI:c.args=#[x,y]) (dL:c.argTypes=#[t,t']) (ht:jU P t=some (e,sz)) (hx:s.ev x=some (.bD id off n cap))
  (hk:s.H[id]?=some (.cells l el)) (hy:s.ev y=some av) (hs:s.src sz av=some (m,l')) (ew:l'.length=m* sz) (hl:off+min m n* sz<=l.length) (mY:∀a∈l',a.leaf=true)
  (hn:next ((⟨s.T,s.H.set id (.cells (h_ l off (l'.take (min m n* sz))) el)⟩:AS).put o.dst (.val (.int .i64 (min m n:Nat))))):Step lv P r o s next bad:=by
 intro E V a N Q hc aF hd bw h1 _;refine⟨bw,?_⟩;have dj:=ap.ev aF hx;have im:=ap.ev aF hy;generalize jQ:a.eval x=vx at dj;generalize qR:a.eval y=vy at im;unfold execOp;rw[ho];dsimp only;unfold resolve;rw[aV];dsimp only;refine az (aq ?_);unfold invoke builtin;dsimp only;refine az ?_;have mZ:c.args.map a.eval=#[vx,vy]:=by rw[cI];simp[jQ,qR]
 rw[mZ,dL];unfold jU at ht;split at ht
 ·rename_i e' hu;obtain⟨i,cu,ht⟩:=kx ht;cases ht;cases dj with
  |bD bY _=>
   obtain⟨⟨cs,p1,p2⟩,p3⟩:=hc.obj id _ hk;obtain⟨g1,g2⟩:=hc.iS hk rfl;unfold atq;simp only[Ve,Vp,UH];refine dW hu ?_;dsimp only;rw[GB im hs];refine az (aq ?_);refine jD cu ?_;refine az (CM hc im hs ew (ZH _ _) λjf kB=> ?_);have h2:(l'.take (min m n* i.size)).length=min m n* i.size:=by
    have:min m n* i.size<=m* i.size:=Ue _ (ZH _ _);simp;omega
   refine az (zX _ 0 V cs g1 g2 p1 (λo _ _=>p3 o) (by
    have hq:jf.size=min m n* i.size:=(by(rw[kB.1];exact h2));have:=p2.1;simp only[Array.length_toList];omega) (A4 kB (λa ha=>mY a (Ws ha))) ?_)
   rw[UJ];refine aq (aq (h1 E _ (a.put o.dst _) _ ⟨Env.Le.refl E,dR _ _ _,put_defers _ _ _,rfl,rfl⟩ (by rw[eX];exact hc.set hk (H9 p2 kB (by rw[h2];exact hl)))
    (bZ.gF (s:=⟨s.T,s.H.set id (.cells (h_ l off (l'.take (min m n* i.size))) el)⟩) aF hd (.val _)) hn))
 ·cases ht
def Aq (P:SJ)(t:TypeId):Option (TypeId×Nat×SO):=match P.underlying t with
 |some (.slice e)=>(P.info? e).bind λi=>i.zero.bind λz=>if z.cells.size=i.size/\i.bytes<=2^16 then some (e,i.size,z)else none
 |_=>none
theorem ace{t e:TypeId}{x y:Tg}{n sz:Nat}{z:SO}{k k':TV}(ho:o.op=.makeSlice t x y)(ht:Aq P t=some (e,sz,z))(hx:s.ev x=some (.val (.int k n)))(hy:s.ev y=some (.val (.int k' n)))(hb:n<=2^30)
  (hn:next ((⟨s.T,s.H++[.cells (gr z (n* sz)) e]⟩:AS).put o.dst (.bD s.H.length 0 n n))):Step lv P r o s next bad:=by
 intro E V a N Q hc aF hd bw h1 _;refine⟨bw,?_⟩;have dj:=ap.ev aF hx;have im:=ap.ev aF hy;generalize jQ:a.eval x=vx at dj;generalize qR:a.eval y=vy at im;cases dj;cases im;unfold Aq at ht;split at ht
 ·rename_i e' hu;obtain⟨i,q1,ht⟩:=Td.1 ht;obtain⟨z',q2,ht⟩:=Td.1 ht;split at ht
  ·rename_i wX;cases ht;unfold execOp;rw[ho];simp only[jQ,qR];refine az ?_;unfold Instr.makeSlice;refine dW hu ?_;dsimp only;refine az (aq ?_);refine az (aq ?_);refine xM q1 ?_;have hw:SF.wrap (n:Int)=n:=bC _ (by omega);rw[hw];have hmul:i.bytes* n<=2^16* 2^30:=ZN wX.2 hb;have asH:(i.bytes:Int)* n<=2^46:=(by exact_mod_cast hmul);rw[if_neg (by simp;omega)];refine az (abG ?_);refine jD q1 ?_;rw[Vw];have fin:∀(zero:Array SO),(∀j,j<n* i.size->zero[j % zero.size]! =z.cells[j % z.cells.size]!)->aO P V (do let a<- newRow e ((WK (n* i.size)).map (zero[· % zero.size]!));pure (Us (some a) n n)) (λx V'=>aO P V' (pure (W5 x)) (l_ lv P r o a N Q) (λv V'=>Q (.panic [{v,recovered:=false}]) a V')) (λv V'=>Q (.panic [{v,recovered:=false}]) a V'):=by
    intro zero hz;unfold newRow;refine az (az (nY λrr hf=>cD (aq (aq (aq ?_)))));have hle:E.Le (E.add rr V.ab):=E.pK rr (λb o v h=>by rw[<- hc.I];exact h);have ajg:(WK (n* i.size)).map (zero[· % zero.size]!)=(WK (n* i.size)).map (λx=>z.cells[x % z.cells.size]!):=by
     apply Vz;simp only[VJ];apply Vx;intro j hj;exact hz j (by simpa using hj)
    rw[ajg];have bf:Conc (E.add rr V.ab) (V.upd rr (.cells ((WK (n* i.size)).map (λx=>z.cells[x % z.cells.size]!)) e)) (s.H++[.cells (gr z (n* i.size)) e]):=by
     refine hc.add hf _ ⟨⟨_,?_,H_ z _⟩,λo=> ?_⟩ (λb e=> ?_)
     ·rw[Env.dB];simp[View.upd]
     ·rw[Env.dB];exact hf.2 o
     ·simp only[bJ,Env.dB,Tl]at e;exact e.symm
    have bi:ap (E.add rr V.ab) (.bD s.H.length 0 n n) (.slice (some ⟨rr,0,none⟩) n n):=by
     have:=ap.bD (E:=E.add rr V.ab) (id:=s.H.length) (off:=0) (n:=n) (cap:=n) (cap':=n) (by show _<E.n+1;rw[hc.n];omega) ⟨SQ _,λ_=>rfl,λh=>absurd h (Nat.lt_irrefl _)⟩;have e:(E.add rr V.ab).blk s.H.length=rr:=(by rw[<- hc.n];exact E.dB rr _);rwa [e]at this
    exact h1 _ _ (a.put o.dst _) ((⟨s.T,s.H++[.cells (gr z (n* i.size)) e]⟩:AS).put o.dst (.bD s.H.length 0 n n)) ⟨hle,dR _ _ _,put_defers _ _ _,rfl,rfl⟩ (by rw[eX];exact bf)
     (bZ.gF (s:=⟨s.T,s.H++[.cells (gr z (n* i.size)) e]⟩) (aF.mono hle) hd bi) hn
   by_cases h0:n* i.size=0
   ·rw[if_pos h0];refine az (aq ?_);exact fin #[] (λj hj=>by omega)
   ·rw[if_neg h0];refine az (az ?_);unfold typeInfo;refine az (pP (cD ?_));rw[q1];refine aq ?_;rw[q2];refine aq (az (aq ?_));exact fin z.cells (λj _=>rfl)
  ·cases ht
 ·cases ht
def AV.zJ:AV->Option SO
 |.val x=>some x
 |_=>none
def AV.raw:AV->Option SO
 |.val x=>some x
 |.agg l=>(l.mapM AV.zJ).map λvs=> .agg vs.toArray
 |_=>none
theorem ap.zJ{E:Env}{a:AV}{v x:SO}(h:ap E a v)(hr:a.zJ=some x):v=x:=by
 cases h<;>cases hr;rfl
theorem ap.raw{E:Env}{a:AV}{v x:SO}(h:ap E a v)(hr:a.raw=some x):v=x:=by
 cases h with
 |val=>cases hr;rfl
 |agg hs h=>
  obtain⟨vs,h1,rfl⟩:=kx hr;congr 1;rename_i l cs;have key:∀(l:List AV)(vs:List SO)(cs:List SO),l.mapM AV.zJ=some vs->cs.length=l.length->(∀(i:Nat) a,l[i]?=some a->ap E a (cs.getD i undef))->cs=vs:=by
   intro l;induction l with
   |nil=>intro vs cs h1 h2 _;simp at h1;subst h1;simpa using h2
   |cons a l ih=>
    intro vs cs h1 h2 h3;simp only[T_,Ug,TP,Td,Tl]at h1;obtain⟨b,e1,bs,e2,rfl⟩:=h1;cases cs with
    |nil=>simp at h2
    |cons c cs=>
     have hc:=(h3 0 a rfl).zJ e1;have:=ih bs cs e2 (by simpa using h2) (λi x hx=>by simpa using h3 (i+1) x (by simpa using hx));subst this;simp only[Xq]at hc;rw[hc]
  have:=key l vs cs.toList h1 (by simpa using hs) (λi a e=>by have:=h i a e;rw[SI]at this;simpa[SE]using this);rw[<- this]
 |_=>cases hr
def wE:SO->SO->Bool
 |.agg _,.agg _=>true
 |.bool _,.bool _=>true
 |_,_=>false
theorem an5{op:VZ}{xt yt:TypeId}{x y:Tg}{a b:AV}{X Y:SO}{e:Bool}(ho:o.op=.binOp op xt x y yt)(au:op=.eql\/op=.neq)(hx:s.ev x=some a)(hy:s.ev y=some b)(hX:a.raw=some X)(hY:b.raw=some Y)(hk:wE X Y=true)(hg:P.eqGuardType P.depth xt=false)(he:cp P (Xh xt X Y) e):
  dq lv P r o s (.val (.bool (if op== .neq then !e else e))):=
 iC (λE V ac hc aF=>by
  have e1:=(ap.ev aF hx).raw hX;have e2:=(ap.ev aF hy).raw hY;unfold execOp;rw[ho];simp only[e1,e2];refine az ?_;have guard:∀{K:Unit->View->Prop},K () V->aO P V (eqGuard op xt x y X Y) K (λ_ _=>False):=λhK=>by
   unfold eqGuard;unfold wE at hk;split at hk
   ·rcases au with rfl|rfl
    all_goals
     simp only[ak_,TN,if_false];refine az (pP (cD ?_));refine az (pP (cD ?_));rw[hg];exact aq hK
   ·rcases au with rfl|rfl<;>exact aq hK
   ·cases hk
  refine az (guard ?_);unfold wE at hk;split at hk
  ·rcases au with rfl|rfl<;>(unfold binOp;refine he.bind (aq (aq ⟨rfl,_,rfl,?_⟩));exact .val _)
  ·rcases au with rfl|rfl<;>(unfold binOp;refine he.bind (aq (aq ⟨rfl,_,rfl,?_⟩));exact .val _)
  ·cases hk)
theorem agC{t:TypeId}{v:SO}{b:Bool}{V:View}{K:Bool->View->Prop}{Kp:SO->View->Prop}(ht:lS P t=some true)(hv:(v=.nilIface/\b=true)\/((∃u x,v=.iface u x)/\b=false))(hk:K b V):aO P V (Xh t v .nilIface) K Kp:=by
 obtain⟨el,hu⟩:∃el,P.underlying t=some (.interface el):=by
  unfold lS at ht;cases h:P.underlying t with
  |none=>rw[h]at ht;cases ht
  |some d=>
   rw[h]at ht;cases d<;>first|exact⟨_,rfl⟩|(simp at ht)
 have e:Xh t v .nilIface=U8 (9999+1) t v .nilIface:=rfl;rw[e,U8];refine dW hu ?_;rcases hv with⟨rfl,rfl⟩|⟨⟨u,x,rfl⟩,rfl⟩
 ·exact aq hk
 ·exact aq hk
theorem abh{op:VZ}{xt yt:TypeId}{x:Tg}{a:AV}{b:Bool}(ho:o.op=.binOp op xt x (.const .nilIface) yt)(au:op=.eql\/op=.neq)(hx:s.ev x=some a)(ha:(a=.val .nilIface/\b=true)\/((∃u y,a=.cS u y)/\b=false))(ht:lS P xt=some true):
  dq lv P r o s (.val (.bool (if op== .neq then !b else b))):=
 iC (λE V ac hc aF=>by
  have hd:=ap.ev aF hx;generalize jQ:ac.eval x=vx at hd;have hv:(vx=.nilIface/\b=true)\/((∃u y,vx=.iface u y)/\b=false):=by
   rcases ha with⟨rfl,rfl⟩|⟨⟨u,y,rfl⟩,rfl⟩
   ·cases hd;exact .inl ⟨rfl,rfl⟩
   ·cases hd;exact .inr ⟨⟨_,_,rfl⟩,rfl⟩
  have hy:ac.eval (.const .nilIface)=.nilIface:=rfl;unfold execOp;rw[ho];simp only[jQ,hy];refine az ?_;have guard:∀{K:Unit->View->Prop},K () V->aO P V (eqGuard op xt x (.const .nilIface) vx .nilIface) K (λ_ _=>False):=λhK=>by
   unfold eqGuard;rcases hv with⟨rfl,_⟩|⟨⟨u,y,rfl⟩,_⟩<;>rcases au with rfl|rfl<;>first|exact aq hK|(simp;exact aq hK)
  refine az (guard ?_);rcases hv with⟨rfl,rfl⟩|⟨⟨u,y,rfl⟩,rfl⟩<;>rcases au with rfl|rfl<;>(unfold binOp;refine az (agC (b:=_) ht (by first|exact .inl ⟨rfl,rfl⟩|exact .inr ⟨⟨_,_,rfl⟩,rfl⟩) (aq (aq ⟨rfl,_,rfl,?_⟩)));exact .val _))
theorem OW{t:TypeId}{d:TypeId×Nat}{b:Option U2}{n cap:Nat}{V:View}{K:Bool->View->Prop}{Kp:SO->View->Prop}(ht:jU P t=some d)(hk:K b.isNone V):aO P V (Xh t (.slice b n cap) (.slice none 0 0)) K Kp:=by
 obtain⟨el,hu⟩:∃el,P.underlying t=some (.slice el):=by
  unfold jU at ht;split at ht
  ·rename_i e he;exact⟨e,he⟩
  ·cases ht
 have e:Xh t (.slice b n cap) (.slice none 0 0)=U8 (9999+1) t (.slice b n cap) (.slice none 0 0):=rfl;rw[e,U8];refine dW hu ?_;cases b with
 |none=>exact aq hk
 |some a=>exact aq hk
theorem aqg{op:VZ}{t yt:TypeId}{x:Tg}{n:Nat}{av:AV}{d:TypeId×Nat}(ho:o.op=.binOp op t x (.const (.slice none 0 0)) yt)(au:op=.eql\/op=.neq)(hx:s.ev x=some av)(hlen:av.len=some n)(ht:jU P t=some d)
  (hn:∀b:Bool,(0<n->b=false)->next (s.put o.dst (.val (.bool (if op== .neq then !b else b))))):Step lv P r o s next bad:=by
 intro E V a N Q hc aF hd bw h1 _;refine⟨bw,?_⟩;have dj:=ap.ev aF hx;generalize jQ:a.eval x=vx at dj;obtain⟨base,cap,rfl,hb⟩:∃base cap,vx=.slice base n cap/\(0<n->base.isNone=false):=by
  cases dj with
  |sl b o cap f dJ he q1 q2=>cases hlen;exact⟨_,_,rfl,λ_=>rfl⟩
  |nil he=>cases hlen;exact⟨_,_,rfl,λh=>absurd h (by omega)⟩
  |bD hi=>cases hlen;exact⟨_,_,rfl,λ_=>rfl⟩
  |_=>cases hlen
 unfold execOp;rw[ho];have hy:a.eval (.const (.slice none 0 0))=.slice none 0 0:=rfl;simp only[jQ,hy];have fin:aO P V (pure (W5 (.bool (if op== .neq then !base.isNone else base.isNone)))) (l_ lv P r o a N Q) (λv V'=>Q (.panic [{v,recovered:=false}]) a V'):=
  aq (h1 E V (a.put o.dst _) _ ⟨Env.Le.refl E,dR _ _ _,put_defers _ _ _,rfl,rfl⟩ (by rw[eX];exact hc) (aF.gF hd (.val _)) (hn _ hb))
 rcases au with rfl|rfl
 ·refine az (az (aq ?_));unfold binOp;exact az (OW ht (aq fin))
 ·refine az (az (aq ?_));unfold binOp;exact az (OW ht (aq fin))
theorem aok{c:Xr}{x y:Tg}{k j:TV}{m n:Int}(ho:o.op=.call c)(aV:c.callee=.builtin .max)(cI:c.args=#[x,y]) (hx:s.ev x=some (.val (.int k m))) (hy:s.ev y=some (.val (.int j n))):dq lv P r o s (.val (.int k (if n>m then n else m))):=
 rf (λE V a hc aF=>by
  have h1:=ap.ev aF hx;have h2:=ap.ev aF hy;generalize oL:a.eval x=v1 at h1;generalize sB:a.eval y=v2 at h2;cases h1;cases h2;refine⟨_,?_,.val _⟩;unfold execOp;rw[ho];dsimp only;unfold resolve;rw[aV];have mZ:c.args.map a.eval=#[.int k m,.int j n]:=by rw[cI];simp[oL,sB]
  rw[mZ];rfl)
theorem aol{c:Xr}{x y:Tg}{k j:TV}{m n:Int}(ho:o.op=.call c)(aV:c.callee=.builtin .min)(cI:c.args=#[x,y]) (hx:s.ev x=some (.val (.int k m))) (hy:s.ev y=some (.val (.int j n))):dq lv P r o s (.val (.int k (if n<m then n else m))):=
 rf (λE V a hc aF=>by
  have h1:=ap.ev aF hx;have h2:=ap.ev aF hy;generalize oL:a.eval x=v1 at h1;generalize sB:a.eval y=v2 at h2;cases h1;cases h2;refine⟨_,?_,.val _⟩;unfold execOp;rw[ho];dsimp only;unfold resolve;rw[aV];have mZ:c.args.map a.eval=#[.int k m,.int j n]:=by rw[cI];simp[oL,sB]
  rw[mZ];rfl)
theorem abg{x:Tg}{xt aD t:TypeId}{ok:Bool}{av:AV}{z:SO}(ho:o.op=.typeAssert x xt aD ok)(ht:lS P aD=some false)(hz:ey P aD=some z)(hx:s.ev x=some (.cS t av))(ay:ok=true\/t=aD):
  dq lv P r o s (if t=aD then(if ok then .aJ [av,.val (.bool true)]else av)else .aJ [AV.of z,.val (.bool false)]):=
 iC (λE V a hc aF=>by
  have hd:=ap.ev aF hx;generalize hv:a.eval x=v at hd;cases hd with
  |cS hd=>
   obtain⟨d,hu,iM⟩:=kx ht;unfold execOp;rw[ho];simp only[hv];refine az ?_;unfold Zm;refine dW hu ?_;split
   ·rename_i h;cases iM
   ·rename_i h;cases iM
   ·rename_i h;cases h
   ·rename_i t' v' h;cases h;by_cases e:t=aD
    ·rw[if_pos e,if_pos e];cases ok
     ·exact aq (aq ⟨rfl,_,rfl,hd⟩)
     ·refine aq (aq ⟨rfl,_,rfl,.aJ rfl λi b hb=> ?_⟩)
      match i,hb with
      |0,hb=>cases hb;exact hd
      |1,hb=>cases hb;exact .val _
    ·rw[if_neg e,if_neg e];have oI:ok=true:=ay.resolve_right e;subst oI;simp only[if_true];refine az (az ?_);unfold ey at hz;obtain⟨inf,z1,z2⟩:=Td.1 hz;unfold typeInfo;refine az (pP (cD ?_));rw[z1];refine aq ?_;rw[z2];refine aq (aq (aq ⟨rfl,_,rfl,.aJ rfl λi b hb=> ?_⟩))
     match i,hb with
     |0,hb=>cases hb;exact rS E z
     |1,hb=>cases hb;exact .val _
   ·exfalso;simp_all)
theorem anZ{x:Tg}{xt aD:TypeId}{z:SO}(ho:o.op=.typeAssert x xt aD true)(ht:lS P aD=some false)(hz:ey P aD=some z)(hx:s.ev x=some (.val .nilIface)):dq lv P r o s (.aJ [AV.of z,.val (.bool false)]):=
 iC (λE V a hc aF=>by
  have hd:=ap.ev aF hx;generalize hv:a.eval x=v at hd;cases hd;obtain⟨d,hu,iM⟩:=kx ht;unfold execOp;rw[ho];simp only[hv];refine az ?_;unfold Zm;refine dW hu ?_;unfold ey at hz;obtain⟨inf,z1,z2⟩:=Td.1 hz;split
  ·rename_i h;cases iM
  ·rename_i h;cases h
  ·simp only[if_true];refine az (az ?_);unfold typeInfo;refine az (pP (cD ?_));rw[z1];refine aq ?_;rw[z2];refine aq (aq (aq ⟨rfl,_,rfl,.aJ rfl λi b hb=> ?_⟩))
   match i,hb with
   |0,hb=>cases hb;exact rS E z
   |1,hb=>cases hb;exact .val _
  ·rename_i h;cases h
  ·exfalso;simp_all)
def Hp (P:SJ)(t:TypeId)(name:String):Prop:=∀v,cp P (nilAhead (P.types.size+Made.depth) t v name) (some false)
theorem aoo{x:Tg}{name:String}{t:TypeId}{av:AV}(ho:o.op=.nilCheck x)(hx:s.ev x=some (.fn (.method name) [.cS t av] []))(hn:Hp P t name):dq lv P r o s (.fn (.method name) [.cS t av] []):=
 iC (λE V a hc aF=>by
  have hd:=ap.ev aF hx;unfold execOp;rw[ho];dsimp only;generalize hv:a.eval x=v at hd⊢;have cr:=hd;cases hd with
  |fn dF fI h1 h2=>
   rename_i fa ca;have hfa:fa.size=1:=dF;have:=h1 0 _ rfl;rw[SI,SK (by omega)]at this;simp only[S8]at this;have hg:fa[0]?=some fa[0]:=SK (by omega);generalize hq:fa[0]=q at this hg;cases this with
   |cS jl=>
    dsimp only;rw[hg];dsimp only;refine az (pP (cD ?_));refine(hn _).bind ?_;simp only[bne_self_eq_false,TN,if_false];exact aq ⟨rfl,_,rfl,cr⟩)
def od (P:SJ)(t:TypeId):Option (TypeId×TypeId):=match P.underlying t with
 |some (.map k e)=>some (k,e)
 |_=>none
def vU (es:Array Wl)(ck:Nat)(k x:SO):Option (Nat×SO)->Obj
 |none=> .map (es.push {key:=k,val:=x,born:=ck}) (ck+1)
 |some (i,_)=> .map (es.modify i λe=>{e with key:=k,val:=x}) ck
theorem aqc{t kt et:TypeId}{m k x:Tg}{id ck:Nat}{es:Array Wl}{a b:AV}{K X:SO}{fd:Option (Nat×SO)}(ho:o.op=.mapUpdate t m k x\/o.op=.insert t m k x)(ht:od P t=some (kt,et))(hm:s.ev m=some (.mp id))(hk:s.ev k=some a)(hx:s.ev x=some b)(hK:a.raw=some K)(hX:b.raw=some X)
  (hH:s.H[id]?=some (.obj (.map es ck))) (hc:cp P (Va false 10000 kt K) ()) (hf:cp P (VM kt K es.toList) fd) (Fb:∀i v,fd=some (i,v)->WA 10000 (((es[i]?).map (·.key)).getD K) K=true)
  (hn:next ((⟨s.T,s.H.set id (.obj (vU es ck K X fd))⟩:AS).put o.dst (.val undef))):Step lv P r o s next bad:=by
 intro E V ac N Q iL aF hd bw h1 _;refine⟨bw,?_⟩;have e1:=(ap.ev aF hk).raw hK;have e2:=(ap.ev aF hx).raw hX;have oz:=ap.ev aF hm;generalize xj:ac.eval m=vm at oz;cases oz;obtain⟨p1,p2,p3,p4⟩:=iL.obj id _ hH;obtain⟨g1,g2⟩:=iL.iS hH rfl;have go:aO P V (do Zv t (.map (some (E.blk id))) K X;pure Next.skip) (l_ lv P r o ac N Q) (λv V'=>Q (.panic [{v,recovered:=false}]) ac V'):=by
  refine az ?_;unfold od at ht;split at ht
  ·rename_i k' e' hu;cases ht;unfold Zv;refine dW hu ?_;dsimp only;refine az (nm p1 p2 p3 g2 (cD ?_));dsimp only;refine hc.bind (hf.bind ?_);have fin:∀y,y=vU es ck K X fd->aO P V (setObj (E.blk id) y) (λ_ V'=>aO P V' (pure Next.skip) (l_ lv P r o ac N Q) (λv V'=>Q (.panic [{v,recovered:=false}]) ac V')) (λv V'=>Q (.panic [{v,recovered:=false}]) ac V'):=λy hy=>by
    have ub:y.ug=false:=(by rw[hy];cases fd<;>rfl);have hy2:y.isChan=false:=(by rw[hy];cases fd<;>rfl);refine xL p1 p2 hy2 g2 (cD (aq ?_));exact h1 E _ (ac.put o.dst undef) _ ⟨Env.Le.refl E,dR _ _ _,put_defers _ _ _,rfl,rfl⟩ (by rw[eX];rw[hy];exact iL.setObj hH (by cases fd<;>rfl) (by cases fd<;>rfl))
     (bZ.gF (s:=⟨s.T,s.H.set id (.obj (vU es ck K X fd))⟩) aF hd (.val undef)) hn
   cases fd with
   |none=>exact fin _ rfl
   |some iv=>
    obtain⟨i,v⟩:=iv;dsimp only;unfold Instr.keyThatStays;rw[Fb i v rfl];simp only[if_true];exact az (aq (fin _ rfl))
  ·cases ht
 unfold execOp;rcases ho with ho|ho
 all_goals
  rw[ho];simp only[xj,e1,e2];exact go
def DX (es:Array Wl):Option (Nat×SO)->Array Wl
 |some (i,_)=>es.eraseIdxIfInBounds i
 |none=>es
theorem aqa{c:Xr}{t t' kt et:TypeId}{m k:Tg}{id ck:Nat}{es:Array Wl}{a:AV}{K:SO}{fd:Option (Nat×SO)}(ho:o.op=.call c)(aV:c.callee=.builtin .delete)(cI:c.args=#[m,k]) (dL:c.argTypes=#[t,t']) (ht:od P t=some (kt,et)) (hm:s.ev m=some (.mp id)) (hk:s.ev k=some a) (hK:a.raw=some K)
  (hH:s.H[id]?=some (.obj (.map es ck))) (hc:cp P (Va es.isEmpty 10000 kt K) ()) (hf:cp P (VM kt K es.toList) fd)
  (hn:next ((⟨s.T,s.H.set id (.obj (.map (DX es fd) ck))⟩:AS).put o.dst (.val undef))):Step lv P r o s next bad:=by
 intro E V ac N Q iL aF hd bw h1 _;refine⟨bw,?_⟩;have e1:=(ap.ev aF hk).raw hK;have oz:=ap.ev aF hm;generalize xj:ac.eval m=vm at oz;cases oz;obtain⟨p1,p2,p3,p4⟩:=iL.obj id _ hH;obtain⟨g1,g2⟩:=iL.iS hH rfl;unfold execOp;rw[ho];dsimp only;unfold resolve;rw[aV];dsimp only;refine az (aq ?_);unfold invoke builtin;dsimp only;refine az ?_;have mZ:c.args.map ac.eval=#[.map (some (E.blk id)),K]:=by rw[cI];simp[xj,e1]
 rw[mZ,dL];unfold od at ht;split at ht
 ·rename_i k' e' hu;cases ht;unfold atp;simp only[Ve,Vp,UH];refine dW hu ?_;dsimp only;refine az (nm p1 p2 p3 g2 (cD ?_));dsimp only;refine hc.bind (hf.bind ?_);have fin:∀tw,tw=(DX es fd)->aO P V (setObj (E.blk id) (.map tw ck)) (λ_ V'=>aO P V' (pure (YL #[])) (λx V'=>aO P V' (pure (W5 x)) (l_ lv P r o ac N Q) (λv V'=>Q (.panic [{v,recovered:=false}]) ac V')) (λv V'=>Q (.panic [{v,recovered:=false}]) ac V')) (λv V'=>Q (.panic [{v,recovered:=false}]) ac V'):=λy hy=>by
   refine xL p1 p2 rfl g2 (cD (aq (aq ?_)));exact h1 E _ (ac.put o.dst undef) _ ⟨Env.Le.refl E,dR _ _ _,put_defers _ _ _,rfl,rfl⟩ (by rw[eX];rw[hy];exact iL.setObj hH rfl rfl)
    (bZ.gF (s:=⟨s.T,s.H.set id (.obj (.map (DX es fd) ck))⟩) aF hd (.val undef)) hn
  cases fd with
  |none=>exact az (fin _ rfl)
  |some iv=>exact az (fin _ rfl)
 ·cases ht
theorem aqf{t kt et:TypeId}{x:Tg}{m ck:Nat}{es:Array Wl}(ho:o.op=.range t x)(ht:od P t=some (kt,et))(hx:s.ev x=some (.mp m))(hH:s.H[m]?=some (.obj (.map es ck)))
  (hn:next ((⟨s.T,s.H++[.iter m ck #[] ck]⟩:AS).put o.dst (.op s.H.length 0))):Step lv P r o s next bad:=by
 intro E V ac N Q hc aF hd bw h1 _;refine⟨bw,?_⟩;have oz:=ap.ev aF hx;generalize xj:ac.eval x=vm at oz;cases oz with
 |mp hm=>
  obtain⟨p1,p2,p3,p4⟩:=hc.obj m _ hH;obtain⟨g1,g2⟩:=hc.iS hH rfl;unfold execOp;rw[ho];simp only[xj];refine az ?_;unfold od at ht;split at ht
  ·rename_i k' e' hu;cases ht;unfold Instr.range;refine dW hu ?_;refine az (nm p1 p2 p3 g2 (cD ?_));dsimp only;refine az (aq ?_);refine az (nY λrr hf=>cD (aq (aq ?_)));have hle:E.Le (E.add rr V.ab):=E.pK rr (λb o v h=>by rw[<- hc.I];exact h);have bf:Conc (E.add rr V.ab) (V.upd rr (.mapIter (some (E.blk m)) ck #[] ck)) (s.H++[.iter m ck #[] ck]):=by
    refine hc.add hf _ ⟨?_,?_,λo=> ?_⟩ (λb e=> ?_)
    ·exact Nat.lt_succ_of_lt hm
    ·rw[Env.dB,hle.blk m hm];simp[View.upd]
    ·rw[Env.dB];exact hf.2 o
    ·simp only[bJ,Env.dB,Tl]at e;exact e.symm
   exact h1 _ _ (ac.put o.dst (.pointer (some ⟨rr,0,none⟩))) ((⟨s.T,s.H++[.iter m ck #[] ck]⟩:AS).put o.dst (.op s.H.length 0)) ⟨hle,dR _ _ _,put_defers _ _ _,rfl,rfl⟩ (by rw[eX];exact bf)
    (bZ.gF (s:=⟨s.T,s.H++[.iter m ck #[] ck]⟩) (aF.mono hle) hd (OA hc.n rr V.ab)) hn
  ·cases ht
theorem Conc.setIter{E:Env}{V:View}{H:List aa}(hc:Conc E V H){id m a c:Nat}{b:Array Nat}(hk:H[id]?=some (.iter m a b c))(a':Nat)(b':Array Nat)(c':Nat):Conc E (V.upd (E.blk id) (.mapIter (some (E.blk m)) a' b' c')) (H.set id (.iter m a' b' c')):=by
 obtain⟨p1,p2,p4⟩:=hc.obj id _ hk;refine hc.iF id (.iter m a' b' c') (Env.Le.refl E) hc.I (by simpa using hc.n) lq rfl (λ_ _ _=>rfl) (λb z hb hz=>⟨?_,λ_=>rfl⟩) ⟨p1,by simp[View.upd],p4⟩ (λb h=> .inl ⟨_,hk,h⟩);have:b≠E.blk id:=λe=>hb _ hk (by rw[e];rfl);simpa[View.upd,this]using hz
theorem aqd{it:Tg}{id m since ck sO:Nat}{seen:Array Nat}{es:Array Wl}(ho:o.op=.next it false)(hi:s.ev it=some (.op id 0))(hI:s.H[id]?=some (.iter m since seen sO))(hM:s.H[m]?=some (.obj (.map es ck)))
  (ay:es.all (λe=>decide (e.born>=sO))=false\/es.isEmpty=true\/seen.isEmpty=true)
  (hn:∀e∈es,e.born∉seen->next ((⟨s.T,s.H.set id (.iter m since (seen.push e.born) ck)⟩:AS).put o.dst (.aJ [.val (.bool true),AV.of e.key,AV.of e.val])))
  (akh:(∀e∈es,e.born<since->e.born∈seen)->next (s.put o.dst (.aJ [.val (.bool false)]))):Step lv P r o s next bad:=by
 intro E V ac N Q hc aF hd bw h1 _;refine⟨bw,?_⟩;have nM:=ap.ev aF hi;generalize pH:ac.eval it=vi at nM;cases nM with
 |op bY=>
  obtain⟨q1,q2,q3⟩:=hc.obj id _ hI;obtain⟨p1,p2,p3,p4⟩:=hc.obj m _ hM;have gi:=hc.iS hI rfl;have gm:=hc.iS hM rfl;unfold execOp;rw[ho];simp only[pH];refine az ?_;unfold Instr.next;dsimp only;refine az (nm q2 rfl rfl gi.2 (cD ?_));dsimp only;refine az (nm p1 p2 p3 gm.2 (cD ?_));dsimp only;rw[if_neg (by
   intro h;simp only[Th,TW]at h;rcases ay with hk|hk|hk
   ·rw[hk]at h;cases h.2
   ·rw[hk]at h;cases h.1.2
   ·rw[hk]at h;cases h.1.1)]
  generalize Qn:(if((es.filter λe=> !seen.contains e.born).filter (λe=>decide (e.born<since))).isEmpty=true then#[none]else#[])++((es.filter λe=> !seen.contains e.born).filter (λe=>decide (e.born<since))++(es.filter λe=> !seen.contains e.born).filter (λe=>decide (e.born>=since))).map some=yh;have b_:∀x∈yh,match x with
    |some e=>e∈es/\e.born∉seen
    |none=>∀e∈es,e.born<since->e.born∈seen:=by
   intro x hx;rw[<- Qn]at hx;rcases Ut.1 hx with hx|hx
   ·split at hx
    ·rename_i sg;simp at hx;subst hx;intro e he hlt;apply Tu;intro iO;have:e∈((es.filter λe=> !seen.contains e.born).filter (λe=>decide (e.born<since))):=(by simp[he,hlt,iO]);rw[Zh]at sg;rw[sg]at this;simp at this
    ·simp at hx
   ·rw[Array.mem_map]at hx;obtain⟨e,he,rfl⟩:=hx;rcases Ut.1 he with he|he<;>simp at he<;>exact⟨he.1,he.2.2⟩
  have B1:0<yh.size:=by
   rw[<- Qn];split
   ·simp;omega
   ·rename_i sg;have:0<((es.filter λe=> !seen.contains e.born).filter (λe=>decide (e.born<since))).size:=by
     rw[Zh]at sg;exact Array.size_pos_iff.2 sg
    simp only[XE,Array.size_map,List.size_toArray,UP];omega
  have fin:∀j,j<yh.size->aO P V (match yh[j]?with
    |some (some e)=>do setObj (E.blk id) (.mapIter (some (E.blk m)) since (seen.push e.born) ck);pure (YL #[.bool true,e.key,e.val])
    |some none=>pure (YL #[.bool false])
    | none => stuck "Next: no such candidate") (λx V' => aO P V' (pure (W5 x)) (l_ lv P r o ac N Q) (λv V' => Q (.panic [{ v, recovered := false }]) ac V')) (λv V' => Q (.panic [{ v, recovered := false }]) ac V') := by
   intro j hj;rw[SK hj];have hm:=b_ yh[j] (XV hj);generalize yh[j]=x at hm;cases x with
   |none=>
    dsimp only;refine aq (aq ?_);exact h1 E V (ac.put o.dst _) (s.put o.dst (.aJ [.val (.bool false)])) ⟨Env.Le.refl E,dR _ _ _,put_defers _ _ _,rfl,rfl⟩ (by rw[eX];exact hc)
     (bZ.gF aF hd (.aJ rfl λi b hb=>by
      match i,hb with
      |0,hb=>cases hb;exact .val _)) (akh hm)
   |some e=>
    dsimp only;refine az (xL q2 rfl rfl gi.2 (cD (aq (aq ?_))));exact h1 E _ (ac.put o.dst _) _ ⟨Env.Le.refl E,dR _ _ _,put_defers _ _ _,rfl,rfl⟩ (by rw[eX];exact hc.setIter hI since (seen.push e.born) ck)
     (bZ.gF (s:=⟨s.T,s.H.set id (.iter m since (seen.push e.born) ck)⟩) aF hd (.aJ rfl λi b hb=>by
      match i,hb with
      |0,hb=>cases hb;exact .val _
      |1,hb=>cases hb;exact rS E _
      |2,hb=>cases hb;exact rS E _)) (hn e hm.1 hm.2)
  refine az (abI (λhf=>cD (fin 0 B1)) (λhf t=>cD (fin _ (ar_ _ B1))))
def AV.found (z:SO)(ok:Bool):Option (Nat×SO)->AV
 |some (_,v)=>if ok then .aJ [AV.of v,.val (.bool true)]else AV.of v
 |none=>if ok then .aJ [AV.of z,.val (.bool false)]else AV.of z
theorem aoh{t kt et:TypeId}{m k:Tg}{id ck:Nat}{es:Array Wl}{a:AV}{K z:SO}{ok:Bool}{fd:Option (Nat×SO)}(ho:o.op=.lookup t m k ok)(ht:od P t=some (kt,et))(hz:ey P et=some z)(hm:s.ev m=some (.mp id))(hk:s.ev k=some a)(hK:a.raw=some K)
  (hH:s.H[id]?=some (.obj (.map es ck))) (hc:cp P (Va es.isEmpty 10000 kt K) ()) (hf:cp P (VM kt K es.toList) fd):dq lv P r o s (AV.found z ok fd):=
 iC (λE V ac iL aF=>by
  have e1:=(ap.ev aF hk).raw hK;have oz:=ap.ev aF hm;generalize xj:ac.eval m=vm at oz;cases oz;obtain⟨p1,p2,p3,p4⟩:=iL.obj id _ hH;have g:=iL.iS hH rfl;unfold od at ht;split at ht
  ·rename_i k' e' hu;cases ht;unfold execOp;rw[ho];simp only[xj,e1];refine az ?_;unfold Instr.lookup;refine dW hu ?_;dsimp only;refine az (az (nm p1 p2 p3 g.2 (aq (aq ?_))));refine hc.bind (az (hf.ok ?_));have two:∀(v:SO)(b:Bool)(i:Nat)(x:AV),[AV.of v,.val (.bool b)][i]?=some x->ap E x ((#[v,Xb b]:Array SO).getD i undef):=λv b i x hx=>by
    match i,hx with
    |0,hx=>cases hx;exact rS E _
    |1,hx=>cases hx;exact .val _
   cases fd with
   |some iv=>
    obtain⟨i,v⟩:=iv;refine aq (aq ⟨rfl,_,rfl,?_⟩);cases ok with
    |true=>exact .aJ rfl (two v true)
    |false=>exact rS E _
   |none=>
    refine Gw hz (aq (aq ⟨rfl,_,rfl,?_⟩));cases ok with
    |true=>exact .aJ rfl (two z false)
    |false=>exact rS E _
  ·cases ht)
theorem an4{it:Tg}{id m since ck:Nat}{seen:Array Nat}{es:Array Wl}{b:Nat}{e:Wl}(ho:o.op=.entry it)(hi:s.ev it=some (.op id 0))(hI:s.H[id]?=some (.iter m since seen ck))(hM:s.H[m]?=some (.obj (.map es ck)))
  (hb:seen.back?=some b) (he:es.find? (·.born==b)=some e):dq lv P r o s (.aJ [AV.of e.key,AV.of e.val]):=
 iC (λE V ac hc aF=>by
  have nM:=ap.ev aF hi;generalize pH:ac.eval it=vi at nM;cases nM with
  |op bY=>
   obtain⟨q1,q2,q3⟩:=hc.obj id _ hI;obtain⟨p1,p2,p3,p4⟩:=hc.obj m _ hM;have gi:=hc.iS hI rfl;have gm:=hc.iS hM rfl;unfold execOp;rw[ho];simp only[pH];refine az ?_;unfold Instr.entry;dsimp only;refine az (nm q2 rfl rfl gi.2 (cD ?_));dsimp only;rw[hb];dsimp only;refine az (nm p1 p2 p3 gm.2 (cD ?_));dsimp only;rw[if_neg (by simp)];rw[he];refine aq (aq ⟨rfl,_,rfl,.aJ rfl λi b hb=> ?_⟩)
   match i,hb with
   |0,hb=>cases hb;exact rS E _
   |1,hb=>cases hb;exact rS E _)
end
open Go.Conc
def gz (E:Env)(V:View)(k:AV->List aa->Prop)(kp:AV->List aa->Prop):Out->View->Prop
 |.ret v,V'=>∃av E' H',E.Le E'/\V'.role=V.role/\V'.deaf=V.deaf/\ap E' av v/\Conc E' V' H'/\k av H'
 |.panic ch,V'=>∃pv v E' H',ch=[{v,recovered:=false}]/\E.Le E'/\V'.role=V.role/\V'.deaf=V.deaf/\ap E' pv v/\Conc E' V' H'/\kp pv H'
def ba (lv:Bool)(P:SJ)(f:TO)(H:List aa)(args:List AV)(k:AV->List aa->Prop)(kp:AV->List aa->Prop):Prop:=
 ∀(E:Env)(V:View)(vs:Array SO),Conc E V H->cE E args vs->Body lv P f vs .normal V (gz E V k kp)
def Nx (lv:Bool)(P:SJ)(R:Out->View->Prop):Next->View->Prop
 |.value v,V=>R (.ret v) V
 |.skip,V=>R (.ret undef) V
 |.enter f args,V=>Body lv P f args .normal V R
 |.round l f tmps assign body,V=>mE lv P (W_ l f tmps assign body .normal) V R
 |_,_=>False
def iG (lv:Bool)(P:SJ)(c:AV)(H:List aa)(args:List AV)(k:AV->List aa->Prop)(kp:AV->List aa->Prop):Prop:=
 ∀(E:Env)(V:View)(cv:SO)(vs:Array SO),Conc E V H->ap E c cv->cE E args vs->
  aO P V (do let d<- U1 cv vs;invoke d.target d.args) (λnx V'=>Nx lv P (gz E V k kp) nx V') (λv V'=>gz E V k kp (.panic [{v,recovered:=false}]) V')
def Dn (lv:Bool)(P:SJ)(c:AV)(name:String)(H:List aa)(args:List AV)(k:AV->List aa->Prop)(kp:AV->List aa->Prop):Prop:=
 ∀(E:Env)(V:View)(cv:SO)(vs:Array SO),Conc E V H->ap E c cv->cE E args vs->
  aO P V (invoke (.fn (.method name) #[]) (#[cv]++vs)) (λnx V'=>Nx lv P (gz E V k kp) nx V') (λv V'=>gz E V k kp (.panic [{v,recovered:=false}]) V')
theorem gz.mono{E:Env}{V:View}{k k' kp pJ:AV->List aa->Prop}(h:∀a H,k a H->k' a H)(hp:∀a H,kp a H->pJ a H):∀{o V'},gz E V k kp o V'->gz E V k' pJ o V'
 |.ret _,_,⟨av,E',H',a,b,c,d,e,f⟩=>⟨av,E',H',a,b,c,d,e,h _ _ f⟩
 |.panic _,_,⟨pv,v,E',H',a,b,c,d,e,f,g⟩=>⟨pv,v,E',H',a,b,c,d,e,f,hp _ _ g⟩
theorem Nx.mono{lv:Bool}{P:SJ}{R R':Out->View->Prop}(h:∀o V,R o V->R' o V):∀{nx V},Nx lv P R nx V->Nx lv P R' nx V:=by
 intro nx V hn;cases nx with
 |value v=>exact h _ _ hn
 |skip=>exact h _ _ hn
 |enter f args=>exact Body.mono hn h
 |round l f tmps a b=>exact mE.mono hn h
 |_=>exact hn
theorem ba.mono{lv:Bool}{P:SJ}{f:TO}{H:List aa}{args:List AV}{k k' kp pJ:AV->List aa->Prop}(h:ba lv P f H args k kp)(hk:∀a H,k a H->k' a H)(hp:∀a H,kp a H->pJ a H):ba lv P f H args k' pJ:=λE V vs hc hd=>
 (h E V vs hc hd).mono λ_ _ x=>x.mono hk hp
theorem iG.mono{lv:Bool}{P:SJ}{f:AV}{H:List aa}{args:List AV}{k k' kp pJ:AV->List aa->Prop}(h:iG lv P f H args k kp)(hk:∀a H,k a H->k' a H)(hp:∀a H,kp a H->pJ a H):iG lv P f H args k' pJ:=λE V cv vs hc hd oB=>
 (h E V cv vs hc hd oB).mono (λ_ _ x=>Nx.mono (λ_ _ y=>y.mono hk hp) x) (λ_ _ y=>y.mono hk hp)
def pY (P:SJ)(g:TO):Bool:=match P.funcs[g]?with
 | some fn => fn.body.isSome && !(fn.name == "runtime.NumGoroutine")
 |none=>false
theorem apk{lv:Bool}{P:SJ}{V:View}{g:TO}{vs:Array SO}{R:Out->View->Prop}{Kp:SO->View->Prop}(hg:pY P g=true)(h:Body lv P g vs .normal V R):aO P V (callFunc g vs) (λnx V'=>Nx lv P R nx V') Kp:=by
 unfold callFunc;refine az (pP (cD ?_));unfold pY at hg;split at hg
 ·rename_i fn wZ;simp only[Th,TW]at hg;rw[wZ];dsimp only;have vn:fn.body.isNone=false:=by
   have h1:=hg.1;cases hb:fn.body with
   |none=>rw[hb]at h1;cases h1
   |some _=>rfl
  rw[if_neg (by rw[hg.2];simp),if_neg (by rw[vn];simp)];exact aq h
 ·cases hg
section
variable {lv:Bool}{P:SJ}{H:List aa}{args:List AV}{k kp:AV->List aa->Prop}
theorem DT{g:TO}{first cM:List AV}(hg:pY P g=true)(hf:ba lv P g H (first++args++cM) k kp):iG lv P (.fn (.func g) first cM) H args k kp:=by
 intro E V cv vs hc hd oB;cases hd with
 |fn dF fI h1 h2=>
  rename_i fa ca;unfold U1;refine az (aq ?_);unfold invoke;dsimp only;exact apk hg (hf E V _ hc (A3 (A3 ⟨dF,h1⟩ oB) ⟨fI,h2⟩))
end
def eT (s:AS):List Tg->Option (List AV)
 |[]=>some []
 |x::l=>match s.ev x,eT s l with
  |some a,some aD=>some (a::aD)
  |_,_=>none
theorem yq{E:Env}{s:AS}{a:Act}(k:bZ E s.T a.tmps):∀{l:List Tg}{aD:List AV},eT s l=some aD->cE E aD (l.map a.eval).toArray
 |[],_,h=>by cases h;exact⟨rfl,by simp⟩
 |x::l,aD,h=>by
  simp only[eT]at h;split at h
  ·rename_i av lE h1 h2;cases h;have ih:=yq k h2;refine⟨by have:=ih.1;simpa using this,λi b e=> ?_⟩;cases i with
   |zero=>simp at e;subst e;simpa[SI]using ap.ev k h1
   |succ i=>
    simp only[UH]at e;have:=ih.2 i b e;simpa[SI]using this
  ·cases h
section
variable {lv:Bool}{P:SJ}{r:Option Nat}{o:Tv}{s:AS}{next:AS->Prop}{bad:AV->AS->Prop}
theorem aaQ{E:Env}{V:View}{a:Act}{N:Act->View->Prop}{Q:Ex->Act->View->Prop}(aF:bZ E s.T a.tmps)(hd:∀d,o.dst=some d->d<a.tmps.size)
  (h1:∀E' V' a' s',Kept E E' V V' a a'->Conc E' V' s'.H->bZ E' s'.T a'.tmps->next s'->N a' V')
  (h2:∀E' V' s' pv v,Kept E E' V V' a a->Conc E' V' s'.H->bZ E' s'.T a.tmps->ap E' pv v->bad pv s'->Q (.panic [{v,recovered:=false}]) a V'):
  (∀nx V',Nx lv P (gz E V (λb H'=>next ((⟨s.T,H'⟩:AS).put o.dst b)) (λpv H'=>bad pv ⟨s.T,H'⟩)) nx V'->l_ lv P r o a N Q nx V')/\
  (∀v V',gz E V (λb H'=>next ((⟨s.T,H'⟩:AS).put o.dst b)) (λpv H'=>bad pv ⟨s.T,H'⟩) (.panic [{v,recovered:=false}]) V'->Q (.panic [{v,recovered:=false}]) a V'):=by
 have hv:∀v V',gz E V (λb H'=>next ((⟨s.T,H'⟩:AS).put o.dst b)) (λpv H'=>bad pv ⟨s.T,H'⟩) (.ret v) V'->N (a.put o.dst v) V':=λv V' ⟨av,E',H',hle,bX,eK,bi,bf,hk⟩=>
  h1 E' V' _ _ ⟨hle,dR _ _ _,put_defers _ _ _,bX,eK⟩ (by rw[eX];exact bf) (bZ.gF (s:=⟨s.T,H'⟩) (aF.mono hle) hd bi) hk
 have hp:∀ch V',gz E V (λb H'=>next ((⟨s.T,H'⟩:AS).put o.dst b)) (λpv H'=>bad pv ⟨s.T,H'⟩) (.panic ch) V'->Q (.panic ch) a V':=λch V' ⟨pv,v,E',H',eJ,hle,bX,eK,bi,bf,hk⟩=>by
  subst eJ;exact h2 E' V' ⟨s.T,H'⟩ pv v ⟨hle,rfl,rfl,bX,eK⟩ bf (aF.mono hle) bi hk
 refine⟨λnx V' hn=> ?_,λv V' h=>hp _ _ h⟩;cases nx with
 |value v=>exact hv _ _ hn
 |skip=>exact hv _ _ hn
 |enter f args=>
  refine Body.mono (R':=fun
   |.ret v,V'=>N (a.put o.dst v) V'
   |.panic ch,V'=>Q (.panic ch) a V') hn λot aR h=> ?_
  cases ot with
  |ret v=>exact hv _ _ h
  |panic ch=>exact hp _ _ h
 |round l f tmps aD b=>
  refine mE.mono (R':=fun
   |.ret v,V'=>N (a.put o.dst v) V'
   |.panic ch,V'=>Q (.panic ch) a V') hn λot aR h=> ?_
  cases ot with
  |ret v=>exact hv _ _ h
  |panic ch=>exact hp _ _ h
 |_=>exact hn.elim
theorem MI{c:Xr}{x:Tg}{rP:AV}{aD:List AV}(ho:o.op=.call c)(aV:c.callee=.value x)(hx:s.ev x=some rP)(has:eT s c.args.toList=some aD)
  (hf:iG lv P rP s.H aD (λb H'=>next ((⟨s.T,H'⟩:AS).put o.dst b)) (λpv H'=>bad pv ⟨s.T,H'⟩)):Step lv P r o s next bad:=by
 intro E V a N Q hc aF hd bw h1 h2;have qO:=aaQ (lv:=lv) (P:=P) (r:=r) aF hd h1 h2;refine⟨bw,?_⟩;unfold execOp;rw[ho];dsimp only;unfold resolve;rw[aV];dsimp only;have e:c.args.map a.eval=(c.args.toList.map a.eval).toArray:=by apply Vz;simp
 rw[e];exact(hf E V (a.eval x) _ hc (ap.ev aF hx) (yq aF has)).mono (λnx V' h=>qO.1 nx V' h) (λv V' h=>qO.2 v V' h)
theorem acd{c:Xr}{x:Tg}{name:String}{rP:AV}{aD:List AV}(ho:o.op=.call c)(aV:c.callee=.invoke x name)(hx:s.ev x=some rP)(has:eT s c.args.toList=some aD)
  (hf:Dn lv P rP name s.H aD (λb H'=>next ((⟨s.T,H'⟩:AS).put o.dst b)) (λpv H'=>bad pv ⟨s.T,H'⟩)):Step lv P r o s next bad:=by
 intro E V a N Q hc aF hd bw h1 h2;have qO:=aaQ (lv:=lv) (P:=P) (r:=r) aF hd h1 h2;refine⟨bw,?_⟩;unfold execOp;rw[ho];dsimp only;unfold resolve;rw[aV];dsimp only;refine az (aq ?_);have e:c.args.map a.eval=(c.args.toList.map a.eval).toArray:=by apply Vz;simp
 rw[e];exact(hf E V (a.eval x) _ hc (ap.ev aF hx) (yq aF has)).mono (λnx V' h=>qO.1 nx V' h) (λv V' h=>qO.2 v V' h)
theorem aqe{x:Tg}{t:TypeId}{av:AV}(ho:o.op=.panic x)(hx:s.ev x=some (.cS t av))(hb:bad (.cS t av) s):Step lv P r o s next bad:=by
 intro E V a N Q hc aF hd bw _ h2;refine⟨bw,?_⟩;have dj:=ap.ev aF hx;unfold execOp;rw[ho];dsimp only;refine az ?_;generalize a.eval x=v at dj⊢;have ajC:=dj;cases dj with
 |cS hv=>
  unfold Instr.panic;dsimp only;exact apt (h2 E V s (.cS t av) _ ⟨Env.Le.refl E,rfl,rfl,rfl,rfl⟩ hc aF ajC hb)
end
structure Do (k kp:AV->List aa->Prop):Type where
 n:Nat
def Ah (lv:Bool)(P:SJ)(c:AV)(H:List aa)(args:List AV)(k kp:AV->List aa->Prop)(_t:Do k kp):Prop:=iG lv P c H args k kp
def ada (lv:Bool)(P:SJ)(c:AV)(name:String)(H:List aa)(args:List AV)(k kp:AV->List aa->Prop)(_t:Do k kp):Prop:=Dn lv P c name H args k kp
theorem wy{lv:Bool}{P:SJ}{c:AV}{H:List aa}{args:List AV}{k kp:AV->List aa->Prop}{t:Do k kp}(h:iG lv P c H args k kp):Ah lv P c H args k kp t:=h
def ao {α:Type}(x:Option α)(k:α->Prop):Prop:=match x with
 |some a=>k a
 |none=>False
def AV.asBool (a:AV)(k:Bool->Prop):Prop:=match a with
 |.val (.bool b)=>k b
 |_=>False
def AV.asInt (a:AV)(k:TV->Int->Prop):Prop:=match a with
 |.val (.int j n)=>k j n
 |_=>False
def AV.wu (a:AV)(k:List AV->Prop):Prop:=match a with
 |.aJ l=>k l
 |_=>False
def AV.asAgg (a:AV)(k:List AV->Prop):Prop:=match a with
 |.agg l=>k l
 |_=>False
def AV.o1 (a:AV)(k:Nat->Nat->Prop):Prop:=match a with
 |.op i j=>k i j
 |_=>False
def AV.rL (a:AV)(k:Nat->Prop):Prop:=match a with
 |.mp i=>k i
 |_=>False
def AV.uN (a:AV)(k:Nat->List AV->End->Prop):Prop:=match a with
 |.sl n l e=>k n l e
 |_=>False
theorem ao.out{α:Type}{x:Option α}{k:α->Prop}(h:ao x k):∃a,x=some a/\k a:=by
 cases x with
 |none=>exact h.elim
 |some a=>exact⟨a,rfl,h⟩
theorem AM{a:AV}{k:Bool->Prop}(h:a.asBool k):∃b,a=.val (.bool b)/\k b:=by
 unfold AV.asBool at h;split at h
 ·exact⟨_,rfl,h⟩
 ·exact h.elim
theorem nB{a:AV}{k:TV->Int->Prop}(h:a.asInt k):∃j n,a=.val (.int j n)/\k j n:=by
 unfold AV.asInt at h;split at h
 ·exact⟨_,_,rfl,h⟩
 ·exact h.elim
theorem aeA{a:AV}{k:List AV->Prop}(h:a.wu k):∃l,a=.aJ l/\k l:=by
 unfold AV.wu at h;split at h
 ·exact⟨_,rfl,h⟩
 ·exact h.elim
theorem aer{a:AV}{k:List AV->Prop}(h:a.asAgg k):∃l,a=.agg l/\k l:=by
 unfold AV.asAgg at h;split at h
 ·exact⟨_,rfl,h⟩
 ·exact h.elim
theorem AN{a:AV}{k:Nat->Nat->Prop}(h:a.o1 k):∃i j,a=.op i j/\k i j:=by
 unfold AV.o1 at h;split at h
 ·exact⟨_,_,rfl,h⟩
 ·exact h.elim
theorem DF{a:AV}{k:Nat->Prop}(h:a.rL k):∃i,a=.mp i/\k i:=by
 unfold AV.rL at h;split at h
 ·exact⟨_,rfl,h⟩
 ·exact h.elim
theorem NE{a:AV}{k:Nat->List AV->End->Prop}(h:a.uN k):∃n l e,a=.sl n l e/\k n l e:=by
 unfold AV.uN at h;split at h
 ·exact⟨_,_,_,rfl,h⟩
 ·exact h.elim
section
variable (P:SJ)(s:AS)
def dg (op:VZ)(xt:TypeId)(a b:AV)(k:AV->Prop):Prop:=match a,b with
 |.val (.int j m),.val (.int j' n)=>if mr op then ao (zY op j m n) λv=>k (.val v)else j'=j/\ao (lF op j m n) λv=>k (.val v)
 |_,_=>(op=.eql\/op=.neq)/\ao a.raw λX=>ao b.raw λY=>wE X Y=true/\P.eqGuardType P.depth xt=false/\∃e,cp P (Xh xt X Y) e/\k (.val (.bool (if op== .neq then !e else e)))
def ig (op:VZ)(xt:TypeId)(y:Tg)(a:AV)(k:AV->Prop):Prop:=match y,a with
 |.const .nilIface,.val .nilIface=>lS P xt=some true/\(op=.eql\/op=.neq)/\k (.val (.bool (if op== .neq then false else true)))
 |.const .nilIface,.cS _ _=>lS P xt=some true/\(op=.eql\/op=.neq)/\k (.val (.bool (if op== .neq then true else false)))
 |y,a=>ao (s.ev y) λb=>dg P op xt a b k
def rB (t:TypeId)(a:AV)(l h m:Option Int)(k:AV->Prop):Prop:=match a with
 |.sl n li e=>ao (jU P t) λ(_,sz)=>wi n li e sz l h m k
 |.bD id off n cap=>ao (jU P t) λ(_,sz)=>rG id off n cap sz l h m k
 |.op id off=>ao (uE P t) λ(n,sz)=>rG id off n n sz l h m k
 |_=>False
def rA (t:TypeId)(a:AV)(k:AV->Prop):Prop:=match kQ P t,a with
 |some .slice,.sl n _ _=>k (.val (.int .i64 n))
 |some .slice,.bD _ _ n _=>k (.val (.int .i64 n))
 |some .str,.val (.string b)=>k (.val (.int .i64 b.size))
 |some .map,.mp id=>match s.H[id]?with
  |some (.obj (.map es _))=>k (.val (.int .i64 es.size))
  |_=>False
 |_,_=>False
def lZ (a:AV)(k:AV->Prop):Prop:=match a with
 |.fn (.method name) [.cS t av] []=>Hp P t name/\k (.fn (.method name) [.cS t av] [])
 |a=>a.sure=true/\k a
def Ae (aD:TypeId)(ok:Bool)(a:AV)(k:AV->Prop):Prop:=lS P aD=some false/\ao (ey P aD) λz=>match a with
 |.cS t av=>if t=aD then k (if ok then .aJ [av,.val (.bool true)]else av)else ok=true/\k (.aJ [AV.of z,.val (.bool false)])
 |.val .nilIface=>ok=true/\k (.aJ [AV.of z,.val (.bool false)])
 |_=>False
def kP (o:Tv)(k:AV->Prop):Prop:=match o.op with
 |.move x=>ao (s.ev x) k
 |.assign x=>ao (s.ev x) k
 |.pick c x y=>ao (s.ev c) λb=>ao (s.ev x) λa=>ao (s.ev y) λa'=>b.asBool λb=>k (if b then a else a')
 |.binOp op xt x y _=>ao (s.ev x) λa=>ig P s op xt y a k
 |.unOp .not _ x=>ao (s.ev x) λa=>a.asBool λb=>k (.val (.bool !b))
 |.unOp .neg _ x=>ao (s.ev x) λa=>a.asInt λj n=>k (.val (.int j (j.wrap (0-n))))
 |.convert src dst x=>ao (s.ev x) λa=>match Ai P src dst with
   |some (some j)=>a.asInt λ_ n=>k (.val (.int j (j.wrap n)))
   |_=>False
 |.extract x i=>ao (s.ev x) λa=>a.wu λl=>ao l[i]? k
 |.nilCheck x=>ao (s.ev x) λa=>lZ P a k
 |.makeInterface t x=>lS P t=some false/\ao (s.ev x) λa=>k (.cS t a)
 |.makeFunc f first cM=>ao (first.toList.mapM s.ev) λfa=>ao (cM.toList.mapM s.ev) λca=>k (.fn f fa ca)
 |.typeAssert x _ aD ok=>ao (s.ev x) λa=>Ae P aD ok a k
 |.build t parts=>ao (n9 P t) λ(pl,z)=>ao (jJ s parts.toList) λaD=>ao (nD pl.at (lA z) aD) λl=>k (.agg l)
 |.buildSlice t len parts=>ao (qf P t) λ(_,sz,z)=>len* sz<=2^24/\ao (jJ s parts.toList) λaD=>ao (nD (gW.at (.elems sz)) (gr z (len* sz)) aD) λl=>k (.sl len l .exact)
 |.fieldAddr t x f=>ao (s.ev x) λa=>ao (eQ P t f) λn=>ao (a.shift n) k
 |.indexAddr t x ix=>ao (s.ev x) λa=>ao (s.ev ix) λi=>i.asInt λ_ i=>ao (nu P t) fun
   |(some n,sz)=>(0<=i/\i<n)/\ao (a.shift (i.toNat* sz)) k
   |(none,sz)=>ao a.row λ(n,p)=>(0<=i/\i<n)/\ao (p.shift (i.toNat* sz)) k
 |.field t x f=>ao (s.ev x) λa=>a.asAgg λl=>ao (Hq P t f) λ(off,n,g)=>ao (AV.cut l off n g) k
 |.index t x ix=>ao (s.ev x) λa=>ao (s.ev ix) λi=>i.asInt λ_ i=>match a with
   |.agg l=>ao (Hi P t) λ(n,sz,g)=>(0<=i/\i<n)/\ao (AV.cut l (i.toNat* sz) sz g) k
   |.val (.string b)=>(match kQ P t with|some .str=>True|_=>False)/\0<=i/\ao b[i.toNat]? λc=>k (.val (.int .u8 c.toNat))
   |_=>False
 |.load t x=>ao (s.ev x) λp=>ao (s.at p) λl=>ao (Ty P t) fun
   |(n,true)=>n<=l.length/\k (.agg (l.take n))
   |(_,false)=>ao l[0]? k
 |.lookup t m k' ok=>ao (od P t) λ(kt,et)=>ao (ey P et) λz=>ao (s.ev m) λp=>ao (s.ev k') λa=>ao a.raw λK=>p.rL λid=>match s.H[id]?with
  |some (.obj (.map es _))=>cp P (Va es.isEmpty 10000 kt K) ()/\∃fd,cp P (VM kt K es.toList) fd/\k (AV.found z ok fd)
  |_=>False
 |.slice t x lo hi mx=>ao (s.ev x) λa=>ao (s.iI lo) λl=>ao (s.iI hi) λh=>ao (s.iI mx) λm=>rB P t a l h m k
 |.entry it=>ao (s.ev it) λp=>p.o1 λid off=>off=0/\match s.H[id]?with
   |some (.iter m _ seen ck)=>match s.H[m]?with
    |some (.obj (.map es Of))=>Of=ck/\ao seen.back? λb=>ao (es.find? (·.born==b)) λe=>k (.aJ [AV.of e.key,AV.of e.val])
    |_=>False
   |_=>False
 |.call c=>match c.callee with
  |.builtin .len=>ao c.args[0]? λx=>ao c.argTypes[0]? λt=>ao (s.ev x) λa=>rA P s t a k
  |.builtin .max=>match c.args.toList with
   |[x,y]=>ao (s.ev x) λa=>ao (s.ev y) λb=>a.asInt λj m=>b.asInt λ_ n=>k (.val (.int j (if n>m then n else m)))
   |_=>False
  |.builtin .min=>match c.args.toList with
   |[x,y]=>ao (s.ev x) λa=>ao (s.ev y) λb=>a.asInt λj m=>b.asInt λ_ n=>k (.val (.int j (if n<m then n else m)))
   |_=>False
  |_=>False
 |_=>False
end
section
variable {lv:Bool}{P:SJ}{r:Option Nat}{o:Tv}{s:AS}
theorem mI{c:Xr}{x y:Tg}(h:c.args.toList=[x,y]):c.args=#[x,y]:=by
 apply Vz;simpa using h
theorem kP.sound{k:AV->Prop}(h:kP P s o k):∃av,dq lv P r o s av/\k av:=by
 unfold kP at h;split at h
 ·rename_i x ho;obtain⟨a,h1,h2⟩:=h.out;exact⟨a,abj (.inl ho) h1,h2⟩
 ·rename_i x ho;obtain⟨a,h1,h2⟩:=h.out;exact⟨a,abj (.inr ho) h1,h2⟩
 ·rename_i c x y ho;obtain⟨b,h1,h⟩:=h.out;obtain⟨a,h2,h⟩:=h.out;obtain⟨a',h3,h⟩:=h.out;obtain⟨b,rfl,h⟩:=AM h;exact⟨_,aoq ho h1 h2 h3,h⟩
 ·rename_i op xt x y yt ho;obtain⟨a,h1,hY⟩:=h.out;clear h;unfold ig at hY;split at hY
  ·exact⟨_,abh ho hY.2.1 h1 (.inl ⟨rfl,rfl⟩) hY.1,hY.2.2⟩
  ·exact⟨_,abh ho hY.2.1 h1 (.inr ⟨⟨_,_,rfl⟩,rfl⟩) hY.1,hY.2.2⟩
  rename_i n1 n2;clear n1 n2;obtain⟨b,h2,h⟩:=hY.out;unfold dg at h;split at h
  ·rename_i j m j' n;split at h
   ·obtain⟨v,h3,h⟩:=h.out;exact⟨_,aor ho h1 h2 h3,h⟩
   ·obtain⟨rfl,h⟩:=h;obtain⟨v,h3,h⟩:=h.out;exact⟨_,an0 ho h1 h2 h3,h⟩
  ·obtain⟨au,h⟩:=h;obtain⟨X,h3,h⟩:=h.out;obtain⟨Y,h4,h⟩:=h.out;obtain⟨h5,h6,e,h7,h⟩:=h;exact⟨_,an5 ho au h1 h2 h3 h4 h5 h6 h7,h⟩
 ·rename_i t x ho;obtain⟨a,h1,h⟩:=h.out;obtain⟨b,rfl,h⟩:=AM h;exact⟨_,aop ho h1,h⟩
 ·rename_i t x ho;obtain⟨a,h1,h⟩:=h.out;obtain⟨j,n,rfl,h⟩:=nB h;exact⟨_,aom ho h1,h⟩
 ·rename_i src dst x ho;obtain⟨a,h1,h⟩:=h.out;split at h
  ·rename_i j hj;obtain⟨j',n,rfl,h⟩:=nB h;exact⟨_,an3 ho hj h1,h⟩
  ·exact h.elim
 ·rename_i x i ho;obtain⟨a,h1,h⟩:=h.out;obtain⟨l,rfl,h⟩:=aeA h;obtain⟨b,h2,h⟩:=h.out;exact⟨_,an6 ho h1 h2,h⟩
 ·rename_i x ho;obtain⟨a,h1,h⟩:=h.out;unfold lZ at h;split at h
  ·exact⟨_,aoo ho h1 h.1,h.2⟩
  ·exact⟨_,aon ho h1 h.1,h.2⟩
 ·rename_i t x ho;obtain⟨h1,h⟩:=h;obtain⟨a,h2,h⟩:=h.out;exact⟨_,aoj ho h1 h2,h⟩
 ·rename_i f first cM ho
  obtain⟨fa,h1,h⟩:=h.out;obtain⟨ca,h2,h⟩:=h.out;exact⟨_,aoi ho h1 h2,h⟩
 ·rename_i x xt aD ok ho;obtain⟨a,h1,hA⟩:=h.out;obtain⟨h2,hB⟩:=hA;obtain⟨z,h3,hC⟩:=hB.out;clear h hB;split at hC
  ·rename_i t av;split at hC
   ·rename_i e;subst e;exact⟨_,abg ho h2 h3 h1 (.inr rfl),by rw[if_pos rfl];exact hC⟩
   ·rename_i e;exact⟨_,abg ho h2 h3 h1 (.inl hC.1),by rw[if_neg e];exact hC.2⟩
  ·obtain⟨e,hC⟩:=hC;subst e;exact⟨_,anZ ho h2 h3 h1,hC⟩
  ·exact hC.elim
 ·rename_i t parts ho;obtain⟨⟨pl,z⟩,h1,h⟩:=h.out;obtain⟨aD,h2,h⟩:=h.out;obtain⟨l,h3,h⟩:=h.out;exact⟨_,an1 ho h1 h2 h3,h⟩
 ·rename_i t len parts ho;obtain⟨⟨e,sz,z⟩,h1,h⟩:=h.out;obtain⟨hs,h⟩:=h;obtain⟨aD,h2,h⟩:=h.out;obtain⟨l,h3,h⟩:=h.out;exact⟨_,an2 ho h1 hs h2 h3,h⟩
 ·rename_i t x f ho;obtain⟨a,h1,h⟩:=h.out;obtain⟨n,hn,h⟩:=h.out;obtain⟨b,h2,h⟩:=h.out;exact⟨_,an7 ho hn h1 h2,h⟩
 ·rename_i t x ix ho;obtain⟨a,h1,h⟩:=h.out;obtain⟨i,h2,h⟩:=h.out;obtain⟨j,i,rfl,h⟩:=nB h;obtain⟨⟨on,sz⟩,ht,h⟩:=h.out;cases on with
  |some n=>
   obtain⟨⟨h3,h4⟩,h⟩:=h;obtain⟨q,h5,h⟩:=h.out;exact⟨_,aoa ho ht h1 h2 h3 h4 h5,h⟩
  |none=>
   obtain⟨⟨n,p⟩,akH,h⟩:=ao.out h;obtain⟨⟨h3,h4⟩,h⟩:=h;obtain⟨q,h5,h⟩:=h.out;exact⟨_,an9 ho ht h1 akH h2 h3 h4 h5,h⟩
 ·rename_i t x f ho;obtain⟨a,h1,h⟩:=h.out;obtain⟨l,rfl,h⟩:=aer h;obtain⟨⟨off,n,g⟩,h2,h⟩:=h.out;obtain⟨b,h3,h⟩:=h.out;exact⟨_,an8 ho h2 h1 h3,h⟩
 ·rename_i t x ix ho;obtain⟨a,h1,h⟩:=h.out;obtain⟨i,h2,h⟩:=h.out;obtain⟨j,i,rfl,h⟩:=nB h;split at h
  ·obtain⟨⟨n,sz,g⟩,h3,h⟩:=h.out;obtain⟨⟨h4,h5⟩,h⟩:=h;obtain⟨b,h6,h⟩:=h.out;exact⟨_,aoc ho h3 h1 h2 h4 h5 h6,h⟩
  ·obtain⟨h3,h4,h⟩:=h;obtain⟨c,h5,h⟩:=h.out;split at h3
   ·rename_i hl;exact⟨_,aob ho hl h1 h2 h4 h5,h⟩
   ·exact h3.elim
  ·exact h.elim
 ·rename_i t x ho;obtain⟨p,h1,h⟩:=h.out;obtain⟨l,hl,h⟩:=h.out;obtain⟨⟨n,g⟩,ht,h⟩:=h.out;cases g with
  |true=>exact⟨_,aof ho ht h1 hl h.1,h.2⟩
  |false=>
   obtain⟨av,h2,h⟩:=ao.out h;exact⟨_,aog ho ht h1 hl h2,h⟩
 ·rename_i t m k' ok ho;obtain⟨⟨kt,et⟩,h1,hA⟩:=h.out;obtain⟨z,h2,hB⟩:=hA.out;obtain⟨p,h3,hC⟩:=hB.out;obtain⟨a,h4,hD⟩:=hC.out;obtain⟨K,h5,hE⟩:=hD.out;obtain⟨id,e1,hF⟩:=DF hE;subst e1;split at hF
  ·rename_i es ck hH;obtain⟨h6,fd,h7,h8⟩:=hF;exact⟨_,aoh ho h1 h2 h3 h4 h5 hH h6 h7,h8⟩
  ·exact hF.elim
 ·rename_i t x lo hi mx ho;obtain⟨a,h1,h⟩:=h.out;obtain⟨l,h2,h⟩:=h.out;obtain⟨hh,h3,h⟩:=h.out;obtain⟨m,h4,h⟩:=h.out;unfold rB at h;split at h
  ·obtain⟨⟨e,sz⟩,h5,h⟩:=h.out;exact aos ho h5 h1 h2 h3 h4 h
  ·obtain⟨⟨e,sz⟩,h5,h⟩:=h.out;exact aou ho h5 h1 h2 h3 h4 h
  ·obtain⟨⟨n,sz⟩,h5,h⟩:=h.out;exact aot ho h5 h1 h2 h3 h4 h
  ·exact h.elim
 ·rename_i it ho;obtain⟨p,h1,hA⟩:=h.out;obtain⟨id,off,e1,hB⟩:=AN hA;clear h hA;subst e1;obtain⟨e1,hC⟩:=hB;subst e1;split at hC
  ·rename_i m since seen ck hI;split at hC
   ·rename_i es Of hM;obtain⟨e1,hD⟩:=hC;subst e1;obtain⟨b,h2,hE⟩:=hD.out;obtain⟨e,h3,hF⟩:=hE.out;exact⟨_,an4 ho h1 hI hM h2 h3,hF⟩
   ·exact hC.elim
  ·exact hC.elim
 ·rename_i c ho;split at h
  ·rename_i aV;obtain⟨x,h1,h⟩:=h.out;obtain⟨t,h2,h⟩:=h.out;obtain⟨a,h3,h⟩:=h.out;unfold rA at h;split at h
   ·rename_i hl;exact⟨_,abi ho aV h1 h2 hl h3 rfl,h⟩
   ·rename_i hl;exact⟨_,abi ho aV h1 h2 hl h3 rfl,h⟩
   ·rename_i hl;exact⟨_,aoe ho aV h1 h2 hl h3,h⟩
   ·rename_i hl;split at h
    ·rename_i hM;exact⟨_,aod ho aV h1 h2 hl h3 hM,h⟩
    ·exact h.elim
   ·exact h.elim
  ·rename_i aV;split at h
   ·rename_i x y cI;obtain⟨a,h1,hA⟩:=h.out;obtain⟨b,h2,hB⟩:=hA.out;obtain⟨j,m,e1,hC⟩:=nB hB;obtain⟨j',n,e2,hD⟩:=nB hC;subst e1 e2;exact⟨_,aok ho aV (mI cI) h1 h2,hD⟩
   ·exact h.elim
  ·rename_i aV;split at h
   ·rename_i x y cI;obtain⟨a,h1,hA⟩:=h.out;obtain⟨b,h2,hB⟩:=hA.out;obtain⟨j,m,e1,hC⟩:=nB hB;obtain⟨j',n,e2,hD⟩:=nB hC;subst e1 e2;exact⟨_,aol ho aV (mI cI) h1 h2,hD⟩
   ·exact h.elim
  ·exact h.elim
 ·exact h.elim
end
open Go.Conc
structure lB (X Y:Prop):Type where
 n:Nat
def p8 (b bU:Bool)(X Y:Prop)(_t:lB X Y):Prop:=(b=bU->X)/\(b= !bU->Y)
theorem wK{b bU:Bool}{X Y:Prop}{t:lB X Y}(h1:b=bU->X)(h2:b= !bU->Y):p8 b bU X Y t:=⟨h1,h2⟩
theorem aiU(X Y:Prop)(t:lB X Y):p8 true true X Y t=X:=by simp[p8]
theorem aiT(X Y:Prop)(t:lB X Y):p8 true false X Y t=Y:=by simp[p8]
theorem aiS(X Y:Prop)(t:lB X Y):p8 false true X Y t=Y:=by simp[p8]
theorem aiR(X Y:Prop)(t:lB X Y):p8 false false X Y t=X:=by simp[p8]
section
variable (lv:Bool)(P:SJ)
def sQ (H:List aa)(k:AV->List aa->Prop)(id off n c0 m sz:Nat)(elem:TypeId)(l':List AV):Prop:=off=0/\c0<n/\l'.length=m* sz/\n+m<=2^30/\(∀a∈l',a.leaf=true)/\match H[id]?with
 |some (.own eg l el)=>eg=sz/\el=elem/\l.length=n* sz/\k (.bD H.length 0 (n+m) 0) (H.set id .gone++[.own sz (l++l') elem])
 |_=>False
def AV.o4 (a:AV)(kO:Nat->Nat->Nat->Nat->Prop)(k:Nat->List AV->End->Prop):Prop:=match a with
 |.bD id off n c=>kO id off n c
 |.sl n l e=>k n l e
 |_=>False
theorem HB{a:AV}{kO:Nat->Nat->Nat->Nat->Prop}{k:Nat->List AV->End->Prop}(h:a.o4 kO k):(∃id off n c,a=.bD id off n c/\kO id off n c)\/∃n l e,a=.sl n l e/\k n l e:=by
 unfold AV.o4 at h;split at h
 ·exact .inl ⟨_,_,_,_,rfl,h⟩
 ·exact .inr ⟨_,_,_,rfl,h⟩
 ·exact h.elim
def l5 (s:AS)(o:Tv)(next:AS->Prop)(bad:AV->AS->Prop):Prop:=match o.op with
 |.box t x=>ao (s.ev x) λa=>ao a.parts λl=>next ((⟨s.T,s.H++[.cells l t]⟩:AS).put o.dst (.op s.H.length 0))
 |.alloc t=>ao (ey P t) λz=>next ((⟨s.T,s.H++[.cells (lA z) t]⟩:AS).put o.dst (.op s.H.length 0))
 |.store t x y=>ao (s.ev x) λp=>ao (s.ev y) λa=>ao a.parts λlp=>p.o1 λid off=>match s.H[id]?with
  |some (.cells l el)=>(ao (Ty P t) λx=>lp.length=x.1)/\off+lp.length<=l.length/\(∀a∈lp,a.leaf=true)/\next ((⟨s.T,s.H.set id (.cells (h_ l off lp) el)⟩:AS).put o.dst (.val undef))
  |some (.part p l el)=>p<=off/\(ao (Ty P t) λx=>lp.length=x.1)/\off+lp.length<=l.length/\(∀a∈lp,a.leaf=true)/\next ((⟨s.T,s.H.set id (.part p (h_ l off lp) el)⟩:AS).put o.dst (.val undef))
  |some (.own p l el)=>(ao (Ty P t) λx=>lp.length=x.1)/\off+lp.length<=l.length/\(∀a∈lp,a.leaf=true)/\next ((⟨s.T,s.H.set id (.own p (h_ l off lp) el)⟩:AS).put o.dst (.val undef))
  |_=>False
 |.makeMap _ none=>next ((⟨s.T,s.H++[.obj (.map #[] 0)]⟩:AS).put o.dst (.mp s.H.length))
 |.makeSlice t x y=>ao (Aq P t) λ(e,sz,z)=>ao (s.ev x) λa=>ao (s.ev y) λb=>a.asInt λ_ n=>b.asInt λ_ n'=>n'=n/\0<=n/\n<=2^30/\next ((⟨s.T,s.H++[.cells (gr z (n.toNat* sz)) e]⟩:AS).put o.dst (.bD s.H.length 0 n.toNat n.toNat))
 |.mapUpdate t m k x=>ao (od P t) λ(kt,_)=>ao (s.ev m) λp=>ao (s.ev k) λa=>ao (s.ev x) λb=>ao a.raw λK=>ao b.raw λX=>p.rL λid=>match s.H[id]?with
  |some (.obj (.map es ck))=>cp P (Va false 10000 kt K) ()/\∃fd,cp P (VM kt K es.toList) fd/\(∀i v,fd=some (i,v)->WA 10000 (((es[i]?).map (·.key)).getD K) K=true)/\next ((⟨s.T,s.H.set id (.obj (vU es ck K X fd))⟩:AS).put o.dst (.val undef))
  |_=>False
 |.range t x=>ao (od P t) λ_=>ao (s.ev x) λp=>p.rL λm=>match s.H[m]?with
  |some (.obj (.map _ ck))=>next ((⟨s.T,s.H++[.iter m ck #[] ck]⟩:AS).put o.dst (.op s.H.length 0))
  |_=>False
 |.next it false=>ao (s.ev it) λp=>p.o1 λid off=>off=0/\match s.H[id]?with
  |some (.iter m since seen sO)=>match s.H[m]?with
   |some (.obj (.map es ck))=>(es.all (λe=>decide (e.born>=sO))=false\/es.isEmpty=true\/seen.isEmpty=true)/\
    (∀e∈es,e.born∉seen->next ((⟨s.T,s.H.set id (.iter m since (seen.push e.born) ck)⟩:AS).put o.dst (.aJ [.val (.bool true),AV.of e.key,AV.of e.val])))/\
    ((∀e∈es,e.born<since->e.born∈seen)->next (s.put o.dst (.aJ [.val (.bool false)])))
   |_=>False
  |_=>False
 |.panic x=>ao (s.ev x) λa=>match a with
  |.cS t av=>bad (.cS t av) s
  |_=>False
 |.binOp op t x (.const (.slice none 0 0)) _=>(op=.eql\/op=.neq)/\ao (jU P t) λ_=>ao (s.ev x) λa=>ao a.len λn=>∀b:Bool,(0<n->b=false)->next (s.put o.dst (.val (.bool (if op== .neq then !b else b))))
 |.call c=>match c.callee with
  |.builtin .append=>match c.args.toList,c.argTypes.toList with
   |[x,y],[t,t']=>ao (jo P t t') λ(elem,sz,_)=>ao (s.ev x) λa=>ao (s.ev y) λb=>a.o4 (λid off n c0=>ao (s.src sz b) λ(m,l')=>sQ s.H (λb H'=>next ((⟨s.T,H'⟩:AS).put o.dst b)) id off n c0 m sz elem l') λn l e=>ao (s.src sz b) λ(m,l')=>l.length=n* sz/\l'.length=m* sz/\n+m<=2^30/\Ag s o.dst next n m sz elem l l' e
   |_,_=>False
  |.builtin .copy=>match c.args.toList,c.argTypes.toList with
   |[x,y],[t,_]=>ao (jU P t) λ(_,sz)=>ao (s.ev x) λa=>ao (s.ev y) λb=>match a with
    |.bD id off n _=>match s.H[id]?with
     |some (.cells l el)=>ao (s.src sz b) λ(m,l')=>l'.length=m* sz/\off+min m n* sz<=l.length/\(∀a∈l',a.leaf=true)/\next ((⟨s.T,s.H.set id (.cells (h_ l off (l'.take (min m n* sz))) el)⟩:AS).put o.dst (.val (.int .i64 (min m n:Nat))))
     |_=>False
    |_=>False
   |_,_=>False
  |.builtin .delete=>match c.args.toList,c.argTypes.toList with
   |[m,k],[t,_]=>ao (od P t) λ(kt,_)=>ao (s.ev m) λp=>ao (s.ev k) λa=>ao a.raw λK=>p.rL λid=>match s.H[id]?with
    |some (.obj (.map es ck))=>cp P (Va es.isEmpty 10000 kt K) ()/\∃fd,cp P (VM kt K es.toList) fd/\next ((⟨s.T,s.H.set id (.obj (.map (DX es fd) ck))⟩:AS).put o.dst (.val undef))
    |_=>False
   |_,_=>False
  |.value x=>ao (s.ev x) λf=>ao (eT s c.args.toList) λaD=>Ah lv P f s.H aD (λb H'=>next ((⟨s.T,H'⟩:AS).put o.dst b)) (λpv H'=>bad pv ⟨s.T,H'⟩) ⟨0⟩
  |.invoke x name=>ao (s.ev x) λf=>ao (eT s c.args.toList) λaD=>ada lv P f name s.H aD (λb H'=>next ((⟨s.T,H'⟩:AS).put o.dst b)) (λpv H'=>bad pv ⟨s.T,H'⟩) ⟨0⟩
  |_=>kP P s o λav=>next (s.put o.dst av)
 |_=>kP P s o λav=>next (s.put o.dst av)
def gV (all:Array Tv):List Tv->AS->(AS->Prop)->(AV->AS->Prop)->Prop
 |[],s,next,_=>next s
 |o::rest,s,next,bad=>match o.guard with
  |none=>l5 lv P s o (λs'=>gV all rest s' next bad) bad
  |some (j,bU)=>ao ((all[j]?).bind (·.dst)) λd=>ao (look s.T d) λa=>a.asBool λb=>p8 b bU (l5 lv P ⟨(d,.val (.bool bU))::s.T,s.H⟩ o (λs'=>gV all rest s' next bad) bad) (gV all rest ((⟨(d,.val (.bool !bU))::s.T,s.H⟩:AS).put o.dst (.val undef)) next bad) ⟨0⟩
end
section
variable {lv:Bool}{P:SJ}{r:Option Nat}{s:AS}
theorem ru{c:Xr}{x y:TypeId}(h:c.argTypes.toList=[x,y]):c.argTypes=#[x,y]:=by
 apply Vz;simpa using h
theorem l5.sound{o:Tv}{next:AS->Prop}{bad:AV->AS->Prop}(h:l5 lv P s o next bad):Step lv P r o s next bad:=by
 have quiet:(kP P s o λav=>next (s.put o.dst av))->Step lv P r o s next bad:=λh=>by
  obtain⟨av,h1,h2⟩:=h.sound (lv:=lv) (r:=r);exact h1.step h2
 unfold l5 at h;split at h
 ·rename_i t x ho;obtain⟨a,h1,h⟩:=h.out;obtain⟨l,h2,h⟩:=h.out;exact aca ho h1 h2 h
 ·rename_i t ho;obtain⟨z,h1,h⟩:=h.out;exact ab7 ho h1 h
 ·rename_i t x y ho;obtain⟨p,h1,hA⟩:=h.out;obtain⟨a,h2,hB⟩:=hA.out;obtain⟨lp,h3,hC⟩:=hB.out;obtain⟨id,off,e1,hD⟩:=AN hC;clear h hA hB hC;subst e1;split at hD
  ·rename_i l el hk;obtain⟨q1,q2,q3,q4⟩:=hD;obtain⟨⟨n,g⟩,q5,q6⟩:=q1.out;exact acg ho q5 h1 hk h2 h3 q6 q2 q3 q4
  ·rename_i p l el hk;obtain⟨q0,q1,q2,q3,q4⟩:=hD;obtain⟨⟨n,g⟩,q5,q6⟩:=q1.out;exact aqh ho q5 h1 hk q0 h2 h3 q6 q2 q3 q4
  ·rename_i p l el hk;obtain⟨q1,q2,q3,q4⟩:=hD;obtain⟨⟨n,g⟩,q5,q6⟩:=q1.out;exact ach ho q5 h1 hk h2 h3 q6 q2 q3 q4
  ·exact hD.elim
 ·rename_i t ho;exact aqb ho h
 ·rename_i t x y ho;obtain⟨⟨e,sz,z⟩,h1,hA⟩:=h.out;obtain⟨a,h2,hB⟩:=hA.out;obtain⟨b,h3,hC⟩:=hB.out;obtain⟨j,n,e1,hD⟩:=nB hC;obtain⟨j',n',e2,hE⟩:=nB hD;clear h hA hB hC hD;subst e1 e2;obtain⟨e3,h4,h5,h6⟩:=hE;subst e3;obtain⟨m,rfl⟩:∃m:Nat,n'=m:=⟨n'.toNat,by omega⟩;exact ace ho h1 h2 h3 (by omega) (by simpa using h6)
 ·rename_i t m k x ho;obtain⟨⟨kt,et⟩,h1,hA⟩:=h.out;obtain⟨p,h2,hB⟩:=hA.out;obtain⟨a,h3,hC⟩:=hB.out;obtain⟨b,h4,hD⟩:=hC.out;obtain⟨K,h5,hE⟩:=hD.out;obtain⟨X,h6,hF⟩:=hE.out;obtain⟨id,e1,hG⟩:=DF hF;clear h hA hB hC hD hE hF;subst e1;split at hG
  ·rename_i es ck hH;obtain⟨q1,fd,q2,q3,q4⟩:=hG;exact aqc (.inl ho) h1 h2 h3 h4 h5 h6 hH q1 q2 q3 q4
  ·exact hG.elim
 ·rename_i t x ho;obtain⟨⟨kt,et⟩,h1,hA⟩:=h.out;obtain⟨p,h2,hB⟩:=hA.out;obtain⟨m,e1,hC⟩:=DF hB;clear h hA hB;subst e1;split at hC
  ·rename_i es ck hH;exact aqf ho h1 h2 hH hC
  ·exact hC.elim
 ·rename_i it ho;obtain⟨p,h1,hA⟩:=h.out;obtain⟨id,off,e1,hB⟩:=AN hA;clear h hA;subst e1;obtain⟨e1,hC⟩:=hB;subst e1;split at hC
  ·rename_i m since seen sO hI;split at hC
   ·rename_i es ck hM;exact aqd ho h1 hI hM hC.1 hC.2.1 hC.2.2
   ·exact hC.elim
  ·exact hC.elim
 ·rename_i x ho;obtain⟨a,h1,hA⟩:=h.out;split at hA
  ·exact aqe ho h1 hA
  ·exact hA.elim
 ·rename_i op t x yt ho;obtain⟨au,hA⟩:=h;obtain⟨d,h1,hB⟩:=hA.out;obtain⟨a,h2,hC⟩:=hB.out;obtain⟨n,e1,hD⟩:=hC.out;exact aqg ho au h2 e1 h1 hD
 ·rename_i c ho;split at h
  ·rename_i aV;split at h
   ·rename_i x y t t' ha ht;obtain⟨⟨elem,sz,z⟩,h1,hA⟩:=h.out;obtain⟨a,h2,hB⟩:=hA.out;obtain⟨b,h3,hC⟩:=hB.out;rcases HB hC with⟨id,off,n,c0,e1,hD⟩|⟨n,l,e,e1,hD⟩
    ·clear h hA hB hC;subst e1;obtain⟨⟨m,l'⟩,h4,rfl,g2,g3,g4,g5,hE⟩:=hD.out;split at hE
     ·rename_i hk;obtain⟨rfl,rfl,g6,g7⟩:=hE;exact ab8 ho aV (mI ha) (ru ht) h1 h2 g2 hk rfl h3 h4 g6 g3 g4 g5 g7
     ·exact hE.elim
    ·clear h hA hB hC;subst e1;obtain⟨⟨m,l'⟩,h4,h5,h6,h7,h8⟩:=hD.out;exact step_append ho aV (mI ha) (ru ht) h1 h2 h3 h4 h5 h6 h7 h8
   ·exact h.elim
  ·rename_i aV;split at h
   ·rename_i x y t t' ha ht;obtain⟨⟨elem,sz⟩,h1,hA⟩:=h.out;obtain⟨a,h2,hB⟩:=hA.out;obtain⟨b,h3,hC⟩:=hB.out;clear h hA hB;split at hC
    ·split at hC
     ·rename_i hk;obtain⟨⟨m,l'⟩,h4,h5,h6,h7,h8⟩:=hC.out;exact ap9 ho aV (mI ha) (ru ht) h1 h2 hk h3 h4 h5 h6 h7 h8
     ·exact hC.elim
    ·exact hC.elim
   ·exact h.elim
  ·rename_i aV;split at h
   ·rename_i m k t t' ha ht;obtain⟨⟨kt,et⟩,h1,hA⟩:=h.out;obtain⟨p,h2,hB⟩:=hA.out;obtain⟨a,h3,hC⟩:=hB.out;obtain⟨K,h4,hD⟩:=hC.out;obtain⟨id,e1,hE⟩:=DF hD;clear h hA hB hC hD;subst e1;split at hE
    ·rename_i es ck hH;obtain⟨q1,fd,q2,q3⟩:=hE;exact aqa ho aV (mI ha) (ru ht) h1 h2 h3 h4 hH q1 q2 q3
    ·exact hE.elim
   ·exact h.elim
  ·rename_i x aV;obtain⟨f,h1,hA⟩:=h.out;obtain⟨aD,h2,hB⟩:=hA.out;exact MI ho aV h1 h2 hB
  ·rename_i x name aV;obtain⟨f,h1,hA⟩:=h.out;obtain⟨aD,h2,hB⟩:=hA.out;exact acd ho aV h1 h2 hB
  ·exact quiet h
 ·exact quiet h
structure At (E:Env)(V:View)(s:AS)(a:Act)(nt:Nat):Prop where
 br:Conc E V s.H
 tok:bZ E s.T a.tmps
 size:a.tmps.size=nt
theorem Kept.refl(E:Env)(V:View)(a:Act):Kept E E V V a a:=⟨Env.Le.refl E,rfl,rfl,rfl,rfl⟩
theorem Kept.trans{E E' bO:Env}{V V' aR:View}{a a' b8:Act}(h:Kept E E' V V' a a')(k:Kept E' bO V' aR a' b8):Kept E bO V aR a b8:=
 ⟨h.le.trans k.le,k.size.trans h.size,k.defers.trans h.defers,k.role.trans h.role,k.deaf.trans h.deaf⟩
inductive am where
 |normal
 |exit (id:Nat)
 |goto (l:Nat)
 |ret
 |panic (pv:AV)
def oX (E:Env):am->Ex->Prop
 |.normal,.normal=>True
 |.exit i,.exit j=>i=j
 |.goto i,.goto j=>i=j
 |.ret,.ret=>True
 |.panic pv,.panic ch=>∃v,ch=[{v,recovered:=false}]/\ap E pv v
 |_,_=>False
def aU (lv:Bool)(P:SJ)(r:Option Nat)(nt:Nat)(c:T9)(s:AS)(Φ:am->AS->Prop):Prop:=
 ∀(E:Env)(V:View)(a:Act)(Q:Ex->Act->View->Prop),At E V s a nt->(∀ae e E' V' a' s',Kept E E' V V' a a'->At E' V' s' a' nt->oX E' ae e->Φ ae s'->Q e a' V')->WP lv P r c Q a V
theorem zC{nt:Nat}{all:Array Tv}{Φ:am->AS->Prop}(db:∀o∈all,∀d,o.dst=some d->d<nt)(mU:∀o∈all,r=none\/lR o.op=false):∀(n k:Nat)(s:AS),k+n=all.size->gV lv P all (all.toList.drop k) s (Φ .normal) (λpv s=>Φ (.panic pv) s)->
  ∀(E:Env)(V:View)(a:Act)(Q:Ex->Act->View->Prop),At E V s a nt->(∀ae e E' V' a' s',Kept E E' V V' a a'->At E' V' s' a' nt->oX E' ae e->Φ ae s'->Q e a' V')->c_ lv P r all Q (Ub k n) a V
 |0,k,s,hk,h,E,V,a,Q,ah,hQ=>by
  have:all.toList.drop k=[]:=by simp;omega
  rw[this]at h;exact hQ .normal .normal E V a s (Kept.refl E V a) ah trivial h
 |n+1,k,s,hk,h,E,V,a,Q,ah,hQ=>by
  have hlt:k<all.size:=by omega
  have hd:all.toList.drop k=all[k]::all.toList.drop (k+1):=by
   rw[T8 (by simpa using hlt)];simp
  rw[hd]at h;have fl:all[k]∈all:=XV hlt;have ho:all[k]?=some all[k]:=SK hlt;simp only[VP,c_,ho];have go:∀s:AS,At E V s a nt->l5 lv P s all[k] (λs'=>gV lv P all (all.toList.drop (k+1)) s' (Φ .normal) (λpv s=>Φ (.panic pv) s)) (λpv s=>Φ (.panic pv) s)->we lv P r all[k] a V (c_ lv P r all Q (Ub (k+1) n)) Q:=λs ah h=>by
   refine h.sound (lv:=lv) (r:=r) E V a _ Q ah.br ah.tok (λd e=>by rw[ah.size];exact db _ fl d e) (mU _ fl) (λE' V' a' s' aI bf lP hn=> ?_) (λE' V' s' pv v aI bf lP bi hb=> ?_)
   ·exact zC db mU n (k+1) s' (by omega) hn E' V' a' Q ⟨bf,lP,aI.size.trans ah.size⟩ (λae e bO aR b8 c9 fF cX he hΦ=>hQ ae e bO aR b8 c9 (aI.trans fF) cX he hΦ)
   ·exact hQ (.panic pv) (.panic _) E' V' a s' aI ⟨bf,lP,ah.size⟩ ⟨v,rfl,bi⟩ hb
  simp only[gV]at h;split at h
  ·rename_i hg;have hw:Tf all[k] (yielded all a.tmps)=true:=(by unfold Tf;rw[hg]);rw[if_pos hw];exact .inl (go s ah h)
  ·rename_i j bU hg;obtain⟨d,fS,h⟩:=h.out;obtain⟨av,h1,h⟩:=h.out;obtain⟨b,rfl,h2,h3⟩:=AM h;have hv:=(ah.tok d _ h1).2;have hy:yielded all a.tmps j=some b:=by
    obtain⟨oj,j5,iM⟩:=Td.1 fS;generalize hx:a.tmps.getD d undef=x at hv;cases hv;have lM:d<a.tmps.size:=(ah.tok d _ h1).1;rw[SI,SK lM]at hx;simp only[S8]at hx;simp[yielded,j5,iM,SK lM,hx]
   have qW:∀b',b=b'->At E V ⟨(d,.val (.bool b'))::s.T,s.H⟩ a nt:=λb' du=>by
    subst du;refine⟨ah.br,λt x e=> ?_,ah.size⟩;simp only[look]at e;split at e
    ·rename_i e';subst e';cases e;exact ah.tok d _ h1
    ·exact ah.tok t x e
   by_cases hb:b=bU
   ·have hw:Tf all[k] (yielded all a.tmps)=true:=(by unfold Tf;rw[hg];simp[hy,hb]);rw[if_pos hw];exact .inl (go _ (qW bU hb) (h2 hb))
   ·have hw:¬Tf all[k] (yielded all a.tmps)=true:=(by unfold Tf;rw[hg];simp[hy,hb]);rw[if_neg hw];have du:b= !bU:=(by cases b<;>cases bU<;>simp_all);have tC:=h3 du;have ah:=qW _ du;exact zC db mU n (k+1) ((⟨(d,.val (.bool !bU))::s.T,s.H⟩:AS).put all[k].dst (.val undef)) (by omega) tC E V (a.put all[k].dst undef) Q
     ⟨by rw[eX];exact ah.br,ah.tok.gF (λd e=>by rw[ah.size];exact db _ fl d e) (.val undef),by rw[dR];exact ah.size⟩
     (λae e bO aR b8 c9 fF cX he hΦ=>hQ ae e bO aR b8 c9 ⟨fF.le,fF.size.trans (dR _ _ _),fF.defers.trans (put_defers _ _ _),fF.role,fF.deaf⟩ cX he hΦ)
def jw (nt:Nat)(ops:Array Tv):Bool:=ops.all λo=>(o.dst.all (·<nt))&& !lR o.op
theorem jw.out{nt:Nat}{ops:Array Tv}(hd:jw nt ops=true){o:Tv}(ho:o∈ops):(∀d,o.dst=some d->d<nt)/\lR o.op=false:=by
 have:=(UE.1 hd) o ho;simp only[Th,TW]at this;exact⟨λd e=>by have h1:=this.1;rw[e]at h1;simpa using h1,this.2⟩
theorem NQ{nt id:Nat}{ops:Array Tv}{Φ:am->AS->Prop}(hd:jw nt ops=true)(h:gV lv P ops ops.toList s (Φ .normal) (λpv s=>Φ (.panic pv) s)):aU lv P r nt (.region id ops false) s Φ:=by
 intro E V a Q ah hQ;refine wp_region ?_;rw[Vo];exact zC (Φ:=Φ) (λo ho d e=>(jw.out hd ho).1 d e) (λo ho=> .inr (jw.out hd ho).2) ops.size 0 s (by omega) (by simpa using h) E V a Q ah hQ
theorem NT{nt:Nat}{Φ:am->AS->Prop}(h:Φ .normal s):aU lv P r nt .skip s Φ:=λE V a _ ah hQ=>wp_skip (hQ .normal _ E V a s (Kept.refl E V a) ah trivial h)
theorem NO{nt l:Nat}{Φ:am->AS->Prop}(h:Φ .normal s):aU lv P r nt (.label l) s Φ:=λE V a _ ah hQ=>wp_label (hQ .normal _ E V a s (Kept.refl E V a) ah trivial h)
theorem NN{nt id:Nat}{Φ:am->AS->Prop}(h:Φ (.exit id) s):aU lv P r nt (.exit id) s Φ:=λE V a _ ah hQ=>wp_exit (hQ (.exit id) _ E V a s (Kept.refl E V a) ah rfl h)
theorem NR{nt:Nat}{Φ:am->AS->Prop}(h:Φ .ret s):aU lv P r nt .ret s Φ:=λE V a _ ah hQ=>wp_ret (hQ .ret _ E V a s (Kept.refl E V a) ah trivial h)
def am.then (next:AS->Prop)(Φ:am->AS->Prop):am->AS->Prop
 |.normal,s=>next s
 |e,s=>Φ e s
theorem oX.mono{E E':Env}(h:E.Le E'){ae:am}{e:Ex}(k:oX E ae e):oX E' ae e:=by
 cases ae<;>cases e<;>first|exact k|(obtain⟨v,h1,h2⟩:=k;exact⟨v,h1,h2.mono h⟩)
theorem gX{nt:Nat}{x y:T9}{Φ:am->AS->Prop}(h:aU lv P r nt x s (am.then (λs'=>aU lv P r nt y s' Φ) Φ)):aU lv P r nt (.seq x y) s Φ:=by
 intro E V a Q ah hQ;refine wp_seq (h E V a _ ah λae e E' V' a' s' hk aQ he hΦ=> ?_);cases ae<;>cases e<;>first
  |exact he.elim
  |exact hΦ E' V' a' Q aQ λae e bO aR b8 c9 aI cX jN sD=>hQ ae e bO aR b8 c9 (hk.trans aI) cX jN sD
  |exact hQ _ _ E' V' a' s' hk aQ he hΦ
theorem aeI{nt:Nat}{c:Tg}{x y:T9}{b:Bool}{Φ:am->AS->Prop}(hc:s.ev c=some (.val (.bool b)))(h1:b=true->aU lv P r nt x s Φ)(h2:b=false->aU lv P r nt y s Φ):aU lv P r nt (.cond c x y) s Φ:=by
 intro E V a Q ah hQ;have hv:=ap.ev ah.tok hc;generalize hx:a.eval c=v at hv;cases hv;refine wp_cond hx ?_;cases b with
 |true=>exact h1 rfl E V a Q ah hQ
 |false=>exact h2 rfl E V a Q ah hQ
def am.inBlock (id:Nat)(Φ:am->AS->Prop):am->AS->Prop
 |.exit nU,s=>if nU=id then Φ .normal s else Φ (.exit nU) s
 |e,s=>Φ e s
theorem NL{nt id:Nat}{c:T9}{Φ:am->AS->Prop}(h:aU lv P r nt c s (am.inBlock id Φ)):aU lv P r nt (.block id c) s Φ:=by
 intro E V a Q ah hQ;refine wp_block (h E V a _ ah λae e E' V' a' s' hk aQ he hΦ=> ?_);cases ae<;>cases e<;>first
  |exact he.elim
  |(rename_i i j
    have e:i=j:=he;subst e;by_cases bY:i=id
    ·simp only[Ex.inBlock,bY,if_true];simp only[am.inBlock,bY,if_true]at hΦ;exact hQ .normal _ E' V' a' s' hk aQ trivial hΦ
    ·simp only[Ex.inBlock,bY,if_false];simp only[am.inBlock,bY,if_false]at hΦ;exact hQ (.exit i) _ E' V' a' s' hk aQ rfl hΦ)
  |exact hQ _ _ E' V' a' s' hk aQ he hΦ
theorem aU.mono{nt:Nat}{c:T9}{Φ Φ':am->AS->Prop}(h:aU lv P r nt c s Φ)(hm:∀e s,Φ e s->Φ' e s):aU lv P r nt c s Φ':=λE V a Q ah hQ=>
 h E V a Q ah λae e E' V' a' s' hk aQ he hΦ=>hQ ae e E' V' a' s' hk aQ he (hm _ _ hΦ)
def Wk (b a:AV):Prop:=∀E v,ap E b v->ap E a v
theorem Wk.refl(a:AV):Wk a a:=λ_ _ h=>h
theorem iY(n:Nat)(l:List AV)(e:End):Wk (.sl n l e) (.sl n l .shut):=λ_ _ h=>by
 cases h with
 |sl b o cap f hc he h1 h2=>exact .sl b o cap f hc trivial h1 h2
 |nil he=>exact .nil trivial
structure AS.Sub (s s':AS):Prop where
 tok:∀t a,look s'.T t=some a->∃b,look s.T t=some b/\Wk b a
 H:s.H=s'.H
theorem At.sub{E:Env}{V:View}{s s':AS}{a:Act}{nt:Nat}(h:At E V s a nt)(hl:s.Sub s'):At E V s' a nt:=
 ⟨by rw[<- hl.H];exact h.br,λt x e=>by obtain⟨b,h1,h2⟩:=hl.tok t x e;exact⟨(h.tok t b h1).1,h2 _ _ (h.tok t b h1).2⟩,h.size⟩
theorem AR{lv:Bool}{P:SJ}{r:Option Nat}{nt:Nat}{c:T9}{s s':AS}{Φ:am->AS->Prop}(hl:s.Sub s')(h:aU lv P r nt c s' Φ):aU lv P r nt c s Φ:=λE V a Q ah hQ=>h E V a Q (ah.sub hl) hQ
inductive Lt (n:Nat):AV->Prop
 |val (x:SO):Lt n (.val x)
 |agg {l:List AV} (h:∀a∈l,Lt n a):Lt n (.agg l)
 |aJ {l:List AV} (h:∀a∈l,Lt n a):Lt n (.aJ l)
 |sl {m:Nat} {l:List AV} {e:End} (he:∀k,e=.opn k->k<n) (h:∀a∈l,Lt n a):Lt n (.sl m l e)
 |bD {id off m cap:Nat} (h:id<n):Lt n (.bD id off m cap)
 |rp {l:List AV} (h:∀a∈l,Lt n a):Lt n (.rp l)
 |op {id off:Nat} (h:id<n):Lt n (.op id off)
 |fn {f:Fn} {first cM:List AV} (h1:∀a∈first,Lt n a) (h2:∀a∈cM,Lt n a):Lt n (.fn f first cM)
 |cS {t:TypeId} {x:AV} (h:Lt n x):Lt n (.cS t x)
 |mp {id:Nat} (h:id<n):Lt n (.mp id)
theorem oP{l:List AV}{a:AV}(h:a∈l):∃i:Nat,l[i]?=some a:=UO.1 h
theorem ap.lt{E:Env}{a:AV}{v:SO}(d:ap E a v):Lt E.n a:=by
 induction d with
 |val x=>exact .val x
 |agg hs _ ih=>exact .agg λa h=>(oP h).elim λi hi=>ih i a hi
 |aJ hs _ ih=>exact .aJ λa h=>(oP h).elim λi hi=>ih i a hi
 |sl b o cap f hc he h1 _ ih=>exact .sl (λk e=>by subst e;exact he.1) λa h=>(oP h).elim λi hi=>ih i a hi
 |nil he=>exact .sl (λk e=>by subst e;exact he.1) (by simp)
 |bD hi _=>exact .bD hi
 |rp b o f h1 _ ih=>exact .rp λa h=>(oP h).elim λi hi=>ih i a hi
 |op hi=>exact .op hi
 |fn dF fI _ _ mq kK=>exact .fn (λa h=>(oP h).elim λi hi=>mq i a hi) (λa h=>(oP h).elim λi hi=>kK i a hi)
 |cS _ ih=>exact .cS ih
 |mp hi=>exact .mp hi
theorem Lt.mono{n m:Nat}(h:n<=m){a:AV}(d:Lt n a):Lt m a:=by
 induction d with
 |val x=>exact .val x
 |agg _ ih=>exact .agg ih
 |aJ _ ih=>exact .aJ ih
 |sl he _ ih=>exact .sl (λk e=>Tc (he k e) h) ih
 |bD hi=>exact .bD (Tc hi h)
 |rp _ ih=>exact .rp ih
 |op hi=>exact .op (Tc hi h)
 |fn _ _ mq kK=>exact .fn mq kK
 |cS _ ih=>exact .cS ih
 |mp hi=>exact .mp (Tc hi h)
theorem oW.trim{E:Env}{e:End}{a:Option U2}{m cap n:Nat}(h:oW E e a m cap)(hk:∀k,e=.opn k->k<n):oW {E with n:=n} e a m cap:=by
 cases e with
 |exact=>exact h
 |shut=>trivial
 |opn k=>exact⟨hk k rfl,h.2⟩
theorem get_mem{l:List AV}{i:Nat}{a:AV}(h:l[i]?=some a):a∈l:=UO.2 ⟨i,h⟩
theorem ap.trim{E:Env}{a:AV}{v:SO}(d:ap E a v){n:Nat}(h:Lt n a):ap {E with n:=n} a v:=by
 induction d with
 |val x=>exact .val x
 |agg hs _ ih=>cases h with|agg h=>exact .agg hs λi a e=>ih i a e (h a (get_mem e))
 |aJ hs _ ih=>cases h with|aJ h=>exact .aJ hs λi a e=>ih i a e (h a (get_mem e))
 |sl b o cap f hc he h1 _ ih=>cases h with|sl hk h=>exact .sl b o cap f hc (he.trim hk) h1 λi a e=>ih i a e (h a (get_mem e))
 |nil he=>cases h with|sl hk h=>exact .nil (he.trim hk)
 |bD hi dJ=>cases h with|bD h=>exact .bD (E:={E with n:=n}) h dJ
 |rp b o f h1 _ ih=>cases h with|rp h=>exact .rp b o f h1 λi a e=>ih i a e (h a (get_mem e))
 |op hi=>cases h with|op h=>exact .op (E:={E with n:=n}) h
 |fn dF fI _ _ mq kK=>cases h with|fn h1 h2=>exact .fn dF fI (λi a e=>mq i a e (h1 a (get_mem e))) λi a e=>kK i a e (h2 a (get_mem e))
 |cS _ ih=>cases h with|cS h=>exact .cS (ih h)
 |mp hi=>cases h with|mp h=>exact .mp (E:={E with n:=n}) h
def eR (n:Nat):aa->Prop
 |.cells l _|.part _ l _|.own _ l _=>∀a∈l,Lt n a
 |.iter m _ _ _=>m<n
 |.loop _ _ _ _ T _ _ _ _ df=>(∀t a,look T t=some a->Lt n a)/\df<n
 |_=>True
theorem eR.mono{n m:Nat}(h:n<=m){x:aa}(k:eR n x):eR m x:=by
 cases x with
 |cells l el=>exactλa ha=>(k a ha).mono h
 |part p l el=>exactλa ha=>(k a ha).mono h
 |own p l el=>exactλa ha=>(k a ha).mono h
 |iter=>exact Tc k h
 |loop=>exact⟨λt a e=>(k.1 t a e).mono h,Tc k.2 h⟩
 |_=>trivial
theorem fz.olt{E:Env}{V:View}{k:Nat}{x:aa}(h:fz E V k x):eR E.n x:=by
 cases x with
 |cells l el=>obtain⟨⟨cs,_,h2⟩,_⟩:=h;exactλa ha=>(oP ha).elim λi hi=>(h2.2 i a hi).lt
 |part p l el=>obtain⟨⟨cs,_,h2,_⟩,_⟩:=h;exactλa ha=>(oP ha).elim λi hi=>(h2.2 i a hi).lt
 |own p l el=>obtain⟨⟨cs,_,h2,_⟩,_⟩:=h;exactλa ha=>(oP ha).elim λi hi=>(h2.2 i a hi).lt
 |iter m a b c=>exact h.1
 |loop=>obtain⟨⟨tmps,_,_,h2⟩,h3,_⟩:=h;exact⟨λt a e=>(h2 t a e).2.lt,h3⟩
 |_=>trivial
theorem fz.trim{E:Env}{V:View}{k n:Nat}{x:aa}(h:fz E V k x)(hl:eR n x):fz {E with n:=n} V k x:=by
 cases x with
 |cells l el=>obtain⟨⟨cs,h1,h2⟩,h3⟩:=h;exact⟨⟨cs,h1,h2.1,λi a e=>(h2.2 i a e).trim (hl a (get_mem e))⟩,h3⟩
 |part p l el=>obtain⟨⟨cs,h1,h2,h4⟩,h3⟩:=h;exact⟨⟨cs,h1,⟨h2.1,λi a e=>(h2.2 i a e).trim (hl a (get_mem e))⟩,h4⟩,h3⟩
 |own p l el=>obtain⟨⟨cs,h1,h2,h4⟩,h3⟩:=h;exact⟨⟨cs,h1,⟨h2.1,λi a e=>(h2.2 i a e).trim (hl a (get_mem e))⟩,h4⟩,h3⟩
 |iter m a b c=>exact⟨hl,h.2⟩
 |tail m sz el=>exact h
 |obj x=>exact h
 |loop=>obtain⟨⟨tmps,h1,h2,h3⟩,h4,h5⟩:=h;exact⟨⟨tmps,h1,h2,λt a e=>⟨(h3 t a e).1,(h3 t a e).2.trim (hl.1 t a e)⟩⟩,hl.2,h5⟩
 |gone=>trivial
 |main=>exact h
def bM (H:List aa):Prop:=∀x∈H,eR H.length x
theorem Conc.ay{E:Env}{V:View}{H:List aa}(h:Conc E V H):bM H:=λx hx=>by
 obtain⟨i,hi⟩:=UO.1 hx;rw[<- h.n];exact(h.obj i x hi).olt
theorem DN(E:Env)(n k:Nat)(x:aa):bJ {E with n:=n} k x=bJ E k x:=by cases x<;>rfl
theorem Conc.trim{E:Env}{V:View}{H G:List aa}(h:Conc E V (H++G))(hl:bM H):Conc {E with n:=H.length} V H:=by
 have hg:∀(k:Nat) x,H[k]?=some x->(H++G)[k]?=some x:=λk x e=>by rw[SZ (SN.1 e).1];exact e
 refine⟨h.I,rfl,λk x e=>(h.obj k x (hg k x e)).trim (hl x (Ti e)),λi j x y b h1 h2 h3 h4=> ?_,λg jO=> ?_,λg jO=> ?_,h.top,λb y jO=> ?_⟩
 ·rw[DN]at h3 h4;exact h.inj i j x y b (hg i x h1) (hg j y h2) h3 h4
 ·obtain⟨q0,q1,q2⟩:=h.group g jO;exact⟨q0,q1,λk x e=>by rw[DN];exact q2 k x (hg k x e)⟩
 ·obtain⟨q0,q1,q2⟩:=h.chan g jO;exact⟨q0,q1,λk x e=>by rw[DN];exact q2 k x (hg k x e)⟩
 ·obtain⟨q0,q1,q2⟩:=h.fr b y jO;exact⟨q0,q1,λk x e=>by rw[DN];exact q2 k x (hg k x e)⟩
structure AS.He (s s':AS):Prop where
 tok:∀t a,look s'.T t=some a->∃b,look s.T t=some b/\Wk b a/\Lt s'.H.length a
 H:∃G,s.H=s'.H++G
 ok:bM s'.H
theorem CY{E:Env}{n m:Nat}(h1:m<=n)(h2:n<=E.n){E0:Env}(h:E0.Le E)(h0:E0.n=m):E0.Le {E with n:=n}:=⟨h.I,by show E0.n<=n;omega,h.blk,h.fh,h.room,h.fr,h.main⟩
theorem At.cut{E:Env}{V:View}{s s':AS}{a:Act}{nt:Nat}(h:At E V s a nt)(hl:s.He s'):At {E with n:=s'.H.length} V s' a nt:=by
 obtain⟨G,hG⟩:=hl.H;have hc:=h.br;rw[hG]at hc;refine⟨hc.trim hl.ok,λt x e=> ?_,h.size⟩;obtain⟨b,h1,h2,h3⟩:=hl.tok t x e;exact⟨(h.tok t b h1).1,(h2 _ _ (h.tok t b h1).2).trim h3⟩
theorem aeM{nt:Nat}{α:Type}{lt:α->α->Prop}(wf:WellFounded lt){c:T9}{Φ:am->AS->Prop}(inv:α->AS)(ok:α->Prop)(m:α)(h0:s.Sub (inv m))(hm:ok m)(hn:∀m,ok m->s.H.length<=(inv m).H.length)
  (h:∀m,ok m->aU lv P r nt c (inv m) (am.then (λs'=>∃m',lt m' m/\ok m'/\(s'.Sub (inv m')\/s'.He (inv m'))) Φ)):aU lv P r nt (.loop c) s Φ:=by
 intro E V a Q ah hQ;refine M7 wf (I:=λm a' V'=>ok m/\∃E',Kept E E' V V' a a'/\At E' V' (inv m) a' nt) m ⟨hm,E,Kept.refl E V a,ah.sub h0⟩ λm a' V' hI=> ?_;obtain⟨ay,E',hk,aQ⟩:=hI;refine h m ay E' V' a' _ aQ λae e bO aR b8 c9 aI cX he hΦ=> ?_;cases ae<;>cases e<;>first
  |exact he.elim
  |(obtain⟨m',h1,h2,h3⟩:=hΦ
    rcases h3 with h3|h3
    ·exact⟨m',h1,h2,bO,hk.trans aI,cX.sub h3⟩
    ·refine⟨m',h1,h2,_,?_,cX.cut h3⟩;have cz:=hk.trans aI;obtain⟨G,hG⟩:=h3.H;exact⟨CY (hn m' h2) (by rw[cX.br.n,hG];simp) cz.le ah.br.n,cz.size,cz.defers,cz.role,cz.deaf⟩)
  |exact hQ _ _ bO aR b8 c9 (hk.trans aI) cX he hΦ
theorem aeR{nt:Nat}{c:T9}{Φ:am->AS->Prop}(inv:Nat->Nat->AS->Prop)
  (start:∃n:Nat,aU lv P r nt c s (λe s'=>match e with
   |.goto l=>∃rest,findLabel c l=some rest/\∃m,m<n/\inv l m s'
   |e=>Φ e s'))
  (back:∀l rest m s',findLabel c l=some rest->inv l m s'->aU lv P r nt rest s' (λe c9=>match e with
   |.goto l'=>∃xJ,findLabel c l'=some xJ/\∃m',m'<m/\inv l' m' c9
   |e=>Φ e c9)):aU lv P r nt (.scope c) s Φ:=by
 intro E V a Q ah hQ;refine ac0 (λl m a' V'=>∃E' s',Kept E E' V V' a a'/\At E' V' s' a' nt/\inv l m s') ?_ ?_
 ·obtain⟨n,hn⟩:=start;refine⟨n,hn E V a _ ah λae e E' V' a' s' hk aQ he hΦ=> ?_⟩;cases ae<;>cases e<;>first
   |exact he.elim
   |(have e:_=_:=he
     subst e;obtain⟨rest,h1,m,h2,h3⟩:=hΦ;exact⟨rest,h1,m,h2,E',s',hk,aQ,h3⟩)
   |exact hQ _ _ E' V' a' s' hk aQ he hΦ
 ·intro l rest m a' V' hf ⟨E',s',hk,aQ,hi⟩;refine back l rest m s' hf hi E' V' a' _ aQ λae e bO aR b8 c9 aI cX he hΦ=> ?_;cases ae<;>cases e<;>first
   |exact he.elim
   |(have e:_=_:=he
     subst e;obtain⟨xJ,h1,m',h2,h3⟩:=hΦ;exact⟨xJ,h1,m',h2,bO,c9,hk.trans aI,cX,h3⟩)
   |exact hQ _ _ bO aR b8 c9 (hk.trans aI) cX he hΦ
end
def bk:Nat->List AV->List (Nat×AV)
 |_,[]=>[]
 |i,a::l=>(i,a)::bk (i+1) l
theorem Ly:∀(l:List AV)(i t:Nat)(a:AV),look (bk i l) t=some a->i<=t/\l[t-i]?=some a
 |[],_,_,_,h=>by cases h
 |b::l,i,t,a,h=>by
  simp only[bk,look]at h;split at h
  ·rename_i e;subst e;cases h;exact⟨SQ _,by simp⟩
  ·obtain⟨h1,h2⟩:=Ly l (i+1) t a h;refine⟨by omega,?_⟩;have:t-i=(t-(i+1))+1:=(by omega);rw[this,UH];exact h2
def ur (P:SJ)(s:AS):UL->Option AV
 |.tmp t=>look s.T t
 |.cell a t=>(look s.T a).bind λp=>(s.at p).bind λl=>(Ty P t).bind λx=>if x.2 then(if x.1<=l.length then some (.agg (l.take x.1))else none)else l[0]?
def gG (P:SJ)(s:AS):List UL->Option (List AV)
 |[]=>some []
 |x::l=>match ur P s x,gG P s l with
  |some a,some aD=>some (a::aD)
  |_,_=>none
def iD:List AV->AV
 |[a]=>a
 |l=> .aJ l
theorem aoL{P:SJ}{E:Env}{V:View}{s:AS}{a:Act}{nt:Nat}(ah:At E V s a nt){x:UL}{av:AV}(h:ur P s x=some av):
  ∃v,ap E av v/\∀{K:SO->View->Prop}{Kp:SO->View->Prop},K v V->aO P V (match x with|.tmp t=>pure (a.tmps.getD t undef)|.cell b t=>do loadVar t (<- asAddr (a.tmps.getD b undef))) K Kp:=by
 cases x with
 |tmp t=>exact⟨_,(ah.tok t av h).2,λhK=>aq hK⟩
 |cell b t=>
  unfold ur at h;obtain⟨p,h1,h⟩:=Td.1 h;obtain⟨l,h2,h⟩:=Td.1 h;obtain⟨⟨n,g⟩,h3,h⟩:=Td.1 h;obtain⟨i,d,t1,t2,rfl,t4⟩:=Ty.out h3;obtain⟨bb,off,f,hv,hg,jO,hd⟩:=ah.br.at (ah.tok b p h1).2 h2;dsimp only;rw[hv];cases g with
  |true=>
   simp only[if_true]at h;split at h
   ·rename_i hlen;cases h;refine⟨_,H8 hlen hd,λhK=> ?_⟩;refine az ?_;unfold asAddr;refine aq ?_;unfold loadVar;refine CN t2 ?_;rw[t4];simp only[if_true];refine jD t1 ?_;exact az (zV (f:=f) (λh=>jO (by omega)) (λj hj=>hg j (by omega)) (aq hK))
   ·cases h
  |false=>
   simp only[TN,if_false]at h;have hlen:0<l.length:=(SN.1 h).1;have nN:=hg 0 hlen;rw[UJ]at nN;refine⟨_,hd 0 av h,λhK=> ?_⟩;refine az ?_;unfold asAddr;refine aq ?_;unfold loadVar;refine CN t2 ?_;rw[t4];simp only[TN,if_false];exact Mw nN (.inl (jO hlen)) (cD hK)
theorem Gq{P:SJ}{E:Env}{V:View}{s:AS}{a:Act}{nt:Nat}(ah:At E V s a nt):∀(rs:List UL)(l:List AV),gG P s rs=some l->∃vs:List SO,vs.length=l.length/\(∀(i:Nat) x,l[i]?=some x->ap E x (vs.getD i undef))/\
  ∀{K:List SO->View->Prop}{Kp:SO->View->Prop},K vs V->aO P V (rs.mapM λx=>(match x with|.tmp t=>pure (a.tmps.getD t undef)|.cell b t=>do loadVar t (<- asAddr (a.tmps.getD b undef)):Sem SO)) K Kp
 |[],l,h=>by
  cases h;refine⟨[],rfl,by simp,λhK=> ?_⟩;rw[UA];exact aq hK
 |x::rs,l,h=>by
  simp only[gG]at h;split at h
  ·rename_i av lE h1 h2;cases h;obtain⟨v,hv,hs⟩:=aoL ah h1;obtain⟨vs,hl,lm,Fe⟩:=Gq ah rs lE h2;refine⟨v::vs,by simp[hl],λi x hx=> ?_,λhK=> ?_⟩
   ·cases i with
    |zero=>cases hx;simpa using hv
    |succ i=>simpa using lm i x (by simpa using hx)
   ·rw[T_];exact az (hs (az (Fe (aq hK))))
  ·cases h
attribute [seval] Int.natCast_pow Int.natCast_mul Int.natCast_shiftLeft Int.natCast_emod Int.ofNat_sub Int.natCast_shiftRight Int.natCast_add_one Int.natCast_add Int.cast_id Int.natCast_sub Int.natCast_ediv Int.natCast_succ
open Go.Conc
def cy (n0:Nat)(H:List aa)(a:AV)(k:AV->List aa->Prop):Prop:=
 ∃b,Wk a b/\(k b H\/∃H' G,H=H'++G/\n0<=H'.length/\bM H'/\Lt H'.length b/\k b H')
def sT (P:SJ)(rs:List UL)(n0:Nat)(k kp:AV->List aa->Prop):am->AS->Prop
 |.normal,s|.ret,s=>ao (gG P s rs) λl=>cy n0 s.H (iD l) k
 |.panic pv,s=>cy n0 s.H pv kp
 |_,_=>False
theorem bS{n0:Nat}{H:List aa}{a:AV}{k:AV->List aa->Prop}(h:k a H):cy n0 H a k:=⟨a,Wk.refl a,.inl h⟩
theorem jy{H H' G:List aa}{a b:AV}{k:AV->List aa->Prop}{n0:Nat}(hw:Wk a b)(hH:H=H'++G)(hn:n0<=H'.length)(ay:bM H')(hl:Lt H'.length b)(h:k b H'):cy n0 H a k:=⟨b,hw,.inr ⟨H',G,hH,hn,ay,hl,h⟩⟩
theorem wD{n0:Nat}{E0 E:Env}{V':View}{H:List aa}{a:AV}{v:SO}{k:AV->List aa->Prop}(h:cy n0 H a k)(hc:Conc E V' H)(hd:ap E a v)(hle:E0.Le E)(hn:E0.n=n0):∃b E' H',E0.Le E'/\ap E' b v/\Conc E' V' H'/\k b H':=by
 obtain⟨b,hw,h|⟨H',G,rfl,h1,h2,h3,h4⟩⟩:=h
 ·exact⟨b,E,H,hle,hw _ _ hd,hc,h⟩
 ·refine⟨b,{E with n:=H'.length},H',CY h1 (by rw[hc.n];simp) hle hn,(hw _ _ hd).trim h3,hc.trim h2,h4⟩
theorem aif{lv:Bool}{P:SJ}{f:TO}{fn:YF}{c:T9}{rs:List UL}{nt:Nat}{H:List aa}{args:List AV}{k kp:AV->List aa->Prop}(hf:P.funcs[f]?=some fn)(hb:fn.body=some c)(hr:fn.results=rs.toArray)(hn:fn.ntmps=nt)(cI:args.length<=nt)
  (h:bM H->(∀a∈args,Lt H.length a)->aU lv P none nt c ⟨bk 0 args,H⟩ (sT P rs H.length k kp)):ba lv P f H args k kp:=by
 intro E V vs hc hd;have aT:(vs++TK (fn.ntmps-vs.size) undef).size=nt:=by simp[hd.1];omega
 have hlt:∀a∈args,Lt H.length a:=λa ha=>by
  obtain⟨i,hi⟩:=oP ha;rw[<- hc.n];exact(hd.2 i a hi).lt
 refine N5 (by simp) hf hb (h hc.ay hlt E V _ _ ⟨hc,λq a e=> ?_,aT⟩ λae e E' V' a' s' hk ah he hΦ=> ?_)
 ·obtain⟨_,e⟩:=Ly args 0 q a e;simp only[ZY]at e;have hq:q<args.length:=(SN.1 e).1;have sw:q<vs.size:=by rw[hd.1];exact hq
  refine⟨by rw[aT];omega,?_⟩;have:=hd.2 q a e;rw[SI,Yc sw];rwa [SI]at this
 ·have fin:(ao (gG P s' rs) λl=>cy H.length s'.H (iD l) k)->a'.defers=[]/\∃v,aO P V' (results fn a'.tmps) (λx aR=>x=v/\aR=V') (λ_ _=>False)/\gz E V k kp (.ret v) V':=by
   intro hΦ;obtain⟨l,h1,h2⟩:=hΦ.out;have fW:∃v,ap E' (iD l) v/\aO P V' (results fn a'.tmps) (λx aR=>x=v/\aR=V') (λ_ _=>False):=by
    obtain⟨vs,hl,lm,xc⟩:=Gq ah rs l h1;refine⟨if h:vs.length=1 then vs[0]else .tuple vs.toArray,?_,?_⟩
    ·match l,vs,hl,lm with
     |[x],[v],_,lm=>exact lm 0 x rfl
     |[],[],_,lm=>exact .aJ rfl (by simp)
     |x::y::l,v::w::vs,hl,lm=>exact .aJ (by simpa using hl) (λi z hz=>by simpa[SI,SE]using lm i z hz)
    ·unfold results;rw[hr,XZ];refine az ?_;refine az (xc ?_);refine aq (aq ⟨?_,rfl⟩);simp
   obtain⟨v,bi,pD⟩:=fW;obtain⟨b,bO,H',q1,q2,q3,q4⟩:=wD h2 ah.br bi hk.le hc.n;exact⟨hk.defers,v,pD,b,bO,H',q1,hk.role,hk.deaf,q2,q3,q4⟩
  cases ae<;>cases e<;>first
   |exact he.elim
   |exact fin hΦ
   |(obtain⟨v,rfl,bi⟩:=he
     obtain⟨b,bO,H',q1,q2,q3,q4⟩:=wD hΦ ah.br bi hk.le hc.n;exact⟨hk.defers,b,v,bO,H',rfl,q1,hk.role,hk.deaf,q2,q3,q4⟩)
   |exact hΦ.elim
open Go.Conc
theorem amh(k:Nat)(a:AV)(l:List (Nat×AV)):look ((k,a)::l) k=some a:=by simp[look]
theorem ami(k t:Nat)(a:AV)(l:List (Nat×AV))(h:(k==t)=false):look ((k,a)::l) t=look l t:=by
 have:¬k=t:=by simpa using h
 simp[look,this]
theorem vP{α:Type}(a:α)(k:α->Prop):ao (some a) k=k a:=by rw[ao]
theorem aes(b:Bool)(k:Bool->Prop):AV.asBool (.val (.bool b)) k=k b:=by rw[AV.asBool]
theorem aeu(j:TV)(n:Int)(k:TV->Int->Prop):AV.asInt (.val (.int j n)) k=k j n:=by rw[AV.asInt]
theorem aeB(l:List AV)(k:List AV->Prop):AV.wu (.aJ l) k=k l:=by rw[AV.wu]
theorem aeq(l:List AV)(k:List AV->Prop):AV.asAgg (.agg l) k=k l:=by rw[AV.asAgg]
theorem aew(i j:Nat)(k:Nat->Nat->Prop):AV.o1 (.op i j) k=k i j:=by rw[AV.o1]
theorem aev(i:Nat)(k:Nat->Prop):AV.rL (.mp i) k=k i:=by rw[AV.rL]
theorem aez(n:Nat)(l:List AV)(e:End)(k:Nat->List AV->End->Prop):AV.uN (.sl n l e) k=k n l e:=by rw[AV.uN]
theorem adN(P:SJ)(xt:TypeId)(j:TV)(m n:Int)(k:AV->Prop):dg P .add xt (.val (.int j m)) (.val (.int j n)) k=k (.val (.int j (j.wrap (m+n)))):=by simp[dg,mr,lF,ao]
theorem ad0(P:SJ)(xt:TypeId)(j:TV)(m n:Int)(k:AV->Prop):dg P .sub xt (.val (.int j m)) (.val (.int j n)) k=k (.val (.int j (j.wrap (m-n)))):=by simp[dg,mr,lF,ao]
theorem adW(P:SJ)(xt:TypeId)(j:TV)(m n:Int)(k:AV->Prop):dg P .mul xt (.val (.int j m)) (.val (.int j n)) k=k (.val (.int j (j.wrap (m* n)))):=by simp[dg,mr,lF,ao]
theorem adQ(P:SJ)(xt:TypeId)(j:TV)(m n:Int)(k:AV->Prop):dg P .eql xt (.val (.int j m)) (.val (.int j n)) k=k (.val (.bool (m==n))):=by simp[dg,mr,lF,ao]
theorem Nv(P:SJ)(xt:TypeId)(j:TV)(m n:Int)(k:AV->Prop):dg P .neq xt (.val (.int j m)) (.val (.int j n)) k=k (.val (.bool (m !=n))):=by simp[dg,mr,lF,ao]
theorem adV(P:SJ)(xt:TypeId)(j:TV)(m n:Int)(k:AV->Prop):dg P .lss xt (.val (.int j m)) (.val (.int j n)) k=k (.val (.bool (decide (m<n)))):=by simp[dg,mr,lF,ao]
theorem adU(P:SJ)(xt:TypeId)(j:TV)(m n:Int)(k:AV->Prop):dg P .leq xt (.val (.int j m)) (.val (.int j n)) k=k (.val (.bool (decide (m<=n)))):=by simp[dg,mr,lF,ao]
theorem adS(P:SJ)(xt:TypeId)(j:TV)(m n:Int)(k:AV->Prop):dg P .gtr xt (.val (.int j m)) (.val (.int j n)) k=k (.val (.bool (decide (m>n)))):=by simp[dg,mr,lF,ao]
theorem adR(P:SJ)(xt:TypeId)(j:TV)(m n:Int)(k:AV->Prop):dg P .geq xt (.val (.int j m)) (.val (.int j n)) k=k (.val (.bool (decide (m>=n)))):=by simp[dg,mr,lF,ao]
theorem adO(P:SJ)(xt:TypeId)(j:TV)(m n:Int)(k:AV->Prop):dg P .and xt (.val (.int j m)) (.val (.int j n)) k=k (.val (.int j (j.wrap (Uf j.bits m&&&Uf j.bits n).toNat))):=by simp[dg,mr,lF,ao]
theorem AH(P:SJ)(xt:TypeId)(j:TV)(m n:Int)(k:AV->Prop):dg P .or xt (.val (.int j m)) (.val (.int j n)) k=k (.val (.int j (j.wrap (Uf j.bits m|||Uf j.bits n).toNat))):=by simp[dg,mr,lF,ao]
theorem AJ(P:SJ)(xt:TypeId)(j:TV)(m n:Int)(k:AV->Prop):dg P .xor xt (.val (.int j m)) (.val (.int j n)) k=k (.val (.int j (j.wrap (Uf j.bits m^^^Uf j.bits n).toNat))):=by simp[dg,mr,lF,ao]
theorem adY(P:SJ)(xt:TypeId)(j:TV)(m n:Int)(k:AV->Prop):dg P .rem xt (.val (.int j m)) (.val (.int j n)) k=ao (if n=0 then none else some (.int j (m.tmod n))) λv=>k (.val v):=by simp[dg,mr,lF]
theorem adZ(P:SJ)(xt:TypeId)(j j':TV)(m n:Int)(k:AV->Prop):dg P .shl xt (.val (.int j m)) (.val (.int j' n)) k=ao (if n<0 then none else some (.int j (j.wrap (m* 2^(min n.toNat j.bits))))) λv=>k (.val v):=by simp[dg,mr,zY]
theorem AI(P:SJ)(xt:TypeId)(j j':TV)(m n:Int)(k:AV->Prop):dg P .shr xt (.val (.int j m)) (.val (.int j' n)) k=ao (if n<0 then none else some (.int j (m.fdiv (2^(min n.toNat j.bits))))) λv=>k (.val v):=by simp[dg,mr,zY]
theorem agM(T:List (Nat×AV))(H:List aa)(t:Nat):AS.ev ⟨T,H⟩ (.tmp t)=look T t:=by rw[AS.ev]
theorem agD(s:AS)(b:Bool):s.ev (.const (.bool b))=some (.val (.bool b)):=by rw[AS.ev,AV.of]<;>(intros;simp_all)
theorem agH(s:AS)(k:TV)(n:Int):s.ev (.const (.int k n))=some (.val (.int k n)):=by rw[AS.ev,AV.of]<;>(intros;simp_all)
theorem agF(s:AS)(f:TO):s.ev (.func f)=some (.fn (.func f) [] []):=by rw[AS.ev]
theorem agL(s:AS):s.ev (.const (.slice none 0 0))=some (.sl 0 [] .exact):=by rw[AS.ev,AV.of]
theorem agI(s:AS):s.ev (.const (.map none))=some (.val (.map none)):=by rw[AS.ev,AV.of]<;>(intros;simp_all)
theorem agJ(s:AS):s.ev (.const (.pointer none))=some (.val (.pointer none)):=by rw[AS.ev,AV.of]<;>(intros;simp_all)
theorem agE(s:AS):s.ev (.const .nilFunc)=some (.val .nilFunc):=by rw[AS.ev,AV.of]<;>(intros;simp_all)
theorem agG(s:AS):s.ev (.const .nilIface)=some (.val .nilIface):=by rw[AS.ev,AV.of]<;>(intros;simp_all)
theorem anU(T:List (Nat×AV))(H:List aa)(d:Nat)(a:AV):AS.put ⟨T,H⟩ (some d) a=⟨(d,a)::T,H⟩:=by rw[AS.put]
theorem anT(s:AS)(a:AV):AS.put s none a=s:=by rw[AS.put]
theorem aqL(n:AS->Prop)(Φ:am->AS->Prop)(s:AS):am.then n Φ .normal s=n s:=by rw[am.then]
theorem aqN(n:AS->Prop)(Φ:am->AS->Prop)(s:AS):am.then n Φ .ret s=Φ .ret s:=by rw[am.then];intro h;cases h
theorem aqJ(n:AS->Prop)(Φ:am->AS->Prop)(i:Nat)(s:AS):am.then n Φ (.exit i) s=Φ (.exit i) s:=by rw[am.then];intro h;cases h
theorem aqK(n:AS->Prop)(Φ:am->AS->Prop)(i:Nat)(s:AS):am.then n Φ (.goto i) s=Φ (.goto i) s:=by rw[am.then];intro h;cases h
theorem aqM(n:AS->Prop)(Φ:am->AS->Prop)(a:AV)(s:AS):am.then n Φ (.panic a) s=Φ (.panic a) s:=by rw[am.then];intro h;cases h
theorem afr(i:Nat)(Φ:am->AS->Prop)(s:AS):am.inBlock i Φ .normal s=Φ .normal s:=by rw[am.inBlock];intro h h';cases h'
theorem afu(i:Nat)(Φ:am->AS->Prop)(s:AS):am.inBlock i Φ .ret s=Φ .ret s:=by rw[am.inBlock];intro h h';cases h'
theorem afo(i l:Nat)(Φ:am->AS->Prop)(s:AS):am.inBlock i Φ (.goto l) s=Φ (.goto l) s:=by rw[am.inBlock];intro h h';cases h'
theorem afs(i:Nat)(Φ:am->AS->Prop)(a:AV)(s:AS):am.inBlock i Φ (.panic a) s=Φ (.panic a) s:=by rw[am.inBlock];intro h h';cases h'
theorem afp(i:Nat)(Φ:am->AS->Prop)(s:AS):am.inBlock i Φ (.exit i) s=Φ .normal s:=by rw[am.inBlock,if_pos rfl]
theorem afq(i j:Nat)(Φ:am->AS->Prop)(s:AS)(h:(j==i)=false):am.inBlock i Φ (.exit j) s=Φ (.exit j) s:=by
 have:¬j=i:=by simpa using h
 rw[am.inBlock,if_neg this]
theorem aiq(P:SJ)(rs:List UL)(n:Nat)(k kp:AV->List aa->Prop)(s:AS):sT P rs n k kp .ret s=ao (gG P s rs) λl=>cy n s.H (iD l) k:=by rw[sT]
theorem aio(P:SJ)(rs:List UL)(n:Nat)(k kp:AV->List aa->Prop)(s:AS):sT P rs n k kp .normal s=ao (gG P s rs) λl=>cy n s.H (iD l) k:=by rw[sT]
theorem aip(P:SJ)(rs:List UL)(n:Nat)(k kp:AV->List aa->Prop)(a:AV)(s:AS):sT P rs n k kp (.panic a) s=cy n s.H a kp:=by rw[sT]
theorem aoM(P:SJ)(T:List (Nat×AV))(H:List aa)(t:Nat):ur P ⟨T,H⟩ (.tmp t)=look T t:=by rw[ur]
theorem aeH(s:AS)(l:List AV):s.at (.rp l)=some l:=by rw[AS.at]
theorem apA(n i off:Nat):AV.shift n (.op i off)=some (.op i (off+n)):=by rw[AV.shift]
theorem abY(n:Nat)(l:List AV)(h:n<=l.length):AV.shift n (.rp l)=some (.rp (l.drop n)):=by rw[AV.shift,if_pos h]
theorem apB(l:List AV):AV.shift 0 (.rp l)=some (.rp l):=by rw[AV.shift,if_pos (Yd _),XA]
theorem apC(n:Nat)(a:AV)(l:List AV):AV.shift (n+1) (.rp (a::l))=AV.shift n (.rp l):=by simp[AV.shift]
theorem aoX(n:Nat)(l:List AV)(e:End):AV.row (.sl n l e)=some (n,.rp l):=by rw[AV.row]
theorem aoW(i off n cap:Nat):AV.row (.bD i off n cap)=some (n,.op i off):=by rw[AV.row]
theorem adx(P:SJ)(s:AS){t:TypeId}(n:Nat)(l:List AV)(e:End)(k:AV->Prop)(h:kQ P t=some .slice):rA P s t (.sl n l e) k=k (.val (.int .i64 n)):=by unfold rA;rw[h]
theorem adw(P:SJ)(s:AS){t:TypeId}(i off n cap:Nat)(k:AV->Prop)(h:kQ P t=some .slice):rA P s t (.bD i off n cap) k=k (.val (.int .i64 n)):=by unfold rA;rw[h]
theorem adv(P:SJ)(T:List (Nat×AV))(H:List aa){t:TypeId}(id:Nat)(k:AV->Prop){es:Array Wl}{ck:Nat}(h:kQ P t=some .map)(hH:H[id]?=some (.obj (.map es ck))):rA P ⟨T,H⟩ t (.mp id) k=k (.val (.int .i64 es.size)):=by
 unfold rA;rw[h];simp[hH]
theorem bN{a b:AV}:(∃c,some b=some c/\Wk c a)<->Wk b a:=⟨λ⟨_,h,k⟩=>by cases h;exact k,λh=>⟨_,rfl,h⟩⟩
abbrev iv (n:Int):AV:=.val (.int .i64 n)
abbrev bv (b:Bool):AV:=.val (.bool b)
open Go.Conc
theorem NM{lv:Bool}{P:SJ}{r:Option Nat}{s:AS}{nt:Nat}{c:Tg}{x y:T9}{Φ:am->AS->Prop}(h:ao (s.ev c) λa=>a.asBool λb=>(b=true->aU lv P r nt x s Φ)/\(b=false->aU lv P r nt y s Φ)):aU lv P r nt (.cond c x y) s Φ:=by
 obtain⟨a,h1,h2⟩:=h.out;obtain⟨b,rfl,h3,h4⟩:=AM h2;exact aeI h1 h3 h4
theorem OM{α β:Type}{f:α->List β}{m:Nat}(hf:∀x,(f x).length=m):∀{xs:List α}{i:Nat}{x:α},xs[i]?=some x->(xs.flatMap f).drop (i* m)=f x++(xs.drop (i+1)).flatMap f
 |y::xs,0,x,h=>by cases h;simp
 |y::xs,i+1,x,h=>by
  have ih:=OM hf (xs:=xs) (i:=i) (x:=x) (by simpa using h);rw[Uo,Vb,Nat.one_mul,Z3 (i* m) m,<- ac_];have:(f y++xs.flatMap f).drop m=xs.flatMap f:=by rw[<- hf y];simp
  rw[this,ih];simp
 |[],i,x,h=>by simp at h
theorem alX{α β:Type}{f:α->List β}{m:Nat}(hf:∀x,(f x).length=m)(xs:List α):(xs.flatMap f).length=xs.length* m:=by
 induction xs with
 |nil=>simp
 |cons x xs ih=>rw[Uo,S9,hf,ih,Uj,Vb];omega
theorem abW{α:Type}{f:α->List AV}{m:Nat}(hf:∀x,(f x).length=m){xs:List α}{i:Nat}{x:α}(h:xs[i]?=some x):AV.shift (i* m) (.rp (xs.flatMap f))=some (.rp (f x++(xs.drop (i+1)).flatMap f)):=by
 have hi:i<xs.length:=(SN.1 h).1;rw[abY _ _ (by rw[alX hf];exact Ue _ (by omega)),OM hf h]
theorem abX{α:Type}{f:α->AV}{xs:List α}{i:Nat}{x:α}(h:xs[i]?=some x):AV.shift (i* 1) (.rp (xs.map f))=some (.rp (f x::(xs.drop (i+1)).map f)):=by
 have hi:i<xs.length:=(SN.1 h).1;rw[Ye,abY _ _ (by simp;omega)];congr 2;rw[<- ag_,T8 hi,UU];congr 2;rw[SP hi]at h;exact VC h
theorem je{i n:Nat}(h:i<n):(0<=(i:Int)/\(i:Int)<(n:Int))=True:=by simp;exact h
theorem eB{α:Type}{xs:List α}{i:Nat}{x:α}(h:xs[i]?=some x):i<xs.length:=(SN.1 h).1
theorem cC{α:Type}{xs:List α}{i:Nat}(h:i<xs.length):∃x,xs[i]?=some x:=⟨_,SP h⟩
theorem uK(H L:List aa)(i:Nat):(H++L)[H.length+i]?=L[i]?:=by rw[Tj (by omega)];congr 1;omega
theorem aej(H L:List aa):(H++L)[H.length]?=L[0]?:=by have:=uK H L 0;simpa using this
theorem uL(H L:List aa)(i:Nat)(x:aa):(H++L).set (H.length+i) x=H++L.set i x:=by
 rw[UN _ _ (by omega)];congr 2;omega
theorem aen(H L:List aa)(x:aa):(H++L).set H.length x=H++L.set 0 x:=by have:=uL H L 0 x;simpa using this
theorem aei(H L M:List aa):(H++L)++M=H++(L++M):=SD ..
theorem aem(H L:List aa):(H++L).length=H.length+L.length:=S9
theorem eE(n:Nat)(x:SO):Lt n (.val x)=True:=by simp[Lt.val]
theorem aaj(n i o:Nat):Lt n (.op i o)=(i<n):=propext ⟨λh=>by cases h with|op h=>exact h,.op⟩
theorem sG(n:Nat)(l:List AV):Lt n (.agg l)=∀a∈l,Lt n a:=propext ⟨λh=>by cases h with|agg h=>exact h,.agg⟩
theorem jm(n:Nat)(l:List AV):Lt n (.aJ l)=∀a∈l,Lt n a:=propext ⟨λh=>by cases h with|aJ h=>exact h,.aJ⟩
theorem aai(n:Nat)(t:TypeId)(a:AV):Lt n (.cS t a)=Lt n a:=propext ⟨λh=>by cases h with|cS h=>exact h,.cS⟩
theorem un(n m:Nat)(l:List AV):Lt n (.sl m l .shut)=∀a∈l,Lt n a:=propext ⟨λh=>by cases h with|sl _ h=>exact h,λh=> .sl (by simp) h⟩
theorem Lz(n m:Nat)(l:List AV):Lt n (.sl m l .exact)=∀a∈l,Lt n a:=propext ⟨λh=>by cases h with|sl _ h=>exact h,λh=> .sl (by simp) h⟩
theorem aml(n m k:Nat)(l:List AV):Lt n (.sl m l (.opn k))=(k<n/\∀a∈l,Lt n a):=propext ⟨λh=>by cases h with|sl h' h=>exact⟨h' k rfl,h⟩,λh=> .sl (λk' e=>by cases e;exact h.1) h.2⟩
theorem xx(n:Nat)(l:List AV):Lt n (.rp l)=∀a∈l,Lt n a:=propext ⟨λh=>by cases h with|rp h=>exact h,.rp⟩
open Go.Conc
def cK (o:Tv):List Nat:=o.after.toList.filterMap λe=>if Yr .any e then some e.on else none
inductive lC (ops:Array Tv):List Nat->List Nat->Prop
 |nil (X:List Nat) (h:∀i,i<ops.size->i∈X):lC ops X []
 |cons {X:List Nat} {i:Nat} {l:List Nat} (o:Tv) (ho:ops[i]?=some o) (hn:i∉X) (hd:∀j∈cK o,j∈X) (h:lC ops (i::X) l):lC ops X (i::l)
theorem FW{o:Tv}{j:Nat}:j∈cK o<->∃e∈o.after,Yr .any e=true/\e.on=j:=by
 unfold cK;rw[VW];constructor
 ·rintro⟨e,he,h⟩
  split at h
  ·rename_i hb;cases h;exact⟨e,by simpa using he,hb,rfl⟩
  ·cases h
 ·rintro⟨e,he,hb,rfl⟩
  exact⟨e,by simpa using he,by rw[if_pos hb]⟩
theorem Ol{l:List Nat}{i:Nat}(hi:i∈l){p q:Nat->Bool}(m_:∀k,q k=true->p k=true)(hp:p i=true)(hq:q i=false):l.countP q<l.countP p:=by
 induction l with
 |nil=>cases hi
 |cons x l ih=>
  have hle:l.countP q<=l.countP p:=List.countP_mono_left λk _ h=>m_ k h;rcases SL.1 hi with rfl|hi
  ·rw[WS (by simp[hq]),VT hp];omega
  ·have:=ih hi;by_cases hx:q x=true
   ·rw[VT hx,VT (m_ x hx)];omega
   ·rw[WS hx];by_cases jl:p x=true
    ·rw[VT jl];omega
    ·rw[WS jl];exact this
structure Nq (ops:Array Tv)(L:Array Bool)(X:List Nat):Prop where
 size:L.size=ops.size
 mem:∀i,i<ops.size->(L[i]?=some true<->i∈X)
theorem aaa{ops:Array Tv}(gN:∀(i:Nat) o,ops[i]?=some o->∀j∈cK o,j<i):∀(fuel t:Nat)(L:Array Bool)(X:List Nat),Nq ops L X->(SV ops.size).countP (λi=> !X.contains i)<=fuel->lC ops X (UC .any ops fuel t L [])
 |0,t,L,X,hr,hc=>by
  simp only[UC,XW];refine .nil X λi hi=> ?_;have:(SV ops.size).countP (λi=> !X.contains i)=0:=by omega
  have:=List.countP_eq_zero.1 this i (by simpa using hi);simpa using this
 |fuel+1,t,L,X,hr,hc=>by
  have tX:∀i,i∈((SV ops.size).filter λi=> !L.getD i true&&((ops[i]?).map (·.after.all λe=> !Region.binds .any e||L.getD e.on false)).getD false)<->∃o,ops[i]?=some o/\i∉X/\∀j∈cK o,j∈X:=by
   intro i;simp only[Ul,TE,Th,TW];constructor
   ·rintro⟨hi,h1,h2⟩
    have ho:=SK hi;refine⟨ops[i],ho,λhx=> ?_,λj hj=> ?_⟩
    ·have:=(hr.mem i hi).2 hx;rw[SI,this]at h1;cases h1
    ·obtain⟨e,he,hb,rfl⟩:=FW.1 hj;rw[ho]at h2;simp only[UM,S8,UE]at h2;have:=h2 e he;rw[hb]at this;simp only[ak_,XU]at this;have hlt:e.on<ops.size:=Wn (gN i _ ho _ hj) hi;refine(hr.mem _ hlt).1 ?_;rw[SI]at this;cases hx:L[e.on]?with
     |none=>rw[hx]at this;cases this
     |some b=>rw[hx]at this;cases b;cases this;rfl
   ·rintro⟨o,ho,h1,h2⟩
    have hi:i<ops.size:=(SR.1 ho).1;refine⟨hi,?_,?_⟩
    ·rw[SI,SK (by rw[hr.size];exact hi)];simp only[S8];cases hb:L[i]'(by rw[hr.size];exact hi)with
     |false=>rfl
     |true=>exact absurd ((hr.mem i hi).1 (by rw[SK (by rw[hr.size];exact hi),hb])) h1
    ·rw[ho];simp only[UM,S8,UE];intro e he;cases hb:Yr .any e with
     |false=>rfl
     |true=>
      have hj:=FW.2 ⟨e,he,hb,rfl⟩;have hlt:e.on<ops.size:=Wn (gN i _ ho _ hj) hi;have:=(hr.mem _ hlt).2 (h2 _ hj);simp[SI,this]
  simp only[UC];generalize B7:((SV ops.size).filter λi=> !L.getD i true&&((ops[i]?).map (·.after.all λe=> !Region.binds .any e||L.getD e.on false)).getD false)=rs at tX;cases hi:rs[t % rs.length]?with
  |none=>
   have J_:rs=[]:=by
    cases rs with
    |nil=>rfl
    |cons x xs=>
     have hlt:t % (x::xs).length<(x::xs).length:=ar_ _ (by simp);rw[List.getElem?_eq_none_iff]at hi;omega
   simp only[XW];refine .nil X λi=> ?_;induction i using Yo with
   |_ i ih=>
    intro hlt;apply Tu;intro hx;have:i∈rs:=(tX i).2 ⟨ops[i],SK hlt,hx,λj hj=>ih j (gN i _ (SK hlt) j hj) (Wn (gN i _ (SK hlt) j hj) hlt)⟩;rw[J_]at this;cases this
  |some i=>
   simp only[];obtain⟨o,ho,h1,h2⟩:=(tX i).1 (Ti hi);have hlt:i<ops.size:=(SR.1 ho).1;rw[linearise_go_acc,List.reverse_singleton,Y3];refine .cons o ho h1 h2 (aaa gN fuel _ _ (i::X) ⟨by simp[hr.size],λk hk=> ?_⟩ ?_)
   ·by_cases qE:k=i
    ·subst qE;simp[S_ (by rw[hr.size];exact hlt)]
    ·rw[SU (Ne.symm qE),hr.mem k hk];simp[qE]
   ·have fl:i∈(SV ops.size):=(by simpa using hlt);have:(SV ops.size).countP (λk=> !(i::X).contains k)<(SV ops.size).countP (λk=> !X.contains k):=by
     exact Ol fl (λk hk=>by simp only[TW,Up,decide_eq_false_iff_not]at hk⊢;exactλh=>hk (Tb _ h)) (by simpa using h1) (by simp)
    omega
end Go.Gg
