/- A part of the proof. -/
import Derived.Conc.Own5
import Derived.Conc.Own4
import Derived.Conc.Own3
import Derived.Conc.Own2
import Derived.Conc.QuitsD
import Derived.Conc.Deaf
import Derived.Conc.CompanyDraw
import Derived.Conc.Comm2
import Derived.Conc.Beside
import Derived.Conc.Events
import Derived.Orders
set_option linter.all false
set_option maxRecDepth 4000
set_option maxHeartbeats 4000000
open Array renaming all_eq_true_iff_forall_mem->UK,append_assoc->Xq,empty_append->Xp,ext'->VF,getD_eq_getD_getElem?->SH,getElem?_append_left->X7,getElem?_append_right->X2,getElem?_eq_getElem->SJ,getElem?_eq_some_iff->SS,getElem?_map->WF,getElem?_modify->Wi,getElem?_push->Xf,getElem?_push_lt->Yw,getElem?_setIfInBounds_ne->SU,getElem?_setIfInBounds_self_of_lt->S_,getElem_mem->XR,isEmpty_iff->Zd,mem_append->Uu,range->WK,replicate->TL,size_append->XA,toList_map->VK
open BitVec renaming ofInt->Uh
open Bool renaming and_eq_true->Ti,false_eq_true->TN,false_or->Zu,not_eq_true'->TY,not_false->YC,not_true->ai'
open Classical renaming byContradiction->Tm
open Function renaming comp_def->Yv
open Go renaming Addr->U5,BinOp->V_,Call->Xo,CallKind->Xc,Code->T4,Event->Ur,Field->YS,Frame->Ua,Func->YB,FuncId->TO,Goroutine->SG,IntKind->TW,Item->WT,LoopState->Z6,MapEntry->Wl,Oper->Tu,Operand->Th,PanicEntry->ZQ,Program->SI,ResultVar->UO,TypeInfo->Wj,Value->SP,World->Tp
open Go.Act renaming put->XY
open Go.Addr renaming add->at4
open Go.Builtin renaming append_->VB,copy_->auh,delete_->aug,firstCells->Vw,growBy->Zm,lenOf->auf,len_->Yi,nextslicecap->W1,zeroCells->Xi
open Go.CallKind renaming early->U6
open Go.Conc renaming QuitsD->Y4,seen_none->Z8,served->T5
open Go.Deferred renaming ofValue->U4
open Go.Event renaming mute->WH
open Go.Frame renaming catches->ZS,oper?->YJ,round->W8
open Go.GStep renaming after->T1
open Go.Instr renaming checkKey->Vd,fill->Z7,findKey->VN,index->ZY,indexAt->ZI,loadAt->Xz,mapUpdate->Zs,sameBits->WC,slice->ZX,sliceAt->Yg,sliceBound->Zk,sliceBounds->Y',storeAt->Yf,sureAddr->Vb,typeAssert->Zj
open Go.IntKind renaming bits->at0,i64->SD,signed->ats,wrap->Xa
open Go.Item renaming plain->ac'
open Go.MemAct renaming low_mono->Zi,ofEvent->Ts
open Go.Next renaming value->W3
open Go.Obj renaming isChan->ag_
open Go.Op renaming equal->Xn,equalIn->VA,intArith->auc,intDiv->apT,shift->as'
open Go.Question renaming cut->Zr,forced->ar'
open Go.Region renaming binds->Yn,schedule->VM,wanted->Tg
open Go.Region.linearise renaming go->UI
open Go.Sem renaming events_pure->ZF,runT->VH,runT_eq->TB,run_pure->Z5
open Go.Value renaming bool->W_,slice->Us,tuple->YH
open Go.World renaming cell?->Uz,frozen?->ZP,setCell->Xg
open Go.stepG renaming exec->Uf,oper->Y2
open Int renaming toNat_natCast->VP
open List renaming append_assoc->SC,append_nil->SO,contains_eq_mem->Uq,countP_cons_of_neg->WR,countP_cons_of_pos->VT,drop_drop->ak_,drop_eq_getElem_cons->TQ,drop_zero->Xy,ext_getElem?->Yk,flatMap_cons->Ub,foldl_cons->UZ,getD_cons_zero->Xl,getD_eq_getElem?_getD->SE,getElem?_append_left->SW,getElem?_append_right->S9,getElem?_cons_succ->UL,getElem?_cons_zero->Vr,getElem?_drop->Uo,getElem?_eq_getElem->SY,getElem?_eq_some_iff->SL,getElem?_map->To,getElem?_range->Xx,getElem?_set_ne->T6,getElem?_set_self->W7,getElem?_take->Ue,getElem?_toArray->Vg,getElem_mem->Wu,length_append->SN,length_cons->Ul,length_drop->Un,length_nil->UN,length_take->Ud,mapM_cons->T_,mapM_nil->UD,mapM_toArray->XW,map_congr_left->VC,map_cons->UW,map_drop->af_,mem_cons->SK,mem_cons_of_mem->Tb,mem_cons_self->TC,mem_filter->Uw,mem_filterMap->VW,mem_iff_getElem?->UR,mem_of_getElem?->Tc,mem_of_mem_take->Wt,mem_range->Tx,mem_toArray->TK,not_mem_nil->S0,range->SZ,range'->TS,range'_succ->VU,range_eq_range'->U8,reverse_nil->XS,set_append_right->T9,set_set->W6,singleton_append->YZ,take_length->TG,take_take->U3,take_zero->aj'
open Nat renaming add_assoc->U1,add_comm->aj_,add_mul->Ve,add_zero->UE,le_of_eq->WI,le_refl->SQ,le_succ->YX,le_trans->UM,lt_of_lt_of_le->Td,lt_trans->Wn,min_le_left->ZE,mod_lt->ar_,mul_le_mul->ZK,mul_le_mul_right->Ug,mul_one->X8,ne_of_lt->Wa,strongRecOn->Yj,sub_zero->ZW,zero_add->Ws,zero_le->Yy,zero_mul->Z0
open Option renaming bind_eq_bind->TP,bind_eq_some_iff->Te,getD_none->Vq,getD_some->S7,map_eq_some_iff->Tq,map_some->UP,pure_def->Uj
open Option.some renaming inj->VY,injEq->Tj
open Prod.mk renaming injEq->U2
namespace Go.Gg
open Go.Conc
abbrev cw:=Nat->Nat->Option SP
abbrev Bp:=Nat->Option Obj
abbrev Spec:=SP->cw->Bp->Prop
inductive mY where
 |plain
 |fork (c Wg:Nat) (Ss:List (List Spec))
 |recv (c Wg:Nat) (Ss:List (List Spec))
 |work (c Wg:Nat) (S:List Spec)
def mY.group:mY->Option Nat
 |.fork _ Wg _=>some Wg
 |_=>none
def mY.chan:mY->Option Nat
 |.fork c _ _=>some c
 |_=>none
structure View where
 ab:cw
 own:Bp
 deaf:Nat
 role:mY
structure Sat (V:View)(w:Tp):Prop where
 ab:∀b o v,V.ab b o=some v->w.cell? ⟨b,o,none⟩=some v
 own:∀b x,V.own b=some x->w.heap[b]?=some x
def uf (V:View)(n:Nat)(a:U5):Prop:=n<=a.block\/V.own a.block≠none\/V.ab a.block a.off≠none
def mF (V:View)(n:Nat)(a:U5):Prop:=n<=a.block\/(V.own a.block≠none/\V.ab a.block a.off=none)
def mW (V:View)(n:Nat)(e:Ur):Prop:=
 match e with
 |⟨.cell a,false,s⟩=>uf V n a/\(s=true\/V.role.group≠some a.block)
 |⟨.cell a,true,s⟩=>mF V n a/\(s=true\/V.role.group≠some a.block)
 |⟨.obj r,_,s⟩=>(s=false/\(n<=r\/V.own r≠none))/\V.role.chan≠some r
 |⟨.mark (.read a),_,_⟩=>mF V n a
 |⟨.mark (.write a),_,_⟩=>mF V n a
 |⟨.mark .disable,_,s⟩=>s=true
 |⟨.mark .enable,_,s⟩=>s=true
 |⟨.mark .noRoom,_,_⟩=>True
 |_=>False
structure dg (V:View)(w:Tp)(V':View)(w':Tp)(es:Array Ur):Prop where
 sat:Sat V' w'
 tape:w'.tape=w.tape
 os:w'.os=w.os
 output:w'.output=w.output
 size:w.heap.size<=w'.heap.size
 frame:∀b,b<w.heap.size->V.own b=none->w'.heap[b]?=w.heap[b]?
 own:∀b,b<w.heap.size->V.own b=none->V'.own b=none
 ab:∀b o v,V.ab b o=some v->V'.ab b o=some v
 kL:∀b o v,V'.ab b o=some v->V.ab b o=some v\/V.own b≠none\/w.heap.size<=b
 ff:∀e∈es,mW V w.heap.size e
 deaf:V'.deaf=deafBehind V.deaf es
 role:V'.role=V.role
 chan:∀c x,V.role.chan=some c->V.own c=some x->V'.own c=some x
 low:∀e∈es,(Ts e).low w'.heap.size
structure dR (V V':View):Prop where
 sat:∀w,Sat V w->Sat V' w
 own:∀b,V.own b=none->V'.own b=none
 ab:∀b o v,V.ab b o=some v->V'.ab b o=some v
 kL:∀b o v,V'.ab b o=some v->V.ab b o=some v\/V.own b≠none
 deaf:V'.deaf=V.deaf
 role:V'.role=V.role
 chan:∀c x,V.role.chan=some c->V.own c=some x->V'.own c=some x
theorem dR.refl(V:View):dR V V:=⟨λ_ h=>h,λ_ h=>h,λ_ _ _ h=>h,λ_ _ _ h=> .inl h,rfl,rfl,λ_ _ _ e=>e⟩
theorem dR.trans{V V' aR:View}(h:dR V V')(k:dR V' aR):dR V aR:=
 ⟨λw x=>k.sat w (h.sat w x),λb x=>k.own b (h.own b x),λb o v x=>k.ab b o v (h.ab b o v x),λb o v x=>(k.kL b o v x).elim (λy=>h.kL b o v y) (λy=> .inr λz=>y (h.own b z)),k.deaf.trans h.deaf,k.role.trans h.role,λc x e e'=>k.chan c x (by rw[h.role];exact e) (h.chan c x e e')⟩
theorem uf.rX{V V':View}(g:dR V V'){n:Nat}{a:U5}(h:uf V' n a):uf V n a:=by
 rcases h with h|h|h
 ·exact .inl h
 ·exact .inr (.inl λe=>h (g.own _ e))
 ·cases e:V'.ab a.block a.off with
  |none=>exact absurd e h
  |some v=>exact(g.kL _ _ _ e).elim (λx=> .inr (.inr (by rw[x];simp))) (λx=> .inr (.inl x))
theorem mF.rX{V V':View}(g:dR V V'){n:Nat}{a:U5}(h:mF V' n a):mF V n a:=by
 rcases h with h|⟨h,h'⟩
 ·exact .inl h
 ·refine .inr ⟨λe=>h (g.own _ e),?_⟩;cases e:V.ab a.block a.off with
  |none=>rfl
  |some v=>rw[g.ab _ _ _ e]at h';cases h'
theorem mW.rX{V V':View}(g:dR V V'){n:Nat}{e:Ur}(h:mW V' n e):mW V n e:=by
 unfold mW at h⊢;split at h
 ·exact⟨uf.rX g h.1,by rw[<- g.role];exact h.2⟩
 ·exact⟨mF.rX g h.1,by rw[<- g.role];exact h.2⟩
 ·exact⟨⟨h.1.1,h.1.2.imp id λx y=>x (g.own _ y)⟩,by rw[<- g.role];exact h.2⟩
 ·exact mF.rX g h
 ·exact mF.rX g h
 ·exact h
 ·exact h
 ·trivial
 ·exact h.elim
theorem dg.rX{V V₁ V':View}{w w':Tp}{es:Array Ur}(g:dR V V₁)(h:dg V₁ w V' w' es):dg V w V' w' es:=
 ⟨h.sat,h.tape,h.os,h.output,h.size,λb hb e=>h.frame b hb (g.own b e),λb hb e=>h.own b hb (g.own b e),λb o v e=>h.ab b o v (g.ab b o v e),
  λb o v e=>(h.kL b o v e).elim (λx=>(g.kL b o v x).imp id .inl) (λx=> .inr (x.imp (λy z=>y (g.own b z)) id)),λe he=>mW.rX g (h.ff e he),by rw[h.deaf,g.deaf],h.role.trans g.role,λc x e e'=>h.chan c x (by rw[g.role];exact e) (g.chan c x e e'),h.low⟩
theorem dg.ghost{V V' aR:View}{w w':Tp}{es:Array Ur}(h:dg V w V' w' es)(g:dR V' aR):dg V w aR w' es:=
 ⟨g.sat _ h.sat,h.tape,h.os,h.output,h.size,h.frame,λb hb e=>g.own b (h.own b hb e),λb o v e=>g.ab b o v (h.ab b o v e),
  λb o v e=>(g.kL b o v e).elim (λx=>h.kL b o v x) (λx=>by
   by_cases hb:b<w.heap.size
   ·exact .inr (.inl λy=>x (h.own b hb y))
   ·exact .inr (.inr (by omega))),h.ff,by rw[g.deaf,h.deaf],g.role.trans h.role,λc x e e'=>g.chan c x (by rw[h.role];exact e) (h.chan c x e e'),h.low⟩
theorem dg.idle{V:View}{w:Tp}(h:Sat V w):dg V w V w #[]:=
 ⟨h,rfl,rfl,rfl,SQ _,λ_ _ _=>rfl,λ_ _ e=>e,λ_ _ _ e=>e,λ_ _ _ e=> .inl e,by simp,rfl,rfl,λ_ _ _ e=>e,by simp⟩
theorem Sat.drew{V:View}{w:Tp}(h:Sat V w)(d:Nat):Sat V {w with drawn:=d}:=⟨h.ab,h.own⟩
theorem dg.draw{V:View}{w:Tp}(h:Sat V w)(d:Nat):dg V w V {w with drawn:=d} #[]:=
 ⟨h.drew d,rfl,rfl,rfl,SQ _,λ_ _ _=>rfl,λ_ _ e=>e,λ_ _ _ e=>e,λ_ _ _ e=> .inl e,by simp,rfl,rfl,λ_ _ _ e=>e,by simp⟩
def dV (Wg:Nat):U5:=⟨Wg,0,none⟩
def oK (Wg:Nat):U5:=⟨Wg,1,none⟩
def NS (P : SI) : TypeId := ((P.types.findIdx? λi => match i.desc with | .named n _ => n == "sync.WaitGroup" | _ => false).getD 0)
def wgBlock (P:SI)(st sm:Int):Obj:=.cells #[.int .u64 st,.int .u32 sm] (NS P)
def WgAt (P:SI)(Wg:Nat)(w:Tp)(st sm:Int):Prop:=w.heap[Wg]?=some (wgBlock P st sm)
def KK:Int:=4294967296
def jd (a:U5):Ur:=⟨.cell a,false,true⟩
def kZ (a:U5):Ur:=⟨.cell a,true,true⟩
def j9 (m:Mark):Ur:=⟨.mark m,false,true⟩
def AN (a:U5):Array Ur:=#[j9 .disable,jd a,kZ a,j9 .enable]
def cS (P:SI)(Stop:Nat->SG->Prop):Nat->Nat->SG->Prop
 |0,d,g=>Stop d g
 |n+1,d,g=>Stop d g\/(g.status=.running/\∃g' es,(∀e∈es,WH e=true)/\(∀w,stepG P false g w=.go g' w es)/\cS P Stop n (deafBehind d es) g')
def h_ (P:SI)(Wg:Nat)(Stop:Nat->SG->Prop):Nat->Nat->SG->Prop
 |0,d,g=>Stop d g
 |n+1,d,g=>Stop d g\/(g.status=.running/\∃g' es,(∀e∈es,WH e=true)/\(∀w x y,WgAt P Wg w x y->stepG P false g w=.go g' w es)/\h_ P Wg Stop n (deafBehind d es) g')
section
variable (P:SI)(Wg:Nat)
def Eh (d:Nat)(g:SG):Prop:=d=1/\g.status=.running/\mayWake P g=true/\∃g',(∀w,WgAt P Wg w 0 0->stepG P false g w=.go g' (w.setCell (oK Wg) (.int .u32 1)) (AN (oK Wg)))/\∃q,Y4 P q 1 g'
def Ei (d:Nat)(g:SG):Prop:=d=1/\g.status=.running/\∃g',(∀w,WgAt P Wg w 1 0->stepG P false g w=.go g' (w.setCell (dV Wg) (.int .u64 0)) #[kZ (dV Wg)])/\∃n,cS P (Eh P Wg) n 1 g'
def Eg (d:Nat)(g:SG):Prop:=d=1/\g.status=.running/\∃g',(∀w,WgAt P Wg w 1 0->stepG P false g w=.go g' w #[jd (dV Wg)])/\∃n,cS P (Ei P Wg) n 1 g'
def Ba (d:Nat)(g:SG):Prop:=d=1/\g.status=.running/\∀v wt:Nat,wt<=1->v<4->∃g',(∀w,WgAt P Wg w (((v+1:Nat):Int)* KK+wt) 0->stepG P false g w=.go g' (w.setCell (dV Wg) (.int .u64 ((v:Int)* KK+wt))) #[jd (dV Wg),kZ (dV Wg)])/\
 ((v=0/\wt=1)->∃n,cS P (Eg P Wg) n 1 g')/\(¬(v=0/\wt=1)->∃q,Y4 P q 1 g')
def En (g:SG):Prop:=g.status=.running/\∃g',(∀w,stepG P false g w=.go g' w #[j9 (.releaseMerge (dV Wg))])/\∃n,cS P (Ba P Wg) n 0 g'
end
section
variable (P:SI)(Im:cw)(c Wg:Nat)
def HU (d:Nat)(g:SG):Prop:=d=0/\g.status=.running/\mayWake P g=true/\∃g',(∀w s,w.heap[c]?=some (.chan 0 #[] false s s false)->stepG P false g w=.go g' {w with heap:=w.heap.setIfInBounds c (.chan 0 #[] true s s false)} #[⟨.obj c,false,true⟩,⟨.obj c,true,true⟩])/\∃q,Y4 P q 0 g'
def HW (d:Nat)(g:SG):Prop:=d=0/\g.status=.running/\∃b o x g',Im b o=some x/\(∀w,w.cell? ⟨b,o,none⟩=some x->stepG P false g w=.go g' w #[⟨.cell ⟨b,o,none⟩,false,false⟩])/\∃n,cS P (HU P c) n 0 g'
def ub (d:Nat)(g:SG):Prop:=d=0/\g.status=.running/\∃g',(∀w,stepG P false g w=.go g' w #[j9 (.acquire (dV Wg))])/\∃n,cS P (HW P Im c) n 0 g'
def HV (d:Nat)(g:SG):Prop:=d=1/\g.status=.running/\∃g',(∀w,WgAt P Wg w 0 0->stepG P false g w=.go g' w #[jd (dV Wg)])/\∃n,h_ P Wg (ub P Im c Wg) n 1 g'
def Ef (d:Nat)(g:SG):Prop:=d=1/\g.status=.running/\g.offers=none/\(∀w st,WgAt P Wg w st 0->stepG P false g w=.go {g with status:=.blocked} w #[])/\
 ∃g',(∀w,WgAt P Wg w 0 1->stepG P false g w=.go g' (w.setCell (oK Wg) (.int .u32 0)) (AN (oK Wg)))/\∃n,cS P (HV P Im c Wg) n 1 g'
def Ee (d:Nat)(g:SG):Prop:=d=1/\g.status=.running/\∃g',(∀w,stepG P false g w=.go g' w #[j9 (.write (oK Wg))])/\∃n,cS P (Ef P Im c Wg) n 1 g'
def eF:Nat->Nat->SG->Prop
 |0,_,_=>False
 |k+1,d,g=>d=1/\g.status=.running/\∀v:Nat,v<=k->v<=4->∃g',(∀w,WgAt P Wg w ((v:Int)* KK) 0->stepG P false g w=.go g' w #[jd (dV Wg)])/\(v=0->∃n,h_ P Wg (ub P Im c Wg) n 1 g')/\
  (v≠0->∃n,cS P (λd g=>d=1/\g.status=.running/\
   (∃g',(∀w,WgAt P Wg w ((v:Int)* KK) 0->stepG P false g w=.go g' (w.setCell (dV Wg) (.int .u64 ((v:Int)* KK+1))) #[jd (dV Wg),kZ (dV Wg)])/\∃n,h_ P Wg (Ee P Im c Wg) n 1 g')/\
   (∀u:Nat,u<v->∃g',(∀w,WgAt P Wg w ((u:Int)* KK) 0->stepG P false g w=.go g' w #[jd (dV Wg)])/\∃n,cS P (eF v) n 1 g')) n 1 g')
 termination_by k _ _=>k
def HX (g:SG):Prop:=∃n,cS P (eF P Im c Wg 5) n 0 g
end
structure yO (P:SI)(main:Bool)(J:View->SG->Prop):Prop where
 step:∀V g,g.status=.running->(∀w,Sat V w->∃g' w' es V',stepG P main g w=.go g' w' es/\dg V w V' w' es/\J V' g')->J V g
 ghost:∀V V' g,dR V V'->J V' g->J V g
 send:∀V g c Wg sp S v z (B:Nat->Bool),V.role=.work c Wg (sp::S)->V.deaf=0->g.status=.running->g.offers=none->
  (∀w,Sat V w->stepG P main g w=.comm g #[scase c v z] true .send w #[])->sp v V.ab (λb=>if B b then V.own b else none)->
  J {V with own:=λb=>if B b then none else V.own b,role:=.work c Wg S} (T5 g undef)->J V g
 done:∀V g c Wg,V.role=.work c Wg []->V.deaf=0->En P Wg g->J V g
 slip:∀V g g' c Wg,V.role=.work c Wg []->g.status=.running->(∀w st,Sat V w->WgAt P Wg w st 0->stepG P main g w=.go g' w #[])->J V g'->J V g
structure adG (P:SI)(main:Bool)(J:View->SG->Prop):Prop where
 start:∀V g c Wg,V.role=.plain->c≠Wg->V.own c=some (.chan 0 #[] false 0 0 false)->V.own Wg≠none->(∀o,V.ab Wg o=none)->J {V with role:=.fork c Wg []} g->J V g
 Fg:∀V g g' child c Wg Ss sp S,V.role=.fork c Wg Ss->V.deaf=0->g.status=.running->V.own c=some (.chan 0 #[] false 0 0 false)->V.own Wg=some (wgBlock P (((Ss.length+1:Nat):Int)* 4294967296) 0)->Ss.length<4->(∀o,V.ab Wg o=none)->
  (∀w,Sat V w->stepG P main g w=.spawn g' child w #[])->child.status=.running->
  (∀J0,yO P false J0->J0 {ab:=V.ab,own:=λ_=>none,deaf:=0,role:=.work c Wg (sp::S)} child)->
  J {V with role:=.fork c Wg (Ss++[sp::S])} g'->J V g
 Ff:∀V g g' child c Wg Ss,V.role=.fork c Wg Ss->V.deaf=0->g.status=.running->c≠Wg->V.own c=some (.chan 0 #[] false 0 0 false)->V.own Wg=some (wgBlock P (((Ss.length:Nat):Int)* 4294967296) 0)->(∀o,V.ab c o=none)->(∀o,V.ab Wg o=none)->
  (∀w,Sat V w->stepG P main g w=.spawn g' child w #[])->child.status=.running->HX P V.ab c Wg child->
  J {V with own:=λb=>if b=c\/b=Wg then none else V.own b,role:=.recv c Wg Ss} g'->J V g
 recv:∀V g c Wg Ss z,V.role=.recv c Wg Ss->V.deaf=0->g.status=.running->g.offers=none->
  (∀w,Sat V w->stepG P main g w=.comm g #[rcase c z] true (.recv true) w #[])->
  (∀i sp S v Im Ow,Ss[i]?=some (sp::S)->sp v Im Ow->(∀b,V.own b≠none->Ow b=none)->(∀b o,V.own b≠none->Im b o≠none->V.ab b o≠none)->(∃w,Sat V w/\(∀b o x,Im b o=some x->w.cell? ⟨b,o,none⟩=some x)/\∀b x,Ow b=some x->w.heap[b]?=some x)->
   J {V with ab:=λb o=>match V.ab b o with|some x=>some x|none=>Im b o,own:=λb=>match V.own b with|some x=>some x|none=>Ow b,role:=.recv c Wg (Ss.set i S)} (T5 g (.tuple #[v,.bool true])))->
  ((∀S∈Ss,S=[])->J {V with role:=.plain} (T5 g (.tuple #[z,.bool false])))->J V g
structure Closed (lv:Bool)(P:SI)(main:Bool)(J:View->SG->Prop):Prop extends yO P main J where
 more:lv=true->adG P main J
theorem Closed.idle{lv:Bool}{P:SI}{main:Bool}{J:View->SG->Prop}(C:Closed lv P main J){V:View}{g g':SG}(hs:g.status=.running)(h:∀w,stepG P main g w=.go g' w #[]) (hJ:J V g'):J V g:=
 C.step V g hs λw hw=>⟨g',w,#[],V,h w,.idle hw,hJ⟩
def on (b:Ua)(a:Act)(todo:List WT):Ua:={b with tmps:=a.tmps,todo,defers:=a.defers,mode:=.run}
inductive Ex where
 |normal
 |exit (id:Nat)
 |goto (l:Nat)
 |ret
 |panic (chain:List ZQ)
def pO (J:View->SG->Prop)(b:Ua)(cs:List Ua)(a:Act)(V:View)(x:T4)(to:List WT->Option (List WT))(k:List WT):Prop:=
 (∃k',to k=some k'/\J V (G (on b a k') cs))\/(to k=none/\∀k2,to k2=none->J V (G (on b a (.code x::k2)) cs))
theorem pO.under{J:View->SG->Prop}{b:Ua}{cs:List Ua}{a:Act}{V:View}{x:T4}{to:List WT->Option (List WT)}{k k2:List WT}(h:pO J b cs a V x to k)(e:to k2=to k):pO J b cs a V x to k2:=by
 rcases h with⟨k',h1,h2⟩|⟨h1,h2⟩
 ·exact .inl ⟨k',e.trans h1,h2⟩
 ·exact .inr ⟨e.trans h1,h2⟩
def aa6:List WT->Bool
 |.call .. ::_=>false
 |_=>true
def vE (J:View->SG->Prop)(b:Ua)(k:List WT)(cs:List Ua):Ex->Act->View->Prop
 |.normal,a,V=>J V (G (on b a k) cs)
 |.exit id,a,V=>pO J b cs a V (.exit id) (exitTo id) k
 |.goto l,a,V=>pO J b cs a V (.goto l) (gotoIn l) k
 |.ret,a,V=>∀k,J V (G (on b a (.code .ret::k)) cs)
 |.panic chain,a,V=>∀todo,aa6 todo=true->J V (G {on b a todo with mode:=.panicking chain} cs)
def WP (lv:Bool)(P:SI)(r:Option Nat)(c:T4)(Q:Ex->Act->View->Prop)(a:Act)(V:View):Prop:=
 ∀(main:Bool)(J:View->SG->Prop),Closed lv P main J->∀(b:Ua)(k:List WT)(cs:List Ua),b.kind≠ .early->b.roundOf=r->
  (∀e a' V',Q e a' V'->vE J b k cs e a' V')->J V (G (on b a (.code c::k)) cs)
section steps
variable {P:SI}{main:Bool}{b:Ua}{a:Act}{k:List WT}{cs:List Ua}{w:Tp}
theorem apX:stepG P main (G (on b a (.code .skip::k)) cs) w=.go (G (on b a k) cs) w #[]:=by simp[G,stepG,Uf,on]
theorem apQ{l:Nat}:stepG P main (G (on b a (.code (.label l)::k)) cs) w=.go (G (on b a k) cs) w #[]:=by simp[G,stepG,Uf,on]
theorem apN{id:Nat}:stepG P main (G (on b a (.inBlock id::k)) cs) w=.go (G (on b a k) cs) w #[]:=by simp[G,stepG,Uf,on]
theorem apP{c:T4}:stepG P main (G (on b a (.inScope c::k)) cs) w=.go (G (on b a k) cs) w #[]:=by simp[G,stepG,Uf,on]
theorem ab5{x y:T4}:stepG P main (G (on b a (.code (.seq x y)::k)) cs) w=.go (G (on b a (.code x:: .code y::k)) cs) w #[]:=by simp[G,stepG,Uf,on]
theorem GR(b:Ua)(a:Act)(todo:List WT)(x:Th):(on b a todo).eval x=a.eval x:=by cases x<;>rfl
theorem anR(b:Ua)(a:Act)(todo:List WT):(on b a todo).eval=a.eval:=funext (GR b a todo)
theorem s_cond{c:Th}{x y:T4}{t:Bool}(h:a.eval c=.bool t):
  stepG P main (G (on b a (.code (.cond c x y)::k)) cs) w=.go (G (on b a (.code (if t then x else y)::k)) cs) w #[]:=by
 have h':(on b a (.code (.cond c x y)::k)).eval c=.bool t:=by rw[GR];exact h
 simp only[on]at h';simp[G,stepG,Uf,on,h']
theorem apK{id:Nat}{c:T4}:stepG P main (G (on b a (.code (.block id c)::k)) cs) w=.go (G (on b a (.code c:: .inBlock id::k)) cs) w #[]:=by simp[G,stepG,Uf,on]
theorem apW{c:T4}:stepG P main (G (on b a (.code (.scope c)::k)) cs) w=.go (G (on b a (.code c:: .inScope c::k)) cs) w #[]:=by simp[G,stepG,Uf,on]
theorem apR{c:T4}:stepG P main (G (on b a (.code (.loop c)::k)) cs) w=.go (G (on b a (.code c:: .inLoop c::k)) cs) w #[]:=by simp[G,stepG,Uf,on]
theorem apO{c:T4}:stepG P main (G (on b a (.inLoop c::k)) cs) w=.go (G (on b a (.code c:: .inLoop c::k)) cs) w #[]:=by simp[G,stepG,Uf,on]
theorem s_exit{id:Nat}{k':List WT}(h:exitTo id k=some k'):stepG P main (G (on b a (.code (.exit id)::k)) cs) w=.go (G (on b a k') cs) w #[]:=by simp[G,stepG,Uf,on,h]
theorem apM{l:Nat}{k':List WT}(h:gotoIn l k=some k'):stepG P main (G (on b a (.code (.goto l)::k)) cs) w=.go (G (on b a k') cs) w #[]:=by simp[G,stepG,Uf,on,h]
theorem ab4{id:Nat}{ops:Array Tu}:stepG P main (G (on b a (.code (.region id ops false)::k)) cs) w=.go (G (on b a (.inRegion ops (SZ ops.size)::k)) cs) w #[]:=by simp[G,stepG,Uf,on]
theorem apL{id:Nat}{ops:Array Tu}:stepG P main (G (on b a (.code (.region id ops true)::k)) cs) w=
  .go (G (on b a (.inRegion ops (VM (P.follows .mixedOrders) ops (w.tape w.drawn (.order b.fn id)))::k)) cs) {w with drawn:=w.drawn+1} #[]:=by
 simp[G,stepG,Uf,on,choose,Sem.run,ar',Zr]
theorem apV{ops:Array Tu}:stepG P main (G (on b a (.inRegion ops []::k)) cs) w=.go (G (on b a k) cs) w #[]:=by simp[G,stepG,Uf,on]
theorem DJ(h:b.roundOf=none):stepG P main (G (on b a (.code .ret::k)) cs) w=.go (G {on b a (.code .ret::k)with mode:=.returning} cs) w #[]:=by simp[G,stepG,Uf,on,h]
theorem DI(h:b.roundOf=none):stepG P main (G (on b a []) cs) w=.go (G {on b a []with mode:=.returning} cs) w #[]:=by simp[G,stepG,Uf,on,h]
end steps
section rules
variable {lv:Bool}{P:SI}{r:Option Nat}{Q:Ex->Act->View->Prop}{a:Act}{V:View}
theorem WP.mono{c:T4}{Q':Ex->Act->View->Prop}(h:WP lv P r c Q a V)(hq:∀e a V,Q e a V->Q' e a V):WP lv P r c Q' a V:=
 λmain J C b k cs hb hr hL=>h main J C b k cs hb hr λe a' V' q=>hL e a' V' (hq _ _ _ q)
theorem WP.ghost{c:T4}{V':View}(g:dR V V')(h:WP lv P r c Q a V'):WP lv P r c Q a V:=
 λmain J C b k cs hb hr hL=>C.ghost _ _ _ g (h main J C b k cs hb hr hL)
theorem wp_skip(h:Q .normal a V):WP lv P r .skip Q a V:=λ_ _ C _ _ _ _ _ hL=>C.idle rfl (λ_=>apX) (hL _ _ _ h)
theorem wp_label{l:Nat}(h:Q .normal a V):WP lv P r (.label l) Q a V:=λ_ _ C _ _ _ _ _ hL=>C.idle rfl (λ_=>apQ) (hL _ _ _ h)
theorem aax{main:Bool}{J:View->SG->Prop}(C:Closed lv P main J){b:Ua}{cs:List Ua}{a:Act}{V:View}{id:Nat}{k:List WT}(h:pO J b cs a V (.exit id) (exitTo id) k):J V (G (on b a (.code (.exit id)::k)) cs):=
 h.elim (λ⟨_,hk,hJ⟩=>C.idle rfl (λ_=>s_exit hk) hJ) (λ⟨hk,hJ⟩=>hJ k hk)
theorem alV{main:Bool}{J:View->SG->Prop}(C:Closed lv P main J){b:Ua}{cs:List Ua}{a:Act}{V:View}{l:Nat}{k:List WT}(h:pO J b cs a V (.goto l) (gotoIn l) k):J V (G (on b a (.code (.goto l)::k)) cs):=
 h.elim (λ⟨_,hk,hJ⟩=>C.idle rfl (λ_=>apM hk) hJ) (λ⟨hk,hJ⟩=>hJ k hk)
theorem wp_exit{id:Nat}(h:Q (.exit id) a V):WP lv P r (.exit id) Q a V:=λ_ _ C _ _ _ _ _ hL=>aax C (hL _ _ _ h)
theorem wp_ret(h:Q .ret a V):WP lv P r .ret Q a V:=λ_ _ _ _ k _ _ _ hL=>hL _ _ _ h k
def Ex.then (next:Act->View->Prop)(Q:Ex->Act->View->Prop):Ex->Act->View->Prop
 |.normal,a,V=>next a V
 |e,a,V=>Q e a V
theorem vE.under{J:View->SG->Prop}{b:Ua}{k:List WT}{cs:List Ua}{x:WT}(hx:x.plain=true){e:Ex}(he:e≠ .normal){a:Act}{V:View}(h:vE J b k cs e a V):vE J b (x::k) cs e a V:=by
 cases e with
 |normal=>exact absurd rfl he
 |exit id=>exact pO.under h (by cases x<;>simp_all[exitTo,ac'])
 |goto l=>exact pO.under h (by cases x<;>simp_all[gotoIn,ac'])
 |ret=>exact h
 |panic ch=>exact h
theorem wp_seq{x y:T4}(h:WP lv P r x (Ex.then (WP lv P r y Q) Q) a V):WP lv P r (.seq x y) Q a V:=by
 intro main J C b k cs hb hr hL;refine C.idle rfl (λ_=>ab5) (h main J C b (.code y::k) cs hb hr λe a' V' q=> ?_);cases e with
 |normal=>exact q main J C b k cs hb hr hL
 |exit id=>exact(hL _ _ _ q).under rfl (by simp)
 |goto l=>exact(hL _ _ _ q).under rfl (by simp)
 |ret=>exact(hL _ _ _ q).under rfl (by simp)
 |panic ch=>exact(hL _ _ _ q).under rfl (by simp)
theorem wp_cond{c:Th}{x y:T4}{t:Bool}(hc:a.eval c=.bool t)(h:WP lv P r (if t then x else y) Q a V):WP lv P r (.cond c x y) Q a V:=
 λmain J C b k cs hb hr hL=>C.idle rfl (λ_=>s_cond hc) (h main J C b k cs hb hr hL)
def Ex.inBlock (id:Nat)(Q:Ex->Act->View->Prop):Ex->Act->View->Prop
 |.exit oE,a,V=>if oE=id then Q .normal a V else Q (.exit oE) a V
 |e,a,V=>Q e a V
theorem wp_block{id:Nat}{c:T4}(h:WP lv P r c (Ex.inBlock id Q) a V):WP lv P r (.block id c) Q a V:=by
 intro main J C b k cs hb hr hL;refine C.idle rfl (λ_=>apK) (h main J C b (.inBlock id::k) cs hb hr λe a' V' q=> ?_);cases e with
 |normal=>exact C.idle rfl (λ_=>apN) (hL _ _ _ q)
 |exit oE=>
  by_cases bT:oE=id
  ·simp only[Ex.inBlock,bT,if_true]at q;exact .inl ⟨k,by simp[exitTo,bT],hL _ _ _ q⟩
  ·simp only[Ex.inBlock,bT,if_false]at q;have:(id==oE)=false:=(by simp;exactλh=>bT h.symm);exact pO.under (hL _ _ _ q) (by simp[exitTo,this])
 |goto l=>exact pO.under (hL _ _ _ q) (by simp[gotoIn])
 |ret=>exact hL _ _ _ q
 |panic ch=>exact hL _ _ _ q
theorem NZ{α:Type}{lt:α->α->Prop}(wf:WellFounded lt){c:T4}(I:α->Act->View->Prop)(m:α)(h₀:I m a V)
  (round:∀m a V,I m a V->WP lv P r c (Ex.then (λa' V'=>∃m',lt m' m/\I m' a' V') Q) a V):WP lv P r (.loop c) Q a V:=by
 intro main J C b k cs hb hr hL;have key:∀m a V,I m a V->J V (G (on b a (.code c:: .inLoop c::k)) cs):=by
  intro m;induction m using wf.induction with
  |_ m ih=>
   intro a V hI;refine round m a V hI main J C b (.inLoop c::k) cs hb hr λe a' V' q=> ?_;cases e with
   |normal=>obtain⟨m',hlt,hI'⟩:=q;exact C.idle rfl (λ_=>apO) (ih m' hlt a' V' hI')
   |exit id=>exact(hL _ _ _ q).under rfl (by simp)
   |goto l=>exact(hL _ _ _ q).under rfl (by simp)
   |ret=>exact(hL _ _ _ q).under rfl (by simp)
   |panic ch=>exact(hL _ _ _ q).under rfl (by simp)
 exact C.idle rfl (λ_=>apR) (key m a V h₀)
theorem wp_loop{c:T4}(I:Nat->Act->View->Prop)(m:Nat)(h₀:I m a V)
  (round:∀m a V,I m a V->WP lv P r c (Ex.then (λa' V'=>∃m',m'<m/\I m' a' V') Q) a V):WP lv P r (.loop c) Q a V:=
 NZ Nat.lt_wfRel.wf I m h₀ round
theorem adz{c:T4}(I:Nat->Nat->Act->View->Prop)
  (start:∃n:Nat,WP lv P r c (λe a V=>match e with
   |.goto l=>∃rest,findLabel c l=some rest/\∃m,m<n/\I l m a V
   |e=>Q e a V) a V)
  (back:∀l rest m a V,findLabel c l=some rest->I l m a V->WP lv P r rest (λe a V=>match e with
   |.goto l'=>∃yA,findLabel c l'=some yA/\∃m',m'<m/\I l' m' a V
   |e=>Q e a V) a V):WP lv P r (.scope c) Q a V:=by
 intro main J C b k cs hb hr hL;have land:∀(n:Nat),(∀l rest m a V,m<n->findLabel c l=some rest->I l m a V->J V (G (on b a (.code rest:: .inScope c::k)) cs))->
   ∀e a' V',(match e with
   |.goto l=>∃rest,findLabel c l=some rest/\∃m,m<n/\I l m a' V'
   |e=>Q e a' V')->vE J b (.inScope c::k) cs e a' V':=by
  intro n hn e a' V' q;cases e with
  |normal=>exact C.idle rfl (λ_=>apP) (hL _ _ _ q)
  |exit id=>exact pO.under (hL _ _ _ q) (by simp[exitTo])
  |goto l=>
   obtain⟨rest,hf,m,hm,hI⟩:=q;exact .inl ⟨_,by simp[gotoIn,hf],hn l rest m a' V' hm hf hI⟩
  |ret=>exact hL _ _ _ q
  |panic ch=>exact hL _ _ _ q
 have key:∀n l rest m a V,m<n->findLabel c l=some rest->I l m a V->J V (G (on b a (.code rest:: .inScope c::k)) cs):=by
  intro n;induction n with
  |zero=>intro _ _ _ _ _ h;omega
  |succ n ih=>
   intro l rest m a V hm hf hI;exact back l rest m a V hf hI main J C b (.inScope c::k) cs hb hr (land m λl' yA m' a' V' h'=>ih l' yA m' a' V' (by omega))
 obtain⟨n,hn⟩:=start;exact C.idle rfl (λ_=>apW) (hn main J C b (.inScope c::k) cs hb hr (land n (key n)))
end rules
open Go.Conc
def View.get (V:View)(b o:Nat):Option SP:=
 match V.ab b o with
 |some v=>some v
 |none=>match V.own b with
  |some (.cells c _ _)=>c[o]?
  |_=>none
def View.upd (V:View)(b:Nat)(x:Obj):View:={V with own:=λb'=>if b'=b then some x else V.own b'}
def View.fresh (V:View)(b:Nat):Prop:=V.own b=none/\∀o,V.ab b o=none
theorem Sat.get{V:View}{w:Tp}(h:Sat V w){b o:Nat}{v:SP}(e:V.get b o=some v):w.cell? ⟨b,o,none⟩=some v:=by
 unfold View.get at e;split at e
 ·rename_i v' hv;cases e;exact h.ab _ _ _ hv
 ·split at e
  ·rename_i c el f ho;have:=h.own _ _ ho;simpa[Uz,this]using e
  ·cases e
theorem Sat.lt{V:View}{w:Tp}(h:Sat V w){b:Nat}{x:Obj}(e:V.own b=some x):b<w.heap.size:=by
 have:=h.own _ _ e;exact(SS.1 this).1
theorem Sat.C7{V:View}{w:Tp}(h:Sat V w){b o:Nat}{v:SP}(e:V.ab b o=some v):b<w.heap.size:=by
 have:=h.ab _ _ _ e;unfold Uz at this;split at this
 ·rename_i hh;exact(SS.1 hh).1
 ·cases this
theorem Sat.fresh{V:View}{w:Tp}(h:Sat V w){b:Nat}(hb:w.heap.size<=b):V.fresh b:=
 ⟨by cases e:V.own b with
  |none=>rfl
  |some x=>have:=h.lt e;omega,λo=>by
  cases e:V.ab b o with
  |none=>rfl
  |some x=>have:=h.C7 e;omega⟩
theorem Sat.eR{V:View}{w:Tp}(h:Sat V w){b o:Nat}{v:SP}(e:V.get b o=some v):b<w.heap.size:=by
 have:=h.get e;unfold Uz at this;split at this
 ·rename_i hh;exact(SS.1 hh).1
 ·cases this
theorem uf.yr{V V₁:View}{w w₁:Tp}{es:Array Ur}(s:dg V w V₁ w₁ es){a:U5}(h:uf V₁ w₁.heap.size a):uf V w.heap.size a:=by
 rcases h with h|h|h
 ·exact .inl (UM s.size h)
 ·by_cases hb:a.block<w.heap.size
  ·exact .inr (.inl λe=>h (s.own _ hb e))
  ·exact .inl (by omega)
 ·cases e:V₁.ab a.block a.off with
  |none=>exact absurd e h
  |some v=>
   rcases s.kL _ _ _ e with x|x|x
   ·exact .inr (.inr (by rw[x];simp))
   ·exact .inr (.inl x)
   ·exact .inl x
theorem mF.yr{V V₁:View}{w w₁:Tp}{es:Array Ur}(s:dg V w V₁ w₁ es){a:U5}(h:mF V₁ w₁.heap.size a):mF V w.heap.size a:=by
 rcases h with h|⟨h,h'⟩
 ·exact .inl (UM s.size h)
 ·by_cases hb:a.block<w.heap.size
  ·refine .inr ⟨λe=>h (s.own _ hb e),?_⟩;cases e:V.ab a.block a.off with
   |none=>rfl
   |some v=>rw[s.ab _ _ _ e]at h';cases h'
  ·exact .inl (by omega)
theorem mW.yr{V V₁:View}{w w₁:Tp}{es:Array Ur}(s:dg V w V₁ w₁ es){e:Ur}(h:mW V₁ w₁.heap.size e):mW V w.heap.size e:=by
 unfold mW at h⊢;split at h
 ·exact⟨uf.yr s h.1,by rw[<- s.role];exact h.2⟩
 ·exact⟨mF.yr s h.1,by rw[<- s.role];exact h.2⟩
 ·refine⟨⟨h.1.1,?_⟩,by rw[<- s.role];exact h.2⟩;rename_i r _ _;rcases h.1.2 with x|x
  ·exact .inl (UM s.size x)
  ·by_cases hb:r<w.heap.size
   ·exact .inr λy=>x (s.own _ hb y)
   ·exact .inl (by omega)
 ·exact mF.yr s h
 ·exact mF.yr s h
 ·exact h
 ·exact h
 ·trivial
 ·exact h.elim
theorem IK(d:Nat)(x y:Array Ur):deafBehind d (x++y)=deafBehind (deafBehind d x) y:=by
 simp[deafBehind]
theorem dg.trans{V V₁ V₂:View}{w w₁ w₂:Tp}{es ut:Array Ur}(s:dg V w V₁ w₁ es)(s':dg V₁ w₁ V₂ w₂ ut):dg V w V₂ w₂ (es++ut):=
 ⟨s'.sat,s'.tape.trans s.tape,s'.os.trans s.os,s'.output.trans s.output,UM s.size s'.size,
  λb hb e=>(s'.frame b (Td hb s.size) (s.own b hb e)).trans (s.frame b hb e),λb hb e=>s'.own b (Td hb s.size) (s.own b hb e),
  λb o v e=>s'.ab b o v (s.ab b o v e),λb o v e=>by
   rcases s'.kL b o v e with x|x|x
   ·exact s.kL b o v x
   ·by_cases hb:b<w.heap.size
    ·exact .inr (.inl λy=>x (s.own b hb y))
    ·exact .inr (.inr (by omega))
   ·exact .inr (.inr (UM s.size x)),
  λe he=>(Uu.1 he).elim (s.ff e) (λh=>(s'.ff e h).yr s),by rw[s'.deaf,s.deaf,IK],s'.role.trans s.role,λc x e e'=>s'.chan c x (by rw[s.role];exact e) (s.chan c x e e'),
  λe he=>(Uu.1 he).elim (λx=>Zi s'.size (s.low e x)) (s'.low e)⟩
def fI (es:Array Ur):Array Ur:=es.filter λe=>match e.loc with|.mark (.extern _)=>false|_=>true
def aO (P:SI){α:Type}(V:View)(s:Sem α)(K:α->View->Prop)(Kp:SP->View->Prop):Prop:=
 ∀w,Sat V w->∀eV,∃es w' V',dg V w V' w' (fI es)/\
  ((∃x,s.runT P w eV=(.ok x w',eV++es)/\K x V')\/(∃v,s.runT P w eV=(.halt (.panic v) w',eV++es)/\Kp v V'))
section
variable {P:SI}{α β:Type}{V:View}{K:α->View->Prop}{Kp:SP->View->Prop}
theorem MG(x y:Array Ur):fI (x++y)=fI x++fI y:=by simp[fI]
theorem aO.mono{s:Sem α}{K':α->View->Prop}{Ob:SP->View->Prop}(h:aO P V s K Kp)(hk:∀x V,K x V->K' x V)(hp:∀x V,Kp x V->Ob x V):aO P V s K' Ob:=λw hw eV=>
 let⟨es,w',V',h1,h2⟩:=h w hw eV
 ⟨es,w',V',h1,h2.imp (λ⟨x,a,b⟩=>⟨x,a,hk _ _ b⟩) (λ⟨x,a,b⟩=>⟨x,a,hp _ _ b⟩)⟩
theorem aO.ghost{s:Sem α}{V':View}(g:dR V V')(h:aO P V' s K Kp):aO P V s K Kp:=λw hw eV=>
 let⟨es,w',V',h1,h2⟩:=h w (g.sat w hw) eV
 ⟨es,w',V',h1.rX g,h2⟩
theorem aO.cont{s:Sem α}(h:∀w,Sat V w->∃es w' V' s',dg V w V' w' (fI es)/\(∀eV,s.runT P w eV=s'.runT P w' (eV++es))/\aO P V' s' K Kp):aO P V s K Kp:=by
 intro w hw eV;obtain⟨es,w',V',s',h1,h2,h3⟩:=h w hw;obtain⟨ut,NR,aR,h4,h5⟩:=h3 w' h1.sat (eV++es);refine⟨es++ut,NR,aR,by rw[MG];exact h1.trans h4,?_⟩;rw[h2,<- Xq];exact h5
theorem cI{x:α}(h:K x V):aO P V (.pure x) K Kp:=λw hw eV=>⟨#[],w,V,by simpa[fI]using dg.idle hw,.inl ⟨x,by simp[-TB,VH],h⟩⟩
theorem aq{x:α}(h:K x V):aO P V (pure x) K Kp:=cI h
theorem aqe{v:SP}(h:Kp v V):aO P V (.halt (.panic v):Sem α) K Kp:=λw hw eV=>⟨#[],w,V,by simpa[fI]using dg.idle hw,.inr ⟨v,by simp[-TB,VH],h⟩⟩
theorem tQ{e:Ur}(h:∀f,e.loc≠ .mark (.extern f)):fI #[e]=#[e]:=by
 unfold fI;have:(match e.loc with|.mark (.extern _)=>false|_=>true)=true:=by
  split
  ·rename_i f hf;exact absurd hf (h f)
  ·rfl
 simp[Array.filter]
theorem Pk(d:Nat)(a:U5)(wr s:Bool):deafBehind d #[⟨.cell a,wr,s⟩]=d:=by simp[deafBehind]
theorem Pl(d:Nat)(a:Nat)(wr s:Bool):deafBehind d #[⟨.obj a,wr,s⟩]=d:=by simp[deafBehind]
theorem Nq{m:Mode}{b o:Nat}{v:SP}{k:SP->Sem α}(e:V.get b o=some v)(kq:V.role.group≠some b\/m=.atomic)(h:aO P V (k v) K Kp):aO P V (.load m ⟨b,o,none⟩ k) K Kp:=by
 refine .cont λw hw=>⟨#[⟨.cell ⟨b,o,none⟩,false,m== .atomic⟩],w,V,k v,?_,λeV=> ?_,h⟩
 ·rw[tQ (by simp)];refine⟨hw,rfl,rfl,rfl,SQ _,λ_ _ _=>rfl,λ_ _ e=>e,λ_ _ _ e=>e,λ_ _ _ e=> .inl e,λev cu=> ?_,by rw[Pk],rfl,λ_ _ _ e=>e,λev cu=>by simp at cu;subst cu;exact hw.eR e⟩;simp only[TK,SK,S0,or_false]at cu;subst cu;refine⟨.inr ?_,kq.elim .inr (λx=> .inl (by subst x;rfl))⟩;show V.own b≠none\/V.ab b o≠none;unfold View.get at e;split at e
  ·rename_i hv;exact .inr (by rw[hv];simp)
  ·split at e
   ·rename_i hv;exact .inl (by rw[hv];simp)
   ·cases e
 ·simp[-TB,VH,hw.get e]
def _root_.Go.Value.one:SP->Bool
 |.agg _|.tuple _=>false
 |_=>true
theorem Sat.adq{V:View}{w:Tp}(h:Sat V w){b o:Nat}{v:SP}{c:Array SP}{el:TypeId}{f:Nat×Nat}(ho:V.own b=some (.cells c el f))(hi:V.ab b o=none):
  Sat (V.upd b (.cells (c.setIfInBounds o v) el f)) (w.setCell ⟨b,o,none⟩ v):=by
 have hb:=h.own _ _ ho;have hlt:=h.lt ho;have hm:(w.setCell ⟨b,o,none⟩ v).heap=w.heap.setIfInBounds b (.cells (c.setIfInBounds o v) el f):=by
  unfold Xg;apply Array.ext_getElem?;intro i;by_cases cC:b=i
  ·subst cC;rw[Wi,S_ hlt];simp[hb]
  ·simp[Wi,cC,SU cC]
 refine⟨λb' o' v' e=> ?_,λb' x e=> ?_⟩
 ·have:=h.ab _ _ _ e;simp only[View.upd]at e;by_cases zI:b=b'
  ·subst zI;have K8:o≠o':=(by intro x;subst x;rw[hi]at e;cases e);simp only[Uz,hb]at this;simp only[Uz,hm,S_ hlt,SU K8];exact this
  ·simp only[Uz,hm,SU zI];exact this
 ·simp only[View.upd]at e;rw[hm];by_cases zI:b'=b
  ·subst zI;simp at e;rw[S_ hlt,e]
  ·simp only[zI,if_false]at e;rw[SU (Ne.symm zI)];exact h.own _ _ e
theorem DT(w:Tp)(a:U5)(v:SP):(w.setCell a v).heap.size=w.heap.size:=by simp[Xg]
theorem wh(w:Tp)(a:U5)(v:SP){b:Nat}(h:a.block≠b):(w.setCell a v).heap[b]?=w.heap[b]?:=by simp[Xg,Wi,h]
theorem aqg{m:Mode}{b o:Nat}{v:SP}{k:Sem α}{c:Array SP}{el:TypeId}{lo hi:Nat}(ho:V.own b=some (.cells c el (lo,hi)))(cK:o<c.size)(cC:V.ab b o=none)(hv:v.one=true)
  (hf:¬(lo<=o/\o<hi)) (kq:V.role.group≠some b\/m=.atomic) (Kx:V.role.chan≠some b) (h:aO P (V.upd b (.cells (c.setIfInBounds o v) el (lo,hi))) k K Kp):aO P V (.store m ⟨b,o,none⟩ v k) K Kp:=by
 refine .cont λw hw=>⟨#[⟨.cell ⟨b,o,none⟩,true,m== .atomic⟩],w.setCell ⟨b,o,none⟩ v,_,k,?_,λeV=> ?_,h⟩
 ·rw[tQ (by simp)];refine⟨hw.adq ho cC,rfl,rfl,rfl,by rw[DT];exact SQ _,λb' dD e=>wh _ _ _ (λx=> ?_),λb' dD e=> ?_,λ_ _ _ e=>e,λ_ _ _ e=> .inl e,λev cu=> ?_,by rw[Pk];rfl,rfl,λc' x bm e=>by rw[<- e];simp only[View.upd,ite_eq_right_iff];intro x';subst x';exact absurd bm Kx,λev cu=>by simp at cu;subst cu;show b<_;rw[DT];exact hw.lt ho⟩
  ·have x':b=b':=x;subst x';rw[ho]at e;cases e
  ·have:b'≠b:=(by intro x;subst x;rw[ho]at e;cases e);simp only[View.upd,this,if_false];exact e
  ·simp only[TK,SK,S0,or_false]at cu;subst cu;exact⟨.inr ⟨by show V.own b≠none;rw[ho];simp,cC⟩,kq.elim .inr (λx=> .inl (by subst x;rfl))⟩
 ·have hc:w.cell? ⟨b,o,none⟩=some c[o]:=by simp[Uz,hw.own _ _ ho,cK]
  have hfz:w.frozen? ⟨b,o,none⟩=false:=by
   simp only[ZP,hw.own _ _ ho];simpa using hf
  cases v<;>simp_all[-TB,VH,Value.one]
theorem oJ{x:Obj}{k:Nat->Sem α}(h:∀r,V.fresh r->aO P (V.upd r x) (k r) K Kp):aO P V (.new x k) K Kp:=by
 refine .cont λw hw=>⟨#[],{w with heap:=w.heap.push x},V.upd w.heap.size x,k w.heap.size,?_,λeV=>by simp[-TB,VH],h _ (hw.fresh (SQ _))⟩;have jF:=hw.fresh (SQ w.heap.size);have aH:∀{b y},V.own b=some y->b≠w.heap.size:=λe x=>by rw[x,jF.1]at e;cases e
 refine⟨⟨λb o v e=> ?_,λb y e=> ?_⟩,rfl,rfl,rfl,by simp,λb hb _=> ?_,λb hb e=> ?_,λ_ _ _ e=>e,λ_ _ _ e=> .inl e,by simp[fI],rfl,rfl,λc' x bm e=>by rw[<- e];simp only[View.upd,ite_eq_right_iff];intro x';exact absurd x' (aH e),by simp[fI]⟩
 ·have hlt:=hw.C7 e;have:=hw.ab _ _ _ e;simp only[Uz,Yw hlt]at this⊢;simpa[Uz,hlt]using this
 ·simp only[View.upd]at e;by_cases hb:b=w.heap.size
  ·subst hb;simp at e;simp[e]
  ·simp only[hb,if_false]at e;have:=hw.own _ _ e;have hlt:=hw.lt e;simp only[Yw hlt];simpa[hlt]using this
 ·simp[Xf,Wa hb]
 ·simp only[View.upd,Wa hb,if_false];exact e
theorem ach{q:Question}{k:Nat->Sem α}(h0:q.forced=true->aO P V (k 0) K Kp)(h:q.forced=false->∀t,aO P V (k (q.cut t)) K Kp):aO P V (.choose q k) K Kp:=by
 cases hf:q.forced with
 |true=>exact .cont λw hw=>⟨#[],w,V,k 0,by simpa[fI]using dg.idle hw,λeV=>by simp[-TB,VH,hf],h0 hf⟩
 |false=>exact .cont λw hw=>⟨#[],{w with drawn:=w.drawn+1},V,_,by simpa[fI]using dg.draw hw (w.drawn+1),λeV=>by simp[-TB,VH,hf],h hf (w.tape w.drawn q)⟩
theorem qG{k:SI->Sem α}(h:aO P V (k P) K Kp):aO P V (.program k) K Kp:=
 .cont λw hw=>⟨#[],w,V,k P,by simpa[fI]using dg.idle hw,λeV=>by simp[-TB,VH],h⟩
theorem aqd{k:Sem α}(h:aO P V k K Kp):aO P V (.mark .noRoom k) K Kp:=
 .cont λw hw=>⟨#[⟨.mark .noRoom,false,true⟩],w,V,k,by
  rw[tQ (by simp)];exact⟨hw,rfl,rfl,rfl,SQ _,λ_ _ _=>rfl,λ_ _ e=>e,λ_ _ _ e=>e,λ_ _ _ e=> .inl e,λev cu=>by simp at cu;subst cu;trivial,by simp[deafBehind],rfl,λ_ _ _ e=>e,λev cu=>by simp at cu;subst cu;trivial⟩,
  λeV=>by simp[-TB,VH],h⟩
theorem aqc{m:Mark}{k:Sem α}(hm:m=.disable\/m=.enable)(h:aO P {V with deaf:=deafBehind V.deaf #[⟨.mark m,false,true⟩]} k K Kp):aO P V (.mark m k) K Kp:=
 .cont λw hw=>⟨#[⟨.mark m,false,true⟩],w,_,k,by
  rw[tQ (by rcases hm with rfl|rfl<;>simp)];exact⟨⟨hw.ab,hw.own⟩,rfl,rfl,rfl,SQ _,λ_ _ _=>rfl,λ_ _ e=>e,λ_ _ _ e=>e,λ_ _ _ e=> .inl e,λev cu=>by simp at cu;subst cu;rcases hm with rfl|rfl<;>rfl,rfl,rfl,λ_ _ _ e=>e,λev cu=>by simp at cu;subst cu;rcases hm with rfl|rfl<;>trivial⟩,
  λeV=>by simp[-TB,VH],h⟩
theorem aqf{m:Mark}{a:U5}{k:Sem α}(hm:m=.read a\/m=.write a)(ha:V.own a.block≠none/\V.ab a.block a.off=none)(h:aO P V k K Kp):aO P V (.mark m k) K Kp:=
 .cont λw hw=>⟨#[⟨.mark m,false,true⟩],w,_,k,by
  rw[tQ (by rcases hm with rfl|rfl<;>simp)];exact⟨⟨hw.ab,hw.own⟩,rfl,rfl,rfl,SQ _,λ_ _ _=>rfl,λ_ _ e=>e,λ_ _ _ e=>e,λ_ _ _ e=> .inl e,λev cu=>by simp at cu;subst cu;rcases hm with rfl|rfl<;>exact .inr ha,
   by rcases hm with rfl|rfl<;>simp[deafBehind],rfl,λ_ _ _ e=>e,λev cu=>by
    simp at cu;subst cu;have:a.block<w.heap.size:=by
     cases e:V.own a.block with
     |none=>exact absurd e ha.1
     |some y=>exact hw.lt e
    rcases hm with rfl|rfl<;>exact this⟩,
  λeV=>by simp[-TB,VH],h⟩
def _root_.Go.Obj.u7:Obj->Bool
 |.cells .. =>true
 |_=>false
theorem nU{r:Nat}{x:Obj}{k:Obj->Sem α}(ho:V.own r=some x)(hx:x.u7=false)(hc:x.isChan=false)(kq:V.role.chan≠some r)(h:aO P V (k x) K Kp):aO P V (.getObj r k) K Kp:=
 .cont λw hw=>⟨#[⟨.obj r,false,false⟩],w,V,k x,by
  rw[tQ (by simp)];exact⟨hw,rfl,rfl,rfl,SQ _,λ_ _ _=>rfl,λ_ _ e=>e,λ_ _ _ e=>e,λ_ _ _ e=> .inl e,λev cu=>by simp at cu;subst cu;exact⟨⟨rfl,.inr (by rw[ho];simp)⟩,kq⟩,by rw[Pl],rfl,λ_ _ _ e=>e,λev cu=>by simp at cu;subst cu;exact hw.lt ho⟩,
  λeV=>by
   have:=hw.own _ _ ho;cases x<;>simp_all[-TB,VH,Obj.u7,ag_],h⟩
theorem Sat.ar2{V:View}{w:Tp}(h:Sat V w){r:Nat}{x y:Obj}(ho:V.own r=some x)(hx:x.u7=false):Sat (V.upd r y) {w with heap:=w.heap.setIfInBounds r y}:=by
 have hlt:=h.lt ho;refine⟨λb o v e=> ?_,λb z e=> ?_⟩
 ·have:=h.ab _ _ _ e;have hb:r≠b:=by
   intro e';subst e';simp only[Uz,h.own _ _ ho]at this;cases x<;>simp_all[Obj.u7]
  simp only[Uz,SU hb]at this⊢;exact this
 ·simp only[View.upd]at e;by_cases hb:b=r
  ·subst hb;simp at e;simp[hlt,e]
  ·simp only[hb,if_false]at e;simp only[SU (Ne.symm hb)];exact h.own _ _ e
theorem yD{r:Nat}{x y:Obj}{k:Sem α}(ho:V.own r=some x)(hx:x.u7=false)(hy:y.isChan=false)(kq:V.role.chan≠some r)(h:aO P (V.upd r y) k K Kp):aO P V (.setObj r y k) K Kp:=
 .cont λw hw=>⟨#[⟨.obj r,true,false⟩],{w with heap:=w.heap.setIfInBounds r y},_,k,by
  rw[tQ (by simp)];refine⟨hw.ar2 ho hx,rfl,rfl,rfl,by simp,λb hb e=> ?_,λb hb e=> ?_,λ_ _ _ e=>e,λ_ _ _ e=> .inl e,λev cu=>by simp at cu;subst cu;exact⟨⟨rfl,.inr (by rw[ho];simp)⟩,kq⟩,by rw[Pl];rfl,rfl,λc' x bm e=>by rw[<- e];simp only[View.upd,ite_eq_right_iff];intro x';subst x';exact absurd bm kq,λev cu=>by simp at cu;subst cu;show r<_;simp;exact hw.lt ho⟩
  ·exact SU (λx'=>by subst x';rw[ho]at e;cases e)
  ·have:b≠r:=(by intro x';subst x';rw[ho]at e;cases e);simp only[View.upd,this,if_false];exact e,
  λeV=>by
   have:=hw.own _ _ ho;cases x<;>simp_all[-TB,VH,Obj.u7,ag_],h⟩
theorem ap5{s:Sem α}{f:α->Sem β}{K:β->View->Prop}(h:aO P V s (λx V'=>aO P V' (f x) K Kp) Kp):aO P V (s.bind f) K Kp:=by
 intro w hw eV;obtain⟨es,w',V',h1,h2⟩:=h w hw eV;have key:(s.bind f).runT P w eV=match s.runT P w eV with
   |(.ok x w',e)=>(f x).runT P w' e
   |(.halt h w',e)=>(.halt h w',e):=by
  have hr:=Sem.run_bind' P s f w;have he:=Sem.events_bind' P s f w eV;rw[TB,TB];have x7:(s.bind f).run P w=_:=hr;have ko:(s.bind f).events P w eV=_:=he;rw[x7,ko];cases s.run P w<;>simp[Result.andThen,Result.evThen]
 rcases h2 with⟨x,hx,hK⟩|⟨v,hv,hKp⟩
 ·obtain⟨ut,NR,aR,h3,h4⟩:=hK w' h1.sat (eV++es);refine⟨es++ut,NR,aR,by rw[MG];exact h1.trans h3,?_⟩;rw[key,hx,<- Xq];exact h4
 ·refine⟨es,w',V',h1,.inr ⟨v,?_,hKp⟩⟩;rw[key,hv]
theorem az{s:Sem α}{f:α->Sem β}{K:β->View->Prop}(h:aO P V s (λx V'=>aO P V' (f x) K Kp) Kp):aO P V (s>>=f) K Kp:=ap5 h
end
open Go.Conc
def yT (e:Ur):Prop:=∀m,e.loc=.mark m->(m=.disable\/m=.enable)->e.sync=true
theorem mW.JC{V:View}{n:Nat}{e:Ur}(h:mW V n e):yT e:=by
 intro m hm hd;obtain⟨l,wr,s⟩:=e;simp only at hm;subst hm;rcases hd with rfl|rfl
 ·simpa[mW]using h
 ·simpa[mW]using h
theorem agA(d:Nat)(x:Array Ur)(e:Ur):deafBehind d (x.push e)=deafBehind (deafBehind d x) #[e]:=by
 simp[deafBehind]
theorem agB{d:Nat}{e:Ur}(hg:yT e)(hs:e.sync=false):deafBehind d #[e]=d:=by
 obtain⟨l,wr,s⟩:=e;cases l with
 |mark m=>
  cases m<;>first
   |(have:=hg _ rfl (.inl rfl);simp_all)
   |(have:=hg _ rfl (.inr rfl);simp_all)
   |simp[deafBehind]
 |_=>simp[deafBehind]
theorem ap3(P:SI)(fn:TO)(es:Array Ur)(hg:∀e∈fI es,yT e)(d:Nat):(∀e∈seen P fn es,e∈fI es)/\deafBehind d (seen P fn es)=deafBehind d (fI es):=by
 rw[seen_def];obtain⟨l⟩:=es;have key:∀(l:List Ur)(q:Bool)(kept ref:Array Ur),(∀e∈fI l.toArray,yT e)->(∀e∈kept,e∈ref)->deafBehind d kept=deafBehind d ref->
   (∀e∈(l.foldl (seenStep λf=>(P.funcs[f]?).any (·.norace)) (q,kept)).2,e∈ref++fI l.toArray)/\
   deafBehind d (l.foldl (seenStep λf=>(P.funcs[f]?).any (·.norace)) (q,kept)).2=deafBehind d (ref++fI l.toArray):=by
  intro l;induction l with
  |nil=>intro q kept ref _ h1 h2;simpa[fI]using⟨h1,h2⟩
  |cons e l ih=>
   intro q kept ref hg h1 h2;rw[UZ];by_cases hx:∃f,e.loc=.mark (.extern f)
   ·obtain⟨f,hf⟩:=hx;have e1:fI (e::l).toArray=fI l.toArray:=(by simp[fI,hf]);rw[e1]at hg⊢;have e3:seenStep (λf=>(P.funcs[f]?).any (·.norace)) (q,kept) e=((P.funcs[f]?).any (·.norace),kept):=(by simp[seenStep,hf]);rw[e3];exact ih _ kept ref hg h1 h2
   ·have aH:∀f,e.loc≠ .mark (.extern f):=λf hf=>hx ⟨f,hf⟩;have e1:fI (e::l).toArray=#[e]++fI l.toArray:=by
     have:(e::l).toArray=#[e]++l.toArray:=(by simp);rw[this,MG,tQ aH]
    have qh:yT e:=hg e (by rw[e1];simp);have kH:∀x∈fI l.toArray,yT x:=λx hx=>hg x (by rw[e1];exact Uu.2 (.inr hx));have e2:seenStep (λf=>(P.funcs[f]?).any (·.norace)) (q,kept) e=(q,if q&& !e.sync then kept else kept.push e):=by
     unfold seenStep;dsimp only;split
     ·rename_i f hf;exact absurd hf (aH f)
     ·rfl
    rw[e1,<- Xq];rw[e2];refine ih q _ (ref++#[e]) kH (λx hx=> ?_) ?_
    ·split at hx
     ·exact Uu.2 (.inl (h1 x hx))
     ·rcases Array.mem_push.1 hx with hx|rfl
      ·exact Uu.2 (.inl (h1 x hx))
      ·exact Uu.2 (.inr (by simp))
    ·split
     ·rename_i hq;simp only[Ti,TY]at hq;rw[IK,agB qh hq.2,h2]
     ·rw[IK,agA,h2]
 have:=key l ((P.funcs[fn]?).any (·.norace)) #[] #[] hg (by simp) rfl;simpa only[Xp]using this
theorem dg.seen{V V':View}{w w':Tp}{es:Array Ur}(h:dg V w V' w' (fI es))(P:SI)(fn:TO):dg V w V' w' (seen P fn es):=by
 have:=ap3 P fn es (λe he=>(h.ff e he).JC) V.deaf;exact⟨h.sat,h.tape,h.os,h.output,h.size,h.frame,h.own,h.ab,h.kL,λe he=>h.ff e (this.1 e he),by rw[h.deaf,this.2],h.role,h.chan,λe he=>h.low e (this.1 e he)⟩
open Go.Conc
inductive Out where
 |ret (v:SP)
 |panic (chain:List ZQ)
def Leaves (P:SI)(fr:Ua)(f:TO)(kd:Xc)(o:Out)(V:View):Prop:=
 fr.fn=f/\fr.defers=[]/\fr.kind=kd/\∃fn,P.funcs[f]?=some fn/\
  match o with
  |.ret v=>fr.mode=.returning/\aO P V (results fn fr.tmps) (λx V'=>x=v/\V'=V) (λ_ _=>False)
  |.panic ch=>fr.mode=.panicking ch
def Body (lv:Bool)(P:SI)(f:TO)(args:Array SP)(kd:Xc)(V:View)(R:Out->View->Prop):Prop:=
 ∀(main:Bool)(J:View->SG->Prop),Closed lv P main J->∀cs,(∀o V' fr,R o V'->Leaves P fr f kd o V'->J V' (G fr cs))->J V (G (Frame.enter P f args kd) cs)
def mZ (lv:Bool)(P:SI)(fr:Ua)(V:View)(R:Out->View->Prop):Prop:=
 ∀(main:Bool)(J:View->SG->Prop),Closed lv P main J->∀c cs,(∀v V',R (.ret v) V'->J V' (G (c.finish v) cs))->(∀ch V',R (.panic ch) V'->J V' (G (c.raise ch) cs))->J V (G fr (c::cs))
theorem Body.mono{lv:Bool}{P:SI}{f:TO}{args:Array SP}{kd:Xc}{V:View}{R R':Out->View->Prop}(h:Body lv P f args kd V R)(hr:∀o V,R o V->R' o V):Body lv P f args kd V R':=
 λmain J C cs hk=>h main J C cs λo V' fr r hl=>hk o V' fr (hr _ _ r) hl
theorem Body.ghost{lv:Bool}{P:SI}{f:TO}{args:Array SP}{kd:Xc}{V V':View}{R:Out->View->Prop}(g:dR V V')(h:Body lv P f args kd V' R):Body lv P f args kd V R:=
 λmain J C cs hk=>C.ghost _ _ _ g (h main J C cs hk)
theorem mZ.mono{lv:Bool}{P:SI}{fr:Ua}{V:View}{R R':Out->View->Prop}(h:mZ lv P fr V R)(hr:∀o V,R o V->R' o V):mZ lv P fr V R':=
 λmain J C c cs h1 h2=>h main J C c cs (λv V' r=>h1 v V' (hr _ _ r)) (λv V' r=>h2 v V' (hr _ _ r))
theorem mZ.ghost{lv:Bool}{P:SI}{fr:Ua}{V V':View}{R:Out->View->Prop}(g:dR V V')(h:mZ lv P fr V' R):mZ lv P fr V R:=
 λmain J C c cs h1 h2=>C.ghost _ _ _ g (h main J C c cs h1 h2)
theorem aO.runs{P:SI}{α:Type}{V:View}{s:Sem α}{K:α->View->Prop}{Kp:SP->View->Prop}(h:aO P V s K Kp){w:Tp}(hw:Sat V w):
  ∃es w' V',dg V w V' w' (fI es)/\s.events P w #[]=es/\((∃x,s.run P w=.ok x w'/\K x V')\/(∃v,s.run P w=.halt (.panic v) w'/\Kp v V')):=by
 obtain⟨es,w',V',h1,h2⟩:=h w hw #[];refine⟨es,w',V',h1,?_⟩;simp only[TB,U2,Xp]at h2;rcases h2 with⟨x,⟨a,b⟩,c⟩|⟨x,⟨a,b⟩,c⟩
 ·exact⟨b,.inl ⟨x,a,c⟩⟩
 ·exact⟨b,.inr ⟨x,a,c⟩⟩
theorem amA{lv:Bool}{P:SI}{main:Bool}{J:View->SG->Prop}(C:Closed lv P main J){fr c:Ua}{cs:List Ua}{f:TO}{v:SP}{V:View}(h:Leaves P fr f .normal (.ret v) V)(hJ:J V (G (c.finish v) cs)):J V (G fr (c::cs)):=by
 obtain⟨rfl,hd,hk,fn,hf,hm,hr⟩:=h;refine C.step _ _ rfl λw hw=> ?_;obtain⟨es,w',V',h1,h2,h3⟩:=hr.runs hw;rcases h3 with⟨x,h3,rfl,rfl⟩|⟨_,_,h⟩
 ·exact⟨G (c.finish x) cs,w',seen P fr.fn es,V',by simp[G,stepG,unwind,doReturn,hm,hd,hk,hf,h3,h2,T1],h1.seen P fr.fn,hJ⟩
 ·exact h.elim
theorem amz{lv:Bool}{P:SI}{main:Bool}{J:View->SG->Prop}(C:Closed lv P main J){fr c:Ua}{cs:List Ua}{f:TO}{kd:Xc}{ch:List ZQ}{V:View}(h:Leaves P fr f kd (.panic ch) V)(hJ:J V (G (c.raise ch) cs)):J V (G fr (c::cs)):=by
 obtain⟨rfl,hd,hk,fn,hf,hm⟩:=h;refine C.idle rfl (λw=> ?_) hJ;simp[G,stepG,unwind,ZS,hm,hd,hf]
theorem Body.runs{lv:Bool}{P:SI}{f:TO}{args:Array SP}{V:View}{R:Out->View->Prop}(h:Body lv P f args .normal V R):mZ lv P (Frame.enter P f args .normal) V R:=by
 intro main J C c cs h1 h2;refine h main J C (c::cs) λo V' fr r hl=> ?_;cases o with
 |ret v=>exact amA C hl (h1 v V' r)
 |panic ch=>exact amz C hl (h2 ch V' r)
def mG (lv:Bool)(P:SI)(r:Option Nat)(o:Tu)(a:Act)(next:Act->View->Prop)(Q:Ex->Act->View->Prop)(nx:Next)(V:View):Prop:=
 match nx with
 |.value v=>next (a.put o.dst v) V
 |.skip=>next (a.put o.dst undef) V
 |.defer d=>r=none/\next ({a with defers:=d::a.defers}.put o.dst undef) V
 |.enter f args=>Body lv P f args .normal V fun
   |.ret v,V'=>next (a.put o.dst v) V'
   |.panic ch,V'=>Q (.panic ch) a V'
 |.round l f tmps assign body=>mZ lv P (W8 l f tmps assign body .normal) V fun
   |.ret v,V'=>next (a.put o.dst v) V'
   |.panic ch,V'=>Q (.panic ch) a V'
 |_=>False
def mo:Op->Bool
 |.defer _=>true
 |_=>false
def w6 (lv:Bool)(P:SI)(r:Option Nat)(o:Tu)(a:Act)(V:View)(next:Act->View->Prop)(Q:Ex->Act->View->Prop):Prop:=
 (r=none\/mo o.op=false)/\aO P V (execOp a.eval o) (mG lv P r o a next Q) (λv V'=>Q (.panic [{v,recovered:=false}]) a V')
def vG (lv:Bool)(P:SI)(o:Tu)(a:Act)(V:View)(next:Act->View->Prop):Prop:=match o.op with
 |.send ch x=>∃(c Wg:Nat)(sp:Spec)(S:List Spec)(B:Nat->Bool),a.eval ch=.chan (some c)/\V.role=.work c Wg (sp::S)/\V.deaf=0/\sp (a.eval x) V.ab (λb=>if B b then V.own b else none)/\
   next (a.put o.dst undef) {V with own:=λb=>if B b then none else V.own b,role:=.work c Wg S}
 |.go cl=>lv=true/\∃(x:Th)(f:TO)(fa ca:Array SP),cl.callee=.value x/\a.eval x=.func (.func f) fa ca/\V.deaf=0/\
   ((∃(c Wg:Nat)(Ss:List (List Spec))(sp:Spec)(S:List Spec),V.role=.fork c Wg Ss/\V.own c=some (.chan 0 #[] false 0 0 false)/\V.own Wg=some (wgBlock P (((Ss.length+1:Nat):Int)* 4294967296) 0)/\Ss.length<4/\(∀o,V.ab Wg o=none)/\
    (∀J0,yO P false J0->J0 {ab:=V.ab,own:=λ_=>none,deaf:=0,role:=.work c Wg (sp::S)} (born P ⟨.fn (.func f) ca,fa++cl.args.map a.eval⟩))/\next (a.put o.dst undef) {V with role:=.fork c Wg (Ss++[sp::S])})\/
    (∃(c Wg:Nat)(Ss:List (List Spec)),V.role=.fork c Wg Ss/\c≠Wg/\V.own c=some (.chan 0 #[] false 0 0 false)/\V.own Wg=some (wgBlock P (((Ss.length:Nat):Int)* 4294967296) 0)/\(∀o,V.ab c o=none)/\(∀o,V.ab Wg o=none)/\
    HX P V.ab c Wg (born P ⟨.fn (.func f) ca,fa++cl.args.map a.eval⟩)/\next (a.put o.dst undef) {V with own:=λb=>if b=c\/b=Wg then none else V.own b,role:=.recv c Wg Ss}))
 |.recv t ch true=>lv=true/\∃(c Wg:Nat)(Ss:List (List Spec))(d:ChanDir)(el:TypeId)(i:Wj)(z:SP),a.eval ch=.chan (some c)/\P.underlying t=some (.chan d el)/\P.info? el=some i/\i.zero=some z/\V.role=.recv c Wg Ss/\V.deaf=0/\
   (∀(i:Nat)(sp:Spec)(S:List Spec)(v:SP)(Im:cw)(Ow:Bp),Ss[i]?=some (sp::S)->sp v Im Ow->(∀b,V.own b≠none->Ow b=none)->(∀b o,V.own b≠none->Im b o≠none->V.ab b o≠none)->(∃w,Sat V w/\(∀b o x,Im b o=some x->w.cell? ⟨b,o,none⟩=some x)/\∀b x,Ow b=some x->w.heap[b]?=some x)->
    next (a.put o.dst (.tuple #[v,.bool true])) {V with ab:=λb o=>match V.ab b o with|some x=>some x|none=>Im b o,own:=λb=>match V.own b with|some x=>some x|none=>Ow b,role:=.recv c Wg (Ss.set i S)})/\
   ((∀S∈Ss,S=[])->next (a.put o.dst (.tuple #[z,.bool false])) {V with role:=.plain})
 |_=>False
theorem vG.mono{lv:Bool}{P:SI}{o:Tu}{a:Act}{V:View}{N N':Act->View->Prop}(h:vG lv P o a V N)(hN:∀a V,N a V->N' a V):vG lv P o a V N':=by
 unfold vG at h⊢;split at h
 ·obtain⟨c,Wg,sp,S,B,h1,h2,h3,h4,h5⟩:=h;exact⟨c,Wg,sp,S,B,h1,h2,h3,h4,hN _ _ h5⟩
 ·obtain⟨tp,x,f,fa,ca,h1,h2,h3,h4⟩:=h;refine⟨tp,x,f,fa,ca,h1,h2,h3,h4.imp ?_ ?_⟩
  ·rintro⟨c,Wg,Ss,sp,S,q1,q2,q3,q4,q5,q6,q7⟩
   exact⟨c,Wg,Ss,sp,S,q1,q2,q3,q4,q5,q6,hN _ _ q7⟩
  ·rintro⟨c,Wg,Ss,q1,q2,q3,q4,q5,q6,q7,q8⟩
   exact⟨c,Wg,Ss,q1,q2,q3,q4,q5,q6,q7,hN _ _ q8⟩
 ·obtain⟨tp,c,Wg,Ss,d,el,ti,z,h1,h2,h3,h4,h5,h6,h7,h8⟩:=h;exact⟨tp,c,Wg,Ss,d,el,ti,z,h1,h2,h3,h4,h5,h6,λi sp S v Im Ow r1 r2 r3 r4 r5=>hN _ _ (h7 i sp S v Im Ow r1 r2 r3 r4 r5),λhS=>hN _ _ (h8 hS)⟩
 ·exact h
def Bn (lv:Bool)(P:SI)(r:Option Nat)(o:Tu)(a:Act)(V:View)(next:Act->View->Prop)(Q:Ex->Act->View->Prop):Prop:=w6 lv P r o a V next Q\/vG lv P o a V next
def dl (lv:Bool)(P:SI)(r:Option Nat)(ops:Array Tu)(Q:Ex->Act->View->Prop):List Nat->Act->View->Prop
 |[],a,V=>Q .normal a V
 |i::rest,a,V=>
  match ops[i]?with
  |none=>dl lv P r ops Q rest a V
  |some o=>if Tg o (yielded ops a.tmps)then Bn lv P r o a V (dl lv P r ops Q rest) Q else dl lv P r ops Q rest (a.put o.dst undef) V
theorem AA(b:Ua)(a:Act)(ops:Array Tu)(i:Nat)(rest:List Nat)(k:List WT)(v:SP):
  (on b a (.inRegion ops (i::rest)::k)).finish v=on b (a.put ((ops[i]?).bind (·.dst)) v) (.inRegion ops rest::k):=by
 cases h:(ops[i]?).bind (·.dst)<;>simp[Frame.finish,on,XY,h]
theorem ab3{P:SI}{main:Bool}{b:Ua}{a:Act}{k:List WT}{cs:List Ua}{w:Tp}{ops:Array Tu}{i:Nat}{rest:List Nat}(h:((ops[i]?).map (Tg · (yielded ops a.tmps))).getD false=false):
  stepG P main (G (on b a (.inRegion ops (i::rest)::k)) cs) w=.go (G (on b (a.put ((ops[i]?).bind (·.dst)) undef) (.inRegion ops rest::k)) cs) w #[]:=by
 rw[<- AA];simp only[on]at*;simp[G,stepG,Uf,h]
theorem s_op{P:SI}{main:Bool}{b:Ua}{a:Act}{k:List WT}{cs:List Ua}{w:Tp}{ops:Array Tu}{i:Nat}{rest:List Nat}{o:Tu}(ho:ops[i]?=some o)(hw:Tg o (yielded ops a.tmps)=true)(hd:b.roundOf=none\/mo o.op=false):
  stepG P main (G (on b a (.inRegion ops (i::rest)::k)) cs) w=stepG.apply P true (on b a (.inRegion ops (i::rest)::k)) cs none (execOp a.eval o) w:=by
 have he:=anR b a (.inRegion ops (i::rest)::k);simp only[on]at he;rcases hd with hd|hd
 ·rw[hd]at he;simp[G,stepG,Uf,Y2,YJ,on,ho,hw,he,hd]
 ·cases hr:b.roundOf with
  |none=>
   rw[hr]at he;simp[G,stepG,Uf,Y2,YJ,on,ho,hw,he,hr]
  |some l=>cases ay:o.op<;>simp_all[G,stepG,Uf,Y2,YJ,on,mo]
theorem aqA{lv:Bool}{P:SI}{main:Bool}{J:View->SG->Prop}(C:Closed lv P main J){ops:Array Tu}{i:Nat}{rest:List Nat}{o:Tu}{a:Act}{V:View}{N:Act->View->Prop}{b:Ua}{k:List WT}{cs:List Ua}(hb:b.kind≠ .early)
  (ho:ops[i]?=some o) (hw:Tg o (yielded ops a.tmps)=true) (h:vG lv P o a V N) (hN:∀a' V',N a' V'->J V' (G (on b a' (.inRegion ops rest::k)) cs)):J V (G (on b a (.inRegion ops (i::rest)::k)) cs):=by
 have jY:((on b a (.inRegion ops (i::rest)::k)).kind==U6)=false:=by simpa[on]using hb
 have dY:∀v,(on b a (.inRegion ops (i::rest)::k)).finish v=on b (a.put o.dst v) (.inRegion ops rest::k):=by
  intro v;rw[AA,ho];rfl
 have Lu:∀v,T5 (G (on b a (.inRegion ops (i::rest)::k)) cs) v=G (on b (a.put o.dst v) (.inRegion ops rest::k)) cs:=λv=>by rw[<- dY v];rfl
 unfold vG at h;split at h
 ·rename_i ch x ay;obtain⟨c,Wg,sp,S,B,h1,h2,h3,h4,h5⟩:=h;have aQ:∀w,stepG P main (G (on b a (.inRegion ops (i::rest)::k)) cs) w=.comm (G (on b a (.inRegion ops (i::rest)::k)) cs) #[scase c (a.eval x) (.tuple #[])] true .send w #[]:=λw=>by
   rw[s_op ho hw (.inr (by rw[ay];rfl))];have e:execOp a.eval o=pure (.comm #[scase c (a.eval x) (.tuple #[])] true .send):=by
    unfold execOp;simp only[ay];rw[h1];rfl
   rw[e];simp only[stepG.apply,TB,if_true,jY,T1,Z5,ZF,Z8];rfl
  exact C.send _ _ c Wg sp S (a.eval x) (.tuple #[]) B h2 h3 rfl rfl (λw _=>aQ w) h4 (by rw[Lu];exact hN _ _ h5)
 ·rename_i cl ay;obtain⟨tp,x,f,fa,ca,h1,h2,h3,h4⟩:=h;have aQ:∀w,stepG P main (G (on b a (.inRegion ops (i::rest)::k)) cs) w=.spawn (G (on b (a.put o.dst undef) (.inRegion ops rest::k)) cs) (born P ⟨.fn (.func f) ca,fa++cl.args.map a.eval⟩) w #[]:=λw=>by
   rw[s_op ho hw (.inr (by rw[ay];rfl)),<- dY undef];have e:execOp a.eval o=(pure (.spawn ⟨.fn (.func f) ca,fa++cl.args.map a.eval⟩):Sem Next):=by
    unfold execOp;simp only[ay];unfold resolve;simp only[h1,h2];rfl
   rw[e];simp only[stepG.apply,TB,if_true,jY,T1,Z5,ZF,Z8];simp[born,G,on];exact Z8 _ _
  rcases h4 with⟨c,Wg,Ss,sp,S,q1,q2,q3,q4,q5,q6,q7⟩|⟨c,Wg,Ss,q1,q2,q3,q4,q5,q6,q7,q8⟩
  ·exact(C.more tp).Fg _ _ _ _ c Wg Ss sp S q1 h3 rfl q2 q3 q4 q5 (λw _=>aQ w) rfl q6 (hN _ _ q7)
  ·exact(C.more tp).Ff _ _ _ _ c Wg Ss q1 h3 rfl q2 q3 q4 q5 q6 (λw _=>aQ w) rfl q7 (hN _ _ q8)
 ·rename_i t ch ay;obtain⟨tp,c,Wg,Ss,d,el,ti,z,h1,h2,h3,h4,h5,h6,h7,h8⟩:=h;have aQ:∀w,stepG P main (G (on b a (.inRegion ops (i::rest)::k)) cs) w=.comm (G (on b a (.inRegion ops (i::rest)::k)) cs) #[rcase c z] true (.recv true) w #[]:=λw=>by
   rw[s_op ho hw (.inr (by rw[ay];rfl))];have hu:(underlying t).run P w=.ok (.chan d el) w:=run_underlying h2 w;have hi:(typeInfo el).run P w=.ok ti w:=(by simp[typeInfo,h3]);have hz:(zeroValue el).run P w=.ok z w:=(by simp[zeroValue,hi,h4]);have uZ:(zeroValue el).events P w #[]=#[]:=(by simp[zeroValue,hi,h4]);have e1:(execOp a.eval o).run P w=.ok (.comm #[rcase c z] true (.recv true)) w:=by
    unfold execOp;simp only[ay];rw[h1];simp[hu,hz,rcase]
   have e2:(execOp a.eval o).events P w #[]=#[]:=by
    unfold execOp;simp only[ay];rw[h1];simp[hu,hz,uZ]
   simp only[stepG.apply,TB,if_true,jY,T1,e1,e2,Z8];rfl
  refine(C.more tp).recv _ _ c Wg Ss z h5 h6 rfl rfl (λw _=>aQ w) (λi sp S v Im Ow r1 r2 r3 r4 r5=> ?_) λhS=> ?_
  ·rw[Lu];exact hN _ _ (h7 i sp S v Im Ow r1 r2 r3 r4 r5)
  ·rw[Lu];exact hN _ _ (h8 hS)
 ·exact h.elim
theorem wp_ops{lv:Bool}{P:SI}{r:Option Nat}{ops:Array Tu}{Q:Ex->Act->View->Prop}(l:List Nat):
  ∀(a:Act)(V:View),dl lv P r ops Q l a V->∀(main:Bool)(J:View->SG->Prop),Closed lv P main J->∀(b:Ua)(k:List WT)(cs:List Ua),b.kind≠ .early->b.roundOf=r->
   (∀e a' V',Q e a' V'->vE J b k cs e a' V')->J V (G (on b a (.inRegion ops l::k)) cs):=by
 induction l with
 |nil=>exactλa V h main J C b k cs _ _ hL=>C.idle rfl (λ_=>apV) (hL _ _ _ h)
 |cons i rest ih=>
  intro a V h main J C b k cs hb hr hL;simp only[dl]at h;cases ho:ops[i]?with
  |none=>
   simp only[ho]at h;refine C.idle rfl (λw=>ab3 (by simp[ho])) ?_;simp only[ho,Option.bind_none,XY];exact ih a V h main J C b k cs hb hr hL
  |some o=>
   simp only[ho]at h;by_cases hw:Tg o (yielded ops a.tmps)=true
   ·simp only[hw,if_true]at h;rcases h with h|h
    rotate_left
    ·exact aqA C hb ho hw h λa' V' h'=>ih a' V' h' main J C b k cs hb hr hL
    obtain⟨bz,ay⟩:=h;have aj8:b.roundOf=none\/mo o.op=false:=hr▸bz;have dY:∀v,(on b a (.inRegion ops (i::rest)::k)).finish v=on b (a.put o.dst v) (.inRegion ops rest::k):=by
     intro v;rw[AA,ho];rfl
    have jY:((on b a (.inRegion ops (i::rest)::k)).kind==U6)=false:=(by simpa[on]using hb);refine C.step _ _ rfl λw fx=> ?_;obtain⟨es,w',V',h1,h2,h3⟩:=ay.runs fx;rw[s_op ho hw aj8];rcases h3 with⟨nx,h3,hU⟩|⟨v,h3,hU⟩
    ·cases nx with
     |value v=>exact⟨_,w',seen P b.fn es,V',by rw[<- dY v];simp only[stepG.apply,TB,if_true,h3,h2,jY,T1];rfl,h1.seen P _,ih _ _ hU main J C b k cs hb hr hL⟩
     |skip=>exact⟨_,w',seen P b.fn es,V',by rw[<- dY undef];simp only[stepG.apply,TB,if_true,h3,h2,jY,T1];rfl,h1.seen P _,ih _ _ hU main J C b k cs hb hr hL⟩
     | «defer» d =>
      obtain⟨Af,hU⟩:=hU;have iQ:({on b a (.inRegion ops (i::rest)::k)with defers:=d::a.defers}:Ua).finish undef=on b ({a with defers:=d::a.defers}.put o.dst undef) (.inRegion ops rest::k):=by
       have:=AA b {a with defers:=d::a.defers} ops i rest k undef;rw[ho]at this;exact this
      exact⟨_,w',seen P b.fn es,V',by
       rw[<- iQ];simp only[stepG.apply,TB,if_true,h3,h2,jY,T1];rfl,h1.seen P _,ih _ _ hU main J C b k cs hb hr hL⟩
     |enter f args=>
      refine⟨G (Frame.enter P f args .normal) (on b a (.inRegion ops (i::rest)::k)::cs),w',seen P b.fn es,V',by simp only[stepG.apply,TB,if_true,h3,h2,jY,T1];rfl,h1.seen P _,?_⟩;refine Body.runs hU main J C _ cs (λv aR hR=> ?_) (λch aR hR=> ?_)
      ·rw[dY];exact ih _ _ hR main J C b k cs hb hr hL
      ·exact hL _ _ _ hR _ rfl
     |round l f tmps assign body=>
      refine⟨G (W8 l f tmps assign body .normal) (on b a (.inRegion ops (i::rest)::k)::cs),w',seen P b.fn es,V',by simp only[stepG.apply,TB,if_true,h3,h2,jY,T1];rfl,h1.seen P _,?_⟩;refine hU main J C _ cs (λv aR hR=> ?_) (λch aR hR=> ?_)
      ·rw[dY];exact ih _ _ hR main J C b k cs hb hr hL
      ·exact hL _ _ _ hR _ rfl
     |_=>exact hU.elim
    ·refine⟨G ((on b a (.inRegion ops (i::rest)::k)).raise [{v,recovered:=false}]) cs,w',seen P b.fn es,V',by simp only[stepG.apply,TB,if_true,h3,h2,jY,T1];rfl,h1.seen P _,hL _ _ _ hU _ rfl⟩
   ·have nM:Tg o (yielded ops a.tmps)=false:=(by simpa using hw);simp only[nM,if_false,TN]at h;refine C.idle rfl (λw=>ab3 (by simp[ho,nM])) ?_;simp only[ho,Option.bind_some];exact ih _ _ h main J C b k cs hb hr hL
theorem wp_region{lv:Bool}{P:SI}{r:Option Nat}{id:Nat}{ops:Array Tu}{Q:Ex->Act->View->Prop}{a:Act}{V:View}(h:dl lv P r ops Q (SZ ops.size) a V):WP lv P r (.region id ops false) Q a V:=
 λmain J C b k cs hb hr hL=>C.idle rfl (λ_=>ab4) (wp_ops _ a V h main J C b k cs hb hr hL)
theorem NY{lv:Bool}{P:SI}{r:Option Nat}{id:Nat}{ops:Array Tu}{Q:Ex->Act->View->Prop}{a:Act}{V:View}(h:∀t,dl lv P r ops Q (VM (P.follows .mixedOrders) ops t) a V):WP lv P r (.region id ops true) Q a V:=
 λmain J C b k cs hb hr hL=>C.step _ _ rfl λw hw=>⟨_,_,#[],V,apL,.draw hw _,wp_ops _ a V (h _) main J C b k cs hb hr hL⟩
def Ends (P:SI)(fn:YB)(R:Out->View->Prop):Ex->Act->View->Prop
 |.normal,a,V|.ret,a,V=>a.defers=[]/\∃v,aO P V (results fn a.tmps) (λx V'=>x=v/\V'=V) (λ_ _=>False)/\R (.ret v) V
 |.panic ch,a,V=>a.defers=[]/\R (.panic ch) V
 |_,_,_=>False
theorem O3{lv:Bool}{P:SI}{f:TO}{fn:YB}{c:T4}{args:Array SP}{kd:Xc}{V:View}{R:Out->View->Prop}(hk:kd≠ .early)(hf:P.funcs[f]?=some fn)(hb:fn.body=some c)
  (h:WP lv P none c (Ends P fn R) {tmps:=args++TL (fn.ntmps-args.size) undef,defers:=[]} V):Body lv P f args kd V R:=by
 intro main J C cs hR;let b:Ua:={(default:Ua)with fn:=f,kind:=kd,roundOf:=none};have uF:Frame.enter P f args kd=on b {tmps:=args++TL (fn.ntmps-args.size) undef,defers:=[]} [.code c]:=by
  simp[Frame.enter,on,hf,hb,b]
 rw[uF];refine h main J C b [] cs hk rfl λe a' V' q=> ?_;cases e with
 |normal=>
  obtain⟨hd,v,hs,hr⟩:=q;exact C.idle rfl (λw=>DI rfl) (hR _ _ _ hr ⟨rfl,hd,rfl,fn,hf,rfl,hs⟩)
 |ret=>
  obtain⟨hd,v,hs,hr⟩:=q;intro k;exact C.idle rfl (λw=>DJ rfl) (hR _ _ _ hr ⟨rfl,hd,rfl,fn,hf,rfl,hs⟩)
 |panic ch=>
  obtain⟨hd,hr⟩:=q;intro todo _;exact hR _ _ _ hr ⟨rfl,hd,rfl,fn,hf,rfl⟩
 |exit id=>exact q.elim
 |goto l=>exact q.elim
open Go.Conc
inductive End where
 |exact
 |shut
 |opn (k:Nat)
 deriving DecidableEq
inductive AV where
 |val (x:SP)
 |agg (l:List AV)
 |aL (l:List AV)
 |sl (n:Nat) (l:List AV) (e:End)
 |bw (id off n cap:Nat)
 |rp (l:List AV)
 |op (id off:Nat)
 |fn (f:Fn) (first cT:List AV)
 |c9 (t:TypeId) (x:AV)
 |mp (id:Nat)
structure Env where
 I:cw
 n:Nat
 blk:Nat->Nat
 room:Nat->Nat->Option U5×Nat
 fA:Nat->Nat
 fr:Nat->Option Obj
 main:Bool
structure Env.Le (E E':Env):Prop where
 I:∀b o v,E.I b o=some v->E'.I b o=some v
 n:E.n<=E'.n
 blk:∀k,k<E.n->E'.blk k=E.blk k
 fA:∀k,k<E.n->E.fA k<=E'.fA k
 room:∀k v,k<E.n->v<=E.fA k->E'.room k v=E.room k v
 fr:E'.fr=E.fr
 main:E'.main=E.main
theorem Env.Le.refl(E:Env):E.Le E:=⟨λ_ _ _ h=>h,SQ _,λ_ _=>rfl,λ_ _=>SQ _,λ_ _ _ _=>rfl,rfl,rfl⟩
theorem Env.Le.trans{E E' bP:Env}(h:E.Le E')(k:E'.Le bP):E.Le bP:=
 ⟨λb o v e=>k.I b o v (h.I b o v e),UM h.n k.n,λi hi=>(k.blk i (Td hi h.n)).trans (h.blk i hi),λi hi=>UM (h.fA i hi) (k.fA i (Td hi h.n)),
  λi v hi hv=>(k.room i v (Td hi h.n) (UM hv (h.fA i hi))).trans (h.room i v hi hv),k.fr.trans h.fr,k.main.trans h.main⟩
def pM (E:Env)(e:End)(a:Option U5)(n cap:Nat):Prop:=match e with
 |.exact=>cap=n
 |.shut=>True
 |.opn k=>k<E.n/\n<=E.fA k/\E.room k n=(a,cap)
inductive ap (E:Env):AV->SP->Prop
 |val (x:SP):ap E (.val x) x
 |agg {l:List AV} {cs:Array SP} (hs:cs.size=l.length) (h:∀(i:Nat) a,l[i]?=some a->ap E a (cs.getD i undef)):ap E (.agg l) (.agg cs)
 |aL {l:List AV} {cs:Array SP} (hs:cs.size=l.length) (h:∀(i:Nat) a,l[i]?=some a->ap E a (cs.getD i undef)):ap E (.aL l) (.tuple cs)
 |sl {n:Nat} {l:List AV} {e:End} (b o cap:Nat) (f:Nat->SP) (hc:n<=cap) (he:pM E e (some ⟨b,o,none⟩) n cap)
   (h1:∀i,i<l.length->E.I b (o+i)=some (f i)) (h2:∀(i:Nat) x,l[i]?=some x->ap E x (f i)):ap E (.sl n l e) (.slice (some ⟨b,o,none⟩) n cap)
 |nil {e:End} {a:Option U5} (he:pM E e a 0 0):ap E (.sl 0 [] e) (.slice a 0 0)
 |bw {id off n cap cap':Nat} (hi:id<E.n) (dO:n<=cap'/\(n<=cap->cap=cap')/\(cap<n->cap'<=(E.room id 0).2)):ap E (.bw id off n cap) (.slice (some ⟨E.blk id,off,none⟩) n cap')
 |rp {l:List AV} (b o:Nat) (f:Nat->SP) (h1:∀i,i<l.length->E.I b (o+i)=some (f i)) (h2:∀(i:Nat) x,l[i]?=some x->ap E x (f i)):ap E (.rp l) (.pointer (some ⟨b,o,none⟩))
 |op {id off:Nat} (hi:id<E.n):ap E (.op id off) (.pointer (some ⟨E.blk id,off,none⟩))
 |fn {f:Fn} {first cT:List AV} {fa ca:Array SP} (dP:fa.size=first.length) (fW:ca.size=cT.length) (h1:∀(i:Nat) a,first[i]?=some a->ap E a (fa.getD i undef)) (h2:∀(i:Nat) a,cT[i]?=some a->ap E a (ca.getD i undef)):ap E (.fn f first cT) (.func f fa ca)
 |c9 {t:TypeId} {x:AV} {v:SP} (h:ap E x v):ap E (.c9 t x) (.iface t v)
 |mp {id:Nat} (hi:id<E.n):ap E (.mp id) (.map (some (E.blk id)))
theorem pM.mono{E E':Env}(h:E.Le E'){e:End}{a:Option U5}{n cap:Nat}(k:pM E e a n cap):pM E' e a n cap:=by
 cases e with
 |exact=>exact k
 |shut=>trivial
 |opn i=>exact⟨Td k.1 h.n,UM k.2.1 (h.fA i k.1),by rw[h.room i n k.1 k.2.1];exact k.2.2⟩
theorem ap.mono{E E':Env}(h:E.Le E'){a:AV}{v:SP}(d:ap E a v):ap E' a v:=by
 induction d with
 |val x=>exact .val x
 |agg hs _ ih=>exact .agg hs ih
 |aL hs _ ih=>exact .aL hs ih
 |sl b o cap f hc he h1 _ ih=>exact .sl b o cap f hc (he.mono h) (λi hi=>h.I _ _ _ (h1 i hi)) ih
 |nil he=>exact .nil (he.mono h)
 |bw hi dO=>rw[<- h.blk _ hi];exact .bw (Td hi h.n) ⟨dO.1,dO.2.1,λe=>by rw[h.room _ 0 hi (Yy _)];exact dO.2.2 e⟩
 |rp b o f h1 _ ih=>exact .rp b o f (λi hi=>h.I _ _ _ (h1 i hi)) ih
 |op hi=>rw[<- h.blk _ hi];exact .op (Td hi h.n)
 |fn dP fW _ _ mP lx=>exact .fn dP fW mP lx
 |c9 _ ih=>exact .c9 ih
 |mp hi=>rw[<- h.blk _ hi];exact .mp (Td hi h.n)
def AV.leaf:AV->Bool
 |.agg _|.aL _=>false
 |.val x=>x.one
 |_=>true
inductive aa where
 |cells (l:List AV) (elem:TypeId)
 |part (p:Nat) (l:List AV) (elem:TypeId)
 |own (sz:Nat) (l:List AV) (elem:TypeId)
 |tail (n sz:Nat) (elem:TypeId)
 |obj (x:Obj)
 |iter (m since:Nat) (seen:Array Nat) (tY:Nat)
 |loop (r:Nat) (st:Z6) (pend:Option T4) (fn:TO) (T:List (Nat×AV)) (nt:Nat) (ps:Array Tmp) (bK body:T4) (df:Nat)
 |gone
 |main
def look:List (Nat×AV)->Nat->Option AV
 |[],_=>none
 |(k,a)::l,t=>if k=t then some a else look l t
def cj (E:Env)(T:List (Nat×AV))(tmps:Array SP):Prop:=∀t a,look T t=some a->t<tmps.size/\ap E a (tmps.getD t undef)
theorem cj.mono{E E':Env}(h:E.Le E'){T:List (Nat×AV)}{tmps:Array SP}(k:cj E T tmps):cj E' T tmps:=λt a e=>⟨(k t a e).1,(k t a e).2.mono h⟩
theorem cj.put{E:Env}{T:List (Nat×AV)}{tmps:Array SP}(k:cj E T tmps){d:Nat}(hd:d<tmps.size){a:AV}{v:SP}(hv:ap E a v):cj E ((d,a)::T) (tmps.setIfInBounds d v):=by
 intro t x e;simp only[look]at e;by_cases h:d=t
 ·subst h;rw[if_pos rfl]at e;cases e;exact⟨by simpa using hd,by simpa[SH,S_ hd]using hv⟩
 ·rw[if_neg h]at e;have:=k t x e;exact⟨by simpa using this.1,by simpa[SH,SU h]using this.2⟩
def cJ (E:Env)(l:List AV)(cs:Array SP):Prop:=cs.size=l.length/\∀(i:Nat) a,l[i]?=some a->ap E a (cs.getD i undef)
theorem cJ.mono{E E':Env}(h:E.Le E'){l:List AV}{cs:Array SP}(d:cJ E l cs):cJ E' l cs:=⟨d.1,λi a e=>(d.2 i a e).mono h⟩
def j6 (E:Env)(l:List AV)(cs:Array SP):Prop:=l.length<=cs.size/\∀(i:Nat) a,l[i]?=some a->ap E a (cs.getD i undef)
theorem j6.mono{E E':Env}(h:E.Le E'){l:List AV}{cs:Array SP}(d:j6 E l cs):j6 E' l cs:=⟨d.1,λi a e=>(d.2 i a e).mono h⟩
theorem cJ.p{E:Env}{l:List AV}{cs:Array SP}(d:cJ E l cs):j6 E l cs:=⟨WI d.1.symm,d.2⟩
def bL (E:Env)(k:Nat):aa->Option Nat
 |.tail n _ _=>if(E.room k n).2=n then none else(E.room k n).1.map (·.block)
 |.gone|.main=>none
 |_=>some (E.blk k)
def fN (E:Env)(V:View)(k:Nat):aa->Prop
 |.cells l elem=>(∃cs,V.own (E.blk k)=some (.cells cs elem (0,0))/\cJ E l cs)/\∀o,V.ab (E.blk k) o=none
 |.part p l elem=>(∃cs,V.own (E.blk k)=some (.cells cs elem (0,0))/\j6 E l cs/\∀o,o<p->V.ab (E.blk k) o=cs[o]?)/\∀o,p<=o->V.ab (E.blk k) o=none
 |.own sz l elem=>(∃cs,V.own (E.blk k)=some (.cells cs elem (0,0))/\j6 E l cs/\cs.size=(E.room k 0).2* sz)/\∀o,V.ab (E.blk k) o=none
 |.tail n sz elem=>E.fA k=n/\((E.room k n).2=n\/∃b cap cs,E.room k n=(some ⟨b,0,none⟩,cap)/\V.own b=some (.cells cs elem (0,0))/\cs.size=cap* sz/\n<cap/\∀o,n* sz<=o->V.ab b o=none)
 |.obj x=>V.own (E.blk k)=some x/\x.u7=false/\x.isChan=false/\∀o,V.ab (E.blk k) o=none
 |.iter m since seen tY=>m<E.n/\V.own (E.blk k)=some (.mapIter (some (E.blk m)) since seen tY)/\∀o,V.ab (E.blk k) o=none
 |.loop r st pend fn T nt ps bK body df=>(∃tmps,V.own (E.blk k)=some (.loop {state:=st,pending:=pend,fn,tmps,params:=ps,assign:=bK,body,defers:=E.blk df})/\tmps.size=nt/\cj E T tmps)/\df<E.n/\(∀o,V.ab (E.blk k) o=none)/\E.blk k=r
 |.gone=>True
 |.main=>E.main=true
structure Conc (E:Env)(V:View)(H:List aa):Prop where
 I:E.I=V.ab
 n:E.n=H.length
 obj:∀k x,H[k]?=some x->fN E V k x
 inj:∀i j x y b,H[i]?=some x->H[j]?=some y->bL E i x=some b->bL E j y=some b->i=j
 group:∀g,V.role.group=some g->V.own g≠none/\(∀o,V.ab g o=none)/\∀(k:Nat) x,H[k]?=some x->bL E k x≠some g
 chan:∀c,V.role.chan=some c->V.own c≠none/\(∀o,V.ab c o=none)/\∀(k:Nat) x,H[k]?=some x->bL E k x≠some c
 top:E.main=true->V.role=.plain/\V.deaf=0
 fr:∀b y,E.fr b=some y->V.own b=some y/\(∀o,V.ab b o=none)/\∀(k:Nat) x,H[k]?=some x->bL E k x≠some b
structure AS where
 T:List (Nat×AV)
 H:List aa
def AS.Le (s s':AS):Prop:=(∀t a,look s'.T t=some a->look s.T t=some a)/\s'.H=s.H
def AV.of:SP->AV
 |.agg cs=> .agg (cs.toList.map λ|.slice none 0 0=> .sl 0 [] .exact|v=> .val v)
 |.slice none 0 0=> .sl 0 [] .exact
 |v=> .val v
def AV.pG:SP->AV
 |.slice none 0 0=> .sl 0 [] .exact
 |v=> .val v
theorem IP(E:Env)(v:SP):ap E (AV.pG v) v:=by
 unfold AV.pG;split
 ·exact .nil rfl
 ·exact .val _
theorem sQ(E:Env)(v:SP):ap E (AV.of v) v:=by
 unfold AV.of;split
 ·rename_i cs;refine .agg (by simp) λi a h=> ?_;rw[To]at h;obtain⟨x,hx,rfl⟩:=Tq.1 h;have:cs[i]?=some x:=by simpa using hx
  rw[SH,this];exact IP E x
 ·exact .nil rfl
 ·exact .val _
def AS.ev (s:AS):Th->Option AV
 |.tmp t=>look s.T t
 |.const v=>some (AV.of v)
 |.func f=>some (.fn (.func f) [] [])
 |.global _=>none
theorem ap.ev{E:Env}{s:AS}{a:Act}(k:cj E s.T a.tmps){x:Th}{av:AV}(h:s.ev x=some av):ap E av (a.eval x):=by
 cases x with
 |tmp t=>exact(k t av h).2
 |const v=>cases h;exact sQ E v
 |func f=>cases h;exact .fn rfl rfl (by simp) (by simp)
 |global g=>cases h
theorem fN.BL{E:Env}{V:View}{k:Nat}{x:aa}(h:fN E V k x){b:Nat}(hb:bL E k x=some b):∃y,V.own b=some y:=by
 cases x with
 |cells l el=>cases hb;obtain⟨⟨cs,h1,_⟩,_⟩:=h;exact⟨_,h1⟩
 |part p l el=>cases hb;obtain⟨⟨cs,h1,_⟩,_⟩:=h;exact⟨_,h1⟩
 |own p l el=>cases hb;obtain⟨⟨cs,h1,_⟩,_⟩:=h;exact⟨_,h1⟩
 |tail n sz el=>
  obtain⟨hv,h|⟨b',cap,cs,h1,h2,h3,h4,h5⟩⟩:=h
  ·simp only[bL,h,if_true]at hb;cases hb
  ·simp only[bL,h1]at hb;rw[if_neg (by omega)]at hb;cases hb;exact⟨_,h2⟩
 |obj x=>cases hb;exact⟨_,h.1⟩
 |iter m since seen tY=>cases hb;exact⟨_,h.2.1⟩
 |loop=>cases hb;obtain⟨⟨tmps,h1,_⟩,_⟩:=h;exact⟨_,h1⟩
 |gone=>cases hb
 |main=>cases hb
theorem O1{E E':Env}(hl:E.Le E'){k:Nat}(hk:k<E.n){x:aa}{V:View}(h:fN E V k x):bL E' k x=bL E k x:=by
 cases x with
 |tail n sz el=>simp only[bL];rw[hl.room k n hk (WI h.1.symm)]
 |gone=>rfl
 |main=>rfl
 |_=>simp only[bL,hl.blk k hk]
theorem fN.mono{E E':Env}{V V':View}{k:Nat}{x:aa}(h:fN E V k x)(hl:E.Le E')(hk:k<E.n)(An:E'.fA k=E.fA k)
  (ho:∀b y,bL E k x=some b->V.own b=some y->V'.own b=some y) (hi:∀b,bL E k x=some b->∀o,V'.ab b o=V.ab b o):fN E' V' k x:=by
 cases x with
 |cells l el=>
  obtain⟨⟨cs,h1,h2⟩,h3⟩:=h;simp only[fN,hl.blk k hk];exact⟨⟨cs,ho _ _ rfl h1,h2.mono hl⟩,λo=>(hi _ rfl o).trans (h3 o)⟩
 |part p l el=>
  obtain⟨⟨cs,h1,h2,h4⟩,h3⟩:=h;simp only[fN,hl.blk k hk];exact⟨⟨cs,ho _ _ rfl h1,h2.mono hl,λo hp=>(hi _ rfl o).trans (h4 o hp)⟩,λo hp=>(hi _ rfl o).trans (h3 o hp)⟩
 |own sz l el=>
  obtain⟨⟨cs,h1,h2,h4⟩,h3⟩:=h;simp only[fN,hl.blk k hk,hl.room k 0 hk (Yy _)];exact⟨⟨cs,ho _ _ rfl h1,h2.mono hl,h4⟩,λo=>(hi _ rfl o).trans (h3 o)⟩
 |tail n sz el=>
  obtain⟨hv,h⟩:=h;simp only[fN,An,hl.room k n hk (WI hv.symm)];refine⟨hv,?_⟩;rcases h with h|⟨b',cap,cs,h1,h2,h3,h4,h5⟩
  ·exact .inl h
  ·have hb:bL E k (.tail n sz el)=some b':=(by simp only[bL,h1];rw[if_neg (by omega)];rfl);exact .inr ⟨b',cap,cs,h1,ho _ _ hb h2,h3,h4,λo hm=>(hi _ hb o).trans (h5 o hm)⟩
 |obj x=>
  obtain⟨h1,h2,h4,h3⟩:=h;simp only[fN,hl.blk k hk];exact⟨ho _ _ rfl h1,h2,h4,λo=>(hi _ rfl o).trans (h3 o)⟩
 |iter m since seen tY=>
  obtain⟨h0,h1,h2⟩:=h;simp only[fN,hl.blk k hk,hl.blk m h0];exact⟨Td h0 hl.n,ho _ _ rfl h1,λo=>(hi _ rfl o).trans (h2 o)⟩
 |loop r st pend fn T nt ps bK body df=>
  obtain⟨⟨tmps,h1,h2,h3⟩,h4,h5,h6⟩:=h;simp only[fN,hl.blk k hk,hl.blk df h4];exact⟨⟨tmps,ho _ _ rfl h1,h2,h3.mono hl⟩,Td h4 hl.n,λo=>(hi _ rfl o).trans (h5 o),h6⟩
 |gone=>trivial
 |main=>exact hl.main.trans h
theorem Conc.iJ{E E':Env}{V V':View}{H H':List aa}(hc:Conc E V H)(k:Nat)(x':aa)(hle:E.Le E')(hI:E'.I=V'.ab)(hn:E'.n=H'.length)
  (hH:∀(j:Nat) y,H'[j]?=some y->(j=k/\y=x')\/(j≠k/\H[j]?=some y)) (hr:V'.role=V.role)
  (An:∀j,j≠k->j<E.n->E'.fA j=E.fA j)
  (ho:∀b y,(∀x,H[k]?=some x->bL E k x≠some b)->V.own b=some y->V'.own b=some y/\∀o,V'.ab b o=V.ab b o)
  (hx:fN E' V' k x') (hb:∀b,bL E' k x'=some b->(∃x,H[k]?=some x/\bL E k x=some b)\/V.own b=none) (bz:V'.deaf=V.deaf:=by rfl):Conc E' V' H':=by
 have hlt:∀(j:Nat) y,H[j]?=some y->j<E.n:=λj y h=>by rw[hc.n];exact(SL.1 h).1
 have cO:∀(j:Nat) y b,H[j]?=some y->bL E' j y=some b->bL E j y=some b:=λj y b h e=>by rw[<- O1 hle (hlt j y h) (hc.obj j y h)];exact e
 have Sg:∀(j:Nat) y b,j≠k->H[j]?=some y->bL E j y=some b->∀x,H[k]?=some x->bL E k x≠some b:=λj y b hj h1 h2 x h3 h4=>hj (hc.inj j k y x b h1 h3 h2 h4);have hg:∀(j:Nat) y,H'[j]?=some y->∀g,V.own g≠none->(∀(i:Nat) x,H[i]?=some x->bL E i x≠some g)->bL E' j y≠some g:=λj y h g pu fw e=>by
  rcases hH j y h with⟨rfl,rfl⟩|⟨hj,h⟩
  ·rcases hb g e with⟨x,h1,h2⟩|h2
   ·exact fw _ x h1 h2
   ·exact pu h2
  ·exact fw j y h (cO j y g h e)
 have hk:∀g,V.own g≠none->(∀(i:Nat) x,H[i]?=some x->bL E i x≠some g)->V'.own g≠none/\∀o,V'.ab g o=V.ab g o:=λg pu fw=>by
  cases e:V.own g with
  |none=>exact absurd e pu
  |some y=>
   have:=ho g y (λx hx=>fw k x hx) e;exact⟨by rw[this.1];simp,this.2⟩
 refine⟨hI,hn,λj y h=> ?_,λi j y z b h1 h2 e1 e2=> ?_,λg RA=> ?_,λc eI=> ?_,λhm=>(by rw[hr,bz];exact hc.top (by rw[<- hle.main];exact hm)),λb y jF=> ?_⟩
 ·rcases hH j y h with⟨rfl,rfl⟩|⟨hj,h⟩
  ·exact hx
  ·have lO:=hc.obj j y h;refine lO.mono hle (hlt j y h) (An j hj (hlt j y h)) (λb z kF hz=> ?_) (λb kF o=> ?_)
   ·exact(ho b z (Sg j y b hj h kF) hz).1
   ·obtain⟨z,hz⟩:=lO.BL kF;exact(ho b z (Sg j y b hj h kF) hz).2 o
 ·have new:∀(j:Nat) y,j≠k->H[j]?=some y->bL E' j y=some b->bL E' k x'≠some b:=λj y hj h e e'=>by
   have e:=cO j y b h e;rcases hb b e' with⟨x,uX,hx2⟩|h1
   ·exact hj (hc.inj j k y x b h uX e hx2)
   ·obtain⟨q,hq⟩:=(hc.obj j y h).BL e;rw[h1]at hq;cases hq
  rcases hH i y h1 with⟨rfl,rfl⟩|⟨hi,h1⟩<;>rcases hH j z h2 with⟨rfl,rfl⟩|⟨hj,h2⟩
  ·rfl
  ·exact absurd e1 (new j z hj h2 e2)
  ·exact absurd e2 (new i y hi h1 e1)
  ·exact hc.inj i j y z b h1 h2 (cO i y b h1 e1) (cO j z b h2 e2)
 ·rw[hr]at RA;obtain⟨h0,h1,h2⟩:=hc.group g RA;exact⟨(hk g h0 h2).1,λo=>((hk g h0 h2).2 o).trans (h1 o),λj y h=>hg j y h g h0 h2⟩
 ·rw[hr]at eI;obtain⟨h0,h1,h2⟩:=hc.chan c eI;exact⟨(hk c h0 h2).1,λo=>((hk c h0 h2).2 o).trans (h1 o),λj y h=>hg j y h c h0 h2⟩
 ·rw[hle.fr]at jF;obtain⟨h0,h1,h2⟩:=hc.fr b y jF;have Fh:V.own b≠none:=by rw[h0];simp
  exact⟨(ho b y (λx hx=>h2 k x hx) h0).1,λo=>((hk b Fh h2).2 o).trans (h1 o),λj z h=>hg j z h b Fh h2⟩
theorem ly{α:Type}{H:List α}{k:Nat}{x':α}:∀(j:Nat) y,(H.set k x')[j]?=some y->(j=k/\y=x')\/(j≠k/\H[j]?=some y):=λj y h=>by
 by_cases hj:j=k
 ·subst hj;rw[List.getElem?_set_self']at h;cases e:H[j]?with
  |none=>rw[e]at h;cases h
  |some z=>rw[e]at h;exact .inl ⟨rfl,by simpa using h.symm⟩
 ·rw[T6 (Ne.symm hj)]at h;exact .inr ⟨hj,h⟩
theorem Dg{α:Type}{H:List α}{x':α}:∀(j:Nat) y,(H++[x'])[j]?=some y->(j=H.length/\y=x')\/(j≠H.length/\H[j]?=some y):=λj y h=>by
 by_cases hk:j<H.length
 ·rw[SW hk]at h;exact .inr ⟨by omega,h⟩
 ·rw[S9 (by omega)]at h;have aJ:j-H.length=0:=by
   have:=(SL.1 h).1;simpa using this
  rw[aJ]at h;exact .inl ⟨by omega,by simpa using h.symm⟩
theorem Conc.jk{E:Env}{V:View}{H:List aa}(hc:Conc E V H){k:Nat}{x:aa}(hk:H[k]?=some x){b:Nat}(hb:bL E k x=some b):V.role.group≠some b/\V.role.chan≠some b:=
 ⟨λe=>(hc.group b e).2.2 k x hk hb,λe=>(hc.chan b e).2.2 k x hk hb⟩
theorem Conc.aao{E:Env}{V:View}{H:List aa}(hc:Conc E V H){b o:Nat}{v:SP}(h:E.I b o=some v):V.role.group≠some b/\V.role.chan≠some b:=
 ⟨λe=>(by have:=(hc.group b e).2.1 o;rw[<- hc.I,h]at this;cases this),λe=>(by have:=(hc.chan b e).2.1 o;rw[<- hc.I,h]at this;cases this)⟩
open Go.Conc
def AS.put (s:AS)(dst:Option Nat)(av:AV):AS:=match dst with
 |some d=>⟨(d,av)::s.T,s.H⟩
 |none=>s
theorem cj.gX{E:Env}{s:AS}{a:Act}(k:cj E s.T a.tmps){dst:Option Nat}(hd:∀d,dst=some d->d<a.tmps.size){av:AV}{v:SP}(hv:ap E av v):cj E (s.put dst av).T (a.put dst v).tmps:=by
 cases dst with
 |none=>exact k
 |some d=>exact cj.put k (hd d rfl) hv
theorem fi(s:AS)(dst:Option Nat)(av:AV):(s.put dst av).H=s.H:=by cases dst<;>rfl
theorem dX(a:Act)(dst:Option Nat)(v:SP):(a.put dst v).tmps.size=a.tmps.size:=by cases dst<;>simp[XY]
theorem put_defers(a:Act)(dst:Option Nat)(v:SP):(a.put dst v).defers=a.defers:=by cases dst<;>rfl
structure Kept (E E':Env)(V V':View)(a a':Act):Prop where
 le:E.Le E'
 size:a'.tmps.size=a.tmps.size
 defers:a'.defers=a.defers
 role:V'.role=V.role
 deaf:V'.deaf=V.deaf
def Step (lv:Bool)(P:SI)(r:Option Nat)(o:Tu)(s:AS)(next:AS->Prop)(bad:AV->AS->Prop):Prop:=
 ∀(E:Env)(V:View)(a:Act)(N:Act->View->Prop)(Q:Ex->Act->View->Prop),Conc E V s.H->cj E s.T a.tmps->(∀d,o.dst=some d->d<a.tmps.size)->(r=none\/mo o.op=false)->
  (∀E' V' a' s',Kept E E' V V' a a'->Conc E' V' s'.H->cj E' s'.T a'.tmps->next s'->N a' V')->
  (∀E' V' s' pv v,Kept E E' V V' a a->Conc E' V' s'.H->cj E' s'.T a.tmps->ap E' pv v->bad pv s'->Q (.panic [{v,recovered:=false}]) a V')->w6 lv P r o a V N Q
def dB (lv:Bool)(P:SI)(r:Option Nat)(o:Tu)(s:AS)(av:AV):Prop:=
 ∀(E:Env)(V:View)(a:Act)(N:Act->View->Prop)(Q:Ex->Act->View->Prop),Conc E V s.H->cj E s.T a.tmps->(r=none\/mo o.op=false)->
  (∀E' V' v,E.Le E'->V'.role=V.role->V'.deaf=V.deaf->Conc E' V' s.H->ap E' av v->N (a.put o.dst v) V')->w6 lv P r o a V N Q
section
variable {lv:Bool}{P:SI}{r:Option Nat}{o:Tu}{s:AS}{next:AS->Prop}{bad:AV->AS->Prop}
theorem Step.mono{next':AS->Prop}{OW:AV->AS->Prop}(h:Step lv P r o s next bad)(hn:∀s,next s->next' s)(hb:∀c s,bad c s->OW c s):Step lv P r o s next' OW:=
 λE V a N Q h1 h2 h3 h4 h5 h6=>h E V a N Q h1 h2 h3 h4 (λE' V' a' s' x1 x2 x3 x4=>h5 E' V' a' s' x1 x2 x3 (hn _ x4)) (λE' V' s' pv v x1 x2 x3 x4 x5=>h6 E' V' s' pv v x1 x2 x3 x4 (hb _ _ x5))
theorem iX{av:AV}(h:∀(E:Env)(V:View)(a:Act),Conc E V s.H->cj E s.T a.tmps->aO P V (execOp a.eval o) (λnx V'=>V'=V/\∃v,nx=.value v/\ap E av v) (λ_ _=>False)):dB lv P r o s av:=by
 intro E V a N Q hc ht bz h1;refine⟨bz,(h E V a hc ht).mono (λnx V' hx=> ?_) (λ_ _ hx=>hx.elim)⟩;obtain⟨rfl,v,rfl,hv⟩:=hx;exact h1 E V' v (Env.Le.refl E) rfl rfl hc hv
theorem r_{av:AV}(h:∀(E:Env)(V:View)(a:Act),Conc E V s.H->cj E s.T a.tmps->∃v,execOp a.eval o=.pure (.value v)/\ap E av v):dB lv P r o s av:=
 iX (λE V a hc ht=>by
  obtain⟨v,h1,h2⟩:=h E V a hc ht;rw[h1];exact cI ⟨rfl,v,rfl,h2⟩)
theorem dB.step{av:AV}(h:dB lv P r o s av)(hn:next (s.put o.dst av)):Step lv P r o s next bad:=by
 intro E V a N Q hc ht hd bz h1 _;refine h E V a N Q hc ht bz λE' V' v hle b8 eW bm hv=> ?_;exact h1 E' V' (a.put o.dst v) (s.put o.dst av) ⟨hle,dX _ _ _,put_defers _ _ _,b8,eW⟩ (by rw[fi];exact bm) ((ht.mono hle).gX hd hv) hn
theorem abS{x:Th}{av:AV}(ho:o.op=.move x\/o.op=.assign x)(hx:s.ev x=some av):dB lv P r o s (av):=
 r_ (λE V a hc ht=>⟨a.eval x,by unfold execOp;rcases ho with ho|ho<;>rw[ho]<;>rfl,ap.ev ht hx⟩)
theorem ao9{c x y:Th}{b:Bool}{av aw:AV}(ho:o.op=.pick c x y)(hc:s.ev c=some (.val (.bool b)))(hx:s.ev x=some av)(hy:s.ev y=some aw):dB lv P r o s ((if b then av else aw)):=
 r_ (λE V a jf ht=>by
  have h1:=ap.ev ht hc;generalize hv:a.eval c=v at h1;cases h1;refine⟨if b then a.eval x else a.eval y,by unfold execOp;rw[ho];simp only[hv];cases b<;>rfl,?_⟩;cases b
  ·exact ap.ev ht hy
  ·exact ap.ev ht hx)
def mb (op:V_)(k:TW)(x y:Int):Option SP:=match op with
 |.add=>some (.int k (k.wrap (x+y)))
 |.sub=>some (.int k (k.wrap (x-y)))
 |.mul=>some (.int k (k.wrap (x* y)))
 |.eql=>some (.bool (x==y))
 |.neq=>some (.bool (x !=y))
 |.lss=>some (.bool (x<y))
 |.leq=>some (.bool (x<=y))
 |.gtr=>some (.bool (x>y))
 |.geq=>some (.bool (x>=y))
 |.and=>some (.int k (k.wrap (Uh k.bits x&&&Uh k.bits y).toNat))
 |.or=>some (.int k (k.wrap (Uh k.bits x|||Uh k.bits y).toNat))
 |.xor=>some (.int k (k.wrap (Uh k.bits x^^^Uh k.bits y).toNat))
 |.quo=>if y=0 then none else some (.int k (k.wrap (x.tdiv y)))
 |.rem=>if y=0 then none else some (.int k (x.tmod y))
 |_=>none
def AU (op:V_)(k:TW)(x y:Int):Option SP:=if y<0 then none else match op with
 |.shl=>some (.int k (k.wrap (x* 2^(min y.toNat k.bits))))
 |.shr=>some (.int k (x.fdiv (2^(min y.toNat k.bits))))
 |_=>none
def mQ:V_->Bool
 |.shl|.shr=>true
 |_=>false
theorem afK{op:V_}{k:TW}{x y:Int}{v:SP}{t:TypeId}(h:mb op k x y=some v):binOp op t (.int k x) (.int k y)=.pure v:=by
 cases op<;>simp only[mb,Tj,reduceCtorEq]at h<;>try(subst h;simp[binOp,auc,Op.intCmp,Op.intBits];rfl)
 ·split at h
  ·cases h
  ·rename_i hy;simp only[Tj]at h;subst h;simp[binOp,apT,hy];rfl
 ·split at h
  ·cases h
  ·rename_i hy;simp only[Tj]at h;subst h;simp[binOp,apT,hy];rfl
theorem aqm{op:V_}{k j:TW}{x y:Int}{v:SP}{t:TypeId}(h:AU op k x y=some v):binOp op t (.int k x) (.int j y)=.pure v:=by
 unfold AU at h;split at h
 ·cases h
 ·rename_i hy;cases op<;>simp only[Tj,reduceCtorEq]at h
  ·subst h;simp[binOp,as',hy];rfl
  ·subst h;simp[binOp,as',hy];rfl
theorem PO{op:V_}{t:TypeId}{x y:Th}{j k:TW}{a b:Int}:eqGuard op t x y (.int j a) (.int k b)=.pure ():=by
 unfold eqGuard;cases op<;>rfl
theorem aoJ{op:V_}{xt yt:TypeId}{x y:Th}{k:TW}{m n:Int}{v:SP}(ho:o.op=.binOp op xt x y yt)(hx:s.ev x=some (.val (.int k m)))(hy:s.ev y=some (.val (.int k n)))(hv:mb op k m n=some v):dB lv P r o s ((.val v)):=
 r_ (λE V a jf ht=>by
  have h1:=ap.ev ht hx;have h2:=ap.ev ht hy;generalize pA:a.eval x=v1 at h1;generalize tI:a.eval y=v2 at h2;cases h1;cases h2;refine⟨v,?_,.val v⟩;unfold execOp;rw[ho];simp only[pA,tI,PO,afK hv];rfl)
theorem apa{op:V_}{xt yt:TypeId}{x y:Th}{k j:TW}{m n:Int}{v:SP}(ho:o.op=.binOp op xt x y yt)(hx:s.ev x=some (.val (.int k m)))(hy:s.ev y=some (.val (.int j n)))(hv:AU op k m n=some v):dB lv P r o s ((.val v)):=
 r_ (λE V a jf ht=>by
  have h1:=ap.ev ht hx;have h2:=ap.ev ht hy;generalize pA:a.eval x=v1 at h1;generalize tI:a.eval y=v2 at h2;cases h1;cases h2;refine⟨v,?_,.val v⟩;unfold execOp;rw[ho];simp only[pA,tI,PO,aqm hv];rfl)
theorem ao8{t:TypeId}{x:Th}{b:Bool}(ho:o.op=.unOp .not t x)(hx:s.ev x=some (.val (.bool b))):dB lv P r o s ((.val (.bool !b))):=
 r_ (λE V a jf ht=>by
  have h1:=ap.ev ht hx;generalize pA:a.eval x=v1 at h1;cases h1;exact⟨_,by unfold execOp;rw[ho];simp only[pA];rfl,.val _⟩)
theorem ao5{t:TypeId}{x:Th}{k:TW}{n:Int}(ho:o.op=.unOp .neg t x)(hx:s.ev x=some (.val (.int k n))):dB lv P r o s (.val (.int k (k.wrap (0-n)))):=
 r_ (λE V a jf ht=>by
  have h1:=ap.ev ht hx;generalize pA:a.eval x=v1 at h1;cases h1;exact⟨_,by unfold execOp;rw[ho];simp only[pA];rfl,.val _⟩)
theorem aoP{x:Th}{i:Nat}{l:List AV}{av:AV}(ho:o.op=.extract x i)(hx:s.ev x=some (.aL l))(hi:l[i]?=some av):dB lv P r o s (av):=
 r_ (λE V a jf ht=>by
  have h1:=ap.ev ht hx;generalize pA:a.eval x=v1 at h1;cases h1 with
  |aL hs h=>
   rename_i cs;have hlt:i<cs.size:=(by rw[hs];exact(SL.1 hi).1);refine⟨cs[i],?_,?_⟩
   ·unfold execOp;rw[ho];simp only[pA,Instr.extract,SJ hlt];rfl
   ·have:=h i av hi;rwa [SH,SJ hlt]at this)
end
theorem add_plain(b o n:Nat):(⟨b,o,none⟩:U5).add n=⟨b,o+n,none⟩:=by
 unfold at4;split
 ·rename_i h;subst h;rfl
 ·rfl
def AS.at (s:AS):AV->Option (List AV)
 |.rp l=>some l
 |.op id off=>match s.H[id]?with
  |some (.cells l _)=>some (l.drop off)
  |some (.part _ l _)=>some (l.drop off)
  |some (.own _ l _)=>some (l.drop off)
  |_=>none
 |_=>none
def AV.shift (n:Nat):AV->Option AV
 |.rp l=>if n<=l.length then some (.rp (l.drop n))else none
 |.op id off=>some (.op id (off+n))
 |_=>none
theorem Conc.at{E:Env}{V:View}{s:AS}(hc:Conc E V s.H){p:AV}{v:SP}(hd:ap E p v){l:List AV}(h:s.at p=some l):
  ∃(b o:Nat)(f:Nat->SP),v=.pointer (some ⟨b,o,none⟩)/\(∀i,i<l.length->V.get b (o+i)=some (f i))/\(0<l.length->V.role.group≠some b)/\∀(i:Nat) x,l[i]?=some x->ap E x (f i):=by
 cases hd with
 |rp b o f h1 h2=>
  cases h;exact⟨b,o,f,rfl,λi hi=>by unfold View.get;rw[<- hc.I,h1 i hi],λhp=>(hc.aao (h1 0 hp)).1,h2⟩
 |op hi=>
  rename_i id off;simp only[AS.at]at h;cases hk:s.H[id]?with
  |none=>rw[hk]at h;cases h
  |some ob=>
   rw[hk]at h;cases ob with
   |cells l' el=>
    cases h;obtain⟨⟨cs,ho,hs,bp⟩,lM⟩:=hc.obj id _ hk;refine⟨E.blk id,off,λi=>cs.getD (off+i) undef,rfl,λi hi=> ?_,λ_=>(hc.jk hk rfl).1,λi x hx=> ?_⟩
    ·unfold View.get;rw[lM,ho];simp only[Un]at hi;have hlt:off+i<cs.size:=(by omega);simp only[SH,SJ hlt,S7]
    ·rw[Uo]at hx;exact bp _ _ hx
   |part p l' el=>
    cases h;obtain⟨⟨cs,ho,⟨hs,bp⟩,nI⟩,lM⟩:=hc.obj id _ hk;refine⟨E.blk id,off,λi=>cs.getD (off+i) undef,rfl,λi hi=> ?_,λ_=>(hc.jk hk rfl).1,λi x hx=> ?_⟩
    ·simp only[Un]at hi;have hlt:off+i<cs.size:=(by omega);unfold View.get;by_cases hp:off+i<p
     ·rw[nI _ hp];simp only[SH,SJ hlt,S7]
     ·rw[lM _ (by omega),ho];simp only[SH,SJ hlt,S7]
    ·rw[Uo]at hx;exact bp _ _ hx
   |own sz l' el=>
    cases h;obtain⟨⟨cs,ho,⟨hs,bp⟩,_⟩,lM⟩:=hc.obj id _ hk;refine⟨E.blk id,off,λi=>cs.getD (off+i) undef,rfl,λi hi=> ?_,λ_=>(hc.jk hk rfl).1,λi x hx=> ?_⟩
    ·simp only[Un]at hi;have hlt:off+i<cs.size:=(by omega);unfold View.get;rw[lM,ho];simp only[SH,SJ hlt,S7]
    ·rw[Uo]at hx;exact bp _ _ hx
   |_=>cases h
 |_=>cases h
theorem ap.shift{E:Env}{p q:AV}{v:SP}(hd:ap E p v){n:Nat}(h:p.shift n=some q):∃b o,v=.pointer (some ⟨b,o,none⟩)/\ap E q (.pointer (some ⟨b,o+n,none⟩)):=by
 cases hd with
 |rp b o f h1 h2=>
  simp only[AV.shift]at h;split at h
  ·rename_i hn;cases h;refine⟨b,o,rfl,.rp b (o+n) (λi=>f (n+i)) (λi hi=> ?_) (λi x hx=> ?_)⟩
   ·simp only[Un]at hi;rw[U1];exact h1 _ (by omega)
   ·rw[Uo]at hx;exact h2 _ _ hx
  ·cases h
 |op hi=>cases h;exact⟨_,_,rfl,.op hi⟩
 |_=>cases h
section
variable {P:SI}{V:View}{α:Type}{K:α->View->Prop}{Kp:SP->View->Prop}
theorem ec{t:TypeId}{d:TypeDesc}{k:TypeDesc->Sem α}(h:P.underlying t=some d)(hk:aO P V (k d) K Kp):aO P V (underlying t>>=k) K Kp:=by
 unfold underlying;refine az (az (qG (cI ?_)));rw[h];exact aq hk
theorem yE{t:TypeId}{i:Wj}{k:Wj->Sem α}(h:P.info? t=some i)(hk:aO P V (k i) K Kp):aO P V (typeInfo t>>=k) K Kp:=by
 unfold typeInfo;refine az (az (qG (cI ?_)));rw[h];exact aq hk
theorem j4{t:TypeId}{i:Wj}{k:Nat->Sem α}(h:P.info? t=some i)(hk:aO P V (k i.size) K Kp):aO P V (sizeOf t>>=k) K Kp:=by
 refine az ?_;unfold sizeOf;exact yE h (aq hk)
def TypeDesc.agg:TypeDesc->Bool
 |.struct _|.array _ _=>true
 |_=>false
theorem DL{t:TypeId}{d:TypeDesc}{k:Bool->Sem α}(h:P.underlying t=some d)(hk:aO P V (k (TypeDesc.agg d)) K Kp):aO P V (isAgg t>>=k) K Kp:=by
 refine az ?_;unfold isAgg;refine ec h ?_;cases d<;>exact aq hk
theorem aqb{b o:Nat}{v:SP}{k:SP->Sem α}(hg:V.role.group≠some b)(e:V.get b o=some v)(hk:aO P V (k v) K Kp):aO P V (load ⟨b,o,none⟩>>=k) K Kp:=
 az (Nq e (.inl hg) (cI hk))
theorem acg{b o:Nat}{f:Nat->SP}{K:Array SP->View->Prop}:∀(n i:Nat)(acc:Array SP),(0<n->V.role.group≠some b)->(∀j,j<n->V.get b (o+(i+j))=some (f (i+j)))->
  K (acc++((SZ n).map λj=>f (i+j)).toArray) V->aO P V (loadCellsFrom ⟨b,o,none⟩ i n acc) K Kp
 |0,i,acc,_,_,h=>aq (by simpa using h)
 |n+1,i,acc,hg,he,h=>by
  have h0:=he 0 (by omega);unfold loadCellsFrom;rw[add_plain];refine aqb (hg (by omega)) h0 ?_;refine acg n (i+1) _ (λ_=>hg (by omega)) (λj hj=>by have:=he (j+1) (by omega);rwa [show i+(j+1)=i+1+j by omega]at this) ?_;have e:(acc.push (f (i+0))++((SZ n).map λj=>f (i+1+j)).toArray)=acc++((SZ (n+1)).map λj=>f (i+j)).toArray:=by
   rw[List.range_succ_eq_map];apply VF;simp[Yv,U1,aj_ 1]
  rw[e];exact h
theorem AP{b o n:Nat}{f:Nat->SP}(hg:0<n->V.role.group≠some b){K:Array SP->View->Prop}(he:∀j,j<n->V.get b (o+j)=some (f j))(h:K ((SZ n).map f).toArray V):aO P V (loadCells ⟨b,o,none⟩ n) K Kp:=
 acg n 0 #[] hg (λj hj=>by simpa using he j hj) (by simpa using h)
end
theorem kY{α β:Type}{x:Option α}{f:α->β}{y:β}(h:x.map f=some y):∃a,x=some a/\f a=y:=Tq.1 h
def Ty (P:SI)(t:TypeId):Option (Nat×Bool):=(P.info? t).bind λi=>(P.underlying t).map λd=>(i.size,TypeDesc.agg d)
theorem Ty.out{P:SI}{t:TypeId}{n:Nat}{g:Bool}(h:Ty P t=some (n,g)):∃i d,P.info? t=some i/\P.underlying t=some d/\i.size=n/\TypeDesc.agg d=g:=by
 unfold Ty at h;obtain⟨i,h1,h2⟩:=Te.1 h;obtain⟨d,h3,h4⟩:=kY h2;cases h4;exact⟨i,d,h1,h3,rfl,rfl⟩
theorem IR{E:Env}{l:List AV}{f:Nat->SP}{n:Nat}(hn:n<=l.length)(h:∀(i:Nat) x,l[i]?=some x->ap E x (f i)):ap E (.agg (l.take n)) (.agg ((SZ n).map f).toArray):=by
 refine .agg (by simp;omega) λi x hx=> ?_;rw[Ue]at hx;split at hx
 ·rename_i hi;have:=h i x hx;simpa[SH,hi]using this
 ·cases hx
def AV.row:AV->Option (Nat×AV)
 |.sl n l _=>some (n,.rp l)
 |.bw id off n _=>some (n,.op id off)
 |_=>none
theorem ap.row{E:Env}{a p:AV}{v:SP}{n:Nat}(hd:ap E a v)(h:a.row=some (n,p))(h0:0<n):∃b o cap,v=.slice (some ⟨b,o,none⟩) n cap/\ap E p (.pointer (some ⟨b,o,none⟩)):=by
 cases hd with
 |sl b o cap f hc he h1 h2=>cases h;exact⟨b,o,cap,rfl,.rp b o f h1 h2⟩
 |nil he=>cases h;exact absurd h0 (by simp)
 |bw hi=>cases h;exact⟨_,_,_,rfl,.op hi⟩
 |_=>cases h
def AV.len:AV->Option Nat
 |.sl n _ _=>some n
 |.bw _ _ n _=>some n
 |_=>none
theorem ap.len{E:Env}{a:AV}{v:SP}{n:Nat}(hd:ap E a v)(h:a.len=some n):∃ad cap,v=.slice ad n cap:=by
 cases hd with
 |sl b o cap f hc he h1 h2=>cases h;exact⟨_,_,rfl⟩
 |nil he=>cases h;exact⟨_,_,rfl⟩
 |bw hi=>cases h;exact⟨_,_,rfl⟩
 |_=>cases h
def e_ (P:SI)(t:TypeId)(k:Nat):Option Nat:=match P.underlying t with
 |some (.struct fs)=>match fs[k]?with
  |some f=>match P.info? f.type with
   |some i=>if i.size=0 then none else some f.offset
   |none=>none
  |none=>none
 |_=>none
def nX (P:SI)(t:TypeId):Option (Option Nat×Nat):=match P.underlying t with
 |some (.array n e)=>(P.info? e).map λi=>(some n,i.size)
 |some (.slice e)=>(P.info? e).map λi=>(none,i.size)
 |_=>none
inductive yW where
 |slice|map|str|arr (n:Nat)
def lE (P:SI)(t:TypeId):Option yW:=match P.underlying t with
 |some (.slice _)=>some .slice
 |some (.map _ _)=>some .map
 |some .string=>some .str
 |some (.array n _)=>some (.arr n)
 |_=>none
def Ib (P:SI)(t:TypeId)(k:Nat):Option (Nat×Nat×Bool):=match P.underlying t with
 |some (.struct fs)=>match fs[k]?with
  |some f=>(Ty P f.type).map λx=>(f.offset,x.1,x.2)
  |none=>none
 |_=>none
def H5 (P:SI)(t:TypeId):Option (Nat×Nat×Bool):=match P.underlying t with
 |some (.array n e)=>(Ty P e).map λx=>(n,x.1,x.2)
 |_=>none
section
variable {lv:Bool}{P:SI}{r:Option Nat}{o:Tu}{s:AS}{next:AS->Prop}{bad:AV->AS->Prop}
theorem aoY{t:TypeId}{x:Th}{p:AV}{l:List AV}{n:Nat}(ho:o.op=.load t x)(ht:Ty P t=some (n,true))(hx:s.ev x=some p)(hl:s.at p=some l)(hlen:n<=l.length):dB lv P r o s ((.agg (l.take n))):=
 iX (λE V a hc aF=>by
  obtain⟨i,d,h1,h2,rfl,h4⟩:=Ty.out ht;obtain⟨b,off,f,hv,hg,kq,hd⟩:=hc.at (ap.ev aF hx) hl;unfold execOp;rw[ho];simp only[hv];refine az ?_;unfold Xz Vb;refine az (aq ?_);unfold loadVar;refine DL h2 ?_;rw[h4];simp only[if_true];refine j4 h1 ?_;refine az (AP (f:=f) (λh=>kq (by omega)) (λj hj=>hg j (by omega)) ?_);exact aq (aq ⟨rfl,_,rfl,IR hlen hd⟩))
theorem aoZ{t:TypeId}{x:Th}{p:AV}{l:List AV}{n:Nat}{av:AV}(ho:o.op=.load t x)(ht:Ty P t=some (n,false))(hx:s.ev x=some p)(hl:s.at p=some l)(h0:l[0]?=some av):dB lv P r o s (av):=
 iX (λE V a hc aF=>by
  obtain⟨i,d,h1,h2,rfl,h4⟩:=Ty.out ht;obtain⟨b,off,f,hv,hg,kq,hd⟩:=hc.at (ap.ev aF hx) hl;unfold execOp;rw[ho];simp only[hv];refine az ?_;unfold Xz Vb;refine az (aq ?_);unfold loadVar;refine DL h2 ?_;rw[h4];simp only[TN,if_false];have hlen:0<l.length:=(SL.1 h0).1;have lL:=hg 0 hlen;rw[UE]at lL;exact Nq lL (.inl (kq hlen)) (cI (aq ⟨rfl,_,rfl,hd 0 av h0⟩)))
def AV.sure:AV->Bool
 |.rp _|.op _ _=>true
 |.fn (.func _) _ _=>true
 |.fn (.yield _) _ _=>true
 |.c9 _ _=>true
 |_=>false
theorem ao6{x:Th}{p:AV}(ho:o.op=.nilCheck x)(hx:s.ev x=some p)(hp:p.sure=true):dB lv P r o s (p):=
 r_ (λE V a hc aF=>by
  have hd:=ap.ev aF hx;refine⟨a.eval x,?_,hd⟩;unfold execOp;rw[ho];dsimp only;generalize a.eval x=v at hd⊢;cases hd with
  |rp=>rfl
  |op=>rfl
  |c9=>rfl
  |fn dP fW h1 h2=>
   rename_i f _ _ _ _;cases f with
   |func=>rfl
   |yield=>rfl
   |_=>cases hp
  |_=>cases hp)
theorem aoQ{t:TypeId}{x:Th}{k n:Nat}{p q:AV}(ho:o.op=.fieldAddr t x k)(ht:e_ P t k=some n)(hx:s.ev x=some p)(hp:p.shift n=some q):dB lv P r o s (q):=
 iX (λE V a hc aF=>by
  obtain⟨b,off,hv,hq⟩:=(ap.ev aF hx).shift hp;unfold e_ at ht;split at ht
  ·rename_i fs hu;split at ht
   ·rename_i f hf;split at ht
    ·rename_i i hi;split at ht
     ·cases ht
     ·rename_i hz;cases ht;unfold execOp;rw[ho];simp only[hv];refine az ?_;unfold Instr.fieldAt;refine ec hu ?_;simp only[hf];unfold Vb;refine az (aq ?_);unfold fieldPlace;refine az (j4 hi ?_);rw[if_neg hz];refine aq (aq (aq ⟨rfl,_,rfl,?_⟩));rw[add_plain];exact hq
    ·cases ht
   ·cases ht
  ·cases ht)
theorem aoS{t:TypeId}{x ix:Th}{a p q:AV}{k:TW}{i:Int}{n sz:Nat}(ho:o.op=.indexAddr t x ix)(ht:nX P t=some (none,sz))(hx:s.ev x=some a)(ha:a.row=some (n,p))(hi:s.ev ix=some (.val (.int k i)))(h0:0<=i)(h1:i<n)
  (hp:p.shift (i.toNat* sz)=some q):dB lv P r o s (q):=
 iX (λE V ac hc aF=>by
  obtain⟨b,off,cap,hv,Aa⟩:=(ap.ev aF hx).row ha (by omega);obtain⟨b',o',hb,hq⟩:=Aa.shift hp;cases hb;have hd:=ap.ev aF hi;generalize qB:ac.eval ix=vi at hd;cases hd;unfold nX at ht;split at ht
  ·obtain⟨_,_,h⟩:=kY ht;cases h
  ·rename_i e hu;obtain⟨inf,KI,h⟩:=kY ht;cases h;unfold execOp;rw[ho];simp only[hv,qB];refine az ?_;unfold ZI asIntOf;refine az (aq ?_);dsimp only;refine ec hu ?_;refine az (aq ?_);dsimp only;refine ec hu ?_;dsimp only;rw[if_pos ⟨h0,h1⟩];refine j4 KI ?_;refine aq (aq ⟨rfl,_,rfl,?_⟩);rw[add_plain];exact hq
  ·cases ht)
theorem aoT{t:TypeId}{x ix:Th}{p q:AV}{k:TW}{i:Int}{n sz:Nat}(ho:o.op=.indexAddr t x ix)(ht:nX P t=some (some n,sz))(hx:s.ev x=some p)(hi:s.ev ix=some (.val (.int k i)))(h0:0<=i)(h1:i<n)
  (hp:p.shift (i.toNat* sz)=some q):dB lv P r o s (q):=
 iX (λE V ac hc aF=>by
  obtain⟨b,off,hv,hq⟩:=(ap.ev aF hx).shift hp;have hd:=ap.ev aF hi;generalize qB:ac.eval ix=vi at hd;cases hd;unfold nX at ht;split at ht
  ·rename_i m e hu;obtain⟨inf,KI,h⟩:=kY ht;cases h;unfold execOp;rw[ho];simp only[hv,qB];refine az ?_;unfold ZI asIntOf;refine az (aq ?_);dsimp only;refine ec hu ?_;dsimp only;unfold Vb;refine az (az (aq (aq ?_)));refine ec hu ?_;dsimp only;rw[if_pos ⟨h0,h1⟩];refine j4 KI ?_;refine aq (aq ⟨rfl,_,rfl,?_⟩);rw[add_plain];exact hq
  ·obtain⟨_,_,h⟩:=kY ht;cases h
  ·cases ht)
theorem abR{c:Xo}{x:Th}{t:TypeId}{a:AV}{n:Nat}(ho:o.op=.call c)(aY:c.callee=.builtin .len)(tK:c.args[0]?=some x)(CY:c.argTypes[0]?=some t)(ht:lE P t=some .slice)(hx:s.ev x=some a)(ha:a.len=some n):dB lv P r o s (.val (.int .i64 n)):=
 iX (λE V ac hc aF=>by
  obtain⟨ad,cap,hv⟩:=(ap.ev aF hx).len ha;unfold lE at ht;split at ht<;>cases ht;rename_i e hu;unfold execOp;rw[ho];dsimp only;unfold resolve;rw[aY];dsimp only;refine az (aq ?_);unfold invoke builtin;dsimp only;refine az ?_;unfold Yi;have e1:(c.args.map ac.eval)[0]?=some (.slice ad n cap):=by simp[tK,hv]
  simp only[CY,e1];refine ec hu ?_;exact aq (aq ⟨rfl,_,rfl,.val _⟩))
theorem aoX{c:Xo}{x:Th}{t:TypeId}{b:ByteArray}(ho:o.op=.call c)(aY:c.callee=.builtin .len)(tK:c.args[0]?=some x)(CY:c.argTypes[0]?=some t)(ht:lE P t=some .str)(hx:s.ev x=some (.val (.string b))):dB lv P r o s (.val (.int .i64 b.size)):=
 iX (λE V ac hc aF=>by
  have hd:=ap.ev aF hx;generalize hv:ac.eval x=v at hd;cases hd;unfold lE at ht;split at ht<;>cases ht;rename_i hu;unfold execOp;rw[ho];dsimp only;unfold resolve;rw[aY];dsimp only;refine az (aq ?_);unfold invoke builtin;dsimp only;refine az ?_;unfold Yi;have e1:(c.args.map ac.eval)[0]?=some (.string b):=by simp[tK,hv]
  simp only[CY,e1];refine ec hu ?_;exact aq (aq ⟨rfl,_,rfl,.val _⟩))
theorem aoW{c:Xo}{x:Th}{t:TypeId}{id:Nat}{es:Array Wl}{ck:Nat}(ho:o.op=.call c)(aY:c.callee=.builtin .len)(tK:c.args[0]?=some x)(CY:c.argTypes[0]?=some t)(ht:lE P t=some .map)(hx:s.ev x=some (.mp id))(hk:s.H[id]?=some (.obj (.map es ck))):dB lv P r o s (.val (.int .i64 es.size)):=
 iX (λE V ac hc aF=>by
  have hd:=ap.ev aF hx;generalize hv:ac.eval x=v at hd;cases hd;obtain⟨h1,h2,h3,h4⟩:=hc.obj id _ hk;unfold lE at ht;split at ht<;>cases ht;rename_i hu;unfold execOp;rw[ho];dsimp only;unfold resolve;rw[aY];dsimp only;refine az (aq ?_);unfold invoke builtin;dsimp only;refine az ?_;unfold Yi;have e1:(c.args.map ac.eval)[0]?=some (.map (some (E.blk id))):=by simp[tK,hv]
  simp only[CY,e1];refine ec hu ?_;refine az (nU h1 h2 h3 (hc.jk hk rfl).2 (cI ?_));exact aq (aq ⟨rfl,_,rfl,.val _⟩))
theorem aci{t:TypeId}{n off:Nat}{g:Bool}{E:Env}{V:View}{l:List AV}{cs:Array SP}{K:SP->View->Prop}{Kp:SP->View->Prop}(ht:Ty P t=some (n,g))(hd:cJ E l cs)(hl:off+n<=l.length)(hn:g=false->0<n)
  (h:∀v,(g=true->ap E (.agg ((l.drop off).take n)) v)->(g=false->∀a,l[off]?=some a->ap E a v)->K v V):aO P V (part t cs off) K Kp:=by
 obtain⟨i,d,h1,h2,rfl,h4⟩:=Ty.out ht;unfold part;refine DL h2 ?_;rw[h4];cases g with
 |true=>
  simp only[if_true];refine j4 h1 (aq (h _ (λ_=> .agg (by have:=hd.1;simp;omega) λj a e=> ?_) (by simp)));rw[Ue]at e;split at e
  ·rename_i hj;rw[Uo]at e;have:=hd.2 _ _ e;have hlt:off+j<cs.size:=(by rw[hd.1];omega);have akB:j<(cs.extract off (off+i.size)).size:=(by have:=hd.1;simp;omega);rw[SH,SJ akB];rw[SH,SJ hlt]at this;simpa using this
  ·cases e
 |false=>
  simp only[TN,if_false];have hlt:off<cs.size:=by have:=hn rfl;rw[hd.1];omega
  rw[SJ hlt];refine aq (h _ (by simp) λ_ a e=> ?_);have:=hd.2 _ _ e;rwa [SH,SJ hlt]at this
def AV.cut (l:List AV)(off n:Nat)(g:Bool):Option AV:=if off+n<=l.length/\(g=false->0<n)then(if g then some (.agg ((l.drop off).take n))else l[off]?)else none
theorem aoR{t:TypeId}{x:Th}{k off n:Nat}{g:Bool}{l:List AV}{av:AV}(ho:o.op=.field t x k)(ht:Ib P t k=some (off,n,g))(hx:s.ev x=some (.agg l))(hv:AV.cut l off n g=some av):dB lv P r o s av:=
 iX (λE V a hc aF=>by
  have hd:=ap.ev aF hx;generalize he:a.eval x=v at hd;cases hd with
  |agg hs h=>
   unfold Ib at ht;split at ht
   ·rename_i fs hu;split at ht
    ·rename_i f hf;obtain⟨⟨n',g'⟩,h1,h2⟩:=kY ht;cases h2;unfold AV.cut at hv;split at hv
     ·rename_i xN;unfold execOp;rw[ho];simp only[he];refine az ?_;unfold Instr.field;refine ec hu ?_;simp only[hf];unfold asAgg;refine az (aq ?_);refine aci h1 ⟨hs,h⟩ xN.1 xN.2 λv h3 h4=>aq ⟨rfl,v,rfl,?_⟩;cases g' with
      |true=>simp only[if_true,Tj]at hv;subst hv;exact h3 rfl
      |false=>simp only[TN,if_false]at hv;exact h4 rfl _ hv
     ·cases hv
    ·cases ht
   ·cases ht)
theorem aoV{t:TypeId}{x ix:Th}{n sz:Nat}{g:Bool}{l:List AV}{av:AV}{k:TW}{i:Int}(ho:o.op=.index t x ix)(ht:H5 P t=some (n,sz,g))(hx:s.ev x=some (.agg l))(hi:s.ev ix=some (.val (.int k i)))(h0:0<=i)(h1:i<n)(hv:AV.cut l (i.toNat* sz) sz g=some av):dB lv P r o s av:=
 iX (λE V a hc aF=>by
  have hd:=ap.ev aF hx;generalize he:a.eval x=v at hd;have kG:=ap.ev aF hi;generalize Kl:a.eval ix=vi at kG;cases kG;cases hd with
  |agg hs h=>
   unfold H5 at ht;split at ht
   ·rename_i m e hu;obtain⟨⟨n',g'⟩,h2,h3⟩:=kY ht;cases h3;unfold AV.cut at hv;split at hv
    ·rename_i xN;obtain⟨inf,d,q1,q2,q3,q4⟩:=Ty.out h2;unfold execOp;rw[ho];simp only[he,Kl];refine az ?_;unfold ZY asIntOf;refine az (aq ?_);dsimp only;refine ec hu ?_;dsimp only;rw[if_pos ⟨h0,h1⟩];refine j4 q1 ?_;rw[q3];refine aci h2 ⟨hs,h⟩ xN.1 xN.2 λv h4 h5=>aq ⟨rfl,v,rfl,?_⟩;cases g' with
     |true=>simp only[if_true,Tj]at hv;subst hv;exact h4 rfl
     |false=>simp only[TN,if_false]at hv;exact h5 rfl _ hv
    ·cases hv
   ·cases ht)
theorem aoU{t:TypeId}{x ix:Th}{b:ByteArray}{k:TW}{i:Int}{c:UInt8}(ho:o.op=.index t x ix)(ht:lE P t=some .str)(hx:s.ev x=some (.val (.string b)))(hi:s.ev ix=some (.val (.int k i)))(h0:0<=i)(h1:b[i.toNat]?=some c):dB lv P r o s (.val (.int .u8 c.toNat)):=
 iX (λE V a hc aF=>by
  have hd:=ap.ev aF hx;generalize he:a.eval x=v at hd;have kG:=ap.ev aF hi;generalize Kl:a.eval ix=vi at kG;cases kG;cases hd;unfold lE at ht;split at ht<;>cases ht;rename_i hu;unfold execOp;rw[ho];simp only[he,Kl];refine az ?_;unfold ZY asIntOf;refine az (aq ?_);dsimp only;refine ec hu ?_;dsimp only;rw[if_pos h0,h1];exact aq (aq ⟨rfl,_,rfl,.val _⟩))
theorem Ps{E:Env}{s:AS}{a:Act}(k:cj E s.T a.tmps){l:Array Th}{aE:List AV}(h:l.toList.mapM s.ev=some aE):cJ E aE (l.map a.eval):=by
 have key:∀(l:List Th)(aE:List AV),l.mapM s.ev=some aE->cJ E aE (l.map a.eval).toArray:=by
  intro l;induction l with
  |nil=>intro aE h;simp at h;subst h;exact⟨rfl,by simp⟩
  |cons x l ih=>
   intro aE h;simp only[T_,Uj,TP,Te,Tj]at h;obtain⟨b,h1,bs,h2,rfl⟩:=h;have:=ih bs h2;refine⟨by have:=this.1;simpa using this,λi c e=> ?_⟩;cases i with
   |zero=>simp at e;subst e;simpa[SH]using ap.ev k h1
   |succ i=>
    simp only[UL]at e;have:=this.2 i c e;simpa[SH]using this
 have:=key l.toList aE h;have e:l.map a.eval=(l.toList.map a.eval).toArray:=by apply VF;simp
 rw[e];exact this
theorem ao1{f:Fn}{first cT:Array Th}{fa ca:List AV}(ho:o.op=.makeFunc f first cT)(h1:first.toList.mapM s.ev=some fa)(h2:cT.toList.mapM s.ev=some ca):dB lv P r o s (.fn f fa ca):=
 r_ (λE V a hc ht=>by
  have d1:=Ps ht h1;have d2:=Ps ht h2;exact⟨_,by unfold execOp;rw[ho];rfl,.fn d1.1 d2.1 d1.2 d2.2⟩)
def mq (P:SI)(t:TypeId):Option Bool:=(P.underlying t).map λ|.interface _=>true|_=>false
theorem ao2{t:TypeId}{x:Th}{av:AV}(ho:o.op=.makeInterface t x)(ht:mq P t=some false)(hx:s.ev x=some av):dB lv P r o s (.c9 t av):=
 iX (λE V a hc aF=>by
  obtain⟨d,hu,hd⟩:=kY ht;unfold execOp;rw[ho];dsimp only;refine az ?_;unfold Instr.makeInterface;refine ec hu ?_;split
  ·cases hd
  ·exact aq (aq ⟨rfl,_,rfl,.c9 (ap.ev aF hx)⟩))
def A' (P:SI)(src dst:TypeId):Option (Option TW):=(P.underlying src).bind λ_=>match P.underlying dst with
 |some (.int k)=>some (some k)
 |_=>none
theorem aoM{src dst:TypeId}{x:Th}{k j:TW}{n:Int}(ho:o.op=.convert src dst x)(ht:A' P src dst=some (some k))(hx:s.ev x=some (.val (.int j n))):dB lv P r o s (.val (.int k (k.wrap n))):=
 iX (λE V a hc aF=>by
  have hd:=ap.ev aF hx;generalize he:a.eval x=v at hd;cases hd;unfold A' at ht;obtain⟨d,h1,h2⟩:=Te.1 ht;split at h2
  ·rename_i k' hu;cases h2;unfold execOp;rw[ho];simp only[he];refine az ?_;unfold convert;refine ec h1 (ec hu ?_);dsimp only;exact aq (aq ⟨rfl,_,rfl,.val _⟩)
  ·cases h2)
end
open Go.Conc
def Env.add (E:Env)(r:Nat)(I:cw):Env:={E with I:=I,n:=E.n+1,blk:=λk=>if k=E.n then r else E.blk k}
theorem Env.qC(E:Env)(r:Nat){I:cw}(hI:∀b o v,E.I b o=some v->I b o=some v):E.Le (E.add r I):=
 ⟨hI,YX _,λk hk=>by simp[Env.add,Wa hk],λ_ _=>SQ _,λ_ _ _ _=>rfl,rfl,rfl⟩
def View.eM (V:View)(b:Nat)(cs:Array SP)(p:Nat->Bool):View:={V with ab:=λb' o=>if b'=b/\p o=true then cs[o]?else V.ab b' o}
theorem xz{V:View}{b:Nat}{cs:Array SP}{el:TypeId}{f:Nat×Nat}{p:Nat->Bool}(ho:V.own b=some (.cells cs el f))(hp:∀o,p o=true->V.ab b o=none):dR V (V.eM b cs p)where
 sat w h:=⟨λb' o v e=>by
   simp only[View.eM]at e;split at e
   ·rename_i hb;obtain⟨rfl,_⟩:=hb;have:=h.own _ _ ho;simpa[Uz,this]using e
   ·exact h.ab _ _ _ e,λb' x e=>h.own b' x e⟩
 own b' e:=e
 ab b' o v e:=by
  have hn:¬(b'=b/\p o=true):=λhb=>by obtain⟨rfl,h2⟩:=hb;rw[hp o h2]at e;cases e
  simp only[View.eM,if_neg hn];exact e
 kL b' o v e:=by
  simp only[View.eM]at e;split at e
  ·rename_i hb;obtain⟨rfl,_⟩:=hb;exact .inr (by rw[ho];simp)
  ·exact .inl e
 deaf:=rfl
 role:=rfl
 chan c x _ h:=h
def View.ky (V:View)(r:Nat)(cs:Array SP):View:={V with ab:=λb o=>if b=r then cs[o]?else V.ab b o}
theorem ajp{V:View}{r:Nat}{cs:Array SP}{el:TypeId}{f:Nat×Nat}(hf:V.fresh r)(hc:V.role.chan≠some r):dR (V.upd r (.cells cs el f)) (V.ky r cs)where
 sat w h:=⟨λb o v e=>by
   simp only[View.ky]at e;split at e
   ·rename_i hb;subst hb;have:=h.own b (.cells cs el f) (by simp[View.upd]);simpa[Uz,this]using e
   ·exact h.ab b o v e,λb x e=>by
   have hb:b≠r:=λhb=>(by subst hb;rw[show (V.ky b cs).own b=V.own b from rfl,hf.1]at e;cases e);have e':V.own b=some x:=e;exact h.own b x (by simpa[View.upd,hb]using e')⟩
 own b e:=by
  simp only[View.upd]at e;split at e
  ·cases e
  ·exact e
 ab b o v e:=by
  have e':V.ab b o=some v:=e;have hb:b≠r:=λhb=>by subst hb;rw[hf.2 o]at e';cases e'
  simpa[View.ky,hb]using e'
 kL b o v e:=by
  simp only[View.ky]at e;split at e
  ·rename_i hb;exact .inr (by simp[View.upd,hb])
  ·exact .inl e
 deaf:=rfl
 role:=rfl
 chan c x hcx h:=by
  have hb:c≠r:=λhb=>by subst hb;exact hc hcx
  have h':V.own c=some x:=by simpa[View.upd,hb]using h
  exact h'
theorem Conc.aje{E:Env}{V:View}{H:List aa}(hc:Conc E V H){r:Nat}(hf:V.own r=none):V.role.chan≠some r/\V.role.group≠some r:=
 ⟨λe=>(hc.chan r e).1 hf,λe=>(hc.group r e).1 hf⟩
theorem Conc.add{E:Env}{V:View}{H:List aa}(hc:Conc E V H){r:Nat}(hf:V.fresh r)(y:Obj){x:aa}(hx:fN (E.add r V.ab) (V.upd r y) E.n x)(hb:∀b,bL (E.add r V.ab) E.n x=some b->b=r):Conc (E.add r V.ab) (V.upd r y) (H++[x]):=by
 refine hc.iJ (E':=E.add r V.ab) H.length x (E.qC r (λb o v h=>by rw[<- hc.I];exact h)) rfl (by simp[Env.add,hc.n]) Dg rfl (λ_ _ _=>rfl) (λb z _ hz=>⟨?_,λ_=>rfl⟩) (by rw[<- hc.n];exact hx) (λb h=> .inr ?_)
 ·have:b≠r:=λe=>by rw[e,hf.1]at hz;cases hz
  simpa[View.upd,this]using hz
 ·rw[<- hc.n]at h;rw[hb b h];exact hf.1
theorem Env.dL(E:Env)(r:Nat)(I:cw):(E.add r I).blk E.n=r:=by simp[Env.add]
theorem Pu{E:Env}{H:List aa}(hn:E.n=H.length)(r:Nat)(I:cw):ap (E.add r I) (.op H.length 0) (.pointer (some ⟨r,0,none⟩)):=by
 have:=ap.op (E:=E.add r I) (id:=H.length) (off:=0) (by show _<E.n+1;rw[hn];omega);have e:(E.add r I).blk H.length=r:=by rw[<- hn];exact E.dL r I
 rwa [e]at this
def AV.parts:AV->Option (List AV)
 |.agg l=>some l
 |.aL _=>none
 |.val (.agg _)=>none
 |a=>some [a]
theorem ap.parts{E:Env}{a:AV}{v:SP}{l:List AV}(h:ap E a v)(hp:a.parts=some l):cJ E l v.cells:=by
 have one:∀a v,ap E a v->v.cells=#[v]->cJ E [a] v.cells:=λa v h e=>by
  rw[e];refine⟨rfl,λi x hx=> ?_⟩;have hi:i=0:=by have:=(SL.1 hx).1;simpa using this
  subst hi;simp at hx;subst hx;simpa using h
 cases h with
 |val=>cases v<;>first|(cases hp;exact one _ _ (.val _) rfl)|cases hp
 |agg hs h=>cases hp;exact⟨hs,h⟩
 |aL hs h=>cases hp
 |sl b o cap f hc he h1 h2=>cases hp;exact one _ _ (.sl b o cap f hc he h1 h2) rfl
 |nil he=>cases hp;exact one _ _ (.nil he) rfl
 |bw hi dO=>cases hp;exact one _ _ (.bw hi dO) rfl
 |rp b o f h1 h2=>cases hp;exact one _ _ (.rp b o f h1 h2) rfl
 |op hi=>cases hp;exact one _ _ (.op hi) rfl
 |fn dP fW h1 h2=>cases hp;exact one _ _ (.fn dP fW h1 h2) rfl
 |c9 h=>cases hp;exact one _ _ (.c9 h) rfl
 |mp hi=>cases hp;exact one _ _ (.mp hi) rfl
def eN (P:SI)(t:TypeId):Option SP:=(P.info? t).bind (·.zero)
def l7 (z:SP):List AV:=z.cells.toList.map AV.pG
theorem IU(E:Env)(z:SP):cJ E (l7 z) z.cells:=by
 refine⟨by simp[l7],λi a h=> ?_⟩;unfold l7 at h;rw[To]at h;obtain⟨x,hx,rfl⟩:=Tq.1 h;have:z.cells[i]?=some x:=by simpa using hx
 rw[SH,this];exact IP E x
section
variable {P:SI}{V:View}{α:Type}{K:α->View->Prop}{Kp:SP->View->Prop}
theorem Hj{t:TypeId}{z:SP}{k:SP->Sem α}(h:eN P t=some z)(hk:aO P V (k z) K Kp):aO P V (zeroValue t>>=k) K Kp:=by
 unfold eN at h;obtain⟨i,h1,h2⟩:=Te.1 h;refine az ?_;unfold zeroValue;refine yE h1 ?_;rw[h2];exact aq hk
end
section
variable {lv:Bool}{P:SI}{r:Option Nat}{o:Tu}{s:AS}{next:AS->Prop}{bad:AV->AS->Prop}
theorem acP{t:TypeId}{l:List AV}(h:∀(E:Env)(V:View)(a:Act),Conc E V s.H->cj E s.T a.tmps->∃cs,cJ E l cs/\aO P V (execOp a.eval o) (λnx V'=>∃rr,V.fresh rr/\V'=V.upd rr (.cells cs t)/\nx=.value (.pointer (some ⟨rr,0,none⟩))) (λ_ _=>False))
  (hn:next ((⟨s.T,s.H++[.cells l t]⟩:AS).put o.dst (.op s.H.length 0))):Step lv P r o s next bad:=by
 intro E V a N Q hc ht hd bz h1 _;obtain⟨cs,o_,qx⟩:=h E V a hc ht;refine⟨bz,qx.mono (λnx V' hx=> ?_) (λ_ _ hx=>hx.elim)⟩;obtain⟨rr,hf,rfl,rfl⟩:=hx;have hle:E.Le (E.add rr V.ab):=E.qC rr (λb o v h=>by rw[<- hc.I];exact h);have bm:Conc (E.add rr V.ab) (V.upd rr (.cells cs t)) (s.H++[.cells l t]):=by
  refine hc.add hf _ ⟨⟨cs,?_,o_.mono hle⟩,λo=> ?_⟩ (λb e=> ?_)
  ·rw[Env.dL];simp[View.upd]
  ·rw[Env.dL];exact hf.2 o
  ·simp only[bL,Env.dL,Tj]at e;exact e.symm
 exact h1 _ _ (a.put o.dst (.pointer (some ⟨rr,0,none⟩))) ((⟨s.T,s.H++[.cells l t]⟩:AS).put o.dst (.op s.H.length 0)) ⟨hle,dX _ _ _,put_defers _ _ _,rfl,rfl⟩ (by rw[fi];exact bm)
  (cj.gX (s:=⟨s.T,s.H++[.cells l t]⟩) (ht.mono hle) hd (Pu hc.n rr V.ab)) hn
theorem acL{t:TypeId}{x:Th}{av:AV}{l:List AV}(ho:o.op=.box t x)(hx:s.ev x=some av)(hl:av.parts=some l)(hn:next ((⟨s.T,s.H++[.cells l t]⟩:AS).put o.dst (.op s.H.length 0))):Step lv P r o s next bad:=
 acP (λE V a hc ht=>⟨(a.eval x).cells,(ap.ev ht hx).parts hl,by
  unfold execOp;rw[ho];dsimp only;refine az ?_;unfold Instr.box newVar newRow;refine az (az (az (oJ λrr hf=>cI (aq (aq (aq (aq ⟨rr,hf,rfl,rfl⟩)))))))⟩) hn
theorem acI{t:TypeId}{z:SP}(ho:o.op=.alloc t)(hz:eN P t=some z)(hn:next ((⟨s.T,s.H++[.cells (l7 z) t]⟩:AS).put o.dst (.op s.H.length 0))):Step lv P r o s next bad:=
 acP (λE V a hc ht=>⟨z.cells,IU E z,by
  unfold execOp;rw[ho];dsimp only;refine az ?_;unfold Instr.alloc;refine Hj hz ?_;unfold newVar newRow;refine az (az (az (oJ λrr hf=>cI (aq (aq (aq (aq ⟨rr,hf,rfl,rfl⟩)))))))⟩) hn
theorem aqW{t:TypeId}(ho:o.op=.makeMap t none)(hn:next ((⟨s.T,s.H++[.obj (.map #[] 0)]⟩:AS).put o.dst (.mp s.H.length))):Step lv P r o s next bad:=by
 intro E V a N Q hc ht hd bz h1 _;refine⟨bz,?_⟩;unfold execOp;rw[ho];dsimp only;refine az ?_;unfold Instr.makeMap;refine az (oJ λrr hf=>cI (aq (aq ?_)));have hle:E.Le (E.add rr V.ab):=E.qC rr (λb o v h=>by rw[<- hc.I];exact h);have bm:Conc (E.add rr V.ab) (V.upd rr (.map #[] 0)) (s.H++[.obj (.map #[] 0)]):=by
  refine hc.add hf _ ⟨?_,rfl,rfl,λo=> ?_⟩ (λb e=> ?_)
  ·rw[Env.dL];simp[View.upd]
  ·rw[Env.dL];exact hf.2 o
  ·simp only[bL,Env.dL,Tj]at e;exact e.symm
 have bp:ap (E.add rr V.ab) (.mp s.H.length) (.map (some rr)):=by
  have:=ap.mp (E:=E.add rr V.ab) (id:=s.H.length) (by show _<E.n+1;rw[hc.n];omega);have e:(E.add rr V.ab).blk s.H.length=rr:=by rw[<- hc.n];exact E.dL rr _
  rwa [e]at this
 exact h1 _ _ (a.put o.dst (.map (some rr))) ((⟨s.T,s.H++[.obj (.map #[] 0)]⟩:AS).put o.dst (.mp s.H.length)) ⟨hle,dX _ _ _,put_defers _ _ _,rfl,rfl⟩ (by rw[fi];exact bm)
  (cj.gX (s:=⟨s.T,s.H++[.obj (.map #[] 0)]⟩) (ht.mono hle) hd bp) hn
end
def storeAt:Array SP->Nat->List SP->Array SP
 |cs,_,[]=>cs
 |cs,o,v::vs=>storeAt (cs.setIfInBounds o v) (o+1) vs
theorem yG:∀(vs:List SP)(cs:Array SP)(o:Nat),(storeAt cs o vs).size=cs.size
 |[],_,_=>rfl
 |v::vs,cs,o=>by rw[storeAt,yG];simp
theorem DW:∀(vs:List SP)(cs:Array SP)(o k:Nat),o+vs.length<=cs.size->(storeAt cs o vs).getD k undef=if o<=k/\k<o+vs.length then vs.getD (k-o) undef else cs.getD k undef
 |[],cs,o,k,_=>by
  have:¬(o<=k/\k<o+([]:List SP).length):=by intro h;simp only[UN]at h;omega
  rw[if_neg this];rfl
 |v::vs,cs,o,k,h=>by
  simp only[Ul]at h;rw[storeAt,DW vs _ (o+1) k (by simp;omega)];by_cases h1:k=o
  ·subst h1;rw[if_neg (by omega),if_pos (by simp)];simp[SH,S_ (show k<cs.size by omega)]
  ·by_cases h2:o+1<=k/\k<o+1+vs.length
   ·rw[if_pos h2,if_pos (by simp only[Ul];omega)];have:k-o=(k-(o+1))+1:=(by omega);rw[this];simp[SE]
   ·rw[if_neg h2,if_neg (by simp only[Ul];omega)];simp[SH,SU (Ne.symm h1)]
theorem ar3(V:View)(b:Nat)(x y:Obj):(V.upd b x).upd b y=V.upd b y:=by
 unfold View.upd;congr 1;funext k;dsimp only;split<;>rfl
theorem ar4{V:View}{b:Nat}{x:Obj}(h:V.own b=some x):V.upd b x=V:=by
 unfold View.upd;have:(λk=>if k=b then some x else V.own k)=V.own:=by
  funext k;split
  ·rename_i e;subst e;rw[h]
  ·rfl
 rw[this]
section
variable {P:SI}{K:Unit->View->Prop}{Kp:SP->View->Prop}{b off:Nat}{el:TypeId}
theorem AT:∀(vs:List SP)(i:Nat)(V:View)(cs:Array SP),V.role.group≠some b->V.role.chan≠some b->V.own b=some (.cells cs el (0,0))->(∀o,off+i<=o->o<off+i+vs.length->V.ab b o=none)->off+i+vs.length<=cs.size->(∀v∈vs,v.one=true)->
  K () (V.upd b (.cells (storeAt cs (off+i) vs) el (0,0)))->aO P V (storeCells ⟨b,off,none⟩ vs i) K Kp
 |[],i,V,cs,hg,hc,ho,hi,hl,hv,h=>by
  unfold storeCells;rw[show storeAt cs (off+i) []=cs from rfl,ar4 ho]at h;exact aq h
 |v::vs,i,V,cs,hg,hc,ho,hi,hl,hv,h=>by
  unfold storeCells;rw[add_plain];simp only[Ul]at hl hi;refine az (aqg ho (by omega) (hi _ (by omega) (by omega)) (hv v (TC ..)) (by omega) (.inl hg) hc (cI ?_));refine AT vs (i+1) (V.upd b (.cells (cs.setIfInBounds (off+i) v) el (0,0))) (cs.setIfInBounds (off+i) v) hg hc (by simp[View.upd]) (λo h1 h2=>hi o (by omega) (by omega)) (by simp;omega) (λx hx=>hv x (Tb _ hx)) ?_;rw[ar3];exact h
end
theorem Conc.set{E:Env}{V:View}{H:List aa}(hc:Conc E V H){id:Nat}{l l':List AV}{el:TypeId}(hk:H[id]?=some (.cells l el)){eP:Array SP}(hd:cJ E l' eP):Conc E (V.upd (E.blk id) (.cells eP el (0,0))) (H.set id (.cells l' el)):=by
 obtain⟨⟨cs,h1,_⟩,h3⟩:=hc.obj id _ hk;refine hc.iJ id (.cells l' el) (Env.Le.refl E) hc.I (by simpa using hc.n) ly rfl (λ_ _ _=>rfl) (λb y hb hy=>⟨?_,λ_=>rfl⟩) ⟨⟨eP,by simp[View.upd],hd⟩,h3⟩ (λb h=> .inl ⟨_,hk,h⟩);have:b≠E.blk id:=λe=>hb _ hk (by rw[e];rfl);simpa[View.upd,this]using hy
theorem acS:∀(vs:List SP)(cs:Array SP)(off o:Nat),o<off->(storeAt cs off vs)[o]?=cs[o]?
 |[],_,_,_,_=>rfl
 |v::vs,cs,off,o,h=>by
  rw[storeAt,acS vs _ (off+1) o (by omega),SU (by omega)]
theorem Conc.DN{E:Env}{V:View}{H:List aa}(hc:Conc E V H){id p:Nat}{l l':List AV}{el:TypeId}(hk:H[id]?=some (.part p l el)){cs eP:Array SP}(h1:V.own (E.blk id)=some (.cells cs el (0,0)))(hd:j6 E l' eP)(hs:∀o,o<p->eP[o]?=cs[o]?):Conc E (V.upd (E.blk id) (.cells eP el (0,0))) (H.set id (.part p l' el)):=by
 obtain⟨⟨zk,q1,_,q2⟩,h3⟩:=hc.obj id _ hk;rw[h1]at q1;cases q1;refine hc.iJ id (.part p l' el) (Env.Le.refl E) hc.I (by simpa using hc.n) ly rfl (λ_ _ _=>rfl) (λb y hb hy=>⟨?_,λ_=>rfl⟩) ⟨⟨eP,by simp[View.upd],hd,λo ho=>(q2 o ho).trans (hs o ho).symm⟩,h3⟩ (λb h=> .inl ⟨_,hk,h⟩);have:b≠E.blk id:=λe=>hb _ hk (by rw[e];rfl);simpa[View.upd,this]using hy
theorem Conc.acr{E:Env}{V:View}{H:List aa}(hc:Conc E V H){id sz:Nat}{l l':List AV}{el:TypeId}(hk:H[id]?=some (.own sz l el)){eP:Array SP}(hd:j6 E l' eP)(hz:eP.size=(E.room id 0).2* sz):Conc E (V.upd (E.blk id) (.cells eP el (0,0))) (H.set id (.own sz l' el)):=by
 obtain⟨⟨cs,h1,_⟩,h3⟩:=hc.obj id _ hk;refine hc.iJ id (.own sz l' el) (Env.Le.refl E) hc.I (by simpa using hc.n) ly rfl (λ_ _ _=>rfl) (λb y hb hy=>⟨?_,λ_=>rfl⟩) ⟨⟨eP,by simp[View.upd],hd,hz⟩,h3⟩ (λb h=> .inl ⟨_,hk,h⟩);have:b≠E.blk id:=λe=>hb _ hk (by rw[e];rfl);simpa[View.upd,this]using hy
theorem Conc.setObj{E:Env}{V:View}{H:List aa}(hc:Conc E V H){id:Nat}{x y:Obj}(hk:H[id]?=some (.obj x))(h1:y.u7=false)(h2:y.isChan=false):Conc E (V.upd (E.blk id) y) (H.set id (.obj y)):=by
 obtain⟨p1,p2,p3,p4⟩:=hc.obj id _ hk;refine hc.iJ id (.obj y) (Env.Le.refl E) hc.I (by simpa using hc.n) ly rfl (λ_ _ _=>rfl) (λb z hb hz=>⟨?_,λ_=>rfl⟩) ⟨by simp[View.upd],h1,h2,p4⟩ (λb h=> .inl ⟨_,hk,h⟩);have:b≠E.blk id:=λe=>hb _ hk (by rw[e];rfl);simpa[View.upd,this]using hz
theorem amr{E:Env}{a:AV}{v:SP}(h:ap E a v)(hl:a.leaf=true):v.one=true:=by
 cases h with
 |val x=>exact hl
 |agg _ _=>cases hl
 |aL _ _=>cases hl
 |_=>rfl
def iG (l:List AV)(off:Nat)(lp:List AV):List AV:=l.take off++lp++l.drop (off+lp.length)
theorem IS{E:Env}{l lp:List AV}{cs vs:Array SP}{off:Nat}(h:cJ E l cs)(k:cJ E lp vs)(hl:off+lp.length<=l.length):cJ E (iG l off lp) (storeAt cs off vs.toList):=by
 have hv:vs.toList.length=lp.length:=by simpa using k.1
 refine⟨by rw[yG,h.1];simp[iG];omega,λi a e=> ?_⟩;rw[DW _ _ _ _ (by rw[h.1,hv];exact hl),hv];unfold iG at e;by_cases h1:i<off
 ·rw[if_neg (by omega)];rw[SC,SW (by simp;omega),Ue,if_pos h1]at e;exact h.2 i a e
 ·by_cases h2:i<off+lp.length
  ·rw[if_pos ⟨by omega,h2⟩];rw[SW (by simp;omega),S9 (by simp;omega)]at e;have e':lp[i-off]?=some a:=by
    have:min off l.length=off:=(by omega);simpa[this]using e
   have:=k.2 _ a e';simpa[SH,SE]using this
  ·rw[if_neg (by omega)];rw[S9 (by simp;omega),Uo]at e;have e':l[i]?=some a:=by
    have h3:off+lp.length+(i-(l.take off++lp).length)=i:=(by simp;omega);rw[h3]at e;exact e
   exact h.2 i a e'
theorem Pz{E:Env}{l lp:List AV}{cs vs:Array SP}{off:Nat}(h:j6 E l cs)(k:cJ E lp vs)(hl:off+lp.length<=l.length):j6 E (iG l off lp) (storeAt cs off vs.toList):=by
 have hv:vs.toList.length=lp.length:=by simpa using k.1
 refine⟨by rw[yG];have:=h.1;simp[iG];omega,λi a e=> ?_⟩;rw[DW _ _ _ _ (by have:=h.1;rw[hv];omega),hv];unfold iG at e;by_cases h1:i<off
 ·rw[if_neg (by omega)];rw[SC,SW (by simp;omega),Ue,if_pos h1]at e;exact h.2 i a e
 ·by_cases h2:i<off+lp.length
  ·rw[if_pos ⟨by omega,h2⟩];rw[SW (by simp;omega),S9 (by simp;omega)]at e;have e':lp[i-off]?=some a:=by
    have:min off l.length=off:=(by omega);simpa[this]using e
   have:=k.2 _ a e';simpa[SH,SE]using this
  ·rw[if_neg (by omega)];rw[S9 (by simp;omega),Uo]at e;have e':l[i]?=some a:=by
    have h3:off+lp.length+(i-(l.take off++lp).length)=i:=(by simp;omega);rw[h3]at e;exact e
   exact h.2 i a e'
theorem BV{E:Env}{lp:List AV}{vs:Array SP}(h:cJ E lp vs)(nD:∀a∈lp,a.leaf=true):∀v∈vs.toList,v.one=true:=by
 intro v hv;obtain⟨j,hj⟩:=UR.1 hv;have eU:j<lp.length:=by have:=(SL.1 hj).1;have:=h.1;simp at*;omega
 have:=h.2 j lp[j] (SY eU);have iB:vs[j]?=some v:=by simpa using hj
 rw[SH,iB]at this;exact amr this (nD _ (Wu eU))
section
variable {lv:Bool}{P:SI}{r:Option Nat}{o:Tu}{s:AS}{next:AS->Prop}{bad:AV->AS->Prop}
theorem acQ{t:TypeId}{x y:Th}{id off n:Nat}{l lp:List AV}{el:TypeId}{g:Bool}{av:AV}(ho:o.op=.store t x y)(ht:Ty P t=some (n,g))(hx:s.ev x=some (.op id off))(hk:s.H[id]?=some (.cells l el))(hy:s.ev y=some av)(hp:av.parts=some lp)(iU:lp.length=n)(hl:off+lp.length<=l.length)
  (nD:∀a∈lp,a.leaf=true) (hn:next ((⟨s.T,s.H.set id (.cells (iG l off lp) el)⟩:AS).put o.dst (.val undef))):Step lv P r o s next bad:=by
 intro E V a N Q hc aF hd bz h1 _;obtain⟨i,d,q1,q2,rfl,q4⟩:=Ty.out ht;have dw:=ap.ev aF hx;generalize kx:a.eval x=vx at dw;cases dw with
 |op bT=>
  have bp:=(ap.ev aF hy).parts hp;obtain⟨⟨cs,p1,p2⟩,p3⟩:=hc.obj id _ hk;obtain⟨g1,g2⟩:=hc.jk hk rfl;refine⟨bz,?_⟩;unfold execOp;rw[ho];simp only[kx];refine az ?_;unfold Yf Vb;refine az (aq ?_);unfold storeVar;refine j4 q1 ?_;rw[if_neg (by rw[bp.1,iU];simp)];refine AT _ 0 V cs g1 g2 p1 (λo _ _=>p3 o) (by have:=bp.1;have:=p2.1;simp;omega) (BV bp nD) ?_;rw[UE];exact aq (h1 E _ (a.put o.dst undef) _ ⟨Env.Le.refl E,dX _ _ _,put_defers _ _ _,rfl,rfl⟩ (by rw[fi];exact hc.set hk (IS p2 bp hl))
   (cj.gX (s:=⟨s.T,s.H.set id (.cells (iG l off lp) el)⟩) aF hd (.val undef)) hn)
theorem aq2{t:TypeId}{x y:Th}{id off n p:Nat}{l lp:List AV}{el:TypeId}{g:Bool}{av:AV}(ho:o.op=.store t x y)(ht:Ty P t=some (n,g))(hx:s.ev x=some (.op id off))(hk:s.H[id]?=some (.part p l el))(hpo:p<=off)(hy:s.ev y=some av)(hp:av.parts=some lp)(iU:lp.length=n)(hl:off+lp.length<=l.length)
  (nD:∀a∈lp,a.leaf=true) (hn:next ((⟨s.T,s.H.set id (.part p (iG l off lp) el)⟩:AS).put o.dst (.val undef))):Step lv P r o s next bad:=by
 intro E V a N Q hc aF hd bz h1 _;obtain⟨i,d,q1,q2,rfl,q4⟩:=Ty.out ht;have dw:=ap.ev aF hx;generalize kx:a.eval x=vx at dw;cases dw with
 |op bT=>
  have bp:=(ap.ev aF hy).parts hp;obtain⟨⟨cs,p1,p2,p4⟩,p3⟩:=hc.obj id _ hk;obtain⟨g1,g2⟩:=hc.jk hk rfl;refine⟨bz,?_⟩;unfold execOp;rw[ho];simp only[kx];refine az ?_;unfold Yf Vb;refine az (aq ?_);unfold storeVar;refine j4 q1 ?_;rw[if_neg (by rw[bp.1,iU];simp)];refine AT _ 0 V cs g1 g2 p1 (λo _ _=>p3 o (by omega)) (by have:=bp.1;have:=p2.1;simp;omega) (BV bp nD) ?_;rw[UE];exact aq (h1 E _ (a.put o.dst undef) _ ⟨Env.Le.refl E,dX _ _ _,put_defers _ _ _,rfl,rfl⟩ (by rw[fi];exact hc.DN hk p1 (Pz p2 bp hl) λo ho=>acS _ _ _ _ (by omega))
   (cj.gX (s:=⟨s.T,s.H.set id (.part p (iG l off lp) el)⟩) aF hd (.val undef)) hn)
theorem acR{t:TypeId}{x y:Th}{id off n p:Nat}{l lp:List AV}{el:TypeId}{g:Bool}{av:AV}(ho:o.op=.store t x y)(ht:Ty P t=some (n,g))(hx:s.ev x=some (.op id off))(hk:s.H[id]?=some (.own p l el))(hy:s.ev y=some av)(hp:av.parts=some lp)(iU:lp.length=n)(hl:off+lp.length<=l.length)
  (nD:∀a∈lp,a.leaf=true) (hn:next ((⟨s.T,s.H.set id (.own p (iG l off lp) el)⟩:AS).put o.dst (.val undef))):Step lv P r o s next bad:=by
 intro E V a N Q hc aF hd bz h1 _;obtain⟨i,d,q1,q2,rfl,q4⟩:=Ty.out ht;have dw:=ap.ev aF hx;generalize kx:a.eval x=vx at dw;cases dw with
 |op bT=>
  have bp:=(ap.ev aF hy).parts hp;obtain⟨⟨cs,p1,p2,p4⟩,p3⟩:=hc.obj id _ hk;obtain⟨g1,g2⟩:=hc.jk hk rfl;refine⟨bz,?_⟩;unfold execOp;rw[ho];simp only[kx];refine az ?_;unfold Yf Vb;refine az (aq ?_);unfold storeVar;refine j4 q1 ?_;rw[if_neg (by rw[bp.1,iU];simp)];refine AT _ 0 V cs g1 g2 p1 (λo _ _=>p3 o) (by have:=bp.1;have:=p2.1;simp;omega) (BV bp nD) ?_;rw[UE];exact aq (h1 E _ (a.put o.dst undef) _ ⟨Env.Le.refl E,dX _ _ _,put_defers _ _ _,rfl,rfl⟩ (by rw[fi];exact hc.acr hk (Pz p2 bp hl) (by rw[yG];exact p4))
   (cj.gX (s:=⟨s.T,s.H.set id (.own p (iG l off lp) el)⟩) aF hd (.val undef)) hn)
theorem Conc.ky{E:Env}{V:View}{H:List aa}(hc:Conc E V H){r:Nat}(hf:V.fresh r)(cs:Array SP):E.Le {E with I:=(V.ky r cs).ab}/\Conc {E with I:=(V.ky r cs).ab} (V.ky r cs) H:=by
 have hle:E.Le {E with I:=(V.ky r cs).ab}:=⟨λb o v h=>by
  rw[hc.I]at h;have hb:b≠r:=λhb=>by subst hb;rw[hf.2 o]at h;cases h
  simpa[View.ky,hb]using h,SQ _,λ_ _=>rfl,λ_ _=>SQ _,λ_ _ _ _=>rfl,rfl,rfl⟩
 have hlt:∀(k:Nat) y,H[k]?=some y->k<E.n:=λk y h=>by rw[hc.n];exact(SL.1 h).1
 refine⟨hle,rfl,hc.n,λk x h=>(hc.obj k x h).mono hle (hlt k x h) rfl (λb y _ hb=>hb) (λb hb o=> ?_),hc.inj,λg hg=> ?_,λg hg=> ?_,hc.top,λb y hg=> ?_⟩
 ·obtain⟨y,hy⟩:=(hc.obj k x h).BL hb;have aH:b≠r:=λe=>by subst e;rw[hf.1]at hy;cases hy
  simp[View.ky,aH]
 ·obtain⟨h0,h1,h2⟩:=hc.group g hg;have aH:g≠r:=λe=>by subst e;exact h0 hf.1
  exact⟨h0,λo=>by simp[View.ky,aH,h1 o],h2⟩
 ·obtain⟨h0,h1,h2⟩:=hc.chan g hg;have aH:g≠r:=λe=>by subst e;exact h0 hf.1
  exact⟨h0,λo=>by simp[View.ky,aH,h1 o],h2⟩
 ·obtain⟨h0,h1,h2⟩:=hc.fr b y hg;have aH:b≠r:=λe=>by subst e;rw[hf.1]at h0;cases h0
  exact⟨h0,λo=>by simp[View.ky,aH,h1 o],h2⟩
theorem ap.aoz{E:Env}{V:View}{H:List aa}(hc:Conc E V H){r:Nat}(hf:V.fresh r){cs:Array SP}{l:List AV}(h:cJ E l cs){n cap:Nat}(dO:n<=cap){e:End}(he:pM {E with I:=(V.ky r cs).ab} e (some ⟨r,0,none⟩) n cap):ap {E with I:=(V.ky r cs).ab} (.sl n l e) (.slice (some ⟨r,0,none⟩) n cap):=by
 refine .sl r 0 cap (λi=>cs.getD i undef) dO he (λi hi=> ?_) λi x hx=>(h.2 i x hx).mono (hc.ky hf cs).1;have hlt:i<cs.size:=by rw[h.1];exact hi
 simp[View.ky,SH,SJ hlt]
def og (place:Nat->Option (Nat×Nat))(cells:List AV):List (Nat×AV)->Option (List AV)
 |[]=>some cells
 |(i,a)::rest=>match place i,a.parts with
  |some (off,size),some lp=>if lp.length≠size\/off+lp.length>cells.length then none else og place (iG cells off lp) rest
  |_,_=>none
theorem Qt:∀(vs:List SP)(k off:Nat)(cs:Array SP),(vs.zipIdx k).foldl (λ(cs:Array SP) (x:SP×Nat)=>cs.setIfInBounds (off+x.2) x.1) cs=storeAt cs (off+k) vs
 |[],_,_,_=>rfl
 |v::vs,k,off,cs=>by
  rw[List.zipIdx_cons,UZ,Qt vs (k+1) off];rfl
theorem BY{E:Env}{place:Nat->Option (Nat×Nat)}:∀{parts:List (Nat×AV)}{vs:List (Nat×SP)}{l l':List AV}{cs:Array SP},cJ E l cs->parts.length=vs.length->(∀(j:Nat) p q,parts[j]?=some p->vs[j]?=some q->p.1=q.1/\ap E p.2 q.2)->
  og place l parts=some l'->∃eP,Z7 place cs vs=some eP/\cJ E l' eP
 |[],[],l,l',cs,h,_,_,e=>by cases e;exact⟨cs,rfl,h⟩
 |[],_::_,_,_,_,_,h,_,_=>by simp at h
 |_::_,[],_,_,_,_,h,_,_=>by simp at h
 |(i,a)::parts,(i',v)::vs,l,l',cs,h,hl,hp,e=>by
  obtain⟨e1,hd⟩:=hp 0 (i,a) (i',v) rfl rfl;have e1':i=i':=e1;subst e1';simp only[og]at e;split at e
  ·rename_i off size lp dG Lb;split at e
   ·cases e
   ·rename_i hc;have bp:=ap.parts (v:=v) hd Lb;have aV:v.cells.size=lp.length:=bp.1;have hle:off+lp.length<=l.length:=(by omega);obtain⟨eP,h1,h2⟩:=BY (IS h bp hle) (by simpa using hl) (λj p q x y=>hp (j+1) p q (by simpa using x) (by simpa using y)) e;refine⟨eP,?_,h2⟩;unfold Z7;rw[dG];simp only;rw[if_neg (by rw[aV,h.1];simp;omega)];have:=Qt v.cells.toList 0 off cs;rw[UE]at this;rw[<- h1,<- this];congr 1;rw[<- Array.toList_zipIdx,Array.foldl_toList]
  ·cases e
def j_ (s:AS):List (Nat×Th)->Option (List (Nat×AV))
 |[]=>some []
 |(i,x)::l=>match s.ev x,j_ s l with
  |some a,some aE=>some ((i,a)::aE)
  |_,_=>none
theorem EX{E:Env}{s:AS}{a:Act}(k:cj E s.T a.tmps):∀{l:List (Nat×Th)}{aE:List (Nat×AV)},j_ s l=some aE->aE.length=(l.map λ(i,x)=>(i,a.eval x)).length/\∀(j:Nat) p q,aE[j]?=some p->(l.map λ(i,x)=>(i,a.eval x))[j]?=some q->p.1=q.1/\ap E p.2 q.2
 |[],aE,h=>by cases h;exact⟨rfl,by simp⟩
 |(i,x)::l,aE,h=>by
  simp only[j_]at h;split at h
  ·rename_i av ma h1 h2;cases h;obtain⟨mP,lx⟩:=EX k h2;refine⟨by simpa using mP,λj p q e1 e2=> ?_⟩;cases j with
   |zero=>simp at e1 e2;subst e1 e2;exact⟨rfl,ap.ev k h1⟩
   |succ j=>exact lx j p q (by simpa using e1) (by simpa using e2)
  ·cases h
def qX (P:SI)(t:TypeId):Option (TypeId×Nat×SP):=match P.underlying t with
 |some (.slice e)=>(P.info? e).bind λi=>i.zero.map λz=>(e,i.size,z)
 |_=>none
def gM (z:SP)(m:Nat):List AV:=(SZ m).map λi=>AV.pG (z.cells[i % z.cells.size]!)
inductive iz where
 |fields (l:List (Nat×Nat))
 |elems (sz:Nat)
def iz.at:iz->Nat->Option (Nat×Nat)
 |.fields l,i=>l[i]?
 |.elems sz,i=>some (i* sz,sz)
def oO (P:SI)(t:TypeId):Option (iz×SP):=(eN P t).bind λz=>match P.underlying t with
 |some (.struct fs)=>(fs.toList.mapM λf=>(P.info? f.type).map λi=>(f.offset,i.size)).map λl=>(.fields l,z)
 |some (.array _ e)=>(P.info? e).map λi=>(.elems i.size,z)
 |_=>none
theorem acj{P:SI}{V:View}{Kp:SP->View->Prop}:∀(fs:List YS)(l:List (Nat×Nat)){K:List (Nat×Nat)->View->Prop},fs.mapM (λf=>(P.info? f.type).map λi=>(f.offset,i.size))=some l->
  K l V->aO P V (fs.mapM λf=>(do pure (f.offset,<- sizeOf f.type):Sem (Nat×Nat))) K Kp
 |[],l,K,h,hk=>by
  simp at h;subst h;rw[UD];exact aq hk
 |f::fs,l,K,h,hk=>by
  simp only[T_,Uj,TP,Te,Tj]at h;obtain⟨b,h1,bs,h2,rfl⟩:=h;obtain⟨i,hi,rfl⟩:=kY h1;rw[T_];exact az (j4 hi (aq (az (acj fs bs h2 (aq hk)))))
theorem aoK{t:TypeId}{parts:Array (Nat×Th)}{pl:iz}{z:SP}{aE:List (Nat×AV)}{l:List AV}(ho:o.op=.build t parts)(ht:oO P t=some (pl,z))(hp:j_ s parts.toList=some aE)
  (hl:og pl.at (l7 z) aE=some l):dB lv P r o s (.agg l):=
 iX (λE V a hc aF=>by
  unfold oO at ht;obtain⟨z',hz,ht⟩:=Te.1 ht;obtain⟨hlen,bp⟩:=EX aF hp;unfold execOp;rw[ho];dsimp only;refine az ?_;unfold Instr.build;refine Hj hz ?_;split at ht
  ·rename_i fs hu;obtain⟨lp,h1,h2⟩:=kY ht;cases h2;obtain⟨eP,nB,uD⟩:=BY (IU E z) hlen bp hl;refine ec hu ?_;dsimp only;have e:fs=fs.toList.toArray:=(by simp);rw[e,XW];refine az ?_;refine az (acj fs.toList lp h1 ?_);refine aq ?_;rw[VK];have e2:(λx=>lp.toArray[x]?)=iz.at (.fields lp):=(by funext x;simp[iz.at]);rw[e2,nB];exact aq (aq ⟨rfl,_,rfl,.agg uD.1 uD.2⟩)
  ·rename_i n e hu;obtain⟨i,h1,h2⟩:=kY ht;cases h2;obtain⟨eP,nB,uD⟩:=BY (IU E z) hlen bp hl;refine ec hu ?_;dsimp only;refine j4 h1 ?_;rw[VK];have e2:(λj=>some (j* i.size,i.size))=iz.at (.elems i.size):=rfl;rw[e2,nB];exact aq (aq ⟨rfl,_,rfl,.agg uD.1 uD.2⟩)
  ·cases ht)
theorem IT{E:Env}(z:SP)(m:Nat):cJ E (gM z m) ((WK m).map (λx=>z.cells[x % z.cells.size]!)):=by
 refine⟨by simp[gM],λj x hx=> ?_⟩;unfold gM at hx;rw[To]at hx;obtain⟨k,hk,rfl⟩:=Tq.1 hx;have hj:j<m:=by have:=(SL.1 hk).1;simpa using this
 have hmj:k=j:=by rw[Xx hj]at hk;cases hk;rfl
 subst hmj;simp only[SH,WF,Array.getElem?_range,hj,if_true,UP,S7];exact IP E _
theorem aoL{t e:TypeId}{len sz:Nat}{z:SP}{parts:Array (Nat×Th)}{aE:List (Nat×AV)}{l:List AV}(ho:o.op=.buildSlice t len parts)(ht:qX P t=some (e,sz,z))(aV:len* sz<=2^24)(hp:j_ s parts.toList=some aE)
  (hl:og (iz.at (.elems sz)) (gM z (len* sz)) aE=some l):dB lv P r o s (.sl len l .exact):=by
 intro E V a N Q hc aF bz h1;unfold qX at ht;split at ht
 ·rename_i e' hu;obtain⟨i,hi,ht⟩:=Te.1 ht;obtain⟨z',hz,ht⟩:=Tq.1 ht;cases ht;refine⟨bz,?_⟩;unfold execOp;rw[ho];dsimp only;refine az ?_;unfold Instr.buildSlice;refine ec hu ?_;dsimp only;refine j4 hi ?_;rw[if_neg (by omega)];obtain⟨hlen,bp⟩:=EX aF hp;obtain⟨eP,nB,uD⟩:=BY (IT (E:=E) z (len* i.size)) hlen bp hl;have fin:∀(rr:Nat),V.fresh rr->aO P (V.upd rr (.cells eP e)) (pure (W3 (.slice (some ⟨rr,0,none⟩) len len))) (mG lv P r o a N Q) (λv V'=>Q (.panic [{v,recovered:=false}]) a V'):=λrr hf=>
   aO.ghost (ajp hf (hc.aje hf.1).1) (aq (h1 _ _ _ (hc.ky hf eP).1 rfl rfl (hc.ky hf eP).2 (ap.aoz hc hf uD (SQ _) rfl)))
  have e2:(λj=>some (j* i.size,i.size))=iz.at (.elems i.size):=rfl;rw[e2];by_cases h0:len* i.size=0
  ·rw[if_pos h0];refine az (aq ?_);rw[h0]at nB⊢;rw[show WK 0=#[]from rfl]at nB⊢;simp only[List.map_toArray,List.map_nil,VK]at nB⊢;rw[nB];unfold newRow;exact az (az (az (oJ λrr hf=>cI (aq (aq (aq (fin rr hf)))))))
  ·rw[if_neg h0];refine az (az ?_);unfold typeInfo;refine az (qG (cI ?_));rw[hi];refine aq ?_;rw[hz];refine aq (az (aq ?_));rw[VK,nB];unfold newRow;exact az (az (az (oJ λrr hf=>cI (aq (aq (aq (fin rr hf)))))))
 ·cases ht
end
open Go.Conc
def aa9 (P:SI)(t:TypeId):Bool:=match P.underlying t with
 |some (.int _)=>false
 |some _=>true
 |none=>false
def jR (P:SI)(t t':TypeId):Option (TypeId×Nat×SP):=match P.underlying t with
 |some (.slice e)=>(P.info? e).bind λi=>i.zero.bind λz=>if z.cells.size=i.size/\i.bytes<=2^16/\i.bytes≠0/\aa9 P t'=true then some (e,i.size,z)else none
 |_=>none
theorem jR.out{P:SI}{t t' e:TypeId}{sz:Nat}{z:SP}(h:jR P t t'=some (e,sz,z)):∃i d,P.underlying t=some (.slice e)/\P.info? e=some i/\i.zero=some z/\i.size=sz/\z.cells.size=sz/\i.bytes<=2^16/\i.bytes≠0/\P.underlying t'=some d/\(∀k,d≠ .int k):=by
 unfold jR at h;split at h
 ·rename_i e' hu;obtain⟨i,h1,h⟩:=Te.1 h;obtain⟨z',h2,h⟩:=Te.1 h;split at h
  ·rename_i hc;obtain⟨c1,c2,c3,c4⟩:=hc;cases h;unfold aa9 at c4;split at c4
   ·cases c4
   ·rename_i d hd aH;exact⟨i,d,hu,h1,h2,rfl,c1,c2,c3,aH,λk e=>hd k e⟩
   ·cases c4
  ·cases h
 ·cases h
def AS.src (s:AS)(sz:Nat):AV->Option (Nat×List AV)
 |.sl m l _=>some (m,l.take (m* sz))
 |.bw id off m _=>match s.H[id]?with
  |some (.cells l _)|some (.part _ l _)|some (.own _ l _)=>some (m,(l.drop off).take (m* sz))
  |_=>none
 |_=>none
section
variable {P:SI}{E:Env}{V:View}{s:AS}{K:Array SP->View->Prop}{Kp:SP->View->Prop}
theorem ET{l:List AV}{f:Nat->SP}{n:Nat}(hn:n<=l.length)(h:∀(i:Nat) x,l[i]?=some x->ap E x (f i)):cJ E (l.take n) ((SZ n).map f).toArray:=by
 have:=IR hn h;cases this with
 |agg h1 h2=>exact⟨h1,h2⟩
theorem DK(hc:Conc E V s.H){av:AV}{v:SP}(hd:ap E av v){sz m k:Nat}{l:List AV}(h:s.src sz av=some (m,l))(hl:l.length=m* sz)(hk:k<=m)(hK:∀cs,cJ E (l.take (k* sz)) cs->K cs V):aO P V (Vw sz k v) K Kp:=by
 have hks:k* sz<=m* sz:=Ug _ hk;cases hd with
 |sl b o cap f dO he h1 h2=>
  cases h;rename_i l _;simp only[Ud]at hl;have e:(l.take (m* sz)).take (k* sz)=l.take (k* sz):=by rw[U3];congr 1;omega
  rw[e]at hK;unfold Vw;exact AP (f:=f) (λhp=>(hc.aao (h1 0 (by omega))).1) (λj hj=>by unfold View.get;rw[<- hc.I,h1 j (by omega)]) (hK _ (ET (by omega) h2))
 |nil he=>
  cases h;have:k=0:=by omega
  subst this;have hK:=hK #[] ⟨by simp,by simp⟩;unfold Vw;split
  ·rw[Z0];exact aq hK
  ·exact aq hK
  ·rename_i h;cases h
  ·rename_i a _ _ h1 h2 _;cases a with
   |none=>exact(h2 _ _ rfl).elim
   |some x=>exact(h1 _ _ _ rfl).elim
 |bw hi dO=>
  rename_i id off m' cap cap';simp only[AS.src]at h;cases hq:s.H[id]?with
  |none=>rw[hq]at h;cases h
  |some ob=>
   rw[hq]at h;cases ob with
   |cells l' el=>
    cases h;obtain⟨⟨cs,ho,hs,bp⟩,lM⟩:=hc.obj id _ hq;simp only[Ud,Un]at hl;have e:((l'.drop off).take (m* sz)).take (k* sz)=(l'.drop off).take (k* sz):=(by rw[U3];congr 1;omega);rw[e]at hK;unfold Vw;refine AP (f:=λi=>cs.getD (off+i) undef) (λ_=>(hc.jk hq rfl).1) (λj hj=> ?_) (hK _ (ET (by simp only[Un];omega) λi x hx=> ?_))
    ·unfold View.get;rw[lM,ho];have hlt:off+j<cs.size:=(by omega);simp only[SH,SJ hlt,S7]
    ·rw[Uo]at hx;exact bp _ _ hx
   |part p l' el=>
    cases h;obtain⟨⟨cs,ho,⟨hs,bp⟩,nI⟩,lM⟩:=hc.obj id _ hq;simp only[Ud,Un]at hl;have e:((l'.drop off).take (m* sz)).take (k* sz)=(l'.drop off).take (k* sz):=(by rw[U3];congr 1;omega);rw[e]at hK;unfold Vw;refine AP (f:=λi=>cs.getD (off+i) undef) (λ_=>(hc.jk hq rfl).1) (λj hj=> ?_) (hK _ (ET (by simp only[Un];omega) λi x hx=> ?_))
    ·have hlt:off+j<cs.size:=(by omega);unfold View.get;by_cases hp:off+j<p
     ·rw[nI _ hp];simp only[SH,SJ hlt,S7]
     ·rw[lM _ (by omega),ho];simp only[SH,SJ hlt,S7]
    ·rw[Uo]at hx;exact bp _ _ hx
   |own ez l' el=>
    cases h;obtain⟨⟨cs,ho,⟨hs,bp⟩,_⟩,lM⟩:=hc.obj id _ hq;simp only[Ud,Un]at hl;have e:((l'.drop off).take (m* sz)).take (k* sz)=(l'.drop off).take (k* sz):=(by rw[U3];congr 1;omega);rw[e]at hK;unfold Vw;refine AP (f:=λi=>cs.getD (off+i) undef) (λ_=>(hc.jk hq rfl).1) (λj hj=> ?_) (hK _ (ET (by simp only[Un];omega) λi x hx=> ?_))
    ·have hlt:off+j<cs.size:=(by omega);unfold View.get;rw[lM,ho];simp only[SH,SJ hlt,S7]
    ·rw[Uo]at hx;exact bp _ _ hx
   |_=>cases h
 |_=>cases h
theorem Hm{av:AV}{v:SP}(hd:ap E av v){sz m:Nat}{l:List AV}(h:s.src sz av=some (m,l)):auf v=pure m:=by
 cases hd with
 |sl=>cases h;rfl
 |nil=>cases h;rfl
 |bw=>
  simp only[AS.src]at h;split at h
  ·cases h;rfl
  ·cases h;rfl
  ·cases h;rfl
  ·cases h
 |_=>cases h
end
theorem QJ(vn:Nat):∀(r c:Nat),c<=2* vn+200->Zm vn r c<=2* vn+200
 |0,c,h=>h
 |r+1,c,h=>by
  unfold Zm;split
  ·exact h
  ·exact QJ vn r _ (by omega)
theorem anv(vn cap:Nat)(h:cap<vn):W1 vn cap<=2* vn+200:=by
 unfold W1;split
 ·omega
 ·split
  ·omega
  ·exact QJ vn 4 cap (by omega)
theorem BU{E:Env}{l m:List AV}{x y:Array SP}(h:cJ E l x)(k:cJ E m y):cJ E (l++m) (x++y):=by
 refine⟨by simp[h.1,k.1],λi a e=> ?_⟩;by_cases hi:i<l.length
 ·rw[SW hi]at e;have:=h.2 i a e;rw[SH,X7 (by rw[h.1];exact hi)];rwa [SH]at this
 ·rw[S9 (by omega)]at e;have:=k.2 _ a e;rw[SH,X2 (by rw[h.1];omega),h.1];rwa [SH]at this
theorem Nr{P:SI}{V:View}{α:Type}{K:α->View->Prop}{Kp:SP->View->Prop}{b:Bool}{k:Bool->Sem α}(hb:b=false)(h:aO P V (k false) K Kp):aO P V (pure b>>=k) K Kp:=by
 subst hb;exact az (aq h)
section
variable {P:SI}{E:Env}{V:View}{s:AS}{K:SP->View->Prop}{Kp:SP->View->Prop}
theorem acf{n:Nat}{K:Unit->View->Prop}(h:K () V):aO P V (askRoom n) K Kp:=by
 unfold askRoom;split
 ·exact aqd (cI h)
 ·exact aq h
theorem ace(hc:Conc E V s.H){t t' e:TypeId}{sz n m cap:Nat}{z:SP}{base:Option U5}{av:AV}{v:SP}{ax:AV}{l l':List AV}{ty:TypeId}(ht:jR P t t'=some (e,sz,z))(hd:ap E ax (.slice base n cap))(db:s.src sz ax=some (n,l))(cz:ap E av v)(hs:s.src sz av=some (m,l'))
  (hl:l.length=n* sz) (eJ:l'.length=m* sz) (hb:n+m<=2^30) (KC:cap<n+m)
  (hK:∀r cs cap',V.fresh r->cJ E (l++l') (cs.extract 0 ((n+m)* sz))->n+m<=cap'->cs.size=cap'* sz->K (.slice (some ⟨r,0,none⟩) (n+m) cap') (V.upd r (.cells cs e))):aO P V (VB #[t,t'] ty #[.slice base n cap,v]) K Kp:=by
 obtain⟨i,d,h1,h2,h3,h4,h5,h6,h7,h8,h9⟩:=jR.out ht;unfold VB;simp only[Vg,Vr,UL];refine ec h1 ?_;dsimp only;refine j4 h2 ?_;rw[h4];refine ec h8 ?_;refine Nr (by cases d<;>first|rfl|exact absurd rfl (h9 _)) ?_;simp only[TN,if_false,YC,if_true];rw[Hm cz hs];refine az (aq ?_);rw[if_neg (by omega)];refine yE h2 ?_;rw[if_neg (by intro hx;exact hx.2.elim (λx=>x.elim) h7)];refine yE h2 ?_;have dO:=anv (n+m) cap KC;have hmul:W1 (n+m) cap* i.bytes<=(2* 2^30+200)* 2^16:=ZK (by omega) h6;rw[if_neg (by omega)];refine az (ach (λhf=>by cases hf) (λ_ t=>cI ?_));generalize jf:Zr (.appendCap (n+m) cap e) t=cap';have FC:n+m<=cap':=by rw[<- jf];exact Nat.le_add_right _ _
 refine yE h2 (az (acf (az ?_)));refine DK hc hd db hl (SQ _) λzk Kg=> ?_;refine az (DK hc cz hs eJ (SQ _) λjx ld=> ?_);refine Hj (z:=z) (by unfold eN;rw[h2];exact h3) ?_;rw[<- hl,TG]at Kg;rw[<- eJ,TG]at ld;unfold newRow;refine az (az (oJ λr hf=>cI (aq (aq ?_))));have alv:zk.size=n* sz:=by rw[Kg.1,hl]
 have Aj:jx.size=m* sz:=by rw[ld.1,eJ]
 have aV:(zk++jx).size=(n+m)* sz:=by rw[XA,alv,Aj,Ve]
 refine hK r _ cap' hf ?_ FC ?_
 ·have e1:(zk++jx++Xi z.cells (cap'-(n+m))).extract 0 ((n+m)* sz)=zk++jx:=by
   rw[<- aV];generalize zk++jx=q;apply VF;simp[Array.toList_extract,List.extract_eq_take_drop]
  rw[e1];exact BU Kg ld
 ·rw[XA,aV];have:(Xi z.cells (cap'-(n+m))).size=(cap'-(n+m))* sz:=by simp[Xi,h5]
  rw[this,<- Ve];congr 1;omega
theorem Hh(hc:Conc E V s.H){t t' e:TypeId}{sz n m cap:Nat}{z:SP}{base:Option U5}{av:AV}{v:SP}{en:End}{l l':List AV}{ty:TypeId}(ht:jR P t t'=some (e,sz,z))(hd:ap E (.sl n l en) (.slice base n cap))(cz:ap E av v)(hs:s.src sz av=some (m,l'))
  (hl:l.length=n* sz) (eJ:l'.length=m* sz) (hb:n+m<=2^30) (KC:cap<n+m)
  (hK:∀r cs cap',V.fresh r->cJ E (l++l') (cs.extract 0 ((n+m)* sz))->n+m<=cap'->cs.size=cap'* sz->K (.slice (some ⟨r,0,none⟩) (n+m) cap') (V.upd r (.cells cs e))):aO P V (VB #[t,t'] ty #[.slice base n cap,v]) K Kp:=
 ace hc ht hd (by simp only[AS.src];rw[<- hl,TG]) cz hs hl eJ hb KC hK
theorem Hi(hc:Conc E V s.H){t t' e:TypeId}{sz n cap:Nat}{z:SP}{base:Option U5}{av:AV}{v:SP}{l':List AV}{ty:TypeId}(ht:jR P t t'=some (e,sz,z))(cz:ap E av v)(hs:s.src sz av=some (0,l'))
  (eJ:l'.length=0* sz) (hle:n<=cap) (hK:K (.slice base n cap) V):aO P V (VB #[t,t'] ty #[.slice base n cap,v]) K Kp:=by
 obtain⟨i,d,h1,h2,h3,h4,h5,h6,h7,h8,h9⟩:=jR.out ht;unfold VB;simp only[Vg,Vr,UL];refine ec h1 ?_;dsimp only;refine j4 h2 ?_;rw[h4];refine ec h8 ?_;refine Nr (by cases d<;>first|rfl|exact absurd rfl (h9 _)) ?_;simp only[TN,if_false,YC,if_true];rw[Hm cz hs];refine az (aq ?_);rw[if_pos (by omega)];refine az (DK hc cz hs eJ (SQ _) λjx ld=> ?_);have Aj:jx=#[]:=by
  have:=ld.1;apply Array.eq_empty_of_size_eq_zero;rw[this];simp
 subst Aj;rw[UE];cases base with
 |none=>exact aq hK
 |some a=>
  dsimp only;unfold storeCells;exact az (aq (aq hK))
theorem acd(hc:Conc E V s.H){t t' e:TypeId}{sz n m cap:Nat}{z:SP}{b:Nat}{av:AV}{v:SP}{l':List AV}{ty:TypeId}{cs:Array SP}{el:TypeId}(ht:jR P t t'=some (e,sz,z))(cz:ap E av v)(hs:s.src sz av=some (m,l'))
  (eJ:l'.length=m* sz) (hle:n+m<=cap) (ho:V.own b=some (.cells cs el (0,0))) (aV:cap* sz<=cs.size) (hi:∀o,n* sz<=o->V.ab b o=none) (hg:V.role.group≠some b/\V.role.chan≠some b) (nD:∀a∈l',a.leaf=true)
  (hK:∀jx,cJ E l' jx->K (.slice (some ⟨b,0,none⟩) (n+m) cap) (V.upd b (.cells (storeAt cs (n* sz) jx.toList) el (0,0)))):aO P V (VB #[t,t'] ty #[.slice (some ⟨b,0,none⟩) n cap,v]) K Kp:=by
 obtain⟨i,d,h1,h2,h3,h4,h5,h6,h7,h8,h9⟩:=jR.out ht;unfold VB;simp only[Vg,Vr,UL];refine ec h1 ?_;dsimp only;refine j4 h2 ?_;rw[h4];refine ec h8 ?_;refine Nr (by cases d<;>first|rfl|exact absurd rfl (h9 _)) ?_;simp only[TN,if_false,YC,if_true];rw[Hm cz hs];refine az (aq ?_);rw[if_pos (by omega)];refine az (DK hc cz hs eJ (SQ _) λjx ld=> ?_);rw[<- eJ,TG]at ld;rw[add_plain];have uP:(n+m)* sz<=cap* sz:=Ug _ hle;rw[Ve]at uP;refine az (AT _ 0 V cs hg.1 hg.2 ho (λo h _=>hi o (by omega)) (by have:=ld.1;simp;omega) (BV ld nD) ?_);rw[Ws,UE];exact aq (hK jx ld)
end
def Env.tok (E:Env)(I:cw)(rm:Option U5×Nat)(v:Nat):Env:={E with I:=I,n:=E.n+1,room:=λk u=>if k=E.n/\u=v then rm else E.room k u,fA:=λk=>if k=E.n then v else E.fA k}
theorem Env.Mo(E:Env){I:cw}(hI:∀b o v,E.I b o=some v->I b o=some v)(rm:Option U5×Nat)(v:Nat):E.Le (E.tok I rm v):=
 ⟨hI,YX _,λk hk=>rfl,λk hk=>by simp[Env.tok,Wa hk],λk u hk _=>by simp[Env.tok,Wa hk],rfl,rfl⟩
def Env.grow (E:Env)(I:cw)(k:Nat)(rm:Option U5×Nat)(v:Nat):Env:={E with I:=I,room:=λj u=>if j=k/\u=v then rm else E.room j u,fA:=λj=>if j=k then v else E.fA j}
theorem Env.aaG(E:Env){I:cw}(hI:∀b o v,E.I b o=some v->I b o=some v){k:Nat}(rm:Option U5×Nat){v:Nat}(hv:E.fA k<v):E.Le (E.grow I k rm v):=
 ⟨hI,SQ _,λ_ _=>rfl,λj _=>by
  simp only[Env.grow];split
  ·rename_i e;subst e;omega
  ·exact SQ _,λj u _ hu=>by
  simp only[Env.grow];split
  ·rename_i e;obtain⟨rfl,rfl⟩:=e;omega
  ·rfl,rfl,rfl⟩
open Go.Conc
abbrev View.laid (V:View)(b:Nat)(cs:Array SP)(el:TypeId)(p:Nat->Bool):View:=(V.upd b (.cells cs el (0,0))).eM b cs p
theorem Mk{V:View}{b b':Nat}{cs:Array SP}{el:TypeId}{p:Nat->Bool}(h:b'≠b):(V.laid b cs el p).own b'=V.own b':=by simp[View.laid,View.eM,View.upd,h]
theorem Mj{V:View}{b b':Nat}{cs:Array SP}{el:TypeId}{p:Nat->Bool}(h:b'≠b)(o:Nat):(V.laid b cs el p).ab b' o=V.ab b' o:=by simp[View.laid,View.eM,View.upd,h]
theorem Gu{V:View}{b:Nat}{cs:Array SP}{el:TypeId}{p:Nat->Bool}(hp:∀o,p o=true->V.ab b o=none):∀b' o v,V.ab b' o=some v->(V.laid b cs el p).ab b' o=some v:=λb' o v h=>by
 have hn:¬(b'=b/\p o=true):=λhb=>by obtain⟨rfl,h2⟩:=hb;rw[hp o h2]at h;cases h
 simp only[View.laid,View.eM,View.upd,if_neg hn];exact h
theorem Gt{V:View}{b:Nat}{cs:Array SP}{el:TypeId}{p:Nat->Bool}{o:Nat}(h:p o=true):(V.laid b cs el p).ab b o=cs[o]?:=by simp[View.laid,View.eM,h]
theorem Ml{V:View}{b:Nat}{cs:Array SP}{el:TypeId}{p:Nat->Bool}:(V.laid b cs el p).own b=some (.cells cs el (0,0)):=by simp[View.laid,View.eM,View.upd]
theorem IQ{E:Env}{I:cw}{b n cap:Nat}{cs:Array SP}{l:List AV}{e:End}{sz:Nat}(hI:E.I=I)(hd:cJ E l (cs.extract 0 (n* sz)))(hl:l.length=n* sz)(hs:n* sz<=cs.size)(hi:∀o,o<n* sz->I b o=cs[o]?)(hc:n<=cap)(he:pM E e (some ⟨b,0,none⟩) n cap):ap E (.sl n l e) (.slice (some ⟨b,0,none⟩) n cap):=by
 refine .sl b 0 cap (λi=>cs.getD i undef) hc he (λi h=> ?_) (λi x hx=> ?_)
 ·rw[hl]at h;have hlt:i<cs.size:=by omega
  rw[hI,Ws,hi i h];simp only[SH,SJ hlt,S7]
 ·have cC:i<n* sz:=by rw[<- hl];exact(SL.1 hx).1
  have:=hd.2 i x hx;have hlt:i<cs.size:=by omega
  rw[SH,SJ hlt];rw[SH]at this;rw[Array.getElem?_extract]at this;have FS:i<min (n* sz) cs.size:=by omega
  simpa[cC,hlt,FS]using this
section
variable {E:Env}{V:View}{H:List aa}
theorem Conc.NJ(hc:Conc E V H){n:Nat}(sz:Nat)(el:TypeId)(a:Option U5):Conc (E.tok V.ab (a,n) n) V (H++[.tail n sz el])/\E.Le (E.tok V.ab (a,n) n):=by
 have hle:=E.Mo (I:=V.ab) (λb o v h=>by rw[<- hc.I];exact h) (a,n) n;refine⟨hc.iJ H.length (.tail n sz el) hle rfl (by simp[Env.tok,hc.n]) Dg rfl (λj hj _=>by simp[Env.tok,hc.n,hj]) (λb y _ hy=>⟨hy,λ_=>rfl⟩) ?_ (λb h=> ?_),hle⟩
 ·rw[<- hc.n];exact⟨by simp[Env.tok],.inl (by simp[Env.tok])⟩
 ·rw[<- hc.n]at h;simp[bL,Env.tok]at h
theorem Conc.ac6(hc:Conc E V H){r n cap sz:Nat}{el:TypeId}{cs:Array SP}(hf:V.fresh r)(hs:cs.size=cap* sz)(hn:n<=cap):
  Conc (E.tok (V.laid r cs el (·<n* sz)).ab (some ⟨r,0,none⟩,cap) n) (V.laid r cs el (·<n* sz)) (H++[.tail n sz el])/\E.Le (E.tok (V.laid r cs el (·<n* sz)).ab (some ⟨r,0,none⟩,cap) n):=by
 have hle:=E.Mo (I:=(V.laid r cs el (·<n* sz)).ab) (λb o v h=>Gu (λo _=>hf.2 o) b o v (by rw[<- hc.I];exact h)) (some ⟨r,0,none⟩,cap) n;refine⟨hc.iJ H.length (.tail n sz el) hle rfl (by simp[Env.tok,hc.n]) Dg rfl (λj hj _=>by simp[Env.tok,hc.n,hj]) (λb y _ hy=> ?_) ?_ (λb h=> .inr ?_),hle⟩
 ·have hb:b≠r:=λe=>by subst e;rw[hf.1]at hy;cases hy
  exact⟨by rw[Mk hb];exact hy,λo=>Mj hb o⟩
 ·rw[<- hc.n];refine⟨by simp[Env.tok],?_⟩;by_cases e:cap=n
  ·exact .inl (by simp[Env.tok,e])
  ·refine .inr ⟨r,cap,cs,by simp[Env.tok],Ml,hs,by omega,λo ho=> ?_⟩;have:¬(decide (o<n* sz)=true):=(by simpa using ho);simp only[View.laid,View.eM];rw[if_neg (λx=>this x.2)];exact hf.2 o
 ·rw[<- hc.n]at h;simp[bL,Env.tok]at h;obtain⟨_,rfl⟩:=h;exact hf.1
theorem Conc.ajt(hc:Conc E V H){k r n n' cap sz:Nat}{el gR:TypeId}{cs:Array SP}(hk:H[k]?=some (.tail n sz gR))(hf:V.fresh r)(hs:cs.size=cap* sz)(hn:n'<=cap)(hlt:n<n'):
  Conc (E.grow (V.laid r cs el (·<n'* sz)).ab k (some ⟨r,0,none⟩,cap) n') (V.laid r cs el (·<n'* sz)) (H.set k (.tail n' sz el))/\E.Le (E.grow (V.laid r cs el (·<n'* sz)).ab k (some ⟨r,0,none⟩,cap) n'):=by
 have An:E.fA k=n:=(hc.obj k _ hk).1;have hle:=E.aaG (I:=(V.laid r cs el (·<n'* sz)).ab) (λb o v h=>Gu (λo _=>hf.2 o) b o v (by rw[<- hc.I];exact h)) (k:=k) (some ⟨r,0,none⟩,cap) (v:=n') (by omega);refine⟨hc.iJ k (.tail n' sz el) hle rfl (by simpa[Env.grow]using hc.n) ly rfl (λj hj _=>by simp[Env.grow,hj]) (λb y _ hy=> ?_) ?_ (λb h=> .inr ?_),hle⟩
 ·have hb:b≠r:=λe=>by subst e;rw[hf.1]at hy;cases hy
  exact⟨by rw[Mk hb];exact hy,λo=>Mj hb o⟩
 ·refine⟨by simp[Env.grow],?_⟩;by_cases e:cap=n'
  ·exact .inl (by simp[Env.grow,e])
  ·refine .inr ⟨r,cap,cs,by simp[Env.grow],Ml,hs,by omega,λo ho=> ?_⟩;have:¬(decide (o<n'* sz)=true):=(by simpa using ho);simp only[View.laid,View.eM];rw[if_neg (λx=>this x.2)];exact hf.2 o
 ·simp[bL,Env.grow]at h;obtain⟨_,rfl⟩:=h;exact hf.1
theorem Conc.aju(hc:Conc E V H){k b n n' cap sz:Nat}{el gR:TypeId}{cs eP:Array SP}(hk:H[k]?=some (.tail n sz gR))(hrm:E.room k n=(some ⟨b,0,none⟩,cap))(ho:V.own b=some (.cells cs el (0,0)))(hi:∀o,n* sz<=o->V.ab b o=none)(hs:eP.size=cap* sz)(hn:n'<=cap)(hlt:n<n'):
  Conc (E.grow (V.laid b eP el (λo=>n* sz<=o&&o<n'* sz)).ab k (some ⟨b,0,none⟩,cap) n') (V.laid b eP el (λo=>n* sz<=o&&o<n'* sz)) (H.set k (.tail n' sz el))/\E.Le (E.grow (V.laid b eP el (λo=>n* sz<=o&&o<n'* sz)).ab k (some ⟨b,0,none⟩,cap) n'):=by
 have An:E.fA k=n:=(hc.obj k _ hk).1;have hp:∀o,(λo=>decide (n* sz<=o)&&decide (o<n'* sz)) o=true->V.ab b o=none:=λo h=>hi o (by simp at h;exact h.1);have hle:=E.aaG (I:=(V.laid b eP el (λo=>n* sz<=o&&o<n'* sz)).ab) (λb o v h=>Gu hp b o v (by rw[<- hc.I];exact h)) (k:=k) (some ⟨b,0,none⟩,cap) (v:=n') (by omega);have kF:bL E k (.tail n sz gR)=some b:=by
  simp only[bL,hrm];rw[if_neg (by omega)];rfl
 refine⟨hc.iJ k (.tail n' sz el) hle rfl (by simpa[Env.grow]using hc.n) ly rfl (λj hj _=>by simp[Env.grow,hj]) (λb' y fw hy=> ?_) ?_ (λb' h=> .inl ⟨_,hk,?_⟩),hle⟩
 ·have hb:b'≠b:=λe=>by subst e;exact fw _ hk kF
  exact⟨by rw[Mk hb];exact hy,λo=>Mj hb o⟩
 ·refine⟨by simp[Env.grow],?_⟩;by_cases e:cap=n'
  ·exact .inl (by simp[Env.grow,e])
  ·have FV:n* sz<=n'* sz:=Ug _ (by omega);refine .inr ⟨b,cap,eP,by simp[Env.grow],Ml,hs,by omega,λo bf=> ?_⟩;have:¬((decide (n* sz<=o)&&decide (o<n'* sz))=true):=(by simp;omega);simp only[View.laid,View.eM];rw[if_neg (λx=>this x.2)];exact hi o (by omega)
 ·simp[bL,Env.grow]at h;obtain⟨_,rfl⟩:=h;exact kF
end
section
variable {lv:Bool}{P:SI}{r:Option Nat}{o:Tu}{s:AS}{next:AS->Prop}{bad:AV->AS->Prop}
def A9 (s:AS)(dst:Option Nat)(next:AS->Prop)(n m sz:Nat)(elem:TypeId)(l l':List AV):End->Prop
 |.exact=>next ((⟨s.T,s.H++[.tail (n+m) sz elem]⟩:AS).put dst (.sl (n+m) (l++l') (.opn s.H.length)))
 |.opn k=>(match s.H[k]?with
   |some (.tail n' ez gR)=>n'=n/\ez=sz/\gR=elem
   |_=>False)/\(∀a∈l',a.leaf=true)/\next ((⟨s.T,s.H.set k (.tail (n+m) sz elem)⟩:AS).put dst (.sl (n+m) (l++l') (.opn k)))
 |.shut=>m=0/\next (s.put dst (.sl n l .shut))
theorem agJ{E E':Env}{n:Nat}{l:List AV}{en:End}{base:Option U5}{cap:Nat}(h:ap E (.sl n l en) (.slice base n cap))(hl:E.Le E'){e':End}(he:pM E' e' base n cap):ap E' (.sl n l e') (.slice base n cap):=by
 cases h with
 |sl b o cap f hc _ h1 h2=>exact .sl b o cap f hc he (λi hi=>hl.I _ _ _ (h1 i hi)) (λi x hx=>(h2 i x hx).mono hl)
 |nil _=>exact .nil he
theorem step_append{c:Xo}{x y:Th}{t t' elem:TypeId}{sz n m:Nat}{z:SP}{en:End}{l l':List AV}{av:AV}(ho:o.op=.call c)(aY:c.callee=.builtin .append)(cN:c.args=#[x,y]) (dW:c.argTypes=#[t,t']) (ht:jR P t t'=some (elem,sz,z))
  (hx:s.ev x=some (.sl n l en)) (hy:s.ev y=some av) (hs:s.src sz av=some (m,l')) (hl:l.length=n* sz) (eJ:l'.length=m* sz) (hb:n+m<=2^30) (hn:A9 s o.dst next n m sz elem l l' en):Step lv P r o s next bad:=by
 intro E V a N Q hc aF hd bz h1 _;refine⟨bz,?_⟩;have dw:=ap.ev aF hx;have iP:=ap.ev aF hy;generalize kx:a.eval x=vx at dw;generalize rP:a.eval y=vy at iP;unfold execOp;rw[ho];dsimp only;unfold resolve;rw[aY];dsimp only;refine az (aq ?_);unfold invoke builtin;dsimp only;refine az ?_;have nE:c.args.map a.eval=#[vx,vy]:=by rw[cN];simp[kx,rP]
 rw[nE,dW];obtain⟨base,cap,rfl⟩:∃base cap,vx=.slice base n cap:=by
  cases dw with
  |sl b o cap f dO he q1 q2=>exact⟨_,_,rfl⟩
  |nil he=>exact⟨_,_,rfl⟩
 have dO:n<=cap:=by
  cases dw with
  |sl b o cap f dO he q1 q2=>exact dO
  |nil he=>exact SQ _
 have fin:∀E' V' H' (mI:AV) v',E.Le E'->V'.role=V.role->V'.deaf=V.deaf->Conc E' V' H'->ap E' mI v'->next ((⟨s.T,H'⟩:AS).put o.dst mI)->aO P V' (pure (W3 v')) (mG lv P r o a N Q) (λv V'=>Q (.panic [{v,recovered:=false}]) a V'):=λE' V' H' mI v' hle hr uE bm bp cQ=>
  aq (h1 E' V' (a.put o.dst v') ((⟨s.T,H'⟩:AS).put o.dst mI) ⟨hle,dX _ _ _,put_defers _ _ _,hr,uE⟩ (by rw[fi];exact bm) (cj.gX (s:=⟨s.T,H'⟩) (aF.mono hle) hd bp) cQ)
 have tH:(l++l').length=(n+m)* sz:=by rw[SN,hl,eJ,Ve]
 cases en with
 |exact=>
  have gT:cap=n:=by
   cases dw with
   |sl b o cap f dO he q1 q2=>exact he
   |nil he=>rfl
  subst gT;have iU:=hn;simp only[A9]at iU;by_cases hm:m=0
  ·subst hm;have tn:l'=[]:=(by simpa using eJ);subst tn;refine Hi hc ht iP hs eJ (SQ _) ?_;obtain⟨bm,hle⟩:=hc.NJ (n:=cap) sz elem base;refine fin _ V _ _ _ hle rfl rfl bm (agJ (e':=.opn s.H.length) dw hle ⟨?_,?_,?_⟩) (by simpa using iU)
   ·simp[Env.tok,hc.n]
   ·simp[Env.tok,hc.n]
   ·simp[Env.tok,hc.n]
  ·refine Hh hc ht dw iP hs hl eJ hb (by omega) λrr cs cap' hf bp hle aV=> ?_;obtain⟨bm,rG⟩:=hc.ac6 (el:=elem) hf aV hle;have uU:(cap+m)* sz<=cs.size:=(by rw[aV];exact Ug _ hle);refine aO.ghost (xz (f:=(0,0)) (cs:=cs) (el:=elem) (p:=(·<(cap+m)* sz)) (by simp[View.upd]) (λo _=>hf.2 o)) ?_;refine fin _ _ _ _ _ rG rfl rfl bm (IQ (I:=(V.laid rr cs elem (·<(cap+m)* sz)).ab) (e:=.opn s.H.length) (sz:=sz) (cs:=cs) rfl (bp.mono rG) tH uU (λo h=>Gt (by simpa using h)) hle ⟨?_,?_,?_⟩) iU
   ·simp[Env.tok,hc.n]
   ·simp[Env.tok,hc.n]
   ·simp[Env.tok,hc.n]
 |shut=>
  obtain⟨rfl,iU⟩:=hn;have tn:l'=[]:=by simpa using eJ
  subst tn;refine Hi hc ht iP hs eJ dO ?_;exact fin E V s.H _ _ (Env.Le.refl E) rfl rfl hc dw iU
 |opn k=>
  obtain⟨uL,nD,iU⟩:=hn;split at uL
  ·rename_i n' ez gR hk;obtain⟨rfl,rfl,rfl⟩:=uL;have heo:pM E (.opn k) base n' cap:=by
    cases dw with
    |sl b o cap f dO he q1 q2=>exact he
    |nil he=>exact he
   obtain⟨e1,e2,e3⟩:=heo;obtain⟨An,F5⟩:=hc.obj k _ hk;have tF:s.H.set k (.tail n' ez gR)=s.H:=by
    apply Yk;intro i;by_cases hi:i=k
    ·subst hi;rw[W7 (SL.1 hk).1,hk]
    ·rw[T6 (Ne.symm hi)]
   by_cases hm:m=0
   ·subst hm;have tn:l'=[]:=(by simpa using eJ);subst tn;refine Hi hc ht iP hs eJ dO ?_;refine fin E V s.H _ _ (Env.Le.refl E) rfl rfl hc dw ?_;rw[UE,tF,SO]at iU;exact iU
   ·by_cases qg:n'+m<=cap
    ·rcases F5 with F5|⟨b,atb,cs,r1,r2,r3,r4,r5⟩
     ·rw[e3]at F5;simp only at F5;omega
     ·rw[e3]at r1;cases r1;have kF:bL E k (.tail n' ez gR)=some b:=by
       simp only[bL,e3];rw[if_neg (by omega)];rfl
      refine acd hc ht iP hs eJ qg r2 (WI r3.symm) r5 (hc.jk hk kF) nD λjx ld=> ?_;have Aj:jx.toList.length=m* ez:=(by have:=ld.1;simp;omega);have uP:(n'+m)* ez<=cap* ez:=Ug _ qg;rw[Ve]at uP;have F7:(storeAt cs (n'* ez) jx.toList).size=cap* ez:=(by rw[yG];exact r3);obtain⟨bm,rG⟩:=hc.aju hk e3 r2 r5 F7 qg (by omega);refine aO.ghost (xz (f:=(0,0)) (cs:=storeAt cs (n'* ez) jx.toList) (el:=gR) (p:=λo=>n'* ez<=o&&o<(n'+m)* ez) (by simp[View.upd]) (λo h=>r5 o (by simp at h;exact h.1))) ?_;refine fin _ _ _ _ _ rG rfl rfl bm ?_ iU;cases dw with
      |nil he=>exact absurd qg (by omega)
      |sl b' o' cap f FC he q1 q2=>
       have q1':∀i,i<l.length->V.ab b i=some (f i):=λi hi=>(by have:=q1 i hi;rwa [hc.I,Ws]at this);refine .sl b 0 cap (λi=>if i<n'* ez then f i else(storeAt cs (n'* ez) jx.toList).getD i undef) (by omega) ⟨?_,?_,?_⟩ (λi hi=> ?_) (λi x hx=> ?_)
       ·exact e1
       ·simp[Env.grow]
       ·simp[Env.grow]
       ·rw[tH,Ve]at hi;show (V.laid b (storeAt cs (n'* ez) jx.toList) gR (λo=>n'* ez<=o&&o<(n'+m)* ez)).ab b (0+i)=_;rw[Ws];by_cases cC:i<n'* ez
        ·rw[if_pos cC];exact Gu (λo h=>r5 o (by simp at h;exact h.1)) _ _ _ (q1' i (by omega))
        ·rw[if_neg cC,Gt (by simp[Ve];omega)];have hlt:i<(storeAt cs (n'* ez) jx.toList).size:=(by rw[F7];omega);simp only[SH,SJ hlt,S7]
       ·by_cases cC:i<n'* ez
        ·rw[SW (by omega)]at hx;rw[if_pos cC];exact(q2 i x hx).mono rG
        ·rw[S9 (by omega)]at hx;have uH:i-l.length<l'.length:=(SL.1 hx).1;rw[if_neg cC,DW _ _ _ _ (by rw[Aj,r3];omega),if_pos (by rw[Aj];omega)];have:=(ld.2 _ _ hx).mono rG;rw[hl]at this;simpa[SH,SE]using this
    ·refine Hh hc ht dw iP hs hl eJ hb (by omega) λrr cs cap' hf bp hle aV=> ?_;obtain⟨bm,rG⟩:=hc.ajt (el:=gR) (n':=n'+m) hk hf aV hle (by omega);have uU:(n'+m)* ez<=cs.size:=(by rw[aV];exact Ug _ hle);refine aO.ghost (xz (f:=(0,0)) (cs:=cs) (el:=gR) (p:=(·<(n'+m)* ez)) (by simp[View.upd]) (λo _=>hf.2 o)) ?_;refine fin _ _ _ _ _ rG rfl rfl bm (IQ (I:=(V.laid rr cs gR (·<(n'+m)* ez)).ab) (e:=.opn k) (sz:=ez) (cs:=cs) rfl (bp.mono rG) tH uU (λo h=>Gt (by simpa using h)) hle ⟨?_,?_,?_⟩) iU
     ·exact e1
     ·simp[Env.grow]
     ·simp[Env.grow]
  ·exact uL.elim
def Env.ie (E:Env)(r:Nat)(I:cw)(c:Nat):Env:={E with I:=I,n:=E.n+1,blk:=λk=>if k=E.n then r else E.blk k,room:=λk u=>if k=E.n/\u=0 then(none,c)else E.room k u}
theorem Env.De(E:Env)(r c:Nat){I:cw}(hI:∀b o v,E.I b o=some v->I b o=some v):E.Le (E.ie r I c):=
 ⟨hI,YX _,λk hk=>by simp[Env.ie,Wa hk],λ_ _=>SQ _,λk u hk _=>by simp[Env.ie,Wa hk],rfl,rfl⟩
theorem Env.xc(E:Env)(r c:Nat)(I:cw):(E.ie r I c).blk E.n=r:=by simp[Env.ie]
theorem Env.Ih(E:Env)(r c:Nat)(I:cw):(E.ie r I c).room E.n 0=(none,c):=by simp[Env.ie]
theorem Conc.ie{E:Env}{V:View}{H:List aa}(hc:Conc E V H){r c:Nat}(hf:V.fresh r){cs:Array SP}{sz:Nat}{l:List AV}{el:TypeId}(hd:j6 (E.ie r V.ab c) l cs)(hs:cs.size=c* sz):Conc (E.ie r V.ab c) (V.upd r (.cells cs el)) (H++[.own sz l el]):=by
 refine hc.iJ (E':=E.ie r V.ab c) H.length (.own sz l el) (E.De r c (λb o v h=>by rw[<- hc.I];exact h)) rfl (by simp[Env.ie,hc.n]) Dg rfl (λ_ _ _=>rfl) (λb z _ hz=>⟨?_,λ_=>rfl⟩) ?_ (λb h=> .inr ?_)
 ·have:b≠r:=λe=>by rw[e,hf.1]at hz;cases hz
  simpa[View.upd,this]using hz
 ·rw[<- hc.n];refine⟨⟨cs,by rw[Env.xc];simp[View.upd],hd,by rw[Env.Ih];exact hs⟩,λo=> ?_⟩;rw[Env.xc];exact hf.2 o
 ·rw[<- hc.n]at h;simp only[bL,Env.xc,Tj]at h;subst h;exact hf.1
theorem IN{E:Env}{H:List aa}(hn:E.n=H.length){r c n:Nat}(I:cw)(h:n<=c){cap:Nat}(oC:n<=cap)(hc:cap<=c)(h0:0<n):ap (E.ie r I c) (.bw H.length 0 n 0) (.slice (some ⟨r,0,none⟩) n cap):=by
 have:=ap.bw (E:=E.ie r I c) (id:=H.length) (off:=0) (n:=n) (cap:=0) (cap':=cap) (by show _<E.n+1;rw[hn];omega) ⟨oC,λe=>by omega,λ_=>by rw[<- hn,Env.Ih];exact hc⟩;have e:(E.ie r I c).blk H.length=r:=by rw[<- hn];exact E.xc r c I
 rwa [e]at this
theorem Conc.relabel{E:Env}{V:View}{H:List aa}(hc:Conc E V H){id sz:Nat}{l:List AV}{el:TypeId}(hk:H[id]?=some (.own sz l el)):Conc (E.ie (E.blk id) V.ab (E.room id 0).2) V (H.set id .gone++[.own sz l el]):=by
 have hle:=E.De (E.blk id) (E.room id 0).2 (I:=V.ab) (λb o v h=>by rw[<- hc.I];exact h);have att:=(SL.1 hk).1;have hlt:∀(j:Nat) y,H[j]?=some y->j<E.n:=λj y h=>by rw[hc.n];exact(SL.1 h).1
 have rC:∀(j:Nat) y,(H.set id .gone++[aa.own sz l el])[j]?=some y->(j=H.length/\y=.own sz l el)\/(j=id/\y=.gone)\/(j≠id/\H[j]?=some y):=λj y h=>by
  rcases Dg j y h with⟨h1,h2⟩|⟨_,h⟩
  ·exact .inl ⟨by simpa using h1,h2⟩
  ·rcases ly j y h with h|h
   ·exact .inr (.inl h)
   ·exact .inr (.inr h)
 have cO:∀(j:Nat) y b,H[j]?=some y->bL (E.ie (E.blk id) V.ab (E.room id 0).2) j y=some b->bL E j y=some b:=λj y b h e=>by rw[<- O1 hle (hlt j y h) (hc.obj j y h)];exact e
 have ww:∀b,bL (E.ie (E.blk id) V.ab (E.room id 0).2) H.length (.own sz l el)=some b->b=E.blk id:=λb e=>by
  simp only[bL,<- hc.n,Env.xc,Tj]at e;exact e.symm
 have fw:∀g,(∀(k:Nat) x,H[k]?=some x->bL E k x≠some g)->∀(k:Nat) x,(H.set id .gone++[aa.own sz l el])[k]?=some x->bL (E.ie (E.blk id) V.ab (E.room id 0).2) k x≠some g:=λg h0 k x hx e=>by
  rcases rC k x hx with⟨rfl,rfl⟩|⟨_,rfl⟩|⟨_,hx⟩
  ·have:=ww g e;exact h0 id _ hk (by rw[this];rfl)
  ·cases e
  ·exact h0 k x hx (cO k x g hx e)
 refine⟨rfl,by simp[Env.ie,hc.n],λj y h=> ?_,λi j y z b h1 h2 e1 e2=> ?_,λg hg=> ?_,λg hg=> ?_,λhm=>hc.top hm,λb y hf=> ?_⟩
 ·rcases rC j y h with⟨rfl,rfl⟩|⟨_,rfl⟩|⟨_,h⟩
  ·obtain⟨⟨cs,q1,q2,q3⟩,q4⟩:=hc.obj id _ hk;rw[<- hc.n];refine⟨⟨cs,by rw[Env.xc];exact q1,q2.mono hle,by rw[Env.Ih];exact q3⟩,λo=> ?_⟩;rw[Env.xc];exact q4 o
  ·trivial
  ·exact(hc.obj j y h).mono hle (hlt j y h) rfl (λ_ _ _ h=>h) (λ_ _ _=>rfl)
 ·rcases rC i y h1 with⟨rfl,rfl⟩|⟨_,rfl⟩|⟨hi,h1⟩
  ·rcases rC j z h2 with⟨rfl,rfl⟩|⟨_,rfl⟩|⟨hj,h2⟩
   ·rfl
   ·cases e2
   ·have:=ww b e1;exact absurd (hc.inj id j _ z b hk h2 (by rw[this];rfl) (cO j z b h2 e2)).symm hj
  ·cases e1
  ·rcases rC j z h2 with⟨rfl,rfl⟩|⟨_,rfl⟩|⟨hj,h2⟩
   ·have:=ww b e2;exact absurd (hc.inj id i _ y b hk h1 (by rw[this];rfl) (cO i y b h1 e1)).symm hi
   ·cases e2
   ·exact hc.inj i j y z b h1 h2 (cO i y b h1 e1) (cO j z b h2 e2)
 ·obtain⟨h0,h1,h2⟩:=hc.group g hg;exact⟨h0,h1,fw g h2⟩
 ·obtain⟨h0,h1,h2⟩:=hc.chan g hg;exact⟨h0,h1,fw g h2⟩
 ·obtain⟨h0,h1,h2⟩:=hc.fr b y hf;exact⟨h0,h1,fw b h2⟩
theorem Conc.leave{E:Env}{V:View}{H:List aa}(hc:Conc E V H)(id:Nat):Conc E V (H.set id .gone):=
 hc.iJ id .gone (Env.Le.refl E) hc.I (by simpa using hc.n) ly rfl (λ_ _ _=>rfl) (λ_ _ _ hy=>⟨hy,λ_=>rfl⟩) trivial (λb h=>by cases h)
theorem agL{E:Env}{l l':List AV}{cs vs:Array SP}(h:j6 E l cs)(k:cJ E l' vs)(hl:l.length+l'.length<=cs.size):j6 E (l++l') (storeAt cs l.length vs.toList):=by
 have hv:vs.toList.length=l'.length:=by simpa using k.1
 refine⟨by rw[yG,SN];exact hl,λi a e=> ?_⟩;rw[DW _ _ _ _ (by rw[hv];exact hl),hv];by_cases h1:i<l.length
 ·rw[if_neg (by omega)];rw[SW h1]at e;exact h.2 i a e
 ·rw[S9 (by omega)]at e;have h2:=(SL.1 e).1;rw[if_pos ⟨by omega,by omega⟩];have:=k.2 _ a e;simpa[SH,SE]using this
theorem Py{E:Env}{l:List AV}{cs:Array SP}{k:Nat}(h:cJ E l (cs.extract 0 k))(hk:l.length=k)(hs:k<=cs.size):j6 E l cs:=by
 refine⟨by omega,λi a e=> ?_⟩;have hi:=(SL.1 e).1;have fS:i<cs.size:=by omega
 have:=h.2 i a e;rw[SH,Array.getElem?_extract_of_lt (by omega)]at this;rw[SH];simpa[SJ fS]using this
theorem acK{c:Xo}{x y:Th}{t t' elem:TypeId}{sz n m:Nat}{z:SP}{l l':List AV}{av:AV}(ho:o.op=.call c)(aY:c.callee=.builtin .append)(cN:c.args=#[x,y]) (dW:c.argTypes=#[t,t']) (ht:jR P t t'=some (elem,sz,z))
  (hx:s.ev x=some (.sl n l .exact)) (hy:s.ev y=some av) (hs:s.src sz av=some (m,l')) (hl:l.length=n* sz) (eJ:l'.length=m* sz) (hb:n+m<=2^30) (hm:0<m) (hn:next ((⟨s.T,s.H++[.own sz (l++l') elem]⟩:AS).put o.dst (.bw s.H.length 0 (n+m) 0))):Step lv P r o s next bad:=by
 intro E V a N Q hc aF hd bz h1 _;refine⟨bz,?_⟩;have dw:=ap.ev aF hx;have iP:=ap.ev aF hy;generalize kx:a.eval x=vx at dw;generalize rP:a.eval y=vy at iP;unfold execOp;rw[ho];dsimp only;unfold resolve;rw[aY];dsimp only;refine az (aq ?_);unfold invoke builtin;dsimp only;refine az ?_;have nE:c.args.map a.eval=#[vx,vy]:=by rw[cN];simp[kx,rP]
 rw[nE,dW];obtain⟨base,cap,rfl⟩:∃base cap,vx=.slice base n cap:=by
  cases dw with
  |sl b o cap f dO he q1 q2=>exact⟨_,_,rfl⟩
  |nil he=>exact⟨_,_,rfl⟩
 have gT:cap=n:=by
  cases dw with
  |sl b o cap f dO he q1 q2=>exact he
  |nil he=>rfl
 subst gT;refine Hh hc ht dw iP hs hl eJ hb (by omega) λrr cs cap' hf bp hle aV=> ?_;have tH:(l++l').length=(cap+m)* sz:=by rw[SN,hl,eJ,Ve]
 have uU:(cap+m)* sz<=cs.size:=by rw[aV];exact Ug _ hle
 have oB:E.Le (E.ie rr V.ab cap'):=E.De rr cap' (λb o v h=>by rw[<- hc.I];exact h);have bm:=hc.ie (el:=elem) (c:=cap') hf ((Py bp tH uU).mono oB) aV;have pf:=IN hc.n (r:=rr) V.ab hle (n:=cap+m) (cap:=cap') hle (SQ _) (by omega);exact aq (h1 _ _ (a.put o.dst _) _ ⟨oB,dX _ _ _,put_defers _ _ _,rfl,rfl⟩ (by rw[fi];exact bm) (cj.gX (s:=⟨s.T,s.H++[.own sz (l++l') elem]⟩) (aF.mono oB) hd pf) hn)
theorem acJ{c:Xo}{x y:Th}{t t' elem el:TypeId}{sz n m c0 id:Nat}{z:SP}{l l':List AV}{av:AV}(ho:o.op=.call c)(aY:c.callee=.builtin .append)(cN:c.args=#[x,y]) (dW:c.argTypes=#[t,t']) (ht:jR P t t'=some (elem,sz,z))
  (hx:s.ev x=some (.bw id 0 n c0)) (xL:c0<n) (bT:s.H[id]?=some (.own sz l el)) (hel:el=elem) (hy:s.ev y=some av) (hs:s.src sz av=some (m,l')) (hl:l.length=n* sz) (eJ:l'.length=m* sz) (hb:n+m<=2^30) (nD:∀a∈l',a.leaf=true) (hn:next ((⟨s.T,s.H.set id .gone++[.own sz (l++l') elem]⟩:AS).put o.dst (.bw s.H.length 0 (n+m) 0))):Step lv P r o s next bad:=by
 subst hel;intro E V a N Q hc aF hd bz h1 _;refine⟨bz,?_⟩;have dw:=ap.ev aF hx;have iP:=ap.ev aF hy;generalize kx:a.eval x=vx at dw;generalize rP:a.eval y=vy at iP;unfold execOp;rw[ho];dsimp only;unfold resolve;rw[aY];dsimp only;refine az (aq ?_);unfold invoke builtin;dsimp only;refine az ?_;have nE:c.args.map a.eval=#[vx,vy]:=by rw[cN];simp[kx,rP]
 rw[nE,dW];have akg:=dw;have tH:(l++l').length=(n+m)* sz:=by rw[SN,hl,eJ,Ve]
 have db:s.src sz (.bw id 0 n c0)=some (n,l):=by
  simp only[AS.src];rw[bT];simp only[Xy];rw[<- hl,TG]
 cases dw with
 |bw hi dO=>
  rename_i cap';obtain⟨q1,_,q3⟩:=dO;have q3:=q3 xL;obtain⟨⟨cs,p1,p2,p3⟩,p4⟩:=hc.obj id _ bT;by_cases qg:n+m<=cap'
  ·have ov:(n+m)* sz<=cap'* sz:=Ug _ qg;have xJ:cap'* sz<=cs.size:=(by rw[p3];exact Ug _ q3);refine acd hc ht iP hs eJ qg p1 xJ (λo _=>p4 o) (hc.jk bT rfl) nD λjx ld=> ?_;have Kh:j6 E (l++l') (storeAt cs (n* sz) jx.toList):=by
    rw[<- hl];exact agL p2 ld (by rw[<- SN,tH];omega)
   have dn:=hc.acr bT Kh (by rw[yG];exact p3);have rC:(s.H.set id (.own sz (l++l') el))[id]?=some (.own sz (l++l') el):=(by rw[W7 ((SL.1 bT).1)]);have ce:=dn.relabel rC;rw[W6]at ce;have oB:E.Le (E.ie (E.blk id) V.ab (E.room id 0).2):=E.De _ _ (λb o v h=>by rw[<- hc.I];exact h);have pf:ap (E.ie (E.blk id) V.ab (E.room id 0).2) (.bw s.H.length 0 (n+m) 0) (.slice (some ⟨E.blk id,0,none⟩) (n+m) cap'):=IN hc.n V.ab (by omega) qg q3 (by omega);exact aq (h1 _ _ (a.put o.dst _) _ ⟨oB,dX _ _ _,put_defers _ _ _,rfl,rfl⟩ (by rw[fi];exact ce) (cj.gX (s:=⟨s.T,s.H.set id .gone++[.own sz (l++l') el]⟩) (aF.mono oB) hd pf) hn)
  ·refine ace hc ht akg db iP hs hl eJ hb (by omega) λrr eP BR hf bp hle aV=> ?_;have uU:(n+m)* sz<=eP.size:=(by rw[aV];exact Ug _ hle);have oB:E.Le (E.ie rr V.ab BR):=E.De rr BR (λb o v h=>by rw[<- hc.I];exact h);have FB:=hc.leave id;have bm:=FB.ie (el:=el) (c:=BR) hf ((Py bp tH uU).mono oB) aV;have pf:ap (E.ie rr V.ab BR) (.bw s.H.length 0 (n+m) 0) (.slice (some ⟨rr,0,none⟩) (n+m) BR):=IN hc.n V.ab hle hle (SQ _) (by omega);exact aq (h1 _ _ (a.put o.dst _) _ ⟨oB,dX _ _ _,put_defers _ _ _,rfl,rfl⟩ (by rw[fi];exact bm) (cj.gX (s:=⟨s.T,s.H.set id .gone++[.own sz (l++l') el]⟩) (aF.mono oB) hd pf) hn)
end
open Go.Conc
theorem bA(n:Int)(h: -9223372036854775808<=n/\n<=9223372036854775807):SD.wrap n=n:=by
 have e:SD.wrap n=if n % 18446744073709551616>=9223372036854775808 then n % 18446744073709551616-18446744073709551616 else n % 18446744073709551616:=by
  unfold Xa;simp[at0,ats]
 rw[e];split<;>omega
def cM (P:SI){α:Type}(s:Sem α)(x:α):Prop:=∀w es,s.runT P w es=(.ok x w,es)
theorem cM.ok{P:SI}{α:Type}{V:View}{s:Sem α}{x:α}{K:α->View->Prop}{Kp:SP->View->Prop}(h:cM P s x)(hk:K x V):aO P V s K Kp:=
 λw hw eV=>⟨#[],w,V,by simpa[fI]using dg.idle hw,.inl ⟨x,by rw[h w eV];simp,hk⟩⟩
theorem cM.bind{P:SI}{α β:Type}{V:View}{s:Sem α}{x:α}{f:α->Sem β}{K:β->View->Prop}{Kp:SP->View->Prop}(h:cM P s x)(hk:aO P V (f x) K Kp):aO P V (s>>=f) K Kp:=
 az (h.ok hk)
def AV.vK:AV->Option Int
 |.val (.int _ n)=>some n
 |_=>none
theorem ap.vK{E:Env}{a:AV}{v:SP}{n:Int}(hd:ap E a v)(h:a.vK=some n):∃k,v=.int k n:=by
 cases hd with
 |val x=>unfold AV.vK at h;split at h<;>simp_all
 |_=>cases h
def AS.jb (s:AS):Option Th->Option (Option Int)
 |none=>some none
 |some x=>match s.ev x with
  |some a=>a.vK.map some
  |none=>none
theorem ze{E:Env}{s:AS}{a:Act}(k:cj E s.T a.tmps){x:Option Th}{i:Option Int}(h:s.jb x=some i):(i=none/\x.map a.eval=none)\/∃n kd,i=some n/\x.map a.eval=some (.int kd n):=by
 cases x with
 |none=>cases h;exact .inl ⟨rfl,rfl⟩
 |some x=>
  simp only[AS.jb]at h;split at h
  ·rename_i av J7;obtain⟨n,hn,rfl⟩:=kY h;obtain⟨kd,hv⟩:=(ap.ev k J7).vK hn;exact .inr ⟨n,kd,rfl,by simp[hv]⟩
  ·cases h
section
variable {P:SI}{V:View}{Kp:SP->View->Prop}
theorem AR{kd:TW}{n:Int}{y:Nat}{code:BoundsCode}{K:Nat->View->Prop}(h0:0<=n)(h1:n<=y)(h:K n.toNat V):aO P V (Zk (.int kd n) y code) K Kp:=by
 unfold Zk asIntOf;refine az (aq ?_);dsimp only;rw[if_pos ⟨h0,h1⟩];exact aq h
theorem Ns{E:Env}{s:AS}{a:Act}(k:cj E s.T a.tmps){isS:Bool}{len cap:Nat}{lo hi mx:Option Th}{l h m:Option Int}(hl:s.jb lo=some l)(hh:s.jb hi=some h)(hm:s.jb mx=some m){K:Nat×Nat×Nat->View->Prop}
  (hlc:len<=cap) (c0:0<=l.getD 0) (c1:l.getD 0<=h.getD len) (c2:h.getD len<=m.getD cap) (c3:m.getD cap<=cap) (c4:m.isSome=true->h.isSome=true) (hK:K ((l.getD 0).toNat,(h.getD len).toNat,(m.getD cap).toNat) V):
  aO P V (Y' isS len cap (lo.map a.eval) (hi.map a.eval) (mx.map a.eval)) K Kp:=by
 unfold Y';rcases ze k hm with⟨rfl,em⟩|⟨vm,km,rfl,em⟩
 ·rw[em];refine az (aq ?_);rcases ze k hh with⟨rfl,eh⟩|⟨vh,kh,rfl,eh⟩
  ·rw[eh];refine az (aq ?_);rcases ze k hl with⟨rfl,el⟩|⟨vl,kl,rfl,el⟩
   ·rw[el];exact az (aq (aq (by simpa using hK)))
   ·rw[el];simp only[S7,Vq]at c0 c1 c2;exact az (AR c0 c1 (aq (by simpa using hK)))
  ·rw[eh];simp only[S7,Vq]at c0 c1 c2 c3;refine az (AR (by omega) c2 ?_);rcases ze k hl with⟨rfl,el⟩|⟨vl,kl,rfl,el⟩
   ·rw[el];exact az (aq (aq (by simpa using hK)))
   ·rw[el];simp only[S7,Vq]at c0 c1 c2;exact az (AR c0 (by omega) (aq (by simpa using hK)))
 ·rw[em];simp only[S7,Option.isSome_some,true_implies]at c2 c3 c4;rcases ze k hh with⟨rfl,eh⟩|⟨vh,kh,rfl,eh⟩
  ·cases c4
  ·rw[eh];simp only[S7]at c1 c2 c0;refine az (AR (by omega) c3 ?_);refine az (AR (by omega) (by omega) ?_);rcases ze k hl with⟨rfl,el⟩|⟨vl,kl,rfl,el⟩
   ·rw[el];exact az (aq (aq (by simpa using hK)))
   ·rw[el];simp only[S7]at c0 c1;exact az (AR c0 (by omega) (aq (by simpa using hK)))
end
def w8 (n:Nat)(l:List AV)(e:End)(sz:Nat)(lo hi mx:Option Int)(k:AV->Prop):Prop:=
 l.length=n* sz/\0<=lo.getD 0/\lo.getD 0<=hi.getD n/\hi.getD n<=mx.getD n/\mx.getD n<=n/\(mx.isSome=true->hi.isSome=true)/\
 k (.sl ((hi.getD n).toNat-(lo.getD 0).toNat) ((l.drop ((lo.getD 0).toNat* sz)).take (((hi.getD n).toNat-(lo.getD 0).toNat)* sz))
  (if mx.isSome&&mx.getD n==hi.getD n then .exact else if lo.getD 0==0&&hi.getD n==n&&mx.isNone then e else .shut))
def kB (P:SI)(t:TypeId):Option (TypeId×Nat):=match P.underlying t with
 |some (.slice e)=>(P.info? e).map λi=>(e,i.size)
 |_=>none
def wZ (P:SI)(t:TypeId):Option (Nat×Nat):=match P.underlying t with
 |some (.array n e)=>(P.info? e).map λi=>(n,i.size)
 |_=>none
open Go.Conc
section
variable {lv:Bool}{P:SI}{r:Option Nat}{o:Tu}{s:AS}{next:AS->Prop}{bad:AV->AS->Prop}
theorem apb{t e:TypeId}{x:Th}{lo hi mx:Option Th}{l h m:Option Int}{n sz:Nat}{li:List AV}{en:End}(ho:o.op=.slice t x lo hi mx)(ht:kB P t=some (e,sz))(hx:s.ev x=some (.sl n li en))(hl:s.jb lo=some l)(hh:s.jb hi=some h)(hm:s.jb mx=some m)
  {k:AV->Prop} (hc:w8 n li en sz l h m k):∃av,dB lv P r o s av/\k av:=by
 obtain⟨hlen,c0,c1,c2,c3,c4,hk⟩:=hc;refine⟨_,iX (λE V a hc aF=> ?_),hk⟩;have hd:=ap.ev aF hx;generalize hv:a.eval x=v at hd;unfold kB at ht;split at ht
 ·rename_i e' hu;obtain⟨i,cC,ht⟩:=kY ht;cases ht;unfold execOp;rw[ho];simp only[hv];refine az ?_;unfold Yg;refine ec hu ?_;dsimp only;unfold ZX;refine ec hu ?_;obtain⟨base,cap,rfl⟩:∃base cap,v=.slice base n cap:=by
   cases hd with
   |sl b o cap f dO he q1 q2=>exact⟨_,_,rfl⟩
   |nil he=>exact⟨_,_,rfl⟩
  have dO:n<=cap:=by
   cases hd with
   |sl b o cap f dO he q1 q2=>exact dO
   |nil he=>exact SQ _
  dsimp only;have hmm:m.getD (cap:Int)=if m.isSome then m.getD n else cap:=by cases m<;>simp
  refine az (Ns aF hl hh hm dO c0 c1 ?_ ?_ c4 ?_)
  ·cases m with
   |none=>simp only[Vq]at c2⊢;omega
   |some m=>simpa using c2
  ·cases m with
   |none=>simp
   |some m=>simp only[S7]at c3⊢;omega
  refine j4 cC ?_;refine aq (aq ⟨rfl,_,rfl,?_⟩);generalize hA:(l.getD 0).toNat=A;generalize hB:(h.getD (n:Int)).toNat=B;have QK:A<=B:=by omega
  have hBn:B<=n:=by omega
  generalize hM:(m.getD (cap:Int)).toNat=M;have hBM:B<=M:=by
   cases m with
   |none=>simp only[Vq]at hM;omega
   |some m=>simp only[S7]at hM c2;omega
  cases hd with
  |nil he=>
   have Fj:A=0:=(by omega);have hB0:B=0:=(by omega);have hM0:M=0:=by
    cases m with
    |none=>simp only[Vq]at hM;omega
    |some m=>simp only[S7]at hM c3;omega
   rw[Fj,hB0,hM0];simp only[if_true,ZW,Z0,aj'];refine .nil ?_;split
   ·rfl
   ·split
    ·exact he
    ·trivial
  |sl b o cap f dO he q1 q2=>
   have Ci:(if M=A then some (⟨b,o,none⟩:U5)else(some (⟨b,o,none⟩:U5)).map λx=>x.add (A* i.size))=some ⟨b,if M=A then o else o+A* i.size,none⟩:=by
    split
    ·rfl
    ·simp only[UP,add_plain]
   rw[Ci];have hb:(B-A)* i.size+A* i.size<=n* i.size:=(by rw[<- Ve];exact Ug _ (by omega));refine .sl b _ (M-A) (λj=>f (A* i.size+j)) (by omega) ?_ (λj hj=> ?_) (λj y hj=> ?_)
   ·split
    ·rename_i hx;simp only[Ti,beq_iff_eq]at hx;cases m with
     |none=>simp at hx
     |some m=>
      simp only[S7]at hM hx;show M-A=B-A;omega
    ·split
     ·rename_i hx;simp only[Ti,beq_iff_eq]at hx;obtain⟨⟨x1,x2⟩,x3⟩:=hx;have:A=0:=(by omega);have:B=n:=(by omega);cases m with
      |some m=>cases x3
      |none=>
       simp only[Vq]at hM;have hMc:M=cap:=(by omega);subst hMc;have e1:M-A=M:=(by omega);have e2:B-A=n:=(by omega);have e3:(if M=A then o else o+A* i.size)=o:=(by split<;>simp_all);rw[e1,e2,e3];exact he
     ·trivial
   ·simp only[Ud,Un]at hj;have hMA:M≠A:=by
     intro e;have:B-A=0:=(by omega);rw[this]at hj;omega
    rw[if_neg hMA,U1];exact q1 _ (by omega)
   ·rw[Ue]at hj;split at hj
    ·rw[Uo]at hj;exact q2 _ _ hj
    ·cases hj
 ·cases ht
def sE (id off n cap sz:Nat)(lo hi mx:Option Int)(k:AV->Prop):Prop:=
 n<=cap/\0<=lo.getD 0/\lo.getD 0<=hi.getD n/\hi.getD n<=mx.getD cap/\mx.getD cap<=cap/\(mx.isSome=true->hi.isSome=true)/\(lo.getD 0=0\/lo.getD 0<mx.getD cap)/\
 k (.bw id (off+(lo.getD 0).toNat* sz) ((hi.getD n).toNat-(lo.getD 0).toNat) ((mx.getD cap).toNat-(lo.getD 0).toNat))
theorem apd{t e:TypeId}{x:Th}{lo hi mx:Option Th}{l h m:Option Int}{id off n cap sz:Nat}(ho:o.op=.slice t x lo hi mx)(ht:kB P t=some (e,sz))(hx:s.ev x=some (.bw id off n cap))(hl:s.jb lo=some l)(hh:s.jb hi=some h)(hm:s.jb mx=some m)
  {k:AV->Prop} (hc:sE id off n cap sz l h m k):∃av,dB lv P r o s av/\k av:=by
 obtain⟨hlen,c0,c1,c2,c3,c4,c5,hk⟩:=hc;refine⟨_,iX (λE V a hc aF=> ?_),hk⟩;have hd:=ap.ev aF hx;generalize hv:a.eval x=v at hd;unfold kB at ht;split at ht
 ·rename_i e' hu;obtain⟨i,cC,ht⟩:=kY ht;cases ht;unfold execOp;rw[ho];simp only[hv];refine az ?_;unfold Yg;refine ec hu ?_;dsimp only;unfold ZX;refine ec hu ?_;cases hd with
  |bw bT dO=>
   rename_i cap';obtain rfl:cap=cap':=dO.2.1 hlen;dsimp only;refine az (Ns aF hl hh hm hlen c0 c1 c2 c3 c4 ?_);refine j4 cC ?_;refine aq (aq ⟨rfl,_,rfl,?_⟩);have Ci:(if(m.getD (cap:Int)).toNat=(l.getD 0).toNat then some (⟨E.blk id,off,none⟩:U5)else(some (⟨E.blk id,off,none⟩:U5)).map λx=>x.add ((l.getD 0).toNat* i.size))=some ⟨E.blk id,off+(l.getD 0).toNat* i.size,none⟩:=by
    split
    ·have:(l.getD 0).toNat=0:=(by omega);rw[this];simp
    ·simp only[UP,add_plain]
   rw[Ci];exact .bw bT ⟨by dsimp only;omega,λ_=>rfl,λh=>absurd h (by omega)⟩
 ·cases ht
theorem apc{t:TypeId}{x:Th}{lo hi mx:Option Th}{l h m:Option Int}{id off n sz:Nat}(ho:o.op=.slice t x lo hi mx)(ht:wZ P t=some (n,sz))(hx:s.ev x=some (.op id off))(hl:s.jb lo=some l)(hh:s.jb hi=some h)(hm:s.jb mx=some m)
  {k:AV->Prop} (hc:sE id off n n sz l h m k):∃av,dB lv P r o s av/\k av:=by
 obtain⟨hlen,c0,c1,c2,c3,c4,c5,hk⟩:=hc;refine⟨_,iX (λE V a hc aF=> ?_),hk⟩;have hd:=ap.ev aF hx;generalize hv:a.eval x=v at hd;unfold wZ at ht;split at ht
 ·rename_i m' e' hu;obtain⟨i,cC,ht⟩:=kY ht;cases ht;unfold execOp;rw[ho];simp only[hv];refine az ?_;unfold Yg;refine ec hu ?_;cases hd with
  |op bT=>
   dsimp only;unfold Vb;refine az (aq ?_);refine az (Ns aF hl hh hm hlen c0 c1 c2 c3 c4 ?_);refine j4 cC ?_;refine aq (aq ⟨rfl,_,rfl,?_⟩);have Ci:(if(m.getD (n:Int)).toNat=(l.getD 0).toNat then(⟨E.blk id,off,none⟩:U5)else(⟨E.blk id,off,none⟩:U5).add ((l.getD 0).toNat* i.size))=⟨E.blk id,off+(l.getD 0).toNat* i.size,none⟩:=by
    split
    ·have:(l.getD 0).toNat=0:=(by omega);rw[this];simp
    ·rw[add_plain]
   rw[Ci];exact .bw bT ⟨by dsimp only;omega,λ_=>rfl,λh=>absurd h (by omega)⟩
 ·cases ht
theorem aqU{c:Xo}{x y:Th}{t t' e:TypeId}{id off n cap sz m:Nat}{l l':List AV}{el:TypeId}{av:AV}(ho:o.op=.call c)(aY:c.callee=.builtin .copy)(cN:c.args=#[x,y]) (dW:c.argTypes=#[t,t']) (ht:kB P t=some (e,sz)) (hx:s.ev x=some (.bw id off n cap))
  (hk:s.H[id]?=some (.cells l el)) (hy:s.ev y=some av) (hs:s.src sz av=some (m,l')) (eJ:l'.length=m* sz) (hl:off+min m n* sz<=l.length) (nD:∀a∈l',a.leaf=true)
  (hn:next ((⟨s.T,s.H.set id (.cells (iG l off (l'.take (min m n* sz))) el)⟩:AS).put o.dst (.val (.int .i64 (min m n:Nat))))):Step lv P r o s next bad:=by
 intro E V a N Q hc aF hd bz h1 _;refine⟨bz,?_⟩;have dw:=ap.ev aF hx;have iP:=ap.ev aF hy;generalize kx:a.eval x=vx at dw;generalize rP:a.eval y=vy at iP;unfold execOp;rw[ho];dsimp only;unfold resolve;rw[aY];dsimp only;refine az (aq ?_);unfold invoke builtin;dsimp only;refine az ?_;have nE:c.args.map a.eval=#[vx,vy]:=by rw[cN];simp[kx,rP]
 rw[nE,dW];unfold kB at ht;split at ht
 ·rename_i e' hu;obtain⟨i,cC,ht⟩:=kY ht;cases ht;cases dw with
  |bw bT _=>
   obtain⟨⟨cs,p1,p2⟩,p3⟩:=hc.obj id _ hk;obtain⟨g1,g2⟩:=hc.jk hk rfl;unfold auh;simp only[Vg,Vr,UL];refine ec hu ?_;dsimp only;rw[Hm iP hs];refine az (aq ?_);refine j4 cC ?_;refine az (DK hc iP hs eJ (ZE _ _) λjx ld=> ?_);have h2:(l'.take (min m n* i.size)).length=min m n* i.size:=by
    have:min m n* i.size<=m* i.size:=Ug _ (ZE _ _);simp;omega
   refine az (AT _ 0 V cs g1 g2 p1 (λo _ _=>p3 o) (by
    have hq:jx.size=min m n* i.size:=(by(rw[ld.1];exact h2));have:=p2.1;simp only[Array.length_toList];omega) (BV ld (λa ha=>nD a (Wt ha))) ?_)
   rw[UE];refine aq (aq (h1 E _ (a.put o.dst _) _ ⟨Env.Le.refl E,dX _ _ _,put_defers _ _ _,rfl,rfl⟩ (by rw[fi];exact hc.set hk (IS p2 ld (by rw[h2];exact hl)))
    (cj.gX (s:=⟨s.T,s.H.set id (.cells (iG l off (l'.take (min m n* i.size))) el)⟩) aF hd (.val _)) hn))
 ·cases ht
def Bj (P:SI)(t:TypeId):Option (TypeId×Nat×SP):=match P.underlying t with
 |some (.slice e)=>(P.info? e).bind λi=>i.zero.bind λz=>if z.cells.size=i.size/\i.bytes<=2^16 then some (e,i.size,z)else none
 |_=>none
theorem acO{t e:TypeId}{x y:Th}{n sz:Nat}{z:SP}{k k':TW}(ho:o.op=.makeSlice t x y)(ht:Bj P t=some (e,sz,z))(hx:s.ev x=some (.val (.int k n)))(hy:s.ev y=some (.val (.int k' n)))(hb:n<=2^30)
  (hn:next ((⟨s.T,s.H++[.cells (gM z (n* sz)) e]⟩:AS).put o.dst (.bw s.H.length 0 n n))):Step lv P r o s next bad:=by
 intro E V a N Q hc aF hd bz h1 _;refine⟨bz,?_⟩;have dw:=ap.ev aF hx;have iP:=ap.ev aF hy;generalize kx:a.eval x=vx at dw;generalize rP:a.eval y=vy at iP;cases dw;cases iP;unfold Bj at ht;split at ht
 ·rename_i e' hu;obtain⟨i,q1,ht⟩:=Te.1 ht;obtain⟨z',q2,ht⟩:=Te.1 ht;split at ht
  ·rename_i xN;cases ht;unfold execOp;rw[ho];simp only[kx,rP];refine az ?_;unfold Instr.makeSlice;refine ec hu ?_;dsimp only;refine az (aq ?_);refine az (aq ?_);refine yE q1 ?_;have hw:SD.wrap (n:Int)=n:=bA _ (by omega);rw[hw];have hmul:i.bytes* n<=2^16* 2^30:=ZK xN.2 hb;have atz:(i.bytes:Int)* n<=2^46:=(by exact_mod_cast hmul);rw[if_neg (by simp;omega)];refine az (acf ?_);refine j4 q1 ?_;rw[VP];have fin:∀(zero:Array SP),(∀j,j<n* i.size->zero[j % zero.size]! =z.cells[j % z.cells.size]!)->aO P V (do let a<- newRow e ((WK (n* i.size)).map (zero[· % zero.size]!));pure (Us (some a) n n)) (λx V'=>aO P V' (pure (W3 x)) (mG lv P r o a N Q) (λv V'=>Q (.panic [{v,recovered:=false}]) a V')) (λv V'=>Q (.panic [{v,recovered:=false}]) a V'):=by
    intro zero hz;unfold newRow;refine az (az (oJ λrr hf=>cI (aq (aq (aq ?_)))));have hle:E.Le (E.add rr V.ab):=E.qC rr (λb o v h=>by rw[<- hc.I];exact h);have ajT:(WK (n* i.size)).map (zero[· % zero.size]!)=(WK (n* i.size)).map (λx=>z.cells[x % z.cells.size]!):=by
     apply VF;simp only[VK];apply VC;intro j hj;exact hz j (by simpa using hj)
    rw[ajT];have bm:Conc (E.add rr V.ab) (V.upd rr (.cells ((WK (n* i.size)).map (λx=>z.cells[x % z.cells.size]!)) e)) (s.H++[.cells (gM z (n* i.size)) e]):=by
     refine hc.add hf _ ⟨⟨_,?_,IT z _⟩,λo=> ?_⟩ (λb e=> ?_)
     ·rw[Env.dL];simp[View.upd]
     ·rw[Env.dL];exact hf.2 o
     ·simp only[bL,Env.dL,Tj]at e;exact e.symm
    have bp:ap (E.add rr V.ab) (.bw s.H.length 0 n n) (.slice (some ⟨rr,0,none⟩) n n):=by
     have:=ap.bw (E:=E.add rr V.ab) (id:=s.H.length) (off:=0) (n:=n) (cap:=n) (cap':=n) (by show _<E.n+1;rw[hc.n];omega) ⟨SQ _,λ_=>rfl,λh=>absurd h (Nat.lt_irrefl _)⟩;have e:(E.add rr V.ab).blk s.H.length=rr:=(by rw[<- hc.n];exact E.dL rr _);rwa [e]at this
    exact h1 _ _ (a.put o.dst _) ((⟨s.T,s.H++[.cells (gM z (n* i.size)) e]⟩:AS).put o.dst (.bw s.H.length 0 n n)) ⟨hle,dX _ _ _,put_defers _ _ _,rfl,rfl⟩ (by rw[fi];exact bm)
     (cj.gX (s:=⟨s.T,s.H++[.cells (gM z (n* i.size)) e]⟩) (aF.mono hle) hd bp) hn
   by_cases h0:n* i.size=0
   ·rw[if_pos h0];refine az (aq ?_);exact fin #[] (λj hj=>by omega)
   ·rw[if_neg h0];refine az (az ?_);unfold typeInfo;refine az (qG (cI ?_));rw[q1];refine aq ?_;rw[q2];refine aq (az (aq ?_));exact fin z.cells (λj _=>rfl)
  ·cases ht
 ·cases ht
def AV.AJ:AV->Option SP
 |.val x=>some x
 |_=>none
def AV.raw:AV->Option SP
 |.val x=>some x
 |.agg l=>(l.mapM AV.AJ).map λvs=> .agg vs.toArray
 |_=>none
theorem ap.AJ{E:Env}{a:AV}{v x:SP}(h:ap E a v)(hr:a.AJ=some x):v=x:=by
 cases h<;>cases hr;rfl
theorem ap.raw{E:Env}{a:AV}{v x:SP}(h:ap E a v)(hr:a.raw=some x):v=x:=by
 cases h with
 |val=>cases hr;rfl
 |agg hs h=>
  obtain⟨vs,h1,rfl⟩:=kY hr;congr 1;rename_i l cs;have key:∀(l:List AV)(vs:List SP)(cs:List SP),l.mapM AV.AJ=some vs->cs.length=l.length->(∀(i:Nat) a,l[i]?=some a->ap E a (cs.getD i undef))->cs=vs:=by
   intro l;induction l with
   |nil=>intro vs cs h1 h2 _;simp at h1;subst h1;simpa using h2
   |cons a l ih=>
    intro vs cs h1 h2 h3;simp only[T_,Uj,TP,Te,Tj]at h1;obtain⟨b,e1,bs,e2,rfl⟩:=h1;cases cs with
    |nil=>simp at h2
    |cons c cs=>
     have hc:=(h3 0 a rfl).AJ e1;have:=ih bs cs e2 (by simpa using h2) (λi x hx=>by simpa using h3 (i+1) x (by simpa using hx));subst this;simp only[Xl]at hc;rw[hc]
  have:=key l vs cs.toList h1 (by simpa using hs) (λi a e=>by have:=h i a e;rw[SH]at this;simpa[SE]using this);rw[<- this]
 |_=>cases hr
def zo:SP->SP->Bool
 |.agg _,.agg _=>true
 |.bool _,.bool _=>true
 |_,_=>false
theorem aoO{op:V_}{xt yt:TypeId}{x y:Th}{a b:AV}{X Y:SP}{e:Bool}(ho:o.op=.binOp op xt x y yt)(ay:op=.eql\/op=.neq)(hx:s.ev x=some a)(hy:s.ev y=some b)(hX:a.raw=some X)(hY:b.raw=some Y)(hk:zo X Y=true)(hg:P.eqGuardType P.depth xt=false)(he:cM P (Xn xt X Y) e):
  dB lv P r o s (.val (.bool (if op== .neq then !e else e))):=
 iX (λE V ac hc aF=>by
  have e1:=(ap.ev aF hx).raw hX;have e2:=(ap.ev aF hy).raw hY;unfold execOp;rw[ho];simp only[e1,e2];refine az ?_;have guard:∀{K:Unit->View->Prop},K () V->aO P V (eqGuard op xt x y X Y) K (λ_ _=>False):=λhK=>by
   unfold eqGuard;unfold zo at hk;split at hk
   ·rcases ay with rfl|rfl
    all_goals
     simp only[ai',TN,if_false];refine az (qG (cI ?_));refine az (qG (cI ?_));rw[hg];exact aq hK
   ·rcases ay with rfl|rfl<;>exact aq hK
   ·cases hk
  refine az (guard ?_);unfold zo at hk;split at hk
  ·rcases ay with rfl|rfl<;>(unfold binOp;refine he.bind (aq (aq ⟨rfl,_,rfl,?_⟩));exact .val _)
  ·rcases ay with rfl|rfl<;>(unfold binOp;refine he.bind (aq (aq ⟨rfl,_,rfl,?_⟩));exact .val _)
  ·cases hk)
theorem ahj{t:TypeId}{v:SP}{b:Bool}{V:View}{K:Bool->View->Prop}{Kp:SP->View->Prop}(ht:mq P t=some true)(hv:(v=.nilIface/\b=true)\/((∃u x,v=.iface u x)/\b=false))(hk:K b V):aO P V (Xn t v .nilIface) K Kp:=by
 obtain⟨el,hu⟩:∃el,P.underlying t=some (.interface el):=by
  unfold mq at ht;cases h:P.underlying t with
  |none=>rw[h]at ht;cases ht
  |some d=>
   rw[h]at ht;cases d<;>first|exact⟨_,rfl⟩|(simp at ht)
 have e:Xn t v .nilIface=VA (9999+1) t v .nilIface:=rfl;rw[e,VA];refine ec hu ?_;rcases hv with⟨rfl,rfl⟩|⟨⟨u,x,rfl⟩,rfl⟩
 ·exact aq hk
 ·exact aq hk
theorem abQ{op:V_}{xt yt:TypeId}{x:Th}{a:AV}{b:Bool}(ho:o.op=.binOp op xt x (.const .nilIface) yt)(ay:op=.eql\/op=.neq)(hx:s.ev x=some a)(ha:(a=.val .nilIface/\b=true)\/((∃u y,a=.c9 u y)/\b=false))(ht:mq P xt=some true):
  dB lv P r o s (.val (.bool (if op== .neq then !b else b))):=
 iX (λE V ac hc aF=>by
  have hd:=ap.ev aF hx;generalize kx:ac.eval x=vx at hd;have hv:(vx=.nilIface/\b=true)\/((∃u y,vx=.iface u y)/\b=false):=by
   rcases ha with⟨rfl,rfl⟩|⟨⟨u,y,rfl⟩,rfl⟩
   ·cases hd;exact .inl ⟨rfl,rfl⟩
   ·cases hd;exact .inr ⟨⟨_,_,rfl⟩,rfl⟩
  have hy:ac.eval (.const .nilIface)=.nilIface:=rfl;unfold execOp;rw[ho];simp only[kx,hy];refine az ?_;have guard:∀{K:Unit->View->Prop},K () V->aO P V (eqGuard op xt x (.const .nilIface) vx .nilIface) K (λ_ _=>False):=λhK=>by
   unfold eqGuard;rcases hv with⟨rfl,_⟩|⟨⟨u,y,rfl⟩,_⟩<;>rcases ay with rfl|rfl<;>first|exact aq hK|(simp;exact aq hK)
  refine az (guard ?_);rcases hv with⟨rfl,rfl⟩|⟨⟨u,y,rfl⟩,rfl⟩<;>rcases ay with rfl|rfl<;>(unfold binOp;refine az (ahj (b:=_) ht (by first|exact .inl ⟨rfl,rfl⟩|exact .inr ⟨⟨_,_,rfl⟩,rfl⟩) (aq (aq ⟨rfl,_,rfl,?_⟩)));exact .val _))
theorem PP{t:TypeId}{d:TypeId×Nat}{b:Option U5}{n cap:Nat}{V:View}{K:Bool->View->Prop}{Kp:SP->View->Prop}(ht:kB P t=some d)(hk:K b.isNone V):aO P V (Xn t (.slice b n cap) (.slice none 0 0)) K Kp:=by
 obtain⟨el,hu⟩:∃el,P.underlying t=some (.slice el):=by
  unfold kB at ht;split at ht
  ·rename_i e he;exact⟨e,he⟩
  ·cases ht
 have e:Xn t (.slice b n cap) (.slice none 0 0)=VA (9999+1) t (.slice b n cap) (.slice none 0 0):=rfl;rw[e,VA];refine ec hu ?_;cases b with
 |none=>exact aq hk
 |some a=>exact aq hk
theorem aq1{op:V_}{t yt:TypeId}{x:Th}{n:Nat}{av:AV}{d:TypeId×Nat}(ho:o.op=.binOp op t x (.const (.slice none 0 0)) yt)(ay:op=.eql\/op=.neq)(hx:s.ev x=some av)(hlen:av.len=some n)(ht:kB P t=some d)
  (hn:∀b:Bool,(0<n->b=false)->next (s.put o.dst (.val (.bool (if op== .neq then !b else b))))):Step lv P r o s next bad:=by
 intro E V a N Q hc aF hd bz h1 _;refine⟨bz,?_⟩;have dw:=ap.ev aF hx;generalize kx:a.eval x=vx at dw;obtain⟨base,cap,rfl,hb⟩:∃base cap,vx=.slice base n cap/\(0<n->base.isNone=false):=by
  cases dw with
  |sl b o cap f dO he q1 q2=>cases hlen;exact⟨_,_,rfl,λ_=>rfl⟩
  |nil he=>cases hlen;exact⟨_,_,rfl,λh=>absurd h (by omega)⟩
  |bw hi=>cases hlen;exact⟨_,_,rfl,λ_=>rfl⟩
  |_=>cases hlen
 unfold execOp;rw[ho];have hy:a.eval (.const (.slice none 0 0))=.slice none 0 0:=rfl;simp only[kx,hy];have fin:aO P V (pure (W3 (.bool (if op== .neq then !base.isNone else base.isNone)))) (mG lv P r o a N Q) (λv V'=>Q (.panic [{v,recovered:=false}]) a V'):=
  aq (h1 E V (a.put o.dst _) _ ⟨Env.Le.refl E,dX _ _ _,put_defers _ _ _,rfl,rfl⟩ (by rw[fi];exact hc) (aF.gX hd (.val _)) (hn _ hb))
 rcases ay with rfl|rfl
 ·refine az (az (aq ?_));unfold binOp;exact az (PP ht (aq fin))
 ·refine az (az (aq ?_));unfold binOp;exact az (PP ht (aq fin))
theorem ao3{c:Xo}{x y:Th}{k j:TW}{m n:Int}(ho:o.op=.call c)(aY:c.callee=.builtin .max)(cN:c.args=#[x,y]) (hx:s.ev x=some (.val (.int k m))) (hy:s.ev y=some (.val (.int j n))):dB lv P r o s (.val (.int k (if n>m then n else m))):=
 r_ (λE V a hc aF=>by
  have h1:=ap.ev aF hx;have h2:=ap.ev aF hy;generalize pA:a.eval x=v1 at h1;generalize tI:a.eval y=v2 at h2;cases h1;cases h2;refine⟨_,?_,.val _⟩;unfold execOp;rw[ho];dsimp only;unfold resolve;rw[aY];have nE:c.args.map a.eval=#[.int k m,.int j n]:=by rw[cN];simp[pA,tI]
  rw[nE];rfl)
theorem ao4{c:Xo}{x y:Th}{k j:TW}{m n:Int}(ho:o.op=.call c)(aY:c.callee=.builtin .min)(cN:c.args=#[x,y]) (hx:s.ev x=some (.val (.int k m))) (hy:s.ev y=some (.val (.int j n))):dB lv P r o s (.val (.int k (if n<m then n else m))):=
 r_ (λE V a hc aF=>by
  have h1:=ap.ev aF hx;have h2:=ap.ev aF hy;generalize pA:a.eval x=v1 at h1;generalize tI:a.eval y=v2 at h2;cases h1;cases h2;refine⟨_,?_,.val _⟩;unfold execOp;rw[ho];dsimp only;unfold resolve;rw[aY];have nE:c.args.map a.eval=#[.int k m,.int j n]:=by rw[cN];simp[pA,tI]
  rw[nE];rfl)
theorem abP{x:Th}{xt aE t:TypeId}{ok:Bool}{av:AV}{z:SP}(ho:o.op=.typeAssert x xt aE ok)(ht:mq P aE=some false)(hz:eN P aE=some z)(hx:s.ev x=some (.c9 t av))(au:ok=true\/t=aE):
  dB lv P r o s (if t=aE then(if ok then .aL [av,.val (.bool true)]else av)else .aL [AV.of z,.val (.bool false)]):=
 iX (λE V a hc aF=>by
  have hd:=ap.ev aF hx;generalize hv:a.eval x=v at hd;cases hd with
  |c9 hd=>
   obtain⟨d,hu,jg⟩:=kY ht;unfold execOp;rw[ho];simp only[hv];refine az ?_;unfold Zj;refine ec hu ?_;split
   ·rename_i h;cases jg
   ·rename_i h;cases jg
   ·rename_i h;cases h
   ·rename_i t' v' h;cases h;by_cases e:t=aE
    ·rw[if_pos e,if_pos e];cases ok
     ·exact aq (aq ⟨rfl,_,rfl,hd⟩)
     ·refine aq (aq ⟨rfl,_,rfl,.aL rfl λi b hb=> ?_⟩)
      match i,hb with
      |0,hb=>cases hb;exact hd
      |1,hb=>cases hb;exact .val _
    ·rw[if_neg e,if_neg e];have nG:ok=true:=au.resolve_right e;subst nG;simp only[if_true];refine az (az ?_);unfold eN at hz;obtain⟨inf,z1,z2⟩:=Te.1 hz;unfold typeInfo;refine az (qG (cI ?_));rw[z1];refine aq ?_;rw[z2];refine aq (aq (aq ⟨rfl,_,rfl,.aL rfl λi b hb=> ?_⟩))
     match i,hb with
     |0,hb=>cases hb;exact sQ E z
     |1,hb=>cases hb;exact .val _
   ·exfalso;simp_all)
theorem aoI{x:Th}{xt aE:TypeId}{z:SP}(ho:o.op=.typeAssert x xt aE true)(ht:mq P aE=some false)(hz:eN P aE=some z)(hx:s.ev x=some (.val .nilIface)):dB lv P r o s (.aL [AV.of z,.val (.bool false)]):=
 iX (λE V a hc aF=>by
  have hd:=ap.ev aF hx;generalize hv:a.eval x=v at hd;cases hd;obtain⟨d,hu,jg⟩:=kY ht;unfold execOp;rw[ho];simp only[hv];refine az ?_;unfold Zj;refine ec hu ?_;unfold eN at hz;obtain⟨inf,z1,z2⟩:=Te.1 hz;split
  ·rename_i h;cases jg
  ·rename_i h;cases h
  ·simp only[if_true];refine az (az ?_);unfold typeInfo;refine az (qG (cI ?_));rw[z1];refine aq ?_;rw[z2];refine aq (aq (aq ⟨rfl,_,rfl,.aL rfl λi b hb=> ?_⟩))
   match i,hb with
   |0,hb=>cases hb;exact sQ E z
   |1,hb=>cases hb;exact .val _
  ·rename_i h;cases h
  ·exfalso;simp_all)
def Ia (P:SI)(t:TypeId)(name:String):Prop:=∀v,cM P (nilAhead (P.types.size+Made.depth) t v name) (some false)
theorem ao7{x:Th}{name:String}{t:TypeId}{av:AV}(ho:o.op=.nilCheck x)(hx:s.ev x=some (.fn (.method name) [.c9 t av] []))(hn:Ia P t name):dB lv P r o s (.fn (.method name) [.c9 t av] []):=
 iX (λE V a hc aF=>by
  have hd:=ap.ev aF hx;unfold execOp;rw[ho];dsimp only;generalize hv:a.eval x=v at hd⊢;have cz:=hd;cases hd with
  |fn dP fW h1 h2=>
   rename_i fa ca;have Kq:fa.size=1:=dP;have:=h1 0 _ rfl;rw[SH,SJ (by omega)]at this;simp only[S7]at this;have hg:fa[0]?=some fa[0]:=SJ (by omega);generalize hq:fa[0]=q at this hg;cases this with
   |c9 jK=>
    dsimp only;rw[hg];dsimp only;refine az (qG (cI ?_));refine(hn _).bind ?_;simp only[bne_self_eq_false,TN,if_false];exact aq ⟨rfl,_,rfl,cz⟩)
def oR (P:SI)(t:TypeId):Option (TypeId×TypeId):=match P.underlying t with
 |some (.map k e)=>some (k,e)
 |_=>none
def wL (es:Array Wl)(ck:Nat)(k x:SP):Option (Nat×SP)->Obj
 |none=> .map (es.push {key:=k,val:=x,born:=ck}) (ck+1)
 |some (i,_)=> .map (es.modify i λe=>{e with key:=k,val:=x}) ck
theorem aqX{t kt et:TypeId}{m k x:Th}{id ck:Nat}{es:Array Wl}{a b:AV}{K X:SP}{fd:Option (Nat×SP)}(ho:o.op=.mapUpdate t m k x\/o.op=.insert t m k x)(ht:oR P t=some (kt,et))(hm:s.ev m=some (.mp id))(hk:s.ev k=some a)(hx:s.ev x=some b)(hK:a.raw=some K)(hX:b.raw=some X)
  (hH:s.H[id]?=some (.obj (.map es ck))) (hc:cM P (Vd false 10000 kt K) ()) (hf:cM P (VN kt K es.toList) fd) (F6:∀i v,fd=some (i,v)->WC 10000 (((es[i]?).map (·.key)).getD K) K=true)
  (hn:next ((⟨s.T,s.H.set id (.obj (wL es ck K X fd))⟩:AS).put o.dst (.val undef))):Step lv P r o s next bad:=by
 intro E V ac N Q jf aF hd bz h1 _;refine⟨bz,?_⟩;have e1:=(ap.ev aF hk).raw hK;have e2:=(ap.ev aF hx).raw hX;have pc:=ap.ev aF hm;generalize yc:ac.eval m=vm at pc;cases pc;obtain⟨p1,p2,p3,p4⟩:=jf.obj id _ hH;obtain⟨g1,g2⟩:=jf.jk hH rfl;have go:aO P V (do Zs t (.map (some (E.blk id))) K X;pure Next.skip) (mG lv P r o ac N Q) (λv V'=>Q (.panic [{v,recovered:=false}]) ac V'):=by
  refine az ?_;unfold oR at ht;split at ht
  ·rename_i k' e' hu;cases ht;unfold Zs;refine ec hu ?_;dsimp only;refine az (nU p1 p2 p3 g2 (cI ?_));dsimp only;refine hc.bind (hf.bind ?_);have fin:∀y,y=wL es ck K X fd->aO P V (setObj (E.blk id) y) (λ_ V'=>aO P V' (pure Next.skip) (mG lv P r o ac N Q) (λv V'=>Q (.panic [{v,recovered:=false}]) ac V')) (λv V'=>Q (.panic [{v,recovered:=false}]) ac V'):=λy hy=>by
    have fX:y.u7=false:=(by rw[hy];cases fd<;>rfl);have hy2:y.isChan=false:=(by rw[hy];cases fd<;>rfl);refine yD p1 p2 hy2 g2 (cI (aq ?_));exact h1 E _ (ac.put o.dst undef) _ ⟨Env.Le.refl E,dX _ _ _,put_defers _ _ _,rfl,rfl⟩ (by rw[fi];rw[hy];exact jf.setObj hH (by cases fd<;>rfl) (by cases fd<;>rfl))
     (cj.gX (s:=⟨s.T,s.H.set id (.obj (wL es ck K X fd))⟩) aF hd (.val undef)) hn
   cases fd with
   |none=>exact fin _ rfl
   |some iv=>
    obtain⟨i,v⟩:=iv;dsimp only;unfold Instr.keyThatStays;rw[F6 i v rfl];simp only[if_true];exact az (aq (fin _ rfl))
  ·cases ht
 unfold execOp;rcases ho with ho|ho
 all_goals
  rw[ho];simp only[yc,e1,e2];exact go
def ER (es:Array Wl):Option (Nat×SP)->Array Wl
 |some (i,_)=>es.eraseIdxIfInBounds i
 |none=>es
theorem aqV{c:Xo}{t t' kt et:TypeId}{m k:Th}{id ck:Nat}{es:Array Wl}{a:AV}{K:SP}{fd:Option (Nat×SP)}(ho:o.op=.call c)(aY:c.callee=.builtin .delete)(cN:c.args=#[m,k]) (dW:c.argTypes=#[t,t']) (ht:oR P t=some (kt,et)) (hm:s.ev m=some (.mp id)) (hk:s.ev k=some a) (hK:a.raw=some K)
  (hH:s.H[id]?=some (.obj (.map es ck))) (hc:cM P (Vd es.isEmpty 10000 kt K) ()) (hf:cM P (VN kt K es.toList) fd)
  (hn:next ((⟨s.T,s.H.set id (.obj (.map (ER es fd) ck))⟩:AS).put o.dst (.val undef))):Step lv P r o s next bad:=by
 intro E V ac N Q jf aF hd bz h1 _;refine⟨bz,?_⟩;have e1:=(ap.ev aF hk).raw hK;have pc:=ap.ev aF hm;generalize yc:ac.eval m=vm at pc;cases pc;obtain⟨p1,p2,p3,p4⟩:=jf.obj id _ hH;obtain⟨g1,g2⟩:=jf.jk hH rfl;unfold execOp;rw[ho];dsimp only;unfold resolve;rw[aY];dsimp only;refine az (aq ?_);unfold invoke builtin;dsimp only;refine az ?_;have nE:c.args.map ac.eval=#[.map (some (E.blk id)),K]:=by rw[cN];simp[yc,e1]
 rw[nE,dW];unfold oR at ht;split at ht
 ·rename_i k' e' hu;cases ht;unfold aug;simp only[Vg,Vr,UL];refine ec hu ?_;dsimp only;refine az (nU p1 p2 p3 g2 (cI ?_));dsimp only;refine hc.bind (hf.bind ?_);have fin:∀ut,ut=(ER es fd)->aO P V (setObj (E.blk id) (.map ut ck)) (λ_ V'=>aO P V' (pure (YH #[])) (λx V'=>aO P V' (pure (W3 x)) (mG lv P r o ac N Q) (λv V'=>Q (.panic [{v,recovered:=false}]) ac V')) (λv V'=>Q (.panic [{v,recovered:=false}]) ac V')) (λv V'=>Q (.panic [{v,recovered:=false}]) ac V'):=λy hy=>by
   refine yD p1 p2 rfl g2 (cI (aq (aq ?_)));exact h1 E _ (ac.put o.dst undef) _ ⟨Env.Le.refl E,dX _ _ _,put_defers _ _ _,rfl,rfl⟩ (by rw[fi];rw[hy];exact jf.setObj hH rfl rfl)
    (cj.gX (s:=⟨s.T,s.H.set id (.obj (.map (ER es fd) ck))⟩) aF hd (.val undef)) hn
  cases fd with
  |none=>exact az (fin _ rfl)
  |some iv=>exact az (fin _ rfl)
 ·cases ht
theorem aq0{t kt et:TypeId}{x:Th}{m ck:Nat}{es:Array Wl}(ho:o.op=.range t x)(ht:oR P t=some (kt,et))(hx:s.ev x=some (.mp m))(hH:s.H[m]?=some (.obj (.map es ck)))
  (hn:next ((⟨s.T,s.H++[.iter m ck #[] ck]⟩:AS).put o.dst (.op s.H.length 0))):Step lv P r o s next bad:=by
 intro E V ac N Q hc aF hd bz h1 _;refine⟨bz,?_⟩;have pc:=ap.ev aF hx;generalize yc:ac.eval x=vm at pc;cases pc with
 |mp hm=>
  obtain⟨p1,p2,p3,p4⟩:=hc.obj m _ hH;obtain⟨g1,g2⟩:=hc.jk hH rfl;unfold execOp;rw[ho];simp only[yc];refine az ?_;unfold oR at ht;split at ht
  ·rename_i k' e' hu;cases ht;unfold Instr.range;refine ec hu ?_;refine az (nU p1 p2 p3 g2 (cI ?_));dsimp only;refine az (aq ?_);refine az (oJ λrr hf=>cI (aq (aq ?_)));have hle:E.Le (E.add rr V.ab):=E.qC rr (λb o v h=>by rw[<- hc.I];exact h);have bm:Conc (E.add rr V.ab) (V.upd rr (.mapIter (some (E.blk m)) ck #[] ck)) (s.H++[.iter m ck #[] ck]):=by
    refine hc.add hf _ ⟨?_,?_,λo=> ?_⟩ (λb e=> ?_)
    ·exact Nat.lt_succ_of_lt hm
    ·rw[Env.dL,hle.blk m hm];simp[View.upd]
    ·rw[Env.dL];exact hf.2 o
    ·simp only[bL,Env.dL,Tj]at e;exact e.symm
   exact h1 _ _ (ac.put o.dst (.pointer (some ⟨rr,0,none⟩))) ((⟨s.T,s.H++[.iter m ck #[] ck]⟩:AS).put o.dst (.op s.H.length 0)) ⟨hle,dX _ _ _,put_defers _ _ _,rfl,rfl⟩ (by rw[fi];exact bm)
    (cj.gX (s:=⟨s.T,s.H++[.iter m ck #[] ck]⟩) (aF.mono hle) hd (Pu hc.n rr V.ab)) hn
  ·cases ht
theorem Conc.setIter{E:Env}{V:View}{H:List aa}(hc:Conc E V H){id m a c:Nat}{b:Array Nat}(hk:H[id]?=some (.iter m a b c))(a':Nat)(b':Array Nat)(c':Nat):Conc E (V.upd (E.blk id) (.mapIter (some (E.blk m)) a' b' c')) (H.set id (.iter m a' b' c')):=by
 obtain⟨p1,p2,p4⟩:=hc.obj id _ hk;refine hc.iJ id (.iter m a' b' c') (Env.Le.refl E) hc.I (by simpa using hc.n) ly rfl (λ_ _ _=>rfl) (λb z hb hz=>⟨?_,λ_=>rfl⟩) ⟨p1,by simp[View.upd],p4⟩ (λb h=> .inl ⟨_,hk,h⟩);have:b≠E.blk id:=λe=>hb _ hk (by rw[e];rfl);simpa[View.upd,this]using hz
theorem aqY{it:Th}{id m since ck tY:Nat}{seen:Array Nat}{es:Array Wl}(ho:o.op=.next it false)(hi:s.ev it=some (.op id 0))(hI:s.H[id]?=some (.iter m since seen tY))(hM:s.H[m]?=some (.obj (.map es ck)))
  (au:es.all (λe=>decide (e.born>=tY))=false\/es.isEmpty=true\/seen.isEmpty=true)
  (hn:∀e∈es,e.born∉seen->next ((⟨s.T,s.H.set id (.iter m since (seen.push e.born) ck)⟩:AS).put o.dst (.aL [.val (.bool true),AV.of e.key,AV.of e.val])))
  (akV:(∀e∈es,e.born<since->e.born∈seen)->next (s.put o.dst (.aL [.val (.bool false)]))):Step lv P r o s next bad:=by
 intro E V ac N Q hc aF hd bz h1 _;refine⟨bz,?_⟩;have kG:=ap.ev aF hi;generalize qB:ac.eval it=vi at kG;cases kG with
 |op bT=>
  obtain⟨q1,q2,q3⟩:=hc.obj id _ hI;obtain⟨p1,p2,p3,p4⟩:=hc.obj m _ hM;have gi:=hc.jk hI rfl;have gm:=hc.jk hM rfl;unfold execOp;rw[ho];simp only[qB];refine az ?_;unfold Instr.next;dsimp only;refine az (nU q2 rfl rfl gi.2 (cI ?_));dsimp only;refine az (nU p1 p2 p3 gm.2 (cI ?_));dsimp only;rw[if_neg (by
   intro h;simp only[Ti,TY]at h;rcases au with hk|hk|hk
   ·rw[hk]at h;cases h.2
   ·rw[hk]at h;cases h.1.2
   ·rw[hk]at h;cases h.1.1)]
  generalize Rk:(if((es.filter λe=> !seen.contains e.born).filter (λe=>decide (e.born<since))).isEmpty=true then#[none]else#[])++((es.filter λe=> !seen.contains e.born).filter (λe=>decide (e.born<since))++(es.filter λe=> !seen.contains e.born).filter (λe=>decide (e.born>=since))).map some=zg;have cK:∀x∈zg,match x with
    |some e=>e∈es/\e.born∉seen
    |none=>∀e∈es,e.born<since->e.born∈seen:=by
   intro x hx;rw[<- Rk]at hx;rcases Uu.1 hx with hx|hx
   ·split at hx
    ·rename_i te;simp at hx;subst hx;intro e he hlt;apply Tm;intro ik;have:e∈((es.filter λe=> !seen.contains e.born).filter (λe=>decide (e.born<since))):=(by simp[he,hlt,ik]);rw[Zd]at te;rw[te]at this;simp at this
    ·simp at hx
   ·rw[Array.mem_map]at hx;obtain⟨e,he,rfl⟩:=hx;rcases Uu.1 he with he|he<;>simp at he<;>exact⟨he.1,he.2.2⟩
  have uR:0<zg.size:=by
   rw[<- Rk];split
   ·simp;omega
   ·rename_i te;have:0<((es.filter λe=> !seen.contains e.born).filter (λe=>decide (e.born<since))).size:=by
     rw[Zd]at te;exact Array.size_pos_iff.2 te
    simp only[XA,Array.size_map,List.size_toArray,UN];omega
  have fin:∀j,j<zg.size->aO P V (match zg[j]?with
    |some (some e)=>do setObj (E.blk id) (.mapIter (some (E.blk m)) since (seen.push e.born) ck);pure (YH #[.bool true,e.key,e.val])
    |some none=>pure (YH #[.bool false])
    | none => stuck "Next: no such candidate") (λx V' => aO P V' (pure (W3 x)) (mG lv P r o ac N Q) (λv V' => Q (.panic [{ v, recovered := false }]) ac V')) (λv V' => Q (.panic [{ v, recovered := false }]) ac V') := by
   intro j hj;rw[SJ hj];have hm:=cK zg[j] (XR hj);generalize zg[j]=x at hm;cases x with
   |none=>
    dsimp only;refine aq (aq ?_);exact h1 E V (ac.put o.dst _) (s.put o.dst (.aL [.val (.bool false)])) ⟨Env.Le.refl E,dX _ _ _,put_defers _ _ _,rfl,rfl⟩ (by rw[fi];exact hc)
     (cj.gX aF hd (.aL rfl λi b hb=>by
      match i,hb with
      |0,hb=>cases hb;exact .val _)) (akV hm)
   |some e=>
    dsimp only;refine az (yD q2 rfl rfl gi.2 (cI (aq (aq ?_))));exact h1 E _ (ac.put o.dst _) _ ⟨Env.Le.refl E,dX _ _ _,put_defers _ _ _,rfl,rfl⟩ (by rw[fi];exact hc.setIter hI since (seen.push e.born) ck)
     (cj.gX (s:=⟨s.T,s.H.set id (.iter m since (seen.push e.born) ck)⟩) aF hd (.aL rfl λi b hb=>by
      match i,hb with
      |0,hb=>cases hb;exact .val _
      |1,hb=>cases hb;exact sQ E _
      |2,hb=>cases hb;exact sQ E _)) (hn e hm.1 hm.2)
  refine az (ach (λhf=>cI (fin 0 uR)) (λhf t=>cI (fin _ (ar_ _ uR))))
def AV.found (z:SP)(ok:Bool):Option (Nat×SP)->AV
 |some (_,v)=>if ok then .aL [AV.of v,.val (.bool true)]else AV.of v
 |none=>if ok then .aL [AV.of z,.val (.bool false)]else AV.of z
theorem ao0{t kt et:TypeId}{m k:Th}{id ck:Nat}{es:Array Wl}{a:AV}{K z:SP}{ok:Bool}{fd:Option (Nat×SP)}(ho:o.op=.lookup t m k ok)(ht:oR P t=some (kt,et))(hz:eN P et=some z)(hm:s.ev m=some (.mp id))(hk:s.ev k=some a)(hK:a.raw=some K)
  (hH:s.H[id]?=some (.obj (.map es ck))) (hc:cM P (Vd es.isEmpty 10000 kt K) ()) (hf:cM P (VN kt K es.toList) fd):dB lv P r o s (AV.found z ok fd):=
 iX (λE V ac jf aF=>by
  have e1:=(ap.ev aF hk).raw hK;have pc:=ap.ev aF hm;generalize yc:ac.eval m=vm at pc;cases pc;obtain⟨p1,p2,p3,p4⟩:=jf.obj id _ hH;have g:=jf.jk hH rfl;unfold oR at ht;split at ht
  ·rename_i k' e' hu;cases ht;unfold execOp;rw[ho];simp only[yc,e1];refine az ?_;unfold Instr.lookup;refine ec hu ?_;dsimp only;refine az (az (nU p1 p2 p3 g.2 (aq (aq ?_))));refine hc.bind (az (hf.ok ?_));have two:∀(v:SP)(b:Bool)(i:Nat)(x:AV),[AV.of v,.val (.bool b)][i]?=some x->ap E x ((#[v,W_ b]:Array SP).getD i undef):=λv b i x hx=>by
    match i,hx with
    |0,hx=>cases hx;exact sQ E _
    |1,hx=>cases hx;exact .val _
   cases fd with
   |some iv=>
    obtain⟨i,v⟩:=iv;refine aq (aq ⟨rfl,_,rfl,?_⟩);cases ok with
    |true=>exact .aL rfl (two v true)
    |false=>exact sQ E _
   |none=>
    refine Hj hz (aq (aq ⟨rfl,_,rfl,?_⟩));cases ok with
    |true=>exact .aL rfl (two z false)
    |false=>exact sQ E _
  ·cases ht)
theorem aoN{it:Th}{id m since ck:Nat}{seen:Array Nat}{es:Array Wl}{b:Nat}{e:Wl}(ho:o.op=.entry it)(hi:s.ev it=some (.op id 0))(hI:s.H[id]?=some (.iter m since seen ck))(hM:s.H[m]?=some (.obj (.map es ck)))
  (hb:seen.back?=some b) (he:es.find? (·.born==b)=some e):dB lv P r o s (.aL [AV.of e.key,AV.of e.val]):=
 iX (λE V ac hc aF=>by
  have kG:=ap.ev aF hi;generalize qB:ac.eval it=vi at kG;cases kG with
  |op bT=>
   obtain⟨q1,q2,q3⟩:=hc.obj id _ hI;obtain⟨p1,p2,p3,p4⟩:=hc.obj m _ hM;have gi:=hc.jk hI rfl;have gm:=hc.jk hM rfl;unfold execOp;rw[ho];simp only[qB];refine az ?_;unfold Instr.entry;dsimp only;refine az (nU q2 rfl rfl gi.2 (cI ?_));dsimp only;rw[hb];dsimp only;refine az (nU p1 p2 p3 gm.2 (cI ?_));dsimp only;rw[if_neg (by simp)];rw[he];refine aq (aq ⟨rfl,_,rfl,.aL rfl λi b hb=> ?_⟩)
   match i,hb with
   |0,hb=>cases hb;exact sQ E _
   |1,hb=>cases hb;exact sQ E _)
end
open Go.Conc
def gQ (E:Env)(V:View)(k:AV->List aa->Prop)(kp:AV->List aa->Prop):Out->View->Prop
 |.ret v,V'=>∃av E' H',E.Le E'/\V'.role=V.role/\V'.deaf=V.deaf/\ap E' av v/\Conc E' V' H'/\k av H'
 |.panic ch,V'=>∃pv v E' H',ch=[{v,recovered:=false}]/\E.Le E'/\V'.role=V.role/\V'.deaf=V.deaf/\ap E' pv v/\Conc E' V' H'/\kp pv H'
def bh (lv:Bool)(P:SI)(f:TO)(H:List aa)(args:List AV)(k:AV->List aa->Prop)(kp:AV->List aa->Prop):Prop:=
 ∀(E:Env)(V:View)(vs:Array SP),Conc E V H->cJ E args vs->Body lv P f vs .normal V (gQ E V k kp)
def Nx (lv:Bool)(P:SI)(R:Out->View->Prop):Next->View->Prop
 |.value v,V=>R (.ret v) V
 |.skip,V=>R (.ret undef) V
 |.enter f args,V=>Body lv P f args .normal V R
 |.round l f tmps assign body,V=>mZ lv P (W8 l f tmps assign body .normal) V R
 |_,_=>False
def i_ (lv:Bool)(P:SI)(c:AV)(H:List aa)(args:List AV)(k:AV->List aa->Prop)(kp:AV->List aa->Prop):Prop:=
 ∀(E:Env)(V:View)(cv:SP)(vs:Array SP),Conc E V H->ap E c cv->cJ E args vs->
  aO P V (do let d<- U4 cv vs;invoke d.target d.args) (λnx V'=>Nx lv P (gQ E V k kp) nx V') (λv V'=>gQ E V k kp (.panic [{v,recovered:=false}]) V')
def Ep (lv:Bool)(P:SI)(c:AV)(name:String)(H:List aa)(args:List AV)(k:AV->List aa->Prop)(kp:AV->List aa->Prop):Prop:=
 ∀(E:Env)(V:View)(cv:SP)(vs:Array SP),Conc E V H->ap E c cv->cJ E args vs->
  aO P V (invoke (.fn (.method name) #[]) (#[cv]++vs)) (λnx V'=>Nx lv P (gQ E V k kp) nx V') (λv V'=>gQ E V k kp (.panic [{v,recovered:=false}]) V')
theorem gQ.mono{E:Env}{V:View}{k k' kp wD:AV->List aa->Prop}(h:∀a H,k a H->k' a H)(hp:∀a H,kp a H->wD a H):∀{o V'},gQ E V k kp o V'->gQ E V k' wD o V'
 |.ret _,_,⟨av,E',H',a,b,c,d,e,f⟩=>⟨av,E',H',a,b,c,d,e,h _ _ f⟩
 |.panic _,_,⟨pv,v,E',H',a,b,c,d,e,f,g⟩=>⟨pv,v,E',H',a,b,c,d,e,f,hp _ _ g⟩
theorem Nx.mono{lv:Bool}{P:SI}{R R':Out->View->Prop}(h:∀o V,R o V->R' o V):∀{nx V},Nx lv P R nx V->Nx lv P R' nx V:=by
 intro nx V hn;cases nx with
 |value v=>exact h _ _ hn
 |skip=>exact h _ _ hn
 |enter f args=>exact Body.mono hn h
 |round l f tmps a b=>exact mZ.mono hn h
 |_=>exact hn
theorem bh.mono{lv:Bool}{P:SI}{f:TO}{H:List aa}{args:List AV}{k k' kp wD:AV->List aa->Prop}(h:bh lv P f H args k kp)(hk:∀a H,k a H->k' a H)(hp:∀a H,kp a H->wD a H):bh lv P f H args k' wD:=λE V vs hc hd=>
 (h E V vs hc hd).mono λ_ _ x=>x.mono hk hp
theorem i_.mono{lv:Bool}{P:SI}{f:AV}{H:List aa}{args:List AV}{k k' kp wD:AV->List aa->Prop}(h:i_ lv P f H args k kp)(hk:∀a H,k a H->k' a H)(hp:∀a H,kp a H->wD a H):i_ lv P f H args k' wD:=λE V cv vs hc hd pi=>
 (h E V cv vs hc hd pi).mono (λ_ _ x=>Nx.mono (λ_ _ y=>y.mono hk hp) x) (λ_ _ y=>y.mono hk hp)
def qM (P:SI)(g:TO):Bool:=match P.funcs[g]?with
 | some fn => fn.body.isSome && !(fn.name == "runtime.NumGoroutine")
 |none=>false
theorem ap6{lv:Bool}{P:SI}{V:View}{g:TO}{vs:Array SP}{R:Out->View->Prop}{Kp:SP->View->Prop}(hg:qM P g=true)(h:Body lv P g vs .normal V R):aO P V (callFunc g vs) (λnx V'=>Nx lv P R nx V') Kp:=by
 unfold callFunc;refine az (qG (cI ?_));unfold qM at hg;split at hg
 ·rename_i fn xP;simp only[Ti,TY]at hg;rw[xP];dsimp only;have wa:fn.body.isNone=false:=by
   have h1:=hg.1;cases hb:fn.body with
   |none=>rw[hb]at h1;cases h1
   |some _=>rfl
  rw[if_neg (by rw[hg.2];simp),if_neg (by rw[wa];simp)];exact aq h
 ·cases hg
section
variable {lv:Bool}{P:SI}{H:List aa}{args:List AV}{k kp:AV->List aa->Prop}
theorem IB{g:TO}{first cT:List AV}(hg:qM P g=true)(hf:bh lv P g H (first++args++cT) k kp):i_ lv P (.fn (.func g) first cT) H args k kp:=by
 intro E V cv vs hc hd pi;cases hd with
 |fn dP fW h1 h2=>
  rename_i fa ca;unfold U4;refine az (aq ?_);unfold invoke;dsimp only;exact ap6 hg (hf E V _ hc (BU (BU ⟨dP,h1⟩ pi) ⟨fW,h2⟩))
end
def ff (s:AS):List Th->Option (List AV)
 |[]=>some []
 |x::l=>match s.ev x,ff s l with
  |some a,some aE=>some (a::aE)
  |_,_=>none
theorem zr{E:Env}{s:AS}{a:Act}(k:cj E s.T a.tmps):∀{l:List Th}{aE:List AV},ff s l=some aE->cJ E aE (l.map a.eval).toArray
 |[],_,h=>by cases h;exact⟨rfl,by simp⟩
 |x::l,aE,h=>by
  simp only[ff]at h;split at h
  ·rename_i av ma h1 h2;cases h;have ih:=zr k h2;refine⟨by have:=ih.1;simpa using this,λi b e=> ?_⟩;cases i with
   |zero=>simp at e;subst e;simpa[SH]using ap.ev k h1
   |succ i=>
    simp only[UL]at e;have:=ih.2 i b e;simpa[SH]using this
  ·cases h
section
variable {lv:Bool}{P:SI}{r:Option Nat}{o:Tu}{s:AS}{next:AS->Prop}{bad:AV->AS->Prop}
theorem abn{E:Env}{V:View}{a:Act}{N:Act->View->Prop}{Q:Ex->Act->View->Prop}(aF:cj E s.T a.tmps)(hd:∀d,o.dst=some d->d<a.tmps.size)
  (h1:∀E' V' a' s',Kept E E' V V' a a'->Conc E' V' s'.H->cj E' s'.T a'.tmps->next s'->N a' V')
  (h2:∀E' V' s' pv v,Kept E E' V V' a a->Conc E' V' s'.H->cj E' s'.T a.tmps->ap E' pv v->bad pv s'->Q (.panic [{v,recovered:=false}]) a V'):
  (∀nx V',Nx lv P (gQ E V (λb H'=>next ((⟨s.T,H'⟩:AS).put o.dst b)) (λpv H'=>bad pv ⟨s.T,H'⟩)) nx V'->mG lv P r o a N Q nx V')/\
  (∀v V',gQ E V (λb H'=>next ((⟨s.T,H'⟩:AS).put o.dst b)) (λpv H'=>bad pv ⟨s.T,H'⟩) (.panic [{v,recovered:=false}]) V'->Q (.panic [{v,recovered:=false}]) a V'):=by
 have hv:∀v V',gQ E V (λb H'=>next ((⟨s.T,H'⟩:AS).put o.dst b)) (λpv H'=>bad pv ⟨s.T,H'⟩) (.ret v) V'->N (a.put o.dst v) V':=λv V' ⟨av,E',H',hle,b8,eW,bp,bm,hk⟩=>
  h1 E' V' _ _ ⟨hle,dX _ _ _,put_defers _ _ _,b8,eW⟩ (by rw[fi];exact bm) (cj.gX (s:=⟨s.T,H'⟩) (aF.mono hle) hd bp) hk
 have hp:∀ch V',gQ E V (λb H'=>next ((⟨s.T,H'⟩:AS).put o.dst b)) (λpv H'=>bad pv ⟨s.T,H'⟩) (.panic ch) V'->Q (.panic ch) a V':=λch V' ⟨pv,v,E',H',eI,hle,b8,eW,bp,bm,hk⟩=>by
  subst eI;exact h2 E' V' ⟨s.T,H'⟩ pv v ⟨hle,rfl,rfl,b8,eW⟩ bm (aF.mono hle) bp hk
 refine⟨λnx V' hn=> ?_,λv V' h=>hp _ _ h⟩;cases nx with
 |value v=>exact hv _ _ hn
 |skip=>exact hv _ _ hn
 |enter f args=>
  refine Body.mono (R':=fun
   |.ret v,V'=>N (a.put o.dst v) V'
   |.panic ch,V'=>Q (.panic ch) a V') hn λot aR h=> ?_
  cases ot with
  |ret v=>exact hv _ _ h
  |panic ch=>exact hp _ _ h
 |round l f tmps aE b=>
  refine mZ.mono (R':=fun
   |.ret v,V'=>N (a.put o.dst v) V'
   |.panic ch,V'=>Q (.panic ch) a V') hn λot aR h=> ?_
  cases ot with
  |ret v=>exact hv _ _ h
  |panic ch=>exact hp _ _ h
 |_=>exact hn.elim
theorem NC{c:Xo}{x:Th}{sN:AV}{aE:List AV}(ho:o.op=.call c)(aY:c.callee=.value x)(hx:s.ev x=some sN)(has:ff s c.args.toList=some aE)
  (hf:i_ lv P sN s.H aE (λb H'=>next ((⟨s.T,H'⟩:AS).put o.dst b)) (λpv H'=>bad pv ⟨s.T,H'⟩)):Step lv P r o s next bad:=by
 intro E V a N Q hc aF hd bz h1 h2;have rO:=abn (lv:=lv) (P:=P) (r:=r) aF hd h1 h2;refine⟨bz,?_⟩;unfold execOp;rw[ho];dsimp only;unfold resolve;rw[aY];dsimp only;have e:c.args.map a.eval=(c.args.toList.map a.eval).toArray:=by apply VF;simp
 rw[e];exact(hf E V (a.eval x) _ hc (ap.ev aF hx) (zr aF has)).mono (λnx V' h=>rO.1 nx V' h) (λv V' h=>rO.2 v V' h)
theorem acN{c:Xo}{x:Th}{name:String}{sN:AV}{aE:List AV}(ho:o.op=.call c)(aY:c.callee=.invoke x name)(hx:s.ev x=some sN)(has:ff s c.args.toList=some aE)
  (hf:Ep lv P sN name s.H aE (λb H'=>next ((⟨s.T,H'⟩:AS).put o.dst b)) (λpv H'=>bad pv ⟨s.T,H'⟩)):Step lv P r o s next bad:=by
 intro E V a N Q hc aF hd bz h1 h2;have rO:=abn (lv:=lv) (P:=P) (r:=r) aF hd h1 h2;refine⟨bz,?_⟩;unfold execOp;rw[ho];dsimp only;unfold resolve;rw[aY];dsimp only;refine az (aq ?_);have e:c.args.map a.eval=(c.args.toList.map a.eval).toArray:=by apply VF;simp
 rw[e];exact(hf E V (a.eval x) _ hc (ap.ev aF hx) (zr aF has)).mono (λnx V' h=>rO.1 nx V' h) (λv V' h=>rO.2 v V' h)
theorem aqZ{x:Th}{t:TypeId}{av:AV}(ho:o.op=.panic x)(hx:s.ev x=some (.c9 t av))(hb:bad (.c9 t av) s):Step lv P r o s next bad:=by
 intro E V a N Q hc aF hd bz _ h2;refine⟨bz,?_⟩;have dw:=ap.ev aF hx;unfold execOp;rw[ho];dsimp only;refine az ?_;generalize a.eval x=v at dw⊢;have akf:=dw;cases dw with
 |c9 hv=>
  unfold Instr.panic;dsimp only;exact aqe (h2 E V s (.c9 t av) _ ⟨Env.Le.refl E,rfl,rfl,rfl,rfl⟩ hc aF akf hb)
end
structure Er (k kp:AV->List aa->Prop):Type where
 n:Nat
def A_ (lv:Bool)(P:SI)(c:AV)(H:List aa)(args:List AV)(k kp:AV->List aa->Prop)(_t:Er k kp):Prop:=i_ lv P c H args k kp
def adJ (lv:Bool)(P:SI)(c:AV)(name:String)(H:List aa)(args:List AV)(k kp:AV->List aa->Prop)(_t:Er k kp):Prop:=Ep lv P c name H args k kp
theorem xh{lv:Bool}{P:SI}{c:AV}{H:List aa}{args:List AV}{k kp:AV->List aa->Prop}{t:Er k kp}(h:i_ lv P c H args k kp):A_ lv P c H args k kp t:=h
def ao {α:Type}(x:Option α)(k:α->Prop):Prop:=match x with
 |some a=>k a
 |none=>False
def AV.asBool (a:AV)(k:Bool->Prop):Prop:=match a with
 |.val (.bool b)=>k b
 |_=>False
def AV.asInt (a:AV)(k:TW->Int->Prop):Prop:=match a with
 |.val (.int j n)=>k j n
 |_=>False
def AV.xe (a:AV)(k:List AV->Prop):Prop:=match a with
 |.aL l=>k l
 |_=>False
def AV.asAgg (a:AV)(k:List AV->Prop):Prop:=match a with
 |.agg l=>k l
 |_=>False
def AV.pU (a:AV)(k:Nat->Nat->Prop):Prop:=match a with
 |.op i j=>k i j
 |_=>False
def AV.sI (a:AV)(k:Nat->Prop):Prop:=match a with
 |.mp i=>k i
 |_=>False
def AV.vL (a:AV)(k:Nat->List AV->End->Prop):Prop:=match a with
 |.sl n l e=>k n l e
 |_=>False
theorem ao.out{α:Type}{x:Option α}{k:α->Prop}(h:ao x k):∃a,x=some a/\k a:=by
 cases x with
 |none=>exact h.elim
 |some a=>exact⟨a,rfl,h⟩
theorem BH{a:AV}{k:Bool->Prop}(h:a.asBool k):∃b,a=.val (.bool b)/\k b:=by
 unfold AV.asBool at h;split at h
 ·exact⟨_,rfl,h⟩
 ·exact h.elim
theorem n9{a:AV}{k:TW->Int->Prop}(h:a.asInt k):∃j n,a=.val (.int j n)/\k j n:=by
 unfold AV.asInt at h;split at h
 ·exact⟨_,_,rfl,h⟩
 ·exact h.elim
theorem ae6{a:AV}{k:List AV->Prop}(h:a.xe k):∃l,a=.aL l/\k l:=by
 unfold AV.xe at h;split at h
 ·exact⟨_,rfl,h⟩
 ·exact h.elim
theorem aeX{a:AV}{k:List AV->Prop}(h:a.asAgg k):∃l,a=.agg l/\k l:=by
 unfold AV.asAgg at h;split at h
 ·exact⟨_,rfl,h⟩
 ·exact h.elim
theorem BI{a:AV}{k:Nat->Nat->Prop}(h:a.pU k):∃i j,a=.op i j/\k i j:=by
 unfold AV.pU at h;split at h
 ·exact⟨_,_,rfl,h⟩
 ·exact h.elim
theorem EF{a:AV}{k:Nat->Prop}(h:a.sI k):∃i,a=.mp i/\k i:=by
 unfold AV.sI at h;split at h
 ·exact⟨_,rfl,h⟩
 ·exact h.elim
theorem Oz{a:AV}{k:Nat->List AV->End->Prop}(h:a.vL k):∃n l e,a=.sl n l e/\k n l e:=by
 unfold AV.vL at h;split at h
 ·exact⟨_,_,_,rfl,h⟩
 ·exact h.elim
section
variable (P:SI)(s:AS)
def dH (op:V_)(xt:TypeId)(a b:AV)(k:AV->Prop):Prop:=match a,b with
 |.val (.int j m),.val (.int j' n)=>if mQ op then ao (AU op j m n) λv=>k (.val v)else j'=j/\ao (mb op j m n) λv=>k (.val v)
 |_,_=>(op=.eql\/op=.neq)/\ao a.raw λX=>ao b.raw λY=>zo X Y=true/\P.eqGuardType P.depth xt=false/\∃e,cM P (Xn xt X Y) e/\k (.val (.bool (if op== .neq then !e else e)))
def iK (op:V_)(xt:TypeId)(y:Th)(a:AV)(k:AV->Prop):Prop:=match y,a with
 |.const .nilIface,.val .nilIface=>mq P xt=some true/\(op=.eql\/op=.neq)/\k (.val (.bool (if op== .neq then false else true)))
 |.const .nilIface,.c9 _ _=>mq P xt=some true/\(op=.eql\/op=.neq)/\k (.val (.bool (if op== .neq then true else false)))
 |y,a=>ao (s.ev y) λb=>dH P op xt a b k
def su (t:TypeId)(a:AV)(l h m:Option Int)(k:AV->Prop):Prop:=match a with
 |.sl n li e=>ao (kB P t) λ(_,sz)=>w8 n li e sz l h m k
 |.bw id off n cap=>ao (kB P t) λ(_,sz)=>sE id off n cap sz l h m k
 |.op id off=>ao (wZ P t) λ(n,sz)=>sE id off n n sz l h m k
 |_=>False
def sr (t:TypeId)(a:AV)(k:AV->Prop):Prop:=match lE P t,a with
 |some .slice,.sl n _ _=>k (.val (.int .i64 n))
 |some .slice,.bw _ _ n _=>k (.val (.int .i64 n))
 |some .str,.val (.string b)=>k (.val (.int .i64 b.size))
 |some .map,.mp id=>match s.H[id]?with
  |some (.obj (.map es _))=>k (.val (.int .i64 es.size))
  |_=>False
 |_,_=>False
def mA (a:AV)(k:AV->Prop):Prop:=match a with
 |.fn (.method name) [.c9 t av] []=>Ia P t name/\k (.fn (.method name) [.c9 t av] [])
 |a=>a.sure=true/\k a
def A7 (aE:TypeId)(ok:Bool)(a:AV)(k:AV->Prop):Prop:=mq P aE=some false/\ao (eN P aE) λz=>match a with
 |.c9 t av=>if t=aE then k (if ok then .aL [av,.val (.bool true)]else av)else ok=true/\k (.aL [AV.of z,.val (.bool false)])
 |.val .nilIface=>ok=true/\k (.aL [AV.of z,.val (.bool false)])
 |_=>False
def lD (o:Tu)(k:AV->Prop):Prop:=match o.op with
 |.move x=>ao (s.ev x) k
 |.assign x=>ao (s.ev x) k
 |.pick c x y=>ao (s.ev c) λb=>ao (s.ev x) λa=>ao (s.ev y) λa'=>b.asBool λb=>k (if b then a else a')
 |.binOp op xt x y _=>ao (s.ev x) λa=>iK P s op xt y a k
 |.unOp .not _ x=>ao (s.ev x) λa=>a.asBool λb=>k (.val (.bool !b))
 |.unOp .neg _ x=>ao (s.ev x) λa=>a.asInt λj n=>k (.val (.int j (j.wrap (0-n))))
 |.convert src dst x=>ao (s.ev x) λa=>match A' P src dst with
   |some (some j)=>a.asInt λ_ n=>k (.val (.int j (j.wrap n)))
   |_=>False
 |.extract x i=>ao (s.ev x) λa=>a.xe λl=>ao l[i]? k
 |.nilCheck x=>ao (s.ev x) λa=>mA P a k
 |.makeInterface t x=>mq P t=some false/\ao (s.ev x) λa=>k (.c9 t a)
 |.makeFunc f first cT=>ao (first.toList.mapM s.ev) λfa=>ao (cT.toList.mapM s.ev) λca=>k (.fn f fa ca)
 |.typeAssert x _ aE ok=>ao (s.ev x) λa=>A7 P aE ok a k
 |.build t parts=>ao (oO P t) λ(pl,z)=>ao (j_ s parts.toList) λaE=>ao (og pl.at (l7 z) aE) λl=>k (.agg l)
 |.buildSlice t len parts=>ao (qX P t) λ(_,sz,z)=>len* sz<=2^24/\ao (j_ s parts.toList) λaE=>ao (og (iz.at (.elems sz)) (gM z (len* sz)) aE) λl=>k (.sl len l .exact)
 |.fieldAddr t x f=>ao (s.ev x) λa=>ao (e_ P t f) λn=>ao (a.shift n) k
 |.indexAddr t x ix=>ao (s.ev x) λa=>ao (s.ev ix) λi=>i.asInt λ_ i=>ao (nX P t) fun
   |(some n,sz)=>(0<=i/\i<n)/\ao (a.shift (i.toNat* sz)) k
   |(none,sz)=>ao a.row λ(n,p)=>(0<=i/\i<n)/\ao (p.shift (i.toNat* sz)) k
 |.field t x f=>ao (s.ev x) λa=>a.asAgg λl=>ao (Ib P t f) λ(off,n,g)=>ao (AV.cut l off n g) k
 |.index t x ix=>ao (s.ev x) λa=>ao (s.ev ix) λi=>i.asInt λ_ i=>match a with
   |.agg l=>ao (H5 P t) λ(n,sz,g)=>(0<=i/\i<n)/\ao (AV.cut l (i.toNat* sz) sz g) k
   |.val (.string b)=>(match lE P t with|some .str=>True|_=>False)/\0<=i/\ao b[i.toNat]? λc=>k (.val (.int .u8 c.toNat))
   |_=>False
 |.load t x=>ao (s.ev x) λp=>ao (s.at p) λl=>ao (Ty P t) fun
   |(n,true)=>n<=l.length/\k (.agg (l.take n))
   |(_,false)=>ao l[0]? k
 |.lookup t m k' ok=>ao (oR P t) λ(kt,et)=>ao (eN P et) λz=>ao (s.ev m) λp=>ao (s.ev k') λa=>ao a.raw λK=>p.sI λid=>match s.H[id]?with
  |some (.obj (.map es _))=>cM P (Vd es.isEmpty 10000 kt K) ()/\∃fd,cM P (VN kt K es.toList) fd/\k (AV.found z ok fd)
  |_=>False
 |.slice t x lo hi mx=>ao (s.ev x) λa=>ao (s.jb lo) λl=>ao (s.jb hi) λh=>ao (s.jb mx) λm=>su P t a l h m k
 |.entry it=>ao (s.ev it) λp=>p.pU λid off=>off=0/\match s.H[id]?with
   |some (.iter m _ seen ck)=>match s.H[m]?with
    |some (.obj (.map es Pd))=>Pd=ck/\ao seen.back? λb=>ao (es.find? (·.born==b)) λe=>k (.aL [AV.of e.key,AV.of e.val])
    |_=>False
   |_=>False
 |.call c=>match c.callee with
  |.builtin .len=>ao c.args[0]? λx=>ao c.argTypes[0]? λt=>ao (s.ev x) λa=>sr P s t a k
  |.builtin .max=>match c.args.toList with
   |[x,y]=>ao (s.ev x) λa=>ao (s.ev y) λb=>a.asInt λj m=>b.asInt λ_ n=>k (.val (.int j (if n>m then n else m)))
   |_=>False
  |.builtin .min=>match c.args.toList with
   |[x,y]=>ao (s.ev x) λa=>ao (s.ev y) λb=>a.asInt λj m=>b.asInt λ_ n=>k (.val (.int j (if n<m then n else m)))
   |_=>False
  |_=>False
 |_=>False
end
section
variable {lv:Bool}{P:SI}{r:Option Nat}{o:Tu}{s:AS}
theorem nb{c:Xo}{x y:Th}(h:c.args.toList=[x,y]):c.args=#[x,y]:=by
 apply VF;simpa using h
theorem lD.sound{k:AV->Prop}(h:lD P s o k):∃av,dB lv P r o s av/\k av:=by
 unfold lD at h;split at h
 ·rename_i x ho;obtain⟨a,h1,h2⟩:=h.out;exact⟨a,abS (.inl ho) h1,h2⟩
 ·rename_i x ho;obtain⟨a,h1,h2⟩:=h.out;exact⟨a,abS (.inr ho) h1,h2⟩
 ·rename_i c x y ho;obtain⟨b,h1,h⟩:=h.out;obtain⟨a,h2,h⟩:=h.out;obtain⟨a',h3,h⟩:=h.out;obtain⟨b,rfl,h⟩:=BH h;exact⟨_,ao9 ho h1 h2 h3,h⟩
 ·rename_i op xt x y yt ho;obtain⟨a,h1,hY⟩:=h.out;clear h;unfold iK at hY;split at hY
  ·exact⟨_,abQ ho hY.2.1 h1 (.inl ⟨rfl,rfl⟩) hY.1,hY.2.2⟩
  ·exact⟨_,abQ ho hY.2.1 h1 (.inr ⟨⟨_,_,rfl⟩,rfl⟩) hY.1,hY.2.2⟩
  rename_i n1 n2;clear n1 n2;obtain⟨b,h2,h⟩:=hY.out;unfold dH at h;split at h
  ·rename_i j m j' n;split at h
   ·obtain⟨v,h3,h⟩:=h.out;exact⟨_,apa ho h1 h2 h3,h⟩
   ·obtain⟨rfl,h⟩:=h;obtain⟨v,h3,h⟩:=h.out;exact⟨_,aoJ ho h1 h2 h3,h⟩
  ·obtain⟨ay,h⟩:=h;obtain⟨X,h3,h⟩:=h.out;obtain⟨Y,h4,h⟩:=h.out;obtain⟨h5,h6,e,h7,h⟩:=h;exact⟨_,aoO ho ay h1 h2 h3 h4 h5 h6 h7,h⟩
 ·rename_i t x ho;obtain⟨a,h1,h⟩:=h.out;obtain⟨b,rfl,h⟩:=BH h;exact⟨_,ao8 ho h1,h⟩
 ·rename_i t x ho;obtain⟨a,h1,h⟩:=h.out;obtain⟨j,n,rfl,h⟩:=n9 h;exact⟨_,ao5 ho h1,h⟩
 ·rename_i src dst x ho;obtain⟨a,h1,h⟩:=h.out;split at h
  ·rename_i j hj;obtain⟨j',n,rfl,h⟩:=n9 h;exact⟨_,aoM ho hj h1,h⟩
  ·exact h.elim
 ·rename_i x i ho;obtain⟨a,h1,h⟩:=h.out;obtain⟨l,rfl,h⟩:=ae6 h;obtain⟨b,h2,h⟩:=h.out;exact⟨_,aoP ho h1 h2,h⟩
 ·rename_i x ho;obtain⟨a,h1,h⟩:=h.out;unfold mA at h;split at h
  ·exact⟨_,ao7 ho h1 h.1,h.2⟩
  ·exact⟨_,ao6 ho h1 h.1,h.2⟩
 ·rename_i t x ho;obtain⟨h1,h⟩:=h;obtain⟨a,h2,h⟩:=h.out;exact⟨_,ao2 ho h1 h2,h⟩
 ·rename_i f first cT ho
  obtain⟨fa,h1,h⟩:=h.out;obtain⟨ca,h2,h⟩:=h.out;exact⟨_,ao1 ho h1 h2,h⟩
 ·rename_i x xt aE ok ho;obtain⟨a,h1,hA⟩:=h.out;obtain⟨h2,hB⟩:=hA;obtain⟨z,h3,hC⟩:=hB.out;clear h hB;split at hC
  ·rename_i t av;split at hC
   ·rename_i e;subst e;exact⟨_,abP ho h2 h3 h1 (.inr rfl),by rw[if_pos rfl];exact hC⟩
   ·rename_i e;exact⟨_,abP ho h2 h3 h1 (.inl hC.1),by rw[if_neg e];exact hC.2⟩
  ·obtain⟨e,hC⟩:=hC;subst e;exact⟨_,aoI ho h2 h3 h1,hC⟩
  ·exact hC.elim
 ·rename_i t parts ho;obtain⟨⟨pl,z⟩,h1,h⟩:=h.out;obtain⟨aE,h2,h⟩:=h.out;obtain⟨l,h3,h⟩:=h.out;exact⟨_,aoK ho h1 h2 h3,h⟩
 ·rename_i t len parts ho;obtain⟨⟨e,sz,z⟩,h1,h⟩:=h.out;obtain⟨hs,h⟩:=h;obtain⟨aE,h2,h⟩:=h.out;obtain⟨l,h3,h⟩:=h.out;exact⟨_,aoL ho h1 hs h2 h3,h⟩
 ·rename_i t x f ho;obtain⟨a,h1,h⟩:=h.out;obtain⟨n,hn,h⟩:=h.out;obtain⟨b,h2,h⟩:=h.out;exact⟨_,aoQ ho hn h1 h2,h⟩
 ·rename_i t x ix ho;obtain⟨a,h1,h⟩:=h.out;obtain⟨i,h2,h⟩:=h.out;obtain⟨j,i,rfl,h⟩:=n9 h;obtain⟨⟨on,sz⟩,ht,h⟩:=h.out;cases on with
  |some n=>
   obtain⟨⟨h3,h4⟩,h⟩:=h;obtain⟨q,h5,h⟩:=h.out;exact⟨_,aoT ho ht h1 h2 h3 h4 h5,h⟩
  |none=>
   obtain⟨⟨n,p⟩,aln,h⟩:=ao.out h;obtain⟨⟨h3,h4⟩,h⟩:=h;obtain⟨q,h5,h⟩:=h.out;exact⟨_,aoS ho ht h1 aln h2 h3 h4 h5,h⟩
 ·rename_i t x f ho;obtain⟨a,h1,h⟩:=h.out;obtain⟨l,rfl,h⟩:=aeX h;obtain⟨⟨off,n,g⟩,h2,h⟩:=h.out;obtain⟨b,h3,h⟩:=h.out;exact⟨_,aoR ho h2 h1 h3,h⟩
 ·rename_i t x ix ho;obtain⟨a,h1,h⟩:=h.out;obtain⟨i,h2,h⟩:=h.out;obtain⟨j,i,rfl,h⟩:=n9 h;split at h
  ·obtain⟨⟨n,sz,g⟩,h3,h⟩:=h.out;obtain⟨⟨h4,h5⟩,h⟩:=h;obtain⟨b,h6,h⟩:=h.out;exact⟨_,aoV ho h3 h1 h2 h4 h5 h6,h⟩
  ·obtain⟨h3,h4,h⟩:=h;obtain⟨c,h5,h⟩:=h.out;split at h3
   ·rename_i hl;exact⟨_,aoU ho hl h1 h2 h4 h5,h⟩
   ·exact h3.elim
  ·exact h.elim
 ·rename_i t x ho;obtain⟨p,h1,h⟩:=h.out;obtain⟨l,hl,h⟩:=h.out;obtain⟨⟨n,g⟩,ht,h⟩:=h.out;cases g with
  |true=>exact⟨_,aoY ho ht h1 hl h.1,h.2⟩
  |false=>
   obtain⟨av,h2,h⟩:=ao.out h;exact⟨_,aoZ ho ht h1 hl h2,h⟩
 ·rename_i t m k' ok ho;obtain⟨⟨kt,et⟩,h1,hA⟩:=h.out;obtain⟨z,h2,hB⟩:=hA.out;obtain⟨p,h3,hC⟩:=hB.out;obtain⟨a,h4,hD⟩:=hC.out;obtain⟨K,h5,hE⟩:=hD.out;obtain⟨id,e1,hF⟩:=EF hE;subst e1;split at hF
  ·rename_i es ck hH;obtain⟨h6,fd,h7,h8⟩:=hF;exact⟨_,ao0 ho h1 h2 h3 h4 h5 hH h6 h7,h8⟩
  ·exact hF.elim
 ·rename_i t x lo hi mx ho;obtain⟨a,h1,h⟩:=h.out;obtain⟨l,h2,h⟩:=h.out;obtain⟨hh,h3,h⟩:=h.out;obtain⟨m,h4,h⟩:=h.out;unfold su at h;split at h
  ·obtain⟨⟨e,sz⟩,h5,h⟩:=h.out;exact apb ho h5 h1 h2 h3 h4 h
  ·obtain⟨⟨e,sz⟩,h5,h⟩:=h.out;exact apd ho h5 h1 h2 h3 h4 h
  ·obtain⟨⟨n,sz⟩,h5,h⟩:=h.out;exact apc ho h5 h1 h2 h3 h4 h
  ·exact h.elim
 ·rename_i it ho;obtain⟨p,h1,hA⟩:=h.out;obtain⟨id,off,e1,hB⟩:=BI hA;clear h hA;subst e1;obtain⟨e1,hC⟩:=hB;subst e1;split at hC
  ·rename_i m since seen ck hI;split at hC
   ·rename_i es Pd hM;obtain⟨e1,hD⟩:=hC;subst e1;obtain⟨b,h2,hE⟩:=hD.out;obtain⟨e,h3,hF⟩:=hE.out;exact⟨_,aoN ho h1 hI hM h2 h3,hF⟩
   ·exact hC.elim
  ·exact hC.elim
 ·rename_i c ho;split at h
  ·rename_i aY;obtain⟨x,h1,h⟩:=h.out;obtain⟨t,h2,h⟩:=h.out;obtain⟨a,h3,h⟩:=h.out;unfold sr at h;split at h
   ·rename_i hl;exact⟨_,abR ho aY h1 h2 hl h3 rfl,h⟩
   ·rename_i hl;exact⟨_,abR ho aY h1 h2 hl h3 rfl,h⟩
   ·rename_i hl;exact⟨_,aoX ho aY h1 h2 hl h3,h⟩
   ·rename_i hl;split at h
    ·rename_i hM;exact⟨_,aoW ho aY h1 h2 hl h3 hM,h⟩
    ·exact h.elim
   ·exact h.elim
  ·rename_i aY;split at h
   ·rename_i x y cN;obtain⟨a,h1,hA⟩:=h.out;obtain⟨b,h2,hB⟩:=hA.out;obtain⟨j,m,e1,hC⟩:=n9 hB;obtain⟨j',n,e2,hD⟩:=n9 hC;subst e1 e2;exact⟨_,ao3 ho aY (nb cN) h1 h2,hD⟩
   ·exact h.elim
  ·rename_i aY;split at h
   ·rename_i x y cN;obtain⟨a,h1,hA⟩:=h.out;obtain⟨b,h2,hB⟩:=hA.out;obtain⟨j,m,e1,hC⟩:=n9 hB;obtain⟨j',n,e2,hD⟩:=n9 hC;subst e1 e2;exact⟨_,ao4 ho aY (nb cN) h1 h2,hD⟩
   ·exact h.elim
  ·exact h.elim
 ·exact h.elim
end
open Go.Conc
structure l8 (X Y:Prop):Type where
 n:Nat
def qQ (b bY:Bool)(X Y:Prop)(_t:l8 X Y):Prop:=(b=bY->X)/\(b= !bY->Y)
theorem xA{b bY:Bool}{X Y:Prop}{t:l8 X Y}(h1:b=bY->X)(h2:b= !bY->Y):qQ b bY X Y t:=⟨h1,h2⟩
theorem ajy(X Y:Prop)(t:l8 X Y):qQ true true X Y t=X:=by simp[qQ]
theorem ajx(X Y:Prop)(t:l8 X Y):qQ true false X Y t=Y:=by simp[qQ]
theorem ajw(X Y:Prop)(t:l8 X Y):qQ false true X Y t=Y:=by simp[qQ]
theorem ajv(X Y:Prop)(t:l8 X Y):qQ false false X Y t=X:=by simp[qQ]
section
variable (lv:Bool)(P:SI)
def t_ (H:List aa)(k:AV->List aa->Prop)(id off n c0 m sz:Nat)(elem:TypeId)(l':List AV):Prop:=off=0/\c0<n/\l'.length=m* sz/\n+m<=2^30/\(∀a∈l',a.leaf=true)/\match H[id]?with
 |some (.own ez l el)=>ez=sz/\el=elem/\l.length=n* sz/\k (.bw H.length 0 (n+m) 0) (H.set id .gone++[.own sz (l++l') elem])
 |_=>False
def AV.pV (a:AV)(kO:Nat->Nat->Nat->Nat->Prop)(k:Nat->List AV->End->Prop):Prop:=match a with
 |.bw id off n c=>kO id off n c
 |.sl n l e=>k n l e
 |_=>False
theorem Il{a:AV}{kO:Nat->Nat->Nat->Nat->Prop}{k:Nat->List AV->End->Prop}(h:a.pV kO k):(∃id off n c,a=.bw id off n c/\kO id off n c)\/∃n l e,a=.sl n l e/\k n l e:=by
 unfold AV.pV at h;split at h
 ·exact .inl ⟨_,_,_,_,rfl,h⟩
 ·exact .inr ⟨_,_,_,rfl,h⟩
 ·exact h.elim
def mB (s:AS)(o:Tu)(next:AS->Prop)(bad:AV->AS->Prop):Prop:=match o.op with
 |.box t x=>ao (s.ev x) λa=>ao a.parts λl=>next ((⟨s.T,s.H++[.cells l t]⟩:AS).put o.dst (.op s.H.length 0))
 |.alloc t=>ao (eN P t) λz=>next ((⟨s.T,s.H++[.cells (l7 z) t]⟩:AS).put o.dst (.op s.H.length 0))
 |.store t x y=>ao (s.ev x) λp=>ao (s.ev y) λa=>ao a.parts λlp=>p.pU λid off=>match s.H[id]?with
  |some (.cells l el)=>(ao (Ty P t) λx=>lp.length=x.1)/\off+lp.length<=l.length/\(∀a∈lp,a.leaf=true)/\next ((⟨s.T,s.H.set id (.cells (iG l off lp) el)⟩:AS).put o.dst (.val undef))
  |some (.part p l el)=>p<=off/\(ao (Ty P t) λx=>lp.length=x.1)/\off+lp.length<=l.length/\(∀a∈lp,a.leaf=true)/\next ((⟨s.T,s.H.set id (.part p (iG l off lp) el)⟩:AS).put o.dst (.val undef))
  |some (.own p l el)=>(ao (Ty P t) λx=>lp.length=x.1)/\off+lp.length<=l.length/\(∀a∈lp,a.leaf=true)/\next ((⟨s.T,s.H.set id (.own p (iG l off lp) el)⟩:AS).put o.dst (.val undef))
  |_=>False
 |.makeMap _ none=>next ((⟨s.T,s.H++[.obj (.map #[] 0)]⟩:AS).put o.dst (.mp s.H.length))
 |.makeSlice t x y=>ao (Bj P t) λ(e,sz,z)=>ao (s.ev x) λa=>ao (s.ev y) λb=>a.asInt λ_ n=>b.asInt λ_ n'=>n'=n/\0<=n/\n<=2^30/\next ((⟨s.T,s.H++[.cells (gM z (n.toNat* sz)) e]⟩:AS).put o.dst (.bw s.H.length 0 n.toNat n.toNat))
 |.mapUpdate t m k x=>ao (oR P t) λ(kt,_)=>ao (s.ev m) λp=>ao (s.ev k) λa=>ao (s.ev x) λb=>ao a.raw λK=>ao b.raw λX=>p.sI λid=>match s.H[id]?with
  |some (.obj (.map es ck))=>cM P (Vd false 10000 kt K) ()/\∃fd,cM P (VN kt K es.toList) fd/\(∀i v,fd=some (i,v)->WC 10000 (((es[i]?).map (·.key)).getD K) K=true)/\next ((⟨s.T,s.H.set id (.obj (wL es ck K X fd))⟩:AS).put o.dst (.val undef))
  |_=>False
 |.range t x=>ao (oR P t) λ_=>ao (s.ev x) λp=>p.sI λm=>match s.H[m]?with
  |some (.obj (.map _ ck))=>next ((⟨s.T,s.H++[.iter m ck #[] ck]⟩:AS).put o.dst (.op s.H.length 0))
  |_=>False
 |.next it false=>ao (s.ev it) λp=>p.pU λid off=>off=0/\match s.H[id]?with
  |some (.iter m since seen tY)=>match s.H[m]?with
   |some (.obj (.map es ck))=>(es.all (λe=>decide (e.born>=tY))=false\/es.isEmpty=true\/seen.isEmpty=true)/\
    (∀e∈es,e.born∉seen->next ((⟨s.T,s.H.set id (.iter m since (seen.push e.born) ck)⟩:AS).put o.dst (.aL [.val (.bool true),AV.of e.key,AV.of e.val])))/\
    ((∀e∈es,e.born<since->e.born∈seen)->next (s.put o.dst (.aL [.val (.bool false)])))
   |_=>False
  |_=>False
 |.panic x=>ao (s.ev x) λa=>match a with
  |.c9 t av=>bad (.c9 t av) s
  |_=>False
 |.binOp op t x (.const (.slice none 0 0)) _=>(op=.eql\/op=.neq)/\ao (kB P t) λ_=>ao (s.ev x) λa=>ao a.len λn=>∀b:Bool,(0<n->b=false)->next (s.put o.dst (.val (.bool (if op== .neq then !b else b))))
 |.call c=>match c.callee with
  |.builtin .append=>match c.args.toList,c.argTypes.toList with
   |[x,y],[t,t']=>ao (jR P t t') λ(elem,sz,_)=>ao (s.ev x) λa=>ao (s.ev y) λb=>a.pV (λid off n c0=>ao (s.src sz b) λ(m,l')=>t_ s.H (λb H'=>next ((⟨s.T,H'⟩:AS).put o.dst b)) id off n c0 m sz elem l') λn l e=>ao (s.src sz b) λ(m,l')=>l.length=n* sz/\l'.length=m* sz/\n+m<=2^30/\A9 s o.dst next n m sz elem l l' e
   |_,_=>False
  |.builtin .copy=>match c.args.toList,c.argTypes.toList with
   |[x,y],[t,_]=>ao (kB P t) λ(_,sz)=>ao (s.ev x) λa=>ao (s.ev y) λb=>match a with
    |.bw id off n _=>match s.H[id]?with
     |some (.cells l el)=>ao (s.src sz b) λ(m,l')=>l'.length=m* sz/\off+min m n* sz<=l.length/\(∀a∈l',a.leaf=true)/\next ((⟨s.T,s.H.set id (.cells (iG l off (l'.take (min m n* sz))) el)⟩:AS).put o.dst (.val (.int .i64 (min m n:Nat))))
     |_=>False
    |_=>False
   |_,_=>False
  |.builtin .delete=>match c.args.toList,c.argTypes.toList with
   |[m,k],[t,_]=>ao (oR P t) λ(kt,_)=>ao (s.ev m) λp=>ao (s.ev k) λa=>ao a.raw λK=>p.sI λid=>match s.H[id]?with
    |some (.obj (.map es ck))=>cM P (Vd es.isEmpty 10000 kt K) ()/\∃fd,cM P (VN kt K es.toList) fd/\next ((⟨s.T,s.H.set id (.obj (.map (ER es fd) ck))⟩:AS).put o.dst (.val undef))
    |_=>False
   |_,_=>False
  |.value x=>ao (s.ev x) λf=>ao (ff s c.args.toList) λaE=>A_ lv P f s.H aE (λb H'=>next ((⟨s.T,H'⟩:AS).put o.dst b)) (λpv H'=>bad pv ⟨s.T,H'⟩) ⟨0⟩
  |.invoke x name=>ao (s.ev x) λf=>ao (ff s c.args.toList) λaE=>adJ lv P f name s.H aE (λb H'=>next ((⟨s.T,H'⟩:AS).put o.dst b)) (λpv H'=>bad pv ⟨s.T,H'⟩) ⟨0⟩
  |_=>lD P s o λav=>next (s.put o.dst av)
 |_=>lD P s o λav=>next (s.put o.dst av)
def iy (all:Array Tu):List Tu->AS->(AS->Prop)->(AV->AS->Prop)->Prop
 |[],s,next,_=>next s
 |o::rest,s,next,bad=>match o.guard with
  |none=>mB lv P s o (λs'=>iy all rest s' next bad) bad
  |some (j,bY)=>ao ((all[j]?).bind (·.dst)) λd=>ao (look s.T d) λa=>a.asBool λb=>qQ b bY (mB lv P ⟨(d,.val (.bool bY))::s.T,s.H⟩ o (λs'=>iy all rest s' next bad) bad) (iy all rest ((⟨(d,.val (.bool !bY))::s.T,s.H⟩:AS).put o.dst (.val undef)) next bad) ⟨0⟩
end
section
variable {lv:Bool}{P:SI}{r:Option Nat}{s:AS}
theorem sk{c:Xo}{x y:TypeId}(h:c.argTypes.toList=[x,y]):c.argTypes=#[x,y]:=by
 apply VF;simpa using h
theorem mB.sound{o:Tu}{next:AS->Prop}{bad:AV->AS->Prop}(h:mB lv P s o next bad):Step lv P r o s next bad:=by
 have quiet:(lD P s o λav=>next (s.put o.dst av))->Step lv P r o s next bad:=λh=>by
  obtain⟨av,h1,h2⟩:=h.sound (lv:=lv) (r:=r);exact h1.step h2
 unfold mB at h;split at h
 ·rename_i t x ho;obtain⟨a,h1,h⟩:=h.out;obtain⟨l,h2,h⟩:=h.out;exact acL ho h1 h2 h
 ·rename_i t ho;obtain⟨z,h1,h⟩:=h.out;exact acI ho h1 h
 ·rename_i t x y ho;obtain⟨p,h1,hA⟩:=h.out;obtain⟨a,h2,hB⟩:=hA.out;obtain⟨lp,h3,hC⟩:=hB.out;obtain⟨id,off,e1,hD⟩:=BI hC;clear h hA hB hC;subst e1;split at hD
  ·rename_i l el hk;obtain⟨q1,q2,q3,q4⟩:=hD;obtain⟨⟨n,g⟩,q5,q6⟩:=q1.out;exact acQ ho q5 h1 hk h2 h3 q6 q2 q3 q4
  ·rename_i p l el hk;obtain⟨q0,q1,q2,q3,q4⟩:=hD;obtain⟨⟨n,g⟩,q5,q6⟩:=q1.out;exact aq2 ho q5 h1 hk q0 h2 h3 q6 q2 q3 q4
  ·rename_i p l el hk;obtain⟨q1,q2,q3,q4⟩:=hD;obtain⟨⟨n,g⟩,q5,q6⟩:=q1.out;exact acR ho q5 h1 hk h2 h3 q6 q2 q3 q4
  ·exact hD.elim
 ·rename_i t ho;exact aqW ho h
 ·rename_i t x y ho;obtain⟨⟨e,sz,z⟩,h1,hA⟩:=h.out;obtain⟨a,h2,hB⟩:=hA.out;obtain⟨b,h3,hC⟩:=hB.out;obtain⟨j,n,e1,hD⟩:=n9 hC;obtain⟨j',n',e2,hE⟩:=n9 hD;clear h hA hB hC hD;subst e1 e2;obtain⟨e3,h4,h5,h6⟩:=hE;subst e3;obtain⟨m,rfl⟩:∃m:Nat,n'=m:=⟨n'.toNat,by omega⟩;exact acO ho h1 h2 h3 (by omega) (by simpa using h6)
 ·rename_i t m k x ho;obtain⟨⟨kt,et⟩,h1,hA⟩:=h.out;obtain⟨p,h2,hB⟩:=hA.out;obtain⟨a,h3,hC⟩:=hB.out;obtain⟨b,h4,hD⟩:=hC.out;obtain⟨K,h5,hE⟩:=hD.out;obtain⟨X,h6,hF⟩:=hE.out;obtain⟨id,e1,hG⟩:=EF hF;clear h hA hB hC hD hE hF;subst e1;split at hG
  ·rename_i es ck hH;obtain⟨q1,fd,q2,q3,q4⟩:=hG;exact aqX (.inl ho) h1 h2 h3 h4 h5 h6 hH q1 q2 q3 q4
  ·exact hG.elim
 ·rename_i t x ho;obtain⟨⟨kt,et⟩,h1,hA⟩:=h.out;obtain⟨p,h2,hB⟩:=hA.out;obtain⟨m,e1,hC⟩:=EF hB;clear h hA hB;subst e1;split at hC
  ·rename_i es ck hH;exact aq0 ho h1 h2 hH hC
  ·exact hC.elim
 ·rename_i it ho;obtain⟨p,h1,hA⟩:=h.out;obtain⟨id,off,e1,hB⟩:=BI hA;clear h hA;subst e1;obtain⟨e1,hC⟩:=hB;subst e1;split at hC
  ·rename_i m since seen tY hI;split at hC
   ·rename_i es ck hM;exact aqY ho h1 hI hM hC.1 hC.2.1 hC.2.2
   ·exact hC.elim
  ·exact hC.elim
 ·rename_i x ho;obtain⟨a,h1,hA⟩:=h.out;split at hA
  ·exact aqZ ho h1 hA
  ·exact hA.elim
 ·rename_i op t x yt ho;obtain⟨ay,hA⟩:=h;obtain⟨d,h1,hB⟩:=hA.out;obtain⟨a,h2,hC⟩:=hB.out;obtain⟨n,e1,hD⟩:=hC.out;exact aq1 ho ay h2 e1 h1 hD
 ·rename_i c ho;split at h
  ·rename_i aY;split at h
   ·rename_i x y t t' ha ht;obtain⟨⟨elem,sz,z⟩,h1,hA⟩:=h.out;obtain⟨a,h2,hB⟩:=hA.out;obtain⟨b,h3,hC⟩:=hB.out;rcases Il hC with⟨id,off,n,c0,e1,hD⟩|⟨n,l,e,e1,hD⟩
    ·clear h hA hB hC;subst e1;obtain⟨⟨m,l'⟩,h4,rfl,g2,g3,g4,g5,hE⟩:=hD.out;split at hE
     ·rename_i hk;obtain⟨rfl,rfl,g6,g7⟩:=hE;exact acJ ho aY (nb ha) (sk ht) h1 h2 g2 hk rfl h3 h4 g6 g3 g4 g5 g7
     ·exact hE.elim
    ·clear h hA hB hC;subst e1;obtain⟨⟨m,l'⟩,h4,h5,h6,h7,h8⟩:=hD.out;exact step_append ho aY (nb ha) (sk ht) h1 h2 h3 h4 h5 h6 h7 h8
   ·exact h.elim
  ·rename_i aY;split at h
   ·rename_i x y t t' ha ht;obtain⟨⟨elem,sz⟩,h1,hA⟩:=h.out;obtain⟨a,h2,hB⟩:=hA.out;obtain⟨b,h3,hC⟩:=hB.out;clear h hA hB;split at hC
    ·split at hC
     ·rename_i hk;obtain⟨⟨m,l'⟩,h4,h5,h6,h7,h8⟩:=hC.out;exact aqU ho aY (nb ha) (sk ht) h1 h2 hk h3 h4 h5 h6 h7 h8
     ·exact hC.elim
    ·exact hC.elim
   ·exact h.elim
  ·rename_i aY;split at h
   ·rename_i m k t t' ha ht;obtain⟨⟨kt,et⟩,h1,hA⟩:=h.out;obtain⟨p,h2,hB⟩:=hA.out;obtain⟨a,h3,hC⟩:=hB.out;obtain⟨K,h4,hD⟩:=hC.out;obtain⟨id,e1,hE⟩:=EF hD;clear h hA hB hC hD;subst e1;split at hE
    ·rename_i es ck hH;obtain⟨q1,fd,q2,q3⟩:=hE;exact aqV ho aY (nb ha) (sk ht) h1 h2 h3 h4 hH q1 q2 q3
    ·exact hE.elim
   ·exact h.elim
  ·rename_i x aY;obtain⟨f,h1,hA⟩:=h.out;obtain⟨aE,h2,hB⟩:=hA.out;exact NC ho aY h1 h2 hB
  ·rename_i x name aY;obtain⟨f,h1,hA⟩:=h.out;obtain⟨aE,h2,hB⟩:=hA.out;exact acN ho aY h1 h2 hB
  ·exact quiet h
 ·exact quiet h
structure At (E:Env)(V:View)(s:AS)(a:Act)(nt:Nat):Prop where
 br:Conc E V s.H
 tok:cj E s.T a.tmps
 size:a.tmps.size=nt
theorem Kept.refl(E:Env)(V:View)(a:Act):Kept E E V V a a:=⟨Env.Le.refl E,rfl,rfl,rfl,rfl⟩
theorem Kept.trans{E E' bP:Env}{V V' aR:View}{a a' cm:Act}(h:Kept E E' V V' a a')(k:Kept E' bP V' aR a' cm):Kept E bP V aR a cm:=
 ⟨h.le.trans k.le,k.size.trans h.size,k.defers.trans h.defers,k.role.trans h.role,k.deaf.trans h.deaf⟩
inductive an where
 |normal
 |exit (id:Nat)
 |goto (l:Nat)
 |ret
 |panic (pv:AV)
def pN (E:Env):an->Ex->Prop
 |.normal,.normal=>True
 |.exit i,.exit j=>i=j
 |.goto i,.goto j=>i=j
 |.ret,.ret=>True
 |.panic pv,.panic ch=>∃v,ch=[{v,recovered:=false}]/\ap E pv v
 |_,_=>False
def aP (lv:Bool)(P:SI)(r:Option Nat)(nt:Nat)(c:T4)(s:AS)(Φ:an->AS->Prop):Prop:=
 ∀(E:Env)(V:View)(a:Act)(Q:Ex->Act->View->Prop),At E V s a nt->(∀ae e E' V' a' s',Kept E E' V V' a a'->At E' V' s' a' nt->pN E' ae e->Φ ae s'->Q e a' V')->WP lv P r c Q a V
theorem AC{nt:Nat}{all:Array Tu}{Φ:an->AS->Prop}(dp:∀o∈all,∀d,o.dst=some d->d<nt)(nA:∀o∈all,r=none\/mo o.op=false):∀(n k:Nat)(s:AS),k+n=all.size->iy lv P all (all.toList.drop k) s (Φ .normal) (λpv s=>Φ (.panic pv) s)->
  ∀(E:Env)(V:View)(a:Act)(Q:Ex->Act->View->Prop),At E V s a nt->(∀ae e E' V' a' s',Kept E E' V V' a a'->At E' V' s' a' nt->pN E' ae e->Φ ae s'->Q e a' V')->dl lv P r all Q (TS k n) a V
 |0,k,s,hk,h,E,V,a,Q,ah,hQ=>by
  have:all.toList.drop k=[]:=by simp;omega
  rw[this]at h;exact hQ .normal .normal E V a s (Kept.refl E V a) ah trivial h
 |n+1,k,s,hk,h,E,V,a,Q,ah,hQ=>by
  have hlt:k<all.size:=by omega
  have hd:all.toList.drop k=all[k]::all.toList.drop (k+1):=by
   rw[TQ (by simpa using hlt)];simp
  rw[hd]at h;have fG:all[k]∈all:=XR hlt;have ho:all[k]?=some all[k]:=SJ hlt;simp only[VU,dl,ho];have go:∀s:AS,At E V s a nt->mB lv P s all[k] (λs'=>iy lv P all (all.toList.drop (k+1)) s' (Φ .normal) (λpv s=>Φ (.panic pv) s)) (λpv s=>Φ (.panic pv) s)->w6 lv P r all[k] a V (dl lv P r all Q (TS (k+1) n)) Q:=λs ah h=>by
   refine h.sound (lv:=lv) (r:=r) E V a _ Q ah.br ah.tok (λd e=>by rw[ah.size];exact dp _ fG d e) (nA _ fG) (λE' V' a' s' aJ bm ml hn=> ?_) (λE' V' s' pv v aJ bm ml bp hb=> ?_)
   ·exact AC dp nA n (k+1) s' (by omega) hn E' V' a' Q ⟨bm,ml,aJ.size.trans ah.size⟩ (λae e bP aR cm dj fU dh he hΦ=>hQ ae e bP aR cm dj (aJ.trans fU) dh he hΦ)
   ·exact hQ (.panic pv) (.panic _) E' V' a s' aJ ⟨bm,ml,ah.size⟩ ⟨v,rfl,bp⟩ hb
  simp only[iy]at h;split at h
  ·rename_i hg;have hw:Tg all[k] (yielded all a.tmps)=true:=(by unfold Tg;rw[hg]);rw[if_pos hw];exact .inl (go s ah h)
  ·rename_i j bY hg;obtain⟨d,gn,h⟩:=h.out;obtain⟨av,h1,h⟩:=h.out;obtain⟨b,rfl,h2,h3⟩:=BH h;have hv:=(ah.tok d _ h1).2;have hy:yielded all a.tmps j=some b:=by
    obtain⟨oj,kJ,jg⟩:=Te.1 gn;generalize hx:a.tmps.getD d undef=x at hv;cases hv;have mh:d<a.tmps.size:=(ah.tok d _ h1).1;rw[SH,SJ mh]at hx;simp only[S7]at hx;simp[yielded,kJ,jg,SJ mh,hx]
   have rU:∀b',b=b'->At E V ⟨(d,.val (.bool b'))::s.T,s.H⟩ a nt:=λb' dD=>by
    subst dD;refine⟨ah.br,λt x e=> ?_,ah.size⟩;simp only[look]at e;split at e
    ·rename_i e';subst e';cases e;exact ah.tok d _ h1
    ·exact ah.tok t x e
   by_cases hb:b=bY
   ·have hw:Tg all[k] (yielded all a.tmps)=true:=(by unfold Tg;rw[hg];simp[hy,hb]);rw[if_pos hw];exact .inl (go _ (rU bY hb) (h2 hb))
   ·have hw:¬Tg all[k] (yielded all a.tmps)=true:=(by unfold Tg;rw[hg];simp[hy,hb]);rw[if_neg hw];have dD:b= !bY:=(by cases b<;>cases bY<;>simp_all);have vX:=h3 dD;have ah:=rU _ dD;exact AC dp nA n (k+1) ((⟨(d,.val (.bool !bY))::s.T,s.H⟩:AS).put all[k].dst (.val undef)) (by omega) vX E V (a.put all[k].dst undef) Q
     ⟨by rw[fi];exact ah.br,ah.tok.gX (λd e=>by rw[ah.size];exact dp _ fG d e) (.val undef),by rw[dX];exact ah.size⟩
     (λae e bP aR cm dj fU dh he hΦ=>hQ ae e bP aR cm dj ⟨fU.le,fU.size.trans (dX _ _ _),fU.defers.trans (put_defers _ _ _),fU.role,fU.deaf⟩ dh he hΦ)
def jX (nt:Nat)(ops:Array Tu):Bool:=ops.all λo=>(o.dst.all (·<nt))&& !mo o.op
theorem jX.out{nt:Nat}{ops:Array Tu}(hd:jX nt ops=true){o:Tu}(ho:o∈ops):(∀d,o.dst=some d->d<nt)/\mo o.op=false:=by
 have:=(UK.1 hd) o ho;simp only[Ti,TY]at this;exact⟨λd e=>by have h1:=this.1;rw[e]at h1;simpa using h1,this.2⟩
theorem OP{nt id:Nat}{ops:Array Tu}{Φ:an->AS->Prop}(hd:jX nt ops=true)(h:iy lv P ops ops.toList s (Φ .normal) (λpv s=>Φ (.panic pv) s)):aP lv P r nt (.region id ops false) s Φ:=by
 intro E V a Q ah hQ;refine wp_region ?_;rw[U8];exact AC (Φ:=Φ) (λo ho d e=>(jX.out hd ho).1 d e) (λo ho=> .inr (jX.out hd ho).2) ops.size 0 s (by omega) (by simpa using h) E V a Q ah hQ
theorem OS{nt:Nat}{Φ:an->AS->Prop}(h:Φ .normal s):aP lv P r nt .skip s Φ:=λE V a _ ah hQ=>wp_skip (hQ .normal _ E V a s (Kept.refl E V a) ah trivial h)
theorem OL{nt l:Nat}{Φ:an->AS->Prop}(h:Φ .normal s):aP lv P r nt (.label l) s Φ:=λE V a _ ah hQ=>wp_label (hQ .normal _ E V a s (Kept.refl E V a) ah trivial h)
theorem OJ{nt id:Nat}{Φ:an->AS->Prop}(h:Φ (.exit id) s):aP lv P r nt (.exit id) s Φ:=λE V a _ ah hQ=>wp_exit (hQ (.exit id) _ E V a s (Kept.refl E V a) ah rfl h)
theorem OQ{nt:Nat}{Φ:an->AS->Prop}(h:Φ .ret s):aP lv P r nt .ret s Φ:=λE V a _ ah hQ=>wp_ret (hQ .ret _ E V a s (Kept.refl E V a) ah trivial h)
def an.then (next:AS->Prop)(Φ:an->AS->Prop):an->AS->Prop
 |.normal,s=>next s
 |e,s=>Φ e s
theorem pN.mono{E E':Env}(h:E.Le E'){ae:an}{e:Ex}(k:pN E ae e):pN E' ae e:=by
 cases ae<;>cases e<;>first|exact k|(obtain⟨v,h1,h2⟩:=k;exact⟨v,h1,h2.mono h⟩)
theorem iA{nt:Nat}{x y:T4}{Φ:an->AS->Prop}(h:aP lv P r nt x s (an.then (λs'=>aP lv P r nt y s' Φ) Φ)):aP lv P r nt (.seq x y) s Φ:=by
 intro E V a Q ah hQ;refine wp_seq (h E V a _ ah λae e E' V' a' s' hk aS he hΦ=> ?_);cases ae<;>cases e<;>first
  |exact he.elim
  |exact hΦ E' V' a' Q aS λae e bP aR cm dj aJ dh ko tL=>hQ ae e bP aR cm dj (hk.trans aJ) dh ko tL
  |exact hQ _ _ E' V' a' s' hk aS he hΦ
theorem afd{nt:Nat}{c:Th}{x y:T4}{b:Bool}{Φ:an->AS->Prop}(hc:s.ev c=some (.val (.bool b)))(h1:b=true->aP lv P r nt x s Φ)(h2:b=false->aP lv P r nt y s Φ):aP lv P r nt (.cond c x y) s Φ:=by
 intro E V a Q ah hQ;have hv:=ap.ev ah.tok hc;generalize hx:a.eval c=v at hv;cases hv;refine wp_cond hx ?_;cases b with
 |true=>exact h1 rfl E V a Q ah hQ
 |false=>exact h2 rfl E V a Q ah hQ
def an.inBlock (id:Nat)(Φ:an->AS->Prop):an->AS->Prop
 |.exit oE,s=>if oE=id then Φ .normal s else Φ (.exit oE) s
 |e,s=>Φ e s
theorem OH{nt id:Nat}{c:T4}{Φ:an->AS->Prop}(h:aP lv P r nt c s (an.inBlock id Φ)):aP lv P r nt (.block id c) s Φ:=by
 intro E V a Q ah hQ;refine wp_block (h E V a _ ah λae e E' V' a' s' hk aS he hΦ=> ?_);cases ae<;>cases e<;>first
  |exact he.elim
  |(rename_i i j
    have e:i=j:=he;subst e;by_cases bT:i=id
    ·simp only[Ex.inBlock,bT,if_true];simp only[an.inBlock,bT,if_true]at hΦ;exact hQ .normal _ E' V' a' s' hk aS trivial hΦ
    ·simp only[Ex.inBlock,bT,if_false];simp only[an.inBlock,bT,if_false]at hΦ;exact hQ (.exit i) _ E' V' a' s' hk aS rfl hΦ)
  |exact hQ _ _ E' V' a' s' hk aS he hΦ
theorem aP.mono{nt:Nat}{c:T4}{Φ Φ':an->AS->Prop}(h:aP lv P r nt c s Φ)(hm:∀e s,Φ e s->Φ' e s):aP lv P r nt c s Φ':=λE V a Q ah hQ=>
 h E V a Q ah λae e E' V' a' s' hk aS he hΦ=>hQ ae e E' V' a' s' hk aS he (hm _ _ hΦ)
def Wk (b a:AV):Prop:=∀E v,ap E b v->ap E a v
theorem Wk.refl(a:AV):Wk a a:=λ_ _ h=>h
theorem g_(n:Nat)(l:List AV)(e:End):Wk (.sl n l e) (.sl n l .shut):=λ_ _ h=>by
 cases h with
 |sl b o cap f hc he h1 h2=>exact .sl b o cap f hc trivial h1 h2
 |nil he=>exact .nil trivial
structure AS.Sub (s s':AS):Prop where
 tok:∀t a,look s'.T t=some a->∃b,look s.T t=some b/\Wk b a
 H:s.H=s'.H
theorem At.sub{E:Env}{V:View}{s s':AS}{a:Act}{nt:Nat}(h:At E V s a nt)(hl:s.Sub s'):At E V s' a nt:=
 ⟨by rw[<- hl.H];exact h.br,λt x e=>by obtain⟨b,h1,h2⟩:=hl.tok t x e;exact⟨(h.tok t b h1).1,h2 _ _ (h.tok t b h1).2⟩,h.size⟩
theorem jv{lv:Bool}{P:SI}{r:Option Nat}{nt:Nat}{c:T4}{s s':AS}{Φ:an->AS->Prop}(hl:s.Sub s')(h:aP lv P r nt c s' Φ):aP lv P r nt c s Φ:=λE V a Q ah hQ=>h E V a Q (ah.sub hl) hQ
inductive Lt (n:Nat):AV->Prop
 |val (x:SP):Lt n (.val x)
 |agg {l:List AV} (h:∀a∈l,Lt n a):Lt n (.agg l)
 |aL {l:List AV} (h:∀a∈l,Lt n a):Lt n (.aL l)
 |sl {m:Nat} {l:List AV} {e:End} (he:∀k,e=.opn k->k<n) (h:∀a∈l,Lt n a):Lt n (.sl m l e)
 |bw {id off m cap:Nat} (h:id<n):Lt n (.bw id off m cap)
 |rp {l:List AV} (h:∀a∈l,Lt n a):Lt n (.rp l)
 |op {id off:Nat} (h:id<n):Lt n (.op id off)
 |fn {f:Fn} {first cT:List AV} (h1:∀a∈first,Lt n a) (h2:∀a∈cT,Lt n a):Lt n (.fn f first cT)
 |c9 {t:TypeId} {x:AV} (h:Lt n x):Lt n (.c9 t x)
 |mp {id:Nat} (h:id<n):Lt n (.mp id)
theorem pF{l:List AV}{a:AV}(h:a∈l):∃i:Nat,l[i]?=some a:=UR.1 h
theorem ap.lt{E:Env}{a:AV}{v:SP}(d:ap E a v):Lt E.n a:=by
 induction d with
 |val x=>exact .val x
 |agg hs _ ih=>exact .agg λa h=>(pF h).elim λi hi=>ih i a hi
 |aL hs _ ih=>exact .aL λa h=>(pF h).elim λi hi=>ih i a hi
 |sl b o cap f hc he h1 _ ih=>exact .sl (λk e=>by subst e;exact he.1) λa h=>(pF h).elim λi hi=>ih i a hi
 |nil he=>exact .sl (λk e=>by subst e;exact he.1) (by simp)
 |bw hi _=>exact .bw hi
 |rp b o f h1 _ ih=>exact .rp λa h=>(pF h).elim λi hi=>ih i a hi
 |op hi=>exact .op hi
 |fn dP fW _ _ mP lx=>exact .fn (λa h=>(pF h).elim λi hi=>mP i a hi) (λa h=>(pF h).elim λi hi=>lx i a hi)
 |c9 _ ih=>exact .c9 ih
 |mp hi=>exact .mp hi
theorem Lt.mono{n m:Nat}(h:n<=m){a:AV}(d:Lt n a):Lt m a:=by
 induction d with
 |val x=>exact .val x
 |agg _ ih=>exact .agg ih
 |aL _ ih=>exact .aL ih
 |sl he _ ih=>exact .sl (λk e=>Td (he k e) h) ih
 |bw hi=>exact .bw (Td hi h)
 |rp _ ih=>exact .rp ih
 |op hi=>exact .op (Td hi h)
 |fn _ _ mP lx=>exact .fn mP lx
 |c9 _ ih=>exact .c9 ih
 |mp hi=>exact .mp (Td hi h)
theorem pM.trim{E:Env}{e:End}{a:Option U5}{m cap n:Nat}(h:pM E e a m cap)(hk:∀k,e=.opn k->k<n):pM {E with n:=n} e a m cap:=by
 cases e with
 |exact=>exact h
 |shut=>trivial
 |opn k=>exact⟨hk k rfl,h.2⟩
theorem get_mem{l:List AV}{i:Nat}{a:AV}(h:l[i]?=some a):a∈l:=UR.2 ⟨i,h⟩
theorem ap.trim{E:Env}{a:AV}{v:SP}(d:ap E a v){n:Nat}(h:Lt n a):ap {E with n:=n} a v:=by
 induction d with
 |val x=>exact .val x
 |agg hs _ ih=>cases h with|agg h=>exact .agg hs λi a e=>ih i a e (h a (get_mem e))
 |aL hs _ ih=>cases h with|aL h=>exact .aL hs λi a e=>ih i a e (h a (get_mem e))
 |sl b o cap f hc he h1 _ ih=>cases h with|sl hk h=>exact .sl b o cap f hc (he.trim hk) h1 λi a e=>ih i a e (h a (get_mem e))
 |nil he=>cases h with|sl hk h=>exact .nil (he.trim hk)
 |bw hi dO=>cases h with|bw h=>exact .bw (E:={E with n:=n}) h dO
 |rp b o f h1 _ ih=>cases h with|rp h=>exact .rp b o f h1 λi a e=>ih i a e (h a (get_mem e))
 |op hi=>cases h with|op h=>exact .op (E:={E with n:=n}) h
 |fn dP fW _ _ mP lx=>cases h with|fn h1 h2=>exact .fn dP fW (λi a e=>mP i a e (h1 a (get_mem e))) λi a e=>lx i a e (h2 a (get_mem e))
 |c9 _ ih=>cases h with|c9 h=>exact .c9 (ih h)
 |mp hi=>cases h with|mp h=>exact .mp (E:={E with n:=n}) h
def fb (n:Nat):aa->Prop
 |.cells l _|.part _ l _|.own _ l _=>∀a∈l,Lt n a
 |.iter m _ _ _=>m<n
 |.loop _ _ _ _ T _ _ _ _ df=>(∀t a,look T t=some a->Lt n a)/\df<n
 |_=>True
theorem fb.mono{n m:Nat}(h:n<=m){x:aa}(k:fb n x):fb m x:=by
 cases x with
 |cells l el=>exactλa ha=>(k a ha).mono h
 |part p l el=>exactλa ha=>(k a ha).mono h
 |own p l el=>exactλa ha=>(k a ha).mono h
 |iter=>exact Td k h
 |loop=>exact⟨λt a e=>(k.1 t a e).mono h,Td k.2 h⟩
 |_=>trivial
theorem fN.olt{E:Env}{V:View}{k:Nat}{x:aa}(h:fN E V k x):fb E.n x:=by
 cases x with
 |cells l el=>obtain⟨⟨cs,_,h2⟩,_⟩:=h;exactλa ha=>(pF ha).elim λi hi=>(h2.2 i a hi).lt
 |part p l el=>obtain⟨⟨cs,_,h2,_⟩,_⟩:=h;exactλa ha=>(pF ha).elim λi hi=>(h2.2 i a hi).lt
 |own p l el=>obtain⟨⟨cs,_,h2,_⟩,_⟩:=h;exactλa ha=>(pF ha).elim λi hi=>(h2.2 i a hi).lt
 |iter m a b c=>exact h.1
 |loop=>obtain⟨⟨tmps,_,_,h2⟩,h3,_⟩:=h;exact⟨λt a e=>(h2 t a e).2.lt,h3⟩
 |_=>trivial
theorem fN.trim{E:Env}{V:View}{k n:Nat}{x:aa}(h:fN E V k x)(hl:fb n x):fN {E with n:=n} V k x:=by
 cases x with
 |cells l el=>obtain⟨⟨cs,h1,h2⟩,h3⟩:=h;exact⟨⟨cs,h1,h2.1,λi a e=>(h2.2 i a e).trim (hl a (get_mem e))⟩,h3⟩
 |part p l el=>obtain⟨⟨cs,h1,h2,h4⟩,h3⟩:=h;exact⟨⟨cs,h1,⟨h2.1,λi a e=>(h2.2 i a e).trim (hl a (get_mem e))⟩,h4⟩,h3⟩
 |own p l el=>obtain⟨⟨cs,h1,h2,h4⟩,h3⟩:=h;exact⟨⟨cs,h1,⟨h2.1,λi a e=>(h2.2 i a e).trim (hl a (get_mem e))⟩,h4⟩,h3⟩
 |iter m a b c=>exact⟨hl,h.2⟩
 |tail m sz el=>exact h
 |obj x=>exact h
 |loop=>obtain⟨⟨tmps,h1,h2,h3⟩,h4,h5⟩:=h;exact⟨⟨tmps,h1,h2,λt a e=>⟨(h3 t a e).1,(h3 t a e).2.trim (hl.1 t a e)⟩⟩,hl.2,h5⟩
 |gone=>trivial
 |main=>exact h
def bI (H:List aa):Prop:=∀x∈H,fb H.length x
theorem Conc.au{E:Env}{V:View}{H:List aa}(h:Conc E V H):bI H:=λx hx=>by
 obtain⟨i,hi⟩:=UR.1 hx;rw[<- h.n];exact(h.obj i x hi).olt
theorem EL(E:Env)(n k:Nat)(x:aa):bL {E with n:=n} k x=bL E k x:=by cases x<;>rfl
theorem Conc.trim{E:Env}{V:View}{H G:List aa}(h:Conc E V (H++G))(hl:bI H):Conc {E with n:=H.length} V H:=by
 have hg:∀(k:Nat) x,H[k]?=some x->(H++G)[k]?=some x:=λk x e=>by rw[SW (SL.1 e).1];exact e
 refine⟨h.I,rfl,λk x e=>(h.obj k x (hg k x e)).trim (hl x (Tc e)),λi j x y b h1 h2 h3 h4=> ?_,λg kq=> ?_,λg kq=> ?_,h.top,λb y kq=> ?_⟩
 ·rw[EL]at h3 h4;exact h.inj i j x y b (hg i x h1) (hg j y h2) h3 h4
 ·obtain⟨q0,q1,q2⟩:=h.group g kq;exact⟨q0,q1,λk x e=>by rw[EL];exact q2 k x (hg k x e)⟩
 ·obtain⟨q0,q1,q2⟩:=h.chan g kq;exact⟨q0,q1,λk x e=>by rw[EL];exact q2 k x (hg k x e)⟩
 ·obtain⟨q0,q1,q2⟩:=h.fr b y kq;exact⟨q0,q1,λk x e=>by rw[EL];exact q2 k x (hg k x e)⟩
structure AS.HY (s s':AS):Prop where
 tok:∀t a,look s'.T t=some a->∃b,look s.T t=some b/\Wk b a/\Lt s'.H.length a
 H:∃G,s.H=s'.H++G
 ok:bI s'.H
theorem D2{E:Env}{n m:Nat}(h1:m<=n)(h2:n<=E.n){E0:Env}(h:E0.Le E)(h0:E0.n=m):E0.Le {E with n:=n}:=⟨h.I,by show E0.n<=n;omega,h.blk,h.fA,h.room,h.fr,h.main⟩
theorem At.cut{E:Env}{V:View}{s s':AS}{a:Act}{nt:Nat}(h:At E V s a nt)(hl:s.HY s'):At {E with n:=s'.H.length} V s' a nt:=by
 obtain⟨G,hG⟩:=hl.H;have hc:=h.br;rw[hG]at hc;refine⟨hc.trim hl.ok,λt x e=> ?_,h.size⟩;obtain⟨b,h1,h2,h3⟩:=hl.tok t x e;exact⟨(h.tok t b h1).1,(h2 _ _ (h.tok t b h1).2).trim h3⟩
theorem OM{nt:Nat}{α:Type}{lt:α->α->Prop}(wf:WellFounded lt){c:T4}{Φ:an->AS->Prop}(inv:α->AS)(ok:α->Prop)(m:α)(h0:s.Sub (inv m))(hm:ok m)(hn:∀m,ok m->s.H.length<=(inv m).H.length)
  (h:∀m,ok m->aP lv P r nt c (inv m) (an.then (λs'=>∃m',lt m' m/\ok m'/\(s'.Sub (inv m')\/s'.HY (inv m'))) Φ)):aP lv P r nt (.loop c) s Φ:=by
 intro E V a Q ah hQ;refine NZ wf (I:=λm a' V'=>ok m/\∃E',Kept E E' V V' a a'/\At E' V' (inv m) a' nt) m ⟨hm,E,Kept.refl E V a,ah.sub h0⟩ λm a' V' hI=> ?_;obtain⟨au,E',hk,aS⟩:=hI;refine h m au E' V' a' _ aS λae e bP aR cm dj aJ dh he hΦ=> ?_;cases ae<;>cases e<;>first
  |exact he.elim
  |(obtain⟨m',h1,h2,h3⟩:=hΦ
    rcases h3 with h3|h3
    ·exact⟨m',h1,h2,bP,hk.trans aJ,dh.sub h3⟩
    ·refine⟨m',h1,h2,_,?_,dh.cut h3⟩;have cG:=hk.trans aJ;obtain⟨G,hG⟩:=h3.H;exact⟨D2 (hn m' h2) (by rw[dh.br.n,hG];simp) cG.le ah.br.n,cG.size,cG.defers,cG.role,cG.deaf⟩)
  |exact hQ _ _ bP aR cm dj (hk.trans aJ) dh he hΦ
theorem afo{nt:Nat}{c:T4}{Φ:an->AS->Prop}(inv:Nat->Nat->AS->Prop)
  (start:∃n:Nat,aP lv P r nt c s (λe s'=>match e with
   |.goto l=>∃rest,findLabel c l=some rest/\∃m,m<n/\inv l m s'
   |e=>Φ e s'))
  (back:∀l rest m s',findLabel c l=some rest->inv l m s'->aP lv P r nt rest s' (λe dj=>match e with
   |.goto l'=>∃yA,findLabel c l'=some yA/\∃m',m'<m/\inv l' m' dj
   |e=>Φ e dj)):aP lv P r nt (.scope c) s Φ:=by
 intro E V a Q ah hQ;refine adz (λl m a' V'=>∃E' s',Kept E E' V V' a a'/\At E' V' s' a' nt/\inv l m s') ?_ ?_
 ·obtain⟨n,hn⟩:=start;refine⟨n,hn E V a _ ah λae e E' V' a' s' hk aS he hΦ=> ?_⟩;cases ae<;>cases e<;>first
   |exact he.elim
   |(have e:_=_:=he
     subst e;obtain⟨rest,h1,m,h2,h3⟩:=hΦ;exact⟨rest,h1,m,h2,E',s',hk,aS,h3⟩)
   |exact hQ _ _ E' V' a' s' hk aS he hΦ
 ·intro l rest m a' V' hf ⟨E',s',hk,aS,hi⟩;refine back l rest m s' hf hi E' V' a' _ aS λae e bP aR cm dj aJ dh he hΦ=> ?_;cases ae<;>cases e<;>first
   |exact he.elim
   |(have e:_=_:=he
     subst e;obtain⟨yA,h1,m',h2,h3⟩:=hΦ;exact⟨yA,h1,m',h2,bP,dj,hk.trans aJ,dh,h3⟩)
   |exact hQ _ _ bP aR cm dj (hk.trans aJ) dh he hΦ
end
def bk:Nat->List AV->List (Nat×AV)
 |_,[]=>[]
 |i,a::l=>(i,a)::bk (i+1) l
theorem Mu:∀(l:List AV)(i t:Nat)(a:AV),look (bk i l) t=some a->i<=t/\l[t-i]?=some a
 |[],_,_,_,h=>by cases h
 |b::l,i,t,a,h=>by
  simp only[bk,look]at h;split at h
  ·rename_i e;subst e;cases h;exact⟨SQ _,by simp⟩
  ·obtain⟨h1,h2⟩:=Mu l (i+1) t a h;refine⟨by omega,?_⟩;have:t-i=(t-(i+1))+1:=(by omega);rw[this,UL];exact h2
def vo (P:SI)(s:AS):UO->Option AV
 |.tmp t=>look s.T t
 |.cell a t=>(look s.T a).bind λp=>(s.at p).bind λl=>(Ty P t).bind λx=>if x.2 then(if x.1<=l.length then some (.agg (l.take x.1))else none)else l[0]?
def gY (P:SI)(s:AS):List UO->Option (List AV)
 |[]=>some []
 |x::l=>match vo P s x,gY P s l with
  |some a,some aE=>some (a::aE)
  |_,_=>none
def iY:List AV->AV
 |[a]=>a
 |l=> .aL l
theorem apv{P:SI}{E:Env}{V:View}{s:AS}{a:Act}{nt:Nat}(ah:At E V s a nt){x:UO}{av:AV}(h:vo P s x=some av):
  ∃v,ap E av v/\∀{K:SP->View->Prop}{Kp:SP->View->Prop},K v V->aO P V (match x with|.tmp t=>pure (a.tmps.getD t undef)|.cell b t=>do loadVar t (<- asAddr (a.tmps.getD b undef))) K Kp:=by
 cases x with
 |tmp t=>exact⟨_,(ah.tok t av h).2,λhK=>aq hK⟩
 |cell b t=>
  unfold vo at h;obtain⟨p,h1,h⟩:=Te.1 h;obtain⟨l,h2,h⟩:=Te.1 h;obtain⟨⟨n,g⟩,h3,h⟩:=Te.1 h;obtain⟨i,d,t1,t2,rfl,t4⟩:=Ty.out h3;obtain⟨bb,off,f,hv,hg,kq,hd⟩:=ah.br.at (ah.tok b p h1).2 h2;dsimp only;rw[hv];cases g with
  |true=>
   simp only[if_true]at h;split at h
   ·rename_i hlen;cases h;refine⟨_,IR hlen hd,λhK=> ?_⟩;refine az ?_;unfold asAddr;refine aq ?_;unfold loadVar;refine DL t2 ?_;rw[t4];simp only[if_true];refine j4 t1 ?_;exact az (AP (f:=f) (λh=>kq (by omega)) (λj hj=>hg j (by omega)) (aq hK))
   ·cases h
  |false=>
   simp only[TN,if_false]at h;have hlen:0<l.length:=(SL.1 h).1;have lL:=hg 0 hlen;rw[UE]at lL;refine⟨_,hd 0 av h,λhK=> ?_⟩;refine az ?_;unfold asAddr;refine aq ?_;unfold loadVar;refine DL t2 ?_;rw[t4];simp only[TN,if_false];exact Nq lL (.inl (kq hlen)) (cI hK)
theorem Hb{P:SI}{E:Env}{V:View}{s:AS}{a:Act}{nt:Nat}(ah:At E V s a nt):∀(rs:List UO)(l:List AV),gY P s rs=some l->∃vs:List SP,vs.length=l.length/\(∀(i:Nat) x,l[i]?=some x->ap E x (vs.getD i undef))/\
  ∀{K:List SP->View->Prop}{Kp:SP->View->Prop},K vs V->aO P V (rs.mapM λx=>(match x with|.tmp t=>pure (a.tmps.getD t undef)|.cell b t=>do loadVar t (<- asAddr (a.tmps.getD b undef)):Sem SP)) K Kp
 |[],l,h=>by
  cases h;refine⟨[],rfl,by simp,λhK=> ?_⟩;rw[UD];exact aq hK
 |x::rs,l,h=>by
  simp only[gY]at h;split at h
  ·rename_i av ma h1 h2;cases h;obtain⟨v,hv,hs⟩:=apv ah h1;obtain⟨vs,hl,lV,F7⟩:=Hb ah rs ma h2;refine⟨v::vs,by simp[hl],λi x hx=> ?_,λhK=> ?_⟩
   ·cases i with
    |zero=>cases hx;simpa using hv
    |succ i=>simpa using lV i x (by simpa using hx)
   ·rw[T_];exact az (hs (az (F7 (aq hK))))
  ·cases h
attribute [seval] Int.natCast_pow Int.natCast_mul Int.natCast_shiftLeft Int.natCast_emod Int.ofNat_sub Int.natCast_shiftRight Int.natCast_add_one Int.natCast_add Int.cast_id Int.natCast_sub Int.natCast_ediv Int.natCast_succ
open Go.Conc
def cF (n0:Nat)(H:List aa)(a:AV)(k:AV->List aa->Prop):Prop:=
 ∃b,Wk a b/\(k b H\/∃H' G,H=H'++G/\n0<=H'.length/\bI H'/\Lt H'.length b/\k b H')
def uc (P:SI)(rs:List UO)(n0:Nat)(k kp:AV->List aa->Prop):an->AS->Prop
 |.normal,s|.ret,s=>ao (gY P s rs) λl=>cF n0 s.H (iY l) k
 |.panic pv,s=>cF n0 s.H pv kp
 |_,_=>False
theorem bW{n0:Nat}{H:List aa}{a:AV}{k:AV->List aa->Prop}(h:k a H):cF n0 H a k:=⟨a,Wk.refl a,.inl h⟩
theorem jy{H H' G:List aa}{a b:AV}{k:AV->List aa->Prop}{n0:Nat}(hw:Wk a b)(hH:H=H'++G)(hn:n0<=H'.length)(au:bI H')(hl:Lt H'.length b)(h:k b H'):cF n0 H a k:=⟨b,hw,.inr ⟨H',G,hH,hn,au,hl,h⟩⟩
theorem xo{n0:Nat}{E0 E:Env}{V':View}{H:List aa}{a:AV}{v:SP}{k:AV->List aa->Prop}(h:cF n0 H a k)(hc:Conc E V' H)(hd:ap E a v)(hle:E0.Le E)(hn:E0.n=n0):∃b E' H',E0.Le E'/\ap E' b v/\Conc E' V' H'/\k b H':=by
 obtain⟨b,hw,h|⟨H',G,rfl,h1,h2,h3,h4⟩⟩:=h
 ·exact⟨b,E,H,hle,hw _ _ hd,hc,h⟩
 ·refine⟨b,{E with n:=H'.length},H',D2 h1 (by rw[hc.n];simp) hle hn,(hw _ _ hd).trim h3,hc.trim h2,h4⟩
theorem aiW{lv:Bool}{P:SI}{f:TO}{fn:YB}{c:T4}{rs:List UO}{nt:Nat}{H:List aa}{args:List AV}{k kp:AV->List aa->Prop}(hf:P.funcs[f]?=some fn)(hb:fn.body=some c)(hr:fn.results=rs.toArray)(hn:fn.ntmps=nt)(cN:args.length<=nt)
  (h:bI H->(∀a∈args,Lt H.length a)->aP lv P none nt c ⟨bk 0 args,H⟩ (uc P rs H.length k kp)):bh lv P f H args k kp:=by
 intro E V vs hc hd;have aV:(vs++TL (fn.ntmps-vs.size) undef).size=nt:=by simp[hd.1];omega
 have hlt:∀a∈args,Lt H.length a:=λa ha=>by
  obtain⟨i,hi⟩:=pF ha;rw[<- hc.n];exact(hd.2 i a hi).lt
 refine O3 (by simp) hf hb (h hc.au hlt E V _ _ ⟨hc,λq a e=> ?_,aV⟩ λae e E' V' a' s' hk ah he hΦ=> ?_)
 ·obtain⟨_,e⟩:=Mu args 0 q a e;simp only[ZW]at e;have hq:q<args.length:=(SL.1 e).1;have tD:q<vs.size:=by rw[hd.1];exact hq
  refine⟨by rw[aV];omega,?_⟩;have:=hd.2 q a e;rw[SH,X7 tD];rwa [SH]at this
 ·have fin:(ao (gY P s' rs) λl=>cF H.length s'.H (iY l) k)->a'.defers=[]/\∃v,aO P V' (results fn a'.tmps) (λx aR=>x=v/\aR=V') (λ_ _=>False)/\gQ E V k kp (.ret v) V':=by
   intro hΦ;obtain⟨l,h1,h2⟩:=hΦ.out;have gr:∃v,ap E' (iY l) v/\aO P V' (results fn a'.tmps) (λx aR=>x=v/\aR=V') (λ_ _=>False):=by
    obtain⟨vs,hl,lV,xZ⟩:=Hb ah rs l h1;refine⟨if h:vs.length=1 then vs[0]else .tuple vs.toArray,?_,?_⟩
    ·match l,vs,hl,lV with
     |[x],[v],_,lV=>exact lV 0 x rfl
     |[],[],_,lV=>exact .aL rfl (by simp)
     |x::y::l,v::w::vs,hl,lV=>exact .aL (by simpa using hl) (λi z hz=>by simpa[SH,SE]using lV i z hz)
    ·unfold results;rw[hr,XW];refine az ?_;refine az (xZ ?_);refine aq (aq ⟨?_,rfl⟩);simp
   obtain⟨v,bp,qx⟩:=gr;obtain⟨b,bP,H',q1,q2,q3,q4⟩:=xo h2 ah.br bp hk.le hc.n;exact⟨hk.defers,v,qx,b,bP,H',q1,hk.role,hk.deaf,q2,q3,q4⟩
  cases ae<;>cases e<;>first
   |exact he.elim
   |exact fin hΦ
   |(obtain⟨v,rfl,bp⟩:=he
     obtain⟨b,bP,H',q1,q2,q3,q4⟩:=xo hΦ ah.br bp hk.le hc.n;exact⟨hk.defers,b,v,bP,H',rfl,q1,hk.role,hk.deaf,q2,q3,q4⟩)
   |exact hΦ.elim
open Go.Conc
theorem amX(k:Nat)(a:AV)(l:List (Nat×AV)):look ((k,a)::l) k=some a:=by simp[look]
theorem amY(k t:Nat)(a:AV)(l:List (Nat×AV))(h:(k==t)=false):look ((k,a)::l) t=look l t:=by
 have:¬k=t:=by simpa using h
 simp[look,this]
theorem AB{α:Type}(a:α)(k:α->Prop):ao (some a) k=k a:=by rw[ao]
theorem aeY(b:Bool)(k:Bool->Prop):AV.asBool (.val (.bool b)) k=k b:=by rw[AV.asBool]
theorem ae0(j:TW)(n:Int)(k:TW->Int->Prop):AV.asInt (.val (.int j n)) k=k j n:=by rw[AV.asInt]
theorem ae7(l:List AV)(k:List AV->Prop):AV.xe (.aL l) k=k l:=by rw[AV.xe]
theorem aeW(l:List AV)(k:List AV->Prop):AV.asAgg (.agg l) k=k l:=by rw[AV.asAgg]
theorem ae2(i j:Nat)(k:Nat->Nat->Prop):AV.pU (.op i j) k=k i j:=by rw[AV.pU]
theorem ae1(i:Nat)(k:Nat->Prop):AV.sI (.mp i) k=k i:=by rw[AV.sI]
theorem ae5(n:Nat)(l:List AV)(e:End)(k:Nat->List AV->End->Prop):AV.vL (.sl n l e) k=k n l e:=by rw[AV.vL]
theorem ael(P:SI)(xt:TypeId)(j:TW)(m n:Int)(k:AV->Prop):dH P .add xt (.val (.int j m)) (.val (.int j n)) k=k (.val (.int j (j.wrap (m+n)))):=by simp[dH,mQ,mb,ao]
theorem aex(P:SI)(xt:TypeId)(j:TW)(m n:Int)(k:AV->Prop):dH P .sub xt (.val (.int j m)) (.val (.int j n)) k=k (.val (.int j (j.wrap (m-n)))):=by simp[dH,mQ,mb,ao]
theorem aet(P:SI)(xt:TypeId)(j:TW)(m n:Int)(k:AV->Prop):dH P .mul xt (.val (.int j m)) (.val (.int j n)) k=k (.val (.int j (j.wrap (m* n)))):=by simp[dH,mQ,mb,ao]
theorem aen(P:SI)(xt:TypeId)(j:TW)(m n:Int)(k:AV->Prop):dH P .eql xt (.val (.int j m)) (.val (.int j n)) k=k (.val (.bool (m==n))):=by simp[dH,mQ,mb,ao]
theorem Om(P:SI)(xt:TypeId)(j:TW)(m n:Int)(k:AV->Prop):dH P .neq xt (.val (.int j m)) (.val (.int j n)) k=k (.val (.bool (m !=n))):=by simp[dH,mQ,mb,ao]
theorem aes(P:SI)(xt:TypeId)(j:TW)(m n:Int)(k:AV->Prop):dH P .lss xt (.val (.int j m)) (.val (.int j n)) k=k (.val (.bool (decide (m<n)))):=by simp[dH,mQ,mb,ao]
theorem aer(P:SI)(xt:TypeId)(j:TW)(m n:Int)(k:AV->Prop):dH P .leq xt (.val (.int j m)) (.val (.int j n)) k=k (.val (.bool (decide (m<=n)))):=by simp[dH,mQ,mb,ao]
theorem aep(P:SI)(xt:TypeId)(j:TW)(m n:Int)(k:AV->Prop):dH P .gtr xt (.val (.int j m)) (.val (.int j n)) k=k (.val (.bool (decide (m>n)))):=by simp[dH,mQ,mb,ao]
theorem aeo(P:SI)(xt:TypeId)(j:TW)(m n:Int)(k:AV->Prop):dH P .geq xt (.val (.int j m)) (.val (.int j n)) k=k (.val (.bool (decide (m>=n)))):=by simp[dH,mQ,mb,ao]
theorem aem(P:SI)(xt:TypeId)(j:TW)(m n:Int)(k:AV->Prop):dH P .and xt (.val (.int j m)) (.val (.int j n)) k=k (.val (.int j (j.wrap (Uh j.bits m&&&Uh j.bits n).toNat))):=by simp[dH,mQ,mb,ao]
theorem Bz(P:SI)(xt:TypeId)(j:TW)(m n:Int)(k:AV->Prop):dH P .or xt (.val (.int j m)) (.val (.int j n)) k=k (.val (.int j (j.wrap (Uh j.bits m|||Uh j.bits n).toNat))):=by simp[dH,mQ,mb,ao]
theorem BB(P:SI)(xt:TypeId)(j:TW)(m n:Int)(k:AV->Prop):dH P .xor xt (.val (.int j m)) (.val (.int j n)) k=k (.val (.int j (j.wrap (Uh j.bits m^^^Uh j.bits n).toNat))):=by simp[dH,mQ,mb,ao]
theorem aev(P:SI)(xt:TypeId)(j:TW)(m n:Int)(k:AV->Prop):dH P .rem xt (.val (.int j m)) (.val (.int j n)) k=ao (if n=0 then none else some (.int j (m.tmod n))) λv=>k (.val v):=by simp[dH,mQ,mb]
theorem aew(P:SI)(xt:TypeId)(j j':TW)(m n:Int)(k:AV->Prop):dH P .shl xt (.val (.int j m)) (.val (.int j' n)) k=ao (if n<0 then none else some (.int j (j.wrap (m* 2^(min n.toNat j.bits))))) λv=>k (.val v):=by simp[dH,mQ,AU]
theorem BA(P:SI)(xt:TypeId)(j j':TW)(m n:Int)(k:AV->Prop):dH P .shr xt (.val (.int j m)) (.val (.int j' n)) k=ao (if n<0 then none else some (.int j (m.fdiv (2^(min n.toNat j.bits))))) λv=>k (.val v):=by simp[dH,mQ,AU]
theorem aht(T:List (Nat×AV))(H:List aa)(t:Nat):AS.ev ⟨T,H⟩ (.tmp t)=look T t:=by rw[AS.ev]
theorem ahk(s:AS)(b:Bool):s.ev (.const (.bool b))=some (.val (.bool b)):=by rw[AS.ev,AV.of]<;>(intros;simp_all)
theorem aho(s:AS)(k:TW)(n:Int):s.ev (.const (.int k n))=some (.val (.int k n)):=by rw[AS.ev,AV.of]<;>(intros;simp_all)
theorem ahm(s:AS)(f:TO):s.ev (.func f)=some (.fn (.func f) [] []):=by rw[AS.ev]
theorem ahs(s:AS):s.ev (.const (.slice none 0 0))=some (.sl 0 [] .exact):=by rw[AS.ev,AV.of]
theorem ahp(s:AS):s.ev (.const (.map none))=some (.val (.map none)):=by rw[AS.ev,AV.of]<;>(intros;simp_all)
theorem ahq(s:AS):s.ev (.const (.pointer none))=some (.val (.pointer none)):=by rw[AS.ev,AV.of]<;>(intros;simp_all)
theorem ahl(s:AS):s.ev (.const .nilFunc)=some (.val .nilFunc):=by rw[AS.ev,AV.of]<;>(intros;simp_all)
theorem ahn(s:AS):s.ev (.const .nilIface)=some (.val .nilIface):=by rw[AS.ev,AV.of]<;>(intros;simp_all)
theorem aoD(T:List (Nat×AV))(H:List aa)(d:Nat)(a:AV):AS.put ⟨T,H⟩ (some d) a=⟨(d,a)::T,H⟩:=by rw[AS.put]
theorem aoC(s:AS)(a:AV):AS.put s none a=s:=by rw[AS.put]
theorem ary(n:AS->Prop)(Φ:an->AS->Prop)(s:AS):an.then n Φ .normal s=n s:=by rw[an.then]
theorem arA(n:AS->Prop)(Φ:an->AS->Prop)(s:AS):an.then n Φ .ret s=Φ .ret s:=by rw[an.then];intro h;cases h
theorem arw(n:AS->Prop)(Φ:an->AS->Prop)(i:Nat)(s:AS):an.then n Φ (.exit i) s=Φ (.exit i) s:=by rw[an.then];intro h;cases h
theorem arx(n:AS->Prop)(Φ:an->AS->Prop)(i:Nat)(s:AS):an.then n Φ (.goto i) s=Φ (.goto i) s:=by rw[an.then];intro h;cases h
theorem arz(n:AS->Prop)(Φ:an->AS->Prop)(a:AV)(s:AS):an.then n Φ (.panic a) s=Φ (.panic a) s:=by rw[an.then];intro h;cases h
theorem afX(i:Nat)(Φ:an->AS->Prop)(s:AS):an.inBlock i Φ .normal s=Φ .normal s:=by rw[an.inBlock];intro h h';cases h'
theorem afZ(i:Nat)(Φ:an->AS->Prop)(s:AS):an.inBlock i Φ .ret s=Φ .ret s:=by rw[an.inBlock];intro h h';cases h'
theorem afU(i l:Nat)(Φ:an->AS->Prop)(s:AS):an.inBlock i Φ (.goto l) s=Φ (.goto l) s:=by rw[an.inBlock];intro h h';cases h'
theorem afY(i:Nat)(Φ:an->AS->Prop)(a:AV)(s:AS):an.inBlock i Φ (.panic a) s=Φ (.panic a) s:=by rw[an.inBlock];intro h h';cases h'
theorem afV(i:Nat)(Φ:an->AS->Prop)(s:AS):an.inBlock i Φ (.exit i) s=Φ .normal s:=by rw[an.inBlock,if_pos rfl]
theorem afW(i j:Nat)(Φ:an->AS->Prop)(s:AS)(h:(j==i)=false):an.inBlock i Φ (.exit j) s=Φ (.exit j) s:=by
 have:¬j=i:=by simpa using h
 rw[an.inBlock,if_neg this]
theorem ai7(P:SI)(rs:List UO)(n:Nat)(k kp:AV->List aa->Prop)(s:AS):uc P rs n k kp .ret s=ao (gY P s rs) λl=>cF n s.H (iY l) k:=by rw[uc]
theorem ai5(P:SI)(rs:List UO)(n:Nat)(k kp:AV->List aa->Prop)(s:AS):uc P rs n k kp .normal s=ao (gY P s rs) λl=>cF n s.H (iY l) k:=by rw[uc]
theorem ai6(P:SI)(rs:List UO)(n:Nat)(k kp:AV->List aa->Prop)(a:AV)(s:AS):uc P rs n k kp (.panic a) s=cF n s.H a kp:=by rw[uc]
theorem apw(P:SI)(T:List (Nat×AV))(H:List aa)(t:Nat):vo P ⟨T,H⟩ (.tmp t)=look T t:=by rw[vo]
theorem afc(s:AS)(l:List AV):s.at (.rp l)=some l:=by rw[AS.at]
theorem aqn(n i off:Nat):AV.shift n (.op i off)=some (.op i (off+n)):=by rw[AV.shift]
theorem acz(n:Nat)(l:List AV)(h:n<=l.length):AV.shift n (.rp l)=some (.rp (l.drop n)):=by rw[AV.shift,if_pos h]
theorem aqo(l:List AV):AV.shift 0 (.rp l)=some (.rp l):=by rw[AV.shift,if_pos (Yy _),Xy]
theorem aqp(n:Nat)(a:AV)(l:List AV):AV.shift (n+1) (.rp (a::l))=AV.shift n (.rp l):=by simp[AV.shift]
theorem apI(n:Nat)(l:List AV)(e:End):AV.row (.sl n l e)=some (n,.rp l):=by rw[AV.row]
theorem apG(i off n cap:Nat):AV.row (.bw i off n cap)=some (n,.op i off):=by rw[AV.row]
theorem ad5(P:SI)(s:AS){t:TypeId}(n:Nat)(l:List AV)(e:End)(k:AV->Prop)(h:lE P t=some .slice):sr P s t (.sl n l e) k=k (.val (.int .i64 n)):=by unfold sr;rw[h]
theorem ad4(P:SI)(s:AS){t:TypeId}(i off n cap:Nat)(k:AV->Prop)(h:lE P t=some .slice):sr P s t (.bw i off n cap) k=k (.val (.int .i64 n)):=by unfold sr;rw[h]
theorem ad3(P:SI)(T:List (Nat×AV))(H:List aa){t:TypeId}(id:Nat)(k:AV->Prop){es:Array Wl}{ck:Nat}(h:lE P t=some .map)(hH:H[id]?=some (.obj (.map es ck))):sr P ⟨T,H⟩ t (.mp id) k=k (.val (.int .i64 es.size)):=by
 unfold sr;rw[h];simp[hH]
theorem bu{a b:AV}:(∃c,some b=some c/\Wk c a)<->Wk b a:=⟨λ⟨_,h,k⟩=>by cases h;exact k,λh=>⟨_,rfl,h⟩⟩
abbrev iv (n:Int):AV:=.val (.int .i64 n)
abbrev bv (b:Bool):AV:=.val (.bool b)
open Go.Conc
theorem OI{lv:Bool}{P:SI}{r:Option Nat}{s:AS}{nt:Nat}{c:Th}{x y:T4}{Φ:an->AS->Prop}(h:ao (s.ev c) λa=>a.asBool λb=>(b=true->aP lv P r nt x s Φ)/\(b=false->aP lv P r nt y s Φ)):aP lv P r nt (.cond c x y) s Φ:=by
 obtain⟨a,h1,h2⟩:=h.out;obtain⟨b,rfl,h3,h4⟩:=BH h2;exact afd h1 h3 h4
theorem PF{α β:Type}{f:α->List β}{m:Nat}(hf:∀x,(f x).length=m):∀{xs:List α}{i:Nat}{x:α},xs[i]?=some x->(xs.flatMap f).drop (i* m)=f x++(xs.drop (i+1)).flatMap f
 |y::xs,0,x,h=>by cases h;simp
 |y::xs,i+1,x,h=>by
  have ih:=PF hf (xs:=xs) (i:=i) (x:=x) (by simpa using h);rw[Ub,Ve,Nat.one_mul,aj_ (i* m) m,<- ak_];have:(f y++xs.flatMap f).drop m=xs.flatMap f:=by rw[<- hf y];simp
  rw[this,ih];simp
 |[],i,x,h=>by simp at h
theorem Df{α β:Type}{f:α->List β}{m:Nat}(hf:∀x,(f x).length=m)(xs:List α):(xs.flatMap f).length=xs.length* m:=by
 induction xs with
 |nil=>simp
 |cons x xs ih=>rw[Ub,SN,hf,ih,Ul,Ve];omega
theorem acx{α:Type}{f:α->List AV}{m:Nat}(hf:∀x,(f x).length=m){xs:List α}{i:Nat}{x:α}(h:xs[i]?=some x):AV.shift (i* m) (.rp (xs.flatMap f))=some (.rp (f x++(xs.drop (i+1)).flatMap f)):=by
 have hi:i<xs.length:=(SL.1 h).1;rw[acz _ _ (by rw[Df hf];exact Ug _ (by omega)),PF hf h]
theorem acy{α:Type}{f:α->AV}{xs:List α}{i:Nat}{x:α}(h:xs[i]?=some x):AV.shift (i* 1) (.rp (xs.map f))=some (.rp (f x::(xs.drop (i+1)).map f)):=by
 have hi:i<xs.length:=(SL.1 h).1;rw[X8,acz _ _ (by simp;omega)];congr 2;rw[<- af_,TQ hi,UW];congr 2;rw[SY hi]at h;exact VY h
theorem jc{i n:Nat}(h:i<n):(0<=(i:Int)/\(i:Int)<(n:Int))=True:=by simp;exact h
theorem eR{α:Type}{xs:List α}{i:Nat}{x:α}(h:xs[i]?=some x):i<xs.length:=(SL.1 h).1
theorem b9{α:Type}{xs:List α}{i:Nat}(h:i<xs.length):∃x,xs[i]?=some x:=⟨_,SY h⟩
theorem vI(H L:List aa)(i:Nat):(H++L)[H.length+i]?=L[i]?:=by rw[S9 (by omega)];congr 1;omega
theorem aeP(H L:List aa):(H++L)[H.length]?=L[0]?:=by have:=vI H L 0;simpa using this
theorem vJ(H L:List aa)(i:Nat)(x:aa):(H++L).set (H.length+i) x=H++L.set i x:=by
 rw[T9 _ _ (by omega)];congr 2;omega
theorem aeT(H L:List aa)(x:aa):(H++L).set H.length x=H++L.set 0 x:=by have:=vJ H L 0 x;simpa using this
theorem aeO(H L M:List aa):(H++L)++M=H++(L++M):=SC ..
theorem aeS(H L:List aa):(H++L).length=H.length+L.length:=SN
theorem eK(n:Nat)(x:SP):Lt n (.val x)=True:=by simp[Lt.val]
theorem aaS(n i o:Nat):Lt n (.op i o)=(i<n):=propext ⟨λh=>by cases h with|op h=>exact h,.op⟩
theorem tO(n:Nat)(l:List AV):Lt n (.agg l)=∀a∈l,Lt n a:=propext ⟨λh=>by cases h with|agg h=>exact h,.agg⟩
theorem jL(n:Nat)(l:List AV):Lt n (.aL l)=∀a∈l,Lt n a:=propext ⟨λh=>by cases h with|aL h=>exact h,.aL⟩
theorem aaR(n:Nat)(t:TypeId)(a:AV):Lt n (.c9 t a)=Lt n a:=propext ⟨λh=>by cases h with|c9 h=>exact h,.c9⟩
theorem vg(n m:Nat)(l:List AV):Lt n (.sl m l .shut)=∀a∈l,Lt n a:=propext ⟨λh=>by cases h with|sl _ h=>exact h,λh=> .sl (by simp) h⟩
theorem Mx(n m:Nat)(l:List AV):Lt n (.sl m l .exact)=∀a∈l,Lt n a:=propext ⟨λh=>by cases h with|sl _ h=>exact h,λh=> .sl (by simp) h⟩
theorem am1(n m k:Nat)(l:List AV):Lt n (.sl m l (.opn k))=(k<n/\∀a∈l,Lt n a):=propext ⟨λh=>by cases h with|sl h' h=>exact⟨h' k rfl,h⟩,λh=> .sl (λk' e=>by cases e;exact h.1) h.2⟩
theorem yn(n:Nat)(l:List AV):Lt n (.rp l)=∀a∈l,Lt n a:=propext ⟨λh=>by cases h with|rp h=>exact h,.rp⟩
open Go.Conc
def cR (o:Tu):List Nat:=o.after.toList.filterMap λe=>if Yn .any e then some e.on else none
inductive l9 (ops:Array Tu):List Nat->List Nat->Prop
 |nil (X:List Nat) (h:∀i,i<ops.size->i∈X):l9 ops X []
 |cons {X:List Nat} {i:Nat} {l:List Nat} (o:Tu) (ho:ops[i]?=some o) (hn:i∉X) (hd:∀j∈cR o,j∈X) (h:l9 ops (i::X) l):l9 ops X (i::l)
theorem GG{o:Tu}{j:Nat}:j∈cR o<->∃e∈o.after,Yn .any e=true/\e.on=j:=by
 unfold cR;rw[VW];constructor
 ·rintro⟨e,he,h⟩
  split at h
  ·rename_i hb;cases h;exact⟨e,by simpa using he,hb,rfl⟩
  ·cases h
 ·rintro⟨e,he,hb,rfl⟩
  exact⟨e,by simpa using he,by rw[if_pos hb]⟩
theorem Pj{l:List Nat}{i:Nat}(hi:i∈l){p q:Nat->Bool}(iE:∀k,q k=true->p k=true)(hp:p i=true)(hq:q i=false):l.countP q<l.countP p:=by
 induction l with
 |nil=>cases hi
 |cons x l ih=>
  have hle:l.countP q<=l.countP p:=List.countP_mono_left λk _ h=>iE k h;rcases SK.1 hi with rfl|hi
  ·rw[WR (by simp[hq]),VT hp];omega
  ·have:=ih hi;by_cases hx:q x=true
   ·rw[VT hx,VT (iE x hx)];omega
   ·rw[WR hx];by_cases jK:p x=true
    ·rw[VT jK];omega
    ·rw[WR jK];exact this
structure Og (ops:Array Tu)(L:Array Bool)(X:List Nat):Prop where
 size:L.size=ops.size
 mem:∀i,i<ops.size->(L[i]?=some true<->i∈X)
theorem aaM{ops:Array Tu}(ij:∀(i:Nat) o,ops[i]?=some o->∀j∈cR o,j<i):∀(fuel t:Nat)(L:Array Bool)(X:List Nat),Og ops L X->(SZ ops.size).countP (λi=> !X.contains i)<=fuel->l9 ops X (UI .any ops fuel t L [])
 |0,t,L,X,hr,hc=>by
  simp only[UI,XS];refine .nil X λi hi=> ?_;have:(SZ ops.size).countP (λi=> !X.contains i)=0:=by omega
  have:=List.countP_eq_zero.1 this i (by simpa using hi);simpa using this
 |fuel+1,t,L,X,hr,hc=>by
  have uT:∀i,i∈((SZ ops.size).filter λi=> !L.getD i true&&((ops[i]?).map (·.after.all λe=> !Region.binds .any e||L.getD e.on false)).getD false)<->∃o,ops[i]?=some o/\i∉X/\∀j∈cR o,j∈X:=by
   intro i;simp only[Uw,Tx,Ti,TY];constructor
   ·rintro⟨hi,h1,h2⟩
    have ho:=SJ hi;refine⟨ops[i],ho,λhx=> ?_,λj hj=> ?_⟩
    ·have:=(hr.mem i hi).2 hx;rw[SH,this]at h1;cases h1
    ·obtain⟨e,he,hb,rfl⟩:=GG.1 hj;rw[ho]at h2;simp only[UP,S7,UK]at h2;have:=h2 e he;rw[hb]at this;simp only[ai',Zu]at this;have hlt:e.on<ops.size:=Wn (ij i _ ho _ hj) hi;refine(hr.mem _ hlt).1 ?_;rw[SH]at this;cases hx:L[e.on]?with
     |none=>rw[hx]at this;cases this
     |some b=>rw[hx]at this;cases b;cases this;rfl
   ·rintro⟨o,ho,h1,h2⟩
    have hi:i<ops.size:=(SS.1 ho).1;refine⟨hi,?_,?_⟩
    ·rw[SH,SJ (by rw[hr.size];exact hi)];simp only[S7];cases hb:L[i]'(by rw[hr.size];exact hi)with
     |false=>rfl
     |true=>exact absurd ((hr.mem i hi).1 (by rw[SJ (by rw[hr.size];exact hi),hb])) h1
    ·rw[ho];simp only[UP,S7,UK];intro e he;cases hb:Yn .any e with
     |false=>rfl
     |true=>
      have hj:=GG.2 ⟨e,he,hb,rfl⟩;have hlt:e.on<ops.size:=Wn (ij i _ ho _ hj) hi;have:=(hr.mem _ hlt).2 (h2 _ hj);simp[SH,this]
  simp only[UI];generalize CR:((SZ ops.size).filter λi=> !L.getD i true&&((ops[i]?).map (·.after.all λe=> !Region.binds .any e||L.getD e.on false)).getD false)=rs at uT;cases hi:rs[t % rs.length]?with
  |none=>
   have K3:rs=[]:=by
    cases rs with
    |nil=>rfl
    |cons x xs=>
     have hlt:t % (x::xs).length<(x::xs).length:=ar_ _ (by simp);rw[List.getElem?_eq_none_iff]at hi;omega
   simp only[XS];refine .nil X λi=> ?_;induction i using Yj with
   |_ i ih=>
    intro hlt;apply Tm;intro hx;have:i∈rs:=(uT i).2 ⟨ops[i],SJ hlt,hx,λj hj=>ih j (ij i _ (SJ hlt) j hj) (Wn (ij i _ (SJ hlt) j hj) hlt)⟩;rw[K3]at this;cases this
  |some i=>
   simp only[];obtain⟨o,ho,h1,h2⟩:=(uT i).1 (Tc hi);have hlt:i<ops.size:=(SS.1 ho).1;rw[linearise_go_acc,List.reverse_singleton,YZ];refine .cons o ho h1 h2 (aaM ij fuel _ _ (i::X) ⟨by simp[hr.size],λk hk=> ?_⟩ ?_)
   ·by_cases rF:k=i
    ·subst rF;simp[S_ (by rw[hr.size];exact hlt)]
    ·rw[SU (Ne.symm rF),hr.mem k hk];simp[rF]
   ·have fG:i∈(SZ ops.size):=(by simpa using hlt);have:(SZ ops.size).countP (λk=> !(i::X).contains k)<(SZ ops.size).countP (λk=> !X.contains k):=by
     exact Pj fG (λk hk=>by simp only[TY,Uq,decide_eq_false_iff_not]at hk⊢;exactλh=>hk (Tb _ h)) (by simpa using h1) (by simp)
    omega
end Go.Gg
