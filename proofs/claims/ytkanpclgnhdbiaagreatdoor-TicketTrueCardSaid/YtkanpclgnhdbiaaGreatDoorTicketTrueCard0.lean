/- A part of the proof. -/
import Derived.Conc.Own5
import Derived.Conc.Own4
import Derived.Conc.Own3
import Derived.Conc.Own2
import Derived.Conc.QuitsD
import Derived.Conc.Deaf
import Derived.Conc.CompanyDraw
import Derived.Conc.Comm2
import Derived.Conc.Beside
import Derived.Conc.Events
import Derived.Orders
set_option linter.all false
set_option maxRecDepth 4000
set_option maxHeartbeats 4000000
open Array renaming all_eq_true_iff_forall_mem->UH,append_assoc->Xp,empty_append->Xo,ext'->VD,getD_eq_getD_getElem?->SI,getElem?_append_left->X9,getElem?_append_right->X2,getElem?_eq_getElem->SK,getElem?_eq_some_iff->SU,getElem?_map->WG,getElem?_modify->Wl,getElem?_push->Xh,getElem?_push_lt->Yy,getElem?_setIfInBounds_ne->SV,getElem?_setIfInBounds_self_of_lt->S_,getElem_mem->XS,isEmpty_iff->Zj,mem_append->Us,range->WL,replicate->TK,size_append->XA,toList_map->VL
open BitVec renaming ofInt->Ug
open Bool renaming and_eq_true->Tc,false_eq_true->TN,false_or->ZB,not_eq_true'->TV,not_false->YD,not_true->an_
open Classical renaming byContradiction->Tl
open Function renaming comp_def->Yx
open Go renaming Addr->U3,BinOp->V_,Call->Xn,CallKind->Xe,Code->T7,Event->Uo,Field->Y1,Frame->T_,Func->YC,FuncId->TO,Goroutine->SH,IntKind->TU,Item->WU,LoopState->ab_,MapEntry->Wn,Oper->Tx,Operand->Tm,PanicEntry->ZX,Program->SJ,ResultVar->UL,TypeInfo->Wm,Value->SP,World->Tq
open Go.Act renaming put->XZ
open Go.Addr renaming add->atT
open Go.Builtin renaming append_->Vz,copy_->at4,delete_->at3,firstCells->Vt,growBy->Zs,lenOf->at2,len_->Yl,nextslicecap->W3,zeroCells->Xk
open Go.CallKind renaming early->U4
open Go.Conc renaming QuitsD->Y_,seen_none->ac_,served->T4
open Go.Deferred renaming ofValue->U2
open Go.Event renaming mute->WI
open Go.Frame renaming catches->ZZ,oper?->YO,round->W_
open Go.GStep renaming after->T1
open Go.Instr renaming checkKey->U_,fill->ab',findKey->VN,index->Z5,indexAt->ZR,loadAt->Xz,mapUpdate->Zz,sameBits->WE,slice->Z4,sliceAt->Yj,sliceBound->Zq,sliceBounds->Zf,storeAt->Yi,sureAddr->U9,typeAssert->Zp
open Go.IntKind renaming bits->atO,i64->SF,signed->atN,wrap->Xc
open Go.Item renaming plain->ag'
open Go.MemAct renaming low_mono->Zo,ofEvent->Tt
open Go.Next renaming value->W5
open Go.Obj renaming isChan->ak'
open Go.Op renaming equal->Xm,equalIn->Vx,intArith->atZ,intDiv->ar_,shift->atM
open Go.Question renaming cut->Zy,forced->ats
open Go.Region renaming binds->Yq,schedule->VM,wanted->Tj
open Go.Region.linearise renaming go->UE
open Go.Sem renaming events_pure->ZN,runT->VF,runT_eq->TC,run_pure->aa'
open Go.Value renaming bool->Xb,slice->Up,tuple->YM
open Go.World renaming cell?->Ux,frozen?->ZW,setCell->Xi
open Go.stepG renaming exec->Ue,oper->Y8
open Int renaming toNat_natCast->VA
open List renaming append_assoc->SD,append_nil->S0,contains_eq_mem->Un,countP_cons_of_neg->WT,countP_cons_of_pos->VT,drop_drop->af_,drop_eq_getElem_cons->TW,drop_zero->Xx,ext_getElem?->Yo,flatMap_cons->T9,foldl_cons->UR,getD_cons_zero->Xl,getD_eq_getElem?_getD->SE,getElem?_append_left->SX,getElem?_append_right->Th,getElem?_cons_succ->UI,getElem?_cons_zero->Vp,getElem?_drop->Um,getElem?_eq_getElem->SQ,getElem?_eq_some_iff->SM,getElem?_map->To,getElem?_range->Xw,getElem?_set_ne->T6,getElem?_set_self->W9,getElem?_take->Uc,getElem?_toArray->Ve,getElem_mem->VQ,length_append->SO,length_cons->Ui,length_drop->Ul,length_nil->UQ,length_take->Ub,mapM_cons->T8,mapM_nil->UA,mapM_toArray->XX,map_congr_left->VB,map_cons->UP,map_drop->aj_,mem_cons->SL,mem_cons_of_mem->Tb,mem_cons_self->TD,mem_filter->Ud,mem_filterMap->VU,mem_iff_getElem?->UO,mem_of_getElem?->Tf,mem_of_mem_take->Wv,mem_range->Tu,mem_toArray->TJ,not_mem_nil->S4,range->SZ,range'->T5,range'_succ->VP,range_eq_range'->Vo,reverse_nil->XT,set_append_right->UN,set_set->W8,singleton_append->Y6,take_length->TH,take_take->U1,take_zero->an'
open Nat renaming add_assoc->XD,add_comm->Z8,add_mul->Va,add_zero->UK,le_of_eq->WJ,le_refl->SR,le_succ->Y5,le_trans->UB,lt_of_lt_of_le->Te,lt_trans->Wp,min_le_left->ZM,mod_lt->as',mul_le_mul->ZT,mul_le_mul_right->Uf,mul_one->Ya,ne_of_lt->Wa,strongRecOn->Ym,sub_zero->Z3,zero_add->Wt,zero_le->X_,zero_mul->Z7
open Option renaming bind_eq_bind->TP,bind_eq_some_iff->Tg,getD_none->Vm,getD_some->S8,map_eq_some_iff->Ts,map_some->UM,pure_def->Uh
open Option.some renaming inj->VX,injEq->Tn
open Prod.mk renaming injEq->U0
namespace Go.Gg
open Go.Conc
abbrev cx:=Nat->Nat->Option SP
abbrev AZ:=Nat->Option Obj
abbrev Spec:=SP->cx->AZ->Prop
inductive m8 where
 |plain
 |fork (c Wg:Nat) (Ss:List (List Spec))
 |recv (c Wg:Nat) (Ss:List (List Spec))
 |work (c Wg:Nat) (S:List Spec)
def m8.group:m8->Option Nat
 |.fork _ Wg _=>some Wg
 |_=>none
def m8.chan:m8->Option Nat
 |.fork c _ _=>some c
 |_=>none
structure View where
 ab:cx
 own:AZ
 deaf:Nat
 role:m8
structure Sat (V:View)(w:Tq):Prop where
 ab:∀b o v,V.ab b o=some v->w.cell? ⟨b,o,none⟩=some v
 own:∀b x,V.own b=some x->w.heap[b]?=some x
def tN (V:View)(n:Nat)(a:U3):Prop:=n<=a.block\/V.own a.block≠none\/V.ab a.block a.off≠none
def mD (V:View)(n:Nat)(a:U3):Prop:=n<=a.block\/(V.own a.block≠none/\V.ab a.block a.off=none)
def mX (V:View)(n:Nat)(e:Uo):Prop:=
 match e with
 |⟨.cell a,false,s⟩=>tN V n a/\(s=true\/V.role.group≠some a.block)
 |⟨.cell a,true,s⟩=>mD V n a/\(s=true\/V.role.group≠some a.block)
 |⟨.obj r,_,s⟩=>(s=false/\(n<=r\/V.own r≠none))/\V.role.chan≠some r
 |⟨.mark (.read a),_,_⟩=>mD V n a
 |⟨.mark (.write a),_,_⟩=>mD V n a
 |⟨.mark .disable,_,s⟩=>s=true
 |⟨.mark .enable,_,s⟩=>s=true
 |⟨.mark .noRoom,_,_⟩=>True
 |_=>False
structure dc (V:View)(w:Tq)(V':View)(w':Tq)(es:Array Uo):Prop where
 sat:Sat V' w'
 tape:w'.tape=w.tape
 os:w'.os=w.os
 output:w'.output=w.output
 size:w.heap.size<=w'.heap.size
 frame:∀b,b<w.heap.size->V.own b=none->w'.heap[b]?=w.heap[b]?
 own:∀b,b<w.heap.size->V.own b=none->V'.own b=none
 ab:∀b o v,V.ab b o=some v->V'.ab b o=some v
 kI:∀b o v,V'.ab b o=some v->V.ab b o=some v\/V.own b≠none\/w.heap.size<=b
 fg:∀e∈es,mX V w.heap.size e
 deaf:V'.deaf=deafBehind V.deaf es
 role:V'.role=V.role
 chan:∀c x,V.role.chan=some c->V.own c=some x->V'.own c=some x
 low:∀e∈es,(Tt e).low w'.heap.size
structure dW (V V':View):Prop where
 sat:∀w,Sat V w->Sat V' w
 own:∀b,V.own b=none->V'.own b=none
 ab:∀b o v,V.ab b o=some v->V'.ab b o=some v
 kI:∀b o v,V'.ab b o=some v->V.ab b o=some v\/V.own b≠none
 deaf:V'.deaf=V.deaf
 role:V'.role=V.role
 chan:∀c x,V.role.chan=some c->V.own c=some x->V'.own c=some x
theorem dW.refl(V:View):dW V V:=⟨λ_ h=>h,λ_ h=>h,λ_ _ _ h=>h,λ_ _ _ h=> .inl h,rfl,rfl,λ_ _ _ e=>e⟩
theorem dW.trans{V V' aS:View}(h:dW V V')(k:dW V' aS):dW V aS:=
 ⟨λw x=>k.sat w (h.sat w x),λb x=>k.own b (h.own b x),λb o v x=>k.ab b o v (h.ab b o v x),λb o v x=>(k.kI b o v x).elim (λy=>h.kI b o v y) (λy=> .inr λz=>y (h.own b z)),k.deaf.trans h.deaf,k.role.trans h.role,λc x e e'=>k.chan c x (by rw[h.role];exact e) (h.chan c x e e')⟩
theorem tN.rM{V V':View}(g:dW V V'){n:Nat}{a:U3}(h:tN V' n a):tN V n a:=by
 rcases h with h|h|h
 ·exact .inl h
 ·exact .inr (.inl λe=>h (g.own _ e))
 ·cases e:V'.ab a.block a.off with
  |none=>exact absurd e h
  |some v=>exact(g.kI _ _ _ e).elim (λx=> .inr (.inr (by rw[x];simp))) (λx=> .inr (.inl x))
theorem mD.rM{V V':View}(g:dW V V'){n:Nat}{a:U3}(h:mD V' n a):mD V n a:=by
 rcases h with h|⟨h,h'⟩
 ·exact .inl h
 ·refine .inr ⟨λe=>h (g.own _ e),?_⟩;cases e:V.ab a.block a.off with
  |none=>rfl
  |some v=>rw[g.ab _ _ _ e]at h';cases h'
theorem mX.rM{V V':View}(g:dW V V'){n:Nat}{e:Uo}(h:mX V' n e):mX V n e:=by
 unfold mX at h⊢;split at h
 ·exact⟨tN.rM g h.1,by rw[<- g.role];exact h.2⟩
 ·exact⟨mD.rM g h.1,by rw[<- g.role];exact h.2⟩
 ·exact⟨⟨h.1.1,h.1.2.imp id λx y=>x (g.own _ y)⟩,by rw[<- g.role];exact h.2⟩
 ·exact mD.rM g h
 ·exact mD.rM g h
 ·exact h
 ·exact h
 ·trivial
 ·exact h.elim
theorem dc.rM{V V₁ V':View}{w w':Tq}{es:Array Uo}(g:dW V V₁)(h:dc V₁ w V' w' es):dc V w V' w' es:=
 ⟨h.sat,h.tape,h.os,h.output,h.size,λb hb e=>h.frame b hb (g.own b e),λb hb e=>h.own b hb (g.own b e),λb o v e=>h.ab b o v (g.ab b o v e),
  λb o v e=>(h.kI b o v e).elim (λx=>(g.kI b o v x).imp id .inl) (λx=> .inr (x.imp (λy z=>y (g.own b z)) id)),λe he=>mX.rM g (h.fg e he),by rw[h.deaf,g.deaf],h.role.trans g.role,λc x e e'=>h.chan c x (by rw[g.role];exact e) (g.chan c x e e'),h.low⟩
theorem dc.ghost{V V' aS:View}{w w':Tq}{es:Array Uo}(h:dc V w V' w' es)(g:dW V' aS):dc V w aS w' es:=
 ⟨g.sat _ h.sat,h.tape,h.os,h.output,h.size,h.frame,λb hb e=>g.own b (h.own b hb e),λb o v e=>g.ab b o v (h.ab b o v e),
  λb o v e=>(g.kI b o v e).elim (λx=>h.kI b o v x) (λx=>by
   by_cases hb:b<w.heap.size
   ·exact .inr (.inl λy=>x (h.own b hb y))
   ·exact .inr (.inr (by omega))),h.fg,by rw[g.deaf,h.deaf],g.role.trans h.role,λc x e e'=>g.chan c x (by rw[h.role];exact e) (h.chan c x e e'),h.low⟩
theorem dc.idle{V:View}{w:Tq}(h:Sat V w):dc V w V w #[]:=
 ⟨h,rfl,rfl,rfl,SR _,λ_ _ _=>rfl,λ_ _ e=>e,λ_ _ _ e=>e,λ_ _ _ e=> .inl e,by simp,rfl,rfl,λ_ _ _ e=>e,by simp⟩
theorem Sat.drew{V:View}{w:Tq}(h:Sat V w)(d:Nat):Sat V {w with drawn:=d}:=⟨h.ab,h.own⟩
theorem dc.draw{V:View}{w:Tq}(h:Sat V w)(d:Nat):dc V w V {w with drawn:=d} #[]:=
 ⟨h.drew d,rfl,rfl,rfl,SR _,λ_ _ _=>rfl,λ_ _ e=>e,λ_ _ _ e=>e,λ_ _ _ e=> .inl e,by simp,rfl,rfl,λ_ _ _ e=>e,by simp⟩
def dV (Wg:Nat):U3:=⟨Wg,0,none⟩
def oC (Wg:Nat):U3:=⟨Wg,1,none⟩
def Nw (P : SJ) : TypeId := ((P.types.findIdx? λi => match i.desc with | .named n _ => n == "sync.WaitGroup" | _ => false).getD 0)
def wgBlock (P:SJ)(st sm:Int):Obj:=.cells #[.int .u64 st,.int .u32 sm] (Nw P)
def WgAt (P:SJ)(Wg:Nat)(w:Tq)(st sm:Int):Prop:=w.heap[Wg]?=some (wgBlock P st sm)
def KK:Int:=4294967296
def iT (a:U3):Uo:=⟨.cell a,false,true⟩
def k_ (a:U3):Uo:=⟨.cell a,true,true⟩
def j3 (m:Mark):Uo:=⟨.mark m,false,true⟩
def Aq (a:U3):Array Uo:=#[j3 .disable,iT a,k_ a,j3 .enable]
def cQ (P:SJ)(Stop:Nat->SH->Prop):Nat->Nat->SH->Prop
 |0,d,g=>Stop d g
 |n+1,d,g=>Stop d g\/(g.status=.running/\∃g' es,(∀e∈es,WI e=true)/\(∀w,stepG P false g w=.go g' w es)/\cQ P Stop n (deafBehind d es) g')
def gU (P:SJ)(Wg:Nat)(Stop:Nat->SH->Prop):Nat->Nat->SH->Prop
 |0,d,g=>Stop d g
 |n+1,d,g=>Stop d g\/(g.status=.running/\∃g' es,(∀e∈es,WI e=true)/\(∀w x y,WgAt P Wg w x y->stepG P false g w=.go g' w es)/\gU P Wg Stop n (deafBehind d es) g')
section
variable (P:SJ)(Wg:Nat)
def DT (d:Nat)(g:SH):Prop:=d=1/\g.status=.running/\mayWake P g=true/\∃g',(∀w,WgAt P Wg w 0 0->stepG P false g w=.go g' (w.setCell (oC Wg) (.int .u32 1)) (Aq (oC Wg)))/\∃q,Y_ P q 1 g'
def DU (d:Nat)(g:SH):Prop:=d=1/\g.status=.running/\∃g',(∀w,WgAt P Wg w 1 0->stepG P false g w=.go g' (w.setCell (dV Wg) (.int .u64 0)) #[k_ (dV Wg)])/\∃n,cQ P (DT P Wg) n 1 g'
def DR (d:Nat)(g:SH):Prop:=d=1/\g.status=.running/\∃g',(∀w,WgAt P Wg w 1 0->stepG P false g w=.go g' w #[iT (dV Wg)])/\∃n,cQ P (DU P Wg) n 1 g'
def AJ (d:Nat)(g:SH):Prop:=d=1/\g.status=.running/\∀v wt:Nat,wt<=1->v<4->∃g',(∀w,WgAt P Wg w (((v+1:Nat):Int)* KK+wt) 0->stepG P false g w=.go g' (w.setCell (dV Wg) (.int .u64 ((v:Int)* KK+wt))) #[iT (dV Wg),k_ (dV Wg)])/\
 ((v=0/\wt=1)->∃n,cQ P (DR P Wg) n 1 g')/\(¬(v=0/\wt=1)->∃q,Y_ P q 1 g')
def DZ (g:SH):Prop:=g.status=.running/\∃g',(∀w,stepG P false g w=.go g' w #[j3 (.releaseMerge (dV Wg))])/\∃n,cQ P (AJ P Wg) n 0 g'
end
section
variable (P:SJ)(Im:cx)(c Wg:Nat)
def HG (d:Nat)(g:SH):Prop:=d=0/\g.status=.running/\mayWake P g=true/\∃g',(∀w s,w.heap[c]?=some (.chan 0 #[] false s s false)->stepG P false g w=.go g' {w with heap:=w.heap.setIfInBounds c (.chan 0 #[] true s s false)} #[⟨.obj c,false,true⟩,⟨.obj c,true,true⟩])/\∃q,Y_ P q 0 g'
def HI (d:Nat)(g:SH):Prop:=d=0/\g.status=.running/\∃b o x g',Im b o=some x/\(∀w,w.cell? ⟨b,o,none⟩=some x->stepG P false g w=.go g' w #[⟨.cell ⟨b,o,none⟩,false,false⟩])/\∃n,cQ P (HG P c) n 0 g'
def tK (d:Nat)(g:SH):Prop:=d=0/\g.status=.running/\∃g',(∀w,stepG P false g w=.go g' w #[j3 (.acquire (dV Wg))])/\∃n,cQ P (HI P Im c) n 0 g'
def HH (d:Nat)(g:SH):Prop:=d=1/\g.status=.running/\∃g',(∀w,WgAt P Wg w 0 0->stepG P false g w=.go g' w #[iT (dV Wg)])/\∃n,gU P Wg (tK P Im c Wg) n 1 g'
def DO (d:Nat)(g:SH):Prop:=d=1/\g.status=.running/\g.offers=none/\(∀w st,WgAt P Wg w st 0->stepG P false g w=.go {g with status:=.blocked} w #[])/\
 ∃g',(∀w,WgAt P Wg w 0 1->stepG P false g w=.go g' (w.setCell (oC Wg) (.int .u32 0)) (Aq (oC Wg)))/\∃n,cQ P (HH P Im c Wg) n 1 g'
def DN (d:Nat)(g:SH):Prop:=d=1/\g.status=.running/\∃g',(∀w,stepG P false g w=.go g' w #[j3 (.write (oC Wg))])/\∃n,cQ P (DO P Im c Wg) n 1 g'
def eM:Nat->Nat->SH->Prop
 |0,_,_=>False
 |k+1,d,g=>d=1/\g.status=.running/\∀v:Nat,v<=k->v<=4->∃g',(∀w,WgAt P Wg w ((v:Int)* KK) 0->stepG P false g w=.go g' w #[iT (dV Wg)])/\(v=0->∃n,gU P Wg (tK P Im c Wg) n 1 g')/\
  (v≠0->∃n,cQ P (λd g=>d=1/\g.status=.running/\
   (∃g',(∀w,WgAt P Wg w ((v:Int)* KK) 0->stepG P false g w=.go g' (w.setCell (dV Wg) (.int .u64 ((v:Int)* KK+1))) #[iT (dV Wg),k_ (dV Wg)])/\∃n,gU P Wg (DN P Im c Wg) n 1 g')/\
   (∀u:Nat,u<v->∃g',(∀w,WgAt P Wg w ((u:Int)* KK) 0->stepG P false g w=.go g' w #[iT (dV Wg)])/\∃n,cQ P (eM v) n 1 g')) n 1 g')
 termination_by k _ _=>k
def HJ (g:SH):Prop:=∃n,cQ P (eM P Im c Wg 5) n 0 g
end
structure yq (P:SJ)(main:Bool)(J:View->SH->Prop):Prop where
 step:∀V g,g.status=.running->(∀w,Sat V w->∃g' w' es V',stepG P main g w=.go g' w' es/\dc V w V' w' es/\J V' g')->J V g
 ghost:∀V V' g,dW V V'->J V' g->J V g
 send:∀V g c Wg sp S v z (B:Nat->Bool),V.role=.work c Wg (sp::S)->V.deaf=0->g.status=.running->g.offers=none->
  (∀w,Sat V w->stepG P main g w=.comm g #[scase c v z] true .send w #[])->sp v V.ab (λb=>if B b then V.own b else none)->
  J {V with own:=λb=>if B b then none else V.own b,role:=.work c Wg S} (T4 g undef)->J V g
 done:∀V g c Wg,V.role=.work c Wg []->V.deaf=0->DZ P Wg g->J V g
 slip:∀V g g' c Wg,V.role=.work c Wg []->g.status=.running->(∀w st,Sat V w->WgAt P Wg w st 0->stepG P main g w=.go g' w #[])->J V g'->J V g
structure adG (P:SJ)(main:Bool)(J:View->SH->Prop):Prop where
 start:∀V g c Wg,V.role=.plain->c≠Wg->V.own c=some (.chan 0 #[] false 0 0 false)->V.own Wg≠none->(∀o,V.ab Wg o=none)->J {V with role:=.fork c Wg []} g->J V g
 EJ:∀V g g' child c Wg Ss sp S,V.role=.fork c Wg Ss->V.deaf=0->g.status=.running->V.own c=some (.chan 0 #[] false 0 0 false)->V.own Wg=some (wgBlock P (((Ss.length+1:Nat):Int)* 4294967296) 0)->Ss.length<4->(∀o,V.ab Wg o=none)->
  (∀w,Sat V w->stepG P main g w=.spawn g' child w #[])->child.status=.running->
  (∀J0,yq P false J0->J0 {ab:=V.ab,own:=λ_=>none,deaf:=0,role:=.work c Wg (sp::S)} child)->
  J {V with role:=.fork c Wg (Ss++[sp::S])} g'->J V g
 EI:∀V g g' child c Wg Ss,V.role=.fork c Wg Ss->V.deaf=0->g.status=.running->c≠Wg->V.own c=some (.chan 0 #[] false 0 0 false)->V.own Wg=some (wgBlock P (((Ss.length:Nat):Int)* 4294967296) 0)->(∀o,V.ab c o=none)->(∀o,V.ab Wg o=none)->
  (∀w,Sat V w->stepG P main g w=.spawn g' child w #[])->child.status=.running->HJ P V.ab c Wg child->
  J {V with own:=λb=>if b=c\/b=Wg then none else V.own b,role:=.recv c Wg Ss} g'->J V g
 recv:∀V g c Wg Ss z,V.role=.recv c Wg Ss->V.deaf=0->g.status=.running->g.offers=none->
  (∀w,Sat V w->stepG P main g w=.comm g #[rcase c z] true (.recv true) w #[])->
  (∀i sp S v Im Ow,Ss[i]?=some (sp::S)->sp v Im Ow->(∀b,V.own b≠none->Ow b=none)->(∀b o,V.own b≠none->Im b o≠none->V.ab b o≠none)->(∃w,Sat V w/\(∀b o x,Im b o=some x->w.cell? ⟨b,o,none⟩=some x)/\∀b x,Ow b=some x->w.heap[b]?=some x)->
   J {V with ab:=λb o=>match V.ab b o with|some x=>some x|none=>Im b o,own:=λb=>match V.own b with|some x=>some x|none=>Ow b,role:=.recv c Wg (Ss.set i S)} (T4 g (.tuple #[v,.bool true])))->
  ((∀S∈Ss,S=[])->J {V with role:=.plain} (T4 g (.tuple #[z,.bool false])))->J V g
structure Closed (lv:Bool)(P:SJ)(main:Bool)(J:View->SH->Prop):Prop extends yq P main J where
 more:lv=true->adG P main J
theorem Closed.idle{lv:Bool}{P:SJ}{main:Bool}{J:View->SH->Prop}(C:Closed lv P main J){V:View}{g g':SH}(hs:g.status=.running)(h:∀w,stepG P main g w=.go g' w #[]) (hJ:J V g'):J V g:=
 C.step V g hs λw hw=>⟨g',w,#[],V,h w,.idle hw,hJ⟩
def on (b:T_)(a:Act)(todo:List WU):T_:={b with tmps:=a.tmps,todo,defers:=a.defers,mode:=.run}
inductive Ex where
 |normal
 |exit (id:Nat)
 |goto (l:Nat)
 |ret
 |panic (chain:List ZX)
def py (J:View->SH->Prop)(b:T_)(cs:List T_)(a:Act)(V:View)(x:T7)(to:List WU->Option (List WU))(k:List WU):Prop:=
 (∃k',to k=some k'/\J V (G (on b a k') cs))\/(to k=none/\∀k2,to k2=none->J V (G (on b a (.code x::k2)) cs))
theorem py.under{J:View->SH->Prop}{b:T_}{cs:List T_}{a:Act}{V:View}{x:T7}{to:List WU->Option (List WU)}{k k2:List WU}(h:py J b cs a V x to k)(e:to k2=to k):py J b cs a V x to k2:=by
 rcases h with⟨k',h1,h2⟩|⟨h1,h2⟩
 ·exact .inl ⟨k',e.trans h1,h2⟩
 ·exact .inr ⟨e.trans h1,h2⟩
def aa4:List WU->Bool
 |.call .. ::_=>false
 |_=>true
def vd (J:View->SH->Prop)(b:T_)(k:List WU)(cs:List T_):Ex->Act->View->Prop
 |.normal,a,V=>J V (G (on b a k) cs)
 |.exit id,a,V=>py J b cs a V (.exit id) (exitTo id) k
 |.goto l,a,V=>py J b cs a V (.goto l) (gotoIn l) k
 |.ret,a,V=>∀k,J V (G (on b a (.code .ret::k)) cs)
 |.panic chain,a,V=>∀todo,aa4 todo=true->J V (G {on b a todo with mode:=.panicking chain} cs)
def WP (lv:Bool)(P:SJ)(r:Option Nat)(c:T7)(Q:Ex->Act->View->Prop)(a:Act)(V:View):Prop:=
 ∀(main:Bool)(J:View->SH->Prop),Closed lv P main J->∀(b:T_)(k:List WU)(cs:List T_),b.kind≠ .early->b.roundOf=r->
  (∀e a' V',Q e a' V'->vd J b k cs e a' V')->J V (G (on b a (.code c::k)) cs)
section steps
variable {P:SJ}{main:Bool}{b:T_}{a:Act}{k:List WU}{cs:List T_}{w:Tq}
theorem apN:stepG P main (G (on b a (.code .skip::k)) cs) w=.go (G (on b a k) cs) w #[]:=by simp[G,stepG,Ue,on]
theorem apG{l:Nat}:stepG P main (G (on b a (.code (.label l)::k)) cs) w=.go (G (on b a k) cs) w #[]:=by simp[G,stepG,Ue,on]
theorem apD{id:Nat}:stepG P main (G (on b a (.inBlock id::k)) cs) w=.go (G (on b a k) cs) w #[]:=by simp[G,stepG,Ue,on]
theorem apF{c:T7}:stepG P main (G (on b a (.inScope c::k)) cs) w=.go (G (on b a k) cs) w #[]:=by simp[G,stepG,Ue,on]
theorem ab0{x y:T7}:stepG P main (G (on b a (.code (.seq x y)::k)) cs) w=.go (G (on b a (.code x:: .code y::k)) cs) w #[]:=by simp[G,stepG,Ue,on]
theorem GC(b:T_)(a:Act)(todo:List WU)(x:Tm):(on b a todo).eval x=a.eval x:=by cases x<;>rfl
theorem anJ(b:T_)(a:Act)(todo:List WU):(on b a todo).eval=a.eval:=funext (GC b a todo)
theorem s_cond{c:Tm}{x y:T7}{t:Bool}(h:a.eval c=.bool t):
  stepG P main (G (on b a (.code (.cond c x y)::k)) cs) w=.go (G (on b a (.code (if t then x else y)::k)) cs) w #[]:=by
 have h':(on b a (.code (.cond c x y)::k)).eval c=.bool t:=by rw[GC];exact h
 simp only[on]at h';simp[G,stepG,Ue,on,h']
theorem apA{id:Nat}{c:T7}:stepG P main (G (on b a (.code (.block id c)::k)) cs) w=.go (G (on b a (.code c:: .inBlock id::k)) cs) w #[]:=by simp[G,stepG,Ue,on]
theorem apM{c:T7}:stepG P main (G (on b a (.code (.scope c)::k)) cs) w=.go (G (on b a (.code c:: .inScope c::k)) cs) w #[]:=by simp[G,stepG,Ue,on]
theorem apI{c:T7}:stepG P main (G (on b a (.code (.loop c)::k)) cs) w=.go (G (on b a (.code c:: .inLoop c::k)) cs) w #[]:=by simp[G,stepG,Ue,on]
theorem apE{c:T7}:stepG P main (G (on b a (.inLoop c::k)) cs) w=.go (G (on b a (.code c:: .inLoop c::k)) cs) w #[]:=by simp[G,stepG,Ue,on]
theorem s_exit{id:Nat}{k':List WU}(h:exitTo id k=some k'):stepG P main (G (on b a (.code (.exit id)::k)) cs) w=.go (G (on b a k') cs) w #[]:=by simp[G,stepG,Ue,on,h]
theorem apC{l:Nat}{k':List WU}(h:gotoIn l k=some k'):stepG P main (G (on b a (.code (.goto l)::k)) cs) w=.go (G (on b a k') cs) w #[]:=by simp[G,stepG,Ue,on,h]
theorem abZ{id:Nat}{ops:Array Tx}:stepG P main (G (on b a (.code (.region id ops false)::k)) cs) w=.go (G (on b a (.inRegion ops (SZ ops.size)::k)) cs) w #[]:=by simp[G,stepG,Ue,on]
theorem apB{id:Nat}{ops:Array Tx}:stepG P main (G (on b a (.code (.region id ops true)::k)) cs) w=
  .go (G (on b a (.inRegion ops (VM (P.follows .mixedOrders) ops (w.tape w.drawn (.order b.fn id)))::k)) cs) {w with drawn:=w.drawn+1} #[]:=by
 simp[G,stepG,Ue,on,choose,Sem.run,ats,Zy]
theorem apL{ops:Array Tx}:stepG P main (G (on b a (.inRegion ops []::k)) cs) w=.go (G (on b a k) cs) w #[]:=by simp[G,stepG,Ue,on]
theorem Dg(h:b.roundOf=none):stepG P main (G (on b a (.code .ret::k)) cs) w=.go (G {on b a (.code .ret::k)with mode:=.returning} cs) w #[]:=by simp[G,stepG,Ue,on,h]
theorem Df(h:b.roundOf=none):stepG P main (G (on b a []) cs) w=.go (G {on b a []with mode:=.returning} cs) w #[]:=by simp[G,stepG,Ue,on,h]
end steps
section rules
variable {lv:Bool}{P:SJ}{r:Option Nat}{Q:Ex->Act->View->Prop}{a:Act}{V:View}
theorem WP.mono{c:T7}{Q':Ex->Act->View->Prop}(h:WP lv P r c Q a V)(hq:∀e a V,Q e a V->Q' e a V):WP lv P r c Q' a V:=
 λmain J C b k cs hb hr hL=>h main J C b k cs hb hr λe a' V' q=>hL e a' V' (hq _ _ _ q)
theorem WP.ghost{c:T7}{V':View}(g:dW V V')(h:WP lv P r c Q a V'):WP lv P r c Q a V:=
 λmain J C b k cs hb hr hL=>C.ghost _ _ _ g (h main J C b k cs hb hr hL)
theorem wp_skip(h:Q .normal a V):WP lv P r .skip Q a V:=λ_ _ C _ _ _ _ _ hL=>C.idle rfl (λ_=>apN) (hL _ _ _ h)
theorem wp_label{l:Nat}(h:Q .normal a V):WP lv P r (.label l) Q a V:=λ_ _ C _ _ _ _ _ hL=>C.idle rfl (λ_=>apG) (hL _ _ _ h)
theorem aar{main:Bool}{J:View->SH->Prop}(C:Closed lv P main J){b:T_}{cs:List T_}{a:Act}{V:View}{id:Nat}{k:List WU}(h:py J b cs a V (.exit id) (exitTo id) k):J V (G (on b a (.code (.exit id)::k)) cs):=
 h.elim (λ⟨_,hk,hJ⟩=>C.idle rfl (λ_=>s_exit hk) hJ) (λ⟨hk,hJ⟩=>hJ k hk)
theorem alM{main:Bool}{J:View->SH->Prop}(C:Closed lv P main J){b:T_}{cs:List T_}{a:Act}{V:View}{l:Nat}{k:List WU}(h:py J b cs a V (.goto l) (gotoIn l) k):J V (G (on b a (.code (.goto l)::k)) cs):=
 h.elim (λ⟨_,hk,hJ⟩=>C.idle rfl (λ_=>apC hk) hJ) (λ⟨hk,hJ⟩=>hJ k hk)
theorem wp_exit{id:Nat}(h:Q (.exit id) a V):WP lv P r (.exit id) Q a V:=λ_ _ C _ _ _ _ _ hL=>aar C (hL _ _ _ h)
theorem wp_ret(h:Q .ret a V):WP lv P r .ret Q a V:=λ_ _ _ _ k _ _ _ hL=>hL _ _ _ h k
def Ex.then (next:Act->View->Prop)(Q:Ex->Act->View->Prop):Ex->Act->View->Prop
 |.normal,a,V=>next a V
 |e,a,V=>Q e a V
theorem vd.under{J:View->SH->Prop}{b:T_}{k:List WU}{cs:List T_}{x:WU}(hx:x.plain=true){e:Ex}(he:e≠ .normal){a:Act}{V:View}(h:vd J b k cs e a V):vd J b (x::k) cs e a V:=by
 cases e with
 |normal=>exact absurd rfl he
 |exit id=>exact py.under h (by cases x<;>simp_all[exitTo,ag'])
 |goto l=>exact py.under h (by cases x<;>simp_all[gotoIn,ag'])
 |ret=>exact h
 |panic ch=>exact h
theorem wp_seq{x y:T7}(h:WP lv P r x (Ex.then (WP lv P r y Q) Q) a V):WP lv P r (.seq x y) Q a V:=by
 intro main J C b k cs hb hr hL;refine C.idle rfl (λ_=>ab0) (h main J C b (.code y::k) cs hb hr λe a' V' q=> ?_);cases e with
 |normal=>exact q main J C b k cs hb hr hL
 |exit id=>exact(hL _ _ _ q).under rfl (by simp)
 |goto l=>exact(hL _ _ _ q).under rfl (by simp)
 |ret=>exact(hL _ _ _ q).under rfl (by simp)
 |panic ch=>exact(hL _ _ _ q).under rfl (by simp)
theorem wp_cond{c:Tm}{x y:T7}{t:Bool}(hc:a.eval c=.bool t)(h:WP lv P r (if t then x else y) Q a V):WP lv P r (.cond c x y) Q a V:=
 λmain J C b k cs hb hr hL=>C.idle rfl (λ_=>s_cond hc) (h main J C b k cs hb hr hL)
def Ex.inBlock (id:Nat)(Q:Ex->Act->View->Prop):Ex->Act->View->Prop
 |.exit oz,a,V=>if oz=id then Q .normal a V else Q (.exit oz) a V
 |e,a,V=>Q e a V
theorem wp_block{id:Nat}{c:T7}(h:WP lv P r c (Ex.inBlock id Q) a V):WP lv P r (.block id c) Q a V:=by
 intro main J C b k cs hb hr hL;refine C.idle rfl (λ_=>apA) (h main J C b (.inBlock id::k) cs hb hr λe a' V' q=> ?_);cases e with
 |normal=>exact C.idle rfl (λ_=>apD) (hL _ _ _ q)
 |exit oz=>
  by_cases cg:oz=id
  ·simp only[Ex.inBlock,cg,if_true]at q;exact .inl ⟨k,by simp[exitTo,cg],hL _ _ _ q⟩
  ·simp only[Ex.inBlock,cg,if_false]at q;have:(id==oz)=false:=(by simp;exactλh=>cg h.symm);exact py.under (hL _ _ _ q) (by simp[exitTo,this])
 |goto l=>exact py.under (hL _ _ _ q) (by simp[gotoIn])
 |ret=>exact hL _ _ _ q
 |panic ch=>exact hL _ _ _ q
theorem NG{α:Type}{lt:α->α->Prop}(wf:WellFounded lt){c:T7}(I:α->Act->View->Prop)(m:α)(h₀:I m a V)
  (round:∀m a V,I m a V->WP lv P r c (Ex.then (λa' V'=>∃m',lt m' m/\I m' a' V') Q) a V):WP lv P r (.loop c) Q a V:=by
 intro main J C b k cs hb hr hL;have key:∀m a V,I m a V->J V (G (on b a (.code c:: .inLoop c::k)) cs):=by
  intro m;induction m using wf.induction with
  |_ m ih=>
   intro a V hI;refine round m a V hI main J C b (.inLoop c::k) cs hb hr λe a' V' q=> ?_;cases e with
   |normal=>obtain⟨m',hlt,hI'⟩:=q;exact C.idle rfl (λ_=>apE) (ih m' hlt a' V' hI')
   |exit id=>exact(hL _ _ _ q).under rfl (by simp)
   |goto l=>exact(hL _ _ _ q).under rfl (by simp)
   |ret=>exact(hL _ _ _ q).under rfl (by simp)
   |panic ch=>exact(hL _ _ _ q).under rfl (by simp)
 exact C.idle rfl (λ_=>apI) (key m a V h₀)
theorem wp_loop{c:T7}(I:Nat->Act->View->Prop)(m:Nat)(h₀:I m a V)
  (round:∀m a V,I m a V->WP lv P r c (Ex.then (λa' V'=>∃m',m'<m/\I m' a' V') Q) a V):WP lv P r (.loop c) Q a V:=
 NG Nat.lt_wfRel.wf I m h₀ round
theorem ady{c:T7}(I:Nat->Nat->Act->View->Prop)
  (start:∃n:Nat,WP lv P r c (λe a V=>match e with
   |.goto l=>∃rest,findLabel c l=some rest/\∃m,m<n/\I l m a V
   |e=>Q e a V) a V)
  (back:∀l rest m a V,findLabel c l=some rest->I l m a V->WP lv P r rest (λe a V=>match e with
   |.goto l'=>∃yg,findLabel c l'=some yg/\∃m',m'<m/\I l' m' a V
   |e=>Q e a V) a V):WP lv P r (.scope c) Q a V:=by
 intro main J C b k cs hb hr hL;have land:∀(n:Nat),(∀l rest m a V,m<n->findLabel c l=some rest->I l m a V->J V (G (on b a (.code rest:: .inScope c::k)) cs))->
   ∀e a' V',(match e with
   |.goto l=>∃rest,findLabel c l=some rest/\∃m,m<n/\I l m a' V'
   |e=>Q e a' V')->vd J b (.inScope c::k) cs e a' V':=by
  intro n hn e a' V' q;cases e with
  |normal=>exact C.idle rfl (λ_=>apF) (hL _ _ _ q)
  |exit id=>exact py.under (hL _ _ _ q) (by simp[exitTo])
  |goto l=>
   obtain⟨rest,hf,m,hm,hI⟩:=q;exact .inl ⟨_,by simp[gotoIn,hf],hn l rest m a' V' hm hf hI⟩
  |ret=>exact hL _ _ _ q
  |panic ch=>exact hL _ _ _ q
 have key:∀n l rest m a V,m<n->findLabel c l=some rest->I l m a V->J V (G (on b a (.code rest:: .inScope c::k)) cs):=by
  intro n;induction n with
  |zero=>intro _ _ _ _ _ h;omega
  |succ n ih=>
   intro l rest m a V hm hf hI;exact back l rest m a V hf hI main J C b (.inScope c::k) cs hb hr (land m λl' yg m' a' V' h'=>ih l' yg m' a' V' (by omega))
 obtain⟨n,hn⟩:=start;exact C.idle rfl (λ_=>apM) (hn main J C b (.inScope c::k) cs hb hr (land n (key n)))
end rules
open Go.Conc
def View.get (V:View)(b o:Nat):Option SP:=
 match V.ab b o with
 |some v=>some v
 |none=>match V.own b with
  |some (.cells c _ _)=>c[o]?
  |_=>none
def View.upd (V:View)(b:Nat)(x:Obj):View:={V with own:=λb'=>if b'=b then some x else V.own b'}
def View.fresh (V:View)(b:Nat):Prop:=V.own b=none/\∀o,V.ab b o=none
theorem Sat.get{V:View}{w:Tq}(h:Sat V w){b o:Nat}{v:SP}(e:V.get b o=some v):w.cell? ⟨b,o,none⟩=some v:=by
 unfold View.get at e;split at e
 ·rename_i v' hv;cases e;exact h.ab _ _ _ hv
 ·split at e
  ·rename_i c el f ho;have:=h.own _ _ ho;simpa[Ux,this]using e
  ·cases e
theorem Sat.lt{V:View}{w:Tq}(h:Sat V w){b:Nat}{x:Obj}(e:V.own b=some x):b<w.heap.size:=by
 have:=h.own _ _ e;exact(SU.1 this).1
theorem Sat.CP{V:View}{w:Tq}(h:Sat V w){b o:Nat}{v:SP}(e:V.ab b o=some v):b<w.heap.size:=by
 have:=h.ab _ _ _ e;unfold Ux at this;split at this
 ·rename_i hh;exact(SU.1 hh).1
 ·cases this
theorem Sat.fresh{V:View}{w:Tq}(h:Sat V w){b:Nat}(hb:w.heap.size<=b):V.fresh b:=
 ⟨by cases e:V.own b with
  |none=>rfl
  |some x=>have:=h.lt e;omega,λo=>by
  cases e:V.ab b o with
  |none=>rfl
  |some x=>have:=h.CP e;omega⟩
theorem Sat.eR{V:View}{w:Tq}(h:Sat V w){b o:Nat}{v:SP}(e:V.get b o=some v):b<w.heap.size:=by
 have:=h.get e;unfold Ux at this;split at this
 ·rename_i hh;exact(SU.1 hh).1
 ·cases this
theorem tN.yb{V V₁:View}{w w₁:Tq}{es:Array Uo}(s:dc V w V₁ w₁ es){a:U3}(h:tN V₁ w₁.heap.size a):tN V w.heap.size a:=by
 rcases h with h|h|h
 ·exact .inl (UB s.size h)
 ·by_cases hb:a.block<w.heap.size
  ·exact .inr (.inl λe=>h (s.own _ hb e))
  ·exact .inl (by omega)
 ·cases e:V₁.ab a.block a.off with
  |none=>exact absurd e h
  |some v=>
   rcases s.kI _ _ _ e with x|x|x
   ·exact .inr (.inr (by rw[x];simp))
   ·exact .inr (.inl x)
   ·exact .inl x
theorem mD.yb{V V₁:View}{w w₁:Tq}{es:Array Uo}(s:dc V w V₁ w₁ es){a:U3}(h:mD V₁ w₁.heap.size a):mD V w.heap.size a:=by
 rcases h with h|⟨h,h'⟩
 ·exact .inl (UB s.size h)
 ·by_cases hb:a.block<w.heap.size
  ·refine .inr ⟨λe=>h (s.own _ hb e),?_⟩;cases e:V.ab a.block a.off with
   |none=>rfl
   |some v=>rw[s.ab _ _ _ e]at h';cases h'
  ·exact .inl (by omega)
theorem mX.yb{V V₁:View}{w w₁:Tq}{es:Array Uo}(s:dc V w V₁ w₁ es){e:Uo}(h:mX V₁ w₁.heap.size e):mX V w.heap.size e:=by
 unfold mX at h⊢;split at h
 ·exact⟨tN.yb s h.1,by rw[<- s.role];exact h.2⟩
 ·exact⟨mD.yb s h.1,by rw[<- s.role];exact h.2⟩
 ·refine⟨⟨h.1.1,?_⟩,by rw[<- s.role];exact h.2⟩;rename_i r _ _;rcases h.1.2 with x|x
  ·exact .inl (UB s.size x)
  ·by_cases hb:r<w.heap.size
   ·exact .inr λy=>x (s.own _ hb y)
   ·exact .inl (by omega)
 ·exact mD.yb s h
 ·exact mD.yb s h
 ·exact h
 ·exact h
 ·trivial
 ·exact h.elim
theorem Iz(d:Nat)(x y:Array Uo):deafBehind d (x++y)=deafBehind (deafBehind d x) y:=by
 simp[deafBehind]
theorem dc.trans{V V₁ V₂:View}{w w₁ w₂:Tq}{es ua:Array Uo}(s:dc V w V₁ w₁ es)(s':dc V₁ w₁ V₂ w₂ ua):dc V w V₂ w₂ (es++ua):=
 ⟨s'.sat,s'.tape.trans s.tape,s'.os.trans s.os,s'.output.trans s.output,UB s.size s'.size,
  λb hb e=>(s'.frame b (Te hb s.size) (s.own b hb e)).trans (s.frame b hb e),λb hb e=>s'.own b (Te hb s.size) (s.own b hb e),
  λb o v e=>s'.ab b o v (s.ab b o v e),λb o v e=>by
   rcases s'.kI b o v e with x|x|x
   ·exact s.kI b o v x
   ·by_cases hb:b<w.heap.size
    ·exact .inr (.inl λy=>x (s.own b hb y))
    ·exact .inr (.inr (by omega))
   ·exact .inr (.inr (UB s.size x)),
  λe he=>(Us.1 he).elim (s.fg e) (λh=>(s'.fg e h).yb s),by rw[s'.deaf,s.deaf,Iz],s'.role.trans s.role,λc x e e'=>s'.chan c x (by rw[s.role];exact e) (s.chan c x e e'),
  λe he=>(Us.1 he).elim (λx=>Zo s'.size (s.low e x)) (s'.low e)⟩
def fE (es:Array Uo):Array Uo:=es.filter λe=>match e.loc with|.mark (.extern _)=>false|_=>true
def aP (P:SJ){α:Type}(V:View)(s:Sem α)(K:α->View->Prop)(Kp:SP->View->Prop):Prop:=
 ∀w,Sat V w->∀eW,∃es w' V',dc V w V' w' (fE es)/\
  ((∃x,s.runT P w eW=(.ok x w',eW++es)/\K x V')\/(∃v,s.runT P w eW=(.halt (.panic v) w',eW++es)/\Kp v V'))
section
variable {P:SJ}{α β:Type}{V:View}{K:α->View->Prop}{Kp:SP->View->Prop}
theorem Mh(x y:Array Uo):fE (x++y)=fE x++fE y:=by simp[fE]
theorem aP.mono{s:Sem α}{K':α->View->Prop}{NT:SP->View->Prop}(h:aP P V s K Kp)(hk:∀x V,K x V->K' x V)(hp:∀x V,Kp x V->NT x V):aP P V s K' NT:=λw hw eW=>
 let⟨es,w',V',h1,h2⟩:=h w hw eW
 ⟨es,w',V',h1,h2.imp (λ⟨x,a,b⟩=>⟨x,a,hk _ _ b⟩) (λ⟨x,a,b⟩=>⟨x,a,hp _ _ b⟩)⟩
theorem aP.ghost{s:Sem α}{V':View}(g:dW V V')(h:aP P V' s K Kp):aP P V s K Kp:=λw hw eW=>
 let⟨es,w',V',h1,h2⟩:=h w (g.sat w hw) eW
 ⟨es,w',V',h1.rM g,h2⟩
theorem aP.cont{s:Sem α}(h:∀w,Sat V w->∃es w' V' s',dc V w V' w' (fE es)/\(∀eW,s.runT P w eW=s'.runT P w' (eW++es))/\aP P V' s' K Kp):aP P V s K Kp:=by
 intro w hw eW;obtain⟨es,w',V',s',h1,h2,h3⟩:=h w hw;obtain⟨ua,Nv,aS,h4,h5⟩:=h3 w' h1.sat (eW++es);refine⟨es++ua,Nv,aS,by rw[Mh];exact h1.trans h4,?_⟩;rw[h2,<- Xp];exact h5
theorem cG{x:α}(h:K x V):aP P V (.pure x) K Kp:=λw hw eW=>⟨#[],w,V,by simpa[fE]using dc.idle hw,.inl ⟨x,by simp[-TC,VF],h⟩⟩
theorem aq{x:α}(h:K x V):aP P V (pure x) K Kp:=cG h
theorem ap5{v:SP}(h:Kp v V):aP P V (.halt (.panic v):Sem α) K Kp:=λw hw eW=>⟨#[],w,V,by simpa[fE]using dc.idle hw,.inr ⟨v,by simp[-TC,VF],h⟩⟩
theorem tr{e:Uo}(h:∀f,e.loc≠ .mark (.extern f)):fE #[e]=#[e]:=by
 unfold fE;have:(match e.loc with|.mark (.extern _)=>false|_=>true)=true:=by
  split
  ·rename_i f hf;exact absurd hf (h f)
  ·rfl
 simp[Array.filter]
theorem O4(d:Nat)(a:U3)(wr s:Bool):deafBehind d #[⟨.cell a,wr,s⟩]=d:=by simp[deafBehind]
theorem O5(d:Nat)(a:Nat)(wr s:Bool):deafBehind d #[⟨.obj a,wr,s⟩]=d:=by simp[deafBehind]
theorem M3{m:Mode}{b o:Nat}{v:SP}{k:SP->Sem α}(e:V.get b o=some v)(j_:V.role.group≠some b\/m=.atomic)(h:aP P V (k v) K Kp):aP P V (.load m ⟨b,o,none⟩ k) K Kp:=by
 refine .cont λw hw=>⟨#[⟨.cell ⟨b,o,none⟩,false,m== .atomic⟩],w,V,k v,?_,λeW=> ?_,h⟩
 ·rw[tr (by simp)];refine⟨hw,rfl,rfl,rfl,SR _,λ_ _ _=>rfl,λ_ _ e=>e,λ_ _ _ e=>e,λ_ _ _ e=> .inl e,λev cu=> ?_,by rw[O4],rfl,λ_ _ _ e=>e,λev cu=>by simp at cu;subst cu;exact hw.eR e⟩;simp only[TJ,SL,S4,or_false]at cu;subst cu;refine⟨.inr ?_,j_.elim .inr (λx=> .inl (by subst x;rfl))⟩;show V.own b≠none\/V.ab b o≠none;unfold View.get at e;split at e
  ·rename_i hv;exact .inr (by rw[hv];simp)
  ·split at e
   ·rename_i hv;exact .inl (by rw[hv];simp)
   ·cases e
 ·simp[-TC,VF,hw.get e]
def _root_.Go.Value.one:SP->Bool
 |.agg _|.tuple _=>false
 |_=>true
theorem Sat.adq{V:View}{w:Tq}(h:Sat V w){b o:Nat}{v:SP}{c:Array SP}{el:TypeId}{f:Nat×Nat}(ho:V.own b=some (.cells c el f))(hi:V.ab b o=none):
  Sat (V.upd b (.cells (c.setIfInBounds o v) el f)) (w.setCell ⟨b,o,none⟩ v):=by
 have hb:=h.own _ _ ho;have hlt:=h.lt ho;have hm:(w.setCell ⟨b,o,none⟩ v).heap=w.heap.setIfInBounds b (.cells (c.setIfInBounds o v) el f):=by
  unfold Xi;apply Array.ext_getElem?;intro i;by_cases cD:b=i
  ·subst cD;rw[Wl,S_ hlt];simp[hb]
  ·simp[Wl,cD,SV cD]
 refine⟨λb' o' v' e=> ?_,λb' x e=> ?_⟩
 ·have:=h.ab _ _ _ e;simp only[View.upd]at e;by_cases zk:b=b'
  ·subst zk;have KL:o≠o':=(by intro x;subst x;rw[hi]at e;cases e);simp only[Ux,hb]at this;simp only[Ux,hm,S_ hlt,SV KL];exact this
  ·simp only[Ux,hm,SV zk];exact this
 ·simp only[View.upd]at e;rw[hm];by_cases zk:b'=b
  ·subst zk;simp at e;rw[S_ hlt,e]
  ·simp only[zk,if_false]at e;rw[SV (Ne.symm zk)];exact h.own _ _ e
theorem Dl(w:Tq)(a:U3)(v:SP):(w.setCell a v).heap.size=w.heap.size:=by simp[Xi]
theorem vT(w:Tq)(a:U3)(v:SP){b:Nat}(h:a.block≠b):(w.setCell a v).heap[b]?=w.heap[b]?:=by simp[Xi,Wl,h]
theorem ap7{m:Mode}{b o:Nat}{v:SP}{k:Sem α}{c:Array SP}{el:TypeId}{lo hi:Nat}(ho:V.own b=some (.cells c el (lo,hi)))(cM:o<c.size)(cD:V.ab b o=none)(hv:v.one=true)
  (hf:¬(lo<=o/\o<hi)) (j_:V.role.group≠some b\/m=.atomic) (Kf:V.role.chan≠some b) (h:aP P (V.upd b (.cells (c.setIfInBounds o v) el (lo,hi))) k K Kp):aP P V (.store m ⟨b,o,none⟩ v k) K Kp:=by
 refine .cont λw hw=>⟨#[⟨.cell ⟨b,o,none⟩,true,m== .atomic⟩],w.setCell ⟨b,o,none⟩ v,_,k,?_,λeW=> ?_,h⟩
 ·rw[tr (by simp)];refine⟨hw.adq ho cD,rfl,rfl,rfl,by rw[Dl];exact SR _,λb' dB e=>vT _ _ _ (λx=> ?_),λb' dB e=> ?_,λ_ _ _ e=>e,λ_ _ _ e=> .inl e,λev cu=> ?_,by rw[O4];rfl,rfl,λc' x bi e=>by rw[<- e];simp only[View.upd,ite_eq_right_iff];intro x';subst x';exact absurd bi Kf,λev cu=>by simp at cu;subst cu;show b<_;rw[Dl];exact hw.lt ho⟩
  ·have x':b=b':=x;subst x';rw[ho]at e;cases e
  ·have:b'≠b:=(by intro x;subst x;rw[ho]at e;cases e);simp only[View.upd,this,if_false];exact e
  ·simp only[TJ,SL,S4,or_false]at cu;subst cu;exact⟨.inr ⟨by show V.own b≠none;rw[ho];simp,cD⟩,j_.elim .inr (λx=> .inl (by subst x;rfl))⟩
 ·have hc:w.cell? ⟨b,o,none⟩=some c[o]:=by simp[Ux,hw.own _ _ ho,cM]
  have hfz:w.frozen? ⟨b,o,none⟩=false:=by
   simp only[ZW,hw.own _ _ ho];simpa using hf
  cases v<;>simp_all[-TC,VF,Value.one]
theorem oB{x:Obj}{k:Nat->Sem α}(h:∀r,V.fresh r->aP P (V.upd r x) (k r) K Kp):aP P V (.new x k) K Kp:=by
 refine .cont λw hw=>⟨#[],{w with heap:=w.heap.push x},V.upd w.heap.size x,k w.heap.size,?_,λeW=>by simp[-TC,VF],h _ (hw.fresh (SR _))⟩;have iX:=hw.fresh (SR w.heap.size);have aE:∀{b y},V.own b=some y->b≠w.heap.size:=λe x=>by rw[x,iX.1]at e;cases e
 refine⟨⟨λb o v e=> ?_,λb y e=> ?_⟩,rfl,rfl,rfl,by simp,λb hb _=> ?_,λb hb e=> ?_,λ_ _ _ e=>e,λ_ _ _ e=> .inl e,by simp[fE],rfl,rfl,λc' x bi e=>by rw[<- e];simp only[View.upd,ite_eq_right_iff];intro x';exact absurd x' (aE e),by simp[fE]⟩
 ·have hlt:=hw.CP e;have:=hw.ab _ _ _ e;simp only[Ux,Yy hlt]at this⊢;simpa[Ux,hlt]using this
 ·simp only[View.upd]at e;by_cases hb:b=w.heap.size
  ·subst hb;simp at e;simp[e]
  ·simp only[hb,if_false]at e;have:=hw.own _ _ e;have hlt:=hw.lt e;simp only[Yy hlt];simpa[hlt]using this
 ·simp[Xh,Wa hb]
 ·simp only[View.upd,Wa hb,if_false];exact e
theorem acb{q:Question}{k:Nat->Sem α}(h0:q.forced=true->aP P V (k 0) K Kp)(h:q.forced=false->∀t,aP P V (k (q.cut t)) K Kp):aP P V (.choose q k) K Kp:=by
 cases hf:q.forced with
 |true=>exact .cont λw hw=>⟨#[],w,V,k 0,by simpa[fE]using dc.idle hw,λeW=>by simp[-TC,VF,hf],h0 hf⟩
 |false=>exact .cont λw hw=>⟨#[],{w with drawn:=w.drawn+1},V,_,by simpa[fE]using dc.draw hw (w.drawn+1),λeW=>by simp[-TC,VF,hf],h hf (w.tape w.drawn q)⟩
theorem qq{k:SJ->Sem α}(h:aP P V (k P) K Kp):aP P V (.program k) K Kp:=
 .cont λw hw=>⟨#[],w,V,k P,by simpa[fE]using dc.idle hw,λeW=>by simp[-TC,VF],h⟩
theorem ap4{k:Sem α}(h:aP P V k K Kp):aP P V (.mark .noRoom k) K Kp:=
 .cont λw hw=>⟨#[⟨.mark .noRoom,false,true⟩],w,V,k,by
  rw[tr (by simp)];exact⟨hw,rfl,rfl,rfl,SR _,λ_ _ _=>rfl,λ_ _ e=>e,λ_ _ _ e=>e,λ_ _ _ e=> .inl e,λev cu=>by simp at cu;subst cu;trivial,by simp[deafBehind],rfl,λ_ _ _ e=>e,λev cu=>by simp at cu;subst cu;trivial⟩,
  λeW=>by simp[-TC,VF],h⟩
theorem ap3{m:Mark}{k:Sem α}(hm:m=.disable\/m=.enable)(h:aP P {V with deaf:=deafBehind V.deaf #[⟨.mark m,false,true⟩]} k K Kp):aP P V (.mark m k) K Kp:=
 .cont λw hw=>⟨#[⟨.mark m,false,true⟩],w,_,k,by
  rw[tr (by rcases hm with rfl|rfl<;>simp)];exact⟨⟨hw.ab,hw.own⟩,rfl,rfl,rfl,SR _,λ_ _ _=>rfl,λ_ _ e=>e,λ_ _ _ e=>e,λ_ _ _ e=> .inl e,λev cu=>by simp at cu;subst cu;rcases hm with rfl|rfl<;>rfl,rfl,rfl,λ_ _ _ e=>e,λev cu=>by simp at cu;subst cu;rcases hm with rfl|rfl<;>trivial⟩,
  λeW=>by simp[-TC,VF],h⟩
theorem ap6{m:Mark}{a:U3}{k:Sem α}(hm:m=.read a\/m=.write a)(ha:V.own a.block≠none/\V.ab a.block a.off=none)(h:aP P V k K Kp):aP P V (.mark m k) K Kp:=
 .cont λw hw=>⟨#[⟨.mark m,false,true⟩],w,_,k,by
  rw[tr (by rcases hm with rfl|rfl<;>simp)];exact⟨⟨hw.ab,hw.own⟩,rfl,rfl,rfl,SR _,λ_ _ _=>rfl,λ_ _ e=>e,λ_ _ _ e=>e,λ_ _ _ e=> .inl e,λev cu=>by simp at cu;subst cu;rcases hm with rfl|rfl<;>exact .inr ha,
   by rcases hm with rfl|rfl<;>simp[deafBehind],rfl,λ_ _ _ e=>e,λev cu=>by
    simp at cu;subst cu;have:a.block<w.heap.size:=by
     cases e:V.own a.block with
     |none=>exact absurd e ha.1
     |some y=>exact hw.lt e
    rcases hm with rfl|rfl<;>exact this⟩,
  λeW=>by simp[-TC,VF],h⟩
def _root_.Go.Obj.uF:Obj->Bool
 |.cells .. =>true
 |_=>false
theorem nR{r:Nat}{x:Obj}{k:Obj->Sem α}(ho:V.own r=some x)(hx:x.uF=false)(hc:x.isChan=false)(j_:V.role.chan≠some r)(h:aP P V (k x) K Kp):aP P V (.getObj r k) K Kp:=
 .cont λw hw=>⟨#[⟨.obj r,false,false⟩],w,V,k x,by
  rw[tr (by simp)];exact⟨hw,rfl,rfl,rfl,SR _,λ_ _ _=>rfl,λ_ _ e=>e,λ_ _ _ e=>e,λ_ _ _ e=> .inl e,λev cu=>by simp at cu;subst cu;exact⟨⟨rfl,.inr (by rw[ho];simp)⟩,j_⟩,by rw[O5],rfl,λ_ _ _ e=>e,λev cu=>by simp at cu;subst cu;exact hw.lt ho⟩,
  λeW=>by
   have:=hw.own _ _ ho;cases x<;>simp_all[-TC,VF,Obj.uF,ak'],h⟩
theorem Sat.arM{V:View}{w:Tq}(h:Sat V w){r:Nat}{x y:Obj}(ho:V.own r=some x)(hx:x.uF=false):Sat (V.upd r y) {w with heap:=w.heap.setIfInBounds r y}:=by
 have hlt:=h.lt ho;refine⟨λb o v e=> ?_,λb z e=> ?_⟩
 ·have:=h.ab _ _ _ e;have hb:r≠b:=by
   intro e';subst e';simp only[Ux,h.own _ _ ho]at this;cases x<;>simp_all[Obj.uF]
  simp only[Ux,SV hb]at this⊢;exact this
 ·simp only[View.upd]at e;by_cases hb:b=r
  ·subst hb;simp at e;simp[hlt,e]
  ·simp only[hb,if_false]at e;simp only[SV (Ne.symm hb)];exact h.own _ _ e
theorem yj{r:Nat}{x y:Obj}{k:Sem α}(ho:V.own r=some x)(hx:x.uF=false)(hy:y.isChan=false)(j_:V.role.chan≠some r)(h:aP P (V.upd r y) k K Kp):aP P V (.setObj r y k) K Kp:=
 .cont λw hw=>⟨#[⟨.obj r,true,false⟩],{w with heap:=w.heap.setIfInBounds r y},_,k,by
  rw[tr (by simp)];refine⟨hw.arM ho hx,rfl,rfl,rfl,by simp,λb hb e=> ?_,λb hb e=> ?_,λ_ _ _ e=>e,λ_ _ _ e=> .inl e,λev cu=>by simp at cu;subst cu;exact⟨⟨rfl,.inr (by rw[ho];simp)⟩,j_⟩,by rw[O5];rfl,rfl,λc' x bi e=>by rw[<- e];simp only[View.upd,ite_eq_right_iff];intro x';subst x';exact absurd bi j_,λev cu=>by simp at cu;subst cu;show r<_;simp;exact hw.lt ho⟩
  ·exact SV (λx'=>by subst x';rw[ho]at e;cases e)
  ·have:b≠r:=(by intro x';subst x';rw[ho]at e;cases e);simp only[View.upd,this,if_false];exact e,
  λeW=>by
   have:=hw.own _ _ ho;cases x<;>simp_all[-TC,VF,Obj.uF,ak'],h⟩
theorem apW{s:Sem α}{f:α->Sem β}{K:β->View->Prop}(h:aP P V s (λx V'=>aP P V' (f x) K Kp) Kp):aP P V (s.bind f) K Kp:=by
 intro w hw eW;obtain⟨es,w',V',h1,h2⟩:=h w hw eW;have key:(s.bind f).runT P w eW=match s.runT P w eW with
   |(.ok x w',e)=>(f x).runT P w' e
   |(.halt h w',e)=>(.halt h w',e):=by
  have hr:=Sem.run_bind' P s f w;have he:=Sem.events_bind' P s f w eW;rw[TC,TC];have xM:(s.bind f).run P w=_:=hr;have j9:(s.bind f).events P w eW=_:=he;rw[xM,j9];cases s.run P w<;>simp[Result.andThen,Result.evThen]
 rcases h2 with⟨x,hx,hK⟩|⟨v,hv,hKp⟩
 ·obtain⟨ua,Nv,aS,h3,h4⟩:=hK w' h1.sat (eW++es);refine⟨es++ua,Nv,aS,by rw[Mh];exact h1.trans h3,?_⟩;rw[key,hx,<- Xp];exact h4
 ·refine⟨es,w',V',h1,.inr ⟨v,?_,hKp⟩⟩;rw[key,hv]
theorem aA{s:Sem α}{f:α->Sem β}{K:β->View->Prop}(h:aP P V s (λx V'=>aP P V' (f x) K Kp) Kp):aP P V (s>>=f) K Kp:=apW h
end
open Go.Conc
def yy (e:Uo):Prop:=∀m,e.loc=.mark m->(m=.disable\/m=.enable)->e.sync=true
theorem mX.Jq{V:View}{n:Nat}{e:Uo}(h:mX V n e):yy e:=by
 intro m hm hd;obtain⟨l,wr,s⟩:=e;simp only at hm;subst hm;rcases hd with rfl|rfl
 ·simpa[mX]using h
 ·simpa[mX]using h
theorem agt(d:Nat)(x:Array Uo)(e:Uo):deafBehind d (x.push e)=deafBehind (deafBehind d x) #[e]:=by
 simp[deafBehind]
theorem agu{d:Nat}{e:Uo}(hg:yy e)(hs:e.sync=false):deafBehind d #[e]=d:=by
 obtain⟨l,wr,s⟩:=e;cases l with
 |mark m=>
  cases m<;>first
   |(have:=hg _ rfl (.inl rfl);simp_all)
   |(have:=hg _ rfl (.inr rfl);simp_all)
   |simp[deafBehind]
 |_=>simp[deafBehind]
theorem apU(P:SJ)(fn:TO)(es:Array Uo)(hg:∀e∈fE es,yy e)(d:Nat):(∀e∈seen P fn es,e∈fE es)/\deafBehind d (seen P fn es)=deafBehind d (fE es):=by
 rw[seen_def];obtain⟨l⟩:=es;have key:∀(l:List Uo)(q:Bool)(kept ref:Array Uo),(∀e∈fE l.toArray,yy e)->(∀e∈kept,e∈ref)->deafBehind d kept=deafBehind d ref->
   (∀e∈(l.foldl (seenStep λf=>(P.funcs[f]?).any (·.norace)) (q,kept)).2,e∈ref++fE l.toArray)/\
   deafBehind d (l.foldl (seenStep λf=>(P.funcs[f]?).any (·.norace)) (q,kept)).2=deafBehind d (ref++fE l.toArray):=by
  intro l;induction l with
  |nil=>intro q kept ref _ h1 h2;simpa[fE]using⟨h1,h2⟩
  |cons e l ih=>
   intro q kept ref hg h1 h2;rw[UR];by_cases hx:∃f,e.loc=.mark (.extern f)
   ·obtain⟨f,hf⟩:=hx;have e1:fE (e::l).toArray=fE l.toArray:=(by simp[fE,hf]);rw[e1]at hg⊢;have e3:seenStep (λf=>(P.funcs[f]?).any (·.norace)) (q,kept) e=((P.funcs[f]?).any (·.norace),kept):=(by simp[seenStep,hf]);rw[e3];exact ih _ kept ref hg h1 h2
   ·have aE:∀f,e.loc≠ .mark (.extern f):=λf hf=>hx ⟨f,hf⟩;have e1:fE (e::l).toArray=#[e]++fE l.toArray:=by
     have:(e::l).toArray=#[e]++l.toArray:=(by simp);rw[this,Mh,tr aE]
    have sS:yy e:=hg e (by rw[e1];simp);have oq:∀x∈fE l.toArray,yy x:=λx hx=>hg x (by rw[e1];exact Us.2 (.inr hx));have e2:seenStep (λf=>(P.funcs[f]?).any (·.norace)) (q,kept) e=(q,if q&& !e.sync then kept else kept.push e):=by
     unfold seenStep;dsimp only;split
     ·rename_i f hf;exact absurd hf (aE f)
     ·rfl
    rw[e1,<- Xp];rw[e2];refine ih q _ (ref++#[e]) oq (λx hx=> ?_) ?_
    ·split at hx
     ·exact Us.2 (.inl (h1 x hx))
     ·rcases Array.mem_push.1 hx with hx|rfl
      ·exact Us.2 (.inl (h1 x hx))
      ·exact Us.2 (.inr (by simp))
    ·split
     ·rename_i hq;simp only[Tc,TV]at hq;rw[Iz,agu sS hq.2,h2]
     ·rw[Iz,agt,h2]
 have:=key l ((P.funcs[fn]?).any (·.norace)) #[] #[] hg (by simp) rfl;simpa only[Xo]using this
theorem dc.seen{V V':View}{w w':Tq}{es:Array Uo}(h:dc V w V' w' (fE es))(P:SJ)(fn:TO):dc V w V' w' (seen P fn es):=by
 have:=apU P fn es (λe he=>(h.fg e he).Jq) V.deaf;exact⟨h.sat,h.tape,h.os,h.output,h.size,h.frame,h.own,h.ab,h.kI,λe he=>h.fg e (this.1 e he),by rw[h.deaf,this.2],h.role,h.chan,λe he=>h.low e (this.1 e he)⟩
open Go.Conc
inductive Out where
 |ret (v:SP)
 |panic (chain:List ZX)
def Leaves (P:SJ)(fr:T_)(f:TO)(kd:Xe)(o:Out)(V:View):Prop:=
 fr.fn=f/\fr.defers=[]/\fr.kind=kd/\∃fn,P.funcs[f]?=some fn/\
  match o with
  |.ret v=>fr.mode=.returning/\aP P V (results fn fr.tmps) (λx V'=>x=v/\V'=V) (λ_ _=>False)
  |.panic ch=>fr.mode=.panicking ch
def Body (lv:Bool)(P:SJ)(f:TO)(args:Array SP)(kd:Xe)(V:View)(R:Out->View->Prop):Prop:=
 ∀(main:Bool)(J:View->SH->Prop),Closed lv P main J->∀cs,(∀o V' fr,R o V'->Leaves P fr f kd o V'->J V' (G fr cs))->J V (G (Frame.enter P f args kd) cs)
def m9 (lv:Bool)(P:SJ)(fr:T_)(V:View)(R:Out->View->Prop):Prop:=
 ∀(main:Bool)(J:View->SH->Prop),Closed lv P main J->∀c cs,(∀v V',R (.ret v) V'->J V' (G (c.finish v) cs))->(∀ch V',R (.panic ch) V'->J V' (G (c.raise ch) cs))->J V (G fr (c::cs))
theorem Body.mono{lv:Bool}{P:SJ}{f:TO}{args:Array SP}{kd:Xe}{V:View}{R R':Out->View->Prop}(h:Body lv P f args kd V R)(hr:∀o V,R o V->R' o V):Body lv P f args kd V R':=
 λmain J C cs hk=>h main J C cs λo V' fr r hl=>hk o V' fr (hr _ _ r) hl
theorem Body.ghost{lv:Bool}{P:SJ}{f:TO}{args:Array SP}{kd:Xe}{V V':View}{R:Out->View->Prop}(g:dW V V')(h:Body lv P f args kd V' R):Body lv P f args kd V R:=
 λmain J C cs hk=>C.ghost _ _ _ g (h main J C cs hk)
theorem m9.mono{lv:Bool}{P:SJ}{fr:T_}{V:View}{R R':Out->View->Prop}(h:m9 lv P fr V R)(hr:∀o V,R o V->R' o V):m9 lv P fr V R':=
 λmain J C c cs h1 h2=>h main J C c cs (λv V' r=>h1 v V' (hr _ _ r)) (λv V' r=>h2 v V' (hr _ _ r))
theorem m9.ghost{lv:Bool}{P:SJ}{fr:T_}{V V':View}{R:Out->View->Prop}(g:dW V V')(h:m9 lv P fr V' R):m9 lv P fr V R:=
 λmain J C c cs h1 h2=>C.ghost _ _ _ g (h main J C c cs h1 h2)
theorem aP.runs{P:SJ}{α:Type}{V:View}{s:Sem α}{K:α->View->Prop}{Kp:SP->View->Prop}(h:aP P V s K Kp){w:Tq}(hw:Sat V w):
  ∃es w' V',dc V w V' w' (fE es)/\s.events P w #[]=es/\((∃x,s.run P w=.ok x w'/\K x V')\/(∃v,s.run P w=.halt (.panic v) w'/\Kp v V')):=by
 obtain⟨es,w',V',h1,h2⟩:=h w hw #[];refine⟨es,w',V',h1,?_⟩;simp only[TC,U0,Xo]at h2;rcases h2 with⟨x,⟨a,b⟩,c⟩|⟨x,⟨a,b⟩,c⟩
 ·exact⟨b,.inl ⟨x,a,c⟩⟩
 ·exact⟨b,.inr ⟨x,a,c⟩⟩
theorem amr{lv:Bool}{P:SJ}{main:Bool}{J:View->SH->Prop}(C:Closed lv P main J){fr c:T_}{cs:List T_}{f:TO}{v:SP}{V:View}(h:Leaves P fr f .normal (.ret v) V)(hJ:J V (G (c.finish v) cs)):J V (G fr (c::cs)):=by
 obtain⟨rfl,hd,hk,fn,hf,hm,hr⟩:=h;refine C.step _ _ rfl λw hw=> ?_;obtain⟨es,w',V',h1,h2,h3⟩:=hr.runs hw;rcases h3 with⟨x,h3,rfl,rfl⟩|⟨_,_,h⟩
 ·exact⟨G (c.finish x) cs,w',seen P fr.fn es,V',by simp[G,stepG,unwind,doReturn,hm,hd,hk,hf,h3,h2,T1],h1.seen P fr.fn,hJ⟩
 ·exact h.elim
theorem amq{lv:Bool}{P:SJ}{main:Bool}{J:View->SH->Prop}(C:Closed lv P main J){fr c:T_}{cs:List T_}{f:TO}{kd:Xe}{ch:List ZX}{V:View}(h:Leaves P fr f kd (.panic ch) V)(hJ:J V (G (c.raise ch) cs)):J V (G fr (c::cs)):=by
 obtain⟨rfl,hd,hk,fn,hf,hm⟩:=h;refine C.idle rfl (λw=> ?_) hJ;simp[G,stepG,unwind,ZZ,hm,hd,hf]
theorem Body.runs{lv:Bool}{P:SJ}{f:TO}{args:Array SP}{V:View}{R:Out->View->Prop}(h:Body lv P f args .normal V R):m9 lv P (Frame.enter P f args .normal) V R:=by
 intro main J C c cs h1 h2;refine h main J C (c::cs) λo V' fr r hl=> ?_;cases o with
 |ret v=>exact amr C hl (h1 v V' r)
 |panic ch=>exact amq C hl (h2 ch V' r)
def mE (lv:Bool)(P:SJ)(r:Option Nat)(o:Tx)(a:Act)(next:Act->View->Prop)(Q:Ex->Act->View->Prop)(nx:Next)(V:View):Prop:=
 match nx with
 |.value v=>next (a.put o.dst v) V
 |.skip=>next (a.put o.dst undef) V
 |.defer d=>r=none/\next ({a with defers:=d::a.defers}.put o.dst undef) V
 |.enter f args=>Body lv P f args .normal V fun
   |.ret v,V'=>next (a.put o.dst v) V'
   |.panic ch,V'=>Q (.panic ch) a V'
 |.round l f tmps assign body=>m9 lv P (W_ l f tmps assign body .normal) V fun
   |.ret v,V'=>next (a.put o.dst v) V'
   |.panic ch,V'=>Q (.panic ch) a V'
 |_=>False
def ml:Op->Bool
 |.defer _=>true
 |_=>false
def wN (lv:Bool)(P:SJ)(r:Option Nat)(o:Tx)(a:Act)(V:View)(next:Act->View->Prop)(Q:Ex->Act->View->Prop):Prop:=
 (r=none\/ml o.op=false)/\aP P V (execOp a.eval o) (mE lv P r o a next Q) (λv V'=>Q (.panic [{v,recovered:=false}]) a V')
def vf (lv:Bool)(P:SJ)(o:Tx)(a:Act)(V:View)(next:Act->View->Prop):Prop:=match o.op with
 |.send ch x=>∃(c Wg:Nat)(sp:Spec)(S:List Spec)(B:Nat->Bool),a.eval ch=.chan (some c)/\V.role=.work c Wg (sp::S)/\V.deaf=0/\sp (a.eval x) V.ab (λb=>if B b then V.own b else none)/\
   next (a.put o.dst undef) {V with own:=λb=>if B b then none else V.own b,role:=.work c Wg S}
 |.go cl=>lv=true/\∃(x:Tm)(f:TO)(fa ca:Array SP),cl.callee=.value x/\a.eval x=.func (.func f) fa ca/\V.deaf=0/\
   ((∃(c Wg:Nat)(Ss:List (List Spec))(sp:Spec)(S:List Spec),V.role=.fork c Wg Ss/\V.own c=some (.chan 0 #[] false 0 0 false)/\V.own Wg=some (wgBlock P (((Ss.length+1:Nat):Int)* 4294967296) 0)/\Ss.length<4/\(∀o,V.ab Wg o=none)/\
    (∀J0,yq P false J0->J0 {ab:=V.ab,own:=λ_=>none,deaf:=0,role:=.work c Wg (sp::S)} (born P ⟨.fn (.func f) ca,fa++cl.args.map a.eval⟩))/\next (a.put o.dst undef) {V with role:=.fork c Wg (Ss++[sp::S])})\/
    (∃(c Wg:Nat)(Ss:List (List Spec)),V.role=.fork c Wg Ss/\c≠Wg/\V.own c=some (.chan 0 #[] false 0 0 false)/\V.own Wg=some (wgBlock P (((Ss.length:Nat):Int)* 4294967296) 0)/\(∀o,V.ab c o=none)/\(∀o,V.ab Wg o=none)/\
    HJ P V.ab c Wg (born P ⟨.fn (.func f) ca,fa++cl.args.map a.eval⟩)/\next (a.put o.dst undef) {V with own:=λb=>if b=c\/b=Wg then none else V.own b,role:=.recv c Wg Ss}))
 |.recv t ch true=>lv=true/\∃(c Wg:Nat)(Ss:List (List Spec))(d:ChanDir)(el:TypeId)(i:Wm)(z:SP),a.eval ch=.chan (some c)/\P.underlying t=some (.chan d el)/\P.info? el=some i/\i.zero=some z/\V.role=.recv c Wg Ss/\V.deaf=0/\
   (∀(i:Nat)(sp:Spec)(S:List Spec)(v:SP)(Im:cx)(Ow:AZ),Ss[i]?=some (sp::S)->sp v Im Ow->(∀b,V.own b≠none->Ow b=none)->(∀b o,V.own b≠none->Im b o≠none->V.ab b o≠none)->(∃w,Sat V w/\(∀b o x,Im b o=some x->w.cell? ⟨b,o,none⟩=some x)/\∀b x,Ow b=some x->w.heap[b]?=some x)->
    next (a.put o.dst (.tuple #[v,.bool true])) {V with ab:=λb o=>match V.ab b o with|some x=>some x|none=>Im b o,own:=λb=>match V.own b with|some x=>some x|none=>Ow b,role:=.recv c Wg (Ss.set i S)})/\
   ((∀S∈Ss,S=[])->next (a.put o.dst (.tuple #[z,.bool false])) {V with role:=.plain})
 |_=>False
theorem vf.mono{lv:Bool}{P:SJ}{o:Tx}{a:Act}{V:View}{N N':Act->View->Prop}(h:vf lv P o a V N)(hN:∀a V,N a V->N' a V):vf lv P o a V N':=by
 unfold vf at h⊢;split at h
 ·obtain⟨c,Wg,sp,S,B,h1,h2,h3,h4,h5⟩:=h;exact⟨c,Wg,sp,S,B,h1,h2,h3,h4,hN _ _ h5⟩
 ·obtain⟨sV,x,f,fa,ca,h1,h2,h3,h4⟩:=h;refine⟨sV,x,f,fa,ca,h1,h2,h3,h4.imp ?_ ?_⟩
  ·rintro⟨c,Wg,Ss,sp,S,q1,q2,q3,q4,q5,q6,q7⟩
   exact⟨c,Wg,Ss,sp,S,q1,q2,q3,q4,q5,q6,hN _ _ q7⟩
  ·rintro⟨c,Wg,Ss,q1,q2,q3,q4,q5,q6,q7,q8⟩
   exact⟨c,Wg,Ss,q1,q2,q3,q4,q5,q6,q7,hN _ _ q8⟩
 ·obtain⟨sV,c,Wg,Ss,d,el,ti,z,h1,h2,h3,h4,h5,h6,h7,h8⟩:=h;exact⟨sV,c,Wg,Ss,d,el,ti,z,h1,h2,h3,h4,h5,h6,λi sp S v Im Ow r1 r2 r3 r4 r5=>hN _ _ (h7 i sp S v Im Ow r1 r2 r3 r4 r5),λhS=>hN _ _ (h8 hS)⟩
 ·exact h
def AY (lv:Bool)(P:SJ)(r:Option Nat)(o:Tx)(a:Act)(V:View)(next:Act->View->Prop)(Q:Ex->Act->View->Prop):Prop:=wN lv P r o a V next Q\/vf lv P o a V next
def dj (lv:Bool)(P:SJ)(r:Option Nat)(ops:Array Tx)(Q:Ex->Act->View->Prop):List Nat->Act->View->Prop
 |[],a,V=>Q .normal a V
 |i::rest,a,V=>
  match ops[i]?with
  |none=>dj lv P r ops Q rest a V
  |some o=>if Tj o (yielded ops a.tmps)then AY lv P r o a V (dj lv P r ops Q rest) Q else dj lv P r ops Q rest (a.put o.dst undef) V
theorem Ad(b:T_)(a:Act)(ops:Array Tx)(i:Nat)(rest:List Nat)(k:List WU)(v:SP):
  (on b a (.inRegion ops (i::rest)::k)).finish v=on b (a.put ((ops[i]?).bind (·.dst)) v) (.inRegion ops rest::k):=by
 cases h:(ops[i]?).bind (·.dst)<;>simp[Frame.finish,on,XZ,h]
theorem abY{P:SJ}{main:Bool}{b:T_}{a:Act}{k:List WU}{cs:List T_}{w:Tq}{ops:Array Tx}{i:Nat}{rest:List Nat}(h:((ops[i]?).map (Tj · (yielded ops a.tmps))).getD false=false):
  stepG P main (G (on b a (.inRegion ops (i::rest)::k)) cs) w=.go (G (on b (a.put ((ops[i]?).bind (·.dst)) undef) (.inRegion ops rest::k)) cs) w #[]:=by
 rw[<- Ad];simp only[on]at*;simp[G,stepG,Ue,h]
theorem s_op{P:SJ}{main:Bool}{b:T_}{a:Act}{k:List WU}{cs:List T_}{w:Tq}{ops:Array Tx}{i:Nat}{rest:List Nat}{o:Tx}(ho:ops[i]?=some o)(hw:Tj o (yielded ops a.tmps)=true)(hd:b.roundOf=none\/ml o.op=false):
  stepG P main (G (on b a (.inRegion ops (i::rest)::k)) cs) w=stepG.apply P true (on b a (.inRegion ops (i::rest)::k)) cs none (execOp a.eval o) w:=by
 have he:=anJ b a (.inRegion ops (i::rest)::k);simp only[on]at he;rcases hd with hd|hd
 ·rw[hd]at he;simp[G,stepG,Ue,Y8,YO,on,ho,hw,he,hd]
 ·cases hr:b.roundOf with
  |none=>
   rw[hr]at he;simp[G,stepG,Ue,Y8,YO,on,ho,hw,he,hr]
  |some l=>cases au:o.op<;>simp_all[G,stepG,Ue,Y8,YO,on,ml]
theorem aqp{lv:Bool}{P:SJ}{main:Bool}{J:View->SH->Prop}(C:Closed lv P main J){ops:Array Tx}{i:Nat}{rest:List Nat}{o:Tx}{a:Act}{V:View}{N:Act->View->Prop}{b:T_}{k:List WU}{cs:List T_}(hb:b.kind≠ .early)
  (ho:ops[i]?=some o) (hw:Tj o (yielded ops a.tmps)=true) (h:vf lv P o a V N) (hN:∀a' V',N a' V'->J V' (G (on b a' (.inRegion ops rest::k)) cs)):J V (G (on b a (.inRegion ops (i::rest)::k)) cs):=by
 have jT:((on b a (.inRegion ops (i::rest)::k)).kind==U4)=false:=by simpa[on]using hb
 have ee:∀v,(on b a (.inRegion ops (i::rest)::k)).finish v=on b (a.put o.dst v) (.inRegion ops rest::k):=by
  intro v;rw[Ad,ho];rfl
 have K3:∀v,T4 (G (on b a (.inRegion ops (i::rest)::k)) cs) v=G (on b (a.put o.dst v) (.inRegion ops rest::k)) cs:=λv=>by rw[<- ee v];rfl
 unfold vf at h;split at h
 ·rename_i ch x au;obtain⟨c,Wg,sp,S,B,h1,h2,h3,h4,h5⟩:=h;have aQ:∀w,stepG P main (G (on b a (.inRegion ops (i::rest)::k)) cs) w=.comm (G (on b a (.inRegion ops (i::rest)::k)) cs) #[scase c (a.eval x) (.tuple #[])] true .send w #[]:=λw=>by
   rw[s_op ho hw (.inr (by rw[au];rfl))];have e:execOp a.eval o=pure (.comm #[scase c (a.eval x) (.tuple #[])] true .send):=by
    unfold execOp;simp only[au];rw[h1];rfl
   rw[e];simp only[stepG.apply,TC,if_true,jT,T1,aa',ZN,ac_];rfl
  exact C.send _ _ c Wg sp S (a.eval x) (.tuple #[]) B h2 h3 rfl rfl (λw _=>aQ w) h4 (by rw[K3];exact hN _ _ h5)
 ·rename_i cl au;obtain⟨sV,x,f,fa,ca,h1,h2,h3,h4⟩:=h;have aQ:∀w,stepG P main (G (on b a (.inRegion ops (i::rest)::k)) cs) w=.spawn (G (on b (a.put o.dst undef) (.inRegion ops rest::k)) cs) (born P ⟨.fn (.func f) ca,fa++cl.args.map a.eval⟩) w #[]:=λw=>by
   rw[s_op ho hw (.inr (by rw[au];rfl)),<- ee undef];have e:execOp a.eval o=(pure (.spawn ⟨.fn (.func f) ca,fa++cl.args.map a.eval⟩):Sem Next):=by
    unfold execOp;simp only[au];unfold resolve;simp only[h1,h2];rfl
   rw[e];simp only[stepG.apply,TC,if_true,jT,T1,aa',ZN,ac_];simp[born,G,on];exact ac_ _ _
  rcases h4 with⟨c,Wg,Ss,sp,S,q1,q2,q3,q4,q5,q6,q7⟩|⟨c,Wg,Ss,q1,q2,q3,q4,q5,q6,q7,q8⟩
  ·exact(C.more sV).EJ _ _ _ _ c Wg Ss sp S q1 h3 rfl q2 q3 q4 q5 (λw _=>aQ w) rfl q6 (hN _ _ q7)
  ·exact(C.more sV).EI _ _ _ _ c Wg Ss q1 h3 rfl q2 q3 q4 q5 q6 (λw _=>aQ w) rfl q7 (hN _ _ q8)
 ·rename_i t ch au;obtain⟨sV,c,Wg,Ss,d,el,ti,z,h1,h2,h3,h4,h5,h6,h7,h8⟩:=h;have aQ:∀w,stepG P main (G (on b a (.inRegion ops (i::rest)::k)) cs) w=.comm (G (on b a (.inRegion ops (i::rest)::k)) cs) #[rcase c z] true (.recv true) w #[]:=λw=>by
   rw[s_op ho hw (.inr (by rw[au];rfl))];have hu:(underlying t).run P w=.ok (.chan d el) w:=run_underlying h2 w;have hi:(typeInfo el).run P w=.ok ti w:=(by simp[typeInfo,h3]);have hz:(zeroValue el).run P w=.ok z w:=(by simp[zeroValue,hi,h4]);have uC:(zeroValue el).events P w #[]=#[]:=(by simp[zeroValue,hi,h4]);have e1:(execOp a.eval o).run P w=.ok (.comm #[rcase c z] true (.recv true)) w:=by
    unfold execOp;simp only[au];rw[h1];simp[hu,hz,rcase]
   have e2:(execOp a.eval o).events P w #[]=#[]:=by
    unfold execOp;simp only[au];rw[h1];simp[hu,hz,uC]
   simp only[stepG.apply,TC,if_true,jT,T1,e1,e2,ac_];rfl
  refine(C.more sV).recv _ _ c Wg Ss z h5 h6 rfl rfl (λw _=>aQ w) (λi sp S v Im Ow r1 r2 r3 r4 r5=> ?_) λhS=> ?_
  ·rw[K3];exact hN _ _ (h7 i sp S v Im Ow r1 r2 r3 r4 r5)
  ·rw[K3];exact hN _ _ (h8 hS)
 ·exact h.elim
theorem wp_ops{lv:Bool}{P:SJ}{r:Option Nat}{ops:Array Tx}{Q:Ex->Act->View->Prop}(l:List Nat):
  ∀(a:Act)(V:View),dj lv P r ops Q l a V->∀(main:Bool)(J:View->SH->Prop),Closed lv P main J->∀(b:T_)(k:List WU)(cs:List T_),b.kind≠ .early->b.roundOf=r->
   (∀e a' V',Q e a' V'->vd J b k cs e a' V')->J V (G (on b a (.inRegion ops l::k)) cs):=by
 induction l with
 |nil=>exactλa V h main J C b k cs _ _ hL=>C.idle rfl (λ_=>apL) (hL _ _ _ h)
 |cons i rest ih=>
  intro a V h main J C b k cs hb hr hL;simp only[dj]at h;cases ho:ops[i]?with
  |none=>
   simp only[ho]at h;refine C.idle rfl (λw=>abY (by simp[ho])) ?_;simp only[ho,Option.bind_none,XZ];exact ih a V h main J C b k cs hb hr hL
  |some o=>
   simp only[ho]at h;by_cases hw:Tj o (yielded ops a.tmps)=true
   ·simp only[hw,if_true]at h;rcases h with h|h
    rotate_left
    ·exact aqp C hb ho hw h λa' V' h'=>ih a' V' h' main J C b k cs hb hr hL
    obtain⟨bx,au⟩:=h;have ajX:b.roundOf=none\/ml o.op=false:=hr▸bx;have ee:∀v,(on b a (.inRegion ops (i::rest)::k)).finish v=on b (a.put o.dst v) (.inRegion ops rest::k):=by
     intro v;rw[Ad,ho];rfl
    have jT:((on b a (.inRegion ops (i::rest)::k)).kind==U4)=false:=(by simpa[on]using hb);refine C.step _ _ rfl λw fz=> ?_;obtain⟨es,w',V',h1,h2,h3⟩:=au.runs fz;rw[s_op ho hw ajX];rcases h3 with⟨nx,h3,hU⟩|⟨v,h3,hU⟩
    ·cases nx with
     |value v=>exact⟨_,w',seen P b.fn es,V',by rw[<- ee v];simp only[stepG.apply,TC,if_true,h3,h2,jT,T1];rfl,h1.seen P _,ih _ _ hU main J C b k cs hb hr hL⟩
     |skip=>exact⟨_,w',seen P b.fn es,V',by rw[<- ee undef];simp only[stepG.apply,TC,if_true,h3,h2,jT,T1];rfl,h1.seen P _,ih _ _ hU main J C b k cs hb hr hL⟩
     | «defer» d =>
      obtain⟨zL,hU⟩:=hU;have iG:({on b a (.inRegion ops (i::rest)::k)with defers:=d::a.defers}:T_).finish undef=on b ({a with defers:=d::a.defers}.put o.dst undef) (.inRegion ops rest::k):=by
       have:=Ad b {a with defers:=d::a.defers} ops i rest k undef;rw[ho]at this;exact this
      exact⟨_,w',seen P b.fn es,V',by
       rw[<- iG];simp only[stepG.apply,TC,if_true,h3,h2,jT,T1];rfl,h1.seen P _,ih _ _ hU main J C b k cs hb hr hL⟩
     |enter f args=>
      refine⟨G (Frame.enter P f args .normal) (on b a (.inRegion ops (i::rest)::k)::cs),w',seen P b.fn es,V',by simp only[stepG.apply,TC,if_true,h3,h2,jT,T1];rfl,h1.seen P _,?_⟩;refine Body.runs hU main J C _ cs (λv aS hR=> ?_) (λch aS hR=> ?_)
      ·rw[ee];exact ih _ _ hR main J C b k cs hb hr hL
      ·exact hL _ _ _ hR _ rfl
     |round l f tmps assign body=>
      refine⟨G (W_ l f tmps assign body .normal) (on b a (.inRegion ops (i::rest)::k)::cs),w',seen P b.fn es,V',by simp only[stepG.apply,TC,if_true,h3,h2,jT,T1];rfl,h1.seen P _,?_⟩;refine hU main J C _ cs (λv aS hR=> ?_) (λch aS hR=> ?_)
      ·rw[ee];exact ih _ _ hR main J C b k cs hb hr hL
      ·exact hL _ _ _ hR _ rfl
     |_=>exact hU.elim
    ·refine⟨G ((on b a (.inRegion ops (i::rest)::k)).raise [{v,recovered:=false}]) cs,w',seen P b.fn es,V',by simp only[stepG.apply,TC,if_true,h3,h2,jT,T1];rfl,h1.seen P _,hL _ _ _ hU _ rfl⟩
   ·have nJ:Tj o (yielded ops a.tmps)=false:=(by simpa using hw);simp only[nJ,if_false,TN]at h;refine C.idle rfl (λw=>abY (by simp[ho,nJ])) ?_;simp only[ho,Option.bind_some];exact ih _ _ h main J C b k cs hb hr hL
theorem wp_region{lv:Bool}{P:SJ}{r:Option Nat}{id:Nat}{ops:Array Tx}{Q:Ex->Act->View->Prop}{a:Act}{V:View}(h:dj lv P r ops Q (SZ ops.size) a V):WP lv P r (.region id ops false) Q a V:=
 λmain J C b k cs hb hr hL=>C.idle rfl (λ_=>abZ) (wp_ops _ a V h main J C b k cs hb hr hL)
theorem NF{lv:Bool}{P:SJ}{r:Option Nat}{id:Nat}{ops:Array Tx}{Q:Ex->Act->View->Prop}{a:Act}{V:View}(h:∀t,dj lv P r ops Q (VM (P.follows .mixedOrders) ops t) a V):WP lv P r (.region id ops true) Q a V:=
 λmain J C b k cs hb hr hL=>C.step _ _ rfl λw hw=>⟨_,_,#[],V,apB,.draw hw _,wp_ops _ a V (h _) main J C b k cs hb hr hL⟩
def Ends (P:SJ)(fn:YC)(R:Out->View->Prop):Ex->Act->View->Prop
 |.normal,a,V|.ret,a,V=>a.defers=[]/\∃v,aP P V (results fn a.tmps) (λx V'=>x=v/\V'=V) (λ_ _=>False)/\R (.ret v) V
 |.panic ch,a,V=>a.defers=[]/\R (.panic ch) V
 |_,_,_=>False
theorem OM{lv:Bool}{P:SJ}{f:TO}{fn:YC}{c:T7}{args:Array SP}{kd:Xe}{V:View}{R:Out->View->Prop}(hk:kd≠ .early)(hf:P.funcs[f]?=some fn)(hb:fn.body=some c)
  (h:WP lv P none c (Ends P fn R) {tmps:=args++TK (fn.ntmps-args.size) undef,defers:=[]} V):Body lv P f args kd V R:=by
 intro main J C cs hR;let b:T_:={(default:T_)with fn:=f,kind:=kd,roundOf:=none};have um:Frame.enter P f args kd=on b {tmps:=args++TK (fn.ntmps-args.size) undef,defers:=[]} [.code c]:=by
  simp[Frame.enter,on,hf,hb,b]
 rw[um];refine h main J C b [] cs hk rfl λe a' V' q=> ?_;cases e with
 |normal=>
  obtain⟨hd,v,hs,hr⟩:=q;exact C.idle rfl (λw=>Df rfl) (hR _ _ _ hr ⟨rfl,hd,rfl,fn,hf,rfl,hs⟩)
 |ret=>
  obtain⟨hd,v,hs,hr⟩:=q;intro k;exact C.idle rfl (λw=>Dg rfl) (hR _ _ _ hr ⟨rfl,hd,rfl,fn,hf,rfl,hs⟩)
 |panic ch=>
  obtain⟨hd,hr⟩:=q;intro todo _;exact hR _ _ _ hr ⟨rfl,hd,rfl,fn,hf,rfl⟩
 |exit id=>exact q.elim
 |goto l=>exact q.elim
open Go.Conc
inductive End where
 |exact
 |shut
 |opn (k:Nat)
 deriving DecidableEq
inductive AV where
 |val (x:SP)
 |agg (l:List AV)
 |aJ (l:List AV)
 |sl (n:Nat) (l:List AV) (e:End)
 |bJ (id off n cap:Nat)
 |rp (l:List AV)
 |op (id off:Nat)
 |fn (f:Fn) (first cR:List AV)
 |cZ (t:TypeId) (x:AV)
 |mp (id:Nat)
structure Env where
 I:cx
 n:Nat
 blk:Nat->Nat
 room:Nat->Nat->Option U3×Nat
 fA:Nat->Nat
 fr:Nat->Option Obj
 main:Bool
structure Env.Le (E E':Env):Prop where
 I:∀b o v,E.I b o=some v->E'.I b o=some v
 n:E.n<=E'.n
 blk:∀k,k<E.n->E'.blk k=E.blk k
 fA:∀k,k<E.n->E.fA k<=E'.fA k
 room:∀k v,k<E.n->v<=E.fA k->E'.room k v=E.room k v
 fr:E'.fr=E.fr
 main:E'.main=E.main
theorem Env.Le.refl(E:Env):E.Le E:=⟨λ_ _ _ h=>h,SR _,λ_ _=>rfl,λ_ _=>SR _,λ_ _ _ _=>rfl,rfl,rfl⟩
theorem Env.Le.trans{E E' bQ:Env}(h:E.Le E')(k:E'.Le bQ):E.Le bQ:=
 ⟨λb o v e=>k.I b o v (h.I b o v e),UB h.n k.n,λi hi=>(k.blk i (Te hi h.n)).trans (h.blk i hi),λi hi=>UB (h.fA i hi) (k.fA i (Te hi h.n)),
  λi v hi hv=>(k.room i v (Te hi h.n) (UB hv (h.fA i hi))).trans (h.room i v hi hv),k.fr.trans h.fr,k.main.trans h.main⟩
def pu (E:Env)(e:End)(a:Option U3)(n cap:Nat):Prop:=match e with
 |.exact=>cap=n
 |.shut=>True
 |.opn k=>k<E.n/\n<=E.fA k/\E.room k n=(a,cap)
inductive ap (E:Env):AV->SP->Prop
 |val (x:SP):ap E (.val x) x
 |agg {l:List AV} {cs:Array SP} (hs:cs.size=l.length) (h:∀(i:Nat) a,l[i]?=some a->ap E a (cs.getD i undef)):ap E (.agg l) (.agg cs)
 |aJ {l:List AV} {cs:Array SP} (hs:cs.size=l.length) (h:∀(i:Nat) a,l[i]?=some a->ap E a (cs.getD i undef)):ap E (.aJ l) (.tuple cs)
 |sl {n:Nat} {l:List AV} {e:End} (b o cap:Nat) (f:Nat->SP) (hc:n<=cap) (he:pu E e (some ⟨b,o,none⟩) n cap)
   (h1:∀i,i<l.length->E.I b (o+i)=some (f i)) (h2:∀(i:Nat) x,l[i]?=some x->ap E x (f i)):ap E (.sl n l e) (.slice (some ⟨b,o,none⟩) n cap)
 |nil {e:End} {a:Option U3} (he:pu E e a 0 0):ap E (.sl 0 [] e) (.slice a 0 0)
 |bJ {id off n cap cap':Nat} (hi:id<E.n) (dP:n<=cap'/\(n<=cap->cap=cap')/\(cap<n->cap'<=(E.room id 0).2)):ap E (.bJ id off n cap) (.slice (some ⟨E.blk id,off,none⟩) n cap')
 |rp {l:List AV} (b o:Nat) (f:Nat->SP) (h1:∀i,i<l.length->E.I b (o+i)=some (f i)) (h2:∀(i:Nat) x,l[i]?=some x->ap E x (f i)):ap E (.rp l) (.pointer (some ⟨b,o,none⟩))
 |op {id off:Nat} (hi:id<E.n):ap E (.op id off) (.pointer (some ⟨E.blk id,off,none⟩))
 |fn {f:Fn} {first cR:List AV} {fa ca:Array SP} (dL:fa.size=first.length) (fP:ca.size=cR.length) (h1:∀(i:Nat) a,first[i]?=some a->ap E a (fa.getD i undef)) (h2:∀(i:Nat) a,cR[i]?=some a->ap E a (ca.getD i undef)):ap E (.fn f first cR) (.func f fa ca)
 |cZ {t:TypeId} {x:AV} {v:SP} (h:ap E x v):ap E (.cZ t x) (.iface t v)
 |mp {id:Nat} (hi:id<E.n):ap E (.mp id) (.map (some (E.blk id)))
theorem pu.mono{E E':Env}(h:E.Le E'){e:End}{a:Option U3}{n cap:Nat}(k:pu E e a n cap):pu E' e a n cap:=by
 cases e with
 |exact=>exact k
 |shut=>trivial
 |opn i=>exact⟨Te k.1 h.n,UB k.2.1 (h.fA i k.1),by rw[h.room i n k.1 k.2.1];exact k.2.2⟩
theorem ap.mono{E E':Env}(h:E.Le E'){a:AV}{v:SP}(d:ap E a v):ap E' a v:=by
 induction d with
 |val x=>exact .val x
 |agg hs _ ih=>exact .agg hs ih
 |aJ hs _ ih=>exact .aJ hs ih
 |sl b o cap f hc he h1 _ ih=>exact .sl b o cap f hc (he.mono h) (λi hi=>h.I _ _ _ (h1 i hi)) ih
 |nil he=>exact .nil (he.mono h)
 |bJ hi dP=>rw[<- h.blk _ hi];exact .bJ (Te hi h.n) ⟨dP.1,dP.2.1,λe=>by rw[h.room _ 0 hi (X_ _)];exact dP.2.2 e⟩
 |rp b o f h1 _ ih=>exact .rp b o f (λi hi=>h.I _ _ _ (h1 i hi)) ih
 |op hi=>rw[<- h.blk _ hi];exact .op (Te hi h.n)
 |fn dL fP _ _ mQ lx=>exact .fn dL fP mQ lx
 |cZ _ ih=>exact .cZ ih
 |mp hi=>rw[<- h.blk _ hi];exact .mp (Te hi h.n)
def AV.leaf:AV->Bool
 |.agg _|.aJ _=>false
 |.val x=>x.one
 |_=>true
inductive aa where
 |cells (l:List AV) (elem:TypeId)
 |part (p:Nat) (l:List AV) (elem:TypeId)
 |own (sz:Nat) (l:List AV) (elem:TypeId)
 |tail (n sz:Nat) (elem:TypeId)
 |obj (x:Obj)
 |iter (m since:Nat) (seen:Array Nat) (tE:Nat)
 |loop (r:Nat) (st:ab_) (pend:Option T7) (fn:TO) (T:List (Nat×AV)) (nt:Nat) (ps:Array Tmp) (bL body:T7) (df:Nat)
 |gone
 |main
def look:List (Nat×AV)->Nat->Option AV
 |[],_=>none
 |(k,a)::l,t=>if k=t then some a else look l t
def cj (E:Env)(T:List (Nat×AV))(tmps:Array SP):Prop:=∀t a,look T t=some a->t<tmps.size/\ap E a (tmps.getD t undef)
theorem cj.mono{E E':Env}(h:E.Le E'){T:List (Nat×AV)}{tmps:Array SP}(k:cj E T tmps):cj E' T tmps:=λt a e=>⟨(k t a e).1,(k t a e).2.mono h⟩
theorem cj.put{E:Env}{T:List (Nat×AV)}{tmps:Array SP}(k:cj E T tmps){d:Nat}(hd:d<tmps.size){a:AV}{v:SP}(hv:ap E a v):cj E ((d,a)::T) (tmps.setIfInBounds d v):=by
 intro t x e;simp only[look]at e;by_cases h:d=t
 ·subst h;rw[if_pos rfl]at e;cases e;exact⟨by simpa using hd,by simpa[SI,S_ hd]using hv⟩
 ·rw[if_neg h]at e;have:=k t x e;exact⟨by simpa using this.1,by simpa[SI,SV h]using this.2⟩
def cH (E:Env)(l:List AV)(cs:Array SP):Prop:=cs.size=l.length/\∀(i:Nat) a,l[i]?=some a->ap E a (cs.getD i undef)
theorem cH.mono{E E':Env}(h:E.Le E'){l:List AV}{cs:Array SP}(d:cH E l cs):cH E' l cs:=⟨d.1,λi a e=>(d.2 i a e).mono h⟩
def jX (E:Env)(l:List AV)(cs:Array SP):Prop:=l.length<=cs.size/\∀(i:Nat) a,l[i]?=some a->ap E a (cs.getD i undef)
theorem jX.mono{E E':Env}(h:E.Le E'){l:List AV}{cs:Array SP}(d:jX E l cs):jX E' l cs:=⟨d.1,λi a e=>(d.2 i a e).mono h⟩
theorem cH.p{E:Env}{l:List AV}{cs:Array SP}(d:cH E l cs):jX E l cs:=⟨WJ d.1.symm,d.2⟩
def bM (E:Env)(k:Nat):aa->Option Nat
 |.tail n _ _=>if(E.room k n).2=n then none else(E.room k n).1.map (·.block)
 |.gone|.main=>none
 |_=>some (E.blk k)
def fH (E:Env)(V:View)(k:Nat):aa->Prop
 |.cells l elem=>(∃cs,V.own (E.blk k)=some (.cells cs elem (0,0))/\cH E l cs)/\∀o,V.ab (E.blk k) o=none
 |.part p l elem=>(∃cs,V.own (E.blk k)=some (.cells cs elem (0,0))/\jX E l cs/\∀o,o<p->V.ab (E.blk k) o=cs[o]?)/\∀o,p<=o->V.ab (E.blk k) o=none
 |.own sz l elem=>(∃cs,V.own (E.blk k)=some (.cells cs elem (0,0))/\jX E l cs/\cs.size=(E.room k 0).2* sz)/\∀o,V.ab (E.blk k) o=none
 |.tail n sz elem=>E.fA k=n/\((E.room k n).2=n\/∃b cap cs,E.room k n=(some ⟨b,0,none⟩,cap)/\V.own b=some (.cells cs elem (0,0))/\cs.size=cap* sz/\n<cap/\∀o,n* sz<=o->V.ab b o=none)
 |.obj x=>V.own (E.blk k)=some x/\x.uF=false/\x.isChan=false/\∀o,V.ab (E.blk k) o=none
 |.iter m since seen tE=>m<E.n/\V.own (E.blk k)=some (.mapIter (some (E.blk m)) since seen tE)/\∀o,V.ab (E.blk k) o=none
 |.loop r st pend fn T nt ps bL body df=>(∃tmps,V.own (E.blk k)=some (.loop {state:=st,pending:=pend,fn,tmps,params:=ps,assign:=bL,body,defers:=E.blk df})/\tmps.size=nt/\cj E T tmps)/\df<E.n/\(∀o,V.ab (E.blk k) o=none)/\E.blk k=r
 |.gone=>True
 |.main=>E.main=true
structure Conc (E:Env)(V:View)(H:List aa):Prop where
 I:E.I=V.ab
 n:E.n=H.length
 obj:∀k x,H[k]?=some x->fH E V k x
 inj:∀i j x y b,H[i]?=some x->H[j]?=some y->bM E i x=some b->bM E j y=some b->i=j
 group:∀g,V.role.group=some g->V.own g≠none/\(∀o,V.ab g o=none)/\∀(k:Nat) x,H[k]?=some x->bM E k x≠some g
 chan:∀c,V.role.chan=some c->V.own c≠none/\(∀o,V.ab c o=none)/\∀(k:Nat) x,H[k]?=some x->bM E k x≠some c
 top:E.main=true->V.role=.plain/\V.deaf=0
 fr:∀b y,E.fr b=some y->V.own b=some y/\(∀o,V.ab b o=none)/\∀(k:Nat) x,H[k]?=some x->bM E k x≠some b
structure AS where
 T:List (Nat×AV)
 H:List aa
def AS.Le (s s':AS):Prop:=(∀t a,look s'.T t=some a->look s.T t=some a)/\s'.H=s.H
def AV.of:SP->AV
 |.agg cs=> .agg (cs.toList.map λ|.slice none 0 0=> .sl 0 [] .exact|v=> .val v)
 |.slice none 0 0=> .sl 0 [] .exact
 |v=> .val v
def AV.pj:SP->AV
 |.slice none 0 0=> .sl 0 [] .exact
 |v=> .val v
theorem ID(E:Env)(v:SP):ap E (AV.pj v) v:=by
 unfold AV.pj;split
 ·exact .nil rfl
 ·exact .val _
theorem sC(E:Env)(v:SP):ap E (AV.of v) v:=by
 unfold AV.of;split
 ·rename_i cs;refine .agg (by simp) λi a h=> ?_;rw[To]at h;obtain⟨x,hx,rfl⟩:=Ts.1 h;have:cs[i]?=some x:=by simpa using hx
  rw[SI,this];exact ID E x
 ·exact .nil rfl
 ·exact .val _
def AS.ev (s:AS):Tm->Option AV
 |.tmp t=>look s.T t
 |.const v=>some (AV.of v)
 |.func f=>some (.fn (.func f) [] [])
 |.global _=>none
theorem ap.ev{E:Env}{s:AS}{a:Act}(k:cj E s.T a.tmps){x:Tm}{av:AV}(h:s.ev x=some av):ap E av (a.eval x):=by
 cases x with
 |tmp t=>exact(k t av h).2
 |const v=>cases h;exact sC E v
 |func f=>cases h;exact .fn rfl rfl (by simp) (by simp)
 |global g=>cases h
theorem fH.Bn{E:Env}{V:View}{k:Nat}{x:aa}(h:fH E V k x){b:Nat}(hb:bM E k x=some b):∃y,V.own b=some y:=by
 cases x with
 |cells l el=>cases hb;obtain⟨⟨cs,h1,_⟩,_⟩:=h;exact⟨_,h1⟩
 |part p l el=>cases hb;obtain⟨⟨cs,h1,_⟩,_⟩:=h;exact⟨_,h1⟩
 |own p l el=>cases hb;obtain⟨⟨cs,h1,_⟩,_⟩:=h;exact⟨_,h1⟩
 |tail n sz el=>
  obtain⟨hv,h|⟨b',cap,cs,h1,h2,h3,h4,h5⟩⟩:=h
  ·simp only[bM,h,if_true]at hb;cases hb
  ·simp only[bM,h1]at hb;rw[if_neg (by omega)]at hb;cases hb;exact⟨_,h2⟩
 |obj x=>cases hb;exact⟨_,h.1⟩
 |iter m since seen tE=>cases hb;exact⟨_,h.2.1⟩
 |loop=>cases hb;obtain⟨⟨tmps,h1,_⟩,_⟩:=h;exact⟨_,h1⟩
 |gone=>cases hb
 |main=>cases hb
theorem OK{E E':Env}(hl:E.Le E'){k:Nat}(hk:k<E.n){x:aa}{V:View}(h:fH E V k x):bM E' k x=bM E k x:=by
 cases x with
 |tail n sz el=>simp only[bM];rw[hl.room k n hk (WJ h.1.symm)]
 |gone=>rfl
 |main=>rfl
 |_=>simp only[bM,hl.blk k hk]
theorem fH.mono{E E':Env}{V V':View}{k:Nat}{x:aa}(h:fH E V k x)(hl:E.Le E')(hk:k<E.n)(zV:E'.fA k=E.fA k)
  (ho:∀b y,bM E k x=some b->V.own b=some y->V'.own b=some y) (hi:∀b,bM E k x=some b->∀o,V'.ab b o=V.ab b o):fH E' V' k x:=by
 cases x with
 |cells l el=>
  obtain⟨⟨cs,h1,h2⟩,h3⟩:=h;simp only[fH,hl.blk k hk];exact⟨⟨cs,ho _ _ rfl h1,h2.mono hl⟩,λo=>(hi _ rfl o).trans (h3 o)⟩
 |part p l el=>
  obtain⟨⟨cs,h1,h2,h4⟩,h3⟩:=h;simp only[fH,hl.blk k hk];exact⟨⟨cs,ho _ _ rfl h1,h2.mono hl,λo hp=>(hi _ rfl o).trans (h4 o hp)⟩,λo hp=>(hi _ rfl o).trans (h3 o hp)⟩
 |own sz l el=>
  obtain⟨⟨cs,h1,h2,h4⟩,h3⟩:=h;simp only[fH,hl.blk k hk,hl.room k 0 hk (X_ _)];exact⟨⟨cs,ho _ _ rfl h1,h2.mono hl,h4⟩,λo=>(hi _ rfl o).trans (h3 o)⟩
 |tail n sz el=>
  obtain⟨hv,h⟩:=h;simp only[fH,zV,hl.room k n hk (WJ hv.symm)];refine⟨hv,?_⟩;rcases h with h|⟨b',cap,cs,h1,h2,h3,h4,h5⟩
  ·exact .inl h
  ·have hb:bM E k (.tail n sz el)=some b':=(by simp only[bM,h1];rw[if_neg (by omega)];rfl);exact .inr ⟨b',cap,cs,h1,ho _ _ hb h2,h3,h4,λo hm=>(hi _ hb o).trans (h5 o hm)⟩
 |obj x=>
  obtain⟨h1,h2,h4,h3⟩:=h;simp only[fH,hl.blk k hk];exact⟨ho _ _ rfl h1,h2,h4,λo=>(hi _ rfl o).trans (h3 o)⟩
 |iter m since seen tE=>
  obtain⟨h0,h1,h2⟩:=h;simp only[fH,hl.blk k hk,hl.blk m h0];exact⟨Te h0 hl.n,ho _ _ rfl h1,λo=>(hi _ rfl o).trans (h2 o)⟩
 |loop r st pend fn T nt ps bL body df=>
  obtain⟨⟨tmps,h1,h2,h3⟩,h4,h5,h6⟩:=h;simp only[fH,hl.blk k hk,hl.blk df h4];exact⟨⟨tmps,ho _ _ rfl h1,h2,h3.mono hl⟩,Te h4 hl.n,λo=>(hi _ rfl o).trans (h5 o),h6⟩
 |gone=>trivial
 |main=>exact hl.main.trans h
theorem Conc.iO{E E':Env}{V V':View}{H H':List aa}(hc:Conc E V H)(k:Nat)(x':aa)(hle:E.Le E')(hI:E'.I=V'.ab)(hn:E'.n=H'.length)
  (hH:∀(j:Nat) y,H'[j]?=some y->(j=k/\y=x')\/(j≠k/\H[j]?=some y)) (hr:V'.role=V.role)
  (zV:∀j,j≠k->j<E.n->E'.fA j=E.fA j)
  (ho:∀b y,(∀x,H[k]?=some x->bM E k x≠some b)->V.own b=some y->V'.own b=some y/\∀o,V'.ab b o=V.ab b o)
  (hx:fH E' V' k x') (hb:∀b,bM E' k x'=some b->(∃x,H[k]?=some x/\bM E k x=some b)\/V.own b=none) (bx:V'.deaf=V.deaf:=by rfl):Conc E' V' H':=by
 have hlt:∀(j:Nat) y,H[j]?=some y->j<E.n:=λj y h=>by rw[hc.n];exact(SM.1 h).1
 have cL:∀(j:Nat) y b,H[j]?=some y->bM E' j y=some b->bM E j y=some b:=λj y b h e=>by rw[<- OK hle (hlt j y h) (hc.obj j y h)];exact e
 have R8:∀(j:Nat) y b,j≠k->H[j]?=some y->bM E j y=some b->∀x,H[k]?=some x->bM E k x≠some b:=λj y b hj h1 h2 x h3 h4=>hj (hc.inj j k y x b h1 h3 h2 h4);have hg:∀(j:Nat) y,H'[j]?=some y->∀g,V.own g≠none->(∀(i:Nat) x,H[i]?=some x->bM E i x≠some g)->bM E' j y≠some g:=λj y h g o0 fO e=>by
  rcases hH j y h with⟨rfl,rfl⟩|⟨hj,h⟩
  ·rcases hb g e with⟨x,h1,h2⟩|h2
   ·exact fO _ x h1 h2
   ·exact o0 h2
  ·exact fO j y h (cL j y g h e)
 have hk:∀g,V.own g≠none->(∀(i:Nat) x,H[i]?=some x->bM E i x≠some g)->V'.own g≠none/\∀o,V'.ab g o=V.ab g o:=λg o0 fO=>by
  cases e:V.own g with
  |none=>exact absurd e o0
  |some y=>
   have:=ho g y (λx hx=>fO k x hx) e;exact⟨by rw[this.1];simp,this.2⟩
 refine⟨hI,hn,λj y h=> ?_,λi j y z b h1 h2 e1 e2=> ?_,λg Ro=> ?_,λc eX=> ?_,λhm=>(by rw[hr,bx];exact hc.top (by rw[<- hle.main];exact hm)),λb y iX=> ?_⟩
 ·rcases hH j y h with⟨rfl,rfl⟩|⟨hj,h⟩
  ·exact hx
  ·have lK:=hc.obj j y h;refine lK.mono hle (hlt j y h) (zV j hj (hlt j y h)) (λb z kB hz=> ?_) (λb kB o=> ?_)
   ·exact(ho b z (R8 j y b hj h kB) hz).1
   ·obtain⟨z,hz⟩:=lK.Bn kB;exact(ho b z (R8 j y b hj h kB) hz).2 o
 ·have new:∀(j:Nat) y,j≠k->H[j]?=some y->bM E' j y=some b->bM E' k x'≠some b:=λj y hj h e e'=>by
   have e:=cL j y b h e;rcases hb b e' with⟨x,CJ,hx2⟩|h1
   ·exact hj (hc.inj j k y x b h CJ e hx2)
   ·obtain⟨q,hq⟩:=(hc.obj j y h).Bn e;rw[h1]at hq;cases hq
  rcases hH i y h1 with⟨rfl,rfl⟩|⟨hi,h1⟩<;>rcases hH j z h2 with⟨rfl,rfl⟩|⟨hj,h2⟩
  ·rfl
  ·exact absurd e1 (new j z hj h2 e2)
  ·exact absurd e2 (new i y hi h1 e1)
  ·exact hc.inj i j y z b h1 h2 (cL i y b h1 e1) (cL j z b h2 e2)
 ·rw[hr]at Ro;obtain⟨h0,h1,h2⟩:=hc.group g Ro;exact⟨(hk g h0 h2).1,λo=>((hk g h0 h2).2 o).trans (h1 o),λj y h=>hg j y h g h0 h2⟩
 ·rw[hr]at eX;obtain⟨h0,h1,h2⟩:=hc.chan c eX;exact⟨(hk c h0 h2).1,λo=>((hk c h0 h2).2 o).trans (h1 o),λj y h=>hg j y h c h0 h2⟩
 ·rw[hle.fr]at iX;obtain⟨h0,h1,h2⟩:=hc.fr b y iX;have EK:V.own b≠none:=by rw[h0];simp
  exact⟨(ho b y (λx hx=>h2 k x hx) h0).1,λo=>((hk b EK h2).2 o).trans (h1 o),λj z h=>hg j z h b EK h2⟩
theorem lS{α:Type}{H:List α}{k:Nat}{x':α}:∀(j:Nat) y,(H.set k x')[j]?=some y->(j=k/\y=x')\/(j≠k/\H[j]?=some y):=λj y h=>by
 by_cases hj:j=k
 ·subst hj;rw[List.getElem?_set_self']at h;cases e:H[j]?with
  |none=>rw[e]at h;cases h
  |some z=>rw[e]at h;exact .inl ⟨rfl,by simpa using h.symm⟩
 ·rw[T6 (Ne.symm hj)]at h;exact .inr ⟨hj,h⟩
theorem CZ{α:Type}{H:List α}{x':α}:∀(j:Nat) y,(H++[x'])[j]?=some y->(j=H.length/\y=x')\/(j≠H.length/\H[j]?=some y):=λj y h=>by
 by_cases hk:j<H.length
 ·rw[SX hk]at h;exact .inr ⟨by omega,h⟩
 ·rw[Th (by omega)]at h;have aI:j-H.length=0:=by
   have:=(SM.1 h).1;simpa using this
  rw[aI]at h;exact .inl ⟨by omega,by simpa using h.symm⟩
theorem Conc.jf{E:Env}{V:View}{H:List aa}(hc:Conc E V H){k:Nat}{x:aa}(hk:H[k]?=some x){b:Nat}(hb:bM E k x=some b):V.role.group≠some b/\V.role.chan≠some b:=
 ⟨λe=>(hc.group b e).2.2 k x hk hb,λe=>(hc.chan b e).2.2 k x hk hb⟩
theorem Conc.aai{E:Env}{V:View}{H:List aa}(hc:Conc E V H){b o:Nat}{v:SP}(h:E.I b o=some v):V.role.group≠some b/\V.role.chan≠some b:=
 ⟨λe=>(by have:=(hc.group b e).2.1 o;rw[<- hc.I,h]at this;cases this),λe=>(by have:=(hc.chan b e).2.1 o;rw[<- hc.I,h]at this;cases this)⟩
open Go.Conc
def AS.put (s:AS)(dst:Option Nat)(av:AV):AS:=match dst with
 |some d=>⟨(d,av)::s.T,s.H⟩
 |none=>s
theorem cj.gQ{E:Env}{s:AS}{a:Act}(k:cj E s.T a.tmps){dst:Option Nat}(hd:∀d,dst=some d->d<a.tmps.size){av:AV}{v:SP}(hv:ap E av v):cj E (s.put dst av).T (a.put dst v).tmps:=by
 cases dst with
 |none=>exact k
 |some d=>exact cj.put k (hd d rfl) hv
theorem fl(s:AS)(dst:Option Nat)(av:AV):(s.put dst av).H=s.H:=by cases dst<;>rfl
theorem d_(a:Act)(dst:Option Nat)(v:SP):(a.put dst v).tmps.size=a.tmps.size:=by cases dst<;>simp[XZ]
theorem put_defers(a:Act)(dst:Option Nat)(v:SP):(a.put dst v).defers=a.defers:=by cases dst<;>rfl
structure Kept (E E':Env)(V V':View)(a a':Act):Prop where
 le:E.Le E'
 size:a'.tmps.size=a.tmps.size
 defers:a'.defers=a.defers
 role:V'.role=V.role
 deaf:V'.deaf=V.deaf
def Step (lv:Bool)(P:SJ)(r:Option Nat)(o:Tx)(s:AS)(next:AS->Prop)(bad:AV->AS->Prop):Prop:=
 ∀(E:Env)(V:View)(a:Act)(N:Act->View->Prop)(Q:Ex->Act->View->Prop),Conc E V s.H->cj E s.T a.tmps->(∀d,o.dst=some d->d<a.tmps.size)->(r=none\/ml o.op=false)->
  (∀E' V' a' s',Kept E E' V V' a a'->Conc E' V' s'.H->cj E' s'.T a'.tmps->next s'->N a' V')->
  (∀E' V' s' pv v,Kept E E' V V' a a->Conc E' V' s'.H->cj E' s'.T a.tmps->ap E' pv v->bad pv s'->Q (.panic [{v,recovered:=false}]) a V')->wN lv P r o a V N Q
def dz (lv:Bool)(P:SJ)(r:Option Nat)(o:Tx)(s:AS)(av:AV):Prop:=
 ∀(E:Env)(V:View)(a:Act)(N:Act->View->Prop)(Q:Ex->Act->View->Prop),Conc E V s.H->cj E s.T a.tmps->(r=none\/ml o.op=false)->
  (∀E' V' v,E.Le E'->V'.role=V.role->V'.deaf=V.deaf->Conc E' V' s.H->ap E' av v->N (a.put o.dst v) V')->wN lv P r o a V N Q
section
variable {lv:Bool}{P:SJ}{r:Option Nat}{o:Tx}{s:AS}{next:AS->Prop}{bad:AV->AS->Prop}
theorem Step.mono{next':AS->Prop}{OD:AV->AS->Prop}(h:Step lv P r o s next bad)(hn:∀s,next s->next' s)(hb:∀c s,bad c s->OD c s):Step lv P r o s next' OD:=
 λE V a N Q h1 h2 h3 h4 h5 h6=>h E V a N Q h1 h2 h3 h4 (λE' V' a' s' x1 x2 x3 x4=>h5 E' V' a' s' x1 x2 x3 (hn _ x4)) (λE' V' s' pv v x1 x2 x3 x4 x5=>h6 E' V' s' pv v x1 x2 x3 x4 (hb _ _ x5))
theorem iL{av:AV}(h:∀(E:Env)(V:View)(a:Act),Conc E V s.H->cj E s.T a.tmps->aP P V (execOp a.eval o) (λnx V'=>V'=V/\∃v,nx=.value v/\ap E av v) (λ_ _=>False)):dz lv P r o s av:=by
 intro E V a N Q hc ht bx h1;refine⟨bx,(h E V a hc ht).mono (λnx V' hx=> ?_) (λ_ _ hx=>hx.elim)⟩;obtain⟨rfl,v,rfl,hv⟩:=hx;exact h1 E V' v (Env.Le.refl E) rfl rfl hc hv
theorem rO{av:AV}(h:∀(E:Env)(V:View)(a:Act),Conc E V s.H->cj E s.T a.tmps->∃v,execOp a.eval o=.pure (.value v)/\ap E av v):dz lv P r o s av:=
 iL (λE V a hc ht=>by
  obtain⟨v,h1,h2⟩:=h E V a hc ht;rw[h1];exact cG ⟨rfl,v,rfl,h2⟩)
theorem dz.step{av:AV}(h:dz lv P r o s av)(hn:next (s.put o.dst av)):Step lv P r o s next bad:=by
 intro E V a N Q hc ht hd bx h1 _;refine h E V a N Q hc ht bx λE' V' v hle ce eZ bi hv=> ?_;exact h1 E' V' (a.put o.dst v) (s.put o.dst av) ⟨hle,d_ _ _ _,put_defers _ _ _,ce,eZ⟩ (by rw[fl];exact bi) ((ht.mono hle).gQ hd hv) hn
theorem abO{x:Tm}{av:AV}(ho:o.op=.move x\/o.op=.assign x)(hx:s.ev x=some av):dz lv P r o s (av):=
 rO (λE V a hc ht=>⟨a.eval x,by unfold execOp;rcases ho with ho|ho<;>rw[ho]<;>rfl,ap.ev ht hx⟩)
theorem ao0{c x y:Tm}{b:Bool}{av aw:AV}(ho:o.op=.pick c x y)(hc:s.ev c=some (.val (.bool b)))(hx:s.ev x=some av)(hy:s.ev y=some aw):dz lv P r o s ((if b then av else aw)):=
 rO (λE V a iV ht=>by
  have h1:=ap.ev ht hc;generalize hv:a.eval c=v at h1;cases h1;refine⟨if b then a.eval x else a.eval y,by unfold execOp;rw[ho];simp only[hv];cases b<;>rfl,?_⟩;cases b
  ·exact ap.ev ht hy
  ·exact ap.ev ht hx)
def l8 (op:V_)(k:TU)(x y:Int):Option SP:=match op with
 |.add=>some (.int k (k.wrap (x+y)))
 |.sub=>some (.int k (k.wrap (x-y)))
 |.mul=>some (.int k (k.wrap (x* y)))
 |.eql=>some (.bool (x==y))
 |.neq=>some (.bool (x !=y))
 |.lss=>some (.bool (x<y))
 |.leq=>some (.bool (x<=y))
 |.gtr=>some (.bool (x>y))
 |.geq=>some (.bool (x>=y))
 |.and=>some (.int k (k.wrap (Ug k.bits x&&&Ug k.bits y).toNat))
 |.or=>some (.int k (k.wrap (Ug k.bits x|||Ug k.bits y).toNat))
 |.xor=>some (.int k (k.wrap (Ug k.bits x^^^Ug k.bits y).toNat))
 |.quo=>if y=0 then none else some (.int k (k.wrap (x.tdiv y)))
 |.rem=>if y=0 then none else some (.int k (x.tmod y))
 |_=>none
def Av (op:V_)(k:TU)(x y:Int):Option SP:=if y<0 then none else match op with
 |.shl=>some (.int k (k.wrap (x* 2^(min y.toNat k.bits))))
 |.shr=>some (.int k (x.fdiv (2^(min y.toNat k.bits))))
 |_=>none
def mR:V_->Bool
 |.shl|.shr=>true
 |_=>false
theorem afK{op:V_}{k:TU}{x y:Int}{v:SP}{t:TypeId}(h:l8 op k x y=some v):binOp op t (.int k x) (.int k y)=.pure v:=by
 cases op<;>simp only[l8,Tn,reduceCtorEq]at h<;>try(subst h;simp[binOp,atZ,Op.intCmp,Op.intBits];rfl)
 ·split at h
  ·cases h
  ·rename_i hy;simp only[Tn]at h;subst h;simp[binOp,ar_,hy];rfl
 ·split at h
  ·cases h
  ·rename_i hy;simp only[Tn]at h;subst h;simp[binOp,ar_,hy];rfl
theorem aqb{op:V_}{k j:TU}{x y:Int}{v:SP}{t:TypeId}(h:Av op k x y=some v):binOp op t (.int k x) (.int j y)=.pure v:=by
 unfold Av at h;split at h
 ·cases h
 ·rename_i hy;cases op<;>simp only[Tn,reduceCtorEq]at h
  ·subst h;simp[binOp,atM,hy];rfl
  ·subst h;simp[binOp,atM,hy];rfl
theorem PB{op:V_}{t:TypeId}{x y:Tm}{j k:TU}{a b:Int}:eqGuard op t x y (.int j a) (.int k b)=.pure ():=by
 unfold eqGuard;cases op<;>rfl
theorem aoA{op:V_}{xt yt:TypeId}{x y:Tm}{k:TU}{m n:Int}{v:SP}(ho:o.op=.binOp op xt x y yt)(hx:s.ev x=some (.val (.int k m)))(hy:s.ev y=some (.val (.int k n)))(hv:l8 op k m n=some v):dz lv P r o s ((.val v)):=
 rO (λE V a iV ht=>by
  have h1:=ap.ev ht hx;have h2:=ap.ev ht hy;generalize o5:a.eval x=v1 at h1;generalize td:a.eval y=v2 at h2;cases h1;cases h2;refine⟨v,?_,.val v⟩;unfold execOp;rw[ho];simp only[o5,td,PB,afK hv];rfl)
theorem ao1{op:V_}{xt yt:TypeId}{x y:Tm}{k j:TU}{m n:Int}{v:SP}(ho:o.op=.binOp op xt x y yt)(hx:s.ev x=some (.val (.int k m)))(hy:s.ev y=some (.val (.int j n)))(hv:Av op k m n=some v):dz lv P r o s ((.val v)):=
 rO (λE V a iV ht=>by
  have h1:=ap.ev ht hx;have h2:=ap.ev ht hy;generalize o5:a.eval x=v1 at h1;generalize td:a.eval y=v2 at h2;cases h1;cases h2;refine⟨v,?_,.val v⟩;unfold execOp;rw[ho];simp only[o5,td,PB,aqb hv];rfl)
theorem aoZ{t:TypeId}{x:Tm}{b:Bool}(ho:o.op=.unOp .not t x)(hx:s.ev x=some (.val (.bool b))):dz lv P r o s ((.val (.bool !b))):=
 rO (λE V a iV ht=>by
  have h1:=ap.ev ht hx;generalize o5:a.eval x=v1 at h1;cases h1;exact⟨_,by unfold execOp;rw[ho];simp only[o5];rfl,.val _⟩)
theorem aoW{t:TypeId}{x:Tm}{k:TU}{n:Int}(ho:o.op=.unOp .neg t x)(hx:s.ev x=some (.val (.int k n))):dz lv P r o s (.val (.int k (k.wrap (0-n)))):=
 rO (λE V a iV ht=>by
  have h1:=ap.ev ht hx;generalize o5:a.eval x=v1 at h1;cases h1;exact⟨_,by unfold execOp;rw[ho];simp only[o5];rfl,.val _⟩)
theorem aoG{x:Tm}{i:Nat}{l:List AV}{av:AV}(ho:o.op=.extract x i)(hx:s.ev x=some (.aJ l))(hi:l[i]?=some av):dz lv P r o s (av):=
 rO (λE V a iV ht=>by
  have h1:=ap.ev ht hx;generalize o5:a.eval x=v1 at h1;cases h1 with
  |aJ hs h=>
   rename_i cs;have hlt:i<cs.size:=(by rw[hs];exact(SM.1 hi).1);refine⟨cs[i],?_,?_⟩
   ·unfold execOp;rw[ho];simp only[o5,Instr.extract,SK hlt];rfl
   ·have:=h i av hi;rwa [SI,SK hlt]at this)
end
theorem add_plain(b o n:Nat):(⟨b,o,none⟩:U3).add n=⟨b,o+n,none⟩:=by
 unfold atT;split
 ·rename_i h;subst h;rfl
 ·rfl
def AS.at (s:AS):AV->Option (List AV)
 |.rp l=>some l
 |.op id off=>match s.H[id]?with
  |some (.cells l _)=>some (l.drop off)
  |some (.part _ l _)=>some (l.drop off)
  |some (.own _ l _)=>some (l.drop off)
  |_=>none
 |_=>none
def AV.shift (n:Nat):AV->Option AV
 |.rp l=>if n<=l.length then some (.rp (l.drop n))else none
 |.op id off=>some (.op id (off+n))
 |_=>none
theorem Conc.at{E:Env}{V:View}{s:AS}(hc:Conc E V s.H){p:AV}{v:SP}(hd:ap E p v){l:List AV}(h:s.at p=some l):
  ∃(b o:Nat)(f:Nat->SP),v=.pointer (some ⟨b,o,none⟩)/\(∀i,i<l.length->V.get b (o+i)=some (f i))/\(0<l.length->V.role.group≠some b)/\∀(i:Nat) x,l[i]?=some x->ap E x (f i):=by
 cases hd with
 |rp b o f h1 h2=>
  cases h;exact⟨b,o,f,rfl,λi hi=>by unfold View.get;rw[<- hc.I,h1 i hi],λhp=>(hc.aai (h1 0 hp)).1,h2⟩
 |op hi=>
  rename_i id off;simp only[AS.at]at h;cases hk:s.H[id]?with
  |none=>rw[hk]at h;cases h
  |some ob=>
   rw[hk]at h;cases ob with
   |cells l' el=>
    cases h;obtain⟨⟨cs,ho,hs,bk⟩,kC⟩:=hc.obj id _ hk;refine⟨E.blk id,off,λi=>cs.getD (off+i) undef,rfl,λi hi=> ?_,λ_=>(hc.jf hk rfl).1,λi x hx=> ?_⟩
    ·unfold View.get;rw[kC,ho];simp only[Ul]at hi;have hlt:off+i<cs.size:=(by omega);simp only[SI,SK hlt,S8]
    ·rw[Um]at hx;exact bk _ _ hx
   |part p l' el=>
    cases h;obtain⟨⟨cs,ho,⟨hs,bk⟩,nE⟩,kC⟩:=hc.obj id _ hk;refine⟨E.blk id,off,λi=>cs.getD (off+i) undef,rfl,λi hi=> ?_,λ_=>(hc.jf hk rfl).1,λi x hx=> ?_⟩
    ·simp only[Ul]at hi;have hlt:off+i<cs.size:=(by omega);unfold View.get;by_cases hp:off+i<p
     ·rw[nE _ hp];simp only[SI,SK hlt,S8]
     ·rw[kC _ (by omega),ho];simp only[SI,SK hlt,S8]
    ·rw[Um]at hx;exact bk _ _ hx
   |own sz l' el=>
    cases h;obtain⟨⟨cs,ho,⟨hs,bk⟩,_⟩,kC⟩:=hc.obj id _ hk;refine⟨E.blk id,off,λi=>cs.getD (off+i) undef,rfl,λi hi=> ?_,λ_=>(hc.jf hk rfl).1,λi x hx=> ?_⟩
    ·simp only[Ul]at hi;have hlt:off+i<cs.size:=(by omega);unfold View.get;rw[kC,ho];simp only[SI,SK hlt,S8]
    ·rw[Um]at hx;exact bk _ _ hx
   |_=>cases h
 |_=>cases h
theorem ap.shift{E:Env}{p q:AV}{v:SP}(hd:ap E p v){n:Nat}(h:p.shift n=some q):∃b o,v=.pointer (some ⟨b,o,none⟩)/\ap E q (.pointer (some ⟨b,o+n,none⟩)):=by
 cases hd with
 |rp b o f h1 h2=>
  simp only[AV.shift]at h;split at h
  ·rename_i hn;cases h;refine⟨b,o,rfl,.rp b (o+n) (λi=>f (n+i)) (λi hi=> ?_) (λi x hx=> ?_)⟩
   ·simp only[Ul]at hi;rw[XD];exact h1 _ (by omega)
   ·rw[Um]at hx;exact h2 _ _ hx
  ·cases h
 |op hi=>cases h;exact⟨_,_,rfl,.op hi⟩
 |_=>cases h
section
variable {P:SJ}{V:View}{α:Type}{K:α->View->Prop}{Kp:SP->View->Prop}
theorem ej{t:TypeId}{d:TypeDesc}{k:TypeDesc->Sem α}(h:P.underlying t=some d)(hk:aP P V (k d) K Kp):aP P V (underlying t>>=k) K Kp:=by
 unfold underlying;refine aA (aA (qq (cG ?_)));rw[h];exact aq hk
theorem yk{t:TypeId}{i:Wm}{k:Wm->Sem α}(h:P.info? t=some i)(hk:aP P V (k i) K Kp):aP P V (typeInfo t>>=k) K Kp:=by
 unfold typeInfo;refine aA (aA (qq (cG ?_)));rw[h];exact aq hk
theorem jV{t:TypeId}{i:Wm}{k:Nat->Sem α}(h:P.info? t=some i)(hk:aP P V (k i.size) K Kp):aP P V (sizeOf t>>=k) K Kp:=by
 refine aA ?_;unfold sizeOf;exact yk h (aq hk)
def TypeDesc.agg:TypeDesc->Bool
 |.struct _|.array _ _=>true
 |_=>false
theorem Di{t:TypeId}{d:TypeDesc}{k:Bool->Sem α}(h:P.underlying t=some d)(hk:aP P V (k (TypeDesc.agg d)) K Kp):aP P V (isAgg t>>=k) K Kp:=by
 refine aA ?_;unfold isAgg;refine ej h ?_;cases d<;>exact aq hk
theorem ap2{b o:Nat}{v:SP}{k:SP->Sem α}(hg:V.role.group≠some b)(e:V.get b o=some v)(hk:aP P V (k v) K Kp):aP P V (load ⟨b,o,none⟩>>=k) K Kp:=
 aA (M3 e (.inl hg) (cG hk))
theorem aca{b o:Nat}{f:Nat->SP}{K:Array SP->View->Prop}:∀(n i:Nat)(acc:Array SP),(0<n->V.role.group≠some b)->(∀j,j<n->V.get b (o+(i+j))=some (f (i+j)))->
  K (acc++((SZ n).map λj=>f (i+j)).toArray) V->aP P V (loadCellsFrom ⟨b,o,none⟩ i n acc) K Kp
 |0,i,acc,_,_,h=>aq (by simpa using h)
 |n+1,i,acc,hg,he,h=>by
  have h0:=he 0 (by omega);unfold loadCellsFrom;rw[add_plain];refine ap2 (hg (by omega)) h0 ?_;refine aca n (i+1) _ (λ_=>hg (by omega)) (λj hj=>by have:=he (j+1) (by omega);rwa [show i+(j+1)=i+1+j by omega]at this) ?_;have e:(acc.push (f (i+0))++((SZ n).map λj=>f (i+1+j)).toArray)=acc++((SZ (n+1)).map λj=>f (i+j)).toArray:=by
   rw[List.range_succ_eq_map];apply VD;simp[Yx,XD,Z8 1]
  rw[e];exact h
theorem Ar{b o n:Nat}{f:Nat->SP}(hg:0<n->V.role.group≠some b){K:Array SP->View->Prop}(he:∀j,j<n->V.get b (o+j)=some (f j))(h:K ((SZ n).map f).toArray V):aP P V (loadCells ⟨b,o,none⟩ n) K Kp:=
 aca n 0 #[] hg (λj hj=>by simpa using he j hj) (by simpa using h)
end
theorem kY{α β:Type}{x:Option α}{f:α->β}{y:β}(h:x.map f=some y):∃a,x=some a/\f a=y:=Ts.1 h
def Ty (P:SJ)(t:TypeId):Option (Nat×Bool):=(P.info? t).bind λi=>(P.underlying t).map λd=>(i.size,TypeDesc.agg d)
theorem Ty.out{P:SJ}{t:TypeId}{n:Nat}{g:Bool}(h:Ty P t=some (n,g)):∃i d,P.info? t=some i/\P.underlying t=some d/\i.size=n/\TypeDesc.agg d=g:=by
 unfold Ty at h;obtain⟨i,h1,h2⟩:=Tg.1 h;obtain⟨d,h3,h4⟩:=kY h2;cases h4;exact⟨i,d,h1,h3,rfl,rfl⟩
theorem IF{E:Env}{l:List AV}{f:Nat->SP}{n:Nat}(hn:n<=l.length)(h:∀(i:Nat) x,l[i]?=some x->ap E x (f i)):ap E (.agg (l.take n)) (.agg ((SZ n).map f).toArray):=by
 refine .agg (by simp;omega) λi x hx=> ?_;rw[Uc]at hx;split at hx
 ·rename_i hi;have:=h i x hx;simpa[SI,hi]using this
 ·cases hx
def AV.row:AV->Option (Nat×AV)
 |.sl n l _=>some (n,.rp l)
 |.bJ id off n _=>some (n,.op id off)
 |_=>none
theorem ap.row{E:Env}{a p:AV}{v:SP}{n:Nat}(hd:ap E a v)(h:a.row=some (n,p))(h0:0<n):∃b o cap,v=.slice (some ⟨b,o,none⟩) n cap/\ap E p (.pointer (some ⟨b,o,none⟩)):=by
 cases hd with
 |sl b o cap f hc he h1 h2=>cases h;exact⟨b,o,cap,rfl,.rp b o f h1 h2⟩
 |nil he=>cases h;exact absurd h0 (by simp)
 |bJ hi=>cases h;exact⟨_,_,_,rfl,.op hi⟩
 |_=>cases h
def AV.len:AV->Option Nat
 |.sl n _ _=>some n
 |.bJ _ _ n _=>some n
 |_=>none
theorem ap.len{E:Env}{a:AV}{v:SP}{n:Nat}(hd:ap E a v)(h:a.len=some n):∃ad cap,v=.slice ad n cap:=by
 cases hd with
 |sl b o cap f hc he h1 h2=>cases h;exact⟨_,_,rfl⟩
 |nil he=>cases h;exact⟨_,_,rfl⟩
 |bJ hi=>cases h;exact⟨_,_,rfl⟩
 |_=>cases h
def ff (P:SJ)(t:TypeId)(k:Nat):Option Nat:=match P.underlying t with
 |some (.struct fs)=>match fs[k]?with
  |some f=>match P.info? f.type with
   |some i=>if i.size=0 then none else some f.offset
   |none=>none
  |none=>none
 |_=>none
def nT (P:SJ)(t:TypeId):Option (Option Nat×Nat):=match P.underlying t with
 |some (.array n e)=>(P.info? e).map λi=>(some n,i.size)
 |some (.slice e)=>(P.info? e).map λi=>(none,i.size)
 |_=>none
inductive yB where
 |slice|map|str|arr (n:Nat)
def lC (P:SJ)(t:TypeId):Option yB:=match P.underlying t with
 |some (.slice _)=>some .slice
 |some (.map _ _)=>some .map
 |some .string=>some .str
 |some (.array n _)=>some (.arr n)
 |_=>none
def HU (P:SJ)(t:TypeId)(k:Nat):Option (Nat×Nat×Bool):=match P.underlying t with
 |some (.struct fs)=>match fs[k]?with
  |some f=>(Ty P f.type).map λx=>(f.offset,x.1,x.2)
  |none=>none
 |_=>none
def HN (P:SJ)(t:TypeId):Option (Nat×Nat×Bool):=match P.underlying t with
 |some (.array n e)=>(Ty P e).map λx=>(n,x.1,x.2)
 |_=>none
section
variable {lv:Bool}{P:SJ}{r:Option Nat}{o:Tx}{s:AS}{next:AS->Prop}{bad:AV->AS->Prop}
theorem aoP{t:TypeId}{x:Tm}{p:AV}{l:List AV}{n:Nat}(ho:o.op=.load t x)(ht:Ty P t=some (n,true))(hx:s.ev x=some p)(hl:s.at p=some l)(hlen:n<=l.length):dz lv P r o s ((.agg (l.take n))):=
 iL (λE V a hc aF=>by
  obtain⟨i,d,h1,h2,rfl,h4⟩:=Ty.out ht;obtain⟨b,off,f,hv,hg,j_,hd⟩:=hc.at (ap.ev aF hx) hl;unfold execOp;rw[ho];simp only[hv];refine aA ?_;unfold Xz U9;refine aA (aq ?_);unfold loadVar;refine Di h2 ?_;rw[h4];simp only[if_true];refine jV h1 ?_;refine aA (Ar (f:=f) (λh=>j_ (by omega)) (λj hj=>hg j (by omega)) ?_);exact aq (aq ⟨rfl,_,rfl,IF hlen hd⟩))
theorem aoQ{t:TypeId}{x:Tm}{p:AV}{l:List AV}{n:Nat}{av:AV}(ho:o.op=.load t x)(ht:Ty P t=some (n,false))(hx:s.ev x=some p)(hl:s.at p=some l)(h0:l[0]?=some av):dz lv P r o s (av):=
 iL (λE V a hc aF=>by
  obtain⟨i,d,h1,h2,rfl,h4⟩:=Ty.out ht;obtain⟨b,off,f,hv,hg,j_,hd⟩:=hc.at (ap.ev aF hx) hl;unfold execOp;rw[ho];simp only[hv];refine aA ?_;unfold Xz U9;refine aA (aq ?_);unfold loadVar;refine Di h2 ?_;rw[h4];simp only[TN,if_false];have hlen:0<l.length:=(SM.1 h0).1;have oo:=hg 0 hlen;rw[UK]at oo;exact M3 oo (.inl (j_ hlen)) (cG (aq ⟨rfl,_,rfl,hd 0 av h0⟩)))
def AV.sure:AV->Bool
 |.rp _|.op _ _=>true
 |.fn (.func _) _ _=>true
 |.fn (.yield _) _ _=>true
 |.cZ _ _=>true
 |_=>false
theorem aoX{x:Tm}{p:AV}(ho:o.op=.nilCheck x)(hx:s.ev x=some p)(hp:p.sure=true):dz lv P r o s (p):=
 rO (λE V a hc aF=>by
  have hd:=ap.ev aF hx;refine⟨a.eval x,?_,hd⟩;unfold execOp;rw[ho];dsimp only;generalize a.eval x=v at hd⊢;cases hd with
  |rp=>rfl
  |op=>rfl
  |cZ=>rfl
  |fn dL fP h1 h2=>
   rename_i f _ _ _ _;cases f with
   |func=>rfl
   |yield=>rfl
   |_=>cases hp
  |_=>cases hp)
theorem aoH{t:TypeId}{x:Tm}{k n:Nat}{p q:AV}(ho:o.op=.fieldAddr t x k)(ht:ff P t k=some n)(hx:s.ev x=some p)(hp:p.shift n=some q):dz lv P r o s (q):=
 iL (λE V a hc aF=>by
  obtain⟨b,off,hv,hq⟩:=(ap.ev aF hx).shift hp;unfold ff at ht;split at ht
  ·rename_i fs hu;split at ht
   ·rename_i f hf;split at ht
    ·rename_i i hi;split at ht
     ·cases ht
     ·rename_i hz;cases ht;unfold execOp;rw[ho];simp only[hv];refine aA ?_;unfold Instr.fieldAt;refine ej hu ?_;simp only[hf];unfold U9;refine aA (aq ?_);unfold fieldPlace;refine aA (jV hi ?_);rw[if_neg hz];refine aq (aq (aq ⟨rfl,_,rfl,?_⟩));rw[add_plain];exact hq
    ·cases ht
   ·cases ht
  ·cases ht)
theorem aoJ{t:TypeId}{x ix:Tm}{a p q:AV}{k:TU}{i:Int}{n sz:Nat}(ho:o.op=.indexAddr t x ix)(ht:nT P t=some (none,sz))(hx:s.ev x=some a)(ha:a.row=some (n,p))(hi:s.ev ix=some (.val (.int k i)))(h0:0<=i)(h1:i<n)
  (hp:p.shift (i.toNat* sz)=some q):dz lv P r o s (q):=
 iL (λE V ac hc aF=>by
  obtain⟨b,off,cap,hv,zH⟩:=(ap.ev aF hx).row ha (by omega);obtain⟨b',o',hb,hq⟩:=zH.shift hp;cases hb;have hd:=ap.ev aF hi;generalize qh:ac.eval ix=vi at hd;cases hd;unfold nT at ht;split at ht
  ·obtain⟨_,_,h⟩:=kY ht;cases h
  ·rename_i e hu;obtain⟨inf,Kq,h⟩:=kY ht;cases h;unfold execOp;rw[ho];simp only[hv,qh];refine aA ?_;unfold ZR asIntOf;refine aA (aq ?_);dsimp only;refine ej hu ?_;refine aA (aq ?_);dsimp only;refine ej hu ?_;dsimp only;rw[if_pos ⟨h0,h1⟩];refine jV Kq ?_;refine aq (aq ⟨rfl,_,rfl,?_⟩);rw[add_plain];exact hq
  ·cases ht)
theorem aoK{t:TypeId}{x ix:Tm}{p q:AV}{k:TU}{i:Int}{n sz:Nat}(ho:o.op=.indexAddr t x ix)(ht:nT P t=some (some n,sz))(hx:s.ev x=some p)(hi:s.ev ix=some (.val (.int k i)))(h0:0<=i)(h1:i<n)
  (hp:p.shift (i.toNat* sz)=some q):dz lv P r o s (q):=
 iL (λE V ac hc aF=>by
  obtain⟨b,off,hv,hq⟩:=(ap.ev aF hx).shift hp;have hd:=ap.ev aF hi;generalize qh:ac.eval ix=vi at hd;cases hd;unfold nT at ht;split at ht
  ·rename_i m e hu;obtain⟨inf,Kq,h⟩:=kY ht;cases h;unfold execOp;rw[ho];simp only[hv,qh];refine aA ?_;unfold ZR asIntOf;refine aA (aq ?_);dsimp only;refine ej hu ?_;dsimp only;unfold U9;refine aA (aA (aq (aq ?_)));refine ej hu ?_;dsimp only;rw[if_pos ⟨h0,h1⟩];refine jV Kq ?_;refine aq (aq ⟨rfl,_,rfl,?_⟩);rw[add_plain];exact hq
  ·obtain⟨_,_,h⟩:=kY ht;cases h
  ·cases ht)
theorem abN{c:Xn}{x:Tm}{t:TypeId}{a:AV}{n:Nat}(ho:o.op=.call c)(aY:c.callee=.builtin .len)(te:c.args[0]?=some x)(CD:c.argTypes[0]?=some t)(ht:lC P t=some .slice)(hx:s.ev x=some a)(ha:a.len=some n):dz lv P r o s (.val (.int .i64 n)):=
 iL (λE V ac hc aF=>by
  obtain⟨ad,cap,hv⟩:=(ap.ev aF hx).len ha;unfold lC at ht;split at ht<;>cases ht;rename_i e hu;unfold execOp;rw[ho];dsimp only;unfold resolve;rw[aY];dsimp only;refine aA (aq ?_);unfold invoke builtin;dsimp only;refine aA ?_;unfold Yl;have e1:(c.args.map ac.eval)[0]?=some (.slice ad n cap):=by simp[te,hv]
  simp only[CD,e1];refine ej hu ?_;exact aq (aq ⟨rfl,_,rfl,.val _⟩))
theorem aoO{c:Xn}{x:Tm}{t:TypeId}{b:ByteArray}(ho:o.op=.call c)(aY:c.callee=.builtin .len)(te:c.args[0]?=some x)(CD:c.argTypes[0]?=some t)(ht:lC P t=some .str)(hx:s.ev x=some (.val (.string b))):dz lv P r o s (.val (.int .i64 b.size)):=
 iL (λE V ac hc aF=>by
  have hd:=ap.ev aF hx;generalize hv:ac.eval x=v at hd;cases hd;unfold lC at ht;split at ht<;>cases ht;rename_i hu;unfold execOp;rw[ho];dsimp only;unfold resolve;rw[aY];dsimp only;refine aA (aq ?_);unfold invoke builtin;dsimp only;refine aA ?_;unfold Yl;have e1:(c.args.map ac.eval)[0]?=some (.string b):=by simp[te,hv]
  simp only[CD,e1];refine ej hu ?_;exact aq (aq ⟨rfl,_,rfl,.val _⟩))
theorem aoN{c:Xn}{x:Tm}{t:TypeId}{id:Nat}{es:Array Wn}{ck:Nat}(ho:o.op=.call c)(aY:c.callee=.builtin .len)(te:c.args[0]?=some x)(CD:c.argTypes[0]?=some t)(ht:lC P t=some .map)(hx:s.ev x=some (.mp id))(hk:s.H[id]?=some (.obj (.map es ck))):dz lv P r o s (.val (.int .i64 es.size)):=
 iL (λE V ac hc aF=>by
  have hd:=ap.ev aF hx;generalize hv:ac.eval x=v at hd;cases hd;obtain⟨h1,h2,h3,h4⟩:=hc.obj id _ hk;unfold lC at ht;split at ht<;>cases ht;rename_i hu;unfold execOp;rw[ho];dsimp only;unfold resolve;rw[aY];dsimp only;refine aA (aq ?_);unfold invoke builtin;dsimp only;refine aA ?_;unfold Yl;have e1:(c.args.map ac.eval)[0]?=some (.map (some (E.blk id))):=by simp[te,hv]
  simp only[CD,e1];refine ej hu ?_;refine aA (nR h1 h2 h3 (hc.jf hk rfl).2 (cG ?_));exact aq (aq ⟨rfl,_,rfl,.val _⟩))
theorem acd{t:TypeId}{n off:Nat}{g:Bool}{E:Env}{V:View}{l:List AV}{cs:Array SP}{K:SP->View->Prop}{Kp:SP->View->Prop}(ht:Ty P t=some (n,g))(hd:cH E l cs)(hl:off+n<=l.length)(hn:g=false->0<n)
  (h:∀v,(g=true->ap E (.agg ((l.drop off).take n)) v)->(g=false->∀a,l[off]?=some a->ap E a v)->K v V):aP P V (part t cs off) K Kp:=by
 obtain⟨i,d,h1,h2,rfl,h4⟩:=Ty.out ht;unfold part;refine Di h2 ?_;rw[h4];cases g with
 |true=>
  simp only[if_true];refine jV h1 (aq (h _ (λ_=> .agg (by have:=hd.1;simp;omega) λj a e=> ?_) (by simp)));rw[Uc]at e;split at e
  ·rename_i hj;rw[Um]at e;have:=hd.2 _ _ e;have hlt:off+j<cs.size:=(by rw[hd.1];omega);have akp:j<(cs.extract off (off+i.size)).size:=(by have:=hd.1;simp;omega);rw[SI,SK akp];rw[SI,SK hlt]at this;simpa using this
  ·cases e
 |false=>
  simp only[TN,if_false];have hlt:off<cs.size:=by have:=hn rfl;rw[hd.1];omega
  rw[SK hlt];refine aq (h _ (by simp) λ_ a e=> ?_);have:=hd.2 _ _ e;rwa [SI,SK hlt]at this
def AV.cut (l:List AV)(off n:Nat)(g:Bool):Option AV:=if off+n<=l.length/\(g=false->0<n)then(if g then some (.agg ((l.drop off).take n))else l[off]?)else none
theorem aoI{t:TypeId}{x:Tm}{k off n:Nat}{g:Bool}{l:List AV}{av:AV}(ho:o.op=.field t x k)(ht:HU P t k=some (off,n,g))(hx:s.ev x=some (.agg l))(hv:AV.cut l off n g=some av):dz lv P r o s av:=
 iL (λE V a hc aF=>by
  have hd:=ap.ev aF hx;generalize he:a.eval x=v at hd;cases hd with
  |agg hs h=>
   unfold HU at ht;split at ht
   ·rename_i fs hu;split at ht
    ·rename_i f hf;obtain⟨⟨n',g'⟩,h1,h2⟩:=kY ht;cases h2;unfold AV.cut at hv;split at hv
     ·rename_i xx;unfold execOp;rw[ho];simp only[he];refine aA ?_;unfold Instr.field;refine ej hu ?_;simp only[hf];unfold asAgg;refine aA (aq ?_);refine acd h1 ⟨hs,h⟩ xx.1 xx.2 λv h3 h4=>aq ⟨rfl,v,rfl,?_⟩;cases g' with
      |true=>simp only[if_true,Tn]at hv;subst hv;exact h3 rfl
      |false=>simp only[TN,if_false]at hv;exact h4 rfl _ hv
     ·cases hv
    ·cases ht
   ·cases ht)
theorem aoM{t:TypeId}{x ix:Tm}{n sz:Nat}{g:Bool}{l:List AV}{av:AV}{k:TU}{i:Int}(ho:o.op=.index t x ix)(ht:HN P t=some (n,sz,g))(hx:s.ev x=some (.agg l))(hi:s.ev ix=some (.val (.int k i)))(h0:0<=i)(h1:i<n)(hv:AV.cut l (i.toNat* sz) sz g=some av):dz lv P r o s av:=
 iL (λE V a hc aF=>by
  have hd:=ap.ev aF hx;generalize he:a.eval x=v at hd;have oi:=ap.ev aF hi;generalize J8:a.eval ix=vi at oi;cases oi;cases hd with
  |agg hs h=>
   unfold HN at ht;split at ht
   ·rename_i m e hu;obtain⟨⟨n',g'⟩,h2,h3⟩:=kY ht;cases h3;unfold AV.cut at hv;split at hv
    ·rename_i xx;obtain⟨inf,d,q1,q2,q3,q4⟩:=Ty.out h2;unfold execOp;rw[ho];simp only[he,J8];refine aA ?_;unfold Z5 asIntOf;refine aA (aq ?_);dsimp only;refine ej hu ?_;dsimp only;rw[if_pos ⟨h0,h1⟩];refine jV q1 ?_;rw[q3];refine acd h2 ⟨hs,h⟩ xx.1 xx.2 λv h4 h5=>aq ⟨rfl,v,rfl,?_⟩;cases g' with
     |true=>simp only[if_true,Tn]at hv;subst hv;exact h4 rfl
     |false=>simp only[TN,if_false]at hv;exact h5 rfl _ hv
    ·cases hv
   ·cases ht)
theorem aoL{t:TypeId}{x ix:Tm}{b:ByteArray}{k:TU}{i:Int}{c:UInt8}(ho:o.op=.index t x ix)(ht:lC P t=some .str)(hx:s.ev x=some (.val (.string b)))(hi:s.ev ix=some (.val (.int k i)))(h0:0<=i)(h1:b[i.toNat]?=some c):dz lv P r o s (.val (.int .u8 c.toNat)):=
 iL (λE V a hc aF=>by
  have hd:=ap.ev aF hx;generalize he:a.eval x=v at hd;have oi:=ap.ev aF hi;generalize J8:a.eval ix=vi at oi;cases oi;cases hd;unfold lC at ht;split at ht<;>cases ht;rename_i hu;unfold execOp;rw[ho];simp only[he,J8];refine aA ?_;unfold Z5 asIntOf;refine aA (aq ?_);dsimp only;refine ej hu ?_;dsimp only;rw[if_pos h0,h1];exact aq (aq ⟨rfl,_,rfl,.val _⟩))
theorem Pb{E:Env}{s:AS}{a:Act}(k:cj E s.T a.tmps){l:Array Tm}{aG:List AV}(h:l.toList.mapM s.ev=some aG):cH E aG (l.map a.eval):=by
 have key:∀(l:List Tm)(aG:List AV),l.mapM s.ev=some aG->cH E aG (l.map a.eval).toArray:=by
  intro l;induction l with
  |nil=>intro aG h;simp at h;subst h;exact⟨rfl,by simp⟩
  |cons x l ih=>
   intro aG h;simp only[T8,Uh,TP,Tg,Tn]at h;obtain⟨b,h1,bs,h2,rfl⟩:=h;have:=ih bs h2;refine⟨by have:=this.1;simpa using this,λi c e=> ?_⟩;cases i with
   |zero=>simp at e;subst e;simpa[SI]using ap.ev k h1
   |succ i=>
    simp only[UI]at e;have:=this.2 i c e;simpa[SI]using this
 have:=key l.toList aG h;have e:l.map a.eval=(l.toList.map a.eval).toArray:=by apply VD;simp
 rw[e];exact this
theorem aoS{f:Fn}{first cR:Array Tm}{fa ca:List AV}(ho:o.op=.makeFunc f first cR)(h1:first.toList.mapM s.ev=some fa)(h2:cR.toList.mapM s.ev=some ca):dz lv P r o s (.fn f fa ca):=
 rO (λE V a hc ht=>by
  have d1:=Pb ht h1;have d2:=Pb ht h2;exact⟨_,by unfold execOp;rw[ho];rfl,.fn d1.1 d2.1 d1.2 d2.2⟩)
def mm (P:SJ)(t:TypeId):Option Bool:=(P.underlying t).map λ|.interface _=>true|_=>false
theorem aoT{t:TypeId}{x:Tm}{av:AV}(ho:o.op=.makeInterface t x)(ht:mm P t=some false)(hx:s.ev x=some av):dz lv P r o s (.cZ t av):=
 iL (λE V a hc aF=>by
  obtain⟨d,hu,hd⟩:=kY ht;unfold execOp;rw[ho];dsimp only;refine aA ?_;unfold Instr.makeInterface;refine ej hu ?_;split
  ·cases hd
  ·exact aq (aq ⟨rfl,_,rfl,.cZ (ap.ev aF hx)⟩))
def AI (P:SJ)(src dst:TypeId):Option (Option TU):=(P.underlying src).bind λ_=>match P.underlying dst with
 |some (.int k)=>some (some k)
 |_=>none
theorem aoD{src dst:TypeId}{x:Tm}{k j:TU}{n:Int}(ho:o.op=.convert src dst x)(ht:AI P src dst=some (some k))(hx:s.ev x=some (.val (.int j n))):dz lv P r o s (.val (.int k (k.wrap n))):=
 iL (λE V a hc aF=>by
  have hd:=ap.ev aF hx;generalize he:a.eval x=v at hd;cases hd;unfold AI at ht;obtain⟨d,h1,h2⟩:=Tg.1 ht;split at h2
  ·rename_i k' hu;cases h2;unfold execOp;rw[ho];simp only[he];refine aA ?_;unfold convert;refine ej h1 (ej hu ?_);dsimp only;exact aq (aq ⟨rfl,_,rfl,.val _⟩)
  ·cases h2)
end
open Go.Conc
def Env.add (E:Env)(r:Nat)(I:cx):Env:={E with I:=I,n:=E.n+1,blk:=λk=>if k=E.n then r else E.blk k}
theorem Env.qj(E:Env)(r:Nat){I:cx}(hI:∀b o v,E.I b o=some v->I b o=some v):E.Le (E.add r I):=
 ⟨hI,Y5 _,λk hk=>by simp[Env.add,Wa hk],λ_ _=>SR _,λ_ _ _ _=>rfl,rfl,rfl⟩
def View.ig (V:View)(b:Nat)(cs:Array SP)(p:Nat->Bool):View:={V with ab:=λb' o=>if b'=b/\p o=true then cs[o]?else V.ab b' o}
theorem yZ{V:View}{b:Nat}{cs:Array SP}{el:TypeId}{f:Nat×Nat}{p:Nat->Bool}(ho:V.own b=some (.cells cs el f))(hp:∀o,p o=true->V.ab b o=none):dW V (V.ig b cs p)where
 sat w h:=⟨λb' o v e=>by
   simp only[View.ig]at e;split at e
   ·rename_i hb;obtain⟨rfl,_⟩:=hb;have:=h.own _ _ ho;simpa[Ux,this]using e
   ·exact h.ab _ _ _ e,λb' x e=>h.own b' x e⟩
 own b' e:=e
 ab b' o v e:=by
  have hn:¬(b'=b/\p o=true):=λhb=>by obtain⟨rfl,h2⟩:=hb;rw[hp o h2]at e;cases e
  simp only[View.ig,if_neg hn];exact e
 kI b' o v e:=by
  simp only[View.ig]at e;split at e
  ·rename_i hb;obtain⟨rfl,_⟩:=hb;exact .inr (by rw[ho];simp)
  ·exact .inl e
 deaf:=rfl
 role:=rfl
 chan c x _ h:=h
def View.kj (V:View)(r:Nat)(cs:Array SP):View:={V with ab:=λb o=>if b=r then cs[o]?else V.ab b o}
theorem ajd{V:View}{r:Nat}{cs:Array SP}{el:TypeId}{f:Nat×Nat}(hf:V.fresh r)(hc:V.role.chan≠some r):dW (V.upd r (.cells cs el f)) (V.kj r cs)where
 sat w h:=⟨λb o v e=>by
   simp only[View.kj]at e;split at e
   ·rename_i hb;subst hb;have:=h.own b (.cells cs el f) (by simp[View.upd]);simpa[Ux,this]using e
   ·exact h.ab b o v e,λb x e=>by
   have hb:b≠r:=λhb=>(by subst hb;rw[show (V.kj b cs).own b=V.own b from rfl,hf.1]at e;cases e);have e':V.own b=some x:=e;exact h.own b x (by simpa[View.upd,hb]using e')⟩
 own b e:=by
  simp only[View.upd]at e;split at e
  ·cases e
  ·exact e
 ab b o v e:=by
  have e':V.ab b o=some v:=e;have hb:b≠r:=λhb=>by subst hb;rw[hf.2 o]at e';cases e'
  simpa[View.kj,hb]using e'
 kI b o v e:=by
  simp only[View.kj]at e;split at e
  ·rename_i hb;exact .inr (by simp[View.upd,hb])
  ·exact .inl e
 deaf:=rfl
 role:=rfl
 chan c x hcx h:=by
  have hb:c≠r:=λhb=>by subst hb;exact hc hcx
  have h':V.own c=some x:=by simpa[View.upd,hb]using h
  exact h'
theorem Conc.ai3{E:Env}{V:View}{H:List aa}(hc:Conc E V H){r:Nat}(hf:V.own r=none):V.role.chan≠some r/\V.role.group≠some r:=
 ⟨λe=>(hc.chan r e).1 hf,λe=>(hc.group r e).1 hf⟩
theorem Conc.add{E:Env}{V:View}{H:List aa}(hc:Conc E V H){r:Nat}(hf:V.fresh r)(y:Obj){x:aa}(hx:fH (E.add r V.ab) (V.upd r y) E.n x)(hb:∀b,bM (E.add r V.ab) E.n x=some b->b=r):Conc (E.add r V.ab) (V.upd r y) (H++[x]):=by
 refine hc.iO (E':=E.add r V.ab) H.length x (E.qj r (λb o v h=>by rw[<- hc.I];exact h)) rfl (by simp[Env.add,hc.n]) CZ rfl (λ_ _ _=>rfl) (λb z _ hz=>⟨?_,λ_=>rfl⟩) (by rw[<- hc.n];exact hx) (λb h=> .inr ?_)
 ·have:b≠r:=λe=>by rw[e,hf.1]at hz;cases hz
  simpa[View.upd,this]using hz
 ·rw[<- hc.n]at h;rw[hb b h];exact hf.1
theorem Env.dI(E:Env)(r:Nat)(I:cx):(E.add r I).blk E.n=r:=by simp[Env.add]
theorem Pd{E:Env}{H:List aa}(hn:E.n=H.length)(r:Nat)(I:cx):ap (E.add r I) (.op H.length 0) (.pointer (some ⟨r,0,none⟩)):=by
 have:=ap.op (E:=E.add r I) (id:=H.length) (off:=0) (by show _<E.n+1;rw[hn];omega);have e:(E.add r I).blk H.length=r:=by rw[<- hn];exact E.dI r I
 rwa [e]at this
def AV.parts:AV->Option (List AV)
 |.agg l=>some l
 |.aJ _=>none
 |.val (.agg _)=>none
 |a=>some [a]
theorem ap.parts{E:Env}{a:AV}{v:SP}{l:List AV}(h:ap E a v)(hp:a.parts=some l):cH E l v.cells:=by
 have one:∀a v,ap E a v->v.cells=#[v]->cH E [a] v.cells:=λa v h e=>by
  rw[e];refine⟨rfl,λi x hx=> ?_⟩;have hi:i=0:=by have:=(SM.1 hx).1;simpa using this
  subst hi;simp at hx;subst hx;simpa using h
 cases h with
 |val=>cases v<;>first|(cases hp;exact one _ _ (.val _) rfl)|cases hp
 |agg hs h=>cases hp;exact⟨hs,h⟩
 |aJ hs h=>cases hp
 |sl b o cap f hc he h1 h2=>cases hp;exact one _ _ (.sl b o cap f hc he h1 h2) rfl
 |nil he=>cases hp;exact one _ _ (.nil he) rfl
 |bJ hi dP=>cases hp;exact one _ _ (.bJ hi dP) rfl
 |rp b o f h1 h2=>cases hp;exact one _ _ (.rp b o f h1 h2) rfl
 |op hi=>cases hp;exact one _ _ (.op hi) rfl
 |fn dL fP h1 h2=>cases hp;exact one _ _ (.fn dL fP h1 h2) rfl
 |cZ h=>cases hp;exact one _ _ (.cZ h) rfl
 |mp hi=>cases hp;exact one _ _ (.mp hi) rfl
def eO (P:SJ)(t:TypeId):Option SP:=(P.info? t).bind (·.zero)
def lX (z:SP):List AV:=z.cells.toList.map AV.pj
theorem II(E:Env)(z:SP):cH E (lX z) z.cells:=by
 refine⟨by simp[lX],λi a h=> ?_⟩;unfold lX at h;rw[To]at h;obtain⟨x,hx,rfl⟩:=Ts.1 h;have:z.cells[i]?=some x:=by simpa using hx
 rw[SI,this];exact ID E x
section
variable {P:SJ}{V:View}{α:Type}{K:α->View->Prop}{Kp:SP->View->Prop}
theorem G5{t:TypeId}{z:SP}{k:SP->Sem α}(h:eO P t=some z)(hk:aP P V (k z) K Kp):aP P V (zeroValue t>>=k) K Kp:=by
 unfold eO at h;obtain⟨i,h1,h2⟩:=Tg.1 h;refine aA ?_;unfold zeroValue;refine yk h1 ?_;rw[h2];exact aq hk
end
section
variable {lv:Bool}{P:SJ}{r:Option Nat}{o:Tx}{s:AS}{next:AS->Prop}{bad:AV->AS->Prop}
theorem acM{t:TypeId}{l:List AV}(h:∀(E:Env)(V:View)(a:Act),Conc E V s.H->cj E s.T a.tmps->∃cs,cH E l cs/\aP P V (execOp a.eval o) (λnx V'=>∃rr,V.fresh rr/\V'=V.upd rr (.cells cs t)/\nx=.value (.pointer (some ⟨rr,0,none⟩))) (λ_ _=>False))
  (hn:next ((⟨s.T,s.H++[.cells l t]⟩:AS).put o.dst (.op s.H.length 0))):Step lv P r o s next bad:=by
 intro E V a N Q hc ht hd bx h1 _;obtain⟨cs,oR,qb⟩:=h E V a hc ht;refine⟨bx,qb.mono (λnx V' hx=> ?_) (λ_ _ hx=>hx.elim)⟩;obtain⟨rr,hf,rfl,rfl⟩:=hx;have hle:E.Le (E.add rr V.ab):=E.qj rr (λb o v h=>by rw[<- hc.I];exact h);have bi:Conc (E.add rr V.ab) (V.upd rr (.cells cs t)) (s.H++[.cells l t]):=by
  refine hc.add hf _ ⟨⟨cs,?_,oR.mono hle⟩,λo=> ?_⟩ (λb e=> ?_)
  ·rw[Env.dI];simp[View.upd]
  ·rw[Env.dI];exact hf.2 o
  ·simp only[bM,Env.dI,Tn]at e;exact e.symm
 exact h1 _ _ (a.put o.dst (.pointer (some ⟨rr,0,none⟩))) ((⟨s.T,s.H++[.cells l t]⟩:AS).put o.dst (.op s.H.length 0)) ⟨hle,d_ _ _ _,put_defers _ _ _,rfl,rfl⟩ (by rw[fl];exact bi)
  (cj.gQ (s:=⟨s.T,s.H++[.cells l t]⟩) (ht.mono hle) hd (Pd hc.n rr V.ab)) hn
theorem acI{t:TypeId}{x:Tm}{av:AV}{l:List AV}(ho:o.op=.box t x)(hx:s.ev x=some av)(hl:av.parts=some l)(hn:next ((⟨s.T,s.H++[.cells l t]⟩:AS).put o.dst (.op s.H.length 0))):Step lv P r o s next bad:=
 acM (λE V a hc ht=>⟨(a.eval x).cells,(ap.ev ht hx).parts hl,by
  unfold execOp;rw[ho];dsimp only;refine aA ?_;unfold Instr.box newVar newRow;refine aA (aA (aA (oB λrr hf=>cG (aq (aq (aq (aq ⟨rr,hf,rfl,rfl⟩)))))))⟩) hn
theorem acF{t:TypeId}{z:SP}(ho:o.op=.alloc t)(hz:eO P t=some z)(hn:next ((⟨s.T,s.H++[.cells (lX z) t]⟩:AS).put o.dst (.op s.H.length 0))):Step lv P r o s next bad:=
 acM (λE V a hc ht=>⟨z.cells,II E z,by
  unfold execOp;rw[ho];dsimp only;refine aA ?_;unfold Instr.alloc;refine G5 hz ?_;unfold newVar newRow;refine aA (aA (aA (oB λrr hf=>cG (aq (aq (aq (aq ⟨rr,hf,rfl,rfl⟩)))))))⟩) hn
theorem aqL{t:TypeId}(ho:o.op=.makeMap t none)(hn:next ((⟨s.T,s.H++[.obj (.map #[] 0)]⟩:AS).put o.dst (.mp s.H.length))):Step lv P r o s next bad:=by
 intro E V a N Q hc ht hd bx h1 _;refine⟨bx,?_⟩;unfold execOp;rw[ho];dsimp only;refine aA ?_;unfold Instr.makeMap;refine aA (oB λrr hf=>cG (aq (aq ?_)));have hle:E.Le (E.add rr V.ab):=E.qj rr (λb o v h=>by rw[<- hc.I];exact h);have bi:Conc (E.add rr V.ab) (V.upd rr (.map #[] 0)) (s.H++[.obj (.map #[] 0)]):=by
  refine hc.add hf _ ⟨?_,rfl,rfl,λo=> ?_⟩ (λb e=> ?_)
  ·rw[Env.dI];simp[View.upd]
  ·rw[Env.dI];exact hf.2 o
  ·simp only[bM,Env.dI,Tn]at e;exact e.symm
 have bk:ap (E.add rr V.ab) (.mp s.H.length) (.map (some rr)):=by
  have:=ap.mp (E:=E.add rr V.ab) (id:=s.H.length) (by show _<E.n+1;rw[hc.n];omega);have e:(E.add rr V.ab).blk s.H.length=rr:=by rw[<- hc.n];exact E.dI rr _
  rwa [e]at this
 exact h1 _ _ (a.put o.dst (.map (some rr))) ((⟨s.T,s.H++[.obj (.map #[] 0)]⟩:AS).put o.dst (.mp s.H.length)) ⟨hle,d_ _ _ _,put_defers _ _ _,rfl,rfl⟩ (by rw[fl];exact bi)
  (cj.gQ (s:=⟨s.T,s.H++[.obj (.map #[] 0)]⟩) (ht.mono hle) hd bk) hn
end
def storeAt:Array SP->Nat->List SP->Array SP
 |cs,_,[]=>cs
 |cs,o,v::vs=>storeAt (cs.setIfInBounds o v) (o+1) vs
theorem ym:∀(vs:List SP)(cs:Array SP)(o:Nat),(storeAt cs o vs).size=cs.size
 |[],_,_=>rfl
 |v::vs,cs,o=>by rw[storeAt,ym];simp
theorem Do:∀(vs:List SP)(cs:Array SP)(o k:Nat),o+vs.length<=cs.size->(storeAt cs o vs).getD k undef=if o<=k/\k<o+vs.length then vs.getD (k-o) undef else cs.getD k undef
 |[],cs,o,k,_=>by
  have:¬(o<=k/\k<o+([]:List SP).length):=by intro h;simp only[UQ]at h;omega
  rw[if_neg this];rfl
 |v::vs,cs,o,k,h=>by
  simp only[Ui]at h;rw[storeAt,Do vs _ (o+1) k (by simp;omega)];by_cases h1:k=o
  ·subst h1;rw[if_neg (by omega),if_pos (by simp)];simp[SI,S_ (show k<cs.size by omega)]
  ·by_cases h2:o+1<=k/\k<o+1+vs.length
   ·rw[if_pos h2,if_pos (by simp only[Ui];omega)];have:k-o=(k-(o+1))+1:=(by omega);rw[this];simp[SE]
   ·rw[if_neg h2,if_neg (by simp only[Ui];omega)];simp[SI,SV (Ne.symm h1)]
theorem arN(V:View)(b:Nat)(x y:Obj):(V.upd b x).upd b y=V.upd b y:=by
 unfold View.upd;congr 1;funext k;dsimp only;split<;>rfl
theorem arO{V:View}{b:Nat}{x:Obj}(h:V.own b=some x):V.upd b x=V:=by
 unfold View.upd;have:(λk=>if k=b then some x else V.own k)=V.own:=by
  funext k;split
  ·rename_i e;subst e;rw[h]
  ·rfl
 rw[this]
section
variable {P:SJ}{K:Unit->View->Prop}{Kp:SP->View->Prop}{b off:Nat}{el:TypeId}
theorem Au:∀(vs:List SP)(i:Nat)(V:View)(cs:Array SP),V.role.group≠some b->V.role.chan≠some b->V.own b=some (.cells cs el (0,0))->(∀o,off+i<=o->o<off+i+vs.length->V.ab b o=none)->off+i+vs.length<=cs.size->(∀v∈vs,v.one=true)->
  K () (V.upd b (.cells (storeAt cs (off+i) vs) el (0,0)))->aP P V (storeCells ⟨b,off,none⟩ vs i) K Kp
 |[],i,V,cs,hg,hc,ho,hi,hl,hv,h=>by
  unfold storeCells;rw[show storeAt cs (off+i) []=cs from rfl,arO ho]at h;exact aq h
 |v::vs,i,V,cs,hg,hc,ho,hi,hl,hv,h=>by
  unfold storeCells;rw[add_plain];simp only[Ui]at hl hi;refine aA (ap7 ho (by omega) (hi _ (by omega) (by omega)) (hv v (TD ..)) (by omega) (.inl hg) hc (cG ?_));refine Au vs (i+1) (V.upd b (.cells (cs.setIfInBounds (off+i) v) el (0,0))) (cs.setIfInBounds (off+i) v) hg hc (by simp[View.upd]) (λo h1 h2=>hi o (by omega) (by omega)) (by simp;omega) (λx hx=>hv x (Tb _ hx)) ?_;rw[arN];exact h
end
theorem Conc.set{E:Env}{V:View}{H:List aa}(hc:Conc E V H){id:Nat}{l l':List AV}{el:TypeId}(hk:H[id]?=some (.cells l el)){eP:Array SP}(hd:cH E l' eP):Conc E (V.upd (E.blk id) (.cells eP el (0,0))) (H.set id (.cells l' el)):=by
 obtain⟨⟨cs,h1,_⟩,h3⟩:=hc.obj id _ hk;refine hc.iO id (.cells l' el) (Env.Le.refl E) hc.I (by simpa using hc.n) lS rfl (λ_ _ _=>rfl) (λb y hb hy=>⟨?_,λ_=>rfl⟩) ⟨⟨eP,by simp[View.upd],hd⟩,h3⟩ (λb h=> .inl ⟨_,hk,h⟩);have:b≠E.blk id:=λe=>hb _ hk (by rw[e];rfl);simpa[View.upd,this]using hy
theorem acP:∀(vs:List SP)(cs:Array SP)(off o:Nat),o<off->(storeAt cs off vs)[o]?=cs[o]?
 |[],_,_,_,_=>rfl
 |v::vs,cs,off,o,h=>by
  rw[storeAt,acP vs _ (off+1) o (by omega),SV (by omega)]
theorem Conc.Dk{E:Env}{V:View}{H:List aa}(hc:Conc E V H){id p:Nat}{l l':List AV}{el:TypeId}(hk:H[id]?=some (.part p l el)){cs eP:Array SP}(h1:V.own (E.blk id)=some (.cells cs el (0,0)))(hd:jX E l' eP)(hs:∀o,o<p->eP[o]?=cs[o]?):Conc E (V.upd (E.blk id) (.cells eP el (0,0))) (H.set id (.part p l' el)):=by
 obtain⟨⟨yP,q1,_,q2⟩,h3⟩:=hc.obj id _ hk;rw[h1]at q1;cases q1;refine hc.iO id (.part p l' el) (Env.Le.refl E) hc.I (by simpa using hc.n) lS rfl (λ_ _ _=>rfl) (λb y hb hy=>⟨?_,λ_=>rfl⟩) ⟨⟨eP,by simp[View.upd],hd,λo ho=>(q2 o ho).trans (hs o ho).symm⟩,h3⟩ (λb h=> .inl ⟨_,hk,h⟩);have:b≠E.blk id:=λe=>hb _ hk (by rw[e];rfl);simpa[View.upd,this]using hy
theorem Conc.acl{E:Env}{V:View}{H:List aa}(hc:Conc E V H){id sz:Nat}{l l':List AV}{el:TypeId}(hk:H[id]?=some (.own sz l el)){eP:Array SP}(hd:jX E l' eP)(hz:eP.size=(E.room id 0).2* sz):Conc E (V.upd (E.blk id) (.cells eP el (0,0))) (H.set id (.own sz l' el)):=by
 obtain⟨⟨cs,h1,_⟩,h3⟩:=hc.obj id _ hk;refine hc.iO id (.own sz l' el) (Env.Le.refl E) hc.I (by simpa using hc.n) lS rfl (λ_ _ _=>rfl) (λb y hb hy=>⟨?_,λ_=>rfl⟩) ⟨⟨eP,by simp[View.upd],hd,hz⟩,h3⟩ (λb h=> .inl ⟨_,hk,h⟩);have:b≠E.blk id:=λe=>hb _ hk (by rw[e];rfl);simpa[View.upd,this]using hy
theorem Conc.setObj{E:Env}{V:View}{H:List aa}(hc:Conc E V H){id:Nat}{x y:Obj}(hk:H[id]?=some (.obj x))(h1:y.uF=false)(h2:y.isChan=false):Conc E (V.upd (E.blk id) y) (H.set id (.obj y)):=by
 obtain⟨p1,p2,p3,p4⟩:=hc.obj id _ hk;refine hc.iO id (.obj y) (Env.Le.refl E) hc.I (by simpa using hc.n) lS rfl (λ_ _ _=>rfl) (λb z hb hz=>⟨?_,λ_=>rfl⟩) ⟨by simp[View.upd],h1,h2,p4⟩ (λb h=> .inl ⟨_,hk,h⟩);have:b≠E.blk id:=λe=>hb _ hk (by rw[e];rfl);simpa[View.upd,this]using hz
theorem ami{E:Env}{a:AV}{v:SP}(h:ap E a v)(hl:a.leaf=true):v.one=true:=by
 cases h with
 |val x=>exact hl
 |agg _ _=>cases hl
 |aJ _ _=>cases hl
 |_=>rfl
def iy (l:List AV)(off:Nat)(lp:List AV):List AV:=l.take off++lp++l.drop (off+lp.length)
theorem IG{E:Env}{l lp:List AV}{cs vs:Array SP}{off:Nat}(h:cH E l cs)(k:cH E lp vs)(hl:off+lp.length<=l.length):cH E (iy l off lp) (storeAt cs off vs.toList):=by
 have hv:vs.toList.length=lp.length:=by simpa using k.1
 refine⟨by rw[ym,h.1];simp[iy];omega,λi a e=> ?_⟩;rw[Do _ _ _ _ (by rw[h.1,hv];exact hl),hv];unfold iy at e;by_cases h1:i<off
 ·rw[if_neg (by omega)];rw[SD,SX (by simp;omega),Uc,if_pos h1]at e;exact h.2 i a e
 ·by_cases h2:i<off+lp.length
  ·rw[if_pos ⟨by omega,h2⟩];rw[SX (by simp;omega),Th (by simp;omega)]at e;have e':lp[i-off]?=some a:=by
    have:min off l.length=off:=(by omega);simpa[this]using e
   have:=k.2 _ a e';simpa[SI,SE]using this
  ·rw[if_neg (by omega)];rw[Th (by simp;omega),Um]at e;have e':l[i]?=some a:=by
    have h3:off+lp.length+(i-(l.take off++lp).length)=i:=(by simp;omega);rw[h3]at e;exact e
   exact h.2 i a e'
theorem Pj{E:Env}{l lp:List AV}{cs vs:Array SP}{off:Nat}(h:jX E l cs)(k:cH E lp vs)(hl:off+lp.length<=l.length):jX E (iy l off lp) (storeAt cs off vs.toList):=by
 have hv:vs.toList.length=lp.length:=by simpa using k.1
 refine⟨by rw[ym];have:=h.1;simp[iy];omega,λi a e=> ?_⟩;rw[Do _ _ _ _ (by have:=h.1;rw[hv];omega),hv];unfold iy at e;by_cases h1:i<off
 ·rw[if_neg (by omega)];rw[SD,SX (by simp;omega),Uc,if_pos h1]at e;exact h.2 i a e
 ·by_cases h2:i<off+lp.length
  ·rw[if_pos ⟨by omega,h2⟩];rw[SX (by simp;omega),Th (by simp;omega)]at e;have e':lp[i-off]?=some a:=by
    have:min off l.length=off:=(by omega);simpa[this]using e
   have:=k.2 _ a e';simpa[SI,SE]using this
  ·rw[if_neg (by omega)];rw[Th (by simp;omega),Um]at e;have e':l[i]?=some a:=by
    have h3:off+lp.length+(i-(l.take off++lp).length)=i:=(by simp;omega);rw[h3]at e;exact e
   exact h.2 i a e'
theorem Bx{E:Env}{lp:List AV}{vs:Array SP}(h:cH E lp vs)(nB:∀a∈lp,a.leaf=true):∀v∈vs.toList,v.one=true:=by
 intro v hv;obtain⟨j,hj⟩:=UO.1 hv;have fi:j<lp.length:=by have:=(SM.1 hj).1;have:=h.1;simp at*;omega
 have:=h.2 j lp[j] (SQ fi);have im:vs[j]?=some v:=by simpa using hj
 rw[SI,im]at this;exact ami this (nB _ (VQ fi))
section
variable {lv:Bool}{P:SJ}{r:Option Nat}{o:Tx}{s:AS}{next:AS->Prop}{bad:AV->AS->Prop}
theorem acN{t:TypeId}{x y:Tm}{id off n:Nat}{l lp:List AV}{el:TypeId}{g:Bool}{av:AV}(ho:o.op=.store t x y)(ht:Ty P t=some (n,g))(hx:s.ev x=some (.op id off))(hk:s.H[id]?=some (.cells l el))(hy:s.ev y=some av)(hp:av.parts=some lp)(kD:lp.length=n)(hl:off+lp.length<=l.length)
  (nB:∀a∈lp,a.leaf=true) (hn:next ((⟨s.T,s.H.set id (.cells (iy l off lp) el)⟩:AS).put o.dst (.val undef))):Step lv P r o s next bad:=by
 intro E V a N Q hc aF hd bx h1 _;obtain⟨i,d,q1,q2,rfl,q4⟩:=Ty.out ht;have du:=ap.ev aF hx;generalize ki:a.eval x=vx at du;cases du with
 |op cg=>
  have bk:=(ap.ev aF hy).parts hp;obtain⟨⟨cs,p1,p2⟩,p3⟩:=hc.obj id _ hk;obtain⟨g1,g2⟩:=hc.jf hk rfl;refine⟨bx,?_⟩;unfold execOp;rw[ho];simp only[ki];refine aA ?_;unfold Yi U9;refine aA (aq ?_);unfold storeVar;refine jV q1 ?_;rw[if_neg (by rw[bk.1,kD];simp)];refine Au _ 0 V cs g1 g2 p1 (λo _ _=>p3 o) (by have:=bk.1;have:=p2.1;simp;omega) (Bx bk nB) ?_;rw[UK];exact aq (h1 E _ (a.put o.dst undef) _ ⟨Env.Le.refl E,d_ _ _ _,put_defers _ _ _,rfl,rfl⟩ (by rw[fl];exact hc.set hk (IG p2 bk hl))
   (cj.gQ (s:=⟨s.T,s.H.set id (.cells (iy l off lp) el)⟩) aF hd (.val undef)) hn)
theorem aqR{t:TypeId}{x y:Tm}{id off n p:Nat}{l lp:List AV}{el:TypeId}{g:Bool}{av:AV}(ho:o.op=.store t x y)(ht:Ty P t=some (n,g))(hx:s.ev x=some (.op id off))(hk:s.H[id]?=some (.part p l el))(hpo:p<=off)(hy:s.ev y=some av)(hp:av.parts=some lp)(kD:lp.length=n)(hl:off+lp.length<=l.length)
  (nB:∀a∈lp,a.leaf=true) (hn:next ((⟨s.T,s.H.set id (.part p (iy l off lp) el)⟩:AS).put o.dst (.val undef))):Step lv P r o s next bad:=by
 intro E V a N Q hc aF hd bx h1 _;obtain⟨i,d,q1,q2,rfl,q4⟩:=Ty.out ht;have du:=ap.ev aF hx;generalize ki:a.eval x=vx at du;cases du with
 |op cg=>
  have bk:=(ap.ev aF hy).parts hp;obtain⟨⟨cs,p1,p2,p4⟩,p3⟩:=hc.obj id _ hk;obtain⟨g1,g2⟩:=hc.jf hk rfl;refine⟨bx,?_⟩;unfold execOp;rw[ho];simp only[ki];refine aA ?_;unfold Yi U9;refine aA (aq ?_);unfold storeVar;refine jV q1 ?_;rw[if_neg (by rw[bk.1,kD];simp)];refine Au _ 0 V cs g1 g2 p1 (λo _ _=>p3 o (by omega)) (by have:=bk.1;have:=p2.1;simp;omega) (Bx bk nB) ?_;rw[UK];exact aq (h1 E _ (a.put o.dst undef) _ ⟨Env.Le.refl E,d_ _ _ _,put_defers _ _ _,rfl,rfl⟩ (by rw[fl];exact hc.Dk hk p1 (Pj p2 bk hl) λo ho=>acP _ _ _ _ (by omega))
   (cj.gQ (s:=⟨s.T,s.H.set id (.part p (iy l off lp) el)⟩) aF hd (.val undef)) hn)
theorem acO{t:TypeId}{x y:Tm}{id off n p:Nat}{l lp:List AV}{el:TypeId}{g:Bool}{av:AV}(ho:o.op=.store t x y)(ht:Ty P t=some (n,g))(hx:s.ev x=some (.op id off))(hk:s.H[id]?=some (.own p l el))(hy:s.ev y=some av)(hp:av.parts=some lp)(kD:lp.length=n)(hl:off+lp.length<=l.length)
  (nB:∀a∈lp,a.leaf=true) (hn:next ((⟨s.T,s.H.set id (.own p (iy l off lp) el)⟩:AS).put o.dst (.val undef))):Step lv P r o s next bad:=by
 intro E V a N Q hc aF hd bx h1 _;obtain⟨i,d,q1,q2,rfl,q4⟩:=Ty.out ht;have du:=ap.ev aF hx;generalize ki:a.eval x=vx at du;cases du with
 |op cg=>
  have bk:=(ap.ev aF hy).parts hp;obtain⟨⟨cs,p1,p2,p4⟩,p3⟩:=hc.obj id _ hk;obtain⟨g1,g2⟩:=hc.jf hk rfl;refine⟨bx,?_⟩;unfold execOp;rw[ho];simp only[ki];refine aA ?_;unfold Yi U9;refine aA (aq ?_);unfold storeVar;refine jV q1 ?_;rw[if_neg (by rw[bk.1,kD];simp)];refine Au _ 0 V cs g1 g2 p1 (λo _ _=>p3 o) (by have:=bk.1;have:=p2.1;simp;omega) (Bx bk nB) ?_;rw[UK];exact aq (h1 E _ (a.put o.dst undef) _ ⟨Env.Le.refl E,d_ _ _ _,put_defers _ _ _,rfl,rfl⟩ (by rw[fl];exact hc.acl hk (Pj p2 bk hl) (by rw[ym];exact p4))
   (cj.gQ (s:=⟨s.T,s.H.set id (.own p (iy l off lp) el)⟩) aF hd (.val undef)) hn)
theorem Conc.kj{E:Env}{V:View}{H:List aa}(hc:Conc E V H){r:Nat}(hf:V.fresh r)(cs:Array SP):E.Le {E with I:=(V.kj r cs).ab}/\Conc {E with I:=(V.kj r cs).ab} (V.kj r cs) H:=by
 have hle:E.Le {E with I:=(V.kj r cs).ab}:=⟨λb o v h=>by
  rw[hc.I]at h;have hb:b≠r:=λhb=>by subst hb;rw[hf.2 o]at h;cases h
  simpa[View.kj,hb]using h,SR _,λ_ _=>rfl,λ_ _=>SR _,λ_ _ _ _=>rfl,rfl,rfl⟩
 have hlt:∀(k:Nat) y,H[k]?=some y->k<E.n:=λk y h=>by rw[hc.n];exact(SM.1 h).1
 refine⟨hle,rfl,hc.n,λk x h=>(hc.obj k x h).mono hle (hlt k x h) rfl (λb y _ hb=>hb) (λb hb o=> ?_),hc.inj,λg hg=> ?_,λg hg=> ?_,hc.top,λb y hg=> ?_⟩
 ·obtain⟨y,hy⟩:=(hc.obj k x h).Bn hb;have aE:b≠r:=λe=>by subst e;rw[hf.1]at hy;cases hy
  simp[View.kj,aE]
 ·obtain⟨h0,h1,h2⟩:=hc.group g hg;have aE:g≠r:=λe=>by subst e;exact h0 hf.1
  exact⟨h0,λo=>by simp[View.kj,aE,h1 o],h2⟩
 ·obtain⟨h0,h1,h2⟩:=hc.chan g hg;have aE:g≠r:=λe=>by subst e;exact h0 hf.1
  exact⟨h0,λo=>by simp[View.kj,aE,h1 o],h2⟩
 ·obtain⟨h0,h1,h2⟩:=hc.fr b y hg;have aE:b≠r:=λe=>by subst e;rw[hf.1]at h0;cases h0
  exact⟨h0,λo=>by simp[View.kj,aE,h1 o],h2⟩
theorem ap.aoq{E:Env}{V:View}{H:List aa}(hc:Conc E V H){r:Nat}(hf:V.fresh r){cs:Array SP}{l:List AV}(h:cH E l cs){n cap:Nat}(dP:n<=cap){e:End}(he:pu {E with I:=(V.kj r cs).ab} e (some ⟨r,0,none⟩) n cap):ap {E with I:=(V.kj r cs).ab} (.sl n l e) (.slice (some ⟨r,0,none⟩) n cap):=by
 refine .sl r 0 cap (λi=>cs.getD i undef) dP he (λi hi=> ?_) λi x hx=>(h.2 i x hx).mono (hc.kj hf cs).1;have hlt:i<cs.size:=by rw[h.1];exact hi
 simp[View.kj,SI,SK hlt]
def n5 (place:Nat->Option (Nat×Nat))(cells:List AV):List (Nat×AV)->Option (List AV)
 |[]=>some cells
 |(i,a)::rest=>match place i,a.parts with
  |some (off,size),some lp=>if lp.length≠size\/off+lp.length>cells.length then none else n5 place (iy cells off lp) rest
  |_,_=>none
theorem Qn:∀(vs:List SP)(k off:Nat)(cs:Array SP),(vs.zipIdx k).foldl (λ(cs:Array SP) (x:SP×Nat)=>cs.setIfInBounds (off+x.2) x.1) cs=storeAt cs (off+k) vs
 |[],_,_,_=>rfl
 |v::vs,k,off,cs=>by
  rw[List.zipIdx_cons,UR,Qn vs (k+1) off];rfl
theorem BB{E:Env}{place:Nat->Option (Nat×Nat)}:∀{parts:List (Nat×AV)}{vs:List (Nat×SP)}{l l':List AV}{cs:Array SP},cH E l cs->parts.length=vs.length->(∀(j:Nat) p q,parts[j]?=some p->vs[j]?=some q->p.1=q.1/\ap E p.2 q.2)->
  n5 place l parts=some l'->∃eP,ab' place cs vs=some eP/\cH E l' eP
 |[],[],l,l',cs,h,_,_,e=>by cases e;exact⟨cs,rfl,h⟩
 |[],_::_,_,_,_,_,h,_,_=>by simp at h
 |_::_,[],_,_,_,_,h,_,_=>by simp at h
 |(i,a)::parts,(i',v)::vs,l,l',cs,h,hl,hp,e=>by
  obtain⟨e1,hd⟩:=hp 0 (i,a) (i',v) rfl rfl;have e1':i=i':=e1;subst e1';simp only[n5]at e;split at e
  ·rename_i off size lp cO KO;split at e
   ·cases e
   ·rename_i hc;have bk:=ap.parts (v:=v) hd KO;have aV:v.cells.size=lp.length:=bk.1;have hle:off+lp.length<=l.length:=(by omega);obtain⟨eP,h1,h2⟩:=BB (IG h bk hle) (by simpa using hl) (λj p q x y=>hp (j+1) p q (by simpa using x) (by simpa using y)) e;refine⟨eP,?_,h2⟩;unfold ab';rw[cO];simp only;rw[if_neg (by rw[aV,h.1];simp;omega)];have:=Qn v.cells.toList 0 off cs;rw[UK]at this;rw[<- h1,<- this];congr 1;rw[<- Array.toList_zipIdx,Array.foldl_toList]
  ·cases e
def j4 (s:AS):List (Nat×Tm)->Option (List (Nat×AV))
 |[]=>some []
 |(i,x)::l=>match s.ev x,j4 s l with
  |some a,some aG=>some ((i,a)::aG)
  |_,_=>none
theorem EA{E:Env}{s:AS}{a:Act}(k:cj E s.T a.tmps):∀{l:List (Nat×Tm)}{aG:List (Nat×AV)},j4 s l=some aG->aG.length=(l.map λ(i,x)=>(i,a.eval x)).length/\∀(j:Nat) p q,aG[j]?=some p->(l.map λ(i,x)=>(i,a.eval x))[j]?=some q->p.1=q.1/\ap E p.2 q.2
 |[],aG,h=>by cases h;exact⟨rfl,by simp⟩
 |(i,x)::l,aG,h=>by
  simp only[j4]at h;split at h
  ·rename_i av l7 h1 h2;cases h;obtain⟨mQ,lx⟩:=EA k h2;refine⟨by simpa using mQ,λj p q e1 e2=> ?_⟩;cases j with
   |zero=>simp at e1 e2;subst e1 e2;exact⟨rfl,ap.ev k h1⟩
   |succ j=>exact lx j p q (by simpa using e1) (by simpa using e2)
  ·cases h
def qH (P:SJ)(t:TypeId):Option (TypeId×Nat×SP):=match P.underlying t with
 |some (.slice e)=>(P.info? e).bind λi=>i.zero.map λz=>(e,i.size,z)
 |_=>none
def gI (z:SP)(m:Nat):List AV:=(SZ m).map λi=>AV.pj (z.cells[i % z.cells.size]!)
inductive ik where
 |fields (l:List (Nat×Nat))
 |elems (sz:Nat)
def ik.at:ik->Nat->Option (Nat×Nat)
 |.fields l,i=>l[i]?
 |.elems sz,i=>some (i* sz,sz)
def oF (P:SJ)(t:TypeId):Option (ik×SP):=(eO P t).bind λz=>match P.underlying t with
 |some (.struct fs)=>(fs.toList.mapM λf=>(P.info? f.type).map λi=>(f.offset,i.size)).map λl=>(.fields l,z)
 |some (.array _ e)=>(P.info? e).map λi=>(.elems i.size,z)
 |_=>none
theorem ace{P:SJ}{V:View}{Kp:SP->View->Prop}:∀(fs:List Y1)(l:List (Nat×Nat)){K:List (Nat×Nat)->View->Prop},fs.mapM (λf=>(P.info? f.type).map λi=>(f.offset,i.size))=some l->
  K l V->aP P V (fs.mapM λf=>(do pure (f.offset,<- sizeOf f.type):Sem (Nat×Nat))) K Kp
 |[],l,K,h,hk=>by
  simp at h;subst h;rw[UA];exact aq hk
 |f::fs,l,K,h,hk=>by
  simp only[T8,Uh,TP,Tg,Tn]at h;obtain⟨b,h1,bs,h2,rfl⟩:=h;obtain⟨i,hi,rfl⟩:=kY h1;rw[T8];exact aA (jV hi (aq (aA (ace fs bs h2 (aq hk)))))
theorem aoB{t:TypeId}{parts:Array (Nat×Tm)}{pl:ik}{z:SP}{aG:List (Nat×AV)}{l:List AV}(ho:o.op=.build t parts)(ht:oF P t=some (pl,z))(hp:j4 s parts.toList=some aG)
  (hl:n5 pl.at (lX z) aG=some l):dz lv P r o s (.agg l):=
 iL (λE V a hc aF=>by
  unfold oF at ht;obtain⟨z',hz,ht⟩:=Tg.1 ht;obtain⟨hlen,bk⟩:=EA aF hp;unfold execOp;rw[ho];dsimp only;refine aA ?_;unfold Instr.build;refine G5 hz ?_;split at ht
  ·rename_i fs hu;obtain⟨lp,h1,h2⟩:=kY ht;cases h2;obtain⟨eP,nz,uj⟩:=BB (II E z) hlen bk hl;refine ej hu ?_;dsimp only;have e:fs=fs.toList.toArray:=(by simp);rw[e,XX];refine aA ?_;refine aA (ace fs.toList lp h1 ?_);refine aq ?_;rw[VL];have e2:(λx=>lp.toArray[x]?)=ik.at (.fields lp):=(by funext x;simp[ik.at]);rw[e2,nz];exact aq (aq ⟨rfl,_,rfl,.agg uj.1 uj.2⟩)
  ·rename_i n e hu;obtain⟨i,h1,h2⟩:=kY ht;cases h2;obtain⟨eP,nz,uj⟩:=BB (II E z) hlen bk hl;refine ej hu ?_;dsimp only;refine jV h1 ?_;rw[VL];have e2:(λj=>some (j* i.size,i.size))=ik.at (.elems i.size):=rfl;rw[e2,nz];exact aq (aq ⟨rfl,_,rfl,.agg uj.1 uj.2⟩)
  ·cases ht)
theorem IH{E:Env}(z:SP)(m:Nat):cH E (gI z m) ((WL m).map (λx=>z.cells[x % z.cells.size]!)):=by
 refine⟨by simp[gI],λj x hx=> ?_⟩;unfold gI at hx;rw[To]at hx;obtain⟨k,hk,rfl⟩:=Ts.1 hx;have hj:j<m:=by have:=(SM.1 hk).1;simpa using this
 have hmj:k=j:=by rw[Xw hj]at hk;cases hk;rfl
 subst hmj;simp only[SI,WG,Array.getElem?_range,hj,if_true,UM,S8];exact ID E _
theorem aoC{t e:TypeId}{len sz:Nat}{z:SP}{parts:Array (Nat×Tm)}{aG:List (Nat×AV)}{l:List AV}(ho:o.op=.buildSlice t len parts)(ht:qH P t=some (e,sz,z))(aV:len* sz<=2^24)(hp:j4 s parts.toList=some aG)
  (hl:n5 (ik.at (.elems sz)) (gI z (len* sz)) aG=some l):dz lv P r o s (.sl len l .exact):=by
 intro E V a N Q hc aF bx h1;unfold qH at ht;split at ht
 ·rename_i e' hu;obtain⟨i,hi,ht⟩:=Tg.1 ht;obtain⟨z',hz,ht⟩:=Ts.1 ht;cases ht;refine⟨bx,?_⟩;unfold execOp;rw[ho];dsimp only;refine aA ?_;unfold Instr.buildSlice;refine ej hu ?_;dsimp only;refine jV hi ?_;rw[if_neg (by omega)];obtain⟨hlen,bk⟩:=EA aF hp;obtain⟨eP,nz,uj⟩:=BB (IH (E:=E) z (len* i.size)) hlen bk hl;have fin:∀(rr:Nat),V.fresh rr->aP P (V.upd rr (.cells eP e)) (pure (W5 (.slice (some ⟨rr,0,none⟩) len len))) (mE lv P r o a N Q) (λv V'=>Q (.panic [{v,recovered:=false}]) a V'):=λrr hf=>
   aP.ghost (ajd hf (hc.ai3 hf.1).1) (aq (h1 _ _ _ (hc.kj hf eP).1 rfl rfl (hc.kj hf eP).2 (ap.aoq hc hf uj (SR _) rfl)))
  have e2:(λj=>some (j* i.size,i.size))=ik.at (.elems i.size):=rfl;rw[e2];by_cases h0:len* i.size=0
  ·rw[if_pos h0];refine aA (aq ?_);rw[h0]at nz⊢;rw[show WL 0=#[]from rfl]at nz⊢;simp only[List.map_toArray,List.map_nil,VL]at nz⊢;rw[nz];unfold newRow;exact aA (aA (aA (oB λrr hf=>cG (aq (aq (aq (fin rr hf)))))))
  ·rw[if_neg h0];refine aA (aA ?_);unfold typeInfo;refine aA (qq (cG ?_));rw[hi];refine aq ?_;rw[hz];refine aq (aA (aq ?_));rw[VL,nz];unfold newRow;exact aA (aA (aA (oB λrr hf=>cG (aq (aq (aq (fin rr hf)))))))
 ·cases ht
end
open Go.Conc
def aa7 (P:SJ)(t:TypeId):Bool:=match P.underlying t with
 |some (.int _)=>false
 |some _=>true
 |none=>false
def jK (P:SJ)(t t':TypeId):Option (TypeId×Nat×SP):=match P.underlying t with
 |some (.slice e)=>(P.info? e).bind λi=>i.zero.bind λz=>if z.cells.size=i.size/\i.bytes<=2^16/\i.bytes≠0/\aa7 P t'=true then some (e,i.size,z)else none
 |_=>none
theorem jK.out{P:SJ}{t t' e:TypeId}{sz:Nat}{z:SP}(h:jK P t t'=some (e,sz,z)):∃i d,P.underlying t=some (.slice e)/\P.info? e=some i/\i.zero=some z/\i.size=sz/\z.cells.size=sz/\i.bytes<=2^16/\i.bytes≠0/\P.underlying t'=some d/\(∀k,d≠ .int k):=by
 unfold jK at h;split at h
 ·rename_i e' hu;obtain⟨i,h1,h⟩:=Tg.1 h;obtain⟨z',h2,h⟩:=Tg.1 h;split at h
  ·rename_i hc;obtain⟨c1,c2,c3,c4⟩:=hc;cases h;unfold aa7 at c4;split at c4
   ·cases c4
   ·rename_i d hd aE;exact⟨i,d,hu,h1,h2,rfl,c1,c2,c3,aE,λk e=>hd k e⟩
   ·cases c4
  ·cases h
 ·cases h
def AS.src (s:AS)(sz:Nat):AV->Option (Nat×List AV)
 |.sl m l _=>some (m,l.take (m* sz))
 |.bJ id off m _=>match s.H[id]?with
  |some (.cells l _)|some (.part _ l _)|some (.own _ l _)=>some (m,(l.drop off).take (m* sz))
  |_=>none
 |_=>none
section
variable {P:SJ}{E:Env}{V:View}{s:AS}{K:Array SP->View->Prop}{Kp:SP->View->Prop}
theorem Ev{l:List AV}{f:Nat->SP}{n:Nat}(hn:n<=l.length)(h:∀(i:Nat) x,l[i]?=some x->ap E x (f i)):cH E (l.take n) ((SZ n).map f).toArray:=by
 have:=IF hn h;cases this with
 |agg h1 h2=>exact⟨h1,h2⟩
theorem Dh(hc:Conc E V s.H){av:AV}{v:SP}(hd:ap E av v){sz m k:Nat}{l:List AV}(h:s.src sz av=some (m,l))(hl:l.length=m* sz)(hk:k<=m)(hK:∀cs,cH E (l.take (k* sz)) cs->K cs V):aP P V (Vt sz k v) K Kp:=by
 have hks:k* sz<=m* sz:=Uf _ hk;cases hd with
 |sl b o cap f dP he h1 h2=>
  cases h;rename_i l _;simp only[Ub]at hl;have e:(l.take (m* sz)).take (k* sz)=l.take (k* sz):=by rw[U1];congr 1;omega
  rw[e]at hK;unfold Vt;exact Ar (f:=f) (λhp=>(hc.aai (h1 0 (by omega))).1) (λj hj=>by unfold View.get;rw[<- hc.I,h1 j (by omega)]) (hK _ (Ev (by omega) h2))
 |nil he=>
  cases h;have:k=0:=by omega
  subst this;have hK:=hK #[] ⟨by simp,by simp⟩;unfold Vt;split
  ·rw[Z7];exact aq hK
  ·exact aq hK
  ·rename_i h;cases h
  ·rename_i a _ _ h1 h2 _;cases a with
   |none=>exact(h2 _ _ rfl).elim
   |some x=>exact(h1 _ _ _ rfl).elim
 |bJ hi dP=>
  rename_i id off m' cap cap';simp only[AS.src]at h;cases hq:s.H[id]?with
  |none=>rw[hq]at h;cases h
  |some ob=>
   rw[hq]at h;cases ob with
   |cells l' el=>
    cases h;obtain⟨⟨cs,ho,hs,bk⟩,kC⟩:=hc.obj id _ hq;simp only[Ub,Ul]at hl;have e:((l'.drop off).take (m* sz)).take (k* sz)=(l'.drop off).take (k* sz):=(by rw[U1];congr 1;omega);rw[e]at hK;unfold Vt;refine Ar (f:=λi=>cs.getD (off+i) undef) (λ_=>(hc.jf hq rfl).1) (λj hj=> ?_) (hK _ (Ev (by simp only[Ul];omega) λi x hx=> ?_))
    ·unfold View.get;rw[kC,ho];have hlt:off+j<cs.size:=(by omega);simp only[SI,SK hlt,S8]
    ·rw[Um]at hx;exact bk _ _ hx
   |part p l' el=>
    cases h;obtain⟨⟨cs,ho,⟨hs,bk⟩,nE⟩,kC⟩:=hc.obj id _ hq;simp only[Ub,Ul]at hl;have e:((l'.drop off).take (m* sz)).take (k* sz)=(l'.drop off).take (k* sz):=(by rw[U1];congr 1;omega);rw[e]at hK;unfold Vt;refine Ar (f:=λi=>cs.getD (off+i) undef) (λ_=>(hc.jf hq rfl).1) (λj hj=> ?_) (hK _ (Ev (by simp only[Ul];omega) λi x hx=> ?_))
    ·have hlt:off+j<cs.size:=(by omega);unfold View.get;by_cases hp:off+j<p
     ·rw[nE _ hp];simp only[SI,SK hlt,S8]
     ·rw[kC _ (by omega),ho];simp only[SI,SK hlt,S8]
    ·rw[Um]at hx;exact bk _ _ hx
   |own eD l' el=>
    cases h;obtain⟨⟨cs,ho,⟨hs,bk⟩,_⟩,kC⟩:=hc.obj id _ hq;simp only[Ub,Ul]at hl;have e:((l'.drop off).take (m* sz)).take (k* sz)=(l'.drop off).take (k* sz):=(by rw[U1];congr 1;omega);rw[e]at hK;unfold Vt;refine Ar (f:=λi=>cs.getD (off+i) undef) (λ_=>(hc.jf hq rfl).1) (λj hj=> ?_) (hK _ (Ev (by simp only[Ul];omega) λi x hx=> ?_))
    ·have hlt:off+j<cs.size:=(by omega);unfold View.get;rw[kC,ho];simp only[SI,SK hlt,S8]
    ·rw[Um]at hx;exact bk _ _ hx
   |_=>cases h
 |_=>cases h
theorem G9{av:AV}{v:SP}(hd:ap E av v){sz m:Nat}{l:List AV}(h:s.src sz av=some (m,l)):at2 v=pure m:=by
 cases hd with
 |sl=>cases h;rfl
 |nil=>cases h;rfl
 |bJ=>
  simp only[AS.src]at h;split at h
  ·cases h;rfl
  ·cases h;rfl
  ·cases h;rfl
  ·cases h
 |_=>cases h
end
theorem QB(uQ:Nat):∀(r c:Nat),c<=2* uQ+200->Zs uQ r c<=2* uQ+200
 |0,c,h=>h
 |r+1,c,h=>by
  unfold Zs;split
  ·exact h
  ·exact QB uQ r _ (by omega)
theorem ann(uQ cap:Nat)(h:cap<uQ):W3 uQ cap<=2* uQ+200:=by
 unfold W3;split
 ·omega
 ·split
  ·omega
  ·exact QB uQ 4 cap (by omega)
theorem Bw{E:Env}{l m:List AV}{x y:Array SP}(h:cH E l x)(k:cH E m y):cH E (l++m) (x++y):=by
 refine⟨by simp[h.1,k.1],λi a e=> ?_⟩;by_cases hi:i<l.length
 ·rw[SX hi]at e;have:=h.2 i a e;rw[SI,X9 (by rw[h.1];exact hi)];rwa [SI]at this
 ·rw[Th (by omega)]at e;have:=k.2 _ a e;rw[SI,X2 (by rw[h.1];omega),h.1];rwa [SI]at this
theorem M4{P:SJ}{V:View}{α:Type}{K:α->View->Prop}{Kp:SP->View->Prop}{b:Bool}{k:Bool->Sem α}(hb:b=false)(h:aP P V (k false) K Kp):aP P V (pure b>>=k) K Kp:=by
 subst hb;exact aA (aq h)
section
variable {P:SJ}{E:Env}{V:View}{s:AS}{K:SP->View->Prop}{Kp:SP->View->Prop}
theorem ab9{n:Nat}{K:Unit->View->Prop}(h:K () V):aP P V (askRoom n) K Kp:=by
 unfold askRoom;split
 ·exact ap4 (cG h)
 ·exact aq h
theorem ab8(hc:Conc E V s.H){t t' e:TypeId}{sz n m cap:Nat}{z:SP}{base:Option U3}{av:AV}{v:SP}{ax:AV}{l l':List AV}{ty:TypeId}(ht:jK P t t'=some (e,sz,z))(hd:ap E ax (.slice base n cap))(dK:s.src sz ax=some (n,l))(cC:ap E av v)(hs:s.src sz av=some (m,l'))
  (hl:l.length=n* sz) (eN:l'.length=m* sz) (hb:n+m<=2^30) (Kk:cap<n+m)
  (hK:∀r cs cap',V.fresh r->cH E (l++l') (cs.extract 0 ((n+m)* sz))->n+m<=cap'->cs.size=cap'* sz->K (.slice (some ⟨r,0,none⟩) (n+m) cap') (V.upd r (.cells cs e))):aP P V (Vz #[t,t'] ty #[.slice base n cap,v]) K Kp:=by
 obtain⟨i,d,h1,h2,h3,h4,h5,h6,h7,h8,h9⟩:=jK.out ht;unfold Vz;simp only[Ve,Vp,UI];refine ej h1 ?_;dsimp only;refine jV h2 ?_;rw[h4];refine ej h8 ?_;refine M4 (by cases d<;>first|rfl|exact absurd rfl (h9 _)) ?_;simp only[TN,if_false,YD,if_true];rw[G9 cC hs];refine aA (aq ?_);rw[if_neg (by omega)];refine yk h2 ?_;rw[if_neg (by intro hx;exact hx.2.elim (λx=>x.elim) h7)];refine yk h2 ?_;have dP:=ann (n+m) cap Kk;have hmul:W3 (n+m) cap* i.bytes<=(2* 2^30+200)* 2^16:=ZT (by omega) h6;rw[if_neg (by omega)];refine aA (acb (λhf=>by cases hf) (λ_ t=>cG ?_));generalize iV:Zy (.appendCap (n+m) cap e) t=cap';have Fc:n+m<=cap':=by rw[<- iV];exact Nat.le_add_right _ _
 refine yk h2 (aA (ab9 (aA ?_)));refine Dh hc hd dK hl (SR _) λyP JZ=> ?_;refine aA (Dh hc cC hs eN (SR _) λjq lf=> ?_);refine G5 (z:=z) (by unfold eO;rw[h2];exact h3) ?_;rw[<- hl,TH]at JZ;rw[<- eN,TH]at lf;unfold newRow;refine aA (aA (oB λr hf=>cG (aq (aq ?_))));have aln:yP.size=n* sz:=by rw[JZ.1,hl]
 have zP:jq.size=m* sz:=by rw[lf.1,eN]
 have aV:(yP++jq).size=(n+m)* sz:=by rw[XA,aln,zP,Va]
 refine hK r _ cap' hf ?_ Fc ?_
 ·have e1:(yP++jq++Xk z.cells (cap'-(n+m))).extract 0 ((n+m)* sz)=yP++jq:=by
   rw[<- aV];generalize yP++jq=q;apply VD;simp[Array.toList_extract,List.extract_eq_take_drop]
  rw[e1];exact Bw JZ lf
 ·rw[XA,aV];have:(Xk z.cells (cap'-(n+m))).size=(cap'-(n+m))* sz:=by simp[Xk,h5]
  rw[this,<- Va];congr 1;omega
theorem G3(hc:Conc E V s.H){t t' e:TypeId}{sz n m cap:Nat}{z:SP}{base:Option U3}{av:AV}{v:SP}{en:End}{l l':List AV}{ty:TypeId}(ht:jK P t t'=some (e,sz,z))(hd:ap E (.sl n l en) (.slice base n cap))(cC:ap E av v)(hs:s.src sz av=some (m,l'))
  (hl:l.length=n* sz) (eN:l'.length=m* sz) (hb:n+m<=2^30) (Kk:cap<n+m)
  (hK:∀r cs cap',V.fresh r->cH E (l++l') (cs.extract 0 ((n+m)* sz))->n+m<=cap'->cs.size=cap'* sz->K (.slice (some ⟨r,0,none⟩) (n+m) cap') (V.upd r (.cells cs e))):aP P V (Vz #[t,t'] ty #[.slice base n cap,v]) K Kp:=
 ab8 hc ht hd (by simp only[AS.src];rw[<- hl,TH]) cC hs hl eN hb Kk hK
theorem G4(hc:Conc E V s.H){t t' e:TypeId}{sz n cap:Nat}{z:SP}{base:Option U3}{av:AV}{v:SP}{l':List AV}{ty:TypeId}(ht:jK P t t'=some (e,sz,z))(cC:ap E av v)(hs:s.src sz av=some (0,l'))
  (eN:l'.length=0* sz) (hle:n<=cap) (hK:K (.slice base n cap) V):aP P V (Vz #[t,t'] ty #[.slice base n cap,v]) K Kp:=by
 obtain⟨i,d,h1,h2,h3,h4,h5,h6,h7,h8,h9⟩:=jK.out ht;unfold Vz;simp only[Ve,Vp,UI];refine ej h1 ?_;dsimp only;refine jV h2 ?_;rw[h4];refine ej h8 ?_;refine M4 (by cases d<;>first|rfl|exact absurd rfl (h9 _)) ?_;simp only[TN,if_false,YD,if_true];rw[G9 cC hs];refine aA (aq ?_);rw[if_pos (by omega)];refine aA (Dh hc cC hs eN (SR _) λjq lf=> ?_);have zP:jq=#[]:=by
  have:=lf.1;apply Array.eq_empty_of_size_eq_zero;rw[this];simp
 subst zP;rw[UK];cases base with
 |none=>exact aq hK
 |some a=>
  dsimp only;unfold storeCells;exact aA (aq (aq hK))
theorem ab7(hc:Conc E V s.H){t t' e:TypeId}{sz n m cap:Nat}{z:SP}{b:Nat}{av:AV}{v:SP}{l':List AV}{ty:TypeId}{cs:Array SP}{el:TypeId}(ht:jK P t t'=some (e,sz,z))(cC:ap E av v)(hs:s.src sz av=some (m,l'))
  (eN:l'.length=m* sz) (hle:n+m<=cap) (ho:V.own b=some (.cells cs el (0,0))) (aV:cap* sz<=cs.size) (hi:∀o,n* sz<=o->V.ab b o=none) (hg:V.role.group≠some b/\V.role.chan≠some b) (nB:∀a∈l',a.leaf=true)
  (hK:∀jq,cH E l' jq->K (.slice (some ⟨b,0,none⟩) (n+m) cap) (V.upd b (.cells (storeAt cs (n* sz) jq.toList) el (0,0)))):aP P V (Vz #[t,t'] ty #[.slice (some ⟨b,0,none⟩) n cap,v]) K Kp:=by
 obtain⟨i,d,h1,h2,h3,h4,h5,h6,h7,h8,h9⟩:=jK.out ht;unfold Vz;simp only[Ve,Vp,UI];refine ej h1 ?_;dsimp only;refine jV h2 ?_;rw[h4];refine ej h8 ?_;refine M4 (by cases d<;>first|rfl|exact absurd rfl (h9 _)) ?_;simp only[TN,if_false,YD,if_true];rw[G9 cC hs];refine aA (aq ?_);rw[if_pos (by omega)];refine aA (Dh hc cC hs eN (SR _) λjq lf=> ?_);rw[<- eN,TH]at lf;rw[add_plain];have ur:(n+m)* sz<=cap* sz:=Uf _ hle;rw[Va]at ur;refine aA (Au _ 0 V cs hg.1 hg.2 ho (λo h _=>hi o (by omega)) (by have:=lf.1;simp;omega) (Bx lf nB) ?_);rw[Wt,UK];exact aq (hK jq lf)
end
def Env.tok (E:Env)(I:cx)(rm:Option U3×Nat)(v:Nat):Env:={E with I:=I,n:=E.n+1,room:=λk u=>if k=E.n/\u=v then rm else E.room k u,fA:=λk=>if k=E.n then v else E.fA k}
theorem Env.LY(E:Env){I:cx}(hI:∀b o v,E.I b o=some v->I b o=some v)(rm:Option U3×Nat)(v:Nat):E.Le (E.tok I rm v):=
 ⟨hI,Y5 _,λk hk=>rfl,λk hk=>by simp[Env.tok,Wa hk],λk u hk _=>by simp[Env.tok,Wa hk],rfl,rfl⟩
def Env.grow (E:Env)(I:cx)(k:Nat)(rm:Option U3×Nat)(v:Nat):Env:={E with I:=I,room:=λj u=>if j=k/\u=v then rm else E.room j u,fA:=λj=>if j=k then v else E.fA j}
theorem Env.aaA(E:Env){I:cx}(hI:∀b o v,E.I b o=some v->I b o=some v){k:Nat}(rm:Option U3×Nat){v:Nat}(hv:E.fA k<v):E.Le (E.grow I k rm v):=
 ⟨hI,SR _,λ_ _=>rfl,λj _=>by
  simp only[Env.grow];split
  ·rename_i e;subst e;omega
  ·exact SR _,λj u _ hu=>by
  simp only[Env.grow];split
  ·rename_i e;obtain⟨rfl,rfl⟩:=e;omega
  ·rfl,rfl,rfl⟩
open Go.Conc
abbrev View.laid (V:View)(b:Nat)(cs:Array SP)(el:TypeId)(p:Nat->Bool):View:=(V.upd b (.cells cs el (0,0))).ig b cs p
theorem LU{V:View}{b b':Nat}{cs:Array SP}{el:TypeId}{p:Nat->Bool}(h:b'≠b):(V.laid b cs el p).own b'=V.own b':=by simp[View.laid,View.ig,View.upd,h]
theorem LS{V:View}{b b':Nat}{cs:Array SP}{el:TypeId}{p:Nat->Bool}(h:b'≠b)(o:Nat):(V.laid b cs el p).ab b' o=V.ab b' o:=by simp[View.laid,View.ig,View.upd,h]
theorem Gd{V:View}{b:Nat}{cs:Array SP}{el:TypeId}{p:Nat->Bool}(hp:∀o,p o=true->V.ab b o=none):∀b' o v,V.ab b' o=some v->(V.laid b cs el p).ab b' o=some v:=λb' o v h=>by
 have hn:¬(b'=b/\p o=true):=λhb=>by obtain⟨rfl,h2⟩:=hb;rw[hp o h2]at h;cases h
 simp only[View.laid,View.ig,View.upd,if_neg hn];exact h
theorem Gc{V:View}{b:Nat}{cs:Array SP}{el:TypeId}{p:Nat->Bool}{o:Nat}(h:p o=true):(V.laid b cs el p).ab b o=cs[o]?:=by simp[View.laid,View.ig,h]
theorem LV{V:View}{b:Nat}{cs:Array SP}{el:TypeId}{p:Nat->Bool}:(V.laid b cs el p).own b=some (.cells cs el (0,0)):=by simp[View.laid,View.ig,View.upd]
theorem IE{E:Env}{I:cx}{b n cap:Nat}{cs:Array SP}{l:List AV}{e:End}{sz:Nat}(hI:E.I=I)(hd:cH E l (cs.extract 0 (n* sz)))(hl:l.length=n* sz)(hs:n* sz<=cs.size)(hi:∀o,o<n* sz->I b o=cs[o]?)(hc:n<=cap)(he:pu E e (some ⟨b,0,none⟩) n cap):ap E (.sl n l e) (.slice (some ⟨b,0,none⟩) n cap):=by
 refine .sl b 0 cap (λi=>cs.getD i undef) hc he (λi h=> ?_) (λi x hx=> ?_)
 ·rw[hl]at h;have hlt:i<cs.size:=by omega
  rw[hI,Wt,hi i h];simp only[SI,SK hlt,S8]
 ·have cD:i<n* sz:=by rw[<- hl];exact(SM.1 hx).1
  have:=hd.2 i x hx;have hlt:i<cs.size:=by omega
  rw[SI,SK hlt];rw[SI]at this;rw[Array.getElem?_extract]at this;have Fz:i<min (n* sz) cs.size:=by omega
  simpa[cD,hlt,Fz]using this
section
variable {E:Env}{V:View}{H:List aa}
theorem Conc.Nk(hc:Conc E V H){n:Nat}(sz:Nat)(el:TypeId)(a:Option U3):Conc (E.tok V.ab (a,n) n) V (H++[.tail n sz el])/\E.Le (E.tok V.ab (a,n) n):=by
 have hle:=E.LY (I:=V.ab) (λb o v h=>by rw[<- hc.I];exact h) (a,n) n;refine⟨hc.iO H.length (.tail n sz el) hle rfl (by simp[Env.tok,hc.n]) CZ rfl (λj hj _=>by simp[Env.tok,hc.n,hj]) (λb y _ hy=>⟨hy,λ_=>rfl⟩) ?_ (λb h=> ?_),hle⟩
 ·rw[<- hc.n];exact⟨by simp[Env.tok],.inl (by simp[Env.tok])⟩
 ·rw[<- hc.n]at h;simp[bM,Env.tok]at h
theorem Conc.ac4(hc:Conc E V H){r n cap sz:Nat}{el:TypeId}{cs:Array SP}(hf:V.fresh r)(hs:cs.size=cap* sz)(hn:n<=cap):
  Conc (E.tok (V.laid r cs el (·<n* sz)).ab (some ⟨r,0,none⟩,cap) n) (V.laid r cs el (·<n* sz)) (H++[.tail n sz el])/\E.Le (E.tok (V.laid r cs el (·<n* sz)).ab (some ⟨r,0,none⟩,cap) n):=by
 have hle:=E.LY (I:=(V.laid r cs el (·<n* sz)).ab) (λb o v h=>Gd (λo _=>hf.2 o) b o v (by rw[<- hc.I];exact h)) (some ⟨r,0,none⟩,cap) n;refine⟨hc.iO H.length (.tail n sz el) hle rfl (by simp[Env.tok,hc.n]) CZ rfl (λj hj _=>by simp[Env.tok,hc.n,hj]) (λb y _ hy=> ?_) ?_ (λb h=> .inr ?_),hle⟩
 ·have hb:b≠r:=λe=>by subst e;rw[hf.1]at hy;cases hy
  exact⟨by rw[LU hb];exact hy,λo=>LS hb o⟩
 ·rw[<- hc.n];refine⟨by simp[Env.tok],?_⟩;by_cases e:cap=n
  ·exact .inl (by simp[Env.tok,e])
  ·refine .inr ⟨r,cap,cs,by simp[Env.tok],LV,hs,by omega,λo ho=> ?_⟩;have:¬(decide (o<n* sz)=true):=(by simpa using ho);simp only[View.laid,View.ig];rw[if_neg (λx=>this x.2)];exact hf.2 o
 ·rw[<- hc.n]at h;simp[bM,Env.tok]at h;obtain⟨_,rfl⟩:=h;exact hf.1
theorem Conc.ajh(hc:Conc E V H){k r n n' cap sz:Nat}{el fY:TypeId}{cs:Array SP}(hk:H[k]?=some (.tail n sz fY))(hf:V.fresh r)(hs:cs.size=cap* sz)(hn:n'<=cap)(hlt:n<n'):
  Conc (E.grow (V.laid r cs el (·<n'* sz)).ab k (some ⟨r,0,none⟩,cap) n') (V.laid r cs el (·<n'* sz)) (H.set k (.tail n' sz el))/\E.Le (E.grow (V.laid r cs el (·<n'* sz)).ab k (some ⟨r,0,none⟩,cap) n'):=by
 have zV:E.fA k=n:=(hc.obj k _ hk).1;have hle:=E.aaA (I:=(V.laid r cs el (·<n'* sz)).ab) (λb o v h=>Gd (λo _=>hf.2 o) b o v (by rw[<- hc.I];exact h)) (k:=k) (some ⟨r,0,none⟩,cap) (v:=n') (by omega);refine⟨hc.iO k (.tail n' sz el) hle rfl (by simpa[Env.grow]using hc.n) lS rfl (λj hj _=>by simp[Env.grow,hj]) (λb y _ hy=> ?_) ?_ (λb h=> .inr ?_),hle⟩
 ·have hb:b≠r:=λe=>by subst e;rw[hf.1]at hy;cases hy
  exact⟨by rw[LU hb];exact hy,λo=>LS hb o⟩
 ·refine⟨by simp[Env.grow],?_⟩;by_cases e:cap=n'
  ·exact .inl (by simp[Env.grow,e])
  ·refine .inr ⟨r,cap,cs,by simp[Env.grow],LV,hs,by omega,λo ho=> ?_⟩;have:¬(decide (o<n'* sz)=true):=(by simpa using ho);simp only[View.laid,View.ig];rw[if_neg (λx=>this x.2)];exact hf.2 o
 ·simp[bM,Env.grow]at h;obtain⟨_,rfl⟩:=h;exact hf.1
theorem Conc.aji(hc:Conc E V H){k b n n' cap sz:Nat}{el fY:TypeId}{cs eP:Array SP}(hk:H[k]?=some (.tail n sz fY))(hrm:E.room k n=(some ⟨b,0,none⟩,cap))(ho:V.own b=some (.cells cs el (0,0)))(hi:∀o,n* sz<=o->V.ab b o=none)(hs:eP.size=cap* sz)(hn:n'<=cap)(hlt:n<n'):
  Conc (E.grow (V.laid b eP el (λo=>n* sz<=o&&o<n'* sz)).ab k (some ⟨b,0,none⟩,cap) n') (V.laid b eP el (λo=>n* sz<=o&&o<n'* sz)) (H.set k (.tail n' sz el))/\E.Le (E.grow (V.laid b eP el (λo=>n* sz<=o&&o<n'* sz)).ab k (some ⟨b,0,none⟩,cap) n'):=by
 have zV:E.fA k=n:=(hc.obj k _ hk).1;have hp:∀o,(λo=>decide (n* sz<=o)&&decide (o<n'* sz)) o=true->V.ab b o=none:=λo h=>hi o (by simp at h;exact h.1);have hle:=E.aaA (I:=(V.laid b eP el (λo=>n* sz<=o&&o<n'* sz)).ab) (λb o v h=>Gd hp b o v (by rw[<- hc.I];exact h)) (k:=k) (some ⟨b,0,none⟩,cap) (v:=n') (by omega);have kB:bM E k (.tail n sz fY)=some b:=by
  simp only[bM,hrm];rw[if_neg (by omega)];rfl
 refine⟨hc.iO k (.tail n' sz el) hle rfl (by simpa[Env.grow]using hc.n) lS rfl (λj hj _=>by simp[Env.grow,hj]) (λb' y fO hy=> ?_) ?_ (λb' h=> .inl ⟨_,hk,?_⟩),hle⟩
 ·have hb:b'≠b:=λe=>by subst e;exact fO _ hk kB
  exact⟨by rw[LU hb];exact hy,λo=>LS hb o⟩
 ·refine⟨by simp[Env.grow],?_⟩;by_cases e:cap=n'
  ·exact .inl (by simp[Env.grow,e])
  ·have Cr:n* sz<=n'* sz:=Uf _ (by omega);refine .inr ⟨b,cap,eP,by simp[Env.grow],LV,hs,by omega,λo bc=> ?_⟩;have:¬((decide (n* sz<=o)&&decide (o<n'* sz))=true):=(by simp;omega);simp only[View.laid,View.ig];rw[if_neg (λx=>this x.2)];exact hi o (by omega)
 ·simp[bM,Env.grow]at h;obtain⟨_,rfl⟩:=h;exact kB
end
section
variable {lv:Bool}{P:SJ}{r:Option Nat}{o:Tx}{s:AS}{next:AS->Prop}{bad:AV->AS->Prop}
def AG (s:AS)(dst:Option Nat)(next:AS->Prop)(n m sz:Nat)(elem:TypeId)(l l':List AV):End->Prop
 |.exact=>next ((⟨s.T,s.H++[.tail (n+m) sz elem]⟩:AS).put dst (.sl (n+m) (l++l') (.opn s.H.length)))
 |.opn k=>(match s.H[k]?with
   |some (.tail n' eD fY)=>n'=n/\eD=sz/\fY=elem
   |_=>False)/\(∀a∈l',a.leaf=true)/\next ((⟨s.T,s.H.set k (.tail (n+m) sz elem)⟩:AS).put dst (.sl (n+m) (l++l') (.opn k)))
 |.shut=>m=0/\next (s.put dst (.sl n l .shut))
theorem agC{E E':Env}{n:Nat}{l:List AV}{en:End}{base:Option U3}{cap:Nat}(h:ap E (.sl n l en) (.slice base n cap))(hl:E.Le E'){e':End}(he:pu E' e' base n cap):ap E' (.sl n l e') (.slice base n cap):=by
 cases h with
 |sl b o cap f hc _ h1 h2=>exact .sl b o cap f hc he (λi hi=>hl.I _ _ _ (h1 i hi)) (λi x hx=>(h2 i x hx).mono hl)
 |nil _=>exact .nil he
theorem step_append{c:Xn}{x y:Tm}{t t' elem:TypeId}{sz n m:Nat}{z:SP}{en:End}{l l':List AV}{av:AV}(ho:o.op=.call c)(aY:c.callee=.builtin .append)(cK:c.args=#[x,y]) (dR:c.argTypes=#[t,t']) (ht:jK P t t'=some (elem,sz,z))
  (hx:s.ev x=some (.sl n l en)) (hy:s.ev y=some av) (hs:s.src sz av=some (m,l')) (hl:l.length=n* sz) (eN:l'.length=m* sz) (hb:n+m<=2^30) (hn:AG s o.dst next n m sz elem l l' en):Step lv P r o s next bad:=by
 intro E V a N Q hc aF hd bx h1 _;refine⟨bx,?_⟩;have du:=ap.ev aF hx;have iF:=ap.ev aF hy;generalize ki:a.eval x=vx at du;generalize rD:a.eval y=vy at iF;unfold execOp;rw[ho];dsimp only;unfold resolve;rw[aY];dsimp only;refine aA (aq ?_);unfold invoke builtin;dsimp only;refine aA ?_;have nC:c.args.map a.eval=#[vx,vy]:=by rw[cK];simp[ki,rD]
 rw[nC,dR];obtain⟨base,cap,rfl⟩:∃base cap,vx=.slice base n cap:=by
  cases du with
  |sl b o cap f dP he q1 q2=>exact⟨_,_,rfl⟩
  |nil he=>exact⟨_,_,rfl⟩
 have dP:n<=cap:=by
  cases du with
  |sl b o cap f dP he q1 q2=>exact dP
  |nil he=>exact SR _
 have fin:∀E' V' H' (mI:AV) v',E.Le E'->V'.role=V.role->V'.deaf=V.deaf->Conc E' V' H'->ap E' mI v'->next ((⟨s.T,H'⟩:AS).put o.dst mI)->aP P V' (pure (W5 v')) (mE lv P r o a N Q) (λv V'=>Q (.panic [{v,recovered:=false}]) a V'):=λE' V' H' mI v' hle hr ul bi bk da=>
  aq (h1 E' V' (a.put o.dst v') ((⟨s.T,H'⟩:AS).put o.dst mI) ⟨hle,d_ _ _ _,put_defers _ _ _,hr,ul⟩ (by rw[fl];exact bi) (cj.gQ (s:=⟨s.T,H'⟩) (aF.mono hle) hd bk) da)
 have s_:(l++l').length=(n+m)* sz:=by rw[SO,hl,eN,Va]
 cases en with
 |exact=>
  have gM:cap=n:=by
   cases du with
   |sl b o cap f dP he q1 q2=>exact he
   |nil he=>rfl
  subst gM;have kD:=hn;simp only[AG]at kD;by_cases hm:m=0
  ·subst hm;have sU:l'=[]:=(by simpa using eN);subst sU;refine G4 hc ht iF hs eN (SR _) ?_;obtain⟨bi,hle⟩:=hc.Nk (n:=cap) sz elem base;refine fin _ V _ _ _ hle rfl rfl bi (agC (e':=.opn s.H.length) du hle ⟨?_,?_,?_⟩) (by simpa using kD)
   ·simp[Env.tok,hc.n]
   ·simp[Env.tok,hc.n]
   ·simp[Env.tok,hc.n]
  ·refine G3 hc ht du iF hs hl eN hb (by omega) λrr cs cap' hf bk hle aV=> ?_;obtain⟨bi,rj⟩:=hc.ac4 (el:=elem) hf aV hle;have uy:(cap+m)* sz<=cs.size:=(by rw[aV];exact Uf _ hle);refine aP.ghost (yZ (f:=(0,0)) (cs:=cs) (el:=elem) (p:=(·<(cap+m)* sz)) (by simp[View.upd]) (λo _=>hf.2 o)) ?_;refine fin _ _ _ _ _ rj rfl rfl bi (IE (I:=(V.laid rr cs elem (·<(cap+m)* sz)).ab) (e:=.opn s.H.length) (sz:=sz) (cs:=cs) rfl (bk.mono rj) s_ uy (λo h=>Gc (by simpa using h)) hle ⟨?_,?_,?_⟩) kD
   ·simp[Env.tok,hc.n]
   ·simp[Env.tok,hc.n]
   ·simp[Env.tok,hc.n]
 |shut=>
  obtain⟨rfl,kD⟩:=hn;have sU:l'=[]:=by simpa using eN
  subst sU;refine G4 hc ht iF hs eN dP ?_;exact fin E V s.H _ _ (Env.Le.refl E) rfl rfl hc du kD
 |opn k=>
  obtain⟨zC,nB,kD⟩:=hn;split at zC
  ·rename_i n' eD fY hk;obtain⟨rfl,rfl,rfl⟩:=zC;have heo:pu E (.opn k) base n' cap:=by
    cases du with
    |sl b o cap f dP he q1 q2=>exact he
    |nil he=>exact he
   obtain⟨e1,e2,e3⟩:=heo;obtain⟨zV,FN⟩:=hc.obj k _ hk;have zM:s.H.set k (.tail n' eD fY)=s.H:=by
    apply Yo;intro i;by_cases hi:i=k
    ·subst hi;rw[W9 (SM.1 hk).1,hk]
    ·rw[T6 (Ne.symm hi)]
   by_cases hm:m=0
   ·subst hm;have sU:l'=[]:=(by simpa using eN);subst sU;refine G4 hc ht iF hs eN dP ?_;refine fin E V s.H _ _ (Env.Le.refl E) rfl rfl hc du ?_;rw[UK,zM,S0]at kD;exact kD
   ·by_cases pQ:n'+m<=cap
    ·rcases FN with FN|⟨b,asT,cs,r1,r2,r3,r4,r5⟩
     ·rw[e3]at FN;simp only at FN;omega
     ·rw[e3]at r1;cases r1;have kB:bM E k (.tail n' eD fY)=some b:=by
       simp only[bM,e3];rw[if_neg (by omega)];rfl
      refine ab7 hc ht iF hs eN pQ r2 (WJ r3.symm) r5 (hc.jf hk kB) nB λjq lf=> ?_;have zP:jq.toList.length=m* eD:=(by have:=lf.1;simp;omega);have ur:(n'+m)* eD<=cap* eD:=Uf _ pQ;rw[Va]at ur;have FQ:(storeAt cs (n'* eD) jq.toList).size=cap* eD:=(by rw[ym];exact r3);obtain⟨bi,rj⟩:=hc.aji hk e3 r2 r5 FQ pQ (by omega);refine aP.ghost (yZ (f:=(0,0)) (cs:=storeAt cs (n'* eD) jq.toList) (el:=fY) (p:=λo=>n'* eD<=o&&o<(n'+m)* eD) (by simp[View.upd]) (λo h=>r5 o (by simp at h;exact h.1))) ?_;refine fin _ _ _ _ _ rj rfl rfl bi ?_ kD;cases du with
      |nil he=>exact absurd pQ (by omega)
      |sl b' o' cap f Fc he q1 q2=>
       have q1':∀i,i<l.length->V.ab b i=some (f i):=λi hi=>(by have:=q1 i hi;rwa [hc.I,Wt]at this);refine .sl b 0 cap (λi=>if i<n'* eD then f i else(storeAt cs (n'* eD) jq.toList).getD i undef) (by omega) ⟨?_,?_,?_⟩ (λi hi=> ?_) (λi x hx=> ?_)
       ·exact e1
       ·simp[Env.grow]
       ·simp[Env.grow]
       ·rw[s_,Va]at hi;show (V.laid b (storeAt cs (n'* eD) jq.toList) fY (λo=>n'* eD<=o&&o<(n'+m)* eD)).ab b (0+i)=_;rw[Wt];by_cases cD:i<n'* eD
        ·rw[if_pos cD];exact Gd (λo h=>r5 o (by simp at h;exact h.1)) _ _ _ (q1' i (by omega))
        ·rw[if_neg cD,Gc (by simp[Va];omega)];have hlt:i<(storeAt cs (n'* eD) jq.toList).size:=(by rw[FQ];omega);simp only[SI,SK hlt,S8]
       ·by_cases cD:i<n'* eD
        ·rw[SX (by omega)]at hx;rw[if_pos cD];exact(q2 i x hx).mono rj
        ·rw[Th (by omega)]at hx;have un:i-l.length<l'.length:=(SM.1 hx).1;rw[if_neg cD,Do _ _ _ _ (by rw[zP,r3];omega),if_pos (by rw[zP];omega)];have:=(lf.2 _ _ hx).mono rj;rw[hl]at this;simpa[SI,SE]using this
    ·refine G3 hc ht du iF hs hl eN hb (by omega) λrr cs cap' hf bk hle aV=> ?_;obtain⟨bi,rj⟩:=hc.ajh (el:=fY) (n':=n'+m) hk hf aV hle (by omega);have uy:(n'+m)* eD<=cs.size:=(by rw[aV];exact Uf _ hle);refine aP.ghost (yZ (f:=(0,0)) (cs:=cs) (el:=fY) (p:=(·<(n'+m)* eD)) (by simp[View.upd]) (λo _=>hf.2 o)) ?_;refine fin _ _ _ _ _ rj rfl rfl bi (IE (I:=(V.laid rr cs fY (·<(n'+m)* eD)).ab) (e:=.opn k) (sz:=eD) (cs:=cs) rfl (bk.mono rj) s_ uy (λo h=>Gc (by simpa using h)) hle ⟨?_,?_,?_⟩) kD
     ·exact e1
     ·simp[Env.grow]
     ·simp[Env.grow]
  ·exact zC.elim
def Env.gV (E:Env)(r:Nat)(I:cx)(c:Nat):Env:={E with I:=I,n:=E.n+1,blk:=λk=>if k=E.n then r else E.blk k,room:=λk u=>if k=E.n/\u=0 then(none,c)else E.room k u}
theorem Env.CY(E:Env)(r c:Nat){I:cx}(hI:∀b o v,E.I b o=some v->I b o=some v):E.Le (E.gV r I c):=
 ⟨hI,Y5 _,λk hk=>by simp[Env.gV,Wa hk],λ_ _=>SR _,λk u hk _=>by simp[Env.gV,Wa hk],rfl,rfl⟩
theorem Env.wU(E:Env)(r c:Nat)(I:cx):(E.gV r I c).blk E.n=r:=by simp[Env.gV]
theorem Env.HZ(E:Env)(r c:Nat)(I:cx):(E.gV r I c).room E.n 0=(none,c):=by simp[Env.gV]
theorem Conc.gV{E:Env}{V:View}{H:List aa}(hc:Conc E V H){r c:Nat}(hf:V.fresh r){cs:Array SP}{sz:Nat}{l:List AV}{el:TypeId}(hd:jX (E.gV r V.ab c) l cs)(hs:cs.size=c* sz):Conc (E.gV r V.ab c) (V.upd r (.cells cs el)) (H++[.own sz l el]):=by
 refine hc.iO (E':=E.gV r V.ab c) H.length (.own sz l el) (E.CY r c (λb o v h=>by rw[<- hc.I];exact h)) rfl (by simp[Env.gV,hc.n]) CZ rfl (λ_ _ _=>rfl) (λb z _ hz=>⟨?_,λ_=>rfl⟩) ?_ (λb h=> .inr ?_)
 ·have:b≠r:=λe=>by rw[e,hf.1]at hz;cases hz
  simpa[View.upd,this]using hz
 ·rw[<- hc.n];refine⟨⟨cs,by rw[Env.wU];simp[View.upd],hd,by rw[Env.HZ];exact hs⟩,λo=> ?_⟩;rw[Env.wU];exact hf.2 o
 ·rw[<- hc.n]at h;simp only[bM,Env.wU,Tn]at h;subst h;exact hf.1
theorem IC{E:Env}{H:List aa}(hn:E.n=H.length){r c n:Nat}(I:cx)(h:n<=c){cap:Nat}(ox:n<=cap)(hc:cap<=c)(h0:0<n):ap (E.gV r I c) (.bJ H.length 0 n 0) (.slice (some ⟨r,0,none⟩) n cap):=by
 have:=ap.bJ (E:=E.gV r I c) (id:=H.length) (off:=0) (n:=n) (cap:=0) (cap':=cap) (by show _<E.n+1;rw[hn];omega) ⟨ox,λe=>by omega,λ_=>by rw[<- hn,Env.HZ];exact hc⟩;have e:(E.gV r I c).blk H.length=r:=by rw[<- hn];exact E.wU r c I
 rwa [e]at this
theorem Conc.relabel{E:Env}{V:View}{H:List aa}(hc:Conc E V H){id sz:Nat}{l:List AV}{el:TypeId}(hk:H[id]?=some (.own sz l el)):Conc (E.gV (E.blk id) V.ab (E.room id 0).2) V (H.set id .gone++[.own sz l el]):=by
 have hle:=E.CY (E.blk id) (E.room id 0).2 (I:=V.ab) (λb o v h=>by rw[<- hc.I];exact h);have atd:=(SM.1 hk).1;have hlt:∀(j:Nat) y,H[j]?=some y->j<E.n:=λj y h=>by rw[hc.n];exact(SM.1 h).1
 have rf:∀(j:Nat) y,(H.set id .gone++[aa.own sz l el])[j]?=some y->(j=H.length/\y=.own sz l el)\/(j=id/\y=.gone)\/(j≠id/\H[j]?=some y):=λj y h=>by
  rcases CZ j y h with⟨h1,h2⟩|⟨_,h⟩
  ·exact .inl ⟨by simpa using h1,h2⟩
  ·rcases lS j y h with h|h
   ·exact .inr (.inl h)
   ·exact .inr (.inr h)
 have cL:∀(j:Nat) y b,H[j]?=some y->bM (E.gV (E.blk id) V.ab (E.room id 0).2) j y=some b->bM E j y=some b:=λj y b h e=>by rw[<- OK hle (hlt j y h) (hc.obj j y h)];exact e
 have v7:∀b,bM (E.gV (E.blk id) V.ab (E.room id 0).2) H.length (.own sz l el)=some b->b=E.blk id:=λb e=>by
  simp only[bM,<- hc.n,Env.wU,Tn]at e;exact e.symm
 have fO:∀g,(∀(k:Nat) x,H[k]?=some x->bM E k x≠some g)->∀(k:Nat) x,(H.set id .gone++[aa.own sz l el])[k]?=some x->bM (E.gV (E.blk id) V.ab (E.room id 0).2) k x≠some g:=λg h0 k x hx e=>by
  rcases rf k x hx with⟨rfl,rfl⟩|⟨_,rfl⟩|⟨_,hx⟩
  ·have:=v7 g e;exact h0 id _ hk (by rw[this];rfl)
  ·cases e
  ·exact h0 k x hx (cL k x g hx e)
 refine⟨rfl,by simp[Env.gV,hc.n],λj y h=> ?_,λi j y z b h1 h2 e1 e2=> ?_,λg hg=> ?_,λg hg=> ?_,λhm=>hc.top hm,λb y hf=> ?_⟩
 ·rcases rf j y h with⟨rfl,rfl⟩|⟨_,rfl⟩|⟨_,h⟩
  ·obtain⟨⟨cs,q1,q2,q3⟩,q4⟩:=hc.obj id _ hk;rw[<- hc.n];refine⟨⟨cs,by rw[Env.wU];exact q1,q2.mono hle,by rw[Env.HZ];exact q3⟩,λo=> ?_⟩;rw[Env.wU];exact q4 o
  ·trivial
  ·exact(hc.obj j y h).mono hle (hlt j y h) rfl (λ_ _ _ h=>h) (λ_ _ _=>rfl)
 ·rcases rf i y h1 with⟨rfl,rfl⟩|⟨_,rfl⟩|⟨hi,h1⟩
  ·rcases rf j z h2 with⟨rfl,rfl⟩|⟨_,rfl⟩|⟨hj,h2⟩
   ·rfl
   ·cases e2
   ·have:=v7 b e1;exact absurd (hc.inj id j _ z b hk h2 (by rw[this];rfl) (cL j z b h2 e2)).symm hj
  ·cases e1
  ·rcases rf j z h2 with⟨rfl,rfl⟩|⟨_,rfl⟩|⟨hj,h2⟩
   ·have:=v7 b e2;exact absurd (hc.inj id i _ y b hk h1 (by rw[this];rfl) (cL i y b h1 e1)).symm hi
   ·cases e2
   ·exact hc.inj i j y z b h1 h2 (cL i y b h1 e1) (cL j z b h2 e2)
 ·obtain⟨h0,h1,h2⟩:=hc.group g hg;exact⟨h0,h1,fO g h2⟩
 ·obtain⟨h0,h1,h2⟩:=hc.chan g hg;exact⟨h0,h1,fO g h2⟩
 ·obtain⟨h0,h1,h2⟩:=hc.fr b y hf;exact⟨h0,h1,fO b h2⟩
theorem Conc.leave{E:Env}{V:View}{H:List aa}(hc:Conc E V H)(id:Nat):Conc E V (H.set id .gone):=
 hc.iO id .gone (Env.Le.refl E) hc.I (by simpa using hc.n) lS rfl (λ_ _ _=>rfl) (λ_ _ _ hy=>⟨hy,λ_=>rfl⟩) trivial (λb h=>by cases h)
theorem agE{E:Env}{l l':List AV}{cs vs:Array SP}(h:jX E l cs)(k:cH E l' vs)(hl:l.length+l'.length<=cs.size):jX E (l++l') (storeAt cs l.length vs.toList):=by
 have hv:vs.toList.length=l'.length:=by simpa using k.1
 refine⟨by rw[ym,SO];exact hl,λi a e=> ?_⟩;rw[Do _ _ _ _ (by rw[hv];exact hl),hv];by_cases h1:i<l.length
 ·rw[if_neg (by omega)];rw[SX h1]at e;exact h.2 i a e
 ·rw[Th (by omega)]at e;have h2:=(SM.1 e).1;rw[if_pos ⟨by omega,by omega⟩];have:=k.2 _ a e;simpa[SI,SE]using this
theorem Ph{E:Env}{l:List AV}{cs:Array SP}{k:Nat}(h:cH E l (cs.extract 0 k))(hk:l.length=k)(hs:k<=cs.size):jX E l cs:=by
 refine⟨by omega,λi a e=> ?_⟩;have hi:=(SM.1 e).1;have fL:i<cs.size:=by omega
 have:=h.2 i a e;rw[SI,Array.getElem?_extract_of_lt (by omega)]at this;rw[SI];simpa[SK fL]using this
theorem acH{c:Xn}{x y:Tm}{t t' elem:TypeId}{sz n m:Nat}{z:SP}{l l':List AV}{av:AV}(ho:o.op=.call c)(aY:c.callee=.builtin .append)(cK:c.args=#[x,y]) (dR:c.argTypes=#[t,t']) (ht:jK P t t'=some (elem,sz,z))
  (hx:s.ev x=some (.sl n l .exact)) (hy:s.ev y=some av) (hs:s.src sz av=some (m,l')) (hl:l.length=n* sz) (eN:l'.length=m* sz) (hb:n+m<=2^30) (hm:0<m) (hn:next ((⟨s.T,s.H++[.own sz (l++l') elem]⟩:AS).put o.dst (.bJ s.H.length 0 (n+m) 0))):Step lv P r o s next bad:=by
 intro E V a N Q hc aF hd bx h1 _;refine⟨bx,?_⟩;have du:=ap.ev aF hx;have iF:=ap.ev aF hy;generalize ki:a.eval x=vx at du;generalize rD:a.eval y=vy at iF;unfold execOp;rw[ho];dsimp only;unfold resolve;rw[aY];dsimp only;refine aA (aq ?_);unfold invoke builtin;dsimp only;refine aA ?_;have nC:c.args.map a.eval=#[vx,vy]:=by rw[cK];simp[ki,rD]
 rw[nC,dR];obtain⟨base,cap,rfl⟩:∃base cap,vx=.slice base n cap:=by
  cases du with
  |sl b o cap f dP he q1 q2=>exact⟨_,_,rfl⟩
  |nil he=>exact⟨_,_,rfl⟩
 have gM:cap=n:=by
  cases du with
  |sl b o cap f dP he q1 q2=>exact he
  |nil he=>rfl
 subst gM;refine G3 hc ht du iF hs hl eN hb (by omega) λrr cs cap' hf bk hle aV=> ?_;have s_:(l++l').length=(cap+m)* sz:=by rw[SO,hl,eN,Va]
 have uy:(cap+m)* sz<=cs.size:=by rw[aV];exact Uf _ hle
 have ow:E.Le (E.gV rr V.ab cap'):=E.CY rr cap' (λb o v h=>by rw[<- hc.I];exact h);have bi:=hc.gV (el:=elem) (c:=cap') hf ((Ph bk s_ uy).mono ow) aV;have oT:=IC hc.n (r:=rr) V.ab hle (n:=cap+m) (cap:=cap') hle (SR _) (by omega);exact aq (h1 _ _ (a.put o.dst _) _ ⟨ow,d_ _ _ _,put_defers _ _ _,rfl,rfl⟩ (by rw[fl];exact bi) (cj.gQ (s:=⟨s.T,s.H++[.own sz (l++l') elem]⟩) (aF.mono ow) hd oT) hn)
theorem acG{c:Xn}{x y:Tm}{t t' elem el:TypeId}{sz n m c0 id:Nat}{z:SP}{l l':List AV}{av:AV}(ho:o.op=.call c)(aY:c.callee=.builtin .append)(cK:c.args=#[x,y]) (dR:c.argTypes=#[t,t']) (ht:jK P t t'=some (elem,sz,z))
  (hx:s.ev x=some (.bJ id 0 n c0)) (xv:c0<n) (cg:s.H[id]?=some (.own sz l el)) (hel:el=elem) (hy:s.ev y=some av) (hs:s.src sz av=some (m,l')) (hl:l.length=n* sz) (eN:l'.length=m* sz) (hb:n+m<=2^30) (nB:∀a∈l',a.leaf=true) (hn:next ((⟨s.T,s.H.set id .gone++[.own sz (l++l') elem]⟩:AS).put o.dst (.bJ s.H.length 0 (n+m) 0))):Step lv P r o s next bad:=by
 subst hel;intro E V a N Q hc aF hd bx h1 _;refine⟨bx,?_⟩;have du:=ap.ev aF hx;have iF:=ap.ev aF hy;generalize ki:a.eval x=vx at du;generalize rD:a.eval y=vy at iF;unfold execOp;rw[ho];dsimp only;unfold resolve;rw[aY];dsimp only;refine aA (aq ?_);unfold invoke builtin;dsimp only;refine aA ?_;have nC:c.args.map a.eval=#[vx,vy]:=by rw[cK];simp[ki,rD]
 rw[nC,dR];have aj5:=du;have s_:(l++l').length=(n+m)* sz:=by rw[SO,hl,eN,Va]
 have dK:s.src sz (.bJ id 0 n c0)=some (n,l):=by
  simp only[AS.src];rw[cg];simp only[Xx];rw[<- hl,TH]
 cases du with
 |bJ hi dP=>
  rename_i cap';obtain⟨q1,_,q3⟩:=dP;have q3:=q3 xv;obtain⟨⟨cs,p1,p2,p3⟩,p4⟩:=hc.obj id _ cg;by_cases pQ:n+m<=cap'
  ·have og:(n+m)* sz<=cap'* sz:=Uf _ pQ;have xr:cap'* sz<=cs.size:=(by rw[p3];exact Uf _ q3);refine ab7 hc ht iF hs eN pQ p1 xr (λo _=>p4 o) (hc.jf cg rfl) nB λjq lf=> ?_;have J3:jX E (l++l') (storeAt cs (n* sz) jq.toList):=by
    rw[<- hl];exact agE p2 lf (by rw[<- SO,s_];omega)
   have dl:=hc.acl cg J3 (by rw[ym];exact p3);have rf:(s.H.set id (.own sz (l++l') el))[id]?=some (.own sz (l++l') el):=(by rw[W9 ((SM.1 cg).1)]);have cT:=dl.relabel rf;rw[W8]at cT;have ow:E.Le (E.gV (E.blk id) V.ab (E.room id 0).2):=E.CY _ _ (λb o v h=>by rw[<- hc.I];exact h);have oT:ap (E.gV (E.blk id) V.ab (E.room id 0).2) (.bJ s.H.length 0 (n+m) 0) (.slice (some ⟨E.blk id,0,none⟩) (n+m) cap'):=IC hc.n V.ab (by omega) pQ q3 (by omega);exact aq (h1 _ _ (a.put o.dst _) _ ⟨ow,d_ _ _ _,put_defers _ _ _,rfl,rfl⟩ (by rw[fl];exact cT) (cj.gQ (s:=⟨s.T,s.H.set id .gone++[.own sz (l++l') el]⟩) (aF.mono ow) hd oT) hn)
  ·refine ab8 hc ht aj5 dK iF hs hl eN hb (by omega) λrr eP Bt hf bk hle aV=> ?_;have uy:(n+m)* sz<=eP.size:=(by rw[aV];exact Uf _ hle);have ow:E.Le (E.gV rr V.ab Bt):=E.CY rr Bt (λb o v h=>by rw[<- hc.I];exact h);have Fb:=hc.leave id;have bi:=Fb.gV (el:=el) (c:=Bt) hf ((Ph bk s_ uy).mono ow) aV;have oT:ap (E.gV rr V.ab Bt) (.bJ s.H.length 0 (n+m) 0) (.slice (some ⟨rr,0,none⟩) (n+m) Bt):=IC hc.n V.ab hle hle (SR _) (by omega);exact aq (h1 _ _ (a.put o.dst _) _ ⟨ow,d_ _ _ _,put_defers _ _ _,rfl,rfl⟩ (by rw[fl];exact bi) (cj.gQ (s:=⟨s.T,s.H.set id .gone++[.own sz (l++l') el]⟩) (aF.mono ow) hd oT) hn)
end
open Go.Conc
theorem bG(n:Int)(h: -9223372036854775808<=n/\n<=9223372036854775807):SF.wrap n=n:=by
 have e:SF.wrap n=if n % 18446744073709551616>=9223372036854775808 then n % 18446744073709551616-18446744073709551616 else n % 18446744073709551616:=by
  unfold Xc;simp[atO,atN]
 rw[e];split<;>omega
def cJ (P:SJ){α:Type}(s:Sem α)(x:α):Prop:=∀w es,s.runT P w es=(.ok x w,es)
theorem cJ.ok{P:SJ}{α:Type}{V:View}{s:Sem α}{x:α}{K:α->View->Prop}{Kp:SP->View->Prop}(h:cJ P s x)(hk:K x V):aP P V s K Kp:=
 λw hw eW=>⟨#[],w,V,by simpa[fE]using dc.idle hw,.inl ⟨x,by rw[h w eW];simp,hk⟩⟩
theorem cJ.bind{P:SJ}{α β:Type}{V:View}{s:Sem α}{x:α}{f:α->Sem β}{K:β->View->Prop}{Kp:SP->View->Prop}(h:cJ P s x)(hk:aP P V (f x) K Kp):aP P V (s>>=f) K Kp:=
 aA (h.ok hk)
def AV.vn:AV->Option Int
 |.val (.int _ n)=>some n
 |_=>none
theorem ap.vn{E:Env}{a:AV}{v:SP}{n:Int}(hd:ap E a v)(h:a.vn=some n):∃k,v=.int k n:=by
 cases hd with
 |val x=>unfold AV.vn at h;split at h<;>simp_all
 |_=>cases h
def AS.iS (s:AS):Option Tm->Option (Option Int)
 |none=>some none
 |some x=>match s.ev x with
  |some a=>a.vn.map some
  |none=>none
theorem yK{E:Env}{s:AS}{a:Act}(k:cj E s.T a.tmps){x:Option Tm}{i:Option Int}(h:s.iS x=some i):(i=none/\x.map a.eval=none)\/∃n kd,i=some n/\x.map a.eval=some (.int kd n):=by
 cases x with
 |none=>cases h;exact .inl ⟨rfl,rfl⟩
 |some x=>
  simp only[AS.iS]at h;split at h
  ·rename_i av hav;obtain⟨n,hn,rfl⟩:=kY h;obtain⟨kd,hv⟩:=(ap.ev k hav).vn hn;exact .inr ⟨n,kd,rfl,by simp[hv]⟩
  ·cases h
section
variable {P:SJ}{V:View}{Kp:SP->View->Prop}
theorem As{kd:TU}{n:Int}{y:Nat}{code:BoundsCode}{K:Nat->View->Prop}(h0:0<=n)(h1:n<=y)(h:K n.toNat V):aP P V (Zq (.int kd n) y code) K Kp:=by
 unfold Zq asIntOf;refine aA (aq ?_);dsimp only;rw[if_pos ⟨h0,h1⟩];exact aq h
theorem M5{E:Env}{s:AS}{a:Act}(k:cj E s.T a.tmps){isS:Bool}{len cap:Nat}{lo hi mx:Option Tm}{l h m:Option Int}(hl:s.iS lo=some l)(hh:s.iS hi=some h)(hm:s.iS mx=some m){K:Nat×Nat×Nat->View->Prop}
  (hlc:len<=cap) (c0:0<=l.getD 0) (c1:l.getD 0<=h.getD len) (c2:h.getD len<=m.getD cap) (c3:m.getD cap<=cap) (c4:m.isSome=true->h.isSome=true) (hK:K ((l.getD 0).toNat,(h.getD len).toNat,(m.getD cap).toNat) V):
  aP P V (Zf isS len cap (lo.map a.eval) (hi.map a.eval) (mx.map a.eval)) K Kp:=by
 unfold Zf;rcases yK k hm with⟨rfl,em⟩|⟨vm,km,rfl,em⟩
 ·rw[em];refine aA (aq ?_);rcases yK k hh with⟨rfl,eh⟩|⟨vh,kh,rfl,eh⟩
  ·rw[eh];refine aA (aq ?_);rcases yK k hl with⟨rfl,el⟩|⟨vl,kl,rfl,el⟩
   ·rw[el];exact aA (aq (aq (by simpa using hK)))
   ·rw[el];simp only[S8,Vm]at c0 c1 c2;exact aA (As c0 c1 (aq (by simpa using hK)))
  ·rw[eh];simp only[S8,Vm]at c0 c1 c2 c3;refine aA (As (by omega) c2 ?_);rcases yK k hl with⟨rfl,el⟩|⟨vl,kl,rfl,el⟩
   ·rw[el];exact aA (aq (aq (by simpa using hK)))
   ·rw[el];simp only[S8,Vm]at c0 c1 c2;exact aA (As c0 (by omega) (aq (by simpa using hK)))
 ·rw[em];simp only[S8,Option.isSome_some,true_implies]at c2 c3 c4;rcases yK k hh with⟨rfl,eh⟩|⟨vh,kh,rfl,eh⟩
  ·cases c4
  ·rw[eh];simp only[S8]at c1 c2 c0;refine aA (As (by omega) c3 ?_);refine aA (As (by omega) (by omega) ?_);rcases yK k hl with⟨rfl,el⟩|⟨vl,kl,rfl,el⟩
   ·rw[el];exact aA (aq (aq (by simpa using hK)))
   ·rw[el];simp only[S8]at c0 c1;exact aA (As c0 (by omega) (aq (by simpa using hK)))
end
def wP (n:Nat)(l:List AV)(e:End)(sz:Nat)(lo hi mx:Option Int)(k:AV->Prop):Prop:=
 l.length=n* sz/\0<=lo.getD 0/\lo.getD 0<=hi.getD n/\hi.getD n<=mx.getD n/\mx.getD n<=n/\(mx.isSome=true->hi.isSome=true)/\
 k (.sl ((hi.getD n).toNat-(lo.getD 0).toNat) ((l.drop ((lo.getD 0).toNat* sz)).take (((hi.getD n).toNat-(lo.getD 0).toNat)* sz))
  (if mx.isSome&&mx.getD n==hi.getD n then .exact else if lo.getD 0==0&&hi.getD n==n&&mx.isNone then e else .shut))
def kv (P:SJ)(t:TypeId):Option (TypeId×Nat):=match P.underlying t with
 |some (.slice e)=>(P.info? e).map λi=>(e,i.size)
 |_=>none
def wL (P:SJ)(t:TypeId):Option (Nat×Nat):=match P.underlying t with
 |some (.array n e)=>(P.info? e).map λi=>(n,i.size)
 |_=>none
open Go.Conc
section
variable {lv:Bool}{P:SJ}{r:Option Nat}{o:Tx}{s:AS}{next:AS->Prop}{bad:AV->AS->Prop}
theorem ao2{t e:TypeId}{x:Tm}{lo hi mx:Option Tm}{l h m:Option Int}{n sz:Nat}{li:List AV}{en:End}(ho:o.op=.slice t x lo hi mx)(ht:kv P t=some (e,sz))(hx:s.ev x=some (.sl n li en))(hl:s.iS lo=some l)(hh:s.iS hi=some h)(hm:s.iS mx=some m)
  {k:AV->Prop} (hc:wP n li en sz l h m k):∃av,dz lv P r o s av/\k av:=by
 obtain⟨hlen,c0,c1,c2,c3,c4,hk⟩:=hc;refine⟨_,iL (λE V a hc aF=> ?_),hk⟩;have hd:=ap.ev aF hx;generalize hv:a.eval x=v at hd;unfold kv at ht;split at ht
 ·rename_i e' hu;obtain⟨i,cD,ht⟩:=kY ht;cases ht;unfold execOp;rw[ho];simp only[hv];refine aA ?_;unfold Yj;refine ej hu ?_;dsimp only;unfold Z4;refine ej hu ?_;obtain⟨base,cap,rfl⟩:∃base cap,v=.slice base n cap:=by
   cases hd with
   |sl b o cap f dP he q1 q2=>exact⟨_,_,rfl⟩
   |nil he=>exact⟨_,_,rfl⟩
  have dP:n<=cap:=by
   cases hd with
   |sl b o cap f dP he q1 q2=>exact dP
   |nil he=>exact SR _
  dsimp only;have hmm:m.getD (cap:Int)=if m.isSome then m.getD n else cap:=by cases m<;>simp
  refine aA (M5 aF hl hh hm dP c0 c1 ?_ ?_ c4 ?_)
  ·cases m with
   |none=>simp only[Vm]at c2⊢;omega
   |some m=>simpa using c2
  ·cases m with
   |none=>simp
   |some m=>simp only[S8]at c3⊢;omega
  refine jV cD ?_;refine aq (aq ⟨rfl,_,rfl,?_⟩);generalize hA:(l.getD 0).toNat=A;generalize hB:(h.getD (n:Int)).toNat=B;have QC:A<=B:=by omega
  have hBn:B<=n:=by omega
  generalize hM:(m.getD (cap:Int)).toNat=M;have hBM:B<=M:=by
   cases m with
   |none=>simp only[Vm]at hM;omega
   |some m=>simp only[S8]at hM c2;omega
  cases hd with
  |nil he=>
   have EM:A=0:=(by omega);have hB0:B=0:=(by omega);have hM0:M=0:=by
    cases m with
    |none=>simp only[Vm]at hM;omega
    |some m=>simp only[S8]at hM c3;omega
   rw[EM,hB0,hM0];simp only[if_true,Z3,Z7,an'];refine .nil ?_;split
   ·rfl
   ·split
    ·exact he
    ·trivial
  |sl b o cap f dP he q1 q2=>
   have BZ:(if M=A then some (⟨b,o,none⟩:U3)else(some (⟨b,o,none⟩:U3)).map λx=>x.add (A* i.size))=some ⟨b,if M=A then o else o+A* i.size,none⟩:=by
    split
    ·rfl
    ·simp only[UM,add_plain]
   rw[BZ];have hb:(B-A)* i.size+A* i.size<=n* i.size:=(by rw[<- Va];exact Uf _ (by omega));refine .sl b _ (M-A) (λj=>f (A* i.size+j)) (by omega) ?_ (λj hj=> ?_) (λj y hj=> ?_)
   ·split
    ·rename_i hx;simp only[Tc,beq_iff_eq]at hx;cases m with
     |none=>simp at hx
     |some m=>
      simp only[S8]at hM hx;show M-A=B-A;omega
    ·split
     ·rename_i hx;simp only[Tc,beq_iff_eq]at hx;obtain⟨⟨x1,x2⟩,x3⟩:=hx;have:A=0:=(by omega);have:B=n:=(by omega);cases m with
      |some m=>cases x3
      |none=>
       simp only[Vm]at hM;have hMc:M=cap:=(by omega);subst hMc;have e1:M-A=M:=(by omega);have e2:B-A=n:=(by omega);have e3:(if M=A then o else o+A* i.size)=o:=(by split<;>simp_all);rw[e1,e2,e3];exact he
     ·trivial
   ·simp only[Ub,Ul]at hj;have hMA:M≠A:=by
     intro e;have:B-A=0:=(by omega);rw[this]at hj;omega
    rw[if_neg hMA,XD];exact q1 _ (by omega)
   ·rw[Uc]at hj;split at hj
    ·rw[Um]at hj;exact q2 _ _ hj
    ·cases hj
 ·cases ht
def si (id off n cap sz:Nat)(lo hi mx:Option Int)(k:AV->Prop):Prop:=
 n<=cap/\0<=lo.getD 0/\lo.getD 0<=hi.getD n/\hi.getD n<=mx.getD cap/\mx.getD cap<=cap/\(mx.isSome=true->hi.isSome=true)/\(lo.getD 0=0\/lo.getD 0<mx.getD cap)/\
 k (.bJ id (off+(lo.getD 0).toNat* sz) ((hi.getD n).toNat-(lo.getD 0).toNat) ((mx.getD cap).toNat-(lo.getD 0).toNat))
theorem ao4{t e:TypeId}{x:Tm}{lo hi mx:Option Tm}{l h m:Option Int}{id off n cap sz:Nat}(ho:o.op=.slice t x lo hi mx)(ht:kv P t=some (e,sz))(hx:s.ev x=some (.bJ id off n cap))(hl:s.iS lo=some l)(hh:s.iS hi=some h)(hm:s.iS mx=some m)
  {k:AV->Prop} (hc:si id off n cap sz l h m k):∃av,dz lv P r o s av/\k av:=by
 obtain⟨hlen,c0,c1,c2,c3,c4,c5,hk⟩:=hc;refine⟨_,iL (λE V a hc aF=> ?_),hk⟩;have hd:=ap.ev aF hx;generalize hv:a.eval x=v at hd;unfold kv at ht;split at ht
 ·rename_i e' hu;obtain⟨i,cD,ht⟩:=kY ht;cases ht;unfold execOp;rw[ho];simp only[hv];refine aA ?_;unfold Yj;refine ej hu ?_;dsimp only;unfold Z4;refine ej hu ?_;cases hd with
  |bJ cg dP=>
   rename_i cap';obtain rfl:cap=cap':=dP.2.1 hlen;dsimp only;refine aA (M5 aF hl hh hm hlen c0 c1 c2 c3 c4 ?_);refine jV cD ?_;refine aq (aq ⟨rfl,_,rfl,?_⟩);have BZ:(if(m.getD (cap:Int)).toNat=(l.getD 0).toNat then some (⟨E.blk id,off,none⟩:U3)else(some (⟨E.blk id,off,none⟩:U3)).map λx=>x.add ((l.getD 0).toNat* i.size))=some ⟨E.blk id,off+(l.getD 0).toNat* i.size,none⟩:=by
    split
    ·have:(l.getD 0).toNat=0:=(by omega);rw[this];simp
    ·simp only[UM,add_plain]
   rw[BZ];exact .bJ cg ⟨by dsimp only;omega,λ_=>rfl,λh=>absurd h (by omega)⟩
 ·cases ht
theorem ao3{t:TypeId}{x:Tm}{lo hi mx:Option Tm}{l h m:Option Int}{id off n sz:Nat}(ho:o.op=.slice t x lo hi mx)(ht:wL P t=some (n,sz))(hx:s.ev x=some (.op id off))(hl:s.iS lo=some l)(hh:s.iS hi=some h)(hm:s.iS mx=some m)
  {k:AV->Prop} (hc:si id off n n sz l h m k):∃av,dz lv P r o s av/\k av:=by
 obtain⟨hlen,c0,c1,c2,c3,c4,c5,hk⟩:=hc;refine⟨_,iL (λE V a hc aF=> ?_),hk⟩;have hd:=ap.ev aF hx;generalize hv:a.eval x=v at hd;unfold wL at ht;split at ht
 ·rename_i m' e' hu;obtain⟨i,cD,ht⟩:=kY ht;cases ht;unfold execOp;rw[ho];simp only[hv];refine aA ?_;unfold Yj;refine ej hu ?_;cases hd with
  |op cg=>
   dsimp only;unfold U9;refine aA (aq ?_);refine aA (M5 aF hl hh hm hlen c0 c1 c2 c3 c4 ?_);refine jV cD ?_;refine aq (aq ⟨rfl,_,rfl,?_⟩);have BZ:(if(m.getD (n:Int)).toNat=(l.getD 0).toNat then(⟨E.blk id,off,none⟩:U3)else(⟨E.blk id,off,none⟩:U3).add ((l.getD 0).toNat* i.size))=⟨E.blk id,off+(l.getD 0).toNat* i.size,none⟩:=by
    split
    ·have:(l.getD 0).toNat=0:=(by omega);rw[this];simp
    ·rw[add_plain]
   rw[BZ];exact .bJ cg ⟨by dsimp only;omega,λ_=>rfl,λh=>absurd h (by omega)⟩
 ·cases ht
theorem aqJ{c:Xn}{x y:Tm}{t t' e:TypeId}{id off n cap sz m:Nat}{l l':List AV}{el:TypeId}{av:AV}(ho:o.op=.call c)(aY:c.callee=.builtin .copy)(cK:c.args=#[x,y]) (dR:c.argTypes=#[t,t']) (ht:kv P t=some (e,sz)) (hx:s.ev x=some (.bJ id off n cap))
  (hk:s.H[id]?=some (.cells l el)) (hy:s.ev y=some av) (hs:s.src sz av=some (m,l')) (eN:l'.length=m* sz) (hl:off+min m n* sz<=l.length) (nB:∀a∈l',a.leaf=true)
  (hn:next ((⟨s.T,s.H.set id (.cells (iy l off (l'.take (min m n* sz))) el)⟩:AS).put o.dst (.val (.int .i64 (min m n:Nat))))):Step lv P r o s next bad:=by
 intro E V a N Q hc aF hd bx h1 _;refine⟨bx,?_⟩;have du:=ap.ev aF hx;have iF:=ap.ev aF hy;generalize ki:a.eval x=vx at du;generalize rD:a.eval y=vy at iF;unfold execOp;rw[ho];dsimp only;unfold resolve;rw[aY];dsimp only;refine aA (aq ?_);unfold invoke builtin;dsimp only;refine aA ?_;have nC:c.args.map a.eval=#[vx,vy]:=by rw[cK];simp[ki,rD]
 rw[nC,dR];unfold kv at ht;split at ht
 ·rename_i e' hu;obtain⟨i,cD,ht⟩:=kY ht;cases ht;cases du with
  |bJ cg _=>
   obtain⟨⟨cs,p1,p2⟩,p3⟩:=hc.obj id _ hk;obtain⟨g1,g2⟩:=hc.jf hk rfl;unfold at4;simp only[Ve,Vp,UI];refine ej hu ?_;dsimp only;rw[G9 iF hs];refine aA (aq ?_);refine jV cD ?_;refine aA (Dh hc iF hs eN (ZM _ _) λjq lf=> ?_);have h2:(l'.take (min m n* i.size)).length=min m n* i.size:=by
    have:min m n* i.size<=m* i.size:=Uf _ (ZM _ _);simp;omega
   refine aA (Au _ 0 V cs g1 g2 p1 (λo _ _=>p3 o) (by
    have hq:jq.size=min m n* i.size:=(by(rw[lf.1];exact h2));have:=p2.1;simp only[Array.length_toList];omega) (Bx lf (λa ha=>nB a (Wv ha))) ?_)
   rw[UK];refine aq (aq (h1 E _ (a.put o.dst _) _ ⟨Env.Le.refl E,d_ _ _ _,put_defers _ _ _,rfl,rfl⟩ (by rw[fl];exact hc.set hk (IG p2 lf (by rw[h2];exact hl)))
    (cj.gQ (s:=⟨s.T,s.H.set id (.cells (iy l off (l'.take (min m n* i.size))) el)⟩) aF hd (.val _)) hn))
 ·cases ht
def AU (P:SJ)(t:TypeId):Option (TypeId×Nat×SP):=match P.underlying t with
 |some (.slice e)=>(P.info? e).bind λi=>i.zero.bind λz=>if z.cells.size=i.size/\i.bytes<=2^16 then some (e,i.size,z)else none
 |_=>none
theorem acL{t e:TypeId}{x y:Tm}{n sz:Nat}{z:SP}{k k':TU}(ho:o.op=.makeSlice t x y)(ht:AU P t=some (e,sz,z))(hx:s.ev x=some (.val (.int k n)))(hy:s.ev y=some (.val (.int k' n)))(hb:n<=2^30)
  (hn:next ((⟨s.T,s.H++[.cells (gI z (n* sz)) e]⟩:AS).put o.dst (.bJ s.H.length 0 n n))):Step lv P r o s next bad:=by
 intro E V a N Q hc aF hd bx h1 _;refine⟨bx,?_⟩;have du:=ap.ev aF hx;have iF:=ap.ev aF hy;generalize ki:a.eval x=vx at du;generalize rD:a.eval y=vy at iF;cases du;cases iF;unfold AU at ht;split at ht
 ·rename_i e' hu;obtain⟨i,q1,ht⟩:=Tg.1 ht;obtain⟨z',q2,ht⟩:=Tg.1 ht;split at ht
  ·rename_i xx;cases ht;unfold execOp;rw[ho];simp only[ki,rD];refine aA ?_;unfold Instr.makeSlice;refine ej hu ?_;dsimp only;refine aA (aq ?_);refine aA (aq ?_);refine yk q1 ?_;have hw:SF.wrap (n:Int)=n:=bG _ (by omega);rw[hw];have hmul:i.bytes* n<=2^16* 2^30:=ZT xx.2 hb;have ath:(i.bytes:Int)* n<=2^46:=(by exact_mod_cast hmul);rw[if_neg (by simp;omega)];refine aA (ab9 ?_);refine jV q1 ?_;rw[VA];have fin:∀(zero:Array SP),(∀j,j<n* i.size->zero[j % zero.size]! =z.cells[j % z.cells.size]!)->aP P V (do let a<- newRow e ((WL (n* i.size)).map (zero[· % zero.size]!));pure (Up (some a) n n)) (λx V'=>aP P V' (pure (W5 x)) (mE lv P r o a N Q) (λv V'=>Q (.panic [{v,recovered:=false}]) a V')) (λv V'=>Q (.panic [{v,recovered:=false}]) a V'):=by
    intro zero hz;unfold newRow;refine aA (aA (oB λrr hf=>cG (aq (aq (aq ?_)))));have hle:E.Le (E.add rr V.ab):=E.qj rr (λb o v h=>by rw[<- hc.I];exact h);have ajI:(WL (n* i.size)).map (zero[· % zero.size]!)=(WL (n* i.size)).map (λx=>z.cells[x % z.cells.size]!):=by
     apply VD;simp only[VL];apply VB;intro j hj;exact hz j (by simpa using hj)
    rw[ajI];have bi:Conc (E.add rr V.ab) (V.upd rr (.cells ((WL (n* i.size)).map (λx=>z.cells[x % z.cells.size]!)) e)) (s.H++[.cells (gI z (n* i.size)) e]):=by
     refine hc.add hf _ ⟨⟨_,?_,IH z _⟩,λo=> ?_⟩ (λb e=> ?_)
     ·rw[Env.dI];simp[View.upd]
     ·rw[Env.dI];exact hf.2 o
     ·simp only[bM,Env.dI,Tn]at e;exact e.symm
    have bk:ap (E.add rr V.ab) (.bJ s.H.length 0 n n) (.slice (some ⟨rr,0,none⟩) n n):=by
     have:=ap.bJ (E:=E.add rr V.ab) (id:=s.H.length) (off:=0) (n:=n) (cap:=n) (cap':=n) (by show _<E.n+1;rw[hc.n];omega) ⟨SR _,λ_=>rfl,λh=>absurd h (Nat.lt_irrefl _)⟩;have e:(E.add rr V.ab).blk s.H.length=rr:=(by rw[<- hc.n];exact E.dI rr _);rwa [e]at this
    exact h1 _ _ (a.put o.dst _) ((⟨s.T,s.H++[.cells (gI z (n* i.size)) e]⟩:AS).put o.dst (.bJ s.H.length 0 n n)) ⟨hle,d_ _ _ _,put_defers _ _ _,rfl,rfl⟩ (by rw[fl];exact bi)
     (cj.gQ (s:=⟨s.T,s.H++[.cells (gI z (n* i.size)) e]⟩) (aF.mono hle) hd bk) hn
   by_cases h0:n* i.size=0
   ·rw[if_pos h0];refine aA (aq ?_);exact fin #[] (λj hj=>by omega)
   ·rw[if_neg h0];refine aA (aA ?_);unfold typeInfo;refine aA (qq (cG ?_));rw[q1];refine aq ?_;rw[q2];refine aq (aA (aq ?_));exact fin z.cells (λj _=>rfl)
  ·cases ht
 ·cases ht
def AV.Am:AV->Option SP
 |.val x=>some x
 |_=>none
def AV.raw:AV->Option SP
 |.val x=>some x
 |.agg l=>(l.mapM AV.Am).map λvs=> .agg vs.toArray
 |_=>none
theorem ap.Am{E:Env}{a:AV}{v x:SP}(h:ap E a v)(hr:a.Am=some x):v=x:=by
 cases h<;>cases hr;rfl
theorem ap.raw{E:Env}{a:AV}{v x:SP}(h:ap E a v)(hr:a.raw=some x):v=x:=by
 cases h with
 |val=>cases hr;rfl
 |agg hs h=>
  obtain⟨vs,h1,rfl⟩:=kY hr;congr 1;rename_i l cs;have key:∀(l:List AV)(vs:List SP)(cs:List SP),l.mapM AV.Am=some vs->cs.length=l.length->(∀(i:Nat) a,l[i]?=some a->ap E a (cs.getD i undef))->cs=vs:=by
   intro l;induction l with
   |nil=>intro vs cs h1 h2 _;simp at h1;subst h1;simpa using h2
   |cons a l ih=>
    intro vs cs h1 h2 h3;simp only[T8,Uh,TP,Tg,Tn]at h1;obtain⟨b,e1,bs,e2,rfl⟩:=h1;cases cs with
    |nil=>simp at h2
    |cons c cs=>
     have hc:=(h3 0 a rfl).Am e1;have:=ih bs cs e2 (by simpa using h2) (λi x hx=>by simpa using h3 (i+1) x (by simpa using hx));subst this;simp only[Xl]at hc;rw[hc]
  have:=key l vs cs.toList h1 (by simpa using hs) (λi a e=>by have:=h i a e;rw[SI]at this;simpa[SE]using this);rw[<- this]
 |_=>cases hr
def yT:SP->SP->Bool
 |.agg _,.agg _=>true
 |.bool _,.bool _=>true
 |_,_=>false
theorem aoF{op:V_}{xt yt:TypeId}{x y:Tm}{a b:AV}{X Y:SP}{e:Bool}(ho:o.op=.binOp op xt x y yt)(au:op=.eql\/op=.neq)(hx:s.ev x=some a)(hy:s.ev y=some b)(hX:a.raw=some X)(hY:b.raw=some Y)(hk:yT X Y=true)(hg:P.eqGuardType P.depth xt=false)(he:cJ P (Xm xt X Y) e):
  dz lv P r o s (.val (.bool (if op== .neq then !e else e))):=
 iL (λE V ac hc aF=>by
  have e1:=(ap.ev aF hx).raw hX;have e2:=(ap.ev aF hy).raw hY;unfold execOp;rw[ho];simp only[e1,e2];refine aA ?_;have guard:∀{K:Unit->View->Prop},K () V->aP P V (eqGuard op xt x y X Y) K (λ_ _=>False):=λhK=>by
   unfold eqGuard;unfold yT at hk;split at hk
   ·rcases au with rfl|rfl
    all_goals
     simp only[an_,TN,if_false];refine aA (qq (cG ?_));refine aA (qq (cG ?_));rw[hg];exact aq hK
   ·rcases au with rfl|rfl<;>exact aq hK
   ·cases hk
  refine aA (guard ?_);unfold yT at hk;split at hk
  ·rcases au with rfl|rfl<;>(unfold binOp;refine he.bind (aq (aq ⟨rfl,_,rfl,?_⟩));exact .val _)
  ·rcases au with rfl|rfl<;>(unfold binOp;refine he.bind (aq (aq ⟨rfl,_,rfl,?_⟩));exact .val _)
  ·cases hk)
theorem aha{t:TypeId}{v:SP}{b:Bool}{V:View}{K:Bool->View->Prop}{Kp:SP->View->Prop}(ht:mm P t=some true)(hv:(v=.nilIface/\b=true)\/((∃u x,v=.iface u x)/\b=false))(hk:K b V):aP P V (Xm t v .nilIface) K Kp:=by
 obtain⟨el,hu⟩:∃el,P.underlying t=some (.interface el):=by
  unfold mm at ht;cases h:P.underlying t with
  |none=>rw[h]at ht;cases ht
  |some d=>
   rw[h]at ht;cases d<;>first|exact⟨_,rfl⟩|(simp at ht)
 have e:Xm t v .nilIface=Vx (9999+1) t v .nilIface:=rfl;rw[e,Vx];refine ej hu ?_;rcases hv with⟨rfl,rfl⟩|⟨⟨u,x,rfl⟩,rfl⟩
 ·exact aq hk
 ·exact aq hk
theorem abM{op:V_}{xt yt:TypeId}{x:Tm}{a:AV}{b:Bool}(ho:o.op=.binOp op xt x (.const .nilIface) yt)(au:op=.eql\/op=.neq)(hx:s.ev x=some a)(ha:(a=.val .nilIface/\b=true)\/((∃u y,a=.cZ u y)/\b=false))(ht:mm P xt=some true):
  dz lv P r o s (.val (.bool (if op== .neq then !b else b))):=
 iL (λE V ac hc aF=>by
  have hd:=ap.ev aF hx;generalize ki:ac.eval x=vx at hd;have hv:(vx=.nilIface/\b=true)\/((∃u y,vx=.iface u y)/\b=false):=by
   rcases ha with⟨rfl,rfl⟩|⟨⟨u,y,rfl⟩,rfl⟩
   ·cases hd;exact .inl ⟨rfl,rfl⟩
   ·cases hd;exact .inr ⟨⟨_,_,rfl⟩,rfl⟩
  have hy:ac.eval (.const .nilIface)=.nilIface:=rfl;unfold execOp;rw[ho];simp only[ki,hy];refine aA ?_;have guard:∀{K:Unit->View->Prop},K () V->aP P V (eqGuard op xt x (.const .nilIface) vx .nilIface) K (λ_ _=>False):=λhK=>by
   unfold eqGuard;rcases hv with⟨rfl,_⟩|⟨⟨u,y,rfl⟩,_⟩<;>rcases au with rfl|rfl<;>first|exact aq hK|(simp;exact aq hK)
  refine aA (guard ?_);rcases hv with⟨rfl,rfl⟩|⟨⟨u,y,rfl⟩,rfl⟩<;>rcases au with rfl|rfl<;>(unfold binOp;refine aA (aha (b:=_) ht (by first|exact .inl ⟨rfl,rfl⟩|exact .inr ⟨⟨_,_,rfl⟩,rfl⟩) (aq (aq ⟨rfl,_,rfl,?_⟩)));exact .val _))
theorem PC{t:TypeId}{d:TypeId×Nat}{b:Option U3}{n cap:Nat}{V:View}{K:Bool->View->Prop}{Kp:SP->View->Prop}(ht:kv P t=some d)(hk:K b.isNone V):aP P V (Xm t (.slice b n cap) (.slice none 0 0)) K Kp:=by
 obtain⟨el,hu⟩:∃el,P.underlying t=some (.slice el):=by
  unfold kv at ht;split at ht
  ·rename_i e he;exact⟨e,he⟩
  ·cases ht
 have e:Xm t (.slice b n cap) (.slice none 0 0)=Vx (9999+1) t (.slice b n cap) (.slice none 0 0):=rfl;rw[e,Vx];refine ej hu ?_;cases b with
 |none=>exact aq hk
 |some a=>exact aq hk
theorem aqQ{op:V_}{t yt:TypeId}{x:Tm}{n:Nat}{av:AV}{d:TypeId×Nat}(ho:o.op=.binOp op t x (.const (.slice none 0 0)) yt)(au:op=.eql\/op=.neq)(hx:s.ev x=some av)(hlen:av.len=some n)(ht:kv P t=some d)
  (hn:∀b:Bool,(0<n->b=false)->next (s.put o.dst (.val (.bool (if op== .neq then !b else b))))):Step lv P r o s next bad:=by
 intro E V a N Q hc aF hd bx h1 _;refine⟨bx,?_⟩;have du:=ap.ev aF hx;generalize ki:a.eval x=vx at du;obtain⟨base,cap,rfl,hb⟩:∃base cap,vx=.slice base n cap/\(0<n->base.isNone=false):=by
  cases du with
  |sl b o cap f dP he q1 q2=>cases hlen;exact⟨_,_,rfl,λ_=>rfl⟩
  |nil he=>cases hlen;exact⟨_,_,rfl,λh=>absurd h (by omega)⟩
  |bJ hi=>cases hlen;exact⟨_,_,rfl,λ_=>rfl⟩
  |_=>cases hlen
 unfold execOp;rw[ho];have hy:a.eval (.const (.slice none 0 0))=.slice none 0 0:=rfl;simp only[ki,hy];have fin:aP P V (pure (W5 (.bool (if op== .neq then !base.isNone else base.isNone)))) (mE lv P r o a N Q) (λv V'=>Q (.panic [{v,recovered:=false}]) a V'):=
  aq (h1 E V (a.put o.dst _) _ ⟨Env.Le.refl E,d_ _ _ _,put_defers _ _ _,rfl,rfl⟩ (by rw[fl];exact hc) (aF.gQ hd (.val _)) (hn _ hb))
 rcases au with rfl|rfl
 ·refine aA (aA (aq ?_));unfold binOp;exact aA (PC ht (aq fin))
 ·refine aA (aA (aq ?_));unfold binOp;exact aA (PC ht (aq fin))
theorem aoU{c:Xn}{x y:Tm}{k j:TU}{m n:Int}(ho:o.op=.call c)(aY:c.callee=.builtin .max)(cK:c.args=#[x,y]) (hx:s.ev x=some (.val (.int k m))) (hy:s.ev y=some (.val (.int j n))):dz lv P r o s (.val (.int k (if n>m then n else m))):=
 rO (λE V a hc aF=>by
  have h1:=ap.ev aF hx;have h2:=ap.ev aF hy;generalize o5:a.eval x=v1 at h1;generalize td:a.eval y=v2 at h2;cases h1;cases h2;refine⟨_,?_,.val _⟩;unfold execOp;rw[ho];dsimp only;unfold resolve;rw[aY];have nC:c.args.map a.eval=#[.int k m,.int j n]:=by rw[cK];simp[o5,td]
  rw[nC];rfl)
theorem aoV{c:Xn}{x y:Tm}{k j:TU}{m n:Int}(ho:o.op=.call c)(aY:c.callee=.builtin .min)(cK:c.args=#[x,y]) (hx:s.ev x=some (.val (.int k m))) (hy:s.ev y=some (.val (.int j n))):dz lv P r o s (.val (.int k (if n<m then n else m))):=
 rO (λE V a hc aF=>by
  have h1:=ap.ev aF hx;have h2:=ap.ev aF hy;generalize o5:a.eval x=v1 at h1;generalize td:a.eval y=v2 at h2;cases h1;cases h2;refine⟨_,?_,.val _⟩;unfold execOp;rw[ho];dsimp only;unfold resolve;rw[aY];have nC:c.args.map a.eval=#[.int k m,.int j n]:=by rw[cK];simp[o5,td]
  rw[nC];rfl)
theorem abL{x:Tm}{xt aG t:TypeId}{ok:Bool}{av:AV}{z:SP}(ho:o.op=.typeAssert x xt aG ok)(ht:mm P aG=some false)(hz:eO P aG=some z)(hx:s.ev x=some (.cZ t av))(az:ok=true\/t=aG):
  dz lv P r o s (if t=aG then(if ok then .aJ [av,.val (.bool true)]else av)else .aJ [AV.of z,.val (.bool false)]):=
 iL (λE V a hc aF=>by
  have hd:=ap.ev aF hx;generalize hv:a.eval x=v at hd;cases hd with
  |cZ hd=>
   obtain⟨d,hu,iW⟩:=kY ht;unfold execOp;rw[ho];simp only[hv];refine aA ?_;unfold Zp;refine ej hu ?_;split
   ·rename_i h;cases iW
   ·rename_i h;cases iW
   ·rename_i h;cases h
   ·rename_i t' v' h;cases h;by_cases e:t=aG
    ·rw[if_pos e,if_pos e];cases ok
     ·exact aq (aq ⟨rfl,_,rfl,hd⟩)
     ·refine aq (aq ⟨rfl,_,rfl,.aJ rfl λi b hb=> ?_⟩)
      match i,hb with
      |0,hb=>cases hb;exact hd
      |1,hb=>cases hb;exact .val _
    ·rw[if_neg e,if_neg e];have o1:ok=true:=az.resolve_right e;subst o1;simp only[if_true];refine aA (aA ?_);unfold eO at hz;obtain⟨inf,z1,z2⟩:=Tg.1 hz;unfold typeInfo;refine aA (qq (cG ?_));rw[z1];refine aq ?_;rw[z2];refine aq (aq (aq ⟨rfl,_,rfl,.aJ rfl λi b hb=> ?_⟩))
     match i,hb with
     |0,hb=>cases hb;exact sC E z
     |1,hb=>cases hb;exact .val _
   ·exfalso;simp_all)
theorem aoz{x:Tm}{xt aG:TypeId}{z:SP}(ho:o.op=.typeAssert x xt aG true)(ht:mm P aG=some false)(hz:eO P aG=some z)(hx:s.ev x=some (.val .nilIface)):dz lv P r o s (.aJ [AV.of z,.val (.bool false)]):=
 iL (λE V a hc aF=>by
  have hd:=ap.ev aF hx;generalize hv:a.eval x=v at hd;cases hd;obtain⟨d,hu,iW⟩:=kY ht;unfold execOp;rw[ho];simp only[hv];refine aA ?_;unfold Zp;refine ej hu ?_;unfold eO at hz;obtain⟨inf,z1,z2⟩:=Tg.1 hz;split
  ·rename_i h;cases iW
  ·rename_i h;cases h
  ·simp only[if_true];refine aA (aA ?_);unfold typeInfo;refine aA (qq (cG ?_));rw[z1];refine aq ?_;rw[z2];refine aq (aq (aq ⟨rfl,_,rfl,.aJ rfl λi b hb=> ?_⟩))
   match i,hb with
   |0,hb=>cases hb;exact sC E z
   |1,hb=>cases hb;exact .val _
  ·rename_i h;cases h
  ·exfalso;simp_all)
def HT (P:SJ)(t:TypeId)(name:String):Prop:=∀v,cJ P (nilAhead (P.types.size+Made.depth) t v name) (some false)
theorem aoY{x:Tm}{name:String}{t:TypeId}{av:AV}(ho:o.op=.nilCheck x)(hx:s.ev x=some (.fn (.method name) [.cZ t av] []))(hn:HT P t name):dz lv P r o s (.fn (.method name) [.cZ t av] []):=
 iL (λE V a hc aF=>by
  have hd:=ap.ev aF hx;unfold execOp;rw[ho];dsimp only;generalize hv:a.eval x=v at hd⊢;have cC:=hd;cases hd with
  |fn dL fP h1 h2=>
   rename_i fa ca;have hfa:fa.size=1:=dL;have:=h1 0 _ rfl;rw[SI,SK (by omega)]at this;simp only[S8]at this;have hg:fa[0]?=some fa[0]:=SK (by omega);generalize hq:fa[0]=q at this hg;cases this with
   |cZ jE=>
    dsimp only;rw[hg];dsimp only;refine aA (qq (cG ?_));refine(hn _).bind ?_;simp only[bne_self_eq_false,TN,if_false];exact aq ⟨rfl,_,rfl,cC⟩)
def oI (P:SJ)(t:TypeId):Option (TypeId×TypeId):=match P.underlying t with
 |some (.map k e)=>some (k,e)
 |_=>none
def wy (es:Array Wn)(ck:Nat)(k x:SP):Option (Nat×SP)->Obj
 |none=> .map (es.push {key:=k,val:=x,born:=ck}) (ck+1)
 |some (i,_)=> .map (es.modify i λe=>{e with key:=k,val:=x}) ck
theorem aqM{t kt et:TypeId}{m k x:Tm}{id ck:Nat}{es:Array Wn}{a b:AV}{K X:SP}{fd:Option (Nat×SP)}(ho:o.op=.mapUpdate t m k x\/o.op=.insert t m k x)(ht:oI P t=some (kt,et))(hm:s.ev m=some (.mp id))(hk:s.ev k=some a)(hx:s.ev x=some b)(hK:a.raw=some K)(hX:b.raw=some X)
  (hH:s.H[id]?=some (.obj (.map es ck))) (hc:cJ P (U_ false 10000 kt K) ()) (hf:cJ P (VN kt K es.toList) fd) (FO:∀i v,fd=some (i,v)->WE 10000 (((es[i]?).map (·.key)).getD K) K=true)
  (hn:next ((⟨s.T,s.H.set id (.obj (wy es ck K X fd))⟩:AS).put o.dst (.val undef))):Step lv P r o s next bad:=by
 intro E V ac N Q iV aF hd bx h1 _;refine⟨bx,?_⟩;have e1:=(ap.ev aF hk).raw hK;have e2:=(ap.ev aF hx).raw hX;have oS:=ap.ev aF hm;generalize xS:ac.eval m=vm at oS;cases oS;obtain⟨p1,p2,p3,p4⟩:=iV.obj id _ hH;obtain⟨g1,g2⟩:=iV.jf hH rfl;have go:aP P V (do Zz t (.map (some (E.blk id))) K X;pure Next.skip) (mE lv P r o ac N Q) (λv V'=>Q (.panic [{v,recovered:=false}]) ac V'):=by
  refine aA ?_;unfold oI at ht;split at ht
  ·rename_i k' e' hu;cases ht;unfold Zz;refine ej hu ?_;dsimp only;refine aA (nR p1 p2 p3 g2 (cG ?_));dsimp only;refine hc.bind (hf.bind ?_);have fin:∀y,y=wy es ck K X fd->aP P V (setObj (E.blk id) y) (λ_ V'=>aP P V' (pure Next.skip) (mE lv P r o ac N Q) (λv V'=>Q (.panic [{v,recovered:=false}]) ac V')) (λv V'=>Q (.panic [{v,recovered:=false}]) ac V'):=λy hy=>by
    have fQ:y.uF=false:=(by rw[hy];cases fd<;>rfl);have hy2:y.isChan=false:=(by rw[hy];cases fd<;>rfl);refine yj p1 p2 hy2 g2 (cG (aq ?_));exact h1 E _ (ac.put o.dst undef) _ ⟨Env.Le.refl E,d_ _ _ _,put_defers _ _ _,rfl,rfl⟩ (by rw[fl];rw[hy];exact iV.setObj hH (by cases fd<;>rfl) (by cases fd<;>rfl))
     (cj.gQ (s:=⟨s.T,s.H.set id (.obj (wy es ck K X fd))⟩) aF hd (.val undef)) hn
   cases fd with
   |none=>exact fin _ rfl
   |some iv=>
    obtain⟨i,v⟩:=iv;dsimp only;unfold Instr.keyThatStays;rw[FO i v rfl];simp only[if_true];exact aA (aq (fin _ rfl))
  ·cases ht
 unfold execOp;rcases ho with ho|ho
 all_goals
  rw[ho];simp only[xS,e1,e2];exact go
def Et (es:Array Wn):Option (Nat×SP)->Array Wn
 |some (i,_)=>es.eraseIdxIfInBounds i
 |none=>es
theorem aqK{c:Xn}{t t' kt et:TypeId}{m k:Tm}{id ck:Nat}{es:Array Wn}{a:AV}{K:SP}{fd:Option (Nat×SP)}(ho:o.op=.call c)(aY:c.callee=.builtin .delete)(cK:c.args=#[m,k]) (dR:c.argTypes=#[t,t']) (ht:oI P t=some (kt,et)) (hm:s.ev m=some (.mp id)) (hk:s.ev k=some a) (hK:a.raw=some K)
  (hH:s.H[id]?=some (.obj (.map es ck))) (hc:cJ P (U_ es.isEmpty 10000 kt K) ()) (hf:cJ P (VN kt K es.toList) fd)
  (hn:next ((⟨s.T,s.H.set id (.obj (.map (Et es fd) ck))⟩:AS).put o.dst (.val undef))):Step lv P r o s next bad:=by
 intro E V ac N Q iV aF hd bx h1 _;refine⟨bx,?_⟩;have e1:=(ap.ev aF hk).raw hK;have oS:=ap.ev aF hm;generalize xS:ac.eval m=vm at oS;cases oS;obtain⟨p1,p2,p3,p4⟩:=iV.obj id _ hH;obtain⟨g1,g2⟩:=iV.jf hH rfl;unfold execOp;rw[ho];dsimp only;unfold resolve;rw[aY];dsimp only;refine aA (aq ?_);unfold invoke builtin;dsimp only;refine aA ?_;have nC:c.args.map ac.eval=#[.map (some (E.blk id)),K]:=by rw[cK];simp[xS,e1]
 rw[nC,dR];unfold oI at ht;split at ht
 ·rename_i k' e' hu;cases ht;unfold at3;simp only[Ve,Vp,UI];refine ej hu ?_;dsimp only;refine aA (nR p1 p2 p3 g2 (cG ?_));dsimp only;refine hc.bind (hf.bind ?_);have fin:∀ua,ua=(Et es fd)->aP P V (setObj (E.blk id) (.map ua ck)) (λ_ V'=>aP P V' (pure (YM #[])) (λx V'=>aP P V' (pure (W5 x)) (mE lv P r o ac N Q) (λv V'=>Q (.panic [{v,recovered:=false}]) ac V')) (λv V'=>Q (.panic [{v,recovered:=false}]) ac V')) (λv V'=>Q (.panic [{v,recovered:=false}]) ac V'):=λy hy=>by
   refine yj p1 p2 rfl g2 (cG (aq (aq ?_)));exact h1 E _ (ac.put o.dst undef) _ ⟨Env.Le.refl E,d_ _ _ _,put_defers _ _ _,rfl,rfl⟩ (by rw[fl];rw[hy];exact iV.setObj hH rfl rfl)
    (cj.gQ (s:=⟨s.T,s.H.set id (.obj (.map (Et es fd) ck))⟩) aF hd (.val undef)) hn
  cases fd with
  |none=>exact aA (fin _ rfl)
  |some iv=>exact aA (fin _ rfl)
 ·cases ht
theorem aqP{t kt et:TypeId}{x:Tm}{m ck:Nat}{es:Array Wn}(ho:o.op=.range t x)(ht:oI P t=some (kt,et))(hx:s.ev x=some (.mp m))(hH:s.H[m]?=some (.obj (.map es ck)))
  (hn:next ((⟨s.T,s.H++[.iter m ck #[] ck]⟩:AS).put o.dst (.op s.H.length 0))):Step lv P r o s next bad:=by
 intro E V ac N Q hc aF hd bx h1 _;refine⟨bx,?_⟩;have oS:=ap.ev aF hx;generalize xS:ac.eval x=vm at oS;cases oS with
 |mp hm=>
  obtain⟨p1,p2,p3,p4⟩:=hc.obj m _ hH;obtain⟨g1,g2⟩:=hc.jf hH rfl;unfold execOp;rw[ho];simp only[xS];refine aA ?_;unfold oI at ht;split at ht
  ·rename_i k' e' hu;cases ht;unfold Instr.range;refine ej hu ?_;refine aA (nR p1 p2 p3 g2 (cG ?_));dsimp only;refine aA (aq ?_);refine aA (oB λrr hf=>cG (aq (aq ?_)));have hle:E.Le (E.add rr V.ab):=E.qj rr (λb o v h=>by rw[<- hc.I];exact h);have bi:Conc (E.add rr V.ab) (V.upd rr (.mapIter (some (E.blk m)) ck #[] ck)) (s.H++[.iter m ck #[] ck]):=by
    refine hc.add hf _ ⟨?_,?_,λo=> ?_⟩ (λb e=> ?_)
    ·exact Nat.lt_succ_of_lt hm
    ·rw[Env.dI,hle.blk m hm];simp[View.upd]
    ·rw[Env.dI];exact hf.2 o
    ·simp only[bM,Env.dI,Tn]at e;exact e.symm
   exact h1 _ _ (ac.put o.dst (.pointer (some ⟨rr,0,none⟩))) ((⟨s.T,s.H++[.iter m ck #[] ck]⟩:AS).put o.dst (.op s.H.length 0)) ⟨hle,d_ _ _ _,put_defers _ _ _,rfl,rfl⟩ (by rw[fl];exact bi)
    (cj.gQ (s:=⟨s.T,s.H++[.iter m ck #[] ck]⟩) (aF.mono hle) hd (Pd hc.n rr V.ab)) hn
  ·cases ht
theorem Conc.setIter{E:Env}{V:View}{H:List aa}(hc:Conc E V H){id m a c:Nat}{b:Array Nat}(hk:H[id]?=some (.iter m a b c))(a':Nat)(b':Array Nat)(c':Nat):Conc E (V.upd (E.blk id) (.mapIter (some (E.blk m)) a' b' c')) (H.set id (.iter m a' b' c')):=by
 obtain⟨p1,p2,p4⟩:=hc.obj id _ hk;refine hc.iO id (.iter m a' b' c') (Env.Le.refl E) hc.I (by simpa using hc.n) lS rfl (λ_ _ _=>rfl) (λb z hb hz=>⟨?_,λ_=>rfl⟩) ⟨p1,by simp[View.upd],p4⟩ (λb h=> .inl ⟨_,hk,h⟩);have:b≠E.blk id:=λe=>hb _ hk (by rw[e];rfl);simpa[View.upd,this]using hz
theorem aqN{it:Tm}{id m since ck tE:Nat}{seen:Array Nat}{es:Array Wn}(ho:o.op=.next it false)(hi:s.ev it=some (.op id 0))(hI:s.H[id]?=some (.iter m since seen tE))(hM:s.H[m]?=some (.obj (.map es ck)))
  (az:es.all (λe=>decide (e.born>=tE))=false\/es.isEmpty=true\/seen.isEmpty=true)
  (hn:∀e∈es,e.born∉seen->next ((⟨s.T,s.H.set id (.iter m since (seen.push e.born) ck)⟩:AS).put o.dst (.aJ [.val (.bool true),AV.of e.key,AV.of e.val])))
  (akO:(∀e∈es,e.born<since->e.born∈seen)->next (s.put o.dst (.aJ [.val (.bool false)]))):Step lv P r o s next bad:=by
 intro E V ac N Q hc aF hd bx h1 _;refine⟨bx,?_⟩;have oi:=ap.ev aF hi;generalize qh:ac.eval it=vi at oi;cases oi with
 |op cg=>
  obtain⟨q1,q2,q3⟩:=hc.obj id _ hI;obtain⟨p1,p2,p3,p4⟩:=hc.obj m _ hM;have gi:=hc.jf hI rfl;have gm:=hc.jf hM rfl;unfold execOp;rw[ho];simp only[qh];refine aA ?_;unfold Instr.next;dsimp only;refine aA (nR q2 rfl rfl gi.2 (cG ?_));dsimp only;refine aA (nR p1 p2 p3 gm.2 (cG ?_));dsimp only;rw[if_neg (by
   intro h;simp only[Tc,TV]at h;rcases az with hk|hk|hk
   ·rw[hk]at h;cases h.2
   ·rw[hk]at h;cases h.1.2
   ·rw[hk]at h;cases h.1.1)]
  generalize Q9:(if((es.filter λe=> !seen.contains e.born).filter (λe=>decide (e.born<since))).isEmpty=true then#[none]else#[])++((es.filter λe=> !seen.contains e.born).filter (λe=>decide (e.born<since))++(es.filter λe=> !seen.contains e.born).filter (λe=>decide (e.born>=since))).map some=yM;have cM:∀x∈yM,match x with
    |some e=>e∈es/\e.born∉seen
    |none=>∀e∈es,e.born<since->e.born∈seen:=by
   intro x hx;rw[<- Q9]at hx;rcases Us.1 hx with hx|hx
   ·split at hx
    ·rename_i sP;simp at hx;subst hx;intro e he hlt;apply Tl;intro i_;have:e∈((es.filter λe=> !seen.contains e.born).filter (λe=>decide (e.born<since))):=(by simp[he,hlt,i_]);rw[Zj]at sP;rw[sP]at this;simp at this
    ·simp at hx
   ·rw[Array.mem_map]at hx;obtain⟨e,he,rfl⟩:=hx;rcases Us.1 he with he|he<;>simp at he<;>exact⟨he.1,he.2.2⟩
  have Cu:0<yM.size:=by
   rw[<- Q9];split
   ·simp;omega
   ·rename_i sP;have:0<((es.filter λe=> !seen.contains e.born).filter (λe=>decide (e.born<since))).size:=by
     rw[Zj]at sP;exact Array.size_pos_iff.2 sP
    simp only[XA,Array.size_map,List.size_toArray,UQ];omega
  have fin:∀j,j<yM.size->aP P V (match yM[j]?with
    |some (some e)=>do setObj (E.blk id) (.mapIter (some (E.blk m)) since (seen.push e.born) ck);pure (YM #[.bool true,e.key,e.val])
    |some none=>pure (YM #[.bool false])
    | none => stuck "Next: no such candidate") (λx V' => aP P V' (pure (W5 x)) (mE lv P r o ac N Q) (λv V' => Q (.panic [{ v, recovered := false }]) ac V')) (λv V' => Q (.panic [{ v, recovered := false }]) ac V') := by
   intro j hj;rw[SK hj];have hm:=cM yM[j] (XS hj);generalize yM[j]=x at hm;cases x with
   |none=>
    dsimp only;refine aq (aq ?_);exact h1 E V (ac.put o.dst _) (s.put o.dst (.aJ [.val (.bool false)])) ⟨Env.Le.refl E,d_ _ _ _,put_defers _ _ _,rfl,rfl⟩ (by rw[fl];exact hc)
     (cj.gQ aF hd (.aJ rfl λi b hb=>by
      match i,hb with
      |0,hb=>cases hb;exact .val _)) (akO hm)
   |some e=>
    dsimp only;refine aA (yj q2 rfl rfl gi.2 (cG (aq (aq ?_))));exact h1 E _ (ac.put o.dst _) _ ⟨Env.Le.refl E,d_ _ _ _,put_defers _ _ _,rfl,rfl⟩ (by rw[fl];exact hc.setIter hI since (seen.push e.born) ck)
     (cj.gQ (s:=⟨s.T,s.H.set id (.iter m since (seen.push e.born) ck)⟩) aF hd (.aJ rfl λi b hb=>by
      match i,hb with
      |0,hb=>cases hb;exact .val _
      |1,hb=>cases hb;exact sC E _
      |2,hb=>cases hb;exact sC E _)) (hn e hm.1 hm.2)
  refine aA (acb (λhf=>cG (fin 0 Cu)) (λhf t=>cG (fin _ (as' _ Cu))))
def AV.found (z:SP)(ok:Bool):Option (Nat×SP)->AV
 |some (_,v)=>if ok then .aJ [AV.of v,.val (.bool true)]else AV.of v
 |none=>if ok then .aJ [AV.of z,.val (.bool false)]else AV.of z
theorem aoR{t kt et:TypeId}{m k:Tm}{id ck:Nat}{es:Array Wn}{a:AV}{K z:SP}{ok:Bool}{fd:Option (Nat×SP)}(ho:o.op=.lookup t m k ok)(ht:oI P t=some (kt,et))(hz:eO P et=some z)(hm:s.ev m=some (.mp id))(hk:s.ev k=some a)(hK:a.raw=some K)
  (hH:s.H[id]?=some (.obj (.map es ck))) (hc:cJ P (U_ es.isEmpty 10000 kt K) ()) (hf:cJ P (VN kt K es.toList) fd):dz lv P r o s (AV.found z ok fd):=
 iL (λE V ac iV aF=>by
  have e1:=(ap.ev aF hk).raw hK;have oS:=ap.ev aF hm;generalize xS:ac.eval m=vm at oS;cases oS;obtain⟨p1,p2,p3,p4⟩:=iV.obj id _ hH;have g:=iV.jf hH rfl;unfold oI at ht;split at ht
  ·rename_i k' e' hu;cases ht;unfold execOp;rw[ho];simp only[xS,e1];refine aA ?_;unfold Instr.lookup;refine ej hu ?_;dsimp only;refine aA (aA (nR p1 p2 p3 g.2 (aq (aq ?_))));refine hc.bind (aA (hf.ok ?_));have two:∀(v:SP)(b:Bool)(i:Nat)(x:AV),[AV.of v,.val (.bool b)][i]?=some x->ap E x ((#[v,Xb b]:Array SP).getD i undef):=λv b i x hx=>by
    match i,hx with
    |0,hx=>cases hx;exact sC E _
    |1,hx=>cases hx;exact .val _
   cases fd with
   |some iv=>
    obtain⟨i,v⟩:=iv;refine aq (aq ⟨rfl,_,rfl,?_⟩);cases ok with
    |true=>exact .aJ rfl (two v true)
    |false=>exact sC E _
   |none=>
    refine G5 hz (aq (aq ⟨rfl,_,rfl,?_⟩));cases ok with
    |true=>exact .aJ rfl (two z false)
    |false=>exact sC E _
  ·cases ht)
theorem aoE{it:Tm}{id m since ck:Nat}{seen:Array Nat}{es:Array Wn}{b:Nat}{e:Wn}(ho:o.op=.entry it)(hi:s.ev it=some (.op id 0))(hI:s.H[id]?=some (.iter m since seen ck))(hM:s.H[m]?=some (.obj (.map es ck)))
  (hb:seen.back?=some b) (he:es.find? (·.born==b)=some e):dz lv P r o s (.aJ [AV.of e.key,AV.of e.val]):=
 iL (λE V ac hc aF=>by
  have oi:=ap.ev aF hi;generalize qh:ac.eval it=vi at oi;cases oi with
  |op cg=>
   obtain⟨q1,q2,q3⟩:=hc.obj id _ hI;obtain⟨p1,p2,p3,p4⟩:=hc.obj m _ hM;have gi:=hc.jf hI rfl;have gm:=hc.jf hM rfl;unfold execOp;rw[ho];simp only[qh];refine aA ?_;unfold Instr.entry;dsimp only;refine aA (nR q2 rfl rfl gi.2 (cG ?_));dsimp only;rw[hb];dsimp only;refine aA (nR p1 p2 p3 gm.2 (cG ?_));dsimp only;rw[if_neg (by simp)];rw[he];refine aq (aq ⟨rfl,_,rfl,.aJ rfl λi b hb=> ?_⟩)
   match i,hb with
   |0,hb=>cases hb;exact sC E _
   |1,hb=>cases hb;exact sC E _)
end
open Go.Conc
def gK (E:Env)(V:View)(k:AV->List aa->Prop)(kp:AV->List aa->Prop):Out->View->Prop
 |.ret v,V'=>∃av E' H',E.Le E'/\V'.role=V.role/\V'.deaf=V.deaf/\ap E' av v/\Conc E' V' H'/\k av H'
 |.panic ch,V'=>∃pv v E' H',ch=[{v,recovered:=false}]/\E.Le E'/\V'.role=V.role/\V'.deaf=V.deaf/\ap E' pv v/\Conc E' V' H'/\kp pv H'
def bf (lv:Bool)(P:SJ)(f:TO)(H:List aa)(args:List AV)(k:AV->List aa->Prop)(kp:AV->List aa->Prop):Prop:=
 ∀(E:Env)(V:View)(vs:Array SP),Conc E V H->cH E args vs->Body lv P f vs .normal V (gK E V k kp)
def Nx (lv:Bool)(P:SJ)(R:Out->View->Prop):Next->View->Prop
 |.value v,V=>R (.ret v) V
 |.skip,V=>R (.ret undef) V
 |.enter f args,V=>Body lv P f args .normal V R
 |.round l f tmps assign body,V=>m9 lv P (W_ l f tmps assign body .normal) V R
 |_,_=>False
def iQ (lv:Bool)(P:SJ)(c:AV)(H:List aa)(args:List AV)(k:AV->List aa->Prop)(kp:AV->List aa->Prop):Prop:=
 ∀(E:Env)(V:View)(cv:SP)(vs:Array SP),Conc E V H->ap E c cv->cH E args vs->
  aP P V (do let d<- U2 cv vs;invoke d.target d.args) (λnx V'=>Nx lv P (gK E V k kp) nx V') (λv V'=>gK E V k kp (.panic [{v,recovered:=false}]) V')
def D2 (lv:Bool)(P:SJ)(c:AV)(name:String)(H:List aa)(args:List AV)(k:AV->List aa->Prop)(kp:AV->List aa->Prop):Prop:=
 ∀(E:Env)(V:View)(cv:SP)(vs:Array SP),Conc E V H->ap E c cv->cH E args vs->
  aP P V (invoke (.fn (.method name) #[]) (#[cv]++vs)) (λnx V'=>Nx lv P (gK E V k kp) nx V') (λv V'=>gK E V k kp (.panic [{v,recovered:=false}]) V')
theorem gK.mono{E:Env}{V:View}{k k' kp we:AV->List aa->Prop}(h:∀a H,k a H->k' a H)(hp:∀a H,kp a H->we a H):∀{o V'},gK E V k kp o V'->gK E V k' we o V'
 |.ret _,_,⟨av,E',H',a,b,c,d,e,f⟩=>⟨av,E',H',a,b,c,d,e,h _ _ f⟩
 |.panic _,_,⟨pv,v,E',H',a,b,c,d,e,f,g⟩=>⟨pv,v,E',H',a,b,c,d,e,f,hp _ _ g⟩
theorem Nx.mono{lv:Bool}{P:SJ}{R R':Out->View->Prop}(h:∀o V,R o V->R' o V):∀{nx V},Nx lv P R nx V->Nx lv P R' nx V:=by
 intro nx V hn;cases nx with
 |value v=>exact h _ _ hn
 |skip=>exact h _ _ hn
 |enter f args=>exact Body.mono hn h
 |round l f tmps a b=>exact m9.mono hn h
 |_=>exact hn
theorem bf.mono{lv:Bool}{P:SJ}{f:TO}{H:List aa}{args:List AV}{k k' kp we:AV->List aa->Prop}(h:bf lv P f H args k kp)(hk:∀a H,k a H->k' a H)(hp:∀a H,kp a H->we a H):bf lv P f H args k' we:=λE V vs hc hd=>
 (h E V vs hc hd).mono λ_ _ x=>x.mono hk hp
theorem iQ.mono{lv:Bool}{P:SJ}{f:AV}{H:List aa}{args:List AV}{k k' kp we:AV->List aa->Prop}(h:iQ lv P f H args k kp)(hk:∀a H,k a H->k' a H)(hp:∀a H,kp a H->we a H):iQ lv P f H args k' we:=λE V cv vs hc hd oU=>
 (h E V cv vs hc hd oU).mono (λ_ _ x=>Nx.mono (λ_ _ y=>y.mono hk hp) x) (λ_ _ y=>y.mono hk hp)
def qy (P:SJ)(g:TO):Bool:=match P.funcs[g]?with
 | some fn => fn.body.isSome && !(fn.name == "runtime.NumGoroutine")
 |none=>false
theorem apX{lv:Bool}{P:SJ}{V:View}{g:TO}{vs:Array SP}{R:Out->View->Prop}{Kp:SP->View->Prop}(hg:qy P g=true)(h:Body lv P g vs .normal V R):aP P V (callFunc g vs) (λnx V'=>Nx lv P R nx V') Kp:=by
 unfold callFunc;refine aA (qq (cG ?_));unfold qy at hg;split at hg
 ·rename_i fn sQ;simp only[Tc,TV]at hg;rw[sQ];dsimp only;have q_:fn.body.isNone=false:=by
   have h1:=hg.1;cases hb:fn.body with
   |none=>rw[hb]at h1;cases h1
   |some _=>rfl
  rw[if_neg (by rw[hg.2];simp),if_neg (by rw[q_];simp)];exact aq h
 ·cases hg
section
variable {lv:Bool}{P:SJ}{H:List aa}{args:List AV}{k kp:AV->List aa->Prop}
theorem Iq{g:TO}{first cR:List AV}(hg:qy P g=true)(hf:bf lv P g H (first++args++cR) k kp):iQ lv P (.fn (.func g) first cR) H args k kp:=by
 intro E V cv vs hc hd oU;cases hd with
 |fn dL fP h1 h2=>
  rename_i fa ca;unfold U2;refine aA (aq ?_);unfold invoke;dsimp only;exact apX hg (hf E V _ hc (Bw (Bw ⟨dL,h1⟩ oU) ⟨fP,h2⟩))
end
def fg (s:AS):List Tm->Option (List AV)
 |[]=>some []
 |x::l=>match s.ev x,fg s l with
  |some a,some aG=>some (a::aG)
  |_,_=>none
theorem yW{E:Env}{s:AS}{a:Act}(k:cj E s.T a.tmps):∀{l:List Tm}{aG:List AV},fg s l=some aG->cH E aG (l.map a.eval).toArray
 |[],_,h=>by cases h;exact⟨rfl,by simp⟩
 |x::l,aG,h=>by
  simp only[fg]at h;split at h
  ·rename_i av l7 h1 h2;cases h;have ih:=yW k h2;refine⟨by have:=ih.1;simpa using this,λi b e=> ?_⟩;cases i with
   |zero=>simp at e;subst e;simpa[SI]using ap.ev k h1
   |succ i=>
    simp only[UI]at e;have:=ih.2 i b e;simpa[SI]using this
  ·cases h
section
variable {lv:Bool}{P:SJ}{r:Option Nat}{o:Tx}{s:AS}{next:AS->Prop}{bad:AV->AS->Prop}
theorem abm{E:Env}{V:View}{a:Act}{N:Act->View->Prop}{Q:Ex->Act->View->Prop}(aF:cj E s.T a.tmps)(hd:∀d,o.dst=some d->d<a.tmps.size)
  (h1:∀E' V' a' s',Kept E E' V V' a a'->Conc E' V' s'.H->cj E' s'.T a'.tmps->next s'->N a' V')
  (h2:∀E' V' s' pv v,Kept E E' V V' a a->Conc E' V' s'.H->cj E' s'.T a.tmps->ap E' pv v->bad pv s'->Q (.panic [{v,recovered:=false}]) a V'):
  (∀nx V',Nx lv P (gK E V (λb H'=>next ((⟨s.T,H'⟩:AS).put o.dst b)) (λpv H'=>bad pv ⟨s.T,H'⟩)) nx V'->mE lv P r o a N Q nx V')/\
  (∀v V',gK E V (λb H'=>next ((⟨s.T,H'⟩:AS).put o.dst b)) (λpv H'=>bad pv ⟨s.T,H'⟩) (.panic [{v,recovered:=false}]) V'->Q (.panic [{v,recovered:=false}]) a V'):=by
 have hv:∀v V',gK E V (λb H'=>next ((⟨s.T,H'⟩:AS).put o.dst b)) (λpv H'=>bad pv ⟨s.T,H'⟩) (.ret v) V'->N (a.put o.dst v) V':=λv V' ⟨av,E',H',hle,ce,eZ,bk,bi,hk⟩=>
  h1 E' V' _ _ ⟨hle,d_ _ _ _,put_defers _ _ _,ce,eZ⟩ (by rw[fl];exact bi) (cj.gQ (s:=⟨s.T,H'⟩) (aF.mono hle) hd bk) hk
 have hp:∀ch V',gK E V (λb H'=>next ((⟨s.T,H'⟩:AS).put o.dst b)) (λpv H'=>bad pv ⟨s.T,H'⟩) (.panic ch) V'->Q (.panic ch) a V':=λch V' ⟨pv,v,E',H',eX,hle,ce,eZ,bk,bi,hk⟩=>by
  subst eX;exact h2 E' V' ⟨s.T,H'⟩ pv v ⟨hle,rfl,rfl,ce,eZ⟩ bi (aF.mono hle) bk hk
 refine⟨λnx V' hn=> ?_,λv V' h=>hp _ _ h⟩;cases nx with
 |value v=>exact hv _ _ hn
 |skip=>exact hv _ _ hn
 |enter f args=>
  refine Body.mono (R':=fun
   |.ret v,V'=>N (a.put o.dst v) V'
   |.panic ch,V'=>Q (.panic ch) a V') hn λot aS h=> ?_
  cases ot with
  |ret v=>exact hv _ _ h
  |panic ch=>exact hp _ _ h
 |round l f tmps aG b=>
  refine m9.mono (R':=fun
   |.ret v,V'=>N (a.put o.dst v) V'
   |.panic ch,V'=>Q (.panic ch) a V') hn λot aS h=> ?_
  cases ot with
  |ret v=>exact hv _ _ h
  |panic ch=>exact hp _ _ h
 |_=>exact hn.elim
theorem Nd{c:Xn}{x:Tm}{sx:AV}{aG:List AV}(ho:o.op=.call c)(aY:c.callee=.value x)(hx:s.ev x=some sx)(has:fg s c.args.toList=some aG)
  (hf:iQ lv P sx s.H aG (λb H'=>next ((⟨s.T,H'⟩:AS).put o.dst b)) (λpv H'=>bad pv ⟨s.T,H'⟩)):Step lv P r o s next bad:=by
 intro E V a N Q hc aF hd bx h1 h2;have rB:=abm (lv:=lv) (P:=P) (r:=r) aF hd h1 h2;refine⟨bx,?_⟩;unfold execOp;rw[ho];dsimp only;unfold resolve;rw[aY];dsimp only;have e:c.args.map a.eval=(c.args.toList.map a.eval).toArray:=by apply VD;simp
 rw[e];exact(hf E V (a.eval x) _ hc (ap.ev aF hx) (yW aF has)).mono (λnx V' h=>rB.1 nx V' h) (λv V' h=>rB.2 v V' h)
theorem acK{c:Xn}{x:Tm}{name:String}{sx:AV}{aG:List AV}(ho:o.op=.call c)(aY:c.callee=.invoke x name)(hx:s.ev x=some sx)(has:fg s c.args.toList=some aG)
  (hf:D2 lv P sx name s.H aG (λb H'=>next ((⟨s.T,H'⟩:AS).put o.dst b)) (λpv H'=>bad pv ⟨s.T,H'⟩)):Step lv P r o s next bad:=by
 intro E V a N Q hc aF hd bx h1 h2;have rB:=abm (lv:=lv) (P:=P) (r:=r) aF hd h1 h2;refine⟨bx,?_⟩;unfold execOp;rw[ho];dsimp only;unfold resolve;rw[aY];dsimp only;refine aA (aq ?_);have e:c.args.map a.eval=(c.args.toList.map a.eval).toArray:=by apply VD;simp
 rw[e];exact(hf E V (a.eval x) _ hc (ap.ev aF hx) (yW aF has)).mono (λnx V' h=>rB.1 nx V' h) (λv V' h=>rB.2 v V' h)
theorem aqO{x:Tm}{t:TypeId}{av:AV}(ho:o.op=.panic x)(hx:s.ev x=some (.cZ t av))(hb:bad (.cZ t av) s):Step lv P r o s next bad:=by
 intro E V a N Q hc aF hd bx _ h2;refine⟨bx,?_⟩;have du:=ap.ev aF hx;unfold execOp;rw[ho];dsimp only;refine aA ?_;generalize a.eval x=v at du⊢;have aj4:=du;cases du with
 |cZ hv=>
  unfold Instr.panic;dsimp only;exact ap5 (h2 E V s (.cZ t av) _ ⟨Env.Le.refl E,rfl,rfl,rfl,rfl⟩ hc aF aj4 hb)
end
structure D3 (k kp:AV->List aa->Prop):Type where
 n:Nat
def AH (lv:Bool)(P:SJ)(c:AV)(H:List aa)(args:List AV)(k kp:AV->List aa->Prop)(_t:D3 k kp):Prop:=iQ lv P c H args k kp
def adJ (lv:Bool)(P:SJ)(c:AV)(name:String)(H:List aa)(args:List AV)(k kp:AV->List aa->Prop)(_t:D3 k kp):Prop:=D2 lv P c name H args k kp
theorem wZ{lv:Bool}{P:SJ}{c:AV}{H:List aa}{args:List AV}{k kp:AV->List aa->Prop}{t:D3 k kp}(h:iQ lv P c H args k kp):AH lv P c H args k kp t:=h
def ao {α:Type}(x:Option α)(k:α->Prop):Prop:=match x with
 |some a=>k a
 |none=>False
def AV.asBool (a:AV)(k:Bool->Prop):Prop:=match a with
 |.val (.bool b)=>k b
 |_=>False
def AV.asInt (a:AV)(k:TU->Int->Prop):Prop:=match a with
 |.val (.int j n)=>k j n
 |_=>False
def AV.wW (a:AV)(k:List AV->Prop):Prop:=match a with
 |.aJ l=>k l
 |_=>False
def AV.asAgg (a:AV)(k:List AV->Prop):Prop:=match a with
 |.agg l=>k l
 |_=>False
def AV.pC (a:AV)(k:Nat->Nat->Prop):Prop:=match a with
 |.op i j=>k i j
 |_=>False
def AV.su (a:AV)(k:Nat->Prop):Prop:=match a with
 |.mp i=>k i
 |_=>False
def AV.vo (a:AV)(k:Nat->List AV->End->Prop):Prop:=match a with
 |.sl n l e=>k n l e
 |_=>False
theorem ao.out{α:Type}{x:Option α}{k:α->Prop}(h:ao x k):∃a,x=some a/\k a:=by
 cases x with
 |none=>exact h.elim
 |some a=>exact⟨a,rfl,h⟩
theorem Bg{a:AV}{k:Bool->Prop}(h:a.asBool k):∃b,a=.val (.bool b)/\k b:=by
 unfold AV.asBool at h;split at h
 ·exact⟨_,rfl,h⟩
 ·exact h.elim
theorem nZ{a:AV}{k:TU->Int->Prop}(h:a.asInt k):∃j n,a=.val (.int j n)/\k j n:=by
 unfold AV.asInt at h;split at h
 ·exact⟨_,_,rfl,h⟩
 ·exact h.elim
theorem ae8{a:AV}{k:List AV->Prop}(h:a.wW k):∃l,a=.aJ l/\k l:=by
 unfold AV.wW at h;split at h
 ·exact⟨_,rfl,h⟩
 ·exact h.elim
theorem aeZ{a:AV}{k:List AV->Prop}(h:a.asAgg k):∃l,a=.agg l/\k l:=by
 unfold AV.asAgg at h;split at h
 ·exact⟨_,rfl,h⟩
 ·exact h.elim
theorem Bh{a:AV}{k:Nat->Nat->Prop}(h:a.pC k):∃i j,a=.op i j/\k i j:=by
 unfold AV.pC at h;split at h
 ·exact⟨_,_,rfl,h⟩
 ·exact h.elim
theorem Eg{a:AV}{k:Nat->Prop}(h:a.su k):∃i,a=.mp i/\k i:=by
 unfold AV.su at h;split at h
 ·exact⟨_,rfl,h⟩
 ·exact h.elim
theorem Od{a:AV}{k:Nat->List AV->End->Prop}(h:a.vo k):∃n l e,a=.sl n l e/\k n l e:=by
 unfold AV.vo at h;split at h
 ·exact⟨_,_,_,rfl,h⟩
 ·exact h.elim
section
variable (P:SJ)(s:AS)
def dF (op:V_)(xt:TypeId)(a b:AV)(k:AV->Prop):Prop:=match a,b with
 |.val (.int j m),.val (.int j' n)=>if mR op then ao (Av op j m n) λv=>k (.val v)else j'=j/\ao (l8 op j m n) λv=>k (.val v)
 |_,_=>(op=.eql\/op=.neq)/\ao a.raw λX=>ao b.raw λY=>yT X Y=true/\P.eqGuardType P.depth xt=false/\∃e,cJ P (Xm xt X Y) e/\k (.val (.bool (if op== .neq then !e else e)))
def iB (op:V_)(xt:TypeId)(y:Tm)(a:AV)(k:AV->Prop):Prop:=match y,a with
 |.const .nilIface,.val .nilIface=>mm P xt=some true/\(op=.eql\/op=.neq)/\k (.val (.bool (if op== .neq then false else true)))
 |.const .nilIface,.cZ _ _=>mm P xt=some true/\(op=.eql\/op=.neq)/\k (.val (.bool (if op== .neq then true else false)))
 |y,a=>ao (s.ev y) λb=>dF P op xt a b k
def r6 (t:TypeId)(a:AV)(l h m:Option Int)(k:AV->Prop):Prop:=match a with
 |.sl n li e=>ao (kv P t) λ(_,sz)=>wP n li e sz l h m k
 |.bJ id off n cap=>ao (kv P t) λ(_,sz)=>si id off n cap sz l h m k
 |.op id off=>ao (wL P t) λ(n,sz)=>si id off n n sz l h m k
 |_=>False
def rZ (t:TypeId)(a:AV)(k:AV->Prop):Prop:=match lC P t,a with
 |some .slice,.sl n _ _=>k (.val (.int .i64 n))
 |some .slice,.bJ _ _ n _=>k (.val (.int .i64 n))
 |some .str,.val (.string b)=>k (.val (.int .i64 b.size))
 |some .map,.mp id=>match s.H[id]?with
  |some (.obj (.map es _))=>k (.val (.int .i64 es.size))
  |_=>False
 |_,_=>False
def my (a:AV)(k:AV->Prop):Prop:=match a with
 |.fn (.method name) [.cZ t av] []=>HT P t name/\k (.fn (.method name) [.cZ t av] [])
 |a=>a.sure=true/\k a
def AE (aG:TypeId)(ok:Bool)(a:AV)(k:AV->Prop):Prop:=mm P aG=some false/\ao (eO P aG) λz=>match a with
 |.cZ t av=>if t=aG then k (if ok then .aJ [av,.val (.bool true)]else av)else ok=true/\k (.aJ [AV.of z,.val (.bool false)])
 |.val .nilIface=>ok=true/\k (.aJ [AV.of z,.val (.bool false)])
 |_=>False
def lB (o:Tx)(k:AV->Prop):Prop:=match o.op with
 |.move x=>ao (s.ev x) k
 |.assign x=>ao (s.ev x) k
 |.pick c x y=>ao (s.ev c) λb=>ao (s.ev x) λa=>ao (s.ev y) λa'=>b.asBool λb=>k (if b then a else a')
 |.binOp op xt x y _=>ao (s.ev x) λa=>iB P s op xt y a k
 |.unOp .not _ x=>ao (s.ev x) λa=>a.asBool λb=>k (.val (.bool !b))
 |.unOp .neg _ x=>ao (s.ev x) λa=>a.asInt λj n=>k (.val (.int j (j.wrap (0-n))))
 |.convert src dst x=>ao (s.ev x) λa=>match AI P src dst with
   |some (some j)=>a.asInt λ_ n=>k (.val (.int j (j.wrap n)))
   |_=>False
 |.extract x i=>ao (s.ev x) λa=>a.wW λl=>ao l[i]? k
 |.nilCheck x=>ao (s.ev x) λa=>my P a k
 |.makeInterface t x=>mm P t=some false/\ao (s.ev x) λa=>k (.cZ t a)
 |.makeFunc f first cR=>ao (first.toList.mapM s.ev) λfa=>ao (cR.toList.mapM s.ev) λca=>k (.fn f fa ca)
 |.typeAssert x _ aG ok=>ao (s.ev x) λa=>AE P aG ok a k
 |.build t parts=>ao (oF P t) λ(pl,z)=>ao (j4 s parts.toList) λaG=>ao (n5 pl.at (lX z) aG) λl=>k (.agg l)
 |.buildSlice t len parts=>ao (qH P t) λ(_,sz,z)=>len* sz<=2^24/\ao (j4 s parts.toList) λaG=>ao (n5 (ik.at (.elems sz)) (gI z (len* sz)) aG) λl=>k (.sl len l .exact)
 |.fieldAddr t x f=>ao (s.ev x) λa=>ao (ff P t f) λn=>ao (a.shift n) k
 |.indexAddr t x ix=>ao (s.ev x) λa=>ao (s.ev ix) λi=>i.asInt λ_ i=>ao (nT P t) fun
   |(some n,sz)=>(0<=i/\i<n)/\ao (a.shift (i.toNat* sz)) k
   |(none,sz)=>ao a.row λ(n,p)=>(0<=i/\i<n)/\ao (p.shift (i.toNat* sz)) k
 |.field t x f=>ao (s.ev x) λa=>a.asAgg λl=>ao (HU P t f) λ(off,n,g)=>ao (AV.cut l off n g) k
 |.index t x ix=>ao (s.ev x) λa=>ao (s.ev ix) λi=>i.asInt λ_ i=>match a with
   |.agg l=>ao (HN P t) λ(n,sz,g)=>(0<=i/\i<n)/\ao (AV.cut l (i.toNat* sz) sz g) k
   |.val (.string b)=>(match lC P t with|some .str=>True|_=>False)/\0<=i/\ao b[i.toNat]? λc=>k (.val (.int .u8 c.toNat))
   |_=>False
 |.load t x=>ao (s.ev x) λp=>ao (s.at p) λl=>ao (Ty P t) fun
   |(n,true)=>n<=l.length/\k (.agg (l.take n))
   |(_,false)=>ao l[0]? k
 |.lookup t m k' ok=>ao (oI P t) λ(kt,et)=>ao (eO P et) λz=>ao (s.ev m) λp=>ao (s.ev k') λa=>ao a.raw λK=>p.su λid=>match s.H[id]?with
  |some (.obj (.map es _))=>cJ P (U_ es.isEmpty 10000 kt K) ()/\∃fd,cJ P (VN kt K es.toList) fd/\k (AV.found z ok fd)
  |_=>False
 |.slice t x lo hi mx=>ao (s.ev x) λa=>ao (s.iS lo) λl=>ao (s.iS hi) λh=>ao (s.iS mx) λm=>r6 P t a l h m k
 |.entry it=>ao (s.ev it) λp=>p.pC λid off=>off=0/\match s.H[id]?with
   |some (.iter m _ seen ck)=>match s.H[m]?with
    |some (.obj (.map es OX))=>OX=ck/\ao seen.back? λb=>ao (es.find? (·.born==b)) λe=>k (.aJ [AV.of e.key,AV.of e.val])
    |_=>False
   |_=>False
 |.call c=>match c.callee with
  |.builtin .len=>ao c.args[0]? λx=>ao c.argTypes[0]? λt=>ao (s.ev x) λa=>rZ P s t a k
  |.builtin .max=>match c.args.toList with
   |[x,y]=>ao (s.ev x) λa=>ao (s.ev y) λb=>a.asInt λj m=>b.asInt λ_ n=>k (.val (.int j (if n>m then n else m)))
   |_=>False
  |.builtin .min=>match c.args.toList with
   |[x,y]=>ao (s.ev x) λa=>ao (s.ev y) λb=>a.asInt λj m=>b.asInt λ_ n=>k (.val (.int j (if n<m then n else m)))
   |_=>False
  |_=>False
 |_=>False
end
section
variable {lv:Bool}{P:SJ}{r:Option Nat}{o:Tx}{s:AS}
theorem nc{c:Xn}{x y:Tm}(h:c.args.toList=[x,y]):c.args=#[x,y]:=by
 apply VD;simpa using h
theorem lB.sound{k:AV->Prop}(h:lB P s o k):∃av,dz lv P r o s av/\k av:=by
 unfold lB at h;split at h
 ·rename_i x ho;obtain⟨a,h1,h2⟩:=h.out;exact⟨a,abO (.inl ho) h1,h2⟩
 ·rename_i x ho;obtain⟨a,h1,h2⟩:=h.out;exact⟨a,abO (.inr ho) h1,h2⟩
 ·rename_i c x y ho;obtain⟨b,h1,h⟩:=h.out;obtain⟨a,h2,h⟩:=h.out;obtain⟨a',h3,h⟩:=h.out;obtain⟨b,rfl,h⟩:=Bg h;exact⟨_,ao0 ho h1 h2 h3,h⟩
 ·rename_i op xt x y yt ho;obtain⟨a,h1,hY⟩:=h.out;clear h;unfold iB at hY;split at hY
  ·exact⟨_,abM ho hY.2.1 h1 (.inl ⟨rfl,rfl⟩) hY.1,hY.2.2⟩
  ·exact⟨_,abM ho hY.2.1 h1 (.inr ⟨⟨_,_,rfl⟩,rfl⟩) hY.1,hY.2.2⟩
  rename_i n1 n2;clear n1 n2;obtain⟨b,h2,h⟩:=hY.out;unfold dF at h;split at h
  ·rename_i j m j' n;split at h
   ·obtain⟨v,h3,h⟩:=h.out;exact⟨_,ao1 ho h1 h2 h3,h⟩
   ·obtain⟨rfl,h⟩:=h;obtain⟨v,h3,h⟩:=h.out;exact⟨_,aoA ho h1 h2 h3,h⟩
  ·obtain⟨au,h⟩:=h;obtain⟨X,h3,h⟩:=h.out;obtain⟨Y,h4,h⟩:=h.out;obtain⟨h5,h6,e,h7,h⟩:=h;exact⟨_,aoF ho au h1 h2 h3 h4 h5 h6 h7,h⟩
 ·rename_i t x ho;obtain⟨a,h1,h⟩:=h.out;obtain⟨b,rfl,h⟩:=Bg h;exact⟨_,aoZ ho h1,h⟩
 ·rename_i t x ho;obtain⟨a,h1,h⟩:=h.out;obtain⟨j,n,rfl,h⟩:=nZ h;exact⟨_,aoW ho h1,h⟩
 ·rename_i src dst x ho;obtain⟨a,h1,h⟩:=h.out;split at h
  ·rename_i j hj;obtain⟨j',n,rfl,h⟩:=nZ h;exact⟨_,aoD ho hj h1,h⟩
  ·exact h.elim
 ·rename_i x i ho;obtain⟨a,h1,h⟩:=h.out;obtain⟨l,rfl,h⟩:=ae8 h;obtain⟨b,h2,h⟩:=h.out;exact⟨_,aoG ho h1 h2,h⟩
 ·rename_i x ho;obtain⟨a,h1,h⟩:=h.out;unfold my at h;split at h
  ·exact⟨_,aoY ho h1 h.1,h.2⟩
  ·exact⟨_,aoX ho h1 h.1,h.2⟩
 ·rename_i t x ho;obtain⟨h1,h⟩:=h;obtain⟨a,h2,h⟩:=h.out;exact⟨_,aoT ho h1 h2,h⟩
 ·rename_i f first cR ho
  obtain⟨fa,h1,h⟩:=h.out;obtain⟨ca,h2,h⟩:=h.out;exact⟨_,aoS ho h1 h2,h⟩
 ·rename_i x xt aG ok ho;obtain⟨a,h1,hA⟩:=h.out;obtain⟨h2,hB⟩:=hA;obtain⟨z,h3,hC⟩:=hB.out;clear h hB;split at hC
  ·rename_i t av;split at hC
   ·rename_i e;subst e;exact⟨_,abL ho h2 h3 h1 (.inr rfl),by rw[if_pos rfl];exact hC⟩
   ·rename_i e;exact⟨_,abL ho h2 h3 h1 (.inl hC.1),by rw[if_neg e];exact hC.2⟩
  ·obtain⟨e,hC⟩:=hC;subst e;exact⟨_,aoz ho h2 h3 h1,hC⟩
  ·exact hC.elim
 ·rename_i t parts ho;obtain⟨⟨pl,z⟩,h1,h⟩:=h.out;obtain⟨aG,h2,h⟩:=h.out;obtain⟨l,h3,h⟩:=h.out;exact⟨_,aoB ho h1 h2 h3,h⟩
 ·rename_i t len parts ho;obtain⟨⟨e,sz,z⟩,h1,h⟩:=h.out;obtain⟨hs,h⟩:=h;obtain⟨aG,h2,h⟩:=h.out;obtain⟨l,h3,h⟩:=h.out;exact⟨_,aoC ho h1 hs h2 h3,h⟩
 ·rename_i t x f ho;obtain⟨a,h1,h⟩:=h.out;obtain⟨n,hn,h⟩:=h.out;obtain⟨b,h2,h⟩:=h.out;exact⟨_,aoH ho hn h1 h2,h⟩
 ·rename_i t x ix ho;obtain⟨a,h1,h⟩:=h.out;obtain⟨i,h2,h⟩:=h.out;obtain⟨j,i,rfl,h⟩:=nZ h;obtain⟨⟨on,sz⟩,ht,h⟩:=h.out;cases on with
  |some n=>
   obtain⟨⟨h3,h4⟩,h⟩:=h;obtain⟨q,h5,h⟩:=h.out;exact⟨_,aoK ho ht h1 h2 h3 h4 h5,h⟩
  |none=>
   obtain⟨⟨n,p⟩,ale,h⟩:=ao.out h;obtain⟨⟨h3,h4⟩,h⟩:=h;obtain⟨q,h5,h⟩:=h.out;exact⟨_,aoJ ho ht h1 ale h2 h3 h4 h5,h⟩
 ·rename_i t x f ho;obtain⟨a,h1,h⟩:=h.out;obtain⟨l,rfl,h⟩:=aeZ h;obtain⟨⟨off,n,g⟩,h2,h⟩:=h.out;obtain⟨b,h3,h⟩:=h.out;exact⟨_,aoI ho h2 h1 h3,h⟩
 ·rename_i t x ix ho;obtain⟨a,h1,h⟩:=h.out;obtain⟨i,h2,h⟩:=h.out;obtain⟨j,i,rfl,h⟩:=nZ h;split at h
  ·obtain⟨⟨n,sz,g⟩,h3,h⟩:=h.out;obtain⟨⟨h4,h5⟩,h⟩:=h;obtain⟨b,h6,h⟩:=h.out;exact⟨_,aoM ho h3 h1 h2 h4 h5 h6,h⟩
  ·obtain⟨h3,h4,h⟩:=h;obtain⟨c,h5,h⟩:=h.out;split at h3
   ·rename_i hl;exact⟨_,aoL ho hl h1 h2 h4 h5,h⟩
   ·exact h3.elim
  ·exact h.elim
 ·rename_i t x ho;obtain⟨p,h1,h⟩:=h.out;obtain⟨l,hl,h⟩:=h.out;obtain⟨⟨n,g⟩,ht,h⟩:=h.out;cases g with
  |true=>exact⟨_,aoP ho ht h1 hl h.1,h.2⟩
  |false=>
   obtain⟨av,h2,h⟩:=ao.out h;exact⟨_,aoQ ho ht h1 hl h2,h⟩
 ·rename_i t m k' ok ho;obtain⟨⟨kt,et⟩,h1,hA⟩:=h.out;obtain⟨z,h2,hB⟩:=hA.out;obtain⟨p,h3,hC⟩:=hB.out;obtain⟨a,h4,hD⟩:=hC.out;obtain⟨K,h5,hE⟩:=hD.out;obtain⟨id,e1,hF⟩:=Eg hE;subst e1;split at hF
  ·rename_i es ck hH;obtain⟨h6,fd,h7,h8⟩:=hF;exact⟨_,aoR ho h1 h2 h3 h4 h5 hH h6 h7,h8⟩
  ·exact hF.elim
 ·rename_i t x lo hi mx ho;obtain⟨a,h1,h⟩:=h.out;obtain⟨l,h2,h⟩:=h.out;obtain⟨hh,h3,h⟩:=h.out;obtain⟨m,h4,h⟩:=h.out;unfold r6 at h;split at h
  ·obtain⟨⟨e,sz⟩,h5,h⟩:=h.out;exact ao2 ho h5 h1 h2 h3 h4 h
  ·obtain⟨⟨e,sz⟩,h5,h⟩:=h.out;exact ao4 ho h5 h1 h2 h3 h4 h
  ·obtain⟨⟨n,sz⟩,h5,h⟩:=h.out;exact ao3 ho h5 h1 h2 h3 h4 h
  ·exact h.elim
 ·rename_i it ho;obtain⟨p,h1,hA⟩:=h.out;obtain⟨id,off,e1,hB⟩:=Bh hA;clear h hA;subst e1;obtain⟨e1,hC⟩:=hB;subst e1;split at hC
  ·rename_i m since seen ck hI;split at hC
   ·rename_i es OX hM;obtain⟨e1,hD⟩:=hC;subst e1;obtain⟨b,h2,hE⟩:=hD.out;obtain⟨e,h3,hF⟩:=hE.out;exact⟨_,aoE ho h1 hI hM h2 h3,hF⟩
   ·exact hC.elim
  ·exact hC.elim
 ·rename_i c ho;split at h
  ·rename_i aY;obtain⟨x,h1,h⟩:=h.out;obtain⟨t,h2,h⟩:=h.out;obtain⟨a,h3,h⟩:=h.out;unfold rZ at h;split at h
   ·rename_i hl;exact⟨_,abN ho aY h1 h2 hl h3 rfl,h⟩
   ·rename_i hl;exact⟨_,abN ho aY h1 h2 hl h3 rfl,h⟩
   ·rename_i hl;exact⟨_,aoO ho aY h1 h2 hl h3,h⟩
   ·rename_i hl;split at h
    ·rename_i hM;exact⟨_,aoN ho aY h1 h2 hl h3 hM,h⟩
    ·exact h.elim
   ·exact h.elim
  ·rename_i aY;split at h
   ·rename_i x y cK;obtain⟨a,h1,hA⟩:=h.out;obtain⟨b,h2,hB⟩:=hA.out;obtain⟨j,m,e1,hC⟩:=nZ hB;obtain⟨j',n,e2,hD⟩:=nZ hC;subst e1 e2;exact⟨_,aoU ho aY (nc cK) h1 h2,hD⟩
   ·exact h.elim
  ·rename_i aY;split at h
   ·rename_i x y cK;obtain⟨a,h1,hA⟩:=h.out;obtain⟨b,h2,hB⟩:=hA.out;obtain⟨j,m,e1,hC⟩:=nZ hB;obtain⟨j',n,e2,hD⟩:=nZ hC;subst e1 e2;exact⟨_,aoV ho aY (nc cK) h1 h2,hD⟩
   ·exact h.elim
  ·exact h.elim
 ·exact h.elim
end
open Go.Conc
structure lY (X Y:Prop):Type where
 n:Nat
def qB (b b9:Bool)(X Y:Prop)(_t:lY X Y):Prop:=(b=b9->X)/\(b= !b9->Y)
theorem xg{b b9:Bool}{X Y:Prop}{t:lY X Y}(h1:b=b9->X)(h2:b= !b9->Y):qB b b9 X Y t:=⟨h1,h2⟩
theorem ajm(X Y:Prop)(t:lY X Y):qB true true X Y t=X:=by simp[qB]
theorem ajl(X Y:Prop)(t:lY X Y):qB true false X Y t=Y:=by simp[qB]
theorem ajk(X Y:Prop)(t:lY X Y):qB false true X Y t=Y:=by simp[qB]
theorem ajj(X Y:Prop)(t:lY X Y):qB false false X Y t=X:=by simp[qB]
section
variable (lv:Bool)(P:SJ)
def tI (H:List aa)(k:AV->List aa->Prop)(id off n c0 m sz:Nat)(elem:TypeId)(l':List AV):Prop:=off=0/\c0<n/\l'.length=m* sz/\n+m<=2^30/\(∀a∈l',a.leaf=true)/\match H[id]?with
 |some (.own eD l el)=>eD=sz/\el=elem/\l.length=n* sz/\k (.bJ H.length 0 (n+m) 0) (H.set id .gone++[.own sz (l++l') elem])
 |_=>False
def AV.pD (a:AV)(kO:Nat->Nat->Nat->Nat->Prop)(k:Nat->List AV->End->Prop):Prop:=match a with
 |.bJ id off n c=>kO id off n c
 |.sl n l e=>k n l e
 |_=>False
theorem H8{a:AV}{kO:Nat->Nat->Nat->Nat->Prop}{k:Nat->List AV->End->Prop}(h:a.pD kO k):(∃id off n c,a=.bJ id off n c/\kO id off n c)\/∃n l e,a=.sl n l e/\k n l e:=by
 unfold AV.pD at h;split at h
 ·exact .inl ⟨_,_,_,_,rfl,h⟩
 ·exact .inr ⟨_,_,_,rfl,h⟩
 ·exact h.elim
def mz (s:AS)(o:Tx)(next:AS->Prop)(bad:AV->AS->Prop):Prop:=match o.op with
 |.box t x=>ao (s.ev x) λa=>ao a.parts λl=>next ((⟨s.T,s.H++[.cells l t]⟩:AS).put o.dst (.op s.H.length 0))
 |.alloc t=>ao (eO P t) λz=>next ((⟨s.T,s.H++[.cells (lX z) t]⟩:AS).put o.dst (.op s.H.length 0))
 |.store t x y=>ao (s.ev x) λp=>ao (s.ev y) λa=>ao a.parts λlp=>p.pC λid off=>match s.H[id]?with
  |some (.cells l el)=>(ao (Ty P t) λx=>lp.length=x.1)/\off+lp.length<=l.length/\(∀a∈lp,a.leaf=true)/\next ((⟨s.T,s.H.set id (.cells (iy l off lp) el)⟩:AS).put o.dst (.val undef))
  |some (.part p l el)=>p<=off/\(ao (Ty P t) λx=>lp.length=x.1)/\off+lp.length<=l.length/\(∀a∈lp,a.leaf=true)/\next ((⟨s.T,s.H.set id (.part p (iy l off lp) el)⟩:AS).put o.dst (.val undef))
  |some (.own p l el)=>(ao (Ty P t) λx=>lp.length=x.1)/\off+lp.length<=l.length/\(∀a∈lp,a.leaf=true)/\next ((⟨s.T,s.H.set id (.own p (iy l off lp) el)⟩:AS).put o.dst (.val undef))
  |_=>False
 |.makeMap _ none=>next ((⟨s.T,s.H++[.obj (.map #[] 0)]⟩:AS).put o.dst (.mp s.H.length))
 |.makeSlice t x y=>ao (AU P t) λ(e,sz,z)=>ao (s.ev x) λa=>ao (s.ev y) λb=>a.asInt λ_ n=>b.asInt λ_ n'=>n'=n/\0<=n/\n<=2^30/\next ((⟨s.T,s.H++[.cells (gI z (n.toNat* sz)) e]⟩:AS).put o.dst (.bJ s.H.length 0 n.toNat n.toNat))
 |.mapUpdate t m k x=>ao (oI P t) λ(kt,_)=>ao (s.ev m) λp=>ao (s.ev k) λa=>ao (s.ev x) λb=>ao a.raw λK=>ao b.raw λX=>p.su λid=>match s.H[id]?with
  |some (.obj (.map es ck))=>cJ P (U_ false 10000 kt K) ()/\∃fd,cJ P (VN kt K es.toList) fd/\(∀i v,fd=some (i,v)->WE 10000 (((es[i]?).map (·.key)).getD K) K=true)/\next ((⟨s.T,s.H.set id (.obj (wy es ck K X fd))⟩:AS).put o.dst (.val undef))
  |_=>False
 |.range t x=>ao (oI P t) λ_=>ao (s.ev x) λp=>p.su λm=>match s.H[m]?with
  |some (.obj (.map _ ck))=>next ((⟨s.T,s.H++[.iter m ck #[] ck]⟩:AS).put o.dst (.op s.H.length 0))
  |_=>False
 |.next it false=>ao (s.ev it) λp=>p.pC λid off=>off=0/\match s.H[id]?with
  |some (.iter m since seen tE)=>match s.H[m]?with
   |some (.obj (.map es ck))=>(es.all (λe=>decide (e.born>=tE))=false\/es.isEmpty=true\/seen.isEmpty=true)/\
    (∀e∈es,e.born∉seen->next ((⟨s.T,s.H.set id (.iter m since (seen.push e.born) ck)⟩:AS).put o.dst (.aJ [.val (.bool true),AV.of e.key,AV.of e.val])))/\
    ((∀e∈es,e.born<since->e.born∈seen)->next (s.put o.dst (.aJ [.val (.bool false)])))
   |_=>False
  |_=>False
 |.panic x=>ao (s.ev x) λa=>match a with
  |.cZ t av=>bad (.cZ t av) s
  |_=>False
 |.binOp op t x (.const (.slice none 0 0)) _=>(op=.eql\/op=.neq)/\ao (kv P t) λ_=>ao (s.ev x) λa=>ao a.len λn=>∀b:Bool,(0<n->b=false)->next (s.put o.dst (.val (.bool (if op== .neq then !b else b))))
 |.call c=>match c.callee with
  |.builtin .append=>match c.args.toList,c.argTypes.toList with
   |[x,y],[t,t']=>ao (jK P t t') λ(elem,sz,_)=>ao (s.ev x) λa=>ao (s.ev y) λb=>a.pD (λid off n c0=>ao (s.src sz b) λ(m,l')=>tI s.H (λb H'=>next ((⟨s.T,H'⟩:AS).put o.dst b)) id off n c0 m sz elem l') λn l e=>ao (s.src sz b) λ(m,l')=>l.length=n* sz/\l'.length=m* sz/\n+m<=2^30/\AG s o.dst next n m sz elem l l' e
   |_,_=>False
  |.builtin .copy=>match c.args.toList,c.argTypes.toList with
   |[x,y],[t,_]=>ao (kv P t) λ(_,sz)=>ao (s.ev x) λa=>ao (s.ev y) λb=>match a with
    |.bJ id off n _=>match s.H[id]?with
     |some (.cells l el)=>ao (s.src sz b) λ(m,l')=>l'.length=m* sz/\off+min m n* sz<=l.length/\(∀a∈l',a.leaf=true)/\next ((⟨s.T,s.H.set id (.cells (iy l off (l'.take (min m n* sz))) el)⟩:AS).put o.dst (.val (.int .i64 (min m n:Nat))))
     |_=>False
    |_=>False
   |_,_=>False
  |.builtin .delete=>match c.args.toList,c.argTypes.toList with
   |[m,k],[t,_]=>ao (oI P t) λ(kt,_)=>ao (s.ev m) λp=>ao (s.ev k) λa=>ao a.raw λK=>p.su λid=>match s.H[id]?with
    |some (.obj (.map es ck))=>cJ P (U_ es.isEmpty 10000 kt K) ()/\∃fd,cJ P (VN kt K es.toList) fd/\next ((⟨s.T,s.H.set id (.obj (.map (Et es fd) ck))⟩:AS).put o.dst (.val undef))
    |_=>False
   |_,_=>False
  |.value x=>ao (s.ev x) λf=>ao (fg s c.args.toList) λaG=>AH lv P f s.H aG (λb H'=>next ((⟨s.T,H'⟩:AS).put o.dst b)) (λpv H'=>bad pv ⟨s.T,H'⟩) ⟨0⟩
  |.invoke x name=>ao (s.ev x) λf=>ao (fg s c.args.toList) λaG=>adJ lv P f name s.H aG (λb H'=>next ((⟨s.T,H'⟩:AS).put o.dst b)) (λpv H'=>bad pv ⟨s.T,H'⟩) ⟨0⟩
  |_=>lB P s o λav=>next (s.put o.dst av)
 |_=>lB P s o λav=>next (s.put o.dst av)
def ij (all:Array Tx):List Tx->AS->(AS->Prop)->(AV->AS->Prop)->Prop
 |[],s,next,_=>next s
 |o::rest,s,next,bad=>match o.guard with
  |none=>mz lv P s o (λs'=>ij all rest s' next bad) bad
  |some (j,b9)=>ao ((all[j]?).bind (·.dst)) λd=>ao (look s.T d) λa=>a.asBool λb=>qB b b9 (mz lv P ⟨(d,.val (.bool b9))::s.T,s.H⟩ o (λs'=>ij all rest s' next bad) bad) (ij all rest ((⟨(d,.val (.bool !b9))::s.T,s.H⟩:AS).put o.dst (.val undef)) next bad) ⟨0⟩
end
section
variable {lv:Bool}{P:SJ}{r:Option Nat}{s:AS}
theorem rW{c:Xn}{x y:TypeId}(h:c.argTypes.toList=[x,y]):c.argTypes=#[x,y]:=by
 apply VD;simpa using h
theorem mz.sound{o:Tx}{next:AS->Prop}{bad:AV->AS->Prop}(h:mz lv P s o next bad):Step lv P r o s next bad:=by
 have quiet:(lB P s o λav=>next (s.put o.dst av))->Step lv P r o s next bad:=λh=>by
  obtain⟨av,h1,h2⟩:=h.sound (lv:=lv) (r:=r);exact h1.step h2
 unfold mz at h;split at h
 ·rename_i t x ho;obtain⟨a,h1,h⟩:=h.out;obtain⟨l,h2,h⟩:=h.out;exact acI ho h1 h2 h
 ·rename_i t ho;obtain⟨z,h1,h⟩:=h.out;exact acF ho h1 h
 ·rename_i t x y ho;obtain⟨p,h1,hA⟩:=h.out;obtain⟨a,h2,hB⟩:=hA.out;obtain⟨lp,h3,hC⟩:=hB.out;obtain⟨id,off,e1,hD⟩:=Bh hC;clear h hA hB hC;subst e1;split at hD
  ·rename_i l el hk;obtain⟨q1,q2,q3,q4⟩:=hD;obtain⟨⟨n,g⟩,q5,q6⟩:=q1.out;exact acN ho q5 h1 hk h2 h3 q6 q2 q3 q4
  ·rename_i p l el hk;obtain⟨q0,q1,q2,q3,q4⟩:=hD;obtain⟨⟨n,g⟩,q5,q6⟩:=q1.out;exact aqR ho q5 h1 hk q0 h2 h3 q6 q2 q3 q4
  ·rename_i p l el hk;obtain⟨q1,q2,q3,q4⟩:=hD;obtain⟨⟨n,g⟩,q5,q6⟩:=q1.out;exact acO ho q5 h1 hk h2 h3 q6 q2 q3 q4
  ·exact hD.elim
 ·rename_i t ho;exact aqL ho h
 ·rename_i t x y ho;obtain⟨⟨e,sz,z⟩,h1,hA⟩:=h.out;obtain⟨a,h2,hB⟩:=hA.out;obtain⟨b,h3,hC⟩:=hB.out;obtain⟨j,n,e1,hD⟩:=nZ hC;obtain⟨j',n',e2,hE⟩:=nZ hD;clear h hA hB hC hD;subst e1 e2;obtain⟨e3,h4,h5,h6⟩:=hE;subst e3;obtain⟨m,rfl⟩:∃m:Nat,n'=m:=⟨n'.toNat,by omega⟩;exact acL ho h1 h2 h3 (by omega) (by simpa using h6)
 ·rename_i t m k x ho;obtain⟨⟨kt,et⟩,h1,hA⟩:=h.out;obtain⟨p,h2,hB⟩:=hA.out;obtain⟨a,h3,hC⟩:=hB.out;obtain⟨b,h4,hD⟩:=hC.out;obtain⟨K,h5,hE⟩:=hD.out;obtain⟨X,h6,hF⟩:=hE.out;obtain⟨id,e1,hG⟩:=Eg hF;clear h hA hB hC hD hE hF;subst e1;split at hG
  ·rename_i es ck hH;obtain⟨q1,fd,q2,q3,q4⟩:=hG;exact aqM (.inl ho) h1 h2 h3 h4 h5 h6 hH q1 q2 q3 q4
  ·exact hG.elim
 ·rename_i t x ho;obtain⟨⟨kt,et⟩,h1,hA⟩:=h.out;obtain⟨p,h2,hB⟩:=hA.out;obtain⟨m,e1,hC⟩:=Eg hB;clear h hA hB;subst e1;split at hC
  ·rename_i es ck hH;exact aqP ho h1 h2 hH hC
  ·exact hC.elim
 ·rename_i it ho;obtain⟨p,h1,hA⟩:=h.out;obtain⟨id,off,e1,hB⟩:=Bh hA;clear h hA;subst e1;obtain⟨e1,hC⟩:=hB;subst e1;split at hC
  ·rename_i m since seen tE hI;split at hC
   ·rename_i es ck hM;exact aqN ho h1 hI hM hC.1 hC.2.1 hC.2.2
   ·exact hC.elim
  ·exact hC.elim
 ·rename_i x ho;obtain⟨a,h1,hA⟩:=h.out;split at hA
  ·exact aqO ho h1 hA
  ·exact hA.elim
 ·rename_i op t x yt ho;obtain⟨au,hA⟩:=h;obtain⟨d,h1,hB⟩:=hA.out;obtain⟨a,h2,hC⟩:=hB.out;obtain⟨n,e1,hD⟩:=hC.out;exact aqQ ho au h2 e1 h1 hD
 ·rename_i c ho;split at h
  ·rename_i aY;split at h
   ·rename_i x y t t' ha ht;obtain⟨⟨elem,sz,z⟩,h1,hA⟩:=h.out;obtain⟨a,h2,hB⟩:=hA.out;obtain⟨b,h3,hC⟩:=hB.out;rcases H8 hC with⟨id,off,n,c0,e1,hD⟩|⟨n,l,e,e1,hD⟩
    ·clear h hA hB hC;subst e1;obtain⟨⟨m,l'⟩,h4,rfl,g2,g3,g4,g5,hE⟩:=hD.out;split at hE
     ·rename_i hk;obtain⟨rfl,rfl,g6,g7⟩:=hE;exact acG ho aY (nc ha) (rW ht) h1 h2 g2 hk rfl h3 h4 g6 g3 g4 g5 g7
     ·exact hE.elim
    ·clear h hA hB hC;subst e1;obtain⟨⟨m,l'⟩,h4,h5,h6,h7,h8⟩:=hD.out;exact step_append ho aY (nc ha) (rW ht) h1 h2 h3 h4 h5 h6 h7 h8
   ·exact h.elim
  ·rename_i aY;split at h
   ·rename_i x y t t' ha ht;obtain⟨⟨elem,sz⟩,h1,hA⟩:=h.out;obtain⟨a,h2,hB⟩:=hA.out;obtain⟨b,h3,hC⟩:=hB.out;clear h hA hB;split at hC
    ·split at hC
     ·rename_i hk;obtain⟨⟨m,l'⟩,h4,h5,h6,h7,h8⟩:=hC.out;exact aqJ ho aY (nc ha) (rW ht) h1 h2 hk h3 h4 h5 h6 h7 h8
     ·exact hC.elim
    ·exact hC.elim
   ·exact h.elim
  ·rename_i aY;split at h
   ·rename_i m k t t' ha ht;obtain⟨⟨kt,et⟩,h1,hA⟩:=h.out;obtain⟨p,h2,hB⟩:=hA.out;obtain⟨a,h3,hC⟩:=hB.out;obtain⟨K,h4,hD⟩:=hC.out;obtain⟨id,e1,hE⟩:=Eg hD;clear h hA hB hC hD;subst e1;split at hE
    ·rename_i es ck hH;obtain⟨q1,fd,q2,q3⟩:=hE;exact aqK ho aY (nc ha) (rW ht) h1 h2 h3 h4 hH q1 q2 q3
    ·exact hE.elim
   ·exact h.elim
  ·rename_i x aY;obtain⟨f,h1,hA⟩:=h.out;obtain⟨aG,h2,hB⟩:=hA.out;exact Nd ho aY h1 h2 hB
  ·rename_i x name aY;obtain⟨f,h1,hA⟩:=h.out;obtain⟨aG,h2,hB⟩:=hA.out;exact acK ho aY h1 h2 hB
  ·exact quiet h
 ·exact quiet h
structure At (E:Env)(V:View)(s:AS)(a:Act)(nt:Nat):Prop where
 bu:Conc E V s.H
 tok:cj E s.T a.tmps
 size:a.tmps.size=nt
theorem Kept.refl(E:Env)(V:View)(a:Act):Kept E E V V a a:=⟨Env.Le.refl E,rfl,rfl,rfl,rfl⟩
theorem Kept.trans{E E' bQ:Env}{V V' aS:View}{a a' cm:Act}(h:Kept E E' V V' a a')(k:Kept E' bQ V' aS a' cm):Kept E bQ V aS a cm:=
 ⟨h.le.trans k.le,k.size.trans h.size,k.defers.trans h.defers,k.role.trans h.role,k.deaf.trans h.deaf⟩
inductive an where
 |normal
 |exit (id:Nat)
 |goto (l:Nat)
 |ret
 |panic (pv:AV)
def pw (E:Env):an->Ex->Prop
 |.normal,.normal=>True
 |.exit i,.exit j=>i=j
 |.goto i,.goto j=>i=j
 |.ret,.ret=>True
 |.panic pv,.panic ch=>∃v,ch=[{v,recovered:=false}]/\ap E pv v
 |_,_=>False
def aW (lv:Bool)(P:SJ)(r:Option Nat)(nt:Nat)(c:T7)(s:AS)(Φ:an->AS->Prop):Prop:=
 ∀(E:Env)(V:View)(a:Act)(Q:Ex->Act->View->Prop),At E V s a nt->(∀ae e E' V' a' s',Kept E E' V V' a a'->At E' V' s' a' nt->pw E' ae e->Φ ae s'->Q e a' V')->WP lv P r c Q a V
theorem Af{nt:Nat}{all:Array Tx}{Φ:an->AS->Prop}(dn:∀o∈all,∀d,o.dst=some d->d<nt)(ny:∀o∈all,r=none\/ml o.op=false):∀(n k:Nat)(s:AS),k+n=all.size->ij lv P all (all.toList.drop k) s (Φ .normal) (λpv s=>Φ (.panic pv) s)->
  ∀(E:Env)(V:View)(a:Act)(Q:Ex->Act->View->Prop),At E V s a nt->(∀ae e E' V' a' s',Kept E E' V V' a a'->At E' V' s' a' nt->pw E' ae e->Φ ae s'->Q e a' V')->dj lv P r all Q (T5 k n) a V
 |0,k,s,hk,h,E,V,a,Q,ah,hQ=>by
  have:all.toList.drop k=[]:=by simp;omega
  rw[this]at h;exact hQ .normal .normal E V a s (Kept.refl E V a) ah trivial h
 |n+1,k,s,hk,h,E,V,a,Q,ah,hQ=>by
  have hlt:k<all.size:=by omega
  have hd:all.toList.drop k=all[k]::all.toList.drop (k+1):=by
   rw[TW (by simpa using hlt)];simp
  rw[hd]at h;have eB:all[k]∈all:=XS hlt;have ho:all[k]?=some all[k]:=SK hlt;simp only[VP,dj,ho];have go:∀s:AS,At E V s a nt->mz lv P s all[k] (λs'=>ij lv P all (all.toList.drop (k+1)) s' (Φ .normal) (λpv s=>Φ (.panic pv) s)) (λpv s=>Φ (.panic pv) s)->wN lv P r all[k] a V (dj lv P r all Q (T5 (k+1) n)) Q:=λs ah h=>by
   refine h.sound (lv:=lv) (r:=r) E V a _ Q ah.bu ah.tok (λd e=>by rw[ah.size];exact dn _ eB d e) (ny _ eB) (λE' V' a' s' aI bi mi hn=> ?_) (λE' V' s' pv v aI bi mi bk hb=> ?_)
   ·exact Af dn ny n (k+1) s' (by omega) hn E' V' a' Q ⟨bi,mi,aI.size.trans ah.size⟩ (λae e bQ aS cm di fM de he hΦ=>hQ ae e bQ aS cm di (aI.trans fM) de he hΦ)
   ·exact hQ (.panic pv) (.panic _) E' V' a s' aI ⟨bi,mi,ah.size⟩ ⟨v,rfl,bk⟩ hb
  simp only[ij]at h;split at h
  ·rename_i hg;have hw:Tj all[k] (yielded all a.tmps)=true:=(by unfold Tj;rw[hg]);rw[if_pos hw];exact .inl (go s ah h)
  ·rename_i j b9 hg;obtain⟨d,gf,h⟩:=h.out;obtain⟨av,h1,h⟩:=h.out;obtain⟨b,rfl,h2,h3⟩:=Bg h;have hv:=(ah.tok d _ h1).2;have hy:yielded all a.tmps j=some b:=by
    obtain⟨oj,kE,iW⟩:=Tg.1 gf;generalize hx:a.tmps.getD d undef=x at hv;cases hv;have mf:d<a.tmps.size:=(ah.tok d _ h1).1;rw[SI,SK mf]at hx;simp only[S8]at hx;simp[yielded,kE,iW,SK mf,hx]
   have rI:∀b',b=b'->At E V ⟨(d,.val (.bool b'))::s.T,s.H⟩ a nt:=λb' dB=>by
    subst dB;refine⟨ah.bu,λt x e=> ?_,ah.size⟩;simp only[look]at e;split at e
    ·rename_i e';subst e';cases e;exact ah.tok d _ h1
    ·exact ah.tok t x e
   by_cases hb:b=b9
   ·have hw:Tj all[k] (yielded all a.tmps)=true:=(by unfold Tj;rw[hg];simp[hy,hb]);rw[if_pos hw];exact .inl (go _ (rI b9 hb) (h2 hb))
   ·have hw:¬Tj all[k] (yielded all a.tmps)=true:=(by unfold Tj;rw[hg];simp[hy,hb]);rw[if_neg hw];have dB:b= !b9:=(by cases b<;>cases b9<;>simp_all);have vF:=h3 dB;have ah:=rI _ dB;exact Af dn ny n (k+1) ((⟨(d,.val (.bool !b9))::s.T,s.H⟩:AS).put all[k].dst (.val undef)) (by omega) vF E V (a.put all[k].dst undef) Q
     ⟨by rw[fl];exact ah.bu,ah.tok.gQ (λd e=>by rw[ah.size];exact dn _ eB d e) (.val undef),by rw[d_];exact ah.size⟩
     (λae e bQ aS cm di fM de he hΦ=>hQ ae e bQ aS cm di ⟨fM.le,fM.size.trans (d_ _ _ _),fM.defers.trans (put_defers _ _ _),fM.role,fM.deaf⟩ de he hΦ)
def jQ (nt:Nat)(ops:Array Tx):Bool:=ops.all λo=>(o.dst.all (·<nt))&& !ml o.op
theorem jQ.out{nt:Nat}{ops:Array Tx}(hd:jQ nt ops=true){o:Tx}(ho:o∈ops):(∀d,o.dst=some d->d<nt)/\ml o.op=false:=by
 have:=(UH.1 hd) o ho;simp only[Tc,TV]at this;exact⟨λd e=>by have h1:=this.1;rw[e]at h1;simpa using h1,this.2⟩
theorem Ou{nt id:Nat}{ops:Array Tx}{Φ:an->AS->Prop}(hd:jQ nt ops=true)(h:ij lv P ops ops.toList s (Φ .normal) (λpv s=>Φ (.panic pv) s)):aW lv P r nt (.region id ops false) s Φ:=by
 intro E V a Q ah hQ;refine wp_region ?_;rw[Vo];exact Af (Φ:=Φ) (λo ho d e=>(jQ.out hd ho).1 d e) (λo ho=> .inr (jQ.out hd ho).2) ops.size 0 s (by omega) (by simpa using h) E V a Q ah hQ
theorem Oy{nt:Nat}{Φ:an->AS->Prop}(h:Φ .normal s):aW lv P r nt .skip s Φ:=λE V a _ ah hQ=>wp_skip (hQ .normal _ E V a s (Kept.refl E V a) ah trivial h)
theorem Oq{nt l:Nat}{Φ:an->AS->Prop}(h:Φ .normal s):aW lv P r nt (.label l) s Φ:=λE V a _ ah hQ=>wp_label (hQ .normal _ E V a s (Kept.refl E V a) ah trivial h)
theorem Oo{nt id:Nat}{Φ:an->AS->Prop}(h:Φ (.exit id) s):aW lv P r nt (.exit id) s Φ:=λE V a _ ah hQ=>wp_exit (hQ (.exit id) _ E V a s (Kept.refl E V a) ah rfl h)
theorem Ov{nt:Nat}{Φ:an->AS->Prop}(h:Φ .ret s):aW lv P r nt .ret s Φ:=λE V a _ ah hQ=>wp_ret (hQ .ret _ E V a s (Kept.refl E V a) ah trivial h)
def an.then (next:AS->Prop)(Φ:an->AS->Prop):an->AS->Prop
 |.normal,s=>next s
 |e,s=>Φ e s
theorem pw.mono{E E':Env}(h:E.Le E'){ae:an}{e:Ex}(k:pw E ae e):pw E' ae e:=by
 cases ae<;>cases e<;>first|exact k|(obtain⟨v,h1,h2⟩:=k;exact⟨v,h1,h2.mono h⟩)
theorem gW{nt:Nat}{x y:T7}{Φ:an->AS->Prop}(h:aW lv P r nt x s (an.then (λs'=>aW lv P r nt y s' Φ) Φ)):aW lv P r nt (.seq x y) s Φ:=by
 intro E V a Q ah hQ;refine wp_seq (h E V a _ ah λae e E' V' a' s' hk aR he hΦ=> ?_);cases ae<;>cases e<;>first
  |exact he.elim
  |exact hΦ E' V' a' Q aR λae e bQ aS cm di aI de j9 tg=>hQ ae e bQ aS cm di (hk.trans aI) de j9 tg
  |exact hQ _ _ E' V' a' s' hk aR he hΦ
theorem afg{nt:Nat}{c:Tm}{x y:T7}{b:Bool}{Φ:an->AS->Prop}(hc:s.ev c=some (.val (.bool b)))(h1:b=true->aW lv P r nt x s Φ)(h2:b=false->aW lv P r nt y s Φ):aW lv P r nt (.cond c x y) s Φ:=by
 intro E V a Q ah hQ;have hv:=ap.ev ah.tok hc;generalize hx:a.eval c=v at hv;cases hv;refine wp_cond hx ?_;cases b with
 |true=>exact h1 rfl E V a Q ah hQ
 |false=>exact h2 rfl E V a Q ah hQ
def an.inBlock (id:Nat)(Φ:an->AS->Prop):an->AS->Prop
 |.exit oz,s=>if oz=id then Φ .normal s else Φ (.exit oz) s
 |e,s=>Φ e s
theorem Ol{nt id:Nat}{c:T7}{Φ:an->AS->Prop}(h:aW lv P r nt c s (an.inBlock id Φ)):aW lv P r nt (.block id c) s Φ:=by
 intro E V a Q ah hQ;refine wp_block (h E V a _ ah λae e E' V' a' s' hk aR he hΦ=> ?_);cases ae<;>cases e<;>first
  |exact he.elim
  |(rename_i i j
    have e:i=j:=he;subst e;by_cases cg:i=id
    ·simp only[Ex.inBlock,cg,if_true];simp only[an.inBlock,cg,if_true]at hΦ;exact hQ .normal _ E' V' a' s' hk aR trivial hΦ
    ·simp only[Ex.inBlock,cg,if_false];simp only[an.inBlock,cg,if_false]at hΦ;exact hQ (.exit i) _ E' V' a' s' hk aR rfl hΦ)
  |exact hQ _ _ E' V' a' s' hk aR he hΦ
theorem aW.mono{nt:Nat}{c:T7}{Φ Φ':an->AS->Prop}(h:aW lv P r nt c s Φ)(hm:∀e s,Φ e s->Φ' e s):aW lv P r nt c s Φ':=λE V a Q ah hQ=>
 h E V a Q ah λae e E' V' a' s' hk aR he hΦ=>hQ ae e E' V' a' s' hk aR he (hm _ _ hΦ)
def Wk (b a:AV):Prop:=∀E v,ap E b v->ap E a v
theorem Wk.refl(a:AV):Wk a a:=λ_ _ h=>h
theorem iP(n:Nat)(l:List AV)(e:End):Wk (.sl n l e) (.sl n l .shut):=λ_ _ h=>by
 cases h with
 |sl b o cap f hc he h1 h2=>exact .sl b o cap f hc trivial h1 h2
 |nil he=>exact .nil trivial
structure AS.Sub (s s':AS):Prop where
 tok:∀t a,look s'.T t=some a->∃b,look s.T t=some b/\Wk b a
 H:s.H=s'.H
theorem At.sub{E:Env}{V:View}{s s':AS}{a:Act}{nt:Nat}(h:At E V s a nt)(hl:s.Sub s'):At E V s' a nt:=
 ⟨by rw[<- hl.H];exact h.bu,λt x e=>by obtain⟨b,h1,h2⟩:=hl.tok t x e;exact⟨(h.tok t b h1).1,h2 _ _ (h.tok t b h1).2⟩,h.size⟩
theorem kV{lv:Bool}{P:SJ}{r:Option Nat}{nt:Nat}{c:T7}{s s':AS}{Φ:an->AS->Prop}(hl:s.Sub s')(h:aW lv P r nt c s' Φ):aW lv P r nt c s Φ:=λE V a Q ah hQ=>h E V a Q (ah.sub hl) hQ
inductive Lt (n:Nat):AV->Prop
 |val (x:SP):Lt n (.val x)
 |agg {l:List AV} (h:∀a∈l,Lt n a):Lt n (.agg l)
 |aJ {l:List AV} (h:∀a∈l,Lt n a):Lt n (.aJ l)
 |sl {m:Nat} {l:List AV} {e:End} (he:∀k,e=.opn k->k<n) (h:∀a∈l,Lt n a):Lt n (.sl m l e)
 |bJ {id off m cap:Nat} (h:id<n):Lt n (.bJ id off m cap)
 |rp {l:List AV} (h:∀a∈l,Lt n a):Lt n (.rp l)
 |op {id off:Nat} (h:id<n):Lt n (.op id off)
 |fn {f:Fn} {first cR:List AV} (h1:∀a∈first,Lt n a) (h2:∀a∈cR,Lt n a):Lt n (.fn f first cR)
 |cZ {t:TypeId} {x:AV} (h:Lt n x):Lt n (.cZ t x)
 |mp {id:Nat} (h:id<n):Lt n (.mp id)
theorem pi{l:List AV}{a:AV}(h:a∈l):∃i:Nat,l[i]?=some a:=UO.1 h
theorem ap.lt{E:Env}{a:AV}{v:SP}(d:ap E a v):Lt E.n a:=by
 induction d with
 |val x=>exact .val x
 |agg hs _ ih=>exact .agg λa h=>(pi h).elim λi hi=>ih i a hi
 |aJ hs _ ih=>exact .aJ λa h=>(pi h).elim λi hi=>ih i a hi
 |sl b o cap f hc he h1 _ ih=>exact .sl (λk e=>by subst e;exact he.1) λa h=>(pi h).elim λi hi=>ih i a hi
 |nil he=>exact .sl (λk e=>by subst e;exact he.1) (by simp)
 |bJ hi _=>exact .bJ hi
 |rp b o f h1 _ ih=>exact .rp λa h=>(pi h).elim λi hi=>ih i a hi
 |op hi=>exact .op hi
 |fn dL fP _ _ mQ lx=>exact .fn (λa h=>(pi h).elim λi hi=>mQ i a hi) (λa h=>(pi h).elim λi hi=>lx i a hi)
 |cZ _ ih=>exact .cZ ih
 |mp hi=>exact .mp hi
theorem Lt.mono{n m:Nat}(h:n<=m){a:AV}(d:Lt n a):Lt m a:=by
 induction d with
 |val x=>exact .val x
 |agg _ ih=>exact .agg ih
 |aJ _ ih=>exact .aJ ih
 |sl he _ ih=>exact .sl (λk e=>Te (he k e) h) ih
 |bJ hi=>exact .bJ (Te hi h)
 |rp _ ih=>exact .rp ih
 |op hi=>exact .op (Te hi h)
 |fn _ _ mQ lx=>exact .fn mQ lx
 |cZ _ ih=>exact .cZ ih
 |mp hi=>exact .mp (Te hi h)
theorem pu.trim{E:Env}{e:End}{a:Option U3}{m cap n:Nat}(h:pu E e a m cap)(hk:∀k,e=.opn k->k<n):pu {E with n:=n} e a m cap:=by
 cases e with
 |exact=>exact h
 |shut=>trivial
 |opn k=>exact⟨hk k rfl,h.2⟩
theorem get_mem{l:List AV}{i:Nat}{a:AV}(h:l[i]?=some a):a∈l:=UO.2 ⟨i,h⟩
theorem ap.trim{E:Env}{a:AV}{v:SP}(d:ap E a v){n:Nat}(h:Lt n a):ap {E with n:=n} a v:=by
 induction d with
 |val x=>exact .val x
 |agg hs _ ih=>cases h with|agg h=>exact .agg hs λi a e=>ih i a e (h a (get_mem e))
 |aJ hs _ ih=>cases h with|aJ h=>exact .aJ hs λi a e=>ih i a e (h a (get_mem e))
 |sl b o cap f hc he h1 _ ih=>cases h with|sl hk h=>exact .sl b o cap f hc (he.trim hk) h1 λi a e=>ih i a e (h a (get_mem e))
 |nil he=>cases h with|sl hk h=>exact .nil (he.trim hk)
 |bJ hi dP=>cases h with|bJ h=>exact .bJ (E:={E with n:=n}) h dP
 |rp b o f h1 _ ih=>cases h with|rp h=>exact .rp b o f h1 λi a e=>ih i a e (h a (get_mem e))
 |op hi=>cases h with|op h=>exact .op (E:={E with n:=n}) h
 |fn dL fP _ _ mQ lx=>cases h with|fn h1 h2=>exact .fn dL fP (λi a e=>mQ i a e (h1 a (get_mem e))) λi a e=>lx i a e (h2 a (get_mem e))
 |cZ _ ih=>cases h with|cZ h=>exact .cZ (ih h)
 |mp hi=>cases h with|mp h=>exact .mp (E:={E with n:=n}) h
def eV (n:Nat):aa->Prop
 |.cells l _|.part _ l _|.own _ l _=>∀a∈l,Lt n a
 |.iter m _ _ _=>m<n
 |.loop _ _ _ _ T _ _ _ _ df=>(∀t a,look T t=some a->Lt n a)/\df<n
 |_=>True
theorem eV.mono{n m:Nat}(h:n<=m){x:aa}(k:eV n x):eV m x:=by
 cases x with
 |cells l el=>exactλa ha=>(k a ha).mono h
 |part p l el=>exactλa ha=>(k a ha).mono h
 |own p l el=>exactλa ha=>(k a ha).mono h
 |iter=>exact Te k h
 |loop=>exact⟨λt a e=>(k.1 t a e).mono h,Te k.2 h⟩
 |_=>trivial
theorem fH.olt{E:Env}{V:View}{k:Nat}{x:aa}(h:fH E V k x):eV E.n x:=by
 cases x with
 |cells l el=>obtain⟨⟨cs,_,h2⟩,_⟩:=h;exactλa ha=>(pi ha).elim λi hi=>(h2.2 i a hi).lt
 |part p l el=>obtain⟨⟨cs,_,h2,_⟩,_⟩:=h;exactλa ha=>(pi ha).elim λi hi=>(h2.2 i a hi).lt
 |own p l el=>obtain⟨⟨cs,_,h2,_⟩,_⟩:=h;exactλa ha=>(pi ha).elim λi hi=>(h2.2 i a hi).lt
 |iter m a b c=>exact h.1
 |loop=>obtain⟨⟨tmps,_,_,h2⟩,h3,_⟩:=h;exact⟨λt a e=>(h2 t a e).2.lt,h3⟩
 |_=>trivial
theorem fH.trim{E:Env}{V:View}{k n:Nat}{x:aa}(h:fH E V k x)(hl:eV n x):fH {E with n:=n} V k x:=by
 cases x with
 |cells l el=>obtain⟨⟨cs,h1,h2⟩,h3⟩:=h;exact⟨⟨cs,h1,h2.1,λi a e=>(h2.2 i a e).trim (hl a (get_mem e))⟩,h3⟩
 |part p l el=>obtain⟨⟨cs,h1,h2,h4⟩,h3⟩:=h;exact⟨⟨cs,h1,⟨h2.1,λi a e=>(h2.2 i a e).trim (hl a (get_mem e))⟩,h4⟩,h3⟩
 |own p l el=>obtain⟨⟨cs,h1,h2,h4⟩,h3⟩:=h;exact⟨⟨cs,h1,⟨h2.1,λi a e=>(h2.2 i a e).trim (hl a (get_mem e))⟩,h4⟩,h3⟩
 |iter m a b c=>exact⟨hl,h.2⟩
 |tail m sz el=>exact h
 |obj x=>exact h
 |loop=>obtain⟨⟨tmps,h1,h2,h3⟩,h4,h5⟩:=h;exact⟨⟨tmps,h1,h2,λt a e=>⟨(h3 t a e).1,(h3 t a e).2.trim (hl.1 t a e)⟩⟩,hl.2,h5⟩
 |gone=>trivial
 |main=>exact h
def bP (H:List aa):Prop:=∀x∈H,eV H.length x
theorem Conc.az{E:Env}{V:View}{H:List aa}(h:Conc E V H):bP H:=λx hx=>by
 obtain⟨i,hi⟩:=UO.1 hx;rw[<- h.n];exact(h.obj i x hi).olt
theorem El(E:Env)(n k:Nat)(x:aa):bM {E with n:=n} k x=bM E k x:=by cases x<;>rfl
theorem Conc.trim{E:Env}{V:View}{H G:List aa}(h:Conc E V (H++G))(hl:bP H):Conc {E with n:=H.length} V H:=by
 have hg:∀(k:Nat) x,H[k]?=some x->(H++G)[k]?=some x:=λk x e=>by rw[SX (SM.1 e).1];exact e
 refine⟨h.I,rfl,λk x e=>(h.obj k x (hg k x e)).trim (hl x (Tf e)),λi j x y b h1 h2 h3 h4=> ?_,λg j_=> ?_,λg j_=> ?_,h.top,λb y j_=> ?_⟩
 ·rw[El]at h3 h4;exact h.inj i j x y b (hg i x h1) (hg j y h2) h3 h4
 ·obtain⟨q0,q1,q2⟩:=h.group g j_;exact⟨q0,q1,λk x e=>by rw[El];exact q2 k x (hg k x e)⟩
 ·obtain⟨q0,q1,q2⟩:=h.chan g j_;exact⟨q0,q1,λk x e=>by rw[El];exact q2 k x (hg k x e)⟩
 ·obtain⟨q0,q1,q2⟩:=h.fr b y j_;exact⟨q0,q1,λk x e=>by rw[El];exact q2 k x (hg k x e)⟩
structure AS.HK (s s':AS):Prop where
 tok:∀t a,look s'.T t=some a->∃b,look s.T t=some b/\Wk b a/\Lt s'.H.length a
 H:∃G,s.H=s'.H++G
 ok:bP s'.H
theorem Dt{E:Env}{n m:Nat}(h1:m<=n)(h2:n<=E.n){E0:Env}(h:E0.Le E)(h0:E0.n=m):E0.Le {E with n:=n}:=⟨h.I,by show E0.n<=n;omega,h.blk,h.fA,h.room,h.fr,h.main⟩
theorem At.cut{E:Env}{V:View}{s s':AS}{a:Act}{nt:Nat}(h:At E V s a nt)(hl:s.HK s'):At {E with n:=s'.H.length} V s' a nt:=by
 obtain⟨G,hG⟩:=hl.H;have hc:=h.bu;rw[hG]at hc;refine⟨hc.trim hl.ok,λt x e=> ?_,h.size⟩;obtain⟨b,h1,h2,h3⟩:=hl.tok t x e;exact⟨(h.tok t b h1).1,(h2 _ _ (h.tok t b h1).2).trim h3⟩
theorem afj{nt:Nat}{α:Type}{lt:α->α->Prop}(wf:WellFounded lt){c:T7}{Φ:an->AS->Prop}(inv:α->AS)(ok:α->Prop)(m:α)(h0:s.Sub (inv m))(hm:ok m)(hn:∀m,ok m->s.H.length<=(inv m).H.length)
  (h:∀m,ok m->aW lv P r nt c (inv m) (an.then (λs'=>∃m',lt m' m/\ok m'/\(s'.Sub (inv m')\/s'.HK (inv m'))) Φ)):aW lv P r nt (.loop c) s Φ:=by
 intro E V a Q ah hQ;refine NG wf (I:=λm a' V'=>ok m/\∃E',Kept E E' V V' a a'/\At E' V' (inv m) a' nt) m ⟨hm,E,Kept.refl E V a,ah.sub h0⟩ λm a' V' hI=> ?_;obtain⟨az,E',hk,aR⟩:=hI;refine h m az E' V' a' _ aR λae e bQ aS cm di aI de he hΦ=> ?_;cases ae<;>cases e<;>first
  |exact he.elim
  |(obtain⟨m',h1,h2,h3⟩:=hΦ
    rcases h3 with h3|h3
    ·exact⟨m',h1,h2,bQ,hk.trans aI,de.sub h3⟩
    ·refine⟨m',h1,h2,_,?_,de.cut h3⟩;have b_:=hk.trans aI;obtain⟨G,hG⟩:=h3.H;exact⟨Dt (hn m' h2) (by rw[de.bu.n,hG];simp) b_.le ah.bu.n,b_.size,b_.defers,b_.role,b_.deaf⟩)
  |exact hQ _ _ bQ aS cm di (hk.trans aI) de he hΦ
theorem afo{nt:Nat}{c:T7}{Φ:an->AS->Prop}(inv:Nat->Nat->AS->Prop)
  (start:∃n:Nat,aW lv P r nt c s (λe s'=>match e with
   |.goto l=>∃rest,findLabel c l=some rest/\∃m,m<n/\inv l m s'
   |e=>Φ e s'))
  (back:∀l rest m s',findLabel c l=some rest->inv l m s'->aW lv P r nt rest s' (λe di=>match e with
   |.goto l'=>∃yg,findLabel c l'=some yg/\∃m',m'<m/\inv l' m' di
   |e=>Φ e di)):aW lv P r nt (.scope c) s Φ:=by
 intro E V a Q ah hQ;refine ady (λl m a' V'=>∃E' s',Kept E E' V V' a a'/\At E' V' s' a' nt/\inv l m s') ?_ ?_
 ·obtain⟨n,hn⟩:=start;refine⟨n,hn E V a _ ah λae e E' V' a' s' hk aR he hΦ=> ?_⟩;cases ae<;>cases e<;>first
   |exact he.elim
   |(have e:_=_:=he
     subst e;obtain⟨rest,h1,m,h2,h3⟩:=hΦ;exact⟨rest,h1,m,h2,E',s',hk,aR,h3⟩)
   |exact hQ _ _ E' V' a' s' hk aR he hΦ
 ·intro l rest m a' V' hf ⟨E',s',hk,aR,hi⟩;refine back l rest m s' hf hi E' V' a' _ aR λae e bQ aS cm di aI de he hΦ=> ?_;cases ae<;>cases e<;>first
   |exact he.elim
   |(have e:_=_:=he
     subst e;obtain⟨yg,h1,m',h2,h3⟩:=hΦ;exact⟨yg,h1,m',h2,bQ,di,hk.trans aI,de,h3⟩)
   |exact hQ _ _ bQ aS cm di (hk.trans aI) de he hΦ
end
def br:Nat->List AV->List (Nat×AV)
 |_,[]=>[]
 |i,a::l=>(i,a)::br (i+1) l
theorem L9:∀(l:List AV)(i t:Nat)(a:AV),look (br i l) t=some a->i<=t/\l[t-i]?=some a
 |[],_,_,_,h=>by cases h
 |b::l,i,t,a,h=>by
  simp only[br,look]at h;split at h
  ·rename_i e;subst e;cases h;exact⟨SR _,by simp⟩
  ·obtain⟨h1,h2⟩:=L9 l (i+1) t a h;refine⟨by omega,?_⟩;have:t-i=(t-(i+1))+1:=(by omega);rw[this,UI];exact h2
def uT (P:SJ)(s:AS):UL->Option AV
 |.tmp t=>look s.T t
 |.cell a t=>(look s.T a).bind λp=>(s.at p).bind λl=>(Ty P t).bind λx=>if x.2 then(if x.1<=l.length then some (.agg (l.take x.1))else none)else l[0]?
def gR (P:SJ)(s:AS):List UL->Option (List AV)
 |[]=>some []
 |x::l=>match uT P s x,gR P s l with
  |some a,some aG=>some (a::aG)
  |_,_=>none
def iM:List AV->AV
 |[a]=>a
 |l=> .aJ l
theorem apl{P:SJ}{E:Env}{V:View}{s:AS}{a:Act}{nt:Nat}(ah:At E V s a nt){x:UL}{av:AV}(h:uT P s x=some av):
  ∃v,ap E av v/\∀{K:SP->View->Prop}{Kp:SP->View->Prop},K v V->aP P V (match x with|.tmp t=>pure (a.tmps.getD t undef)|.cell b t=>do loadVar t (<- asAddr (a.tmps.getD b undef))) K Kp:=by
 cases x with
 |tmp t=>exact⟨_,(ah.tok t av h).2,λhK=>aq hK⟩
 |cell b t=>
  unfold uT at h;obtain⟨p,h1,h⟩:=Tg.1 h;obtain⟨l,h2,h⟩:=Tg.1 h;obtain⟨⟨n,g⟩,h3,h⟩:=Tg.1 h;obtain⟨i,d,t1,t2,rfl,t4⟩:=Ty.out h3;obtain⟨bb,off,f,hv,hg,j_,hd⟩:=ah.bu.at (ah.tok b p h1).2 h2;dsimp only;rw[hv];cases g with
  |true=>
   simp only[if_true]at h;split at h
   ·rename_i hlen;cases h;refine⟨_,IF hlen hd,λhK=> ?_⟩;refine aA ?_;unfold asAddr;refine aq ?_;unfold loadVar;refine Di t2 ?_;rw[t4];simp only[if_true];refine jV t1 ?_;exact aA (Ar (f:=f) (λh=>j_ (by omega)) (λj hj=>hg j (by omega)) (aq hK))
   ·cases h
  |false=>
   simp only[TN,if_false]at h;have hlen:0<l.length:=(SM.1 h).1;have oo:=hg 0 hlen;rw[UK]at oo;refine⟨_,hd 0 av h,λhK=> ?_⟩;refine aA ?_;unfold asAddr;refine aq ?_;unfold loadVar;refine Di t2 ?_;rw[t4];simp only[TN,if_false];exact M3 oo (.inl (j_ hlen)) (cG hK)
theorem GX{P:SJ}{E:Env}{V:View}{s:AS}{a:Act}{nt:Nat}(ah:At E V s a nt):∀(rs:List UL)(l:List AV),gR P s rs=some l->∃vs:List SP,vs.length=l.length/\(∀(i:Nat) x,l[i]?=some x->ap E x (vs.getD i undef))/\
  ∀{K:List SP->View->Prop}{Kp:SP->View->Prop},K vs V->aP P V (rs.mapM λx=>(match x with|.tmp t=>pure (a.tmps.getD t undef)|.cell b t=>do loadVar t (<- asAddr (a.tmps.getD b undef)):Sem SP)) K Kp
 |[],l,h=>by
  cases h;refine⟨[],rfl,by simp,λhK=> ?_⟩;rw[UA];exact aq hK
 |x::rs,l,h=>by
  simp only[gR]at h;split at h
  ·rename_i av l7 h1 h2;cases h;obtain⟨v,hv,hs⟩:=apl ah h1;obtain⟨vs,hl,lQ,FQ⟩:=GX ah rs l7 h2;refine⟨v::vs,by simp[hl],λi x hx=> ?_,λhK=> ?_⟩
   ·cases i with
    |zero=>cases hx;simpa using hv
    |succ i=>simpa using lQ i x (by simpa using hx)
   ·rw[T8];exact aA (hs (aA (FQ (aq hK))))
  ·cases h
attribute [seval] Int.natCast_pow Int.natCast_mul Int.natCast_shiftLeft Int.natCast_emod Int.ofNat_sub Int.natCast_shiftRight Int.natCast_add_one Int.natCast_add Int.cast_id Int.natCast_sub Int.natCast_ediv Int.natCast_succ
open Go.Conc
def cw (n0:Nat)(H:List aa)(a:AV)(k:AV->List aa->Prop):Prop:=
 ∃b,Wk a b/\(k b H\/∃H' G,H=H'++G/\n0<=H'.length/\bP H'/\Lt H'.length b/\k b H')
def se (P:SJ)(rs:List UL)(n0:Nat)(k kp:AV->List aa->Prop):an->AS->Prop
 |.normal,s|.ret,s=>ao (gR P s rs) λl=>cw n0 s.H (iM l) k
 |.panic pv,s=>cw n0 s.H pv kp
 |_,_=>False
theorem bW{n0:Nat}{H:List aa}{a:AV}{k:AV->List aa->Prop}(h:k a H):cw n0 H a k:=⟨a,Wk.refl a,.inl h⟩
theorem jR{H H' G:List aa}{a b:AV}{k:AV->List aa->Prop}{n0:Nat}(hw:Wk a b)(hH:H=H'++G)(hn:n0<=H'.length)(az:bP H')(hl:Lt H'.length b)(h:k b H'):cw n0 H a k:=⟨b,hw,.inr ⟨H',G,hH,hn,az,hl,h⟩⟩
theorem w_{n0:Nat}{E0 E:Env}{V':View}{H:List aa}{a:AV}{v:SP}{k:AV->List aa->Prop}(h:cw n0 H a k)(hc:Conc E V' H)(hd:ap E a v)(hle:E0.Le E)(hn:E0.n=n0):∃b E' H',E0.Le E'/\ap E' b v/\Conc E' V' H'/\k b H':=by
 obtain⟨b,hw,h|⟨H',G,rfl,h1,h2,h3,h4⟩⟩:=h
 ·exact⟨b,E,H,hle,hw _ _ hd,hc,h⟩
 ·refine⟨b,{E with n:=H'.length},H',Dt h1 (by rw[hc.n];simp) hle hn,(hw _ _ hd).trim h3,hc.trim h2,h4⟩
theorem aiJ{lv:Bool}{P:SJ}{f:TO}{fn:YC}{c:T7}{rs:List UL}{nt:Nat}{H:List aa}{args:List AV}{k kp:AV->List aa->Prop}(hf:P.funcs[f]?=some fn)(hb:fn.body=some c)(hr:fn.results=rs.toArray)(hn:fn.ntmps=nt)(cK:args.length<=nt)
  (h:bP H->(∀a∈args,Lt H.length a)->aW lv P none nt c ⟨br 0 args,H⟩ (se P rs H.length k kp)):bf lv P f H args k kp:=by
 intro E V vs hc hd;have aV:(vs++TK (fn.ntmps-vs.size) undef).size=nt:=by simp[hd.1];omega
 have hlt:∀a∈args,Lt H.length a:=λa ha=>by
  obtain⟨i,hi⟩:=pi ha;rw[<- hc.n];exact(hd.2 i a hi).lt
 refine OM (by simp) hf hb (h hc.az hlt E V _ _ ⟨hc,λq a e=> ?_,aV⟩ λae e E' V' a' s' hk ah he hΦ=> ?_)
 ·obtain⟨_,e⟩:=L9 args 0 q a e;simp only[Z3]at e;have hq:q<args.length:=(SM.1 e).1;have s8:q<vs.size:=by rw[hd.1];exact hq
  refine⟨by rw[aV];omega,?_⟩;have:=hd.2 q a e;rw[SI,X9 s8];rwa [SI]at this
 ·have fin:(ao (gR P s' rs) λl=>cw H.length s'.H (iM l) k)->a'.defers=[]/\∃v,aP P V' (results fn a'.tmps) (λx aS=>x=v/\aS=V') (λ_ _=>False)/\gK E V k kp (.ret v) V':=by
   intro hΦ;obtain⟨l,h1,h2⟩:=hΦ.out;have gn:∃v,ap E' (iM l) v/\aP P V' (results fn a'.tmps) (λx aS=>x=v/\aS=V') (λ_ _=>False):=by
    obtain⟨vs,hl,lQ,xJ⟩:=GX ah rs l h1;refine⟨if h:vs.length=1 then vs[0]else .tuple vs.toArray,?_,?_⟩
    ·match l,vs,hl,lQ with
     |[x],[v],_,lQ=>exact lQ 0 x rfl
     |[],[],_,lQ=>exact .aJ rfl (by simp)
     |x::y::l,v::w::vs,hl,lQ=>exact .aJ (by simpa using hl) (λi z hz=>by simpa[SI,SE]using lQ i z hz)
    ·unfold results;rw[hr,XX];refine aA ?_;refine aA (xJ ?_);refine aq (aq ⟨?_,rfl⟩);simp
   obtain⟨v,bk,qb⟩:=gn;obtain⟨b,bQ,H',q1,q2,q3,q4⟩:=w_ h2 ah.bu bk hk.le hc.n;exact⟨hk.defers,v,qb,b,bQ,H',q1,hk.role,hk.deaf,q2,q3,q4⟩
  cases ae<;>cases e<;>first
   |exact he.elim
   |exact fin hΦ
   |(obtain⟨v,rfl,bk⟩:=he
     obtain⟨b,bQ,H',q1,q2,q3,q4⟩:=w_ hΦ ah.bu bk hk.le hc.n;exact⟨hk.defers,b,v,bQ,H',rfl,q1,hk.role,hk.deaf,q2,q3,q4⟩)
   |exact hΦ.elim
open Go.Conc
theorem amQ(k:Nat)(a:AV)(l:List (Nat×AV)):look ((k,a)::l) k=some a:=by simp[look]
theorem amR(k t:Nat)(a:AV)(l:List (Nat×AV))(h:(k==t)=false):look ((k,a)::l) t=look l t:=by
 have:¬k=t:=by simpa using h
 simp[look,this]
theorem Ae{α:Type}(a:α)(k:α->Prop):ao (some a) k=k a:=by rw[ao]
theorem ae0(b:Bool)(k:Bool->Prop):AV.asBool (.val (.bool b)) k=k b:=by rw[AV.asBool]
theorem ae2(j:TU)(n:Int)(k:TU->Int->Prop):AV.asInt (.val (.int j n)) k=k j n:=by rw[AV.asInt]
theorem ae9(l:List AV)(k:List AV->Prop):AV.wW (.aJ l) k=k l:=by rw[AV.wW]
theorem aeY(l:List AV)(k:List AV->Prop):AV.asAgg (.agg l) k=k l:=by rw[AV.asAgg]
theorem ae4(i j:Nat)(k:Nat->Nat->Prop):AV.pC (.op i j) k=k i j:=by rw[AV.pC]
theorem ae3(i:Nat)(k:Nat->Prop):AV.su (.mp i) k=k i:=by rw[AV.su]
theorem ae7(n:Nat)(l:List AV)(e:End)(k:Nat->List AV->End->Prop):AV.vo (.sl n l e) k=k n l e:=by rw[AV.vo]
theorem ael(P:SJ)(xt:TypeId)(j:TU)(m n:Int)(k:AV->Prop):dF P .add xt (.val (.int j m)) (.val (.int j n)) k=k (.val (.int j (j.wrap (m+n)))):=by simp[dF,mR,l8,ao]
theorem aex(P:SJ)(xt:TypeId)(j:TU)(m n:Int)(k:AV->Prop):dF P .sub xt (.val (.int j m)) (.val (.int j n)) k=k (.val (.int j (j.wrap (m-n)))):=by simp[dF,mR,l8,ao]
theorem aet(P:SJ)(xt:TypeId)(j:TU)(m n:Int)(k:AV->Prop):dF P .mul xt (.val (.int j m)) (.val (.int j n)) k=k (.val (.int j (j.wrap (m* n)))):=by simp[dF,mR,l8,ao]
theorem aen(P:SJ)(xt:TypeId)(j:TU)(m n:Int)(k:AV->Prop):dF P .eql xt (.val (.int j m)) (.val (.int j n)) k=k (.val (.bool (m==n))):=by simp[dF,mR,l8,ao]
theorem N3(P:SJ)(xt:TypeId)(j:TU)(m n:Int)(k:AV->Prop):dF P .neq xt (.val (.int j m)) (.val (.int j n)) k=k (.val (.bool (m !=n))):=by simp[dF,mR,l8,ao]
theorem aes(P:SJ)(xt:TypeId)(j:TU)(m n:Int)(k:AV->Prop):dF P .lss xt (.val (.int j m)) (.val (.int j n)) k=k (.val (.bool (decide (m<n)))):=by simp[dF,mR,l8,ao]
theorem aer(P:SJ)(xt:TypeId)(j:TU)(m n:Int)(k:AV->Prop):dF P .leq xt (.val (.int j m)) (.val (.int j n)) k=k (.val (.bool (decide (m<=n)))):=by simp[dF,mR,l8,ao]
theorem aep(P:SJ)(xt:TypeId)(j:TU)(m n:Int)(k:AV->Prop):dF P .gtr xt (.val (.int j m)) (.val (.int j n)) k=k (.val (.bool (decide (m>n)))):=by simp[dF,mR,l8,ao]
theorem aeo(P:SJ)(xt:TypeId)(j:TU)(m n:Int)(k:AV->Prop):dF P .geq xt (.val (.int j m)) (.val (.int j n)) k=k (.val (.bool (decide (m>=n)))):=by simp[dF,mR,l8,ao]
theorem aem(P:SJ)(xt:TypeId)(j:TU)(m n:Int)(k:AV->Prop):dF P .and xt (.val (.int j m)) (.val (.int j n)) k=k (.val (.int j (j.wrap (Ug j.bits m&&&Ug j.bits n).toNat))):=by simp[dF,mR,l8,ao]
theorem A'(P:SJ)(xt:TypeId)(j:TU)(m n:Int)(k:AV->Prop):dF P .or xt (.val (.int j m)) (.val (.int j n)) k=k (.val (.int j (j.wrap (Ug j.bits m|||Ug j.bits n).toNat))):=by simp[dF,mR,l8,ao]
theorem Bb(P:SJ)(xt:TypeId)(j:TU)(m n:Int)(k:AV->Prop):dF P .xor xt (.val (.int j m)) (.val (.int j n)) k=k (.val (.int j (j.wrap (Ug j.bits m^^^Ug j.bits n).toNat))):=by simp[dF,mR,l8,ao]
theorem aev(P:SJ)(xt:TypeId)(j:TU)(m n:Int)(k:AV->Prop):dF P .rem xt (.val (.int j m)) (.val (.int j n)) k=ao (if n=0 then none else some (.int j (m.tmod n))) λv=>k (.val v):=by simp[dF,mR,l8]
theorem aew(P:SJ)(xt:TypeId)(j j':TU)(m n:Int)(k:AV->Prop):dF P .shl xt (.val (.int j m)) (.val (.int j' n)) k=ao (if n<0 then none else some (.int j (j.wrap (m* 2^(min n.toNat j.bits))))) λv=>k (.val v):=by simp[dF,mR,Av]
theorem Ba(P:SJ)(xt:TypeId)(j j':TU)(m n:Int)(k:AV->Prop):dF P .shr xt (.val (.int j m)) (.val (.int j' n)) k=ao (if n<0 then none else some (.int j (m.fdiv (2^(min n.toNat j.bits))))) λv=>k (.val v):=by simp[dF,mR,Av]
theorem ahk(T:List (Nat×AV))(H:List aa)(t:Nat):AS.ev ⟨T,H⟩ (.tmp t)=look T t:=by rw[AS.ev]
theorem ahb(s:AS)(b:Bool):s.ev (.const (.bool b))=some (.val (.bool b)):=by rw[AS.ev,AV.of]<;>(intros;simp_all)
theorem ahf(s:AS)(k:TU)(n:Int):s.ev (.const (.int k n))=some (.val (.int k n)):=by rw[AS.ev,AV.of]<;>(intros;simp_all)
theorem ahd(s:AS)(f:TO):s.ev (.func f)=some (.fn (.func f) [] []):=by rw[AS.ev]
theorem ahj(s:AS):s.ev (.const (.slice none 0 0))=some (.sl 0 [] .exact):=by rw[AS.ev,AV.of]
theorem ahg(s:AS):s.ev (.const (.map none))=some (.val (.map none)):=by rw[AS.ev,AV.of]<;>(intros;simp_all)
theorem ahh(s:AS):s.ev (.const (.pointer none))=some (.val (.pointer none)):=by rw[AS.ev,AV.of]<;>(intros;simp_all)
theorem ahc(s:AS):s.ev (.const .nilFunc)=some (.val .nilFunc):=by rw[AS.ev,AV.of]<;>(intros;simp_all)
theorem ahe(s:AS):s.ev (.const .nilIface)=some (.val .nilIface):=by rw[AS.ev,AV.of]<;>(intros;simp_all)
theorem aou(T:List (Nat×AV))(H:List aa)(d:Nat)(a:AV):AS.put ⟨T,H⟩ (some d) a=⟨(d,a)::T,H⟩:=by rw[AS.put]
theorem aot(s:AS)(a:AV):AS.put s none a=s:=by rw[AS.put]
theorem arl(n:AS->Prop)(Φ:an->AS->Prop)(s:AS):an.then n Φ .normal s=n s:=by rw[an.then]
theorem arn(n:AS->Prop)(Φ:an->AS->Prop)(s:AS):an.then n Φ .ret s=Φ .ret s:=by rw[an.then];intro h;cases h
theorem arj(n:AS->Prop)(Φ:an->AS->Prop)(i:Nat)(s:AS):an.then n Φ (.exit i) s=Φ (.exit i) s:=by rw[an.then];intro h;cases h
theorem ark(n:AS->Prop)(Φ:an->AS->Prop)(i:Nat)(s:AS):an.then n Φ (.goto i) s=Φ (.goto i) s:=by rw[an.then];intro h;cases h
theorem arm(n:AS->Prop)(Φ:an->AS->Prop)(a:AV)(s:AS):an.then n Φ (.panic a) s=Φ (.panic a) s:=by rw[an.then];intro h;cases h
theorem afX(i:Nat)(Φ:an->AS->Prop)(s:AS):an.inBlock i Φ .normal s=Φ .normal s:=by rw[an.inBlock];intro h h';cases h'
theorem afZ(i:Nat)(Φ:an->AS->Prop)(s:AS):an.inBlock i Φ .ret s=Φ .ret s:=by rw[an.inBlock];intro h h';cases h'
theorem afU(i l:Nat)(Φ:an->AS->Prop)(s:AS):an.inBlock i Φ (.goto l) s=Φ (.goto l) s:=by rw[an.inBlock];intro h h';cases h'
theorem afY(i:Nat)(Φ:an->AS->Prop)(a:AV)(s:AS):an.inBlock i Φ (.panic a) s=Φ (.panic a) s:=by rw[an.inBlock];intro h h';cases h'
theorem afV(i:Nat)(Φ:an->AS->Prop)(s:AS):an.inBlock i Φ (.exit i) s=Φ .normal s:=by rw[an.inBlock,if_pos rfl]
theorem afW(i j:Nat)(Φ:an->AS->Prop)(s:AS)(h:(j==i)=false):an.inBlock i Φ (.exit j) s=Φ (.exit j) s:=by
 have:¬j=i:=by simpa using h
 rw[an.inBlock,if_neg this]
theorem aiU(P:SJ)(rs:List UL)(n:Nat)(k kp:AV->List aa->Prop)(s:AS):se P rs n k kp .ret s=ao (gR P s rs) λl=>cw n s.H (iM l) k:=by rw[se]
theorem aiS(P:SJ)(rs:List UL)(n:Nat)(k kp:AV->List aa->Prop)(s:AS):se P rs n k kp .normal s=ao (gR P s rs) λl=>cw n s.H (iM l) k:=by rw[se]
theorem aiT(P:SJ)(rs:List UL)(n:Nat)(k kp:AV->List aa->Prop)(a:AV)(s:AS):se P rs n k kp (.panic a) s=cw n s.H a kp:=by rw[se]
theorem apm(P:SJ)(T:List (Nat×AV))(H:List aa)(t:Nat):uT P ⟨T,H⟩ (.tmp t)=look T t:=by rw[uT]
theorem aff(s:AS)(l:List AV):s.at (.rp l)=some l:=by rw[AS.at]
theorem aqc(n i off:Nat):AV.shift n (.op i off)=some (.op i (off+n)):=by rw[AV.shift]
theorem acu(n:Nat)(l:List AV)(h:n<=l.length):AV.shift n (.rp l)=some (.rp (l.drop n)):=by rw[AV.shift,if_pos h]
theorem aqd(l:List AV):AV.shift 0 (.rp l)=some (.rp l):=by rw[AV.shift,if_pos (X_ _),Xx]
theorem aqe(n:Nat)(a:AV)(l:List AV):AV.shift (n+1) (.rp (a::l))=AV.shift n (.rp l):=by simp[AV.shift]
theorem apy(n:Nat)(l:List AV)(e:End):AV.row (.sl n l e)=some (n,.rp l):=by rw[AV.row]
theorem apx(i off n cap:Nat):AV.row (.bJ i off n cap)=some (n,.op i off):=by rw[AV.row]
theorem ad5(P:SJ)(s:AS){t:TypeId}(n:Nat)(l:List AV)(e:End)(k:AV->Prop)(h:lC P t=some .slice):rZ P s t (.sl n l e) k=k (.val (.int .i64 n)):=by unfold rZ;rw[h]
theorem ad4(P:SJ)(s:AS){t:TypeId}(i off n cap:Nat)(k:AV->Prop)(h:lC P t=some .slice):rZ P s t (.bJ i off n cap) k=k (.val (.int .i64 n)):=by unfold rZ;rw[h]
theorem ad3(P:SJ)(T:List (Nat×AV))(H:List aa){t:TypeId}(id:Nat)(k:AV->Prop){es:Array Wn}{ck:Nat}(h:lC P t=some .map)(hH:H[id]?=some (.obj (.map es ck))):rZ P ⟨T,H⟩ t (.mp id) k=k (.val (.int .i64 es.size)):=by
 unfold rZ;rw[h];simp[hH]
theorem bz{a b:AV}:(∃c,some b=some c/\Wk c a)<->Wk b a:=⟨λ⟨_,h,k⟩=>by cases h;exact k,λh=>⟨_,rfl,h⟩⟩
abbrev iv (n:Int):AV:=.val (.int .i64 n)
abbrev bv (b:Bool):AV:=.val (.bool b)
open Go.Conc
theorem Om{lv:Bool}{P:SJ}{r:Option Nat}{s:AS}{nt:Nat}{c:Tm}{x y:T7}{Φ:an->AS->Prop}(h:ao (s.ev c) λa=>a.asBool λb=>(b=true->aW lv P r nt x s Φ)/\(b=false->aW lv P r nt y s Φ)):aW lv P r nt (.cond c x y) s Φ:=by
 obtain⟨a,h1,h2⟩:=h.out;obtain⟨b,rfl,h3,h4⟩:=Bg h2;exact afg h1 h3 h4
theorem Pr{α β:Type}{f:α->List β}{m:Nat}(hf:∀x,(f x).length=m):∀{xs:List α}{i:Nat}{x:α},xs[i]?=some x->(xs.flatMap f).drop (i* m)=f x++(xs.drop (i+1)).flatMap f
 |y::xs,0,x,h=>by cases h;simp
 |y::xs,i+1,x,h=>by
  have ih:=Pr hf (xs:=xs) (i:=i) (x:=x) (by simpa using h);rw[T9,Va,Nat.one_mul,Z8 (i* m) m,<- af_];have:(f y++xs.flatMap f).drop m=xs.flatMap f:=by rw[<- hf y];simp
  rw[this,ih];simp
 |[],i,x,h=>by simp at h
theorem amu{α β:Type}{f:α->List β}{m:Nat}(hf:∀x,(f x).length=m)(xs:List α):(xs.flatMap f).length=xs.length* m:=by
 induction xs with
 |nil=>simp
 |cons x xs ih=>rw[T9,SO,hf,ih,Ui,Va];omega
theorem acr{α:Type}{f:α->List AV}{m:Nat}(hf:∀x,(f x).length=m){xs:List α}{i:Nat}{x:α}(h:xs[i]?=some x):AV.shift (i* m) (.rp (xs.flatMap f))=some (.rp (f x++(xs.drop (i+1)).flatMap f)):=by
 have hi:i<xs.length:=(SM.1 h).1;rw[acu _ _ (by rw[amu hf];exact Uf _ (by omega)),Pr hf h]
theorem acs{α:Type}{f:α->AV}{xs:List α}{i:Nat}{x:α}(h:xs[i]?=some x):AV.shift (i* 1) (.rp (xs.map f))=some (.rp (f x::(xs.drop (i+1)).map f)):=by
 have hi:i<xs.length:=(SM.1 h).1;rw[Ya,acu _ _ (by simp;omega)];congr 2;rw[<- aj_,TW hi,UP];congr 2;rw[SQ hi]at h;exact VX h
theorem jp{i n:Nat}(h:i<n):(0<=(i:Int)/\(i:Int)<(n:Int))=True:=by simp;exact h
theorem eR{α:Type}{xs:List α}{i:Nat}{x:α}(h:xs[i]?=some x):i<xs.length:=(SM.1 h).1
theorem bX{α:Type}{xs:List α}{i:Nat}(h:i<xs.length):∃x,xs[i]?=some x:=⟨_,SQ h⟩
theorem vg(H L:List aa)(i:Nat):(H++L)[H.length+i]?=L[i]?:=by rw[Th (by omega)];congr 1;omega
theorem aeR(H L:List aa):(H++L)[H.length]?=L[0]?:=by have:=vg H L 0;simpa using this
theorem vk(H L:List aa)(i:Nat)(x:aa):(H++L).set (H.length+i) x=H++L.set i x:=by
 rw[UN _ _ (by omega)];congr 2;omega
theorem aeV(H L:List aa)(x:aa):(H++L).set H.length x=H++L.set 0 x:=by have:=vk H L 0 x;simpa using this
theorem aeQ(H L M:List aa):(H++L)++M=H++(L++M):=SD ..
theorem aeU(H L:List aa):(H++L).length=H.length+L.length:=SO
theorem eI(n:Nat)(x:SP):Lt n (.val x)=True:=by simp[Lt.val]
theorem aaO(n i o:Nat):Lt n (.op i o)=(i<n):=propext ⟨λh=>by cases h with|op h=>exact h,.op⟩
theorem tn(n:Nat)(l:List AV):Lt n (.agg l)=∀a∈l,Lt n a:=propext ⟨λh=>by cases h with|agg h=>exact h,.agg⟩
theorem je(n:Nat)(l:List AV):Lt n (.aJ l)=∀a∈l,Lt n a:=propext ⟨λh=>by cases h with|aJ h=>exact h,.aJ⟩
theorem aaN(n:Nat)(t:TypeId)(a:AV):Lt n (.cZ t a)=Lt n a:=propext ⟨λh=>by cases h with|cZ h=>exact h,.cZ⟩
theorem tp(n m:Nat)(l:List AV):Lt n (.sl m l .shut)=∀a∈l,Lt n a:=propext ⟨λh=>by cases h with|sl _ h=>exact h,λh=> .sl (by simp) h⟩
theorem L_(n m:Nat)(l:List AV):Lt n (.sl m l .exact)=∀a∈l,Lt n a:=propext ⟨λh=>by cases h with|sl _ h=>exact h,λh=> .sl (by simp) h⟩
theorem amU(n m k:Nat)(l:List AV):Lt n (.sl m l (.opn k))=(k<n/\∀a∈l,Lt n a):=propext ⟨λh=>by cases h with|sl h' h=>exact⟨h' k rfl,h⟩,λh=> .sl (λk' e=>by cases e;exact h.1) h.2⟩
theorem x8(n:Nat)(l:List AV):Lt n (.rp l)=∀a∈l,Lt n a:=propext ⟨λh=>by cases h with|rp h=>exact h,.rp⟩
open Go.Conc
def cP (o:Tx):List Nat:=o.after.toList.filterMap λe=>if Yq .any e then some e.on else none
inductive lZ (ops:Array Tx):List Nat->List Nat->Prop
 |nil (X:List Nat) (h:∀i,i<ops.size->i∈X):lZ ops X []
 |cons {X:List Nat} {i:Nat} {l:List Nat} (o:Tx) (ho:ops[i]?=some o) (hn:i∉X) (hd:∀j∈cP o,j∈X) (h:lZ ops (i::X) l):lZ ops X (i::l)
theorem Gq{o:Tx}{j:Nat}:j∈cP o<->∃e∈o.after,Yq .any e=true/\e.on=j:=by
 unfold cP;rw[VU];constructor
 ·rintro⟨e,he,h⟩
  split at h
  ·rename_i hb;cases h;exact⟨e,by simpa using he,hb,rfl⟩
  ·cases h
 ·rintro⟨e,he,hb,rfl⟩
  exact⟨e,by simpa using he,by rw[if_pos hb]⟩
theorem O3{l:List Nat}{i:Nat}(hi:i∈l){p q:Nat->Bool}(iq:∀k,q k=true->p k=true)(hp:p i=true)(hq:q i=false):l.countP q<l.countP p:=by
 induction l with
 |nil=>cases hi
 |cons x l ih=>
  have hle:l.countP q<=l.countP p:=List.countP_mono_left λk _ h=>iq k h;rcases SL.1 hi with rfl|hi
  ·rw[WT (by simp[hq]),VT hp];omega
  ·have:=ih hi;by_cases hx:q x=true
   ·rw[VT hx,VT (iq x hx)];omega
   ·rw[WT hx];by_cases jE:p x=true
    ·rw[VT jE];omega
    ·rw[WT jE];exact this
structure NY (ops:Array Tx)(L:Array Bool)(X:List Nat):Prop where
 size:L.size=ops.size
 mem:∀i,i<ops.size->(L[i]?=some true<->i∈X)
theorem aaG{ops:Array Tx}(gZ:∀(i:Nat) o,ops[i]?=some o->∀j∈cP o,j<i):∀(fuel t:Nat)(L:Array Bool)(X:List Nat),NY ops L X->(SZ ops.size).countP (λi=> !X.contains i)<=fuel->lZ ops X (UE .any ops fuel t L [])
 |0,t,L,X,hr,hc=>by
  simp only[UE,XT];refine .nil X λi hi=> ?_;have:(SZ ops.size).countP (λi=> !X.contains i)=0:=by omega
  have:=List.countP_eq_zero.1 this i (by simpa using hi);simpa using this
 |fuel+1,t,L,X,hr,hc=>by
  have uw:∀i,i∈((SZ ops.size).filter λi=> !L.getD i true&&((ops[i]?).map (·.after.all λe=> !Region.binds .any e||L.getD e.on false)).getD false)<->∃o,ops[i]?=some o/\i∉X/\∀j∈cP o,j∈X:=by
   intro i;simp only[Ud,Tu,Tc,TV];constructor
   ·rintro⟨hi,h1,h2⟩
    have ho:=SK hi;refine⟨ops[i],ho,λhx=> ?_,λj hj=> ?_⟩
    ·have:=(hr.mem i hi).2 hx;rw[SI,this]at h1;cases h1
    ·obtain⟨e,he,hb,rfl⟩:=Gq.1 hj;rw[ho]at h2;simp only[UM,S8,UH]at h2;have:=h2 e he;rw[hb]at this;simp only[an_,ZB]at this;have hlt:e.on<ops.size:=Wp (gZ i _ ho _ hj) hi;refine(hr.mem _ hlt).1 ?_;rw[SI]at this;cases hx:L[e.on]?with
     |none=>rw[hx]at this;cases this
     |some b=>rw[hx]at this;cases b;cases this;rfl
   ·rintro⟨o,ho,h1,h2⟩
    have hi:i<ops.size:=(SU.1 ho).1;refine⟨hi,?_,?_⟩
    ·rw[SI,SK (by rw[hr.size];exact hi)];simp only[S8];cases hb:L[i]'(by rw[hr.size];exact hi)with
     |false=>rfl
     |true=>exact absurd ((hr.mem i hi).1 (by rw[SK (by rw[hr.size];exact hi),hb])) h1
    ·rw[ho];simp only[UM,S8,UH];intro e he;cases hb:Yq .any e with
     |false=>rfl
     |true=>
      have hj:=Gq.2 ⟨e,he,hb,rfl⟩;have hlt:e.on<ops.size:=Wp (gZ i _ ho _ hj) hi;have:=(hr.mem _ hlt).2 (h2 _ hj);simp[SI,this]
  simp only[UE];generalize Cz:((SZ ops.size).filter λi=> !L.getD i true&&((ops[i]?).map (·.after.all λe=> !Region.binds .any e||L.getD e.on false)).getD false)=rs at uw;cases hi:rs[t % rs.length]?with
  |none=>
   have KF:rs=[]:=by
    cases rs with
    |nil=>rfl
    |cons x xs=>
     have hlt:t % (x::xs).length<(x::xs).length:=as' _ (by simp);rw[List.getElem?_eq_none_iff]at hi;omega
   simp only[XT];refine .nil X λi=> ?_;induction i using Ym with
   |_ i ih=>
    intro hlt;apply Tl;intro hx;have:i∈rs:=(uw i).2 ⟨ops[i],SK hlt,hx,λj hj=>ih j (gZ i _ (SK hlt) j hj) (Wp (gZ i _ (SK hlt) j hj) hlt)⟩;rw[KF]at this;cases this
  |some i=>
   simp only[];obtain⟨o,ho,h1,h2⟩:=(uw i).1 (Tf hi);have hlt:i<ops.size:=(SU.1 ho).1;rw[linearise_go_acc,List.reverse_singleton,Y6];refine .cons o ho h1 h2 (aaG gZ fuel _ _ (i::X) ⟨by simp[hr.size],λk hk=> ?_⟩ ?_)
   ·by_cases ri:k=i
    ·subst ri;simp[S_ (by rw[hr.size];exact hlt)]
    ·rw[SV (Ne.symm ri),hr.mem k hk];simp[ri]
   ·have eB:i∈(SZ ops.size):=(by simpa using hlt);have:(SZ ops.size).countP (λk=> !(i::X).contains k)<(SZ ops.size).countP (λk=> !X.contains k):=by
     exact O3 eB (λk hk=>by simp only[TV,Un,decide_eq_false_iff_not]at hk⊢;exactλh=>hk (Tb _ h)) (by simpa using h1) (by simp)
    omega
end Go.Gg
