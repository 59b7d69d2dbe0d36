/- A part of the proof. -/
import Derived.Conc.Own5
import Derived.Conc.Own4
import Derived.Conc.Own3
import Derived.Conc.Own2
import Derived.Conc.QuitsD
import Derived.Conc.Deaf
import Derived.Conc.CompanyDraw
import Derived.Conc.Comm2
import Derived.Conc.Beside
import Derived.Conc.Events
import Derived.Orders
set_option linter.all false
set_option maxRecDepth 4000
set_option maxHeartbeats 4000000
open Array renaming all_eq_true_iff_forall_mem->UE,append_assoc->Xt,empty_append->Xs,ext'->VC,getD_eq_getD_getElem?->SI,getElem?_append_left->Yc,getElem?_append_right->X8,getElem?_eq_getElem->SJ,getElem?_eq_some_iff->SS,getElem?_map->WF,getElem?_modify->Wj,getElem?_push->Xk,getElem?_push_lt->Yz,getElem?_setIfInBounds_ne->SR,getElem?_setIfInBounds_self_of_lt->S9,getElem_mem->XX,isEmpty_iff->Zd,mem_append->Ut,range->WK,replicate->TE,size_append->XE,toList_map->VM
open BitVec renaming ofInt->Ud
open Bool renaming and_eq_true->Ti,false_eq_true->TM,false_or->Zv,not_eq_true'->TV,not_false->YF,not_true->am'
open Classical renaming byContradiction->Tt
open Function renaming comp_def->Yy
open Go renaming Addr->U4,BinOp->VZ,Call->Xq,CallKind->Xg,Code->T7,Event->Uq,Field->YW,Frame->T8,Func->YD,FuncId->TN,Goroutine->SH,IntKind->TU,Item->WW,LoopState->aa_,MapEntry->Wm,Oper->Tx,Operand->Tl,PanicEntry->ZU,Program->SK,ResultVar->UM,TypeInfo->Wl,Value->SO,World->Tq
open Go.Act renaming put->Ws
open Go.Addr renaming add->atB
open Go.Builtin renaming append_->Vy,copy_->atM,delete_->atL,firstCells->Vt,growBy->Zm,lenOf->atK,len_->Ym,nextslicecap->W4,zeroCells->Xn
open Go.CallKind renaming early->U7
open Go.Conc renaming QuitsD->Y5,seen_none->ab_,served->T1
open Go.Deferred renaming ofValue->U3
open Go.Event renaming mute->WH
open Go.Frame renaming catches->ZW,oper?->YL,round->Xb
open Go.GStep renaming after->TZ
open Go.Instr renaming checkKey->Vb,fill->aa',findKey->VN,index->Z3,indexAt->ZM,loadAt->XD,mapUpdate->Zt,sameBits->WB,slice->Z2,sliceAt->Yk,sliceBound->Zk,sliceBounds->Y',storeAt->Yj,sureAddr->Va,typeAssert->Zj
open Go.IntKind renaming bits->atx,i64->SF,signed->atw,wrap->Xe
open Go.Item renaming plain->ag2
open Go.MemAct renaming low_mono->Zi,ofEvent->Ts
open Go.Next renaming value->W6
open Go.Obj renaming isChan->ak_
open Go.Op renaming equal->Xj,equalIn->U_,intArith->atH,intDiv->ar_,shift->atv
open Go.Question renaming cut->Zs,forced->ats
open Go.Region renaming binds->Yq,schedule->Vf,wanted->Tc
open Go.Region.linearise renaming go->Us
open Go.Sem renaming events_pure->ZI,runT->VG,runT_eq->TB,run_pure->Z'
open Go.Value renaming bool->Xd,slice->Ur,tuple->YJ
open Go.World renaming cell?->Uy,frozen?->ZT,setCell->Xl
open Go.stepG renaming exec->Ub,oper->Y3
open Int renaming toNat_natCast->Vz
open List renaming append_assoc->SD,append_nil->SZ,contains_eq_mem->Up,countP_cons_of_neg->WU,countP_cons_of_pos->VT,drop_drop->ae_,drop_eq_getElem_cons->TW,drop_zero->XA,ext_getElem?->Yo,flatMap_cons->Uo,foldl_cons->UY,getD_cons_zero->Xp,getD_eq_getElem?_getD->SE,getElem?_append_left->SW,getElem?_append_right->Tg,getElem?_cons_succ->UH,getElem?_cons_zero->Vp,getElem?_drop->Ul,getElem?_eq_getElem->SP,getElem?_eq_some_iff->SN,getElem?_map->Tj,getElem?_range->Xz,getElem?_set_ne->T5,getElem?_set_self->W_,getElem?_take->Ua,getElem?_toArray->Ve,getElem_mem->VF,length_append->SQ,length_cons->Uh,length_drop->Uk,length_nil->UQ,length_take->T_,mapM_cons->Ue,mapM_nil->UF,mapM_toArray->X4,map_congr_left->VA,map_cons->UW,map_drop->ai',mem_cons->SL,mem_cons_of_mem->Ta,mem_cons_self->TC,mem_filter->Uj,mem_filterMap->VD,mem_iff_getElem?->UP,mem_of_getElem?->Tf,mem_of_mem_take->Wu,mem_range->TG,mem_toArray->TJ,not_mem_nil->S4,range->S0,range'->T4,range'_succ->VR,range_eq_range'->Vo,reverse_nil->XY,set_append_right->UO,set_set->W9,singleton_append->Y2,take_length->TP,take_take->U1,take_zero->an_
open Nat renaming add_assoc->XG,add_comm->Z6,add_mul->Vd,add_zero->UK,le_of_eq->WI,le_refl->SU,le_succ->Y1,le_trans->UB,lt_irrefl->ai_,lt_of_lt_of_le->Td,lt_trans->Wo,min_le_left->ZG,mod_lt->as',mul_le_mul->ZQ,mul_le_mul_right->Uc,mul_one->ZP,ne_of_lt->Wa,strongRecOn->Yn,sub_zero->Z0,zero_add->Wt,zero_le->Yd,zero_mul->Z5
open Option renaming bind_eq_bind->TS,bind_eq_some_iff->S_,getD_none->Vm,getD_some->S8,map_eq_some_iff->Tp,map_some->UN,pure_def->Uf
open Option.some renaming inj->VX,injEq->Tm
open Prod.mk renaming injEq->U0
namespace Go.Gg
open Go.Conc
abbrev cC:=Nat->Nat->Option SO
abbrev AN:=Nat->Option Obj
abbrev Spec:=SO->cC->AN->Prop
inductive m_ where
 |plain
 |fork (c Wg:Nat) (Ss:List (List Spec))
 |recv (c Wg:Nat) (Ss:List (List Spec))
 |work (c Wg:Nat) (S:List Spec)
def m_.group:m_->Option Nat
 |.fork _ Wg _=>some Wg
 |_=>none
def m_.chan:m_->Option Nat
 |.fork c _ _=>some c
 |_=>none
structure View where
 ab:cC
 own:AN
 deaf:Nat
 role:m_
structure Sat (V:View)(w:Tq):Prop where
 ab:∀b o v,V.ab b o=some v->w.cell? ⟨b,o,none⟩=some v
 own:∀b x,V.own b=some x->w.heap[b]?=some x
def tR (V:View)(n:Nat)(a:U4):Prop:=n<=a.block\/V.own a.block≠none\/V.ab a.block a.off≠none
def mF (V:View)(n:Nat)(a:U4):Prop:=n<=a.block\/(V.own a.block≠none/\V.ab a.block a.off=none)
def mZ (V:View)(n:Nat)(e:Uq):Prop:=
 match e with
 |⟨.cell a,false,s⟩=>tR V n a/\(s=true\/V.role.group≠some a.block)
 |⟨.cell a,true,s⟩=>mF V n a/\(s=true\/V.role.group≠some a.block)
 |⟨.obj r,_,s⟩=>(s=false/\(n<=r\/V.own r≠none))/\V.role.chan≠some r
 |⟨.mark (.read a),_,_⟩=>mF V n a
 |⟨.mark (.write a),_,_⟩=>mF V n a
 |⟨.mark .disable,_,s⟩=>s=true
 |⟨.mark .enable,_,s⟩=>s=true
 |⟨.mark .noRoom,_,_⟩=>True
 |_=>False
structure dj (V:View)(w:Tq)(V':View)(w':Tq)(es:Array Uq):Prop where
 sat:Sat V' w'
 tape:w'.tape=w.tape
 os:w'.os=w.os
 output:w'.output=w.output
 size:w.heap.size<=w'.heap.size
 frame:∀b,b<w.heap.size->V.own b=none->w'.heap[b]?=w.heap[b]?
 own:∀b,b<w.heap.size->V.own b=none->V'.own b=none
 ab:∀b o v,V.ab b o=some v->V'.ab b o=some v
 kK:∀b o v,V'.ab b o=some v->V.ab b o=some v\/V.own b≠none\/w.heap.size<=b
 fl:∀e∈es,mZ V w.heap.size e
 deaf:V'.deaf=deafBehind V.deaf es
 role:V'.role=V.role
 chan:∀c x,V.role.chan=some c->V.own c=some x->V'.own c=some x
 low:∀e∈es,(Ts e).low w'.heap.size
structure ee (V V':View):Prop where
 sat:∀w,Sat V w->Sat V' w
 own:∀b,V.own b=none->V'.own b=none
 ab:∀b o v,V.ab b o=some v->V'.ab b o=some v
 kK:∀b o v,V'.ab b o=some v->V.ab b o=some v\/V.own b≠none
 deaf:V'.deaf=V.deaf
 role:V'.role=V.role
 chan:∀c x,V.role.chan=some c->V.own c=some x->V'.own c=some x
theorem ee.refl(V:View):ee V V:=⟨λ_ h=>h,λ_ h=>h,λ_ _ _ h=>h,λ_ _ _ h=> .inl h,rfl,rfl,λ_ _ _ e=>e⟩
theorem ee.trans{V V' aP:View}(h:ee V V')(k:ee V' aP):ee V aP:=
 ⟨λw x=>k.sat w (h.sat w x),λb x=>k.own b (h.own b x),λb o v x=>k.ab b o v (h.ab b o v x),λb o v x=>(k.kK b o v x).elim (λy=>h.kK b o v y) (λy=> .inr λz=>y (h.own b z)),k.deaf.trans h.deaf,k.role.trans h.role,λc x e e'=>k.chan c x (by rw[h.role];exact e) (h.chan c x e e')⟩
theorem tR.rS{V V':View}(g:ee V V'){n:Nat}{a:U4}(h:tR V' n a):tR V n a:=by
 rcases h with h|h|h
 ·exact .inl h
 ·exact .inr (.inl λe=>h (g.own _ e))
 ·cases e:V'.ab a.block a.off with
  |none=>exact absurd e h
  |some v=>exact(g.kK _ _ _ e).elim (λx=> .inr (.inr (by rw[x];simp))) (λx=> .inr (.inl x))
theorem mF.rS{V V':View}(g:ee V V'){n:Nat}{a:U4}(h:mF V' n a):mF V n a:=by
 rcases h with h|⟨h,h'⟩
 ·exact .inl h
 ·refine .inr ⟨λe=>h (g.own _ e),?_⟩;cases e:V.ab a.block a.off with
  |none=>rfl
  |some v=>rw[g.ab _ _ _ e]at h';cases h'
theorem mZ.rS{V V':View}(g:ee V V'){n:Nat}{e:Uq}(h:mZ V' n e):mZ V n e:=by
 unfold mZ at h⊢;split at h
 ·exact⟨tR.rS g h.1,by rw[<- g.role];exact h.2⟩
 ·exact⟨mF.rS g h.1,by rw[<- g.role];exact h.2⟩
 ·exact⟨⟨h.1.1,h.1.2.imp id λx y=>x (g.own _ y)⟩,by rw[<- g.role];exact h.2⟩
 ·exact mF.rS g h
 ·exact mF.rS g h
 ·exact h
 ·exact h
 ·trivial
 ·exact h.elim
theorem dj.rS{V V₁ V':View}{w w':Tq}{es:Array Uq}(g:ee V V₁)(h:dj V₁ w V' w' es):dj V w V' w' es:=
 ⟨h.sat,h.tape,h.os,h.output,h.size,λb hb e=>h.frame b hb (g.own b e),λb hb e=>h.own b hb (g.own b e),λb o v e=>h.ab b o v (g.ab b o v e),
  λb o v e=>(h.kK b o v e).elim (λx=>(g.kK b o v x).imp id .inl) (λx=> .inr (x.imp (λy z=>y (g.own b z)) id)),λe he=>mZ.rS g (h.fl e he),by rw[h.deaf,g.deaf],h.role.trans g.role,λc x e e'=>h.chan c x (by rw[g.role];exact e) (g.chan c x e e'),h.low⟩
theorem dj.ghost{V V' aP:View}{w w':Tq}{es:Array Uq}(h:dj V w V' w' es)(g:ee V' aP):dj V w aP w' es:=
 ⟨g.sat _ h.sat,h.tape,h.os,h.output,h.size,h.frame,λb hb e=>g.own b (h.own b hb e),λb o v e=>g.ab b o v (h.ab b o v e),
  λb o v e=>(g.kK b o v e).elim (λx=>h.kK b o v x) (λx=>by
   by_cases hb:b<w.heap.size
   ·exact .inr (.inl λy=>x (h.own b hb y))
   ·exact .inr (.inr (by omega))),h.fl,by rw[g.deaf,h.deaf],g.role.trans h.role,λc x e e'=>g.chan c x (by rw[h.role];exact e) (h.chan c x e e'),h.low⟩
theorem dj.idle{V:View}{w:Tq}(h:Sat V w):dj V w V w #[]:=
 ⟨h,rfl,rfl,rfl,SU _,λ_ _ _=>rfl,λ_ _ e=>e,λ_ _ _ e=>e,λ_ _ _ e=> .inl e,by simp,rfl,rfl,λ_ _ _ e=>e,by simp⟩
theorem Sat.drew{V:View}{w:Tq}(h:Sat V w)(d:Nat):Sat V {w with drawn:=d}:=⟨h.ab,h.own⟩
theorem dj.draw{V:View}{w:Tq}(h:Sat V w)(d:Nat):dj V w V {w with drawn:=d} #[]:=
 ⟨h.drew d,rfl,rfl,rfl,SU _,λ_ _ _=>rfl,λ_ _ e=>e,λ_ _ _ e=>e,λ_ _ _ e=> .inl e,by simp,rfl,rfl,λ_ _ _ e=>e,by simp⟩
def ec (Wg:Nat):U4:=⟨Wg,0,none⟩
def oJ (Wg:Nat):U4:=⟨Wg,1,none⟩
def Nn (P : SK) : TypeId := ((P.types.findIdx? λi => match i.desc with | .named n _ => n == "sync.WaitGroup" | _ => false).getD 0)
def wgBlock (P:SK)(st sm:Int):Obj:=.cells #[.int .u64 st,.int .u32 sm] (Nn P)
def WgAt (P:SK)(Wg:Nat)(w:Tq)(st sm:Int):Prop:=w.heap[Wg]?=some (wgBlock P st sm)
def KK:Int:=4294967296
def ja (a:U4):Uq:=⟨.cell a,false,true⟩
def kZ (a:U4):Uq:=⟨.cell a,true,true⟩
def j7 (m:Mark):Uq:=⟨.mark m,false,true⟩
def Aj (a:U4):Array Uq:=#[j7 .disable,ja a,kZ a,j7 .enable]
def cU (P:SK)(Stop:Nat->SH->Prop):Nat->Nat->SH->Prop
 |0,d,g=>Stop d g
 |n+1,d,g=>Stop d g\/(g.status=.running/\∃g' es,(∀e∈es,WH e=true)/\(∀w,stepG P false g w=.go g' w es)/\cU P Stop n (deafBehind d es) g')
def ii (P:SK)(Wg:Nat)(Stop:Nat->SH->Prop):Nat->Nat->SH->Prop
 |0,d,g=>Stop d g
 |n+1,d,g=>Stop d g\/(g.status=.running/\∃g' es,(∀e∈es,WH e=true)/\(∀w x y,WgAt P Wg w x y->stepG P false g w=.go g' w es)/\ii P Wg Stop n (deafBehind d es) g')
section
variable (P:SK)(Wg:Nat)
def Dx (d:Nat)(g:SH):Prop:=d=1/\g.status=.running/\mayWake P g=true/\∃g',(∀w,WgAt P Wg w 0 0->stepG P false g w=.go g' (w.setCell (oJ Wg) (.int .u32 1)) (Aj (oJ Wg)))/\∃q,Y5 P q 1 g'
def Dy (d:Nat)(g:SH):Prop:=d=1/\g.status=.running/\∃g',(∀w,WgAt P Wg w 1 0->stepG P false g w=.go g' (w.setCell (ec Wg) (.int .u64 0)) #[kZ (ec Wg)])/\∃n,cU P (Dx P Wg) n 1 g'
def Dw (d:Nat)(g:SH):Prop:=d=1/\g.status=.running/\∃g',(∀w,WgAt P Wg w 1 0->stepG P false g w=.go g' w #[ja (ec Wg)])/\∃n,cU P (Dy P Wg) n 1 g'
def AC (d:Nat)(g:SH):Prop:=d=1/\g.status=.running/\∀v wt:Nat,wt<=1->v<4->∃g',(∀w,WgAt P Wg w (((v+1:Nat):Int)* KK+wt) 0->stepG P false g w=.go g' (w.setCell (ec Wg) (.int .u64 ((v:Int)* KK+wt))) #[ja (ec Wg),kZ (ec Wg)])/\
 ((v=0/\wt=1)->∃n,cU P (Dw P Wg) n 1 g')/\(¬(v=0/\wt=1)->∃q,Y5 P q 1 g')
def DI (g:SH):Prop:=g.status=.running/\∃g',(∀w,stepG P false g w=.go g' w #[j7 (.releaseMerge (ec Wg))])/\∃n,cU P (AC P Wg) n 0 g'
end
section
variable (P:SK)(Im:cC)(c Wg:Nat)
def HG (d:Nat)(g:SH):Prop:=d=0/\g.status=.running/\mayWake P g=true/\∃g',(∀w s,w.heap[c]?=some (.chan 0 #[] false s s false)->stepG P false g w=.go g' {w with heap:=w.heap.setIfInBounds c (.chan 0 #[] true s s false)} #[⟨.obj c,false,true⟩,⟨.obj c,true,true⟩])/\∃q,Y5 P q 0 g'
def HI (d:Nat)(g:SH):Prop:=d=0/\g.status=.running/\∃b o x g',Im b o=some x/\(∀w,w.cell? ⟨b,o,none⟩=some x->stepG P false g w=.go g' w #[⟨.cell ⟨b,o,none⟩,false,false⟩])/\∃n,cU P (HG P c) n 0 g'
def tN (d:Nat)(g:SH):Prop:=d=0/\g.status=.running/\∃g',(∀w,stepG P false g w=.go g' w #[j7 (.acquire (ec Wg))])/\∃n,cU P (HI P Im c) n 0 g'
def HH (d:Nat)(g:SH):Prop:=d=1/\g.status=.running/\∃g',(∀w,WgAt P Wg w 0 0->stepG P false g w=.go g' w #[ja (ec Wg)])/\∃n,ii P Wg (tN P Im c Wg) n 1 g'
def Dv (d:Nat)(g:SH):Prop:=d=1/\g.status=.running/\g.offers=none/\(∀w st,WgAt P Wg w st 0->stepG P false g w=.go {g with status:=.blocked} w #[])/\
 ∃g',(∀w,WgAt P Wg w 0 1->stepG P false g w=.go g' (w.setCell (oJ Wg) (.int .u32 0)) (Aj (oJ Wg)))/\∃n,cU P (HH P Im c Wg) n 1 g'
def Du (d:Nat)(g:SH):Prop:=d=1/\g.status=.running/\∃g',(∀w,stepG P false g w=.go g' w #[j7 (.write (oJ Wg))])/\∃n,cU P (Dv P Im c Wg) n 1 g'
def eN:Nat->Nat->SH->Prop
 |0,_,_=>False
 |k+1,d,g=>d=1/\g.status=.running/\∀v:Nat,v<=k->v<=4->∃g',(∀w,WgAt P Wg w ((v:Int)* KK) 0->stepG P false g w=.go g' w #[ja (ec Wg)])/\(v=0->∃n,ii P Wg (tN P Im c Wg) n 1 g')/\
  (v≠0->∃n,cU P (λd g=>d=1/\g.status=.running/\
   (∃g',(∀w,WgAt P Wg w ((v:Int)* KK) 0->stepG P false g w=.go g' (w.setCell (ec Wg) (.int .u64 ((v:Int)* KK+1))) #[ja (ec Wg),kZ (ec Wg)])/\∃n,ii P Wg (Du P Im c Wg) n 1 g')/\
   (∀u:Nat,u<v->∃g',(∀w,WgAt P Wg w ((u:Int)* KK) 0->stepG P false g w=.go g' w #[ja (ec Wg)])/\∃n,cU P (eN v) n 1 g')) n 1 g')
 termination_by k _ _=>k
def HJ (g:SH):Prop:=∃n,cU P (eN P Im c Wg 5) n 0 g
end
structure yr (P:SK)(main:Bool)(J:View->SH->Prop):Prop where
 step:∀V g,g.status=.running->(∀w,Sat V w->∃g' w' es V',stepG P main g w=.go g' w' es/\dj V w V' w' es/\J V' g')->J V g
 ghost:∀V V' g,ee V V'->J V' g->J V g
 send:∀V g c Wg sp S v z (B:Nat->Bool),V.role=.work c Wg (sp::S)->V.deaf=0->g.status=.running->g.offers=none->
  (∀w,Sat V w->stepG P main g w=.comm g #[scase c v z] true .send w #[])->sp v V.ab (λb=>if B b then V.own b else none)->
  J {V with own:=λb=>if B b then none else V.own b,role:=.work c Wg S} (T1 g undef)->J V g
 done:∀V g c Wg,V.role=.work c Wg []->V.deaf=0->DI P Wg g->J V g
 slip:∀V g g' c Wg,V.role=.work c Wg []->g.status=.running->(∀w st,Sat V w->WgAt P Wg w st 0->stepG P main g w=.go g' w #[])->J V g'->J V g
structure adt (P:SK)(main:Bool)(J:View->SH->Prop):Prop where
 start:∀V g c Wg,V.role=.plain->c≠Wg->V.own c=some (.chan 0 #[] false 0 0 false)->V.own Wg≠none->(∀o,V.ab Wg o=none)->J {V with role:=.fork c Wg []} g->J V g
 EA:∀V g g' child c Wg Ss sp S,V.role=.fork c Wg Ss->V.deaf=0->g.status=.running->V.own c=some (.chan 0 #[] false 0 0 false)->V.own Wg=some (wgBlock P (((Ss.length+1:Nat):Int)* 4294967296) 0)->Ss.length<4->(∀o,V.ab Wg o=none)->
  (∀w,Sat V w->stepG P main g w=.spawn g' child w #[])->child.status=.running->
  (∀J0,yr P false J0->J0 {ab:=V.ab,own:=λ_=>none,deaf:=0,role:=.work c Wg (sp::S)} child)->
  J {V with role:=.fork c Wg (Ss++[sp::S])} g'->J V g
 Ez:∀V g g' child c Wg Ss,V.role=.fork c Wg Ss->V.deaf=0->g.status=.running->c≠Wg->V.own c=some (.chan 0 #[] false 0 0 false)->V.own Wg=some (wgBlock P (((Ss.length:Nat):Int)* 4294967296) 0)->(∀o,V.ab c o=none)->(∀o,V.ab Wg o=none)->
  (∀w,Sat V w->stepG P main g w=.spawn g' child w #[])->child.status=.running->HJ P V.ab c Wg child->
  J {V with own:=λb=>if b=c\/b=Wg then none else V.own b,role:=.recv c Wg Ss} g'->J V g
 recv:∀V g c Wg Ss z,V.role=.recv c Wg Ss->V.deaf=0->g.status=.running->g.offers=none->
  (∀w,Sat V w->stepG P main g w=.comm g #[rcase c z] true (.recv true) w #[])->
  (∀i sp S v Im Ow,Ss[i]?=some (sp::S)->sp v Im Ow->(∀b,V.own b≠none->Ow b=none)->(∀b o,V.own b≠none->Im b o≠none->V.ab b o≠none)->(∃w,Sat V w/\(∀b o x,Im b o=some x->w.cell? ⟨b,o,none⟩=some x)/\∀b x,Ow b=some x->w.heap[b]?=some x)->
   J {V with ab:=λb o=>match V.ab b o with|some x=>some x|none=>Im b o,own:=λb=>match V.own b with|some x=>some x|none=>Ow b,role:=.recv c Wg (Ss.set i S)} (T1 g (.tuple #[v,.bool true])))->
  ((∀S∈Ss,S=[])->J {V with role:=.plain} (T1 g (.tuple #[z,.bool false])))->J V g
structure Closed (lv:Bool)(P:SK)(main:Bool)(J:View->SH->Prop):Prop extends yr P main J where
 more:lv=true->adt P main J
theorem Closed.idle{lv:Bool}{P:SK}{main:Bool}{J:View->SH->Prop}(C:Closed lv P main J){V:View}{g g':SH}(hs:g.status=.running)(h:∀w,stepG P main g w=.go g' w #[]) (hJ:J V g'):J V g:=
 C.step V g hs λw hw=>⟨g',w,#[],V,h w,.idle hw,hJ⟩
def on (b:T8)(a:Act)(todo:List WW):T8:={b with tmps:=a.tmps,todo,defers:=a.defers,mode:=.run}
inductive Ex where
 |normal
 |exit (id:Nat)
 |goto (l:Nat)
 |ret
 |panic (chain:List ZU)
def pJ (J:View->SH->Prop)(b:T8)(cs:List T8)(a:Act)(V:View)(x:T7)(to:List WW->Option (List WW))(k:List WW):Prop:=
 (∃k',to k=some k'/\J V (G (on b a k') cs))\/(to k=none/\∀k2,to k2=none->J V (G (on b a (.code x::k2)) cs))
theorem pJ.under{J:View->SH->Prop}{b:T8}{cs:List T8}{a:Act}{V:View}{x:T7}{to:List WW->Option (List WW)}{k k2:List WW}(h:pJ J b cs a V x to k)(e:to k2=to k):pJ J b cs a V x to k2:=by
 rcases h with⟨k',h1,h2⟩|⟨h1,h2⟩
 ·exact .inl ⟨k',e.trans h1,h2⟩
 ·exact .inr ⟨e.trans h1,h2⟩
def aaT:List WW->Bool
 |.call .. ::_=>false
 |_=>true
def vf (J:View->SH->Prop)(b:T8)(k:List WW)(cs:List T8):Ex->Act->View->Prop
 |.normal,a,V=>J V (G (on b a k) cs)
 |.exit id,a,V=>pJ J b cs a V (.exit id) (exitTo id) k
 |.goto l,a,V=>pJ J b cs a V (.goto l) (gotoIn l) k
 |.ret,a,V=>∀k,J V (G (on b a (.code .ret::k)) cs)
 |.panic chain,a,V=>∀todo,aaT todo=true->J V (G {on b a todo with mode:=.panicking chain} cs)
def WP (lv:Bool)(P:SK)(r:Option Nat)(c:T7)(Q:Ex->Act->View->Prop)(a:Act)(V:View):Prop:=
 ∀(main:Bool)(J:View->SH->Prop),Closed lv P main J->∀(b:T8)(k:List WW)(cs:List T8),b.kind≠ .early->b.roundOf=r->
  (∀e a' V',Q e a' V'->vf J b k cs e a' V')->J V (G (on b a (.code c::k)) cs)
section steps
variable {P:SK}{main:Bool}{b:T8}{a:Act}{k:List WW}{cs:List T8}{w:Tq}
theorem apv:stepG P main (G (on b a (.code .skip::k)) cs) w=.go (G (on b a k) cs) w #[]:=by simp[G,stepG,Ub,on]
theorem apo{l:Nat}:stepG P main (G (on b a (.code (.label l)::k)) cs) w=.go (G (on b a k) cs) w #[]:=by simp[G,stepG,Ub,on]
theorem apl{id:Nat}:stepG P main (G (on b a (.inBlock id::k)) cs) w=.go (G (on b a k) cs) w #[]:=by simp[G,stepG,Ub,on]
theorem apn{c:T7}:stepG P main (G (on b a (.inScope c::k)) cs) w=.go (G (on b a k) cs) w #[]:=by simp[G,stepG,Ub,on]
theorem abQ{x y:T7}:stepG P main (G (on b a (.code (.seq x y)::k)) cs) w=.go (G (on b a (.code x:: .code y::k)) cs) w #[]:=by simp[G,stepG,Ub,on]
theorem Gy(b:T8)(a:Act)(todo:List WW)(x:Tl):(on b a todo).eval x=a.eval x:=by cases x<;>rfl
theorem ans(b:T8)(a:Act)(todo:List WW):(on b a todo).eval=a.eval:=funext (Gy b a todo)
theorem s_cond{c:Tl}{x y:T7}{t:Bool}(h:a.eval c=.bool t):
  stepG P main (G (on b a (.code (.cond c x y)::k)) cs) w=.go (G (on b a (.code (if t then x else y)::k)) cs) w #[]:=by
 have h':(on b a (.code (.cond c x y)::k)).eval c=.bool t:=by rw[Gy];exact h
 simp only[on]at h';simp[G,stepG,Ub,on,h']
theorem api{id:Nat}{c:T7}:stepG P main (G (on b a (.code (.block id c)::k)) cs) w=.go (G (on b a (.code c:: .inBlock id::k)) cs) w #[]:=by simp[G,stepG,Ub,on]
theorem apu{c:T7}:stepG P main (G (on b a (.code (.scope c)::k)) cs) w=.go (G (on b a (.code c:: .inScope c::k)) cs) w #[]:=by simp[G,stepG,Ub,on]
theorem apq{c:T7}:stepG P main (G (on b a (.code (.loop c)::k)) cs) w=.go (G (on b a (.code c:: .inLoop c::k)) cs) w #[]:=by simp[G,stepG,Ub,on]
theorem apm{c:T7}:stepG P main (G (on b a (.inLoop c::k)) cs) w=.go (G (on b a (.code c:: .inLoop c::k)) cs) w #[]:=by simp[G,stepG,Ub,on]
theorem s_exit{id:Nat}{k':List WW}(h:exitTo id k=some k'):stepG P main (G (on b a (.code (.exit id)::k)) cs) w=.go (G (on b a k') cs) w #[]:=by simp[G,stepG,Ub,on,h]
theorem apk{l:Nat}{k':List WW}(h:gotoIn l k=some k'):stepG P main (G (on b a (.code (.goto l)::k)) cs) w=.go (G (on b a k') cs) w #[]:=by simp[G,stepG,Ub,on,h]
theorem abP{id:Nat}{ops:Array Tx}:stepG P main (G (on b a (.code (.region id ops false)::k)) cs) w=.go (G (on b a (.inRegion ops (S0 ops.size)::k)) cs) w #[]:=by simp[G,stepG,Ub,on]
theorem apj{id:Nat}{ops:Array Tx}:stepG P main (G (on b a (.code (.region id ops true)::k)) cs) w=
  .go (G (on b a (.inRegion ops (Vf (P.follows .mixedOrders) ops (w.tape w.drawn (.order b.fn id)))::k)) cs) {w with drawn:=w.drawn+1} #[]:=by
 simp[G,stepG,Ub,on,choose,Sem.run,ats,Zs]
theorem apt{ops:Array Tx}:stepG P main (G (on b a (.inRegion ops []::k)) cs) w=.go (G (on b a k) cs) w #[]:=by simp[G,stepG,Ub,on]
theorem C5(h:b.roundOf=none):stepG P main (G (on b a (.code .ret::k)) cs) w=.go (G {on b a (.code .ret::k)with mode:=.returning} cs) w #[]:=by simp[G,stepG,Ub,on,h]
theorem C4(h:b.roundOf=none):stepG P main (G (on b a []) cs) w=.go (G {on b a []with mode:=.returning} cs) w #[]:=by simp[G,stepG,Ub,on,h]
end steps
section rules
variable {lv:Bool}{P:SK}{r:Option Nat}{Q:Ex->Act->View->Prop}{a:Act}{V:View}
theorem WP.mono{c:T7}{Q':Ex->Act->View->Prop}(h:WP lv P r c Q a V)(hq:∀e a V,Q e a V->Q' e a V):WP lv P r c Q' a V:=
 λmain J C b k cs hb hr hL=>h main J C b k cs hb hr λe a' V' q=>hL e a' V' (hq _ _ _ q)
theorem WP.ghost{c:T7}{V':View}(g:ee V V')(h:WP lv P r c Q a V'):WP lv P r c Q a V:=
 λmain J C b k cs hb hr hL=>C.ghost _ _ _ g (h main J C b k cs hb hr hL)
theorem wp_skip(h:Q .normal a V):WP lv P r .skip Q a V:=λ_ _ C _ _ _ _ _ hL=>C.idle rfl (λ_=>apv) (hL _ _ _ h)
theorem wp_label{l:Nat}(h:Q .normal a V):WP lv P r (.label l) Q a V:=λ_ _ C _ _ _ _ _ hL=>C.idle rfl (λ_=>apo) (hL _ _ _ h)
theorem aad{main:Bool}{J:View->SH->Prop}(C:Closed lv P main J){b:T8}{cs:List T8}{a:Act}{V:View}{id:Nat}{k:List WW}(h:pJ J b cs a V (.exit id) (exitTo id) k):J V (G (on b a (.code (.exit id)::k)) cs):=
 h.elim (λ⟨_,hk,hJ⟩=>C.idle rfl (λ_=>s_exit hk) hJ) (λ⟨hk,hJ⟩=>hJ k hk)
theorem alx{main:Bool}{J:View->SH->Prop}(C:Closed lv P main J){b:T8}{cs:List T8}{a:Act}{V:View}{l:Nat}{k:List WW}(h:pJ J b cs a V (.goto l) (gotoIn l) k):J V (G (on b a (.code (.goto l)::k)) cs):=
 h.elim (λ⟨_,hk,hJ⟩=>C.idle rfl (λ_=>apk hk) hJ) (λ⟨hk,hJ⟩=>hJ k hk)
theorem wp_exit{id:Nat}(h:Q (.exit id) a V):WP lv P r (.exit id) Q a V:=λ_ _ C _ _ _ _ _ hL=>aad C (hL _ _ _ h)
theorem wp_ret(h:Q .ret a V):WP lv P r .ret Q a V:=λ_ _ _ _ k _ _ _ hL=>hL _ _ _ h k
def Ex.then (next:Act->View->Prop)(Q:Ex->Act->View->Prop):Ex->Act->View->Prop
 |.normal,a,V=>next a V
 |e,a,V=>Q e a V
theorem vf.under{J:View->SH->Prop}{b:T8}{k:List WW}{cs:List T8}{x:WW}(hx:x.plain=true){e:Ex}(he:e≠ .normal){a:Act}{V:View}(h:vf J b k cs e a V):vf J b (x::k) cs e a V:=by
 cases e with
 |normal=>exact absurd rfl he
 |exit id=>exact pJ.under h (by cases x<;>simp_all[exitTo,ag2])
 |goto l=>exact pJ.under h (by cases x<;>simp_all[gotoIn,ag2])
 |ret=>exact h
 |panic ch=>exact h
theorem wp_seq{x y:T7}(h:WP lv P r x (Ex.then (WP lv P r y Q) Q) a V):WP lv P r (.seq x y) Q a V:=by
 intro main J C b k cs hb hr hL;refine C.idle rfl (λ_=>abQ) (h main J C b (.code y::k) cs hb hr λe a' V' q=> ?_);cases e with
 |normal=>exact q main J C b k cs hb hr hL
 |exit id=>exact(hL _ _ _ q).under rfl (by simp)
 |goto l=>exact(hL _ _ _ q).under rfl (by simp)
 |ret=>exact(hL _ _ _ q).under rfl (by simp)
 |panic ch=>exact(hL _ _ _ q).under rfl (by simp)
theorem wp_cond{c:Tl}{x y:T7}{t:Bool}(hc:a.eval c=.bool t)(h:WP lv P r (if t then x else y) Q a V):WP lv P r (.cond c x y) Q a V:=
 λmain J C b k cs hb hr hL=>C.idle rfl (λ_=>s_cond hc) (h main J C b k cs hb hr hL)
def Ex.inBlock (id:Nat)(Q:Ex->Act->View->Prop):Ex->Act->View->Prop
 |.exit oF,a,V=>if oF=id then Q .normal a V else Q (.exit oF) a V
 |e,a,V=>Q e a V
theorem wp_block{id:Nat}{c:T7}(h:WP lv P r c (Ex.inBlock id Q) a V):WP lv P r (.block id c) Q a V:=by
 intro main J C b k cs hb hr hL;refine C.idle rfl (λ_=>api) (h main J C b (.inBlock id::k) cs hb hr λe a' V' q=> ?_);cases e with
 |normal=>exact C.idle rfl (λ_=>apl) (hL _ _ _ q)
 |exit oF=>
  by_cases cu:oF=id
  ·simp only[Ex.inBlock,cu,if_true]at q;exact .inl ⟨k,by simp[exitTo,cu],hL _ _ _ q⟩
  ·simp only[Ex.inBlock,cu,if_false]at q;have:(id==oF)=false:=(by simp;exactλh=>cu h.symm);exact pJ.under (hL _ _ _ q) (by simp[exitTo,this])
 |goto l=>exact pJ.under (hL _ _ _ q) (by simp[gotoIn])
 |ret=>exact hL _ _ _ q
 |panic ch=>exact hL _ _ _ q
theorem Nu{α:Type}{lt:α->α->Prop}(wf:WellFounded lt){c:T7}(I:α->Act->View->Prop)(m:α)(h₀:I m a V)
  (round:∀m a V,I m a V->WP lv P r c (Ex.then (λa' V'=>∃m',lt m' m/\I m' a' V') Q) a V):WP lv P r (.loop c) Q a V:=by
 intro main J C b k cs hb hr hL;have key:∀m a V,I m a V->J V (G (on b a (.code c:: .inLoop c::k)) cs):=by
  intro m;induction m using wf.induction with
  |_ m ih=>
   intro a V hI;refine round m a V hI main J C b (.inLoop c::k) cs hb hr λe a' V' q=> ?_;cases e with
   |normal=>obtain⟨m',hlt,hI'⟩:=q;exact C.idle rfl (λ_=>apm) (ih m' hlt a' V' hI')
   |exit id=>exact(hL _ _ _ q).under rfl (by simp)
   |goto l=>exact(hL _ _ _ q).under rfl (by simp)
   |ret=>exact(hL _ _ _ q).under rfl (by simp)
   |panic ch=>exact(hL _ _ _ q).under rfl (by simp)
 exact C.idle rfl (λ_=>apq) (key m a V h₀)
theorem wp_loop{c:T7}(I:Nat->Act->View->Prop)(m:Nat)(h₀:I m a V)
  (round:∀m a V,I m a V->WP lv P r c (Ex.then (λa' V'=>∃m',m'<m/\I m' a' V') Q) a V):WP lv P r (.loop c) Q a V:=
 Nu Nat.lt_wfRel.wf I m h₀ round
theorem adm{c:T7}(I:Nat->Nat->Act->View->Prop)
  (start:∃n:Nat,WP lv P r c (λe a V=>match e with
   |.goto l=>∃rest,findLabel c l=some rest/\∃m,m<n/\I l m a V
   |e=>Q e a V) a V)
  (back:∀l rest m a V,findLabel c l=some rest->I l m a V->WP lv P r rest (λe a V=>match e with
   |.goto l'=>∃yi,findLabel c l'=some yi/\∃m',m'<m/\I l' m' a V
   |e=>Q e a V) a V):WP lv P r (.scope c) Q a V:=by
 intro main J C b k cs hb hr hL;have land:∀(n:Nat),(∀l rest m a V,m<n->findLabel c l=some rest->I l m a V->J V (G (on b a (.code rest:: .inScope c::k)) cs))->
   ∀e a' V',(match e with
   |.goto l=>∃rest,findLabel c l=some rest/\∃m,m<n/\I l m a' V'
   |e=>Q e a' V')->vf J b (.inScope c::k) cs e a' V':=by
  intro n hn e a' V' q;cases e with
  |normal=>exact C.idle rfl (λ_=>apn) (hL _ _ _ q)
  |exit id=>exact pJ.under (hL _ _ _ q) (by simp[exitTo])
  |goto l=>
   obtain⟨rest,hf,m,hm,hI⟩:=q;exact .inl ⟨_,by simp[gotoIn,hf],hn l rest m a' V' hm hf hI⟩
  |ret=>exact hL _ _ _ q
  |panic ch=>exact hL _ _ _ q
 have key:∀n l rest m a V,m<n->findLabel c l=some rest->I l m a V->J V (G (on b a (.code rest:: .inScope c::k)) cs):=by
  intro n;induction n with
  |zero=>intro _ _ _ _ _ h;omega
  |succ n ih=>
   intro l rest m a V hm hf hI;exact back l rest m a V hf hI main J C b (.inScope c::k) cs hb hr (land m λl' yi m' a' V' h'=>ih l' yi m' a' V' (by omega))
 obtain⟨n,hn⟩:=start;exact C.idle rfl (λ_=>apu) (hn main J C b (.inScope c::k) cs hb hr (land n (key n)))
end rules
open Go.Conc
def View.get (V:View)(b o:Nat):Option SO:=
 match V.ab b o with
 |some v=>some v
 |none=>match V.own b with
  |some (.cells c _ _)=>c[o]?
  |_=>none
def View.upd (V:View)(b:Nat)(x:Obj):View:={V with own:=λb'=>if b'=b then some x else V.own b'}
def View.fresh (V:View)(b:Nat):Prop:=V.own b=none/\∀o,V.ab b o=none
theorem Sat.get{V:View}{w:Tq}(h:Sat V w){b o:Nat}{v:SO}(e:V.get b o=some v):w.cell? ⟨b,o,none⟩=some v:=by
 unfold View.get at e;split at e
 ·rename_i v' hv;cases e;exact h.ab _ _ _ hv
 ·split at e
  ·rename_i c el f ho;have:=h.own _ _ ho;simpa[Uy,this]using e
  ·cases e
theorem Sat.lt{V:View}{w:Tq}(h:Sat V w){b:Nat}{x:Obj}(e:V.own b=some x):b<w.heap.size:=by
 have:=h.own _ _ e;exact(SS.1 this).1
theorem Sat.CA{V:View}{w:Tq}(h:Sat V w){b o:Nat}{v:SO}(e:V.ab b o=some v):b<w.heap.size:=by
 have:=h.ab _ _ _ e;unfold Uy at this;split at this
 ·rename_i hh;exact(SS.1 hh).1
 ·cases this
theorem Sat.fresh{V:View}{w:Tq}(h:Sat V w){b:Nat}(hb:w.heap.size<=b):V.fresh b:=
 ⟨by cases e:V.own b with
  |none=>rfl
  |some x=>have:=h.lt e;omega,λo=>by
  cases e:V.ab b o with
  |none=>rfl
  |some x=>have:=h.CA e;omega⟩
theorem Sat.eX{V:View}{w:Tq}(h:Sat V w){b o:Nat}{v:SO}(e:V.get b o=some v):b<w.heap.size:=by
 have:=h.get e;unfold Uy at this;split at this
 ·rename_i hh;exact(SS.1 hh).1
 ·cases this
theorem tR.yc{V V₁:View}{w w₁:Tq}{es:Array Uq}(s:dj V w V₁ w₁ es){a:U4}(h:tR V₁ w₁.heap.size a):tR V w.heap.size a:=by
 rcases h with h|h|h
 ·exact .inl (UB s.size h)
 ·by_cases hb:a.block<w.heap.size
  ·exact .inr (.inl λe=>h (s.own _ hb e))
  ·exact .inl (by omega)
 ·cases e:V₁.ab a.block a.off with
  |none=>exact absurd e h
  |some v=>
   rcases s.kK _ _ _ e with x|x|x
   ·exact .inr (.inr (by rw[x];simp))
   ·exact .inr (.inl x)
   ·exact .inl x
theorem mF.yc{V V₁:View}{w w₁:Tq}{es:Array Uq}(s:dj V w V₁ w₁ es){a:U4}(h:mF V₁ w₁.heap.size a):mF V w.heap.size a:=by
 rcases h with h|⟨h,h'⟩
 ·exact .inl (UB s.size h)
 ·by_cases hb:a.block<w.heap.size
  ·refine .inr ⟨λe=>h (s.own _ hb e),?_⟩;cases e:V.ab a.block a.off with
   |none=>rfl
   |some v=>rw[s.ab _ _ _ e]at h';cases h'
  ·exact .inl (by omega)
theorem mZ.yc{V V₁:View}{w w₁:Tq}{es:Array Uq}(s:dj V w V₁ w₁ es){e:Uq}(h:mZ V₁ w₁.heap.size e):mZ V w.heap.size e:=by
 unfold mZ at h⊢;split at h
 ·exact⟨tR.yc s h.1,by rw[<- s.role];exact h.2⟩
 ·exact⟨mF.yc s h.1,by rw[<- s.role];exact h.2⟩
 ·refine⟨⟨h.1.1,?_⟩,by rw[<- s.role];exact h.2⟩;rename_i r _ _;rcases h.1.2 with x|x
  ·exact .inl (UB s.size x)
  ·by_cases hb:r<w.heap.size
   ·exact .inr λy=>x (s.own _ hb y)
   ·exact .inl (by omega)
 ·exact mF.yc s h
 ·exact mF.yc s h
 ·exact h
 ·exact h
 ·trivial
 ·exact h.elim
theorem Iu(d:Nat)(x y:Array Uq):deafBehind d (x++y)=deafBehind (deafBehind d x) y:=by
 simp[deafBehind]
theorem dj.trans{V V₁ V₂:View}{w w₁ w₂:Tq}{es uf:Array Uq}(s:dj V w V₁ w₁ es)(s':dj V₁ w₁ V₂ w₂ uf):dj V w V₂ w₂ (es++uf):=
 ⟨s'.sat,s'.tape.trans s.tape,s'.os.trans s.os,s'.output.trans s.output,UB s.size s'.size,
  λb hb e=>(s'.frame b (Td hb s.size) (s.own b hb e)).trans (s.frame b hb e),λb hb e=>s'.own b (Td hb s.size) (s.own b hb e),
  λb o v e=>s'.ab b o v (s.ab b o v e),λb o v e=>by
   rcases s'.kK b o v e with x|x|x
   ·exact s.kK b o v x
   ·by_cases hb:b<w.heap.size
    ·exact .inr (.inl λy=>x (s.own b hb y))
    ·exact .inr (.inr (by omega))
   ·exact .inr (.inr (UB s.size x)),
  λe he=>(Ut.1 he).elim (s.fl e) (λh=>(s'.fl e h).yc s),by rw[s'.deaf,s.deaf,Iu],s'.role.trans s.role,λc x e e'=>s'.chan c x (by rw[s.role];exact e) (s.chan c x e e'),
  λe he=>(Ut.1 he).elim (λx=>Zi s'.size (s.low e x)) (s'.low e)⟩
def fL (es:Array Uq):Array Uq:=es.filter λe=>match e.loc with|.mark (.extern _)=>false|_=>true
def aR (P:SK){α:Type}(V:View)(s:Sem α)(K:α->View->Prop)(Kp:SO->View->Prop):Prop:=
 ∀w,Sat V w->∀e9,∃es w' V',dj V w V' w' (fL es)/\
  ((∃x,s.runT P w e9=(.ok x w',e9++es)/\K x V')\/(∃v,s.runT P w e9=(.halt (.panic v) w',e9++es)/\Kp v V'))
section
variable {P:SK}{α β:Type}{V:View}{K:α->View->Prop}{Kp:SO->View->Prop}
theorem L9(x y:Array Uq):fL (x++y)=fL x++fL y:=by simp[fL]
theorem aR.mono{s:Sem α}{K':α->View->Prop}{NK:SO->View->Prop}(h:aR P V s K Kp)(hk:∀x V,K x V->K' x V)(hp:∀x V,Kp x V->NK x V):aR P V s K' NK:=λw hw e9=>
 let⟨es,w',V',h1,h2⟩:=h w hw e9
 ⟨es,w',V',h1,h2.imp (λ⟨x,a,b⟩=>⟨x,a,hk _ _ b⟩) (λ⟨x,a,b⟩=>⟨x,a,hp _ _ b⟩)⟩
theorem aR.ghost{s:Sem α}{V':View}(g:ee V V')(h:aR P V' s K Kp):aR P V s K Kp:=λw hw e9=>
 let⟨es,w',V',h1,h2⟩:=h w (g.sat w hw) e9
 ⟨es,w',V',h1.rS g,h2⟩
theorem aR.cont{s:Sem α}(h:∀w,Sat V w->∃es w' V' s',dj V w V' w' (fL es)/\(∀e9,s.runT P w e9=s'.runT P w' (e9++es))/\aR P V' s' K Kp):aR P V s K Kp:=by
 intro w hw e9;obtain⟨es,w',V',s',h1,h2,h3⟩:=h w hw;obtain⟨uf,Nm,aP,h4,h5⟩:=h3 w' h1.sat (e9++es);refine⟨es++uf,Nm,aP,by rw[L9];exact h1.trans h4,?_⟩;rw[h2,<- Xt];exact h5
theorem cM{x:α}(h:K x V):aR P V (.pure x) K Kp:=λw hw e9=>⟨#[],w,V,by simpa[fL]using dj.idle hw,.inl ⟨x,by simp[-TB,VG],h⟩⟩
theorem ay{x:α}(h:K x V):aR P V (pure x) K Kp:=cM h
theorem apM{v:SO}(h:Kp v V):aR P V (.halt (.panic v):Sem α) K Kp:=λw hw e9=>⟨#[],w,V,by simpa[fL]using dj.idle hw,.inr ⟨v,by simp[-TB,VG],h⟩⟩
theorem tx{e:Uq}(h:∀f,e.loc≠ .mark (.extern f)):fL #[e]=#[e]:=by
 unfold fL;have:(match e.loc with|.mark (.extern _)=>false|_=>true)=true:=by
  split
  ·rename_i f hf;exact absurd hf (h f)
  ·rfl
 simp[Array.filter]
theorem OS(d:Nat)(a:U4)(wr s:Bool):deafBehind d #[⟨.cell a,wr,s⟩]=d:=by simp[deafBehind]
theorem OT(d:Nat)(a:Nat)(wr s:Bool):deafBehind d #[⟨.obj a,wr,s⟩]=d:=by simp[deafBehind]
theorem MT{m:Mode}{b o:Nat}{v:SO}{k:SO->Sem α}(e:V.get b o=some v)(ko:V.role.group≠some b\/m=.atomic)(h:aR P V (k v) K Kp):aR P V (.load m ⟨b,o,none⟩ k) K Kp:=by
 refine .cont λw hw=>⟨#[⟨.cell ⟨b,o,none⟩,false,m== .atomic⟩],w,V,k v,?_,λe9=> ?_,h⟩
 ·rw[tx (by simp)];refine⟨hw,rfl,rfl,rfl,SU _,λ_ _ _=>rfl,λ_ _ e=>e,λ_ _ _ e=>e,λ_ _ _ e=> .inl e,λev cr=> ?_,by rw[OS],rfl,λ_ _ _ e=>e,λev cr=>by simp at cr;subst cr;exact hw.eX e⟩;simp only[TJ,SL,S4,or_false]at cr;subst cr;refine⟨.inr ?_,ko.elim .inr (λx=> .inl (by subst x;rfl))⟩;show V.own b≠none\/V.ab b o≠none;unfold View.get at e;split at e
  ·rename_i hv;exact .inr (by rw[hv];simp)
  ·split at e
   ·rename_i hv;exact .inl (by rw[hv];simp)
   ·cases e
 ·simp[-TB,VG,hw.get e]
def _root_.Go.Value.one:SO->Bool
 |.agg _|.tuple _=>false
 |_=>true
theorem Sat.adc{V:View}{w:Tq}(h:Sat V w){b o:Nat}{v:SO}{c:Array SO}{el:TypeId}{f:Nat×Nat}(ho:V.own b=some (.cells c el f))(hi:V.ab b o=none):
  Sat (V.upd b (.cells (c.setIfInBounds o v) el f)) (w.setCell ⟨b,o,none⟩ v):=by
 have hb:=h.own _ _ ho;have hlt:=h.lt ho;have hm:(w.setCell ⟨b,o,none⟩ v).heap=w.heap.setIfInBounds b (.cells (c.setIfInBounds o v) el f):=by
  unfold Xl;apply Array.ext_getElem?;intro i;by_cases cG:b=i
  ·subst cG;rw[Wj,S9 hlt];simp[hb]
  ·simp[Wj,cG,SR cG]
 refine⟨λb' o' v' e=> ?_,λb' x e=> ?_⟩
 ·have:=h.ab _ _ _ e;simp only[View.upd]at e;by_cases vS:b=b'
  ·subst vS;have Cg:o≠o':=(by intro x;subst x;rw[hi]at e;cases e);simp only[Uy,hb]at this;simp only[Uy,hm,S9 hlt,SR Cg];exact this
  ·simp only[Uy,hm,SR vS];exact this
 ·simp only[View.upd]at e;rw[hm];by_cases vS:b'=b
  ·subst vS;simp at e;rw[S9 hlt,e]
  ·simp only[vS,if_false]at e;rw[SR (Ne.symm vS)];exact h.own _ _ e
theorem C9(w:Tq)(a:U4)(v:SO):(w.setCell a v).heap.size=w.heap.size:=by simp[Xl]
theorem vY(w:Tq)(a:U4)(v:SO){b:Nat}(h:a.block≠b):(w.setCell a v).heap[b]?=w.heap[b]?:=by simp[Xl,Wj,h]
theorem apO{m:Mode}{b o:Nat}{v:SO}{k:Sem α}{c:Array SO}{el:TypeId}{lo hi:Nat}(ho:V.own b=some (.cells c el (lo,hi)))(cW:o<c.size)(cG:V.ab b o=none)(hv:v.one=true)
  (hf:¬(lo<=o/\o<hi)) (ko:V.role.group≠some b\/m=.atomic) (J9:V.role.chan≠some b) (h:aR P (V.upd b (.cells (c.setIfInBounds o v) el (lo,hi))) k K Kp):aR P V (.store m ⟨b,o,none⟩ v k) K Kp:=by
 refine .cont λw hw=>⟨#[⟨.cell ⟨b,o,none⟩,true,m== .atomic⟩],w.setCell ⟨b,o,none⟩ v,_,k,?_,λe9=> ?_,h⟩
 ·rw[tx (by simp)];refine⟨hw.adc ho cG,rfl,rfl,rfl,by rw[C9];exact SU _,λb' dq e=>vY _ _ _ (λx=> ?_),λb' dq e=> ?_,λ_ _ _ e=>e,λ_ _ _ e=> .inl e,λev cr=> ?_,by rw[OS];rfl,rfl,λc' x ba e=>by rw[<- e];simp only[View.upd,ite_eq_right_iff];intro x';subst x';exact absurd ba J9,λev cr=>by simp at cr;subst cr;show b<_;rw[C9];exact hw.lt ho⟩
  ·have x':b=b':=x;subst x';rw[ho]at e;cases e
  ·have:b'≠b:=(by intro x;subst x;rw[ho]at e;cases e);simp only[View.upd,this,if_false];exact e
  ·simp only[TJ,SL,S4,or_false]at cr;subst cr;exact⟨.inr ⟨by show V.own b≠none;rw[ho];simp,cG⟩,ko.elim .inr (λx=> .inl (by subst x;rfl))⟩
 ·have hc:w.cell? ⟨b,o,none⟩=some c[o]:=by simp[Uy,hw.own _ _ ho,cW]
  have hfz:w.frozen? ⟨b,o,none⟩=false:=by
   simp only[ZT,hw.own _ _ ho];simpa using hf
  cases v<;>simp_all[-TB,VG,Value.one]
theorem oI{x:Obj}{k:Nat->Sem α}(h:∀r,V.fresh r->aR P (V.upd r x) (k r) K Kp):aR P V (.new x k) K Kp:=by
 refine .cont λw hw=>⟨#[],{w with heap:=w.heap.push x},V.upd w.heap.size x,k w.heap.size,?_,λe9=>by simp[-TB,VG],h _ (hw.fresh (SU _))⟩;have jd:=hw.fresh (SU w.heap.size);have aC:∀{b y},V.own b=some y->b≠w.heap.size:=λe x=>by rw[x,jd.1]at e;cases e
 refine⟨⟨λb o v e=> ?_,λb y e=> ?_⟩,rfl,rfl,rfl,by simp,λb hb _=> ?_,λb hb e=> ?_,λ_ _ _ e=>e,λ_ _ _ e=> .inl e,by simp[fL],rfl,rfl,λc' x ba e=>by rw[<- e];simp only[View.upd,ite_eq_right_iff];intro x';exact absurd x' (aC e),by simp[fL]⟩
 ·have hlt:=hw.CA e;have:=hw.ab _ _ _ e;simp only[Uy,Yz hlt]at this⊢;simpa[Uy,hlt]using this
 ·simp only[View.upd]at e;by_cases hb:b=w.heap.size
  ·subst hb;simp at e;simp[e]
  ·simp only[hb,if_false]at e;have:=hw.own _ _ e;have hlt:=hw.lt e;simp only[Yz hlt];simpa[hlt]using this
 ·simp[Xk,Wa hb]
 ·simp only[View.upd,Wa hb,if_false];exact e
theorem ab2{q:Question}{k:Nat->Sem α}(h0:q.forced=true->aR P V (k 0) K Kp)(h:q.forced=false->∀t,aR P V (k (q.cut t)) K Kp):aR P V (.choose q k) K Kp:=by
 cases hf:q.forced with
 |true=>exact .cont λw hw=>⟨#[],w,V,k 0,by simpa[fL]using dj.idle hw,λe9=>by simp[-TB,VG,hf],h0 hf⟩
 |false=>exact .cont λw hw=>⟨#[],{w with drawn:=w.drawn+1},V,_,by simpa[fL]using dj.draw hw (w.drawn+1),λe9=>by simp[-TB,VG,hf],h hf (w.tape w.drawn q)⟩
theorem qB{k:SK->Sem α}(h:aR P V (k P) K Kp):aR P V (.program k) K Kp:=
 .cont λw hw=>⟨#[],w,V,k P,by simpa[fL]using dj.idle hw,λe9=>by simp[-TB,VG],h⟩
theorem apL{k:Sem α}(h:aR P V k K Kp):aR P V (.mark .noRoom k) K Kp:=
 .cont λw hw=>⟨#[⟨.mark .noRoom,false,true⟩],w,V,k,by
  rw[tx (by simp)];exact⟨hw,rfl,rfl,rfl,SU _,λ_ _ _=>rfl,λ_ _ e=>e,λ_ _ _ e=>e,λ_ _ _ e=> .inl e,λev cr=>by simp at cr;subst cr;trivial,by simp[deafBehind],rfl,λ_ _ _ e=>e,λev cr=>by simp at cr;subst cr;trivial⟩,
  λe9=>by simp[-TB,VG],h⟩
theorem apK{m:Mark}{k:Sem α}(hm:m=.disable\/m=.enable)(h:aR P {V with deaf:=deafBehind V.deaf #[⟨.mark m,false,true⟩]} k K Kp):aR P V (.mark m k) K Kp:=
 .cont λw hw=>⟨#[⟨.mark m,false,true⟩],w,_,k,by
  rw[tx (by rcases hm with rfl|rfl<;>simp)];exact⟨⟨hw.ab,hw.own⟩,rfl,rfl,rfl,SU _,λ_ _ _=>rfl,λ_ _ e=>e,λ_ _ _ e=>e,λ_ _ _ e=> .inl e,λev cr=>by simp at cr;subst cr;rcases hm with rfl|rfl<;>rfl,rfl,rfl,λ_ _ _ e=>e,λev cr=>by simp at cr;subst cr;rcases hm with rfl|rfl<;>trivial⟩,
  λe9=>by simp[-TB,VG],h⟩
theorem apN{m:Mark}{a:U4}{k:Sem α}(hm:m=.read a\/m=.write a)(ha:V.own a.block≠none/\V.ab a.block a.off=none)(h:aR P V k K Kp):aR P V (.mark m k) K Kp:=
 .cont λw hw=>⟨#[⟨.mark m,false,true⟩],w,_,k,by
  rw[tx (by rcases hm with rfl|rfl<;>simp)];exact⟨⟨hw.ab,hw.own⟩,rfl,rfl,rfl,SU _,λ_ _ _=>rfl,λ_ _ e=>e,λ_ _ _ e=>e,λ_ _ _ e=> .inl e,λev cr=>by simp at cr;subst cr;rcases hm with rfl|rfl<;>exact .inr ha,
   by rcases hm with rfl|rfl<;>simp[deafBehind],rfl,λ_ _ _ e=>e,λev cr=>by
    simp at cr;subst cr;have:a.block<w.heap.size:=by
     cases e:V.own a.block with
     |none=>exact absurd e ha.1
     |some y=>exact hw.lt e
    rcases hm with rfl|rfl<;>exact this⟩,
  λe9=>by simp[-TB,VG],h⟩
def _root_.Go.Obj.uL:Obj->Bool
 |.cells .. =>true
 |_=>false
theorem nV{r:Nat}{x:Obj}{k:Obj->Sem α}(ho:V.own r=some x)(hx:x.uL=false)(hc:x.isChan=false)(ko:V.role.chan≠some r)(h:aR P V (k x) K Kp):aR P V (.getObj r k) K Kp:=
 .cont λw hw=>⟨#[⟨.obj r,false,false⟩],w,V,k x,by
  rw[tx (by simp)];exact⟨hw,rfl,rfl,rfl,SU _,λ_ _ _=>rfl,λ_ _ e=>e,λ_ _ _ e=>e,λ_ _ _ e=> .inl e,λev cr=>by simp at cr;subst cr;exact⟨⟨rfl,.inr (by rw[ho];simp)⟩,ko⟩,by rw[OT],rfl,λ_ _ _ e=>e,λev cr=>by simp at cr;subst cr;exact hw.lt ho⟩,
  λe9=>by
   have:=hw.own _ _ ho;cases x<;>simp_all[-TB,VG,Obj.uL,ak_],h⟩
theorem Sat.arA{V:View}{w:Tq}(h:Sat V w){r:Nat}{x y:Obj}(ho:V.own r=some x)(hx:x.uL=false):Sat (V.upd r y) {w with heap:=w.heap.setIfInBounds r y}:=by
 have hlt:=h.lt ho;refine⟨λb o v e=> ?_,λb z e=> ?_⟩
 ·have:=h.ab _ _ _ e;have hb:r≠b:=by
   intro e';subst e';simp only[Uy,h.own _ _ ho]at this;cases x<;>simp_all[Obj.uL]
  simp only[Uy,SR hb]at this⊢;exact this
 ·simp only[View.upd]at e;by_cases hb:b=r
  ·subst hb;simp at e;simp[hlt,e]
  ·simp only[hb,if_false]at e;simp only[SR (Ne.symm hb)];exact h.own _ _ e
theorem yk{r:Nat}{x y:Obj}{k:Sem α}(ho:V.own r=some x)(hx:x.uL=false)(hy:y.isChan=false)(ko:V.role.chan≠some r)(h:aR P (V.upd r y) k K Kp):aR P V (.setObj r y k) K Kp:=
 .cont λw hw=>⟨#[⟨.obj r,true,false⟩],{w with heap:=w.heap.setIfInBounds r y},_,k,by
  rw[tx (by simp)];refine⟨hw.arA ho hx,rfl,rfl,rfl,by simp,λb hb e=> ?_,λb hb e=> ?_,λ_ _ _ e=>e,λ_ _ _ e=> .inl e,λev cr=>by simp at cr;subst cr;exact⟨⟨rfl,.inr (by rw[ho];simp)⟩,ko⟩,by rw[OT];rfl,rfl,λc' x ba e=>by rw[<- e];simp only[View.upd,ite_eq_right_iff];intro x';subst x';exact absurd ba ko,λev cr=>by simp at cr;subst cr;show r<_;simp;exact hw.lt ho⟩
  ·exact SR (λx'=>by subst x';rw[ho]at e;cases e)
  ·have:b≠r:=(by intro x';subst x';rw[ho]at e;cases e);simp only[View.upd,this,if_false];exact e,
  λe9=>by
   have:=hw.own _ _ ho;cases x<;>simp_all[-TB,VG,Obj.uL,ak_],h⟩
theorem apC{s:Sem α}{f:α->Sem β}{K:β->View->Prop}(h:aR P V s (λx V'=>aR P V' (f x) K Kp) Kp):aR P V (s.bind f) K Kp:=by
 intro w hw e9;obtain⟨es,w',V',h1,h2⟩:=h w hw e9;have key:(s.bind f).runT P w e9=match s.runT P w e9 with
   |(.ok x w',e)=>(f x).runT P w' e
   |(.halt h w',e)=>(.halt h w',e):=by
  have hr:=Sem.run_bind' P s f w;have he:=Sem.events_bind' P s f w e9;rw[TB,TB];have xO:(s.bind f).run P w=_:=hr;have kj:(s.bind f).events P w e9=_:=he;rw[xO,kj];cases s.run P w<;>simp[Result.andThen,Result.evThen]
 rcases h2 with⟨x,hx,hK⟩|⟨v,hv,hKp⟩
 ·obtain⟨uf,Nm,aP,h3,h4⟩:=hK w' h1.sat (e9++es);refine⟨es++uf,Nm,aP,by rw[L9];exact h1.trans h3,?_⟩;rw[key,hx,<- Xt];exact h4
 ·refine⟨es,w',V',h1,.inr ⟨v,?_,hKp⟩⟩;rw[key,hv]
theorem az{s:Sem α}{f:α->Sem β}{K:β->View->Prop}(h:aR P V s (λx V'=>aR P V' (f x) K Kp) Kp):aR P V (s>>=f) K Kp:=apC h
end
open Go.Conc
def yz (e:Uq):Prop:=∀m,e.loc=.mark m->(m=.disable\/m=.enable)->e.sync=true
theorem mZ.Jj{V:View}{n:Nat}{e:Uq}(h:mZ V n e):yz e:=by
 intro m hm hd;obtain⟨l,wr,s⟩:=e;simp only at hm;subst hm;rcases hd with rfl|rfl
 ·simpa[mZ]using h
 ·simpa[mZ]using h
theorem agc(d:Nat)(x:Array Uq)(e:Uq):deafBehind d (x.push e)=deafBehind (deafBehind d x) #[e]:=by
 simp[deafBehind]
theorem agd{d:Nat}{e:Uq}(hg:yz e)(hs:e.sync=false):deafBehind d #[e]=d:=by
 obtain⟨l,wr,s⟩:=e;cases l with
 |mark m=>
  cases m<;>first
   |(have:=hg _ rfl (.inl rfl);simp_all)
   |(have:=hg _ rfl (.inr rfl);simp_all)
   |simp[deafBehind]
 |_=>simp[deafBehind]
theorem apA(P:SK)(fn:TN)(es:Array Uq)(hg:∀e∈fL es,yz e)(d:Nat):(∀e∈seen P fn es,e∈fL es)/\deafBehind d (seen P fn es)=deafBehind d (fL es):=by
 rw[seen_def];obtain⟨l⟩:=es;have key:∀(l:List Uq)(q:Bool)(kept ref:Array Uq),(∀e∈fL l.toArray,yz e)->(∀e∈kept,e∈ref)->deafBehind d kept=deafBehind d ref->
   (∀e∈(l.foldl (seenStep λf=>(P.funcs[f]?).any (·.norace)) (q,kept)).2,e∈ref++fL l.toArray)/\
   deafBehind d (l.foldl (seenStep λf=>(P.funcs[f]?).any (·.norace)) (q,kept)).2=deafBehind d (ref++fL l.toArray):=by
  intro l;induction l with
  |nil=>intro q kept ref _ h1 h2;simpa[fL]using⟨h1,h2⟩
  |cons e l ih=>
   intro q kept ref hg h1 h2;rw[UY];by_cases hx:∃f,e.loc=.mark (.extern f)
   ·obtain⟨f,hf⟩:=hx;have e1:fL (e::l).toArray=fL l.toArray:=(by simp[fL,hf]);rw[e1]at hg⊢;have e3:seenStep (λf=>(P.funcs[f]?).any (·.norace)) (q,kept) e=((P.funcs[f]?).any (·.norace),kept):=(by simp[seenStep,hf]);rw[e3];exact ih _ kept ref hg h1 h2
   ·have aC:∀f,e.loc≠ .mark (.extern f):=λf hf=>hx ⟨f,hf⟩;have e1:fL (e::l).toArray=#[e]++fL l.toArray:=by
     have:(e::l).toArray=#[e]++l.toArray:=(by simp);rw[this,L9,tx aC]
    have sU:yz e:=hg e (by rw[e1];simp);have oz:∀x∈fL l.toArray,yz x:=λx hx=>hg x (by rw[e1];exact Ut.2 (.inr hx));have e2:seenStep (λf=>(P.funcs[f]?).any (·.norace)) (q,kept) e=(q,if q&& !e.sync then kept else kept.push e):=by
     unfold seenStep;dsimp only;split
     ·rename_i f hf;exact absurd hf (aC f)
     ·rfl
    rw[e1,<- Xt];rw[e2];refine ih q _ (ref++#[e]) oz (λx hx=> ?_) ?_
    ·split at hx
     ·exact Ut.2 (.inl (h1 x hx))
     ·rcases Array.mem_push.1 hx with hx|rfl
      ·exact Ut.2 (.inl (h1 x hx))
      ·exact Ut.2 (.inr (by simp))
    ·split
     ·rename_i hq;simp only[Ti,TV]at hq;rw[Iu,agd sU hq.2,h2]
     ·rw[Iu,agc,h2]
 have:=key l ((P.funcs[fn]?).any (·.norace)) #[] #[] hg (by simp) rfl;simpa only[Xs]using this
theorem dj.seen{V V':View}{w w':Tq}{es:Array Uq}(h:dj V w V' w' (fL es))(P:SK)(fn:TN):dj V w V' w' (seen P fn es):=by
 have:=apA P fn es (λe he=>(h.fl e he).Jj) V.deaf;exact⟨h.sat,h.tape,h.os,h.output,h.size,h.frame,h.own,h.ab,h.kK,λe he=>h.fl e (this.1 e he),by rw[h.deaf,this.2],h.role,h.chan,λe he=>h.low e (this.1 e he)⟩
open Go.Conc
inductive Out where
 |ret (v:SO)
 |panic (chain:List ZU)
def Leaves (P:SK)(fr:T8)(f:TN)(kd:Xg)(o:Out)(V:View):Prop:=
 fr.fn=f/\fr.defers=[]/\fr.kind=kd/\∃fn,P.funcs[f]?=some fn/\
  match o with
  |.ret v=>fr.mode=.returning/\aR P V (results fn fr.tmps) (λx V'=>x=v/\V'=V) (λ_ _=>False)
  |.panic ch=>fr.mode=.panicking ch
def Body (lv:Bool)(P:SK)(f:TN)(args:Array SO)(kd:Xg)(V:View)(R:Out->View->Prop):Prop:=
 ∀(main:Bool)(J:View->SH->Prop),Closed lv P main J->∀cs,(∀o V' fr,R o V'->Leaves P fr f kd o V'->J V' (G fr cs))->J V (G (Frame.enter P f args kd) cs)
def na (lv:Bool)(P:SK)(fr:T8)(V:View)(R:Out->View->Prop):Prop:=
 ∀(main:Bool)(J:View->SH->Prop),Closed lv P main J->∀c cs,(∀v V',R (.ret v) V'->J V' (G (c.finish v) cs))->(∀ch V',R (.panic ch) V'->J V' (G (c.raise ch) cs))->J V (G fr (c::cs))
theorem Body.mono{lv:Bool}{P:SK}{f:TN}{args:Array SO}{kd:Xg}{V:View}{R R':Out->View->Prop}(h:Body lv P f args kd V R)(hr:∀o V,R o V->R' o V):Body lv P f args kd V R':=
 λmain J C cs hk=>h main J C cs λo V' fr r hl=>hk o V' fr (hr _ _ r) hl
theorem Body.ghost{lv:Bool}{P:SK}{f:TN}{args:Array SO}{kd:Xg}{V V':View}{R:Out->View->Prop}(g:ee V V')(h:Body lv P f args kd V' R):Body lv P f args kd V R:=
 λmain J C cs hk=>C.ghost _ _ _ g (h main J C cs hk)
theorem na.mono{lv:Bool}{P:SK}{fr:T8}{V:View}{R R':Out->View->Prop}(h:na lv P fr V R)(hr:∀o V,R o V->R' o V):na lv P fr V R':=
 λmain J C c cs h1 h2=>h main J C c cs (λv V' r=>h1 v V' (hr _ _ r)) (λv V' r=>h2 v V' (hr _ _ r))
theorem na.ghost{lv:Bool}{P:SK}{fr:T8}{V V':View}{R:Out->View->Prop}(g:ee V V')(h:na lv P fr V' R):na lv P fr V R:=
 λmain J C c cs h1 h2=>C.ghost _ _ _ g (h main J C c cs h1 h2)
theorem aR.runs{P:SK}{α:Type}{V:View}{s:Sem α}{K:α->View->Prop}{Kp:SO->View->Prop}(h:aR P V s K Kp){w:Tq}(hw:Sat V w):
  ∃es w' V',dj V w V' w' (fL es)/\s.events P w #[]=es/\((∃x,s.run P w=.ok x w'/\K x V')\/(∃v,s.run P w=.halt (.panic v) w'/\Kp v V')):=by
 obtain⟨es,w',V',h1,h2⟩:=h w hw #[];refine⟨es,w',V',h1,?_⟩;simp only[TB,U0,Xs]at h2;rcases h2 with⟨x,⟨a,b⟩,c⟩|⟨x,⟨a,b⟩,c⟩
 ·exact⟨b,.inl ⟨x,a,c⟩⟩
 ·exact⟨b,.inr ⟨x,a,c⟩⟩
theorem ame{lv:Bool}{P:SK}{main:Bool}{J:View->SH->Prop}(C:Closed lv P main J){fr c:T8}{cs:List T8}{f:TN}{v:SO}{V:View}(h:Leaves P fr f .normal (.ret v) V)(hJ:J V (G (c.finish v) cs)):J V (G fr (c::cs)):=by
 obtain⟨rfl,hd,hk,fn,hf,hm,hr⟩:=h;refine C.step _ _ rfl λw hw=> ?_;obtain⟨es,w',V',h1,h2,h3⟩:=hr.runs hw;rcases h3 with⟨x,h3,rfl,rfl⟩|⟨_,_,h⟩
 ·exact⟨G (c.finish x) cs,w',seen P fr.fn es,V',by simp[G,stepG,unwind,doReturn,hm,hd,hk,hf,h3,h2,TZ],h1.seen P fr.fn,hJ⟩
 ·exact h.elim
theorem amd{lv:Bool}{P:SK}{main:Bool}{J:View->SH->Prop}(C:Closed lv P main J){fr c:T8}{cs:List T8}{f:TN}{kd:Xg}{ch:List ZU}{V:View}(h:Leaves P fr f kd (.panic ch) V)(hJ:J V (G (c.raise ch) cs)):J V (G fr (c::cs)):=by
 obtain⟨rfl,hd,hk,fn,hf,hm⟩:=h;refine C.idle rfl (λw=> ?_) hJ;simp[G,stepG,unwind,ZW,hm,hd,hf]
theorem Body.runs{lv:Bool}{P:SK}{f:TN}{args:Array SO}{V:View}{R:Out->View->Prop}(h:Body lv P f args .normal V R):na lv P (Frame.enter P f args .normal) V R:=by
 intro main J C c cs h1 h2;refine h main J C (c::cs) λo V' fr r hl=> ?_;cases o with
 |ret v=>exact ame C hl (h1 v V' r)
 |panic ch=>exact amd C hl (h2 ch V' r)
def mG (lv:Bool)(P:SK)(r:Option Nat)(o:Tx)(a:Act)(next:Act->View->Prop)(Q:Ex->Act->View->Prop)(nx:Next)(V:View):Prop:=
 match nx with
 |.value v=>next (a.put o.dst v) V
 |.skip=>next (a.put o.dst undef) V
 |.defer d=>r=none/\next ({a with defers:=d::a.defers}.put o.dst undef) V
 |.enter f args=>Body lv P f args .normal V fun
   |.ret v,V'=>next (a.put o.dst v) V'
   |.panic ch,V'=>Q (.panic ch) a V'
 |.round l f tmps assign body=>na lv P (Xb l f tmps assign body .normal) V fun
   |.ret v,V'=>next (a.put o.dst v) V'
   |.panic ch,V'=>Q (.panic ch) a V'
 |_=>False
def mo:Op->Bool
 |.defer _=>true
 |_=>false
def vg (lv:Bool)(P:SK)(r:Option Nat)(o:Tx)(a:Act)(V:View)(next:Act->View->Prop)(Q:Ex->Act->View->Prop):Prop:=
 (r=none\/mo o.op=false)/\aR P V (execOp a.eval o) (mG lv P r o a next Q) (λv V'=>Q (.panic [{v,recovered:=false}]) a V')
def vn (lv:Bool)(P:SK)(o:Tx)(a:Act)(V:View)(next:Act->View->Prop):Prop:=match o.op with
 |.send ch x=>∃(c Wg:Nat)(sp:Spec)(S:List Spec)(B:Nat->Bool),a.eval ch=.chan (some c)/\V.role=.work c Wg (sp::S)/\V.deaf=0/\sp (a.eval x) V.ab (λb=>if B b then V.own b else none)/\
   next (a.put o.dst undef) {V with own:=λb=>if B b then none else V.own b,role:=.work c Wg S}
 |.go cl=>lv=true/\∃(x:Tl)(f:TN)(fa ca:Array SO),cl.callee=.value x/\a.eval x=.func (.func f) fa ca/\V.deaf=0/\
   ((∃(c Wg:Nat)(Ss:List (List Spec))(sp:Spec)(S:List Spec),V.role=.fork c Wg Ss/\V.own c=some (.chan 0 #[] false 0 0 false)/\V.own Wg=some (wgBlock P (((Ss.length+1:Nat):Int)* 4294967296) 0)/\Ss.length<4/\(∀o,V.ab Wg o=none)/\
    (∀J0,yr P false J0->J0 {ab:=V.ab,own:=λ_=>none,deaf:=0,role:=.work c Wg (sp::S)} (born P ⟨.fn (.func f) ca,fa++cl.args.map a.eval⟩))/\next (a.put o.dst undef) {V with role:=.fork c Wg (Ss++[sp::S])})\/
    (∃(c Wg:Nat)(Ss:List (List Spec)),V.role=.fork c Wg Ss/\c≠Wg/\V.own c=some (.chan 0 #[] false 0 0 false)/\V.own Wg=some (wgBlock P (((Ss.length:Nat):Int)* 4294967296) 0)/\(∀o,V.ab c o=none)/\(∀o,V.ab Wg o=none)/\
    HJ P V.ab c Wg (born P ⟨.fn (.func f) ca,fa++cl.args.map a.eval⟩)/\next (a.put o.dst undef) {V with own:=λb=>if b=c\/b=Wg then none else V.own b,role:=.recv c Wg Ss}))
 |.recv t ch true=>lv=true/\∃(c Wg:Nat)(Ss:List (List Spec))(d:ChanDir)(el:TypeId)(i:Wl)(z:SO),a.eval ch=.chan (some c)/\P.underlying t=some (.chan d el)/\P.info? el=some i/\i.zero=some z/\V.role=.recv c Wg Ss/\V.deaf=0/\
   (∀(i:Nat)(sp:Spec)(S:List Spec)(v:SO)(Im:cC)(Ow:AN),Ss[i]?=some (sp::S)->sp v Im Ow->(∀b,V.own b≠none->Ow b=none)->(∀b o,V.own b≠none->Im b o≠none->V.ab b o≠none)->(∃w,Sat V w/\(∀b o x,Im b o=some x->w.cell? ⟨b,o,none⟩=some x)/\∀b x,Ow b=some x->w.heap[b]?=some x)->
    next (a.put o.dst (.tuple #[v,.bool true])) {V with ab:=λb o=>match V.ab b o with|some x=>some x|none=>Im b o,own:=λb=>match V.own b with|some x=>some x|none=>Ow b,role:=.recv c Wg (Ss.set i S)})/\
   ((∀S∈Ss,S=[])->next (a.put o.dst (.tuple #[z,.bool false])) {V with role:=.plain})
 |_=>False
theorem vn.mono{lv:Bool}{P:SK}{o:Tx}{a:Act}{V:View}{N N':Act->View->Prop}(h:vn lv P o a V N)(hN:∀a V,N a V->N' a V):vn lv P o a V N':=by
 unfold vn at h⊢;split at h
 ·obtain⟨c,Wg,sp,S,B,h1,h2,h3,h4,h5⟩:=h;exact⟨c,Wg,sp,S,B,h1,h2,h3,h4,hN _ _ h5⟩
 ·obtain⟨sY,x,f,fa,ca,h1,h2,h3,h4⟩:=h;refine⟨sY,x,f,fa,ca,h1,h2,h3,h4.imp ?_ ?_⟩
  ·rintro⟨c,Wg,Ss,sp,S,q1,q2,q3,q4,q5,q6,q7⟩
   exact⟨c,Wg,Ss,sp,S,q1,q2,q3,q4,q5,q6,hN _ _ q7⟩
  ·rintro⟨c,Wg,Ss,q1,q2,q3,q4,q5,q6,q7,q8⟩
   exact⟨c,Wg,Ss,q1,q2,q3,q4,q5,q6,q7,hN _ _ q8⟩
 ·obtain⟨sY,c,Wg,Ss,d,el,ti,z,h1,h2,h3,h4,h5,h6,h7,h8⟩:=h;exact⟨sY,c,Wg,Ss,d,el,ti,z,h1,h2,h3,h4,h5,h6,λi sp S v Im Ow r1 r2 r3 r4 r5=>hN _ _ (h7 i sp S v Im Ow r1 r2 r3 r4 r5),λhS=>hN _ _ (h8 hS)⟩
 ·exact h
def AM (lv:Bool)(P:SK)(r:Option Nat)(o:Tx)(a:Act)(V:View)(next:Act->View->Prop)(Q:Ex->Act->View->Prop):Prop:=vg lv P r o a V next Q\/vn lv P o a V next
def da (lv:Bool)(P:SK)(r:Option Nat)(ops:Array Tx)(Q:Ex->Act->View->Prop):List Nat->Act->View->Prop
 |[],a,V=>Q .normal a V
 |i::rest,a,V=>
  match ops[i]?with
  |none=>da lv P r ops Q rest a V
  |some o=>if Tc o (yielded ops a.tmps)then AM lv P r o a V (da lv P r ops Q rest) Q else da lv P r ops Q rest (a.put o.dst undef) V
theorem z8(b:T8)(a:Act)(ops:Array Tx)(i:Nat)(rest:List Nat)(k:List WW)(v:SO):
  (on b a (.inRegion ops (i::rest)::k)).finish v=on b (a.put ((ops[i]?).bind (·.dst)) v) (.inRegion ops rest::k):=by
 cases h:(ops[i]?).bind (·.dst)<;>simp[Frame.finish,on,Ws,h]
theorem abO{P:SK}{main:Bool}{b:T8}{a:Act}{k:List WW}{cs:List T8}{w:Tq}{ops:Array Tx}{i:Nat}{rest:List Nat}(h:((ops[i]?).map (Tc · (yielded ops a.tmps))).getD false=false):
  stepG P main (G (on b a (.inRegion ops (i::rest)::k)) cs) w=.go (G (on b (a.put ((ops[i]?).bind (·.dst)) undef) (.inRegion ops rest::k)) cs) w #[]:=by
 rw[<- z8];simp only[on]at*;simp[G,stepG,Ub,h]
theorem s_op{P:SK}{main:Bool}{b:T8}{a:Act}{k:List WW}{cs:List T8}{w:Tq}{ops:Array Tx}{i:Nat}{rest:List Nat}{o:Tx}(ho:ops[i]?=some o)(hw:Tc o (yielded ops a.tmps)=true)(hd:b.roundOf=none\/mo o.op=false):
  stepG P main (G (on b a (.inRegion ops (i::rest)::k)) cs) w=stepG.apply P true (on b a (.inRegion ops (i::rest)::k)) cs none (execOp a.eval o) w:=by
 have he:=ans b a (.inRegion ops (i::rest)::k);simp only[on]at he;rcases hd with hd|hd
 ·rw[hd]at he;simp[G,stepG,Ub,Y3,YL,on,ho,hw,he,hd]
 ·cases hr:b.roundOf with
  |none=>
   rw[hr]at he;simp[G,stepG,Ub,Y3,YL,on,ho,hw,he,hr]
  |some l=>cases au:o.op<;>simp_all[G,stepG,Ub,Y3,YL,on,mo]
theorem ap8{lv:Bool}{P:SK}{main:Bool}{J:View->SH->Prop}(C:Closed lv P main J){ops:Array Tx}{i:Nat}{rest:List Nat}{o:Tx}{a:Act}{V:View}{N:Act->View->Prop}{b:T8}{k:List WW}{cs:List T8}(hb:b.kind≠ .early)
  (ho:ops[i]?=some o) (hw:Tc o (yielded ops a.tmps)=true) (h:vn lv P o a V N) (hN:∀a' V',N a' V'->J V' (G (on b a' (.inRegion ops rest::k)) cs)):J V (G (on b a (.inRegion ops (i::rest)::k)) cs):=by
 have jW:((on b a (.inRegion ops (i::rest)::k)).kind==U7)=false:=by simpa[on]using hb
 have eo:∀v,(on b a (.inRegion ops (i::rest)::k)).finish v=on b (a.put o.dst v) (.inRegion ops rest::k):=by
  intro v;rw[z8,ho];rfl
 have KV:∀v,T1 (G (on b a (.inRegion ops (i::rest)::k)) cs) v=G (on b (a.put o.dst v) (.inRegion ops rest::k)) cs:=λv=>by rw[<- eo v];rfl
 unfold vn at h;split at h
 ·rename_i ch x au;obtain⟨c,Wg,sp,S,B,h1,h2,h3,h4,h5⟩:=h;have aT:∀w,stepG P main (G (on b a (.inRegion ops (i::rest)::k)) cs) w=.comm (G (on b a (.inRegion ops (i::rest)::k)) cs) #[scase c (a.eval x) (.tuple #[])] true .send w #[]:=λw=>by
   rw[s_op ho hw (.inr (by rw[au];rfl))];have e:execOp a.eval o=pure (.comm #[scase c (a.eval x) (.tuple #[])] true .send):=by
    unfold execOp;simp only[au];rw[h1];rfl
   rw[e];simp only[stepG.apply,TB,if_true,jW,TZ,Z',ZI,ab_];rfl
  exact C.send _ _ c Wg sp S (a.eval x) (.tuple #[]) B h2 h3 rfl rfl (λw _=>aT w) h4 (by rw[KV];exact hN _ _ h5)
 ·rename_i cl au;obtain⟨sY,x,f,fa,ca,h1,h2,h3,h4⟩:=h;have aT:∀w,stepG P main (G (on b a (.inRegion ops (i::rest)::k)) cs) w=.spawn (G (on b (a.put o.dst undef) (.inRegion ops rest::k)) cs) (born P ⟨.fn (.func f) ca,fa++cl.args.map a.eval⟩) w #[]:=λw=>by
   rw[s_op ho hw (.inr (by rw[au];rfl)),<- eo undef];have e:execOp a.eval o=(pure (.spawn ⟨.fn (.func f) ca,fa++cl.args.map a.eval⟩):Sem Next):=by
    unfold execOp;simp only[au];unfold resolve;simp only[h1,h2];rfl
   rw[e];simp only[stepG.apply,TB,if_true,jW,TZ,Z',ZI,ab_];simp[born,G,on];exact ab_ _ _
  rcases h4 with⟨c,Wg,Ss,sp,S,q1,q2,q3,q4,q5,q6,q7⟩|⟨c,Wg,Ss,q1,q2,q3,q4,q5,q6,q7,q8⟩
  ·exact(C.more sY).EA _ _ _ _ c Wg Ss sp S q1 h3 rfl q2 q3 q4 q5 (λw _=>aT w) rfl q6 (hN _ _ q7)
  ·exact(C.more sY).Ez _ _ _ _ c Wg Ss q1 h3 rfl q2 q3 q4 q5 q6 (λw _=>aT w) rfl q7 (hN _ _ q8)
 ·rename_i t ch au;obtain⟨sY,c,Wg,Ss,d,el,ti,z,h1,h2,h3,h4,h5,h6,h7,h8⟩:=h;have aT:∀w,stepG P main (G (on b a (.inRegion ops (i::rest)::k)) cs) w=.comm (G (on b a (.inRegion ops (i::rest)::k)) cs) #[rcase c z] true (.recv true) w #[]:=λw=>by
   rw[s_op ho hw (.inr (by rw[au];rfl))];have hu:(underlying t).run P w=.ok (.chan d el) w:=run_underlying h2 w;have hi:(typeInfo el).run P w=.ok ti w:=(by simp[typeInfo,h3]);have hz:(zeroValue el).run P w=.ok z w:=(by simp[zeroValue,hi,h4]);have uI:(zeroValue el).events P w #[]=#[]:=(by simp[zeroValue,hi,h4]);have e1:(execOp a.eval o).run P w=.ok (.comm #[rcase c z] true (.recv true)) w:=by
    unfold execOp;simp only[au];rw[h1];simp[hu,hz,rcase]
   have e2:(execOp a.eval o).events P w #[]=#[]:=by
    unfold execOp;simp only[au];rw[h1];simp[hu,hz,uI]
   simp only[stepG.apply,TB,if_true,jW,TZ,e1,e2,ab_];rfl
  refine(C.more sY).recv _ _ c Wg Ss z h5 h6 rfl rfl (λw _=>aT w) (λi sp S v Im Ow r1 r2 r3 r4 r5=> ?_) λhS=> ?_
  ·rw[KV];exact hN _ _ (h7 i sp S v Im Ow r1 r2 r3 r4 r5)
  ·rw[KV];exact hN _ _ (h8 hS)
 ·exact h.elim
theorem wp_ops{lv:Bool}{P:SK}{r:Option Nat}{ops:Array Tx}{Q:Ex->Act->View->Prop}(l:List Nat):
  ∀(a:Act)(V:View),da lv P r ops Q l a V->∀(main:Bool)(J:View->SH->Prop),Closed lv P main J->∀(b:T8)(k:List WW)(cs:List T8),b.kind≠ .early->b.roundOf=r->
   (∀e a' V',Q e a' V'->vf J b k cs e a' V')->J V (G (on b a (.inRegion ops l::k)) cs):=by
 induction l with
 |nil=>exactλa V h main J C b k cs _ _ hL=>C.idle rfl (λ_=>apt) (hL _ _ _ h)
 |cons i rest ih=>
  intro a V h main J C b k cs hb hr hL;simp only[da]at h;cases ho:ops[i]?with
  |none=>
   simp only[ho]at h;refine C.idle rfl (λw=>abO (by simp[ho])) ?_;simp only[ho,Option.bind_none,Ws];exact ih a V h main J C b k cs hb hr hL
  |some o=>
   simp only[ho]at h;by_cases hw:Tc o (yielded ops a.tmps)=true
   ·simp only[hw,if_true]at h;rcases h with h|h
    rotate_left
    ·exact ap8 C hb ho hw h λa' V' h'=>ih a' V' h' main J C b k cs hb hr hL
    obtain⟨bz,au⟩:=h;have ajL:b.roundOf=none\/mo o.op=false:=hr▸bz;have eo:∀v,(on b a (.inRegion ops (i::rest)::k)).finish v=on b (a.put o.dst v) (.inRegion ops rest::k):=by
     intro v;rw[z8,ho];rfl
    have jW:((on b a (.inRegion ops (i::rest)::k)).kind==U7)=false:=(by simpa[on]using hb);refine C.step _ _ rfl λw fB=> ?_;obtain⟨es,w',V',h1,h2,h3⟩:=au.runs fB;rw[s_op ho hw ajL];rcases h3 with⟨nx,h3,hU⟩|⟨v,h3,hU⟩
    ·cases nx with
     |value v=>exact⟨_,w',seen P b.fn es,V',by rw[<- eo v];simp only[stepG.apply,TB,if_true,h3,h2,jW,TZ];rfl,h1.seen P _,ih _ _ hU main J C b k cs hb hr hL⟩
     |skip=>exact⟨_,w',seen P b.fn es,V',by rw[<- eo undef];simp only[stepG.apply,TB,if_true,h3,h2,jW,TZ];rfl,h1.seen P _,ih _ _ hU main J C b k cs hb hr hL⟩
     | «defer» d =>
      obtain⟨zF,hU⟩:=hU;have iO:({on b a (.inRegion ops (i::rest)::k)with defers:=d::a.defers}:T8).finish undef=on b ({a with defers:=d::a.defers}.put o.dst undef) (.inRegion ops rest::k):=by
       have:=z8 b {a with defers:=d::a.defers} ops i rest k undef;rw[ho]at this;exact this
      exact⟨_,w',seen P b.fn es,V',by
       rw[<- iO];simp only[stepG.apply,TB,if_true,h3,h2,jW,TZ];rfl,h1.seen P _,ih _ _ hU main J C b k cs hb hr hL⟩
     |enter f args=>
      refine⟨G (Frame.enter P f args .normal) (on b a (.inRegion ops (i::rest)::k)::cs),w',seen P b.fn es,V',by simp only[stepG.apply,TB,if_true,h3,h2,jW,TZ];rfl,h1.seen P _,?_⟩;refine Body.runs hU main J C _ cs (λv aP hR=> ?_) (λch aP hR=> ?_)
      ·rw[eo];exact ih _ _ hR main J C b k cs hb hr hL
      ·exact hL _ _ _ hR _ rfl
     |round l f tmps assign body=>
      refine⟨G (Xb l f tmps assign body .normal) (on b a (.inRegion ops (i::rest)::k)::cs),w',seen P b.fn es,V',by simp only[stepG.apply,TB,if_true,h3,h2,jW,TZ];rfl,h1.seen P _,?_⟩;refine hU main J C _ cs (λv aP hR=> ?_) (λch aP hR=> ?_)
      ·rw[eo];exact ih _ _ hR main J C b k cs hb hr hL
      ·exact hL _ _ _ hR _ rfl
     |_=>exact hU.elim
    ·refine⟨G ((on b a (.inRegion ops (i::rest)::k)).raise [{v,recovered:=false}]) cs,w',seen P b.fn es,V',by simp only[stepG.apply,TB,if_true,h3,h2,jW,TZ];rfl,h1.seen P _,hL _ _ _ hU _ rfl⟩
   ·have nO:Tc o (yielded ops a.tmps)=false:=(by simpa using hw);simp only[nO,if_false,TM]at h;refine C.idle rfl (λw=>abO (by simp[ho,nO])) ?_;simp only[ho,Option.bind_some];exact ih _ _ h main J C b k cs hb hr hL
theorem wp_region{lv:Bool}{P:SK}{r:Option Nat}{id:Nat}{ops:Array Tx}{Q:Ex->Act->View->Prop}{a:Act}{V:View}(h:da lv P r ops Q (S0 ops.size) a V):WP lv P r (.region id ops false) Q a V:=
 λmain J C b k cs hb hr hL=>C.idle rfl (λ_=>abP) (wp_ops _ a V h main J C b k cs hb hr hL)
theorem Hp{lv:Bool}{P:SK}{r:Option Nat}{id:Nat}{ops:Array Tx}{Q:Ex->Act->View->Prop}{a:Act}{V:View}(h:∀t,da lv P r ops Q (Vf (P.follows .mixedOrders) ops t) a V):WP lv P r (.region id ops true) Q a V:=
 λmain J C b k cs hb hr hL=>C.step _ _ rfl λw hw=>⟨_,_,#[],V,apj,.draw hw _,wp_ops _ a V (h _) main J C b k cs hb hr hL⟩
def Ends (P:SK)(fn:YD)(R:Out->View->Prop):Ex->Act->View->Prop
 |.normal,a,V|.ret,a,V=>a.defers=[]/\∃v,aR P V (results fn a.tmps) (λx V'=>x=v/\V'=V) (λ_ _=>False)/\R (.ret v) V
 |.panic ch,a,V=>a.defers=[]/\R (.panic ch) V
 |_,_,_=>False
theorem OA{lv:Bool}{P:SK}{f:TN}{fn:YD}{c:T7}{args:Array SO}{kd:Xg}{V:View}{R:Out->View->Prop}(hk:kd≠ .early)(hf:P.funcs[f]?=some fn)(hb:fn.body=some c)
  (h:WP lv P none c (Ends P fn R) {tmps:=args++TE (fn.ntmps-args.size) undef,defers:=[]} V):Body lv P f args kd V R:=by
 intro main J C cs hR;let b:T8:={(default:T8)with fn:=f,kind:=kd,roundOf:=none};have ut:Frame.enter P f args kd=on b {tmps:=args++TE (fn.ntmps-args.size) undef,defers:=[]} [.code c]:=by
  simp[Frame.enter,on,hf,hb,b]
 rw[ut];refine h main J C b [] cs hk rfl λe a' V' q=> ?_;cases e with
 |normal=>
  obtain⟨hd,v,hs,hr⟩:=q;exact C.idle rfl (λw=>C4 rfl) (hR _ _ _ hr ⟨rfl,hd,rfl,fn,hf,rfl,hs⟩)
 |ret=>
  obtain⟨hd,v,hs,hr⟩:=q;intro k;exact C.idle rfl (λw=>C5 rfl) (hR _ _ _ hr ⟨rfl,hd,rfl,fn,hf,rfl,hs⟩)
 |panic ch=>
  obtain⟨hd,hr⟩:=q;intro todo _;exact hR _ _ _ hr ⟨rfl,hd,rfl,fn,hf,rfl⟩
 |exit id=>exact q.elim
 |goto l=>exact q.elim
open Go.Conc
inductive End where
 |exact
 |shut
 |opn (k:Nat)
 deriving DecidableEq
inductive AV where
 |val (x:SO)
 |agg (l:List AV)
 |aJ (l:List AV)
 |sl (n:Nat) (l:List AV) (e:End)
 |bK (id off n cap:Nat)
 |rp (l:List AV)
 |op (id off:Nat)
 |fn (f:Fn) (first cV:List AV)
 |c9 (t:TypeId) (x:AV)
 |mp (id:Nat)
structure Env where
 I:cC
 n:Nat
 blk:Nat->Nat
 room:Nat->Nat->Option U4×Nat
 fD:Nat->Nat
 fr:Nat->Option Obj
 main:Bool
structure Env.Le (E E':Env):Prop where
 I:∀b o v,E.I b o=some v->E'.I b o=some v
 n:E.n<=E'.n
 blk:∀k,k<E.n->E'.blk k=E.blk k
 fD:∀k,k<E.n->E.fD k<=E'.fD k
 room:∀k v,k<E.n->v<=E.fD k->E'.room k v=E.room k v
 fr:E'.fr=E.fr
 main:E'.main=E.main
theorem Env.Le.refl(E:Env):E.Le E:=⟨λ_ _ _ h=>h,SU _,λ_ _=>rfl,λ_ _=>SU _,λ_ _ _ _=>rfl,rfl,rfl⟩
theorem Env.Le.trans{E E' bE:Env}(h:E.Le E')(k:E'.Le bE):E.Le bE:=
 ⟨λb o v e=>k.I b o v (h.I b o v e),UB h.n k.n,λi hi=>(k.blk i (Td hi h.n)).trans (h.blk i hi),λi hi=>UB (h.fD i hi) (k.fD i (Td hi h.n)),
  λi v hi hv=>(k.room i v (Td hi h.n) (UB hv (h.fD i hi))).trans (h.room i v hi hv),k.fr.trans h.fr,k.main.trans h.main⟩
def pH (E:Env)(e:End)(a:Option U4)(n cap:Nat):Prop:=match e with
 |.exact=>cap=n
 |.shut=>True
 |.opn k=>k<E.n/\n<=E.fD k/\E.room k n=(a,cap)
inductive aq (E:Env):AV->SO->Prop
 |val (x:SO):aq E (.val x) x
 |agg {l:List AV} {cs:Array SO} (hs:cs.size=l.length) (h:∀(i:Nat) a,l[i]?=some a->aq E a (cs.getD i undef)):aq E (.agg l) (.agg cs)
 |aJ {l:List AV} {cs:Array SO} (hs:cs.size=l.length) (h:∀(i:Nat) a,l[i]?=some a->aq E a (cs.getD i undef)):aq E (.aJ l) (.tuple cs)
 |sl {n:Nat} {l:List AV} {e:End} (b o cap:Nat) (f:Nat->SO) (hc:n<=cap) (he:pH E e (some ⟨b,o,none⟩) n cap)
   (h1:∀i,i<l.length->E.I b (o+i)=some (f i)) (h2:∀(i:Nat) x,l[i]?=some x->aq E x (f i)):aq E (.sl n l e) (.slice (some ⟨b,o,none⟩) n cap)
 |nil {e:End} {a:Option U4} (he:pH E e a 0 0):aq E (.sl 0 [] e) (.slice a 0 0)
 |bK {id off n cap cap':Nat} (hi:id<E.n) (dT:n<=cap'/\(n<=cap->cap=cap')/\(cap<n->cap'<=(E.room id 0).2)):aq E (.bK id off n cap) (.slice (some ⟨E.blk id,off,none⟩) n cap')
 |rp {l:List AV} (b o:Nat) (f:Nat->SO) (h1:∀i,i<l.length->E.I b (o+i)=some (f i)) (h2:∀(i:Nat) x,l[i]?=some x->aq E x (f i)):aq E (.rp l) (.pointer (some ⟨b,o,none⟩))
 |op {id off:Nat} (hi:id<E.n):aq E (.op id off) (.pointer (some ⟨E.blk id,off,none⟩))
 |fn {f:Fn} {first cV:List AV} {fa ca:Array SO} (dD:fa.size=first.length) (fY:ca.size=cV.length) (h1:∀(i:Nat) a,first[i]?=some a->aq E a (fa.getD i undef)) (h2:∀(i:Nat) a,cV[i]?=some a->aq E a (ca.getD i undef)):aq E (.fn f first cV) (.func f fa ca)
 |c9 {t:TypeId} {x:AV} {v:SO} (h:aq E x v):aq E (.c9 t x) (.iface t v)
 |mp {id:Nat} (hi:id<E.n):aq E (.mp id) (.map (some (E.blk id)))
theorem pH.mono{E E':Env}(h:E.Le E'){e:End}{a:Option U4}{n cap:Nat}(k:pH E e a n cap):pH E' e a n cap:=by
 cases e with
 |exact=>exact k
 |shut=>trivial
 |opn i=>exact⟨Td k.1 h.n,UB k.2.1 (h.fD i k.1),by rw[h.room i n k.1 k.2.1];exact k.2.2⟩
theorem aq.mono{E E':Env}(h:E.Le E'){a:AV}{v:SO}(d:aq E a v):aq E' a v:=by
 induction d with
 |val x=>exact .val x
 |agg hs _ ih=>exact .agg hs ih
 |aJ hs _ ih=>exact .aJ hs ih
 |sl b o cap f hc he h1 _ ih=>exact .sl b o cap f hc (he.mono h) (λi hi=>h.I _ _ _ (h1 i hi)) ih
 |nil he=>exact .nil (he.mono h)
 |bK hi dT=>rw[<- h.blk _ hi];exact .bK (Td hi h.n) ⟨dT.1,dT.2.1,λe=>by rw[h.room _ 0 hi (Yd _)];exact dT.2.2 e⟩
 |rp b o f h1 _ ih=>exact .rp b o f (λi hi=>h.I _ _ _ (h1 i hi)) ih
 |op hi=>rw[<- h.blk _ hi];exact .op (Td hi h.n)
 |fn dD fY _ _ mT lz=>exact .fn dD fY mT lz
 |c9 _ ih=>exact .c9 ih
 |mp hi=>rw[<- h.blk _ hi];exact .mp (Td hi h.n)
def AV.leaf:AV->Bool
 |.agg _|.aJ _=>false
 |.val x=>x.one
 |_=>true
inductive aa where
 |cells (l:List AV) (elem:TypeId)
 |part (p:Nat) (l:List AV) (elem:TypeId)
 |own (sz:Nat) (l:List AV) (elem:TypeId)
 |tail (n sz:Nat) (elem:TypeId)
 |obj (x:Obj)
 |iter (m since:Nat) (seen:Array Nat) (tI:Nat)
 |loop (r:Nat) (st:aa_) (pend:Option T7) (fn:TN) (T:List (Nat×AV)) (nt:Nat) (ps:Array Tmp) (bM body:T7) (df:Nat)
 |gone
 |main
def look:List (Nat×AV)->Nat->Option AV
 |[],_=>none
 |(k,a)::l,t=>if k=t then some a else look l t
def cj (E:Env)(T:List (Nat×AV))(tmps:Array SO):Prop:=∀t a,look T t=some a->t<tmps.size/\aq E a (tmps.getD t undef)
theorem cj.mono{E E':Env}(h:E.Le E'){T:List (Nat×AV)}{tmps:Array SO}(k:cj E T tmps):cj E' T tmps:=λt a e=>⟨(k t a e).1,(k t a e).2.mono h⟩
theorem cj.put{E:Env}{T:List (Nat×AV)}{tmps:Array SO}(k:cj E T tmps){d:Nat}(hd:d<tmps.size){a:AV}{v:SO}(hv:aq E a v):cj E ((d,a)::T) (tmps.setIfInBounds d v):=by
 intro t x e;simp only[look]at e;by_cases h:d=t
 ·subst h;rw[if_pos rfl]at e;cases e;exact⟨by simpa using hd,by simpa[SI,S9 hd]using hv⟩
 ·rw[if_neg h]at e;have:=k t x e;exact⟨by simpa using this.1,by simpa[SI,SR h]using this.2⟩
def cN (E:Env)(l:List AV)(cs:Array SO):Prop:=cs.size=l.length/\∀(i:Nat) a,l[i]?=some a->aq E a (cs.getD i undef)
theorem cN.mono{E E':Env}(h:E.Le E'){l:List AV}{cs:Array SO}(d:cN E l cs):cN E' l cs:=⟨d.1,λi a e=>(d.2 i a e).mono h⟩
def j5 (E:Env)(l:List AV)(cs:Array SO):Prop:=l.length<=cs.size/\∀(i:Nat) a,l[i]?=some a->aq E a (cs.getD i undef)
theorem j5.mono{E E':Env}(h:E.Le E'){l:List AV}{cs:Array SO}(d:j5 E l cs):j5 E' l cs:=⟨d.1,λi a e=>(d.2 i a e).mono h⟩
theorem cN.p{E:Env}{l:List AV}{cs:Array SO}(d:cN E l cs):j5 E l cs:=⟨WI d.1.symm,d.2⟩
def bN (E:Env)(k:Nat):aa->Option Nat
 |.tail n _ _=>if(E.room k n).2=n then none else(E.room k n).1.map (·.block)
 |.gone|.main=>none
 |_=>some (E.blk k)
def fQ (E:Env)(V:View)(k:Nat):aa->Prop
 |.cells l elem=>(∃cs,V.own (E.blk k)=some (.cells cs elem (0,0))/\cN E l cs)/\∀o,V.ab (E.blk k) o=none
 |.part p l elem=>(∃cs,V.own (E.blk k)=some (.cells cs elem (0,0))/\j5 E l cs/\∀o,o<p->V.ab (E.blk k) o=cs[o]?)/\∀o,p<=o->V.ab (E.blk k) o=none
 |.own sz l elem=>(∃cs,V.own (E.blk k)=some (.cells cs elem (0,0))/\j5 E l cs/\cs.size=(E.room k 0).2* sz)/\∀o,V.ab (E.blk k) o=none
 |.tail n sz elem=>E.fD k=n/\((E.room k n).2=n\/∃b cap cs,E.room k n=(some ⟨b,0,none⟩,cap)/\V.own b=some (.cells cs elem (0,0))/\cs.size=cap* sz/\n<cap/\∀o,n* sz<=o->V.ab b o=none)
 |.obj x=>V.own (E.blk k)=some x/\x.uL=false/\x.isChan=false/\∀o,V.ab (E.blk k) o=none
 |.iter m since seen tI=>m<E.n/\V.own (E.blk k)=some (.mapIter (some (E.blk m)) since seen tI)/\∀o,V.ab (E.blk k) o=none
 |.loop r st pend fn T nt ps bM body df=>(∃tmps,V.own (E.blk k)=some (.loop {state:=st,pending:=pend,fn,tmps,params:=ps,assign:=bM,body,defers:=E.blk df})/\tmps.size=nt/\cj E T tmps)/\df<E.n/\(∀o,V.ab (E.blk k) o=none)/\E.blk k=r
 |.gone=>True
 |.main=>E.main=true
structure Conc (E:Env)(V:View)(H:List aa):Prop where
 I:E.I=V.ab
 n:E.n=H.length
 obj:∀k x,H[k]?=some x->fQ E V k x
 inj:∀i j x y b,H[i]?=some x->H[j]?=some y->bN E i x=some b->bN E j y=some b->i=j
 group:∀g,V.role.group=some g->V.own g≠none/\(∀o,V.ab g o=none)/\∀(k:Nat) x,H[k]?=some x->bN E k x≠some g
 chan:∀c,V.role.chan=some c->V.own c≠none/\(∀o,V.ab c o=none)/\∀(k:Nat) x,H[k]?=some x->bN E k x≠some c
 top:E.main=true->V.role=.plain/\V.deaf=0
 fr:∀b y,E.fr b=some y->V.own b=some y/\(∀o,V.ab b o=none)/\∀(k:Nat) x,H[k]?=some x->bN E k x≠some b
structure AS where
 T:List (Nat×AV)
 H:List aa
def AS.Le (s s':AS):Prop:=(∀t a,look s'.T t=some a->look s.T t=some a)/\s'.H=s.H
def AV.of:SO->AV
 |.agg cs=> .agg (cs.toList.map λ|.slice none 0 0=> .sl 0 [] .exact|v=> .val v)
 |.slice none 0 0=> .sl 0 [] .exact
 |v=> .val v
def AV.pB:SO->AV
 |.slice none 0 0=> .sl 0 [] .exact
 |v=> .val v
theorem Iy(E:Env)(v:SO):aq E (AV.pB v) v:=by
 unfold AV.pB;split
 ·exact .nil rfl
 ·exact .val _
theorem sF(E:Env)(v:SO):aq E (AV.of v) v:=by
 unfold AV.of;split
 ·rename_i cs;refine .agg (by simp) λi a h=> ?_;rw[Tj]at h;obtain⟨x,hx,rfl⟩:=Tp.1 h;have:cs[i]?=some x:=by simpa using hx
  rw[SI,this];exact Iy E x
 ·exact .nil rfl
 ·exact .val _
def AS.ev (s:AS):Tl->Option AV
 |.tmp t=>look s.T t
 |.const v=>some (AV.of v)
 |.func f=>some (.fn (.func f) [] [])
 |.global _=>none
theorem aq.ev{E:Env}{s:AS}{a:Act}(k:cj E s.T a.tmps){x:Tl}{av:AV}(h:s.ev x=some av):aq E av (a.eval x):=by
 cases x with
 |tmp t=>exact(k t av h).2
 |const v=>cases h;exact sF E v
 |func f=>cases h;exact .fn rfl rfl (by simp) (by simp)
 |global g=>cases h
theorem fQ.A'{E:Env}{V:View}{k:Nat}{x:aa}(h:fQ E V k x){b:Nat}(hb:bN E k x=some b):∃y,V.own b=some y:=by
 cases x with
 |cells l el=>cases hb;obtain⟨⟨cs,h1,_⟩,_⟩:=h;exact⟨_,h1⟩
 |part p l el=>cases hb;obtain⟨⟨cs,h1,_⟩,_⟩:=h;exact⟨_,h1⟩
 |own p l el=>cases hb;obtain⟨⟨cs,h1,_⟩,_⟩:=h;exact⟨_,h1⟩
 |tail n sz el=>
  obtain⟨hv,h|⟨b',cap,cs,h1,h2,h3,h4,h5⟩⟩:=h
  ·simp only[bN,h,if_true]at hb;cases hb
  ·simp only[bN,h1]at hb;rw[if_neg (by omega)]at hb;cases hb;exact⟨_,h2⟩
 |obj x=>cases hb;exact⟨_,h.1⟩
 |iter m since seen tI=>cases hb;exact⟨_,h.2.1⟩
 |loop=>cases hb;obtain⟨⟨tmps,h1,_⟩,_⟩:=h;exact⟨_,h1⟩
 |gone=>cases hb
 |main=>cases hb
theorem Oy{E E':Env}(hl:E.Le E'){k:Nat}(hk:k<E.n){x:aa}{V:View}(h:fQ E V k x):bN E' k x=bN E k x:=by
 cases x with
 |tail n sz el=>simp only[bN];rw[hl.room k n hk (WI h.1.symm)]
 |gone=>rfl
 |main=>rfl
 |_=>simp only[bN,hl.blk k hk]
theorem fQ.mono{E E':Env}{V V':View}{k:Nat}{x:aa}(h:fQ E V k x)(hl:E.Le E')(hk:k<E.n)(zO:E'.fD k=E.fD k)
  (ho:∀b y,bN E k x=some b->V.own b=some y->V'.own b=some y) (hi:∀b,bN E k x=some b->∀o,V'.ab b o=V.ab b o):fQ E' V' k x:=by
 cases x with
 |cells l el=>
  obtain⟨⟨cs,h1,h2⟩,h3⟩:=h;simp only[fQ,hl.blk k hk];exact⟨⟨cs,ho _ _ rfl h1,h2.mono hl⟩,λo=>(hi _ rfl o).trans (h3 o)⟩
 |part p l el=>
  obtain⟨⟨cs,h1,h2,h4⟩,h3⟩:=h;simp only[fQ,hl.blk k hk];exact⟨⟨cs,ho _ _ rfl h1,h2.mono hl,λo hp=>(hi _ rfl o).trans (h4 o hp)⟩,λo hp=>(hi _ rfl o).trans (h3 o hp)⟩
 |own sz l el=>
  obtain⟨⟨cs,h1,h2,h4⟩,h3⟩:=h;simp only[fQ,hl.blk k hk,hl.room k 0 hk (Yd _)];exact⟨⟨cs,ho _ _ rfl h1,h2.mono hl,h4⟩,λo=>(hi _ rfl o).trans (h3 o)⟩
 |tail n sz el=>
  obtain⟨hv,h⟩:=h;simp only[fQ,zO,hl.room k n hk (WI hv.symm)];refine⟨hv,?_⟩;rcases h with h|⟨b',cap,cs,h1,h2,h3,h4,h5⟩
  ·exact .inl h
  ·have hb:bN E k (.tail n sz el)=some b':=(by simp only[bN,h1];rw[if_neg (by omega)];rfl);exact .inr ⟨b',cap,cs,h1,ho _ _ hb h2,h3,h4,λo hm=>(hi _ hb o).trans (h5 o hm)⟩
 |obj x=>
  obtain⟨h1,h2,h4,h3⟩:=h;simp only[fQ,hl.blk k hk];exact⟨ho _ _ rfl h1,h2,h4,λo=>(hi _ rfl o).trans (h3 o)⟩
 |iter m since seen tI=>
  obtain⟨h0,h1,h2⟩:=h;simp only[fQ,hl.blk k hk,hl.blk m h0];exact⟨Td h0 hl.n,ho _ _ rfl h1,λo=>(hi _ rfl o).trans (h2 o)⟩
 |loop r st pend fn T nt ps bM body df=>
  obtain⟨⟨tmps,h1,h2,h3⟩,h4,h5,h6⟩:=h;simp only[fQ,hl.blk k hk,hl.blk df h4];exact⟨⟨tmps,ho _ _ rfl h1,h2,h3.mono hl⟩,Td h4 hl.n,λo=>(hi _ rfl o).trans (h5 o),h6⟩
 |gone=>trivial
 |main=>exact hl.main.trans h
theorem Conc.iW{E E':Env}{V V':View}{H H':List aa}(hc:Conc E V H)(k:Nat)(x':aa)(hle:E.Le E')(hI:E'.I=V'.ab)(hn:E'.n=H'.length)
  (hH:∀(j:Nat) y,H'[j]?=some y->(j=k/\y=x')\/(j≠k/\H[j]?=some y)) (hr:V'.role=V.role)
  (zO:∀j,j≠k->j<E.n->E'.fD j=E.fD j)
  (ho:∀b y,(∀x,H[k]?=some x->bN E k x≠some b)->V.own b=some y->V'.own b=some y/\∀o,V'.ab b o=V.ab b o)
  (hx:fQ E' V' k x') (hb:∀b,bN E' k x'=some b->(∃x,H[k]?=some x/\bN E k x=some b)\/V.own b=none) (bz:V'.deaf=V.deaf:=by rfl):Conc E' V' H':=by
 have hlt:∀(j:Nat) y,H[j]?=some y->j<E.n:=λj y h=>by rw[hc.n];exact(SN.1 h).1
 have bX:∀(j:Nat) y b,H[j]?=some y->bN E' j y=some b->bN E j y=some b:=λj y b h e=>by rw[<- Oy hle (hlt j y h) (hc.obj j y h)];exact e
 have RG:∀(j:Nat) y b,j≠k->H[j]?=some y->bN E j y=some b->∀x,H[k]?=some x->bN E k x≠some b:=λj y b hj h1 h2 x h3 h4=>hj (hc.inj j k y x b h1 h3 h2 h4);have hg:∀(j:Nat) y,H'[j]?=some y->∀g,V.own g≠none->(∀(i:Nat) x,H[i]?=some x->bN E i x≠some g)->bN E' j y≠some g:=λj y h g pk fq e=>by
  rcases hH j y h with⟨rfl,rfl⟩|⟨hj,h⟩
  ·rcases hb g e with⟨x,h1,h2⟩|h2
   ·exact fq _ x h1 h2
   ·exact pk h2
  ·exact fq j y h (bX j y g h e)
 have hk:∀g,V.own g≠none->(∀(i:Nat) x,H[i]?=some x->bN E i x≠some g)->V'.own g≠none/\∀o,V'.ab g o=V.ab g o:=λg pk fq=>by
  cases e:V.own g with
  |none=>exact absurd e pk
  |some y=>
   have:=ho g y (λx hx=>fq k x hx) e;exact⟨by rw[this.1];simp,this.2⟩
 refine⟨hI,hn,λj y h=> ?_,λi j y z b h1 h2 e1 e2=> ?_,λg Q0=> ?_,λc fe=> ?_,λhm=>(by rw[hr,bz];exact hc.top (by rw[<- hle.main];exact hm)),λb y jd=> ?_⟩
 ·rcases hH j y h with⟨rfl,rfl⟩|⟨hj,h⟩
  ·exact hx
  ·have lO:=hc.obj j y h;refine lO.mono hle (hlt j y h) (zO j hj (hlt j y h)) (λb z kE hz=> ?_) (λb kE o=> ?_)
   ·exact(ho b z (RG j y b hj h kE) hz).1
   ·obtain⟨z,hz⟩:=lO.A' kE;exact(ho b z (RG j y b hj h kE) hz).2 o
 ·have new:∀(j:Nat) y,j≠k->H[j]?=some y->bN E' j y=some b->bN E' k x'≠some b:=λj y hj h e e'=>by
   have e:=bX j y b h e;rcases hb b e' with⟨x,Cu,hx2⟩|h1
   ·exact hj (hc.inj j k y x b h Cu e hx2)
   ·obtain⟨q,hq⟩:=(hc.obj j y h).A' e;rw[h1]at hq;cases hq
  rcases hH i y h1 with⟨rfl,rfl⟩|⟨hi,h1⟩<;>rcases hH j z h2 with⟨rfl,rfl⟩|⟨hj,h2⟩
  ·rfl
  ·exact absurd e1 (new j z hj h2 e2)
  ·exact absurd e2 (new i y hi h1 e1)
  ·exact hc.inj i j y z b h1 h2 (bX i y b h1 e1) (bX j z b h2 e2)
 ·rw[hr]at Q0;obtain⟨h0,h1,h2⟩:=hc.group g Q0;exact⟨(hk g h0 h2).1,λo=>((hk g h0 h2).2 o).trans (h1 o),λj y h=>hg j y h g h0 h2⟩
 ·rw[hr]at fe;obtain⟨h0,h1,h2⟩:=hc.chan c fe;exact⟨(hk c h0 h2).1,λo=>((hk c h0 h2).2 o).trans (h1 o),λj y h=>hg j y h c h0 h2⟩
 ·rw[hle.fr]at jd;obtain⟨h0,h1,h2⟩:=hc.fr b y jd;have EC:V.own b≠none:=by rw[h0];simp
  exact⟨(ho b y (λx hx=>h2 k x hx) h0).1,λo=>((hk b EC h2).2 o).trans (h1 o),λj z h=>hg j z h b EC h2⟩
theorem lW{α:Type}{H:List α}{k:Nat}{x':α}:∀(j:Nat) y,(H.set k x')[j]?=some y->(j=k/\y=x')\/(j≠k/\H[j]?=some y):=λj y h=>by
 by_cases hj:j=k
 ·subst hj;rw[List.getElem?_set_self']at h;cases e:H[j]?with
  |none=>rw[e]at h;cases h
  |some z=>rw[e]at h;exact .inl ⟨rfl,by simpa using h.symm⟩
 ·rw[T5 (Ne.symm hj)]at h;exact .inr ⟨hj,h⟩
theorem CL{α:Type}{H:List α}{x':α}:∀(j:Nat) y,(H++[x'])[j]?=some y->(j=H.length/\y=x')\/(j≠H.length/\H[j]?=some y):=λj y h=>by
 by_cases hk:j<H.length
 ·rw[SW hk]at h;exact .inr ⟨by omega,h⟩
 ·rw[Tg (by omega)]at h;have aE:j-H.length=0:=by
   have:=(SN.1 h).1;simpa using this
  rw[aE]at h;exact .inl ⟨by omega,by simpa using h.symm⟩
theorem Conc.jk{E:Env}{V:View}{H:List aa}(hc:Conc E V H){k:Nat}{x:aa}(hk:H[k]?=some x){b:Nat}(hb:bN E k x=some b):V.role.group≠some b/\V.role.chan≠some b:=
 ⟨λe=>(hc.group b e).2.2 k x hk hb,λe=>(hc.chan b e).2.2 k x hk hb⟩
theorem Conc.Su{E:Env}{V:View}{H:List aa}(hc:Conc E V H){b o:Nat}{v:SO}(h:E.I b o=some v):V.role.group≠some b/\V.role.chan≠some b:=
 ⟨λe=>(by have:=(hc.group b e).2.1 o;rw[<- hc.I,h]at this;cases this),λe=>(by have:=(hc.chan b e).2.1 o;rw[<- hc.I,h]at this;cases this)⟩
open Go.Conc
def AS.put (s:AS)(dst:Option Nat)(av:AV):AS:=match dst with
 |some d=>⟨(d,av)::s.T,s.H⟩
 |none=>s
theorem cj.gZ{E:Env}{s:AS}{a:Act}(k:cj E s.T a.tmps){dst:Option Nat}(hd:∀d,dst=some d->d<a.tmps.size){av:AV}{v:SO}(hv:aq E av v):cj E (s.put dst av).T (a.put dst v).tmps:=by
 cases dst with
 |none=>exact k
 |some d=>exact cj.put k (hd d rfl) hv
theorem ft(s:AS)(dst:Option Nat)(av:AV):(s.put dst av).H=s.H:=by cases dst<;>rfl
theorem dP(a:Act)(dst:Option Nat)(v:SO):(a.put dst v).tmps.size=a.tmps.size:=by cases dst<;>simp[Ws]
theorem put_defers(a:Act)(dst:Option Nat)(v:SO):(a.put dst v).defers=a.defers:=by cases dst<;>rfl
structure Kept (E E':Env)(V V':View)(a a':Act):Prop where
 le:E.Le E'
 size:a'.tmps.size=a.tmps.size
 defers:a'.defers=a.defers
 role:V'.role=V.role
 deaf:V'.deaf=V.deaf
def Step (lv:Bool)(P:SK)(r:Option Nat)(o:Tx)(s:AS)(next:AS->Prop)(bad:AV->AS->Prop):Prop:=
 ∀(E:Env)(V:View)(a:Act)(N:Act->View->Prop)(Q:Ex->Act->View->Prop),Conc E V s.H->cj E s.T a.tmps->(∀d,o.dst=some d->d<a.tmps.size)->(r=none\/mo o.op=false)->
  (∀E' V' a' s',Kept E E' V V' a a'->Conc E' V' s'.H->cj E' s'.T a'.tmps->next s'->N a' V')->
  (∀E' V' s' pv v,Kept E E' V V' a a->Conc E' V' s'.H->cj E' s'.T a.tmps->aq E' pv v->bad pv s'->Q (.panic [{v,recovered:=false}]) a V')->vg lv P r o a V N Q
def dh (lv:Bool)(P:SK)(r:Option Nat)(o:Tx)(s:AS)(av:AV):Prop:=
 ∀(E:Env)(V:View)(a:Act)(N:Act->View->Prop)(Q:Ex->Act->View->Prop),Conc E V s.H->cj E s.T a.tmps->(r=none\/mo o.op=false)->
  (∀E' V' v,E.Le E'->V'.role=V.role->V'.deaf=V.deaf->Conc E' V' s.H->aq E' av v->N (a.put o.dst v) V')->vg lv P r o a V N Q
section
variable {lv:Bool}{P:SK}{r:Option Nat}{o:Tx}{s:AS}{next:AS->Prop}{bad:AV->AS->Prop}
theorem Step.mono{next':AS->Prop}{On:AV->AS->Prop}(h:Step lv P r o s next bad)(hn:∀s,next s->next' s)(hb:∀c s,bad c s->On c s):Step lv P r o s next' On:=
 λE V a N Q h1 h2 h3 h4 h5 h6=>h E V a N Q h1 h2 h3 h4 (λE' V' a' s' x1 x2 x3 x4=>h5 E' V' a' s' x1 x2 x3 (hn _ x4)) (λE' V' s' pv v x1 x2 x3 x4 x5=>h6 E' V' s' pv v x1 x2 x3 x4 (hb _ _ x5))
theorem iT{av:AV}(h:∀(E:Env)(V:View)(a:Act),Conc E V s.H->cj E s.T a.tmps->aR P V (execOp a.eval o) (λnx V'=>V'=V/\∃v,nx=.value v/\aq E av v) (λ_ _=>False)):dh lv P r o s av:=by
 intro E V a N Q hc ht bz h1;refine⟨bz,(h E V a hc ht).mono (λnx V' hx=> ?_) (λ_ _ hx=>hx.elim)⟩;obtain⟨rfl,v,rfl,hv⟩:=hx;exact h1 E V' v (Env.Le.refl E) rfl rfl hc hv
theorem rU{av:AV}(h:∀(E:Env)(V:View)(a:Act),Conc E V s.H->cj E s.T a.tmps->∃v,execOp a.eval o=.pure (.value v)/\aq E av v):dh lv P r o s av:=
 iT (λE V a hc ht=>by
  obtain⟨v,h1,h2⟩:=h E V a hc ht;rw[h1];exact cM ⟨rfl,v,rfl,h2⟩)
theorem dh.step{av:AV}(h:dh lv P r o s av)(hn:next (s.put o.dst av)):Step lv P r o s next bad:=by
 intro E V a N Q hc ht hd bz h1 _;refine h E V a N Q hc ht bz λE' V' v hle bY eQ ba hv=> ?_;exact h1 E' V' (a.put o.dst v) (s.put o.dst av) ⟨hle,dP _ _ _,put_defers _ _ _,bY,eQ⟩ (by rw[ft];exact ba) ((ht.mono hle).gZ hd hv) hn
theorem abD{x:Tl}{av:AV}(ho:o.op=.move x\/o.op=.assign x)(hx:s.ev x=some av):dh lv P r o s (av):=
 rU (λE V a hc ht=>⟨a.eval x,by unfold execOp;rcases ho with ho|ho<;>rw[ho]<;>rfl,aq.ev ht hx⟩)
theorem aoJ{c x y:Tl}{b:Bool}{av aw:AV}(ho:o.op=.pick c x y)(hc:s.ev c=some (.val (.bool b)))(hx:s.ev x=some av)(hy:s.ev y=some aw):dh lv P r o s ((if b then av else aw)):=
 rU (λE V a jc ht=>by
  have h1:=aq.ev ht hc;generalize hv:a.eval c=v at h1;cases h1;refine⟨if b then a.eval x else a.eval y,by unfold execOp;rw[ho];simp only[hv];cases b<;>rfl,?_⟩;cases b
  ·exact aq.ev ht hy
  ·exact aq.ev ht hx)
def l_ (op:VZ)(k:TU)(x y:Int):Option SO:=match op with
 |.add=>some (.int k (k.wrap (x+y)))
 |.sub=>some (.int k (k.wrap (x-y)))
 |.mul=>some (.int k (k.wrap (x* y)))
 |.eql=>some (.bool (x==y))
 |.neq=>some (.bool (x !=y))
 |.lss=>some (.bool (x<y))
 |.leq=>some (.bool (x<=y))
 |.gtr=>some (.bool (x>y))
 |.geq=>some (.bool (x>=y))
 |.and=>some (.int k (k.wrap (Ud k.bits x&&&Ud k.bits y).toNat))
 |.or=>some (.int k (k.wrap (Ud k.bits x|||Ud k.bits y).toNat))
 |.xor=>some (.int k (k.wrap (Ud k.bits x^^^Ud k.bits y).toNat))
 |.quo=>if y=0 then none else some (.int k (k.wrap (x.tdiv y)))
 |.rem=>if y=0 then none else some (.int k (x.tmod y))
 |_=>none
def An (op:VZ)(k:TU)(x y:Int):Option SO:=if y<0 then none else match op with
 |.shl=>some (.int k (k.wrap (x* 2^(min y.toNat k.bits))))
 |.shr=>some (.int k (x.fdiv (2^(min y.toNat k.bits))))
 |_=>none
def mU:VZ->Bool
 |.shl|.shr=>true
 |_=>false
theorem afv{op:VZ}{k:TU}{x y:Int}{v:SO}{t:TypeId}(h:l_ op k x y=some v):binOp op t (.int k x) (.int k y)=.pure v:=by
 cases op<;>simp only[l_,Tm,reduceCtorEq]at h<;>try(subst h;simp[binOp,atH,Op.intCmp,Op.intBits];rfl)
 ·split at h
  ·cases h
  ·rename_i hy;simp only[Tm]at h;subst h;simp[binOp,ar_,hy];rfl
 ·split at h
  ·cases h
  ·rename_i hy;simp only[Tm]at h;subst h;simp[binOp,ar_,hy];rfl
theorem apS{op:VZ}{k j:TU}{x y:Int}{v:SO}{t:TypeId}(h:An op k x y=some v):binOp op t (.int k x) (.int j y)=.pure v:=by
 unfold An at h;split at h
 ·cases h
 ·rename_i hy;cases op<;>simp only[Tm,reduceCtorEq]at h
  ·subst h;simp[binOp,atv,hy];rfl
  ·subst h;simp[binOp,atv,hy];rfl
theorem Pn{op:VZ}{t:TypeId}{x y:Tl}{j k:TU}{a b:Int}:eqGuard op t x y (.int j a) (.int k b)=.pure ():=by
 unfold eqGuard;cases op<;>rfl
theorem aoj{op:VZ}{xt yt:TypeId}{x y:Tl}{k:TU}{m n:Int}{v:SO}(ho:o.op=.binOp op xt x y yt)(hx:s.ev x=some (.val (.int k m)))(hy:s.ev y=some (.val (.int k n)))(hv:l_ op k m n=some v):dh lv P r o s ((.val v)):=
 rU (λE V a jc ht=>by
  have h1:=aq.ev ht hx;have h2:=aq.ev ht hy;generalize ly:a.eval x=v1 at h1;generalize tg:a.eval y=v2 at h2;cases h1;cases h2;refine⟨v,?_,.val v⟩;unfold execOp;rw[ho];simp only[ly,tg,Pn,afv hv];rfl)
theorem aoK{op:VZ}{xt yt:TypeId}{x y:Tl}{k j:TU}{m n:Int}{v:SO}(ho:o.op=.binOp op xt x y yt)(hx:s.ev x=some (.val (.int k m)))(hy:s.ev y=some (.val (.int j n)))(hv:An op k m n=some v):dh lv P r o s ((.val v)):=
 rU (λE V a jc ht=>by
  have h1:=aq.ev ht hx;have h2:=aq.ev ht hy;generalize ly:a.eval x=v1 at h1;generalize tg:a.eval y=v2 at h2;cases h1;cases h2;refine⟨v,?_,.val v⟩;unfold execOp;rw[ho];simp only[ly,tg,Pn,apS hv];rfl)
theorem aoI{t:TypeId}{x:Tl}{b:Bool}(ho:o.op=.unOp .not t x)(hx:s.ev x=some (.val (.bool b))):dh lv P r o s ((.val (.bool !b))):=
 rU (λE V a jc ht=>by
  have h1:=aq.ev ht hx;generalize ly:a.eval x=v1 at h1;cases h1;exact⟨_,by unfold execOp;rw[ho];simp only[ly];rfl,.val _⟩)
theorem aoF{t:TypeId}{x:Tl}{k:TU}{n:Int}(ho:o.op=.unOp .neg t x)(hx:s.ev x=some (.val (.int k n))):dh lv P r o s (.val (.int k (k.wrap (0-n)))):=
 rU (λE V a jc ht=>by
  have h1:=aq.ev ht hx;generalize ly:a.eval x=v1 at h1;cases h1;exact⟨_,by unfold execOp;rw[ho];simp only[ly];rfl,.val _⟩)
theorem aop{x:Tl}{i:Nat}{l:List AV}{av:AV}(ho:o.op=.extract x i)(hx:s.ev x=some (.aJ l))(hi:l[i]?=some av):dh lv P r o s (av):=
 rU (λE V a jc ht=>by
  have h1:=aq.ev ht hx;generalize ly:a.eval x=v1 at h1;cases h1 with
  |aJ hs h=>
   rename_i cs;have hlt:i<cs.size:=(by rw[hs];exact(SN.1 hi).1);refine⟨cs[i],?_,?_⟩
   ·unfold execOp;rw[ho];simp only[ly,Instr.extract,SJ hlt];rfl
   ·have:=h i av hi;rwa [SI,SJ hlt]at this)
end
theorem add_plain(b o n:Nat):(⟨b,o,none⟩:U4).add n=⟨b,o+n,none⟩:=by
 unfold atB;split
 ·rename_i h;subst h;rfl
 ·rfl
def AS.at (s:AS):AV->Option (List AV)
 |.rp l=>some l
 |.op id off=>match s.H[id]?with
  |some (.cells l _)=>some (l.drop off)
  |some (.part _ l _)=>some (l.drop off)
  |some (.own _ l _)=>some (l.drop off)
  |_=>none
 |_=>none
def AV.shift (n:Nat):AV->Option AV
 |.rp l=>if n<=l.length then some (.rp (l.drop n))else none
 |.op id off=>some (.op id (off+n))
 |_=>none
theorem Conc.at{E:Env}{V:View}{s:AS}(hc:Conc E V s.H){p:AV}{v:SO}(hd:aq E p v){l:List AV}(h:s.at p=some l):
  ∃(b o:Nat)(f:Nat->SO),v=.pointer (some ⟨b,o,none⟩)/\(∀i,i<l.length->V.get b (o+i)=some (f i))/\(0<l.length->V.role.group≠some b)/\∀(i:Nat) x,l[i]?=some x->aq E x (f i):=by
 cases hd with
 |rp b o f h1 h2=>
  cases h;exact⟨b,o,f,rfl,λi hi=>by unfold View.get;rw[<- hc.I,h1 i hi],λhp=>(hc.Su (h1 0 hp)).1,h2⟩
 |op hi=>
  rename_i id off;simp only[AS.at]at h;cases hk:s.H[id]?with
  |none=>rw[hk]at h;cases h
  |some ob=>
   rw[hk]at h;cases ob with
   |cells l' el=>
    cases h;obtain⟨⟨cs,ho,hs,bp⟩,lM⟩:=hc.obj id _ hk;refine⟨E.blk id,off,λi=>cs.getD (off+i) undef,rfl,λi hi=> ?_,λ_=>(hc.jk hk rfl).1,λi x hx=> ?_⟩
    ·unfold View.get;rw[lM,ho];simp only[Uk]at hi;have hlt:off+i<cs.size:=(by omega);simp only[SI,SJ hlt,S8]
    ·rw[Ul]at hx;exact bp _ _ hx
   |part p l' el=>
    cases h;obtain⟨⟨cs,ho,⟨hs,bp⟩,nK⟩,lM⟩:=hc.obj id _ hk;refine⟨E.blk id,off,λi=>cs.getD (off+i) undef,rfl,λi hi=> ?_,λ_=>(hc.jk hk rfl).1,λi x hx=> ?_⟩
    ·simp only[Uk]at hi;have hlt:off+i<cs.size:=(by omega);unfold View.get;by_cases hp:off+i<p
     ·rw[nK _ hp];simp only[SI,SJ hlt,S8]
     ·rw[lM _ (by omega),ho];simp only[SI,SJ hlt,S8]
    ·rw[Ul]at hx;exact bp _ _ hx
   |own sz l' el=>
    cases h;obtain⟨⟨cs,ho,⟨hs,bp⟩,_⟩,lM⟩:=hc.obj id _ hk;refine⟨E.blk id,off,λi=>cs.getD (off+i) undef,rfl,λi hi=> ?_,λ_=>(hc.jk hk rfl).1,λi x hx=> ?_⟩
    ·simp only[Uk]at hi;have hlt:off+i<cs.size:=(by omega);unfold View.get;rw[lM,ho];simp only[SI,SJ hlt,S8]
    ·rw[Ul]at hx;exact bp _ _ hx
   |_=>cases h
 |_=>cases h
theorem aq.shift{E:Env}{p q:AV}{v:SO}(hd:aq E p v){n:Nat}(h:p.shift n=some q):∃b o,v=.pointer (some ⟨b,o,none⟩)/\aq E q (.pointer (some ⟨b,o+n,none⟩)):=by
 cases hd with
 |rp b o f h1 h2=>
  simp only[AV.shift]at h;split at h
  ·rename_i hn;cases h;refine⟨b,o,rfl,.rp b (o+n) (λi=>f (n+i)) (λi hi=> ?_) (λi x hx=> ?_)⟩
   ·simp only[Uk]at hi;rw[XG];exact h1 _ (by omega)
   ·rw[Ul]at hx;exact h2 _ _ hx
  ·cases h
 |op hi=>cases h;exact⟨_,_,rfl,.op hi⟩
 |_=>cases h
section
variable {P:SK}{V:View}{α:Type}{K:α->View->Prop}{Kp:SO->View->Prop}
theorem ey{t:TypeId}{d:TypeDesc}{k:TypeDesc->Sem α}(h:P.underlying t=some d)(hk:aR P V (k d) K Kp):aR P V (underlying t>>=k) K Kp:=by
 unfold underlying;refine az (az (qB (cM ?_)));rw[h];exact ay hk
theorem yl{t:TypeId}{i:Wl}{k:Wl->Sem α}(h:P.info? t=some i)(hk:aR P V (k i) K Kp):aR P V (typeInfo t>>=k) K Kp:=by
 unfold typeInfo;refine az (az (qB (cM ?_)));rw[h];exact ay hk
theorem j3{t:TypeId}{i:Wl}{k:Nat->Sem α}(h:P.info? t=some i)(hk:aR P V (k i.size) K Kp):aR P V (sizeOf t>>=k) K Kp:=by
 refine az ?_;unfold sizeOf;exact yl h (ay hk)
def TypeDesc.agg:TypeDesc->Bool
 |.struct _|.array _ _=>true
 |_=>false
theorem C7{t:TypeId}{d:TypeDesc}{k:Bool->Sem α}(h:P.underlying t=some d)(hk:aR P V (k (TypeDesc.agg d)) K Kp):aR P V (isAgg t>>=k) K Kp:=by
 refine az ?_;unfold isAgg;refine ey h ?_;cases d<;>exact ay hk
theorem apJ{b o:Nat}{v:SO}{k:SO->Sem α}(hg:V.role.group≠some b)(e:V.get b o=some v)(hk:aR P V (k v) K Kp):aR P V (load ⟨b,o,none⟩>>=k) K Kp:=
 az (MT e (.inl hg) (cM hk))
theorem ab1{b o:Nat}{f:Nat->SO}{K:Array SO->View->Prop}:∀(n i:Nat)(acc:Array SO),(0<n->V.role.group≠some b)->(∀j,j<n->V.get b (o+(i+j))=some (f (i+j)))->
  K (acc++((S0 n).map λj=>f (i+j)).toArray) V->aR P V (loadCellsFrom ⟨b,o,none⟩ i n acc) K Kp
 |0,i,acc,_,_,h=>ay (by simpa using h)
 |n+1,i,acc,hg,he,h=>by
  have h0:=he 0 (by omega);unfold loadCellsFrom;rw[add_plain];refine apJ (hg (by omega)) h0 ?_;refine ab1 n (i+1) _ (λ_=>hg (by omega)) (λj hj=>by have:=he (j+1) (by omega);rwa [show i+(j+1)=i+1+j by omega]at this) ?_;have e:(acc.push (f (i+0))++((S0 n).map λj=>f (i+1+j)).toArray)=acc++((S0 (n+1)).map λj=>f (i+j)).toArray:=by
   rw[List.range_succ_eq_map];apply VC;simp[Yy,XG,Z6 1]
  rw[e];exact h
theorem Ak{b o n:Nat}{f:Nat->SO}(hg:0<n->V.role.group≠some b){K:Array SO->View->Prop}(he:∀j,j<n->V.get b (o+j)=some (f j))(h:K ((S0 n).map f).toArray V):aR P V (loadCells ⟨b,o,none⟩ n) K Kp:=
 ab1 n 0 #[] hg (λj hj=>by simpa using he j hj) (by simpa using h)
end
theorem kX{α β:Type}{x:Option α}{f:α->β}{y:β}(h:x.map f=some y):∃a,x=some a/\f a=y:=Tp.1 h
def Ty (P:SK)(t:TypeId):Option (Nat×Bool):=(P.info? t).bind λi=>(P.underlying t).map λd=>(i.size,TypeDesc.agg d)
theorem Ty.out{P:SK}{t:TypeId}{n:Nat}{g:Bool}(h:Ty P t=some (n,g)):∃i d,P.info? t=some i/\P.underlying t=some d/\i.size=n/\TypeDesc.agg d=g:=by
 unfold Ty at h;obtain⟨i,h1,h2⟩:=S_.1 h;obtain⟨d,h3,h4⟩:=kX h2;cases h4;exact⟨i,d,h1,h3,rfl,rfl⟩
theorem IA{E:Env}{l:List AV}{f:Nat->SO}{n:Nat}(hn:n<=l.length)(h:∀(i:Nat) x,l[i]?=some x->aq E x (f i)):aq E (.agg (l.take n)) (.agg ((S0 n).map f).toArray):=by
 refine .agg (by simp;omega) λi x hx=> ?_;rw[Ua]at hx;split at hx
 ·rename_i hi;have:=h i x hx;simpa[SI,hi]using this
 ·cases hx
def AV.row:AV->Option (Nat×AV)
 |.sl n l _=>some (n,.rp l)
 |.bK id off n _=>some (n,.op id off)
 |_=>none
theorem aq.row{E:Env}{a p:AV}{v:SO}{n:Nat}(hd:aq E a v)(h:a.row=some (n,p))(h0:0<n):∃b o cap,v=.slice (some ⟨b,o,none⟩) n cap/\aq E p (.pointer (some ⟨b,o,none⟩)):=by
 cases hd with
 |sl b o cap f hc he h1 h2=>cases h;exact⟨b,o,cap,rfl,.rp b o f h1 h2⟩
 |nil he=>cases h;exact absurd h0 (by simp)
 |bK hi=>cases h;exact⟨_,_,_,rfl,.op hi⟩
 |_=>cases h
def AV.len:AV->Option Nat
 |.sl n _ _=>some n
 |.bK _ _ n _=>some n
 |_=>none
theorem aq.len{E:Env}{a:AV}{v:SO}{n:Nat}(hd:aq E a v)(h:a.len=some n):∃ad cap,v=.slice ad n cap:=by
 cases hd with
 |sl b o cap f hc he h1 h2=>cases h;exact⟨_,_,rfl⟩
 |nil he=>cases h;exact⟨_,_,rfl⟩
 |bK hi=>cases h;exact⟨_,_,rfl⟩
 |_=>cases h
def eT (P:SK)(t:TypeId)(k:Nat):Option Nat:=match P.underlying t with
 |some (.struct fs)=>match fs[k]?with
  |some f=>match P.info? f.type with
   |some i=>if i.size=0 then none else some f.offset
   |none=>none
  |none=>none
 |_=>none
def nY (P:SK)(t:TypeId):Option (Option Nat×Nat):=match P.underlying t with
 |some (.array n e)=>(P.info? e).map λi=>(some n,i.size)
 |some (.slice e)=>(P.info? e).map λi=>(none,i.size)
 |_=>none
inductive yC where
 |slice|map|str|arr (n:Nat)
def lE (P:SK)(t:TypeId):Option yC:=match P.underlying t with
 |some (.slice _)=>some .slice
 |some (.map _ _)=>some .map
 |some .string=>some .str
 |some (.array n _)=>some (.arr n)
 |_=>none
def HT (P:SK)(t:TypeId)(k:Nat):Option (Nat×Nat×Bool):=match P.underlying t with
 |some (.struct fs)=>match fs[k]?with
  |some f=>(Ty P f.type).map λx=>(f.offset,x.1,x.2)
  |none=>none
 |_=>none
def HM (P:SK)(t:TypeId):Option (Nat×Nat×Bool):=match P.underlying t with
 |some (.array n e)=>(Ty P e).map λx=>(n,x.1,x.2)
 |_=>none
section
variable {lv:Bool}{P:SK}{r:Option Nat}{o:Tx}{s:AS}{next:AS->Prop}{bad:AV->AS->Prop}
theorem aoy{t:TypeId}{x:Tl}{p:AV}{l:List AV}{n:Nat}(ho:o.op=.load t x)(ht:Ty P t=some (n,true))(hx:s.ev x=some p)(hl:s.at p=some l)(hlen:n<=l.length):dh lv P r o s ((.agg (l.take n))):=
 iT (λE V a hc aF=>by
  obtain⟨i,d,h1,h2,rfl,h4⟩:=Ty.out ht;obtain⟨b,off,f,hv,hg,ko,hd⟩:=hc.at (aq.ev aF hx) hl;unfold execOp;rw[ho];simp only[hv];refine az ?_;unfold XD Va;refine az (ay ?_);unfold loadVar;refine C7 h2 ?_;rw[h4];simp only[if_true];refine j3 h1 ?_;refine az (Ak (f:=f) (λh=>ko (by omega)) (λj hj=>hg j (by omega)) ?_);exact ay (ay ⟨rfl,_,rfl,IA hlen hd⟩))
theorem aoz{t:TypeId}{x:Tl}{p:AV}{l:List AV}{n:Nat}{av:AV}(ho:o.op=.load t x)(ht:Ty P t=some (n,false))(hx:s.ev x=some p)(hl:s.at p=some l)(h0:l[0]?=some av):dh lv P r o s (av):=
 iT (λE V a hc aF=>by
  obtain⟨i,d,h1,h2,rfl,h4⟩:=Ty.out ht;obtain⟨b,off,f,hv,hg,ko,hd⟩:=hc.at (aq.ev aF hx) hl;unfold execOp;rw[ho];simp only[hv];refine az ?_;unfold XD Va;refine az (ay ?_);unfold loadVar;refine C7 h2 ?_;rw[h4];simp only[TM,if_false];have hlen:0<l.length:=(SN.1 h0).1;have oy:=hg 0 hlen;rw[UK]at oy;exact MT oy (.inl (ko hlen)) (cM (ay ⟨rfl,_,rfl,hd 0 av h0⟩)))
def AV.sure:AV->Bool
 |.rp _|.op _ _=>true
 |.fn (.func _) _ _=>true
 |.fn (.yield _) _ _=>true
 |.c9 _ _=>true
 |_=>false
theorem aoG{x:Tl}{p:AV}(ho:o.op=.nilCheck x)(hx:s.ev x=some p)(hp:p.sure=true):dh lv P r o s (p):=
 rU (λE V a hc aF=>by
  have hd:=aq.ev aF hx;refine⟨a.eval x,?_,hd⟩;unfold execOp;rw[ho];dsimp only;generalize a.eval x=v at hd⊢;cases hd with
  |rp=>rfl
  |op=>rfl
  |c9=>rfl
  |fn dD fY h1 h2=>
   rename_i f _ _ _ _;cases f with
   |func=>rfl
   |yield=>rfl
   |_=>cases hp
  |_=>cases hp)
theorem aoq{t:TypeId}{x:Tl}{k n:Nat}{p q:AV}(ho:o.op=.fieldAddr t x k)(ht:eT P t k=some n)(hx:s.ev x=some p)(hp:p.shift n=some q):dh lv P r o s (q):=
 iT (λE V a hc aF=>by
  obtain⟨b,off,hv,hq⟩:=(aq.ev aF hx).shift hp;unfold eT at ht;split at ht
  ·rename_i fs hu;split at ht
   ·rename_i f hf;split at ht
    ·rename_i i hi;split at ht
     ·cases ht
     ·rename_i hz;cases ht;unfold execOp;rw[ho];simp only[hv];refine az ?_;unfold Instr.fieldAt;refine ey hu ?_;simp only[hf];unfold Va;refine az (ay ?_);unfold fieldPlace;refine az (j3 hi ?_);rw[if_neg hz];refine ay (ay (ay ⟨rfl,_,rfl,?_⟩));rw[add_plain];exact hq
    ·cases ht
   ·cases ht
  ·cases ht)
theorem aos{t:TypeId}{x ix:Tl}{a p q:AV}{k:TU}{i:Int}{n sz:Nat}(ho:o.op=.indexAddr t x ix)(ht:nY P t=some (none,sz))(hx:s.ev x=some a)(ha:a.row=some (n,p))(hi:s.ev ix=some (.val (.int k i)))(h0:0<=i)(h1:i<n)
  (hp:p.shift (i.toNat* sz)=some q):dh lv P r o s (q):=
 iT (λE V ac hc aF=>by
  obtain⟨b,off,cap,hv,zB⟩:=(aq.ev aF hx).row ha (by omega);obtain⟨b',o',hb,hq⟩:=zB.shift hp;cases hb;have hd:=aq.ev aF hi;generalize qu:ac.eval ix=vi at hd;cases hd;unfold nY at ht;split at ht
  ·obtain⟨_,_,h⟩:=kX ht;cases h
  ·rename_i e hu;obtain⟨inf,Kj,h⟩:=kX ht;cases h;unfold execOp;rw[ho];simp only[hv,qu];refine az ?_;unfold ZM asIntOf;refine az (ay ?_);dsimp only;refine ey hu ?_;refine az (ay ?_);dsimp only;refine ey hu ?_;dsimp only;rw[if_pos ⟨h0,h1⟩];refine j3 Kj ?_;refine ay (ay ⟨rfl,_,rfl,?_⟩);rw[add_plain];exact hq
  ·cases ht)
theorem aot{t:TypeId}{x ix:Tl}{p q:AV}{k:TU}{i:Int}{n sz:Nat}(ho:o.op=.indexAddr t x ix)(ht:nY P t=some (some n,sz))(hx:s.ev x=some p)(hi:s.ev ix=some (.val (.int k i)))(h0:0<=i)(h1:i<n)
  (hp:p.shift (i.toNat* sz)=some q):dh lv P r o s (q):=
 iT (λE V ac hc aF=>by
  obtain⟨b,off,hv,hq⟩:=(aq.ev aF hx).shift hp;have hd:=aq.ev aF hi;generalize qu:ac.eval ix=vi at hd;cases hd;unfold nY at ht;split at ht
  ·rename_i m e hu;obtain⟨inf,Kj,h⟩:=kX ht;cases h;unfold execOp;rw[ho];simp only[hv,qu];refine az ?_;unfold ZM asIntOf;refine az (ay ?_);dsimp only;refine ey hu ?_;dsimp only;unfold Va;refine az (az (ay (ay ?_)));refine ey hu ?_;dsimp only;rw[if_pos ⟨h0,h1⟩];refine j3 Kj ?_;refine ay (ay ⟨rfl,_,rfl,?_⟩);rw[add_plain];exact hq
  ·obtain⟨_,_,h⟩:=kX ht;cases h
  ·cases ht)
theorem abC{c:Xq}{x:Tl}{t:TypeId}{a:AV}{n:Nat}(ho:o.op=.call c)(aY:c.callee=.builtin .len)(th:c.args[0]?=some x)(Cp:c.argTypes[0]?=some t)(ht:lE P t=some .slice)(hx:s.ev x=some a)(ha:a.len=some n):dh lv P r o s (.val (.int .i64 n)):=
 iT (λE V ac hc aF=>by
  obtain⟨ad,cap,hv⟩:=(aq.ev aF hx).len ha;unfold lE at ht;split at ht<;>cases ht;rename_i e hu;unfold execOp;rw[ho];dsimp only;unfold resolve;rw[aY];dsimp only;refine az (ay ?_);unfold invoke builtin;dsimp only;refine az ?_;unfold Ym;have e1:(c.args.map ac.eval)[0]?=some (.slice ad n cap):=by simp[th,hv]
  simp only[Cp,e1];refine ey hu ?_;exact ay (ay ⟨rfl,_,rfl,.val _⟩))
theorem aox{c:Xq}{x:Tl}{t:TypeId}{b:ByteArray}(ho:o.op=.call c)(aY:c.callee=.builtin .len)(th:c.args[0]?=some x)(Cp:c.argTypes[0]?=some t)(ht:lE P t=some .str)(hx:s.ev x=some (.val (.string b))):dh lv P r o s (.val (.int .i64 b.size)):=
 iT (λE V ac hc aF=>by
  have hd:=aq.ev aF hx;generalize hv:ac.eval x=v at hd;cases hd;unfold lE at ht;split at ht<;>cases ht;rename_i hu;unfold execOp;rw[ho];dsimp only;unfold resolve;rw[aY];dsimp only;refine az (ay ?_);unfold invoke builtin;dsimp only;refine az ?_;unfold Ym;have e1:(c.args.map ac.eval)[0]?=some (.string b):=by simp[th,hv]
  simp only[Cp,e1];refine ey hu ?_;exact ay (ay ⟨rfl,_,rfl,.val _⟩))
theorem aow{c:Xq}{x:Tl}{t:TypeId}{id:Nat}{es:Array Wm}{ck:Nat}(ho:o.op=.call c)(aY:c.callee=.builtin .len)(th:c.args[0]?=some x)(Cp:c.argTypes[0]?=some t)(ht:lE P t=some .map)(hx:s.ev x=some (.mp id))(hk:s.H[id]?=some (.obj (.map es ck))):dh lv P r o s (.val (.int .i64 es.size)):=
 iT (λE V ac hc aF=>by
  have hd:=aq.ev aF hx;generalize hv:ac.eval x=v at hd;cases hd;obtain⟨h1,h2,h3,h4⟩:=hc.obj id _ hk;unfold lE at ht;split at ht<;>cases ht;rename_i hu;unfold execOp;rw[ho];dsimp only;unfold resolve;rw[aY];dsimp only;refine az (ay ?_);unfold invoke builtin;dsimp only;refine az ?_;unfold Ym;have e1:(c.args.map ac.eval)[0]?=some (.map (some (E.blk id))):=by simp[th,hv]
  simp only[Cp,e1];refine ey hu ?_;refine az (nV h1 h2 h3 (hc.jk hk rfl).2 (cM ?_));exact ay (ay ⟨rfl,_,rfl,.val _⟩))
theorem ab3{t:TypeId}{n off:Nat}{g:Bool}{E:Env}{V:View}{l:List AV}{cs:Array SO}{K:SO->View->Prop}{Kp:SO->View->Prop}(ht:Ty P t=some (n,g))(hd:cN E l cs)(hl:off+n<=l.length)(hn:g=false->0<n)
  (h:∀v,(g=true->aq E (.agg ((l.drop off).take n)) v)->(g=false->∀a,l[off]?=some a->aq E a v)->K v V):aR P V (part t cs off) K Kp:=by
 obtain⟨i,d,h1,h2,rfl,h4⟩:=Ty.out ht;unfold part;refine C7 h2 ?_;rw[h4];cases g with
 |true=>
  simp only[if_true];refine j3 h1 (ay (h _ (λ_=> .agg (by have:=hd.1;simp;omega) λj a e=> ?_) (by simp)));rw[Ua]at e;split at e
  ·rename_i hj;rw[Ul]at e;have:=hd.2 _ _ e;have hlt:off+j<cs.size:=(by rw[hd.1];omega);have ake:j<(cs.extract off (off+i.size)).size:=(by have:=hd.1;simp;omega);rw[SI,SJ ake];rw[SI,SJ hlt]at this;simpa using this
  ·cases e
 |false=>
  simp only[TM,if_false];have hlt:off<cs.size:=by have:=hn rfl;rw[hd.1];omega
  rw[SJ hlt];refine ay (h _ (by simp) λ_ a e=> ?_);have:=hd.2 _ _ e;rwa [SI,SJ hlt]at this
def AV.cut (l:List AV)(off n:Nat)(g:Bool):Option AV:=if off+n<=l.length/\(g=false->0<n)then(if g then some (.agg ((l.drop off).take n))else l[off]?)else none
theorem aor{t:TypeId}{x:Tl}{k off n:Nat}{g:Bool}{l:List AV}{av:AV}(ho:o.op=.field t x k)(ht:HT P t k=some (off,n,g))(hx:s.ev x=some (.agg l))(hv:AV.cut l off n g=some av):dh lv P r o s av:=
 iT (λE V a hc aF=>by
  have hd:=aq.ev aF hx;generalize he:a.eval x=v at hd;cases hd with
  |agg hs h=>
   unfold HT at ht;split at ht
   ·rename_i fs hu;split at ht
    ·rename_i f hf;obtain⟨⟨n',g'⟩,h1,h2⟩:=kX ht;cases h2;unfold AV.cut at hv;split at hv
     ·rename_i xy;unfold execOp;rw[ho];simp only[he];refine az ?_;unfold Instr.field;refine ey hu ?_;simp only[hf];unfold asAgg;refine az (ay ?_);refine ab3 h1 ⟨hs,h⟩ xy.1 xy.2 λv h3 h4=>ay ⟨rfl,v,rfl,?_⟩;cases g' with
      |true=>simp only[if_true,Tm]at hv;subst hv;exact h3 rfl
      |false=>simp only[TM,if_false]at hv;exact h4 rfl _ hv
     ·cases hv
    ·cases ht
   ·cases ht)
theorem aov{t:TypeId}{x ix:Tl}{n sz:Nat}{g:Bool}{l:List AV}{av:AV}{k:TU}{i:Int}(ho:o.op=.index t x ix)(ht:HM P t=some (n,sz,g))(hx:s.ev x=some (.agg l))(hi:s.ev ix=some (.val (.int k i)))(h0:0<=i)(h1:i<n)(hv:AV.cut l (i.toNat* sz) sz g=some av):dh lv P r o s av:=
 iT (λE V a hc aF=>by
  have hd:=aq.ev aF hx;generalize he:a.eval x=v at hd;have ox:=aq.ev aF hi;generalize JX:a.eval ix=vi at ox;cases ox;cases hd with
  |agg hs h=>
   unfold HM at ht;split at ht
   ·rename_i m e hu;obtain⟨⟨n',g'⟩,h2,h3⟩:=kX ht;cases h3;unfold AV.cut at hv;split at hv
    ·rename_i xy;obtain⟨inf,d,q1,q2,q3,q4⟩:=Ty.out h2;unfold execOp;rw[ho];simp only[he,JX];refine az ?_;unfold Z3 asIntOf;refine az (ay ?_);dsimp only;refine ey hu ?_;dsimp only;rw[if_pos ⟨h0,h1⟩];refine j3 q1 ?_;rw[q3];refine ab3 h2 ⟨hs,h⟩ xy.1 xy.2 λv h4 h5=>ay ⟨rfl,v,rfl,?_⟩;cases g' with
     |true=>simp only[if_true,Tm]at hv;subst hv;exact h4 rfl
     |false=>simp only[TM,if_false]at hv;exact h5 rfl _ hv
    ·cases hv
   ·cases ht)
theorem aou{t:TypeId}{x ix:Tl}{b:ByteArray}{k:TU}{i:Int}{c:UInt8}(ho:o.op=.index t x ix)(ht:lE P t=some .str)(hx:s.ev x=some (.val (.string b)))(hi:s.ev ix=some (.val (.int k i)))(h0:0<=i)(h1:b[i.toNat]?=some c):dh lv P r o s (.val (.int .u8 c.toNat)):=
 iT (λE V a hc aF=>by
  have hd:=aq.ev aF hx;generalize he:a.eval x=v at hd;have ox:=aq.ev aF hi;generalize JX:a.eval ix=vi at ox;cases ox;cases hd;unfold lE at ht;split at ht<;>cases ht;rename_i hu;unfold execOp;rw[ho];simp only[he,JX];refine az ?_;unfold Z3 asIntOf;refine az (ay ?_);dsimp only;refine ey hu ?_;dsimp only;rw[if_pos h0,h1];exact ay (ay ⟨rfl,_,rfl,.val _⟩))
theorem O0{E:Env}{s:AS}{a:Act}(k:cj E s.T a.tmps){l:Array Tl}{aG:List AV}(h:l.toList.mapM s.ev=some aG):cN E aG (l.map a.eval):=by
 have key:∀(l:List Tl)(aG:List AV),l.mapM s.ev=some aG->cN E aG (l.map a.eval).toArray:=by
  intro l;induction l with
  |nil=>intro aG h;simp at h;subst h;exact⟨rfl,by simp⟩
  |cons x l ih=>
   intro aG h;simp only[Ue,Uf,TS,S_,Tm]at h;obtain⟨b,h1,bs,h2,rfl⟩:=h;have:=ih bs h2;refine⟨by have:=this.1;simpa using this,λi c e=> ?_⟩;cases i with
   |zero=>simp at e;subst e;simpa[SI]using aq.ev k h1
   |succ i=>
    simp only[UH]at e;have:=this.2 i c e;simpa[SI]using this
 have:=key l.toList aG h;have e:l.map a.eval=(l.toList.map a.eval).toArray:=by apply VC;simp
 rw[e];exact this
theorem aoB{f:Fn}{first cV:Array Tl}{fa ca:List AV}(ho:o.op=.makeFunc f first cV)(h1:first.toList.mapM s.ev=some fa)(h2:cV.toList.mapM s.ev=some ca):dh lv P r o s (.fn f fa ca):=
 rU (λE V a hc ht=>by
  have d1:=O0 ht h1;have d2:=O0 ht h2;exact⟨_,by unfold execOp;rw[ho];rfl,.fn d1.1 d2.1 d1.2 d2.2⟩)
def mq (P:SK)(t:TypeId):Option Bool:=(P.underlying t).map λ|.interface _=>true|_=>false
theorem aoC{t:TypeId}{x:Tl}{av:AV}(ho:o.op=.makeInterface t x)(ht:mq P t=some false)(hx:s.ev x=some av):dh lv P r o s (.c9 t av):=
 iT (λE V a hc aF=>by
  obtain⟨d,hu,hd⟩:=kX ht;unfold execOp;rw[ho];dsimp only;refine az ?_;unfold Instr.makeInterface;refine ey hu ?_;split
  ·cases hd
  ·exact ay (ay ⟨rfl,_,rfl,.c9 (aq.ev aF hx)⟩))
def AB (P:SK)(src dst:TypeId):Option (Option TU):=(P.underlying src).bind λ_=>match P.underlying dst with
 |some (.int k)=>some (some k)
 |_=>none
theorem aom{src dst:TypeId}{x:Tl}{k j:TU}{n:Int}(ho:o.op=.convert src dst x)(ht:AB P src dst=some (some k))(hx:s.ev x=some (.val (.int j n))):dh lv P r o s (.val (.int k (k.wrap n))):=
 iT (λE V a hc aF=>by
  have hd:=aq.ev aF hx;generalize he:a.eval x=v at hd;cases hd;unfold AB at ht;obtain⟨d,h1,h2⟩:=S_.1 ht;split at h2
  ·rename_i k' hu;cases h2;unfold execOp;rw[ho];simp only[he];refine az ?_;unfold convert;refine ey h1 (ey hu ?_);dsimp only;exact ay (ay ⟨rfl,_,rfl,.val _⟩)
  ·cases h2)
end
open Go.Conc
def Env.add (E:Env)(r:Nat)(I:cC):Env:={E with I:=I,n:=E.n+1,blk:=λk=>if k=E.n then r else E.blk k}
theorem Env.qw(E:Env)(r:Nat){I:cC}(hI:∀b o v,E.I b o=some v->I b o=some v):E.Le (E.add r I):=
 ⟨hI,Y1 _,λk hk=>by simp[Env.add,Wa hk],λ_ _=>SU _,λ_ _ _ _=>rfl,rfl,rfl⟩
def View.iz (V:View)(b:Nat)(cs:Array SO)(p:Nat->Bool):View:={V with ab:=λb' o=>if b'=b/\p o=true then cs[o]?else V.ab b' o}
theorem y8{V:View}{b:Nat}{cs:Array SO}{el:TypeId}{f:Nat×Nat}{p:Nat->Bool}(ho:V.own b=some (.cells cs el f))(hp:∀o,p o=true->V.ab b o=none):ee V (V.iz b cs p)where
 sat w h:=⟨λb' o v e=>by
   simp only[View.iz]at e;split at e
   ·rename_i hb;obtain⟨rfl,_⟩:=hb;have:=h.own _ _ ho;simpa[Uy,this]using e
   ·exact h.ab _ _ _ e,λb' x e=>h.own b' x e⟩
 own b' e:=e
 ab b' o v e:=by
  have hn:¬(b'=b/\p o=true):=λhb=>by obtain⟨rfl,h2⟩:=hb;rw[hp o h2]at e;cases e
  simp only[View.iz,if_neg hn];exact e
 kK b' o v e:=by
  simp only[View.iz]at e;split at e
  ·rename_i hb;obtain⟨rfl,_⟩:=hb;exact .inr (by rw[ho];simp)
  ·exact .inl e
 deaf:=rfl
 role:=rfl
 chan c x _ h:=h
def View.kv (V:View)(r:Nat)(cs:Array SO):View:={V with ab:=λb o=>if b=r then cs[o]?else V.ab b o}
theorem ai2{V:View}{r:Nat}{cs:Array SO}{el:TypeId}{f:Nat×Nat}(hf:V.fresh r)(hc:V.role.chan≠some r):ee (V.upd r (.cells cs el f)) (V.kv r cs)where
 sat w h:=⟨λb o v e=>by
   simp only[View.kv]at e;split at e
   ·rename_i hb;subst hb;have:=h.own b (.cells cs el f) (by simp[View.upd]);simpa[Uy,this]using e
   ·exact h.ab b o v e,λb x e=>by
   have hb:b≠r:=λhb=>(by subst hb;rw[show (V.kv b cs).own b=V.own b from rfl,hf.1]at e;cases e);have e':V.own b=some x:=e;exact h.own b x (by simpa[View.upd,hb]using e')⟩
 own b e:=by
  simp only[View.upd]at e;split at e
  ·cases e
  ·exact e
 ab b o v e:=by
  have e':V.ab b o=some v:=e;have hb:b≠r:=λhb=>by subst hb;rw[hf.2 o]at e';cases e'
  simpa[View.kv,hb]using e'
 kK b o v e:=by
  simp only[View.kv]at e;split at e
  ·rename_i hb;exact .inr (by simp[View.upd,hb])
  ·exact .inl e
 deaf:=rfl
 role:=rfl
 chan c x hcx h:=by
  have hb:c≠r:=λhb=>by subst hb;exact hc hcx
  have h':V.own c=some x:=by simpa[View.upd,hb]using h
  exact h'
theorem Conc.aiR{E:Env}{V:View}{H:List aa}(hc:Conc E V H){r:Nat}(hf:V.own r=none):V.role.chan≠some r/\V.role.group≠some r:=
 ⟨λe=>(hc.chan r e).1 hf,λe=>(hc.group r e).1 hf⟩
theorem Conc.add{E:Env}{V:View}{H:List aa}(hc:Conc E V H){r:Nat}(hf:V.fresh r)(y:Obj){x:aa}(hx:fQ (E.add r V.ab) (V.upd r y) E.n x)(hb:∀b,bN (E.add r V.ab) E.n x=some b->b=r):Conc (E.add r V.ab) (V.upd r y) (H++[x]):=by
 refine hc.iW (E':=E.add r V.ab) H.length x (E.qw r (λb o v h=>by rw[<- hc.I];exact h)) rfl (by simp[Env.add,hc.n]) CL rfl (λ_ _ _=>rfl) (λb z _ hz=>⟨?_,λ_=>rfl⟩) (by rw[<- hc.n];exact hx) (λb h=> .inr ?_)
 ·have:b≠r:=λe=>by rw[e,hf.1]at hz;cases hz
  simpa[View.upd,this]using hz
 ·rw[<- hc.n]at h;rw[hb b h];exact hf.1
theorem Env.dL(E:Env)(r:Nat)(I:cC):(E.add r I).blk E.n=r:=by simp[Env.add]
theorem O2{E:Env}{H:List aa}(hn:E.n=H.length)(r:Nat)(I:cC):aq (E.add r I) (.op H.length 0) (.pointer (some ⟨r,0,none⟩)):=by
 have:=aq.op (E:=E.add r I) (id:=H.length) (off:=0) (by show _<E.n+1;rw[hn];omega);have e:(E.add r I).blk H.length=r:=by rw[<- hn];exact E.dL r I
 rwa [e]at this
def AV.parts:AV->Option (List AV)
 |.agg l=>some l
 |.aJ _=>none
 |.val (.agg _)=>none
 |a=>some [a]
theorem aq.parts{E:Env}{a:AV}{v:SO}{l:List AV}(h:aq E a v)(hp:a.parts=some l):cN E l v.cells:=by
 have one:∀a v,aq E a v->v.cells=#[v]->cN E [a] v.cells:=λa v h e=>by
  rw[e];refine⟨rfl,λi x hx=> ?_⟩;have hi:i=0:=by have:=(SN.1 hx).1;simpa using this
  subst hi;simp at hx;subst hx;simpa using h
 cases h with
 |val=>cases v<;>first|(cases hp;exact one _ _ (.val _) rfl)|cases hp
 |agg hs h=>cases hp;exact⟨hs,h⟩
 |aJ hs h=>cases hp
 |sl b o cap f hc he h1 h2=>cases hp;exact one _ _ (.sl b o cap f hc he h1 h2) rfl
 |nil he=>cases hp;exact one _ _ (.nil he) rfl
 |bK hi dT=>cases hp;exact one _ _ (.bK hi dT) rfl
 |rp b o f h1 h2=>cases hp;exact one _ _ (.rp b o f h1 h2) rfl
 |op hi=>cases hp;exact one _ _ (.op hi) rfl
 |fn dD fY h1 h2=>cases hp;exact one _ _ (.fn dD fY h1 h2) rfl
 |c9 h=>cases hp;exact one _ _ (.c9 h) rfl
 |mp hi=>cases hp;exact one _ _ (.mp hi) rfl
def eU (P:SK)(t:TypeId):Option SO:=(P.info? t).bind (·.zero)
def l6 (z:SO):List AV:=z.cells.toList.map AV.pB
theorem ID(E:Env)(z:SO):cN E (l6 z) z.cells:=by
 refine⟨by simp[l6],λi a h=> ?_⟩;unfold l6 at h;rw[Tj]at h;obtain⟨x,hx,rfl⟩:=Tp.1 h;have:z.cells[i]?=some x:=by simpa using hx
 rw[SI,this];exact Iy E x
section
variable {P:SK}{V:View}{α:Type}{K:α->View->Prop}{Kp:SO->View->Prop}
theorem G2{t:TypeId}{z:SO}{k:SO->Sem α}(h:eU P t=some z)(hk:aR P V (k z) K Kp):aR P V (zeroValue t>>=k) K Kp:=by
 unfold eU at h;obtain⟨i,h1,h2⟩:=S_.1 h;refine az ?_;unfold zeroValue;refine yl h1 ?_;rw[h2];exact ay hk
end
section
variable {lv:Bool}{P:SK}{r:Option Nat}{o:Tx}{s:AS}{next:AS->Prop}{bad:AV->AS->Prop}
theorem acB{t:TypeId}{l:List AV}(h:∀(E:Env)(V:View)(a:Act),Conc E V s.H->cj E s.T a.tmps->∃cs,cN E l cs/\aR P V (execOp a.eval o) (λnx V'=>∃rr,V.fresh rr/\V'=V.upd rr (.cells cs t)/\nx=.value (.pointer (some ⟨rr,0,none⟩))) (λ_ _=>False))
  (hn:next ((⟨s.T,s.H++[.cells l t]⟩:AS).put o.dst (.op s.H.length 0))):Step lv P r o s next bad:=by
 intro E V a N Q hc ht hd bz h1 _;obtain⟨cs,oZ,qn⟩:=h E V a hc ht;refine⟨bz,qn.mono (λnx V' hx=> ?_) (λ_ _ hx=>hx.elim)⟩;obtain⟨rr,hf,rfl,rfl⟩:=hx;have hle:E.Le (E.add rr V.ab):=E.qw rr (λb o v h=>by rw[<- hc.I];exact h);have ba:Conc (E.add rr V.ab) (V.upd rr (.cells cs t)) (s.H++[.cells l t]):=by
  refine hc.add hf _ ⟨⟨cs,?_,oZ.mono hle⟩,λo=> ?_⟩ (λb e=> ?_)
  ·rw[Env.dL];simp[View.upd]
  ·rw[Env.dL];exact hf.2 o
  ·simp only[bN,Env.dL,Tm]at e;exact e.symm
 exact h1 _ _ (a.put o.dst (.pointer (some ⟨rr,0,none⟩))) ((⟨s.T,s.H++[.cells l t]⟩:AS).put o.dst (.op s.H.length 0)) ⟨hle,dP _ _ _,put_defers _ _ _,rfl,rfl⟩ (by rw[ft];exact ba)
  (cj.gZ (s:=⟨s.T,s.H++[.cells l t]⟩) (ht.mono hle) hd (O2 hc.n rr V.ab)) hn
theorem acx{t:TypeId}{x:Tl}{av:AV}{l:List AV}(ho:o.op=.box t x)(hx:s.ev x=some av)(hl:av.parts=some l)(hn:next ((⟨s.T,s.H++[.cells l t]⟩:AS).put o.dst (.op s.H.length 0))):Step lv P r o s next bad:=
 acB (λE V a hc ht=>⟨(a.eval x).cells,(aq.ev ht hx).parts hl,by
  unfold execOp;rw[ho];dsimp only;refine az ?_;unfold Instr.box newVar newRow;refine az (az (az (oI λrr hf=>cM (ay (ay (ay (ay ⟨rr,hf,rfl,rfl⟩)))))))⟩) hn
theorem acu{t:TypeId}{z:SO}(ho:o.op=.alloc t)(hz:eU P t=some z)(hn:next ((⟨s.T,s.H++[.cells (l6 z) t]⟩:AS).put o.dst (.op s.H.length 0))):Step lv P r o s next bad:=
 acB (λE V a hc ht=>⟨z.cells,ID E z,by
  unfold execOp;rw[ho];dsimp only;refine az ?_;unfold Instr.alloc;refine G2 hz ?_;unfold newVar newRow;refine az (az (az (oI λrr hf=>cM (ay (ay (ay (ay ⟨rr,hf,rfl,rfl⟩)))))))⟩) hn
theorem aqu{t:TypeId}(ho:o.op=.makeMap t none)(hn:next ((⟨s.T,s.H++[.obj (.map #[] 0)]⟩:AS).put o.dst (.mp s.H.length))):Step lv P r o s next bad:=by
 intro E V a N Q hc ht hd bz h1 _;refine⟨bz,?_⟩;unfold execOp;rw[ho];dsimp only;refine az ?_;unfold Instr.makeMap;refine az (oI λrr hf=>cM (ay (ay ?_)));have hle:E.Le (E.add rr V.ab):=E.qw rr (λb o v h=>by rw[<- hc.I];exact h);have ba:Conc (E.add rr V.ab) (V.upd rr (.map #[] 0)) (s.H++[.obj (.map #[] 0)]):=by
  refine hc.add hf _ ⟨?_,rfl,rfl,λo=> ?_⟩ (λb e=> ?_)
  ·rw[Env.dL];simp[View.upd]
  ·rw[Env.dL];exact hf.2 o
  ·simp only[bN,Env.dL,Tm]at e;exact e.symm
 have bp:aq (E.add rr V.ab) (.mp s.H.length) (.map (some rr)):=by
  have:=aq.mp (E:=E.add rr V.ab) (id:=s.H.length) (by show _<E.n+1;rw[hc.n];omega);have e:(E.add rr V.ab).blk s.H.length=rr:=by rw[<- hc.n];exact E.dL rr _
  rwa [e]at this
 exact h1 _ _ (a.put o.dst (.map (some rr))) ((⟨s.T,s.H++[.obj (.map #[] 0)]⟩:AS).put o.dst (.mp s.H.length)) ⟨hle,dP _ _ _,put_defers _ _ _,rfl,rfl⟩ (by rw[ft];exact ba)
  (cj.gZ (s:=⟨s.T,s.H++[.obj (.map #[] 0)]⟩) (ht.mono hle) hd bp) hn
end
def storeAt:Array SO->Nat->List SO->Array SO
 |cs,_,[]=>cs
 |cs,o,v::vs=>storeAt (cs.setIfInBounds o v) (o+1) vs
theorem yn:∀(vs:List SO)(cs:Array SO)(o:Nat),(storeAt cs o vs).size=cs.size
 |[],_,_=>rfl
 |v::vs,cs,o=>by rw[storeAt,yn];simp
theorem Db:∀(vs:List SO)(cs:Array SO)(o k:Nat),o+vs.length<=cs.size->(storeAt cs o vs).getD k undef=if o<=k/\k<o+vs.length then vs.getD (k-o) undef else cs.getD k undef
 |[],cs,o,k,_=>by
  have:¬(o<=k/\k<o+([]:List SO).length):=by intro h;simp only[UQ]at h;omega
  rw[if_neg this];rfl
 |v::vs,cs,o,k,h=>by
  simp only[Uh]at h;rw[storeAt,Db vs _ (o+1) k (by simp;omega)];by_cases h1:k=o
  ·subst h1;rw[if_neg (by omega),if_pos (by simp)];simp[SI,S9 (show k<cs.size by omega)]
  ·by_cases h2:o+1<=k/\k<o+1+vs.length
   ·rw[if_pos h2,if_pos (by simp only[Uh];omega)];have:k-o=(k-(o+1))+1:=(by omega);rw[this];simp[SE]
   ·rw[if_neg h2,if_neg (by simp only[Uh];omega)];simp[SI,SR (Ne.symm h1)]
theorem arB(V:View)(b:Nat)(x y:Obj):(V.upd b x).upd b y=V.upd b y:=by
 unfold View.upd;congr 1;funext k;dsimp only;split<;>rfl
theorem arC{V:View}{b:Nat}{x:Obj}(h:V.own b=some x):V.upd b x=V:=by
 unfold View.upd;have:(λk=>if k=b then some x else V.own k)=V.own:=by
  funext k;split
  ·rename_i e;subst e;rw[h]
  ·rfl
 rw[this]
section
variable {P:SK}{K:Unit->View->Prop}{Kp:SO->View->Prop}{b off:Nat}{el:TypeId}
theorem Am:∀(vs:List SO)(i:Nat)(V:View)(cs:Array SO),V.role.group≠some b->V.role.chan≠some b->V.own b=some (.cells cs el (0,0))->(∀o,off+i<=o->o<off+i+vs.length->V.ab b o=none)->off+i+vs.length<=cs.size->(∀v∈vs,v.one=true)->
  K () (V.upd b (.cells (storeAt cs (off+i) vs) el (0,0)))->aR P V (storeCells ⟨b,off,none⟩ vs i) K Kp
 |[],i,V,cs,hg,hc,ho,hi,hl,hv,h=>by
  unfold storeCells;rw[show storeAt cs (off+i) []=cs from rfl,arC ho]at h;exact ay h
 |v::vs,i,V,cs,hg,hc,ho,hi,hl,hv,h=>by
  unfold storeCells;rw[add_plain];simp only[Uh]at hl hi;refine az (apO ho (by omega) (hi _ (by omega) (by omega)) (hv v (TC ..)) (by omega) (.inl hg) hc (cM ?_));refine Am vs (i+1) (V.upd b (.cells (cs.setIfInBounds (off+i) v) el (0,0))) (cs.setIfInBounds (off+i) v) hg hc (by simp[View.upd]) (λo h1 h2=>hi o (by omega) (by omega)) (by simp;omega) (λx hx=>hv x (Ta _ hx)) ?_;rw[arB];exact h
end
theorem Conc.set{E:Env}{V:View}{H:List aa}(hc:Conc E V H){id:Nat}{l l':List AV}{el:TypeId}(hk:H[id]?=some (.cells l el)){eV:Array SO}(hd:cN E l' eV):Conc E (V.upd (E.blk id) (.cells eV el (0,0))) (H.set id (.cells l' el)):=by
 obtain⟨⟨cs,h1,_⟩,h3⟩:=hc.obj id _ hk;refine hc.iW id (.cells l' el) (Env.Le.refl E) hc.I (by simpa using hc.n) lW rfl (λ_ _ _=>rfl) (λb y hb hy=>⟨?_,λ_=>rfl⟩) ⟨⟨eV,by simp[View.upd],hd⟩,h3⟩ (λb h=> .inl ⟨_,hk,h⟩);have:b≠E.blk id:=λe=>hb _ hk (by rw[e];rfl);simpa[View.upd,this]using hy
theorem acE:∀(vs:List SO)(cs:Array SO)(off o:Nat),o<off->(storeAt cs off vs)[o]?=cs[o]?
 |[],_,_,_,_=>rfl
 |v::vs,cs,off,o,h=>by
  rw[storeAt,acE vs _ (off+1) o (by omega),SR (by omega)]
theorem Conc.G3{E:Env}{V:View}{H:List aa}(hc:Conc E V H){id p:Nat}{l l':List AV}{el:TypeId}(hk:H[id]?=some (.part p l el)){cs eV:Array SO}(h1:V.own (E.blk id)=some (.cells cs el (0,0)))(hd:j5 E l' eV)(hs:∀o,o<p->eV[o]?=cs[o]?):Conc E (V.upd (E.blk id) (.cells eV el (0,0))) (H.set id (.part p l' el)):=by
 obtain⟨⟨yT,q1,_,q2⟩,h3⟩:=hc.obj id _ hk;rw[h1]at q1;cases q1;refine hc.iW id (.part p l' el) (Env.Le.refl E) hc.I (by simpa using hc.n) lW rfl (λ_ _ _=>rfl) (λb y hb hy=>⟨?_,λ_=>rfl⟩) ⟨⟨eV,by simp[View.upd],hd,λo ho=>(q2 o ho).trans (hs o ho).symm⟩,h3⟩ (λb h=> .inl ⟨_,hk,h⟩);have:b≠E.blk id:=λe=>hb _ hk (by rw[e];rfl);simpa[View.upd,this]using hy
theorem Conc.acb{E:Env}{V:View}{H:List aa}(hc:Conc E V H){id sz:Nat}{l l':List AV}{el:TypeId}(hk:H[id]?=some (.own sz l el)){eV:Array SO}(hd:j5 E l' eV)(hz:eV.size=(E.room id 0).2* sz):Conc E (V.upd (E.blk id) (.cells eV el (0,0))) (H.set id (.own sz l' el)):=by
 obtain⟨⟨cs,h1,_⟩,h3⟩:=hc.obj id _ hk;refine hc.iW id (.own sz l' el) (Env.Le.refl E) hc.I (by simpa using hc.n) lW rfl (λ_ _ _=>rfl) (λb y hb hy=>⟨?_,λ_=>rfl⟩) ⟨⟨eV,by simp[View.upd],hd,hz⟩,h3⟩ (λb h=> .inl ⟨_,hk,h⟩);have:b≠E.blk id:=λe=>hb _ hk (by rw[e];rfl);simpa[View.upd,this]using hy
theorem Conc.setObj{E:Env}{V:View}{H:List aa}(hc:Conc E V H){id:Nat}{x y:Obj}(hk:H[id]?=some (.obj x))(h1:y.uL=false)(h2:y.isChan=false):Conc E (V.upd (E.blk id) y) (H.set id (.obj y)):=by
 obtain⟨p1,p2,p3,p4⟩:=hc.obj id _ hk;refine hc.iW id (.obj y) (Env.Le.refl E) hc.I (by simpa using hc.n) lW rfl (λ_ _ _=>rfl) (λb z hb hz=>⟨?_,λ_=>rfl⟩) ⟨by simp[View.upd],h1,h2,p4⟩ (λb h=> .inl ⟨_,hk,h⟩);have:b≠E.blk id:=λe=>hb _ hk (by rw[e];rfl);simpa[View.upd,this]using hz
theorem al5{E:Env}{a:AV}{v:SO}(h:aq E a v)(hl:a.leaf=true):v.one=true:=by
 cases h with
 |val x=>exact hl
 |agg _ _=>cases hl
 |aJ _ _=>cases hl
 |_=>rfl
def iF (l:List AV)(off:Nat)(lp:List AV):List AV:=l.take off++lp++l.drop (off+lp.length)
theorem IB{E:Env}{l lp:List AV}{cs vs:Array SO}{off:Nat}(h:cN E l cs)(k:cN E lp vs)(hl:off+lp.length<=l.length):cN E (iF l off lp) (storeAt cs off vs.toList):=by
 have hv:vs.toList.length=lp.length:=by simpa using k.1
 refine⟨by rw[yn,h.1];simp[iF];omega,λi a e=> ?_⟩;rw[Db _ _ _ _ (by rw[h.1,hv];exact hl),hv];unfold iF at e;by_cases h1:i<off
 ·rw[if_neg (by omega)];rw[SD,SW (by simp;omega),Ua,if_pos h1]at e;exact h.2 i a e
 ·by_cases h2:i<off+lp.length
  ·rw[if_pos ⟨by omega,h2⟩];rw[SW (by simp;omega),Tg (by simp;omega)]at e;have e':lp[i-off]?=some a:=by
    have:min off l.length=off:=(by omega);simpa[this]using e
   have:=k.2 _ a e';simpa[SI,SE]using this
  ·rw[if_neg (by omega)];rw[Tg (by simp;omega),Ul]at e;have e':l[i]?=some a:=by
    have h3:off+lp.length+(i-(l.take off++lp).length)=i:=(by simp;omega);rw[h3]at e;exact e
   exact h.2 i a e'
theorem O7{E:Env}{l lp:List AV}{cs vs:Array SO}{off:Nat}(h:j5 E l cs)(k:cN E lp vs)(hl:off+lp.length<=l.length):j5 E (iF l off lp) (storeAt cs off vs.toList):=by
 have hv:vs.toList.length=lp.length:=by simpa using k.1
 refine⟨by rw[yn];have:=h.1;simp[iF];omega,λi a e=> ?_⟩;rw[Db _ _ _ _ (by have:=h.1;rw[hv];omega),hv];unfold iF at e;by_cases h1:i<off
 ·rw[if_neg (by omega)];rw[SD,SW (by simp;omega),Ua,if_pos h1]at e;exact h.2 i a e
 ·by_cases h2:i<off+lp.length
  ·rw[if_pos ⟨by omega,h2⟩];rw[SW (by simp;omega),Tg (by simp;omega)]at e;have e':lp[i-off]?=some a:=by
    have:min off l.length=off:=(by omega);simpa[this]using e
   have:=k.2 _ a e';simpa[SI,SE]using this
  ·rw[if_neg (by omega)];rw[Tg (by simp;omega),Ul]at e;have e':l[i]?=some a:=by
    have h3:off+lp.length+(i-(l.take off++lp).length)=i:=(by simp;omega);rw[h3]at e;exact e
   exact h.2 i a e'
theorem Bj{E:Env}{lp:List AV}{vs:Array SO}(h:cN E lp vs)(nH:∀a∈lp,a.leaf=true):∀v∈vs.toList,v.one=true:=by
 intro v hv;obtain⟨j,hj⟩:=UP.1 hv;have eR:j<lp.length:=by have:=(SN.1 hj).1;have:=h.1;simp at*;omega
 have:=h.2 j lp[j] (SP eR);have gH:vs[j]?=some v:=by simpa using hj
 rw[SI,gH]at this;exact al5 this (nH _ (VF eR))
section
variable {lv:Bool}{P:SK}{r:Option Nat}{o:Tx}{s:AS}{next:AS->Prop}{bad:AV->AS->Prop}
theorem acC{t:TypeId}{x y:Tl}{id off n:Nat}{l lp:List AV}{el:TypeId}{g:Bool}{av:AV}(ho:o.op=.store t x y)(ht:Ty P t=some (n,g))(hx:s.ev x=some (.op id off))(hk:s.H[id]?=some (.cells l el))(hy:s.ev y=some av)(hp:av.parts=some lp)(kH:lp.length=n)(hl:off+lp.length<=l.length)
  (nH:∀a∈lp,a.leaf=true) (hn:next ((⟨s.T,s.H.set id (.cells (iF l off lp) el)⟩:AS).put o.dst (.val undef))):Step lv P r o s next bad:=by
 intro E V a N Q hc aF hd bz h1 _;obtain⟨i,d,q1,q2,rfl,q4⟩:=Ty.out ht;have dB:=aq.ev aF hx;generalize ku:a.eval x=vx at dB;cases dB with
 |op cu=>
  have bp:=(aq.ev aF hy).parts hp;obtain⟨⟨cs,p1,p2⟩,p3⟩:=hc.obj id _ hk;obtain⟨g1,g2⟩:=hc.jk hk rfl;refine⟨bz,?_⟩;unfold execOp;rw[ho];simp only[ku];refine az ?_;unfold Yj Va;refine az (ay ?_);unfold storeVar;refine j3 q1 ?_;rw[if_neg (by rw[bp.1,kH];simp)];refine Am _ 0 V cs g1 g2 p1 (λo _ _=>p3 o) (by have:=bp.1;have:=p2.1;simp;omega) (Bj bp nH) ?_;rw[UK];exact ay (h1 E _ (a.put o.dst undef) _ ⟨Env.Le.refl E,dP _ _ _,put_defers _ _ _,rfl,rfl⟩ (by rw[ft];exact hc.set hk (IB p2 bp hl))
   (cj.gZ (s:=⟨s.T,s.H.set id (.cells (iF l off lp) el)⟩) aF hd (.val undef)) hn)
theorem aqA{t:TypeId}{x y:Tl}{id off n p:Nat}{l lp:List AV}{el:TypeId}{g:Bool}{av:AV}(ho:o.op=.store t x y)(ht:Ty P t=some (n,g))(hx:s.ev x=some (.op id off))(hk:s.H[id]?=some (.part p l el))(hpo:p<=off)(hy:s.ev y=some av)(hp:av.parts=some lp)(kH:lp.length=n)(hl:off+lp.length<=l.length)
  (nH:∀a∈lp,a.leaf=true) (hn:next ((⟨s.T,s.H.set id (.part p (iF l off lp) el)⟩:AS).put o.dst (.val undef))):Step lv P r o s next bad:=by
 intro E V a N Q hc aF hd bz h1 _;obtain⟨i,d,q1,q2,rfl,q4⟩:=Ty.out ht;have dB:=aq.ev aF hx;generalize ku:a.eval x=vx at dB;cases dB with
 |op cu=>
  have bp:=(aq.ev aF hy).parts hp;obtain⟨⟨cs,p1,p2,p4⟩,p3⟩:=hc.obj id _ hk;obtain⟨g1,g2⟩:=hc.jk hk rfl;refine⟨bz,?_⟩;unfold execOp;rw[ho];simp only[ku];refine az ?_;unfold Yj Va;refine az (ay ?_);unfold storeVar;refine j3 q1 ?_;rw[if_neg (by rw[bp.1,kH];simp)];refine Am _ 0 V cs g1 g2 p1 (λo _ _=>p3 o (by omega)) (by have:=bp.1;have:=p2.1;simp;omega) (Bj bp nH) ?_;rw[UK];exact ay (h1 E _ (a.put o.dst undef) _ ⟨Env.Le.refl E,dP _ _ _,put_defers _ _ _,rfl,rfl⟩ (by rw[ft];exact hc.G3 hk p1 (O7 p2 bp hl) λo ho=>acE _ _ _ _ (by omega))
   (cj.gZ (s:=⟨s.T,s.H.set id (.part p (iF l off lp) el)⟩) aF hd (.val undef)) hn)
theorem acD{t:TypeId}{x y:Tl}{id off n p:Nat}{l lp:List AV}{el:TypeId}{g:Bool}{av:AV}(ho:o.op=.store t x y)(ht:Ty P t=some (n,g))(hx:s.ev x=some (.op id off))(hk:s.H[id]?=some (.own p l el))(hy:s.ev y=some av)(hp:av.parts=some lp)(kH:lp.length=n)(hl:off+lp.length<=l.length)
  (nH:∀a∈lp,a.leaf=true) (hn:next ((⟨s.T,s.H.set id (.own p (iF l off lp) el)⟩:AS).put o.dst (.val undef))):Step lv P r o s next bad:=by
 intro E V a N Q hc aF hd bz h1 _;obtain⟨i,d,q1,q2,rfl,q4⟩:=Ty.out ht;have dB:=aq.ev aF hx;generalize ku:a.eval x=vx at dB;cases dB with
 |op cu=>
  have bp:=(aq.ev aF hy).parts hp;obtain⟨⟨cs,p1,p2,p4⟩,p3⟩:=hc.obj id _ hk;obtain⟨g1,g2⟩:=hc.jk hk rfl;refine⟨bz,?_⟩;unfold execOp;rw[ho];simp only[ku];refine az ?_;unfold Yj Va;refine az (ay ?_);unfold storeVar;refine j3 q1 ?_;rw[if_neg (by rw[bp.1,kH];simp)];refine Am _ 0 V cs g1 g2 p1 (λo _ _=>p3 o) (by have:=bp.1;have:=p2.1;simp;omega) (Bj bp nH) ?_;rw[UK];exact ay (h1 E _ (a.put o.dst undef) _ ⟨Env.Le.refl E,dP _ _ _,put_defers _ _ _,rfl,rfl⟩ (by rw[ft];exact hc.acb hk (O7 p2 bp hl) (by rw[yn];exact p4))
   (cj.gZ (s:=⟨s.T,s.H.set id (.own p (iF l off lp) el)⟩) aF hd (.val undef)) hn)
theorem Conc.kv{E:Env}{V:View}{H:List aa}(hc:Conc E V H){r:Nat}(hf:V.fresh r)(cs:Array SO):E.Le {E with I:=(V.kv r cs).ab}/\Conc {E with I:=(V.kv r cs).ab} (V.kv r cs) H:=by
 have hle:E.Le {E with I:=(V.kv r cs).ab}:=⟨λb o v h=>by
  rw[hc.I]at h;have hb:b≠r:=λhb=>by subst hb;rw[hf.2 o]at h;cases h
  simpa[View.kv,hb]using h,SU _,λ_ _=>rfl,λ_ _=>SU _,λ_ _ _ _=>rfl,rfl,rfl⟩
 have hlt:∀(k:Nat) y,H[k]?=some y->k<E.n:=λk y h=>by rw[hc.n];exact(SN.1 h).1
 refine⟨hle,rfl,hc.n,λk x h=>(hc.obj k x h).mono hle (hlt k x h) rfl (λb y _ hb=>hb) (λb hb o=> ?_),hc.inj,λg hg=> ?_,λg hg=> ?_,hc.top,λb y hg=> ?_⟩
 ·obtain⟨y,hy⟩:=(hc.obj k x h).A' hb;have aC:b≠r:=λe=>by subst e;rw[hf.1]at hy;cases hy
  simp[View.kv,aC]
 ·obtain⟨h0,h1,h2⟩:=hc.group g hg;have aC:g≠r:=λe=>by subst e;exact h0 hf.1
  exact⟨h0,λo=>by simp[View.kv,aC,h1 o],h2⟩
 ·obtain⟨h0,h1,h2⟩:=hc.chan g hg;have aC:g≠r:=λe=>by subst e;exact h0 hf.1
  exact⟨h0,λo=>by simp[View.kv,aC,h1 o],h2⟩
 ·obtain⟨h0,h1,h2⟩:=hc.fr b y hg;have aC:b≠r:=λe=>by subst e;rw[hf.1]at h0;cases h0
  exact⟨h0,λo=>by simp[View.kv,aC,h1 o],h2⟩
theorem aq.an9{E:Env}{V:View}{H:List aa}(hc:Conc E V H){r:Nat}(hf:V.fresh r){cs:Array SO}{l:List AV}(h:cN E l cs){n cap:Nat}(dT:n<=cap){e:End}(he:pH {E with I:=(V.kv r cs).ab} e (some ⟨r,0,none⟩) n cap):aq {E with I:=(V.kv r cs).ab} (.sl n l e) (.slice (some ⟨r,0,none⟩) n cap):=by
 refine .sl r 0 cap (λi=>cs.getD i undef) dT he (λi hi=> ?_) λi x hx=>(h.2 i x hx).mono (hc.kv hf cs).1;have hlt:i<cs.size:=by rw[h.1];exact hi
 simp[View.kv,SI,SJ hlt]
def oh (place:Nat->Option (Nat×Nat))(cells:List AV):List (Nat×AV)->Option (List AV)
 |[]=>some cells
 |(i,a)::rest=>match place i,a.parts with
  |some (off,size),some lp=>if lp.length≠size\/off+lp.length>cells.length then none else oh place (iF cells off lp) rest
  |_,_=>none
theorem P0:∀(vs:List SO)(k off:Nat)(cs:Array SO),(vs.zipIdx k).foldl (λ(cs:Array SO) (x:SO×Nat)=>cs.setIfInBounds (off+x.2) x.1) cs=storeAt cs (off+k) vs
 |[],_,_,_=>rfl
 |v::vs,k,off,cs=>by
  rw[List.zipIdx_cons,UY,P0 vs (k+1) off];rfl
theorem Bn{E:Env}{place:Nat->Option (Nat×Nat)}:∀{parts:List (Nat×AV)}{vs:List (Nat×SO)}{l l':List AV}{cs:Array SO},cN E l cs->parts.length=vs.length->(∀(j:Nat) p q,parts[j]?=some p->vs[j]?=some q->p.1=q.1/\aq E p.2 q.2)->
  oh place l parts=some l'->∃eV,aa' place cs vs=some eV/\cN E l' eV
 |[],[],l,l',cs,h,_,_,e=>by cases e;exact⟨cs,rfl,h⟩
 |[],_::_,_,_,_,_,h,_,_=>by simp at h
 |_::_,[],_,_,_,_,h,_,_=>by simp at h
 |(i,a)::parts,(i',v)::vs,l,l',cs,h,hl,hp,e=>by
  obtain⟨e1,hd⟩:=hp 0 (i,a) (i',v) rfl rfl;have e1':i=i':=e1;subst e1';simp only[oh]at e;split at e
  ·rename_i off size lp dp KH;split at e
   ·cases e
   ·rename_i hc;have bp:=aq.parts (v:=v) hd KH;have aU:v.cells.size=lp.length:=bp.1;have hle:off+lp.length<=l.length:=(by omega);obtain⟨eV,h1,h2⟩:=Bn (IB h bp hle) (by simpa using hl) (λj p q x y=>hp (j+1) p q (by simpa using x) (by simpa using y)) e;refine⟨eV,?_,h2⟩;unfold aa';rw[dp];simp only;rw[if_neg (by rw[aU,h.1];simp;omega)];have:=P0 v.cells.toList 0 off cs;rw[UK]at this;rw[<- h1,<- this];congr 1;rw[<- Array.toList_zipIdx,Array.foldl_toList]
  ·cases e
def j8 (s:AS):List (Nat×Tl)->Option (List (Nat×AV))
 |[]=>some []
 |(i,x)::l=>match s.ev x,j8 s l with
  |some a,some aG=>some ((i,a)::aG)
  |_,_=>none
theorem Em{E:Env}{s:AS}{a:Act}(k:cj E s.T a.tmps):∀{l:List (Nat×Tl)}{aG:List (Nat×AV)},j8 s l=some aG->aG.length=(l.map λ(i,x)=>(i,a.eval x)).length/\∀(j:Nat) p q,aG[j]?=some p->(l.map λ(i,x)=>(i,a.eval x))[j]?=some q->p.1=q.1/\aq E p.2 q.2
 |[],aG,h=>by cases h;exact⟨rfl,by simp⟩
 |(i,x)::l,aG,h=>by
  simp only[j8]at h;split at h
  ·rename_i av l9 h1 h2;cases h;obtain⟨mT,lz⟩:=Em k h2;refine⟨by simpa using mT,λj p q e1 e2=> ?_⟩;cases j with
   |zero=>simp at e1 e2;subst e1 e2;exact⟨rfl,aq.ev k h1⟩
   |succ j=>exact lz j p q (by simpa using e1) (by simpa using e2)
  ·cases h
def qR (P:SK)(t:TypeId):Option (TypeId×Nat×SO):=match P.underlying t with
 |some (.slice e)=>(P.info? e).bind λi=>i.zero.map λz=>(e,i.size,z)
 |_=>none
def gM (z:SO)(m:Nat):List AV:=(S0 m).map λi=>AV.pB (z.cells[i % z.cells.size]!)
inductive ig where
 |fields (l:List (Nat×Nat))
 |elems (sz:Nat)
def ig.at:ig->Nat->Option (Nat×Nat)
 |.fields l,i=>l[i]?
 |.elems sz,i=>some (i* sz,sz)
def nW (P:SK)(t:TypeId):Option (ig×SO):=(eU P t).bind λz=>match P.underlying t with
 |some (.struct fs)=>(fs.toList.mapM λf=>(P.info? f.type).map λi=>(f.offset,i.size)).map λl=>(.fields l,z)
 |some (.array _ e)=>(P.info? e).map λi=>(.elems i.size,z)
 |_=>none
theorem ab4{P:SK}{V:View}{Kp:SO->View->Prop}:∀(fs:List YW)(l:List (Nat×Nat)){K:List (Nat×Nat)->View->Prop},fs.mapM (λf=>(P.info? f.type).map λi=>(f.offset,i.size))=some l->
  K l V->aR P V (fs.mapM λf=>(do pure (f.offset,<- sizeOf f.type):Sem (Nat×Nat))) K Kp
 |[],l,K,h,hk=>by
  simp at h;subst h;rw[UF];exact ay hk
 |f::fs,l,K,h,hk=>by
  simp only[Ue,Uf,TS,S_,Tm]at h;obtain⟨b,h1,bs,h2,rfl⟩:=h;obtain⟨i,hi,rfl⟩:=kX h1;rw[Ue];exact az (j3 hi (ay (az (ab4 fs bs h2 (ay hk)))))
theorem aok{t:TypeId}{parts:Array (Nat×Tl)}{pl:ig}{z:SO}{aG:List (Nat×AV)}{l:List AV}(ho:o.op=.build t parts)(ht:nW P t=some (pl,z))(hp:j8 s parts.toList=some aG)
  (hl:oh pl.at (l6 z) aG=some l):dh lv P r o s (.agg l):=
 iT (λE V a hc aF=>by
  unfold nW at ht;obtain⟨z',hz,ht⟩:=S_.1 ht;obtain⟨hlen,bp⟩:=Em aF hp;unfold execOp;rw[ho];dsimp only;refine az ?_;unfold Instr.build;refine G2 hz ?_;split at ht
  ·rename_i fs hu;obtain⟨lp,h1,h2⟩:=kX ht;cases h2;obtain⟨eV,nD,up⟩:=Bn (ID E z) hlen bp hl;refine ey hu ?_;dsimp only;have e:fs=fs.toList.toArray:=(by simp);rw[e,X4];refine az ?_;refine az (ab4 fs.toList lp h1 ?_);refine ay ?_;rw[VM];have e2:(λx=>lp.toArray[x]?)=ig.at (.fields lp):=(by funext x;simp[ig.at]);rw[e2,nD];exact ay (ay ⟨rfl,_,rfl,.agg up.1 up.2⟩)
  ·rename_i n e hu;obtain⟨i,h1,h2⟩:=kX ht;cases h2;obtain⟨eV,nD,up⟩:=Bn (ID E z) hlen bp hl;refine ey hu ?_;dsimp only;refine j3 h1 ?_;rw[VM];have e2:(λj=>some (j* i.size,i.size))=ig.at (.elems i.size):=rfl;rw[e2,nD];exact ay (ay ⟨rfl,_,rfl,.agg up.1 up.2⟩)
  ·cases ht)
theorem IC{E:Env}(z:SO)(m:Nat):cN E (gM z m) ((WK m).map (λx=>z.cells[x % z.cells.size]!)):=by
 refine⟨by simp[gM],λj x hx=> ?_⟩;unfold gM at hx;rw[Tj]at hx;obtain⟨k,hk,rfl⟩:=Tp.1 hx;have hj:j<m:=by have:=(SN.1 hk).1;simpa using this
 have hmj:k=j:=by rw[Xz hj]at hk;cases hk;rfl
 subst hmj;simp only[SI,WF,Array.getElem?_range,hj,if_true,UN,S8];exact Iy E _
theorem aol{t e:TypeId}{len sz:Nat}{z:SO}{parts:Array (Nat×Tl)}{aG:List (Nat×AV)}{l:List AV}(ho:o.op=.buildSlice t len parts)(ht:qR P t=some (e,sz,z))(aU:len* sz<=2^24)(hp:j8 s parts.toList=some aG)
  (hl:oh (ig.at (.elems sz)) (gM z (len* sz)) aG=some l):dh lv P r o s (.sl len l .exact):=by
 intro E V a N Q hc aF bz h1;unfold qR at ht;split at ht
 ·rename_i e' hu;obtain⟨i,hi,ht⟩:=S_.1 ht;obtain⟨z',hz,ht⟩:=Tp.1 ht;cases ht;refine⟨bz,?_⟩;unfold execOp;rw[ho];dsimp only;refine az ?_;unfold Instr.buildSlice;refine ey hu ?_;dsimp only;refine j3 hi ?_;rw[if_neg (by omega)];obtain⟨hlen,bp⟩:=Em aF hp;obtain⟨eV,nD,up⟩:=Bn (IC (E:=E) z (len* i.size)) hlen bp hl;have fin:∀(rr:Nat),V.fresh rr->aR P (V.upd rr (.cells eV e)) (pure (W6 (.slice (some ⟨rr,0,none⟩) len len))) (mG lv P r o a N Q) (λv V'=>Q (.panic [{v,recovered:=false}]) a V'):=λrr hf=>
   aR.ghost (ai2 hf (hc.aiR hf.1).1) (ay (h1 _ _ _ (hc.kv hf eV).1 rfl rfl (hc.kv hf eV).2 (aq.an9 hc hf up (SU _) rfl)))
  have e2:(λj=>some (j* i.size,i.size))=ig.at (.elems i.size):=rfl;rw[e2];by_cases h0:len* i.size=0
  ·rw[if_pos h0];refine az (ay ?_);rw[h0]at nD⊢;rw[show WK 0=#[]from rfl]at nD⊢;simp only[List.map_toArray,List.map_nil,VM]at nD⊢;rw[nD];unfold newRow;exact az (az (az (oI λrr hf=>cM (ay (ay (ay (fin rr hf)))))))
  ·rw[if_neg h0];refine az (az ?_);unfold typeInfo;refine az (qB (cM ?_));rw[hi];refine ay ?_;rw[hz];refine ay (az (ay ?_));rw[VM,nD];unfold newRow;exact az (az (az (oI λrr hf=>cM (ay (ay (ay (fin rr hf)))))))
 ·cases ht
end
open Go.Conc
def aaW (P:SK)(t:TypeId):Bool:=match P.underlying t with
 |some (.int _)=>false
 |some _=>true
 |none=>false
def jL (P:SK)(t t':TypeId):Option (TypeId×Nat×SO):=match P.underlying t with
 |some (.slice e)=>(P.info? e).bind λi=>i.zero.bind λz=>if z.cells.size=i.size/\i.bytes<=2^16/\i.bytes≠0/\aaW P t'=true then some (e,i.size,z)else none
 |_=>none
theorem jL.out{P:SK}{t t' e:TypeId}{sz:Nat}{z:SO}(h:jL P t t'=some (e,sz,z)):∃i d,P.underlying t=some (.slice e)/\P.info? e=some i/\i.zero=some z/\i.size=sz/\z.cells.size=sz/\i.bytes<=2^16/\i.bytes≠0/\P.underlying t'=some d/\(∀k,d≠ .int k):=by
 unfold jL at h;split at h
 ·rename_i e' hu;obtain⟨i,h1,h⟩:=S_.1 h;obtain⟨z',h2,h⟩:=S_.1 h;split at h
  ·rename_i hc;obtain⟨c1,c2,c3,c4⟩:=hc;cases h;unfold aaW at c4;split at c4
   ·cases c4
   ·rename_i d hd aC;exact⟨i,d,hu,h1,h2,rfl,c1,c2,c3,aC,λk e=>hd k e⟩
   ·cases c4
  ·cases h
 ·cases h
def AS.src (s:AS)(sz:Nat):AV->Option (Nat×List AV)
 |.sl m l _=>some (m,l.take (m* sz))
 |.bK id off m _=>match s.H[id]?with
  |some (.cells l _)|some (.part _ l _)|some (.own _ l _)=>some (m,(l.drop off).take (m* sz))
  |_=>none
 |_=>none
section
variable {P:SK}{E:Env}{V:View}{s:AS}{K:Array SO->View->Prop}{Kp:SO->View->Prop}
theorem Ei{l:List AV}{f:Nat->SO}{n:Nat}(hn:n<=l.length)(h:∀(i:Nat) x,l[i]?=some x->aq E x (f i)):cN E (l.take n) ((S0 n).map f).toArray:=by
 have:=IA hn h;cases this with
 |agg h1 h2=>exact⟨h1,h2⟩
theorem C6(hc:Conc E V s.H){av:AV}{v:SO}(hd:aq E av v){sz m k:Nat}{l:List AV}(h:s.src sz av=some (m,l))(hl:l.length=m* sz)(hk:k<=m)(hK:∀cs,cN E (l.take (k* sz)) cs->K cs V):aR P V (Vt sz k v) K Kp:=by
 have hks:k* sz<=m* sz:=Uc _ hk;cases hd with
 |sl b o cap f dT he h1 h2=>
  cases h;rename_i l _;simp only[T_]at hl;have e:(l.take (m* sz)).take (k* sz)=l.take (k* sz):=by rw[U1];congr 1;omega
  rw[e]at hK;unfold Vt;exact Ak (f:=f) (λhp=>(hc.Su (h1 0 (by omega))).1) (λj hj=>by unfold View.get;rw[<- hc.I,h1 j (by omega)]) (hK _ (Ei (by omega) h2))
 |nil he=>
  cases h;have:k=0:=by omega
  subst this;have hK:=hK #[] ⟨by simp,by simp⟩;unfold Vt;split
  ·rw[Z5];exact ay hK
  ·exact ay hK
  ·rename_i h;cases h
  ·rename_i a _ _ h1 h2 _;cases a with
   |none=>exact(h2 _ _ rfl).elim
   |some x=>exact(h1 _ _ _ rfl).elim
 |bK hi dT=>
  rename_i id off m' cap cap';simp only[AS.src]at h;cases hq:s.H[id]?with
  |none=>rw[hq]at h;cases h
  |some ob=>
   rw[hq]at h;cases ob with
   |cells l' el=>
    cases h;obtain⟨⟨cs,ho,hs,bp⟩,lM⟩:=hc.obj id _ hq;simp only[T_,Uk]at hl;have e:((l'.drop off).take (m* sz)).take (k* sz)=(l'.drop off).take (k* sz):=(by rw[U1];congr 1;omega);rw[e]at hK;unfold Vt;refine Ak (f:=λi=>cs.getD (off+i) undef) (λ_=>(hc.jk hq rfl).1) (λj hj=> ?_) (hK _ (Ei (by simp only[Uk];omega) λi x hx=> ?_))
    ·unfold View.get;rw[lM,ho];have hlt:off+j<cs.size:=(by omega);simp only[SI,SJ hlt,S8]
    ·rw[Ul]at hx;exact bp _ _ hx
   |part p l' el=>
    cases h;obtain⟨⟨cs,ho,⟨hs,bp⟩,nK⟩,lM⟩:=hc.obj id _ hq;simp only[T_,Uk]at hl;have e:((l'.drop off).take (m* sz)).take (k* sz)=(l'.drop off).take (k* sz):=(by rw[U1];congr 1;omega);rw[e]at hK;unfold Vt;refine Ak (f:=λi=>cs.getD (off+i) undef) (λ_=>(hc.jk hq rfl).1) (λj hj=> ?_) (hK _ (Ei (by simp only[Uk];omega) λi x hx=> ?_))
    ·have hlt:off+j<cs.size:=(by omega);unfold View.get;by_cases hp:off+j<p
     ·rw[nK _ hp];simp only[SI,SJ hlt,S8]
     ·rw[lM _ (by omega),ho];simp only[SI,SJ hlt,S8]
    ·rw[Ul]at hx;exact bp _ _ hx
   |own eJ l' el=>
    cases h;obtain⟨⟨cs,ho,⟨hs,bp⟩,_⟩,lM⟩:=hc.obj id _ hq;simp only[T_,Uk]at hl;have e:((l'.drop off).take (m* sz)).take (k* sz)=(l'.drop off).take (k* sz):=(by rw[U1];congr 1;omega);rw[e]at hK;unfold Vt;refine Ak (f:=λi=>cs.getD (off+i) undef) (λ_=>(hc.jk hq rfl).1) (λj hj=> ?_) (hK _ (Ei (by simp only[Uk];omega) λi x hx=> ?_))
    ·have hlt:off+j<cs.size:=(by omega);unfold View.get;rw[lM,ho];simp only[SI,SJ hlt,S8]
    ·rw[Ul]at hx;exact bp _ _ hx
   |_=>cases h
 |_=>cases h
theorem G7{av:AV}{v:SO}(hd:aq E av v){sz m:Nat}{l:List AV}(h:s.src sz av=some (m,l)):atK v=pure m:=by
 cases hd with
 |sl=>cases h;rfl
 |nil=>cases h;rfl
 |bK=>
  simp only[AS.src]at h;split at h
  ·cases h;rfl
  ·cases h;rfl
  ·cases h;rfl
  ·cases h
 |_=>cases h
end
theorem Qd(uS:Nat):∀(r c:Nat),c<=2* uS+200->Zm uS r c<=2* uS+200
 |0,c,h=>h
 |r+1,c,h=>by
  unfold Zm;split
  ·exact h
  ·exact Qd uS r _ (by omega)
theorem am7(uS cap:Nat)(h:cap<uS):W4 uS cap<=2* uS+200:=by
 unfold W4;split
 ·omega
 ·split
  ·omega
  ·exact Qd uS 4 cap (by omega)
theorem Bi{E:Env}{l m:List AV}{x y:Array SO}(h:cN E l x)(k:cN E m y):cN E (l++m) (x++y):=by
 refine⟨by simp[h.1,k.1],λi a e=> ?_⟩;by_cases hi:i<l.length
 ·rw[SW hi]at e;have:=h.2 i a e;rw[SI,Yc (by rw[h.1];exact hi)];rwa [SI]at this
 ·rw[Tg (by omega)]at e;have:=k.2 _ a e;rw[SI,X8 (by rw[h.1];omega),h.1];rwa [SI]at this
theorem MU{P:SK}{V:View}{α:Type}{K:α->View->Prop}{Kp:SO->View->Prop}{b:Bool}{k:Bool->Sem α}(hb:b=false)(h:aR P V (k false) K Kp):aR P V (pure b>>=k) K Kp:=by
 subst hb;exact az (ay h)
section
variable {P:SK}{E:Env}{V:View}{s:AS}{K:SO->View->Prop}{Kp:SO->View->Prop}
theorem ab0{n:Nat}{K:Unit->View->Prop}(h:K () V):aR P V (askRoom n) K Kp:=by
 unfold askRoom;split
 ·exact apL (cM h)
 ·exact ay h
theorem abZ(hc:Conc E V s.H){t t' e:TypeId}{sz n m cap:Nat}{z:SO}{base:Option U4}{av:AV}{v:SO}{ax:AV}{l l':List AV}{ty:TypeId}(ht:jL P t t'=some (e,sz,z))(hd:aq E ax (.slice base n cap))(dM:s.src sz ax=some (n,l))(cq:aq E av v)(hs:s.src sz av=some (m,l'))
  (hl:l.length=n* sz) (eS:l'.length=m* sz) (hb:n+m<=2^30) (Ke:cap<n+m)
  (hK:∀r cs cap',V.fresh r->cN E (l++l') (cs.extract 0 ((n+m)* sz))->n+m<=cap'->cs.size=cap'* sz->K (.slice (some ⟨r,0,none⟩) (n+m) cap') (V.upd r (.cells cs e))):aR P V (Vy #[t,t'] ty #[.slice base n cap,v]) K Kp:=by
 obtain⟨i,d,h1,h2,h3,h4,h5,h6,h7,h8,h9⟩:=jL.out ht;unfold Vy;simp only[Ve,Vp,UH];refine ey h1 ?_;dsimp only;refine j3 h2 ?_;rw[h4];refine ey h8 ?_;refine MU (by cases d<;>first|rfl|exact absurd rfl (h9 _)) ?_;simp only[TM,if_false,YF,if_true];rw[G7 cq hs];refine az (ay ?_);rw[if_neg (by omega)];refine yl h2 ?_;rw[if_neg (by intro hx;exact hx.2.elim (λx=>x.elim) h7)];refine yl h2 ?_;have dT:=am7 (n+m) cap Ke;have hmul:W4 (n+m) cap* i.bytes<=(2* 2^30+200)* 2^16:=ZQ (by omega) h6;rw[if_neg (by omega)];refine az (ab2 (λhf=>by cases hf) (λ_ t=>cM ?_));generalize jc:Zs (.appendCap (n+m) cap e) t=cap';have EV:n+m<=cap':=by rw[<- jc];exact Nat.le_add_right _ _
 refine yl h2 (az (ab0 (az ?_)));refine C6 hc hd dM hl (SU _) λyT JS=> ?_;refine az (C6 hc cq hs eS (SU _) λjx lf=> ?_);refine G2 (z:=z) (by unfold eU;rw[h2];exact h3) ?_;rw[<- hl,TP]at JS;rw[<- eS,TP]at lf;unfold newRow;refine az (az (oI λr hf=>cM (ay (ay ?_))));have ak8:yT.size=n* sz:=by rw[JS.1,hl]
 have zJ:jx.size=m* sz:=by rw[lf.1,eS]
 have aU:(yT++jx).size=(n+m)* sz:=by rw[XE,ak8,zJ,Vd]
 refine hK r _ cap' hf ?_ EV ?_
 ·have e1:(yT++jx++Xn z.cells (cap'-(n+m))).extract 0 ((n+m)* sz)=yT++jx:=by
   rw[<- aU];generalize yT++jx=q;apply VC;simp[Array.toList_extract,List.extract_eq_take_drop]
  rw[e1];exact Bi JS lf
 ·rw[XE,aU];have:(Xn z.cells (cap'-(n+m))).size=(cap'-(n+m))* sz:=by simp[Xn,h5]
  rw[this,<- Vd];congr 1;omega
theorem GZ(hc:Conc E V s.H){t t' e:TypeId}{sz n m cap:Nat}{z:SO}{base:Option U4}{av:AV}{v:SO}{en:End}{l l':List AV}{ty:TypeId}(ht:jL P t t'=some (e,sz,z))(hd:aq E (.sl n l en) (.slice base n cap))(cq:aq E av v)(hs:s.src sz av=some (m,l'))
  (hl:l.length=n* sz) (eS:l'.length=m* sz) (hb:n+m<=2^30) (Ke:cap<n+m)
  (hK:∀r cs cap',V.fresh r->cN E (l++l') (cs.extract 0 ((n+m)* sz))->n+m<=cap'->cs.size=cap'* sz->K (.slice (some ⟨r,0,none⟩) (n+m) cap') (V.upd r (.cells cs e))):aR P V (Vy #[t,t'] ty #[.slice base n cap,v]) K Kp:=
 abZ hc ht hd (by simp only[AS.src];rw[<- hl,TP]) cq hs hl eS hb Ke hK
theorem G0(hc:Conc E V s.H){t t' e:TypeId}{sz n cap:Nat}{z:SO}{base:Option U4}{av:AV}{v:SO}{l':List AV}{ty:TypeId}(ht:jL P t t'=some (e,sz,z))(cq:aq E av v)(hs:s.src sz av=some (0,l'))
  (eS:l'.length=0* sz) (hle:n<=cap) (hK:K (.slice base n cap) V):aR P V (Vy #[t,t'] ty #[.slice base n cap,v]) K Kp:=by
 obtain⟨i,d,h1,h2,h3,h4,h5,h6,h7,h8,h9⟩:=jL.out ht;unfold Vy;simp only[Ve,Vp,UH];refine ey h1 ?_;dsimp only;refine j3 h2 ?_;rw[h4];refine ey h8 ?_;refine MU (by cases d<;>first|rfl|exact absurd rfl (h9 _)) ?_;simp only[TM,if_false,YF,if_true];rw[G7 cq hs];refine az (ay ?_);rw[if_pos (by omega)];refine az (C6 hc cq hs eS (SU _) λjx lf=> ?_);have zJ:jx=#[]:=by
  have:=lf.1;apply Array.eq_empty_of_size_eq_zero;rw[this];simp
 subst zJ;rw[UK];cases base with
 |none=>exact ay hK
 |some a=>
  dsimp only;unfold storeCells;exact az (ay (ay hK))
theorem abY(hc:Conc E V s.H){t t' e:TypeId}{sz n m cap:Nat}{z:SO}{b:Nat}{av:AV}{v:SO}{l':List AV}{ty:TypeId}{cs:Array SO}{el:TypeId}(ht:jL P t t'=some (e,sz,z))(cq:aq E av v)(hs:s.src sz av=some (m,l'))
  (eS:l'.length=m* sz) (hle:n+m<=cap) (ho:V.own b=some (.cells cs el (0,0))) (aU:cap* sz<=cs.size) (hi:∀o,n* sz<=o->V.ab b o=none) (hg:V.role.group≠some b/\V.role.chan≠some b) (nH:∀a∈l',a.leaf=true)
  (hK:∀jx,cN E l' jx->K (.slice (some ⟨b,0,none⟩) (n+m) cap) (V.upd b (.cells (storeAt cs (n* sz) jx.toList) el (0,0)))):aR P V (Vy #[t,t'] ty #[.slice (some ⟨b,0,none⟩) n cap,v]) K Kp:=by
 obtain⟨i,d,h1,h2,h3,h4,h5,h6,h7,h8,h9⟩:=jL.out ht;unfold Vy;simp only[Ve,Vp,UH];refine ey h1 ?_;dsimp only;refine j3 h2 ?_;rw[h4];refine ey h8 ?_;refine MU (by cases d<;>first|rfl|exact absurd rfl (h9 _)) ?_;simp only[TM,if_false,YF,if_true];rw[G7 cq hs];refine az (ay ?_);rw[if_pos (by omega)];refine az (C6 hc cq hs eS (SU _) λjx lf=> ?_);rw[<- eS,TP]at lf;rw[add_plain];have uy:(n+m)* sz<=cap* sz:=Uc _ hle;rw[Vd]at uy;refine az (Am _ 0 V cs hg.1 hg.2 ho (λo h _=>hi o (by omega)) (by have:=lf.1;simp;omega) (Bj lf nH) ?_);rw[Wt,UK];exact ay (hK jx lf)
end
def Env.tok (E:Env)(I:cC)(rm:Option U4×Nat)(v:Nat):Env:={E with I:=I,n:=E.n+1,room:=λk u=>if k=E.n/\u=v then rm else E.room k u,fD:=λk=>if k=E.n then v else E.fD k}
theorem Env.LQ(E:Env){I:cC}(hI:∀b o v,E.I b o=some v->I b o=some v)(rm:Option U4×Nat)(v:Nat):E.Le (E.tok I rm v):=
 ⟨hI,Y1 _,λk hk=>rfl,λk hk=>by simp[Env.tok,Wa hk],λk u hk _=>by simp[Env.tok,Wa hk],rfl,rfl⟩
def Env.grow (E:Env)(I:cC)(k:Nat)(rm:Option U4×Nat)(v:Nat):Env:={E with I:=I,room:=λj u=>if j=k/\u=v then rm else E.room j u,fD:=λj=>if j=k then v else E.fD j}
theorem Env.aal(E:Env){I:cC}(hI:∀b o v,E.I b o=some v->I b o=some v){k:Nat}(rm:Option U4×Nat){v:Nat}(hv:E.fD k<v):E.Le (E.grow I k rm v):=
 ⟨hI,SU _,λ_ _=>rfl,λj _=>by
  simp only[Env.grow];split
  ·rename_i e;subst e;omega
  ·exact SU _,λj u _ hu=>by
  simp only[Env.grow];split
  ·rename_i e;obtain⟨rfl,rfl⟩:=e;omega
  ·rfl,rfl,rfl⟩
open Go.Conc
abbrev View.laid (V:View)(b:Nat)(cs:Array SO)(el:TypeId)(p:Nat->Bool):View:=(V.upd b (.cells cs el (0,0))).iz b cs p
theorem LM{V:View}{b b':Nat}{cs:Array SO}{el:TypeId}{p:Nat->Bool}(h:b'≠b):(V.laid b cs el p).own b'=V.own b':=by simp[View.laid,View.iz,View.upd,h]
theorem LK{V:View}{b b':Nat}{cs:Array SO}{el:TypeId}{p:Nat->Bool}(h:b'≠b)(o:Nat):(V.laid b cs el p).ab b' o=V.ab b' o:=by simp[View.laid,View.iz,View.upd,h]
theorem F9{V:View}{b:Nat}{cs:Array SO}{el:TypeId}{p:Nat->Bool}(hp:∀o,p o=true->V.ab b o=none):∀b' o v,V.ab b' o=some v->(V.laid b cs el p).ab b' o=some v:=λb' o v h=>by
 have hn:¬(b'=b/\p o=true):=λhb=>by obtain⟨rfl,h2⟩:=hb;rw[hp o h2]at h;cases h
 simp only[View.laid,View.iz,View.upd,if_neg hn];exact h
theorem F8{V:View}{b:Nat}{cs:Array SO}{el:TypeId}{p:Nat->Bool}{o:Nat}(h:p o=true):(V.laid b cs el p).ab b o=cs[o]?:=by simp[View.laid,View.iz,h]
theorem LN{V:View}{b:Nat}{cs:Array SO}{el:TypeId}{p:Nat->Bool}:(V.laid b cs el p).own b=some (.cells cs el (0,0)):=by simp[View.laid,View.iz,View.upd]
theorem Iz{E:Env}{I:cC}{b n cap:Nat}{cs:Array SO}{l:List AV}{e:End}{sz:Nat}(hI:E.I=I)(hd:cN E l (cs.extract 0 (n* sz)))(hl:l.length=n* sz)(hs:n* sz<=cs.size)(hi:∀o,o<n* sz->I b o=cs[o]?)(hc:n<=cap)(he:pH E e (some ⟨b,0,none⟩) n cap):aq E (.sl n l e) (.slice (some ⟨b,0,none⟩) n cap):=by
 refine .sl b 0 cap (λi=>cs.getD i undef) hc he (λi h=> ?_) (λi x hx=> ?_)
 ·rw[hl]at h;have hlt:i<cs.size:=by omega
  rw[hI,Wt,hi i h];simp only[SI,SJ hlt,S8]
 ·have cG:i<n* sz:=by rw[<- hl];exact(SN.1 hx).1
  have:=hd.2 i x hx;have hlt:i<cs.size:=by omega
  rw[SI,SJ hlt];rw[SI]at this;rw[Array.getElem?_extract]at this;have Fp:i<min (n* sz) cs.size:=by omega
  simpa[cG,hlt,Fp]using this
section
variable {E:Env}{V:View}{H:List aa}
theorem Conc.Nb(hc:Conc E V H){n:Nat}(sz:Nat)(el:TypeId)(a:Option U4):Conc (E.tok V.ab (a,n) n) V (H++[.tail n sz el])/\E.Le (E.tok V.ab (a,n) n):=by
 have hle:=E.LQ (I:=V.ab) (λb o v h=>by rw[<- hc.I];exact h) (a,n) n;refine⟨hc.iW H.length (.tail n sz el) hle rfl (by simp[Env.tok,hc.n]) CL rfl (λj hj _=>by simp[Env.tok,hc.n,hj]) (λb y _ hy=>⟨hy,λ_=>rfl⟩) ?_ (λb h=> ?_),hle⟩
 ·rw[<- hc.n];exact⟨by simp[Env.tok],.inl (by simp[Env.tok])⟩
 ·rw[<- hc.n]at h;simp[bN,Env.tok]at h
theorem Conc.acS(hc:Conc E V H){r n cap sz:Nat}{el:TypeId}{cs:Array SO}(hf:V.fresh r)(hs:cs.size=cap* sz)(hn:n<=cap):
  Conc (E.tok (V.laid r cs el (·<n* sz)).ab (some ⟨r,0,none⟩,cap) n) (V.laid r cs el (·<n* sz)) (H++[.tail n sz el])/\E.Le (E.tok (V.laid r cs el (·<n* sz)).ab (some ⟨r,0,none⟩,cap) n):=by
 have hle:=E.LQ (I:=(V.laid r cs el (·<n* sz)).ab) (λb o v h=>F9 (λo _=>hf.2 o) b o v (by rw[<- hc.I];exact h)) (some ⟨r,0,none⟩,cap) n;refine⟨hc.iW H.length (.tail n sz el) hle rfl (by simp[Env.tok,hc.n]) CL rfl (λj hj _=>by simp[Env.tok,hc.n,hj]) (λb y _ hy=> ?_) ?_ (λb h=> .inr ?_),hle⟩
 ·have hb:b≠r:=λe=>by subst e;rw[hf.1]at hy;cases hy
  exact⟨by rw[LM hb];exact hy,λo=>LK hb o⟩
 ·rw[<- hc.n];refine⟨by simp[Env.tok],?_⟩;by_cases e:cap=n
  ·exact .inl (by simp[Env.tok,e])
  ·refine .inr ⟨r,cap,cs,by simp[Env.tok],LN,hs,by omega,λo ho=> ?_⟩;have:¬(decide (o<n* sz)=true):=(by simpa using ho);simp only[View.laid,View.iz];rw[if_neg (λx=>this x.2)];exact hf.2 o
 ·rw[<- hc.n]at h;simp[bN,Env.tok]at h;obtain⟨_,rfl⟩:=h;exact hf.1
theorem Conc.ai6(hc:Conc E V H){k r n n' cap sz:Nat}{el gn:TypeId}{cs:Array SO}(hk:H[k]?=some (.tail n sz gn))(hf:V.fresh r)(hs:cs.size=cap* sz)(hn:n'<=cap)(hlt:n<n'):
  Conc (E.grow (V.laid r cs el (·<n'* sz)).ab k (some ⟨r,0,none⟩,cap) n') (V.laid r cs el (·<n'* sz)) (H.set k (.tail n' sz el))/\E.Le (E.grow (V.laid r cs el (·<n'* sz)).ab k (some ⟨r,0,none⟩,cap) n'):=by
 have zO:E.fD k=n:=(hc.obj k _ hk).1;have hle:=E.aal (I:=(V.laid r cs el (·<n'* sz)).ab) (λb o v h=>F9 (λo _=>hf.2 o) b o v (by rw[<- hc.I];exact h)) (k:=k) (some ⟨r,0,none⟩,cap) (v:=n') (by omega);refine⟨hc.iW k (.tail n' sz el) hle rfl (by simpa[Env.grow]using hc.n) lW rfl (λj hj _=>by simp[Env.grow,hj]) (λb y _ hy=> ?_) ?_ (λb h=> .inr ?_),hle⟩
 ·have hb:b≠r:=λe=>by subst e;rw[hf.1]at hy;cases hy
  exact⟨by rw[LM hb];exact hy,λo=>LK hb o⟩
 ·refine⟨by simp[Env.grow],?_⟩;by_cases e:cap=n'
  ·exact .inl (by simp[Env.grow,e])
  ·refine .inr ⟨r,cap,cs,by simp[Env.grow],LN,hs,by omega,λo ho=> ?_⟩;have:¬(decide (o<n'* sz)=true):=(by simpa using ho);simp only[View.laid,View.iz];rw[if_neg (λx=>this x.2)];exact hf.2 o
 ·simp[bN,Env.grow]at h;obtain⟨_,rfl⟩:=h;exact hf.1
theorem Conc.ai7(hc:Conc E V H){k b n n' cap sz:Nat}{el gn:TypeId}{cs eV:Array SO}(hk:H[k]?=some (.tail n sz gn))(hrm:E.room k n=(some ⟨b,0,none⟩,cap))(ho:V.own b=some (.cells cs el (0,0)))(hi:∀o,n* sz<=o->V.ab b o=none)(hs:eV.size=cap* sz)(hn:n'<=cap)(hlt:n<n'):
  Conc (E.grow (V.laid b eV el (λo=>n* sz<=o&&o<n'* sz)).ab k (some ⟨b,0,none⟩,cap) n') (V.laid b eV el (λo=>n* sz<=o&&o<n'* sz)) (H.set k (.tail n' sz el))/\E.Le (E.grow (V.laid b eV el (λo=>n* sz<=o&&o<n'* sz)).ab k (some ⟨b,0,none⟩,cap) n'):=by
 have zO:E.fD k=n:=(hc.obj k _ hk).1;have hp:∀o,(λo=>decide (n* sz<=o)&&decide (o<n'* sz)) o=true->V.ab b o=none:=λo h=>hi o (by simp at h;exact h.1);have hle:=E.aal (I:=(V.laid b eV el (λo=>n* sz<=o&&o<n'* sz)).ab) (λb o v h=>F9 hp b o v (by rw[<- hc.I];exact h)) (k:=k) (some ⟨b,0,none⟩,cap) (v:=n') (by omega);have kE:bN E k (.tail n sz gn)=some b:=by
  simp only[bN,hrm];rw[if_neg (by omega)];rfl
 refine⟨hc.iW k (.tail n' sz el) hle rfl (by simpa[Env.grow]using hc.n) lW rfl (λj hj _=>by simp[Env.grow,hj]) (λb' y fq hy=> ?_) ?_ (λb' h=> .inl ⟨_,hk,?_⟩),hle⟩
 ·have hb:b'≠b:=λe=>by subst e;exact fq _ hk kE
  exact⟨by rw[LM hb];exact hy,λo=>LK hb o⟩
 ·refine⟨by simp[Env.grow],?_⟩;by_cases e:cap=n'
  ·exact .inl (by simp[Env.grow,e])
  ·have Ce:n* sz<=n'* sz:=Uc _ (by omega);refine .inr ⟨b,cap,eV,by simp[Env.grow],LN,hs,by omega,λo aO=> ?_⟩;have:¬((decide (n* sz<=o)&&decide (o<n'* sz))=true):=(by simp;omega);simp only[View.laid,View.iz];rw[if_neg (λx=>this x.2)];exact hi o (by omega)
 ·simp[bN,Env.grow]at h;obtain⟨_,rfl⟩:=h;exact kE
end
section
variable {lv:Bool}{P:SK}{r:Option Nat}{o:Tx}{s:AS}{next:AS->Prop}{bad:AV->AS->Prop}
def Az (s:AS)(dst:Option Nat)(next:AS->Prop)(n m sz:Nat)(elem:TypeId)(l l':List AV):End->Prop
 |.exact=>next ((⟨s.T,s.H++[.tail (n+m) sz elem]⟩:AS).put dst (.sl (n+m) (l++l') (.opn s.H.length)))
 |.opn k=>(match s.H[k]?with
   |some (.tail n' eJ gn)=>n'=n/\eJ=sz/\gn=elem
   |_=>False)/\(∀a∈l',a.leaf=true)/\next ((⟨s.T,s.H.set k (.tail (n+m) sz elem)⟩:AS).put dst (.sl (n+m) (l++l') (.opn k)))
 |.shut=>m=0/\next (s.put dst (.sl n l .shut))
theorem agm{E E':Env}{n:Nat}{l:List AV}{en:End}{base:Option U4}{cap:Nat}(h:aq E (.sl n l en) (.slice base n cap))(hl:E.Le E'){e':End}(he:pH E' e' base n cap):aq E' (.sl n l e') (.slice base n cap):=by
 cases h with
 |sl b o cap f hc _ h1 h2=>exact .sl b o cap f hc he (λi hi=>hl.I _ _ _ (h1 i hi)) (λi x hx=>(h2 i x hx).mono hl)
 |nil _=>exact .nil he
theorem step_append{c:Xq}{x y:Tl}{t t' elem:TypeId}{sz n m:Nat}{z:SO}{en:End}{l l':List AV}{av:AV}(ho:o.op=.call c)(aY:c.callee=.builtin .append)(cP:c.args=#[x,y]) (dV:c.argTypes=#[t,t']) (ht:jL P t t'=some (elem,sz,z))
  (hx:s.ev x=some (.sl n l en)) (hy:s.ev y=some av) (hs:s.src sz av=some (m,l')) (hl:l.length=n* sz) (eS:l'.length=m* sz) (hb:n+m<=2^30) (hn:Az s o.dst next n m sz elem l l' en):Step lv P r o s next bad:=by
 intro E V a N Q hc aF hd bz h1 _;refine⟨bz,?_⟩;have dB:=aq.ev aF hx;have iN:=aq.ev aF hy;generalize ku:a.eval x=vx at dB;generalize rL:a.eval y=vy at iN;unfold execOp;rw[ho];dsimp only;unfold resolve;rw[aY];dsimp only;refine az (ay ?_);unfold invoke builtin;dsimp only;refine az ?_;have nI:c.args.map a.eval=#[vx,vy]:=by rw[cP];simp[ku,rL]
 rw[nI,dV];obtain⟨base,cap,rfl⟩:∃base cap,vx=.slice base n cap:=by
  cases dB with
  |sl b o cap f dT he q1 q2=>exact⟨_,_,rfl⟩
  |nil he=>exact⟨_,_,rfl⟩
 have dT:n<=cap:=by
  cases dB with
  |sl b o cap f dT he q1 q2=>exact dT
  |nil he=>exact SU _
 have fin:∀E' V' H' (mI:AV) v',E.Le E'->V'.role=V.role->V'.deaf=V.deaf->Conc E' V' H'->aq E' mI v'->next ((⟨s.T,H'⟩:AS).put o.dst mI)->aR P V' (pure (W6 v')) (mG lv P r o a N Q) (λv V'=>Q (.panic [{v,recovered:=false}]) a V'):=λE' V' H' mI v' hle hr ur ba bp dg=>
  ay (h1 E' V' (a.put o.dst v') ((⟨s.T,H'⟩:AS).put o.dst mI) ⟨hle,dP _ _ _,put_defers _ _ _,hr,ur⟩ (by rw[ft];exact ba) (cj.gZ (s:=⟨s.T,H'⟩) (aF.mono hle) hd bp) dg)
 have te:(l++l').length=(n+m)* sz:=by rw[SQ,hl,eS,Vd]
 cases en with
 |exact=>
  have gR:cap=n:=by
   cases dB with
   |sl b o cap f dT he q1 q2=>exact he
   |nil he=>rfl
  subst gR;have kH:=hn;simp only[Az]at kH;by_cases hm:m=0
  ·subst hm;have sX:l'=[]:=(by simpa using eS);subst sX;refine G0 hc ht iN hs eS (SU _) ?_;obtain⟨ba,hle⟩:=hc.Nb (n:=cap) sz elem base;refine fin _ V _ _ _ hle rfl rfl ba (agm (e':=.opn s.H.length) dB hle ⟨?_,?_,?_⟩) (by simpa using kH)
   ·simp[Env.tok,hc.n]
   ·simp[Env.tok,hc.n]
   ·simp[Env.tok,hc.n]
  ·refine GZ hc ht dB iN hs hl eS hb (by omega) λrr cs cap' hf bp hle aU=> ?_;obtain⟨ba,rz⟩:=hc.acS (el:=elem) hf aU hle;have uE:(cap+m)* sz<=cs.size:=(by rw[aU];exact Uc _ hle);refine aR.ghost (y8 (f:=(0,0)) (cs:=cs) (el:=elem) (p:=(·<(cap+m)* sz)) (by simp[View.upd]) (λo _=>hf.2 o)) ?_;refine fin _ _ _ _ _ rz rfl rfl ba (Iz (I:=(V.laid rr cs elem (·<(cap+m)* sz)).ab) (e:=.opn s.H.length) (sz:=sz) (cs:=cs) rfl (bp.mono rz) te uE (λo h=>F8 (by simpa using h)) hle ⟨?_,?_,?_⟩) kH
   ·simp[Env.tok,hc.n]
   ·simp[Env.tok,hc.n]
   ·simp[Env.tok,hc.n]
 |shut=>
  obtain⟨rfl,kH⟩:=hn;have sX:l'=[]:=by simpa using eS
  subst sX;refine G0 hc ht iN hs eS dT ?_;exact fin E V s.H _ _ (Env.Le.refl E) rfl rfl hc dB kH
 |opn k=>
  obtain⟨zw,nH,kH⟩:=hn;split at zw
  ·rename_i n' eJ gn hk;obtain⟨rfl,rfl,rfl⟩:=zw;have heo:pH E (.opn k) base n' cap:=by
    cases dB with
    |sl b o cap f dT he q1 q2=>exact he
    |nil he=>exact he
   obtain⟨e1,e2,e3⟩:=heo;obtain⟨zO,FG⟩:=hc.obj k _ hk;have zG:s.H.set k (.tail n' eJ gn)=s.H:=by
    apply Yo;intro i;by_cases hi:i=k
    ·subst hi;rw[W_ (SN.1 hk).1,hk]
    ·rw[T5 (Ne.symm hi)]
   by_cases hm:m=0
   ·subst hm;have sX:l'=[]:=(by simpa using eS);subst sX;refine G0 hc ht iN hs eS dT ?_;refine fin E V s.H _ _ (Env.Le.refl E) rfl rfl hc dB ?_;rw[UK,zG,SZ]at kH;exact kH
   ·by_cases p9:n'+m<=cap
    ·rcases FG with FG|⟨b,asE,cs,r1,r2,r3,r4,r5⟩
     ·rw[e3]at FG;simp only at FG;omega
     ·rw[e3]at r1;cases r1;have kE:bN E k (.tail n' eJ gn)=some b:=by
       simp only[bN,e3];rw[if_neg (by omega)];rfl
      refine abY hc ht iN hs eS p9 r2 (WI r3.symm) r5 (hc.jk hk kE) nH λjx lf=> ?_;have zJ:jx.toList.length=m* eJ:=(by have:=lf.1;simp;omega);have uy:(n'+m)* eJ<=cap* eJ:=Uc _ p9;rw[Vd]at uy;have FI:(storeAt cs (n'* eJ) jx.toList).size=cap* eJ:=(by rw[yn];exact r3);obtain⟨ba,rz⟩:=hc.ai7 hk e3 r2 r5 FI p9 (by omega);refine aR.ghost (y8 (f:=(0,0)) (cs:=storeAt cs (n'* eJ) jx.toList) (el:=gn) (p:=λo=>n'* eJ<=o&&o<(n'+m)* eJ) (by simp[View.upd]) (λo h=>r5 o (by simp at h;exact h.1))) ?_;refine fin _ _ _ _ _ rz rfl rfl ba ?_ kH;cases dB with
      |nil he=>exact absurd p9 (by omega)
      |sl b' o' cap f EV he q1 q2=>
       have q1':∀i,i<l.length->V.ab b i=some (f i):=λi hi=>(by have:=q1 i hi;rwa [hc.I,Wt]at this);refine .sl b 0 cap (λi=>if i<n'* eJ then f i else(storeAt cs (n'* eJ) jx.toList).getD i undef) (by omega) ⟨?_,?_,?_⟩ (λi hi=> ?_) (λi x hx=> ?_)
       ·exact e1
       ·simp[Env.grow]
       ·simp[Env.grow]
       ·rw[te,Vd]at hi;show (V.laid b (storeAt cs (n'* eJ) jx.toList) gn (λo=>n'* eJ<=o&&o<(n'+m)* eJ)).ab b (0+i)=_;rw[Wt];by_cases cG:i<n'* eJ
        ·rw[if_pos cG];exact F9 (λo h=>r5 o (by simp at h;exact h.1)) _ _ _ (q1' i (by omega))
        ·rw[if_neg cG,F8 (by simp[Vd];omega)];have hlt:i<(storeAt cs (n'* eJ) jx.toList).size:=(by rw[FI];omega);simp only[SI,SJ hlt,S8]
       ·by_cases cG:i<n'* eJ
        ·rw[SW (by omega)]at hx;rw[if_pos cG];exact(q2 i x hx).mono rz
        ·rw[Tg (by omega)]at hx;have uu:i-l.length<l'.length:=(SN.1 hx).1;rw[if_neg cG,Db _ _ _ _ (by rw[zJ,r3];omega),if_pos (by rw[zJ];omega)];have:=(lf.2 _ _ hx).mono rz;rw[hl]at this;simpa[SI,SE]using this
    ·refine GZ hc ht dB iN hs hl eS hb (by omega) λrr cs cap' hf bp hle aU=> ?_;obtain⟨ba,rz⟩:=hc.ai6 (el:=gn) (n':=n'+m) hk hf aU hle (by omega);have uE:(n'+m)* eJ<=cs.size:=(by rw[aU];exact Uc _ hle);refine aR.ghost (y8 (f:=(0,0)) (cs:=cs) (el:=gn) (p:=(·<(n'+m)* eJ)) (by simp[View.upd]) (λo _=>hf.2 o)) ?_;refine fin _ _ _ _ _ rz rfl rfl ba (Iz (I:=(V.laid rr cs gn (·<(n'+m)* eJ)).ab) (e:=.opn k) (sz:=eJ) (cs:=cs) rfl (bp.mono rz) te uE (λo h=>F8 (by simpa using h)) hle ⟨?_,?_,?_⟩) kH
     ·exact e1
     ·simp[Env.grow]
     ·simp[Env.grow]
  ·exact zw.elim
def Env.ij (E:Env)(r:Nat)(I:cC)(c:Nat):Env:={E with I:=I,n:=E.n+1,blk:=λk=>if k=E.n then r else E.blk k,room:=λk u=>if k=E.n/\u=0 then(none,c)else E.room k u}
theorem Env.CJ(E:Env)(r c:Nat){I:cC}(hI:∀b o v,E.I b o=some v->I b o=some v):E.Le (E.ij r I c):=
 ⟨hI,Y1 _,λk hk=>by simp[Env.ij,Wa hk],λ_ _=>SU _,λk u hk _=>by simp[Env.ij,Wa hk],rfl,rfl⟩
theorem Env.wX(E:Env)(r c:Nat)(I:cC):(E.ij r I c).blk E.n=r:=by simp[Env.ij]
theorem Env.HY(E:Env)(r c:Nat)(I:cC):(E.ij r I c).room E.n 0=(none,c):=by simp[Env.ij]
theorem Conc.ij{E:Env}{V:View}{H:List aa}(hc:Conc E V H){r c:Nat}(hf:V.fresh r){cs:Array SO}{sz:Nat}{l:List AV}{el:TypeId}(hd:j5 (E.ij r V.ab c) l cs)(hs:cs.size=c* sz):Conc (E.ij r V.ab c) (V.upd r (.cells cs el)) (H++[.own sz l el]):=by
 refine hc.iW (E':=E.ij r V.ab c) H.length (.own sz l el) (E.CJ r c (λb o v h=>by rw[<- hc.I];exact h)) rfl (by simp[Env.ij,hc.n]) CL rfl (λ_ _ _=>rfl) (λb z _ hz=>⟨?_,λ_=>rfl⟩) ?_ (λb h=> .inr ?_)
 ·have:b≠r:=λe=>by rw[e,hf.1]at hz;cases hz
  simpa[View.upd,this]using hz
 ·rw[<- hc.n];refine⟨⟨cs,by rw[Env.wX];simp[View.upd],hd,by rw[Env.HY];exact hs⟩,λo=> ?_⟩;rw[Env.wX];exact hf.2 o
 ·rw[<- hc.n]at h;simp only[bN,Env.wX,Tm]at h;subst h;exact hf.1
theorem Ix{E:Env}{H:List aa}(hn:E.n=H.length){r c n:Nat}(I:cC)(h:n<=c){cap:Nat}(oC:n<=cap)(hc:cap<=c)(h0:0<n):aq (E.ij r I c) (.bK H.length 0 n 0) (.slice (some ⟨r,0,none⟩) n cap):=by
 have:=aq.bK (E:=E.ij r I c) (id:=H.length) (off:=0) (n:=n) (cap:=0) (cap':=cap) (by show _<E.n+1;rw[hn];omega) ⟨oC,λe=>by omega,λ_=>by rw[<- hn,Env.HY];exact hc⟩;have e:(E.ij r I c).blk H.length=r:=by rw[<- hn];exact E.wX r c I
 rwa [e]at this
theorem Conc.relabel{E:Env}{V:View}{H:List aa}(hc:Conc E V H){id sz:Nat}{l:List AV}{el:TypeId}(hk:H[id]?=some (.own sz l el)):Conc (E.ij (E.blk id) V.ab (E.room id 0).2) V (H.set id .gone++[.own sz l el]):=by
 have hle:=E.CJ (E.blk id) (E.room id 0).2 (I:=V.ab) (λb o v h=>by rw[<- hc.I];exact h);have asW:=(SN.1 hk).1;have hlt:∀(j:Nat) y,H[j]?=some y->j<E.n:=λj y h=>by rw[hc.n];exact(SN.1 h).1
 have rq:∀(j:Nat) y,(H.set id .gone++[aa.own sz l el])[j]?=some y->(j=H.length/\y=.own sz l el)\/(j=id/\y=.gone)\/(j≠id/\H[j]?=some y):=λj y h=>by
  rcases CL j y h with⟨h1,h2⟩|⟨_,h⟩
  ·exact .inl ⟨by simpa using h1,h2⟩
  ·rcases lW j y h with h|h
   ·exact .inr (.inl h)
   ·exact .inr (.inr h)
 have bX:∀(j:Nat) y b,H[j]?=some y->bN (E.ij (E.blk id) V.ab (E.room id 0).2) j y=some b->bN E j y=some b:=λj y b h e=>by rw[<- Oy hle (hlt j y h) (hc.obj j y h)];exact e
 have v_:∀b,bN (E.ij (E.blk id) V.ab (E.room id 0).2) H.length (.own sz l el)=some b->b=E.blk id:=λb e=>by
  simp only[bN,<- hc.n,Env.wX,Tm]at e;exact e.symm
 have fq:∀g,(∀(k:Nat) x,H[k]?=some x->bN E k x≠some g)->∀(k:Nat) x,(H.set id .gone++[aa.own sz l el])[k]?=some x->bN (E.ij (E.blk id) V.ab (E.room id 0).2) k x≠some g:=λg h0 k x hx e=>by
  rcases rq k x hx with⟨rfl,rfl⟩|⟨_,rfl⟩|⟨_,hx⟩
  ·have:=v_ g e;exact h0 id _ hk (by rw[this];rfl)
  ·cases e
  ·exact h0 k x hx (bX k x g hx e)
 refine⟨rfl,by simp[Env.ij,hc.n],λj y h=> ?_,λi j y z b h1 h2 e1 e2=> ?_,λg hg=> ?_,λg hg=> ?_,λhm=>hc.top hm,λb y hf=> ?_⟩
 ·rcases rq j y h with⟨rfl,rfl⟩|⟨_,rfl⟩|⟨_,h⟩
  ·obtain⟨⟨cs,q1,q2,q3⟩,q4⟩:=hc.obj id _ hk;rw[<- hc.n];refine⟨⟨cs,by rw[Env.wX];exact q1,q2.mono hle,by rw[Env.HY];exact q3⟩,λo=> ?_⟩;rw[Env.wX];exact q4 o
  ·trivial
  ·exact(hc.obj j y h).mono hle (hlt j y h) rfl (λ_ _ _ h=>h) (λ_ _ _=>rfl)
 ·rcases rq i y h1 with⟨rfl,rfl⟩|⟨_,rfl⟩|⟨hi,h1⟩
  ·rcases rq j z h2 with⟨rfl,rfl⟩|⟨_,rfl⟩|⟨hj,h2⟩
   ·rfl
   ·cases e2
   ·have:=v_ b e1;exact absurd (hc.inj id j _ z b hk h2 (by rw[this];rfl) (bX j z b h2 e2)).symm hj
  ·cases e1
  ·rcases rq j z h2 with⟨rfl,rfl⟩|⟨_,rfl⟩|⟨hj,h2⟩
   ·have:=v_ b e2;exact absurd (hc.inj id i _ y b hk h1 (by rw[this];rfl) (bX i y b h1 e1)).symm hi
   ·cases e2
   ·exact hc.inj i j y z b h1 h2 (bX i y b h1 e1) (bX j z b h2 e2)
 ·obtain⟨h0,h1,h2⟩:=hc.group g hg;exact⟨h0,h1,fq g h2⟩
 ·obtain⟨h0,h1,h2⟩:=hc.chan g hg;exact⟨h0,h1,fq g h2⟩
 ·obtain⟨h0,h1,h2⟩:=hc.fr b y hf;exact⟨h0,h1,fq b h2⟩
theorem Conc.leave{E:Env}{V:View}{H:List aa}(hc:Conc E V H)(id:Nat):Conc E V (H.set id .gone):=
 hc.iW id .gone (Env.Le.refl E) hc.I (by simpa using hc.n) lW rfl (λ_ _ _=>rfl) (λ_ _ _ hy=>⟨hy,λ_=>rfl⟩) trivial (λb h=>by cases h)
theorem ago{E:Env}{l l':List AV}{cs vs:Array SO}(h:j5 E l cs)(k:cN E l' vs)(hl:l.length+l'.length<=cs.size):j5 E (l++l') (storeAt cs l.length vs.toList):=by
 have hv:vs.toList.length=l'.length:=by simpa using k.1
 refine⟨by rw[yn,SQ];exact hl,λi a e=> ?_⟩;rw[Db _ _ _ _ (by rw[hv];exact hl),hv];by_cases h1:i<l.length
 ·rw[if_neg (by omega)];rw[SW h1]at e;exact h.2 i a e
 ·rw[Tg (by omega)]at e;have h2:=(SN.1 e).1;rw[if_pos ⟨by omega,by omega⟩];have:=k.2 _ a e;simpa[SI,SE]using this
theorem O6{E:Env}{l:List AV}{cs:Array SO}{k:Nat}(h:cN E l (cs.extract 0 k))(hk:l.length=k)(hs:k<=cs.size):j5 E l cs:=by
 refine⟨by omega,λi a e=> ?_⟩;have hi:=(SN.1 e).1;have fV:i<cs.size:=by omega
 have:=h.2 i a e;rw[SI,Array.getElem?_extract_of_lt (by omega)]at this;rw[SI];simpa[SJ fV]using this
theorem acw{c:Xq}{x y:Tl}{t t' elem:TypeId}{sz n m:Nat}{z:SO}{l l':List AV}{av:AV}(ho:o.op=.call c)(aY:c.callee=.builtin .append)(cP:c.args=#[x,y]) (dV:c.argTypes=#[t,t']) (ht:jL P t t'=some (elem,sz,z))
  (hx:s.ev x=some (.sl n l .exact)) (hy:s.ev y=some av) (hs:s.src sz av=some (m,l')) (hl:l.length=n* sz) (eS:l'.length=m* sz) (hb:n+m<=2^30) (hm:0<m) (hn:next ((⟨s.T,s.H++[.own sz (l++l') elem]⟩:AS).put o.dst (.bK s.H.length 0 (n+m) 0))):Step lv P r o s next bad:=by
 intro E V a N Q hc aF hd bz h1 _;refine⟨bz,?_⟩;have dB:=aq.ev aF hx;have iN:=aq.ev aF hy;generalize ku:a.eval x=vx at dB;generalize rL:a.eval y=vy at iN;unfold execOp;rw[ho];dsimp only;unfold resolve;rw[aY];dsimp only;refine az (ay ?_);unfold invoke builtin;dsimp only;refine az ?_;have nI:c.args.map a.eval=#[vx,vy]:=by rw[cP];simp[ku,rL]
 rw[nI,dV];obtain⟨base,cap,rfl⟩:∃base cap,vx=.slice base n cap:=by
  cases dB with
  |sl b o cap f dT he q1 q2=>exact⟨_,_,rfl⟩
  |nil he=>exact⟨_,_,rfl⟩
 have gR:cap=n:=by
  cases dB with
  |sl b o cap f dT he q1 q2=>exact he
  |nil he=>rfl
 subst gR;refine GZ hc ht dB iN hs hl eS hb (by omega) λrr cs cap' hf bp hle aU=> ?_;have te:(l++l').length=(cap+m)* sz:=by rw[SQ,hl,eS,Vd]
 have uE:(cap+m)* sz<=cs.size:=by rw[aU];exact Uc _ hle
 have oB:E.Le (E.ij rr V.ab cap'):=E.CJ rr cap' (λb o v h=>by rw[<- hc.I];exact h);have ba:=hc.ij (el:=elem) (c:=cap') hf ((O6 bp te uE).mono oB) aU;have o4:=Ix hc.n (r:=rr) V.ab hle (n:=cap+m) (cap:=cap') hle (SU _) (by omega);exact ay (h1 _ _ (a.put o.dst _) _ ⟨oB,dP _ _ _,put_defers _ _ _,rfl,rfl⟩ (by rw[ft];exact ba) (cj.gZ (s:=⟨s.T,s.H++[.own sz (l++l') elem]⟩) (aF.mono oB) hd o4) hn)
theorem acv{c:Xq}{x y:Tl}{t t' elem el:TypeId}{sz n m c0 id:Nat}{z:SO}{l l':List AV}{av:AV}(ho:o.op=.call c)(aY:c.callee=.builtin .append)(cP:c.args=#[x,y]) (dV:c.argTypes=#[t,t']) (ht:jL P t t'=some (elem,sz,z))
  (hx:s.ev x=some (.bK id 0 n c0)) (xw:c0<n) (cu:s.H[id]?=some (.own sz l el)) (hel:el=elem) (hy:s.ev y=some av) (hs:s.src sz av=some (m,l')) (hl:l.length=n* sz) (eS:l'.length=m* sz) (hb:n+m<=2^30) (nH:∀a∈l',a.leaf=true) (hn:next ((⟨s.T,s.H.set id .gone++[.own sz (l++l') elem]⟩:AS).put o.dst (.bK s.H.length 0 (n+m) 0))):Step lv P r o s next bad:=by
 subst hel;intro E V a N Q hc aF hd bz h1 _;refine⟨bz,?_⟩;have dB:=aq.ev aF hx;have iN:=aq.ev aF hy;generalize ku:a.eval x=vx at dB;generalize rL:a.eval y=vy at iN;unfold execOp;rw[ho];dsimp only;unfold resolve;rw[aY];dsimp only;refine az (ay ?_);unfold invoke builtin;dsimp only;refine az ?_;have nI:c.args.map a.eval=#[vx,vy]:=by rw[cP];simp[ku,rL]
 rw[nI,dV];have ajT:=dB;have te:(l++l').length=(n+m)* sz:=by rw[SQ,hl,eS,Vd]
 have dM:s.src sz (.bK id 0 n c0)=some (n,l):=by
  simp only[AS.src];rw[cu];simp only[XA];rw[<- hl,TP]
 cases dB with
 |bK hi dT=>
  rename_i cap';obtain⟨q1,_,q3⟩:=dT;have q3:=q3 xw;obtain⟨⟨cs,p1,p2,p3⟩,p4⟩:=hc.obj id _ cu;by_cases p9:n+m<=cap'
  ·have mN:(n+m)* sz<=cap'* sz:=Uc _ p9;have xu:cap'* sz<=cs.size:=(by rw[p3];exact Uc _ q3);refine abY hc ht iN hs eS p9 p1 xu (λo _=>p4 o) (hc.jk cu rfl) nH λjx lf=> ?_;have JU:j5 E (l++l') (storeAt cs (n* sz) jx.toList):=by
    rw[<- hl];exact ago p2 lf (by rw[<- SQ,te];omega)
   have dt:=hc.acb cu JU (by rw[yn];exact p3);have rq:(s.H.set id (.own sz (l++l') el))[id]?=some (.own sz (l++l') el):=(by rw[W_ ((SN.1 cu).1)]);have cE:=dt.relabel rq;rw[W9]at cE;have oB:E.Le (E.ij (E.blk id) V.ab (E.room id 0).2):=E.CJ _ _ (λb o v h=>by rw[<- hc.I];exact h);have o4:aq (E.ij (E.blk id) V.ab (E.room id 0).2) (.bK s.H.length 0 (n+m) 0) (.slice (some ⟨E.blk id,0,none⟩) (n+m) cap'):=Ix hc.n V.ab (by omega) p9 q3 (by omega);exact ay (h1 _ _ (a.put o.dst _) _ ⟨oB,dP _ _ _,put_defers _ _ _,rfl,rfl⟩ (by rw[ft];exact cE) (cj.gZ (s:=⟨s.T,s.H.set id .gone++[.own sz (l++l') el]⟩) (aF.mono oB) hd o4) hn)
  ·refine abZ hc ht ajT dM iN hs hl eS hb (by omega) λrr eV Be hf bp hle aU=> ?_;have uE:(n+m)* sz<=eV.size:=(by rw[aU];exact Uc _ hle);have oB:E.Le (E.ij rr V.ab Be):=E.CJ rr Be (λb o v h=>by rw[<- hc.I];exact h);have EU:=hc.leave id;have ba:=EU.ij (el:=el) (c:=Be) hf ((O6 bp te uE).mono oB) aU;have o4:aq (E.ij rr V.ab Be) (.bK s.H.length 0 (n+m) 0) (.slice (some ⟨rr,0,none⟩) (n+m) Be):=Ix hc.n V.ab hle hle (SU _) (by omega);exact ay (h1 _ _ (a.put o.dst _) _ ⟨oB,dP _ _ _,put_defers _ _ _,rfl,rfl⟩ (by rw[ft];exact ba) (cj.gZ (s:=⟨s.T,s.H.set id .gone++[.own sz (l++l') el]⟩) (aF.mono oB) hd o4) hn)
end
open Go.Conc
theorem bI(n:Int)(h: -9223372036854775808<=n/\n<=9223372036854775807):SF.wrap n=n:=by
 have e:SF.wrap n=if n % 18446744073709551616>=9223372036854775808 then n % 18446744073709551616-18446744073709551616 else n % 18446744073709551616:=by
  unfold Xe;simp[atx,atw]
 rw[e];split<;>omega
def cD (P:SK){α:Type}(s:Sem α)(x:α):Prop:=∀w es,s.runT P w es=(.ok x w,es)
theorem cD.ok{P:SK}{α:Type}{V:View}{s:Sem α}{x:α}{K:α->View->Prop}{Kp:SO->View->Prop}(h:cD P s x)(hk:K x V):aR P V s K Kp:=
 λw hw e9=>⟨#[],w,V,by simpa[fL]using dj.idle hw,.inl ⟨x,by rw[h w e9];simp,hk⟩⟩
theorem cD.bind{P:SK}{α β:Type}{V:View}{s:Sem α}{x:α}{f:α->Sem β}{K:β->View->Prop}{Kp:SO->View->Prop}(h:cD P s x)(hk:aR P V (f x) K Kp):aR P V (s>>=f) K Kp:=
 az (h.ok hk)
def AV.vr:AV->Option Int
 |.val (.int _ n)=>some n
 |_=>none
theorem aq.vr{E:Env}{a:AV}{v:SO}{n:Int}(hd:aq E a v)(h:a.vr=some n):∃k,v=.int k n:=by
 cases hd with
 |val x=>unfold AV.vr at h;split at h<;>simp_all
 |_=>cases h
def AS.i_ (s:AS):Option Tl->Option (Option Int)
 |none=>some none
 |some x=>match s.ev x with
  |some a=>a.vr.map some
  |none=>none
theorem yO{E:Env}{s:AS}{a:Act}(k:cj E s.T a.tmps){x:Option Tl}{i:Option Int}(h:s.i_ x=some i):(i=none/\x.map a.eval=none)\/∃n kd,i=some n/\x.map a.eval=some (.int kd n):=by
 cases x with
 |none=>cases h;exact .inl ⟨rfl,rfl⟩
 |some x=>
  simp only[AS.i_]at h;split at h
  ·rename_i av hav;obtain⟨n,hn,rfl⟩:=kX h;obtain⟨kd,hv⟩:=(aq.ev k hav).vr hn;exact .inr ⟨n,kd,rfl,by simp[hv]⟩
  ·cases h
section
variable {P:SK}{V:View}{Kp:SO->View->Prop}
theorem Al{kd:TU}{n:Int}{y:Nat}{code:BoundsCode}{K:Nat->View->Prop}(h0:0<=n)(h1:n<=y)(h:K n.toNat V):aR P V (Zk (.int kd n) y code) K Kp:=by
 unfold Zk asIntOf;refine az (ay ?_);dsimp only;rw[if_pos ⟨h0,h1⟩];exact ay h
theorem MV{E:Env}{s:AS}{a:Act}(k:cj E s.T a.tmps){isS:Bool}{len cap:Nat}{lo hi mx:Option Tl}{l h m:Option Int}(hl:s.i_ lo=some l)(hh:s.i_ hi=some h)(hm:s.i_ mx=some m){K:Nat×Nat×Nat->View->Prop}
  (hlc:len<=cap) (c0:0<=l.getD 0) (c1:l.getD 0<=h.getD len) (c2:h.getD len<=m.getD cap) (c3:m.getD cap<=cap) (c4:m.isSome=true->h.isSome=true) (hK:K ((l.getD 0).toNat,(h.getD len).toNat,(m.getD cap).toNat) V):
  aR P V (Y' isS len cap (lo.map a.eval) (hi.map a.eval) (mx.map a.eval)) K Kp:=by
 unfold Y';rcases yO k hm with⟨rfl,em⟩|⟨vm,km,rfl,em⟩
 ·rw[em];refine az (ay ?_);rcases yO k hh with⟨rfl,eh⟩|⟨vh,kh,rfl,eh⟩
  ·rw[eh];refine az (ay ?_);rcases yO k hl with⟨rfl,el⟩|⟨vl,kl,rfl,el⟩
   ·rw[el];exact az (ay (ay (by simpa using hK)))
   ·rw[el];simp only[S8,Vm]at c0 c1 c2;exact az (Al c0 c1 (ay (by simpa using hK)))
  ·rw[eh];simp only[S8,Vm]at c0 c1 c2 c3;refine az (Al (by omega) c2 ?_);rcases yO k hl with⟨rfl,el⟩|⟨vl,kl,rfl,el⟩
   ·rw[el];exact az (ay (ay (by simpa using hK)))
   ·rw[el];simp only[S8,Vm]at c0 c1 c2;exact az (Al c0 (by omega) (ay (by simpa using hK)))
 ·rw[em];simp only[S8,Option.isSome_some,true_implies]at c2 c3 c4;rcases yO k hh with⟨rfl,eh⟩|⟨vh,kh,rfl,eh⟩
  ·cases c4
  ·rw[eh];simp only[S8]at c1 c2 c0;refine az (Al (by omega) c3 ?_);refine az (Al (by omega) (by omega) ?_);rcases yO k hl with⟨rfl,el⟩|⟨vl,kl,rfl,el⟩
   ·rw[el];exact az (ay (ay (by simpa using hK)))
   ·rw[el];simp only[S8]at c0 c1;exact az (Al c0 (by omega) (ay (by simpa using hK)))
end
def wS (n:Nat)(l:List AV)(e:End)(sz:Nat)(lo hi mx:Option Int)(k:AV->Prop):Prop:=
 l.length=n* sz/\0<=lo.getD 0/\lo.getD 0<=hi.getD n/\hi.getD n<=mx.getD n/\mx.getD n<=n/\(mx.isSome=true->hi.isSome=true)/\
 k (.sl ((hi.getD n).toNat-(lo.getD 0).toNat) ((l.drop ((lo.getD 0).toNat* sz)).take (((hi.getD n).toNat-(lo.getD 0).toNat)* sz))
  (if mx.isSome&&mx.getD n==hi.getD n then .exact else if lo.getD 0==0&&hi.getD n==n&&mx.isNone then e else .shut))
def kA (P:SK)(t:TypeId):Option (TypeId×Nat):=match P.underlying t with
 |some (.slice e)=>(P.info? e).map λi=>(e,i.size)
 |_=>none
def wP (P:SK)(t:TypeId):Option (Nat×Nat):=match P.underlying t with
 |some (.array n e)=>(P.info? e).map λi=>(n,i.size)
 |_=>none
open Go.Conc
section
variable {lv:Bool}{P:SK}{r:Option Nat}{o:Tx}{s:AS}{next:AS->Prop}{bad:AV->AS->Prop}
theorem aoL{t e:TypeId}{x:Tl}{lo hi mx:Option Tl}{l h m:Option Int}{n sz:Nat}{li:List AV}{en:End}(ho:o.op=.slice t x lo hi mx)(ht:kA P t=some (e,sz))(hx:s.ev x=some (.sl n li en))(hl:s.i_ lo=some l)(hh:s.i_ hi=some h)(hm:s.i_ mx=some m)
  {k:AV->Prop} (hc:wS n li en sz l h m k):∃av,dh lv P r o s av/\k av:=by
 obtain⟨hlen,c0,c1,c2,c3,c4,hk⟩:=hc;refine⟨_,iT (λE V a hc aF=> ?_),hk⟩;have hd:=aq.ev aF hx;generalize hv:a.eval x=v at hd;unfold kA at ht;split at ht
 ·rename_i e' hu;obtain⟨i,cG,ht⟩:=kX ht;cases ht;unfold execOp;rw[ho];simp only[hv];refine az ?_;unfold Yk;refine ey hu ?_;dsimp only;unfold Z2;refine ey hu ?_;obtain⟨base,cap,rfl⟩:∃base cap,v=.slice base n cap:=by
   cases hd with
   |sl b o cap f dT he q1 q2=>exact⟨_,_,rfl⟩
   |nil he=>exact⟨_,_,rfl⟩
  have dT:n<=cap:=by
   cases hd with
   |sl b o cap f dT he q1 q2=>exact dT
   |nil he=>exact SU _
  dsimp only;have hmm:m.getD (cap:Int)=if m.isSome then m.getD n else cap:=by cases m<;>simp
  refine az (MV aF hl hh hm dT c0 c1 ?_ ?_ c4 ?_)
  ·cases m with
   |none=>simp only[Vm]at c2⊢;omega
   |some m=>simpa using c2
  ·cases m with
   |none=>simp
   |some m=>simp only[S8]at c3⊢;omega
  refine j3 cG ?_;refine ay (ay ⟨rfl,_,rfl,?_⟩);generalize hA:(l.getD 0).toNat=A;generalize hB:(h.getD (n:Int)).toNat=B;have Qe:A<=B:=by omega
  have hBn:B<=n:=by omega
  generalize hM:(m.getD (cap:Int)).toNat=M;have hBM:B<=M:=by
   cases m with
   |none=>simp only[Vm]at hM;omega
   |some m=>simp only[S8]at hM c2;omega
  cases hd with
  |nil he=>
   have EE:A=0:=(by omega);have hB0:B=0:=(by omega);have hM0:M=0:=by
    cases m with
    |none=>simp only[Vm]at hM;omega
    |some m=>simp only[S8]at hM c3;omega
   rw[EE,hB0,hM0];simp only[if_true,Z0,Z5,an_];refine .nil ?_;split
   ·rfl
   ·split
    ·exact he
    ·trivial
  |sl b o cap f dT he q1 q2=>
   have BK:(if M=A then some (⟨b,o,none⟩:U4)else(some (⟨b,o,none⟩:U4)).map λx=>x.add (A* i.size))=some ⟨b,if M=A then o else o+A* i.size,none⟩:=by
    split
    ·rfl
    ·simp only[UN,add_plain]
   rw[BK];have hb:(B-A)* i.size+A* i.size<=n* i.size:=(by rw[<- Vd];exact Uc _ (by omega));refine .sl b _ (M-A) (λj=>f (A* i.size+j)) (by omega) ?_ (λj hj=> ?_) (λj y hj=> ?_)
   ·split
    ·rename_i hx;simp only[Ti,beq_iff_eq]at hx;cases m with
     |none=>simp at hx
     |some m=>
      simp only[S8]at hM hx;show M-A=B-A;omega
    ·split
     ·rename_i hx;simp only[Ti,beq_iff_eq]at hx;obtain⟨⟨x1,x2⟩,x3⟩:=hx;have:A=0:=(by omega);have:B=n:=(by omega);cases m with
      |some m=>cases x3
      |none=>
       simp only[Vm]at hM;have hMc:M=cap:=(by omega);subst hMc;have e1:M-A=M:=(by omega);have e2:B-A=n:=(by omega);have e3:(if M=A then o else o+A* i.size)=o:=(by split<;>simp_all);rw[e1,e2,e3];exact he
     ·trivial
   ·simp only[T_,Uk]at hj;have hMA:M≠A:=by
     intro e;have:B-A=0:=(by omega);rw[this]at hj;omega
    rw[if_neg hMA,XG];exact q1 _ (by omega)
   ·rw[Ua]at hj;split at hj
    ·rw[Ul]at hj;exact q2 _ _ hj
    ·cases hj
 ·cases ht
def su (id off n cap sz:Nat)(lo hi mx:Option Int)(k:AV->Prop):Prop:=
 n<=cap/\0<=lo.getD 0/\lo.getD 0<=hi.getD n/\hi.getD n<=mx.getD cap/\mx.getD cap<=cap/\(mx.isSome=true->hi.isSome=true)/\(lo.getD 0=0\/lo.getD 0<mx.getD cap)/\
 k (.bK id (off+(lo.getD 0).toNat* sz) ((hi.getD n).toNat-(lo.getD 0).toNat) ((mx.getD cap).toNat-(lo.getD 0).toNat))
theorem aoN{t e:TypeId}{x:Tl}{lo hi mx:Option Tl}{l h m:Option Int}{id off n cap sz:Nat}(ho:o.op=.slice t x lo hi mx)(ht:kA P t=some (e,sz))(hx:s.ev x=some (.bK id off n cap))(hl:s.i_ lo=some l)(hh:s.i_ hi=some h)(hm:s.i_ mx=some m)
  {k:AV->Prop} (hc:su id off n cap sz l h m k):∃av,dh lv P r o s av/\k av:=by
 obtain⟨hlen,c0,c1,c2,c3,c4,c5,hk⟩:=hc;refine⟨_,iT (λE V a hc aF=> ?_),hk⟩;have hd:=aq.ev aF hx;generalize hv:a.eval x=v at hd;unfold kA at ht;split at ht
 ·rename_i e' hu;obtain⟨i,cG,ht⟩:=kX ht;cases ht;unfold execOp;rw[ho];simp only[hv];refine az ?_;unfold Yk;refine ey hu ?_;dsimp only;unfold Z2;refine ey hu ?_;cases hd with
  |bK cu dT=>
   rename_i cap';obtain rfl:cap=cap':=dT.2.1 hlen;dsimp only;refine az (MV aF hl hh hm hlen c0 c1 c2 c3 c4 ?_);refine j3 cG ?_;refine ay (ay ⟨rfl,_,rfl,?_⟩);have BK:(if(m.getD (cap:Int)).toNat=(l.getD 0).toNat then some (⟨E.blk id,off,none⟩:U4)else(some (⟨E.blk id,off,none⟩:U4)).map λx=>x.add ((l.getD 0).toNat* i.size))=some ⟨E.blk id,off+(l.getD 0).toNat* i.size,none⟩:=by
    split
    ·have:(l.getD 0).toNat=0:=(by omega);rw[this];simp
    ·simp only[UN,add_plain]
   rw[BK];exact .bK cu ⟨by dsimp only;omega,λ_=>rfl,λh=>absurd h (by omega)⟩
 ·cases ht
theorem aoM{t:TypeId}{x:Tl}{lo hi mx:Option Tl}{l h m:Option Int}{id off n sz:Nat}(ho:o.op=.slice t x lo hi mx)(ht:wP P t=some (n,sz))(hx:s.ev x=some (.op id off))(hl:s.i_ lo=some l)(hh:s.i_ hi=some h)(hm:s.i_ mx=some m)
  {k:AV->Prop} (hc:su id off n n sz l h m k):∃av,dh lv P r o s av/\k av:=by
 obtain⟨hlen,c0,c1,c2,c3,c4,c5,hk⟩:=hc;refine⟨_,iT (λE V a hc aF=> ?_),hk⟩;have hd:=aq.ev aF hx;generalize hv:a.eval x=v at hd;unfold wP at ht;split at ht
 ·rename_i m' e' hu;obtain⟨i,cG,ht⟩:=kX ht;cases ht;unfold execOp;rw[ho];simp only[hv];refine az ?_;unfold Yk;refine ey hu ?_;cases hd with
  |op cu=>
   dsimp only;unfold Va;refine az (ay ?_);refine az (MV aF hl hh hm hlen c0 c1 c2 c3 c4 ?_);refine j3 cG ?_;refine ay (ay ⟨rfl,_,rfl,?_⟩);have BK:(if(m.getD (n:Int)).toNat=(l.getD 0).toNat then(⟨E.blk id,off,none⟩:U4)else(⟨E.blk id,off,none⟩:U4).add ((l.getD 0).toNat* i.size))=⟨E.blk id,off+(l.getD 0).toNat* i.size,none⟩:=by
    split
    ·have:(l.getD 0).toNat=0:=(by omega);rw[this];simp
    ·rw[add_plain]
   rw[BK];exact .bK cu ⟨by dsimp only;omega,λ_=>rfl,λh=>absurd h (by omega)⟩
 ·cases ht
theorem aqs{c:Xq}{x y:Tl}{t t' e:TypeId}{id off n cap sz m:Nat}{l l':List AV}{el:TypeId}{av:AV}(ho:o.op=.call c)(aY:c.callee=.builtin .copy)(cP:c.args=#[x,y]) (dV:c.argTypes=#[t,t']) (ht:kA P t=some (e,sz)) (hx:s.ev x=some (.bK id off n cap))
  (hk:s.H[id]?=some (.cells l el)) (hy:s.ev y=some av) (hs:s.src sz av=some (m,l')) (eS:l'.length=m* sz) (hl:off+min m n* sz<=l.length) (nH:∀a∈l',a.leaf=true)
  (hn:next ((⟨s.T,s.H.set id (.cells (iF l off (l'.take (min m n* sz))) el)⟩:AS).put o.dst (.val (.int .i64 (min m n:Nat))))):Step lv P r o s next bad:=by
 intro E V a N Q hc aF hd bz h1 _;refine⟨bz,?_⟩;have dB:=aq.ev aF hx;have iN:=aq.ev aF hy;generalize ku:a.eval x=vx at dB;generalize rL:a.eval y=vy at iN;unfold execOp;rw[ho];dsimp only;unfold resolve;rw[aY];dsimp only;refine az (ay ?_);unfold invoke builtin;dsimp only;refine az ?_;have nI:c.args.map a.eval=#[vx,vy]:=by rw[cP];simp[ku,rL]
 rw[nI,dV];unfold kA at ht;split at ht
 ·rename_i e' hu;obtain⟨i,cG,ht⟩:=kX ht;cases ht;cases dB with
  |bK cu _=>
   obtain⟨⟨cs,p1,p2⟩,p3⟩:=hc.obj id _ hk;obtain⟨g1,g2⟩:=hc.jk hk rfl;unfold atM;simp only[Ve,Vp,UH];refine ey hu ?_;dsimp only;rw[G7 iN hs];refine az (ay ?_);refine j3 cG ?_;refine az (C6 hc iN hs eS (ZG _ _) λjx lf=> ?_);have h2:(l'.take (min m n* i.size)).length=min m n* i.size:=by
    have:min m n* i.size<=m* i.size:=Uc _ (ZG _ _);simp;omega
   refine az (Am _ 0 V cs g1 g2 p1 (λo _ _=>p3 o) (by
    have hq:jx.size=min m n* i.size:=(by(rw[lf.1];exact h2));have:=p2.1;simp only[Array.length_toList];omega) (Bj lf (λa ha=>nH a (Wu ha))) ?_)
   rw[UK];refine ay (ay (h1 E _ (a.put o.dst _) _ ⟨Env.Le.refl E,dP _ _ _,put_defers _ _ _,rfl,rfl⟩ (by rw[ft];exact hc.set hk (IB p2 lf (by rw[h2];exact hl)))
    (cj.gZ (s:=⟨s.T,s.H.set id (.cells (iF l off (l'.take (min m n* i.size))) el)⟩) aF hd (.val _)) hn))
 ·cases ht
def AJ (P:SK)(t:TypeId):Option (TypeId×Nat×SO):=match P.underlying t with
 |some (.slice e)=>(P.info? e).bind λi=>i.zero.bind λz=>if z.cells.size=i.size/\i.bytes<=2^16 then some (e,i.size,z)else none
 |_=>none
theorem acA{t e:TypeId}{x y:Tl}{n sz:Nat}{z:SO}{k k':TU}(ho:o.op=.makeSlice t x y)(ht:AJ P t=some (e,sz,z))(hx:s.ev x=some (.val (.int k n)))(hy:s.ev y=some (.val (.int k' n)))(hb:n<=2^30)
  (hn:next ((⟨s.T,s.H++[.cells (gM z (n* sz)) e]⟩:AS).put o.dst (.bK s.H.length 0 n n))):Step lv P r o s next bad:=by
 intro E V a N Q hc aF hd bz h1 _;refine⟨bz,?_⟩;have dB:=aq.ev aF hx;have iN:=aq.ev aF hy;generalize ku:a.eval x=vx at dB;generalize rL:a.eval y=vy at iN;cases dB;cases iN;unfold AJ at ht;split at ht
 ·rename_i e' hu;obtain⟨i,q1,ht⟩:=S_.1 ht;obtain⟨z',q2,ht⟩:=S_.1 ht;split at ht
  ·rename_i xy;cases ht;unfold execOp;rw[ho];simp only[ku,rL];refine az ?_;unfold Instr.makeSlice;refine ey hu ?_;dsimp only;refine az (ay ?_);refine az (ay ?_);refine yl q1 ?_;have hw:SF.wrap (n:Int)=n:=bI _ (by omega);rw[hw];have hmul:i.bytes* n<=2^16* 2^30:=ZQ xy.2 hb;have as0:(i.bytes:Int)* n<=2^46:=(by exact_mod_cast hmul);rw[if_neg (by simp;omega)];refine az (ab0 ?_);refine j3 q1 ?_;rw[Vz];have fin:∀(zero:Array SO),(∀j,j<n* i.size->zero[j % zero.size]! =z.cells[j % z.cells.size]!)->aR P V (do let a<- newRow e ((WK (n* i.size)).map (zero[· % zero.size]!));pure (Ur (some a) n n)) (λx V'=>aR P V' (pure (W6 x)) (mG lv P r o a N Q) (λv V'=>Q (.panic [{v,recovered:=false}]) a V')) (λv V'=>Q (.panic [{v,recovered:=false}]) a V'):=by
    intro zero hz;unfold newRow;refine az (az (oI λrr hf=>cM (ay (ay (ay ?_)))));have hle:E.Le (E.add rr V.ab):=E.qw rr (λb o v h=>by rw[<- hc.I];exact h);have ajw:(WK (n* i.size)).map (zero[· % zero.size]!)=(WK (n* i.size)).map (λx=>z.cells[x % z.cells.size]!):=by
     apply VC;simp only[VM];apply VA;intro j hj;exact hz j (by simpa using hj)
    rw[ajw];have ba:Conc (E.add rr V.ab) (V.upd rr (.cells ((WK (n* i.size)).map (λx=>z.cells[x % z.cells.size]!)) e)) (s.H++[.cells (gM z (n* i.size)) e]):=by
     refine hc.add hf _ ⟨⟨_,?_,IC z _⟩,λo=> ?_⟩ (λb e=> ?_)
     ·rw[Env.dL];simp[View.upd]
     ·rw[Env.dL];exact hf.2 o
     ·simp only[bN,Env.dL,Tm]at e;exact e.symm
    have bp:aq (E.add rr V.ab) (.bK s.H.length 0 n n) (.slice (some ⟨rr,0,none⟩) n n):=by
     have:=aq.bK (E:=E.add rr V.ab) (id:=s.H.length) (off:=0) (n:=n) (cap:=n) (cap':=n) (by show _<E.n+1;rw[hc.n];omega) ⟨SU _,λ_=>rfl,λh=>absurd h (ai_ _)⟩;have e:(E.add rr V.ab).blk s.H.length=rr:=(by rw[<- hc.n];exact E.dL rr _);rwa [e]at this
    exact h1 _ _ (a.put o.dst _) ((⟨s.T,s.H++[.cells (gM z (n* i.size)) e]⟩:AS).put o.dst (.bK s.H.length 0 n n)) ⟨hle,dP _ _ _,put_defers _ _ _,rfl,rfl⟩ (by rw[ft];exact ba)
     (cj.gZ (s:=⟨s.T,s.H++[.cells (gM z (n* i.size)) e]⟩) (aF.mono hle) hd bp) hn
   by_cases h0:n* i.size=0
   ·rw[if_pos h0];refine az (ay ?_);exact fin #[] (λj hj=>by omega)
   ·rw[if_neg h0];refine az (az ?_);unfold typeInfo;refine az (qB (cM ?_));rw[q1];refine ay ?_;rw[q2];refine ay (az (ay ?_));exact fin z.cells (λj _=>rfl)
  ·cases ht
 ·cases ht
def AV.Af:AV->Option SO
 |.val x=>some x
 |_=>none
def AV.raw:AV->Option SO
 |.val x=>some x
 |.agg l=>(l.mapM AV.Af).map λvs=> .agg vs.toArray
 |_=>none
theorem aq.Af{E:Env}{a:AV}{v x:SO}(h:aq E a v)(hr:a.Af=some x):v=x:=by
 cases h<;>cases hr;rfl
theorem aq.raw{E:Env}{a:AV}{v x:SO}(h:aq E a v)(hr:a.raw=some x):v=x:=by
 cases h with
 |val=>cases hr;rfl
 |agg hs h=>
  obtain⟨vs,h1,rfl⟩:=kX hr;congr 1;rename_i l cs;have key:∀(l:List AV)(vs:List SO)(cs:List SO),l.mapM AV.Af=some vs->cs.length=l.length->(∀(i:Nat) a,l[i]?=some a->aq E a (cs.getD i undef))->cs=vs:=by
   intro l;induction l with
   |nil=>intro vs cs h1 h2 _;simp at h1;subst h1;simpa using h2
   |cons a l ih=>
    intro vs cs h1 h2 h3;simp only[Ue,Uf,TS,S_,Tm]at h1;obtain⟨b,e1,bs,e2,rfl⟩:=h1;cases cs with
    |nil=>simp at h2
    |cons c cs=>
     have hc:=(h3 0 a rfl).Af e1;have:=ih bs cs e2 (by simpa using h2) (λi x hx=>by simpa using h3 (i+1) x (by simpa using hx));subst this;simp only[Xp]at hc;rw[hc]
  have:=key l vs cs.toList h1 (by simpa using hs) (λi a e=>by have:=h i a e;rw[SI]at this;simpa[SE]using this);rw[<- this]
 |_=>cases hr
def xc:SO->SO->Bool
 |.agg _,.agg _=>true
 |.bool _,.bool _=>true
 |_,_=>false
theorem aoo{op:VZ}{xt yt:TypeId}{x y:Tl}{a b:AV}{X Y:SO}{e:Bool}(ho:o.op=.binOp op xt x y yt)(au:op=.eql\/op=.neq)(hx:s.ev x=some a)(hy:s.ev y=some b)(hX:a.raw=some X)(hY:b.raw=some Y)(hk:xc X Y=true)(hg:P.eqGuardType P.depth xt=false)(he:cD P (Xj xt X Y) e):
  dh lv P r o s (.val (.bool (if op== .neq then !e else e))):=
 iT (λE V ac hc aF=>by
  have e1:=(aq.ev aF hx).raw hX;have e2:=(aq.ev aF hy).raw hY;unfold execOp;rw[ho];simp only[e1,e2];refine az ?_;have guard:∀{K:Unit->View->Prop},K () V->aR P V (eqGuard op xt x y X Y) K (λ_ _=>False):=λhK=>by
   unfold eqGuard;unfold xc at hk;split at hk
   ·rcases au with rfl|rfl
    all_goals
     simp only[am',TM,if_false];refine az (qB (cM ?_));refine az (qB (cM ?_));rw[hg];exact ay hK
   ·rcases au with rfl|rfl<;>exact ay hK
   ·cases hk
  refine az (guard ?_);unfold xc at hk;split at hk
  ·rcases au with rfl|rfl<;>(unfold binOp;refine he.bind (ay (ay ⟨rfl,_,rfl,?_⟩));exact .val _)
  ·rcases au with rfl|rfl<;>(unfold binOp;refine he.bind (ay (ay ⟨rfl,_,rfl,?_⟩));exact .val _)
  ·cases hk)
theorem agU{t:TypeId}{v:SO}{b:Bool}{V:View}{K:Bool->View->Prop}{Kp:SO->View->Prop}(ht:mq P t=some true)(hv:(v=.nilIface/\b=true)\/((∃u x,v=.iface u x)/\b=false))(hk:K b V):aR P V (Xj t v .nilIface) K Kp:=by
 obtain⟨el,hu⟩:∃el,P.underlying t=some (.interface el):=by
  unfold mq at ht;cases h:P.underlying t with
  |none=>rw[h]at ht;cases ht
  |some d=>
   rw[h]at ht;cases d<;>first|exact⟨_,rfl⟩|(simp at ht)
 have e:Xj t v .nilIface=U_ (9999+1) t v .nilIface:=rfl;rw[e,U_];refine ey hu ?_;rcases hv with⟨rfl,rfl⟩|⟨⟨u,x,rfl⟩,rfl⟩
 ·exact ay hk
 ·exact ay hk
theorem abB{op:VZ}{xt yt:TypeId}{x:Tl}{a:AV}{b:Bool}(ho:o.op=.binOp op xt x (.const .nilIface) yt)(au:op=.eql\/op=.neq)(hx:s.ev x=some a)(ha:(a=.val .nilIface/\b=true)\/((∃u y,a=.c9 u y)/\b=false))(ht:mq P xt=some true):
  dh lv P r o s (.val (.bool (if op== .neq then !b else b))):=
 iT (λE V ac hc aF=>by
  have hd:=aq.ev aF hx;generalize ku:ac.eval x=vx at hd;have hv:(vx=.nilIface/\b=true)\/((∃u y,vx=.iface u y)/\b=false):=by
   rcases ha with⟨rfl,rfl⟩|⟨⟨u,y,rfl⟩,rfl⟩
   ·cases hd;exact .inl ⟨rfl,rfl⟩
   ·cases hd;exact .inr ⟨⟨_,_,rfl⟩,rfl⟩
  have hy:ac.eval (.const .nilIface)=.nilIface:=rfl;unfold execOp;rw[ho];simp only[ku,hy];refine az ?_;have guard:∀{K:Unit->View->Prop},K () V->aR P V (eqGuard op xt x (.const .nilIface) vx .nilIface) K (λ_ _=>False):=λhK=>by
   unfold eqGuard;rcases hv with⟨rfl,_⟩|⟨⟨u,y,rfl⟩,_⟩<;>rcases au with rfl|rfl<;>first|exact ay hK|(simp;exact ay hK)
  refine az (guard ?_);rcases hv with⟨rfl,rfl⟩|⟨⟨u,y,rfl⟩,rfl⟩<;>rcases au with rfl|rfl<;>(unfold binOp;refine az (agU (b:=_) ht (by first|exact .inl ⟨rfl,rfl⟩|exact .inr ⟨⟨_,_,rfl⟩,rfl⟩) (ay (ay ⟨rfl,_,rfl,?_⟩)));exact .val _))
theorem Po{t:TypeId}{d:TypeId×Nat}{b:Option U4}{n cap:Nat}{V:View}{K:Bool->View->Prop}{Kp:SO->View->Prop}(ht:kA P t=some d)(hk:K b.isNone V):aR P V (Xj t (.slice b n cap) (.slice none 0 0)) K Kp:=by
 obtain⟨el,hu⟩:∃el,P.underlying t=some (.slice el):=by
  unfold kA at ht;split at ht
  ·rename_i e he;exact⟨e,he⟩
  ·cases ht
 have e:Xj t (.slice b n cap) (.slice none 0 0)=U_ (9999+1) t (.slice b n cap) (.slice none 0 0):=rfl;rw[e,U_];refine ey hu ?_;cases b with
 |none=>exact ay hk
 |some a=>exact ay hk
theorem aqz{op:VZ}{t yt:TypeId}{x:Tl}{n:Nat}{av:AV}{d:TypeId×Nat}(ho:o.op=.binOp op t x (.const (.slice none 0 0)) yt)(au:op=.eql\/op=.neq)(hx:s.ev x=some av)(hlen:av.len=some n)(ht:kA P t=some d)
  (hn:∀b:Bool,(0<n->b=false)->next (s.put o.dst (.val (.bool (if op== .neq then !b else b))))):Step lv P r o s next bad:=by
 intro E V a N Q hc aF hd bz h1 _;refine⟨bz,?_⟩;have dB:=aq.ev aF hx;generalize ku:a.eval x=vx at dB;obtain⟨base,cap,rfl,hb⟩:∃base cap,vx=.slice base n cap/\(0<n->base.isNone=false):=by
  cases dB with
  |sl b o cap f dT he q1 q2=>cases hlen;exact⟨_,_,rfl,λ_=>rfl⟩
  |nil he=>cases hlen;exact⟨_,_,rfl,λh=>absurd h (by omega)⟩
  |bK hi=>cases hlen;exact⟨_,_,rfl,λ_=>rfl⟩
  |_=>cases hlen
 unfold execOp;rw[ho];have hy:a.eval (.const (.slice none 0 0))=.slice none 0 0:=rfl;simp only[ku,hy];have fin:aR P V (pure (W6 (.bool (if op== .neq then !base.isNone else base.isNone)))) (mG lv P r o a N Q) (λv V'=>Q (.panic [{v,recovered:=false}]) a V'):=
  ay (h1 E V (a.put o.dst _) _ ⟨Env.Le.refl E,dP _ _ _,put_defers _ _ _,rfl,rfl⟩ (by rw[ft];exact hc) (aF.gZ hd (.val _)) (hn _ hb))
 rcases au with rfl|rfl
 ·refine az (az (ay ?_));unfold binOp;exact az (Po ht (ay fin))
 ·refine az (az (ay ?_));unfold binOp;exact az (Po ht (ay fin))
theorem aoD{c:Xq}{x y:Tl}{k j:TU}{m n:Int}(ho:o.op=.call c)(aY:c.callee=.builtin .max)(cP:c.args=#[x,y]) (hx:s.ev x=some (.val (.int k m))) (hy:s.ev y=some (.val (.int j n))):dh lv P r o s (.val (.int k (if n>m then n else m))):=
 rU (λE V a hc aF=>by
  have h1:=aq.ev aF hx;have h2:=aq.ev aF hy;generalize ly:a.eval x=v1 at h1;generalize tg:a.eval y=v2 at h2;cases h1;cases h2;refine⟨_,?_,.val _⟩;unfold execOp;rw[ho];dsimp only;unfold resolve;rw[aY];have nI:c.args.map a.eval=#[.int k m,.int j n]:=by rw[cP];simp[ly,tg]
  rw[nI];rfl)
theorem aoE{c:Xq}{x y:Tl}{k j:TU}{m n:Int}(ho:o.op=.call c)(aY:c.callee=.builtin .min)(cP:c.args=#[x,y]) (hx:s.ev x=some (.val (.int k m))) (hy:s.ev y=some (.val (.int j n))):dh lv P r o s (.val (.int k (if n<m then n else m))):=
 rU (λE V a hc aF=>by
  have h1:=aq.ev aF hx;have h2:=aq.ev aF hy;generalize ly:a.eval x=v1 at h1;generalize tg:a.eval y=v2 at h2;cases h1;cases h2;refine⟨_,?_,.val _⟩;unfold execOp;rw[ho];dsimp only;unfold resolve;rw[aY];have nI:c.args.map a.eval=#[.int k m,.int j n]:=by rw[cP];simp[ly,tg]
  rw[nI];rfl)
theorem abA{x:Tl}{xt aG t:TypeId}{ok:Bool}{av:AV}{z:SO}(ho:o.op=.typeAssert x xt aG ok)(ht:mq P aG=some false)(hz:eU P aG=some z)(hx:s.ev x=some (.c9 t av))(am:ok=true\/t=aG):
  dh lv P r o s (if t=aG then(if ok then .aJ [av,.val (.bool true)]else av)else .aJ [AV.of z,.val (.bool false)]):=
 iT (λE V a hc aF=>by
  have hd:=aq.ev aF hx;generalize hv:a.eval x=v at hd;cases hd with
  |c9 hd=>
   obtain⟨d,hu,fH⟩:=kX ht;unfold execOp;rw[ho];simp only[hv];refine az ?_;unfold Zj;refine ey hu ?_;split
   ·rename_i h;cases fH
   ·rename_i h;cases fH
   ·rename_i h;cases h
   ·rename_i t' v' h;cases h;by_cases e:t=aG
    ·rw[if_pos e,if_pos e];cases ok
     ·exact ay (ay ⟨rfl,_,rfl,hd⟩)
     ·refine ay (ay ⟨rfl,_,rfl,.aJ rfl λi b hb=> ?_⟩)
      match i,hb with
      |0,hb=>cases hb;exact hd
      |1,hb=>cases hb;exact .val _
    ·rw[if_neg e,if_neg e];have pn:ok=true:=am.resolve_right e;subst pn;simp only[if_true];refine az (az ?_);unfold eU at hz;obtain⟨inf,z1,z2⟩:=S_.1 hz;unfold typeInfo;refine az (qB (cM ?_));rw[z1];refine ay ?_;rw[z2];refine ay (ay (ay ⟨rfl,_,rfl,.aJ rfl λi b hb=> ?_⟩))
     match i,hb with
     |0,hb=>cases hb;exact sF E z
     |1,hb=>cases hb;exact .val _
   ·exfalso;simp_all)
theorem aoi{x:Tl}{xt aG:TypeId}{z:SO}(ho:o.op=.typeAssert x xt aG true)(ht:mq P aG=some false)(hz:eU P aG=some z)(hx:s.ev x=some (.val .nilIface)):dh lv P r o s (.aJ [AV.of z,.val (.bool false)]):=
 iT (λE V a hc aF=>by
  have hd:=aq.ev aF hx;generalize hv:a.eval x=v at hd;cases hd;obtain⟨d,hu,fH⟩:=kX ht;unfold execOp;rw[ho];simp only[hv];refine az ?_;unfold Zj;refine ey hu ?_;unfold eU at hz;obtain⟨inf,z1,z2⟩:=S_.1 hz;split
  ·rename_i h;cases fH
  ·rename_i h;cases h
  ·simp only[if_true];refine az (az ?_);unfold typeInfo;refine az (qB (cM ?_));rw[z1];refine ay ?_;rw[z2];refine ay (ay (ay ⟨rfl,_,rfl,.aJ rfl λi b hb=> ?_⟩))
   match i,hb with
   |0,hb=>cases hb;exact sF E z
   |1,hb=>cases hb;exact .val _
  ·rename_i h;cases h
  ·exfalso;simp_all)
def HS (P:SK)(t:TypeId)(name:String):Prop:=∀v,cD P (nilAhead (P.types.size+Made.depth) t v name) (some false)
theorem aoH{x:Tl}{name:String}{t:TypeId}{av:AV}(ho:o.op=.nilCheck x)(hx:s.ev x=some (.fn (.method name) [.c9 t av] []))(hn:HS P t name):dh lv P r o s (.fn (.method name) [.c9 t av] []):=
 iT (λE V a hc aF=>by
  have hd:=aq.ev aF hx;unfold execOp;rw[ho];dsimp only;generalize hv:a.eval x=v at hd⊢;have cq:=hd;cases hd with
  |fn dD fY h1 h2=>
   rename_i fa ca;have hfa:fa.size=1:=dD;have:=h1 0 _ rfl;rw[SI,SJ (by omega)]at this;simp only[S8]at this;have hg:fa[0]?=some fa[0]:=SJ (by omega);generalize hq:fa[0]=q at this hg;cases this with
   |c9 jF=>
    dsimp only;rw[hg];dsimp only;refine az (qB (cM ?_));refine(hn _).bind ?_;simp only[bne_self_eq_false,TM,if_false];exact ay ⟨rfl,_,rfl,cq⟩)
def oO (P:SK)(t:TypeId):Option (TypeId×TypeId):=match P.underlying t with
 |some (.map k e)=>some (k,e)
 |_=>none
def wB (es:Array Wm)(ck:Nat)(k x:SO):Option (Nat×SO)->Obj
 |none=> .map (es.push {key:=k,val:=x,born:=ck}) (ck+1)
 |some (i,_)=> .map (es.modify i λe=>{e with key:=k,val:=x}) ck
theorem aqv{t kt et:TypeId}{m k x:Tl}{id ck:Nat}{es:Array Wm}{a b:AV}{K X:SO}{fd:Option (Nat×SO)}(ho:o.op=.mapUpdate t m k x\/o.op=.insert t m k x)(ht:oO P t=some (kt,et))(hm:s.ev m=some (.mp id))(hk:s.ev k=some a)(hx:s.ev x=some b)(hK:a.raw=some K)(hX:b.raw=some X)
  (hH:s.H[id]?=some (.obj (.map es ck))) (hc:cD P (Vb false 10000 kt K) ()) (hf:cD P (VN kt K es.toList) fd) (FH:∀i v,fd=some (i,v)->WB 10000 (((es[i]?).map (·.key)).getD K) K=true)
  (hn:next ((⟨s.T,s.H.set id (.obj (wB es ck K X fd))⟩:AS).put o.dst (.val undef))):Step lv P r o s next bad:=by
 intro E V ac N Q jc aF hd bz h1 _;refine⟨bz,?_⟩;have e1:=(aq.ev aF hk).raw hK;have e2:=(aq.ev aF hx).raw hX;have o0:=aq.ev aF hm;generalize xT:ac.eval m=vm at o0;cases o0;obtain⟨p1,p2,p3,p4⟩:=jc.obj id _ hH;obtain⟨g1,g2⟩:=jc.jk hH rfl;have go:aR P V (do Zt t (.map (some (E.blk id))) K X;pure Next.skip) (mG lv P r o ac N Q) (λv V'=>Q (.panic [{v,recovered:=false}]) ac V'):=by
  refine az ?_;unfold oO at ht;split at ht
  ·rename_i k' e' hu;cases ht;unfold Zt;refine ey hu ?_;dsimp only;refine az (nV p1 p2 p3 g2 (cM ?_));dsimp only;refine hc.bind (hf.bind ?_);have fin:∀y,y=wB es ck K X fd->aR P V (setObj (E.blk id) y) (λ_ V'=>aR P V' (pure Next.skip) (mG lv P r o ac N Q) (λv V'=>Q (.panic [{v,recovered:=false}]) ac V')) (λv V'=>Q (.panic [{v,recovered:=false}]) ac V'):=λy hy=>by
    have fZ:y.uL=false:=(by rw[hy];cases fd<;>rfl);have hy2:y.isChan=false:=(by rw[hy];cases fd<;>rfl);refine yk p1 p2 hy2 g2 (cM (ay ?_));exact h1 E _ (ac.put o.dst undef) _ ⟨Env.Le.refl E,dP _ _ _,put_defers _ _ _,rfl,rfl⟩ (by rw[ft];rw[hy];exact jc.setObj hH (by cases fd<;>rfl) (by cases fd<;>rfl))
     (cj.gZ (s:=⟨s.T,s.H.set id (.obj (wB es ck K X fd))⟩) aF hd (.val undef)) hn
   cases fd with
   |none=>exact fin _ rfl
   |some iv=>
    obtain⟨i,v⟩:=iv;dsimp only;unfold Instr.keyThatStays;rw[FH i v rfl];simp only[if_true];exact az (ay (fin _ rfl))
  ·cases ht
 unfold execOp;rcases ho with ho|ho
 all_goals
  rw[ho];simp only[xT,e1,e2];exact go
def Eg (es:Array Wm):Option (Nat×SO)->Array Wm
 |some (i,_)=>es.eraseIdxIfInBounds i
 |none=>es
theorem aqt{c:Xq}{t t' kt et:TypeId}{m k:Tl}{id ck:Nat}{es:Array Wm}{a:AV}{K:SO}{fd:Option (Nat×SO)}(ho:o.op=.call c)(aY:c.callee=.builtin .delete)(cP:c.args=#[m,k]) (dV:c.argTypes=#[t,t']) (ht:oO P t=some (kt,et)) (hm:s.ev m=some (.mp id)) (hk:s.ev k=some a) (hK:a.raw=some K)
  (hH:s.H[id]?=some (.obj (.map es ck))) (hc:cD P (Vb es.isEmpty 10000 kt K) ()) (hf:cD P (VN kt K es.toList) fd)
  (hn:next ((⟨s.T,s.H.set id (.obj (.map (Eg es fd) ck))⟩:AS).put o.dst (.val undef))):Step lv P r o s next bad:=by
 intro E V ac N Q jc aF hd bz h1 _;refine⟨bz,?_⟩;have e1:=(aq.ev aF hk).raw hK;have o0:=aq.ev aF hm;generalize xT:ac.eval m=vm at o0;cases o0;obtain⟨p1,p2,p3,p4⟩:=jc.obj id _ hH;obtain⟨g1,g2⟩:=jc.jk hH rfl;unfold execOp;rw[ho];dsimp only;unfold resolve;rw[aY];dsimp only;refine az (ay ?_);unfold invoke builtin;dsimp only;refine az ?_;have nI:c.args.map ac.eval=#[.map (some (E.blk id)),K]:=by rw[cP];simp[xT,e1]
 rw[nI,dV];unfold oO at ht;split at ht
 ·rename_i k' e' hu;cases ht;unfold atL;simp only[Ve,Vp,UH];refine ey hu ?_;dsimp only;refine az (nV p1 p2 p3 g2 (cM ?_));dsimp only;refine hc.bind (hf.bind ?_);have fin:∀uf,uf=(Eg es fd)->aR P V (setObj (E.blk id) (.map uf ck)) (λ_ V'=>aR P V' (pure (YJ #[])) (λx V'=>aR P V' (pure (W6 x)) (mG lv P r o ac N Q) (λv V'=>Q (.panic [{v,recovered:=false}]) ac V')) (λv V'=>Q (.panic [{v,recovered:=false}]) ac V')) (λv V'=>Q (.panic [{v,recovered:=false}]) ac V'):=λy hy=>by
   refine yk p1 p2 rfl g2 (cM (ay (ay ?_)));exact h1 E _ (ac.put o.dst undef) _ ⟨Env.Le.refl E,dP _ _ _,put_defers _ _ _,rfl,rfl⟩ (by rw[ft];rw[hy];exact jc.setObj hH rfl rfl)
    (cj.gZ (s:=⟨s.T,s.H.set id (.obj (.map (Eg es fd) ck))⟩) aF hd (.val undef)) hn
  cases fd with
  |none=>exact az (fin _ rfl)
  |some iv=>exact az (fin _ rfl)
 ·cases ht
theorem aqy{t kt et:TypeId}{x:Tl}{m ck:Nat}{es:Array Wm}(ho:o.op=.range t x)(ht:oO P t=some (kt,et))(hx:s.ev x=some (.mp m))(hH:s.H[m]?=some (.obj (.map es ck)))
  (hn:next ((⟨s.T,s.H++[.iter m ck #[] ck]⟩:AS).put o.dst (.op s.H.length 0))):Step lv P r o s next bad:=by
 intro E V ac N Q hc aF hd bz h1 _;refine⟨bz,?_⟩;have o0:=aq.ev aF hx;generalize xT:ac.eval x=vm at o0;cases o0 with
 |mp hm=>
  obtain⟨p1,p2,p3,p4⟩:=hc.obj m _ hH;obtain⟨g1,g2⟩:=hc.jk hH rfl;unfold execOp;rw[ho];simp only[xT];refine az ?_;unfold oO at ht;split at ht
  ·rename_i k' e' hu;cases ht;unfold Instr.range;refine ey hu ?_;refine az (nV p1 p2 p3 g2 (cM ?_));dsimp only;refine az (ay ?_);refine az (oI λrr hf=>cM (ay (ay ?_)));have hle:E.Le (E.add rr V.ab):=E.qw rr (λb o v h=>by rw[<- hc.I];exact h);have ba:Conc (E.add rr V.ab) (V.upd rr (.mapIter (some (E.blk m)) ck #[] ck)) (s.H++[.iter m ck #[] ck]):=by
    refine hc.add hf _ ⟨?_,?_,λo=> ?_⟩ (λb e=> ?_)
    ·exact Nat.lt_succ_of_lt hm
    ·rw[Env.dL,hle.blk m hm];simp[View.upd]
    ·rw[Env.dL];exact hf.2 o
    ·simp only[bN,Env.dL,Tm]at e;exact e.symm
   exact h1 _ _ (ac.put o.dst (.pointer (some ⟨rr,0,none⟩))) ((⟨s.T,s.H++[.iter m ck #[] ck]⟩:AS).put o.dst (.op s.H.length 0)) ⟨hle,dP _ _ _,put_defers _ _ _,rfl,rfl⟩ (by rw[ft];exact ba)
    (cj.gZ (s:=⟨s.T,s.H++[.iter m ck #[] ck]⟩) (aF.mono hle) hd (O2 hc.n rr V.ab)) hn
  ·cases ht
theorem Conc.setIter{E:Env}{V:View}{H:List aa}(hc:Conc E V H){id m a c:Nat}{b:Array Nat}(hk:H[id]?=some (.iter m a b c))(a':Nat)(b':Array Nat)(c':Nat):Conc E (V.upd (E.blk id) (.mapIter (some (E.blk m)) a' b' c')) (H.set id (.iter m a' b' c')):=by
 obtain⟨p1,p2,p4⟩:=hc.obj id _ hk;refine hc.iW id (.iter m a' b' c') (Env.Le.refl E) hc.I (by simpa using hc.n) lW rfl (λ_ _ _=>rfl) (λb z hb hz=>⟨?_,λ_=>rfl⟩) ⟨p1,by simp[View.upd],p4⟩ (λb h=> .inl ⟨_,hk,h⟩);have:b≠E.blk id:=λe=>hb _ hk (by rw[e];rfl);simpa[View.upd,this]using hz
theorem aqw{it:Tl}{id m since ck tI:Nat}{seen:Array Nat}{es:Array Wm}(ho:o.op=.next it false)(hi:s.ev it=some (.op id 0))(hI:s.H[id]?=some (.iter m since seen tI))(hM:s.H[m]?=some (.obj (.map es ck)))
  (am:es.all (λe=>decide (e.born>=tI))=false\/es.isEmpty=true\/seen.isEmpty=true)
  (hn:∀e∈es,e.born∉seen->next ((⟨s.T,s.H.set id (.iter m since (seen.push e.born) ck)⟩:AS).put o.dst (.aJ [.val (.bool true),AV.of e.key,AV.of e.val])))
  (akA:(∀e∈es,e.born<since->e.born∈seen)->next (s.put o.dst (.aJ [.val (.bool false)]))):Step lv P r o s next bad:=by
 intro E V ac N Q hc aF hd bz h1 _;refine⟨bz,?_⟩;have ox:=aq.ev aF hi;generalize qu:ac.eval it=vi at ox;cases ox with
 |op cu=>
  obtain⟨q1,q2,q3⟩:=hc.obj id _ hI;obtain⟨p1,p2,p3,p4⟩:=hc.obj m _ hM;have gi:=hc.jk hI rfl;have gm:=hc.jk hM rfl;unfold execOp;rw[ho];simp only[qu];refine az ?_;unfold Instr.next;dsimp only;refine az (nV q2 rfl rfl gi.2 (cM ?_));dsimp only;refine az (nV p1 p2 p3 gm.2 (cM ?_));dsimp only;rw[if_neg (by
   intro h;simp only[Ti,TV]at h;rcases am with hk|hk|hk
   ·rw[hk]at h;cases h.2
   ·rw[hk]at h;cases h.1.2
   ·rw[hk]at h;cases h.1.1)]
  generalize QK:(if((es.filter λe=> !seen.contains e.born).filter (λe=>decide (e.born<since))).isEmpty=true then#[none]else#[])++((es.filter λe=> !seen.contains e.born).filter (λe=>decide (e.born<since))++(es.filter λe=> !seen.contains e.born).filter (λe=>decide (e.born>=since))).map some=yQ;have cW:∀x∈yQ,match x with
    |some e=>e∈es/\e.born∉seen
    |none=>∀e∈es,e.born<since->e.born∈seen:=by
   intro x hx;rw[<- QK]at hx;rcases Ut.1 hx with hx|hx
   ·split at hx
    ·rename_i sS;simp at hx;subst hx;intro e he hlt;apply Tt;intro jf;have:e∈((es.filter λe=> !seen.contains e.born).filter (λe=>decide (e.born<since))):=(by simp[he,hlt,jf]);rw[Zd]at sS;rw[sS]at this;simp at this
    ·simp at hx
   ·rw[Array.mem_map]at hx;obtain⟨e,he,rfl⟩:=hx;rcases Ut.1 he with he|he<;>simp at he<;>exact⟨he.1,he.2.2⟩
  have Ci:0<yQ.size:=by
   rw[<- QK];split
   ·simp;omega
   ·rename_i sS;have:0<((es.filter λe=> !seen.contains e.born).filter (λe=>decide (e.born<since))).size:=by
     rw[Zd]at sS;exact Array.size_pos_iff.2 sS
    simp only[XE,Array.size_map,List.size_toArray,UQ];omega
  have fin:∀j,j<yQ.size->aR P V (match yQ[j]?with
    |some (some e)=>do setObj (E.blk id) (.mapIter (some (E.blk m)) since (seen.push e.born) ck);pure (YJ #[.bool true,e.key,e.val])
    |some none=>pure (YJ #[.bool false])
    | none => stuck "Next: no such candidate") (λx V' => aR P V' (pure (W6 x)) (mG lv P r o ac N Q) (λv V' => Q (.panic [{ v, recovered := false }]) ac V')) (λv V' => Q (.panic [{ v, recovered := false }]) ac V') := by
   intro j hj;rw[SJ hj];have hm:=cW yQ[j] (XX hj);generalize yQ[j]=x at hm;cases x with
   |none=>
    dsimp only;refine ay (ay ?_);exact h1 E V (ac.put o.dst _) (s.put o.dst (.aJ [.val (.bool false)])) ⟨Env.Le.refl E,dP _ _ _,put_defers _ _ _,rfl,rfl⟩ (by rw[ft];exact hc)
     (cj.gZ aF hd (.aJ rfl λi b hb=>by
      match i,hb with
      |0,hb=>cases hb;exact .val _)) (akA hm)
   |some e=>
    dsimp only;refine az (yk q2 rfl rfl gi.2 (cM (ay (ay ?_))));exact h1 E _ (ac.put o.dst _) _ ⟨Env.Le.refl E,dP _ _ _,put_defers _ _ _,rfl,rfl⟩ (by rw[ft];exact hc.setIter hI since (seen.push e.born) ck)
     (cj.gZ (s:=⟨s.T,s.H.set id (.iter m since (seen.push e.born) ck)⟩) aF hd (.aJ rfl λi b hb=>by
      match i,hb with
      |0,hb=>cases hb;exact .val _
      |1,hb=>cases hb;exact sF E _
      |2,hb=>cases hb;exact sF E _)) (hn e hm.1 hm.2)
  refine az (ab2 (λhf=>cM (fin 0 Ci)) (λhf t=>cM (fin _ (as' _ Ci))))
def AV.found (z:SO)(ok:Bool):Option (Nat×SO)->AV
 |some (_,v)=>if ok then .aJ [AV.of v,.val (.bool true)]else AV.of v
 |none=>if ok then .aJ [AV.of z,.val (.bool false)]else AV.of z
theorem aoA{t kt et:TypeId}{m k:Tl}{id ck:Nat}{es:Array Wm}{a:AV}{K z:SO}{ok:Bool}{fd:Option (Nat×SO)}(ho:o.op=.lookup t m k ok)(ht:oO P t=some (kt,et))(hz:eU P et=some z)(hm:s.ev m=some (.mp id))(hk:s.ev k=some a)(hK:a.raw=some K)
  (hH:s.H[id]?=some (.obj (.map es ck))) (hc:cD P (Vb es.isEmpty 10000 kt K) ()) (hf:cD P (VN kt K es.toList) fd):dh lv P r o s (AV.found z ok fd):=
 iT (λE V ac jc aF=>by
  have e1:=(aq.ev aF hk).raw hK;have o0:=aq.ev aF hm;generalize xT:ac.eval m=vm at o0;cases o0;obtain⟨p1,p2,p3,p4⟩:=jc.obj id _ hH;have g:=jc.jk hH rfl;unfold oO at ht;split at ht
  ·rename_i k' e' hu;cases ht;unfold execOp;rw[ho];simp only[xT,e1];refine az ?_;unfold Instr.lookup;refine ey hu ?_;dsimp only;refine az (az (nV p1 p2 p3 g.2 (ay (ay ?_))));refine hc.bind (az (hf.ok ?_));have two:∀(v:SO)(b:Bool)(i:Nat)(x:AV),[AV.of v,.val (.bool b)][i]?=some x->aq E x ((#[v,Xd b]:Array SO).getD i undef):=λv b i x hx=>by
    match i,hx with
    |0,hx=>cases hx;exact sF E _
    |1,hx=>cases hx;exact .val _
   cases fd with
   |some iv=>
    obtain⟨i,v⟩:=iv;refine ay (ay ⟨rfl,_,rfl,?_⟩);cases ok with
    |true=>exact .aJ rfl (two v true)
    |false=>exact sF E _
   |none=>
    refine G2 hz (ay (ay ⟨rfl,_,rfl,?_⟩));cases ok with
    |true=>exact .aJ rfl (two z false)
    |false=>exact sF E _
  ·cases ht)
theorem aon{it:Tl}{id m since ck:Nat}{seen:Array Nat}{es:Array Wm}{b:Nat}{e:Wm}(ho:o.op=.entry it)(hi:s.ev it=some (.op id 0))(hI:s.H[id]?=some (.iter m since seen ck))(hM:s.H[m]?=some (.obj (.map es ck)))
  (hb:seen.back?=some b) (he:es.find? (·.born==b)=some e):dh lv P r o s (.aJ [AV.of e.key,AV.of e.val]):=
 iT (λE V ac hc aF=>by
  have ox:=aq.ev aF hi;generalize qu:ac.eval it=vi at ox;cases ox with
  |op cu=>
   obtain⟨q1,q2,q3⟩:=hc.obj id _ hI;obtain⟨p1,p2,p3,p4⟩:=hc.obj m _ hM;have gi:=hc.jk hI rfl;have gm:=hc.jk hM rfl;unfold execOp;rw[ho];simp only[qu];refine az ?_;unfold Instr.entry;dsimp only;refine az (nV q2 rfl rfl gi.2 (cM ?_));dsimp only;rw[hb];dsimp only;refine az (nV p1 p2 p3 gm.2 (cM ?_));dsimp only;rw[if_neg (by simp)];rw[he];refine ay (ay ⟨rfl,_,rfl,.aJ rfl λi b hb=> ?_⟩)
   match i,hb with
   |0,hb=>cases hb;exact sF E _
   |1,hb=>cases hb;exact sF E _)
end
open Go.Conc
def gO (E:Env)(V:View)(k:AV->List aa->Prop)(kp:AV->List aa->Prop):Out->View->Prop
 |.ret v,V'=>∃av E' H',E.Le E'/\V'.role=V.role/\V'.deaf=V.deaf/\aq E' av v/\Conc E' V' H'/\k av H'
 |.panic ch,V'=>∃pv v E' H',ch=[{v,recovered:=false}]/\E.Le E'/\V'.role=V.role/\V'.deaf=V.deaf/\aq E' pv v/\Conc E' V' H'/\kp pv H'
def bc (lv:Bool)(P:SK)(f:TN)(H:List aa)(args:List AV)(k:AV->List aa->Prop)(kp:AV->List aa->Prop):Prop:=
 ∀(E:Env)(V:View)(vs:Array SO),Conc E V H->cN E args vs->Body lv P f vs .normal V (gO E V k kp)
def Nx (lv:Bool)(P:SK)(R:Out->View->Prop):Next->View->Prop
 |.value v,V=>R (.ret v) V
 |.skip,V=>R (.ret undef) V
 |.enter f args,V=>Body lv P f args .normal V R
 |.round l f tmps assign body,V=>na lv P (Xb l f tmps assign body .normal) V R
 |_,_=>False
def iY (lv:Bool)(P:SK)(c:AV)(H:List aa)(args:List AV)(k:AV->List aa->Prop)(kp:AV->List aa->Prop):Prop:=
 ∀(E:Env)(V:View)(cv:SO)(vs:Array SO),Conc E V H->aq E c cv->cN E args vs->
  aR P V (do let d<- U3 cv vs;invoke d.target d.args) (λnx V'=>Nx lv P (gO E V k kp) nx V') (λv V'=>gO E V k kp (.panic [{v,recovered:=false}]) V')
def DK (lv:Bool)(P:SK)(c:AV)(name:String)(H:List aa)(args:List AV)(k:AV->List aa->Prop)(kp:AV->List aa->Prop):Prop:=
 ∀(E:Env)(V:View)(cv:SO)(vs:Array SO),Conc E V H->aq E c cv->cN E args vs->
  aR P V (invoke (.fn (.method name) #[]) (#[cv]++vs)) (λnx V'=>Nx lv P (gO E V k kp) nx V') (λv V'=>gO E V k kp (.panic [{v,recovered:=false}]) V')
theorem gO.mono{E:Env}{V:View}{k k' kp wj:AV->List aa->Prop}(h:∀a H,k a H->k' a H)(hp:∀a H,kp a H->wj a H):∀{o V'},gO E V k kp o V'->gO E V k' wj o V'
 |.ret _,_,⟨av,E',H',a,b,c,d,e,f⟩=>⟨av,E',H',a,b,c,d,e,h _ _ f⟩
 |.panic _,_,⟨pv,v,E',H',a,b,c,d,e,f,g⟩=>⟨pv,v,E',H',a,b,c,d,e,f,hp _ _ g⟩
theorem Nx.mono{lv:Bool}{P:SK}{R R':Out->View->Prop}(h:∀o V,R o V->R' o V):∀{nx V},Nx lv P R nx V->Nx lv P R' nx V:=by
 intro nx V hn;cases nx with
 |value v=>exact h _ _ hn
 |skip=>exact h _ _ hn
 |enter f args=>exact Body.mono hn h
 |round l f tmps a b=>exact na.mono hn h
 |_=>exact hn
theorem bc.mono{lv:Bool}{P:SK}{f:TN}{H:List aa}{args:List AV}{k k' kp wj:AV->List aa->Prop}(h:bc lv P f H args k kp)(hk:∀a H,k a H->k' a H)(hp:∀a H,kp a H->wj a H):bc lv P f H args k' wj:=λE V vs hc hd=>
 (h E V vs hc hd).mono λ_ _ x=>x.mono hk hp
theorem iY.mono{lv:Bool}{P:SK}{f:AV}{H:List aa}{args:List AV}{k k' kp wj:AV->List aa->Prop}(h:iY lv P f H args k kp)(hk:∀a H,k a H->k' a H)(hp:∀a H,kp a H->wj a H):iY lv P f H args k' wj:=λE V cv vs hc hd o5=>
 (h E V cv vs hc hd o5).mono (λ_ _ x=>Nx.mono (λ_ _ y=>y.mono hk hp) x) (λ_ _ y=>y.mono hk hp)
def qH (P:SK)(g:TN):Bool:=match P.funcs[g]?with
 | some fn => fn.body.isSome && !(fn.name == "runtime.NumGoroutine")
 |none=>false
theorem apD{lv:Bool}{P:SK}{V:View}{g:TN}{vs:Array SO}{R:Out->View->Prop}{Kp:SO->View->Prop}(hg:qH P g=true)(h:Body lv P g vs .normal V R):aR P V (callFunc g vs) (λnx V'=>Nx lv P R nx V') Kp:=by
 unfold callFunc;refine az (qB (cM ?_));unfold qH at hg;split at hg
 ·rename_i fn xA;simp only[Ti,TV]at hg;rw[xA];dsimp only;have ES:fn.body.isNone=false:=by
   have h1:=hg.1;cases hb:fn.body with
   |none=>rw[hb]at h1;cases h1
   |some _=>rfl
  rw[if_neg (by rw[hg.2];simp),if_neg (by rw[ES];simp)];exact ay h
 ·cases hg
section
variable {lv:Bool}{P:SK}{H:List aa}{args:List AV}{k kp:AV->List aa->Prop}
theorem Ij{g:TN}{first cV:List AV}(hg:qH P g=true)(hf:bc lv P g H (first++args++cV) k kp):iY lv P (.fn (.func g) first cV) H args k kp:=by
 intro E V cv vs hc hd o5;cases hd with
 |fn dD fY h1 h2=>
  rename_i fa ca;unfold U3;refine az (ay ?_);unfold invoke;dsimp only;exact apD hg (hf E V _ hc (Bi (Bi ⟨dD,h1⟩ o5) ⟨fY,h2⟩))
end
def fl (s:AS):List Tl->Option (List AV)
 |[]=>some []
 |x::l=>match s.ev x,fl s l with
  |some a,some aG=>some (a::aG)
  |_,_=>none
theorem yY{E:Env}{s:AS}{a:Act}(k:cj E s.T a.tmps):∀{l:List Tl}{aG:List AV},fl s l=some aG->cN E aG (l.map a.eval).toArray
 |[],_,h=>by cases h;exact⟨rfl,by simp⟩
 |x::l,aG,h=>by
  simp only[fl]at h;split at h
  ·rename_i av l9 h1 h2;cases h;have ih:=yY k h2;refine⟨by have:=ih.1;simpa using this,λi b e=> ?_⟩;cases i with
   |zero=>simp at e;subst e;simpa[SI]using aq.ev k h1
   |succ i=>
    simp only[UH]at e;have:=ih.2 i b e;simpa[SI]using this
  ·cases h
section
variable {lv:Bool}{P:SK}{r:Option Nat}{o:Tx}{s:AS}{next:AS->Prop}{bad:AV->AS->Prop}
theorem abb{E:Env}{V:View}{a:Act}{N:Act->View->Prop}{Q:Ex->Act->View->Prop}(aF:cj E s.T a.tmps)(hd:∀d,o.dst=some d->d<a.tmps.size)
  (h1:∀E' V' a' s',Kept E E' V V' a a'->Conc E' V' s'.H->cj E' s'.T a'.tmps->next s'->N a' V')
  (h2:∀E' V' s' pv v,Kept E E' V V' a a->Conc E' V' s'.H->cj E' s'.T a.tmps->aq E' pv v->bad pv s'->Q (.panic [{v,recovered:=false}]) a V'):
  (∀nx V',Nx lv P (gO E V (λb H'=>next ((⟨s.T,H'⟩:AS).put o.dst b)) (λpv H'=>bad pv ⟨s.T,H'⟩)) nx V'->mG lv P r o a N Q nx V')/\
  (∀v V',gO E V (λb H'=>next ((⟨s.T,H'⟩:AS).put o.dst b)) (λpv H'=>bad pv ⟨s.T,H'⟩) (.panic [{v,recovered:=false}]) V'->Q (.panic [{v,recovered:=false}]) a V'):=by
 have hv:∀v V',gO E V (λb H'=>next ((⟨s.T,H'⟩:AS).put o.dst b)) (λpv H'=>bad pv ⟨s.T,H'⟩) (.ret v) V'->N (a.put o.dst v) V':=λv V' ⟨av,E',H',hle,bY,eQ,bp,ba,hk⟩=>
  h1 E' V' _ _ ⟨hle,dP _ _ _,put_defers _ _ _,bY,eQ⟩ (by rw[ft];exact ba) (cj.gZ (s:=⟨s.T,H'⟩) (aF.mono hle) hd bp) hk
 have hp:∀ch V',gO E V (λb H'=>next ((⟨s.T,H'⟩:AS).put o.dst b)) (λpv H'=>bad pv ⟨s.T,H'⟩) (.panic ch) V'->Q (.panic ch) a V':=λch V' ⟨pv,v,E',H',fe,hle,bY,eQ,bp,ba,hk⟩=>by
  subst fe;exact h2 E' V' ⟨s.T,H'⟩ pv v ⟨hle,rfl,rfl,bY,eQ⟩ ba (aF.mono hle) bp hk
 refine⟨λnx V' hn=> ?_,λv V' h=>hp _ _ h⟩;cases nx with
 |value v=>exact hv _ _ hn
 |skip=>exact hv _ _ hn
 |enter f args=>
  refine Body.mono (R':=fun
   |.ret v,V'=>N (a.put o.dst v) V'
   |.panic ch,V'=>Q (.panic ch) a V') hn λot aP h=> ?_
  cases ot with
  |ret v=>exact hv _ _ h
  |panic ch=>exact hp _ _ h
 |round l f tmps aG b=>
  refine na.mono (R':=fun
   |.ret v,V'=>N (a.put o.dst v) V'
   |.panic ch,V'=>Q (.panic ch) a V') hn λot aP h=> ?_
  cases ot with
  |ret v=>exact hv _ _ h
  |panic ch=>exact hp _ _ h
 |_=>exact hn.elim
theorem M5{c:Xq}{x:Tl}{sC:AV}{aG:List AV}(ho:o.op=.call c)(aY:c.callee=.value x)(hx:s.ev x=some sC)(has:fl s c.args.toList=some aG)
  (hf:iY lv P sC s.H aG (λb H'=>next ((⟨s.T,H'⟩:AS).put o.dst b)) (λpv H'=>bad pv ⟨s.T,H'⟩)):Step lv P r o s next bad:=by
 intro E V a N Q hc aF hd bz h1 h2;have rJ:=abb (lv:=lv) (P:=P) (r:=r) aF hd h1 h2;refine⟨bz,?_⟩;unfold execOp;rw[ho];dsimp only;unfold resolve;rw[aY];dsimp only;have e:c.args.map a.eval=(c.args.toList.map a.eval).toArray:=by apply VC;simp
 rw[e];exact(hf E V (a.eval x) _ hc (aq.ev aF hx) (yY aF has)).mono (λnx V' h=>rJ.1 nx V' h) (λv V' h=>rJ.2 v V' h)
theorem acz{c:Xq}{x:Tl}{name:String}{sC:AV}{aG:List AV}(ho:o.op=.call c)(aY:c.callee=.invoke x name)(hx:s.ev x=some sC)(has:fl s c.args.toList=some aG)
  (hf:DK lv P sC name s.H aG (λb H'=>next ((⟨s.T,H'⟩:AS).put o.dst b)) (λpv H'=>bad pv ⟨s.T,H'⟩)):Step lv P r o s next bad:=by
 intro E V a N Q hc aF hd bz h1 h2;have rJ:=abb (lv:=lv) (P:=P) (r:=r) aF hd h1 h2;refine⟨bz,?_⟩;unfold execOp;rw[ho];dsimp only;unfold resolve;rw[aY];dsimp only;refine az (ay ?_);have e:c.args.map a.eval=(c.args.toList.map a.eval).toArray:=by apply VC;simp
 rw[e];exact(hf E V (a.eval x) _ hc (aq.ev aF hx) (yY aF has)).mono (λnx V' h=>rJ.1 nx V' h) (λv V' h=>rJ.2 v V' h)
theorem aqx{x:Tl}{t:TypeId}{av:AV}(ho:o.op=.panic x)(hx:s.ev x=some (.c9 t av))(hb:bad (.c9 t av) s):Step lv P r o s next bad:=by
 intro E V a N Q hc aF hd bz _ h2;refine⟨bz,?_⟩;have dB:=aq.ev aF hx;unfold execOp;rw[ho];dsimp only;refine az ?_;generalize a.eval x=v at dB⊢;have ajS:=dB;cases dB with
 |c9 hv=>
  unfold Instr.panic;dsimp only;exact apM (h2 E V s (.c9 t av) _ ⟨Env.Le.refl E,rfl,rfl,rfl,rfl⟩ hc aF ajS hb)
end
structure DL (k kp:AV->List aa->Prop):Type where
 n:Nat
def AA (lv:Bool)(P:SK)(c:AV)(H:List aa)(args:List AV)(k kp:AV->List aa->Prop)(_t:DL k kp):Prop:=iY lv P c H args k kp
def adw (lv:Bool)(P:SK)(c:AV)(name:String)(H:List aa)(args:List AV)(k kp:AV->List aa->Prop)(_t:DL k kp):Prop:=DK lv P c name H args k kp
theorem w7{lv:Bool}{P:SK}{c:AV}{H:List aa}{args:List AV}{k kp:AV->List aa->Prop}{t:DL k kp}(h:iY lv P c H args k kp):AA lv P c H args k kp t:=h
def ap {α:Type}(x:Option α)(k:α->Prop):Prop:=match x with
 |some a=>k a
 |none=>False
def AV.asBool (a:AV)(k:Bool->Prop):Prop:=match a with
 |.val (.bool b)=>k b
 |_=>False
def AV.asInt (a:AV)(k:TU->Int->Prop):Prop:=match a with
 |.val (.int j n)=>k j n
 |_=>False
def AV.wZ (a:AV)(k:List AV->Prop):Prop:=match a with
 |.aJ l=>k l
 |_=>False
def AV.asAgg (a:AV)(k:List AV->Prop):Prop:=match a with
 |.agg l=>k l
 |_=>False
def AV.pO (a:AV)(k:Nat->Nat->Prop):Prop:=match a with
 |.op i j=>k i j
 |_=>False
def AV.sx (a:AV)(k:Nat->Prop):Prop:=match a with
 |.mp i=>k i
 |_=>False
def AV.vt (a:AV)(k:Nat->List AV->End->Prop):Prop:=match a with
 |.sl n l e=>k n l e
 |_=>False
theorem ap.out{α:Type}{x:Option α}{k:α->Prop}(h:ap x k):∃a,x=some a/\k a:=by
 cases x with
 |none=>exact h.elim
 |some a=>exact⟨a,rfl,h⟩
theorem A7{a:AV}{k:Bool->Prop}(h:a.asBool k):∃b,a=.val (.bool b)/\k b:=by
 unfold AV.asBool at h;split at h
 ·exact⟨_,rfl,h⟩
 ·exact h.elim
theorem oe{a:AV}{k:TU->Int->Prop}(h:a.asInt k):∃j n,a=.val (.int j n)/\k j n:=by
 unfold AV.asInt at h;split at h
 ·exact⟨_,_,rfl,h⟩
 ·exact h.elim
theorem aeT{a:AV}{k:List AV->Prop}(h:a.wZ k):∃l,a=.aJ l/\k l:=by
 unfold AV.wZ at h;split at h
 ·exact⟨_,rfl,h⟩
 ·exact h.elim
theorem aeK{a:AV}{k:List AV->Prop}(h:a.asAgg k):∃l,a=.agg l/\k l:=by
 unfold AV.asAgg at h;split at h
 ·exact⟨_,rfl,h⟩
 ·exact h.elim
theorem A8{a:AV}{k:Nat->Nat->Prop}(h:a.pO k):∃i j,a=.op i j/\k i j:=by
 unfold AV.pO at h;split at h
 ·exact⟨_,_,rfl,h⟩
 ·exact h.elim
theorem D3{a:AV}{k:Nat->Prop}(h:a.sx k):∃i,a=.mp i/\k i:=by
 unfold AV.sx at h;split at h
 ·exact⟨_,rfl,h⟩
 ·exact h.elim
theorem N3{a:AV}{k:Nat->List AV->End->Prop}(h:a.vt k):∃n l e,a=.sl n l e/\k n l e:=by
 unfold AV.vt at h;split at h
 ·exact⟨_,_,_,rfl,h⟩
 ·exact h.elim
section
variable (P:SK)(s:AS)
def dw (op:VZ)(xt:TypeId)(a b:AV)(k:AV->Prop):Prop:=match a,b with
 |.val (.int j m),.val (.int j' n)=>if mU op then ap (An op j m n) λv=>k (.val v)else j'=j/\ap (l_ op j m n) λv=>k (.val v)
 |_,_=>(op=.eql\/op=.neq)/\ap a.raw λX=>ap b.raw λY=>xc X Y=true/\P.eqGuardType P.depth xt=false/\∃e,cD P (Xj xt X Y) e/\k (.val (.bool (if op== .neq then !e else e)))
def iH (op:VZ)(xt:TypeId)(y:Tl)(a:AV)(k:AV->Prop):Prop:=match y,a with
 |.const .nilIface,.val .nilIface=>mq P xt=some true/\(op=.eql\/op=.neq)/\k (.val (.bool (if op== .neq then false else true)))
 |.const .nilIface,.c9 _ _=>mq P xt=some true/\(op=.eql\/op=.neq)/\k (.val (.bool (if op== .neq then true else false)))
 |y,a=>ap (s.ev y) λb=>dw P op xt a b k
def sh (t:TypeId)(a:AV)(l h m:Option Int)(k:AV->Prop):Prop:=match a with
 |.sl n li e=>ap (kA P t) λ(_,sz)=>wS n li e sz l h m k
 |.bK id off n cap=>ap (kA P t) λ(_,sz)=>su id off n cap sz l h m k
 |.op id off=>ap (wP P t) λ(n,sz)=>su id off n n sz l h m k
 |_=>False
def sg (t:TypeId)(a:AV)(k:AV->Prop):Prop:=match lE P t,a with
 |some .slice,.sl n _ _=>k (.val (.int .i64 n))
 |some .slice,.bK _ _ n _=>k (.val (.int .i64 n))
 |some .str,.val (.string b)=>k (.val (.int .i64 b.size))
 |some .map,.mp id=>match s.H[id]?with
  |some (.obj (.map es _))=>k (.val (.int .i64 es.size))
  |_=>False
 |_,_=>False
def mA (a:AV)(k:AV->Prop):Prop:=match a with
 |.fn (.method name) [.c9 t av] []=>HS P t name/\k (.fn (.method name) [.c9 t av] [])
 |a=>a.sure=true/\k a
def Ax (aG:TypeId)(ok:Bool)(a:AV)(k:AV->Prop):Prop:=mq P aG=some false/\ap (eU P aG) λz=>match a with
 |.c9 t av=>if t=aG then k (if ok then .aJ [av,.val (.bool true)]else av)else ok=true/\k (.aJ [AV.of z,.val (.bool false)])
 |.val .nilIface=>ok=true/\k (.aJ [AV.of z,.val (.bool false)])
 |_=>False
def lC (o:Tx)(k:AV->Prop):Prop:=match o.op with
 |.move x=>ap (s.ev x) k
 |.assign x=>ap (s.ev x) k
 |.pick c x y=>ap (s.ev c) λb=>ap (s.ev x) λa=>ap (s.ev y) λa'=>b.asBool λb=>k (if b then a else a')
 |.binOp op xt x y _=>ap (s.ev x) λa=>iH P s op xt y a k
 |.unOp .not _ x=>ap (s.ev x) λa=>a.asBool λb=>k (.val (.bool !b))
 |.unOp .neg _ x=>ap (s.ev x) λa=>a.asInt λj n=>k (.val (.int j (j.wrap (0-n))))
 |.convert src dst x=>ap (s.ev x) λa=>match AB P src dst with
   |some (some j)=>a.asInt λ_ n=>k (.val (.int j (j.wrap n)))
   |_=>False
 |.extract x i=>ap (s.ev x) λa=>a.wZ λl=>ap l[i]? k
 |.nilCheck x=>ap (s.ev x) λa=>mA P a k
 |.makeInterface t x=>mq P t=some false/\ap (s.ev x) λa=>k (.c9 t a)
 |.makeFunc f first cV=>ap (first.toList.mapM s.ev) λfa=>ap (cV.toList.mapM s.ev) λca=>k (.fn f fa ca)
 |.typeAssert x _ aG ok=>ap (s.ev x) λa=>Ax P aG ok a k
 |.build t parts=>ap (nW P t) λ(pl,z)=>ap (j8 s parts.toList) λaG=>ap (oh pl.at (l6 z) aG) λl=>k (.agg l)
 |.buildSlice t len parts=>ap (qR P t) λ(_,sz,z)=>len* sz<=2^24/\ap (j8 s parts.toList) λaG=>ap (oh (ig.at (.elems sz)) (gM z (len* sz)) aG) λl=>k (.sl len l .exact)
 |.fieldAddr t x f=>ap (s.ev x) λa=>ap (eT P t f) λn=>ap (a.shift n) k
 |.indexAddr t x ix=>ap (s.ev x) λa=>ap (s.ev ix) λi=>i.asInt λ_ i=>ap (nY P t) fun
   |(some n,sz)=>(0<=i/\i<n)/\ap (a.shift (i.toNat* sz)) k
   |(none,sz)=>ap a.row λ(n,p)=>(0<=i/\i<n)/\ap (p.shift (i.toNat* sz)) k
 |.field t x f=>ap (s.ev x) λa=>a.asAgg λl=>ap (HT P t f) λ(off,n,g)=>ap (AV.cut l off n g) k
 |.index t x ix=>ap (s.ev x) λa=>ap (s.ev ix) λi=>i.asInt λ_ i=>match a with
   |.agg l=>ap (HM P t) λ(n,sz,g)=>(0<=i/\i<n)/\ap (AV.cut l (i.toNat* sz) sz g) k
   |.val (.string b)=>(match lE P t with|some .str=>True|_=>False)/\0<=i/\ap b[i.toNat]? λc=>k (.val (.int .u8 c.toNat))
   |_=>False
 |.load t x=>ap (s.ev x) λp=>ap (s.at p) λl=>ap (Ty P t) fun
   |(n,true)=>n<=l.length/\k (.agg (l.take n))
   |(_,false)=>ap l[0]? k
 |.lookup t m k' ok=>ap (oO P t) λ(kt,et)=>ap (eU P et) λz=>ap (s.ev m) λp=>ap (s.ev k') λa=>ap a.raw λK=>p.sx λid=>match s.H[id]?with
  |some (.obj (.map es _))=>cD P (Vb es.isEmpty 10000 kt K) ()/\∃fd,cD P (VN kt K es.toList) fd/\k (AV.found z ok fd)
  |_=>False
 |.slice t x lo hi mx=>ap (s.ev x) λa=>ap (s.i_ lo) λl=>ap (s.i_ hi) λh=>ap (s.i_ mx) λm=>sh P t a l h m k
 |.entry it=>ap (s.ev it) λp=>p.pO λid off=>off=0/\match s.H[id]?with
   |some (.iter m _ seen ck)=>match s.H[m]?with
    |some (.obj (.map es OM))=>OM=ck/\ap seen.back? λb=>ap (es.find? (·.born==b)) λe=>k (.aJ [AV.of e.key,AV.of e.val])
    |_=>False
   |_=>False
 |.call c=>match c.callee with
  |.builtin .len=>ap c.args[0]? λx=>ap c.argTypes[0]? λt=>ap (s.ev x) λa=>sg P s t a k
  |.builtin .max=>match c.args.toList with
   |[x,y]=>ap (s.ev x) λa=>ap (s.ev y) λb=>a.asInt λj m=>b.asInt λ_ n=>k (.val (.int j (if n>m then n else m)))
   |_=>False
  |.builtin .min=>match c.args.toList with
   |[x,y]=>ap (s.ev x) λa=>ap (s.ev y) λb=>a.asInt λj m=>b.asInt λ_ n=>k (.val (.int j (if n<m then n else m)))
   |_=>False
  |_=>False
 |_=>False
end
section
variable {lv:Bool}{P:SK}{r:Option Nat}{o:Tx}{s:AS}
theorem nf{c:Xq}{x y:Tl}(h:c.args.toList=[x,y]):c.args=#[x,y]:=by
 apply VC;simpa using h
theorem lC.sound{k:AV->Prop}(h:lC P s o k):∃av,dh lv P r o s av/\k av:=by
 unfold lC at h;split at h
 ·rename_i x ho;obtain⟨a,h1,h2⟩:=h.out;exact⟨a,abD (.inl ho) h1,h2⟩
 ·rename_i x ho;obtain⟨a,h1,h2⟩:=h.out;exact⟨a,abD (.inr ho) h1,h2⟩
 ·rename_i c x y ho;obtain⟨b,h1,h⟩:=h.out;obtain⟨a,h2,h⟩:=h.out;obtain⟨a',h3,h⟩:=h.out;obtain⟨b,rfl,h⟩:=A7 h;exact⟨_,aoJ ho h1 h2 h3,h⟩
 ·rename_i op xt x y yt ho;obtain⟨a,h1,hY⟩:=h.out;clear h;unfold iH at hY;split at hY
  ·exact⟨_,abB ho hY.2.1 h1 (.inl ⟨rfl,rfl⟩) hY.1,hY.2.2⟩
  ·exact⟨_,abB ho hY.2.1 h1 (.inr ⟨⟨_,_,rfl⟩,rfl⟩) hY.1,hY.2.2⟩
  rename_i n1 n2;clear n1 n2;obtain⟨b,h2,h⟩:=hY.out;unfold dw at h;split at h
  ·rename_i j m j' n;split at h
   ·obtain⟨v,h3,h⟩:=h.out;exact⟨_,aoK ho h1 h2 h3,h⟩
   ·obtain⟨rfl,h⟩:=h;obtain⟨v,h3,h⟩:=h.out;exact⟨_,aoj ho h1 h2 h3,h⟩
  ·obtain⟨au,h⟩:=h;obtain⟨X,h3,h⟩:=h.out;obtain⟨Y,h4,h⟩:=h.out;obtain⟨h5,h6,e,h7,h⟩:=h;exact⟨_,aoo ho au h1 h2 h3 h4 h5 h6 h7,h⟩
 ·rename_i t x ho;obtain⟨a,h1,h⟩:=h.out;obtain⟨b,rfl,h⟩:=A7 h;exact⟨_,aoI ho h1,h⟩
 ·rename_i t x ho;obtain⟨a,h1,h⟩:=h.out;obtain⟨j,n,rfl,h⟩:=oe h;exact⟨_,aoF ho h1,h⟩
 ·rename_i src dst x ho;obtain⟨a,h1,h⟩:=h.out;split at h
  ·rename_i j hj;obtain⟨j',n,rfl,h⟩:=oe h;exact⟨_,aom ho hj h1,h⟩
  ·exact h.elim
 ·rename_i x i ho;obtain⟨a,h1,h⟩:=h.out;obtain⟨l,rfl,h⟩:=aeT h;obtain⟨b,h2,h⟩:=h.out;exact⟨_,aop ho h1 h2,h⟩
 ·rename_i x ho;obtain⟨a,h1,h⟩:=h.out;unfold mA at h;split at h
  ·exact⟨_,aoH ho h1 h.1,h.2⟩
  ·exact⟨_,aoG ho h1 h.1,h.2⟩
 ·rename_i t x ho;obtain⟨h1,h⟩:=h;obtain⟨a,h2,h⟩:=h.out;exact⟨_,aoC ho h1 h2,h⟩
 ·rename_i f first cV ho
  obtain⟨fa,h1,h⟩:=h.out;obtain⟨ca,h2,h⟩:=h.out;exact⟨_,aoB ho h1 h2,h⟩
 ·rename_i x xt aG ok ho;obtain⟨a,h1,hA⟩:=h.out;obtain⟨h2,hB⟩:=hA;obtain⟨z,h3,hC⟩:=hB.out;clear h hB;split at hC
  ·rename_i t av;split at hC
   ·rename_i e;subst e;exact⟨_,abA ho h2 h3 h1 (.inr rfl),by rw[if_pos rfl];exact hC⟩
   ·rename_i e;exact⟨_,abA ho h2 h3 h1 (.inl hC.1),by rw[if_neg e];exact hC.2⟩
  ·obtain⟨e,hC⟩:=hC;subst e;exact⟨_,aoi ho h2 h3 h1,hC⟩
  ·exact hC.elim
 ·rename_i t parts ho;obtain⟨⟨pl,z⟩,h1,h⟩:=h.out;obtain⟨aG,h2,h⟩:=h.out;obtain⟨l,h3,h⟩:=h.out;exact⟨_,aok ho h1 h2 h3,h⟩
 ·rename_i t len parts ho;obtain⟨⟨e,sz,z⟩,h1,h⟩:=h.out;obtain⟨hs,h⟩:=h;obtain⟨aG,h2,h⟩:=h.out;obtain⟨l,h3,h⟩:=h.out;exact⟨_,aol ho h1 hs h2 h3,h⟩
 ·rename_i t x f ho;obtain⟨a,h1,h⟩:=h.out;obtain⟨n,hn,h⟩:=h.out;obtain⟨b,h2,h⟩:=h.out;exact⟨_,aoq ho hn h1 h2,h⟩
 ·rename_i t x ix ho;obtain⟨a,h1,h⟩:=h.out;obtain⟨i,h2,h⟩:=h.out;obtain⟨j,i,rfl,h⟩:=oe h;obtain⟨⟨on,sz⟩,ht,h⟩:=h.out;cases on with
  |some n=>
   obtain⟨⟨h3,h4⟩,h⟩:=h;obtain⟨q,h5,h⟩:=h.out;exact⟨_,aot ho ht h1 h2 h3 h4 h5,h⟩
  |none=>
   obtain⟨⟨n,p⟩,ak0,h⟩:=ap.out h;obtain⟨⟨h3,h4⟩,h⟩:=h;obtain⟨q,h5,h⟩:=h.out;exact⟨_,aos ho ht h1 ak0 h2 h3 h4 h5,h⟩
 ·rename_i t x f ho;obtain⟨a,h1,h⟩:=h.out;obtain⟨l,rfl,h⟩:=aeK h;obtain⟨⟨off,n,g⟩,h2,h⟩:=h.out;obtain⟨b,h3,h⟩:=h.out;exact⟨_,aor ho h2 h1 h3,h⟩
 ·rename_i t x ix ho;obtain⟨a,h1,h⟩:=h.out;obtain⟨i,h2,h⟩:=h.out;obtain⟨j,i,rfl,h⟩:=oe h;split at h
  ·obtain⟨⟨n,sz,g⟩,h3,h⟩:=h.out;obtain⟨⟨h4,h5⟩,h⟩:=h;obtain⟨b,h6,h⟩:=h.out;exact⟨_,aov ho h3 h1 h2 h4 h5 h6,h⟩
  ·obtain⟨h3,h4,h⟩:=h;obtain⟨c,h5,h⟩:=h.out;split at h3
   ·rename_i hl;exact⟨_,aou ho hl h1 h2 h4 h5,h⟩
   ·exact h3.elim
  ·exact h.elim
 ·rename_i t x ho;obtain⟨p,h1,h⟩:=h.out;obtain⟨l,hl,h⟩:=h.out;obtain⟨⟨n,g⟩,ht,h⟩:=h.out;cases g with
  |true=>exact⟨_,aoy ho ht h1 hl h.1,h.2⟩
  |false=>
   obtain⟨av,h2,h⟩:=ap.out h;exact⟨_,aoz ho ht h1 hl h2,h⟩
 ·rename_i t m k' ok ho;obtain⟨⟨kt,et⟩,h1,hA⟩:=h.out;obtain⟨z,h2,hB⟩:=hA.out;obtain⟨p,h3,hC⟩:=hB.out;obtain⟨a,h4,hD⟩:=hC.out;obtain⟨K,h5,hE⟩:=hD.out;obtain⟨id,e1,hF⟩:=D3 hE;subst e1;split at hF
  ·rename_i es ck hH;obtain⟨h6,fd,h7,h8⟩:=hF;exact⟨_,aoA ho h1 h2 h3 h4 h5 hH h6 h7,h8⟩
  ·exact hF.elim
 ·rename_i t x lo hi mx ho;obtain⟨a,h1,h⟩:=h.out;obtain⟨l,h2,h⟩:=h.out;obtain⟨hh,h3,h⟩:=h.out;obtain⟨m,h4,h⟩:=h.out;unfold sh at h;split at h
  ·obtain⟨⟨e,sz⟩,h5,h⟩:=h.out;exact aoL ho h5 h1 h2 h3 h4 h
  ·obtain⟨⟨e,sz⟩,h5,h⟩:=h.out;exact aoN ho h5 h1 h2 h3 h4 h
  ·obtain⟨⟨n,sz⟩,h5,h⟩:=h.out;exact aoM ho h5 h1 h2 h3 h4 h
  ·exact h.elim
 ·rename_i it ho;obtain⟨p,h1,hA⟩:=h.out;obtain⟨id,off,e1,hB⟩:=A8 hA;clear h hA;subst e1;obtain⟨e1,hC⟩:=hB;subst e1;split at hC
  ·rename_i m since seen ck hI;split at hC
   ·rename_i es OM hM;obtain⟨e1,hD⟩:=hC;subst e1;obtain⟨b,h2,hE⟩:=hD.out;obtain⟨e,h3,hF⟩:=hE.out;exact⟨_,aon ho h1 hI hM h2 h3,hF⟩
   ·exact hC.elim
  ·exact hC.elim
 ·rename_i c ho;split at h
  ·rename_i aY;obtain⟨x,h1,h⟩:=h.out;obtain⟨t,h2,h⟩:=h.out;obtain⟨a,h3,h⟩:=h.out;unfold sg at h;split at h
   ·rename_i hl;exact⟨_,abC ho aY h1 h2 hl h3 rfl,h⟩
   ·rename_i hl;exact⟨_,abC ho aY h1 h2 hl h3 rfl,h⟩
   ·rename_i hl;exact⟨_,aox ho aY h1 h2 hl h3,h⟩
   ·rename_i hl;split at h
    ·rename_i hM;exact⟨_,aow ho aY h1 h2 hl h3 hM,h⟩
    ·exact h.elim
   ·exact h.elim
  ·rename_i aY;split at h
   ·rename_i x y cP;obtain⟨a,h1,hA⟩:=h.out;obtain⟨b,h2,hB⟩:=hA.out;obtain⟨j,m,e1,hC⟩:=oe hB;obtain⟨j',n,e2,hD⟩:=oe hC;subst e1 e2;exact⟨_,aoD ho aY (nf cP) h1 h2,hD⟩
   ·exact h.elim
  ·rename_i aY;split at h
   ·rename_i x y cP;obtain⟨a,h1,hA⟩:=h.out;obtain⟨b,h2,hB⟩:=hA.out;obtain⟨j,m,e1,hC⟩:=oe hB;obtain⟨j',n,e2,hD⟩:=oe hC;subst e1 e2;exact⟨_,aoE ho aY (nf cP) h1 h2,hD⟩
   ·exact h.elim
  ·exact h.elim
 ·exact h.elim
end
open Go.Conc
structure l7 (X Y:Prop):Type where
 n:Nat
def qK (b bJ:Bool)(X Y:Prop)(_t:l7 X Y):Prop:=(b=bJ->X)/\(b= !bJ->Y)
theorem xi{b bJ:Bool}{X Y:Prop}{t:l7 X Y}(h1:b=bJ->X)(h2:b= !bJ->Y):qK b bJ X Y t:=⟨h1,h2⟩
theorem ajb(X Y:Prop)(t:l7 X Y):qK true true X Y t=X:=by simp[qK]
theorem aja(X Y:Prop)(t:l7 X Y):qK true false X Y t=Y:=by simp[qK]
theorem ai9(X Y:Prop)(t:l7 X Y):qK false true X Y t=Y:=by simp[qK]
theorem ai8(X Y:Prop)(t:l7 X Y):qK false false X Y t=X:=by simp[qK]
section
variable (lv:Bool)(P:SK)
def tL (H:List aa)(k:AV->List aa->Prop)(id off n c0 m sz:Nat)(elem:TypeId)(l':List AV):Prop:=off=0/\c0<n/\l'.length=m* sz/\n+m<=2^30/\(∀a∈l',a.leaf=true)/\match H[id]?with
 |some (.own eJ l el)=>eJ=sz/\el=elem/\l.length=n* sz/\k (.bK H.length 0 (n+m) 0) (H.set id .gone++[.own sz (l++l') elem])
 |_=>False
def AV.pP (a:AV)(kO:Nat->Nat->Nat->Nat->Prop)(k:Nat->List AV->End->Prop):Prop:=match a with
 |.bK id off n c=>kO id off n c
 |.sl n l e=>k n l e
 |_=>False
theorem H6{a:AV}{kO:Nat->Nat->Nat->Nat->Prop}{k:Nat->List AV->End->Prop}(h:a.pP kO k):(∃id off n c,a=.bK id off n c/\kO id off n c)\/∃n l e,a=.sl n l e/\k n l e:=by
 unfold AV.pP at h;split at h
 ·exact .inl ⟨_,_,_,_,rfl,h⟩
 ·exact .inr ⟨_,_,_,rfl,h⟩
 ·exact h.elim
def mB (s:AS)(o:Tx)(next:AS->Prop)(bad:AV->AS->Prop):Prop:=match o.op with
 |.box t x=>ap (s.ev x) λa=>ap a.parts λl=>next ((⟨s.T,s.H++[.cells l t]⟩:AS).put o.dst (.op s.H.length 0))
 |.alloc t=>ap (eU P t) λz=>next ((⟨s.T,s.H++[.cells (l6 z) t]⟩:AS).put o.dst (.op s.H.length 0))
 |.store t x y=>ap (s.ev x) λp=>ap (s.ev y) λa=>ap a.parts λlp=>p.pO λid off=>match s.H[id]?with
  |some (.cells l el)=>(ap (Ty P t) λx=>lp.length=x.1)/\off+lp.length<=l.length/\(∀a∈lp,a.leaf=true)/\next ((⟨s.T,s.H.set id (.cells (iF l off lp) el)⟩:AS).put o.dst (.val undef))
  |some (.part p l el)=>p<=off/\(ap (Ty P t) λx=>lp.length=x.1)/\off+lp.length<=l.length/\(∀a∈lp,a.leaf=true)/\next ((⟨s.T,s.H.set id (.part p (iF l off lp) el)⟩:AS).put o.dst (.val undef))
  |some (.own p l el)=>(ap (Ty P t) λx=>lp.length=x.1)/\off+lp.length<=l.length/\(∀a∈lp,a.leaf=true)/\next ((⟨s.T,s.H.set id (.own p (iF l off lp) el)⟩:AS).put o.dst (.val undef))
  |_=>False
 |.makeMap _ none=>next ((⟨s.T,s.H++[.obj (.map #[] 0)]⟩:AS).put o.dst (.mp s.H.length))
 |.makeSlice t x y=>ap (AJ P t) λ(e,sz,z)=>ap (s.ev x) λa=>ap (s.ev y) λb=>a.asInt λ_ n=>b.asInt λ_ n'=>n'=n/\0<=n/\n<=2^30/\next ((⟨s.T,s.H++[.cells (gM z (n.toNat* sz)) e]⟩:AS).put o.dst (.bK s.H.length 0 n.toNat n.toNat))
 |.mapUpdate t m k x=>ap (oO P t) λ(kt,_)=>ap (s.ev m) λp=>ap (s.ev k) λa=>ap (s.ev x) λb=>ap a.raw λK=>ap b.raw λX=>p.sx λid=>match s.H[id]?with
  |some (.obj (.map es ck))=>cD P (Vb false 10000 kt K) ()/\∃fd,cD P (VN kt K es.toList) fd/\(∀i v,fd=some (i,v)->WB 10000 (((es[i]?).map (·.key)).getD K) K=true)/\next ((⟨s.T,s.H.set id (.obj (wB es ck K X fd))⟩:AS).put o.dst (.val undef))
  |_=>False
 |.range t x=>ap (oO P t) λ_=>ap (s.ev x) λp=>p.sx λm=>match s.H[m]?with
  |some (.obj (.map _ ck))=>next ((⟨s.T,s.H++[.iter m ck #[] ck]⟩:AS).put o.dst (.op s.H.length 0))
  |_=>False
 |.next it false=>ap (s.ev it) λp=>p.pO λid off=>off=0/\match s.H[id]?with
  |some (.iter m since seen tI)=>match s.H[m]?with
   |some (.obj (.map es ck))=>(es.all (λe=>decide (e.born>=tI))=false\/es.isEmpty=true\/seen.isEmpty=true)/\
    (∀e∈es,e.born∉seen->next ((⟨s.T,s.H.set id (.iter m since (seen.push e.born) ck)⟩:AS).put o.dst (.aJ [.val (.bool true),AV.of e.key,AV.of e.val])))/\
    ((∀e∈es,e.born<since->e.born∈seen)->next (s.put o.dst (.aJ [.val (.bool false)])))
   |_=>False
  |_=>False
 |.panic x=>ap (s.ev x) λa=>match a with
  |.c9 t av=>bad (.c9 t av) s
  |_=>False
 |.binOp op t x (.const (.slice none 0 0)) _=>(op=.eql\/op=.neq)/\ap (kA P t) λ_=>ap (s.ev x) λa=>ap a.len λn=>∀b:Bool,(0<n->b=false)->next (s.put o.dst (.val (.bool (if op== .neq then !b else b))))
 |.call c=>match c.callee with
  |.builtin .append=>match c.args.toList,c.argTypes.toList with
   |[x,y],[t,t']=>ap (jL P t t') λ(elem,sz,_)=>ap (s.ev x) λa=>ap (s.ev y) λb=>a.pP (λid off n c0=>ap (s.src sz b) λ(m,l')=>tL s.H (λb H'=>next ((⟨s.T,H'⟩:AS).put o.dst b)) id off n c0 m sz elem l') λn l e=>ap (s.src sz b) λ(m,l')=>l.length=n* sz/\l'.length=m* sz/\n+m<=2^30/\Az s o.dst next n m sz elem l l' e
   |_,_=>False
  |.builtin .copy=>match c.args.toList,c.argTypes.toList with
   |[x,y],[t,_]=>ap (kA P t) λ(_,sz)=>ap (s.ev x) λa=>ap (s.ev y) λb=>match a with
    |.bK id off n _=>match s.H[id]?with
     |some (.cells l el)=>ap (s.src sz b) λ(m,l')=>l'.length=m* sz/\off+min m n* sz<=l.length/\(∀a∈l',a.leaf=true)/\next ((⟨s.T,s.H.set id (.cells (iF l off (l'.take (min m n* sz))) el)⟩:AS).put o.dst (.val (.int .i64 (min m n:Nat))))
     |_=>False
    |_=>False
   |_,_=>False
  |.builtin .delete=>match c.args.toList,c.argTypes.toList with
   |[m,k],[t,_]=>ap (oO P t) λ(kt,_)=>ap (s.ev m) λp=>ap (s.ev k) λa=>ap a.raw λK=>p.sx λid=>match s.H[id]?with
    |some (.obj (.map es ck))=>cD P (Vb es.isEmpty 10000 kt K) ()/\∃fd,cD P (VN kt K es.toList) fd/\next ((⟨s.T,s.H.set id (.obj (.map (Eg es fd) ck))⟩:AS).put o.dst (.val undef))
    |_=>False
   |_,_=>False
  |.value x=>ap (s.ev x) λf=>ap (fl s c.args.toList) λaG=>AA lv P f s.H aG (λb H'=>next ((⟨s.T,H'⟩:AS).put o.dst b)) (λpv H'=>bad pv ⟨s.T,H'⟩) ⟨0⟩
  |.invoke x name=>ap (s.ev x) λf=>ap (fl s c.args.toList) λaG=>adw lv P f name s.H aG (λb H'=>next ((⟨s.T,H'⟩:AS).put o.dst b)) (λpv H'=>bad pv ⟨s.T,H'⟩) ⟨0⟩
  |_=>lC P s o λav=>next (s.put o.dst av)
 |_=>lC P s o λav=>next (s.put o.dst av)
def h_ (all:Array Tx):List Tx->AS->(AS->Prop)->(AV->AS->Prop)->Prop
 |[],s,next,_=>next s
 |o::rest,s,next,bad=>match o.guard with
  |none=>mB lv P s o (λs'=>h_ all rest s' next bad) bad
  |some (j,bJ)=>ap ((all[j]?).bind (·.dst)) λd=>ap (look s.T d) λa=>a.asBool λb=>qK b bJ (mB lv P ⟨(d,.val (.bool bJ))::s.T,s.H⟩ o (λs'=>h_ all rest s' next bad) bad) (h_ all rest ((⟨(d,.val (.bool !bJ))::s.T,s.H⟩:AS).put o.dst (.val undef)) next bad) ⟨0⟩
end
section
variable {lv:Bool}{P:SK}{r:Option Nat}{s:AS}
theorem sd{c:Xq}{x y:TypeId}(h:c.argTypes.toList=[x,y]):c.argTypes=#[x,y]:=by
 apply VC;simpa using h
theorem mB.sound{o:Tx}{next:AS->Prop}{bad:AV->AS->Prop}(h:mB lv P s o next bad):Step lv P r o s next bad:=by
 have quiet:(lC P s o λav=>next (s.put o.dst av))->Step lv P r o s next bad:=λh=>by
  obtain⟨av,h1,h2⟩:=h.sound (lv:=lv) (r:=r);exact h1.step h2
 unfold mB at h;split at h
 ·rename_i t x ho;obtain⟨a,h1,h⟩:=h.out;obtain⟨l,h2,h⟩:=h.out;exact acx ho h1 h2 h
 ·rename_i t ho;obtain⟨z,h1,h⟩:=h.out;exact acu ho h1 h
 ·rename_i t x y ho;obtain⟨p,h1,hA⟩:=h.out;obtain⟨a,h2,hB⟩:=hA.out;obtain⟨lp,h3,hC⟩:=hB.out;obtain⟨id,off,e1,hD⟩:=A8 hC;clear h hA hB hC;subst e1;split at hD
  ·rename_i l el hk;obtain⟨q1,q2,q3,q4⟩:=hD;obtain⟨⟨n,g⟩,q5,q6⟩:=q1.out;exact acC ho q5 h1 hk h2 h3 q6 q2 q3 q4
  ·rename_i p l el hk;obtain⟨q0,q1,q2,q3,q4⟩:=hD;obtain⟨⟨n,g⟩,q5,q6⟩:=q1.out;exact aqA ho q5 h1 hk q0 h2 h3 q6 q2 q3 q4
  ·rename_i p l el hk;obtain⟨q1,q2,q3,q4⟩:=hD;obtain⟨⟨n,g⟩,q5,q6⟩:=q1.out;exact acD ho q5 h1 hk h2 h3 q6 q2 q3 q4
  ·exact hD.elim
 ·rename_i t ho;exact aqu ho h
 ·rename_i t x y ho;obtain⟨⟨e,sz,z⟩,h1,hA⟩:=h.out;obtain⟨a,h2,hB⟩:=hA.out;obtain⟨b,h3,hC⟩:=hB.out;obtain⟨j,n,e1,hD⟩:=oe hC;obtain⟨j',n',e2,hE⟩:=oe hD;clear h hA hB hC hD;subst e1 e2;obtain⟨e3,h4,h5,h6⟩:=hE;subst e3;obtain⟨m,rfl⟩:∃m:Nat,n'=m:=⟨n'.toNat,by omega⟩;exact acA ho h1 h2 h3 (by omega) (by simpa using h6)
 ·rename_i t m k x ho;obtain⟨⟨kt,et⟩,h1,hA⟩:=h.out;obtain⟨p,h2,hB⟩:=hA.out;obtain⟨a,h3,hC⟩:=hB.out;obtain⟨b,h4,hD⟩:=hC.out;obtain⟨K,h5,hE⟩:=hD.out;obtain⟨X,h6,hF⟩:=hE.out;obtain⟨id,e1,hG⟩:=D3 hF;clear h hA hB hC hD hE hF;subst e1;split at hG
  ·rename_i es ck hH;obtain⟨q1,fd,q2,q3,q4⟩:=hG;exact aqv (.inl ho) h1 h2 h3 h4 h5 h6 hH q1 q2 q3 q4
  ·exact hG.elim
 ·rename_i t x ho;obtain⟨⟨kt,et⟩,h1,hA⟩:=h.out;obtain⟨p,h2,hB⟩:=hA.out;obtain⟨m,e1,hC⟩:=D3 hB;clear h hA hB;subst e1;split at hC
  ·rename_i es ck hH;exact aqy ho h1 h2 hH hC
  ·exact hC.elim
 ·rename_i it ho;obtain⟨p,h1,hA⟩:=h.out;obtain⟨id,off,e1,hB⟩:=A8 hA;clear h hA;subst e1;obtain⟨e1,hC⟩:=hB;subst e1;split at hC
  ·rename_i m since seen tI hI;split at hC
   ·rename_i es ck hM;exact aqw ho h1 hI hM hC.1 hC.2.1 hC.2.2
   ·exact hC.elim
  ·exact hC.elim
 ·rename_i x ho;obtain⟨a,h1,hA⟩:=h.out;split at hA
  ·exact aqx ho h1 hA
  ·exact hA.elim
 ·rename_i op t x yt ho;obtain⟨au,hA⟩:=h;obtain⟨d,h1,hB⟩:=hA.out;obtain⟨a,h2,hC⟩:=hB.out;obtain⟨n,e1,hD⟩:=hC.out;exact aqz ho au h2 e1 h1 hD
 ·rename_i c ho;split at h
  ·rename_i aY;split at h
   ·rename_i x y t t' ha ht;obtain⟨⟨elem,sz,z⟩,h1,hA⟩:=h.out;obtain⟨a,h2,hB⟩:=hA.out;obtain⟨b,h3,hC⟩:=hB.out;rcases H6 hC with⟨id,off,n,c0,e1,hD⟩|⟨n,l,e,e1,hD⟩
    ·clear h hA hB hC;subst e1;obtain⟨⟨m,l'⟩,h4,rfl,g2,g3,g4,g5,hE⟩:=hD.out;split at hE
     ·rename_i hk;obtain⟨rfl,rfl,g6,g7⟩:=hE;exact acv ho aY (nf ha) (sd ht) h1 h2 g2 hk rfl h3 h4 g6 g3 g4 g5 g7
     ·exact hE.elim
    ·clear h hA hB hC;subst e1;obtain⟨⟨m,l'⟩,h4,h5,h6,h7,h8⟩:=hD.out;exact step_append ho aY (nf ha) (sd ht) h1 h2 h3 h4 h5 h6 h7 h8
   ·exact h.elim
  ·rename_i aY;split at h
   ·rename_i x y t t' ha ht;obtain⟨⟨elem,sz⟩,h1,hA⟩:=h.out;obtain⟨a,h2,hB⟩:=hA.out;obtain⟨b,h3,hC⟩:=hB.out;clear h hA hB;split at hC
    ·split at hC
     ·rename_i hk;obtain⟨⟨m,l'⟩,h4,h5,h6,h7,h8⟩:=hC.out;exact aqs ho aY (nf ha) (sd ht) h1 h2 hk h3 h4 h5 h6 h7 h8
     ·exact hC.elim
    ·exact hC.elim
   ·exact h.elim
  ·rename_i aY;split at h
   ·rename_i m k t t' ha ht;obtain⟨⟨kt,et⟩,h1,hA⟩:=h.out;obtain⟨p,h2,hB⟩:=hA.out;obtain⟨a,h3,hC⟩:=hB.out;obtain⟨K,h4,hD⟩:=hC.out;obtain⟨id,e1,hE⟩:=D3 hD;clear h hA hB hC hD;subst e1;split at hE
    ·rename_i es ck hH;obtain⟨q1,fd,q2,q3⟩:=hE;exact aqt ho aY (nf ha) (sd ht) h1 h2 h3 h4 hH q1 q2 q3
    ·exact hE.elim
   ·exact h.elim
  ·rename_i x aY;obtain⟨f,h1,hA⟩:=h.out;obtain⟨aG,h2,hB⟩:=hA.out;exact M5 ho aY h1 h2 hB
  ·rename_i x name aY;obtain⟨f,h1,hA⟩:=h.out;obtain⟨aG,h2,hB⟩:=hA.out;exact acz ho aY h1 h2 hB
  ·exact quiet h
 ·exact quiet h
structure At (E:Env)(V:View)(s:AS)(a:Act)(nt:Nat):Prop where
 bm:Conc E V s.H
 tok:cj E s.T a.tmps
 size:a.tmps.size=nt
theorem Kept.refl(E:Env)(V:View)(a:Act):Kept E E V V a a:=⟨Env.Le.refl E,rfl,rfl,rfl,rfl⟩
theorem Kept.trans{E E' bE:Env}{V V' aP:View}{a a' bT:Act}(h:Kept E E' V V' a a')(k:Kept E' bE V' aP a' bT):Kept E bE V aP a bT:=
 ⟨h.le.trans k.le,k.size.trans h.size,k.defers.trans h.defers,k.role.trans h.role,k.deaf.trans h.deaf⟩
inductive ao where
 |normal
 |exit (id:Nat)
 |goto (l:Nat)
 |ret
 |panic (pv:AV)
def pI (E:Env):ao->Ex->Prop
 |.normal,.normal=>True
 |.exit i,.exit j=>i=j
 |.goto i,.goto j=>i=j
 |.ret,.ret=>True
 |.panic pv,.panic ch=>∃v,ch=[{v,recovered:=false}]/\aq E pv v
 |_,_=>False
def aX (lv:Bool)(P:SK)(r:Option Nat)(nt:Nat)(c:T7)(s:AS)(Φ:ao->AS->Prop):Prop:=
 ∀(E:Env)(V:View)(a:Act)(Q:Ex->Act->View->Prop),At E V s a nt->(∀ae e E' V' a' s',Kept E E' V V' a a'->At E' V' s' a' nt->pI E' ae e->Φ ae s'->Q e a' V')->WP lv P r c Q a V
theorem yd{nt:Nat}{all:Array Tx}{Φ:ao->AS->Prop}(cR:∀o∈all,∀d,o.dst=some d->d<nt)(nB:∀o∈all,r=none\/mo o.op=false):∀(n k:Nat)(s:AS),k+n=all.size->h_ lv P all (all.toList.drop k) s (Φ .normal) (λpv s=>Φ (.panic pv) s)->
  ∀(E:Env)(V:View)(a:Act)(Q:Ex->Act->View->Prop),At E V s a nt->(∀ae e E' V' a' s',Kept E E' V V' a a'->At E' V' s' a' nt->pI E' ae e->Φ ae s'->Q e a' V')->da lv P r all Q (T4 k n) a V
 |0,k,s,hk,h,E,V,a,Q,ah,hQ=>by
  have:all.toList.drop k=[]:=by simp;omega
  rw[this]at h;exact hQ .normal .normal E V a s (Kept.refl E V a) ah trivial h
 |n+1,k,s,hk,h,E,V,a,Q,ah,hQ=>by
  have hlt:k<all.size:=by omega
  have hd:all.toList.drop k=all[k]::all.toList.drop (k+1):=by
   rw[TW (by simpa using hlt)];simp
  rw[hd]at h;have fI:all[k]∈all:=XX hlt;have ho:all[k]?=some all[k]:=SJ hlt;simp only[VR,da,ho];have go:∀s:AS,At E V s a nt->mB lv P s all[k] (λs'=>h_ lv P all (all.toList.drop (k+1)) s' (Φ .normal) (λpv s=>Φ (.panic pv) s)) (λpv s=>Φ (.panic pv) s)->vg lv P r all[k] a V (da lv P r all Q (T4 (k+1) n)) Q:=λs ah h=>by
   refine h.sound (lv:=lv) (r:=r) E V a _ Q ah.bm ah.tok (λd e=>by rw[ah.size];exact cR _ fI d e) (nB _ fI) (λE' V' a' s' aE ba ml hn=> ?_) (λE' V' s' pv v aE ba ml bp hb=> ?_)
   ·exact yd cR nB n (k+1) s' (by omega) hn E' V' a' Q ⟨ba,ml,aE.size.trans ah.size⟩ (λae e bE aP bT b8 fW cQ he hΦ=>hQ ae e bE aP bT b8 (aE.trans fW) cQ he hΦ)
   ·exact hQ (.panic pv) (.panic _) E' V' a s' aE ⟨ba,ml,ah.size⟩ ⟨v,rfl,bp⟩ hb
  simp only[h_]at h;split at h
  ·rename_i hg;have hw:Tc all[k] (yielded all a.tmps)=true:=(by unfold Tc;rw[hg]);rw[if_pos hw];exact .inl (go s ah h)
  ·rename_i j bJ hg;obtain⟨d,eF,h⟩:=h.out;obtain⟨av,h1,h⟩:=h.out;obtain⟨b,rfl,h2,h3⟩:=A7 h;have hv:=(ah.tok d _ h1).2;have hy:yielded all a.tmps j=some b:=by
    obtain⟨oj,gX,fH⟩:=S_.1 eF;generalize hx:a.tmps.getD d undef=x at hv;cases hv;have mh:d<a.tmps.size:=(ah.tok d _ h1).1;rw[SI,SJ mh]at hx;simp only[S8]at hx;simp[yielded,gX,fH,SJ mh,hx]
   have pw:∀b',b=b'->At E V ⟨(d,.val (.bool b'))::s.T,s.H⟩ a nt:=λb' dq=>by
    subst dq;refine⟨ah.bm,λt x e=> ?_,ah.size⟩;simp only[look]at e;split at e
    ·rename_i e';subst e';cases e;exact ah.tok d _ h1
    ·exact ah.tok t x e
   by_cases hb:b=bJ
   ·have hw:Tc all[k] (yielded all a.tmps)=true:=(by unfold Tc;rw[hg];simp[hy,hb]);rw[if_pos hw];exact .inl (go _ (pw bJ hb) (h2 hb))
   ·have hw:¬Tc all[k] (yielded all a.tmps)=true:=(by unfold Tc;rw[hg];simp[hy,hb]);rw[if_neg hw];have dq:b= !bJ:=(by cases b<;>cases bJ<;>simp_all);have vJ:=h3 dq;have ah:=pw _ dq;exact yd cR nB n (k+1) ((⟨(d,.val (.bool !bJ))::s.T,s.H⟩:AS).put all[k].dst (.val undef)) (by omega) vJ E V (a.put all[k].dst undef) Q
     ⟨by rw[ft];exact ah.bm,ah.tok.gZ (λd e=>by rw[ah.size];exact cR _ fI d e) (.val undef),by rw[dP];exact ah.size⟩
     (λae e bE aP bT b8 fW cQ he hΦ=>hQ ae e bE aP bT b8 ⟨fW.le,fW.size.trans (dP _ _ _),fW.defers.trans (put_defers _ _ _),fW.role,fW.deaf⟩ cQ he hΦ)
def jT (nt:Nat)(ops:Array Tx):Bool:=ops.all λo=>(o.dst.all (·<nt))&& !mo o.op
theorem jT.out{nt:Nat}{ops:Array Tx}(hd:jT nt ops=true){o:Tx}(ho:o∈ops):(∀d,o.dst=some d->d<nt)/\mo o.op=false:=by
 have:=(UE.1 hd) o ho;simp only[Ti,TV]at this;exact⟨λd e=>by have h1:=this.1;rw[e]at h1;simpa using h1,this.2⟩
theorem Of{nt id:Nat}{ops:Array Tx}{Φ:ao->AS->Prop}(hd:jT nt ops=true)(h:h_ lv P ops ops.toList s (Φ .normal) (λpv s=>Φ (.panic pv) s)):aX lv P r nt (.region id ops false) s Φ:=by
 intro E V a Q ah hQ;refine wp_region ?_;rw[Vo];exact yd (Φ:=Φ) (λo ho d e=>(jT.out hd ho).1 d e) (λo ho=> .inr (jT.out hd ho).2) ops.size 0 s (by omega) (by simpa using h) E V a Q ah hQ
theorem Oi{nt:Nat}{Φ:ao->AS->Prop}(h:Φ .normal s):aX lv P r nt .skip s Φ:=λE V a _ ah hQ=>wp_skip (hQ .normal _ E V a s (Kept.refl E V a) ah trivial h)
theorem Od{nt l:Nat}{Φ:ao->AS->Prop}(h:Φ .normal s):aX lv P r nt (.label l) s Φ:=λE V a _ ah hQ=>wp_label (hQ .normal _ E V a s (Kept.refl E V a) ah trivial h)
theorem Oc{nt id:Nat}{Φ:ao->AS->Prop}(h:Φ (.exit id) s):aX lv P r nt (.exit id) s Φ:=λE V a _ ah hQ=>wp_exit (hQ (.exit id) _ E V a s (Kept.refl E V a) ah rfl h)
theorem Og{nt:Nat}{Φ:ao->AS->Prop}(h:Φ .ret s):aX lv P r nt .ret s Φ:=λE V a _ ah hQ=>wp_ret (hQ .ret _ E V a s (Kept.refl E V a) ah trivial h)
def ao.then (next:AS->Prop)(Φ:ao->AS->Prop):ao->AS->Prop
 |.normal,s=>next s
 |e,s=>Φ e s
theorem pI.mono{E E':Env}(h:E.Le E'){ae:ao}{e:Ex}(k:pI E ae e):pI E' ae e:=by
 cases ae<;>cases e<;>first|exact k|(obtain⟨v,h1,h2⟩:=k;exact⟨v,h1,h2.mono h⟩)
theorem gQ{nt:Nat}{x y:T7}{Φ:ao->AS->Prop}(h:aX lv P r nt x s (ao.then (λs'=>aX lv P r nt y s' Φ) Φ)):aX lv P r nt (.seq x y) s Φ:=by
 intro E V a Q ah hQ;refine wp_seq (h E V a _ ah λae e E' V' a' s' hk aQ he hΦ=> ?_);cases ae<;>cases e<;>first
  |exact he.elim
  |exact hΦ E' V' a' Q aQ λae e bE aP bT b8 aE cQ kj tj=>hQ ae e bE aP bT b8 (hk.trans aE) cQ kj tj
  |exact hQ _ _ E' V' a' s' hk aQ he hΦ
theorem ae0{nt:Nat}{c:Tl}{x y:T7}{b:Bool}{Φ:ao->AS->Prop}(hc:s.ev c=some (.val (.bool b)))(h1:b=true->aX lv P r nt x s Φ)(h2:b=false->aX lv P r nt y s Φ):aX lv P r nt (.cond c x y) s Φ:=by
 intro E V a Q ah hQ;have hv:=aq.ev ah.tok hc;generalize hx:a.eval c=v at hv;cases hv;refine wp_cond hx ?_;cases b with
 |true=>exact h1 rfl E V a Q ah hQ
 |false=>exact h2 rfl E V a Q ah hQ
def ao.inBlock (id:Nat)(Φ:ao->AS->Prop):ao->AS->Prop
 |.exit oF,s=>if oF=id then Φ .normal s else Φ (.exit oF) s
 |e,s=>Φ e s
theorem N_{nt id:Nat}{c:T7}{Φ:ao->AS->Prop}(h:aX lv P r nt c s (ao.inBlock id Φ)):aX lv P r nt (.block id c) s Φ:=by
 intro E V a Q ah hQ;refine wp_block (h E V a _ ah λae e E' V' a' s' hk aQ he hΦ=> ?_);cases ae<;>cases e<;>first
  |exact he.elim
  |(rename_i i j
    have e:i=j:=he;subst e;by_cases cu:i=id
    ·simp only[Ex.inBlock,cu,if_true];simp only[ao.inBlock,cu,if_true]at hΦ;exact hQ .normal _ E' V' a' s' hk aQ trivial hΦ
    ·simp only[Ex.inBlock,cu,if_false];simp only[ao.inBlock,cu,if_false]at hΦ;exact hQ (.exit i) _ E' V' a' s' hk aQ rfl hΦ)
  |exact hQ _ _ E' V' a' s' hk aQ he hΦ
theorem aX.mono{nt:Nat}{c:T7}{Φ Φ':ao->AS->Prop}(h:aX lv P r nt c s Φ)(hm:∀e s,Φ e s->Φ' e s):aX lv P r nt c s Φ':=λE V a Q ah hQ=>
 h E V a Q ah λae e E' V' a' s' hk aQ he hΦ=>hQ ae e E' V' a' s' hk aQ he (hm _ _ hΦ)
def Wk (b a:AV):Prop:=∀E v,aq E b v->aq E a v
theorem Wk.refl(a:AV):Wk a a:=λ_ _ h=>h
theorem iX(n:Nat)(l:List AV)(e:End):Wk (.sl n l e) (.sl n l .shut):=λ_ _ h=>by
 cases h with
 |sl b o cap f hc he h1 h2=>exact .sl b o cap f hc trivial h1 h2
 |nil he=>exact .nil trivial
structure AS.Sub (s s':AS):Prop where
 tok:∀t a,look s'.T t=some a->∃b,look s.T t=some b/\Wk b a
 H:s.H=s'.H
theorem At.sub{E:Env}{V:View}{s s':AS}{a:Act}{nt:Nat}(h:At E V s a nt)(hl:s.Sub s'):At E V s' a nt:=
 ⟨by rw[<- hl.H];exact h.bm,λt x e=>by obtain⟨b,h1,h2⟩:=hl.tok t x e;exact⟨(h.tok t b h1).1,h2 _ _ (h.tok t b h1).2⟩,h.size⟩
theorem mJ{lv:Bool}{P:SK}{r:Option Nat}{nt:Nat}{c:T7}{s s':AS}{Φ:ao->AS->Prop}(hl:s.Sub s')(h:aX lv P r nt c s' Φ):aX lv P r nt c s Φ:=λE V a Q ah hQ=>h E V a Q (ah.sub hl) hQ
inductive Lt (n:Nat):AV->Prop
 |val (x:SO):Lt n (.val x)
 |agg {l:List AV} (h:∀a∈l,Lt n a):Lt n (.agg l)
 |aJ {l:List AV} (h:∀a∈l,Lt n a):Lt n (.aJ l)
 |sl {m:Nat} {l:List AV} {e:End} (he:∀k,e=.opn k->k<n) (h:∀a∈l,Lt n a):Lt n (.sl m l e)
 |bK {id off m cap:Nat} (h:id<n):Lt n (.bK id off m cap)
 |rp {l:List AV} (h:∀a∈l,Lt n a):Lt n (.rp l)
 |op {id off:Nat} (h:id<n):Lt n (.op id off)
 |fn {f:Fn} {first cV:List AV} (h1:∀a∈first,Lt n a) (h2:∀a∈cV,Lt n a):Lt n (.fn f first cV)
 |c9 {t:TypeId} {x:AV} (h:Lt n x):Lt n (.c9 t x)
 |mp {id:Nat} (h:id<n):Lt n (.mp id)
theorem pA{l:List AV}{a:AV}(h:a∈l):∃i:Nat,l[i]?=some a:=UP.1 h
theorem aq.lt{E:Env}{a:AV}{v:SO}(d:aq E a v):Lt E.n a:=by
 induction d with
 |val x=>exact .val x
 |agg hs _ ih=>exact .agg λa h=>(pA h).elim λi hi=>ih i a hi
 |aJ hs _ ih=>exact .aJ λa h=>(pA h).elim λi hi=>ih i a hi
 |sl b o cap f hc he h1 _ ih=>exact .sl (λk e=>by subst e;exact he.1) λa h=>(pA h).elim λi hi=>ih i a hi
 |nil he=>exact .sl (λk e=>by subst e;exact he.1) (by simp)
 |bK hi _=>exact .bK hi
 |rp b o f h1 _ ih=>exact .rp λa h=>(pA h).elim λi hi=>ih i a hi
 |op hi=>exact .op hi
 |fn dD fY _ _ mT lz=>exact .fn (λa h=>(pA h).elim λi hi=>mT i a hi) (λa h=>(pA h).elim λi hi=>lz i a hi)
 |c9 _ ih=>exact .c9 ih
 |mp hi=>exact .mp hi
theorem Lt.mono{n m:Nat}(h:n<=m){a:AV}(d:Lt n a):Lt m a:=by
 induction d with
 |val x=>exact .val x
 |agg _ ih=>exact .agg ih
 |aJ _ ih=>exact .aJ ih
 |sl he _ ih=>exact .sl (λk e=>Td (he k e) h) ih
 |bK hi=>exact .bK (Td hi h)
 |rp _ ih=>exact .rp ih
 |op hi=>exact .op (Td hi h)
 |fn _ _ mT lz=>exact .fn mT lz
 |c9 _ ih=>exact .c9 ih
 |mp hi=>exact .mp (Td hi h)
theorem pH.trim{E:Env}{e:End}{a:Option U4}{m cap n:Nat}(h:pH E e a m cap)(hk:∀k,e=.opn k->k<n):pH {E with n:=n} e a m cap:=by
 cases e with
 |exact=>exact h
 |shut=>trivial
 |opn k=>exact⟨hk k rfl,h.2⟩
theorem get_mem{l:List AV}{i:Nat}{a:AV}(h:l[i]?=some a):a∈l:=UP.2 ⟨i,h⟩
theorem aq.trim{E:Env}{a:AV}{v:SO}(d:aq E a v){n:Nat}(h:Lt n a):aq {E with n:=n} a v:=by
 induction d with
 |val x=>exact .val x
 |agg hs _ ih=>cases h with|agg h=>exact .agg hs λi a e=>ih i a e (h a (get_mem e))
 |aJ hs _ ih=>cases h with|aJ h=>exact .aJ hs λi a e=>ih i a e (h a (get_mem e))
 |sl b o cap f hc he h1 _ ih=>cases h with|sl hk h=>exact .sl b o cap f hc (he.trim hk) h1 λi a e=>ih i a e (h a (get_mem e))
 |nil he=>cases h with|sl hk h=>exact .nil (he.trim hk)
 |bK hi dT=>cases h with|bK h=>exact .bK (E:={E with n:=n}) h dT
 |rp b o f h1 _ ih=>cases h with|rp h=>exact .rp b o f h1 λi a e=>ih i a e (h a (get_mem e))
 |op hi=>cases h with|op h=>exact .op (E:={E with n:=n}) h
 |fn dD fY _ _ mT lz=>cases h with|fn h1 h2=>exact .fn dD fY (λi a e=>mT i a e (h1 a (get_mem e))) λi a e=>lz i a e (h2 a (get_mem e))
 |c9 _ ih=>cases h with|c9 h=>exact .c9 (ih h)
 |mp hi=>cases h with|mp h=>exact .mp (E:={E with n:=n}) h
def fj (n:Nat):aa->Prop
 |.cells l _|.part _ l _|.own _ l _=>∀a∈l,Lt n a
 |.iter m _ _ _=>m<n
 |.loop _ _ _ _ T _ _ _ _ df=>(∀t a,look T t=some a->Lt n a)/\df<n
 |_=>True
theorem fj.mono{n m:Nat}(h:n<=m){x:aa}(k:fj n x):fj m x:=by
 cases x with
 |cells l el=>exactλa ha=>(k a ha).mono h
 |part p l el=>exactλa ha=>(k a ha).mono h
 |own p l el=>exactλa ha=>(k a ha).mono h
 |iter=>exact Td k h
 |loop=>exact⟨λt a e=>(k.1 t a e).mono h,Td k.2 h⟩
 |_=>trivial
theorem fQ.olt{E:Env}{V:View}{k:Nat}{x:aa}(h:fQ E V k x):fj E.n x:=by
 cases x with
 |cells l el=>obtain⟨⟨cs,_,h2⟩,_⟩:=h;exactλa ha=>(pA ha).elim λi hi=>(h2.2 i a hi).lt
 |part p l el=>obtain⟨⟨cs,_,h2,_⟩,_⟩:=h;exactλa ha=>(pA ha).elim λi hi=>(h2.2 i a hi).lt
 |own p l el=>obtain⟨⟨cs,_,h2,_⟩,_⟩:=h;exactλa ha=>(pA ha).elim λi hi=>(h2.2 i a hi).lt
 |iter m a b c=>exact h.1
 |loop=>obtain⟨⟨tmps,_,_,h2⟩,h3,_⟩:=h;exact⟨λt a e=>(h2 t a e).2.lt,h3⟩
 |_=>trivial
theorem fQ.trim{E:Env}{V:View}{k n:Nat}{x:aa}(h:fQ E V k x)(hl:fj n x):fQ {E with n:=n} V k x:=by
 cases x with
 |cells l el=>obtain⟨⟨cs,h1,h2⟩,h3⟩:=h;exact⟨⟨cs,h1,h2.1,λi a e=>(h2.2 i a e).trim (hl a (get_mem e))⟩,h3⟩
 |part p l el=>obtain⟨⟨cs,h1,h2,h4⟩,h3⟩:=h;exact⟨⟨cs,h1,⟨h2.1,λi a e=>(h2.2 i a e).trim (hl a (get_mem e))⟩,h4⟩,h3⟩
 |own p l el=>obtain⟨⟨cs,h1,h2,h4⟩,h3⟩:=h;exact⟨⟨cs,h1,⟨h2.1,λi a e=>(h2.2 i a e).trim (hl a (get_mem e))⟩,h4⟩,h3⟩
 |iter m a b c=>exact⟨hl,h.2⟩
 |tail m sz el=>exact h
 |obj x=>exact h
 |loop=>obtain⟨⟨tmps,h1,h2,h3⟩,h4,h5⟩:=h;exact⟨⟨tmps,h1,h2,λt a e=>⟨(h3 t a e).1,(h3 t a e).2.trim (hl.1 t a e)⟩⟩,hl.2,h5⟩
 |gone=>trivial
 |main=>exact h
def bQ (H:List aa):Prop:=∀x∈H,fj H.length x
theorem Conc.am{E:Env}{V:View}{H:List aa}(h:Conc E V H):bQ H:=λx hx=>by
 obtain⟨i,hi⟩:=UP.1 hx;rw[<- h.n];exact(h.obj i x hi).olt
theorem Ea(E:Env)(n k:Nat)(x:aa):bN {E with n:=n} k x=bN E k x:=by cases x<;>rfl
theorem Conc.trim{E:Env}{V:View}{H G:List aa}(h:Conc E V (H++G))(hl:bQ H):Conc {E with n:=H.length} V H:=by
 have hg:∀(k:Nat) x,H[k]?=some x->(H++G)[k]?=some x:=λk x e=>by rw[SW (SN.1 e).1];exact e
 refine⟨h.I,rfl,λk x e=>(h.obj k x (hg k x e)).trim (hl x (Tf e)),λi j x y b h1 h2 h3 h4=> ?_,λg ko=> ?_,λg ko=> ?_,h.top,λb y ko=> ?_⟩
 ·rw[Ea]at h3 h4;exact h.inj i j x y b (hg i x h1) (hg j y h2) h3 h4
 ·obtain⟨q0,q1,q2⟩:=h.group g ko;exact⟨q0,q1,λk x e=>by rw[Ea];exact q2 k x (hg k x e)⟩
 ·obtain⟨q0,q1,q2⟩:=h.chan g ko;exact⟨q0,q1,λk x e=>by rw[Ea];exact q2 k x (hg k x e)⟩
 ·obtain⟨q0,q1,q2⟩:=h.fr b y ko;exact⟨q0,q1,λk x e=>by rw[Ea];exact q2 k x (hg k x e)⟩
structure AS.HK (s s':AS):Prop where
 tok:∀t a,look s'.T t=some a->∃b,look s.T t=some b/\Wk b a/\Lt s'.H.length a
 H:∃G,s.H=s'.H++G
 ok:bQ s'.H
theorem Df{E:Env}{n m:Nat}(h1:m<=n)(h2:n<=E.n){E0:Env}(h:E0.Le E)(h0:E0.n=m):E0.Le {E with n:=n}:=⟨h.I,by show E0.n<=n;omega,h.blk,h.fD,h.room,h.fr,h.main⟩
theorem At.cut{E:Env}{V:View}{s s':AS}{a:Act}{nt:Nat}(h:At E V s a nt)(hl:s.HK s'):At {E with n:=s'.H.length} V s' a nt:=by
 obtain⟨G,hG⟩:=hl.H;have hc:=h.bm;rw[hG]at hc;refine⟨hc.trim hl.ok,λt x e=> ?_,h.size⟩;obtain⟨b,h1,h2,h3⟩:=hl.tok t x e;exact⟨(h.tok t b h1).1,(h2 _ _ (h.tok t b h1).2).trim h3⟩
theorem ae4{nt:Nat}{α:Type}{lt:α->α->Prop}(wf:WellFounded lt){c:T7}{Φ:ao->AS->Prop}(inv:α->AS)(ok:α->Prop)(m:α)(h0:s.Sub (inv m))(hm:ok m)(hn:∀m,ok m->s.H.length<=(inv m).H.length)
  (h:∀m,ok m->aX lv P r nt c (inv m) (ao.then (λs'=>∃m',lt m' m/\ok m'/\(s'.Sub (inv m')\/s'.HK (inv m'))) Φ)):aX lv P r nt (.loop c) s Φ:=by
 intro E V a Q ah hQ;refine Nu wf (I:=λm a' V'=>ok m/\∃E',Kept E E' V V' a a'/\At E' V' (inv m) a' nt) m ⟨hm,E,Kept.refl E V a,ah.sub h0⟩ λm a' V' hI=> ?_;obtain⟨am,E',hk,aQ⟩:=hI;refine h m am E' V' a' _ aQ λae e bE aP bT b8 aE cQ he hΦ=> ?_;cases ae<;>cases e<;>first
  |exact he.elim
  |(obtain⟨m',h1,h2,h3⟩:=hΦ
    rcases h3 with h3|h3
    ·exact⟨m',h1,h2,bE,hk.trans aE,cQ.sub h3⟩
    ·refine⟨m',h1,h2,_,?_,cQ.cut h3⟩;have ce:=hk.trans aE;obtain⟨G,hG⟩:=h3.H;exact⟨Df (hn m' h2) (by rw[cQ.bm.n,hG];simp) ce.le ah.bm.n,ce.size,ce.defers,ce.role,ce.deaf⟩)
  |exact hQ _ _ bE aP bT b8 (hk.trans aE) cQ he hΦ
theorem ae9{nt:Nat}{c:T7}{Φ:ao->AS->Prop}(inv:Nat->Nat->AS->Prop)
  (start:∃n:Nat,aX lv P r nt c s (λe s'=>match e with
   |.goto l=>∃rest,findLabel c l=some rest/\∃m,m<n/\inv l m s'
   |e=>Φ e s'))
  (back:∀l rest m s',findLabel c l=some rest->inv l m s'->aX lv P r nt rest s' (λe b8=>match e with
   |.goto l'=>∃yi,findLabel c l'=some yi/\∃m',m'<m/\inv l' m' b8
   |e=>Φ e b8)):aX lv P r nt (.scope c) s Φ:=by
 intro E V a Q ah hQ;refine adm (λl m a' V'=>∃E' s',Kept E E' V V' a a'/\At E' V' s' a' nt/\inv l m s') ?_ ?_
 ·obtain⟨n,hn⟩:=start;refine⟨n,hn E V a _ ah λae e E' V' a' s' hk aQ he hΦ=> ?_⟩;cases ae<;>cases e<;>first
   |exact he.elim
   |(have e:_=_:=he
     subst e;obtain⟨rest,h1,m,h2,h3⟩:=hΦ;exact⟨rest,h1,m,h2,E',s',hk,aQ,h3⟩)
   |exact hQ _ _ E' V' a' s' hk aQ he hΦ
 ·intro l rest m a' V' hf ⟨E',s',hk,aQ,hi⟩;refine back l rest m s' hf hi E' V' a' _ aQ λae e bE aP bT b8 aE cQ he hΦ=> ?_;cases ae<;>cases e<;>first
   |exact he.elim
   |(have e:_=_:=he
     subst e;obtain⟨yi,h1,m',h2,h3⟩:=hΦ;exact⟨yi,h1,m',h2,bE,b8,hk.trans aE,cQ,h3⟩)
   |exact hQ _ _ bE aP bT b8 (hk.trans aE) cQ he hΦ
end
def br:Nat->List AV->List (Nat×AV)
 |_,[]=>[]
 |i,a::l=>(i,a)::br (i+1) l
theorem LX:∀(l:List AV)(i t:Nat)(a:AV),look (br i l) t=some a->i<=t/\l[t-i]?=some a
 |[],_,_,_,h=>by cases h
 |b::l,i,t,a,h=>by
  simp only[br,look]at h;split at h
  ·rename_i e;subst e;cases h;exact⟨SU _,by simp⟩
  ·obtain⟨h1,h2⟩:=LX l (i+1) t a h;refine⟨by omega,?_⟩;have:t-i=(t-(i+1))+1:=(by omega);rw[this,UH];exact h2
def uU (P:SK)(s:AS):UM->Option AV
 |.tmp t=>look s.T t
 |.cell a t=>(look s.T a).bind λp=>(s.at p).bind λl=>(Ty P t).bind λx=>if x.2 then(if x.1<=l.length then some (.agg (l.take x.1))else none)else l[0]?
def g_ (P:SK)(s:AS):List UM->Option (List AV)
 |[]=>some []
 |x::l=>match uU P s x,g_ P s l with
  |some a,some aG=>some (a::aG)
  |_,_=>none
def iU:List AV->AV
 |[a]=>a
 |l=> .aJ l
theorem ao4{P:SK}{E:Env}{V:View}{s:AS}{a:Act}{nt:Nat}(ah:At E V s a nt){x:UM}{av:AV}(h:uU P s x=some av):
  ∃v,aq E av v/\∀{K:SO->View->Prop}{Kp:SO->View->Prop},K v V->aR P V (match x with|.tmp t=>pure (a.tmps.getD t undef)|.cell b t=>do loadVar t (<- asAddr (a.tmps.getD b undef))) K Kp:=by
 cases x with
 |tmp t=>exact⟨_,(ah.tok t av h).2,λhK=>ay hK⟩
 |cell b t=>
  unfold uU at h;obtain⟨p,h1,h⟩:=S_.1 h;obtain⟨l,h2,h⟩:=S_.1 h;obtain⟨⟨n,g⟩,h3,h⟩:=S_.1 h;obtain⟨i,d,t1,t2,rfl,t4⟩:=Ty.out h3;obtain⟨bb,off,f,hv,hg,ko,hd⟩:=ah.bm.at (ah.tok b p h1).2 h2;dsimp only;rw[hv];cases g with
  |true=>
   simp only[if_true]at h;split at h
   ·rename_i hlen;cases h;refine⟨_,IA hlen hd,λhK=> ?_⟩;refine az ?_;unfold asAddr;refine ay ?_;unfold loadVar;refine C7 t2 ?_;rw[t4];simp only[if_true];refine j3 t1 ?_;exact az (Ak (f:=f) (λh=>ko (by omega)) (λj hj=>hg j (by omega)) (ay hK))
   ·cases h
  |false=>
   simp only[TM,if_false]at h;have hlen:0<l.length:=(SN.1 h).1;have oy:=hg 0 hlen;rw[UK]at oy;refine⟨_,hd 0 av h,λhK=> ?_⟩;refine az ?_;unfold asAddr;refine ay ?_;unfold loadVar;refine C7 t2 ?_;rw[t4];simp only[TM,if_false];exact MT oy (.inl (ko hlen)) (cM hK)
theorem GV{P:SK}{E:Env}{V:View}{s:AS}{a:Act}{nt:Nat}(ah:At E V s a nt):∀(rs:List UM)(l:List AV),g_ P s rs=some l->∃vs:List SO,vs.length=l.length/\(∀(i:Nat) x,l[i]?=some x->aq E x (vs.getD i undef))/\
  ∀{K:List SO->View->Prop}{Kp:SO->View->Prop},K vs V->aR P V (rs.mapM λx=>(match x with|.tmp t=>pure (a.tmps.getD t undef)|.cell b t=>do loadVar t (<- asAddr (a.tmps.getD b undef)):Sem SO)) K Kp
 |[],l,h=>by
  cases h;refine⟨[],rfl,by simp,λhK=> ?_⟩;rw[UF];exact ay hK
 |x::rs,l,h=>by
  simp only[g_]at h;split at h
  ·rename_i av l9 h1 h2;cases h;obtain⟨v,hv,hs⟩:=ao4 ah h1;obtain⟨vs,hl,lT,FI⟩:=GV ah rs l9 h2;refine⟨v::vs,by simp[hl],λi x hx=> ?_,λhK=> ?_⟩
   ·cases i with
    |zero=>cases hx;simpa using hv
    |succ i=>simpa using lT i x (by simpa using hx)
   ·rw[Ue];exact az (hs (az (FI (ay hK))))
  ·cases h
attribute [seval] Int.natCast_pow Int.natCast_mul Int.natCast_shiftLeft Int.natCast_emod Int.ofNat_sub Int.natCast_shiftRight Int.natCast_add_one Int.natCast_add Int.cast_id Int.natCast_sub Int.natCast_ediv Int.natCast_succ
open Go.Conc
def cw (n0:Nat)(H:List aa)(a:AV)(k:AV->List aa->Prop):Prop:=
 ∃b,Wk a b/\(k b H\/∃H' G,H=H'++G/\n0<=H'.length/\bQ H'/\Lt H'.length b/\k b H')
def tO (P:SK)(rs:List UM)(n0:Nat)(k kp:AV->List aa->Prop):ao->AS->Prop
 |.normal,s|.ret,s=>ap (g_ P s rs) λl=>cw n0 s.H (iU l) k
 |.panic pv,s=>cw n0 s.H pv kp
 |_,_=>False
theorem cm{n0:Nat}{H:List aa}{a:AV}{k:AV->List aa->Prop}(h:k a H):cw n0 H a k:=⟨a,Wk.refl a,.inl h⟩
theorem jU{H H' G:List aa}{a b:AV}{k:AV->List aa->Prop}{n0:Nat}(hw:Wk a b)(hH:H=H'++G)(hn:n0<=H'.length)(am:bQ H')(hl:Lt H'.length b)(h:k b H'):cw n0 H a k:=⟨b,hw,.inr ⟨H',G,hH,hn,am,hl,h⟩⟩
theorem xb{n0:Nat}{E0 E:Env}{V':View}{H:List aa}{a:AV}{v:SO}{k:AV->List aa->Prop}(h:cw n0 H a k)(hc:Conc E V' H)(hd:aq E a v)(hle:E0.Le E)(hn:E0.n=n0):∃b E' H',E0.Le E'/\aq E' b v/\Conc E' V' H'/\k b H':=by
 obtain⟨b,hw,h|⟨H',G,rfl,h1,h2,h3,h4⟩⟩:=h
 ·exact⟨b,E,H,hle,hw _ _ hd,hc,h⟩
 ·refine⟨b,{E with n:=H'.length},H',Df h1 (by rw[hc.n];simp) hle hn,(hw _ _ hd).trim h3,hc.trim h2,h4⟩
theorem aiz{lv:Bool}{P:SK}{f:TN}{fn:YD}{c:T7}{rs:List UM}{nt:Nat}{H:List aa}{args:List AV}{k kp:AV->List aa->Prop}(hf:P.funcs[f]?=some fn)(hb:fn.body=some c)(hr:fn.results=rs.toArray)(hn:fn.ntmps=nt)(cP:args.length<=nt)
  (h:bQ H->(∀a∈args,Lt H.length a)->aX lv P none nt c ⟨br 0 args,H⟩ (tO P rs H.length k kp)):bc lv P f H args k kp:=by
 intro E V vs hc hd;have aU:(vs++TE (fn.ntmps-vs.size) undef).size=nt:=by simp[hd.1];omega
 have hlt:∀a∈args,Lt H.length a:=λa ha=>by
  obtain⟨i,hi⟩:=pA ha;rw[<- hc.n];exact(hd.2 i a hi).lt
 refine OA (by simp) hf hb (h hc.am hlt E V _ _ ⟨hc,λq a e=> ?_,aU⟩ λae e E' V' a' s' hk ah he hΦ=> ?_)
 ·obtain⟨_,e⟩:=LX args 0 q a e;simp only[Z0]at e;have hq:q<args.length:=(SN.1 e).1;have s_:q<vs.size:=by rw[hd.1];exact hq
  refine⟨by rw[aU];omega,?_⟩;have:=hd.2 q a e;rw[SI,Yc s_];rwa [SI]at this
 ·have fin:(ap (g_ P s' rs) λl=>cw H.length s'.H (iU l) k)->a'.defers=[]/\∃v,aR P V' (results fn a'.tmps) (λx aP=>x=v/\aP=V') (λ_ _=>False)/\gO E V k kp (.ret v) V':=by
   intro hΦ;obtain⟨l,h1,h2⟩:=hΦ.out;have gA:∃v,aq E' (iU l) v/\aR P V' (results fn a'.tmps) (λx aP=>x=v/\aP=V') (λ_ _=>False):=by
    obtain⟨vs,hl,lT,xL⟩:=GV ah rs l h1;refine⟨if h:vs.length=1 then vs[0]else .tuple vs.toArray,?_,?_⟩
    ·match l,vs,hl,lT with
     |[x],[v],_,lT=>exact lT 0 x rfl
     |[],[],_,lT=>exact .aJ rfl (by simp)
     |x::y::l,v::w::vs,hl,lT=>exact .aJ (by simpa using hl) (λi z hz=>by simpa[SI,SE]using lT i z hz)
    ·unfold results;rw[hr,X4];refine az ?_;refine az (xL ?_);refine ay (ay ⟨?_,rfl⟩);simp
   obtain⟨v,bp,qn⟩:=gA;obtain⟨b,bE,H',q1,q2,q3,q4⟩:=xb h2 ah.bm bp hk.le hc.n;exact⟨hk.defers,v,qn,b,bE,H',q1,hk.role,hk.deaf,q2,q3,q4⟩
  cases ae<;>cases e<;>first
   |exact he.elim
   |exact fin hΦ
   |(obtain⟨v,rfl,bp⟩:=he
     obtain⟨b,bE,H',q1,q2,q3,q4⟩:=xb hΦ ah.bm bp hk.le hc.n;exact⟨hk.defers,b,v,bE,H',rfl,q1,hk.role,hk.deaf,q2,q3,q4⟩)
   |exact hΦ.elim
open Go.Conc
theorem amC(k:Nat)(a:AV)(l:List (Nat×AV)):look ((k,a)::l) k=some a:=by simp[look]
theorem amD(k t:Nat)(a:AV)(l:List (Nat×AV))(h:(k==t)=false):look ((k,a)::l) t=look l t:=by
 have:¬k=t:=by simpa using h
 simp[look,this]
theorem ww{α:Type}(a:α)(k:α->Prop):ap (some a) k=k a:=by rw[ap]
theorem aeL(b:Bool)(k:Bool->Prop):AV.asBool (.val (.bool b)) k=k b:=by rw[AV.asBool]
theorem aeN(j:TU)(n:Int)(k:TU->Int->Prop):AV.asInt (.val (.int j n)) k=k j n:=by rw[AV.asInt]
theorem aeU(l:List AV)(k:List AV->Prop):AV.wZ (.aJ l) k=k l:=by rw[AV.wZ]
theorem aeJ(l:List AV)(k:List AV->Prop):AV.asAgg (.agg l) k=k l:=by rw[AV.asAgg]
theorem aeP(i j:Nat)(k:Nat->Nat->Prop):AV.pO (.op i j) k=k i j:=by rw[AV.pO]
theorem aeO(i:Nat)(k:Nat->Prop):AV.sx (.mp i) k=k i:=by rw[AV.sx]
theorem aeS(n:Nat)(l:List AV)(e:End)(k:Nat->List AV->End->Prop):AV.vt (.sl n l e) k=k n l e:=by rw[AV.vt]
theorem ad8(P:SK)(xt:TypeId)(j:TU)(m n:Int)(k:AV->Prop):dw P .add xt (.val (.int j m)) (.val (.int j n)) k=k (.val (.int j (j.wrap (m+n)))):=by simp[dw,mU,l_,ap]
theorem ael(P:SK)(xt:TypeId)(j:TU)(m n:Int)(k:AV->Prop):dw P .sub xt (.val (.int j m)) (.val (.int j n)) k=k (.val (.int j (j.wrap (m-n)))):=by simp[dw,mU,l_,ap]
theorem aeh(P:SK)(xt:TypeId)(j:TU)(m n:Int)(k:AV->Prop):dw P .mul xt (.val (.int j m)) (.val (.int j n)) k=k (.val (.int j (j.wrap (m* n)))):=by simp[dw,mU,l_,ap]
theorem aeb(P:SK)(xt:TypeId)(j:TU)(m n:Int)(k:AV->Prop):dw P .eql xt (.val (.int j m)) (.val (.int j n)) k=k (.val (.bool (m==n))):=by simp[dw,mU,l_,ap]
theorem NU(P:SK)(xt:TypeId)(j:TU)(m n:Int)(k:AV->Prop):dw P .neq xt (.val (.int j m)) (.val (.int j n)) k=k (.val (.bool (m !=n))):=by simp[dw,mU,l_,ap]
theorem aeg(P:SK)(xt:TypeId)(j:TU)(m n:Int)(k:AV->Prop):dw P .lss xt (.val (.int j m)) (.val (.int j n)) k=k (.val (.bool (decide (m<n)))):=by simp[dw,mU,l_,ap]
theorem aef(P:SK)(xt:TypeId)(j:TU)(m n:Int)(k:AV->Prop):dw P .leq xt (.val (.int j m)) (.val (.int j n)) k=k (.val (.bool (decide (m<=n)))):=by simp[dw,mU,l_,ap]
theorem aed(P:SK)(xt:TypeId)(j:TU)(m n:Int)(k:AV->Prop):dw P .gtr xt (.val (.int j m)) (.val (.int j n)) k=k (.val (.bool (decide (m>n)))):=by simp[dw,mU,l_,ap]
theorem aec(P:SK)(xt:TypeId)(j:TU)(m n:Int)(k:AV->Prop):dw P .geq xt (.val (.int j m)) (.val (.int j n)) k=k (.val (.bool (decide (m>=n)))):=by simp[dw,mU,l_,ap]
theorem ad9(P:SK)(xt:TypeId)(j:TU)(m n:Int)(k:AV->Prop):dw P .and xt (.val (.int j m)) (.val (.int j n)) k=k (.val (.int j (j.wrap (Ud j.bits m&&&Ud j.bits n).toNat))):=by simp[dw,mU,l_,ap]
theorem A3(P:SK)(xt:TypeId)(j:TU)(m n:Int)(k:AV->Prop):dw P .or xt (.val (.int j m)) (.val (.int j n)) k=k (.val (.int j (j.wrap (Ud j.bits m|||Ud j.bits n).toNat))):=by simp[dw,mU,l_,ap]
theorem A5(P:SK)(xt:TypeId)(j:TU)(m n:Int)(k:AV->Prop):dw P .xor xt (.val (.int j m)) (.val (.int j n)) k=k (.val (.int j (j.wrap (Ud j.bits m^^^Ud j.bits n).toNat))):=by simp[dw,mU,l_,ap]
theorem aej(P:SK)(xt:TypeId)(j:TU)(m n:Int)(k:AV->Prop):dw P .rem xt (.val (.int j m)) (.val (.int j n)) k=ap (if n=0 then none else some (.int j (m.tmod n))) λv=>k (.val v):=by simp[dw,mU,l_]
theorem aek(P:SK)(xt:TypeId)(j j':TU)(m n:Int)(k:AV->Prop):dw P .shl xt (.val (.int j m)) (.val (.int j' n)) k=ap (if n<0 then none else some (.int j (j.wrap (m* 2^(min n.toNat j.bits))))) λv=>k (.val v):=by simp[dw,mU,An]
theorem A4(P:SK)(xt:TypeId)(j j':TU)(m n:Int)(k:AV->Prop):dw P .shr xt (.val (.int j m)) (.val (.int j' n)) k=ap (if n<0 then none else some (.int j (m.fdiv (2^(min n.toNat j.bits))))) λv=>k (.val v):=by simp[dw,mU,An]
theorem ag5(T:List (Nat×AV))(H:List aa)(t:Nat):AS.ev ⟨T,H⟩ (.tmp t)=look T t:=by rw[AS.ev]
theorem agV(s:AS)(b:Bool):s.ev (.const (.bool b))=some (.val (.bool b)):=by rw[AS.ev,AV.of]<;>(intros;simp_all)
theorem agZ(s:AS)(k:TU)(n:Int):s.ev (.const (.int k n))=some (.val (.int k n)):=by rw[AS.ev,AV.of]<;>(intros;simp_all)
theorem agX(s:AS)(f:TN):s.ev (.func f)=some (.fn (.func f) [] []):=by rw[AS.ev]
theorem ag4(s:AS):s.ev (.const (.slice none 0 0))=some (.sl 0 [] .exact):=by rw[AS.ev,AV.of]
theorem ag0(s:AS):s.ev (.const (.map none))=some (.val (.map none)):=by rw[AS.ev,AV.of]<;>(intros;simp_all)
theorem ag1(s:AS):s.ev (.const (.pointer none))=some (.val (.pointer none)):=by rw[AS.ev,AV.of]<;>(intros;simp_all)
theorem agW(s:AS):s.ev (.const .nilFunc)=some (.val .nilFunc):=by rw[AS.ev,AV.of]<;>(intros;simp_all)
theorem agY(s:AS):s.ev (.const .nilIface)=some (.val .nilIface):=by rw[AS.ev,AV.of]<;>(intros;simp_all)
theorem aod(T:List (Nat×AV))(H:List aa)(d:Nat)(a:AV):AS.put ⟨T,H⟩ (some d) a=⟨(d,a)::T,H⟩:=by rw[AS.put]
theorem aoc(s:AS)(a:AV):AS.put s none a=s:=by rw[AS.put]
theorem aq5(n:AS->Prop)(Φ:ao->AS->Prop)(s:AS):ao.then n Φ .normal s=n s:=by rw[ao.then]
theorem aq7(n:AS->Prop)(Φ:ao->AS->Prop)(s:AS):ao.then n Φ .ret s=Φ .ret s:=by rw[ao.then];intro h;cases h
theorem aq3(n:AS->Prop)(Φ:ao->AS->Prop)(i:Nat)(s:AS):ao.then n Φ (.exit i) s=Φ (.exit i) s:=by rw[ao.then];intro h;cases h
theorem aq4(n:AS->Prop)(Φ:ao->AS->Prop)(i:Nat)(s:AS):ao.then n Φ (.goto i) s=Φ (.goto i) s:=by rw[ao.then];intro h;cases h
theorem aq6(n:AS->Prop)(Φ:ao->AS->Prop)(a:AV)(s:AS):ao.then n Φ (.panic a) s=Φ (.panic a) s:=by rw[ao.then];intro h;cases h
theorem afK(i:Nat)(Φ:ao->AS->Prop)(s:AS):ao.inBlock i Φ .normal s=Φ .normal s:=by rw[ao.inBlock];intro h h';cases h'
theorem afM(i:Nat)(Φ:ao->AS->Prop)(s:AS):ao.inBlock i Φ .ret s=Φ .ret s:=by rw[ao.inBlock];intro h h';cases h'
theorem afH(i l:Nat)(Φ:ao->AS->Prop)(s:AS):ao.inBlock i Φ (.goto l) s=Φ (.goto l) s:=by rw[ao.inBlock];intro h h';cases h'
theorem afL(i:Nat)(Φ:ao->AS->Prop)(a:AV)(s:AS):ao.inBlock i Φ (.panic a) s=Φ (.panic a) s:=by rw[ao.inBlock];intro h h';cases h'
theorem afI(i:Nat)(Φ:ao->AS->Prop)(s:AS):ao.inBlock i Φ (.exit i) s=Φ .normal s:=by rw[ao.inBlock,if_pos rfl]
theorem afJ(i j:Nat)(Φ:ao->AS->Prop)(s:AS)(h:(j==i)=false):ao.inBlock i Φ (.exit j) s=Φ (.exit j) s:=by
 have:¬j=i:=by simpa using h
 rw[ao.inBlock,if_neg this]
theorem aiK(P:SK)(rs:List UM)(n:Nat)(k kp:AV->List aa->Prop)(s:AS):tO P rs n k kp .ret s=ap (g_ P s rs) λl=>cw n s.H (iU l) k:=by rw[tO]
theorem aiI(P:SK)(rs:List UM)(n:Nat)(k kp:AV->List aa->Prop)(s:AS):tO P rs n k kp .normal s=ap (g_ P s rs) λl=>cw n s.H (iU l) k:=by rw[tO]
theorem aiJ(P:SK)(rs:List UM)(n:Nat)(k kp:AV->List aa->Prop)(a:AV)(s:AS):tO P rs n k kp (.panic a) s=cw n s.H a kp:=by rw[tO]
theorem ao5(P:SK)(T:List (Nat×AV))(H:List aa)(t:Nat):uU P ⟨T,H⟩ (.tmp t)=look T t:=by rw[uU]
theorem aeZ(s:AS)(l:List AV):s.at (.rp l)=some l:=by rw[AS.at]
theorem apU(n i off:Nat):AV.shift n (.op i off)=some (.op i (off+n)):=by rw[AV.shift]
theorem acj(n:Nat)(l:List AV)(h:n<=l.length):AV.shift n (.rp l)=some (.rp (l.drop n)):=by rw[AV.shift,if_pos h]
theorem apV(l:List AV):AV.shift 0 (.rp l)=some (.rp l):=by rw[AV.shift,if_pos (Yd _),XA]
theorem apW(n:Nat)(a:AV)(l:List AV):AV.shift (n+1) (.rp (a::l))=AV.shift n (.rp l):=by simp[AV.shift]
theorem apg(n:Nat)(l:List AV)(e:End):AV.row (.sl n l e)=some (n,.rp l):=by rw[AV.row]
theorem apf(i off n cap:Nat):AV.row (.bK i off n cap)=some (n,.op i off):=by rw[AV.row]
theorem adS(P:SK)(s:AS){t:TypeId}(n:Nat)(l:List AV)(e:End)(k:AV->Prop)(h:lE P t=some .slice):sg P s t (.sl n l e) k=k (.val (.int .i64 n)):=by unfold sg;rw[h]
theorem adR(P:SK)(s:AS){t:TypeId}(i off n cap:Nat)(k:AV->Prop)(h:lE P t=some .slice):sg P s t (.bK i off n cap) k=k (.val (.int .i64 n)):=by unfold sg;rw[h]
theorem adQ(P:SK)(T:List (Nat×AV))(H:List aa){t:TypeId}(id:Nat)(k:AV->Prop){es:Array Wm}{ck:Nat}(h:lE P t=some .map)(hH:H[id]?=some (.obj (.map es ck))):sg P ⟨T,H⟩ t (.mp id) k=k (.val (.int .i64 es.size)):=by
 unfold sg;rw[h];simp[hH]
theorem bA{a b:AV}:(∃c,some b=some c/\Wk c a)<->Wk b a:=⟨λ⟨_,h,k⟩=>by cases h;exact k,λh=>⟨_,rfl,h⟩⟩
abbrev iv (n:Int):AV:=.val (.int .i64 n)
abbrev bv (b:Bool):AV:=.val (.bool b)
open Go.Conc
theorem Oa{lv:Bool}{P:SK}{r:Option Nat}{s:AS}{nt:Nat}{c:Tl}{x y:T7}{Φ:ao->AS->Prop}(h:ap (s.ev c) λa=>a.asBool λb=>(b=true->aX lv P r nt x s Φ)/\(b=false->aX lv P r nt y s Φ)):aX lv P r nt (.cond c x y) s Φ:=by
 obtain⟨a,h1,h2⟩:=h.out;obtain⟨b,rfl,h3,h4⟩:=A7 h2;exact ae0 h1 h3 h4
theorem Pd{α β:Type}{f:α->List β}{m:Nat}(hf:∀x,(f x).length=m):∀{xs:List α}{i:Nat}{x:α},xs[i]?=some x->(xs.flatMap f).drop (i* m)=f x++(xs.drop (i+1)).flatMap f
 |y::xs,0,x,h=>by cases h;simp
 |y::xs,i+1,x,h=>by
  have ih:=Pd hf (xs:=xs) (i:=i) (x:=x) (by simpa using h);rw[Uo,Vd,Nat.one_mul,Z6 (i* m) m,<- ae_];have:(f y++xs.flatMap f).drop m=xs.flatMap f:=by rw[<- hf y];simp
  rw[this,ih];simp
 |[],i,x,h=>by simp at h
theorem amh{α β:Type}{f:α->List β}{m:Nat}(hf:∀x,(f x).length=m)(xs:List α):(xs.flatMap f).length=xs.length* m:=by
 induction xs with
 |nil=>simp
 |cons x xs ih=>rw[Uo,SQ,hf,ih,Uh,Vd];omega
theorem ach{α:Type}{f:α->List AV}{m:Nat}(hf:∀x,(f x).length=m){xs:List α}{i:Nat}{x:α}(h:xs[i]?=some x):AV.shift (i* m) (.rp (xs.flatMap f))=some (.rp (f x++(xs.drop (i+1)).flatMap f)):=by
 have hi:i<xs.length:=(SN.1 h).1;rw[acj _ _ (by rw[amh hf];exact Uc _ (by omega)),Pd hf h]
theorem aci{α:Type}{f:α->AV}{xs:List α}{i:Nat}{x:α}(h:xs[i]?=some x):AV.shift (i* 1) (.rp (xs.map f))=some (.rp (f x::(xs.drop (i+1)).map f)):=by
 have hi:i<xs.length:=(SN.1 h).1;rw[ZP,acj _ _ (by simp;omega)];congr 2;rw[<- ai',TW hi,UW];congr 2;rw[SP hi]at h;exact VX h
theorem jR{i n:Nat}(h:i<n):(0<=(i:Int)/\(i:Int)<(n:Int))=True:=by simp;exact h
theorem eX{α:Type}{xs:List α}{i:Nat}{x:α}(h:xs[i]?=some x):i<xs.length:=(SN.1 h).1
theorem cz{α:Type}{xs:List α}{i:Nat}(h:i<xs.length):∃x,xs[i]?=some x:=⟨_,SP h⟩
theorem vp(H L:List aa)(i:Nat):(H++L)[H.length+i]?=L[i]?:=by rw[Tg (by omega)];congr 1;omega
theorem aeC(H L:List aa):(H++L)[H.length]?=L[0]?:=by have:=vp H L 0;simpa using this
theorem vq(H L:List aa)(i:Nat)(x:aa):(H++L).set (H.length+i) x=H++L.set i x:=by
 rw[UO _ _ (by omega)];congr 2;omega
theorem aeG(H L:List aa)(x:aa):(H++L).set H.length x=H++L.set 0 x:=by have:=vq H L 0 x;simpa using this
theorem aeB(H L M:List aa):(H++L)++M=H++(L++M):=SD ..
theorem aeF(H L:List aa):(H++L).length=H.length+L.length:=SQ
theorem eG(n:Nat)(x:SO):Lt n (.val x)=True:=by simp[Lt.val]
theorem aaC(n i o:Nat):Lt n (.op i o)=(i<n):=propext ⟨λh=>by cases h with|op h=>exact h,.op⟩
theorem tu(n:Nat)(l:List AV):Lt n (.agg l)=∀a∈l,Lt n a:=propext ⟨λh=>by cases h with|agg h=>exact h,.agg⟩
theorem iE(n:Nat)(l:List AV):Lt n (.aJ l)=∀a∈l,Lt n a:=propext ⟨λh=>by cases h with|aJ h=>exact h,.aJ⟩
theorem aaB(n:Nat)(t:TypeId)(a:AV):Lt n (.c9 t a)=Lt n a:=propext ⟨λh=>by cases h with|c9 h=>exact h,.c9⟩
theorem tw(n m:Nat)(l:List AV):Lt n (.sl m l .shut)=∀a∈l,Lt n a:=propext ⟨λh=>by cases h with|sl _ h=>exact h,λh=> .sl (by simp) h⟩
theorem LY(n m:Nat)(l:List AV):Lt n (.sl m l .exact)=∀a∈l,Lt n a:=propext ⟨λh=>by cases h with|sl _ h=>exact h,λh=> .sl (by simp) h⟩
theorem amG(n m k:Nat)(l:List AV):Lt n (.sl m l (.opn k))=(k<n/\∀a∈l,Lt n a):=propext ⟨λh=>by cases h with|sl h' h=>exact⟨h' k rfl,h⟩,λh=> .sl (λk' e=>by cases e;exact h.1) h.2⟩
theorem x_(n:Nat)(l:List AV):Lt n (.rp l)=∀a∈l,Lt n a:=propext ⟨λh=>by cases h with|rp h=>exact h,.rp⟩
open Go.Conc
def cK (o:Tx):List Nat:=o.after.toList.filterMap λe=>if Yq .any e then some e.on else none
inductive lF (ops:Array Tx):List Nat->List Nat->Prop
 |nil (X:List Nat) (h:∀i,i<ops.size->i∈X):lF ops X []
 |cons {X:List Nat} {i:Nat} {l:List Nat} (o:Tx) (ho:ops[i]?=some o) (hn:i∉X) (hd:∀j∈cK o,j∈X) (h:lF ops (i::X) l):lF ops X (i::l)
theorem Gk{o:Tx}{j:Nat}:j∈cK o<->∃e∈o.after,Yq .any e=true/\e.on=j:=by
 unfold cK;rw[VD];constructor
 ·rintro⟨e,he,h⟩
  split at h
  ·rename_i hb;cases h;exact⟨e,by simpa using he,hb,rfl⟩
  ·cases h
 ·rintro⟨e,he,hb,rfl⟩
  exact⟨e,by simpa using he,by rw[if_pos hb]⟩
theorem OR{l:List Nat}{i:Nat}(hi:i∈l){p q:Nat->Bool}(iB:∀k,q k=true->p k=true)(hp:p i=true)(hq:q i=false):l.countP q<l.countP p:=by
 induction l with
 |nil=>cases hi
 |cons x l ih=>
  have hle:l.countP q<=l.countP p:=List.countP_mono_left λk _ h=>iB k h;rcases SL.1 hi with rfl|hi
  ·rw[WU (by simp[hq]),VT hp];omega
  ·have:=ih hi;by_cases hx:q x=true
   ·rw[VT hx,VT (iB x hx)];omega
   ·rw[WU hx];by_cases jF:p x=true
    ·rw[VT jF];omega
    ·rw[WU jF];exact this
structure NP (ops:Array Tx)(L:Array Bool)(X:List Nat):Prop where
 size:L.size=ops.size
 mem:∀i,i<ops.size->(L[i]?=some true<->i∈X)
theorem LR{ops:Array Tx}(iq:∀(i:Nat) o,ops[i]?=some o->∀j∈cK o,j<i):∀(fuel t:Nat)(L:Array Bool)(X:List Nat),NP ops L X->(S0 ops.size).countP (λi=> !X.contains i)<=fuel->lF ops X (Us .any ops fuel t L [])
 |0,t,L,X,hr,hc=>by
  simp only[Us,XY];refine .nil X λi hi=> ?_;have:(S0 ops.size).countP (λi=> !X.contains i)=0:=by omega
  have:=List.countP_eq_zero.1 this i (by simpa using hi);simpa using this
 |fuel+1,t,L,X,hr,hc=>by
  have uC:∀i,i∈((S0 ops.size).filter λi=> !L.getD i true&&((ops[i]?).map (·.after.all λe=> !Region.binds .any e||L.getD e.on false)).getD false)<->∃o,ops[i]?=some o/\i∉X/\∀j∈cK o,j∈X:=by
   intro i;simp only[Uj,TG,Ti,TV];constructor
   ·rintro⟨hi,h1,h2⟩
    have ho:=SJ hi;refine⟨ops[i],ho,λhx=> ?_,λj hj=> ?_⟩
    ·have:=(hr.mem i hi).2 hx;rw[SI,this]at h1;cases h1
    ·obtain⟨e,he,hb,rfl⟩:=Gk.1 hj;rw[ho]at h2;simp only[UN,S8,UE]at h2;have:=h2 e he;rw[hb]at this;simp only[am',Zv]at this;have hlt:e.on<ops.size:=Wo (iq i _ ho _ hj) hi;refine(hr.mem _ hlt).1 ?_;rw[SI]at this;cases hx:L[e.on]?with
     |none=>rw[hx]at this;cases this
     |some b=>rw[hx]at this;cases b;cases this;rfl
   ·rintro⟨o,ho,h1,h2⟩
    have hi:i<ops.size:=(SS.1 ho).1;refine⟨hi,?_,?_⟩
    ·rw[SI,SJ (by rw[hr.size];exact hi)];simp only[S8];cases hb:L[i]'(by rw[hr.size];exact hi)with
     |false=>rfl
     |true=>exact absurd ((hr.mem i hi).1 (by rw[SJ (by rw[hr.size];exact hi),hb])) h1
    ·rw[ho];simp only[UN,S8,UE];intro e he;cases hb:Yq .any e with
     |false=>rfl
     |true=>
      have hj:=Gk.2 ⟨e,he,hb,rfl⟩;have hlt:e.on<ops.size:=Wo (iq i _ ho _ hj) hi;have:=(hr.mem _ hlt).2 (h2 _ hj);simp[SI,this]
  simp only[Us];generalize Cm:((S0 ops.size).filter λi=> !L.getD i true&&((ops[i]?).map (·.after.all λe=> !Region.binds .any e||L.getD e.on false)).getD false)=rs at uC;cases hi:rs[t % rs.length]?with
  |none=>
   have KA:rs=[]:=by
    cases rs with
    |nil=>rfl
    |cons x xs=>
     have hlt:t % (x::xs).length<(x::xs).length:=as' _ (by simp);rw[List.getElem?_eq_none_iff]at hi;omega
   simp only[XY];refine .nil X λi=> ?_;induction i using Yn with
   |_ i ih=>
    intro hlt;apply Tt;intro hx;have:i∈rs:=(uC i).2 ⟨ops[i],SJ hlt,hx,λj hj=>ih j (iq i _ (SJ hlt) j hj) (Wo (iq i _ (SJ hlt) j hj) hlt)⟩;rw[KA]at this;cases this
  |some i=>
   simp only[];obtain⟨o,ho,h1,h2⟩:=(uC i).1 (Tf hi);have hlt:i<ops.size:=(SS.1 ho).1;rw[linearise_go_acc,List.reverse_singleton,Y2];refine .cons o ho h1 h2 (LR iq fuel _ _ (i::X) ⟨by simp[hr.size],λk hk=> ?_⟩ ?_)
   ·by_cases nF:k=i
    ·subst nF;simp[S9 (by rw[hr.size];exact hlt)]
    ·rw[SR (Ne.symm nF),hr.mem k hk];simp[nF]
   ·have fI:i∈(S0 ops.size):=(by simpa using hlt);have:(S0 ops.size).countP (λk=> !(i::X).contains k)<(S0 ops.size).countP (λk=> !X.contains k):=by
     exact OR fI (λk hk=>by simp only[TV,Up,decide_eq_false_iff_not]at hk⊢;exactλh=>hk (Ta _ h)) (by simpa using h1) (by simp)
    omega
end Go.Gg
