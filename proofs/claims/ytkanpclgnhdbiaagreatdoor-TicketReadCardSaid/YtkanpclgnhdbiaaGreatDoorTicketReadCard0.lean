/- A part of the proof. -/
import Derived.Conc.Own5
import Derived.Conc.Own4
import Derived.Conc.Own3
import Derived.Conc.Own2
import Derived.Conc.QuitsD
import Derived.Conc.Deaf
import Derived.Conc.CompanyDraw
import Derived.Conc.Comm2
import Derived.Conc.Beside
import Derived.Conc.Events
import Derived.Orders
set_option linter.all false
set_option maxRecDepth 4000
set_option maxHeartbeats 4000000
open Array renaming all_eq_true_iff_forall_mem->UD,append_assoc->Xp,empty_append->Xo,ext'->Vz,getD_eq_getD_getElem?->SI,getElem?_append_left->X9,getElem?_append_right->X5,getElem?_eq_getElem->SK,getElem?_eq_some_iff->SR,getElem?_map->WA,getElem?_modify->Wd,getElem?_push->Xg,getElem?_push_lt->Yx,getElem?_setIfInBounds_ne->SU,getElem?_setIfInBounds_self_of_lt->S_,getElem_mem->XS,isEmpty_iff->Zb,mem_append->Ut,range->WH,replicate->TL,size_append->Xz,toList_map->VH
open BitVec renaming ofInt->Ug
open Bool renaming and_eq_true->Tc,false_eq_true->TO,false_or->XR,not_eq_true'->TV,not_false->YB,not_true->ai_
open Classical renaming byContradiction->Tu
open Function renaming comp_def->Yw
open Go renaming Addr->U1,BinOp->VW,Call->Xn,CallKind->Xb,Code->T5,Event->Uq,Field->YS,Frame->T9,Func->ZP,FuncId->TQ,Goroutine->SH,IntKind->TU,Item->WR,LoopState->Z5,MapEntry->Wh,Oper->Tv,Operand->Ti,PanicEntry->ZN,Program->SJ,ResultVar->UM,TypeInfo->We,Value->SO,World->Tp
open Go.Act renaming put->X0
open Go.Addr renaming add->atf
open Go.Builtin renaming append_->Vw,copy_->atq,delete_->atp,firstCells->Vr,growBy->Zk,lenOf->ato,len_->Yk,nextslicecap->WY,zeroCells->Xj
open Go.CallKind renaming early->U2
open Go.Conc renaming QuitsD->Y2,seen_none->Z7,served->T4
open Go.Deferred renaming ofValue->U0
open Go.Event renaming mute->WC
open Go.Frame renaming catches->ZQ,oper?->YI,round->W6
open Go.GStep renaming after->T1
open Go.Instr renaming checkKey->U_,fill->Z6,findKey->VK,index->ZW,indexAt->ZH,loadAt->Xy,mapUpdate->Zq,sameBits->Wy,slice->ZV,sliceAt->Yi,sliceBound->Zi,sliceBounds->Y9,storeAt->Yh,sureAddr->U9,typeAssert->Zh
open Go.IntKind renaming bits->as',i64->SE,signed->as_,wrap->W_
open Go.Item renaming plain->ac_
open Go.MemAct renaming low_mono->Zg,ofEvent->Ts
open Go.Next renaming value->W1
open Go.Obj renaming isChan->ag2
open Go.Op renaming equal->Xe,equalIn->U7,intArith->atl,intDiv->ao',shift->asI
open Go.Question renaming cut->Zp,forced->aq'
open Go.Region renaming binds->Yo,schedule->VI,wanted->Th
open Go.Region.linearise renaming go->UB
open Go.Sem renaming events_pure->ZE,runT->VC,runT_eq->TB,run_pure->Z4
open Go.Value renaming bool->W9,slice->Ur,tuple->YG
open Go.World renaming cell?->Ux,frozen?->ZM,setCell->Xh
open Go.stepG renaming exec->Ud,oper->Y0
open Int renaming toNat_natCast->Vx
open List renaming append_assoc->SD,append_nil->SY,contains_eq_mem->Up,countP_cons_of_neg->WQ,countP_cons_of_pos->VP,drop_drop->aj_,drop_eq_getElem_cons->TW,drop_zero->Xw,ext_getElem?->Ym,flatMap_cons->Ui,foldl_cons->UW,getD_cons_zero->Xm,getD_eq_getElem?_getD->SF,getElem?_append_left->SZ,getElem?_append_right->Tj,getElem?_cons_succ->UJ,getElem?_cons_zero->Vo,getElem?_drop->Uo,getElem?_eq_getElem->SV,getElem?_eq_some_iff->SM,getElem?_map->To,getElem?_range->Xv,getElem?_set_ne->T6,getElem?_set_self->W5,getElem?_take->Uc,getElem?_toArray->Vd,getElem_mem->Wr,length_append->SQ,length_cons->Ul,length_drop->Uj,length_nil->UQ,length_take->TZ,mapM_cons->T8,mapM_nil->Uz,mapM_toArray->XX,map_congr_left->Vy,map_cons->UU,map_drop->ae',mem_cons->SL,mem_cons_of_mem->Tb,mem_cons_self->TC,mem_filter->Un,mem_filterMap->VR,mem_iff_getElem?->UP,mem_of_getElem?->Te,mem_of_mem_take->Wq,mem_range->TG,mem_toArray->TK,not_mem_nil->S4,range->S0,range'->Ua,range'_succ->VN,range_eq_range'->Vm,reverse_nil->XT,set_append_right->UO,set_set->W4,singleton_append->YX,take_length->TJ,take_take->UZ,take_zero->ai'
open Nat renaming add_assoc->XC,add_comm->ZZ,add_mul->Va,add_zero->UH,le_of_eq->WE,le_refl->SP,le_succ->YW,le_trans->UF,lt_of_lt_of_le->Td,lt_trans->Wl,min_le_left->ZD,mod_lt->aq_,mul_le_mul->ZJ,mul_le_mul_right->Uf,mul_one->Ya,ne_of_lt->VX,strongRecOn->Yl,sub_zero->ZU,zero_add->Wp,zero_le->X_,zero_mul->ZY
open Option renaming bind_eq_bind->TP,bind_eq_some_iff->Tf,getD_none->Vl,getD_some->S9,map_eq_some_iff->Tq,map_some->UN,pure_def->Uh
open Option.some renaming inj->Wj,injEq->Tl
open Prod.mk renaming injEq->UY
namespace Go.Gg
open Go.Conc
abbrev cq:=Nat->Nat->Option SO
abbrev AC:=Nat->Option Obj
abbrev Spec:=SO->cq->AC->Prop
inductive mS where
 |plain
 |fork (c Wg:Nat) (Ss:List (List Spec))
 |recv (c Wg:Nat) (Ss:List (List Spec))
 |work (c Wg:Nat) (S:List Spec)
def mS.group:mS->Option Nat
 |.fork _ Wg _=>some Wg
 |_=>none
def mS.chan:mS->Option Nat
 |.fork c _ _=>some c
 |_=>none
structure View where
 ab:cq
 own:AC
 deaf:Nat
 role:mS
structure Sat (V:View)(w:Tp):Prop where
 ab:∀b o v,V.ab b o=some v->w.cell? ⟨b,o,none⟩=some v
 own:∀b x,V.own b=some x->w.heap[b]?=some x
def tu (V:View)(n:Nat)(a:U1):Prop:=n<=a.block\/V.own a.block≠none\/V.ab a.block a.off≠none
def mr (V:View)(n:Nat)(a:U1):Prop:=n<=a.block\/(V.own a.block≠none/\V.ab a.block a.off=none)
def mP (V:View)(n:Nat)(e:Uq):Prop:=
 match e with
 |⟨.cell a,false,s⟩=>tu V n a/\(s=true\/V.role.group≠some a.block)
 |⟨.cell a,true,s⟩=>mr V n a/\(s=true\/V.role.group≠some a.block)
 |⟨.obj r,_,s⟩=>(s=false/\(n<=r\/V.own r≠none))/\V.role.chan≠some r
 |⟨.mark (.read a),_,_⟩=>mr V n a
 |⟨.mark (.write a),_,_⟩=>mr V n a
 |⟨.mark .disable,_,s⟩=>s=true
 |⟨.mark .enable,_,s⟩=>s=true
 |⟨.mark .noRoom,_,_⟩=>True
 |_=>False
structure da (V:View)(w:Tp)(V':View)(w':Tp)(es:Array Uq):Prop where
 sat:Sat V' w'
 tape:w'.tape=w.tape
 os:w'.os=w.os
 output:w'.output=w.output
 size:w.heap.size<=w'.heap.size
 frame:∀b,b<w.heap.size->V.own b=none->w'.heap[b]?=w.heap[b]?
 own:∀b,b<w.heap.size->V.own b=none->V'.own b=none
 ab:∀b o v,V.ab b o=some v->V'.ab b o=some v
 kB:∀b o v,V'.ab b o=some v->V.ab b o=some v\/V.own b≠none\/w.heap.size<=b
 e9:∀e∈es,mP V w.heap.size e
 deaf:V'.deaf=deafBehind V.deaf es
 role:V'.role=V.role
 chan:∀c x,V.role.chan=some c->V.own c=some x->V'.own c=some x
 low:∀e∈es,(Ts e).low w'.heap.size
structure dT (V V':View):Prop where
 sat:∀w,Sat V w->Sat V' w
 own:∀b,V.own b=none->V'.own b=none
 ab:∀b o v,V.ab b o=some v->V'.ab b o=some v
 kB:∀b o v,V'.ab b o=some v->V.ab b o=some v\/V.own b≠none
 deaf:V'.deaf=V.deaf
 role:V'.role=V.role
 chan:∀c x,V.role.chan=some c->V.own c=some x->V'.own c=some x
theorem dT.refl(V:View):dT V V:=⟨λ_ h=>h,λ_ h=>h,λ_ _ _ h=>h,λ_ _ _ h=> .inl h,rfl,rfl,λ_ _ _ e=>e⟩
theorem dT.trans{V V' aR:View}(h:dT V V')(k:dT V' aR):dT V aR:=
 ⟨λw x=>k.sat w (h.sat w x),λb x=>k.own b (h.own b x),λb o v x=>k.ab b o v (h.ab b o v x),λb o v x=>(k.kB b o v x).elim (λy=>h.kB b o v y) (λy=> .inr λz=>y (h.own b z)),k.deaf.trans h.deaf,k.role.trans h.role,λc x e e'=>k.chan c x (by rw[h.role];exact e) (h.chan c x e e')⟩
theorem tu.rA{V V':View}(g:dT V V'){n:Nat}{a:U1}(h:tu V' n a):tu V n a:=by
 rcases h with h|h|h
 ·exact .inl h
 ·exact .inr (.inl λe=>h (g.own _ e))
 ·cases e:V'.ab a.block a.off with
  |none=>exact absurd e h
  |some v=>exact(g.kB _ _ _ e).elim (λx=> .inr (.inr (by rw[x];simp))) (λx=> .inr (.inl x))
theorem mr.rA{V V':View}(g:dT V V'){n:Nat}{a:U1}(h:mr V' n a):mr V n a:=by
 rcases h with h|⟨h,h'⟩
 ·exact .inl h
 ·refine .inr ⟨λe=>h (g.own _ e),?_⟩;cases e:V.ab a.block a.off with
  |none=>rfl
  |some v=>rw[g.ab _ _ _ e]at h';cases h'
theorem mP.rA{V V':View}(g:dT V V'){n:Nat}{e:Uq}(h:mP V' n e):mP V n e:=by
 unfold mP at h⊢;split at h
 ·exact⟨tu.rA g h.1,by rw[<- g.role];exact h.2⟩
 ·exact⟨mr.rA g h.1,by rw[<- g.role];exact h.2⟩
 ·exact⟨⟨h.1.1,h.1.2.imp id λx y=>x (g.own _ y)⟩,by rw[<- g.role];exact h.2⟩
 ·exact mr.rA g h
 ·exact mr.rA g h
 ·exact h
 ·exact h
 ·trivial
 ·exact h.elim
theorem da.rA{V V₁ V':View}{w w':Tp}{es:Array Uq}(g:dT V V₁)(h:da V₁ w V' w' es):da V w V' w' es:=
 ⟨h.sat,h.tape,h.os,h.output,h.size,λb hb e=>h.frame b hb (g.own b e),λb hb e=>h.own b hb (g.own b e),λb o v e=>h.ab b o v (g.ab b o v e),
  λb o v e=>(h.kB b o v e).elim (λx=>(g.kB b o v x).imp id .inl) (λx=> .inr (x.imp (λy z=>y (g.own b z)) id)),λe he=>mP.rA g (h.e9 e he),by rw[h.deaf,g.deaf],h.role.trans g.role,λc x e e'=>h.chan c x (by rw[g.role];exact e) (g.chan c x e e'),h.low⟩
theorem da.ghost{V V' aR:View}{w w':Tp}{es:Array Uq}(h:da V w V' w' es)(g:dT V' aR):da V w aR w' es:=
 ⟨g.sat _ h.sat,h.tape,h.os,h.output,h.size,h.frame,λb hb e=>g.own b (h.own b hb e),λb o v e=>g.ab b o v (h.ab b o v e),
  λb o v e=>(g.kB b o v e).elim (λx=>h.kB b o v x) (λx=>by
   by_cases hb:b<w.heap.size
   ·exact .inr (.inl λy=>x (h.own b hb y))
   ·exact .inr (.inr (by omega))),h.e9,by rw[g.deaf,h.deaf],g.role.trans h.role,λc x e e'=>g.chan c x (by rw[h.role];exact e) (h.chan c x e e'),h.low⟩
theorem da.idle{V:View}{w:Tp}(h:Sat V w):da V w V w #[]:=
 ⟨h,rfl,rfl,rfl,SP _,λ_ _ _=>rfl,λ_ _ e=>e,λ_ _ _ e=>e,λ_ _ _ e=> .inl e,by simp,rfl,rfl,λ_ _ _ e=>e,by simp⟩
theorem Sat.drew{V:View}{w:Tp}(h:Sat V w)(d:Nat):Sat V {w with drawn:=d}:=⟨h.ab,h.own⟩
theorem da.draw{V:View}{w:Tp}(h:Sat V w)(d:Nat):da V w V {w with drawn:=d} #[]:=
 ⟨h.drew d,rfl,rfl,rfl,SP _,λ_ _ _=>rfl,λ_ _ e=>e,λ_ _ _ e=>e,λ_ _ _ e=> .inl e,by simp,rfl,rfl,λ_ _ _ e=>e,by simp⟩
def dV (Wg:Nat):U1:=⟨Wg,0,none⟩
def ow (Wg:Nat):U1:=⟨Wg,1,none⟩
def M6 (P : SJ) : TypeId := ((P.types.findIdx? λi => match i.desc with | .named n _ => n == "sync.WaitGroup" | _ => false).getD 0)
def wgBlock (P:SJ)(st sm:Int):Obj:=.cells #[.int .u64 st,.int .u32 sm] (M6 P)
def WgAt (P:SJ)(Wg:Nat)(w:Tp)(st sm:Int):Prop:=w.heap[Wg]?=some (wgBlock P st sm)
def KK:Int:=4294967296
def iT (a:U1):Uq:=⟨.cell a,false,true⟩
def kP (a:U1):Uq:=⟨.cell a,true,true⟩
def jW (m:Mark):Uq:=⟨.mark m,false,true⟩
def z8 (a:U1):Array Uq:=#[jW .disable,iT a,kP a,jW .enable]
def cP (P:SJ)(Stop:Nat->SH->Prop):Nat->Nat->SH->Prop
 |0,d,g=>Stop d g
 |n+1,d,g=>Stop d g\/(g.status=.running/\∃g' es,(∀e∈es,WC e=true)/\(∀w,stepG P false g w=.go g' w es)/\cP P Stop n (deafBehind d es) g')
def gR (P:SJ)(Wg:Nat)(Stop:Nat->SH->Prop):Nat->Nat->SH->Prop
 |0,d,g=>Stop d g
 |n+1,d,g=>Stop d g\/(g.status=.running/\∃g' es,(∀e∈es,WC e=true)/\(∀w x y,WgAt P Wg w x y->stepG P false g w=.go g' w es)/\gR P Wg Stop n (deafBehind d es) g')
section
variable (P:SJ)(Wg:Nat)
def Dt (d:Nat)(g:SH):Prop:=d=1/\g.status=.running/\mayWake P g=true/\∃g',(∀w,WgAt P Wg w 0 0->stepG P false g w=.go g' (w.setCell (ow Wg) (.int .u32 1)) (z8 (ow Wg)))/\∃q,Y2 P q 1 g'
def Du (d:Nat)(g:SH):Prop:=d=1/\g.status=.running/\∃g',(∀w,WgAt P Wg w 1 0->stepG P false g w=.go g' (w.setCell (dV Wg) (.int .u64 0)) #[kP (dV Wg)])/\∃n,cP P (Dt P Wg) n 1 g'
def Ds (d:Nat)(g:SH):Prop:=d=1/\g.status=.running/\∃g',(∀w,WgAt P Wg w 1 0->stepG P false g w=.go g' w #[iT (dV Wg)])/\∃n,cP P (Du P Wg) n 1 g'
def Ap (d:Nat)(g:SH):Prop:=d=1/\g.status=.running/\∀v wt:Nat,wt<=1->v<4->∃g',(∀w,WgAt P Wg w (((v+1:Nat):Int)* KK+wt) 0->stepG P false g w=.go g' (w.setCell (dV Wg) (.int .u64 ((v:Int)* KK+wt))) #[iT (dV Wg),kP (dV Wg)])/\
 ((v=0/\wt=1)->∃n,cP P (Ds P Wg) n 1 g')/\(¬(v=0/\wt=1)->∃q,Y2 P q 1 g')
def Dz (g:SH):Prop:=g.status=.running/\∃g',(∀w,stepG P false g w=.go g' w #[jW (.releaseMerge (dV Wg))])/\∃n,cP P (Ap P Wg) n 0 g'
end
section
variable (P:SJ)(Im:cq)(c Wg:Nat)
def Hl (d:Nat)(g:SH):Prop:=d=0/\g.status=.running/\mayWake P g=true/\∃g',(∀w s,w.heap[c]?=some (.chan 0 #[] false s s false)->stepG P false g w=.go g' {w with heap:=w.heap.setIfInBounds c (.chan 0 #[] true s s false)} #[⟨.obj c,false,true⟩,⟨.obj c,true,true⟩])/\∃q,Y2 P q 0 g'
def Ho (d:Nat)(g:SH):Prop:=d=0/\g.status=.running/\∃b o x g',Im b o=some x/\(∀w,w.cell? ⟨b,o,none⟩=some x->stepG P false g w=.go g' w #[⟨.cell ⟨b,o,none⟩,false,false⟩])/\∃n,cP P (Hl P c) n 0 g'
def tj (d:Nat)(g:SH):Prop:=d=0/\g.status=.running/\∃g',(∀w,stepG P false g w=.go g' w #[jW (.acquire (dV Wg))])/\∃n,cP P (Ho P Im c) n 0 g'
def Hm (d:Nat)(g:SH):Prop:=d=1/\g.status=.running/\∃g',(∀w,WgAt P Wg w 0 0->stepG P false g w=.go g' w #[iT (dV Wg)])/\∃n,gR P Wg (tj P Im c Wg) n 1 g'
def Dr (d:Nat)(g:SH):Prop:=d=1/\g.status=.running/\g.offers=none/\(∀w st,WgAt P Wg w st 0->stepG P false g w=.go {g with status:=.blocked} w #[])/\
 ∃g',(∀w,WgAt P Wg w 0 1->stepG P false g w=.go g' (w.setCell (ow Wg) (.int .u32 0)) (z8 (ow Wg)))/\∃n,cP P (Hm P Im c Wg) n 1 g'
def Dq (d:Nat)(g:SH):Prop:=d=1/\g.status=.running/\∃g',(∀w,stepG P false g w=.go g' w #[jW (.write (ow Wg))])/\∃n,cP P (Dr P Im c Wg) n 1 g'
def ez:Nat->Nat->SH->Prop
 |0,_,_=>False
 |k+1,d,g=>d=1/\g.status=.running/\∀v:Nat,v<=k->v<=4->∃g',(∀w,WgAt P Wg w ((v:Int)* KK) 0->stepG P false g w=.go g' w #[iT (dV Wg)])/\(v=0->∃n,gR P Wg (tj P Im c Wg) n 1 g')/\
  (v≠0->∃n,cP P (λd g=>d=1/\g.status=.running/\
   (∃g',(∀w,WgAt P Wg w ((v:Int)* KK) 0->stepG P false g w=.go g' (w.setCell (dV Wg) (.int .u64 ((v:Int)* KK+1))) #[iT (dV Wg),kP (dV Wg)])/\∃n,gR P Wg (Dq P Im c Wg) n 1 g')/\
   (∀u:Nat,u<v->∃g',(∀w,WgAt P Wg w ((u:Int)* KK) 0->stepG P false g w=.go g' w #[iT (dV Wg)])/\∃n,cP P (ez v) n 1 g')) n 1 g')
 termination_by k _ _=>k
def Hp (g:SH):Prop:=∃n,cP P (ez P Im c Wg 5) n 0 g
end
structure yd (P:SJ)(main:Bool)(J:View->SH->Prop):Prop where
 step:∀V g,g.status=.running->(∀w,Sat V w->∃g' w' es V',stepG P main g w=.go g' w' es/\da V w V' w' es/\J V' g')->J V g
 ghost:∀V V' g,dT V V'->J V' g->J V g
 send:∀V g c Wg sp S v z (B:Nat->Bool),V.role=.work c Wg (sp::S)->V.deaf=0->g.status=.running->g.offers=none->
  (∀w,Sat V w->stepG P main g w=.comm g #[scase c v z] true .send w #[])->sp v V.ab (λb=>if B b then V.own b else none)->
  J {V with own:=λb=>if B b then none else V.own b,role:=.work c Wg S} (T4 g undef)->J V g
 done:∀V g c Wg,V.role=.work c Wg []->V.deaf=0->Dz P Wg g->J V g
 slip:∀V g g' c Wg,V.role=.work c Wg []->g.status=.running->(∀w st,Sat V w->WgAt P Wg w st 0->stepG P main g w=.go g' w #[])->J V g'->J V g
structure adc (P:SJ)(main:Bool)(J:View->SH->Prop):Prop where
 start:∀V g c Wg,V.role=.plain->c≠Wg->V.own c=some (.chan 0 #[] false 0 0 false)->V.own Wg≠none->(∀o,V.ab Wg o=none)->J {V with role:=.fork c Wg []} g->J V g
 Ep:∀V g g' child c Wg Ss sp S,V.role=.fork c Wg Ss->V.deaf=0->g.status=.running->V.own c=some (.chan 0 #[] false 0 0 false)->V.own Wg=some (wgBlock P (((Ss.length+1:Nat):Int)* 4294967296) 0)->Ss.length<4->(∀o,V.ab Wg o=none)->
  (∀w,Sat V w->stepG P main g w=.spawn g' child w #[])->child.status=.running->
  (∀J0,yd P false J0->J0 {ab:=V.ab,own:=λ_=>none,deaf:=0,role:=.work c Wg (sp::S)} child)->
  J {V with role:=.fork c Wg (Ss++[sp::S])} g'->J V g
 Eo:∀V g g' child c Wg Ss,V.role=.fork c Wg Ss->V.deaf=0->g.status=.running->c≠Wg->V.own c=some (.chan 0 #[] false 0 0 false)->V.own Wg=some (wgBlock P (((Ss.length:Nat):Int)* 4294967296) 0)->(∀o,V.ab c o=none)->(∀o,V.ab Wg o=none)->
  (∀w,Sat V w->stepG P main g w=.spawn g' child w #[])->child.status=.running->Hp P V.ab c Wg child->
  J {V with own:=λb=>if b=c\/b=Wg then none else V.own b,role:=.recv c Wg Ss} g'->J V g
 recv:∀V g c Wg Ss z,V.role=.recv c Wg Ss->V.deaf=0->g.status=.running->g.offers=none->
  (∀w,Sat V w->stepG P main g w=.comm g #[rcase c z] true (.recv true) w #[])->
  (∀i sp S v Im Ow,Ss[i]?=some (sp::S)->sp v Im Ow->(∀b,V.own b≠none->Ow b=none)->(∀b o,V.own b≠none->Im b o≠none->V.ab b o≠none)->(∃w,Sat V w/\(∀b o x,Im b o=some x->w.cell? ⟨b,o,none⟩=some x)/\∀b x,Ow b=some x->w.heap[b]?=some x)->
   J {V with ab:=λb o=>match V.ab b o with|some x=>some x|none=>Im b o,own:=λb=>match V.own b with|some x=>some x|none=>Ow b,role:=.recv c Wg (Ss.set i S)} (T4 g (.tuple #[v,.bool true])))->
  ((∀S∈Ss,S=[])->J {V with role:=.plain} (T4 g (.tuple #[z,.bool false])))->J V g
structure Closed (lv:Bool)(P:SJ)(main:Bool)(J:View->SH->Prop):Prop extends yd P main J where
 more:lv=true->adc P main J
theorem Closed.idle{lv:Bool}{P:SJ}{main:Bool}{J:View->SH->Prop}(C:Closed lv P main J){V:View}{g g':SH}(hs:g.status=.running)(h:∀w,stepG P main g w=.go g' w #[]) (hJ:J V g'):J V g:=
 C.step V g hs λw hw=>⟨g',w,#[],V,h w,.idle hw,hJ⟩
def on (b:T9)(a:Act)(todo:List WR):T9:={b with tmps:=a.tmps,todo,defers:=a.defers,mode:=.run}
inductive Ex where
 |normal
 |exit (id:Nat)
 |goto (l:Nat)
 |ret
 |panic (chain:List ZN)
def pu (J:View->SH->Prop)(b:T9)(cs:List T9)(a:Act)(V:View)(x:T5)(to:List WR->Option (List WR))(k:List WR):Prop:=
 (∃k',to k=some k'/\J V (G (on b a k') cs))\/(to k=none/\∀k2,to k2=none->J V (G (on b a (.code x::k2)) cs))
theorem pu.under{J:View->SH->Prop}{b:T9}{cs:List T9}{a:Act}{V:View}{x:T5}{to:List WR->Option (List WR)}{k k2:List WR}(h:pu J b cs a V x to k)(e:to k2=to k):pu J b cs a V x to k2:=by
 rcases h with⟨k',h1,h2⟩|⟨h1,h2⟩
 ·exact .inl ⟨k',e.trans h1,h2⟩
 ·exact .inr ⟨e.trans h1,h2⟩
def aaF:List WR->Bool
 |.call .. ::_=>false
 |_=>true
def uS (J:View->SH->Prop)(b:T9)(k:List WR)(cs:List T9):Ex->Act->View->Prop
 |.normal,a,V=>J V (G (on b a k) cs)
 |.exit id,a,V=>pu J b cs a V (.exit id) (exitTo id) k
 |.goto l,a,V=>pu J b cs a V (.goto l) (gotoIn l) k
 |.ret,a,V=>∀k,J V (G (on b a (.code .ret::k)) cs)
 |.panic chain,a,V=>∀todo,aaF todo=true->J V (G {on b a todo with mode:=.panicking chain} cs)
def WP (lv:Bool)(P:SJ)(r:Option Nat)(c:T5)(Q:Ex->Act->View->Prop)(a:Act)(V:View):Prop:=
 ∀(main:Bool)(J:View->SH->Prop),Closed lv P main J->∀(b:T9)(k:List WR)(cs:List T9),b.kind≠ .early->b.roundOf=r->
  (∀e a' V',Q e a' V'->uS J b k cs e a' V')->J V (G (on b a (.code c::k)) cs)
section steps
variable {P:SJ}{main:Bool}{b:T9}{a:Act}{k:List WR}{cs:List T9}{w:Tp}
theorem apd:stepG P main (G (on b a (.code .skip::k)) cs) w=.go (G (on b a k) cs) w #[]:=by simp[G,stepG,Ud,on]
theorem ao7{l:Nat}:stepG P main (G (on b a (.code (.label l)::k)) cs) w=.go (G (on b a k) cs) w #[]:=by simp[G,stepG,Ud,on]
theorem ao4{id:Nat}:stepG P main (G (on b a (.inBlock id::k)) cs) w=.go (G (on b a k) cs) w #[]:=by simp[G,stepG,Ud,on]
theorem ao6{c:T5}:stepG P main (G (on b a (.inScope c::k)) cs) w=.go (G (on b a k) cs) w #[]:=by simp[G,stepG,Ud,on]
theorem abD{x y:T5}:stepG P main (G (on b a (.code (.seq x y)::k)) cs) w=.go (G (on b a (.code x:: .code y::k)) cs) w #[]:=by simp[G,stepG,Ud,on]
theorem Gh(b:T9)(a:Act)(todo:List WR)(x:Ti):(on b a todo).eval x=a.eval x:=by cases x<;>rfl
theorem am9(b:T9)(a:Act)(todo:List WR):(on b a todo).eval=a.eval:=funext (Gh b a todo)
theorem s_cond{c:Ti}{x y:T5}{t:Bool}(h:a.eval c=.bool t):
  stepG P main (G (on b a (.code (.cond c x y)::k)) cs) w=.go (G (on b a (.code (if t then x else y)::k)) cs) w #[]:=by
 have h':(on b a (.code (.cond c x y)::k)).eval c=.bool t:=by rw[Gh];exact h
 simp only[on]at h';simp[G,stepG,Ud,on,h']
theorem ao1{id:Nat}{c:T5}:stepG P main (G (on b a (.code (.block id c)::k)) cs) w=.go (G (on b a (.code c:: .inBlock id::k)) cs) w #[]:=by simp[G,stepG,Ud,on]
theorem apc{c:T5}:stepG P main (G (on b a (.code (.scope c)::k)) cs) w=.go (G (on b a (.code c:: .inScope c::k)) cs) w #[]:=by simp[G,stepG,Ud,on]
theorem ao8{c:T5}:stepG P main (G (on b a (.code (.loop c)::k)) cs) w=.go (G (on b a (.code c:: .inLoop c::k)) cs) w #[]:=by simp[G,stepG,Ud,on]
theorem ao5{c:T5}:stepG P main (G (on b a (.inLoop c::k)) cs) w=.go (G (on b a (.code c:: .inLoop c::k)) cs) w #[]:=by simp[G,stepG,Ud,on]
theorem s_exit{id:Nat}{k':List WR}(h:exitTo id k=some k'):stepG P main (G (on b a (.code (.exit id)::k)) cs) w=.go (G (on b a k') cs) w #[]:=by simp[G,stepG,Ud,on,h]
theorem ao3{l:Nat}{k':List WR}(h:gotoIn l k=some k'):stepG P main (G (on b a (.code (.goto l)::k)) cs) w=.go (G (on b a k') cs) w #[]:=by simp[G,stepG,Ud,on,h]
theorem abC{id:Nat}{ops:Array Tv}:stepG P main (G (on b a (.code (.region id ops false)::k)) cs) w=.go (G (on b a (.inRegion ops (S0 ops.size)::k)) cs) w #[]:=by simp[G,stepG,Ud,on]
theorem ao2{id:Nat}{ops:Array Tv}:stepG P main (G (on b a (.code (.region id ops true)::k)) cs) w=
  .go (G (on b a (.inRegion ops (VI (P.follows .mixedOrders) ops (w.tape w.drawn (.order b.fn id)))::k)) cs) {w with drawn:=w.drawn+1} #[]:=by
 simp[G,stepG,Ud,on,choose,Sem.run,aq',Zp]
theorem apb{ops:Array Tv}:stepG P main (G (on b a (.inRegion ops []::k)) cs) w=.go (G (on b a k) cs) w #[]:=by simp[G,stepG,Ud,on]
theorem CY(h:b.roundOf=none):stepG P main (G (on b a (.code .ret::k)) cs) w=.go (G {on b a (.code .ret::k)with mode:=.returning} cs) w #[]:=by simp[G,stepG,Ud,on,h]
theorem CX(h:b.roundOf=none):stepG P main (G (on b a []) cs) w=.go (G {on b a []with mode:=.returning} cs) w #[]:=by simp[G,stepG,Ud,on,h]
end steps
section rules
variable {lv:Bool}{P:SJ}{r:Option Nat}{Q:Ex->Act->View->Prop}{a:Act}{V:View}
theorem WP.mono{c:T5}{Q':Ex->Act->View->Prop}(h:WP lv P r c Q a V)(hq:∀e a V,Q e a V->Q' e a V):WP lv P r c Q' a V:=
 λmain J C b k cs hb hr hL=>h main J C b k cs hb hr λe a' V' q=>hL e a' V' (hq _ _ _ q)
theorem WP.ghost{c:T5}{V':View}(g:dT V V')(h:WP lv P r c Q a V'):WP lv P r c Q a V:=
 λmain J C b k cs hb hr hL=>C.ghost _ _ _ g (h main J C b k cs hb hr hL)
theorem wp_skip(h:Q .normal a V):WP lv P r .skip Q a V:=λ_ _ C _ _ _ _ _ hL=>C.idle rfl (λ_=>apd) (hL _ _ _ h)
theorem wp_label{l:Nat}(h:Q .normal a V):WP lv P r (.label l) Q a V:=λ_ _ C _ _ _ _ _ hL=>C.idle rfl (λ_=>ao7) (hL _ _ _ h)
theorem Sn{main:Bool}{J:View->SH->Prop}(C:Closed lv P main J){b:T9}{cs:List T9}{a:Act}{V:View}{id:Nat}{k:List WR}(h:pu J b cs a V (.exit id) (exitTo id) k):J V (G (on b a (.code (.exit id)::k)) cs):=
 h.elim (λ⟨_,hk,hJ⟩=>C.idle rfl (λ_=>s_exit hk) hJ) (λ⟨hk,hJ⟩=>hJ k hk)
theorem ali{main:Bool}{J:View->SH->Prop}(C:Closed lv P main J){b:T9}{cs:List T9}{a:Act}{V:View}{l:Nat}{k:List WR}(h:pu J b cs a V (.goto l) (gotoIn l) k):J V (G (on b a (.code (.goto l)::k)) cs):=
 h.elim (λ⟨_,hk,hJ⟩=>C.idle rfl (λ_=>ao3 hk) hJ) (λ⟨hk,hJ⟩=>hJ k hk)
theorem wp_exit{id:Nat}(h:Q (.exit id) a V):WP lv P r (.exit id) Q a V:=λ_ _ C _ _ _ _ _ hL=>Sn C (hL _ _ _ h)
theorem wp_ret(h:Q .ret a V):WP lv P r .ret Q a V:=λ_ _ _ _ k _ _ _ hL=>hL _ _ _ h k
def Ex.then (next:Act->View->Prop)(Q:Ex->Act->View->Prop):Ex->Act->View->Prop
 |.normal,a,V=>next a V
 |e,a,V=>Q e a V
theorem uS.under{J:View->SH->Prop}{b:T9}{k:List WR}{cs:List T9}{x:WR}(hx:x.plain=true){e:Ex}(he:e≠ .normal){a:Act}{V:View}(h:uS J b k cs e a V):uS J b (x::k) cs e a V:=by
 cases e with
 |normal=>exact absurd rfl he
 |exit id=>exact pu.under h (by cases x<;>simp_all[exitTo,ac_])
 |goto l=>exact pu.under h (by cases x<;>simp_all[gotoIn,ac_])
 |ret=>exact h
 |panic ch=>exact h
theorem wp_seq{x y:T5}(h:WP lv P r x (Ex.then (WP lv P r y Q) Q) a V):WP lv P r (.seq x y) Q a V:=by
 intro main J C b k cs hb hr hL;refine C.idle rfl (λ_=>abD) (h main J C b (.code y::k) cs hb hr λe a' V' q=> ?_);cases e with
 |normal=>exact q main J C b k cs hb hr hL
 |exit id=>exact(hL _ _ _ q).under rfl (by simp)
 |goto l=>exact(hL _ _ _ q).under rfl (by simp)
 |ret=>exact(hL _ _ _ q).under rfl (by simp)
 |panic ch=>exact(hL _ _ _ q).under rfl (by simp)
theorem wp_cond{c:Ti}{x y:T5}{t:Bool}(hc:a.eval c=.bool t)(h:WP lv P r (if t then x else y) Q a V):WP lv P r (.cond c x y) Q a V:=
 λmain J C b k cs hb hr hL=>C.idle rfl (λ_=>s_cond hc) (h main J C b k cs hb hr hL)
def Ex.inBlock (id:Nat)(Q:Ex->Act->View->Prop):Ex->Act->View->Prop
 |.exit oo,a,V=>if oo=id then Q .normal a V else Q (.exit oo) a V
 |e,a,V=>Q e a V
theorem wp_block{id:Nat}{c:T5}(h:WP lv P r c (Ex.inBlock id Q) a V):WP lv P r (.block id c) Q a V:=by
 intro main J C b k cs hb hr hL;refine C.idle rfl (λ_=>ao1) (h main J C b (.inBlock id::k) cs hb hr λe a' V' q=> ?_);cases e with
 |normal=>exact C.idle rfl (λ_=>ao4) (hL _ _ _ q)
 |exit oo=>
  by_cases bR:oo=id
  ·simp only[Ex.inBlock,bR,if_true]at q;exact .inl ⟨k,by simp[exitTo,bR],hL _ _ _ q⟩
  ·simp only[Ex.inBlock,bR,if_false]at q;have:(id==oo)=false:=(by simp;exactλh=>bR h.symm);exact pu.under (hL _ _ _ q) (by simp[exitTo,this])
 |goto l=>exact pu.under (hL _ _ _ q) (by simp[gotoIn])
 |ret=>exact hL _ _ _ q
 |panic ch=>exact hL _ _ _ q
theorem Nb{α:Type}{lt:α->α->Prop}(wf:WellFounded lt){c:T5}(I:α->Act->View->Prop)(m:α)(h₀:I m a V)
  (round:∀m a V,I m a V->WP lv P r c (Ex.then (λa' V'=>∃m',lt m' m/\I m' a' V') Q) a V):WP lv P r (.loop c) Q a V:=by
 intro main J C b k cs hb hr hL;have key:∀m a V,I m a V->J V (G (on b a (.code c:: .inLoop c::k)) cs):=by
  intro m;induction m using wf.induction with
  |_ m ih=>
   intro a V hI;refine round m a V hI main J C b (.inLoop c::k) cs hb hr λe a' V' q=> ?_;cases e with
   |normal=>obtain⟨m',hlt,hI'⟩:=q;exact C.idle rfl (λ_=>ao5) (ih m' hlt a' V' hI')
   |exit id=>exact(hL _ _ _ q).under rfl (by simp)
   |goto l=>exact(hL _ _ _ q).under rfl (by simp)
   |ret=>exact(hL _ _ _ q).under rfl (by simp)
   |panic ch=>exact(hL _ _ _ q).under rfl (by simp)
 exact C.idle rfl (λ_=>ao8) (key m a V h₀)
theorem wp_loop{c:T5}(I:Nat->Act->View->Prop)(m:Nat)(h₀:I m a V)
  (round:∀m a V,I m a V->WP lv P r c (Ex.then (λa' V'=>∃m',m'<m/\I m' a' V') Q) a V):WP lv P r (.loop c) Q a V:=
 Nb Nat.lt_wfRel.wf I m h₀ round
theorem ac5{c:T5}(I:Nat->Nat->Act->View->Prop)
  (start:∃n:Nat,WP lv P r c (λe a V=>match e with
   |.goto l=>∃rest,findLabel c l=some rest/\∃m,m<n/\I l m a V
   |e=>Q e a V) a V)
  (back:∀l rest m a V,findLabel c l=some rest->I l m a V->WP lv P r rest (λe a V=>match e with
   |.goto l'=>∃x6,findLabel c l'=some x6/\∃m',m'<m/\I l' m' a V
   |e=>Q e a V) a V):WP lv P r (.scope c) Q a V:=by
 intro main J C b k cs hb hr hL;have land:∀(n:Nat),(∀l rest m a V,m<n->findLabel c l=some rest->I l m a V->J V (G (on b a (.code rest:: .inScope c::k)) cs))->
   ∀e a' V',(match e with
   |.goto l=>∃rest,findLabel c l=some rest/\∃m,m<n/\I l m a' V'
   |e=>Q e a' V')->uS J b (.inScope c::k) cs e a' V':=by
  intro n hn e a' V' q;cases e with
  |normal=>exact C.idle rfl (λ_=>ao6) (hL _ _ _ q)
  |exit id=>exact pu.under (hL _ _ _ q) (by simp[exitTo])
  |goto l=>
   obtain⟨rest,hf,m,hm,hI⟩:=q;exact .inl ⟨_,by simp[gotoIn,hf],hn l rest m a' V' hm hf hI⟩
  |ret=>exact hL _ _ _ q
  |panic ch=>exact hL _ _ _ q
 have key:∀n l rest m a V,m<n->findLabel c l=some rest->I l m a V->J V (G (on b a (.code rest:: .inScope c::k)) cs):=by
  intro n;induction n with
  |zero=>intro _ _ _ _ _ h;omega
  |succ n ih=>
   intro l rest m a V hm hf hI;exact back l rest m a V hf hI main J C b (.inScope c::k) cs hb hr (land m λl' x6 m' a' V' h'=>ih l' x6 m' a' V' (by omega))
 obtain⟨n,hn⟩:=start;exact C.idle rfl (λ_=>apc) (hn main J C b (.inScope c::k) cs hb hr (land n (key n)))
end rules
open Go.Conc
def View.get (V:View)(b o:Nat):Option SO:=
 match V.ab b o with
 |some v=>some v
 |none=>match V.own b with
  |some (.cells c _ _)=>c[o]?
  |_=>none
def View.upd (V:View)(b:Nat)(x:Obj):View:={V with own:=λb'=>if b'=b then some x else V.own b'}
def View.fresh (V:View)(b:Nat):Prop:=V.own b=none/\∀o,V.ab b o=none
theorem Sat.get{V:View}{w:Tp}(h:Sat V w){b o:Nat}{v:SO}(e:V.get b o=some v):w.cell? ⟨b,o,none⟩=some v:=by
 unfold View.get at e;split at e
 ·rename_i v' hv;cases e;exact h.ab _ _ _ hv
 ·split at e
  ·rename_i c el f ho;have:=h.own _ _ ho;simpa[Ux,this]using e
  ·cases e
theorem Sat.lt{V:View}{w:Tp}(h:Sat V w){b:Nat}{x:Obj}(e:V.own b=some x):b<w.heap.size:=by
 have:=h.own _ _ e;exact(SR.1 this).1
theorem Sat.Ct{V:View}{w:Tp}(h:Sat V w){b o:Nat}{v:SO}(e:V.ab b o=some v):b<w.heap.size:=by
 have:=h.ab _ _ _ e;unfold Ux at this;split at this
 ·rename_i hh;exact(SR.1 hh).1
 ·cases this
theorem Sat.fresh{V:View}{w:Tp}(h:Sat V w){b:Nat}(hb:w.heap.size<=b):V.fresh b:=
 ⟨by cases e:V.own b with
  |none=>rfl
  |some x=>have:=h.lt e;omega,λo=>by
  cases e:V.ab b o with
  |none=>rfl
  |some x=>have:=h.Ct e;omega⟩
theorem Sat.eM{V:View}{w:Tp}(h:Sat V w){b o:Nat}{v:SO}(e:V.get b o=some v):b<w.heap.size:=by
 have:=h.get e;unfold Ux at this;split at this
 ·rename_i hh;exact(SR.1 hh).1
 ·cases this
theorem tu.xT{V V₁:View}{w w₁:Tp}{es:Array Uq}(s:da V w V₁ w₁ es){a:U1}(h:tu V₁ w₁.heap.size a):tu V w.heap.size a:=by
 rcases h with h|h|h
 ·exact .inl (UF s.size h)
 ·by_cases hb:a.block<w.heap.size
  ·exact .inr (.inl λe=>h (s.own _ hb e))
  ·exact .inl (by omega)
 ·cases e:V₁.ab a.block a.off with
  |none=>exact absurd e h
  |some v=>
   rcases s.kB _ _ _ e with x|x|x
   ·exact .inr (.inr (by rw[x];simp))
   ·exact .inr (.inl x)
   ·exact .inl x
theorem mr.xT{V V₁:View}{w w₁:Tp}{es:Array Uq}(s:da V w V₁ w₁ es){a:U1}(h:mr V₁ w₁.heap.size a):mr V w.heap.size a:=by
 rcases h with h|⟨h,h'⟩
 ·exact .inl (UF s.size h)
 ·by_cases hb:a.block<w.heap.size
  ·refine .inr ⟨λe=>h (s.own _ hb e),?_⟩;cases e:V.ab a.block a.off with
   |none=>rfl
   |some v=>rw[s.ab _ _ _ e]at h';cases h'
  ·exact .inl (by omega)
theorem mP.xT{V V₁:View}{w w₁:Tp}{es:Array Uq}(s:da V w V₁ w₁ es){e:Uq}(h:mP V₁ w₁.heap.size e):mP V w.heap.size e:=by
 unfold mP at h⊢;split at h
 ·exact⟨tu.xT s h.1,by rw[<- s.role];exact h.2⟩
 ·exact⟨mr.xT s h.1,by rw[<- s.role];exact h.2⟩
 ·refine⟨⟨h.1.1,?_⟩,by rw[<- s.role];exact h.2⟩;rename_i r _ _;rcases h.1.2 with x|x
  ·exact .inl (UF s.size x)
  ·by_cases hb:r<w.heap.size
   ·exact .inr λy=>x (s.own _ hb y)
   ·exact .inl (by omega)
 ·exact mr.xT s h
 ·exact mr.xT s h
 ·exact h
 ·exact h
 ·trivial
 ·exact h.elim
theorem Ic(d:Nat)(x y:Array Uq):deafBehind d (x++y)=deafBehind (deafBehind d x) y:=by
 simp[deafBehind]
theorem da.trans{V V₁ V₂:View}{w w₁ w₂:Tp}{es tO:Array Uq}(s:da V w V₁ w₁ es)(s':da V₁ w₁ V₂ w₂ tO):da V w V₂ w₂ (es++tO):=
 ⟨s'.sat,s'.tape.trans s.tape,s'.os.trans s.os,s'.output.trans s.output,UF s.size s'.size,
  λb hb e=>(s'.frame b (Td hb s.size) (s.own b hb e)).trans (s.frame b hb e),λb hb e=>s'.own b (Td hb s.size) (s.own b hb e),
  λb o v e=>s'.ab b o v (s.ab b o v e),λb o v e=>by
   rcases s'.kB b o v e with x|x|x
   ·exact s.kB b o v x
   ·by_cases hb:b<w.heap.size
    ·exact .inr (.inl λy=>x (s.own b hb y))
    ·exact .inr (.inr (by omega))
   ·exact .inr (.inr (UF s.size x)),
  λe he=>(Ut.1 he).elim (s.e9 e) (λh=>(s'.e9 e h).xT s),by rw[s'.deaf,s.deaf,Ic],s'.role.trans s.role,λc x e e'=>s'.chan c x (by rw[s.role];exact e) (s.chan c x e e'),
  λe he=>(Ut.1 he).elim (λx=>Zg s'.size (s.low e x)) (s'.low e)⟩
def fC (es:Array Uq):Array Uq:=es.filter λe=>match e.loc with|.mark (.extern _)=>false|_=>true
def aN (P:SJ){α:Type}(V:View)(s:Sem α)(K:α->View->Prop)(Kp:SO->View->Prop):Prop:=
 ∀w,Sat V w->∀eQ,∃es w' V',da V w V' w' (fC es)/\
  ((∃x,s.runT P w eQ=(.ok x w',eQ++es)/\K x V')\/(∃v,s.runT P w eQ=(.halt (.panic v) w',eQ++es)/\Kp v V'))
section
variable {P:SJ}{α β:Type}{V:View}{K:α->View->Prop}{Kp:SO->View->Prop}
theorem LU(x y:Array Uq):fC (x++y)=fC x++fC y:=by simp[fC]
theorem aN.mono{s:Sem α}{K':α->View->Prop}{Np:SO->View->Prop}(h:aN P V s K Kp)(hk:∀x V,K x V->K' x V)(hp:∀x V,Kp x V->Np x V):aN P V s K' Np:=λw hw eQ=>
 let⟨es,w',V',h1,h2⟩:=h w hw eQ
 ⟨es,w',V',h1,h2.imp (λ⟨x,a,b⟩=>⟨x,a,hk _ _ b⟩) (λ⟨x,a,b⟩=>⟨x,a,hp _ _ b⟩)⟩
theorem aN.ghost{s:Sem α}{V':View}(g:dT V V')(h:aN P V' s K Kp):aN P V s K Kp:=λw hw eQ=>
 let⟨es,w',V',h1,h2⟩:=h w (g.sat w hw) eQ
 ⟨es,w',V',h1.rA g,h2⟩
theorem aN.cont{s:Sem α}(h:∀w,Sat V w->∃es w' V' s',da V w V' w' (fC es)/\(∀eQ,s.runT P w eQ=s'.runT P w' (eQ++es))/\aN P V' s' K Kp):aN P V s K Kp:=by
 intro w hw eQ;obtain⟨es,w',V',s',h1,h2,h3⟩:=h w hw;obtain⟨tO,M5,aR,h4,h5⟩:=h3 w' h1.sat (eQ++es);refine⟨es++tO,M5,aR,by rw[LU];exact h1.trans h4,?_⟩;rw[h2,<- Xp];exact h5
theorem cF{x:α}(h:K x V):aN P V (.pure x) K Kp:=λw hw eQ=>⟨#[],w,V,by simpa[fC]using da.idle hw,.inl ⟨x,by simp[-TB,VC],h⟩⟩
theorem aq{x:α}(h:K x V):aN P V (pure x) K Kp:=cF h
theorem apv{v:SO}(h:Kp v V):aN P V (.halt (.panic v):Sem α) K Kp:=λw hw eQ=>⟨#[],w,V,by simpa[fC]using da.idle hw,.inr ⟨v,by simp[-TB,VC],h⟩⟩
theorem sW{e:Uq}(h:∀f,e.loc≠ .mark (.extern f)):fC #[e]=#[e]:=by
 unfold fC;have:(match e.loc with|.mark (.extern _)=>false|_=>true)=true:=by
  split
  ·rename_i f hf;exact absurd hf (h f)
  ·rfl
 simp[Array.filter]
theorem Ov(d:Nat)(a:U1)(wr s:Bool):deafBehind d #[⟨.cell a,wr,s⟩]=d:=by simp[deafBehind]
theorem Ox(d:Nat)(a:Nat)(wr s:Bool):deafBehind d #[⟨.obj a,wr,s⟩]=d:=by simp[deafBehind]
theorem MD{m:Mode}{b o:Nat}{v:SO}{k:SO->Sem α}(e:V.get b o=some v)(j5:V.role.group≠some b\/m=.atomic)(h:aN P V (k v) K Kp):aN P V (.load m ⟨b,o,none⟩ k) K Kp:=by
 refine .cont λw hw=>⟨#[⟨.cell ⟨b,o,none⟩,false,m== .atomic⟩],w,V,k v,?_,λeQ=> ?_,h⟩
 ·rw[sW (by simp)];refine⟨hw,rfl,rfl,rfl,SP _,λ_ _ _=>rfl,λ_ _ e=>e,λ_ _ _ e=>e,λ_ _ _ e=> .inl e,λev cm=> ?_,by rw[Ov],rfl,λ_ _ _ e=>e,λev cm=>by simp at cm;subst cm;exact hw.eM e⟩;simp only[TK,SL,S4,or_false]at cm;subst cm;refine⟨.inr ?_,j5.elim .inr (λx=> .inl (by subst x;rfl))⟩;show V.own b≠none\/V.ab b o≠none;unfold View.get at e;split at e
  ·rename_i hv;exact .inr (by rw[hv];simp)
  ·split at e
   ·rename_i hv;exact .inl (by rw[hv];simp)
   ·cases e
 ·simp[-TB,VC,hw.get e]
def _root_.Go.Value.one:SO->Bool
 |.agg _|.tuple _=>false
 |_=>true
theorem Sat.acW{V:View}{w:Tp}(h:Sat V w){b o:Nat}{v:SO}{c:Array SO}{el:TypeId}{f:Nat×Nat}(ho:V.own b=some (.cells c el f))(hi:V.ab b o=none):
  Sat (V.upd b (.cells (c.setIfInBounds o v) el f)) (w.setCell ⟨b,o,none⟩ v):=by
 have hb:=h.own _ _ ho;have hlt:=h.lt ho;have hm:(w.setCell ⟨b,o,none⟩ v).heap=w.heap.setIfInBounds b (.cells (c.setIfInBounds o v) el f):=by
  unfold Xh;apply Array.ext_getElem?;intro i;by_cases cx:b=i
  ·subst cx;rw[Wd,S_ hlt];simp[hb]
  ·simp[Wd,cx,SU cx]
 refine⟨λb' o' v' e=> ?_,λb' x e=> ?_⟩
 ·have:=h.ab _ _ _ e;simp only[View.upd]at e;by_cases yW:b=b'
  ·subst yW;have Kr:o≠o':=(by intro x;subst x;rw[hi]at e;cases e);simp only[Ux,hb]at this;simp only[Ux,hm,S_ hlt,SU Kr];exact this
  ·simp only[Ux,hm,SU yW];exact this
 ·simp only[View.upd]at e;rw[hm];by_cases yW:b'=b
  ·subst yW;simp at e;rw[S_ hlt,e]
  ·simp only[yW,if_false]at e;rw[SU (Ne.symm yW)];exact h.own _ _ e
theorem C4(w:Tp)(a:U1)(v:SO):(w.setCell a v).heap.size=w.heap.size:=by simp[Xh]
theorem vE(w:Tp)(a:U1)(v:SO){b:Nat}(h:a.block≠b):(w.setCell a v).heap[b]?=w.heap[b]?:=by simp[Xh,Wd,h]
theorem apx{m:Mode}{b o:Nat}{v:SO}{k:Sem α}{c:Array SO}{el:TypeId}{lo hi:Nat}(ho:V.own b=some (.cells c el (lo,hi)))(cN:o<c.size)(cx:V.ab b o=none)(hv:v.one=true)
  (hf:¬(lo<=o/\o<hi)) (j5:V.role.group≠some b\/m=.atomic) (JS:V.role.chan≠some b) (h:aN P (V.upd b (.cells (c.setIfInBounds o v) el (lo,hi))) k K Kp):aN P V (.store m ⟨b,o,none⟩ v k) K Kp:=by
 refine .cont λw hw=>⟨#[⟨.cell ⟨b,o,none⟩,true,m== .atomic⟩],w.setCell ⟨b,o,none⟩ v,_,k,?_,λeQ=> ?_,h⟩
 ·rw[sW (by simp)];refine⟨hw.acW ho cx,rfl,rfl,rfl,by rw[C4];exact SP _,λb' dB e=>vE _ _ _ (λx=> ?_),λb' dB e=> ?_,λ_ _ _ e=>e,λ_ _ _ e=> .inl e,λev cm=> ?_,by rw[Ov];rfl,rfl,λc' x bh e=>by rw[<- e];simp only[View.upd,ite_eq_right_iff];intro x';subst x';exact absurd bh JS,λev cm=>by simp at cm;subst cm;show b<_;rw[C4];exact hw.lt ho⟩
  ·have x':b=b':=x;subst x';rw[ho]at e;cases e
  ·have:b'≠b:=(by intro x;subst x;rw[ho]at e;cases e);simp only[View.upd,this,if_false];exact e
  ·simp only[TK,SL,S4,or_false]at cm;subst cm;exact⟨.inr ⟨by show V.own b≠none;rw[ho];simp,cx⟩,j5.elim .inr (λx=> .inl (by subst x;rfl))⟩
 ·have hc:w.cell? ⟨b,o,none⟩=some c[o]:=by simp[Ux,hw.own _ _ ho,cN]
  have hfz:w.frozen? ⟨b,o,none⟩=false:=by
   simp only[ZM,hw.own _ _ ho];simpa using hf
  cases v<;>simp_all[-TB,VC,Value.one]
theorem ov{x:Obj}{k:Nat->Sem α}(h:∀r,V.fresh r->aN P (V.upd r x) (k r) K Kp):aN P V (.new x k) K Kp:=by
 refine .cont λw hw=>⟨#[],{w with heap:=w.heap.push x},V.upd w.heap.size x,k w.heap.size,?_,λeQ=>by simp[-TB,VC],h _ (hw.fresh (SP _))⟩;have ju:=hw.fresh (SP w.heap.size);have aG:∀{b y},V.own b=some y->b≠w.heap.size:=λe x=>by rw[x,ju.1]at e;cases e
 refine⟨⟨λb o v e=> ?_,λb y e=> ?_⟩,rfl,rfl,rfl,by simp,λb hb _=> ?_,λb hb e=> ?_,λ_ _ _ e=>e,λ_ _ _ e=> .inl e,by simp[fC],rfl,rfl,λc' x bh e=>by rw[<- e];simp only[View.upd,ite_eq_right_iff];intro x';exact absurd x' (aG e),by simp[fC]⟩
 ·have hlt:=hw.Ct e;have:=hw.ab _ _ _ e;simp only[Ux,Yx hlt]at this⊢;simpa[Ux,hlt]using this
 ·simp only[View.upd]at e;by_cases hb:b=w.heap.size
  ·subst hb;simp at e;simp[e]
  ·simp only[hb,if_false]at e;have:=hw.own _ _ e;have hlt:=hw.lt e;simp only[Yx hlt];simpa[hlt]using this
 ·simp[Xg,VX hb]
 ·simp only[View.upd,VX hb,if_false];exact e
theorem abO{q:Question}{k:Nat->Sem α}(h0:q.forced=true->aN P V (k 0) K Kp)(h:q.forced=false->∀t,aN P V (k (q.cut t)) K Kp):aN P V (.choose q k) K Kp:=by
 cases hf:q.forced with
 |true=>exact .cont λw hw=>⟨#[],w,V,k 0,by simpa[fC]using da.idle hw,λeQ=>by simp[-TB,VC,hf],h0 hf⟩
 |false=>exact .cont λw hw=>⟨#[],{w with drawn:=w.drawn+1},V,_,by simpa[fC]using da.draw hw (w.drawn+1),λeQ=>by simp[-TB,VC,hf],h hf (w.tape w.drawn q)⟩
theorem qh{k:SJ->Sem α}(h:aN P V (k P) K Kp):aN P V (.program k) K Kp:=
 .cont λw hw=>⟨#[],w,V,k P,by simpa[fC]using da.idle hw,λeQ=>by simp[-TB,VC],h⟩
theorem apu{k:Sem α}(h:aN P V k K Kp):aN P V (.mark .noRoom k) K Kp:=
 .cont λw hw=>⟨#[⟨.mark .noRoom,false,true⟩],w,V,k,by
  rw[sW (by simp)];exact⟨hw,rfl,rfl,rfl,SP _,λ_ _ _=>rfl,λ_ _ e=>e,λ_ _ _ e=>e,λ_ _ _ e=> .inl e,λev cm=>by simp at cm;subst cm;trivial,by simp[deafBehind],rfl,λ_ _ _ e=>e,λev cm=>by simp at cm;subst cm;trivial⟩,
  λeQ=>by simp[-TB,VC],h⟩
theorem apt{m:Mark}{k:Sem α}(hm:m=.disable\/m=.enable)(h:aN P {V with deaf:=deafBehind V.deaf #[⟨.mark m,false,true⟩]} k K Kp):aN P V (.mark m k) K Kp:=
 .cont λw hw=>⟨#[⟨.mark m,false,true⟩],w,_,k,by
  rw[sW (by rcases hm with rfl|rfl<;>simp)];exact⟨⟨hw.ab,hw.own⟩,rfl,rfl,rfl,SP _,λ_ _ _=>rfl,λ_ _ e=>e,λ_ _ _ e=>e,λ_ _ _ e=> .inl e,λev cm=>by simp at cm;subst cm;rcases hm with rfl|rfl<;>rfl,rfl,rfl,λ_ _ _ e=>e,λev cm=>by simp at cm;subst cm;rcases hm with rfl|rfl<;>trivial⟩,
  λeQ=>by simp[-TB,VC],h⟩
theorem apw{m:Mark}{a:U1}{k:Sem α}(hm:m=.read a\/m=.write a)(ha:V.own a.block≠none/\V.ab a.block a.off=none)(h:aN P V k K Kp):aN P V (.mark m k) K Kp:=
 .cont λw hw=>⟨#[⟨.mark m,false,true⟩],w,_,k,by
  rw[sW (by rcases hm with rfl|rfl<;>simp)];exact⟨⟨hw.ab,hw.own⟩,rfl,rfl,rfl,SP _,λ_ _ _=>rfl,λ_ _ e=>e,λ_ _ _ e=>e,λ_ _ _ e=> .inl e,λev cm=>by simp at cm;subst cm;rcases hm with rfl|rfl<;>exact .inr ha,
   by rcases hm with rfl|rfl<;>simp[deafBehind],rfl,λ_ _ _ e=>e,λev cm=>by
    simp at cm;subst cm;have:a.block<w.heap.size:=by
     cases e:V.own a.block with
     |none=>exact absurd e ha.1
     |some y=>exact hw.lt e
    rcases hm with rfl|rfl<;>exact this⟩,
  λeQ=>by simp[-TB,VC],h⟩
def _root_.Go.Obj.us:Obj->Bool
 |.cells .. =>true
 |_=>false
theorem nJ{r:Nat}{x:Obj}{k:Obj->Sem α}(ho:V.own r=some x)(hx:x.us=false)(hc:x.isChan=false)(j5:V.role.chan≠some r)(h:aN P V (k x) K Kp):aN P V (.getObj r k) K Kp:=
 .cont λw hw=>⟨#[⟨.obj r,false,false⟩],w,V,k x,by
  rw[sW (by simp)];exact⟨hw,rfl,rfl,rfl,SP _,λ_ _ _=>rfl,λ_ _ e=>e,λ_ _ _ e=>e,λ_ _ _ e=> .inl e,λev cm=>by simp at cm;subst cm;exact⟨⟨rfl,.inr (by rw[ho];simp)⟩,j5⟩,by rw[Ox],rfl,λ_ _ _ e=>e,λev cm=>by simp at cm;subst cm;exact hw.lt ho⟩,
  λeQ=>by
   have:=hw.own _ _ ho;cases x<;>simp_all[-TB,VC,Obj.us,ag2],h⟩
theorem Sat.arj{V:View}{w:Tp}(h:Sat V w){r:Nat}{x y:Obj}(ho:V.own r=some x)(hx:x.us=false):Sat (V.upd r y) {w with heap:=w.heap.setIfInBounds r y}:=by
 have hlt:=h.lt ho;refine⟨λb o v e=> ?_,λb z e=> ?_⟩
 ·have:=h.ab _ _ _ e;have hb:r≠b:=by
   intro e';subst e';simp only[Ux,h.own _ _ ho]at this;cases x<;>simp_all[Obj.us]
  simp only[Ux,SU hb]at this⊢;exact this
 ·simp only[View.upd]at e;by_cases hb:b=r
  ·subst hb;simp at e;simp[hlt,e]
  ·simp only[hb,if_false]at e;simp only[SU (Ne.symm hb)];exact h.own _ _ e
theorem x8{r:Nat}{x y:Obj}{k:Sem α}(ho:V.own r=some x)(hx:x.us=false)(hy:y.isChan=false)(j5:V.role.chan≠some r)(h:aN P (V.upd r y) k K Kp):aN P V (.setObj r y k) K Kp:=
 .cont λw hw=>⟨#[⟨.obj r,true,false⟩],{w with heap:=w.heap.setIfInBounds r y},_,k,by
  rw[sW (by simp)];refine⟨hw.arj ho hx,rfl,rfl,rfl,by simp,λb hb e=> ?_,λb hb e=> ?_,λ_ _ _ e=>e,λ_ _ _ e=> .inl e,λev cm=>by simp at cm;subst cm;exact⟨⟨rfl,.inr (by rw[ho];simp)⟩,j5⟩,by rw[Ox];rfl,rfl,λc' x bh e=>by rw[<- e];simp only[View.upd,ite_eq_right_iff];intro x';subst x';exact absurd bh j5,λev cm=>by simp at cm;subst cm;show r<_;simp;exact hw.lt ho⟩
  ·exact SU (λx'=>by subst x';rw[ho]at e;cases e)
  ·have:b≠r:=(by intro x';subst x';rw[ho]at e;cases e);simp only[View.upd,this,if_false];exact e,
  λeQ=>by
   have:=hw.own _ _ ho;cases x<;>simp_all[-TB,VC,Obj.us,ag2],h⟩
theorem apl{s:Sem α}{f:α->Sem β}{K:β->View->Prop}(h:aN P V s (λx V'=>aN P V' (f x) K Kp) Kp):aN P V (s.bind f) K Kp:=by
 intro w hw eQ;obtain⟨es,w',V',h1,h2⟩:=h w hw eQ;have key:(s.bind f).runT P w eQ=match s.runT P w eQ with
   |(.ok x w',e)=>(f x).runT P w' e
   |(.halt h w',e)=>(.halt h w',e):=by
  have hr:=Sem.run_bind' P s f w;have he:=Sem.events_bind' P s f w eQ;rw[TB,TB];have xB:(s.bind f).run P w=_:=hr;have j4:(s.bind f).events P w eQ=_:=he;rw[xB,j4];cases s.run P w<;>simp[Result.andThen,Result.evThen]
 rcases h2 with⟨x,hx,hK⟩|⟨v,hv,hKp⟩
 ·obtain⟨tO,M5,aR,h3,h4⟩:=hK w' h1.sat (eQ++es);refine⟨es++tO,M5,aR,by rw[LU];exact h1.trans h3,?_⟩;rw[key,hx,<- Xp];exact h4
 ·refine⟨es,w',V',h1,.inr ⟨v,?_,hKp⟩⟩;rw[key,hv]
theorem az{s:Sem α}{f:α->Sem β}{K:β->View->Prop}(h:aN P V s (λx V'=>aN P V' (f x) K Kp) Kp):aN P V (s>>=f) K Kp:=apl h
end
open Go.Conc
def yi (e:Uq):Prop:=∀m,e.loc=.mark m->(m=.disable\/m=.enable)->e.sync=true
theorem mP.I7{V:View}{n:Nat}{e:Uq}(h:mP V n e):yi e:=by
 intro m hm hd;obtain⟨l,wr,s⟩:=e;simp only at hm;subst hm;rcases hd with rfl|rfl
 ·simpa[mP]using h
 ·simpa[mP]using h
theorem af0(d:Nat)(x:Array Uq)(e:Uq):deafBehind d (x.push e)=deafBehind (deafBehind d x) #[e]:=by
 simp[deafBehind]
theorem af1{d:Nat}{e:Uq}(hg:yi e)(hs:e.sync=false):deafBehind d #[e]=d:=by
 obtain⟨l,wr,s⟩:=e;cases l with
 |mark m=>
  cases m<;>first
   |(have:=hg _ rfl (.inl rfl);simp_all)
   |(have:=hg _ rfl (.inr rfl);simp_all)
   |simp[deafBehind]
 |_=>simp[deafBehind]
theorem apj(P:SJ)(fn:TQ)(es:Array Uq)(hg:∀e∈fC es,yi e)(d:Nat):(∀e∈seen P fn es,e∈fC es)/\deafBehind d (seen P fn es)=deafBehind d (fC es):=by
 rw[seen_def];obtain⟨l⟩:=es;have key:∀(l:List Uq)(q:Bool)(kept ref:Array Uq),(∀e∈fC l.toArray,yi e)->(∀e∈kept,e∈ref)->deafBehind d kept=deafBehind d ref->
   (∀e∈(l.foldl (seenStep λf=>(P.funcs[f]?).any (·.norace)) (q,kept)).2,e∈ref++fC l.toArray)/\
   deafBehind d (l.foldl (seenStep λf=>(P.funcs[f]?).any (·.norace)) (q,kept)).2=deafBehind d (ref++fC l.toArray):=by
  intro l;induction l with
  |nil=>intro q kept ref _ h1 h2;simpa[fC]using⟨h1,h2⟩
  |cons e l ih=>
   intro q kept ref hg h1 h2;rw[UW];by_cases hx:∃f,e.loc=.mark (.extern f)
   ·obtain⟨f,hf⟩:=hx;have e1:fC (e::l).toArray=fC l.toArray:=(by simp[fC,hf]);rw[e1]at hg⊢;have e3:seenStep (λf=>(P.funcs[f]?).any (·.norace)) (q,kept) e=((P.funcs[f]?).any (·.norace),kept):=(by simp[seenStep,hf]);rw[e3];exact ih _ kept ref hg h1 h2
   ·have aG:∀f,e.loc≠ .mark (.extern f):=λf hf=>hx ⟨f,hf⟩;have e1:fC (e::l).toArray=#[e]++fC l.toArray:=by
     have:(e::l).toArray=#[e]++l.toArray:=(by simp);rw[this,LU,sW aG]
    have ub:yi e:=hg e (by rw[e1];simp);have od:∀x∈fC l.toArray,yi x:=λx hx=>hg x (by rw[e1];exact Ut.2 (.inr hx));have e2:seenStep (λf=>(P.funcs[f]?).any (·.norace)) (q,kept) e=(q,if q&& !e.sync then kept else kept.push e):=by
     unfold seenStep;dsimp only;split
     ·rename_i f hf;exact absurd hf (aG f)
     ·rfl
    rw[e1,<- Xp];rw[e2];refine ih q _ (ref++#[e]) od (λx hx=> ?_) ?_
    ·split at hx
     ·exact Ut.2 (.inl (h1 x hx))
     ·rcases Array.mem_push.1 hx with hx|rfl
      ·exact Ut.2 (.inl (h1 x hx))
      ·exact Ut.2 (.inr (by simp))
    ·split
     ·rename_i hq;simp only[Tc,TV]at hq;rw[Ic,af1 ub hq.2,h2]
     ·rw[Ic,af0,h2]
 have:=key l ((P.funcs[fn]?).any (·.norace)) #[] #[] hg (by simp) rfl;simpa only[Xo]using this
theorem da.seen{V V':View}{w w':Tp}{es:Array Uq}(h:da V w V' w' (fC es))(P:SJ)(fn:TQ):da V w V' w' (seen P fn es):=by
 have:=apj P fn es (λe he=>(h.e9 e he).I7) V.deaf;exact⟨h.sat,h.tape,h.os,h.output,h.size,h.frame,h.own,h.ab,h.kB,λe he=>h.e9 e (this.1 e he),by rw[h.deaf,this.2],h.role,h.chan,λe he=>h.low e (this.1 e he)⟩
open Go.Conc
inductive Out where
 |ret (v:SO)
 |panic (chain:List ZN)
def Leaves (P:SJ)(fr:T9)(f:TQ)(kd:Xb)(o:Out)(V:View):Prop:=
 fr.fn=f/\fr.defers=[]/\fr.kind=kd/\∃fn,P.funcs[f]?=some fn/\
  match o with
  |.ret v=>fr.mode=.returning/\aN P V (results fn fr.tmps) (λx V'=>x=v/\V'=V) (λ_ _=>False)
  |.panic ch=>fr.mode=.panicking ch
def Body (lv:Bool)(P:SJ)(f:TQ)(args:Array SO)(kd:Xb)(V:View)(R:Out->View->Prop):Prop:=
 ∀(main:Bool)(J:View->SH->Prop),Closed lv P main J->∀cs,(∀o V' fr,R o V'->Leaves P fr f kd o V'->J V' (G fr cs))->J V (G (Frame.enter P f args kd) cs)
def mT (lv:Bool)(P:SJ)(fr:T9)(V:View)(R:Out->View->Prop):Prop:=
 ∀(main:Bool)(J:View->SH->Prop),Closed lv P main J->∀c cs,(∀v V',R (.ret v) V'->J V' (G (c.finish v) cs))->(∀ch V',R (.panic ch) V'->J V' (G (c.raise ch) cs))->J V (G fr (c::cs))
theorem Body.mono{lv:Bool}{P:SJ}{f:TQ}{args:Array SO}{kd:Xb}{V:View}{R R':Out->View->Prop}(h:Body lv P f args kd V R)(hr:∀o V,R o V->R' o V):Body lv P f args kd V R':=
 λmain J C cs hk=>h main J C cs λo V' fr r hl=>hk o V' fr (hr _ _ r) hl
theorem Body.ghost{lv:Bool}{P:SJ}{f:TQ}{args:Array SO}{kd:Xb}{V V':View}{R:Out->View->Prop}(g:dT V V')(h:Body lv P f args kd V' R):Body lv P f args kd V R:=
 λmain J C cs hk=>C.ghost _ _ _ g (h main J C cs hk)
theorem mT.mono{lv:Bool}{P:SJ}{fr:T9}{V:View}{R R':Out->View->Prop}(h:mT lv P fr V R)(hr:∀o V,R o V->R' o V):mT lv P fr V R':=
 λmain J C c cs h1 h2=>h main J C c cs (λv V' r=>h1 v V' (hr _ _ r)) (λv V' r=>h2 v V' (hr _ _ r))
theorem mT.ghost{lv:Bool}{P:SJ}{fr:T9}{V V':View}{R:Out->View->Prop}(g:dT V V')(h:mT lv P fr V' R):mT lv P fr V R:=
 λmain J C c cs h1 h2=>C.ghost _ _ _ g (h main J C c cs h1 h2)
theorem aN.runs{P:SJ}{α:Type}{V:View}{s:Sem α}{K:α->View->Prop}{Kp:SO->View->Prop}(h:aN P V s K Kp){w:Tp}(hw:Sat V w):
  ∃es w' V',da V w V' w' (fC es)/\s.events P w #[]=es/\((∃x,s.run P w=.ok x w'/\K x V')\/(∃v,s.run P w=.halt (.panic v) w'/\Kp v V')):=by
 obtain⟨es,w',V',h1,h2⟩:=h w hw #[];refine⟨es,w',V',h1,?_⟩;simp only[TB,UY,Xo]at h2;rcases h2 with⟨x,⟨a,b⟩,c⟩|⟨x,⟨a,b⟩,c⟩
 ·exact⟨b,.inl ⟨x,a,c⟩⟩
 ·exact⟨b,.inr ⟨x,a,c⟩⟩
theorem alX{lv:Bool}{P:SJ}{main:Bool}{J:View->SH->Prop}(C:Closed lv P main J){fr c:T9}{cs:List T9}{f:TQ}{v:SO}{V:View}(h:Leaves P fr f .normal (.ret v) V)(hJ:J V (G (c.finish v) cs)):J V (G fr (c::cs)):=by
 obtain⟨rfl,hd,hk,fn,hf,hm,hr⟩:=h;refine C.step _ _ rfl λw hw=> ?_;obtain⟨es,w',V',h1,h2,h3⟩:=hr.runs hw;rcases h3 with⟨x,h3,rfl,rfl⟩|⟨_,_,h⟩
 ·exact⟨G (c.finish x) cs,w',seen P fr.fn es,V',by simp[G,stepG,unwind,doReturn,hm,hd,hk,hf,h3,h2,T1],h1.seen P fr.fn,hJ⟩
 ·exact h.elim
theorem alW{lv:Bool}{P:SJ}{main:Bool}{J:View->SH->Prop}(C:Closed lv P main J){fr c:T9}{cs:List T9}{f:TQ}{kd:Xb}{ch:List ZN}{V:View}(h:Leaves P fr f kd (.panic ch) V)(hJ:J V (G (c.raise ch) cs)):J V (G fr (c::cs)):=by
 obtain⟨rfl,hd,hk,fn,hf,hm⟩:=h;refine C.idle rfl (λw=> ?_) hJ;simp[G,stepG,unwind,ZQ,hm,hd,hf]
theorem Body.runs{lv:Bool}{P:SJ}{f:TQ}{args:Array SO}{V:View}{R:Out->View->Prop}(h:Body lv P f args .normal V R):mT lv P (Frame.enter P f args .normal) V R:=by
 intro main J C c cs h1 h2;refine h main J C (c::cs) λo V' fr r hl=> ?_;cases o with
 |ret v=>exact alX C hl (h1 v V' r)
 |panic ch=>exact alW C hl (h2 ch V' r)
def mu (lv:Bool)(P:SJ)(r:Option Nat)(o:Tv)(a:Act)(next:Act->View->Prop)(Q:Ex->Act->View->Prop)(nx:Next)(V:View):Prop:=
 match nx with
 |.value v=>next (a.put o.dst v) V
 |.skip=>next (a.put o.dst undef) V
 |.defer d=>r=none/\next ({a with defers:=d::a.defers}.put o.dst undef) V
 |.enter f args=>Body lv P f args .normal V fun
   |.ret v,V'=>next (a.put o.dst v) V'
   |.panic ch,V'=>Q (.panic ch) a V'
 |.round l f tmps assign body=>mT lv P (W6 l f tmps assign body .normal) V fun
   |.ret v,V'=>next (a.put o.dst v) V'
   |.panic ch,V'=>Q (.panic ch) a V'
 |_=>False
def l_:Op->Bool
 |.defer _=>true
 |_=>false
def wC (lv:Bool)(P:SJ)(r:Option Nat)(o:Tv)(a:Act)(V:View)(next:Act->View->Prop)(Q:Ex->Act->View->Prop):Prop:=
 (r=none\/l_ o.op=false)/\aN P V (execOp a.eval o) (mu lv P r o a next Q) (λv V'=>Q (.panic [{v,recovered:=false}]) a V')
def uU (lv:Bool)(P:SJ)(o:Tv)(a:Act)(V:View)(next:Act->View->Prop):Prop:=match o.op with
 |.send ch x=>∃(c Wg:Nat)(sp:Spec)(S:List Spec)(B:Nat->Bool),a.eval ch=.chan (some c)/\V.role=.work c Wg (sp::S)/\V.deaf=0/\sp (a.eval x) V.ab (λb=>if B b then V.own b else none)/\
   next (a.put o.dst undef) {V with own:=λb=>if B b then none else V.own b,role:=.work c Wg S}
 |.go cl=>lv=true/\∃(x:Ti)(f:TQ)(fa ca:Array SO),cl.callee=.value x/\a.eval x=.func (.func f) fa ca/\V.deaf=0/\
   ((∃(c Wg:Nat)(Ss:List (List Spec))(sp:Spec)(S:List Spec),V.role=.fork c Wg Ss/\V.own c=some (.chan 0 #[] false 0 0 false)/\V.own Wg=some (wgBlock P (((Ss.length+1:Nat):Int)* 4294967296) 0)/\Ss.length<4/\(∀o,V.ab Wg o=none)/\
    (∀J0,yd P false J0->J0 {ab:=V.ab,own:=λ_=>none,deaf:=0,role:=.work c Wg (sp::S)} (born P ⟨.fn (.func f) ca,fa++cl.args.map a.eval⟩))/\next (a.put o.dst undef) {V with role:=.fork c Wg (Ss++[sp::S])})\/
    (∃(c Wg:Nat)(Ss:List (List Spec)),V.role=.fork c Wg Ss/\c≠Wg/\V.own c=some (.chan 0 #[] false 0 0 false)/\V.own Wg=some (wgBlock P (((Ss.length:Nat):Int)* 4294967296) 0)/\(∀o,V.ab c o=none)/\(∀o,V.ab Wg o=none)/\
    Hp P V.ab c Wg (born P ⟨.fn (.func f) ca,fa++cl.args.map a.eval⟩)/\next (a.put o.dst undef) {V with own:=λb=>if b=c\/b=Wg then none else V.own b,role:=.recv c Wg Ss}))
 |.recv t ch true=>lv=true/\∃(c Wg:Nat)(Ss:List (List Spec))(d:ChanDir)(el:TypeId)(i:We)(z:SO),a.eval ch=.chan (some c)/\P.underlying t=some (.chan d el)/\P.info? el=some i/\i.zero=some z/\V.role=.recv c Wg Ss/\V.deaf=0/\
   (∀(i:Nat)(sp:Spec)(S:List Spec)(v:SO)(Im:cq)(Ow:AC),Ss[i]?=some (sp::S)->sp v Im Ow->(∀b,V.own b≠none->Ow b=none)->(∀b o,V.own b≠none->Im b o≠none->V.ab b o≠none)->(∃w,Sat V w/\(∀b o x,Im b o=some x->w.cell? ⟨b,o,none⟩=some x)/\∀b x,Ow b=some x->w.heap[b]?=some x)->
    next (a.put o.dst (.tuple #[v,.bool true])) {V with ab:=λb o=>match V.ab b o with|some x=>some x|none=>Im b o,own:=λb=>match V.own b with|some x=>some x|none=>Ow b,role:=.recv c Wg (Ss.set i S)})/\
   ((∀S∈Ss,S=[])->next (a.put o.dst (.tuple #[z,.bool false])) {V with role:=.plain})
 |_=>False
theorem uU.mono{lv:Bool}{P:SJ}{o:Tv}{a:Act}{V:View}{N N':Act->View->Prop}(h:uU lv P o a V N)(hN:∀a V,N a V->N' a V):uU lv P o a V N':=by
 unfold uU at h⊢;split at h
 ·obtain⟨c,Wg,sp,S,B,h1,h2,h3,h4,h5⟩:=h;exact⟨c,Wg,sp,S,B,h1,h2,h3,h4,hN _ _ h5⟩
 ·obtain⟨sG,x,f,fa,ca,h1,h2,h3,h4⟩:=h;refine⟨sG,x,f,fa,ca,h1,h2,h3,h4.imp ?_ ?_⟩
  ·rintro⟨c,Wg,Ss,sp,S,q1,q2,q3,q4,q5,q6,q7⟩
   exact⟨c,Wg,Ss,sp,S,q1,q2,q3,q4,q5,q6,hN _ _ q7⟩
  ·rintro⟨c,Wg,Ss,q1,q2,q3,q4,q5,q6,q7,q8⟩
   exact⟨c,Wg,Ss,q1,q2,q3,q4,q5,q6,q7,hN _ _ q8⟩
 ·obtain⟨sG,c,Wg,Ss,d,el,ti,z,h1,h2,h3,h4,h5,h6,h7,h8⟩:=h;exact⟨sG,c,Wg,Ss,d,el,ti,z,h1,h2,h3,h4,h5,h6,λi sp S v Im Ow r1 r2 r3 r4 r5=>hN _ _ (h7 i sp S v Im Ow r1 r2 r3 r4 r5),λhS=>hN _ _ (h8 hS)⟩
 ·exact h
def AB (lv:Bool)(P:SJ)(r:Option Nat)(o:Tv)(a:Act)(V:View)(next:Act->View->Prop)(Q:Ex->Act->View->Prop):Prop:=wC lv P r o a V next Q\/uU lv P o a V next
def dh (lv:Bool)(P:SJ)(r:Option Nat)(ops:Array Tv)(Q:Ex->Act->View->Prop):List Nat->Act->View->Prop
 |[],a,V=>Q .normal a V
 |i::rest,a,V=>
  match ops[i]?with
  |none=>dh lv P r ops Q rest a V
  |some o=>if Th o (yielded ops a.tmps)then AB lv P r o a V (dh lv P r ops Q rest) Q else dh lv P r ops Q rest (a.put o.dst undef) V
theorem zM(b:T9)(a:Act)(ops:Array Tv)(i:Nat)(rest:List Nat)(k:List WR)(v:SO):
  (on b a (.inRegion ops (i::rest)::k)).finish v=on b (a.put ((ops[i]?).bind (·.dst)) v) (.inRegion ops rest::k):=by
 cases h:(ops[i]?).bind (·.dst)<;>simp[Frame.finish,on,X0,h]
theorem abB{P:SJ}{main:Bool}{b:T9}{a:Act}{k:List WR}{cs:List T9}{w:Tp}{ops:Array Tv}{i:Nat}{rest:List Nat}(h:((ops[i]?).map (Th · (yielded ops a.tmps))).getD false=false):
  stepG P main (G (on b a (.inRegion ops (i::rest)::k)) cs) w=.go (G (on b (a.put ((ops[i]?).bind (·.dst)) undef) (.inRegion ops rest::k)) cs) w #[]:=by
 rw[<- zM];simp only[on]at*;simp[G,stepG,Ud,h]
theorem s_op{P:SJ}{main:Bool}{b:T9}{a:Act}{k:List WR}{cs:List T9}{w:Tp}{ops:Array Tv}{i:Nat}{rest:List Nat}{o:Tv}(ho:ops[i]?=some o)(hw:Th o (yielded ops a.tmps)=true)(hd:b.roundOf=none\/l_ o.op=false):
  stepG P main (G (on b a (.inRegion ops (i::rest)::k)) cs) w=stepG.apply P true (on b a (.inRegion ops (i::rest)::k)) cs none (execOp a.eval o) w:=by
 have he:=am9 b a (.inRegion ops (i::rest)::k);simp only[on]at he;rcases hd with hd|hd
 ·rw[hd]at he;simp[G,stepG,Ud,Y0,YI,on,ho,hw,he,hd]
 ·cases hr:b.roundOf with
  |none=>
   rw[hr]at he;simp[G,stepG,Ud,Y0,YI,on,ho,hw,he,hr]
  |some l=>cases au:o.op<;>simp_all[G,stepG,Ud,Y0,YI,on,l_]
theorem apS{lv:Bool}{P:SJ}{main:Bool}{J:View->SH->Prop}(C:Closed lv P main J){ops:Array Tv}{i:Nat}{rest:List Nat}{o:Tv}{a:Act}{V:View}{N:Act->View->Prop}{b:T9}{k:List WR}{cs:List T9}(hb:b.kind≠ .early)
  (ho:ops[i]?=some o) (hw:Th o (yielded ops a.tmps)=true) (h:uU lv P o a V N) (hN:∀a' V',N a' V'->J V' (G (on b a' (.inRegion ops rest::k)) cs)):J V (G (on b a (.inRegion ops (i::rest)::k)) cs):=by
 have jP:((on b a (.inRegion ops (i::rest)::k)).kind==U2)=false:=by simpa[on]using hb
 have dY:∀v,(on b a (.inRegion ops (i::rest)::k)).finish v=on b (a.put o.dst v) (.inRegion ops rest::k):=by
  intro v;rw[zM,ho];rfl
 have KL:∀v,T4 (G (on b a (.inRegion ops (i::rest)::k)) cs) v=G (on b (a.put o.dst v) (.inRegion ops rest::k)) cs:=λv=>by rw[<- dY v];rfl
 unfold uU at h;split at h
 ·rename_i ch x au;obtain⟨c,Wg,sp,S,B,h1,h2,h3,h4,h5⟩:=h;have aP:∀w,stepG P main (G (on b a (.inRegion ops (i::rest)::k)) cs) w=.comm (G (on b a (.inRegion ops (i::rest)::k)) cs) #[scase c (a.eval x) (.tuple #[])] true .send w #[]:=λw=>by
   rw[s_op ho hw (.inr (by rw[au];rfl))];have e:execOp a.eval o=pure (.comm #[scase c (a.eval x) (.tuple #[])] true .send):=by
    unfold execOp;simp only[au];rw[h1];rfl
   rw[e];simp only[stepG.apply,TB,if_true,jP,T1,Z4,ZE,Z7];rfl
  exact C.send _ _ c Wg sp S (a.eval x) (.tuple #[]) B h2 h3 rfl rfl (λw _=>aP w) h4 (by rw[KL];exact hN _ _ h5)
 ·rename_i cl au;obtain⟨sG,x,f,fa,ca,h1,h2,h3,h4⟩:=h;have aP:∀w,stepG P main (G (on b a (.inRegion ops (i::rest)::k)) cs) w=.spawn (G (on b (a.put o.dst undef) (.inRegion ops rest::k)) cs) (born P ⟨.fn (.func f) ca,fa++cl.args.map a.eval⟩) w #[]:=λw=>by
   rw[s_op ho hw (.inr (by rw[au];rfl)),<- dY undef];have e:execOp a.eval o=(pure (.spawn ⟨.fn (.func f) ca,fa++cl.args.map a.eval⟩):Sem Next):=by
    unfold execOp;simp only[au];unfold resolve;simp only[h1,h2];rfl
   rw[e];simp only[stepG.apply,TB,if_true,jP,T1,Z4,ZE,Z7];simp[born,G,on];exact Z7 _ _
  rcases h4 with⟨c,Wg,Ss,sp,S,q1,q2,q3,q4,q5,q6,q7⟩|⟨c,Wg,Ss,q1,q2,q3,q4,q5,q6,q7,q8⟩
  ·exact(C.more sG).Ep _ _ _ _ c Wg Ss sp S q1 h3 rfl q2 q3 q4 q5 (λw _=>aP w) rfl q6 (hN _ _ q7)
  ·exact(C.more sG).Eo _ _ _ _ c Wg Ss q1 h3 rfl q2 q3 q4 q5 q6 (λw _=>aP w) rfl q7 (hN _ _ q8)
 ·rename_i t ch au;obtain⟨sG,c,Wg,Ss,d,el,ti,z,h1,h2,h3,h4,h5,h6,h7,h8⟩:=h;have aP:∀w,stepG P main (G (on b a (.inRegion ops (i::rest)::k)) cs) w=.comm (G (on b a (.inRegion ops (i::rest)::k)) cs) #[rcase c z] true (.recv true) w #[]:=λw=>by
   rw[s_op ho hw (.inr (by rw[au];rfl))];have hu:(underlying t).run P w=.ok (.chan d el) w:=run_underlying h2 w;have hi:(typeInfo el).run P w=.ok ti w:=(by simp[typeInfo,h3]);have hz:(zeroValue el).run P w=.ok z w:=(by simp[zeroValue,hi,h4]);have up:(zeroValue el).events P w #[]=#[]:=(by simp[zeroValue,hi,h4]);have e1:(execOp a.eval o).run P w=.ok (.comm #[rcase c z] true (.recv true)) w:=by
    unfold execOp;simp only[au];rw[h1];simp[hu,hz,rcase]
   have e2:(execOp a.eval o).events P w #[]=#[]:=by
    unfold execOp;simp only[au];rw[h1];simp[hu,hz,up]
   simp only[stepG.apply,TB,if_true,jP,T1,e1,e2,Z7];rfl
  refine(C.more sG).recv _ _ c Wg Ss z h5 h6 rfl rfl (λw _=>aP w) (λi sp S v Im Ow r1 r2 r3 r4 r5=> ?_) λhS=> ?_
  ·rw[KL];exact hN _ _ (h7 i sp S v Im Ow r1 r2 r3 r4 r5)
  ·rw[KL];exact hN _ _ (h8 hS)
 ·exact h.elim
theorem wp_ops{lv:Bool}{P:SJ}{r:Option Nat}{ops:Array Tv}{Q:Ex->Act->View->Prop}(l:List Nat):
  ∀(a:Act)(V:View),dh lv P r ops Q l a V->∀(main:Bool)(J:View->SH->Prop),Closed lv P main J->∀(b:T9)(k:List WR)(cs:List T9),b.kind≠ .early->b.roundOf=r->
   (∀e a' V',Q e a' V'->uS J b k cs e a' V')->J V (G (on b a (.inRegion ops l::k)) cs):=by
 induction l with
 |nil=>exactλa V h main J C b k cs _ _ hL=>C.idle rfl (λ_=>apb) (hL _ _ _ h)
 |cons i rest ih=>
  intro a V h main J C b k cs hb hr hL;simp only[dh]at h;cases ho:ops[i]?with
  |none=>
   simp only[ho]at h;refine C.idle rfl (λw=>abB (by simp[ho])) ?_;simp only[ho,Option.bind_none,X0];exact ih a V h main J C b k cs hb hr hL
  |some o=>
   simp only[ho]at h;by_cases hw:Th o (yielded ops a.tmps)=true
   ·simp only[hw,if_true]at h;rcases h with h|h
    rotate_left
    ·exact apS C hb ho hw h λa' V' h'=>ih a' V' h' main J C b k cs hb hr hL
    obtain⟨bw,au⟩:=h;have ajy:b.roundOf=none\/l_ o.op=false:=hr▸bw;have dY:∀v,(on b a (.inRegion ops (i::rest)::k)).finish v=on b (a.put o.dst v) (.inRegion ops rest::k):=by
     intro v;rw[zM,ho];rfl
    have jP:((on b a (.inRegion ops (i::rest)::k)).kind==U2)=false:=(by simpa[on]using hb);refine C.step _ _ rfl λw fq=> ?_;obtain⟨es,w',V',h1,h2,h3⟩:=au.runs fq;rw[s_op ho hw ajy];rcases h3 with⟨nx,h3,hU⟩|⟨v,h3,hU⟩
    ·cases nx with
     |value v=>exact⟨_,w',seen P b.fn es,V',by rw[<- dY v];simp only[stepG.apply,TB,if_true,h3,h2,jP,T1];rfl,h1.seen P _,ih _ _ hU main J C b k cs hb hr hL⟩
     |skip=>exact⟨_,w',seen P b.fn es,V',by rw[<- dY undef];simp only[stepG.apply,TB,if_true,h3,h2,jP,T1];rfl,h1.seen P _,ih _ _ hU main J C b k cs hb hr hL⟩
     | «defer» d =>
      obtain⟨zp,hU⟩:=hU;have iG:({on b a (.inRegion ops (i::rest)::k)with defers:=d::a.defers}:T9).finish undef=on b ({a with defers:=d::a.defers}.put o.dst undef) (.inRegion ops rest::k):=by
       have:=zM b {a with defers:=d::a.defers} ops i rest k undef;rw[ho]at this;exact this
      exact⟨_,w',seen P b.fn es,V',by
       rw[<- iG];simp only[stepG.apply,TB,if_true,h3,h2,jP,T1];rfl,h1.seen P _,ih _ _ hU main J C b k cs hb hr hL⟩
     |enter f args=>
      refine⟨G (Frame.enter P f args .normal) (on b a (.inRegion ops (i::rest)::k)::cs),w',seen P b.fn es,V',by simp only[stepG.apply,TB,if_true,h3,h2,jP,T1];rfl,h1.seen P _,?_⟩;refine Body.runs hU main J C _ cs (λv aR hR=> ?_) (λch aR hR=> ?_)
      ·rw[dY];exact ih _ _ hR main J C b k cs hb hr hL
      ·exact hL _ _ _ hR _ rfl
     |round l f tmps assign body=>
      refine⟨G (W6 l f tmps assign body .normal) (on b a (.inRegion ops (i::rest)::k)::cs),w',seen P b.fn es,V',by simp only[stepG.apply,TB,if_true,h3,h2,jP,T1];rfl,h1.seen P _,?_⟩;refine hU main J C _ cs (λv aR hR=> ?_) (λch aR hR=> ?_)
      ·rw[dY];exact ih _ _ hR main J C b k cs hb hr hL
      ·exact hL _ _ _ hR _ rfl
     |_=>exact hU.elim
    ·refine⟨G ((on b a (.inRegion ops (i::rest)::k)).raise [{v,recovered:=false}]) cs,w',seen P b.fn es,V',by simp only[stepG.apply,TB,if_true,h3,h2,jP,T1];rfl,h1.seen P _,hL _ _ _ hU _ rfl⟩
   ·have nC:Th o (yielded ops a.tmps)=false:=(by simpa using hw);simp only[nC,if_false,TO]at h;refine C.idle rfl (λw=>abB (by simp[ho,nC])) ?_;simp only[ho,Option.bind_some];exact ih _ _ h main J C b k cs hb hr hL
theorem wp_region{lv:Bool}{P:SJ}{r:Option Nat}{id:Nat}{ops:Array Tv}{Q:Ex->Act->View->Prop}{a:Act}{V:View}(h:dh lv P r ops Q (S0 ops.size) a V):WP lv P r (.region id ops false) Q a V:=
 λmain J C b k cs hb hr hL=>C.idle rfl (λ_=>abC) (wp_ops _ a V h main J C b k cs hb hr hL)
theorem Na{lv:Bool}{P:SJ}{r:Option Nat}{id:Nat}{ops:Array Tv}{Q:Ex->Act->View->Prop}{a:Act}{V:View}(h:∀t,dh lv P r ops Q (VI (P.follows .mixedOrders) ops t) a V):WP lv P r (.region id ops true) Q a V:=
 λmain J C b k cs hb hr hL=>C.step _ _ rfl λw hw=>⟨_,_,#[],V,ao2,.draw hw _,wp_ops _ a V (h _) main J C b k cs hb hr hL⟩
def Ends (P:SJ)(fn:ZP)(R:Out->View->Prop):Ex->Act->View->Prop
 |.normal,a,V|.ret,a,V=>a.defers=[]/\∃v,aN P V (results fn a.tmps) (λx V'=>x=v/\V'=V) (λ_ _=>False)/\R (.ret v) V
 |.panic ch,a,V=>a.defers=[]/\R (.panic ch) V
 |_,_,_=>False
theorem Oa{lv:Bool}{P:SJ}{f:TQ}{fn:ZP}{c:T5}{args:Array SO}{kd:Xb}{V:View}{R:Out->View->Prop}(hk:kd≠ .early)(hf:P.funcs[f]?=some fn)(hb:fn.body=some c)
  (h:WP lv P none c (Ends P fn R) {tmps:=args++TL (fn.ntmps-args.size) undef,defers:=[]} V):Body lv P f args kd V R:=by
 intro main J C cs hR;let b:T9:={(default:T9)with fn:=f,kind:=kd,roundOf:=none};have ua:Frame.enter P f args kd=on b {tmps:=args++TL (fn.ntmps-args.size) undef,defers:=[]} [.code c]:=by
  simp[Frame.enter,on,hf,hb,b]
 rw[ua];refine h main J C b [] cs hk rfl λe a' V' q=> ?_;cases e with
 |normal=>
  obtain⟨hd,v,hs,hr⟩:=q;exact C.idle rfl (λw=>CX rfl) (hR _ _ _ hr ⟨rfl,hd,rfl,fn,hf,rfl,hs⟩)
 |ret=>
  obtain⟨hd,v,hs,hr⟩:=q;intro k;exact C.idle rfl (λw=>CY rfl) (hR _ _ _ hr ⟨rfl,hd,rfl,fn,hf,rfl,hs⟩)
 |panic ch=>
  obtain⟨hd,hr⟩:=q;intro todo _;exact hR _ _ _ hr ⟨rfl,hd,rfl,fn,hf,rfl⟩
 |exit id=>exact q.elim
 |goto l=>exact q.elim
open Go.Conc
inductive End where
 |exact
 |shut
 |opn (k:Nat)
 deriving DecidableEq
inductive AV where
 |val (x:SO)
 |agg (l:List AV)
 |aK (l:List AV)
 |sl (n:Nat) (l:List AV) (e:End)
 |bE (id off n cap:Nat)
 |rp (l:List AV)
 |op (id off:Nat)
 |fn (f:Fn) (first cQ:List AV)
 |cX (t:TypeId) (x:AV)
 |mp (id:Nat)
structure Env where
 I:cq
 n:Nat
 blk:Nat->Nat
 room:Nat->Nat->Option U1×Nat
 fu:Nat->Nat
 fr:Nat->Option Obj
 main:Bool
structure Env.Le (E E':Env):Prop where
 I:∀b o v,E.I b o=some v->E'.I b o=some v
 n:E.n<=E'.n
 blk:∀k,k<E.n->E'.blk k=E.blk k
 fu:∀k,k<E.n->E.fu k<=E'.fu k
 room:∀k v,k<E.n->v<=E.fu k->E'.room k v=E.room k v
 fr:E'.fr=E.fr
 main:E'.main=E.main
theorem Env.Le.refl(E:Env):E.Le E:=⟨λ_ _ _ h=>h,SP _,λ_ _=>rfl,λ_ _=>SP _,λ_ _ _ _=>rfl,rfl,rfl⟩
theorem Env.Le.trans{E E' bO:Env}(h:E.Le E')(k:E'.Le bO):E.Le bO:=
 ⟨λb o v e=>k.I b o v (h.I b o v e),UF h.n k.n,λi hi=>(k.blk i (Td hi h.n)).trans (h.blk i hi),λi hi=>UF (h.fu i hi) (k.fu i (Td hi h.n)),
  λi v hi hv=>(k.room i v (Td hi h.n) (UF hv (h.fu i hi))).trans (h.room i v hi hv),k.fr.trans h.fr,k.main.trans h.main⟩
def pq (E:Env)(e:End)(a:Option U1)(n cap:Nat):Prop:=match e with
 |.exact=>cap=n
 |.shut=>True
 |.opn k=>k<E.n/\n<=E.fu k/\E.room k n=(a,cap)
inductive ap (E:Env):AV->SO->Prop
 |val (x:SO):ap E (.val x) x
 |agg {l:List AV} {cs:Array SO} (hs:cs.size=l.length) (h:∀(i:Nat) a,l[i]?=some a->ap E a (cs.getD i undef)):ap E (.agg l) (.agg cs)
 |aK {l:List AV} {cs:Array SO} (hs:cs.size=l.length) (h:∀(i:Nat) a,l[i]?=some a->ap E a (cs.getD i undef)):ap E (.aK l) (.tuple cs)
 |sl {n:Nat} {l:List AV} {e:End} (b o cap:Nat) (f:Nat->SO) (hc:n<=cap) (he:pq E e (some ⟨b,o,none⟩) n cap)
   (h1:∀i,i<l.length->E.I b (o+i)=some (f i)) (h2:∀(i:Nat) x,l[i]?=some x->ap E x (f i)):ap E (.sl n l e) (.slice (some ⟨b,o,none⟩) n cap)
 |nil {e:End} {a:Option U1} (he:pq E e a 0 0):ap E (.sl 0 [] e) (.slice a 0 0)
 |bE {id off n cap cap':Nat} (hi:id<E.n) (dP:n<=cap'/\(n<=cap->cap=cap')/\(cap<n->cap'<=(E.room id 0).2)):ap E (.bE id off n cap) (.slice (some ⟨E.blk id,off,none⟩) n cap')
 |rp {l:List AV} (b o:Nat) (f:Nat->SO) (h1:∀i,i<l.length->E.I b (o+i)=some (f i)) (h2:∀(i:Nat) x,l[i]?=some x->ap E x (f i)):ap E (.rp l) (.pointer (some ⟨b,o,none⟩))
 |op {id off:Nat} (hi:id<E.n):ap E (.op id off) (.pointer (some ⟨E.blk id,off,none⟩))
 |fn {f:Fn} {first cQ:List AV} {fa ca:Array SO} (dF:fa.size=first.length) (fP:ca.size=cQ.length) (h1:∀(i:Nat) a,first[i]?=some a->ap E a (fa.getD i undef)) (h2:∀(i:Nat) a,cQ[i]?=some a->ap E a (ca.getD i undef)):ap E (.fn f first cQ) (.func f fa ca)
 |cX {t:TypeId} {x:AV} {v:SO} (h:ap E x v):ap E (.cX t x) (.iface t v)
 |mp {id:Nat} (hi:id<E.n):ap E (.mp id) (.map (some (E.blk id)))
theorem pq.mono{E E':Env}(h:E.Le E'){e:End}{a:Option U1}{n cap:Nat}(k:pq E e a n cap):pq E' e a n cap:=by
 cases e with
 |exact=>exact k
 |shut=>trivial
 |opn i=>exact⟨Td k.1 h.n,UF k.2.1 (h.fu i k.1),by rw[h.room i n k.1 k.2.1];exact k.2.2⟩
theorem ap.mono{E E':Env}(h:E.Le E'){a:AV}{v:SO}(d:ap E a v):ap E' a v:=by
 induction d with
 |val x=>exact .val x
 |agg hs _ ih=>exact .agg hs ih
 |aK hs _ ih=>exact .aK hs ih
 |sl b o cap f hc he h1 _ ih=>exact .sl b o cap f hc (he.mono h) (λi hi=>h.I _ _ _ (h1 i hi)) ih
 |nil he=>exact .nil (he.mono h)
 |bE hi dP=>rw[<- h.blk _ hi];exact .bE (Td hi h.n) ⟨dP.1,dP.2.1,λe=>by rw[h.room _ 0 hi (X_ _)];exact dP.2.2 e⟩
 |rp b o f h1 _ ih=>exact .rp b o f (λi hi=>h.I _ _ _ (h1 i hi)) ih
 |op hi=>rw[<- h.blk _ hi];exact .op (Td hi h.n)
 |fn dF fP _ _ mI ld=>exact .fn dF fP mI ld
 |cX _ ih=>exact .cX ih
 |mp hi=>rw[<- h.blk _ hi];exact .mp (Td hi h.n)
def AV.leaf:AV->Bool
 |.agg _|.aK _=>false
 |.val x=>x.one
 |_=>true
inductive aa where
 |cells (l:List AV) (elem:TypeId)
 |part (p:Nat) (l:List AV) (elem:TypeId)
 |own (sz:Nat) (l:List AV) (elem:TypeId)
 |tail (n sz:Nat) (elem:TypeId)
 |obj (x:Obj)
 |iter (m since:Nat) (seen:Array Nat) (td:Nat)
 |loop (r:Nat) (st:Z5) (pend:Option T5) (fn:TQ) (T:List (Nat×AV)) (nt:Nat) (ps:Array Tmp) (bJ body:T5) (df:Nat)
 |gone
 |main
def look:List (Nat×AV)->Nat->Option AV
 |[],_=>none
 |(k,a)::l,t=>if k=t then some a else look l t
def b8 (E:Env)(T:List (Nat×AV))(tmps:Array SO):Prop:=∀t a,look T t=some a->t<tmps.size/\ap E a (tmps.getD t undef)
theorem b8.mono{E E':Env}(h:E.Le E'){T:List (Nat×AV)}{tmps:Array SO}(k:b8 E T tmps):b8 E' T tmps:=λt a e=>⟨(k t a e).1,(k t a e).2.mono h⟩
theorem b8.put{E:Env}{T:List (Nat×AV)}{tmps:Array SO}(k:b8 E T tmps){d:Nat}(hd:d<tmps.size){a:AV}{v:SO}(hv:ap E a v):b8 E ((d,a)::T) (tmps.setIfInBounds d v):=by
 intro t x e;simp only[look]at e;by_cases h:d=t
 ·subst h;rw[if_pos rfl]at e;cases e;exact⟨by simpa using hd,by simpa[SI,S_ hd]using hv⟩
 ·rw[if_neg h]at e;have:=k t x e;exact⟨by simpa using this.1,by simpa[SI,SU h]using this.2⟩
def cG (E:Env)(l:List AV)(cs:Array SO):Prop:=cs.size=l.length/\∀(i:Nat) a,l[i]?=some a->ap E a (cs.getD i undef)
theorem cG.mono{E E':Env}(h:E.Le E'){l:List AV}{cs:Array SO}(d:cG E l cs):cG E' l cs:=⟨d.1,λi a e=>(d.2 i a e).mono h⟩
def jU (E:Env)(l:List AV)(cs:Array SO):Prop:=l.length<=cs.size/\∀(i:Nat) a,l[i]?=some a->ap E a (cs.getD i undef)
theorem jU.mono{E E':Env}(h:E.Le E'){l:List AV}{cs:Array SO}(d:jU E l cs):jU E' l cs:=⟨d.1,λi a e=>(d.2 i a e).mono h⟩
theorem cG.p{E:Env}{l:List AV}{cs:Array SO}(d:cG E l cs):jU E l cs:=⟨WE d.1.symm,d.2⟩
def bK (E:Env)(k:Nat):aa->Option Nat
 |.tail n _ _=>if(E.room k n).2=n then none else(E.room k n).1.map (·.block)
 |.gone|.main=>none
 |_=>some (E.blk k)
def fH (E:Env)(V:View)(k:Nat):aa->Prop
 |.cells l elem=>(∃cs,V.own (E.blk k)=some (.cells cs elem (0,0))/\cG E l cs)/\∀o,V.ab (E.blk k) o=none
 |.part p l elem=>(∃cs,V.own (E.blk k)=some (.cells cs elem (0,0))/\jU E l cs/\∀o,o<p->V.ab (E.blk k) o=cs[o]?)/\∀o,p<=o->V.ab (E.blk k) o=none
 |.own sz l elem=>(∃cs,V.own (E.blk k)=some (.cells cs elem (0,0))/\jU E l cs/\cs.size=(E.room k 0).2* sz)/\∀o,V.ab (E.blk k) o=none
 |.tail n sz elem=>E.fu k=n/\((E.room k n).2=n\/∃b cap cs,E.room k n=(some ⟨b,0,none⟩,cap)/\V.own b=some (.cells cs elem (0,0))/\cs.size=cap* sz/\n<cap/\∀o,n* sz<=o->V.ab b o=none)
 |.obj x=>V.own (E.blk k)=some x/\x.us=false/\x.isChan=false/\∀o,V.ab (E.blk k) o=none
 |.iter m since seen td=>m<E.n/\V.own (E.blk k)=some (.mapIter (some (E.blk m)) since seen td)/\∀o,V.ab (E.blk k) o=none
 |.loop r st pend fn T nt ps bJ body df=>(∃tmps,V.own (E.blk k)=some (.loop {state:=st,pending:=pend,fn,tmps,params:=ps,assign:=bJ,body,defers:=E.blk df})/\tmps.size=nt/\b8 E T tmps)/\df<E.n/\(∀o,V.ab (E.blk k) o=none)/\E.blk k=r
 |.gone=>True
 |.main=>E.main=true
structure Conc (E:Env)(V:View)(H:List aa):Prop where
 I:E.I=V.ab
 n:E.n=H.length
 obj:∀k x,H[k]?=some x->fH E V k x
 inj:∀i j x y b,H[i]?=some x->H[j]?=some y->bK E i x=some b->bK E j y=some b->i=j
 group:∀g,V.role.group=some g->V.own g≠none/\(∀o,V.ab g o=none)/\∀(k:Nat) x,H[k]?=some x->bK E k x≠some g
 chan:∀c,V.role.chan=some c->V.own c≠none/\(∀o,V.ab c o=none)/\∀(k:Nat) x,H[k]?=some x->bK E k x≠some c
 top:E.main=true->V.role=.plain/\V.deaf=0
 fr:∀b y,E.fr b=some y->V.own b=some y/\(∀o,V.ab b o=none)/\∀(k:Nat) x,H[k]?=some x->bK E k x≠some b
structure AS where
 T:List (Nat×AV)
 H:List aa
def AS.Le (s s':AS):Prop:=(∀t a,look s'.T t=some a->look s.T t=some a)/\s'.H=s.H
def AV.of:SO->AV
 |.agg cs=> .agg (cs.toList.map λ|.slice none 0 0=> .sl 0 [] .exact|v=> .val v)
 |.slice none 0 0=> .sl 0 [] .exact
 |v=> .val v
def AV.pf:SO->AV
 |.slice none 0 0=> .sl 0 [] .exact
 |v=> .val v
theorem Ih(E:Env)(v:SO):ap E (AV.pf v) v:=by
 unfold AV.pf;split
 ·exact .nil rfl
 ·exact .val _
theorem sh(E:Env)(v:SO):ap E (AV.of v) v:=by
 unfold AV.of;split
 ·rename_i cs;refine .agg (by simp) λi a h=> ?_;rw[To]at h;obtain⟨x,hx,rfl⟩:=Tq.1 h;have:cs[i]?=some x:=by simpa using hx
  rw[SI,this];exact Ih E x
 ·exact .nil rfl
 ·exact .val _
def AS.ev (s:AS):Ti->Option AV
 |.tmp t=>look s.T t
 |.const v=>some (AV.of v)
 |.func f=>some (.fn (.func f) [] [])
 |.global _=>none
theorem ap.ev{E:Env}{s:AS}{a:Act}(k:b8 E s.T a.tmps){x:Ti}{av:AV}(h:s.ev x=some av):ap E av (a.eval x):=by
 cases x with
 |tmp t=>exact(k t av h).2
 |const v=>cases h;exact sh E v
 |func f=>cases h;exact .fn rfl rfl (by simp) (by simp)
 |global g=>cases h
theorem fH.A1{E:Env}{V:View}{k:Nat}{x:aa}(h:fH E V k x){b:Nat}(hb:bK E k x=some b):∃y,V.own b=some y:=by
 cases x with
 |cells l el=>cases hb;obtain⟨⟨cs,h1,_⟩,_⟩:=h;exact⟨_,h1⟩
 |part p l el=>cases hb;obtain⟨⟨cs,h1,_⟩,_⟩:=h;exact⟨_,h1⟩
 |own p l el=>cases hb;obtain⟨⟨cs,h1,_⟩,_⟩:=h;exact⟨_,h1⟩
 |tail n sz el=>
  obtain⟨hv,h|⟨b',cap,cs,h1,h2,h3,h4,h5⟩⟩:=h
  ·simp only[bK,h,if_true]at hb;cases hb
  ·simp only[bK,h1]at hb;rw[if_neg (by omega)]at hb;cases hb;exact⟨_,h2⟩
 |obj x=>cases hb;exact⟨_,h.1⟩
 |iter m since seen td=>cases hb;exact⟨_,h.2.1⟩
 |loop=>cases hb;obtain⟨⟨tmps,h1,_⟩,_⟩:=h;exact⟨_,h1⟩
 |gone=>cases hb
 |main=>cases hb
theorem N9{E E':Env}(hl:E.Le E'){k:Nat}(hk:k<E.n){x:aa}{V:View}(h:fH E V k x):bK E' k x=bK E k x:=by
 cases x with
 |tail n sz el=>simp only[bK];rw[hl.room k n hk (WE h.1.symm)]
 |gone=>rfl
 |main=>rfl
 |_=>simp only[bK,hl.blk k hk]
theorem fH.mono{E E':Env}{V V':View}{k:Nat}{x:aa}(h:fH E V k x)(hl:E.Le E')(hk:k<E.n)(zy:E'.fu k=E.fu k)
  (ho:∀b y,bK E k x=some b->V.own b=some y->V'.own b=some y) (hi:∀b,bK E k x=some b->∀o,V'.ab b o=V.ab b o):fH E' V' k x:=by
 cases x with
 |cells l el=>
  obtain⟨⟨cs,h1,h2⟩,h3⟩:=h;simp only[fH,hl.blk k hk];exact⟨⟨cs,ho _ _ rfl h1,h2.mono hl⟩,λo=>(hi _ rfl o).trans (h3 o)⟩
 |part p l el=>
  obtain⟨⟨cs,h1,h2,h4⟩,h3⟩:=h;simp only[fH,hl.blk k hk];exact⟨⟨cs,ho _ _ rfl h1,h2.mono hl,λo hp=>(hi _ rfl o).trans (h4 o hp)⟩,λo hp=>(hi _ rfl o).trans (h3 o hp)⟩
 |own sz l el=>
  obtain⟨⟨cs,h1,h2,h4⟩,h3⟩:=h;simp only[fH,hl.blk k hk,hl.room k 0 hk (X_ _)];exact⟨⟨cs,ho _ _ rfl h1,h2.mono hl,h4⟩,λo=>(hi _ rfl o).trans (h3 o)⟩
 |tail n sz el=>
  obtain⟨hv,h⟩:=h;simp only[fH,zy,hl.room k n hk (WE hv.symm)];refine⟨hv,?_⟩;rcases h with h|⟨b',cap,cs,h1,h2,h3,h4,h5⟩
  ·exact .inl h
  ·have hb:bK E k (.tail n sz el)=some b':=(by simp only[bK,h1];rw[if_neg (by omega)];rfl);exact .inr ⟨b',cap,cs,h1,ho _ _ hb h2,h3,h4,λo hm=>(hi _ hb o).trans (h5 o hm)⟩
 |obj x=>
  obtain⟨h1,h2,h4,h3⟩:=h;simp only[fH,hl.blk k hk];exact⟨ho _ _ rfl h1,h2,h4,λo=>(hi _ rfl o).trans (h3 o)⟩
 |iter m since seen td=>
  obtain⟨h0,h1,h2⟩:=h;simp only[fH,hl.blk k hk,hl.blk m h0];exact⟨Td h0 hl.n,ho _ _ rfl h1,λo=>(hi _ rfl o).trans (h2 o)⟩
 |loop r st pend fn T nt ps bJ body df=>
  obtain⟨⟨tmps,h1,h2,h3⟩,h4,h5,h6⟩:=h;simp only[fH,hl.blk k hk,hl.blk df h4];exact⟨⟨tmps,ho _ _ rfl h1,h2,h3.mono hl⟩,Td h4 hl.n,λo=>(hi _ rfl o).trans (h5 o),h6⟩
 |gone=>trivial
 |main=>exact hl.main.trans h
theorem Conc.iz{E E':Env}{V V':View}{H H':List aa}(hc:Conc E V H)(k:Nat)(x':aa)(hle:E.Le E')(hI:E'.I=V'.ab)(hn:E'.n=H'.length)
  (hH:∀(j:Nat) y,H'[j]?=some y->(j=k/\y=x')\/(j≠k/\H[j]?=some y)) (hr:V'.role=V.role)
  (zy:∀j,j≠k->j<E.n->E'.fu j=E.fu j)
  (ho:∀b y,(∀x,H[k]?=some x->bK E k x≠some b)->V.own b=some y->V'.own b=some y/\∀o,V'.ab b o=V.ab b o)
  (hx:fH E' V' k x') (hb:∀b,bK E' k x'=some b->(∃x,H[k]?=some x/\bK E k x=some b)\/V.own b=none) (bw:V'.deaf=V.deaf:=by rfl):Conc E' V' H':=by
 have hlt:∀(j:Nat) y,H[j]?=some y->j<E.n:=λj y h=>by rw[hc.n];exact(SM.1 h).1
 have cL:∀(j:Nat) y b,H[j]?=some y->bK E' j y=some b->bK E j y=some b:=λj y b h e=>by rw[<- N9 hle (hlt j y h) (hc.obj j y h)];exact e
 have Rq:∀(j:Nat) y b,j≠k->H[j]?=some y->bK E j y=some b->∀x,H[k]?=some x->bK E k x≠some b:=λj y b hj h1 h2 x h3 h4=>hj (hc.inj j k y x b h1 h3 h2 h4);have hg:∀(j:Nat) y,H'[j]?=some y->∀g,V.own g≠none->(∀(i:Nat) x,H[i]?=some x->bK E i x≠some g)->bK E' j y≠some g:=λj y h g oX fl e=>by
  rcases hH j y h with⟨rfl,rfl⟩|⟨hj,h⟩
  ·rcases hb g e with⟨x,h1,h2⟩|h2
   ·exact fl _ x h1 h2
   ·exact oX h2
  ·exact fl j y h (cL j y g h e)
 have hk:∀g,V.own g≠none->(∀(i:Nat) x,H[i]?=some x->bK E i x≠some g)->V'.own g≠none/\∀o,V'.ab g o=V.ab g o:=λg oX fl=>by
  cases e:V.own g with
  |none=>exact absurd e oX
  |some y=>
   have:=ho g y (λx hx=>fl k x hx) e;exact⟨by rw[this.1];simp,this.2⟩
 refine⟨hI,hn,λj y h=> ?_,λi j y z b h1 h2 e1 e2=> ?_,λg QK=> ?_,λc eS=> ?_,λhm=>(by rw[hr,bw];exact hc.top (by rw[<- hle.main];exact hm)),λb y ju=> ?_⟩
 ·rcases hH j y h with⟨rfl,rfl⟩|⟨hj,h⟩
  ·exact hx
  ·have lC:=hc.obj j y h;refine lC.mono hle (hlt j y h) (zy j hj (hlt j y h)) (λb z ku hz=> ?_) (λb ku o=> ?_)
   ·exact(ho b z (Rq j y b hj h ku) hz).1
   ·obtain⟨z,hz⟩:=lC.A1 ku;exact(ho b z (Rq j y b hj h ku) hz).2 o
 ·have new:∀(j:Nat) y,j≠k->H[j]?=some y->bK E' j y=some b->bK E' k x'≠some b:=λj y hj h e e'=>by
   have e:=cL j y b h e;rcases hb b e' with⟨x,Cm,hx2⟩|h1
   ·exact hj (hc.inj j k y x b h Cm e hx2)
   ·obtain⟨q,hq⟩:=(hc.obj j y h).A1 e;rw[h1]at hq;cases hq
  rcases hH i y h1 with⟨rfl,rfl⟩|⟨hi,h1⟩<;>rcases hH j z h2 with⟨rfl,rfl⟩|⟨hj,h2⟩
  ·rfl
  ·exact absurd e1 (new j z hj h2 e2)
  ·exact absurd e2 (new i y hi h1 e1)
  ·exact hc.inj i j y z b h1 h2 (cL i y b h1 e1) (cL j z b h2 e2)
 ·rw[hr]at QK;obtain⟨h0,h1,h2⟩:=hc.group g QK;exact⟨(hk g h0 h2).1,λo=>((hk g h0 h2).2 o).trans (h1 o),λj y h=>hg j y h g h0 h2⟩
 ·rw[hr]at eS;obtain⟨h0,h1,h2⟩:=hc.chan c eS;exact⟨(hk c h0 h2).1,λo=>((hk c h0 h2).2 o).trans (h1 o),λj y h=>hg j y h c h0 h2⟩
 ·rw[hle.fr]at ju;obtain⟨h0,h1,h2⟩:=hc.fr b y ju;have Es:V.own b≠none:=by rw[h0];simp
  exact⟨(ho b y (λx hx=>h2 k x hx) h0).1,λo=>((hk b Es h2).2 o).trans (h1 o),λj z h=>hg j z h b Es h2⟩
theorem lf{α:Type}{H:List α}{k:Nat}{x':α}:∀(j:Nat) y,(H.set k x')[j]?=some y->(j=k/\y=x')\/(j≠k/\H[j]?=some y):=λj y h=>by
 by_cases hj:j=k
 ·subst hj;rw[List.getElem?_set_self']at h;cases e:H[j]?with
  |none=>rw[e]at h;cases h
  |some z=>rw[e]at h;exact .inl ⟨rfl,by simpa using h.symm⟩
 ·rw[T6 (Ne.symm hj)]at h;exact .inr ⟨hj,h⟩
theorem CC{α:Type}{H:List α}{x':α}:∀(j:Nat) y,(H++[x'])[j]?=some y->(j=H.length/\y=x')\/(j≠H.length/\H[j]?=some y):=λj y h=>by
 by_cases hk:j<H.length
 ·rw[SZ hk]at h;exact .inr ⟨by omega,h⟩
 ·rw[Tj (by omega)]at h;have aI:j-H.length=0:=by
   have:=(SM.1 h).1;simpa using this
  rw[aI]at h;exact .inl ⟨by omega,by simpa using h.symm⟩
theorem Conc.ja{E:Env}{V:View}{H:List aa}(hc:Conc E V H){k:Nat}{x:aa}(hk:H[k]?=some x){b:Nat}(hb:bK E k x=some b):V.role.group≠some b/\V.role.chan≠some b:=
 ⟨λe=>(hc.group b e).2.2 k x hk hb,λe=>(hc.chan b e).2.2 k x hk hb⟩
theorem Conc.Sc{E:Env}{V:View}{H:List aa}(hc:Conc E V H){b o:Nat}{v:SO}(h:E.I b o=some v):V.role.group≠some b/\V.role.chan≠some b:=
 ⟨λe=>(by have:=(hc.group b e).2.1 o;rw[<- hc.I,h]at this;cases this),λe=>(by have:=(hc.chan b e).2.1 o;rw[<- hc.I,h]at this;cases this)⟩
open Go.Conc
def AS.put (s:AS)(dst:Option Nat)(av:AV):AS:=match dst with
 |some d=>⟨(d,av)::s.T,s.H⟩
 |none=>s
theorem b8.gN{E:Env}{s:AS}{a:Act}(k:b8 E s.T a.tmps){dst:Option Nat}(hd:∀d,dst=some d->d<a.tmps.size){av:AV}{v:SO}(hv:ap E av v):b8 E (s.put dst av).T (a.put dst v).tmps:=by
 cases dst with
 |none=>exact k
 |some d=>exact b8.put k (hd d rfl) hv
theorem fe(s:AS)(dst:Option Nat)(av:AV):(s.put dst av).H=s.H:=by cases dst<;>rfl
theorem dX(a:Act)(dst:Option Nat)(v:SO):(a.put dst v).tmps.size=a.tmps.size:=by cases dst<;>simp[X0]
theorem put_defers(a:Act)(dst:Option Nat)(v:SO):(a.put dst v).defers=a.defers:=by cases dst<;>rfl
structure Kept (E E':Env)(V V':View)(a a':Act):Prop where
 le:E.Le E'
 size:a'.tmps.size=a.tmps.size
 defers:a'.defers=a.defers
 role:V'.role=V.role
 deaf:V'.deaf=V.deaf
def Step (lv:Bool)(P:SJ)(r:Option Nat)(o:Tv)(s:AS)(next:AS->Prop)(bad:AV->AS->Prop):Prop:=
 ∀(E:Env)(V:View)(a:Act)(N:Act->View->Prop)(Q:Ex->Act->View->Prop),Conc E V s.H->b8 E s.T a.tmps->(∀d,o.dst=some d->d<a.tmps.size)->(r=none\/l_ o.op=false)->
  (∀E' V' a' s',Kept E E' V V' a a'->Conc E' V' s'.H->b8 E' s'.T a'.tmps->next s'->N a' V')->
  (∀E' V' s' pv v,Kept E E' V V' a a->Conc E' V' s'.H->b8 E' s'.T a.tmps->ap E' pv v->bad pv s'->Q (.panic [{v,recovered:=false}]) a V')->wC lv P r o a V N Q
def dz (lv:Bool)(P:SJ)(r:Option Nat)(o:Tv)(s:AS)(av:AV):Prop:=
 ∀(E:Env)(V:View)(a:Act)(N:Act->View->Prop)(Q:Ex->Act->View->Prop),Conc E V s.H->b8 E s.T a.tmps->(r=none\/l_ o.op=false)->
  (∀E' V' v,E.Le E'->V'.role=V.role->V'.deaf=V.deaf->Conc E' V' s.H->ap E' av v->N (a.put o.dst v) V')->wC lv P r o a V N Q
section
variable {lv:Bool}{P:SJ}{r:Option Nat}{o:Tv}{s:AS}{next:AS->Prop}{bad:AV->AS->Prop}
theorem Step.mono{next':AS->Prop}{N3:AV->AS->Prop}(h:Step lv P r o s next bad)(hn:∀s,next s->next' s)(hb:∀c s,bad c s->N3 c s):Step lv P r o s next' N3:=
 λE V a N Q h1 h2 h3 h4 h5 h6=>h E V a N Q h1 h2 h3 h4 (λE' V' a' s' x1 x2 x3 x4=>h5 E' V' a' s' x1 x2 x3 (hn _ x4)) (λE' V' s' pv v x1 x2 x3 x4 x5=>h6 E' V' s' pv v x1 x2 x3 x4 (hb _ _ x5))
theorem iM{av:AV}(h:∀(E:Env)(V:View)(a:Act),Conc E V s.H->b8 E s.T a.tmps->aN P V (execOp a.eval o) (λnx V'=>V'=V/\∃v,nx=.value v/\ap E av v) (λ_ _=>False)):dz lv P r o s av:=by
 intro E V a N Q hc ht bw h1;refine⟨bw,(h E V a hc ht).mono (λnx V' hx=> ?_) (λ_ _ hx=>hx.elim)⟩;obtain⟨rfl,v,rfl,hv⟩:=hx;exact h1 E V' v (Env.Le.refl E) rfl rfl hc hv
theorem rC{av:AV}(h:∀(E:Env)(V:View)(a:Act),Conc E V s.H->b8 E s.T a.tmps->∃v,execOp a.eval o=.pure (.value v)/\ap E av v):dz lv P r o s av:=
 iM (λE V a hc ht=>by
  obtain⟨v,h1,h2⟩:=h E V a hc ht;rw[h1];exact cF ⟨rfl,v,rfl,h2⟩)
theorem dz.step{av:AV}(h:dz lv P r o s av)(hn:next (s.put o.dst av)):Step lv P r o s next bad:=by
 intro E V a N Q hc ht hd bw h1 _;refine h E V a N Q hc ht bw λE' V' v hle bX eT bh hv=> ?_;exact h1 E' V' (a.put o.dst v) (s.put o.dst av) ⟨hle,dX _ _ _,put_defers _ _ _,bX,eT⟩ (by rw[fe];exact bh) ((ht.mono hle).gN hd hv) hn
theorem abp{x:Ti}{av:AV}(ho:o.op=.move x\/o.op=.assign x)(hx:s.ev x=some av):dz lv P r o s (av):=
 rC (λE V a hc ht=>⟨a.eval x,by unfold execOp;rcases ho with ho|ho<;>rw[ho]<;>rfl,ap.ev ht hx⟩)
theorem aor{c x y:Ti}{b:Bool}{av aw:AV}(ho:o.op=.pick c x y)(hc:s.ev c=some (.val (.bool b)))(hx:s.ev x=some av)(hy:s.ev y=some aw):dz lv P r o s ((if b then av else aw)):=
 rC (λE V a iV ht=>by
  have h1:=ap.ev ht hc;generalize hv:a.eval c=v at h1;cases h1;refine⟨if b then a.eval x else a.eval y,by unfold execOp;rw[ho];simp only[hv];cases b<;>rfl,?_⟩;cases b
  ·exact ap.ev ht hy
  ·exact ap.ev ht hx)
def lV (op:VW)(k:TU)(x y:Int):Option SO:=match op with
 |.add=>some (.int k (k.wrap (x+y)))
 |.sub=>some (.int k (k.wrap (x-y)))
 |.mul=>some (.int k (k.wrap (x* y)))
 |.eql=>some (.bool (x==y))
 |.neq=>some (.bool (x !=y))
 |.lss=>some (.bool (x<y))
 |.leq=>some (.bool (x<=y))
 |.gtr=>some (.bool (x>y))
 |.geq=>some (.bool (x>=y))
 |.and=>some (.int k (k.wrap (Ug k.bits x&&&Ug k.bits y).toNat))
 |.or=>some (.int k (k.wrap (Ug k.bits x|||Ug k.bits y).toNat))
 |.xor=>some (.int k (k.wrap (Ug k.bits x^^^Ug k.bits y).toNat))
 |.quo=>if y=0 then none else some (.int k (k.wrap (x.tdiv y)))
 |.rem=>if y=0 then none else some (.int k (x.tmod y))
 |_=>none
def Ab (op:VW)(k:TU)(x y:Int):Option SO:=if y<0 then none else match op with
 |.shl=>some (.int k (k.wrap (x* 2^(min y.toNat k.bits))))
 |.shr=>some (.int k (x.fdiv (2^(min y.toNat k.bits))))
 |_=>none
def mJ:VW->Bool
 |.shl|.shr=>true
 |_=>false
theorem afh{op:VW}{k:TU}{x y:Int}{v:SO}{t:TypeId}(h:lV op k x y=some v):binOp op t (.int k x) (.int k y)=.pure v:=by
 cases op<;>simp only[lV,Tl,reduceCtorEq]at h<;>try(subst h;simp[binOp,atl,Op.intCmp,Op.intBits];rfl)
 ·split at h
  ·cases h
  ·rename_i hy;simp only[Tl]at h;subst h;simp[binOp,ao',hy];rfl
 ·split at h
  ·cases h
  ·rename_i hy;simp only[Tl]at h;subst h;simp[binOp,ao',hy];rfl
theorem apD{op:VW}{k j:TU}{x y:Int}{v:SO}{t:TypeId}(h:Ab op k x y=some v):binOp op t (.int k x) (.int j y)=.pure v:=by
 unfold Ab at h;split at h
 ·cases h
 ·rename_i hy;cases op<;>simp only[Tl,reduceCtorEq]at h
  ·subst h;simp[binOp,asI,hy];rfl
  ·subst h;simp[binOp,asI,hy];rfl
theorem O1{op:VW}{t:TypeId}{x y:Ti}{j k:TU}{a b:Int}:eqGuard op t x y (.int j a) (.int k b)=.pure ():=by
 unfold eqGuard;cases op<;>rfl
theorem an1{op:VW}{xt yt:TypeId}{x y:Ti}{k:TU}{m n:Int}{v:SO}(ho:o.op=.binOp op xt x y yt)(hx:s.ev x=some (.val (.int k m)))(hy:s.ev y=some (.val (.int k n)))(hv:lV op k m n=some v):dz lv P r o s ((.val v)):=
 rC (λE V a iV ht=>by
  have h1:=ap.ev ht hx;have h2:=ap.ev ht hy;generalize o1:a.eval x=v1 at h1;generalize sQ:a.eval y=v2 at h2;cases h1;cases h2;refine⟨v,?_,.val v⟩;unfold execOp;rw[ho];simp only[o1,sQ,O1,afh hv];rfl)
theorem aos{op:VW}{xt yt:TypeId}{x y:Ti}{k j:TU}{m n:Int}{v:SO}(ho:o.op=.binOp op xt x y yt)(hx:s.ev x=some (.val (.int k m)))(hy:s.ev y=some (.val (.int j n)))(hv:Ab op k m n=some v):dz lv P r o s ((.val v)):=
 rC (λE V a iV ht=>by
  have h1:=ap.ev ht hx;have h2:=ap.ev ht hy;generalize o1:a.eval x=v1 at h1;generalize sQ:a.eval y=v2 at h2;cases h1;cases h2;refine⟨v,?_,.val v⟩;unfold execOp;rw[ho];simp only[o1,sQ,O1,apD hv];rfl)
theorem aoq{t:TypeId}{x:Ti}{b:Bool}(ho:o.op=.unOp .not t x)(hx:s.ev x=some (.val (.bool b))):dz lv P r o s ((.val (.bool !b))):=
 rC (λE V a iV ht=>by
  have h1:=ap.ev ht hx;generalize o1:a.eval x=v1 at h1;cases h1;exact⟨_,by unfold execOp;rw[ho];simp only[o1];rfl,.val _⟩)
theorem aon{t:TypeId}{x:Ti}{k:TU}{n:Int}(ho:o.op=.unOp .neg t x)(hx:s.ev x=some (.val (.int k n))):dz lv P r o s (.val (.int k (k.wrap (0-n)))):=
 rC (λE V a iV ht=>by
  have h1:=ap.ev ht hx;generalize o1:a.eval x=v1 at h1;cases h1;exact⟨_,by unfold execOp;rw[ho];simp only[o1];rfl,.val _⟩)
theorem an7{x:Ti}{i:Nat}{l:List AV}{av:AV}(ho:o.op=.extract x i)(hx:s.ev x=some (.aK l))(hi:l[i]?=some av):dz lv P r o s (av):=
 rC (λE V a iV ht=>by
  have h1:=ap.ev ht hx;generalize o1:a.eval x=v1 at h1;cases h1 with
  |aK hs h=>
   rename_i cs;have hlt:i<cs.size:=(by rw[hs];exact(SM.1 hi).1);refine⟨cs[i],?_,?_⟩
   ·unfold execOp;rw[ho];simp only[o1,Instr.extract,SK hlt];rfl
   ·have:=h i av hi;rwa [SI,SK hlt]at this)
end
theorem add_plain(b o n:Nat):(⟨b,o,none⟩:U1).add n=⟨b,o+n,none⟩:=by
 unfold atf;split
 ·rename_i h;subst h;rfl
 ·rfl
def AS.at (s:AS):AV->Option (List AV)
 |.rp l=>some l
 |.op id off=>match s.H[id]?with
  |some (.cells l _)=>some (l.drop off)
  |some (.part _ l _)=>some (l.drop off)
  |some (.own _ l _)=>some (l.drop off)
  |_=>none
 |_=>none
def AV.shift (n:Nat):AV->Option AV
 |.rp l=>if n<=l.length then some (.rp (l.drop n))else none
 |.op id off=>some (.op id (off+n))
 |_=>none
theorem Conc.at{E:Env}{V:View}{s:AS}(hc:Conc E V s.H){p:AV}{v:SO}(hd:ap E p v){l:List AV}(h:s.at p=some l):
  ∃(b o:Nat)(f:Nat->SO),v=.pointer (some ⟨b,o,none⟩)/\(∀i,i<l.length->V.get b (o+i)=some (f i))/\(0<l.length->V.role.group≠some b)/\∀(i:Nat) x,l[i]?=some x->ap E x (f i):=by
 cases hd with
 |rp b o f h1 h2=>
  cases h;exact⟨b,o,f,rfl,λi hi=>by unfold View.get;rw[<- hc.I,h1 i hi],λhp=>(hc.Sc (h1 0 hp)).1,h2⟩
 |op hi=>
  rename_i id off;simp only[AS.at]at h;cases hk:s.H[id]?with
  |none=>rw[hk]at h;cases h
  |some ob=>
   rw[hk]at h;cases ob with
   |cells l' el=>
    cases h;obtain⟨⟨cs,ho,hs,bi⟩,lA⟩:=hc.obj id _ hk;refine⟨E.blk id,off,λi=>cs.getD (off+i) undef,rfl,λi hi=> ?_,λ_=>(hc.ja hk rfl).1,λi x hx=> ?_⟩
    ·unfold View.get;rw[lA,ho];simp only[Uj]at hi;have hlt:off+i<cs.size:=(by omega);simp only[SI,SK hlt,S9]
    ·rw[Uo]at hx;exact bi _ _ hx
   |part p l' el=>
    cases h;obtain⟨⟨cs,ho,⟨hs,bi⟩,ny⟩,lA⟩:=hc.obj id _ hk;refine⟨E.blk id,off,λi=>cs.getD (off+i) undef,rfl,λi hi=> ?_,λ_=>(hc.ja hk rfl).1,λi x hx=> ?_⟩
    ·simp only[Uj]at hi;have hlt:off+i<cs.size:=(by omega);unfold View.get;by_cases hp:off+i<p
     ·rw[ny _ hp];simp only[SI,SK hlt,S9]
     ·rw[lA _ (by omega),ho];simp only[SI,SK hlt,S9]
    ·rw[Uo]at hx;exact bi _ _ hx
   |own sz l' el=>
    cases h;obtain⟨⟨cs,ho,⟨hs,bi⟩,_⟩,lA⟩:=hc.obj id _ hk;refine⟨E.blk id,off,λi=>cs.getD (off+i) undef,rfl,λi hi=> ?_,λ_=>(hc.ja hk rfl).1,λi x hx=> ?_⟩
    ·simp only[Uj]at hi;have hlt:off+i<cs.size:=(by omega);unfold View.get;rw[lA,ho];simp only[SI,SK hlt,S9]
    ·rw[Uo]at hx;exact bi _ _ hx
   |_=>cases h
 |_=>cases h
theorem ap.shift{E:Env}{p q:AV}{v:SO}(hd:ap E p v){n:Nat}(h:p.shift n=some q):∃b o,v=.pointer (some ⟨b,o,none⟩)/\ap E q (.pointer (some ⟨b,o+n,none⟩)):=by
 cases hd with
 |rp b o f h1 h2=>
  simp only[AV.shift]at h;split at h
  ·rename_i hn;cases h;refine⟨b,o,rfl,.rp b (o+n) (λi=>f (n+i)) (λi hi=> ?_) (λi x hx=> ?_)⟩
   ·simp only[Uj]at hi;rw[XC];exact h1 _ (by omega)
   ·rw[Uo]at hx;exact h2 _ _ hx
  ·cases h
 |op hi=>cases h;exact⟨_,_,rfl,.op hi⟩
 |_=>cases h
section
variable {P:SJ}{V:View}{α:Type}{K:α->View->Prop}{Kp:SO->View->Prop}
theorem ec{t:TypeId}{d:TypeDesc}{k:TypeDesc->Sem α}(h:P.underlying t=some d)(hk:aN P V (k d) K Kp):aN P V (underlying t>>=k) K Kp:=by
 unfold underlying;refine az (az (qh (cF ?_)));rw[h];exact aq hk
theorem x9{t:TypeId}{i:We}{k:We->Sem α}(h:P.info? t=some i)(hk:aN P V (k i) K Kp):aN P V (typeInfo t>>=k) K Kp:=by
 unfold typeInfo;refine az (az (qh (cF ?_)));rw[h];exact aq hk
theorem jS{t:TypeId}{i:We}{k:Nat->Sem α}(h:P.info? t=some i)(hk:aN P V (k i.size) K Kp):aN P V (sizeOf t>>=k) K Kp:=by
 refine az ?_;unfold sizeOf;exact x9 h (aq hk)
def TypeDesc.agg:TypeDesc->Bool
 |.struct _|.array _ _=>true
 |_=>false
theorem C0{t:TypeId}{d:TypeDesc}{k:Bool->Sem α}(h:P.underlying t=some d)(hk:aN P V (k (TypeDesc.agg d)) K Kp):aN P V (isAgg t>>=k) K Kp:=by
 refine az ?_;unfold isAgg;refine ec h ?_;cases d<;>exact aq hk
theorem aps{b o:Nat}{v:SO}{k:SO->Sem α}(hg:V.role.group≠some b)(e:V.get b o=some v)(hk:aN P V (k v) K Kp):aN P V (load ⟨b,o,none⟩>>=k) K Kp:=
 az (MD e (.inl hg) (cF hk))
theorem abN{b o:Nat}{f:Nat->SO}{K:Array SO->View->Prop}:∀(n i:Nat)(acc:Array SO),(0<n->V.role.group≠some b)->(∀j,j<n->V.get b (o+(i+j))=some (f (i+j)))->
  K (acc++((S0 n).map λj=>f (i+j)).toArray) V->aN P V (loadCellsFrom ⟨b,o,none⟩ i n acc) K Kp
 |0,i,acc,_,_,h=>aq (by simpa using h)
 |n+1,i,acc,hg,he,h=>by
  have h0:=he 0 (by omega);unfold loadCellsFrom;rw[add_plain];refine aps (hg (by omega)) h0 ?_;refine abN n (i+1) _ (λ_=>hg (by omega)) (λj hj=>by have:=he (j+1) (by omega);rwa [show i+(j+1)=i+1+j by omega]at this) ?_;have e:(acc.push (f (i+0))++((S0 n).map λj=>f (i+1+j)).toArray)=acc++((S0 (n+1)).map λj=>f (i+j)).toArray:=by
   rw[List.range_succ_eq_map];apply Vz;simp[Yw,XC,ZZ 1]
  rw[e];exact h
theorem z9{b o n:Nat}{f:Nat->SO}(hg:0<n->V.role.group≠some b){K:Array SO->View->Prop}(he:∀j,j<n->V.get b (o+j)=some (f j))(h:K ((S0 n).map f).toArray V):aN P V (loadCells ⟨b,o,none⟩ n) K Kp:=
 abN n 0 #[] hg (λj hj=>by simpa using he j hj) (by simpa using h)
end
theorem kM{α β:Type}{x:Option α}{f:α->β}{y:β}(h:x.map f=some y):∃a,x=some a/\f a=y:=Tq.1 h
def Ty (P:SJ)(t:TypeId):Option (Nat×Bool):=(P.info? t).bind λi=>(P.underlying t).map λd=>(i.size,TypeDesc.agg d)
theorem Ty.out{P:SJ}{t:TypeId}{n:Nat}{g:Bool}(h:Ty P t=some (n,g)):∃i d,P.info? t=some i/\P.underlying t=some d/\i.size=n/\TypeDesc.agg d=g:=by
 unfold Ty at h;obtain⟨i,h1,h2⟩:=Tf.1 h;obtain⟨d,h3,h4⟩:=kM h2;cases h4;exact⟨i,d,h1,h3,rfl,rfl⟩
theorem Ij{E:Env}{l:List AV}{f:Nat->SO}{n:Nat}(hn:n<=l.length)(h:∀(i:Nat) x,l[i]?=some x->ap E x (f i)):ap E (.agg (l.take n)) (.agg ((S0 n).map f).toArray):=by
 refine .agg (by simp;omega) λi x hx=> ?_;rw[Uc]at hx;split at hx
 ·rename_i hi;have:=h i x hx;simpa[SI,hi]using this
 ·cases hx
def AV.row:AV->Option (Nat×AV)
 |.sl n l _=>some (n,.rp l)
 |.bE id off n _=>some (n,.op id off)
 |_=>none
theorem ap.row{E:Env}{a p:AV}{v:SO}{n:Nat}(hd:ap E a v)(h:a.row=some (n,p))(h0:0<n):∃b o cap,v=.slice (some ⟨b,o,none⟩) n cap/\ap E p (.pointer (some ⟨b,o,none⟩)):=by
 cases hd with
 |sl b o cap f hc he h1 h2=>cases h;exact⟨b,o,cap,rfl,.rp b o f h1 h2⟩
 |nil he=>cases h;exact absurd h0 (by simp)
 |bE hi=>cases h;exact⟨_,_,_,rfl,.op hi⟩
 |_=>cases h
def AV.len:AV->Option Nat
 |.sl n _ _=>some n
 |.bE _ _ n _=>some n
 |_=>none
theorem ap.len{E:Env}{a:AV}{v:SO}{n:Nat}(hd:ap E a v)(h:a.len=some n):∃ad cap,v=.slice ad n cap:=by
 cases hd with
 |sl b o cap f hc he h1 h2=>cases h;exact⟨_,_,rfl⟩
 |nil he=>cases h;exact⟨_,_,rfl⟩
 |bE hi=>cases h;exact⟨_,_,rfl⟩
 |_=>cases h
def eX (P:SJ)(t:TypeId)(k:Nat):Option Nat:=match P.underlying t with
 |some (.struct fs)=>match fs[k]?with
  |some f=>match P.info? f.type with
   |some i=>if i.size=0 then none else some f.offset
   |none=>none
  |none=>none
 |_=>none
def nL (P:SJ)(t:TypeId):Option (Option Nat×Nat):=match P.underlying t with
 |some (.array n e)=>(P.info? e).map λi=>(some n,i.size)
 |some (.slice e)=>(P.info? e).map λi=>(none,i.size)
 |_=>none
inductive yl where
 |slice|map|str|arr (n:Nat)
def ln (P:SJ)(t:TypeId):Option yl:=match P.underlying t with
 |some (.slice _)=>some .slice
 |some (.map _ _)=>some .map
 |some .string=>some .str
 |some (.array n _)=>some (.arr n)
 |_=>none
def HC (P:SJ)(t:TypeId)(k:Nat):Option (Nat×Nat×Bool):=match P.underlying t with
 |some (.struct fs)=>match fs[k]?with
  |some f=>(Ty P f.type).map λx=>(f.offset,x.1,x.2)
  |none=>none
 |_=>none
def Hv (P:SJ)(t:TypeId):Option (Nat×Nat×Bool):=match P.underlying t with
 |some (.array n e)=>(Ty P e).map λx=>(n,x.1,x.2)
 |_=>none
section
variable {lv:Bool}{P:SJ}{r:Option Nat}{o:Tv}{s:AS}{next:AS->Prop}{bad:AV->AS->Prop}
theorem aog{t:TypeId}{x:Ti}{p:AV}{l:List AV}{n:Nat}(ho:o.op=.load t x)(ht:Ty P t=some (n,true))(hx:s.ev x=some p)(hl:s.at p=some l)(hlen:n<=l.length):dz lv P r o s ((.agg (l.take n))):=
 iM (λE V a hc aF=>by
  obtain⟨i,d,h1,h2,rfl,h4⟩:=Ty.out ht;obtain⟨b,off,f,hv,hg,j5,hd⟩:=hc.at (ap.ev aF hx) hl;unfold execOp;rw[ho];simp only[hv];refine az ?_;unfold Xy U9;refine az (aq ?_);unfold loadVar;refine C0 h2 ?_;rw[h4];simp only[if_true];refine jS h1 ?_;refine az (z9 (f:=f) (λh=>j5 (by omega)) (λj hj=>hg j (by omega)) ?_);exact aq (aq ⟨rfl,_,rfl,Ij hlen hd⟩))
theorem aoh{t:TypeId}{x:Ti}{p:AV}{l:List AV}{n:Nat}{av:AV}(ho:o.op=.load t x)(ht:Ty P t=some (n,false))(hx:s.ev x=some p)(hl:s.at p=some l)(h0:l[0]?=some av):dz lv P r o s (av):=
 iM (λE V a hc aF=>by
  obtain⟨i,d,h1,h2,rfl,h4⟩:=Ty.out ht;obtain⟨b,off,f,hv,hg,j5,hd⟩:=hc.at (ap.ev aF hx) hl;unfold execOp;rw[ho];simp only[hv];refine az ?_;unfold Xy U9;refine az (aq ?_);unfold loadVar;refine C0 h2 ?_;rw[h4];simp only[TO,if_false];have hlen:0<l.length:=(SM.1 h0).1;have oc:=hg 0 hlen;rw[UH]at oc;exact MD oc (.inl (j5 hlen)) (cF (aq ⟨rfl,_,rfl,hd 0 av h0⟩)))
def AV.sure:AV->Bool
 |.rp _|.op _ _=>true
 |.fn (.func _) _ _=>true
 |.fn (.yield _) _ _=>true
 |.cX _ _=>true
 |_=>false
theorem aoo{x:Ti}{p:AV}(ho:o.op=.nilCheck x)(hx:s.ev x=some p)(hp:p.sure=true):dz lv P r o s (p):=
 rC (λE V a hc aF=>by
  have hd:=ap.ev aF hx;refine⟨a.eval x,?_,hd⟩;unfold execOp;rw[ho];dsimp only;generalize a.eval x=v at hd⊢;cases hd with
  |rp=>rfl
  |op=>rfl
  |cX=>rfl
  |fn dF fP h1 h2=>
   rename_i f _ _ _ _;cases f with
   |func=>rfl
   |yield=>rfl
   |_=>cases hp
  |_=>cases hp)
theorem an8{t:TypeId}{x:Ti}{k n:Nat}{p q:AV}(ho:o.op=.fieldAddr t x k)(ht:eX P t k=some n)(hx:s.ev x=some p)(hp:p.shift n=some q):dz lv P r o s (q):=
 iM (λE V a hc aF=>by
  obtain⟨b,off,hv,hq⟩:=(ap.ev aF hx).shift hp;unfold eX at ht;split at ht
  ·rename_i fs hu;split at ht
   ·rename_i f hf;split at ht
    ·rename_i i hi;split at ht
     ·cases ht
     ·rename_i hz;cases ht;unfold execOp;rw[ho];simp only[hv];refine az ?_;unfold Instr.fieldAt;refine ec hu ?_;simp only[hf];unfold U9;refine az (aq ?_);unfold fieldPlace;refine az (jS hi ?_);rw[if_neg hz];refine aq (aq (aq ⟨rfl,_,rfl,?_⟩));rw[add_plain];exact hq
    ·cases ht
   ·cases ht
  ·cases ht)
theorem aoa{t:TypeId}{x ix:Ti}{a p q:AV}{k:TU}{i:Int}{n sz:Nat}(ho:o.op=.indexAddr t x ix)(ht:nL P t=some (none,sz))(hx:s.ev x=some a)(ha:a.row=some (n,p))(hi:s.ev ix=some (.val (.int k i)))(h0:0<=i)(h1:i<n)
  (hp:p.shift (i.toNat* sz)=some q):dz lv P r o s (q):=
 iM (λE V ac hc aF=>by
  obtain⟨b,off,cap,hv,zl⟩:=(ap.ev aF hx).row ha (by omega);obtain⟨b',o',hb,hq⟩:=zl.shift hp;cases hb;have hd:=ap.ev aF hi;generalize qa:ac.eval ix=vi at hd;cases hd;unfold nL at ht;split at ht
  ·obtain⟨_,_,h⟩:=kM ht;cases h
  ·rename_i e hu;obtain⟨inf,J6,h⟩:=kM ht;cases h;unfold execOp;rw[ho];simp only[hv,qa];refine az ?_;unfold ZH asIntOf;refine az (aq ?_);dsimp only;refine ec hu ?_;refine az (aq ?_);dsimp only;refine ec hu ?_;dsimp only;rw[if_pos ⟨h0,h1⟩];refine jS J6 ?_;refine aq (aq ⟨rfl,_,rfl,?_⟩);rw[add_plain];exact hq
  ·cases ht)
theorem aob{t:TypeId}{x ix:Ti}{p q:AV}{k:TU}{i:Int}{n sz:Nat}(ho:o.op=.indexAddr t x ix)(ht:nL P t=some (some n,sz))(hx:s.ev x=some p)(hi:s.ev ix=some (.val (.int k i)))(h0:0<=i)(h1:i<n)
  (hp:p.shift (i.toNat* sz)=some q):dz lv P r o s (q):=
 iM (λE V ac hc aF=>by
  obtain⟨b,off,hv,hq⟩:=(ap.ev aF hx).shift hp;have hd:=ap.ev aF hi;generalize qa:ac.eval ix=vi at hd;cases hd;unfold nL at ht;split at ht
  ·rename_i m e hu;obtain⟨inf,J6,h⟩:=kM ht;cases h;unfold execOp;rw[ho];simp only[hv,qa];refine az ?_;unfold ZH asIntOf;refine az (aq ?_);dsimp only;refine ec hu ?_;dsimp only;unfold U9;refine az (az (aq (aq ?_)));refine ec hu ?_;dsimp only;rw[if_pos ⟨h0,h1⟩];refine jS J6 ?_;refine aq (aq ⟨rfl,_,rfl,?_⟩);rw[add_plain];exact hq
  ·obtain⟨_,_,h⟩:=kM ht;cases h
  ·cases ht)
theorem abo{c:Xn}{x:Ti}{t:TypeId}{a:AV}{n:Nat}(ho:o.op=.call c)(aX:c.callee=.builtin .len)(sR:c.args[0]?=some x)(Ch:c.argTypes[0]?=some t)(ht:ln P t=some .slice)(hx:s.ev x=some a)(ha:a.len=some n):dz lv P r o s (.val (.int .i64 n)):=
 iM (λE V ac hc aF=>by
  obtain⟨ad,cap,hv⟩:=(ap.ev aF hx).len ha;unfold ln at ht;split at ht<;>cases ht;rename_i e hu;unfold execOp;rw[ho];dsimp only;unfold resolve;rw[aX];dsimp only;refine az (aq ?_);unfold invoke builtin;dsimp only;refine az ?_;unfold Yk;have e1:(c.args.map ac.eval)[0]?=some (.slice ad n cap):=by simp[sR,hv]
  simp only[Ch,e1];refine ec hu ?_;exact aq (aq ⟨rfl,_,rfl,.val _⟩))
theorem aof{c:Xn}{x:Ti}{t:TypeId}{b:ByteArray}(ho:o.op=.call c)(aX:c.callee=.builtin .len)(sR:c.args[0]?=some x)(Ch:c.argTypes[0]?=some t)(ht:ln P t=some .str)(hx:s.ev x=some (.val (.string b))):dz lv P r o s (.val (.int .i64 b.size)):=
 iM (λE V ac hc aF=>by
  have hd:=ap.ev aF hx;generalize hv:ac.eval x=v at hd;cases hd;unfold ln at ht;split at ht<;>cases ht;rename_i hu;unfold execOp;rw[ho];dsimp only;unfold resolve;rw[aX];dsimp only;refine az (aq ?_);unfold invoke builtin;dsimp only;refine az ?_;unfold Yk;have e1:(c.args.map ac.eval)[0]?=some (.string b):=by simp[sR,hv]
  simp only[Ch,e1];refine ec hu ?_;exact aq (aq ⟨rfl,_,rfl,.val _⟩))
theorem aoe{c:Xn}{x:Ti}{t:TypeId}{id:Nat}{es:Array Wh}{ck:Nat}(ho:o.op=.call c)(aX:c.callee=.builtin .len)(sR:c.args[0]?=some x)(Ch:c.argTypes[0]?=some t)(ht:ln P t=some .map)(hx:s.ev x=some (.mp id))(hk:s.H[id]?=some (.obj (.map es ck))):dz lv P r o s (.val (.int .i64 es.size)):=
 iM (λE V ac hc aF=>by
  have hd:=ap.ev aF hx;generalize hv:ac.eval x=v at hd;cases hd;obtain⟨h1,h2,h3,h4⟩:=hc.obj id _ hk;unfold ln at ht;split at ht<;>cases ht;rename_i hu;unfold execOp;rw[ho];dsimp only;unfold resolve;rw[aX];dsimp only;refine az (aq ?_);unfold invoke builtin;dsimp only;refine az ?_;unfold Yk;have e1:(c.args.map ac.eval)[0]?=some (.map (some (E.blk id))):=by simp[sR,hv]
  simp only[Ch,e1];refine ec hu ?_;refine az (nJ h1 h2 h3 (hc.ja hk rfl).2 (cF ?_));exact aq (aq ⟨rfl,_,rfl,.val _⟩))
theorem abP{t:TypeId}{n off:Nat}{g:Bool}{E:Env}{V:View}{l:List AV}{cs:Array SO}{K:SO->View->Prop}{Kp:SO->View->Prop}(ht:Ty P t=some (n,g))(hd:cG E l cs)(hl:off+n<=l.length)(hn:g=false->0<n)
  (h:∀v,(g=true->ap E (.agg ((l.drop off).take n)) v)->(g=false->∀a,l[off]?=some a->ap E a v)->K v V):aN P V (part t cs off) K Kp:=by
 obtain⟨i,d,h1,h2,rfl,h4⟩:=Ty.out ht;unfold part;refine C0 h2 ?_;rw[h4];cases g with
 |true=>
  simp only[if_true];refine jS h1 (aq (h _ (λ_=> .agg (by have:=hd.1;simp;omega) λj a e=> ?_) (by simp)));rw[Uc]at e;split at e
  ·rename_i hj;rw[Uo]at e;have:=hd.2 _ _ e;have hlt:off+j<cs.size:=(by rw[hd.1];omega);have aj0:j<(cs.extract off (off+i.size)).size:=(by have:=hd.1;simp;omega);rw[SI,SK aj0];rw[SI,SK hlt]at this;simpa using this
  ·cases e
 |false=>
  simp only[TO,if_false];have hlt:off<cs.size:=by have:=hn rfl;rw[hd.1];omega
  rw[SK hlt];refine aq (h _ (by simp) λ_ a e=> ?_);have:=hd.2 _ _ e;rwa [SI,SK hlt]at this
def AV.cut (l:List AV)(off n:Nat)(g:Bool):Option AV:=if off+n<=l.length/\(g=false->0<n)then(if g then some (.agg ((l.drop off).take n))else l[off]?)else none
theorem an9{t:TypeId}{x:Ti}{k off n:Nat}{g:Bool}{l:List AV}{av:AV}(ho:o.op=.field t x k)(ht:HC P t k=some (off,n,g))(hx:s.ev x=some (.agg l))(hv:AV.cut l off n g=some av):dz lv P r o s av:=
 iM (λE V a hc aF=>by
  have hd:=ap.ev aF hx;generalize he:a.eval x=v at hd;cases hd with
  |agg hs h=>
   unfold HC at ht;split at ht
   ·rename_i fs hu;split at ht
    ·rename_i f hf;obtain⟨⟨n',g'⟩,h1,h2⟩:=kM ht;cases h2;unfold AV.cut at hv;split at hv
     ·rename_i xj;unfold execOp;rw[ho];simp only[he];refine az ?_;unfold Instr.field;refine ec hu ?_;simp only[hf];unfold asAgg;refine az (aq ?_);refine abP h1 ⟨hs,h⟩ xj.1 xj.2 λv h3 h4=>aq ⟨rfl,v,rfl,?_⟩;cases g' with
      |true=>simp only[if_true,Tl]at hv;subst hv;exact h3 rfl
      |false=>simp only[TO,if_false]at hv;exact h4 rfl _ hv
     ·cases hv
    ·cases ht
   ·cases ht)
theorem aod{t:TypeId}{x ix:Ti}{n sz:Nat}{g:Bool}{l:List AV}{av:AV}{k:TU}{i:Int}(ho:o.op=.index t x ix)(ht:Hv P t=some (n,sz,g))(hx:s.ev x=some (.agg l))(hi:s.ev ix=some (.val (.int k i)))(h0:0<=i)(h1:i<n)(hv:AV.cut l (i.toNat* sz) sz g=some av):dz lv P r o s av:=
 iM (λE V a hc aF=>by
  have hd:=ap.ev aF hx;generalize he:a.eval x=v at hd;have n_:=ap.ev aF hi;generalize JJ:a.eval ix=vi at n_;cases n_;cases hd with
  |agg hs h=>
   unfold Hv at ht;split at ht
   ·rename_i m e hu;obtain⟨⟨n',g'⟩,h2,h3⟩:=kM ht;cases h3;unfold AV.cut at hv;split at hv
    ·rename_i xj;obtain⟨inf,d,q1,q2,q3,q4⟩:=Ty.out h2;unfold execOp;rw[ho];simp only[he,JJ];refine az ?_;unfold ZW asIntOf;refine az (aq ?_);dsimp only;refine ec hu ?_;dsimp only;rw[if_pos ⟨h0,h1⟩];refine jS q1 ?_;rw[q3];refine abP h2 ⟨hs,h⟩ xj.1 xj.2 λv h4 h5=>aq ⟨rfl,v,rfl,?_⟩;cases g' with
     |true=>simp only[if_true,Tl]at hv;subst hv;exact h4 rfl
     |false=>simp only[TO,if_false]at hv;exact h5 rfl _ hv
    ·cases hv
   ·cases ht)
theorem aoc{t:TypeId}{x ix:Ti}{b:ByteArray}{k:TU}{i:Int}{c:UInt8}(ho:o.op=.index t x ix)(ht:ln P t=some .str)(hx:s.ev x=some (.val (.string b)))(hi:s.ev ix=some (.val (.int k i)))(h0:0<=i)(h1:b[i.toNat]?=some c):dz lv P r o s (.val (.int .u8 c.toNat)):=
 iM (λE V a hc aF=>by
  have hd:=ap.ev aF hx;generalize he:a.eval x=v at hd;have n_:=ap.ev aF hi;generalize JJ:a.eval ix=vi at n_;cases n_;cases hd;unfold ln at ht;split at ht<;>cases ht;rename_i hu;unfold execOp;rw[ho];simp only[he,JJ];refine az ?_;unfold ZW asIntOf;refine az (aq ?_);dsimp only;refine ec hu ?_;dsimp only;rw[if_pos h0,h1];exact aq (aq ⟨rfl,_,rfl,.val _⟩))
theorem OF{E:Env}{s:AS}{a:Act}(k:b8 E s.T a.tmps){l:Array Ti}{aD:List AV}(h:l.toList.mapM s.ev=some aD):cG E aD (l.map a.eval):=by
 have key:∀(l:List Ti)(aD:List AV),l.mapM s.ev=some aD->cG E aD (l.map a.eval).toArray:=by
  intro l;induction l with
  |nil=>intro aD h;simp at h;subst h;exact⟨rfl,by simp⟩
  |cons x l ih=>
   intro aD h;simp only[T8,Uh,TP,Tf,Tl]at h;obtain⟨b,h1,bs,h2,rfl⟩:=h;have:=ih bs h2;refine⟨by have:=this.1;simpa using this,λi c e=> ?_⟩;cases i with
   |zero=>simp at e;subst e;simpa[SI]using ap.ev k h1
   |succ i=>
    simp only[UJ]at e;have:=this.2 i c e;simpa[SI]using this
 have:=key l.toList aD h;have e:l.map a.eval=(l.toList.map a.eval).toArray:=by apply Vz;simp
 rw[e];exact this
theorem aoj{f:Fn}{first cQ:Array Ti}{fa ca:List AV}(ho:o.op=.makeFunc f first cQ)(h1:first.toList.mapM s.ev=some fa)(h2:cQ.toList.mapM s.ev=some ca):dz lv P r o s (.fn f fa ca):=
 rC (λE V a hc ht=>by
  have d1:=OF ht h1;have d2:=OF ht h2;exact⟨_,by unfold execOp;rw[ho];rfl,.fn d1.1 d2.1 d1.2 d2.2⟩)
def ma (P:SJ)(t:TypeId):Option Bool:=(P.underlying t).map λ|.interface _=>true|_=>false
theorem aok{t:TypeId}{x:Ti}{av:AV}(ho:o.op=.makeInterface t x)(ht:ma P t=some false)(hx:s.ev x=some av):dz lv P r o s (.cX t av):=
 iM (λE V a hc aF=>by
  obtain⟨d,hu,hd⟩:=kM ht;unfold execOp;rw[ho];dsimp only;refine az ?_;unfold Instr.makeInterface;refine ec hu ?_;split
  ·cases hd
  ·exact aq (aq ⟨rfl,_,rfl,.cX (ap.ev aF hx)⟩))
def Ao (P:SJ)(src dst:TypeId):Option (Option TU):=(P.underlying src).bind λ_=>match P.underlying dst with
 |some (.int k)=>some (some k)
 |_=>none
theorem an4{src dst:TypeId}{x:Ti}{k j:TU}{n:Int}(ho:o.op=.convert src dst x)(ht:Ao P src dst=some (some k))(hx:s.ev x=some (.val (.int j n))):dz lv P r o s (.val (.int k (k.wrap n))):=
 iM (λE V a hc aF=>by
  have hd:=ap.ev aF hx;generalize he:a.eval x=v at hd;cases hd;unfold Ao at ht;obtain⟨d,h1,h2⟩:=Tf.1 ht;split at h2
  ·rename_i k' hu;cases h2;unfold execOp;rw[ho];simp only[he];refine az ?_;unfold convert;refine ec h1 (ec hu ?_);dsimp only;exact aq (aq ⟨rfl,_,rfl,.val _⟩)
  ·cases h2)
end
open Go.Conc
def Env.add (E:Env)(r:Nat)(I:cq):Env:={E with I:=I,n:=E.n+1,blk:=λk=>if k=E.n then r else E.blk k}
theorem Env.qb(E:Env)(r:Nat){I:cq}(hI:∀b o v,E.I b o=some v->I b o=some v):E.Le (E.add r I):=
 ⟨hI,YW _,λk hk=>by simp[Env.add,VX hk],λ_ _=>SP _,λ_ _ _ _=>rfl,rfl,rfl⟩
def View.eE (V:View)(b:Nat)(cs:Array SO)(p:Nat->Bool):View:={V with ab:=λb' o=>if b'=b/\p o=true then cs[o]?else V.ab b' o}
theorem w6{V:View}{b:Nat}{cs:Array SO}{el:TypeId}{f:Nat×Nat}{p:Nat->Bool}(ho:V.own b=some (.cells cs el f))(hp:∀o,p o=true->V.ab b o=none):dT V (V.eE b cs p)where
 sat w h:=⟨λb' o v e=>by
   simp only[View.eE]at e;split at e
   ·rename_i hb;obtain⟨rfl,_⟩:=hb;have:=h.own _ _ ho;simpa[Ux,this]using e
   ·exact h.ab _ _ _ e,λb' x e=>h.own b' x e⟩
 own b' e:=e
 ab b' o v e:=by
  have hn:¬(b'=b/\p o=true):=λhb=>by obtain⟨rfl,h2⟩:=hb;rw[hp o h2]at e;cases e
  simp only[View.eE,if_neg hn];exact e
 kB b' o v e:=by
  simp only[View.eE]at e;split at e
  ·rename_i hb;obtain⟨rfl,_⟩:=hb;exact .inr (by rw[ho];simp)
  ·exact .inl e
 deaf:=rfl
 role:=rfl
 chan c x _ h:=h
def View.j9 (V:View)(r:Nat)(cs:Array SO):View:={V with ab:=λb o=>if b=r then cs[o]?else V.ab b o}
theorem aiO{V:View}{r:Nat}{cs:Array SO}{el:TypeId}{f:Nat×Nat}(hf:V.fresh r)(hc:V.role.chan≠some r):dT (V.upd r (.cells cs el f)) (V.j9 r cs)where
 sat w h:=⟨λb o v e=>by
   simp only[View.j9]at e;split at e
   ·rename_i hb;subst hb;have:=h.own b (.cells cs el f) (by simp[View.upd]);simpa[Ux,this]using e
   ·exact h.ab b o v e,λb x e=>by
   have hb:b≠r:=λhb=>(by subst hb;rw[show (V.j9 b cs).own b=V.own b from rfl,hf.1]at e;cases e);have e':V.own b=some x:=e;exact h.own b x (by simpa[View.upd,hb]using e')⟩
 own b e:=by
  simp only[View.upd]at e;split at e
  ·cases e
  ·exact e
 ab b o v e:=by
  have e':V.ab b o=some v:=e;have hb:b≠r:=λhb=>by subst hb;rw[hf.2 o]at e';cases e'
  simpa[View.j9,hb]using e'
 kB b o v e:=by
  simp only[View.j9]at e;split at e
  ·rename_i hb;exact .inr (by simp[View.upd,hb])
  ·exact .inl e
 deaf:=rfl
 role:=rfl
 chan c x hcx h:=by
  have hb:c≠r:=λhb=>by subst hb;exact hc hcx
  have h':V.own c=some x:=by simpa[View.upd,hb]using h
  exact h'
theorem Conc.aiD{E:Env}{V:View}{H:List aa}(hc:Conc E V H){r:Nat}(hf:V.own r=none):V.role.chan≠some r/\V.role.group≠some r:=
 ⟨λe=>(hc.chan r e).1 hf,λe=>(hc.group r e).1 hf⟩
theorem Conc.add{E:Env}{V:View}{H:List aa}(hc:Conc E V H){r:Nat}(hf:V.fresh r)(y:Obj){x:aa}(hx:fH (E.add r V.ab) (V.upd r y) E.n x)(hb:∀b,bK (E.add r V.ab) E.n x=some b->b=r):Conc (E.add r V.ab) (V.upd r y) (H++[x]):=by
 refine hc.iz (E':=E.add r V.ab) H.length x (E.qb r (λb o v h=>by rw[<- hc.I];exact h)) rfl (by simp[Env.add,hc.n]) CC rfl (λ_ _ _=>rfl) (λb z _ hz=>⟨?_,λ_=>rfl⟩) (by rw[<- hc.n];exact hx) (λb h=> .inr ?_)
 ·have:b≠r:=λe=>by rw[e,hf.1]at hz;cases hz
  simpa[View.upd,this]using hz
 ·rw[<- hc.n]at h;rw[hb b h];exact hf.1
theorem Env.dJ(E:Env)(r:Nat)(I:cq):(E.add r I).blk E.n=r:=by simp[Env.add]
theorem OH{E:Env}{H:List aa}(hn:E.n=H.length)(r:Nat)(I:cq):ap (E.add r I) (.op H.length 0) (.pointer (some ⟨r,0,none⟩)):=by
 have:=ap.op (E:=E.add r I) (id:=H.length) (off:=0) (by show _<E.n+1;rw[hn];omega);have e:(E.add r I).blk H.length=r:=by rw[<- hn];exact E.dJ r I
 rwa [e]at this
def AV.parts:AV->Option (List AV)
 |.agg l=>some l
 |.aK _=>none
 |.val (.agg _)=>none
 |a=>some [a]
theorem ap.parts{E:Env}{a:AV}{v:SO}{l:List AV}(h:ap E a v)(hp:a.parts=some l):cG E l v.cells:=by
 have one:∀a v,ap E a v->v.cells=#[v]->cG E [a] v.cells:=λa v h e=>by
  rw[e];refine⟨rfl,λi x hx=> ?_⟩;have hi:i=0:=by have:=(SM.1 hx).1;simpa using this
  subst hi;simp at hx;subst hx;simpa using h
 cases h with
 |val=>cases v<;>first|(cases hp;exact one _ _ (.val _) rfl)|cases hp
 |agg hs h=>cases hp;exact⟨hs,h⟩
 |aK hs h=>cases hp
 |sl b o cap f hc he h1 h2=>cases hp;exact one _ _ (.sl b o cap f hc he h1 h2) rfl
 |nil he=>cases hp;exact one _ _ (.nil he) rfl
 |bE hi dP=>cases hp;exact one _ _ (.bE hi dP) rfl
 |rp b o f h1 h2=>cases hp;exact one _ _ (.rp b o f h1 h2) rfl
 |op hi=>cases hp;exact one _ _ (.op hi) rfl
 |fn dF fP h1 h2=>cases hp;exact one _ _ (.fn dF fP h1 h2) rfl
 |cX h=>cases hp;exact one _ _ (.cX h) rfl
 |mp hi=>cases hp;exact one _ _ (.mp hi) rfl
def eG (P:SJ)(t:TypeId):Option SO:=(P.info? t).bind (·.zero)
def lQ (z:SO):List AV:=z.cells.toList.map AV.pf
theorem Io(E:Env)(z:SO):cG E (lQ z) z.cells:=by
 refine⟨by simp[lQ],λi a h=> ?_⟩;unfold lQ at h;rw[To]at h;obtain⟨x,hx,rfl⟩:=Tq.1 h;have:z.cells[i]?=some x:=by simpa using hx
 rw[SI,this];exact Ih E x
section
variable {P:SJ}{V:View}{α:Type}{K:α->View->Prop}{Kp:SO->View->Prop}
theorem GH{t:TypeId}{z:SO}{k:SO->Sem α}(h:eG P t=some z)(hk:aN P V (k z) K Kp):aN P V (zeroValue t>>=k) K Kp:=by
 unfold eG at h;obtain⟨i,h1,h2⟩:=Tf.1 h;refine az ?_;unfold zeroValue;refine x9 h1 ?_;rw[h2];exact aq hk
end
section
variable {lv:Bool}{P:SJ}{r:Option Nat}{o:Tv}{s:AS}{next:AS->Prop}{bad:AV->AS->Prop}
theorem acl{t:TypeId}{l:List AV}(h:∀(E:Env)(V:View)(a:Act),Conc E V s.H->b8 E s.T a.tmps->∃cs,cG E l cs/\aN P V (execOp a.eval o) (λnx V'=>∃rr,V.fresh rr/\V'=V.upd rr (.cells cs t)/\nx=.value (.pointer (some ⟨rr,0,none⟩))) (λ_ _=>False))
  (hn:next ((⟨s.T,s.H++[.cells l t]⟩:AS).put o.dst (.op s.H.length 0))):Step lv P r o s next bad:=by
 intro E V a N Q hc ht hd bw h1 _;obtain⟨cs,oN,p7⟩:=h E V a hc ht;refine⟨bw,p7.mono (λnx V' hx=> ?_) (λ_ _ hx=>hx.elim)⟩;obtain⟨rr,hf,rfl,rfl⟩:=hx;have hle:E.Le (E.add rr V.ab):=E.qb rr (λb o v h=>by rw[<- hc.I];exact h);have bh:Conc (E.add rr V.ab) (V.upd rr (.cells cs t)) (s.H++[.cells l t]):=by
  refine hc.add hf _ ⟨⟨cs,?_,oN.mono hle⟩,λo=> ?_⟩ (λb e=> ?_)
  ·rw[Env.dJ];simp[View.upd]
  ·rw[Env.dJ];exact hf.2 o
  ·simp only[bK,Env.dJ,Tl]at e;exact e.symm
 exact h1 _ _ (a.put o.dst (.pointer (some ⟨rr,0,none⟩))) ((⟨s.T,s.H++[.cells l t]⟩:AS).put o.dst (.op s.H.length 0)) ⟨hle,dX _ _ _,put_defers _ _ _,rfl,rfl⟩ (by rw[fe];exact bh)
  (b8.gN (s:=⟨s.T,s.H++[.cells l t]⟩) (ht.mono hle) hd (OH hc.n rr V.ab)) hn
theorem ach{t:TypeId}{x:Ti}{av:AV}{l:List AV}(ho:o.op=.box t x)(hx:s.ev x=some av)(hl:av.parts=some l)(hn:next ((⟨s.T,s.H++[.cells l t]⟩:AS).put o.dst (.op s.H.length 0))):Step lv P r o s next bad:=
 acl (λE V a hc ht=>⟨(a.eval x).cells,(ap.ev ht hx).parts hl,by
  unfold execOp;rw[ho];dsimp only;refine az ?_;unfold Instr.box newVar newRow;refine az (az (az (ov λrr hf=>cF (aq (aq (aq (aq ⟨rr,hf,rfl,rfl⟩)))))))⟩) hn
theorem ace{t:TypeId}{z:SO}(ho:o.op=.alloc t)(hz:eG P t=some z)(hn:next ((⟨s.T,s.H++[.cells (lQ z) t]⟩:AS).put o.dst (.op s.H.length 0))):Step lv P r o s next bad:=
 acl (λE V a hc ht=>⟨z.cells,Io E z,by
  unfold execOp;rw[ho];dsimp only;refine az ?_;unfold Instr.alloc;refine GH hz ?_;unfold newVar newRow;refine az (az (az (ov λrr hf=>cF (aq (aq (aq (aq ⟨rr,hf,rfl,rfl⟩)))))))⟩) hn
theorem aqf{t:TypeId}(ho:o.op=.makeMap t none)(hn:next ((⟨s.T,s.H++[.obj (.map #[] 0)]⟩:AS).put o.dst (.mp s.H.length))):Step lv P r o s next bad:=by
 intro E V a N Q hc ht hd bw h1 _;refine⟨bw,?_⟩;unfold execOp;rw[ho];dsimp only;refine az ?_;unfold Instr.makeMap;refine az (ov λrr hf=>cF (aq (aq ?_)));have hle:E.Le (E.add rr V.ab):=E.qb rr (λb o v h=>by rw[<- hc.I];exact h);have bh:Conc (E.add rr V.ab) (V.upd rr (.map #[] 0)) (s.H++[.obj (.map #[] 0)]):=by
  refine hc.add hf _ ⟨?_,rfl,rfl,λo=> ?_⟩ (λb e=> ?_)
  ·rw[Env.dJ];simp[View.upd]
  ·rw[Env.dJ];exact hf.2 o
  ·simp only[bK,Env.dJ,Tl]at e;exact e.symm
 have bi:ap (E.add rr V.ab) (.mp s.H.length) (.map (some rr)):=by
  have:=ap.mp (E:=E.add rr V.ab) (id:=s.H.length) (by show _<E.n+1;rw[hc.n];omega);have e:(E.add rr V.ab).blk s.H.length=rr:=by rw[<- hc.n];exact E.dJ rr _
  rwa [e]at this
 exact h1 _ _ (a.put o.dst (.map (some rr))) ((⟨s.T,s.H++[.obj (.map #[] 0)]⟩:AS).put o.dst (.mp s.H.length)) ⟨hle,dX _ _ _,put_defers _ _ _,rfl,rfl⟩ (by rw[fe];exact bh)
  (b8.gN (s:=⟨s.T,s.H++[.obj (.map #[] 0)]⟩) (ht.mono hle) hd bi) hn
end
def storeAt:Array SO->Nat->List SO->Array SO
 |cs,_,[]=>cs
 |cs,o,v::vs=>storeAt (cs.setIfInBounds o v) (o+1) vs
theorem ya:∀(vs:List SO)(cs:Array SO)(o:Nat),(storeAt cs o vs).size=cs.size
 |[],_,_=>rfl
 |v::vs,cs,o=>by rw[storeAt,ya];simp
theorem C7:∀(vs:List SO)(cs:Array SO)(o k:Nat),o+vs.length<=cs.size->(storeAt cs o vs).getD k undef=if o<=k/\k<o+vs.length then vs.getD (k-o) undef else cs.getD k undef
 |[],cs,o,k,_=>by
  have:¬(o<=k/\k<o+([]:List SO).length):=by intro h;simp only[UQ]at h;omega
  rw[if_neg this];rfl
 |v::vs,cs,o,k,h=>by
  simp only[Ul]at h;rw[storeAt,C7 vs _ (o+1) k (by simp;omega)];by_cases h1:k=o
  ·subst h1;rw[if_neg (by omega),if_pos (by simp)];simp[SI,S_ (show k<cs.size by omega)]
  ·by_cases h2:o+1<=k/\k<o+1+vs.length
   ·rw[if_pos h2,if_pos (by simp only[Ul];omega)];have:k-o=(k-(o+1))+1:=(by omega);rw[this];simp[SF]
   ·rw[if_neg h2,if_neg (by simp only[Ul];omega)];simp[SI,SU (Ne.symm h1)]
theorem ark(V:View)(b:Nat)(x y:Obj):(V.upd b x).upd b y=V.upd b y:=by
 unfold View.upd;congr 1;funext k;dsimp only;split<;>rfl
theorem arl{V:View}{b:Nat}{x:Obj}(h:V.own b=some x):V.upd b x=V:=by
 unfold View.upd;have:(λk=>if k=b then some x else V.own k)=V.own:=by
  funext k;split
  ·rename_i e;subst e;rw[h]
  ·rfl
 rw[this]
section
variable {P:SJ}{K:Unit->View->Prop}{Kp:SO->View->Prop}{b off:Nat}{el:TypeId}
theorem Aa:∀(vs:List SO)(i:Nat)(V:View)(cs:Array SO),V.role.group≠some b->V.role.chan≠some b->V.own b=some (.cells cs el (0,0))->(∀o,off+i<=o->o<off+i+vs.length->V.ab b o=none)->off+i+vs.length<=cs.size->(∀v∈vs,v.one=true)->
  K () (V.upd b (.cells (storeAt cs (off+i) vs) el (0,0)))->aN P V (storeCells ⟨b,off,none⟩ vs i) K Kp
 |[],i,V,cs,hg,hc,ho,hi,hl,hv,h=>by
  unfold storeCells;rw[show storeAt cs (off+i) []=cs from rfl,arl ho]at h;exact aq h
 |v::vs,i,V,cs,hg,hc,ho,hi,hl,hv,h=>by
  unfold storeCells;rw[add_plain];simp only[Ul]at hl hi;refine az (apx ho (by omega) (hi _ (by omega) (by omega)) (hv v (TC ..)) (by omega) (.inl hg) hc (cF ?_));refine Aa vs (i+1) (V.upd b (.cells (cs.setIfInBounds (off+i) v) el (0,0))) (cs.setIfInBounds (off+i) v) hg hc (by simp[View.upd]) (λo h1 h2=>hi o (by omega) (by omega)) (by simp;omega) (λx hx=>hv x (Tb _ hx)) ?_;rw[ark];exact h
end
theorem Conc.set{E:Env}{V:View}{H:List aa}(hc:Conc E V H){id:Nat}{l l':List AV}{el:TypeId}(hk:H[id]?=some (.cells l el)){eJ:Array SO}(hd:cG E l' eJ):Conc E (V.upd (E.blk id) (.cells eJ el (0,0))) (H.set id (.cells l' el)):=by
 obtain⟨⟨cs,h1,_⟩,h3⟩:=hc.obj id _ hk;refine hc.iz id (.cells l' el) (Env.Le.refl E) hc.I (by simpa using hc.n) lf rfl (λ_ _ _=>rfl) (λb y hb hy=>⟨?_,λ_=>rfl⟩) ⟨⟨eJ,by simp[View.upd],hd⟩,h3⟩ (λb h=> .inl ⟨_,hk,h⟩);have:b≠E.blk id:=λe=>hb _ hk (by rw[e];rfl);simpa[View.upd,this]using hy
theorem aco:∀(vs:List SO)(cs:Array SO)(off o:Nat),o<off->(storeAt cs off vs)[o]?=cs[o]?
 |[],_,_,_,_=>rfl
 |v::vs,cs,off,o,h=>by
  rw[storeAt,aco vs _ (off+1) o (by omega),SU (by omega)]
theorem Conc.C2{E:Env}{V:View}{H:List aa}(hc:Conc E V H){id p:Nat}{l l':List AV}{el:TypeId}(hk:H[id]?=some (.part p l el)){cs eJ:Array SO}(h1:V.own (E.blk id)=some (.cells cs el (0,0)))(hd:jU E l' eJ)(hs:∀o,o<p->eJ[o]?=cs[o]?):Conc E (V.upd (E.blk id) (.cells eJ el (0,0))) (H.set id (.part p l' el)):=by
 obtain⟨⟨yD,q1,_,q2⟩,h3⟩:=hc.obj id _ hk;rw[h1]at q1;cases q1;refine hc.iz id (.part p l' el) (Env.Le.refl E) hc.I (by simpa using hc.n) lf rfl (λ_ _ _=>rfl) (λb y hb hy=>⟨?_,λ_=>rfl⟩) ⟨⟨eJ,by simp[View.upd],hd,λo ho=>(q2 o ho).trans (hs o ho).symm⟩,h3⟩ (λb h=> .inl ⟨_,hk,h⟩);have:b≠E.blk id:=λe=>hb _ hk (by rw[e];rfl);simpa[View.upd,this]using hy
theorem Conc.abX{E:Env}{V:View}{H:List aa}(hc:Conc E V H){id sz:Nat}{l l':List AV}{el:TypeId}(hk:H[id]?=some (.own sz l el)){eJ:Array SO}(hd:jU E l' eJ)(hz:eJ.size=(E.room id 0).2* sz):Conc E (V.upd (E.blk id) (.cells eJ el (0,0))) (H.set id (.own sz l' el)):=by
 obtain⟨⟨cs,h1,_⟩,h3⟩:=hc.obj id _ hk;refine hc.iz id (.own sz l' el) (Env.Le.refl E) hc.I (by simpa using hc.n) lf rfl (λ_ _ _=>rfl) (λb y hb hy=>⟨?_,λ_=>rfl⟩) ⟨⟨eJ,by simp[View.upd],hd,hz⟩,h3⟩ (λb h=> .inl ⟨_,hk,h⟩);have:b≠E.blk id:=λe=>hb _ hk (by rw[e];rfl);simpa[View.upd,this]using hy
theorem Conc.setObj{E:Env}{V:View}{H:List aa}(hc:Conc E V H){id:Nat}{x y:Obj}(hk:H[id]?=some (.obj x))(h1:y.us=false)(h2:y.isChan=false):Conc E (V.upd (E.blk id) y) (H.set id (.obj y)):=by
 obtain⟨p1,p2,p3,p4⟩:=hc.obj id _ hk;refine hc.iz id (.obj y) (Env.Le.refl E) hc.I (by simpa using hc.n) lf rfl (λ_ _ _=>rfl) (λb z hb hz=>⟨?_,λ_=>rfl⟩) ⟨by simp[View.upd],h1,h2,p4⟩ (λb h=> .inl ⟨_,hk,h⟩);have:b≠E.blk id:=λe=>hb _ hk (by rw[e];rfl);simpa[View.upd,this]using hz
theorem alO{E:Env}{a:AV}{v:SO}(h:ap E a v)(hl:a.leaf=true):v.one=true:=by
 cases h with
 |val x=>exact hl
 |agg _ _=>cases hl
 |aK _ _=>cases hl
 |_=>rfl
def iw (l:List AV)(off:Nat)(lp:List AV):List AV:=l.take off++lp++l.drop (off+lp.length)
theorem Ik{E:Env}{l lp:List AV}{cs vs:Array SO}{off:Nat}(h:cG E l cs)(k:cG E lp vs)(hl:off+lp.length<=l.length):cG E (iw l off lp) (storeAt cs off vs.toList):=by
 have hv:vs.toList.length=lp.length:=by simpa using k.1
 refine⟨by rw[ya,h.1];simp[iw];omega,λi a e=> ?_⟩;rw[C7 _ _ _ _ (by rw[h.1,hv];exact hl),hv];unfold iw at e;by_cases h1:i<off
 ·rw[if_neg (by omega)];rw[SD,SZ (by simp;omega),Uc,if_pos h1]at e;exact h.2 i a e
 ·by_cases h2:i<off+lp.length
  ·rw[if_pos ⟨by omega,h2⟩];rw[SZ (by simp;omega),Tj (by simp;omega)]at e;have e':lp[i-off]?=some a:=by
    have:min off l.length=off:=(by omega);simpa[this]using e
   have:=k.2 _ a e';simpa[SI,SF]using this
  ·rw[if_neg (by omega)];rw[Tj (by simp;omega),Uo]at e;have e':l[i]?=some a:=by
    have h3:off+lp.length+(i-(l.take off++lp).length)=i:=(by simp;omega);rw[h3]at e;exact e
   exact h.2 i a e'
theorem OM{E:Env}{l lp:List AV}{cs vs:Array SO}{off:Nat}(h:jU E l cs)(k:cG E lp vs)(hl:off+lp.length<=l.length):jU E (iw l off lp) (storeAt cs off vs.toList):=by
 have hv:vs.toList.length=lp.length:=by simpa using k.1
 refine⟨by rw[ya];have:=h.1;simp[iw];omega,λi a e=> ?_⟩;rw[C7 _ _ _ _ (by have:=h.1;rw[hv];omega),hv];unfold iw at e;by_cases h1:i<off
 ·rw[if_neg (by omega)];rw[SD,SZ (by simp;omega),Uc,if_pos h1]at e;exact h.2 i a e
 ·by_cases h2:i<off+lp.length
  ·rw[if_pos ⟨by omega,h2⟩];rw[SZ (by simp;omega),Tj (by simp;omega)]at e;have e':lp[i-off]?=some a:=by
    have:min off l.length=off:=(by omega);simpa[this]using e
   have:=k.2 _ a e';simpa[SI,SF]using this
  ·rw[if_neg (by omega)];rw[Tj (by simp;omega),Uo]at e;have e':l[i]?=some a:=by
    have h3:off+lp.length+(i-(l.take off++lp).length)=i:=(by simp;omega);rw[h3]at e;exact e
   exact h.2 i a e'
theorem A_{E:Env}{lp:List AV}{vs:Array SO}(h:cG E lp vs)(nq:∀a∈lp,a.leaf=true):∀v∈vs.toList,v.one=true:=by
 intro v hv;obtain⟨j,hj⟩:=UP.1 hv;have e_:j<lp.length:=by have:=(SM.1 hj).1;have:=h.1;simp at*;omega
 have:=h.2 j lp[j] (SV e_);have ii:vs[j]?=some v:=by simpa using hj
 rw[SI,ii]at this;exact alO this (nq _ (Wr e_))
section
variable {lv:Bool}{P:SJ}{r:Option Nat}{o:Tv}{s:AS}{next:AS->Prop}{bad:AV->AS->Prop}
theorem acm{t:TypeId}{x y:Ti}{id off n:Nat}{l lp:List AV}{el:TypeId}{g:Bool}{av:AV}(ho:o.op=.store t x y)(ht:Ty P t=some (n,g))(hx:s.ev x=some (.op id off))(hk:s.H[id]?=some (.cells l el))(hy:s.ev y=some av)(hp:av.parts=some lp)(ky:lp.length=n)(hl:off+lp.length<=l.length)
  (nq:∀a∈lp,a.leaf=true) (hn:next ((⟨s.T,s.H.set id (.cells (iw l off lp) el)⟩:AS).put o.dst (.val undef))):Step lv P r o s next bad:=by
 intro E V a N Q hc aF hd bw h1 _;obtain⟨i,d,q1,q2,rfl,q4⟩:=Ty.out ht;have dt:=ap.ev aF hx;generalize j7:a.eval x=vx at dt;cases dt with
 |op bR=>
  have bi:=(ap.ev aF hy).parts hp;obtain⟨⟨cs,p1,p2⟩,p3⟩:=hc.obj id _ hk;obtain⟨g1,g2⟩:=hc.ja hk rfl;refine⟨bw,?_⟩;unfold execOp;rw[ho];simp only[j7];refine az ?_;unfold Yh U9;refine az (aq ?_);unfold storeVar;refine jS q1 ?_;rw[if_neg (by rw[bi.1,ky];simp)];refine Aa _ 0 V cs g1 g2 p1 (λo _ _=>p3 o) (by have:=bi.1;have:=p2.1;simp;omega) (A_ bi nq) ?_;rw[UH];exact aq (h1 E _ (a.put o.dst undef) _ ⟨Env.Le.refl E,dX _ _ _,put_defers _ _ _,rfl,rfl⟩ (by rw[fe];exact hc.set hk (Ik p2 bi hl))
   (b8.gN (s:=⟨s.T,s.H.set id (.cells (iw l off lp) el)⟩) aF hd (.val undef)) hn)
theorem aql{t:TypeId}{x y:Ti}{id off n p:Nat}{l lp:List AV}{el:TypeId}{g:Bool}{av:AV}(ho:o.op=.store t x y)(ht:Ty P t=some (n,g))(hx:s.ev x=some (.op id off))(hk:s.H[id]?=some (.part p l el))(hpo:p<=off)(hy:s.ev y=some av)(hp:av.parts=some lp)(ky:lp.length=n)(hl:off+lp.length<=l.length)
  (nq:∀a∈lp,a.leaf=true) (hn:next ((⟨s.T,s.H.set id (.part p (iw l off lp) el)⟩:AS).put o.dst (.val undef))):Step lv P r o s next bad:=by
 intro E V a N Q hc aF hd bw h1 _;obtain⟨i,d,q1,q2,rfl,q4⟩:=Ty.out ht;have dt:=ap.ev aF hx;generalize j7:a.eval x=vx at dt;cases dt with
 |op bR=>
  have bi:=(ap.ev aF hy).parts hp;obtain⟨⟨cs,p1,p2,p4⟩,p3⟩:=hc.obj id _ hk;obtain⟨g1,g2⟩:=hc.ja hk rfl;refine⟨bw,?_⟩;unfold execOp;rw[ho];simp only[j7];refine az ?_;unfold Yh U9;refine az (aq ?_);unfold storeVar;refine jS q1 ?_;rw[if_neg (by rw[bi.1,ky];simp)];refine Aa _ 0 V cs g1 g2 p1 (λo _ _=>p3 o (by omega)) (by have:=bi.1;have:=p2.1;simp;omega) (A_ bi nq) ?_;rw[UH];exact aq (h1 E _ (a.put o.dst undef) _ ⟨Env.Le.refl E,dX _ _ _,put_defers _ _ _,rfl,rfl⟩ (by rw[fe];exact hc.C2 hk p1 (OM p2 bi hl) λo ho=>aco _ _ _ _ (by omega))
   (b8.gN (s:=⟨s.T,s.H.set id (.part p (iw l off lp) el)⟩) aF hd (.val undef)) hn)
theorem acn{t:TypeId}{x y:Ti}{id off n p:Nat}{l lp:List AV}{el:TypeId}{g:Bool}{av:AV}(ho:o.op=.store t x y)(ht:Ty P t=some (n,g))(hx:s.ev x=some (.op id off))(hk:s.H[id]?=some (.own p l el))(hy:s.ev y=some av)(hp:av.parts=some lp)(ky:lp.length=n)(hl:off+lp.length<=l.length)
  (nq:∀a∈lp,a.leaf=true) (hn:next ((⟨s.T,s.H.set id (.own p (iw l off lp) el)⟩:AS).put o.dst (.val undef))):Step lv P r o s next bad:=by
 intro E V a N Q hc aF hd bw h1 _;obtain⟨i,d,q1,q2,rfl,q4⟩:=Ty.out ht;have dt:=ap.ev aF hx;generalize j7:a.eval x=vx at dt;cases dt with
 |op bR=>
  have bi:=(ap.ev aF hy).parts hp;obtain⟨⟨cs,p1,p2,p4⟩,p3⟩:=hc.obj id _ hk;obtain⟨g1,g2⟩:=hc.ja hk rfl;refine⟨bw,?_⟩;unfold execOp;rw[ho];simp only[j7];refine az ?_;unfold Yh U9;refine az (aq ?_);unfold storeVar;refine jS q1 ?_;rw[if_neg (by rw[bi.1,ky];simp)];refine Aa _ 0 V cs g1 g2 p1 (λo _ _=>p3 o) (by have:=bi.1;have:=p2.1;simp;omega) (A_ bi nq) ?_;rw[UH];exact aq (h1 E _ (a.put o.dst undef) _ ⟨Env.Le.refl E,dX _ _ _,put_defers _ _ _,rfl,rfl⟩ (by rw[fe];exact hc.abX hk (OM p2 bi hl) (by rw[ya];exact p4))
   (b8.gN (s:=⟨s.T,s.H.set id (.own p (iw l off lp) el)⟩) aF hd (.val undef)) hn)
theorem Conc.j9{E:Env}{V:View}{H:List aa}(hc:Conc E V H){r:Nat}(hf:V.fresh r)(cs:Array SO):E.Le {E with I:=(V.j9 r cs).ab}/\Conc {E with I:=(V.j9 r cs).ab} (V.j9 r cs) H:=by
 have hle:E.Le {E with I:=(V.j9 r cs).ab}:=⟨λb o v h=>by
  rw[hc.I]at h;have hb:b≠r:=λhb=>by subst hb;rw[hf.2 o]at h;cases h
  simpa[View.j9,hb]using h,SP _,λ_ _=>rfl,λ_ _=>SP _,λ_ _ _ _=>rfl,rfl,rfl⟩
 have hlt:∀(k:Nat) y,H[k]?=some y->k<E.n:=λk y h=>by rw[hc.n];exact(SM.1 h).1
 refine⟨hle,rfl,hc.n,λk x h=>(hc.obj k x h).mono hle (hlt k x h) rfl (λb y _ hb=>hb) (λb hb o=> ?_),hc.inj,λg hg=> ?_,λg hg=> ?_,hc.top,λb y hg=> ?_⟩
 ·obtain⟨y,hy⟩:=(hc.obj k x h).A1 hb;have aG:b≠r:=λe=>by subst e;rw[hf.1]at hy;cases hy
  simp[View.j9,aG]
 ·obtain⟨h0,h1,h2⟩:=hc.group g hg;have aG:g≠r:=λe=>by subst e;exact h0 hf.1
  exact⟨h0,λo=>by simp[View.j9,aG,h1 o],h2⟩
 ·obtain⟨h0,h1,h2⟩:=hc.chan g hg;have aG:g≠r:=λe=>by subst e;exact h0 hf.1
  exact⟨h0,λo=>by simp[View.j9,aG,h1 o],h2⟩
 ·obtain⟨h0,h1,h2⟩:=hc.fr b y hg;have aG:b≠r:=λe=>by subst e;rw[hf.1]at h0;cases h0
  exact⟨h0,λo=>by simp[View.j9,aG,h1 o],h2⟩
theorem ap.anR{E:Env}{V:View}{H:List aa}(hc:Conc E V H){r:Nat}(hf:V.fresh r){cs:Array SO}{l:List AV}(h:cG E l cs){n cap:Nat}(dP:n<=cap){e:End}(he:pq {E with I:=(V.j9 r cs).ab} e (some ⟨r,0,none⟩) n cap):ap {E with I:=(V.j9 r cs).ab} (.sl n l e) (.slice (some ⟨r,0,none⟩) n cap):=by
 refine .sl r 0 cap (λi=>cs.getD i undef) dP he (λi hi=> ?_) λi x hx=>(h.2 i x hx).mono (hc.j9 hf cs).1;have hlt:i<cs.size:=by rw[h.1];exact hi
 simp[View.j9,SI,SK hlt]
def nV (place:Nat->Option (Nat×Nat))(cells:List AV):List (Nat×AV)->Option (List AV)
 |[]=>some cells
 |(i,a)::rest=>match place i,a.parts with
  |some (off,size),some lp=>if lp.length≠size\/off+lp.length>cells.length then none else nV place (iw cells off lp) rest
  |_,_=>none
theorem PH:∀(vs:List SO)(k off:Nat)(cs:Array SO),(vs.zipIdx k).foldl (λ(cs:Array SO) (x:SO×Nat)=>cs.setIfInBounds (off+x.2) x.1) cs=storeAt cs (off+k) vs
 |[],_,_,_=>rfl
 |v::vs,k,off,cs=>by
  rw[List.zipIdx_cons,UW,PH vs (k+1) off];rfl
theorem Bb{E:Env}{place:Nat->Option (Nat×Nat)}:∀{parts:List (Nat×AV)}{vs:List (Nat×SO)}{l l':List AV}{cs:Array SO},cG E l cs->parts.length=vs.length->(∀(j:Nat) p q,parts[j]?=some p->vs[j]?=some q->p.1=q.1/\ap E p.2 q.2)->
  nV place l parts=some l'->∃eJ,Z6 place cs vs=some eJ/\cG E l' eJ
 |[],[],l,l',cs,h,_,_,e=>by cases e;exact⟨cs,rfl,h⟩
 |[],_::_,_,_,_,_,h,_,_=>by simp at h
 |_::_,[],_,_,_,_,h,_,_=>by simp at h
 |(i,a)::parts,(i',v)::vs,l,l',cs,h,hl,hp,e=>by
  obtain⟨e1,hd⟩:=hp 0 (i,a) (i',v) rfl rfl;have e1':i=i':=e1;subst e1';simp only[nV]at e;split at e
  ·rename_i off size lp dl Kv;split at e
   ·cases e
   ·rename_i hc;have bi:=ap.parts (v:=v) hd Kv;have aV:v.cells.size=lp.length:=bi.1;have hle:off+lp.length<=l.length:=(by omega);obtain⟨eJ,h1,h2⟩:=Bb (Ik h bi hle) (by simpa using hl) (λj p q x y=>hp (j+1) p q (by simpa using x) (by simpa using y)) e;refine⟨eJ,?_,h2⟩;unfold Z6;rw[dl];simp only;rw[if_neg (by rw[aV,h.1];simp;omega)];have:=PH v.cells.toList 0 off cs;rw[UH]at this;rw[<- h1,<- this];congr 1;rw[<- Array.toList_zipIdx,Array.foldl_toList]
  ·cases e
def jX (s:AS):List (Nat×Ti)->Option (List (Nat×AV))
 |[]=>some []
 |(i,x)::l=>match s.ev x,jX s l with
  |some a,some aD=>some ((i,a)::aD)
  |_,_=>none
theorem Eg{E:Env}{s:AS}{a:Act}(k:b8 E s.T a.tmps):∀{l:List (Nat×Ti)}{aD:List (Nat×AV)},jX s l=some aD->aD.length=(l.map λ(i,x)=>(i,a.eval x)).length/\∀(j:Nat) p q,aD[j]?=some p->(l.map λ(i,x)=>(i,a.eval x))[j]?=some q->p.1=q.1/\ap E p.2 q.2
 |[],aD,h=>by cases h;exact⟨rfl,by simp⟩
 |(i,x)::l,aD,h=>by
  simp only[jX]at h;split at h
  ·rename_i av lU h1 h2;cases h;obtain⟨mI,ld⟩:=Eg k h2;refine⟨by simpa using mI,λj p q e1 e2=> ?_⟩;cases j with
   |zero=>simp at e1 e2;subst e1 e2;exact⟨rfl,ap.ev k h1⟩
   |succ j=>exact ld j p q (by simpa using e1) (by simpa using e2)
  ·cases h
def qB (P:SJ)(t:TypeId):Option (TypeId×Nat×SO):=match P.underlying t with
 |some (.slice e)=>(P.info? e).bind λi=>i.zero.map λz=>(e,i.size,z)
 |_=>none
def gG (z:SO)(m:Nat):List AV:=(S0 m).map λi=>AV.pf (z.cells[i % z.cells.size]!)
inductive ig where
 |fields (l:List (Nat×Nat))
 |elems (sz:Nat)
def ig.at:ig->Nat->Option (Nat×Nat)
 |.fields l,i=>l[i]?
 |.elems sz,i=>some (i* sz,sz)
def oA (P:SJ)(t:TypeId):Option (ig×SO):=(eG P t).bind λz=>match P.underlying t with
 |some (.struct fs)=>(fs.toList.mapM λf=>(P.info? f.type).map λi=>(f.offset,i.size)).map λl=>(.fields l,z)
 |some (.array _ e)=>(P.info? e).map λi=>(.elems i.size,z)
 |_=>none
theorem abQ{P:SJ}{V:View}{Kp:SO->View->Prop}:∀(fs:List YS)(l:List (Nat×Nat)){K:List (Nat×Nat)->View->Prop},fs.mapM (λf=>(P.info? f.type).map λi=>(f.offset,i.size))=some l->
  K l V->aN P V (fs.mapM λf=>(do pure (f.offset,<- sizeOf f.type):Sem (Nat×Nat))) K Kp
 |[],l,K,h,hk=>by
  simp at h;subst h;rw[Uz];exact aq hk
 |f::fs,l,K,h,hk=>by
  simp only[T8,Uh,TP,Tf,Tl]at h;obtain⟨b,h1,bs,h2,rfl⟩:=h;obtain⟨i,hi,rfl⟩:=kM h1;rw[T8];exact az (jS hi (aq (az (abQ fs bs h2 (aq hk)))))
theorem an2{t:TypeId}{parts:Array (Nat×Ti)}{pl:ig}{z:SO}{aD:List (Nat×AV)}{l:List AV}(ho:o.op=.build t parts)(ht:oA P t=some (pl,z))(hp:jX s parts.toList=some aD)
  (hl:nV pl.at (lQ z) aD=some l):dz lv P r o s (.agg l):=
 iM (λE V a hc aF=>by
  unfold oA at ht;obtain⟨z',hz,ht⟩:=Tf.1 ht;obtain⟨hlen,bi⟩:=Eg aF hp;unfold execOp;rw[ho];dsimp only;refine az ?_;unfold Instr.build;refine GH hz ?_;split at ht
  ·rename_i fs hu;obtain⟨lp,h1,h2⟩:=kM ht;cases h2;obtain⟨eJ,nk,tY⟩:=Bb (Io E z) hlen bi hl;refine ec hu ?_;dsimp only;have e:fs=fs.toList.toArray:=(by simp);rw[e,XX];refine az ?_;refine az (abQ fs.toList lp h1 ?_);refine aq ?_;rw[VH];have e2:(λx=>lp.toArray[x]?)=ig.at (.fields lp):=(by funext x;simp[ig.at]);rw[e2,nk];exact aq (aq ⟨rfl,_,rfl,.agg tY.1 tY.2⟩)
  ·rename_i n e hu;obtain⟨i,h1,h2⟩:=kM ht;cases h2;obtain⟨eJ,nk,tY⟩:=Bb (Io E z) hlen bi hl;refine ec hu ?_;dsimp only;refine jS h1 ?_;rw[VH];have e2:(λj=>some (j* i.size,i.size))=ig.at (.elems i.size):=rfl;rw[e2,nk];exact aq (aq ⟨rfl,_,rfl,.agg tY.1 tY.2⟩)
  ·cases ht)
theorem Il{E:Env}(z:SO)(m:Nat):cG E (gG z m) ((WH m).map (λx=>z.cells[x % z.cells.size]!)):=by
 refine⟨by simp[gG],λj x hx=> ?_⟩;unfold gG at hx;rw[To]at hx;obtain⟨k,hk,rfl⟩:=Tq.1 hx;have hj:j<m:=by have:=(SM.1 hk).1;simpa using this
 have hmj:k=j:=by rw[Xv hj]at hk;cases hk;rfl
 subst hmj;simp only[SI,WA,Array.getElem?_range,hj,if_true,UN,S9];exact Ih E _
theorem an3{t e:TypeId}{len sz:Nat}{z:SO}{parts:Array (Nat×Ti)}{aD:List (Nat×AV)}{l:List AV}(ho:o.op=.buildSlice t len parts)(ht:qB P t=some (e,sz,z))(aV:len* sz<=2^24)(hp:jX s parts.toList=some aD)
  (hl:nV (ig.at (.elems sz)) (gG z (len* sz)) aD=some l):dz lv P r o s (.sl len l .exact):=by
 intro E V a N Q hc aF bw h1;unfold qB at ht;split at ht
 ·rename_i e' hu;obtain⟨i,hi,ht⟩:=Tf.1 ht;obtain⟨z',hz,ht⟩:=Tq.1 ht;cases ht;refine⟨bw,?_⟩;unfold execOp;rw[ho];dsimp only;refine az ?_;unfold Instr.buildSlice;refine ec hu ?_;dsimp only;refine jS hi ?_;rw[if_neg (by omega)];obtain⟨hlen,bi⟩:=Eg aF hp;obtain⟨eJ,nk,tY⟩:=Bb (Il (E:=E) z (len* i.size)) hlen bi hl;have fin:∀(rr:Nat),V.fresh rr->aN P (V.upd rr (.cells eJ e)) (pure (W1 (.slice (some ⟨rr,0,none⟩) len len))) (mu lv P r o a N Q) (λv V'=>Q (.panic [{v,recovered:=false}]) a V'):=λrr hf=>
   aN.ghost (aiO hf (hc.aiD hf.1).1) (aq (h1 _ _ _ (hc.j9 hf eJ).1 rfl rfl (hc.j9 hf eJ).2 (ap.anR hc hf tY (SP _) rfl)))
  have e2:(λj=>some (j* i.size,i.size))=ig.at (.elems i.size):=rfl;rw[e2];by_cases h0:len* i.size=0
  ·rw[if_pos h0];refine az (aq ?_);rw[h0]at nk⊢;rw[show WH 0=#[]from rfl]at nk⊢;simp only[List.map_toArray,List.map_nil,VH]at nk⊢;rw[nk];unfold newRow;exact az (az (az (ov λrr hf=>cF (aq (aq (aq (fin rr hf)))))))
  ·rw[if_neg h0];refine az (az ?_);unfold typeInfo;refine az (qh (cF ?_));rw[hi];refine aq ?_;rw[hz];refine aq (az (aq ?_));rw[VH,nk];unfold newRow;exact az (az (az (ov λrr hf=>cF (aq (aq (aq (fin rr hf)))))))
 ·cases ht
end
open Go.Conc
def aaI (P:SJ)(t:TypeId):Bool:=match P.underlying t with
 |some (.int _)=>false
 |some _=>true
 |none=>false
def jF (P:SJ)(t t':TypeId):Option (TypeId×Nat×SO):=match P.underlying t with
 |some (.slice e)=>(P.info? e).bind λi=>i.zero.bind λz=>if z.cells.size=i.size/\i.bytes<=2^16/\i.bytes≠0/\aaI P t'=true then some (e,i.size,z)else none
 |_=>none
theorem jF.out{P:SJ}{t t' e:TypeId}{sz:Nat}{z:SO}(h:jF P t t'=some (e,sz,z)):∃i d,P.underlying t=some (.slice e)/\P.info? e=some i/\i.zero=some z/\i.size=sz/\z.cells.size=sz/\i.bytes<=2^16/\i.bytes≠0/\P.underlying t'=some d/\(∀k,d≠ .int k):=by
 unfold jF at h;split at h
 ·rename_i e' hu;obtain⟨i,h1,h⟩:=Tf.1 h;obtain⟨z',h2,h⟩:=Tf.1 h;split at h
  ·rename_i hc;obtain⟨c1,c2,c3,c4⟩:=hc;cases h;unfold aaI at c4;split at c4
   ·cases c4
   ·rename_i d hd aG;exact⟨i,d,hu,h1,h2,rfl,c1,c2,c3,aG,λk e=>hd k e⟩
   ·cases c4
  ·cases h
 ·cases h
def AS.src (s:AS)(sz:Nat):AV->Option (Nat×List AV)
 |.sl m l _=>some (m,l.take (m* sz))
 |.bE id off m _=>match s.H[id]?with
  |some (.cells l _)|some (.part _ l _)|some (.own _ l _)=>some (m,(l.drop off).take (m* sz))
  |_=>none
 |_=>none
section
variable {P:SJ}{E:Env}{V:View}{s:AS}{K:Array SO->View->Prop}{Kp:SO->View->Prop}
theorem Ec{l:List AV}{f:Nat->SO}{n:Nat}(hn:n<=l.length)(h:∀(i:Nat) x,l[i]?=some x->ap E x (f i)):cG E (l.take n) ((S0 n).map f).toArray:=by
 have:=Ij hn h;cases this with
 |agg h1 h2=>exact⟨h1,h2⟩
theorem CZ(hc:Conc E V s.H){av:AV}{v:SO}(hd:ap E av v){sz m k:Nat}{l:List AV}(h:s.src sz av=some (m,l))(hl:l.length=m* sz)(hk:k<=m)(hK:∀cs,cG E (l.take (k* sz)) cs->K cs V):aN P V (Vr sz k v) K Kp:=by
 have hks:k* sz<=m* sz:=Uf _ hk;cases hd with
 |sl b o cap f dP he h1 h2=>
  cases h;rename_i l _;simp only[TZ]at hl;have e:(l.take (m* sz)).take (k* sz)=l.take (k* sz):=by rw[UZ];congr 1;omega
  rw[e]at hK;unfold Vr;exact z9 (f:=f) (λhp=>(hc.Sc (h1 0 (by omega))).1) (λj hj=>by unfold View.get;rw[<- hc.I,h1 j (by omega)]) (hK _ (Ec (by omega) h2))
 |nil he=>
  cases h;have:k=0:=by omega
  subst this;have hK:=hK #[] ⟨by simp,by simp⟩;unfold Vr;split
  ·rw[ZY];exact aq hK
  ·exact aq hK
  ·rename_i h;cases h
  ·rename_i a _ _ h1 h2 _;cases a with
   |none=>exact(h2 _ _ rfl).elim
   |some x=>exact(h1 _ _ _ rfl).elim
 |bE hi dP=>
  rename_i id off m' cap cap';simp only[AS.src]at h;cases hq:s.H[id]?with
  |none=>rw[hq]at h;cases h
  |some ob=>
   rw[hq]at h;cases ob with
   |cells l' el=>
    cases h;obtain⟨⟨cs,ho,hs,bi⟩,lA⟩:=hc.obj id _ hq;simp only[TZ,Uj]at hl;have e:((l'.drop off).take (m* sz)).take (k* sz)=(l'.drop off).take (k* sz):=(by rw[UZ];congr 1;omega);rw[e]at hK;unfold Vr;refine z9 (f:=λi=>cs.getD (off+i) undef) (λ_=>(hc.ja hq rfl).1) (λj hj=> ?_) (hK _ (Ec (by simp only[Uj];omega) λi x hx=> ?_))
    ·unfold View.get;rw[lA,ho];have hlt:off+j<cs.size:=(by omega);simp only[SI,SK hlt,S9]
    ·rw[Uo]at hx;exact bi _ _ hx
   |part p l' el=>
    cases h;obtain⟨⟨cs,ho,⟨hs,bi⟩,ny⟩,lA⟩:=hc.obj id _ hq;simp only[TZ,Uj]at hl;have e:((l'.drop off).take (m* sz)).take (k* sz)=(l'.drop off).take (k* sz):=(by rw[UZ];congr 1;omega);rw[e]at hK;unfold Vr;refine z9 (f:=λi=>cs.getD (off+i) undef) (λ_=>(hc.ja hq rfl).1) (λj hj=> ?_) (hK _ (Ec (by simp only[Uj];omega) λi x hx=> ?_))
    ·have hlt:off+j<cs.size:=(by omega);unfold View.get;by_cases hp:off+j<p
     ·rw[ny _ hp];simp only[SI,SK hlt,S9]
     ·rw[lA _ (by omega),ho];simp only[SI,SK hlt,S9]
    ·rw[Uo]at hx;exact bi _ _ hx
   |own ep l' el=>
    cases h;obtain⟨⟨cs,ho,⟨hs,bi⟩,_⟩,lA⟩:=hc.obj id _ hq;simp only[TZ,Uj]at hl;have e:((l'.drop off).take (m* sz)).take (k* sz)=(l'.drop off).take (k* sz):=(by rw[UZ];congr 1;omega);rw[e]at hK;unfold Vr;refine z9 (f:=λi=>cs.getD (off+i) undef) (λ_=>(hc.ja hq rfl).1) (λj hj=> ?_) (hK _ (Ec (by simp only[Uj];omega) λi x hx=> ?_))
    ·have hlt:off+j<cs.size:=(by omega);unfold View.get;rw[lA,ho];simp only[SI,SK hlt,S9]
    ·rw[Uo]at hx;exact bi _ _ hx
   |_=>cases h
 |_=>cases h
theorem GK{av:AV}{v:SO}(hd:ap E av v){sz m:Nat}{l:List AV}(h:s.src sz av=some (m,l)):ato v=pure m:=by
 cases hd with
 |sl=>cases h;rfl
 |nil=>cases h;rfl
 |bE=>
  simp only[AS.src]at h;split at h
  ·cases h;rfl
  ·cases h;rfl
  ·cases h;rfl
  ·cases h
 |_=>cases h
end
theorem PU(uD:Nat):∀(r c:Nat),c<=2* uD+200->Zk uD r c<=2* uD+200
 |0,c,h=>h
 |r+1,c,h=>by
  unfold Zk;split
  ·exact h
  ·exact PU uD r _ (by omega)
theorem amO(uD cap:Nat)(h:cap<uD):WY uD cap<=2* uD+200:=by
 unfold WY;split
 ·omega
 ·split
  ·omega
  ·exact PU uD 4 cap (by omega)
theorem A9{E:Env}{l m:List AV}{x y:Array SO}(h:cG E l x)(k:cG E m y):cG E (l++m) (x++y):=by
 refine⟨by simp[h.1,k.1],λi a e=> ?_⟩;by_cases hi:i<l.length
 ·rw[SZ hi]at e;have:=h.2 i a e;rw[SI,X9 (by rw[h.1];exact hi)];rwa [SI]at this
 ·rw[Tj (by omega)]at e;have:=k.2 _ a e;rw[SI,X5 (by rw[h.1];omega),h.1];rwa [SI]at this
theorem ME{P:SJ}{V:View}{α:Type}{K:α->View->Prop}{Kp:SO->View->Prop}{b:Bool}{k:Bool->Sem α}(hb:b=false)(h:aN P V (k false) K Kp):aN P V (pure b>>=k) K Kp:=by
 subst hb;exact az (aq h)
section
variable {P:SJ}{E:Env}{V:View}{s:AS}{K:SO->View->Prop}{Kp:SO->View->Prop}
theorem abM{n:Nat}{K:Unit->View->Prop}(h:K () V):aN P V (askRoom n) K Kp:=by
 unfold askRoom;split
 ·exact apu (cF h)
 ·exact aq h
theorem abL(hc:Conc E V s.H){t t' e:TypeId}{sz n m cap:Nat}{z:SO}{base:Option U1}{av:AV}{v:SO}{ax:AV}{l l':List AV}{ty:TypeId}(ht:jF P t t'=some (e,sz,z))(hd:ap E ax (.slice base n cap))(dw:s.src sz ax=some (n,l))(cw:ap E av v)(hs:s.src sz av=some (m,l'))
  (hl:l.length=n* sz) (eB:l'.length=m* sz) (hb:n+m<=2^30) (JY:cap<n+m)
  (hK:∀r cs cap',V.fresh r->cG E (l++l') (cs.extract 0 ((n+m)* sz))->n+m<=cap'->cs.size=cap'* sz->K (.slice (some ⟨r,0,none⟩) (n+m) cap') (V.upd r (.cells cs e))):aN P V (Vw #[t,t'] ty #[.slice base n cap,v]) K Kp:=by
 obtain⟨i,d,h1,h2,h3,h4,h5,h6,h7,h8,h9⟩:=jF.out ht;unfold Vw;simp only[Vd,Vo,UJ];refine ec h1 ?_;dsimp only;refine jS h2 ?_;rw[h4];refine ec h8 ?_;refine ME (by cases d<;>first|rfl|exact absurd rfl (h9 _)) ?_;simp only[TO,if_false,YB,if_true];rw[GK cw hs];refine az (aq ?_);rw[if_neg (by omega)];refine x9 h2 ?_;rw[if_neg (by intro hx;exact hx.2.elim (λx=>x.elim) h7)];refine x9 h2 ?_;have dP:=amO (n+m) cap JY;have hmul:WY (n+m) cap* i.bytes<=(2* 2^30+200)* 2^16:=ZJ (by omega) h6;rw[if_neg (by omega)];refine az (abO (λhf=>by cases hf) (λ_ t=>cF ?_));generalize iV:Zp (.appendCap (n+m) cap e) t=cap';have EL:n+m<=cap':=by rw[<- iV];exact Nat.le_add_right _ _
 refine x9 h2 (az (abM (az ?_)));refine CZ hc hd dw hl (SP _) λyD JE=> ?_;refine az (CZ hc cw hs eB (SP _) λjm kS=> ?_);refine GH (z:=z) (by unfold eG;rw[h2];exact h3) ?_;rw[<- hl,TJ]at JE;rw[<- eB,TJ]at kS;unfold newRow;refine az (az (ov λr hf=>cF (aq (aq ?_))));have akT:yD.size=n* sz:=by rw[JE.1,hl]
 have zu:jm.size=m* sz:=by rw[kS.1,eB]
 have aV:(yD++jm).size=(n+m)* sz:=by rw[Xz,akT,zu,Va]
 refine hK r _ cap' hf ?_ EL ?_
 ·have e1:(yD++jm++Xj z.cells (cap'-(n+m))).extract 0 ((n+m)* sz)=yD++jm:=by
   rw[<- aV];generalize yD++jm=q;apply Vz;simp[Array.toList_extract,List.extract_eq_take_drop]
  rw[e1];exact A9 JE kS
 ·rw[Xz,aV];have:(Xj z.cells (cap'-(n+m))).size=(cap'-(n+m))* sz:=by simp[Xj,h5]
  rw[this,<- Va];congr 1;omega
theorem GF(hc:Conc E V s.H){t t' e:TypeId}{sz n m cap:Nat}{z:SO}{base:Option U1}{av:AV}{v:SO}{en:End}{l l':List AV}{ty:TypeId}(ht:jF P t t'=some (e,sz,z))(hd:ap E (.sl n l en) (.slice base n cap))(cw:ap E av v)(hs:s.src sz av=some (m,l'))
  (hl:l.length=n* sz) (eB:l'.length=m* sz) (hb:n+m<=2^30) (JY:cap<n+m)
  (hK:∀r cs cap',V.fresh r->cG E (l++l') (cs.extract 0 ((n+m)* sz))->n+m<=cap'->cs.size=cap'* sz->K (.slice (some ⟨r,0,none⟩) (n+m) cap') (V.upd r (.cells cs e))):aN P V (Vw #[t,t'] ty #[.slice base n cap,v]) K Kp:=
 abL hc ht hd (by simp only[AS.src];rw[<- hl,TJ]) cw hs hl eB hb JY hK
theorem GG(hc:Conc E V s.H){t t' e:TypeId}{sz n cap:Nat}{z:SO}{base:Option U1}{av:AV}{v:SO}{l':List AV}{ty:TypeId}(ht:jF P t t'=some (e,sz,z))(cw:ap E av v)(hs:s.src sz av=some (0,l'))
  (eB:l'.length=0* sz) (hle:n<=cap) (hK:K (.slice base n cap) V):aN P V (Vw #[t,t'] ty #[.slice base n cap,v]) K Kp:=by
 obtain⟨i,d,h1,h2,h3,h4,h5,h6,h7,h8,h9⟩:=jF.out ht;unfold Vw;simp only[Vd,Vo,UJ];refine ec h1 ?_;dsimp only;refine jS h2 ?_;rw[h4];refine ec h8 ?_;refine ME (by cases d<;>first|rfl|exact absurd rfl (h9 _)) ?_;simp only[TO,if_false,YB,if_true];rw[GK cw hs];refine az (aq ?_);rw[if_pos (by omega)];refine az (CZ hc cw hs eB (SP _) λjm kS=> ?_);have zu:jm=#[]:=by
  have:=kS.1;apply Array.eq_empty_of_size_eq_zero;rw[this];simp
 subst zu;rw[UH];cases base with
 |none=>exact aq hK
 |some a=>
  dsimp only;unfold storeCells;exact az (aq (aq hK))
theorem abK(hc:Conc E V s.H){t t' e:TypeId}{sz n m cap:Nat}{z:SO}{b:Nat}{av:AV}{v:SO}{l':List AV}{ty:TypeId}{cs:Array SO}{el:TypeId}(ht:jF P t t'=some (e,sz,z))(cw:ap E av v)(hs:s.src sz av=some (m,l'))
  (eB:l'.length=m* sz) (hle:n+m<=cap) (ho:V.own b=some (.cells cs el (0,0))) (aV:cap* sz<=cs.size) (hi:∀o,n* sz<=o->V.ab b o=none) (hg:V.role.group≠some b/\V.role.chan≠some b) (nq:∀a∈l',a.leaf=true)
  (hK:∀jm,cG E l' jm->K (.slice (some ⟨b,0,none⟩) (n+m) cap) (V.upd b (.cells (storeAt cs (n* sz) jm.toList) el (0,0)))):aN P V (Vw #[t,t'] ty #[.slice (some ⟨b,0,none⟩) n cap,v]) K Kp:=by
 obtain⟨i,d,h1,h2,h3,h4,h5,h6,h7,h8,h9⟩:=jF.out ht;unfold Vw;simp only[Vd,Vo,UJ];refine ec h1 ?_;dsimp only;refine jS h2 ?_;rw[h4];refine ec h8 ?_;refine ME (by cases d<;>first|rfl|exact absurd rfl (h9 _)) ?_;simp only[TO,if_false,YB,if_true];rw[GK cw hs];refine az (aq ?_);rw[if_pos (by omega)];refine az (CZ hc cw hs eB (SP _) λjm kS=> ?_);rw[<- eB,TJ]at kS;rw[add_plain];have ug:(n+m)* sz<=cap* sz:=Uf _ hle;rw[Va]at ug;refine az (Aa _ 0 V cs hg.1 hg.2 ho (λo h _=>hi o (by omega)) (by have:=kS.1;simp;omega) (A_ kS nq) ?_);rw[Wp,UH];exact aq (hK jm kS)
end
def Env.tok (E:Env)(I:cq)(rm:Option U1×Nat)(v:Nat):Env:={E with I:=I,n:=E.n+1,room:=λk u=>if k=E.n/\u=v then rm else E.room k u,fu:=λk=>if k=E.n then v else E.fu k}
theorem Env.LC(E:Env){I:cq}(hI:∀b o v,E.I b o=some v->I b o=some v)(rm:Option U1×Nat)(v:Nat):E.Le (E.tok I rm v):=
 ⟨hI,YW _,λk hk=>rfl,λk hk=>by simp[Env.tok,VX hk],λk u hk _=>by simp[Env.tok,VX hk],rfl,rfl⟩
def Env.grow (E:Env)(I:cq)(k:Nat)(rm:Option U1×Nat)(v:Nat):Env:={E with I:=I,room:=λj u=>if j=k/\u=v then rm else E.room j u,fu:=λj=>if j=k then v else E.fu j}
theorem Env.aab(E:Env){I:cq}(hI:∀b o v,E.I b o=some v->I b o=some v){k:Nat}(rm:Option U1×Nat){v:Nat}(hv:E.fu k<v):E.Le (E.grow I k rm v):=
 ⟨hI,SP _,λ_ _=>rfl,λj _=>by
  simp only[Env.grow];split
  ·rename_i e;subst e;omega
  ·exact SP _,λj u _ hu=>by
  simp only[Env.grow];split
  ·rename_i e;obtain⟨rfl,rfl⟩:=e;omega
  ·rfl,rfl,rfl⟩
open Go.Conc
abbrev View.laid (V:View)(b:Nat)(cs:Array SO)(el:TypeId)(p:Nat->Bool):View:=(V.upd b (.cells cs el (0,0))).eE b cs p
theorem Ly{V:View}{b b':Nat}{cs:Array SO}{el:TypeId}{p:Nat->Bool}(h:b'≠b):(V.laid b cs el p).own b'=V.own b':=by simp[View.laid,View.eE,View.upd,h]
theorem Lx{V:View}{b b':Nat}{cs:Array SO}{el:TypeId}{p:Nat->Bool}(h:b'≠b)(o:Nat):(V.laid b cs el p).ab b' o=V.ab b' o:=by simp[View.laid,View.eE,View.upd,h]
theorem FV{V:View}{b:Nat}{cs:Array SO}{el:TypeId}{p:Nat->Bool}(hp:∀o,p o=true->V.ab b o=none):∀b' o v,V.ab b' o=some v->(V.laid b cs el p).ab b' o=some v:=λb' o v h=>by
 have hn:¬(b'=b/\p o=true):=λhb=>by obtain⟨rfl,h2⟩:=hb;rw[hp o h2]at h;cases h
 simp only[View.laid,View.eE,View.upd,if_neg hn];exact h
theorem FU{V:View}{b:Nat}{cs:Array SO}{el:TypeId}{p:Nat->Bool}{o:Nat}(h:p o=true):(V.laid b cs el p).ab b o=cs[o]?:=by simp[View.laid,View.eE,h]
theorem Lz{V:View}{b:Nat}{cs:Array SO}{el:TypeId}{p:Nat->Bool}:(V.laid b cs el p).own b=some (.cells cs el (0,0)):=by simp[View.laid,View.eE,View.upd]
theorem Ii{E:Env}{I:cq}{b n cap:Nat}{cs:Array SO}{l:List AV}{e:End}{sz:Nat}(hI:E.I=I)(hd:cG E l (cs.extract 0 (n* sz)))(hl:l.length=n* sz)(hs:n* sz<=cs.size)(hi:∀o,o<n* sz->I b o=cs[o]?)(hc:n<=cap)(he:pq E e (some ⟨b,0,none⟩) n cap):ap E (.sl n l e) (.slice (some ⟨b,0,none⟩) n cap):=by
 refine .sl b 0 cap (λi=>cs.getD i undef) hc he (λi h=> ?_) (λi x hx=> ?_)
 ·rw[hl]at h;have hlt:i<cs.size:=by omega
  rw[hI,Wp,hi i h];simp only[SI,SK hlt,S9]
 ·have cx:i<n* sz:=by rw[<- hl];exact(SM.1 hx).1
  have:=hd.2 i x hx;have hlt:i<cs.size:=by omega
  rw[SI,SK hlt];rw[SI]at this;rw[Array.getElem?_extract]at this;have Fb:i<min (n* sz) cs.size:=by omega
  simpa[cx,hlt,Fb]using this
section
variable {E:Env}{V:View}{H:List aa}
theorem Conc.MV(hc:Conc E V H){n:Nat}(sz:Nat)(el:TypeId)(a:Option U1):Conc (E.tok V.ab (a,n) n) V (H++[.tail n sz el])/\E.Le (E.tok V.ab (a,n) n):=by
 have hle:=E.LC (I:=V.ab) (λb o v h=>by rw[<- hc.I];exact h) (a,n) n;refine⟨hc.iz H.length (.tail n sz el) hle rfl (by simp[Env.tok,hc.n]) CC rfl (λj hj _=>by simp[Env.tok,hc.n,hj]) (λb y _ hy=>⟨hy,λ_=>rfl⟩) ?_ (λb h=> ?_),hle⟩
 ·rw[<- hc.n];exact⟨by simp[Env.tok],.inl (by simp[Env.tok])⟩
 ·rw[<- hc.n]at h;simp[bK,Env.tok]at h
theorem Conc.acE(hc:Conc E V H){r n cap sz:Nat}{el:TypeId}{cs:Array SO}(hf:V.fresh r)(hs:cs.size=cap* sz)(hn:n<=cap):
  Conc (E.tok (V.laid r cs el (·<n* sz)).ab (some ⟨r,0,none⟩,cap) n) (V.laid r cs el (·<n* sz)) (H++[.tail n sz el])/\E.Le (E.tok (V.laid r cs el (·<n* sz)).ab (some ⟨r,0,none⟩,cap) n):=by
 have hle:=E.LC (I:=(V.laid r cs el (·<n* sz)).ab) (λb o v h=>FV (λo _=>hf.2 o) b o v (by rw[<- hc.I];exact h)) (some ⟨r,0,none⟩,cap) n;refine⟨hc.iz H.length (.tail n sz el) hle rfl (by simp[Env.tok,hc.n]) CC rfl (λj hj _=>by simp[Env.tok,hc.n,hj]) (λb y _ hy=> ?_) ?_ (λb h=> .inr ?_),hle⟩
 ·have hb:b≠r:=λe=>by subst e;rw[hf.1]at hy;cases hy
  exact⟨by rw[Ly hb];exact hy,λo=>Lx hb o⟩
 ·rw[<- hc.n];refine⟨by simp[Env.tok],?_⟩;by_cases e:cap=n
  ·exact .inl (by simp[Env.tok,e])
  ·refine .inr ⟨r,cap,cs,by simp[Env.tok],Lz,hs,by omega,λo ho=> ?_⟩;have:¬(decide (o<n* sz)=true):=(by simpa using ho);simp only[View.laid,View.eE];rw[if_neg (λx=>this x.2)];exact hf.2 o
 ·rw[<- hc.n]at h;simp[bK,Env.tok]at h;obtain⟨_,rfl⟩:=h;exact hf.1
theorem Conc.aiS(hc:Conc E V H){k r n n' cap sz:Nat}{el fY:TypeId}{cs:Array SO}(hk:H[k]?=some (.tail n sz fY))(hf:V.fresh r)(hs:cs.size=cap* sz)(hn:n'<=cap)(hlt:n<n'):
  Conc (E.grow (V.laid r cs el (·<n'* sz)).ab k (some ⟨r,0,none⟩,cap) n') (V.laid r cs el (·<n'* sz)) (H.set k (.tail n' sz el))/\E.Le (E.grow (V.laid r cs el (·<n'* sz)).ab k (some ⟨r,0,none⟩,cap) n'):=by
 have zy:E.fu k=n:=(hc.obj k _ hk).1;have hle:=E.aab (I:=(V.laid r cs el (·<n'* sz)).ab) (λb o v h=>FV (λo _=>hf.2 o) b o v (by rw[<- hc.I];exact h)) (k:=k) (some ⟨r,0,none⟩,cap) (v:=n') (by omega);refine⟨hc.iz k (.tail n' sz el) hle rfl (by simpa[Env.grow]using hc.n) lf rfl (λj hj _=>by simp[Env.grow,hj]) (λb y _ hy=> ?_) ?_ (λb h=> .inr ?_),hle⟩
 ·have hb:b≠r:=λe=>by subst e;rw[hf.1]at hy;cases hy
  exact⟨by rw[Ly hb];exact hy,λo=>Lx hb o⟩
 ·refine⟨by simp[Env.grow],?_⟩;by_cases e:cap=n'
  ·exact .inl (by simp[Env.grow,e])
  ·refine .inr ⟨r,cap,cs,by simp[Env.grow],Lz,hs,by omega,λo ho=> ?_⟩;have:¬(decide (o<n'* sz)=true):=(by simpa using ho);simp only[View.laid,View.eE];rw[if_neg (λx=>this x.2)];exact hf.2 o
 ·simp[bK,Env.grow]at h;obtain⟨_,rfl⟩:=h;exact hf.1
theorem Conc.aiT(hc:Conc E V H){k b n n' cap sz:Nat}{el fY:TypeId}{cs eJ:Array SO}(hk:H[k]?=some (.tail n sz fY))(hrm:E.room k n=(some ⟨b,0,none⟩,cap))(ho:V.own b=some (.cells cs el (0,0)))(hi:∀o,n* sz<=o->V.ab b o=none)(hs:eJ.size=cap* sz)(hn:n'<=cap)(hlt:n<n'):
  Conc (E.grow (V.laid b eJ el (λo=>n* sz<=o&&o<n'* sz)).ab k (some ⟨b,0,none⟩,cap) n') (V.laid b eJ el (λo=>n* sz<=o&&o<n'* sz)) (H.set k (.tail n' sz el))/\E.Le (E.grow (V.laid b eJ el (λo=>n* sz<=o&&o<n'* sz)).ab k (some ⟨b,0,none⟩,cap) n'):=by
 have zy:E.fu k=n:=(hc.obj k _ hk).1;have hp:∀o,(λo=>decide (n* sz<=o)&&decide (o<n'* sz)) o=true->V.ab b o=none:=λo h=>hi o (by simp at h;exact h.1);have hle:=E.aab (I:=(V.laid b eJ el (λo=>n* sz<=o&&o<n'* sz)).ab) (λb o v h=>FV hp b o v (by rw[<- hc.I];exact h)) (k:=k) (some ⟨b,0,none⟩,cap) (v:=n') (by omega);have ku:bK E k (.tail n sz fY)=some b:=by
  simp only[bK,hrm];rw[if_neg (by omega)];rfl
 refine⟨hc.iz k (.tail n' sz el) hle rfl (by simpa[Env.grow]using hc.n) lf rfl (λj hj _=>by simp[Env.grow,hj]) (λb' y fl hy=> ?_) ?_ (λb' h=> .inl ⟨_,hk,?_⟩),hle⟩
 ·have hb:b'≠b:=λe=>by subst e;exact fl _ hk ku
  exact⟨by rw[Ly hb];exact hy,λo=>Lx hb o⟩
 ·refine⟨by simp[Env.grow],?_⟩;by_cases e:cap=n'
  ·exact .inl (by simp[Env.grow,e])
  ·have vP:n* sz<=n'* sz:=Uf _ (by omega);refine .inr ⟨b,cap,eJ,by simp[Env.grow],Lz,hs,by omega,λo ba=> ?_⟩;have:¬((decide (n* sz<=o)&&decide (o<n'* sz))=true):=(by simp;omega);simp only[View.laid,View.eE];rw[if_neg (λx=>this x.2)];exact hi o (by omega)
 ·simp[bK,Env.grow]at h;obtain⟨_,rfl⟩:=h;exact ku
end
section
variable {lv:Bool}{P:SJ}{r:Option Nat}{o:Tv}{s:AS}{next:AS->Prop}{bad:AV->AS->Prop}
def Am (s:AS)(dst:Option Nat)(next:AS->Prop)(n m sz:Nat)(elem:TypeId)(l l':List AV):End->Prop
 |.exact=>next ((⟨s.T,s.H++[.tail (n+m) sz elem]⟩:AS).put dst (.sl (n+m) (l++l') (.opn s.H.length)))
 |.opn k=>(match s.H[k]?with
   |some (.tail n' ep fY)=>n'=n/\ep=sz/\fY=elem
   |_=>False)/\(∀a∈l',a.leaf=true)/\next ((⟨s.T,s.H.set k (.tail (n+m) sz elem)⟩:AS).put dst (.sl (n+m) (l++l') (.opn k)))
 |.shut=>m=0/\next (s.put dst (.sl n l .shut))
theorem af9{E E':Env}{n:Nat}{l:List AV}{en:End}{base:Option U1}{cap:Nat}(h:ap E (.sl n l en) (.slice base n cap))(hl:E.Le E'){e':End}(he:pq E' e' base n cap):ap E' (.sl n l e') (.slice base n cap):=by
 cases h with
 |sl b o cap f hc _ h1 h2=>exact .sl b o cap f hc he (λi hi=>hl.I _ _ _ (h1 i hi)) (λi x hx=>(h2 i x hx).mono hl)
 |nil _=>exact .nil he
theorem step_append{c:Xn}{x y:Ti}{t t' elem:TypeId}{sz n m:Nat}{z:SO}{en:End}{l l':List AV}{av:AV}(ho:o.op=.call c)(aX:c.callee=.builtin .append)(cK:c.args=#[x,y]) (dQ:c.argTypes=#[t,t']) (ht:jF P t t'=some (elem,sz,z))
  (hx:s.ev x=some (.sl n l en)) (hy:s.ev y=some av) (hs:s.src sz av=some (m,l')) (hl:l.length=n* sz) (eB:l'.length=m* sz) (hb:n+m<=2^30) (hn:Am s o.dst next n m sz elem l l' en):Step lv P r o s next bad:=by
 intro E V a N Q hc aF hd bw h1 _;refine⟨bw,?_⟩;have dt:=ap.ev aF hx;have iF:=ap.ev aF hy;generalize j7:a.eval x=vx at dt;generalize ri:a.eval y=vy at iF;unfold execOp;rw[ho];dsimp only;unfold resolve;rw[aX];dsimp only;refine az (aq ?_);unfold invoke builtin;dsimp only;refine az ?_;have nu:c.args.map a.eval=#[vx,vy]:=by rw[cK];simp[j7,ri]
 rw[nu,dQ];obtain⟨base,cap,rfl⟩:∃base cap,vx=.slice base n cap:=by
  cases dt with
  |sl b o cap f dP he q1 q2=>exact⟨_,_,rfl⟩
  |nil he=>exact⟨_,_,rfl⟩
 have dP:n<=cap:=by
  cases dt with
  |sl b o cap f dP he q1 q2=>exact dP
  |nil he=>exact SP _
 have fin:∀E' V' H' (my:AV) v',E.Le E'->V'.role=V.role->V'.deaf=V.deaf->Conc E' V' H'->ap E' my v'->next ((⟨s.T,H'⟩:AS).put o.dst my)->aN P V' (pure (W1 v')) (mu lv P r o a N Q) (λv V'=>Q (.panic [{v,recovered:=false}]) a V'):=λE' V' H' my v' hle hr t_ bh bi cZ=>
  aq (h1 E' V' (a.put o.dst v') ((⟨s.T,H'⟩:AS).put o.dst my) ⟨hle,dX _ _ _,put_defers _ _ _,hr,t_⟩ (by rw[fe];exact bh) (b8.gN (s:=⟨s.T,H'⟩) (aF.mono hle) hd bi) cZ)
 have sP:(l++l').length=(n+m)* sz:=by rw[SQ,hl,eB,Va]
 cases en with
 |exact=>
  have gK:cap=n:=by
   cases dt with
   |sl b o cap f dP he q1 q2=>exact he
   |nil he=>rfl
  subst gK;have ky:=hn;simp only[Am]at ky;by_cases hm:m=0
  ·subst hm;have sF:l'=[]:=(by simpa using eB);subst sF;refine GG hc ht iF hs eB (SP _) ?_;obtain⟨bh,hle⟩:=hc.MV (n:=cap) sz elem base;refine fin _ V _ _ _ hle rfl rfl bh (af9 (e':=.opn s.H.length) dt hle ⟨?_,?_,?_⟩) (by simpa using ky)
   ·simp[Env.tok,hc.n]
   ·simp[Env.tok,hc.n]
   ·simp[Env.tok,hc.n]
  ·refine GF hc ht dt iF hs hl eB hb (by omega) λrr cs cap' hf bi hle aV=> ?_;obtain⟨bh,qW⟩:=hc.acE (el:=elem) hf aV hle;have um:(cap+m)* sz<=cs.size:=(by rw[aV];exact Uf _ hle);refine aN.ghost (w6 (f:=(0,0)) (cs:=cs) (el:=elem) (p:=(·<(cap+m)* sz)) (by simp[View.upd]) (λo _=>hf.2 o)) ?_;refine fin _ _ _ _ _ qW rfl rfl bh (Ii (I:=(V.laid rr cs elem (·<(cap+m)* sz)).ab) (e:=.opn s.H.length) (sz:=sz) (cs:=cs) rfl (bi.mono qW) sP um (λo h=>FU (by simpa using h)) hle ⟨?_,?_,?_⟩) ky
   ·simp[Env.tok,hc.n]
   ·simp[Env.tok,hc.n]
   ·simp[Env.tok,hc.n]
 |shut=>
  obtain⟨rfl,ky⟩:=hn;have sF:l'=[]:=by simpa using eB
  subst sF;refine GG hc ht iF hs eB dP ?_;exact fin E V s.H _ _ (Env.Le.refl E) rfl rfl hc dt ky
 |opn k=>
  obtain⟨zg,nq,ky⟩:=hn;split at zg
  ·rename_i n' ep fY hk;obtain⟨rfl,rfl,rfl⟩:=zg;have heo:pq E (.opn k) base n' cap:=by
    cases dt with
    |sl b o cap f dP he q1 q2=>exact he
    |nil he=>exact he
   obtain⟨e1,e2,e3⟩:=heo;obtain⟨zy,Ft⟩:=hc.obj k _ hk;have zq:s.H.set k (.tail n' ep fY)=s.H:=by
    apply Ym;intro i;by_cases hi:i=k
    ·subst hi;rw[W5 (SM.1 hk).1,hk]
    ·rw[T6 (Ne.symm hi)]
   by_cases hm:m=0
   ·subst hm;have sF:l'=[]:=(by simpa using eB);subst sF;refine GG hc ht iF hs eB dP ?_;refine fin E V s.H _ _ (Env.Le.refl E) rfl rfl hc dt ?_;rw[UH,zq,SY]at ky;exact ky
   ·by_cases pL:n'+m<=cap
    ·rcases Ft with Ft|⟨b,asp,cs,r1,r2,r3,r4,r5⟩
     ·rw[e3]at Ft;simp only at Ft;omega
     ·rw[e3]at r1;cases r1;have ku:bK E k (.tail n' ep fY)=some b:=by
       simp only[bK,e3];rw[if_neg (by omega)];rfl
      refine abK hc ht iF hs eB pL r2 (WE r3.symm) r5 (hc.ja hk ku) nq λjm kS=> ?_;have zu:jm.toList.length=m* ep:=(by have:=kS.1;simp;omega);have ug:(n'+m)* ep<=cap* ep:=Uf _ pL;rw[Va]at ug;have Fv:(storeAt cs (n'* ep) jm.toList).size=cap* ep:=(by rw[ya];exact r3);obtain⟨bh,qW⟩:=hc.aiT hk e3 r2 r5 Fv pL (by omega);refine aN.ghost (w6 (f:=(0,0)) (cs:=storeAt cs (n'* ep) jm.toList) (el:=fY) (p:=λo=>n'* ep<=o&&o<(n'+m)* ep) (by simp[View.upd]) (λo h=>r5 o (by simp at h;exact h.1))) ?_;refine fin _ _ _ _ _ qW rfl rfl bh ?_ ky;cases dt with
      |nil he=>exact absurd pL (by omega)
      |sl b' o' cap f EL he q1 q2=>
       have q1':∀i,i<l.length->V.ab b i=some (f i):=λi hi=>(by have:=q1 i hi;rwa [hc.I,Wp]at this);refine .sl b 0 cap (λi=>if i<n'* ep then f i else(storeAt cs (n'* ep) jm.toList).getD i undef) (by omega) ⟨?_,?_,?_⟩ (λi hi=> ?_) (λi x hx=> ?_)
       ·exact e1
       ·simp[Env.grow]
       ·simp[Env.grow]
       ·rw[sP,Va]at hi;show (V.laid b (storeAt cs (n'* ep) jm.toList) fY (λo=>n'* ep<=o&&o<(n'+m)* ep)).ab b (0+i)=_;rw[Wp];by_cases cx:i<n'* ep
        ·rw[if_pos cx];exact FV (λo h=>r5 o (by simp at h;exact h.1)) _ _ _ (q1' i (by omega))
        ·rw[if_neg cx,FU (by simp[Va];omega)];have hlt:i<(storeAt cs (n'* ep) jm.toList).size:=(by rw[Fv];omega);simp only[SI,SK hlt,S9]
       ·by_cases cx:i<n'* ep
        ·rw[SZ (by omega)]at hx;rw[if_pos cx];exact(q2 i x hx).mono qW
        ·rw[Tj (by omega)]at hx;have uc:i-l.length<l'.length:=(SM.1 hx).1;rw[if_neg cx,C7 _ _ _ _ (by rw[zu,r3];omega),if_pos (by rw[zu];omega)];have:=(kS.2 _ _ hx).mono qW;rw[hl]at this;simpa[SI,SF]using this
    ·refine GF hc ht dt iF hs hl eB hb (by omega) λrr cs cap' hf bi hle aV=> ?_;obtain⟨bh,qW⟩:=hc.aiS (el:=fY) (n':=n'+m) hk hf aV hle (by omega);have um:(n'+m)* ep<=cs.size:=(by rw[aV];exact Uf _ hle);refine aN.ghost (w6 (f:=(0,0)) (cs:=cs) (el:=fY) (p:=(·<(n'+m)* ep)) (by simp[View.upd]) (λo _=>hf.2 o)) ?_;refine fin _ _ _ _ _ qW rfl rfl bh (Ii (I:=(V.laid rr cs fY (·<(n'+m)* ep)).ab) (e:=.opn k) (sz:=ep) (cs:=cs) rfl (bi.mono qW) sP um (λo h=>FU (by simpa using h)) hle ⟨?_,?_,?_⟩) ky
     ·exact e1
     ·simp[Env.grow]
     ·simp[Env.grow]
  ·exact zg.elim
def Env.gS (E:Env)(r:Nat)(I:cq)(c:Nat):Env:={E with I:=I,n:=E.n+1,blk:=λk=>if k=E.n then r else E.blk k,room:=λk u=>if k=E.n/\u=0 then(none,c)else E.room k u}
theorem Env.CB(E:Env)(r c:Nat){I:cq}(hI:∀b o v,E.I b o=some v->I b o=some v):E.Le (E.gS r I c):=
 ⟨hI,YW _,λk hk=>by simp[Env.gS,VX hk],λ_ _=>SP _,λk u hk _=>by simp[Env.gS,VX hk],rfl,rfl⟩
theorem Env.wJ(E:Env)(r c:Nat)(I:cq):(E.gS r I c).blk E.n=r:=by simp[Env.gS]
theorem Env.HH(E:Env)(r c:Nat)(I:cq):(E.gS r I c).room E.n 0=(none,c):=by simp[Env.gS]
theorem Conc.gS{E:Env}{V:View}{H:List aa}(hc:Conc E V H){r c:Nat}(hf:V.fresh r){cs:Array SO}{sz:Nat}{l:List AV}{el:TypeId}(hd:jU (E.gS r V.ab c) l cs)(hs:cs.size=c* sz):Conc (E.gS r V.ab c) (V.upd r (.cells cs el)) (H++[.own sz l el]):=by
 refine hc.iz (E':=E.gS r V.ab c) H.length (.own sz l el) (E.CB r c (λb o v h=>by rw[<- hc.I];exact h)) rfl (by simp[Env.gS,hc.n]) CC rfl (λ_ _ _=>rfl) (λb z _ hz=>⟨?_,λ_=>rfl⟩) ?_ (λb h=> .inr ?_)
 ·have:b≠r:=λe=>by rw[e,hf.1]at hz;cases hz
  simpa[View.upd,this]using hz
 ·rw[<- hc.n];refine⟨⟨cs,by rw[Env.wJ];simp[View.upd],hd,by rw[Env.HH];exact hs⟩,λo=> ?_⟩;rw[Env.wJ];exact hf.2 o
 ·rw[<- hc.n]at h;simp only[bK,Env.wJ,Tl]at h;subst h;exact hf.1
theorem Ig{E:Env}{H:List aa}(hn:E.n=H.length){r c n:Nat}(I:cq)(h:n<=c){cap:Nat}(oi:n<=cap)(hc:cap<=c)(h0:0<n):ap (E.gS r I c) (.bE H.length 0 n 0) (.slice (some ⟨r,0,none⟩) n cap):=by
 have:=ap.bE (E:=E.gS r I c) (id:=H.length) (off:=0) (n:=n) (cap:=0) (cap':=cap) (by show _<E.n+1;rw[hn];omega) ⟨oi,λe=>by omega,λ_=>by rw[<- hn,Env.HH];exact hc⟩;have e:(E.gS r I c).blk H.length=r:=by rw[<- hn];exact E.wJ r c I
 rwa [e]at this
theorem Conc.relabel{E:Env}{V:View}{H:List aa}(hc:Conc E V H){id sz:Nat}{l:List AV}{el:TypeId}(hk:H[id]?=some (.own sz l el)):Conc (E.gS (E.blk id) V.ab (E.room id 0).2) V (H.set id .gone++[.own sz l el]):=by
 have hle:=E.CB (E.blk id) (E.room id 0).2 (I:=V.ab) (λb o v h=>by rw[<- hc.I];exact h);have asF:=(SM.1 hk).1;have hlt:∀(j:Nat) y,H[j]?=some y->j<E.n:=λj y h=>by rw[hc.n];exact(SM.1 h).1
 have qU:∀(j:Nat) y,(H.set id .gone++[aa.own sz l el])[j]?=some y->(j=H.length/\y=.own sz l el)\/(j=id/\y=.gone)\/(j≠id/\H[j]?=some y):=λj y h=>by
  rcases CC j y h with⟨h1,h2⟩|⟨_,h⟩
  ·exact .inl ⟨by simpa using h1,h2⟩
  ·rcases lf j y h with h|h
   ·exact .inr (.inl h)
   ·exact .inr (.inr h)
 have cL:∀(j:Nat) y b,H[j]?=some y->bK (E.gS (E.blk id) V.ab (E.room id 0).2) j y=some b->bK E j y=some b:=λj y b h e=>by rw[<- N9 hle (hlt j y h) (hc.obj j y h)];exact e
 have vO:∀b,bK (E.gS (E.blk id) V.ab (E.room id 0).2) H.length (.own sz l el)=some b->b=E.blk id:=λb e=>by
  simp only[bK,<- hc.n,Env.wJ,Tl]at e;exact e.symm
 have fl:∀g,(∀(k:Nat) x,H[k]?=some x->bK E k x≠some g)->∀(k:Nat) x,(H.set id .gone++[aa.own sz l el])[k]?=some x->bK (E.gS (E.blk id) V.ab (E.room id 0).2) k x≠some g:=λg h0 k x hx e=>by
  rcases qU k x hx with⟨rfl,rfl⟩|⟨_,rfl⟩|⟨_,hx⟩
  ·have:=vO g e;exact h0 id _ hk (by rw[this];rfl)
  ·cases e
  ·exact h0 k x hx (cL k x g hx e)
 refine⟨rfl,by simp[Env.gS,hc.n],λj y h=> ?_,λi j y z b h1 h2 e1 e2=> ?_,λg hg=> ?_,λg hg=> ?_,λhm=>hc.top hm,λb y hf=> ?_⟩
 ·rcases qU j y h with⟨rfl,rfl⟩|⟨_,rfl⟩|⟨_,h⟩
  ·obtain⟨⟨cs,q1,q2,q3⟩,q4⟩:=hc.obj id _ hk;rw[<- hc.n];refine⟨⟨cs,by rw[Env.wJ];exact q1,q2.mono hle,by rw[Env.HH];exact q3⟩,λo=> ?_⟩;rw[Env.wJ];exact q4 o
  ·trivial
  ·exact(hc.obj j y h).mono hle (hlt j y h) rfl (λ_ _ _ h=>h) (λ_ _ _=>rfl)
 ·rcases qU i y h1 with⟨rfl,rfl⟩|⟨_,rfl⟩|⟨hi,h1⟩
  ·rcases qU j z h2 with⟨rfl,rfl⟩|⟨_,rfl⟩|⟨hj,h2⟩
   ·rfl
   ·cases e2
   ·have:=vO b e1;exact absurd (hc.inj id j _ z b hk h2 (by rw[this];rfl) (cL j z b h2 e2)).symm hj
  ·cases e1
  ·rcases qU j z h2 with⟨rfl,rfl⟩|⟨_,rfl⟩|⟨hj,h2⟩
   ·have:=vO b e2;exact absurd (hc.inj id i _ y b hk h1 (by rw[this];rfl) (cL i y b h1 e1)).symm hi
   ·cases e2
   ·exact hc.inj i j y z b h1 h2 (cL i y b h1 e1) (cL j z b h2 e2)
 ·obtain⟨h0,h1,h2⟩:=hc.group g hg;exact⟨h0,h1,fl g h2⟩
 ·obtain⟨h0,h1,h2⟩:=hc.chan g hg;exact⟨h0,h1,fl g h2⟩
 ·obtain⟨h0,h1,h2⟩:=hc.fr b y hf;exact⟨h0,h1,fl b h2⟩
theorem Conc.leave{E:Env}{V:View}{H:List aa}(hc:Conc E V H)(id:Nat):Conc E V (H.set id .gone):=
 hc.iz id .gone (Env.Le.refl E) hc.I (by simpa using hc.n) lf rfl (λ_ _ _=>rfl) (λ_ _ _ hy=>⟨hy,λ_=>rfl⟩) trivial (λb h=>by cases h)
theorem agb{E:Env}{l l':List AV}{cs vs:Array SO}(h:jU E l cs)(k:cG E l' vs)(hl:l.length+l'.length<=cs.size):jU E (l++l') (storeAt cs l.length vs.toList):=by
 have hv:vs.toList.length=l'.length:=by simpa using k.1
 refine⟨by rw[ya,SQ];exact hl,λi a e=> ?_⟩;rw[C7 _ _ _ _ (by rw[hv];exact hl),hv];by_cases h1:i<l.length
 ·rw[if_neg (by omega)];rw[SZ h1]at e;exact h.2 i a e
 ·rw[Tj (by omega)]at e;have h2:=(SM.1 e).1;rw[if_pos ⟨by omega,by omega⟩];have:=k.2 _ a e;simpa[SI,SF]using this
theorem OL{E:Env}{l:List AV}{cs:Array SO}{k:Nat}(h:cG E l (cs.extract 0 k))(hk:l.length=k)(hs:k<=cs.size):jU E l cs:=by
 refine⟨by omega,λi a e=> ?_⟩;have hi:=(SM.1 e).1;have fM:i<cs.size:=by omega
 have:=h.2 i a e;rw[SI,Array.getElem?_extract_of_lt (by omega)]at this;rw[SI];simpa[SK fM]using this
theorem acg{c:Xn}{x y:Ti}{t t' elem:TypeId}{sz n m:Nat}{z:SO}{l l':List AV}{av:AV}(ho:o.op=.call c)(aX:c.callee=.builtin .append)(cK:c.args=#[x,y]) (dQ:c.argTypes=#[t,t']) (ht:jF P t t'=some (elem,sz,z))
  (hx:s.ev x=some (.sl n l .exact)) (hy:s.ev y=some av) (hs:s.src sz av=some (m,l')) (hl:l.length=n* sz) (eB:l'.length=m* sz) (hb:n+m<=2^30) (hm:0<m) (hn:next ((⟨s.T,s.H++[.own sz (l++l') elem]⟩:AS).put o.dst (.bE s.H.length 0 (n+m) 0))):Step lv P r o s next bad:=by
 intro E V a N Q hc aF hd bw h1 _;refine⟨bw,?_⟩;have dt:=ap.ev aF hx;have iF:=ap.ev aF hy;generalize j7:a.eval x=vx at dt;generalize ri:a.eval y=vy at iF;unfold execOp;rw[ho];dsimp only;unfold resolve;rw[aX];dsimp only;refine az (aq ?_);unfold invoke builtin;dsimp only;refine az ?_;have nu:c.args.map a.eval=#[vx,vy]:=by rw[cK];simp[j7,ri]
 rw[nu,dQ];obtain⟨base,cap,rfl⟩:∃base cap,vx=.slice base n cap:=by
  cases dt with
  |sl b o cap f dP he q1 q2=>exact⟨_,_,rfl⟩
  |nil he=>exact⟨_,_,rfl⟩
 have gK:cap=n:=by
  cases dt with
  |sl b o cap f dP he q1 q2=>exact he
  |nil he=>rfl
 subst gK;refine GF hc ht dt iF hs hl eB hb (by omega) λrr cs cap' hf bi hle aV=> ?_;have sP:(l++l').length=(cap+m)* sz:=by rw[SQ,hl,eB,Va]
 have um:(cap+m)* sz<=cs.size:=by rw[aV];exact Uf _ hle
 have oh:E.Le (E.gS rr V.ab cap'):=E.CB rr cap' (λb o v h=>by rw[<- hc.I];exact h);have bh:=hc.gS (el:=elem) (c:=cap') hf ((OL bi sP um).mono oh) aV;have oP:=Ig hc.n (r:=rr) V.ab hle (n:=cap+m) (cap:=cap') hle (SP _) (by omega);exact aq (h1 _ _ (a.put o.dst _) _ ⟨oh,dX _ _ _,put_defers _ _ _,rfl,rfl⟩ (by rw[fe];exact bh) (b8.gN (s:=⟨s.T,s.H++[.own sz (l++l') elem]⟩) (aF.mono oh) hd oP) hn)
theorem acf{c:Xn}{x y:Ti}{t t' elem el:TypeId}{sz n m c0 id:Nat}{z:SO}{l l':List AV}{av:AV}(ho:o.op=.call c)(aX:c.callee=.builtin .append)(cK:c.args=#[x,y]) (dQ:c.argTypes=#[t,t']) (ht:jF P t t'=some (elem,sz,z))
  (hx:s.ev x=some (.bE id 0 n c0)) (xh:c0<n) (bR:s.H[id]?=some (.own sz l el)) (hel:el=elem) (hy:s.ev y=some av) (hs:s.src sz av=some (m,l')) (hl:l.length=n* sz) (eB:l'.length=m* sz) (hb:n+m<=2^30) (nq:∀a∈l',a.leaf=true) (hn:next ((⟨s.T,s.H.set id .gone++[.own sz (l++l') elem]⟩:AS).put o.dst (.bE s.H.length 0 (n+m) 0))):Step lv P r o s next bad:=by
 subst hel;intro E V a N Q hc aF hd bw h1 _;refine⟨bw,?_⟩;have dt:=ap.ev aF hx;have iF:=ap.ev aF hy;generalize j7:a.eval x=vx at dt;generalize ri:a.eval y=vy at iF;unfold execOp;rw[ho];dsimp only;unfold resolve;rw[aX];dsimp only;refine az (aq ?_);unfold invoke builtin;dsimp only;refine az ?_;have nu:c.args.map a.eval=#[vx,vy]:=by rw[cK];simp[j7,ri]
 rw[nu,dQ];have ajG:=dt;have sP:(l++l').length=(n+m)* sz:=by rw[SQ,hl,eB,Va]
 have dw:s.src sz (.bE id 0 n c0)=some (n,l):=by
  simp only[AS.src];rw[bR];simp only[Xw];rw[<- hl,TJ]
 cases dt with
 |bE hi dP=>
  rename_i cap';obtain⟨q1,_,q3⟩:=dP;have q3:=q3 xh;obtain⟨⟨cs,p1,p2,p3⟩,p4⟩:=hc.obj id _ bR;by_cases pL:n+m<=cap'
  ·have n5:(n+m)* sz<=cap'* sz:=Uf _ pL;have xe:cap'* sz<=cs.size:=(by rw[p3];exact Uf _ q3);refine abK hc ht iF hs eB pL p1 xe (λo _=>p4 o) (hc.ja bR rfl) nq λjm kS=> ?_;have JF:jU E (l++l') (storeAt cs (n* sz) jm.toList):=by
    rw[<- hl];exact agb p2 kS (by rw[<- SQ,sP];omega)
   have di:=hc.abX bR JF (by rw[ya];exact p3);have qU:(s.H.set id (.own sz (l++l') el))[id]?=some (.own sz (l++l') el):=(by rw[W5 ((SM.1 bR).1)]);have cM:=di.relabel qU;rw[W4]at cM;have oh:E.Le (E.gS (E.blk id) V.ab (E.room id 0).2):=E.CB _ _ (λb o v h=>by rw[<- hc.I];exact h);have oP:ap (E.gS (E.blk id) V.ab (E.room id 0).2) (.bE s.H.length 0 (n+m) 0) (.slice (some ⟨E.blk id,0,none⟩) (n+m) cap'):=Ig hc.n V.ab (by omega) pL q3 (by omega);exact aq (h1 _ _ (a.put o.dst _) _ ⟨oh,dX _ _ _,put_defers _ _ _,rfl,rfl⟩ (by rw[fe];exact cM) (b8.gN (s:=⟨s.T,s.H.set id .gone++[.own sz (l++l') el]⟩) (aF.mono oh) hd oP) hn)
  ·refine abL hc ht ajG dw iF hs hl eB hb (by omega) λrr eJ A6 hf bi hle aV=> ?_;have um:(n+m)* sz<=eJ.size:=(by rw[aV];exact Uf _ hle);have oh:E.Le (E.gS rr V.ab A6):=E.CB rr A6 (λb o v h=>by rw[<- hc.I];exact h);have EK:=hc.leave id;have bh:=EK.gS (el:=el) (c:=A6) hf ((OL bi sP um).mono oh) aV;have oP:ap (E.gS rr V.ab A6) (.bE s.H.length 0 (n+m) 0) (.slice (some ⟨rr,0,none⟩) (n+m) A6):=Ig hc.n V.ab hle hle (SP _) (by omega);exact aq (h1 _ _ (a.put o.dst _) _ ⟨oh,dX _ _ _,put_defers _ _ _,rfl,rfl⟩ (by rw[fe];exact bh) (b8.gN (s:=⟨s.T,s.H.set id .gone++[.own sz (l++l') el]⟩) (aF.mono oh) hd oP) hn)
end
open Go.Conc
theorem bG(n:Int)(h: -9223372036854775808<=n/\n<=9223372036854775807):SE.wrap n=n:=by
 have e:SE.wrap n=if n % 18446744073709551616>=9223372036854775808 then n % 18446744073709551616-18446744073709551616 else n % 18446744073709551616:=by
  unfold W_;simp[as',as_]
 rw[e];split<;>omega
def cr (P:SJ){α:Type}(s:Sem α)(x:α):Prop:=∀w es,s.runT P w es=(.ok x w,es)
theorem cr.ok{P:SJ}{α:Type}{V:View}{s:Sem α}{x:α}{K:α->View->Prop}{Kp:SO->View->Prop}(h:cr P s x)(hk:K x V):aN P V s K Kp:=
 λw hw eQ=>⟨#[],w,V,by simpa[fC]using da.idle hw,.inl ⟨x,by rw[h w eQ];simp,hk⟩⟩
theorem cr.bind{P:SJ}{α β:Type}{V:View}{s:Sem α}{x:α}{f:α->Sem β}{K:β->View->Prop}{Kp:SO->View->Prop}(h:cr P s x)(hk:aN P V (f x) K Kp):aN P V (s>>=f) K Kp:=
 az (h.ok hk)
def AV.uY:AV->Option Int
 |.val (.int _ n)=>some n
 |_=>none
theorem ap.uY{E:Env}{a:AV}{v:SO}{n:Int}(hd:ap E a v)(h:a.uY=some n):∃k,v=.int k n:=by
 cases hd with
 |val x=>unfold AV.uY at h;split at h<;>simp_all
 |_=>cases h
def AS.iS (s:AS):Option Ti->Option (Option Int)
 |none=>some none
 |some x=>match s.ev x with
  |some a=>a.uY.map some
  |none=>none
theorem yy{E:Env}{s:AS}{a:Act}(k:b8 E s.T a.tmps){x:Option Ti}{i:Option Int}(h:s.iS x=some i):(i=none/\x.map a.eval=none)\/∃n kd,i=some n/\x.map a.eval=some (.int kd n):=by
 cases x with
 |none=>cases h;exact .inl ⟨rfl,rfl⟩
 |some x=>
  simp only[AS.iS]at h;split at h
  ·rename_i av hav;obtain⟨n,hn,rfl⟩:=kM h;obtain⟨kd,hv⟩:=(ap.ev k hav).uY hn;exact .inr ⟨n,kd,rfl,by simp[hv]⟩
  ·cases h
section
variable {P:SJ}{V:View}{Kp:SO->View->Prop}
theorem z_{kd:TU}{n:Int}{y:Nat}{code:BoundsCode}{K:Nat->View->Prop}(h0:0<=n)(h1:n<=y)(h:K n.toNat V):aN P V (Zi (.int kd n) y code) K Kp:=by
 unfold Zi asIntOf;refine az (aq ?_);dsimp only;rw[if_pos ⟨h0,h1⟩];exact aq h
theorem MF{E:Env}{s:AS}{a:Act}(k:b8 E s.T a.tmps){isS:Bool}{len cap:Nat}{lo hi mx:Option Ti}{l h m:Option Int}(hl:s.iS lo=some l)(hh:s.iS hi=some h)(hm:s.iS mx=some m){K:Nat×Nat×Nat->View->Prop}
  (hlc:len<=cap) (c0:0<=l.getD 0) (c1:l.getD 0<=h.getD len) (c2:h.getD len<=m.getD cap) (c3:m.getD cap<=cap) (c4:m.isSome=true->h.isSome=true) (hK:K ((l.getD 0).toNat,(h.getD len).toNat,(m.getD cap).toNat) V):
  aN P V (Y9 isS len cap (lo.map a.eval) (hi.map a.eval) (mx.map a.eval)) K Kp:=by
 unfold Y9;rcases yy k hm with⟨rfl,em⟩|⟨vm,km,rfl,em⟩
 ·rw[em];refine az (aq ?_);rcases yy k hh with⟨rfl,eh⟩|⟨vh,kh,rfl,eh⟩
  ·rw[eh];refine az (aq ?_);rcases yy k hl with⟨rfl,el⟩|⟨vl,kl,rfl,el⟩
   ·rw[el];exact az (aq (aq (by simpa using hK)))
   ·rw[el];simp only[S9,Vl]at c0 c1 c2;exact az (z_ c0 c1 (aq (by simpa using hK)))
  ·rw[eh];simp only[S9,Vl]at c0 c1 c2 c3;refine az (z_ (by omega) c2 ?_);rcases yy k hl with⟨rfl,el⟩|⟨vl,kl,rfl,el⟩
   ·rw[el];exact az (aq (aq (by simpa using hK)))
   ·rw[el];simp only[S9,Vl]at c0 c1 c2;exact az (z_ c0 (by omega) (aq (by simpa using hK)))
 ·rw[em];simp only[S9,Option.isSome_some,true_implies]at c2 c3 c4;rcases yy k hh with⟨rfl,eh⟩|⟨vh,kh,rfl,eh⟩
  ·cases c4
  ·rw[eh];simp only[S9]at c1 c2 c0;refine az (z_ (by omega) c3 ?_);refine az (z_ (by omega) (by omega) ?_);rcases yy k hl with⟨rfl,el⟩|⟨vl,kl,rfl,el⟩
   ·rw[el];exact az (aq (aq (by simpa using hK)))
   ·rw[el];simp only[S9]at c0 c1;exact az (z_ c0 (by omega) (aq (by simpa using hK)))
end
def wE (n:Nat)(l:List AV)(e:End)(sz:Nat)(lo hi mx:Option Int)(k:AV->Prop):Prop:=
 l.length=n* sz/\0<=lo.getD 0/\lo.getD 0<=hi.getD n/\hi.getD n<=mx.getD n/\mx.getD n<=n/\(mx.isSome=true->hi.isSome=true)/\
 k (.sl ((hi.getD n).toNat-(lo.getD 0).toNat) ((l.drop ((lo.getD 0).toNat* sz)).take (((hi.getD n).toNat-(lo.getD 0).toNat)* sz))
  (if mx.isSome&&mx.getD n==hi.getD n then .exact else if lo.getD 0==0&&hi.getD n==n&&mx.isNone then e else .shut))
def ki (P:SJ)(t:TypeId):Option (TypeId×Nat):=match P.underlying t with
 |some (.slice e)=>(P.info? e).map λi=>(e,i.size)
 |_=>none
def wA (P:SJ)(t:TypeId):Option (Nat×Nat):=match P.underlying t with
 |some (.array n e)=>(P.info? e).map λi=>(n,i.size)
 |_=>none
open Go.Conc
section
variable {lv:Bool}{P:SJ}{r:Option Nat}{o:Tv}{s:AS}{next:AS->Prop}{bad:AV->AS->Prop}
theorem aot{t e:TypeId}{x:Ti}{lo hi mx:Option Ti}{l h m:Option Int}{n sz:Nat}{li:List AV}{en:End}(ho:o.op=.slice t x lo hi mx)(ht:ki P t=some (e,sz))(hx:s.ev x=some (.sl n li en))(hl:s.iS lo=some l)(hh:s.iS hi=some h)(hm:s.iS mx=some m)
  {k:AV->Prop} (hc:wE n li en sz l h m k):∃av,dz lv P r o s av/\k av:=by
 obtain⟨hlen,c0,c1,c2,c3,c4,hk⟩:=hc;refine⟨_,iM (λE V a hc aF=> ?_),hk⟩;have hd:=ap.ev aF hx;generalize hv:a.eval x=v at hd;unfold ki at ht;split at ht
 ·rename_i e' hu;obtain⟨i,cx,ht⟩:=kM ht;cases ht;unfold execOp;rw[ho];simp only[hv];refine az ?_;unfold Yi;refine ec hu ?_;dsimp only;unfold ZV;refine ec hu ?_;obtain⟨base,cap,rfl⟩:∃base cap,v=.slice base n cap:=by
   cases hd with
   |sl b o cap f dP he q1 q2=>exact⟨_,_,rfl⟩
   |nil he=>exact⟨_,_,rfl⟩
  have dP:n<=cap:=by
   cases hd with
   |sl b o cap f dP he q1 q2=>exact dP
   |nil he=>exact SP _
  dsimp only;have hmm:m.getD (cap:Int)=if m.isSome then m.getD n else cap:=by cases m<;>simp
  refine az (MF aF hl hh hm dP c0 c1 ?_ ?_ c4 ?_)
  ·cases m with
   |none=>simp only[Vl]at c2⊢;omega
   |some m=>simpa using c2
  ·cases m with
   |none=>simp
   |some m=>simp only[S9]at c3⊢;omega
  refine jS cx ?_;refine aq (aq ⟨rfl,_,rfl,?_⟩);generalize hA:(l.getD 0).toNat=A;generalize hB:(h.getD (n:Int)).toNat=B;have PV:A<=B:=by omega
  have hBn:B<=n:=by omega
  generalize hM:(m.getD (cap:Int)).toNat=M;have hBM:B<=M:=by
   cases m with
   |none=>simp only[Vl]at hM;omega
   |some m=>simp only[S9]at hM c2;omega
  cases hd with
  |nil he=>
   have Eu:A=0:=(by omega);have hB0:B=0:=(by omega);have hM0:M=0:=by
    cases m with
    |none=>simp only[Vl]at hM;omega
    |some m=>simp only[S9]at hM c3;omega
   rw[Eu,hB0,hM0];simp only[if_true,ZU,ZY,ai'];refine .nil ?_;split
   ·rfl
   ·split
    ·exact he
    ·trivial
  |sl b o cap f dP he q1 q2=>
   have BA:(if M=A then some (⟨b,o,none⟩:U1)else(some (⟨b,o,none⟩:U1)).map λx=>x.add (A* i.size))=some ⟨b,if M=A then o else o+A* i.size,none⟩:=by
    split
    ·rfl
    ·simp only[UN,add_plain]
   rw[BA];have hb:(B-A)* i.size+A* i.size<=n* i.size:=(by rw[<- Va];exact Uf _ (by omega));refine .sl b _ (M-A) (λj=>f (A* i.size+j)) (by omega) ?_ (λj hj=> ?_) (λj y hj=> ?_)
   ·split
    ·rename_i hx;simp only[Tc,beq_iff_eq]at hx;cases m with
     |none=>simp at hx
     |some m=>
      simp only[S9]at hM hx;show M-A=B-A;omega
    ·split
     ·rename_i hx;simp only[Tc,beq_iff_eq]at hx;obtain⟨⟨x1,x2⟩,x3⟩:=hx;have:A=0:=(by omega);have:B=n:=(by omega);cases m with
      |some m=>cases x3
      |none=>
       simp only[Vl]at hM;have hMc:M=cap:=(by omega);subst hMc;have e1:M-A=M:=(by omega);have e2:B-A=n:=(by omega);have e3:(if M=A then o else o+A* i.size)=o:=(by split<;>simp_all);rw[e1,e2,e3];exact he
     ·trivial
   ·simp only[TZ,Uj]at hj;have hMA:M≠A:=by
     intro e;have:B-A=0:=(by omega);rw[this]at hj;omega
    rw[if_neg hMA,XC];exact q1 _ (by omega)
   ·rw[Uc]at hj;split at hj
    ·rw[Uo]at hj;exact q2 _ _ hj
    ·cases hj
 ·cases ht
def rU (id off n cap sz:Nat)(lo hi mx:Option Int)(k:AV->Prop):Prop:=
 n<=cap/\0<=lo.getD 0/\lo.getD 0<=hi.getD n/\hi.getD n<=mx.getD cap/\mx.getD cap<=cap/\(mx.isSome=true->hi.isSome=true)/\(lo.getD 0=0\/lo.getD 0<mx.getD cap)/\
 k (.bE id (off+(lo.getD 0).toNat* sz) ((hi.getD n).toNat-(lo.getD 0).toNat) ((mx.getD cap).toNat-(lo.getD 0).toNat))
theorem aov{t e:TypeId}{x:Ti}{lo hi mx:Option Ti}{l h m:Option Int}{id off n cap sz:Nat}(ho:o.op=.slice t x lo hi mx)(ht:ki P t=some (e,sz))(hx:s.ev x=some (.bE id off n cap))(hl:s.iS lo=some l)(hh:s.iS hi=some h)(hm:s.iS mx=some m)
  {k:AV->Prop} (hc:rU id off n cap sz l h m k):∃av,dz lv P r o s av/\k av:=by
 obtain⟨hlen,c0,c1,c2,c3,c4,c5,hk⟩:=hc;refine⟨_,iM (λE V a hc aF=> ?_),hk⟩;have hd:=ap.ev aF hx;generalize hv:a.eval x=v at hd;unfold ki at ht;split at ht
 ·rename_i e' hu;obtain⟨i,cx,ht⟩:=kM ht;cases ht;unfold execOp;rw[ho];simp only[hv];refine az ?_;unfold Yi;refine ec hu ?_;dsimp only;unfold ZV;refine ec hu ?_;cases hd with
  |bE bR dP=>
   rename_i cap';obtain rfl:cap=cap':=dP.2.1 hlen;dsimp only;refine az (MF aF hl hh hm hlen c0 c1 c2 c3 c4 ?_);refine jS cx ?_;refine aq (aq ⟨rfl,_,rfl,?_⟩);have BA:(if(m.getD (cap:Int)).toNat=(l.getD 0).toNat then some (⟨E.blk id,off,none⟩:U1)else(some (⟨E.blk id,off,none⟩:U1)).map λx=>x.add ((l.getD 0).toNat* i.size))=some ⟨E.blk id,off+(l.getD 0).toNat* i.size,none⟩:=by
    split
    ·have:(l.getD 0).toNat=0:=(by omega);rw[this];simp
    ·simp only[UN,add_plain]
   rw[BA];exact .bE bR ⟨by dsimp only;omega,λ_=>rfl,λh=>absurd h (by omega)⟩
 ·cases ht
theorem aou{t:TypeId}{x:Ti}{lo hi mx:Option Ti}{l h m:Option Int}{id off n sz:Nat}(ho:o.op=.slice t x lo hi mx)(ht:wA P t=some (n,sz))(hx:s.ev x=some (.op id off))(hl:s.iS lo=some l)(hh:s.iS hi=some h)(hm:s.iS mx=some m)
  {k:AV->Prop} (hc:rU id off n n sz l h m k):∃av,dz lv P r o s av/\k av:=by
 obtain⟨hlen,c0,c1,c2,c3,c4,c5,hk⟩:=hc;refine⟨_,iM (λE V a hc aF=> ?_),hk⟩;have hd:=ap.ev aF hx;generalize hv:a.eval x=v at hd;unfold wA at ht;split at ht
 ·rename_i m' e' hu;obtain⟨i,cx,ht⟩:=kM ht;cases ht;unfold execOp;rw[ho];simp only[hv];refine az ?_;unfold Yi;refine ec hu ?_;cases hd with
  |op bR=>
   dsimp only;unfold U9;refine az (aq ?_);refine az (MF aF hl hh hm hlen c0 c1 c2 c3 c4 ?_);refine jS cx ?_;refine aq (aq ⟨rfl,_,rfl,?_⟩);have BA:(if(m.getD (n:Int)).toNat=(l.getD 0).toNat then(⟨E.blk id,off,none⟩:U1)else(⟨E.blk id,off,none⟩:U1).add ((l.getD 0).toNat* i.size))=⟨E.blk id,off+(l.getD 0).toNat* i.size,none⟩:=by
    split
    ·have:(l.getD 0).toNat=0:=(by omega);rw[this];simp
    ·rw[add_plain]
   rw[BA];exact .bE bR ⟨by dsimp only;omega,λ_=>rfl,λh=>absurd h (by omega)⟩
 ·cases ht
theorem aqd{c:Xn}{x y:Ti}{t t' e:TypeId}{id off n cap sz m:Nat}{l l':List AV}{el:TypeId}{av:AV}(ho:o.op=.call c)(aX:c.callee=.builtin .copy)(cK:c.args=#[x,y]) (dQ:c.argTypes=#[t,t']) (ht:ki P t=some (e,sz)) (hx:s.ev x=some (.bE id off n cap))
  (hk:s.H[id]?=some (.cells l el)) (hy:s.ev y=some av) (hs:s.src sz av=some (m,l')) (eB:l'.length=m* sz) (hl:off+min m n* sz<=l.length) (nq:∀a∈l',a.leaf=true)
  (hn:next ((⟨s.T,s.H.set id (.cells (iw l off (l'.take (min m n* sz))) el)⟩:AS).put o.dst (.val (.int .i64 (min m n:Nat))))):Step lv P r o s next bad:=by
 intro E V a N Q hc aF hd bw h1 _;refine⟨bw,?_⟩;have dt:=ap.ev aF hx;have iF:=ap.ev aF hy;generalize j7:a.eval x=vx at dt;generalize ri:a.eval y=vy at iF;unfold execOp;rw[ho];dsimp only;unfold resolve;rw[aX];dsimp only;refine az (aq ?_);unfold invoke builtin;dsimp only;refine az ?_;have nu:c.args.map a.eval=#[vx,vy]:=by rw[cK];simp[j7,ri]
 rw[nu,dQ];unfold ki at ht;split at ht
 ·rename_i e' hu;obtain⟨i,cx,ht⟩:=kM ht;cases ht;cases dt with
  |bE bR _=>
   obtain⟨⟨cs,p1,p2⟩,p3⟩:=hc.obj id _ hk;obtain⟨g1,g2⟩:=hc.ja hk rfl;unfold atq;simp only[Vd,Vo,UJ];refine ec hu ?_;dsimp only;rw[GK iF hs];refine az (aq ?_);refine jS cx ?_;refine az (CZ hc iF hs eB (ZD _ _) λjm kS=> ?_);have h2:(l'.take (min m n* i.size)).length=min m n* i.size:=by
    have:min m n* i.size<=m* i.size:=Uf _ (ZD _ _);simp;omega
   refine az (Aa _ 0 V cs g1 g2 p1 (λo _ _=>p3 o) (by
    have hq:jm.size=min m n* i.size:=(by(rw[kS.1];exact h2));have:=p2.1;simp only[Array.length_toList];omega) (A_ kS (λa ha=>nq a (Wq ha))) ?_)
   rw[UH];refine aq (aq (h1 E _ (a.put o.dst _) _ ⟨Env.Le.refl E,dX _ _ _,put_defers _ _ _,rfl,rfl⟩ (by rw[fe];exact hc.set hk (Ik p2 kS (by rw[h2];exact hl)))
    (b8.gN (s:=⟨s.T,s.H.set id (.cells (iw l off (l'.take (min m n* i.size))) el)⟩) aF hd (.val _)) hn))
 ·cases ht
def Ay (P:SJ)(t:TypeId):Option (TypeId×Nat×SO):=match P.underlying t with
 |some (.slice e)=>(P.info? e).bind λi=>i.zero.bind λz=>if z.cells.size=i.size/\i.bytes<=2^16 then some (e,i.size,z)else none
 |_=>none
theorem ack{t e:TypeId}{x y:Ti}{n sz:Nat}{z:SO}{k k':TU}(ho:o.op=.makeSlice t x y)(ht:Ay P t=some (e,sz,z))(hx:s.ev x=some (.val (.int k n)))(hy:s.ev y=some (.val (.int k' n)))(hb:n<=2^30)
  (hn:next ((⟨s.T,s.H++[.cells (gG z (n* sz)) e]⟩:AS).put o.dst (.bE s.H.length 0 n n))):Step lv P r o s next bad:=by
 intro E V a N Q hc aF hd bw h1 _;refine⟨bw,?_⟩;have dt:=ap.ev aF hx;have iF:=ap.ev aF hy;generalize j7:a.eval x=vx at dt;generalize ri:a.eval y=vy at iF;cases dt;cases iF;unfold Ay at ht;split at ht
 ·rename_i e' hu;obtain⟨i,q1,ht⟩:=Tf.1 ht;obtain⟨z',q2,ht⟩:=Tf.1 ht;split at ht
  ·rename_i xj;cases ht;unfold execOp;rw[ho];simp only[j7,ri];refine az ?_;unfold Instr.makeSlice;refine ec hu ?_;dsimp only;refine az (aq ?_);refine az (aq ?_);refine x9 q1 ?_;have hw:SE.wrap (n:Int)=n:=bG _ (by omega);rw[hw];have hmul:i.bytes* n<=2^16* 2^30:=ZJ xj.2 hb;have asK:(i.bytes:Int)* n<=2^46:=(by exact_mod_cast hmul);rw[if_neg (by simp;omega)];refine az (abM ?_);refine jS q1 ?_;rw[Vx];have fin:∀(zero:Array SO),(∀j,j<n* i.size->zero[j % zero.size]! =z.cells[j % z.cells.size]!)->aN P V (do let a<- newRow e ((WH (n* i.size)).map (zero[· % zero.size]!));pure (Ur (some a) n n)) (λx V'=>aN P V' (pure (W1 x)) (mu lv P r o a N Q) (λv V'=>Q (.panic [{v,recovered:=false}]) a V')) (λv V'=>Q (.panic [{v,recovered:=false}]) a V'):=by
    intro zero hz;unfold newRow;refine az (az (ov λrr hf=>cF (aq (aq (aq ?_)))));have hle:E.Le (E.add rr V.ab):=E.qb rr (λb o v h=>by rw[<- hc.I];exact h);have ajj:(WH (n* i.size)).map (zero[· % zero.size]!)=(WH (n* i.size)).map (λx=>z.cells[x % z.cells.size]!):=by
     apply Vz;simp only[VH];apply Vy;intro j hj;exact hz j (by simpa using hj)
    rw[ajj];have bh:Conc (E.add rr V.ab) (V.upd rr (.cells ((WH (n* i.size)).map (λx=>z.cells[x % z.cells.size]!)) e)) (s.H++[.cells (gG z (n* i.size)) e]):=by
     refine hc.add hf _ ⟨⟨_,?_,Il z _⟩,λo=> ?_⟩ (λb e=> ?_)
     ·rw[Env.dJ];simp[View.upd]
     ·rw[Env.dJ];exact hf.2 o
     ·simp only[bK,Env.dJ,Tl]at e;exact e.symm
    have bi:ap (E.add rr V.ab) (.bE s.H.length 0 n n) (.slice (some ⟨rr,0,none⟩) n n):=by
     have:=ap.bE (E:=E.add rr V.ab) (id:=s.H.length) (off:=0) (n:=n) (cap:=n) (cap':=n) (by show _<E.n+1;rw[hc.n];omega) ⟨SP _,λ_=>rfl,λh=>absurd h (Nat.lt_irrefl _)⟩;have e:(E.add rr V.ab).blk s.H.length=rr:=(by rw[<- hc.n];exact E.dJ rr _);rwa [e]at this
    exact h1 _ _ (a.put o.dst _) ((⟨s.T,s.H++[.cells (gG z (n* i.size)) e]⟩:AS).put o.dst (.bE s.H.length 0 n n)) ⟨hle,dX _ _ _,put_defers _ _ _,rfl,rfl⟩ (by rw[fe];exact bh)
     (b8.gN (s:=⟨s.T,s.H++[.cells (gG z (n* i.size)) e]⟩) (aF.mono hle) hd bi) hn
   by_cases h0:n* i.size=0
   ·rw[if_pos h0];refine az (aq ?_);exact fin #[] (λj hj=>by omega)
   ·rw[if_neg h0];refine az (az ?_);unfold typeInfo;refine az (qh (cF ?_));rw[q1];refine aq ?_;rw[q2];refine aq (az (aq ?_));exact fin z.cells (λj _=>rfl)
  ·cases ht
 ·cases ht
def AV.zW:AV->Option SO
 |.val x=>some x
 |_=>none
def AV.raw:AV->Option SO
 |.val x=>some x
 |.agg l=>(l.mapM AV.zW).map λvs=> .agg vs.toArray
 |_=>none
theorem ap.zW{E:Env}{a:AV}{v x:SO}(h:ap E a v)(hr:a.zW=some x):v=x:=by
 cases h<;>cases hr;rfl
theorem ap.raw{E:Env}{a:AV}{v x:SO}(h:ap E a v)(hr:a.raw=some x):v=x:=by
 cases h with
 |val=>cases hr;rfl
 |agg hs h=>
  obtain⟨vs,h1,rfl⟩:=kM hr;congr 1;rename_i l cs;have key:∀(l:List AV)(vs:List SO)(cs:List SO),l.mapM AV.zW=some vs->cs.length=l.length->(∀(i:Nat) a,l[i]?=some a->ap E a (cs.getD i undef))->cs=vs:=by
   intro l;induction l with
   |nil=>intro vs cs h1 h2 _;simp at h1;subst h1;simpa using h2
   |cons a l ih=>
    intro vs cs h1 h2 h3;simp only[T8,Uh,TP,Tf,Tl]at h1;obtain⟨b,e1,bs,e2,rfl⟩:=h1;cases cs with
    |nil=>simp at h2
    |cons c cs=>
     have hc:=(h3 0 a rfl).zW e1;have:=ih bs cs e2 (by simpa using h2) (λi x hx=>by simpa using h3 (i+1) x (by simpa using hx));subst this;simp only[Xm]at hc;rw[hc]
  have:=key l vs cs.toList h1 (by simpa using hs) (λi a e=>by have:=h i a e;rw[SI]at this;simpa[SF]using this);rw[<- this]
 |_=>cases hr
def wV:SO->SO->Bool
 |.agg _,.agg _=>true
 |.bool _,.bool _=>true
 |_,_=>false
theorem an6{op:VW}{xt yt:TypeId}{x y:Ti}{a b:AV}{X Y:SO}{e:Bool}(ho:o.op=.binOp op xt x y yt)(au:op=.eql\/op=.neq)(hx:s.ev x=some a)(hy:s.ev y=some b)(hX:a.raw=some X)(hY:b.raw=some Y)(hk:wV X Y=true)(hg:P.eqGuardType P.depth xt=false)(he:cr P (Xe xt X Y) e):
  dz lv P r o s (.val (.bool (if op== .neq then !e else e))):=
 iM (λE V ac hc aF=>by
  have e1:=(ap.ev aF hx).raw hX;have e2:=(ap.ev aF hy).raw hY;unfold execOp;rw[ho];simp only[e1,e2];refine az ?_;have guard:∀{K:Unit->View->Prop},K () V->aN P V (eqGuard op xt x y X Y) K (λ_ _=>False):=λhK=>by
   unfold eqGuard;unfold wV at hk;split at hk
   ·rcases au with rfl|rfl
    all_goals
     simp only[ai_,TO,if_false];refine az (qh (cF ?_));refine az (qh (cF ?_));rw[hg];exact aq hK
   ·rcases au with rfl|rfl<;>exact aq hK
   ·cases hk
  refine az (guard ?_);unfold wV at hk;split at hk
  ·rcases au with rfl|rfl<;>(unfold binOp;refine he.bind (aq (aq ⟨rfl,_,rfl,?_⟩));exact .val _)
  ·rcases au with rfl|rfl<;>(unfold binOp;refine he.bind (aq (aq ⟨rfl,_,rfl,?_⟩));exact .val _)
  ·cases hk)
theorem agI{t:TypeId}{v:SO}{b:Bool}{V:View}{K:Bool->View->Prop}{Kp:SO->View->Prop}(ht:ma P t=some true)(hv:(v=.nilIface/\b=true)\/((∃u x,v=.iface u x)/\b=false))(hk:K b V):aN P V (Xe t v .nilIface) K Kp:=by
 obtain⟨el,hu⟩:∃el,P.underlying t=some (.interface el):=by
  unfold ma at ht;cases h:P.underlying t with
  |none=>rw[h]at ht;cases ht
  |some d=>
   rw[h]at ht;cases d<;>first|exact⟨_,rfl⟩|(simp at ht)
 have e:Xe t v .nilIface=U7 (9999+1) t v .nilIface:=rfl;rw[e,U7];refine ec hu ?_;rcases hv with⟨rfl,rfl⟩|⟨⟨u,x,rfl⟩,rfl⟩
 ·exact aq hk
 ·exact aq hk
theorem abn{op:VW}{xt yt:TypeId}{x:Ti}{a:AV}{b:Bool}(ho:o.op=.binOp op xt x (.const .nilIface) yt)(au:op=.eql\/op=.neq)(hx:s.ev x=some a)(ha:(a=.val .nilIface/\b=true)\/((∃u y,a=.cX u y)/\b=false))(ht:ma P xt=some true):
  dz lv P r o s (.val (.bool (if op== .neq then !b else b))):=
 iM (λE V ac hc aF=>by
  have hd:=ap.ev aF hx;generalize j7:ac.eval x=vx at hd;have hv:(vx=.nilIface/\b=true)\/((∃u y,vx=.iface u y)/\b=false):=by
   rcases ha with⟨rfl,rfl⟩|⟨⟨u,y,rfl⟩,rfl⟩
   ·cases hd;exact .inl ⟨rfl,rfl⟩
   ·cases hd;exact .inr ⟨⟨_,_,rfl⟩,rfl⟩
  have hy:ac.eval (.const .nilIface)=.nilIface:=rfl;unfold execOp;rw[ho];simp only[j7,hy];refine az ?_;have guard:∀{K:Unit->View->Prop},K () V->aN P V (eqGuard op xt x (.const .nilIface) vx .nilIface) K (λ_ _=>False):=λhK=>by
   unfold eqGuard;rcases hv with⟨rfl,_⟩|⟨⟨u,y,rfl⟩,_⟩<;>rcases au with rfl|rfl<;>first|exact aq hK|(simp;exact aq hK)
  refine az (guard ?_);rcases hv with⟨rfl,rfl⟩|⟨⟨u,y,rfl⟩,rfl⟩<;>rcases au with rfl|rfl<;>(unfold binOp;refine az (agI (b:=_) ht (by first|exact .inl ⟨rfl,rfl⟩|exact .inr ⟨⟨_,_,rfl⟩,rfl⟩) (aq (aq ⟨rfl,_,rfl,?_⟩)));exact .val _))
theorem O2{t:TypeId}{d:TypeId×Nat}{b:Option U1}{n cap:Nat}{V:View}{K:Bool->View->Prop}{Kp:SO->View->Prop}(ht:ki P t=some d)(hk:K b.isNone V):aN P V (Xe t (.slice b n cap) (.slice none 0 0)) K Kp:=by
 obtain⟨el,hu⟩:∃el,P.underlying t=some (.slice el):=by
  unfold ki at ht;split at ht
  ·rename_i e he;exact⟨e,he⟩
  ·cases ht
 have e:Xe t (.slice b n cap) (.slice none 0 0)=U7 (9999+1) t (.slice b n cap) (.slice none 0 0):=rfl;rw[e,U7];refine ec hu ?_;cases b with
 |none=>exact aq hk
 |some a=>exact aq hk
theorem aqk{op:VW}{t yt:TypeId}{x:Ti}{n:Nat}{av:AV}{d:TypeId×Nat}(ho:o.op=.binOp op t x (.const (.slice none 0 0)) yt)(au:op=.eql\/op=.neq)(hx:s.ev x=some av)(hlen:av.len=some n)(ht:ki P t=some d)
  (hn:∀b:Bool,(0<n->b=false)->next (s.put o.dst (.val (.bool (if op== .neq then !b else b))))):Step lv P r o s next bad:=by
 intro E V a N Q hc aF hd bw h1 _;refine⟨bw,?_⟩;have dt:=ap.ev aF hx;generalize j7:a.eval x=vx at dt;obtain⟨base,cap,rfl,hb⟩:∃base cap,vx=.slice base n cap/\(0<n->base.isNone=false):=by
  cases dt with
  |sl b o cap f dP he q1 q2=>cases hlen;exact⟨_,_,rfl,λ_=>rfl⟩
  |nil he=>cases hlen;exact⟨_,_,rfl,λh=>absurd h (by omega)⟩
  |bE hi=>cases hlen;exact⟨_,_,rfl,λ_=>rfl⟩
  |_=>cases hlen
 unfold execOp;rw[ho];have hy:a.eval (.const (.slice none 0 0))=.slice none 0 0:=rfl;simp only[j7,hy];have fin:aN P V (pure (W1 (.bool (if op== .neq then !base.isNone else base.isNone)))) (mu lv P r o a N Q) (λv V'=>Q (.panic [{v,recovered:=false}]) a V'):=
  aq (h1 E V (a.put o.dst _) _ ⟨Env.Le.refl E,dX _ _ _,put_defers _ _ _,rfl,rfl⟩ (by rw[fe];exact hc) (aF.gN hd (.val _)) (hn _ hb))
 rcases au with rfl|rfl
 ·refine az (az (aq ?_));unfold binOp;exact az (O2 ht (aq fin))
 ·refine az (az (aq ?_));unfold binOp;exact az (O2 ht (aq fin))
theorem aol{c:Xn}{x y:Ti}{k j:TU}{m n:Int}(ho:o.op=.call c)(aX:c.callee=.builtin .max)(cK:c.args=#[x,y]) (hx:s.ev x=some (.val (.int k m))) (hy:s.ev y=some (.val (.int j n))):dz lv P r o s (.val (.int k (if n>m then n else m))):=
 rC (λE V a hc aF=>by
  have h1:=ap.ev aF hx;have h2:=ap.ev aF hy;generalize o1:a.eval x=v1 at h1;generalize sQ:a.eval y=v2 at h2;cases h1;cases h2;refine⟨_,?_,.val _⟩;unfold execOp;rw[ho];dsimp only;unfold resolve;rw[aX];have nu:c.args.map a.eval=#[.int k m,.int j n]:=by rw[cK];simp[o1,sQ]
  rw[nu];rfl)
theorem aom{c:Xn}{x y:Ti}{k j:TU}{m n:Int}(ho:o.op=.call c)(aX:c.callee=.builtin .min)(cK:c.args=#[x,y]) (hx:s.ev x=some (.val (.int k m))) (hy:s.ev y=some (.val (.int j n))):dz lv P r o s (.val (.int k (if n<m then n else m))):=
 rC (λE V a hc aF=>by
  have h1:=ap.ev aF hx;have h2:=ap.ev aF hy;generalize o1:a.eval x=v1 at h1;generalize sQ:a.eval y=v2 at h2;cases h1;cases h2;refine⟨_,?_,.val _⟩;unfold execOp;rw[ho];dsimp only;unfold resolve;rw[aX];have nu:c.args.map a.eval=#[.int k m,.int j n]:=by rw[cK];simp[o1,sQ]
  rw[nu];rfl)
theorem abm{x:Ti}{xt aD t:TypeId}{ok:Bool}{av:AV}{z:SO}(ho:o.op=.typeAssert x xt aD ok)(ht:ma P aD=some false)(hz:eG P aD=some z)(hx:s.ev x=some (.cX t av))(ay:ok=true\/t=aD):
  dz lv P r o s (if t=aD then(if ok then .aK [av,.val (.bool true)]else av)else .aK [AV.of z,.val (.bool false)]):=
 iM (λE V a hc aF=>by
  have hd:=ap.ev aF hx;generalize hv:a.eval x=v at hd;cases hd with
  |cX hd=>
   obtain⟨d,hu,iW⟩:=kM ht;unfold execOp;rw[ho];simp only[hv];refine az ?_;unfold Zh;refine ec hu ?_;split
   ·rename_i h;cases iW
   ·rename_i h;cases iW
   ·rename_i h;cases h
   ·rename_i t' v' h;cases h;by_cases e:t=aD
    ·rw[if_pos e,if_pos e];cases ok
     ·exact aq (aq ⟨rfl,_,rfl,hd⟩)
     ·refine aq (aq ⟨rfl,_,rfl,.aK rfl λi b hb=> ?_⟩)
      match i,hb with
      |0,hb=>cases hb;exact hd
      |1,hb=>cases hb;exact .val _
    ·rw[if_neg e,if_neg e];have oY:ok=true:=ay.resolve_right e;subst oY;simp only[if_true];refine az (az ?_);unfold eG at hz;obtain⟨inf,z1,z2⟩:=Tf.1 hz;unfold typeInfo;refine az (qh (cF ?_));rw[z1];refine aq ?_;rw[z2];refine aq (aq (aq ⟨rfl,_,rfl,.aK rfl λi b hb=> ?_⟩))
     match i,hb with
     |0,hb=>cases hb;exact sh E z
     |1,hb=>cases hb;exact .val _
   ·exfalso;simp_all)
theorem an0{x:Ti}{xt aD:TypeId}{z:SO}(ho:o.op=.typeAssert x xt aD true)(ht:ma P aD=some false)(hz:eG P aD=some z)(hx:s.ev x=some (.val .nilIface)):dz lv P r o s (.aK [AV.of z,.val (.bool false)]):=
 iM (λE V a hc aF=>by
  have hd:=ap.ev aF hx;generalize hv:a.eval x=v at hd;cases hd;obtain⟨d,hu,iW⟩:=kM ht;unfold execOp;rw[ho];simp only[hv];refine az ?_;unfold Zh;refine ec hu ?_;unfold eG at hz;obtain⟨inf,z1,z2⟩:=Tf.1 hz;split
  ·rename_i h;cases iW
  ·rename_i h;cases h
  ·simp only[if_true];refine az (az ?_);unfold typeInfo;refine az (qh (cF ?_));rw[z1];refine aq ?_;rw[z2];refine aq (aq (aq ⟨rfl,_,rfl,.aK rfl λi b hb=> ?_⟩))
   match i,hb with
   |0,hb=>cases hb;exact sh E z
   |1,hb=>cases hb;exact .val _
  ·rename_i h;cases h
  ·exfalso;simp_all)
def HB (P:SJ)(t:TypeId)(name:String):Prop:=∀v,cr P (nilAhead (P.types.size+Made.depth) t v name) (some false)
theorem aop{x:Ti}{name:String}{t:TypeId}{av:AV}(ho:o.op=.nilCheck x)(hx:s.ev x=some (.fn (.method name) [.cX t av] []))(hn:HB P t name):dz lv P r o s (.fn (.method name) [.cX t av] []):=
 iM (λE V a hc aF=>by
  have hd:=ap.ev aF hx;unfold execOp;rw[ho];dsimp only;generalize hv:a.eval x=v at hd⊢;have cw:=hd;cases hd with
  |fn dF fP h1 h2=>
   rename_i fa ca;have hfa:fa.size=1:=dF;have:=h1 0 _ rfl;rw[SI,SK (by omega)]at this;simp only[S9]at this;have hg:fa[0]?=some fa[0]:=SK (by omega);generalize hq:fa[0]=q at this hg;cases this with
   |cX jy=>
    dsimp only;rw[hg];dsimp only;refine az (qh (cF ?_));refine(hn _).bind ?_;simp only[bne_self_eq_false,TO,if_false];exact aq ⟨rfl,_,rfl,cw⟩)
def oD (P:SJ)(t:TypeId):Option (TypeId×TypeId):=match P.underlying t with
 |some (.map k e)=>some (k,e)
 |_=>none
def wb (es:Array Wh)(ck:Nat)(k x:SO):Option (Nat×SO)->Obj
 |none=> .map (es.push {key:=k,val:=x,born:=ck}) (ck+1)
 |some (i,_)=> .map (es.modify i λe=>{e with key:=k,val:=x}) ck
theorem aqg{t kt et:TypeId}{m k x:Ti}{id ck:Nat}{es:Array Wh}{a b:AV}{K X:SO}{fd:Option (Nat×SO)}(ho:o.op=.mapUpdate t m k x\/o.op=.insert t m k x)(ht:oD P t=some (kt,et))(hm:s.ev m=some (.mp id))(hk:s.ev k=some a)(hx:s.ev x=some b)(hK:a.raw=some K)(hX:b.raw=some X)
  (hH:s.H[id]?=some (.obj (.map es ck))) (hc:cr P (U_ false 10000 kt K) ()) (hf:cr P (VK kt K es.toList) fd) (Fu:∀i v,fd=some (i,v)->Wy 10000 (((es[i]?).map (·.key)).getD K) K=true)
  (hn:next ((⟨s.T,s.H.set id (.obj (wb es ck K X fd))⟩:AS).put o.dst (.val undef))):Step lv P r o s next bad:=by
 intro E V ac N Q iV aF hd bw h1 _;refine⟨bw,?_⟩;have e1:=(ap.ev aF hk).raw hK;have e2:=(ap.ev aF hx).raw hX;have oO:=ap.ev aF hm;generalize xG:ac.eval m=vm at oO;cases oO;obtain⟨p1,p2,p3,p4⟩:=iV.obj id _ hH;obtain⟨g1,g2⟩:=iV.ja hH rfl;have go:aN P V (do Zq t (.map (some (E.blk id))) K X;pure Next.skip) (mu lv P r o ac N Q) (λv V'=>Q (.panic [{v,recovered:=false}]) ac V'):=by
  refine az ?_;unfold oD at ht;split at ht
  ·rename_i k' e' hu;cases ht;unfold Zq;refine ec hu ?_;dsimp only;refine az (nJ p1 p2 p3 g2 (cF ?_));dsimp only;refine hc.bind (hf.bind ?_);have fin:∀y,y=wb es ck K X fd->aN P V (setObj (E.blk id) y) (λ_ V'=>aN P V' (pure Next.skip) (mu lv P r o ac N Q) (λv V'=>Q (.panic [{v,recovered:=false}]) ac V')) (λv V'=>Q (.panic [{v,recovered:=false}]) ac V'):=λy hy=>by
    have fQ:y.us=false:=(by rw[hy];cases fd<;>rfl);have hy2:y.isChan=false:=(by rw[hy];cases fd<;>rfl);refine x8 p1 p2 hy2 g2 (cF (aq ?_));exact h1 E _ (ac.put o.dst undef) _ ⟨Env.Le.refl E,dX _ _ _,put_defers _ _ _,rfl,rfl⟩ (by rw[fe];rw[hy];exact iV.setObj hH (by cases fd<;>rfl) (by cases fd<;>rfl))
     (b8.gN (s:=⟨s.T,s.H.set id (.obj (wb es ck K X fd))⟩) aF hd (.val undef)) hn
   cases fd with
   |none=>exact fin _ rfl
   |some iv=>
    obtain⟨i,v⟩:=iv;dsimp only;unfold Instr.keyThatStays;rw[Fu i v rfl];simp only[if_true];exact az (aq (fin _ rfl))
  ·cases ht
 unfold execOp;rcases ho with ho|ho
 all_goals
  rw[ho];simp only[xG,e1,e2];exact go
def Ea (es:Array Wh):Option (Nat×SO)->Array Wh
 |some (i,_)=>es.eraseIdxIfInBounds i
 |none=>es
theorem aqe{c:Xn}{t t' kt et:TypeId}{m k:Ti}{id ck:Nat}{es:Array Wh}{a:AV}{K:SO}{fd:Option (Nat×SO)}(ho:o.op=.call c)(aX:c.callee=.builtin .delete)(cK:c.args=#[m,k]) (dQ:c.argTypes=#[t,t']) (ht:oD P t=some (kt,et)) (hm:s.ev m=some (.mp id)) (hk:s.ev k=some a) (hK:a.raw=some K)
  (hH:s.H[id]?=some (.obj (.map es ck))) (hc:cr P (U_ es.isEmpty 10000 kt K) ()) (hf:cr P (VK kt K es.toList) fd)
  (hn:next ((⟨s.T,s.H.set id (.obj (.map (Ea es fd) ck))⟩:AS).put o.dst (.val undef))):Step lv P r o s next bad:=by
 intro E V ac N Q iV aF hd bw h1 _;refine⟨bw,?_⟩;have e1:=(ap.ev aF hk).raw hK;have oO:=ap.ev aF hm;generalize xG:ac.eval m=vm at oO;cases oO;obtain⟨p1,p2,p3,p4⟩:=iV.obj id _ hH;obtain⟨g1,g2⟩:=iV.ja hH rfl;unfold execOp;rw[ho];dsimp only;unfold resolve;rw[aX];dsimp only;refine az (aq ?_);unfold invoke builtin;dsimp only;refine az ?_;have nu:c.args.map ac.eval=#[.map (some (E.blk id)),K]:=by rw[cK];simp[xG,e1]
 rw[nu,dQ];unfold oD at ht;split at ht
 ·rename_i k' e' hu;cases ht;unfold atp;simp only[Vd,Vo,UJ];refine ec hu ?_;dsimp only;refine az (nJ p1 p2 p3 g2 (cF ?_));dsimp only;refine hc.bind (hf.bind ?_);have fin:∀tO,tO=(Ea es fd)->aN P V (setObj (E.blk id) (.map tO ck)) (λ_ V'=>aN P V' (pure (YG #[])) (λx V'=>aN P V' (pure (W1 x)) (mu lv P r o ac N Q) (λv V'=>Q (.panic [{v,recovered:=false}]) ac V')) (λv V'=>Q (.panic [{v,recovered:=false}]) ac V')) (λv V'=>Q (.panic [{v,recovered:=false}]) ac V'):=λy hy=>by
   refine x8 p1 p2 rfl g2 (cF (aq (aq ?_)));exact h1 E _ (ac.put o.dst undef) _ ⟨Env.Le.refl E,dX _ _ _,put_defers _ _ _,rfl,rfl⟩ (by rw[fe];rw[hy];exact iV.setObj hH rfl rfl)
    (b8.gN (s:=⟨s.T,s.H.set id (.obj (.map (Ea es fd) ck))⟩) aF hd (.val undef)) hn
  cases fd with
  |none=>exact az (fin _ rfl)
  |some iv=>exact az (fin _ rfl)
 ·cases ht
theorem aqj{t kt et:TypeId}{x:Ti}{m ck:Nat}{es:Array Wh}(ho:o.op=.range t x)(ht:oD P t=some (kt,et))(hx:s.ev x=some (.mp m))(hH:s.H[m]?=some (.obj (.map es ck)))
  (hn:next ((⟨s.T,s.H++[.iter m ck #[] ck]⟩:AS).put o.dst (.op s.H.length 0))):Step lv P r o s next bad:=by
 intro E V ac N Q hc aF hd bw h1 _;refine⟨bw,?_⟩;have oO:=ap.ev aF hx;generalize xG:ac.eval x=vm at oO;cases oO with
 |mp hm=>
  obtain⟨p1,p2,p3,p4⟩:=hc.obj m _ hH;obtain⟨g1,g2⟩:=hc.ja hH rfl;unfold execOp;rw[ho];simp only[xG];refine az ?_;unfold oD at ht;split at ht
  ·rename_i k' e' hu;cases ht;unfold Instr.range;refine ec hu ?_;refine az (nJ p1 p2 p3 g2 (cF ?_));dsimp only;refine az (aq ?_);refine az (ov λrr hf=>cF (aq (aq ?_)));have hle:E.Le (E.add rr V.ab):=E.qb rr (λb o v h=>by rw[<- hc.I];exact h);have bh:Conc (E.add rr V.ab) (V.upd rr (.mapIter (some (E.blk m)) ck #[] ck)) (s.H++[.iter m ck #[] ck]):=by
    refine hc.add hf _ ⟨?_,?_,λo=> ?_⟩ (λb e=> ?_)
    ·exact Nat.lt_succ_of_lt hm
    ·rw[Env.dJ,hle.blk m hm];simp[View.upd]
    ·rw[Env.dJ];exact hf.2 o
    ·simp only[bK,Env.dJ,Tl]at e;exact e.symm
   exact h1 _ _ (ac.put o.dst (.pointer (some ⟨rr,0,none⟩))) ((⟨s.T,s.H++[.iter m ck #[] ck]⟩:AS).put o.dst (.op s.H.length 0)) ⟨hle,dX _ _ _,put_defers _ _ _,rfl,rfl⟩ (by rw[fe];exact bh)
    (b8.gN (s:=⟨s.T,s.H++[.iter m ck #[] ck]⟩) (aF.mono hle) hd (OH hc.n rr V.ab)) hn
  ·cases ht
theorem Conc.setIter{E:Env}{V:View}{H:List aa}(hc:Conc E V H){id m a c:Nat}{b:Array Nat}(hk:H[id]?=some (.iter m a b c))(a':Nat)(b':Array Nat)(c':Nat):Conc E (V.upd (E.blk id) (.mapIter (some (E.blk m)) a' b' c')) (H.set id (.iter m a' b' c')):=by
 obtain⟨p1,p2,p4⟩:=hc.obj id _ hk;refine hc.iz id (.iter m a' b' c') (Env.Le.refl E) hc.I (by simpa using hc.n) lf rfl (λ_ _ _=>rfl) (λb z hb hz=>⟨?_,λ_=>rfl⟩) ⟨p1,by simp[View.upd],p4⟩ (λb h=> .inl ⟨_,hk,h⟩);have:b≠E.blk id:=λe=>hb _ hk (by rw[e];rfl);simpa[View.upd,this]using hz
theorem aqh{it:Ti}{id m since ck td:Nat}{seen:Array Nat}{es:Array Wh}(ho:o.op=.next it false)(hi:s.ev it=some (.op id 0))(hI:s.H[id]?=some (.iter m since seen td))(hM:s.H[m]?=some (.obj (.map es ck)))
  (ay:es.all (λe=>decide (e.born>=td))=false\/es.isEmpty=true\/seen.isEmpty=true)
  (hn:∀e∈es,e.born∉seen->next ((⟨s.T,s.H.set id (.iter m since (seen.push e.born) ck)⟩:AS).put o.dst (.aK [.val (.bool true),AV.of e.key,AV.of e.val])))
  (akl:(∀e∈es,e.born<since->e.born∈seen)->next (s.put o.dst (.aK [.val (.bool false)]))):Step lv P r o s next bad:=by
 intro E V ac N Q hc aF hd bw h1 _;refine⟨bw,?_⟩;have n_:=ap.ev aF hi;generalize qa:ac.eval it=vi at n_;cases n_ with
 |op bR=>
  obtain⟨q1,q2,q3⟩:=hc.obj id _ hI;obtain⟨p1,p2,p3,p4⟩:=hc.obj m _ hM;have gi:=hc.ja hI rfl;have gm:=hc.ja hM rfl;unfold execOp;rw[ho];simp only[qa];refine az ?_;unfold Instr.next;dsimp only;refine az (nJ q2 rfl rfl gi.2 (cF ?_));dsimp only;refine az (nJ p1 p2 p3 gm.2 (cF ?_));dsimp only;rw[if_neg (by
   intro h;simp only[Tc,TV]at h;rcases ay with hk|hk|hk
   ·rw[hk]at h;cases h.2
   ·rw[hk]at h;cases h.1.2
   ·rw[hk]at h;cases h.1.1)]
  generalize Qt:(if((es.filter λe=> !seen.contains e.born).filter (λe=>decide (e.born<since))).isEmpty=true then#[none]else#[])++((es.filter λe=> !seen.contains e.born).filter (λe=>decide (e.born<since))++(es.filter λe=> !seen.contains e.born).filter (λe=>decide (e.born>=since))).map some=yA;have cN:∀x∈yA,match x with
    |some e=>e∈es/\e.born∉seen
    |none=>∀e∈es,e.born<since->e.born∈seen:=by
   intro x hx;rw[<- Qt]at hx;rcases Ut.1 hx with hx|hx
   ·split at hx
    ·rename_i sC;simp at hx;subst hx;intro e he hlt;apply Tu;intro iX;have:e∈((es.filter λe=> !seen.contains e.born).filter (λe=>decide (e.born<since))):=(by simp[he,hlt,iX]);rw[Zb]at sC;rw[sC]at this;simp at this
    ·simp at hx
   ·rw[Array.mem_map]at hx;obtain⟨e,he,rfl⟩:=hx;rcases Ut.1 he with he|he<;>simp at he<;>exact⟨he.1,he.2.2⟩
  have B_:0<yA.size:=by
   rw[<- Qt];split
   ·simp;omega
   ·rename_i sC;have:0<((es.filter λe=> !seen.contains e.born).filter (λe=>decide (e.born<since))).size:=by
     rw[Zb]at sC;exact Array.size_pos_iff.2 sC
    simp only[Xz,Array.size_map,List.size_toArray,UQ];omega
  have fin:∀j,j<yA.size->aN P V (match yA[j]?with
    |some (some e)=>do setObj (E.blk id) (.mapIter (some (E.blk m)) since (seen.push e.born) ck);pure (YG #[.bool true,e.key,e.val])
    |some none=>pure (YG #[.bool false])
    | none => stuck "Next: no such candidate") (λx V' => aN P V' (pure (W1 x)) (mu lv P r o ac N Q) (λv V' => Q (.panic [{ v, recovered := false }]) ac V')) (λv V' => Q (.panic [{ v, recovered := false }]) ac V') := by
   intro j hj;rw[SK hj];have hm:=cN yA[j] (XS hj);generalize yA[j]=x at hm;cases x with
   |none=>
    dsimp only;refine aq (aq ?_);exact h1 E V (ac.put o.dst _) (s.put o.dst (.aK [.val (.bool false)])) ⟨Env.Le.refl E,dX _ _ _,put_defers _ _ _,rfl,rfl⟩ (by rw[fe];exact hc)
     (b8.gN aF hd (.aK rfl λi b hb=>by
      match i,hb with
      |0,hb=>cases hb;exact .val _)) (akl hm)
   |some e=>
    dsimp only;refine az (x8 q2 rfl rfl gi.2 (cF (aq (aq ?_))));exact h1 E _ (ac.put o.dst _) _ ⟨Env.Le.refl E,dX _ _ _,put_defers _ _ _,rfl,rfl⟩ (by rw[fe];exact hc.setIter hI since (seen.push e.born) ck)
     (b8.gN (s:=⟨s.T,s.H.set id (.iter m since (seen.push e.born) ck)⟩) aF hd (.aK rfl λi b hb=>by
      match i,hb with
      |0,hb=>cases hb;exact .val _
      |1,hb=>cases hb;exact sh E _
      |2,hb=>cases hb;exact sh E _)) (hn e hm.1 hm.2)
  refine az (abO (λhf=>cF (fin 0 B_)) (λhf t=>cF (fin _ (aq_ _ B_))))
def AV.found (z:SO)(ok:Bool):Option (Nat×SO)->AV
 |some (_,v)=>if ok then .aK [AV.of v,.val (.bool true)]else AV.of v
 |none=>if ok then .aK [AV.of z,.val (.bool false)]else AV.of z
theorem aoi{t kt et:TypeId}{m k:Ti}{id ck:Nat}{es:Array Wh}{a:AV}{K z:SO}{ok:Bool}{fd:Option (Nat×SO)}(ho:o.op=.lookup t m k ok)(ht:oD P t=some (kt,et))(hz:eG P et=some z)(hm:s.ev m=some (.mp id))(hk:s.ev k=some a)(hK:a.raw=some K)
  (hH:s.H[id]?=some (.obj (.map es ck))) (hc:cr P (U_ es.isEmpty 10000 kt K) ()) (hf:cr P (VK kt K es.toList) fd):dz lv P r o s (AV.found z ok fd):=
 iM (λE V ac iV aF=>by
  have e1:=(ap.ev aF hk).raw hK;have oO:=ap.ev aF hm;generalize xG:ac.eval m=vm at oO;cases oO;obtain⟨p1,p2,p3,p4⟩:=iV.obj id _ hH;have g:=iV.ja hH rfl;unfold oD at ht;split at ht
  ·rename_i k' e' hu;cases ht;unfold execOp;rw[ho];simp only[xG,e1];refine az ?_;unfold Instr.lookup;refine ec hu ?_;dsimp only;refine az (az (nJ p1 p2 p3 g.2 (aq (aq ?_))));refine hc.bind (az (hf.ok ?_));have two:∀(v:SO)(b:Bool)(i:Nat)(x:AV),[AV.of v,.val (.bool b)][i]?=some x->ap E x ((#[v,W9 b]:Array SO).getD i undef):=λv b i x hx=>by
    match i,hx with
    |0,hx=>cases hx;exact sh E _
    |1,hx=>cases hx;exact .val _
   cases fd with
   |some iv=>
    obtain⟨i,v⟩:=iv;refine aq (aq ⟨rfl,_,rfl,?_⟩);cases ok with
    |true=>exact .aK rfl (two v true)
    |false=>exact sh E _
   |none=>
    refine GH hz (aq (aq ⟨rfl,_,rfl,?_⟩));cases ok with
    |true=>exact .aK rfl (two z false)
    |false=>exact sh E _
  ·cases ht)
theorem an5{it:Ti}{id m since ck:Nat}{seen:Array Nat}{es:Array Wh}{b:Nat}{e:Wh}(ho:o.op=.entry it)(hi:s.ev it=some (.op id 0))(hI:s.H[id]?=some (.iter m since seen ck))(hM:s.H[m]?=some (.obj (.map es ck)))
  (hb:seen.back?=some b) (he:es.find? (·.born==b)=some e):dz lv P r o s (.aK [AV.of e.key,AV.of e.val]):=
 iM (λE V ac hc aF=>by
  have n_:=ap.ev aF hi;generalize qa:ac.eval it=vi at n_;cases n_ with
  |op bR=>
   obtain⟨q1,q2,q3⟩:=hc.obj id _ hI;obtain⟨p1,p2,p3,p4⟩:=hc.obj m _ hM;have gi:=hc.ja hI rfl;have gm:=hc.ja hM rfl;unfold execOp;rw[ho];simp only[qa];refine az ?_;unfold Instr.entry;dsimp only;refine az (nJ q2 rfl rfl gi.2 (cF ?_));dsimp only;rw[hb];dsimp only;refine az (nJ p1 p2 p3 gm.2 (cF ?_));dsimp only;rw[if_neg (by simp)];rw[he];refine aq (aq ⟨rfl,_,rfl,.aK rfl λi b hb=> ?_⟩)
   match i,hb with
   |0,hb=>cases hb;exact sh E _
   |1,hb=>cases hb;exact sh E _)
end
open Go.Conc
def gI (E:Env)(V:View)(k:AV->List aa->Prop)(kp:AV->List aa->Prop):Out->View->Prop
 |.ret v,V'=>∃av E' H',E.Le E'/\V'.role=V.role/\V'.deaf=V.deaf/\ap E' av v/\Conc E' V' H'/\k av H'
 |.panic ch,V'=>∃pv v E' H',ch=[{v,recovered:=false}]/\E.Le E'/\V'.role=V.role/\V'.deaf=V.deaf/\ap E' pv v/\Conc E' V' H'/\kp pv H'
def bc (lv:Bool)(P:SJ)(f:TQ)(H:List aa)(args:List AV)(k:AV->List aa->Prop)(kp:AV->List aa->Prop):Prop:=
 ∀(E:Env)(V:View)(vs:Array SO),Conc E V H->cG E args vs->Body lv P f vs .normal V (gI E V k kp)
def Nx (lv:Bool)(P:SJ)(R:Out->View->Prop):Next->View->Prop
 |.value v,V=>R (.ret v) V
 |.skip,V=>R (.ret undef) V
 |.enter f args,V=>Body lv P f args .normal V R
 |.round l f tmps assign body,V=>mT lv P (W6 l f tmps assign body .normal) V R
 |_,_=>False
def iQ (lv:Bool)(P:SJ)(c:AV)(H:List aa)(args:List AV)(k:AV->List aa->Prop)(kp:AV->List aa->Prop):Prop:=
 ∀(E:Env)(V:View)(cv:SO)(vs:Array SO),Conc E V H->ap E c cv->cG E args vs->
  aN P V (do let d<- U0 cv vs;invoke d.target d.args) (λnx V'=>Nx lv P (gI E V k kp) nx V') (λv V'=>gI E V k kp (.panic [{v,recovered:=false}]) V')
def DE (lv:Bool)(P:SJ)(c:AV)(name:String)(H:List aa)(args:List AV)(k:AV->List aa->Prop)(kp:AV->List aa->Prop):Prop:=
 ∀(E:Env)(V:View)(cv:SO)(vs:Array SO),Conc E V H->ap E c cv->cG E args vs->
  aN P V (invoke (.fn (.method name) #[]) (#[cv]++vs)) (λnx V'=>Nx lv P (gI E V k kp) nx V') (λv V'=>gI E V k kp (.panic [{v,recovered:=false}]) V')
theorem gI.mono{E:Env}{V:View}{k k' kp vW:AV->List aa->Prop}(h:∀a H,k a H->k' a H)(hp:∀a H,kp a H->vW a H):∀{o V'},gI E V k kp o V'->gI E V k' vW o V'
 |.ret _,_,⟨av,E',H',a,b,c,d,e,f⟩=>⟨av,E',H',a,b,c,d,e,h _ _ f⟩
 |.panic _,_,⟨pv,v,E',H',a,b,c,d,e,f,g⟩=>⟨pv,v,E',H',a,b,c,d,e,f,hp _ _ g⟩
theorem Nx.mono{lv:Bool}{P:SJ}{R R':Out->View->Prop}(h:∀o V,R o V->R' o V):∀{nx V},Nx lv P R nx V->Nx lv P R' nx V:=by
 intro nx V hn;cases nx with
 |value v=>exact h _ _ hn
 |skip=>exact h _ _ hn
 |enter f args=>exact Body.mono hn h
 |round l f tmps a b=>exact mT.mono hn h
 |_=>exact hn
theorem bc.mono{lv:Bool}{P:SJ}{f:TQ}{H:List aa}{args:List AV}{k k' kp vW:AV->List aa->Prop}(h:bc lv P f H args k kp)(hk:∀a H,k a H->k' a H)(hp:∀a H,kp a H->vW a H):bc lv P f H args k' vW:=λE V vs hc hd=>
 (h E V vs hc hd).mono λ_ _ x=>x.mono hk hp
theorem iQ.mono{lv:Bool}{P:SJ}{f:AV}{H:List aa}{args:List AV}{k k' kp vW:AV->List aa->Prop}(h:iQ lv P f H args k kp)(hk:∀a H,k a H->k' a H)(hp:∀a H,kp a H->vW a H):iQ lv P f H args k' vW:=λE V cv vs hc hd oQ=>
 (h E V cv vs hc hd oQ).mono (λ_ _ x=>Nx.mono (λ_ _ y=>y.mono hk hp) x) (λ_ _ y=>y.mono hk hp)
def qq (P:SJ)(g:TQ):Bool:=match P.funcs[g]?with
 | some fn => fn.body.isSome && !(fn.name == "runtime.NumGoroutine")
 |none=>false
theorem apm{lv:Bool}{P:SJ}{V:View}{g:TQ}{vs:Array SO}{R:Out->View->Prop}{Kp:SO->View->Prop}(hg:qq P g=true)(h:Body lv P g vs .normal V R):aN P V (callFunc g vs) (λnx V'=>Nx lv P R nx V') Kp:=by
 unfold callFunc;refine az (qh (cF ?_));unfold qq at hg;split at hg
 ·rename_i fn xn;simp only[Tc,TV]at hg;rw[xn];dsimp only;have xf:fn.body.isNone=false:=by
   have h1:=hg.1;cases hb:fn.body with
   |none=>rw[hb]at h1;cases h1
   |some _=>rfl
  rw[if_neg (by rw[hg.2];simp),if_neg (by rw[xf];simp)];exact aq h
 ·cases hg
section
variable {lv:Bool}{P:SJ}{H:List aa}{args:List AV}{k kp:AV->List aa->Prop}
theorem H2{g:TQ}{first cQ:List AV}(hg:qq P g=true)(hf:bc lv P g H (first++args++cQ) k kp):iQ lv P (.fn (.func g) first cQ) H args k kp:=by
 intro E V cv vs hc hd oQ;cases hd with
 |fn dF fP h1 h2=>
  rename_i fa ca;unfold U0;refine az (aq ?_);unfold invoke;dsimp only;exact apm hg (hf E V _ hc (A9 (A9 ⟨dF,h1⟩ oQ) ⟨fP,h2⟩))
end
def e9 (s:AS):List Ti->Option (List AV)
 |[]=>some []
 |x::l=>match s.ev x,e9 s l with
  |some a,some aD=>some (a::aD)
  |_,_=>none
theorem yJ{E:Env}{s:AS}{a:Act}(k:b8 E s.T a.tmps):∀{l:List Ti}{aD:List AV},e9 s l=some aD->cG E aD (l.map a.eval).toArray
 |[],_,h=>by cases h;exact⟨rfl,by simp⟩
 |x::l,aD,h=>by
  simp only[e9]at h;split at h
  ·rename_i av lU h1 h2;cases h;have ih:=yJ k h2;refine⟨by have:=ih.1;simpa using this,λi b e=> ?_⟩;cases i with
   |zero=>simp at e;subst e;simpa[SI]using ap.ev k h1
   |succ i=>
    simp only[UJ]at e;have:=ih.2 i b e;simpa[SI]using this
  ·cases h
section
variable {lv:Bool}{P:SJ}{r:Option Nat}{o:Tv}{s:AS}{next:AS->Prop}{bad:AV->AS->Prop}
theorem aaX{E:Env}{V:View}{a:Act}{N:Act->View->Prop}{Q:Ex->Act->View->Prop}(aF:b8 E s.T a.tmps)(hd:∀d,o.dst=some d->d<a.tmps.size)
  (h1:∀E' V' a' s',Kept E E' V V' a a'->Conc E' V' s'.H->b8 E' s'.T a'.tmps->next s'->N a' V')
  (h2:∀E' V' s' pv v,Kept E E' V V' a a->Conc E' V' s'.H->b8 E' s'.T a.tmps->ap E' pv v->bad pv s'->Q (.panic [{v,recovered:=false}]) a V'):
  (∀nx V',Nx lv P (gI E V (λb H'=>next ((⟨s.T,H'⟩:AS).put o.dst b)) (λpv H'=>bad pv ⟨s.T,H'⟩)) nx V'->mu lv P r o a N Q nx V')/\
  (∀v V',gI E V (λb H'=>next ((⟨s.T,H'⟩:AS).put o.dst b)) (λpv H'=>bad pv ⟨s.T,H'⟩) (.panic [{v,recovered:=false}]) V'->Q (.panic [{v,recovered:=false}]) a V'):=by
 have hv:∀v V',gI E V (λb H'=>next ((⟨s.T,H'⟩:AS).put o.dst b)) (λpv H'=>bad pv ⟨s.T,H'⟩) (.ret v) V'->N (a.put o.dst v) V':=λv V' ⟨av,E',H',hle,bX,eT,bi,bh,hk⟩=>
  h1 E' V' _ _ ⟨hle,dX _ _ _,put_defers _ _ _,bX,eT⟩ (by rw[fe];exact bh) (b8.gN (s:=⟨s.T,H'⟩) (aF.mono hle) hd bi) hk
 have hp:∀ch V',gI E V (λb H'=>next ((⟨s.T,H'⟩:AS).put o.dst b)) (λpv H'=>bad pv ⟨s.T,H'⟩) (.panic ch) V'->Q (.panic ch) a V':=λch V' ⟨pv,v,E',H',eS,hle,bX,eT,bi,bh,hk⟩=>by
  subst eS;exact h2 E' V' ⟨s.T,H'⟩ pv v ⟨hle,rfl,rfl,bX,eT⟩ bh (aF.mono hle) bi hk
 refine⟨λnx V' hn=> ?_,λv V' h=>hp _ _ h⟩;cases nx with
 |value v=>exact hv _ _ hn
 |skip=>exact hv _ _ hn
 |enter f args=>
  refine Body.mono (R':=fun
   |.ret v,V'=>N (a.put o.dst v) V'
   |.panic ch,V'=>Q (.panic ch) a V') hn λot aR h=> ?_
  cases ot with
  |ret v=>exact hv _ _ h
  |panic ch=>exact hp _ _ h
 |round l f tmps aD b=>
  refine mT.mono (R':=fun
   |.ret v,V'=>N (a.put o.dst v) V'
   |.panic ch,V'=>Q (.panic ch) a V') hn λot aR h=> ?_
  cases ot with
  |ret v=>exact hv _ _ h
  |panic ch=>exact hp _ _ h
 |_=>exact hn.elim
theorem MP{c:Xn}{x:Ti}{se:AV}{aD:List AV}(ho:o.op=.call c)(aX:c.callee=.value x)(hx:s.ev x=some se)(has:e9 s c.args.toList=some aD)
  (hf:iQ lv P se s.H aD (λb H'=>next ((⟨s.T,H'⟩:AS).put o.dst b)) (λpv H'=>bad pv ⟨s.T,H'⟩)):Step lv P r o s next bad:=by
 intro E V a N Q hc aF hd bw h1 h2;have rf:=aaX (lv:=lv) (P:=P) (r:=r) aF hd h1 h2;refine⟨bw,?_⟩;unfold execOp;rw[ho];dsimp only;unfold resolve;rw[aX];dsimp only;have e:c.args.map a.eval=(c.args.toList.map a.eval).toArray:=by apply Vz;simp
 rw[e];exact(hf E V (a.eval x) _ hc (ap.ev aF hx) (yJ aF has)).mono (λnx V' h=>rf.1 nx V' h) (λv V' h=>rf.2 v V' h)
theorem acj{c:Xn}{x:Ti}{name:String}{se:AV}{aD:List AV}(ho:o.op=.call c)(aX:c.callee=.invoke x name)(hx:s.ev x=some se)(has:e9 s c.args.toList=some aD)
  (hf:DE lv P se name s.H aD (λb H'=>next ((⟨s.T,H'⟩:AS).put o.dst b)) (λpv H'=>bad pv ⟨s.T,H'⟩)):Step lv P r o s next bad:=by
 intro E V a N Q hc aF hd bw h1 h2;have rf:=aaX (lv:=lv) (P:=P) (r:=r) aF hd h1 h2;refine⟨bw,?_⟩;unfold execOp;rw[ho];dsimp only;unfold resolve;rw[aX];dsimp only;refine az (aq ?_);have e:c.args.map a.eval=(c.args.toList.map a.eval).toArray:=by apply Vz;simp
 rw[e];exact(hf E V (a.eval x) _ hc (ap.ev aF hx) (yJ aF has)).mono (λnx V' h=>rf.1 nx V' h) (λv V' h=>rf.2 v V' h)
theorem aqi{x:Ti}{t:TypeId}{av:AV}(ho:o.op=.panic x)(hx:s.ev x=some (.cX t av))(hb:bad (.cX t av) s):Step lv P r o s next bad:=by
 intro E V a N Q hc aF hd bw _ h2;refine⟨bw,?_⟩;have dt:=ap.ev aF hx;unfold execOp;rw[ho];dsimp only;refine az ?_;generalize a.eval x=v at dt⊢;have ajF:=dt;cases dt with
 |cX hv=>
  unfold Instr.panic;dsimp only;exact apv (h2 E V s (.cX t av) _ ⟨Env.Le.refl E,rfl,rfl,rfl,rfl⟩ hc aF ajF hb)
end
structure DF (k kp:AV->List aa->Prop):Type where
 n:Nat
def An (lv:Bool)(P:SJ)(c:AV)(H:List aa)(args:List AV)(k kp:AV->List aa->Prop)(_t:DF k kp):Prop:=iQ lv P c H args k kp
def adg (lv:Bool)(P:SJ)(c:AV)(name:String)(H:List aa)(args:List AV)(k kp:AV->List aa->Prop)(_t:DF k kp):Prop:=DE lv P c name H args k kp
theorem wP{lv:Bool}{P:SJ}{c:AV}{H:List aa}{args:List AV}{k kp:AV->List aa->Prop}{t:DF k kp}(h:iQ lv P c H args k kp):An lv P c H args k kp t:=h
def ao {α:Type}(x:Option α)(k:α->Prop):Prop:=match x with
 |some a=>k a
 |none=>False
def AV.asBool (a:AV)(k:Bool->Prop):Prop:=match a with
 |.val (.bool b)=>k b
 |_=>False
def AV.asInt (a:AV)(k:TU->Int->Prop):Prop:=match a with
 |.val (.int j n)=>k j n
 |_=>False
def AV.wM (a:AV)(k:List AV->Prop):Prop:=match a with
 |.aK l=>k l
 |_=>False
def AV.asAgg (a:AV)(k:List AV->Prop):Prop:=match a with
 |.agg l=>k l
 |_=>False
def AV.pz (a:AV)(k:Nat->Nat->Prop):Prop:=match a with
 |.op i j=>k i j
 |_=>False
def AV.rZ (a:AV)(k:Nat->Prop):Prop:=match a with
 |.mp i=>k i
 |_=>False
def AV.uZ (a:AV)(k:Nat->List AV->End->Prop):Prop:=match a with
 |.sl n l e=>k n l e
 |_=>False
theorem ao.out{α:Type}{x:Option α}{k:α->Prop}(h:ao x k):∃a,x=some a/\k a:=by
 cases x with
 |none=>exact h.elim
 |some a=>exact⟨a,rfl,h⟩
theorem AX{a:AV}{k:Bool->Prop}(h:a.asBool k):∃b,a=.val (.bool b)/\k b:=by
 unfold AV.asBool at h;split at h
 ·exact⟨_,rfl,h⟩
 ·exact h.elim
theorem nR{a:AV}{k:TU->Int->Prop}(h:a.asInt k):∃j n,a=.val (.int j n)/\k j n:=by
 unfold AV.asInt at h;split at h
 ·exact⟨_,_,rfl,h⟩
 ·exact h.elim
theorem aeF{a:AV}{k:List AV->Prop}(h:a.wM k):∃l,a=.aK l/\k l:=by
 unfold AV.wM at h;split at h
 ·exact⟨_,rfl,h⟩
 ·exact h.elim
theorem aew{a:AV}{k:List AV->Prop}(h:a.asAgg k):∃l,a=.agg l/\k l:=by
 unfold AV.asAgg at h;split at h
 ·exact⟨_,rfl,h⟩
 ·exact h.elim
theorem AY{a:AV}{k:Nat->Nat->Prop}(h:a.pz k):∃i j,a=.op i j/\k i j:=by
 unfold AV.pz at h;split at h
 ·exact⟨_,_,rfl,h⟩
 ·exact h.elim
theorem DY{a:AV}{k:Nat->Prop}(h:a.rZ k):∃i,a=.mp i/\k i:=by
 unfold AV.rZ at h;split at h
 ·exact⟨_,rfl,h⟩
 ·exact h.elim
theorem NI{a:AV}{k:Nat->List AV->End->Prop}(h:a.uZ k):∃n l e,a=.sl n l e/\k n l e:=by
 unfold AV.uZ at h;split at h
 ·exact⟨_,_,_,rfl,h⟩
 ·exact h.elim
section
variable (P:SJ)(s:AS)
def dp (op:VW)(xt:TypeId)(a b:AV)(k:AV->Prop):Prop:=match a,b with
 |.val (.int j m),.val (.int j' n)=>if mJ op then ao (Ab op j m n) λv=>k (.val v)else j'=j/\ao (lV op j m n) λv=>k (.val v)
 |_,_=>(op=.eql\/op=.neq)/\ao a.raw λX=>ao b.raw λY=>wV X Y=true/\P.eqGuardType P.depth xt=false/\∃e,cr P (Xe xt X Y) e/\k (.val (.bool (if op== .neq then !e else e)))
def iB (op:VW)(xt:TypeId)(y:Ti)(a:AV)(k:AV->Prop):Prop:=match y,a with
 |.const .nilIface,.val .nilIface=>ma P xt=some true/\(op=.eql\/op=.neq)/\k (.val (.bool (if op== .neq then false else true)))
 |.const .nilIface,.cX _ _=>ma P xt=some true/\(op=.eql\/op=.neq)/\k (.val (.bool (if op== .neq then true else false)))
 |y,a=>ao (s.ev y) λb=>dp P op xt a b k
def rO (t:TypeId)(a:AV)(l h m:Option Int)(k:AV->Prop):Prop:=match a with
 |.sl n li e=>ao (ki P t) λ(_,sz)=>wE n li e sz l h m k
 |.bE id off n cap=>ao (ki P t) λ(_,sz)=>rU id off n cap sz l h m k
 |.op id off=>ao (wA P t) λ(n,sz)=>rU id off n n sz l h m k
 |_=>False
def rN (t:TypeId)(a:AV)(k:AV->Prop):Prop:=match ln P t,a with
 |some .slice,.sl n _ _=>k (.val (.int .i64 n))
 |some .slice,.bE _ _ n _=>k (.val (.int .i64 n))
 |some .str,.val (.string b)=>k (.val (.int .i64 b.size))
 |some .map,.mp id=>match s.H[id]?with
  |some (.obj (.map es _))=>k (.val (.int .i64 es.size))
  |_=>False
 |_,_=>False
def mj (a:AV)(k:AV->Prop):Prop:=match a with
 |.fn (.method name) [.cX t av] []=>HB P t name/\k (.fn (.method name) [.cX t av] [])
 |a=>a.sure=true/\k a
def Ak (aD:TypeId)(ok:Bool)(a:AV)(k:AV->Prop):Prop:=ma P aD=some false/\ao (eG P aD) λz=>match a with
 |.cX t av=>if t=aD then k (if ok then .aK [av,.val (.bool true)]else av)else ok=true/\k (.aK [AV.of z,.val (.bool false)])
 |.val .nilIface=>ok=true/\k (.aK [AV.of z,.val (.bool false)])
 |_=>False
def lm (o:Tv)(k:AV->Prop):Prop:=match o.op with
 |.move x=>ao (s.ev x) k
 |.assign x=>ao (s.ev x) k
 |.pick c x y=>ao (s.ev c) λb=>ao (s.ev x) λa=>ao (s.ev y) λa'=>b.asBool λb=>k (if b then a else a')
 |.binOp op xt x y _=>ao (s.ev x) λa=>iB P s op xt y a k
 |.unOp .not _ x=>ao (s.ev x) λa=>a.asBool λb=>k (.val (.bool !b))
 |.unOp .neg _ x=>ao (s.ev x) λa=>a.asInt λj n=>k (.val (.int j (j.wrap (0-n))))
 |.convert src dst x=>ao (s.ev x) λa=>match Ao P src dst with
   |some (some j)=>a.asInt λ_ n=>k (.val (.int j (j.wrap n)))
   |_=>False
 |.extract x i=>ao (s.ev x) λa=>a.wM λl=>ao l[i]? k
 |.nilCheck x=>ao (s.ev x) λa=>mj P a k
 |.makeInterface t x=>ma P t=some false/\ao (s.ev x) λa=>k (.cX t a)
 |.makeFunc f first cQ=>ao (first.toList.mapM s.ev) λfa=>ao (cQ.toList.mapM s.ev) λca=>k (.fn f fa ca)
 |.typeAssert x _ aD ok=>ao (s.ev x) λa=>Ak P aD ok a k
 |.build t parts=>ao (oA P t) λ(pl,z)=>ao (jX s parts.toList) λaD=>ao (nV pl.at (lQ z) aD) λl=>k (.agg l)
 |.buildSlice t len parts=>ao (qB P t) λ(_,sz,z)=>len* sz<=2^24/\ao (jX s parts.toList) λaD=>ao (nV (ig.at (.elems sz)) (gG z (len* sz)) aD) λl=>k (.sl len l .exact)
 |.fieldAddr t x f=>ao (s.ev x) λa=>ao (eX P t f) λn=>ao (a.shift n) k
 |.indexAddr t x ix=>ao (s.ev x) λa=>ao (s.ev ix) λi=>i.asInt λ_ i=>ao (nL P t) fun
   |(some n,sz)=>(0<=i/\i<n)/\ao (a.shift (i.toNat* sz)) k
   |(none,sz)=>ao a.row λ(n,p)=>(0<=i/\i<n)/\ao (p.shift (i.toNat* sz)) k
 |.field t x f=>ao (s.ev x) λa=>a.asAgg λl=>ao (HC P t f) λ(off,n,g)=>ao (AV.cut l off n g) k
 |.index t x ix=>ao (s.ev x) λa=>ao (s.ev ix) λi=>i.asInt λ_ i=>match a with
   |.agg l=>ao (Hv P t) λ(n,sz,g)=>(0<=i/\i<n)/\ao (AV.cut l (i.toNat* sz) sz g) k
   |.val (.string b)=>(match ln P t with|some .str=>True|_=>False)/\0<=i/\ao b[i.toNat]? λc=>k (.val (.int .u8 c.toNat))
   |_=>False
 |.load t x=>ao (s.ev x) λp=>ao (s.at p) λl=>ao (Ty P t) fun
   |(n,true)=>n<=l.length/\k (.agg (l.take n))
   |(_,false)=>ao l[0]? k
 |.lookup t m k' ok=>ao (oD P t) λ(kt,et)=>ao (eG P et) λz=>ao (s.ev m) λp=>ao (s.ev k') λa=>ao a.raw λK=>p.rZ λid=>match s.H[id]?with
  |some (.obj (.map es _))=>cr P (U_ es.isEmpty 10000 kt K) ()/\∃fd,cr P (VK kt K es.toList) fd/\k (AV.found z ok fd)
  |_=>False
 |.slice t x lo hi mx=>ao (s.ev x) λa=>ao (s.iS lo) λl=>ao (s.iS hi) λh=>ao (s.iS mx) λm=>rO P t a l h m k
 |.entry it=>ao (s.ev it) λp=>p.pz λid off=>off=0/\match s.H[id]?with
   |some (.iter m _ seen ck)=>match s.H[m]?with
    |some (.obj (.map es Om))=>Om=ck/\ao seen.back? λb=>ao (es.find? (·.born==b)) λe=>k (.aK [AV.of e.key,AV.of e.val])
    |_=>False
   |_=>False
 |.call c=>match c.callee with
  |.builtin .len=>ao c.args[0]? λx=>ao c.argTypes[0]? λt=>ao (s.ev x) λa=>rN P s t a k
  |.builtin .max=>match c.args.toList with
   |[x,y]=>ao (s.ev x) λa=>ao (s.ev y) λb=>a.asInt λj m=>b.asInt λ_ n=>k (.val (.int j (if n>m then n else m)))
   |_=>False
  |.builtin .min=>match c.args.toList with
   |[x,y]=>ao (s.ev x) λa=>ao (s.ev y) λb=>a.asInt λj m=>b.asInt λ_ n=>k (.val (.int j (if n<m then n else m)))
   |_=>False
  |_=>False
 |_=>False
end
section
variable {lv:Bool}{P:SJ}{r:Option Nat}{o:Tv}{s:AS}
theorem mX{c:Xn}{x y:Ti}(h:c.args.toList=[x,y]):c.args=#[x,y]:=by
 apply Vz;simpa using h
theorem lm.sound{k:AV->Prop}(h:lm P s o k):∃av,dz lv P r o s av/\k av:=by
 unfold lm at h;split at h
 ·rename_i x ho;obtain⟨a,h1,h2⟩:=h.out;exact⟨a,abp (.inl ho) h1,h2⟩
 ·rename_i x ho;obtain⟨a,h1,h2⟩:=h.out;exact⟨a,abp (.inr ho) h1,h2⟩
 ·rename_i c x y ho;obtain⟨b,h1,h⟩:=h.out;obtain⟨a,h2,h⟩:=h.out;obtain⟨a',h3,h⟩:=h.out;obtain⟨b,rfl,h⟩:=AX h;exact⟨_,aor ho h1 h2 h3,h⟩
 ·rename_i op xt x y yt ho;obtain⟨a,h1,hY⟩:=h.out;clear h;unfold iB at hY;split at hY
  ·exact⟨_,abn ho hY.2.1 h1 (.inl ⟨rfl,rfl⟩) hY.1,hY.2.2⟩
  ·exact⟨_,abn ho hY.2.1 h1 (.inr ⟨⟨_,_,rfl⟩,rfl⟩) hY.1,hY.2.2⟩
  rename_i n1 n2;clear n1 n2;obtain⟨b,h2,h⟩:=hY.out;unfold dp at h;split at h
  ·rename_i j m j' n;split at h
   ·obtain⟨v,h3,h⟩:=h.out;exact⟨_,aos ho h1 h2 h3,h⟩
   ·obtain⟨rfl,h⟩:=h;obtain⟨v,h3,h⟩:=h.out;exact⟨_,an1 ho h1 h2 h3,h⟩
  ·obtain⟨au,h⟩:=h;obtain⟨X,h3,h⟩:=h.out;obtain⟨Y,h4,h⟩:=h.out;obtain⟨h5,h6,e,h7,h⟩:=h;exact⟨_,an6 ho au h1 h2 h3 h4 h5 h6 h7,h⟩
 ·rename_i t x ho;obtain⟨a,h1,h⟩:=h.out;obtain⟨b,rfl,h⟩:=AX h;exact⟨_,aoq ho h1,h⟩
 ·rename_i t x ho;obtain⟨a,h1,h⟩:=h.out;obtain⟨j,n,rfl,h⟩:=nR h;exact⟨_,aon ho h1,h⟩
 ·rename_i src dst x ho;obtain⟨a,h1,h⟩:=h.out;split at h
  ·rename_i j hj;obtain⟨j',n,rfl,h⟩:=nR h;exact⟨_,an4 ho hj h1,h⟩
  ·exact h.elim
 ·rename_i x i ho;obtain⟨a,h1,h⟩:=h.out;obtain⟨l,rfl,h⟩:=aeF h;obtain⟨b,h2,h⟩:=h.out;exact⟨_,an7 ho h1 h2,h⟩
 ·rename_i x ho;obtain⟨a,h1,h⟩:=h.out;unfold mj at h;split at h
  ·exact⟨_,aop ho h1 h.1,h.2⟩
  ·exact⟨_,aoo ho h1 h.1,h.2⟩
 ·rename_i t x ho;obtain⟨h1,h⟩:=h;obtain⟨a,h2,h⟩:=h.out;exact⟨_,aok ho h1 h2,h⟩
 ·rename_i f first cQ ho
  obtain⟨fa,h1,h⟩:=h.out;obtain⟨ca,h2,h⟩:=h.out;exact⟨_,aoj ho h1 h2,h⟩
 ·rename_i x xt aD ok ho;obtain⟨a,h1,hA⟩:=h.out;obtain⟨h2,hB⟩:=hA;obtain⟨z,h3,hC⟩:=hB.out;clear h hB;split at hC
  ·rename_i t av;split at hC
   ·rename_i e;subst e;exact⟨_,abm ho h2 h3 h1 (.inr rfl),by rw[if_pos rfl];exact hC⟩
   ·rename_i e;exact⟨_,abm ho h2 h3 h1 (.inl hC.1),by rw[if_neg e];exact hC.2⟩
  ·obtain⟨e,hC⟩:=hC;subst e;exact⟨_,an0 ho h2 h3 h1,hC⟩
  ·exact hC.elim
 ·rename_i t parts ho;obtain⟨⟨pl,z⟩,h1,h⟩:=h.out;obtain⟨aD,h2,h⟩:=h.out;obtain⟨l,h3,h⟩:=h.out;exact⟨_,an2 ho h1 h2 h3,h⟩
 ·rename_i t len parts ho;obtain⟨⟨e,sz,z⟩,h1,h⟩:=h.out;obtain⟨hs,h⟩:=h;obtain⟨aD,h2,h⟩:=h.out;obtain⟨l,h3,h⟩:=h.out;exact⟨_,an3 ho h1 hs h2 h3,h⟩
 ·rename_i t x f ho;obtain⟨a,h1,h⟩:=h.out;obtain⟨n,hn,h⟩:=h.out;obtain⟨b,h2,h⟩:=h.out;exact⟨_,an8 ho hn h1 h2,h⟩
 ·rename_i t x ix ho;obtain⟨a,h1,h⟩:=h.out;obtain⟨i,h2,h⟩:=h.out;obtain⟨j,i,rfl,h⟩:=nR h;obtain⟨⟨on,sz⟩,ht,h⟩:=h.out;cases on with
  |some n=>
   obtain⟨⟨h3,h4⟩,h⟩:=h;obtain⟨q,h5,h⟩:=h.out;exact⟨_,aob ho ht h1 h2 h3 h4 h5,h⟩
  |none=>
   obtain⟨⟨n,p⟩,akL,h⟩:=ao.out h;obtain⟨⟨h3,h4⟩,h⟩:=h;obtain⟨q,h5,h⟩:=h.out;exact⟨_,aoa ho ht h1 akL h2 h3 h4 h5,h⟩
 ·rename_i t x f ho;obtain⟨a,h1,h⟩:=h.out;obtain⟨l,rfl,h⟩:=aew h;obtain⟨⟨off,n,g⟩,h2,h⟩:=h.out;obtain⟨b,h3,h⟩:=h.out;exact⟨_,an9 ho h2 h1 h3,h⟩
 ·rename_i t x ix ho;obtain⟨a,h1,h⟩:=h.out;obtain⟨i,h2,h⟩:=h.out;obtain⟨j,i,rfl,h⟩:=nR h;split at h
  ·obtain⟨⟨n,sz,g⟩,h3,h⟩:=h.out;obtain⟨⟨h4,h5⟩,h⟩:=h;obtain⟨b,h6,h⟩:=h.out;exact⟨_,aod ho h3 h1 h2 h4 h5 h6,h⟩
  ·obtain⟨h3,h4,h⟩:=h;obtain⟨c,h5,h⟩:=h.out;split at h3
   ·rename_i hl;exact⟨_,aoc ho hl h1 h2 h4 h5,h⟩
   ·exact h3.elim
  ·exact h.elim
 ·rename_i t x ho;obtain⟨p,h1,h⟩:=h.out;obtain⟨l,hl,h⟩:=h.out;obtain⟨⟨n,g⟩,ht,h⟩:=h.out;cases g with
  |true=>exact⟨_,aog ho ht h1 hl h.1,h.2⟩
  |false=>
   obtain⟨av,h2,h⟩:=ao.out h;exact⟨_,aoh ho ht h1 hl h2,h⟩
 ·rename_i t m k' ok ho;obtain⟨⟨kt,et⟩,h1,hA⟩:=h.out;obtain⟨z,h2,hB⟩:=hA.out;obtain⟨p,h3,hC⟩:=hB.out;obtain⟨a,h4,hD⟩:=hC.out;obtain⟨K,h5,hE⟩:=hD.out;obtain⟨id,e1,hF⟩:=DY hE;subst e1;split at hF
  ·rename_i es ck hH;obtain⟨h6,fd,h7,h8⟩:=hF;exact⟨_,aoi ho h1 h2 h3 h4 h5 hH h6 h7,h8⟩
  ·exact hF.elim
 ·rename_i t x lo hi mx ho;obtain⟨a,h1,h⟩:=h.out;obtain⟨l,h2,h⟩:=h.out;obtain⟨hh,h3,h⟩:=h.out;obtain⟨m,h4,h⟩:=h.out;unfold rO at h;split at h
  ·obtain⟨⟨e,sz⟩,h5,h⟩:=h.out;exact aot ho h5 h1 h2 h3 h4 h
  ·obtain⟨⟨e,sz⟩,h5,h⟩:=h.out;exact aov ho h5 h1 h2 h3 h4 h
  ·obtain⟨⟨n,sz⟩,h5,h⟩:=h.out;exact aou ho h5 h1 h2 h3 h4 h
  ·exact h.elim
 ·rename_i it ho;obtain⟨p,h1,hA⟩:=h.out;obtain⟨id,off,e1,hB⟩:=AY hA;clear h hA;subst e1;obtain⟨e1,hC⟩:=hB;subst e1;split at hC
  ·rename_i m since seen ck hI;split at hC
   ·rename_i es Om hM;obtain⟨e1,hD⟩:=hC;subst e1;obtain⟨b,h2,hE⟩:=hD.out;obtain⟨e,h3,hF⟩:=hE.out;exact⟨_,an5 ho h1 hI hM h2 h3,hF⟩
   ·exact hC.elim
  ·exact hC.elim
 ·rename_i c ho;split at h
  ·rename_i aX;obtain⟨x,h1,h⟩:=h.out;obtain⟨t,h2,h⟩:=h.out;obtain⟨a,h3,h⟩:=h.out;unfold rN at h;split at h
   ·rename_i hl;exact⟨_,abo ho aX h1 h2 hl h3 rfl,h⟩
   ·rename_i hl;exact⟨_,abo ho aX h1 h2 hl h3 rfl,h⟩
   ·rename_i hl;exact⟨_,aof ho aX h1 h2 hl h3,h⟩
   ·rename_i hl;split at h
    ·rename_i hM;exact⟨_,aoe ho aX h1 h2 hl h3 hM,h⟩
    ·exact h.elim
   ·exact h.elim
  ·rename_i aX;split at h
   ·rename_i x y cK;obtain⟨a,h1,hA⟩:=h.out;obtain⟨b,h2,hB⟩:=hA.out;obtain⟨j,m,e1,hC⟩:=nR hB;obtain⟨j',n,e2,hD⟩:=nR hC;subst e1 e2;exact⟨_,aol ho aX (mX cK) h1 h2,hD⟩
   ·exact h.elim
  ·rename_i aX;split at h
   ·rename_i x y cK;obtain⟨a,h1,hA⟩:=h.out;obtain⟨b,h2,hB⟩:=hA.out;obtain⟨j,m,e1,hC⟩:=nR hB;obtain⟨j',n,e2,hD⟩:=nR hC;subst e1 e2;exact⟨_,aom ho aX (mX cK) h1 h2,hD⟩
   ·exact h.elim
  ·exact h.elim
 ·exact h.elim
end
open Go.Conc
structure lR (X Y:Prop):Type where
 n:Nat
def qv (b bU:Bool)(X Y:Prop)(_t:lR X Y):Prop:=(b=bU->X)/\(b= !bU->Y)
theorem w7{b bU:Bool}{X Y:Prop}{t:lR X Y}(h1:b=bU->X)(h2:b= !bU->Y):qv b bU X Y t:=⟨h1,h2⟩
theorem aiX(X Y:Prop)(t:lR X Y):qv true true X Y t=X:=by simp[qv]
theorem aiW(X Y:Prop)(t:lR X Y):qv true false X Y t=Y:=by simp[qv]
theorem aiV(X Y:Prop)(t:lR X Y):qv false true X Y t=Y:=by simp[qv]
theorem aiU(X Y:Prop)(t:lR X Y):qv false false X Y t=X:=by simp[qv]
section
variable (lv:Bool)(P:SJ)
def tg (H:List aa)(k:AV->List aa->Prop)(id off n c0 m sz:Nat)(elem:TypeId)(l':List AV):Prop:=off=0/\c0<n/\l'.length=m* sz/\n+m<=2^30/\(∀a∈l',a.leaf=true)/\match H[id]?with
 |some (.own ep l el)=>ep=sz/\el=elem/\l.length=n* sz/\k (.bE H.length 0 (n+m) 0) (H.set id .gone++[.own sz (l++l') elem])
 |_=>False
def AV.pA (a:AV)(kO:Nat->Nat->Nat->Nat->Prop)(k:Nat->List AV->End->Prop):Prop:=match a with
 |.bE id off n c=>kO id off n c
 |.sl n l e=>k n l e
 |_=>False
theorem HL{a:AV}{kO:Nat->Nat->Nat->Nat->Prop}{k:Nat->List AV->End->Prop}(h:a.pA kO k):(∃id off n c,a=.bE id off n c/\kO id off n c)\/∃n l e,a=.sl n l e/\k n l e:=by
 unfold AV.pA at h;split at h
 ·exact .inl ⟨_,_,_,_,rfl,h⟩
 ·exact .inr ⟨_,_,_,rfl,h⟩
 ·exact h.elim
def ml (s:AS)(o:Tv)(next:AS->Prop)(bad:AV->AS->Prop):Prop:=match o.op with
 |.box t x=>ao (s.ev x) λa=>ao a.parts λl=>next ((⟨s.T,s.H++[.cells l t]⟩:AS).put o.dst (.op s.H.length 0))
 |.alloc t=>ao (eG P t) λz=>next ((⟨s.T,s.H++[.cells (lQ z) t]⟩:AS).put o.dst (.op s.H.length 0))
 |.store t x y=>ao (s.ev x) λp=>ao (s.ev y) λa=>ao a.parts λlp=>p.pz λid off=>match s.H[id]?with
  |some (.cells l el)=>(ao (Ty P t) λx=>lp.length=x.1)/\off+lp.length<=l.length/\(∀a∈lp,a.leaf=true)/\next ((⟨s.T,s.H.set id (.cells (iw l off lp) el)⟩:AS).put o.dst (.val undef))
  |some (.part p l el)=>p<=off/\(ao (Ty P t) λx=>lp.length=x.1)/\off+lp.length<=l.length/\(∀a∈lp,a.leaf=true)/\next ((⟨s.T,s.H.set id (.part p (iw l off lp) el)⟩:AS).put o.dst (.val undef))
  |some (.own p l el)=>(ao (Ty P t) λx=>lp.length=x.1)/\off+lp.length<=l.length/\(∀a∈lp,a.leaf=true)/\next ((⟨s.T,s.H.set id (.own p (iw l off lp) el)⟩:AS).put o.dst (.val undef))
  |_=>False
 |.makeMap _ none=>next ((⟨s.T,s.H++[.obj (.map #[] 0)]⟩:AS).put o.dst (.mp s.H.length))
 |.makeSlice t x y=>ao (Ay P t) λ(e,sz,z)=>ao (s.ev x) λa=>ao (s.ev y) λb=>a.asInt λ_ n=>b.asInt λ_ n'=>n'=n/\0<=n/\n<=2^30/\next ((⟨s.T,s.H++[.cells (gG z (n.toNat* sz)) e]⟩:AS).put o.dst (.bE s.H.length 0 n.toNat n.toNat))
 |.mapUpdate t m k x=>ao (oD P t) λ(kt,_)=>ao (s.ev m) λp=>ao (s.ev k) λa=>ao (s.ev x) λb=>ao a.raw λK=>ao b.raw λX=>p.rZ λid=>match s.H[id]?with
  |some (.obj (.map es ck))=>cr P (U_ false 10000 kt K) ()/\∃fd,cr P (VK kt K es.toList) fd/\(∀i v,fd=some (i,v)->Wy 10000 (((es[i]?).map (·.key)).getD K) K=true)/\next ((⟨s.T,s.H.set id (.obj (wb es ck K X fd))⟩:AS).put o.dst (.val undef))
  |_=>False
 |.range t x=>ao (oD P t) λ_=>ao (s.ev x) λp=>p.rZ λm=>match s.H[m]?with
  |some (.obj (.map _ ck))=>next ((⟨s.T,s.H++[.iter m ck #[] ck]⟩:AS).put o.dst (.op s.H.length 0))
  |_=>False
 |.next it false=>ao (s.ev it) λp=>p.pz λid off=>off=0/\match s.H[id]?with
  |some (.iter m since seen td)=>match s.H[m]?with
   |some (.obj (.map es ck))=>(es.all (λe=>decide (e.born>=td))=false\/es.isEmpty=true\/seen.isEmpty=true)/\
    (∀e∈es,e.born∉seen->next ((⟨s.T,s.H.set id (.iter m since (seen.push e.born) ck)⟩:AS).put o.dst (.aK [.val (.bool true),AV.of e.key,AV.of e.val])))/\
    ((∀e∈es,e.born<since->e.born∈seen)->next (s.put o.dst (.aK [.val (.bool false)])))
   |_=>False
  |_=>False
 |.panic x=>ao (s.ev x) λa=>match a with
  |.cX t av=>bad (.cX t av) s
  |_=>False
 |.binOp op t x (.const (.slice none 0 0)) _=>(op=.eql\/op=.neq)/\ao (ki P t) λ_=>ao (s.ev x) λa=>ao a.len λn=>∀b:Bool,(0<n->b=false)->next (s.put o.dst (.val (.bool (if op== .neq then !b else b))))
 |.call c=>match c.callee with
  |.builtin .append=>match c.args.toList,c.argTypes.toList with
   |[x,y],[t,t']=>ao (jF P t t') λ(elem,sz,_)=>ao (s.ev x) λa=>ao (s.ev y) λb=>a.pA (λid off n c0=>ao (s.src sz b) λ(m,l')=>tg s.H (λb H'=>next ((⟨s.T,H'⟩:AS).put o.dst b)) id off n c0 m sz elem l') λn l e=>ao (s.src sz b) λ(m,l')=>l.length=n* sz/\l'.length=m* sz/\n+m<=2^30/\Am s o.dst next n m sz elem l l' e
   |_,_=>False
  |.builtin .copy=>match c.args.toList,c.argTypes.toList with
   |[x,y],[t,_]=>ao (ki P t) λ(_,sz)=>ao (s.ev x) λa=>ao (s.ev y) λb=>match a with
    |.bE id off n _=>match s.H[id]?with
     |some (.cells l el)=>ao (s.src sz b) λ(m,l')=>l'.length=m* sz/\off+min m n* sz<=l.length/\(∀a∈l',a.leaf=true)/\next ((⟨s.T,s.H.set id (.cells (iw l off (l'.take (min m n* sz))) el)⟩:AS).put o.dst (.val (.int .i64 (min m n:Nat))))
     |_=>False
    |_=>False
   |_,_=>False
  |.builtin .delete=>match c.args.toList,c.argTypes.toList with
   |[m,k],[t,_]=>ao (oD P t) λ(kt,_)=>ao (s.ev m) λp=>ao (s.ev k) λa=>ao a.raw λK=>p.rZ λid=>match s.H[id]?with
    |some (.obj (.map es ck))=>cr P (U_ es.isEmpty 10000 kt K) ()/\∃fd,cr P (VK kt K es.toList) fd/\next ((⟨s.T,s.H.set id (.obj (.map (Ea es fd) ck))⟩:AS).put o.dst (.val undef))
    |_=>False
   |_,_=>False
  |.value x=>ao (s.ev x) λf=>ao (e9 s c.args.toList) λaD=>An lv P f s.H aD (λb H'=>next ((⟨s.T,H'⟩:AS).put o.dst b)) (λpv H'=>bad pv ⟨s.T,H'⟩) ⟨0⟩
  |.invoke x name=>ao (s.ev x) λf=>ao (e9 s c.args.toList) λaD=>adg lv P f name s.H aD (λb H'=>next ((⟨s.T,H'⟩:AS).put o.dst b)) (λpv H'=>bad pv ⟨s.T,H'⟩) ⟨0⟩
  |_=>lm P s o λav=>next (s.put o.dst av)
 |_=>lm P s o λav=>next (s.put o.dst av)
def ie (all:Array Tv):List Tv->AS->(AS->Prop)->(AV->AS->Prop)->Prop
 |[],s,next,_=>next s
 |o::rest,s,next,bad=>match o.guard with
  |none=>ml lv P s o (λs'=>ie all rest s' next bad) bad
  |some (j,bU)=>ao ((all[j]?).bind (·.dst)) λd=>ao (look s.T d) λa=>a.asBool λb=>qv b bU (ml lv P ⟨(d,.val (.bool bU))::s.T,s.H⟩ o (λs'=>ie all rest s' next bad) bad) (ie all rest ((⟨(d,.val (.bool !bU))::s.T,s.H⟩:AS).put o.dst (.val undef)) next bad) ⟨0⟩
end
section
variable {lv:Bool}{P:SJ}{r:Option Nat}{s:AS}
theorem rK{c:Xn}{x y:TypeId}(h:c.argTypes.toList=[x,y]):c.argTypes=#[x,y]:=by
 apply Vz;simpa using h
theorem ml.sound{o:Tv}{next:AS->Prop}{bad:AV->AS->Prop}(h:ml lv P s o next bad):Step lv P r o s next bad:=by
 have quiet:(lm P s o λav=>next (s.put o.dst av))->Step lv P r o s next bad:=λh=>by
  obtain⟨av,h1,h2⟩:=h.sound (lv:=lv) (r:=r);exact h1.step h2
 unfold ml at h;split at h
 ·rename_i t x ho;obtain⟨a,h1,h⟩:=h.out;obtain⟨l,h2,h⟩:=h.out;exact ach ho h1 h2 h
 ·rename_i t ho;obtain⟨z,h1,h⟩:=h.out;exact ace ho h1 h
 ·rename_i t x y ho;obtain⟨p,h1,hA⟩:=h.out;obtain⟨a,h2,hB⟩:=hA.out;obtain⟨lp,h3,hC⟩:=hB.out;obtain⟨id,off,e1,hD⟩:=AY hC;clear h hA hB hC;subst e1;split at hD
  ·rename_i l el hk;obtain⟨q1,q2,q3,q4⟩:=hD;obtain⟨⟨n,g⟩,q5,q6⟩:=q1.out;exact acm ho q5 h1 hk h2 h3 q6 q2 q3 q4
  ·rename_i p l el hk;obtain⟨q0,q1,q2,q3,q4⟩:=hD;obtain⟨⟨n,g⟩,q5,q6⟩:=q1.out;exact aql ho q5 h1 hk q0 h2 h3 q6 q2 q3 q4
  ·rename_i p l el hk;obtain⟨q1,q2,q3,q4⟩:=hD;obtain⟨⟨n,g⟩,q5,q6⟩:=q1.out;exact acn ho q5 h1 hk h2 h3 q6 q2 q3 q4
  ·exact hD.elim
 ·rename_i t ho;exact aqf ho h
 ·rename_i t x y ho;obtain⟨⟨e,sz,z⟩,h1,hA⟩:=h.out;obtain⟨a,h2,hB⟩:=hA.out;obtain⟨b,h3,hC⟩:=hB.out;obtain⟨j,n,e1,hD⟩:=nR hC;obtain⟨j',n',e2,hE⟩:=nR hD;clear h hA hB hC hD;subst e1 e2;obtain⟨e3,h4,h5,h6⟩:=hE;subst e3;obtain⟨m,rfl⟩:∃m:Nat,n'=m:=⟨n'.toNat,by omega⟩;exact ack ho h1 h2 h3 (by omega) (by simpa using h6)
 ·rename_i t m k x ho;obtain⟨⟨kt,et⟩,h1,hA⟩:=h.out;obtain⟨p,h2,hB⟩:=hA.out;obtain⟨a,h3,hC⟩:=hB.out;obtain⟨b,h4,hD⟩:=hC.out;obtain⟨K,h5,hE⟩:=hD.out;obtain⟨X,h6,hF⟩:=hE.out;obtain⟨id,e1,hG⟩:=DY hF;clear h hA hB hC hD hE hF;subst e1;split at hG
  ·rename_i es ck hH;obtain⟨q1,fd,q2,q3,q4⟩:=hG;exact aqg (.inl ho) h1 h2 h3 h4 h5 h6 hH q1 q2 q3 q4
  ·exact hG.elim
 ·rename_i t x ho;obtain⟨⟨kt,et⟩,h1,hA⟩:=h.out;obtain⟨p,h2,hB⟩:=hA.out;obtain⟨m,e1,hC⟩:=DY hB;clear h hA hB;subst e1;split at hC
  ·rename_i es ck hH;exact aqj ho h1 h2 hH hC
  ·exact hC.elim
 ·rename_i it ho;obtain⟨p,h1,hA⟩:=h.out;obtain⟨id,off,e1,hB⟩:=AY hA;clear h hA;subst e1;obtain⟨e1,hC⟩:=hB;subst e1;split at hC
  ·rename_i m since seen td hI;split at hC
   ·rename_i es ck hM;exact aqh ho h1 hI hM hC.1 hC.2.1 hC.2.2
   ·exact hC.elim
  ·exact hC.elim
 ·rename_i x ho;obtain⟨a,h1,hA⟩:=h.out;split at hA
  ·exact aqi ho h1 hA
  ·exact hA.elim
 ·rename_i op t x yt ho;obtain⟨au,hA⟩:=h;obtain⟨d,h1,hB⟩:=hA.out;obtain⟨a,h2,hC⟩:=hB.out;obtain⟨n,e1,hD⟩:=hC.out;exact aqk ho au h2 e1 h1 hD
 ·rename_i c ho;split at h
  ·rename_i aX;split at h
   ·rename_i x y t t' ha ht;obtain⟨⟨elem,sz,z⟩,h1,hA⟩:=h.out;obtain⟨a,h2,hB⟩:=hA.out;obtain⟨b,h3,hC⟩:=hB.out;rcases HL hC with⟨id,off,n,c0,e1,hD⟩|⟨n,l,e,e1,hD⟩
    ·clear h hA hB hC;subst e1;obtain⟨⟨m,l'⟩,h4,rfl,g2,g3,g4,g5,hE⟩:=hD.out;split at hE
     ·rename_i hk;obtain⟨rfl,rfl,g6,g7⟩:=hE;exact acf ho aX (mX ha) (rK ht) h1 h2 g2 hk rfl h3 h4 g6 g3 g4 g5 g7
     ·exact hE.elim
    ·clear h hA hB hC;subst e1;obtain⟨⟨m,l'⟩,h4,h5,h6,h7,h8⟩:=hD.out;exact step_append ho aX (mX ha) (rK ht) h1 h2 h3 h4 h5 h6 h7 h8
   ·exact h.elim
  ·rename_i aX;split at h
   ·rename_i x y t t' ha ht;obtain⟨⟨elem,sz⟩,h1,hA⟩:=h.out;obtain⟨a,h2,hB⟩:=hA.out;obtain⟨b,h3,hC⟩:=hB.out;clear h hA hB;split at hC
    ·split at hC
     ·rename_i hk;obtain⟨⟨m,l'⟩,h4,h5,h6,h7,h8⟩:=hC.out;exact aqd ho aX (mX ha) (rK ht) h1 h2 hk h3 h4 h5 h6 h7 h8
     ·exact hC.elim
    ·exact hC.elim
   ·exact h.elim
  ·rename_i aX;split at h
   ·rename_i m k t t' ha ht;obtain⟨⟨kt,et⟩,h1,hA⟩:=h.out;obtain⟨p,h2,hB⟩:=hA.out;obtain⟨a,h3,hC⟩:=hB.out;obtain⟨K,h4,hD⟩:=hC.out;obtain⟨id,e1,hE⟩:=DY hD;clear h hA hB hC hD;subst e1;split at hE
    ·rename_i es ck hH;obtain⟨q1,fd,q2,q3⟩:=hE;exact aqe ho aX (mX ha) (rK ht) h1 h2 h3 h4 hH q1 q2 q3
    ·exact hE.elim
   ·exact h.elim
  ·rename_i x aX;obtain⟨f,h1,hA⟩:=h.out;obtain⟨aD,h2,hB⟩:=hA.out;exact MP ho aX h1 h2 hB
  ·rename_i x name aX;obtain⟨f,h1,hA⟩:=h.out;obtain⟨aD,h2,hB⟩:=hA.out;exact acj ho aX h1 h2 hB
  ·exact quiet h
 ·exact quiet h
structure At (E:Env)(V:View)(s:AS)(a:Act)(nt:Nat):Prop where
 bm:Conc E V s.H
 tok:b8 E s.T a.tmps
 size:a.tmps.size=nt
theorem Kept.refl(E:Env)(V:View)(a:Act):Kept E E V V a a:=⟨Env.Le.refl E,rfl,rfl,rfl,rfl⟩
theorem Kept.trans{E E' bO:Env}{V V' aR:View}{a a' b9:Act}(h:Kept E E' V V' a a')(k:Kept E' bO V' aR a' b9):Kept E bO V aR a b9:=
 ⟨h.le.trans k.le,k.size.trans h.size,k.defers.trans h.defers,k.role.trans h.role,k.deaf.trans h.deaf⟩
inductive an where
 |normal
 |exit (id:Nat)
 |goto (l:Nat)
 |ret
 |panic (pv:AV)
def pt (E:Env):an->Ex->Prop
 |.normal,.normal=>True
 |.exit i,.exit j=>i=j
 |.goto i,.goto j=>i=j
 |.ret,.ret=>True
 |.panic pv,.panic ch=>∃v,ch=[{v,recovered:=false}]/\ap E pv v
 |_,_=>False
def aU (lv:Bool)(P:SJ)(r:Option Nat)(nt:Nat)(c:T5)(s:AS)(Φ:an->AS->Prop):Prop:=
 ∀(E:Env)(V:View)(a:Act)(Q:Ex->Act->View->Prop),At E V s a nt->(∀ae e E' V' a' s',Kept E E' V V' a a'->At E' V' s' a' nt->pt E' ae e->Φ ae s'->Q e a' V')->WP lv P r c Q a V
theorem zN{nt:Nat}{all:Array Tv}{Φ:an->AS->Prop}(dj:∀o∈all,∀d,o.dst=some d->d<nt)(nj:∀o∈all,r=none\/l_ o.op=false):∀(n k:Nat)(s:AS),k+n=all.size->ie lv P all (all.toList.drop k) s (Φ .normal) (λpv s=>Φ (.panic pv) s)->
  ∀(E:Env)(V:View)(a:Act)(Q:Ex->Act->View->Prop),At E V s a nt->(∀ae e E' V' a' s',Kept E E' V V' a a'->At E' V' s' a' nt->pt E' ae e->Φ ae s'->Q e a' V')->dh lv P r all Q (Ua k n) a V
 |0,k,s,hk,h,E,V,a,Q,ah,hQ=>by
  have:all.toList.drop k=[]:=by simp;omega
  rw[this]at h;exact hQ .normal .normal E V a s (Kept.refl E V a) ah trivial h
 |n+1,k,s,hk,h,E,V,a,Q,ah,hQ=>by
  have hlt:k<all.size:=by omega
  have hd:all.toList.drop k=all[k]::all.toList.drop (k+1):=by
   rw[TW (by simpa using hlt)];simp
  rw[hd]at h;have fA:all[k]∈all:=XS hlt;have ho:all[k]?=some all[k]:=SK hlt;simp only[VN,dh,ho];have go:∀s:AS,At E V s a nt->ml lv P s all[k] (λs'=>ie lv P all (all.toList.drop (k+1)) s' (Φ .normal) (λpv s=>Φ (.panic pv) s)) (λpv s=>Φ (.panic pv) s)->wC lv P r all[k] a V (dh lv P r all Q (Ua (k+1) n)) Q:=λs ah h=>by
   refine h.sound (lv:=lv) (r:=r) E V a _ Q ah.bm ah.tok (λd e=>by rw[ah.size];exact dj _ fA d e) (nj _ fA) (λE' V' a' s' aI bh l7 hn=> ?_) (λE' V' s' pv v aI bh l7 bi hb=> ?_)
   ·exact zN dj nj n (k+1) s' (by omega) hn E' V' a' Q ⟨bh,l7,aI.size.trans ah.size⟩ (λae e bO aR b9 dg fN dc he hΦ=>hQ ae e bO aR b9 dg (aI.trans fN) dc he hΦ)
   ·exact hQ (.panic pv) (.panic _) E' V' a s' aI ⟨bh,l7,ah.size⟩ ⟨v,rfl,bi⟩ hb
  simp only[ie]at h;split at h
  ·rename_i hg;have hw:Th all[k] (yielded all a.tmps)=true:=(by unfold Th;rw[hg]);rw[if_pos hw];exact .inl (go s ah h)
  ·rename_i j bU hg;obtain⟨d,gf,h⟩:=h.out;obtain⟨av,h1,h⟩:=h.out;obtain⟨b,rfl,h2,h3⟩:=AX h;have hv:=(ah.tok d _ h1).2;have hy:yielded all a.tmps j=some b:=by
    obtain⟨oj,kz,iW⟩:=Tf.1 gf;generalize hx:a.tmps.getD d undef=x at hv;cases hv;have l5:d<a.tmps.size:=(ah.tok d _ h1).1;rw[SI,SK l5]at hx;simp only[S9]at hx;simp[yielded,kz,iW,SK l5,hx]
   have rq:∀b',b=b'->At E V ⟨(d,.val (.bool b'))::s.T,s.H⟩ a nt:=λb' dB=>by
    subst dB;refine⟨ah.bm,λt x e=> ?_,ah.size⟩;simp only[look]at e;split at e
    ·rename_i e';subst e';cases e;exact ah.tok d _ h1
    ·exact ah.tok t x e
   by_cases hb:b=bU
   ·have hw:Th all[k] (yielded all a.tmps)=true:=(by unfold Th;rw[hg];simp[hy,hb]);rw[if_pos hw];exact .inl (go _ (rq bU hb) (h2 hb))
   ·have hw:¬Th all[k] (yielded all a.tmps)=true:=(by unfold Th;rw[hg];simp[hy,hb]);rw[if_neg hw];have dB:b= !bU:=(by cases b<;>cases bU<;>simp_all);have vo:=h3 dB;have ah:=rq _ dB;exact zN dj nj n (k+1) ((⟨(d,.val (.bool !bU))::s.T,s.H⟩:AS).put all[k].dst (.val undef)) (by omega) vo E V (a.put all[k].dst undef) Q
     ⟨by rw[fe];exact ah.bm,ah.tok.gN (λd e=>by rw[ah.size];exact dj _ fA d e) (.val undef),by rw[dX];exact ah.size⟩
     (λae e bO aR b9 dg fN dc he hΦ=>hQ ae e bO aR b9 dg ⟨fN.le,fN.size.trans (dX _ _ _),fN.defers.trans (put_defers _ _ _),fN.role,fN.deaf⟩ dc he hΦ)
def jL (nt:Nat)(ops:Array Tv):Bool:=ops.all λo=>(o.dst.all (·<nt))&& !l_ o.op
theorem jL.out{nt:Nat}{ops:Array Tv}(hd:jL nt ops=true){o:Tv}(ho:o∈ops):(∀d,o.dst=some d->d<nt)/\l_ o.op=false:=by
 have:=(UD.1 hd) o ho;simp only[Tc,TV]at this;exact⟨λd e=>by have h1:=this.1;rw[e]at h1;simpa using h1,this.2⟩
theorem NU{nt id:Nat}{ops:Array Tv}{Φ:an->AS->Prop}(hd:jL nt ops=true)(h:ie lv P ops ops.toList s (Φ .normal) (λpv s=>Φ (.panic pv) s)):aU lv P r nt (.region id ops false) s Φ:=by
 intro E V a Q ah hQ;refine wp_region ?_;rw[Vm];exact zN (Φ:=Φ) (λo ho d e=>(jL.out hd ho).1 d e) (λo ho=> .inr (jL.out hd ho).2) ops.size 0 s (by omega) (by simpa using h) E V a Q ah hQ
theorem NY{nt:Nat}{Φ:an->AS->Prop}(h:Φ .normal s):aU lv P r nt .skip s Φ:=λE V a _ ah hQ=>wp_skip (hQ .normal _ E V a s (Kept.refl E V a) ah trivial h)
theorem NS{nt l:Nat}{Φ:an->AS->Prop}(h:Φ .normal s):aU lv P r nt (.label l) s Φ:=λE V a _ ah hQ=>wp_label (hQ .normal _ E V a s (Kept.refl E V a) ah trivial h)
theorem NR{nt id:Nat}{Φ:an->AS->Prop}(h:Φ (.exit id) s):aU lv P r nt (.exit id) s Φ:=λE V a _ ah hQ=>wp_exit (hQ (.exit id) _ E V a s (Kept.refl E V a) ah rfl h)
theorem NW{nt:Nat}{Φ:an->AS->Prop}(h:Φ .ret s):aU lv P r nt .ret s Φ:=λE V a _ ah hQ=>wp_ret (hQ .ret _ E V a s (Kept.refl E V a) ah trivial h)
def an.then (next:AS->Prop)(Φ:an->AS->Prop):an->AS->Prop
 |.normal,s=>next s
 |e,s=>Φ e s
theorem pt.mono{E E':Env}(h:E.Le E'){ae:an}{e:Ex}(k:pt E ae e):pt E' ae e:=by
 cases ae<;>cases e<;>first|exact k|(obtain⟨v,h1,h2⟩:=k;exact⟨v,h1,h2.mono h⟩)
theorem gT{nt:Nat}{x y:T5}{Φ:an->AS->Prop}(h:aU lv P r nt x s (an.then (λs'=>aU lv P r nt y s' Φ) Φ)):aU lv P r nt (.seq x y) s Φ:=by
 intro E V a Q ah hQ;refine wp_seq (h E V a _ ah λae e E' V' a' s' hk aS he hΦ=> ?_);cases ae<;>cases e<;>first
  |exact he.elim
  |exact hΦ E' V' a' Q aS λae e bO aR b9 dg aI dc j4 sS=>hQ ae e bO aR b9 dg (hk.trans aI) dc j4 sS
  |exact hQ _ _ E' V' a' s' hk aS he hΦ
theorem aeN{nt:Nat}{c:Ti}{x y:T5}{b:Bool}{Φ:an->AS->Prop}(hc:s.ev c=some (.val (.bool b)))(h1:b=true->aU lv P r nt x s Φ)(h2:b=false->aU lv P r nt y s Φ):aU lv P r nt (.cond c x y) s Φ:=by
 intro E V a Q ah hQ;have hv:=ap.ev ah.tok hc;generalize hx:a.eval c=v at hv;cases hv;refine wp_cond hx ?_;cases b with
 |true=>exact h1 rfl E V a Q ah hQ
 |false=>exact h2 rfl E V a Q ah hQ
def an.inBlock (id:Nat)(Φ:an->AS->Prop):an->AS->Prop
 |.exit oo,s=>if oo=id then Φ .normal s else Φ (.exit oo) s
 |e,s=>Φ e s
theorem NP{nt id:Nat}{c:T5}{Φ:an->AS->Prop}(h:aU lv P r nt c s (an.inBlock id Φ)):aU lv P r nt (.block id c) s Φ:=by
 intro E V a Q ah hQ;refine wp_block (h E V a _ ah λae e E' V' a' s' hk aS he hΦ=> ?_);cases ae<;>cases e<;>first
  |exact he.elim
  |(rename_i i j
    have e:i=j:=he;subst e;by_cases bR:i=id
    ·simp only[Ex.inBlock,bR,if_true];simp only[an.inBlock,bR,if_true]at hΦ;exact hQ .normal _ E' V' a' s' hk aS trivial hΦ
    ·simp only[Ex.inBlock,bR,if_false];simp only[an.inBlock,bR,if_false]at hΦ;exact hQ (.exit i) _ E' V' a' s' hk aS rfl hΦ)
  |exact hQ _ _ E' V' a' s' hk aS he hΦ
theorem aU.mono{nt:Nat}{c:T5}{Φ Φ':an->AS->Prop}(h:aU lv P r nt c s Φ)(hm:∀e s,Φ e s->Φ' e s):aU lv P r nt c s Φ':=λE V a Q ah hQ=>
 h E V a Q ah λae e E' V' a' s' hk aS he hΦ=>hQ ae e E' V' a' s' hk aS he (hm _ _ hΦ)
def Wk (b a:AV):Prop:=∀E v,ap E b v->ap E a v
theorem Wk.refl(a:AV):Wk a a:=λ_ _ h=>h
theorem iA(n:Nat)(l:List AV)(e:End):Wk (.sl n l e) (.sl n l .shut):=λ_ _ h=>by
 cases h with
 |sl b o cap f hc he h1 h2=>exact .sl b o cap f hc trivial h1 h2
 |nil he=>exact .nil trivial
structure AS.Sub (s s':AS):Prop where
 tok:∀t a,look s'.T t=some a->∃b,look s.T t=some b/\Wk b a
 H:s.H=s'.H
theorem At.sub{E:Env}{V:View}{s s':AS}{a:Act}{nt:Nat}(h:At E V s a nt)(hl:s.Sub s'):At E V s' a nt:=
 ⟨by rw[<- hl.H];exact h.bm,λt x e=>by obtain⟨b,h1,h2⟩:=hl.tok t x e;exact⟨(h.tok t b h1).1,h2 _ _ (h.tok t b h1).2⟩,h.size⟩
theorem mz{lv:Bool}{P:SJ}{r:Option Nat}{nt:Nat}{c:T5}{s s':AS}{Φ:an->AS->Prop}(hl:s.Sub s')(h:aU lv P r nt c s' Φ):aU lv P r nt c s Φ:=λE V a Q ah hQ=>h E V a Q (ah.sub hl) hQ
inductive Lt (n:Nat):AV->Prop
 |val (x:SO):Lt n (.val x)
 |agg {l:List AV} (h:∀a∈l,Lt n a):Lt n (.agg l)
 |aK {l:List AV} (h:∀a∈l,Lt n a):Lt n (.aK l)
 |sl {m:Nat} {l:List AV} {e:End} (he:∀k,e=.opn k->k<n) (h:∀a∈l,Lt n a):Lt n (.sl m l e)
 |bE {id off m cap:Nat} (h:id<n):Lt n (.bE id off m cap)
 |rp {l:List AV} (h:∀a∈l,Lt n a):Lt n (.rp l)
 |op {id off:Nat} (h:id<n):Lt n (.op id off)
 |fn {f:Fn} {first cQ:List AV} (h1:∀a∈first,Lt n a) (h2:∀a∈cQ,Lt n a):Lt n (.fn f first cQ)
 |cX {t:TypeId} {x:AV} (h:Lt n x):Lt n (.cX t x)
 |mp {id:Nat} (h:id<n):Lt n (.mp id)
theorem pc{l:List AV}{a:AV}(h:a∈l):∃i:Nat,l[i]?=some a:=UP.1 h
theorem ap.lt{E:Env}{a:AV}{v:SO}(d:ap E a v):Lt E.n a:=by
 induction d with
 |val x=>exact .val x
 |agg hs _ ih=>exact .agg λa h=>(pc h).elim λi hi=>ih i a hi
 |aK hs _ ih=>exact .aK λa h=>(pc h).elim λi hi=>ih i a hi
 |sl b o cap f hc he h1 _ ih=>exact .sl (λk e=>by subst e;exact he.1) λa h=>(pc h).elim λi hi=>ih i a hi
 |nil he=>exact .sl (λk e=>by subst e;exact he.1) (by simp)
 |bE hi _=>exact .bE hi
 |rp b o f h1 _ ih=>exact .rp λa h=>(pc h).elim λi hi=>ih i a hi
 |op hi=>exact .op hi
 |fn dF fP _ _ mI ld=>exact .fn (λa h=>(pc h).elim λi hi=>mI i a hi) (λa h=>(pc h).elim λi hi=>ld i a hi)
 |cX _ ih=>exact .cX ih
 |mp hi=>exact .mp hi
theorem Lt.mono{n m:Nat}(h:n<=m){a:AV}(d:Lt n a):Lt m a:=by
 induction d with
 |val x=>exact .val x
 |agg _ ih=>exact .agg ih
 |aK _ ih=>exact .aK ih
 |sl he _ ih=>exact .sl (λk e=>Td (he k e) h) ih
 |bE hi=>exact .bE (Td hi h)
 |rp _ ih=>exact .rp ih
 |op hi=>exact .op (Td hi h)
 |fn _ _ mI ld=>exact .fn mI ld
 |cX _ ih=>exact .cX ih
 |mp hi=>exact .mp (Td hi h)
theorem pq.trim{E:Env}{e:End}{a:Option U1}{m cap n:Nat}(h:pq E e a m cap)(hk:∀k,e=.opn k->k<n):pq {E with n:=n} e a m cap:=by
 cases e with
 |exact=>exact h
 |shut=>trivial
 |opn k=>exact⟨hk k rfl,h.2⟩
theorem get_mem{l:List AV}{i:Nat}{a:AV}(h:l[i]?=some a):a∈l:=UP.2 ⟨i,h⟩
theorem ap.trim{E:Env}{a:AV}{v:SO}(d:ap E a v){n:Nat}(h:Lt n a):ap {E with n:=n} a v:=by
 induction d with
 |val x=>exact .val x
 |agg hs _ ih=>cases h with|agg h=>exact .agg hs λi a e=>ih i a e (h a (get_mem e))
 |aK hs _ ih=>cases h with|aK h=>exact .aK hs λi a e=>ih i a e (h a (get_mem e))
 |sl b o cap f hc he h1 _ ih=>cases h with|sl hk h=>exact .sl b o cap f hc (he.trim hk) h1 λi a e=>ih i a e (h a (get_mem e))
 |nil he=>cases h with|sl hk h=>exact .nil (he.trim hk)
 |bE hi dP=>cases h with|bE h=>exact .bE (E:={E with n:=n}) h dP
 |rp b o f h1 _ ih=>cases h with|rp h=>exact .rp b o f h1 λi a e=>ih i a e (h a (get_mem e))
 |op hi=>cases h with|op h=>exact .op (E:={E with n:=n}) h
 |fn dF fP _ _ mI ld=>cases h with|fn h1 h2=>exact .fn dF fP (λi a e=>mI i a e (h1 a (get_mem e))) λi a e=>ld i a e (h2 a (get_mem e))
 |cX _ ih=>cases h with|cX h=>exact .cX (ih h)
 |mp hi=>cases h with|mp h=>exact .mp (E:={E with n:=n}) h
def eY (n:Nat):aa->Prop
 |.cells l _|.part _ l _|.own _ l _=>∀a∈l,Lt n a
 |.iter m _ _ _=>m<n
 |.loop _ _ _ _ T _ _ _ _ df=>(∀t a,look T t=some a->Lt n a)/\df<n
 |_=>True
theorem eY.mono{n m:Nat}(h:n<=m){x:aa}(k:eY n x):eY m x:=by
 cases x with
 |cells l el=>exactλa ha=>(k a ha).mono h
 |part p l el=>exactλa ha=>(k a ha).mono h
 |own p l el=>exactλa ha=>(k a ha).mono h
 |iter=>exact Td k h
 |loop=>exact⟨λt a e=>(k.1 t a e).mono h,Td k.2 h⟩
 |_=>trivial
theorem fH.olt{E:Env}{V:View}{k:Nat}{x:aa}(h:fH E V k x):eY E.n x:=by
 cases x with
 |cells l el=>obtain⟨⟨cs,_,h2⟩,_⟩:=h;exactλa ha=>(pc ha).elim λi hi=>(h2.2 i a hi).lt
 |part p l el=>obtain⟨⟨cs,_,h2,_⟩,_⟩:=h;exactλa ha=>(pc ha).elim λi hi=>(h2.2 i a hi).lt
 |own p l el=>obtain⟨⟨cs,_,h2,_⟩,_⟩:=h;exactλa ha=>(pc ha).elim λi hi=>(h2.2 i a hi).lt
 |iter m a b c=>exact h.1
 |loop=>obtain⟨⟨tmps,_,_,h2⟩,h3,_⟩:=h;exact⟨λt a e=>(h2 t a e).2.lt,h3⟩
 |_=>trivial
theorem fH.trim{E:Env}{V:View}{k n:Nat}{x:aa}(h:fH E V k x)(hl:eY n x):fH {E with n:=n} V k x:=by
 cases x with
 |cells l el=>obtain⟨⟨cs,h1,h2⟩,h3⟩:=h;exact⟨⟨cs,h1,h2.1,λi a e=>(h2.2 i a e).trim (hl a (get_mem e))⟩,h3⟩
 |part p l el=>obtain⟨⟨cs,h1,h2,h4⟩,h3⟩:=h;exact⟨⟨cs,h1,⟨h2.1,λi a e=>(h2.2 i a e).trim (hl a (get_mem e))⟩,h4⟩,h3⟩
 |own p l el=>obtain⟨⟨cs,h1,h2,h4⟩,h3⟩:=h;exact⟨⟨cs,h1,⟨h2.1,λi a e=>(h2.2 i a e).trim (hl a (get_mem e))⟩,h4⟩,h3⟩
 |iter m a b c=>exact⟨hl,h.2⟩
 |tail m sz el=>exact h
 |obj x=>exact h
 |loop=>obtain⟨⟨tmps,h1,h2,h3⟩,h4,h5⟩:=h;exact⟨⟨tmps,h1,h2,λt a e=>⟨(h3 t a e).1,(h3 t a e).2.trim (hl.1 t a e)⟩⟩,hl.2,h5⟩
 |gone=>trivial
 |main=>exact h
def bM (H:List aa):Prop:=∀x∈H,eY H.length x
theorem Conc.ay{E:Env}{V:View}{H:List aa}(h:Conc E V H):bM H:=λx hx=>by
 obtain⟨i,hi⟩:=UP.1 hx;rw[<- h.n];exact(h.obj i x hi).olt
theorem D5(E:Env)(n k:Nat)(x:aa):bK {E with n:=n} k x=bK E k x:=by cases x<;>rfl
theorem Conc.trim{E:Env}{V:View}{H G:List aa}(h:Conc E V (H++G))(hl:bM H):Conc {E with n:=H.length} V H:=by
 have hg:∀(k:Nat) x,H[k]?=some x->(H++G)[k]?=some x:=λk x e=>by rw[SZ (SM.1 e).1];exact e
 refine⟨h.I,rfl,λk x e=>(h.obj k x (hg k x e)).trim (hl x (Te e)),λi j x y b h1 h2 h3 h4=> ?_,λg j5=> ?_,λg j5=> ?_,h.top,λb y j5=> ?_⟩
 ·rw[D5]at h3 h4;exact h.inj i j x y b (hg i x h1) (hg j y h2) h3 h4
 ·obtain⟨q0,q1,q2⟩:=h.group g j5;exact⟨q0,q1,λk x e=>by rw[D5];exact q2 k x (hg k x e)⟩
 ·obtain⟨q0,q1,q2⟩:=h.chan g j5;exact⟨q0,q1,λk x e=>by rw[D5];exact q2 k x (hg k x e)⟩
 ·obtain⟨q0,q1,q2⟩:=h.fr b y j5;exact⟨q0,q1,λk x e=>by rw[D5];exact q2 k x (hg k x e)⟩
structure AS.Hq (s s':AS):Prop where
 tok:∀t a,look s'.T t=some a->∃b,look s.T t=some b/\Wk b a/\Lt s'.H.length a
 H:∃G,s.H=s'.H++G
 ok:bM s'.H
theorem Db{E:Env}{n m:Nat}(h1:m<=n)(h2:n<=E.n){E0:Env}(h:E0.Le E)(h0:E0.n=m):E0.Le {E with n:=n}:=⟨h.I,by show E0.n<=n;omega,h.blk,h.fu,h.room,h.fr,h.main⟩
theorem At.cut{E:Env}{V:View}{s s':AS}{a:Act}{nt:Nat}(h:At E V s a nt)(hl:s.Hq s'):At {E with n:=s'.H.length} V s' a nt:=by
 obtain⟨G,hG⟩:=hl.H;have hc:=h.bm;rw[hG]at hc;refine⟨hc.trim hl.ok,λt x e=> ?_,h.size⟩;obtain⟨b,h1,h2,h3⟩:=hl.tok t x e;exact⟨(h.tok t b h1).1,(h2 _ _ (h.tok t b h1).2).trim h3⟩
theorem aeR{nt:Nat}{α:Type}{lt:α->α->Prop}(wf:WellFounded lt){c:T5}{Φ:an->AS->Prop}(inv:α->AS)(ok:α->Prop)(m:α)(h0:s.Sub (inv m))(hm:ok m)(hn:∀m,ok m->s.H.length<=(inv m).H.length)
  (h:∀m,ok m->aU lv P r nt c (inv m) (an.then (λs'=>∃m',lt m' m/\ok m'/\(s'.Sub (inv m')\/s'.Hq (inv m'))) Φ)):aU lv P r nt (.loop c) s Φ:=by
 intro E V a Q ah hQ;refine Nb wf (I:=λm a' V'=>ok m/\∃E',Kept E E' V V' a a'/\At E' V' (inv m) a' nt) m ⟨hm,E,Kept.refl E V a,ah.sub h0⟩ λm a' V' hI=> ?_;obtain⟨ay,E',hk,aS⟩:=hI;refine h m ay E' V' a' _ aS λae e bO aR b9 dg aI dc he hΦ=> ?_;cases ae<;>cases e<;>first
  |exact he.elim
  |(obtain⟨m',h1,h2,h3⟩:=hΦ
    rcases h3 with h3|h3
    ·exact⟨m',h1,h2,bO,hk.trans aI,dc.sub h3⟩
    ·refine⟨m',h1,h2,_,?_,dc.cut h3⟩;have cE:=hk.trans aI;obtain⟨G,hG⟩:=h3.H;exact⟨Db (hn m' h2) (by rw[dc.bm.n,hG];simp) cE.le ah.bm.n,cE.size,cE.defers,cE.role,cE.deaf⟩)
  |exact hQ _ _ bO aR b9 dg (hk.trans aI) dc he hΦ
theorem aeX{nt:Nat}{c:T5}{Φ:an->AS->Prop}(inv:Nat->Nat->AS->Prop)
  (start:∃n:Nat,aU lv P r nt c s (λe s'=>match e with
   |.goto l=>∃rest,findLabel c l=some rest/\∃m,m<n/\inv l m s'
   |e=>Φ e s'))
  (back:∀l rest m s',findLabel c l=some rest->inv l m s'->aU lv P r nt rest s' (λe dg=>match e with
   |.goto l'=>∃x6,findLabel c l'=some x6/\∃m',m'<m/\inv l' m' dg
   |e=>Φ e dg)):aU lv P r nt (.scope c) s Φ:=by
 intro E V a Q ah hQ;refine ac5 (λl m a' V'=>∃E' s',Kept E E' V V' a a'/\At E' V' s' a' nt/\inv l m s') ?_ ?_
 ·obtain⟨n,hn⟩:=start;refine⟨n,hn E V a _ ah λae e E' V' a' s' hk aS he hΦ=> ?_⟩;cases ae<;>cases e<;>first
   |exact he.elim
   |(have e:_=_:=he
     subst e;obtain⟨rest,h1,m,h2,h3⟩:=hΦ;exact⟨rest,h1,m,h2,E',s',hk,aS,h3⟩)
   |exact hQ _ _ E' V' a' s' hk aS he hΦ
 ·intro l rest m a' V' hf ⟨E',s',hk,aS,hi⟩;refine back l rest m s' hf hi E' V' a' _ aS λae e bO aR b9 dg aI dc he hΦ=> ?_;cases ae<;>cases e<;>first
   |exact he.elim
   |(have e:_=_:=he
     subst e;obtain⟨x6,h1,m',h2,h3⟩:=hΦ;exact⟨x6,h1,m',h2,bO,dg,hk.trans aI,dc,h3⟩)
   |exact hQ _ _ bO aR b9 dg (hk.trans aI) dc he hΦ
end
def bk:Nat->List AV->List (Nat×AV)
 |_,[]=>[]
 |i,a::l=>(i,a)::bk (i+1) l
theorem LK:∀(l:List AV)(i t:Nat)(a:AV),look (bk i l) t=some a->i<=t/\l[t-i]?=some a
 |[],_,_,_,h=>by cases h
 |b::l,i,t,a,h=>by
  simp only[bk,look]at h;split at h
  ·rename_i e;subst e;cases h;exact⟨SP _,by simp⟩
  ·obtain⟨h1,h2⟩:=LK l (i+1) t a h;refine⟨by omega,?_⟩;have:t-i=(t-(i+1))+1:=(by omega);rw[this,UJ];exact h2
def uF (P:SJ)(s:AS):UM->Option AV
 |.tmp t=>look s.T t
 |.cell a t=>(look s.T a).bind λp=>(s.at p).bind λl=>(Ty P t).bind λx=>if x.2 then(if x.1<=l.length then some (.agg (l.take x.1))else none)else l[0]?
def gO (P:SJ)(s:AS):List UM->Option (List AV)
 |[]=>some []
 |x::l=>match uF P s x,gO P s l with
  |some a,some aD=>some (a::aD)
  |_,_=>none
def iN:List AV->AV
 |[a]=>a
 |l=> .aK l
theorem aoN{P:SJ}{E:Env}{V:View}{s:AS}{a:Act}{nt:Nat}(ah:At E V s a nt){x:UM}{av:AV}(h:uF P s x=some av):
  ∃v,ap E av v/\∀{K:SO->View->Prop}{Kp:SO->View->Prop},K v V->aN P V (match x with|.tmp t=>pure (a.tmps.getD t undef)|.cell b t=>do loadVar t (<- asAddr (a.tmps.getD b undef))) K Kp:=by
 cases x with
 |tmp t=>exact⟨_,(ah.tok t av h).2,λhK=>aq hK⟩
 |cell b t=>
  unfold uF at h;obtain⟨p,h1,h⟩:=Tf.1 h;obtain⟨l,h2,h⟩:=Tf.1 h;obtain⟨⟨n,g⟩,h3,h⟩:=Tf.1 h;obtain⟨i,d,t1,t2,rfl,t4⟩:=Ty.out h3;obtain⟨bb,off,f,hv,hg,j5,hd⟩:=ah.bm.at (ah.tok b p h1).2 h2;dsimp only;rw[hv];cases g with
  |true=>
   simp only[if_true]at h;split at h
   ·rename_i hlen;cases h;refine⟨_,Ij hlen hd,λhK=> ?_⟩;refine az ?_;unfold asAddr;refine aq ?_;unfold loadVar;refine C0 t2 ?_;rw[t4];simp only[if_true];refine jS t1 ?_;exact az (z9 (f:=f) (λh=>j5 (by omega)) (λj hj=>hg j (by omega)) (aq hK))
   ·cases h
  |false=>
   simp only[TO,if_false]at h;have hlen:0<l.length:=(SM.1 h).1;have oc:=hg 0 hlen;rw[UH]at oc;refine⟨_,hd 0 av h,λhK=> ?_⟩;refine az ?_;unfold asAddr;refine aq ?_;unfold loadVar;refine C0 t2 ?_;rw[t4];simp only[TO,if_false];exact MD oc (.inl (j5 hlen)) (cF hK)
theorem Gz{P:SJ}{E:Env}{V:View}{s:AS}{a:Act}{nt:Nat}(ah:At E V s a nt):∀(rs:List UM)(l:List AV),gO P s rs=some l->∃vs:List SO,vs.length=l.length/\(∀(i:Nat) x,l[i]?=some x->ap E x (vs.getD i undef))/\
  ∀{K:List SO->View->Prop}{Kp:SO->View->Prop},K vs V->aN P V (rs.mapM λx=>(match x with|.tmp t=>pure (a.tmps.getD t undef)|.cell b t=>do loadVar t (<- asAddr (a.tmps.getD b undef)):Sem SO)) K Kp
 |[],l,h=>by
  cases h;refine⟨[],rfl,by simp,λhK=> ?_⟩;rw[Uz];exact aq hK
 |x::rs,l,h=>by
  simp only[gO]at h;split at h
  ·rename_i av lU h1 h2;cases h;obtain⟨v,hv,hs⟩:=aoN ah h1;obtain⟨vs,hl,lJ,Fv⟩:=Gz ah rs lU h2;refine⟨v::vs,by simp[hl],λi x hx=> ?_,λhK=> ?_⟩
   ·cases i with
    |zero=>cases hx;simpa using hv
    |succ i=>simpa using lJ i x (by simpa using hx)
   ·rw[T8];exact az (hs (az (Fv (aq hK))))
  ·cases h
attribute [seval] Int.natCast_pow Int.natCast_mul Int.natCast_shiftLeft Int.natCast_emod Int.ofNat_sub Int.natCast_shiftRight Int.natCast_add_one Int.natCast_add Int.cast_id Int.natCast_sub Int.natCast_ediv Int.natCast_succ
open Go.Conc
def cD (n0:Nat)(H:List aa)(a:AV)(k:AV->List aa->Prop):Prop:=
 ∃b,Wk a b/\(k b H\/∃H' G,H=H'++G/\n0<=H'.length/\bM H'/\Lt H'.length b/\k b H')
def tn (P:SJ)(rs:List UM)(n0:Nat)(k kp:AV->List aa->Prop):an->AS->Prop
 |.normal,s|.ret,s=>ao (gO P s rs) λl=>cD n0 s.H (iN l) k
 |.panic pv,s=>cD n0 s.H pv kp
 |_,_=>False
theorem bT{n0:Nat}{H:List aa}{a:AV}{k:AV->List aa->Prop}(h:k a H):cD n0 H a k:=⟨a,Wk.refl a,.inl h⟩
theorem jN{H H' G:List aa}{a b:AV}{k:AV->List aa->Prop}{n0:Nat}(hw:Wk a b)(hH:H=H'++G)(hn:n0<=H'.length)(ay:bM H')(hl:Lt H'.length b)(h:k b H'):cD n0 H a k:=⟨b,hw,.inr ⟨H',G,hH,hn,ay,hl,h⟩⟩
theorem wU{n0:Nat}{E0 E:Env}{V':View}{H:List aa}{a:AV}{v:SO}{k:AV->List aa->Prop}(h:cD n0 H a k)(hc:Conc E V' H)(hd:ap E a v)(hle:E0.Le E)(hn:E0.n=n0):∃b E' H',E0.Le E'/\ap E' b v/\Conc E' V' H'/\k b H':=by
 obtain⟨b,hw,h|⟨H',G,rfl,h1,h2,h3,h4⟩⟩:=h
 ·exact⟨b,E,H,hle,hw _ _ hd,hc,h⟩
 ·refine⟨b,{E with n:=H'.length},H',Db h1 (by rw[hc.n];simp) hle hn,(hw _ _ hd).trim h3,hc.trim h2,h4⟩
theorem ail{lv:Bool}{P:SJ}{f:TQ}{fn:ZP}{c:T5}{rs:List UM}{nt:Nat}{H:List aa}{args:List AV}{k kp:AV->List aa->Prop}(hf:P.funcs[f]?=some fn)(hb:fn.body=some c)(hr:fn.results=rs.toArray)(hn:fn.ntmps=nt)(cK:args.length<=nt)
  (h:bM H->(∀a∈args,Lt H.length a)->aU lv P none nt c ⟨bk 0 args,H⟩ (tn P rs H.length k kp)):bc lv P f H args k kp:=by
 intro E V vs hc hd;have aV:(vs++TL (fn.ntmps-vs.size) undef).size=nt:=by simp[hd.1];omega
 have hlt:∀a∈args,Lt H.length a:=λa ha=>by
  obtain⟨i,hi⟩:=pc ha;rw[<- hc.n];exact(hd.2 i a hi).lt
 refine Oa (by simp) hf hb (h hc.ay hlt E V _ _ ⟨hc,λq a e=> ?_,aV⟩ λae e E' V' a' s' hk ah he hΦ=> ?_)
 ·obtain⟨_,e⟩:=LK args 0 q a e;simp only[ZU]at e;have hq:q<args.length:=(SM.1 e).1;have sM:q<vs.size:=by rw[hd.1];exact hq
  refine⟨by rw[aV];omega,?_⟩;have:=hd.2 q a e;rw[SI,X9 sM];rwa [SI]at this
 ·have fin:(ao (gO P s' rs) λl=>cD H.length s'.H (iN l) k)->a'.defers=[]/\∃v,aN P V' (results fn a'.tmps) (λx aR=>x=v/\aR=V') (λ_ _=>False)/\gI E V k kp (.ret v) V':=by
   intro hΦ;obtain⟨l,h1,h2⟩:=hΦ.out;have gn:∃v,ap E' (iN l) v/\aN P V' (results fn a'.tmps) (λx aR=>x=v/\aR=V') (λ_ _=>False):=by
    obtain⟨vs,hl,lJ,xy⟩:=Gz ah rs l h1;refine⟨if h:vs.length=1 then vs[0]else .tuple vs.toArray,?_,?_⟩
    ·match l,vs,hl,lJ with
     |[x],[v],_,lJ=>exact lJ 0 x rfl
     |[],[],_,lJ=>exact .aK rfl (by simp)
     |x::y::l,v::w::vs,hl,lJ=>exact .aK (by simpa using hl) (λi z hz=>by simpa[SI,SF]using lJ i z hz)
    ·unfold results;rw[hr,XX];refine az ?_;refine az (xy ?_);refine aq (aq ⟨?_,rfl⟩);simp
   obtain⟨v,bi,p7⟩:=gn;obtain⟨b,bO,H',q1,q2,q3,q4⟩:=wU h2 ah.bm bi hk.le hc.n;exact⟨hk.defers,v,p7,b,bO,H',q1,hk.role,hk.deaf,q2,q3,q4⟩
  cases ae<;>cases e<;>first
   |exact he.elim
   |exact fin hΦ
   |(obtain⟨v,rfl,bi⟩:=he
     obtain⟨b,bO,H',q1,q2,q3,q4⟩:=wU hΦ ah.bm bi hk.le hc.n;exact⟨hk.defers,b,v,bO,H',rfl,q1,hk.role,hk.deaf,q2,q3,q4⟩)
   |exact hΦ.elim
open Go.Conc
theorem amj(k:Nat)(a:AV)(l:List (Nat×AV)):look ((k,a)::l) k=some a:=by simp[look]
theorem amk(k t:Nat)(a:AV)(l:List (Nat×AV))(h:(k==t)=false):look ((k,a)::l) t=look l t:=by
 have:¬k=t:=by simpa using h
 simp[look,this]
theorem v7{α:Type}(a:α)(k:α->Prop):ao (some a) k=k a:=by rw[ao]
theorem aex(b:Bool)(k:Bool->Prop):AV.asBool (.val (.bool b)) k=k b:=by rw[AV.asBool]
theorem aez(j:TU)(n:Int)(k:TU->Int->Prop):AV.asInt (.val (.int j n)) k=k j n:=by rw[AV.asInt]
theorem aeG(l:List AV)(k:List AV->Prop):AV.wM (.aK l) k=k l:=by rw[AV.wM]
theorem aev(l:List AV)(k:List AV->Prop):AV.asAgg (.agg l) k=k l:=by rw[AV.asAgg]
theorem aeB(i j:Nat)(k:Nat->Nat->Prop):AV.pz (.op i j) k=k i j:=by rw[AV.pz]
theorem aeA(i:Nat)(k:Nat->Prop):AV.rZ (.mp i) k=k i:=by rw[AV.rZ]
theorem aeE(n:Nat)(l:List AV)(e:End)(k:Nat->List AV->End->Prop):AV.uZ (.sl n l e) k=k n l e:=by rw[AV.uZ]
theorem adS(P:SJ)(xt:TypeId)(j:TU)(m n:Int)(k:AV->Prop):dp P .add xt (.val (.int j m)) (.val (.int j n)) k=k (.val (.int j (j.wrap (m+n)))):=by simp[dp,mJ,lV,ao]
theorem ad5(P:SJ)(xt:TypeId)(j:TU)(m n:Int)(k:AV->Prop):dp P .sub xt (.val (.int j m)) (.val (.int j n)) k=k (.val (.int j (j.wrap (m-n)))):=by simp[dp,mJ,lV,ao]
theorem ad1(P:SJ)(xt:TypeId)(j:TU)(m n:Int)(k:AV->Prop):dp P .mul xt (.val (.int j m)) (.val (.int j n)) k=k (.val (.int j (j.wrap (m* n)))):=by simp[dp,mJ,lV,ao]
theorem adV(P:SJ)(xt:TypeId)(j:TU)(m n:Int)(k:AV->Prop):dp P .eql xt (.val (.int j m)) (.val (.int j n)) k=k (.val (.bool (m==n))):=by simp[dp,mJ,lV,ao]
theorem NA(P:SJ)(xt:TypeId)(j:TU)(m n:Int)(k:AV->Prop):dp P .neq xt (.val (.int j m)) (.val (.int j n)) k=k (.val (.bool (m !=n))):=by simp[dp,mJ,lV,ao]
theorem ad0(P:SJ)(xt:TypeId)(j:TU)(m n:Int)(k:AV->Prop):dp P .lss xt (.val (.int j m)) (.val (.int j n)) k=k (.val (.bool (decide (m<n)))):=by simp[dp,mJ,lV,ao]
theorem adZ(P:SJ)(xt:TypeId)(j:TU)(m n:Int)(k:AV->Prop):dp P .leq xt (.val (.int j m)) (.val (.int j n)) k=k (.val (.bool (decide (m<=n)))):=by simp[dp,mJ,lV,ao]
theorem adX(P:SJ)(xt:TypeId)(j:TU)(m n:Int)(k:AV->Prop):dp P .gtr xt (.val (.int j m)) (.val (.int j n)) k=k (.val (.bool (decide (m>n)))):=by simp[dp,mJ,lV,ao]
theorem adW(P:SJ)(xt:TypeId)(j:TU)(m n:Int)(k:AV->Prop):dp P .geq xt (.val (.int j m)) (.val (.int j n)) k=k (.val (.bool (decide (m>=n)))):=by simp[dp,mJ,lV,ao]
theorem adT(P:SJ)(xt:TypeId)(j:TU)(m n:Int)(k:AV->Prop):dp P .and xt (.val (.int j m)) (.val (.int j n)) k=k (.val (.int j (j.wrap (Ug j.bits m&&&Ug j.bits n).toNat))):=by simp[dp,mJ,lV,ao]
theorem AP(P:SJ)(xt:TypeId)(j:TU)(m n:Int)(k:AV->Prop):dp P .or xt (.val (.int j m)) (.val (.int j n)) k=k (.val (.int j (j.wrap (Ug j.bits m|||Ug j.bits n).toNat))):=by simp[dp,mJ,lV,ao]
theorem AT(P:SJ)(xt:TypeId)(j:TU)(m n:Int)(k:AV->Prop):dp P .xor xt (.val (.int j m)) (.val (.int j n)) k=k (.val (.int j (j.wrap (Ug j.bits m^^^Ug j.bits n).toNat))):=by simp[dp,mJ,lV,ao]
theorem ad3(P:SJ)(xt:TypeId)(j:TU)(m n:Int)(k:AV->Prop):dp P .rem xt (.val (.int j m)) (.val (.int j n)) k=ao (if n=0 then none else some (.int j (m.tmod n))) λv=>k (.val v):=by simp[dp,mJ,lV]
theorem ad4(P:SJ)(xt:TypeId)(j j':TU)(m n:Int)(k:AV->Prop):dp P .shl xt (.val (.int j m)) (.val (.int j' n)) k=ao (if n<0 then none else some (.int j (j.wrap (m* 2^(min n.toNat j.bits))))) λv=>k (.val v):=by simp[dp,mJ,Ab]
theorem AR(P:SJ)(xt:TypeId)(j j':TU)(m n:Int)(k:AV->Prop):dp P .shr xt (.val (.int j m)) (.val (.int j' n)) k=ao (if n<0 then none else some (.int j (m.fdiv (2^(min n.toNat j.bits))))) λv=>k (.val v):=by simp[dp,mJ,Ab]
theorem agS(T:List (Nat×AV))(H:List aa)(t:Nat):AS.ev ⟨T,H⟩ (.tmp t)=look T t:=by rw[AS.ev]
theorem agJ(s:AS)(b:Bool):s.ev (.const (.bool b))=some (.val (.bool b)):=by rw[AS.ev,AV.of]<;>(intros;simp_all)
theorem agN(s:AS)(k:TU)(n:Int):s.ev (.const (.int k n))=some (.val (.int k n)):=by rw[AS.ev,AV.of]<;>(intros;simp_all)
theorem agL(s:AS)(f:TQ):s.ev (.func f)=some (.fn (.func f) [] []):=by rw[AS.ev]
theorem agR(s:AS):s.ev (.const (.slice none 0 0))=some (.sl 0 [] .exact):=by rw[AS.ev,AV.of]
theorem agO(s:AS):s.ev (.const (.map none))=some (.val (.map none)):=by rw[AS.ev,AV.of]<;>(intros;simp_all)
theorem agP(s:AS):s.ev (.const (.pointer none))=some (.val (.pointer none)):=by rw[AS.ev,AV.of]<;>(intros;simp_all)
theorem agK(s:AS):s.ev (.const .nilFunc)=some (.val .nilFunc):=by rw[AS.ev,AV.of]<;>(intros;simp_all)
theorem agM(s:AS):s.ev (.const .nilIface)=some (.val .nilIface):=by rw[AS.ev,AV.of]<;>(intros;simp_all)
theorem anV(T:List (Nat×AV))(H:List aa)(d:Nat)(a:AV):AS.put ⟨T,H⟩ (some d) a=⟨(d,a)::T,H⟩:=by rw[AS.put]
theorem anU(s:AS)(a:AV):AS.put s none a=s:=by rw[AS.put]
theorem aqO(n:AS->Prop)(Φ:an->AS->Prop)(s:AS):an.then n Φ .normal s=n s:=by rw[an.then]
theorem aqQ(n:AS->Prop)(Φ:an->AS->Prop)(s:AS):an.then n Φ .ret s=Φ .ret s:=by rw[an.then];intro h;cases h
theorem aqM(n:AS->Prop)(Φ:an->AS->Prop)(i:Nat)(s:AS):an.then n Φ (.exit i) s=Φ (.exit i) s:=by rw[an.then];intro h;cases h
theorem aqN(n:AS->Prop)(Φ:an->AS->Prop)(i:Nat)(s:AS):an.then n Φ (.goto i) s=Φ (.goto i) s:=by rw[an.then];intro h;cases h
theorem aqP(n:AS->Prop)(Φ:an->AS->Prop)(a:AV)(s:AS):an.then n Φ (.panic a) s=Φ (.panic a) s:=by rw[an.then];intro h;cases h
theorem afx(i:Nat)(Φ:an->AS->Prop)(s:AS):an.inBlock i Φ .normal s=Φ .normal s:=by rw[an.inBlock];intro h h';cases h'
theorem afz(i:Nat)(Φ:an->AS->Prop)(s:AS):an.inBlock i Φ .ret s=Φ .ret s:=by rw[an.inBlock];intro h h';cases h'
theorem afu(i l:Nat)(Φ:an->AS->Prop)(s:AS):an.inBlock i Φ (.goto l) s=Φ (.goto l) s:=by rw[an.inBlock];intro h h';cases h'
theorem afy(i:Nat)(Φ:an->AS->Prop)(a:AV)(s:AS):an.inBlock i Φ (.panic a) s=Φ (.panic a) s:=by rw[an.inBlock];intro h h';cases h'
theorem afv(i:Nat)(Φ:an->AS->Prop)(s:AS):an.inBlock i Φ (.exit i) s=Φ .normal s:=by rw[an.inBlock,if_pos rfl]
theorem afw(i j:Nat)(Φ:an->AS->Prop)(s:AS)(h:(j==i)=false):an.inBlock i Φ (.exit j) s=Φ (.exit j) s:=by
 have:¬j=i:=by simpa using h
 rw[an.inBlock,if_neg this]
theorem aiw(P:SJ)(rs:List UM)(n:Nat)(k kp:AV->List aa->Prop)(s:AS):tn P rs n k kp .ret s=ao (gO P s rs) λl=>cD n s.H (iN l) k:=by rw[tn]
theorem aiu(P:SJ)(rs:List UM)(n:Nat)(k kp:AV->List aa->Prop)(s:AS):tn P rs n k kp .normal s=ao (gO P s rs) λl=>cD n s.H (iN l) k:=by rw[tn]
theorem aiv(P:SJ)(rs:List UM)(n:Nat)(k kp:AV->List aa->Prop)(a:AV)(s:AS):tn P rs n k kp (.panic a) s=cD n s.H a kp:=by rw[tn]
theorem aoO(P:SJ)(T:List (Nat×AV))(H:List aa)(t:Nat):uF P ⟨T,H⟩ (.tmp t)=look T t:=by rw[uF]
theorem aeM(s:AS)(l:List AV):s.at (.rp l)=some l:=by rw[AS.at]
theorem apE(n i off:Nat):AV.shift n (.op i off)=some (.op i (off+n)):=by rw[AV.shift]
theorem ab4(n:Nat)(l:List AV)(h:n<=l.length):AV.shift n (.rp l)=some (.rp (l.drop n)):=by rw[AV.shift,if_pos h]
theorem apF(l:List AV):AV.shift 0 (.rp l)=some (.rp l):=by rw[AV.shift,if_pos (X_ _),Xw]
theorem apG(n:Nat)(a:AV)(l:List AV):AV.shift (n+1) (.rp (a::l))=AV.shift n (.rp l):=by simp[AV.shift]
theorem aoZ(n:Nat)(l:List AV)(e:End):AV.row (.sl n l e)=some (n,.rp l):=by rw[AV.row]
theorem aoY(i off n cap:Nat):AV.row (.bE i off n cap)=some (n,.op i off):=by rw[AV.row]
theorem adC(P:SJ)(s:AS){t:TypeId}(n:Nat)(l:List AV)(e:End)(k:AV->Prop)(h:ln P t=some .slice):rN P s t (.sl n l e) k=k (.val (.int .i64 n)):=by unfold rN;rw[h]
theorem adB(P:SJ)(s:AS){t:TypeId}(i off n cap:Nat)(k:AV->Prop)(h:ln P t=some .slice):rN P s t (.bE i off n cap) k=k (.val (.int .i64 n)):=by unfold rN;rw[h]
theorem adA(P:SJ)(T:List (Nat×AV))(H:List aa){t:TypeId}(id:Nat)(k:AV->Prop){es:Array Wh}{ck:Nat}(h:ln P t=some .map)(hH:H[id]?=some (.obj (.map es ck))):rN P ⟨T,H⟩ t (.mp id) k=k (.val (.int .i64 es.size)):=by
 unfold rN;rw[h];simp[hH]
theorem bA{a b:AV}:(∃c,some b=some c/\Wk c a)<->Wk b a:=⟨λ⟨_,h,k⟩=>by cases h;exact k,λh=>⟨_,rfl,h⟩⟩
abbrev iv (n:Int):AV:=.val (.int .i64 n)
abbrev bv (b:Bool):AV:=.val (.bool b)
open Go.Conc
theorem NQ{lv:Bool}{P:SJ}{r:Option Nat}{s:AS}{nt:Nat}{c:Ti}{x y:T5}{Φ:an->AS->Prop}(h:ao (s.ev c) λa=>a.asBool λb=>(b=true->aU lv P r nt x s Φ)/\(b=false->aU lv P r nt y s Φ)):aU lv P r nt (.cond c x y) s Φ:=by
 obtain⟨a,h1,h2⟩:=h.out;obtain⟨b,rfl,h3,h4⟩:=AX h2;exact aeN h1 h3 h4
theorem OS{α β:Type}{f:α->List β}{m:Nat}(hf:∀x,(f x).length=m):∀{xs:List α}{i:Nat}{x:α},xs[i]?=some x->(xs.flatMap f).drop (i* m)=f x++(xs.drop (i+1)).flatMap f
 |y::xs,0,x,h=>by cases h;simp
 |y::xs,i+1,x,h=>by
  have ih:=OS hf (xs:=xs) (i:=i) (x:=x) (by simpa using h);rw[Ui,Va,Nat.one_mul,ZZ (i* m) m,<- aj_];have:(f y++xs.flatMap f).drop m=xs.flatMap f:=by rw[<- hf y];simp
  rw[this,ih];simp
 |[],i,x,h=>by simp at h
theorem uy{α β:Type}{f:α->List β}{m:Nat}(hf:∀x,(f x).length=m)(xs:List α):(xs.flatMap f).length=xs.length* m:=by
 induction xs with
 |nil=>simp
 |cons x xs ih=>rw[Ui,SQ,hf,ih,Ul,Va];omega
theorem ab2{α:Type}{f:α->List AV}{m:Nat}(hf:∀x,(f x).length=m){xs:List α}{i:Nat}{x:α}(h:xs[i]?=some x):AV.shift (i* m) (.rp (xs.flatMap f))=some (.rp (f x++(xs.drop (i+1)).flatMap f)):=by
 have hi:i<xs.length:=(SM.1 h).1;rw[ab4 _ _ (by rw[uy hf];exact Uf _ (by omega)),OS hf h]
theorem ab3{α:Type}{f:α->AV}{xs:List α}{i:Nat}{x:α}(h:xs[i]?=some x):AV.shift (i* 1) (.rp (xs.map f))=some (.rp (f x::(xs.drop (i+1)).map f)):=by
 have hi:i<xs.length:=(SM.1 h).1;rw[Ya,ab4 _ _ (by simp;omega)];congr 2;rw[<- ae',TW hi,UU];congr 2;rw[SV hi]at h;exact Wj h
theorem jl{i n:Nat}(h:i<n):(0<=(i:Int)/\(i:Int)<(n:Int))=True:=by simp;exact h
theorem eM{α:Type}{xs:List α}{i:Nat}{x:α}(h:xs[i]?=some x):i<xs.length:=(SM.1 h).1
theorem cy{α:Type}{xs:List α}{i:Nat}(h:i<xs.length):∃x,xs[i]?=some x:=⟨_,SV h⟩
theorem uW(H L:List aa)(i:Nat):(H++L)[H.length+i]?=L[i]?:=by rw[Tj (by omega)];congr 1;omega
theorem aeo(H L:List aa):(H++L)[H.length]?=L[0]?:=by have:=uW H L 0;simpa using this
theorem uX(H L:List aa)(i:Nat)(x:aa):(H++L).set (H.length+i) x=H++L.set i x:=by
 rw[UO _ _ (by omega)];congr 2;omega
theorem aes(H L:List aa)(x:aa):(H++L).set H.length x=H++L.set 0 x:=by have:=uX H L 0 x;simpa using this
theorem aen(H L M:List aa):(H++L)++M=H++(L++M):=SD ..
theorem aer(H L:List aa):(H++L).length=H.length+L.length:=SQ
theorem eD(n:Nat)(x:SO):Lt n (.val x)=True:=by simp[Lt.val]
theorem aap(n i o:Nat):Lt n (.op i o)=(i<n):=propext ⟨λh=>by cases h with|op h=>exact h,.op⟩
theorem sV(n:Nat)(l:List AV):Lt n (.agg l)=∀a∈l,Lt n a:=propext ⟨λh=>by cases h with|agg h=>exact h,.agg⟩
theorem jz(n:Nat)(l:List AV):Lt n (.aK l)=∀a∈l,Lt n a:=propext ⟨λh=>by cases h with|aK h=>exact h,.aK⟩
theorem aao(n:Nat)(t:TypeId)(a:AV):Lt n (.cX t a)=Lt n a:=propext ⟨λh=>by cases h with|cX h=>exact h,.cX⟩
theorem uA(n m:Nat)(l:List AV):Lt n (.sl m l .shut)=∀a∈l,Lt n a:=propext ⟨λh=>by cases h with|sl _ h=>exact h,λh=> .sl (by simp) h⟩
theorem LM(n m:Nat)(l:List AV):Lt n (.sl m l .exact)=∀a∈l,Lt n a:=propext ⟨λh=>by cases h with|sl _ h=>exact h,λh=> .sl (by simp) h⟩
theorem amn(n m k:Nat)(l:List AV):Lt n (.sl m l (.opn k))=(k<n/\∀a∈l,Lt n a):=propext ⟨λh=>by cases h with|sl h' h=>exact⟨h' k rfl,h⟩,λh=> .sl (λk' e=>by cases e;exact h.1) h.2⟩
theorem xQ(n:Nat)(l:List AV):Lt n (.rp l)=∀a∈l,Lt n a:=propext ⟨λh=>by cases h with|rp h=>exact h,.rp⟩
open Go.Conc
def cO (o:Tv):List Nat:=o.after.toList.filterMap λe=>if Yo .any e then some e.on else none
inductive lS (ops:Array Tv):List Nat->List Nat->Prop
 |nil (X:List Nat) (h:∀i,i<ops.size->i∈X):lS ops X []
 |cons {X:List Nat} {i:Nat} {l:List Nat} (o:Tv) (ho:ops[i]?=some o) (hn:i∉X) (hd:∀j∈cO o,j∈X) (h:lS ops (i::X) l):lS ops X (i::l)
theorem F6{o:Tv}{j:Nat}:j∈cO o<->∃e∈o.after,Yo .any e=true/\e.on=j:=by
 unfold cO;rw[VR];constructor
 ·rintro⟨e,he,h⟩
  split at h
  ·rename_i hb;cases h;exact⟨e,by simpa using he,hb,rfl⟩
  ·cases h
 ·rintro⟨e,he,hb,rfl⟩
  exact⟨e,by simpa using he,by rw[if_pos hb]⟩
theorem Ou{l:List Nat}{i:Nat}(hi:i∈l){p q:Nat->Bool}(io:∀k,q k=true->p k=true)(hp:p i=true)(hq:q i=false):l.countP q<l.countP p:=by
 induction l with
 |nil=>cases hi
 |cons x l ih=>
  have hle:l.countP q<=l.countP p:=List.countP_mono_left λk _ h=>io k h;rcases SL.1 hi with rfl|hi
  ·rw[WQ (by simp[hq]),VP hp];omega
  ·have:=ih hi;by_cases hx:q x=true
   ·rw[VP hx,VP (io x hx)];omega
   ·rw[WQ hx];by_cases jy:p x=true
    ·rw[VP jy];omega
    ·rw[WQ jy];exact this
structure Nu (ops:Array Tv)(L:Array Bool)(X:List Nat):Prop where
 size:L.size=ops.size
 mem:∀i,i<ops.size->(L[i]?=some true<->i∈X)
theorem aah{ops:Array Tv}(gW:∀(i:Nat) o,ops[i]?=some o->∀j∈cO o,j<i):∀(fuel t:Nat)(L:Array Bool)(X:List Nat),Nu ops L X->(S0 ops.size).countP (λi=> !X.contains i)<=fuel->lS ops X (UB .any ops fuel t L [])
 |0,t,L,X,hr,hc=>by
  simp only[UB,XT];refine .nil X λi hi=> ?_;have:(S0 ops.size).countP (λi=> !X.contains i)=0:=by omega
  have:=List.countP_eq_zero.1 this i (by simpa using hi);simpa using this
 |fuel+1,t,L,X,hr,hc=>by
  have uk:∀i,i∈((S0 ops.size).filter λi=> !L.getD i true&&((ops[i]?).map (·.after.all λe=> !Region.binds .any e||L.getD e.on false)).getD false)<->∃o,ops[i]?=some o/\i∉X/\∀j∈cO o,j∈X:=by
   intro i;simp only[Un,TG,Tc,TV];constructor
   ·rintro⟨hi,h1,h2⟩
    have ho:=SK hi;refine⟨ops[i],ho,λhx=> ?_,λj hj=> ?_⟩
    ·have:=(hr.mem i hi).2 hx;rw[SI,this]at h1;cases h1
    ·obtain⟨e,he,hb,rfl⟩:=F6.1 hj;rw[ho]at h2;simp only[UN,S9,UD]at h2;have:=h2 e he;rw[hb]at this;simp only[ai_,XR]at this;have hlt:e.on<ops.size:=Wl (gW i _ ho _ hj) hi;refine(hr.mem _ hlt).1 ?_;rw[SI]at this;cases hx:L[e.on]?with
     |none=>rw[hx]at this;cases this
     |some b=>rw[hx]at this;cases b;cases this;rfl
   ·rintro⟨o,ho,h1,h2⟩
    have hi:i<ops.size:=(SR.1 ho).1;refine⟨hi,?_,?_⟩
    ·rw[SI,SK (by rw[hr.size];exact hi)];simp only[S9];cases hb:L[i]'(by rw[hr.size];exact hi)with
     |false=>rfl
     |true=>exact absurd ((hr.mem i hi).1 (by rw[SK (by rw[hr.size];exact hi),hb])) h1
    ·rw[ho];simp only[UN,S9,UD];intro e he;cases hb:Yo .any e with
     |false=>rfl
     |true=>
      have hj:=F6.2 ⟨e,he,hb,rfl⟩;have hlt:e.on<ops.size:=Wl (gW i _ ho _ hj) hi;have:=(hr.mem _ hlt).2 (h2 _ hj);simp[SI,this]
  simp only[UB];generalize Ce:((S0 ops.size).filter λi=> !L.getD i true&&((ops[i]?).map (·.after.all λe=> !Region.binds .any e||L.getD e.on false)).getD false)=rs at uk;cases hi:rs[t % rs.length]?with
  |none=>
   have Kl:rs=[]:=by
    cases rs with
    |nil=>rfl
    |cons x xs=>
     have hlt:t % (x::xs).length<(x::xs).length:=aq_ _ (by simp);rw[List.getElem?_eq_none_iff]at hi;omega
   simp only[XT];refine .nil X λi=> ?_;induction i using Yl with
   |_ i ih=>
    intro hlt;apply Tu;intro hx;have:i∈rs:=(uk i).2 ⟨ops[i],SK hlt,hx,λj hj=>ih j (gW i _ (SK hlt) j hj) (Wl (gW i _ (SK hlt) j hj) hlt)⟩;rw[Kl]at this;cases this
  |some i=>
   simp only[];obtain⟨o,ho,h1,h2⟩:=(uk i).1 (Te hi);have hlt:i<ops.size:=(SR.1 ho).1;rw[linearise_go_acc,List.reverse_singleton,YX];refine .cons o ho h1 h2 (aah gW fuel _ _ (i::X) ⟨by simp[hr.size],λk hk=> ?_⟩ ?_)
   ·by_cases qV:k=i
    ·subst qV;simp[S_ (by rw[hr.size];exact hlt)]
    ·rw[SU (Ne.symm qV),hr.mem k hk];simp[qV]
   ·have fA:i∈(S0 ops.size):=(by simpa using hlt);have:(S0 ops.size).countP (λk=> !(i::X).contains k)<(S0 ops.size).countP (λk=> !X.contains k):=by
     exact Ou fA (λk hk=>by simp only[TV,Up,decide_eq_false_iff_not]at hk⊢;exactλh=>hk (Tb _ h)) (by simpa using h1) (by simp)
    omega
end Go.Gg
