/- A part of the proof. -/
import Derived.Conc.Own5
import Derived.Conc.Own4
import Derived.Conc.Own3
import Derived.Conc.Own2
import Derived.Conc.QuitsD
import Derived.Conc.Deaf
import Derived.Conc.CompanyDraw
import Derived.Conc.Comm2
import Derived.Conc.Beside
import Derived.Conc.Events
import Derived.Orders
set_option linter.all false
set_option maxRecDepth 4000
set_option maxHeartbeats 4000000
open Array renaming all_eq_true_iff_forall_mem->UJ,append_assoc->Xp,empty_append->Xo,ext'->VE,getD_eq_getD_getElem?->SH,getElem?_append_left->X8,getElem?_append_right->X4,getElem?_eq_getElem->SK,getElem?_eq_some_iff->SU,getElem?_map->WC,getElem?_modify->Wi,getElem?_push->Xe,getElem?_push_lt->Yv,getElem?_setIfInBounds_ne->SW,getElem?_setIfInBounds_self_of_lt->S_,getElem_mem->XS,isEmpty_iff->Zd,mem_append->Ut,range->WI,replicate->TK,size_append->Xy,toList_map->VM
open BitVec renaming ofInt->Ui
open Bool renaming and_eq_true->Ti,false_eq_true->TM,false_or->Zu,not_eq_true'->TZ,not_false->YA,not_true->aj'
open Classical renaming byContradiction->Ts
open Function renaming comp_def->Yu
open Go renaming Addr->U1,BinOp->VZ,Call->Xn,CallKind->Xa,Code->Ua,Event->Ur,Field->YT,Frame->Uc,Func->Yz,FuncId->TO,Goroutine->SG,IntKind->TY,Item->WR,LoopState->Z7,MapEntry->Wl,Oper->Tu,Operand->Th,PanicEntry->ZQ,Program->SJ,ResultVar->UN,TypeInfo->Wj,Value->SQ,World->To
open Go.Act renaming put->XZ
open Go.Addr renaming add->at2
open Go.Builtin renaming append_->VA,copy_->auf,delete_->aue,firstCells->Vu,growBy->Zm,lenOf->aud,len_->Yh,nextslicecap->WY,zeroCells->Xh
open Go.CallKind renaming early->U3
open Go.Conc renaming QuitsD->Y4,seen_none->Z9,served->T6
open Go.Deferred renaming ofValue->U0
open Go.Event renaming mute->WF
open Go.Frame renaming catches->ZS,oper?->YI,round->W6
open Go.GStep renaming after->T5
open Go.Instr renaming checkKey->U8,fill->Z8,findKey->VO,index->ZY,indexAt->ZI,loadAt->Xx,mapUpdate->Zs,sameBits->WA,slice->ZX,sliceAt->Yf,sliceBound->Zk,sliceBounds->Y',storeAt->Ye,sureAddr->U7,typeAssert->Zj
open Go.IntKind renaming bits->ats,i64->SE,signed->as',wrap->W9
open Go.Item renaming plain->ad'
open Go.MemAct renaming low_mono->Zi,ofEvent->Tq
open Go.Next renaming value->W1
open Go.Obj renaming isChan->ah_
open Go.Op renaming equal->Xm,equalIn->Vy,intArith->aua,intDiv->apH,shift->as_
open Go.Question renaming cut->Zr,forced->ar_
open Go.Region renaming binds->Yl,schedule->VN,wanted->Tg
open Go.Region.linearise renaming go->UF
open Go.Sem renaming events_pure->ZG,runT->VI,runT_eq->TA,run_pure->Z6
open Go.Value renaming bool->W8,slice->Us,tuple->YG
open Go.World renaming cell?->Uy,frozen?->ZP,setCell->Xf
open Go.stepG renaming exec->Ug,oper->Y2
open Int renaming toNat_natCast->VQ
open List renaming append_assoc->SA,append_nil->SI,contains_eq_mem->Uq,countP_cons_of_neg->WQ,countP_cons_of_pos->VU,drop_drop->ak',drop_eq_getElem_cons->TR,drop_zero->Xw,ext_getElem?->Yj,flatMap_cons->Ub,foldl_cons->UX,getD_cons_zero->Xk,getD_eq_getElem?_getD->SD,getElem?_append_left->SY,getElem?_append_right->S8,getElem?_cons_succ->UM,getElem?_cons_zero->Vq,getElem?_drop->Up,getElem?_eq_getElem->SO,getElem?_eq_some_iff->SM,getElem?_map->Tn,getElem?_range->XI,getElem?_set_ne->T7,getElem?_set_self->W5,getElem?_take->Ul,getElem?_toArray->Vb,getElem_mem->Wy,length_append->SP,length_cons->Uk,length_drop->Uo,length_nil->UR,length_take->Uf,mapM_cons->T_,mapM_nil->UC,mapM_toArray->XX,map_congr_left->VB,map_cons->UV,map_drop->ag2,mem_cons->SL,mem_cons_of_mem->Tb,mem_cons_self->TB,mem_filter->Uv,mem_filterMap->VW,mem_iff_getElem?->UQ,mem_of_getElem?->Td,mem_of_mem_take->Xv,mem_range->TF,mem_toArray->TJ,not_mem_nil->S0,range->SZ,range'->Ud,range'_succ->VT,range_eq_range'->Vp,reverse_nil->XU,set_append_right->T9,set_set->W4,singleton_append->Y0,take_length->TQ,take_take->UZ,take_zero->ak_
open Nat renaming add_assoc->U_,add_comm->Z1,add_mul->U9,add_zero->UD,le_of_eq->WG,le_refl->SR,le_succ->YZ,le_trans->UL,lt_of_lt_of_le->Tc,lt_trans->Wn,min_le_left->ZF,mod_lt->aq',mul_le_mul->ZK,mul_le_mul_right->Uh,mul_one->X9,ne_of_lt->V_,strongRecOn->Yi,sub_zero->ZW,zero_add->Wr,zero_le->Xz,zero_mul->Z0
open Option renaming bind_eq_bind->TP,bind_eq_some_iff->Te,getD_none->Vm,getD_some->S7,map_eq_some_iff->Tp,map_some->UO,pure_def->Uj
open Option.some renaming inj->Vj,injEq->Tj
open Prod.mk renaming injEq->UY
namespace Go.Gg
open Go.Conc
abbrev cE:=Nat->Nat->Option SQ
abbrev Bz:=Nat->Option Obj
abbrev Spec:=SQ->cE->Bz->Prop
inductive nA where
 |plain
 |fork (c Wg:Nat) (Ss:List (List Spec))
 |recv (c Wg:Nat) (Ss:List (List Spec))
 |work (c Wg:Nat) (S:List Spec)
def nA.group:nA->Option Nat
 |.fork _ Wg _=>some Wg
 |_=>none
def nA.chan:nA->Option Nat
 |.fork c _ _=>some c
 |_=>none
structure View where
 ab:cE
 own:Bz
 deaf:Nat
 role:nA
structure Sat (V:View)(w:To):Prop where
 ab:∀b o v,V.ab b o=some v->w.cell? ⟨b,o,none⟩=some v
 own:∀b x,V.own b=some x->w.heap[b]?=some x
def un (V:View)(n:Nat)(a:U1):Prop:=n<=a.block\/V.own a.block≠none\/V.ab a.block a.off≠none
def m8 (V:View)(n:Nat)(a:U1):Prop:=n<=a.block\/(V.own a.block≠none/\V.ab a.block a.off=none)
def ny (V:View)(n:Nat)(e:Ur):Prop:=
 match e with
 |⟨.cell a,false,s⟩=>un V n a/\(s=true\/V.role.group≠some a.block)
 |⟨.cell a,true,s⟩=>m8 V n a/\(s=true\/V.role.group≠some a.block)
 |⟨.obj r,_,s⟩=>(s=false/\(n<=r\/V.own r≠none))/\V.role.chan≠some r
 |⟨.mark (.read a),_,_⟩=>m8 V n a
 |⟨.mark (.write a),_,_⟩=>m8 V n a
 |⟨.mark .disable,_,s⟩=>s=true
 |⟨.mark .enable,_,s⟩=>s=true
 |⟨.mark .noRoom,_,_⟩=>True
 |_=>False
structure dq (V:View)(w:To)(V':View)(w':To)(es:Array Ur):Prop where
 sat:Sat V' w'
 tape:w'.tape=w.tape
 os:w'.os=w.os
 output:w'.output=w.output
 size:w.heap.size<=w'.heap.size
 frame:∀b,b<w.heap.size->V.own b=none->w'.heap[b]?=w.heap[b]?
 own:∀b,b<w.heap.size->V.own b=none->V'.own b=none
 ab:∀b o v,V.ab b o=some v->V'.ab b o=some v
 ld:∀b o v,V'.ab b o=some v->V.ab b o=some v\/V.own b≠none\/w.heap.size<=b
 fD:∀e∈es,ny V w.heap.size e
 deaf:V'.deaf=deafBehind V.deaf es
 role:V'.role=V.role
 chan:∀c x,V.role.chan=some c->V.own c=some x->V'.own c=some x
 low:∀e∈es,(Tq e).low w'.heap.size
structure ej (V V':View):Prop where
 sat:∀w,Sat V w->Sat V' w
 own:∀b,V.own b=none->V'.own b=none
 ab:∀b o v,V.ab b o=some v->V'.ab b o=some v
 ld:∀b o v,V'.ab b o=some v->V.ab b o=some v\/V.own b≠none
 deaf:V'.deaf=V.deaf
 role:V'.role=V.role
 chan:∀c x,V.role.chan=some c->V.own c=some x->V'.own c=some x
theorem ej.refl(V:View):ej V V:=⟨λ_ h=>h,λ_ h=>h,λ_ _ _ h=>h,λ_ _ _ h=> .inl h,rfl,rfl,λ_ _ _ e=>e⟩
theorem ej.trans{V V' aT:View}(h:ej V V')(k:ej V' aT):ej V aT:=
 ⟨λw x=>k.sat w (h.sat w x),λb x=>k.own b (h.own b x),λb o v x=>k.ab b o v (h.ab b o v x),λb o v x=>(k.ld b o v x).elim (λy=>h.ld b o v y) (λy=> .inr λz=>y (h.own b z)),k.deaf.trans h.deaf,k.role.trans h.role,λc x e e'=>k.chan c x (by rw[h.role];exact e) (h.chan c x e e')⟩
theorem un.sr{V V':View}(g:ej V V'){n:Nat}{a:U1}(h:un V' n a):un V n a:=by
 rcases h with h|h|h
 ·exact .inl h
 ·exact .inr (.inl λe=>h (g.own _ e))
 ·cases e:V'.ab a.block a.off with
  |none=>exact absurd e h
  |some v=>exact(g.ld _ _ _ e).elim (λx=> .inr (.inr (by rw[x];simp))) (λx=> .inr (.inl x))
theorem m8.sr{V V':View}(g:ej V V'){n:Nat}{a:U1}(h:m8 V' n a):m8 V n a:=by
 rcases h with h|⟨h,h'⟩
 ·exact .inl h
 ·refine .inr ⟨λe=>h (g.own _ e),?_⟩;cases e:V.ab a.block a.off with
  |none=>rfl
  |some v=>rw[g.ab _ _ _ e]at h';cases h'
theorem ny.sr{V V':View}(g:ej V V'){n:Nat}{e:Ur}(h:ny V' n e):ny V n e:=by
 unfold ny at h⊢;split at h
 ·exact⟨un.sr g h.1,by rw[<- g.role];exact h.2⟩
 ·exact⟨m8.sr g h.1,by rw[<- g.role];exact h.2⟩
 ·exact⟨⟨h.1.1,h.1.2.imp id λx y=>x (g.own _ y)⟩,by rw[<- g.role];exact h.2⟩
 ·exact m8.sr g h
 ·exact m8.sr g h
 ·exact h
 ·exact h
 ·trivial
 ·exact h.elim
theorem dq.sr{V V₁ V':View}{w w':To}{es:Array Ur}(g:ej V V₁)(h:dq V₁ w V' w' es):dq V w V' w' es:=
 ⟨h.sat,h.tape,h.os,h.output,h.size,λb hb e=>h.frame b hb (g.own b e),λb hb e=>h.own b hb (g.own b e),λb o v e=>h.ab b o v (g.ab b o v e),
  λb o v e=>(h.ld b o v e).elim (λx=>(g.ld b o v x).imp id .inl) (λx=> .inr (x.imp (λy z=>y (g.own b z)) id)),λe he=>ny.sr g (h.fD e he),by rw[h.deaf,g.deaf],h.role.trans g.role,λc x e e'=>h.chan c x (by rw[g.role];exact e) (g.chan c x e e'),h.low⟩
theorem dq.ghost{V V' aT:View}{w w':To}{es:Array Ur}(h:dq V w V' w' es)(g:ej V' aT):dq V w aT w' es:=
 ⟨g.sat _ h.sat,h.tape,h.os,h.output,h.size,h.frame,λb hb e=>g.own b (h.own b hb e),λb o v e=>g.ab b o v (h.ab b o v e),
  λb o v e=>(g.ld b o v e).elim (λx=>h.ld b o v x) (λx=>by
   by_cases hb:b<w.heap.size
   ·exact .inr (.inl λy=>x (h.own b hb y))
   ·exact .inr (.inr (by omega))),h.fD,by rw[g.deaf,h.deaf],g.role.trans h.role,λc x e e'=>g.chan c x (by rw[h.role];exact e) (h.chan c x e e'),h.low⟩
theorem dq.idle{V:View}{w:To}(h:Sat V w):dq V w V w #[]:=
 ⟨h,rfl,rfl,rfl,SR _,λ_ _ _=>rfl,λ_ _ e=>e,λ_ _ _ e=>e,λ_ _ _ e=> .inl e,by simp,rfl,rfl,λ_ _ _ e=>e,by simp⟩
theorem Sat.drew{V:View}{w:To}(h:Sat V w)(d:Nat):Sat V {w with drawn:=d}:=⟨h.ab,h.own⟩
theorem dq.draw{V:View}{w:To}(h:Sat V w)(d:Nat):dq V w V {w with drawn:=d} #[]:=
 ⟨h.drew d,rfl,rfl,rfl,SR _,λ_ _ _=>rfl,λ_ _ e=>e,λ_ _ _ e=>e,λ_ _ _ e=> .inl e,by simp,rfl,rfl,λ_ _ _ e=>e,by simp⟩
def ep (Wg:Nat):U1:=⟨Wg,0,none⟩
def o4 (Wg:Nat):U1:=⟨Wg,1,none⟩
def N_ (P : SJ) : TypeId := ((P.types.findIdx? λi => match i.desc with | .named n _ => n == "sync.WaitGroup" | _ => false).getD 0)
def wgBlock (P:SJ)(st sm:Int):Obj:=.cells #[.int .u64 st,.int .u32 sm] (N_ P)
def WgAt (P:SJ)(Wg:Nat)(w:To)(st sm:Int):Prop:=w.heap[Wg]?=some (wgBlock P st sm)
def KK:Int:=4294967296
def jr (a:U1):Ur:=⟨.cell a,false,true⟩
def lA (a:U1):Ur:=⟨.cell a,true,true⟩
def kB (m:Mark):Ur:=⟨.mark m,false,true⟩
def A2 (a:U1):Array Ur:=#[kB .disable,jr a,lA a,kB .enable]
def cZ (P:SJ)(Stop:Nat->SG->Prop):Nat->Nat->SG->Prop
 |0,d,g=>Stop d g
 |n+1,d,g=>Stop d g\/(g.status=.running/\∃g' es,(∀e∈es,WF e=true)/\(∀w,stepG P false g w=.go g' w es)/\cZ P Stop n (deafBehind d es) g')
def iB (P:SJ)(Wg:Nat)(Stop:Nat->SG->Prop):Nat->Nat->SG->Prop
 |0,d,g=>Stop d g
 |n+1,d,g=>Stop d g\/(g.status=.running/\∃g' es,(∀e∈es,WF e=true)/\(∀w x y,WgAt P Wg w x y->stepG P false g w=.go g' w es)/\iB P Wg Stop n (deafBehind d es) g')
section
variable (P:SJ)(Wg:Nat)
def Em (d:Nat)(g:SG):Prop:=d=1/\g.status=.running/\mayWake P g=true/\∃g',(∀w,WgAt P Wg w 0 0->stepG P false g w=.go g' (w.setCell (o4 Wg) (.int .u32 1)) (A2 (o4 Wg)))/\∃q,Y4 P q 1 g'
def En (d:Nat)(g:SG):Prop:=d=1/\g.status=.running/\∃g',(∀w,WgAt P Wg w 1 0->stepG P false g w=.go g' (w.setCell (ep Wg) (.int .u64 0)) #[lA (ep Wg)])/\∃n,cZ P (Em P Wg) n 1 g'
def El (d:Nat)(g:SG):Prop:=d=1/\g.status=.running/\∃g',(∀w,WgAt P Wg w 1 0->stepG P false g w=.go g' w #[jr (ep Wg)])/\∃n,cZ P (En P Wg) n 1 g'
def Bm (d:Nat)(g:SG):Prop:=d=1/\g.status=.running/\∀v wt:Nat,wt<=1->v<4->∃g',(∀w,WgAt P Wg w (((v+1:Nat):Int)* KK+wt) 0->stepG P false g w=.go g' (w.setCell (ep Wg) (.int .u64 ((v:Int)* KK+wt))) #[jr (ep Wg),lA (ep Wg)])/\
 ((v=0/\wt=1)->∃n,cZ P (El P Wg) n 1 g')/\(¬(v=0/\wt=1)->∃q,Y4 P q 1 g')
def Et (g:SG):Prop:=g.status=.running/\∃g',(∀w,stepG P false g w=.go g' w #[kB (.releaseMerge (ep Wg))])/\∃n,cZ P (Bm P Wg) n 0 g'
end
section
variable (P:SJ)(Im:cE)(c Wg:Nat)
def H7 (d:Nat)(g:SG):Prop:=d=0/\g.status=.running/\mayWake P g=true/\∃g',(∀w s,w.heap[c]?=some (.chan 0 #[] false s s false)->stepG P false g w=.go g' {w with heap:=w.heap.setIfInBounds c (.chan 0 #[] true s s false)} #[⟨.obj c,false,true⟩,⟨.obj c,true,true⟩])/\∃q,Y4 P q 0 g'
def H9 (d:Nat)(g:SG):Prop:=d=0/\g.status=.running/\∃b o x g',Im b o=some x/\(∀w,w.cell? ⟨b,o,none⟩=some x->stepG P false g w=.go g' w #[⟨.cell ⟨b,o,none⟩,false,false⟩])/\∃n,cZ P (H7 P c) n 0 g'
def uk (d:Nat)(g:SG):Prop:=d=0/\g.status=.running/\∃g',(∀w,stepG P false g w=.go g' w #[kB (.acquire (ep Wg))])/\∃n,cZ P (H9 P Im c) n 0 g'
def H8 (d:Nat)(g:SG):Prop:=d=1/\g.status=.running/\∃g',(∀w,WgAt P Wg w 0 0->stepG P false g w=.go g' w #[jr (ep Wg)])/\∃n,iB P Wg (uk P Im c Wg) n 1 g'
def Ek (d:Nat)(g:SG):Prop:=d=1/\g.status=.running/\g.offers=none/\(∀w st,WgAt P Wg w st 0->stepG P false g w=.go {g with status:=.blocked} w #[])/\
 ∃g',(∀w,WgAt P Wg w 0 1->stepG P false g w=.go g' (w.setCell (o4 Wg) (.int .u32 0)) (A2 (o4 Wg)))/\∃n,cZ P (H8 P Im c Wg) n 1 g'
def Ej (d:Nat)(g:SG):Prop:=d=1/\g.status=.running/\∃g',(∀w,stepG P false g w=.go g' w #[kB (.write (o4 Wg))])/\∃n,cZ P (Ek P Im c Wg) n 1 g'
def eT:Nat->Nat->SG->Prop
 |0,_,_=>False
 |k+1,d,g=>d=1/\g.status=.running/\∀v:Nat,v<=k->v<=4->∃g',(∀w,WgAt P Wg w ((v:Int)* KK) 0->stepG P false g w=.go g' w #[jr (ep Wg)])/\(v=0->∃n,iB P Wg (uk P Im c Wg) n 1 g')/\
  (v≠0->∃n,cZ P (λd g=>d=1/\g.status=.running/\
   (∃g',(∀w,WgAt P Wg w ((v:Int)* KK) 0->stepG P false g w=.go g' (w.setCell (ep Wg) (.int .u64 ((v:Int)* KK+1))) #[jr (ep Wg),lA (ep Wg)])/\∃n,iB P Wg (Ej P Im c Wg) n 1 g')/\
   (∀u:Nat,u<v->∃g',(∀w,WgAt P Wg w ((u:Int)* KK) 0->stepG P false g w=.go g' w #[jr (ep Wg)])/\∃n,cZ P (eT v) n 1 g')) n 1 g')
 termination_by k _ _=>k
def H_ (g:SG):Prop:=∃n,cZ P (eT P Im c Wg 5) n 0 g
end
structure zd (P:SJ)(main:Bool)(J:View->SG->Prop):Prop where
 step:∀V g,g.status=.running->(∀w,Sat V w->∃g' w' es V',stepG P main g w=.go g' w' es/\dq V w V' w' es/\J V' g')->J V g
 ghost:∀V V' g,ej V V'->J V' g->J V g
 send:∀V g c Wg sp S v z (B:Nat->Bool),V.role=.work c Wg (sp::S)->V.deaf=0->g.status=.running->g.offers=none->
  (∀w,Sat V w->stepG P main g w=.comm g #[scase c v z] true .send w #[])->sp v V.ab (λb=>if B b then V.own b else none)->
  J {V with own:=λb=>if B b then none else V.own b,role:=.work c Wg S} (T6 g undef)->J V g
 done:∀V g c Wg,V.role=.work c Wg []->V.deaf=0->Et P Wg g->J V g
 slip:∀V g g' c Wg,V.role=.work c Wg []->g.status=.running->(∀w st,Sat V w->WgAt P Wg w st 0->stepG P main g w=.go g' w #[])->J V g'->J V g
structure adY (P:SJ)(main:Bool)(J:View->SG->Prop):Prop where
 start:∀V g c Wg,V.role=.plain->c≠Wg->V.own c=some (.chan 0 #[] false 0 0 false)->V.own Wg≠none->(∀o,V.ab Wg o=none)->J {V with role:=.fork c Wg []} g->J V g
 Fp:∀V g g' child c Wg Ss sp S,V.role=.fork c Wg Ss->V.deaf=0->g.status=.running->V.own c=some (.chan 0 #[] false 0 0 false)->V.own Wg=some (wgBlock P (((Ss.length+1:Nat):Int)* 4294967296) 0)->Ss.length<4->(∀o,V.ab Wg o=none)->
  (∀w,Sat V w->stepG P main g w=.spawn g' child w #[])->child.status=.running->
  (∀J0,zd P false J0->J0 {ab:=V.ab,own:=λ_=>none,deaf:=0,role:=.work c Wg (sp::S)} child)->
  J {V with role:=.fork c Wg (Ss++[sp::S])} g'->J V g
 Fo:∀V g g' child c Wg Ss,V.role=.fork c Wg Ss->V.deaf=0->g.status=.running->c≠Wg->V.own c=some (.chan 0 #[] false 0 0 false)->V.own Wg=some (wgBlock P (((Ss.length:Nat):Int)* 4294967296) 0)->(∀o,V.ab c o=none)->(∀o,V.ab Wg o=none)->
  (∀w,Sat V w->stepG P main g w=.spawn g' child w #[])->child.status=.running->H_ P V.ab c Wg child->
  J {V with own:=λb=>if b=c\/b=Wg then none else V.own b,role:=.recv c Wg Ss} g'->J V g
 recv:∀V g c Wg Ss z,V.role=.recv c Wg Ss->V.deaf=0->g.status=.running->g.offers=none->
  (∀w,Sat V w->stepG P main g w=.comm g #[rcase c z] true (.recv true) w #[])->
  (∀i sp S v Im Ow,Ss[i]?=some (sp::S)->sp v Im Ow->(∀b,V.own b≠none->Ow b=none)->(∀b o,V.own b≠none->Im b o≠none->V.ab b o≠none)->(∃w,Sat V w/\(∀b o x,Im b o=some x->w.cell? ⟨b,o,none⟩=some x)/\∀b x,Ow b=some x->w.heap[b]?=some x)->
   J {V with ab:=λb o=>match V.ab b o with|some x=>some x|none=>Im b o,own:=λb=>match V.own b with|some x=>some x|none=>Ow b,role:=.recv c Wg (Ss.set i S)} (T6 g (.tuple #[v,.bool true])))->
  ((∀S∈Ss,S=[])->J {V with role:=.plain} (T6 g (.tuple #[z,.bool false])))->J V g
structure Closed (lv:Bool)(P:SJ)(main:Bool)(J:View->SG->Prop):Prop extends zd P main J where
 more:lv=true->adY P main J
theorem Closed.idle{lv:Bool}{P:SJ}{main:Bool}{J:View->SG->Prop}(C:Closed lv P main J){V:View}{g g':SG}(hs:g.status=.running)(h:∀w,stepG P main g w=.go g' w #[]) (hJ:J V g'):J V g:=
 C.step V g hs λw hw=>⟨g',w,#[],V,h w,.idle hw,hJ⟩
def on (b:Uc)(a:Act)(todo:List WR):Uc:={b with tmps:=a.tmps,todo,defers:=a.defers,mode:=.run}
inductive Ex where
 |normal
 |exit (id:Nat)
 |goto (l:Nat)
 |ret
 |panic (chain:List ZQ)
def qi (J:View->SG->Prop)(b:Uc)(cs:List Uc)(a:Act)(V:View)(x:Ua)(to:List WR->Option (List WR))(k:List WR):Prop:=
 (∃k',to k=some k'/\J V (G (on b a k') cs))\/(to k=none/\∀k2,to k2=none->J V (G (on b a (.code x::k2)) cs))
theorem qi.under{J:View->SG->Prop}{b:Uc}{cs:List Uc}{a:Act}{V:View}{x:Ua}{to:List WR->Option (List WR)}{k k2:List WR}(h:qi J b cs a V x to k)(e:to k2=to k):qi J b cs a V x to k2:=by
 rcases h with⟨k',h1,h2⟩|⟨h1,h2⟩
 ·exact .inl ⟨k',e.trans h1,h2⟩
 ·exact .inr ⟨e.trans h1,h2⟩
def abl:List WR->Bool
 |.call .. ::_=>false
 |_=>true
def vL (J:View->SG->Prop)(b:Uc)(k:List WR)(cs:List Uc):Ex->Act->View->Prop
 |.normal,a,V=>J V (G (on b a k) cs)
 |.exit id,a,V=>qi J b cs a V (.exit id) (exitTo id) k
 |.goto l,a,V=>qi J b cs a V (.goto l) (gotoIn l) k
 |.ret,a,V=>∀k,J V (G (on b a (.code .ret::k)) cs)
 |.panic chain,a,V=>∀todo,abl todo=true->J V (G {on b a todo with mode:=.panicking chain} cs)
def WP (lv:Bool)(P:SJ)(r:Option Nat)(c:Ua)(Q:Ex->Act->View->Prop)(a:Act)(V:View):Prop:=
 ∀(main:Bool)(J:View->SG->Prop),Closed lv P main J->∀(b:Uc)(k:List WR)(cs:List Uc),b.kind≠ .early->b.roundOf=r->
  (∀e a' V',Q e a' V'->vL J b k cs e a' V')->J V (G (on b a (.code c::k)) cs)
section steps
variable {P:SJ}{main:Bool}{b:Uc}{a:Act}{k:List WR}{cs:List Uc}{w:To}
theorem ap1:stepG P main (G (on b a (.code .skip::k)) cs) w=.go (G (on b a k) cs) w #[]:=by simp[G,stepG,Ug,on]
theorem apV{l:Nat}:stepG P main (G (on b a (.code (.label l)::k)) cs) w=.go (G (on b a k) cs) w #[]:=by simp[G,stepG,Ug,on]
theorem apR{id:Nat}:stepG P main (G (on b a (.inBlock id::k)) cs) w=.go (G (on b a k) cs) w #[]:=by simp[G,stepG,Ug,on]
theorem apU{c:Ua}:stepG P main (G (on b a (.inScope c::k)) cs) w=.go (G (on b a k) cs) w #[]:=by simp[G,stepG,Ug,on]
theorem acm{x y:Ua}:stepG P main (G (on b a (.code (.seq x y)::k)) cs) w=.go (G (on b a (.code x:: .code y::k)) cs) w #[]:=by simp[G,stepG,Ug,on]
theorem G4(b:Uc)(a:Act)(todo:List WR)(x:Th):(on b a todo).eval x=a.eval x:=by cases x<;>rfl
theorem anW(b:Uc)(a:Act)(todo:List WR):(on b a todo).eval=a.eval:=funext (G4 b a todo)
theorem s_cond{c:Th}{x y:Ua}{t:Bool}(h:a.eval c=.bool t):
  stepG P main (G (on b a (.code (.cond c x y)::k)) cs) w=.go (G (on b a (.code (if t then x else y)::k)) cs) w #[]:=by
 have h':(on b a (.code (.cond c x y)::k)).eval c=.bool t:=by rw[G4];exact h
 simp only[on]at h';simp[G,stepG,Ug,on,h']
theorem apO{id:Nat}{c:Ua}:stepG P main (G (on b a (.code (.block id c)::k)) cs) w=.go (G (on b a (.code c:: .inBlock id::k)) cs) w #[]:=by simp[G,stepG,Ug,on]
theorem ap0{c:Ua}:stepG P main (G (on b a (.code (.scope c)::k)) cs) w=.go (G (on b a (.code c:: .inScope c::k)) cs) w #[]:=by simp[G,stepG,Ug,on]
theorem apW{c:Ua}:stepG P main (G (on b a (.code (.loop c)::k)) cs) w=.go (G (on b a (.code c:: .inLoop c::k)) cs) w #[]:=by simp[G,stepG,Ug,on]
theorem apS{c:Ua}:stepG P main (G (on b a (.inLoop c::k)) cs) w=.go (G (on b a (.code c:: .inLoop c::k)) cs) w #[]:=by simp[G,stepG,Ug,on]
theorem s_exit{id:Nat}{k':List WR}(h:exitTo id k=some k'):stepG P main (G (on b a (.code (.exit id)::k)) cs) w=.go (G (on b a k') cs) w #[]:=by simp[G,stepG,Ug,on,h]
theorem apQ{l:Nat}{k':List WR}(h:gotoIn l k=some k'):stepG P main (G (on b a (.code (.goto l)::k)) cs) w=.go (G (on b a k') cs) w #[]:=by simp[G,stepG,Ug,on,h]
theorem acl{id:Nat}{ops:Array Tu}:stepG P main (G (on b a (.code (.region id ops false)::k)) cs) w=.go (G (on b a (.inRegion ops (SZ ops.size)::k)) cs) w #[]:=by simp[G,stepG,Ug,on]
theorem apP{id:Nat}{ops:Array Tu}:stepG P main (G (on b a (.code (.region id ops true)::k)) cs) w=
  .go (G (on b a (.inRegion ops (VN (P.follows .mixedOrders) ops (w.tape w.drawn (.order b.fn id)))::k)) cs) {w with drawn:=w.drawn+1} #[]:=by
 simp[G,stepG,Ug,on,choose,Sem.run,ar_,Zr]
theorem apZ{ops:Array Tu}:stepG P main (G (on b a (.inRegion ops []::k)) cs) w=.go (G (on b a k) cs) w #[]:=by simp[G,stepG,Ug,on]
theorem DT(h:b.roundOf=none):stepG P main (G (on b a (.code .ret::k)) cs) w=.go (G {on b a (.code .ret::k)with mode:=.returning} cs) w #[]:=by simp[G,stepG,Ug,on,h]
theorem DR(h:b.roundOf=none):stepG P main (G (on b a []) cs) w=.go (G {on b a []with mode:=.returning} cs) w #[]:=by simp[G,stepG,Ug,on,h]
end steps
section rules
variable {lv:Bool}{P:SJ}{r:Option Nat}{Q:Ex->Act->View->Prop}{a:Act}{V:View}
theorem WP.mono{c:Ua}{Q':Ex->Act->View->Prop}(h:WP lv P r c Q a V)(hq:∀e a V,Q e a V->Q' e a V):WP lv P r c Q' a V:=
 λmain J C b k cs hb hr hL=>h main J C b k cs hb hr λe a' V' q=>hL e a' V' (hq _ _ _ q)
theorem WP.ghost{c:Ua}{V':View}(g:ej V V')(h:WP lv P r c Q a V'):WP lv P r c Q a V:=
 λmain J C b k cs hb hr hL=>C.ghost _ _ _ g (h main J C b k cs hb hr hL)
theorem wp_skip(h:Q .normal a V):WP lv P r .skip Q a V:=λ_ _ C _ _ _ _ _ hL=>C.idle rfl (λ_=>ap1) (hL _ _ _ h)
theorem wp_label{l:Nat}(h:Q .normal a V):WP lv P r (.label l) Q a V:=λ_ _ C _ _ _ _ _ hL=>C.idle rfl (λ_=>apV) (hL _ _ _ h)
theorem aaH{main:Bool}{J:View->SG->Prop}(C:Closed lv P main J){b:Uc}{cs:List Uc}{a:Act}{V:View}{id:Nat}{k:List WR}(h:qi J b cs a V (.exit id) (exitTo id) k):J V (G (on b a (.code (.exit id)::k)) cs):=
 h.elim (λ⟨_,hk,hJ⟩=>C.idle rfl (λ_=>s_exit hk) hJ) (λ⟨hk,hJ⟩=>hJ k hk)
theorem al1{main:Bool}{J:View->SG->Prop}(C:Closed lv P main J){b:Uc}{cs:List Uc}{a:Act}{V:View}{l:Nat}{k:List WR}(h:qi J b cs a V (.goto l) (gotoIn l) k):J V (G (on b a (.code (.goto l)::k)) cs):=
 h.elim (λ⟨_,hk,hJ⟩=>C.idle rfl (λ_=>apQ hk) hJ) (λ⟨hk,hJ⟩=>hJ k hk)
theorem wp_exit{id:Nat}(h:Q (.exit id) a V):WP lv P r (.exit id) Q a V:=λ_ _ C _ _ _ _ _ hL=>aaH C (hL _ _ _ h)
theorem wp_ret(h:Q .ret a V):WP lv P r .ret Q a V:=λ_ _ _ _ k _ _ _ hL=>hL _ _ _ h k
def Ex.then (next:Act->View->Prop)(Q:Ex->Act->View->Prop):Ex->Act->View->Prop
 |.normal,a,V=>next a V
 |e,a,V=>Q e a V
theorem vL.under{J:View->SG->Prop}{b:Uc}{k:List WR}{cs:List Uc}{x:WR}(hx:x.plain=true){e:Ex}(he:e≠ .normal){a:Act}{V:View}(h:vL J b k cs e a V):vL J b (x::k) cs e a V:=by
 cases e with
 |normal=>exact absurd rfl he
 |exit id=>exact qi.under h (by cases x<;>simp_all[exitTo,ad'])
 |goto l=>exact qi.under h (by cases x<;>simp_all[gotoIn,ad'])
 |ret=>exact h
 |panic ch=>exact h
theorem wp_seq{x y:Ua}(h:WP lv P r x (Ex.then (WP lv P r y Q) Q) a V):WP lv P r (.seq x y) Q a V:=by
 intro main J C b k cs hb hr hL;refine C.idle rfl (λ_=>acm) (h main J C b (.code y::k) cs hb hr λe a' V' q=> ?_);cases e with
 |normal=>exact q main J C b k cs hb hr hL
 |exit id=>exact(hL _ _ _ q).under rfl (by simp)
 |goto l=>exact(hL _ _ _ q).under rfl (by simp)
 |ret=>exact(hL _ _ _ q).under rfl (by simp)
 |panic ch=>exact(hL _ _ _ q).under rfl (by simp)
theorem wp_cond{c:Th}{x y:Ua}{t:Bool}(hc:a.eval c=.bool t)(h:WP lv P r (if t then x else y) Q a V):WP lv P r (.cond c x y) Q a V:=
 λmain J C b k cs hb hr hL=>C.idle rfl (λ_=>s_cond hc) (h main J C b k cs hb hr hL)
def Ex.inBlock (id:Nat)(Q:Ex->Act->View->Prop):Ex->Act->View->Prop
 |.exit oW,a,V=>if oW=id then Q .normal a V else Q (.exit oW) a V
 |e,a,V=>Q e a V
theorem wp_block{id:Nat}{c:Ua}(h:WP lv P r c (Ex.inBlock id Q) a V):WP lv P r (.block id c) Q a V:=by
 intro main J C b k cs hb hr hL;refine C.idle rfl (λ_=>apO) (h main J C b (.inBlock id::k) cs hb hr λe a' V' q=> ?_);cases e with
 |normal=>exact C.idle rfl (λ_=>apR) (hL _ _ _ q)
 |exit oW=>
  by_cases ce:oW=id
  ·simp only[Ex.inBlock,ce,if_true]at q;exact .inl ⟨k,by simp[exitTo,ce],hL _ _ _ q⟩
  ·simp only[Ex.inBlock,ce,if_false]at q;have:(id==oW)=false:=(by simp;exactλh=>ce h.symm);exact qi.under (hL _ _ _ q) (by simp[exitTo,this])
 |goto l=>exact qi.under (hL _ _ _ q) (by simp[gotoIn])
 |ret=>exact hL _ _ _ q
 |panic ch=>exact hL _ _ _ q
theorem Of{α:Type}{lt:α->α->Prop}(wf:WellFounded lt){c:Ua}(I:α->Act->View->Prop)(m:α)(h₀:I m a V)
  (round:∀m a V,I m a V->WP lv P r c (Ex.then (λa' V'=>∃m',lt m' m/\I m' a' V') Q) a V):WP lv P r (.loop c) Q a V:=by
 intro main J C b k cs hb hr hL;have key:∀m a V,I m a V->J V (G (on b a (.code c:: .inLoop c::k)) cs):=by
  intro m;induction m using wf.induction with
  |_ m ih=>
   intro a V hI;refine round m a V hI main J C b (.inLoop c::k) cs hb hr λe a' V' q=> ?_;cases e with
   |normal=>obtain⟨m',hlt,hI'⟩:=q;exact C.idle rfl (λ_=>apS) (ih m' hlt a' V' hI')
   |exit id=>exact(hL _ _ _ q).under rfl (by simp)
   |goto l=>exact(hL _ _ _ q).under rfl (by simp)
   |ret=>exact(hL _ _ _ q).under rfl (by simp)
   |panic ch=>exact(hL _ _ _ q).under rfl (by simp)
 exact C.idle rfl (λ_=>apW) (key m a V h₀)
theorem wp_loop{c:Ua}(I:Nat->Act->View->Prop)(m:Nat)(h₀:I m a V)
  (round:∀m a V,I m a V->WP lv P r c (Ex.then (λa' V'=>∃m',m'<m/\I m' a' V') Q) a V):WP lv P r (.loop c) Q a V:=
 Of Nat.lt_wfRel.wf I m h₀ round
theorem adR{c:Ua}(I:Nat->Nat->Act->View->Prop)
  (start:∃n:Nat,WP lv P r c (λe a V=>match e with
   |.goto l=>∃rest,findLabel c l=some rest/\∃m,m<n/\I l m a V
   |e=>Q e a V) a V)
  (back:∀l rest m a V,findLabel c l=some rest->I l m a V->WP lv P r rest (λe a V=>match e with
   |.goto l'=>∃yS,findLabel c l'=some yS/\∃m',m'<m/\I l' m' a V
   |e=>Q e a V) a V):WP lv P r (.scope c) Q a V:=by
 intro main J C b k cs hb hr hL;have land:∀(n:Nat),(∀l rest m a V,m<n->findLabel c l=some rest->I l m a V->J V (G (on b a (.code rest:: .inScope c::k)) cs))->
   ∀e a' V',(match e with
   |.goto l=>∃rest,findLabel c l=some rest/\∃m,m<n/\I l m a' V'
   |e=>Q e a' V')->vL J b (.inScope c::k) cs e a' V':=by
  intro n hn e a' V' q;cases e with
  |normal=>exact C.idle rfl (λ_=>apU) (hL _ _ _ q)
  |exit id=>exact qi.under (hL _ _ _ q) (by simp[exitTo])
  |goto l=>
   obtain⟨rest,hf,m,hm,hI⟩:=q;exact .inl ⟨_,by simp[gotoIn,hf],hn l rest m a' V' hm hf hI⟩
  |ret=>exact hL _ _ _ q
  |panic ch=>exact hL _ _ _ q
 have key:∀n l rest m a V,m<n->findLabel c l=some rest->I l m a V->J V (G (on b a (.code rest:: .inScope c::k)) cs):=by
  intro n;induction n with
  |zero=>intro _ _ _ _ _ h;omega
  |succ n ih=>
   intro l rest m a V hm hf hI;exact back l rest m a V hf hI main J C b (.inScope c::k) cs hb hr (land m λl' yS m' a' V' h'=>ih l' yS m' a' V' (by omega))
 obtain⟨n,hn⟩:=start;exact C.idle rfl (λ_=>ap0) (hn main J C b (.inScope c::k) cs hb hr (land n (key n)))
end rules
open Go.Conc
def View.get (V:View)(b o:Nat):Option SQ:=
 match V.ab b o with
 |some v=>some v
 |none=>match V.own b with
  |some (.cells c _ _)=>c[o]?
  |_=>none
def View.upd (V:View)(b:Nat)(x:Obj):View:={V with own:=λb'=>if b'=b then some x else V.own b'}
def View.fresh (V:View)(b:Nat):Prop:=V.own b=none/\∀o,V.ab b o=none
theorem Sat.get{V:View}{w:To}(h:Sat V w){b o:Nat}{v:SQ}(e:V.get b o=some v):w.cell? ⟨b,o,none⟩=some v:=by
 unfold View.get at e;split at e
 ·rename_i v' hv;cases e;exact h.ab _ _ _ hv
 ·split at e
  ·rename_i c el f ho;have:=h.own _ _ ho;simpa[Uy,this]using e
  ·cases e
theorem Sat.lt{V:View}{w:To}(h:Sat V w){b:Nat}{x:Obj}(e:V.own b=some x):b<w.heap.size:=by
 have:=h.own _ _ e;exact(SU.1 this).1
theorem Sat.Dg{V:View}{w:To}(h:Sat V w){b o:Nat}{v:SQ}(e:V.ab b o=some v):b<w.heap.size:=by
 have:=h.ab _ _ _ e;unfold Uy at this;split at this
 ·rename_i hh;exact(SU.1 hh).1
 ·cases this
theorem Sat.fresh{V:View}{w:To}(h:Sat V w){b:Nat}(hb:w.heap.size<=b):V.fresh b:=
 ⟨by cases e:V.own b with
  |none=>rfl
  |some x=>have:=h.lt e;omega,λo=>by
  cases e:V.ab b o with
  |none=>rfl
  |some x=>have:=h.Dg e;omega⟩
theorem Sat.e_{V:View}{w:To}(h:Sat V w){b o:Nat}{v:SQ}(e:V.get b o=some v):b<w.heap.size:=by
 have:=h.get e;unfold Uy at this;split at this
 ·rename_i hh;exact(SU.1 hh).1
 ·cases this
theorem un.yN{V V₁:View}{w w₁:To}{es:Array Ur}(s:dq V w V₁ w₁ es){a:U1}(h:un V₁ w₁.heap.size a):un V w.heap.size a:=by
 rcases h with h|h|h
 ·exact .inl (UL s.size h)
 ·by_cases hb:a.block<w.heap.size
  ·exact .inr (.inl λe=>h (s.own _ hb e))
  ·exact .inl (by omega)
 ·cases e:V₁.ab a.block a.off with
  |none=>exact absurd e h
  |some v=>
   rcases s.ld _ _ _ e with x|x|x
   ·exact .inr (.inr (by rw[x];simp))
   ·exact .inr (.inl x)
   ·exact .inl x
theorem m8.yN{V V₁:View}{w w₁:To}{es:Array Ur}(s:dq V w V₁ w₁ es){a:U1}(h:m8 V₁ w₁.heap.size a):m8 V w.heap.size a:=by
 rcases h with h|⟨h,h'⟩
 ·exact .inl (UL s.size h)
 ·by_cases hb:a.block<w.heap.size
  ·refine .inr ⟨λe=>h (s.own _ hb e),?_⟩;cases e:V.ab a.block a.off with
   |none=>rfl
   |some v=>rw[s.ab _ _ _ e]at h';cases h'
  ·exact .inl (by omega)
theorem ny.yN{V V₁:View}{w w₁:To}{es:Array Ur}(s:dq V w V₁ w₁ es){e:Ur}(h:ny V₁ w₁.heap.size e):ny V w.heap.size e:=by
 unfold ny at h⊢;split at h
 ·exact⟨un.yN s h.1,by rw[<- s.role];exact h.2⟩
 ·exact⟨m8.yN s h.1,by rw[<- s.role];exact h.2⟩
 ·refine⟨⟨h.1.1,?_⟩,by rw[<- s.role];exact h.2⟩;rename_i r _ _;rcases h.1.2 with x|x
  ·exact .inl (UL s.size x)
  ·by_cases hb:r<w.heap.size
   ·exact .inr λy=>x (s.own _ hb y)
   ·exact .inl (by omega)
 ·exact m8.yN s h
 ·exact m8.yN s h
 ·exact h
 ·exact h
 ·trivial
 ·exact h.elim
theorem IW(d:Nat)(x y:Array Ur):deafBehind d (x++y)=deafBehind (deafBehind d x) y:=by
 simp[deafBehind]
theorem dq.trans{V V₁ V₂:View}{w w₁ w₂:To}{es uC:Array Ur}(s:dq V w V₁ w₁ es)(s':dq V₁ w₁ V₂ w₂ uC):dq V w V₂ w₂ (es++uC):=
 ⟨s'.sat,s'.tape.trans s.tape,s'.os.trans s.os,s'.output.trans s.output,UL s.size s'.size,
  λb hb e=>(s'.frame b (Tc hb s.size) (s.own b hb e)).trans (s.frame b hb e),λb hb e=>s'.own b (Tc hb s.size) (s.own b hb e),
  λb o v e=>s'.ab b o v (s.ab b o v e),λb o v e=>by
   rcases s'.ld b o v e with x|x|x
   ·exact s.ld b o v x
   ·by_cases hb:b<w.heap.size
    ·exact .inr (.inl λy=>x (s.own b hb y))
    ·exact .inr (.inr (by omega))
   ·exact .inr (.inr (UL s.size x)),
  λe he=>(Ut.1 he).elim (s.fD e) (λh=>(s'.fD e h).yN s),by rw[s'.deaf,s.deaf,IW],s'.role.trans s.role,λc x e e'=>s'.chan c x (by rw[s.role];exact e) (s.chan c x e e'),
  λe he=>(Ut.1 he).elim (λx=>Zi s'.size (s.low e x)) (s'.low e)⟩
def gh (es:Array Ur):Array Ur:=es.filter λe=>match e.loc with|.mark (.extern _)=>false|_=>true
def aO (P:SJ){α:Type}(V:View)(s:Sem α)(K:α->View->Prop)(Kp:SQ->View->Prop):Prop:=
 ∀w,Sat V w->∀ft,∃es w' V',dq V w V' w' (gh es)/\
  ((∃x,s.runT P w ft=(.ok x w',ft++es)/\K x V')\/(∃v,s.runT P w ft=(.halt (.panic v) w',ft++es)/\Kp v V'))
section
variable {P:SJ}{α β:Type}{V:View}{K:α->View->Prop}{Kp:SQ->View->Prop}
theorem MT(x y:Array Ur):gh (x++y)=gh x++gh y:=by simp[gh]
theorem aO.mono{s:Sem α}{K':α->View->Prop}{Ox:SQ->View->Prop}(h:aO P V s K Kp)(hk:∀x V,K x V->K' x V)(hp:∀x V,Kp x V->Ox x V):aO P V s K' Ox:=λw hw ft=>
 let⟨es,w',V',h1,h2⟩:=h w hw ft
 ⟨es,w',V',h1,h2.imp (λ⟨x,a,b⟩=>⟨x,a,hk _ _ b⟩) (λ⟨x,a,b⟩=>⟨x,a,hp _ _ b⟩)⟩
theorem aO.ghost{s:Sem α}{V':View}(g:ej V V')(h:aO P V' s K Kp):aO P V s K Kp:=λw hw ft=>
 let⟨es,w',V',h1,h2⟩:=h w (g.sat w hw) ft
 ⟨es,w',V',h1.sr g,h2⟩
theorem aO.cont{s:Sem α}(h:∀w,Sat V w->∃es w' V' s',dq V w V' w' (gh es)/\(∀ft,s.runT P w ft=s'.runT P w' (ft++es))/\aO P V' s' K Kp):aO P V s K Kp:=by
 intro w hw ft;obtain⟨es,w',V',s',h1,h2,h3⟩:=h w hw;obtain⟨uC,N9,aT,h4,h5⟩:=h3 w' h1.sat (ft++es);refine⟨es++uC,N9,aT,by rw[MT];exact h1.trans h4,?_⟩;rw[h2,<- Xp];exact h5
theorem cO{x:α}(h:K x V):aO P V (.pure x) K Kp:=λw hw ft=>⟨#[],w,V,by simpa[gh]using dq.idle hw,.inl ⟨x,by simp[-TA,VI],h⟩⟩
theorem aq{x:α}(h:K x V):aO P V (pure x) K Kp:=cO h
theorem aqi{v:SQ}(h:Kp v V):aO P V (.halt (.panic v):Sem α) K Kp:=λw hw ft=>⟨#[],w,V,by simpa[gh]using dq.idle hw,.inr ⟨v,by simp[-TA,VI],h⟩⟩
theorem tY{e:Ur}(h:∀f,e.loc≠ .mark (.extern f)):gh #[e]=#[e]:=by
 unfold gh;have:(match e.loc with|.mark (.extern _)=>false|_=>true)=true:=by
  split
  ·rename_i f hf;exact absurd hf (h f)
  ·rfl
 simp[Array.filter]
theorem PC(d:Nat)(a:U1)(wr s:Bool):deafBehind d #[⟨.cell a,wr,s⟩]=d:=by simp[deafBehind]
theorem PD(d:Nat)(a:Nat)(wr s:Bool):deafBehind d #[⟨.obj a,wr,s⟩]=d:=by simp[deafBehind]
theorem NF{m:Mode}{b o:Nat}{v:SQ}{k:SQ->Sem α}(e:V.get b o=some v)(kH:V.role.group≠some b\/m=.atomic)(h:aO P V (k v) K Kp):aO P V (.load m ⟨b,o,none⟩ k) K Kp:=by
 refine .cont λw hw=>⟨#[⟨.cell ⟨b,o,none⟩,false,m== .atomic⟩],w,V,k v,?_,λft=> ?_,h⟩
 ·rw[tY (by simp)];refine⟨hw,rfl,rfl,rfl,SR _,λ_ _ _=>rfl,λ_ _ e=>e,λ_ _ _ e=>e,λ_ _ _ e=> .inl e,λev cC=> ?_,by rw[PC],rfl,λ_ _ _ e=>e,λev cC=>by simp at cC;subst cC;exact hw.e_ e⟩;simp only[TJ,SL,S0,or_false]at cC;subst cC;refine⟨.inr ?_,kH.elim .inr (λx=> .inl (by subst x;rfl))⟩;show V.own b≠none\/V.ab b o≠none;unfold View.get at e;split at e
  ·rename_i hv;exact .inr (by rw[hv];simp)
  ·split at e
   ·rename_i hv;exact .inl (by rw[hv];simp)
   ·cases e
 ·simp[-TA,VI,hw.get e]
def _root_.Go.Value.one:SQ->Bool
 |.agg _|.tuple _=>false
 |_=>true
theorem Sat.adG{V:View}{w:To}(h:Sat V w){b o:Nat}{v:SQ}{c:Array SQ}{el:TypeId}{f:Nat×Nat}(ho:V.own b=some (.cells c el f))(hi:V.ab b o=none):
  Sat (V.upd b (.cells (c.setIfInBounds o v) el f)) (w.setCell ⟨b,o,none⟩ v):=by
 have hb:=h.own _ _ ho;have hlt:=h.lt ho;have hm:(w.setCell ⟨b,o,none⟩ v).heap=w.heap.setIfInBounds b (.cells (c.setIfInBounds o v) el f):=by
  unfold Xf;apply Array.ext_getElem?;intro i;by_cases cu:b=i
  ·subst cu;rw[Wi,S_ hlt];simp[hb]
  ·simp[Wi,cu,SW cu]
 refine⟨λb' o' v' e=> ?_,λb' x e=> ?_⟩
 ·have:=h.ab _ _ _ e;simp only[View.upd]at e;by_cases z9:b=b'
  ·subst z9;have Lf:o≠o':=(by intro x;subst x;rw[hi]at e;cases e);simp only[Uy,hb]at this;simp only[Uy,hm,S_ hlt,SW Lf];exact this
  ·simp only[Uy,hm,SW z9];exact this
 ·simp only[View.upd]at e;rw[hm];by_cases z9:b'=b
  ·subst z9;simp at e;rw[S_ hlt,e]
  ·simp only[z9,if_false]at e;rw[SW (Ne.symm z9)];exact h.own _ _ e
theorem DZ(w:To)(a:U1)(v:SQ):(w.setCell a v).heap.size=w.heap.size:=by simp[Xf]
theorem ws(w:To)(a:U1)(v:SQ){b:Nat}(h:a.block≠b):(w.setCell a v).heap[b]?=w.heap[b]?:=by simp[Xf,Wi,h]
theorem aqk{m:Mode}{b o:Nat}{v:SQ}{k:Sem α}{c:Array SQ}{el:TypeId}{lo hi:Nat}(ho:V.own b=some (.cells c el (lo,hi)))(cV:o<c.size)(cu:V.ab b o=none)(hv:v.one=true)
  (hf:¬(lo<=o/\o<hi)) (kH:V.role.group≠some b\/m=.atomic) (KH:V.role.chan≠some b) (h:aO P (V.upd b (.cells (c.setIfInBounds o v) el (lo,hi))) k K Kp):aO P V (.store m ⟨b,o,none⟩ v k) K Kp:=by
 refine .cont λw hw=>⟨#[⟨.cell ⟨b,o,none⟩,true,m== .atomic⟩],w.setCell ⟨b,o,none⟩ v,_,k,?_,λft=> ?_,h⟩
 ·rw[tY (by simp)];refine⟨hw.adG ho cu,rfl,rfl,rfl,by rw[DZ];exact SR _,λb' dL e=>ws _ _ _ (λx=> ?_),λb' dL e=> ?_,λ_ _ _ e=>e,λ_ _ _ e=> .inl e,λev cC=> ?_,by rw[PC];rfl,rfl,λc' x bi e=>by rw[<- e];simp only[View.upd,ite_eq_right_iff];intro x';subst x';exact absurd bi KH,λev cC=>by simp at cC;subst cC;show b<_;rw[DZ];exact hw.lt ho⟩
  ·have x':b=b':=x;subst x';rw[ho]at e;cases e
  ·have:b'≠b:=(by intro x;subst x;rw[ho]at e;cases e);simp only[View.upd,this,if_false];exact e
  ·simp only[TJ,SL,S0,or_false]at cC;subst cC;exact⟨.inr ⟨by show V.own b≠none;rw[ho];simp,cu⟩,kH.elim .inr (λx=> .inl (by subst x;rfl))⟩
 ·have hc:w.cell? ⟨b,o,none⟩=some c[o]:=by simp[Uy,hw.own _ _ ho,cV]
  have hfz:w.frozen? ⟨b,o,none⟩=false:=by
   simp only[ZP,hw.own _ _ ho];simpa using hf
  cases v<;>simp_all[-TA,VI,Value.one]
theorem o0{x:Obj}{k:Nat->Sem α}(h:∀r,V.fresh r->aO P (V.upd r x) (k r) K Kp):aO P V (.new x k) K Kp:=by
 refine .cont λw hw=>⟨#[],{w with heap:=w.heap.push x},V.upd w.heap.size x,k w.heap.size,?_,λft=>by simp[-TA,VI],h _ (hw.fresh (SR _))⟩;have jR:=hw.fresh (SR w.heap.size);have aG:∀{b y},V.own b=some y->b≠w.heap.size:=λe x=>by rw[x,jR.1]at e;cases e
 refine⟨⟨λb o v e=> ?_,λb y e=> ?_⟩,rfl,rfl,rfl,by simp,λb hb _=> ?_,λb hb e=> ?_,λ_ _ _ e=>e,λ_ _ _ e=> .inl e,by simp[gh],rfl,rfl,λc' x bi e=>by rw[<- e];simp only[View.upd,ite_eq_right_iff];intro x';exact absurd x' (aG e),by simp[gh]⟩
 ·have hlt:=hw.Dg e;have:=hw.ab _ _ _ e;simp only[Uy,Yv hlt]at this⊢;simpa[Uy,hlt]using this
 ·simp only[View.upd]at e;by_cases hb:b=w.heap.size
  ·subst hb;simp at e;simp[e]
  ·simp only[hb,if_false]at e;have:=hw.own _ _ e;have hlt:=hw.lt e;simp only[Yv hlt];simpa[hlt]using this
 ·simp[Xe,V_ hb]
 ·simp only[View.upd,V_ hb,if_false];exact e
theorem acz{q:Question}{k:Nat->Sem α}(h0:q.forced=true->aO P V (k 0) K Kp)(h:q.forced=false->∀t,aO P V (k (q.cut t)) K Kp):aO P V (.choose q k) K Kp:=by
 cases hf:q.forced with
 |true=>exact .cont λw hw=>⟨#[],w,V,k 0,by simpa[gh]using dq.idle hw,λft=>by simp[-TA,VI,hf],h0 hf⟩
 |false=>exact .cont λw hw=>⟨#[],{w with drawn:=w.drawn+1},V,_,by simpa[gh]using dq.draw hw (w.drawn+1),λft=>by simp[-TA,VI,hf],h hf (w.tape w.drawn q)⟩
theorem qX{k:SJ->Sem α}(h:aO P V (k P) K Kp):aO P V (.program k) K Kp:=
 .cont λw hw=>⟨#[],w,V,k P,by simpa[gh]using dq.idle hw,λft=>by simp[-TA,VI],h⟩
theorem aqh{k:Sem α}(h:aO P V k K Kp):aO P V (.mark .noRoom k) K Kp:=
 .cont λw hw=>⟨#[⟨.mark .noRoom,false,true⟩],w,V,k,by
  rw[tY (by simp)];exact⟨hw,rfl,rfl,rfl,SR _,λ_ _ _=>rfl,λ_ _ e=>e,λ_ _ _ e=>e,λ_ _ _ e=> .inl e,λev cC=>by simp at cC;subst cC;trivial,by simp[deafBehind],rfl,λ_ _ _ e=>e,λev cC=>by simp at cC;subst cC;trivial⟩,
  λft=>by simp[-TA,VI],h⟩
theorem aqg{m:Mark}{k:Sem α}(hm:m=.disable\/m=.enable)(h:aO P {V with deaf:=deafBehind V.deaf #[⟨.mark m,false,true⟩]} k K Kp):aO P V (.mark m k) K Kp:=
 .cont λw hw=>⟨#[⟨.mark m,false,true⟩],w,_,k,by
  rw[tY (by rcases hm with rfl|rfl<;>simp)];exact⟨⟨hw.ab,hw.own⟩,rfl,rfl,rfl,SR _,λ_ _ _=>rfl,λ_ _ e=>e,λ_ _ _ e=>e,λ_ _ _ e=> .inl e,λev cC=>by simp at cC;subst cC;rcases hm with rfl|rfl<;>rfl,rfl,rfl,λ_ _ _ e=>e,λev cC=>by simp at cC;subst cC;rcases hm with rfl|rfl<;>trivial⟩,
  λft=>by simp[-TA,VI],h⟩
theorem aqj{m:Mark}{a:U1}{k:Sem α}(hm:m=.read a\/m=.write a)(ha:V.own a.block≠none/\V.ab a.block a.off=none)(h:aO P V k K Kp):aO P V (.mark m k) K Kp:=
 .cont λw hw=>⟨#[⟨.mark m,false,true⟩],w,_,k,by
  rw[tY (by rcases hm with rfl|rfl<;>simp)];exact⟨⟨hw.ab,hw.own⟩,rfl,rfl,rfl,SR _,λ_ _ _=>rfl,λ_ _ e=>e,λ_ _ _ e=>e,λ_ _ _ e=> .inl e,λev cC=>by simp at cC;subst cC;rcases hm with rfl|rfl<;>exact .inr ha,
   by rcases hm with rfl|rfl<;>simp[deafBehind],rfl,λ_ _ _ e=>e,λev cC=>by
    simp at cC;subst cC;have:a.block<w.heap.size:=by
     cases e:V.own a.block with
     |none=>exact absurd e ha.1
     |some y=>exact hw.lt e
    rcases hm with rfl|rfl<;>exact this⟩,
  λft=>by simp[-TA,VI],h⟩
def _root_.Go.Obj.ve:Obj->Bool
 |.cells .. =>true
 |_=>false
theorem ov{r:Nat}{x:Obj}{k:Obj->Sem α}(ho:V.own r=some x)(hx:x.ve=false)(hc:x.isChan=false)(kH:V.role.chan≠some r)(h:aO P V (k x) K Kp):aO P V (.getObj r k) K Kp:=
 .cont λw hw=>⟨#[⟨.obj r,false,false⟩],w,V,k x,by
  rw[tY (by simp)];exact⟨hw,rfl,rfl,rfl,SR _,λ_ _ _=>rfl,λ_ _ e=>e,λ_ _ _ e=>e,λ_ _ _ e=> .inl e,λev cC=>by simp at cC;subst cC;exact⟨⟨rfl,.inr (by rw[ho];simp)⟩,kH⟩,by rw[PD],rfl,λ_ _ _ e=>e,λev cC=>by simp at cC;subst cC;exact hw.lt ho⟩,
  λft=>by
   have:=hw.own _ _ ho;cases x<;>simp_all[-TA,VI,Obj.ve,ah_],h⟩
theorem Sat.ar6{V:View}{w:To}(h:Sat V w){r:Nat}{x y:Obj}(ho:V.own r=some x)(hx:x.ve=false):Sat (V.upd r y) {w with heap:=w.heap.setIfInBounds r y}:=by
 have hlt:=h.lt ho;refine⟨λb o v e=> ?_,λb z e=> ?_⟩
 ·have:=h.ab _ _ _ e;have hb:r≠b:=by
   intro e';subst e';simp only[Uy,h.own _ _ ho]at this;cases x<;>simp_all[Obj.ve]
  simp only[Uy,SW hb]at this⊢;exact this
 ·simp only[View.upd]at e;by_cases hb:b=r
  ·subst hb;simp at e;simp[hlt,e]
  ·simp only[hb,if_false]at e;simp only[SW (Ne.symm hb)];exact h.own _ _ e
theorem yU{r:Nat}{x y:Obj}{k:Sem α}(ho:V.own r=some x)(hx:x.ve=false)(hy:y.isChan=false)(kH:V.role.chan≠some r)(h:aO P (V.upd r y) k K Kp):aO P V (.setObj r y k) K Kp:=
 .cont λw hw=>⟨#[⟨.obj r,true,false⟩],{w with heap:=w.heap.setIfInBounds r y},_,k,by
  rw[tY (by simp)];refine⟨hw.ar6 ho hx,rfl,rfl,rfl,by simp,λb hb e=> ?_,λb hb e=> ?_,λ_ _ _ e=>e,λ_ _ _ e=> .inl e,λev cC=>by simp at cC;subst cC;exact⟨⟨rfl,.inr (by rw[ho];simp)⟩,kH⟩,by rw[PD];rfl,rfl,λc' x bi e=>by rw[<- e];simp only[View.upd,ite_eq_right_iff];intro x';subst x';exact absurd bi kH,λev cC=>by simp at cC;subst cC;show r<_;simp;exact hw.lt ho⟩
  ·exact SW (λx'=>by subst x';rw[ho]at e;cases e)
  ·have:b≠r:=(by intro x';subst x';rw[ho]at e;cases e);simp only[View.upd,this,if_false];exact e,
  λft=>by
   have:=hw.own _ _ ho;cases x<;>simp_all[-TA,VI,Obj.ve,ah_],h⟩
theorem ap9{s:Sem α}{f:α->Sem β}{K:β->View->Prop}(h:aO P V s (λx V'=>aO P V' (f x) K Kp) Kp):aO P V (s.bind f) K Kp:=by
 intro w hw ft;obtain⟨es,w',V',h1,h2⟩:=h w hw ft;have key:(s.bind f).runT P w ft=match s.runT P w ft with
   |(.ok x w',e)=>(f x).runT P w' e
   |(.halt h w',e)=>(.halt h w',e):=by
  have hr:=Sem.run_bind' P s f w;have he:=Sem.events_bind' P s f w ft;rw[TA,TA];have yn:(s.bind f).run P w=_:=hr;have kG:(s.bind f).events P w ft=_:=he;rw[yn,kG];cases s.run P w<;>simp[Result.andThen,Result.evThen]
 rcases h2 with⟨x,hx,hK⟩|⟨v,hv,hKp⟩
 ·obtain⟨uC,N9,aT,h3,h4⟩:=hK w' h1.sat (ft++es);refine⟨es++uC,N9,aT,by rw[MT];exact h1.trans h3,?_⟩;rw[key,hx,<- Xp];exact h4
 ·refine⟨es,w',V',h1,.inr ⟨v,?_,hKp⟩⟩;rw[key,hv]
theorem az{s:Sem α}{f:α->Sem β}{K:β->View->Prop}(h:aO P V s (λx V'=>aO P V' (f x) K Kp) Kp):aO P V (s>>=f) K Kp:=ap9 h
end
open Go.Conc
def zi (e:Ur):Prop:=∀m,e.loc=.mark m->(m=.disable\/m=.enable)->e.sync=true
theorem ny.JN{V:View}{n:Nat}{e:Ur}(h:ny V n e):zi e:=by
 intro m hm hd;obtain⟨l,wr,s⟩:=e;simp only at hm;subst hm;rcases hd with rfl|rfl
 ·simpa[ny]using h
 ·simpa[ny]using h
theorem agH(d:Nat)(x:Array Ur)(e:Ur):deafBehind d (x.push e)=deafBehind (deafBehind d x) #[e]:=by
 simp[deafBehind]
theorem agI{d:Nat}{e:Ur}(hg:zi e)(hs:e.sync=false):deafBehind d #[e]=d:=by
 obtain⟨l,wr,s⟩:=e;cases l with
 |mark m=>
  cases m<;>first
   |(have:=hg _ rfl (.inl rfl);simp_all)
   |(have:=hg _ rfl (.inr rfl);simp_all)
   |simp[deafBehind]
 |_=>simp[deafBehind]
theorem ap7(P:SJ)(fn:TO)(es:Array Ur)(hg:∀e∈gh es,zi e)(d:Nat):(∀e∈seen P fn es,e∈gh es)/\deafBehind d (seen P fn es)=deafBehind d (gh es):=by
 rw[seen_def];obtain⟨l⟩:=es;have key:∀(l:List Ur)(q:Bool)(kept ref:Array Ur),(∀e∈gh l.toArray,zi e)->(∀e∈kept,e∈ref)->deafBehind d kept=deafBehind d ref->
   (∀e∈(l.foldl (seenStep λf=>(P.funcs[f]?).any (·.norace)) (q,kept)).2,e∈ref++gh l.toArray)/\
   deafBehind d (l.foldl (seenStep λf=>(P.funcs[f]?).any (·.norace)) (q,kept)).2=deafBehind d (ref++gh l.toArray):=by
  intro l;induction l with
  |nil=>intro q kept ref _ h1 h2;simpa[gh]using⟨h1,h2⟩
  |cons e l ih=>
   intro q kept ref hg h1 h2;rw[UX];by_cases hx:∃f,e.loc=.mark (.extern f)
   ·obtain⟨f,hf⟩:=hx;have e1:gh (e::l).toArray=gh l.toArray:=(by simp[gh,hf]);rw[e1]at hg⊢;have e3:seenStep (λf=>(P.funcs[f]?).any (·.norace)) (q,kept) e=((P.funcs[f]?).any (·.norace),kept):=(by simp[seenStep,hf]);rw[e3];exact ih _ kept ref hg h1 h2
   ·have aG:∀f,e.loc≠ .mark (.extern f):=λf hf=>hx ⟨f,hf⟩;have e1:gh (e::l).toArray=#[e]++gh l.toArray:=by
     have:(e::l).toArray=#[e]++l.toArray:=(by simp);rw[this,MT,tY aG]
    have uP:zi e:=hg e (by rw[e1];simp);have kX:∀x∈gh l.toArray,zi x:=λx hx=>hg x (by rw[e1];exact Ut.2 (.inr hx));have e2:seenStep (λf=>(P.funcs[f]?).any (·.norace)) (q,kept) e=(q,if q&& !e.sync then kept else kept.push e):=by
     unfold seenStep;dsimp only;split
     ·rename_i f hf;exact absurd hf (aG f)
     ·rfl
    rw[e1,<- Xp];rw[e2];refine ih q _ (ref++#[e]) kX (λx hx=> ?_) ?_
    ·split at hx
     ·exact Ut.2 (.inl (h1 x hx))
     ·rcases Array.mem_push.1 hx with hx|rfl
      ·exact Ut.2 (.inl (h1 x hx))
      ·exact Ut.2 (.inr (by simp))
    ·split
     ·rename_i hq;simp only[Ti,TZ]at hq;rw[IW,agI uP hq.2,h2]
     ·rw[IW,agH,h2]
 have:=key l ((P.funcs[fn]?).any (·.norace)) #[] #[] hg (by simp) rfl;simpa only[Xo]using this
theorem dq.seen{V V':View}{w w':To}{es:Array Ur}(h:dq V w V' w' (gh es))(P:SJ)(fn:TO):dq V w V' w' (seen P fn es):=by
 have:=ap7 P fn es (λe he=>(h.fD e he).JN) V.deaf;exact⟨h.sat,h.tape,h.os,h.output,h.size,h.frame,h.own,h.ab,h.ld,λe he=>h.fD e (this.1 e he),by rw[h.deaf,this.2],h.role,h.chan,λe he=>h.low e (this.1 e he)⟩
open Go.Conc
inductive Out where
 |ret (v:SQ)
 |panic (chain:List ZQ)
def Leaves (P:SJ)(fr:Uc)(f:TO)(kd:Xa)(o:Out)(V:View):Prop:=
 fr.fn=f/\fr.defers=[]/\fr.kind=kd/\∃fn,P.funcs[f]?=some fn/\
  match o with
  |.ret v=>fr.mode=.returning/\aO P V (results fn fr.tmps) (λx V'=>x=v/\V'=V) (λ_ _=>False)
  |.panic ch=>fr.mode=.panicking ch
def Body (lv:Bool)(P:SJ)(f:TO)(args:Array SQ)(kd:Xa)(V:View)(R:Out->View->Prop):Prop:=
 ∀(main:Bool)(J:View->SG->Prop),Closed lv P main J->∀cs,(∀o V' fr,R o V'->Leaves P fr f kd o V'->J V' (G fr cs))->J V (G (Frame.enter P f args kd) cs)
def nB (lv:Bool)(P:SJ)(fr:Uc)(V:View)(R:Out->View->Prop):Prop:=
 ∀(main:Bool)(J:View->SG->Prop),Closed lv P main J->∀c cs,(∀v V',R (.ret v) V'->J V' (G (c.finish v) cs))->(∀ch V',R (.panic ch) V'->J V' (G (c.raise ch) cs))->J V (G fr (c::cs))
theorem Body.mono{lv:Bool}{P:SJ}{f:TO}{args:Array SQ}{kd:Xa}{V:View}{R R':Out->View->Prop}(h:Body lv P f args kd V R)(hr:∀o V,R o V->R' o V):Body lv P f args kd V R':=
 λmain J C cs hk=>h main J C cs λo V' fr r hl=>hk o V' fr (hr _ _ r) hl
theorem Body.ghost{lv:Bool}{P:SJ}{f:TO}{args:Array SQ}{kd:Xa}{V V':View}{R:Out->View->Prop}(g:ej V V')(h:Body lv P f args kd V' R):Body lv P f args kd V R:=
 λmain J C cs hk=>C.ghost _ _ _ g (h main J C cs hk)
theorem nB.mono{lv:Bool}{P:SJ}{fr:Uc}{V:View}{R R':Out->View->Prop}(h:nB lv P fr V R)(hr:∀o V,R o V->R' o V):nB lv P fr V R':=
 λmain J C c cs h1 h2=>h main J C c cs (λv V' r=>h1 v V' (hr _ _ r)) (λv V' r=>h2 v V' (hr _ _ r))
theorem nB.ghost{lv:Bool}{P:SJ}{fr:Uc}{V V':View}{R:Out->View->Prop}(g:ej V V')(h:nB lv P fr V' R):nB lv P fr V R:=
 λmain J C c cs h1 h2=>C.ghost _ _ _ g (h main J C c cs h1 h2)
theorem aO.runs{P:SJ}{α:Type}{V:View}{s:Sem α}{K:α->View->Prop}{Kp:SQ->View->Prop}(h:aO P V s K Kp){w:To}(hw:Sat V w):
  ∃es w' V',dq V w V' w' (gh es)/\s.events P w #[]=es/\((∃x,s.run P w=.ok x w'/\K x V')\/(∃v,s.run P w=.halt (.panic v) w'/\Kp v V')):=by
 obtain⟨es,w',V',h1,h2⟩:=h w hw #[];refine⟨es,w',V',h1,?_⟩;simp only[TA,UY,Xo]at h2;rcases h2 with⟨x,⟨a,b⟩,c⟩|⟨x,⟨a,b⟩,c⟩
 ·exact⟨b,.inl ⟨x,a,c⟩⟩
 ·exact⟨b,.inr ⟨x,a,c⟩⟩
theorem amG{lv:Bool}{P:SJ}{main:Bool}{J:View->SG->Prop}(C:Closed lv P main J){fr c:Uc}{cs:List Uc}{f:TO}{v:SQ}{V:View}(h:Leaves P fr f .normal (.ret v) V)(hJ:J V (G (c.finish v) cs)):J V (G fr (c::cs)):=by
 obtain⟨rfl,hd,hk,fn,hf,hm,hr⟩:=h;refine C.step _ _ rfl λw hw=> ?_;obtain⟨es,w',V',h1,h2,h3⟩:=hr.runs hw;rcases h3 with⟨x,h3,rfl,rfl⟩|⟨_,_,h⟩
 ·exact⟨G (c.finish x) cs,w',seen P fr.fn es,V',by simp[G,stepG,unwind,doReturn,hm,hd,hk,hf,h3,h2,T5],h1.seen P fr.fn,hJ⟩
 ·exact h.elim
theorem amF{lv:Bool}{P:SJ}{main:Bool}{J:View->SG->Prop}(C:Closed lv P main J){fr c:Uc}{cs:List Uc}{f:TO}{kd:Xa}{ch:List ZQ}{V:View}(h:Leaves P fr f kd (.panic ch) V)(hJ:J V (G (c.raise ch) cs)):J V (G fr (c::cs)):=by
 obtain⟨rfl,hd,hk,fn,hf,hm⟩:=h;refine C.idle rfl (λw=> ?_) hJ;simp[G,stepG,unwind,ZS,hm,hd,hf]
theorem Body.runs{lv:Bool}{P:SJ}{f:TO}{args:Array SQ}{V:View}{R:Out->View->Prop}(h:Body lv P f args .normal V R):nB lv P (Frame.enter P f args .normal) V R:=by
 intro main J C c cs h1 h2;refine h main J C (c::cs) λo V' fr r hl=> ?_;cases o with
 |ret v=>exact amG C hl (h1 v V' r)
 |panic ch=>exact amF C hl (h2 ch V' r)
def m9 (lv:Bool)(P:SJ)(r:Option Nat)(o:Tu)(a:Act)(next:Act->View->Prop)(Q:Ex->Act->View->Prop)(nx:Next)(V:View):Prop:=
 match nx with
 |.value v=>next (a.put o.dst v) V
 |.skip=>next (a.put o.dst undef) V
 |.defer d=>r=none/\next ({a with defers:=d::a.defers}.put o.dst undef) V
 |.enter f args=>Body lv P f args .normal V fun
   |.ret v,V'=>next (a.put o.dst v) V'
   |.panic ch,V'=>Q (.panic ch) a V'
 |.round l f tmps assign body=>nB lv P (W6 l f tmps assign body .normal) V fun
   |.ret v,V'=>next (a.put o.dst v) V'
   |.panic ch,V'=>Q (.panic ch) a V'
 |_=>False
def mL:Op->Bool
 |.defer _=>true
 |_=>false
def xo (lv:Bool)(P:SJ)(r:Option Nat)(o:Tu)(a:Act)(V:View)(next:Act->View->Prop)(Q:Ex->Act->View->Prop):Prop:=
 (r=none\/mL o.op=false)/\aO P V (execOp a.eval o) (m9 lv P r o a next Q) (λv V'=>Q (.panic [{v,recovered:=false}]) a V')
def vO (lv:Bool)(P:SJ)(o:Tu)(a:Act)(V:View)(next:Act->View->Prop):Prop:=match o.op with
 |.send ch x=>∃(c Wg:Nat)(sp:Spec)(S:List Spec)(B:Nat->Bool),a.eval ch=.chan (some c)/\V.role=.work c Wg (sp::S)/\V.deaf=0/\sp (a.eval x) V.ab (λb=>if B b then V.own b else none)/\
   next (a.put o.dst undef) {V with own:=λb=>if B b then none else V.own b,role:=.work c Wg S}
 |.go cl=>lv=true/\∃(x:Th)(f:TO)(fa ca:Array SQ),cl.callee=.value x/\a.eval x=.func (.func f) fa ca/\V.deaf=0/\
   ((∃(c Wg:Nat)(Ss:List (List Spec))(sp:Spec)(S:List Spec),V.role=.fork c Wg Ss/\V.own c=some (.chan 0 #[] false 0 0 false)/\V.own Wg=some (wgBlock P (((Ss.length+1:Nat):Int)* 4294967296) 0)/\Ss.length<4/\(∀o,V.ab Wg o=none)/\
    (∀J0,zd P false J0->J0 {ab:=V.ab,own:=λ_=>none,deaf:=0,role:=.work c Wg (sp::S)} (born P ⟨.fn (.func f) ca,fa++cl.args.map a.eval⟩))/\next (a.put o.dst undef) {V with role:=.fork c Wg (Ss++[sp::S])})\/
    (∃(c Wg:Nat)(Ss:List (List Spec)),V.role=.fork c Wg Ss/\c≠Wg/\V.own c=some (.chan 0 #[] false 0 0 false)/\V.own Wg=some (wgBlock P (((Ss.length:Nat):Int)* 4294967296) 0)/\(∀o,V.ab c o=none)/\(∀o,V.ab Wg o=none)/\
    H_ P V.ab c Wg (born P ⟨.fn (.func f) ca,fa++cl.args.map a.eval⟩)/\next (a.put o.dst undef) {V with own:=λb=>if b=c\/b=Wg then none else V.own b,role:=.recv c Wg Ss}))
 |.recv t ch true=>lv=true/\∃(c Wg:Nat)(Ss:List (List Spec))(d:ChanDir)(el:TypeId)(i:Wj)(z:SQ),a.eval ch=.chan (some c)/\P.underlying t=some (.chan d el)/\P.info? el=some i/\i.zero=some z/\V.role=.recv c Wg Ss/\V.deaf=0/\
   (∀(i:Nat)(sp:Spec)(S:List Spec)(v:SQ)(Im:cE)(Ow:Bz),Ss[i]?=some (sp::S)->sp v Im Ow->(∀b,V.own b≠none->Ow b=none)->(∀b o,V.own b≠none->Im b o≠none->V.ab b o≠none)->(∃w,Sat V w/\(∀b o x,Im b o=some x->w.cell? ⟨b,o,none⟩=some x)/\∀b x,Ow b=some x->w.heap[b]?=some x)->
    next (a.put o.dst (.tuple #[v,.bool true])) {V with ab:=λb o=>match V.ab b o with|some x=>some x|none=>Im b o,own:=λb=>match V.own b with|some x=>some x|none=>Ow b,role:=.recv c Wg (Ss.set i S)})/\
   ((∀S∈Ss,S=[])->next (a.put o.dst (.tuple #[z,.bool false])) {V with role:=.plain})
 |_=>False
theorem vO.mono{lv:Bool}{P:SJ}{o:Tu}{a:Act}{V:View}{N N':Act->View->Prop}(h:vO lv P o a V N)(hN:∀a V,N a V->N' a V):vO lv P o a V N':=by
 unfold vO at h⊢;split at h
 ·obtain⟨c,Wg,sp,S,B,h1,h2,h3,h4,h5⟩:=h;exact⟨c,Wg,sp,S,B,h1,h2,h3,h4,hN _ _ h5⟩
 ·obtain⟨tJ,x,f,fa,ca,h1,h2,h3,h4⟩:=h;refine⟨tJ,x,f,fa,ca,h1,h2,h3,h4.imp ?_ ?_⟩
  ·rintro⟨c,Wg,Ss,sp,S,q1,q2,q3,q4,q5,q6,q7⟩
   exact⟨c,Wg,Ss,sp,S,q1,q2,q3,q4,q5,q6,hN _ _ q7⟩
  ·rintro⟨c,Wg,Ss,q1,q2,q3,q4,q5,q6,q7,q8⟩
   exact⟨c,Wg,Ss,q1,q2,q3,q4,q5,q6,q7,hN _ _ q8⟩
 ·obtain⟨tJ,c,Wg,Ss,d,el,ti,z,h1,h2,h3,h4,h5,h6,h7,h8⟩:=h;exact⟨tJ,c,Wg,Ss,d,el,ti,z,h1,h2,h3,h4,h5,h6,λi sp S v Im Ow r1 r2 r3 r4 r5=>hN _ _ (h7 i sp S v Im Ow r1 r2 r3 r4 r5),λhS=>hN _ _ (h8 hS)⟩
 ·exact h
def By (lv:Bool)(P:SJ)(r:Option Nat)(o:Tu)(a:Act)(V:View)(next:Act->View->Prop)(Q:Ex->Act->View->Prop):Prop:=xo lv P r o a V next Q\/vO lv P o a V next
def dz (lv:Bool)(P:SJ)(r:Option Nat)(ops:Array Tu)(Q:Ex->Act->View->Prop):List Nat->Act->View->Prop
 |[],a,V=>Q .normal a V
 |i::rest,a,V=>
  match ops[i]?with
  |none=>dz lv P r ops Q rest a V
  |some o=>if Tg o (yielded ops a.tmps)then By lv P r o a V (dz lv P r ops Q rest) Q else dz lv P r ops Q rest (a.put o.dst undef) V
theorem AM(b:Uc)(a:Act)(ops:Array Tu)(i:Nat)(rest:List Nat)(k:List WR)(v:SQ):
  (on b a (.inRegion ops (i::rest)::k)).finish v=on b (a.put ((ops[i]?).bind (·.dst)) v) (.inRegion ops rest::k):=by
 cases h:(ops[i]?).bind (·.dst)<;>simp[Frame.finish,on,XZ,h]
theorem ack{P:SJ}{main:Bool}{b:Uc}{a:Act}{k:List WR}{cs:List Uc}{w:To}{ops:Array Tu}{i:Nat}{rest:List Nat}(h:((ops[i]?).map (Tg · (yielded ops a.tmps))).getD false=false):
  stepG P main (G (on b a (.inRegion ops (i::rest)::k)) cs) w=.go (G (on b (a.put ((ops[i]?).bind (·.dst)) undef) (.inRegion ops rest::k)) cs) w #[]:=by
 rw[<- AM];simp only[on]at*;simp[G,stepG,Ug,h]
theorem s_op{P:SJ}{main:Bool}{b:Uc}{a:Act}{k:List WR}{cs:List Uc}{w:To}{ops:Array Tu}{i:Nat}{rest:List Nat}{o:Tu}(ho:ops[i]?=some o)(hw:Tg o (yielded ops a.tmps)=true)(hd:b.roundOf=none\/mL o.op=false):
  stepG P main (G (on b a (.inRegion ops (i::rest)::k)) cs) w=stepG.apply P true (on b a (.inRegion ops (i::rest)::k)) cs none (execOp a.eval o) w:=by
 have he:=anW b a (.inRegion ops (i::rest)::k);simp only[on]at he;rcases hd with hd|hd
 ·rw[hd]at he;simp[G,stepG,Ug,Y2,YI,on,ho,hw,he,hd]
 ·cases hr:b.roundOf with
  |none=>
   rw[hr]at he;simp[G,stepG,Ug,Y2,YI,on,ho,hw,he,hr]
  |some l=>cases ay:o.op<;>simp_all[G,stepG,Ug,Y2,YI,on,mL]
theorem aqE{lv:Bool}{P:SJ}{main:Bool}{J:View->SG->Prop}(C:Closed lv P main J){ops:Array Tu}{i:Nat}{rest:List Nat}{o:Tu}{a:Act}{V:View}{N:Act->View->Prop}{b:Uc}{k:List WR}{cs:List Uc}(hb:b.kind≠ .early)
  (ho:ops[i]?=some o) (hw:Tg o (yielded ops a.tmps)=true) (h:vO lv P o a V N) (hN:∀a' V',N a' V'->J V' (G (on b a' (.inRegion ops rest::k)) cs)):J V (G (on b a (.inRegion ops (i::rest)::k)) cs):=by
 have ki:((on b a (.inRegion ops (i::rest)::k)).kind==U3)=false:=by simpa[on]using hb
 have eB:∀v,(on b a (.inRegion ops (i::rest)::k)).finish v=on b (a.put o.dst v) (.inRegion ops rest::k):=by
  intro v;rw[AM,ho];rfl
 have LC:∀v,T6 (G (on b a (.inRegion ops (i::rest)::k)) cs) v=G (on b (a.put o.dst v) (.inRegion ops rest::k)) cs:=λv=>by rw[<- eB v];rfl
 unfold vO at h;split at h
 ·rename_i ch x ay;obtain⟨c,Wg,sp,S,B,h1,h2,h3,h4,h5⟩:=h;have aR:∀w,stepG P main (G (on b a (.inRegion ops (i::rest)::k)) cs) w=.comm (G (on b a (.inRegion ops (i::rest)::k)) cs) #[scase c (a.eval x) (.tuple #[])] true .send w #[]:=λw=>by
   rw[s_op ho hw (.inr (by rw[ay];rfl))];have e:execOp a.eval o=pure (.comm #[scase c (a.eval x) (.tuple #[])] true .send):=by
    unfold execOp;simp only[ay];rw[h1];rfl
   rw[e];simp only[stepG.apply,TA,if_true,ki,T5,Z6,ZG,Z9];rfl
  exact C.send _ _ c Wg sp S (a.eval x) (.tuple #[]) B h2 h3 rfl rfl (λw _=>aR w) h4 (by rw[LC];exact hN _ _ h5)
 ·rename_i cl ay;obtain⟨tJ,x,f,fa,ca,h1,h2,h3,h4⟩:=h;have aR:∀w,stepG P main (G (on b a (.inRegion ops (i::rest)::k)) cs) w=.spawn (G (on b (a.put o.dst undef) (.inRegion ops rest::k)) cs) (born P ⟨.fn (.func f) ca,fa++cl.args.map a.eval⟩) w #[]:=λw=>by
   rw[s_op ho hw (.inr (by rw[ay];rfl)),<- eB undef];have e:execOp a.eval o=(pure (.spawn ⟨.fn (.func f) ca,fa++cl.args.map a.eval⟩):Sem Next):=by
    unfold execOp;simp only[ay];unfold resolve;simp only[h1,h2];rfl
   rw[e];simp only[stepG.apply,TA,if_true,ki,T5,Z6,ZG,Z9];simp[born,G,on];exact Z9 _ _
  rcases h4 with⟨c,Wg,Ss,sp,S,q1,q2,q3,q4,q5,q6,q7⟩|⟨c,Wg,Ss,q1,q2,q3,q4,q5,q6,q7,q8⟩
  ·exact(C.more tJ).Fp _ _ _ _ c Wg Ss sp S q1 h3 rfl q2 q3 q4 q5 (λw _=>aR w) rfl q6 (hN _ _ q7)
  ·exact(C.more tJ).Fo _ _ _ _ c Wg Ss q1 h3 rfl q2 q3 q4 q5 q6 (λw _=>aR w) rfl q7 (hN _ _ q8)
 ·rename_i t ch ay;obtain⟨tJ,c,Wg,Ss,d,el,ti,z,h1,h2,h3,h4,h5,h6,h7,h8⟩:=h;have aR:∀w,stepG P main (G (on b a (.inRegion ops (i::rest)::k)) cs) w=.comm (G (on b a (.inRegion ops (i::rest)::k)) cs) #[rcase c z] true (.recv true) w #[]:=λw=>by
   rw[s_op ho hw (.inr (by rw[ay];rfl))];have hu:(underlying t).run P w=.ok (.chan d el) w:=run_underlying h2 w;have hi:(typeInfo el).run P w=.ok ti w:=(by simp[typeInfo,h3]);have hz:(zeroValue el).run P w=.ok z w:=(by simp[zeroValue,hi,h4]);have vb:(zeroValue el).events P w #[]=#[]:=(by simp[zeroValue,hi,h4]);have e1:(execOp a.eval o).run P w=.ok (.comm #[rcase c z] true (.recv true)) w:=by
    unfold execOp;simp only[ay];rw[h1];simp[hu,hz,rcase]
   have e2:(execOp a.eval o).events P w #[]=#[]:=by
    unfold execOp;simp only[ay];rw[h1];simp[hu,hz,vb]
   simp only[stepG.apply,TA,if_true,ki,T5,e1,e2,Z9];rfl
  refine(C.more tJ).recv _ _ c Wg Ss z h5 h6 rfl rfl (λw _=>aR w) (λi sp S v Im Ow r1 r2 r3 r4 r5=> ?_) λhS=> ?_
  ·rw[LC];exact hN _ _ (h7 i sp S v Im Ow r1 r2 r3 r4 r5)
  ·rw[LC];exact hN _ _ (h8 hS)
 ·exact h.elim
theorem wp_ops{lv:Bool}{P:SJ}{r:Option Nat}{ops:Array Tu}{Q:Ex->Act->View->Prop}(l:List Nat):
  ∀(a:Act)(V:View),dz lv P r ops Q l a V->∀(main:Bool)(J:View->SG->Prop),Closed lv P main J->∀(b:Uc)(k:List WR)(cs:List Uc),b.kind≠ .early->b.roundOf=r->
   (∀e a' V',Q e a' V'->vL J b k cs e a' V')->J V (G (on b a (.inRegion ops l::k)) cs):=by
 induction l with
 |nil=>exactλa V h main J C b k cs _ _ hL=>C.idle rfl (λ_=>apZ) (hL _ _ _ h)
 |cons i rest ih=>
  intro a V h main J C b k cs hb hr hL;simp only[dz]at h;cases ho:ops[i]?with
  |none=>
   simp only[ho]at h;refine C.idle rfl (λw=>ack (by simp[ho])) ?_;simp only[ho,Option.bind_none,XZ];exact ih a V h main J C b k cs hb hr hL
  |some o=>
   simp only[ho]at h;by_cases hw:Tg o (yielded ops a.tmps)=true
   ·simp only[hw,if_true]at h;rcases h with h|h
    rotate_left
    ·exact aqE C hb ho hw h λa' V' h'=>ih a' V' h' main J C b k cs hb hr hL
    obtain⟨bC,ay⟩:=h;have akc:b.roundOf=none\/mL o.op=false:=hr▸bC;have eB:∀v,(on b a (.inRegion ops (i::rest)::k)).finish v=on b (a.put o.dst v) (.inRegion ops rest::k):=by
     intro v;rw[AM,ho];rfl
    have ki:((on b a (.inRegion ops (i::rest)::k)).kind==U3)=false:=(by simpa[on]using hb);refine C.step _ _ rfl λw fN=> ?_;obtain⟨es,w',V',h1,h2,h3⟩:=ay.runs fN;rw[s_op ho hw akc];rcases h3 with⟨nx,h3,hU⟩|⟨v,h3,hU⟩
    ·cases nx with
     |value v=>exact⟨_,w',seen P b.fn es,V',by rw[<- eB v];simp only[stepG.apply,TA,if_true,h3,h2,ki,T5];rfl,h1.seen P _,ih _ _ hU main J C b k cs hb hr hL⟩
     |skip=>exact⟨_,w',seen P b.fn es,V',by rw[<- eB undef];simp only[stepG.apply,TA,if_true,h3,h2,ki,T5];rfl,h1.seen P _,ih _ _ hU main J C b k cs hb hr hL⟩
     | «defer» d =>
      obtain⟨Aw,hU⟩:=hU;have jd:({on b a (.inRegion ops (i::rest)::k)with defers:=d::a.defers}:Uc).finish undef=on b ({a with defers:=d::a.defers}.put o.dst undef) (.inRegion ops rest::k):=by
       have:=AM b {a with defers:=d::a.defers} ops i rest k undef;rw[ho]at this;exact this
      exact⟨_,w',seen P b.fn es,V',by
       rw[<- jd];simp only[stepG.apply,TA,if_true,h3,h2,ki,T5];rfl,h1.seen P _,ih _ _ hU main J C b k cs hb hr hL⟩
     |enter f args=>
      refine⟨G (Frame.enter P f args .normal) (on b a (.inRegion ops (i::rest)::k)::cs),w',seen P b.fn es,V',by simp only[stepG.apply,TA,if_true,h3,h2,ki,T5];rfl,h1.seen P _,?_⟩;refine Body.runs hU main J C _ cs (λv aT hR=> ?_) (λch aT hR=> ?_)
      ·rw[eB];exact ih _ _ hR main J C b k cs hb hr hL
      ·exact hL _ _ _ hR _ rfl
     |round l f tmps assign body=>
      refine⟨G (W6 l f tmps assign body .normal) (on b a (.inRegion ops (i::rest)::k)::cs),w',seen P b.fn es,V',by simp only[stepG.apply,TA,if_true,h3,h2,ki,T5];rfl,h1.seen P _,?_⟩;refine hU main J C _ cs (λv aT hR=> ?_) (λch aT hR=> ?_)
      ·rw[eB];exact ih _ _ hR main J C b k cs hb hr hL
      ·exact hL _ _ _ hR _ rfl
     |_=>exact hU.elim
    ·refine⟨G ((on b a (.inRegion ops (i::rest)::k)).raise [{v,recovered:=false}]) cs,w',seen P b.fn es,V',by simp only[stepG.apply,TA,if_true,h3,h2,ki,T5];rfl,h1.seen P _,hL _ _ _ hU _ rfl⟩
   ·have lL:Tg o (yielded ops a.tmps)=false:=(by simpa using hw);simp only[lL,if_false,TM]at h;refine C.idle rfl (λw=>ack (by simp[ho,lL])) ?_;simp only[ho,Option.bind_some];exact ih _ _ h main J C b k cs hb hr hL
theorem wp_region{lv:Bool}{P:SJ}{r:Option Nat}{id:Nat}{ops:Array Tu}{Q:Ex->Act->View->Prop}{a:Act}{V:View}(h:dz lv P r ops Q (SZ ops.size) a V):WP lv P r (.region id ops false) Q a V:=
 λmain J C b k cs hb hr hL=>C.idle rfl (λ_=>acl) (wp_ops _ a V h main J C b k cs hb hr hL)
theorem Oe{lv:Bool}{P:SJ}{r:Option Nat}{id:Nat}{ops:Array Tu}{Q:Ex->Act->View->Prop}{a:Act}{V:View}(h:∀t,dz lv P r ops Q (VN (P.follows .mixedOrders) ops t) a V):WP lv P r (.region id ops true) Q a V:=
 λmain J C b k cs hb hr hL=>C.step _ _ rfl λw hw=>⟨_,_,#[],V,apP,.draw hw _,wp_ops _ a V (h _) main J C b k cs hb hr hL⟩
def Ends (P:SJ)(fn:Yz)(R:Out->View->Prop):Ex->Act->View->Prop
 |.normal,a,V|.ret,a,V=>a.defers=[]/\∃v,aO P V (results fn a.tmps) (λx V'=>x=v/\V'=V) (λ_ _=>False)/\R (.ret v) V
 |.panic ch,a,V=>a.defers=[]/\R (.panic ch) V
 |_,_,_=>False
theorem Pk{lv:Bool}{P:SJ}{f:TO}{fn:Yz}{c:Ua}{args:Array SQ}{kd:Xa}{V:View}{R:Out->View->Prop}(hk:kd≠ .early)(hf:P.funcs[f]?=some fn)(hb:fn.body=some c)
  (h:WP lv P none c (Ends P fn R) {tmps:=args++TK (fn.ntmps-args.size) undef,defers:=[]} V):Body lv P f args kd V R:=by
 intro main J C cs hR;let b:Uc:={(default:Uc)with fn:=f,kind:=kd,roundOf:=none};have uO:Frame.enter P f args kd=on b {tmps:=args++TK (fn.ntmps-args.size) undef,defers:=[]} [.code c]:=by
  simp[Frame.enter,on,hf,hb,b]
 rw[uO];refine h main J C b [] cs hk rfl λe a' V' q=> ?_;cases e with
 |normal=>
  obtain⟨hd,v,hs,hr⟩:=q;exact C.idle rfl (λw=>DR rfl) (hR _ _ _ hr ⟨rfl,hd,rfl,fn,hf,rfl,hs⟩)
 |ret=>
  obtain⟨hd,v,hs,hr⟩:=q;intro k;exact C.idle rfl (λw=>DT rfl) (hR _ _ _ hr ⟨rfl,hd,rfl,fn,hf,rfl,hs⟩)
 |panic ch=>
  obtain⟨hd,hr⟩:=q;intro todo _;exact hR _ _ _ hr ⟨rfl,hd,rfl,fn,hf,rfl⟩
 |exit id=>exact q.elim
 |goto l=>exact q.elim
open Go.Conc
inductive End where
 |exact
 |shut
 |opn (k:Nat)
 deriving DecidableEq
inductive AV where
 |val (x:SQ)
 |agg (l:List AV)
 |aM (l:List AV)
 |sl (n:Nat) (l:List AV) (e:End)
 |bp (id off n cap:Nat)
 |rp (l:List AV)
 |op (id off:Nat)
 |fn (f:Fn) (first c9:List AV)
 |dh (t:TypeId) (x:AV)
 |mp (id:Nat)
structure Env where
 I:cE
 n:Nat
 blk:Nat->Nat
 room:Nat->Nat->Option U1×Nat
 fQ:Nat->Nat
 fr:Nat->Option Obj
 main:Bool
structure Env.Le (E E':Env):Prop where
 I:∀b o v,E.I b o=some v->E'.I b o=some v
 n:E.n<=E'.n
 blk:∀k,k<E.n->E'.blk k=E.blk k
 fQ:∀k,k<E.n->E.fQ k<=E'.fQ k
 room:∀k v,k<E.n->v<=E.fQ k->E'.room k v=E.room k v
 fr:E'.fr=E.fr
 main:E'.main=E.main
theorem Env.Le.refl(E:Env):E.Le E:=⟨λ_ _ _ h=>h,SR _,λ_ _=>rfl,λ_ _=>SR _,λ_ _ _ _=>rfl,rfl,rfl⟩
theorem Env.Le.trans{E E' bW:Env}(h:E.Le E')(k:E'.Le bW):E.Le bW:=
 ⟨λb o v e=>k.I b o v (h.I b o v e),UL h.n k.n,λi hi=>(k.blk i (Tc hi h.n)).trans (h.blk i hi),λi hi=>UL (h.fQ i hi) (k.fQ i (Tc hi h.n)),
  λi v hi hv=>(k.room i v (Tc hi h.n) (UL hv (h.fQ i hi))).trans (h.room i v hi hv),k.fr.trans h.fr,k.main.trans h.main⟩
def qg (E:Env)(e:End)(a:Option U1)(n cap:Nat):Prop:=match e with
 |.exact=>cap=n
 |.shut=>True
 |.opn k=>k<E.n/\n<=E.fQ k/\E.room k n=(a,cap)
inductive ap (E:Env):AV->SQ->Prop
 |val (x:SQ):ap E (.val x) x
 |agg {l:List AV} {cs:Array SQ} (hs:cs.size=l.length) (h:∀(i:Nat) a,l[i]?=some a->ap E a (cs.getD i undef)):ap E (.agg l) (.agg cs)
 |aM {l:List AV} {cs:Array SQ} (hs:cs.size=l.length) (h:∀(i:Nat) a,l[i]?=some a->ap E a (cs.getD i undef)):ap E (.aM l) (.tuple cs)
 |sl {n:Nat} {l:List AV} {e:End} (b o cap:Nat) (f:Nat->SQ) (hc:n<=cap) (he:qg E e (some ⟨b,o,none⟩) n cap)
   (h1:∀i,i<l.length->E.I b (o+i)=some (f i)) (h2:∀(i:Nat) x,l[i]?=some x->ap E x (f i)):ap E (.sl n l e) (.slice (some ⟨b,o,none⟩) n cap)
 |nil {e:End} {a:Option U1} (he:qg E e a 0 0):ap E (.sl 0 [] e) (.slice a 0 0)
 |bp {id off n cap cap':Nat} (hi:id<E.n) (ec:n<=cap'/\(n<=cap->cap=cap')/\(cap<n->cap'<=(E.room id 0).2)):ap E (.bp id off n cap) (.slice (some ⟨E.blk id,off,none⟩) n cap')
 |rp {l:List AV} (b o:Nat) (f:Nat->SQ) (h1:∀i,i<l.length->E.I b (o+i)=some (f i)) (h2:∀(i:Nat) x,l[i]?=some x->ap E x (f i)):ap E (.rp l) (.pointer (some ⟨b,o,none⟩))
 |op {id off:Nat} (hi:id<E.n):ap E (.op id off) (.pointer (some ⟨E.blk id,off,none⟩))
 |fn {f:Fn} {first c9:List AV} {fa ca:Array SQ} (dN:fa.size=first.length) (gB:ca.size=c9.length) (h1:∀(i:Nat) a,first[i]?=some a->ap E a (fa.getD i undef)) (h2:∀(i:Nat) a,c9[i]?=some a->ap E a (ca.getD i undef)):ap E (.fn f first c9) (.func f fa ca)
 |dh {t:TypeId} {x:AV} {v:SQ} (h:ap E x v):ap E (.dh t x) (.iface t v)
 |mp {id:Nat} (hi:id<E.n):ap E (.mp id) (.map (some (E.blk id)))
theorem qg.mono{E E':Env}(h:E.Le E'){e:End}{a:Option U1}{n cap:Nat}(k:qg E e a n cap):qg E' e a n cap:=by
 cases e with
 |exact=>exact k
 |shut=>trivial
 |opn i=>exact⟨Tc k.1 h.n,UL k.2.1 (h.fQ i k.1),by rw[h.room i n k.1 k.2.1];exact k.2.2⟩
theorem ap.mono{E E':Env}(h:E.Le E'){a:AV}{v:SQ}(d:ap E a v):ap E' a v:=by
 induction d with
 |val x=>exact .val x
 |agg hs _ ih=>exact .agg hs ih
 |aM hs _ ih=>exact .aM hs ih
 |sl b o cap f hc he h1 _ ih=>exact .sl b o cap f hc (he.mono h) (λi hi=>h.I _ _ _ (h1 i hi)) ih
 |nil he=>exact .nil (he.mono h)
 |bp hi ec=>rw[<- h.blk _ hi];exact .bp (Tc hi h.n) ⟨ec.1,ec.2.1,λe=>by rw[h.room _ 0 hi (Xz _)];exact ec.2.2 e⟩
 |rp b o f h1 _ ih=>exact .rp b o f (λi hi=>h.I _ _ _ (h1 i hi)) ih
 |op hi=>rw[<- h.blk _ hi];exact .op (Tc hi h.n)
 |fn dN gB _ _ nj lM=>exact .fn dN gB nj lM
 |dh _ ih=>exact .dh ih
 |mp hi=>rw[<- h.blk _ hi];exact .mp (Tc hi h.n)
def AV.leaf:AV->Bool
 |.agg _|.aM _=>false
 |.val x=>x.one
 |_=>true
inductive aa where
 |cells (l:List AV) (elem:TypeId)
 |part (p:Nat) (l:List AV) (elem:TypeId)
 |own (sz:Nat) (l:List AV) (elem:TypeId)
 |tail (n sz:Nat) (elem:TypeId)
 |obj (x:Obj)
 |iter (m since:Nat) (seen:Array Nat) (ug:Nat)
 |loop (r:Nat) (st:Z7) (pend:Option Ua) (fn:TO) (T:List (Nat×AV)) (nt:Nat) (ps:Array Tmp) (bP body:Ua) (df:Nat)
 |gone
 |main
def look:List (Nat×AV)->Nat->Option AV
 |[],_=>none
 |(k,a)::l,t=>if k=t then some a else look l t
def cw (E:Env)(T:List (Nat×AV))(tmps:Array SQ):Prop:=∀t a,look T t=some a->t<tmps.size/\ap E a (tmps.getD t undef)
theorem cw.mono{E E':Env}(h:E.Le E'){T:List (Nat×AV)}{tmps:Array SQ}(k:cw E T tmps):cw E' T tmps:=λt a e=>⟨(k t a e).1,(k t a e).2.mono h⟩
theorem cw.put{E:Env}{T:List (Nat×AV)}{tmps:Array SQ}(k:cw E T tmps){d:Nat}(hd:d<tmps.size){a:AV}{v:SQ}(hv:ap E a v):cw E ((d,a)::T) (tmps.setIfInBounds d v):=by
 intro t x e;simp only[look]at e;by_cases h:d=t
 ·subst h;rw[if_pos rfl]at e;cases e;exact⟨by simpa using hd,by simpa[SH,S_ hd]using hv⟩
 ·rw[if_neg h]at e;have:=k t x e;exact⟨by simpa using this.1,by simpa[SH,SW h]using this.2⟩
def cP (E:Env)(l:List AV)(cs:Array SQ):Prop:=cs.size=l.length/\∀(i:Nat) a,l[i]?=some a->ap E a (cs.getD i undef)
theorem cP.mono{E E':Env}(h:E.Le E'){l:List AV}{cs:Array SQ}(d:cP E l cs):cP E' l cs:=⟨d.1,λi a e=>(d.2 i a e).mono h⟩
def ky (E:Env)(l:List AV)(cs:Array SQ):Prop:=l.length<=cs.size/\∀(i:Nat) a,l[i]?=some a->ap E a (cs.getD i undef)
theorem ky.mono{E E':Env}(h:E.Le E'){l:List AV}{cs:Array SQ}(d:ky E l cs):ky E' l cs:=⟨d.1,λi a e=>(d.2 i a e).mono h⟩
theorem cP.p{E:Env}{l:List AV}{cs:Array SQ}(d:cP E l cs):ky E l cs:=⟨WG d.1.symm,d.2⟩
def bQ (E:Env)(k:Nat):aa->Option Nat
 |.tail n _ _=>if(E.room k n).2=n then none else(E.room k n).1.map (·.block)
 |.gone|.main=>none
 |_=>some (E.blk k)
def gq (E:Env)(V:View)(k:Nat):aa->Prop
 |.cells l elem=>(∃cs,V.own (E.blk k)=some (.cells cs elem (0,0))/\cP E l cs)/\∀o,V.ab (E.blk k) o=none
 |.part p l elem=>(∃cs,V.own (E.blk k)=some (.cells cs elem (0,0))/\ky E l cs/\∀o,o<p->V.ab (E.blk k) o=cs[o]?)/\∀o,p<=o->V.ab (E.blk k) o=none
 |.own sz l elem=>(∃cs,V.own (E.blk k)=some (.cells cs elem (0,0))/\ky E l cs/\cs.size=(E.room k 0).2* sz)/\∀o,V.ab (E.blk k) o=none
 |.tail n sz elem=>E.fQ k=n/\((E.room k n).2=n\/∃b cap cs,E.room k n=(some ⟨b,0,none⟩,cap)/\V.own b=some (.cells cs elem (0,0))/\cs.size=cap* sz/\n<cap/\∀o,n* sz<=o->V.ab b o=none)
 |.obj x=>V.own (E.blk k)=some x/\x.ve=false/\x.isChan=false/\∀o,V.ab (E.blk k) o=none
 |.iter m since seen ug=>m<E.n/\V.own (E.blk k)=some (.mapIter (some (E.blk m)) since seen ug)/\∀o,V.ab (E.blk k) o=none
 |.loop r st pend fn T nt ps bP body df=>(∃tmps,V.own (E.blk k)=some (.loop {state:=st,pending:=pend,fn,tmps,params:=ps,assign:=bP,body,defers:=E.blk df})/\tmps.size=nt/\cw E T tmps)/\df<E.n/\(∀o,V.ab (E.blk k) o=none)/\E.blk k=r
 |.gone=>True
 |.main=>E.main=true
structure Conc (E:Env)(V:View)(H:List aa):Prop where
 I:E.I=V.ab
 n:E.n=H.length
 obj:∀k x,H[k]?=some x->gq E V k x
 inj:∀i j x y b,H[i]?=some x->H[j]?=some y->bQ E i x=some b->bQ E j y=some b->i=j
 group:∀g,V.role.group=some g->V.own g≠none/\(∀o,V.ab g o=none)/\∀(k:Nat) x,H[k]?=some x->bQ E k x≠some g
 chan:∀c,V.role.chan=some c->V.own c≠none/\(∀o,V.ab c o=none)/\∀(k:Nat) x,H[k]?=some x->bQ E k x≠some c
 top:E.main=true->V.role=.plain/\V.deaf=0
 fr:∀b y,E.fr b=some y->V.own b=some y/\(∀o,V.ab b o=none)/\∀(k:Nat) x,H[k]?=some x->bQ E k x≠some b
structure AS where
 T:List (Nat×AV)
 H:List aa
def AS.Le (s s':AS):Prop:=(∀t a,look s'.T t=some a->look s.T t=some a)/\s'.H=s.H
def AV.of:SQ->AV
 |.agg cs=> .agg (cs.toList.map λ|.slice none 0 0=> .sl 0 [] .exact|v=> .val v)
 |.slice none 0 0=> .sl 0 [] .exact
 |v=> .val v
def AV.p8:SQ->AV
 |.slice none 0 0=> .sl 0 [] .exact
 |v=> .val v
theorem I0(E:Env)(v:SQ):ap E (AV.p8 v) v:=by
 unfold AV.p8;split
 ·exact .nil rfl
 ·exact .val _
theorem td(E:Env)(v:SQ):ap E (AV.of v) v:=by
 unfold AV.of;split
 ·rename_i cs;refine .agg (by simp) λi a h=> ?_;rw[Tn]at h;obtain⟨x,hx,rfl⟩:=Tp.1 h;have:cs[i]?=some x:=by simpa using hx
  rw[SH,this];exact I0 E x
 ·exact .nil rfl
 ·exact .val _
def AS.ev (s:AS):Th->Option AV
 |.tmp t=>look s.T t
 |.const v=>some (AV.of v)
 |.func f=>some (.fn (.func f) [] [])
 |.global _=>none
theorem ap.ev{E:Env}{s:AS}{a:Act}(k:cw E s.T a.tmps){x:Th}{av:AV}(h:s.ev x=some av):ap E av (a.eval x):=by
 cases x with
 |tmp t=>exact(k t av h).2
 |const v=>cases h;exact td E v
 |func f=>cases h;exact .fn rfl rfl (by simp) (by simp)
 |global g=>cases h
theorem gq.BW{E:Env}{V:View}{k:Nat}{x:aa}(h:gq E V k x){b:Nat}(hb:bQ E k x=some b):∃y,V.own b=some y:=by
 cases x with
 |cells l el=>cases hb;obtain⟨⟨cs,h1,_⟩,_⟩:=h;exact⟨_,h1⟩
 |part p l el=>cases hb;obtain⟨⟨cs,h1,_⟩,_⟩:=h;exact⟨_,h1⟩
 |own p l el=>cases hb;obtain⟨⟨cs,h1,_⟩,_⟩:=h;exact⟨_,h1⟩
 |tail n sz el=>
  obtain⟨hv,h|⟨b',cap,cs,h1,h2,h3,h4,h5⟩⟩:=h
  ·simp only[bQ,h,if_true]at hb;cases hb
  ·simp only[bQ,h1]at hb;rw[if_neg (by omega)]at hb;cases hb;exact⟨_,h2⟩
 |obj x=>cases hb;exact⟨_,h.1⟩
 |iter m since seen ug=>cases hb;exact⟨_,h.2.1⟩
 |loop=>cases hb;obtain⟨⟨tmps,h1,_⟩,_⟩:=h;exact⟨_,h1⟩
 |gone=>cases hb
 |main=>cases hb
theorem Ph{E E':Env}(hl:E.Le E'){k:Nat}(hk:k<E.n){x:aa}{V:View}(h:gq E V k x):bQ E' k x=bQ E k x:=by
 cases x with
 |tail n sz el=>simp only[bQ];rw[hl.room k n hk (WG h.1.symm)]
 |gone=>rfl
 |main=>rfl
 |_=>simp only[bQ,hl.blk k hk]
theorem gq.mono{E E':Env}{V V':View}{k:Nat}{x:aa}(h:gq E V k x)(hl:E.Le E')(hk:k<E.n)(AC:E'.fQ k=E.fQ k)
  (ho:∀b y,bQ E k x=some b->V.own b=some y->V'.own b=some y) (hi:∀b,bQ E k x=some b->∀o,V'.ab b o=V.ab b o):gq E' V' k x:=by
 cases x with
 |cells l el=>
  obtain⟨⟨cs,h1,h2⟩,h3⟩:=h;simp only[gq,hl.blk k hk];exact⟨⟨cs,ho _ _ rfl h1,h2.mono hl⟩,λo=>(hi _ rfl o).trans (h3 o)⟩
 |part p l el=>
  obtain⟨⟨cs,h1,h2,h4⟩,h3⟩:=h;simp only[gq,hl.blk k hk];exact⟨⟨cs,ho _ _ rfl h1,h2.mono hl,λo hp=>(hi _ rfl o).trans (h4 o hp)⟩,λo hp=>(hi _ rfl o).trans (h3 o hp)⟩
 |own sz l el=>
  obtain⟨⟨cs,h1,h2,h4⟩,h3⟩:=h;simp only[gq,hl.blk k hk,hl.room k 0 hk (Xz _)];exact⟨⟨cs,ho _ _ rfl h1,h2.mono hl,h4⟩,λo=>(hi _ rfl o).trans (h3 o)⟩
 |tail n sz el=>
  obtain⟨hv,h⟩:=h;simp only[gq,AC,hl.room k n hk (WG hv.symm)];refine⟨hv,?_⟩;rcases h with h|⟨b',cap,cs,h1,h2,h3,h4,h5⟩
  ·exact .inl h
  ·have hb:bQ E k (.tail n sz el)=some b':=(by simp only[bQ,h1];rw[if_neg (by omega)];rfl);exact .inr ⟨b',cap,cs,h1,ho _ _ hb h2,h3,h4,λo hm=>(hi _ hb o).trans (h5 o hm)⟩
 |obj x=>
  obtain⟨h1,h2,h4,h3⟩:=h;simp only[gq,hl.blk k hk];exact⟨ho _ _ rfl h1,h2,h4,λo=>(hi _ rfl o).trans (h3 o)⟩
 |iter m since seen ug=>
  obtain⟨h0,h1,h2⟩:=h;simp only[gq,hl.blk k hk,hl.blk m h0];exact⟨Tc h0 hl.n,ho _ _ rfl h1,λo=>(hi _ rfl o).trans (h2 o)⟩
 |loop r st pend fn T nt ps bP body df=>
  obtain⟨⟨tmps,h1,h2,h3⟩,h4,h5,h6⟩:=h;simp only[gq,hl.blk k hk,hl.blk df h4];exact⟨⟨tmps,ho _ _ rfl h1,h2,h3.mono hl⟩,Tc h4 hl.n,λo=>(hi _ rfl o).trans (h5 o),h6⟩
 |gone=>trivial
 |main=>exact hl.main.trans h
theorem Conc.iW{E E':Env}{V V':View}{H H':List aa}(hc:Conc E V H)(k:Nat)(x':aa)(hle:E.Le E')(hI:E'.I=V'.ab)(hn:E'.n=H'.length)
  (hH:∀(j:Nat) y,H'[j]?=some y->(j=k/\y=x')\/(j≠k/\H[j]?=some y)) (hr:V'.role=V.role)
  (AC:∀j,j≠k->j<E.n->E'.fQ j=E.fQ j)
  (ho:∀b y,(∀x,H[k]?=some x->bQ E k x≠some b)->V.own b=some y->V'.own b=some y/\∀o,V'.ab b o=V.ab b o)
  (hx:gq E' V' k x') (hb:∀b,bQ E' k x'=some b->(∃x,H[k]?=some x/\bQ E k x=some b)\/V.own b=none) (bC:V'.deaf=V.deaf:=by rfl):Conc E' V' H':=by
 have hlt:∀(j:Nat) y,H[j]?=some y->j<E.n:=λj y h=>by rw[hc.n];exact(SM.1 h).1
 have cT:∀(j:Nat) y b,H[j]?=some y->bQ E' j y=some b->bQ E j y=some b:=λj y b h e=>by rw[<- Ph hle (hlt j y h) (hc.obj j y h)];exact e
 have Sy:∀(j:Nat) y b,j≠k->H[j]?=some y->bQ E j y=some b->∀x,H[k]?=some x->bQ E k x≠some b:=λj y b hj h1 h2 x h3 h4=>hj (hc.inj j k y x b h1 h3 h2 h4);have hg:∀(j:Nat) y,H'[j]?=some y->∀g,V.own g≠none->(∀(i:Nat) x,H[i]?=some x->bQ E i x≠some g)->bQ E' j y≠some g:=λj y h g pO fM e=>by
  rcases hH j y h with⟨rfl,rfl⟩|⟨hj,h⟩
  ·rcases hb g e with⟨x,h1,h2⟩|h2
   ·exact fM _ x h1 h2
   ·exact pO h2
  ·exact fM j y h (cT j y g h e)
 have hk:∀g,V.own g≠none->(∀(i:Nat) x,H[i]?=some x->bQ E i x≠some g)->V'.own g≠none/\∀o,V'.ab g o=V.ab g o:=λg pO fM=>by
  cases e:V.own g with
  |none=>exact absurd e pO
  |some y=>
   have:=ho g y (λx hx=>fM k x hx) e;exact⟨by rw[this.1];simp,this.2⟩
 refine⟨hI,hn,λj y h=> ?_,λi j y z b h1 h2 e1 e2=> ?_,λg RP=> ?_,λc fx=> ?_,λhm=>(by rw[hr,bC];exact hc.top (by rw[<- hle.main];exact hm)),λb y jR=> ?_⟩
 ·rcases hH j y h with⟨rfl,rfl⟩|⟨hj,h⟩
  ·exact hx
  ·have l9:=hc.obj j y h;refine l9.mono hle (hlt j y h) (AC j hj (hlt j y h)) (λb z kU hz=> ?_) (λb kU o=> ?_)
   ·exact(ho b z (Sy j y b hj h kU) hz).1
   ·obtain⟨z,hz⟩:=l9.BW kU;exact(ho b z (Sy j y b hj h kU) hz).2 o
 ·have new:∀(j:Nat) y,j≠k->H[j]?=some y->bQ E' j y=some b->bQ E' k x'≠some b:=λj y hj h e e'=>by
   have e:=cT j y b h e;rcases hb b e' with⟨x,Dc,hx2⟩|h1
   ·exact hj (hc.inj j k y x b h Dc e hx2)
   ·obtain⟨q,hq⟩:=(hc.obj j y h).BW e;rw[h1]at hq;cases hq
  rcases hH i y h1 with⟨rfl,rfl⟩|⟨hi,h1⟩<;>rcases hH j z h2 with⟨rfl,rfl⟩|⟨hj,h2⟩
  ·rfl
  ·exact absurd e1 (new j z hj h2 e2)
  ·exact absurd e2 (new i y hi h1 e1)
  ·exact hc.inj i j y z b h1 h2 (cT i y b h1 e1) (cT j z b h2 e2)
 ·rw[hr]at RP;obtain⟨h0,h1,h2⟩:=hc.group g RP;exact⟨(hk g h0 h2).1,λo=>((hk g h0 h2).2 o).trans (h1 o),λj y h=>hg j y h g h0 h2⟩
 ·rw[hr]at fx;obtain⟨h0,h1,h2⟩:=hc.chan c fx;exact⟨(hk c h0 h2).1,λo=>((hk c h0 h2).2 o).trans (h1 o),λj y h=>hg j y h c h0 h2⟩
 ·rw[hle.fr]at jR;obtain⟨h0,h1,h2⟩:=hc.fr b y jR;have Fs:V.own b≠none:=by rw[h0];simp
  exact⟨(ho b y (λx hx=>h2 k x hx) h0).1,λo=>((hk b Fs h2).2 o).trans (h1 o),λj z h=>hg j z h b Fs h2⟩
theorem lN{α:Type}{H:List α}{k:Nat}{x':α}:∀(j:Nat) y,(H.set k x')[j]?=some y->(j=k/\y=x')\/(j≠k/\H[j]?=some y):=λj y h=>by
 by_cases hj:j=k
 ·subst hj;rw[List.getElem?_set_self']at h;cases e:H[j]?with
  |none=>rw[e]at h;cases h
  |some z=>rw[e]at h;exact .inl ⟨rfl,by simpa using h.symm⟩
 ·rw[T7 (Ne.symm hj)]at h;exact .inr ⟨hj,h⟩
theorem Dp{α:Type}{H:List α}{x':α}:∀(j:Nat) y,(H++[x'])[j]?=some y->(j=H.length/\y=x')\/(j≠H.length/\H[j]?=some y):=λj y h=>by
 by_cases hk:j<H.length
 ·rw[SY hk]at h;exact .inr ⟨by omega,h⟩
 ·rw[S8 (by omega)]at h;have aJ:j-H.length=0:=by
   have:=(SM.1 h).1;simpa using this
  rw[aJ]at h;exact .inl ⟨by omega,by simpa using h.symm⟩
theorem Conc.jB{E:Env}{V:View}{H:List aa}(hc:Conc E V H){k:Nat}{x:aa}(hk:H[k]?=some x){b:Nat}(hb:bQ E k x=some b):V.role.group≠some b/\V.role.chan≠some b:=
 ⟨λe=>(hc.group b e).2.2 k x hk hb,λe=>(hc.chan b e).2.2 k x hk hb⟩
theorem Conc.aay{E:Env}{V:View}{H:List aa}(hc:Conc E V H){b o:Nat}{v:SQ}(h:E.I b o=some v):V.role.group≠some b/\V.role.chan≠some b:=
 ⟨λe=>(by have:=(hc.group b e).2.1 o;rw[<- hc.I,h]at this;cases this),λe=>(by have:=(hc.chan b e).2.1 o;rw[<- hc.I,h]at this;cases this)⟩
open Go.Conc
def AS.put (s:AS)(dst:Option Nat)(av:AV):AS:=match dst with
 |some d=>⟨(d,av)::s.T,s.H⟩
 |none=>s
theorem cw.iu{E:Env}{s:AS}{a:Act}(k:cw E s.T a.tmps){dst:Option Nat}(hd:∀d,dst=some d->d<a.tmps.size){av:AV}{v:SQ}(hv:ap E av v):cw E (s.put dst av).T (a.put dst v).tmps:=by
 cases dst with
 |none=>exact k
 |some d=>exact cw.put k (hd d rfl) hv
theorem fG(s:AS)(dst:Option Nat)(av:AV):(s.put dst av).H=s.H:=by cases dst<;>rfl
theorem ey(a:Act)(dst:Option Nat)(v:SQ):(a.put dst v).tmps.size=a.tmps.size:=by cases dst<;>simp[XZ]
theorem put_defers(a:Act)(dst:Option Nat)(v:SQ):(a.put dst v).defers=a.defers:=by cases dst<;>rfl
structure Kept (E E':Env)(V V':View)(a a':Act):Prop where
 le:E.Le E'
 size:a'.tmps.size=a.tmps.size
 defers:a'.defers=a.defers
 role:V'.role=V.role
 deaf:V'.deaf=V.deaf
def Step (lv:Bool)(P:SJ)(r:Option Nat)(o:Tu)(s:AS)(next:AS->Prop)(bad:AV->AS->Prop):Prop:=
 ∀(E:Env)(V:View)(a:Act)(N:Act->View->Prop)(Q:Ex->Act->View->Prop),Conc E V s.H->cw E s.T a.tmps->(∀d,o.dst=some d->d<a.tmps.size)->(r=none\/mL o.op=false)->
  (∀E' V' a' s',Kept E E' V V' a a'->Conc E' V' s'.H->cw E' s'.T a'.tmps->next s'->N a' V')->
  (∀E' V' s' pv v,Kept E E' V V' a a->Conc E' V' s'.H->cw E' s'.T a.tmps->ap E' pv v->bad pv s'->Q (.panic [{v,recovered:=false}]) a V')->xo lv P r o a V N Q
def dI (lv:Bool)(P:SJ)(r:Option Nat)(o:Tu)(s:AS)(av:AV):Prop:=
 ∀(E:Env)(V:View)(a:Act)(N:Act->View->Prop)(Q:Ex->Act->View->Prop),Conc E V s.H->cw E s.T a.tmps->(r=none\/mL o.op=false)->
  (∀E' V' v,E.Le E'->V'.role=V.role->V'.deaf=V.deaf->Conc E' V' s.H->ap E' av v->N (a.put o.dst v) V')->xo lv P r o a V N Q
section
variable {lv:Bool}{P:SJ}{r:Option Nat}{o:Tu}{s:AS}{next:AS->Prop}{bad:AV->AS->Prop}
theorem Step.mono{next':AS->Prop}{Pc:AV->AS->Prop}(h:Step lv P r o s next bad)(hn:∀s,next s->next' s)(hb:∀c s,bad c s->Pc c s):Step lv P r o s next' Pc:=
 λE V a N Q h1 h2 h3 h4 h5 h6=>h E V a N Q h1 h2 h3 h4 (λE' V' a' s' x1 x2 x3 x4=>h5 E' V' a' s' x1 x2 x3 (hn _ x4)) (λE' V' s' pv v x1 x2 x3 x4 x5=>h6 E' V' s' pv v x1 x2 x3 x4 (hb _ _ x5))
theorem jl{av:AV}(h:∀(E:Env)(V:View)(a:Act),Conc E V s.H->cw E s.T a.tmps->aO P V (execOp a.eval o) (λnx V'=>V'=V/\∃v,nx=.value v/\ap E av v) (λ_ _=>False)):dI lv P r o s av:=by
 intro E V a N Q hc ht bC h1;refine⟨bC,(h E V a hc ht).mono (λnx V' hx=> ?_) (λ_ _ hx=>hx.elim)⟩;obtain⟨rfl,v,rfl,hv⟩:=hx;exact h1 E V' v (Env.Le.refl E) rfl rfl hc hv
theorem sw{av:AV}(h:∀(E:Env)(V:View)(a:Act),Conc E V s.H->cw E s.T a.tmps->∃v,execOp a.eval o=.pure (.value v)/\ap E av v):dI lv P r o s av:=
 jl (λE V a hc ht=>by
  obtain⟨v,h1,h2⟩:=h E V a hc ht;rw[h1];exact cO ⟨rfl,v,rfl,h2⟩)
theorem dI.step{av:AV}(h:dI lv P r o s av)(hn:next (s.put o.dst av)):Step lv P r o s next bad:=by
 intro E V a N Q hc ht hd bC h1 _;refine h E V a N Q hc ht bC λE' V' v hle cp fy bi hv=> ?_;exact h1 E' V' (a.put o.dst v) (s.put o.dst av) ⟨hle,ey _ _ _,put_defers _ _ _,cp,fy⟩ (by rw[fG];exact bi) ((ht.mono hle).iu hd hv) hn
theorem ab7{x:Th}{av:AV}(ho:o.op=.move x\/o.op=.assign x)(hx:s.ev x=some av):dI lv P r o s (av):=
 sw (λE V a hc ht=>⟨a.eval x,by unfold execOp;rcases ho with ho|ho<;>rw[ho]<;>rfl,ap.ev ht hx⟩)
theorem apd{c x y:Th}{b:Bool}{av aw:AV}(ho:o.op=.pick c x y)(hc:s.ev c=some (.val (.bool b)))(hx:s.ev x=some av)(hy:s.ev y=some aw):dI lv P r o s ((if b then av else aw)):=
 sw (λE V a jv ht=>by
  have h1:=ap.ev ht hc;generalize hv:a.eval c=v at h1;cases h1;refine⟨if b then a.eval x else a.eval y,by unfold execOp;rw[ho];simp only[hv];cases b<;>rfl,?_⟩;cases b
  ·exact ap.ev ht hy
  ·exact ap.ev ht hx)
def mA (op:VZ)(k:TY)(x y:Int):Option SQ:=match op with
 |.add=>some (.int k (k.wrap (x+y)))
 |.sub=>some (.int k (k.wrap (x-y)))
 |.mul=>some (.int k (k.wrap (x* y)))
 |.eql=>some (.bool (x==y))
 |.neq=>some (.bool (x !=y))
 |.lss=>some (.bool (x<y))
 |.leq=>some (.bool (x<=y))
 |.gtr=>some (.bool (x>y))
 |.geq=>some (.bool (x>=y))
 |.and=>some (.int k (k.wrap (Ui k.bits x&&&Ui k.bits y).toNat))
 |.or=>some (.int k (k.wrap (Ui k.bits x|||Ui k.bits y).toNat))
 |.xor=>some (.int k (k.wrap (Ui k.bits x^^^Ui k.bits y).toNat))
 |.quo=>if y=0 then none else some (.int k (k.wrap (x.tdiv y)))
 |.rem=>if y=0 then none else some (.int k (x.tmod y))
 |_=>none
def A6 (op:VZ)(k:TY)(x y:Int):Option SQ:=if y<0 then none else match op with
 |.shl=>some (.int k (k.wrap (x* 2^(min y.toNat k.bits))))
 |.shr=>some (.int k (x.fdiv (2^(min y.toNat k.bits))))
 |_=>none
def nk:VZ->Bool
 |.shl|.shr=>true
 |_=>false
theorem af1{op:VZ}{k:TY}{x y:Int}{v:SQ}{t:TypeId}(h:mA op k x y=some v):binOp op t (.int k x) (.int k y)=.pure v:=by
 cases op<;>simp only[mA,Tj,reduceCtorEq]at h<;>try(subst h;simp[binOp,aua,Op.intCmp,Op.intBits];rfl)
 ·split at h
  ·cases h
  ·rename_i hy;simp only[Tj]at h;subst h;simp[binOp,apH,hy];rfl
 ·split at h
  ·cases h
  ·rename_i hy;simp only[Tj]at h;subst h;simp[binOp,apH,hy];rfl
theorem aqq{op:VZ}{k j:TY}{x y:Int}{v:SQ}{t:TypeId}(h:A6 op k x y=some v):binOp op t (.int k x) (.int j y)=.pure v:=by
 unfold A6 at h;split at h
 ·cases h
 ·rename_i hy;cases op<;>simp only[Tj,reduceCtorEq]at h
  ·subst h;simp[binOp,as_,hy];rfl
  ·subst h;simp[binOp,as_,hy];rfl
theorem P8{op:VZ}{t:TypeId}{x y:Th}{j k:TY}{a b:Int}:eqGuard op t x y (.int j a) (.int k b)=.pure ():=by
 unfold eqGuard;cases op<;>rfl
theorem aoN{op:VZ}{xt yt:TypeId}{x y:Th}{k:TY}{m n:Int}{v:SQ}(ho:o.op=.binOp op xt x y yt)(hx:s.ev x=some (.val (.int k m)))(hy:s.ev y=some (.val (.int k n)))(hv:mA op k m n=some v):dI lv P r o s ((.val v)):=
 sw (λE V a jv ht=>by
  have h1:=ap.ev ht hx;have h2:=ap.ev ht hy;generalize pV:a.eval x=v1 at h1;generalize tS:a.eval y=v2 at h2;cases h1;cases h2;refine⟨v,?_,.val v⟩;unfold execOp;rw[ho];simp only[pV,tS,P8,af1 hv];rfl)
theorem ape{op:VZ}{xt yt:TypeId}{x y:Th}{k j:TY}{m n:Int}{v:SQ}(ho:o.op=.binOp op xt x y yt)(hx:s.ev x=some (.val (.int k m)))(hy:s.ev y=some (.val (.int j n)))(hv:A6 op k m n=some v):dI lv P r o s ((.val v)):=
 sw (λE V a jv ht=>by
  have h1:=ap.ev ht hx;have h2:=ap.ev ht hy;generalize pV:a.eval x=v1 at h1;generalize tS:a.eval y=v2 at h2;cases h1;cases h2;refine⟨v,?_,.val v⟩;unfold execOp;rw[ho];simp only[pV,tS,P8,aqq hv];rfl)
theorem apc{t:TypeId}{x:Th}{b:Bool}(ho:o.op=.unOp .not t x)(hx:s.ev x=some (.val (.bool b))):dI lv P r o s ((.val (.bool !b))):=
 sw (λE V a jv ht=>by
  have h1:=ap.ev ht hx;generalize pV:a.eval x=v1 at h1;cases h1;exact⟨_,by unfold execOp;rw[ho];simp only[pV];rfl,.val _⟩)
theorem ao9{t:TypeId}{x:Th}{k:TY}{n:Int}(ho:o.op=.unOp .neg t x)(hx:s.ev x=some (.val (.int k n))):dI lv P r o s (.val (.int k (k.wrap (0-n)))):=
 sw (λE V a jv ht=>by
  have h1:=ap.ev ht hx;generalize pV:a.eval x=v1 at h1;cases h1;exact⟨_,by unfold execOp;rw[ho];simp only[pV];rfl,.val _⟩)
theorem aoT{x:Th}{i:Nat}{l:List AV}{av:AV}(ho:o.op=.extract x i)(hx:s.ev x=some (.aM l))(hi:l[i]?=some av):dI lv P r o s (av):=
 sw (λE V a jv ht=>by
  have h1:=ap.ev ht hx;generalize pV:a.eval x=v1 at h1;cases h1 with
  |aM hs h=>
   rename_i cs;have hlt:i<cs.size:=(by rw[hs];exact(SM.1 hi).1);refine⟨cs[i],?_,?_⟩
   ·unfold execOp;rw[ho];simp only[pV,Instr.extract,SK hlt];rfl
   ·have:=h i av hi;rwa [SH,SK hlt]at this)
end
theorem add_plain(b o n:Nat):(⟨b,o,none⟩:U1).add n=⟨b,o+n,none⟩:=by
 unfold at2;split
 ·rename_i h;subst h;rfl
 ·rfl
def AS.at (s:AS):AV->Option (List AV)
 |.rp l=>some l
 |.op id off=>match s.H[id]?with
  |some (.cells l _)=>some (l.drop off)
  |some (.part _ l _)=>some (l.drop off)
  |some (.own _ l _)=>some (l.drop off)
  |_=>none
 |_=>none
def AV.shift (n:Nat):AV->Option AV
 |.rp l=>if n<=l.length then some (.rp (l.drop n))else none
 |.op id off=>some (.op id (off+n))
 |_=>none
theorem Conc.at{E:Env}{V:View}{s:AS}(hc:Conc E V s.H){p:AV}{v:SQ}(hd:ap E p v){l:List AV}(h:s.at p=some l):
  ∃(b o:Nat)(f:Nat->SQ),v=.pointer (some ⟨b,o,none⟩)/\(∀i,i<l.length->V.get b (o+i)=some (f i))/\(0<l.length->V.role.group≠some b)/\∀(i:Nat) x,l[i]?=some x->ap E x (f i):=by
 cases hd with
 |rp b o f h1 h2=>
  cases h;exact⟨b,o,f,rfl,λi hi=>by unfold View.get;rw[<- hc.I,h1 i hi],λhp=>(hc.aay (h1 0 hp)).1,h2⟩
 |op hi=>
  rename_i id off;simp only[AS.at]at h;cases hk:s.H[id]?with
  |none=>rw[hk]at h;cases h
  |some ob=>
   rw[hk]at h;cases ob with
   |cells l' el=>
    cases h;obtain⟨⟨cs,ho,hs,bm⟩,l7⟩:=hc.obj id _ hk;refine⟨E.blk id,off,λi=>cs.getD (off+i) undef,rfl,λi hi=> ?_,λ_=>(hc.jB hk rfl).1,λi x hx=> ?_⟩
    ·unfold View.get;rw[l7,ho];simp only[Uo]at hi;have hlt:off+i<cs.size:=(by omega);simp only[SH,SK hlt,S7]
    ·rw[Up]at hx;exact bm _ _ hx
   |part p l' el=>
    cases h;obtain⟨⟨cs,ho,⟨hs,bm⟩,n9⟩,l7⟩:=hc.obj id _ hk;refine⟨E.blk id,off,λi=>cs.getD (off+i) undef,rfl,λi hi=> ?_,λ_=>(hc.jB hk rfl).1,λi x hx=> ?_⟩
    ·simp only[Uo]at hi;have hlt:off+i<cs.size:=(by omega);unfold View.get;by_cases hp:off+i<p
     ·rw[n9 _ hp];simp only[SH,SK hlt,S7]
     ·rw[l7 _ (by omega),ho];simp only[SH,SK hlt,S7]
    ·rw[Up]at hx;exact bm _ _ hx
   |own sz l' el=>
    cases h;obtain⟨⟨cs,ho,⟨hs,bm⟩,_⟩,l7⟩:=hc.obj id _ hk;refine⟨E.blk id,off,λi=>cs.getD (off+i) undef,rfl,λi hi=> ?_,λ_=>(hc.jB hk rfl).1,λi x hx=> ?_⟩
    ·simp only[Uo]at hi;have hlt:off+i<cs.size:=(by omega);unfold View.get;rw[l7,ho];simp only[SH,SK hlt,S7]
    ·rw[Up]at hx;exact bm _ _ hx
   |_=>cases h
 |_=>cases h
theorem ap.shift{E:Env}{p q:AV}{v:SQ}(hd:ap E p v){n:Nat}(h:p.shift n=some q):∃b o,v=.pointer (some ⟨b,o,none⟩)/\ap E q (.pointer (some ⟨b,o+n,none⟩)):=by
 cases hd with
 |rp b o f h1 h2=>
  simp only[AV.shift]at h;split at h
  ·rename_i hn;cases h;refine⟨b,o,rfl,.rp b (o+n) (λi=>f (n+i)) (λi hi=> ?_) (λi x hx=> ?_)⟩
   ·simp only[Uo]at hi;rw[U_];exact h1 _ (by omega)
   ·rw[Up]at hx;exact h2 _ _ hx
  ·cases h
 |op hi=>cases h;exact⟨_,_,rfl,.op hi⟩
 |_=>cases h
section
variable {P:SJ}{V:View}{α:Type}{K:α->View->Prop}{Kp:SQ->View->Prop}
theorem eD{t:TypeId}{d:TypeDesc}{k:TypeDesc->Sem α}(h:P.underlying t=some d)(hk:aO P V (k d) K Kp):aO P V (underlying t>>=k) K Kp:=by
 unfold underlying;refine az (az (qX (cO ?_)));rw[h];exact aq hk
theorem yV{t:TypeId}{i:Wj}{k:Wj->Sem α}(h:P.info? t=some i)(hk:aO P V (k i) K Kp):aO P V (typeInfo t>>=k) K Kp:=by
 unfold typeInfo;refine az (az (qX (cO ?_)));rw[h];exact aq hk
theorem kv{t:TypeId}{i:Wj}{k:Nat->Sem α}(h:P.info? t=some i)(hk:aO P V (k i.size) K Kp):aO P V (sizeOf t>>=k) K Kp:=by
 refine az ?_;unfold sizeOf;exact yV h (aq hk)
def TypeDesc.agg:TypeDesc->Bool
 |.struct _|.array _ _=>true
 |_=>false
theorem DV{t:TypeId}{d:TypeDesc}{k:Bool->Sem α}(h:P.underlying t=some d)(hk:aO P V (k (TypeDesc.agg d)) K Kp):aO P V (isAgg t>>=k) K Kp:=by
 refine az ?_;unfold isAgg;refine eD h ?_;cases d<;>exact aq hk
theorem aqf{b o:Nat}{v:SQ}{k:SQ->Sem α}(hg:V.role.group≠some b)(e:V.get b o=some v)(hk:aO P V (k v) K Kp):aO P V (load ⟨b,o,none⟩>>=k) K Kp:=
 az (NF e (.inl hg) (cO hk))
theorem acy{b o:Nat}{f:Nat->SQ}{K:Array SQ->View->Prop}:∀(n i:Nat)(acc:Array SQ),(0<n->V.role.group≠some b)->(∀j,j<n->V.get b (o+(i+j))=some (f (i+j)))->
  K (acc++((SZ n).map λj=>f (i+j)).toArray) V->aO P V (loadCellsFrom ⟨b,o,none⟩ i n acc) K Kp
 |0,i,acc,_,_,h=>aq (by simpa using h)
 |n+1,i,acc,hg,he,h=>by
  have h0:=he 0 (by omega);unfold loadCellsFrom;rw[add_plain];refine aqf (hg (by omega)) h0 ?_;refine acy n (i+1) _ (λ_=>hg (by omega)) (λj hj=>by have:=he (j+1) (by omega);rwa [show i+(j+1)=i+1+j by omega]at this) ?_;have e:(acc.push (f (i+0))++((SZ n).map λj=>f (i+1+j)).toArray)=acc++((SZ (n+1)).map λj=>f (i+j)).toArray:=by
   rw[List.range_succ_eq_map];apply VE;simp[Yu,U_,Z1 1]
  rw[e];exact h
theorem A3{b o n:Nat}{f:Nat->SQ}(hg:0<n->V.role.group≠some b){K:Array SQ->View->Prop}(he:∀j,j<n->V.get b (o+j)=some (f j))(h:K ((SZ n).map f).toArray V):aO P V (loadCells ⟨b,o,none⟩ n) K Kp:=
 acy n 0 #[] hg (λj hj=>by simpa using he j hj) (by simpa using h)
end
theorem lz{α β:Type}{x:Option α}{f:α->β}{y:β}(h:x.map f=some y):∃a,x=some a/\f a=y:=Tp.1 h
def Ty (P:SJ)(t:TypeId):Option (Nat×Bool):=(P.info? t).bind λi=>(P.underlying t).map λd=>(i.size,TypeDesc.agg d)
theorem Ty.out{P:SJ}{t:TypeId}{n:Nat}{g:Bool}(h:Ty P t=some (n,g)):∃i d,P.info? t=some i/\P.underlying t=some d/\i.size=n/\TypeDesc.agg d=g:=by
 unfold Ty at h;obtain⟨i,h1,h2⟩:=Te.1 h;obtain⟨d,h3,h4⟩:=lz h2;cases h4;exact⟨i,d,h1,h3,rfl,rfl⟩
theorem I2{E:Env}{l:List AV}{f:Nat->SQ}{n:Nat}(hn:n<=l.length)(h:∀(i:Nat) x,l[i]?=some x->ap E x (f i)):ap E (.agg (l.take n)) (.agg ((SZ n).map f).toArray):=by
 refine .agg (by simp;omega) λi x hx=> ?_;rw[Ul]at hx;split at hx
 ·rename_i hi;have:=h i x hx;simpa[SH,hi]using this
 ·cases hx
def AV.row:AV->Option (Nat×AV)
 |.sl n l _=>some (n,.rp l)
 |.bp id off n _=>some (n,.op id off)
 |_=>none
theorem ap.row{E:Env}{a p:AV}{v:SQ}{n:Nat}(hd:ap E a v)(h:a.row=some (n,p))(h0:0<n):∃b o cap,v=.slice (some ⟨b,o,none⟩) n cap/\ap E p (.pointer (some ⟨b,o,none⟩)):=by
 cases hd with
 |sl b o cap f hc he h1 h2=>cases h;exact⟨b,o,cap,rfl,.rp b o f h1 h2⟩
 |nil he=>cases h;exact absurd h0 (by simp)
 |bp hi=>cases h;exact⟨_,_,_,rfl,.op hi⟩
 |_=>cases h
def AV.len:AV->Option Nat
 |.sl n _ _=>some n
 |.bp _ _ n _=>some n
 |_=>none
theorem ap.len{E:Env}{a:AV}{v:SQ}{n:Nat}(hd:ap E a v)(h:a.len=some n):∃ad cap,v=.slice ad n cap:=by
 cases hd with
 |sl b o cap f hc he h1 h2=>cases h;exact⟨_,_,rfl⟩
 |nil he=>cases h;exact⟨_,_,rfl⟩
 |bp hi=>cases h;exact⟨_,_,rfl⟩
 |_=>cases h
def fC (P:SJ)(t:TypeId)(k:Nat):Option Nat:=match P.underlying t with
 |some (.struct fs)=>match fs[k]?with
  |some f=>match P.info? f.type with
   |some i=>if i.size=0 then none else some f.offset
   |none=>none
  |none=>none
 |_=>none
def oy (P:SJ)(t:TypeId):Option (Option Nat×Nat):=match P.underlying t with
 |some (.array n e)=>(P.info? e).map λi=>(some n,i.size)
 |some (.slice e)=>(P.info? e).map λi=>(none,i.size)
 |_=>none
inductive zn where
 |slice|map|str|arr (n:Nat)
def lU (P:SJ)(t:TypeId):Option zn:=match P.underlying t with
 |some (.slice _)=>some .slice
 |some (.map _ _)=>some .map
 |some .string=>some .str
 |some (.array n _)=>some (.arr n)
 |_=>none
def Ik (P:SJ)(t:TypeId)(k:Nat):Option (Nat×Nat×Bool):=match P.underlying t with
 |some (.struct fs)=>match fs[k]?with
  |some f=>(Ty P f.type).map λx=>(f.offset,x.1,x.2)
  |none=>none
 |_=>none
def Ie (P:SJ)(t:TypeId):Option (Nat×Nat×Bool):=match P.underlying t with
 |some (.array n e)=>(Ty P e).map λx=>(n,x.1,x.2)
 |_=>none
section
variable {lv:Bool}{P:SJ}{r:Option Nat}{o:Tu}{s:AS}{next:AS->Prop}{bad:AV->AS->Prop}
theorem ao2{t:TypeId}{x:Th}{p:AV}{l:List AV}{n:Nat}(ho:o.op=.load t x)(ht:Ty P t=some (n,true))(hx:s.ev x=some p)(hl:s.at p=some l)(hlen:n<=l.length):dI lv P r o s ((.agg (l.take n))):=
 jl (λE V a hc aF=>by
  obtain⟨i,d,h1,h2,rfl,h4⟩:=Ty.out ht;obtain⟨b,off,f,hv,hg,kH,hd⟩:=hc.at (ap.ev aF hx) hl;unfold execOp;rw[ho];simp only[hv];refine az ?_;unfold Xx U7;refine az (aq ?_);unfold loadVar;refine DV h2 ?_;rw[h4];simp only[if_true];refine kv h1 ?_;refine az (A3 (f:=f) (λh=>kH (by omega)) (λj hj=>hg j (by omega)) ?_);exact aq (aq ⟨rfl,_,rfl,I2 hlen hd⟩))
theorem ao3{t:TypeId}{x:Th}{p:AV}{l:List AV}{n:Nat}{av:AV}(ho:o.op=.load t x)(ht:Ty P t=some (n,false))(hx:s.ev x=some p)(hl:s.at p=some l)(h0:l[0]?=some av):dI lv P r o s (av):=
 jl (λE V a hc aF=>by
  obtain⟨i,d,h1,h2,rfl,h4⟩:=Ty.out ht;obtain⟨b,off,f,hv,hg,kH,hd⟩:=hc.at (ap.ev aF hx) hl;unfold execOp;rw[ho];simp only[hv];refine az ?_;unfold Xx U7;refine az (aq ?_);unfold loadVar;refine DV h2 ?_;rw[h4];simp only[TM,if_false];have hlen:0<l.length:=(SM.1 h0).1;have kW:=hg 0 hlen;rw[UD]at kW;exact NF kW (.inl (kH hlen)) (cO (aq ⟨rfl,_,rfl,hd 0 av h0⟩)))
def AV.sure:AV->Bool
 |.rp _|.op _ _=>true
 |.fn (.func _) _ _=>true
 |.fn (.yield _) _ _=>true
 |.dh _ _=>true
 |_=>false
theorem apa{x:Th}{p:AV}(ho:o.op=.nilCheck x)(hx:s.ev x=some p)(hp:p.sure=true):dI lv P r o s (p):=
 sw (λE V a hc aF=>by
  have hd:=ap.ev aF hx;refine⟨a.eval x,?_,hd⟩;unfold execOp;rw[ho];dsimp only;generalize a.eval x=v at hd⊢;cases hd with
  |rp=>rfl
  |op=>rfl
  |dh=>rfl
  |fn dN gB h1 h2=>
   rename_i f _ _ _ _;cases f with
   |func=>rfl
   |yield=>rfl
   |_=>cases hp
  |_=>cases hp)
theorem aoU{t:TypeId}{x:Th}{k n:Nat}{p q:AV}(ho:o.op=.fieldAddr t x k)(ht:fC P t k=some n)(hx:s.ev x=some p)(hp:p.shift n=some q):dI lv P r o s (q):=
 jl (λE V a hc aF=>by
  obtain⟨b,off,hv,hq⟩:=(ap.ev aF hx).shift hp;unfold fC at ht;split at ht
  ·rename_i fs hu;split at ht
   ·rename_i f hf;split at ht
    ·rename_i i hi;split at ht
     ·cases ht
     ·rename_i hz;cases ht;unfold execOp;rw[ho];simp only[hv];refine az ?_;unfold Instr.fieldAt;refine eD hu ?_;simp only[hf];unfold U7;refine az (aq ?_);unfold fieldPlace;refine az (kv hi ?_);rw[if_neg hz];refine aq (aq (aq ⟨rfl,_,rfl,?_⟩));rw[add_plain];exact hq
    ·cases ht
   ·cases ht
  ·cases ht)
theorem aoW{t:TypeId}{x ix:Th}{a p q:AV}{k:TY}{i:Int}{n sz:Nat}(ho:o.op=.indexAddr t x ix)(ht:oy P t=some (none,sz))(hx:s.ev x=some a)(ha:a.row=some (n,p))(hi:s.ev ix=some (.val (.int k i)))(h0:0<=i)(h1:i<n)
  (hp:p.shift (i.toNat* sz)=some q):dI lv P r o s (q):=
 jl (λE V ac hc aF=>by
  obtain⟨b,off,cap,hv,Aq⟩:=(ap.ev aF hx).row ha (by omega);obtain⟨b',o',hb,hq⟩:=Aq.shift hp;cases hb;have hd:=ap.ev aF hi;generalize qR:ac.eval ix=vi at hd;cases hd;unfold oy at ht;split at ht
  ·obtain⟨_,_,h⟩:=lz ht;cases h
  ·rename_i e hu;obtain⟨inf,KT,h⟩:=lz ht;cases h;unfold execOp;rw[ho];simp only[hv,qR];refine az ?_;unfold ZI asIntOf;refine az (aq ?_);dsimp only;refine eD hu ?_;refine az (aq ?_);dsimp only;refine eD hu ?_;dsimp only;rw[if_pos ⟨h0,h1⟩];refine kv KT ?_;refine aq (aq ⟨rfl,_,rfl,?_⟩);rw[add_plain];exact hq
  ·cases ht)
theorem aoX{t:TypeId}{x ix:Th}{p q:AV}{k:TY}{i:Int}{n sz:Nat}(ho:o.op=.indexAddr t x ix)(ht:oy P t=some (some n,sz))(hx:s.ev x=some p)(hi:s.ev ix=some (.val (.int k i)))(h0:0<=i)(h1:i<n)
  (hp:p.shift (i.toNat* sz)=some q):dI lv P r o s (q):=
 jl (λE V ac hc aF=>by
  obtain⟨b,off,hv,hq⟩:=(ap.ev aF hx).shift hp;have hd:=ap.ev aF hi;generalize qR:ac.eval ix=vi at hd;cases hd;unfold oy at ht;split at ht
  ·rename_i m e hu;obtain⟨inf,KT,h⟩:=lz ht;cases h;unfold execOp;rw[ho];simp only[hv,qR];refine az ?_;unfold ZI asIntOf;refine az (aq ?_);dsimp only;refine eD hu ?_;dsimp only;unfold U7;refine az (az (aq (aq ?_)));refine eD hu ?_;dsimp only;rw[if_pos ⟨h0,h1⟩];refine kv KT ?_;refine aq (aq ⟨rfl,_,rfl,?_⟩);rw[add_plain];exact hq
  ·obtain⟨_,_,h⟩:=lz ht;cases h
  ·cases ht)
theorem ab6{c:Xn}{x:Th}{t:TypeId}{a:AV}{n:Nat}(ho:o.op=.call c)(aZ:c.callee=.builtin .len)(tT:c.args[0]?=some x)(C7:c.argTypes[0]?=some t)(ht:lU P t=some .slice)(hx:s.ev x=some a)(ha:a.len=some n):dI lv P r o s (.val (.int .i64 n)):=
 jl (λE V ac hc aF=>by
  obtain⟨ad,cap,hv⟩:=(ap.ev aF hx).len ha;unfold lU at ht;split at ht<;>cases ht;rename_i e hu;unfold execOp;rw[ho];dsimp only;unfold resolve;rw[aZ];dsimp only;refine az (aq ?_);unfold invoke builtin;dsimp only;refine az ?_;unfold Yh;have e1:(c.args.map ac.eval)[0]?=some (.slice ad n cap):=by simp[tT,hv]
  simp only[C7,e1];refine eD hu ?_;exact aq (aq ⟨rfl,_,rfl,.val _⟩))
theorem ao1{c:Xn}{x:Th}{t:TypeId}{b:ByteArray}(ho:o.op=.call c)(aZ:c.callee=.builtin .len)(tT:c.args[0]?=some x)(C7:c.argTypes[0]?=some t)(ht:lU P t=some .str)(hx:s.ev x=some (.val (.string b))):dI lv P r o s (.val (.int .i64 b.size)):=
 jl (λE V ac hc aF=>by
  have hd:=ap.ev aF hx;generalize hv:ac.eval x=v at hd;cases hd;unfold lU at ht;split at ht<;>cases ht;rename_i hu;unfold execOp;rw[ho];dsimp only;unfold resolve;rw[aZ];dsimp only;refine az (aq ?_);unfold invoke builtin;dsimp only;refine az ?_;unfold Yh;have e1:(c.args.map ac.eval)[0]?=some (.string b):=by simp[tT,hv]
  simp only[C7,e1];refine eD hu ?_;exact aq (aq ⟨rfl,_,rfl,.val _⟩))
theorem ao0{c:Xn}{x:Th}{t:TypeId}{id:Nat}{es:Array Wl}{ck:Nat}(ho:o.op=.call c)(aZ:c.callee=.builtin .len)(tT:c.args[0]?=some x)(C7:c.argTypes[0]?=some t)(ht:lU P t=some .map)(hx:s.ev x=some (.mp id))(hk:s.H[id]?=some (.obj (.map es ck))):dI lv P r o s (.val (.int .i64 es.size)):=
 jl (λE V ac hc aF=>by
  have hd:=ap.ev aF hx;generalize hv:ac.eval x=v at hd;cases hd;obtain⟨h1,h2,h3,h4⟩:=hc.obj id _ hk;unfold lU at ht;split at ht<;>cases ht;rename_i hu;unfold execOp;rw[ho];dsimp only;unfold resolve;rw[aZ];dsimp only;refine az (aq ?_);unfold invoke builtin;dsimp only;refine az ?_;unfold Yh;have e1:(c.args.map ac.eval)[0]?=some (.map (some (E.blk id))):=by simp[tT,hv]
  simp only[C7,e1];refine eD hu ?_;refine az (ov h1 h2 h3 (hc.jB hk rfl).2 (cO ?_));exact aq (aq ⟨rfl,_,rfl,.val _⟩))
theorem acA{t:TypeId}{n off:Nat}{g:Bool}{E:Env}{V:View}{l:List AV}{cs:Array SQ}{K:SQ->View->Prop}{Kp:SQ->View->Prop}(ht:Ty P t=some (n,g))(hd:cP E l cs)(hl:off+n<=l.length)(hn:g=false->0<n)
  (h:∀v,(g=true->ap E (.agg ((l.drop off).take n)) v)->(g=false->∀a,l[off]?=some a->ap E a v)->K v V):aO P V (part t cs off) K Kp:=by
 obtain⟨i,d,h1,h2,rfl,h4⟩:=Ty.out ht;unfold part;refine DV h2 ?_;rw[h4];cases g with
 |true=>
  simp only[if_true];refine kv h1 (aq (h _ (λ_=> .agg (by have:=hd.1;simp;omega) λj a e=> ?_) (by simp)));rw[Ul]at e;split at e
  ·rename_i hj;rw[Up]at e;have:=hd.2 _ _ e;have hlt:off+j<cs.size:=(by rw[hd.1];omega);have akE:j<(cs.extract off (off+i.size)).size:=(by have:=hd.1;simp;omega);rw[SH,SK akE];rw[SH,SK hlt]at this;simpa using this
  ·cases e
 |false=>
  simp only[TM,if_false];have hlt:off<cs.size:=by have:=hn rfl;rw[hd.1];omega
  rw[SK hlt];refine aq (h _ (by simp) λ_ a e=> ?_);have:=hd.2 _ _ e;rwa [SH,SK hlt]at this
def AV.cut (l:List AV)(off n:Nat)(g:Bool):Option AV:=if off+n<=l.length/\(g=false->0<n)then(if g then some (.agg ((l.drop off).take n))else l[off]?)else none
theorem aoV{t:TypeId}{x:Th}{k off n:Nat}{g:Bool}{l:List AV}{av:AV}(ho:o.op=.field t x k)(ht:Ik P t k=some (off,n,g))(hx:s.ev x=some (.agg l))(hv:AV.cut l off n g=some av):dI lv P r o s av:=
 jl (λE V a hc aF=>by
  have hd:=ap.ev aF hx;generalize he:a.eval x=v at hd;cases hd with
  |agg hs h=>
   unfold Ik at ht;split at ht
   ·rename_i fs hu;split at ht
    ·rename_i f hf;obtain⟨⟨n',g'⟩,h1,h2⟩:=lz ht;cases h2;unfold AV.cut at hv;split at hv
     ·rename_i x_;unfold execOp;rw[ho];simp only[he];refine az ?_;unfold Instr.field;refine eD hu ?_;simp only[hf];unfold asAgg;refine az (aq ?_);refine acA h1 ⟨hs,h⟩ x_.1 x_.2 λv h3 h4=>aq ⟨rfl,v,rfl,?_⟩;cases g' with
      |true=>simp only[if_true,Tj]at hv;subst hv;exact h3 rfl
      |false=>simp only[TM,if_false]at hv;exact h4 rfl _ hv
     ·cases hv
    ·cases ht
   ·cases ht)
theorem aoZ{t:TypeId}{x ix:Th}{n sz:Nat}{g:Bool}{l:List AV}{av:AV}{k:TY}{i:Int}(ho:o.op=.index t x ix)(ht:Ie P t=some (n,sz,g))(hx:s.ev x=some (.agg l))(hi:s.ev ix=some (.val (.int k i)))(h0:0<=i)(h1:i<n)(hv:AV.cut l (i.toNat* sz) sz g=some av):dI lv P r o s av:=
 jl (λE V a hc aF=>by
  have hd:=ap.ev aF hx;generalize he:a.eval x=v at hd;have oP:=ap.ev aF hi;generalize Ky:a.eval ix=vi at oP;cases oP;cases hd with
  |agg hs h=>
   unfold Ie at ht;split at ht
   ·rename_i m e hu;obtain⟨⟨n',g'⟩,h2,h3⟩:=lz ht;cases h3;unfold AV.cut at hv;split at hv
    ·rename_i x_;obtain⟨inf,d,q1,q2,q3,q4⟩:=Ty.out h2;unfold execOp;rw[ho];simp only[he,Ky];refine az ?_;unfold ZY asIntOf;refine az (aq ?_);dsimp only;refine eD hu ?_;dsimp only;rw[if_pos ⟨h0,h1⟩];refine kv q1 ?_;rw[q3];refine acA h2 ⟨hs,h⟩ x_.1 x_.2 λv h4 h5=>aq ⟨rfl,v,rfl,?_⟩;cases g' with
     |true=>simp only[if_true,Tj]at hv;subst hv;exact h4 rfl
     |false=>simp only[TM,if_false]at hv;exact h5 rfl _ hv
    ·cases hv
   ·cases ht)
theorem aoY{t:TypeId}{x ix:Th}{b:ByteArray}{k:TY}{i:Int}{c:UInt8}(ho:o.op=.index t x ix)(ht:lU P t=some .str)(hx:s.ev x=some (.val (.string b)))(hi:s.ev ix=some (.val (.int k i)))(h0:0<=i)(h1:b[i.toNat]?=some c):dI lv P r o s (.val (.int .u8 c.toNat)):=
 jl (λE V a hc aF=>by
  have hd:=ap.ev aF hx;generalize he:a.eval x=v at hd;have oP:=ap.ev aF hi;generalize Ky:a.eval ix=vi at oP;cases oP;cases hd;unfold lU at ht;split at ht<;>cases ht;rename_i hu;unfold execOp;rw[ho];simp only[he,Ky];refine az ?_;unfold ZY asIntOf;refine az (aq ?_);dsimp only;refine eD hu ?_;dsimp only;rw[if_pos h0,h1];exact aq (aq ⟨rfl,_,rfl,.val _⟩))
theorem PK{E:Env}{s:AS}{a:Act}(k:cw E s.T a.tmps){l:Array Th}{aE:List AV}(h:l.toList.mapM s.ev=some aE):cP E aE (l.map a.eval):=by
 have key:∀(l:List Th)(aE:List AV),l.mapM s.ev=some aE->cP E aE (l.map a.eval).toArray:=by
  intro l;induction l with
  |nil=>intro aE h;simp at h;subst h;exact⟨rfl,by simp⟩
  |cons x l ih=>
   intro aE h;simp only[T_,Uj,TP,Te,Tj]at h;obtain⟨b,h1,bs,h2,rfl⟩:=h;have:=ih bs h2;refine⟨by have:=this.1;simpa using this,λi c e=> ?_⟩;cases i with
   |zero=>simp at e;subst e;simpa[SH]using ap.ev k h1
   |succ i=>
    simp only[UM]at e;have:=this.2 i c e;simpa[SH]using this
 have:=key l.toList aE h;have e:l.map a.eval=(l.toList.map a.eval).toArray:=by apply VE;simp
 rw[e];exact this
theorem ao5{f:Fn}{first c9:Array Th}{fa ca:List AV}(ho:o.op=.makeFunc f first c9)(h1:first.toList.mapM s.ev=some fa)(h2:c9.toList.mapM s.ev=some ca):dI lv P r o s (.fn f fa ca):=
 sw (λE V a hc ht=>by
  have d1:=PK ht h1;have d2:=PK ht h2;exact⟨_,by unfold execOp;rw[ho];rfl,.fn d1.1 d2.1 d1.2 d2.2⟩)
def mM (P:SJ)(t:TypeId):Option Bool:=(P.underlying t).map λ|.interface _=>true|_=>false
theorem ao6{t:TypeId}{x:Th}{av:AV}(ho:o.op=.makeInterface t x)(ht:mM P t=some false)(hx:s.ev x=some av):dI lv P r o s (.dh t av):=
 jl (λE V a hc aF=>by
  obtain⟨d,hu,hd⟩:=lz ht;unfold execOp;rw[ho];dsimp only;refine az ?_;unfold Instr.makeInterface;refine eD hu ?_;split
  ·cases hd
  ·exact aq (aq ⟨rfl,_,rfl,.dh (ap.ev aF hx)⟩))
def Bl (P:SJ)(src dst:TypeId):Option (Option TY):=(P.underlying src).bind λ_=>match P.underlying dst with
 |some (.int k)=>some (some k)
 |_=>none
theorem aoQ{src dst:TypeId}{x:Th}{k j:TY}{n:Int}(ho:o.op=.convert src dst x)(ht:Bl P src dst=some (some k))(hx:s.ev x=some (.val (.int j n))):dI lv P r o s (.val (.int k (k.wrap n))):=
 jl (λE V a hc aF=>by
  have hd:=ap.ev aF hx;generalize he:a.eval x=v at hd;cases hd;unfold Bl at ht;obtain⟨d,h1,h2⟩:=Te.1 ht;split at h2
  ·rename_i k' hu;cases h2;unfold execOp;rw[ho];simp only[he];refine az ?_;unfold convert;refine eD h1 (eD hu ?_);dsimp only;exact aq (aq ⟨rfl,_,rfl,.val _⟩)
  ·cases h2)
end
open Go.Conc
def Env.add (E:Env)(r:Nat)(I:cE):Env:={E with I:=I,n:=E.n+1,blk:=λk=>if k=E.n then r else E.blk k}
theorem Env.qT(E:Env)(r:Nat){I:cE}(hI:∀b o v,E.I b o=some v->I b o=some v):E.Le (E.add r I):=
 ⟨hI,YZ _,λk hk=>by simp[Env.add,V_ hk],λ_ _=>SR _,λ_ _ _ _=>rfl,rfl,rfl⟩
def View.eX (V:View)(b:Nat)(cs:Array SQ)(p:Nat->Bool):View:={V with ab:=λb' o=>if b'=b/\p o=true then cs[o]?else V.ab b' o}
theorem xQ{V:View}{b:Nat}{cs:Array SQ}{el:TypeId}{f:Nat×Nat}{p:Nat->Bool}(ho:V.own b=some (.cells cs el f))(hp:∀o,p o=true->V.ab b o=none):ej V (V.eX b cs p)where
 sat w h:=⟨λb' o v e=>by
   simp only[View.eX]at e;split at e
   ·rename_i hb;obtain⟨rfl,_⟩:=hb;have:=h.own _ _ ho;simpa[Uy,this]using e
   ·exact h.ab _ _ _ e,λb' x e=>h.own b' x e⟩
 own b' e:=e
 ab b' o v e:=by
  have hn:¬(b'=b/\p o=true):=λhb=>by obtain⟨rfl,h2⟩:=hb;rw[hp o h2]at e;cases e
  simp only[View.eX,if_neg hn];exact e
 ld b' o v e:=by
  simp only[View.eX]at e;split at e
  ·rename_i hb;obtain⟨rfl,_⟩:=hb;exact .inr (by rw[ho];simp)
  ·exact .inl e
 deaf:=rfl
 role:=rfl
 chan c x _ h:=h
def View.kL (V:View)(r:Nat)(cs:Array SQ):View:={V with ab:=λb o=>if b=r then cs[o]?else V.ab b o}
theorem ajt{V:View}{r:Nat}{cs:Array SQ}{el:TypeId}{f:Nat×Nat}(hf:V.fresh r)(hc:V.role.chan≠some r):ej (V.upd r (.cells cs el f)) (V.kL r cs)where
 sat w h:=⟨λb o v e=>by
   simp only[View.kL]at e;split at e
   ·rename_i hb;subst hb;have:=h.own b (.cells cs el f) (by simp[View.upd]);simpa[Uy,this]using e
   ·exact h.ab b o v e,λb x e=>by
   have hb:b≠r:=λhb=>(by subst hb;rw[show (V.kL b cs).own b=V.own b from rfl,hf.1]at e;cases e);have e':V.own b=some x:=e;exact h.own b x (by simpa[View.upd,hb]using e')⟩
 own b e:=by
  simp only[View.upd]at e;split at e
  ·cases e
  ·exact e
 ab b o v e:=by
  have e':V.ab b o=some v:=e;have hb:b≠r:=λhb=>by subst hb;rw[hf.2 o]at e';cases e'
  simpa[View.kL,hb]using e'
 ld b o v e:=by
  simp only[View.kL]at e;split at e
  ·rename_i hb;exact .inr (by simp[View.upd,hb])
  ·exact .inl e
 deaf:=rfl
 role:=rfl
 chan c x hcx h:=by
  have hb:c≠r:=λhb=>by subst hb;exact hc hcx
  have h':V.own c=some x:=by simpa[View.upd,hb]using h
  exact h'
theorem Conc.ajj{E:Env}{V:View}{H:List aa}(hc:Conc E V H){r:Nat}(hf:V.own r=none):V.role.chan≠some r/\V.role.group≠some r:=
 ⟨λe=>(hc.chan r e).1 hf,λe=>(hc.group r e).1 hf⟩
theorem Conc.add{E:Env}{V:View}{H:List aa}(hc:Conc E V H){r:Nat}(hf:V.fresh r)(y:Obj){x:aa}(hx:gq (E.add r V.ab) (V.upd r y) E.n x)(hb:∀b,bQ (E.add r V.ab) E.n x=some b->b=r):Conc (E.add r V.ab) (V.upd r y) (H++[x]):=by
 refine hc.iW (E':=E.add r V.ab) H.length x (E.qT r (λb o v h=>by rw[<- hc.I];exact h)) rfl (by simp[Env.add,hc.n]) Dp rfl (λ_ _ _=>rfl) (λb z _ hz=>⟨?_,λ_=>rfl⟩) (by rw[<- hc.n];exact hx) (λb h=> .inr ?_)
 ·have:b≠r:=λe=>by rw[e,hf.1]at hz;cases hz
  simpa[View.upd,this]using hz
 ·rw[<- hc.n]at h;rw[hb b h];exact hf.1
theorem Env.dU(E:Env)(r:Nat)(I:cE):(E.add r I).blk E.n=r:=by simp[Env.add]
theorem PM{E:Env}{H:List aa}(hn:E.n=H.length)(r:Nat)(I:cE):ap (E.add r I) (.op H.length 0) (.pointer (some ⟨r,0,none⟩)):=by
 have:=ap.op (E:=E.add r I) (id:=H.length) (off:=0) (by show _<E.n+1;rw[hn];omega);have e:(E.add r I).blk H.length=r:=by rw[<- hn];exact E.dU r I
 rwa [e]at this
def AV.parts:AV->Option (List AV)
 |.agg l=>some l
 |.aM _=>none
 |.val (.agg _)=>none
 |a=>some [a]
theorem ap.parts{E:Env}{a:AV}{v:SQ}{l:List AV}(h:ap E a v)(hp:a.parts=some l):cP E l v.cells:=by
 have one:∀a v,ap E a v->v.cells=#[v]->cP E [a] v.cells:=λa v h e=>by
  rw[e];refine⟨rfl,λi x hx=> ?_⟩;have hi:i=0:=by have:=(SM.1 hx).1;simpa using this
  subst hi;simp at hx;subst hx;simpa using h
 cases h with
 |val=>cases v<;>first|(cases hp;exact one _ _ (.val _) rfl)|cases hp
 |agg hs h=>cases hp;exact⟨hs,h⟩
 |aM hs h=>cases hp
 |sl b o cap f hc he h1 h2=>cases hp;exact one _ _ (.sl b o cap f hc he h1 h2) rfl
 |nil he=>cases hp;exact one _ _ (.nil he) rfl
 |bp hi ec=>cases hp;exact one _ _ (.bp hi ec) rfl
 |rp b o f h1 h2=>cases hp;exact one _ _ (.rp b o f h1 h2) rfl
 |op hi=>cases hp;exact one _ _ (.op hi) rfl
 |fn dN gB h1 h2=>cases hp;exact one _ _ (.fn dN gB h1 h2) rfl
 |dh h=>cases hp;exact one _ _ (.dh h) rfl
 |mp hi=>cases hp;exact one _ _ (.mp hi) rfl
def eY (P:SJ)(t:TypeId):Option SQ:=(P.info? t).bind (·.zero)
def mr (z:SQ):List AV:=z.cells.toList.map AV.p8
theorem I5(E:Env)(z:SQ):cP E (mr z) z.cells:=by
 refine⟨by simp[mr],λi a h=> ?_⟩;unfold mr at h;rw[Tn]at h;obtain⟨x,hx,rfl⟩:=Tp.1 h;have:z.cells[i]?=some x:=by simpa using hx
 rw[SH,this];exact I0 E x
section
variable {P:SJ}{V:View}{α:Type}{K:α->View->Prop}{Kp:SQ->View->Prop}
theorem Hw{t:TypeId}{z:SQ}{k:SQ->Sem α}(h:eY P t=some z)(hk:aO P V (k z) K Kp):aO P V (zeroValue t>>=k) K Kp:=by
 unfold eY at h;obtain⟨i,h1,h2⟩:=Te.1 h;refine az ?_;unfold zeroValue;refine yV h1 ?_;rw[h2];exact aq hk
end
section
variable {lv:Bool}{P:SJ}{r:Option Nat}{o:Tu}{s:AS}{next:AS->Prop}{bad:AV->AS->Prop}
theorem ac5{t:TypeId}{l:List AV}(h:∀(E:Env)(V:View)(a:Act),Conc E V s.H->cw E s.T a.tmps->∃cs,cP E l cs/\aO P V (execOp a.eval o) (λnx V'=>∃rr,V.fresh rr/\V'=V.upd rr (.cells cs t)/\nx=.value (.pointer (some ⟨rr,0,none⟩))) (λ_ _=>False))
  (hn:next ((⟨s.T,s.H++[.cells l t]⟩:AS).put o.dst (.op s.H.length 0))):Step lv P r o s next bad:=by
 intro E V a N Q hc ht hd bC h1 _;obtain⟨cs,pD,qM⟩:=h E V a hc ht;refine⟨bC,qM.mono (λnx V' hx=> ?_) (λ_ _ hx=>hx.elim)⟩;obtain⟨rr,hf,rfl,rfl⟩:=hx;have hle:E.Le (E.add rr V.ab):=E.qT rr (λb o v h=>by rw[<- hc.I];exact h);have bi:Conc (E.add rr V.ab) (V.upd rr (.cells cs t)) (s.H++[.cells l t]):=by
  refine hc.add hf _ ⟨⟨cs,?_,pD.mono hle⟩,λo=> ?_⟩ (λb e=> ?_)
  ·rw[Env.dU];simp[View.upd]
  ·rw[Env.dU];exact hf.2 o
  ·simp only[bQ,Env.dU,Tj]at e;exact e.symm
 exact h1 _ _ (a.put o.dst (.pointer (some ⟨rr,0,none⟩))) ((⟨s.T,s.H++[.cells l t]⟩:AS).put o.dst (.op s.H.length 0)) ⟨hle,ey _ _ _,put_defers _ _ _,rfl,rfl⟩ (by rw[fG];exact bi)
  (cw.iu (s:=⟨s.T,s.H++[.cells l t]⟩) (ht.mono hle) hd (PM hc.n rr V.ab)) hn
theorem ac1{t:TypeId}{x:Th}{av:AV}{l:List AV}(ho:o.op=.box t x)(hx:s.ev x=some av)(hl:av.parts=some l)(hn:next ((⟨s.T,s.H++[.cells l t]⟩:AS).put o.dst (.op s.H.length 0))):Step lv P r o s next bad:=
 ac5 (λE V a hc ht=>⟨(a.eval x).cells,(ap.ev ht hx).parts hl,by
  unfold execOp;rw[ho];dsimp only;refine az ?_;unfold Instr.box newVar newRow;refine az (az (az (o0 λrr hf=>cO (aq (aq (aq (aq ⟨rr,hf,rfl,rfl⟩)))))))⟩) hn
theorem acY{t:TypeId}{z:SQ}(ho:o.op=.alloc t)(hz:eY P t=some z)(hn:next ((⟨s.T,s.H++[.cells (mr z) t]⟩:AS).put o.dst (.op s.H.length 0))):Step lv P r o s next bad:=
 ac5 (λE V a hc ht=>⟨z.cells,I5 E z,by
  unfold execOp;rw[ho];dsimp only;refine az ?_;unfold Instr.alloc;refine Hw hz ?_;unfold newVar newRow;refine az (az (az (o0 λrr hf=>cO (aq (aq (aq (aq ⟨rr,hf,rfl,rfl⟩)))))))⟩) hn
theorem aq0{t:TypeId}(ho:o.op=.makeMap t none)(hn:next ((⟨s.T,s.H++[.obj (.map #[] 0)]⟩:AS).put o.dst (.mp s.H.length))):Step lv P r o s next bad:=by
 intro E V a N Q hc ht hd bC h1 _;refine⟨bC,?_⟩;unfold execOp;rw[ho];dsimp only;refine az ?_;unfold Instr.makeMap;refine az (o0 λrr hf=>cO (aq (aq ?_)));have hle:E.Le (E.add rr V.ab):=E.qT rr (λb o v h=>by rw[<- hc.I];exact h);have bi:Conc (E.add rr V.ab) (V.upd rr (.map #[] 0)) (s.H++[.obj (.map #[] 0)]):=by
  refine hc.add hf _ ⟨?_,rfl,rfl,λo=> ?_⟩ (λb e=> ?_)
  ·rw[Env.dU];simp[View.upd]
  ·rw[Env.dU];exact hf.2 o
  ·simp only[bQ,Env.dU,Tj]at e;exact e.symm
 have bm:ap (E.add rr V.ab) (.mp s.H.length) (.map (some rr)):=by
  have:=ap.mp (E:=E.add rr V.ab) (id:=s.H.length) (by show _<E.n+1;rw[hc.n];omega);have e:(E.add rr V.ab).blk s.H.length=rr:=by rw[<- hc.n];exact E.dU rr _
  rwa [e]at this
 exact h1 _ _ (a.put o.dst (.map (some rr))) ((⟨s.T,s.H++[.obj (.map #[] 0)]⟩:AS).put o.dst (.mp s.H.length)) ⟨hle,ey _ _ _,put_defers _ _ _,rfl,rfl⟩ (by rw[fG];exact bi)
  (cw.iu (s:=⟨s.T,s.H++[.obj (.map #[] 0)]⟩) (ht.mono hle) hd bm) hn
end
def storeAt:Array SQ->Nat->List SQ->Array SQ
 |cs,_,[]=>cs
 |cs,o,v::vs=>storeAt (cs.setIfInBounds o v) (o+1) vs
theorem yX:∀(vs:List SQ)(cs:Array SQ)(o:Nat),(storeAt cs o vs).size=cs.size
 |[],_,_=>rfl
 |v::vs,cs,o=>by rw[storeAt,yX];simp
theorem D3:∀(vs:List SQ)(cs:Array SQ)(o k:Nat),o+vs.length<=cs.size->(storeAt cs o vs).getD k undef=if o<=k/\k<o+vs.length then vs.getD (k-o) undef else cs.getD k undef
 |[],cs,o,k,_=>by
  have:¬(o<=k/\k<o+([]:List SQ).length):=by intro h;simp only[UR]at h;omega
  rw[if_neg this];rfl
 |v::vs,cs,o,k,h=>by
  simp only[Uk]at h;rw[storeAt,D3 vs _ (o+1) k (by simp;omega)];by_cases h1:k=o
  ·subst h1;rw[if_neg (by omega),if_pos (by simp)];simp[SH,S_ (show k<cs.size by omega)]
  ·by_cases h2:o+1<=k/\k<o+1+vs.length
   ·rw[if_pos h2,if_pos (by simp only[Uk];omega)];have:k-o=(k-(o+1))+1:=(by omega);rw[this];simp[SD]
   ·rw[if_neg h2,if_neg (by simp only[Uk];omega)];simp[SH,SW (Ne.symm h1)]
theorem ar7(V:View)(b:Nat)(x y:Obj):(V.upd b x).upd b y=V.upd b y:=by
 unfold View.upd;congr 1;funext k;dsimp only;split<;>rfl
theorem ar8{V:View}{b:Nat}{x:Obj}(h:V.own b=some x):V.upd b x=V:=by
 unfold View.upd;have:(λk=>if k=b then some x else V.own k)=V.own:=by
  funext k;split
  ·rename_i e;subst e;rw[h]
  ·rfl
 rw[this]
section
variable {P:SJ}{K:Unit->View->Prop}{Kp:SQ->View->Prop}{b off:Nat}{el:TypeId}
theorem A5:∀(vs:List SQ)(i:Nat)(V:View)(cs:Array SQ),V.role.group≠some b->V.role.chan≠some b->V.own b=some (.cells cs el (0,0))->(∀o,off+i<=o->o<off+i+vs.length->V.ab b o=none)->off+i+vs.length<=cs.size->(∀v∈vs,v.one=true)->
  K () (V.upd b (.cells (storeAt cs (off+i) vs) el (0,0)))->aO P V (storeCells ⟨b,off,none⟩ vs i) K Kp
 |[],i,V,cs,hg,hc,ho,hi,hl,hv,h=>by
  unfold storeCells;rw[show storeAt cs (off+i) []=cs from rfl,ar8 ho]at h;exact aq h
 |v::vs,i,V,cs,hg,hc,ho,hi,hl,hv,h=>by
  unfold storeCells;rw[add_plain];simp only[Uk]at hl hi;refine az (aqk ho (by omega) (hi _ (by omega) (by omega)) (hv v (TB ..)) (by omega) (.inl hg) hc (cO ?_));refine A5 vs (i+1) (V.upd b (.cells (cs.setIfInBounds (off+i) v) el (0,0))) (cs.setIfInBounds (off+i) v) hg hc (by simp[View.upd]) (λo h1 h2=>hi o (by omega) (by omega)) (by simp;omega) (λx hx=>hv x (Tb _ hx)) ?_;rw[ar7];exact h
end
theorem Conc.set{E:Env}{V:View}{H:List aa}(hc:Conc E V H){id:Nat}{l l':List AV}{el:TypeId}(hk:H[id]?=some (.cells l el)){eZ:Array SQ}(hd:cP E l' eZ):Conc E (V.upd (E.blk id) (.cells eZ el (0,0))) (H.set id (.cells l' el)):=by
 obtain⟨⟨cs,h1,_⟩,h3⟩:=hc.obj id _ hk;refine hc.iW id (.cells l' el) (Env.Le.refl E) hc.I (by simpa using hc.n) lN rfl (λ_ _ _=>rfl) (λb y hb hy=>⟨?_,λ_=>rfl⟩) ⟨⟨eZ,by simp[View.upd],hd⟩,h3⟩ (λb h=> .inl ⟨_,hk,h⟩);have:b≠E.blk id:=λe=>hb _ hk (by rw[e];rfl);simpa[View.upd,this]using hy
theorem ac8:∀(vs:List SQ)(cs:Array SQ)(off o:Nat),o<off->(storeAt cs off vs)[o]?=cs[o]?
 |[],_,_,_,_=>rfl
 |v::vs,cs,off,o,h=>by
  rw[storeAt,ac8 vs _ (off+1) o (by omega),SW (by omega)]
theorem Conc.DX{E:Env}{V:View}{H:List aa}(hc:Conc E V H){id p:Nat}{l l':List AV}{el:TypeId}(hk:H[id]?=some (.part p l el)){cs eZ:Array SQ}(h1:V.own (E.blk id)=some (.cells cs el (0,0)))(hd:ky E l' eZ)(hs:∀o,o<p->eZ[o]?=cs[o]?):Conc E (V.upd (E.blk id) (.cells eZ el (0,0))) (H.set id (.part p l' el)):=by
 obtain⟨⟨zG,q1,_,q2⟩,h3⟩:=hc.obj id _ hk;rw[h1]at q1;cases q1;refine hc.iW id (.part p l' el) (Env.Le.refl E) hc.I (by simpa using hc.n) lN rfl (λ_ _ _=>rfl) (λb y hb hy=>⟨?_,λ_=>rfl⟩) ⟨⟨eZ,by simp[View.upd],hd,λo ho=>(q2 o ho).trans (hs o ho).symm⟩,h3⟩ (λb h=> .inl ⟨_,hk,h⟩);have:b≠E.blk id:=λe=>hb _ hk (by rw[e];rfl);simpa[View.upd,this]using hy
theorem Conc.acI{E:Env}{V:View}{H:List aa}(hc:Conc E V H){id sz:Nat}{l l':List AV}{el:TypeId}(hk:H[id]?=some (.own sz l el)){eZ:Array SQ}(hd:ky E l' eZ)(hz:eZ.size=(E.room id 0).2* sz):Conc E (V.upd (E.blk id) (.cells eZ el (0,0))) (H.set id (.own sz l' el)):=by
 obtain⟨⟨cs,h1,_⟩,h3⟩:=hc.obj id _ hk;refine hc.iW id (.own sz l' el) (Env.Le.refl E) hc.I (by simpa using hc.n) lN rfl (λ_ _ _=>rfl) (λb y hb hy=>⟨?_,λ_=>rfl⟩) ⟨⟨eZ,by simp[View.upd],hd,hz⟩,h3⟩ (λb h=> .inl ⟨_,hk,h⟩);have:b≠E.blk id:=λe=>hb _ hk (by rw[e];rfl);simpa[View.upd,this]using hy
theorem Conc.setObj{E:Env}{V:View}{H:List aa}(hc:Conc E V H){id:Nat}{x y:Obj}(hk:H[id]?=some (.obj x))(h1:y.ve=false)(h2:y.isChan=false):Conc E (V.upd (E.blk id) y) (H.set id (.obj y)):=by
 obtain⟨p1,p2,p3,p4⟩:=hc.obj id _ hk;refine hc.iW id (.obj y) (Env.Le.refl E) hc.I (by simpa using hc.n) lN rfl (λ_ _ _=>rfl) (λb z hb hz=>⟨?_,λ_=>rfl⟩) ⟨by simp[View.upd],h1,h2,p4⟩ (λb h=> .inl ⟨_,hk,h⟩);have:b≠E.blk id:=λe=>hb _ hk (by rw[e];rfl);simpa[View.upd,this]using hz
theorem amx{E:Env}{a:AV}{v:SQ}(h:ap E a v)(hl:a.leaf=true):v.one=true:=by
 cases h with
 |val x=>exact hl
 |agg _ _=>cases hl
 |aM _ _=>cases hl
 |_=>rfl
def iT (l:List AV)(off:Nat)(lp:List AV):List AV:=l.take off++lp++l.drop (off+lp.length)
theorem I3{E:Env}{l lp:List AV}{cs vs:Array SQ}{off:Nat}(h:cP E l cs)(k:cP E lp vs)(hl:off+lp.length<=l.length):cP E (iT l off lp) (storeAt cs off vs.toList):=by
 have hv:vs.toList.length=lp.length:=by simpa using k.1
 refine⟨by rw[yX,h.1];simp[iT];omega,λi a e=> ?_⟩;rw[D3 _ _ _ _ (by rw[h.1,hv];exact hl),hv];unfold iT at e;by_cases h1:i<off
 ·rw[if_neg (by omega)];rw[SA,SY (by simp;omega),Ul,if_pos h1]at e;exact h.2 i a e
 ·by_cases h2:i<off+lp.length
  ·rw[if_pos ⟨by omega,h2⟩];rw[SY (by simp;omega),S8 (by simp;omega)]at e;have e':lp[i-off]?=some a:=by
    have:min off l.length=off:=(by omega);simpa[this]using e
   have:=k.2 _ a e';simpa[SH,SD]using this
  ·rw[if_neg (by omega)];rw[S8 (by simp;omega),Up]at e;have e':l[i]?=some a:=by
    have h3:off+lp.length+(i-(l.take off++lp).length)=i:=(by simp;omega);rw[h3]at e;exact e
   exact h.2 i a e'
theorem PR{E:Env}{l lp:List AV}{cs vs:Array SQ}{off:Nat}(h:ky E l cs)(k:cP E lp vs)(hl:off+lp.length<=l.length):ky E (iT l off lp) (storeAt cs off vs.toList):=by
 have hv:vs.toList.length=lp.length:=by simpa using k.1
 refine⟨by rw[yX];have:=h.1;simp[iT];omega,λi a e=> ?_⟩;rw[D3 _ _ _ _ (by have:=h.1;rw[hv];omega),hv];unfold iT at e;by_cases h1:i<off
 ·rw[if_neg (by omega)];rw[SA,SY (by simp;omega),Ul,if_pos h1]at e;exact h.2 i a e
 ·by_cases h2:i<off+lp.length
  ·rw[if_pos ⟨by omega,h2⟩];rw[SY (by simp;omega),S8 (by simp;omega)]at e;have e':lp[i-off]?=some a:=by
    have:min off l.length=off:=(by omega);simpa[this]using e
   have:=k.2 _ a e';simpa[SH,SD]using this
  ·rw[if_neg (by omega)];rw[S8 (by simp;omega),Up]at e;have e':l[i]?=some a:=by
    have h3:off+lp.length+(i-(l.take off++lp).length)=i:=(by simp;omega);rw[h3]at e;exact e
   exact h.2 i a e'
theorem B5{E:Env}{lp:List AV}{vs:Array SQ}(h:cP E lp vs)(nY:∀a∈lp,a.leaf=true):∀v∈vs.toList,v.one=true:=by
 intro v hv;obtain⟨j,hj⟩:=UQ.1 hv;have fE:j<lp.length:=by have:=(SM.1 hj).1;have:=h.1;simp at*;omega
 have:=h.2 j lp[j] (SO fE);have iO:vs[j]?=some v:=by simpa using hj
 rw[SH,iO]at this;exact amx this (nY _ (Wy fE))
section
variable {lv:Bool}{P:SJ}{r:Option Nat}{o:Tu}{s:AS}{next:AS->Prop}{bad:AV->AS->Prop}
theorem ac6{t:TypeId}{x y:Th}{id off n:Nat}{l lp:List AV}{el:TypeId}{g:Bool}{av:AV}(ho:o.op=.store t x y)(ht:Ty P t=some (n,g))(hx:s.ev x=some (.op id off))(hk:s.H[id]?=some (.cells l el))(hy:s.ev y=some av)(hp:av.parts=some lp)(jh:lp.length=n)(hl:off+lp.length<=l.length)
  (nY:∀a∈lp,a.leaf=true) (hn:next ((⟨s.T,s.H.set id (.cells (iT l off lp) el)⟩:AS).put o.dst (.val undef))):Step lv P r o s next bad:=by
 intro E V a N Q hc aF hd bC h1 _;obtain⟨i,d,q1,q2,rfl,q4⟩:=Ty.out ht;have dE:=ap.ev aF hx;generalize kK:a.eval x=vx at dE;cases dE with
 |op ce=>
  have bm:=(ap.ev aF hy).parts hp;obtain⟨⟨cs,p1,p2⟩,p3⟩:=hc.obj id _ hk;obtain⟨g1,g2⟩:=hc.jB hk rfl;refine⟨bC,?_⟩;unfold execOp;rw[ho];simp only[kK];refine az ?_;unfold Ye U7;refine az (aq ?_);unfold storeVar;refine kv q1 ?_;rw[if_neg (by rw[bm.1,jh];simp)];refine A5 _ 0 V cs g1 g2 p1 (λo _ _=>p3 o) (by have:=bm.1;have:=p2.1;simp;omega) (B5 bm nY) ?_;rw[UD];exact aq (h1 E _ (a.put o.dst undef) _ ⟨Env.Le.refl E,ey _ _ _,put_defers _ _ _,rfl,rfl⟩ (by rw[fG];exact hc.set hk (I3 p2 bm hl))
   (cw.iu (s:=⟨s.T,s.H.set id (.cells (iT l off lp) el)⟩) aF hd (.val undef)) hn)
theorem aq6{t:TypeId}{x y:Th}{id off n p:Nat}{l lp:List AV}{el:TypeId}{g:Bool}{av:AV}(ho:o.op=.store t x y)(ht:Ty P t=some (n,g))(hx:s.ev x=some (.op id off))(hk:s.H[id]?=some (.part p l el))(wF:p<=off)(hy:s.ev y=some av)(hp:av.parts=some lp)(jh:lp.length=n)(hl:off+lp.length<=l.length)
  (nY:∀a∈lp,a.leaf=true) (hn:next ((⟨s.T,s.H.set id (.part p (iT l off lp) el)⟩:AS).put o.dst (.val undef))):Step lv P r o s next bad:=by
 intro E V a N Q hc aF hd bC h1 _;obtain⟨i,d,q1,q2,rfl,q4⟩:=Ty.out ht;have dE:=ap.ev aF hx;generalize kK:a.eval x=vx at dE;cases dE with
 |op ce=>
  have bm:=(ap.ev aF hy).parts hp;obtain⟨⟨cs,p1,p2,p4⟩,p3⟩:=hc.obj id _ hk;obtain⟨g1,g2⟩:=hc.jB hk rfl;refine⟨bC,?_⟩;unfold execOp;rw[ho];simp only[kK];refine az ?_;unfold Ye U7;refine az (aq ?_);unfold storeVar;refine kv q1 ?_;rw[if_neg (by rw[bm.1,jh];simp)];refine A5 _ 0 V cs g1 g2 p1 (λo _ _=>p3 o (by omega)) (by have:=bm.1;have:=p2.1;simp;omega) (B5 bm nY) ?_;rw[UD];exact aq (h1 E _ (a.put o.dst undef) _ ⟨Env.Le.refl E,ey _ _ _,put_defers _ _ _,rfl,rfl⟩ (by rw[fG];exact hc.DX hk p1 (PR p2 bm hl) λo ho=>ac8 _ _ _ _ (by omega))
   (cw.iu (s:=⟨s.T,s.H.set id (.part p (iT l off lp) el)⟩) aF hd (.val undef)) hn)
theorem ac7{t:TypeId}{x y:Th}{id off n p:Nat}{l lp:List AV}{el:TypeId}{g:Bool}{av:AV}(ho:o.op=.store t x y)(ht:Ty P t=some (n,g))(hx:s.ev x=some (.op id off))(hk:s.H[id]?=some (.own p l el))(hy:s.ev y=some av)(hp:av.parts=some lp)(jh:lp.length=n)(hl:off+lp.length<=l.length)
  (nY:∀a∈lp,a.leaf=true) (hn:next ((⟨s.T,s.H.set id (.own p (iT l off lp) el)⟩:AS).put o.dst (.val undef))):Step lv P r o s next bad:=by
 intro E V a N Q hc aF hd bC h1 _;obtain⟨i,d,q1,q2,rfl,q4⟩:=Ty.out ht;have dE:=ap.ev aF hx;generalize kK:a.eval x=vx at dE;cases dE with
 |op ce=>
  have bm:=(ap.ev aF hy).parts hp;obtain⟨⟨cs,p1,p2,p4⟩,p3⟩:=hc.obj id _ hk;obtain⟨g1,g2⟩:=hc.jB hk rfl;refine⟨bC,?_⟩;unfold execOp;rw[ho];simp only[kK];refine az ?_;unfold Ye U7;refine az (aq ?_);unfold storeVar;refine kv q1 ?_;rw[if_neg (by rw[bm.1,jh];simp)];refine A5 _ 0 V cs g1 g2 p1 (λo _ _=>p3 o) (by have:=bm.1;have:=p2.1;simp;omega) (B5 bm nY) ?_;rw[UD];exact aq (h1 E _ (a.put o.dst undef) _ ⟨Env.Le.refl E,ey _ _ _,put_defers _ _ _,rfl,rfl⟩ (by rw[fG];exact hc.acI hk (PR p2 bm hl) (by rw[yX];exact p4))
   (cw.iu (s:=⟨s.T,s.H.set id (.own p (iT l off lp) el)⟩) aF hd (.val undef)) hn)
theorem Conc.kL{E:Env}{V:View}{H:List aa}(hc:Conc E V H){r:Nat}(hf:V.fresh r)(cs:Array SQ):E.Le {E with I:=(V.kL r cs).ab}/\Conc {E with I:=(V.kL r cs).ab} (V.kL r cs) H:=by
 have hle:E.Le {E with I:=(V.kL r cs).ab}:=⟨λb o v h=>by
  rw[hc.I]at h;have hb:b≠r:=λhb=>by subst hb;rw[hf.2 o]at h;cases h
  simpa[View.kL,hb]using h,SR _,λ_ _=>rfl,λ_ _=>SR _,λ_ _ _ _=>rfl,rfl,rfl⟩
 have hlt:∀(k:Nat) y,H[k]?=some y->k<E.n:=λk y h=>by rw[hc.n];exact(SM.1 h).1
 refine⟨hle,rfl,hc.n,λk x h=>(hc.obj k x h).mono hle (hlt k x h) rfl (λb y _ hb=>hb) (λb hb o=> ?_),hc.inj,λg hg=> ?_,λg hg=> ?_,hc.top,λb y hg=> ?_⟩
 ·obtain⟨y,hy⟩:=(hc.obj k x h).BW hb;have aG:b≠r:=λe=>by subst e;rw[hf.1]at hy;cases hy
  simp[View.kL,aG]
 ·obtain⟨h0,h1,h2⟩:=hc.group g hg;have aG:g≠r:=λe=>by subst e;exact h0 hf.1
  exact⟨h0,λo=>by simp[View.kL,aG,h1 o],h2⟩
 ·obtain⟨h0,h1,h2⟩:=hc.chan g hg;have aG:g≠r:=λe=>by subst e;exact h0 hf.1
  exact⟨h0,λo=>by simp[View.kL,aG,h1 o],h2⟩
 ·obtain⟨h0,h1,h2⟩:=hc.fr b y hg;have aG:b≠r:=λe=>by subst e;rw[hf.1]at h0;cases h0
  exact⟨h0,λo=>by simp[View.kL,aG,h1 o],h2⟩
theorem ap.aoD{E:Env}{V:View}{H:List aa}(hc:Conc E V H){r:Nat}(hf:V.fresh r){cs:Array SQ}{l:List AV}(h:cP E l cs){n cap:Nat}(ec:n<=cap){e:End}(he:qg {E with I:=(V.kL r cs).ab} e (some ⟨r,0,none⟩) n cap):ap {E with I:=(V.kL r cs).ab} (.sl n l e) (.slice (some ⟨r,0,none⟩) n cap):=by
 refine .sl r 0 cap (λi=>cs.getD i undef) ec he (λi hi=> ?_) λi x hx=>(h.2 i x hx).mono (hc.kL hf cs).1;have hlt:i<cs.size:=by rw[h.1];exact hi
 simp[View.kL,SH,SK hlt]
def oJ (place:Nat->Option (Nat×Nat))(cells:List AV):List (Nat×AV)->Option (List AV)
 |[]=>some cells
 |(i,a)::rest=>match place i,a.parts with
  |some (off,size),some lp=>if lp.length≠size\/off+lp.length>cells.length then none else oJ place (iT cells off lp) rest
  |_,_=>none
theorem QH:∀(vs:List SQ)(k off:Nat)(cs:Array SQ),(vs.zipIdx k).foldl (λ(cs:Array SQ) (x:SQ×Nat)=>cs.setIfInBounds (off+x.2) x.1) cs=storeAt cs (off+k) vs
 |[],_,_,_=>rfl
 |v::vs,k,off,cs=>by
  rw[List.zipIdx_cons,UX,QH vs (k+1) off];rfl
theorem B8{E:Env}{place:Nat->Option (Nat×Nat)}:∀{parts:List (Nat×AV)}{vs:List (Nat×SQ)}{l l':List AV}{cs:Array SQ},cP E l cs->parts.length=vs.length->(∀(j:Nat) p q,parts[j]?=some p->vs[j]?=some q->p.1=q.1/\ap E p.2 q.2)->
  oJ place l parts=some l'->∃eZ,Z8 place cs vs=some eZ/\cP E l' eZ
 |[],[],l,l',cs,h,_,_,e=>by cases e;exact⟨cs,rfl,h⟩
 |[],_::_,_,_,_,_,h,_,_=>by simp at h
 |_::_,[],_,_,_,_,h,_,_=>by simp at h
 |(i,a)::parts,(i',v)::vs,l,l',cs,h,hl,hp,e=>by
  obtain⟨e1,hd⟩:=hp 0 (i,a) (i',v) rfl rfl;have e1':i=i':=e1;subst e1';simp only[oJ]at e;split at e
  ·rename_i off size lp cN Lj;split at e
   ·cases e
   ·rename_i hc;have bm:=ap.parts (v:=v) hd Lj;have aY:v.cells.size=lp.length:=bm.1;have hle:off+lp.length<=l.length:=(by omega);obtain⟨eZ,h1,h2⟩:=B8 (I3 h bm hle) (by simpa using hl) (λj p q x y=>hp (j+1) p q (by simpa using x) (by simpa using y)) e;refine⟨eZ,?_,h2⟩;unfold Z8;rw[cN];simp only;rw[if_neg (by rw[aY,h.1];simp;omega)];have:=QH v.cells.toList 0 off cs;rw[UD]at this;rw[<- h1,<- this];congr 1;rw[<- Array.toList_zipIdx,Array.foldl_toList]
  ·cases e
def kC (s:AS):List (Nat×Th)->Option (List (Nat×AV))
 |[]=>some []
 |(i,x)::l=>match s.ev x,kC s l with
  |some a,some aE=>some ((i,a)::aE)
  |_,_=>none
theorem Fa{E:Env}{s:AS}{a:Act}(k:cw E s.T a.tmps):∀{l:List (Nat×Th)}{aE:List (Nat×AV)},kC s l=some aE->aE.length=(l.map λ(i,x)=>(i,a.eval x)).length/\∀(j:Nat) p q,aE[j]?=some p->(l.map λ(i,x)=>(i,a.eval x))[j]?=some q->p.1=q.1/\ap E p.2 q.2
 |[],aE,h=>by cases h;exact⟨rfl,by simp⟩
 |(i,x)::l,aE,h=>by
  simp only[kC]at h;split at h
  ·rename_i av mz h1 h2;cases h;obtain⟨nj,lM⟩:=Fa k h2;refine⟨by simpa using nj,λj p q e1 e2=> ?_⟩;cases j with
   |zero=>simp at e1 e2;subst e1 e2;exact⟨rfl,ap.ev k h1⟩
   |succ j=>exact lM j p q (by simpa using e1) (by simpa using e2)
  ·cases h
def rz (P:SJ)(t:TypeId):Option (TypeId×Nat×SQ):=match P.underlying t with
 |some (.slice e)=>(P.info? e).bind λi=>i.zero.map λz=>(e,i.size,z)
 |_=>none
def ie (z:SQ)(m:Nat):List AV:=(SZ m).map λi=>AV.p8 (z.cells[i % z.cells.size]!)
inductive iN where
 |fields (l:List (Nat×Nat))
 |elems (sz:Nat)
def iN.at:iN->Nat->Option (Nat×Nat)
 |.fields l,i=>l[i]?
 |.elems sz,i=>some (i* sz,sz)
def pc (P:SJ)(t:TypeId):Option (iN×SQ):=(eY P t).bind λz=>match P.underlying t with
 |some (.struct fs)=>(fs.toList.mapM λf=>(P.info? f.type).map λi=>(f.offset,i.size)).map λl=>(.fields l,z)
 |some (.array _ e)=>(P.info? e).map λi=>(.elems i.size,z)
 |_=>none
theorem acB{P:SJ}{V:View}{Kp:SQ->View->Prop}:∀(fs:List YT)(l:List (Nat×Nat)){K:List (Nat×Nat)->View->Prop},fs.mapM (λf=>(P.info? f.type).map λi=>(f.offset,i.size))=some l->
  K l V->aO P V (fs.mapM λf=>(do pure (f.offset,<- sizeOf f.type):Sem (Nat×Nat))) K Kp
 |[],l,K,h,hk=>by
  simp at h;subst h;rw[UC];exact aq hk
 |f::fs,l,K,h,hk=>by
  simp only[T_,Uj,TP,Te,Tj]at h;obtain⟨b,h1,bs,h2,rfl⟩:=h;obtain⟨i,hi,rfl⟩:=lz h1;rw[T_];exact az (kv hi (aq (az (acB fs bs h2 (aq hk)))))
theorem aoO{t:TypeId}{parts:Array (Nat×Th)}{pl:iN}{z:SQ}{aE:List (Nat×AV)}{l:List AV}(ho:o.op=.build t parts)(ht:pc P t=some (pl,z))(hp:kC s parts.toList=some aE)
  (hl:oJ pl.at (mr z) aE=some l):dI lv P r o s (.agg l):=
 jl (λE V a hc aF=>by
  unfold pc at ht;obtain⟨z',hz,ht⟩:=Te.1 ht;obtain⟨hlen,bm⟩:=Fa aF hp;unfold execOp;rw[ho];dsimp only;refine az ?_;unfold Instr.build;refine Hw hz ?_;split at ht
  ·rename_i fs hu;obtain⟨lp,h1,h2⟩:=lz ht;cases h2;obtain⟨eZ,nW,uM⟩:=B8 (I5 E z) hlen bm hl;refine eD hu ?_;dsimp only;have e:fs=fs.toList.toArray:=(by simp);rw[e,XX];refine az ?_;refine az (acB fs.toList lp h1 ?_);refine aq ?_;rw[VM];have e2:(λx=>lp.toArray[x]?)=iN.at (.fields lp):=(by funext x;simp[iN.at]);rw[e2,nW];exact aq (aq ⟨rfl,_,rfl,.agg uM.1 uM.2⟩)
  ·rename_i n e hu;obtain⟨i,h1,h2⟩:=lz ht;cases h2;obtain⟨eZ,nW,uM⟩:=B8 (I5 E z) hlen bm hl;refine eD hu ?_;dsimp only;refine kv h1 ?_;rw[VM];have e2:(λj=>some (j* i.size,i.size))=iN.at (.elems i.size):=rfl;rw[e2,nW];exact aq (aq ⟨rfl,_,rfl,.agg uM.1 uM.2⟩)
  ·cases ht)
theorem I4{E:Env}(z:SQ)(m:Nat):cP E (ie z m) ((WI m).map (λx=>z.cells[x % z.cells.size]!)):=by
 refine⟨by simp[ie],λj x hx=> ?_⟩;unfold ie at hx;rw[Tn]at hx;obtain⟨k,hk,rfl⟩:=Tp.1 hx;have hj:j<m:=by have:=(SM.1 hk).1;simpa using this
 have hmj:k=j:=by rw[XI hj]at hk;cases hk;rfl
 subst hmj;simp only[SH,WC,Array.getElem?_range,hj,if_true,UO,S7];exact I0 E _
theorem aoP{t e:TypeId}{len sz:Nat}{z:SQ}{parts:Array (Nat×Th)}{aE:List (Nat×AV)}{l:List AV}(ho:o.op=.buildSlice t len parts)(ht:rz P t=some (e,sz,z))(aY:len* sz<=2^24)(hp:kC s parts.toList=some aE)
  (hl:oJ (iN.at (.elems sz)) (ie z (len* sz)) aE=some l):dI lv P r o s (.sl len l .exact):=by
 intro E V a N Q hc aF bC h1;unfold rz at ht;split at ht
 ·rename_i e' hu;obtain⟨i,hi,ht⟩:=Te.1 ht;obtain⟨z',hz,ht⟩:=Tp.1 ht;cases ht;refine⟨bC,?_⟩;unfold execOp;rw[ho];dsimp only;refine az ?_;unfold Instr.buildSlice;refine eD hu ?_;dsimp only;refine kv hi ?_;rw[if_neg (by omega)];obtain⟨hlen,bm⟩:=Fa aF hp;obtain⟨eZ,nW,uM⟩:=B8 (I4 (E:=E) z (len* i.size)) hlen bm hl;have fin:∀(rr:Nat),V.fresh rr->aO P (V.upd rr (.cells eZ e)) (pure (W1 (.slice (some ⟨rr,0,none⟩) len len))) (m9 lv P r o a N Q) (λv V'=>Q (.panic [{v,recovered:=false}]) a V'):=λrr hf=>
   aO.ghost (ajt hf (hc.ajj hf.1).1) (aq (h1 _ _ _ (hc.kL hf eZ).1 rfl rfl (hc.kL hf eZ).2 (ap.aoD hc hf uM (SR _) rfl)))
  have e2:(λj=>some (j* i.size,i.size))=iN.at (.elems i.size):=rfl;rw[e2];by_cases h0:len* i.size=0
  ·rw[if_pos h0];refine az (aq ?_);rw[h0]at nW⊢;rw[show WI 0=#[]from rfl]at nW⊢;simp only[List.map_toArray,List.map_nil,VM]at nW⊢;rw[nW];unfold newRow;exact az (az (az (o0 λrr hf=>cO (aq (aq (aq (fin rr hf)))))))
  ·rw[if_neg h0];refine az (az ?_);unfold typeInfo;refine az (qX (cO ?_));rw[hi];refine aq ?_;rw[hz];refine aq (az (aq ?_));rw[VM,nW];unfold newRow;exact az (az (az (o0 λrr hf=>cO (aq (aq (aq (fin rr hf)))))))
 ·cases ht
end
open Go.Conc
def abp (P:SJ)(t:TypeId):Bool:=match P.underlying t with
 |some (.int _)=>false
 |some _=>true
 |none=>false
def j3 (P:SJ)(t t':TypeId):Option (TypeId×Nat×SQ):=match P.underlying t with
 |some (.slice e)=>(P.info? e).bind λi=>i.zero.bind λz=>if z.cells.size=i.size/\i.bytes<=2^16/\i.bytes≠0/\abp P t'=true then some (e,i.size,z)else none
 |_=>none
theorem j3.out{P:SJ}{t t' e:TypeId}{sz:Nat}{z:SQ}(h:j3 P t t'=some (e,sz,z)):∃i d,P.underlying t=some (.slice e)/\P.info? e=some i/\i.zero=some z/\i.size=sz/\z.cells.size=sz/\i.bytes<=2^16/\i.bytes≠0/\P.underlying t'=some d/\(∀k,d≠ .int k):=by
 unfold j3 at h;split at h
 ·rename_i e' hu;obtain⟨i,h1,h⟩:=Te.1 h;obtain⟨z',h2,h⟩:=Te.1 h;split at h
  ·rename_i hc;obtain⟨c1,c2,c3,c4⟩:=hc;cases h;unfold abp at c4;split at c4
   ·cases c4
   ·rename_i d hd aG;exact⟨i,d,hu,h1,h2,rfl,c1,c2,c3,aG,λk e=>hd k e⟩
   ·cases c4
  ·cases h
 ·cases h
def AS.src (s:AS)(sz:Nat):AV->Option (Nat×List AV)
 |.sl m l _=>some (m,l.take (m* sz))
 |.bp id off m _=>match s.H[id]?with
  |some (.cells l _)|some (.part _ l _)|some (.own _ l _)=>some (m,(l.drop off).take (m* sz))
  |_=>none
 |_=>none
section
variable {P:SJ}{E:Env}{V:View}{s:AS}{K:Array SQ->View->Prop}{Kp:SQ->View->Prop}
theorem EX{l:List AV}{f:Nat->SQ}{n:Nat}(hn:n<=l.length)(h:∀(i:Nat) x,l[i]?=some x->ap E x (f i)):cP E (l.take n) ((SZ n).map f).toArray:=by
 have:=I2 hn h;cases this with
 |agg h1 h2=>exact⟨h1,h2⟩
theorem DU(hc:Conc E V s.H){av:AV}{v:SQ}(hd:ap E av v){sz m k:Nat}{l:List AV}(h:s.src sz av=some (m,l))(hl:l.length=m* sz)(hk:k<=m)(hK:∀cs,cP E (l.take (k* sz)) cs->K cs V):aO P V (Vu sz k v) K Kp:=by
 have hks:k* sz<=m* sz:=Uh _ hk;cases hd with
 |sl b o cap f ec he h1 h2=>
  cases h;rename_i l _;simp only[Uf]at hl;have e:(l.take (m* sz)).take (k* sz)=l.take (k* sz):=by rw[UZ];congr 1;omega
  rw[e]at hK;unfold Vu;exact A3 (f:=f) (λhp=>(hc.aay (h1 0 (by omega))).1) (λj hj=>by unfold View.get;rw[<- hc.I,h1 j (by omega)]) (hK _ (EX (by omega) h2))
 |nil he=>
  cases h;have:k=0:=by omega
  subst this;have hK:=hK #[] ⟨by simp,by simp⟩;unfold Vu;split
  ·rw[Z0];exact aq hK
  ·exact aq hK
  ·rename_i h;cases h
  ·rename_i a _ _ h1 h2 _;cases a with
   |none=>exact(h2 _ _ rfl).elim
   |some x=>exact(h1 _ _ _ rfl).elim
 |bp hi ec=>
  rename_i id off m' cap cap';simp only[AS.src]at h;cases hq:s.H[id]?with
  |none=>rw[hq]at h;cases h
  |some ob=>
   rw[hq]at h;cases ob with
   |cells l' el=>
    cases h;obtain⟨⟨cs,ho,hs,bm⟩,l7⟩:=hc.obj id _ hq;simp only[Uf,Uo]at hl;have e:((l'.drop off).take (m* sz)).take (k* sz)=(l'.drop off).take (k* sz):=(by rw[UZ];congr 1;omega);rw[e]at hK;unfold Vu;refine A3 (f:=λi=>cs.getD (off+i) undef) (λ_=>(hc.jB hq rfl).1) (λj hj=> ?_) (hK _ (EX (by simp only[Uo];omega) λi x hx=> ?_))
    ·unfold View.get;rw[l7,ho];have hlt:off+j<cs.size:=(by omega);simp only[SH,SK hlt,S7]
    ·rw[Up]at hx;exact bm _ _ hx
   |part p l' el=>
    cases h;obtain⟨⟨cs,ho,⟨hs,bm⟩,n9⟩,l7⟩:=hc.obj id _ hq;simp only[Uf,Uo]at hl;have e:((l'.drop off).take (m* sz)).take (k* sz)=(l'.drop off).take (k* sz):=(by rw[UZ];congr 1;omega);rw[e]at hK;unfold Vu;refine A3 (f:=λi=>cs.getD (off+i) undef) (λ_=>(hc.jB hq rfl).1) (λj hj=> ?_) (hK _ (EX (by simp only[Uo];omega) λi x hx=> ?_))
    ·have hlt:off+j<cs.size:=(by omega);unfold View.get;by_cases hp:off+j<p
     ·rw[n9 _ hp];simp only[SH,SK hlt,S7]
     ·rw[l7 _ (by omega),ho];simp only[SH,SK hlt,S7]
    ·rw[Up]at hx;exact bm _ _ hx
   |own eP l' el=>
    cases h;obtain⟨⟨cs,ho,⟨hs,bm⟩,_⟩,l7⟩:=hc.obj id _ hq;simp only[Uf,Uo]at hl;have e:((l'.drop off).take (m* sz)).take (k* sz)=(l'.drop off).take (k* sz):=(by rw[UZ];congr 1;omega);rw[e]at hK;unfold Vu;refine A3 (f:=λi=>cs.getD (off+i) undef) (λ_=>(hc.jB hq rfl).1) (λj hj=> ?_) (hK _ (EX (by simp only[Uo];omega) λi x hx=> ?_))
    ·have hlt:off+j<cs.size:=(by omega);unfold View.get;rw[l7,ho];simp only[SH,SK hlt,S7]
    ·rw[Up]at hx;exact bm _ _ hx
   |_=>cases h
 |_=>cases h
theorem Hz{av:AV}{v:SQ}(hd:ap E av v){sz m:Nat}{l:List AV}(h:s.src sz av=some (m,l)):aud v=pure m:=by
 cases hd with
 |sl=>cases h;rfl
 |nil=>cases h;rfl
 |bp=>
  simp only[AS.src]at h;split at h
  ·cases h;rfl
  ·cases h;rfl
  ·cases h;rfl
  ·cases h
 |_=>cases h
end
theorem QV(vu:Nat):∀(r c:Nat),c<=2* vu+200->Zm vu r c<=2* vu+200
 |0,c,h=>h
 |r+1,c,h=>by
  unfold Zm;split
  ·exact h
  ·exact QV vu r _ (by omega)
theorem anC(vu cap:Nat)(h:cap<vu):WY vu cap<=2* vu+200:=by
 unfold WY;split
 ·omega
 ·split
  ·omega
  ·exact QV vu 4 cap (by omega)
theorem B4{E:Env}{l m:List AV}{x y:Array SQ}(h:cP E l x)(k:cP E m y):cP E (l++m) (x++y):=by
 refine⟨by simp[h.1,k.1],λi a e=> ?_⟩;by_cases hi:i<l.length
 ·rw[SY hi]at e;have:=h.2 i a e;rw[SH,X8 (by rw[h.1];exact hi)];rwa [SH]at this
 ·rw[S8 (by omega)]at e;have:=k.2 _ a e;rw[SH,X4 (by rw[h.1];omega),h.1];rwa [SH]at this
theorem NG{P:SJ}{V:View}{α:Type}{K:α->View->Prop}{Kp:SQ->View->Prop}{b:Bool}{k:Bool->Sem α}(hb:b=false)(h:aO P V (k false) K Kp):aO P V (pure b>>=k) K Kp:=by
 subst hb;exact az (aq h)
section
variable {P:SJ}{E:Env}{V:View}{s:AS}{K:SQ->View->Prop}{Kp:SQ->View->Prop}
theorem acx{n:Nat}{K:Unit->View->Prop}(h:K () V):aO P V (askRoom n) K Kp:=by
 unfold askRoom;split
 ·exact aqh (cO h)
 ·exact aq h
theorem acw(hc:Conc E V s.H){t t' e:TypeId}{sz n m cap:Nat}{z:SQ}{base:Option U1}{av:AV}{v:SQ}{ax:AV}{l l':List AV}{ty:TypeId}(ht:j3 P t t'=some (e,sz,z))(hd:ap E ax (.slice base n cap))(cH:s.src sz ax=some (n,l))(cG:ap E av v)(hs:s.src sz av=some (m,l'))
  (hl:l.length=n* sz) (eW:l'.length=m* sz) (hb:n+m<=2^30) (KN:cap<n+m)
  (hK:∀r cs cap',V.fresh r->cP E (l++l') (cs.extract 0 ((n+m)* sz))->n+m<=cap'->cs.size=cap'* sz->K (.slice (some ⟨r,0,none⟩) (n+m) cap') (V.upd r (.cells cs e))):aO P V (VA #[t,t'] ty #[.slice base n cap,v]) K Kp:=by
 obtain⟨i,d,h1,h2,h3,h4,h5,h6,h7,h8,h9⟩:=j3.out ht;unfold VA;simp only[Vb,Vq,UM];refine eD h1 ?_;dsimp only;refine kv h2 ?_;rw[h4];refine eD h8 ?_;refine NG (by cases d<;>first|rfl|exact absurd rfl (h9 _)) ?_;simp only[TM,if_false,YA,if_true];rw[Hz cG hs];refine az (aq ?_);rw[if_neg (by omega)];refine yV h2 ?_;rw[if_neg (by intro hx;exact hx.2.elim (λx=>x.elim) h7)];refine yV h2 ?_;have ec:=anC (n+m) cap KN;have hmul:WY (n+m) cap* i.bytes<=(2* 2^30+200)* 2^16:=ZK (by omega) h6;rw[if_neg (by omega)];refine az (acz (λhf=>by cases hf) (λ_ t=>cO ?_));generalize jv:Zr (.appendCap (n+m) cap e) t=cap';have FJ:n+m<=cap':=by rw[<- jv];exact Nat.le_add_right _ _
 refine yV h2 (az (acx (az ?_)));refine DU hc hd cH hl (SR _) λzG Kt=> ?_;refine az (DU hc cG hs eW (SR _) λjM lD=> ?_);refine Hw (z:=z) (by unfold eY;rw[h2];exact h3) ?_;rw[<- hl,TQ]at Kt;rw[<- eW,TQ]at lD;unfold newRow;refine az (az (o0 λr hf=>cO (aq (aq ?_))));have alz:zG.size=n* sz:=by rw[Kt.1,hl]
 have Ay:jM.size=m* sz:=by rw[lD.1,eW]
 have aY:(zG++jM).size=(n+m)* sz:=by rw[Xy,alz,Ay,U9]
 refine hK r _ cap' hf ?_ FJ ?_
 ·have e1:(zG++jM++Xh z.cells (cap'-(n+m))).extract 0 ((n+m)* sz)=zG++jM:=by
   rw[<- aY];generalize zG++jM=q;apply VE;simp[Array.toList_extract,List.extract_eq_take_drop]
  rw[e1];exact B4 Kt lD
 ·rw[Xy,aY];have:(Xh z.cells (cap'-(n+m))).size=(cap'-(n+m))* sz:=by simp[Xh,h5]
  rw[this,<- U9];congr 1;omega
theorem Hu(hc:Conc E V s.H){t t' e:TypeId}{sz n m cap:Nat}{z:SQ}{base:Option U1}{av:AV}{v:SQ}{en:End}{l l':List AV}{ty:TypeId}(ht:j3 P t t'=some (e,sz,z))(hd:ap E (.sl n l en) (.slice base n cap))(cG:ap E av v)(hs:s.src sz av=some (m,l'))
  (hl:l.length=n* sz) (eW:l'.length=m* sz) (hb:n+m<=2^30) (KN:cap<n+m)
  (hK:∀r cs cap',V.fresh r->cP E (l++l') (cs.extract 0 ((n+m)* sz))->n+m<=cap'->cs.size=cap'* sz->K (.slice (some ⟨r,0,none⟩) (n+m) cap') (V.upd r (.cells cs e))):aO P V (VA #[t,t'] ty #[.slice base n cap,v]) K Kp:=
 acw hc ht hd (by simp only[AS.src];rw[<- hl,TQ]) cG hs hl eW hb KN hK
theorem Hv(hc:Conc E V s.H){t t' e:TypeId}{sz n cap:Nat}{z:SQ}{base:Option U1}{av:AV}{v:SQ}{l':List AV}{ty:TypeId}(ht:j3 P t t'=some (e,sz,z))(cG:ap E av v)(hs:s.src sz av=some (0,l'))
  (eW:l'.length=0* sz) (hle:n<=cap) (hK:K (.slice base n cap) V):aO P V (VA #[t,t'] ty #[.slice base n cap,v]) K Kp:=by
 obtain⟨i,d,h1,h2,h3,h4,h5,h6,h7,h8,h9⟩:=j3.out ht;unfold VA;simp only[Vb,Vq,UM];refine eD h1 ?_;dsimp only;refine kv h2 ?_;rw[h4];refine eD h8 ?_;refine NG (by cases d<;>first|rfl|exact absurd rfl (h9 _)) ?_;simp only[TM,if_false,YA,if_true];rw[Hz cG hs];refine az (aq ?_);rw[if_pos (by omega)];refine az (DU hc cG hs eW (SR _) λjM lD=> ?_);have Ay:jM=#[]:=by
  have:=lD.1;apply Array.eq_empty_of_size_eq_zero;rw[this];simp
 subst Ay;rw[UD];cases base with
 |none=>exact aq hK
 |some a=>
  dsimp only;unfold storeCells;exact az (aq (aq hK))
theorem acv(hc:Conc E V s.H){t t' e:TypeId}{sz n m cap:Nat}{z:SQ}{b:Nat}{av:AV}{v:SQ}{l':List AV}{ty:TypeId}{cs:Array SQ}{el:TypeId}(ht:j3 P t t'=some (e,sz,z))(cG:ap E av v)(hs:s.src sz av=some (m,l'))
  (eW:l'.length=m* sz) (hle:n+m<=cap) (ho:V.own b=some (.cells cs el (0,0))) (aY:cap* sz<=cs.size) (hi:∀o,n* sz<=o->V.ab b o=none) (hg:V.role.group≠some b/\V.role.chan≠some b) (nY:∀a∈l',a.leaf=true)
  (hK:∀jM,cP E l' jM->K (.slice (some ⟨b,0,none⟩) (n+m) cap) (V.upd b (.cells (storeAt cs (n* sz) jM.toList) el (0,0)))):aO P V (VA #[t,t'] ty #[.slice (some ⟨b,0,none⟩) n cap,v]) K Kp:=by
 obtain⟨i,d,h1,h2,h3,h4,h5,h6,h7,h8,h9⟩:=j3.out ht;unfold VA;simp only[Vb,Vq,UM];refine eD h1 ?_;dsimp only;refine kv h2 ?_;rw[h4];refine eD h8 ?_;refine NG (by cases d<;>first|rfl|exact absurd rfl (h9 _)) ?_;simp only[TM,if_false,YA,if_true];rw[Hz cG hs];refine az (aq ?_);rw[if_pos (by omega)];refine az (DU hc cG hs eW (SR _) λjM lD=> ?_);rw[<- eW,TQ]at lD;rw[add_plain];have uY:(n+m)* sz<=cap* sz:=Uh _ hle;rw[U9]at uY;refine az (A5 _ 0 V cs hg.1 hg.2 ho (λo h _=>hi o (by omega)) (by have:=lD.1;simp;omega) (B5 lD nY) ?_);rw[Wr,UD];exact aq (hK jM lD)
end
def Env.tok (E:Env)(I:cE)(rm:Option U1×Nat)(v:Nat):Env:={E with I:=I,n:=E.n+1,room:=λk u=>if k=E.n/\u=v then rm else E.room k u,fQ:=λk=>if k=E.n then v else E.fQ k}
theorem Env.Mw(E:Env){I:cE}(hI:∀b o v,E.I b o=some v->I b o=some v)(rm:Option U1×Nat)(v:Nat):E.Le (E.tok I rm v):=
 ⟨hI,YZ _,λk hk=>rfl,λk hk=>by simp[Env.tok,V_ hk],λk u hk _=>by simp[Env.tok,V_ hk],rfl,rfl⟩
def Env.grow (E:Env)(I:cE)(k:Nat)(rm:Option U1×Nat)(v:Nat):Env:={E with I:=I,room:=λj u=>if j=k/\u=v then rm else E.room j u,fQ:=λj=>if j=k then v else E.fQ j}
theorem Env.aaQ(E:Env){I:cE}(hI:∀b o v,E.I b o=some v->I b o=some v){k:Nat}(rm:Option U1×Nat){v:Nat}(hv:E.fQ k<v):E.Le (E.grow I k rm v):=
 ⟨hI,SR _,λ_ _=>rfl,λj _=>by
  simp only[Env.grow];split
  ·rename_i e;subst e;omega
  ·exact SR _,λj u _ hu=>by
  simp only[Env.grow];split
  ·rename_i e;obtain⟨rfl,rfl⟩:=e;omega
  ·rfl,rfl,rfl⟩
open Go.Conc
abbrev View.laid (V:View)(b:Nat)(cs:Array SQ)(el:TypeId)(p:Nat->Bool):View:=(V.upd b (.cells cs el (0,0))).eX b cs p
theorem Ms{V:View}{b b':Nat}{cs:Array SQ}{el:TypeId}{p:Nat->Bool}(h:b'≠b):(V.laid b cs el p).own b'=V.own b':=by simp[View.laid,View.eX,View.upd,h]
theorem Mr{V:View}{b b':Nat}{cs:Array SQ}{el:TypeId}{p:Nat->Bool}(h:b'≠b)(o:Nat):(V.laid b cs el p).ab b' o=V.ab b' o:=by simp[View.laid,View.eX,View.upd,h]
theorem GF{V:View}{b:Nat}{cs:Array SQ}{el:TypeId}{p:Nat->Bool}(hp:∀o,p o=true->V.ab b o=none):∀b' o v,V.ab b' o=some v->(V.laid b cs el p).ab b' o=some v:=λb' o v h=>by
 have hn:¬(b'=b/\p o=true):=λhb=>by obtain⟨rfl,h2⟩:=hb;rw[hp o h2]at h;cases h
 simp only[View.laid,View.eX,View.upd,if_neg hn];exact h
theorem GD{V:View}{b:Nat}{cs:Array SQ}{el:TypeId}{p:Nat->Bool}{o:Nat}(h:p o=true):(V.laid b cs el p).ab b o=cs[o]?:=by simp[View.laid,View.eX,h]
theorem Mt{V:View}{b:Nat}{cs:Array SQ}{el:TypeId}{p:Nat->Bool}:(V.laid b cs el p).own b=some (.cells cs el (0,0)):=by simp[View.laid,View.eX,View.upd]
theorem I1{E:Env}{I:cE}{b n cap:Nat}{cs:Array SQ}{l:List AV}{e:End}{sz:Nat}(hI:E.I=I)(hd:cP E l (cs.extract 0 (n* sz)))(hl:l.length=n* sz)(hs:n* sz<=cs.size)(hi:∀o,o<n* sz->I b o=cs[o]?)(hc:n<=cap)(he:qg E e (some ⟨b,0,none⟩) n cap):ap E (.sl n l e) (.slice (some ⟨b,0,none⟩) n cap):=by
 refine .sl b 0 cap (λi=>cs.getD i undef) hc he (λi h=> ?_) (λi x hx=> ?_)
 ·rw[hl]at h;have hlt:i<cs.size:=by omega
  rw[hI,Wr,hi i h];simp only[SH,SK hlt,S7]
 ·have cu:i<n* sz:=by rw[<- hl];exact(SM.1 hx).1
  have:=hd.2 i x hx;have hlt:i<cs.size:=by omega
  rw[SH,SK hlt];rw[SH]at this;rw[Array.getElem?_extract]at this;have FZ:i<min (n* sz) cs.size:=by omega
  simpa[cu,hlt,FZ]using this
section
variable {E:Env}{V:View}{H:List aa}
theorem Conc.N1(hc:Conc E V H){n:Nat}(sz:Nat)(el:TypeId)(a:Option U1):Conc (E.tok V.ab (a,n) n) V (H++[.tail n sz el])/\E.Le (E.tok V.ab (a,n) n):=by
 have hle:=E.Mw (I:=V.ab) (λb o v h=>by rw[<- hc.I];exact h) (a,n) n;refine⟨hc.iW H.length (.tail n sz el) hle rfl (by simp[Env.tok,hc.n]) Dp rfl (λj hj _=>by simp[Env.tok,hc.n,hj]) (λb y _ hy=>⟨hy,λ_=>rfl⟩) ?_ (λb h=> ?_),hle⟩
 ·rw[<- hc.n];exact⟨by simp[Env.tok],.inl (by simp[Env.tok])⟩
 ·rw[<- hc.n]at h;simp[bQ,Env.tok]at h
theorem Conc.adn(hc:Conc E V H){r n cap sz:Nat}{el:TypeId}{cs:Array SQ}(hf:V.fresh r)(hs:cs.size=cap* sz)(hn:n<=cap):
  Conc (E.tok (V.laid r cs el (·<n* sz)).ab (some ⟨r,0,none⟩,cap) n) (V.laid r cs el (·<n* sz)) (H++[.tail n sz el])/\E.Le (E.tok (V.laid r cs el (·<n* sz)).ab (some ⟨r,0,none⟩,cap) n):=by
 have hle:=E.Mw (I:=(V.laid r cs el (·<n* sz)).ab) (λb o v h=>GF (λo _=>hf.2 o) b o v (by rw[<- hc.I];exact h)) (some ⟨r,0,none⟩,cap) n;refine⟨hc.iW H.length (.tail n sz el) hle rfl (by simp[Env.tok,hc.n]) Dp rfl (λj hj _=>by simp[Env.tok,hc.n,hj]) (λb y _ hy=> ?_) ?_ (λb h=> .inr ?_),hle⟩
 ·have hb:b≠r:=λe=>by subst e;rw[hf.1]at hy;cases hy
  exact⟨by rw[Ms hb];exact hy,λo=>Mr hb o⟩
 ·rw[<- hc.n];refine⟨by simp[Env.tok],?_⟩;by_cases e:cap=n
  ·exact .inl (by simp[Env.tok,e])
  ·refine .inr ⟨r,cap,cs,by simp[Env.tok],Mt,hs,by omega,λo ho=> ?_⟩;have:¬(decide (o<n* sz)=true):=(by simpa using ho);simp only[View.laid,View.eX];rw[if_neg (λx=>this x.2)];exact hf.2 o
 ·rw[<- hc.n]at h;simp[bQ,Env.tok]at h;obtain⟨_,rfl⟩:=h;exact hf.1
theorem Conc.ajx(hc:Conc E V H){k r n n' cap sz:Nat}{el ij:TypeId}{cs:Array SQ}(hk:H[k]?=some (.tail n sz ij))(hf:V.fresh r)(hs:cs.size=cap* sz)(hn:n'<=cap)(hlt:n<n'):
  Conc (E.grow (V.laid r cs el (·<n'* sz)).ab k (some ⟨r,0,none⟩,cap) n') (V.laid r cs el (·<n'* sz)) (H.set k (.tail n' sz el))/\E.Le (E.grow (V.laid r cs el (·<n'* sz)).ab k (some ⟨r,0,none⟩,cap) n'):=by
 have AC:E.fQ k=n:=(hc.obj k _ hk).1;have hle:=E.aaQ (I:=(V.laid r cs el (·<n'* sz)).ab) (λb o v h=>GF (λo _=>hf.2 o) b o v (by rw[<- hc.I];exact h)) (k:=k) (some ⟨r,0,none⟩,cap) (v:=n') (by omega);refine⟨hc.iW k (.tail n' sz el) hle rfl (by simpa[Env.grow]using hc.n) lN rfl (λj hj _=>by simp[Env.grow,hj]) (λb y _ hy=> ?_) ?_ (λb h=> .inr ?_),hle⟩
 ·have hb:b≠r:=λe=>by subst e;rw[hf.1]at hy;cases hy
  exact⟨by rw[Ms hb];exact hy,λo=>Mr hb o⟩
 ·refine⟨by simp[Env.grow],?_⟩;by_cases e:cap=n'
  ·exact .inl (by simp[Env.grow,e])
  ·refine .inr ⟨r,cap,cs,by simp[Env.grow],Mt,hs,by omega,λo ho=> ?_⟩;have:¬(decide (o<n'* sz)=true):=(by simpa using ho);simp only[View.laid,View.eX];rw[if_neg (λx=>this x.2)];exact hf.2 o
 ·simp[bQ,Env.grow]at h;obtain⟨_,rfl⟩:=h;exact hf.1
theorem Conc.ajy(hc:Conc E V H){k b n n' cap sz:Nat}{el ij:TypeId}{cs eZ:Array SQ}(hk:H[k]?=some (.tail n sz ij))(hrm:E.room k n=(some ⟨b,0,none⟩,cap))(ho:V.own b=some (.cells cs el (0,0)))(hi:∀o,n* sz<=o->V.ab b o=none)(hs:eZ.size=cap* sz)(hn:n'<=cap)(hlt:n<n'):
  Conc (E.grow (V.laid b eZ el (λo=>n* sz<=o&&o<n'* sz)).ab k (some ⟨b,0,none⟩,cap) n') (V.laid b eZ el (λo=>n* sz<=o&&o<n'* sz)) (H.set k (.tail n' sz el))/\E.Le (E.grow (V.laid b eZ el (λo=>n* sz<=o&&o<n'* sz)).ab k (some ⟨b,0,none⟩,cap) n'):=by
 have AC:E.fQ k=n:=(hc.obj k _ hk).1;have hp:∀o,(λo=>decide (n* sz<=o)&&decide (o<n'* sz)) o=true->V.ab b o=none:=λo h=>hi o (by simp at h;exact h.1);have hle:=E.aaQ (I:=(V.laid b eZ el (λo=>n* sz<=o&&o<n'* sz)).ab) (λb o v h=>GF hp b o v (by rw[<- hc.I];exact h)) (k:=k) (some ⟨b,0,none⟩,cap) (v:=n') (by omega);have kU:bQ E k (.tail n sz ij)=some b:=by
  simp only[bQ,hrm];rw[if_neg (by omega)];rfl
 refine⟨hc.iW k (.tail n' sz el) hle rfl (by simpa[Env.grow]using hc.n) lN rfl (λj hj _=>by simp[Env.grow,hj]) (λb' y fM hy=> ?_) ?_ (λb' h=> .inl ⟨_,hk,?_⟩),hle⟩
 ·have hb:b'≠b:=λe=>by subst e;exact fM _ hk kU
  exact⟨by rw[Ms hb];exact hy,λo=>Mr hb o⟩
 ·refine⟨by simp[Env.grow],?_⟩;by_cases e:cap=n'
  ·exact .inl (by simp[Env.grow,e])
  ·have F2:n* sz<=n'* sz:=Uh _ (by omega);refine .inr ⟨b,cap,eZ,by simp[Env.grow],Mt,hs,by omega,λo bc=> ?_⟩;have:¬((decide (n* sz<=o)&&decide (o<n'* sz))=true):=(by simp;omega);simp only[View.laid,View.eX];rw[if_neg (λx=>this x.2)];exact hi o (by omega)
 ·simp[bQ,Env.grow]at h;obtain⟨_,rfl⟩:=h;exact kU
end
section
variable {lv:Bool}{P:SJ}{r:Option Nat}{o:Tu}{s:AS}{next:AS->Prop}{bad:AV->AS->Prop}
def Bi (s:AS)(dst:Option Nat)(next:AS->Prop)(n m sz:Nat)(elem:TypeId)(l l':List AV):End->Prop
 |.exact=>next ((⟨s.T,s.H++[.tail (n+m) sz elem]⟩:AS).put dst (.sl (n+m) (l++l') (.opn s.H.length)))
 |.opn k=>(match s.H[k]?with
   |some (.tail n' eP ij)=>n'=n/\eP=sz/\ij=elem
   |_=>False)/\(∀a∈l',a.leaf=true)/\next ((⟨s.T,s.H.set k (.tail (n+m) sz elem)⟩:AS).put dst (.sl (n+m) (l++l') (.opn k)))
 |.shut=>m=0/\next (s.put dst (.sl n l .shut))
theorem agQ{E E':Env}{n:Nat}{l:List AV}{en:End}{base:Option U1}{cap:Nat}(h:ap E (.sl n l en) (.slice base n cap))(hl:E.Le E'){e':End}(he:qg E' e' base n cap):ap E' (.sl n l e') (.slice base n cap):=by
 cases h with
 |sl b o cap f hc _ h1 h2=>exact .sl b o cap f hc he (λi hi=>hl.I _ _ _ (h1 i hi)) (λi x hx=>(h2 i x hx).mono hl)
 |nil _=>exact .nil he
theorem step_append{c:Xn}{x y:Th}{t t' elem:TypeId}{sz n m:Nat}{z:SQ}{en:End}{l l':List AV}{av:AV}(ho:o.op=.call c)(aZ:c.callee=.builtin .append)(cS:c.args=#[x,y]) (dG:c.argTypes=#[t,t']) (ht:j3 P t t'=some (elem,sz,z))
  (hx:s.ev x=some (.sl n l en)) (hy:s.ev y=some av) (hs:s.src sz av=some (m,l')) (hl:l.length=n* sz) (eW:l'.length=m* sz) (hb:n+m<=2^30) (hn:Bi s o.dst next n m sz elem l l' en):Step lv P r o s next bad:=by
 intro E V a N Q hc aF hd bC h1 _;refine⟨bC,?_⟩;have dE:=ap.ev aF hx;have jc:=ap.ev aF hy;generalize kK:a.eval x=vx at dE;generalize sf:a.eval y=vy at jc;unfold execOp;rw[ho];dsimp only;unfold resolve;rw[aZ];dsimp only;refine az (aq ?_);unfold invoke builtin;dsimp only;refine az ?_;have nZ:c.args.map a.eval=#[vx,vy]:=by rw[cS];simp[kK,sf]
 rw[nZ,dG];obtain⟨base,cap,rfl⟩:∃base cap,vx=.slice base n cap:=by
  cases dE with
  |sl b o cap f ec he q1 q2=>exact⟨_,_,rfl⟩
  |nil he=>exact⟨_,_,rfl⟩
 have ec:n<=cap:=by
  cases dE with
  |sl b o cap f ec he q1 q2=>exact ec
  |nil he=>exact SR _
 have fin:∀E' V' H' (na:AV) v',E.Le E'->V'.role=V.role->V'.deaf=V.deaf->Conc E' V' H'->ap E' na v'->next ((⟨s.T,H'⟩:AS).put o.dst na)->aO P V' (pure (W1 v')) (m9 lv P r o a N Q) (λv V'=>Q (.panic [{v,recovered:=false}]) a V'):=λE' V' H' na v' hle hr uN bi bm dl=>
  aq (h1 E' V' (a.put o.dst v') ((⟨s.T,H'⟩:AS).put o.dst na) ⟨hle,ey _ _ _,put_defers _ _ _,hr,uN⟩ (by rw[fG];exact bi) (cw.iu (s:=⟨s.T,H'⟩) (aF.mono hle) hd bm) dl)
 have tR:(l++l').length=(n+m)* sz:=by rw[SP,hl,eW,U9]
 cases en with
 |exact=>
  have fX:cap=n:=by
   cases dE with
   |sl b o cap f ec he q1 q2=>exact he
   |nil he=>rfl
  subst fX;have jh:=hn;simp only[Bi]at jh;by_cases hm:m=0
  ·subst hm;have tI:l'=[]:=(by simpa using eW);subst tI;refine Hv hc ht jc hs eW (SR _) ?_;obtain⟨bi,hle⟩:=hc.N1 (n:=cap) sz elem base;refine fin _ V _ _ _ hle rfl rfl bi (agQ (e':=.opn s.H.length) dE hle ⟨?_,?_,?_⟩) (by simpa using jh)
   ·simp[Env.tok,hc.n]
   ·simp[Env.tok,hc.n]
   ·simp[Env.tok,hc.n]
  ·refine Hu hc ht dE jc hs hl eW hb (by omega) λrr cs cap' hf bm hle aY=> ?_;obtain⟨bi,rT⟩:=hc.adn (el:=elem) hf aY hle;have u9:(cap+m)* sz<=cs.size:=(by rw[aY];exact Uh _ hle);refine aO.ghost (xQ (f:=(0,0)) (cs:=cs) (el:=elem) (p:=(·<(cap+m)* sz)) (by simp[View.upd]) (λo _=>hf.2 o)) ?_;refine fin _ _ _ _ _ rT rfl rfl bi (I1 (I:=(V.laid rr cs elem (·<(cap+m)* sz)).ab) (e:=.opn s.H.length) (sz:=sz) (cs:=cs) rfl (bm.mono rT) tR u9 (λo h=>GD (by simpa using h)) hle ⟨?_,?_,?_⟩) jh
   ·simp[Env.tok,hc.n]
   ·simp[Env.tok,hc.n]
   ·simp[Env.tok,hc.n]
 |shut=>
  obtain⟨rfl,jh⟩:=hn;have tI:l'=[]:=by simpa using eW
  subst tI;refine Hv hc ht jc hs eW ec ?_;exact fin E V s.H _ _ (Env.Le.refl E) rfl rfl hc dE jh
 |opn k=>
  obtain⟨uU,nY,jh⟩:=hn;split at uU
  ·rename_i n' eP ij hk;obtain⟨rfl,rfl,rfl⟩:=uU;have heo:qg E (.opn k) base n' cap:=by
    cases dE with
    |sl b o cap f ec he q1 q2=>exact he
    |nil he=>exact he
   obtain⟨e1,e2,e3⟩:=heo;obtain⟨AC,Gb⟩:=hc.obj k _ hk;have tP:s.H.set k (.tail n' eP ij)=s.H:=by
    apply Yj;intro i;by_cases hi:i=k
    ·subst hi;rw[W5 (SM.1 hk).1,hk]
    ·rw[T7 (Ne.symm hi)]
   by_cases hm:m=0
   ·subst hm;have tI:l'=[]:=(by simpa using eW);subst tI;refine Hv hc ht jc hs eW ec ?_;refine fin E V s.H _ _ (Env.Le.refl E) rfl rfl hc dE ?_;rw[UD,tP,SI]at jh;exact jh
   ·by_cases qC:n'+m<=cap
    ·rcases Gb with Gb|⟨b,atc,cs,r1,r2,r3,r4,r5⟩
     ·rw[e3]at Gb;simp only at Gb;omega
     ·rw[e3]at r1;cases r1;have kU:bQ E k (.tail n' eP ij)=some b:=by
       simp only[bQ,e3];rw[if_neg (by omega)];rfl
      refine acv hc ht jc hs eW qC r2 (WG r3.symm) r5 (hc.jB hk kU) nY λjM lD=> ?_;have Ay:jM.toList.length=m* eP:=(by have:=lD.1;simp;omega);have uY:(n'+m)* eP<=cap* eP:=Uh _ qC;rw[U9]at uY;have Gd:(storeAt cs (n'* eP) jM.toList).size=cap* eP:=(by rw[yX];exact r3);obtain⟨bi,rT⟩:=hc.ajy hk e3 r2 r5 Gd qC (by omega);refine aO.ghost (xQ (f:=(0,0)) (cs:=storeAt cs (n'* eP) jM.toList) (el:=ij) (p:=λo=>n'* eP<=o&&o<(n'+m)* eP) (by simp[View.upd]) (λo h=>r5 o (by simp at h;exact h.1))) ?_;refine fin _ _ _ _ _ rT rfl rfl bi ?_ jh;cases dE with
      |nil he=>exact absurd qC (by omega)
      |sl b' o' cap f FJ he q1 q2=>
       have q1':∀i,i<l.length->V.ab b i=some (f i):=λi hi=>(by have:=q1 i hi;rwa [hc.I,Wr]at this);refine .sl b 0 cap (λi=>if i<n'* eP then f i else(storeAt cs (n'* eP) jM.toList).getD i undef) (by omega) ⟨?_,?_,?_⟩ (λi hi=> ?_) (λi x hx=> ?_)
       ·exact e1
       ·simp[Env.grow]
       ·simp[Env.grow]
       ·rw[tR,U9]at hi;show (V.laid b (storeAt cs (n'* eP) jM.toList) ij (λo=>n'* eP<=o&&o<(n'+m)* eP)).ab b (0+i)=_;rw[Wr];by_cases cu:i<n'* eP
        ·rw[if_pos cu];exact GF (λo h=>r5 o (by simp at h;exact h.1)) _ _ _ (q1' i (by omega))
        ·rw[if_neg cu,GD (by simp[U9];omega)];have hlt:i<(storeAt cs (n'* eP) jM.toList).size:=(by rw[Gd];omega);simp only[SH,SK hlt,S7]
       ·by_cases cu:i<n'* eP
        ·rw[SY (by omega)]at hx;rw[if_pos cu];exact(q2 i x hx).mono rT
        ·rw[S8 (by omega)]at hx;have uR:i-l.length<l'.length:=(SM.1 hx).1;rw[if_neg cu,D3 _ _ _ _ (by rw[Ay,r3];omega),if_pos (by rw[Ay];omega)];have:=(lD.2 _ _ hx).mono rT;rw[hl]at this;simpa[SH,SD]using this
    ·refine Hu hc ht dE jc hs hl eW hb (by omega) λrr cs cap' hf bm hle aY=> ?_;obtain⟨bi,rT⟩:=hc.ajx (el:=ij) (n':=n'+m) hk hf aY hle (by omega);have u9:(n'+m)* eP<=cs.size:=(by rw[aY];exact Uh _ hle);refine aO.ghost (xQ (f:=(0,0)) (cs:=cs) (el:=ij) (p:=(·<(n'+m)* eP)) (by simp[View.upd]) (λo _=>hf.2 o)) ?_;refine fin _ _ _ _ _ rT rfl rfl bi (I1 (I:=(V.laid rr cs ij (·<(n'+m)* eP)).ab) (e:=.opn k) (sz:=eP) (cs:=cs) rfl (bm.mono rT) tR u9 (λo h=>GD (by simpa using h)) hle ⟨?_,?_,?_⟩) jh
     ·exact e1
     ·simp[Env.grow]
     ·simp[Env.grow]
  ·exact uU.elim
def Env.iC (E:Env)(r:Nat)(I:cE)(c:Nat):Env:={E with I:=I,n:=E.n+1,blk:=λk=>if k=E.n then r else E.blk k,room:=λk u=>if k=E.n/\u=0 then(none,c)else E.room k u}
theorem Env.Do(E:Env)(r c:Nat){I:cE}(hI:∀b o v,E.I b o=some v->I b o=some v):E.Le (E.iC r I c):=
 ⟨hI,YZ _,λk hk=>by simp[Env.iC,V_ hk],λ_ _=>SR _,λk u hk _=>by simp[Env.iC,V_ hk],rfl,rfl⟩
theorem Env.xx(E:Env)(r c:Nat)(I:cE):(E.iC r I c).blk E.n=r:=by simp[Env.iC]
theorem Env.Ir(E:Env)(r c:Nat)(I:cE):(E.iC r I c).room E.n 0=(none,c):=by simp[Env.iC]
theorem Conc.iC{E:Env}{V:View}{H:List aa}(hc:Conc E V H){r c:Nat}(hf:V.fresh r){cs:Array SQ}{sz:Nat}{l:List AV}{el:TypeId}(hd:ky (E.iC r V.ab c) l cs)(hs:cs.size=c* sz):Conc (E.iC r V.ab c) (V.upd r (.cells cs el)) (H++[.own sz l el]):=by
 refine hc.iW (E':=E.iC r V.ab c) H.length (.own sz l el) (E.Do r c (λb o v h=>by rw[<- hc.I];exact h)) rfl (by simp[Env.iC,hc.n]) Dp rfl (λ_ _ _=>rfl) (λb z _ hz=>⟨?_,λ_=>rfl⟩) ?_ (λb h=> .inr ?_)
 ·have:b≠r:=λe=>by rw[e,hf.1]at hz;cases hz
  simpa[View.upd,this]using hz
 ·rw[<- hc.n];refine⟨⟨cs,by rw[Env.xx];simp[View.upd],hd,by rw[Env.Ir];exact hs⟩,λo=> ?_⟩;rw[Env.xx];exact hf.2 o
 ·rw[<- hc.n]at h;simp only[bQ,Env.xx,Tj]at h;subst h;exact hf.1
theorem IZ{E:Env}{H:List aa}(hn:E.n=H.length){r c n:Nat}(I:cE)(h:n<=c){cap:Nat}(oU:n<=cap)(hc:cap<=c)(h0:0<n):ap (E.iC r I c) (.bp H.length 0 n 0) (.slice (some ⟨r,0,none⟩) n cap):=by
 have:=ap.bp (E:=E.iC r I c) (id:=H.length) (off:=0) (n:=n) (cap:=0) (cap':=cap) (by show _<E.n+1;rw[hn];omega) ⟨oU,λe=>by omega,λ_=>by rw[<- hn,Env.Ir];exact hc⟩;have e:(E.iC r I c).blk H.length=r:=by rw[<- hn];exact E.xx r c I
 rwa [e]at this
theorem Conc.relabel{E:Env}{V:View}{H:List aa}(hc:Conc E V H){id sz:Nat}{l:List AV}{el:TypeId}(hk:H[id]?=some (.own sz l el)):Conc (E.iC (E.blk id) V.ab (E.room id 0).2) V (H.set id .gone++[.own sz l el]):=by
 have hle:=E.Do (E.blk id) (E.room id 0).2 (I:=V.ab) (λb o v h=>by rw[<- hc.I];exact h);have atu:=(SM.1 hk).1;have hlt:∀(j:Nat) y,H[j]?=some y->j<E.n:=λj y h=>by rw[hc.n];exact(SM.1 h).1
 have rQ:∀(j:Nat) y,(H.set id .gone++[aa.own sz l el])[j]?=some y->(j=H.length/\y=.own sz l el)\/(j=id/\y=.gone)\/(j≠id/\H[j]?=some y):=λj y h=>by
  rcases Dp j y h with⟨h1,h2⟩|⟨_,h⟩
  ·exact .inl ⟨by simpa using h1,h2⟩
  ·rcases lN j y h with h|h
   ·exact .inr (.inl h)
   ·exact .inr (.inr h)
 have cT:∀(j:Nat) y b,H[j]?=some y->bQ (E.iC (E.blk id) V.ab (E.room id 0).2) j y=some b->bQ E j y=some b:=λj y b h e=>by rw[<- Ph hle (hlt j y h) (hc.obj j y h)];exact e
 have wC:∀b,bQ (E.iC (E.blk id) V.ab (E.room id 0).2) H.length (.own sz l el)=some b->b=E.blk id:=λb e=>by
  simp only[bQ,<- hc.n,Env.xx,Tj]at e;exact e.symm
 have fM:∀g,(∀(k:Nat) x,H[k]?=some x->bQ E k x≠some g)->∀(k:Nat) x,(H.set id .gone++[aa.own sz l el])[k]?=some x->bQ (E.iC (E.blk id) V.ab (E.room id 0).2) k x≠some g:=λg h0 k x hx e=>by
  rcases rQ k x hx with⟨rfl,rfl⟩|⟨_,rfl⟩|⟨_,hx⟩
  ·have:=wC g e;exact h0 id _ hk (by rw[this];rfl)
  ·cases e
  ·exact h0 k x hx (cT k x g hx e)
 refine⟨rfl,by simp[Env.iC,hc.n],λj y h=> ?_,λi j y z b h1 h2 e1 e2=> ?_,λg hg=> ?_,λg hg=> ?_,λhm=>hc.top hm,λb y hf=> ?_⟩
 ·rcases rQ j y h with⟨rfl,rfl⟩|⟨_,rfl⟩|⟨_,h⟩
  ·obtain⟨⟨cs,q1,q2,q3⟩,q4⟩:=hc.obj id _ hk;rw[<- hc.n];refine⟨⟨cs,by rw[Env.xx];exact q1,q2.mono hle,by rw[Env.Ir];exact q3⟩,λo=> ?_⟩;rw[Env.xx];exact q4 o
  ·trivial
  ·exact(hc.obj j y h).mono hle (hlt j y h) rfl (λ_ _ _ h=>h) (λ_ _ _=>rfl)
 ·rcases rQ i y h1 with⟨rfl,rfl⟩|⟨_,rfl⟩|⟨hi,h1⟩
  ·rcases rQ j z h2 with⟨rfl,rfl⟩|⟨_,rfl⟩|⟨hj,h2⟩
   ·rfl
   ·cases e2
   ·have:=wC b e1;exact absurd (hc.inj id j _ z b hk h2 (by rw[this];rfl) (cT j z b h2 e2)).symm hj
  ·cases e1
  ·rcases rQ j z h2 with⟨rfl,rfl⟩|⟨_,rfl⟩|⟨hj,h2⟩
   ·have:=wC b e2;exact absurd (hc.inj id i _ y b hk h1 (by rw[this];rfl) (cT i y b h1 e1)).symm hi
   ·cases e2
   ·exact hc.inj i j y z b h1 h2 (cT i y b h1 e1) (cT j z b h2 e2)
 ·obtain⟨h0,h1,h2⟩:=hc.group g hg;exact⟨h0,h1,fM g h2⟩
 ·obtain⟨h0,h1,h2⟩:=hc.chan g hg;exact⟨h0,h1,fM g h2⟩
 ·obtain⟨h0,h1,h2⟩:=hc.fr b y hf;exact⟨h0,h1,fM b h2⟩
theorem Conc.leave{E:Env}{V:View}{H:List aa}(hc:Conc E V H)(id:Nat):Conc E V (H.set id .gone):=
 hc.iW id .gone (Env.Le.refl E) hc.I (by simpa using hc.n) lN rfl (λ_ _ _=>rfl) (λ_ _ _ hy=>⟨hy,λ_=>rfl⟩) trivial (λb h=>by cases h)
theorem agS{E:Env}{l l':List AV}{cs vs:Array SQ}(h:ky E l cs)(k:cP E l' vs)(hl:l.length+l'.length<=cs.size):ky E (l++l') (storeAt cs l.length vs.toList):=by
 have hv:vs.toList.length=l'.length:=by simpa using k.1
 refine⟨by rw[yX,SP];exact hl,λi a e=> ?_⟩;rw[D3 _ _ _ _ (by rw[hv];exact hl),hv];by_cases h1:i<l.length
 ·rw[if_neg (by omega)];rw[SY h1]at e;exact h.2 i a e
 ·rw[S8 (by omega)]at e;have h2:=(SM.1 e).1;rw[if_pos ⟨by omega,by omega⟩];have:=k.2 _ a e;simpa[SH,SD]using this
theorem PQ{E:Env}{l:List AV}{cs:Array SQ}{k:Nat}(h:cP E l (cs.extract 0 k))(hk:l.length=k)(hs:k<=cs.size):ky E l cs:=by
 refine⟨by omega,λi a e=> ?_⟩;have hi:=(SM.1 e).1;have gw:i<cs.size:=by omega
 have:=h.2 i a e;rw[SH,Array.getElem?_extract_of_lt (by omega)]at this;rw[SH];simpa[SK gw]using this
theorem ac0{c:Xn}{x y:Th}{t t' elem:TypeId}{sz n m:Nat}{z:SQ}{l l':List AV}{av:AV}(ho:o.op=.call c)(aZ:c.callee=.builtin .append)(cS:c.args=#[x,y]) (dG:c.argTypes=#[t,t']) (ht:j3 P t t'=some (elem,sz,z))
  (hx:s.ev x=some (.sl n l .exact)) (hy:s.ev y=some av) (hs:s.src sz av=some (m,l')) (hl:l.length=n* sz) (eW:l'.length=m* sz) (hb:n+m<=2^30) (hm:0<m) (hn:next ((⟨s.T,s.H++[.own sz (l++l') elem]⟩:AS).put o.dst (.bp s.H.length 0 (n+m) 0))):Step lv P r o s next bad:=by
 intro E V a N Q hc aF hd bC h1 _;refine⟨bC,?_⟩;have dE:=ap.ev aF hx;have jc:=ap.ev aF hy;generalize kK:a.eval x=vx at dE;generalize sf:a.eval y=vy at jc;unfold execOp;rw[ho];dsimp only;unfold resolve;rw[aZ];dsimp only;refine az (aq ?_);unfold invoke builtin;dsimp only;refine az ?_;have nZ:c.args.map a.eval=#[vx,vy]:=by rw[cS];simp[kK,sf]
 rw[nZ,dG];obtain⟨base,cap,rfl⟩:∃base cap,vx=.slice base n cap:=by
  cases dE with
  |sl b o cap f ec he q1 q2=>exact⟨_,_,rfl⟩
  |nil he=>exact⟨_,_,rfl⟩
 have fX:cap=n:=by
  cases dE with
  |sl b o cap f ec he q1 q2=>exact he
  |nil he=>rfl
 subst fX;refine Hu hc ht dE jc hs hl eW hb (by omega) λrr cs cap' hf bm hle aY=> ?_;have tR:(l++l').length=(cap+m)* sz:=by rw[SP,hl,eW,U9]
 have u9:(cap+m)* sz<=cs.size:=by rw[aY];exact Uh _ hle
 have oT:E.Le (E.iC rr V.ab cap'):=E.Do rr cap' (λb o v h=>by rw[<- hc.I];exact h);have bi:=hc.iC (el:=elem) (c:=cap') hf ((PQ bm tR u9).mono oT) aY;have pF:=IZ hc.n (r:=rr) V.ab hle (n:=cap+m) (cap:=cap') hle (SR _) (by omega);exact aq (h1 _ _ (a.put o.dst _) _ ⟨oT,ey _ _ _,put_defers _ _ _,rfl,rfl⟩ (by rw[fG];exact bi) (cw.iu (s:=⟨s.T,s.H++[.own sz (l++l') elem]⟩) (aF.mono oT) hd pF) hn)
theorem acZ{c:Xn}{x y:Th}{t t' elem el:TypeId}{sz n m c0 id:Nat}{z:SQ}{l l':List AV}{av:AV}(ho:o.op=.call c)(aZ:c.callee=.builtin .append)(cS:c.args=#[x,y]) (dG:c.argTypes=#[t,t']) (ht:j3 P t t'=some (elem,sz,z))
  (hx:s.ev x=some (.bp id 0 n c0)) (x8:c0<n) (ce:s.H[id]?=some (.own sz l el)) (hel:el=elem) (hy:s.ev y=some av) (hs:s.src sz av=some (m,l')) (hl:l.length=n* sz) (eW:l'.length=m* sz) (hb:n+m<=2^30) (nY:∀a∈l',a.leaf=true) (hn:next ((⟨s.T,s.H.set id .gone++[.own sz (l++l') elem]⟩:AS).put o.dst (.bp s.H.length 0 (n+m) 0))):Step lv P r o s next bad:=by
 subst hel;intro E V a N Q hc aF hd bC h1 _;refine⟨bC,?_⟩;have dE:=ap.ev aF hx;have jc:=ap.ev aF hy;generalize kK:a.eval x=vx at dE;generalize sf:a.eval y=vy at jc;unfold execOp;rw[ho];dsimp only;unfold resolve;rw[aZ];dsimp only;refine az (aq ?_);unfold invoke builtin;dsimp only;refine az ?_;have nZ:c.args.map a.eval=#[vx,vy]:=by rw[cS];simp[kK,sf]
 rw[nZ,dG];have akk:=dE;have tR:(l++l').length=(n+m)* sz:=by rw[SP,hl,eW,U9]
 have cH:s.src sz (.bp id 0 n c0)=some (n,l):=by
  simp only[AS.src];rw[ce];simp only[Xw];rw[<- hl,TQ]
 cases dE with
 |bp hi ec=>
  rename_i cap';obtain⟨q1,_,q3⟩:=ec;have q3:=q3 x8;obtain⟨⟨cs,p1,p2,p3⟩,p4⟩:=hc.obj id _ ce;by_cases qC:n+m<=cap'
  ·have nd:(n+m)* sz<=cap'* sz:=Uh _ qC;have uL:cap'* sz<=cs.size:=(by rw[p3];exact Uh _ q3);refine acv hc ht jc hs eW qC p1 uL (λo _=>p4 o) (hc.jB ce rfl) nY λjM lD=> ?_;have Ku:ky E (l++l') (storeAt cs (n* sz) jM.toList):=by
    rw[<- hl];exact agS p2 lD (by rw[<- SP,tR];omega)
   have dA:=hc.acI ce Ku (by rw[yX];exact p3);have rQ:(s.H.set id (.own sz (l++l') el))[id]?=some (.own sz (l++l') el):=(by rw[W5 ((SM.1 ce).1)]);have cU:=dA.relabel rQ;rw[W4]at cU;have oT:E.Le (E.iC (E.blk id) V.ab (E.room id 0).2):=E.Do _ _ (λb o v h=>by rw[<- hc.I];exact h);have pF:ap (E.iC (E.blk id) V.ab (E.room id 0).2) (.bp s.H.length 0 (n+m) 0) (.slice (some ⟨E.blk id,0,none⟩) (n+m) cap'):=IZ hc.n V.ab (by omega) qC q3 (by omega);exact aq (h1 _ _ (a.put o.dst _) _ ⟨oT,ey _ _ _,put_defers _ _ _,rfl,rfl⟩ (by rw[fG];exact cU) (cw.iu (s:=⟨s.T,s.H.set id .gone++[.own sz (l++l') el]⟩) (aF.mono oT) hd pF) hn)
  ·refine acw hc ht akk cH jc hs hl eW hb (by omega) λrr eZ B0 hf bm hle aY=> ?_;have u9:(n+m)* sz<=eZ.size:=(by rw[aY];exact Uh _ hle);have oT:E.Le (E.iC rr V.ab B0):=E.Do rr B0 (λb o v h=>by rw[<- hc.I];exact h);have FI:=hc.leave id;have bi:=FI.iC (el:=el) (c:=B0) hf ((PQ bm tR u9).mono oT) aY;have pF:ap (E.iC rr V.ab B0) (.bp s.H.length 0 (n+m) 0) (.slice (some ⟨rr,0,none⟩) (n+m) B0):=IZ hc.n V.ab hle hle (SR _) (by omega);exact aq (h1 _ _ (a.put o.dst _) _ ⟨oT,ey _ _ _,put_defers _ _ _,rfl,rfl⟩ (by rw[fG];exact bi) (cw.iu (s:=⟨s.T,s.H.set id .gone++[.own sz (l++l') el]⟩) (aF.mono oT) hd pF) hn)
end
open Go.Conc
theorem bG(n:Int)(h: -9223372036854775808<=n/\n<=9223372036854775807):SE.wrap n=n:=by
 have e:SE.wrap n=if n % 18446744073709551616>=9223372036854775808 then n % 18446744073709551616-18446744073709551616 else n % 18446744073709551616:=by
  unfold W9;simp[ats,as']
 rw[e];split<;>omega
def cR (P:SJ){α:Type}(s:Sem α)(x:α):Prop:=∀w es,s.runT P w es=(.ok x w,es)
theorem cR.ok{P:SJ}{α:Type}{V:View}{s:Sem α}{x:α}{K:α->View->Prop}{Kp:SQ->View->Prop}(h:cR P s x)(hk:K x V):aO P V s K Kp:=
 λw hw ft=>⟨#[],w,V,by simpa[gh]using dq.idle hw,.inl ⟨x,by rw[h w ft];simp,hk⟩⟩
theorem cR.bind{P:SJ}{α β:Type}{V:View}{s:Sem α}{x:α}{f:α->Sem β}{K:β->View->Prop}{Kp:SQ->View->Prop}(h:cR P s x)(hk:aO P V (f x) K Kp):aO P V (s>>=f) K Kp:=
 az (h.ok hk)
def AV.vS:AV->Option Int
 |.val (.int _ n)=>some n
 |_=>none
theorem ap.vS{E:Env}{a:AV}{v:SQ}{n:Int}(hd:ap E a v)(h:a.vS=some n):∃k,v=.int k n:=by
 cases hd with
 |val x=>unfold AV.vS at h;split at h<;>simp_all
 |_=>cases h
def AS.jq (s:AS):Option Th->Option (Option Int)
 |none=>some none
 |some x=>match s.ev x with
  |some a=>a.vS.map some
  |none=>none
theorem zB{E:Env}{s:AS}{a:Act}(k:cw E s.T a.tmps){x:Option Th}{i:Option Int}(h:s.jq x=some i):(i=none/\x.map a.eval=none)\/∃n kd,i=some n/\x.map a.eval=some (.int kd n):=by
 cases x with
 |none=>cases h;exact .inl ⟨rfl,rfl⟩
 |some x=>
  simp only[AS.jq]at h;split at h
  ·rename_i av hav;obtain⟨n,hn,rfl⟩:=lz h;obtain⟨kd,hv⟩:=(ap.ev k hav).vS hn;exact .inr ⟨n,kd,rfl,by simp[hv]⟩
  ·cases h
section
variable {P:SJ}{V:View}{Kp:SQ->View->Prop}
theorem A4{kd:TY}{n:Int}{y:Nat}{code:BoundsCode}{K:Nat->View->Prop}(h0:0<=n)(h1:n<=y)(h:K n.toNat V):aO P V (Zk (.int kd n) y code) K Kp:=by
 unfold Zk asIntOf;refine az (aq ?_);dsimp only;rw[if_pos ⟨h0,h1⟩];exact aq h
theorem NH{E:Env}{s:AS}{a:Act}(k:cw E s.T a.tmps){isS:Bool}{len cap:Nat}{lo hi mx:Option Th}{l h m:Option Int}(hl:s.jq lo=some l)(hh:s.jq hi=some h)(hm:s.jq mx=some m){K:Nat×Nat×Nat->View->Prop}
  (hlc:len<=cap) (c0:0<=l.getD 0) (c1:l.getD 0<=h.getD len) (c2:h.getD len<=m.getD cap) (c3:m.getD cap<=cap) (c4:m.isSome=true->h.isSome=true) (hK:K ((l.getD 0).toNat,(h.getD len).toNat,(m.getD cap).toNat) V):
  aO P V (Y' isS len cap (lo.map a.eval) (hi.map a.eval) (mx.map a.eval)) K Kp:=by
 unfold Y';rcases zB k hm with⟨rfl,em⟩|⟨vm,km,rfl,em⟩
 ·rw[em];refine az (aq ?_);rcases zB k hh with⟨rfl,eh⟩|⟨vh,kh,rfl,eh⟩
  ·rw[eh];refine az (aq ?_);rcases zB k hl with⟨rfl,el⟩|⟨vl,kl,rfl,el⟩
   ·rw[el];exact az (aq (aq (by simpa using hK)))
   ·rw[el];simp only[S7,Vm]at c0 c1 c2;exact az (A4 c0 c1 (aq (by simpa using hK)))
  ·rw[eh];simp only[S7,Vm]at c0 c1 c2 c3;refine az (A4 (by omega) c2 ?_);rcases zB k hl with⟨rfl,el⟩|⟨vl,kl,rfl,el⟩
   ·rw[el];exact az (aq (aq (by simpa using hK)))
   ·rw[el];simp only[S7,Vm]at c0 c1 c2;exact az (A4 c0 (by omega) (aq (by simpa using hK)))
 ·rw[em];simp only[S7,Option.isSome_some,true_implies]at c2 c3 c4;rcases zB k hh with⟨rfl,eh⟩|⟨vh,kh,rfl,eh⟩
  ·cases c4
  ·rw[eh];simp only[S7]at c1 c2 c0;refine az (A4 (by omega) c3 ?_);refine az (A4 (by omega) (by omega) ?_);rcases zB k hl with⟨rfl,el⟩|⟨vl,kl,rfl,el⟩
   ·rw[el];exact az (aq (aq (by simpa using hK)))
   ·rw[el];simp only[S7]at c0 c1;exact az (A4 c0 (by omega) (aq (by simpa using hK)))
end
def xq (n:Nat)(l:List AV)(e:End)(sz:Nat)(lo hi mx:Option Int)(k:AV->Prop):Prop:=
 l.length=n* sz/\0<=lo.getD 0/\lo.getD 0<=hi.getD n/\hi.getD n<=mx.getD n/\mx.getD n<=n/\(mx.isSome=true->hi.isSome=true)/\
 k (.sl ((hi.getD n).toNat-(lo.getD 0).toNat) ((l.drop ((lo.getD 0).toNat* sz)).take (((hi.getD n).toNat-(lo.getD 0).toNat)* sz))
  (if mx.isSome&&mx.getD n==hi.getD n then .exact else if lo.getD 0==0&&hi.getD n==n&&mx.isNone then e else .shut))
def kQ (P:SJ)(t:TypeId):Option (TypeId×Nat):=match P.underlying t with
 |some (.slice e)=>(P.info? e).map λi=>(e,i.size)
 |_=>none
def xj (P:SJ)(t:TypeId):Option (Nat×Nat):=match P.underlying t with
 |some (.array n e)=>(P.info? e).map λi=>(n,i.size)
 |_=>none
open Go.Conc
section
variable {lv:Bool}{P:SJ}{r:Option Nat}{o:Tu}{s:AS}{next:AS->Prop}{bad:AV->AS->Prop}
theorem apf{t e:TypeId}{x:Th}{lo hi mx:Option Th}{l h m:Option Int}{n sz:Nat}{li:List AV}{en:End}(ho:o.op=.slice t x lo hi mx)(ht:kQ P t=some (e,sz))(hx:s.ev x=some (.sl n li en))(hl:s.jq lo=some l)(hh:s.jq hi=some h)(hm:s.jq mx=some m)
  {k:AV->Prop} (hc:xq n li en sz l h m k):∃av,dI lv P r o s av/\k av:=by
 obtain⟨hlen,c0,c1,c2,c3,c4,hk⟩:=hc;refine⟨_,jl (λE V a hc aF=> ?_),hk⟩;have hd:=ap.ev aF hx;generalize hv:a.eval x=v at hd;unfold kQ at ht;split at ht
 ·rename_i e' hu;obtain⟨i,cu,ht⟩:=lz ht;cases ht;unfold execOp;rw[ho];simp only[hv];refine az ?_;unfold Yf;refine eD hu ?_;dsimp only;unfold ZX;refine eD hu ?_;obtain⟨base,cap,rfl⟩:∃base cap,v=.slice base n cap:=by
   cases hd with
   |sl b o cap f ec he q1 q2=>exact⟨_,_,rfl⟩
   |nil he=>exact⟨_,_,rfl⟩
  have ec:n<=cap:=by
   cases hd with
   |sl b o cap f ec he q1 q2=>exact ec
   |nil he=>exact SR _
  dsimp only;have hmm:m.getD (cap:Int)=if m.isSome then m.getD n else cap:=by cases m<;>simp
  refine az (NH aF hl hh hm ec c0 c1 ?_ ?_ c4 ?_)
  ·cases m with
   |none=>simp only[Vm]at c2⊢;omega
   |some m=>simpa using c2
  ·cases m with
   |none=>simp
   |some m=>simp only[S7]at c3⊢;omega
  refine kv cu ?_;refine aq (aq ⟨rfl,_,rfl,?_⟩);generalize hA:(l.getD 0).toNat=A;generalize hB:(h.getD (n:Int)).toNat=B;have QW:A<=B:=by omega
  have hBn:B<=n:=by omega
  generalize hM:(m.getD (cap:Int)).toNat=M;have hBM:B<=M:=by
   cases m with
   |none=>simp only[Vm]at hM;omega
   |some m=>simp only[S7]at hM c2;omega
  cases hd with
  |nil he=>
   have Fu:A=0:=(by omega);have hB0:B=0:=(by omega);have J6:M=0:=by
    cases m with
    |none=>simp only[Vm]at hM;omega
    |some m=>simp only[S7]at hM c3;omega
   rw[Fu,hB0,J6];simp only[if_true,ZW,Z0,ak_];refine .nil ?_;split
   ·rfl
   ·split
    ·exact he
    ·trivial
  |sl b o cap f ec he q1 q2=>
   have Cr:(if M=A then some (⟨b,o,none⟩:U1)else(some (⟨b,o,none⟩:U1)).map λx=>x.add (A* i.size))=some ⟨b,if M=A then o else o+A* i.size,none⟩:=by
    split
    ·rfl
    ·simp only[UO,add_plain]
   rw[Cr];have hb:(B-A)* i.size+A* i.size<=n* i.size:=(by rw[<- U9];exact Uh _ (by omega));refine .sl b _ (M-A) (λj=>f (A* i.size+j)) (by omega) ?_ (λj hj=> ?_) (λj y hj=> ?_)
   ·split
    ·rename_i hx;simp only[Ti,beq_iff_eq]at hx;cases m with
     |none=>simp at hx
     |some m=>
      simp only[S7]at hM hx;show M-A=B-A;omega
    ·split
     ·rename_i hx;simp only[Ti,beq_iff_eq]at hx;obtain⟨⟨x1,x2⟩,x3⟩:=hx;have:A=0:=(by omega);have:B=n:=(by omega);cases m with
      |some m=>cases x3
      |none=>
       simp only[Vm]at hM;have hMc:M=cap:=(by omega);subst hMc;have e1:M-A=M:=(by omega);have e2:B-A=n:=(by omega);have e3:(if M=A then o else o+A* i.size)=o:=(by split<;>simp_all);rw[e1,e2,e3];exact he
     ·trivial
   ·simp only[Uf,Uo]at hj;have hMA:M≠A:=by
     intro e;have:B-A=0:=(by omega);rw[this]at hj;omega
    rw[if_neg hMA,U_];exact q1 _ (by omega)
   ·rw[Ul]at hj;split at hj
    ·rw[Up]at hj;exact q2 _ _ hj
    ·cases hj
 ·cases ht
def sS (id off n cap sz:Nat)(lo hi mx:Option Int)(k:AV->Prop):Prop:=
 n<=cap/\0<=lo.getD 0/\lo.getD 0<=hi.getD n/\hi.getD n<=mx.getD cap/\mx.getD cap<=cap/\(mx.isSome=true->hi.isSome=true)/\(lo.getD 0=0\/lo.getD 0<mx.getD cap)/\
 k (.bp id (off+(lo.getD 0).toNat* sz) ((hi.getD n).toNat-(lo.getD 0).toNat) ((mx.getD cap).toNat-(lo.getD 0).toNat))
theorem aph{t e:TypeId}{x:Th}{lo hi mx:Option Th}{l h m:Option Int}{id off n cap sz:Nat}(ho:o.op=.slice t x lo hi mx)(ht:kQ P t=some (e,sz))(hx:s.ev x=some (.bp id off n cap))(hl:s.jq lo=some l)(hh:s.jq hi=some h)(hm:s.jq mx=some m)
  {k:AV->Prop} (hc:sS id off n cap sz l h m k):∃av,dI lv P r o s av/\k av:=by
 obtain⟨hlen,c0,c1,c2,c3,c4,c5,hk⟩:=hc;refine⟨_,jl (λE V a hc aF=> ?_),hk⟩;have hd:=ap.ev aF hx;generalize hv:a.eval x=v at hd;unfold kQ at ht;split at ht
 ·rename_i e' hu;obtain⟨i,cu,ht⟩:=lz ht;cases ht;unfold execOp;rw[ho];simp only[hv];refine az ?_;unfold Yf;refine eD hu ?_;dsimp only;unfold ZX;refine eD hu ?_;cases hd with
  |bp ce ec=>
   rename_i cap';obtain rfl:cap=cap':=ec.2.1 hlen;dsimp only;refine az (NH aF hl hh hm hlen c0 c1 c2 c3 c4 ?_);refine kv cu ?_;refine aq (aq ⟨rfl,_,rfl,?_⟩);have Cr:(if(m.getD (cap:Int)).toNat=(l.getD 0).toNat then some (⟨E.blk id,off,none⟩:U1)else(some (⟨E.blk id,off,none⟩:U1)).map λx=>x.add ((l.getD 0).toNat* i.size))=some ⟨E.blk id,off+(l.getD 0).toNat* i.size,none⟩:=by
    split
    ·have:(l.getD 0).toNat=0:=(by omega);rw[this];simp
    ·simp only[UO,add_plain]
   rw[Cr];exact .bp ce ⟨by dsimp only;omega,λ_=>rfl,λh=>absurd h (by omega)⟩
 ·cases ht
theorem apg{t:TypeId}{x:Th}{lo hi mx:Option Th}{l h m:Option Int}{id off n sz:Nat}(ho:o.op=.slice t x lo hi mx)(ht:xj P t=some (n,sz))(hx:s.ev x=some (.op id off))(hl:s.jq lo=some l)(hh:s.jq hi=some h)(hm:s.jq mx=some m)
  {k:AV->Prop} (hc:sS id off n n sz l h m k):∃av,dI lv P r o s av/\k av:=by
 obtain⟨hlen,c0,c1,c2,c3,c4,c5,hk⟩:=hc;refine⟨_,jl (λE V a hc aF=> ?_),hk⟩;have hd:=ap.ev aF hx;generalize hv:a.eval x=v at hd;unfold xj at ht;split at ht
 ·rename_i m' e' hu;obtain⟨i,cu,ht⟩:=lz ht;cases ht;unfold execOp;rw[ho];simp only[hv];refine az ?_;unfold Yf;refine eD hu ?_;cases hd with
  |op ce=>
   dsimp only;unfold U7;refine az (aq ?_);refine az (NH aF hl hh hm hlen c0 c1 c2 c3 c4 ?_);refine kv cu ?_;refine aq (aq ⟨rfl,_,rfl,?_⟩);have Cr:(if(m.getD (n:Int)).toNat=(l.getD 0).toNat then(⟨E.blk id,off,none⟩:U1)else(⟨E.blk id,off,none⟩:U1).add ((l.getD 0).toNat* i.size))=⟨E.blk id,off+(l.getD 0).toNat* i.size,none⟩:=by
    split
    ·have:(l.getD 0).toNat=0:=(by omega);rw[this];simp
    ·rw[add_plain]
   rw[Cr];exact .bp ce ⟨by dsimp only;omega,λ_=>rfl,λh=>absurd h (by omega)⟩
 ·cases ht
theorem aqY{c:Xn}{x y:Th}{t t' e:TypeId}{id off n cap sz m:Nat}{l l':List AV}{el:TypeId}{av:AV}(ho:o.op=.call c)(aZ:c.callee=.builtin .copy)(cS:c.args=#[x,y]) (dG:c.argTypes=#[t,t']) (ht:kQ P t=some (e,sz)) (hx:s.ev x=some (.bp id off n cap))
  (hk:s.H[id]?=some (.cells l el)) (hy:s.ev y=some av) (hs:s.src sz av=some (m,l')) (eW:l'.length=m* sz) (hl:off+min m n* sz<=l.length) (nY:∀a∈l',a.leaf=true)
  (hn:next ((⟨s.T,s.H.set id (.cells (iT l off (l'.take (min m n* sz))) el)⟩:AS).put o.dst (.val (.int .i64 (min m n:Nat))))):Step lv P r o s next bad:=by
 intro E V a N Q hc aF hd bC h1 _;refine⟨bC,?_⟩;have dE:=ap.ev aF hx;have jc:=ap.ev aF hy;generalize kK:a.eval x=vx at dE;generalize sf:a.eval y=vy at jc;unfold execOp;rw[ho];dsimp only;unfold resolve;rw[aZ];dsimp only;refine az (aq ?_);unfold invoke builtin;dsimp only;refine az ?_;have nZ:c.args.map a.eval=#[vx,vy]:=by rw[cS];simp[kK,sf]
 rw[nZ,dG];unfold kQ at ht;split at ht
 ·rename_i e' hu;obtain⟨i,cu,ht⟩:=lz ht;cases ht;cases dE with
  |bp ce _=>
   obtain⟨⟨cs,p1,p2⟩,p3⟩:=hc.obj id _ hk;obtain⟨g1,g2⟩:=hc.jB hk rfl;unfold auf;simp only[Vb,Vq,UM];refine eD hu ?_;dsimp only;rw[Hz jc hs];refine az (aq ?_);refine kv cu ?_;refine az (DU hc jc hs eW (ZF _ _) λjM lD=> ?_);have h2:(l'.take (min m n* i.size)).length=min m n* i.size:=by
    have:min m n* i.size<=m* i.size:=Uh _ (ZF _ _);simp;omega
   refine az (A5 _ 0 V cs g1 g2 p1 (λo _ _=>p3 o) (by
    have hq:jM.size=min m n* i.size:=(by(rw[lD.1];exact h2));have:=p2.1;simp only[Array.length_toList];omega) (B5 lD (λa ha=>nY a (Xv ha))) ?_)
   rw[UD];refine aq (aq (h1 E _ (a.put o.dst _) _ ⟨Env.Le.refl E,ey _ _ _,put_defers _ _ _,rfl,rfl⟩ (by rw[fG];exact hc.set hk (I3 p2 lD (by rw[h2];exact hl)))
    (cw.iu (s:=⟨s.T,s.H.set id (.cells (iT l off (l'.take (min m n* i.size))) el)⟩) aF hd (.val _)) hn))
 ·cases ht
def Bv (P:SJ)(t:TypeId):Option (TypeId×Nat×SQ):=match P.underlying t with
 |some (.slice e)=>(P.info? e).bind λi=>i.zero.bind λz=>if z.cells.size=i.size/\i.bytes<=2^16 then some (e,i.size,z)else none
 |_=>none
theorem ac4{t e:TypeId}{x y:Th}{n sz:Nat}{z:SQ}{k k':TY}(ho:o.op=.makeSlice t x y)(ht:Bv P t=some (e,sz,z))(hx:s.ev x=some (.val (.int k n)))(hy:s.ev y=some (.val (.int k' n)))(hb:n<=2^30)
  (hn:next ((⟨s.T,s.H++[.cells (ie z (n* sz)) e]⟩:AS).put o.dst (.bp s.H.length 0 n n))):Step lv P r o s next bad:=by
 intro E V a N Q hc aF hd bC h1 _;refine⟨bC,?_⟩;have dE:=ap.ev aF hx;have jc:=ap.ev aF hy;generalize kK:a.eval x=vx at dE;generalize sf:a.eval y=vy at jc;cases dE;cases jc;unfold Bv at ht;split at ht
 ·rename_i e' hu;obtain⟨i,q1,ht⟩:=Te.1 ht;obtain⟨z',q2,ht⟩:=Te.1 ht;split at ht
  ·rename_i x_;cases ht;unfold execOp;rw[ho];simp only[kK,sf];refine az ?_;unfold Instr.makeSlice;refine eD hu ?_;dsimp only;refine az (aq ?_);refine az (aq ?_);refine yV q1 ?_;have hw:SE.wrap (n:Int)=n:=bG _ (by omega);rw[hw];have hmul:i.bytes* n<=2^16* 2^30:=ZK x_.2 hb;have aty:(i.bytes:Int)* n<=2^46:=(by exact_mod_cast hmul);rw[if_neg (by simp;omega)];refine az (acx ?_);refine kv q1 ?_;rw[VQ];have fin:∀(zero:Array SQ),(∀j,j<n* i.size->zero[j % zero.size]! =z.cells[j % z.cells.size]!)->aO P V (do let a<- newRow e ((WI (n* i.size)).map (zero[· % zero.size]!));pure (Us (some a) n n)) (λx V'=>aO P V' (pure (W1 x)) (m9 lv P r o a N Q) (λv V'=>Q (.panic [{v,recovered:=false}]) a V')) (λv V'=>Q (.panic [{v,recovered:=false}]) a V'):=by
    intro zero hz;unfold newRow;refine az (az (o0 λrr hf=>cO (aq (aq (aq ?_)))));have hle:E.Le (E.add rr V.ab):=E.qT rr (λb o v h=>by rw[<- hc.I];exact h);have ajX:(WI (n* i.size)).map (zero[· % zero.size]!)=(WI (n* i.size)).map (λx=>z.cells[x % z.cells.size]!):=by
     apply VE;simp only[VM];apply VB;intro j hj;exact hz j (by simpa using hj)
    rw[ajX];have bi:Conc (E.add rr V.ab) (V.upd rr (.cells ((WI (n* i.size)).map (λx=>z.cells[x % z.cells.size]!)) e)) (s.H++[.cells (ie z (n* i.size)) e]):=by
     refine hc.add hf _ ⟨⟨_,?_,I4 z _⟩,λo=> ?_⟩ (λb e=> ?_)
     ·rw[Env.dU];simp[View.upd]
     ·rw[Env.dU];exact hf.2 o
     ·simp only[bQ,Env.dU,Tj]at e;exact e.symm
    have bm:ap (E.add rr V.ab) (.bp s.H.length 0 n n) (.slice (some ⟨rr,0,none⟩) n n):=by
     have:=ap.bp (E:=E.add rr V.ab) (id:=s.H.length) (off:=0) (n:=n) (cap:=n) (cap':=n) (by show _<E.n+1;rw[hc.n];omega) ⟨SR _,λ_=>rfl,λh=>absurd h (Nat.lt_irrefl _)⟩;have e:(E.add rr V.ab).blk s.H.length=rr:=(by rw[<- hc.n];exact E.dU rr _);rwa [e]at this
    exact h1 _ _ (a.put o.dst _) ((⟨s.T,s.H++[.cells (ie z (n* i.size)) e]⟩:AS).put o.dst (.bp s.H.length 0 n n)) ⟨hle,ey _ _ _,put_defers _ _ _,rfl,rfl⟩ (by rw[fG];exact bi)
     (cw.iu (s:=⟨s.T,s.H++[.cells (ie z (n* i.size)) e]⟩) (aF.mono hle) hd bm) hn
   by_cases h0:n* i.size=0
   ·rw[if_pos h0];refine az (aq ?_);exact fin #[] (λj hj=>by omega)
   ·rw[if_neg h0];refine az (az ?_);unfold typeInfo;refine az (qX (cO ?_));rw[q1];refine aq ?_;rw[q2];refine aq (az (aq ?_));exact fin z.cells (λj _=>rfl)
  ·cases ht
 ·cases ht
def AV.AY:AV->Option SQ
 |.val x=>some x
 |_=>none
def AV.raw:AV->Option SQ
 |.val x=>some x
 |.agg l=>(l.mapM AV.AY).map λvs=> .agg vs.toArray
 |_=>none
theorem ap.AY{E:Env}{a:AV}{v x:SQ}(h:ap E a v)(hr:a.AY=some x):v=x:=by
 cases h<;>cases hr;rfl
theorem ap.raw{E:Env}{a:AV}{v x:SQ}(h:ap E a v)(hr:a.raw=some x):v=x:=by
 cases h with
 |val=>cases hr;rfl
 |agg hs h=>
  obtain⟨vs,h1,rfl⟩:=lz hr;congr 1;rename_i l cs;have key:∀(l:List AV)(vs:List SQ)(cs:List SQ),l.mapM AV.AY=some vs->cs.length=l.length->(∀(i:Nat) a,l[i]?=some a->ap E a (cs.getD i undef))->cs=vs:=by
   intro l;induction l with
   |nil=>intro vs cs h1 h2 _;simp at h1;subst h1;simpa using h2
   |cons a l ih=>
    intro vs cs h1 h2 h3;simp only[T_,Uj,TP,Te,Tj]at h1;obtain⟨b,e1,bs,e2,rfl⟩:=h1;cases cs with
    |nil=>simp at h2
    |cons c cs=>
     have hc:=(h3 0 a rfl).AY e1;have:=ih bs cs e2 (by simpa using h2) (λi x hx=>by simpa using h3 (i+1) x (by simpa using hx));subst this;simp only[Xk]at hc;rw[hc]
  have:=key l vs cs.toList h1 (by simpa using hs) (λi a e=>by have:=h i a e;rw[SH]at this;simpa[SD]using this);rw[<- this]
 |_=>cases hr
def zK:SQ->SQ->Bool
 |.agg _,.agg _=>true
 |.bool _,.bool _=>true
 |_,_=>false
theorem aoS{op:VZ}{xt yt:TypeId}{x y:Th}{a b:AV}{X Y:SQ}{e:Bool}(ho:o.op=.binOp op xt x y yt)(ay:op=.eql\/op=.neq)(hx:s.ev x=some a)(hy:s.ev y=some b)(hX:a.raw=some X)(hY:b.raw=some Y)(hk:zK X Y=true)(hg:P.eqGuardType P.depth xt=false)(he:cR P (Xm xt X Y) e):
  dI lv P r o s (.val (.bool (if op== .neq then !e else e))):=
 jl (λE V ac hc aF=>by
  have e1:=(ap.ev aF hx).raw hX;have e2:=(ap.ev aF hy).raw hY;unfold execOp;rw[ho];simp only[e1,e2];refine az ?_;have guard:∀{K:Unit->View->Prop},K () V->aO P V (eqGuard op xt x y X Y) K (λ_ _=>False):=λhK=>by
   unfold eqGuard;unfold zK at hk;split at hk
   ·rcases ay with rfl|rfl
    all_goals
     simp only[aj',TM,if_false];refine az (qX (cO ?_));refine az (qX (cO ?_));rw[hg];exact aq hK
   ·rcases ay with rfl|rfl<;>exact aq hK
   ·cases hk
  refine az (guard ?_);unfold zK at hk;split at hk
  ·rcases ay with rfl|rfl<;>(unfold binOp;refine he.bind (aq (aq ⟨rfl,_,rfl,?_⟩));exact .val _)
  ·rcases ay with rfl|rfl<;>(unfold binOp;refine he.bind (aq (aq ⟨rfl,_,rfl,?_⟩));exact .val _)
  ·cases hk)
theorem ahp{t:TypeId}{v:SQ}{b:Bool}{V:View}{K:Bool->View->Prop}{Kp:SQ->View->Prop}(ht:mM P t=some true)(hv:(v=.nilIface/\b=true)\/((∃u x,v=.iface u x)/\b=false))(hk:K b V):aO P V (Xm t v .nilIface) K Kp:=by
 obtain⟨el,hu⟩:∃el,P.underlying t=some (.interface el):=by
  unfold mM at ht;cases h:P.underlying t with
  |none=>rw[h]at ht;cases ht
  |some d=>
   rw[h]at ht;cases d<;>first|exact⟨_,rfl⟩|(simp at ht)
 have e:Xm t v .nilIface=Vy (9999+1) t v .nilIface:=rfl;rw[e,Vy];refine eD hu ?_;rcases hv with⟨rfl,rfl⟩|⟨⟨u,x,rfl⟩,rfl⟩
 ·exact aq hk
 ·exact aq hk
theorem ab5{op:VZ}{xt yt:TypeId}{x:Th}{a:AV}{b:Bool}(ho:o.op=.binOp op xt x (.const .nilIface) yt)(ay:op=.eql\/op=.neq)(hx:s.ev x=some a)(ha:(a=.val .nilIface/\b=true)\/((∃u y,a=.dh u y)/\b=false))(ht:mM P xt=some true):
  dI lv P r o s (.val (.bool (if op== .neq then !b else b))):=
 jl (λE V ac hc aF=>by
  have hd:=ap.ev aF hx;generalize kK:ac.eval x=vx at hd;have hv:(vx=.nilIface/\b=true)\/((∃u y,vx=.iface u y)/\b=false):=by
   rcases ha with⟨rfl,rfl⟩|⟨⟨u,y,rfl⟩,rfl⟩
   ·cases hd;exact .inl ⟨rfl,rfl⟩
   ·cases hd;exact .inr ⟨⟨_,_,rfl⟩,rfl⟩
  have hy:ac.eval (.const .nilIface)=.nilIface:=rfl;unfold execOp;rw[ho];simp only[kK,hy];refine az ?_;have guard:∀{K:Unit->View->Prop},K () V->aO P V (eqGuard op xt x (.const .nilIface) vx .nilIface) K (λ_ _=>False):=λhK=>by
   unfold eqGuard;rcases hv with⟨rfl,_⟩|⟨⟨u,y,rfl⟩,_⟩<;>rcases ay with rfl|rfl<;>first|exact aq hK|(simp;exact aq hK)
  refine az (guard ?_);rcases hv with⟨rfl,rfl⟩|⟨⟨u,y,rfl⟩,rfl⟩<;>rcases ay with rfl|rfl<;>(unfold binOp;refine az (ahp (b:=_) ht (by first|exact .inl ⟨rfl,rfl⟩|exact .inr ⟨⟨_,_,rfl⟩,rfl⟩) (aq (aq ⟨rfl,_,rfl,?_⟩)));exact .val _))
theorem P9{t:TypeId}{d:TypeId×Nat}{b:Option U1}{n cap:Nat}{V:View}{K:Bool->View->Prop}{Kp:SQ->View->Prop}(ht:kQ P t=some d)(hk:K b.isNone V):aO P V (Xm t (.slice b n cap) (.slice none 0 0)) K Kp:=by
 obtain⟨el,hu⟩:∃el,P.underlying t=some (.slice el):=by
  unfold kQ at ht;split at ht
  ·rename_i e he;exact⟨e,he⟩
  ·cases ht
 have e:Xm t (.slice b n cap) (.slice none 0 0)=Vy (9999+1) t (.slice b n cap) (.slice none 0 0):=rfl;rw[e,Vy];refine eD hu ?_;cases b with
 |none=>exact aq hk
 |some a=>exact aq hk
theorem aq5{op:VZ}{t yt:TypeId}{x:Th}{n:Nat}{av:AV}{d:TypeId×Nat}(ho:o.op=.binOp op t x (.const (.slice none 0 0)) yt)(ay:op=.eql\/op=.neq)(hx:s.ev x=some av)(hlen:av.len=some n)(ht:kQ P t=some d)
  (hn:∀b:Bool,(0<n->b=false)->next (s.put o.dst (.val (.bool (if op== .neq then !b else b))))):Step lv P r o s next bad:=by
 intro E V a N Q hc aF hd bC h1 _;refine⟨bC,?_⟩;have dE:=ap.ev aF hx;generalize kK:a.eval x=vx at dE;obtain⟨base,cap,rfl,hb⟩:∃base cap,vx=.slice base n cap/\(0<n->base.isNone=false):=by
  cases dE with
  |sl b o cap f ec he q1 q2=>cases hlen;exact⟨_,_,rfl,λ_=>rfl⟩
  |nil he=>cases hlen;exact⟨_,_,rfl,λh=>absurd h (by omega)⟩
  |bp hi=>cases hlen;exact⟨_,_,rfl,λ_=>rfl⟩
  |_=>cases hlen
 unfold execOp;rw[ho];have hy:a.eval (.const (.slice none 0 0))=.slice none 0 0:=rfl;simp only[kK,hy];have fin:aO P V (pure (W1 (.bool (if op== .neq then !base.isNone else base.isNone)))) (m9 lv P r o a N Q) (λv V'=>Q (.panic [{v,recovered:=false}]) a V'):=
  aq (h1 E V (a.put o.dst _) _ ⟨Env.Le.refl E,ey _ _ _,put_defers _ _ _,rfl,rfl⟩ (by rw[fG];exact hc) (aF.iu hd (.val _)) (hn _ hb))
 rcases ay with rfl|rfl
 ·refine az (az (aq ?_));unfold binOp;exact az (P9 ht (aq fin))
 ·refine az (az (aq ?_));unfold binOp;exact az (P9 ht (aq fin))
theorem ao7{c:Xn}{x y:Th}{k j:TY}{m n:Int}(ho:o.op=.call c)(aZ:c.callee=.builtin .max)(cS:c.args=#[x,y]) (hx:s.ev x=some (.val (.int k m))) (hy:s.ev y=some (.val (.int j n))):dI lv P r o s (.val (.int k (if n>m then n else m))):=
 sw (λE V a hc aF=>by
  have h1:=ap.ev aF hx;have h2:=ap.ev aF hy;generalize pV:a.eval x=v1 at h1;generalize tS:a.eval y=v2 at h2;cases h1;cases h2;refine⟨_,?_,.val _⟩;unfold execOp;rw[ho];dsimp only;unfold resolve;rw[aZ];have nZ:c.args.map a.eval=#[.int k m,.int j n]:=by rw[cS];simp[pV,tS]
  rw[nZ];rfl)
theorem ao8{c:Xn}{x y:Th}{k j:TY}{m n:Int}(ho:o.op=.call c)(aZ:c.callee=.builtin .min)(cS:c.args=#[x,y]) (hx:s.ev x=some (.val (.int k m))) (hy:s.ev y=some (.val (.int j n))):dI lv P r o s (.val (.int k (if n<m then n else m))):=
 sw (λE V a hc aF=>by
  have h1:=ap.ev aF hx;have h2:=ap.ev aF hy;generalize pV:a.eval x=v1 at h1;generalize tS:a.eval y=v2 at h2;cases h1;cases h2;refine⟨_,?_,.val _⟩;unfold execOp;rw[ho];dsimp only;unfold resolve;rw[aZ];have nZ:c.args.map a.eval=#[.int k m,.int j n]:=by rw[cS];simp[pV,tS]
  rw[nZ];rfl)
theorem ab4{x:Th}{xt aE t:TypeId}{ok:Bool}{av:AV}{z:SQ}(ho:o.op=.typeAssert x xt aE ok)(ht:mM P aE=some false)(hz:eY P aE=some z)(hx:s.ev x=some (.dh t av))(au:ok=true\/t=aE):
  dI lv P r o s (if t=aE then(if ok then .aM [av,.val (.bool true)]else av)else .aM [AV.of z,.val (.bool false)]):=
 jl (λE V a hc aF=>by
  have hd:=ap.ev aF hx;generalize hv:a.eval x=v at hd;cases hd with
  |dh hd=>
   obtain⟨d,hu,jw⟩:=lz ht;unfold execOp;rw[ho];simp only[hv];refine az ?_;unfold Zj;refine eD hu ?_;split
   ·rename_i h;cases jw
   ·rename_i h;cases jw
   ·rename_i h;cases h
   ·rename_i t' v' h;cases h;by_cases e:t=aE
    ·rw[if_pos e,if_pos e];cases ok
     ·exact aq (aq ⟨rfl,_,rfl,hd⟩)
     ·refine aq (aq ⟨rfl,_,rfl,.aM rfl λi b hb=> ?_⟩)
      match i,hb with
      |0,hb=>cases hb;exact hd
      |1,hb=>cases hb;exact .val _
    ·rw[if_neg e,if_neg e];have n5:ok=true:=au.resolve_right e;subst n5;simp only[if_true];refine az (az ?_);unfold eY at hz;obtain⟨inf,z1,z2⟩:=Te.1 hz;unfold typeInfo;refine az (qX (cO ?_));rw[z1];refine aq ?_;rw[z2];refine aq (aq (aq ⟨rfl,_,rfl,.aM rfl λi b hb=> ?_⟩))
     match i,hb with
     |0,hb=>cases hb;exact td E z
     |1,hb=>cases hb;exact .val _
   ·exfalso;simp_all)
theorem aoM{x:Th}{xt aE:TypeId}{z:SQ}(ho:o.op=.typeAssert x xt aE true)(ht:mM P aE=some false)(hz:eY P aE=some z)(hx:s.ev x=some (.val .nilIface)):dI lv P r o s (.aM [AV.of z,.val (.bool false)]):=
 jl (λE V a hc aF=>by
  have hd:=ap.ev aF hx;generalize hv:a.eval x=v at hd;cases hd;obtain⟨d,hu,jw⟩:=lz ht;unfold execOp;rw[ho];simp only[hv];refine az ?_;unfold Zj;refine eD hu ?_;unfold eY at hz;obtain⟨inf,z1,z2⟩:=Te.1 hz;split
  ·rename_i h;cases jw
  ·rename_i h;cases h
  ·simp only[if_true];refine az (az ?_);unfold typeInfo;refine az (qX (cO ?_));rw[z1];refine aq ?_;rw[z2];refine aq (aq (aq ⟨rfl,_,rfl,.aM rfl λi b hb=> ?_⟩))
   match i,hb with
   |0,hb=>cases hb;exact td E z
   |1,hb=>cases hb;exact .val _
  ·rename_i h;cases h
  ·exfalso;simp_all)
def Ij (P:SJ)(t:TypeId)(name:String):Prop:=∀v,cR P (nilAhead (P.types.size+Made.depth) t v name) (some false)
theorem apb{x:Th}{name:String}{t:TypeId}{av:AV}(ho:o.op=.nilCheck x)(hx:s.ev x=some (.fn (.method name) [.dh t av] []))(hn:Ij P t name):dI lv P r o s (.fn (.method name) [.dh t av] []):=
 jl (λE V a hc aF=>by
  have hd:=ap.ev aF hx;unfold execOp;rw[ho];dsimp only;generalize hv:a.eval x=v at hd⊢;have cG:=hd;cases hd with
  |fn dN gB h1 h2=>
   rename_i fa ca;have hfa:fa.size=1:=dN;have:=h1 0 _ rfl;rw[SH,SK (by omega)]at this;simp only[S7]at this;have hg:fa[0]?=some fa[0]:=SK (by omega);generalize hq:fa[0]=q at this hg;cases this with
   |dh jU=>
    dsimp only;rw[hg];dsimp only;refine az (qX (cO ?_));refine(hn _).bind ?_;simp only[bne_self_eq_false,TM,if_false];exact aq ⟨rfl,_,rfl,cG⟩)
def pj (P:SJ)(t:TypeId):Option (TypeId×TypeId):=match P.underlying t with
 |some (.map k e)=>some (k,e)
 |_=>none
def wZ (es:Array Wl)(ck:Nat)(k x:SQ):Option (Nat×SQ)->Obj
 |none=> .map (es.push {key:=k,val:=x,born:=ck}) (ck+1)
 |some (i,_)=> .map (es.modify i λe=>{e with key:=k,val:=x}) ck
theorem aq1{t kt et:TypeId}{m k x:Th}{id ck:Nat}{es:Array Wl}{a b:AV}{K X:SQ}{fd:Option (Nat×SQ)}(ho:o.op=.mapUpdate t m k x\/o.op=.insert t m k x)(ht:pj P t=some (kt,et))(hm:s.ev m=some (.mp id))(hk:s.ev k=some a)(hx:s.ev x=some b)(hK:a.raw=some K)(hX:b.raw=some X)
  (hH:s.H[id]?=some (.obj (.map es ck))) (hc:cR P (U8 false 10000 kt K) ()) (hf:cR P (VO kt K es.toList) fd) (Gc:∀i v,fd=some (i,v)->WA 10000 (((es[i]?).map (·.key)).getD K) K=true)
  (hn:next ((⟨s.T,s.H.set id (.obj (wZ es ck K X fd))⟩:AS).put o.dst (.val undef))):Step lv P r o s next bad:=by
 intro E V ac N Q jv aF hd bC h1 _;refine⟨bC,?_⟩;have e1:=(ap.ev aF hk).raw hK;have e2:=(ap.ev aF hx).raw hX;have pE:=ap.ev aF hm;generalize yw:ac.eval m=vm at pE;cases pE;obtain⟨p1,p2,p3,p4⟩:=jv.obj id _ hH;obtain⟨g1,g2⟩:=jv.jB hH rfl;have go:aO P V (do Zs t (.map (some (E.blk id))) K X;pure Next.skip) (m9 lv P r o ac N Q) (λv V'=>Q (.panic [{v,recovered:=false}]) ac V'):=by
  refine az ?_;unfold pj at ht;split at ht
  ·rename_i k' e' hu;cases ht;unfold Zs;refine eD hu ?_;dsimp only;refine az (ov p1 p2 p3 g2 (cO ?_));dsimp only;refine hc.bind (hf.bind ?_);have fin:∀y,y=wZ es ck K X fd->aO P V (setObj (E.blk id) y) (λ_ V'=>aO P V' (pure Next.skip) (m9 lv P r o ac N Q) (λv V'=>Q (.panic [{v,recovered:=false}]) ac V')) (λv V'=>Q (.panic [{v,recovered:=false}]) ac V'):=λy hy=>by
    have gC:y.ve=false:=(by rw[hy];cases fd<;>rfl);have hy2:y.isChan=false:=(by rw[hy];cases fd<;>rfl);refine yU p1 p2 hy2 g2 (cO (aq ?_));exact h1 E _ (ac.put o.dst undef) _ ⟨Env.Le.refl E,ey _ _ _,put_defers _ _ _,rfl,rfl⟩ (by rw[fG];rw[hy];exact jv.setObj hH (by cases fd<;>rfl) (by cases fd<;>rfl))
     (cw.iu (s:=⟨s.T,s.H.set id (.obj (wZ es ck K X fd))⟩) aF hd (.val undef)) hn
   cases fd with
   |none=>exact fin _ rfl
   |some iv=>
    obtain⟨i,v⟩:=iv;dsimp only;unfold Instr.keyThatStays;rw[Gc i v rfl];simp only[if_true];exact az (aq (fin _ rfl))
  ·cases ht
 unfold execOp;rcases ho with ho|ho
 all_goals
  rw[ho];simp only[yw,e1,e2];exact go
def EV (es:Array Wl):Option (Nat×SQ)->Array Wl
 |some (i,_)=>es.eraseIdxIfInBounds i
 |none=>es
theorem aqZ{c:Xn}{t t' kt et:TypeId}{m k:Th}{id ck:Nat}{es:Array Wl}{a:AV}{K:SQ}{fd:Option (Nat×SQ)}(ho:o.op=.call c)(aZ:c.callee=.builtin .delete)(cS:c.args=#[m,k]) (dG:c.argTypes=#[t,t']) (ht:pj P t=some (kt,et)) (hm:s.ev m=some (.mp id)) (hk:s.ev k=some a) (hK:a.raw=some K)
  (hH:s.H[id]?=some (.obj (.map es ck))) (hc:cR P (U8 es.isEmpty 10000 kt K) ()) (hf:cR P (VO kt K es.toList) fd)
  (hn:next ((⟨s.T,s.H.set id (.obj (.map (EV es fd) ck))⟩:AS).put o.dst (.val undef))):Step lv P r o s next bad:=by
 intro E V ac N Q jv aF hd bC h1 _;refine⟨bC,?_⟩;have e1:=(ap.ev aF hk).raw hK;have pE:=ap.ev aF hm;generalize yw:ac.eval m=vm at pE;cases pE;obtain⟨p1,p2,p3,p4⟩:=jv.obj id _ hH;obtain⟨g1,g2⟩:=jv.jB hH rfl;unfold execOp;rw[ho];dsimp only;unfold resolve;rw[aZ];dsimp only;refine az (aq ?_);unfold invoke builtin;dsimp only;refine az ?_;have nZ:c.args.map ac.eval=#[.map (some (E.blk id)),K]:=by rw[cS];simp[yw,e1]
 rw[nZ,dG];unfold pj at ht;split at ht
 ·rename_i k' e' hu;cases ht;unfold aue;simp only[Vb,Vq,UM];refine eD hu ?_;dsimp only;refine az (ov p1 p2 p3 g2 (cO ?_));dsimp only;refine hc.bind (hf.bind ?_);have fin:∀uC,uC=(EV es fd)->aO P V (setObj (E.blk id) (.map uC ck)) (λ_ V'=>aO P V' (pure (YG #[])) (λx V'=>aO P V' (pure (W1 x)) (m9 lv P r o ac N Q) (λv V'=>Q (.panic [{v,recovered:=false}]) ac V')) (λv V'=>Q (.panic [{v,recovered:=false}]) ac V')) (λv V'=>Q (.panic [{v,recovered:=false}]) ac V'):=λy hy=>by
   refine yU p1 p2 rfl g2 (cO (aq (aq ?_)));exact h1 E _ (ac.put o.dst undef) _ ⟨Env.Le.refl E,ey _ _ _,put_defers _ _ _,rfl,rfl⟩ (by rw[fG];rw[hy];exact jv.setObj hH rfl rfl)
    (cw.iu (s:=⟨s.T,s.H.set id (.obj (.map (EV es fd) ck))⟩) aF hd (.val undef)) hn
  cases fd with
  |none=>exact az (fin _ rfl)
  |some iv=>exact az (fin _ rfl)
 ·cases ht
theorem aq4{t kt et:TypeId}{x:Th}{m ck:Nat}{es:Array Wl}(ho:o.op=.range t x)(ht:pj P t=some (kt,et))(hx:s.ev x=some (.mp m))(hH:s.H[m]?=some (.obj (.map es ck)))
  (hn:next ((⟨s.T,s.H++[.iter m ck #[] ck]⟩:AS).put o.dst (.op s.H.length 0))):Step lv P r o s next bad:=by
 intro E V ac N Q hc aF hd bC h1 _;refine⟨bC,?_⟩;have pE:=ap.ev aF hx;generalize yw:ac.eval x=vm at pE;cases pE with
 |mp hm=>
  obtain⟨p1,p2,p3,p4⟩:=hc.obj m _ hH;obtain⟨g1,g2⟩:=hc.jB hH rfl;unfold execOp;rw[ho];simp only[yw];refine az ?_;unfold pj at ht;split at ht
  ·rename_i k' e' hu;cases ht;unfold Instr.range;refine eD hu ?_;refine az (ov p1 p2 p3 g2 (cO ?_));dsimp only;refine az (aq ?_);refine az (o0 λrr hf=>cO (aq (aq ?_)));have hle:E.Le (E.add rr V.ab):=E.qT rr (λb o v h=>by rw[<- hc.I];exact h);have bi:Conc (E.add rr V.ab) (V.upd rr (.mapIter (some (E.blk m)) ck #[] ck)) (s.H++[.iter m ck #[] ck]):=by
    refine hc.add hf _ ⟨?_,?_,λo=> ?_⟩ (λb e=> ?_)
    ·exact Nat.lt_succ_of_lt hm
    ·rw[Env.dU,hle.blk m hm];simp[View.upd]
    ·rw[Env.dU];exact hf.2 o
    ·simp only[bQ,Env.dU,Tj]at e;exact e.symm
   exact h1 _ _ (ac.put o.dst (.pointer (some ⟨rr,0,none⟩))) ((⟨s.T,s.H++[.iter m ck #[] ck]⟩:AS).put o.dst (.op s.H.length 0)) ⟨hle,ey _ _ _,put_defers _ _ _,rfl,rfl⟩ (by rw[fG];exact bi)
    (cw.iu (s:=⟨s.T,s.H++[.iter m ck #[] ck]⟩) (aF.mono hle) hd (PM hc.n rr V.ab)) hn
  ·cases ht
theorem Conc.setIter{E:Env}{V:View}{H:List aa}(hc:Conc E V H){id m a c:Nat}{b:Array Nat}(hk:H[id]?=some (.iter m a b c))(a':Nat)(b':Array Nat)(c':Nat):Conc E (V.upd (E.blk id) (.mapIter (some (E.blk m)) a' b' c')) (H.set id (.iter m a' b' c')):=by
 obtain⟨p1,p2,p4⟩:=hc.obj id _ hk;refine hc.iW id (.iter m a' b' c') (Env.Le.refl E) hc.I (by simpa using hc.n) lN rfl (λ_ _ _=>rfl) (λb z hb hz=>⟨?_,λ_=>rfl⟩) ⟨p1,by simp[View.upd],p4⟩ (λb h=> .inl ⟨_,hk,h⟩);have:b≠E.blk id:=λe=>hb _ hk (by rw[e];rfl);simpa[View.upd,this]using hz
theorem aq2{it:Th}{id m since ck ug:Nat}{seen:Array Nat}{es:Array Wl}(ho:o.op=.next it false)(hi:s.ev it=some (.op id 0))(hI:s.H[id]?=some (.iter m since seen ug))(hM:s.H[m]?=some (.obj (.map es ck)))
  (au:es.all (λe=>decide (e.born>=ug))=false\/es.isEmpty=true\/seen.isEmpty=true)
  (hn:∀e∈es,e.born∉seen->next ((⟨s.T,s.H.set id (.iter m since (seen.push e.born) ck)⟩:AS).put o.dst (.aM [.val (.bool true),AV.of e.key,AV.of e.val])))
  (akZ:(∀e∈es,e.born<since->e.born∈seen)->next (s.put o.dst (.aM [.val (.bool false)]))):Step lv P r o s next bad:=by
 intro E V ac N Q hc aF hd bC h1 _;refine⟨bC,?_⟩;have oP:=ap.ev aF hi;generalize qR:ac.eval it=vi at oP;cases oP with
 |op ce=>
  obtain⟨q1,q2,q3⟩:=hc.obj id _ hI;obtain⟨p1,p2,p3,p4⟩:=hc.obj m _ hM;have gi:=hc.jB hI rfl;have gm:=hc.jB hM rfl;unfold execOp;rw[ho];simp only[qR];refine az ?_;unfold Instr.next;dsimp only;refine az (ov q2 rfl rfl gi.2 (cO ?_));dsimp only;refine az (ov p1 p2 p3 gm.2 (cO ?_));dsimp only;rw[if_neg (by
   intro h;simp only[Ti,TZ]at h;rcases au with hk|hk|hk
   ·rw[hk]at h;cases h.2
   ·rw[hk]at h;cases h.1.2
   ·rw[hk]at h;cases h.1.1)]
  generalize Rx:(if((es.filter λe=> !seen.contains e.born).filter (λe=>decide (e.born<since))).isEmpty=true then#[none]else#[])++((es.filter λe=> !seen.contains e.born).filter (λe=>decide (e.born<since))++(es.filter λe=> !seen.contains e.born).filter (λe=>decide (e.born>=since))).map some=zD;have cV:∀x∈zD,match x with
    |some e=>e∈es/\e.born∉seen
    |none=>∀e∈es,e.born<since->e.born∈seen:=by
   intro x hx;rw[<- Rx]at hx;rcases Ut.1 hx with hx|hx
   ·split at hx
    ·rename_i tD;simp at hx;subst hx;intro e he hlt;apply Ts;intro iR;have:e∈((es.filter λe=> !seen.contains e.born).filter (λe=>decide (e.born<since))):=(by simp[he,hlt,iR]);rw[Zd]at tD;rw[tD]at this;simp at this
    ·simp at hx
   ·rw[Array.mem_map]at hx;obtain⟨e,he,rfl⟩:=hx;rcases Ut.1 he with he|he<;>simp at he<;>exact⟨he.1,he.2.2⟩
  have CX:0<zD.size:=by
   rw[<- Rx];split
   ·simp;omega
   ·rename_i tD;have:0<((es.filter λe=> !seen.contains e.born).filter (λe=>decide (e.born<since))).size:=by
     rw[Zd]at tD;exact Array.size_pos_iff.2 tD
    simp only[Xy,Array.size_map,List.size_toArray,UR];omega
  have fin:∀j,j<zD.size->aO P V (match zD[j]?with
    |some (some e)=>do setObj (E.blk id) (.mapIter (some (E.blk m)) since (seen.push e.born) ck);pure (YG #[.bool true,e.key,e.val])
    |some none=>pure (YG #[.bool false])
    | none => stuck "Next: no such candidate") (λx V' => aO P V' (pure (W1 x)) (m9 lv P r o ac N Q) (λv V' => Q (.panic [{ v, recovered := false }]) ac V')) (λv V' => Q (.panic [{ v, recovered := false }]) ac V') := by
   intro j hj;rw[SK hj];have hm:=cV zD[j] (XS hj);generalize zD[j]=x at hm;cases x with
   |none=>
    dsimp only;refine aq (aq ?_);exact h1 E V (ac.put o.dst _) (s.put o.dst (.aM [.val (.bool false)])) ⟨Env.Le.refl E,ey _ _ _,put_defers _ _ _,rfl,rfl⟩ (by rw[fG];exact hc)
     (cw.iu aF hd (.aM rfl λi b hb=>by
      match i,hb with
      |0,hb=>cases hb;exact .val _)) (akZ hm)
   |some e=>
    dsimp only;refine az (yU q2 rfl rfl gi.2 (cO (aq (aq ?_))));exact h1 E _ (ac.put o.dst _) _ ⟨Env.Le.refl E,ey _ _ _,put_defers _ _ _,rfl,rfl⟩ (by rw[fG];exact hc.setIter hI since (seen.push e.born) ck)
     (cw.iu (s:=⟨s.T,s.H.set id (.iter m since (seen.push e.born) ck)⟩) aF hd (.aM rfl λi b hb=>by
      match i,hb with
      |0,hb=>cases hb;exact .val _
      |1,hb=>cases hb;exact td E _
      |2,hb=>cases hb;exact td E _)) (hn e hm.1 hm.2)
  refine az (acz (λhf=>cO (fin 0 CX)) (λhf t=>cO (fin _ (aq' _ CX))))
def AV.found (z:SQ)(ok:Bool):Option (Nat×SQ)->AV
 |some (_,v)=>if ok then .aM [AV.of v,.val (.bool true)]else AV.of v
 |none=>if ok then .aM [AV.of z,.val (.bool false)]else AV.of z
theorem ao4{t kt et:TypeId}{m k:Th}{id ck:Nat}{es:Array Wl}{a:AV}{K z:SQ}{ok:Bool}{fd:Option (Nat×SQ)}(ho:o.op=.lookup t m k ok)(ht:pj P t=some (kt,et))(hz:eY P et=some z)(hm:s.ev m=some (.mp id))(hk:s.ev k=some a)(hK:a.raw=some K)
  (hH:s.H[id]?=some (.obj (.map es ck))) (hc:cR P (U8 es.isEmpty 10000 kt K) ()) (hf:cR P (VO kt K es.toList) fd):dI lv P r o s (AV.found z ok fd):=
 jl (λE V ac jv aF=>by
  have e1:=(ap.ev aF hk).raw hK;have pE:=ap.ev aF hm;generalize yw:ac.eval m=vm at pE;cases pE;obtain⟨p1,p2,p3,p4⟩:=jv.obj id _ hH;have g:=jv.jB hH rfl;unfold pj at ht;split at ht
  ·rename_i k' e' hu;cases ht;unfold execOp;rw[ho];simp only[yw,e1];refine az ?_;unfold Instr.lookup;refine eD hu ?_;dsimp only;refine az (az (ov p1 p2 p3 g.2 (aq (aq ?_))));refine hc.bind (az (hf.ok ?_));have two:∀(v:SQ)(b:Bool)(i:Nat)(x:AV),[AV.of v,.val (.bool b)][i]?=some x->ap E x ((#[v,W8 b]:Array SQ).getD i undef):=λv b i x hx=>by
    match i,hx with
    |0,hx=>cases hx;exact td E _
    |1,hx=>cases hx;exact .val _
   cases fd with
   |some iv=>
    obtain⟨i,v⟩:=iv;refine aq (aq ⟨rfl,_,rfl,?_⟩);cases ok with
    |true=>exact .aM rfl (two v true)
    |false=>exact td E _
   |none=>
    refine Hw hz (aq (aq ⟨rfl,_,rfl,?_⟩));cases ok with
    |true=>exact .aM rfl (two z false)
    |false=>exact td E _
  ·cases ht)
theorem aoR{it:Th}{id m since ck:Nat}{seen:Array Nat}{es:Array Wl}{b:Nat}{e:Wl}(ho:o.op=.entry it)(hi:s.ev it=some (.op id 0))(hI:s.H[id]?=some (.iter m since seen ck))(hM:s.H[m]?=some (.obj (.map es ck)))
  (hb:seen.back?=some b) (he:es.find? (·.born==b)=some e):dI lv P r o s (.aM [AV.of e.key,AV.of e.val]):=
 jl (λE V ac hc aF=>by
  have oP:=ap.ev aF hi;generalize qR:ac.eval it=vi at oP;cases oP with
  |op ce=>
   obtain⟨q1,q2,q3⟩:=hc.obj id _ hI;obtain⟨p1,p2,p3,p4⟩:=hc.obj m _ hM;have gi:=hc.jB hI rfl;have gm:=hc.jB hM rfl;unfold execOp;rw[ho];simp only[qR];refine az ?_;unfold Instr.entry;dsimp only;refine az (ov q2 rfl rfl gi.2 (cO ?_));dsimp only;rw[hb];dsimp only;refine az (ov p1 p2 p3 gm.2 (cO ?_));dsimp only;rw[if_neg (by simp)];rw[he];refine aq (aq ⟨rfl,_,rfl,.aM rfl λi b hb=> ?_⟩)
   match i,hb with
   |0,hb=>cases hb;exact td E _
   |1,hb=>cases hb;exact td E _)
end
open Go.Conc
def ii (E:Env)(V:View)(k:AV->List aa->Prop)(kp:AV->List aa->Prop):Out->View->Prop
 |.ret v,V'=>∃av E' H',E.Le E'/\V'.role=V.role/\V'.deaf=V.deaf/\ap E' av v/\Conc E' V' H'/\k av H'
 |.panic ch,V'=>∃pv v E' H',ch=[{v,recovered:=false}]/\E.Le E'/\V'.role=V.role/\V'.deaf=V.deaf/\ap E' pv v/\Conc E' V' H'/\kp pv H'
def bk (lv:Bool)(P:SJ)(f:TO)(H:List aa)(args:List AV)(k:AV->List aa->Prop)(kp:AV->List aa->Prop):Prop:=
 ∀(E:Env)(V:View)(vs:Array SQ),Conc E V H->cP E args vs->Body lv P f vs .normal V (ii E V k kp)
def Nx (lv:Bool)(P:SJ)(R:Out->View->Prop):Next->View->Prop
 |.value v,V=>R (.ret v) V
 |.skip,V=>R (.ret undef) V
 |.enter f args,V=>Body lv P f args .normal V R
 |.round l f tmps assign body,V=>nB lv P (W6 l f tmps assign body .normal) V R
 |_,_=>False
def jo (lv:Bool)(P:SJ)(c:AV)(H:List aa)(args:List AV)(k:AV->List aa->Prop)(kp:AV->List aa->Prop):Prop:=
 ∀(E:Env)(V:View)(cv:SQ)(vs:Array SQ),Conc E V H->ap E c cv->cP E args vs->
  aO P V (do let d<- U0 cv vs;invoke d.target d.args) (λnx V'=>Nx lv P (ii E V k kp) nx V') (λv V'=>ii E V k kp (.panic [{v,recovered:=false}]) V')
def Ev (lv:Bool)(P:SJ)(c:AV)(name:String)(H:List aa)(args:List AV)(k:AV->List aa->Prop)(kp:AV->List aa->Prop):Prop:=
 ∀(E:Env)(V:View)(cv:SQ)(vs:Array SQ),Conc E V H->ap E c cv->cP E args vs->
  aO P V (invoke (.fn (.method name) #[]) (#[cv]++vs)) (λnx V'=>Nx lv P (ii E V k kp) nx V') (λv V'=>ii E V k kp (.panic [{v,recovered:=false}]) V')
theorem ii.mono{E:Env}{V:View}{k k' kp wN:AV->List aa->Prop}(h:∀a H,k a H->k' a H)(hp:∀a H,kp a H->wN a H):∀{o V'},ii E V k kp o V'->ii E V k' wN o V'
 |.ret _,_,⟨av,E',H',a,b,c,d,e,f⟩=>⟨av,E',H',a,b,c,d,e,h _ _ f⟩
 |.panic _,_,⟨pv,v,E',H',a,b,c,d,e,f,g⟩=>⟨pv,v,E',H',a,b,c,d,e,f,hp _ _ g⟩
theorem Nx.mono{lv:Bool}{P:SJ}{R R':Out->View->Prop}(h:∀o V,R o V->R' o V):∀{nx V},Nx lv P R nx V->Nx lv P R' nx V:=by
 intro nx V hn;cases nx with
 |value v=>exact h _ _ hn
 |skip=>exact h _ _ hn
 |enter f args=>exact Body.mono hn h
 |round l f tmps a b=>exact nB.mono hn h
 |_=>exact hn
theorem bk.mono{lv:Bool}{P:SJ}{f:TO}{H:List aa}{args:List AV}{k k' kp wN:AV->List aa->Prop}(h:bk lv P f H args k kp)(hk:∀a H,k a H->k' a H)(hp:∀a H,kp a H->wN a H):bk lv P f H args k' wN:=λE V vs hc hd=>
 (h E V vs hc hd).mono λ_ _ x=>x.mono hk hp
theorem jo.mono{lv:Bool}{P:SJ}{f:AV}{H:List aa}{args:List AV}{k k' kp wN:AV->List aa->Prop}(h:jo lv P f H args k kp)(hk:∀a H,k a H->k' a H)(hp:∀a H,kp a H->wN a H):jo lv P f H args k' wN:=λE V cv vs hc hd pG=>
 (h E V cv vs hc hd pG).mono (λ_ _ x=>Nx.mono (λ_ _ y=>y.mono hk hp) x) (λ_ _ y=>y.mono hk hp)
def rf (P:SJ)(g:TO):Bool:=match P.funcs[g]?with
 | some fn => fn.body.isSome && !(fn.name == "runtime.NumGoroutine")
 |none=>false
theorem aqa{lv:Bool}{P:SJ}{V:View}{g:TO}{vs:Array SQ}{R:Out->View->Prop}{Kp:SQ->View->Prop}(hg:rf P g=true)(h:Body lv P g vs .normal V R):aO P V (callFunc g vs) (λnx V'=>Nx lv P R nx V') Kp:=by
 unfold callFunc;refine az (qX (cO ?_));unfold rf at hg;split at hg
 ·rename_i fn yb;simp only[Ti,TZ]at hg;rw[yb];dsimp only;have Cx:fn.body.isNone=false:=by
   have h1:=hg.1;cases hb:fn.body with
   |none=>rw[hb]at h1;cases h1
   |some _=>rfl
  rw[if_neg (by rw[hg.2];simp),if_neg (by rw[Cx];simp)];exact aq h
 ·cases hg
section
variable {lv:Bool}{P:SJ}{H:List aa}{args:List AV}{k kp:AV->List aa->Prop}
theorem IL{g:TO}{first c9:List AV}(hg:rf P g=true)(hf:bk lv P g H (first++args++c9) k kp):jo lv P (.fn (.func g) first c9) H args k kp:=by
 intro E V cv vs hc hd pG;cases hd with
 |fn dN gB h1 h2=>
  rename_i fa ca;unfold U0;refine az (aq ?_);unfold invoke;dsimp only;exact aqa hg (hf E V _ hc (B4 (B4 ⟨dN,h1⟩ pG) ⟨gB,h2⟩))
end
def fD (s:AS):List Th->Option (List AV)
 |[]=>some []
 |x::l=>match s.ev x,fD s l with
  |some a,some aE=>some (a::aE)
  |_,_=>none
theorem zN{E:Env}{s:AS}{a:Act}(k:cw E s.T a.tmps):∀{l:List Th}{aE:List AV},fD s l=some aE->cP E aE (l.map a.eval).toArray
 |[],_,h=>by cases h;exact⟨rfl,by simp⟩
 |x::l,aE,h=>by
  simp only[fD]at h;split at h
  ·rename_i av mz h1 h2;cases h;have ih:=zN k h2;refine⟨by have:=ih.1;simpa using this,λi b e=> ?_⟩;cases i with
   |zero=>simp at e;subst e;simpa[SH]using ap.ev k h1
   |succ i=>
    simp only[UM]at e;have:=ih.2 i b e;simpa[SH]using this
  ·cases h
section
variable {lv:Bool}{P:SJ}{r:Option Nat}{o:Tu}{s:AS}{next:AS->Prop}{bad:AV->AS->Prop}
theorem abE{E:Env}{V:View}{a:Act}{N:Act->View->Prop}{Q:Ex->Act->View->Prop}(aF:cw E s.T a.tmps)(hd:∀d,o.dst=some d->d<a.tmps.size)
  (h1:∀E' V' a' s',Kept E E' V V' a a'->Conc E' V' s'.H->cw E' s'.T a'.tmps->next s'->N a' V')
  (h2:∀E' V' s' pv v,Kept E E' V V' a a->Conc E' V' s'.H->cw E' s'.T a.tmps->ap E' pv v->bad pv s'->Q (.panic [{v,recovered:=false}]) a V'):
  (∀nx V',Nx lv P (ii E V (λb H'=>next ((⟨s.T,H'⟩:AS).put o.dst b)) (λpv H'=>bad pv ⟨s.T,H'⟩)) nx V'->m9 lv P r o a N Q nx V')/\
  (∀v V',ii E V (λb H'=>next ((⟨s.T,H'⟩:AS).put o.dst b)) (λpv H'=>bad pv ⟨s.T,H'⟩) (.panic [{v,recovered:=false}]) V'->Q (.panic [{v,recovered:=false}]) a V'):=by
 have hv:∀v V',ii E V (λb H'=>next ((⟨s.T,H'⟩:AS).put o.dst b)) (λpv H'=>bad pv ⟨s.T,H'⟩) (.ret v) V'->N (a.put o.dst v) V':=λv V' ⟨av,E',H',hle,cp,fy,bm,bi,hk⟩=>
  h1 E' V' _ _ ⟨hle,ey _ _ _,put_defers _ _ _,cp,fy⟩ (by rw[fG];exact bi) (cw.iu (s:=⟨s.T,H'⟩) (aF.mono hle) hd bm) hk
 have hp:∀ch V',ii E V (λb H'=>next ((⟨s.T,H'⟩:AS).put o.dst b)) (λpv H'=>bad pv ⟨s.T,H'⟩) (.panic ch) V'->Q (.panic ch) a V':=λch V' ⟨pv,v,E',H',fx,hle,cp,fy,bm,bi,hk⟩=>by
  subst fx;exact h2 E' V' ⟨s.T,H'⟩ pv v ⟨hle,rfl,rfl,cp,fy⟩ bi (aF.mono hle) bm hk
 refine⟨λnx V' hn=> ?_,λv V' h=>hp _ _ h⟩;cases nx with
 |value v=>exact hv _ _ hn
 |skip=>exact hv _ _ hn
 |enter f args=>
  refine Body.mono (R':=fun
   |.ret v,V'=>N (a.put o.dst v) V'
   |.panic ch,V'=>Q (.panic ch) a V') hn λot aT h=> ?_
  cases ot with
  |ret v=>exact hv _ _ h
  |panic ch=>exact hp _ _ h
 |round l f tmps aE b=>
  refine nB.mono (R':=fun
   |.ret v,V'=>N (a.put o.dst v) V'
   |.panic ch,V'=>Q (.panic ch) a V') hn λot aT h=> ?_
  cases ot with
  |ret v=>exact hv _ _ h
  |panic ch=>exact hp _ _ h
 |_=>exact hn.elim
theorem NS{c:Xn}{x:Th}{s8:AV}{aE:List AV}(ho:o.op=.call c)(aZ:c.callee=.value x)(hx:s.ev x=some s8)(has:fD s c.args.toList=some aE)
  (hf:jo lv P s8 s.H aE (λb H'=>next ((⟨s.T,H'⟩:AS).put o.dst b)) (λpv H'=>bad pv ⟨s.T,H'⟩)):Step lv P r o s next bad:=by
 intro E V a N Q hc aF hd bC h1 h2;have se:=abE (lv:=lv) (P:=P) (r:=r) aF hd h1 h2;refine⟨bC,?_⟩;unfold execOp;rw[ho];dsimp only;unfold resolve;rw[aZ];dsimp only;have e:c.args.map a.eval=(c.args.toList.map a.eval).toArray:=by apply VE;simp
 rw[e];exact(hf E V (a.eval x) _ hc (ap.ev aF hx) (zN aF has)).mono (λnx V' h=>se.1 nx V' h) (λv V' h=>se.2 v V' h)
theorem ac3{c:Xn}{x:Th}{name:String}{s8:AV}{aE:List AV}(ho:o.op=.call c)(aZ:c.callee=.invoke x name)(hx:s.ev x=some s8)(has:fD s c.args.toList=some aE)
  (hf:Ev lv P s8 name s.H aE (λb H'=>next ((⟨s.T,H'⟩:AS).put o.dst b)) (λpv H'=>bad pv ⟨s.T,H'⟩)):Step lv P r o s next bad:=by
 intro E V a N Q hc aF hd bC h1 h2;have se:=abE (lv:=lv) (P:=P) (r:=r) aF hd h1 h2;refine⟨bC,?_⟩;unfold execOp;rw[ho];dsimp only;unfold resolve;rw[aZ];dsimp only;refine az (aq ?_);have e:c.args.map a.eval=(c.args.toList.map a.eval).toArray:=by apply VE;simp
 rw[e];exact(hf E V (a.eval x) _ hc (ap.ev aF hx) (zN aF has)).mono (λnx V' h=>se.1 nx V' h) (λv V' h=>se.2 v V' h)
theorem aq3{x:Th}{t:TypeId}{av:AV}(ho:o.op=.panic x)(hx:s.ev x=some (.dh t av))(hb:bad (.dh t av) s):Step lv P r o s next bad:=by
 intro E V a N Q hc aF hd bC _ h2;refine⟨bC,?_⟩;have dE:=ap.ev aF hx;unfold execOp;rw[ho];dsimp only;refine az ?_;generalize a.eval x=v at dE⊢;have akj:=dE;cases dE with
 |dh hv=>
  unfold Instr.panic;dsimp only;exact aqi (h2 E V s (.dh t av) _ ⟨Env.Le.refl E,rfl,rfl,rfl,rfl⟩ hc aF akj hb)
end
structure Ew (k kp:AV->List aa->Prop):Type where
 n:Nat
def Bj (lv:Bool)(P:SJ)(c:AV)(H:List aa)(args:List AV)(k kp:AV->List aa->Prop)(_t:Ew k kp):Prop:=jo lv P c H args k kp
def ad1 (lv:Bool)(P:SJ)(c:AV)(name:String)(H:List aa)(args:List AV)(k kp:AV->List aa->Prop)(_t:Ew k kp):Prop:=Ev lv P c name H args k kp
theorem xD{lv:Bool}{P:SJ}{c:AV}{H:List aa}{args:List AV}{k kp:AV->List aa->Prop}{t:Ew k kp}(h:jo lv P c H args k kp):Bj lv P c H args k kp t:=h
def ao {α:Type}(x:Option α)(k:α->Prop):Prop:=match x with
 |some a=>k a
 |none=>False
def AV.asBool (a:AV)(k:Bool->Prop):Prop:=match a with
 |.val (.bool b)=>k b
 |_=>False
def AV.asInt (a:AV)(k:TY->Int->Prop):Prop:=match a with
 |.val (.int j n)=>k j n
 |_=>False
def AV.xA (a:AV)(k:List AV->Prop):Prop:=match a with
 |.aM l=>k l
 |_=>False
def AV.asAgg (a:AV)(k:List AV->Prop):Prop:=match a with
 |.agg l=>k l
 |_=>False
def AV.qn (a:AV)(k:Nat->Nat->Prop):Prop:=match a with
 |.op i j=>k i j
 |_=>False
def AV.sX (a:AV)(k:Nat->Prop):Prop:=match a with
 |.mp i=>k i
 |_=>False
def AV.vT (a:AV)(k:Nat->List AV->End->Prop):Prop:=match a with
 |.sl n l e=>k n l e
 |_=>False
theorem ao.out{α:Type}{x:Option α}{k:α->Prop}(h:ao x k):∃a,x=some a/\k a:=by
 cases x with
 |none=>exact h.elim
 |some a=>exact⟨a,rfl,h⟩
theorem BS{a:AV}{k:Bool->Prop}(h:a.asBool k):∃b,a=.val (.bool b)/\k b:=by
 unfold AV.asBool at h;split at h
 ·exact⟨_,rfl,h⟩
 ·exact h.elim
theorem oE{a:AV}{k:TY->Int->Prop}(h:a.asInt k):∃j n,a=.val (.int j n)/\k j n:=by
 unfold AV.asInt at h;split at h
 ·exact⟨_,_,rfl,h⟩
 ·exact h.elim
theorem afp{a:AV}{k:List AV->Prop}(h:a.xA k):∃l,a=.aM l/\k l:=by
 unfold AV.xA at h;split at h
 ·exact⟨_,rfl,h⟩
 ·exact h.elim
theorem afg{a:AV}{k:List AV->Prop}(h:a.asAgg k):∃l,a=.agg l/\k l:=by
 unfold AV.asAgg at h;split at h
 ·exact⟨_,rfl,h⟩
 ·exact h.elim
theorem BT{a:AV}{k:Nat->Nat->Prop}(h:a.qn k):∃i j,a=.op i j/\k i j:=by
 unfold AV.qn at h;split at h
 ·exact⟨_,_,rfl,h⟩
 ·exact h.elim
theorem EJ{a:AV}{k:Nat->Prop}(h:a.sX k):∃i,a=.mp i/\k i:=by
 unfold AV.sX at h;split at h
 ·exact⟨_,rfl,h⟩
 ·exact h.elim
theorem OQ{a:AV}{k:Nat->List AV->End->Prop}(h:a.vT k):∃n l e,a=.sl n l e/\k n l e:=by
 unfold AV.vT at h;split at h
 ·exact⟨_,_,_,rfl,h⟩
 ·exact h.elim
section
variable (P:SJ)(s:AS)
def dR (op:VZ)(xt:TypeId)(a b:AV)(k:AV->Prop):Prop:=match a,b with
 |.val (.int j m),.val (.int j' n)=>if nk op then ao (A6 op j m n) λv=>k (.val v)else j'=j/\ao (mA op j m n) λv=>k (.val v)
 |_,_=>(op=.eql\/op=.neq)/\ao a.raw λX=>ao b.raw λY=>zK X Y=true/\P.eqGuardType P.depth xt=false/\∃e,cR P (Xm xt X Y) e/\k (.val (.bool (if op== .neq then !e else e)))
def iX (op:VZ)(xt:TypeId)(y:Th)(a:AV)(k:AV->Prop):Prop:=match y,a with
 |.const .nilIface,.val .nilIface=>mM P xt=some true/\(op=.eql\/op=.neq)/\k (.val (.bool (if op== .neq then false else true)))
 |.const .nilIface,.dh _ _=>mM P xt=some true/\(op=.eql\/op=.neq)/\k (.val (.bool (if op== .neq then true else false)))
 |y,a=>ao (s.ev y) λb=>dR P op xt a b k
def sK (t:TypeId)(a:AV)(l h m:Option Int)(k:AV->Prop):Prop:=match a with
 |.sl n li e=>ao (kQ P t) λ(_,sz)=>xq n li e sz l h m k
 |.bp id off n cap=>ao (kQ P t) λ(_,sz)=>sS id off n cap sz l h m k
 |.op id off=>ao (xj P t) λ(n,sz)=>sS id off n n sz l h m k
 |_=>False
def sJ (t:TypeId)(a:AV)(k:AV->Prop):Prop:=match lU P t,a with
 |some .slice,.sl n _ _=>k (.val (.int .i64 n))
 |some .slice,.bp _ _ n _=>k (.val (.int .i64 n))
 |some .str,.val (.string b)=>k (.val (.int .i64 b.size))
 |some .map,.mp id=>match s.H[id]?with
  |some (.obj (.map es _))=>k (.val (.int .i64 es.size))
  |_=>False
 |_,_=>False
def mV (a:AV)(k:AV->Prop):Prop:=match a with
 |.fn (.method name) [.dh t av] []=>Ij P t name/\k (.fn (.method name) [.dh t av] [])
 |a=>a.sure=true/\k a
def Bg (aE:TypeId)(ok:Bool)(a:AV)(k:AV->Prop):Prop:=mM P aE=some false/\ao (eY P aE) λz=>match a with
 |.dh t av=>if t=aE then k (if ok then .aM [av,.val (.bool true)]else av)else ok=true/\k (.aM [AV.of z,.val (.bool false)])
 |.val .nilIface=>ok=true/\k (.aM [AV.of z,.val (.bool false)])
 |_=>False
def lT (o:Tu)(k:AV->Prop):Prop:=match o.op with
 |.move x=>ao (s.ev x) k
 |.assign x=>ao (s.ev x) k
 |.pick c x y=>ao (s.ev c) λb=>ao (s.ev x) λa=>ao (s.ev y) λa'=>b.asBool λb=>k (if b then a else a')
 |.binOp op xt x y _=>ao (s.ev x) λa=>iX P s op xt y a k
 |.unOp .not _ x=>ao (s.ev x) λa=>a.asBool λb=>k (.val (.bool !b))
 |.unOp .neg _ x=>ao (s.ev x) λa=>a.asInt λj n=>k (.val (.int j (j.wrap (0-n))))
 |.convert src dst x=>ao (s.ev x) λa=>match Bl P src dst with
   |some (some j)=>a.asInt λ_ n=>k (.val (.int j (j.wrap n)))
   |_=>False
 |.extract x i=>ao (s.ev x) λa=>a.xA λl=>ao l[i]? k
 |.nilCheck x=>ao (s.ev x) λa=>mV P a k
 |.makeInterface t x=>mM P t=some false/\ao (s.ev x) λa=>k (.dh t a)
 |.makeFunc f first c9=>ao (first.toList.mapM s.ev) λfa=>ao (c9.toList.mapM s.ev) λca=>k (.fn f fa ca)
 |.typeAssert x _ aE ok=>ao (s.ev x) λa=>Bg P aE ok a k
 |.build t parts=>ao (pc P t) λ(pl,z)=>ao (kC s parts.toList) λaE=>ao (oJ pl.at (mr z) aE) λl=>k (.agg l)
 |.buildSlice t len parts=>ao (rz P t) λ(_,sz,z)=>len* sz<=2^24/\ao (kC s parts.toList) λaE=>ao (oJ (iN.at (.elems sz)) (ie z (len* sz)) aE) λl=>k (.sl len l .exact)
 |.fieldAddr t x f=>ao (s.ev x) λa=>ao (fC P t f) λn=>ao (a.shift n) k
 |.indexAddr t x ix=>ao (s.ev x) λa=>ao (s.ev ix) λi=>i.asInt λ_ i=>ao (oy P t) fun
   |(some n,sz)=>(0<=i/\i<n)/\ao (a.shift (i.toNat* sz)) k
   |(none,sz)=>ao a.row λ(n,p)=>(0<=i/\i<n)/\ao (p.shift (i.toNat* sz)) k
 |.field t x f=>ao (s.ev x) λa=>a.asAgg λl=>ao (Ik P t f) λ(off,n,g)=>ao (AV.cut l off n g) k
 |.index t x ix=>ao (s.ev x) λa=>ao (s.ev ix) λi=>i.asInt λ_ i=>match a with
   |.agg l=>ao (Ie P t) λ(n,sz,g)=>(0<=i/\i<n)/\ao (AV.cut l (i.toNat* sz) sz g) k
   |.val (.string b)=>(match lU P t with|some .str=>True|_=>False)/\0<=i/\ao b[i.toNat]? λc=>k (.val (.int .u8 c.toNat))
   |_=>False
 |.load t x=>ao (s.ev x) λp=>ao (s.at p) λl=>ao (Ty P t) fun
   |(n,true)=>n<=l.length/\k (.agg (l.take n))
   |(_,false)=>ao l[0]? k
 |.lookup t m k' ok=>ao (pj P t) λ(kt,et)=>ao (eY P et) λz=>ao (s.ev m) λp=>ao (s.ev k') λa=>ao a.raw λK=>p.sX λid=>match s.H[id]?with
  |some (.obj (.map es _))=>cR P (U8 es.isEmpty 10000 kt K) ()/\∃fd,cR P (VO kt K es.toList) fd/\k (AV.found z ok fd)
  |_=>False
 |.slice t x lo hi mx=>ao (s.ev x) λa=>ao (s.jq lo) λl=>ao (s.jq hi) λh=>ao (s.jq mx) λm=>sK P t a l h m k
 |.entry it=>ao (s.ev it) λp=>p.qn λid off=>off=0/\match s.H[id]?with
   |some (.iter m _ seen ck)=>match s.H[m]?with
    |some (.obj (.map es Pv))=>Pv=ck/\ao seen.back? λb=>ao (es.find? (·.born==b)) λe=>k (.aM [AV.of e.key,AV.of e.val])
    |_=>False
   |_=>False
 |.call c=>match c.callee with
  |.builtin .len=>ao c.args[0]? λx=>ao c.argTypes[0]? λt=>ao (s.ev x) λa=>sJ P s t a k
  |.builtin .max=>match c.args.toList with
   |[x,y]=>ao (s.ev x) λa=>ao (s.ev y) λb=>a.asInt λj m=>b.asInt λ_ n=>k (.val (.int j (if n>m then n else m)))
   |_=>False
  |.builtin .min=>match c.args.toList with
   |[x,y]=>ao (s.ev x) λa=>ao (s.ev y) λb=>a.asInt λj m=>b.asInt λ_ n=>k (.val (.int j (if n<m then n else m)))
   |_=>False
  |_=>False
 |_=>False
end
section
variable {lv:Bool}{P:SJ}{r:Option Nat}{o:Tu}{s:AS}
theorem nF{c:Xn}{x y:Th}(h:c.args.toList=[x,y]):c.args=#[x,y]:=by
 apply VE;simpa using h
theorem lT.sound{k:AV->Prop}(h:lT P s o k):∃av,dI lv P r o s av/\k av:=by
 unfold lT at h;split at h
 ·rename_i x ho;obtain⟨a,h1,h2⟩:=h.out;exact⟨a,ab7 (.inl ho) h1,h2⟩
 ·rename_i x ho;obtain⟨a,h1,h2⟩:=h.out;exact⟨a,ab7 (.inr ho) h1,h2⟩
 ·rename_i c x y ho;obtain⟨b,h1,h⟩:=h.out;obtain⟨a,h2,h⟩:=h.out;obtain⟨a',h3,h⟩:=h.out;obtain⟨b,rfl,h⟩:=BS h;exact⟨_,apd ho h1 h2 h3,h⟩
 ·rename_i op xt x y yt ho;obtain⟨a,h1,hY⟩:=h.out;clear h;unfold iX at hY;split at hY
  ·exact⟨_,ab5 ho hY.2.1 h1 (.inl ⟨rfl,rfl⟩) hY.1,hY.2.2⟩
  ·exact⟨_,ab5 ho hY.2.1 h1 (.inr ⟨⟨_,_,rfl⟩,rfl⟩) hY.1,hY.2.2⟩
  rename_i n1 n2;clear n1 n2;obtain⟨b,h2,h⟩:=hY.out;unfold dR at h;split at h
  ·rename_i j m j' n;split at h
   ·obtain⟨v,h3,h⟩:=h.out;exact⟨_,ape ho h1 h2 h3,h⟩
   ·obtain⟨rfl,h⟩:=h;obtain⟨v,h3,h⟩:=h.out;exact⟨_,aoN ho h1 h2 h3,h⟩
  ·obtain⟨ay,h⟩:=h;obtain⟨X,h3,h⟩:=h.out;obtain⟨Y,h4,h⟩:=h.out;obtain⟨h5,h6,e,h7,h⟩:=h;exact⟨_,aoS ho ay h1 h2 h3 h4 h5 h6 h7,h⟩
 ·rename_i t x ho;obtain⟨a,h1,h⟩:=h.out;obtain⟨b,rfl,h⟩:=BS h;exact⟨_,apc ho h1,h⟩
 ·rename_i t x ho;obtain⟨a,h1,h⟩:=h.out;obtain⟨j,n,rfl,h⟩:=oE h;exact⟨_,ao9 ho h1,h⟩
 ·rename_i src dst x ho;obtain⟨a,h1,h⟩:=h.out;split at h
  ·rename_i j hj;obtain⟨j',n,rfl,h⟩:=oE h;exact⟨_,aoQ ho hj h1,h⟩
  ·exact h.elim
 ·rename_i x i ho;obtain⟨a,h1,h⟩:=h.out;obtain⟨l,rfl,h⟩:=afp h;obtain⟨b,h2,h⟩:=h.out;exact⟨_,aoT ho h1 h2,h⟩
 ·rename_i x ho;obtain⟨a,h1,h⟩:=h.out;unfold mV at h;split at h
  ·exact⟨_,apb ho h1 h.1,h.2⟩
  ·exact⟨_,apa ho h1 h.1,h.2⟩
 ·rename_i t x ho;obtain⟨h1,h⟩:=h;obtain⟨a,h2,h⟩:=h.out;exact⟨_,ao6 ho h1 h2,h⟩
 ·rename_i f first c9 ho
  obtain⟨fa,h1,h⟩:=h.out;obtain⟨ca,h2,h⟩:=h.out;exact⟨_,ao5 ho h1 h2,h⟩
 ·rename_i x xt aE ok ho;obtain⟨a,h1,hA⟩:=h.out;obtain⟨h2,hB⟩:=hA;obtain⟨z,h3,hC⟩:=hB.out;clear h hB;split at hC
  ·rename_i t av;split at hC
   ·rename_i e;subst e;exact⟨_,ab4 ho h2 h3 h1 (.inr rfl),by rw[if_pos rfl];exact hC⟩
   ·rename_i e;exact⟨_,ab4 ho h2 h3 h1 (.inl hC.1),by rw[if_neg e];exact hC.2⟩
  ·obtain⟨e,hC⟩:=hC;subst e;exact⟨_,aoM ho h2 h3 h1,hC⟩
  ·exact hC.elim
 ·rename_i t parts ho;obtain⟨⟨pl,z⟩,h1,h⟩:=h.out;obtain⟨aE,h2,h⟩:=h.out;obtain⟨l,h3,h⟩:=h.out;exact⟨_,aoO ho h1 h2 h3,h⟩
 ·rename_i t len parts ho;obtain⟨⟨e,sz,z⟩,h1,h⟩:=h.out;obtain⟨hs,h⟩:=h;obtain⟨aE,h2,h⟩:=h.out;obtain⟨l,h3,h⟩:=h.out;exact⟨_,aoP ho h1 hs h2 h3,h⟩
 ·rename_i t x f ho;obtain⟨a,h1,h⟩:=h.out;obtain⟨n,hn,h⟩:=h.out;obtain⟨b,h2,h⟩:=h.out;exact⟨_,aoU ho hn h1 h2,h⟩
 ·rename_i t x ix ho;obtain⟨a,h1,h⟩:=h.out;obtain⟨i,h2,h⟩:=h.out;obtain⟨j,i,rfl,h⟩:=oE h;obtain⟨⟨on,sz⟩,ht,h⟩:=h.out;cases on with
  |some n=>
   obtain⟨⟨h3,h4⟩,h⟩:=h;obtain⟨q,h5,h⟩:=h.out;exact⟨_,aoX ho ht h1 h2 h3 h4 h5,h⟩
  |none=>
   obtain⟨⟨n,p⟩,alr,h⟩:=ao.out h;obtain⟨⟨h3,h4⟩,h⟩:=h;obtain⟨q,h5,h⟩:=h.out;exact⟨_,aoW ho ht h1 alr h2 h3 h4 h5,h⟩
 ·rename_i t x f ho;obtain⟨a,h1,h⟩:=h.out;obtain⟨l,rfl,h⟩:=afg h;obtain⟨⟨off,n,g⟩,h2,h⟩:=h.out;obtain⟨b,h3,h⟩:=h.out;exact⟨_,aoV ho h2 h1 h3,h⟩
 ·rename_i t x ix ho;obtain⟨a,h1,h⟩:=h.out;obtain⟨i,h2,h⟩:=h.out;obtain⟨j,i,rfl,h⟩:=oE h;split at h
  ·obtain⟨⟨n,sz,g⟩,h3,h⟩:=h.out;obtain⟨⟨h4,h5⟩,h⟩:=h;obtain⟨b,h6,h⟩:=h.out;exact⟨_,aoZ ho h3 h1 h2 h4 h5 h6,h⟩
  ·obtain⟨h3,h4,h⟩:=h;obtain⟨c,h5,h⟩:=h.out;split at h3
   ·rename_i hl;exact⟨_,aoY ho hl h1 h2 h4 h5,h⟩
   ·exact h3.elim
  ·exact h.elim
 ·rename_i t x ho;obtain⟨p,h1,h⟩:=h.out;obtain⟨l,hl,h⟩:=h.out;obtain⟨⟨n,g⟩,ht,h⟩:=h.out;cases g with
  |true=>exact⟨_,ao2 ho ht h1 hl h.1,h.2⟩
  |false=>
   obtain⟨av,h2,h⟩:=ao.out h;exact⟨_,ao3 ho ht h1 hl h2,h⟩
 ·rename_i t m k' ok ho;obtain⟨⟨kt,et⟩,h1,hA⟩:=h.out;obtain⟨z,h2,hB⟩:=hA.out;obtain⟨p,h3,hC⟩:=hB.out;obtain⟨a,h4,hD⟩:=hC.out;obtain⟨K,h5,hE⟩:=hD.out;obtain⟨id,e1,hF⟩:=EJ hE;subst e1;split at hF
  ·rename_i es ck hH;obtain⟨h6,fd,h7,h8⟩:=hF;exact⟨_,ao4 ho h1 h2 h3 h4 h5 hH h6 h7,h8⟩
  ·exact hF.elim
 ·rename_i t x lo hi mx ho;obtain⟨a,h1,h⟩:=h.out;obtain⟨l,h2,h⟩:=h.out;obtain⟨hh,h3,h⟩:=h.out;obtain⟨m,h4,h⟩:=h.out;unfold sK at h;split at h
  ·obtain⟨⟨e,sz⟩,h5,h⟩:=h.out;exact apf ho h5 h1 h2 h3 h4 h
  ·obtain⟨⟨e,sz⟩,h5,h⟩:=h.out;exact aph ho h5 h1 h2 h3 h4 h
  ·obtain⟨⟨n,sz⟩,h5,h⟩:=h.out;exact apg ho h5 h1 h2 h3 h4 h
  ·exact h.elim
 ·rename_i it ho;obtain⟨p,h1,hA⟩:=h.out;obtain⟨id,off,e1,hB⟩:=BT hA;clear h hA;subst e1;obtain⟨e1,hC⟩:=hB;subst e1;split at hC
  ·rename_i m since seen ck hI;split at hC
   ·rename_i es Pv hM;obtain⟨e1,hD⟩:=hC;subst e1;obtain⟨b,h2,hE⟩:=hD.out;obtain⟨e,h3,hF⟩:=hE.out;exact⟨_,aoR ho h1 hI hM h2 h3,hF⟩
   ·exact hC.elim
  ·exact hC.elim
 ·rename_i c ho;split at h
  ·rename_i aZ;obtain⟨x,h1,h⟩:=h.out;obtain⟨t,h2,h⟩:=h.out;obtain⟨a,h3,h⟩:=h.out;unfold sJ at h;split at h
   ·rename_i hl;exact⟨_,ab6 ho aZ h1 h2 hl h3 rfl,h⟩
   ·rename_i hl;exact⟨_,ab6 ho aZ h1 h2 hl h3 rfl,h⟩
   ·rename_i hl;exact⟨_,ao1 ho aZ h1 h2 hl h3,h⟩
   ·rename_i hl;split at h
    ·rename_i hM;exact⟨_,ao0 ho aZ h1 h2 hl h3 hM,h⟩
    ·exact h.elim
   ·exact h.elim
  ·rename_i aZ;split at h
   ·rename_i x y cS;obtain⟨a,h1,hA⟩:=h.out;obtain⟨b,h2,hB⟩:=hA.out;obtain⟨j,m,e1,hC⟩:=oE hB;obtain⟨j',n,e2,hD⟩:=oE hC;subst e1 e2;exact⟨_,ao7 ho aZ (nF cS) h1 h2,hD⟩
   ·exact h.elim
  ·rename_i aZ;split at h
   ·rename_i x y cS;obtain⟨a,h1,hA⟩:=h.out;obtain⟨b,h2,hB⟩:=hA.out;obtain⟨j,m,e1,hC⟩:=oE hB;obtain⟨j',n,e2,hD⟩:=oE hC;subst e1 e2;exact⟨_,ao8 ho aZ (nF cS) h1 h2,hD⟩
   ·exact h.elim
  ·exact h.elim
 ·exact h.elim
end
open Go.Conc
structure mu (X Y:Prop):Type where
 n:Nat
def rj (b cj:Bool)(X Y:Prop)(_t:mu X Y):Prop:=(b=cj->X)/\(b= !cj->Y)
theorem xR{b cj:Bool}{X Y:Prop}{t:mu X Y}(h1:b=cj->X)(h2:b= !cj->Y):rj b cj X Y t:=⟨h1,h2⟩
theorem ajC(X Y:Prop)(t:mu X Y):rj true true X Y t=X:=by simp[rj]
theorem ajB(X Y:Prop)(t:mu X Y):rj true false X Y t=Y:=by simp[rj]
theorem ajA(X Y:Prop)(t:mu X Y):rj false true X Y t=Y:=by simp[rj]
theorem ajz(X Y:Prop)(t:mu X Y):rj false false X Y t=X:=by simp[rj]
section
variable (lv:Bool)(P:SJ)
def ui (H:List aa)(k:AV->List aa->Prop)(id off n c0 m sz:Nat)(elem:TypeId)(l':List AV):Prop:=off=0/\c0<n/\l'.length=m* sz/\n+m<=2^30/\(∀a∈l',a.leaf=true)/\match H[id]?with
 |some (.own eP l el)=>eP=sz/\el=elem/\l.length=n* sz/\k (.bp H.length 0 (n+m) 0) (H.set id .gone++[.own sz (l++l') elem])
 |_=>False
def AV.qp (a:AV)(kO:Nat->Nat->Nat->Nat->Prop)(k:Nat->List AV->End->Prop):Prop:=match a with
 |.bp id off n c=>kO id off n c
 |.sl n l e=>k n l e
 |_=>False
theorem Iv{a:AV}{kO:Nat->Nat->Nat->Nat->Prop}{k:Nat->List AV->End->Prop}(h:a.qp kO k):(∃id off n c,a=.bp id off n c/\kO id off n c)\/∃n l e,a=.sl n l e/\k n l e:=by
 unfold AV.qp at h;split at h
 ·exact .inl ⟨_,_,_,_,rfl,h⟩
 ·exact .inr ⟨_,_,_,rfl,h⟩
 ·exact h.elim
def mW (s:AS)(o:Tu)(next:AS->Prop)(bad:AV->AS->Prop):Prop:=match o.op with
 |.box t x=>ao (s.ev x) λa=>ao a.parts λl=>next ((⟨s.T,s.H++[.cells l t]⟩:AS).put o.dst (.op s.H.length 0))
 |.alloc t=>ao (eY P t) λz=>next ((⟨s.T,s.H++[.cells (mr z) t]⟩:AS).put o.dst (.op s.H.length 0))
 |.store t x y=>ao (s.ev x) λp=>ao (s.ev y) λa=>ao a.parts λlp=>p.qn λid off=>match s.H[id]?with
  |some (.cells l el)=>(ao (Ty P t) λx=>lp.length=x.1)/\off+lp.length<=l.length/\(∀a∈lp,a.leaf=true)/\next ((⟨s.T,s.H.set id (.cells (iT l off lp) el)⟩:AS).put o.dst (.val undef))
  |some (.part p l el)=>p<=off/\(ao (Ty P t) λx=>lp.length=x.1)/\off+lp.length<=l.length/\(∀a∈lp,a.leaf=true)/\next ((⟨s.T,s.H.set id (.part p (iT l off lp) el)⟩:AS).put o.dst (.val undef))
  |some (.own p l el)=>(ao (Ty P t) λx=>lp.length=x.1)/\off+lp.length<=l.length/\(∀a∈lp,a.leaf=true)/\next ((⟨s.T,s.H.set id (.own p (iT l off lp) el)⟩:AS).put o.dst (.val undef))
  |_=>False
 |.makeMap _ none=>next ((⟨s.T,s.H++[.obj (.map #[] 0)]⟩:AS).put o.dst (.mp s.H.length))
 |.makeSlice t x y=>ao (Bv P t) λ(e,sz,z)=>ao (s.ev x) λa=>ao (s.ev y) λb=>a.asInt λ_ n=>b.asInt λ_ n'=>n'=n/\0<=n/\n<=2^30/\next ((⟨s.T,s.H++[.cells (ie z (n.toNat* sz)) e]⟩:AS).put o.dst (.bp s.H.length 0 n.toNat n.toNat))
 |.mapUpdate t m k x=>ao (pj P t) λ(kt,_)=>ao (s.ev m) λp=>ao (s.ev k) λa=>ao (s.ev x) λb=>ao a.raw λK=>ao b.raw λX=>p.sX λid=>match s.H[id]?with
  |some (.obj (.map es ck))=>cR P (U8 false 10000 kt K) ()/\∃fd,cR P (VO kt K es.toList) fd/\(∀i v,fd=some (i,v)->WA 10000 (((es[i]?).map (·.key)).getD K) K=true)/\next ((⟨s.T,s.H.set id (.obj (wZ es ck K X fd))⟩:AS).put o.dst (.val undef))
  |_=>False
 |.range t x=>ao (pj P t) λ_=>ao (s.ev x) λp=>p.sX λm=>match s.H[m]?with
  |some (.obj (.map _ ck))=>next ((⟨s.T,s.H++[.iter m ck #[] ck]⟩:AS).put o.dst (.op s.H.length 0))
  |_=>False
 |.next it false=>ao (s.ev it) λp=>p.qn λid off=>off=0/\match s.H[id]?with
  |some (.iter m since seen ug)=>match s.H[m]?with
   |some (.obj (.map es ck))=>(es.all (λe=>decide (e.born>=ug))=false\/es.isEmpty=true\/seen.isEmpty=true)/\
    (∀e∈es,e.born∉seen->next ((⟨s.T,s.H.set id (.iter m since (seen.push e.born) ck)⟩:AS).put o.dst (.aM [.val (.bool true),AV.of e.key,AV.of e.val])))/\
    ((∀e∈es,e.born<since->e.born∈seen)->next (s.put o.dst (.aM [.val (.bool false)])))
   |_=>False
  |_=>False
 |.panic x=>ao (s.ev x) λa=>match a with
  |.dh t av=>bad (.dh t av) s
  |_=>False
 |.binOp op t x (.const (.slice none 0 0)) _=>(op=.eql\/op=.neq)/\ao (kQ P t) λ_=>ao (s.ev x) λa=>ao a.len λn=>∀b:Bool,(0<n->b=false)->next (s.put o.dst (.val (.bool (if op== .neq then !b else b))))
 |.call c=>match c.callee with
  |.builtin .append=>match c.args.toList,c.argTypes.toList with
   |[x,y],[t,t']=>ao (j3 P t t') λ(elem,sz,_)=>ao (s.ev x) λa=>ao (s.ev y) λb=>a.qp (λid off n c0=>ao (s.src sz b) λ(m,l')=>ui s.H (λb H'=>next ((⟨s.T,H'⟩:AS).put o.dst b)) id off n c0 m sz elem l') λn l e=>ao (s.src sz b) λ(m,l')=>l.length=n* sz/\l'.length=m* sz/\n+m<=2^30/\Bi s o.dst next n m sz elem l l' e
   |_,_=>False
  |.builtin .copy=>match c.args.toList,c.argTypes.toList with
   |[x,y],[t,_]=>ao (kQ P t) λ(_,sz)=>ao (s.ev x) λa=>ao (s.ev y) λb=>match a with
    |.bp id off n _=>match s.H[id]?with
     |some (.cells l el)=>ao (s.src sz b) λ(m,l')=>l'.length=m* sz/\off+min m n* sz<=l.length/\(∀a∈l',a.leaf=true)/\next ((⟨s.T,s.H.set id (.cells (iT l off (l'.take (min m n* sz))) el)⟩:AS).put o.dst (.val (.int .i64 (min m n:Nat))))
     |_=>False
    |_=>False
   |_,_=>False
  |.builtin .delete=>match c.args.toList,c.argTypes.toList with
   |[m,k],[t,_]=>ao (pj P t) λ(kt,_)=>ao (s.ev m) λp=>ao (s.ev k) λa=>ao a.raw λK=>p.sX λid=>match s.H[id]?with
    |some (.obj (.map es ck))=>cR P (U8 es.isEmpty 10000 kt K) ()/\∃fd,cR P (VO kt K es.toList) fd/\next ((⟨s.T,s.H.set id (.obj (.map (EV es fd) ck))⟩:AS).put o.dst (.val undef))
    |_=>False
   |_,_=>False
  |.value x=>ao (s.ev x) λf=>ao (fD s c.args.toList) λaE=>Bj lv P f s.H aE (λb H'=>next ((⟨s.T,H'⟩:AS).put o.dst b)) (λpv H'=>bad pv ⟨s.T,H'⟩) ⟨0⟩
  |.invoke x name=>ao (s.ev x) λf=>ao (fD s c.args.toList) λaE=>ad1 lv P f name s.H aE (λb H'=>next ((⟨s.T,H'⟩:AS).put o.dst b)) (λpv H'=>bad pv ⟨s.T,H'⟩) ⟨0⟩
  |_=>lT P s o λav=>next (s.put o.dst av)
 |_=>lT P s o λav=>next (s.put o.dst av)
def iL (all:Array Tu):List Tu->AS->(AS->Prop)->(AV->AS->Prop)->Prop
 |[],s,next,_=>next s
 |o::rest,s,next,bad=>match o.guard with
  |none=>mW lv P s o (λs'=>iL all rest s' next bad) bad
  |some (j,cj)=>ao ((all[j]?).bind (·.dst)) λd=>ao (look s.T d) λa=>a.asBool λb=>rj b cj (mW lv P ⟨(d,.val (.bool cj))::s.T,s.H⟩ o (λs'=>iL all rest s' next bad) bad) (iL all rest ((⟨(d,.val (.bool !cj))::s.T,s.H⟩:AS).put o.dst (.val undef)) next bad) ⟨0⟩
end
section
variable {lv:Bool}{P:SJ}{r:Option Nat}{s:AS}
theorem sG{c:Xn}{x y:TypeId}(h:c.argTypes.toList=[x,y]):c.argTypes=#[x,y]:=by
 apply VE;simpa using h
theorem mW.sound{o:Tu}{next:AS->Prop}{bad:AV->AS->Prop}(h:mW lv P s o next bad):Step lv P r o s next bad:=by
 have quiet:(lT P s o λav=>next (s.put o.dst av))->Step lv P r o s next bad:=λh=>by
  obtain⟨av,h1,h2⟩:=h.sound (lv:=lv) (r:=r);exact h1.step h2
 unfold mW at h;split at h
 ·rename_i t x ho;obtain⟨a,h1,h⟩:=h.out;obtain⟨l,h2,h⟩:=h.out;exact ac1 ho h1 h2 h
 ·rename_i t ho;obtain⟨z,h1,h⟩:=h.out;exact acY ho h1 h
 ·rename_i t x y ho;obtain⟨p,h1,hA⟩:=h.out;obtain⟨a,h2,hB⟩:=hA.out;obtain⟨lp,h3,hC⟩:=hB.out;obtain⟨id,off,e1,hD⟩:=BT hC;clear h hA hB hC;subst e1;split at hD
  ·rename_i l el hk;obtain⟨q1,q2,q3,q4⟩:=hD;obtain⟨⟨n,g⟩,q5,q6⟩:=q1.out;exact ac6 ho q5 h1 hk h2 h3 q6 q2 q3 q4
  ·rename_i p l el hk;obtain⟨q0,q1,q2,q3,q4⟩:=hD;obtain⟨⟨n,g⟩,q5,q6⟩:=q1.out;exact aq6 ho q5 h1 hk q0 h2 h3 q6 q2 q3 q4
  ·rename_i p l el hk;obtain⟨q1,q2,q3,q4⟩:=hD;obtain⟨⟨n,g⟩,q5,q6⟩:=q1.out;exact ac7 ho q5 h1 hk h2 h3 q6 q2 q3 q4
  ·exact hD.elim
 ·rename_i t ho;exact aq0 ho h
 ·rename_i t x y ho;obtain⟨⟨e,sz,z⟩,h1,hA⟩:=h.out;obtain⟨a,h2,hB⟩:=hA.out;obtain⟨b,h3,hC⟩:=hB.out;obtain⟨j,n,e1,hD⟩:=oE hC;obtain⟨j',n',e2,hE⟩:=oE hD;clear h hA hB hC hD;subst e1 e2;obtain⟨e3,h4,h5,h6⟩:=hE;subst e3;obtain⟨m,rfl⟩:∃m:Nat,n'=m:=⟨n'.toNat,by omega⟩;exact ac4 ho h1 h2 h3 (by omega) (by simpa using h6)
 ·rename_i t m k x ho;obtain⟨⟨kt,et⟩,h1,hA⟩:=h.out;obtain⟨p,h2,hB⟩:=hA.out;obtain⟨a,h3,hC⟩:=hB.out;obtain⟨b,h4,hD⟩:=hC.out;obtain⟨K,h5,hE⟩:=hD.out;obtain⟨X,h6,hF⟩:=hE.out;obtain⟨id,e1,hG⟩:=EJ hF;clear h hA hB hC hD hE hF;subst e1;split at hG
  ·rename_i es ck hH;obtain⟨q1,fd,q2,q3,q4⟩:=hG;exact aq1 (.inl ho) h1 h2 h3 h4 h5 h6 hH q1 q2 q3 q4
  ·exact hG.elim
 ·rename_i t x ho;obtain⟨⟨kt,et⟩,h1,hA⟩:=h.out;obtain⟨p,h2,hB⟩:=hA.out;obtain⟨m,e1,hC⟩:=EJ hB;clear h hA hB;subst e1;split at hC
  ·rename_i es ck hH;exact aq4 ho h1 h2 hH hC
  ·exact hC.elim
 ·rename_i it ho;obtain⟨p,h1,hA⟩:=h.out;obtain⟨id,off,e1,hB⟩:=BT hA;clear h hA;subst e1;obtain⟨e1,hC⟩:=hB;subst e1;split at hC
  ·rename_i m since seen ug hI;split at hC
   ·rename_i es ck hM;exact aq2 ho h1 hI hM hC.1 hC.2.1 hC.2.2
   ·exact hC.elim
  ·exact hC.elim
 ·rename_i x ho;obtain⟨a,h1,hA⟩:=h.out;split at hA
  ·exact aq3 ho h1 hA
  ·exact hA.elim
 ·rename_i op t x yt ho;obtain⟨ay,hA⟩:=h;obtain⟨d,h1,hB⟩:=hA.out;obtain⟨a,h2,hC⟩:=hB.out;obtain⟨n,e1,hD⟩:=hC.out;exact aq5 ho ay h2 e1 h1 hD
 ·rename_i c ho;split at h
  ·rename_i aZ;split at h
   ·rename_i x y t t' ha ht;obtain⟨⟨elem,sz,z⟩,h1,hA⟩:=h.out;obtain⟨a,h2,hB⟩:=hA.out;obtain⟨b,h3,hC⟩:=hB.out;rcases Iv hC with⟨id,off,n,c0,e1,hD⟩|⟨n,l,e,e1,hD⟩
    ·clear h hA hB hC;subst e1;obtain⟨⟨m,l'⟩,h4,rfl,g2,g3,g4,g5,hE⟩:=hD.out;split at hE
     ·rename_i hk;obtain⟨rfl,rfl,g6,g7⟩:=hE;exact acZ ho aZ (nF ha) (sG ht) h1 h2 g2 hk rfl h3 h4 g6 g3 g4 g5 g7
     ·exact hE.elim
    ·clear h hA hB hC;subst e1;obtain⟨⟨m,l'⟩,h4,h5,h6,h7,h8⟩:=hD.out;exact step_append ho aZ (nF ha) (sG ht) h1 h2 h3 h4 h5 h6 h7 h8
   ·exact h.elim
  ·rename_i aZ;split at h
   ·rename_i x y t t' ha ht;obtain⟨⟨elem,sz⟩,h1,hA⟩:=h.out;obtain⟨a,h2,hB⟩:=hA.out;obtain⟨b,h3,hC⟩:=hB.out;clear h hA hB;split at hC
    ·split at hC
     ·rename_i hk;obtain⟨⟨m,l'⟩,h4,h5,h6,h7,h8⟩:=hC.out;exact aqY ho aZ (nF ha) (sG ht) h1 h2 hk h3 h4 h5 h6 h7 h8
     ·exact hC.elim
    ·exact hC.elim
   ·exact h.elim
  ·rename_i aZ;split at h
   ·rename_i m k t t' ha ht;obtain⟨⟨kt,et⟩,h1,hA⟩:=h.out;obtain⟨p,h2,hB⟩:=hA.out;obtain⟨a,h3,hC⟩:=hB.out;obtain⟨K,h4,hD⟩:=hC.out;obtain⟨id,e1,hE⟩:=EJ hD;clear h hA hB hC hD;subst e1;split at hE
    ·rename_i es ck hH;obtain⟨q1,fd,q2,q3⟩:=hE;exact aqZ ho aZ (nF ha) (sG ht) h1 h2 h3 h4 hH q1 q2 q3
    ·exact hE.elim
   ·exact h.elim
  ·rename_i x aZ;obtain⟨f,h1,hA⟩:=h.out;obtain⟨aE,h2,hB⟩:=hA.out;exact NS ho aZ h1 h2 hB
  ·rename_i x name aZ;obtain⟨f,h1,hA⟩:=h.out;obtain⟨aE,h2,hB⟩:=hA.out;exact ac3 ho aZ h1 h2 hB
  ·exact quiet h
 ·exact quiet h
structure At (E:Env)(V:View)(s:AS)(a:Act)(nt:Nat):Prop where
 bu:Conc E V s.H
 tok:cw E s.T a.tmps
 size:a.tmps.size=nt
theorem Kept.refl(E:Env)(V:View)(a:Act):Kept E E V V a a:=⟨Env.Le.refl E,rfl,rfl,rfl,rfl⟩
theorem Kept.trans{E E' bW:Env}{V V' aT:View}{a a' cx:Act}(h:Kept E E' V V' a a')(k:Kept E' bW V' aT a' cx):Kept E bW V aT a cx:=
 ⟨h.le.trans k.le,k.size.trans h.size,k.defers.trans h.defers,k.role.trans h.role,k.deaf.trans h.deaf⟩
inductive an where
 |normal
 |exit (id:Nat)
 |goto (l:Nat)
 |ret
 |panic (pv:AV)
def qh (E:Env):an->Ex->Prop
 |.normal,.normal=>True
 |.exit i,.exit j=>i=j
 |.goto i,.goto j=>i=j
 |.ret,.ret=>True
 |.panic pv,.panic ch=>∃v,ch=[{v,recovered:=false}]/\ap E pv v
 |_,_=>False
def aQ (lv:Bool)(P:SJ)(r:Option Nat)(nt:Nat)(c:Ua)(s:AS)(Φ:an->AS->Prop):Prop:=
 ∀(E:Env)(V:View)(a:Act)(Q:Ex->Act->View->Prop),At E V s a nt->(∀ae e E' V' a' s',Kept E E' V V' a a'->At E' V' s' a' nt->qh E' ae e->Φ ae s'->Q e a' V')->WP lv P r c Q a V
theorem AP{nt:Nat}{all:Array Tu}{Φ:an->AS->Prop}(dB:∀o∈all,∀d,o.dst=some d->d<nt)(nV:∀o∈all,r=none\/mL o.op=false):∀(n k:Nat)(s:AS),k+n=all.size->iL lv P all (all.toList.drop k) s (Φ .normal) (λpv s=>Φ (.panic pv) s)->
  ∀(E:Env)(V:View)(a:Act)(Q:Ex->Act->View->Prop),At E V s a nt->(∀ae e E' V' a' s',Kept E E' V V' a a'->At E' V' s' a' nt->qh E' ae e->Φ ae s'->Q e a' V')->dz lv P r all Q (Ud k n) a V
 |0,k,s,hk,h,E,V,a,Q,ah,hQ=>by
  have:all.toList.drop k=[]:=by simp;omega
  rw[this]at h;exact hQ .normal .normal E V a s (Kept.refl E V a) ah trivial h
 |n+1,k,s,hk,h,E,V,a,Q,ah,hQ=>by
  have hlt:k<all.size:=by omega
  have hd:all.toList.drop k=all[k]::all.toList.drop (k+1):=by
   rw[TR (by simpa using hlt)];simp
  rw[hd]at h;have fZ:all[k]∈all:=XS hlt;have ho:all[k]?=some all[k]:=SK hlt;simp only[VT,dz,ho];have go:∀s:AS,At E V s a nt->mW lv P s all[k] (λs'=>iL lv P all (all.toList.drop (k+1)) s' (Φ .normal) (λpv s=>Φ (.panic pv) s)) (λpv s=>Φ (.panic pv) s)->xo lv P r all[k] a V (dz lv P r all Q (Ud (k+1) n)) Q:=λs ah h=>by
   refine h.sound (lv:=lv) (r:=r) E V a _ Q ah.bu ah.tok (λd e=>by rw[ah.size];exact dB _ fZ d e) (nV _ fZ) (λE' V' a' s' aJ bi mJ hn=> ?_) (λE' V' s' pv v aJ bi mJ bm hb=> ?_)
   ·exact AP dB nV n (k+1) s' (by omega) hn E' V' a' Q ⟨bi,mJ,aJ.size.trans ah.size⟩ (λae e bW aT cx dw gz dt he hΦ=>hQ ae e bW aT cx dw (aJ.trans gz) dt he hΦ)
   ·exact hQ (.panic pv) (.panic _) E' V' a s' aJ ⟨bi,mJ,ah.size⟩ ⟨v,rfl,bm⟩ hb
  simp only[iL]at h;split at h
  ·rename_i hg;have hw:Tg all[k] (yielded all a.tmps)=true:=(by unfold Tg;rw[hg]);rw[if_pos hw];exact .inl (go s ah h)
  ·rename_i j cj hg;obtain⟨d,bY,h⟩:=h.out;obtain⟨av,h1,h⟩:=h.out;obtain⟨b,rfl,h2,h3⟩:=BS h;have hv:=(ah.tok d _ h1).2;have hy:yielded all a.tmps j=some b:=by
    obtain⟨oj,k_,jw⟩:=Te.1 bY;generalize hx:a.tmps.getD d undef=x at hv;cases hv;have mG:d<a.tmps.size:=(ah.tok d _ h1).1;rw[SH,SK mG]at hx;simp only[S7]at hx;simp[yielded,k_,jw,SK mG,hx]
   have sk:∀b',b=b'->At E V ⟨(d,.val (.bool b'))::s.T,s.H⟩ a nt:=λb' dL=>by
    subst dL;refine⟨ah.bu,λt x e=> ?_,ah.size⟩;simp only[look]at e;split at e
    ·rename_i e';subst e';cases e;exact ah.tok d _ h1
    ·exact ah.tok t x e
   by_cases hb:b=cj
   ·have hw:Tg all[k] (yielded all a.tmps)=true:=(by unfold Tg;rw[hg];simp[hy,hb]);rw[if_pos hw];exact .inl (go _ (sk cj hb) (h2 hb))
   ·have hw:¬Tg all[k] (yielded all a.tmps)=true:=(by unfold Tg;rw[hg];simp[hy,hb]);rw[if_neg hw];have dL:b= !cj:=(by cases b<;>cases cj<;>simp_all);have v9:=h3 dL;have ah:=sk _ dL;exact AP dB nV n (k+1) ((⟨(d,.val (.bool !cj))::s.T,s.H⟩:AS).put all[k].dst (.val undef)) (by omega) v9 E V (a.put all[k].dst undef) Q
     ⟨by rw[fG];exact ah.bu,ah.tok.iu (λd e=>by rw[ah.size];exact dB _ fZ d e) (.val undef),by rw[ey];exact ah.size⟩
     (λae e bW aT cx dw gz dt he hΦ=>hQ ae e bW aT cx dw ⟨gz.le,gz.size.trans (ey _ _ _),gz.defers.trans (put_defers _ _ _),gz.role,gz.deaf⟩ dt he hΦ)
def j_ (nt:Nat)(ops:Array Tu):Bool:=ops.all λo=>(o.dst.all (·<nt))&& !mL o.op
theorem j_.out{nt:Nat}{ops:Array Tu}(hd:j_ nt ops=true){o:Tu}(ho:o∈ops):(∀d,o.dst=some d->d<nt)/\mL o.op=false:=by
 have:=(UJ.1 hd) o ho;simp only[Ti,TZ]at this;exact⟨λd e=>by have h1:=this.1;rw[e]at h1;simpa using h1,this.2⟩
theorem O5{nt id:Nat}{ops:Array Tu}{Φ:an->AS->Prop}(hd:j_ nt ops=true)(h:iL lv P ops ops.toList s (Φ .normal) (λpv s=>Φ (.panic pv) s)):aQ lv P r nt (.region id ops false) s Φ:=by
 intro E V a Q ah hQ;refine wp_region ?_;rw[Vp];exact AP (Φ:=Φ) (λo ho d e=>(j_.out hd ho).1 d e) (λo ho=> .inr (j_.out hd ho).2) ops.size 0 s (by omega) (by simpa using h) E V a Q ah hQ
theorem O9{nt:Nat}{Φ:an->AS->Prop}(h:Φ .normal s):aQ lv P r nt .skip s Φ:=λE V a _ ah hQ=>wp_skip (hQ .normal _ E V a s (Kept.refl E V a) ah trivial h)
theorem O1{nt l:Nat}{Φ:an->AS->Prop}(h:Φ .normal s):aQ lv P r nt (.label l) s Φ:=λE V a _ ah hQ=>wp_label (hQ .normal _ E V a s (Kept.refl E V a) ah trivial h)
theorem OZ{nt id:Nat}{Φ:an->AS->Prop}(h:Φ (.exit id) s):aQ lv P r nt (.exit id) s Φ:=λE V a _ ah hQ=>wp_exit (hQ (.exit id) _ E V a s (Kept.refl E V a) ah rfl h)
theorem O7{nt:Nat}{Φ:an->AS->Prop}(h:Φ .ret s):aQ lv P r nt .ret s Φ:=λE V a _ ah hQ=>wp_ret (hQ .ret _ E V a s (Kept.refl E V a) ah trivial h)
def an.then (next:AS->Prop)(Φ:an->AS->Prop):an->AS->Prop
 |.normal,s=>next s
 |e,s=>Φ e s
theorem qh.mono{E E':Env}(h:E.Le E'){ae:an}{e:Ex}(k:qh E ae e):qh E' ae e:=by
 cases ae<;>cases e<;>first|exact k|(obtain⟨v,h1,h2⟩:=k;exact⟨v,h1,h2.mono h⟩)
theorem iY{nt:Nat}{x y:Ua}{Φ:an->AS->Prop}(h:aQ lv P r nt x s (an.then (λs'=>aQ lv P r nt y s' Φ) Φ)):aQ lv P r nt (.seq x y) s Φ:=by
 intro E V a Q ah hQ;refine wp_seq (h E V a _ ah λae e E' V' a' s' hk aV he hΦ=> ?_);cases ae<;>cases e<;>first
  |exact he.elim
  |exact hΦ E' V' a' Q aV λae e bW aT cx dw aJ dt kG tU=>hQ ae e bW aT cx dw (hk.trans aJ) dt kG tU
  |exact hQ _ _ E' V' a' s' hk aV he hΦ
theorem afx{nt:Nat}{c:Th}{x y:Ua}{b:Bool}{Φ:an->AS->Prop}(hc:s.ev c=some (.val (.bool b)))(h1:b=true->aQ lv P r nt x s Φ)(h2:b=false->aQ lv P r nt y s Φ):aQ lv P r nt (.cond c x y) s Φ:=by
 intro E V a Q ah hQ;have hv:=ap.ev ah.tok hc;generalize hx:a.eval c=v at hv;cases hv;refine wp_cond hx ?_;cases b with
 |true=>exact h1 rfl E V a Q ah hQ
 |false=>exact h2 rfl E V a Q ah hQ
def an.inBlock (id:Nat)(Φ:an->AS->Prop):an->AS->Prop
 |.exit oW,s=>if oW=id then Φ .normal s else Φ (.exit oW) s
 |e,s=>Φ e s
theorem OX{nt id:Nat}{c:Ua}{Φ:an->AS->Prop}(h:aQ lv P r nt c s (an.inBlock id Φ)):aQ lv P r nt (.block id c) s Φ:=by
 intro E V a Q ah hQ;refine wp_block (h E V a _ ah λae e E' V' a' s' hk aV he hΦ=> ?_);cases ae<;>cases e<;>first
  |exact he.elim
  |(rename_i i j
    have e:i=j:=he;subst e;by_cases ce:i=id
    ·simp only[Ex.inBlock,ce,if_true];simp only[an.inBlock,ce,if_true]at hΦ;exact hQ .normal _ E' V' a' s' hk aV trivial hΦ
    ·simp only[Ex.inBlock,ce,if_false];simp only[an.inBlock,ce,if_false]at hΦ;exact hQ (.exit i) _ E' V' a' s' hk aV rfl hΦ)
  |exact hQ _ _ E' V' a' s' hk aV he hΦ
theorem aQ.mono{nt:Nat}{c:Ua}{Φ Φ':an->AS->Prop}(h:aQ lv P r nt c s Φ)(hm:∀e s,Φ e s->Φ' e s):aQ lv P r nt c s Φ':=λE V a Q ah hQ=>
 h E V a Q ah λae e E' V' a' s' hk aV he hΦ=>hQ ae e E' V' a' s' hk aV he (hm _ _ hΦ)
def Wk (b a:AV):Prop:=∀E v,ap E b v->ap E a v
theorem Wk.refl(a:AV):Wk a a:=λ_ _ h=>h
theorem iz(n:Nat)(l:List AV)(e:End):Wk (.sl n l e) (.sl n l .shut):=λ_ _ h=>by
 cases h with
 |sl b o cap f hc he h1 h2=>exact .sl b o cap f hc trivial h1 h2
 |nil he=>exact .nil trivial
structure AS.Sub (s s':AS):Prop where
 tok:∀t a,look s'.T t=some a->∃b,look s.T t=some b/\Wk b a
 H:s.H=s'.H
theorem At.sub{E:Env}{V:View}{s s':AS}{a:Act}{nt:Nat}(h:At E V s a nt)(hl:s.Sub s'):At E V s' a nt:=
 ⟨by rw[<- hl.H];exact h.bu,λt x e=>by obtain⟨b,h1,h2⟩:=hl.tok t x e;exact⟨(h.tok t b h1).1,h2 _ _ (h.tok t b h1).2⟩,h.size⟩
theorem iZ{lv:Bool}{P:SJ}{r:Option Nat}{nt:Nat}{c:Ua}{s s':AS}{Φ:an->AS->Prop}(hl:s.Sub s')(h:aQ lv P r nt c s' Φ):aQ lv P r nt c s Φ:=λE V a Q ah hQ=>h E V a Q (ah.sub hl) hQ
inductive Lt (n:Nat):AV->Prop
 |val (x:SQ):Lt n (.val x)
 |agg {l:List AV} (h:∀a∈l,Lt n a):Lt n (.agg l)
 |aM {l:List AV} (h:∀a∈l,Lt n a):Lt n (.aM l)
 |sl {m:Nat} {l:List AV} {e:End} (he:∀k,e=.opn k->k<n) (h:∀a∈l,Lt n a):Lt n (.sl m l e)
 |bp {id off m cap:Nat} (h:id<n):Lt n (.bp id off m cap)
 |rp {l:List AV} (h:∀a∈l,Lt n a):Lt n (.rp l)
 |op {id off:Nat} (h:id<n):Lt n (.op id off)
 |fn {f:Fn} {first c9:List AV} (h1:∀a∈first,Lt n a) (h2:∀a∈c9,Lt n a):Lt n (.fn f first c9)
 |dh {t:TypeId} {x:AV} (h:Lt n x):Lt n (.dh t x)
 |mp {id:Nat} (h:id<n):Lt n (.mp id)
theorem p7{l:List AV}{a:AV}(h:a∈l):∃i:Nat,l[i]?=some a:=UQ.1 h
theorem ap.lt{E:Env}{a:AV}{v:SQ}(d:ap E a v):Lt E.n a:=by
 induction d with
 |val x=>exact .val x
 |agg hs _ ih=>exact .agg λa h=>(p7 h).elim λi hi=>ih i a hi
 |aM hs _ ih=>exact .aM λa h=>(p7 h).elim λi hi=>ih i a hi
 |sl b o cap f hc he h1 _ ih=>exact .sl (λk e=>by subst e;exact he.1) λa h=>(p7 h).elim λi hi=>ih i a hi
 |nil he=>exact .sl (λk e=>by subst e;exact he.1) (by simp)
 |bp hi _=>exact .bp hi
 |rp b o f h1 _ ih=>exact .rp λa h=>(p7 h).elim λi hi=>ih i a hi
 |op hi=>exact .op hi
 |fn dN gB _ _ nj lM=>exact .fn (λa h=>(p7 h).elim λi hi=>nj i a hi) (λa h=>(p7 h).elim λi hi=>lM i a hi)
 |dh _ ih=>exact .dh ih
 |mp hi=>exact .mp hi
theorem Lt.mono{n m:Nat}(h:n<=m){a:AV}(d:Lt n a):Lt m a:=by
 induction d with
 |val x=>exact .val x
 |agg _ ih=>exact .agg ih
 |aM _ ih=>exact .aM ih
 |sl he _ ih=>exact .sl (λk e=>Tc (he k e) h) ih
 |bp hi=>exact .bp (Tc hi h)
 |rp _ ih=>exact .rp ih
 |op hi=>exact .op (Tc hi h)
 |fn _ _ nj lM=>exact .fn nj lM
 |dh _ ih=>exact .dh ih
 |mp hi=>exact .mp (Tc hi h)
theorem qg.trim{E:Env}{e:End}{a:Option U1}{m cap n:Nat}(h:qg E e a m cap)(hk:∀k,e=.opn k->k<n):qg {E with n:=n} e a m cap:=by
 cases e with
 |exact=>exact h
 |shut=>trivial
 |opn k=>exact⟨hk k rfl,h.2⟩
theorem get_mem{l:List AV}{i:Nat}{a:AV}(h:l[i]?=some a):a∈l:=UQ.2 ⟨i,h⟩
theorem ap.trim{E:Env}{a:AV}{v:SQ}(d:ap E a v){n:Nat}(h:Lt n a):ap {E with n:=n} a v:=by
 induction d with
 |val x=>exact .val x
 |agg hs _ ih=>cases h with|agg h=>exact .agg hs λi a e=>ih i a e (h a (get_mem e))
 |aM hs _ ih=>cases h with|aM h=>exact .aM hs λi a e=>ih i a e (h a (get_mem e))
 |sl b o cap f hc he h1 _ ih=>cases h with|sl hk h=>exact .sl b o cap f hc (he.trim hk) h1 λi a e=>ih i a e (h a (get_mem e))
 |nil he=>cases h with|sl hk h=>exact .nil (he.trim hk)
 |bp hi ec=>cases h with|bp h=>exact .bp (E:={E with n:=n}) h ec
 |rp b o f h1 _ ih=>cases h with|rp h=>exact .rp b o f h1 λi a e=>ih i a e (h a (get_mem e))
 |op hi=>cases h with|op h=>exact .op (E:={E with n:=n}) h
 |fn dN gB _ _ nj lM=>cases h with|fn h1 h2=>exact .fn dN gB (λi a e=>nj i a e (h1 a (get_mem e))) λi a e=>lM i a e (h2 a (get_mem e))
 |dh _ ih=>cases h with|dh h=>exact .dh (ih h)
 |mp hi=>cases h with|mp h=>exact .mp (E:={E with n:=n}) h
def fh (n:Nat):aa->Prop
 |.cells l _|.part _ l _|.own _ l _=>∀a∈l,Lt n a
 |.iter m _ _ _=>m<n
 |.loop _ _ _ _ T _ _ _ _ df=>(∀t a,look T t=some a->Lt n a)/\df<n
 |_=>True
theorem fh.mono{n m:Nat}(h:n<=m){x:aa}(k:fh n x):fh m x:=by
 cases x with
 |cells l el=>exactλa ha=>(k a ha).mono h
 |part p l el=>exactλa ha=>(k a ha).mono h
 |own p l el=>exactλa ha=>(k a ha).mono h
 |iter=>exact Tc k h
 |loop=>exact⟨λt a e=>(k.1 t a e).mono h,Tc k.2 h⟩
 |_=>trivial
theorem gq.olt{E:Env}{V:View}{k:Nat}{x:aa}(h:gq E V k x):fh E.n x:=by
 cases x with
 |cells l el=>obtain⟨⟨cs,_,h2⟩,_⟩:=h;exactλa ha=>(p7 ha).elim λi hi=>(h2.2 i a hi).lt
 |part p l el=>obtain⟨⟨cs,_,h2,_⟩,_⟩:=h;exactλa ha=>(p7 ha).elim λi hi=>(h2.2 i a hi).lt
 |own p l el=>obtain⟨⟨cs,_,h2,_⟩,_⟩:=h;exactλa ha=>(p7 ha).elim λi hi=>(h2.2 i a hi).lt
 |iter m a b c=>exact h.1
 |loop=>obtain⟨⟨tmps,_,_,h2⟩,h3,_⟩:=h;exact⟨λt a e=>(h2 t a e).2.lt,h3⟩
 |_=>trivial
theorem gq.trim{E:Env}{V:View}{k n:Nat}{x:aa}(h:gq E V k x)(hl:fh n x):gq {E with n:=n} V k x:=by
 cases x with
 |cells l el=>obtain⟨⟨cs,h1,h2⟩,h3⟩:=h;exact⟨⟨cs,h1,h2.1,λi a e=>(h2.2 i a e).trim (hl a (get_mem e))⟩,h3⟩
 |part p l el=>obtain⟨⟨cs,h1,h2,h4⟩,h3⟩:=h;exact⟨⟨cs,h1,⟨h2.1,λi a e=>(h2.2 i a e).trim (hl a (get_mem e))⟩,h4⟩,h3⟩
 |own p l el=>obtain⟨⟨cs,h1,h2,h4⟩,h3⟩:=h;exact⟨⟨cs,h1,⟨h2.1,λi a e=>(h2.2 i a e).trim (hl a (get_mem e))⟩,h4⟩,h3⟩
 |iter m a b c=>exact⟨hl,h.2⟩
 |tail m sz el=>exact h
 |obj x=>exact h
 |loop=>obtain⟨⟨tmps,h1,h2,h3⟩,h4,h5⟩:=h;exact⟨⟨tmps,h1,h2,λt a e=>⟨(h3 t a e).1,(h3 t a e).2.trim (hl.1 t a e)⟩⟩,hl.2,h5⟩
 |gone=>trivial
 |main=>exact h
def bM (H:List aa):Prop:=∀x∈H,fh H.length x
theorem Conc.au{E:Env}{V:View}{H:List aa}(h:Conc E V H):bM H:=λx hx=>by
 obtain⟨i,hi⟩:=UQ.1 hx;rw[<- h.n];exact(h.obj i x hi).olt
theorem EP(E:Env)(n k:Nat)(x:aa):bQ {E with n:=n} k x=bQ E k x:=by cases x<;>rfl
theorem Conc.trim{E:Env}{V:View}{H G:List aa}(h:Conc E V (H++G))(hl:bM H):Conc {E with n:=H.length} V H:=by
 have hg:∀(k:Nat) x,H[k]?=some x->(H++G)[k]?=some x:=λk x e=>by rw[SY (SM.1 e).1];exact e
 refine⟨h.I,rfl,λk x e=>(h.obj k x (hg k x e)).trim (hl x (Td e)),λi j x y b h1 h2 h3 h4=> ?_,λg kH=> ?_,λg kH=> ?_,h.top,λb y kH=> ?_⟩
 ·rw[EP]at h3 h4;exact h.inj i j x y b (hg i x h1) (hg j y h2) h3 h4
 ·obtain⟨q0,q1,q2⟩:=h.group g kH;exact⟨q0,q1,λk x e=>by rw[EP];exact q2 k x (hg k x e)⟩
 ·obtain⟨q0,q1,q2⟩:=h.chan g kH;exact⟨q0,q1,λk x e=>by rw[EP];exact q2 k x (hg k x e)⟩
 ·obtain⟨q0,q1,q2⟩:=h.fr b y kH;exact⟨q0,q1,λk x e=>by rw[EP];exact q2 k x (hg k x e)⟩
structure AS.Ia (s s':AS):Prop where
 tok:∀t a,look s'.T t=some a->∃b,look s.T t=some b/\Wk b a/\Lt s'.H.length a
 H:∃G,s.H=s'.H++G
 ok:bM s'.H
theorem D8{E:Env}{n m:Nat}(h1:m<=n)(h2:n<=E.n){E0:Env}(h:E0.Le E)(h0:E0.n=m):E0.Le {E with n:=n}:=⟨h.I,by show E0.n<=n;omega,h.blk,h.fQ,h.room,h.fr,h.main⟩
theorem At.cut{E:Env}{V:View}{s s':AS}{a:Act}{nt:Nat}(h:At E V s a nt)(hl:s.Ia s'):At {E with n:=s'.H.length} V s' a nt:=by
 obtain⟨G,hG⟩:=hl.H;have hc:=h.bu;rw[hG]at hc;refine⟨hc.trim hl.ok,λt x e=> ?_,h.size⟩;obtain⟨b,h1,h2,h3⟩:=hl.tok t x e;exact⟨(h.tok t b h1).1,(h2 _ _ (h.tok t b h1).2).trim h3⟩
theorem O2{nt:Nat}{α:Type}{lt:α->α->Prop}(wf:WellFounded lt){c:Ua}{Φ:an->AS->Prop}(inv:α->AS)(ok:α->Prop)(m:α)(h0:s.Sub (inv m))(hm:ok m)(hn:∀m,ok m->s.H.length<=(inv m).H.length)
  (h:∀m,ok m->aQ lv P r nt c (inv m) (an.then (λs'=>∃m',lt m' m/\ok m'/\(s'.Sub (inv m')\/s'.Ia (inv m'))) Φ)):aQ lv P r nt (.loop c) s Φ:=by
 intro E V a Q ah hQ;refine Of wf (I:=λm a' V'=>ok m/\∃E',Kept E E' V V' a a'/\At E' V' (inv m) a' nt) m ⟨hm,E,Kept.refl E V a,ah.sub h0⟩ λm a' V' hI=> ?_;obtain⟨au,E',hk,aV⟩:=hI;refine h m au E' V' a' _ aV λae e bW aT cx dw aJ dt he hΦ=> ?_;cases ae<;>cases e<;>first
  |exact he.elim
  |(obtain⟨m',h1,h2,h3⟩:=hΦ
    rcases h3 with h3|h3
    ·exact⟨m',h1,h2,bW,hk.trans aJ,dt.sub h3⟩
    ·refine⟨m',h1,h2,_,?_,dt.cut h3⟩;have cM:=hk.trans aJ;obtain⟨G,hG⟩:=h3.H;exact⟨D8 (hn m' h2) (by rw[dt.bu.n,hG];simp) cM.le ah.bu.n,cM.size,cM.defers,cM.role,cM.deaf⟩)
  |exact hQ _ _ bW aT cx dw (hk.trans aJ) dt he hΦ
theorem afG{nt:Nat}{c:Ua}{Φ:an->AS->Prop}(inv:Nat->Nat->AS->Prop)
  (start:∃n:Nat,aQ lv P r nt c s (λe s'=>match e with
   |.goto l=>∃rest,findLabel c l=some rest/\∃m,m<n/\inv l m s'
   |e=>Φ e s'))
  (back:∀l rest m s',findLabel c l=some rest->inv l m s'->aQ lv P r nt rest s' (λe dw=>match e with
   |.goto l'=>∃yS,findLabel c l'=some yS/\∃m',m'<m/\inv l' m' dw
   |e=>Φ e dw)):aQ lv P r nt (.scope c) s Φ:=by
 intro E V a Q ah hQ;refine adR (λl m a' V'=>∃E' s',Kept E E' V V' a a'/\At E' V' s' a' nt/\inv l m s') ?_ ?_
 ·obtain⟨n,hn⟩:=start;refine⟨n,hn E V a _ ah λae e E' V' a' s' hk aV he hΦ=> ?_⟩;cases ae<;>cases e<;>first
   |exact he.elim
   |(have e:_=_:=he
     subst e;obtain⟨rest,h1,m,h2,h3⟩:=hΦ;exact⟨rest,h1,m,h2,E',s',hk,aV,h3⟩)
   |exact hQ _ _ E' V' a' s' hk aV he hΦ
 ·intro l rest m a' V' hf ⟨E',s',hk,aV,hi⟩;refine back l rest m s' hf hi E' V' a' _ aV λae e bW aT cx dw aJ dt he hΦ=> ?_;cases ae<;>cases e<;>first
   |exact he.elim
   |(have e:_=_:=he
     subst e;obtain⟨yS,h1,m',h2,h3⟩:=hΦ;exact⟨yS,h1,m',h2,bW,dw,hk.trans aJ,dt,h3⟩)
   |exact hQ _ _ bW aT cx dw (hk.trans aJ) dt he hΦ
end
def bt:Nat->List AV->List (Nat×AV)
 |_,[]=>[]
 |i,a::l=>(i,a)::bt (i+1) l
theorem MD:∀(l:List AV)(i t:Nat)(a:AV),look (bt i l) t=some a->i<=t/\l[t-i]?=some a
 |[],_,_,_,h=>by cases h
 |b::l,i,t,a,h=>by
  simp only[bt,look]at h;split at h
  ·rename_i e;subst e;cases h;exact⟨SR _,by simp⟩
  ·obtain⟨h1,h2⟩:=MD l (i+1) t a h;refine⟨by omega,?_⟩;have:t-i=(t-(i+1))+1:=(by omega);rw[this,UM];exact h2
def vv (P:SJ)(s:AS):UN->Option AV
 |.tmp t=>look s.T t
 |.cell a t=>(look s.T a).bind λp=>(s.at p).bind λl=>(Ty P t).bind λx=>if x.2 then(if x.1<=l.length then some (.agg (l.take x.1))else none)else l[0]?
def iw (P:SJ)(s:AS):List UN->Option (List AV)
 |[]=>some []
 |x::l=>match vv P s x,iw P s l with
  |some a,some aE=>some (a::aE)
  |_,_=>none
def jm:List AV->AV
 |[a]=>a
 |l=> .aM l
theorem apz{P:SJ}{E:Env}{V:View}{s:AS}{a:Act}{nt:Nat}(ah:At E V s a nt){x:UN}{av:AV}(h:vv P s x=some av):
  ∃v,ap E av v/\∀{K:SQ->View->Prop}{Kp:SQ->View->Prop},K v V->aO P V (match x with|.tmp t=>pure (a.tmps.getD t undef)|.cell b t=>do loadVar t (<- asAddr (a.tmps.getD b undef))) K Kp:=by
 cases x with
 |tmp t=>exact⟨_,(ah.tok t av h).2,λhK=>aq hK⟩
 |cell b t=>
  unfold vv at h;obtain⟨p,h1,h⟩:=Te.1 h;obtain⟨l,h2,h⟩:=Te.1 h;obtain⟨⟨n,g⟩,h3,h⟩:=Te.1 h;obtain⟨i,d,t1,t2,rfl,t4⟩:=Ty.out h3;obtain⟨bb,off,f,hv,hg,kH,hd⟩:=ah.bu.at (ah.tok b p h1).2 h2;dsimp only;rw[hv];cases g with
  |true=>
   simp only[if_true]at h;split at h
   ·rename_i hlen;cases h;refine⟨_,I2 hlen hd,λhK=> ?_⟩;refine az ?_;unfold asAddr;refine aq ?_;unfold loadVar;refine DV t2 ?_;rw[t4];simp only[if_true];refine kv t1 ?_;exact az (A3 (f:=f) (λh=>kH (by omega)) (λj hj=>hg j (by omega)) (aq hK))
   ·cases h
  |false=>
   simp only[TM,if_false]at h;have hlen:0<l.length:=(SM.1 h).1;have kW:=hg 0 hlen;rw[UD]at kW;refine⟨_,hd 0 av h,λhK=> ?_⟩;refine az ?_;unfold asAddr;refine aq ?_;unfold loadVar;refine DV t2 ?_;rw[t4];simp only[TM,if_false];exact NF kW (.inl (kH hlen)) (cO hK)
theorem Hp{P:SJ}{E:Env}{V:View}{s:AS}{a:Act}{nt:Nat}(ah:At E V s a nt):∀(rs:List UN)(l:List AV),iw P s rs=some l->∃vs:List SQ,vs.length=l.length/\(∀(i:Nat) x,l[i]?=some x->ap E x (vs.getD i undef))/\
  ∀{K:List SQ->View->Prop}{Kp:SQ->View->Prop},K vs V->aO P V (rs.mapM λx=>(match x with|.tmp t=>pure (a.tmps.getD t undef)|.cell b t=>do loadVar t (<- asAddr (a.tmps.getD b undef)):Sem SQ)) K Kp
 |[],l,h=>by
  cases h;refine⟨[],rfl,by simp,λhK=> ?_⟩;rw[UC];exact aq hK
 |x::rs,l,h=>by
  simp only[iw]at h;split at h
  ·rename_i av mz h1 h2;cases h;obtain⟨v,hv,hs⟩:=apz ah h1;obtain⟨vs,hl,mf,Gd⟩:=Hp ah rs mz h2;refine⟨v::vs,by simp[hl],λi x hx=> ?_,λhK=> ?_⟩
   ·cases i with
    |zero=>cases hx;simpa using hv
    |succ i=>simpa using mf i x (by simpa using hx)
   ·rw[T_];exact az (hs (az (Gd (aq hK))))
  ·cases h
attribute [seval] Int.natCast_pow Int.natCast_mul Int.natCast_shiftLeft Int.natCast_emod Int.ofNat_sub Int.natCast_shiftRight Int.natCast_add_one Int.natCast_add Int.cast_id Int.natCast_sub Int.natCast_ediv Int.natCast_succ
open Go.Conc
def cK (n0:Nat)(H:List aa)(a:AV)(k:AV->List aa->Prop):Prop:=
 ∃b,Wk a b/\(k b H\/∃H' G,H=H'++G/\n0<=H'.length/\bM H'/\Lt H'.length b/\k b H')
def sO (P:SJ)(rs:List UN)(n0:Nat)(k kp:AV->List aa->Prop):an->AS->Prop
 |.normal,s|.ret,s=>ao (iw P s rs) λl=>cK n0 s.H (jm l) k
 |.panic pv,s=>cK n0 s.H pv kp
 |_,_=>False
theorem cr{n0:Nat}{H:List aa}{a:AV}{k:AV->List aa->Prop}(h:k a H):cK n0 H a k:=⟨a,Wk.refl a,.inl h⟩
theorem kg{H H' G:List aa}{a b:AV}{k:AV->List aa->Prop}{n0:Nat}(hw:Wk a b)(hH:H=H'++G)(hn:n0<=H'.length)(au:bM H')(hl:Lt H'.length b)(h:k b H'):cK n0 H a k:=⟨b,hw,.inr ⟨H',G,hH,hn,au,hl,h⟩⟩
theorem xI{n0:Nat}{E0 E:Env}{V':View}{H:List aa}{a:AV}{v:SQ}{k:AV->List aa->Prop}(h:cK n0 H a k)(hc:Conc E V' H)(hd:ap E a v)(hle:E0.Le E)(hn:E0.n=n0):∃b E' H',E0.Le E'/\ap E' b v/\Conc E' V' H'/\k b H':=by
 obtain⟨b,hw,h|⟨H',G,rfl,h1,h2,h3,h4⟩⟩:=h
 ·exact⟨b,E,H,hle,hw _ _ hd,hc,h⟩
 ·refine⟨b,{E with n:=H'.length},H',D8 h1 (by rw[hc.n];simp) hle hn,(hw _ _ hd).trim h3,hc.trim h2,h4⟩
theorem ai1{lv:Bool}{P:SJ}{f:TO}{fn:Yz}{c:Ua}{rs:List UN}{nt:Nat}{H:List aa}{args:List AV}{k kp:AV->List aa->Prop}(hf:P.funcs[f]?=some fn)(hb:fn.body=some c)(hr:fn.results=rs.toArray)(hn:fn.ntmps=nt)(cS:args.length<=nt)
  (h:bM H->(∀a∈args,Lt H.length a)->aQ lv P none nt c ⟨bt 0 args,H⟩ (sO P rs H.length k kp)):bk lv P f H args k kp:=by
 intro E V vs hc hd;have aY:(vs++TK (fn.ntmps-vs.size) undef).size=nt:=by simp[hd.1];omega
 have hlt:∀a∈args,Lt H.length a:=λa ha=>by
  obtain⟨i,hi⟩:=p7 ha;rw[<- hc.n];exact(hd.2 i a hi).lt
 refine Pk (by simp) hf hb (h hc.au hlt E V _ _ ⟨hc,λq a e=> ?_,aY⟩ λae e E' V' a' s' hk ah he hΦ=> ?_)
 ·obtain⟨_,e⟩:=MD args 0 q a e;simp only[ZW]at e;have hq:q<args.length:=(SM.1 e).1;have tO:q<vs.size:=by rw[hd.1];exact hq
  refine⟨by rw[aY];omega,?_⟩;have:=hd.2 q a e;rw[SH,X8 tO];rwa [SH]at this
 ·have fin:(ao (iw P s' rs) λl=>cK H.length s'.H (jm l) k)->a'.defers=[]/\∃v,aO P V' (results fn a'.tmps) (λx aT=>x=v/\aT=V') (λ_ _=>False)/\ii E V k kp (.ret v) V':=by
   intro hΦ;obtain⟨l,h1,h2⟩:=hΦ.out;have gQ:∃v,ap E' (jm l) v/\aO P V' (results fn a'.tmps) (λx aT=>x=v/\aT=V') (λ_ _=>False):=by
    obtain⟨vs,hl,mf,yl⟩:=Hp ah rs l h1;refine⟨if h:vs.length=1 then vs[0]else .tuple vs.toArray,?_,?_⟩
    ·match l,vs,hl,mf with
     |[x],[v],_,mf=>exact mf 0 x rfl
     |[],[],_,mf=>exact .aM rfl (by simp)
     |x::y::l,v::w::vs,hl,mf=>exact .aM (by simpa using hl) (λi z hz=>by simpa[SH,SD]using mf i z hz)
    ·unfold results;rw[hr,XX];refine az ?_;refine az (yl ?_);refine aq (aq ⟨?_,rfl⟩);simp
   obtain⟨v,bm,qM⟩:=gQ;obtain⟨b,bW,H',q1,q2,q3,q4⟩:=xI h2 ah.bu bm hk.le hc.n;exact⟨hk.defers,v,qM,b,bW,H',q1,hk.role,hk.deaf,q2,q3,q4⟩
  cases ae<;>cases e<;>first
   |exact he.elim
   |exact fin hΦ
   |(obtain⟨v,rfl,bm⟩:=he
     obtain⟨b,bW,H',q1,q2,q3,q4⟩:=xI hΦ ah.bu bm hk.le hc.n;exact⟨hk.defers,b,v,bW,H',rfl,q1,hk.role,hk.deaf,q2,q3,q4⟩)
   |exact hΦ.elim
open Go.Conc
theorem am3(k:Nat)(a:AV)(l:List (Nat×AV)):look ((k,a)::l) k=some a:=by simp[look]
theorem am4(k t:Nat)(a:AV)(l:List (Nat×AV))(h:(k==t)=false):look ((k,a)::l) t=look l t:=by
 have:¬k=t:=by simpa using h
 simp[look,this]
theorem AN{α:Type}(a:α)(k:α->Prop):ao (some a) k=k a:=by rw[ao]
theorem afh(b:Bool)(k:Bool->Prop):AV.asBool (.val (.bool b)) k=k b:=by rw[AV.asBool]
theorem afj(j:TY)(n:Int)(k:TY->Int->Prop):AV.asInt (.val (.int j n)) k=k j n:=by rw[AV.asInt]
theorem afq(l:List AV)(k:List AV->Prop):AV.xA (.aM l) k=k l:=by rw[AV.xA]
theorem aff(l:List AV)(k:List AV->Prop):AV.asAgg (.agg l) k=k l:=by rw[AV.asAgg]
theorem afl(i j:Nat)(k:Nat->Nat->Prop):AV.qn (.op i j) k=k i j:=by rw[AV.qn]
theorem afk(i:Nat)(k:Nat->Prop):AV.sX (.mp i) k=k i:=by rw[AV.sX]
theorem afo(n:Nat)(l:List AV)(e:End)(k:Nat->List AV->End->Prop):AV.vT (.sl n l e) k=k n l e:=by rw[AV.vT]
theorem aeD(P:SJ)(xt:TypeId)(j:TY)(m n:Int)(k:AV->Prop):dR P .add xt (.val (.int j m)) (.val (.int j n)) k=k (.val (.int j (j.wrap (m+n)))):=by simp[dR,nk,mA,ao]
theorem aeP(P:SJ)(xt:TypeId)(j:TY)(m n:Int)(k:AV->Prop):dR P .sub xt (.val (.int j m)) (.val (.int j n)) k=k (.val (.int j (j.wrap (m-n)))):=by simp[dR,nk,mA,ao]
theorem aeL(P:SJ)(xt:TypeId)(j:TY)(m n:Int)(k:AV->Prop):dR P .mul xt (.val (.int j m)) (.val (.int j n)) k=k (.val (.int j (j.wrap (m* n)))):=by simp[dR,nk,mA,ao]
theorem aeF(P:SJ)(xt:TypeId)(j:TY)(m n:Int)(k:AV->Prop):dR P .eql xt (.val (.int j m)) (.val (.int j n)) k=k (.val (.bool (m==n))):=by simp[dR,nk,mA,ao]
theorem OI(P:SJ)(xt:TypeId)(j:TY)(m n:Int)(k:AV->Prop):dR P .neq xt (.val (.int j m)) (.val (.int j n)) k=k (.val (.bool (m !=n))):=by simp[dR,nk,mA,ao]
theorem aeK(P:SJ)(xt:TypeId)(j:TY)(m n:Int)(k:AV->Prop):dR P .lss xt (.val (.int j m)) (.val (.int j n)) k=k (.val (.bool (decide (m<n)))):=by simp[dR,nk,mA,ao]
theorem aeJ(P:SJ)(xt:TypeId)(j:TY)(m n:Int)(k:AV->Prop):dR P .leq xt (.val (.int j m)) (.val (.int j n)) k=k (.val (.bool (decide (m<=n)))):=by simp[dR,nk,mA,ao]
theorem aeH(P:SJ)(xt:TypeId)(j:TY)(m n:Int)(k:AV->Prop):dR P .gtr xt (.val (.int j m)) (.val (.int j n)) k=k (.val (.bool (decide (m>n)))):=by simp[dR,nk,mA,ao]
theorem aeG(P:SJ)(xt:TypeId)(j:TY)(m n:Int)(k:AV->Prop):dR P .geq xt (.val (.int j m)) (.val (.int j n)) k=k (.val (.bool (decide (m>=n)))):=by simp[dR,nk,mA,ao]
theorem aeE(P:SJ)(xt:TypeId)(j:TY)(m n:Int)(k:AV->Prop):dR P .and xt (.val (.int j m)) (.val (.int j n)) k=k (.val (.int j (j.wrap (Ui j.bits m&&&Ui j.bits n).toNat))):=by simp[dR,nk,mA,ao]
theorem BL(P:SJ)(xt:TypeId)(j:TY)(m n:Int)(k:AV->Prop):dR P .or xt (.val (.int j m)) (.val (.int j n)) k=k (.val (.int j (j.wrap (Ui j.bits m|||Ui j.bits n).toNat))):=by simp[dR,nk,mA,ao]
theorem BN(P:SJ)(xt:TypeId)(j:TY)(m n:Int)(k:AV->Prop):dR P .xor xt (.val (.int j m)) (.val (.int j n)) k=k (.val (.int j (j.wrap (Ui j.bits m^^^Ui j.bits n).toNat))):=by simp[dR,nk,mA,ao]
theorem aeN(P:SJ)(xt:TypeId)(j:TY)(m n:Int)(k:AV->Prop):dR P .rem xt (.val (.int j m)) (.val (.int j n)) k=ao (if n=0 then none else some (.int j (m.tmod n))) λv=>k (.val v):=by simp[dR,nk,mA]
theorem aeO(P:SJ)(xt:TypeId)(j j':TY)(m n:Int)(k:AV->Prop):dR P .shl xt (.val (.int j m)) (.val (.int j' n)) k=ao (if n<0 then none else some (.int j (j.wrap (m* 2^(min n.toNat j.bits))))) λv=>k (.val v):=by simp[dR,nk,A6]
theorem BM(P:SJ)(xt:TypeId)(j j':TY)(m n:Int)(k:AV->Prop):dR P .shr xt (.val (.int j m)) (.val (.int j' n)) k=ao (if n<0 then none else some (.int j (m.fdiv (2^(min n.toNat j.bits))))) λv=>k (.val v):=by simp[dR,nk,A6]
theorem ahz(T:List (Nat×AV))(H:List aa)(t:Nat):AS.ev ⟨T,H⟩ (.tmp t)=look T t:=by rw[AS.ev]
theorem ahq(s:AS)(b:Bool):s.ev (.const (.bool b))=some (.val (.bool b)):=by rw[AS.ev,AV.of]<;>(intros;simp_all)
theorem ahu(s:AS)(k:TY)(n:Int):s.ev (.const (.int k n))=some (.val (.int k n)):=by rw[AS.ev,AV.of]<;>(intros;simp_all)
theorem ahs(s:AS)(f:TO):s.ev (.func f)=some (.fn (.func f) [] []):=by rw[AS.ev]
theorem ahy(s:AS):s.ev (.const (.slice none 0 0))=some (.sl 0 [] .exact):=by rw[AS.ev,AV.of]
theorem ahv(s:AS):s.ev (.const (.map none))=some (.val (.map none)):=by rw[AS.ev,AV.of]<;>(intros;simp_all)
theorem ahw(s:AS):s.ev (.const (.pointer none))=some (.val (.pointer none)):=by rw[AS.ev,AV.of]<;>(intros;simp_all)
theorem ahr(s:AS):s.ev (.const .nilFunc)=some (.val .nilFunc):=by rw[AS.ev,AV.of]<;>(intros;simp_all)
theorem aht(s:AS):s.ev (.const .nilIface)=some (.val .nilIface):=by rw[AS.ev,AV.of]<;>(intros;simp_all)
theorem aoH(T:List (Nat×AV))(H:List aa)(d:Nat)(a:AV):AS.put ⟨T,H⟩ (some d) a=⟨(d,a)::T,H⟩:=by rw[AS.put]
theorem aoG(s:AS)(a:AV):AS.put s none a=s:=by rw[AS.put]
theorem arB(n:AS->Prop)(Φ:an->AS->Prop)(s:AS):an.then n Φ .normal s=n s:=by rw[an.then]
theorem arD(n:AS->Prop)(Φ:an->AS->Prop)(s:AS):an.then n Φ .ret s=Φ .ret s:=by rw[an.then];intro h;cases h
theorem arz(n:AS->Prop)(Φ:an->AS->Prop)(i:Nat)(s:AS):an.then n Φ (.exit i) s=Φ (.exit i) s:=by rw[an.then];intro h;cases h
theorem arA(n:AS->Prop)(Φ:an->AS->Prop)(i:Nat)(s:AS):an.then n Φ (.goto i) s=Φ (.goto i) s:=by rw[an.then];intro h;cases h
theorem arC(n:AS->Prop)(Φ:an->AS->Prop)(a:AV)(s:AS):an.then n Φ (.panic a) s=Φ (.panic a) s:=by rw[an.then];intro h;cases h
theorem age(i:Nat)(Φ:an->AS->Prop)(s:AS):an.inBlock i Φ .normal s=Φ .normal s:=by rw[an.inBlock];intro h h';cases h'
theorem agh(i:Nat)(Φ:an->AS->Prop)(s:AS):an.inBlock i Φ .ret s=Φ .ret s:=by rw[an.inBlock];intro h h';cases h'
theorem agb(i l:Nat)(Φ:an->AS->Prop)(s:AS):an.inBlock i Φ (.goto l) s=Φ (.goto l) s:=by rw[an.inBlock];intro h h';cases h'
theorem agf(i:Nat)(Φ:an->AS->Prop)(a:AV)(s:AS):an.inBlock i Φ (.panic a) s=Φ (.panic a) s:=by rw[an.inBlock];intro h h';cases h'
theorem agc(i:Nat)(Φ:an->AS->Prop)(s:AS):an.inBlock i Φ (.exit i) s=Φ .normal s:=by rw[an.inBlock,if_pos rfl]
theorem agd(i j:Nat)(Φ:an->AS->Prop)(s:AS)(h:(j==i)=false):an.inBlock i Φ (.exit j) s=Φ (.exit j) s:=by
 have:¬j=i:=by simpa using h
 rw[an.inBlock,if_neg this]
theorem ajc(P:SJ)(rs:List UN)(n:Nat)(k kp:AV->List aa->Prop)(s:AS):sO P rs n k kp .ret s=ao (iw P s rs) λl=>cK n s.H (jm l) k:=by rw[sO]
theorem aja(P:SJ)(rs:List UN)(n:Nat)(k kp:AV->List aa->Prop)(s:AS):sO P rs n k kp .normal s=ao (iw P s rs) λl=>cK n s.H (jm l) k:=by rw[sO]
theorem ajb(P:SJ)(rs:List UN)(n:Nat)(k kp:AV->List aa->Prop)(a:AV)(s:AS):sO P rs n k kp (.panic a) s=cK n s.H a kp:=by rw[sO]
theorem apA(P:SJ)(T:List (Nat×AV))(H:List aa)(t:Nat):vv P ⟨T,H⟩ (.tmp t)=look T t:=by rw[vv]
theorem afw(s:AS)(l:List AV):s.at (.rp l)=some l:=by rw[AS.at]
theorem aqr(n i off:Nat):AV.shift n (.op i off)=some (.op i (off+n)):=by rw[AV.shift]
theorem acP(n:Nat)(l:List AV)(h:n<=l.length):AV.shift n (.rp l)=some (.rp (l.drop n)):=by rw[AV.shift,if_pos h]
theorem aqs(l:List AV):AV.shift 0 (.rp l)=some (.rp l):=by rw[AV.shift,if_pos (Xz _),Xw]
theorem aqt(n:Nat)(a:AV)(l:List AV):AV.shift (n+1) (.rp (a::l))=AV.shift n (.rp l):=by simp[AV.shift]
theorem apM(n:Nat)(l:List AV)(e:End):AV.row (.sl n l e)=some (n,.rp l):=by rw[AV.row]
theorem apL(i off n cap:Nat):AV.row (.bp i off n cap)=some (n,.op i off):=by rw[AV.row]
theorem aen(P:SJ)(s:AS){t:TypeId}(n:Nat)(l:List AV)(e:End)(k:AV->Prop)(h:lU P t=some .slice):sJ P s t (.sl n l e) k=k (.val (.int .i64 n)):=by unfold sJ;rw[h]
theorem aem(P:SJ)(s:AS){t:TypeId}(i off n cap:Nat)(k:AV->Prop)(h:lU P t=some .slice):sJ P s t (.bp i off n cap) k=k (.val (.int .i64 n)):=by unfold sJ;rw[h]
theorem ael(P:SJ)(T:List (Nat×AV))(H:List aa){t:TypeId}(id:Nat)(k:AV->Prop){es:Array Wl}{ck:Nat}(h:lU P t=some .map)(hH:H[id]?=some (.obj (.map es ck))):sJ P ⟨T,H⟩ t (.mp id) k=k (.val (.int .i64 es.size)):=by
 unfold sJ;rw[h];simp[hH]
theorem bw{a b:AV}:(∃c,some b=some c/\Wk c a)<->Wk b a:=⟨λ⟨_,h,k⟩=>by cases h;exact k,λh=>⟨_,rfl,h⟩⟩
abbrev iv (n:Int):AV:=.val (.int .i64 n)
abbrev bv (b:Bool):AV:=.val (.bool b)
open Go.Conc
theorem OY{lv:Bool}{P:SJ}{r:Option Nat}{s:AS}{nt:Nat}{c:Th}{x y:Ua}{Φ:an->AS->Prop}(h:ao (s.ev c) λa=>a.asBool λb=>(b=true->aQ lv P r nt x s Φ)/\(b=false->aQ lv P r nt y s Φ)):aQ lv P r nt (.cond c x y) s Φ:=by
 obtain⟨a,h1,h2⟩:=h.out;obtain⟨b,rfl,h3,h4⟩:=BS h2;exact afx h1 h3 h4
theorem PX{α β:Type}{f:α->List β}{m:Nat}(hf:∀x,(f x).length=m):∀{xs:List α}{i:Nat}{x:α},xs[i]?=some x->(xs.flatMap f).drop (i* m)=f x++(xs.drop (i+1)).flatMap f
 |y::xs,0,x,h=>by cases h;simp
 |y::xs,i+1,x,h=>by
  have ih:=PX hf (xs:=xs) (i:=i) (x:=x) (by simpa using h);rw[Ub,U9,Nat.one_mul,Z1 (i* m) m,<- ak'];have:(f y++xs.flatMap f).drop m=xs.flatMap f:=by rw[<- hf y];simp
  rw[this,ih];simp
 |[],i,x,h=>by simp at h
theorem mP{α β:Type}{f:α->List β}{m:Nat}(hf:∀x,(f x).length=m)(xs:List α):(xs.flatMap f).length=xs.length* m:=by
 induction xs with
 |nil=>simp
 |cons x xs ih=>rw[Ub,SP,hf,ih,Uk,U9];omega
theorem acN{α:Type}{f:α->List AV}{m:Nat}(hf:∀x,(f x).length=m){xs:List α}{i:Nat}{x:α}(h:xs[i]?=some x):AV.shift (i* m) (.rp (xs.flatMap f))=some (.rp (f x++(xs.drop (i+1)).flatMap f)):=by
 have hi:i<xs.length:=(SM.1 h).1;rw[acP _ _ (by rw[mP hf];exact Uh _ (by omega)),PX hf h]
theorem acO{α:Type}{f:α->AV}{xs:List α}{i:Nat}{x:α}(h:xs[i]?=some x):AV.shift (i* 1) (.rp (xs.map f))=some (.rp (f x::(xs.drop (i+1)).map f)):=by
 have hi:i<xs.length:=(SM.1 h).1;rw[X9,acP _ _ (by simp;omega)];congr 2;rw[<- ag2,TR hi,UV];congr 2;rw[SO hi]at h;exact Vj h
theorem j8{i n:Nat}(h:i<n):(0<=(i:Int)/\(i:Int)<(n:Int))=True:=by simp;exact h
theorem e_{α:Type}{xs:List α}{i:Nat}{x:α}(h:xs[i]?=some x):i<xs.length:=(SM.1 h).1
theorem cD{α:Type}{xs:List α}{i:Nat}(h:i<xs.length):∃x,xs[i]?=some x:=⟨_,SO h⟩
theorem vQ(H L:List aa)(i:Nat):(H++L)[H.length+i]?=L[i]?:=by rw[S8 (by omega)];congr 1;omega
theorem ae8(H L:List aa):(H++L)[H.length]?=L[0]?:=by have:=vQ H L 0;simpa using this
theorem vR(H L:List aa)(i:Nat)(x:aa):(H++L).set (H.length+i) x=H++L.set i x:=by
 rw[T9 _ _ (by omega)];congr 2;omega
theorem afc(H L:List aa)(x:aa):(H++L).set H.length x=H++L.set 0 x:=by have:=vR H L 0 x;simpa using this
theorem ae7(H L M:List aa):(H++L)++M=H++(L++M):=SA ..
theorem afb(H L:List aa):(H++L).length=H.length+L.length:=SP
theorem fe(n:Nat)(x:SQ):Lt n (.val x)=True:=by simp[Lt.val]
theorem aa2(n i o:Nat):Lt n (.op i o)=(i<n):=propext ⟨λh=>by cases h with|op h=>exact h,.op⟩
theorem tX(n:Nat)(l:List AV):Lt n (.agg l)=∀a∈l,Lt n a:=propext ⟨λh=>by cases h with|agg h=>exact h,.agg⟩
theorem jV(n:Nat)(l:List AV):Lt n (.aM l)=∀a∈l,Lt n a:=propext ⟨λh=>by cases h with|aM h=>exact h,.aM⟩
theorem aa1(n:Nat)(t:TypeId)(a:AV):Lt n (.dh t a)=Lt n a:=propext ⟨λh=>by cases h with|dh h=>exact h,.dh⟩
theorem vq(n m:Nat)(l:List AV):Lt n (.sl m l .shut)=∀a∈l,Lt n a:=propext ⟨λh=>by cases h with|sl _ h=>exact h,λh=> .sl (by simp) h⟩
theorem MG(n m:Nat)(l:List AV):Lt n (.sl m l .exact)=∀a∈l,Lt n a:=propext ⟨λh=>by cases h with|sl _ h=>exact h,λh=> .sl (by simp) h⟩
theorem am7(n m k:Nat)(l:List AV):Lt n (.sl m l (.opn k))=(k<n/\∀a∈l,Lt n a):=propext ⟨λh=>by cases h with|sl h' h=>exact⟨h' k rfl,h⟩,λh=> .sl (λk' e=>by cases e;exact h.1) h.2⟩
theorem yJ(n:Nat)(l:List AV):Lt n (.rp l)=∀a∈l,Lt n a:=propext ⟨λh=>by cases h with|rp h=>exact h,.rp⟩
open Go.Conc
def cX (o:Tu):List Nat:=o.after.toList.filterMap λe=>if Yl .any e then some e.on else none
inductive mw (ops:Array Tu):List Nat->List Nat->Prop
 |nil (X:List Nat) (h:∀i,i<ops.size->i∈X):mw ops X []
 |cons {X:List Nat} {i:Nat} {l:List Nat} (o:Tu) (ho:ops[i]?=some o) (hn:i∉X) (hd:∀j∈cX o,j∈X) (h:mw ops (i::X) l):mw ops X (i::l)
theorem GO{o:Tu}{j:Nat}:j∈cX o<->∃e∈o.after,Yl .any e=true/\e.on=j:=by
 unfold cX;rw[VW];constructor
 ·rintro⟨e,he,h⟩
  split at h
  ·rename_i hb;cases h;exact⟨e,by simpa using he,hb,rfl⟩
  ·cases h
 ·rintro⟨e,he,hb,rfl⟩
  exact⟨e,by simpa using he,by rw[if_pos hb]⟩
theorem PB{l:List Nat}{i:Nat}(hi:i∈l){p q:Nat->Bool}(jy:∀k,q k=true->p k=true)(hp:p i=true)(hq:q i=false):l.countP q<l.countP p:=by
 induction l with
 |nil=>cases hi
 |cons x l ih=>
  have hle:l.countP q<=l.countP p:=List.countP_mono_left λk _ h=>jy k h;rcases SL.1 hi with rfl|hi
  ·rw[WQ (by simp[hq]),VU hp];omega
  ·have:=ih hi;by_cases hx:q x=true
   ·rw[VU hx,VU (jy x hx)];omega
   ·rw[WQ hx];by_cases jU:p x=true
    ·rw[VU jU];omega
    ·rw[WQ jU];exact this
structure OD (ops:Array Tu)(L:Array Bool)(X:List Nat):Prop where
 size:L.size=ops.size
 mem:∀i,i<ops.size->(L[i]?=some true<->i∈X)
theorem aaW{ops:Array Tu}(iH:∀(i:Nat) o,ops[i]?=some o->∀j∈cX o,j<i):∀(fuel t:Nat)(L:Array Bool)(X:List Nat),OD ops L X->(SZ ops.size).countP (λi=> !X.contains i)<=fuel->mw ops X (UF .any ops fuel t L [])
 |0,t,L,X,hr,hc=>by
  simp only[UF,XU];refine .nil X λi hi=> ?_;have:(SZ ops.size).countP (λi=> !X.contains i)=0:=by omega
  have:=List.countP_eq_zero.1 this i (by simpa using hi);simpa using this
 |fuel+1,t,L,X,hr,hc=>by
  have u6:∀i,i∈((SZ ops.size).filter λi=> !L.getD i true&&((ops[i]?).map (·.after.all λe=> !Region.binds .any e||L.getD e.on false)).getD false)<->∃o,ops[i]?=some o/\i∉X/\∀j∈cX o,j∈X:=by
   intro i;simp only[Uv,TF,Ti,TZ];constructor
   ·rintro⟨hi,h1,h2⟩
    have ho:=SK hi;refine⟨ops[i],ho,λhx=> ?_,λj hj=> ?_⟩
    ·have:=(hr.mem i hi).2 hx;rw[SH,this]at h1;cases h1
    ·obtain⟨e,he,hb,rfl⟩:=GO.1 hj;rw[ho]at h2;simp only[UO,S7,UJ]at h2;have:=h2 e he;rw[hb]at this;simp only[aj',Zu]at this;have hlt:e.on<ops.size:=Wn (iH i _ ho _ hj) hi;refine(hr.mem _ hlt).1 ?_;rw[SH]at this;cases hx:L[e.on]?with
     |none=>rw[hx]at this;cases this
     |some b=>rw[hx]at this;cases b;cases this;rfl
   ·rintro⟨o,ho,h1,h2⟩
    have hi:i<ops.size:=(SU.1 ho).1;refine⟨hi,?_,?_⟩
    ·rw[SH,SK (by rw[hr.size];exact hi)];simp only[S7];cases hb:L[i]'(by rw[hr.size];exact hi)with
     |false=>rfl
     |true=>exact absurd ((hr.mem i hi).1 (by rw[SK (by rw[hr.size];exact hi),hb])) h1
    ·rw[ho];simp only[UO,S7,UJ];intro e he;cases hb:Yl .any e with
     |false=>rfl
     |true=>
      have hj:=GO.2 ⟨e,he,hb,rfl⟩;have hlt:e.on<ops.size:=Wn (iH i _ ho _ hj) hi;have:=(hr.mem _ hlt).2 (h2 _ hj);simp[SH,this]
  simp only[UF];generalize C2:((SZ ops.size).filter λi=> !L.getD i true&&((ops[i]?).map (·.after.all λe=> !Region.binds .any e||L.getD e.on false)).getD false)=rs at u6;cases hi:rs[t % rs.length]?with
  |none=>
   have K_:rs=[]:=by
    cases rs with
    |nil=>rfl
    |cons x xs=>
     have hlt:t % (x::xs).length<(x::xs).length:=aq' _ (by simp);rw[List.getElem?_eq_none_iff]at hi;omega
   simp only[XU];refine .nil X λi=> ?_;induction i using Yi with
   |_ i ih=>
    intro hlt;apply Ts;intro hx;have:i∈rs:=(u6 i).2 ⟨ops[i],SK hlt,hx,λj hj=>ih j (iH i _ (SK hlt) j hj) (Wn (iH i _ (SK hlt) j hj) hlt)⟩;rw[K_]at this;cases this
  |some i=>
   simp only[];obtain⟨o,ho,h1,h2⟩:=(u6 i).1 (Td hi);have hlt:i<ops.size:=(SU.1 ho).1;rw[linearise_go_acc,List.reverse_singleton,Y0];refine .cons o ho h1 h2 (aaW iH fuel _ _ (i::X) ⟨by simp[hr.size],λk hk=> ?_⟩ ?_)
   ·by_cases rS:k=i
    ·subst rS;simp[S_ (by rw[hr.size];exact hlt)]
    ·rw[SW (Ne.symm rS),hr.mem k hk];simp[rS]
   ·have fZ:i∈(SZ ops.size):=(by simpa using hlt);have:(SZ ops.size).countP (λk=> !(i::X).contains k)<(SZ ops.size).countP (λk=> !X.contains k):=by
     exact PB fZ (λk hk=>by simp only[TZ,Uq,decide_eq_false_iff_not]at hk⊢;exactλh=>hk (Tb _ h)) (by simpa using h1) (by simp)
    omega
end Go.Gg
