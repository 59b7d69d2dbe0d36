/- A part of the proof. -/
import Derived.Conc.Own5
import Derived.Conc.Own4
import Derived.Conc.Own3
import Derived.Conc.Own2
import Derived.Conc.QuitsD
import Derived.Conc.Deaf
import Derived.Conc.CompanyDraw
import Derived.Conc.Comm2
import Derived.Conc.Beside
import Derived.Conc.Events
import Derived.Orders
set_option linter.all false
set_option maxRecDepth 4000
set_option maxHeartbeats 1000000
open Array renaming all_eq_true_iff_forall_mem->Uq,append_assoc->WL,empty_append->WK,ext'->Va,getD_eq_getD_getElem?->SH,getElem?_append_left->Xq,getElem?_append_right->Xn,getElem?_eq_getElem->SJ,getElem?_eq_some_iff->SP,getElem?_map->VS,getElem?_modify->VG,getElem?_push->WC,getElem?_push_lt->XM,getElem?_setIfInBounds_ne->SR,getElem?_setIfInBounds_self_of_lt->S7,getElem_mem->Xd,isEmpty_iff->Yp,mem_append->Uf,range->VY,replicate->TA,size_append->WV,toList_map->Vm
open BitVec renaming ofInt->T4
open Bool renaming and_eq_true->Td,false_eq_true->TC,false_or->YG,not_eq_true'->TL,not_false->XQ,not_true->ZD
open Classical renaming byContradiction->To
open Function renaming comp_def->XL
open Go.Act renaming put->Xl
open Go.Addr renaming add->ZN
open Go.Builtin renaming append_->U7,copy_->ZY,delete_->ZX,firstCells->U2,growBy->Yx,lenOf->ZW,len_->XB,nextslicecap->Wp,zeroCells->WF
open Go.CallKind renaming early->UJ
open Go.Conc renaming served->TO
open Go.Deferred renaming ofValue->UI
open Go.Event renaming mute->VU
open Go.Frame renaming catches->Y0,oper?->XX,round->Ww
open Go.GStep renaming after->TN
open Go.Instr renaming checkKey->UN,fill->Y',findKey->Vq,index->Y3,indexAt->YR,loadAt->WU,mapUpdate->YE,sameBits->VR,slice->Y2,sliceAt->XA,sliceBound->Yw,sliceBounds->Ym,storeAt->Xz,sureAddr->UM,typeAssert->Yv
open Go.IntKind renaming bits->ZL,i64->SE,signed->ZK,wrap->Wy
open Go.Item renaming plain->Zh
open Go.MemAct renaming low_mono->Yu,ofEvent->Tm
open Go.Next renaming value->Wr
open Go.Obj renaming isChan->Zn
open Go.Op renaming equal->Wa,equalIn->U6,intArith->ZT,intDiv->ZA,shift->ZJ
open Go.Question renaming cut->YD,forced->ZF
open Go.Region renaming binds->XE,schedule->Vo,wanted->Tf
open Go.Region.linearise renaming go->Uo
open Go.Sem renaming events_pure->YP,runT->Vf,runT_eq->Tt,run_pure->Y_
open Go.Value renaming bool->WB,slice->Uc,tuple->XW
open Go.World renaming cell?->Uj,frozen?->YX,setCell->WE
open Go.stepG renaming exec->TZ,oper->Yf
open Int renaming toNat_natCast->U8
open List renaming append_assoc->SC,append_nil->SI,contains_eq_mem->Ub,countP_cons_of_neg->Wh,countP_cons_of_pos->Vw,drop_drop->Zd,drop_eq_getElem_cons->TR,drop_zero->WS,ext_getElem?->Zw,flatMap_cons->Ua,foldl_cons->Ux,getD_cons_zero->WJ,getD_eq_getElem?_getD->SF,getElem?_append_left->SY,getElem?_append_right->Tg,getElem?_cons_succ->Ut,getElem?_cons_zero->UY,getElem?_drop->T9,getElem?_eq_getElem->SV,getElem?_eq_some_iff->SM,getElem?_map->Ti,getElem?_range->YV,getElem?_set_ne->TP,getElem?_set_self->Wv,getElem?_take->TY,getElem?_toArray->UQ,getElem_mem->VM,length_append->SQ,length_cons->T7,length_drop->T8,length_nil->UA,length_take->TW,mapM_cons->TS,mapM_nil->Um,mapM_toArray->Xi,map_congr_left->U9,map_cons->UE,map_drop->Zk,mem_cons->SK,mem_cons_of_mem->S9,mem_cons_self->Tu,mem_filter->Uh,mem_filterMap->Vx,mem_iff_getElem?->Uz,mem_of_getElem?->S_,mem_of_mem_take->VL,mem_range->TH,mem_toArray->Tx,not_mem_nil->SU,range->SX,range'->TU,range'_succ->Vu,range_eq_range'->UX,reverse_nil->Xe,set_append_right->Uy,set_set->Wu,singleton_append->Yd,take_length->TE,take_take->US,take_zero->Zr
open Nat renaming add_assoc->WY,add_comm->Y5,add_mul->UO,add_zero->Uv,le_of_eq->VW,le_refl->SO,le_succ->Yc,le_trans->Ur,lt_of_lt_of_le->Ta,lt_trans->VH,min_le_left->YO,mod_lt->ZE,mul_le_mul->YT,mul_le_mul_right->T1,mul_one->Xs,ne_of_lt->VC,strongRecOn->XC,sub_zero->Y1,zero_add->VK,zero_le->Xr,zero_mul->Y4
open Option renaming bind_eq_bind->TD,bind_eq_some_iff->Tc,getD_none->UW,getD_some->S6,map_eq_some_iff->Tl,map_some->UB,pure_def->T5
open Option.some renaming inj->Vz,injEq->Te
open Prod.mk renaming injEq->UH
namespace Go.Gg
open Go.Conc
abbrev cz:=Nat->Nat->Option Value
abbrev AI:=Nat->Option Obj
abbrev Spec:=Value->cz->AI->Prop
inductive m_ where
 |plain
 |fork (c Wg:Nat) (Ss:List (List Spec))
 |recv (c Wg:Nat) (Ss:List (List Spec))
 |work (c Wg:Nat) (S:List Spec)
def m_.group:m_->Option Nat
 | .fork _ Wg _=>some Wg
 |_=>none
def m_.chan:m_->Option Nat
 | .fork c _ _=>some c
 |_=>none
structure View where
 ab:cz
 own:AI
 deaf:Nat
 role:m_
structure Sat (V:View)(w:World):Prop where
 ab:∀b o v,V.ab b o=some v->w.cell? ⟨b,o,none⟩=some v
 own:∀b x,V.own b=some x->w.heap[b]?=some x
def tz (V:View)(n:Nat)(a:Addr):Prop:=n<=a.block\/V.own a.block≠none\/V.ab a.block a.off≠none
def mE (V:View)(n:Nat)(a:Addr):Prop:=n<=a.block\/(V.own a.block≠none/\V.ab a.block a.off=none)
def m8 (V:View)(n:Nat)(e:Event):Prop:=
 match e with
 |⟨.cell a,false,s⟩=>tz V n a/\(s=true\/V.role.group≠some a.block)
 |⟨.cell a,true,s⟩=>mE V n a/\(s=true\/V.role.group≠some a.block)
 |⟨.obj r,_,s⟩=>(s=false/\(n<=r\/V.own r≠none))/\V.role.chan≠some r
 |⟨.mark (.read a),_,_⟩=>mE V n a
 |⟨.mark (.write a),_,_⟩=>mE V n a
 |⟨.mark .disable,_,s⟩=>s=true
 |⟨.mark .enable,_,s⟩=>s=true
 |⟨.mark .noRoom,_,_⟩=>True
 |_=>False
structure dg (V:View)(w:World)(V':View)(w':World)(es:Array Event):Prop where
 sat:Sat V' w'
 tape:w'.tape=w.tape
 os:w'.os=w.os
 output:w'.output=w.output
 size:w.heap.size<=w'.heap.size
 frame:∀b,b<w.heap.size->V.own b=none->w'.heap[b]?=w.heap[b]?
 own:∀b,b<w.heap.size->V.own b=none->V'.own b=none
 ab:∀b o v,V.ab b o=some v->V'.ab b o=some v
 kL:∀b o v,V'.ab b o=some v->V.ab b o=some v\/V.own b≠none\/w.heap.size<=b
 fx:∀e∈es,m8 V w.heap.size e
 deaf:V'.deaf=deafBehind V.deaf es
 role:V'.role=V.role
 chan:∀c x,V.role.chan=some c->V.own c=some x->V'.own c=some x
 low:∀e∈es,(Tm e).low w'.heap.size
structure ep (V V':View):Prop where
 sat:∀w,Sat V w->Sat V' w
 own:∀b,V.own b=none->V'.own b=none
 ab:∀b o v,V.ab b o=some v->V'.ab b o=some v
 kL:∀b o v,V'.ab b o=some v->V.ab b o=some v\/V.own b≠none
 deaf:V'.deaf=V.deaf
 role:V'.role=V.role
 chan:∀c x,V.role.chan=some c->V.own c=some x->V'.own c=some x
theorem ep.refl(V:View):ep V V:=⟨λ_ h=>h,λ_ h=>h,λ_ _ _ h=>h,λ_ _ _ h=> .inl h,rfl,rfl,λ_ _ _ e=>e⟩
theorem ep.trans{V V' aU:View}(h:ep V V')(k:ep V' aU):ep V aU:=
 ⟨λw x=>k.sat w (h.sat w x),λb x=>k.own b (h.own b x),λb o v x=>k.ab b o v (h.ab b o v x),λb o v x=>(k.kL b o v x).elim (λy=>h.kL b o v y) (λy=> .inr λz=>y (h.own b z)),k.deaf.trans h.deaf,k.role.trans h.role,λc x e e'=>k.chan c x (by rw[h.role];exact e) (h.chan c x e e')⟩
theorem tz.rJ{V V':View}(g:ep V V'){n:Nat}{a:Addr}(h:tz V' n a):tz V n a:=by
 rcases h with h|h|h
 ·exact .inl h
 ·exact .inr (.inl λe=>h (g.own _ e))
 ·cases e:V'.ab a.block a.off with
  |none=>exact absurd e h
  |some v=>exact(g.kL _ _ _ e).elim (λx=> .inr (.inr (by rw[x];simp))) (λx=> .inr (.inl x))
theorem mE.rJ{V V':View}(g:ep V V'){n:Nat}{a:Addr}(h:mE V' n a):mE V n a:=by
 rcases h with h|⟨h,h'⟩
 ·exact .inl h
 ·refine .inr ⟨λe=>h (g.own _ e), ?_⟩;cases e:V.ab a.block a.off with
  |none=>rfl
  |some v=>rw[g.ab _ _ _ e]at h';cases h'
theorem m8.rJ{V V':View}(g:ep V V'){n:Nat}{e:Event}(h:m8 V' n e):m8 V n e:=by
 unfold m8 at h⊢;split at h
 ·exact⟨tz.rJ g h.1,by rw[<- g.role];exact h.2⟩
 ·exact⟨mE.rJ g h.1,by rw[<- g.role];exact h.2⟩
 ·exact⟨⟨h.1.1,h.1.2.imp id λx y=>x (g.own _ y)⟩,by rw[<- g.role];exact h.2⟩
 ·exact mE.rJ g h
 ·exact mE.rJ g h
 ·exact h
 ·exact h
 ·trivial
 ·exact h.elim
theorem dg.rJ{V V₁ V':View}{w w':World}{es:Array Event}(g:ep V V₁)(h:dg V₁ w V' w' es):dg V w V' w' es:=
 ⟨h.sat,h.tape,h.os,h.output,h.size,λb hb e=>h.frame b hb (g.own b e),λb hb e=>h.own b hb (g.own b e),λb o v e=>h.ab b o v (g.ab b o v e),
  λb o v e=>(h.kL b o v e).elim (λx=>(g.kL b o v x).imp id .inl) (λx=> .inr (x.imp (λy z=>y (g.own b z)) id)),λe he=>m8.rJ g (h.fx e he),by rw[h.deaf,g.deaf],h.role.trans g.role,λc x e e'=>h.chan c x (by rw[g.role];exact e) (g.chan c x e e'),h.low⟩
theorem dg.ghost{V V' aU:View}{w w':World}{es:Array Event}(h:dg V w V' w' es)(g:ep V' aU):dg V w aU w' es:=
 ⟨g.sat _ h.sat,h.tape,h.os,h.output,h.size,h.frame,λb hb e=>g.own b (h.own b hb e),λb o v e=>g.ab b o v (h.ab b o v e),
  λb o v e=>(g.kL b o v e).elim (λx=>h.kL b o v x) (λx=>by
   by_cases hb:b<w.heap.size
   ·exact .inr (.inl λy=>x (h.own b hb y))
   ·exact .inr (.inr (by omega))),h.fx,by rw[g.deaf,h.deaf],g.role.trans h.role,λc x e e'=>g.chan c x (by rw[h.role];exact e) (h.chan c x e e'),h.low⟩
theorem dg.idle{V:View}{w:World}(h:Sat V w):dg V w V w #[]:=
 ⟨h,rfl,rfl,rfl,SO _,λ_ _ _=>rfl,λ_ _ e=>e,λ_ _ _ e=>e,λ_ _ _ e=> .inl e,by simp,rfl,rfl,λ_ _ _ e=>e,by simp⟩
theorem Sat.drew{V:View}{w:World}(h:Sat V w)(d:Nat):Sat V {w with drawn:=d}:=⟨h.ab,h.own⟩
theorem dg.draw{V:View}{w:World}(h:Sat V w)(d:Nat):dg V w V {w with drawn:=d} #[]:=
 ⟨h.drew d,rfl,rfl,rfl,SO _,λ_ _ _=>rfl,λ_ _ e=>e,λ_ _ _ e=>e,λ_ _ _ e=> .inl e,by simp,rfl,rfl,λ_ _ _ e=>e,by simp⟩
def eo (Wg:Nat):Addr:=⟨Wg,0,none⟩
def oI (Wg:Nat):Addr:=⟨Wg,1,none⟩
def M1 (P : Program) : TypeId := ((P.types.findIdx? λi => match i.desc with | .named n _ => n == "sync.WaitGroup" | _ => false).getD 0)
def wgBlock (P:Program)(st sm:Int):Obj:= .cells #[.int .u64 st, .int .u32 sm] (M1 P)
def WgAt (P:Program)(Wg:Nat)(w:World)(st sm:Int):Prop:=w.heap[Wg]?=some (wgBlock P st sm)
def KK:Int:=4294967296
def jd (a:Addr):Event:=⟨.cell a,false,true⟩
def kX (a:Addr):Event:=⟨.cell a,true,true⟩
def j8 (m:Mark):Event:=⟨.mark m,false,true⟩
def Ad (a:Addr):Array Event:=#[j8 .disable,jd a,kX a,j8 .enable]
def cR (P:Program)(Stop:Nat->Goroutine->Prop):Nat->Nat->Goroutine->Prop
 |0,d,g=>Stop d g
 |n+1,d,g=>Stop d g\/(g.status= .running/\∃g' es,(∀e∈es,VU e=true)/\(∀w,stepG P false g w= .go g' w es)/\cR P Stop n (deafBehind d es) g')
def ig (P:Program)(Wg:Nat)(Stop:Nat->Goroutine->Prop):Nat->Nat->Goroutine->Prop
 |0,d,g=>Stop d g
 |n+1,d,g=>Stop d g\/(g.status= .running/\∃g' es,(∀e∈es,VU e=true)/\(∀w x y,WgAt P Wg w x y->stepG P false g w= .go g' w es)/\ig P Wg Stop n (deafBehind d es) g')
section
variable (P:Program)(Wg:Nat)
def Dr (d:Nat)(g:Goroutine):Prop:=d=1/\g.status= .running/\mayWake P g=true/\∃g',(∀w,WgAt P Wg w 0 0->stepG P false g w= .go g' (w.setCell (oI Wg) (.int .u32 1)) (Ad (oI Wg)))/\∃q,QuitsD P q 1 g'
def Ds (d:Nat)(g:Goroutine):Prop:=d=1/\g.status= .running/\∃g',(∀w,WgAt P Wg w 1 0->stepG P false g w= .go g' (w.setCell (eo Wg) (.int .u64 0)) #[kX (eo Wg)])/\∃n,cR P (Dr P Wg) n 1 g'
def Dq (d:Nat)(g:Goroutine):Prop:=d=1/\g.status= .running/\∃g',(∀w,WgAt P Wg w 1 0->stepG P false g w= .go g' w #[jd (eo Wg)])/\∃n,cR P (Ds P Wg) n 1 g'
def Ax (d:Nat)(g:Goroutine):Prop:=d=1/\g.status= .running/\∀v wt:Nat,wt<=1->v<4->∃g',(∀w,WgAt P Wg w (((v+1:Nat):Int)* KK+wt) 0->stepG P false g w= .go g' (w.setCell (eo Wg) (.int .u64 ((v:Int)* KK+wt))) #[jd (eo Wg),kX (eo Wg)])/\
 ((v=0/\wt=1)->∃n,cR P (Dq P Wg) n 1 g')/\(¬(v=0/\wt=1)->∃q,QuitsD P q 1 g')
def Dx (g:Goroutine):Prop:=g.status= .running/\∃g',(∀w,stepG P false g w= .go g' w #[j8 (.releaseMerge (eo Wg))])/\∃n,cR P (Ax P Wg) n 0 g'
end
section
variable (P:Program)(Im:cz)(c Wg:Nat)
def Hi (d:Nat)(g:Goroutine):Prop:=d=0/\g.status= .running/\mayWake P g=true/\∃g',(∀w s,w.heap[c]?=some (.chan 0 #[] false s s false)->stepG P false g w= .go g' {w with heap:=w.heap.setIfInBounds c (.chan 0 #[] true s s false)} #[⟨.obj c,false,true⟩,⟨.obj c,true,true⟩])/\∃q,QuitsD P q 0 g'
def Hk (d:Nat)(g:Goroutine):Prop:=d=0/\g.status= .running/\∃b o x g',Im b o=some x/\(∀w,w.cell? ⟨b,o,none⟩=some x->stepG P false g w= .go g' w #[⟨.cell ⟨b,o,none⟩,false,false⟩])/\∃n,cR P (Hi P c) n 0 g'
def tr (d:Nat)(g:Goroutine):Prop:=d=0/\g.status= .running/\∃g',(∀w,stepG P false g w= .go g' w #[j8 (.acquire (eo Wg))])/\∃n,cR P (Hk P Im c) n 0 g'
def Hj (d:Nat)(g:Goroutine):Prop:=d=1/\g.status= .running/\∃g',(∀w,WgAt P Wg w 0 0->stepG P false g w= .go g' w #[jd (eo Wg)])/\∃n,ig P Wg (tr P Im c Wg) n 1 g'
def Dp (d:Nat)(g:Goroutine):Prop:=d=1/\g.status= .running/\g.offers=none/\(∀w st,WgAt P Wg w st 0->stepG P false g w= .go {g with status:= .blocked} w #[])/\
 ∃g',(∀w,WgAt P Wg w 0 1->stepG P false g w= .go g' (w.setCell (oI Wg) (.int .u32 0)) (Ad (oI Wg)))/\∃n,cR P (Hj P Im c Wg) n 1 g'
def Do (d:Nat)(g:Goroutine):Prop:=d=1/\g.status= .running/\∃g',(∀w,stepG P false g w= .go g' w #[j8 (.write (oI Wg))])/\∃n,cR P (Dp P Im c Wg) n 1 g'
def eQ:Nat->Nat->Goroutine->Prop
 |0,_,_=>False
 |k+1,d,g=>d=1/\g.status= .running/\∀v:Nat,v<=k->v<=4->∃g',(∀w,WgAt P Wg w ((v:Int)* KK) 0->stepG P false g w= .go g' w #[jd (eo Wg)])/\(v=0->∃n,ig P Wg (tr P Im c Wg) n 1 g')/\
  (v≠0->∃n,cR P (λd g=>d=1/\g.status= .running/\
   (∃g',(∀w,WgAt P Wg w ((v:Int)* KK) 0->stepG P false g w= .go g' (w.setCell (eo Wg) (.int .u64 ((v:Int)* KK+1))) #[jd (eo Wg),kX (eo Wg)])/\∃n,ig P Wg (Do P Im c Wg) n 1 g')/\
   (∀u:Nat,u<v->∃g',(∀w,WgAt P Wg w ((u:Int)* KK) 0->stepG P false g w= .go g' w #[jd (eo Wg)])/\∃n,cR P (eQ v) n 1 g')) n 1 g')
 termination_by k _ _=>k
def Hl (g:Goroutine):Prop:=∃n,cR P (eQ P Im c Wg 5) n 0 g
end
structure yd (P:Program)(main:Bool)(J:View->Goroutine->Prop):Prop where
 step:∀V g,g.status= .running->(∀w,Sat V w->∃g' w' es V',stepG P main g w= .go g' w' es/\dg V w V' w' es/\J V' g')->J V g
 ghost:∀V V' g,ep V V'->J V' g->J V g
 send:∀V g c Wg sp S v z (B:Nat->Bool),V.role= .work c Wg (sp::S)->V.deaf=0->g.status= .running->g.offers=none->
  (∀w,Sat V w->stepG P main g w= .comm g #[scase c v z] true .send w #[])->sp v V.ab (λb=>if B b then V.own b else none)->
  J {V with own:=λb=>if B b then none else V.own b,role:= .work c Wg S} (TO g undef)->J V g
 done:∀V g c Wg,V.role= .work c Wg []->V.deaf=0->Dx P Wg g->J V g
 slip:∀V g g' c Wg,V.role= .work c Wg []->g.status= .running->(∀w st,Sat V w->WgAt P Wg w st 0->stepG P main g w= .go g' w #[])->J V g'->J V g
structure ac3 (P:Program)(main:Bool)(J:View->Goroutine->Prop):Prop where
 start:∀V g c Wg,V.role= .plain->c≠Wg->V.own c=some (.chan 0 #[] false 0 0 false)->V.own Wg≠none->(∀o,V.ab Wg o=none)->J {V with role:= .fork c Wg []} g->J V g
 En:∀V g g' child c Wg Ss sp S,V.role= .fork c Wg Ss->V.deaf=0->g.status= .running->V.own c=some (.chan 0 #[] false 0 0 false)->V.own Wg=some (wgBlock P (((Ss.length+1:Nat):Int)* 4294967296) 0)->Ss.length<4->(∀o,V.ab Wg o=none)->
  (∀w,Sat V w->stepG P main g w= .spawn g' child w #[])->child.status= .running->
  (∀J0,yd P false J0->J0 {ab:=V.ab,own:=λ_=>none,deaf:=0,role:= .work c Wg (sp::S)} child)->
  J {V with role:= .fork c Wg (Ss++[sp::S])} g'->J V g
 Em:∀V g g' child c Wg Ss,V.role= .fork c Wg Ss->V.deaf=0->g.status= .running->c≠Wg->V.own c=some (.chan 0 #[] false 0 0 false)->V.own Wg=some (wgBlock P (((Ss.length:Nat):Int)* 4294967296) 0)->(∀o,V.ab c o=none)->(∀o,V.ab Wg o=none)->
  (∀w,Sat V w->stepG P main g w= .spawn g' child w #[])->child.status= .running->Hl P V.ab c Wg child->
  J {V with own:=λb=>if b=c\/b=Wg then none else V.own b,role:= .recv c Wg Ss} g'->J V g
 recv:∀V g c Wg Ss z,V.role= .recv c Wg Ss->V.deaf=0->g.status= .running->g.offers=none->
  (∀w,Sat V w->stepG P main g w= .comm g #[rcase c z] true (.recv true) w #[])->
  (∀i sp S v Im Ow,Ss[i]?=some (sp::S)->sp v Im Ow->(∀b,V.own b≠none->Ow b=none)->(∀b o,V.own b≠none->Im b o≠none->V.ab b o≠none)->(∃w,Sat V w/\(∀b o x,Im b o=some x->w.cell? ⟨b,o,none⟩=some x)/\∀b x,Ow b=some x->w.heap[b]?=some x)->
   J {V with ab:=λb o=>match V.ab b o with|some x=>some x|none=>Im b o,own:=λb=>match V.own b with|some x=>some x|none=>Ow b,role:= .recv c Wg (Ss.set i S)} (TO g (.tuple #[v, .bool true])))->
  ((∀S∈Ss,S=[])->J {V with role:= .plain} (TO g (.tuple #[z, .bool false])))->J V g
structure Closed (lv:Bool)(P:Program)(main:Bool)(J:View->Goroutine->Prop):Prop extends yd P main J where
 more:lv=true->ac3 P main J
theorem Closed.idle{lv:Bool}{P:Program}{main:Bool}{J:View->Goroutine->Prop}(C:Closed lv P main J){V:View}{g g':Goroutine}(hs:g.status= .running)(h:∀w,stepG P main g w= .go g' w #[]) (hJ:J V g'):J V g:=
 C.step V g hs λw hw=>⟨g',w,#[],V,h w, .idle hw,hJ⟩
def on (b:Frame)(a:Act)(todo:List Item):Frame:={b with tmps:=a.tmps,todo,defers:=a.defers,mode:= .run}
inductive Ex where
 |normal
 |exit (id:Nat)
 |goto (l:Nat)
 |ret
 |panic (chain:List PanicEntry)
def pG (J:View->Goroutine->Prop)(b:Frame)(cs:List Frame)(a:Act)(V:View)(x:Code)(to:List Item->Option (List Item))(k:List Item):Prop:=
 (∃k',to k=some k'/\J V (G (on b a k') cs))\/(to k=none/\∀k2,to k2=none->J V (G (on b a (.code x::k2)) cs))
theorem pG.under{J:View->Goroutine->Prop}{b:Frame}{cs:List Frame}{a:Act}{V:View}{x:Code}{to:List Item->Option (List Item)}{k k2:List Item}(h:pG J b cs a V x to k)(e:to k2=to k):pG J b cs a V x to k2:=by
 rcases h with⟨k',h1,h2⟩|⟨h1,h2⟩
 ·exact .inl ⟨k',e.trans h1,h2⟩
 ·exact .inr ⟨e.trans h1,h2⟩
def aax:List Item->Bool
 | .call .. ::_=>false
 |_=>true
def uS (J:View->Goroutine->Prop)(b:Frame)(k:List Item)(cs:List Frame):Ex->Act->View->Prop
 | .normal,a,V=>J V (G (on b a k) cs)
 | .exit id,a,V=>pG J b cs a V (.exit id) (exitTo id) k
 | .goto l,a,V=>pG J b cs a V (.goto l) (gotoIn l) k
 | .ret,a,V=>∀k,J V (G (on b a (.code .ret::k)) cs)
 | .panic chain,a,V=>∀todo,aax todo=true->J V (G {on b a todo with mode:= .panicking chain} cs)
def WP (lv:Bool)(P:Program)(r:Option Nat)(c:Code)(Q:Ex->Act->View->Prop)(a:Act)(V:View):Prop:=
 ∀(main:Bool)(J:View->Goroutine->Prop),Closed lv P main J->∀(b:Frame)(k:List Item)(cs:List Frame),b.kind≠ .early->b.roundOf=r->
  (∀e a' V',Q e a' V'->uS J b k cs e a' V')->J V (G (on b a (.code c::k)) cs)
section steps
variable {P:Program}{main:Bool}{b:Frame}{a:Act}{k:List Item}{cs:List Frame}{w:World}
theorem ao1:stepG P main (G (on b a (.code .skip::k)) cs) w= .go (G (on b a k) cs) w #[]:=by simp[G,stepG,TZ,on]
theorem aoV{l:Nat}:stepG P main (G (on b a (.code (.label l)::k)) cs) w= .go (G (on b a k) cs) w #[]:=by simp[G,stepG,TZ,on]
theorem aoS{id:Nat}:stepG P main (G (on b a (.inBlock id::k)) cs) w= .go (G (on b a k) cs) w #[]:=by simp[G,stepG,TZ,on]
theorem aoU{c:Code}:stepG P main (G (on b a (.inScope c::k)) cs) w= .go (G (on b a k) cs) w #[]:=by simp[G,stepG,TZ,on]
theorem abu{x y:Code}:stepG P main (G (on b a (.code (.seq x y)::k)) cs) w= .go (G (on b a (.code x:: .code y::k)) cs) w #[]:=by simp[G,stepG,TZ,on]
theorem Gc(b:Frame)(a:Act)(todo:List Item)(x:Operand):(on b a todo).eval x=a.eval x:=by cases x<;>rfl
theorem am2(b:Frame)(a:Act)(todo:List Item):(on b a todo).eval=a.eval:=funext (Gc b a todo)
theorem s_cond{c:Operand}{x y:Code}{t:Bool}(h:a.eval c= .bool t):
  stepG P main (G (on b a (.code (.cond c x y)::k)) cs) w= .go (G (on b a (.code (if t then x else y)::k)) cs) w #[]:=by
 have h':(on b a (.code (.cond c x y)::k)).eval c= .bool t:=by rw[Gc];exact h
 simp only[on]at h';simp[G,stepG,TZ,on,h']
theorem aoP{id:Nat}{c:Code}:stepG P main (G (on b a (.code (.block id c)::k)) cs) w= .go (G (on b a (.code c:: .inBlock id::k)) cs) w #[]:=by simp[G,stepG,TZ,on]
theorem ao0{c:Code}:stepG P main (G (on b a (.code (.scope c)::k)) cs) w= .go (G (on b a (.code c:: .inScope c::k)) cs) w #[]:=by simp[G,stepG,TZ,on]
theorem aoW{c:Code}:stepG P main (G (on b a (.code (.loop c)::k)) cs) w= .go (G (on b a (.code c:: .inLoop c::k)) cs) w #[]:=by simp[G,stepG,TZ,on]
theorem aoT{c:Code}:stepG P main (G (on b a (.inLoop c::k)) cs) w= .go (G (on b a (.code c:: .inLoop c::k)) cs) w #[]:=by simp[G,stepG,TZ,on]
theorem s_exit{id:Nat}{k':List Item}(h:exitTo id k=some k'):stepG P main (G (on b a (.code (.exit id)::k)) cs) w= .go (G (on b a k') cs) w #[]:=by simp[G,stepG,TZ,on,h]
theorem aoR{l:Nat}{k':List Item}(h:gotoIn l k=some k'):stepG P main (G (on b a (.code (.goto l)::k)) cs) w= .go (G (on b a k') cs) w #[]:=by simp[G,stepG,TZ,on,h]
theorem abt{id:Nat}{ops:Array Oper}:stepG P main (G (on b a (.code (.region id ops false)::k)) cs) w= .go (G (on b a (.inRegion ops (SX ops.size)::k)) cs) w #[]:=by simp[G,stepG,TZ,on]
theorem aoQ{id:Nat}{ops:Array Oper}:stepG P main (G (on b a (.code (.region id ops true)::k)) cs) w=
  .go (G (on b a (.inRegion ops (Vo (P.follows .mixedOrders) ops (w.tape w.drawn (.order b.fn id)))::k)) cs) {w with drawn:=w.drawn+1} #[]:=by
 simp[G,stepG,TZ,on,choose,Sem.run,ZF,YD]
theorem aoZ{ops:Array Oper}:stepG P main (G (on b a (.inRegion ops []::k)) cs) w= .go (G (on b a k) cs) w #[]:=by simp[G,stepG,TZ,on]
theorem C0(h:b.roundOf=none):stepG P main (G (on b a (.code .ret::k)) cs) w= .go (G {on b a (.code .ret::k)with mode:= .returning} cs) w #[]:=by simp[G,stepG,TZ,on,h]
theorem CZ(h:b.roundOf=none):stepG P main (G (on b a []) cs) w= .go (G {on b a []with mode:= .returning} cs) w #[]:=by simp[G,stepG,TZ,on,h]
end steps
section rules
variable {lv:Bool}{P:Program}{r:Option Nat}{Q:Ex->Act->View->Prop}{a:Act}{V:View}
theorem WP.mono{c:Code}{Q':Ex->Act->View->Prop}(h:WP lv P r c Q a V)(hq:∀e a V,Q e a V->Q' e a V):WP lv P r c Q' a V:=
 λmain J C b k cs hb hr hL=>h main J C b k cs hb hr λe a' V' q=>hL e a' V' (hq _ _ _ q)
theorem WP.ghost{c:Code}{V':View}(g:ep V V')(h:WP lv P r c Q a V'):WP lv P r c Q a V:=
 λmain J C b k cs hb hr hL=>C.ghost _ _ _ g (h main J C b k cs hb hr hL)
theorem wp_skip(h:Q .normal a V):WP lv P r .skip Q a V:=λ_ _ C _ _ _ _ _ hL=>C.idle rfl (λ_=>ao1) (hL _ _ _ h)
theorem wp_label{l:Nat}(h:Q .normal a V):WP lv P r (.label l) Q a V:=λ_ _ C _ _ _ _ _ hL=>C.idle rfl (λ_=>aoV) (hL _ _ _ h)
theorem Se{main:Bool}{J:View->Goroutine->Prop}(C:Closed lv P main J){b:Frame}{cs:List Frame}{a:Act}{V:View}{id:Nat}{k:List Item}(h:pG J b cs a V (.exit id) (exitTo id) k):J V (G (on b a (.code (.exit id)::k)) cs):=
 h.elim (λ⟨_,hk,hJ⟩=>C.idle rfl (λ_=>s_exit hk) hJ) (λ⟨hk,hJ⟩=>hJ k hk)
theorem ak7{main:Bool}{J:View->Goroutine->Prop}(C:Closed lv P main J){b:Frame}{cs:List Frame}{a:Act}{V:View}{l:Nat}{k:List Item}(h:pG J b cs a V (.goto l) (gotoIn l) k):J V (G (on b a (.code (.goto l)::k)) cs):=
 h.elim (λ⟨_,hk,hJ⟩=>C.idle rfl (λ_=>aoR hk) hJ) (λ⟨hk,hJ⟩=>hJ k hk)
theorem wp_exit{id:Nat}(h:Q (.exit id) a V):WP lv P r (.exit id) Q a V:=λ_ _ C _ _ _ _ _ hL=>Se C (hL _ _ _ h)
theorem wp_ret(h:Q .ret a V):WP lv P r .ret Q a V:=λ_ _ _ _ k _ _ _ hL=>hL _ _ _ h k
def Ex.then (next:Act->View->Prop)(Q:Ex->Act->View->Prop):Ex->Act->View->Prop
 | .normal,a,V=>next a V
 |e,a,V=>Q e a V
theorem uS.under{J:View->Goroutine->Prop}{b:Frame}{k:List Item}{cs:List Frame}{x:Item}(hx:x.plain=true){e:Ex}(he:e≠ .normal){a:Act}{V:View}(h:uS J b k cs e a V):uS J b (x::k) cs e a V:=by
 cases e with
 |normal=>exact absurd rfl he
 |exit id=>exact pG.under h (by cases x<;>simp_all[exitTo,Zh])
 |goto l=>exact pG.under h (by cases x<;>simp_all[gotoIn,Zh])
 |ret=>exact h
 |panic ch=>exact h
theorem wp_seq{x y:Code}(h:WP lv P r x (Ex.then (WP lv P r y Q) Q) a V):WP lv P r (.seq x y) Q a V:=by
 intro main J C b k cs hb hr hL;refine C.idle rfl (λ_=>abu) (h main J C b (.code y::k) cs hb hr λe a' V' q=> ?_);cases e with
 |normal=>exact q main J C b k cs hb hr hL
 |exit id=>exact(hL _ _ _ q).under rfl (by simp)
 |goto l=>exact(hL _ _ _ q).under rfl (by simp)
 |ret=>exact(hL _ _ _ q).under rfl (by simp)
 |panic ch=>exact(hL _ _ _ q).under rfl (by simp)
theorem wp_cond{c:Operand}{x y:Code}{t:Bool}(hc:a.eval c= .bool t)(h:WP lv P r (if t then x else y) Q a V):WP lv P r (.cond c x y) Q a V:=
 λmain J C b k cs hb hr hL=>C.idle rfl (λ_=>s_cond hc) (h main J C b k cs hb hr hL)
def Ex.inBlock (id:Nat)(Q:Ex->Act->View->Prop):Ex->Act->View->Prop
 | .exit oD,a,V=>if oD=id then Q .normal a V else Q (.exit oD) a V
 |e,a,V=>Q e a V
theorem wp_block{id:Nat}{c:Code}(h:WP lv P r c (Ex.inBlock id Q) a V):WP lv P r (.block id c) Q a V:=by
 intro main J C b k cs hb hr hL;refine C.idle rfl (λ_=>aoP) (h main J C b (.inBlock id::k) cs hb hr λe a' V' q=> ?_);cases e with
 |normal=>exact C.idle rfl (λ_=>aoS) (hL _ _ _ q)
 |exit oD=>
  by_cases ce:oD=id
  ·simp only[Ex.inBlock,ce,if_true]at q;exact .inl ⟨k,by simp[exitTo,ce],hL _ _ _ q⟩
  ·simp only[Ex.inBlock,ce,if_false]at q;have:(id==oD)=false:=(by simp;exactλh=>ce h.symm);exact pG.under (hL _ _ _ q) (by simp[exitTo,this])
 |goto l=>exact pG.under (hL _ _ _ q) (by simp[gotoIn])
 |ret=>exact hL _ _ _ q
 |panic ch=>exact hL _ _ _ q
theorem M_{α:Type}{lt:α->α->Prop}(wf:WellFounded lt){c:Code}(I:α->Act->View->Prop)(m:α)(h₀:I m a V)
  (round:∀m a V,I m a V->WP lv P r c (Ex.then (λa' V'=>∃m',lt m' m/\I m' a' V') Q) a V):WP lv P r (.loop c) Q a V:=by
 intro main J C b k cs hb hr hL;have key:∀m a V,I m a V->J V (G (on b a (.code c:: .inLoop c::k)) cs):=by
  intro m;induction m using wf.induction with
  |_ m ih=>
   intro a V hI;refine round m a V hI main J C b (.inLoop c::k) cs hb hr λe a' V' q=> ?_;cases e with
   |normal=>obtain⟨m',hlt,hI'⟩:=q;exact C.idle rfl (λ_=>aoT) (ih m' hlt a' V' hI')
   |exit id=>exact(hL _ _ _ q).under rfl (by simp)
   |goto l=>exact(hL _ _ _ q).under rfl (by simp)
   |ret=>exact(hL _ _ _ q).under rfl (by simp)
   |panic ch=>exact(hL _ _ _ q).under rfl (by simp)
 exact C.idle rfl (λ_=>aoW) (key m a V h₀)
theorem wp_loop{c:Code}(I:Nat->Act->View->Prop)(m:Nat)(h₀:I m a V)
  (round:∀m a V,I m a V->WP lv P r c (Ex.then (λa' V'=>∃m',m'<m/\I m' a' V') Q) a V):WP lv P r (.loop c) Q a V:=
 M_ Nat.lt_wfRel.wf I m h₀ round
theorem acW{c:Code}(I:Nat->Nat->Act->View->Prop)
  (start:∃n:Nat,WP lv P r c (λe a V=>match e with
   | .goto l=>∃rest,findLabel c l=some rest/\∃m,m<n/\I l m a V
   |e=>Q e a V) a V)
  (back:∀l rest m a V,findLabel c l=some rest->I l m a V->WP lv P r rest (λe a V=>match e with
   | .goto l'=>∃xX,findLabel c l'=some xX/\∃m',m'<m/\I l' m' a V
   |e=>Q e a V) a V):WP lv P r (.scope c) Q a V:=by
 intro main J C b k cs hb hr hL;have land:∀(n:Nat),(∀l rest m a V,m<n->findLabel c l=some rest->I l m a V->J V (G (on b a (.code rest:: .inScope c::k)) cs))->
   ∀e a' V',(match e with
   | .goto l=>∃rest,findLabel c l=some rest/\∃m,m<n/\I l m a' V'
   |e=>Q e a' V')->uS J b (.inScope c::k) cs e a' V':=by
  intro n hn e a' V' q;cases e with
  |normal=>exact C.idle rfl (λ_=>aoU) (hL _ _ _ q)
  |exit id=>exact pG.under (hL _ _ _ q) (by simp[exitTo])
  |goto l=>
   obtain⟨rest,hf,m,hm,hI⟩:=q;exact .inl ⟨_,by simp[gotoIn,hf],hn l rest m a' V' hm hf hI⟩
  |ret=>exact hL _ _ _ q
  |panic ch=>exact hL _ _ _ q
 have key:∀n l rest m a V,m<n->findLabel c l=some rest->I l m a V->J V (G (on b a (.code rest:: .inScope c::k)) cs):=by
  intro n;induction n with
  |zero=>intro _ _ _ _ _ h;omega
  |succ n ih=>
   intro l rest m a V hm hf hI;exact back l rest m a V hf hI main J C b (.inScope c::k) cs hb hr (land m λl' xX m' a' V' h'=>ih l' xX m' a' V' (by omega))
 obtain⟨n,hn⟩:=start;exact C.idle rfl (λ_=>ao0) (hn main J C b (.inScope c::k) cs hb hr (land n (key n)))
end rules
open Go.Conc
def View.get (V:View)(b o:Nat):Option Value:=
 match V.ab b o with
 |some v=>some v
 |none=>match V.own b with
  |some (.cells c _ _)=>c[o]?
  |_=>none
def View.upd (V:View)(b:Nat)(x:Obj):View:={V with own:=λb'=>if b'=b then some x else V.own b'}
def View.fresh (V:View)(b:Nat):Prop:=V.own b=none/\∀o,V.ab b o=none
theorem Sat.get{V:View}{w:World}(h:Sat V w){b o:Nat}{v:Value}(e:V.get b o=some v):w.cell? ⟨b,o,none⟩=some v:=by
 unfold View.get at e;split at e
 ·rename_i v' hv;cases e;exact h.ab _ _ _ hv
 ·split at e
  ·rename_i c el f ho;have:=h.own _ _ ho;simpa[Uj,this]using e
  ·cases e
theorem Sat.lt{V:View}{w:World}(h:Sat V w){b:Nat}{x:Obj}(e:V.own b=some x):b<w.heap.size:=by
 have:=h.own _ _ e;exact(SP.1 this).1
theorem Sat.Cx{V:View}{w:World}(h:Sat V w){b o:Nat}{v:Value}(e:V.ab b o=some v):b<w.heap.size:=by
 have:=h.ab _ _ _ e;unfold Uj at this;split at this
 ·rename_i hh;exact(SP.1 hh).1
 ·cases this
theorem Sat.fresh{V:View}{w:World}(h:Sat V w){b:Nat}(hb:w.heap.size<=b):V.fresh b:=
 ⟨by cases e:V.own b with
  |none=>rfl
  |some x=>have:=h.lt e;omega,λo=>by
  cases e:V.ab b o with
  |none=>rfl
  |some x=>have:=h.Cx e;omega⟩
theorem Sat.eU{V:View}{w:World}(h:Sat V w){b o:Nat}{v:Value}(e:V.get b o=some v):b<w.heap.size:=by
 have:=h.get e;unfold Uj at this;split at this
 ·rename_i hh;exact(SP.1 hh).1
 ·cases this
theorem tz.xR{V V₁:View}{w w₁:World}{es:Array Event}(s:dg V w V₁ w₁ es){a:Addr}(h:tz V₁ w₁.heap.size a):tz V w.heap.size a:=by
 rcases h with h|h|h
 ·exact .inl (Ur s.size h)
 ·by_cases hb:a.block<w.heap.size
  ·exact .inr (.inl λe=>h (s.own _ hb e))
  ·exact .inl (by omega)
 ·cases e:V₁.ab a.block a.off with
  |none=>exact absurd e h
  |some v=>
   rcases s.kL _ _ _ e with x|x|x
   ·exact .inr (.inr (by rw[x];simp))
   ·exact .inr (.inl x)
   ·exact .inl x
theorem mE.xR{V V₁:View}{w w₁:World}{es:Array Event}(s:dg V w V₁ w₁ es){a:Addr}(h:mE V₁ w₁.heap.size a):mE V w.heap.size a:=by
 rcases h with h|⟨h,h'⟩
 ·exact .inl (Ur s.size h)
 ·by_cases hb:a.block<w.heap.size
  ·refine .inr ⟨λe=>h (s.own _ hb e), ?_⟩;cases e:V.ab a.block a.off with
   |none=>rfl
   |some v=>rw[s.ab _ _ _ e]at h';cases h'
  ·exact .inl (by omega)
theorem m8.xR{V V₁:View}{w w₁:World}{es:Array Event}(s:dg V w V₁ w₁ es){e:Event}(h:m8 V₁ w₁.heap.size e):m8 V w.heap.size e:=by
 unfold m8 at h⊢;split at h
 ·exact⟨tz.xR s h.1,by rw[<- s.role];exact h.2⟩
 ·exact⟨mE.xR s h.1,by rw[<- s.role];exact h.2⟩
 ·refine⟨⟨h.1.1, ?_⟩,by rw[<- s.role];exact h.2⟩;rename_i r _ _;rcases h.1.2 with x|x
  ·exact .inl (Ur s.size x)
  ·by_cases hb:r<w.heap.size
   ·exact .inr λy=>x (s.own _ hb y)
   ·exact .inl (by omega)
 ·exact mE.xR s h
 ·exact mE.xR s h
 ·exact h
 ·exact h
 ·trivial
 ·exact h.elim
theorem H9(d:Nat)(x y:Array Event):deafBehind d (x++y)=deafBehind (deafBehind d x) y:=by
 simp[deafBehind]
theorem dg.trans{V V₁ V₂:View}{w w₁ w₂:World}{es tQ:Array Event}(s:dg V w V₁ w₁ es)(s':dg V₁ w₁ V₂ w₂ tQ):dg V w V₂ w₂ (es++tQ):=
 ⟨s'.sat,s'.tape.trans s.tape,s'.os.trans s.os,s'.output.trans s.output,Ur s.size s'.size,
  λb hb e=>(s'.frame b (Ta hb s.size) (s.own b hb e)).trans (s.frame b hb e),λb hb e=>s'.own b (Ta hb s.size) (s.own b hb e),
  λb o v e=>s'.ab b o v (s.ab b o v e),λb o v e=>by
   rcases s'.kL b o v e with x|x|x
   ·exact s.kL b o v x
   ·by_cases hb:b<w.heap.size
    ·exact .inr (.inl λy=>x (s.own b hb y))
    ·exact .inr (.inr (by omega))
   ·exact .inr (.inr (Ur s.size x)),
  λe he=>(Uf.1 he).elim (s.fx e) (λh=>(s'.fx e h).xR s),by rw[s'.deaf,s.deaf,H9],s'.role.trans s.role,λc x e e'=>s'.chan c x (by rw[s.role];exact e) (s.chan c x e e'),
  λe he=>(Uf.1 he).elim (λx=>Yu s'.size (s.low e x)) (s'.low e)⟩
def fS (es:Array Event):Array Event:=es.filter λe=>match e.loc with| .mark (.extern _)=>false|_=>true
def aO (P:Program){α:Type}(V:View)(s:Sem α)(K:α->View->Prop)(Kp:Value->View->Prop):Prop:=
 ∀w,Sat V w->∀fg,∃es w' V',dg V w V' w' (fS es)/\
  ((∃x,s.runT P w fg=(.ok x w',fg++es)/\K x V')\/(∃v,s.runT P w fg=(.halt (.panic v) w',fg++es)/\Kp v V'))
section
variable {P:Program}{α β:Type}{V:View}{K:α->View->Prop}{Kp:Value->View->Prop}
theorem LI(x y:Array Event):fS (x++y)=fS x++fS y:=by simp[fS]
theorem aO.mono{s:Sem α}{K':α->View->Prop}{No:Value->View->Prop}(h:aO P V s K Kp)(hk:∀x V,K x V->K' x V)(hp:∀x V,Kp x V->No x V):aO P V s K' No:=λw hw fg=>
 let⟨es,w',V',h1,h2⟩:=h w hw fg
 ⟨es,w',V',h1,h2.imp (λ⟨x,a,b⟩=>⟨x,a,hk _ _ b⟩) (λ⟨x,a,b⟩=>⟨x,a,hp _ _ b⟩)⟩
theorem aO.ghost{s:Sem α}{V':View}(g:ep V V')(h:aO P V' s K Kp):aO P V s K Kp:=λw hw fg=>
 let⟨es,w',V',h1,h2⟩:=h w (g.sat w hw) fg
 ⟨es,w',V',h1.rJ g,h2⟩
theorem aO.cont{s:Sem α}(h:∀w,Sat V w->∃es w' V' s',dg V w V' w' (fS es)/\(∀fg,s.runT P w fg=s'.runT P w' (fg++es))/\aO P V' s' K Kp):aO P V s K Kp:=by
 intro w hw fg;obtain⟨es,w',V',s',h1,h2,h3⟩:=h w hw;obtain⟨tQ,M0,aU,h4,h5⟩:=h3 w' h1.sat (fg++es);refine⟨es++tQ,M0,aU,by rw[LI];exact h1.trans h4, ?_⟩;rw[h2,<- WL];exact h5
theorem cK{x:α}(h:K x V):aO P V (.pure x) K Kp:=λw hw fg=>⟨#[],w,V,by simpa[fS]using dg.idle hw, .inl ⟨x,by simp[-Tt,Vf],h⟩⟩
theorem aq{x:α}(h:K x V):aO P V (pure x) K Kp:=cK h
theorem api{v:Value}(h:Kp v V):aO P V (.halt (.panic v):Sem α) K Kp:=λw hw fg=>⟨#[],w,V,by simpa[fS]using dg.idle hw, .inr ⟨v,by simp[-Tt,Vf],h⟩⟩
theorem sZ{e:Event}(h:∀f,e.loc≠ .mark (.extern f)):fS #[e]=#[e]:=by
 unfold fS;have:(match e.loc with| .mark (.extern _)=>false|_=>true)=true:=by
  split
  ·rename_i f hf;exact absurd hf (h f)
  ·rfl
 simp[Array.filter]
theorem Oq(d:Nat)(a:Addr)(wr s:Bool):deafBehind d #[⟨.cell a,wr,s⟩]=d:=by simp[deafBehind]
theorem Ot(d:Nat)(a:Nat)(wr s:Bool):deafBehind d #[⟨.obj a,wr,s⟩]=d:=by simp[deafBehind]
theorem MC{m:Mode}{b o:Nat}{v:Value}{k:Value->Sem α}(e:V.get b o=some v)(ko:V.role.group≠some b\/m= .atomic)(h:aO P V (k v) K Kp):aO P V (.load m ⟨b,o,none⟩ k) K Kp:=by
 refine .cont λw hw=>⟨#[⟨.cell ⟨b,o,none⟩,false,m== .atomic⟩],w,V,k v, ?_,λfg=> ?_,h⟩
 ·rw[sZ (by simp)];refine⟨hw,rfl,rfl,rfl,SO _,λ_ _ _=>rfl,λ_ _ e=>e,λ_ _ _ e=>e,λ_ _ _ e=> .inl e,λev cu=> ?_,by rw[Oq],rfl,λ_ _ _ e=>e,λev cu=>by simp at cu;subst cu;exact hw.eU e⟩;simp only[Tx,SK,SU,or_false]at cu;subst cu;refine⟨.inr ?_,ko.elim .inr (λx=> .inl (by subst x;rfl))⟩;show V.own b≠none\/V.ab b o≠none;unfold View.get at e;split at e
  ·rename_i hv;exact .inr (by rw[hv];simp)
  ·split at e
   ·rename_i hv;exact .inl (by rw[hv];simp)
   ·cases e
 ·simp[-Tt,Vf,hw.get e]
def _root_.Go.Value.one:Value->Bool
 | .agg _| .tuple _=>false
 |_=>true
theorem Sat.acN{V:View}{w:World}(h:Sat V w){b o:Nat}{v:Value}{c:Array Value}{el:TypeId}{f:Nat×Nat}(ho:V.own b=some (.cells c el f))(hi:V.ab b o=none):
  Sat (V.upd b (.cells (c.setIfInBounds o v) el f)) (w.setCell ⟨b,o,none⟩ v):=by
 have hb:=h.own _ _ ho;have hlt:=h.lt ho;have hm:(w.setCell ⟨b,o,none⟩ v).heap=w.heap.setIfInBounds b (.cells (c.setIfInBounds o v) el f):=by
  unfold WE;apply Array.ext_getElem?;intro i;by_cases cF:b=i
  ·subst cF;rw[VG,S7 hlt];simp[hb]
  ·simp[VG,cF,SR cF]
 refine⟨λb' o' v' e=> ?_,λb' x e=> ?_⟩
 ·have:=h.ab _ _ _ e;simp only[View.upd]at e;by_cases yW:b=b'
  ·subst yW;have Km:o≠o':=(by intro x;subst x;rw[hi]at e;cases e);simp only[Uj,hb]at this;simp only[Uj,hm,S7 hlt,SR Km];exact this
  ·simp only[Uj,hm,SR yW];exact this
 ·simp only[View.upd]at e;rw[hm];by_cases yW:b'=b
  ·subst yW;simp at e;rw[S7 hlt,e]
  ·simp only[yW,if_false]at e;rw[SR (Ne.symm yW)];exact h.own _ _ e
theorem C4(w:World)(a:Addr)(v:Value):(w.setCell a v).heap.size=w.heap.size:=by simp[WE]
theorem vG(w:World)(a:Addr)(v:Value){b:Nat}(h:a.block≠b):(w.setCell a v).heap[b]?=w.heap[b]?:=by simp[WE,VG,h]
theorem apk{m:Mode}{b o:Nat}{v:Value}{k:Sem α}{c:Array Value}{el:TypeId}{lo hi:Nat}(ho:V.own b=some (.cells c el (lo,hi)))(cw:o<c.size)(cF:V.ab b o=none)(hv:v.one=true)
  (hf:¬(lo<=o/\o<hi)) (ko:V.role.group≠some b\/m= .atomic) (JO:V.role.chan≠some b) (h:aO P (V.upd b (.cells (c.setIfInBounds o v) el (lo,hi))) k K Kp):aO P V (.store m ⟨b,o,none⟩ v k) K Kp:=by
 refine .cont λw hw=>⟨#[⟨.cell ⟨b,o,none⟩,true,m== .atomic⟩],w.setCell ⟨b,o,none⟩ v,_,k, ?_,λfg=> ?_,h⟩
 ·rw[sZ (by simp)];refine⟨hw.acN ho cF,rfl,rfl,rfl,by rw[C4];exact SO _,λb' dG e=>vG _ _ _ (λx=> ?_),λb' dG e=> ?_,λ_ _ _ e=>e,λ_ _ _ e=> .inl e,λev cu=> ?_,by rw[Oq];rfl,rfl,λc' x bc e=>by rw[<- e];simp only[View.upd,ite_eq_right_iff];intro x';subst x';exact absurd bc JO,λev cu=>by simp at cu;subst cu;show b<_;rw[C4];exact hw.lt ho⟩
  ·have x':b=b':=x;subst x';rw[ho]at e;cases e
  ·have:b'≠b:=(by intro x;subst x;rw[ho]at e;cases e);simp only[View.upd,this,if_false];exact e
  ·simp only[Tx,SK,SU,or_false]at cu;subst cu;exact⟨.inr ⟨by show V.own b≠none;rw[ho];simp,cF⟩,ko.elim .inr (λx=> .inl (by subst x;rfl))⟩
 ·have hc:w.cell? ⟨b,o,none⟩=some c[o]:=by simp[Uj,hw.own _ _ ho,cw]
  have hfz:w.frozen? ⟨b,o,none⟩=false:=by
   simp only[YX,hw.own _ _ ho];simpa using hf
  cases v<;>simp_all[-Tt,Vf,Value.one]
theorem oH{x:Obj}{k:Nat->Sem α}(h:∀r,V.fresh r->aO P (V.upd r x) (k r) K Kp):aO P V (.new x k) K Kp:=by
 refine .cont λw hw=>⟨#[],{w with heap:=w.heap.push x},V.upd w.heap.size x,k w.heap.size, ?_,λfg=>by simp[-Tt,Vf],h _ (hw.fresh (SO _))⟩;have jG:=hw.fresh (SO w.heap.size);have aE:∀{b y},V.own b=some y->b≠w.heap.size:=λe x=>by rw[x,jG.1]at e;cases e
 refine⟨⟨λb o v e=> ?_,λb y e=> ?_⟩,rfl,rfl,rfl,by simp,λb hb _=> ?_,λb hb e=> ?_,λ_ _ _ e=>e,λ_ _ _ e=> .inl e,by simp[fS],rfl,rfl,λc' x bc e=>by rw[<- e];simp only[View.upd,ite_eq_right_iff];intro x';exact absurd x' (aE e),by simp[fS]⟩
 ·have hlt:=hw.Cx e;have:=hw.ab _ _ _ e;simp only[Uj,XM hlt]at this⊢;simpa[Uj,hlt]using this
 ·simp only[View.upd]at e;by_cases hb:b=w.heap.size
  ·subst hb;simp at e;simp[e]
  ·simp only[hb,if_false]at e;have:=hw.own _ _ e;have hlt:=hw.lt e;simp only[XM hlt];simpa[hlt]using this
 ·simp[WC,VC hb]
 ·simp only[View.upd,VC hb,if_false];exact e
theorem abE{q:Question}{k:Nat->Sem α}(h0:q.forced=true->aO P V (k 0) K Kp)(h:q.forced=false->∀t,aO P V (k (q.cut t)) K Kp):aO P V (.choose q k) K Kp:=by
 cases hf:q.forced with
 |true=>exact .cont λw hw=>⟨#[],w,V,k 0,by simpa[fS]using dg.idle hw,λfg=>by simp[-Tt,Vf,hf],h0 hf⟩
 |false=>exact .cont λw hw=>⟨#[],{w with drawn:=w.drawn+1},V,_,by simpa[fS]using dg.draw hw (w.drawn+1),λfg=>by simp[-Tt,Vf,hf],h hf (w.tape w.drawn q)⟩
theorem qv{k:Program->Sem α}(h:aO P V (k P) K Kp):aO P V (.program k) K Kp:=
 .cont λw hw=>⟨#[],w,V,k P,by simpa[fS]using dg.idle hw,λfg=>by simp[-Tt,Vf],h⟩
theorem aph{k:Sem α}(h:aO P V k K Kp):aO P V (.mark .noRoom k) K Kp:=
 .cont λw hw=>⟨#[⟨.mark .noRoom,false,true⟩],w,V,k,by
  rw[sZ (by simp)];exact⟨hw,rfl,rfl,rfl,SO _,λ_ _ _=>rfl,λ_ _ e=>e,λ_ _ _ e=>e,λ_ _ _ e=> .inl e,λev cu=>by simp at cu;subst cu;trivial,by simp[deafBehind],rfl,λ_ _ _ e=>e,λev cu=>by simp at cu;subst cu;trivial⟩,
  λfg=>by simp[-Tt,Vf],h⟩
theorem apg{m:Mark}{k:Sem α}(hm:m= .disable\/m= .enable)(h:aO P {V with deaf:=deafBehind V.deaf #[⟨.mark m,false,true⟩]} k K Kp):aO P V (.mark m k) K Kp:=
 .cont λw hw=>⟨#[⟨.mark m,false,true⟩],w,_,k,by
  rw[sZ (by rcases hm with rfl|rfl<;>simp)];exact⟨⟨hw.ab,hw.own⟩,rfl,rfl,rfl,SO _,λ_ _ _=>rfl,λ_ _ e=>e,λ_ _ _ e=>e,λ_ _ _ e=> .inl e,λev cu=>by simp at cu;subst cu;rcases hm with rfl|rfl<;>rfl,rfl,rfl,λ_ _ _ e=>e,λev cu=>by simp at cu;subst cu;rcases hm with rfl|rfl<;>trivial⟩,
  λfg=>by simp[-Tt,Vf],h⟩
theorem apj{m:Mark}{a:Addr}{k:Sem α}(hm:m= .read a\/m= .write a)(ha:V.own a.block≠none/\V.ab a.block a.off=none)(h:aO P V k K Kp):aO P V (.mark m k) K Kp:=
 .cont λw hw=>⟨#[⟨.mark m,false,true⟩],w,_,k,by
  rw[sZ (by rcases hm with rfl|rfl<;>simp)];exact⟨⟨hw.ab,hw.own⟩,rfl,rfl,rfl,SO _,λ_ _ _=>rfl,λ_ _ e=>e,λ_ _ _ e=>e,λ_ _ _ e=> .inl e,λev cu=>by simp at cu;subst cu;rcases hm with rfl|rfl<;>exact .inr ha,
   by rcases hm with rfl|rfl<;>simp[deafBehind],rfl,λ_ _ _ e=>e,λev cu=>by
    simp at cu;subst cu;have:a.block<w.heap.size:=by
     cases e:V.own a.block with
     |none=>exact absurd e ha.1
     |some y=>exact hw.lt e
    rcases hm with rfl|rfl<;>exact this⟩,
  λfg=>by simp[-Tt,Vf],h⟩
def _root_.Go.Obj.uw:Obj->Bool
 | .cells .. =>true
 |_=>false
theorem nU{r:Nat}{x:Obj}{k:Obj->Sem α}(ho:V.own r=some x)(hx:x.uw=false)(hc:x.isChan=false)(ko:V.role.chan≠some r)(h:aO P V (k x) K Kp):aO P V (.getObj r k) K Kp:=
 .cont λw hw=>⟨#[⟨.obj r,false,false⟩],w,V,k x,by
  rw[sZ (by simp)];exact⟨hw,rfl,rfl,rfl,SO _,λ_ _ _=>rfl,λ_ _ e=>e,λ_ _ _ e=>e,λ_ _ _ e=> .inl e,λev cu=>by simp at cu;subst cu;exact⟨⟨rfl, .inr (by rw[ho];simp)⟩,ko⟩,by rw[Ot],rfl,λ_ _ _ e=>e,λev cu=>by simp at cu;subst cu;exact hw.lt ho⟩,
  λfg=>by
   have:=hw.own _ _ ho;cases x<;>simp_all[-Tt,Vf,Obj.uw,Zn],h⟩
theorem Sat.aq6{V:View}{w:World}(h:Sat V w){r:Nat}{x y:Obj}(ho:V.own r=some x)(hx:x.uw=false):Sat (V.upd r y) {w with heap:=w.heap.setIfInBounds r y}:=by
 have hlt:=h.lt ho;refine⟨λb o v e=> ?_,λb z e=> ?_⟩
 ·have:=h.ab _ _ _ e;have hb:r≠b:=by
   intro e';subst e';simp only[Uj,h.own _ _ ho]at this;cases x<;>simp_all[Obj.uw]
  simp only[Uj,SR hb]at this⊢;exact this
 ·simp only[View.upd]at e;by_cases hb:b=r
  ·subst hb;simp at e;simp[hlt,e]
  ·simp only[hb,if_false]at e;simp only[SR (Ne.symm hb)];exact h.own _ _ e
theorem xZ{r:Nat}{x y:Obj}{k:Sem α}(ho:V.own r=some x)(hx:x.uw=false)(hy:y.isChan=false)(ko:V.role.chan≠some r)(h:aO P (V.upd r y) k K Kp):aO P V (.setObj r y k) K Kp:=
 .cont λw hw=>⟨#[⟨.obj r,true,false⟩],{w with heap:=w.heap.setIfInBounds r y},_,k,by
  rw[sZ (by simp)];refine⟨hw.aq6 ho hx,rfl,rfl,rfl,by simp,λb hb e=> ?_,λb hb e=> ?_,λ_ _ _ e=>e,λ_ _ _ e=> .inl e,λev cu=>by simp at cu;subst cu;exact⟨⟨rfl, .inr (by rw[ho];simp)⟩,ko⟩,by rw[Ot];rfl,rfl,λc' x bc e=>by rw[<- e];simp only[View.upd,ite_eq_right_iff];intro x';subst x';exact absurd bc ko,λev cu=>by simp at cu;subst cu;show r<_;simp;exact hw.lt ho⟩
  ·exact SR (λx'=>by subst x';rw[ho]at e;cases e)
  ·have:b≠r:=(by intro x';subst x';rw[ho]at e;cases e);simp only[View.upd,this,if_false];exact e,
  λfg=>by
   have:=hw.own _ _ ho;cases x<;>simp_all[-Tt,Vf,Obj.uw,Zn],h⟩
theorem ao9{s:Sem α}{f:α->Sem β}{K:β->View->Prop}(h:aO P V s (λx V'=>aO P V' (f x) K Kp) Kp):aO P V (s.bind f) K Kp:=by
 intro w hw fg;obtain⟨es,w',V',h1,h2⟩:=h w hw fg;have key:(s.bind f).runT P w fg=match s.runT P w fg with
   |(.ok x w',e)=>(f x).runT P w' e
   |(.halt h w',e)=>(.halt h w',e):=by
  have hr:=Sem.run_bind' P s f w;have he:=Sem.events_bind' P s f w fg;rw[Tt,Tt];have xz:(s.bind f).run P w=_:=hr;have kj:(s.bind f).events P w fg=_:=he;rw[xz,kj];cases s.run P w<;>simp[Result.andThen,Result.evThen]
 rcases h2 with⟨x,hx,hK⟩|⟨v,hv,hKp⟩
 ·obtain⟨tQ,M0,aU,h3,h4⟩:=hK w' h1.sat (fg++es);refine⟨es++tQ,M0,aU,by rw[LI];exact h1.trans h3, ?_⟩;rw[key,hx,<- WL];exact h4
 ·refine⟨es,w',V',h1, .inr ⟨v, ?_,hKp⟩⟩;rw[key,hv]
theorem az{s:Sem α}{f:α->Sem β}{K:β->View->Prop}(h:aO P V s (λx V'=>aO P V' (f x) K Kp) Kp):aO P V (s>>=f) K Kp:=ao9 h
end
open Go.Conc
def yi (e:Event):Prop:=∀m,e.loc= .mark m->(m= .disable\/m= .enable)->e.sync=true
theorem m8.I4{V:View}{n:Nat}{e:Event}(h:m8 V n e):yi e:=by
 intro m hm hd;obtain⟨l,wr,s⟩:=e;simp only at hm;subst hm;rcases hd with rfl|rfl
 ·simpa[m8]using h
 ·simpa[m8]using h
theorem afM(d:Nat)(x:Array Event)(e:Event):deafBehind d (x.push e)=deafBehind (deafBehind d x) #[e]:=by
 simp[deafBehind]
theorem afN{d:Nat}{e:Event}(hg:yi e)(hs:e.sync=false):deafBehind d #[e]=d:=by
 obtain⟨l,wr,s⟩:=e;cases l with
 |mark m=>
  cases m<;>first
   |(have:=hg _ rfl (.inl rfl);simp_all)
   |(have:=hg _ rfl (.inr rfl);simp_all)
   |simp[deafBehind]
 |_=>simp[deafBehind]
theorem ao7(P:Program)(fn:FuncId)(es:Array Event)(hg:∀e∈fS es,yi e)(d:Nat):(∀e∈seen P fn es,e∈fS es)/\deafBehind d (seen P fn es)=deafBehind d (fS es):=by
 rw[seen_def];obtain⟨l⟩:=es;have key:∀(l:List Event)(q:Bool)(kept ref:Array Event),(∀e∈fS l.toArray,yi e)->(∀e∈kept,e∈ref)->deafBehind d kept=deafBehind d ref->
   (∀e∈(l.foldl (seenStep λf=>(P.funcs[f]?).any (·.norace)) (q,kept)).2,e∈ref++fS l.toArray)/\
   deafBehind d (l.foldl (seenStep λf=>(P.funcs[f]?).any (·.norace)) (q,kept)).2=deafBehind d (ref++fS l.toArray):=by
  intro l;induction l with
  |nil=>intro q kept ref _ h1 h2;simpa[fS]using⟨h1,h2⟩
  |cons e l ih=>
   intro q kept ref hg h1 h2;rw[Ux];by_cases hx:∃f,e.loc= .mark (.extern f)
   ·obtain⟨f,hf⟩:=hx;have e1:fS (e::l).toArray=fS l.toArray:=(by simp[fS,hf]);rw[e1]at hg⊢;have e3:seenStep (λf=>(P.funcs[f]?).any (·.norace)) (q,kept) e=((P.funcs[f]?).any (·.norace),kept):=(by simp[seenStep,hf]);rw[e3];exact ih _ kept ref hg h1 h2
   ·have aE:∀f,e.loc≠ .mark (.extern f):=λf hf=>hx ⟨f,hf⟩;have e1:fS (e::l).toArray=#[e]++fS l.toArray:=by
     have:(e::l).toArray=#[e]++l.toArray:=(by simp);rw[this,LI,sZ aE]
    have uc:yi e:=hg e (by rw[e1];simp);have ow:∀x∈fS l.toArray,yi x:=λx hx=>hg x (by rw[e1];exact Uf.2 (.inr hx));have e2:seenStep (λf=>(P.funcs[f]?).any (·.norace)) (q,kept) e=(q,if q&& !e.sync then kept else kept.push e):=by
     unfold seenStep;dsimp only;split
     ·rename_i f hf;exact absurd hf (aE f)
     ·rfl
    rw[e1,<- WL];rw[e2];refine ih q _ (ref++#[e]) ow (λx hx=> ?_) ?_
    ·split at hx
     ·exact Uf.2 (.inl (h1 x hx))
     ·rcases Array.mem_push.1 hx with hx|rfl
      ·exact Uf.2 (.inl (h1 x hx))
      ·exact Uf.2 (.inr (by simp))
    ·split
     ·rename_i hq;simp only[Td,TL]at hq;rw[H9,afN uc hq.2,h2]
     ·rw[H9,afM,h2]
 have:=key l ((P.funcs[fn]?).any (·.norace)) #[] #[] hg (by simp) rfl;simpa only[WK]using this
theorem dg.seen{V V':View}{w w':World}{es:Array Event}(h:dg V w V' w' (fS es))(P:Program)(fn:FuncId):dg V w V' w' (seen P fn es):=by
 have:=ao7 P fn es (λe he=>(h.fx e he).I4) V.deaf;exact⟨h.sat,h.tape,h.os,h.output,h.size,h.frame,h.own,h.ab,h.kL,λe he=>h.fx e (this.1 e he),by rw[h.deaf,this.2],h.role,h.chan,λe he=>h.low e (this.1 e he)⟩
open Go.Conc
inductive Out where
 |ret (v:Value)
 |panic (chain:List PanicEntry)
def Leaves (P:Program)(fr:Frame)(f:FuncId)(kd:CallKind)(o:Out)(V:View):Prop:=
 fr.fn=f/\fr.defers=[]/\fr.kind=kd/\∃fn,P.funcs[f]?=some fn/\
  match o with
  | .ret v=>fr.mode= .returning/\aO P V (results fn fr.tmps) (λx V'=>x=v/\V'=V) (λ_ _=>False)
  | .panic ch=>fr.mode= .panicking ch
def Body (lv:Bool)(P:Program)(f:FuncId)(args:Array Value)(kd:CallKind)(V:View)(R:Out->View->Prop):Prop:=
 ∀(main:Bool)(J:View->Goroutine->Prop),Closed lv P main J->∀cs,(∀o V' fr,R o V'->Leaves P fr f kd o V'->J V' (G fr cs))->J V (G (Frame.enter P f args kd) cs)
def na (lv:Bool)(P:Program)(fr:Frame)(V:View)(R:Out->View->Prop):Prop:=
 ∀(main:Bool)(J:View->Goroutine->Prop),Closed lv P main J->∀c cs,(∀v V',R (.ret v) V'->J V' (G (c.finish v) cs))->(∀ch V',R (.panic ch) V'->J V' (G (c.raise ch) cs))->J V (G fr (c::cs))
theorem Body.mono{lv:Bool}{P:Program}{f:FuncId}{args:Array Value}{kd:CallKind}{V:View}{R R':Out->View->Prop}(h:Body lv P f args kd V R)(hr:∀o V,R o V->R' o V):Body lv P f args kd V R':=
 λmain J C cs hk=>h main J C cs λo V' fr r hl=>hk o V' fr (hr _ _ r) hl
theorem Body.ghost{lv:Bool}{P:Program}{f:FuncId}{args:Array Value}{kd:CallKind}{V V':View}{R:Out->View->Prop}(g:ep V V')(h:Body lv P f args kd V' R):Body lv P f args kd V R:=
 λmain J C cs hk=>C.ghost _ _ _ g (h main J C cs hk)
theorem na.mono{lv:Bool}{P:Program}{fr:Frame}{V:View}{R R':Out->View->Prop}(h:na lv P fr V R)(hr:∀o V,R o V->R' o V):na lv P fr V R':=
 λmain J C c cs h1 h2=>h main J C c cs (λv V' r=>h1 v V' (hr _ _ r)) (λv V' r=>h2 v V' (hr _ _ r))
theorem na.ghost{lv:Bool}{P:Program}{fr:Frame}{V V':View}{R:Out->View->Prop}(g:ep V V')(h:na lv P fr V' R):na lv P fr V R:=
 λmain J C c cs h1 h2=>C.ghost _ _ _ g (h main J C c cs h1 h2)
theorem aO.runs{P:Program}{α:Type}{V:View}{s:Sem α}{K:α->View->Prop}{Kp:Value->View->Prop}(h:aO P V s K Kp){w:World}(hw:Sat V w):
  ∃es w' V',dg V w V' w' (fS es)/\s.events P w #[]=es/\((∃x,s.run P w= .ok x w'/\K x V')\/(∃v,s.run P w= .halt (.panic v) w'/\Kp v V')):=by
 obtain⟨es,w',V',h1,h2⟩:=h w hw #[];refine⟨es,w',V',h1, ?_⟩;simp only[Tt,UH,WK]at h2;rcases h2 with⟨x,⟨a,b⟩,c⟩|⟨x,⟨a,b⟩,c⟩
 ·exact⟨b, .inl ⟨x,a,c⟩⟩
 ·exact⟨b, .inr ⟨x,a,c⟩⟩
theorem alO{lv:Bool}{P:Program}{main:Bool}{J:View->Goroutine->Prop}(C:Closed lv P main J){fr c:Frame}{cs:List Frame}{f:FuncId}{v:Value}{V:View}(h:Leaves P fr f .normal (.ret v) V)(hJ:J V (G (c.finish v) cs)):J V (G fr (c::cs)):=by
 obtain⟨rfl,hd,hk,fn,hf,hm,hr⟩:=h;refine C.step _ _ rfl λw hw=> ?_;obtain⟨es,w',V',h1,h2,h3⟩:=hr.runs hw;rcases h3 with⟨x,h3,rfl,rfl⟩|⟨_,_,h⟩
 ·exact⟨G (c.finish x) cs,w',seen P fr.fn es,V',by simp[G,stepG,unwind,doReturn,hm,hd,hk,hf,h3,h2,TN],h1.seen P fr.fn,hJ⟩
 ·exact h.elim
theorem alN{lv:Bool}{P:Program}{main:Bool}{J:View->Goroutine->Prop}(C:Closed lv P main J){fr c:Frame}{cs:List Frame}{f:FuncId}{kd:CallKind}{ch:List PanicEntry}{V:View}(h:Leaves P fr f kd (.panic ch) V)(hJ:J V (G (c.raise ch) cs)):J V (G fr (c::cs)):=by
 obtain⟨rfl,hd,hk,fn,hf,hm⟩:=h;refine C.idle rfl (λw=> ?_) hJ;simp[G,stepG,unwind,Y0,hm,hd,hf]
theorem Body.runs{lv:Bool}{P:Program}{f:FuncId}{args:Array Value}{V:View}{R:Out->View->Prop}(h:Body lv P f args .normal V R):na lv P (Frame.enter P f args .normal) V R:=by
 intro main J C c cs h1 h2;refine h main J C (c::cs) λo V' fr r hl=> ?_;cases o with
 |ret v=>exact alO C hl (h1 v V' r)
 |panic ch=>exact alN C hl (h2 ch V' r)
def mF (lv:Bool)(P:Program)(r:Option Nat)(o:Oper)(a:Act)(next:Act->View->Prop)(Q:Ex->Act->View->Prop)(nx:Next)(V:View):Prop:=
 match nx with
 | .value v=>next (a.put o.dst v) V
 | .skip=>next (a.put o.dst undef) V
 | .defer d=>r=none/\next ({a with defers:=d::a.defers}.put o.dst undef) V
 | .enter f args=>Body lv P f args .normal V fun
   | .ret v,V'=>next (a.put o.dst v) V'
   | .panic ch,V'=>Q (.panic ch) a V'
 | .round l f tmps assign body=>na lv P (Ww l f tmps assign body .normal) V fun
   | .ret v,V'=>next (a.put o.dst v) V'
   | .panic ch,V'=>Q (.panic ch) a V'
 |_=>False
def ml:Op->Bool
 | .defer _=>true
 |_=>false
def wD (lv:Bool)(P:Program)(r:Option Nat)(o:Oper)(a:Act)(V:View)(next:Act->View->Prop)(Q:Ex->Act->View->Prop):Prop:=
 (r=none\/ml o.op=false)/\aO P V (execOp a.eval o) (mF lv P r o a next Q) (λv V'=>Q (.panic [{v,recovered:=false}]) a V')
def uU (lv:Bool)(P:Program)(o:Oper)(a:Act)(V:View)(next:Act->View->Prop):Prop:=match o.op with
 | .send ch x=>∃(c Wg:Nat)(sp:Spec)(S:List Spec)(B:Nat->Bool),a.eval ch= .chan (some c)/\V.role= .work c Wg (sp::S)/\V.deaf=0/\sp (a.eval x) V.ab (λb=>if B b then V.own b else none)/\
   next (a.put o.dst undef) {V with own:=λb=>if B b then none else V.own b,role:= .work c Wg S}
 | .go cl=>lv=true/\∃(x:Operand)(f:FuncId)(fa ca:Array Value),cl.callee= .value x/\a.eval x= .func (.func f) fa ca/\V.deaf=0/\
   ((∃(c Wg:Nat)(Ss:List (List Spec))(sp:Spec)(S:List Spec),V.role= .fork c Wg Ss/\V.own c=some (.chan 0 #[] false 0 0 false)/\V.own Wg=some (wgBlock P (((Ss.length+1:Nat):Int)* 4294967296) 0)/\Ss.length<4/\(∀o,V.ab Wg o=none)/\
    (∀J0,yd P false J0->J0 {ab:=V.ab,own:=λ_=>none,deaf:=0,role:= .work c Wg (sp::S)} (born P ⟨.fn (.func f) ca,fa++cl.args.map a.eval⟩))/\next (a.put o.dst undef) {V with role:= .fork c Wg (Ss++[sp::S])})\/
    (∃(c Wg:Nat)(Ss:List (List Spec)),V.role= .fork c Wg Ss/\c≠Wg/\V.own c=some (.chan 0 #[] false 0 0 false)/\V.own Wg=some (wgBlock P (((Ss.length:Nat):Int)* 4294967296) 0)/\(∀o,V.ab c o=none)/\(∀o,V.ab Wg o=none)/\
    Hl P V.ab c Wg (born P ⟨.fn (.func f) ca,fa++cl.args.map a.eval⟩)/\next (a.put o.dst undef) {V with own:=λb=>if b=c\/b=Wg then none else V.own b,role:= .recv c Wg Ss}))
 | .recv t ch true=>lv=true/\∃(c Wg:Nat)(Ss:List (List Spec))(d:ChanDir)(el:TypeId)(i:TypeInfo)(z:Value),a.eval ch= .chan (some c)/\P.underlying t=some (.chan d el)/\P.info? el=some i/\i.zero=some z/\V.role= .recv c Wg Ss/\V.deaf=0/\
   (∀(i:Nat)(sp:Spec)(S:List Spec)(v:Value)(Im:cz)(Ow:AI),Ss[i]?=some (sp::S)->sp v Im Ow->(∀b,V.own b≠none->Ow b=none)->(∀b o,V.own b≠none->Im b o≠none->V.ab b o≠none)->(∃w,Sat V w/\(∀b o x,Im b o=some x->w.cell? ⟨b,o,none⟩=some x)/\∀b x,Ow b=some x->w.heap[b]?=some x)->
    next (a.put o.dst (.tuple #[v, .bool true])) {V with ab:=λb o=>match V.ab b o with|some x=>some x|none=>Im b o,own:=λb=>match V.own b with|some x=>some x|none=>Ow b,role:= .recv c Wg (Ss.set i S)})/\
   ((∀S∈Ss,S=[])->next (a.put o.dst (.tuple #[z, .bool false])) {V with role:= .plain})
 |_=>False
theorem uU.mono{lv:Bool}{P:Program}{o:Oper}{a:Act}{V:View}{N N':Act->View->Prop}(h:uU lv P o a V N)(hN:∀a V,N a V->N' a V):uU lv P o a V N':=by
 unfold uU at h⊢;split at h
 ·obtain⟨c,Wg,sp,S,B,h1,h2,h3,h4,h5⟩:=h;exact⟨c,Wg,sp,S,B,h1,h2,h3,h4,hN _ _ h5⟩
 ·obtain⟨sM,x,f,fa,ca,h1,h2,h3,h4⟩:=h;refine⟨sM,x,f,fa,ca,h1,h2,h3,h4.imp ?_ ?_⟩
  ·rintro⟨c,Wg,Ss,sp,S,q1,q2,q3,q4,q5,q6,q7⟩
   exact⟨c,Wg,Ss,sp,S,q1,q2,q3,q4,q5,q6,hN _ _ q7⟩
  ·rintro⟨c,Wg,Ss,q1,q2,q3,q4,q5,q6,q7,q8⟩
   exact⟨c,Wg,Ss,q1,q2,q3,q4,q5,q6,q7,hN _ _ q8⟩
 ·obtain⟨sM,c,Wg,Ss,d,el,ti,z,h1,h2,h3,h4,h5,h6,h7,h8⟩:=h;exact⟨sM,c,Wg,Ss,d,el,ti,z,h1,h2,h3,h4,h5,h6,λi sp S v Im Ow r1 r2 r3 r4 r5=>hN _ _ (h7 i sp S v Im Ow r1 r2 r3 r4 r5),λhS=>hN _ _ (h8 hS)⟩
 ·exact h
def AH (lv:Bool)(P:Program)(r:Option Nat)(o:Oper)(a:Act)(V:View)(next:Act->View->Prop)(Q:Ex->Act->View->Prop):Prop:=wD lv P r o a V next Q\/uU lv P o a V next
def dj (lv:Bool)(P:Program)(r:Option Nat)(ops:Array Oper)(Q:Ex->Act->View->Prop):List Nat->Act->View->Prop
 |[],a,V=>Q .normal a V
 |i::rest,a,V=>
  match ops[i]?with
  |none=>dj lv P r ops Q rest a V
  |some o=>if Tf o (yielded ops a.tmps)then AH lv P r o a V (dj lv P r ops Q rest) Q else dj lv P r ops Q rest (a.put o.dst undef) V
theorem zQ(b:Frame)(a:Act)(ops:Array Oper)(i:Nat)(rest:List Nat)(k:List Item)(v:Value):
  (on b a (.inRegion ops (i::rest)::k)).finish v=on b (a.put ((ops[i]?).bind (·.dst)) v) (.inRegion ops rest::k):=by
 cases h:(ops[i]?).bind (·.dst)<;>simp[Frame.finish,on,Xl,h]
theorem abr{P:Program}{main:Bool}{b:Frame}{a:Act}{k:List Item}{cs:List Frame}{w:World}{ops:Array Oper}{i:Nat}{rest:List Nat}(h:((ops[i]?).map (Tf · (yielded ops a.tmps))).getD false=false):
  stepG P main (G (on b a (.inRegion ops (i::rest)::k)) cs) w= .go (G (on b (a.put ((ops[i]?).bind (·.dst)) undef) (.inRegion ops rest::k)) cs) w #[]:=by
 rw[<- zQ];simp only[on]at*;simp[G,stepG,TZ,h]
theorem s_op{P:Program}{main:Bool}{b:Frame}{a:Act}{k:List Item}{cs:List Frame}{w:World}{ops:Array Oper}{i:Nat}{rest:List Nat}{o:Oper}(ho:ops[i]?=some o)(hw:Tf o (yielded ops a.tmps)=true)(hd:b.roundOf=none\/ml o.op=false):
  stepG P main (G (on b a (.inRegion ops (i::rest)::k)) cs) w=stepG.apply P true (on b a (.inRegion ops (i::rest)::k)) cs none (execOp a.eval o) w:=by
 have he:=am2 b a (.inRegion ops (i::rest)::k);simp only[on]at he;rcases hd with hd|hd
 ·rw[hd]at he;simp[G,stepG,TZ,Yf,XX,on,ho,hw,he,hd]
 ·cases hr:b.roundOf with
  |none=>
   rw[hr]at he;simp[G,stepG,TZ,Yf,XX,on,ho,hw,he,hr]
  |some l=>cases au:o.op<;>simp_all[G,stepG,TZ,Yf,XX,on,ml]
theorem apD{lv:Bool}{P:Program}{main:Bool}{J:View->Goroutine->Prop}(C:Closed lv P main J){ops:Array Oper}{i:Nat}{rest:List Nat}{o:Oper}{a:Act}{V:View}{N:Act->View->Prop}{b:Frame}{k:List Item}{cs:List Frame}(hb:b.kind≠ .early)
  (ho:ops[i]?=some o) (hw:Tf o (yielded ops a.tmps)=true) (h:uU lv P o a V N) (hN:∀a' V',N a' V'->J V' (G (on b a' (.inRegion ops rest::k)) cs)):J V (G (on b a (.inRegion ops (i::rest)::k)) cs):=by
 have jW:((on b a (.inRegion ops (i::rest)::k)).kind==UJ)=false:=by simpa[on]using hb
 have eA:∀v,(on b a (.inRegion ops (i::rest)::k)).finish v=on b (a.put o.dst v) (.inRegion ops rest::k):=by
  intro v;rw[zQ,ho];rfl
 have KE:∀v,TO (G (on b a (.inRegion ops (i::rest)::k)) cs) v=G (on b (a.put o.dst v) (.inRegion ops rest::k)) cs:=λv=>by rw[<- eA v];rfl
 unfold uU at h;split at h
 ·rename_i ch x au;obtain⟨c,Wg,sp,S,B,h1,h2,h3,h4,h5⟩:=h;have aQ:∀w,stepG P main (G (on b a (.inRegion ops (i::rest)::k)) cs) w= .comm (G (on b a (.inRegion ops (i::rest)::k)) cs) #[scase c (a.eval x) (.tuple #[])] true .send w #[]:=λw=>by
   rw[s_op ho hw (.inr (by rw[au];rfl))];have e:execOp a.eval o=pure (.comm #[scase c (a.eval x) (.tuple #[])] true .send):=by
    unfold execOp;simp only[au];rw[h1];rfl
   rw[e];simp only[stepG.apply,Tt,if_true,jW,TN,Y_,YP,seen_none];rfl
  exact C.send _ _ c Wg sp S (a.eval x) (.tuple #[]) B h2 h3 rfl rfl (λw _=>aQ w) h4 (by rw[KE];exact hN _ _ h5)
 ·rename_i cl au;obtain⟨sM,x,f,fa,ca,h1,h2,h3,h4⟩:=h;have aQ:∀w,stepG P main (G (on b a (.inRegion ops (i::rest)::k)) cs) w= .spawn (G (on b (a.put o.dst undef) (.inRegion ops rest::k)) cs) (born P ⟨.fn (.func f) ca,fa++cl.args.map a.eval⟩) w #[]:=λw=>by
   rw[s_op ho hw (.inr (by rw[au];rfl)),<- eA undef];have e:execOp a.eval o=(pure (.spawn ⟨.fn (.func f) ca,fa++cl.args.map a.eval⟩):Sem Next):=by
    unfold execOp;simp only[au];unfold resolve;simp only[h1,h2];rfl
   rw[e];simp only[stepG.apply,Tt,if_true,jW,TN,Y_,YP,seen_none];simp[born,G,on];exact seen_none _ _
  rcases h4 with⟨c,Wg,Ss,sp,S,q1,q2,q3,q4,q5,q6,q7⟩|⟨c,Wg,Ss,q1,q2,q3,q4,q5,q6,q7,q8⟩
  ·exact(C.more sM).En _ _ _ _ c Wg Ss sp S q1 h3 rfl q2 q3 q4 q5 (λw _=>aQ w) rfl q6 (hN _ _ q7)
  ·exact(C.more sM).Em _ _ _ _ c Wg Ss q1 h3 rfl q2 q3 q4 q5 q6 (λw _=>aQ w) rfl q7 (hN _ _ q8)
 ·rename_i t ch au;obtain⟨sM,c,Wg,Ss,d,el,ti,z,h1,h2,h3,h4,h5,h6,h7,h8⟩:=h;have aQ:∀w,stepG P main (G (on b a (.inRegion ops (i::rest)::k)) cs) w= .comm (G (on b a (.inRegion ops (i::rest)::k)) cs) #[rcase c z] true (.recv true) w #[]:=λw=>by
   rw[s_op ho hw (.inr (by rw[au];rfl))];have hu:(underlying t).run P w= .ok (.chan d el) w:=run_underlying h2 w;have hi:(typeInfo el).run P w= .ok ti w:=(by simp[typeInfo,h3]);have hz:(zeroValue el).run P w= .ok z w:=(by simp[zeroValue,hi,h4]);have ur:(zeroValue el).events P w #[]=#[]:=(by simp[zeroValue,hi,h4]);have e1:(execOp a.eval o).run P w= .ok (.comm #[rcase c z] true (.recv true)) w:=by
    unfold execOp;simp only[au];rw[h1];simp[hu,hz,rcase]
   have e2:(execOp a.eval o).events P w #[]=#[]:=by
    unfold execOp;simp only[au];rw[h1];simp[hu,hz,ur]
   simp only[stepG.apply,Tt,if_true,jW,TN,e1,e2,seen_none];rfl
  refine(C.more sM).recv _ _ c Wg Ss z h5 h6 rfl rfl (λw _=>aQ w) (λi sp S v Im Ow r1 r2 r3 r4 r5=> ?_) λhS=> ?_
  ·rw[KE];exact hN _ _ (h7 i sp S v Im Ow r1 r2 r3 r4 r5)
  ·rw[KE];exact hN _ _ (h8 hS)
 ·exact h.elim
theorem wp_ops{lv:Bool}{P:Program}{r:Option Nat}{ops:Array Oper}{Q:Ex->Act->View->Prop}(l:List Nat):
  ∀(a:Act)(V:View),dj lv P r ops Q l a V->∀(main:Bool)(J:View->Goroutine->Prop),Closed lv P main J->∀(b:Frame)(k:List Item)(cs:List Frame),b.kind≠ .early->b.roundOf=r->
   (∀e a' V',Q e a' V'->uS J b k cs e a' V')->J V (G (on b a (.inRegion ops l::k)) cs):=by
 induction l with
 |nil=>exactλa V h main J C b k cs _ _ hL=>C.idle rfl (λ_=>aoZ) (hL _ _ _ h)
 |cons i rest ih=>
  intro a V h main J C b k cs hb hr hL;simp only[dj]at h;cases ho:ops[i]?with
  |none=>
   simp only[ho]at h;refine C.idle rfl (λw=>abr (by simp[ho])) ?_;simp only[ho,Option.bind_none,Xl];exact ih a V h main J C b k cs hb hr hL
  |some o=>
   simp only[ho]at h;by_cases hw:Tf o (yielded ops a.tmps)=true
   ·simp only[hw,if_true]at h;rcases h with h|h
    rotate_left
    ·exact apD C hb ho hw h λa' V' h'=>ih a' V' h' main J C b k cs hb hr hL
    obtain⟨bz,au⟩:=h;have aji:b.roundOf=none\/ml o.op=false:=hr▸bz;have eA:∀v,(on b a (.inRegion ops (i::rest)::k)).finish v=on b (a.put o.dst v) (.inRegion ops rest::k):=by
     intro v;rw[zQ,ho];rfl
    have jW:((on b a (.inRegion ops (i::rest)::k)).kind==UJ)=false:=(by simpa[on]using hb);refine C.step _ _ rfl λw fI=> ?_;obtain⟨es,w',V',h1,h2,h3⟩:=au.runs fI;rw[s_op ho hw aji];rcases h3 with⟨nx,h3,hU⟩|⟨v,h3,hU⟩
    ·cases nx with
     |value v=>exact⟨_,w',seen P b.fn es,V',by rw[<- eA v];simp only[stepG.apply,Tt,if_true,h3,h2,jW,TN];rfl,h1.seen P _,ih _ _ hU main J C b k cs hb hr hL⟩
     |skip=>exact⟨_,w',seen P b.fn es,V',by rw[<- eA undef];simp only[stepG.apply,Tt,if_true,h3,h2,jW,TN];rfl,h1.seen P _,ih _ _ hU main J C b k cs hb hr hL⟩
     | «defer» d =>
      obtain⟨zv,hU⟩:=hU;have iR:({on b a (.inRegion ops (i::rest)::k)with defers:=d::a.defers}:Frame).finish undef=on b ({a with defers:=d::a.defers}.put o.dst undef) (.inRegion ops rest::k):=by
       have:=zQ b {a with defers:=d::a.defers} ops i rest k undef;rw[ho]at this;exact this
      exact⟨_,w',seen P b.fn es,V',by
       rw[<- iR];simp only[stepG.apply,Tt,if_true,h3,h2,jW,TN];rfl,h1.seen P _,ih _ _ hU main J C b k cs hb hr hL⟩
     |enter f args=>
      refine⟨G (Frame.enter P f args .normal) (on b a (.inRegion ops (i::rest)::k)::cs),w',seen P b.fn es,V',by simp only[stepG.apply,Tt,if_true,h3,h2,jW,TN];rfl,h1.seen P _, ?_⟩;refine Body.runs hU main J C _ cs (λv aU hR=> ?_) (λch aU hR=> ?_)
      ·rw[eA];exact ih _ _ hR main J C b k cs hb hr hL
      ·exact hL _ _ _ hR _ rfl
     |round l f tmps assign body=>
      refine⟨G (Ww l f tmps assign body .normal) (on b a (.inRegion ops (i::rest)::k)::cs),w',seen P b.fn es,V',by simp only[stepG.apply,Tt,if_true,h3,h2,jW,TN];rfl,h1.seen P _, ?_⟩;refine hU main J C _ cs (λv aU hR=> ?_) (λch aU hR=> ?_)
      ·rw[eA];exact ih _ _ hR main J C b k cs hb hr hL
      ·exact hL _ _ _ hR _ rfl
     |_=>exact hU.elim
    ·refine⟨G ((on b a (.inRegion ops (i::rest)::k)).raise [{v,recovered:=false}]) cs,w',seen P b.fn es,V',by simp only[stepG.apply,Tt,if_true,h3,h2,jW,TN];rfl,h1.seen P _,hL _ _ _ hU _ rfl⟩
   ·have nM:Tf o (yielded ops a.tmps)=false:=(by simpa using hw);simp only[nM,if_false,TC]at h;refine C.idle rfl (λw=>abr (by simp[ho,nM])) ?_;simp only[ho,Option.bind_some];exact ih _ _ h main J C b k cs hb hr hL
theorem wp_region{lv:Bool}{P:Program}{r:Option Nat}{id:Nat}{ops:Array Oper}{Q:Ex->Act->View->Prop}{a:Act}{V:View}(h:dj lv P r ops Q (SX ops.size) a V):WP lv P r (.region id ops false) Q a V:=
 λmain J C b k cs hb hr hL=>C.idle rfl (λ_=>abt) (wp_ops _ a V h main J C b k cs hb hr hL)
theorem M9{lv:Bool}{P:Program}{r:Option Nat}{id:Nat}{ops:Array Oper}{Q:Ex->Act->View->Prop}{a:Act}{V:View}(h:∀t,dj lv P r ops Q (Vo (P.follows .mixedOrders) ops t) a V):WP lv P r (.region id ops true) Q a V:=
 λmain J C b k cs hb hr hL=>C.step _ _ rfl λw hw=>⟨_,_,#[],V,aoQ, .draw hw _,wp_ops _ a V (h _) main J C b k cs hb hr hL⟩
def Ends (P:Program)(fn:Func)(R:Out->View->Prop):Ex->Act->View->Prop
 | .normal,a,V| .ret,a,V=>a.defers=[]/\∃v,aO P V (results fn a.tmps) (λx V'=>x=v/\V'=V) (λ_ _=>False)/\R (.ret v) V
 | .panic ch,a,V=>a.defers=[]/\R (.panic ch) V
 |_,_,_=>False
theorem N8{lv:Bool}{P:Program}{f:FuncId}{fn:Func}{c:Code}{args:Array Value}{kd:CallKind}{V:View}{R:Out->View->Prop}(hk:kd≠ .early)(hf:P.funcs[f]?=some fn)(hb:fn.body=some c)
  (h:WP lv P none c (Ends P fn R) {tmps:=args++TA (fn.ntmps-args.size) undef,defers:=[]} V):Body lv P f args kd V R:=by
 intro main J C cs hR;let b:Frame:={(default:Frame)with fn:=f,kind:=kd,roundOf:=none};have ub:Frame.enter P f args kd=on b {tmps:=args++TA (fn.ntmps-args.size) undef,defers:=[]} [.code c]:=by
  simp[Frame.enter,on,hf,hb,b]
 rw[ub];refine h main J C b [] cs hk rfl λe a' V' q=> ?_;cases e with
 |normal=>
  obtain⟨hd,v,hs,hr⟩:=q;exact C.idle rfl (λw=>CZ rfl) (hR _ _ _ hr ⟨rfl,hd,rfl,fn,hf,rfl,hs⟩)
 |ret=>
  obtain⟨hd,v,hs,hr⟩:=q;intro k;exact C.idle rfl (λw=>C0 rfl) (hR _ _ _ hr ⟨rfl,hd,rfl,fn,hf,rfl,hs⟩)
 |panic ch=>
  obtain⟨hd,hr⟩:=q;intro todo _;exact hR _ _ _ hr ⟨rfl,hd,rfl,fn,hf,rfl⟩
 |exit id=>exact q.elim
 |goto l=>exact q.elim
open Go.Conc
inductive End where
 |exact
 |shut
 |opn (k:Nat)
 deriving DecidableEq
inductive AV where
 |val (x:Value)
 |agg (l:List AV)
 |aK (l:List AV)
 |sl (n:Nat) (l:List AV) (e:End)
 |bJ (id off n cap:Nat)
 |rp (l:List AV)
 |op (id off:Nat)
 |fn (f:Fn) (first cS:List AV)
 |c_ (t:TypeId) (x:AV)
 |mp (id:Nat)
structure Env where
 I:cz
 n:Nat
 blk:Nat->Nat
 room:Nat->Nat->Option Addr×Nat
 fK:Nat->Nat
 fr:Nat->Option Obj
 main:Bool
structure Env.Le (E E':Env):Prop where
 I:∀b o v,E.I b o=some v->E'.I b o=some v
 n:E.n<=E'.n
 blk:∀k,k<E.n->E'.blk k=E.blk k
 fK:∀k,k<E.n->E.fK k<=E'.fK k
 room:∀k v,k<E.n->v<=E.fK k->E'.room k v=E.room k v
 fr:E'.fr=E.fr
 main:E'.main=E.main
theorem Env.Le.refl(E:Env):E.Le E:=⟨λ_ _ _ h=>h,SO _,λ_ _=>rfl,λ_ _=>SO _,λ_ _ _ _=>rfl,rfl,rfl⟩
theorem Env.Le.trans{E E' bR:Env}(h:E.Le E')(k:E'.Le bR):E.Le bR:=
 ⟨λb o v e=>k.I b o v (h.I b o v e),Ur h.n k.n,λi hi=>(k.blk i (Ta hi h.n)).trans (h.blk i hi),λi hi=>Ur (h.fK i hi) (k.fK i (Ta hi h.n)),
  λi v hi hv=>(k.room i v (Ta hi h.n) (Ur hv (h.fK i hi))).trans (h.room i v hi hv),k.fr.trans h.fr,k.main.trans h.main⟩
def pE (E:Env)(e:End)(a:Option Addr)(n cap:Nat):Prop:=match e with
 | .exact=>cap=n
 | .shut=>True
 | .opn k=>k<E.n/\n<=E.fK k/\E.room k n=(a,cap)
inductive ap (E:Env):AV->Value->Prop
 |val (x:Value):ap E (.val x) x
 |agg {l:List AV} {cs:Array Value} (hs:cs.size=l.length) (h:∀(i:Nat) a,l[i]?=some a->ap E a (cs.getD i undef)):ap E (.agg l) (.agg cs)
 |aK {l:List AV} {cs:Array Value} (hs:cs.size=l.length) (h:∀(i:Nat) a,l[i]?=some a->ap E a (cs.getD i undef)):ap E (.aK l) (.tuple cs)
 |sl {n:Nat} {l:List AV} {e:End} (b o cap:Nat) (f:Nat->Value) (hc:n<=cap) (he:pE E e (some ⟨b,o,none⟩) n cap)
   (h1:∀i,i<l.length->E.I b (o+i)=some (f i)) (h2:∀(i:Nat) x,l[i]?=some x->ap E x (f i)):ap E (.sl n l e) (.slice (some ⟨b,o,none⟩) n cap)
 |nil {e:End} {a:Option Addr} (he:pE E e a 0 0):ap E (.sl 0 [] e) (.slice a 0 0)
 |bJ {id off n cap cap':Nat} (hi:id<E.n) (ec:n<=cap'/\(n<=cap->cap=cap')/\(cap<n->cap'<=(E.room id 0).2)):ap E (.bJ id off n cap) (.slice (some ⟨E.blk id,off,none⟩) n cap')
 |rp {l:List AV} (b o:Nat) (f:Nat->Value) (h1:∀i,i<l.length->E.I b (o+i)=some (f i)) (h2:∀(i:Nat) x,l[i]?=some x->ap E x (f i)):ap E (.rp l) (.pointer (some ⟨b,o,none⟩))
 |op {id off:Nat} (hi:id<E.n):ap E (.op id off) (.pointer (some ⟨E.blk id,off,none⟩))
 |fn {f:Fn} {first cS:List AV} {fa ca:Array Value} (dW:fa.size=first.length) (fA:ca.size=cS.length) (h1:∀(i:Nat) a,first[i]?=some a->ap E a (fa.getD i undef)) (h2:∀(i:Nat) a,cS[i]?=some a->ap E a (ca.getD i undef)):ap E (.fn f first cS) (.func f fa ca)
 |c_ {t:TypeId} {x:AV} {v:Value} (h:ap E x v):ap E (.c_ t x) (.iface t v)
 |mp {id:Nat} (hi:id<E.n):ap E (.mp id) (.map (some (E.blk id)))
theorem pE.mono{E E':Env}(h:E.Le E'){e:End}{a:Option Addr}{n cap:Nat}(k:pE E e a n cap):pE E' e a n cap:=by
 cases e with
 |exact=>exact k
 |shut=>trivial
 |opn i=>exact⟨Ta k.1 h.n,Ur k.2.1 (h.fK i k.1),by rw[h.room i n k.1 k.2.1];exact k.2.2⟩
theorem ap.mono{E E':Env}(h:E.Le E'){a:AV}{v:Value}(d:ap E a v):ap E' a v:=by
 induction d with
 |val x=>exact .val x
 |agg hs _ ih=>exact .agg hs ih
 |aK hs _ ih=>exact .aK hs ih
 |sl b o cap f hc he h1 _ ih=>exact .sl b o cap f hc (he.mono h) (λi hi=>h.I _ _ _ (h1 i hi)) ih
 |nil he=>exact .nil (he.mono h)
 |bJ hi ec=>rw[<- h.blk _ hi];exact .bJ (Ta hi h.n) ⟨ec.1,ec.2.1,λe=>by rw[h.room _ 0 hi (Xr _)];exact ec.2.2 e⟩
 |rp b o f h1 _ ih=>exact .rp b o f (λi hi=>h.I _ _ _ (h1 i hi)) ih
 |op hi=>rw[<- h.blk _ hi];exact .op (Ta hi h.n)
 |fn dW fA _ _ mT ln=>exact .fn dW fA mT ln
 |c_ _ ih=>exact .c_ ih
 |mp hi=>rw[<- h.blk _ hi];exact .mp (Ta hi h.n)
def AV.leaf:AV->Bool
 | .agg _| .aK _=>false
 | .val x=>x.one
 |_=>true
inductive aa where
 |cells (l:List AV) (elem:TypeId)
 |part (p:Nat) (l:List AV) (elem:TypeId)
 |own (sz:Nat) (l:List AV) (elem:TypeId)
 |tail (n sz:Nat) (elem:TypeId)
 |obj (x:Obj)
 |iter (m since:Nat) (seen:Array Nat) (th:Nat)
 |loop (r:Nat) (st:LoopState) (pend:Option Code) (fn:FuncId) (T:List (Nat×AV)) (nt:Nat) (ps:Array Tmp) (bM body:Code) (df:Nat)
 |gone
 |main
def look:List (Nat×AV)->Nat->Option AV
 |[],_=>none
 |(k,a)::l,t=>if k=t then some a else look l t
def cj (E:Env)(T:List (Nat×AV))(tmps:Array Value):Prop:=∀t a,look T t=some a->t<tmps.size/\ap E a (tmps.getD t undef)
theorem cj.mono{E E':Env}(h:E.Le E'){T:List (Nat×AV)}{tmps:Array Value}(k:cj E T tmps):cj E' T tmps:=λt a e=>⟨(k t a e).1,(k t a e).2.mono h⟩
theorem cj.put{E:Env}{T:List (Nat×AV)}{tmps:Array Value}(k:cj E T tmps){d:Nat}(hd:d<tmps.size){a:AV}{v:Value}(hv:ap E a v):cj E ((d,a)::T) (tmps.setIfInBounds d v):=by
 intro t x e;simp only[look]at e;by_cases h:d=t
 ·subst h;rw[if_pos rfl]at e;cases e;exact⟨by simpa using hd,by simpa[SH,S7 hd]using hv⟩
 ·rw[if_neg h]at e;have:=k t x e;exact⟨by simpa using this.1,by simpa[SH,SR h]using this.2⟩
def cL (E:Env)(l:List AV)(cs:Array Value):Prop:=cs.size=l.length/\∀(i:Nat) a,l[i]?=some a->ap E a (cs.getD i undef)
theorem cL.mono{E E':Env}(h:E.Le E'){l:List AV}{cs:Array Value}(d:cL E l cs):cL E' l cs:=⟨d.1,λi a e=>(d.2 i a e).mono h⟩
def j5 (E:Env)(l:List AV)(cs:Array Value):Prop:=l.length<=cs.size/\∀(i:Nat) a,l[i]?=some a->ap E a (cs.getD i undef)
theorem j5.mono{E E':Env}(h:E.Le E'){l:List AV}{cs:Array Value}(d:j5 E l cs):j5 E' l cs:=⟨d.1,λi a e=>(d.2 i a e).mono h⟩
theorem cL.p{E:Env}{l:List AV}{cs:Array Value}(d:cL E l cs):j5 E l cs:=⟨VW d.1.symm,d.2⟩
def bN (E:Env)(k:Nat):aa->Option Nat
 | .tail n _ _=>if(E.room k n).2=n then none else(E.room k n).1.map (·.block)
 | .gone| .main=>none
 |_=>some (E.blk k)
def fX (E:Env)(V:View)(k:Nat):aa->Prop
 | .cells l elem=>(∃cs,V.own (E.blk k)=some (.cells cs elem (0,0))/\cL E l cs)/\∀o,V.ab (E.blk k) o=none
 | .part p l elem=>(∃cs,V.own (E.blk k)=some (.cells cs elem (0,0))/\j5 E l cs/\∀o,o<p->V.ab (E.blk k) o=cs[o]?)/\∀o,p<=o->V.ab (E.blk k) o=none
 | .own sz l elem=>(∃cs,V.own (E.blk k)=some (.cells cs elem (0,0))/\j5 E l cs/\cs.size=(E.room k 0).2* sz)/\∀o,V.ab (E.blk k) o=none
 | .tail n sz elem=>E.fK k=n/\((E.room k n).2=n\/∃b cap cs,E.room k n=(some ⟨b,0,none⟩,cap)/\V.own b=some (.cells cs elem (0,0))/\cs.size=cap* sz/\n<cap/\∀o,n* sz<=o->V.ab b o=none)
 | .obj x=>V.own (E.blk k)=some x/\x.uw=false/\x.isChan=false/\∀o,V.ab (E.blk k) o=none
 | .iter m since seen th=>m<E.n/\V.own (E.blk k)=some (.mapIter (some (E.blk m)) since seen th)/\∀o,V.ab (E.blk k) o=none
 | .loop r st pend fn T nt ps bM body df=>(∃tmps,V.own (E.blk k)=some (.loop {state:=st,pending:=pend,fn,tmps,params:=ps,assign:=bM,body,defers:=E.blk df})/\tmps.size=nt/\cj E T tmps)/\df<E.n/\(∀o,V.ab (E.blk k) o=none)/\E.blk k=r
 | .gone=>True
 | .main=>E.main=true
structure Conc (E:Env)(V:View)(H:List aa):Prop where
 I:E.I=V.ab
 n:E.n=H.length
 obj:∀k x,H[k]?=some x->fX E V k x
 inj:∀i j x y b,H[i]?=some x->H[j]?=some y->bN E i x=some b->bN E j y=some b->i=j
 group:∀g,V.role.group=some g->V.own g≠none/\(∀o,V.ab g o=none)/\∀(k:Nat) x,H[k]?=some x->bN E k x≠some g
 chan:∀c,V.role.chan=some c->V.own c≠none/\(∀o,V.ab c o=none)/\∀(k:Nat) x,H[k]?=some x->bN E k x≠some c
 top:E.main=true->V.role= .plain/\V.deaf=0
 fr:∀b y,E.fr b=some y->V.own b=some y/\(∀o,V.ab b o=none)/\∀(k:Nat) x,H[k]?=some x->bN E k x≠some b
structure AS where
 T:List (Nat×AV)
 H:List aa
def AS.Le (s s':AS):Prop:=(∀t a,look s'.T t=some a->look s.T t=some a)/\s'.H=s.H
def AV.of:Value->AV
 | .agg cs=> .agg (cs.toList.map λ| .slice none 0 0=> .sl 0 [] .exact|v=> .val v)
 | .slice none 0 0=> .sl 0 [] .exact
 |v=> .val v
def AV.py:Value->AV
 | .slice none 0 0=> .sl 0 [] .exact
 |v=> .val v
theorem Ic(E:Env)(v:Value):ap E (AV.py v) v:=by
 unfold AV.py;split
 ·exact .nil rfl
 ·exact .val _
theorem sv(E:Env)(v:Value):ap E (AV.of v) v:=by
 unfold AV.of;split
 ·rename_i cs;refine .agg (by simp) λi a h=> ?_;rw[Ti]at h;obtain⟨x,hx,rfl⟩:=Tl.1 h;have:cs[i]?=some x:=by simpa using hx
  rw[SH,this];exact Ic E x
 ·exact .nil rfl
 ·exact .val _
def AS.ev (s:AS):Operand->Option AV
 | .tmp t=>look s.T t
 | .const v=>some (AV.of v)
 | .func f=>some (.fn (.func f) [] [])
 | .global _=>none
theorem ap.ev{E:Env}{s:AS}{a:Act}(k:cj E s.T a.tmps){x:Operand}{av:AV}(h:s.ev x=some av):ap E av (a.eval x):=by
 cases x with
 |tmp t=>exact(k t av h).2
 |const v=>cases h;exact sv E v
 |func f=>cases h;exact .fn rfl rfl (by simp) (by simp)
 |global g=>cases h
theorem fX.A7{E:Env}{V:View}{k:Nat}{x:aa}(h:fX E V k x){b:Nat}(hb:bN E k x=some b):∃y,V.own b=some y:=by
 cases x with
 |cells l el=>cases hb;obtain⟨⟨cs,h1,_⟩,_⟩:=h;exact⟨_,h1⟩
 |part p l el=>cases hb;obtain⟨⟨cs,h1,_⟩,_⟩:=h;exact⟨_,h1⟩
 |own p l el=>cases hb;obtain⟨⟨cs,h1,_⟩,_⟩:=h;exact⟨_,h1⟩
 |tail n sz el=>
  obtain⟨hv,h|⟨b',cap,cs,h1,h2,h3,h4,h5⟩⟩:=h
  ·simp only[bN,h,if_true]at hb;cases hb
  ·simp only[bN,h1]at hb;rw[if_neg (by omega)]at hb;cases hb;exact⟨_,h2⟩
 |obj x=>cases hb;exact⟨_,h.1⟩
 |iter m since seen th=>cases hb;exact⟨_,h.2.1⟩
 |loop=>cases hb;obtain⟨⟨tmps,h1,_⟩,_⟩:=h;exact⟨_,h1⟩
 |gone=>cases hb
 |main=>cases hb
theorem N5{E E':Env}(hl:E.Le E'){k:Nat}(hk:k<E.n){x:aa}{V:View}(h:fX E V k x):bN E' k x=bN E k x:=by
 cases x with
 |tail n sz el=>simp only[bN];rw[hl.room k n hk (VW h.1.symm)]
 |gone=>rfl
 |main=>rfl
 |_=>simp only[bN,hl.blk k hk]
theorem fX.mono{E E':Env}{V V':View}{k:Nat}{x:aa}(h:fX E V k x)(hl:E.Le E')(hk:k<E.n)(zE:E'.fK k=E.fK k)
  (ho:∀b y,bN E k x=some b->V.own b=some y->V'.own b=some y) (hi:∀b,bN E k x=some b->∀o,V'.ab b o=V.ab b o):fX E' V' k x:=by
 cases x with
 |cells l el=>
  obtain⟨⟨cs,h1,h2⟩,h3⟩:=h;simp only[fX,hl.blk k hk];exact⟨⟨cs,ho _ _ rfl h1,h2.mono hl⟩,λo=>(hi _ rfl o).trans (h3 o)⟩
 |part p l el=>
  obtain⟨⟨cs,h1,h2,h4⟩,h3⟩:=h;simp only[fX,hl.blk k hk];exact⟨⟨cs,ho _ _ rfl h1,h2.mono hl,λo hp=>(hi _ rfl o).trans (h4 o hp)⟩,λo hp=>(hi _ rfl o).trans (h3 o hp)⟩
 |own sz l el=>
  obtain⟨⟨cs,h1,h2,h4⟩,h3⟩:=h;simp only[fX,hl.blk k hk,hl.room k 0 hk (Xr _)];exact⟨⟨cs,ho _ _ rfl h1,h2.mono hl,h4⟩,λo=>(hi _ rfl o).trans (h3 o)⟩
 |tail n sz el=>
  obtain⟨hv,h⟩:=h;simp only[fX,zE,hl.room k n hk (VW hv.symm)];refine⟨hv, ?_⟩;rcases h with h|⟨b',cap,cs,h1,h2,h3,h4,h5⟩
  ·exact .inl h
  ·have hb:bN E k (.tail n sz el)=some b':=(by simp only[bN,h1];rw[if_neg (by omega)];rfl);exact .inr ⟨b',cap,cs,h1,ho _ _ hb h2,h3,h4,λo hm=>(hi _ hb o).trans (h5 o hm)⟩
 |obj x=>
  obtain⟨h1,h2,h4,h3⟩:=h;simp only[fX,hl.blk k hk];exact⟨ho _ _ rfl h1,h2,h4,λo=>(hi _ rfl o).trans (h3 o)⟩
 |iter m since seen th=>
  obtain⟨h0,h1,h2⟩:=h;simp only[fX,hl.blk k hk,hl.blk m h0];exact⟨Ta h0 hl.n,ho _ _ rfl h1,λo=>(hi _ rfl o).trans (h2 o)⟩
 |loop r st pend fn T nt ps bM body df=>
  obtain⟨⟨tmps,h1,h2,h3⟩,h4,h5,h6⟩:=h;simp only[fX,hl.blk k hk,hl.blk df h4];exact⟨⟨tmps,ho _ _ rfl h1,h2,h3.mono hl⟩,Ta h4 hl.n,λo=>(hi _ rfl o).trans (h5 o),h6⟩
 |gone=>trivial
 |main=>exact hl.main.trans h
theorem Conc.i_{E E':Env}{V V':View}{H H':List aa}(hc:Conc E V H)(k:Nat)(x':aa)(hle:E.Le E')(hI:E'.I=V'.ab)(hn:E'.n=H'.length)
  (hH:∀(j:Nat) y,H'[j]?=some y->(j=k/\y=x')\/(j≠k/\H[j]?=some y)) (hr:V'.role=V.role)
  (zE:∀j,j≠k->j<E.n->E'.fK j=E.fK j)
  (ho:∀b y,(∀x,H[k]?=some x->bN E k x≠some b)->V.own b=some y->V'.own b=some y/\∀o,V'.ab b o=V.ab b o)
  (hx:fX E' V' k x') (hb:∀b,bN E' k x'=some b->(∃x,H[k]?=some x/\bN E k x=some b)\/V.own b=none) (bz:V'.deaf=V.deaf:=by rfl):Conc E' V' H':=by
 have hlt:∀(j:Nat) y,H[j]?=some y->j<E.n:=λj y h=>by rw[hc.n];exact(SM.1 h).1
 have cP:∀(j:Nat) y b,H[j]?=some y->bN E' j y=some b->bN E j y=some b:=λj y b h e=>by rw[<- N5 hle (hlt j y h) (hc.obj j y h)];exact e
 have Rj:∀(j:Nat) y b,j≠k->H[j]?=some y->bN E j y=some b->∀x,H[k]?=some x->bN E k x≠some b:=λj y b hj h1 h2 x h3 h4=>hj (hc.inj j k y x b h1 h3 h2 h4);have hg:∀(j:Nat) y,H'[j]?=some y->∀g,V.own g≠none->(∀(i:Nat) x,H[i]?=some x->bN E i x≠some g)->bN E' j y≠some g:=λj y h g pj gk e=>by
  rcases hH j y h with⟨rfl,rfl⟩|⟨hj,h⟩
  ·rcases hb g e with⟨x,h1,h2⟩|h2
   ·exact gk _ x h1 h2
   ·exact pj h2
  ·exact gk j y h (cP j y g h e)
 have hk:∀g,V.own g≠none->(∀(i:Nat) x,H[i]?=some x->bN E i x≠some g)->V'.own g≠none/\∀o,V'.ab g o=V.ab g o:=λg pj gk=>by
  cases e:V.own g with
  |none=>exact absurd e pj
  |some y=>
   have:=ho g y (λx hx=>gk k x hx) e;exact⟨by rw[this.1];simp,this.2⟩
 refine⟨hI,hn,λj y h=> ?_,λi j y z b h1 h2 e1 e2=> ?_,λg QC=> ?_,λc fi=> ?_,λhm=>(by rw[hr,bz];exact hc.top (by rw[<- hle.main];exact hm)),λb y jG=> ?_⟩
 ·rcases hH j y h with⟨rfl,rfl⟩|⟨hj,h⟩
  ·exact hx
  ·have lJ:=hc.obj j y h;refine lJ.mono hle (hlt j y h) (zE j hj (hlt j y h)) (λb z kF hz=> ?_) (λb kF o=> ?_)
   ·exact(ho b z (Rj j y b hj h kF) hz).1
   ·obtain⟨z,hz⟩:=lJ.A7 kF;exact(ho b z (Rj j y b hj h kF) hz).2 o
 ·have new:∀(j:Nat) y,j≠k->H[j]?=some y->bN E' j y=some b->bN E' k x'≠some b:=λj y hj h e e'=>by
   have e:=cP j y b h e;rcases hb b e' with⟨x,Cq,hx2⟩|h1
   ·exact hj (hc.inj j k y x b h Cq e hx2)
   ·obtain⟨q,hq⟩:=(hc.obj j y h).A7 e;rw[h1]at hq;cases hq
  rcases hH i y h1 with⟨rfl,rfl⟩|⟨hi,h1⟩<;>rcases hH j z h2 with⟨rfl,rfl⟩|⟨hj,h2⟩
  ·rfl
  ·exact absurd e1 (new j z hj h2 e2)
  ·exact absurd e2 (new i y hi h1 e1)
  ·exact hc.inj i j y z b h1 h2 (cP i y b h1 e1) (cP j z b h2 e2)
 ·rw[hr]at QC;obtain⟨h0,h1,h2⟩:=hc.group g QC;exact⟨(hk g h0 h2).1,λo=>((hk g h0 h2).2 o).trans (h1 o),λj y h=>hg j y h g h0 h2⟩
 ·rw[hr]at fi;obtain⟨h0,h1,h2⟩:=hc.chan c fi;exact⟨(hk c h0 h2).1,λo=>((hk c h0 h2).2 o).trans (h1 o),λj y h=>hg j y h c h0 h2⟩
 ·rw[hle.fr]at jG;obtain⟨h0,h1,h2⟩:=hc.fr b y jG;have Ep:V.own b≠none:=by rw[h0];simp
  exact⟨(ho b y (λx hx=>h2 k x hx) h0).1,λo=>((hk b Ep h2).2 o).trans (h1 o),λj z h=>hg j z h b Ep h2⟩
theorem lS{α:Type}{H:List α}{k:Nat}{x':α}:∀(j:Nat) y,(H.set k x')[j]?=some y->(j=k/\y=x')\/(j≠k/\H[j]?=some y):=λj y h=>by
 by_cases hj:j=k
 ·subst hj;rw[List.getElem?_set_self']at h;cases e:H[j]?with
  |none=>rw[e]at h;cases h
  |some z=>rw[e]at h;exact .inl ⟨rfl,by simpa using h.symm⟩
 ·rw[TP (Ne.symm hj)]at h;exact .inr ⟨hj,h⟩
theorem CG{α:Type}{H:List α}{x':α}:∀(j:Nat) y,(H++[x'])[j]?=some y->(j=H.length/\y=x')\/(j≠H.length/\H[j]?=some y):=λj y h=>by
 by_cases hk:j<H.length
 ·rw[SY hk]at h;exact .inr ⟨by omega,h⟩
 ·rw[Tg (by omega)]at h;have aI:j-H.length=0:=by
   have:=(SM.1 h).1;simpa using this
  rw[aI]at h;exact .inl ⟨by omega,by simpa using h.symm⟩
theorem Conc.jo{E:Env}{V:View}{H:List aa}(hc:Conc E V H){k:Nat}{x:aa}(hk:H[k]?=some x){b:Nat}(hb:bN E k x=some b):V.role.group≠some b/\V.role.chan≠some b:=
 ⟨λe=>(hc.group b e).2.2 k x hk hb,λe=>(hc.chan b e).2.2 k x hk hb⟩
theorem Conc.R5{E:Env}{V:View}{H:List aa}(hc:Conc E V H){b o:Nat}{v:Value}(h:E.I b o=some v):V.role.group≠some b/\V.role.chan≠some b:=
 ⟨λe=>(by have:=(hc.group b e).2.1 o;rw[<- hc.I,h]at this;cases this),λe=>(by have:=(hc.chan b e).2.1 o;rw[<- hc.I,h]at this;cases this)⟩
open Go.Conc
def AS.put (s:AS)(dst:Option Nat)(av:AV):AS:=match dst with
 |some d=>⟨(d,av)::s.T,s.H⟩
 |none=>s
theorem cj.hO{E:Env}{s:AS}{a:Act}(k:cj E s.T a.tmps){dst:Option Nat}(hd:∀d,dst=some d->d<a.tmps.size){av:AV}{v:Value}(hv:ap E av v):cj E (s.put dst av).T (a.put dst v).tmps:=by
 cases dst with
 |none=>exact k
 |some d=>exact cj.put k (hd d rfl) hv
theorem fB(s:AS)(dst:Option Nat)(av:AV):(s.put dst av).H=s.H:=by cases dst<;>rfl
theorem eD(a:Act)(dst:Option Nat)(v:Value):(a.put dst v).tmps.size=a.tmps.size:=by cases dst<;>simp[Xl]
theorem put_defers(a:Act)(dst:Option Nat)(v:Value):(a.put dst v).defers=a.defers:=by cases dst<;>rfl
structure Kept (E E':Env)(V V':View)(a a':Act):Prop where
 le:E.Le E'
 size:a'.tmps.size=a.tmps.size
 defers:a'.defers=a.defers
 role:V'.role=V.role
 deaf:V'.deaf=V.deaf
def Step (lv:Bool)(P:Program)(r:Option Nat)(o:Oper)(s:AS)(next:AS->Prop)(bad:AV->AS->Prop):Prop:=
 ∀(E:Env)(V:View)(a:Act)(N:Act->View->Prop)(Q:Ex->Act->View->Prop),Conc E V s.H->cj E s.T a.tmps->(∀d,o.dst=some d->d<a.tmps.size)->(r=none\/ml o.op=false)->
  (∀E' V' a' s',Kept E E' V V' a a'->Conc E' V' s'.H->cj E' s'.T a'.tmps->next s'->N a' V')->
  (∀E' V' s' pv v,Kept E E' V V' a a->Conc E' V' s'.H->cj E' s'.T a.tmps->ap E' pv v->bad pv s'->Q (.panic [{v,recovered:=false}]) a V')->wD lv P r o a V N Q
def dC (lv:Bool)(P:Program)(r:Option Nat)(o:Oper)(s:AS)(av:AV):Prop:=
 ∀(E:Env)(V:View)(a:Act)(N:Act->View->Prop)(Q:Ex->Act->View->Prop),Conc E V s.H->cj E s.T a.tmps->(r=none\/ml o.op=false)->
  (∀E' V' v,E.Le E'->V'.role=V.role->V'.deaf=V.deaf->Conc E' V' s.H->ap E' av v->N (a.put o.dst v) V')->wD lv P r o a V N Q
section
variable {lv:Bool}{P:Program}{r:Option Nat}{o:Oper}{s:AS}{next:AS->Prop}{bad:AV->AS->Prop}
theorem Step.mono{next':AS->Prop}{N0:AV->AS->Prop}(h:Step lv P r o s next bad)(hn:∀s,next s->next' s)(hb:∀c s,bad c s->N0 c s):Step lv P r o s next' N0:=
 λE V a N Q h1 h2 h3 h4 h5 h6=>h E V a N Q h1 h2 h3 h4 (λE' V' a' s' x1 x2 x3 x4=>h5 E' V' a' s' x1 x2 x3 (hn _ x4)) (λE' V' s' pv v x1 x2 x3 x4 x5=>h6 E' V' s' pv v x1 x2 x3 x4 (hb _ _ x5))
theorem iX{av:AV}(h:∀(E:Env)(V:View)(a:Act),Conc E V s.H->cj E s.T a.tmps->aO P V (execOp a.eval o) (λnx V'=>V'=V/\∃v,nx= .value v/\ap E av v) (λ_ _=>False)):dC lv P r o s av:=by
 intro E V a N Q hc ht bz h1;refine⟨bz,(h E V a hc ht).mono (λnx V' hx=> ?_) (λ_ _ hx=>hx.elim)⟩;obtain⟨rfl,v,rfl,hv⟩:=hx;exact h1 E V' v (Env.Le.refl E) rfl rfl hc hv
theorem rL{av:AV}(h:∀(E:Env)(V:View)(a:Act),Conc E V s.H->cj E s.T a.tmps->∃v,execOp a.eval o= .pure (.value v)/\ap E av v):dC lv P r o s av:=
 iX (λE V a hc ht=>by
  obtain⟨v,h1,h2⟩:=h E V a hc ht;rw[h1];exact cK ⟨rfl,v,rfl,h2⟩)
theorem dC.step{av:AV}(h:dC lv P r o s av)(hn:next (s.put o.dst av)):Step lv P r o s next bad:=by
 intro E V a N Q hc ht hd bz h1 _;refine h E V a N Q hc ht bz λE' V' v hle b8 fl bc hv=> ?_;exact h1 E' V' (a.put o.dst v) (s.put o.dst av) ⟨hle,eD _ _ _,put_defers _ _ _,b8,fl⟩ (by rw[fB];exact bc) ((ht.mono hle).hO hd hv) hn
theorem abh{x:Operand}{av:AV}(ho:o.op= .move x\/o.op= .assign x)(hx:s.ev x=some av):dC lv P r o s (av):=
 rL (λE V a hc ht=>⟨a.eval x,by unfold execOp;rcases ho with ho|ho<;>rw[ho]<;>rfl,ap.ev ht hx⟩)
theorem aoi{c x y:Operand}{b:Bool}{av aw:AV}(ho:o.op= .pick c x y)(hc:s.ev c=some (.val (.bool b)))(hx:s.ev x=some av)(hy:s.ev y=some aw):dC lv P r o s ((if b then av else aw)):=
 rL (λE V a jg ht=>by
  have h1:=ap.ev ht hc;generalize hv:a.eval c=v at h1;cases h1;refine⟨if b then a.eval x else a.eval y,by unfold execOp;rw[ho];simp only[hv];cases b<;>rfl, ?_⟩;cases b
  ·exact ap.ev ht hy
  ·exact ap.ev ht hx)
def l8 (op:BinOp)(k:IntKind)(x y:Int):Option Value:=match op with
 | .add=>some (.int k (k.wrap (x+y)))
 | .sub=>some (.int k (k.wrap (x-y)))
 | .mul=>some (.int k (k.wrap (x* y)))
 | .eql=>some (.bool (x==y))
 | .neq=>some (.bool (x !=y))
 | .lss=>some (.bool (x<y))
 | .leq=>some (.bool (x<=y))
 | .gtr=>some (.bool (x>y))
 | .geq=>some (.bool (x>=y))
 | .and=>some (.int k (k.wrap (T4 k.bits x&&&T4 k.bits y).toNat))
 | .or=>some (.int k (k.wrap (T4 k.bits x|||T4 k.bits y).toNat))
 | .xor=>some (.int k (k.wrap (T4 k.bits x^^^T4 k.bits y).toNat))
 | .quo=>if y=0 then none else some (.int k (k.wrap (x.tdiv y)))
 | .rem=>if y=0 then none else some (.int k (x.tmod y))
 |_=>none
def Ah (op:BinOp)(k:IntKind)(x y:Int):Option Value:=if y<0 then none else match op with
 | .shl=>some (.int k (k.wrap (x* 2^(min y.toNat k.bits))))
 | .shr=>some (.int k (x.fdiv (2^(min y.toNat k.bits))))
 |_=>none
def mU:BinOp->Bool
 | .shl| .shr=>true
 |_=>false
theorem ae7{op:BinOp}{k:IntKind}{x y:Int}{v:Value}{t:TypeId}(h:l8 op k x y=some v):binOp op t (.int k x) (.int k y)= .pure v:=by
 cases op<;>simp only[l8,Te,reduceCtorEq]at h<;>try(subst h;simp[binOp,ZT,Op.intCmp,Op.intBits];rfl)
 ·split at h
  ·cases h
  ·rename_i hy;simp only[Te]at h;subst h;simp[binOp,ZA,hy];rfl
 ·split at h
  ·cases h
  ·rename_i hy;simp only[Te]at h;subst h;simp[binOp,ZA,hy];rfl
theorem apo{op:BinOp}{k j:IntKind}{x y:Int}{v:Value}{t:TypeId}(h:Ah op k x y=some v):binOp op t (.int k x) (.int j y)= .pure v:=by
 unfold Ah at h;split at h
 ·cases h
 ·rename_i hy;cases op<;>simp only[Te,reduceCtorEq]at h
  ·subst h;simp[binOp,ZJ,hy];rfl
  ·subst h;simp[binOp,ZJ,hy];rfl
theorem OY{op:BinOp}{t:TypeId}{x y:Operand}{j k:IntKind}{a b:Int}:eqGuard op t x y (.int j a) (.int k b)= .pure ():=by
 unfold eqGuard;cases op<;>rfl
theorem anS{op:BinOp}{xt yt:TypeId}{x y:Operand}{k:IntKind}{m n:Int}{v:Value}(ho:o.op= .binOp op xt x y yt)(hx:s.ev x=some (.val (.int k m)))(hy:s.ev y=some (.val (.int k n)))(hv:l8 op k m n=some v):dC lv P r o s ((.val v)):=
 rL (λE V a jg ht=>by
  have h1:=ap.ev ht hx;have h2:=ap.ev ht hy;generalize pt:a.eval x=v1 at h1;generalize sU:a.eval y=v2 at h2;cases h1;cases h2;refine⟨v, ?_, .val v⟩;unfold execOp;rw[ho];simp only[pt,sU,OY,ae7 hv];rfl)
theorem aoj{op:BinOp}{xt yt:TypeId}{x y:Operand}{k j:IntKind}{m n:Int}{v:Value}(ho:o.op= .binOp op xt x y yt)(hx:s.ev x=some (.val (.int k m)))(hy:s.ev y=some (.val (.int j n)))(hv:Ah op k m n=some v):dC lv P r o s ((.val v)):=
 rL (λE V a jg ht=>by
  have h1:=ap.ev ht hx;have h2:=ap.ev ht hy;generalize pt:a.eval x=v1 at h1;generalize sU:a.eval y=v2 at h2;cases h1;cases h2;refine⟨v, ?_, .val v⟩;unfold execOp;rw[ho];simp only[pt,sU,OY,apo hv];rfl)
theorem aoh{t:TypeId}{x:Operand}{b:Bool}(ho:o.op= .unOp .not t x)(hx:s.ev x=some (.val (.bool b))):dC lv P r o s ((.val (.bool !b))):=
 rL (λE V a jg ht=>by
  have h1:=ap.ev ht hx;generalize pt:a.eval x=v1 at h1;cases h1;exact⟨_,by unfold execOp;rw[ho];simp only[pt];rfl, .val _⟩)
theorem aoe{t:TypeId}{x:Operand}{k:IntKind}{n:Int}(ho:o.op= .unOp .neg t x)(hx:s.ev x=some (.val (.int k n))):dC lv P r o s (.val (.int k (k.wrap (0-n)))):=
 rL (λE V a jg ht=>by
  have h1:=ap.ev ht hx;generalize pt:a.eval x=v1 at h1;cases h1;exact⟨_,by unfold execOp;rw[ho];simp only[pt];rfl, .val _⟩)
theorem anY{x:Operand}{i:Nat}{l:List AV}{av:AV}(ho:o.op= .extract x i)(hx:s.ev x=some (.aK l))(hi:l[i]?=some av):dC lv P r o s (av):=
 rL (λE V a jg ht=>by
  have h1:=ap.ev ht hx;generalize pt:a.eval x=v1 at h1;cases h1 with
  |aK hs h=>
   rename_i cs;have hlt:i<cs.size:=(by rw[hs];exact(SM.1 hi).1);refine⟨cs[i], ?_, ?_⟩
   ·unfold execOp;rw[ho];simp only[pt,Instr.extract,SJ hlt];rfl
   ·have:=h i av hi;rwa [SH,SJ hlt]at this)
end
theorem add_plain(b o n:Nat):(⟨b,o,none⟩:Addr).add n=⟨b,o+n,none⟩:=by
 unfold ZN;split
 ·rename_i h;subst h;rfl
 ·rfl
def AS.at (s:AS):AV->Option (List AV)
 | .rp l=>some l
 | .op id off=>match s.H[id]?with
  |some (.cells l _)=>some (l.drop off)
  |some (.part _ l _)=>some (l.drop off)
  |some (.own _ l _)=>some (l.drop off)
  |_=>none
 |_=>none
def AV.shift (n:Nat):AV->Option AV
 | .rp l=>if n<=l.length then some (.rp (l.drop n))else none
 | .op id off=>some (.op id (off+n))
 |_=>none
theorem Conc.at{E:Env}{V:View}{s:AS}(hc:Conc E V s.H){p:AV}{v:Value}(hd:ap E p v){l:List AV}(h:s.at p=some l):
  ∃(b o:Nat)(f:Nat->Value),v= .pointer (some ⟨b,o,none⟩)/\(∀i,i<l.length->V.get b (o+i)=some (f i))/\(0<l.length->V.role.group≠some b)/\∀(i:Nat) x,l[i]?=some x->ap E x (f i):=by
 cases hd with
 |rp b o f h1 h2=>
  cases h;exact⟨b,o,f,rfl,λi hi=>by unfold View.get;rw[<- hc.I,h1 i hi],λhp=>(hc.R5 (h1 0 hp)).1,h2⟩
 |op hi=>
  rename_i id off;simp only[AS.at]at h;cases hk:s.H[id]?with
  |none=>rw[hk]at h;cases h
  |some ob=>
   rw[hk]at h;cases ob with
   |cells l' el=>
    cases h;obtain⟨⟨cs,ho,hs,bm⟩,lH⟩:=hc.obj id _ hk;refine⟨E.blk id,off,λi=>cs.getD (off+i) undef,rfl,λi hi=> ?_,λ_=>(hc.jo hk rfl).1,λi x hx=> ?_⟩
    ·unfold View.get;rw[lH,ho];simp only[T8]at hi;have hlt:off+i<cs.size:=(by omega);simp only[SH,SJ hlt,S6]
    ·rw[T9]at hx;exact bm _ _ hx
   |part p l' el=>
    cases h;obtain⟨⟨cs,ho,⟨hs,bm⟩,nJ⟩,lH⟩:=hc.obj id _ hk;refine⟨E.blk id,off,λi=>cs.getD (off+i) undef,rfl,λi hi=> ?_,λ_=>(hc.jo hk rfl).1,λi x hx=> ?_⟩
    ·simp only[T8]at hi;have hlt:off+i<cs.size:=(by omega);unfold View.get;by_cases hp:off+i<p
     ·rw[nJ _ hp];simp only[SH,SJ hlt,S6]
     ·rw[lH _ (by omega),ho];simp only[SH,SJ hlt,S6]
    ·rw[T9]at hx;exact bm _ _ hx
   |own sz l' el=>
    cases h;obtain⟨⟨cs,ho,⟨hs,bm⟩,_⟩,lH⟩:=hc.obj id _ hk;refine⟨E.blk id,off,λi=>cs.getD (off+i) undef,rfl,λi hi=> ?_,λ_=>(hc.jo hk rfl).1,λi x hx=> ?_⟩
    ·simp only[T8]at hi;have hlt:off+i<cs.size:=(by omega);unfold View.get;rw[lH,ho];simp only[SH,SJ hlt,S6]
    ·rw[T9]at hx;exact bm _ _ hx
   |_=>cases h
 |_=>cases h
theorem ap.shift{E:Env}{p q:AV}{v:Value}(hd:ap E p v){n:Nat}(h:p.shift n=some q):∃b o,v= .pointer (some ⟨b,o,none⟩)/\ap E q (.pointer (some ⟨b,o+n,none⟩)):=by
 cases hd with
 |rp b o f h1 h2=>
  simp only[AV.shift]at h;split at h
  ·rename_i hn;cases h;refine⟨b,o,rfl, .rp b (o+n) (λi=>f (n+i)) (λi hi=> ?_) (λi x hx=> ?_)⟩
   ·simp only[T8]at hi;rw[WY];exact h1 _ (by omega)
   ·rw[T9]at hx;exact h2 _ _ hx
  ·cases h
 |op hi=>cases h;exact⟨_,_,rfl, .op hi⟩
 |_=>cases h
section
variable {P:Program}{V:View}{α:Type}{K:α->View->Prop}{Kp:Value->View->Prop}
theorem eE{t:TypeId}{d:TypeDesc}{k:TypeDesc->Sem α}(h:P.underlying t=some d)(hk:aO P V (k d) K Kp):aO P V (underlying t>>=k) K Kp:=by
 unfold underlying;refine az (az (qv (cK ?_)));rw[h];exact aq hk
theorem x6{t:TypeId}{i:TypeInfo}{k:TypeInfo->Sem α}(h:P.info? t=some i)(hk:aO P V (k i) K Kp):aO P V (typeInfo t>>=k) K Kp:=by
 unfold typeInfo;refine az (az (qv (cK ?_)));rw[h];exact aq hk
theorem j3{t:TypeId}{i:TypeInfo}{k:Nat->Sem α}(h:P.info? t=some i)(hk:aO P V (k i.size) K Kp):aO P V (sizeOf t>>=k) K Kp:=by
 refine az ?_;unfold sizeOf;exact x6 h (aq hk)
def TypeDesc.agg:TypeDesc->Bool
 | .struct _| .array _ _=>true
 |_=>false
theorem C2{t:TypeId}{d:TypeDesc}{k:Bool->Sem α}(h:P.underlying t=some d)(hk:aO P V (k (TypeDesc.agg d)) K Kp):aO P V (isAgg t>>=k) K Kp:=by
 refine az ?_;unfold isAgg;refine eE h ?_;cases d<;>exact aq hk
theorem apf{b o:Nat}{v:Value}{k:Value->Sem α}(hg:V.role.group≠some b)(e:V.get b o=some v)(hk:aO P V (k v) K Kp):aO P V (load ⟨b,o,none⟩>>=k) K Kp:=
 az (MC e (.inl hg) (cK hk))
theorem abD{b o:Nat}{f:Nat->Value}{K:Array Value->View->Prop}:∀(n i:Nat)(acc:Array Value),(0<n->V.role.group≠some b)->(∀j,j<n->V.get b (o+(i+j))=some (f (i+j)))->
  K (acc++((SX n).map λj=>f (i+j)).toArray) V->aO P V (loadCellsFrom ⟨b,o,none⟩ i n acc) K Kp
 |0,i,acc,_,_,h=>aq (by simpa using h)
 |n+1,i,acc,hg,he,h=>by
  have h0:=he 0 (by omega);unfold loadCellsFrom;rw[add_plain];refine apf (hg (by omega)) h0 ?_;refine abD n (i+1) _ (λ_=>hg (by omega)) (λj hj=>by have:=he (j+1) (by omega);rwa [show i+(j+1)=i+1+j by omega]at this) ?_;have e:(acc.push (f (i+0))++((SX n).map λj=>f (i+1+j)).toArray)=acc++((SX (n+1)).map λj=>f (i+j)).toArray:=by
   rw[List.range_succ_eq_map];apply Va;simp[XL,WY,Y5 1]
  rw[e];exact h
theorem Ae{b o n:Nat}{f:Nat->Value}(hg:0<n->V.role.group≠some b){K:Array Value->View->Prop}(he:∀j,j<n->V.get b (o+j)=some (f j))(h:K ((SX n).map f).toArray V):aO P V (loadCells ⟨b,o,none⟩ n) K Kp:=
 abD n 0 #[] hg (λj hj=>by simpa using he j hj) (by simpa using h)
end
theorem kV{α β:Type}{x:Option α}{f:α->β}{y:β}(h:x.map f=some y):∃a,x=some a/\f a=y:=Tl.1 h
def Ty (P:Program)(t:TypeId):Option (Nat×Bool):=(P.info? t).bind λi=>(P.underlying t).map λd=>(i.size,TypeDesc.agg d)
theorem Ty.out{P:Program}{t:TypeId}{n:Nat}{g:Bool}(h:Ty P t=some (n,g)):∃i d,P.info? t=some i/\P.underlying t=some d/\i.size=n/\TypeDesc.agg d=g:=by
 unfold Ty at h;obtain⟨i,h1,h2⟩:=Tc.1 h;obtain⟨d,h3,h4⟩:=kV h2;cases h4;exact⟨i,d,h1,h3,rfl,rfl⟩
theorem If{E:Env}{l:List AV}{f:Nat->Value}{n:Nat}(hn:n<=l.length)(h:∀(i:Nat) x,l[i]?=some x->ap E x (f i)):ap E (.agg (l.take n)) (.agg ((SX n).map f).toArray):=by
 refine .agg (by simp;omega) λi x hx=> ?_;rw[TY]at hx;split at hx
 ·rename_i hi;have:=h i x hx;simpa[SH,hi]using this
 ·cases hx
def AV.row:AV->Option (Nat×AV)
 | .sl n l _=>some (n, .rp l)
 | .bJ id off n _=>some (n, .op id off)
 |_=>none
theorem ap.row{E:Env}{a p:AV}{v:Value}{n:Nat}(hd:ap E a v)(h:a.row=some (n,p))(h0:0<n):∃b o cap,v= .slice (some ⟨b,o,none⟩) n cap/\ap E p (.pointer (some ⟨b,o,none⟩)):=by
 cases hd with
 |sl b o cap f hc he h1 h2=>cases h;exact⟨b,o,cap,rfl, .rp b o f h1 h2⟩
 |nil he=>cases h;exact absurd h0 (by simp)
 |bJ hi=>cases h;exact⟨_,_,_,rfl, .op hi⟩
 |_=>cases h
def AV.len:AV->Option Nat
 | .sl n _ _=>some n
 | .bJ _ _ n _=>some n
 |_=>none
theorem ap.len{E:Env}{a:AV}{v:Value}{n:Nat}(hd:ap E a v)(h:a.len=some n):∃ad cap,v= .slice ad n cap:=by
 cases hd with
 |sl b o cap f hc he h1 h2=>cases h;exact⟨_,_,rfl⟩
 |nil he=>cases h;exact⟨_,_,rfl⟩
 |bJ hi=>cases h;exact⟨_,_,rfl⟩
 |_=>cases h
def fw (P:Program)(t:TypeId)(k:Nat):Option Nat:=match P.underlying t with
 |some (.struct fs)=>match fs[k]?with
  |some f=>match P.info? f.type with
   |some i=>if i.size=0 then none else some f.offset
   |none=>none
  |none=>none
 |_=>none
def nW (P:Program)(t:TypeId):Option (Option Nat×Nat):=match P.underlying t with
 |some (.array n e)=>(P.info? e).map λi=>(some n,i.size)
 |some (.slice e)=>(P.info? e).map λi=>(none,i.size)
 |_=>none
inductive yl where
 |slice|map|str|arr (n:Nat)
def ly (P:Program)(t:TypeId):Option yl:=match P.underlying t with
 |some (.slice _)=>some .slice
 |some (.map _ _)=>some .map
 |some .string=>some .str
 |some (.array n _)=>some (.arr n)
 |_=>none
def Hy (P:Program)(t:TypeId)(k:Nat):Option (Nat×Nat×Bool):=match P.underlying t with
 |some (.struct fs)=>match fs[k]?with
  |some f=>(Ty P f.type).map λx=>(f.offset,x.1,x.2)
  |none=>none
 |_=>none
def Hq (P:Program)(t:TypeId):Option (Nat×Nat×Bool):=match P.underlying t with
 |some (.array n e)=>(Ty P e).map λx=>(n,x.1,x.2)
 |_=>none
section
variable {lv:Bool}{P:Program}{r:Option Nat}{o:Oper}{s:AS}{next:AS->Prop}{bad:AV->AS->Prop}
theorem an7{t:TypeId}{x:Operand}{p:AV}{l:List AV}{n:Nat}(ho:o.op= .load t x)(ht:Ty P t=some (n,true))(hx:s.ev x=some p)(hl:s.at p=some l)(hlen:n<=l.length):dC lv P r o s ((.agg (l.take n))):=
 iX (λE V a hc aF=>by
  obtain⟨i,d,h1,h2,rfl,h4⟩:=Ty.out ht;obtain⟨b,off,f,hv,hg,ko,hd⟩:=hc.at (ap.ev aF hx) hl;unfold execOp;rw[ho];simp only[hv];refine az ?_;unfold WU UM;refine az (aq ?_);unfold loadVar;refine C2 h2 ?_;rw[h4];simp only[if_true];refine j3 h1 ?_;refine az (Ae (f:=f) (λh=>ko (by omega)) (λj hj=>hg j (by omega)) ?_);exact aq (aq ⟨rfl,_,rfl,If hlen hd⟩))
theorem an8{t:TypeId}{x:Operand}{p:AV}{l:List AV}{n:Nat}{av:AV}(ho:o.op= .load t x)(ht:Ty P t=some (n,false))(hx:s.ev x=some p)(hl:s.at p=some l)(h0:l[0]?=some av):dC lv P r o s (av):=
 iX (λE V a hc aF=>by
  obtain⟨i,d,h1,h2,rfl,h4⟩:=Ty.out ht;obtain⟨b,off,f,hv,hg,ko,hd⟩:=hc.at (ap.ev aF hx) hl;unfold execOp;rw[ho];simp only[hv];refine az ?_;unfold WU UM;refine az (aq ?_);unfold loadVar;refine C2 h2 ?_;rw[h4];simp only[TC,if_false];have hlen:0<l.length:=(SM.1 h0).1;have ov:=hg 0 hlen;rw[Uv]at ov;exact MC ov (.inl (ko hlen)) (cK (aq ⟨rfl,_,rfl,hd 0 av h0⟩)))
def AV.sure:AV->Bool
 | .rp _| .op _ _=>true
 | .fn (.func _) _ _=>true
 | .fn (.yield _) _ _=>true
 | .c_ _ _=>true
 |_=>false
theorem aof{x:Operand}{p:AV}(ho:o.op= .nilCheck x)(hx:s.ev x=some p)(hp:p.sure=true):dC lv P r o s (p):=
 rL (λE V a hc aF=>by
  have hd:=ap.ev aF hx;refine⟨a.eval x, ?_,hd⟩;unfold execOp;rw[ho];dsimp only;generalize a.eval x=v at hd⊢;cases hd with
  |rp=>rfl
  |op=>rfl
  |c_=>rfl
  |fn dW fA h1 h2=>
   rename_i f _ _ _ _;cases f with
   |func=>rfl
   |yield=>rfl
   |_=>cases hp
  |_=>cases hp)
theorem anZ{t:TypeId}{x:Operand}{k n:Nat}{p q:AV}(ho:o.op= .fieldAddr t x k)(ht:fw P t k=some n)(hx:s.ev x=some p)(hp:p.shift n=some q):dC lv P r o s (q):=
 iX (λE V a hc aF=>by
  obtain⟨b,off,hv,hq⟩:=(ap.ev aF hx).shift hp;unfold fw at ht;split at ht
  ·rename_i fs hu;split at ht
   ·rename_i f hf;split at ht
    ·rename_i i hi;split at ht
     ·cases ht
     ·rename_i hz;cases ht;unfold execOp;rw[ho];simp only[hv];refine az ?_;unfold Instr.fieldAt;refine eE hu ?_;simp only[hf];unfold UM;refine az (aq ?_);unfold fieldPlace;refine az (j3 hi ?_);rw[if_neg hz];refine aq (aq (aq ⟨rfl,_,rfl, ?_⟩));rw[add_plain];exact hq
    ·cases ht
   ·cases ht
  ·cases ht)
theorem an1{t:TypeId}{x ix:Operand}{a p q:AV}{k:IntKind}{i:Int}{n sz:Nat}(ho:o.op= .indexAddr t x ix)(ht:nW P t=some (none,sz))(hx:s.ev x=some a)(ha:a.row=some (n,p))(hi:s.ev ix=some (.val (.int k i)))(h0:0<=i)(h1:i<n)
  (hp:p.shift (i.toNat* sz)=some q):dC lv P r o s (q):=
 iX (λE V ac hc aF=>by
  obtain⟨b,off,cap,hv,zp⟩:=(ap.ev aF hx).row ha (by omega);obtain⟨b',o',hb,hq⟩:=zp.shift hp;cases hb;have hd:=ap.ev aF hi;generalize qj:ac.eval ix=vi at hd;cases hd;unfold nW at ht;split at ht
  ·obtain⟨_,_,h⟩:=kV ht;cases h
  ·rename_i e hu;obtain⟨inf,JY,h⟩:=kV ht;cases h;unfold execOp;rw[ho];simp only[hv,qj];refine az ?_;unfold YR asIntOf;refine az (aq ?_);dsimp only;refine eE hu ?_;refine az (aq ?_);dsimp only;refine eE hu ?_;dsimp only;rw[if_pos ⟨h0,h1⟩];refine j3 JY ?_;refine aq (aq ⟨rfl,_,rfl, ?_⟩);rw[add_plain];exact hq
  ·cases ht)
theorem an2{t:TypeId}{x ix:Operand}{p q:AV}{k:IntKind}{i:Int}{n sz:Nat}(ho:o.op= .indexAddr t x ix)(ht:nW P t=some (some n,sz))(hx:s.ev x=some p)(hi:s.ev ix=some (.val (.int k i)))(h0:0<=i)(h1:i<n)
  (hp:p.shift (i.toNat* sz)=some q):dC lv P r o s (q):=
 iX (λE V ac hc aF=>by
  obtain⟨b,off,hv,hq⟩:=(ap.ev aF hx).shift hp;have hd:=ap.ev aF hi;generalize qj:ac.eval ix=vi at hd;cases hd;unfold nW at ht;split at ht
  ·rename_i m e hu;obtain⟨inf,JY,h⟩:=kV ht;cases h;unfold execOp;rw[ho];simp only[hv,qj];refine az ?_;unfold YR asIntOf;refine az (aq ?_);dsimp only;refine eE hu ?_;dsimp only;unfold UM;refine az (az (aq (aq ?_)));refine eE hu ?_;dsimp only;rw[if_pos ⟨h0,h1⟩];refine j3 JY ?_;refine aq (aq ⟨rfl,_,rfl, ?_⟩);rw[add_plain];exact hq
  ·obtain⟨_,_,h⟩:=kV ht;cases h
  ·cases ht)
theorem abg{c:Call}{x:Operand}{t:TypeId}{a:AV}{n:Nat}(ho:o.op= .call c)(aX:c.callee= .builtin .len)(sV:c.args[0]?=some x)(Ck:c.argTypes[0]?=some t)(ht:ly P t=some .slice)(hx:s.ev x=some a)(ha:a.len=some n):dC lv P r o s (.val (.int .i64 n)):=
 iX (λE V ac hc aF=>by
  obtain⟨ad,cap,hv⟩:=(ap.ev aF hx).len ha;unfold ly at ht;split at ht<;>cases ht;rename_i e hu;unfold execOp;rw[ho];dsimp only;unfold resolve;rw[aX];dsimp only;refine az (aq ?_);unfold invoke builtin;dsimp only;refine az ?_;unfold XB;have e1:(c.args.map ac.eval)[0]?=some (.slice ad n cap):=by simp[sV,hv]
  simp only[Ck,e1];refine eE hu ?_;exact aq (aq ⟨rfl,_,rfl, .val _⟩))
theorem an6{c:Call}{x:Operand}{t:TypeId}{b:ByteArray}(ho:o.op= .call c)(aX:c.callee= .builtin .len)(sV:c.args[0]?=some x)(Ck:c.argTypes[0]?=some t)(ht:ly P t=some .str)(hx:s.ev x=some (.val (.string b))):dC lv P r o s (.val (.int .i64 b.size)):=
 iX (λE V ac hc aF=>by
  have hd:=ap.ev aF hx;generalize hv:ac.eval x=v at hd;cases hd;unfold ly at ht;split at ht<;>cases ht;rename_i hu;unfold execOp;rw[ho];dsimp only;unfold resolve;rw[aX];dsimp only;refine az (aq ?_);unfold invoke builtin;dsimp only;refine az ?_;unfold XB;have e1:(c.args.map ac.eval)[0]?=some (.string b):=by simp[sV,hv]
  simp only[Ck,e1];refine eE hu ?_;exact aq (aq ⟨rfl,_,rfl, .val _⟩))
theorem an5{c:Call}{x:Operand}{t:TypeId}{id:Nat}{es:Array MapEntry}{ck:Nat}(ho:o.op= .call c)(aX:c.callee= .builtin .len)(sV:c.args[0]?=some x)(Ck:c.argTypes[0]?=some t)(ht:ly P t=some .map)(hx:s.ev x=some (.mp id))(hk:s.H[id]?=some (.obj (.map es ck))):dC lv P r o s (.val (.int .i64 es.size)):=
 iX (λE V ac hc aF=>by
  have hd:=ap.ev aF hx;generalize hv:ac.eval x=v at hd;cases hd;obtain⟨h1,h2,h3,h4⟩:=hc.obj id _ hk;unfold ly at ht;split at ht<;>cases ht;rename_i hu;unfold execOp;rw[ho];dsimp only;unfold resolve;rw[aX];dsimp only;refine az (aq ?_);unfold invoke builtin;dsimp only;refine az ?_;unfold XB;have e1:(c.args.map ac.eval)[0]?=some (.map (some (E.blk id))):=by simp[sV,hv]
  simp only[Ck,e1];refine eE hu ?_;refine az (nU h1 h2 h3 (hc.jo hk rfl).2 (cK ?_));exact aq (aq ⟨rfl,_,rfl, .val _⟩))
theorem abF{t:TypeId}{n off:Nat}{g:Bool}{E:Env}{V:View}{l:List AV}{cs:Array Value}{K:Value->View->Prop}{Kp:Value->View->Prop}(ht:Ty P t=some (n,g))(hd:cL E l cs)(hl:off+n<=l.length)(hn:g=false->0<n)
  (h:∀v,(g=true->ap E (.agg ((l.drop off).take n)) v)->(g=false->∀a,l[off]?=some a->ap E a v)->K v V):aO P V (part t cs off) K Kp:=by
 obtain⟨i,d,h1,h2,rfl,h4⟩:=Ty.out ht;unfold part;refine C2 h2 ?_;rw[h4];cases g with
 |true=>
  simp only[if_true];refine j3 h1 (aq (h _ (λ_=> .agg (by have:=hd.1;simp;omega) λj a e=> ?_) (by simp)));rw[TY]at e;split at e
  ·rename_i hj;rw[T9]at e;have:=hd.2 _ _ e;have hlt:off+j<cs.size:=(by rw[hd.1];omega);have ajM:j<(cs.extract off (off+i.size)).size:=(by have:=hd.1;simp;omega);rw[SH,SJ ajM];rw[SH,SJ hlt]at this;simpa using this
  ·cases e
 |false=>
  simp only[TC,if_false];have hlt:off<cs.size:=by have:=hn rfl;rw[hd.1];omega
  rw[SJ hlt];refine aq (h _ (by simp) λ_ a e=> ?_);have:=hd.2 _ _ e;rwa [SH,SJ hlt]at this
def AV.cut (l:List AV)(off n:Nat)(g:Bool):Option AV:=if off+n<=l.length/\(g=false->0<n)then(if g then some (.agg ((l.drop off).take n))else l[off]?)else none
theorem an0{t:TypeId}{x:Operand}{k off n:Nat}{g:Bool}{l:List AV}{av:AV}(ho:o.op= .field t x k)(ht:Hy P t k=some (off,n,g))(hx:s.ev x=some (.agg l))(hv:AV.cut l off n g=some av):dC lv P r o s av:=
 iX (λE V a hc aF=>by
  have hd:=ap.ev aF hx;generalize he:a.eval x=v at hd;cases hd with
  |agg hs h=>
   unfold Hy at ht;split at ht
   ·rename_i fs hu;split at ht
    ·rename_i f hf;obtain⟨⟨n',g'⟩,h1,h2⟩:=kV ht;cases h2;unfold AV.cut at hv;split at hv
     ·rename_i xi;unfold execOp;rw[ho];simp only[he];refine az ?_;unfold Instr.field;refine eE hu ?_;simp only[hf];unfold asAgg;refine az (aq ?_);refine abF h1 ⟨hs,h⟩ xi.1 xi.2 λv h3 h4=>aq ⟨rfl,v,rfl, ?_⟩;cases g' with
      |true=>simp only[if_true,Te]at hv;subst hv;exact h3 rfl
      |false=>simp only[TC,if_false]at hv;exact h4 rfl _ hv
     ·cases hv
    ·cases ht
   ·cases ht)
theorem an4{t:TypeId}{x ix:Operand}{n sz:Nat}{g:Bool}{l:List AV}{av:AV}{k:IntKind}{i:Int}(ho:o.op= .index t x ix)(ht:Hq P t=some (n,sz,g))(hx:s.ev x=some (.agg l))(hi:s.ev ix=some (.val (.int k i)))(h0:0<=i)(h1:i<n)(hv:AV.cut l (i.toNat* sz) sz g=some av):dC lv P r o s av:=
 iX (λE V a hc aF=>by
  have hd:=ap.ev aF hx;generalize he:a.eval x=v at hd;have ou:=ap.ev aF hi;generalize JG:a.eval ix=vi at ou;cases ou;cases hd with
  |agg hs h=>
   unfold Hq at ht;split at ht
   ·rename_i m e hu;obtain⟨⟨n',g'⟩,h2,h3⟩:=kV ht;cases h3;unfold AV.cut at hv;split at hv
    ·rename_i xi;obtain⟨inf,d,q1,q2,q3,q4⟩:=Ty.out h2;unfold execOp;rw[ho];simp only[he,JG];refine az ?_;unfold Y3 asIntOf;refine az (aq ?_);dsimp only;refine eE hu ?_;dsimp only;rw[if_pos ⟨h0,h1⟩];refine j3 q1 ?_;rw[q3];refine abF h2 ⟨hs,h⟩ xi.1 xi.2 λv h4 h5=>aq ⟨rfl,v,rfl, ?_⟩;cases g' with
     |true=>simp only[if_true,Te]at hv;subst hv;exact h4 rfl
     |false=>simp only[TC,if_false]at hv;exact h5 rfl _ hv
    ·cases hv
   ·cases ht)
theorem an3{t:TypeId}{x ix:Operand}{b:ByteArray}{k:IntKind}{i:Int}{c:UInt8}(ho:o.op= .index t x ix)(ht:ly P t=some .str)(hx:s.ev x=some (.val (.string b)))(hi:s.ev ix=some (.val (.int k i)))(h0:0<=i)(h1:b[i.toNat]?=some c):dC lv P r o s (.val (.int .u8 c.toNat)):=
 iX (λE V a hc aF=>by
  have hd:=ap.ev aF hx;generalize he:a.eval x=v at hd;have ou:=ap.ev aF hi;generalize JG:a.eval ix=vi at ou;cases ou;cases hd;unfold ly at ht;split at ht<;>cases ht;rename_i hu;unfold execOp;rw[ho];simp only[he,JG];refine az ?_;unfold Y3 asIntOf;refine az (aq ?_);dsimp only;refine eE hu ?_;dsimp only;rw[if_pos h0,h1];exact aq (aq ⟨rfl,_,rfl, .val _⟩))
theorem OC{E:Env}{s:AS}{a:Act}(k:cj E s.T a.tmps){l:Array Operand}{aD:List AV}(h:l.toList.mapM s.ev=some aD):cL E aD (l.map a.eval):=by
 have key:∀(l:List Operand)(aD:List AV),l.mapM s.ev=some aD->cL E aD (l.map a.eval).toArray:=by
  intro l;induction l with
  |nil=>intro aD h;simp at h;subst h;exact⟨rfl,by simp⟩
  |cons x l ih=>
   intro aD h;simp only[TS,T5,TD,Tc,Te]at h;obtain⟨b,h1,bs,h2,rfl⟩:=h;have:=ih bs h2;refine⟨by have:=this.1;simpa using this,λi c e=> ?_⟩;cases i with
   |zero=>simp at e;subst e;simpa[SH]using ap.ev k h1
   |succ i=>
    simp only[Ut]at e;have:=this.2 i c e;simpa[SH]using this
 have:=key l.toList aD h;have e:l.map a.eval=(l.toList.map a.eval).toArray:=by apply Va;simp
 rw[e];exact this
theorem aoa{f:Fn}{first cS:Array Operand}{fa ca:List AV}(ho:o.op= .makeFunc f first cS)(h1:first.toList.mapM s.ev=some fa)(h2:cS.toList.mapM s.ev=some ca):dC lv P r o s (.fn f fa ca):=
 rL (λE V a hc ht=>by
  have d1:=OC ht h1;have d2:=OC ht h2;exact⟨_,by unfold execOp;rw[ho];rfl, .fn d1.1 d2.1 d1.2 d2.2⟩)
def mm (P:Program)(t:TypeId):Option Bool:=(P.underlying t).map λ| .interface _=>true|_=>false
theorem aob{t:TypeId}{x:Operand}{av:AV}(ho:o.op= .makeInterface t x)(ht:mm P t=some false)(hx:s.ev x=some av):dC lv P r o s (.c_ t av):=
 iX (λE V a hc aF=>by
  obtain⟨d,hu,hd⟩:=kV ht;unfold execOp;rw[ho];dsimp only;refine az ?_;unfold Instr.makeInterface;refine eE hu ?_;split
  ·cases hd
  ·exact aq (aq ⟨rfl,_,rfl, .c_ (ap.ev aF hx)⟩))
def Aw (P:Program)(src dst:TypeId):Option (Option IntKind):=(P.underlying src).bind λ_=>match P.underlying dst with
 |some (.int k)=>some (some k)
 |_=>none
theorem anV{src dst:TypeId}{x:Operand}{k j:IntKind}{n:Int}(ho:o.op= .convert src dst x)(ht:Aw P src dst=some (some k))(hx:s.ev x=some (.val (.int j n))):dC lv P r o s (.val (.int k (k.wrap n))):=
 iX (λE V a hc aF=>by
  have hd:=ap.ev aF hx;generalize he:a.eval x=v at hd;cases hd;unfold Aw at ht;obtain⟨d,h1,h2⟩:=Tc.1 ht;split at h2
  ·rename_i k' hu;cases h2;unfold execOp;rw[ho];simp only[he];refine az ?_;unfold convert;refine eE h1 (eE hu ?_);dsimp only;exact aq (aq ⟨rfl,_,rfl, .val _⟩)
  ·cases h2)
end
open Go.Conc
def Env.add (E:Env)(r:Nat)(I:cz):Env:={E with I:=I,n:=E.n+1,blk:=λk=>if k=E.n then r else E.blk k}
theorem Env.qn(E:Env)(r:Nat){I:cz}(hI:∀b o v,E.I b o=some v->I b o=some v):E.Le (E.add r I):=
 ⟨hI,Yc _,λk hk=>by simp[Env.add,VC hk],λ_ _=>SO _,λ_ _ _ _=>rfl,rfl,rfl⟩
def View.iw (V:View)(b:Nat)(cs:Array Value)(p:Nat->Bool):View:={V with ab:=λb' o=>if b'=b/\p o=true then cs[o]?else V.ab b' o}
theorem yL{V:View}{b:Nat}{cs:Array Value}{el:TypeId}{f:Nat×Nat}{p:Nat->Bool}(ho:V.own b=some (.cells cs el f))(hp:∀o,p o=true->V.ab b o=none):ep V (V.iw b cs p)where
 sat w h:=⟨λb' o v e=>by
   simp only[View.iw]at e;split at e
   ·rename_i hb;obtain⟨rfl,_⟩:=hb;have:=h.own _ _ ho;simpa[Uj,this]using e
   ·exact h.ab _ _ _ e,λb' x e=>h.own b' x e⟩
 own b' e:=e
 ab b' o v e:=by
  have hn:¬(b'=b/\p o=true):=λhb=>by obtain⟨rfl,h2⟩:=hb;rw[hp o h2]at e;cases e
  simp only[View.iw,if_neg hn];exact e
 kL b' o v e:=by
  simp only[View.iw]at e;split at e
  ·rename_i hb;obtain⟨rfl,_⟩:=hb;exact .inr (by rw[ho];simp)
  ·exact .inl e
 deaf:=rfl
 role:=rfl
 chan c x _ h:=h
def View.kx (V:View)(r:Nat)(cs:Array Value):View:={V with ab:=λb o=>if b=r then cs[o]?else V.ab b o}
theorem aiz{V:View}{r:Nat}{cs:Array Value}{el:TypeId}{f:Nat×Nat}(hf:V.fresh r)(hc:V.role.chan≠some r):ep (V.upd r (.cells cs el f)) (V.kx r cs)where
 sat w h:=⟨λb o v e=>by
   simp only[View.kx]at e;split at e
   ·rename_i hb;subst hb;have:=h.own b (.cells cs el f) (by simp[View.upd]);simpa[Uj,this]using e
   ·exact h.ab b o v e,λb x e=>by
   have hb:b≠r:=λhb=>(by subst hb;rw[show (V.kx b cs).own b=V.own b from rfl,hf.1]at e;cases e);have e':V.own b=some x:=e;exact h.own b x (by simpa[View.upd,hb]using e')⟩
 own b e:=by
  simp only[View.upd]at e;split at e
  ·cases e
  ·exact e
 ab b o v e:=by
  have e':V.ab b o=some v:=e;have hb:b≠r:=λhb=>by subst hb;rw[hf.2 o]at e';cases e'
  simpa[View.kx,hb]using e'
 kL b o v e:=by
  simp only[View.kx]at e;split at e
  ·rename_i hb;exact .inr (by simp[View.upd,hb])
  ·exact .inl e
 deaf:=rfl
 role:=rfl
 chan c x hcx h:=by
  have hb:c≠r:=λhb=>by subst hb;exact hc hcx
  have h':V.own c=some x:=by simpa[View.upd,hb]using h
  exact h'
theorem Conc.aio{E:Env}{V:View}{H:List aa}(hc:Conc E V H){r:Nat}(hf:V.own r=none):V.role.chan≠some r/\V.role.group≠some r:=
 ⟨λe=>(hc.chan r e).1 hf,λe=>(hc.group r e).1 hf⟩
theorem Conc.add{E:Env}{V:View}{H:List aa}(hc:Conc E V H){r:Nat}(hf:V.fresh r)(y:Obj){x:aa}(hx:fX (E.add r V.ab) (V.upd r y) E.n x)(hb:∀b,bN (E.add r V.ab) E.n x=some b->b=r):Conc (E.add r V.ab) (V.upd r y) (H++[x]):=by
 refine hc.i_ (E':=E.add r V.ab) H.length x (E.qn r (λb o v h=>by rw[<- hc.I];exact h)) rfl (by simp[Env.add,hc.n]) CG rfl (λ_ _ _=>rfl) (λb z _ hz=>⟨?_,λ_=>rfl⟩) (by rw[<- hc.n];exact hx) (λb h=> .inr ?_)
 ·have:b≠r:=λe=>by rw[e,hf.1]at hz;cases hz
  simpa[View.upd,this]using hz
 ·rw[<- hc.n]at h;rw[hb b h];exact hf.1
theorem Env.dS(E:Env)(r:Nat)(I:cz):(E.add r I).blk E.n=r:=by simp[Env.add]
theorem OE{E:Env}{H:List aa}(hn:E.n=H.length)(r:Nat)(I:cz):ap (E.add r I) (.op H.length 0) (.pointer (some ⟨r,0,none⟩)):=by
 have:=ap.op (E:=E.add r I) (id:=H.length) (off:=0) (by show _<E.n+1;rw[hn];omega);have e:(E.add r I).blk H.length=r:=by rw[<- hn];exact E.dS r I
 rwa [e]at this
def AV.parts:AV->Option (List AV)
 | .agg l=>some l
 | .aK _=>none
 | .val (.agg _)=>none
 |a=>some [a]
theorem ap.parts{E:Env}{a:AV}{v:Value}{l:List AV}(h:ap E a v)(hp:a.parts=some l):cL E l v.cells:=by
 have one:∀a v,ap E a v->v.cells=#[v]->cL E [a] v.cells:=λa v h e=>by
  rw[e];refine⟨rfl,λi x hx=> ?_⟩;have hi:i=0:=by have:=(SM.1 hx).1;simpa using this
  subst hi;simp at hx;subst hx;simpa using h
 cases h with
 |val=>cases v<;>first|(cases hp;exact one _ _ (.val _) rfl)|cases hp
 |agg hs h=>cases hp;exact⟨hs,h⟩
 |aK hs h=>cases hp
 |sl b o cap f hc he h1 h2=>cases hp;exact one _ _ (.sl b o cap f hc he h1 h2) rfl
 |nil he=>cases hp;exact one _ _ (.nil he) rfl
 |bJ hi ec=>cases hp;exact one _ _ (.bJ hi ec) rfl
 |rp b o f h1 h2=>cases hp;exact one _ _ (.rp b o f h1 h2) rfl
 |op hi=>cases hp;exact one _ _ (.op hi) rfl
 |fn dW fA h1 h2=>cases hp;exact one _ _ (.fn dW fA h1 h2) rfl
 |c_ h=>cases hp;exact one _ _ (.c_ h) rfl
 |mp hi=>cases hp;exact one _ _ (.mp hi) rfl
def eW (P:Program)(t:TypeId):Option Value:=(P.info? t).bind (·.zero)
def lY (z:Value):List AV:=z.cells.toList.map AV.py
theorem Ii(E:Env)(z:Value):cL E (lY z) z.cells:=by
 refine⟨by simp[lY],λi a h=> ?_⟩;unfold lY at h;rw[Ti]at h;obtain⟨x,hx,rfl⟩:=Tl.1 h;have:z.cells[i]?=some x:=by simpa using hx
 rw[SH,this];exact Ic E x
section
variable {P:Program}{V:View}{α:Type}{K:α->View->Prop}{Kp:Value->View->Prop}
theorem GC{t:TypeId}{z:Value}{k:Value->Sem α}(h:eW P t=some z)(hk:aO P V (k z) K Kp):aO P V (zeroValue t>>=k) K Kp:=by
 unfold eW at h;obtain⟨i,h1,h2⟩:=Tc.1 h;refine az ?_;unfold zeroValue;refine x6 h1 ?_;rw[h2];exact aq hk
end
section
variable {lv:Bool}{P:Program}{r:Option Nat}{o:Oper}{s:AS}{next:AS->Prop}{bad:AV->AS->Prop}
theorem aca{t:TypeId}{l:List AV}(h:∀(E:Env)(V:View)(a:Act),Conc E V s.H->cj E s.T a.tmps->∃cs,cL E l cs/\aO P V (execOp a.eval o) (λnx V'=>∃rr,V.fresh rr/\V'=V.upd rr (.cells cs t)/\nx= .value (.pointer (some ⟨rr,0,none⟩))) (λ_ _=>False))
  (hn:next ((⟨s.T,s.H++[.cells l t]⟩:AS).put o.dst (.op s.H.length 0))):Step lv P r o s next bad:=by
 intro E V a N Q hc ht hd bz h1 _;obtain⟨cs,o4,qf⟩:=h E V a hc ht;refine⟨bz,qf.mono (λnx V' hx=> ?_) (λ_ _ hx=>hx.elim)⟩;obtain⟨rr,hf,rfl,rfl⟩:=hx;have hle:E.Le (E.add rr V.ab):=E.qn rr (λb o v h=>by rw[<- hc.I];exact h);have bc:Conc (E.add rr V.ab) (V.upd rr (.cells cs t)) (s.H++[.cells l t]):=by
  refine hc.add hf _ ⟨⟨cs, ?_,o4.mono hle⟩,λo=> ?_⟩ (λb e=> ?_)
  ·rw[Env.dS];simp[View.upd]
  ·rw[Env.dS];exact hf.2 o
  ·simp only[bN,Env.dS,Te]at e;exact e.symm
 exact h1 _ _ (a.put o.dst (.pointer (some ⟨rr,0,none⟩))) ((⟨s.T,s.H++[.cells l t]⟩:AS).put o.dst (.op s.H.length 0)) ⟨hle,eD _ _ _,put_defers _ _ _,rfl,rfl⟩ (by rw[fB];exact bc)
  (cj.hO (s:=⟨s.T,s.H++[.cells l t]⟩) (ht.mono hle) hd (OE hc.n rr V.ab)) hn
theorem ab6{t:TypeId}{x:Operand}{av:AV}{l:List AV}(ho:o.op= .box t x)(hx:s.ev x=some av)(hl:av.parts=some l)(hn:next ((⟨s.T,s.H++[.cells l t]⟩:AS).put o.dst (.op s.H.length 0))):Step lv P r o s next bad:=
 aca (λE V a hc ht=>⟨(a.eval x).cells,(ap.ev ht hx).parts hl,by
  unfold execOp;rw[ho];dsimp only;refine az ?_;unfold Instr.box newVar newRow;refine az (az (az (oH λrr hf=>cK (aq (aq (aq (aq ⟨rr,hf,rfl,rfl⟩)))))))⟩) hn
theorem ab3{t:TypeId}{z:Value}(ho:o.op= .alloc t)(hz:eW P t=some z)(hn:next ((⟨s.T,s.H++[.cells (lY z) t]⟩:AS).put o.dst (.op s.H.length 0))):Step lv P r o s next bad:=
 aca (λE V a hc ht=>⟨z.cells,Ii E z,by
  unfold execOp;rw[ho];dsimp only;refine az ?_;unfold Instr.alloc;refine GC hz ?_;unfold newVar newRow;refine az (az (az (oH λrr hf=>cK (aq (aq (aq (aq ⟨rr,hf,rfl,rfl⟩)))))))⟩) hn
theorem ap1{t:TypeId}(ho:o.op= .makeMap t none)(hn:next ((⟨s.T,s.H++[.obj (.map #[] 0)]⟩:AS).put o.dst (.mp s.H.length))):Step lv P r o s next bad:=by
 intro E V a N Q hc ht hd bz h1 _;refine⟨bz, ?_⟩;unfold execOp;rw[ho];dsimp only;refine az ?_;unfold Instr.makeMap;refine az (oH λrr hf=>cK (aq (aq ?_)));have hle:E.Le (E.add rr V.ab):=E.qn rr (λb o v h=>by rw[<- hc.I];exact h);have bc:Conc (E.add rr V.ab) (V.upd rr (.map #[] 0)) (s.H++[.obj (.map #[] 0)]):=by
  refine hc.add hf _ ⟨?_,rfl,rfl,λo=> ?_⟩ (λb e=> ?_)
  ·rw[Env.dS];simp[View.upd]
  ·rw[Env.dS];exact hf.2 o
  ·simp only[bN,Env.dS,Te]at e;exact e.symm
 have bm:ap (E.add rr V.ab) (.mp s.H.length) (.map (some rr)):=by
  have:=ap.mp (E:=E.add rr V.ab) (id:=s.H.length) (by show _<E.n+1;rw[hc.n];omega);have e:(E.add rr V.ab).blk s.H.length=rr:=by rw[<- hc.n];exact E.dS rr _
  rwa [e]at this
 exact h1 _ _ (a.put o.dst (.map (some rr))) ((⟨s.T,s.H++[.obj (.map #[] 0)]⟩:AS).put o.dst (.mp s.H.length)) ⟨hle,eD _ _ _,put_defers _ _ _,rfl,rfl⟩ (by rw[fB];exact bc)
  (cj.hO (s:=⟨s.T,s.H++[.obj (.map #[] 0)]⟩) (ht.mono hle) hd bm) hn
end
def storeAt:Array Value->Nat->List Value->Array Value
 |cs,_,[]=>cs
 |cs,o,v::vs=>storeAt (cs.setIfInBounds o v) (o+1) vs
theorem x9:∀(vs:List Value)(cs:Array Value)(o:Nat),(storeAt cs o vs).size=cs.size
 |[],_,_=>rfl
 |v::vs,cs,o=>by rw[storeAt,x9];simp
theorem C7:∀(vs:List Value)(cs:Array Value)(o k:Nat),o+vs.length<=cs.size->(storeAt cs o vs).getD k undef=if o<=k/\k<o+vs.length then vs.getD (k-o) undef else cs.getD k undef
 |[],cs,o,k,_=>by
  have:¬(o<=k/\k<o+([]:List Value).length):=by intro h;simp only[UA]at h;omega
  rw[if_neg this];rfl
 |v::vs,cs,o,k,h=>by
  simp only[T7]at h;rw[storeAt,C7 vs _ (o+1) k (by simp;omega)];by_cases h1:k=o
  ·subst h1;rw[if_neg (by omega),if_pos (by simp)];simp[SH,S7 (show k<cs.size by omega)]
  ·by_cases h2:o+1<=k/\k<o+1+vs.length
   ·rw[if_pos h2,if_pos (by simp only[T7];omega)];have:k-o=(k-(o+1))+1:=(by omega);rw[this];simp[SF]
   ·rw[if_neg h2,if_neg (by simp only[T7];omega)];simp[SH,SR (Ne.symm h1)]
theorem aq7(V:View)(b:Nat)(x y:Obj):(V.upd b x).upd b y=V.upd b y:=by
 unfold View.upd;congr 1;funext k;dsimp only;split<;>rfl
theorem aq8{V:View}{b:Nat}{x:Obj}(h:V.own b=some x):V.upd b x=V:=by
 unfold View.upd;have:(λk=>if k=b then some x else V.own k)=V.own:=by
  funext k;split
  ·rename_i e;subst e;rw[h]
  ·rfl
 rw[this]
section
variable {P:Program}{K:Unit->View->Prop}{Kp:Value->View->Prop}{b off:Nat}{el:TypeId}
theorem Ag:∀(vs:List Value)(i:Nat)(V:View)(cs:Array Value),V.role.group≠some b->V.role.chan≠some b->V.own b=some (.cells cs el (0,0))->(∀o,off+i<=o->o<off+i+vs.length->V.ab b o=none)->off+i+vs.length<=cs.size->(∀v∈vs,v.one=true)->
  K () (V.upd b (.cells (storeAt cs (off+i) vs) el (0,0)))->aO P V (storeCells ⟨b,off,none⟩ vs i) K Kp
 |[],i,V,cs,hg,hc,ho,hi,hl,hv,h=>by
  unfold storeCells;rw[show storeAt cs (off+i) []=cs from rfl,aq8 ho]at h;exact aq h
 |v::vs,i,V,cs,hg,hc,ho,hi,hl,hv,h=>by
  unfold storeCells;rw[add_plain];simp only[T7]at hl hi;refine az (apk ho (by omega) (hi _ (by omega) (by omega)) (hv v (Tu ..)) (by omega) (.inl hg) hc (cK ?_));refine Ag vs (i+1) (V.upd b (.cells (cs.setIfInBounds (off+i) v) el (0,0))) (cs.setIfInBounds (off+i) v) hg hc (by simp[View.upd]) (λo h1 h2=>hi o (by omega) (by omega)) (by simp;omega) (λx hx=>hv x (S9 _ hx)) ?_;rw[aq7];exact h
end
theorem Conc.set{E:Env}{V:View}{H:List aa}(hc:Conc E V H){id:Nat}{l l':List AV}{el:TypeId}(hk:H[id]?=some (.cells l el)){eY:Array Value}(hd:cL E l' eY):Conc E (V.upd (E.blk id) (.cells eY el (0,0))) (H.set id (.cells l' el)):=by
 obtain⟨⟨cs,h1,_⟩,h3⟩:=hc.obj id _ hk;refine hc.i_ id (.cells l' el) (Env.Le.refl E) hc.I (by simpa using hc.n) lS rfl (λ_ _ _=>rfl) (λb y hb hy=>⟨?_,λ_=>rfl⟩) ⟨⟨eY,by simp[View.upd],hd⟩,h3⟩ (λb h=> .inl ⟨_,hk,h⟩);have:b≠E.blk id:=λe=>hb _ hk (by rw[e];rfl);simpa[View.upd,this]using hy
theorem ace:∀(vs:List Value)(cs:Array Value)(off o:Nat),o<off->(storeAt cs off vs)[o]?=cs[o]?
 |[],_,_,_,_=>rfl
 |v::vs,cs,off,o,h=>by
  rw[storeAt,ace vs _ (off+1) o (by omega),SR (by omega)]
theorem Conc.GD{E:Env}{V:View}{H:List aa}(hc:Conc E V H){id p:Nat}{l l':List AV}{el:TypeId}(hk:H[id]?=some (.part p l el)){cs eY:Array Value}(h1:V.own (E.blk id)=some (.cells cs el (0,0)))(hd:j5 E l' eY)(hs:∀o,o<p->eY[o]?=cs[o]?):Conc E (V.upd (E.blk id) (.cells eY el (0,0))) (H.set id (.part p l' el)):=by
 obtain⟨⟨yD,q1,_,q2⟩,h3⟩:=hc.obj id _ hk;rw[h1]at q1;cases q1;refine hc.i_ id (.part p l' el) (Env.Le.refl E) hc.I (by simpa using hc.n) lS rfl (λ_ _ _=>rfl) (λb y hb hy=>⟨?_,λ_=>rfl⟩) ⟨⟨eY,by simp[View.upd],hd,λo ho=>(q2 o ho).trans (hs o ho).symm⟩,h3⟩ (λb h=> .inl ⟨_,hk,h⟩);have:b≠E.blk id:=λe=>hb _ hk (by rw[e];rfl);simpa[View.upd,this]using hy
theorem Conc.abN{E:Env}{V:View}{H:List aa}(hc:Conc E V H){id sz:Nat}{l l':List AV}{el:TypeId}(hk:H[id]?=some (.own sz l el)){eY:Array Value}(hd:j5 E l' eY)(hz:eY.size=(E.room id 0).2* sz):Conc E (V.upd (E.blk id) (.cells eY el (0,0))) (H.set id (.own sz l' el)):=by
 obtain⟨⟨cs,h1,_⟩,h3⟩:=hc.obj id _ hk;refine hc.i_ id (.own sz l' el) (Env.Le.refl E) hc.I (by simpa using hc.n) lS rfl (λ_ _ _=>rfl) (λb y hb hy=>⟨?_,λ_=>rfl⟩) ⟨⟨eY,by simp[View.upd],hd,hz⟩,h3⟩ (λb h=> .inl ⟨_,hk,h⟩);have:b≠E.blk id:=λe=>hb _ hk (by rw[e];rfl);simpa[View.upd,this]using hy
theorem Conc.setObj{E:Env}{V:View}{H:List aa}(hc:Conc E V H){id:Nat}{x y:Obj}(hk:H[id]?=some (.obj x))(h1:y.uw=false)(h2:y.isChan=false):Conc E (V.upd (E.blk id) y) (H.set id (.obj y)):=by
 obtain⟨p1,p2,p3,p4⟩:=hc.obj id _ hk;refine hc.i_ id (.obj y) (Env.Le.refl E) hc.I (by simpa using hc.n) lS rfl (λ_ _ _=>rfl) (λb z hb hz=>⟨?_,λ_=>rfl⟩) ⟨by simp[View.upd],h1,h2,p4⟩ (λb h=> .inl ⟨_,hk,h⟩);have:b≠E.blk id:=λe=>hb _ hk (by rw[e];rfl);simpa[View.upd,this]using hz
theorem alF{E:Env}{a:AV}{v:Value}(h:ap E a v)(hl:a.leaf=true):v.one=true:=by
 cases h with
 |val x=>exact hl
 |agg _ _=>cases hl
 |aK _ _=>cases hl
 |_=>rfl
def iF (l:List AV)(off:Nat)(lp:List AV):List AV:=l.take off++lp++l.drop (off+lp.length)
theorem Ig{E:Env}{l lp:List AV}{cs vs:Array Value}{off:Nat}(h:cL E l cs)(k:cL E lp vs)(hl:off+lp.length<=l.length):cL E (iF l off lp) (storeAt cs off vs.toList):=by
 have hv:vs.toList.length=lp.length:=by simpa using k.1
 refine⟨by rw[x9,h.1];simp[iF];omega,λi a e=> ?_⟩;rw[C7 _ _ _ _ (by rw[h.1,hv];exact hl),hv];unfold iF at e;by_cases h1:i<off
 ·rw[if_neg (by omega)];rw[SC,SY (by simp;omega),TY,if_pos h1]at e;exact h.2 i a e
 ·by_cases h2:i<off+lp.length
  ·rw[if_pos ⟨by omega,h2⟩];rw[SY (by simp;omega),Tg (by simp;omega)]at e;have e':lp[i-off]?=some a:=by
    have:min off l.length=off:=(by omega);simpa[this]using e
   have:=k.2 _ a e';simpa[SH,SF]using this
  ·rw[if_neg (by omega)];rw[Tg (by simp;omega),T9]at e;have e':l[i]?=some a:=by
    have h3:off+lp.length+(i-(l.take off++lp).length)=i:=(by simp;omega);rw[h3]at e;exact e
   exact h.2 i a e'
theorem OJ{E:Env}{l lp:List AV}{cs vs:Array Value}{off:Nat}(h:j5 E l cs)(k:cL E lp vs)(hl:off+lp.length<=l.length):j5 E (iF l off lp) (storeAt cs off vs.toList):=by
 have hv:vs.toList.length=lp.length:=by simpa using k.1
 refine⟨by rw[x9];have:=h.1;simp[iF];omega,λi a e=> ?_⟩;rw[C7 _ _ _ _ (by have:=h.1;rw[hv];omega),hv];unfold iF at e;by_cases h1:i<off
 ·rw[if_neg (by omega)];rw[SC,SY (by simp;omega),TY,if_pos h1]at e;exact h.2 i a e
 ·by_cases h2:i<off+lp.length
  ·rw[if_pos ⟨by omega,h2⟩];rw[SY (by simp;omega),Tg (by simp;omega)]at e;have e':lp[i-off]?=some a:=by
    have:min off l.length=off:=(by omega);simpa[this]using e
   have:=k.2 _ a e';simpa[SH,SF]using this
  ·rw[if_neg (by omega)];rw[Tg (by simp;omega),T9]at e;have e':l[i]?=some a:=by
    have h3:off+lp.length+(i-(l.take off++lp).length)=i:=(by simp;omega);rw[h3]at e;exact e
   exact h.2 i a e'
theorem Bd{E:Env}{lp:List AV}{vs:Array Value}(h:cL E lp vs)(nG:∀a∈lp,a.leaf=true):∀v∈vs.toList,v.one=true:=by
 intro v hv;obtain⟨j,hj⟩:=Uz.1 hv;have fy:j<lp.length:=by have:=(SM.1 hj).1;have:=h.1;simp at*;omega
 have:=h.2 j lp[j] (SV fy);have iC:vs[j]?=some v:=by simpa using hj
 rw[SH,iC]at this;exact alF this (nG _ (VM fy))
section
variable {lv:Bool}{P:Program}{r:Option Nat}{o:Oper}{s:AS}{next:AS->Prop}{bad:AV->AS->Prop}
theorem acb{t:TypeId}{x y:Operand}{id off n:Nat}{l lp:List AV}{el:TypeId}{g:Bool}{av:AV}(ho:o.op= .store t x y)(ht:Ty P t=some (n,g))(hx:s.ev x=some (.op id off))(hk:s.H[id]?=some (.cells l el))(hy:s.ev y=some av)(hp:av.parts=some lp)(kI:lp.length=n)(hl:off+lp.length<=l.length)
  (nG:∀a∈lp,a.leaf=true) (hn:next ((⟨s.T,s.H.set id (.cells (iF l off lp) el)⟩:AS).put o.dst (.val undef))):Step lv P r o s next bad:=by
 intro E V a N Q hc aF hd bz h1 _;obtain⟨i,d,q1,q2,rfl,q4⟩:=Ty.out ht;have dz:=ap.ev aF hx;generalize ku:a.eval x=vx at dz;cases dz with
 |op ce=>
  have bm:=(ap.ev aF hy).parts hp;obtain⟨⟨cs,p1,p2⟩,p3⟩:=hc.obj id _ hk;obtain⟨g1,g2⟩:=hc.jo hk rfl;refine⟨bz, ?_⟩;unfold execOp;rw[ho];simp only[ku];refine az ?_;unfold Xz UM;refine az (aq ?_);unfold storeVar;refine j3 q1 ?_;rw[if_neg (by rw[bm.1,kI];simp)];refine Ag _ 0 V cs g1 g2 p1 (λo _ _=>p3 o) (by have:=bm.1;have:=p2.1;simp;omega) (Bd bm nG) ?_;rw[Uv];exact aq (h1 E _ (a.put o.dst undef) _ ⟨Env.Le.refl E,eD _ _ _,put_defers _ _ _,rfl,rfl⟩ (by rw[fB];exact hc.set hk (Ig p2 bm hl))
   (cj.hO (s:=⟨s.T,s.H.set id (.cells (iF l off lp) el)⟩) aF hd (.val undef)) hn)
theorem ap7{t:TypeId}{x y:Operand}{id off n p:Nat}{l lp:List AV}{el:TypeId}{g:Bool}{av:AV}(ho:o.op= .store t x y)(ht:Ty P t=some (n,g))(hx:s.ev x=some (.op id off))(hk:s.H[id]?=some (.part p l el))(hpo:p<=off)(hy:s.ev y=some av)(hp:av.parts=some lp)(kI:lp.length=n)(hl:off+lp.length<=l.length)
  (nG:∀a∈lp,a.leaf=true) (hn:next ((⟨s.T,s.H.set id (.part p (iF l off lp) el)⟩:AS).put o.dst (.val undef))):Step lv P r o s next bad:=by
 intro E V a N Q hc aF hd bz h1 _;obtain⟨i,d,q1,q2,rfl,q4⟩:=Ty.out ht;have dz:=ap.ev aF hx;generalize ku:a.eval x=vx at dz;cases dz with
 |op ce=>
  have bm:=(ap.ev aF hy).parts hp;obtain⟨⟨cs,p1,p2,p4⟩,p3⟩:=hc.obj id _ hk;obtain⟨g1,g2⟩:=hc.jo hk rfl;refine⟨bz, ?_⟩;unfold execOp;rw[ho];simp only[ku];refine az ?_;unfold Xz UM;refine az (aq ?_);unfold storeVar;refine j3 q1 ?_;rw[if_neg (by rw[bm.1,kI];simp)];refine Ag _ 0 V cs g1 g2 p1 (λo _ _=>p3 o (by omega)) (by have:=bm.1;have:=p2.1;simp;omega) (Bd bm nG) ?_;rw[Uv];exact aq (h1 E _ (a.put o.dst undef) _ ⟨Env.Le.refl E,eD _ _ _,put_defers _ _ _,rfl,rfl⟩ (by rw[fB];exact hc.GD hk p1 (OJ p2 bm hl) λo ho=>ace _ _ _ _ (by omega))
   (cj.hO (s:=⟨s.T,s.H.set id (.part p (iF l off lp) el)⟩) aF hd (.val undef)) hn)
theorem acd{t:TypeId}{x y:Operand}{id off n p:Nat}{l lp:List AV}{el:TypeId}{g:Bool}{av:AV}(ho:o.op= .store t x y)(ht:Ty P t=some (n,g))(hx:s.ev x=some (.op id off))(hk:s.H[id]?=some (.own p l el))(hy:s.ev y=some av)(hp:av.parts=some lp)(kI:lp.length=n)(hl:off+lp.length<=l.length)
  (nG:∀a∈lp,a.leaf=true) (hn:next ((⟨s.T,s.H.set id (.own p (iF l off lp) el)⟩:AS).put o.dst (.val undef))):Step lv P r o s next bad:=by
 intro E V a N Q hc aF hd bz h1 _;obtain⟨i,d,q1,q2,rfl,q4⟩:=Ty.out ht;have dz:=ap.ev aF hx;generalize ku:a.eval x=vx at dz;cases dz with
 |op ce=>
  have bm:=(ap.ev aF hy).parts hp;obtain⟨⟨cs,p1,p2,p4⟩,p3⟩:=hc.obj id _ hk;obtain⟨g1,g2⟩:=hc.jo hk rfl;refine⟨bz, ?_⟩;unfold execOp;rw[ho];simp only[ku];refine az ?_;unfold Xz UM;refine az (aq ?_);unfold storeVar;refine j3 q1 ?_;rw[if_neg (by rw[bm.1,kI];simp)];refine Ag _ 0 V cs g1 g2 p1 (λo _ _=>p3 o) (by have:=bm.1;have:=p2.1;simp;omega) (Bd bm nG) ?_;rw[Uv];exact aq (h1 E _ (a.put o.dst undef) _ ⟨Env.Le.refl E,eD _ _ _,put_defers _ _ _,rfl,rfl⟩ (by rw[fB];exact hc.abN hk (OJ p2 bm hl) (by rw[x9];exact p4))
   (cj.hO (s:=⟨s.T,s.H.set id (.own p (iF l off lp) el)⟩) aF hd (.val undef)) hn)
theorem Conc.kx{E:Env}{V:View}{H:List aa}(hc:Conc E V H){r:Nat}(hf:V.fresh r)(cs:Array Value):E.Le {E with I:=(V.kx r cs).ab}/\Conc {E with I:=(V.kx r cs).ab} (V.kx r cs) H:=by
 have hle:E.Le {E with I:=(V.kx r cs).ab}:=⟨λb o v h=>by
  rw[hc.I]at h;have hb:b≠r:=λhb=>by subst hb;rw[hf.2 o]at h;cases h
  simpa[View.kx,hb]using h,SO _,λ_ _=>rfl,λ_ _=>SO _,λ_ _ _ _=>rfl,rfl,rfl⟩
 have hlt:∀(k:Nat) y,H[k]?=some y->k<E.n:=λk y h=>by rw[hc.n];exact(SM.1 h).1
 refine⟨hle,rfl,hc.n,λk x h=>(hc.obj k x h).mono hle (hlt k x h) rfl (λb y _ hb=>hb) (λb hb o=> ?_),hc.inj,λg hg=> ?_,λg hg=> ?_,hc.top,λb y hg=> ?_⟩
 ·obtain⟨y,hy⟩:=(hc.obj k x h).A7 hb;have aE:b≠r:=λe=>by subst e;rw[hf.1]at hy;cases hy
  simp[View.kx,aE]
 ·obtain⟨h0,h1,h2⟩:=hc.group g hg;have aE:g≠r:=λe=>by subst e;exact h0 hf.1
  exact⟨h0,λo=>by simp[View.kx,aE,h1 o],h2⟩
 ·obtain⟨h0,h1,h2⟩:=hc.chan g hg;have aE:g≠r:=λe=>by subst e;exact h0 hf.1
  exact⟨h0,λo=>by simp[View.kx,aE,h1 o],h2⟩
 ·obtain⟨h0,h1,h2⟩:=hc.fr b y hg;have aE:b≠r:=λe=>by subst e;rw[hf.1]at h0;cases h0
  exact⟨h0,λo=>by simp[View.kx,aE,h1 o],h2⟩
theorem ap.anI{E:Env}{V:View}{H:List aa}(hc:Conc E V H){r:Nat}(hf:V.fresh r){cs:Array Value}{l:List AV}(h:cL E l cs){n cap:Nat}(ec:n<=cap){e:End}(he:pE {E with I:=(V.kx r cs).ab} e (some ⟨r,0,none⟩) n cap):ap {E with I:=(V.kx r cs).ab} (.sl n l e) (.slice (some ⟨r,0,none⟩) n cap):=by
 refine .sl r 0 cap (λi=>cs.getD i undef) ec he (λi hi=> ?_) λi x hx=>(h.2 i x hx).mono (hc.kx hf cs).1;have hlt:i<cs.size:=by rw[h.1];exact hi
 simp[View.kx,SH,SJ hlt]
def oe (place:Nat->Option (Nat×Nat))(cells:List AV):List (Nat×AV)->Option (List AV)
 |[]=>some cells
 |(i,a)::rest=>match place i,a.parts with
  |some (off,size),some lp=>if lp.length≠size\/off+lp.length>cells.length then none else oe place (iF cells off lp) rest
  |_,_=>none
theorem PC:∀(vs:List Value)(k off:Nat)(cs:Array Value),(vs.zipIdx k).foldl (λ(cs:Array Value) (x:Value×Nat)=>cs.setIfInBounds (off+x.2) x.1) cs=storeAt cs (off+k) vs
 |[],_,_,_=>rfl
 |v::vs,k,off,cs=>by
  rw[List.zipIdx_cons,Ux,PC vs (k+1) off];rfl
theorem Bh{E:Env}{place:Nat->Option (Nat×Nat)}:∀{parts:List (Nat×AV)}{vs:List (Nat×Value)}{l l':List AV}{cs:Array Value},cL E l cs->parts.length=vs.length->(∀(j:Nat) p q,parts[j]?=some p->vs[j]?=some q->p.1=q.1/\ap E p.2 q.2)->
  oe place l parts=some l'->∃eY,Y' place cs vs=some eY/\cL E l' eY
 |[],[],l,l',cs,h,_,_,e=>by cases e;exact⟨cs,rfl,h⟩
 |[],_::_,_,_,_,_,h,_,_=>by simp at h
 |_::_,[],_,_,_,_,h,_,_=>by simp at h
 |(i,a)::parts,(i',v)::vs,l,l',cs,h,hl,hp,e=>by
  obtain⟨e1,hd⟩:=hp 0 (i,a) (i',v) rfl rfl;have e1':i=i':=e1;subst e1';simp only[oe]at e;split at e
  ·rename_i off size lp dQ Ks;split at e
   ·cases e
   ·rename_i hc;have bm:=ap.parts (v:=v) hd Ks;have aW:v.cells.size=lp.length:=bm.1;have hle:off+lp.length<=l.length:=(by omega);obtain⟨eY,h1,h2⟩:=Bh (Ig h bm hle) (by simpa using hl) (λj p q x y=>hp (j+1) p q (by simpa using x) (by simpa using y)) e;refine⟨eY, ?_,h2⟩;unfold Y';rw[dQ];simp only;rw[if_neg (by rw[aW,h.1];simp;omega)];have:=PC v.cells.toList 0 off cs;rw[Uv]at this;rw[<- h1,<- this];congr 1;rw[<- Array.toList_zipIdx,Array.foldl_toList]
  ·cases e
def j9 (s:AS):List (Nat×Operand)->Option (List (Nat×AV))
 |[]=>some []
 |(i,x)::l=>match s.ev x,j9 s l with
  |some a,some aD=>some ((i,a)::aD)
  |_,_=>none
theorem Ee{E:Env}{s:AS}{a:Act}(k:cj E s.T a.tmps):∀{l:List (Nat×Operand)}{aD:List (Nat×AV)},j9 s l=some aD->aD.length=(l.map λ(i,x)=>(i,a.eval x)).length/\∀(j:Nat) p q,aD[j]?=some p->(l.map λ(i,x)=>(i,a.eval x))[j]?=some q->p.1=q.1/\ap E p.2 q.2
 |[],aD,h=>by cases h;exact⟨rfl,by simp⟩
 |(i,x)::l,aD,h=>by
  simp only[j9]at h;split at h
  ·rename_i av l7 h1 h2;cases h;obtain⟨mT,ln⟩:=Ee k h2;refine⟨by simpa using mT,λj p q e1 e2=> ?_⟩;cases j with
   |zero=>simp at e1 e2;subst e1 e2;exact⟨rfl,ap.ev k h1⟩
   |succ j=>exact ln j p q (by simpa using e1) (by simpa using e2)
  ·cases h
def qJ (P:Program)(t:TypeId):Option (TypeId×Nat×Value):=match P.underlying t with
 |some (.slice e)=>(P.info? e).bind λi=>i.zero.map λz=>(e,i.size,z)
 |_=>none
def gU (z:Value)(m:Nat):List AV:=(SX m).map λi=>AV.py (z.cells[i % z.cells.size]!)
inductive iz where
 |fields (l:List (Nat×Nat))
 |elems (sz:Nat)
def iz.at:iz->Nat->Option (Nat×Nat)
 | .fields l,i=>l[i]?
 | .elems sz,i=>some (i* sz,sz)
def oN (P:Program)(t:TypeId):Option (iz×Value):=(eW P t).bind λz=>match P.underlying t with
 |some (.struct fs)=>(fs.toList.mapM λf=>(P.info? f.type).map λi=>(f.offset,i.size)).map λl=>(.fields l,z)
 |some (.array _ e)=>(P.info? e).map λi=>(.elems i.size,z)
 |_=>none
theorem abG{P:Program}{V:View}{Kp:Value->View->Prop}:∀(fs:List Field)(l:List (Nat×Nat)){K:List (Nat×Nat)->View->Prop},fs.mapM (λf=>(P.info? f.type).map λi=>(f.offset,i.size))=some l->
  K l V->aO P V (fs.mapM λf=>(do pure (f.offset,<- sizeOf f.type):Sem (Nat×Nat))) K Kp
 |[],l,K,h,hk=>by
  simp at h;subst h;rw[Um];exact aq hk
 |f::fs,l,K,h,hk=>by
  simp only[TS,T5,TD,Tc,Te]at h;obtain⟨b,h1,bs,h2,rfl⟩:=h;obtain⟨i,hi,rfl⟩:=kV h1;rw[TS];exact az (j3 hi (aq (az (abG fs bs h2 (aq hk)))))
theorem anT{t:TypeId}{parts:Array (Nat×Operand)}{pl:iz}{z:Value}{aD:List (Nat×AV)}{l:List AV}(ho:o.op= .build t parts)(ht:oN P t=some (pl,z))(hp:j9 s parts.toList=some aD)
  (hl:oe pl.at (lY z) aD=some l):dC lv P r o s (.agg l):=
 iX (λE V a hc aF=>by
  unfold oN at ht;obtain⟨z',hz,ht⟩:=Tc.1 ht;obtain⟨hlen,bm⟩:=Ee aF hp;unfold execOp;rw[ho];dsimp only;refine az ?_;unfold Instr.build;refine GC hz ?_;split at ht
  ·rename_i fs hu;obtain⟨lp,h1,h2⟩:=kV ht;cases h2;obtain⟨eY,nD,tZ⟩:=Bh (Ii E z) hlen bm hl;refine eE hu ?_;dsimp only;have e:fs=fs.toList.toArray:=(by simp);rw[e,Xi];refine az ?_;refine az (abG fs.toList lp h1 ?_);refine aq ?_;rw[Vm];have e2:(λx=>lp.toArray[x]?)=iz.at (.fields lp):=(by funext x;simp[iz.at]);rw[e2,nD];exact aq (aq ⟨rfl,_,rfl, .agg tZ.1 tZ.2⟩)
  ·rename_i n e hu;obtain⟨i,h1,h2⟩:=kV ht;cases h2;obtain⟨eY,nD,tZ⟩:=Bh (Ii E z) hlen bm hl;refine eE hu ?_;dsimp only;refine j3 h1 ?_;rw[Vm];have e2:(λj=>some (j* i.size,i.size))=iz.at (.elems i.size):=rfl;rw[e2,nD];exact aq (aq ⟨rfl,_,rfl, .agg tZ.1 tZ.2⟩)
  ·cases ht)
theorem Ih{E:Env}(z:Value)(m:Nat):cL E (gU z m) ((VY m).map (λx=>z.cells[x % z.cells.size]!)):=by
 refine⟨by simp[gU],λj x hx=> ?_⟩;unfold gU at hx;rw[Ti]at hx;obtain⟨k,hk,rfl⟩:=Tl.1 hx;have hj:j<m:=by have:=(SM.1 hk).1;simpa using this
 have hmj:k=j:=by rw[YV hj]at hk;cases hk;rfl
 subst hmj;simp only[SH,VS,Array.getElem?_range,hj,if_true,UB,S6];exact Ic E _
theorem anU{t e:TypeId}{len sz:Nat}{z:Value}{parts:Array (Nat×Operand)}{aD:List (Nat×AV)}{l:List AV}(ho:o.op= .buildSlice t len parts)(ht:qJ P t=some (e,sz,z))(aW:len* sz<=2^24)(hp:j9 s parts.toList=some aD)
  (hl:oe (iz.at (.elems sz)) (gU z (len* sz)) aD=some l):dC lv P r o s (.sl len l .exact):=by
 intro E V a N Q hc aF bz h1;unfold qJ at ht;split at ht
 ·rename_i e' hu;obtain⟨i,hi,ht⟩:=Tc.1 ht;obtain⟨z',hz,ht⟩:=Tl.1 ht;cases ht;refine⟨bz, ?_⟩;unfold execOp;rw[ho];dsimp only;refine az ?_;unfold Instr.buildSlice;refine eE hu ?_;dsimp only;refine j3 hi ?_;rw[if_neg (by omega)];obtain⟨hlen,bm⟩:=Ee aF hp;obtain⟨eY,nD,tZ⟩:=Bh (Ih (E:=E) z (len* i.size)) hlen bm hl;have fin:∀(rr:Nat),V.fresh rr->aO P (V.upd rr (.cells eY e)) (pure (Wr (.slice (some ⟨rr,0,none⟩) len len))) (mF lv P r o a N Q) (λv V'=>Q (.panic [{v,recovered:=false}]) a V'):=λrr hf=>
   aO.ghost (aiz hf (hc.aio hf.1).1) (aq (h1 _ _ _ (hc.kx hf eY).1 rfl rfl (hc.kx hf eY).2 (ap.anI hc hf tZ (SO _) rfl)))
  have e2:(λj=>some (j* i.size,i.size))=iz.at (.elems i.size):=rfl;rw[e2];by_cases h0:len* i.size=0
  ·rw[if_pos h0];refine az (aq ?_);rw[h0]at nD⊢;rw[show VY 0=#[]from rfl]at nD⊢;simp only[List.map_toArray,List.map_nil,Vm]at nD⊢;rw[nD];unfold newRow;exact az (az (az (oH λrr hf=>cK (aq (aq (aq (fin rr hf)))))))
  ·rw[if_neg h0];refine az (az ?_);unfold typeInfo;refine az (qv (cK ?_));rw[hi];refine aq ?_;rw[hz];refine aq (az (aq ?_));rw[Vm,nD];unfold newRow;exact az (az (az (oH λrr hf=>cK (aq (aq (aq (fin rr hf)))))))
 ·cases ht
end
open Go.Conc
def aaA (P:Program)(t:TypeId):Bool:=match P.underlying t with
 |some (.int _)=>false
 |some _=>true
 |none=>false
def jM (P:Program)(t t':TypeId):Option (TypeId×Nat×Value):=match P.underlying t with
 |some (.slice e)=>(P.info? e).bind λi=>i.zero.bind λz=>if z.cells.size=i.size/\i.bytes<=2^16/\i.bytes≠0/\aaA P t'=true then some (e,i.size,z)else none
 |_=>none
theorem jM.out{P:Program}{t t' e:TypeId}{sz:Nat}{z:Value}(h:jM P t t'=some (e,sz,z)):∃i d,P.underlying t=some (.slice e)/\P.info? e=some i/\i.zero=some z/\i.size=sz/\z.cells.size=sz/\i.bytes<=2^16/\i.bytes≠0/\P.underlying t'=some d/\(∀k,d≠ .int k):=by
 unfold jM at h;split at h
 ·rename_i e' hu;obtain⟨i,h1,h⟩:=Tc.1 h;obtain⟨z',h2,h⟩:=Tc.1 h;split at h
  ·rename_i hc;obtain⟨c1,c2,c3,c4⟩:=hc;cases h;unfold aaA at c4;split at c4
   ·cases c4
   ·rename_i d hd aE;exact⟨i,d,hu,h1,h2,rfl,c1,c2,c3,aE,λk e=>hd k e⟩
   ·cases c4
  ·cases h
 ·cases h
def AS.src (s:AS)(sz:Nat):AV->Option (Nat×List AV)
 | .sl m l _=>some (m,l.take (m* sz))
 | .bJ id off m _=>match s.H[id]?with
  |some (.cells l _)|some (.part _ l _)|some (.own _ l _)=>some (m,(l.drop off).take (m* sz))
  |_=>none
 |_=>none
section
variable {P:Program}{E:Env}{V:View}{s:AS}{K:Array Value->View->Prop}{Kp:Value->View->Prop}
theorem Ea{l:List AV}{f:Nat->Value}{n:Nat}(hn:n<=l.length)(h:∀(i:Nat) x,l[i]?=some x->ap E x (f i)):cL E (l.take n) ((SX n).map f).toArray:=by
 have:=If hn h;cases this with
 |agg h1 h2=>exact⟨h1,h2⟩
theorem C1(hc:Conc E V s.H){av:AV}{v:Value}(hd:ap E av v){sz m k:Nat}{l:List AV}(h:s.src sz av=some (m,l))(hl:l.length=m* sz)(hk:k<=m)(hK:∀cs,cL E (l.take (k* sz)) cs->K cs V):aO P V (U2 sz k v) K Kp:=by
 have hks:k* sz<=m* sz:=T1 _ hk;cases hd with
 |sl b o cap f ec he h1 h2=>
  cases h;rename_i l _;simp only[TW]at hl;have e:(l.take (m* sz)).take (k* sz)=l.take (k* sz):=by rw[US];congr 1;omega
  rw[e]at hK;unfold U2;exact Ae (f:=f) (λhp=>(hc.R5 (h1 0 (by omega))).1) (λj hj=>by unfold View.get;rw[<- hc.I,h1 j (by omega)]) (hK _ (Ea (by omega) h2))
 |nil he=>
  cases h;have:k=0:=by omega
  subst this;have hK:=hK #[] ⟨by simp,by simp⟩;unfold U2;split
  ·rw[Y4];exact aq hK
  ·exact aq hK
  ·rename_i h;cases h
  ·rename_i a _ _ h1 h2 _;cases a with
   |none=>exact(h2 _ _ rfl).elim
   |some x=>exact(h1 _ _ _ rfl).elim
 |bJ hi ec=>
  rename_i id off m' cap cap';simp only[AS.src]at h;cases hq:s.H[id]?with
  |none=>rw[hq]at h;cases h
  |some ob=>
   rw[hq]at h;cases ob with
   |cells l' el=>
    cases h;obtain⟨⟨cs,ho,hs,bm⟩,lH⟩:=hc.obj id _ hq;simp only[TW,T8]at hl;have e:((l'.drop off).take (m* sz)).take (k* sz)=(l'.drop off).take (k* sz):=(by rw[US];congr 1;omega);rw[e]at hK;unfold U2;refine Ae (f:=λi=>cs.getD (off+i) undef) (λ_=>(hc.jo hq rfl).1) (λj hj=> ?_) (hK _ (Ea (by simp only[T8];omega) λi x hx=> ?_))
    ·unfold View.get;rw[lH,ho];have hlt:off+j<cs.size:=(by omega);simp only[SH,SJ hlt,S6]
    ·rw[T9]at hx;exact bm _ _ hx
   |part p l' el=>
    cases h;obtain⟨⟨cs,ho,⟨hs,bm⟩,nJ⟩,lH⟩:=hc.obj id _ hq;simp only[TW,T8]at hl;have e:((l'.drop off).take (m* sz)).take (k* sz)=(l'.drop off).take (k* sz):=(by rw[US];congr 1;omega);rw[e]at hK;unfold U2;refine Ae (f:=λi=>cs.getD (off+i) undef) (λ_=>(hc.jo hq rfl).1) (λj hj=> ?_) (hK _ (Ea (by simp only[T8];omega) λi x hx=> ?_))
    ·have hlt:off+j<cs.size:=(by omega);unfold View.get;by_cases hp:off+j<p
     ·rw[nJ _ hp];simp only[SH,SJ hlt,S6]
     ·rw[lH _ (by omega),ho];simp only[SH,SJ hlt,S6]
    ·rw[T9]at hx;exact bm _ _ hx
   |own eP l' el=>
    cases h;obtain⟨⟨cs,ho,⟨hs,bm⟩,_⟩,lH⟩:=hc.obj id _ hq;simp only[TW,T8]at hl;have e:((l'.drop off).take (m* sz)).take (k* sz)=(l'.drop off).take (k* sz):=(by rw[US];congr 1;omega);rw[e]at hK;unfold U2;refine Ae (f:=λi=>cs.getD (off+i) undef) (λ_=>(hc.jo hq rfl).1) (λj hj=> ?_) (hK _ (Ea (by simp only[T8];omega) λi x hx=> ?_))
    ·have hlt:off+j<cs.size:=(by omega);unfold View.get;rw[lH,ho];simp only[SH,SJ hlt,S6]
    ·rw[T9]at hx;exact bm _ _ hx
   |_=>cases h
 |_=>cases h
theorem GI{av:AV}{v:Value}(hd:ap E av v){sz m:Nat}{l:List AV}(h:s.src sz av=some (m,l)):ZW v=pure m:=by
 cases hd with
 |sl=>cases h;rfl
 |nil=>cases h;rfl
 |bJ=>
  simp only[AS.src]at h;split at h
  ·cases h;rfl
  ·cases h;rfl
  ·cases h;rfl
  ·cases h
 |_=>cases h
end
theorem PP(uE:Nat):∀(r c:Nat),c<=2* uE+200->Yx uE r c<=2* uE+200
 |0,c,h=>h
 |r+1,c,h=>by
  unfold Yx;split
  ·exact h
  ·exact PP uE r _ (by omega)
theorem amI(uE cap:Nat)(h:cap<uE):Wp uE cap<=2* uE+200:=by
 unfold Wp;split
 ·omega
 ·split
  ·omega
  ·exact PP uE 4 cap (by omega)
theorem Bc{E:Env}{l m:List AV}{x y:Array Value}(h:cL E l x)(k:cL E m y):cL E (l++m) (x++y):=by
 refine⟨by simp[h.1,k.1],λi a e=> ?_⟩;by_cases hi:i<l.length
 ·rw[SY hi]at e;have:=h.2 i a e;rw[SH,Xq (by rw[h.1];exact hi)];rwa [SH]at this
 ·rw[Tg (by omega)]at e;have:=k.2 _ a e;rw[SH,Xn (by rw[h.1];omega),h.1];rwa [SH]at this
theorem MD{P:Program}{V:View}{α:Type}{K:α->View->Prop}{Kp:Value->View->Prop}{b:Bool}{k:Bool->Sem α}(hb:b=false)(h:aO P V (k false) K Kp):aO P V (pure b>>=k) K Kp:=by
 subst hb;exact az (aq h)
section
variable {P:Program}{E:Env}{V:View}{s:AS}{K:Value->View->Prop}{Kp:Value->View->Prop}
theorem abC{n:Nat}{K:Unit->View->Prop}(h:K () V):aO P V (askRoom n) K Kp:=by
 unfold askRoom;split
 ·exact aph (cK h)
 ·exact aq h
theorem abB(hc:Conc E V s.H){t t' e:TypeId}{sz n m cap:Nat}{z:Value}{base:Option Addr}{av:AV}{v:Value}{ax:AV}{l l':List AV}{ty:TypeId}(ht:jM P t t'=some (e,sz,z))(hd:ap E ax (.slice base n cap))(dV:s.src sz ax=some (n,l))(cE:ap E av v)(hs:s.src sz av=some (m,l'))
  (hl:l.length=n* sz) (eV:l'.length=m* sz) (hb:n+m<=2^30) (JU:cap<n+m)
  (hK:∀r cs cap',V.fresh r->cL E (l++l') (cs.extract 0 ((n+m)* sz))->n+m<=cap'->cs.size=cap'* sz->K (.slice (some ⟨r,0,none⟩) (n+m) cap') (V.upd r (.cells cs e))):aO P V (U7 #[t,t'] ty #[.slice base n cap,v]) K Kp:=by
 obtain⟨i,d,h1,h2,h3,h4,h5,h6,h7,h8,h9⟩:=jM.out ht;unfold U7;simp only[UQ,UY,Ut];refine eE h1 ?_;dsimp only;refine j3 h2 ?_;rw[h4];refine eE h8 ?_;refine MD (by cases d<;>first|rfl|exact absurd rfl (h9 _)) ?_;simp only[TC,if_false,XQ,if_true];rw[GI cE hs];refine az (aq ?_);rw[if_neg (by omega)];refine x6 h2 ?_;rw[if_neg (by intro hx;exact hx.2.elim (λx=>x.elim) h7)];refine x6 h2 ?_;have ec:=amI (n+m) cap JU;have hmul:Wp (n+m) cap* i.bytes<=(2* 2^30+200)* 2^16:=YT (by omega) h6;rw[if_neg (by omega)];refine az (abE (λhf=>by cases hf) (λ_ t=>cK ?_));generalize jg:YD (.appendCap (n+m) cap e) t=cap';have EJ:n+m<=cap':=by rw[<- jg];exact Nat.le_add_right _ _
 refine x6 h2 (az (abC (az ?_)));refine C1 hc hd dV hl (SO _) λyD JC=> ?_;refine az (C1 hc cE hs eV (SO _) λjC k_=> ?_);refine GC (z:=z) (by unfold eW;rw[h2];exact h3) ?_;rw[<- hl,TE]at JC;rw[<- eV,TE]at k_;unfold newRow;refine az (az (oH λr hf=>cK (aq (aq ?_))));have akG:yD.size=n* sz:=by rw[JC.1,hl]
 have zy:jC.size=m* sz:=by rw[k_.1,eV]
 have aW:(yD++jC).size=(n+m)* sz:=by rw[WV,akG,zy,UO]
 refine hK r _ cap' hf ?_ EJ ?_
 ·have e1:(yD++jC++WF z.cells (cap'-(n+m))).extract 0 ((n+m)* sz)=yD++jC:=by
   rw[<- aW];generalize yD++jC=q;apply Va;simp[Array.toList_extract,List.extract_eq_take_drop]
  rw[e1];exact Bc JC k_
 ·rw[WV,aW];have:(WF z.cells (cap'-(n+m))).size=(cap'-(n+m))* sz:=by simp[WF,h5]
  rw[this,<- UO];congr 1;omega
theorem GA(hc:Conc E V s.H){t t' e:TypeId}{sz n m cap:Nat}{z:Value}{base:Option Addr}{av:AV}{v:Value}{en:End}{l l':List AV}{ty:TypeId}(ht:jM P t t'=some (e,sz,z))(hd:ap E (.sl n l en) (.slice base n cap))(cE:ap E av v)(hs:s.src sz av=some (m,l'))
  (hl:l.length=n* sz) (eV:l'.length=m* sz) (hb:n+m<=2^30) (JU:cap<n+m)
  (hK:∀r cs cap',V.fresh r->cL E (l++l') (cs.extract 0 ((n+m)* sz))->n+m<=cap'->cs.size=cap'* sz->K (.slice (some ⟨r,0,none⟩) (n+m) cap') (V.upd r (.cells cs e))):aO P V (U7 #[t,t'] ty #[.slice base n cap,v]) K Kp:=
 abB hc ht hd (by simp only[AS.src];rw[<- hl,TE]) cE hs hl eV hb JU hK
theorem GB(hc:Conc E V s.H){t t' e:TypeId}{sz n cap:Nat}{z:Value}{base:Option Addr}{av:AV}{v:Value}{l':List AV}{ty:TypeId}(ht:jM P t t'=some (e,sz,z))(cE:ap E av v)(hs:s.src sz av=some (0,l'))
  (eV:l'.length=0* sz) (hle:n<=cap) (hK:K (.slice base n cap) V):aO P V (U7 #[t,t'] ty #[.slice base n cap,v]) K Kp:=by
 obtain⟨i,d,h1,h2,h3,h4,h5,h6,h7,h8,h9⟩:=jM.out ht;unfold U7;simp only[UQ,UY,Ut];refine eE h1 ?_;dsimp only;refine j3 h2 ?_;rw[h4];refine eE h8 ?_;refine MD (by cases d<;>first|rfl|exact absurd rfl (h9 _)) ?_;simp only[TC,if_false,XQ,if_true];rw[GI cE hs];refine az (aq ?_);rw[if_pos (by omega)];refine az (C1 hc cE hs eV (SO _) λjC k_=> ?_);have zy:jC=#[]:=by
  have:=k_.1;apply Array.eq_empty_of_size_eq_zero;rw[this];simp
 subst zy;rw[Uv];cases base with
 |none=>exact aq hK
 |some a=>
  dsimp only;unfold storeCells;exact az (aq (aq hK))
theorem abA(hc:Conc E V s.H){t t' e:TypeId}{sz n m cap:Nat}{z:Value}{b:Nat}{av:AV}{v:Value}{l':List AV}{ty:TypeId}{cs:Array Value}{el:TypeId}(ht:jM P t t'=some (e,sz,z))(cE:ap E av v)(hs:s.src sz av=some (m,l'))
  (eV:l'.length=m* sz) (hle:n+m<=cap) (ho:V.own b=some (.cells cs el (0,0))) (aW:cap* sz<=cs.size) (hi:∀o,n* sz<=o->V.ab b o=none) (hg:V.role.group≠some b/\V.role.chan≠some b) (nG:∀a∈l',a.leaf=true)
  (hK:∀jC,cL E l' jC->K (.slice (some ⟨b,0,none⟩) (n+m) cap) (V.upd b (.cells (storeAt cs (n* sz) jC.toList) el (0,0)))):aO P V (U7 #[t,t'] ty #[.slice (some ⟨b,0,none⟩) n cap,v]) K Kp:=by
 obtain⟨i,d,h1,h2,h3,h4,h5,h6,h7,h8,h9⟩:=jM.out ht;unfold U7;simp only[UQ,UY,Ut];refine eE h1 ?_;dsimp only;refine j3 h2 ?_;rw[h4];refine eE h8 ?_;refine MD (by cases d<;>first|rfl|exact absurd rfl (h9 _)) ?_;simp only[TC,if_false,XQ,if_true];rw[GI cE hs];refine az (aq ?_);rw[if_pos (by omega)];refine az (C1 hc cE hs eV (SO _) λjC k_=> ?_);rw[<- eV,TE]at k_;rw[add_plain];have uh:(n+m)* sz<=cap* sz:=T1 _ hle;rw[UO]at uh;refine az (Ag _ 0 V cs hg.1 hg.2 ho (λo h _=>hi o (by omega)) (by have:=k_.1;simp;omega) (Bd k_ nG) ?_);rw[VK,Uv];exact aq (hK jC k_)
end
def Env.tok (E:Env)(I:cz)(rm:Option Addr×Nat)(v:Nat):Env:={E with I:=I,n:=E.n+1,room:=λk u=>if k=E.n/\u=v then rm else E.room k u,fK:=λk=>if k=E.n then v else E.fK k}
theorem Env.Lq(E:Env){I:cz}(hI:∀b o v,E.I b o=some v->I b o=some v)(rm:Option Addr×Nat)(v:Nat):E.Le (E.tok I rm v):=
 ⟨hI,Yc _,λk hk=>rfl,λk hk=>by simp[Env.tok,VC hk],λk u hk _=>by simp[Env.tok,VC hk],rfl,rfl⟩
def Env.grow (E:Env)(I:cz)(k:Nat)(rm:Option Addr×Nat)(v:Nat):Env:={E with I:=I,room:=λj u=>if j=k/\u=v then rm else E.room j u,fK:=λj=>if j=k then v else E.fK j}
theorem Env.Su(E:Env){I:cz}(hI:∀b o v,E.I b o=some v->I b o=some v){k:Nat}(rm:Option Addr×Nat){v:Nat}(hv:E.fK k<v):E.Le (E.grow I k rm v):=
 ⟨hI,SO _,λ_ _=>rfl,λj _=>by
  simp only[Env.grow];split
  ·rename_i e;subst e;omega
  ·exact SO _,λj u _ hu=>by
  simp only[Env.grow];split
  ·rename_i e;obtain⟨rfl,rfl⟩:=e;omega
  ·rfl,rfl,rfl⟩
open Go.Conc
abbrev View.laid (V:View)(b:Nat)(cs:Array Value)(el:TypeId)(p:Nat->Bool):View:=(V.upd b (.cells cs el (0,0))).iw b cs p
theorem Lj{V:View}{b b':Nat}{cs:Array Value}{el:TypeId}{p:Nat->Bool}(h:b'≠b):(V.laid b cs el p).own b'=V.own b':=by simp[View.laid,View.iw,View.upd,h]
theorem Li{V:View}{b b':Nat}{cs:Array Value}{el:TypeId}{p:Nat->Bool}(h:b'≠b)(o:Nat):(V.laid b cs el p).ab b' o=V.ab b' o:=by simp[View.laid,View.iw,View.upd,h]
theorem FS{V:View}{b:Nat}{cs:Array Value}{el:TypeId}{p:Nat->Bool}(hp:∀o,p o=true->V.ab b o=none):∀b' o v,V.ab b' o=some v->(V.laid b cs el p).ab b' o=some v:=λb' o v h=>by
 have hn:¬(b'=b/\p o=true):=λhb=>by obtain⟨rfl,h2⟩:=hb;rw[hp o h2]at h;cases h
 simp only[View.laid,View.iw,View.upd,if_neg hn];exact h
theorem FR{V:View}{b:Nat}{cs:Array Value}{el:TypeId}{p:Nat->Bool}{o:Nat}(h:p o=true):(V.laid b cs el p).ab b o=cs[o]?:=by simp[View.laid,View.iw,h]
theorem Ll{V:View}{b:Nat}{cs:Array Value}{el:TypeId}{p:Nat->Bool}:(V.laid b cs el p).own b=some (.cells cs el (0,0)):=by simp[View.laid,View.iw,View.upd]
theorem Ie{E:Env}{I:cz}{b n cap:Nat}{cs:Array Value}{l:List AV}{e:End}{sz:Nat}(hI:E.I=I)(hd:cL E l (cs.extract 0 (n* sz)))(hl:l.length=n* sz)(hs:n* sz<=cs.size)(hi:∀o,o<n* sz->I b o=cs[o]?)(hc:n<=cap)(he:pE E e (some ⟨b,0,none⟩) n cap):ap E (.sl n l e) (.slice (some ⟨b,0,none⟩) n cap):=by
 refine .sl b 0 cap (λi=>cs.getD i undef) hc he (λi h=> ?_) (λi x hx=> ?_)
 ·rw[hl]at h;have hlt:i<cs.size:=by omega
  rw[hI,VK,hi i h];simp only[SH,SJ hlt,S6]
 ·have cF:i<n* sz:=by rw[<- hl];exact(SM.1 hx).1
  have:=hd.2 i x hx;have hlt:i<cs.size:=by omega
  rw[SH,SJ hlt];rw[SH]at this;rw[Array.getElem?_extract]at this;have Fa:i<min (n* sz) cs.size:=by omega
  simpa[cF,hlt,Fa]using this
section
variable {E:Env}{V:View}{H:List aa}
theorem Conc.MT(hc:Conc E V H){n:Nat}(sz:Nat)(el:TypeId)(a:Option Addr):Conc (E.tok V.ab (a,n) n) V (H++[.tail n sz el])/\E.Le (E.tok V.ab (a,n) n):=by
 have hle:=E.Lq (I:=V.ab) (λb o v h=>by rw[<- hc.I];exact h) (a,n) n;refine⟨hc.i_ H.length (.tail n sz el) hle rfl (by simp[Env.tok,hc.n]) CG rfl (λj hj _=>by simp[Env.tok,hc.n,hj]) (λb y _ hy=>⟨hy,λ_=>rfl⟩) ?_ (λb h=> ?_),hle⟩
 ·rw[<- hc.n];exact⟨by simp[Env.tok], .inl (by simp[Env.tok])⟩
 ·rw[<- hc.n]at h;simp[bN,Env.tok]at h
theorem Conc.acu(hc:Conc E V H){r n cap sz:Nat}{el:TypeId}{cs:Array Value}(hf:V.fresh r)(hs:cs.size=cap* sz)(hn:n<=cap):
  Conc (E.tok (V.laid r cs el (·<n* sz)).ab (some ⟨r,0,none⟩,cap) n) (V.laid r cs el (·<n* sz)) (H++[.tail n sz el])/\E.Le (E.tok (V.laid r cs el (·<n* sz)).ab (some ⟨r,0,none⟩,cap) n):=by
 have hle:=E.Lq (I:=(V.laid r cs el (·<n* sz)).ab) (λb o v h=>FS (λo _=>hf.2 o) b o v (by rw[<- hc.I];exact h)) (some ⟨r,0,none⟩,cap) n;refine⟨hc.i_ H.length (.tail n sz el) hle rfl (by simp[Env.tok,hc.n]) CG rfl (λj hj _=>by simp[Env.tok,hc.n,hj]) (λb y _ hy=> ?_) ?_ (λb h=> .inr ?_),hle⟩
 ·have hb:b≠r:=λe=>by subst e;rw[hf.1]at hy;cases hy
  exact⟨by rw[Lj hb];exact hy,λo=>Li hb o⟩
 ·rw[<- hc.n];refine⟨by simp[Env.tok], ?_⟩;by_cases e:cap=n
  ·exact .inl (by simp[Env.tok,e])
  ·refine .inr ⟨r,cap,cs,by simp[Env.tok],Ll,hs,by omega,λo ho=> ?_⟩;have:¬(decide (o<n* sz)=true):=(by simpa using ho);simp only[View.laid,View.iw];rw[if_neg (λx=>this x.2)];exact hf.2 o
 ·rw[<- hc.n]at h;simp[bN,Env.tok]at h;obtain⟨_,rfl⟩:=h;exact hf.1
theorem Conc.aiD(hc:Conc E V H){k r n n' cap sz:Nat}{el gA:TypeId}{cs:Array Value}(hk:H[k]?=some (.tail n sz gA))(hf:V.fresh r)(hs:cs.size=cap* sz)(hn:n'<=cap)(hlt:n<n'):
  Conc (E.grow (V.laid r cs el (·<n'* sz)).ab k (some ⟨r,0,none⟩,cap) n') (V.laid r cs el (·<n'* sz)) (H.set k (.tail n' sz el))/\E.Le (E.grow (V.laid r cs el (·<n'* sz)).ab k (some ⟨r,0,none⟩,cap) n'):=by
 have zE:E.fK k=n:=(hc.obj k _ hk).1;have hle:=E.Su (I:=(V.laid r cs el (·<n'* sz)).ab) (λb o v h=>FS (λo _=>hf.2 o) b o v (by rw[<- hc.I];exact h)) (k:=k) (some ⟨r,0,none⟩,cap) (v:=n') (by omega);refine⟨hc.i_ k (.tail n' sz el) hle rfl (by simpa[Env.grow]using hc.n) lS rfl (λj hj _=>by simp[Env.grow,hj]) (λb y _ hy=> ?_) ?_ (λb h=> .inr ?_),hle⟩
 ·have hb:b≠r:=λe=>by subst e;rw[hf.1]at hy;cases hy
  exact⟨by rw[Lj hb];exact hy,λo=>Li hb o⟩
 ·refine⟨by simp[Env.grow], ?_⟩;by_cases e:cap=n'
  ·exact .inl (by simp[Env.grow,e])
  ·refine .inr ⟨r,cap,cs,by simp[Env.grow],Ll,hs,by omega,λo ho=> ?_⟩;have:¬(decide (o<n'* sz)=true):=(by simpa using ho);simp only[View.laid,View.iw];rw[if_neg (λx=>this x.2)];exact hf.2 o
 ·simp[bN,Env.grow]at h;obtain⟨_,rfl⟩:=h;exact hf.1
theorem Conc.aiE(hc:Conc E V H){k b n n' cap sz:Nat}{el gA:TypeId}{cs eY:Array Value}(hk:H[k]?=some (.tail n sz gA))(hrm:E.room k n=(some ⟨b,0,none⟩,cap))(ho:V.own b=some (.cells cs el (0,0)))(hi:∀o,n* sz<=o->V.ab b o=none)(hs:eY.size=cap* sz)(hn:n'<=cap)(hlt:n<n'):
  Conc (E.grow (V.laid b eY el (λo=>n* sz<=o&&o<n'* sz)).ab k (some ⟨b,0,none⟩,cap) n') (V.laid b eY el (λo=>n* sz<=o&&o<n'* sz)) (H.set k (.tail n' sz el))/\E.Le (E.grow (V.laid b eY el (λo=>n* sz<=o&&o<n'* sz)).ab k (some ⟨b,0,none⟩,cap) n'):=by
 have zE:E.fK k=n:=(hc.obj k _ hk).1;have hp:∀o,(λo=>decide (n* sz<=o)&&decide (o<n'* sz)) o=true->V.ab b o=none:=λo h=>hi o (by simp at h;exact h.1);have hle:=E.Su (I:=(V.laid b eY el (λo=>n* sz<=o&&o<n'* sz)).ab) (λb o v h=>FS hp b o v (by rw[<- hc.I];exact h)) (k:=k) (some ⟨b,0,none⟩,cap) (v:=n') (by omega);have kF:bN E k (.tail n sz gA)=some b:=by
  simp only[bN,hrm];rw[if_neg (by omega)];rfl
 refine⟨hc.i_ k (.tail n' sz el) hle rfl (by simpa[Env.grow]using hc.n) lS rfl (λj hj _=>by simp[Env.grow,hj]) (λb' y gk hy=> ?_) ?_ (λb' h=> .inl ⟨_,hk, ?_⟩),hle⟩
 ·have hb:b'≠b:=λe=>by subst e;exact gk _ hk kF
  exact⟨by rw[Lj hb];exact hy,λo=>Li hb o⟩
 ·refine⟨by simp[Env.grow], ?_⟩;by_cases e:cap=n'
  ·exact .inl (by simp[Env.grow,e])
  ·have B9:n* sz<=n'* sz:=T1 _ (by omega);refine .inr ⟨b,cap,eY,by simp[Env.grow],Ll,hs,by omega,λo bf=> ?_⟩;have:¬((decide (n* sz<=o)&&decide (o<n'* sz))=true):=(by simp;omega);simp only[View.laid,View.iw];rw[if_neg (λx=>this x.2)];exact hi o (by omega)
 ·simp[bN,Env.grow]at h;obtain⟨_,rfl⟩:=h;exact kF
end
section
variable {lv:Bool}{P:Program}{r:Option Nat}{o:Oper}{s:AS}{next:AS->Prop}{bad:AV->AS->Prop}
def Au (s:AS)(dst:Option Nat)(next:AS->Prop)(n m sz:Nat)(elem:TypeId)(l l':List AV):End->Prop
 | .exact=>next ((⟨s.T,s.H++[.tail (n+m) sz elem]⟩:AS).put dst (.sl (n+m) (l++l') (.opn s.H.length)))
 | .opn k=>(match s.H[k]?with
   |some (.tail n' eP gA)=>n'=n/\eP=sz/\gA=elem
   |_=>False)/\(∀a∈l',a.leaf=true)/\next ((⟨s.T,s.H.set k (.tail (n+m) sz elem)⟩:AS).put dst (.sl (n+m) (l++l') (.opn k)))
 | .shut=>m=0/\next (s.put dst (.sl n l .shut))
theorem afV{E E':Env}{n:Nat}{l:List AV}{en:End}{base:Option Addr}{cap:Nat}(h:ap E (.sl n l en) (.slice base n cap))(hl:E.Le E'){e':End}(he:pE E' e' base n cap):ap E' (.sl n l e') (.slice base n cap):=by
 cases h with
 |sl b o cap f hc _ h1 h2=>exact .sl b o cap f hc he (λi hi=>hl.I _ _ _ (h1 i hi)) (λi x hx=>(h2 i x hx).mono hl)
 |nil _=>exact .nil he
theorem step_append{c:Call}{x y:Operand}{t t' elem:TypeId}{sz n m:Nat}{z:Value}{en:End}{l l':List AV}{av:AV}(ho:o.op= .call c)(aX:c.callee= .builtin .append)(cO:c.args=#[x,y]) (di:c.argTypes=#[t,t']) (ht:jM P t t'=some (elem,sz,z))
  (hx:s.ev x=some (.sl n l en)) (hy:s.ev y=some av) (hs:s.src sz av=some (m,l')) (hl:l.length=n* sz) (eV:l'.length=m* sz) (hb:n+m<=2^30) (hn:Au s o.dst next n m sz elem l l' en):Step lv P r o s next bad:=by
 intro E V a N Q hc aF hd bz h1 _;refine⟨bz, ?_⟩;have dz:=ap.ev aF hx;have iQ:=ap.ev aF hy;generalize ku:a.eval x=vx at dz;generalize rB:a.eval y=vy at iQ;unfold execOp;rw[ho];dsimp only;unfold resolve;rw[aX];dsimp only;refine az (aq ?_);unfold invoke builtin;dsimp only;refine az ?_;have nH:c.args.map a.eval=#[vx,vy]:=by rw[cO];simp[ku,rB]
 rw[nH,di];obtain⟨base,cap,rfl⟩:∃base cap,vx= .slice base n cap:=by
  cases dz with
  |sl b o cap f ec he q1 q2=>exact⟨_,_,rfl⟩
  |nil he=>exact⟨_,_,rfl⟩
 have ec:n<=cap:=by
  cases dz with
  |sl b o cap f ec he q1 q2=>exact ec
  |nil he=>exact SO _
 have fin:∀E' V' H' (mH:AV) v',E.Le E'->V'.role=V.role->V'.deaf=V.deaf->Conc E' V' H'->ap E' mH v'->next ((⟨s.T,H'⟩:AS).put o.dst mH)->aO P V' (pure (Wr v')) (mF lv P r o a N Q) (λv V'=>Q (.panic [{v,recovered:=false}]) a V'):=λE' V' H' mH v' hle hr ua bc bm dc=>
  aq (h1 E' V' (a.put o.dst v') ((⟨s.T,H'⟩:AS).put o.dst mH) ⟨hle,eD _ _ _,put_defers _ _ _,hr,ua⟩ (by rw[fB];exact bc) (cj.hO (s:=⟨s.T,H'⟩) (aF.mono hle) hd bm) dc)
 have sT:(l++l').length=(n+m)* sz:=by rw[SQ,hl,eV,UO]
 cases en with
 |exact=>
  have gX:cap=n:=by
   cases dz with
   |sl b o cap f ec he q1 q2=>exact he
   |nil he=>rfl
  subst gX;have kI:=hn;simp only[Au]at kI;by_cases hm:m=0
  ·subst hm;have sL:l'=[]:=(by simpa using eV);subst sL;refine GB hc ht iQ hs eV (SO _) ?_;obtain⟨bc,hle⟩:=hc.MT (n:=cap) sz elem base;refine fin _ V _ _ _ hle rfl rfl bc (afV (e':= .opn s.H.length) dz hle ⟨?_, ?_, ?_⟩) (by simpa using kI)
   ·simp[Env.tok,hc.n]
   ·simp[Env.tok,hc.n]
   ·simp[Env.tok,hc.n]
  ·refine GA hc ht dz iQ hs hl eV hb (by omega) λrr cs cap' hf bm hle aW=> ?_;obtain⟨bc,rk⟩:=hc.acu (el:=elem) hf aW hle;have un:(cap+m)* sz<=cs.size:=(by rw[aW];exact T1 _ hle);refine aO.ghost (yL (f:=(0,0)) (cs:=cs) (el:=elem) (p:=(·<(cap+m)* sz)) (by simp[View.upd]) (λo _=>hf.2 o)) ?_;refine fin _ _ _ _ _ rk rfl rfl bc (Ie (I:=(V.laid rr cs elem (·<(cap+m)* sz)).ab) (e:= .opn s.H.length) (sz:=sz) (cs:=cs) rfl (bm.mono rk) sT un (λo h=>FR (by simpa using h)) hle ⟨?_, ?_, ?_⟩) kI
   ·simp[Env.tok,hc.n]
   ·simp[Env.tok,hc.n]
   ·simp[Env.tok,hc.n]
 |shut=>
  obtain⟨rfl,kI⟩:=hn;have sL:l'=[]:=by simpa using eV
  subst sL;refine GB hc ht iQ hs eV ec ?_;exact fin E V s.H _ _ (Env.Le.refl E) rfl rfl hc dz kI
 |opn k=>
  obtain⟨zi,nG,kI⟩:=hn;split at zi
  ·rename_i n' eP gA hk;obtain⟨rfl,rfl,rfl⟩:=zi;have heo:pE E (.opn k) base n' cap:=by
    cases dz with
    |sl b o cap f ec he q1 q2=>exact he
    |nil he=>exact he
   obtain⟨e1,e2,e3⟩:=heo;obtain⟨zE,Fp⟩:=hc.obj k _ hk;have zw:s.H.set k (.tail n' eP gA)=s.H:=by
    apply Zw;intro i;by_cases hi:i=k
    ·subst hi;rw[Wv (SM.1 hk).1,hk]
    ·rw[TP (Ne.symm hi)]
   by_cases hm:m=0
   ·subst hm;have sL:l'=[]:=(by simpa using eV);subst sL;refine GB hc ht iQ hs eV ec ?_;refine fin E V s.H _ _ (Env.Le.refl E) rfl rfl hc dz ?_;rw[Uv,zw,SI]at kI;exact kI
   ·by_cases pV:n'+m<=cap
    ·rcases Fp with Fp|⟨b,asb,cs,r1,r2,r3,r4,r5⟩
     ·rw[e3]at Fp;simp only at Fp;omega
     ·rw[e3]at r1;cases r1;have kF:bN E k (.tail n' eP gA)=some b:=by
       simp only[bN,e3];rw[if_neg (by omega)];rfl
      refine abA hc ht iQ hs eV pV r2 (VW r3.symm) r5 (hc.jo hk kF) nG λjC k_=> ?_;have zy:jC.toList.length=m* eP:=(by have:=k_.1;simp;omega);have uh:(n'+m)* eP<=cap* eP:=T1 _ pV;rw[UO]at uh;have Fs:(storeAt cs (n'* eP) jC.toList).size=cap* eP:=(by rw[x9];exact r3);obtain⟨bc,rk⟩:=hc.aiE hk e3 r2 r5 Fs pV (by omega);refine aO.ghost (yL (f:=(0,0)) (cs:=storeAt cs (n'* eP) jC.toList) (el:=gA) (p:=λo=>n'* eP<=o&&o<(n'+m)* eP) (by simp[View.upd]) (λo h=>r5 o (by simp at h;exact h.1))) ?_;refine fin _ _ _ _ _ rk rfl rfl bc ?_ kI;cases dz with
      |nil he=>exact absurd pV (by omega)
      |sl b' o' cap f EJ he q1 q2=>
       have q1':∀i,i<l.length->V.ab b i=some (f i):=λi hi=>(by have:=q1 i hi;rwa [hc.I,VK]at this);refine .sl b 0 cap (λi=>if i<n'* eP then f i else(storeAt cs (n'* eP) jC.toList).getD i undef) (by omega) ⟨?_, ?_, ?_⟩ (λi hi=> ?_) (λi x hx=> ?_)
       ·exact e1
       ·simp[Env.grow]
       ·simp[Env.grow]
       ·rw[sT,UO]at hi;show (V.laid b (storeAt cs (n'* eP) jC.toList) gA (λo=>n'* eP<=o&&o<(n'+m)* eP)).ab b (0+i)=_;rw[VK];by_cases cF:i<n'* eP
        ·rw[if_pos cF];exact FS (λo h=>r5 o (by simp at h;exact h.1)) _ _ _ (q1' i (by omega))
        ·rw[if_neg cF,FR (by simp[UO];omega)];have hlt:i<(storeAt cs (n'* eP) jC.toList).size:=(by rw[Fs];omega);simp only[SH,SJ hlt,S6]
       ·by_cases cF:i<n'* eP
        ·rw[SY (by omega)]at hx;rw[if_pos cF];exact(q2 i x hx).mono rk
        ·rw[Tg (by omega)]at hx;have ud:i-l.length<l'.length:=(SM.1 hx).1;rw[if_neg cF,C7 _ _ _ _ (by rw[zy,r3];omega),if_pos (by rw[zy];omega)];have:=(k_.2 _ _ hx).mono rk;rw[hl]at this;simpa[SH,SF]using this
    ·refine GA hc ht dz iQ hs hl eV hb (by omega) λrr cs cap' hf bm hle aW=> ?_;obtain⟨bc,rk⟩:=hc.aiD (el:=gA) (n':=n'+m) hk hf aW hle (by omega);have un:(n'+m)* eP<=cs.size:=(by rw[aW];exact T1 _ hle);refine aO.ghost (yL (f:=(0,0)) (cs:=cs) (el:=gA) (p:=(·<(n'+m)* eP)) (by simp[View.upd]) (λo _=>hf.2 o)) ?_;refine fin _ _ _ _ _ rk rfl rfl bc (Ie (I:=(V.laid rr cs gA (·<(n'+m)* eP)).ab) (e:= .opn k) (sz:=eP) (cs:=cs) rfl (bm.mono rk) sT un (λo h=>FR (by simpa using h)) hle ⟨?_, ?_, ?_⟩) kI
     ·exact e1
     ·simp[Env.grow]
     ·simp[Env.grow]
  ·exact zi.elim
def Env.ii (E:Env)(r:Nat)(I:cz)(c:Nat):Env:={E with I:=I,n:=E.n+1,blk:=λk=>if k=E.n then r else E.blk k,room:=λk u=>if k=E.n/\u=0 then(none,c)else E.room k u}
theorem Env.CF(E:Env)(r c:Nat){I:cz}(hI:∀b o v,E.I b o=some v->I b o=some v):E.Le (E.ii r I c):=
 ⟨hI,Yc _,λk hk=>by simp[Env.ii,VC hk],λ_ _=>SO _,λk u hk _=>by simp[Env.ii,VC hk],rfl,rfl⟩
theorem Env.wJ(E:Env)(r c:Nat)(I:cz):(E.ii r I c).blk E.n=r:=by simp[Env.ii]
theorem Env.HD(E:Env)(r c:Nat)(I:cz):(E.ii r I c).room E.n 0=(none,c):=by simp[Env.ii]
theorem Conc.ii{E:Env}{V:View}{H:List aa}(hc:Conc E V H){r c:Nat}(hf:V.fresh r){cs:Array Value}{sz:Nat}{l:List AV}{el:TypeId}(hd:j5 (E.ii r V.ab c) l cs)(hs:cs.size=c* sz):Conc (E.ii r V.ab c) (V.upd r (.cells cs el)) (H++[.own sz l el]):=by
 refine hc.i_ (E':=E.ii r V.ab c) H.length (.own sz l el) (E.CF r c (λb o v h=>by rw[<- hc.I];exact h)) rfl (by simp[Env.ii,hc.n]) CG rfl (λ_ _ _=>rfl) (λb z _ hz=>⟨?_,λ_=>rfl⟩) ?_ (λb h=> .inr ?_)
 ·have:b≠r:=λe=>by rw[e,hf.1]at hz;cases hz
  simpa[View.upd,this]using hz
 ·rw[<- hc.n];refine⟨⟨cs,by rw[Env.wJ];simp[View.upd],hd,by rw[Env.HD];exact hs⟩,λo=> ?_⟩;rw[Env.wJ];exact hf.2 o
 ·rw[<- hc.n]at h;simp only[bN,Env.wJ,Te]at h;subst h;exact hf.1
theorem Ib{E:Env}{H:List aa}(hn:E.n=H.length){r c n:Nat}(I:cz)(h:n<=c){cap:Nat}(oA:n<=cap)(hc:cap<=c)(h0:0<n):ap (E.ii r I c) (.bJ H.length 0 n 0) (.slice (some ⟨r,0,none⟩) n cap):=by
 have:=ap.bJ (E:=E.ii r I c) (id:=H.length) (off:=0) (n:=n) (cap:=0) (cap':=cap) (by show _<E.n+1;rw[hn];omega) ⟨oA,λe=>by omega,λ_=>by rw[<- hn,Env.HD];exact hc⟩;have e:(E.ii r I c).blk H.length=r:=by rw[<- hn];exact E.wJ r c I
 rwa [e]at this
theorem Conc.relabel{E:Env}{V:View}{H:List aa}(hc:Conc E V H){id sz:Nat}{l:List AV}{el:TypeId}(hk:H[id]?=some (.own sz l el)):Conc (E.ii (E.blk id) V.ab (E.room id 0).2) V (H.set id .gone++[.own sz l el]):=by
 have hle:=E.CF (E.blk id) (E.room id 0).2 (I:=V.ab) (λb o v h=>by rw[<- hc.I];exact h);have asv:=(SM.1 hk).1;have hlt:∀(j:Nat) y,H[j]?=some y->j<E.n:=λj y h=>by rw[hc.n];exact(SM.1 h).1
 have rf:∀(j:Nat) y,(H.set id .gone++[aa.own sz l el])[j]?=some y->(j=H.length/\y= .own sz l el)\/(j=id/\y= .gone)\/(j≠id/\H[j]?=some y):=λj y h=>by
  rcases CG j y h with⟨h1,h2⟩|⟨_,h⟩
  ·exact .inl ⟨by simpa using h1,h2⟩
  ·rcases lS j y h with h|h
   ·exact .inr (.inl h)
   ·exact .inr (.inr h)
 have cP:∀(j:Nat) y b,H[j]?=some y->bN (E.ii (E.blk id) V.ab (E.room id 0).2) j y=some b->bN E j y=some b:=λj y b h e=>by rw[<- N5 hle (hlt j y h) (hc.obj j y h)];exact e
 have vQ:∀b,bN (E.ii (E.blk id) V.ab (E.room id 0).2) H.length (.own sz l el)=some b->b=E.blk id:=λb e=>by
  simp only[bN,<- hc.n,Env.wJ,Te]at e;exact e.symm
 have gk:∀g,(∀(k:Nat) x,H[k]?=some x->bN E k x≠some g)->∀(k:Nat) x,(H.set id .gone++[aa.own sz l el])[k]?=some x->bN (E.ii (E.blk id) V.ab (E.room id 0).2) k x≠some g:=λg h0 k x hx e=>by
  rcases rf k x hx with⟨rfl,rfl⟩|⟨_,rfl⟩|⟨_,hx⟩
  ·have:=vQ g e;exact h0 id _ hk (by rw[this];rfl)
  ·cases e
  ·exact h0 k x hx (cP k x g hx e)
 refine⟨rfl,by simp[Env.ii,hc.n],λj y h=> ?_,λi j y z b h1 h2 e1 e2=> ?_,λg hg=> ?_,λg hg=> ?_,λhm=>hc.top hm,λb y hf=> ?_⟩
 ·rcases rf j y h with⟨rfl,rfl⟩|⟨_,rfl⟩|⟨_,h⟩
  ·obtain⟨⟨cs,q1,q2,q3⟩,q4⟩:=hc.obj id _ hk;rw[<- hc.n];refine⟨⟨cs,by rw[Env.wJ];exact q1,q2.mono hle,by rw[Env.HD];exact q3⟩,λo=> ?_⟩;rw[Env.wJ];exact q4 o
  ·trivial
  ·exact(hc.obj j y h).mono hle (hlt j y h) rfl (λ_ _ _ h=>h) (λ_ _ _=>rfl)
 ·rcases rf i y h1 with⟨rfl,rfl⟩|⟨_,rfl⟩|⟨hi,h1⟩
  ·rcases rf j z h2 with⟨rfl,rfl⟩|⟨_,rfl⟩|⟨hj,h2⟩
   ·rfl
   ·cases e2
   ·have:=vQ b e1;exact absurd (hc.inj id j _ z b hk h2 (by rw[this];rfl) (cP j z b h2 e2)).symm hj
  ·cases e1
  ·rcases rf j z h2 with⟨rfl,rfl⟩|⟨_,rfl⟩|⟨hj,h2⟩
   ·have:=vQ b e2;exact absurd (hc.inj id i _ y b hk h1 (by rw[this];rfl) (cP i y b h1 e1)).symm hi
   ·cases e2
   ·exact hc.inj i j y z b h1 h2 (cP i y b h1 e1) (cP j z b h2 e2)
 ·obtain⟨h0,h1,h2⟩:=hc.group g hg;exact⟨h0,h1,gk g h2⟩
 ·obtain⟨h0,h1,h2⟩:=hc.chan g hg;exact⟨h0,h1,gk g h2⟩
 ·obtain⟨h0,h1,h2⟩:=hc.fr b y hf;exact⟨h0,h1,gk b h2⟩
theorem Conc.leave{E:Env}{V:View}{H:List aa}(hc:Conc E V H)(id:Nat):Conc E V (H.set id .gone):=
 hc.i_ id .gone (Env.Le.refl E) hc.I (by simpa using hc.n) lS rfl (λ_ _ _=>rfl) (λ_ _ _ hy=>⟨hy,λ_=>rfl⟩) trivial (λb h=>by cases h)
theorem afX{E:Env}{l l':List AV}{cs vs:Array Value}(h:j5 E l cs)(k:cL E l' vs)(hl:l.length+l'.length<=cs.size):j5 E (l++l') (storeAt cs l.length vs.toList):=by
 have hv:vs.toList.length=l'.length:=by simpa using k.1
 refine⟨by rw[x9,SQ];exact hl,λi a e=> ?_⟩;rw[C7 _ _ _ _ (by rw[hv];exact hl),hv];by_cases h1:i<l.length
 ·rw[if_neg (by omega)];rw[SY h1]at e;exact h.2 i a e
 ·rw[Tg (by omega)]at e;have h2:=(SM.1 e).1;rw[if_pos ⟨by omega,by omega⟩];have:=k.2 _ a e;simpa[SH,SF]using this
theorem OI{E:Env}{l:List AV}{cs:Array Value}{k:Nat}(h:cL E l (cs.extract 0 k))(hk:l.length=k)(hs:k<=cs.size):j5 E l cs:=by
 refine⟨by omega,λi a e=> ?_⟩;have hi:=(SM.1 e).1;have gf:i<cs.size:=by omega
 have:=h.2 i a e;rw[SH,Array.getElem?_extract_of_lt (by omega)]at this;rw[SH];simpa[SJ gf]using this
theorem ab5{c:Call}{x y:Operand}{t t' elem:TypeId}{sz n m:Nat}{z:Value}{l l':List AV}{av:AV}(ho:o.op= .call c)(aX:c.callee= .builtin .append)(cO:c.args=#[x,y]) (di:c.argTypes=#[t,t']) (ht:jM P t t'=some (elem,sz,z))
  (hx:s.ev x=some (.sl n l .exact)) (hy:s.ev y=some av) (hs:s.src sz av=some (m,l')) (hl:l.length=n* sz) (eV:l'.length=m* sz) (hb:n+m<=2^30) (hm:0<m) (hn:next ((⟨s.T,s.H++[.own sz (l++l') elem]⟩:AS).put o.dst (.bJ s.H.length 0 (n+m) 0))):Step lv P r o s next bad:=by
 intro E V a N Q hc aF hd bz h1 _;refine⟨bz, ?_⟩;have dz:=ap.ev aF hx;have iQ:=ap.ev aF hy;generalize ku:a.eval x=vx at dz;generalize rB:a.eval y=vy at iQ;unfold execOp;rw[ho];dsimp only;unfold resolve;rw[aX];dsimp only;refine az (aq ?_);unfold invoke builtin;dsimp only;refine az ?_;have nH:c.args.map a.eval=#[vx,vy]:=by rw[cO];simp[ku,rB]
 rw[nH,di];obtain⟨base,cap,rfl⟩:∃base cap,vx= .slice base n cap:=by
  cases dz with
  |sl b o cap f ec he q1 q2=>exact⟨_,_,rfl⟩
  |nil he=>exact⟨_,_,rfl⟩
 have gX:cap=n:=by
  cases dz with
  |sl b o cap f ec he q1 q2=>exact he
  |nil he=>rfl
 subst gX;refine GA hc ht dz iQ hs hl eV hb (by omega) λrr cs cap' hf bm hle aW=> ?_;have sT:(l++l').length=(cap+m)* sz:=by rw[SQ,hl,eV,UO]
 have un:(cap+m)* sz<=cs.size:=by rw[aW];exact T1 _ hle
 have oz:E.Le (E.ii rr V.ab cap'):=E.CF rr cap' (λb o v h=>by rw[<- hc.I];exact h);have bc:=hc.ii (el:=elem) (c:=cap') hf ((OI bm sT un).mono oz) aW;have o5:=Ib hc.n (r:=rr) V.ab hle (n:=cap+m) (cap:=cap') hle (SO _) (by omega);exact aq (h1 _ _ (a.put o.dst _) _ ⟨oz,eD _ _ _,put_defers _ _ _,rfl,rfl⟩ (by rw[fB];exact bc) (cj.hO (s:=⟨s.T,s.H++[.own sz (l++l') elem]⟩) (aF.mono oz) hd o5) hn)
theorem ab4{c:Call}{x y:Operand}{t t' elem el:TypeId}{sz n m c0 id:Nat}{z:Value}{l l':List AV}{av:AV}(ho:o.op= .call c)(aX:c.callee= .builtin .append)(cO:c.args=#[x,y]) (di:c.argTypes=#[t,t']) (ht:jM P t t'=some (elem,sz,z))
  (hx:s.ev x=some (.bJ id 0 n c0)) (xg:c0<n) (ce:s.H[id]?=some (.own sz l el)) (hel:el=elem) (hy:s.ev y=some av) (hs:s.src sz av=some (m,l')) (hl:l.length=n* sz) (eV:l'.length=m* sz) (hb:n+m<=2^30) (nG:∀a∈l',a.leaf=true) (hn:next ((⟨s.T,s.H.set id .gone++[.own sz (l++l') elem]⟩:AS).put o.dst (.bJ s.H.length 0 (n+m) 0))):Step lv P r o s next bad:=by
 subst hel;intro E V a N Q hc aF hd bz h1 _;refine⟨bz, ?_⟩;have dz:=ap.ev aF hx;have iQ:=ap.ev aF hy;generalize ku:a.eval x=vx at dz;generalize rB:a.eval y=vy at iQ;unfold execOp;rw[ho];dsimp only;unfold resolve;rw[aX];dsimp only;refine az (aq ?_);unfold invoke builtin;dsimp only;refine az ?_;have nH:c.args.map a.eval=#[vx,vy]:=by rw[cO];simp[ku,rB]
 rw[nH,di];have ajq:=dz;have sT:(l++l').length=(n+m)* sz:=by rw[SQ,hl,eV,UO]
 have dV:s.src sz (.bJ id 0 n c0)=some (n,l):=by
  simp only[AS.src];rw[ce];simp only[WS];rw[<- hl,TE]
 cases dz with
 |bJ hi ec=>
  rename_i cap';obtain⟨q1,_,q3⟩:=ec;have q3:=q3 xg;obtain⟨⟨cs,p1,p2,p3⟩,p4⟩:=hc.obj id _ ce;by_cases pV:n+m<=cap'
  ·have oo:(n+m)* sz<=cap'* sz:=T1 _ pV;have vw:cap'* sz<=cs.size:=(by rw[p3];exact T1 _ q3);refine abA hc ht iQ hs eV pV p1 vw (λo _=>p4 o) (hc.jo ce rfl) nG λjC k_=> ?_;have JD:j5 E (l++l') (storeAt cs (n* sz) jC.toList):=by
    rw[<- hl];exact afX p2 k_ (by rw[<- SQ,sT];omega)
   have dl:=hc.abN ce JD (by rw[x9];exact p3);have rf:(s.H.set id (.own sz (l++l') el))[id]?=some (.own sz (l++l') el):=(by rw[Wv ((SM.1 ce).1)]);have cT:=dl.relabel rf;rw[Wu]at cT;have oz:E.Le (E.ii (E.blk id) V.ab (E.room id 0).2):=E.CF _ _ (λb o v h=>by rw[<- hc.I];exact h);have o5:ap (E.ii (E.blk id) V.ab (E.room id 0).2) (.bJ s.H.length 0 (n+m) 0) (.slice (some ⟨E.blk id,0,none⟩) (n+m) cap'):=Ib hc.n V.ab (by omega) pV q3 (by omega);exact aq (h1 _ _ (a.put o.dst _) _ ⟨oz,eD _ _ _,put_defers _ _ _,rfl,rfl⟩ (by rw[fB];exact cT) (cj.hO (s:=⟨s.T,s.H.set id .gone++[.own sz (l++l') el]⟩) (aF.mono oz) hd o5) hn)
  ·refine abB hc ht ajq dV iQ hs hl eV hb (by omega) λrr eY A' hf bm hle aW=> ?_;have un:(n+m)* sz<=eY.size:=(by rw[aW];exact T1 _ hle);have oz:E.Le (E.ii rr V.ab A'):=E.CF rr A' (λb o v h=>by rw[<- hc.I];exact h);have EI:=hc.leave id;have bc:=EI.ii (el:=el) (c:=A') hf ((OI bm sT un).mono oz) aW;have o5:ap (E.ii rr V.ab A') (.bJ s.H.length 0 (n+m) 0) (.slice (some ⟨rr,0,none⟩) (n+m) A'):=Ib hc.n V.ab hle hle (SO _) (by omega);exact aq (h1 _ _ (a.put o.dst _) _ ⟨oz,eD _ _ _,put_defers _ _ _,rfl,rfl⟩ (by rw[fB];exact bc) (cj.hO (s:=⟨s.T,s.H.set id .gone++[.own sz (l++l') el]⟩) (aF.mono oz) hd o5) hn)
end
open Go.Conc
theorem bD(n:Int)(h: -9223372036854775808<=n/\n<=9223372036854775807):SE.wrap n=n:=by
 have e:SE.wrap n=if n % 18446744073709551616>=9223372036854775808 then n % 18446744073709551616-18446744073709551616 else n % 18446744073709551616:=by
  unfold Wy;simp[ZL,ZK]
 rw[e];split<;>omega
def cJ (P:Program){α:Type}(s:Sem α)(x:α):Prop:=∀w es,s.runT P w es=(.ok x w,es)
theorem cJ.ok{P:Program}{α:Type}{V:View}{s:Sem α}{x:α}{K:α->View->Prop}{Kp:Value->View->Prop}(h:cJ P s x)(hk:K x V):aO P V s K Kp:=
 λw hw fg=>⟨#[],w,V,by simpa[fS]using dg.idle hw, .inl ⟨x,by rw[h w fg];simp,hk⟩⟩
theorem cJ.bind{P:Program}{α β:Type}{V:View}{s:Sem α}{x:α}{f:α->Sem β}{K:β->View->Prop}{Kp:Value->View->Prop}(h:cJ P s x)(hk:aO P V (f x) K Kp):aO P V (s>>=f) K Kp:=
 az (h.ok hk)
def AV.uZ:AV->Option Int
 | .val (.int _ n)=>some n
 |_=>none
theorem ap.uZ{E:Env}{a:AV}{v:Value}{n:Int}(hd:ap E a v)(h:a.uZ=some n):∃k,v= .int k n:=by
 cases hd with
 |val x=>unfold AV.uZ at h;split at h<;>simp_all
 |_=>cases h
def AS.jc (s:AS):Option Operand->Option (Option Int)
 |none=>some none
 |some x=>match s.ev x with
  |some a=>a.uZ.map some
  |none=>none
theorem yy{E:Env}{s:AS}{a:Act}(k:cj E s.T a.tmps){x:Option Operand}{i:Option Int}(h:s.jc x=some i):(i=none/\x.map a.eval=none)\/∃n kd,i=some n/\x.map a.eval=some (.int kd n):=by
 cases x with
 |none=>cases h;exact .inl ⟨rfl,rfl⟩
 |some x=>
  simp only[AS.jc]at h;split at h
  ·rename_i av hav;obtain⟨n,hn,rfl⟩:=kV h;obtain⟨kd,hv⟩:=(ap.ev k hav).uZ hn;exact .inr ⟨n,kd,rfl,by simp[hv]⟩
  ·cases h
section
variable {P:Program}{V:View}{Kp:Value->View->Prop}
theorem Af{kd:IntKind}{n:Int}{y:Nat}{code:BoundsCode}{K:Nat->View->Prop}(h0:0<=n)(h1:n<=y)(h:K n.toNat V):aO P V (Yw (.int kd n) y code) K Kp:=by
 unfold Yw asIntOf;refine az (aq ?_);dsimp only;rw[if_pos ⟨h0,h1⟩];exact aq h
theorem ME{E:Env}{s:AS}{a:Act}(k:cj E s.T a.tmps){isS:Bool}{len cap:Nat}{lo hi mx:Option Operand}{l h m:Option Int}(hl:s.jc lo=some l)(hh:s.jc hi=some h)(hm:s.jc mx=some m){K:Nat×Nat×Nat->View->Prop}
  (hlc:len<=cap) (c0:0<=l.getD 0) (c1:l.getD 0<=h.getD len) (c2:h.getD len<=m.getD cap) (c3:m.getD cap<=cap) (c4:m.isSome=true->h.isSome=true) (hK:K ((l.getD 0).toNat,(h.getD len).toNat,(m.getD cap).toNat) V):
  aO P V (Ym isS len cap (lo.map a.eval) (hi.map a.eval) (mx.map a.eval)) K Kp:=by
 unfold Ym;rcases yy k hm with⟨rfl,em⟩|⟨vm,km,rfl,em⟩
 ·rw[em];refine az (aq ?_);rcases yy k hh with⟨rfl,eh⟩|⟨vh,kh,rfl,eh⟩
  ·rw[eh];refine az (aq ?_);rcases yy k hl with⟨rfl,el⟩|⟨vl,kl,rfl,el⟩
   ·rw[el];exact az (aq (aq (by simpa using hK)))
   ·rw[el];simp only[S6,UW]at c0 c1 c2;exact az (Af c0 c1 (aq (by simpa using hK)))
  ·rw[eh];simp only[S6,UW]at c0 c1 c2 c3;refine az (Af (by omega) c2 ?_);rcases yy k hl with⟨rfl,el⟩|⟨vl,kl,rfl,el⟩
   ·rw[el];exact az (aq (aq (by simpa using hK)))
   ·rw[el];simp only[S6,UW]at c0 c1 c2;exact az (Af c0 (by omega) (aq (by simpa using hK)))
 ·rw[em];simp only[S6,Option.isSome_some,true_implies]at c2 c3 c4;rcases yy k hh with⟨rfl,eh⟩|⟨vh,kh,rfl,eh⟩
  ·cases c4
  ·rw[eh];simp only[S6]at c1 c2 c0;refine az (Af (by omega) c3 ?_);refine az (Af (by omega) (by omega) ?_);rcases yy k hl with⟨rfl,el⟩|⟨vl,kl,rfl,el⟩
   ·rw[el];exact az (aq (aq (by simpa using hK)))
   ·rw[el];simp only[S6]at c0 c1;exact az (Af c0 (by omega) (aq (by simpa using hK)))
end
def wF (n:Nat)(l:List AV)(e:End)(sz:Nat)(lo hi mx:Option Int)(k:AV->Prop):Prop:=
 l.length=n* sz/\0<=lo.getD 0/\lo.getD 0<=hi.getD n/\hi.getD n<=mx.getD n/\mx.getD n<=n/\(mx.isSome=true->hi.isSome=true)/\
 k (.sl ((hi.getD n).toNat-(lo.getD 0).toNat) ((l.drop ((lo.getD 0).toNat* sz)).take (((hi.getD n).toNat-(lo.getD 0).toNat)* sz))
  (if mx.isSome&&mx.getD n==hi.getD n then .exact else if lo.getD 0==0&&hi.getD n==n&&mx.isNone then e else .shut))
def kB (P:Program)(t:TypeId):Option (TypeId×Nat):=match P.underlying t with
 |some (.slice e)=>(P.info? e).map λi=>(e,i.size)
 |_=>none
def wB (P:Program)(t:TypeId):Option (Nat×Nat):=match P.underlying t with
 |some (.array n e)=>(P.info? e).map λi=>(n,i.size)
 |_=>none
open Go.Conc
section
variable {lv:Bool}{P:Program}{r:Option Nat}{o:Oper}{s:AS}{next:AS->Prop}{bad:AV->AS->Prop}
theorem aok{t e:TypeId}{x:Operand}{lo hi mx:Option Operand}{l h m:Option Int}{n sz:Nat}{li:List AV}{en:End}(ho:o.op= .slice t x lo hi mx)(ht:kB P t=some (e,sz))(hx:s.ev x=some (.sl n li en))(hl:s.jc lo=some l)(hh:s.jc hi=some h)(hm:s.jc mx=some m)
  {k:AV->Prop} (hc:wF n li en sz l h m k):∃av,dC lv P r o s av/\k av:=by
 obtain⟨hlen,c0,c1,c2,c3,c4,hk⟩:=hc;refine⟨_,iX (λE V a hc aF=> ?_),hk⟩;have hd:=ap.ev aF hx;generalize hv:a.eval x=v at hd;unfold kB at ht;split at ht
 ·rename_i e' hu;obtain⟨i,cF,ht⟩:=kV ht;cases ht;unfold execOp;rw[ho];simp only[hv];refine az ?_;unfold XA;refine eE hu ?_;dsimp only;unfold Y2;refine eE hu ?_;obtain⟨base,cap,rfl⟩:∃base cap,v= .slice base n cap:=by
   cases hd with
   |sl b o cap f ec he q1 q2=>exact⟨_,_,rfl⟩
   |nil he=>exact⟨_,_,rfl⟩
  have ec:n<=cap:=by
   cases hd with
   |sl b o cap f ec he q1 q2=>exact ec
   |nil he=>exact SO _
  dsimp only;have hmm:m.getD (cap:Int)=if m.isSome then m.getD n else cap:=by cases m<;>simp
  refine az (ME aF hl hh hm ec c0 c1 ?_ ?_ c4 ?_)
  ·cases m with
   |none=>simp only[UW]at c2⊢;omega
   |some m=>simpa using c2
  ·cases m with
   |none=>simp
   |some m=>simp only[S6]at c3⊢;omega
  refine j3 cF ?_;refine aq (aq ⟨rfl,_,rfl, ?_⟩);generalize hA:(l.getD 0).toNat=A;generalize hB:(h.getD (n:Int)).toNat=B;have PQ:A<=B:=by omega
  have hBn:B<=n:=by omega
  generalize hM:(m.getD (cap:Int)).toNat=M;have hBM:B<=M:=by
   cases m with
   |none=>simp only[UW]at hM;omega
   |some m=>simp only[S6]at hM c2;omega
  cases hd with
  |nil he=>
   have Es:A=0:=(by omega);have hB0:B=0:=(by omega);have hM0:M=0:=by
    cases m with
    |none=>simp only[UW]at hM;omega
    |some m=>simp only[S6]at hM c3;omega
   rw[Es,hB0,hM0];simp only[if_true,Y1,Y4,Zr];refine .nil ?_;split
   ·rfl
   ·split
    ·exact he
    ·trivial
  |sl b o cap f ec he q1 q2=>
   have BF:(if M=A then some (⟨b,o,none⟩:Addr)else(some (⟨b,o,none⟩:Addr)).map λx=>x.add (A* i.size))=some ⟨b,if M=A then o else o+A* i.size,none⟩:=by
    split
    ·rfl
    ·simp only[UB,add_plain]
   rw[BF];have hb:(B-A)* i.size+A* i.size<=n* i.size:=(by rw[<- UO];exact T1 _ (by omega));refine .sl b _ (M-A) (λj=>f (A* i.size+j)) (by omega) ?_ (λj hj=> ?_) (λj y hj=> ?_)
   ·split
    ·rename_i hx;simp only[Td,beq_iff_eq]at hx;cases m with
     |none=>simp at hx
     |some m=>
      simp only[S6]at hM hx;show M-A=B-A;omega
    ·split
     ·rename_i hx;simp only[Td,beq_iff_eq]at hx;obtain⟨⟨x1,x2⟩,x3⟩:=hx;have:A=0:=(by omega);have:B=n:=(by omega);cases m with
      |some m=>cases x3
      |none=>
       simp only[UW]at hM;have hMc:M=cap:=(by omega);subst hMc;have e1:M-A=M:=(by omega);have e2:B-A=n:=(by omega);have e3:(if M=A then o else o+A* i.size)=o:=(by split<;>simp_all);rw[e1,e2,e3];exact he
     ·trivial
   ·simp only[TW,T8]at hj;have hMA:M≠A:=by
     intro e;have:B-A=0:=(by omega);rw[this]at hj;omega
    rw[if_neg hMA,WY];exact q1 _ (by omega)
   ·rw[TY]at hj;split at hj
    ·rw[T9]at hj;exact q2 _ _ hj
    ·cases hj
 ·cases ht
def se (id off n cap sz:Nat)(lo hi mx:Option Int)(k:AV->Prop):Prop:=
 n<=cap/\0<=lo.getD 0/\lo.getD 0<=hi.getD n/\hi.getD n<=mx.getD cap/\mx.getD cap<=cap/\(mx.isSome=true->hi.isSome=true)/\(lo.getD 0=0\/lo.getD 0<mx.getD cap)/\
 k (.bJ id (off+(lo.getD 0).toNat* sz) ((hi.getD n).toNat-(lo.getD 0).toNat) ((mx.getD cap).toNat-(lo.getD 0).toNat))
theorem aom{t e:TypeId}{x:Operand}{lo hi mx:Option Operand}{l h m:Option Int}{id off n cap sz:Nat}(ho:o.op= .slice t x lo hi mx)(ht:kB P t=some (e,sz))(hx:s.ev x=some (.bJ id off n cap))(hl:s.jc lo=some l)(hh:s.jc hi=some h)(hm:s.jc mx=some m)
  {k:AV->Prop} (hc:se id off n cap sz l h m k):∃av,dC lv P r o s av/\k av:=by
 obtain⟨hlen,c0,c1,c2,c3,c4,c5,hk⟩:=hc;refine⟨_,iX (λE V a hc aF=> ?_),hk⟩;have hd:=ap.ev aF hx;generalize hv:a.eval x=v at hd;unfold kB at ht;split at ht
 ·rename_i e' hu;obtain⟨i,cF,ht⟩:=kV ht;cases ht;unfold execOp;rw[ho];simp only[hv];refine az ?_;unfold XA;refine eE hu ?_;dsimp only;unfold Y2;refine eE hu ?_;cases hd with
  |bJ ce ec=>
   rename_i cap';obtain rfl:cap=cap':=ec.2.1 hlen;dsimp only;refine az (ME aF hl hh hm hlen c0 c1 c2 c3 c4 ?_);refine j3 cF ?_;refine aq (aq ⟨rfl,_,rfl, ?_⟩);have BF:(if(m.getD (cap:Int)).toNat=(l.getD 0).toNat then some (⟨E.blk id,off,none⟩:Addr)else(some (⟨E.blk id,off,none⟩:Addr)).map λx=>x.add ((l.getD 0).toNat* i.size))=some ⟨E.blk id,off+(l.getD 0).toNat* i.size,none⟩:=by
    split
    ·have:(l.getD 0).toNat=0:=(by omega);rw[this];simp
    ·simp only[UB,add_plain]
   rw[BF];exact .bJ ce ⟨by dsimp only;omega,λ_=>rfl,λh=>absurd h (by omega)⟩
 ·cases ht
theorem aol{t:TypeId}{x:Operand}{lo hi mx:Option Operand}{l h m:Option Int}{id off n sz:Nat}(ho:o.op= .slice t x lo hi mx)(ht:wB P t=some (n,sz))(hx:s.ev x=some (.op id off))(hl:s.jc lo=some l)(hh:s.jc hi=some h)(hm:s.jc mx=some m)
  {k:AV->Prop} (hc:se id off n n sz l h m k):∃av,dC lv P r o s av/\k av:=by
 obtain⟨hlen,c0,c1,c2,c3,c4,c5,hk⟩:=hc;refine⟨_,iX (λE V a hc aF=> ?_),hk⟩;have hd:=ap.ev aF hx;generalize hv:a.eval x=v at hd;unfold wB at ht;split at ht
 ·rename_i m' e' hu;obtain⟨i,cF,ht⟩:=kV ht;cases ht;unfold execOp;rw[ho];simp only[hv];refine az ?_;unfold XA;refine eE hu ?_;cases hd with
  |op ce=>
   dsimp only;unfold UM;refine az (aq ?_);refine az (ME aF hl hh hm hlen c0 c1 c2 c3 c4 ?_);refine j3 cF ?_;refine aq (aq ⟨rfl,_,rfl, ?_⟩);have BF:(if(m.getD (n:Int)).toNat=(l.getD 0).toNat then(⟨E.blk id,off,none⟩:Addr)else(⟨E.blk id,off,none⟩:Addr).add ((l.getD 0).toNat* i.size))=⟨E.blk id,off+(l.getD 0).toNat* i.size,none⟩:=by
    split
    ·have:(l.getD 0).toNat=0:=(by omega);rw[this];simp
    ·rw[add_plain]
   rw[BF];exact .bJ ce ⟨by dsimp only;omega,λ_=>rfl,λh=>absurd h (by omega)⟩
 ·cases ht
theorem apZ{c:Call}{x y:Operand}{t t' e:TypeId}{id off n cap sz m:Nat}{l l':List AV}{el:TypeId}{av:AV}(ho:o.op= .call c)(aX:c.callee= .builtin .copy)(cO:c.args=#[x,y]) (di:c.argTypes=#[t,t']) (ht:kB P t=some (e,sz)) (hx:s.ev x=some (.bJ id off n cap))
  (hk:s.H[id]?=some (.cells l el)) (hy:s.ev y=some av) (hs:s.src sz av=some (m,l')) (eV:l'.length=m* sz) (hl:off+min m n* sz<=l.length) (nG:∀a∈l',a.leaf=true)
  (hn:next ((⟨s.T,s.H.set id (.cells (iF l off (l'.take (min m n* sz))) el)⟩:AS).put o.dst (.val (.int .i64 (min m n:Nat))))):Step lv P r o s next bad:=by
 intro E V a N Q hc aF hd bz h1 _;refine⟨bz, ?_⟩;have dz:=ap.ev aF hx;have iQ:=ap.ev aF hy;generalize ku:a.eval x=vx at dz;generalize rB:a.eval y=vy at iQ;unfold execOp;rw[ho];dsimp only;unfold resolve;rw[aX];dsimp only;refine az (aq ?_);unfold invoke builtin;dsimp only;refine az ?_;have nH:c.args.map a.eval=#[vx,vy]:=by rw[cO];simp[ku,rB]
 rw[nH,di];unfold kB at ht;split at ht
 ·rename_i e' hu;obtain⟨i,cF,ht⟩:=kV ht;cases ht;cases dz with
  |bJ ce _=>
   obtain⟨⟨cs,p1,p2⟩,p3⟩:=hc.obj id _ hk;obtain⟨g1,g2⟩:=hc.jo hk rfl;unfold ZY;simp only[UQ,UY,Ut];refine eE hu ?_;dsimp only;rw[GI iQ hs];refine az (aq ?_);refine j3 cF ?_;refine az (C1 hc iQ hs eV (YO _ _) λjC k_=> ?_);have h2:(l'.take (min m n* i.size)).length=min m n* i.size:=by
    have:min m n* i.size<=m* i.size:=T1 _ (YO _ _);simp;omega
   refine az (Ag _ 0 V cs g1 g2 p1 (λo _ _=>p3 o) (by
    have hq:jC.size=min m n* i.size:=(by(rw[k_.1];exact h2));have:=p2.1;simp only[Array.length_toList];omega) (Bd k_ (λa ha=>nG a (VL ha))) ?_)
   rw[Uv];refine aq (aq (h1 E _ (a.put o.dst _) _ ⟨Env.Le.refl E,eD _ _ _,put_defers _ _ _,rfl,rfl⟩ (by rw[fB];exact hc.set hk (Ig p2 k_ (by rw[h2];exact hl)))
    (cj.hO (s:=⟨s.T,s.H.set id (.cells (iF l off (l'.take (min m n* i.size))) el)⟩) aF hd (.val _)) hn))
 ·cases ht
def AE (P:Program)(t:TypeId):Option (TypeId×Nat×Value):=match P.underlying t with
 |some (.slice e)=>(P.info? e).bind λi=>i.zero.bind λz=>if z.cells.size=i.size/\i.bytes<=2^16 then some (e,i.size,z)else none
 |_=>none
theorem ab9{t e:TypeId}{x y:Operand}{n sz:Nat}{z:Value}{k k':IntKind}(ho:o.op= .makeSlice t x y)(ht:AE P t=some (e,sz,z))(hx:s.ev x=some (.val (.int k n)))(hy:s.ev y=some (.val (.int k' n)))(hb:n<=2^30)
  (hn:next ((⟨s.T,s.H++[.cells (gU z (n* sz)) e]⟩:AS).put o.dst (.bJ s.H.length 0 n n))):Step lv P r o s next bad:=by
 intro E V a N Q hc aF hd bz h1 _;refine⟨bz, ?_⟩;have dz:=ap.ev aF hx;have iQ:=ap.ev aF hy;generalize ku:a.eval x=vx at dz;generalize rB:a.eval y=vy at iQ;cases dz;cases iQ;unfold AE at ht;split at ht
 ·rename_i e' hu;obtain⟨i,q1,ht⟩:=Tc.1 ht;obtain⟨z',q2,ht⟩:=Tc.1 ht;split at ht
  ·rename_i xi;cases ht;unfold execOp;rw[ho];simp only[ku,rB];refine az ?_;unfold Instr.makeSlice;refine eE hu ?_;dsimp only;refine az (aq ?_);refine az (aq ?_);refine x6 q1 ?_;have hw:SE.wrap (n:Int)=n:=bD _ (by omega);rw[hw];have hmul:i.bytes* n<=2^16* 2^30:=YT xi.2 hb;have asy:(i.bytes:Int)* n<=2^46:=(by exact_mod_cast hmul);rw[if_neg (by simp;omega)];refine az (abC ?_);refine j3 q1 ?_;rw[U8];have fin:∀(zero:Array Value),(∀j,j<n* i.size->zero[j % zero.size]! =z.cells[j % z.cells.size]!)->aO P V (do let a<- newRow e ((VY (n* i.size)).map (zero[· % zero.size]!));pure (Uc (some a) n n)) (λx V'=>aO P V' (pure (Wr x)) (mF lv P r o a N Q) (λv V'=>Q (.panic [{v,recovered:=false}]) a V')) (λv V'=>Q (.panic [{v,recovered:=false}]) a V'):=by
    intro zero hz;unfold newRow;refine az (az (oH λrr hf=>cK (aq (aq (aq ?_)))));have hle:E.Le (E.add rr V.ab):=E.qn rr (λb o v h=>by rw[<- hc.I];exact h);have ai3:(VY (n* i.size)).map (zero[· % zero.size]!)=(VY (n* i.size)).map (λx=>z.cells[x % z.cells.size]!):=by
     apply Va;simp only[Vm];apply U9;intro j hj;exact hz j (by simpa using hj)
    rw[ai3];have bc:Conc (E.add rr V.ab) (V.upd rr (.cells ((VY (n* i.size)).map (λx=>z.cells[x % z.cells.size]!)) e)) (s.H++[.cells (gU z (n* i.size)) e]):=by
     refine hc.add hf _ ⟨⟨_, ?_,Ih z _⟩,λo=> ?_⟩ (λb e=> ?_)
     ·rw[Env.dS];simp[View.upd]
     ·rw[Env.dS];exact hf.2 o
     ·simp only[bN,Env.dS,Te]at e;exact e.symm
    have bm:ap (E.add rr V.ab) (.bJ s.H.length 0 n n) (.slice (some ⟨rr,0,none⟩) n n):=by
     have:=ap.bJ (E:=E.add rr V.ab) (id:=s.H.length) (off:=0) (n:=n) (cap:=n) (cap':=n) (by show _<E.n+1;rw[hc.n];omega) ⟨SO _,λ_=>rfl,λh=>absurd h (Nat.lt_irrefl _)⟩;have e:(E.add rr V.ab).blk s.H.length=rr:=(by rw[<- hc.n];exact E.dS rr _);rwa [e]at this
    exact h1 _ _ (a.put o.dst _) ((⟨s.T,s.H++[.cells (gU z (n* i.size)) e]⟩:AS).put o.dst (.bJ s.H.length 0 n n)) ⟨hle,eD _ _ _,put_defers _ _ _,rfl,rfl⟩ (by rw[fB];exact bc)
     (cj.hO (s:=⟨s.T,s.H++[.cells (gU z (n* i.size)) e]⟩) (aF.mono hle) hd bm) hn
   by_cases h0:n* i.size=0
   ·rw[if_pos h0];refine az (aq ?_);exact fin #[] (λj hj=>by omega)
   ·rw[if_neg h0];refine az (az ?_);unfold typeInfo;refine az (qv (cK ?_));rw[q1];refine aq ?_;rw[q2];refine aq (az (aq ?_));exact fin z.cells (λj _=>rfl)
  ·cases ht
 ·cases ht
def AV.z9:AV->Option Value
 | .val x=>some x
 |_=>none
def AV.raw:AV->Option Value
 | .val x=>some x
 | .agg l=>(l.mapM AV.z9).map λvs=> .agg vs.toArray
 |_=>none
theorem ap.z9{E:Env}{a:AV}{v x:Value}(h:ap E a v)(hr:a.z9=some x):v=x:=by
 cases h<;>cases hr;rfl
theorem ap.raw{E:Env}{a:AV}{v x:Value}(h:ap E a v)(hr:a.raw=some x):v=x:=by
 cases h with
 |val=>cases hr;rfl
 |agg hs h=>
  obtain⟨vs,h1,rfl⟩:=kV hr;congr 1;rename_i l cs;have key:∀(l:List AV)(vs:List Value)(cs:List Value),l.mapM AV.z9=some vs->cs.length=l.length->(∀(i:Nat) a,l[i]?=some a->ap E a (cs.getD i undef))->cs=vs:=by
   intro l;induction l with
   |nil=>intro vs cs h1 h2 _;simp at h1;subst h1;simpa using h2
   |cons a l ih=>
    intro vs cs h1 h2 h3;simp only[TS,T5,TD,Tc,Te]at h1;obtain⟨b,e1,bs,e2,rfl⟩:=h1;cases cs with
    |nil=>simp at h2
    |cons c cs=>
     have hc:=(h3 0 a rfl).z9 e1;have:=ih bs cs e2 (by simpa using h2) (λi x hx=>by simpa using h3 (i+1) x (by simpa using hx));subst this;simp only[WJ]at hc;rw[hc]
  have:=key l vs cs.toList h1 (by simpa using hs) (λi a e=>by have:=h i a e;rw[SH]at this;simpa[SF]using this);rw[<- this]
 |_=>cases hr
def wX:Value->Value->Bool
 | .agg _, .agg _=>true
 | .bool _, .bool _=>true
 |_,_=>false
theorem anX{op:BinOp}{xt yt:TypeId}{x y:Operand}{a b:AV}{X Y:Value}{e:Bool}(ho:o.op= .binOp op xt x y yt)(au:op= .eql\/op= .neq)(hx:s.ev x=some a)(hy:s.ev y=some b)(hX:a.raw=some X)(hY:b.raw=some Y)(hk:wX X Y=true)(hg:P.eqGuardType P.depth xt=false)(he:cJ P (Wa xt X Y) e):
  dC lv P r o s (.val (.bool (if op== .neq then !e else e))):=
 iX (λE V ac hc aF=>by
  have e1:=(ap.ev aF hx).raw hX;have e2:=(ap.ev aF hy).raw hY;unfold execOp;rw[ho];simp only[e1,e2];refine az ?_;have guard:∀{K:Unit->View->Prop},K () V->aO P V (eqGuard op xt x y X Y) K (λ_ _=>False):=λhK=>by
   unfold eqGuard;unfold wX at hk;split at hk
   ·rcases au with rfl|rfl
    all_goals
     simp only[ZD,TC,if_false];refine az (qv (cK ?_));refine az (qv (cK ?_));rw[hg];exact aq hK
   ·rcases au with rfl|rfl<;>exact aq hK
   ·cases hk
  refine az (guard ?_);unfold wX at hk;split at hk
  ·rcases au with rfl|rfl<;>(unfold binOp;refine he.bind (aq (aq ⟨rfl,_,rfl, ?_⟩));exact .val _)
  ·rcases au with rfl|rfl<;>(unfold binOp;refine he.bind (aq (aq ⟨rfl,_,rfl, ?_⟩));exact .val _)
  ·cases hk)
theorem agu{t:TypeId}{v:Value}{b:Bool}{V:View}{K:Bool->View->Prop}{Kp:Value->View->Prop}(ht:mm P t=some true)(hv:(v= .nilIface/\b=true)\/((∃u x,v= .iface u x)/\b=false))(hk:K b V):aO P V (Wa t v .nilIface) K Kp:=by
 obtain⟨el,hu⟩:∃el,P.underlying t=some (.interface el):=by
  unfold mm at ht;cases h:P.underlying t with
  |none=>rw[h]at ht;cases ht
  |some d=>
   rw[h]at ht;cases d<;>first|exact⟨_,rfl⟩|(simp at ht)
 have e:Wa t v .nilIface=U6 (9999+1) t v .nilIface:=rfl;rw[e,U6];refine eE hu ?_;rcases hv with⟨rfl,rfl⟩|⟨⟨u,x,rfl⟩,rfl⟩
 ·exact aq hk
 ·exact aq hk
theorem abf{op:BinOp}{xt yt:TypeId}{x:Operand}{a:AV}{b:Bool}(ho:o.op= .binOp op xt x (.const .nilIface) yt)(au:op= .eql\/op= .neq)(hx:s.ev x=some a)(ha:(a= .val .nilIface/\b=true)\/((∃u y,a= .c_ u y)/\b=false))(ht:mm P xt=some true):
  dC lv P r o s (.val (.bool (if op== .neq then !b else b))):=
 iX (λE V ac hc aF=>by
  have hd:=ap.ev aF hx;generalize ku:ac.eval x=vx at hd;have hv:(vx= .nilIface/\b=true)\/((∃u y,vx= .iface u y)/\b=false):=by
   rcases ha with⟨rfl,rfl⟩|⟨⟨u,y,rfl⟩,rfl⟩
   ·cases hd;exact .inl ⟨rfl,rfl⟩
   ·cases hd;exact .inr ⟨⟨_,_,rfl⟩,rfl⟩
  have hy:ac.eval (.const .nilIface)= .nilIface:=rfl;unfold execOp;rw[ho];simp only[ku,hy];refine az ?_;have guard:∀{K:Unit->View->Prop},K () V->aO P V (eqGuard op xt x (.const .nilIface) vx .nilIface) K (λ_ _=>False):=λhK=>by
   unfold eqGuard;rcases hv with⟨rfl,_⟩|⟨⟨u,y,rfl⟩,_⟩<;>rcases au with rfl|rfl<;>first|exact aq hK|(simp;exact aq hK)
  refine az (guard ?_);rcases hv with⟨rfl,rfl⟩|⟨⟨u,y,rfl⟩,rfl⟩<;>rcases au with rfl|rfl<;>(unfold binOp;refine az (agu (b:=_) ht (by first|exact .inl ⟨rfl,rfl⟩|exact .inr ⟨⟨_,_,rfl⟩,rfl⟩) (aq (aq ⟨rfl,_,rfl, ?_⟩)));exact .val _))
theorem OZ{t:TypeId}{d:TypeId×Nat}{b:Option Addr}{n cap:Nat}{V:View}{K:Bool->View->Prop}{Kp:Value->View->Prop}(ht:kB P t=some d)(hk:K b.isNone V):aO P V (Wa t (.slice b n cap) (.slice none 0 0)) K Kp:=by
 obtain⟨el,hu⟩:∃el,P.underlying t=some (.slice el):=by
  unfold kB at ht;split at ht
  ·rename_i e he;exact⟨e,he⟩
  ·cases ht
 have e:Wa t (.slice b n cap) (.slice none 0 0)=U6 (9999+1) t (.slice b n cap) (.slice none 0 0):=rfl;rw[e,U6];refine eE hu ?_;cases b with
 |none=>exact aq hk
 |some a=>exact aq hk
theorem ap6{op:BinOp}{t yt:TypeId}{x:Operand}{n:Nat}{av:AV}{d:TypeId×Nat}(ho:o.op= .binOp op t x (.const (.slice none 0 0)) yt)(au:op= .eql\/op= .neq)(hx:s.ev x=some av)(hlen:av.len=some n)(ht:kB P t=some d)
  (hn:∀b:Bool,(0<n->b=false)->next (s.put o.dst (.val (.bool (if op== .neq then !b else b))))):Step lv P r o s next bad:=by
 intro E V a N Q hc aF hd bz h1 _;refine⟨bz, ?_⟩;have dz:=ap.ev aF hx;generalize ku:a.eval x=vx at dz;obtain⟨base,cap,rfl,hb⟩:∃base cap,vx= .slice base n cap/\(0<n->base.isNone=false):=by
  cases dz with
  |sl b o cap f ec he q1 q2=>cases hlen;exact⟨_,_,rfl,λ_=>rfl⟩
  |nil he=>cases hlen;exact⟨_,_,rfl,λh=>absurd h (by omega)⟩
  |bJ hi=>cases hlen;exact⟨_,_,rfl,λ_=>rfl⟩
  |_=>cases hlen
 unfold execOp;rw[ho];have hy:a.eval (.const (.slice none 0 0))= .slice none 0 0:=rfl;simp only[ku,hy];have fin:aO P V (pure (Wr (.bool (if op== .neq then !base.isNone else base.isNone)))) (mF lv P r o a N Q) (λv V'=>Q (.panic [{v,recovered:=false}]) a V'):=
  aq (h1 E V (a.put o.dst _) _ ⟨Env.Le.refl E,eD _ _ _,put_defers _ _ _,rfl,rfl⟩ (by rw[fB];exact hc) (aF.hO hd (.val _)) (hn _ hb))
 rcases au with rfl|rfl
 ·refine az (az (aq ?_));unfold binOp;exact az (OZ ht (aq fin))
 ·refine az (az (aq ?_));unfold binOp;exact az (OZ ht (aq fin))
theorem aoc{c:Call}{x y:Operand}{k j:IntKind}{m n:Int}(ho:o.op= .call c)(aX:c.callee= .builtin .max)(cO:c.args=#[x,y]) (hx:s.ev x=some (.val (.int k m))) (hy:s.ev y=some (.val (.int j n))):dC lv P r o s (.val (.int k (if n>m then n else m))):=
 rL (λE V a hc aF=>by
  have h1:=ap.ev aF hx;have h2:=ap.ev aF hy;generalize pt:a.eval x=v1 at h1;generalize sU:a.eval y=v2 at h2;cases h1;cases h2;refine⟨_, ?_, .val _⟩;unfold execOp;rw[ho];dsimp only;unfold resolve;rw[aX];have nH:c.args.map a.eval=#[.int k m, .int j n]:=by rw[cO];simp[pt,sU]
  rw[nH];rfl)
theorem aod{c:Call}{x y:Operand}{k j:IntKind}{m n:Int}(ho:o.op= .call c)(aX:c.callee= .builtin .min)(cO:c.args=#[x,y]) (hx:s.ev x=some (.val (.int k m))) (hy:s.ev y=some (.val (.int j n))):dC lv P r o s (.val (.int k (if n<m then n else m))):=
 rL (λE V a hc aF=>by
  have h1:=ap.ev aF hx;have h2:=ap.ev aF hy;generalize pt:a.eval x=v1 at h1;generalize sU:a.eval y=v2 at h2;cases h1;cases h2;refine⟨_, ?_, .val _⟩;unfold execOp;rw[ho];dsimp only;unfold resolve;rw[aX];have nH:c.args.map a.eval=#[.int k m, .int j n]:=by rw[cO];simp[pt,sU]
  rw[nH];rfl)
theorem abe{x:Operand}{xt aD t:TypeId}{ok:Bool}{av:AV}{z:Value}(ho:o.op= .typeAssert x xt aD ok)(ht:mm P aD=some false)(hz:eW P aD=some z)(hx:s.ev x=some (.c_ t av))(ay:ok=true\/t=aD):
  dC lv P r o s (if t=aD then(if ok then .aK [av, .val (.bool true)]else av)else .aK [AV.of z, .val (.bool false)]):=
 iX (λE V a hc aF=>by
  have hd:=ap.ev aF hx;generalize hv:a.eval x=v at hd;cases hd with
  |c_ hd=>
   obtain⟨d,hu,jV⟩:=kV ht;unfold execOp;rw[ho];simp only[hv];refine az ?_;unfold Yv;refine eE hu ?_;split
   ·rename_i h;cases jV
   ·rename_i h;cases jV
   ·rename_i h;cases h
   ·rename_i t' v' h;cases h;by_cases e:t=aD
    ·rw[if_pos e,if_pos e];cases ok
     ·exact aq (aq ⟨rfl,_,rfl,hd⟩)
     ·refine aq (aq ⟨rfl,_,rfl, .aK rfl λi b hb=> ?_⟩)
      match i,hb with
      |0,hb=>cases hb;exact hd
      |1,hb=>cases hb;exact .val _
    ·rw[if_neg e,if_neg e];have pk:ok=true:=ay.resolve_right e;subst pk;simp only[if_true];refine az (az ?_);unfold eW at hz;obtain⟨inf,z1,z2⟩:=Tc.1 hz;unfold typeInfo;refine az (qv (cK ?_));rw[z1];refine aq ?_;rw[z2];refine aq (aq (aq ⟨rfl,_,rfl, .aK rfl λi b hb=> ?_⟩))
     match i,hb with
     |0,hb=>cases hb;exact sv E z
     |1,hb=>cases hb;exact .val _
   ·exfalso;simp_all)
theorem anR{x:Operand}{xt aD:TypeId}{z:Value}(ho:o.op= .typeAssert x xt aD true)(ht:mm P aD=some false)(hz:eW P aD=some z)(hx:s.ev x=some (.val .nilIface)):dC lv P r o s (.aK [AV.of z, .val (.bool false)]):=
 iX (λE V a hc aF=>by
  have hd:=ap.ev aF hx;generalize hv:a.eval x=v at hd;cases hd;obtain⟨d,hu,jV⟩:=kV ht;unfold execOp;rw[ho];simp only[hv];refine az ?_;unfold Yv;refine eE hu ?_;unfold eW at hz;obtain⟨inf,z1,z2⟩:=Tc.1 hz;split
  ·rename_i h;cases jV
  ·rename_i h;cases h
  ·simp only[if_true];refine az (az ?_);unfold typeInfo;refine az (qv (cK ?_));rw[z1];refine aq ?_;rw[z2];refine aq (aq (aq ⟨rfl,_,rfl, .aK rfl λi b hb=> ?_⟩))
   match i,hb with
   |0,hb=>cases hb;exact sv E z
   |1,hb=>cases hb;exact .val _
  ·rename_i h;cases h
  ·exfalso;simp_all)
def Hx (P:Program)(t:TypeId)(name:String):Prop:=∀v,cJ P (nilAhead (P.types.size+Made.depth) t v name) (some false)
theorem aog{x:Operand}{name:String}{t:TypeId}{av:AV}(ho:o.op= .nilCheck x)(hx:s.ev x=some (.fn (.method name) [.c_ t av] []))(hn:Hx P t name):dC lv P r o s (.fn (.method name) [.c_ t av] []):=
 iX (λE V a hc aF=>by
  have hd:=ap.ev aF hx;unfold execOp;rw[ho];dsimp only;generalize hv:a.eval x=v at hd⊢;have cE:=hd;cases hd with
  |fn dW fA h1 h2=>
   rename_i fa ca;have hfa:fa.size=1:=dW;have:=h1 0 _ rfl;rw[SH,SJ (by omega)]at this;simp only[S6]at this;have hg:fa[0]?=some fa[0]:=SJ (by omega);generalize hq:fa[0]=q at this hg;cases this with
   |c_ jJ=>
    dsimp only;rw[hg];dsimp only;refine az (qv (cK ?_));refine(hn _).bind ?_;simp only[bne_self_eq_false,TC,if_false];exact aq ⟨rfl,_,rfl,cE⟩)
def oQ (P:Program)(t:TypeId):Option (TypeId×TypeId):=match P.underlying t with
 |some (.map k e)=>some (k,e)
 |_=>none
def we (es:Array MapEntry)(ck:Nat)(k x:Value):Option (Nat×Value)->Obj
 |none=> .map (es.push {key:=k,val:=x,born:=ck}) (ck+1)
 |some (i,_)=> .map (es.modify i λe=>{e with key:=k,val:=x}) ck
theorem ap2{t kt et:TypeId}{m k x:Operand}{id ck:Nat}{es:Array MapEntry}{a b:AV}{K X:Value}{fd:Option (Nat×Value)}(ho:o.op= .mapUpdate t m k x\/o.op= .insert t m k x)(ht:oQ P t=some (kt,et))(hm:s.ev m=some (.mp id))(hk:s.ev k=some a)(hx:s.ev x=some b)(hK:a.raw=some K)(hX:b.raw=some X)
  (hH:s.H[id]?=some (.obj (.map es ck))) (hc:cJ P (UN false 10000 kt K) ()) (hf:cJ P (Vq kt K es.toList) fd) (Fq:∀i v,fd=some (i,v)->VR 10000 (((es[i]?).map (·.key)).getD K) K=true)
  (hn:next ((⟨s.T,s.H.set id (.obj (we es ck K X fd))⟩:AS).put o.dst (.val undef))):Step lv P r o s next bad:=by
 intro E V ac N Q jg aF hd bz h1 _;refine⟨bz, ?_⟩;have e1:=(ap.ev aF hk).raw hK;have e2:=(ap.ev aF hx).raw hX;have nC:=ap.ev aF hm;generalize xE:ac.eval m=vm at nC;cases nC;obtain⟨p1,p2,p3,p4⟩:=jg.obj id _ hH;obtain⟨g1,g2⟩:=jg.jo hH rfl;have go:aO P V (do YE t (.map (some (E.blk id))) K X;pure Next.skip) (mF lv P r o ac N Q) (λv V'=>Q (.panic [{v,recovered:=false}]) ac V'):=by
  refine az ?_;unfold oQ at ht;split at ht
  ·rename_i k' e' hu;cases ht;unfold YE;refine eE hu ?_;dsimp only;refine az (nU p1 p2 p3 g2 (cK ?_));dsimp only;refine hc.bind (hf.bind ?_);have fin:∀y,y=we es ck K X fd->aO P V (setObj (E.blk id) y) (λ_ V'=>aO P V' (pure Next.skip) (mF lv P r o ac N Q) (λv V'=>Q (.panic [{v,recovered:=false}]) ac V')) (λv V'=>Q (.panic [{v,recovered:=false}]) ac V'):=λy hy=>by
    have gn:y.uw=false:=(by rw[hy];cases fd<;>rfl);have hy2:y.isChan=false:=(by rw[hy];cases fd<;>rfl);refine xZ p1 p2 hy2 g2 (cK (aq ?_));exact h1 E _ (ac.put o.dst undef) _ ⟨Env.Le.refl E,eD _ _ _,put_defers _ _ _,rfl,rfl⟩ (by rw[fB];rw[hy];exact jg.setObj hH (by cases fd<;>rfl) (by cases fd<;>rfl))
     (cj.hO (s:=⟨s.T,s.H.set id (.obj (we es ck K X fd))⟩) aF hd (.val undef)) hn
   cases fd with
   |none=>exact fin _ rfl
   |some iv=>
    obtain⟨i,v⟩:=iv;dsimp only;unfold Instr.keyThatStays;rw[Fq i v rfl];simp only[if_true];exact az (aq (fin _ rfl))
  ·cases ht
 unfold execOp;rcases ho with ho|ho
 all_goals
  rw[ho];simp only[xE,e1,e2];exact go
def D9 (es:Array MapEntry):Option (Nat×Value)->Array MapEntry
 |some (i,_)=>es.eraseIdxIfInBounds i
 |none=>es
theorem ap0{c:Call}{t t' kt et:TypeId}{m k:Operand}{id ck:Nat}{es:Array MapEntry}{a:AV}{K:Value}{fd:Option (Nat×Value)}(ho:o.op= .call c)(aX:c.callee= .builtin .delete)(cO:c.args=#[m,k]) (di:c.argTypes=#[t,t']) (ht:oQ P t=some (kt,et)) (hm:s.ev m=some (.mp id)) (hk:s.ev k=some a) (hK:a.raw=some K)
  (hH:s.H[id]?=some (.obj (.map es ck))) (hc:cJ P (UN es.isEmpty 10000 kt K) ()) (hf:cJ P (Vq kt K es.toList) fd)
  (hn:next ((⟨s.T,s.H.set id (.obj (.map (D9 es fd) ck))⟩:AS).put o.dst (.val undef))):Step lv P r o s next bad:=by
 intro E V ac N Q jg aF hd bz h1 _;refine⟨bz, ?_⟩;have e1:=(ap.ev aF hk).raw hK;have nC:=ap.ev aF hm;generalize xE:ac.eval m=vm at nC;cases nC;obtain⟨p1,p2,p3,p4⟩:=jg.obj id _ hH;obtain⟨g1,g2⟩:=jg.jo hH rfl;unfold execOp;rw[ho];dsimp only;unfold resolve;rw[aX];dsimp only;refine az (aq ?_);unfold invoke builtin;dsimp only;refine az ?_;have nH:c.args.map ac.eval=#[.map (some (E.blk id)),K]:=by rw[cO];simp[xE,e1]
 rw[nH,di];unfold oQ at ht;split at ht
 ·rename_i k' e' hu;cases ht;unfold ZX;simp only[UQ,UY,Ut];refine eE hu ?_;dsimp only;refine az (nU p1 p2 p3 g2 (cK ?_));dsimp only;refine hc.bind (hf.bind ?_);have fin:∀tQ,tQ=(D9 es fd)->aO P V (setObj (E.blk id) (.map tQ ck)) (λ_ V'=>aO P V' (pure (XW #[])) (λx V'=>aO P V' (pure (Wr x)) (mF lv P r o ac N Q) (λv V'=>Q (.panic [{v,recovered:=false}]) ac V')) (λv V'=>Q (.panic [{v,recovered:=false}]) ac V')) (λv V'=>Q (.panic [{v,recovered:=false}]) ac V'):=λy hy=>by
   refine xZ p1 p2 rfl g2 (cK (aq (aq ?_)));exact h1 E _ (ac.put o.dst undef) _ ⟨Env.Le.refl E,eD _ _ _,put_defers _ _ _,rfl,rfl⟩ (by rw[fB];rw[hy];exact jg.setObj hH rfl rfl)
    (cj.hO (s:=⟨s.T,s.H.set id (.obj (.map (D9 es fd) ck))⟩) aF hd (.val undef)) hn
  cases fd with
  |none=>exact az (fin _ rfl)
  |some iv=>exact az (fin _ rfl)
 ·cases ht
theorem ap5{t kt et:TypeId}{x:Operand}{m ck:Nat}{es:Array MapEntry}(ho:o.op= .range t x)(ht:oQ P t=some (kt,et))(hx:s.ev x=some (.mp m))(hH:s.H[m]?=some (.obj (.map es ck)))
  (hn:next ((⟨s.T,s.H++[.iter m ck #[] ck]⟩:AS).put o.dst (.op s.H.length 0))):Step lv P r o s next bad:=by
 intro E V ac N Q hc aF hd bz h1 _;refine⟨bz, ?_⟩;have nC:=ap.ev aF hx;generalize xE:ac.eval x=vm at nC;cases nC with
 |mp hm=>
  obtain⟨p1,p2,p3,p4⟩:=hc.obj m _ hH;obtain⟨g1,g2⟩:=hc.jo hH rfl;unfold execOp;rw[ho];simp only[xE];refine az ?_;unfold oQ at ht;split at ht
  ·rename_i k' e' hu;cases ht;unfold Instr.range;refine eE hu ?_;refine az (nU p1 p2 p3 g2 (cK ?_));dsimp only;refine az (aq ?_);refine az (oH λrr hf=>cK (aq (aq ?_)));have hle:E.Le (E.add rr V.ab):=E.qn rr (λb o v h=>by rw[<- hc.I];exact h);have bc:Conc (E.add rr V.ab) (V.upd rr (.mapIter (some (E.blk m)) ck #[] ck)) (s.H++[.iter m ck #[] ck]):=by
    refine hc.add hf _ ⟨?_, ?_,λo=> ?_⟩ (λb e=> ?_)
    ·exact Nat.lt_succ_of_lt hm
    ·rw[Env.dS,hle.blk m hm];simp[View.upd]
    ·rw[Env.dS];exact hf.2 o
    ·simp only[bN,Env.dS,Te]at e;exact e.symm
   exact h1 _ _ (ac.put o.dst (.pointer (some ⟨rr,0,none⟩))) ((⟨s.T,s.H++[.iter m ck #[] ck]⟩:AS).put o.dst (.op s.H.length 0)) ⟨hle,eD _ _ _,put_defers _ _ _,rfl,rfl⟩ (by rw[fB];exact bc)
    (cj.hO (s:=⟨s.T,s.H++[.iter m ck #[] ck]⟩) (aF.mono hle) hd (OE hc.n rr V.ab)) hn
  ·cases ht
theorem Conc.setIter{E:Env}{V:View}{H:List aa}(hc:Conc E V H){id m a c:Nat}{b:Array Nat}(hk:H[id]?=some (.iter m a b c))(a':Nat)(b':Array Nat)(c':Nat):Conc E (V.upd (E.blk id) (.mapIter (some (E.blk m)) a' b' c')) (H.set id (.iter m a' b' c')):=by
 obtain⟨p1,p2,p4⟩:=hc.obj id _ hk;refine hc.i_ id (.iter m a' b' c') (Env.Le.refl E) hc.I (by simpa using hc.n) lS rfl (λ_ _ _=>rfl) (λb z hb hz=>⟨?_,λ_=>rfl⟩) ⟨p1,by simp[View.upd],p4⟩ (λb h=> .inl ⟨_,hk,h⟩);have:b≠E.blk id:=λe=>hb _ hk (by rw[e];rfl);simpa[View.upd,this]using hz
theorem ap3{it:Operand}{id m since ck th:Nat}{seen:Array Nat}{es:Array MapEntry}(ho:o.op= .next it false)(hi:s.ev it=some (.op id 0))(hI:s.H[id]?=some (.iter m since seen th))(hM:s.H[m]?=some (.obj (.map es ck)))
  (ay:es.all (λe=>decide (e.born>=th))=false\/es.isEmpty=true\/seen.isEmpty=true)
  (hn:∀e∈es,e.born∉seen->next ((⟨s.T,s.H.set id (.iter m since (seen.push e.born) ck)⟩:AS).put o.dst (.aK [.val (.bool true),AV.of e.key,AV.of e.val])))
  (aj8:(∀e∈es,e.born<since->e.born∈seen)->next (s.put o.dst (.aK [.val (.bool false)]))):Step lv P r o s next bad:=by
 intro E V ac N Q hc aF hd bz h1 _;refine⟨bz, ?_⟩;have ou:=ap.ev aF hi;generalize qj:ac.eval it=vi at ou;cases ou with
 |op ce=>
  obtain⟨q1,q2,q3⟩:=hc.obj id _ hI;obtain⟨p1,p2,p3,p4⟩:=hc.obj m _ hM;have gi:=hc.jo hI rfl;have gm:=hc.jo hM rfl;unfold execOp;rw[ho];simp only[qj];refine az ?_;unfold Instr.next;dsimp only;refine az (nU q2 rfl rfl gi.2 (cK ?_));dsimp only;refine az (nU p1 p2 p3 gm.2 (cK ?_));dsimp only;rw[if_neg (by
   intro h;simp only[Td,TL]at h;rcases ay with hk|hk|hk
   ·rw[hk]at h;cases h.2
   ·rw[hk]at h;cases h.1.2
   ·rw[hk]at h;cases h.1.1)]
  generalize Qm:(if((es.filter λe=> !seen.contains e.born).filter (λe=>decide (e.born<since))).isEmpty=true then#[none]else#[])++((es.filter λe=> !seen.contains e.born).filter (λe=>decide (e.born<since))++(es.filter λe=> !seen.contains e.born).filter (λe=>decide (e.born>=since))).map some=yA;have cw:∀x∈yA,match x with
    |some e=>e∈es/\e.born∉seen
    |none=>∀e∈es,e.born<since->e.born∈seen:=by
   intro x hx;rw[<- Qm]at hx;rcases Uf.1 hx with hx|hx
   ·split at hx
    ·rename_i sH;simp at hx;subst hx;intro e he hlt;apply To;intro ji;have:e∈((es.filter λe=> !seen.contains e.born).filter (λe=>decide (e.born<since))):=(by simp[he,hlt,ji]);rw[Yp]at sH;rw[sH]at this;simp at this
    ·simp at hx
   ·rw[Array.mem_map]at hx;obtain⟨e,he,rfl⟩:=hx;rcases Uf.1 he with he|he<;>simp at he<;>exact⟨he.1,he.2.2⟩
  have Cb:0<yA.size:=by
   rw[<- Qm];split
   ·simp;omega
   ·rename_i sH;have:0<((es.filter λe=> !seen.contains e.born).filter (λe=>decide (e.born<since))).size:=by
     rw[Yp]at sH;exact Array.size_pos_iff.2 sH
    simp only[WV,Array.size_map,List.size_toArray,UA];omega
  have fin:∀j,j<yA.size->aO P V (match yA[j]?with
    |some (some e)=>do setObj (E.blk id) (.mapIter (some (E.blk m)) since (seen.push e.born) ck);pure (XW #[.bool true,e.key,e.val])
    |some none=>pure (XW #[.bool false])
    | none => stuck "Next: no such candidate") (λx V' => aO P V' (pure (Wr x)) (mF lv P r o ac N Q) (λv V' => Q (.panic [{ v, recovered := false }]) ac V')) (λv V' => Q (.panic [{ v, recovered := false }]) ac V') := by
   intro j hj;rw[SJ hj];have hm:=cw yA[j] (Xd hj);generalize yA[j]=x at hm;cases x with
   |none=>
    dsimp only;refine aq (aq ?_);exact h1 E V (ac.put o.dst _) (s.put o.dst (.aK [.val (.bool false)])) ⟨Env.Le.refl E,eD _ _ _,put_defers _ _ _,rfl,rfl⟩ (by rw[fB];exact hc)
     (cj.hO aF hd (.aK rfl λi b hb=>by
      match i,hb with
      |0,hb=>cases hb;exact .val _)) (aj8 hm)
   |some e=>
    dsimp only;refine az (xZ q2 rfl rfl gi.2 (cK (aq (aq ?_))));exact h1 E _ (ac.put o.dst _) _ ⟨Env.Le.refl E,eD _ _ _,put_defers _ _ _,rfl,rfl⟩ (by rw[fB];exact hc.setIter hI since (seen.push e.born) ck)
     (cj.hO (s:=⟨s.T,s.H.set id (.iter m since (seen.push e.born) ck)⟩) aF hd (.aK rfl λi b hb=>by
      match i,hb with
      |0,hb=>cases hb;exact .val _
      |1,hb=>cases hb;exact sv E _
      |2,hb=>cases hb;exact sv E _)) (hn e hm.1 hm.2)
  refine az (abE (λhf=>cK (fin 0 Cb)) (λhf t=>cK (fin _ (ZE _ Cb))))
def AV.found (z:Value)(ok:Bool):Option (Nat×Value)->AV
 |some (_,v)=>if ok then .aK [AV.of v, .val (.bool true)]else AV.of v
 |none=>if ok then .aK [AV.of z, .val (.bool false)]else AV.of z
theorem an9{t kt et:TypeId}{m k:Operand}{id ck:Nat}{es:Array MapEntry}{a:AV}{K z:Value}{ok:Bool}{fd:Option (Nat×Value)}(ho:o.op= .lookup t m k ok)(ht:oQ P t=some (kt,et))(hz:eW P et=some z)(hm:s.ev m=some (.mp id))(hk:s.ev k=some a)(hK:a.raw=some K)
  (hH:s.H[id]?=some (.obj (.map es ck))) (hc:cJ P (UN es.isEmpty 10000 kt K) ()) (hf:cJ P (Vq kt K es.toList) fd):dC lv P r o s (AV.found z ok fd):=
 iX (λE V ac jg aF=>by
  have e1:=(ap.ev aF hk).raw hK;have nC:=ap.ev aF hm;generalize xE:ac.eval m=vm at nC;cases nC;obtain⟨p1,p2,p3,p4⟩:=jg.obj id _ hH;have g:=jg.jo hH rfl;unfold oQ at ht;split at ht
  ·rename_i k' e' hu;cases ht;unfold execOp;rw[ho];simp only[xE,e1];refine az ?_;unfold Instr.lookup;refine eE hu ?_;dsimp only;refine az (az (nU p1 p2 p3 g.2 (aq (aq ?_))));refine hc.bind (az (hf.ok ?_));have two:∀(v:Value)(b:Bool)(i:Nat)(x:AV),[AV.of v, .val (.bool b)][i]?=some x->ap E x ((#[v,WB b]:Array Value).getD i undef):=λv b i x hx=>by
    match i,hx with
    |0,hx=>cases hx;exact sv E _
    |1,hx=>cases hx;exact .val _
   cases fd with
   |some iv=>
    obtain⟨i,v⟩:=iv;refine aq (aq ⟨rfl,_,rfl, ?_⟩);cases ok with
    |true=>exact .aK rfl (two v true)
    |false=>exact sv E _
   |none=>
    refine GC hz (aq (aq ⟨rfl,_,rfl, ?_⟩));cases ok with
    |true=>exact .aK rfl (two z false)
    |false=>exact sv E _
  ·cases ht)
theorem anW{it:Operand}{id m since ck:Nat}{seen:Array Nat}{es:Array MapEntry}{b:Nat}{e:MapEntry}(ho:o.op= .entry it)(hi:s.ev it=some (.op id 0))(hI:s.H[id]?=some (.iter m since seen ck))(hM:s.H[m]?=some (.obj (.map es ck)))
  (hb:seen.back?=some b) (he:es.find? (·.born==b)=some e):dC lv P r o s (.aK [AV.of e.key,AV.of e.val]):=
 iX (λE V ac hc aF=>by
  have ou:=ap.ev aF hi;generalize qj:ac.eval it=vi at ou;cases ou with
  |op ce=>
   obtain⟨q1,q2,q3⟩:=hc.obj id _ hI;obtain⟨p1,p2,p3,p4⟩:=hc.obj m _ hM;have gi:=hc.jo hI rfl;have gm:=hc.jo hM rfl;unfold execOp;rw[ho];simp only[qj];refine az ?_;unfold Instr.entry;dsimp only;refine az (nU q2 rfl rfl gi.2 (cK ?_));dsimp only;rw[hb];dsimp only;refine az (nU p1 p2 p3 gm.2 (cK ?_));dsimp only;rw[if_neg (by simp)];rw[he];refine aq (aq ⟨rfl,_,rfl, .aK rfl λi b hb=> ?_⟩)
   match i,hb with
   |0,hb=>cases hb;exact sv E _
   |1,hb=>cases hb;exact sv E _)
end
open Go.Conc
def gW (E:Env)(V:View)(k:AV->List aa->Prop)(kp:AV->List aa->Prop):Out->View->Prop
 | .ret v,V'=>∃av E' H',E.Le E'/\V'.role=V.role/\V'.deaf=V.deaf/\ap E' av v/\Conc E' V' H'/\k av H'
 | .panic ch,V'=>∃pv v E' H',ch=[{v,recovered:=false}]/\E.Le E'/\V'.role=V.role/\V'.deaf=V.deaf/\ap E' pv v/\Conc E' V' H'/\kp pv H'
def bi (lv:Bool)(P:Program)(f:FuncId)(H:List aa)(args:List AV)(k:AV->List aa->Prop)(kp:AV->List aa->Prop):Prop:=
 ∀(E:Env)(V:View)(vs:Array Value),Conc E V H->cL E args vs->Body lv P f vs .normal V (gW E V k kp)
def Nx (lv:Bool)(P:Program)(R:Out->View->Prop):Next->View->Prop
 | .value v,V=>R (.ret v) V
 | .skip,V=>R (.ret undef) V
 | .enter f args,V=>Body lv P f args .normal V R
 | .round l f tmps assign body,V=>na lv P (Ww l f tmps assign body .normal) V R
 |_,_=>False
def ja (lv:Bool)(P:Program)(c:AV)(H:List aa)(args:List AV)(k:AV->List aa->Prop)(kp:AV->List aa->Prop):Prop:=
 ∀(E:Env)(V:View)(cv:Value)(vs:Array Value),Conc E V H->ap E c cv->cL E args vs->
  aO P V (do let d<- UI cv vs;invoke d.target d.args) (λnx V'=>Nx lv P (gW E V k kp) nx V') (λv V'=>gW E V k kp (.panic [{v,recovered:=false}]) V')
def Dz (lv:Bool)(P:Program)(c:AV)(name:String)(H:List aa)(args:List AV)(k:AV->List aa->Prop)(kp:AV->List aa->Prop):Prop:=
 ∀(E:Env)(V:View)(cv:Value)(vs:Array Value),Conc E V H->ap E c cv->cL E args vs->
  aO P V (invoke (.fn (.method name) #[]) (#[cv]++vs)) (λnx V'=>Nx lv P (gW E V k kp) nx V') (λv V'=>gW E V k kp (.panic [{v,recovered:=false}]) V')
theorem gW.mono{E:Env}{V:View}{k k' kp vZ:AV->List aa->Prop}(h:∀a H,k a H->k' a H)(hp:∀a H,kp a H->vZ a H):∀{o V'},gW E V k kp o V'->gW E V k' vZ o V'
 | .ret _,_,⟨av,E',H',a,b,c,d,e,f⟩=>⟨av,E',H',a,b,c,d,e,h _ _ f⟩
 | .panic _,_,⟨pv,v,E',H',a,b,c,d,e,f,g⟩=>⟨pv,v,E',H',a,b,c,d,e,f,hp _ _ g⟩
theorem Nx.mono{lv:Bool}{P:Program}{R R':Out->View->Prop}(h:∀o V,R o V->R' o V):∀{nx V},Nx lv P R nx V->Nx lv P R' nx V:=by
 intro nx V hn;cases nx with
 |value v=>exact h _ _ hn
 |skip=>exact h _ _ hn
 |enter f args=>exact Body.mono hn h
 |round l f tmps a b=>exact na.mono hn h
 |_=>exact hn
theorem bi.mono{lv:Bool}{P:Program}{f:FuncId}{H:List aa}{args:List AV}{k k' kp vZ:AV->List aa->Prop}(h:bi lv P f H args k kp)(hk:∀a H,k a H->k' a H)(hp:∀a H,kp a H->vZ a H):bi lv P f H args k' vZ:=λE V vs hc hd=>
 (h E V vs hc hd).mono λ_ _ x=>x.mono hk hp
theorem ja.mono{lv:Bool}{P:Program}{f:AV}{H:List aa}{args:List AV}{k k' kp vZ:AV->List aa->Prop}(h:ja lv P f H args k kp)(hk:∀a H,k a H->k' a H)(hp:∀a H,kp a H->vZ a H):ja lv P f H args k' vZ:=λE V cv vs hc hd o6=>
 (h E V cv vs hc hd o6).mono (λ_ _ x=>Nx.mono (λ_ _ y=>y.mono hk hp) x) (λ_ _ y=>y.mono hk hp)
def qA (P:Program)(g:FuncId):Bool:=match P.funcs[g]?with
 | some fn => fn.body.isSome && !(fn.name == "runtime.NumGoroutine")
 |none=>false
theorem apa{lv:Bool}{P:Program}{V:View}{g:FuncId}{vs:Array Value}{R:Out->View->Prop}{Kp:Value->View->Prop}(hg:qA P g=true)(h:Body lv P g vs .normal V R):aO P V (callFunc g vs) (λnx V'=>Nx lv P R nx V') Kp:=by
 unfold callFunc;refine az (qv (cK ?_));unfold qA at hg;split at hg
 ·rename_i fn xk;simp only[Td,TL]at hg;rw[xk];dsimp only;have Ju:fn.body.isNone=false:=by
   have h1:=hg.1;cases hb:fn.body with
   |none=>rw[hb]at h1;cases h1
   |some _=>rfl
  rw[if_neg (by rw[hg.2];simp),if_neg (by rw[Ju];simp)];exact aq h
 ·cases hg
section
variable {lv:Bool}{P:Program}{H:List aa}{args:List AV}{k kp:AV->List aa->Prop}
theorem HW{g:FuncId}{first cS:List AV}(hg:qA P g=true)(hf:bi lv P g H (first++args++cS) k kp):ja lv P (.fn (.func g) first cS) H args k kp:=by
 intro E V cv vs hc hd o6;cases hd with
 |fn dW fA h1 h2=>
  rename_i fa ca;unfold UI;refine az (aq ?_);unfold invoke;dsimp only;exact apa hg (hf E V _ hc (Bc (Bc ⟨dW,h1⟩ o6) ⟨fA,h2⟩))
end
def fx (s:AS):List Operand->Option (List AV)
 |[]=>some []
 |x::l=>match s.ev x,fx s l with
  |some a,some aD=>some (a::aD)
  |_,_=>none
theorem yJ{E:Env}{s:AS}{a:Act}(k:cj E s.T a.tmps):∀{l:List Operand}{aD:List AV},fx s l=some aD->cL E aD (l.map a.eval).toArray
 |[],_,h=>by cases h;exact⟨rfl,by simp⟩
 |x::l,aD,h=>by
  simp only[fx]at h;split at h
  ·rename_i av l7 h1 h2;cases h;have ih:=yJ k h2;refine⟨by have:=ih.1;simpa using this,λi b e=> ?_⟩;cases i with
   |zero=>simp at e;subst e;simpa[SH]using ap.ev k h1
   |succ i=>
    simp only[Ut]at e;have:=ih.2 i b e;simpa[SH]using this
  ·cases h
section
variable {lv:Bool}{P:Program}{r:Option Nat}{o:Oper}{s:AS}{next:AS->Prop}{bad:AV->AS->Prop}
theorem aaO{E:Env}{V:View}{a:Act}{N:Act->View->Prop}{Q:Ex->Act->View->Prop}(aF:cj E s.T a.tmps)(hd:∀d,o.dst=some d->d<a.tmps.size)
  (h1:∀E' V' a' s',Kept E E' V V' a a'->Conc E' V' s'.H->cj E' s'.T a'.tmps->next s'->N a' V')
  (h2:∀E' V' s' pv v,Kept E E' V V' a a->Conc E' V' s'.H->cj E' s'.T a.tmps->ap E' pv v->bad pv s'->Q (.panic [{v,recovered:=false}]) a V'):
  (∀nx V',Nx lv P (gW E V (λb H'=>next ((⟨s.T,H'⟩:AS).put o.dst b)) (λpv H'=>bad pv ⟨s.T,H'⟩)) nx V'->mF lv P r o a N Q nx V')/\
  (∀v V',gW E V (λb H'=>next ((⟨s.T,H'⟩:AS).put o.dst b)) (λpv H'=>bad pv ⟨s.T,H'⟩) (.panic [{v,recovered:=false}]) V'->Q (.panic [{v,recovered:=false}]) a V'):=by
 have hv:∀v V',gW E V (λb H'=>next ((⟨s.T,H'⟩:AS).put o.dst b)) (λpv H'=>bad pv ⟨s.T,H'⟩) (.ret v) V'->N (a.put o.dst v) V':=λv V' ⟨av,E',H',hle,b8,fl,bm,bc,hk⟩=>
  h1 E' V' _ _ ⟨hle,eD _ _ _,put_defers _ _ _,b8,fl⟩ (by rw[fB];exact bc) (cj.hO (s:=⟨s.T,H'⟩) (aF.mono hle) hd bm) hk
 have hp:∀ch V',gW E V (λb H'=>next ((⟨s.T,H'⟩:AS).put o.dst b)) (λpv H'=>bad pv ⟨s.T,H'⟩) (.panic ch) V'->Q (.panic ch) a V':=λch V' ⟨pv,v,E',H',fi,hle,b8,fl,bm,bc,hk⟩=>by
  subst fi;exact h2 E' V' ⟨s.T,H'⟩ pv v ⟨hle,rfl,rfl,b8,fl⟩ bc (aF.mono hle) bm hk
 refine⟨λnx V' hn=> ?_,λv V' h=>hp _ _ h⟩;cases nx with
 |value v=>exact hv _ _ hn
 |skip=>exact hv _ _ hn
 |enter f args=>
  refine Body.mono (R':=fun
   | .ret v,V'=>N (a.put o.dst v) V'
   | .panic ch,V'=>Q (.panic ch) a V') hn λot aU h=> ?_
  cases ot with
  |ret v=>exact hv _ _ h
  |panic ch=>exact hp _ _ h
 |round l f tmps aD b=>
  refine na.mono (R':=fun
   | .ret v,V'=>N (a.put o.dst v) V'
   | .panic ch,V'=>Q (.panic ch) a V') hn λot aU h=> ?_
  cases ot with
  |ret v=>exact hv _ _ h
  |panic ch=>exact hp _ _ h
 |_=>exact hn.elim
theorem MN{c:Call}{x:Operand}{sq:AV}{aD:List AV}(ho:o.op= .call c)(aX:c.callee= .value x)(hx:s.ev x=some sq)(has:fx s c.args.toList=some aD)
  (hf:ja lv P sq s.H aD (λb H'=>next ((⟨s.T,H'⟩:AS).put o.dst b)) (λpv H'=>bad pv ⟨s.T,H'⟩)):Step lv P r o s next bad:=by
 intro E V a N Q hc aF hd bz h1 h2;have rz:=aaO (lv:=lv) (P:=P) (r:=r) aF hd h1 h2;refine⟨bz, ?_⟩;unfold execOp;rw[ho];dsimp only;unfold resolve;rw[aX];dsimp only;have e:c.args.map a.eval=(c.args.toList.map a.eval).toArray:=by apply Va;simp
 rw[e];exact(hf E V (a.eval x) _ hc (ap.ev aF hx) (yJ aF has)).mono (λnx V' h=>rz.1 nx V' h) (λv V' h=>rz.2 v V' h)
theorem ab8{c:Call}{x:Operand}{name:String}{sq:AV}{aD:List AV}(ho:o.op= .call c)(aX:c.callee= .invoke x name)(hx:s.ev x=some sq)(has:fx s c.args.toList=some aD)
  (hf:Dz lv P sq name s.H aD (λb H'=>next ((⟨s.T,H'⟩:AS).put o.dst b)) (λpv H'=>bad pv ⟨s.T,H'⟩)):Step lv P r o s next bad:=by
 intro E V a N Q hc aF hd bz h1 h2;have rz:=aaO (lv:=lv) (P:=P) (r:=r) aF hd h1 h2;refine⟨bz, ?_⟩;unfold execOp;rw[ho];dsimp only;unfold resolve;rw[aX];dsimp only;refine az (aq ?_);have e:c.args.map a.eval=(c.args.toList.map a.eval).toArray:=by apply Va;simp
 rw[e];exact(hf E V (a.eval x) _ hc (ap.ev aF hx) (yJ aF has)).mono (λnx V' h=>rz.1 nx V' h) (λv V' h=>rz.2 v V' h)
theorem ap4{x:Operand}{t:TypeId}{av:AV}(ho:o.op= .panic x)(hx:s.ev x=some (.c_ t av))(hb:bad (.c_ t av) s):Step lv P r o s next bad:=by
 intro E V a N Q hc aF hd bz _ h2;refine⟨bz, ?_⟩;have dz:=ap.ev aF hx;unfold execOp;rw[ho];dsimp only;refine az ?_;generalize a.eval x=v at dz⊢;have ajp:=dz;cases dz with
 |c_ hv=>
  unfold Instr.panic;dsimp only;exact api (h2 E V s (.c_ t av) _ ⟨Env.Le.refl E,rfl,rfl,rfl,rfl⟩ hc aF ajp hb)
end
structure DC (k kp:AV->List aa->Prop):Type where
 n:Nat
def Av (lv:Bool)(P:Program)(c:AV)(H:List aa)(args:List AV)(k kp:AV->List aa->Prop)(_t:DC k kp):Prop:=ja lv P c H args k kp
def ac6 (lv:Bool)(P:Program)(c:AV)(name:String)(H:List aa)(args:List AV)(k kp:AV->List aa->Prop)(_t:DC k kp):Prop:=Dz lv P c name H args k kp
theorem wR{lv:Bool}{P:Program}{c:AV}{H:List aa}{args:List AV}{k kp:AV->List aa->Prop}{t:DC k kp}(h:ja lv P c H args k kp):Av lv P c H args k kp t:=h
def an {α:Type}(x:Option α)(k:α->Prop):Prop:=match x with
 |some a=>k a
 |none=>False
def AV.asBool (a:AV)(k:Bool->Prop):Prop:=match a with
 | .val (.bool b)=>k b
 |_=>False
def AV.asInt (a:AV)(k:IntKind->Int->Prop):Prop:=match a with
 | .val (.int j n)=>k j n
 |_=>False
def AV.wL (a:AV)(k:List AV->Prop):Prop:=match a with
 | .aK l=>k l
 |_=>False
def AV.asAgg (a:AV)(k:List AV->Prop):Prop:=match a with
 | .agg l=>k l
 |_=>False
def AV.pJ (a:AV)(k:Nat->Nat->Prop):Prop:=match a with
 | .op i j=>k i j
 |_=>False
def AV.sj (a:AV)(k:Nat->Prop):Prop:=match a with
 | .mp i=>k i
 |_=>False
def AV.u5 (a:AV)(k:Nat->List AV->End->Prop):Prop:=match a with
 | .sl n l e=>k n l e
 |_=>False
theorem an.out{α:Type}{x:Option α}{k:α->Prop}(h:an x k):∃a,x=some a/\k a:=by
 cases x with
 |none=>exact h.elim
 |some a=>exact⟨a,rfl,h⟩
theorem yu{a:AV}{k:Bool->Prop}(h:a.asBool k):∃b,a= .val (.bool b)/\k b:=by
 unfold AV.asBool at h;split at h
 ·exact⟨_,rfl,h⟩
 ·exact h.elim
theorem n9{a:AV}{k:IntKind->Int->Prop}(h:a.asInt k):∃j n,a= .val (.int j n)/\k j n:=by
 unfold AV.asInt at h;split at h
 ·exact⟨_,_,rfl,h⟩
 ·exact h.elim
theorem aew{a:AV}{k:List AV->Prop}(h:a.wL k):∃l,a= .aK l/\k l:=by
 unfold AV.wL at h;split at h
 ·exact⟨_,rfl,h⟩
 ·exact h.elim
theorem aen{a:AV}{k:List AV->Prop}(h:a.asAgg k):∃l,a= .agg l/\k l:=by
 unfold AV.asAgg at h;split at h
 ·exact⟨_,rfl,h⟩
 ·exact h.elim
theorem A4{a:AV}{k:Nat->Nat->Prop}(h:a.pJ k):∃i j,a= .op i j/\k i j:=by
 unfold AV.pJ at h;split at h
 ·exact⟨_,_,rfl,h⟩
 ·exact h.elim
theorem DW{a:AV}{k:Nat->Prop}(h:a.sj k):∃i,a= .mp i/\k i:=by
 unfold AV.sj at h;split at h
 ·exact⟨_,rfl,h⟩
 ·exact h.elim
theorem NH{a:AV}{k:Nat->List AV->End->Prop}(h:a.u5 k):∃n l e,a= .sl n l e/\k n l e:=by
 unfold AV.u5 at h;split at h
 ·exact⟨_,_,_,rfl,h⟩
 ·exact h.elim
section
variable (P:Program)(s:AS)
def du (op:BinOp)(xt:TypeId)(a b:AV)(k:AV->Prop):Prop:=match a,b with
 | .val (.int j m), .val (.int j' n)=>if mU op then an (Ah op j m n) λv=>k (.val v)else j'=j/\an (l8 op j m n) λv=>k (.val v)
 |_,_=>(op= .eql\/op= .neq)/\an a.raw λX=>an b.raw λY=>wX X Y=true/\P.eqGuardType P.depth xt=false/\∃e,cJ P (Wa xt X Y) e/\k (.val (.bool (if op== .neq then !e else e)))
def iK (op:BinOp)(xt:TypeId)(y:Operand)(a:AV)(k:AV->Prop):Prop:=match y,a with
 | .const .nilIface, .val .nilIface=>mm P xt=some true/\(op= .eql\/op= .neq)/\k (.val (.bool (if op== .neq then false else true)))
 | .const .nilIface, .c_ _ _=>mm P xt=some true/\(op= .eql\/op= .neq)/\k (.val (.bool (if op== .neq then true else false)))
 |y,a=>an (s.ev y) λb=>du P op xt a b k
def rX (t:TypeId)(a:AV)(l h m:Option Int)(k:AV->Prop):Prop:=match a with
 | .sl n li e=>an (kB P t) λ(_,sz)=>wF n li e sz l h m k
 | .bJ id off n cap=>an (kB P t) λ(_,sz)=>se id off n cap sz l h m k
 | .op id off=>an (wB P t) λ(n,sz)=>se id off n n sz l h m k
 |_=>False
def rW (t:TypeId)(a:AV)(k:AV->Prop):Prop:=match ly P t,a with
 |some .slice, .sl n _ _=>k (.val (.int .i64 n))
 |some .slice, .bJ _ _ n _=>k (.val (.int .i64 n))
 |some .str, .val (.string b)=>k (.val (.int .i64 b.size))
 |some .map, .mp id=>match s.H[id]?with
  |some (.obj (.map es _))=>k (.val (.int .i64 es.size))
  |_=>False
 |_,_=>False
def mz (a:AV)(k:AV->Prop):Prop:=match a with
 | .fn (.method name) [.c_ t av] []=>Hx P t name/\k (.fn (.method name) [.c_ t av] [])
 |a=>a.sure=true/\k a
def Ar (aD:TypeId)(ok:Bool)(a:AV)(k:AV->Prop):Prop:=mm P aD=some false/\an (eW P aD) λz=>match a with
 | .c_ t av=>if t=aD then k (if ok then .aK [av, .val (.bool true)]else av)else ok=true/\k (.aK [AV.of z, .val (.bool false)])
 | .val .nilIface=>ok=true/\k (.aK [AV.of z, .val (.bool false)])
 |_=>False
def lx (o:Oper)(k:AV->Prop):Prop:=match o.op with
 | .move x=>an (s.ev x) k
 | .assign x=>an (s.ev x) k
 | .pick c x y=>an (s.ev c) λb=>an (s.ev x) λa=>an (s.ev y) λa'=>b.asBool λb=>k (if b then a else a')
 | .binOp op xt x y _=>an (s.ev x) λa=>iK P s op xt y a k
 | .unOp .not _ x=>an (s.ev x) λa=>a.asBool λb=>k (.val (.bool !b))
 | .unOp .neg _ x=>an (s.ev x) λa=>a.asInt λj n=>k (.val (.int j (j.wrap (0-n))))
 | .convert src dst x=>an (s.ev x) λa=>match Aw P src dst with
   |some (some j)=>a.asInt λ_ n=>k (.val (.int j (j.wrap n)))
   |_=>False
 | .extract x i=>an (s.ev x) λa=>a.wL λl=>an l[i]? k
 | .nilCheck x=>an (s.ev x) λa=>mz P a k
 | .makeInterface t x=>mm P t=some false/\an (s.ev x) λa=>k (.c_ t a)
 | .makeFunc f first cS=>an (first.toList.mapM s.ev) λfa=>an (cS.toList.mapM s.ev) λca=>k (.fn f fa ca)
 | .typeAssert x _ aD ok=>an (s.ev x) λa=>Ar P aD ok a k
 | .build t parts=>an (oN P t) λ(pl,z)=>an (j9 s parts.toList) λaD=>an (oe pl.at (lY z) aD) λl=>k (.agg l)
 | .buildSlice t len parts=>an (qJ P t) λ(_,sz,z)=>len* sz<=2^24/\an (j9 s parts.toList) λaD=>an (oe (iz.at (.elems sz)) (gU z (len* sz)) aD) λl=>k (.sl len l .exact)
 | .fieldAddr t x f=>an (s.ev x) λa=>an (fw P t f) λn=>an (a.shift n) k
 | .indexAddr t x ix=>an (s.ev x) λa=>an (s.ev ix) λi=>i.asInt λ_ i=>an (nW P t) fun
   |(some n,sz)=>(0<=i/\i<n)/\an (a.shift (i.toNat* sz)) k
   |(none,sz)=>an a.row λ(n,p)=>(0<=i/\i<n)/\an (p.shift (i.toNat* sz)) k
 | .field t x f=>an (s.ev x) λa=>a.asAgg λl=>an (Hy P t f) λ(off,n,g)=>an (AV.cut l off n g) k
 | .index t x ix=>an (s.ev x) λa=>an (s.ev ix) λi=>i.asInt λ_ i=>match a with
   | .agg l=>an (Hq P t) λ(n,sz,g)=>(0<=i/\i<n)/\an (AV.cut l (i.toNat* sz) sz g) k
   | .val (.string b)=>(match ly P t with|some .str=>True|_=>False)/\0<=i/\an b[i.toNat]? λc=>k (.val (.int .u8 c.toNat))
   |_=>False
 | .load t x=>an (s.ev x) λp=>an (s.at p) λl=>an (Ty P t) fun
   |(n,true)=>n<=l.length/\k (.agg (l.take n))
   |(_,false)=>an l[0]? k
 | .lookup t m k' ok=>an (oQ P t) λ(kt,et)=>an (eW P et) λz=>an (s.ev m) λp=>an (s.ev k') λa=>an a.raw λK=>p.sj λid=>match s.H[id]?with
  |some (.obj (.map es _))=>cJ P (UN es.isEmpty 10000 kt K) ()/\∃fd,cJ P (Vq kt K es.toList) fd/\k (AV.found z ok fd)
  |_=>False
 | .slice t x lo hi mx=>an (s.ev x) λa=>an (s.jc lo) λl=>an (s.jc hi) λh=>an (s.jc mx) λm=>rX P t a l h m k
 | .entry it=>an (s.ev it) λp=>p.pJ λid off=>off=0/\match s.H[id]?with
   |some (.iter m _ seen ck)=>match s.H[m]?with
    |some (.obj (.map es Oi))=>Oi=ck/\an seen.back? λb=>an (es.find? (·.born==b)) λe=>k (.aK [AV.of e.key,AV.of e.val])
    |_=>False
   |_=>False
 | .call c=>match c.callee with
  | .builtin .len=>an c.args[0]? λx=>an c.argTypes[0]? λt=>an (s.ev x) λa=>rW P s t a k
  | .builtin .max=>match c.args.toList with
   |[x,y]=>an (s.ev x) λa=>an (s.ev y) λb=>a.asInt λj m=>b.asInt λ_ n=>k (.val (.int j (if n>m then n else m)))
   |_=>False
  | .builtin .min=>match c.args.toList with
   |[x,y]=>an (s.ev x) λa=>an (s.ev y) λb=>a.asInt λj m=>b.asInt λ_ n=>k (.val (.int j (if n<m then n else m)))
   |_=>False
  |_=>False
 |_=>False
end
section
variable {lv:Bool}{P:Program}{r:Option Nat}{o:Oper}{s:AS}
theorem nf{c:Call}{x y:Operand}(h:c.args.toList=[x,y]):c.args=#[x,y]:=by
 apply Va;simpa using h
theorem lx.sound{k:AV->Prop}(h:lx P s o k):∃av,dC lv P r o s av/\k av:=by
 unfold lx at h;split at h
 ·rename_i x ho;obtain⟨a,h1,h2⟩:=h.out;exact⟨a,abh (.inl ho) h1,h2⟩
 ·rename_i x ho;obtain⟨a,h1,h2⟩:=h.out;exact⟨a,abh (.inr ho) h1,h2⟩
 ·rename_i c x y ho;obtain⟨b,h1,h⟩:=h.out;obtain⟨a,h2,h⟩:=h.out;obtain⟨a',h3,h⟩:=h.out;obtain⟨b,rfl,h⟩:=yu h;exact⟨_,aoi ho h1 h2 h3,h⟩
 ·rename_i op xt x y yt ho;obtain⟨a,h1,hY⟩:=h.out;clear h;unfold iK at hY;split at hY
  ·exact⟨_,abf ho hY.2.1 h1 (.inl ⟨rfl,rfl⟩) hY.1,hY.2.2⟩
  ·exact⟨_,abf ho hY.2.1 h1 (.inr ⟨⟨_,_,rfl⟩,rfl⟩) hY.1,hY.2.2⟩
  rename_i n1 n2;clear n1 n2;obtain⟨b,h2,h⟩:=hY.out;unfold du at h;split at h
  ·rename_i j m j' n;split at h
   ·obtain⟨v,h3,h⟩:=h.out;exact⟨_,aoj ho h1 h2 h3,h⟩
   ·obtain⟨rfl,h⟩:=h;obtain⟨v,h3,h⟩:=h.out;exact⟨_,anS ho h1 h2 h3,h⟩
  ·obtain⟨au,h⟩:=h;obtain⟨X,h3,h⟩:=h.out;obtain⟨Y,h4,h⟩:=h.out;obtain⟨h5,h6,e,h7,h⟩:=h;exact⟨_,anX ho au h1 h2 h3 h4 h5 h6 h7,h⟩
 ·rename_i t x ho;obtain⟨a,h1,h⟩:=h.out;obtain⟨b,rfl,h⟩:=yu h;exact⟨_,aoh ho h1,h⟩
 ·rename_i t x ho;obtain⟨a,h1,h⟩:=h.out;obtain⟨j,n,rfl,h⟩:=n9 h;exact⟨_,aoe ho h1,h⟩
 ·rename_i src dst x ho;obtain⟨a,h1,h⟩:=h.out;split at h
  ·rename_i j hj;obtain⟨j',n,rfl,h⟩:=n9 h;exact⟨_,anV ho hj h1,h⟩
  ·exact h.elim
 ·rename_i x i ho;obtain⟨a,h1,h⟩:=h.out;obtain⟨l,rfl,h⟩:=aew h;obtain⟨b,h2,h⟩:=h.out;exact⟨_,anY ho h1 h2,h⟩
 ·rename_i x ho;obtain⟨a,h1,h⟩:=h.out;unfold mz at h;split at h
  ·exact⟨_,aog ho h1 h.1,h.2⟩
  ·exact⟨_,aof ho h1 h.1,h.2⟩
 ·rename_i t x ho;obtain⟨h1,h⟩:=h;obtain⟨a,h2,h⟩:=h.out;exact⟨_,aob ho h1 h2,h⟩
 ·rename_i f first cS ho
  obtain⟨fa,h1,h⟩:=h.out;obtain⟨ca,h2,h⟩:=h.out;exact⟨_,aoa ho h1 h2,h⟩
 ·rename_i x xt aD ok ho;obtain⟨a,h1,hA⟩:=h.out;obtain⟨h2,hB⟩:=hA;obtain⟨z,h3,hC⟩:=hB.out;clear h hB;split at hC
  ·rename_i t av;split at hC
   ·rename_i e;subst e;exact⟨_,abe ho h2 h3 h1 (.inr rfl),by rw[if_pos rfl];exact hC⟩
   ·rename_i e;exact⟨_,abe ho h2 h3 h1 (.inl hC.1),by rw[if_neg e];exact hC.2⟩
  ·obtain⟨e,hC⟩:=hC;subst e;exact⟨_,anR ho h2 h3 h1,hC⟩
  ·exact hC.elim
 ·rename_i t parts ho;obtain⟨⟨pl,z⟩,h1,h⟩:=h.out;obtain⟨aD,h2,h⟩:=h.out;obtain⟨l,h3,h⟩:=h.out;exact⟨_,anT ho h1 h2 h3,h⟩
 ·rename_i t len parts ho;obtain⟨⟨e,sz,z⟩,h1,h⟩:=h.out;obtain⟨hs,h⟩:=h;obtain⟨aD,h2,h⟩:=h.out;obtain⟨l,h3,h⟩:=h.out;exact⟨_,anU ho h1 hs h2 h3,h⟩
 ·rename_i t x f ho;obtain⟨a,h1,h⟩:=h.out;obtain⟨n,hn,h⟩:=h.out;obtain⟨b,h2,h⟩:=h.out;exact⟨_,anZ ho hn h1 h2,h⟩
 ·rename_i t x ix ho;obtain⟨a,h1,h⟩:=h.out;obtain⟨i,h2,h⟩:=h.out;obtain⟨j,i,rfl,h⟩:=n9 h;obtain⟨⟨on,sz⟩,ht,h⟩:=h.out;cases on with
  |some n=>
   obtain⟨⟨h3,h4⟩,h⟩:=h;obtain⟨q,h5,h⟩:=h.out;exact⟨_,an2 ho ht h1 h2 h3 h4 h5,h⟩
  |none=>
   obtain⟨⟨n,p⟩,aky,h⟩:=an.out h;obtain⟨⟨h3,h4⟩,h⟩:=h;obtain⟨q,h5,h⟩:=h.out;exact⟨_,an1 ho ht h1 aky h2 h3 h4 h5,h⟩
 ·rename_i t x f ho;obtain⟨a,h1,h⟩:=h.out;obtain⟨l,rfl,h⟩:=aen h;obtain⟨⟨off,n,g⟩,h2,h⟩:=h.out;obtain⟨b,h3,h⟩:=h.out;exact⟨_,an0 ho h2 h1 h3,h⟩
 ·rename_i t x ix ho;obtain⟨a,h1,h⟩:=h.out;obtain⟨i,h2,h⟩:=h.out;obtain⟨j,i,rfl,h⟩:=n9 h;split at h
  ·obtain⟨⟨n,sz,g⟩,h3,h⟩:=h.out;obtain⟨⟨h4,h5⟩,h⟩:=h;obtain⟨b,h6,h⟩:=h.out;exact⟨_,an4 ho h3 h1 h2 h4 h5 h6,h⟩
  ·obtain⟨h3,h4,h⟩:=h;obtain⟨c,h5,h⟩:=h.out;split at h3
   ·rename_i hl;exact⟨_,an3 ho hl h1 h2 h4 h5,h⟩
   ·exact h3.elim
  ·exact h.elim
 ·rename_i t x ho;obtain⟨p,h1,h⟩:=h.out;obtain⟨l,hl,h⟩:=h.out;obtain⟨⟨n,g⟩,ht,h⟩:=h.out;cases g with
  |true=>exact⟨_,an7 ho ht h1 hl h.1,h.2⟩
  |false=>
   obtain⟨av,h2,h⟩:=an.out h;exact⟨_,an8 ho ht h1 hl h2,h⟩
 ·rename_i t m k' ok ho;obtain⟨⟨kt,et⟩,h1,hA⟩:=h.out;obtain⟨z,h2,hB⟩:=hA.out;obtain⟨p,h3,hC⟩:=hB.out;obtain⟨a,h4,hD⟩:=hC.out;obtain⟨K,h5,hE⟩:=hD.out;obtain⟨id,e1,hF⟩:=DW hE;subst e1;split at hF
  ·rename_i es ck hH;obtain⟨h6,fd,h7,h8⟩:=hF;exact⟨_,an9 ho h1 h2 h3 h4 h5 hH h6 h7,h8⟩
  ·exact hF.elim
 ·rename_i t x lo hi mx ho;obtain⟨a,h1,h⟩:=h.out;obtain⟨l,h2,h⟩:=h.out;obtain⟨hh,h3,h⟩:=h.out;obtain⟨m,h4,h⟩:=h.out;unfold rX at h;split at h
  ·obtain⟨⟨e,sz⟩,h5,h⟩:=h.out;exact aok ho h5 h1 h2 h3 h4 h
  ·obtain⟨⟨e,sz⟩,h5,h⟩:=h.out;exact aom ho h5 h1 h2 h3 h4 h
  ·obtain⟨⟨n,sz⟩,h5,h⟩:=h.out;exact aol ho h5 h1 h2 h3 h4 h
  ·exact h.elim
 ·rename_i it ho;obtain⟨p,h1,hA⟩:=h.out;obtain⟨id,off,e1,hB⟩:=A4 hA;clear h hA;subst e1;obtain⟨e1,hC⟩:=hB;subst e1;split at hC
  ·rename_i m since seen ck hI;split at hC
   ·rename_i es Oi hM;obtain⟨e1,hD⟩:=hC;subst e1;obtain⟨b,h2,hE⟩:=hD.out;obtain⟨e,h3,hF⟩:=hE.out;exact⟨_,anW ho h1 hI hM h2 h3,hF⟩
   ·exact hC.elim
  ·exact hC.elim
 ·rename_i c ho;split at h
  ·rename_i aX;obtain⟨x,h1,h⟩:=h.out;obtain⟨t,h2,h⟩:=h.out;obtain⟨a,h3,h⟩:=h.out;unfold rW at h;split at h
   ·rename_i hl;exact⟨_,abg ho aX h1 h2 hl h3 rfl,h⟩
   ·rename_i hl;exact⟨_,abg ho aX h1 h2 hl h3 rfl,h⟩
   ·rename_i hl;exact⟨_,an6 ho aX h1 h2 hl h3,h⟩
   ·rename_i hl;split at h
    ·rename_i hM;exact⟨_,an5 ho aX h1 h2 hl h3 hM,h⟩
    ·exact h.elim
   ·exact h.elim
  ·rename_i aX;split at h
   ·rename_i x y cO;obtain⟨a,h1,hA⟩:=h.out;obtain⟨b,h2,hB⟩:=hA.out;obtain⟨j,m,e1,hC⟩:=n9 hB;obtain⟨j',n,e2,hD⟩:=n9 hC;subst e1 e2;exact⟨_,aoc ho aX (nf cO) h1 h2,hD⟩
   ·exact h.elim
  ·rename_i aX;split at h
   ·rename_i x y cO;obtain⟨a,h1,hA⟩:=h.out;obtain⟨b,h2,hB⟩:=hA.out;obtain⟨j,m,e1,hC⟩:=n9 hB;obtain⟨j',n,e2,hD⟩:=n9 hC;subst e1 e2;exact⟨_,aod ho aX (nf cO) h1 h2,hD⟩
   ·exact h.elim
  ·exact h.elim
 ·exact h.elim
end
open Go.Conc
structure lZ (X Y:Prop):Type where
 n:Nat
def qD (b b_:Bool)(X Y:Prop)(_t:lZ X Y):Prop:=(b=b_->X)/\(b= !b_->Y)
theorem w7{b b_:Bool}{X Y:Prop}{t:lZ X Y}(h1:b=b_->X)(h2:b= !b_->Y):qD b b_ X Y t:=⟨h1,h2⟩
theorem aiI(X Y:Prop)(t:lZ X Y):qD true true X Y t=X:=by simp[qD]
theorem aiH(X Y:Prop)(t:lZ X Y):qD true false X Y t=Y:=by simp[qD]
theorem aiG(X Y:Prop)(t:lZ X Y):qD false true X Y t=Y:=by simp[qD]
theorem aiF(X Y:Prop)(t:lZ X Y):qD false false X Y t=X:=by simp[qD]
section
variable (lv:Bool)(P:Program)
def tn (H:List aa)(k:AV->List aa->Prop)(id off n c0 m sz:Nat)(elem:TypeId)(l':List AV):Prop:=off=0/\c0<n/\l'.length=m* sz/\n+m<=2^30/\(∀a∈l',a.leaf=true)/\match H[id]?with
 |some (.own eP l el)=>eP=sz/\el=elem/\l.length=n* sz/\k (.bJ H.length 0 (n+m) 0) (H.set id .gone++[.own sz (l++l') elem])
 |_=>False
def AV.pK (a:AV)(kO:Nat->Nat->Nat->Nat->Prop)(k:Nat->List AV->End->Prop):Prop:=match a with
 | .bJ id off n c=>kO id off n c
 | .sl n l e=>k n l e
 |_=>False
theorem HH{a:AV}{kO:Nat->Nat->Nat->Nat->Prop}{k:Nat->List AV->End->Prop}(h:a.pK kO k):(∃id off n c,a= .bJ id off n c/\kO id off n c)\/∃n l e,a= .sl n l e/\k n l e:=by
 unfold AV.pK at h;split at h
 ·exact .inl ⟨_,_,_,_,rfl,h⟩
 ·exact .inr ⟨_,_,_,rfl,h⟩
 ·exact h.elim
def mA (s:AS)(o:Oper)(next:AS->Prop)(bad:AV->AS->Prop):Prop:=match o.op with
 | .box t x=>an (s.ev x) λa=>an a.parts λl=>next ((⟨s.T,s.H++[.cells l t]⟩:AS).put o.dst (.op s.H.length 0))
 | .alloc t=>an (eW P t) λz=>next ((⟨s.T,s.H++[.cells (lY z) t]⟩:AS).put o.dst (.op s.H.length 0))
 | .store t x y=>an (s.ev x) λp=>an (s.ev y) λa=>an a.parts λlp=>p.pJ λid off=>match s.H[id]?with
  |some (.cells l el)=>(an (Ty P t) λx=>lp.length=x.1)/\off+lp.length<=l.length/\(∀a∈lp,a.leaf=true)/\next ((⟨s.T,s.H.set id (.cells (iF l off lp) el)⟩:AS).put o.dst (.val undef))
  |some (.part p l el)=>p<=off/\(an (Ty P t) λx=>lp.length=x.1)/\off+lp.length<=l.length/\(∀a∈lp,a.leaf=true)/\next ((⟨s.T,s.H.set id (.part p (iF l off lp) el)⟩:AS).put o.dst (.val undef))
  |some (.own p l el)=>(an (Ty P t) λx=>lp.length=x.1)/\off+lp.length<=l.length/\(∀a∈lp,a.leaf=true)/\next ((⟨s.T,s.H.set id (.own p (iF l off lp) el)⟩:AS).put o.dst (.val undef))
  |_=>False
 | .makeMap _ none=>next ((⟨s.T,s.H++[.obj (.map #[] 0)]⟩:AS).put o.dst (.mp s.H.length))
 | .makeSlice t x y=>an (AE P t) λ(e,sz,z)=>an (s.ev x) λa=>an (s.ev y) λb=>a.asInt λ_ n=>b.asInt λ_ n'=>n'=n/\0<=n/\n<=2^30/\next ((⟨s.T,s.H++[.cells (gU z (n.toNat* sz)) e]⟩:AS).put o.dst (.bJ s.H.length 0 n.toNat n.toNat))
 | .mapUpdate t m k x=>an (oQ P t) λ(kt,_)=>an (s.ev m) λp=>an (s.ev k) λa=>an (s.ev x) λb=>an a.raw λK=>an b.raw λX=>p.sj λid=>match s.H[id]?with
  |some (.obj (.map es ck))=>cJ P (UN false 10000 kt K) ()/\∃fd,cJ P (Vq kt K es.toList) fd/\(∀i v,fd=some (i,v)->VR 10000 (((es[i]?).map (·.key)).getD K) K=true)/\next ((⟨s.T,s.H.set id (.obj (we es ck K X fd))⟩:AS).put o.dst (.val undef))
  |_=>False
 | .range t x=>an (oQ P t) λ_=>an (s.ev x) λp=>p.sj λm=>match s.H[m]?with
  |some (.obj (.map _ ck))=>next ((⟨s.T,s.H++[.iter m ck #[] ck]⟩:AS).put o.dst (.op s.H.length 0))
  |_=>False
 | .next it false=>an (s.ev it) λp=>p.pJ λid off=>off=0/\match s.H[id]?with
  |some (.iter m since seen th)=>match s.H[m]?with
   |some (.obj (.map es ck))=>(es.all (λe=>decide (e.born>=th))=false\/es.isEmpty=true\/seen.isEmpty=true)/\
    (∀e∈es,e.born∉seen->next ((⟨s.T,s.H.set id (.iter m since (seen.push e.born) ck)⟩:AS).put o.dst (.aK [.val (.bool true),AV.of e.key,AV.of e.val])))/\
    ((∀e∈es,e.born<since->e.born∈seen)->next (s.put o.dst (.aK [.val (.bool false)])))
   |_=>False
  |_=>False
 | .panic x=>an (s.ev x) λa=>match a with
  | .c_ t av=>bad (.c_ t av) s
  |_=>False
 | .binOp op t x (.const (.slice none 0 0)) _=>(op= .eql\/op= .neq)/\an (kB P t) λ_=>an (s.ev x) λa=>an a.len λn=>∀b:Bool,(0<n->b=false)->next (s.put o.dst (.val (.bool (if op== .neq then !b else b))))
 | .call c=>match c.callee with
  | .builtin .append=>match c.args.toList,c.argTypes.toList with
   |[x,y],[t,t']=>an (jM P t t') λ(elem,sz,_)=>an (s.ev x) λa=>an (s.ev y) λb=>a.pK (λid off n c0=>an (s.src sz b) λ(m,l')=>tn s.H (λb H'=>next ((⟨s.T,H'⟩:AS).put o.dst b)) id off n c0 m sz elem l') λn l e=>an (s.src sz b) λ(m,l')=>l.length=n* sz/\l'.length=m* sz/\n+m<=2^30/\Au s o.dst next n m sz elem l l' e
   |_,_=>False
  | .builtin .copy=>match c.args.toList,c.argTypes.toList with
   |[x,y],[t,_]=>an (kB P t) λ(_,sz)=>an (s.ev x) λa=>an (s.ev y) λb=>match a with
    | .bJ id off n _=>match s.H[id]?with
     |some (.cells l el)=>an (s.src sz b) λ(m,l')=>l'.length=m* sz/\off+min m n* sz<=l.length/\(∀a∈l',a.leaf=true)/\next ((⟨s.T,s.H.set id (.cells (iF l off (l'.take (min m n* sz))) el)⟩:AS).put o.dst (.val (.int .i64 (min m n:Nat))))
     |_=>False
    |_=>False
   |_,_=>False
  | .builtin .delete=>match c.args.toList,c.argTypes.toList with
   |[m,k],[t,_]=>an (oQ P t) λ(kt,_)=>an (s.ev m) λp=>an (s.ev k) λa=>an a.raw λK=>p.sj λid=>match s.H[id]?with
    |some (.obj (.map es ck))=>cJ P (UN es.isEmpty 10000 kt K) ()/\∃fd,cJ P (Vq kt K es.toList) fd/\next ((⟨s.T,s.H.set id (.obj (.map (D9 es fd) ck))⟩:AS).put o.dst (.val undef))
    |_=>False
   |_,_=>False
  | .value x=>an (s.ev x) λf=>an (fx s c.args.toList) λaD=>Av lv P f s.H aD (λb H'=>next ((⟨s.T,H'⟩:AS).put o.dst b)) (λpv H'=>bad pv ⟨s.T,H'⟩) ⟨0⟩
  | .invoke x name=>an (s.ev x) λf=>an (fx s c.args.toList) λaD=>ac6 lv P f name s.H aD (λb H'=>next ((⟨s.T,H'⟩:AS).put o.dst b)) (λpv H'=>bad pv ⟨s.T,H'⟩) ⟨0⟩
  |_=>lx P s o λav=>next (s.put o.dst av)
 |_=>lx P s o λav=>next (s.put o.dst av)
def iy (all:Array Oper):List Oper->AS->(AS->Prop)->(AV->AS->Prop)->Prop
 |[],s,next,_=>next s
 |o::rest,s,next,bad=>match o.guard with
  |none=>mA lv P s o (λs'=>iy all rest s' next bad) bad
  |some (j,b_)=>an ((all[j]?).bind (·.dst)) λd=>an (look s.T d) λa=>a.asBool λb=>qD b b_ (mA lv P ⟨(d, .val (.bool b_))::s.T,s.H⟩ o (λs'=>iy all rest s' next bad) bad) (iy all rest ((⟨(d, .val (.bool !b_))::s.T,s.H⟩:AS).put o.dst (.val undef)) next bad) ⟨0⟩
end
section
variable {lv:Bool}{P:Program}{r:Option Nat}{s:AS}
theorem rT{c:Call}{x y:TypeId}(h:c.argTypes.toList=[x,y]):c.argTypes=#[x,y]:=by
 apply Va;simpa using h
theorem mA.sound{o:Oper}{next:AS->Prop}{bad:AV->AS->Prop}(h:mA lv P s o next bad):Step lv P r o s next bad:=by
 have quiet:(lx P s o λav=>next (s.put o.dst av))->Step lv P r o s next bad:=λh=>by
  obtain⟨av,h1,h2⟩:=h.sound (lv:=lv) (r:=r);exact h1.step h2
 unfold mA at h;split at h
 ·rename_i t x ho;obtain⟨a,h1,h⟩:=h.out;obtain⟨l,h2,h⟩:=h.out;exact ab6 ho h1 h2 h
 ·rename_i t ho;obtain⟨z,h1,h⟩:=h.out;exact ab3 ho h1 h
 ·rename_i t x y ho;obtain⟨p,h1,hA⟩:=h.out;obtain⟨a,h2,hB⟩:=hA.out;obtain⟨lp,h3,hC⟩:=hB.out;obtain⟨id,off,e1,hD⟩:=A4 hC;clear h hA hB hC;subst e1;split at hD
  ·rename_i l el hk;obtain⟨q1,q2,q3,q4⟩:=hD;obtain⟨⟨n,g⟩,q5,q6⟩:=q1.out;exact acb ho q5 h1 hk h2 h3 q6 q2 q3 q4
  ·rename_i p l el hk;obtain⟨q0,q1,q2,q3,q4⟩:=hD;obtain⟨⟨n,g⟩,q5,q6⟩:=q1.out;exact ap7 ho q5 h1 hk q0 h2 h3 q6 q2 q3 q4
  ·rename_i p l el hk;obtain⟨q1,q2,q3,q4⟩:=hD;obtain⟨⟨n,g⟩,q5,q6⟩:=q1.out;exact acd ho q5 h1 hk h2 h3 q6 q2 q3 q4
  ·exact hD.elim
 ·rename_i t ho;exact ap1 ho h
 ·rename_i t x y ho;obtain⟨⟨e,sz,z⟩,h1,hA⟩:=h.out;obtain⟨a,h2,hB⟩:=hA.out;obtain⟨b,h3,hC⟩:=hB.out;obtain⟨j,n,e1,hD⟩:=n9 hC;obtain⟨j',n',e2,hE⟩:=n9 hD;clear h hA hB hC hD;subst e1 e2;obtain⟨e3,h4,h5,h6⟩:=hE;subst e3;obtain⟨m,rfl⟩:∃m:Nat,n'=m:=⟨n'.toNat,by omega⟩;exact ab9 ho h1 h2 h3 (by omega) (by simpa using h6)
 ·rename_i t m k x ho;obtain⟨⟨kt,et⟩,h1,hA⟩:=h.out;obtain⟨p,h2,hB⟩:=hA.out;obtain⟨a,h3,hC⟩:=hB.out;obtain⟨b,h4,hD⟩:=hC.out;obtain⟨K,h5,hE⟩:=hD.out;obtain⟨X,h6,hF⟩:=hE.out;obtain⟨id,e1,hG⟩:=DW hF;clear h hA hB hC hD hE hF;subst e1;split at hG
  ·rename_i es ck hH;obtain⟨q1,fd,q2,q3,q4⟩:=hG;exact ap2 (.inl ho) h1 h2 h3 h4 h5 h6 hH q1 q2 q3 q4
  ·exact hG.elim
 ·rename_i t x ho;obtain⟨⟨kt,et⟩,h1,hA⟩:=h.out;obtain⟨p,h2,hB⟩:=hA.out;obtain⟨m,e1,hC⟩:=DW hB;clear h hA hB;subst e1;split at hC
  ·rename_i es ck hH;exact ap5 ho h1 h2 hH hC
  ·exact hC.elim
 ·rename_i it ho;obtain⟨p,h1,hA⟩:=h.out;obtain⟨id,off,e1,hB⟩:=A4 hA;clear h hA;subst e1;obtain⟨e1,hC⟩:=hB;subst e1;split at hC
  ·rename_i m since seen th hI;split at hC
   ·rename_i es ck hM;exact ap3 ho h1 hI hM hC.1 hC.2.1 hC.2.2
   ·exact hC.elim
  ·exact hC.elim
 ·rename_i x ho;obtain⟨a,h1,hA⟩:=h.out;split at hA
  ·exact ap4 ho h1 hA
  ·exact hA.elim
 ·rename_i op t x yt ho;obtain⟨au,hA⟩:=h;obtain⟨d,h1,hB⟩:=hA.out;obtain⟨a,h2,hC⟩:=hB.out;obtain⟨n,e1,hD⟩:=hC.out;exact ap6 ho au h2 e1 h1 hD
 ·rename_i c ho;split at h
  ·rename_i aX;split at h
   ·rename_i x y t t' ha ht;obtain⟨⟨elem,sz,z⟩,h1,hA⟩:=h.out;obtain⟨a,h2,hB⟩:=hA.out;obtain⟨b,h3,hC⟩:=hB.out;rcases HH hC with⟨id,off,n,c0,e1,hD⟩|⟨n,l,e,e1,hD⟩
    ·clear h hA hB hC;subst e1;obtain⟨⟨m,l'⟩,h4,rfl,g2,g3,g4,g5,hE⟩:=hD.out;split at hE
     ·rename_i hk;obtain⟨rfl,rfl,g6,g7⟩:=hE;exact ab4 ho aX (nf ha) (rT ht) h1 h2 g2 hk rfl h3 h4 g6 g3 g4 g5 g7
     ·exact hE.elim
    ·clear h hA hB hC;subst e1;obtain⟨⟨m,l'⟩,h4,h5,h6,h7,h8⟩:=hD.out;exact step_append ho aX (nf ha) (rT ht) h1 h2 h3 h4 h5 h6 h7 h8
   ·exact h.elim
  ·rename_i aX;split at h
   ·rename_i x y t t' ha ht;obtain⟨⟨elem,sz⟩,h1,hA⟩:=h.out;obtain⟨a,h2,hB⟩:=hA.out;obtain⟨b,h3,hC⟩:=hB.out;clear h hA hB;split at hC
    ·split at hC
     ·rename_i hk;obtain⟨⟨m,l'⟩,h4,h5,h6,h7,h8⟩:=hC.out;exact apZ ho aX (nf ha) (rT ht) h1 h2 hk h3 h4 h5 h6 h7 h8
     ·exact hC.elim
    ·exact hC.elim
   ·exact h.elim
  ·rename_i aX;split at h
   ·rename_i m k t t' ha ht;obtain⟨⟨kt,et⟩,h1,hA⟩:=h.out;obtain⟨p,h2,hB⟩:=hA.out;obtain⟨a,h3,hC⟩:=hB.out;obtain⟨K,h4,hD⟩:=hC.out;obtain⟨id,e1,hE⟩:=DW hD;clear h hA hB hC hD;subst e1;split at hE
    ·rename_i es ck hH;obtain⟨q1,fd,q2,q3⟩:=hE;exact ap0 ho aX (nf ha) (rT ht) h1 h2 h3 h4 hH q1 q2 q3
    ·exact hE.elim
   ·exact h.elim
  ·rename_i x aX;obtain⟨f,h1,hA⟩:=h.out;obtain⟨aD,h2,hB⟩:=hA.out;exact MN ho aX h1 h2 hB
  ·rename_i x name aX;obtain⟨f,h1,hA⟩:=h.out;obtain⟨aD,h2,hB⟩:=hA.out;exact ab8 ho aX h1 h2 hB
  ·exact quiet h
 ·exact quiet h
structure At (E:Env)(V:View)(s:AS)(a:Act)(nt:Nat):Prop where
 bw:Conc E V s.H
 tok:cj E s.T a.tmps
 size:a.tmps.size=nt
theorem Kept.refl(E:Env)(V:View)(a:Act):Kept E E V V a a:=⟨Env.Le.refl E,rfl,rfl,rfl,rfl⟩
theorem Kept.trans{E E' bR:Env}{V V' aU:View}{a a' cC:Act}(h:Kept E E' V V' a a')(k:Kept E' bR V' aU a' cC):Kept E bR V aU a cC:=
 ⟨h.le.trans k.le,k.size.trans h.size,k.defers.trans h.defers,k.role.trans h.role,k.deaf.trans h.deaf⟩
inductive ao where
 |normal
 |exit (id:Nat)
 |goto (l:Nat)
 |ret
 |panic (pv:AV)
def pF (E:Env):ao->Ex->Prop
 | .normal, .normal=>True
 | .exit i, .exit j=>i=j
 | .goto i, .goto j=>i=j
 | .ret, .ret=>True
 | .panic pv, .panic ch=>∃v,ch=[{v,recovered:=false}]/\ap E pv v
 |_,_=>False
def aY (lv:Bool)(P:Program)(r:Option Nat)(nt:Nat)(c:Code)(s:AS)(Φ:ao->AS->Prop):Prop:=
 ∀(E:Env)(V:View)(a:Act)(Q:Ex->Act->View->Prop),At E V s a nt->(∀ae e E' V' a' s',Kept E E' V V' a a'->At E' V' s' a' nt->pF E' ae e->Φ ae s'->Q e a' V')->WP lv P r c Q a V
theorem zS{nt:Nat}{all:Array Oper}{Φ:ao->AS->Prop}(dn:∀o∈all,∀d,o.dst=some d->d<nt)(nB:∀o∈all,r=none\/ml o.op=false):∀(n k:Nat)(s:AS),k+n=all.size->iy lv P all (all.toList.drop k) s (Φ .normal) (λpv s=>Φ (.panic pv) s)->
  ∀(E:Env)(V:View)(a:Act)(Q:Ex->Act->View->Prop),At E V s a nt->(∀ae e E' V' a' s',Kept E E' V V' a a'->At E' V' s' a' nt->pF E' ae e->Φ ae s'->Q e a' V')->dj lv P r all Q (TU k n) a V
 |0,k,s,hk,h,E,V,a,Q,ah,hQ=>by
  have:all.toList.drop k=[]:=by simp;omega
  rw[this]at h;exact hQ .normal .normal E V a s (Kept.refl E V a) ah trivial h
 |n+1,k,s,hk,h,E,V,a,Q,ah,hQ=>by
  have hlt:k<all.size:=by omega
  have hd:all.toList.drop k=all[k]::all.toList.drop (k+1):=by
   rw[TR (by simpa using hlt)];simp
  rw[hd]at h;have fP:all[k]∈all:=Xd hlt;have ho:all[k]?=some all[k]:=SJ hlt;simp only[Vu,dj,ho];have go:∀s:AS,At E V s a nt->mA lv P s all[k] (λs'=>iy lv P all (all.toList.drop (k+1)) s' (Φ .normal) (λpv s=>Φ (.panic pv) s)) (λpv s=>Φ (.panic pv) s)->wD lv P r all[k] a V (dj lv P r all Q (TU (k+1) n)) Q:=λs ah h=>by
   refine h.sound (lv:=lv) (r:=r) E V a _ Q ah.bw ah.tok (λd e=>by rw[ah.size];exact dn _ fP d e) (nB _ fP) (λE' V' a' s' aI bc mh hn=> ?_) (λE' V' s' pv v aI bc mh bm hb=> ?_)
   ·exact zS dn nB n (k+1) s' (by omega) hn E' V' a' Q ⟨bc,mh,aI.size.trans ah.size⟩ (λae e bR aU cC dA gg dx he hΦ=>hQ ae e bR aU cC dA (aI.trans gg) dx he hΦ)
   ·exact hQ (.panic pv) (.panic _) E' V' a s' aI ⟨bc,mh,ah.size⟩ ⟨v,rfl,bm⟩ hb
  simp only[iy]at h;split at h
  ·rename_i hg;have hw:Tf all[k] (yielded all a.tmps)=true:=(by unfold Tf;rw[hg]);rw[if_pos hw];exact .inl (go s ah h)
  ·rename_i j b_ hg;obtain⟨d,bW,h⟩:=h.out;obtain⟨av,h1,h⟩:=h.out;obtain⟨b,rfl,h2,h3⟩:=yu h;have hv:=(ah.tok d _ h1).2;have hy:yielded all a.tmps j=some b:=by
    obtain⟨oj,lK,jV⟩:=Tc.1 bW;generalize hx:a.tmps.getD d undef=x at hv;cases hv;have mc:d<a.tmps.size:=(ah.tok d _ h1).1;rw[SH,SJ mc]at hx;simp only[S6]at hx;simp[yielded,lK,jV,SJ mc,hx]
   have rF:∀b',b=b'->At E V ⟨(d, .val (.bool b'))::s.T,s.H⟩ a nt:=λb' dG=>by
    subst dG;refine⟨ah.bw,λt x e=> ?_,ah.size⟩;simp only[look]at e;split at e
    ·rename_i e';subst e';cases e;exact ah.tok d _ h1
    ·exact ah.tok t x e
   by_cases hb:b=b_
   ·have hw:Tf all[k] (yielded all a.tmps)=true:=(by unfold Tf;rw[hg];simp[hy,hb]);rw[if_pos hw];exact .inl (go _ (rF b_ hb) (h2 hb))
   ·have hw:¬Tf all[k] (yielded all a.tmps)=true:=(by unfold Tf;rw[hg];simp[hy,hb]);rw[if_neg hw];have dG:b= !b_:=(by cases b<;>cases b_<;>simp_all);have vo:=h3 dG;have ah:=rF _ dG;exact zS dn nB n (k+1) ((⟨(d, .val (.bool !b_))::s.T,s.H⟩:AS).put all[k].dst (.val undef)) (by omega) vo E V (a.put all[k].dst undef) Q
     ⟨by rw[fB];exact ah.bw,ah.tok.hO (λd e=>by rw[ah.size];exact dn _ fP d e) (.val undef),by rw[eD];exact ah.size⟩
     (λae e bR aU cC dA gg dx he hΦ=>hQ ae e bR aU cC dA ⟨gg.le,gg.size.trans (eD _ _ _),gg.defers.trans (put_defers _ _ _),gg.role,gg.deaf⟩ dx he hΦ)
def jS (nt:Nat)(ops:Array Oper):Bool:=ops.all λo=>(o.dst.all (·<nt))&& !ml o.op
theorem jS.out{nt:Nat}{ops:Array Oper}(hd:jS nt ops=true){o:Oper}(ho:o∈ops):(∀d,o.dst=some d->d<nt)/\ml o.op=false:=by
 have:=(Uq.1 hd) o ho;simp only[Td,TL]at this;exact⟨λd e=>by have h1:=this.1;rw[e]at h1;simpa using h1,this.2⟩
theorem NT{nt id:Nat}{ops:Array Oper}{Φ:ao->AS->Prop}(hd:jS nt ops=true)(h:iy lv P ops ops.toList s (Φ .normal) (λpv s=>Φ (.panic pv) s)):aY lv P r nt (.region id ops false) s Φ:=by
 intro E V a Q ah hQ;refine wp_region ?_;rw[UX];exact zS (Φ:=Φ) (λo ho d e=>(jS.out hd ho).1 d e) (λo ho=> .inr (jS.out hd ho).2) ops.size 0 s (by omega) (by simpa using h) E V a Q ah hQ
theorem NW{nt:Nat}{Φ:ao->AS->Prop}(h:Φ .normal s):aY lv P r nt .skip s Φ:=λE V a _ ah hQ=>wp_skip (hQ .normal _ E V a s (Kept.refl E V a) ah trivial h)
theorem NR{nt l:Nat}{Φ:ao->AS->Prop}(h:Φ .normal s):aY lv P r nt (.label l) s Φ:=λE V a _ ah hQ=>wp_label (hQ .normal _ E V a s (Kept.refl E V a) ah trivial h)
theorem NQ{nt id:Nat}{Φ:ao->AS->Prop}(h:Φ (.exit id) s):aY lv P r nt (.exit id) s Φ:=λE V a _ ah hQ=>wp_exit (hQ (.exit id) _ E V a s (Kept.refl E V a) ah rfl h)
theorem NU{nt:Nat}{Φ:ao->AS->Prop}(h:Φ .ret s):aY lv P r nt .ret s Φ:=λE V a _ ah hQ=>wp_ret (hQ .ret _ E V a s (Kept.refl E V a) ah trivial h)
def ao.then (next:AS->Prop)(Φ:ao->AS->Prop):ao->AS->Prop
 | .normal,s=>next s
 |e,s=>Φ e s
theorem pF.mono{E E':Env}(h:E.Le E'){ae:ao}{e:Ex}(k:pF E ae e):pF E' ae e:=by
 cases ae<;>cases e<;>first|exact k|(obtain⟨v,h1,h2⟩:=k;exact⟨v,h1,h2.mono h⟩)
theorem iA{nt:Nat}{x y:Code}{Φ:ao->AS->Prop}(h:aY lv P r nt x s (ao.then (λs'=>aY lv P r nt y s' Φ) Φ)):aY lv P r nt (.seq x y) s Φ:=by
 intro E V a Q ah hQ;refine wp_seq (h E V a _ ah λae e E' V' a' s' hk aR he hΦ=> ?_);cases ae<;>cases e<;>first
  |exact he.elim
  |exact hΦ E' V' a' Q aR λae e bR aU cC dA aI dx kj sW=>hQ ae e bR aU cC dA (hk.trans aI) dx kj sW
  |exact hQ _ _ E' V' a' s' hk aR he hΦ
theorem aeD{nt:Nat}{c:Operand}{x y:Code}{b:Bool}{Φ:ao->AS->Prop}(hc:s.ev c=some (.val (.bool b)))(h1:b=true->aY lv P r nt x s Φ)(h2:b=false->aY lv P r nt y s Φ):aY lv P r nt (.cond c x y) s Φ:=by
 intro E V a Q ah hQ;have hv:=ap.ev ah.tok hc;generalize hx:a.eval c=v at hv;cases hv;refine wp_cond hx ?_;cases b with
 |true=>exact h1 rfl E V a Q ah hQ
 |false=>exact h2 rfl E V a Q ah hQ
def ao.inBlock (id:Nat)(Φ:ao->AS->Prop):ao->AS->Prop
 | .exit oD,s=>if oD=id then Φ .normal s else Φ (.exit oD) s
 |e,s=>Φ e s
theorem NO{nt id:Nat}{c:Code}{Φ:ao->AS->Prop}(h:aY lv P r nt c s (ao.inBlock id Φ)):aY lv P r nt (.block id c) s Φ:=by
 intro E V a Q ah hQ;refine wp_block (h E V a _ ah λae e E' V' a' s' hk aR he hΦ=> ?_);cases ae<;>cases e<;>first
  |exact he.elim
  |(rename_i i j
    have e:i=j:=he;subst e;by_cases ce:i=id
    ·simp only[Ex.inBlock,ce,if_true];simp only[ao.inBlock,ce,if_true]at hΦ;exact hQ .normal _ E' V' a' s' hk aR trivial hΦ
    ·simp only[Ex.inBlock,ce,if_false];simp only[ao.inBlock,ce,if_false]at hΦ;exact hQ (.exit i) _ E' V' a' s' hk aR rfl hΦ)
  |exact hQ _ _ E' V' a' s' hk aR he hΦ
theorem aY.mono{nt:Nat}{c:Code}{Φ Φ':ao->AS->Prop}(h:aY lv P r nt c s Φ)(hm:∀e s,Φ e s->Φ' e s):aY lv P r nt c s Φ':=λE V a Q ah hQ=>
 h E V a Q ah λae e E' V' a' s' hk aR he hΦ=>hQ ae e E' V' a' s' hk aR he (hm _ _ hΦ)
def Wk (b a:AV):Prop:=∀E v,ap E b v->ap E a v
theorem Wk.refl(a:AV):Wk a a:=λ_ _ h=>h
theorem jw(n:Nat)(l:List AV)(e:End):Wk (.sl n l e) (.sl n l .shut):=λ_ _ h=>by
 cases h with
 |sl b o cap f hc he h1 h2=>exact .sl b o cap f hc trivial h1 h2
 |nil he=>exact .nil trivial
structure AS.Sub (s s':AS):Prop where
 tok:∀t a,look s'.T t=some a->∃b,look s.T t=some b/\Wk b a
 H:s.H=s'.H
theorem At.sub{E:Env}{V:View}{s s':AS}{a:Act}{nt:Nat}(h:At E V s a nt)(hl:s.Sub s'):At E V s' a nt:=
 ⟨by rw[<- hl.H];exact h.bw,λt x e=>by obtain⟨b,h1,h2⟩:=hl.tok t x e;exact⟨(h.tok t b h1).1,h2 _ _ (h.tok t b h1).2⟩,h.size⟩
theorem mJ{lv:Bool}{P:Program}{r:Option Nat}{nt:Nat}{c:Code}{s s':AS}{Φ:ao->AS->Prop}(hl:s.Sub s')(h:aY lv P r nt c s' Φ):aY lv P r nt c s Φ:=λE V a Q ah hQ=>h E V a Q (ah.sub hl) hQ
inductive Lt (n:Nat):AV->Prop
 |val (x:Value):Lt n (.val x)
 |agg {l:List AV} (h:∀a∈l,Lt n a):Lt n (.agg l)
 |aK {l:List AV} (h:∀a∈l,Lt n a):Lt n (.aK l)
 |sl {m:Nat} {l:List AV} {e:End} (he:∀k,e= .opn k->k<n) (h:∀a∈l,Lt n a):Lt n (.sl m l e)
 |bJ {id off m cap:Nat} (h:id<n):Lt n (.bJ id off m cap)
 |rp {l:List AV} (h:∀a∈l,Lt n a):Lt n (.rp l)
 |op {id off:Nat} (h:id<n):Lt n (.op id off)
 |fn {f:Fn} {first cS:List AV} (h1:∀a∈first,Lt n a) (h2:∀a∈cS,Lt n a):Lt n (.fn f first cS)
 |c_ {t:TypeId} {x:AV} (h:Lt n x):Lt n (.c_ t x)
 |mp {id:Nat} (h:id<n):Lt n (.mp id)
theorem pw{l:List AV}{a:AV}(h:a∈l):∃i:Nat,l[i]?=some a:=Uz.1 h
theorem ap.lt{E:Env}{a:AV}{v:Value}(d:ap E a v):Lt E.n a:=by
 induction d with
 |val x=>exact .val x
 |agg hs _ ih=>exact .agg λa h=>(pw h).elim λi hi=>ih i a hi
 |aK hs _ ih=>exact .aK λa h=>(pw h).elim λi hi=>ih i a hi
 |sl b o cap f hc he h1 _ ih=>exact .sl (λk e=>by subst e;exact he.1) λa h=>(pw h).elim λi hi=>ih i a hi
 |nil he=>exact .sl (λk e=>by subst e;exact he.1) (by simp)
 |bJ hi _=>exact .bJ hi
 |rp b o f h1 _ ih=>exact .rp λa h=>(pw h).elim λi hi=>ih i a hi
 |op hi=>exact .op hi
 |fn dW fA _ _ mT ln=>exact .fn (λa h=>(pw h).elim λi hi=>mT i a hi) (λa h=>(pw h).elim λi hi=>ln i a hi)
 |c_ _ ih=>exact .c_ ih
 |mp hi=>exact .mp hi
theorem Lt.mono{n m:Nat}(h:n<=m){a:AV}(d:Lt n a):Lt m a:=by
 induction d with
 |val x=>exact .val x
 |agg _ ih=>exact .agg ih
 |aK _ ih=>exact .aK ih
 |sl he _ ih=>exact .sl (λk e=>Ta (he k e) h) ih
 |bJ hi=>exact .bJ (Ta hi h)
 |rp _ ih=>exact .rp ih
 |op hi=>exact .op (Ta hi h)
 |fn _ _ mT ln=>exact .fn mT ln
 |c_ _ ih=>exact .c_ ih
 |mp hi=>exact .mp (Ta hi h)
theorem pE.trim{E:Env}{e:End}{a:Option Addr}{m cap n:Nat}(h:pE E e a m cap)(hk:∀k,e= .opn k->k<n):pE {E with n:=n} e a m cap:=by
 cases e with
 |exact=>exact h
 |shut=>trivial
 |opn k=>exact⟨hk k rfl,h.2⟩
theorem get_mem{l:List AV}{i:Nat}{a:AV}(h:l[i]?=some a):a∈l:=Uz.2 ⟨i,h⟩
theorem ap.trim{E:Env}{a:AV}{v:Value}(d:ap E a v){n:Nat}(h:Lt n a):ap {E with n:=n} a v:=by
 induction d with
 |val x=>exact .val x
 |agg hs _ ih=>cases h with|agg h=>exact .agg hs λi a e=>ih i a e (h a (get_mem e))
 |aK hs _ ih=>cases h with|aK h=>exact .aK hs λi a e=>ih i a e (h a (get_mem e))
 |sl b o cap f hc he h1 _ ih=>cases h with|sl hk h=>exact .sl b o cap f hc (he.trim hk) h1 λi a e=>ih i a e (h a (get_mem e))
 |nil he=>cases h with|sl hk h=>exact .nil (he.trim hk)
 |bJ hi ec=>cases h with|bJ h=>exact .bJ (E:={E with n:=n}) h ec
 |rp b o f h1 _ ih=>cases h with|rp h=>exact .rp b o f h1 λi a e=>ih i a e (h a (get_mem e))
 |op hi=>cases h with|op h=>exact .op (E:={E with n:=n}) h
 |fn dW fA _ _ mT ln=>cases h with|fn h1 h2=>exact .fn dW fA (λi a e=>mT i a e (h1 a (get_mem e))) λi a e=>ln i a e (h2 a (get_mem e))
 |c_ _ ih=>cases h with|c_ h=>exact .c_ (ih h)
 |mp hi=>cases h with|mp h=>exact .mp (E:={E with n:=n}) h
def eR (n:Nat):aa->Prop
 | .cells l _| .part _ l _| .own _ l _=>∀a∈l,Lt n a
 | .iter m _ _ _=>m<n
 | .loop _ _ _ _ T _ _ _ _ df=>(∀t a,look T t=some a->Lt n a)/\df<n
 |_=>True
theorem eR.mono{n m:Nat}(h:n<=m){x:aa}(k:eR n x):eR m x:=by
 cases x with
 |cells l el=>exactλa ha=>(k a ha).mono h
 |part p l el=>exactλa ha=>(k a ha).mono h
 |own p l el=>exactλa ha=>(k a ha).mono h
 |iter=>exact Ta k h
 |loop=>exact⟨λt a e=>(k.1 t a e).mono h,Ta k.2 h⟩
 |_=>trivial
theorem fX.olt{E:Env}{V:View}{k:Nat}{x:aa}(h:fX E V k x):eR E.n x:=by
 cases x with
 |cells l el=>obtain⟨⟨cs,_,h2⟩,_⟩:=h;exactλa ha=>(pw ha).elim λi hi=>(h2.2 i a hi).lt
 |part p l el=>obtain⟨⟨cs,_,h2,_⟩,_⟩:=h;exactλa ha=>(pw ha).elim λi hi=>(h2.2 i a hi).lt
 |own p l el=>obtain⟨⟨cs,_,h2,_⟩,_⟩:=h;exactλa ha=>(pw ha).elim λi hi=>(h2.2 i a hi).lt
 |iter m a b c=>exact h.1
 |loop=>obtain⟨⟨tmps,_,_,h2⟩,h3,_⟩:=h;exact⟨λt a e=>(h2 t a e).2.lt,h3⟩
 |_=>trivial
theorem fX.trim{E:Env}{V:View}{k n:Nat}{x:aa}(h:fX E V k x)(hl:eR n x):fX {E with n:=n} V k x:=by
 cases x with
 |cells l el=>obtain⟨⟨cs,h1,h2⟩,h3⟩:=h;exact⟨⟨cs,h1,h2.1,λi a e=>(h2.2 i a e).trim (hl a (get_mem e))⟩,h3⟩
 |part p l el=>obtain⟨⟨cs,h1,h2,h4⟩,h3⟩:=h;exact⟨⟨cs,h1,⟨h2.1,λi a e=>(h2.2 i a e).trim (hl a (get_mem e))⟩,h4⟩,h3⟩
 |own p l el=>obtain⟨⟨cs,h1,h2,h4⟩,h3⟩:=h;exact⟨⟨cs,h1,⟨h2.1,λi a e=>(h2.2 i a e).trim (hl a (get_mem e))⟩,h4⟩,h3⟩
 |iter m a b c=>exact⟨hl,h.2⟩
 |tail m sz el=>exact h
 |obj x=>exact h
 |loop=>obtain⟨⟨tmps,h1,h2,h3⟩,h4,h5⟩:=h;exact⟨⟨tmps,h1,h2,λt a e=>⟨(h3 t a e).1,(h3 t a e).2.trim (hl.1 t a e)⟩⟩,hl.2,h5⟩
 |gone=>trivial
 |main=>exact h
def bL (H:List aa):Prop:=∀x∈H,eR H.length x
theorem Conc.ay{E:Env}{V:View}{H:List aa}(h:Conc E V H):bL H:=λx hx=>by
 obtain⟨i,hi⟩:=Uz.1 hx;rw[<- h.n];exact(h.obj i x hi).olt
theorem D3(E:Env)(n k:Nat)(x:aa):bN {E with n:=n} k x=bN E k x:=by cases x<;>rfl
theorem Conc.trim{E:Env}{V:View}{H G:List aa}(h:Conc E V (H++G))(hl:bL H):Conc {E with n:=H.length} V H:=by
 have hg:∀(k:Nat) x,H[k]?=some x->(H++G)[k]?=some x:=λk x e=>by rw[SY (SM.1 e).1];exact e
 refine⟨h.I,rfl,λk x e=>(h.obj k x (hg k x e)).trim (hl x (S_ e)),λi j x y b h1 h2 h3 h4=> ?_,λg ko=> ?_,λg ko=> ?_,h.top,λb y ko=> ?_⟩
 ·rw[D3]at h3 h4;exact h.inj i j x y b (hg i x h1) (hg j y h2) h3 h4
 ·obtain⟨q0,q1,q2⟩:=h.group g ko;exact⟨q0,q1,λk x e=>by rw[D3];exact q2 k x (hg k x e)⟩
 ·obtain⟨q0,q1,q2⟩:=h.chan g ko;exact⟨q0,q1,λk x e=>by rw[D3];exact q2 k x (hg k x e)⟩
 ·obtain⟨q0,q1,q2⟩:=h.fr b y ko;exact⟨q0,q1,λk x e=>by rw[D3];exact q2 k x (hg k x e)⟩
structure AS.Hm (s s':AS):Prop where
 tok:∀t a,look s'.T t=some a->∃b,look s.T t=some b/\Wk b a/\Lt s'.H.length a
 H:∃G,s.H=s'.H++G
 ok:bL s'.H
theorem Db{E:Env}{n m:Nat}(h1:m<=n)(h2:n<=E.n){E0:Env}(h:E0.Le E)(h0:E0.n=m):E0.Le {E with n:=n}:=⟨h.I,by show E0.n<=n;omega,h.blk,h.fK,h.room,h.fr,h.main⟩
theorem At.cut{E:Env}{V:View}{s s':AS}{a:Act}{nt:Nat}(h:At E V s a nt)(hl:s.Hm s'):At {E with n:=s'.H.length} V s' a nt:=by
 obtain⟨G,hG⟩:=hl.H;have hc:=h.bw;rw[hG]at hc;refine⟨hc.trim hl.ok,λt x e=> ?_,h.size⟩;obtain⟨b,h1,h2,h3⟩:=hl.tok t x e;exact⟨(h.tok t b h1).1,(h2 _ _ (h.tok t b h1).2).trim h3⟩
theorem aeH{nt:Nat}{α:Type}{lt:α->α->Prop}(wf:WellFounded lt){c:Code}{Φ:ao->AS->Prop}(inv:α->AS)(ok:α->Prop)(m:α)(h0:s.Sub (inv m))(hm:ok m)(hn:∀m,ok m->s.H.length<=(inv m).H.length)
  (h:∀m,ok m->aY lv P r nt c (inv m) (ao.then (λs'=>∃m',lt m' m/\ok m'/\(s'.Sub (inv m')\/s'.Hm (inv m'))) Φ)):aY lv P r nt (.loop c) s Φ:=by
 intro E V a Q ah hQ;refine M_ wf (I:=λm a' V'=>ok m/\∃E',Kept E E' V V' a a'/\At E' V' (inv m) a' nt) m ⟨hm,E,Kept.refl E V a,ah.sub h0⟩ λm a' V' hI=> ?_;obtain⟨ay,E',hk,aR⟩:=hI;refine h m ay E' V' a' _ aR λae e bR aU cC dA aI dx he hΦ=> ?_;cases ae<;>cases e<;>first
  |exact he.elim
  |(obtain⟨m',h1,h2,h3⟩:=hΦ
    rcases h3 with h3|h3
    ·exact⟨m',h1,h2,bR,hk.trans aI,dx.sub h3⟩
    ·refine⟨m',h1,h2,_, ?_,dx.cut h3⟩;have cx:=hk.trans aI;obtain⟨G,hG⟩:=h3.H;exact⟨Db (hn m' h2) (by rw[dx.bw.n,hG];simp) cx.le ah.bw.n,cx.size,cx.defers,cx.role,cx.deaf⟩)
  |exact hQ _ _ bR aU cC dA (hk.trans aI) dx he hΦ
theorem aeM{nt:Nat}{c:Code}{Φ:ao->AS->Prop}(inv:Nat->Nat->AS->Prop)
  (start:∃n:Nat,aY lv P r nt c s (λe s'=>match e with
   | .goto l=>∃rest,findLabel c l=some rest/\∃m,m<n/\inv l m s'
   |e=>Φ e s'))
  (back:∀l rest m s',findLabel c l=some rest->inv l m s'->aY lv P r nt rest s' (λe dA=>match e with
   | .goto l'=>∃xX,findLabel c l'=some xX/\∃m',m'<m/\inv l' m' dA
   |e=>Φ e dA)):aY lv P r nt (.scope c) s Φ:=by
 intro E V a Q ah hQ;refine acW (λl m a' V'=>∃E' s',Kept E E' V V' a a'/\At E' V' s' a' nt/\inv l m s') ?_ ?_
 ·obtain⟨n,hn⟩:=start;refine⟨n,hn E V a _ ah λae e E' V' a' s' hk aR he hΦ=> ?_⟩;cases ae<;>cases e<;>first
   |exact he.elim
   |(have e:_=_:=he
     subst e;obtain⟨rest,h1,m,h2,h3⟩:=hΦ;exact⟨rest,h1,m,h2,E',s',hk,aR,h3⟩)
   |exact hQ _ _ E' V' a' s' hk aR he hΦ
 ·intro l rest m a' V' hf ⟨E',s',hk,aR,hi⟩;refine back l rest m s' hf hi E' V' a' _ aR λae e bR aU cC dA aI dx he hΦ=> ?_;cases ae<;>cases e<;>first
   |exact he.elim
   |(have e:_=_:=he
     subst e;obtain⟨xX,h1,m',h2,h3⟩:=hΦ;exact⟨xX,h1,m',h2,bR,dA,hk.trans aI,dx,h3⟩)
   |exact hQ _ _ bR aU cC dA (hk.trans aI) dx he hΦ
end
def bp:Nat->List AV->List (Nat×AV)
 |_,[]=>[]
 |i,a::l=>(i,a)::bp (i+1) l
theorem Lx:∀(l:List AV)(i t:Nat)(a:AV),look (bp i l) t=some a->i<=t/\l[t-i]?=some a
 |[],_,_,_,h=>by cases h
 |b::l,i,t,a,h=>by
  simp only[bp,look]at h;split at h
  ·rename_i e;subst e;cases h;exact⟨SO _,by simp⟩
  ·obtain⟨h1,h2⟩:=Lx l (i+1) t a h;refine⟨by omega, ?_⟩;have:t-i=(t-(i+1))+1:=(by omega);rw[this,Ut];exact h2
def uG (P:Program)(s:AS):ResultVar->Option AV
 | .tmp t=>look s.T t
 | .cell a t=>(look s.T a).bind λp=>(s.at p).bind λl=>(Ty P t).bind λx=>if x.2 then(if x.1<=l.length then some (.agg (l.take x.1))else none)else l[0]?
def hZ (P:Program)(s:AS):List ResultVar->Option (List AV)
 |[]=>some []
 |x::l=>match uG P s x,hZ P s l with
  |some a,some aD=>some (a::aD)
  |_,_=>none
def iY:List AV->AV
 |[a]=>a
 |l=> .aK l
theorem aoB{P:Program}{E:Env}{V:View}{s:AS}{a:Act}{nt:Nat}(ah:At E V s a nt){x:ResultVar}{av:AV}(h:uG P s x=some av):
  ∃v,ap E av v/\∀{K:Value->View->Prop}{Kp:Value->View->Prop},K v V->aO P V (match x with| .tmp t=>pure (a.tmps.getD t undef)| .cell b t=>do loadVar t (<- asAddr (a.tmps.getD b undef))) K Kp:=by
 cases x with
 |tmp t=>exact⟨_,(ah.tok t av h).2,λhK=>aq hK⟩
 |cell b t=>
  unfold uG at h;obtain⟨p,h1,h⟩:=Tc.1 h;obtain⟨l,h2,h⟩:=Tc.1 h;obtain⟨⟨n,g⟩,h3,h⟩:=Tc.1 h;obtain⟨i,d,t1,t2,rfl,t4⟩:=Ty.out h3;obtain⟨bb,off,f,hv,hg,ko,hd⟩:=ah.bw.at (ah.tok b p h1).2 h2;dsimp only;rw[hv];cases g with
  |true=>
   simp only[if_true]at h;split at h
   ·rename_i hlen;cases h;refine⟨_,If hlen hd,λhK=> ?_⟩;refine az ?_;unfold asAddr;refine aq ?_;unfold loadVar;refine C2 t2 ?_;rw[t4];simp only[if_true];refine j3 t1 ?_;exact az (Ae (f:=f) (λh=>ko (by omega)) (λj hj=>hg j (by omega)) (aq hK))
   ·cases h
  |false=>
   simp only[TC,if_false]at h;have hlen:0<l.length:=(SM.1 h).1;have ov:=hg 0 hlen;rw[Uv]at ov;refine⟨_,hd 0 av h,λhK=> ?_⟩;refine az ?_;unfold asAddr;refine aq ?_;unfold loadVar;refine C2 t2 ?_;rw[t4];simp only[TC,if_false];exact MC ov (.inl (ko hlen)) (cK hK)
theorem Gv{P:Program}{E:Env}{V:View}{s:AS}{a:Act}{nt:Nat}(ah:At E V s a nt):∀(rs:List ResultVar)(l:List AV),hZ P s rs=some l->∃vs:List Value,vs.length=l.length/\(∀(i:Nat) x,l[i]?=some x->ap E x (vs.getD i undef))/\
  ∀{K:List Value->View->Prop}{Kp:Value->View->Prop},K vs V->aO P V (rs.mapM λx=>(match x with| .tmp t=>pure (a.tmps.getD t undef)| .cell b t=>do loadVar t (<- asAddr (a.tmps.getD b undef)):Sem Value)) K Kp
 |[],l,h=>by
  cases h;refine⟨[],rfl,by simp,λhK=> ?_⟩;rw[Um];exact aq hK
 |x::rs,l,h=>by
  simp only[hZ]at h;split at h
  ·rename_i av l7 h1 h2;cases h;obtain⟨v,hv,hs⟩:=aoB ah h1;obtain⟨vs,hl,lQ,Fs⟩:=Gv ah rs l7 h2;refine⟨v::vs,by simp[hl],λi x hx=> ?_,λhK=> ?_⟩
   ·cases i with
    |zero=>cases hx;simpa using hv
    |succ i=>simpa using lQ i x (by simpa using hx)
   ·rw[TS];exact az (hs (az (Fs (aq hK))))
  ·cases h
attribute [seval] Int.natCast_pow Int.natCast_mul Int.natCast_shiftLeft Int.natCast_emod Int.ofNat_sub Int.natCast_shiftRight Int.natCast_add_one Int.natCast_add Int.cast_id Int.natCast_sub Int.natCast_ediv Int.natCast_succ
open Go.Conc
def cy (n0:Nat)(H:List aa)(a:AV)(k:AV->List aa->Prop):Prop:=
 ∃b,Wk a b/\(k b H\/∃H' G,H=H'++G/\n0<=H'.length/\bL H'/\Lt H'.length b/\k b H')
def tu (P:Program)(rs:List ResultVar)(n0:Nat)(k kp:AV->List aa->Prop):ao->AS->Prop
 | .normal,s| .ret,s=>an (hZ P s rs) λl=>cy n0 s.H (iY l) k
 | .panic pv,s=>cy n0 s.H pv kp
 |_,_=>False
theorem bY{n0:Nat}{H:List aa}{a:AV}{k:AV->List aa->Prop}(h:k a H):cy n0 H a k:=⟨a,Wk.refl a, .inl h⟩
theorem jT{H H' G:List aa}{a b:AV}{k:AV->List aa->Prop}{n0:Nat}(hw:Wk a b)(hH:H=H'++G)(hn:n0<=H'.length)(ay:bL H')(hl:Lt H'.length b)(h:k b H'):cy n0 H a k:=⟨b,hw, .inr ⟨H',G,hH,hn,ay,hl,h⟩⟩
theorem wW{n0:Nat}{E0 E:Env}{V':View}{H:List aa}{a:AV}{v:Value}{k:AV->List aa->Prop}(h:cy n0 H a k)(hc:Conc E V' H)(hd:ap E a v)(hle:E0.Le E)(hn:E0.n=n0):∃b E' H',E0.Le E'/\ap E' b v/\Conc E' V' H'/\k b H':=by
 obtain⟨b,hw,h|⟨H',G,rfl,h1,h2,h3,h4⟩⟩:=h
 ·exact⟨b,E,H,hle,hw _ _ hd,hc,h⟩
 ·refine⟨b,{E with n:=H'.length},H',Db h1 (by rw[hc.n];simp) hle hn,(hw _ _ hd).trim h3,hc.trim h2,h4⟩
theorem ah6{lv:Bool}{P:Program}{f:FuncId}{fn:Func}{c:Code}{rs:List ResultVar}{nt:Nat}{H:List aa}{args:List AV}{k kp:AV->List aa->Prop}(hf:P.funcs[f]?=some fn)(hb:fn.body=some c)(hr:fn.results=rs.toArray)(hn:fn.ntmps=nt)(cO:args.length<=nt)
  (h:bL H->(∀a∈args,Lt H.length a)->aY lv P none nt c ⟨bp 0 args,H⟩ (tu P rs H.length k kp)):bi lv P f H args k kp:=by
 intro E V vs hc hd;have aW:(vs++TA (fn.ntmps-vs.size) undef).size=nt:=by simp[hd.1];omega
 have hlt:∀a∈args,Lt H.length a:=λa ha=>by
  obtain⟨i,hi⟩:=pw ha;rw[<- hc.n];exact(hd.2 i a hi).lt
 refine N8 (by simp) hf hb (h hc.ay hlt E V _ _ ⟨hc,λq a e=> ?_,aW⟩ λae e E' V' a' s' hk ah he hΦ=> ?_)
 ·obtain⟨_,e⟩:=Lx args 0 q a e;simp only[Y1]at e;have hq:q<args.length:=(SM.1 e).1;have sR:q<vs.size:=by rw[hd.1];exact hq
  refine⟨by rw[aW];omega, ?_⟩;have:=hd.2 q a e;rw[SH,Xq sR];rwa [SH]at this
 ·have fin:(an (hZ P s' rs) λl=>cy H.length s'.H (iY l) k)->a'.defers=[]/\∃v,aO P V' (results fn a'.tmps) (λx aU=>x=v/\aU=V') (λ_ _=>False)/\gW E V k kp (.ret v) V':=by
   intro hΦ;obtain⟨l,h1,h2⟩:=hΦ.out;have gG:∃v,ap E' (iY l) v/\aO P V' (results fn a'.tmps) (λx aU=>x=v/\aU=V') (λ_ _=>False):=by
    obtain⟨vs,hl,lQ,xx⟩:=Gv ah rs l h1;refine⟨if h:vs.length=1 then vs[0]else .tuple vs.toArray, ?_, ?_⟩
    ·match l,vs,hl,lQ with
     |[x],[v],_,lQ=>exact lQ 0 x rfl
     |[],[],_,lQ=>exact .aK rfl (by simp)
     |x::y::l,v::w::vs,hl,lQ=>exact .aK (by simpa using hl) (λi z hz=>by simpa[SH,SF]using lQ i z hz)
    ·unfold results;rw[hr,Xi];refine az ?_;refine az (xx ?_);refine aq (aq ⟨?_,rfl⟩);simp
   obtain⟨v,bm,qf⟩:=gG;obtain⟨b,bR,H',q1,q2,q3,q4⟩:=wW h2 ah.bw bm hk.le hc.n;exact⟨hk.defers,v,qf,b,bR,H',q1,hk.role,hk.deaf,q2,q3,q4⟩
  cases ae<;>cases e<;>first
   |exact he.elim
   |exact fin hΦ
   |(obtain⟨v,rfl,bm⟩:=he
     obtain⟨b,bR,H',q1,q2,q3,q4⟩:=wW hΦ ah.bw bm hk.le hc.n;exact⟨hk.defers,b,v,bR,H',rfl,q1,hk.role,hk.deaf,q2,q3,q4⟩)
   |exact hΦ.elim
open Go.Conc
theorem amb(k:Nat)(a:AV)(l:List (Nat×AV)):look ((k,a)::l) k=some a:=by simp[look]
theorem amc(k t:Nat)(a:AV)(l:List (Nat×AV))(h:(k==t)=false):look ((k,a)::l) t=look l t:=by
 have:¬k=t:=by simpa using h
 simp[look,this]
theorem v_{α:Type}(a:α)(k:α->Prop):an (some a) k=k a:=by rw[an]
theorem aeo(b:Bool)(k:Bool->Prop):AV.asBool (.val (.bool b)) k=k b:=by rw[AV.asBool]
theorem aeq(j:IntKind)(n:Int)(k:IntKind->Int->Prop):AV.asInt (.val (.int j n)) k=k j n:=by rw[AV.asInt]
theorem aex(l:List AV)(k:List AV->Prop):AV.wL (.aK l) k=k l:=by rw[AV.wL]
theorem aem(l:List AV)(k:List AV->Prop):AV.asAgg (.agg l) k=k l:=by rw[AV.asAgg]
theorem aes(i j:Nat)(k:Nat->Nat->Prop):AV.pJ (.op i j) k=k i j:=by rw[AV.pJ]
theorem aer(i:Nat)(k:Nat->Prop):AV.sj (.mp i) k=k i:=by rw[AV.sj]
theorem aev(n:Nat)(l:List AV)(e:End)(k:Nat->List AV->End->Prop):AV.u5 (.sl n l e) k=k n l e:=by rw[AV.u5]
theorem adJ(P:Program)(xt:TypeId)(j:IntKind)(m n:Int)(k:AV->Prop):du P .add xt (.val (.int j m)) (.val (.int j n)) k=k (.val (.int j (j.wrap (m+n)))):=by simp[du,mU,l8,an]
theorem adW(P:Program)(xt:TypeId)(j:IntKind)(m n:Int)(k:AV->Prop):du P .sub xt (.val (.int j m)) (.val (.int j n)) k=k (.val (.int j (j.wrap (m-n)))):=by simp[du,mU,l8,an]
theorem adR(P:Program)(xt:TypeId)(j:IntKind)(m n:Int)(k:AV->Prop):du P .mul xt (.val (.int j m)) (.val (.int j n)) k=k (.val (.int j (j.wrap (m* n)))):=by simp[du,mU,l8,an]
theorem adL(P:Program)(xt:TypeId)(j:IntKind)(m n:Int)(k:AV->Prop):du P .eql xt (.val (.int j m)) (.val (.int j n)) k=k (.val (.bool (m==n))):=by simp[du,mU,l8,an]
theorem Nz(P:Program)(xt:TypeId)(j:IntKind)(m n:Int)(k:AV->Prop):du P .neq xt (.val (.int j m)) (.val (.int j n)) k=k (.val (.bool (m !=n))):=by simp[du,mU,l8,an]
theorem adQ(P:Program)(xt:TypeId)(j:IntKind)(m n:Int)(k:AV->Prop):du P .lss xt (.val (.int j m)) (.val (.int j n)) k=k (.val (.bool (decide (m<n)))):=by simp[du,mU,l8,an]
theorem adP(P:Program)(xt:TypeId)(j:IntKind)(m n:Int)(k:AV->Prop):du P .leq xt (.val (.int j m)) (.val (.int j n)) k=k (.val (.bool (decide (m<=n)))):=by simp[du,mU,l8,an]
theorem adN(P:Program)(xt:TypeId)(j:IntKind)(m n:Int)(k:AV->Prop):du P .gtr xt (.val (.int j m)) (.val (.int j n)) k=k (.val (.bool (decide (m>n)))):=by simp[du,mU,l8,an]
theorem adM(P:Program)(xt:TypeId)(j:IntKind)(m n:Int)(k:AV->Prop):du P .geq xt (.val (.int j m)) (.val (.int j n)) k=k (.val (.bool (decide (m>=n)))):=by simp[du,mU,l8,an]
theorem adK(P:Program)(xt:TypeId)(j:IntKind)(m n:Int)(k:AV->Prop):du P .and xt (.val (.int j m)) (.val (.int j n)) k=k (.val (.int j (j.wrap (T4 j.bits m&&&T4 j.bits n).toNat))):=by simp[du,mU,l8,an]
theorem AY(P:Program)(xt:TypeId)(j:IntKind)(m n:Int)(k:AV->Prop):du P .or xt (.val (.int j m)) (.val (.int j n)) k=k (.val (.int j (j.wrap (T4 j.bits m|||T4 j.bits n).toNat))):=by simp[du,mU,l8,an]
theorem A0(P:Program)(xt:TypeId)(j:IntKind)(m n:Int)(k:AV->Prop):du P .xor xt (.val (.int j m)) (.val (.int j n)) k=k (.val (.int j (j.wrap (T4 j.bits m^^^T4 j.bits n).toNat))):=by simp[du,mU,l8,an]
theorem adU(P:Program)(xt:TypeId)(j:IntKind)(m n:Int)(k:AV->Prop):du P .rem xt (.val (.int j m)) (.val (.int j n)) k=an (if n=0 then none else some (.int j (m.tmod n))) λv=>k (.val v):=by simp[du,mU,l8]
theorem adV(P:Program)(xt:TypeId)(j j':IntKind)(m n:Int)(k:AV->Prop):du P .shl xt (.val (.int j m)) (.val (.int j' n)) k=an (if n<0 then none else some (.int j (j.wrap (m* 2^(min n.toNat j.bits))))) λv=>k (.val v):=by simp[du,mU,Ah]
theorem AZ(P:Program)(xt:TypeId)(j j':IntKind)(m n:Int)(k:AV->Prop):du P .shr xt (.val (.int j m)) (.val (.int j' n)) k=an (if n<0 then none else some (.int j (m.fdiv (2^(min n.toNat j.bits))))) λv=>k (.val v):=by simp[du,mU,Ah]
theorem agE(T:List (Nat×AV))(H:List aa)(t:Nat):AS.ev ⟨T,H⟩ (.tmp t)=look T t:=by rw[AS.ev]
theorem agv(s:AS)(b:Bool):s.ev (.const (.bool b))=some (.val (.bool b)):=by rw[AS.ev,AV.of]<;>(intros;simp_all)
theorem agz(s:AS)(k:IntKind)(n:Int):s.ev (.const (.int k n))=some (.val (.int k n)):=by rw[AS.ev,AV.of]<;>(intros;simp_all)
theorem agx(s:AS)(f:FuncId):s.ev (.func f)=some (.fn (.func f) [] []):=by rw[AS.ev]
theorem agD(s:AS):s.ev (.const (.slice none 0 0))=some (.sl 0 [] .exact):=by rw[AS.ev,AV.of]
theorem agA(s:AS):s.ev (.const (.map none))=some (.val (.map none)):=by rw[AS.ev,AV.of]<;>(intros;simp_all)
theorem agB(s:AS):s.ev (.const (.pointer none))=some (.val (.pointer none)):=by rw[AS.ev,AV.of]<;>(intros;simp_all)
theorem agw(s:AS):s.ev (.const .nilFunc)=some (.val .nilFunc):=by rw[AS.ev,AV.of]<;>(intros;simp_all)
theorem agy(s:AS):s.ev (.const .nilIface)=some (.val .nilIface):=by rw[AS.ev,AV.of]<;>(intros;simp_all)
theorem anM(T:List (Nat×AV))(H:List aa)(d:Nat)(a:AV):AS.put ⟨T,H⟩ (some d) a=⟨(d,a)::T,H⟩:=by rw[AS.put]
theorem anL(s:AS)(a:AV):AS.put s none a=s:=by rw[AS.put]
theorem aqB(n:AS->Prop)(Φ:ao->AS->Prop)(s:AS):ao.then n Φ .normal s=n s:=by rw[ao.then]
theorem aqD(n:AS->Prop)(Φ:ao->AS->Prop)(s:AS):ao.then n Φ .ret s=Φ .ret s:=by rw[ao.then];intro h;cases h
theorem aqz(n:AS->Prop)(Φ:ao->AS->Prop)(i:Nat)(s:AS):ao.then n Φ (.exit i) s=Φ (.exit i) s:=by rw[ao.then];intro h;cases h
theorem aqA(n:AS->Prop)(Φ:ao->AS->Prop)(i:Nat)(s:AS):ao.then n Φ (.goto i) s=Φ (.goto i) s:=by rw[ao.then];intro h;cases h
theorem aqC(n:AS->Prop)(Φ:ao->AS->Prop)(a:AV)(s:AS):ao.then n Φ (.panic a) s=Φ (.panic a) s:=by rw[ao.then];intro h;cases h
theorem afk(i:Nat)(Φ:ao->AS->Prop)(s:AS):ao.inBlock i Φ .normal s=Φ .normal s:=by rw[ao.inBlock];intro h h';cases h'
theorem afm(i:Nat)(Φ:ao->AS->Prop)(s:AS):ao.inBlock i Φ .ret s=Φ .ret s:=by rw[ao.inBlock];intro h h';cases h'
theorem afh(i l:Nat)(Φ:ao->AS->Prop)(s:AS):ao.inBlock i Φ (.goto l) s=Φ (.goto l) s:=by rw[ao.inBlock];intro h h';cases h'
theorem afl(i:Nat)(Φ:ao->AS->Prop)(a:AV)(s:AS):ao.inBlock i Φ (.panic a) s=Φ (.panic a) s:=by rw[ao.inBlock];intro h h';cases h'
theorem afi(i:Nat)(Φ:ao->AS->Prop)(s:AS):ao.inBlock i Φ (.exit i) s=Φ .normal s:=by rw[ao.inBlock,if_pos rfl]
theorem afj(i j:Nat)(Φ:ao->AS->Prop)(s:AS)(h:(j==i)=false):ao.inBlock i Φ (.exit j) s=Φ (.exit j) s:=by
 have:¬j=i:=by simpa using h
 rw[ao.inBlock,if_neg this]
theorem aih(P:Program)(rs:List ResultVar)(n:Nat)(k kp:AV->List aa->Prop)(s:AS):tu P rs n k kp .ret s=an (hZ P s rs) λl=>cy n s.H (iY l) k:=by rw[tu]
theorem aif(P:Program)(rs:List ResultVar)(n:Nat)(k kp:AV->List aa->Prop)(s:AS):tu P rs n k kp .normal s=an (hZ P s rs) λl=>cy n s.H (iY l) k:=by rw[tu]
theorem aig(P:Program)(rs:List ResultVar)(n:Nat)(k kp:AV->List aa->Prop)(a:AV)(s:AS):tu P rs n k kp (.panic a) s=cy n s.H a kp:=by rw[tu]
theorem aoC(P:Program)(T:List (Nat×AV))(H:List aa)(t:Nat):uG P ⟨T,H⟩ (.tmp t)=look T t:=by rw[uG]
theorem aeC(s:AS)(l:List AV):s.at (.rp l)=some l:=by rw[AS.at]
theorem apq(n i off:Nat):AV.shift n (.op i off)=some (.op i (off+n)):=by rw[AV.shift]
theorem abU(n:Nat)(l:List AV)(h:n<=l.length):AV.shift n (.rp l)=some (.rp (l.drop n)):=by rw[AV.shift,if_pos h]
theorem apr(l:List AV):AV.shift 0 (.rp l)=some (.rp l):=by rw[AV.shift,if_pos (Xr _),WS]
theorem aps(n:Nat)(a:AV)(l:List AV):AV.shift (n+1) (.rp (a::l))=AV.shift n (.rp l):=by simp[AV.shift]
theorem aoN(n:Nat)(l:List AV)(e:End):AV.row (.sl n l e)=some (n, .rp l):=by rw[AV.row]
theorem aoM(i off n cap:Nat):AV.row (.bJ i off n cap)=some (n, .op i off):=by rw[AV.row]
theorem adt(P:Program)(s:AS){t:TypeId}(n:Nat)(l:List AV)(e:End)(k:AV->Prop)(h:ly P t=some .slice):rW P s t (.sl n l e) k=k (.val (.int .i64 n)):=by unfold rW;rw[h]
theorem ads(P:Program)(s:AS){t:TypeId}(i off n cap:Nat)(k:AV->Prop)(h:ly P t=some .slice):rW P s t (.bJ i off n cap) k=k (.val (.int .i64 n)):=by unfold rW;rw[h]
theorem adr(P:Program)(T:List (Nat×AV))(H:List aa){t:TypeId}(id:Nat)(k:AV->Prop){es:Array MapEntry}{ck:Nat}(h:ly P t=some .map)(hH:H[id]?=some (.obj (.map es ck))):rW P ⟨T,H⟩ t (.mp id) k=k (.val (.int .i64 es.size)):=by
 unfold rW;rw[h];simp[hH]
theorem bB{a b:AV}:(∃c,some b=some c/\Wk c a)<->Wk b a:=⟨λ⟨_,h,k⟩=>by cases h;exact k,λh=>⟨_,rfl,h⟩⟩
abbrev iv (n:Int):AV:= .val (.int .i64 n)
abbrev bv (b:Bool):AV:= .val (.bool b)
open Go.Conc
theorem NP{lv:Bool}{P:Program}{r:Option Nat}{s:AS}{nt:Nat}{c:Operand}{x y:Code}{Φ:ao->AS->Prop}(h:an (s.ev c) λa=>a.asBool λb=>(b=true->aY lv P r nt x s Φ)/\(b=false->aY lv P r nt y s Φ)):aY lv P r nt (.cond c x y) s Φ:=by
 obtain⟨a,h1,h2⟩:=h.out;obtain⟨b,rfl,h3,h4⟩:=yu h2;exact aeD h1 h3 h4
theorem OP{α β:Type}{f:α->List β}{m:Nat}(hf:∀x,(f x).length=m):∀{xs:List α}{i:Nat}{x:α},xs[i]?=some x->(xs.flatMap f).drop (i* m)=f x++(xs.drop (i+1)).flatMap f
 |y::xs,0,x,h=>by cases h;simp
 |y::xs,i+1,x,h=>by
  have ih:=OP hf (xs:=xs) (i:=i) (x:=x) (by simpa using h);rw[Ua,UO,Nat.one_mul,Y5 (i* m) m,<- Zd];have:(f y++xs.flatMap f).drop m=xs.flatMap f:=by rw[<- hf y];simp
  rw[this,ih];simp
 |[],i,x,h=>by simp at h
theorem alR{α β:Type}{f:α->List β}{m:Nat}(hf:∀x,(f x).length=m)(xs:List α):(xs.flatMap f).length=xs.length* m:=by
 induction xs with
 |nil=>simp
 |cons x xs ih=>rw[Ua,SQ,hf,ih,T7,UO];omega
theorem abS{α:Type}{f:α->List AV}{m:Nat}(hf:∀x,(f x).length=m){xs:List α}{i:Nat}{x:α}(h:xs[i]?=some x):AV.shift (i* m) (.rp (xs.flatMap f))=some (.rp (f x++(xs.drop (i+1)).flatMap f)):=by
 have hi:i<xs.length:=(SM.1 h).1;rw[abU _ _ (by rw[alR hf];exact T1 _ (by omega)),OP hf h]
theorem abT{α:Type}{f:α->AV}{xs:List α}{i:Nat}{x:α}(h:xs[i]?=some x):AV.shift (i* 1) (.rp (xs.map f))=some (.rp (f x::(xs.drop (i+1)).map f)):=by
 have hi:i<xs.length:=(SM.1 h).1;rw[Xs,abU _ _ (by simp;omega)];congr 2;rw[<- Zk,TR hi,UE];congr 2;rw[SV hi]at h;exact Vz h
theorem jQ{i n:Nat}(h:i<n):(0<=(i:Int)/\(i:Int)<(n:Int))=True:=by simp;exact h
theorem eU{α:Type}{xs:List α}{i:Nat}{x:α}(h:xs[i]?=some x):i<xs.length:=(SM.1 h).1
theorem cG{α:Type}{xs:List α}{i:Nat}(h:i<xs.length):∃x,xs[i]?=some x:=⟨_,SV h⟩
theorem uX(H L:List aa)(i:Nat):(H++L)[H.length+i]?=L[i]?:=by rw[Tg (by omega)];congr 1;omega
theorem aef(H L:List aa):(H++L)[H.length]?=L[0]?:=by have:=uX H L 0;simpa using this
theorem uY(H L:List aa)(i:Nat)(x:aa):(H++L).set (H.length+i) x=H++L.set i x:=by
 rw[Uy _ _ (by omega)];congr 2;omega
theorem aej(H L:List aa)(x:aa):(H++L).set H.length x=H++L.set 0 x:=by have:=uY H L 0 x;simpa using this
theorem aee(H L M:List aa):(H++L)++M=H++(L++M):=SC ..
theorem aei(H L:List aa):(H++L).length=H.length+L.length:=SQ
theorem eK(n:Nat)(x:Value):Lt n (.val x)=True:=by simp[Lt.val]
theorem aai(n i o:Nat):Lt n (.op i o)=(i<n):=propext ⟨λh=>by cases h with|op h=>exact h, .op⟩
theorem qp(n:Nat)(l:List AV):Lt n (.agg l)=∀a∈l,Lt n a:=propext ⟨λh=>by cases h with|agg h=>exact h, .agg⟩
theorem iV(n:Nat)(l:List AV):Lt n (.aK l)=∀a∈l,Lt n a:=propext ⟨λh=>by cases h with|aK h=>exact h, .aK⟩
theorem aah(n:Nat)(t:TypeId)(a:AV):Lt n (.c_ t a)=Lt n a:=propext ⟨λh=>by cases h with|c_ h=>exact h, .c_⟩
theorem uC(n m:Nat)(l:List AV):Lt n (.sl m l .shut)=∀a∈l,Lt n a:=propext ⟨λh=>by cases h with|sl _ h=>exact h,λh=> .sl (by simp) h⟩
theorem Ly(n m:Nat)(l:List AV):Lt n (.sl m l .exact)=∀a∈l,Lt n a:=propext ⟨λh=>by cases h with|sl _ h=>exact h,λh=> .sl (by simp) h⟩
theorem amf(n m k:Nat)(l:List AV):Lt n (.sl m l (.opn k))=(k<n/\∀a∈l,Lt n a):=propext ⟨λh=>by cases h with|sl h' h=>exact⟨h' k rfl,h⟩,λh=> .sl (λk' e=>by cases e;exact h.1) h.2⟩
theorem xN(n:Nat)(l:List AV):Lt n (.rp l)=∀a∈l,Lt n a:=propext ⟨λh=>by cases h with|rp h=>exact h, .rp⟩
open Go.Conc
def cQ (o:Oper):List Nat:=o.after.toList.filterMap λe=>if XE .any e then some e.on else none
inductive l5 (ops:Array Oper):List Nat->List Nat->Prop
 |nil (X:List Nat) (h:∀i,i<ops.size->i∈X):l5 ops X []
 |cons {X:List Nat} {i:Nat} {l:List Nat} (o:Oper) (ho:ops[i]?=some o) (hn:i∉X) (hd:∀j∈cQ o,j∈X) (h:l5 ops (i::X) l):l5 ops X (i::l)
theorem F3{o:Oper}{j:Nat}:j∈cQ o<->∃e∈o.after,XE .any e=true/\e.on=j:=by
 unfold cQ;rw[Vx];constructor
 ·rintro⟨e,he,h⟩
  split at h
  ·rename_i hb;cases h;exact⟨e,by simpa using he,hb,rfl⟩
  ·cases h
 ·rintro⟨e,he,hb,rfl⟩
  exact⟨e,by simpa using he,by rw[if_pos hb]⟩
theorem Oo{l:List Nat}{i:Nat}(hi:i∈l){p q:Nat->Bool}(jl:∀k,q k=true->p k=true)(hp:p i=true)(hq:q i=false):l.countP q<l.countP p:=by
 induction l with
 |nil=>cases hi
 |cons x l ih=>
  have hle:l.countP q<=l.countP p:=List.countP_mono_left λk _ h=>jl k h;rcases SK.1 hi with rfl|hi
  ·rw[Wh (by simp[hq]),Vw hp];omega
  ·have:=ih hi;by_cases hx:q x=true
   ·rw[Vw hx,Vw (jl x hx)];omega
   ·rw[Wh hx];by_cases jJ:p x=true
    ·rw[Vw jJ];omega
    ·rw[Wh jJ];exact this
structure Nt (ops:Array Oper)(L:Array Bool)(X:List Nat):Prop where
 size:L.size=ops.size
 mem:∀i,i<ops.size->(L[i]?=some true<->i∈X)
theorem SA{ops:Array Oper}(im:∀(i:Nat) o,ops[i]?=some o->∀j∈cQ o,j<i):∀(fuel t:Nat)(L:Array Bool)(X:List Nat),Nt ops L X->(SX ops.size).countP (λi=> !X.contains i)<=fuel->l5 ops X (Uo .any ops fuel t L [])
 |0,t,L,X,hr,hc=>by
  simp only[Uo,Xe];refine .nil X λi hi=> ?_;have:(SX ops.size).countP (λi=> !X.contains i)=0:=by omega
  have:=List.countP_eq_zero.1 this i (by simpa using hi);simpa using this
 |fuel+1,t,L,X,hr,hc=>by
  have ul:∀i,i∈((SX ops.size).filter λi=> !L.getD i true&&((ops[i]?).map (·.after.all λe=> !Region.binds .any e||L.getD e.on false)).getD false)<->∃o,ops[i]?=some o/\i∉X/\∀j∈cQ o,j∈X:=by
   intro i;simp only[Uh,TH,Td,TL];constructor
   ·rintro⟨hi,h1,h2⟩
    have ho:=SJ hi;refine⟨ops[i],ho,λhx=> ?_,λj hj=> ?_⟩
    ·have:=(hr.mem i hi).2 hx;rw[SH,this]at h1;cases h1
    ·obtain⟨e,he,hb,rfl⟩:=F3.1 hj;rw[ho]at h2;simp only[UB,S6,Uq]at h2;have:=h2 e he;rw[hb]at this;simp only[ZD,YG]at this;have hlt:e.on<ops.size:=VH (im i _ ho _ hj) hi;refine(hr.mem _ hlt).1 ?_;rw[SH]at this;cases hx:L[e.on]?with
     |none=>rw[hx]at this;cases this
     |some b=>rw[hx]at this;cases b;cases this;rfl
   ·rintro⟨o,ho,h1,h2⟩
    have hi:i<ops.size:=(SP.1 ho).1;refine⟨hi, ?_, ?_⟩
    ·rw[SH,SJ (by rw[hr.size];exact hi)];simp only[S6];cases hb:L[i]'(by rw[hr.size];exact hi)with
     |false=>rfl
     |true=>exact absurd ((hr.mem i hi).1 (by rw[SJ (by rw[hr.size];exact hi),hb])) h1
    ·rw[ho];simp only[UB,S6,Uq];intro e he;cases hb:XE .any e with
     |false=>rfl
     |true=>
      have hj:=F3.2 ⟨e,he,hb,rfl⟩;have hlt:e.on<ops.size:=VH (im i _ ho _ hj) hi;have:=(hr.mem _ hlt).2 (h2 _ hj);simp[SH,this]
  simp only[Uo];generalize Ch:((SX ops.size).filter λi=> !L.getD i true&&((ops[i]?).map (·.after.all λe=> !Region.binds .any e||L.getD e.on false)).getD false)=rs at ul;cases hi:rs[t % rs.length]?with
  |none=>
   have Kh:rs=[]:=by
    cases rs with
    |nil=>rfl
    |cons x xs=>
     have hlt:t % (x::xs).length<(x::xs).length:=ZE _ (by simp);rw[List.getElem?_eq_none_iff]at hi;omega
   simp only[Xe];refine .nil X λi=> ?_;induction i using XC with
   |_ i ih=>
    intro hlt;apply To;intro hx;have:i∈rs:=(ul i).2 ⟨ops[i],SJ hlt,hx,λj hj=>ih j (im i _ (SJ hlt) j hj) (VH (im i _ (SJ hlt) j hj) hlt)⟩;rw[Kh]at this;cases this
  |some i=>
   simp only[];obtain⟨o,ho,h1,h2⟩:=(ul i).1 (S_ hi);have hlt:i<ops.size:=(SP.1 ho).1;rw[linearise_go_acc,List.reverse_singleton,Yd];refine .cons o ho h1 h2 (SA im fuel _ _ (i::X) ⟨by simp[hr.size],λk hk=> ?_⟩ ?_)
   ·by_cases rj:k=i
    ·subst rj;simp[S7 (by rw[hr.size];exact hlt)]
    ·rw[SR (Ne.symm rj),hr.mem k hk];simp[rj]
   ·have fP:i∈(SX ops.size):=(by simpa using hlt);have:(SX ops.size).countP (λk=> !(i::X).contains k)<(SX ops.size).countP (λk=> !X.contains k):=by
     exact Oo fP (λk hk=>by simp only[TL,Ub,decide_eq_false_iff_not]at hk⊢;exactλh=>hk (S9 _ h)) (by simpa using h1) (by simp)
    omega
end Go.Gg
