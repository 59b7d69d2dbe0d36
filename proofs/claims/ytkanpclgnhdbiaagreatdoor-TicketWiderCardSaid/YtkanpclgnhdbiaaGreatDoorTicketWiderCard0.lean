/- A part of the proof. -/
import Derived.Conc.Own5
import Derived.Conc.Own4
import Derived.Conc.Own3
import Derived.Conc.Own2
import Derived.Conc.QuitsD
import Derived.Conc.Deaf
import Derived.Conc.CompanyDraw
import Derived.Conc.Comm2
import Derived.Conc.Beside
import Derived.Conc.Events
import Derived.Orders
set_option linter.all false
set_option maxRecDepth 4000
set_option maxHeartbeats 4000000
open Array renaming all_eq_true_iff_forall_mem->UJ,append_assoc->Xr,empty_append->Xq,ext'->VB,getD_eq_getD_getElem?->SH,getElem?_append_left->Ya,getElem?_append_right->X7,getElem?_eq_getElem->SJ,getElem?_eq_some_iff->SR,getElem?_map->WA,getElem?_modify->Wd,getElem?_push->Xg,getElem?_push_lt->Yz,getElem?_setIfInBounds_ne->SU,getElem?_setIfInBounds_self_of_lt->S_,getElem_mem->XU,isEmpty_iff->Ze,mem_append->Uu,range->WG,replicate->TK,size_append->XB,toList_map->VI
open BitVec renaming ofInt->Ui
open Bool renaming and_eq_true->Tg,false_eq_true->TM,false_or->XT,not_eq_true'->TZ,not_false->YD,not_true->ai'
open Classical renaming byContradiction->Tt
open Function renaming comp_def->Yy
open Go renaming Addr->U5,BinOp->VX,Call->Xp,CallKind->Xc,Code->T6,Event->Ur,Field->YU,Frame->Uc,Func->ZQ,FuncId->TS,Goroutine->SG,IntKind->TY,Item->WS,LoopState->Z6,MapEntry->Wh,Oper->Tu,Operand->Ti,PanicEntry->ZO,Program->SI,ResultVar->UO,TypeInfo->We,Value->SO,World->To
open Go.Act renaming put->X4
open Go.Addr renaming add->atP
open Go.Builtin renaming append_->Vy,copy_->at1,delete_->at0,firstCells->Vs,growBy->Zm,lenOf->atZ,len_->Ym,nextslicecap->WZ,zeroCells->Xk
open Go.CallKind renaming early->U6
open Go.Conc renaming QuitsD->Y5,seen_none->Z8,served->T7
open Go.Deferred renaming ofValue->U4
open Go.Event renaming mute->WC
open Go.Frame renaming catches->ZR,oper?->YK,round->W8
open Go.GStep renaming after->T5
open Go.Instr renaming checkKey->Vb,fill->Z7,findKey->VM,index->ZX,indexAt->ZI,loadAt->XA,mapUpdate->Zs,sameBits->Wy,slice->ZW,sliceAt->Yk,sliceBound->Zk,sliceBounds->Za,storeAt->Yj,sureAddr->Va,typeAssert->Zj
open Go.IntKind renaming bits->atL,i64->SD,signed->ats,wrap->Xa
open Go.Item renaming plain->ac'
open Go.MemAct renaming low_mono->Zi,ofEvent->Tq
open Go.Next renaming value->W3
open Go.Obj renaming isChan->ag_
open Go.Op renaming equal->Xo,equalIn->Vw,intArith->atW,intDiv->apT,shift->as'
open Go.Question renaming cut->Zr,forced->ar'
open Go.Region renaming binds->Yq,schedule->VJ,wanted->Th
open Go.Region.linearise renaming go->UH
open Go.Sem renaming events_pure->ZF,runT->VE,runT_eq->TA,run_pure->Z5
open Go.Value renaming bool->W_,slice->Us,tuple->YI
open Go.World renaming cell?->UA,frozen?->ZN,setCell->Xi
open Go.stepG renaming exec->Ug,oper->Y3
open Int renaming toNat_natCast->VO
open List renaming append_assoc->SC,append_nil->SN,contains_eq_mem->Uq,countP_cons_of_neg->WQ,countP_cons_of_pos->VS,drop_drop->aj',drop_eq_getElem_cons->TQ,drop_zero->Xy,ext_getElem?->Yo,flatMap_cons->Ub,foldl_cons->UY,getD_cons_zero->Xn,getD_eq_getElem?_getD->SE,getElem?_append_left->SX,getElem?_append_right->S9,getElem?_cons_succ->UN,getElem?_cons_zero->Vq,getElem?_drop->Uo,getElem?_eq_getElem->SY,getElem?_eq_some_iff->SL,getElem?_map->Tm,getElem?_range->Xx,getElem?_set_ne->T8,getElem?_set_self->W7,getElem?_take->Uf,getElem?_toArray->Vf,getElem_mem->Wr,length_append->S4,length_cons->Uk,length_drop->Ul,length_nil->UR,length_take->T4,mapM_cons->Ua,mapM_nil->UC,mapM_toArray->XZ,map_congr_left->Vz,map_cons->UW,map_drop->af_,mem_cons->SK,mem_cons_of_mem->Tb,mem_cons_self->TB,mem_filter->Uw,mem_filterMap->VT,mem_iff_getElem?->UQ,mem_of_getElem?->Tc,mem_of_mem_take->Wq,mem_range->TP,mem_toArray->TJ,not_mem_nil->SZ,range->SV,range'->Ud,range'_succ->VR,range_eq_range'->Vp,reverse_nil->XV,set_append_right->T_,set_set->W6,singleton_append->Y1,take_length->TO,take_take->U3,take_zero->aj_
open Nat renaming add_assoc->U0,add_comm->Z0,add_mul->Vd,add_zero->UD,le_of_eq->WE,le_refl->SQ,le_succ->Y0,le_trans->UL,lt_of_lt_of_le->Td,lt_trans->Wl,min_le_left->ZE,mod_lt->ar_,mul_le_mul->ZK,mul_le_mul_right->Uh,mul_one->Yb,ne_of_lt->VY,strongRecOn->Yn,sub_zero->ZV,zero_add->Wp,zero_le->W2,zero_mul->ZZ
open Option renaming bind_eq_bind->TN,bind_eq_some_iff->Te,getD_none->Vo,getD_some->S7,map_eq_some_iff->Tp,map_some->UP,pure_def->Uj
open Option.some renaming inj->Wj,injEq->Tj
open Prod.mk renaming injEq->U2
namespace Go.Gg
open Go.Conc
abbrev cm:=Nat->Nat->Option SO
abbrev Bi:=Nat->Option Obj
abbrev Spec:=SO->cm->Bi->Prop
inductive mN where
 |plain
 |fork (c Wg:Nat) (Ss:List (List Spec))
 |recv (c Wg:Nat) (Ss:List (List Spec))
 |work (c Wg:Nat) (S:List Spec)
def mN.group:mN->Option Nat
 |.fork _ Wg _=>some Wg
 |_=>none
def mN.chan:mN->Option Nat
 |.fork c _ _=>some c
 |_=>none
structure View where
 ah:cm
 own:Bi
 deaf:Nat
 role:mN
structure Sat (V:View)(w:To):Prop where
 ah:∀b o v,V.ah b o=some v->w.cell? ⟨b,o,none⟩=some v
 own:∀b x,V.own b=some x->w.heap[b]?=some x
def tP (V:View)(n:Nat)(a:U5):Prop:=n<=a.block\/V.own a.block≠none\/V.ah a.block a.off≠none
def mq (V:View)(n:Nat)(a:U5):Prop:=n<=a.block\/(V.own a.block≠none/\V.ah a.block a.off=none)
def mL (V:View)(n:Nat)(e:Ur):Prop:=
 match e with
 |⟨.cell a,false,s⟩=>tP V n a/\(s=true\/V.role.group≠some a.block)
 |⟨.cell a,true,s⟩=>mq V n a/\(s=true\/V.role.group≠some a.block)
 |⟨.obj r,_,s⟩=>(s=false/\(n<=r\/V.own r≠none))/\V.role.chan≠some r
 |⟨.mark (.read a),_,_⟩=>mq V n a
 |⟨.mark (.write a),_,_⟩=>mq V n a
 |⟨.mark .disable,_,s⟩=>s=true
 |⟨.mark .enable,_,s⟩=>s=true
 |⟨.mark .noRoom,_,_⟩=>True
 |_=>False
structure dc (V:View)(w:To)(V':View)(w':To)(es:Array Ur):Prop where
 sat:Sat V' w'
 tape:w'.tape=w.tape
 os:w'.os=w.os
 output:w'.output=w.output
 size:w.heap.size<=w'.heap.size
 frame:∀b,b<w.heap.size->V.own b=none->w'.heap[b]?=w.heap[b]?
 own:∀b,b<w.heap.size->V.own b=none->V'.own b=none
 ah:∀b o v,V.ah b o=some v->V'.ah b o=some v
 kx:∀b o v,V'.ah b o=some v->V.ah b o=some v\/V.own b≠none\/w.heap.size<=b
 eW:∀e∈es,mL V w.heap.size e
 deaf:V'.deaf=deafBehind V.deaf es
 role:V'.role=V.role
 chan:∀c x,V.role.chan=some c->V.own c=some x->V'.own c=some x
 low:∀e∈es,(Tq e).low w'.heap.size
structure dR (V V':View):Prop where
 sat:∀w,Sat V w->Sat V' w
 own:∀b,V.own b=none->V'.own b=none
 ah:∀b o v,V.ah b o=some v->V'.ah b o=some v
 kx:∀b o v,V'.ah b o=some v->V.ah b o=some v\/V.own b≠none
 deaf:V'.deaf=V.deaf
 role:V'.role=V.role
 chan:∀c x,V.role.chan=some c->V.own c=some x->V'.own c=some x
theorem dR.refl(V:View):dR V V:=⟨λ_ h=>h,λ_ h=>h,λ_ _ _ h=>h,λ_ _ _ h=> .inl h,rfl,rfl,λ_ _ _ e=>e⟩
theorem dR.trans{V V' aS:View}(h:dR V V')(k:dR V' aS):dR V aS:=
 ⟨λw x=>k.sat w (h.sat w x),λb x=>k.own b (h.own b x),λb o v x=>k.ah b o v (h.ah b o v x),λb o v x=>(k.kx b o v x).elim (λy=>h.kx b o v y) (λy=> .inr λz=>y (h.own b z)),k.deaf.trans h.deaf,k.role.trans h.role,λc x e e'=>k.chan c x (by rw[h.role];exact e) (h.chan c x e e')⟩
theorem tP.rO{V V':View}(g:dR V V'){n:Nat}{a:U5}(h:tP V' n a):tP V n a:=by
 rcases h with h|h|h
 ·exact .inl h
 ·exact .inr (.inl λe=>h (g.own _ e))
 ·cases e:V'.ah a.block a.off with
  |none=>exact absurd e h
  |some v=>exact(g.kx _ _ _ e).elim (λx=> .inr (.inr (by rw[x];simp))) (λx=> .inr (.inl x))
theorem mq.rO{V V':View}(g:dR V V'){n:Nat}{a:U5}(h:mq V' n a):mq V n a:=by
 rcases h with h|⟨h,h'⟩
 ·exact .inl h
 ·refine .inr ⟨λe=>h (g.own _ e),?_⟩;cases e:V.ah a.block a.off with
  |none=>rfl
  |some v=>rw[g.ah _ _ _ e]at h';cases h'
theorem mL.rO{V V':View}(g:dR V V'){n:Nat}{e:Ur}(h:mL V' n e):mL V n e:=by
 unfold mL at h⊢;split at h
 ·exact⟨tP.rO g h.1,by rw[<- g.role];exact h.2⟩
 ·exact⟨mq.rO g h.1,by rw[<- g.role];exact h.2⟩
 ·exact⟨⟨h.1.1,h.1.2.imp id λx y=>x (g.own _ y)⟩,by rw[<- g.role];exact h.2⟩
 ·exact mq.rO g h
 ·exact mq.rO g h
 ·exact h
 ·exact h
 ·trivial
 ·exact h.elim
theorem dc.rO{V V₁ V':View}{w w':To}{es:Array Ur}(g:dR V V₁)(h:dc V₁ w V' w' es):dc V w V' w' es:=
 ⟨h.sat,h.tape,h.os,h.output,h.size,λb hb e=>h.frame b hb (g.own b e),λb hb e=>h.own b hb (g.own b e),λb o v e=>h.ah b o v (g.ah b o v e),
  λb o v e=>(h.kx b o v e).elim (λx=>(g.kx b o v x).imp id .inl) (λx=> .inr (x.imp (λy z=>y (g.own b z)) id)),λe he=>mL.rO g (h.eW e he),by rw[h.deaf,g.deaf],h.role.trans g.role,λc x e e'=>h.chan c x (by rw[g.role];exact e) (g.chan c x e e'),h.low⟩
theorem dc.ghost{V V' aS:View}{w w':To}{es:Array Ur}(h:dc V w V' w' es)(g:dR V' aS):dc V w aS w' es:=
 ⟨g.sat _ h.sat,h.tape,h.os,h.output,h.size,h.frame,λb hb e=>g.own b (h.own b hb e),λb o v e=>g.ah b o v (h.ah b o v e),
  λb o v e=>(g.kx b o v e).elim (λx=>h.kx b o v x) (λx=>by
   by_cases hb:b<w.heap.size
   ·exact .inr (.inl λy=>x (h.own b hb y))
   ·exact .inr (.inr (by omega))),h.eW,by rw[g.deaf,h.deaf],g.role.trans h.role,λc x e e'=>g.chan c x (by rw[h.role];exact e) (h.chan c x e e'),h.low⟩
theorem dc.idle{V:View}{w:To}(h:Sat V w):dc V w V w #[]:=
 ⟨h,rfl,rfl,rfl,SQ _,λ_ _ _=>rfl,λ_ _ e=>e,λ_ _ _ e=>e,λ_ _ _ e=> .inl e,by simp,rfl,rfl,λ_ _ _ e=>e,by simp⟩
theorem Sat.drew{V:View}{w:To}(h:Sat V w)(d:Nat):Sat V {w with drawn:=d}:=⟨h.ah,h.own⟩
theorem dc.draw{V:View}{w:To}(h:Sat V w)(d:Nat):dc V w V {w with drawn:=d} #[]:=
 ⟨h.drew d,rfl,rfl,rfl,SQ _,λ_ _ _=>rfl,λ_ _ e=>e,λ_ _ _ e=>e,λ_ _ _ e=> .inl e,by simp,rfl,rfl,λ_ _ _ e=>e,by simp⟩
def dT (Wg:Nat):U5:=⟨Wg,0,none⟩
def oB (Wg:Nat):U5:=⟨Wg,1,none⟩
def NP (P : SI) : TypeId := ((P.types.findIdx? λi => match i.desc with | .named n _ => n == "sync.WaitGroup" | _ => false).getD 0)
def wgBlock (P:SI)(st sm:Int):Obj:=.cells #[.int .u64 st,.int .u32 sm] (NP P)
def WgAt (P:SI)(Wg:Nat)(w:To)(st sm:Int):Prop:=w.heap[Wg]?=some (wgBlock P st sm)
def KK:Int:=4294967296
def iW (a:U5):Ur:=⟨.cell a,false,true⟩
def kI (a:U5):Ur:=⟨.cell a,true,true⟩
def jQ (m:Mark):Ur:=⟨.mark m,false,true⟩
def AK (a:U5):Array Ur:=#[jQ .disable,iW a,kI a,jQ .enable]
def cO (P:SI)(Stop:Nat->SG->Prop):Nat->Nat->SG->Prop
 |0,d,g=>Stop d g
 |n+1,d,g=>Stop d g\/(g.status=.running/\∃g' es,(∀e∈es,WC e=true)/\(∀w,stepG P false g w=.go g' w es)/\cO P Stop n (deafBehind d es) g')
def gX (P:SI)(Wg:Nat)(Stop:Nat->SG->Prop):Nat->Nat->SG->Prop
 |0,d,g=>Stop d g
 |n+1,d,g=>Stop d g\/(g.status=.running/\∃g' es,(∀e∈es,WC e=true)/\(∀w x y,WgAt P Wg w x y->stepG P false g w=.go g' w es)/\gX P Wg Stop n (deafBehind d es) g')
section
variable (P:SI)(Wg:Nat)
def D8 (d:Nat)(g:SG):Prop:=d=1/\g.status=.running/\mayWake P g=true/\∃g',(∀w,WgAt P Wg w 0 0->stepG P false g w=.go g' (w.setCell (oB Wg) (.int .u32 1)) (AK (oB Wg)))/\∃q,Y5 P q 1 g'
def D9 (d:Nat)(g:SG):Prop:=d=1/\g.status=.running/\∃g',(∀w,WgAt P Wg w 1 0->stepG P false g w=.go g' (w.setCell (dT Wg) (.int .u64 0)) #[kI (dT Wg)])/\∃n,cO P (D8 P Wg) n 1 g'
def D7 (d:Nat)(g:SG):Prop:=d=1/\g.status=.running/\∃g',(∀w,WgAt P Wg w 1 0->stepG P false g w=.go g' w #[iW (dT Wg)])/\∃n,cO P (D9 P Wg) n 1 g'
def A7 (d:Nat)(g:SG):Prop:=d=1/\g.status=.running/\∀v wt:Nat,wt<=1->v<4->∃g',(∀w,WgAt P Wg w (((v+1:Nat):Int)* KK+wt) 0->stepG P false g w=.go g' (w.setCell (dT Wg) (.int .u64 ((v:Int)* KK+wt))) #[iW (dT Wg),kI (dT Wg)])/\
 ((v=0/\wt=1)->∃n,cO P (D7 P Wg) n 1 g')/\(¬(v=0/\wt=1)->∃q,Y5 P q 1 g')
def Ed (g:SG):Prop:=g.status=.running/\∃g',(∀w,stepG P false g w=.go g' w #[jQ (.releaseMerge (dT Wg))])/\∃n,cO P (A7 P Wg) n 0 g'
end
section
variable (P:SI)(Im:cm)(c Wg:Nat)
def H2 (d:Nat)(g:SG):Prop:=d=0/\g.status=.running/\mayWake P g=true/\∃g',(∀w s,w.heap[c]?=some (.chan 0 #[] false s s false)->stepG P false g w=.go g' {w with heap:=w.heap.setIfInBounds c (.chan 0 #[] true s s false)} #[⟨.obj c,false,true⟩,⟨.obj c,true,true⟩])/\∃q,Y5 P q 0 g'
def H6 (d:Nat)(g:SG):Prop:=d=0/\g.status=.running/\∃b o x g',Im b o=some x/\(∀w,w.cell? ⟨b,o,none⟩=some x->stepG P false g w=.go g' w #[⟨.cell ⟨b,o,none⟩,false,false⟩])/\∃n,cO P (H2 P c) n 0 g'
def tL (d:Nat)(g:SG):Prop:=d=0/\g.status=.running/\∃g',(∀w,stepG P false g w=.go g' w #[jQ (.acquire (dT Wg))])/\∃n,cO P (H6 P Im c) n 0 g'
def H5 (d:Nat)(g:SG):Prop:=d=1/\g.status=.running/\∃g',(∀w,WgAt P Wg w 0 0->stepG P false g w=.go g' w #[iW (dT Wg)])/\∃n,gX P Wg (tL P Im c Wg) n 1 g'
def D6 (d:Nat)(g:SG):Prop:=d=1/\g.status=.running/\g.offers=none/\(∀w st,WgAt P Wg w st 0->stepG P false g w=.go {g with status:=.blocked} w #[])/\
 ∃g',(∀w,WgAt P Wg w 0 1->stepG P false g w=.go g' (w.setCell (oB Wg) (.int .u32 0)) (AK (oB Wg)))/\∃n,cO P (H5 P Im c Wg) n 1 g'
def D5 (d:Nat)(g:SG):Prop:=d=1/\g.status=.running/\∃g',(∀w,stepG P false g w=.go g' w #[jQ (.write (oB Wg))])/\∃n,cO P (D6 P Im c Wg) n 1 g'
def ez:Nat->Nat->SG->Prop
 |0,_,_=>False
 |k+1,d,g=>d=1/\g.status=.running/\∀v:Nat,v<=k->v<=4->∃g',(∀w,WgAt P Wg w ((v:Int)* KK) 0->stepG P false g w=.go g' w #[iW (dT Wg)])/\(v=0->∃n,gX P Wg (tL P Im c Wg) n 1 g')/\
  (v≠0->∃n,cO P (λd g=>d=1/\g.status=.running/\
   (∃g',(∀w,WgAt P Wg w ((v:Int)* KK) 0->stepG P false g w=.go g' (w.setCell (dT Wg) (.int .u64 ((v:Int)* KK+1))) #[iW (dT Wg),kI (dT Wg)])/\∃n,gX P Wg (D5 P Im c Wg) n 1 g')/\
   (∀u:Nat,u<v->∃g',(∀w,WgAt P Wg w ((u:Int)* KK) 0->stepG P false g w=.go g' w #[iW (dT Wg)])/\∃n,cO P (ez v) n 1 g')) n 1 g')
 termination_by k _ _=>k
def H7 (g:SG):Prop:=∃n,cO P (ez P Im c Wg 5) n 0 g
end
structure yJ (P:SI)(main:Bool)(J:View->SG->Prop):Prop where
 step:∀V g,g.status=.running->(∀w,Sat V w->∃g' w' es V',stepG P main g w=.go g' w' es/\dc V w V' w' es/\J V' g')->J V g
 ghost:∀V V' g,dR V V'->J V' g->J V g
 send:∀V g c Wg sp S v z (B:Nat->Bool),V.role=.work c Wg (sp::S)->V.deaf=0->g.status=.running->g.offers=none->
  (∀w,Sat V w->stepG P main g w=.comm g #[scase c v z] true .send w #[])->sp v V.ah (λb=>if B b then V.own b else none)->
  J {V with own:=λb=>if B b then none else V.own b,role:=.work c Wg S} (T7 g undef)->J V g
 done:∀V g c Wg,V.role=.work c Wg []->V.deaf=0->Ed P Wg g->J V g
 slip:∀V g g' c Wg,V.role=.work c Wg []->g.status=.running->(∀w st,Sat V w->WgAt P Wg w st 0->stepG P main g w=.go g' w #[])->J V g'->J V g
structure adG (P:SI)(main:Bool)(J:View->SG->Prop):Prop where
 start:∀V g c Wg,V.role=.plain->c≠Wg->V.own c=some (.chan 0 #[] false 0 0 false)->V.own Wg≠none->(∀o,V.ah Wg o=none)->J {V with role:=.fork c Wg []} g->J V g
 EZ:∀V g g' child c Wg Ss sp S,V.role=.fork c Wg Ss->V.deaf=0->g.status=.running->V.own c=some (.chan 0 #[] false 0 0 false)->V.own Wg=some (wgBlock P (((Ss.length+1:Nat):Int)* 4294967296) 0)->Ss.length<4->(∀o,V.ah Wg o=none)->
  (∀w,Sat V w->stepG P main g w=.spawn g' child w #[])->child.status=.running->
  (∀J0,yJ P false J0->J0 {ah:=V.ah,own:=λ_=>none,deaf:=0,role:=.work c Wg (sp::S)} child)->
  J {V with role:=.fork c Wg (Ss++[sp::S])} g'->J V g
 EY:∀V g g' child c Wg Ss,V.role=.fork c Wg Ss->V.deaf=0->g.status=.running->c≠Wg->V.own c=some (.chan 0 #[] false 0 0 false)->V.own Wg=some (wgBlock P (((Ss.length:Nat):Int)* 4294967296) 0)->(∀o,V.ah c o=none)->(∀o,V.ah Wg o=none)->
  (∀w,Sat V w->stepG P main g w=.spawn g' child w #[])->child.status=.running->H7 P V.ah c Wg child->
  J {V with own:=λb=>if b=c\/b=Wg then none else V.own b,role:=.recv c Wg Ss} g'->J V g
 recv:∀V g c Wg Ss z,V.role=.recv c Wg Ss->V.deaf=0->g.status=.running->g.offers=none->
  (∀w,Sat V w->stepG P main g w=.comm g #[rcase c z] true (.recv true) w #[])->
  (∀i sp S v Im Ow,Ss[i]?=some (sp::S)->sp v Im Ow->(∀b,V.own b≠none->Ow b=none)->(∀b o,V.own b≠none->Im b o≠none->V.ah b o≠none)->(∃w,Sat V w/\(∀b o x,Im b o=some x->w.cell? ⟨b,o,none⟩=some x)/\∀b x,Ow b=some x->w.heap[b]?=some x)->
   J {V with ah:=λb o=>match V.ah b o with|some x=>some x|none=>Im b o,own:=λb=>match V.own b with|some x=>some x|none=>Ow b,role:=.recv c Wg (Ss.set i S)} (T7 g (.tuple #[v,.bool true])))->
  ((∀S∈Ss,S=[])->J {V with role:=.plain} (T7 g (.tuple #[z,.bool false])))->J V g
structure Closed (lv:Bool)(P:SI)(main:Bool)(J:View->SG->Prop):Prop extends yJ P main J where
 more:lv=true->adG P main J
theorem Closed.idle{lv:Bool}{P:SI}{main:Bool}{J:View->SG->Prop}(C:Closed lv P main J){V:View}{g g':SG}(hs:g.status=.running)(h:∀w,stepG P main g w=.go g' w #[]) (hJ:J V g'):J V g:=
 C.step V g hs λw hw=>⟨g',w,#[],V,h w,.idle hw,hJ⟩
def on (b:Uc)(a:Act)(todo:List WS):Uc:={b with tmps:=a.tmps,todo,defers:=a.defers,mode:=.run}
inductive Ex where
 |normal
 |exit (id:Nat)
 |goto (l:Nat)
 |ret
 |panic (chain:List ZO)
def pE (J:View->SG->Prop)(b:Uc)(cs:List Uc)(a:Act)(V:View)(x:T6)(to:List WS->Option (List WS))(k:List WS):Prop:=
 (∃k',to k=some k'/\J V (G (on b a k') cs))\/(to k=none/\∀k2,to k2=none->J V (G (on b a (.code x::k2)) cs))
theorem pE.under{J:View->SG->Prop}{b:Uc}{cs:List Uc}{a:Act}{V:View}{x:T6}{to:List WS->Option (List WS)}{k k2:List WS}(h:pE J b cs a V x to k)(e:to k2=to k):pE J b cs a V x to k2:=by
 rcases h with⟨k',h1,h2⟩|⟨h1,h2⟩
 ·exact .inl ⟨k',e.trans h1,h2⟩
 ·exact .inr ⟨e.trans h1,h2⟩
def aa4:List WS->Bool
 |.call .. ::_=>false
 |_=>true
def vf (J:View->SG->Prop)(b:Uc)(k:List WS)(cs:List Uc):Ex->Act->View->Prop
 |.normal,a,V=>J V (G (on b a k) cs)
 |.exit id,a,V=>pE J b cs a V (.exit id) (exitTo id) k
 |.goto l,a,V=>pE J b cs a V (.goto l) (gotoIn l) k
 |.ret,a,V=>∀k,J V (G (on b a (.code .ret::k)) cs)
 |.panic chain,a,V=>∀todo,aa4 todo=true->J V (G {on b a todo with mode:=.panicking chain} cs)
def WP (lv:Bool)(P:SI)(r:Option Nat)(c:T6)(Q:Ex->Act->View->Prop)(a:Act)(V:View):Prop:=
 ∀(main:Bool)(J:View->SG->Prop),Closed lv P main J->∀(b:Uc)(k:List WS)(cs:List Uc),b.kind≠ .early->b.roundOf=r->
  (∀e a' V',Q e a' V'->vf J b k cs e a' V')->J V (G (on b a (.code c::k)) cs)
section steps
variable {P:SI}{main:Bool}{b:Uc}{a:Act}{k:List WS}{cs:List Uc}{w:To}
theorem apF:stepG P main (G (on b a (.code .skip::k)) cs) w=.go (G (on b a k) cs) w #[]:=by simp[G,stepG,Ug,on]
theorem apz{l:Nat}:stepG P main (G (on b a (.code (.label l)::k)) cs) w=.go (G (on b a k) cs) w #[]:=by simp[G,stepG,Ug,on]
theorem apw{id:Nat}:stepG P main (G (on b a (.inBlock id::k)) cs) w=.go (G (on b a k) cs) w #[]:=by simp[G,stepG,Ug,on]
theorem apy{c:T6}:stepG P main (G (on b a (.inScope c::k)) cs) w=.go (G (on b a k) cs) w #[]:=by simp[G,stepG,Ug,on]
theorem ab3{x y:T6}:stepG P main (G (on b a (.code (.seq x y)::k)) cs) w=.go (G (on b a (.code x:: .code y::k)) cs) w #[]:=by simp[G,stepG,Ug,on]
theorem GY(b:Uc)(a:Act)(todo:List WS)(x:Ti):(on b a todo).eval x=a.eval x:=by cases x<;>rfl
theorem anB(b:Uc)(a:Act)(todo:List WS):(on b a todo).eval=a.eval:=funext (GY b a todo)
theorem s_cond{c:Ti}{x y:T6}{t:Bool}(h:a.eval c=.bool t):
  stepG P main (G (on b a (.code (.cond c x y)::k)) cs) w=.go (G (on b a (.code (if t then x else y)::k)) cs) w #[]:=by
 have h':(on b a (.code (.cond c x y)::k)).eval c=.bool t:=by rw[GY];exact h
 simp only[on]at h';simp[G,stepG,Ug,on,h']
theorem apt{id:Nat}{c:T6}:stepG P main (G (on b a (.code (.block id c)::k)) cs) w=.go (G (on b a (.code c:: .inBlock id::k)) cs) w #[]:=by simp[G,stepG,Ug,on]
theorem apE{c:T6}:stepG P main (G (on b a (.code (.scope c)::k)) cs) w=.go (G (on b a (.code c:: .inScope c::k)) cs) w #[]:=by simp[G,stepG,Ug,on]
theorem apA{c:T6}:stepG P main (G (on b a (.code (.loop c)::k)) cs) w=.go (G (on b a (.code c:: .inLoop c::k)) cs) w #[]:=by simp[G,stepG,Ug,on]
theorem apx{c:T6}:stepG P main (G (on b a (.inLoop c::k)) cs) w=.go (G (on b a (.code c:: .inLoop c::k)) cs) w #[]:=by simp[G,stepG,Ug,on]
theorem s_exit{id:Nat}{k':List WS}(h:exitTo id k=some k'):stepG P main (G (on b a (.code (.exit id)::k)) cs) w=.go (G (on b a k') cs) w #[]:=by simp[G,stepG,Ug,on,h]
theorem apv{l:Nat}{k':List WS}(h:gotoIn l k=some k'):stepG P main (G (on b a (.code (.goto l)::k)) cs) w=.go (G (on b a k') cs) w #[]:=by simp[G,stepG,Ug,on,h]
theorem ab2{id:Nat}{ops:Array Tu}:stepG P main (G (on b a (.code (.region id ops false)::k)) cs) w=.go (G (on b a (.inRegion ops (SV ops.size)::k)) cs) w #[]:=by simp[G,stepG,Ug,on]
theorem apu{id:Nat}{ops:Array Tu}:stepG P main (G (on b a (.code (.region id ops true)::k)) cs) w=
  .go (G (on b a (.inRegion ops (VJ (P.follows .mixedOrders) ops (w.tape w.drawn (.order b.fn id)))::k)) cs) {w with drawn:=w.drawn+1} #[]:=by
 simp[G,stepG,Ug,on,choose,Sem.run,ar',Zr]
theorem apD{ops:Array Tu}:stepG P main (G (on b a (.inRegion ops []::k)) cs) w=.go (G (on b a k) cs) w #[]:=by simp[G,stepG,Ug,on]
theorem Dx(h:b.roundOf=none):stepG P main (G (on b a (.code .ret::k)) cs) w=.go (G {on b a (.code .ret::k)with mode:=.returning} cs) w #[]:=by simp[G,stepG,Ug,on,h]
theorem Dw(h:b.roundOf=none):stepG P main (G (on b a []) cs) w=.go (G {on b a []with mode:=.returning} cs) w #[]:=by simp[G,stepG,Ug,on,h]
end steps
section rules
variable {lv:Bool}{P:SI}{r:Option Nat}{Q:Ex->Act->View->Prop}{a:Act}{V:View}
theorem WP.mono{c:T6}{Q':Ex->Act->View->Prop}(h:WP lv P r c Q a V)(hq:∀e a V,Q e a V->Q' e a V):WP lv P r c Q' a V:=
 λmain J C b k cs hb hr hL=>h main J C b k cs hb hr λe a' V' q=>hL e a' V' (hq _ _ _ q)
theorem WP.ghost{c:T6}{V':View}(g:dR V V')(h:WP lv P r c Q a V'):WP lv P r c Q a V:=
 λmain J C b k cs hb hr hL=>C.ghost _ _ _ g (h main J C b k cs hb hr hL)
theorem wp_skip(h:Q .normal a V):WP lv P r .skip Q a V:=λ_ _ C _ _ _ _ _ hL=>C.idle rfl (λ_=>apF) (hL _ _ _ h)
theorem wp_label{l:Nat}(h:Q .normal a V):WP lv P r (.label l) Q a V:=λ_ _ C _ _ _ _ _ hL=>C.idle rfl (λ_=>apz) (hL _ _ _ h)
theorem aat{main:Bool}{J:View->SG->Prop}(C:Closed lv P main J){b:Uc}{cs:List Uc}{a:Act}{V:View}{id:Nat}{k:List WS}(h:pE J b cs a V (.exit id) (exitTo id) k):J V (G (on b a (.code (.exit id)::k)) cs):=
 h.elim (λ⟨_,hk,hJ⟩=>C.idle rfl (λ_=>s_exit hk) hJ) (λ⟨hk,hJ⟩=>hJ k hk)
theorem alH{main:Bool}{J:View->SG->Prop}(C:Closed lv P main J){b:Uc}{cs:List Uc}{a:Act}{V:View}{l:Nat}{k:List WS}(h:pE J b cs a V (.goto l) (gotoIn l) k):J V (G (on b a (.code (.goto l)::k)) cs):=
 h.elim (λ⟨_,hk,hJ⟩=>C.idle rfl (λ_=>apv hk) hJ) (λ⟨hk,hJ⟩=>hJ k hk)
theorem wp_exit{id:Nat}(h:Q (.exit id) a V):WP lv P r (.exit id) Q a V:=λ_ _ C _ _ _ _ _ hL=>aat C (hL _ _ _ h)
theorem wp_ret(h:Q .ret a V):WP lv P r .ret Q a V:=λ_ _ _ _ k _ _ _ hL=>hL _ _ _ h k
def Ex.then (next:Act->View->Prop)(Q:Ex->Act->View->Prop):Ex->Act->View->Prop
 |.normal,a,V=>next a V
 |e,a,V=>Q e a V
theorem vf.under{J:View->SG->Prop}{b:Uc}{k:List WS}{cs:List Uc}{x:WS}(hx:x.plain=true){e:Ex}(he:e≠ .normal){a:Act}{V:View}(h:vf J b k cs e a V):vf J b (x::k) cs e a V:=by
 cases e with
 |normal=>exact absurd rfl he
 |exit id=>exact pE.under h (by cases x<;>simp_all[exitTo,ac'])
 |goto l=>exact pE.under h (by cases x<;>simp_all[gotoIn,ac'])
 |ret=>exact h
 |panic ch=>exact h
theorem wp_seq{x y:T6}(h:WP lv P r x (Ex.then (WP lv P r y Q) Q) a V):WP lv P r (.seq x y) Q a V:=by
 intro main J C b k cs hb hr hL;refine C.idle rfl (λ_=>ab3) (h main J C b (.code y::k) cs hb hr λe a' V' q=> ?_);cases e with
 |normal=>exact q main J C b k cs hb hr hL
 |exit id=>exact(hL _ _ _ q).under rfl (by simp)
 |goto l=>exact(hL _ _ _ q).under rfl (by simp)
 |ret=>exact(hL _ _ _ q).under rfl (by simp)
 |panic ch=>exact(hL _ _ _ q).under rfl (by simp)
theorem wp_cond{c:Ti}{x y:T6}{t:Bool}(hc:a.eval c=.bool t)(h:WP lv P r (if t then x else y) Q a V):WP lv P r (.cond c x y) Q a V:=
 λmain J C b k cs hb hr hL=>C.idle rfl (λ_=>s_cond hc) (h main J C b k cs hb hr hL)
def Ex.inBlock (id:Nat)(Q:Ex->Act->View->Prop):Ex->Act->View->Prop
 |.exit ov,a,V=>if ov=id then Q .normal a V else Q (.exit ov) a V
 |e,a,V=>Q e a V
theorem wp_block{id:Nat}{c:T6}(h:WP lv P r c (Ex.inBlock id Q) a V):WP lv P r (.block id c) Q a V:=by
 intro main J C b k cs hb hr hL;refine C.idle rfl (λ_=>apt) (h main J C b (.inBlock id::k) cs hb hr λe a' V' q=> ?_);cases e with
 |normal=>exact C.idle rfl (λ_=>apw) (hL _ _ _ q)
 |exit ov=>
  by_cases bR:ov=id
  ·simp only[Ex.inBlock,bR,if_true]at q;exact .inl ⟨k,by simp[exitTo,bR],hL _ _ _ q⟩
  ·simp only[Ex.inBlock,bR,if_false]at q;have:(id==ov)=false:=(by simp;exactλh=>bR h.symm);exact pE.under (hL _ _ _ q) (by simp[exitTo,this])
 |goto l=>exact pE.under (hL _ _ _ q) (by simp[gotoIn])
 |ret=>exact hL _ _ _ q
 |panic ch=>exact hL _ _ _ q
theorem NV{α:Type}{lt:α->α->Prop}(wf:WellFounded lt){c:T6}(I:α->Act->View->Prop)(m:α)(h₀:I m a V)
  (round:∀m a V,I m a V->WP lv P r c (Ex.then (λa' V'=>∃m',lt m' m/\I m' a' V') Q) a V):WP lv P r (.loop c) Q a V:=by
 intro main J C b k cs hb hr hL;have key:∀m a V,I m a V->J V (G (on b a (.code c:: .inLoop c::k)) cs):=by
  intro m;induction m using wf.induction with
  |_ m ih=>
   intro a V hI;refine round m a V hI main J C b (.inLoop c::k) cs hb hr λe a' V' q=> ?_;cases e with
   |normal=>obtain⟨m',hlt,hI'⟩:=q;exact C.idle rfl (λ_=>apx) (ih m' hlt a' V' hI')
   |exit id=>exact(hL _ _ _ q).under rfl (by simp)
   |goto l=>exact(hL _ _ _ q).under rfl (by simp)
   |ret=>exact(hL _ _ _ q).under rfl (by simp)
   |panic ch=>exact(hL _ _ _ q).under rfl (by simp)
 exact C.idle rfl (λ_=>apA) (key m a V h₀)
theorem wp_loop{c:T6}(I:Nat->Act->View->Prop)(m:Nat)(h₀:I m a V)
  (round:∀m a V,I m a V->WP lv P r c (Ex.then (λa' V'=>∃m',m'<m/\I m' a' V') Q) a V):WP lv P r (.loop c) Q a V:=
 NV Nat.lt_wfRel.wf I m h₀ round
theorem adz{c:T6}(I:Nat->Nat->Act->View->Prop)
  (start:∃n:Nat,WP lv P r c (λe a V=>match e with
   |.goto l=>∃rest,findLabel c l=some rest/\∃m,m<n/\I l m a V
   |e=>Q e a V) a V)
  (back:∀l rest m a V,findLabel c l=some rest->I l m a V->WP lv P r rest (λe a V=>match e with
   |.goto l'=>∃yw,findLabel c l'=some yw/\∃m',m'<m/\I l' m' a V
   |e=>Q e a V) a V):WP lv P r (.scope c) Q a V:=by
 intro main J C b k cs hb hr hL;have land:∀(n:Nat),(∀l rest m a V,m<n->findLabel c l=some rest->I l m a V->J V (G (on b a (.code rest:: .inScope c::k)) cs))->
   ∀e a' V',(match e with
   |.goto l=>∃rest,findLabel c l=some rest/\∃m,m<n/\I l m a' V'
   |e=>Q e a' V')->vf J b (.inScope c::k) cs e a' V':=by
  intro n hn e a' V' q;cases e with
  |normal=>exact C.idle rfl (λ_=>apy) (hL _ _ _ q)
  |exit id=>exact pE.under (hL _ _ _ q) (by simp[exitTo])
  |goto l=>
   obtain⟨rest,hf,m,hm,hI⟩:=q;exact .inl ⟨_,by simp[gotoIn,hf],hn l rest m a' V' hm hf hI⟩
  |ret=>exact hL _ _ _ q
  |panic ch=>exact hL _ _ _ q
 have key:∀n l rest m a V,m<n->findLabel c l=some rest->I l m a V->J V (G (on b a (.code rest:: .inScope c::k)) cs):=by
  intro n;induction n with
  |zero=>intro _ _ _ _ _ h;omega
  |succ n ih=>
   intro l rest m a V hm hf hI;exact back l rest m a V hf hI main J C b (.inScope c::k) cs hb hr (land m λl' yw m' a' V' h'=>ih l' yw m' a' V' (by omega))
 obtain⟨n,hn⟩:=start;exact C.idle rfl (λ_=>apE) (hn main J C b (.inScope c::k) cs hb hr (land n (key n)))
end rules
open Go.Conc
def View.get (V:View)(b o:Nat):Option SO:=
 match V.ah b o with
 |some v=>some v
 |none=>match V.own b with
  |some (.cells c _ _)=>c[o]?
  |_=>none
def View.upd (V:View)(b:Nat)(x:Obj):View:={V with own:=λb'=>if b'=b then some x else V.own b'}
def View.fresh (V:View)(b:Nat):Prop:=V.own b=none/\∀o,V.ah b o=none
theorem Sat.get{V:View}{w:To}(h:Sat V w){b o:Nat}{v:SO}(e:V.get b o=some v):w.cell? ⟨b,o,none⟩=some v:=by
 unfold View.get at e;split at e
 ·rename_i v' hv;cases e;exact h.ah _ _ _ hv
 ·split at e
  ·rename_i c el f ho;have:=h.own _ _ ho;simpa[UA,this]using e
  ·cases e
theorem Sat.lt{V:View}{w:To}(h:Sat V w){b:Nat}{x:Obj}(e:V.own b=some x):b<w.heap.size:=by
 have:=h.own _ _ e;exact(SR.1 this).1
theorem Sat.CZ{V:View}{w:To}(h:Sat V w){b o:Nat}{v:SO}(e:V.ah b o=some v):b<w.heap.size:=by
 have:=h.ah _ _ _ e;unfold UA at this;split at this
 ·rename_i hh;exact(SR.1 hh).1
 ·cases this
theorem Sat.fresh{V:View}{w:To}(h:Sat V w){b:Nat}(hb:w.heap.size<=b):V.fresh b:=
 ⟨by cases e:V.own b with
  |none=>rfl
  |some x=>have:=h.lt e;omega,λo=>by
  cases e:V.ah b o with
  |none=>rfl
  |some x=>have:=h.CZ e;omega⟩
theorem Sat.eI{V:View}{w:To}(h:Sat V w){b o:Nat}{v:SO}(e:V.get b o=some v):b<w.heap.size:=by
 have:=h.get e;unfold UA at this;split at this
 ·rename_i hh;exact(SR.1 hh).1
 ·cases this
theorem tP.yn{V V₁:View}{w w₁:To}{es:Array Ur}(s:dc V w V₁ w₁ es){a:U5}(h:tP V₁ w₁.heap.size a):tP V w.heap.size a:=by
 rcases h with h|h|h
 ·exact .inl (UL s.size h)
 ·by_cases hb:a.block<w.heap.size
  ·exact .inr (.inl λe=>h (s.own _ hb e))
  ·exact .inl (by omega)
 ·cases e:V₁.ah a.block a.off with
  |none=>exact absurd e h
  |some v=>
   rcases s.kx _ _ _ e with x|x|x
   ·exact .inr (.inr (by rw[x];simp))
   ·exact .inr (.inl x)
   ·exact .inl x
theorem mq.yn{V V₁:View}{w w₁:To}{es:Array Ur}(s:dc V w V₁ w₁ es){a:U5}(h:mq V₁ w₁.heap.size a):mq V w.heap.size a:=by
 rcases h with h|⟨h,h'⟩
 ·exact .inl (UL s.size h)
 ·by_cases hb:a.block<w.heap.size
  ·refine .inr ⟨λe=>h (s.own _ hb e),?_⟩;cases e:V.ah a.block a.off with
   |none=>rfl
   |some v=>rw[s.ah _ _ _ e]at h';cases h'
  ·exact .inl (by omega)
theorem mL.yn{V V₁:View}{w w₁:To}{es:Array Ur}(s:dc V w V₁ w₁ es){e:Ur}(h:mL V₁ w₁.heap.size e):mL V w.heap.size e:=by
 unfold mL at h⊢;split at h
 ·exact⟨tP.yn s h.1,by rw[<- s.role];exact h.2⟩
 ·exact⟨mq.yn s h.1,by rw[<- s.role];exact h.2⟩
 ·refine⟨⟨h.1.1,?_⟩,by rw[<- s.role];exact h.2⟩;rename_i r _ _;rcases h.1.2 with x|x
  ·exact .inl (UL s.size x)
  ·by_cases hb:r<w.heap.size
   ·exact .inr λy=>x (s.own _ hb y)
   ·exact .inl (by omega)
 ·exact mq.yn s h
 ·exact mq.yn s h
 ·exact h
 ·exact h
 ·trivial
 ·exact h.elim
theorem IQ(d:Nat)(x y:Array Ur):deafBehind d (x++y)=deafBehind (deafBehind d x) y:=by
 simp[deafBehind]
theorem dc.trans{V V₁ V₂:View}{w w₁ w₂:To}{es ud:Array Ur}(s:dc V w V₁ w₁ es)(s':dc V₁ w₁ V₂ w₂ ud):dc V w V₂ w₂ (es++ud):=
 ⟨s'.sat,s'.tape.trans s.tape,s'.os.trans s.os,s'.output.trans s.output,UL s.size s'.size,
  λb hb e=>(s'.frame b (Td hb s.size) (s.own b hb e)).trans (s.frame b hb e),λb hb e=>s'.own b (Td hb s.size) (s.own b hb e),
  λb o v e=>s'.ah b o v (s.ah b o v e),λb o v e=>by
   rcases s'.kx b o v e with x|x|x
   ·exact s.kx b o v x
   ·by_cases hb:b<w.heap.size
    ·exact .inr (.inl λy=>x (s.own b hb y))
    ·exact .inr (.inr (by omega))
   ·exact .inr (.inr (UL s.size x)),
  λe he=>(Uu.1 he).elim (s.eW e) (λh=>(s'.eW e h).yn s),by rw[s'.deaf,s.deaf,IQ],s'.role.trans s.role,λc x e e'=>s'.chan c x (by rw[s.role];exact e) (s.chan c x e e'),
  λe he=>(Uu.1 he).elim (λx=>Zi s'.size (s.low e x)) (s'.low e)⟩
def fB (es:Array Ur):Array Ur:=es.filter λe=>match e.loc with|.mark (.extern _)=>false|_=>true
def aP (P:SI){α:Type}(V:View)(s:Sem α)(K:α->View->Prop)(Kp:SO->View->Prop):Prop:=
 ∀w,Sat V w->∀eN,∃es w' V',dc V w V' w' (fB es)/\
  ((∃x,s.runT P w eN=(.ok x w',eN++es)/\K x V')\/(∃v,s.runT P w eN=(.halt (.panic v) w',eN++es)/\Kp v V'))
section
variable {P:SI}{α β:Type}{V:View}{K:α->View->Prop}{Kp:SO->View->Prop}
theorem MB(x y:Array Ur):fB (x++y)=fB x++fB y:=by simp[fB]
theorem aP.mono{s:Sem α}{K':α->View->Prop}{N9:SO->View->Prop}(h:aP P V s K Kp)(hk:∀x V,K x V->K' x V)(hp:∀x V,Kp x V->N9 x V):aP P V s K' N9:=λw hw eN=>
 let⟨es,w',V',h1,h2⟩:=h w hw eN
 ⟨es,w',V',h1,h2.imp (λ⟨x,a,b⟩=>⟨x,a,hk _ _ b⟩) (λ⟨x,a,b⟩=>⟨x,a,hp _ _ b⟩)⟩
theorem aP.ghost{s:Sem α}{V':View}(g:dR V V')(h:aP P V' s K Kp):aP P V s K Kp:=λw hw eN=>
 let⟨es,w',V',h1,h2⟩:=h w (g.sat w hw) eN
 ⟨es,w',V',h1.rO g,h2⟩
theorem aP.cont{s:Sem α}(h:∀w,Sat V w->∃es w' V' s',dc V w V' w' (fB es)/\(∀eN,s.runT P w eN=s'.runT P w' (eN++es))/\aP P V' s' K Kp):aP P V s K Kp:=by
 intro w hw eN;obtain⟨es,w',V',s',h1,h2,h3⟩:=h w hw;obtain⟨ud,NO,aS,h4,h5⟩:=h3 w' h1.sat (eN++es);refine⟨es++ud,NO,aS,by rw[MB];exact h1.trans h4,?_⟩;rw[h2,<- Xr];exact h5
theorem cE{x:α}(h:K x V):aP P V (.pure x) K Kp:=λw hw eN=>⟨#[],w,V,by simpa[fB]using dc.idle hw,.inl ⟨x,by simp[-TA,VE],h⟩⟩
theorem au{x:α}(h:K x V):aP P V (pure x) K Kp:=cE h
theorem apY{v:SO}(h:Kp v V):aP P V (.halt (.panic v):Sem α) K Kp:=λw hw eN=>⟨#[],w,V,by simpa[fB]using dc.idle hw,.inr ⟨v,by simp[-TA,VE],h⟩⟩
theorem tp{e:Ur}(h:∀f,e.loc≠ .mark (.extern f)):fB #[e]=#[e]:=by
 unfold fB;have:(match e.loc with|.mark (.extern _)=>false|_=>true)=true:=by
  split
  ·rename_i f hf;exact absurd hf (h f)
  ·rfl
 simp[Array.filter]
theorem Pk(d:Nat)(a:U5)(wr s:Bool):deafBehind d #[⟨.cell a,wr,s⟩]=d:=by simp[deafBehind]
theorem Pl(d:Nat)(a:Nat)(wr s:Bool):deafBehind d #[⟨.obj a,wr,s⟩]=d:=by simp[deafBehind]
theorem Nk{m:Mode}{b o:Nat}{v:SO}{k:SO->Sem α}(e:V.get b o=some v)(jX:V.role.group≠some b\/m=.atomic)(h:aP P V (k v) K Kp):aP P V (.load m ⟨b,o,none⟩ k) K Kp:=by
 refine .cont λw hw=>⟨#[⟨.cell ⟨b,o,none⟩,false,m== .atomic⟩],w,V,k v,?_,λeN=> ?_,h⟩
 ·rw[tp (by simp)];refine⟨hw,rfl,rfl,rfl,SQ _,λ_ _ _=>rfl,λ_ _ e=>e,λ_ _ _ e=>e,λ_ _ _ e=> .inl e,λev cg=> ?_,by rw[Pk],rfl,λ_ _ _ e=>e,λev cg=>by simp at cg;subst cg;exact hw.eI e⟩;simp only[TJ,SK,SZ,or_false]at cg;subst cg;refine⟨.inr ?_,jX.elim .inr (λx=> .inl (by subst x;rfl))⟩;show V.own b≠none\/V.ah b o≠none;unfold View.get at e;split at e
  ·rename_i hv;exact .inr (by rw[hv];simp)
  ·split at e
   ·rename_i hv;exact .inl (by rw[hv];simp)
   ·cases e
 ·simp[-TA,VE,hw.get e]
def _root_.Go.Value.one:SO->Bool
 |.agg _|.tuple _=>false
 |_=>true
theorem Sat.adp{V:View}{w:To}(h:Sat V w){b o:Nat}{v:SO}{c:Array SO}{el:TypeId}{f:Nat×Nat}(ho:V.own b=some (.cells c el f))(hi:V.ah b o=none):
  Sat (V.upd b (.cells (c.setIfInBounds o v) el f)) (w.setCell ⟨b,o,none⟩ v):=by
 have hb:=h.own _ _ ho;have hlt:=h.lt ho;have hm:(w.setCell ⟨b,o,none⟩ v).heap=w.heap.setIfInBounds b (.cells (c.setIfInBounds o v) el f):=by
  unfold Xi;apply Array.ext_getElem?;intro i;by_cases cw:b=i
  ·subst cw;rw[Wd,S_ hlt];simp[hb]
  ·simp[Wd,cw,SU cw]
 refine⟨λb' o' v' e=> ?_,λb' x e=> ?_⟩
 ·have:=h.ah _ _ _ e;simp only[View.upd]at e;by_cases zH:b=b'
  ·subst zH;have K6:o≠o':=(by intro x;subst x;rw[hi]at e;cases e);simp only[UA,hb]at this;simp only[UA,hm,S_ hlt,SU K6];exact this
  ·simp only[UA,hm,SU zH];exact this
 ·simp only[View.upd]at e;rw[hm];by_cases zH:b'=b
  ·subst zH;simp at e;rw[S_ hlt,e]
  ·simp only[zH,if_false]at e;rw[SU (Ne.symm zH)];exact h.own _ _ e
theorem DF(w:To)(a:U5)(v:SO):(w.setCell a v).heap.size=w.heap.size:=by simp[Xi]
theorem vV(w:To)(a:U5)(v:SO){b:Nat}(h:a.block≠b):(w.setCell a v).heap[b]?=w.heap[b]?:=by simp[Xi,Wd,h]
theorem ap0{m:Mode}{b o:Nat}{v:SO}{k:Sem α}{c:Array SO}{el:TypeId}{lo hi:Nat}(ho:V.own b=some (.cells c el (lo,hi)))(cR:o<c.size)(cw:V.ah b o=none)(hv:v.one=true)
  (hf:¬(lo<=o/\o<hi)) (jX:V.role.group≠some b\/m=.atomic) (KA:V.role.chan≠some b) (h:aP P (V.upd b (.cells (c.setIfInBounds o v) el (lo,hi))) k K Kp):aP P V (.store m ⟨b,o,none⟩ v k) K Kp:=by
 refine .cont λw hw=>⟨#[⟨.cell ⟨b,o,none⟩,true,m== .atomic⟩],w.setCell ⟨b,o,none⟩ v,_,k,?_,λeN=> ?_,h⟩
 ·rw[tp (by simp)];refine⟨hw.adp ho cw,rfl,rfl,rfl,by rw[DF];exact SQ _,λb' dD e=>vV _ _ _ (λx=> ?_),λb' dD e=> ?_,λ_ _ _ e=>e,λ_ _ _ e=> .inl e,λev cg=> ?_,by rw[Pk];rfl,rfl,λc' x aY e=>by rw[<- e];simp only[View.upd,ite_eq_right_iff];intro x';subst x';exact absurd aY KA,λev cg=>by simp at cg;subst cg;show b<_;rw[DF];exact hw.lt ho⟩
  ·have x':b=b':=x;subst x';rw[ho]at e;cases e
  ·have:b'≠b:=(by intro x;subst x;rw[ho]at e;cases e);simp only[View.upd,this,if_false];exact e
  ·simp only[TJ,SK,SZ,or_false]at cg;subst cg;exact⟨.inr ⟨by show V.own b≠none;rw[ho];simp,cw⟩,jX.elim .inr (λx=> .inl (by subst x;rfl))⟩
 ·have hc:w.cell? ⟨b,o,none⟩=some c[o]:=by simp[UA,hw.own _ _ ho,cR]
  have hfz:w.frozen? ⟨b,o,none⟩=false:=by
   simp only[ZN,hw.own _ _ ho];simpa using hf
  cases v<;>simp_all[-TA,VE,Value.one]
theorem oA{x:Obj}{k:Nat->Sem α}(h:∀r,V.fresh r->aP P (V.upd r x) (k r) K Kp):aP P V (.new x k) K Kp:=by
 refine .cont λw hw=>⟨#[],{w with heap:=w.heap.push x},V.upd w.heap.size x,k w.heap.size,?_,λeN=>by simp[-TA,VE],h _ (hw.fresh (SQ _))⟩;have jo:=hw.fresh (SQ w.heap.size);have aI:∀{b y},V.own b=some y->b≠w.heap.size:=λe x=>by rw[x,jo.1]at e;cases e
 refine⟨⟨λb o v e=> ?_,λb y e=> ?_⟩,rfl,rfl,rfl,by simp,λb hb _=> ?_,λb hb e=> ?_,λ_ _ _ e=>e,λ_ _ _ e=> .inl e,by simp[fB],rfl,rfl,λc' x aY e=>by rw[<- e];simp only[View.upd,ite_eq_right_iff];intro x';exact absurd x' (aI e),by simp[fB]⟩
 ·have hlt:=hw.CZ e;have:=hw.ah _ _ _ e;simp only[UA,Yz hlt]at this⊢;simpa[UA,hlt]using this
 ·simp only[View.upd]at e;by_cases hb:b=w.heap.size
  ·subst hb;simp at e;simp[e]
  ·simp only[hb,if_false]at e;have:=hw.own _ _ e;have hlt:=hw.lt e;simp only[Yz hlt];simpa[hlt]using this
 ·simp[Xg,VY hb]
 ·simp only[View.upd,VY hb,if_false];exact e
theorem acf{q:Question}{k:Nat->Sem α}(h0:q.forced=true->aP P V (k 0) K Kp)(h:q.forced=false->∀t,aP P V (k (q.cut t)) K Kp):aP P V (.choose q k) K Kp:=by
 cases hf:q.forced with
 |true=>exact .cont λw hw=>⟨#[],w,V,k 0,by simpa[fB]using dc.idle hw,λeN=>by simp[-TA,VE,hf],h0 hf⟩
 |false=>exact .cont λw hw=>⟨#[],{w with drawn:=w.drawn+1},V,_,by simpa[fB]using dc.draw hw (w.drawn+1),λeN=>by simp[-TA,VE,hf],h hf (w.tape w.drawn q)⟩
theorem qx{k:SI->Sem α}(h:aP P V (k P) K Kp):aP P V (.program k) K Kp:=
 .cont λw hw=>⟨#[],w,V,k P,by simpa[fB]using dc.idle hw,λeN=>by simp[-TA,VE],h⟩
theorem apX{k:Sem α}(h:aP P V k K Kp):aP P V (.mark .noRoom k) K Kp:=
 .cont λw hw=>⟨#[⟨.mark .noRoom,false,true⟩],w,V,k,by
  rw[tp (by simp)];exact⟨hw,rfl,rfl,rfl,SQ _,λ_ _ _=>rfl,λ_ _ e=>e,λ_ _ _ e=>e,λ_ _ _ e=> .inl e,λev cg=>by simp at cg;subst cg;trivial,by simp[deafBehind],rfl,λ_ _ _ e=>e,λev cg=>by simp at cg;subst cg;trivial⟩,
  λeN=>by simp[-TA,VE],h⟩
theorem apW{m:Mark}{k:Sem α}(hm:m=.disable\/m=.enable)(h:aP P {V with deaf:=deafBehind V.deaf #[⟨.mark m,false,true⟩]} k K Kp):aP P V (.mark m k) K Kp:=
 .cont λw hw=>⟨#[⟨.mark m,false,true⟩],w,_,k,by
  rw[tp (by rcases hm with rfl|rfl<;>simp)];exact⟨⟨hw.ah,hw.own⟩,rfl,rfl,rfl,SQ _,λ_ _ _=>rfl,λ_ _ e=>e,λ_ _ _ e=>e,λ_ _ _ e=> .inl e,λev cg=>by simp at cg;subst cg;rcases hm with rfl|rfl<;>rfl,rfl,rfl,λ_ _ _ e=>e,λev cg=>by simp at cg;subst cg;rcases hm with rfl|rfl<;>trivial⟩,
  λeN=>by simp[-TA,VE],h⟩
theorem apZ{m:Mark}{a:U5}{k:Sem α}(hm:m=.read a\/m=.write a)(ha:V.own a.block≠none/\V.ah a.block a.off=none)(h:aP P V k K Kp):aP P V (.mark m k) K Kp:=
 .cont λw hw=>⟨#[⟨.mark m,false,true⟩],w,_,k,by
  rw[tp (by rcases hm with rfl|rfl<;>simp)];exact⟨⟨hw.ah,hw.own⟩,rfl,rfl,rfl,SQ _,λ_ _ _=>rfl,λ_ _ e=>e,λ_ _ _ e=>e,λ_ _ _ e=> .inl e,λev cg=>by simp at cg;subst cg;rcases hm with rfl|rfl<;>exact .inr ha,
   by rcases hm with rfl|rfl<;>simp[deafBehind],rfl,λ_ _ _ e=>e,λev cg=>by
    simp at cg;subst cg;have:a.block<w.heap.size:=by
     cases e:V.own a.block with
     |none=>exact absurd e ha.1
     |some y=>exact hw.lt e
    rcases hm with rfl|rfl<;>exact this⟩,
  λeN=>by simp[-TA,VE],h⟩
def _root_.Go.Obj.uL:Obj->Bool
 |.cells .. =>true
 |_=>false
theorem nK{r:Nat}{x:Obj}{k:Obj->Sem α}(ho:V.own r=some x)(hx:x.uL=false)(hc:x.isChan=false)(jX:V.role.chan≠some r)(h:aP P V (k x) K Kp):aP P V (.getObj r k) K Kp:=
 .cont λw hw=>⟨#[⟨.obj r,false,false⟩],w,V,k x,by
  rw[tp (by simp)];exact⟨hw,rfl,rfl,rfl,SQ _,λ_ _ _=>rfl,λ_ _ e=>e,λ_ _ _ e=>e,λ_ _ _ e=> .inl e,λev cg=>by simp at cg;subst cg;exact⟨⟨rfl,.inr (by rw[ho];simp)⟩,jX⟩,by rw[Pl],rfl,λ_ _ _ e=>e,λev cg=>by simp at cg;subst cg;exact hw.lt ho⟩,
  λeN=>by
   have:=hw.own _ _ ho;cases x<;>simp_all[-TA,VE,Obj.uL,ag_],h⟩
theorem Sat.arO{V:View}{w:To}(h:Sat V w){r:Nat}{x y:Obj}(ho:V.own r=some x)(hx:x.uL=false):Sat (V.upd r y) {w with heap:=w.heap.setIfInBounds r y}:=by
 have hlt:=h.lt ho;refine⟨λb o v e=> ?_,λb z e=> ?_⟩
 ·have:=h.ah _ _ _ e;have hb:r≠b:=by
   intro e';subst e';simp only[UA,h.own _ _ ho]at this;cases x<;>simp_all[Obj.uL]
  simp only[UA,SU hb]at this⊢;exact this
 ·simp only[View.upd]at e;by_cases hb:b=r
  ·subst hb;simp at e;simp[hlt,e]
  ·simp only[hb,if_false]at e;simp only[SU (Ne.symm hb)];exact h.own _ _ e
theorem yy{r:Nat}{x y:Obj}{k:Sem α}(ho:V.own r=some x)(hx:x.uL=false)(hy:y.isChan=false)(jX:V.role.chan≠some r)(h:aP P (V.upd r y) k K Kp):aP P V (.setObj r y k) K Kp:=
 .cont λw hw=>⟨#[⟨.obj r,true,false⟩],{w with heap:=w.heap.setIfInBounds r y},_,k,by
  rw[tp (by simp)];refine⟨hw.arO ho hx,rfl,rfl,rfl,by simp,λb hb e=> ?_,λb hb e=> ?_,λ_ _ _ e=>e,λ_ _ _ e=> .inl e,λev cg=>by simp at cg;subst cg;exact⟨⟨rfl,.inr (by rw[ho];simp)⟩,jX⟩,by rw[Pl];rfl,rfl,λc' x aY e=>by rw[<- e];simp only[View.upd,ite_eq_right_iff];intro x';subst x';exact absurd aY jX,λev cg=>by simp at cg;subst cg;show r<_;simp;exact hw.lt ho⟩
  ·exact SU (λx'=>by subst x';rw[ho]at e;cases e)
  ·have:b≠r:=(by intro x';subst x';rw[ho]at e;cases e);simp only[View.upd,this,if_false];exact e,
  λeN=>by
   have:=hw.own _ _ ho;cases x<;>simp_all[-TA,VE,Obj.uL,ag_],h⟩
theorem apO{s:Sem α}{f:α->Sem β}{K:β->View->Prop}(h:aP P V s (λx V'=>aP P V' (f x) K Kp) Kp):aP P V (s.bind f) K Kp:=by
 intro w hw eN;obtain⟨es,w',V',h1,h2⟩:=h w hw eN;have key:(s.bind f).runT P w eN=match s.runT P w eN with
   |(.ok x w',e)=>(f x).runT P w' e
   |(.halt h w',e)=>(.halt h w',e):=by
  have hr:=Sem.run_bind' P s f w;have he:=Sem.events_bind' P s f w eN;rw[TA,TA];have xT:(s.bind f).run P w=_:=hr;have jW:(s.bind f).events P w eN=_:=he;rw[xT,jW];cases s.run P w<;>simp[Result.andThen,Result.evThen]
 rcases h2 with⟨x,hx,hK⟩|⟨v,hv,hKp⟩
 ·obtain⟨ud,NO,aS,h3,h4⟩:=hK w' h1.sat (eN++es);refine⟨es++ud,NO,aS,by rw[MB];exact h1.trans h3,?_⟩;rw[key,hx,<- Xr];exact h4
 ·refine⟨es,w',V',h1,.inr ⟨v,?_,hKp⟩⟩;rw[key,hv]
theorem aA{s:Sem α}{f:α->Sem β}{K:β->View->Prop}(h:aP P V s (λx V'=>aP P V' (f x) K Kp) Kp):aP P V (s>>=f) K Kp:=apO h
end
open Go.Conc
def yO (e:Ur):Prop:=∀m,e.loc=.mark m->(m=.disable\/m=.enable)->e.sync=true
theorem mL.JH{V:View}{n:Nat}{e:Ur}(h:mL V n e):yO e:=by
 intro m hm hd;obtain⟨l,wr,s⟩:=e;simp only at hm;subst hm;rcases hd with rfl|rfl
 ·simpa[mL]using h
 ·simpa[mL]using h
theorem ago(d:Nat)(x:Array Ur)(e:Ur):deafBehind d (x.push e)=deafBehind (deafBehind d x) #[e]:=by
 simp[deafBehind]
theorem agp{d:Nat}{e:Ur}(hg:yO e)(hs:e.sync=false):deafBehind d #[e]=d:=by
 obtain⟨l,wr,s⟩:=e;cases l with
 |mark m=>
  cases m<;>first
   |(have:=hg _ rfl (.inl rfl);simp_all)
   |(have:=hg _ rfl (.inr rfl);simp_all)
   |simp[deafBehind]
 |_=>simp[deafBehind]
theorem apM(P:SI)(fn:TS)(es:Array Ur)(hg:∀e∈fB es,yO e)(d:Nat):(∀e∈seen P fn es,e∈fB es)/\deafBehind d (seen P fn es)=deafBehind d (fB es):=by
 rw[seen_def];obtain⟨l⟩:=es;have key:∀(l:List Ur)(q:Bool)(kept ref:Array Ur),(∀e∈fB l.toArray,yO e)->(∀e∈kept,e∈ref)->deafBehind d kept=deafBehind d ref->
   (∀e∈(l.foldl (seenStep λf=>(P.funcs[f]?).any (·.norace)) (q,kept)).2,e∈ref++fB l.toArray)/\
   deafBehind d (l.foldl (seenStep λf=>(P.funcs[f]?).any (·.norace)) (q,kept)).2=deafBehind d (ref++fB l.toArray):=by
  intro l;induction l with
  |nil=>intro q kept ref _ h1 h2;simpa[fB]using⟨h1,h2⟩
  |cons e l ih=>
   intro q kept ref hg h1 h2;rw[UY];by_cases hx:∃f,e.loc=.mark (.extern f)
   ·obtain⟨f,hf⟩:=hx;have e1:fB (e::l).toArray=fB l.toArray:=(by simp[fB,hf]);rw[e1]at hg⊢;have e3:seenStep (λf=>(P.funcs[f]?).any (·.norace)) (q,kept) e=((P.funcs[f]?).any (·.norace),kept):=(by simp[seenStep,hf]);rw[e3];exact ih _ kept ref hg h1 h2
   ·have aI:∀f,e.loc≠ .mark (.extern f):=λf hf=>hx ⟨f,hf⟩;have e1:fB (e::l).toArray=#[e]++fB l.toArray:=by
     have:(e::l).toArray=#[e]++l.toArray:=(by simp);rw[this,MB,tp aI]
    have uq:yO e:=hg e (by rw[e1];simp);have kj:∀x∈fB l.toArray,yO x:=λx hx=>hg x (by rw[e1];exact Uu.2 (.inr hx));have e2:seenStep (λf=>(P.funcs[f]?).any (·.norace)) (q,kept) e=(q,if q&& !e.sync then kept else kept.push e):=by
     unfold seenStep;dsimp only;split
     ·rename_i f hf;exact absurd hf (aI f)
     ·rfl
    rw[e1,<- Xr];rw[e2];refine ih q _ (ref++#[e]) kj (λx hx=> ?_) ?_
    ·split at hx
     ·exact Uu.2 (.inl (h1 x hx))
     ·rcases Array.mem_push.1 hx with hx|rfl
      ·exact Uu.2 (.inl (h1 x hx))
      ·exact Uu.2 (.inr (by simp))
    ·split
     ·rename_i hq;simp only[Tg,TZ]at hq;rw[IQ,agp uq hq.2,h2]
     ·rw[IQ,ago,h2]
 have:=key l ((P.funcs[fn]?).any (·.norace)) #[] #[] hg (by simp) rfl;simpa only[Xq]using this
theorem dc.seen{V V':View}{w w':To}{es:Array Ur}(h:dc V w V' w' (fB es))(P:SI)(fn:TS):dc V w V' w' (seen P fn es):=by
 have:=apM P fn es (λe he=>(h.eW e he).JH) V.deaf;exact⟨h.sat,h.tape,h.os,h.output,h.size,h.frame,h.own,h.ah,h.kx,λe he=>h.eW e (this.1 e he),by rw[h.deaf,this.2],h.role,h.chan,λe he=>h.low e (this.1 e he)⟩
open Go.Conc
inductive Out where
 |ret (v:SO)
 |panic (chain:List ZO)
def Leaves (P:SI)(fr:Uc)(f:TS)(kd:Xc)(o:Out)(V:View):Prop:=
 fr.fn=f/\fr.defers=[]/\fr.kind=kd/\∃fn,P.funcs[f]?=some fn/\
  match o with
  |.ret v=>fr.mode=.returning/\aP P V (results fn fr.tmps) (λx V'=>x=v/\V'=V) (λ_ _=>False)
  |.panic ch=>fr.mode=.panicking ch
def Body (lv:Bool)(P:SI)(f:TS)(args:Array SO)(kd:Xc)(V:View)(R:Out->View->Prop):Prop:=
 ∀(main:Bool)(J:View->SG->Prop),Closed lv P main J->∀cs,(∀o V' fr,R o V'->Leaves P fr f kd o V'->J V' (G fr cs))->J V (G (Frame.enter P f args kd) cs)
def mO (lv:Bool)(P:SI)(fr:Uc)(V:View)(R:Out->View->Prop):Prop:=
 ∀(main:Bool)(J:View->SG->Prop),Closed lv P main J->∀c cs,(∀v V',R (.ret v) V'->J V' (G (c.finish v) cs))->(∀ch V',R (.panic ch) V'->J V' (G (c.raise ch) cs))->J V (G fr (c::cs))
theorem Body.mono{lv:Bool}{P:SI}{f:TS}{args:Array SO}{kd:Xc}{V:View}{R R':Out->View->Prop}(h:Body lv P f args kd V R)(hr:∀o V,R o V->R' o V):Body lv P f args kd V R':=
 λmain J C cs hk=>h main J C cs λo V' fr r hl=>hk o V' fr (hr _ _ r) hl
theorem Body.ghost{lv:Bool}{P:SI}{f:TS}{args:Array SO}{kd:Xc}{V V':View}{R:Out->View->Prop}(g:dR V V')(h:Body lv P f args kd V' R):Body lv P f args kd V R:=
 λmain J C cs hk=>C.ghost _ _ _ g (h main J C cs hk)
theorem mO.mono{lv:Bool}{P:SI}{fr:Uc}{V:View}{R R':Out->View->Prop}(h:mO lv P fr V R)(hr:∀o V,R o V->R' o V):mO lv P fr V R':=
 λmain J C c cs h1 h2=>h main J C c cs (λv V' r=>h1 v V' (hr _ _ r)) (λv V' r=>h2 v V' (hr _ _ r))
theorem mO.ghost{lv:Bool}{P:SI}{fr:Uc}{V V':View}{R:Out->View->Prop}(g:dR V V')(h:mO lv P fr V' R):mO lv P fr V R:=
 λmain J C c cs h1 h2=>C.ghost _ _ _ g (h main J C c cs h1 h2)
theorem aP.runs{P:SI}{α:Type}{V:View}{s:Sem α}{K:α->View->Prop}{Kp:SO->View->Prop}(h:aP P V s K Kp){w:To}(hw:Sat V w):
  ∃es w' V',dc V w V' w' (fB es)/\s.events P w #[]=es/\((∃x,s.run P w=.ok x w'/\K x V')\/(∃v,s.run P w=.halt (.panic v) w'/\Kp v V')):=by
 obtain⟨es,w',V',h1,h2⟩:=h w hw #[];refine⟨es,w',V',h1,?_⟩;simp only[TA,U2,Xq]at h2;rcases h2 with⟨x,⟨a,b⟩,c⟩|⟨x,⟨a,b⟩,c⟩
 ·exact⟨b,.inl ⟨x,a,c⟩⟩
 ·exact⟨b,.inr ⟨x,a,c⟩⟩
theorem amm{lv:Bool}{P:SI}{main:Bool}{J:View->SG->Prop}(C:Closed lv P main J){fr c:Uc}{cs:List Uc}{f:TS}{v:SO}{V:View}(h:Leaves P fr f .normal (.ret v) V)(hJ:J V (G (c.finish v) cs)):J V (G fr (c::cs)):=by
 obtain⟨rfl,hd,hk,fn,hf,hm,hr⟩:=h;refine C.step _ _ rfl λw hw=> ?_;obtain⟨es,w',V',h1,h2,h3⟩:=hr.runs hw;rcases h3 with⟨x,h3,rfl,rfl⟩|⟨_,_,h⟩
 ·exact⟨G (c.finish x) cs,w',seen P fr.fn es,V',by simp[G,stepG,unwind,doReturn,hm,hd,hk,hf,h3,h2,T5],h1.seen P fr.fn,hJ⟩
 ·exact h.elim
theorem aml{lv:Bool}{P:SI}{main:Bool}{J:View->SG->Prop}(C:Closed lv P main J){fr c:Uc}{cs:List Uc}{f:TS}{kd:Xc}{ch:List ZO}{V:View}(h:Leaves P fr f kd (.panic ch) V)(hJ:J V (G (c.raise ch) cs)):J V (G fr (c::cs)):=by
 obtain⟨rfl,hd,hk,fn,hf,hm⟩:=h;refine C.idle rfl (λw=> ?_) hJ;simp[G,stepG,unwind,ZR,hm,hd,hf]
theorem Body.runs{lv:Bool}{P:SI}{f:TS}{args:Array SO}{V:View}{R:Out->View->Prop}(h:Body lv P f args .normal V R):mO lv P (Frame.enter P f args .normal) V R:=by
 intro main J C c cs h1 h2;refine h main J C (c::cs) λo V' fr r hl=> ?_;cases o with
 |ret v=>exact amm C hl (h1 v V' r)
 |panic ch=>exact aml C hl (h2 ch V' r)
def mr (lv:Bool)(P:SI)(r:Option Nat)(o:Tu)(a:Act)(next:Act->View->Prop)(Q:Ex->Act->View->Prop)(nx:Next)(V:View):Prop:=
 match nx with
 |.value v=>next (a.put o.dst v) V
 |.skip=>next (a.put o.dst undef) V
 |.defer d=>r=none/\next ({a with defers:=d::a.defers}.put o.dst undef) V
 |.enter f args=>Body lv P f args .normal V fun
   |.ret v,V'=>next (a.put o.dst v) V'
   |.panic ch,V'=>Q (.panic ch) a V'
 |.round l f tmps assign body=>mO lv P (W8 l f tmps assign body .normal) V fun
   |.ret v,V'=>next (a.put o.dst v) V'
   |.panic ch,V'=>Q (.panic ch) a V'
 |_=>False
def l8:Op->Bool
 |.defer _=>true
 |_=>false
def wS (lv:Bool)(P:SI)(r:Option Nat)(o:Tu)(a:Act)(V:View)(next:Act->View->Prop)(Q:Ex->Act->View->Prop):Prop:=
 (r=none\/l8 o.op=false)/\aP P V (execOp a.eval o) (mr lv P r o a next Q) (λv V'=>Q (.panic [{v,recovered:=false}]) a V')
def vk (lv:Bool)(P:SI)(o:Tu)(a:Act)(V:View)(next:Act->View->Prop):Prop:=match o.op with
 |.send ch x=>∃(c Wg:Nat)(sp:Spec)(S:List Spec)(B:Nat->Bool),a.eval ch=.chan (some c)/\V.role=.work c Wg (sp::S)/\V.deaf=0/\sp (a.eval x) V.ah (λb=>if B b then V.own b else none)/\
   next (a.put o.dst undef) {V with own:=λb=>if B b then none else V.own b,role:=.work c Wg S}
 |.go cl=>lv=true/\∃(x:Ti)(f:TS)(fa ca:Array SO),cl.callee=.value x/\a.eval x=.func (.func f) fa ca/\V.deaf=0/\
   ((∃(c Wg:Nat)(Ss:List (List Spec))(sp:Spec)(S:List Spec),V.role=.fork c Wg Ss/\V.own c=some (.chan 0 #[] false 0 0 false)/\V.own Wg=some (wgBlock P (((Ss.length+1:Nat):Int)* 4294967296) 0)/\Ss.length<4/\(∀o,V.ah Wg o=none)/\
    (∀J0,yJ P false J0->J0 {ah:=V.ah,own:=λ_=>none,deaf:=0,role:=.work c Wg (sp::S)} (born P ⟨.fn (.func f) ca,fa++cl.args.map a.eval⟩))/\next (a.put o.dst undef) {V with role:=.fork c Wg (Ss++[sp::S])})\/
    (∃(c Wg:Nat)(Ss:List (List Spec)),V.role=.fork c Wg Ss/\c≠Wg/\V.own c=some (.chan 0 #[] false 0 0 false)/\V.own Wg=some (wgBlock P (((Ss.length:Nat):Int)* 4294967296) 0)/\(∀o,V.ah c o=none)/\(∀o,V.ah Wg o=none)/\
    H7 P V.ah c Wg (born P ⟨.fn (.func f) ca,fa++cl.args.map a.eval⟩)/\next (a.put o.dst undef) {V with own:=λb=>if b=c\/b=Wg then none else V.own b,role:=.recv c Wg Ss}))
 |.recv t ch true=>lv=true/\∃(c Wg:Nat)(Ss:List (List Spec))(d:ChanDir)(el:TypeId)(i:We)(z:SO),a.eval ch=.chan (some c)/\P.underlying t=some (.chan d el)/\P.info? el=some i/\i.zero=some z/\V.role=.recv c Wg Ss/\V.deaf=0/\
   (∀(i:Nat)(sp:Spec)(S:List Spec)(v:SO)(Im:cm)(Ow:Bi),Ss[i]?=some (sp::S)->sp v Im Ow->(∀b,V.own b≠none->Ow b=none)->(∀b o,V.own b≠none->Im b o≠none->V.ah b o≠none)->(∃w,Sat V w/\(∀b o x,Im b o=some x->w.cell? ⟨b,o,none⟩=some x)/\∀b x,Ow b=some x->w.heap[b]?=some x)->
    next (a.put o.dst (.tuple #[v,.bool true])) {V with ah:=λb o=>match V.ah b o with|some x=>some x|none=>Im b o,own:=λb=>match V.own b with|some x=>some x|none=>Ow b,role:=.recv c Wg (Ss.set i S)})/\
   ((∀S∈Ss,S=[])->next (a.put o.dst (.tuple #[z,.bool false])) {V with role:=.plain})
 |_=>False
theorem vk.mono{lv:Bool}{P:SI}{o:Tu}{a:Act}{V:View}{N N':Act->View->Prop}(h:vk lv P o a V N)(hN:∀a V,N a V->N' a V):vk lv P o a V N':=by
 unfold vk at h⊢;split at h
 ·obtain⟨c,Wg,sp,S,B,h1,h2,h3,h4,h5⟩:=h;exact⟨c,Wg,sp,S,B,h1,h2,h3,h4,hN _ _ h5⟩
 ·obtain⟨sU,x,f,fa,ca,h1,h2,h3,h4⟩:=h;refine⟨sU,x,f,fa,ca,h1,h2,h3,h4.imp ?_ ?_⟩
  ·rintro⟨c,Wg,Ss,sp,S,q1,q2,q3,q4,q5,q6,q7⟩
   exact⟨c,Wg,Ss,sp,S,q1,q2,q3,q4,q5,q6,hN _ _ q7⟩
  ·rintro⟨c,Wg,Ss,q1,q2,q3,q4,q5,q6,q7,q8⟩
   exact⟨c,Wg,Ss,q1,q2,q3,q4,q5,q6,q7,hN _ _ q8⟩
 ·obtain⟨sU,c,Wg,Ss,d,el,ti,z,h1,h2,h3,h4,h5,h6,h7,h8⟩:=h;exact⟨sU,c,Wg,Ss,d,el,ti,z,h1,h2,h3,h4,h5,h6,λi sp S v Im Ow r1 r2 r3 r4 r5=>hN _ _ (h7 i sp S v Im Ow r1 r2 r3 r4 r5),λhS=>hN _ _ (h8 hS)⟩
 ·exact h
def Bh (lv:Bool)(P:SI)(r:Option Nat)(o:Tu)(a:Act)(V:View)(next:Act->View->Prop)(Q:Ex->Act->View->Prop):Prop:=wS lv P r o a V next Q\/vk lv P o a V next
def dj (lv:Bool)(P:SI)(r:Option Nat)(ops:Array Tu)(Q:Ex->Act->View->Prop):List Nat->Act->View->Prop
 |[],a,V=>Q .normal a V
 |i::rest,a,V=>
  match ops[i]?with
  |none=>dj lv P r ops Q rest a V
  |some o=>if Th o (yielded ops a.tmps)then Bh lv P r o a V (dj lv P r ops Q rest) Q else dj lv P r ops Q rest (a.put o.dst undef) V
theorem Au(b:Uc)(a:Act)(ops:Array Tu)(i:Nat)(rest:List Nat)(k:List WS)(v:SO):
  (on b a (.inRegion ops (i::rest)::k)).finish v=on b (a.put ((ops[i]?).bind (·.dst)) v) (.inRegion ops rest::k):=by
 cases h:(ops[i]?).bind (·.dst)<;>simp[Frame.finish,on,X4,h]
theorem ab1{P:SI}{main:Bool}{b:Uc}{a:Act}{k:List WS}{cs:List Uc}{w:To}{ops:Array Tu}{i:Nat}{rest:List Nat}(h:((ops[i]?).map (Th · (yielded ops a.tmps))).getD false=false):
  stepG P main (G (on b a (.inRegion ops (i::rest)::k)) cs) w=.go (G (on b (a.put ((ops[i]?).bind (·.dst)) undef) (.inRegion ops rest::k)) cs) w #[]:=by
 rw[<- Au];simp only[on]at*;simp[G,stepG,Ug,h]
theorem s_op{P:SI}{main:Bool}{b:Uc}{a:Act}{k:List WS}{cs:List Uc}{w:To}{ops:Array Tu}{i:Nat}{rest:List Nat}{o:Tu}(ho:ops[i]?=some o)(hw:Th o (yielded ops a.tmps)=true)(hd:b.roundOf=none\/l8 o.op=false):
  stepG P main (G (on b a (.inRegion ops (i::rest)::k)) cs) w=stepG.apply P true (on b a (.inRegion ops (i::rest)::k)) cs none (execOp a.eval o) w:=by
 have he:=anB b a (.inRegion ops (i::rest)::k);simp only[on]at he;rcases hd with hd|hd
 ·rw[hd]at he;simp[G,stepG,Ug,Y3,YK,on,ho,hw,he,hd]
 ·cases hr:b.roundOf with
  |none=>
   rw[hr]at he;simp[G,stepG,Ug,Y3,YK,on,ho,hw,he,hr]
  |some l=>cases az:o.op<;>simp_all[G,stepG,Ug,Y3,YK,on,l8]
theorem aql{lv:Bool}{P:SI}{main:Bool}{J:View->SG->Prop}(C:Closed lv P main J){ops:Array Tu}{i:Nat}{rest:List Nat}{o:Tu}{a:Act}{V:View}{N:Act->View->Prop}{b:Uc}{k:List WS}{cs:List Uc}(hb:b.kind≠ .early)
  (ho:ops[i]?=some o) (hw:Th o (yielded ops a.tmps)=true) (h:vk lv P o a V N) (hN:∀a' V',N a' V'->J V' (G (on b a' (.inRegion ops rest::k)) cs)):J V (G (on b a (.inRegion ops (i::rest)::k)) cs):=by
 have jI:((on b a (.inRegion ops (i::rest)::k)).kind==U6)=false:=by simpa[on]using hb
 have dV:∀v,(on b a (.inRegion ops (i::rest)::k)).finish v=on b (a.put o.dst v) (.inRegion ops rest::k):=by
  intro v;rw[Au,ho];rfl
 have Lq:∀v,T7 (G (on b a (.inRegion ops (i::rest)::k)) cs) v=G (on b (a.put o.dst v) (.inRegion ops rest::k)) cs:=λv=>by rw[<- dV v];rfl
 unfold vk at h;split at h
 ·rename_i ch x az;obtain⟨c,Wg,sp,S,B,h1,h2,h3,h4,h5⟩:=h;have aR:∀w,stepG P main (G (on b a (.inRegion ops (i::rest)::k)) cs) w=.comm (G (on b a (.inRegion ops (i::rest)::k)) cs) #[scase c (a.eval x) (.tuple #[])] true .send w #[]:=λw=>by
   rw[s_op ho hw (.inr (by rw[az];rfl))];have e:execOp a.eval o=pure (.comm #[scase c (a.eval x) (.tuple #[])] true .send):=by
    unfold execOp;simp only[az];rw[h1];rfl
   rw[e];simp only[stepG.apply,TA,if_true,jI,T5,Z5,ZF,Z8];rfl
  exact C.send _ _ c Wg sp S (a.eval x) (.tuple #[]) B h2 h3 rfl rfl (λw _=>aR w) h4 (by rw[Lq];exact hN _ _ h5)
 ·rename_i cl az;obtain⟨sU,x,f,fa,ca,h1,h2,h3,h4⟩:=h;have aR:∀w,stepG P main (G (on b a (.inRegion ops (i::rest)::k)) cs) w=.spawn (G (on b (a.put o.dst undef) (.inRegion ops rest::k)) cs) (born P ⟨.fn (.func f) ca,fa++cl.args.map a.eval⟩) w #[]:=λw=>by
   rw[s_op ho hw (.inr (by rw[az];rfl)),<- dV undef];have e:execOp a.eval o=(pure (.spawn ⟨.fn (.func f) ca,fa++cl.args.map a.eval⟩):Sem Next):=by
    unfold execOp;simp only[az];unfold resolve;simp only[h1,h2];rfl
   rw[e];simp only[stepG.apply,TA,if_true,jI,T5,Z5,ZF,Z8];simp[born,G,on];exact Z8 _ _
  rcases h4 with⟨c,Wg,Ss,sp,S,q1,q2,q3,q4,q5,q6,q7⟩|⟨c,Wg,Ss,q1,q2,q3,q4,q5,q6,q7,q8⟩
  ·exact(C.more sU).EZ _ _ _ _ c Wg Ss sp S q1 h3 rfl q2 q3 q4 q5 (λw _=>aR w) rfl q6 (hN _ _ q7)
  ·exact(C.more sU).EY _ _ _ _ c Wg Ss q1 h3 rfl q2 q3 q4 q5 q6 (λw _=>aR w) rfl q7 (hN _ _ q8)
 ·rename_i t ch az;obtain⟨sU,c,Wg,Ss,d,el,ti,z,h1,h2,h3,h4,h5,h6,h7,h8⟩:=h;have aR:∀w,stepG P main (G (on b a (.inRegion ops (i::rest)::k)) cs) w=.comm (G (on b a (.inRegion ops (i::rest)::k)) cs) #[rcase c z] true (.recv true) w #[]:=λw=>by
   rw[s_op ho hw (.inr (by rw[az];rfl))];have hu:(underlying t).run P w=.ok (.chan d el) w:=run_underlying h2 w;have hi:(typeInfo el).run P w=.ok ti w:=(by simp[typeInfo,h3]);have hz:(zeroValue el).run P w=.ok z w:=(by simp[zeroValue,hi,h4]);have rI:(zeroValue el).events P w #[]=#[]:=(by simp[zeroValue,hi,h4]);have e1:(execOp a.eval o).run P w=.ok (.comm #[rcase c z] true (.recv true)) w:=by
    unfold execOp;simp only[az];rw[h1];simp[hu,hz,rcase]
   have e2:(execOp a.eval o).events P w #[]=#[]:=by
    unfold execOp;simp only[az];rw[h1];simp[hu,hz,rI]
   simp only[stepG.apply,TA,if_true,jI,T5,e1,e2,Z8];rfl
  refine(C.more sU).recv _ _ c Wg Ss z h5 h6 rfl rfl (λw _=>aR w) (λi sp S v Im Ow r1 r2 r3 r4 r5=> ?_) λhS=> ?_
  ·rw[Lq];exact hN _ _ (h7 i sp S v Im Ow r1 r2 r3 r4 r5)
  ·rw[Lq];exact hN _ _ (h8 hS)
 ·exact h.elim
theorem wp_ops{lv:Bool}{P:SI}{r:Option Nat}{ops:Array Tu}{Q:Ex->Act->View->Prop}(l:List Nat):
  ∀(a:Act)(V:View),dj lv P r ops Q l a V->∀(main:Bool)(J:View->SG->Prop),Closed lv P main J->∀(b:Uc)(k:List WS)(cs:List Uc),b.kind≠ .early->b.roundOf=r->
   (∀e a' V',Q e a' V'->vf J b k cs e a' V')->J V (G (on b a (.inRegion ops l::k)) cs):=by
 induction l with
 |nil=>exactλa V h main J C b k cs _ _ hL=>C.idle rfl (λ_=>apD) (hL _ _ _ h)
 |cons i rest ih=>
  intro a V h main J C b k cs hb hr hL;simp only[dj]at h;cases ho:ops[i]?with
  |none=>
   simp only[ho]at h;refine C.idle rfl (λw=>ab1 (by simp[ho])) ?_;simp only[ho,Option.bind_none,X4];exact ih a V h main J C b k cs hb hr hL
  |some o=>
   simp only[ho]at h;by_cases hw:Th o (yielded ops a.tmps)=true
   ·simp only[hw,if_true]at h;rcases h with h|h
    rotate_left
    ·exact aql C hb ho hw h λa' V' h'=>ih a' V' h' main J C b k cs hb hr hL
    obtain⟨bx,az⟩:=h;have ajV:b.roundOf=none\/l8 o.op=false:=hr▸bx;have dV:∀v,(on b a (.inRegion ops (i::rest)::k)).finish v=on b (a.put o.dst v) (.inRegion ops rest::k):=by
     intro v;rw[Au,ho];rfl
    have jI:((on b a (.inRegion ops (i::rest)::k)).kind==U6)=false:=(by simpa[on]using hb);refine C.step _ _ rfl λw fj=> ?_;obtain⟨es,w',V',h1,h2,h3⟩:=az.runs fj;rw[s_op ho hw ajV];rcases h3 with⟨nx,h3,hU⟩|⟨v,h3,hU⟩
    ·cases nx with
     |value v=>exact⟨_,w',seen P b.fn es,V',by rw[<- dV v];simp only[stepG.apply,TA,if_true,h3,h2,jI,T5];rfl,h1.seen P _,ih _ _ hU main J C b k cs hb hr hL⟩
     |skip=>exact⟨_,w',seen P b.fn es,V',by rw[<- dV undef];simp only[stepG.apply,TA,if_true,h3,h2,jI,T5];rfl,h1.seen P _,ih _ _ hU main J C b k cs hb hr hL⟩
     | «defer» d =>
      obtain⟨Ac,hU⟩:=hU;have iJ:({on b a (.inRegion ops (i::rest)::k)with defers:=d::a.defers}:Uc).finish undef=on b ({a with defers:=d::a.defers}.put o.dst undef) (.inRegion ops rest::k):=by
       have:=Au b {a with defers:=d::a.defers} ops i rest k undef;rw[ho]at this;exact this
      exact⟨_,w',seen P b.fn es,V',by
       rw[<- iJ];simp only[stepG.apply,TA,if_true,h3,h2,jI,T5];rfl,h1.seen P _,ih _ _ hU main J C b k cs hb hr hL⟩
     |enter f args=>
      refine⟨G (Frame.enter P f args .normal) (on b a (.inRegion ops (i::rest)::k)::cs),w',seen P b.fn es,V',by simp only[stepG.apply,TA,if_true,h3,h2,jI,T5];rfl,h1.seen P _,?_⟩;refine Body.runs hU main J C _ cs (λv aS hR=> ?_) (λch aS hR=> ?_)
      ·rw[dV];exact ih _ _ hR main J C b k cs hb hr hL
      ·exact hL _ _ _ hR _ rfl
     |round l f tmps assign body=>
      refine⟨G (W8 l f tmps assign body .normal) (on b a (.inRegion ops (i::rest)::k)::cs),w',seen P b.fn es,V',by simp only[stepG.apply,TA,if_true,h3,h2,jI,T5];rfl,h1.seen P _,?_⟩;refine hU main J C _ cs (λv aS hR=> ?_) (λch aS hR=> ?_)
      ·rw[dV];exact ih _ _ hR main J C b k cs hb hr hL
      ·exact hL _ _ _ hR _ rfl
     |_=>exact hU.elim
    ·refine⟨G ((on b a (.inRegion ops (i::rest)::k)).raise [{v,recovered:=false}]) cs,w',seen P b.fn es,V',by simp only[stepG.apply,TA,if_true,h3,h2,jI,T5];rfl,h1.seen P _,hL _ _ _ hU _ rfl⟩
   ·have nB:Th o (yielded ops a.tmps)=false:=(by simpa using hw);simp only[nB,if_false,TM]at h;refine C.idle rfl (λw=>ab1 (by simp[ho,nB])) ?_;simp only[ho,Option.bind_some];exact ih _ _ h main J C b k cs hb hr hL
theorem wp_region{lv:Bool}{P:SI}{r:Option Nat}{id:Nat}{ops:Array Tu}{Q:Ex->Act->View->Prop}{a:Act}{V:View}(h:dj lv P r ops Q (SV ops.size) a V):WP lv P r (.region id ops false) Q a V:=
 λmain J C b k cs hb hr hL=>C.idle rfl (λ_=>ab2) (wp_ops _ a V h main J C b k cs hb hr hL)
theorem NU{lv:Bool}{P:SI}{r:Option Nat}{id:Nat}{ops:Array Tu}{Q:Ex->Act->View->Prop}{a:Act}{V:View}(h:∀t,dj lv P r ops Q (VJ (P.follows .mixedOrders) ops t) a V):WP lv P r (.region id ops true) Q a V:=
 λmain J C b k cs hb hr hL=>C.step _ _ rfl λw hw=>⟨_,_,#[],V,apu,.draw hw _,wp_ops _ a V (h _) main J C b k cs hb hr hL⟩
def Ends (P:SI)(fn:ZQ)(R:Out->View->Prop):Ex->Act->View->Prop
 |.normal,a,V|.ret,a,V=>a.defers=[]/\∃v,aP P V (results fn a.tmps) (λx V'=>x=v/\V'=V) (λ_ _=>False)/\R (.ret v) V
 |.panic ch,a,V=>a.defers=[]/\R (.panic ch) V
 |_,_,_=>False
theorem O2{lv:Bool}{P:SI}{f:TS}{fn:ZQ}{c:T6}{args:Array SO}{kd:Xc}{V:View}{R:Out->View->Prop}(hk:kd≠ .early)(hf:P.funcs[f]?=some fn)(hb:fn.body=some c)
  (h:WP lv P none c (Ends P fn R) {tmps:=args++TK (fn.ntmps-args.size) undef,defers:=[]} V):Body lv P f args kd V R:=by
 intro main J C cs hR;let b:Uc:={(default:Uc)with fn:=f,kind:=kd,roundOf:=none};have up:Frame.enter P f args kd=on b {tmps:=args++TK (fn.ntmps-args.size) undef,defers:=[]} [.code c]:=by
  simp[Frame.enter,on,hf,hb,b]
 rw[up];refine h main J C b [] cs hk rfl λe a' V' q=> ?_;cases e with
 |normal=>
  obtain⟨hd,v,hs,hr⟩:=q;exact C.idle rfl (λw=>Dw rfl) (hR _ _ _ hr ⟨rfl,hd,rfl,fn,hf,rfl,hs⟩)
 |ret=>
  obtain⟨hd,v,hs,hr⟩:=q;intro k;exact C.idle rfl (λw=>Dx rfl) (hR _ _ _ hr ⟨rfl,hd,rfl,fn,hf,rfl,hs⟩)
 |panic ch=>
  obtain⟨hd,hr⟩:=q;intro todo _;exact hR _ _ _ hr ⟨rfl,hd,rfl,fn,hf,rfl⟩
 |exit id=>exact q.elim
 |goto l=>exact q.elim
open Go.Conc
inductive End where
 |exact
 |shut
 |opn (k:Nat)
 deriving DecidableEq
inductive AV where
 |val (x:SO)
 |agg (l:List AV)
 |aN (l:List AV)
 |sl (n:Nat) (l:List AV) (e:End)
 |bh (id off n cap:Nat)
 |rp (l:List AV)
 |op (id off:Nat)
 |fn (f:Fn) (first cQ:List AV)
 |cY (t:TypeId) (x:AV)
 |mp (id:Nat)
structure Env where
 I:cm
 n:Nat
 blk:Nat->Nat
 room:Nat->Nat->Option U5×Nat
 ft:Nat->Nat
 fr:Nat->Option Obj
 main:Bool
structure Env.Le (E E':Env):Prop where
 I:∀b o v,E.I b o=some v->E'.I b o=some v
 n:E.n<=E'.n
 blk:∀k,k<E.n->E'.blk k=E.blk k
 ft:∀k,k<E.n->E.ft k<=E'.ft k
 room:∀k v,k<E.n->v<=E.ft k->E'.room k v=E.room k v
 fr:E'.fr=E.fr
 main:E'.main=E.main
theorem Env.Le.refl(E:Env):E.Le E:=⟨λ_ _ _ h=>h,SQ _,λ_ _=>rfl,λ_ _=>SQ _,λ_ _ _ _=>rfl,rfl,rfl⟩
theorem Env.Le.trans{E E' bO:Env}(h:E.Le E')(k:E'.Le bO):E.Le bO:=
 ⟨λb o v e=>k.I b o v (h.I b o v e),UL h.n k.n,λi hi=>(k.blk i (Td hi h.n)).trans (h.blk i hi),λi hi=>UL (h.ft i hi) (k.ft i (Td hi h.n)),
  λi v hi hv=>(k.room i v (Td hi h.n) (UL hv (h.ft i hi))).trans (h.room i v hi hv),k.fr.trans h.fr,k.main.trans h.main⟩
def pC (E:Env)(e:End)(a:Option U5)(n cap:Nat):Prop:=match e with
 |.exact=>cap=n
 |.shut=>True
 |.opn k=>k<E.n/\n<=E.ft k/\E.room k n=(a,cap)
inductive aq (E:Env):AV->SO->Prop
 |val (x:SO):aq E (.val x) x
 |agg {l:List AV} {cs:Array SO} (hs:cs.size=l.length) (h:∀(i:Nat) a,l[i]?=some a->aq E a (cs.getD i undef)):aq E (.agg l) (.agg cs)
 |aN {l:List AV} {cs:Array SO} (hs:cs.size=l.length) (h:∀(i:Nat) a,l[i]?=some a->aq E a (cs.getD i undef)):aq E (.aN l) (.tuple cs)
 |sl {n:Nat} {l:List AV} {e:End} (b o cap:Nat) (f:Nat->SO) (hc:n<=cap) (he:pC E e (some ⟨b,o,none⟩) n cap)
   (h1:∀i,i<l.length->E.I b (o+i)=some (f i)) (h2:∀(i:Nat) x,l[i]?=some x->aq E x (f i)):aq E (.sl n l e) (.slice (some ⟨b,o,none⟩) n cap)
 |nil {e:End} {a:Option U5} (he:pC E e a 0 0):aq E (.sl 0 [] e) (.slice a 0 0)
 |bh {id off n cap cap':Nat} (hi:id<E.n) (dP:n<=cap'/\(n<=cap->cap=cap')/\(cap<n->cap'<=(E.room id 0).2)):aq E (.bh id off n cap) (.slice (some ⟨E.blk id,off,none⟩) n cap')
 |rp {l:List AV} (b o:Nat) (f:Nat->SO) (h1:∀i,i<l.length->E.I b (o+i)=some (f i)) (h2:∀(i:Nat) x,l[i]?=some x->aq E x (f i)):aq E (.rp l) (.pointer (some ⟨b,o,none⟩))
 |op {id off:Nat} (hi:id<E.n):aq E (.op id off) (.pointer (some ⟨E.blk id,off,none⟩))
 |fn {f:Fn} {first cQ:List AV} {fa ca:Array SO} (dE:fa.size=first.length) (fN:ca.size=cQ.length) (h1:∀(i:Nat) a,first[i]?=some a->aq E a (fa.getD i undef)) (h2:∀(i:Nat) a,cQ[i]?=some a->aq E a (ca.getD i undef)):aq E (.fn f first cQ) (.func f fa ca)
 |cY {t:TypeId} {x:AV} {v:SO} (h:aq E x v):aq E (.cY t x) (.iface t v)
 |mp {id:Nat} (hi:id<E.n):aq E (.mp id) (.map (some (E.blk id)))
theorem pC.mono{E E':Env}(h:E.Le E'){e:End}{a:Option U5}{n cap:Nat}(k:pC E e a n cap):pC E' e a n cap:=by
 cases e with
 |exact=>exact k
 |shut=>trivial
 |opn i=>exact⟨Td k.1 h.n,UL k.2.1 (h.ft i k.1),by rw[h.room i n k.1 k.2.1];exact k.2.2⟩
theorem aq.mono{E E':Env}(h:E.Le E'){a:AV}{v:SO}(d:aq E a v):aq E' a v:=by
 induction d with
 |val x=>exact .val x
 |agg hs _ ih=>exact .agg hs ih
 |aN hs _ ih=>exact .aN hs ih
 |sl b o cap f hc he h1 _ ih=>exact .sl b o cap f hc (he.mono h) (λi hi=>h.I _ _ _ (h1 i hi)) ih
 |nil he=>exact .nil (he.mono h)
 |bh hi dP=>rw[<- h.blk _ hi];exact .bh (Td hi h.n) ⟨dP.1,dP.2.1,λe=>by rw[h.room _ 0 hi (W2 _)];exact dP.2.2 e⟩
 |rp b o f h1 _ ih=>exact .rp b o f (λi hi=>h.I _ _ _ (h1 i hi)) ih
 |op hi=>rw[<- h.blk _ hi];exact .op (Td hi h.n)
 |fn dE fN _ _ mE kW=>exact .fn dE fN mE kW
 |cY _ ih=>exact .cY ih
 |mp hi=>rw[<- h.blk _ hi];exact .mp (Td hi h.n)
def AV.leaf:AV->Bool
 |.agg _|.aN _=>false
 |.val x=>x.one
 |_=>true
inductive aa where
 |cells (l:List AV) (elem:TypeId)
 |part (p:Nat) (l:List AV) (elem:TypeId)
 |own (sz:Nat) (l:List AV) (elem:TypeId)
 |tail (n sz:Nat) (elem:TypeId)
 |obj (x:Obj)
 |iter (m since:Nat) (seen:Array Nat) (tH:Nat)
 |loop (r:Nat) (st:Z6) (pend:Option T6) (fn:TS) (T:List (Nat×AV)) (nt:Nat) (ps:Array Tmp) (bK body:T6) (df:Nat)
 |gone
 |main
def look:List (Nat×AV)->Nat->Option AV
 |[],_=>none
 |(k,a)::l,t=>if k=t then some a else look l t
def bZ (E:Env)(T:List (Nat×AV))(tmps:Array SO):Prop:=∀t a,look T t=some a->t<tmps.size/\aq E a (tmps.getD t undef)
theorem bZ.mono{E E':Env}(h:E.Le E'){T:List (Nat×AV)}{tmps:Array SO}(k:bZ E T tmps):bZ E' T tmps:=λt a e=>⟨(k t a e).1,(k t a e).2.mono h⟩
theorem bZ.put{E:Env}{T:List (Nat×AV)}{tmps:Array SO}(k:bZ E T tmps){d:Nat}(hd:d<tmps.size){a:AV}{v:SO}(hv:aq E a v):bZ E ((d,a)::T) (tmps.setIfInBounds d v):=by
 intro t x e;simp only[look]at e;by_cases h:d=t
 ·subst h;rw[if_pos rfl]at e;cases e;exact⟨by simpa using hd,by simpa[SH,S_ hd]using hv⟩
 ·rw[if_neg h]at e;have:=k t x e;exact⟨by simpa using this.1,by simpa[SH,SU h]using this.2⟩
def cF (E:Env)(l:List AV)(cs:Array SO):Prop:=cs.size=l.length/\∀(i:Nat) a,l[i]?=some a->aq E a (cs.getD i undef)
theorem cF.mono{E E':Env}(h:E.Le E'){l:List AV}{cs:Array SO}(d:cF E l cs):cF E' l cs:=⟨d.1,λi a e=>(d.2 i a e).mono h⟩
def jO (E:Env)(l:List AV)(cs:Array SO):Prop:=l.length<=cs.size/\∀(i:Nat) a,l[i]?=some a->aq E a (cs.getD i undef)
theorem jO.mono{E E':Env}(h:E.Le E'){l:List AV}{cs:Array SO}(d:jO E l cs):jO E' l cs:=⟨d.1,λi a e=>(d.2 i a e).mono h⟩
theorem cF.p{E:Env}{l:List AV}{cs:Array SO}(d:cF E l cs):jO E l cs:=⟨WE d.1.symm,d.2⟩
def bL (E:Env)(k:Nat):aa->Option Nat
 |.tail n _ _=>if(E.room k n).2=n then none else(E.room k n).1.map (·.block)
 |.gone|.main=>none
 |_=>some (E.blk k)
def fG (E:Env)(V:View)(k:Nat):aa->Prop
 |.cells l elem=>(∃cs,V.own (E.blk k)=some (.cells cs elem (0,0))/\cF E l cs)/\∀o,V.ah (E.blk k) o=none
 |.part p l elem=>(∃cs,V.own (E.blk k)=some (.cells cs elem (0,0))/\jO E l cs/\∀o,o<p->V.ah (E.blk k) o=cs[o]?)/\∀o,p<=o->V.ah (E.blk k) o=none
 |.own sz l elem=>(∃cs,V.own (E.blk k)=some (.cells cs elem (0,0))/\jO E l cs/\cs.size=(E.room k 0).2* sz)/\∀o,V.ah (E.blk k) o=none
 |.tail n sz elem=>E.ft k=n/\((E.room k n).2=n\/∃b cap cs,E.room k n=(some ⟨b,0,none⟩,cap)/\V.own b=some (.cells cs elem (0,0))/\cs.size=cap* sz/\n<cap/\∀o,n* sz<=o->V.ah b o=none)
 |.obj x=>V.own (E.blk k)=some x/\x.uL=false/\x.isChan=false/\∀o,V.ah (E.blk k) o=none
 |.iter m since seen tH=>m<E.n/\V.own (E.blk k)=some (.mapIter (some (E.blk m)) since seen tH)/\∀o,V.ah (E.blk k) o=none
 |.loop r st pend fn T nt ps bK body df=>(∃tmps,V.own (E.blk k)=some (.loop {state:=st,pending:=pend,fn,tmps,params:=ps,assign:=bK,body,defers:=E.blk df})/\tmps.size=nt/\bZ E T tmps)/\df<E.n/\(∀o,V.ah (E.blk k) o=none)/\E.blk k=r
 |.gone=>True
 |.main=>E.main=true
structure Conc (E:Env)(V:View)(H:List aa):Prop where
 I:E.I=V.ah
 n:E.n=H.length
 obj:∀k x,H[k]?=some x->fG E V k x
 inj:∀i j x y b,H[i]?=some x->H[j]?=some y->bL E i x=some b->bL E j y=some b->i=j
 group:∀g,V.role.group=some g->V.own g≠none/\(∀o,V.ah g o=none)/\∀(k:Nat) x,H[k]?=some x->bL E k x≠some g
 chan:∀c,V.role.chan=some c->V.own c≠none/\(∀o,V.ah c o=none)/\∀(k:Nat) x,H[k]?=some x->bL E k x≠some c
 top:E.main=true->V.role=.plain/\V.deaf=0
 fr:∀b y,E.fr b=some y->V.own b=some y/\(∀o,V.ah b o=none)/\∀(k:Nat) x,H[k]?=some x->bL E k x≠some b
structure AS where
 T:List (Nat×AV)
 H:List aa
def AS.Le (s s':AS):Prop:=(∀t a,look s'.T t=some a->look s.T t=some a)/\s'.H=s.H
def AV.of:SO->AV
 |.agg cs=> .agg (cs.toList.map λ|.slice none 0 0=> .sl 0 [] .exact|v=> .val v)
 |.slice none 0 0=> .sl 0 [] .exact
 |v=> .val v
def AV.pt:SO->AV
 |.slice none 0 0=> .sl 0 [] .exact
 |v=> .val v
theorem IU(E:Env)(v:SO):aq E (AV.pt v) v:=by
 unfold AV.pt;split
 ·exact .nil rfl
 ·exact .val _
theorem sC(E:Env)(v:SO):aq E (AV.of v) v:=by
 unfold AV.of;split
 ·rename_i cs;refine .agg (by simp) λi a h=> ?_;rw[Tm]at h;obtain⟨x,hx,rfl⟩:=Tp.1 h;have:cs[i]?=some x:=by simpa using hx
  rw[SH,this];exact IU E x
 ·exact .nil rfl
 ·exact .val _
def AS.ev (s:AS):Ti->Option AV
 |.tmp t=>look s.T t
 |.const v=>some (AV.of v)
 |.func f=>some (.fn (.func f) [] [])
 |.global _=>none
theorem aq.ev{E:Env}{s:AS}{a:Act}(k:bZ E s.T a.tmps){x:Ti}{av:AV}(h:s.ev x=some av):aq E av (a.eval x):=by
 cases x with
 |tmp t=>exact(k t av h).2
 |const v=>cases h;exact sC E v
 |func f=>cases h;exact .fn rfl rfl (by simp) (by simp)
 |global g=>cases h
theorem fG.BG{E:Env}{V:View}{k:Nat}{x:aa}(h:fG E V k x){b:Nat}(hb:bL E k x=some b):∃y,V.own b=some y:=by
 cases x with
 |cells l el=>cases hb;obtain⟨⟨cs,h1,_⟩,_⟩:=h;exact⟨_,h1⟩
 |part p l el=>cases hb;obtain⟨⟨cs,h1,_⟩,_⟩:=h;exact⟨_,h1⟩
 |own p l el=>cases hb;obtain⟨⟨cs,h1,_⟩,_⟩:=h;exact⟨_,h1⟩
 |tail n sz el=>
  obtain⟨hv,h|⟨b',cap,cs,h1,h2,h3,h4,h5⟩⟩:=h
  ·simp only[bL,h,if_true]at hb;cases hb
  ·simp only[bL,h1]at hb;rw[if_neg (by omega)]at hb;cases hb;exact⟨_,h2⟩
 |obj x=>cases hb;exact⟨_,h.1⟩
 |iter m since seen tH=>cases hb;exact⟨_,h.2.1⟩
 |loop=>cases hb;obtain⟨⟨tmps,h1,_⟩,_⟩:=h;exact⟨_,h1⟩
 |gone=>cases hb
 |main=>cases hb
theorem O0{E E':Env}(hl:E.Le E'){k:Nat}(hk:k<E.n){x:aa}{V:View}(h:fG E V k x):bL E' k x=bL E k x:=by
 cases x with
 |tail n sz el=>simp only[bL];rw[hl.room k n hk (WE h.1.symm)]
 |gone=>rfl
 |main=>rfl
 |_=>simp only[bL,hl.blk k hk]
theorem fG.mono{E E':Env}{V V':View}{k:Nat}{x:aa}(h:fG E V k x)(hl:E.Le E')(hk:k<E.n)(Aj:E'.ft k=E.ft k)
  (ho:∀b y,bL E k x=some b->V.own b=some y->V'.own b=some y) (hi:∀b,bL E k x=some b->∀o,V'.ah b o=V.ah b o):fG E' V' k x:=by
 cases x with
 |cells l el=>
  obtain⟨⟨cs,h1,h2⟩,h3⟩:=h;simp only[fG,hl.blk k hk];exact⟨⟨cs,ho _ _ rfl h1,h2.mono hl⟩,λo=>(hi _ rfl o).trans (h3 o)⟩
 |part p l el=>
  obtain⟨⟨cs,h1,h2,h4⟩,h3⟩:=h;simp only[fG,hl.blk k hk];exact⟨⟨cs,ho _ _ rfl h1,h2.mono hl,λo hp=>(hi _ rfl o).trans (h4 o hp)⟩,λo hp=>(hi _ rfl o).trans (h3 o hp)⟩
 |own sz l el=>
  obtain⟨⟨cs,h1,h2,h4⟩,h3⟩:=h;simp only[fG,hl.blk k hk,hl.room k 0 hk (W2 _)];exact⟨⟨cs,ho _ _ rfl h1,h2.mono hl,h4⟩,λo=>(hi _ rfl o).trans (h3 o)⟩
 |tail n sz el=>
  obtain⟨hv,h⟩:=h;simp only[fG,Aj,hl.room k n hk (WE hv.symm)];refine⟨hv,?_⟩;rcases h with h|⟨b',cap,cs,h1,h2,h3,h4,h5⟩
  ·exact .inl h
  ·have hb:bL E k (.tail n sz el)=some b':=(by simp only[bL,h1];rw[if_neg (by omega)];rfl);exact .inr ⟨b',cap,cs,h1,ho _ _ hb h2,h3,h4,λo hm=>(hi _ hb o).trans (h5 o hm)⟩
 |obj x=>
  obtain⟨h1,h2,h4,h3⟩:=h;simp only[fG,hl.blk k hk];exact⟨ho _ _ rfl h1,h2,h4,λo=>(hi _ rfl o).trans (h3 o)⟩
 |iter m since seen tH=>
  obtain⟨h0,h1,h2⟩:=h;simp only[fG,hl.blk k hk,hl.blk m h0];exact⟨Td h0 hl.n,ho _ _ rfl h1,λo=>(hi _ rfl o).trans (h2 o)⟩
 |loop r st pend fn T nt ps bK body df=>
  obtain⟨⟨tmps,h1,h2,h3⟩,h4,h5,h6⟩:=h;simp only[fG,hl.blk k hk,hl.blk df h4];exact⟨⟨tmps,ho _ _ rfl h1,h2,h3.mono hl⟩,Td h4 hl.n,λo=>(hi _ rfl o).trans (h5 o),h6⟩
 |gone=>trivial
 |main=>exact hl.main.trans h
theorem Conc.iD{E E':Env}{V V':View}{H H':List aa}(hc:Conc E V H)(k:Nat)(x':aa)(hle:E.Le E')(hI:E'.I=V'.ah)(hn:E'.n=H'.length)
  (hH:∀(j:Nat) y,H'[j]?=some y->(j=k/\y=x')\/(j≠k/\H[j]?=some y)) (hr:V'.role=V.role)
  (Aj:∀j,j≠k->j<E.n->E'.ft j=E.ft j)
  (ho:∀b y,(∀x,H[k]?=some x->bL E k x≠some b)->V.own b=some y->V'.own b=some y/\∀o,V'.ah b o=V.ah b o)
  (hx:fG E' V' k x') (hb:∀b,bL E' k x'=some b->(∃x,H[k]?=some x/\bL E k x=some b)\/V.own b=none) (bx:V'.deaf=V.deaf:=by rfl):Conc E' V' H':=by
 have hlt:∀(j:Nat) y,H[j]?=some y->j<E.n:=λj y h=>by rw[hc.n];exact(SL.1 h).1
 have cK:∀(j:Nat) y b,H[j]?=some y->bL E' j y=some b->bL E j y=some b:=λj y b h e=>by rw[<- O0 hle (hlt j y h) (hc.obj j y h)];exact e
 have Sb:∀(j:Nat) y b,j≠k->H[j]?=some y->bL E j y=some b->∀x,H[k]?=some x->bL E k x≠some b:=λj y b hj h1 h2 x h3 h4=>hj (hc.inj j k y x b h1 h3 h2 h4);have hg:∀(j:Nat) y,H'[j]?=some y->∀g,V.own g≠none->(∀(i:Nat) x,H[i]?=some x->bL E i x≠some g)->bL E' j y≠some g:=λj y h g o5 fi e=>by
  rcases hH j y h with⟨rfl,rfl⟩|⟨hj,h⟩
  ·rcases hb g e with⟨x,h1,h2⟩|h2
   ·exact fi _ x h1 h2
   ·exact o5 h2
  ·exact fi j y h (cK j y g h e)
 have hk:∀g,V.own g≠none->(∀(i:Nat) x,H[i]?=some x->bL E i x≠some g)->V'.own g≠none/\∀o,V'.ah g o=V.ah g o:=λg o5 fi=>by
  cases e:V.own g with
  |none=>exact absurd e o5
  |some y=>
   have:=ho g y (λx hx=>fi k x hx) e;exact⟨by rw[this.1];simp,this.2⟩
 refine⟨hI,hn,λj y h=> ?_,λi j y z b h1 h2 e1 e2=> ?_,λg Rs=> ?_,λc eP=> ?_,λhm=>(by rw[hr,bx];exact hc.top (by rw[<- hle.main];exact hm)),λb y jo=> ?_⟩
 ·rcases hH j y h with⟨rfl,rfl⟩|⟨hj,h⟩
  ·exact hx
  ·have ly:=hc.obj j y h;refine ly.mono hle (hlt j y h) (Aj j hj (hlt j y h)) (λb z ki hz=> ?_) (λb ki o=> ?_)
   ·exact(ho b z (Sb j y b hj h ki) hz).1
   ·obtain⟨z,hz⟩:=ly.BG ki;exact(ho b z (Sb j y b hj h ki) hz).2 o
 ·have new:∀(j:Nat) y,j≠k->H[j]?=some y->bL E' j y=some b->bL E' k x'≠some b:=λj y hj h e e'=>by
   have e:=cK j y b h e;rcases hb b e' with⟨x,CV,hx2⟩|h1
   ·exact hj (hc.inj j k y x b h CV e hx2)
   ·obtain⟨q,hq⟩:=(hc.obj j y h).BG e;rw[h1]at hq;cases hq
  rcases hH i y h1 with⟨rfl,rfl⟩|⟨hi,h1⟩<;>rcases hH j z h2 with⟨rfl,rfl⟩|⟨hj,h2⟩
  ·rfl
  ·exact absurd e1 (new j z hj h2 e2)
  ·exact absurd e2 (new i y hi h1 e1)
  ·exact hc.inj i j y z b h1 h2 (cK i y b h1 e1) (cK j z b h2 e2)
 ·rw[hr]at Rs;obtain⟨h0,h1,h2⟩:=hc.group g Rs;exact⟨(hk g h0 h2).1,λo=>((hk g h0 h2).2 o).trans (h1 o),λj y h=>hg j y h g h0 h2⟩
 ·rw[hr]at eP;obtain⟨h0,h1,h2⟩:=hc.chan c eP;exact⟨(hk c h0 h2).1,λo=>((hk c h0 h2).2 o).trans (h1 o),λj y h=>hg j y h c h0 h2⟩
 ·rw[hle.fr]at jo;obtain⟨h0,h1,h2⟩:=hc.fr b y jo;have Fa:V.own b≠none:=by rw[h0];simp
  exact⟨(ho b y (λx hx=>h2 k x hx) h0).1,λo=>((hk b Fa h2).2 o).trans (h1 o),λj z h=>hg j z h b Fa h2⟩
theorem kX{α:Type}{H:List α}{k:Nat}{x':α}:∀(j:Nat) y,(H.set k x')[j]?=some y->(j=k/\y=x')\/(j≠k/\H[j]?=some y):=λj y h=>by
 by_cases hj:j=k
 ·subst hj;rw[List.getElem?_set_self']at h;cases e:H[j]?with
  |none=>rw[e]at h;cases h
  |some z=>rw[e]at h;exact .inl ⟨rfl,by simpa using h.symm⟩
 ·rw[T8 (Ne.symm hj)]at h;exact .inr ⟨hj,h⟩
theorem C8{α:Type}{H:List α}{x':α}:∀(j:Nat) y,(H++[x'])[j]?=some y->(j=H.length/\y=x')\/(j≠H.length/\H[j]?=some y):=λj y h=>by
 by_cases hk:j<H.length
 ·rw[SX hk]at h;exact .inr ⟨by omega,h⟩
 ·rw[S9 (by omega)]at h;have aJ:j-H.length=0:=by
   have:=(SL.1 h).1;simpa using this
  rw[aJ]at h;exact .inl ⟨by omega,by simpa using h.symm⟩
theorem Conc.ja{E:Env}{V:View}{H:List aa}(hc:Conc E V H){k:Nat}{x:aa}(hk:H[k]?=some x){b:Nat}(hb:bL E k x=some b):V.role.group≠some b/\V.role.chan≠some b:=
 ⟨λe=>(hc.group b e).2.2 k x hk hb,λe=>(hc.chan b e).2.2 k x hk hb⟩
theorem Conc.aak{E:Env}{V:View}{H:List aa}(hc:Conc E V H){b o:Nat}{v:SO}(h:E.I b o=some v):V.role.group≠some b/\V.role.chan≠some b:=
 ⟨λe=>(by have:=(hc.group b e).2.1 o;rw[<- hc.I,h]at this;cases this),λe=>(by have:=(hc.chan b e).2.1 o;rw[<- hc.I,h]at this;cases this)⟩
open Go.Conc
def AS.put (s:AS)(dst:Option Nat)(av:AV):AS:=match dst with
 |some d=>⟨(d,av)::s.T,s.H⟩
 |none=>s
theorem bZ.gR{E:Env}{s:AS}{a:Act}(k:bZ E s.T a.tmps){dst:Option Nat}(hd:∀d,dst=some d->d<a.tmps.size){av:AV}{v:SO}(hv:aq E av v):bZ E (s.put dst av).T (a.put dst v).tmps:=by
 cases dst with
 |none=>exact k
 |some d=>exact bZ.put k (hd d rfl) hv
theorem eZ(s:AS)(dst:Option Nat)(av:AV):(s.put dst av).H=s.H:=by cases dst<;>rfl
theorem dU(a:Act)(dst:Option Nat)(v:SO):(a.put dst v).tmps.size=a.tmps.size:=by cases dst<;>simp[X4]
theorem put_defers(a:Act)(dst:Option Nat)(v:SO):(a.put dst v).defers=a.defers:=by cases dst<;>rfl
structure Kept (E E':Env)(V V':View)(a a':Act):Prop where
 le:E.Le E'
 size:a'.tmps.size=a.tmps.size
 defers:a'.defers=a.defers
 role:V'.role=V.role
 deaf:V'.deaf=V.deaf
def Step (lv:Bool)(P:SI)(r:Option Nat)(o:Tu)(s:AS)(next:AS->Prop)(bad:AV->AS->Prop):Prop:=
 ∀(E:Env)(V:View)(a:Act)(N:Act->View->Prop)(Q:Ex->Act->View->Prop),Conc E V s.H->bZ E s.T a.tmps->(∀d,o.dst=some d->d<a.tmps.size)->(r=none\/l8 o.op=false)->
  (∀E' V' a' s',Kept E E' V V' a a'->Conc E' V' s'.H->bZ E' s'.T a'.tmps->next s'->N a' V')->
  (∀E' V' s' pv v,Kept E E' V V' a a->Conc E' V' s'.H->bZ E' s'.T a.tmps->aq E' pv v->bad pv s'->Q (.panic [{v,recovered:=false}]) a V')->wS lv P r o a V N Q
def dz (lv:Bool)(P:SI)(r:Option Nat)(o:Tu)(s:AS)(av:AV):Prop:=
 ∀(E:Env)(V:View)(a:Act)(N:Act->View->Prop)(Q:Ex->Act->View->Prop),Conc E V s.H->bZ E s.T a.tmps->(r=none\/l8 o.op=false)->
  (∀E' V' v,E.Le E'->V'.role=V.role->V'.deaf=V.deaf->Conc E' V' s.H->aq E' av v->N (a.put o.dst v) V')->wS lv P r o a V N Q
section
variable {lv:Bool}{P:SI}{r:Option Nat}{o:Tu}{s:AS}{next:AS->Prop}{bad:AV->AS->Prop}
theorem Step.mono{next':AS->Prop}{OV:AV->AS->Prop}(h:Step lv P r o s next bad)(hn:∀s,next s->next' s)(hb:∀c s,bad c s->OV c s):Step lv P r o s next' OV:=
 λE V a N Q h1 h2 h3 h4 h5 h6=>h E V a N Q h1 h2 h3 h4 (λE' V' a' s' x1 x2 x3 x4=>h5 E' V' a' s' x1 x2 x3 (hn _ x4)) (λE' V' s' pv v x1 x2 x3 x4 x5=>h6 E' V' s' pv v x1 x2 x3 x4 (hb _ _ x5))
theorem iQ{av:AV}(h:∀(E:Env)(V:View)(a:Act),Conc E V s.H->bZ E s.T a.tmps->aP P V (execOp a.eval o) (λnx V'=>V'=V/\∃v,nx=.value v/\aq E av v) (λ_ _=>False)):dz lv P r o s av:=by
 intro E V a N Q hc ht bx h1;refine⟨bx,(h E V a hc ht).mono (λnx V' hx=> ?_) (λ_ _ hx=>hx.elim)⟩;obtain⟨rfl,v,rfl,hv⟩:=hx;exact h1 E V' v (Env.Le.refl E) rfl rfl hc hv
theorem rQ{av:AV}(h:∀(E:Env)(V:View)(a:Act),Conc E V s.H->bZ E s.T a.tmps->∃v,execOp a.eval o=.pure (.value v)/\aq E av v):dz lv P r o s av:=
 iQ (λE V a hc ht=>by
  obtain⟨v,h1,h2⟩:=h E V a hc ht;rw[h1];exact cE ⟨rfl,v,rfl,h2⟩)
theorem dz.step{av:AV}(h:dz lv P r o s av)(hn:next (s.put o.dst av)):Step lv P r o s next bad:=by
 intro E V a N Q hc ht hd bx h1 _;refine h E V a N Q hc ht bx λE' V' v hle bW eQ aY hv=> ?_;exact h1 E' V' (a.put o.dst v) (s.put o.dst av) ⟨hle,dU _ _ _,put_defers _ _ _,bW,eQ⟩ (by rw[eZ];exact aY) ((ht.mono hle).gR hd hv) hn
theorem abQ{x:Ti}{av:AV}(ho:o.op=.move x\/o.op=.assign x)(hx:s.ev x=some av):dz lv P r o s (av):=
 rQ (λE V a hc ht=>⟨a.eval x,by unfold execOp;rcases ho with ho|ho<;>rw[ho]<;>rfl,aq.ev ht hx⟩)
theorem aoT{c x y:Ti}{b:Bool}{av aw:AV}(ho:o.op=.pick c x y)(hc:s.ev c=some (.val (.bool b)))(hx:s.ev x=some av)(hy:s.ev y=some aw):dz lv P r o s ((if b then av else aw)):=
 rQ (λE V a iY ht=>by
  have h1:=aq.ev ht hc;generalize hv:a.eval c=v at h1;cases h1;refine⟨if b then a.eval x else a.eval y,by unfold execOp;rw[ho];simp only[hv];cases b<;>rfl,?_⟩;cases b
  ·exact aq.ev ht hy
  ·exact aq.ev ht hx)
def lT (op:VX)(k:TY)(x y:Int):Option SO:=match op with
 |.add=>some (.int k (k.wrap (x+y)))
 |.sub=>some (.int k (k.wrap (x-y)))
 |.mul=>some (.int k (k.wrap (x* y)))
 |.eql=>some (.bool (x==y))
 |.neq=>some (.bool (x !=y))
 |.lss=>some (.bool (x<y))
 |.leq=>some (.bool (x<=y))
 |.gtr=>some (.bool (x>y))
 |.geq=>some (.bool (x>=y))
 |.and=>some (.int k (k.wrap (Ui k.bits x&&&Ui k.bits y).toNat))
 |.or=>some (.int k (k.wrap (Ui k.bits x|||Ui k.bits y).toNat))
 |.xor=>some (.int k (k.wrap (Ui k.bits x^^^Ui k.bits y).toNat))
 |.quo=>if y=0 then none else some (.int k (k.wrap (x.tdiv y)))
 |.rem=>if y=0 then none else some (.int k (x.tmod y))
 |_=>none
def AP (op:VX)(k:TY)(x y:Int):Option SO:=if y<0 then none else match op with
 |.shl=>some (.int k (k.wrap (x* 2^(min y.toNat k.bits))))
 |.shr=>some (.int k (x.fdiv (2^(min y.toNat k.bits))))
 |_=>none
def mF:VX->Bool
 |.shl|.shr=>true
 |_=>false
theorem afI{op:VX}{k:TY}{x y:Int}{v:SO}{t:TypeId}(h:lT op k x y=some v):binOp op t (.int k x) (.int k y)=.pure v:=by
 cases op<;>simp only[lT,Tj,reduceCtorEq]at h<;>try(subst h;simp[binOp,atW,Op.intCmp,Op.intBits];rfl)
 ·split at h
  ·cases h
  ·rename_i hy;simp only[Tj]at h;subst h;simp[binOp,apT,hy];rfl
 ·split at h
  ·cases h
  ·rename_i hy;simp only[Tj]at h;subst h;simp[binOp,apT,hy];rfl
theorem ap7{op:VX}{k j:TY}{x y:Int}{v:SO}{t:TypeId}(h:AP op k x y=some v):binOp op t (.int k x) (.int j y)=.pure v:=by
 unfold AP at h;split at h
 ·cases h
 ·rename_i hy;cases op<;>simp only[Tj,reduceCtorEq]at h
  ·subst h;simp[binOp,as',hy];rfl
  ·subst h;simp[binOp,as',hy];rfl
theorem PO{op:VX}{t:TypeId}{x y:Ti}{j k:TY}{a b:Int}:eqGuard op t x y (.int j a) (.int k b)=.pure ():=by
 unfold eqGuard;cases op<;>rfl
theorem aot{op:VX}{xt yt:TypeId}{x y:Ti}{k:TY}{m n:Int}{v:SO}(ho:o.op=.binOp op xt x y yt)(hx:s.ev x=some (.val (.int k m)))(hy:s.ev y=some (.val (.int k n)))(hv:lT op k m n=some v):dz lv P r o s ((.val v)):=
 rQ (λE V a iY ht=>by
  have h1:=aq.ev ht hx;have h2:=aq.ev ht hy;generalize pi:a.eval x=v1 at h1;generalize td:a.eval y=v2 at h2;cases h1;cases h2;refine⟨v,?_,.val v⟩;unfold execOp;rw[ho];simp only[pi,td,PO,afI hv];rfl)
theorem aoU{op:VX}{xt yt:TypeId}{x y:Ti}{k j:TY}{m n:Int}{v:SO}(ho:o.op=.binOp op xt x y yt)(hx:s.ev x=some (.val (.int k m)))(hy:s.ev y=some (.val (.int j n)))(hv:AP op k m n=some v):dz lv P r o s ((.val v)):=
 rQ (λE V a iY ht=>by
  have h1:=aq.ev ht hx;have h2:=aq.ev ht hy;generalize pi:a.eval x=v1 at h1;generalize td:a.eval y=v2 at h2;cases h1;cases h2;refine⟨v,?_,.val v⟩;unfold execOp;rw[ho];simp only[pi,td,PO,ap7 hv];rfl)
theorem aoS{t:TypeId}{x:Ti}{b:Bool}(ho:o.op=.unOp .not t x)(hx:s.ev x=some (.val (.bool b))):dz lv P r o s ((.val (.bool !b))):=
 rQ (λE V a iY ht=>by
  have h1:=aq.ev ht hx;generalize pi:a.eval x=v1 at h1;cases h1;exact⟨_,by unfold execOp;rw[ho];simp only[pi];rfl,.val _⟩)
theorem aoP{t:TypeId}{x:Ti}{k:TY}{n:Int}(ho:o.op=.unOp .neg t x)(hx:s.ev x=some (.val (.int k n))):dz lv P r o s (.val (.int k (k.wrap (0-n)))):=
 rQ (λE V a iY ht=>by
  have h1:=aq.ev ht hx;generalize pi:a.eval x=v1 at h1;cases h1;exact⟨_,by unfold execOp;rw[ho];simp only[pi];rfl,.val _⟩)
theorem aoz{x:Ti}{i:Nat}{l:List AV}{av:AV}(ho:o.op=.extract x i)(hx:s.ev x=some (.aN l))(hi:l[i]?=some av):dz lv P r o s (av):=
 rQ (λE V a iY ht=>by
  have h1:=aq.ev ht hx;generalize pi:a.eval x=v1 at h1;cases h1 with
  |aN hs h=>
   rename_i cs;have hlt:i<cs.size:=(by rw[hs];exact(SL.1 hi).1);refine⟨cs[i],?_,?_⟩
   ·unfold execOp;rw[ho];simp only[pi,Instr.extract,SJ hlt];rfl
   ·have:=h i av hi;rwa [SH,SJ hlt]at this)
end
theorem add_plain(b o n:Nat):(⟨b,o,none⟩:U5).add n=⟨b,o+n,none⟩:=by
 unfold atP;split
 ·rename_i h;subst h;rfl
 ·rfl
def AS.at (s:AS):AV->Option (List AV)
 |.rp l=>some l
 |.op id off=>match s.H[id]?with
  |some (.cells l _)=>some (l.drop off)
  |some (.part _ l _)=>some (l.drop off)
  |some (.own _ l _)=>some (l.drop off)
  |_=>none
 |_=>none
def AV.shift (n:Nat):AV->Option AV
 |.rp l=>if n<=l.length then some (.rp (l.drop n))else none
 |.op id off=>some (.op id (off+n))
 |_=>none
theorem Conc.at{E:Env}{V:View}{s:AS}(hc:Conc E V s.H){p:AV}{v:SO}(hd:aq E p v){l:List AV}(h:s.at p=some l):
  ∃(b o:Nat)(f:Nat->SO),v=.pointer (some ⟨b,o,none⟩)/\(∀i,i<l.length->V.get b (o+i)=some (f i))/\(0<l.length->V.role.group≠some b)/\∀(i:Nat) x,l[i]?=some x->aq E x (f i):=by
 cases hd with
 |rp b o f h1 h2=>
  cases h;exact⟨b,o,f,rfl,λi hi=>by unfold View.get;rw[<- hc.I,h1 i hi],λhp=>(hc.aak (h1 0 hp)).1,h2⟩
 |op hi=>
  rename_i id off;simp only[AS.at]at h;cases hk:s.H[id]?with
  |none=>rw[hk]at h;cases h
  |some ob=>
   rw[hk]at h;cases ob with
   |cells l' el=>
    cases h;obtain⟨⟨cs,ho,hs,bp⟩,lw⟩:=hc.obj id _ hk;refine⟨E.blk id,off,λi=>cs.getD (off+i) undef,rfl,λi hi=> ?_,λ_=>(hc.ja hk rfl).1,λi x hx=> ?_⟩
    ·unfold View.get;rw[lw,ho];simp only[Ul]at hi;have hlt:off+i<cs.size:=(by omega);simp only[SH,SJ hlt,S7]
    ·rw[Uo]at hx;exact bp _ _ hx
   |part p l' el=>
    cases h;obtain⟨⟨cs,ho,⟨hs,bp⟩,ny⟩,lw⟩:=hc.obj id _ hk;refine⟨E.blk id,off,λi=>cs.getD (off+i) undef,rfl,λi hi=> ?_,λ_=>(hc.ja hk rfl).1,λi x hx=> ?_⟩
    ·simp only[Ul]at hi;have hlt:off+i<cs.size:=(by omega);unfold View.get;by_cases hp:off+i<p
     ·rw[ny _ hp];simp only[SH,SJ hlt,S7]
     ·rw[lw _ (by omega),ho];simp only[SH,SJ hlt,S7]
    ·rw[Uo]at hx;exact bp _ _ hx
   |own sz l' el=>
    cases h;obtain⟨⟨cs,ho,⟨hs,bp⟩,_⟩,lw⟩:=hc.obj id _ hk;refine⟨E.blk id,off,λi=>cs.getD (off+i) undef,rfl,λi hi=> ?_,λ_=>(hc.ja hk rfl).1,λi x hx=> ?_⟩
    ·simp only[Ul]at hi;have hlt:off+i<cs.size:=(by omega);unfold View.get;rw[lw,ho];simp only[SH,SJ hlt,S7]
    ·rw[Uo]at hx;exact bp _ _ hx
   |_=>cases h
 |_=>cases h
theorem aq.shift{E:Env}{p q:AV}{v:SO}(hd:aq E p v){n:Nat}(h:p.shift n=some q):∃b o,v=.pointer (some ⟨b,o,none⟩)/\aq E q (.pointer (some ⟨b,o+n,none⟩)):=by
 cases hd with
 |rp b o f h1 h2=>
  simp only[AV.shift]at h;split at h
  ·rename_i hn;cases h;refine⟨b,o,rfl,.rp b (o+n) (λi=>f (n+i)) (λi hi=> ?_) (λi x hx=> ?_)⟩
   ·simp only[Ul]at hi;rw[U0];exact h1 _ (by omega)
   ·rw[Uo]at hx;exact h2 _ _ hx
  ·cases h
 |op hi=>cases h;exact⟨_,_,rfl,.op hi⟩
 |_=>cases h
section
variable {P:SI}{V:View}{α:Type}{K:α->View->Prop}{Kp:SO->View->Prop}
theorem dZ{t:TypeId}{d:TypeDesc}{k:TypeDesc->Sem α}(h:P.underlying t=some d)(hk:aP P V (k d) K Kp):aP P V (underlying t>>=k) K Kp:=by
 unfold underlying;refine aA (aA (qx (cE ?_)));rw[h];exact au hk
theorem yz{t:TypeId}{i:We}{k:We->Sem α}(h:P.info? t=some i)(hk:aP P V (k i) K Kp):aP P V (typeInfo t>>=k) K Kp:=by
 unfold typeInfo;refine aA (aA (qx (cE ?_)));rw[h];exact au hk
theorem jL{t:TypeId}{i:We}{k:Nat->Sem α}(h:P.info? t=some i)(hk:aP P V (k i.size) K Kp):aP P V (sizeOf t>>=k) K Kp:=by
 refine aA ?_;unfold sizeOf;exact yz h (au hk)
def TypeDesc.agg:TypeDesc->Bool
 |.struct _|.array _ _=>true
 |_=>false
theorem Dz{t:TypeId}{d:TypeDesc}{k:Bool->Sem α}(h:P.underlying t=some d)(hk:aP P V (k (TypeDesc.agg d)) K Kp):aP P V (isAgg t>>=k) K Kp:=by
 refine aA ?_;unfold isAgg;refine dZ h ?_;cases d<;>exact au hk
theorem apV{b o:Nat}{v:SO}{k:SO->Sem α}(hg:V.role.group≠some b)(e:V.get b o=some v)(hk:aP P V (k v) K Kp):aP P V (load ⟨b,o,none⟩>>=k) K Kp:=
 aA (Nk e (.inl hg) (cE hk))
theorem ace{b o:Nat}{f:Nat->SO}{K:Array SO->View->Prop}:∀(n i:Nat)(acc:Array SO),(0<n->V.role.group≠some b)->(∀j,j<n->V.get b (o+(i+j))=some (f (i+j)))->
  K (acc++((SV n).map λj=>f (i+j)).toArray) V->aP P V (loadCellsFrom ⟨b,o,none⟩ i n acc) K Kp
 |0,i,acc,_,_,h=>au (by simpa using h)
 |n+1,i,acc,hg,he,h=>by
  have h0:=he 0 (by omega);unfold loadCellsFrom;rw[add_plain];refine apV (hg (by omega)) h0 ?_;refine ace n (i+1) _ (λ_=>hg (by omega)) (λj hj=>by have:=he (j+1) (by omega);rwa [show i+(j+1)=i+1+j by omega]at this) ?_;have e:(acc.push (f (i+0))++((SV n).map λj=>f (i+1+j)).toArray)=acc++((SV (n+1)).map λj=>f (i+j)).toArray:=by
   rw[List.range_succ_eq_map];apply VB;simp[Yy,U0,Z0 1]
  rw[e];exact h
theorem AL{b o n:Nat}{f:Nat->SO}(hg:0<n->V.role.group≠some b){K:Array SO->View->Prop}(he:∀j,j<n->V.get b (o+j)=some (f j))(h:K ((SV n).map f).toArray V):aP P V (loadCells ⟨b,o,none⟩ n) K Kp:=
 ace n 0 #[] hg (λj hj=>by simpa using he j hj) (by simpa using h)
end
theorem kH{α β:Type}{x:Option α}{f:α->β}{y:β}(h:x.map f=some y):∃a,x=some a/\f a=y:=Tp.1 h
def Ty (P:SI)(t:TypeId):Option (Nat×Bool):=(P.info? t).bind λi=>(P.underlying t).map λd=>(i.size,TypeDesc.agg d)
theorem Ty.out{P:SI}{t:TypeId}{n:Nat}{g:Bool}(h:Ty P t=some (n,g)):∃i d,P.info? t=some i/\P.underlying t=some d/\i.size=n/\TypeDesc.agg d=g:=by
 unfold Ty at h;obtain⟨i,h1,h2⟩:=Te.1 h;obtain⟨d,h3,h4⟩:=kH h2;cases h4;exact⟨i,d,h1,h3,rfl,rfl⟩
theorem IW{E:Env}{l:List AV}{f:Nat->SO}{n:Nat}(hn:n<=l.length)(h:∀(i:Nat) x,l[i]?=some x->aq E x (f i)):aq E (.agg (l.take n)) (.agg ((SV n).map f).toArray):=by
 refine .agg (by simp;omega) λi x hx=> ?_;rw[Uf]at hx;split at hx
 ·rename_i hi;have:=h i x hx;simpa[SH,hi]using this
 ·cases hx
def AV.row:AV->Option (Nat×AV)
 |.sl n l _=>some (n,.rp l)
 |.bh id off n _=>some (n,.op id off)
 |_=>none
theorem aq.row{E:Env}{a p:AV}{v:SO}{n:Nat}(hd:aq E a v)(h:a.row=some (n,p))(h0:0<n):∃b o cap,v=.slice (some ⟨b,o,none⟩) n cap/\aq E p (.pointer (some ⟨b,o,none⟩)):=by
 cases hd with
 |sl b o cap f hc he h1 h2=>cases h;exact⟨b,o,cap,rfl,.rp b o f h1 h2⟩
 |nil he=>cases h;exact absurd h0 (by simp)
 |bh hi=>cases h;exact⟨_,_,_,rfl,.op hi⟩
 |_=>cases h
def AV.len:AV->Option Nat
 |.sl n _ _=>some n
 |.bh _ _ n _=>some n
 |_=>none
theorem aq.len{E:Env}{a:AV}{v:SO}{n:Nat}(hd:aq E a v)(h:a.len=some n):∃ad cap,v=.slice ad n cap:=by
 cases hd with
 |sl b o cap f hc he h1 h2=>cases h;exact⟨_,_,rfl⟩
 |nil he=>cases h;exact⟨_,_,rfl⟩
 |bh hi=>cases h;exact⟨_,_,rfl⟩
 |_=>cases h
def eU (P:SI)(t:TypeId)(k:Nat):Option Nat:=match P.underlying t with
 |some (.struct fs)=>match fs[k]?with
  |some f=>match P.info? f.type with
   |some i=>if i.size=0 then none else some f.offset
   |none=>none
  |none=>none
 |_=>none
def nN (P:SI)(t:TypeId):Option (Option Nat×Nat):=match P.underlying t with
 |some (.array n e)=>(P.info? e).map λi=>(some n,i.size)
 |some (.slice e)=>(P.info? e).map λi=>(none,i.size)
 |_=>none
inductive yS where
 |slice|map|str|arr (n:Nat)
def ld (P:SI)(t:TypeId):Option yS:=match P.underlying t with
 |some (.slice _)=>some .slice
 |some (.map _ _)=>some .map
 |some .string=>some .str
 |some (.array n _)=>some (.arr n)
 |_=>none
def Ih (P:SI)(t:TypeId)(k:Nat):Option (Nat×Nat×Bool):=match P.underlying t with
 |some (.struct fs)=>match fs[k]?with
  |some f=>(Ty P f.type).map λx=>(f.offset,x.1,x.2)
  |none=>none
 |_=>none
def Ia (P:SI)(t:TypeId):Option (Nat×Nat×Bool):=match P.underlying t with
 |some (.array n e)=>(Ty P e).map λx=>(n,x.1,x.2)
 |_=>none
section
variable {lv:Bool}{P:SI}{r:Option Nat}{o:Tu}{s:AS}{next:AS->Prop}{bad:AV->AS->Prop}
theorem aoI{t:TypeId}{x:Ti}{p:AV}{l:List AV}{n:Nat}(ho:o.op=.load t x)(ht:Ty P t=some (n,true))(hx:s.ev x=some p)(hl:s.at p=some l)(hlen:n<=l.length):dz lv P r o s ((.agg (l.take n))):=
 iQ (λE V a hc aG=>by
  obtain⟨i,d,h1,h2,rfl,h4⟩:=Ty.out ht;obtain⟨b,off,f,hv,hg,jX,hd⟩:=hc.at (aq.ev aG hx) hl;unfold execOp;rw[ho];simp only[hv];refine aA ?_;unfold XA Va;refine aA (au ?_);unfold loadVar;refine Dz h2 ?_;rw[h4];simp only[if_true];refine jL h1 ?_;refine aA (AL (f:=f) (λh=>jX (by omega)) (λj hj=>hg j (by omega)) ?_);exact au (au ⟨rfl,_,rfl,IW hlen hd⟩))
theorem aoJ{t:TypeId}{x:Ti}{p:AV}{l:List AV}{n:Nat}{av:AV}(ho:o.op=.load t x)(ht:Ty P t=some (n,false))(hx:s.ev x=some p)(hl:s.at p=some l)(h0:l[0]?=some av):dz lv P r o s (av):=
 iQ (λE V a hc aG=>by
  obtain⟨i,d,h1,h2,rfl,h4⟩:=Ty.out ht;obtain⟨b,off,f,hv,hg,jX,hd⟩:=hc.at (aq.ev aG hx) hl;unfold execOp;rw[ho];simp only[hv];refine aA ?_;unfold XA Va;refine aA (au ?_);unfold loadVar;refine Dz h2 ?_;rw[h4];simp only[TM,if_false];have hlen:0<l.length:=(SL.1 h0).1;have lr:=hg 0 hlen;rw[UD]at lr;exact Nk lr (.inl (jX hlen)) (cE (au ⟨rfl,_,rfl,hd 0 av h0⟩)))
def AV.sure:AV->Bool
 |.rp _|.op _ _=>true
 |.fn (.func _) _ _=>true
 |.fn (.yield _) _ _=>true
 |.cY _ _=>true
 |_=>false
theorem aoQ{x:Ti}{p:AV}(ho:o.op=.nilCheck x)(hx:s.ev x=some p)(hp:p.sure=true):dz lv P r o s (p):=
 rQ (λE V a hc aG=>by
  have hd:=aq.ev aG hx;refine⟨a.eval x,?_,hd⟩;unfold execOp;rw[ho];dsimp only;generalize a.eval x=v at hd⊢;cases hd with
  |rp=>rfl
  |op=>rfl
  |cY=>rfl
  |fn dE fN h1 h2=>
   rename_i f _ _ _ _;cases f with
   |func=>rfl
   |yield=>rfl
   |_=>cases hp
  |_=>cases hp)
theorem aoA{t:TypeId}{x:Ti}{k n:Nat}{p q:AV}(ho:o.op=.fieldAddr t x k)(ht:eU P t k=some n)(hx:s.ev x=some p)(hp:p.shift n=some q):dz lv P r o s (q):=
 iQ (λE V a hc aG=>by
  obtain⟨b,off,hv,hq⟩:=(aq.ev aG hx).shift hp;unfold eU at ht;split at ht
  ·rename_i fs hu;split at ht
   ·rename_i f hf;split at ht
    ·rename_i i hi;split at ht
     ·cases ht
     ·rename_i hz;cases ht;unfold execOp;rw[ho];simp only[hv];refine aA ?_;unfold Instr.fieldAt;refine dZ hu ?_;simp only[hf];unfold Va;refine aA (au ?_);unfold fieldPlace;refine aA (jL hi ?_);rw[if_neg hz];refine au (au (au ⟨rfl,_,rfl,?_⟩));rw[add_plain];exact hq
    ·cases ht
   ·cases ht
  ·cases ht)
theorem aoC{t:TypeId}{x ix:Ti}{a p q:AV}{k:TY}{i:Int}{n sz:Nat}(ho:o.op=.indexAddr t x ix)(ht:nN P t=some (none,sz))(hx:s.ev x=some a)(ha:a.row=some (n,p))(hi:s.ev ix=some (.val (.int k i)))(h0:0<=i)(h1:i<n)
  (hp:p.shift (i.toNat* sz)=some q):dz lv P r o s (q):=
 iQ (λE V ac hc aG=>by
  obtain⟨b,off,cap,hv,z8⟩:=(aq.ev aG hx).row ha (by omega);obtain⟨b',o',hb,hq⟩:=z8.shift hp;cases hb;have hd:=aq.ev aG hi;generalize qn:ac.eval ix=vi at hd;cases hd;unfold nN at ht;split at ht
  ·obtain⟨_,_,h⟩:=kH ht;cases h
  ·rename_i e hu;obtain⟨inf,KL,h⟩:=kH ht;cases h;unfold execOp;rw[ho];simp only[hv,qn];refine aA ?_;unfold ZI asIntOf;refine aA (au ?_);dsimp only;refine dZ hu ?_;refine aA (au ?_);dsimp only;refine dZ hu ?_;dsimp only;rw[if_pos ⟨h0,h1⟩];refine jL KL ?_;refine au (au ⟨rfl,_,rfl,?_⟩);rw[add_plain];exact hq
  ·cases ht)
theorem aoD{t:TypeId}{x ix:Ti}{p q:AV}{k:TY}{i:Int}{n sz:Nat}(ho:o.op=.indexAddr t x ix)(ht:nN P t=some (some n,sz))(hx:s.ev x=some p)(hi:s.ev ix=some (.val (.int k i)))(h0:0<=i)(h1:i<n)
  (hp:p.shift (i.toNat* sz)=some q):dz lv P r o s (q):=
 iQ (λE V ac hc aG=>by
  obtain⟨b,off,hv,hq⟩:=(aq.ev aG hx).shift hp;have hd:=aq.ev aG hi;generalize qn:ac.eval ix=vi at hd;cases hd;unfold nN at ht;split at ht
  ·rename_i m e hu;obtain⟨inf,KL,h⟩:=kH ht;cases h;unfold execOp;rw[ho];simp only[hv,qn];refine aA ?_;unfold ZI asIntOf;refine aA (au ?_);dsimp only;refine dZ hu ?_;dsimp only;unfold Va;refine aA (aA (au (au ?_)));refine dZ hu ?_;dsimp only;rw[if_pos ⟨h0,h1⟩];refine jL KL ?_;refine au (au ⟨rfl,_,rfl,?_⟩);rw[add_plain];exact hq
  ·obtain⟨_,_,h⟩:=kH ht;cases h
  ·cases ht)
theorem abP{c:Xp}{x:Ti}{t:TypeId}{a:AV}{n:Nat}(ho:o.op=.call c)(aX:c.callee=.builtin .len)(te:c.args[0]?=some x)(CO:c.argTypes[0]?=some t)(ht:ld P t=some .slice)(hx:s.ev x=some a)(ha:a.len=some n):dz lv P r o s (.val (.int .i64 n)):=
 iQ (λE V ac hc aG=>by
  obtain⟨ad,cap,hv⟩:=(aq.ev aG hx).len ha;unfold ld at ht;split at ht<;>cases ht;rename_i e hu;unfold execOp;rw[ho];dsimp only;unfold resolve;rw[aX];dsimp only;refine aA (au ?_);unfold invoke builtin;dsimp only;refine aA ?_;unfold Ym;have e1:(c.args.map ac.eval)[0]?=some (.slice ad n cap):=by simp[te,hv]
  simp only[CO,e1];refine dZ hu ?_;exact au (au ⟨rfl,_,rfl,.val _⟩))
theorem aoH{c:Xp}{x:Ti}{t:TypeId}{b:ByteArray}(ho:o.op=.call c)(aX:c.callee=.builtin .len)(te:c.args[0]?=some x)(CO:c.argTypes[0]?=some t)(ht:ld P t=some .str)(hx:s.ev x=some (.val (.string b))):dz lv P r o s (.val (.int .i64 b.size)):=
 iQ (λE V ac hc aG=>by
  have hd:=aq.ev aG hx;generalize hv:ac.eval x=v at hd;cases hd;unfold ld at ht;split at ht<;>cases ht;rename_i hu;unfold execOp;rw[ho];dsimp only;unfold resolve;rw[aX];dsimp only;refine aA (au ?_);unfold invoke builtin;dsimp only;refine aA ?_;unfold Ym;have e1:(c.args.map ac.eval)[0]?=some (.string b):=by simp[te,hv]
  simp only[CO,e1];refine dZ hu ?_;exact au (au ⟨rfl,_,rfl,.val _⟩))
theorem aoG{c:Xp}{x:Ti}{t:TypeId}{id:Nat}{es:Array Wh}{ck:Nat}(ho:o.op=.call c)(aX:c.callee=.builtin .len)(te:c.args[0]?=some x)(CO:c.argTypes[0]?=some t)(ht:ld P t=some .map)(hx:s.ev x=some (.mp id))(hk:s.H[id]?=some (.obj (.map es ck))):dz lv P r o s (.val (.int .i64 es.size)):=
 iQ (λE V ac hc aG=>by
  have hd:=aq.ev aG hx;generalize hv:ac.eval x=v at hd;cases hd;obtain⟨h1,h2,h3,h4⟩:=hc.obj id _ hk;unfold ld at ht;split at ht<;>cases ht;rename_i hu;unfold execOp;rw[ho];dsimp only;unfold resolve;rw[aX];dsimp only;refine aA (au ?_);unfold invoke builtin;dsimp only;refine aA ?_;unfold Ym;have e1:(c.args.map ac.eval)[0]?=some (.map (some (E.blk id))):=by simp[te,hv]
  simp only[CO,e1];refine dZ hu ?_;refine aA (nK h1 h2 h3 (hc.ja hk rfl).2 (cE ?_));exact au (au ⟨rfl,_,rfl,.val _⟩))
theorem acg{t:TypeId}{n off:Nat}{g:Bool}{E:Env}{V:View}{l:List AV}{cs:Array SO}{K:SO->View->Prop}{Kp:SO->View->Prop}(ht:Ty P t=some (n,g))(hd:cF E l cs)(hl:off+n<=l.length)(hn:g=false->0<n)
  (h:∀v,(g=true->aq E (.agg ((l.drop off).take n)) v)->(g=false->∀a,l[off]?=some a->aq E a v)->K v V):aP P V (part t cs off) K Kp:=by
 obtain⟨i,d,h1,h2,rfl,h4⟩:=Ty.out ht;unfold part;refine Dz h2 ?_;rw[h4];cases g with
 |true=>
  simp only[if_true];refine jL h1 (au (h _ (λ_=> .agg (by have:=hd.1;simp;omega) λj a e=> ?_) (by simp)));rw[Uf]at e;split at e
  ·rename_i hj;rw[Uo]at e;have:=hd.2 _ _ e;have hlt:off+j<cs.size:=(by rw[hd.1];omega);have akn:j<(cs.extract off (off+i.size)).size:=(by have:=hd.1;simp;omega);rw[SH,SJ akn];rw[SH,SJ hlt]at this;simpa using this
  ·cases e
 |false=>
  simp only[TM,if_false];have hlt:off<cs.size:=by have:=hn rfl;rw[hd.1];omega
  rw[SJ hlt];refine au (h _ (by simp) λ_ a e=> ?_);have:=hd.2 _ _ e;rwa [SH,SJ hlt]at this
def AV.cut (l:List AV)(off n:Nat)(g:Bool):Option AV:=if off+n<=l.length/\(g=false->0<n)then(if g then some (.agg ((l.drop off).take n))else l[off]?)else none
theorem aoB{t:TypeId}{x:Ti}{k off n:Nat}{g:Bool}{l:List AV}{av:AV}(ho:o.op=.field t x k)(ht:Ih P t k=some (off,n,g))(hx:s.ev x=some (.agg l))(hv:AV.cut l off n g=some av):dz lv P r o s av:=
 iQ (λE V a hc aG=>by
  have hd:=aq.ev aG hx;generalize he:a.eval x=v at hd;cases hd with
  |agg hs h=>
   unfold Ih at ht;split at ht
   ·rename_i fs hu;split at ht
    ·rename_i f hf;obtain⟨⟨n',g'⟩,h1,h2⟩:=kH ht;cases h2;unfold AV.cut at hv;split at hv
     ·rename_i xF;unfold execOp;rw[ho];simp only[he];refine aA ?_;unfold Instr.field;refine dZ hu ?_;simp only[hf];unfold asAgg;refine aA (au ?_);refine acg h1 ⟨hs,h⟩ xF.1 xF.2 λv h3 h4=>au ⟨rfl,v,rfl,?_⟩;cases g' with
      |true=>simp only[if_true,Tj]at hv;subst hv;exact h3 rfl
      |false=>simp only[TM,if_false]at hv;exact h4 rfl _ hv
     ·cases hv
    ·cases ht
   ·cases ht)
theorem aoF{t:TypeId}{x ix:Ti}{n sz:Nat}{g:Bool}{l:List AV}{av:AV}{k:TY}{i:Int}(ho:o.op=.index t x ix)(ht:Ia P t=some (n,sz,g))(hx:s.ev x=some (.agg l))(hi:s.ev ix=some (.val (.int k i)))(h0:0<=i)(h1:i<n)(hv:AV.cut l (i.toNat* sz) sz g=some av):dz lv P r o s av:=
 iQ (λE V a hc aG=>by
  have hd:=aq.ev aG hx;generalize he:a.eval x=v at hd;have og:=aq.ev aG hi;generalize Kr:a.eval ix=vi at og;cases og;cases hd with
  |agg hs h=>
   unfold Ia at ht;split at ht
   ·rename_i m e hu;obtain⟨⟨n',g'⟩,h2,h3⟩:=kH ht;cases h3;unfold AV.cut at hv;split at hv
    ·rename_i xF;obtain⟨inf,d,q1,q2,q3,q4⟩:=Ty.out h2;unfold execOp;rw[ho];simp only[he,Kr];refine aA ?_;unfold ZX asIntOf;refine aA (au ?_);dsimp only;refine dZ hu ?_;dsimp only;rw[if_pos ⟨h0,h1⟩];refine jL q1 ?_;rw[q3];refine acg h2 ⟨hs,h⟩ xF.1 xF.2 λv h4 h5=>au ⟨rfl,v,rfl,?_⟩;cases g' with
     |true=>simp only[if_true,Tj]at hv;subst hv;exact h4 rfl
     |false=>simp only[TM,if_false]at hv;exact h5 rfl _ hv
    ·cases hv
   ·cases ht)
theorem aoE{t:TypeId}{x ix:Ti}{b:ByteArray}{k:TY}{i:Int}{c:UInt8}(ho:o.op=.index t x ix)(ht:ld P t=some .str)(hx:s.ev x=some (.val (.string b)))(hi:s.ev ix=some (.val (.int k i)))(h0:0<=i)(h1:b[i.toNat]?=some c):dz lv P r o s (.val (.int .u8 c.toNat)):=
 iQ (λE V a hc aG=>by
  have hd:=aq.ev aG hx;generalize he:a.eval x=v at hd;have og:=aq.ev aG hi;generalize Kr:a.eval ix=vi at og;cases og;cases hd;unfold ld at ht;split at ht<;>cases ht;rename_i hu;unfold execOp;rw[ho];simp only[he,Kr];refine aA ?_;unfold ZX asIntOf;refine aA (au ?_);dsimp only;refine dZ hu ?_;dsimp only;rw[if_pos h0,h1];exact au (au ⟨rfl,_,rfl,.val _⟩))
theorem Ps{E:Env}{s:AS}{a:Act}(k:bZ E s.T a.tmps){l:Array Ti}{aE:List AV}(h:l.toList.mapM s.ev=some aE):cF E aE (l.map a.eval):=by
 have key:∀(l:List Ti)(aE:List AV),l.mapM s.ev=some aE->cF E aE (l.map a.eval).toArray:=by
  intro l;induction l with
  |nil=>intro aE h;simp at h;subst h;exact⟨rfl,by simp⟩
  |cons x l ih=>
   intro aE h;simp only[Ua,Uj,TN,Te,Tj]at h;obtain⟨b,h1,bs,h2,rfl⟩:=h;have:=ih bs h2;refine⟨by have:=this.1;simpa using this,λi c e=> ?_⟩;cases i with
   |zero=>simp at e;subst e;simpa[SH]using aq.ev k h1
   |succ i=>
    simp only[UN]at e;have:=this.2 i c e;simpa[SH]using this
 have:=key l.toList aE h;have e:l.map a.eval=(l.toList.map a.eval).toArray:=by apply VB;simp
 rw[e];exact this
theorem aoL{f:Fn}{first cQ:Array Ti}{fa ca:List AV}(ho:o.op=.makeFunc f first cQ)(h1:first.toList.mapM s.ev=some fa)(h2:cQ.toList.mapM s.ev=some ca):dz lv P r o s (.fn f fa ca):=
 rQ (λE V a hc ht=>by
  have d1:=Ps ht h1;have d2:=Ps ht h2;exact⟨_,by unfold execOp;rw[ho];rfl,.fn d1.1 d2.1 d1.2 d2.2⟩)
def l9 (P:SI)(t:TypeId):Option Bool:=(P.underlying t).map λ|.interface _=>true|_=>false
theorem aoM{t:TypeId}{x:Ti}{av:AV}(ho:o.op=.makeInterface t x)(ht:l9 P t=some false)(hx:s.ev x=some av):dz lv P r o s (.cY t av):=
 iQ (λE V a hc aG=>by
  obtain⟨d,hu,hd⟩:=kH ht;unfold execOp;rw[ho];dsimp only;refine aA ?_;unfold Instr.makeInterface;refine dZ hu ?_;split
  ·cases hd
  ·exact au (au ⟨rfl,_,rfl,.cY (aq.ev aG hx)⟩))
def A6 (P:SI)(src dst:TypeId):Option (Option TY):=(P.underlying src).bind λ_=>match P.underlying dst with
 |some (.int k)=>some (some k)
 |_=>none
theorem aow{src dst:TypeId}{x:Ti}{k j:TY}{n:Int}(ho:o.op=.convert src dst x)(ht:A6 P src dst=some (some k))(hx:s.ev x=some (.val (.int j n))):dz lv P r o s (.val (.int k (k.wrap n))):=
 iQ (λE V a hc aG=>by
  have hd:=aq.ev aG hx;generalize he:a.eval x=v at hd;cases hd;unfold A6 at ht;obtain⟨d,h1,h2⟩:=Te.1 ht;split at h2
  ·rename_i k' hu;cases h2;unfold execOp;rw[ho];simp only[he];refine aA ?_;unfold convert;refine dZ h1 (dZ hu ?_);dsimp only;exact au (au ⟨rfl,_,rfl,.val _⟩)
  ·cases h2)
end
open Go.Conc
def Env.add (E:Env)(r:Nat)(I:cm):Env:={E with I:=I,n:=E.n+1,blk:=λk=>if k=E.n then r else E.blk k}
theorem Env.qq(E:Env)(r:Nat){I:cm}(hI:∀b o v,E.I b o=some v->I b o=some v):E.Le (E.add r I):=
 ⟨hI,Y0 _,λk hk=>by simp[Env.add,VY hk],λ_ _=>SQ _,λ_ _ _ _=>rfl,rfl,rfl⟩
def View.eD (V:View)(b:Nat)(cs:Array SO)(p:Nat->Bool):View:={V with ah:=λb' o=>if b'=b/\p o=true then cs[o]?else V.ah b' o}
theorem xo{V:View}{b:Nat}{cs:Array SO}{el:TypeId}{f:Nat×Nat}{p:Nat->Bool}(ho:V.own b=some (.cells cs el f))(hp:∀o,p o=true->V.ah b o=none):dR V (V.eD b cs p)where
 sat w h:=⟨λb' o v e=>by
   simp only[View.eD]at e;split at e
   ·rename_i hb;obtain⟨rfl,_⟩:=hb;have:=h.own _ _ ho;simpa[UA,this]using e
   ·exact h.ah _ _ _ e,λb' x e=>h.own b' x e⟩
 own b' e:=e
 ah b' o v e:=by
  have hn:¬(b'=b/\p o=true):=λhb=>by obtain⟨rfl,h2⟩:=hb;rw[hp o h2]at e;cases e
  simp only[View.eD,if_neg hn];exact e
 kx b' o v e:=by
  simp only[View.eD]at e;split at e
  ·rename_i hb;obtain⟨rfl,_⟩:=hb;exact .inr (by rw[ho];simp)
  ·exact .inl e
 deaf:=rfl
 role:=rfl
 chan c x _ h:=h
def View.j5 (V:View)(r:Nat)(cs:Array SO):View:={V with ah:=λb o=>if b=r then cs[o]?else V.ah b o}
theorem ajc{V:View}{r:Nat}{cs:Array SO}{el:TypeId}{f:Nat×Nat}(hf:V.fresh r)(hc:V.role.chan≠some r):dR (V.upd r (.cells cs el f)) (V.j5 r cs)where
 sat w h:=⟨λb o v e=>by
   simp only[View.j5]at e;split at e
   ·rename_i hb;subst hb;have:=h.own b (.cells cs el f) (by simp[View.upd]);simpa[UA,this]using e
   ·exact h.ah b o v e,λb x e=>by
   have hb:b≠r:=λhb=>(by subst hb;rw[show (V.j5 b cs).own b=V.own b from rfl,hf.1]at e;cases e);have e':V.own b=some x:=e;exact h.own b x (by simpa[View.upd,hb]using e')⟩
 own b e:=by
  simp only[View.upd]at e;split at e
  ·cases e
  ·exact e
 ah b o v e:=by
  have e':V.ah b o=some v:=e;have hb:b≠r:=λhb=>by subst hb;rw[hf.2 o]at e';cases e'
  simpa[View.j5,hb]using e'
 kx b o v e:=by
  simp only[View.j5]at e;split at e
  ·rename_i hb;exact .inr (by simp[View.upd,hb])
  ·exact .inl e
 deaf:=rfl
 role:=rfl
 chan c x hcx h:=by
  have hb:c≠r:=λhb=>by subst hb;exact hc hcx
  have h':V.own c=some x:=by simpa[View.upd,hb]using h
  exact h'
theorem Conc.ai1{E:Env}{V:View}{H:List aa}(hc:Conc E V H){r:Nat}(hf:V.own r=none):V.role.chan≠some r/\V.role.group≠some r:=
 ⟨λe=>(hc.chan r e).1 hf,λe=>(hc.group r e).1 hf⟩
theorem Conc.add{E:Env}{V:View}{H:List aa}(hc:Conc E V H){r:Nat}(hf:V.fresh r)(y:Obj){x:aa}(hx:fG (E.add r V.ah) (V.upd r y) E.n x)(hb:∀b,bL (E.add r V.ah) E.n x=some b->b=r):Conc (E.add r V.ah) (V.upd r y) (H++[x]):=by
 refine hc.iD (E':=E.add r V.ah) H.length x (E.qq r (λb o v h=>by rw[<- hc.I];exact h)) rfl (by simp[Env.add,hc.n]) C8 rfl (λ_ _ _=>rfl) (λb z _ hz=>⟨?_,λ_=>rfl⟩) (by rw[<- hc.n];exact hx) (λb h=> .inr ?_)
 ·have:b≠r:=λe=>by rw[e,hf.1]at hz;cases hz
  simpa[View.upd,this]using hz
 ·rw[<- hc.n]at h;rw[hb b h];exact hf.1
theorem Env.dK(E:Env)(r:Nat)(I:cm):(E.add r I).blk E.n=r:=by simp[Env.add]
theorem Pu{E:Env}{H:List aa}(hn:E.n=H.length)(r:Nat)(I:cm):aq (E.add r I) (.op H.length 0) (.pointer (some ⟨r,0,none⟩)):=by
 have:=aq.op (E:=E.add r I) (id:=H.length) (off:=0) (by show _<E.n+1;rw[hn];omega);have e:(E.add r I).blk H.length=r:=by rw[<- hn];exact E.dK r I
 rwa [e]at this
def AV.parts:AV->Option (List AV)
 |.agg l=>some l
 |.aN _=>none
 |.val (.agg _)=>none
 |a=>some [a]
theorem aq.parts{E:Env}{a:AV}{v:SO}{l:List AV}(h:aq E a v)(hp:a.parts=some l):cF E l v.cells:=by
 have one:∀a v,aq E a v->v.cells=#[v]->cF E [a] v.cells:=λa v h e=>by
  rw[e];refine⟨rfl,λi x hx=> ?_⟩;have hi:i=0:=by have:=(SL.1 hx).1;simpa using this
  subst hi;simp at hx;subst hx;simpa using h
 cases h with
 |val=>cases v<;>first|(cases hp;exact one _ _ (.val _) rfl)|cases hp
 |agg hs h=>cases hp;exact⟨hs,h⟩
 |aN hs h=>cases hp
 |sl b o cap f hc he h1 h2=>cases hp;exact one _ _ (.sl b o cap f hc he h1 h2) rfl
 |nil he=>cases hp;exact one _ _ (.nil he) rfl
 |bh hi dP=>cases hp;exact one _ _ (.bh hi dP) rfl
 |rp b o f h1 h2=>cases hp;exact one _ _ (.rp b o f h1 h2) rfl
 |op hi=>cases hp;exact one _ _ (.op hi) rfl
 |fn dE fN h1 h2=>cases hp;exact one _ _ (.fn dE fN h1 h2) rfl
 |cY h=>cases hp;exact one _ _ (.cY h) rfl
 |mp hi=>cases hp;exact one _ _ (.mp hi) rfl
def eE (P:SI)(t:TypeId):Option SO:=(P.info? t).bind (·.zero)
def lO (z:SO):List AV:=z.cells.toList.map AV.pt
theorem IZ(E:Env)(z:SO):cF E (lO z) z.cells:=by
 refine⟨by simp[lO],λi a h=> ?_⟩;unfold lO at h;rw[Tm]at h;obtain⟨x,hx,rfl⟩:=Tp.1 h;have:z.cells[i]?=some x:=by simpa using hx
 rw[SH,this];exact IU E x
section
variable {P:SI}{V:View}{α:Type}{K:α->View->Prop}{Kp:SO->View->Prop}
theorem Hq{t:TypeId}{z:SO}{k:SO->Sem α}(h:eE P t=some z)(hk:aP P V (k z) K Kp):aP P V (zeroValue t>>=k) K Kp:=by
 unfold eE at h;obtain⟨i,h1,h2⟩:=Te.1 h;refine aA ?_;unfold zeroValue;refine yz h1 ?_;rw[h2];exact au hk
end
section
variable {lv:Bool}{P:SI}{r:Option Nat}{o:Tu}{s:AS}{next:AS->Prop}{bad:AV->AS->Prop}
theorem acO{t:TypeId}{l:List AV}(h:∀(E:Env)(V:View)(a:Act),Conc E V s.H->bZ E s.T a.tmps->∃cs,cF E l cs/\aP P V (execOp a.eval o) (λnx V'=>∃rr,V.fresh rr/\V'=V.upd rr (.cells cs t)/\nx=.value (.pointer (some ⟨rr,0,none⟩))) (λ_ _=>False))
  (hn:next ((⟨s.T,s.H++[.cells l t]⟩:AS).put o.dst (.op s.H.length 0))):Step lv P r o s next bad:=by
 intro E V a N Q hc ht hd bx h1 _;obtain⟨cs,oT,qh⟩:=h E V a hc ht;refine⟨bx,qh.mono (λnx V' hx=> ?_) (λ_ _ hx=>hx.elim)⟩;obtain⟨rr,hf,rfl,rfl⟩:=hx;have hle:E.Le (E.add rr V.ah):=E.qq rr (λb o v h=>by rw[<- hc.I];exact h);have aY:Conc (E.add rr V.ah) (V.upd rr (.cells cs t)) (s.H++[.cells l t]):=by
  refine hc.add hf _ ⟨⟨cs,?_,oT.mono hle⟩,λo=> ?_⟩ (λb e=> ?_)
  ·rw[Env.dK];simp[View.upd]
  ·rw[Env.dK];exact hf.2 o
  ·simp only[bL,Env.dK,Tj]at e;exact e.symm
 exact h1 _ _ (a.put o.dst (.pointer (some ⟨rr,0,none⟩))) ((⟨s.T,s.H++[.cells l t]⟩:AS).put o.dst (.op s.H.length 0)) ⟨hle,dU _ _ _,put_defers _ _ _,rfl,rfl⟩ (by rw[eZ];exact aY)
  (bZ.gR (s:=⟨s.T,s.H++[.cells l t]⟩) (ht.mono hle) hd (Pu hc.n rr V.ah)) hn
theorem acK{t:TypeId}{x:Ti}{av:AV}{l:List AV}(ho:o.op=.box t x)(hx:s.ev x=some av)(hl:av.parts=some l)(hn:next ((⟨s.T,s.H++[.cells l t]⟩:AS).put o.dst (.op s.H.length 0))):Step lv P r o s next bad:=
 acO (λE V a hc ht=>⟨(a.eval x).cells,(aq.ev ht hx).parts hl,by
  unfold execOp;rw[ho];dsimp only;refine aA ?_;unfold Instr.box newVar newRow;refine aA (aA (aA (oA λrr hf=>cE (au (au (au (au ⟨rr,hf,rfl,rfl⟩)))))))⟩) hn
theorem acH{t:TypeId}{z:SO}(ho:o.op=.alloc t)(hz:eE P t=some z)(hn:next ((⟨s.T,s.H++[.cells (lO z) t]⟩:AS).put o.dst (.op s.H.length 0))):Step lv P r o s next bad:=
 acO (λE V a hc ht=>⟨z.cells,IZ E z,by
  unfold execOp;rw[ho];dsimp only;refine aA ?_;unfold Instr.alloc;refine Hq hz ?_;unfold newVar newRow;refine aA (aA (aA (oA λrr hf=>cE (au (au (au (au ⟨rr,hf,rfl,rfl⟩)))))))⟩) hn
theorem aqH{t:TypeId}(ho:o.op=.makeMap t none)(hn:next ((⟨s.T,s.H++[.obj (.map #[] 0)]⟩:AS).put o.dst (.mp s.H.length))):Step lv P r o s next bad:=by
 intro E V a N Q hc ht hd bx h1 _;refine⟨bx,?_⟩;unfold execOp;rw[ho];dsimp only;refine aA ?_;unfold Instr.makeMap;refine aA (oA λrr hf=>cE (au (au ?_)));have hle:E.Le (E.add rr V.ah):=E.qq rr (λb o v h=>by rw[<- hc.I];exact h);have aY:Conc (E.add rr V.ah) (V.upd rr (.map #[] 0)) (s.H++[.obj (.map #[] 0)]):=by
  refine hc.add hf _ ⟨?_,rfl,rfl,λo=> ?_⟩ (λb e=> ?_)
  ·rw[Env.dK];simp[View.upd]
  ·rw[Env.dK];exact hf.2 o
  ·simp only[bL,Env.dK,Tj]at e;exact e.symm
 have bp:aq (E.add rr V.ah) (.mp s.H.length) (.map (some rr)):=by
  have:=aq.mp (E:=E.add rr V.ah) (id:=s.H.length) (by show _<E.n+1;rw[hc.n];omega);have e:(E.add rr V.ah).blk s.H.length=rr:=by rw[<- hc.n];exact E.dK rr _
  rwa [e]at this
 exact h1 _ _ (a.put o.dst (.map (some rr))) ((⟨s.T,s.H++[.obj (.map #[] 0)]⟩:AS).put o.dst (.mp s.H.length)) ⟨hle,dU _ _ _,put_defers _ _ _,rfl,rfl⟩ (by rw[eZ];exact aY)
  (bZ.gR (s:=⟨s.T,s.H++[.obj (.map #[] 0)]⟩) (ht.mono hle) hd bp) hn
end
def storeAt:Array SO->Nat->List SO->Array SO
 |cs,_,[]=>cs
 |cs,o,v::vs=>storeAt (cs.setIfInBounds o v) (o+1) vs
theorem yB:∀(vs:List SO)(cs:Array SO)(o:Nat),(storeAt cs o vs).size=cs.size
 |[],_,_=>rfl
 |v::vs,cs,o=>by rw[storeAt,yB];simp
theorem DK:∀(vs:List SO)(cs:Array SO)(o k:Nat),o+vs.length<=cs.size->(storeAt cs o vs).getD k undef=if o<=k/\k<o+vs.length then vs.getD (k-o) undef else cs.getD k undef
 |[],cs,o,k,_=>by
  have:¬(o<=k/\k<o+([]:List SO).length):=by intro h;simp only[UR]at h;omega
  rw[if_neg this];rfl
 |v::vs,cs,o,k,h=>by
  simp only[Uk]at h;rw[storeAt,DK vs _ (o+1) k (by simp;omega)];by_cases h1:k=o
  ·subst h1;rw[if_neg (by omega),if_pos (by simp)];simp[SH,S_ (show k<cs.size by omega)]
  ·by_cases h2:o+1<=k/\k<o+1+vs.length
   ·rw[if_pos h2,if_pos (by simp only[Uk];omega)];have:k-o=(k-(o+1))+1:=(by omega);rw[this];simp[SE]
   ·rw[if_neg h2,if_neg (by simp only[Uk];omega)];simp[SH,SU (Ne.symm h1)]
theorem arP(V:View)(b:Nat)(x y:Obj):(V.upd b x).upd b y=V.upd b y:=by
 unfold View.upd;congr 1;funext k;dsimp only;split<;>rfl
theorem arQ{V:View}{b:Nat}{x:Obj}(h:V.own b=some x):V.upd b x=V:=by
 unfold View.upd;have:(λk=>if k=b then some x else V.own k)=V.own:=by
  funext k;split
  ·rename_i e;subst e;rw[h]
  ·rfl
 rw[this]
section
variable {P:SI}{K:Unit->View->Prop}{Kp:SO->View->Prop}{b off:Nat}{el:TypeId}
theorem AN:∀(vs:List SO)(i:Nat)(V:View)(cs:Array SO),V.role.group≠some b->V.role.chan≠some b->V.own b=some (.cells cs el (0,0))->(∀o,off+i<=o->o<off+i+vs.length->V.ah b o=none)->off+i+vs.length<=cs.size->(∀v∈vs,v.one=true)->
  K () (V.upd b (.cells (storeAt cs (off+i) vs) el (0,0)))->aP P V (storeCells ⟨b,off,none⟩ vs i) K Kp
 |[],i,V,cs,hg,hc,ho,hi,hl,hv,h=>by
  unfold storeCells;rw[show storeAt cs (off+i) []=cs from rfl,arQ ho]at h;exact au h
 |v::vs,i,V,cs,hg,hc,ho,hi,hl,hv,h=>by
  unfold storeCells;rw[add_plain];simp only[Uk]at hl hi;refine aA (ap0 ho (by omega) (hi _ (by omega) (by omega)) (hv v (TB ..)) (by omega) (.inl hg) hc (cE ?_));refine AN vs (i+1) (V.upd b (.cells (cs.setIfInBounds (off+i) v) el (0,0))) (cs.setIfInBounds (off+i) v) hg hc (by simp[View.upd]) (λo h1 h2=>hi o (by omega) (by omega)) (by simp;omega) (λx hx=>hv x (Tb _ hx)) ?_;rw[arP];exact h
end
theorem Conc.set{E:Env}{V:View}{H:List aa}(hc:Conc E V H){id:Nat}{l l':List AV}{el:TypeId}(hk:H[id]?=some (.cells l el)){eF:Array SO}(hd:cF E l' eF):Conc E (V.upd (E.blk id) (.cells eF el (0,0))) (H.set id (.cells l' el)):=by
 obtain⟨⟨cs,h1,_⟩,h3⟩:=hc.obj id _ hk;refine hc.iD id (.cells l' el) (Env.Le.refl E) hc.I (by simpa using hc.n) kX rfl (λ_ _ _=>rfl) (λb y hb hy=>⟨?_,λ_=>rfl⟩) ⟨⟨eF,by simp[View.upd],hd⟩,h3⟩ (λb h=> .inl ⟨_,hk,h⟩);have:b≠E.blk id:=λe=>hb _ hk (by rw[e];rfl);simpa[View.upd,this]using hy
theorem acR:∀(vs:List SO)(cs:Array SO)(off o:Nat),o<off->(storeAt cs off vs)[o]?=cs[o]?
 |[],_,_,_,_=>rfl
 |v::vs,cs,off,o,h=>by
  rw[storeAt,acR vs _ (off+1) o (by omega),SU (by omega)]
theorem Conc.pA{E:Env}{V:View}{H:List aa}(hc:Conc E V H){id p:Nat}{l l':List AV}{el:TypeId}(hk:H[id]?=some (.part p l el)){cs eF:Array SO}(h1:V.own (E.blk id)=some (.cells cs el (0,0)))(hd:jO E l' eF)(hs:∀o,o<p->eF[o]?=cs[o]?):Conc E (V.upd (E.blk id) (.cells eF el (0,0))) (H.set id (.part p l' el)):=by
 obtain⟨⟨zg,q1,_,q2⟩,h3⟩:=hc.obj id _ hk;rw[h1]at q1;cases q1;refine hc.iD id (.part p l' el) (Env.Le.refl E) hc.I (by simpa using hc.n) kX rfl (λ_ _ _=>rfl) (λb y hb hy=>⟨?_,λ_=>rfl⟩) ⟨⟨eF,by simp[View.upd],hd,λo ho=>(q2 o ho).trans (hs o ho).symm⟩,h3⟩ (λb h=> .inl ⟨_,hk,h⟩);have:b≠E.blk id:=λe=>hb _ hk (by rw[e];rfl);simpa[View.upd,this]using hy
theorem Conc.aco{E:Env}{V:View}{H:List aa}(hc:Conc E V H){id sz:Nat}{l l':List AV}{el:TypeId}(hk:H[id]?=some (.own sz l el)){eF:Array SO}(hd:jO E l' eF)(hz:eF.size=(E.room id 0).2* sz):Conc E (V.upd (E.blk id) (.cells eF el (0,0))) (H.set id (.own sz l' el)):=by
 obtain⟨⟨cs,h1,_⟩,h3⟩:=hc.obj id _ hk;refine hc.iD id (.own sz l' el) (Env.Le.refl E) hc.I (by simpa using hc.n) kX rfl (λ_ _ _=>rfl) (λb y hb hy=>⟨?_,λ_=>rfl⟩) ⟨⟨eF,by simp[View.upd],hd,hz⟩,h3⟩ (λb h=> .inl ⟨_,hk,h⟩);have:b≠E.blk id:=λe=>hb _ hk (by rw[e];rfl);simpa[View.upd,this]using hy
theorem Conc.setObj{E:Env}{V:View}{H:List aa}(hc:Conc E V H){id:Nat}{x y:Obj}(hk:H[id]?=some (.obj x))(h1:y.uL=false)(h2:y.isChan=false):Conc E (V.upd (E.blk id) y) (H.set id (.obj y)):=by
 obtain⟨p1,p2,p3,p4⟩:=hc.obj id _ hk;refine hc.iD id (.obj y) (Env.Le.refl E) hc.I (by simpa using hc.n) kX rfl (λ_ _ _=>rfl) (λb z hb hz=>⟨?_,λ_=>rfl⟩) ⟨by simp[View.upd],h1,h2,p4⟩ (λb h=> .inl ⟨_,hk,h⟩);have:b≠E.blk id:=λe=>hb _ hk (by rw[e];rfl);simpa[View.upd,this]using hz
theorem amd{E:Env}{a:AV}{v:SO}(h:aq E a v)(hl:a.leaf=true):v.one=true:=by
 cases h with
 |val x=>exact hl
 |agg _ _=>cases hl
 |aN _ _=>cases hl
 |_=>rfl
def iB (l:List AV)(off:Nat)(lp:List AV):List AV:=l.take off++lp++l.drop (off+lp.length)
theorem IX{E:Env}{l lp:List AV}{cs vs:Array SO}{off:Nat}(h:cF E l cs)(k:cF E lp vs)(hl:off+lp.length<=l.length):cF E (iB l off lp) (storeAt cs off vs.toList):=by
 have hv:vs.toList.length=lp.length:=by simpa using k.1
 refine⟨by rw[yB,h.1];simp[iB];omega,λi a e=> ?_⟩;rw[DK _ _ _ _ (by rw[h.1,hv];exact hl),hv];unfold iB at e;by_cases h1:i<off
 ·rw[if_neg (by omega)];rw[SC,SX (by simp;omega),Uf,if_pos h1]at e;exact h.2 i a e
 ·by_cases h2:i<off+lp.length
  ·rw[if_pos ⟨by omega,h2⟩];rw[SX (by simp;omega),S9 (by simp;omega)]at e;have e':lp[i-off]?=some a:=by
    have:min off l.length=off:=(by omega);simpa[this]using e
   have:=k.2 _ a e';simpa[SH,SE]using this
  ·rw[if_neg (by omega)];rw[S9 (by simp;omega),Uo]at e;have e':l[i]?=some a:=by
    have h3:off+lp.length+(i-(l.take off++lp).length)=i:=(by simp;omega);rw[h3]at e;exact e
   exact h.2 i a e'
theorem Pz{E:Env}{l lp:List AV}{cs vs:Array SO}{off:Nat}(h:jO E l cs)(k:cF E lp vs)(hl:off+lp.length<=l.length):jO E (iB l off lp) (storeAt cs off vs.toList):=by
 have hv:vs.toList.length=lp.length:=by simpa using k.1
 refine⟨by rw[yB];have:=h.1;simp[iB];omega,λi a e=> ?_⟩;rw[DK _ _ _ _ (by have:=h.1;rw[hv];omega),hv];unfold iB at e;by_cases h1:i<off
 ·rw[if_neg (by omega)];rw[SC,SX (by simp;omega),Uf,if_pos h1]at e;exact h.2 i a e
 ·by_cases h2:i<off+lp.length
  ·rw[if_pos ⟨by omega,h2⟩];rw[SX (by simp;omega),S9 (by simp;omega)]at e;have e':lp[i-off]?=some a:=by
    have:min off l.length=off:=(by omega);simpa[this]using e
   have:=k.2 _ a e';simpa[SH,SE]using this
  ·rw[if_neg (by omega)];rw[S9 (by simp;omega),Uo]at e;have e':l[i]?=some a:=by
    have h3:off+lp.length+(i-(l.take off++lp).length)=i:=(by simp;omega);rw[h3]at e;exact e
   exact h.2 i a e'
theorem BP{E:Env}{lp:List AV}{vs:Array SO}(h:cF E lp vs)(nm:∀a∈lp,a.leaf=true):∀v∈vs.toList,v.one=true:=by
 intro v hv;obtain⟨j,hj⟩:=UQ.1 hv;have eX:j<lp.length:=by have:=(SL.1 hj).1;have:=h.1;simp at*;omega
 have:=h.2 j lp[j] (SY eX);have iw:vs[j]?=some v:=by simpa using hj
 rw[SH,iw]at this;exact amd this (nm _ (Wr eX))
section
variable {lv:Bool}{P:SI}{r:Option Nat}{o:Tu}{s:AS}{next:AS->Prop}{bad:AV->AS->Prop}
theorem acP{t:TypeId}{x y:Ti}{id off n:Nat}{l lp:List AV}{el:TypeId}{g:Bool}{av:AV}(ho:o.op=.store t x y)(ht:Ty P t=some (n,g))(hx:s.ev x=some (.op id off))(hk:s.H[id]?=some (.cells l el))(hy:s.ev y=some av)(hp:av.parts=some lp)(iN:lp.length=n)(hl:off+lp.length<=l.length)
  (nm:∀a∈lp,a.leaf=true) (hn:next ((⟨s.T,s.H.set id (.cells (iB l off lp) el)⟩:AS).put o.dst (.val undef))):Step lv P r o s next bad:=by
 intro E V a N Q hc aG hd bx h1 _;obtain⟨i,d,q1,q2,rfl,q4⟩:=Ty.out ht;have dt:=aq.ev aG hx;generalize j3:a.eval x=vx at dt;cases dt with
 |op bR=>
  have bp:=(aq.ev aG hy).parts hp;obtain⟨⟨cs,p1,p2⟩,p3⟩:=hc.obj id _ hk;obtain⟨g1,g2⟩:=hc.ja hk rfl;refine⟨bx,?_⟩;unfold execOp;rw[ho];simp only[j3];refine aA ?_;unfold Yj Va;refine aA (au ?_);unfold storeVar;refine jL q1 ?_;rw[if_neg (by rw[bp.1,iN];simp)];refine AN _ 0 V cs g1 g2 p1 (λo _ _=>p3 o) (by have:=bp.1;have:=p2.1;simp;omega) (BP bp nm) ?_;rw[UD];exact au (h1 E _ (a.put o.dst undef) _ ⟨Env.Le.refl E,dU _ _ _,put_defers _ _ _,rfl,rfl⟩ (by rw[eZ];exact hc.set hk (IX p2 bp hl))
   (bZ.gR (s:=⟨s.T,s.H.set id (.cells (iB l off lp) el)⟩) aG hd (.val undef)) hn)
theorem aqN{t:TypeId}{x y:Ti}{id off n p:Nat}{l lp:List AV}{el:TypeId}{g:Bool}{av:AV}(ho:o.op=.store t x y)(ht:Ty P t=some (n,g))(hx:s.ev x=some (.op id off))(hk:s.H[id]?=some (.part p l el))(hpo:p<=off)(hy:s.ev y=some av)(hp:av.parts=some lp)(iN:lp.length=n)(hl:off+lp.length<=l.length)
  (nm:∀a∈lp,a.leaf=true) (hn:next ((⟨s.T,s.H.set id (.part p (iB l off lp) el)⟩:AS).put o.dst (.val undef))):Step lv P r o s next bad:=by
 intro E V a N Q hc aG hd bx h1 _;obtain⟨i,d,q1,q2,rfl,q4⟩:=Ty.out ht;have dt:=aq.ev aG hx;generalize j3:a.eval x=vx at dt;cases dt with
 |op bR=>
  have bp:=(aq.ev aG hy).parts hp;obtain⟨⟨cs,p1,p2,p4⟩,p3⟩:=hc.obj id _ hk;obtain⟨g1,g2⟩:=hc.ja hk rfl;refine⟨bx,?_⟩;unfold execOp;rw[ho];simp only[j3];refine aA ?_;unfold Yj Va;refine aA (au ?_);unfold storeVar;refine jL q1 ?_;rw[if_neg (by rw[bp.1,iN];simp)];refine AN _ 0 V cs g1 g2 p1 (λo _ _=>p3 o (by omega)) (by have:=bp.1;have:=p2.1;simp;omega) (BP bp nm) ?_;rw[UD];exact au (h1 E _ (a.put o.dst undef) _ ⟨Env.Le.refl E,dU _ _ _,put_defers _ _ _,rfl,rfl⟩ (by rw[eZ];exact hc.pA hk p1 (Pz p2 bp hl) λo ho=>acR _ _ _ _ (by omega))
   (bZ.gR (s:=⟨s.T,s.H.set id (.part p (iB l off lp) el)⟩) aG hd (.val undef)) hn)
theorem acQ{t:TypeId}{x y:Ti}{id off n p:Nat}{l lp:List AV}{el:TypeId}{g:Bool}{av:AV}(ho:o.op=.store t x y)(ht:Ty P t=some (n,g))(hx:s.ev x=some (.op id off))(hk:s.H[id]?=some (.own p l el))(hy:s.ev y=some av)(hp:av.parts=some lp)(iN:lp.length=n)(hl:off+lp.length<=l.length)
  (nm:∀a∈lp,a.leaf=true) (hn:next ((⟨s.T,s.H.set id (.own p (iB l off lp) el)⟩:AS).put o.dst (.val undef))):Step lv P r o s next bad:=by
 intro E V a N Q hc aG hd bx h1 _;obtain⟨i,d,q1,q2,rfl,q4⟩:=Ty.out ht;have dt:=aq.ev aG hx;generalize j3:a.eval x=vx at dt;cases dt with
 |op bR=>
  have bp:=(aq.ev aG hy).parts hp;obtain⟨⟨cs,p1,p2,p4⟩,p3⟩:=hc.obj id _ hk;obtain⟨g1,g2⟩:=hc.ja hk rfl;refine⟨bx,?_⟩;unfold execOp;rw[ho];simp only[j3];refine aA ?_;unfold Yj Va;refine aA (au ?_);unfold storeVar;refine jL q1 ?_;rw[if_neg (by rw[bp.1,iN];simp)];refine AN _ 0 V cs g1 g2 p1 (λo _ _=>p3 o) (by have:=bp.1;have:=p2.1;simp;omega) (BP bp nm) ?_;rw[UD];exact au (h1 E _ (a.put o.dst undef) _ ⟨Env.Le.refl E,dU _ _ _,put_defers _ _ _,rfl,rfl⟩ (by rw[eZ];exact hc.aco hk (Pz p2 bp hl) (by rw[yB];exact p4))
   (bZ.gR (s:=⟨s.T,s.H.set id (.own p (iB l off lp) el)⟩) aG hd (.val undef)) hn)
theorem Conc.j5{E:Env}{V:View}{H:List aa}(hc:Conc E V H){r:Nat}(hf:V.fresh r)(cs:Array SO):E.Le {E with I:=(V.j5 r cs).ah}/\Conc {E with I:=(V.j5 r cs).ah} (V.j5 r cs) H:=by
 have hle:E.Le {E with I:=(V.j5 r cs).ah}:=⟨λb o v h=>by
  rw[hc.I]at h;have hb:b≠r:=λhb=>by subst hb;rw[hf.2 o]at h;cases h
  simpa[View.j5,hb]using h,SQ _,λ_ _=>rfl,λ_ _=>SQ _,λ_ _ _ _=>rfl,rfl,rfl⟩
 have hlt:∀(k:Nat) y,H[k]?=some y->k<E.n:=λk y h=>by rw[hc.n];exact(SL.1 h).1
 refine⟨hle,rfl,hc.n,λk x h=>(hc.obj k x h).mono hle (hlt k x h) rfl (λb y _ hb=>hb) (λb hb o=> ?_),hc.inj,λg hg=> ?_,λg hg=> ?_,hc.top,λb y hg=> ?_⟩
 ·obtain⟨y,hy⟩:=(hc.obj k x h).BG hb;have aI:b≠r:=λe=>by subst e;rw[hf.1]at hy;cases hy
  simp[View.j5,aI]
 ·obtain⟨h0,h1,h2⟩:=hc.group g hg;have aI:g≠r:=λe=>by subst e;exact h0 hf.1
  exact⟨h0,λo=>by simp[View.j5,aI,h1 o],h2⟩
 ·obtain⟨h0,h1,h2⟩:=hc.chan g hg;have aI:g≠r:=λe=>by subst e;exact h0 hf.1
  exact⟨h0,λo=>by simp[View.j5,aI,h1 o],h2⟩
 ·obtain⟨h0,h1,h2⟩:=hc.fr b y hg;have aI:b≠r:=λe=>by subst e;rw[hf.1]at h0;cases h0
  exact⟨h0,λo=>by simp[View.j5,aI,h1 o],h2⟩
theorem aq.aoj{E:Env}{V:View}{H:List aa}(hc:Conc E V H){r:Nat}(hf:V.fresh r){cs:Array SO}{l:List AV}(h:cF E l cs){n cap:Nat}(dP:n<=cap){e:End}(he:pC {E with I:=(V.j5 r cs).ah} e (some ⟨r,0,none⟩) n cap):aq {E with I:=(V.j5 r cs).ah} (.sl n l e) (.slice (some ⟨r,0,none⟩) n cap):=by
 refine .sl r 0 cap (λi=>cs.getD i undef) dP he (λi hi=> ?_) λi x hx=>(h.2 i x hx).mono (hc.j5 hf cs).1;have hlt:i<cs.size:=by rw[h.1];exact hi
 simp[View.j5,SH,SJ hlt]
def nY (place:Nat->Option (Nat×Nat))(cells:List AV):List (Nat×AV)->Option (List AV)
 |[]=>some cells
 |(i,a)::rest=>match place i,a.parts with
  |some (off,size),some lp=>if lp.length≠size\/off+lp.length>cells.length then none else nY place (iB cells off lp) rest
  |_,_=>none
theorem Qo:∀(vs:List SO)(k off:Nat)(cs:Array SO),(vs.zipIdx k).foldl (λ(cs:Array SO) (x:SO×Nat)=>cs.setIfInBounds (off+x.2) x.1) cs=storeAt cs (off+k) vs
 |[],_,_,_=>rfl
 |v::vs,k,off,cs=>by
  rw[List.zipIdx_cons,UY,Qo vs (k+1) off];rfl
theorem BT{E:Env}{place:Nat->Option (Nat×Nat)}:∀{parts:List (Nat×AV)}{vs:List (Nat×SO)}{l l':List AV}{cs:Array SO},cF E l cs->parts.length=vs.length->(∀(j:Nat) p q,parts[j]?=some p->vs[j]?=some q->p.1=q.1/\aq E p.2 q.2)->
  nY place l parts=some l'->∃eF,Z7 place cs vs=some eF/\cF E l' eF
 |[],[],l,l',cs,h,_,_,e=>by cases e;exact⟨cs,rfl,h⟩
 |[],_::_,_,_,_,_,h,_,_=>by simp at h
 |_::_,[],_,_,_,_,h,_,_=>by simp at h
 |(i,a)::parts,(i',v)::vs,l,l',cs,h,hl,hp,e=>by
  obtain⟨e1,hd⟩:=hp 0 (i,a) (i',v) rfl rfl;have e1':i=i':=e1;subst e1';simp only[nY]at e;split at e
  ·rename_i off size lp da K_;split at e
   ·cases e
   ·rename_i hc;have bp:=aq.parts (v:=v) hd K_;have aW:v.cells.size=lp.length:=bp.1;have hle:off+lp.length<=l.length:=(by omega);obtain⟨eF,h1,h2⟩:=BT (IX h bp hle) (by simpa using hl) (λj p q x y=>hp (j+1) p q (by simpa using x) (by simpa using y)) e;refine⟨eF,?_,h2⟩;unfold Z7;rw[da];simp only;rw[if_neg (by rw[aW,h.1];simp;omega)];have:=Qo v.cells.toList 0 off cs;rw[UD]at this;rw[<- h1,<- this];congr 1;rw[<- Array.toList_zipIdx,Array.foldl_toList]
  ·cases e
def jR (s:AS):List (Nat×Ti)->Option (List (Nat×AV))
 |[]=>some []
 |(i,x)::l=>match s.ev x,jR s l with
  |some a,some aE=>some ((i,a)::aE)
  |_,_=>none
theorem EN{E:Env}{s:AS}{a:Act}(k:bZ E s.T a.tmps):∀{l:List (Nat×Ti)}{aE:List (Nat×AV)},jR s l=some aE->aE.length=(l.map λ(i,x)=>(i,a.eval x)).length/\∀(j:Nat) p q,aE[j]?=some p->(l.map λ(i,x)=>(i,a.eval x))[j]?=some q->p.1=q.1/\aq E p.2 q.2
 |[],aE,h=>by cases h;exact⟨rfl,by simp⟩
 |(i,x)::l,aE,h=>by
  simp only[jR]at h;split at h
  ·rename_i av lS h1 h2;cases h;obtain⟨mE,kW⟩:=EN k h2;refine⟨by simpa using mE,λj p q e1 e2=> ?_⟩;cases j with
   |zero=>simp at e1 e2;subst e1 e2;exact⟨rfl,aq.ev k h1⟩
   |succ j=>exact kW j p q (by simpa using e1) (by simpa using e2)
  ·cases h
def qP (P:SI)(t:TypeId):Option (TypeId×Nat×SO):=match P.underlying t with
 |some (.slice e)=>(P.info? e).bind λi=>i.zero.map λz=>(e,i.size,z)
 |_=>none
def gH (z:SO)(m:Nat):List AV:=(SV m).map λi=>AV.pt (z.cells[i % z.cells.size]!)
inductive iq where
 |fields (l:List (Nat×Nat))
 |elems (sz:Nat)
def iq.at:iq->Nat->Option (Nat×Nat)
 |.fields l,i=>l[i]?
 |.elems sz,i=>some (i* sz,sz)
def oF (P:SI)(t:TypeId):Option (iq×SO):=(eE P t).bind λz=>match P.underlying t with
 |some (.struct fs)=>(fs.toList.mapM λf=>(P.info? f.type).map λi=>(f.offset,i.size)).map λl=>(.fields l,z)
 |some (.array _ e)=>(P.info? e).map λi=>(.elems i.size,z)
 |_=>none
theorem ach{P:SI}{V:View}{Kp:SO->View->Prop}:∀(fs:List YU)(l:List (Nat×Nat)){K:List (Nat×Nat)->View->Prop},fs.mapM (λf=>(P.info? f.type).map λi=>(f.offset,i.size))=some l->
  K l V->aP P V (fs.mapM λf=>(do pure (f.offset,<- sizeOf f.type):Sem (Nat×Nat))) K Kp
 |[],l,K,h,hk=>by
  simp at h;subst h;rw[UC];exact au hk
 |f::fs,l,K,h,hk=>by
  simp only[Ua,Uj,TN,Te,Tj]at h;obtain⟨b,h1,bs,h2,rfl⟩:=h;obtain⟨i,hi,rfl⟩:=kH h1;rw[Ua];exact aA (jL hi (au (aA (ach fs bs h2 (au hk)))))
theorem aou{t:TypeId}{parts:Array (Nat×Ti)}{pl:iq}{z:SO}{aE:List (Nat×AV)}{l:List AV}(ho:o.op=.build t parts)(ht:oF P t=some (pl,z))(hp:jR s parts.toList=some aE)
  (hl:nY pl.at (lO z) aE=some l):dz lv P r o s (.agg l):=
 iQ (λE V a hc aG=>by
  unfold oF at ht;obtain⟨z',hz,ht⟩:=Te.1 ht;obtain⟨hlen,bp⟩:=EN aG hp;unfold execOp;rw[ho];dsimp only;refine aA ?_;unfold Instr.build;refine Hq hz ?_;split at ht
  ·rename_i fs hu;obtain⟨lp,h1,h2⟩:=kH ht;cases h2;obtain⟨eF,nj,um⟩:=BT (IZ E z) hlen bp hl;refine dZ hu ?_;dsimp only;have e:fs=fs.toList.toArray:=(by simp);rw[e,XZ];refine aA ?_;refine aA (ach fs.toList lp h1 ?_);refine au ?_;rw[VI];have e2:(λx=>lp.toArray[x]?)=iq.at (.fields lp):=(by funext x;simp[iq.at]);rw[e2,nj];exact au (au ⟨rfl,_,rfl,.agg um.1 um.2⟩)
  ·rename_i n e hu;obtain⟨i,h1,h2⟩:=kH ht;cases h2;obtain⟨eF,nj,um⟩:=BT (IZ E z) hlen bp hl;refine dZ hu ?_;dsimp only;refine jL h1 ?_;rw[VI];have e2:(λj=>some (j* i.size,i.size))=iq.at (.elems i.size):=rfl;rw[e2,nj];exact au (au ⟨rfl,_,rfl,.agg um.1 um.2⟩)
  ·cases ht)
theorem IY{E:Env}(z:SO)(m:Nat):cF E (gH z m) ((WG m).map (λx=>z.cells[x % z.cells.size]!)):=by
 refine⟨by simp[gH],λj x hx=> ?_⟩;unfold gH at hx;rw[Tm]at hx;obtain⟨k,hk,rfl⟩:=Tp.1 hx;have hj:j<m:=by have:=(SL.1 hk).1;simpa using this
 have hmj:k=j:=by rw[Xx hj]at hk;cases hk;rfl
 subst hmj;simp only[SH,WA,Array.getElem?_range,hj,if_true,UP,S7];exact IU E _
theorem aov{t e:TypeId}{len sz:Nat}{z:SO}{parts:Array (Nat×Ti)}{aE:List (Nat×AV)}{l:List AV}(ho:o.op=.buildSlice t len parts)(ht:qP P t=some (e,sz,z))(aW:len* sz<=2^24)(hp:jR s parts.toList=some aE)
  (hl:nY (iq.at (.elems sz)) (gH z (len* sz)) aE=some l):dz lv P r o s (.sl len l .exact):=by
 intro E V a N Q hc aG bx h1;unfold qP at ht;split at ht
 ·rename_i e' hu;obtain⟨i,hi,ht⟩:=Te.1 ht;obtain⟨z',hz,ht⟩:=Tp.1 ht;cases ht;refine⟨bx,?_⟩;unfold execOp;rw[ho];dsimp only;refine aA ?_;unfold Instr.buildSlice;refine dZ hu ?_;dsimp only;refine jL hi ?_;rw[if_neg (by omega)];obtain⟨hlen,bp⟩:=EN aG hp;obtain⟨eF,nj,um⟩:=BT (IY (E:=E) z (len* i.size)) hlen bp hl;have fin:∀(rr:Nat),V.fresh rr->aP P (V.upd rr (.cells eF e)) (pure (W3 (.slice (some ⟨rr,0,none⟩) len len))) (mr lv P r o a N Q) (λv V'=>Q (.panic [{v,recovered:=false}]) a V'):=λrr hf=>
   aP.ghost (ajc hf (hc.ai1 hf.1).1) (au (h1 _ _ _ (hc.j5 hf eF).1 rfl rfl (hc.j5 hf eF).2 (aq.aoj hc hf um (SQ _) rfl)))
  have e2:(λj=>some (j* i.size,i.size))=iq.at (.elems i.size):=rfl;rw[e2];by_cases h0:len* i.size=0
  ·rw[if_pos h0];refine aA (au ?_);rw[h0]at nj⊢;rw[show WG 0=#[]from rfl]at nj⊢;simp only[List.map_toArray,List.map_nil,VI]at nj⊢;rw[nj];unfold newRow;exact aA (aA (aA (oA λrr hf=>cE (au (au (au (fin rr hf)))))))
  ·rw[if_neg h0];refine aA (aA ?_);unfold typeInfo;refine aA (qx (cE ?_));rw[hi];refine au ?_;rw[hz];refine au (aA (au ?_));rw[VI,nj];unfold newRow;exact aA (aA (aA (oA λrr hf=>cE (au (au (au (fin rr hf)))))))
 ·cases ht
end
open Go.Conc
def aa8 (P:SI)(t:TypeId):Bool:=match P.underlying t with
 |some (.int _)=>false
 |some _=>true
 |none=>false
def jz (P:SI)(t t':TypeId):Option (TypeId×Nat×SO):=match P.underlying t with
 |some (.slice e)=>(P.info? e).bind λi=>i.zero.bind λz=>if z.cells.size=i.size/\i.bytes<=2^16/\i.bytes≠0/\aa8 P t'=true then some (e,i.size,z)else none
 |_=>none
theorem jz.out{P:SI}{t t' e:TypeId}{sz:Nat}{z:SO}(h:jz P t t'=some (e,sz,z)):∃i d,P.underlying t=some (.slice e)/\P.info? e=some i/\i.zero=some z/\i.size=sz/\z.cells.size=sz/\i.bytes<=2^16/\i.bytes≠0/\P.underlying t'=some d/\(∀k,d≠ .int k):=by
 unfold jz at h;split at h
 ·rename_i e' hu;obtain⟨i,h1,h⟩:=Te.1 h;obtain⟨z',h2,h⟩:=Te.1 h;split at h
  ·rename_i hc;obtain⟨c1,c2,c3,c4⟩:=hc;cases h;unfold aa8 at c4;split at c4
   ·cases c4
   ·rename_i d hd aI;exact⟨i,d,hu,h1,h2,rfl,c1,c2,c3,aI,λk e=>hd k e⟩
   ·cases c4
  ·cases h
 ·cases h
def AS.src (s:AS)(sz:Nat):AV->Option (Nat×List AV)
 |.sl m l _=>some (m,l.take (m* sz))
 |.bh id off m _=>match s.H[id]?with
  |some (.cells l _)|some (.part _ l _)|some (.own _ l _)=>some (m,(l.drop off).take (m* sz))
  |_=>none
 |_=>none
section
variable {P:SI}{E:Env}{V:View}{s:AS}{K:Array SO->View->Prop}{Kp:SO->View->Prop}
theorem EJ{l:List AV}{f:Nat->SO}{n:Nat}(hn:n<=l.length)(h:∀(i:Nat) x,l[i]?=some x->aq E x (f i)):cF E (l.take n) ((SV n).map f).toArray:=by
 have:=IW hn h;cases this with
 |agg h1 h2=>exact⟨h1,h2⟩
theorem Dy(hc:Conc E V s.H){av:AV}{v:SO}(hd:aq E av v){sz m k:Nat}{l:List AV}(h:s.src sz av=some (m,l))(hl:l.length=m* sz)(hk:k<=m)(hK:∀cs,cF E (l.take (k* sz)) cs->K cs V):aP P V (Vs sz k v) K Kp:=by
 have hks:k* sz<=m* sz:=Uh _ hk;cases hd with
 |sl b o cap f dP he h1 h2=>
  cases h;rename_i l _;simp only[T4]at hl;have e:(l.take (m* sz)).take (k* sz)=l.take (k* sz):=by rw[U3];congr 1;omega
  rw[e]at hK;unfold Vs;exact AL (f:=f) (λhp=>(hc.aak (h1 0 (by omega))).1) (λj hj=>by unfold View.get;rw[<- hc.I,h1 j (by omega)]) (hK _ (EJ (by omega) h2))
 |nil he=>
  cases h;have:k=0:=by omega
  subst this;have hK:=hK #[] ⟨by simp,by simp⟩;unfold Vs;split
  ·rw[ZZ];exact au hK
  ·exact au hK
  ·rename_i h;cases h
  ·rename_i a _ _ h1 h2 _;cases a with
   |none=>exact(h2 _ _ rfl).elim
   |some x=>exact(h1 _ _ _ rfl).elim
 |bh hi dP=>
  rename_i id off m' cap cap';simp only[AS.src]at h;cases hq:s.H[id]?with
  |none=>rw[hq]at h;cases h
  |some ob=>
   rw[hq]at h;cases ob with
   |cells l' el=>
    cases h;obtain⟨⟨cs,ho,hs,bp⟩,lw⟩:=hc.obj id _ hq;simp only[T4,Ul]at hl;have e:((l'.drop off).take (m* sz)).take (k* sz)=(l'.drop off).take (k* sz):=(by rw[U3];congr 1;omega);rw[e]at hK;unfold Vs;refine AL (f:=λi=>cs.getD (off+i) undef) (λ_=>(hc.ja hq rfl).1) (λj hj=> ?_) (hK _ (EJ (by simp only[Ul];omega) λi x hx=> ?_))
    ·unfold View.get;rw[lw,ho];have hlt:off+j<cs.size:=(by omega);simp only[SH,SJ hlt,S7]
    ·rw[Uo]at hx;exact bp _ _ hx
   |part p l' el=>
    cases h;obtain⟨⟨cs,ho,⟨hs,bp⟩,ny⟩,lw⟩:=hc.obj id _ hq;simp only[T4,Ul]at hl;have e:((l'.drop off).take (m* sz)).take (k* sz)=(l'.drop off).take (k* sz):=(by rw[U3];congr 1;omega);rw[e]at hK;unfold Vs;refine AL (f:=λi=>cs.getD (off+i) undef) (λ_=>(hc.ja hq rfl).1) (λj hj=> ?_) (hK _ (EJ (by simp only[Ul];omega) λi x hx=> ?_))
    ·have hlt:off+j<cs.size:=(by omega);unfold View.get;by_cases hp:off+j<p
     ·rw[ny _ hp];simp only[SH,SJ hlt,S7]
     ·rw[lw _ (by omega),ho];simp only[SH,SJ hlt,S7]
    ·rw[Uo]at hx;exact bp _ _ hx
   |own ep l' el=>
    cases h;obtain⟨⟨cs,ho,⟨hs,bp⟩,_⟩,lw⟩:=hc.obj id _ hq;simp only[T4,Ul]at hl;have e:((l'.drop off).take (m* sz)).take (k* sz)=(l'.drop off).take (k* sz):=(by rw[U3];congr 1;omega);rw[e]at hK;unfold Vs;refine AL (f:=λi=>cs.getD (off+i) undef) (λ_=>(hc.ja hq rfl).1) (λj hj=> ?_) (hK _ (EJ (by simp only[Ul];omega) λi x hx=> ?_))
    ·have hlt:off+j<cs.size:=(by omega);unfold View.get;rw[lw,ho];simp only[SH,SJ hlt,S7]
    ·rw[Uo]at hx;exact bp _ _ hx
   |_=>cases h
 |_=>cases h
theorem Hv{av:AV}{v:SO}(hd:aq E av v){sz m:Nat}{l:List AV}(h:s.src sz av=some (m,l)):atZ v=pure m:=by
 cases hd with
 |sl=>cases h;rfl
 |nil=>cases h;rfl
 |bh=>
  simp only[AS.src]at h;split at h
  ·cases h;rfl
  ·cases h;rfl
  ·cases h;rfl
  ·cases h
 |_=>cases h
end
theorem QC(uV:Nat):∀(r c:Nat),c<=2* uV+200->Zm uV r c<=2* uV+200
 |0,c,h=>h
 |r+1,c,h=>by
  unfold Zm;split
  ·exact h
  ·exact QC uV r _ (by omega)
theorem anf(uV cap:Nat)(h:cap<uV):WZ uV cap<=2* uV+200:=by
 unfold WZ;split
 ·omega
 ·split
  ·omega
  ·exact QC uV 4 cap (by omega)
theorem BO{E:Env}{l m:List AV}{x y:Array SO}(h:cF E l x)(k:cF E m y):cF E (l++m) (x++y):=by
 refine⟨by simp[h.1,k.1],λi a e=> ?_⟩;by_cases hi:i<l.length
 ·rw[SX hi]at e;have:=h.2 i a e;rw[SH,Ya (by rw[h.1];exact hi)];rwa [SH]at this
 ·rw[S9 (by omega)]at e;have:=k.2 _ a e;rw[SH,X7 (by rw[h.1];omega),h.1];rwa [SH]at this
theorem Nl{P:SI}{V:View}{α:Type}{K:α->View->Prop}{Kp:SO->View->Prop}{b:Bool}{k:Bool->Sem α}(hb:b=false)(h:aP P V (k false) K Kp):aP P V (pure b>>=k) K Kp:=by
 subst hb;exact aA (au h)
section
variable {P:SI}{E:Env}{V:View}{s:AS}{K:SO->View->Prop}{Kp:SO->View->Prop}
theorem acd{n:Nat}{K:Unit->View->Prop}(h:K () V):aP P V (askRoom n) K Kp:=by
 unfold askRoom;split
 ·exact apX (cE h)
 ·exact au h
theorem acb(hc:Conc E V s.H){t t' e:TypeId}{sz n m cap:Nat}{z:SO}{base:Option U5}{av:AV}{v:SO}{ax:AV}{l l':List AV}{ty:TypeId}(ht:jz P t t'=some (e,sz,z))(hd:aq E ax (.slice base n cap))(cx:s.src sz ax=some (n,l))(cu:aq E av v)(hs:s.src sz av=some (m,l'))
  (hl:l.length=n* sz) (eB:l'.length=m* sz) (hb:n+m<=2^30) (KF:cap<n+m)
  (hK:∀r cs cap',V.fresh r->cF E (l++l') (cs.extract 0 ((n+m)* sz))->n+m<=cap'->cs.size=cap'* sz->K (.slice (some ⟨r,0,none⟩) (n+m) cap') (V.upd r (.cells cs e))):aP P V (Vy #[t,t'] ty #[.slice base n cap,v]) K Kp:=by
 obtain⟨i,d,h1,h2,h3,h4,h5,h6,h7,h8,h9⟩:=jz.out ht;unfold Vy;simp only[Vf,Vq,UN];refine dZ h1 ?_;dsimp only;refine jL h2 ?_;rw[h4];refine dZ h8 ?_;refine Nl (by cases d<;>first|rfl|exact absurd rfl (h9 _)) ?_;simp only[TM,if_false,YD,if_true];rw[Hv cu hs];refine aA (au ?_);rw[if_neg (by omega)];refine yz h2 ?_;rw[if_neg (by intro hx;exact hx.2.elim (λx=>x.elim) h7)];refine yz h2 ?_;have dP:=anf (n+m) cap KF;have hmul:WZ (n+m) cap* i.bytes<=(2* 2^30+200)* 2^16:=ZK (by omega) h6;rw[if_neg (by omega)];refine aA (acf (λhf=>by cases hf) (λ_ t=>cE ?_));generalize iY:Zr (.appendCap (n+m) cap e) t=cap';have Fy:n+m<=cap':=by rw[<- iY];exact Nat.le_add_right _ _
 refine yz h2 (aA (acd (aA ?_)));refine Dy hc hd cx hl (SQ _) λzg Kk=> ?_;refine aA (Dy hc cu hs eB (SQ _) λjl kL=> ?_);refine Hq (z:=z) (by unfold eE;rw[h2];exact h3) ?_;rw[<- hl,TO]at Kk;rw[<- eB,TO]at kL;unfold newRow;refine aA (aA (oA λr hf=>cE (au (au ?_))));have alg:zg.size=n* sz:=by rw[Kk.1,hl]
 have Af:jl.size=m* sz:=by rw[kL.1,eB]
 have aW:(zg++jl).size=(n+m)* sz:=by rw[XB,alg,Af,Vd]
 refine hK r _ cap' hf ?_ Fy ?_
 ·have e1:(zg++jl++Xk z.cells (cap'-(n+m))).extract 0 ((n+m)* sz)=zg++jl:=by
   rw[<- aW];generalize zg++jl=q;apply VB;simp[Array.toList_extract,List.extract_eq_take_drop]
  rw[e1];exact BO Kk kL
 ·rw[XB,aW];have:(Xk z.cells (cap'-(n+m))).size=(cap'-(n+m))* sz:=by simp[Xk,h5]
  rw[this,<- Vd];congr 1;omega
theorem Ho(hc:Conc E V s.H){t t' e:TypeId}{sz n m cap:Nat}{z:SO}{base:Option U5}{av:AV}{v:SO}{en:End}{l l':List AV}{ty:TypeId}(ht:jz P t t'=some (e,sz,z))(hd:aq E (.sl n l en) (.slice base n cap))(cu:aq E av v)(hs:s.src sz av=some (m,l'))
  (hl:l.length=n* sz) (eB:l'.length=m* sz) (hb:n+m<=2^30) (KF:cap<n+m)
  (hK:∀r cs cap',V.fresh r->cF E (l++l') (cs.extract 0 ((n+m)* sz))->n+m<=cap'->cs.size=cap'* sz->K (.slice (some ⟨r,0,none⟩) (n+m) cap') (V.upd r (.cells cs e))):aP P V (Vy #[t,t'] ty #[.slice base n cap,v]) K Kp:=
 acb hc ht hd (by simp only[AS.src];rw[<- hl,TO]) cu hs hl eB hb KF hK
theorem Hp(hc:Conc E V s.H){t t' e:TypeId}{sz n cap:Nat}{z:SO}{base:Option U5}{av:AV}{v:SO}{l':List AV}{ty:TypeId}(ht:jz P t t'=some (e,sz,z))(cu:aq E av v)(hs:s.src sz av=some (0,l'))
  (eB:l'.length=0* sz) (hle:n<=cap) (hK:K (.slice base n cap) V):aP P V (Vy #[t,t'] ty #[.slice base n cap,v]) K Kp:=by
 obtain⟨i,d,h1,h2,h3,h4,h5,h6,h7,h8,h9⟩:=jz.out ht;unfold Vy;simp only[Vf,Vq,UN];refine dZ h1 ?_;dsimp only;refine jL h2 ?_;rw[h4];refine dZ h8 ?_;refine Nl (by cases d<;>first|rfl|exact absurd rfl (h9 _)) ?_;simp only[TM,if_false,YD,if_true];rw[Hv cu hs];refine aA (au ?_);rw[if_pos (by omega)];refine aA (Dy hc cu hs eB (SQ _) λjl kL=> ?_);have Af:jl=#[]:=by
  have:=kL.1;apply Array.eq_empty_of_size_eq_zero;rw[this];simp
 subst Af;rw[UD];cases base with
 |none=>exact au hK
 |some a=>
  dsimp only;unfold storeCells;exact aA (au (au hK))
theorem aca(hc:Conc E V s.H){t t' e:TypeId}{sz n m cap:Nat}{z:SO}{b:Nat}{av:AV}{v:SO}{l':List AV}{ty:TypeId}{cs:Array SO}{el:TypeId}(ht:jz P t t'=some (e,sz,z))(cu:aq E av v)(hs:s.src sz av=some (m,l'))
  (eB:l'.length=m* sz) (hle:n+m<=cap) (ho:V.own b=some (.cells cs el (0,0))) (aW:cap* sz<=cs.size) (hi:∀o,n* sz<=o->V.ah b o=none) (hg:V.role.group≠some b/\V.role.chan≠some b) (nm:∀a∈l',a.leaf=true)
  (hK:∀jl,cF E l' jl->K (.slice (some ⟨b,0,none⟩) (n+m) cap) (V.upd b (.cells (storeAt cs (n* sz) jl.toList) el (0,0)))):aP P V (Vy #[t,t'] ty #[.slice (some ⟨b,0,none⟩) n cap,v]) K Kp:=by
 obtain⟨i,d,h1,h2,h3,h4,h5,h6,h7,h8,h9⟩:=jz.out ht;unfold Vy;simp only[Vf,Vq,UN];refine dZ h1 ?_;dsimp only;refine jL h2 ?_;rw[h4];refine dZ h8 ?_;refine Nl (by cases d<;>first|rfl|exact absurd rfl (h9 _)) ?_;simp only[TM,if_false,YD,if_true];rw[Hv cu hs];refine aA (au ?_);rw[if_pos (by omega)];refine aA (Dy hc cu hs eB (SQ _) λjl kL=> ?_);rw[<- eB,TO]at kL;rw[add_plain];have uz:(n+m)* sz<=cap* sz:=Uh _ hle;rw[Vd]at uz;refine aA (AN _ 0 V cs hg.1 hg.2 ho (λo h _=>hi o (by omega)) (by have:=kL.1;simp;omega) (BP kL nm) ?_);rw[Wp,UD];exact au (hK jl kL)
end
def Env.tok (E:Env)(I:cm)(rm:Option U5×Nat)(v:Nat):Env:={E with I:=I,n:=E.n+1,room:=λk u=>if k=E.n/\u=v then rm else E.room k u,ft:=λk=>if k=E.n then v else E.ft k}
theorem Env.Mk(E:Env){I:cm}(hI:∀b o v,E.I b o=some v->I b o=some v)(rm:Option U5×Nat)(v:Nat):E.Le (E.tok I rm v):=
 ⟨hI,Y0 _,λk hk=>rfl,λk hk=>by simp[Env.tok,VY hk],λk u hk _=>by simp[Env.tok,VY hk],rfl,rfl⟩
def Env.grow (E:Env)(I:cm)(k:Nat)(rm:Option U5×Nat)(v:Nat):Env:={E with I:=I,room:=λj u=>if j=k/\u=v then rm else E.room j u,ft:=λj=>if j=k then v else E.ft j}
theorem Env.aaC(E:Env){I:cm}(hI:∀b o v,E.I b o=some v->I b o=some v){k:Nat}(rm:Option U5×Nat){v:Nat}(hv:E.ft k<v):E.Le (E.grow I k rm v):=
 ⟨hI,SQ _,λ_ _=>rfl,λj _=>by
  simp only[Env.grow];split
  ·rename_i e;subst e;omega
  ·exact SQ _,λj u _ hu=>by
  simp only[Env.grow];split
  ·rename_i e;obtain⟨rfl,rfl⟩:=e;omega
  ·rfl,rfl,rfl⟩
open Go.Conc
abbrev View.laid (V:View)(b:Nat)(cs:Array SO)(el:TypeId)(p:Nat->Bool):View:=(V.upd b (.cells cs el (0,0))).eD b cs p
theorem Mg{V:View}{b b':Nat}{cs:Array SO}{el:TypeId}{p:Nat->Bool}(h:b'≠b):(V.laid b cs el p).own b'=V.own b':=by simp[View.laid,View.eD,View.upd,h]
theorem Mf{V:View}{b b':Nat}{cs:Array SO}{el:TypeId}{p:Nat->Bool}(h:b'≠b)(o:Nat):(V.laid b cs el p).ah b' o=V.ah b' o:=by simp[View.laid,View.eD,View.upd,h]
theorem GA{V:View}{b:Nat}{cs:Array SO}{el:TypeId}{p:Nat->Bool}(hp:∀o,p o=true->V.ah b o=none):∀b' o v,V.ah b' o=some v->(V.laid b cs el p).ah b' o=some v:=λb' o v h=>by
 have hn:¬(b'=b/\p o=true):=λhb=>by obtain⟨rfl,h2⟩:=hb;rw[hp o h2]at h;cases h
 simp only[View.laid,View.eD,View.upd,if_neg hn];exact h
theorem Gz{V:View}{b:Nat}{cs:Array SO}{el:TypeId}{p:Nat->Bool}{o:Nat}(h:p o=true):(V.laid b cs el p).ah b o=cs[o]?:=by simp[View.laid,View.eD,h]
theorem Mh{V:View}{b:Nat}{cs:Array SO}{el:TypeId}{p:Nat->Bool}:(V.laid b cs el p).own b=some (.cells cs el (0,0)):=by simp[View.laid,View.eD,View.upd]
theorem IV{E:Env}{I:cm}{b n cap:Nat}{cs:Array SO}{l:List AV}{e:End}{sz:Nat}(hI:E.I=I)(hd:cF E l (cs.extract 0 (n* sz)))(hl:l.length=n* sz)(hs:n* sz<=cs.size)(hi:∀o,o<n* sz->I b o=cs[o]?)(hc:n<=cap)(he:pC E e (some ⟨b,0,none⟩) n cap):aq E (.sl n l e) (.slice (some ⟨b,0,none⟩) n cap):=by
 refine .sl b 0 cap (λi=>cs.getD i undef) hc he (λi h=> ?_) (λi x hx=> ?_)
 ·rw[hl]at h;have hlt:i<cs.size:=by omega
  rw[hI,Wp,hi i h];simp only[SH,SJ hlt,S7]
 ·have cw:i<n* sz:=by rw[<- hl];exact(SL.1 hx).1
  have:=hd.2 i x hx;have hlt:i<cs.size:=by omega
  rw[SH,SJ hlt];rw[SH]at this;rw[Array.getElem?_extract]at this;have FQ:i<min (n* sz) cs.size:=by omega
  simpa[cw,hlt,FQ]using this
section
variable {E:Env}{V:View}{H:List aa}
theorem Conc.NG(hc:Conc E V H){n:Nat}(sz:Nat)(el:TypeId)(a:Option U5):Conc (E.tok V.ah (a,n) n) V (H++[.tail n sz el])/\E.Le (E.tok V.ah (a,n) n):=by
 have hle:=E.Mk (I:=V.ah) (λb o v h=>by rw[<- hc.I];exact h) (a,n) n;refine⟨hc.iD H.length (.tail n sz el) hle rfl (by simp[Env.tok,hc.n]) C8 rfl (λj hj _=>by simp[Env.tok,hc.n,hj]) (λb y _ hy=>⟨hy,λ_=>rfl⟩) ?_ (λb h=> ?_),hle⟩
 ·rw[<- hc.n];exact⟨by simp[Env.tok],.inl (by simp[Env.tok])⟩
 ·rw[<- hc.n]at h;simp[bL,Env.tok]at h
theorem Conc.ac5(hc:Conc E V H){r n cap sz:Nat}{el:TypeId}{cs:Array SO}(hf:V.fresh r)(hs:cs.size=cap* sz)(hn:n<=cap):
  Conc (E.tok (V.laid r cs el (·<n* sz)).ah (some ⟨r,0,none⟩,cap) n) (V.laid r cs el (·<n* sz)) (H++[.tail n sz el])/\E.Le (E.tok (V.laid r cs el (·<n* sz)).ah (some ⟨r,0,none⟩,cap) n):=by
 have hle:=E.Mk (I:=(V.laid r cs el (·<n* sz)).ah) (λb o v h=>GA (λo _=>hf.2 o) b o v (by rw[<- hc.I];exact h)) (some ⟨r,0,none⟩,cap) n;refine⟨hc.iD H.length (.tail n sz el) hle rfl (by simp[Env.tok,hc.n]) C8 rfl (λj hj _=>by simp[Env.tok,hc.n,hj]) (λb y _ hy=> ?_) ?_ (λb h=> .inr ?_),hle⟩
 ·have hb:b≠r:=λe=>by subst e;rw[hf.1]at hy;cases hy
  exact⟨by rw[Mg hb];exact hy,λo=>Mf hb o⟩
 ·rw[<- hc.n];refine⟨by simp[Env.tok],?_⟩;by_cases e:cap=n
  ·exact .inl (by simp[Env.tok,e])
  ·refine .inr ⟨r,cap,cs,by simp[Env.tok],Mh,hs,by omega,λo ho=> ?_⟩;have:¬(decide (o<n* sz)=true):=(by simpa using ho);simp only[View.laid,View.eD];rw[if_neg (λx=>this x.2)];exact hf.2 o
 ·rw[<- hc.n]at h;simp[bL,Env.tok]at h;obtain⟨_,rfl⟩:=h;exact hf.1
theorem Conc.ajg(hc:Conc E V H){k r n n' cap sz:Nat}{el gK:TypeId}{cs:Array SO}(hk:H[k]?=some (.tail n sz gK))(hf:V.fresh r)(hs:cs.size=cap* sz)(hn:n'<=cap)(hlt:n<n'):
  Conc (E.grow (V.laid r cs el (·<n'* sz)).ah k (some ⟨r,0,none⟩,cap) n') (V.laid r cs el (·<n'* sz)) (H.set k (.tail n' sz el))/\E.Le (E.grow (V.laid r cs el (·<n'* sz)).ah k (some ⟨r,0,none⟩,cap) n'):=by
 have Aj:E.ft k=n:=(hc.obj k _ hk).1;have hle:=E.aaC (I:=(V.laid r cs el (·<n'* sz)).ah) (λb o v h=>GA (λo _=>hf.2 o) b o v (by rw[<- hc.I];exact h)) (k:=k) (some ⟨r,0,none⟩,cap) (v:=n') (by omega);refine⟨hc.iD k (.tail n' sz el) hle rfl (by simpa[Env.grow]using hc.n) kX rfl (λj hj _=>by simp[Env.grow,hj]) (λb y _ hy=> ?_) ?_ (λb h=> .inr ?_),hle⟩
 ·have hb:b≠r:=λe=>by subst e;rw[hf.1]at hy;cases hy
  exact⟨by rw[Mg hb];exact hy,λo=>Mf hb o⟩
 ·refine⟨by simp[Env.grow],?_⟩;by_cases e:cap=n'
  ·exact .inl (by simp[Env.grow,e])
  ·refine .inr ⟨r,cap,cs,by simp[Env.grow],Mh,hs,by omega,λo ho=> ?_⟩;have:¬(decide (o<n'* sz)=true):=(by simpa using ho);simp only[View.laid,View.eD];rw[if_neg (λx=>this x.2)];exact hf.2 o
 ·simp[bL,Env.grow]at h;obtain⟨_,rfl⟩:=h;exact hf.1
theorem Conc.ajh(hc:Conc E V H){k b n n' cap sz:Nat}{el gK:TypeId}{cs eF:Array SO}(hk:H[k]?=some (.tail n sz gK))(hrm:E.room k n=(some ⟨b,0,none⟩,cap))(ho:V.own b=some (.cells cs el (0,0)))(hi:∀o,n* sz<=o->V.ah b o=none)(hs:eF.size=cap* sz)(hn:n'<=cap)(hlt:n<n'):
  Conc (E.grow (V.laid b eF el (λo=>n* sz<=o&&o<n'* sz)).ah k (some ⟨b,0,none⟩,cap) n') (V.laid b eF el (λo=>n* sz<=o&&o<n'* sz)) (H.set k (.tail n' sz el))/\E.Le (E.grow (V.laid b eF el (λo=>n* sz<=o&&o<n'* sz)).ah k (some ⟨b,0,none⟩,cap) n'):=by
 have Aj:E.ft k=n:=(hc.obj k _ hk).1;have hp:∀o,(λo=>decide (n* sz<=o)&&decide (o<n'* sz)) o=true->V.ah b o=none:=λo h=>hi o (by simp at h;exact h.1);have hle:=E.aaC (I:=(V.laid b eF el (λo=>n* sz<=o&&o<n'* sz)).ah) (λb o v h=>GA hp b o v (by rw[<- hc.I];exact h)) (k:=k) (some ⟨b,0,none⟩,cap) (v:=n') (by omega);have ki:bL E k (.tail n sz gK)=some b:=by
  simp only[bL,hrm];rw[if_neg (by omega)];rfl
 refine⟨hc.iD k (.tail n' sz el) hle rfl (by simpa[Env.grow]using hc.n) kX rfl (λj hj _=>by simp[Env.grow,hj]) (λb' y fi hy=> ?_) ?_ (λb' h=> .inl ⟨_,hk,?_⟩),hle⟩
 ·have hb:b'≠b:=λe=>by subst e;exact fi _ hk ki
  exact⟨by rw[Mg hb];exact hy,λo=>Mf hb o⟩
 ·refine⟨by simp[Env.grow],?_⟩;by_cases e:cap=n'
  ·exact .inl (by simp[Env.grow,e])
  ·have FT:n* sz<=n'* sz:=Uh _ (by omega);refine .inr ⟨b,cap,eF,by simp[Env.grow],Mh,hs,by omega,λo bf=> ?_⟩;have:¬((decide (n* sz<=o)&&decide (o<n'* sz))=true):=(by simp;omega);simp only[View.laid,View.eD];rw[if_neg (λx=>this x.2)];exact hi o (by omega)
 ·simp[bL,Env.grow]at h;obtain⟨_,rfl⟩:=h;exact ki
end
section
variable {lv:Bool}{P:SI}{r:Option Nat}{o:Tu}{s:AS}{next:AS->Prop}{bad:AV->AS->Prop}
def A4 (s:AS)(dst:Option Nat)(next:AS->Prop)(n m sz:Nat)(elem:TypeId)(l l':List AV):End->Prop
 |.exact=>next ((⟨s.T,s.H++[.tail (n+m) sz elem]⟩:AS).put dst (.sl (n+m) (l++l') (.opn s.H.length)))
 |.opn k=>(match s.H[k]?with
   |some (.tail n' ep gK)=>n'=n/\ep=sz/\gK=elem
   |_=>False)/\(∀a∈l',a.leaf=true)/\next ((⟨s.T,s.H.set k (.tail (n+m) sz elem)⟩:AS).put dst (.sl (n+m) (l++l') (.opn k)))
 |.shut=>m=0/\next (s.put dst (.sl n l .shut))
theorem agx{E E':Env}{n:Nat}{l:List AV}{en:End}{base:Option U5}{cap:Nat}(h:aq E (.sl n l en) (.slice base n cap))(hl:E.Le E'){e':End}(he:pC E' e' base n cap):aq E' (.sl n l e') (.slice base n cap):=by
 cases h with
 |sl b o cap f hc _ h1 h2=>exact .sl b o cap f hc he (λi hi=>hl.I _ _ _ (h1 i hi)) (λi x hx=>(h2 i x hx).mono hl)
 |nil _=>exact .nil he
theorem step_append{c:Xp}{x y:Ti}{t t' elem:TypeId}{sz n m:Nat}{z:SO}{en:End}{l l':List AV}{av:AV}(ho:o.op=.call c)(aX:c.callee=.builtin .append)(cJ:c.args=#[x,y]) (cM:c.argTypes=#[t,t']) (ht:jz P t t'=some (elem,sz,z))
  (hx:s.ev x=some (.sl n l en)) (hy:s.ev y=some av) (hs:s.src sz av=some (m,l')) (hl:l.length=n* sz) (eB:l'.length=m* sz) (hb:n+m<=2^30) (hn:A4 s o.dst next n m sz elem l l' en):Step lv P r o s next bad:=by
 intro E V a N Q hc aG hd bx h1 _;refine⟨bx,?_⟩;have dt:=aq.ev aG hx;have iI:=aq.ev aG hy;generalize j3:a.eval x=vx at dt;generalize rF:a.eval y=vy at iI;unfold execOp;rw[ho];dsimp only;unfold resolve;rw[aX];dsimp only;refine aA (au ?_);unfold invoke builtin;dsimp only;refine aA ?_;have nq:c.args.map a.eval=#[vx,vy]:=by rw[cJ];simp[j3,rF]
 rw[nq,cM];obtain⟨base,cap,rfl⟩:∃base cap,vx=.slice base n cap:=by
  cases dt with
  |sl b o cap f dP he q1 q2=>exact⟨_,_,rfl⟩
  |nil he=>exact⟨_,_,rfl⟩
 have dP:n<=cap:=by
  cases dt with
  |sl b o cap f dP he q1 q2=>exact dP
  |nil he=>exact SQ _
 have fin:∀E' V' H' (mv:AV) v',E.Le E'->V'.role=V.role->V'.deaf=V.deaf->Conc E' V' H'->aq E' mv v'->next ((⟨s.T,H'⟩:AS).put o.dst mv)->aP P V' (pure (W3 v')) (mr lv P r o a N Q) (λv V'=>Q (.panic [{v,recovered:=false}]) a V'):=λE' V' H' mv v' hle hr uo aY bp c_=>
  au (h1 E' V' (a.put o.dst v') ((⟨s.T,H'⟩:AS).put o.dst mv) ⟨hle,dU _ _ _,put_defers _ _ _,hr,uo⟩ (by rw[eZ];exact aY) (bZ.gR (s:=⟨s.T,H'⟩) (aG.mono hle) hd bp) c_)
 have s_:(l++l').length=(n+m)* sz:=by rw[S4,hl,eB,Vd]
 cases en with
 |exact=>
  have gL:cap=n:=by
   cases dt with
   |sl b o cap f dP he q1 q2=>exact he
   |nil he=>rfl
  subst gL;have iN:=hn;simp only[A4]at iN;by_cases hm:m=0
  ·subst hm;have sT:l'=[]:=(by simpa using eB);subst sT;refine Hp hc ht iI hs eB (SQ _) ?_;obtain⟨aY,hle⟩:=hc.NG (n:=cap) sz elem base;refine fin _ V _ _ _ hle rfl rfl aY (agx (e':=.opn s.H.length) dt hle ⟨?_,?_,?_⟩) (by simpa using iN)
   ·simp[Env.tok,hc.n]
   ·simp[Env.tok,hc.n]
   ·simp[Env.tok,hc.n]
  ·refine Ho hc ht dt iI hs hl eB hb (by omega) λrr cs cap' hf bp hle aW=> ?_;obtain⟨aY,rl⟩:=hc.ac5 (el:=elem) hf aW hle;have uE:(cap+m)* sz<=cs.size:=(by rw[aW];exact Uh _ hle);refine aP.ghost (xo (f:=(0,0)) (cs:=cs) (el:=elem) (p:=(·<(cap+m)* sz)) (by simp[View.upd]) (λo _=>hf.2 o)) ?_;refine fin _ _ _ _ _ rl rfl rfl aY (IV (I:=(V.laid rr cs elem (·<(cap+m)* sz)).ah) (e:=.opn s.H.length) (sz:=sz) (cs:=cs) rfl (bp.mono rl) s_ uE (λo h=>Gz (by simpa using h)) hle ⟨?_,?_,?_⟩) iN
   ·simp[Env.tok,hc.n]
   ·simp[Env.tok,hc.n]
   ·simp[Env.tok,hc.n]
 |shut=>
  obtain⟨rfl,iN⟩:=hn;have sT:l'=[]:=by simpa using eB
  subst sT;refine Hp hc ht iI hs eB dP ?_;exact fin E V s.H _ _ (Env.Le.refl E) rfl rfl hc dt iN
 |opn k=>
  obtain⟨uv,nm,iN⟩:=hn;split at uv
  ·rename_i n' ep gK hk;obtain⟨rfl,rfl,rfl⟩:=uv;have heo:pC E (.opn k) base n' cap:=by
    cases dt with
    |sl b o cap f dP he q1 q2=>exact he
    |nil he=>exact he
   obtain⟨e1,e2,e3⟩:=heo;obtain⟨Aj,F6⟩:=hc.obj k _ hk;have s8:s.H.set k (.tail n' ep gK)=s.H:=by
    apply Yo;intro i;by_cases hi:i=k
    ·subst hi;rw[W7 (SL.1 hk).1,hk]
    ·rw[T8 (Ne.symm hi)]
   by_cases hm:m=0
   ·subst hm;have sT:l'=[]:=(by simpa using eB);subst sT;refine Hp hc ht iI hs eB dP ?_;refine fin E V s.H _ _ (Env.Le.refl E) rfl rfl hc dt ?_;rw[UD,s8,SN]at iN;exact iN
   ·by_cases pY:n'+m<=cap
    ·rcases F6 with F6|⟨b,asX,cs,r1,r2,r3,r4,r5⟩
     ·rw[e3]at F6;simp only at F6;omega
     ·rw[e3]at r1;cases r1;have ki:bL E k (.tail n' ep gK)=some b:=by
       simp only[bL,e3];rw[if_neg (by omega)];rfl
      refine aca hc ht iI hs eB pY r2 (WE r3.symm) r5 (hc.ja hk ki) nm λjl kL=> ?_;have Af:jl.toList.length=m* ep:=(by have:=kL.1;simp;omega);have uz:(n'+m)* ep<=cap* ep:=Uh _ pY;rw[Vd]at uz;have F8:(storeAt cs (n'* ep) jl.toList).size=cap* ep:=(by rw[yB];exact r3);obtain⟨aY,rl⟩:=hc.ajh hk e3 r2 r5 F8 pY (by omega);refine aP.ghost (xo (f:=(0,0)) (cs:=storeAt cs (n'* ep) jl.toList) (el:=gK) (p:=λo=>n'* ep<=o&&o<(n'+m)* ep) (by simp[View.upd]) (λo h=>r5 o (by simp at h;exact h.1))) ?_;refine fin _ _ _ _ _ rl rfl rfl aY ?_ iN;cases dt with
      |nil he=>exact absurd pY (by omega)
      |sl b' o' cap f Fy he q1 q2=>
       have q1':∀i,i<l.length->V.ah b i=some (f i):=λi hi=>(by have:=q1 i hi;rwa [hc.I,Wp]at this);refine .sl b 0 cap (λi=>if i<n'* ep then f i else(storeAt cs (n'* ep) jl.toList).getD i undef) (by omega) ⟨?_,?_,?_⟩ (λi hi=> ?_) (λi x hx=> ?_)
       ·exact e1
       ·simp[Env.grow]
       ·simp[Env.grow]
       ·rw[s_,Vd]at hi;show (V.laid b (storeAt cs (n'* ep) jl.toList) gK (λo=>n'* ep<=o&&o<(n'+m)* ep)).ah b (0+i)=_;rw[Wp];by_cases cw:i<n'* ep
        ·rw[if_pos cw];exact GA (λo h=>r5 o (by simp at h;exact h.1)) _ _ _ (q1' i (by omega))
        ·rw[if_neg cw,Gz (by simp[Vd];omega)];have hlt:i<(storeAt cs (n'* ep) jl.toList).size:=(by rw[F8];omega);simp only[SH,SJ hlt,S7]
       ·by_cases cw:i<n'* ep
        ·rw[SX (by omega)]at hx;rw[if_pos cw];exact(q2 i x hx).mono rl
        ·rw[S9 (by omega)]at hx;have us:i-l.length<l'.length:=(SL.1 hx).1;rw[if_neg cw,DK _ _ _ _ (by rw[Af,r3];omega),if_pos (by rw[Af];omega)];have:=(kL.2 _ _ hx).mono rl;rw[hl]at this;simpa[SH,SE]using this
    ·refine Ho hc ht dt iI hs hl eB hb (by omega) λrr cs cap' hf bp hle aW=> ?_;obtain⟨aY,rl⟩:=hc.ajg (el:=gK) (n':=n'+m) hk hf aW hle (by omega);have uE:(n'+m)* ep<=cs.size:=(by rw[aW];exact Uh _ hle);refine aP.ghost (xo (f:=(0,0)) (cs:=cs) (el:=gK) (p:=(·<(n'+m)* ep)) (by simp[View.upd]) (λo _=>hf.2 o)) ?_;refine fin _ _ _ _ _ rl rfl rfl aY (IV (I:=(V.laid rr cs gK (·<(n'+m)* ep)).ah) (e:=.opn k) (sz:=ep) (cs:=cs) rfl (bp.mono rl) s_ uE (λo h=>Gz (by simpa using h)) hle ⟨?_,?_,?_⟩) iN
     ·exact e1
     ·simp[Env.grow]
     ·simp[Env.grow]
  ·exact uv.elim
def Env.gY (E:Env)(r:Nat)(I:cm)(c:Nat):Env:={E with I:=I,n:=E.n+1,blk:=λk=>if k=E.n then r else E.blk k,room:=λk u=>if k=E.n/\u=0 then(none,c)else E.room k u}
theorem Env.C7(E:Env)(r c:Nat){I:cm}(hI:∀b o v,E.I b o=some v->I b o=some v):E.Le (E.gY r I c):=
 ⟨hI,Y0 _,λk hk=>by simp[Env.gY,VY hk],λ_ _=>SQ _,λk u hk _=>by simp[Env.gY,VY hk],rfl,rfl⟩
theorem Env.wZ(E:Env)(r c:Nat)(I:cm):(E.gY r I c).blk E.n=r:=by simp[Env.gY]
theorem Env.Io(E:Env)(r c:Nat)(I:cm):(E.gY r I c).room E.n 0=(none,c):=by simp[Env.gY]
theorem Conc.gY{E:Env}{V:View}{H:List aa}(hc:Conc E V H){r c:Nat}(hf:V.fresh r){cs:Array SO}{sz:Nat}{l:List AV}{el:TypeId}(hd:jO (E.gY r V.ah c) l cs)(hs:cs.size=c* sz):Conc (E.gY r V.ah c) (V.upd r (.cells cs el)) (H++[.own sz l el]):=by
 refine hc.iD (E':=E.gY r V.ah c) H.length (.own sz l el) (E.C7 r c (λb o v h=>by rw[<- hc.I];exact h)) rfl (by simp[Env.gY,hc.n]) C8 rfl (λ_ _ _=>rfl) (λb z _ hz=>⟨?_,λ_=>rfl⟩) ?_ (λb h=> .inr ?_)
 ·have:b≠r:=λe=>by rw[e,hf.1]at hz;cases hz
  simpa[View.upd,this]using hz
 ·rw[<- hc.n];refine⟨⟨cs,by rw[Env.wZ];simp[View.upd],hd,by rw[Env.Io];exact hs⟩,λo=> ?_⟩;rw[Env.wZ];exact hf.2 o
 ·rw[<- hc.n]at h;simp only[bL,Env.wZ,Tj]at h;subst h;exact hf.1
theorem IT{E:Env}{H:List aa}(hn:E.n=H.length){r c n:Nat}(I:cm)(h:n<=c){cap:Nat}(ou:n<=cap)(hc:cap<=c)(h0:0<n):aq (E.gY r I c) (.bh H.length 0 n 0) (.slice (some ⟨r,0,none⟩) n cap):=by
 have:=aq.bh (E:=E.gY r I c) (id:=H.length) (off:=0) (n:=n) (cap:=0) (cap':=cap) (by show _<E.n+1;rw[hn];omega) ⟨ou,λe=>by omega,λ_=>by rw[<- hn,Env.Io];exact hc⟩;have e:(E.gY r I c).blk H.length=r:=by rw[<- hn];exact E.wZ r c I
 rwa [e]at this
theorem Conc.relabel{E:Env}{V:View}{H:List aa}(hc:Conc E V H){id sz:Nat}{l:List AV}{el:TypeId}(hk:H[id]?=some (.own sz l el)):Conc (E.gY (E.blk id) V.ah (E.room id 0).2) V (H.set id .gone++[.own sz l el]):=by
 have hle:=E.C7 (E.blk id) (E.room id 0).2 (I:=V.ah) (λb o v h=>by rw[<- hc.I];exact h);have atg:=(SL.1 hk).1;have hlt:∀(j:Nat) y,H[j]?=some y->j<E.n:=λj y h=>by rw[hc.n];exact(SL.1 h).1
 have ri:∀(j:Nat) y,(H.set id .gone++[aa.own sz l el])[j]?=some y->(j=H.length/\y=.own sz l el)\/(j=id/\y=.gone)\/(j≠id/\H[j]?=some y):=λj y h=>by
  rcases C8 j y h with⟨h1,h2⟩|⟨_,h⟩
  ·exact .inl ⟨by simpa using h1,h2⟩
  ·rcases kX j y h with h|h
   ·exact .inr (.inl h)
   ·exact .inr (.inr h)
 have cK:∀(j:Nat) y b,H[j]?=some y->bL (E.gY (E.blk id) V.ah (E.room id 0).2) j y=some b->bL E j y=some b:=λj y b h e=>by rw[<- O0 hle (hlt j y h) (hc.obj j y h)];exact e
 have v7:∀b,bL (E.gY (E.blk id) V.ah (E.room id 0).2) H.length (.own sz l el)=some b->b=E.blk id:=λb e=>by
  simp only[bL,<- hc.n,Env.wZ,Tj]at e;exact e.symm
 have fi:∀g,(∀(k:Nat) x,H[k]?=some x->bL E k x≠some g)->∀(k:Nat) x,(H.set id .gone++[aa.own sz l el])[k]?=some x->bL (E.gY (E.blk id) V.ah (E.room id 0).2) k x≠some g:=λg h0 k x hx e=>by
  rcases ri k x hx with⟨rfl,rfl⟩|⟨_,rfl⟩|⟨_,hx⟩
  ·have:=v7 g e;exact h0 id _ hk (by rw[this];rfl)
  ·cases e
  ·exact h0 k x hx (cK k x g hx e)
 refine⟨rfl,by simp[Env.gY,hc.n],λj y h=> ?_,λi j y z b h1 h2 e1 e2=> ?_,λg hg=> ?_,λg hg=> ?_,λhm=>hc.top hm,λb y hf=> ?_⟩
 ·rcases ri j y h with⟨rfl,rfl⟩|⟨_,rfl⟩|⟨_,h⟩
  ·obtain⟨⟨cs,q1,q2,q3⟩,q4⟩:=hc.obj id _ hk;rw[<- hc.n];refine⟨⟨cs,by rw[Env.wZ];exact q1,q2.mono hle,by rw[Env.Io];exact q3⟩,λo=> ?_⟩;rw[Env.wZ];exact q4 o
  ·trivial
  ·exact(hc.obj j y h).mono hle (hlt j y h) rfl (λ_ _ _ h=>h) (λ_ _ _=>rfl)
 ·rcases ri i y h1 with⟨rfl,rfl⟩|⟨_,rfl⟩|⟨hi,h1⟩
  ·rcases ri j z h2 with⟨rfl,rfl⟩|⟨_,rfl⟩|⟨hj,h2⟩
   ·rfl
   ·cases e2
   ·have:=v7 b e1;exact absurd (hc.inj id j _ z b hk h2 (by rw[this];rfl) (cK j z b h2 e2)).symm hj
  ·cases e1
  ·rcases ri j z h2 with⟨rfl,rfl⟩|⟨_,rfl⟩|⟨hj,h2⟩
   ·have:=v7 b e2;exact absurd (hc.inj id i _ y b hk h1 (by rw[this];rfl) (cK i y b h1 e1)).symm hi
   ·cases e2
   ·exact hc.inj i j y z b h1 h2 (cK i y b h1 e1) (cK j z b h2 e2)
 ·obtain⟨h0,h1,h2⟩:=hc.group g hg;exact⟨h0,h1,fi g h2⟩
 ·obtain⟨h0,h1,h2⟩:=hc.chan g hg;exact⟨h0,h1,fi g h2⟩
 ·obtain⟨h0,h1,h2⟩:=hc.fr b y hf;exact⟨h0,h1,fi b h2⟩
theorem Conc.leave{E:Env}{V:View}{H:List aa}(hc:Conc E V H)(id:Nat):Conc E V (H.set id .gone):=
 hc.iD id .gone (Env.Le.refl E) hc.I (by simpa using hc.n) kX rfl (λ_ _ _=>rfl) (λ_ _ _ hy=>⟨hy,λ_=>rfl⟩) trivial (λb h=>by cases h)
theorem agz{E:Env}{l l':List AV}{cs vs:Array SO}(h:jO E l cs)(k:cF E l' vs)(hl:l.length+l'.length<=cs.size):jO E (l++l') (storeAt cs l.length vs.toList):=by
 have hv:vs.toList.length=l'.length:=by simpa using k.1
 refine⟨by rw[yB,S4];exact hl,λi a e=> ?_⟩;rw[DK _ _ _ _ (by rw[hv];exact hl),hv];by_cases h1:i<l.length
 ·rw[if_neg (by omega)];rw[SX h1]at e;exact h.2 i a e
 ·rw[S9 (by omega)]at e;have h2:=(SL.1 e).1;rw[if_pos ⟨by omega,by omega⟩];have:=k.2 _ a e;simpa[SH,SE]using this
theorem Py{E:Env}{l:List AV}{cs:Array SO}{k:Nat}(h:cF E l (cs.extract 0 k))(hk:l.length=k)(hs:k<=cs.size):jO E l cs:=by
 refine⟨by omega,λi a e=> ?_⟩;have hi:=(SL.1 e).1;have fK:i<cs.size:=by omega
 have:=h.2 i a e;rw[SH,Array.getElem?_extract_of_lt (by omega)]at this;rw[SH];simpa[SJ fK]using this
theorem acJ{c:Xp}{x y:Ti}{t t' elem:TypeId}{sz n m:Nat}{z:SO}{l l':List AV}{av:AV}(ho:o.op=.call c)(aX:c.callee=.builtin .append)(cJ:c.args=#[x,y]) (cM:c.argTypes=#[t,t']) (ht:jz P t t'=some (elem,sz,z))
  (hx:s.ev x=some (.sl n l .exact)) (hy:s.ev y=some av) (hs:s.src sz av=some (m,l')) (hl:l.length=n* sz) (eB:l'.length=m* sz) (hb:n+m<=2^30) (hm:0<m) (hn:next ((⟨s.T,s.H++[.own sz (l++l') elem]⟩:AS).put o.dst (.bh s.H.length 0 (n+m) 0))):Step lv P r o s next bad:=by
 intro E V a N Q hc aG hd bx h1 _;refine⟨bx,?_⟩;have dt:=aq.ev aG hx;have iI:=aq.ev aG hy;generalize j3:a.eval x=vx at dt;generalize rF:a.eval y=vy at iI;unfold execOp;rw[ho];dsimp only;unfold resolve;rw[aX];dsimp only;refine aA (au ?_);unfold invoke builtin;dsimp only;refine aA ?_;have nq:c.args.map a.eval=#[vx,vy]:=by rw[cJ];simp[j3,rF]
 rw[nq,cM];obtain⟨base,cap,rfl⟩:∃base cap,vx=.slice base n cap:=by
  cases dt with
  |sl b o cap f dP he q1 q2=>exact⟨_,_,rfl⟩
  |nil he=>exact⟨_,_,rfl⟩
 have gL:cap=n:=by
  cases dt with
  |sl b o cap f dP he q1 q2=>exact he
  |nil he=>rfl
 subst gL;refine Ho hc ht dt iI hs hl eB hb (by omega) λrr cs cap' hf bp hle aW=> ?_;have s_:(l++l').length=(cap+m)* sz:=by rw[S4,hl,eB,Vd]
 have uE:(cap+m)* sz<=cs.size:=by rw[aW];exact Uh _ hle
 have oq:E.Le (E.gY rr V.ah cap'):=E.C7 rr cap' (λb o v h=>by rw[<- hc.I];exact h);have aY:=hc.gY (el:=elem) (c:=cap') hf ((Py bp s_ uE).mono oq) aW;have oV:=IT hc.n (r:=rr) V.ah hle (n:=cap+m) (cap:=cap') hle (SQ _) (by omega);exact au (h1 _ _ (a.put o.dst _) _ ⟨oq,dU _ _ _,put_defers _ _ _,rfl,rfl⟩ (by rw[eZ];exact aY) (bZ.gR (s:=⟨s.T,s.H++[.own sz (l++l') elem]⟩) (aG.mono oq) hd oV) hn)
theorem acI{c:Xp}{x y:Ti}{t t' elem el:TypeId}{sz n m c0 id:Nat}{z:SO}{l l':List AV}{av:AV}(ho:o.op=.call c)(aX:c.callee=.builtin .append)(cJ:c.args=#[x,y]) (cM:c.argTypes=#[t,t']) (ht:jz P t t'=some (elem,sz,z))
  (hx:s.ev x=some (.bh id 0 n c0)) (xD:c0<n) (bR:s.H[id]?=some (.own sz l el)) (hel:el=elem) (hy:s.ev y=some av) (hs:s.src sz av=some (m,l')) (hl:l.length=n* sz) (eB:l'.length=m* sz) (hb:n+m<=2^30) (nm:∀a∈l',a.leaf=true) (hn:next ((⟨s.T,s.H.set id .gone++[.own sz (l++l') elem]⟩:AS).put o.dst (.bh s.H.length 0 (n+m) 0))):Step lv P r o s next bad:=by
 subst hel;intro E V a N Q hc aG hd bx h1 _;refine⟨bx,?_⟩;have dt:=aq.ev aG hx;have iI:=aq.ev aG hy;generalize j3:a.eval x=vx at dt;generalize rF:a.eval y=vy at iI;unfold execOp;rw[ho];dsimp only;unfold resolve;rw[aX];dsimp only;refine aA (au ?_);unfold invoke builtin;dsimp only;refine aA ?_;have nq:c.args.map a.eval=#[vx,vy]:=by rw[cJ];simp[j3,rF]
 rw[nq,cM];have aj3:=dt;have s_:(l++l').length=(n+m)* sz:=by rw[S4,hl,eB,Vd]
 have cx:s.src sz (.bh id 0 n c0)=some (n,l):=by
  simp only[AS.src];rw[bR];simp only[Xy];rw[<- hl,TO]
 cases dt with
 |bh hi dP=>
  rename_i cap';obtain⟨q1,_,q3⟩:=dP;have q3:=q3 xD;obtain⟨⟨cs,p1,p2,p3⟩,p4⟩:=hc.obj id _ bR;by_cases pY:n+m<=cap'
  ·have od:(n+m)* sz<=cap'* sz:=Uh _ pY;have xB:cap'* sz<=cs.size:=(by rw[p3];exact Uh _ q3);refine aca hc ht iI hs eB pY p1 xB (λo _=>p4 o) (hc.ja bR rfl) nm λjl kL=> ?_;have Kl:jO E (l++l') (storeAt cs (n* sz) jl.toList):=by
    rw[<- hl];exact agz p2 kL (by rw[<- S4,s_];omega)
   have dl:=hc.aco bR Kl (by rw[yB];exact p3);have ri:(s.H.set id (.own sz (l++l') el))[id]?=some (.own sz (l++l') el):=(by rw[W7 ((SL.1 bR).1)]);have cL:=dl.relabel ri;rw[W6]at cL;have oq:E.Le (E.gY (E.blk id) V.ah (E.room id 0).2):=E.C7 _ _ (λb o v h=>by rw[<- hc.I];exact h);have oV:aq (E.gY (E.blk id) V.ah (E.room id 0).2) (.bh s.H.length 0 (n+m) 0) (.slice (some ⟨E.blk id,0,none⟩) (n+m) cap'):=IT hc.n V.ah (by omega) pY q3 (by omega);exact au (h1 _ _ (a.put o.dst _) _ ⟨oq,dU _ _ _,put_defers _ _ _,rfl,rfl⟩ (by rw[eZ];exact cL) (bZ.gR (s:=⟨s.T,s.H.set id .gone++[.own sz (l++l') el]⟩) (aG.mono oq) hd oV) hn)
  ·refine acb hc ht aj3 cx iI hs hl eB hb (by omega) λrr eF BL hf bp hle aW=> ?_;have uE:(n+m)* sz<=eF.size:=(by rw[aW];exact Uh _ hle);have oq:E.Le (E.gY rr V.ah BL):=E.C7 rr BL (λb o v h=>by rw[<- hc.I];exact h);have Fx:=hc.leave id;have aY:=Fx.gY (el:=el) (c:=BL) hf ((Py bp s_ uE).mono oq) aW;have oV:aq (E.gY rr V.ah BL) (.bh s.H.length 0 (n+m) 0) (.slice (some ⟨rr,0,none⟩) (n+m) BL):=IT hc.n V.ah hle hle (SQ _) (by omega);exact au (h1 _ _ (a.put o.dst _) _ ⟨oq,dU _ _ _,put_defers _ _ _,rfl,rfl⟩ (by rw[eZ];exact aY) (bZ.gR (s:=⟨s.T,s.H.set id .gone++[.own sz (l++l') el]⟩) (aG.mono oq) hd oV) hn)
end
open Go.Conc
theorem bB(n:Int)(h: -9223372036854775808<=n/\n<=9223372036854775807):SD.wrap n=n:=by
 have e:SD.wrap n=if n % 18446744073709551616>=9223372036854775808 then n % 18446744073709551616-18446744073709551616 else n % 18446744073709551616:=by
  unfold Xa;simp[atL,ats]
 rw[e];split<;>omega
def cI (P:SI){α:Type}(s:Sem α)(x:α):Prop:=∀w es,s.runT P w es=(.ok x w,es)
theorem cI.ok{P:SI}{α:Type}{V:View}{s:Sem α}{x:α}{K:α->View->Prop}{Kp:SO->View->Prop}(h:cI P s x)(hk:K x V):aP P V s K Kp:=
 λw hw eN=>⟨#[],w,V,by simpa[fB]using dc.idle hw,.inl ⟨x,by rw[h w eN];simp,hk⟩⟩
theorem cI.bind{P:SI}{α β:Type}{V:View}{s:Sem α}{x:α}{f:α->Sem β}{K:β->View->Prop}{Kp:SO->View->Prop}(h:cI P s x)(hk:aP P V (f x) K Kp):aP P V (s>>=f) K Kp:=
 aA (h.ok hk)
def AV.vq:AV->Option Int
 |.val (.int _ n)=>some n
 |_=>none
theorem aq.vq{E:Env}{a:AV}{v:SO}{n:Int}(hd:aq E a v)(h:a.vq=some n):∃k,v=.int k n:=by
 cases hd with
 |val x=>unfold AV.vq at h;split at h<;>simp_all
 |_=>cases h
def AS.iV (s:AS):Option Ti->Option (Option Int)
 |none=>some none
 |some x=>match s.ev x with
  |some a=>a.vq.map some
  |none=>none
theorem za{E:Env}{s:AS}{a:Act}(k:bZ E s.T a.tmps){x:Option Ti}{i:Option Int}(h:s.iV x=some i):(i=none/\x.map a.eval=none)\/∃n kd,i=some n/\x.map a.eval=some (.int kd n):=by
 cases x with
 |none=>cases h;exact .inl ⟨rfl,rfl⟩
 |some x=>
  simp only[AS.iV]at h;split at h
  ·rename_i av hav;obtain⟨n,hn,rfl⟩:=kH h;obtain⟨kd,hv⟩:=(aq.ev k hav).vq hn;exact .inr ⟨n,kd,rfl,by simp[hv]⟩
  ·cases h
section
variable {P:SI}{V:View}{Kp:SO->View->Prop}
theorem AM{kd:TY}{n:Int}{y:Nat}{code:BoundsCode}{K:Nat->View->Prop}(h0:0<=n)(h1:n<=y)(h:K n.toNat V):aP P V (Zk (.int kd n) y code) K Kp:=by
 unfold Zk asIntOf;refine aA (au ?_);dsimp only;rw[if_pos ⟨h0,h1⟩];exact au h
theorem Nm{E:Env}{s:AS}{a:Act}(k:bZ E s.T a.tmps){isS:Bool}{len cap:Nat}{lo hi mx:Option Ti}{l h m:Option Int}(hl:s.iV lo=some l)(hh:s.iV hi=some h)(hm:s.iV mx=some m){K:Nat×Nat×Nat->View->Prop}
  (hlc:len<=cap) (c0:0<=l.getD 0) (c1:l.getD 0<=h.getD len) (c2:h.getD len<=m.getD cap) (c3:m.getD cap<=cap) (c4:m.isSome=true->h.isSome=true) (hK:K ((l.getD 0).toNat,(h.getD len).toNat,(m.getD cap).toNat) V):
  aP P V (Za isS len cap (lo.map a.eval) (hi.map a.eval) (mx.map a.eval)) K Kp:=by
 unfold Za;rcases za k hm with⟨rfl,em⟩|⟨vm,km,rfl,em⟩
 ·rw[em];refine aA (au ?_);rcases za k hh with⟨rfl,eh⟩|⟨vh,kh,rfl,eh⟩
  ·rw[eh];refine aA (au ?_);rcases za k hl with⟨rfl,el⟩|⟨vl,kl,rfl,el⟩
   ·rw[el];exact aA (au (au (by simpa using hK)))
   ·rw[el];simp only[S7,Vo]at c0 c1 c2;exact aA (AM c0 c1 (au (by simpa using hK)))
  ·rw[eh];simp only[S7,Vo]at c0 c1 c2 c3;refine aA (AM (by omega) c2 ?_);rcases za k hl with⟨rfl,el⟩|⟨vl,kl,rfl,el⟩
   ·rw[el];exact aA (au (au (by simpa using hK)))
   ·rw[el];simp only[S7,Vo]at c0 c1 c2;exact aA (AM c0 (by omega) (au (by simpa using hK)))
 ·rw[em];simp only[S7,Option.isSome_some,true_implies]at c2 c3 c4;rcases za k hh with⟨rfl,eh⟩|⟨vh,kh,rfl,eh⟩
  ·cases c4
  ·rw[eh];simp only[S7]at c1 c2 c0;refine aA (AM (by omega) c3 ?_);refine aA (AM (by omega) (by omega) ?_);rcases za k hl with⟨rfl,el⟩|⟨vl,kl,rfl,el⟩
   ·rw[el];exact aA (au (au (by simpa using hK)))
   ·rw[el];simp only[S7]at c0 c1;exact aA (AM c0 (by omega) (au (by simpa using hK)))
end
def wU (n:Nat)(l:List AV)(e:End)(sz:Nat)(lo hi mx:Option Int)(k:AV->Prop):Prop:=
 l.length=n* sz/\0<=lo.getD 0/\lo.getD 0<=hi.getD n/\hi.getD n<=mx.getD n/\mx.getD n<=n/\(mx.isSome=true->hi.isSome=true)/\
 k (.sl ((hi.getD n).toNat-(lo.getD 0).toNat) ((l.drop ((lo.getD 0).toNat* sz)).take (((hi.getD n).toNat-(lo.getD 0).toNat)* sz))
  (if mx.isSome&&mx.getD n==hi.getD n then .exact else if lo.getD 0==0&&hi.getD n==n&&mx.isNone then e else .shut))
def j8 (P:SI)(t:TypeId):Option (TypeId×Nat):=match P.underlying t with
 |some (.slice e)=>(P.info? e).map λi=>(e,i.size)
 |_=>none
def wQ (P:SI)(t:TypeId):Option (Nat×Nat):=match P.underlying t with
 |some (.array n e)=>(P.info? e).map λi=>(n,i.size)
 |_=>none
open Go.Conc
section
variable {lv:Bool}{P:SI}{r:Option Nat}{o:Tu}{s:AS}{next:AS->Prop}{bad:AV->AS->Prop}
theorem aoV{t e:TypeId}{x:Ti}{lo hi mx:Option Ti}{l h m:Option Int}{n sz:Nat}{li:List AV}{en:End}(ho:o.op=.slice t x lo hi mx)(ht:j8 P t=some (e,sz))(hx:s.ev x=some (.sl n li en))(hl:s.iV lo=some l)(hh:s.iV hi=some h)(hm:s.iV mx=some m)
  {k:AV->Prop} (hc:wU n li en sz l h m k):∃av,dz lv P r o s av/\k av:=by
 obtain⟨hlen,c0,c1,c2,c3,c4,hk⟩:=hc;refine⟨_,iQ (λE V a hc aG=> ?_),hk⟩;have hd:=aq.ev aG hx;generalize hv:a.eval x=v at hd;unfold j8 at ht;split at ht
 ·rename_i e' hu;obtain⟨i,cw,ht⟩:=kH ht;cases ht;unfold execOp;rw[ho];simp only[hv];refine aA ?_;unfold Yk;refine dZ hu ?_;dsimp only;unfold ZW;refine dZ hu ?_;obtain⟨base,cap,rfl⟩:∃base cap,v=.slice base n cap:=by
   cases hd with
   |sl b o cap f dP he q1 q2=>exact⟨_,_,rfl⟩
   |nil he=>exact⟨_,_,rfl⟩
  have dP:n<=cap:=by
   cases hd with
   |sl b o cap f dP he q1 q2=>exact dP
   |nil he=>exact SQ _
  dsimp only;have hmm:m.getD (cap:Int)=if m.isSome then m.getD n else cap:=by cases m<;>simp
  refine aA (Nm aG hl hh hm dP c0 c1 ?_ ?_ c4 ?_)
  ·cases m with
   |none=>simp only[Vo]at c2⊢;omega
   |some m=>simpa using c2
  ·cases m with
   |none=>simp
   |some m=>simp only[S7]at c3⊢;omega
  refine jL cw ?_;refine au (au ⟨rfl,_,rfl,?_⟩);generalize hA:(l.getD 0).toNat=A;generalize hB:(h.getD (n:Int)).toNat=B;have QD:A<=B:=by omega
  have hBn:B<=n:=by omega
  generalize hM:(m.getD (cap:Int)).toNat=M;have hBM:B<=M:=by
   cases m with
   |none=>simp only[Vo]at hM;omega
   |some m=>simp only[S7]at hM c2;omega
  cases hd with
  |nil he=>
   have Fe:A=0:=(by omega);have hB0:B=0:=(by omega);have hM0:M=0:=by
    cases m with
    |none=>simp only[Vo]at hM;omega
    |some m=>simp only[S7]at hM c3;omega
   rw[Fe,hB0,hM0];simp only[if_true,ZV,ZZ,aj_];refine .nil ?_;split
   ·rfl
   ·split
    ·exact he
    ·trivial
  |sl b o cap f dP he q1 q2=>
   have Cd:(if M=A then some (⟨b,o,none⟩:U5)else(some (⟨b,o,none⟩:U5)).map λx=>x.add (A* i.size))=some ⟨b,if M=A then o else o+A* i.size,none⟩:=by
    split
    ·rfl
    ·simp only[UP,add_plain]
   rw[Cd];have hb:(B-A)* i.size+A* i.size<=n* i.size:=(by rw[<- Vd];exact Uh _ (by omega));refine .sl b _ (M-A) (λj=>f (A* i.size+j)) (by omega) ?_ (λj hj=> ?_) (λj y hj=> ?_)
   ·split
    ·rename_i hx;simp only[Tg,beq_iff_eq]at hx;cases m with
     |none=>simp at hx
     |some m=>
      simp only[S7]at hM hx;show M-A=B-A;omega
    ·split
     ·rename_i hx;simp only[Tg,beq_iff_eq]at hx;obtain⟨⟨x1,x2⟩,x3⟩:=hx;have:A=0:=(by omega);have:B=n:=(by omega);cases m with
      |some m=>cases x3
      |none=>
       simp only[Vo]at hM;have hMc:M=cap:=(by omega);subst hMc;have e1:M-A=M:=(by omega);have e2:B-A=n:=(by omega);have e3:(if M=A then o else o+A* i.size)=o:=(by split<;>simp_all);rw[e1,e2,e3];exact he
     ·trivial
   ·simp only[T4,Ul]at hj;have hMA:M≠A:=by
     intro e;have:B-A=0:=(by omega);rw[this]at hj;omega
    rw[if_neg hMA,U0];exact q1 _ (by omega)
   ·rw[Uf]at hj;split at hj
    ·rw[Uo]at hj;exact q2 _ _ hj
    ·cases hj
 ·cases ht
def si (id off n cap sz:Nat)(lo hi mx:Option Int)(k:AV->Prop):Prop:=
 n<=cap/\0<=lo.getD 0/\lo.getD 0<=hi.getD n/\hi.getD n<=mx.getD cap/\mx.getD cap<=cap/\(mx.isSome=true->hi.isSome=true)/\(lo.getD 0=0\/lo.getD 0<mx.getD cap)/\
 k (.bh id (off+(lo.getD 0).toNat* sz) ((hi.getD n).toNat-(lo.getD 0).toNat) ((mx.getD cap).toNat-(lo.getD 0).toNat))
theorem aoX{t e:TypeId}{x:Ti}{lo hi mx:Option Ti}{l h m:Option Int}{id off n cap sz:Nat}(ho:o.op=.slice t x lo hi mx)(ht:j8 P t=some (e,sz))(hx:s.ev x=some (.bh id off n cap))(hl:s.iV lo=some l)(hh:s.iV hi=some h)(hm:s.iV mx=some m)
  {k:AV->Prop} (hc:si id off n cap sz l h m k):∃av,dz lv P r o s av/\k av:=by
 obtain⟨hlen,c0,c1,c2,c3,c4,c5,hk⟩:=hc;refine⟨_,iQ (λE V a hc aG=> ?_),hk⟩;have hd:=aq.ev aG hx;generalize hv:a.eval x=v at hd;unfold j8 at ht;split at ht
 ·rename_i e' hu;obtain⟨i,cw,ht⟩:=kH ht;cases ht;unfold execOp;rw[ho];simp only[hv];refine aA ?_;unfold Yk;refine dZ hu ?_;dsimp only;unfold ZW;refine dZ hu ?_;cases hd with
  |bh bR dP=>
   rename_i cap';obtain rfl:cap=cap':=dP.2.1 hlen;dsimp only;refine aA (Nm aG hl hh hm hlen c0 c1 c2 c3 c4 ?_);refine jL cw ?_;refine au (au ⟨rfl,_,rfl,?_⟩);have Cd:(if(m.getD (cap:Int)).toNat=(l.getD 0).toNat then some (⟨E.blk id,off,none⟩:U5)else(some (⟨E.blk id,off,none⟩:U5)).map λx=>x.add ((l.getD 0).toNat* i.size))=some ⟨E.blk id,off+(l.getD 0).toNat* i.size,none⟩:=by
    split
    ·have:(l.getD 0).toNat=0:=(by omega);rw[this];simp
    ·simp only[UP,add_plain]
   rw[Cd];exact .bh bR ⟨by dsimp only;omega,λ_=>rfl,λh=>absurd h (by omega)⟩
 ·cases ht
theorem aoW{t:TypeId}{x:Ti}{lo hi mx:Option Ti}{l h m:Option Int}{id off n sz:Nat}(ho:o.op=.slice t x lo hi mx)(ht:wQ P t=some (n,sz))(hx:s.ev x=some (.op id off))(hl:s.iV lo=some l)(hh:s.iV hi=some h)(hm:s.iV mx=some m)
  {k:AV->Prop} (hc:si id off n n sz l h m k):∃av,dz lv P r o s av/\k av:=by
 obtain⟨hlen,c0,c1,c2,c3,c4,c5,hk⟩:=hc;refine⟨_,iQ (λE V a hc aG=> ?_),hk⟩;have hd:=aq.ev aG hx;generalize hv:a.eval x=v at hd;unfold wQ at ht;split at ht
 ·rename_i m' e' hu;obtain⟨i,cw,ht⟩:=kH ht;cases ht;unfold execOp;rw[ho];simp only[hv];refine aA ?_;unfold Yk;refine dZ hu ?_;cases hd with
  |op bR=>
   dsimp only;unfold Va;refine aA (au ?_);refine aA (Nm aG hl hh hm hlen c0 c1 c2 c3 c4 ?_);refine jL cw ?_;refine au (au ⟨rfl,_,rfl,?_⟩);have Cd:(if(m.getD (n:Int)).toNat=(l.getD 0).toNat then(⟨E.blk id,off,none⟩:U5)else(⟨E.blk id,off,none⟩:U5).add ((l.getD 0).toNat* i.size))=⟨E.blk id,off+(l.getD 0).toNat* i.size,none⟩:=by
    split
    ·have:(l.getD 0).toNat=0:=(by omega);rw[this];simp
    ·rw[add_plain]
   rw[Cd];exact .bh bR ⟨by dsimp only;omega,λ_=>rfl,λh=>absurd h (by omega)⟩
 ·cases ht
theorem aqF{c:Xp}{x y:Ti}{t t' e:TypeId}{id off n cap sz m:Nat}{l l':List AV}{el:TypeId}{av:AV}(ho:o.op=.call c)(aX:c.callee=.builtin .copy)(cJ:c.args=#[x,y]) (cM:c.argTypes=#[t,t']) (ht:j8 P t=some (e,sz)) (hx:s.ev x=some (.bh id off n cap))
  (hk:s.H[id]?=some (.cells l el)) (hy:s.ev y=some av) (hs:s.src sz av=some (m,l')) (eB:l'.length=m* sz) (hl:off+min m n* sz<=l.length) (nm:∀a∈l',a.leaf=true)
  (hn:next ((⟨s.T,s.H.set id (.cells (iB l off (l'.take (min m n* sz))) el)⟩:AS).put o.dst (.val (.int .i64 (min m n:Nat))))):Step lv P r o s next bad:=by
 intro E V a N Q hc aG hd bx h1 _;refine⟨bx,?_⟩;have dt:=aq.ev aG hx;have iI:=aq.ev aG hy;generalize j3:a.eval x=vx at dt;generalize rF:a.eval y=vy at iI;unfold execOp;rw[ho];dsimp only;unfold resolve;rw[aX];dsimp only;refine aA (au ?_);unfold invoke builtin;dsimp only;refine aA ?_;have nq:c.args.map a.eval=#[vx,vy]:=by rw[cJ];simp[j3,rF]
 rw[nq,cM];unfold j8 at ht;split at ht
 ·rename_i e' hu;obtain⟨i,cw,ht⟩:=kH ht;cases ht;cases dt with
  |bh bR _=>
   obtain⟨⟨cs,p1,p2⟩,p3⟩:=hc.obj id _ hk;obtain⟨g1,g2⟩:=hc.ja hk rfl;unfold at1;simp only[Vf,Vq,UN];refine dZ hu ?_;dsimp only;rw[Hv iI hs];refine aA (au ?_);refine jL cw ?_;refine aA (Dy hc iI hs eB (ZE _ _) λjl kL=> ?_);have h2:(l'.take (min m n* i.size)).length=min m n* i.size:=by
    have:min m n* i.size<=m* i.size:=Uh _ (ZE _ _);simp;omega
   refine aA (AN _ 0 V cs g1 g2 p1 (λo _ _=>p3 o) (by
    have hq:jl.size=min m n* i.size:=(by(rw[kL.1];exact h2));have:=p2.1;simp only[Array.length_toList];omega) (BP kL (λa ha=>nm a (Wq ha))) ?_)
   rw[UD];refine au (au (h1 E _ (a.put o.dst _) _ ⟨Env.Le.refl E,dU _ _ _,put_defers _ _ _,rfl,rfl⟩ (by rw[eZ];exact hc.set hk (IX p2 kL (by rw[h2];exact hl)))
    (bZ.gR (s:=⟨s.T,s.H.set id (.cells (iB l off (l'.take (min m n* i.size))) el)⟩) aG hd (.val _)) hn))
 ·cases ht
def Bd (P:SI)(t:TypeId):Option (TypeId×Nat×SO):=match P.underlying t with
 |some (.slice e)=>(P.info? e).bind λi=>i.zero.bind λz=>if z.cells.size=i.size/\i.bytes<=2^16 then some (e,i.size,z)else none
 |_=>none
theorem acN{t e:TypeId}{x y:Ti}{n sz:Nat}{z:SO}{k k':TY}(ho:o.op=.makeSlice t x y)(ht:Bd P t=some (e,sz,z))(hx:s.ev x=some (.val (.int k n)))(hy:s.ev y=some (.val (.int k' n)))(hb:n<=2^30)
  (hn:next ((⟨s.T,s.H++[.cells (gH z (n* sz)) e]⟩:AS).put o.dst (.bh s.H.length 0 n n))):Step lv P r o s next bad:=by
 intro E V a N Q hc aG hd bx h1 _;refine⟨bx,?_⟩;have dt:=aq.ev aG hx;have iI:=aq.ev aG hy;generalize j3:a.eval x=vx at dt;generalize rF:a.eval y=vy at iI;cases dt;cases iI;unfold Bd at ht;split at ht
 ·rename_i e' hu;obtain⟨i,q1,ht⟩:=Te.1 ht;obtain⟨z',q2,ht⟩:=Te.1 ht;split at ht
  ·rename_i xF;cases ht;unfold execOp;rw[ho];simp only[j3,rF];refine aA ?_;unfold Instr.makeSlice;refine dZ hu ?_;dsimp only;refine aA (au ?_);refine aA (au ?_);refine yz q1 ?_;have hw:SD.wrap (n:Int)=n:=bB _ (by omega);rw[hw];have hmul:i.bytes* n<=2^16* 2^30:=ZK xF.2 hb;have atk:(i.bytes:Int)* n<=2^46:=(by exact_mod_cast hmul);rw[if_neg (by simp;omega)];refine aA (acd ?_);refine jL q1 ?_;rw[VO];have fin:∀(zero:Array SO),(∀j,j<n* i.size->zero[j % zero.size]! =z.cells[j % z.cells.size]!)->aP P V (do let a<- newRow e ((WG (n* i.size)).map (zero[· % zero.size]!));pure (Us (some a) n n)) (λx V'=>aP P V' (pure (W3 x)) (mr lv P r o a N Q) (λv V'=>Q (.panic [{v,recovered:=false}]) a V')) (λv V'=>Q (.panic [{v,recovered:=false}]) a V'):=by
    intro zero hz;unfold newRow;refine aA (aA (oA λrr hf=>cE (au (au (au ?_)))));have hle:E.Le (E.add rr V.ah):=E.qq rr (λb o v h=>by rw[<- hc.I];exact h);have ajG:(WG (n* i.size)).map (zero[· % zero.size]!)=(WG (n* i.size)).map (λx=>z.cells[x % z.cells.size]!):=by
     apply VB;simp only[VI];apply Vz;intro j hj;exact hz j (by simpa using hj)
    rw[ajG];have aY:Conc (E.add rr V.ah) (V.upd rr (.cells ((WG (n* i.size)).map (λx=>z.cells[x % z.cells.size]!)) e)) (s.H++[.cells (gH z (n* i.size)) e]):=by
     refine hc.add hf _ ⟨⟨_,?_,IY z _⟩,λo=> ?_⟩ (λb e=> ?_)
     ·rw[Env.dK];simp[View.upd]
     ·rw[Env.dK];exact hf.2 o
     ·simp only[bL,Env.dK,Tj]at e;exact e.symm
    have bp:aq (E.add rr V.ah) (.bh s.H.length 0 n n) (.slice (some ⟨rr,0,none⟩) n n):=by
     have:=aq.bh (E:=E.add rr V.ah) (id:=s.H.length) (off:=0) (n:=n) (cap:=n) (cap':=n) (by show _<E.n+1;rw[hc.n];omega) ⟨SQ _,λ_=>rfl,λh=>absurd h (Nat.lt_irrefl _)⟩;have e:(E.add rr V.ah).blk s.H.length=rr:=(by rw[<- hc.n];exact E.dK rr _);rwa [e]at this
    exact h1 _ _ (a.put o.dst _) ((⟨s.T,s.H++[.cells (gH z (n* i.size)) e]⟩:AS).put o.dst (.bh s.H.length 0 n n)) ⟨hle,dU _ _ _,put_defers _ _ _,rfl,rfl⟩ (by rw[eZ];exact aY)
     (bZ.gR (s:=⟨s.T,s.H++[.cells (gH z (n* i.size)) e]⟩) (aG.mono hle) hd bp) hn
   by_cases h0:n* i.size=0
   ·rw[if_pos h0];refine aA (au ?_);exact fin #[] (λj hj=>by omega)
   ·rw[if_neg h0];refine aA (aA ?_);unfold typeInfo;refine aA (qx (cE ?_));rw[q1];refine au ?_;rw[q2];refine au (aA (au ?_));exact fin z.cells (λj _=>rfl)
  ·cases ht
 ·cases ht
def AV.AC:AV->Option SO
 |.val x=>some x
 |_=>none
def AV.raw:AV->Option SO
 |.val x=>some x
 |.agg l=>(l.mapM AV.AC).map λvs=> .agg vs.toArray
 |_=>none
theorem aq.AC{E:Env}{a:AV}{v x:SO}(h:aq E a v)(hr:a.AC=some x):v=x:=by
 cases h<;>cases hr;rfl
theorem aq.raw{E:Env}{a:AV}{v x:SO}(h:aq E a v)(hr:a.raw=some x):v=x:=by
 cases h with
 |val=>cases hr;rfl
 |agg hs h=>
  obtain⟨vs,h1,rfl⟩:=kH hr;congr 1;rename_i l cs;have key:∀(l:List AV)(vs:List SO)(cs:List SO),l.mapM AV.AC=some vs->cs.length=l.length->(∀(i:Nat) a,l[i]?=some a->aq E a (cs.getD i undef))->cs=vs:=by
   intro l;induction l with
   |nil=>intro vs cs h1 h2 _;simp at h1;subst h1;simpa using h2
   |cons a l ih=>
    intro vs cs h1 h2 h3;simp only[Ua,Uj,TN,Te,Tj]at h1;obtain⟨b,e1,bs,e2,rfl⟩:=h1;cases cs with
    |nil=>simp at h2
    |cons c cs=>
     have hc:=(h3 0 a rfl).AC e1;have:=ih bs cs e2 (by simpa using h2) (λi x hx=>by simpa using h3 (i+1) x (by simpa using hx));subst this;simp only[Xn]at hc;rw[hc]
  have:=key l vs cs.toList h1 (by simpa using hs) (λi a e=>by have:=h i a e;rw[SH]at this;simpa[SE]using this);rw[<- this]
 |_=>cases hr
def zl:SO->SO->Bool
 |.agg _,.agg _=>true
 |.bool _,.bool _=>true
 |_,_=>false
theorem aoy{op:VX}{xt yt:TypeId}{x y:Ti}{a b:AV}{X Y:SO}{e:Bool}(ho:o.op=.binOp op xt x y yt)(az:op=.eql\/op=.neq)(hx:s.ev x=some a)(hy:s.ev y=some b)(hX:a.raw=some X)(hY:b.raw=some Y)(hk:zl X Y=true)(hg:P.eqGuardType P.depth xt=false)(he:cI P (Xo xt X Y) e):
  dz lv P r o s (.val (.bool (if op== .neq then !e else e))):=
 iQ (λE V ac hc aG=>by
  have e1:=(aq.ev aG hx).raw hX;have e2:=(aq.ev aG hy).raw hY;unfold execOp;rw[ho];simp only[e1,e2];refine aA ?_;have guard:∀{K:Unit->View->Prop},K () V->aP P V (eqGuard op xt x y X Y) K (λ_ _=>False):=λhK=>by
   unfold eqGuard;unfold zl at hk;split at hk
   ·rcases az with rfl|rfl
    all_goals
     simp only[ai',TM,if_false];refine aA (qx (cE ?_));refine aA (qx (cE ?_));rw[hg];exact au hK
   ·rcases az with rfl|rfl<;>exact au hK
   ·cases hk
  refine aA (guard ?_);unfold zl at hk;split at hk
  ·rcases az with rfl|rfl<;>(unfold binOp;refine he.bind (au (au ⟨rfl,_,rfl,?_⟩));exact .val _)
  ·rcases az with rfl|rfl<;>(unfold binOp;refine he.bind (au (au ⟨rfl,_,rfl,?_⟩));exact .val _)
  ·cases hk)
theorem ag6{t:TypeId}{v:SO}{b:Bool}{V:View}{K:Bool->View->Prop}{Kp:SO->View->Prop}(ht:l9 P t=some true)(hv:(v=.nilIface/\b=true)\/((∃u x,v=.iface u x)/\b=false))(hk:K b V):aP P V (Xo t v .nilIface) K Kp:=by
 obtain⟨el,hu⟩:∃el,P.underlying t=some (.interface el):=by
  unfold l9 at ht;cases h:P.underlying t with
  |none=>rw[h]at ht;cases ht
  |some d=>
   rw[h]at ht;cases d<;>first|exact⟨_,rfl⟩|(simp at ht)
 have e:Xo t v .nilIface=Vw (9999+1) t v .nilIface:=rfl;rw[e,Vw];refine dZ hu ?_;rcases hv with⟨rfl,rfl⟩|⟨⟨u,x,rfl⟩,rfl⟩
 ·exact au hk
 ·exact au hk
theorem abO{op:VX}{xt yt:TypeId}{x:Ti}{a:AV}{b:Bool}(ho:o.op=.binOp op xt x (.const .nilIface) yt)(az:op=.eql\/op=.neq)(hx:s.ev x=some a)(ha:(a=.val .nilIface/\b=true)\/((∃u y,a=.cY u y)/\b=false))(ht:l9 P xt=some true):
  dz lv P r o s (.val (.bool (if op== .neq then !b else b))):=
 iQ (λE V ac hc aG=>by
  have hd:=aq.ev aG hx;generalize j3:ac.eval x=vx at hd;have hv:(vx=.nilIface/\b=true)\/((∃u y,vx=.iface u y)/\b=false):=by
   rcases ha with⟨rfl,rfl⟩|⟨⟨u,y,rfl⟩,rfl⟩
   ·cases hd;exact .inl ⟨rfl,rfl⟩
   ·cases hd;exact .inr ⟨⟨_,_,rfl⟩,rfl⟩
  have hy:ac.eval (.const .nilIface)=.nilIface:=rfl;unfold execOp;rw[ho];simp only[j3,hy];refine aA ?_;have guard:∀{K:Unit->View->Prop},K () V->aP P V (eqGuard op xt x (.const .nilIface) vx .nilIface) K (λ_ _=>False):=λhK=>by
   unfold eqGuard;rcases hv with⟨rfl,_⟩|⟨⟨u,y,rfl⟩,_⟩<;>rcases az with rfl|rfl<;>first|exact au hK|(simp;exact au hK)
  refine aA (guard ?_);rcases hv with⟨rfl,rfl⟩|⟨⟨u,y,rfl⟩,rfl⟩<;>rcases az with rfl|rfl<;>(unfold binOp;refine aA (ag6 (b:=_) ht (by first|exact .inl ⟨rfl,rfl⟩|exact .inr ⟨⟨_,_,rfl⟩,rfl⟩) (au (au ⟨rfl,_,rfl,?_⟩)));exact .val _))
theorem PP{t:TypeId}{d:TypeId×Nat}{b:Option U5}{n cap:Nat}{V:View}{K:Bool->View->Prop}{Kp:SO->View->Prop}(ht:j8 P t=some d)(hk:K b.isNone V):aP P V (Xo t (.slice b n cap) (.slice none 0 0)) K Kp:=by
 obtain⟨el,hu⟩:∃el,P.underlying t=some (.slice el):=by
  unfold j8 at ht;split at ht
  ·rename_i e he;exact⟨e,he⟩
  ·cases ht
 have e:Xo t (.slice b n cap) (.slice none 0 0)=Vw (9999+1) t (.slice b n cap) (.slice none 0 0):=rfl;rw[e,Vw];refine dZ hu ?_;cases b with
 |none=>exact au hk
 |some a=>exact au hk
theorem aqM{op:VX}{t yt:TypeId}{x:Ti}{n:Nat}{av:AV}{d:TypeId×Nat}(ho:o.op=.binOp op t x (.const (.slice none 0 0)) yt)(az:op=.eql\/op=.neq)(hx:s.ev x=some av)(hlen:av.len=some n)(ht:j8 P t=some d)
  (hn:∀b:Bool,(0<n->b=false)->next (s.put o.dst (.val (.bool (if op== .neq then !b else b))))):Step lv P r o s next bad:=by
 intro E V a N Q hc aG hd bx h1 _;refine⟨bx,?_⟩;have dt:=aq.ev aG hx;generalize j3:a.eval x=vx at dt;obtain⟨base,cap,rfl,hb⟩:∃base cap,vx=.slice base n cap/\(0<n->base.isNone=false):=by
  cases dt with
  |sl b o cap f dP he q1 q2=>cases hlen;exact⟨_,_,rfl,λ_=>rfl⟩
  |nil he=>cases hlen;exact⟨_,_,rfl,λh=>absurd h (by omega)⟩
  |bh hi=>cases hlen;exact⟨_,_,rfl,λ_=>rfl⟩
  |_=>cases hlen
 unfold execOp;rw[ho];have hy:a.eval (.const (.slice none 0 0))=.slice none 0 0:=rfl;simp only[j3,hy];have fin:aP P V (pure (W3 (.bool (if op== .neq then !base.isNone else base.isNone)))) (mr lv P r o a N Q) (λv V'=>Q (.panic [{v,recovered:=false}]) a V'):=
  au (h1 E V (a.put o.dst _) _ ⟨Env.Le.refl E,dU _ _ _,put_defers _ _ _,rfl,rfl⟩ (by rw[eZ];exact hc) (aG.gR hd (.val _)) (hn _ hb))
 rcases az with rfl|rfl
 ·refine aA (aA (au ?_));unfold binOp;exact aA (PP ht (au fin))
 ·refine aA (aA (au ?_));unfold binOp;exact aA (PP ht (au fin))
theorem aoN{c:Xp}{x y:Ti}{k j:TY}{m n:Int}(ho:o.op=.call c)(aX:c.callee=.builtin .max)(cJ:c.args=#[x,y]) (hx:s.ev x=some (.val (.int k m))) (hy:s.ev y=some (.val (.int j n))):dz lv P r o s (.val (.int k (if n>m then n else m))):=
 rQ (λE V a hc aG=>by
  have h1:=aq.ev aG hx;have h2:=aq.ev aG hy;generalize pi:a.eval x=v1 at h1;generalize td:a.eval y=v2 at h2;cases h1;cases h2;refine⟨_,?_,.val _⟩;unfold execOp;rw[ho];dsimp only;unfold resolve;rw[aX];have nq:c.args.map a.eval=#[.int k m,.int j n]:=by rw[cJ];simp[pi,td]
  rw[nq];rfl)
theorem aoO{c:Xp}{x y:Ti}{k j:TY}{m n:Int}(ho:o.op=.call c)(aX:c.callee=.builtin .min)(cJ:c.args=#[x,y]) (hx:s.ev x=some (.val (.int k m))) (hy:s.ev y=some (.val (.int j n))):dz lv P r o s (.val (.int k (if n<m then n else m))):=
 rQ (λE V a hc aG=>by
  have h1:=aq.ev aG hx;have h2:=aq.ev aG hy;generalize pi:a.eval x=v1 at h1;generalize td:a.eval y=v2 at h2;cases h1;cases h2;refine⟨_,?_,.val _⟩;unfold execOp;rw[ho];dsimp only;unfold resolve;rw[aX];have nq:c.args.map a.eval=#[.int k m,.int j n]:=by rw[cJ];simp[pi,td]
  rw[nq];rfl)
theorem abN{x:Ti}{xt aE t:TypeId}{ok:Bool}{av:AV}{z:SO}(ho:o.op=.typeAssert x xt aE ok)(ht:l9 P aE=some false)(hz:eE P aE=some z)(hx:s.ev x=some (.cY t av))(ay:ok=true\/t=aE):
  dz lv P r o s (if t=aE then(if ok then .aN [av,.val (.bool true)]else av)else .aN [AV.of z,.val (.bool false)]):=
 iQ (λE V a hc aG=>by
  have hd:=aq.ev aG hx;generalize hv:a.eval x=v at hd;cases hd with
  |cY hd=>
   obtain⟨d,hu,iZ⟩:=kH ht;unfold execOp;rw[ho];simp only[hv];refine aA ?_;unfold Zj;refine dZ hu ?_;split
   ·rename_i h;cases iZ
   ·rename_i h;cases iZ
   ·rename_i h;cases h
   ·rename_i t' v' h;cases h;by_cases e:t=aE
    ·rw[if_pos e,if_pos e];cases ok
     ·exact au (au ⟨rfl,_,rfl,hd⟩)
     ·refine au (au ⟨rfl,_,rfl,.aN rfl λi b hb=> ?_⟩)
      match i,hb with
      |0,hb=>cases hb;exact hd
      |1,hb=>cases hb;exact .val _
    ·rw[if_neg e,if_neg e];have nv:ok=true:=ay.resolve_right e;subst nv;simp only[if_true];refine aA (aA ?_);unfold eE at hz;obtain⟨inf,z1,z2⟩:=Te.1 hz;unfold typeInfo;refine aA (qx (cE ?_));rw[z1];refine au ?_;rw[z2];refine au (au (au ⟨rfl,_,rfl,.aN rfl λi b hb=> ?_⟩))
     match i,hb with
     |0,hb=>cases hb;exact sC E z
     |1,hb=>cases hb;exact .val _
   ·exfalso;simp_all)
theorem aos{x:Ti}{xt aE:TypeId}{z:SO}(ho:o.op=.typeAssert x xt aE true)(ht:l9 P aE=some false)(hz:eE P aE=some z)(hx:s.ev x=some (.val .nilIface)):dz lv P r o s (.aN [AV.of z,.val (.bool false)]):=
 iQ (λE V a hc aG=>by
  have hd:=aq.ev aG hx;generalize hv:a.eval x=v at hd;cases hd;obtain⟨d,hu,iZ⟩:=kH ht;unfold execOp;rw[ho];simp only[hv];refine aA ?_;unfold Zj;refine dZ hu ?_;unfold eE at hz;obtain⟨inf,z1,z2⟩:=Te.1 hz;split
  ·rename_i h;cases iZ
  ·rename_i h;cases h
  ·simp only[if_true];refine aA (aA ?_);unfold typeInfo;refine aA (qx (cE ?_));rw[z1];refine au ?_;rw[z2];refine au (au (au ⟨rfl,_,rfl,.aN rfl λi b hb=> ?_⟩))
   match i,hb with
   |0,hb=>cases hb;exact sC E z
   |1,hb=>cases hb;exact .val _
  ·rename_i h;cases h
  ·exfalso;simp_all)
def Ig (P:SI)(t:TypeId)(name:String):Prop:=∀v,cI P (nilAhead (P.types.size+Made.depth) t v name) (some false)
theorem aoR{x:Ti}{name:String}{t:TypeId}{av:AV}(ho:o.op=.nilCheck x)(hx:s.ev x=some (.fn (.method name) [.cY t av] []))(hn:Ig P t name):dz lv P r o s (.fn (.method name) [.cY t av] []):=
 iQ (λE V a hc aG=>by
  have hd:=aq.ev aG hx;unfold execOp;rw[ho];dsimp only;generalize hv:a.eval x=v at hd⊢;have cu:=hd;cases hd with
  |fn dE fN h1 h2=>
   rename_i fa ca;have hfa:fa.size=1:=dE;have:=h1 0 _ rfl;rw[SH,SJ (by omega)]at this;simp only[S7]at this;have hg:fa[0]?=some fa[0]:=SJ (by omega);generalize hq:fa[0]=q at this hg;cases this with
   |cY jw=>
    dsimp only;rw[hg];dsimp only;refine aA (qx (cE ?_));refine(hn _).bind ?_;simp only[bne_self_eq_false,TM,if_false];exact au ⟨rfl,_,rfl,cu⟩)
def oI (P:SI)(t:TypeId):Option (TypeId×TypeId):=match P.underlying t with
 |some (.map k e)=>some (k,e)
 |_=>none
def wA (es:Array Wh)(ck:Nat)(k x:SO):Option (Nat×SO)->Obj
 |none=> .map (es.push {key:=k,val:=x,born:=ck}) (ck+1)
 |some (i,_)=> .map (es.modify i λe=>{e with key:=k,val:=x}) ck
theorem aqI{t kt et:TypeId}{m k x:Ti}{id ck:Nat}{es:Array Wh}{a b:AV}{K X:SO}{fd:Option (Nat×SO)}(ho:o.op=.mapUpdate t m k x\/o.op=.insert t m k x)(ht:oI P t=some (kt,et))(hm:s.ev m=some (.mp id))(hk:s.ev k=some a)(hx:s.ev x=some b)(hK:a.raw=some K)(hX:b.raw=some X)
  (hH:s.H[id]?=some (.obj (.map es ck))) (hc:cI P (Vb false 10000 kt K) ()) (hf:cI P (VM kt K es.toList) fd) (F7:∀i v,fd=some (i,v)->Wy 10000 (((es[i]?).map (·.key)).getD K) K=true)
  (hn:next ((⟨s.T,s.H.set id (.obj (wA es ck K X fd))⟩:AS).put o.dst (.val undef))):Step lv P r o s next bad:=by
 intro E V ac N Q iY aG hd bx h1 _;refine⟨bx,?_⟩;have e1:=(aq.ev aG hk).raw hK;have e2:=(aq.ev aG hx).raw hX;have oU:=aq.ev aG hm;generalize x7:ac.eval m=vm at oU;cases oU;obtain⟨p1,p2,p3,p4⟩:=iY.obj id _ hH;obtain⟨g1,g2⟩:=iY.ja hH rfl;have go:aP P V (do Zs t (.map (some (E.blk id))) K X;pure Next.skip) (mr lv P r o ac N Q) (λv V'=>Q (.panic [{v,recovered:=false}]) ac V'):=by
  refine aA ?_;unfold oI at ht;split at ht
  ·rename_i k' e' hu;cases ht;unfold Zs;refine dZ hu ?_;dsimp only;refine aA (nK p1 p2 p3 g2 (cE ?_));dsimp only;refine hc.bind (hf.bind ?_);have fin:∀y,y=wA es ck K X fd->aP P V (setObj (E.blk id) y) (λ_ V'=>aP P V' (pure Next.skip) (mr lv P r o ac N Q) (λv V'=>Q (.panic [{v,recovered:=false}]) ac V')) (λv V'=>Q (.panic [{v,recovered:=false}]) ac V'):=λy hy=>by
    have uH:y.uL=false:=(by rw[hy];cases fd<;>rfl);have hy2:y.isChan=false:=(by rw[hy];cases fd<;>rfl);refine yy p1 p2 hy2 g2 (cE (au ?_));exact h1 E _ (ac.put o.dst undef) _ ⟨Env.Le.refl E,dU _ _ _,put_defers _ _ _,rfl,rfl⟩ (by rw[eZ];rw[hy];exact iY.setObj hH (by cases fd<;>rfl) (by cases fd<;>rfl))
     (bZ.gR (s:=⟨s.T,s.H.set id (.obj (wA es ck K X fd))⟩) aG hd (.val undef)) hn
   cases fd with
   |none=>exact fin _ rfl
   |some iv=>
    obtain⟨i,v⟩:=iv;dsimp only;unfold Instr.keyThatStays;rw[F7 i v rfl];simp only[if_true];exact aA (au (fin _ rfl))
  ·cases ht
 unfold execOp;rcases ho with ho|ho
 all_goals
  rw[ho];simp only[x7,e1,e2];exact go
def EH (es:Array Wh):Option (Nat×SO)->Array Wh
 |some (i,_)=>es.eraseIdxIfInBounds i
 |none=>es
theorem aqG{c:Xp}{t t' kt et:TypeId}{m k:Ti}{id ck:Nat}{es:Array Wh}{a:AV}{K:SO}{fd:Option (Nat×SO)}(ho:o.op=.call c)(aX:c.callee=.builtin .delete)(cJ:c.args=#[m,k]) (cM:c.argTypes=#[t,t']) (ht:oI P t=some (kt,et)) (hm:s.ev m=some (.mp id)) (hk:s.ev k=some a) (hK:a.raw=some K)
  (hH:s.H[id]?=some (.obj (.map es ck))) (hc:cI P (Vb es.isEmpty 10000 kt K) ()) (hf:cI P (VM kt K es.toList) fd)
  (hn:next ((⟨s.T,s.H.set id (.obj (.map (EH es fd) ck))⟩:AS).put o.dst (.val undef))):Step lv P r o s next bad:=by
 intro E V ac N Q iY aG hd bx h1 _;refine⟨bx,?_⟩;have e1:=(aq.ev aG hk).raw hK;have oU:=aq.ev aG hm;generalize x7:ac.eval m=vm at oU;cases oU;obtain⟨p1,p2,p3,p4⟩:=iY.obj id _ hH;obtain⟨g1,g2⟩:=iY.ja hH rfl;unfold execOp;rw[ho];dsimp only;unfold resolve;rw[aX];dsimp only;refine aA (au ?_);unfold invoke builtin;dsimp only;refine aA ?_;have nq:c.args.map ac.eval=#[.map (some (E.blk id)),K]:=by rw[cJ];simp[x7,e1]
 rw[nq,cM];unfold oI at ht;split at ht
 ·rename_i k' e' hu;cases ht;unfold at0;simp only[Vf,Vq,UN];refine dZ hu ?_;dsimp only;refine aA (nK p1 p2 p3 g2 (cE ?_));dsimp only;refine hc.bind (hf.bind ?_);have fin:∀ud,ud=(EH es fd)->aP P V (setObj (E.blk id) (.map ud ck)) (λ_ V'=>aP P V' (pure (YI #[])) (λx V'=>aP P V' (pure (W3 x)) (mr lv P r o ac N Q) (λv V'=>Q (.panic [{v,recovered:=false}]) ac V')) (λv V'=>Q (.panic [{v,recovered:=false}]) ac V')) (λv V'=>Q (.panic [{v,recovered:=false}]) ac V'):=λy hy=>by
   refine yy p1 p2 rfl g2 (cE (au (au ?_)));exact h1 E _ (ac.put o.dst undef) _ ⟨Env.Le.refl E,dU _ _ _,put_defers _ _ _,rfl,rfl⟩ (by rw[eZ];rw[hy];exact iY.setObj hH rfl rfl)
    (bZ.gR (s:=⟨s.T,s.H.set id (.obj (.map (EH es fd) ck))⟩) aG hd (.val undef)) hn
  cases fd with
  |none=>exact aA (fin _ rfl)
  |some iv=>exact aA (fin _ rfl)
 ·cases ht
theorem aqL{t kt et:TypeId}{x:Ti}{m ck:Nat}{es:Array Wh}(ho:o.op=.range t x)(ht:oI P t=some (kt,et))(hx:s.ev x=some (.mp m))(hH:s.H[m]?=some (.obj (.map es ck)))
  (hn:next ((⟨s.T,s.H++[.iter m ck #[] ck]⟩:AS).put o.dst (.op s.H.length 0))):Step lv P r o s next bad:=by
 intro E V ac N Q hc aG hd bx h1 _;refine⟨bx,?_⟩;have oU:=aq.ev aG hx;generalize x7:ac.eval x=vm at oU;cases oU with
 |mp hm=>
  obtain⟨p1,p2,p3,p4⟩:=hc.obj m _ hH;obtain⟨g1,g2⟩:=hc.ja hH rfl;unfold execOp;rw[ho];simp only[x7];refine aA ?_;unfold oI at ht;split at ht
  ·rename_i k' e' hu;cases ht;unfold Instr.range;refine dZ hu ?_;refine aA (nK p1 p2 p3 g2 (cE ?_));dsimp only;refine aA (au ?_);refine aA (oA λrr hf=>cE (au (au ?_)));have hle:E.Le (E.add rr V.ah):=E.qq rr (λb o v h=>by rw[<- hc.I];exact h);have aY:Conc (E.add rr V.ah) (V.upd rr (.mapIter (some (E.blk m)) ck #[] ck)) (s.H++[.iter m ck #[] ck]):=by
    refine hc.add hf _ ⟨?_,?_,λo=> ?_⟩ (λb e=> ?_)
    ·exact Nat.lt_succ_of_lt hm
    ·rw[Env.dK,hle.blk m hm];simp[View.upd]
    ·rw[Env.dK];exact hf.2 o
    ·simp only[bL,Env.dK,Tj]at e;exact e.symm
   exact h1 _ _ (ac.put o.dst (.pointer (some ⟨rr,0,none⟩))) ((⟨s.T,s.H++[.iter m ck #[] ck]⟩:AS).put o.dst (.op s.H.length 0)) ⟨hle,dU _ _ _,put_defers _ _ _,rfl,rfl⟩ (by rw[eZ];exact aY)
    (bZ.gR (s:=⟨s.T,s.H++[.iter m ck #[] ck]⟩) (aG.mono hle) hd (Pu hc.n rr V.ah)) hn
  ·cases ht
theorem Conc.setIter{E:Env}{V:View}{H:List aa}(hc:Conc E V H){id m a c:Nat}{b:Array Nat}(hk:H[id]?=some (.iter m a b c))(a':Nat)(b':Array Nat)(c':Nat):Conc E (V.upd (E.blk id) (.mapIter (some (E.blk m)) a' b' c')) (H.set id (.iter m a' b' c')):=by
 obtain⟨p1,p2,p4⟩:=hc.obj id _ hk;refine hc.iD id (.iter m a' b' c') (Env.Le.refl E) hc.I (by simpa using hc.n) kX rfl (λ_ _ _=>rfl) (λb z hb hz=>⟨?_,λ_=>rfl⟩) ⟨p1,by simp[View.upd],p4⟩ (λb h=> .inl ⟨_,hk,h⟩);have:b≠E.blk id:=λe=>hb _ hk (by rw[e];rfl);simpa[View.upd,this]using hz
theorem aqJ{it:Ti}{id m since ck tH:Nat}{seen:Array Nat}{es:Array Wh}(ho:o.op=.next it false)(hi:s.ev it=some (.op id 0))(hI:s.H[id]?=some (.iter m since seen tH))(hM:s.H[m]?=some (.obj (.map es ck)))
  (ay:es.all (λe=>decide (e.born>=tH))=false\/es.isEmpty=true\/seen.isEmpty=true)
  (hn:∀e∈es,e.born∉seen->next ((⟨s.T,s.H.set id (.iter m since (seen.push e.born) ck)⟩:AS).put o.dst (.aN [.val (.bool true),AV.of e.key,AV.of e.val])))
  (akH:(∀e∈es,e.born<since->e.born∈seen)->next (s.put o.dst (.aN [.val (.bool false)]))):Step lv P r o s next bad:=by
 intro E V ac N Q hc aG hd bx h1 _;refine⟨bx,?_⟩;have og:=aq.ev aG hi;generalize qn:ac.eval it=vi at og;cases og with
 |op bR=>
  obtain⟨q1,q2,q3⟩:=hc.obj id _ hI;obtain⟨p1,p2,p3,p4⟩:=hc.obj m _ hM;have gi:=hc.ja hI rfl;have gm:=hc.ja hM rfl;unfold execOp;rw[ho];simp only[qn];refine aA ?_;unfold Instr.next;dsimp only;refine aA (nK q2 rfl rfl gi.2 (cE ?_));dsimp only;refine aA (nK p1 p2 p3 gm.2 (cE ?_));dsimp only;rw[if_neg (by
   intro h;simp only[Tg,TZ]at h;rcases ay with hk|hk|hk
   ·rw[hk]at h;cases h.2
   ·rw[hk]at h;cases h.1.2
   ·rw[hk]at h;cases h.1.1)]
  generalize Rc:(if((es.filter λe=> !seen.contains e.born).filter (λe=>decide (e.born<since))).isEmpty=true then#[none]else#[])++((es.filter λe=> !seen.contains e.born).filter (λe=>decide (e.born<since))++(es.filter λe=> !seen.contains e.born).filter (λe=>decide (e.born>=since))).map some=zd;have cR:∀x∈zd,match x with
    |some e=>e∈es/\e.born∉seen
    |none=>∀e∈es,e.born<since->e.born∈seen:=by
   intro x hx;rw[<- Rc]at hx;rcases Uu.1 hx with hx|hx
   ·split at hx
    ·rename_i sP;simp at hx;subst hx;intro e he hlt;apply Tt;intro iA;have:e∈((es.filter λe=> !seen.contains e.born).filter (λe=>decide (e.born<since))):=(by simp[he,hlt,iA]);rw[Ze]at sP;rw[sP]at this;simp at this
    ·simp at hx
   ·rw[Array.mem_map]at hx;obtain⟨e,he,rfl⟩:=hx;rcases Uu.1 he with he|he<;>simp at he<;>exact⟨he.1,he.2.2⟩
  have CE:0<zd.size:=by
   rw[<- Rc];split
   ·simp;omega
   ·rename_i sP;have:0<((es.filter λe=> !seen.contains e.born).filter (λe=>decide (e.born<since))).size:=by
     rw[Ze]at sP;exact Array.size_pos_iff.2 sP
    simp only[XB,Array.size_map,List.size_toArray,UR];omega
  have fin:∀j,j<zd.size->aP P V (match zd[j]?with
    |some (some e)=>do setObj (E.blk id) (.mapIter (some (E.blk m)) since (seen.push e.born) ck);pure (YI #[.bool true,e.key,e.val])
    |some none=>pure (YI #[.bool false])
    | none => stuck "Next: no such candidate") (λx V' => aP P V' (pure (W3 x)) (mr lv P r o ac N Q) (λv V' => Q (.panic [{ v, recovered := false }]) ac V')) (λv V' => Q (.panic [{ v, recovered := false }]) ac V') := by
   intro j hj;rw[SJ hj];have hm:=cR zd[j] (XU hj);generalize zd[j]=x at hm;cases x with
   |none=>
    dsimp only;refine au (au ?_);exact h1 E V (ac.put o.dst _) (s.put o.dst (.aN [.val (.bool false)])) ⟨Env.Le.refl E,dU _ _ _,put_defers _ _ _,rfl,rfl⟩ (by rw[eZ];exact hc)
     (bZ.gR aG hd (.aN rfl λi b hb=>by
      match i,hb with
      |0,hb=>cases hb;exact .val _)) (akH hm)
   |some e=>
    dsimp only;refine aA (yy q2 rfl rfl gi.2 (cE (au (au ?_))));exact h1 E _ (ac.put o.dst _) _ ⟨Env.Le.refl E,dU _ _ _,put_defers _ _ _,rfl,rfl⟩ (by rw[eZ];exact hc.setIter hI since (seen.push e.born) ck)
     (bZ.gR (s:=⟨s.T,s.H.set id (.iter m since (seen.push e.born) ck)⟩) aG hd (.aN rfl λi b hb=>by
      match i,hb with
      |0,hb=>cases hb;exact .val _
      |1,hb=>cases hb;exact sC E _
      |2,hb=>cases hb;exact sC E _)) (hn e hm.1 hm.2)
  refine aA (acf (λhf=>cE (fin 0 CE)) (λhf t=>cE (fin _ (ar_ _ CE))))
def AV.found (z:SO)(ok:Bool):Option (Nat×SO)->AV
 |some (_,v)=>if ok then .aN [AV.of v,.val (.bool true)]else AV.of v
 |none=>if ok then .aN [AV.of z,.val (.bool false)]else AV.of z
theorem aoK{t kt et:TypeId}{m k:Ti}{id ck:Nat}{es:Array Wh}{a:AV}{K z:SO}{ok:Bool}{fd:Option (Nat×SO)}(ho:o.op=.lookup t m k ok)(ht:oI P t=some (kt,et))(hz:eE P et=some z)(hm:s.ev m=some (.mp id))(hk:s.ev k=some a)(hK:a.raw=some K)
  (hH:s.H[id]?=some (.obj (.map es ck))) (hc:cI P (Vb es.isEmpty 10000 kt K) ()) (hf:cI P (VM kt K es.toList) fd):dz lv P r o s (AV.found z ok fd):=
 iQ (λE V ac iY aG=>by
  have e1:=(aq.ev aG hk).raw hK;have oU:=aq.ev aG hm;generalize x7:ac.eval m=vm at oU;cases oU;obtain⟨p1,p2,p3,p4⟩:=iY.obj id _ hH;have g:=iY.ja hH rfl;unfold oI at ht;split at ht
  ·rename_i k' e' hu;cases ht;unfold execOp;rw[ho];simp only[x7,e1];refine aA ?_;unfold Instr.lookup;refine dZ hu ?_;dsimp only;refine aA (aA (nK p1 p2 p3 g.2 (au (au ?_))));refine hc.bind (aA (hf.ok ?_));have two:∀(v:SO)(b:Bool)(i:Nat)(x:AV),[AV.of v,.val (.bool b)][i]?=some x->aq E x ((#[v,W_ b]:Array SO).getD i undef):=λv b i x hx=>by
    match i,hx with
    |0,hx=>cases hx;exact sC E _
    |1,hx=>cases hx;exact .val _
   cases fd with
   |some iv=>
    obtain⟨i,v⟩:=iv;refine au (au ⟨rfl,_,rfl,?_⟩);cases ok with
    |true=>exact .aN rfl (two v true)
    |false=>exact sC E _
   |none=>
    refine Hq hz (au (au ⟨rfl,_,rfl,?_⟩));cases ok with
    |true=>exact .aN rfl (two z false)
    |false=>exact sC E _
  ·cases ht)
theorem aox{it:Ti}{id m since ck:Nat}{seen:Array Nat}{es:Array Wh}{b:Nat}{e:Wh}(ho:o.op=.entry it)(hi:s.ev it=some (.op id 0))(hI:s.H[id]?=some (.iter m since seen ck))(hM:s.H[m]?=some (.obj (.map es ck)))
  (hb:seen.back?=some b) (he:es.find? (·.born==b)=some e):dz lv P r o s (.aN [AV.of e.key,AV.of e.val]):=
 iQ (λE V ac hc aG=>by
  have og:=aq.ev aG hi;generalize qn:ac.eval it=vi at og;cases og with
  |op bR=>
   obtain⟨q1,q2,q3⟩:=hc.obj id _ hI;obtain⟨p1,p2,p3,p4⟩:=hc.obj m _ hM;have gi:=hc.ja hI rfl;have gm:=hc.ja hM rfl;unfold execOp;rw[ho];simp only[qn];refine aA ?_;unfold Instr.entry;dsimp only;refine aA (nK q2 rfl rfl gi.2 (cE ?_));dsimp only;rw[hb];dsimp only;refine aA (nK p1 p2 p3 gm.2 (cE ?_));dsimp only;rw[if_neg (by simp)];rw[he];refine au (au ⟨rfl,_,rfl,.aN rfl λi b hb=> ?_⟩)
   match i,hb with
   |0,hb=>cases hb;exact sC E _
   |1,hb=>cases hb;exact sC E _)
end
open Go.Conc
def gJ (E:Env)(V:View)(k:AV->List aa->Prop)(kp:AV->List aa->Prop):Out->View->Prop
 |.ret v,V'=>∃av E' H',E.Le E'/\V'.role=V.role/\V'.deaf=V.deaf/\aq E' av v/\Conc E' V' H'/\k av H'
 |.panic ch,V'=>∃pv v E' H',ch=[{v,recovered:=false}]/\E.Le E'/\V'.role=V.role/\V'.deaf=V.deaf/\aq E' pv v/\Conc E' V' H'/\kp pv H'
def bm (lv:Bool)(P:SI)(f:TS)(H:List aa)(args:List AV)(k:AV->List aa->Prop)(kp:AV->List aa->Prop):Prop:=
 ∀(E:Env)(V:View)(vs:Array SO),Conc E V H->cF E args vs->Body lv P f vs .normal V (gJ E V k kp)
def Nx (lv:Bool)(P:SI)(R:Out->View->Prop):Next->View->Prop
 |.value v,V=>R (.ret v) V
 |.skip,V=>R (.ret undef) V
 |.enter f args,V=>Body lv P f args .normal V R
 |.round l f tmps assign body,V=>mO lv P (W8 l f tmps assign body .normal) V R
 |_,_=>False
def iT (lv:Bool)(P:SI)(c:AV)(H:List aa)(args:List AV)(k:AV->List aa->Prop)(kp:AV->List aa->Prop):Prop:=
 ∀(E:Env)(V:View)(cv:SO)(vs:Array SO),Conc E V H->aq E c cv->cF E args vs->
  aP P V (do let d<- U4 cv vs;invoke d.target d.args) (λnx V'=>Nx lv P (gJ E V k kp) nx V') (λv V'=>gJ E V k kp (.panic [{v,recovered:=false}]) V')
def Ef (lv:Bool)(P:SI)(c:AV)(name:String)(H:List aa)(args:List AV)(k:AV->List aa->Prop)(kp:AV->List aa->Prop):Prop:=
 ∀(E:Env)(V:View)(cv:SO)(vs:Array SO),Conc E V H->aq E c cv->cF E args vs->
  aP P V (invoke (.fn (.method name) #[]) (#[cv]++vs)) (λnx V'=>Nx lv P (gJ E V k kp) nx V') (λv V'=>gJ E V k kp (.panic [{v,recovered:=false}]) V')
theorem gJ.mono{E:Env}{V:View}{k k' kp wj:AV->List aa->Prop}(h:∀a H,k a H->k' a H)(hp:∀a H,kp a H->wj a H):∀{o V'},gJ E V k kp o V'->gJ E V k' wj o V'
 |.ret _,_,⟨av,E',H',a,b,c,d,e,f⟩=>⟨av,E',H',a,b,c,d,e,h _ _ f⟩
 |.panic _,_,⟨pv,v,E',H',a,b,c,d,e,f,g⟩=>⟨pv,v,E',H',a,b,c,d,e,f,hp _ _ g⟩
theorem Nx.mono{lv:Bool}{P:SI}{R R':Out->View->Prop}(h:∀o V,R o V->R' o V):∀{nx V},Nx lv P R nx V->Nx lv P R' nx V:=by
 intro nx V hn;cases nx with
 |value v=>exact h _ _ hn
 |skip=>exact h _ _ hn
 |enter f args=>exact Body.mono hn h
 |round l f tmps a b=>exact mO.mono hn h
 |_=>exact hn
theorem bm.mono{lv:Bool}{P:SI}{f:TS}{H:List aa}{args:List AV}{k k' kp wj:AV->List aa->Prop}(h:bm lv P f H args k kp)(hk:∀a H,k a H->k' a H)(hp:∀a H,kp a H->wj a H):bm lv P f H args k' wj:=λE V vs hc hd=>
 (h E V vs hc hd).mono λ_ _ x=>x.mono hk hp
theorem iT.mono{lv:Bool}{P:SI}{f:AV}{H:List aa}{args:List AV}{k k' kp wj:AV->List aa->Prop}(h:iT lv P f H args k kp)(hk:∀a H,k a H->k' a H)(hp:∀a H,kp a H->wj a H):iT lv P f H args k' wj:=λE V cv vs hc hd oW=>
 (h E V cv vs hc hd oW).mono (λ_ _ x=>Nx.mono (λ_ _ y=>y.mono hk hp) x) (λ_ _ y=>y.mono hk hp)
def qE (P:SI)(g:TS):Bool:=match P.funcs[g]?with
 | some fn => fn.body.isSome && !(fn.name == "runtime.NumGoroutine")
 |none=>false
theorem apP{lv:Bool}{P:SI}{V:View}{g:TS}{vs:Array SO}{R:Out->View->Prop}{Kp:SO->View->Prop}(hg:qE P g=true)(h:Body lv P g vs .normal V R):aP P V (callFunc g vs) (λnx V'=>Nx lv P R nx V') Kp:=by
 unfold callFunc;refine aA (qx (cE ?_));unfold qE at hg;split at hg
 ·rename_i fn xH;simp only[Tg,TZ]at hg;rw[xH];dsimp only;have pV:fn.body.isNone=false:=by
   have h1:=hg.1;cases hb:fn.body with
   |none=>rw[hb]at h1;cases h1
   |some _=>rfl
  rw[if_neg (by rw[hg.2];simp),if_neg (by rw[pV];simp)];exact au h
 ·cases hg
section
variable {lv:Bool}{P:SI}{H:List aa}{args:List AV}{k kp:AV->List aa->Prop}
theorem IG{g:TS}{first cQ:List AV}(hg:qE P g=true)(hf:bm lv P g H (first++args++cQ) k kp):iT lv P (.fn (.func g) first cQ) H args k kp:=by
 intro E V cv vs hc hd oW;cases hd with
 |fn dE fN h1 h2=>
  rename_i fa ca;unfold U4;refine aA (au ?_);unfold invoke;dsimp only;exact apP hg (hf E V _ hc (BO (BO ⟨dE,h1⟩ oW) ⟨fN,h2⟩))
end
def eW (s:AS):List Ti->Option (List AV)
 |[]=>some []
 |x::l=>match s.ev x,eW s l with
  |some a,some aE=>some (a::aE)
  |_,_=>none
theorem zo{E:Env}{s:AS}{a:Act}(k:bZ E s.T a.tmps):∀{l:List Ti}{aE:List AV},eW s l=some aE->cF E aE (l.map a.eval).toArray
 |[],_,h=>by cases h;exact⟨rfl,by simp⟩
 |x::l,aE,h=>by
  simp only[eW]at h;split at h
  ·rename_i av lS h1 h2;cases h;have ih:=zo k h2;refine⟨by have:=ih.1;simpa using this,λi b e=> ?_⟩;cases i with
   |zero=>simp at e;subst e;simpa[SH]using aq.ev k h1
   |succ i=>
    simp only[UN]at e;have:=ih.2 i b e;simpa[SH]using this
  ·cases h
section
variable {lv:Bool}{P:SI}{r:Option Nat}{o:Tu}{s:AS}{next:AS->Prop}{bad:AV->AS->Prop}
theorem abm{E:Env}{V:View}{a:Act}{N:Act->View->Prop}{Q:Ex->Act->View->Prop}(aG:bZ E s.T a.tmps)(hd:∀d,o.dst=some d->d<a.tmps.size)
  (h1:∀E' V' a' s',Kept E E' V V' a a'->Conc E' V' s'.H->bZ E' s'.T a'.tmps->next s'->N a' V')
  (h2:∀E' V' s' pv v,Kept E E' V V' a a->Conc E' V' s'.H->bZ E' s'.T a.tmps->aq E' pv v->bad pv s'->Q (.panic [{v,recovered:=false}]) a V'):
  (∀nx V',Nx lv P (gJ E V (λb H'=>next ((⟨s.T,H'⟩:AS).put o.dst b)) (λpv H'=>bad pv ⟨s.T,H'⟩)) nx V'->mr lv P r o a N Q nx V')/\
  (∀v V',gJ E V (λb H'=>next ((⟨s.T,H'⟩:AS).put o.dst b)) (λpv H'=>bad pv ⟨s.T,H'⟩) (.panic [{v,recovered:=false}]) V'->Q (.panic [{v,recovered:=false}]) a V'):=by
 have hv:∀v V',gJ E V (λb H'=>next ((⟨s.T,H'⟩:AS).put o.dst b)) (λpv H'=>bad pv ⟨s.T,H'⟩) (.ret v) V'->N (a.put o.dst v) V':=λv V' ⟨av,E',H',hle,bW,eQ,bp,aY,hk⟩=>
  h1 E' V' _ _ ⟨hle,dU _ _ _,put_defers _ _ _,bW,eQ⟩ (by rw[eZ];exact aY) (bZ.gR (s:=⟨s.T,H'⟩) (aG.mono hle) hd bp) hk
 have hp:∀ch V',gJ E V (λb H'=>next ((⟨s.T,H'⟩:AS).put o.dst b)) (λpv H'=>bad pv ⟨s.T,H'⟩) (.panic ch) V'->Q (.panic ch) a V':=λch V' ⟨pv,v,E',H',eP,hle,bW,eQ,bp,aY,hk⟩=>by
  subst eP;exact h2 E' V' ⟨s.T,H'⟩ pv v ⟨hle,rfl,rfl,bW,eQ⟩ aY (aG.mono hle) bp hk
 refine⟨λnx V' hn=> ?_,λv V' h=>hp _ _ h⟩;cases nx with
 |value v=>exact hv _ _ hn
 |skip=>exact hv _ _ hn
 |enter f args=>
  refine Body.mono (R':=fun
   |.ret v,V'=>N (a.put o.dst v) V'
   |.panic ch,V'=>Q (.panic ch) a V') hn λot aS h=> ?_
  cases ot with
  |ret v=>exact hv _ _ h
  |panic ch=>exact hp _ _ h
 |round l f tmps aE b=>
  refine mO.mono (R':=fun
   |.ret v,V'=>N (a.put o.dst v) V'
   |.panic ch,V'=>Q (.panic ch) a V') hn λot aS h=> ?_
  cases ot with
  |ret v=>exact hv _ _ h
  |panic ch=>exact hp _ _ h
 |_=>exact hn.elim
theorem Nw{c:Xp}{x:Ti}{sx:AV}{aE:List AV}(ho:o.op=.call c)(aX:c.callee=.value x)(hx:s.ev x=some sx)(has:eW s c.args.toList=some aE)
  (hf:iT lv P sx s.H aE (λb H'=>next ((⟨s.T,H'⟩:AS).put o.dst b)) (λpv H'=>bad pv ⟨s.T,H'⟩)):Step lv P r o s next bad:=by
 intro E V a N Q hc aG hd bx h1 h2;have rD:=abm (lv:=lv) (P:=P) (r:=r) aG hd h1 h2;refine⟨bx,?_⟩;unfold execOp;rw[ho];dsimp only;unfold resolve;rw[aX];dsimp only;have e:c.args.map a.eval=(c.args.toList.map a.eval).toArray:=by apply VB;simp
 rw[e];exact(hf E V (a.eval x) _ hc (aq.ev aG hx) (zo aG has)).mono (λnx V' h=>rD.1 nx V' h) (λv V' h=>rD.2 v V' h)
theorem acM{c:Xp}{x:Ti}{name:String}{sx:AV}{aE:List AV}(ho:o.op=.call c)(aX:c.callee=.invoke x name)(hx:s.ev x=some sx)(has:eW s c.args.toList=some aE)
  (hf:Ef lv P sx name s.H aE (λb H'=>next ((⟨s.T,H'⟩:AS).put o.dst b)) (λpv H'=>bad pv ⟨s.T,H'⟩)):Step lv P r o s next bad:=by
 intro E V a N Q hc aG hd bx h1 h2;have rD:=abm (lv:=lv) (P:=P) (r:=r) aG hd h1 h2;refine⟨bx,?_⟩;unfold execOp;rw[ho];dsimp only;unfold resolve;rw[aX];dsimp only;refine aA (au ?_);have e:c.args.map a.eval=(c.args.toList.map a.eval).toArray:=by apply VB;simp
 rw[e];exact(hf E V (a.eval x) _ hc (aq.ev aG hx) (zo aG has)).mono (λnx V' h=>rD.1 nx V' h) (λv V' h=>rD.2 v V' h)
theorem aqK{x:Ti}{t:TypeId}{av:AV}(ho:o.op=.panic x)(hx:s.ev x=some (.cY t av))(hb:bad (.cY t av) s):Step lv P r o s next bad:=by
 intro E V a N Q hc aG hd bx _ h2;refine⟨bx,?_⟩;have dt:=aq.ev aG hx;unfold execOp;rw[ho];dsimp only;refine aA ?_;generalize a.eval x=v at dt⊢;have aj2:=dt;cases dt with
 |cY hv=>
  unfold Instr.panic;dsimp only;exact apY (h2 E V s (.cY t av) _ ⟨Env.Le.refl E,rfl,rfl,rfl,rfl⟩ hc aG aj2 hb)
end
structure Eg (k kp:AV->List aa->Prop):Type where
 n:Nat
def A5 (lv:Bool)(P:SI)(c:AV)(H:List aa)(args:List AV)(k kp:AV->List aa->Prop)(_t:Eg k kp):Prop:=iT lv P c H args k kp
def adJ (lv:Bool)(P:SI)(c:AV)(name:String)(H:List aa)(args:List AV)(k kp:AV->List aa->Prop)(_t:Eg k kp):Prop:=Ef lv P c name H args k kp
theorem w_{lv:Bool}{P:SI}{c:AV}{H:List aa}{args:List AV}{k kp:AV->List aa->Prop}{t:Eg k kp}(h:iT lv P c H args k kp):A5 lv P c H args k kp t:=h
def ap {α:Type}(x:Option α)(k:α->Prop):Prop:=match x with
 |some a=>k a
 |none=>False
def AV.asBool (a:AV)(k:Bool->Prop):Prop:=match a with
 |.val (.bool b)=>k b
 |_=>False
def AV.asInt (a:AV)(k:TY->Int->Prop):Prop:=match a with
 |.val (.int j n)=>k j n
 |_=>False
def AV.w6 (a:AV)(k:List AV->Prop):Prop:=match a with
 |.aN l=>k l
 |_=>False
def AV.asAgg (a:AV)(k:List AV->Prop):Prop:=match a with
 |.agg l=>k l
 |_=>False
def AV.pH (a:AV)(k:Nat->Nat->Prop):Prop:=match a with
 |.op i j=>k i j
 |_=>False
def AV.sr (a:AV)(k:Nat->Prop):Prop:=match a with
 |.mp i=>k i
 |_=>False
def AV.vr (a:AV)(k:Nat->List AV->End->Prop):Prop:=match a with
 |.sl n l e=>k n l e
 |_=>False
theorem ap.out{α:Type}{x:Option α}{k:α->Prop}(h:ap x k):∃a,x=some a/\k a:=by
 cases x with
 |none=>exact h.elim
 |some a=>exact⟨a,rfl,h⟩
theorem BB{a:AV}{k:Bool->Prop}(h:a.asBool k):∃b,a=.val (.bool b)/\k b:=by
 unfold AV.asBool at h;split at h
 ·exact⟨_,rfl,h⟩
 ·exact h.elim
theorem nT{a:AV}{k:TY->Int->Prop}(h:a.asInt k):∃j n,a=.val (.int j n)/\k j n:=by
 unfold AV.asInt at h;split at h
 ·exact⟨_,_,rfl,h⟩
 ·exact h.elim
theorem ae7{a:AV}{k:List AV->Prop}(h:a.w6 k):∃l,a=.aN l/\k l:=by
 unfold AV.w6 at h;split at h
 ·exact⟨_,rfl,h⟩
 ·exact h.elim
theorem aeY{a:AV}{k:List AV->Prop}(h:a.asAgg k):∃l,a=.agg l/\k l:=by
 unfold AV.asAgg at h;split at h
 ·exact⟨_,rfl,h⟩
 ·exact h.elim
theorem BC{a:AV}{k:Nat->Nat->Prop}(h:a.pH k):∃i j,a=.op i j/\k i j:=by
 unfold AV.pH at h;split at h
 ·exact⟨_,_,rfl,h⟩
 ·exact h.elim
theorem Eu{a:AV}{k:Nat->Prop}(h:a.sr k):∃i,a=.mp i/\k i:=by
 unfold AV.sr at h;split at h
 ·exact⟨_,rfl,h⟩
 ·exact h.elim
theorem Ou{a:AV}{k:Nat->List AV->End->Prop}(h:a.vr k):∃n l e,a=.sl n l e/\k n l e:=by
 unfold AV.vr at h;split at h
 ·exact⟨_,_,_,rfl,h⟩
 ·exact h.elim
section
variable (P:SI)(s:AS)
def dH (op:VX)(xt:TypeId)(a b:AV)(k:AV->Prop):Prop:=match a,b with
 |.val (.int j m),.val (.int j' n)=>if mF op then ap (AP op j m n) λv=>k (.val v)else j'=j/\ap (lT op j m n) λv=>k (.val v)
 |_,_=>(op=.eql\/op=.neq)/\ap a.raw λX=>ap b.raw λY=>zl X Y=true/\P.eqGuardType P.depth xt=false/\∃e,cI P (Xo xt X Y) e/\k (.val (.bool (if op== .neq then !e else e)))
def iE (op:VX)(xt:TypeId)(y:Ti)(a:AV)(k:AV->Prop):Prop:=match y,a with
 |.const .nilIface,.val .nilIface=>l9 P xt=some true/\(op=.eql\/op=.neq)/\k (.val (.bool (if op== .neq then false else true)))
 |.const .nilIface,.cY _ _=>l9 P xt=some true/\(op=.eql\/op=.neq)/\k (.val (.bool (if op== .neq then true else false)))
 |y,a=>ap (s.ev y) λb=>dH P op xt a b k
def sd (t:TypeId)(a:AV)(l h m:Option Int)(k:AV->Prop):Prop:=match a with
 |.sl n li e=>ap (j8 P t) λ(_,sz)=>wU n li e sz l h m k
 |.bh id off n cap=>ap (j8 P t) λ(_,sz)=>si id off n cap sz l h m k
 |.op id off=>ap (wQ P t) λ(n,sz)=>si id off n n sz l h m k
 |_=>False
def r_ (t:TypeId)(a:AV)(k:AV->Prop):Prop:=match ld P t,a with
 |some .slice,.sl n _ _=>k (.val (.int .i64 n))
 |some .slice,.bh _ _ n _=>k (.val (.int .i64 n))
 |some .str,.val (.string b)=>k (.val (.int .i64 b.size))
 |some .map,.mp id=>match s.H[id]?with
  |some (.obj (.map es _))=>k (.val (.int .i64 es.size))
  |_=>False
 |_,_=>False
def mi (a:AV)(k:AV->Prop):Prop:=match a with
 |.fn (.method name) [.cY t av] []=>Ig P t name/\k (.fn (.method name) [.cY t av] [])
 |a=>a.sure=true/\k a
def A2 (aE:TypeId)(ok:Bool)(a:AV)(k:AV->Prop):Prop:=l9 P aE=some false/\ap (eE P aE) λz=>match a with
 |.cY t av=>if t=aE then k (if ok then .aN [av,.val (.bool true)]else av)else ok=true/\k (.aN [AV.of z,.val (.bool false)])
 |.val .nilIface=>ok=true/\k (.aN [AV.of z,.val (.bool false)])
 |_=>False
def lc (o:Tu)(k:AV->Prop):Prop:=match o.op with
 |.move x=>ap (s.ev x) k
 |.assign x=>ap (s.ev x) k
 |.pick c x y=>ap (s.ev c) λb=>ap (s.ev x) λa=>ap (s.ev y) λa'=>b.asBool λb=>k (if b then a else a')
 |.binOp op xt x y _=>ap (s.ev x) λa=>iE P s op xt y a k
 |.unOp .not _ x=>ap (s.ev x) λa=>a.asBool λb=>k (.val (.bool !b))
 |.unOp .neg _ x=>ap (s.ev x) λa=>a.asInt λj n=>k (.val (.int j (j.wrap (0-n))))
 |.convert src dst x=>ap (s.ev x) λa=>match A6 P src dst with
   |some (some j)=>a.asInt λ_ n=>k (.val (.int j (j.wrap n)))
   |_=>False
 |.extract x i=>ap (s.ev x) λa=>a.w6 λl=>ap l[i]? k
 |.nilCheck x=>ap (s.ev x) λa=>mi P a k
 |.makeInterface t x=>l9 P t=some false/\ap (s.ev x) λa=>k (.cY t a)
 |.makeFunc f first cQ=>ap (first.toList.mapM s.ev) λfa=>ap (cQ.toList.mapM s.ev) λca=>k (.fn f fa ca)
 |.typeAssert x _ aE ok=>ap (s.ev x) λa=>A2 P aE ok a k
 |.build t parts=>ap (oF P t) λ(pl,z)=>ap (jR s parts.toList) λaE=>ap (nY pl.at (lO z) aE) λl=>k (.agg l)
 |.buildSlice t len parts=>ap (qP P t) λ(_,sz,z)=>len* sz<=2^24/\ap (jR s parts.toList) λaE=>ap (nY (iq.at (.elems sz)) (gH z (len* sz)) aE) λl=>k (.sl len l .exact)
 |.fieldAddr t x f=>ap (s.ev x) λa=>ap (eU P t f) λn=>ap (a.shift n) k
 |.indexAddr t x ix=>ap (s.ev x) λa=>ap (s.ev ix) λi=>i.asInt λ_ i=>ap (nN P t) fun
   |(some n,sz)=>(0<=i/\i<n)/\ap (a.shift (i.toNat* sz)) k
   |(none,sz)=>ap a.row λ(n,p)=>(0<=i/\i<n)/\ap (p.shift (i.toNat* sz)) k
 |.field t x f=>ap (s.ev x) λa=>a.asAgg λl=>ap (Ih P t f) λ(off,n,g)=>ap (AV.cut l off n g) k
 |.index t x ix=>ap (s.ev x) λa=>ap (s.ev ix) λi=>i.asInt λ_ i=>match a with
   |.agg l=>ap (Ia P t) λ(n,sz,g)=>(0<=i/\i<n)/\ap (AV.cut l (i.toNat* sz) sz g) k
   |.val (.string b)=>(match ld P t with|some .str=>True|_=>False)/\0<=i/\ap b[i.toNat]? λc=>k (.val (.int .u8 c.toNat))
   |_=>False
 |.load t x=>ap (s.ev x) λp=>ap (s.at p) λl=>ap (Ty P t) fun
   |(n,true)=>n<=l.length/\k (.agg (l.take n))
   |(_,false)=>ap l[0]? k
 |.lookup t m k' ok=>ap (oI P t) λ(kt,et)=>ap (eE P et) λz=>ap (s.ev m) λp=>ap (s.ev k') λa=>ap a.raw λK=>p.sr λid=>match s.H[id]?with
  |some (.obj (.map es _))=>cI P (Vb es.isEmpty 10000 kt K) ()/\∃fd,cI P (VM kt K es.toList) fd/\k (AV.found z ok fd)
  |_=>False
 |.slice t x lo hi mx=>ap (s.ev x) λa=>ap (s.iV lo) λl=>ap (s.iV hi) λh=>ap (s.iV mx) λm=>sd P t a l h m k
 |.entry it=>ap (s.ev it) λp=>p.pH λid off=>off=0/\match s.H[id]?with
   |some (.iter m _ seen ck)=>match s.H[m]?with
    |some (.obj (.map es Pc))=>Pc=ck/\ap seen.back? λb=>ap (es.find? (·.born==b)) λe=>k (.aN [AV.of e.key,AV.of e.val])
    |_=>False
   |_=>False
 |.call c=>match c.callee with
  |.builtin .len=>ap c.args[0]? λx=>ap c.argTypes[0]? λt=>ap (s.ev x) λa=>r_ P s t a k
  |.builtin .max=>match c.args.toList with
   |[x,y]=>ap (s.ev x) λa=>ap (s.ev y) λb=>a.asInt λj m=>b.asInt λ_ n=>k (.val (.int j (if n>m then n else m)))
   |_=>False
  |.builtin .min=>match c.args.toList with
   |[x,y]=>ap (s.ev x) λa=>ap (s.ev y) λb=>a.asInt λj m=>b.asInt λ_ n=>k (.val (.int j (if n<m then n else m)))
   |_=>False
  |_=>False
 |_=>False
end
section
variable {lv:Bool}{P:SI}{r:Option Nat}{o:Tu}{s:AS}
theorem mS{c:Xp}{x y:Ti}(h:c.args.toList=[x,y]):c.args=#[x,y]:=by
 apply VB;simpa using h
theorem lc.sound{k:AV->Prop}(h:lc P s o k):∃av,dz lv P r o s av/\k av:=by
 unfold lc at h;split at h
 ·rename_i x ho;obtain⟨a,h1,h2⟩:=h.out;exact⟨a,abQ (.inl ho) h1,h2⟩
 ·rename_i x ho;obtain⟨a,h1,h2⟩:=h.out;exact⟨a,abQ (.inr ho) h1,h2⟩
 ·rename_i c x y ho;obtain⟨b,h1,h⟩:=h.out;obtain⟨a,h2,h⟩:=h.out;obtain⟨a',h3,h⟩:=h.out;obtain⟨b,rfl,h⟩:=BB h;exact⟨_,aoT ho h1 h2 h3,h⟩
 ·rename_i op xt x y yt ho;obtain⟨a,h1,hY⟩:=h.out;clear h;unfold iE at hY;split at hY
  ·exact⟨_,abO ho hY.2.1 h1 (.inl ⟨rfl,rfl⟩) hY.1,hY.2.2⟩
  ·exact⟨_,abO ho hY.2.1 h1 (.inr ⟨⟨_,_,rfl⟩,rfl⟩) hY.1,hY.2.2⟩
  rename_i n1 n2;clear n1 n2;obtain⟨b,h2,h⟩:=hY.out;unfold dH at h;split at h
  ·rename_i j m j' n;split at h
   ·obtain⟨v,h3,h⟩:=h.out;exact⟨_,aoU ho h1 h2 h3,h⟩
   ·obtain⟨rfl,h⟩:=h;obtain⟨v,h3,h⟩:=h.out;exact⟨_,aot ho h1 h2 h3,h⟩
  ·obtain⟨az,h⟩:=h;obtain⟨X,h3,h⟩:=h.out;obtain⟨Y,h4,h⟩:=h.out;obtain⟨h5,h6,e,h7,h⟩:=h;exact⟨_,aoy ho az h1 h2 h3 h4 h5 h6 h7,h⟩
 ·rename_i t x ho;obtain⟨a,h1,h⟩:=h.out;obtain⟨b,rfl,h⟩:=BB h;exact⟨_,aoS ho h1,h⟩
 ·rename_i t x ho;obtain⟨a,h1,h⟩:=h.out;obtain⟨j,n,rfl,h⟩:=nT h;exact⟨_,aoP ho h1,h⟩
 ·rename_i src dst x ho;obtain⟨a,h1,h⟩:=h.out;split at h
  ·rename_i j hj;obtain⟨j',n,rfl,h⟩:=nT h;exact⟨_,aow ho hj h1,h⟩
  ·exact h.elim
 ·rename_i x i ho;obtain⟨a,h1,h⟩:=h.out;obtain⟨l,rfl,h⟩:=ae7 h;obtain⟨b,h2,h⟩:=h.out;exact⟨_,aoz ho h1 h2,h⟩
 ·rename_i x ho;obtain⟨a,h1,h⟩:=h.out;unfold mi at h;split at h
  ·exact⟨_,aoR ho h1 h.1,h.2⟩
  ·exact⟨_,aoQ ho h1 h.1,h.2⟩
 ·rename_i t x ho;obtain⟨h1,h⟩:=h;obtain⟨a,h2,h⟩:=h.out;exact⟨_,aoM ho h1 h2,h⟩
 ·rename_i f first cQ ho
  obtain⟨fa,h1,h⟩:=h.out;obtain⟨ca,h2,h⟩:=h.out;exact⟨_,aoL ho h1 h2,h⟩
 ·rename_i x xt aE ok ho;obtain⟨a,h1,hA⟩:=h.out;obtain⟨h2,hB⟩:=hA;obtain⟨z,h3,hC⟩:=hB.out;clear h hB;split at hC
  ·rename_i t av;split at hC
   ·rename_i e;subst e;exact⟨_,abN ho h2 h3 h1 (.inr rfl),by rw[if_pos rfl];exact hC⟩
   ·rename_i e;exact⟨_,abN ho h2 h3 h1 (.inl hC.1),by rw[if_neg e];exact hC.2⟩
  ·obtain⟨e,hC⟩:=hC;subst e;exact⟨_,aos ho h2 h3 h1,hC⟩
  ·exact hC.elim
 ·rename_i t parts ho;obtain⟨⟨pl,z⟩,h1,h⟩:=h.out;obtain⟨aE,h2,h⟩:=h.out;obtain⟨l,h3,h⟩:=h.out;exact⟨_,aou ho h1 h2 h3,h⟩
 ·rename_i t len parts ho;obtain⟨⟨e,sz,z⟩,h1,h⟩:=h.out;obtain⟨hs,h⟩:=h;obtain⟨aE,h2,h⟩:=h.out;obtain⟨l,h3,h⟩:=h.out;exact⟨_,aov ho h1 hs h2 h3,h⟩
 ·rename_i t x f ho;obtain⟨a,h1,h⟩:=h.out;obtain⟨n,hn,h⟩:=h.out;obtain⟨b,h2,h⟩:=h.out;exact⟨_,aoA ho hn h1 h2,h⟩
 ·rename_i t x ix ho;obtain⟨a,h1,h⟩:=h.out;obtain⟨i,h2,h⟩:=h.out;obtain⟨j,i,rfl,h⟩:=nT h;obtain⟨⟨on,sz⟩,ht,h⟩:=h.out;cases on with
  |some n=>
   obtain⟨⟨h3,h4⟩,h⟩:=h;obtain⟨q,h5,h⟩:=h.out;exact⟨_,aoD ho ht h1 h2 h3 h4 h5,h⟩
  |none=>
   obtain⟨⟨n,p⟩,ak8,h⟩:=ap.out h;obtain⟨⟨h3,h4⟩,h⟩:=h;obtain⟨q,h5,h⟩:=h.out;exact⟨_,aoC ho ht h1 ak8 h2 h3 h4 h5,h⟩
 ·rename_i t x f ho;obtain⟨a,h1,h⟩:=h.out;obtain⟨l,rfl,h⟩:=aeY h;obtain⟨⟨off,n,g⟩,h2,h⟩:=h.out;obtain⟨b,h3,h⟩:=h.out;exact⟨_,aoB ho h2 h1 h3,h⟩
 ·rename_i t x ix ho;obtain⟨a,h1,h⟩:=h.out;obtain⟨i,h2,h⟩:=h.out;obtain⟨j,i,rfl,h⟩:=nT h;split at h
  ·obtain⟨⟨n,sz,g⟩,h3,h⟩:=h.out;obtain⟨⟨h4,h5⟩,h⟩:=h;obtain⟨b,h6,h⟩:=h.out;exact⟨_,aoF ho h3 h1 h2 h4 h5 h6,h⟩
  ·obtain⟨h3,h4,h⟩:=h;obtain⟨c,h5,h⟩:=h.out;split at h3
   ·rename_i hl;exact⟨_,aoE ho hl h1 h2 h4 h5,h⟩
   ·exact h3.elim
  ·exact h.elim
 ·rename_i t x ho;obtain⟨p,h1,h⟩:=h.out;obtain⟨l,hl,h⟩:=h.out;obtain⟨⟨n,g⟩,ht,h⟩:=h.out;cases g with
  |true=>exact⟨_,aoI ho ht h1 hl h.1,h.2⟩
  |false=>
   obtain⟨av,h2,h⟩:=ap.out h;exact⟨_,aoJ ho ht h1 hl h2,h⟩
 ·rename_i t m k' ok ho;obtain⟨⟨kt,et⟩,h1,hA⟩:=h.out;obtain⟨z,h2,hB⟩:=hA.out;obtain⟨p,h3,hC⟩:=hB.out;obtain⟨a,h4,hD⟩:=hC.out;obtain⟨K,h5,hE⟩:=hD.out;obtain⟨id,e1,hF⟩:=Eu hE;subst e1;split at hF
  ·rename_i es ck hH;obtain⟨h6,fd,h7,h8⟩:=hF;exact⟨_,aoK ho h1 h2 h3 h4 h5 hH h6 h7,h8⟩
  ·exact hF.elim
 ·rename_i t x lo hi mx ho;obtain⟨a,h1,h⟩:=h.out;obtain⟨l,h2,h⟩:=h.out;obtain⟨hh,h3,h⟩:=h.out;obtain⟨m,h4,h⟩:=h.out;unfold sd at h;split at h
  ·obtain⟨⟨e,sz⟩,h5,h⟩:=h.out;exact aoV ho h5 h1 h2 h3 h4 h
  ·obtain⟨⟨e,sz⟩,h5,h⟩:=h.out;exact aoX ho h5 h1 h2 h3 h4 h
  ·obtain⟨⟨n,sz⟩,h5,h⟩:=h.out;exact aoW ho h5 h1 h2 h3 h4 h
  ·exact h.elim
 ·rename_i it ho;obtain⟨p,h1,hA⟩:=h.out;obtain⟨id,off,e1,hB⟩:=BC hA;clear h hA;subst e1;obtain⟨e1,hC⟩:=hB;subst e1;split at hC
  ·rename_i m since seen ck hI;split at hC
   ·rename_i es Pc hM;obtain⟨e1,hD⟩:=hC;subst e1;obtain⟨b,h2,hE⟩:=hD.out;obtain⟨e,h3,hF⟩:=hE.out;exact⟨_,aox ho h1 hI hM h2 h3,hF⟩
   ·exact hC.elim
  ·exact hC.elim
 ·rename_i c ho;split at h
  ·rename_i aX;obtain⟨x,h1,h⟩:=h.out;obtain⟨t,h2,h⟩:=h.out;obtain⟨a,h3,h⟩:=h.out;unfold r_ at h;split at h
   ·rename_i hl;exact⟨_,abP ho aX h1 h2 hl h3 rfl,h⟩
   ·rename_i hl;exact⟨_,abP ho aX h1 h2 hl h3 rfl,h⟩
   ·rename_i hl;exact⟨_,aoH ho aX h1 h2 hl h3,h⟩
   ·rename_i hl;split at h
    ·rename_i hM;exact⟨_,aoG ho aX h1 h2 hl h3 hM,h⟩
    ·exact h.elim
   ·exact h.elim
  ·rename_i aX;split at h
   ·rename_i x y cJ;obtain⟨a,h1,hA⟩:=h.out;obtain⟨b,h2,hB⟩:=hA.out;obtain⟨j,m,e1,hC⟩:=nT hB;obtain⟨j',n,e2,hD⟩:=nT hC;subst e1 e2;exact⟨_,aoN ho aX (mS cJ) h1 h2,hD⟩
   ·exact h.elim
  ·rename_i aX;split at h
   ·rename_i x y cJ;obtain⟨a,h1,hA⟩:=h.out;obtain⟨b,h2,hB⟩:=hA.out;obtain⟨j,m,e1,hC⟩:=nT hB;obtain⟨j',n,e2,hD⟩:=nT hC;subst e1 e2;exact⟨_,aoO ho aX (mS cJ) h1 h2,hD⟩
   ·exact h.elim
  ·exact h.elim
 ·exact h.elim
end
open Go.Conc
structure lP (X Y:Prop):Type where
 n:Nat
def qH (b bT:Bool)(X Y:Prop)(_t:lP X Y):Prop:=(b=bT->X)/\(b= !bT->Y)
theorem xp{b bT:Bool}{X Y:Prop}{t:lP X Y}(h1:b=bT->X)(h2:b= !bT->Y):qH b bT X Y t:=⟨h1,h2⟩
theorem ajl(X Y:Prop)(t:lP X Y):qH true true X Y t=X:=by simp[qH]
theorem ajk(X Y:Prop)(t:lP X Y):qH true false X Y t=Y:=by simp[qH]
theorem ajj(X Y:Prop)(t:lP X Y):qH false true X Y t=Y:=by simp[qH]
theorem aji(X Y:Prop)(t:lP X Y):qH false false X Y t=X:=by simp[qH]
section
variable (lv:Bool)(P:SI)
def tJ (H:List aa)(k:AV->List aa->Prop)(id off n c0 m sz:Nat)(elem:TypeId)(l':List AV):Prop:=off=0/\c0<n/\l'.length=m* sz/\n+m<=2^30/\(∀a∈l',a.leaf=true)/\match H[id]?with
 |some (.own ep l el)=>ep=sz/\el=elem/\l.length=n* sz/\k (.bh H.length 0 (n+m) 0) (H.set id .gone++[.own sz (l++l') elem])
 |_=>False
def AV.pI (a:AV)(kO:Nat->Nat->Nat->Nat->Prop)(k:Nat->List AV->End->Prop):Prop:=match a with
 |.bh id off n c=>kO id off n c
 |.sl n l e=>k n l e
 |_=>False
theorem Is{a:AV}{kO:Nat->Nat->Nat->Nat->Prop}{k:Nat->List AV->End->Prop}(h:a.pI kO k):(∃id off n c,a=.bh id off n c/\kO id off n c)\/∃n l e,a=.sl n l e/\k n l e:=by
 unfold AV.pI at h;split at h
 ·exact .inl ⟨_,_,_,_,rfl,h⟩
 ·exact .inr ⟨_,_,_,rfl,h⟩
 ·exact h.elim
def mj (s:AS)(o:Tu)(next:AS->Prop)(bad:AV->AS->Prop):Prop:=match o.op with
 |.box t x=>ap (s.ev x) λa=>ap a.parts λl=>next ((⟨s.T,s.H++[.cells l t]⟩:AS).put o.dst (.op s.H.length 0))
 |.alloc t=>ap (eE P t) λz=>next ((⟨s.T,s.H++[.cells (lO z) t]⟩:AS).put o.dst (.op s.H.length 0))
 |.store t x y=>ap (s.ev x) λp=>ap (s.ev y) λa=>ap a.parts λlp=>p.pH λid off=>match s.H[id]?with
  |some (.cells l el)=>(ap (Ty P t) λx=>lp.length=x.1)/\off+lp.length<=l.length/\(∀a∈lp,a.leaf=true)/\next ((⟨s.T,s.H.set id (.cells (iB l off lp) el)⟩:AS).put o.dst (.val undef))
  |some (.part p l el)=>p<=off/\(ap (Ty P t) λx=>lp.length=x.1)/\off+lp.length<=l.length/\(∀a∈lp,a.leaf=true)/\next ((⟨s.T,s.H.set id (.part p (iB l off lp) el)⟩:AS).put o.dst (.val undef))
  |some (.own p l el)=>(ap (Ty P t) λx=>lp.length=x.1)/\off+lp.length<=l.length/\(∀a∈lp,a.leaf=true)/\next ((⟨s.T,s.H.set id (.own p (iB l off lp) el)⟩:AS).put o.dst (.val undef))
  |_=>False
 |.makeMap _ none=>next ((⟨s.T,s.H++[.obj (.map #[] 0)]⟩:AS).put o.dst (.mp s.H.length))
 |.makeSlice t x y=>ap (Bd P t) λ(e,sz,z)=>ap (s.ev x) λa=>ap (s.ev y) λb=>a.asInt λ_ n=>b.asInt λ_ n'=>n'=n/\0<=n/\n<=2^30/\next ((⟨s.T,s.H++[.cells (gH z (n.toNat* sz)) e]⟩:AS).put o.dst (.bh s.H.length 0 n.toNat n.toNat))
 |.mapUpdate t m k x=>ap (oI P t) λ(kt,_)=>ap (s.ev m) λp=>ap (s.ev k) λa=>ap (s.ev x) λb=>ap a.raw λK=>ap b.raw λX=>p.sr λid=>match s.H[id]?with
  |some (.obj (.map es ck))=>cI P (Vb false 10000 kt K) ()/\∃fd,cI P (VM kt K es.toList) fd/\(∀i v,fd=some (i,v)->Wy 10000 (((es[i]?).map (·.key)).getD K) K=true)/\next ((⟨s.T,s.H.set id (.obj (wA es ck K X fd))⟩:AS).put o.dst (.val undef))
  |_=>False
 |.range t x=>ap (oI P t) λ_=>ap (s.ev x) λp=>p.sr λm=>match s.H[m]?with
  |some (.obj (.map _ ck))=>next ((⟨s.T,s.H++[.iter m ck #[] ck]⟩:AS).put o.dst (.op s.H.length 0))
  |_=>False
 |.next it false=>ap (s.ev it) λp=>p.pH λid off=>off=0/\match s.H[id]?with
  |some (.iter m since seen tH)=>match s.H[m]?with
   |some (.obj (.map es ck))=>(es.all (λe=>decide (e.born>=tH))=false\/es.isEmpty=true\/seen.isEmpty=true)/\
    (∀e∈es,e.born∉seen->next ((⟨s.T,s.H.set id (.iter m since (seen.push e.born) ck)⟩:AS).put o.dst (.aN [.val (.bool true),AV.of e.key,AV.of e.val])))/\
    ((∀e∈es,e.born<since->e.born∈seen)->next (s.put o.dst (.aN [.val (.bool false)])))
   |_=>False
  |_=>False
 |.panic x=>ap (s.ev x) λa=>match a with
  |.cY t av=>bad (.cY t av) s
  |_=>False
 |.binOp op t x (.const (.slice none 0 0)) _=>(op=.eql\/op=.neq)/\ap (j8 P t) λ_=>ap (s.ev x) λa=>ap a.len λn=>∀b:Bool,(0<n->b=false)->next (s.put o.dst (.val (.bool (if op== .neq then !b else b))))
 |.call c=>match c.callee with
  |.builtin .append=>match c.args.toList,c.argTypes.toList with
   |[x,y],[t,t']=>ap (jz P t t') λ(elem,sz,_)=>ap (s.ev x) λa=>ap (s.ev y) λb=>a.pI (λid off n c0=>ap (s.src sz b) λ(m,l')=>tJ s.H (λb H'=>next ((⟨s.T,H'⟩:AS).put o.dst b)) id off n c0 m sz elem l') λn l e=>ap (s.src sz b) λ(m,l')=>l.length=n* sz/\l'.length=m* sz/\n+m<=2^30/\A4 s o.dst next n m sz elem l l' e
   |_,_=>False
  |.builtin .copy=>match c.args.toList,c.argTypes.toList with
   |[x,y],[t,_]=>ap (j8 P t) λ(_,sz)=>ap (s.ev x) λa=>ap (s.ev y) λb=>match a with
    |.bh id off n _=>match s.H[id]?with
     |some (.cells l el)=>ap (s.src sz b) λ(m,l')=>l'.length=m* sz/\off+min m n* sz<=l.length/\(∀a∈l',a.leaf=true)/\next ((⟨s.T,s.H.set id (.cells (iB l off (l'.take (min m n* sz))) el)⟩:AS).put o.dst (.val (.int .i64 (min m n:Nat))))
     |_=>False
    |_=>False
   |_,_=>False
  |.builtin .delete=>match c.args.toList,c.argTypes.toList with
   |[m,k],[t,_]=>ap (oI P t) λ(kt,_)=>ap (s.ev m) λp=>ap (s.ev k) λa=>ap a.raw λK=>p.sr λid=>match s.H[id]?with
    |some (.obj (.map es ck))=>cI P (Vb es.isEmpty 10000 kt K) ()/\∃fd,cI P (VM kt K es.toList) fd/\next ((⟨s.T,s.H.set id (.obj (.map (EH es fd) ck))⟩:AS).put o.dst (.val undef))
    |_=>False
   |_,_=>False
  |.value x=>ap (s.ev x) λf=>ap (eW s c.args.toList) λaE=>A5 lv P f s.H aE (λb H'=>next ((⟨s.T,H'⟩:AS).put o.dst b)) (λpv H'=>bad pv ⟨s.T,H'⟩) ⟨0⟩
  |.invoke x name=>ap (s.ev x) λf=>ap (eW s c.args.toList) λaE=>adJ lv P f name s.H aE (λb H'=>next ((⟨s.T,H'⟩:AS).put o.dst b)) (λpv H'=>bad pv ⟨s.T,H'⟩) ⟨0⟩
  |_=>lc P s o λav=>next (s.put o.dst av)
 |_=>lc P s o λav=>next (s.put o.dst av)
def im (all:Array Tu):List Tu->AS->(AS->Prop)->(AV->AS->Prop)->Prop
 |[],s,next,_=>next s
 |o::rest,s,next,bad=>match o.guard with
  |none=>mj lv P s o (λs'=>im all rest s' next bad) bad
  |some (j,bT)=>ap ((all[j]?).bind (·.dst)) λd=>ap (look s.T d) λa=>a.asBool λb=>qH b bT (mj lv P ⟨(d,.val (.bool bT))::s.T,s.H⟩ o (λs'=>im all rest s' next bad) bad) (im all rest ((⟨(d,.val (.bool !bT))::s.T,s.H⟩:AS).put o.dst (.val undef)) next bad) ⟨0⟩
end
section
variable {lv:Bool}{P:SI}{r:Option Nat}{s:AS}
theorem rY{c:Xp}{x y:TypeId}(h:c.argTypes.toList=[x,y]):c.argTypes=#[x,y]:=by
 apply VB;simpa using h
theorem mj.sound{o:Tu}{next:AS->Prop}{bad:AV->AS->Prop}(h:mj lv P s o next bad):Step lv P r o s next bad:=by
 have quiet:(lc P s o λav=>next (s.put o.dst av))->Step lv P r o s next bad:=λh=>by
  obtain⟨av,h1,h2⟩:=h.sound (lv:=lv) (r:=r);exact h1.step h2
 unfold mj at h;split at h
 ·rename_i t x ho;obtain⟨a,h1,h⟩:=h.out;obtain⟨l,h2,h⟩:=h.out;exact acK ho h1 h2 h
 ·rename_i t ho;obtain⟨z,h1,h⟩:=h.out;exact acH ho h1 h
 ·rename_i t x y ho;obtain⟨p,h1,hA⟩:=h.out;obtain⟨a,h2,hB⟩:=hA.out;obtain⟨lp,h3,hC⟩:=hB.out;obtain⟨id,off,e1,hD⟩:=BC hC;clear h hA hB hC;subst e1;split at hD
  ·rename_i l el hk;obtain⟨q1,q2,q3,q4⟩:=hD;obtain⟨⟨n,g⟩,q5,q6⟩:=q1.out;exact acP ho q5 h1 hk h2 h3 q6 q2 q3 q4
  ·rename_i p l el hk;obtain⟨q0,q1,q2,q3,q4⟩:=hD;obtain⟨⟨n,g⟩,q5,q6⟩:=q1.out;exact aqN ho q5 h1 hk q0 h2 h3 q6 q2 q3 q4
  ·rename_i p l el hk;obtain⟨q1,q2,q3,q4⟩:=hD;obtain⟨⟨n,g⟩,q5,q6⟩:=q1.out;exact acQ ho q5 h1 hk h2 h3 q6 q2 q3 q4
  ·exact hD.elim
 ·rename_i t ho;exact aqH ho h
 ·rename_i t x y ho;obtain⟨⟨e,sz,z⟩,h1,hA⟩:=h.out;obtain⟨a,h2,hB⟩:=hA.out;obtain⟨b,h3,hC⟩:=hB.out;obtain⟨j,n,e1,hD⟩:=nT hC;obtain⟨j',n',e2,hE⟩:=nT hD;clear h hA hB hC hD;subst e1 e2;obtain⟨e3,h4,h5,h6⟩:=hE;subst e3;obtain⟨m,rfl⟩:∃m:Nat,n'=m:=⟨n'.toNat,by omega⟩;exact acN ho h1 h2 h3 (by omega) (by simpa using h6)
 ·rename_i t m k x ho;obtain⟨⟨kt,et⟩,h1,hA⟩:=h.out;obtain⟨p,h2,hB⟩:=hA.out;obtain⟨a,h3,hC⟩:=hB.out;obtain⟨b,h4,hD⟩:=hC.out;obtain⟨K,h5,hE⟩:=hD.out;obtain⟨X,h6,hF⟩:=hE.out;obtain⟨id,e1,hG⟩:=Eu hF;clear h hA hB hC hD hE hF;subst e1;split at hG
  ·rename_i es ck hH;obtain⟨q1,fd,q2,q3,q4⟩:=hG;exact aqI (.inl ho) h1 h2 h3 h4 h5 h6 hH q1 q2 q3 q4
  ·exact hG.elim
 ·rename_i t x ho;obtain⟨⟨kt,et⟩,h1,hA⟩:=h.out;obtain⟨p,h2,hB⟩:=hA.out;obtain⟨m,e1,hC⟩:=Eu hB;clear h hA hB;subst e1;split at hC
  ·rename_i es ck hH;exact aqL ho h1 h2 hH hC
  ·exact hC.elim
 ·rename_i it ho;obtain⟨p,h1,hA⟩:=h.out;obtain⟨id,off,e1,hB⟩:=BC hA;clear h hA;subst e1;obtain⟨e1,hC⟩:=hB;subst e1;split at hC
  ·rename_i m since seen tH hI;split at hC
   ·rename_i es ck hM;exact aqJ ho h1 hI hM hC.1 hC.2.1 hC.2.2
   ·exact hC.elim
  ·exact hC.elim
 ·rename_i x ho;obtain⟨a,h1,hA⟩:=h.out;split at hA
  ·exact aqK ho h1 hA
  ·exact hA.elim
 ·rename_i op t x yt ho;obtain⟨az,hA⟩:=h;obtain⟨d,h1,hB⟩:=hA.out;obtain⟨a,h2,hC⟩:=hB.out;obtain⟨n,e1,hD⟩:=hC.out;exact aqM ho az h2 e1 h1 hD
 ·rename_i c ho;split at h
  ·rename_i aX;split at h
   ·rename_i x y t t' ha ht;obtain⟨⟨elem,sz,z⟩,h1,hA⟩:=h.out;obtain⟨a,h2,hB⟩:=hA.out;obtain⟨b,h3,hC⟩:=hB.out;rcases Is hC with⟨id,off,n,c0,e1,hD⟩|⟨n,l,e,e1,hD⟩
    ·clear h hA hB hC;subst e1;obtain⟨⟨m,l'⟩,h4,rfl,g2,g3,g4,g5,hE⟩:=hD.out;split at hE
     ·rename_i hk;obtain⟨rfl,rfl,g6,g7⟩:=hE;exact acI ho aX (mS ha) (rY ht) h1 h2 g2 hk rfl h3 h4 g6 g3 g4 g5 g7
     ·exact hE.elim
    ·clear h hA hB hC;subst e1;obtain⟨⟨m,l'⟩,h4,h5,h6,h7,h8⟩:=hD.out;exact step_append ho aX (mS ha) (rY ht) h1 h2 h3 h4 h5 h6 h7 h8
   ·exact h.elim
  ·rename_i aX;split at h
   ·rename_i x y t t' ha ht;obtain⟨⟨elem,sz⟩,h1,hA⟩:=h.out;obtain⟨a,h2,hB⟩:=hA.out;obtain⟨b,h3,hC⟩:=hB.out;clear h hA hB;split at hC
    ·split at hC
     ·rename_i hk;obtain⟨⟨m,l'⟩,h4,h5,h6,h7,h8⟩:=hC.out;exact aqF ho aX (mS ha) (rY ht) h1 h2 hk h3 h4 h5 h6 h7 h8
     ·exact hC.elim
    ·exact hC.elim
   ·exact h.elim
  ·rename_i aX;split at h
   ·rename_i m k t t' ha ht;obtain⟨⟨kt,et⟩,h1,hA⟩:=h.out;obtain⟨p,h2,hB⟩:=hA.out;obtain⟨a,h3,hC⟩:=hB.out;obtain⟨K,h4,hD⟩:=hC.out;obtain⟨id,e1,hE⟩:=Eu hD;clear h hA hB hC hD;subst e1;split at hE
    ·rename_i es ck hH;obtain⟨q1,fd,q2,q3⟩:=hE;exact aqG ho aX (mS ha) (rY ht) h1 h2 h3 h4 hH q1 q2 q3
    ·exact hE.elim
   ·exact h.elim
  ·rename_i x aX;obtain⟨f,h1,hA⟩:=h.out;obtain⟨aE,h2,hB⟩:=hA.out;exact Nw ho aX h1 h2 hB
  ·rename_i x name aX;obtain⟨f,h1,hA⟩:=h.out;obtain⟨aE,h2,hB⟩:=hA.out;exact acM ho aX h1 h2 hB
  ·exact quiet h
 ·exact quiet h
structure At (E:Env)(V:View)(s:AS)(a:Act)(nt:Nat):Prop where
 bt:Conc E V s.H
 tok:bZ E s.T a.tmps
 size:a.tmps.size=nt
theorem Kept.refl(E:Env)(V:View)(a:Act):Kept E E V V a a:=⟨Env.Le.refl E,rfl,rfl,rfl,rfl⟩
theorem Kept.trans{E E' bO:Env}{V V' aS:View}{a a' b8:Act}(h:Kept E E' V V' a a')(k:Kept E' bO V' aS a' b8):Kept E bO V aS a b8:=
 ⟨h.le.trans k.le,k.size.trans h.size,k.defers.trans h.defers,k.role.trans h.role,k.deaf.trans h.deaf⟩
inductive ao where
 |normal
 |exit (id:Nat)
 |goto (l:Nat)
 |ret
 |panic (pv:AV)
def pD (E:Env):ao->Ex->Prop
 |.normal,.normal=>True
 |.exit i,.exit j=>i=j
 |.goto i,.goto j=>i=j
 |.ret,.ret=>True
 |.panic pv,.panic ch=>∃v,ch=[{v,recovered:=false}]/\aq E pv v
 |_,_=>False
def aQ (lv:Bool)(P:SI)(r:Option Nat)(nt:Nat)(c:T6)(s:AS)(Φ:ao->AS->Prop):Prop:=
 ∀(E:Env)(V:View)(a:Act)(Q:Ex->Act->View->Prop),At E V s a nt->(∀ae e E' V' a' s',Kept E E' V V' a a'->At E' V' s' a' nt->pD E' ae e->Φ ae s'->Q e a' V')->WP lv P r c Q a V
theorem Aw{nt:Nat}{all:Array Tu}{Φ:ao->AS->Prop}(dn:∀o∈all,∀d,o.dst=some d->d<nt)(ng:∀o∈all,r=none\/l8 o.op=false):∀(n k:Nat)(s:AS),k+n=all.size->im lv P all (all.toList.drop k) s (Φ .normal) (λpv s=>Φ (.panic pv) s)->
  ∀(E:Env)(V:View)(a:Act)(Q:Ex->Act->View->Prop),At E V s a nt->(∀ae e E' V' a' s',Kept E E' V V' a a'->At E' V' s' a' nt->pD E' ae e->Φ ae s'->Q e a' V')->dj lv P r all Q (Ud k n) a V
 |0,k,s,hk,h,E,V,a,Q,ai,hQ=>by
  have:all.toList.drop k=[]:=by simp;omega
  rw[this]at h;exact hQ .normal .normal E V a s (Kept.refl E V a) ai trivial h
 |n+1,k,s,hk,h,E,V,a,Q,ai,hQ=>by
  have hlt:k<all.size:=by omega
  have hd:all.toList.drop k=all[k]::all.toList.drop (k+1):=by
   rw[TQ (by simpa using hlt)];simp
  rw[hd]at h;have fz:all[k]∈all:=XU hlt;have ho:all[k]?=some all[k]:=SJ hlt;simp only[VR,dj,ho];have go:∀s:AS,At E V s a nt->mj lv P s all[k] (λs'=>im lv P all (all.toList.drop (k+1)) s' (Φ .normal) (λpv s=>Φ (.panic pv) s)) (λpv s=>Φ (.panic pv) s)->wS lv P r all[k] a V (dj lv P r all Q (Ud (k+1) n)) Q:=λs ai h=>by
   refine h.sound (lv:=lv) (r:=r) E V a _ Q ai.bt ai.tok (λd e=>by rw[ai.size];exact dn _ fz d e) (ng _ fz) (λE' V' a' s' aJ aY l6 hn=> ?_) (λE' V' s' pv v aJ aY l6 bp hb=> ?_)
   ·exact Aw dn ng n (k+1) s' (by omega) hn E' V' a' Q ⟨aY,l6,aJ.size.trans ai.size⟩ (λae e bO aS b8 dh fL de he hΦ=>hQ ae e bO aS b8 dh (aJ.trans fL) de he hΦ)
   ·exact hQ (.panic pv) (.panic _) E' V' a s' aJ ⟨aY,l6,ai.size⟩ ⟨v,rfl,bp⟩ hb
  simp only[im]at h;split at h
  ·rename_i hg;have hw:Th all[k] (yielded all a.tmps)=true:=(by unfold Th;rw[hg]);rw[if_pos hw];exact .inl (go s ai h)
  ·rename_i j bT hg;obtain⟨d,fY,h⟩:=h.out;obtain⟨av,h1,h⟩:=h.out;obtain⟨b,rfl,h2,h3⟩:=BB h;have hv:=(ai.tok d _ h1).2;have hy:yielded all a.tmps j=some b:=by
    obtain⟨oj,ku,iZ⟩:=Te.1 fY;generalize hx:a.tmps.getD d undef=x at hv;cases hv;have lY:d<a.tmps.size:=(ai.tok d _ h1).1;rw[SH,SJ lY]at hx;simp only[S7]at hx;simp[yielded,ku,iZ,SJ lY,hx]
   have rL:∀b',b=b'->At E V ⟨(d,.val (.bool b'))::s.T,s.H⟩ a nt:=λb' dD=>by
    subst dD;refine⟨ai.bt,λt x e=> ?_,ai.size⟩;simp only[look]at e;split at e
    ·rename_i e';subst e';cases e;exact ai.tok d _ h1
    ·exact ai.tok t x e
   by_cases hb:b=bT
   ·have hw:Th all[k] (yielded all a.tmps)=true:=(by unfold Th;rw[hg];simp[hy,hb]);rw[if_pos hw];exact .inl (go _ (rL bT hb) (h2 hb))
   ·have hw:¬Th all[k] (yielded all a.tmps)=true:=(by unfold Th;rw[hg];simp[hy,hb]);rw[if_neg hw];have dD:b= !bT:=(by cases b<;>cases bT<;>simp_all);have vH:=h3 dD;have ai:=rL _ dD;exact Aw dn ng n (k+1) ((⟨(d,.val (.bool !bT))::s.T,s.H⟩:AS).put all[k].dst (.val undef)) (by omega) vH E V (a.put all[k].dst undef) Q
     ⟨by rw[eZ];exact ai.bt,ai.tok.gR (λd e=>by rw[ai.size];exact dn _ fz d e) (.val undef),by rw[dU];exact ai.size⟩
     (λae e bO aS b8 dh fL de he hΦ=>hQ ae e bO aS b8 dh ⟨fL.le,fL.size.trans (dU _ _ _),fL.defers.trans (put_defers _ _ _),fL.role,fL.deaf⟩ de he hΦ)
def jG (nt:Nat)(ops:Array Tu):Bool:=ops.all λo=>(o.dst.all (·<nt))&& !l8 o.op
theorem jG.out{nt:Nat}{ops:Array Tu}(hd:jG nt ops=true){o:Tu}(ho:o∈ops):(∀d,o.dst=some d->d<nt)/\l8 o.op=false:=by
 have:=(UJ.1 hd) o ho;simp only[Tg,TZ]at this;exact⟨λd e=>by have h1:=this.1;rw[e]at h1;simpa using h1,this.2⟩
theorem ON{nt id:Nat}{ops:Array Tu}{Φ:ao->AS->Prop}(hd:jG nt ops=true)(h:im lv P ops ops.toList s (Φ .normal) (λpv s=>Φ (.panic pv) s)):aQ lv P r nt (.region id ops false) s Φ:=by
 intro E V a Q ai hQ;refine wp_region ?_;rw[Vp];exact Aw (Φ:=Φ) (λo ho d e=>(jG.out hd ho).1 d e) (λo ho=> .inr (jG.out hd ho).2) ops.size 0 s (by omega) (by simpa using h) E V a Q ai hQ
theorem OR{nt:Nat}{Φ:ao->AS->Prop}(h:Φ .normal s):aQ lv P r nt .skip s Φ:=λE V a _ ai hQ=>wp_skip (hQ .normal _ E V a s (Kept.refl E V a) ai trivial h)
theorem OH{nt l:Nat}{Φ:ao->AS->Prop}(h:Φ .normal s):aQ lv P r nt (.label l) s Φ:=λE V a _ ai hQ=>wp_label (hQ .normal _ E V a s (Kept.refl E V a) ai trivial h)
theorem OF{nt id:Nat}{Φ:ao->AS->Prop}(h:Φ (.exit id) s):aQ lv P r nt (.exit id) s Φ:=λE V a _ ai hQ=>wp_exit (hQ (.exit id) _ E V a s (Kept.refl E V a) ai rfl h)
theorem OP{nt:Nat}{Φ:ao->AS->Prop}(h:Φ .ret s):aQ lv P r nt .ret s Φ:=λE V a _ ai hQ=>wp_ret (hQ .ret _ E V a s (Kept.refl E V a) ai trivial h)
def ao.then (next:AS->Prop)(Φ:ao->AS->Prop):ao->AS->Prop
 |.normal,s=>next s
 |e,s=>Φ e s
theorem pD.mono{E E':Env}(h:E.Le E'){ae:ao}{e:Ex}(k:pD E ae e):pD E' ae e:=by
 cases ae<;>cases e<;>first|exact k|(obtain⟨v,h1,h2⟩:=k;exact⟨v,h1,h2.mono h⟩)
theorem iF{nt:Nat}{x y:T6}{Φ:ao->AS->Prop}(h:aQ lv P r nt x s (ao.then (λs'=>aQ lv P r nt y s' Φ) Φ)):aQ lv P r nt (.seq x y) s Φ:=by
 intro E V a Q ai hQ;refine wp_seq (h E V a _ ai λae e E' V' a' s' hk aU he hΦ=> ?_);cases ae<;>cases e<;>first
  |exact he.elim
  |exact hΦ E' V' a' Q aU λae e bO aS b8 dh aJ de jW tg=>hQ ae e bO aS b8 dh (hk.trans aJ) de jW tg
  |exact hQ _ _ E' V' a' s' hk aU he hΦ
theorem afe{nt:Nat}{c:Ti}{x y:T6}{b:Bool}{Φ:ao->AS->Prop}(hc:s.ev c=some (.val (.bool b)))(h1:b=true->aQ lv P r nt x s Φ)(h2:b=false->aQ lv P r nt y s Φ):aQ lv P r nt (.cond c x y) s Φ:=by
 intro E V a Q ai hQ;have hv:=aq.ev ai.tok hc;generalize hx:a.eval c=v at hv;cases hv;refine wp_cond hx ?_;cases b with
 |true=>exact h1 rfl E V a Q ai hQ
 |false=>exact h2 rfl E V a Q ai hQ
def ao.inBlock (id:Nat)(Φ:ao->AS->Prop):ao->AS->Prop
 |.exit ov,s=>if ov=id then Φ .normal s else Φ (.exit ov) s
 |e,s=>Φ e s
theorem OD{nt id:Nat}{c:T6}{Φ:ao->AS->Prop}(h:aQ lv P r nt c s (ao.inBlock id Φ)):aQ lv P r nt (.block id c) s Φ:=by
 intro E V a Q ai hQ;refine wp_block (h E V a _ ai λae e E' V' a' s' hk aU he hΦ=> ?_);cases ae<;>cases e<;>first
  |exact he.elim
  |(rename_i i j
    have e:i=j:=he;subst e;by_cases bR:i=id
    ·simp only[Ex.inBlock,bR,if_true];simp only[ao.inBlock,bR,if_true]at hΦ;exact hQ .normal _ E' V' a' s' hk aU trivial hΦ
    ·simp only[Ex.inBlock,bR,if_false];simp only[ao.inBlock,bR,if_false]at hΦ;exact hQ (.exit i) _ E' V' a' s' hk aU rfl hΦ)
  |exact hQ _ _ E' V' a' s' hk aU he hΦ
theorem aQ.mono{nt:Nat}{c:T6}{Φ Φ':ao->AS->Prop}(h:aQ lv P r nt c s Φ)(hm:∀e s,Φ e s->Φ' e s):aQ lv P r nt c s Φ':=λE V a Q ai hQ=>
 h E V a Q ai λae e E' V' a' s' hk aU he hΦ=>hQ ae e E' V' a' s' hk aU he (hm _ _ hΦ)
def Wk (b a:AV):Prop:=∀E v,aq E b v->aq E a v
theorem Wk.refl(a:AV):Wk a a:=λ_ _ h=>h
theorem gV(n:Nat)(l:List AV)(e:End):Wk (.sl n l e) (.sl n l .shut):=λ_ _ h=>by
 cases h with
 |sl b o cap f hc he h1 h2=>exact .sl b o cap f hc trivial h1 h2
 |nil he=>exact .nil trivial
structure AS.Sub (s s':AS):Prop where
 tok:∀t a,look s'.T t=some a->∃b,look s.T t=some b/\Wk b a
 H:s.H=s'.H
theorem At.sub{E:Env}{V:View}{s s':AS}{a:Act}{nt:Nat}(h:At E V s a nt)(hl:s.Sub s'):At E V s' a nt:=
 ⟨by rw[<- hl.H];exact h.bt,λt x e=>by obtain⟨b,h1,h2⟩:=hl.tok t x e;exact⟨(h.tok t b h1).1,h2 _ _ (h.tok t b h1).2⟩,h.size⟩
theorem pJ{lv:Bool}{P:SI}{r:Option Nat}{nt:Nat}{c:T6}{s s':AS}{Φ:ao->AS->Prop}(hl:s.Sub s')(h:aQ lv P r nt c s' Φ):aQ lv P r nt c s Φ:=λE V a Q ai hQ=>h E V a Q (ai.sub hl) hQ
inductive Lt (n:Nat):AV->Prop
 |val (x:SO):Lt n (.val x)
 |agg {l:List AV} (h:∀a∈l,Lt n a):Lt n (.agg l)
 |aN {l:List AV} (h:∀a∈l,Lt n a):Lt n (.aN l)
 |sl {m:Nat} {l:List AV} {e:End} (he:∀k,e=.opn k->k<n) (h:∀a∈l,Lt n a):Lt n (.sl m l e)
 |bh {id off m cap:Nat} (h:id<n):Lt n (.bh id off m cap)
 |rp {l:List AV} (h:∀a∈l,Lt n a):Lt n (.rp l)
 |op {id off:Nat} (h:id<n):Lt n (.op id off)
 |fn {f:Fn} {first cQ:List AV} (h1:∀a∈first,Lt n a) (h2:∀a∈cQ,Lt n a):Lt n (.fn f first cQ)
 |cY {t:TypeId} {x:AV} (h:Lt n x):Lt n (.cY t x)
 |mp {id:Nat} (h:id<n):Lt n (.mp id)
theorem pq{l:List AV}{a:AV}(h:a∈l):∃i:Nat,l[i]?=some a:=UQ.1 h
theorem aq.lt{E:Env}{a:AV}{v:SO}(d:aq E a v):Lt E.n a:=by
 induction d with
 |val x=>exact .val x
 |agg hs _ ih=>exact .agg λa h=>(pq h).elim λi hi=>ih i a hi
 |aN hs _ ih=>exact .aN λa h=>(pq h).elim λi hi=>ih i a hi
 |sl b o cap f hc he h1 _ ih=>exact .sl (λk e=>by subst e;exact he.1) λa h=>(pq h).elim λi hi=>ih i a hi
 |nil he=>exact .sl (λk e=>by subst e;exact he.1) (by simp)
 |bh hi _=>exact .bh hi
 |rp b o f h1 _ ih=>exact .rp λa h=>(pq h).elim λi hi=>ih i a hi
 |op hi=>exact .op hi
 |fn dE fN _ _ mE kW=>exact .fn (λa h=>(pq h).elim λi hi=>mE i a hi) (λa h=>(pq h).elim λi hi=>kW i a hi)
 |cY _ ih=>exact .cY ih
 |mp hi=>exact .mp hi
theorem Lt.mono{n m:Nat}(h:n<=m){a:AV}(d:Lt n a):Lt m a:=by
 induction d with
 |val x=>exact .val x
 |agg _ ih=>exact .agg ih
 |aN _ ih=>exact .aN ih
 |sl he _ ih=>exact .sl (λk e=>Td (he k e) h) ih
 |bh hi=>exact .bh (Td hi h)
 |rp _ ih=>exact .rp ih
 |op hi=>exact .op (Td hi h)
 |fn _ _ mE kW=>exact .fn mE kW
 |cY _ ih=>exact .cY ih
 |mp hi=>exact .mp (Td hi h)
theorem pC.trim{E:Env}{e:End}{a:Option U5}{m cap n:Nat}(h:pC E e a m cap)(hk:∀k,e=.opn k->k<n):pC {E with n:=n} e a m cap:=by
 cases e with
 |exact=>exact h
 |shut=>trivial
 |opn k=>exact⟨hk k rfl,h.2⟩
theorem get_mem{l:List AV}{i:Nat}{a:AV}(h:l[i]?=some a):a∈l:=UQ.2 ⟨i,h⟩
theorem aq.trim{E:Env}{a:AV}{v:SO}(d:aq E a v){n:Nat}(h:Lt n a):aq {E with n:=n} a v:=by
 induction d with
 |val x=>exact .val x
 |agg hs _ ih=>cases h with|agg h=>exact .agg hs λi a e=>ih i a e (h a (get_mem e))
 |aN hs _ ih=>cases h with|aN h=>exact .aN hs λi a e=>ih i a e (h a (get_mem e))
 |sl b o cap f hc he h1 _ ih=>cases h with|sl hk h=>exact .sl b o cap f hc (he.trim hk) h1 λi a e=>ih i a e (h a (get_mem e))
 |nil he=>cases h with|sl hk h=>exact .nil (he.trim hk)
 |bh hi dP=>cases h with|bh h=>exact .bh (E:={E with n:=n}) h dP
 |rp b o f h1 _ ih=>cases h with|rp h=>exact .rp b o f h1 λi a e=>ih i a e (h a (get_mem e))
 |op hi=>cases h with|op h=>exact .op (E:={E with n:=n}) h
 |fn dE fN _ _ mE kW=>cases h with|fn h1 h2=>exact .fn dE fN (λi a e=>mE i a e (h1 a (get_mem e))) λi a e=>kW i a e (h2 a (get_mem e))
 |cY _ ih=>cases h with|cY h=>exact .cY (ih h)
 |mp hi=>cases h with|mp h=>exact .mp (E:={E with n:=n}) h
def eK (n:Nat):aa->Prop
 |.cells l _|.part _ l _|.own _ l _=>∀a∈l,Lt n a
 |.iter m _ _ _=>m<n
 |.loop _ _ _ _ T _ _ _ _ df=>(∀t a,look T t=some a->Lt n a)/\df<n
 |_=>True
theorem eK.mono{n m:Nat}(h:n<=m){x:aa}(k:eK n x):eK m x:=by
 cases x with
 |cells l el=>exactλa ha=>(k a ha).mono h
 |part p l el=>exactλa ha=>(k a ha).mono h
 |own p l el=>exactλa ha=>(k a ha).mono h
 |iter=>exact Td k h
 |loop=>exact⟨λt a e=>(k.1 t a e).mono h,Td k.2 h⟩
 |_=>trivial
theorem fG.olt{E:Env}{V:View}{k:Nat}{x:aa}(h:fG E V k x):eK E.n x:=by
 cases x with
 |cells l el=>obtain⟨⟨cs,_,h2⟩,_⟩:=h;exactλa ha=>(pq ha).elim λi hi=>(h2.2 i a hi).lt
 |part p l el=>obtain⟨⟨cs,_,h2,_⟩,_⟩:=h;exactλa ha=>(pq ha).elim λi hi=>(h2.2 i a hi).lt
 |own p l el=>obtain⟨⟨cs,_,h2,_⟩,_⟩:=h;exactλa ha=>(pq ha).elim λi hi=>(h2.2 i a hi).lt
 |iter m a b c=>exact h.1
 |loop=>obtain⟨⟨tmps,_,_,h2⟩,h3,_⟩:=h;exact⟨λt a e=>(h2 t a e).2.lt,h3⟩
 |_=>trivial
theorem fG.trim{E:Env}{V:View}{k n:Nat}{x:aa}(h:fG E V k x)(hl:eK n x):fG {E with n:=n} V k x:=by
 cases x with
 |cells l el=>obtain⟨⟨cs,h1,h2⟩,h3⟩:=h;exact⟨⟨cs,h1,h2.1,λi a e=>(h2.2 i a e).trim (hl a (get_mem e))⟩,h3⟩
 |part p l el=>obtain⟨⟨cs,h1,h2,h4⟩,h3⟩:=h;exact⟨⟨cs,h1,⟨h2.1,λi a e=>(h2.2 i a e).trim (hl a (get_mem e))⟩,h4⟩,h3⟩
 |own p l el=>obtain⟨⟨cs,h1,h2,h4⟩,h3⟩:=h;exact⟨⟨cs,h1,⟨h2.1,λi a e=>(h2.2 i a e).trim (hl a (get_mem e))⟩,h4⟩,h3⟩
 |iter m a b c=>exact⟨hl,h.2⟩
 |tail m sz el=>exact h
 |obj x=>exact h
 |loop=>obtain⟨⟨tmps,h1,h2,h3⟩,h4,h5⟩:=h;exact⟨⟨tmps,h1,h2,λt a e=>⟨(h3 t a e).1,(h3 t a e).2.trim (hl.1 t a e)⟩⟩,hl.2,h5⟩
 |gone=>trivial
 |main=>exact h
def bH (H:List aa):Prop:=∀x∈H,eK H.length x
theorem Conc.ay{E:Env}{V:View}{H:List aa}(h:Conc E V H):bH H:=λx hx=>by
 obtain⟨i,hi⟩:=UQ.1 hx;rw[<- h.n];exact(h.obj i x hi).olt
theorem EB(E:Env)(n k:Nat)(x:aa):bL {E with n:=n} k x=bL E k x:=by cases x<;>rfl
theorem Conc.trim{E:Env}{V:View}{H G:List aa}(h:Conc E V (H++G))(hl:bH H):Conc {E with n:=H.length} V H:=by
 have hg:∀(k:Nat) x,H[k]?=some x->(H++G)[k]?=some x:=λk x e=>by rw[SX (SL.1 e).1];exact e
 refine⟨h.I,rfl,λk x e=>(h.obj k x (hg k x e)).trim (hl x (Tc e)),λi j x y b h1 h2 h3 h4=> ?_,λg jX=> ?_,λg jX=> ?_,h.top,λb y jX=> ?_⟩
 ·rw[EB]at h3 h4;exact h.inj i j x y b (hg i x h1) (hg j y h2) h3 h4
 ·obtain⟨q0,q1,q2⟩:=h.group g jX;exact⟨q0,q1,λk x e=>by rw[EB];exact q2 k x (hg k x e)⟩
 ·obtain⟨q0,q1,q2⟩:=h.chan g jX;exact⟨q0,q1,λk x e=>by rw[EB];exact q2 k x (hg k x e)⟩
 ·obtain⟨q0,q1,q2⟩:=h.fr b y jX;exact⟨q0,q1,λk x e=>by rw[EB];exact q2 k x (hg k x e)⟩
structure AS.H8 (s s':AS):Prop where
 tok:∀t a,look s'.T t=some a->∃b,look s.T t=some b/\Wk b a/\Lt s'.H.length a
 H:∃G,s.H=s'.H++G
 ok:bH s'.H
theorem DR{E:Env}{n m:Nat}(h1:m<=n)(h2:n<=E.n){E0:Env}(h:E0.Le E)(h0:E0.n=m):E0.Le {E with n:=n}:=⟨h.I,by show E0.n<=n;omega,h.blk,h.ft,h.room,h.fr,h.main⟩
theorem At.cut{E:Env}{V:View}{s s':AS}{a:Act}{nt:Nat}(h:At E V s a nt)(hl:s.H8 s'):At {E with n:=s'.H.length} V s' a nt:=by
 obtain⟨G,hG⟩:=hl.H;have hc:=h.bt;rw[hG]at hc;refine⟨hc.trim hl.ok,λt x e=> ?_,h.size⟩;obtain⟨b,h1,h2,h3⟩:=hl.tok t x e;exact⟨(h.tok t b h1).1,(h2 _ _ (h.tok t b h1).2).trim h3⟩
theorem OI{nt:Nat}{α:Type}{lt:α->α->Prop}(wf:WellFounded lt){c:T6}{Φ:ao->AS->Prop}(inv:α->AS)(ok:α->Prop)(m:α)(h0:s.Sub (inv m))(hm:ok m)(hn:∀m,ok m->s.H.length<=(inv m).H.length)
  (h:∀m,ok m->aQ lv P r nt c (inv m) (ao.then (λs'=>∃m',lt m' m/\ok m'/\(s'.Sub (inv m')\/s'.H8 (inv m'))) Φ)):aQ lv P r nt (.loop c) s Φ:=by
 intro E V a Q ai hQ;refine NV wf (I:=λm a' V'=>ok m/\∃E',Kept E E' V V' a a'/\At E' V' (inv m) a' nt) m ⟨hm,E,Kept.refl E V a,ai.sub h0⟩ λm a' V' hI=> ?_;obtain⟨ay,E',hk,aU⟩:=hI;refine h m ay E' V' a' _ aU λae e bO aS b8 dh aJ de he hΦ=> ?_;cases ae<;>cases e<;>first
  |exact he.elim
  |(obtain⟨m',h1,h2,h3⟩:=hΦ
    rcases h3 with h3|h3
    ·exact⟨m',h1,h2,bO,hk.trans aJ,de.sub h3⟩
    ·refine⟨m',h1,h2,_,?_,de.cut h3⟩;have cD:=hk.trans aJ;obtain⟨G,hG⟩:=h3.H;exact⟨DR (hn m' h2) (by rw[de.bt.n,hG];simp) cD.le ai.bt.n,cD.size,cD.defers,cD.role,cD.deaf⟩)
  |exact hQ _ _ bO aS b8 dh (hk.trans aJ) de he hΦ
theorem afm{nt:Nat}{c:T6}{Φ:ao->AS->Prop}(inv:Nat->Nat->AS->Prop)
  (start:∃n:Nat,aQ lv P r nt c s (λe s'=>match e with
   |.goto l=>∃rest,findLabel c l=some rest/\∃m,m<n/\inv l m s'
   |e=>Φ e s'))
  (back:∀l rest m s',findLabel c l=some rest->inv l m s'->aQ lv P r nt rest s' (λe dh=>match e with
   |.goto l'=>∃yw,findLabel c l'=some yw/\∃m',m'<m/\inv l' m' dh
   |e=>Φ e dh)):aQ lv P r nt (.scope c) s Φ:=by
 intro E V a Q ai hQ;refine adz (λl m a' V'=>∃E' s',Kept E E' V V' a a'/\At E' V' s' a' nt/\inv l m s') ?_ ?_
 ·obtain⟨n,hn⟩:=start;refine⟨n,hn E V a _ ai λae e E' V' a' s' hk aU he hΦ=> ?_⟩;cases ae<;>cases e<;>first
   |exact he.elim
   |(have e:_=_:=he
     subst e;obtain⟨rest,h1,m,h2,h3⟩:=hΦ;exact⟨rest,h1,m,h2,E',s',hk,aU,h3⟩)
   |exact hQ _ _ E' V' a' s' hk aU he hΦ
 ·intro l rest m a' V' hf ⟨E',s',hk,aU,hi⟩;refine back l rest m s' hf hi E' V' a' _ aU λae e bO aS b8 dh aJ de he hΦ=> ?_;cases ae<;>cases e<;>first
   |exact he.elim
   |(have e:_=_:=he
     subst e;obtain⟨yw,h1,m',h2,h3⟩:=hΦ;exact⟨yw,h1,m',h2,bO,dh,hk.trans aJ,de,h3⟩)
   |exact hQ _ _ bO aS b8 dh (hk.trans aJ) de he hΦ
end
def br:Nat->List AV->List (Nat×AV)
 |_,[]=>[]
 |i,a::l=>(i,a)::br (i+1) l
theorem Mp:∀(l:List AV)(i t:Nat)(a:AV),look (br i l) t=some a->i<=t/\l[t-i]?=some a
 |[],_,_,_,h=>by cases h
 |b::l,i,t,a,h=>by
  simp only[br,look]at h;split at h
  ·rename_i e;subst e;cases h;exact⟨SQ _,by simp⟩
  ·obtain⟨h1,h2⟩:=Mp l (i+1) t a h;refine⟨by omega,?_⟩;have:t-i=(t-(i+1))+1:=(by omega);rw[this,UN];exact h2
def uX (P:SI)(s:AS):UO->Option AV
 |.tmp t=>look s.T t
 |.cell a t=>(look s.T a).bind λp=>(s.at p).bind λl=>(Ty P t).bind λx=>if x.2 then(if x.1<=l.length then some (.agg (l.take x.1))else none)else l[0]?
def gT (P:SI)(s:AS):List UO->Option (List AV)
 |[]=>some []
 |x::l=>match uX P s x,gT P s l with
  |some a,some aE=>some (a::aE)
  |_,_=>none
def iR:List AV->AV
 |[a]=>a
 |l=> .aN l
theorem ape{P:SI}{E:Env}{V:View}{s:AS}{a:Act}{nt:Nat}(ai:At E V s a nt){x:UO}{av:AV}(h:uX P s x=some av):
  ∃v,aq E av v/\∀{K:SO->View->Prop}{Kp:SO->View->Prop},K v V->aP P V (match x with|.tmp t=>pure (a.tmps.getD t undef)|.cell b t=>do loadVar t (<- asAddr (a.tmps.getD b undef))) K Kp:=by
 cases x with
 |tmp t=>exact⟨_,(ai.tok t av h).2,λhK=>au hK⟩
 |cell b t=>
  unfold uX at h;obtain⟨p,h1,h⟩:=Te.1 h;obtain⟨l,h2,h⟩:=Te.1 h;obtain⟨⟨n,g⟩,h3,h⟩:=Te.1 h;obtain⟨i,d,t1,t2,rfl,t4⟩:=Ty.out h3;obtain⟨bb,off,f,hv,hg,jX,hd⟩:=ai.bt.at (ai.tok b p h1).2 h2;dsimp only;rw[hv];cases g with
  |true=>
   simp only[if_true]at h;split at h
   ·rename_i hlen;cases h;refine⟨_,IW hlen hd,λhK=> ?_⟩;refine aA ?_;unfold asAddr;refine au ?_;unfold loadVar;refine Dz t2 ?_;rw[t4];simp only[if_true];refine jL t1 ?_;exact aA (AL (f:=f) (λh=>jX (by omega)) (λj hj=>hg j (by omega)) (au hK))
   ·cases h
  |false=>
   simp only[TM,if_false]at h;have hlen:0<l.length:=(SL.1 h).1;have lr:=hg 0 hlen;rw[UD]at lr;refine⟨_,hd 0 av h,λhK=> ?_⟩;refine aA ?_;unfold asAddr;refine au ?_;unfold loadVar;refine Dz t2 ?_;rw[t4];simp only[TM,if_false];exact Nk lr (.inl (jX hlen)) (cE hK)
theorem Hi{P:SI}{E:Env}{V:View}{s:AS}{a:Act}{nt:Nat}(ai:At E V s a nt):∀(rs:List UO)(l:List AV),gT P s rs=some l->∃vs:List SO,vs.length=l.length/\(∀(i:Nat) x,l[i]?=some x->aq E x (vs.getD i undef))/\
  ∀{K:List SO->View->Prop}{Kp:SO->View->Prop},K vs V->aP P V (rs.mapM λx=>(match x with|.tmp t=>pure (a.tmps.getD t undef)|.cell b t=>do loadVar t (<- asAddr (a.tmps.getD b undef)):Sem SO)) K Kp
 |[],l,h=>by
  cases h;refine⟨[],rfl,by simp,λhK=> ?_⟩;rw[UC];exact au hK
 |x::rs,l,h=>by
  simp only[gT]at h;split at h
  ·rename_i av lS h1 h2;cases h;obtain⟨v,hv,hs⟩:=ape ai h1;obtain⟨vs,hl,lH,F8⟩:=Hi ai rs lS h2;refine⟨v::vs,by simp[hl],λi x hx=> ?_,λhK=> ?_⟩
   ·cases i with
    |zero=>cases hx;simpa using hv
    |succ i=>simpa using lH i x (by simpa using hx)
   ·rw[Ua];exact aA (hs (aA (F8 (au hK))))
  ·cases h
attribute [seval] Int.natCast_pow Int.natCast_mul Int.natCast_shiftLeft Int.natCast_emod Int.ofNat_sub Int.natCast_shiftRight Int.natCast_add_one Int.natCast_add Int.cast_id Int.natCast_sub Int.natCast_ediv Int.natCast_succ
open Go.Conc
def cC (n0:Nat)(H:List aa)(a:AV)(k:AV->List aa->Prop):Prop:=
 ∃b,Wk a b/\(k b H\/∃H' G,H=H'++G/\n0<=H'.length/\bH H'/\Lt H'.length b/\k b H')
def tM (P:SI)(rs:List UO)(n0:Nat)(k kp:AV->List aa->Prop):ao->AS->Prop
 |.normal,s|.ret,s=>ap (gT P s rs) λl=>cC n0 s.H (iR l) k
 |.panic pv,s=>cC n0 s.H pv kp
 |_,_=>False
theorem bX{n0:Nat}{H:List aa}{a:AV}{k:AV->List aa->Prop}(h:k a H):cC n0 H a k:=⟨a,Wk.refl a,.inl h⟩
theorem jH{H H' G:List aa}{a b:AV}{k:AV->List aa->Prop}{n0:Nat}(hw:Wk a b)(hH:H=H'++G)(hn:n0<=H'.length)(ay:bH H')(hl:Lt H'.length b)(h:k b H'):cC n0 H a k:=⟨b,hw,.inr ⟨H',G,hH,hn,ay,hl,h⟩⟩
theorem xe{n0:Nat}{E0 E:Env}{V':View}{H:List aa}{a:AV}{v:SO}{k:AV->List aa->Prop}(h:cC n0 H a k)(hc:Conc E V' H)(hd:aq E a v)(hle:E0.Le E)(hn:E0.n=n0):∃b E' H',E0.Le E'/\aq E' b v/\Conc E' V' H'/\k b H':=by
 obtain⟨b,hw,h|⟨H',G,rfl,h1,h2,h3,h4⟩⟩:=h
 ·exact⟨b,E,H,hle,hw _ _ hd,hc,h⟩
 ·refine⟨b,{E with n:=H'.length},H',DR h1 (by rw[hc.n];simp) hle hn,(hw _ _ hd).trim h3,hc.trim h2,h4⟩
theorem aiJ{lv:Bool}{P:SI}{f:TS}{fn:ZQ}{c:T6}{rs:List UO}{nt:Nat}{H:List aa}{args:List AV}{k kp:AV->List aa->Prop}(hf:P.funcs[f]?=some fn)(hb:fn.body=some c)(hr:fn.results=rs.toArray)(hn:fn.ntmps=nt)(cJ:args.length<=nt)
  (h:bH H->(∀a∈args,Lt H.length a)->aQ lv P none nt c ⟨br 0 args,H⟩ (tM P rs H.length k kp)):bm lv P f H args k kp:=by
 intro E V vs hc hd;have aW:(vs++TK (fn.ntmps-vs.size) undef).size=nt:=by simp[hd.1];omega
 have hlt:∀a∈args,Lt H.length a:=λa ha=>by
  obtain⟨i,hi⟩:=pq ha;rw[<- hc.n];exact(hd.2 i a hi).lt
 refine O2 (by simp) hf hb (h hc.ay hlt E V _ _ ⟨hc,λq a e=> ?_,aW⟩ λae e E' V' a' s' hk ai he hΦ=> ?_)
 ·obtain⟨_,e⟩:=Mp args 0 q a e;simp only[ZV]at e;have hq:q<args.length:=(SL.1 e).1;have s7:q<vs.size:=by rw[hd.1];exact hq
  refine⟨by rw[aW];omega,?_⟩;have:=hd.2 q a e;rw[SH,Ya s7];rwa [SH]at this
 ·have fin:(ap (gT P s' rs) λl=>cC H.length s'.H (iR l) k)->a'.defers=[]/\∃v,aP P V' (results fn a'.tmps) (λx aS=>x=v/\aS=V') (λ_ _=>False)/\gJ E V k kp (.ret v) V':=by
   intro hΦ;obtain⟨l,h1,h2⟩:=hΦ.out;have gg:∃v,aq E' (iR l) v/\aP P V' (results fn a'.tmps) (λx aS=>x=v/\aS=V') (λ_ _=>False):=by
    obtain⟨vs,hl,lH,xR⟩:=Hi ai rs l h1;refine⟨if h:vs.length=1 then vs[0]else .tuple vs.toArray,?_,?_⟩
    ·match l,vs,hl,lH with
     |[x],[v],_,lH=>exact lH 0 x rfl
     |[],[],_,lH=>exact .aN rfl (by simp)
     |x::y::l,v::w::vs,hl,lH=>exact .aN (by simpa using hl) (λi z hz=>by simpa[SH,SE]using lH i z hz)
    ·unfold results;rw[hr,XZ];refine aA ?_;refine aA (xR ?_);refine au (au ⟨?_,rfl⟩);simp
   obtain⟨v,bp,qh⟩:=gg;obtain⟨b,bO,H',q1,q2,q3,q4⟩:=xe h2 ai.bt bp hk.le hc.n;exact⟨hk.defers,v,qh,b,bO,H',q1,hk.role,hk.deaf,q2,q3,q4⟩
  cases ae<;>cases e<;>first
   |exact he.elim
   |exact fin hΦ
   |(obtain⟨v,rfl,bp⟩:=he
     obtain⟨b,bO,H',q1,q2,q3,q4⟩:=xe hΦ ai.bt bp hk.le hc.n;exact⟨hk.defers,b,v,bO,H',rfl,q1,hk.role,hk.deaf,q2,q3,q4⟩)
   |exact hΦ.elim
open Go.Conc
theorem amJ(k:Nat)(a:AV)(l:List (Nat×AV)):look ((k,a)::l) k=some a:=by simp[look]
theorem amK(k t:Nat)(a:AV)(l:List (Nat×AV))(h:(k==t)=false):look ((k,a)::l) t=look l t:=by
 have:¬k=t:=by simpa using h
 simp[look,this]
theorem Av{α:Type}(a:α)(k:α->Prop):ap (some a) k=k a:=by rw[ap]
theorem aeZ(b:Bool)(k:Bool->Prop):AV.asBool (.val (.bool b)) k=k b:=by rw[AV.asBool]
theorem ae1(j:TY)(n:Int)(k:TY->Int->Prop):AV.asInt (.val (.int j n)) k=k j n:=by rw[AV.asInt]
theorem ae8(l:List AV)(k:List AV->Prop):AV.w6 (.aN l) k=k l:=by rw[AV.w6]
theorem aeX(l:List AV)(k:List AV->Prop):AV.asAgg (.agg l) k=k l:=by rw[AV.asAgg]
theorem ae3(i j:Nat)(k:Nat->Nat->Prop):AV.pH (.op i j) k=k i j:=by rw[AV.pH]
theorem ae2(i:Nat)(k:Nat->Prop):AV.sr (.mp i) k=k i:=by rw[AV.sr]
theorem ae6(n:Nat)(l:List AV)(e:End)(k:Nat->List AV->End->Prop):AV.vr (.sl n l e) k=k n l e:=by rw[AV.vr]
theorem ael(P:SI)(xt:TypeId)(j:TY)(m n:Int)(k:AV->Prop):dH P .add xt (.val (.int j m)) (.val (.int j n)) k=k (.val (.int j (j.wrap (m+n)))):=by simp[dH,mF,lT,ap]
theorem aex(P:SI)(xt:TypeId)(j:TY)(m n:Int)(k:AV->Prop):dH P .sub xt (.val (.int j m)) (.val (.int j n)) k=k (.val (.int j (j.wrap (m-n)))):=by simp[dH,mF,lT,ap]
theorem aet(P:SI)(xt:TypeId)(j:TY)(m n:Int)(k:AV->Prop):dH P .mul xt (.val (.int j m)) (.val (.int j n)) k=k (.val (.int j (j.wrap (m* n)))):=by simp[dH,mF,lT,ap]
theorem aen(P:SI)(xt:TypeId)(j:TY)(m n:Int)(k:AV->Prop):dH P .eql xt (.val (.int j m)) (.val (.int j n)) k=k (.val (.bool (m==n))):=by simp[dH,mF,lT,ap]
theorem Oi(P:SI)(xt:TypeId)(j:TY)(m n:Int)(k:AV->Prop):dH P .neq xt (.val (.int j m)) (.val (.int j n)) k=k (.val (.bool (m !=n))):=by simp[dH,mF,lT,ap]
theorem aes(P:SI)(xt:TypeId)(j:TY)(m n:Int)(k:AV->Prop):dH P .lss xt (.val (.int j m)) (.val (.int j n)) k=k (.val (.bool (decide (m<n)))):=by simp[dH,mF,lT,ap]
theorem aer(P:SI)(xt:TypeId)(j:TY)(m n:Int)(k:AV->Prop):dH P .leq xt (.val (.int j m)) (.val (.int j n)) k=k (.val (.bool (decide (m<=n)))):=by simp[dH,mF,lT,ap]
theorem aep(P:SI)(xt:TypeId)(j:TY)(m n:Int)(k:AV->Prop):dH P .gtr xt (.val (.int j m)) (.val (.int j n)) k=k (.val (.bool (decide (m>n)))):=by simp[dH,mF,lT,ap]
theorem aeo(P:SI)(xt:TypeId)(j:TY)(m n:Int)(k:AV->Prop):dH P .geq xt (.val (.int j m)) (.val (.int j n)) k=k (.val (.bool (decide (m>=n)))):=by simp[dH,mF,lT,ap]
theorem aem(P:SI)(xt:TypeId)(j:TY)(m n:Int)(k:AV->Prop):dH P .and xt (.val (.int j m)) (.val (.int j n)) k=k (.val (.int j (j.wrap (Ui j.bits m&&&Ui j.bits n).toNat))):=by simp[dH,mF,lT,ap]
theorem Bu(P:SI)(xt:TypeId)(j:TY)(m n:Int)(k:AV->Prop):dH P .or xt (.val (.int j m)) (.val (.int j n)) k=k (.val (.int j (j.wrap (Ui j.bits m|||Ui j.bits n).toNat))):=by simp[dH,mF,lT,ap]
theorem Bw(P:SI)(xt:TypeId)(j:TY)(m n:Int)(k:AV->Prop):dH P .xor xt (.val (.int j m)) (.val (.int j n)) k=k (.val (.int j (j.wrap (Ui j.bits m^^^Ui j.bits n).toNat))):=by simp[dH,mF,lT,ap]
theorem aev(P:SI)(xt:TypeId)(j:TY)(m n:Int)(k:AV->Prop):dH P .rem xt (.val (.int j m)) (.val (.int j n)) k=ap (if n=0 then none else some (.int j (m.tmod n))) λv=>k (.val v):=by simp[dH,mF,lT]
theorem aew(P:SI)(xt:TypeId)(j j':TY)(m n:Int)(k:AV->Prop):dH P .shl xt (.val (.int j m)) (.val (.int j' n)) k=ap (if n<0 then none else some (.int j (j.wrap (m* 2^(min n.toNat j.bits))))) λv=>k (.val v):=by simp[dH,mF,AP]
theorem Bv(P:SI)(xt:TypeId)(j j':TY)(m n:Int)(k:AV->Prop):dH P .shr xt (.val (.int j m)) (.val (.int j' n)) k=ap (if n<0 then none else some (.int j (m.fdiv (2^(min n.toNat j.bits))))) λv=>k (.val v):=by simp[dH,mF,AP]
theorem ahg(T:List (Nat×AV))(H:List aa)(t:Nat):AS.ev ⟨T,H⟩ (.tmp t)=look T t:=by rw[AS.ev]
theorem ag7(s:AS)(b:Bool):s.ev (.const (.bool b))=some (.val (.bool b)):=by rw[AS.ev,AV.of]<;>(intros;simp_all)
theorem ahb(s:AS)(k:TY)(n:Int):s.ev (.const (.int k n))=some (.val (.int k n)):=by rw[AS.ev,AV.of]<;>(intros;simp_all)
theorem ag9(s:AS)(f:TS):s.ev (.func f)=some (.fn (.func f) [] []):=by rw[AS.ev]
theorem ahf(s:AS):s.ev (.const (.slice none 0 0))=some (.sl 0 [] .exact):=by rw[AS.ev,AV.of]
theorem ahc(s:AS):s.ev (.const (.map none))=some (.val (.map none)):=by rw[AS.ev,AV.of]<;>(intros;simp_all)
theorem ahd(s:AS):s.ev (.const (.pointer none))=some (.val (.pointer none)):=by rw[AS.ev,AV.of]<;>(intros;simp_all)
theorem ag8(s:AS):s.ev (.const .nilFunc)=some (.val .nilFunc):=by rw[AS.ev,AV.of]<;>(intros;simp_all)
theorem aha(s:AS):s.ev (.const .nilIface)=some (.val .nilIface):=by rw[AS.ev,AV.of]<;>(intros;simp_all)
theorem aon(T:List (Nat×AV))(H:List aa)(d:Nat)(a:AV):AS.put ⟨T,H⟩ (some d) a=⟨(d,a)::T,H⟩:=by rw[AS.put]
theorem aom(s:AS)(a:AV):AS.put s none a=s:=by rw[AS.put]
theorem ari(n:AS->Prop)(Φ:ao->AS->Prop)(s:AS):ao.then n Φ .normal s=n s:=by rw[ao.then]
theorem ark(n:AS->Prop)(Φ:ao->AS->Prop)(s:AS):ao.then n Φ .ret s=Φ .ret s:=by rw[ao.then];intro h;cases h
theorem arf(n:AS->Prop)(Φ:ao->AS->Prop)(i:Nat)(s:AS):ao.then n Φ (.exit i) s=Φ (.exit i) s:=by rw[ao.then];intro h;cases h
theorem arh(n:AS->Prop)(Φ:ao->AS->Prop)(i:Nat)(s:AS):ao.then n Φ (.goto i) s=Φ (.goto i) s:=by rw[ao.then];intro h;cases h
theorem arj(n:AS->Prop)(Φ:ao->AS->Prop)(a:AV)(s:AS):ao.then n Φ (.panic a) s=Φ (.panic a) s:=by rw[ao.then];intro h;cases h
theorem afV(i:Nat)(Φ:ao->AS->Prop)(s:AS):ao.inBlock i Φ .normal s=Φ .normal s:=by rw[ao.inBlock];intro h h';cases h'
theorem afX(i:Nat)(Φ:ao->AS->Prop)(s:AS):ao.inBlock i Φ .ret s=Φ .ret s:=by rw[ao.inBlock];intro h h';cases h'
theorem afS(i l:Nat)(Φ:ao->AS->Prop)(s:AS):ao.inBlock i Φ (.goto l) s=Φ (.goto l) s:=by rw[ao.inBlock];intro h h';cases h'
theorem afW(i:Nat)(Φ:ao->AS->Prop)(a:AV)(s:AS):ao.inBlock i Φ (.panic a) s=Φ (.panic a) s:=by rw[ao.inBlock];intro h h';cases h'
theorem afT(i:Nat)(Φ:ao->AS->Prop)(s:AS):ao.inBlock i Φ (.exit i) s=Φ .normal s:=by rw[ao.inBlock,if_pos rfl]
theorem afU(i j:Nat)(Φ:ao->AS->Prop)(s:AS)(h:(j==i)=false):ao.inBlock i Φ (.exit j) s=Φ (.exit j) s:=by
 have:¬j=i:=by simpa using h
 rw[ao.inBlock,if_neg this]
theorem aiU(P:SI)(rs:List UO)(n:Nat)(k kp:AV->List aa->Prop)(s:AS):tM P rs n k kp .ret s=ap (gT P s rs) λl=>cC n s.H (iR l) k:=by rw[tM]
theorem aiS(P:SI)(rs:List UO)(n:Nat)(k kp:AV->List aa->Prop)(s:AS):tM P rs n k kp .normal s=ap (gT P s rs) λl=>cC n s.H (iR l) k:=by rw[tM]
theorem aiT(P:SI)(rs:List UO)(n:Nat)(k kp:AV->List aa->Prop)(a:AV)(s:AS):tM P rs n k kp (.panic a) s=cC n s.H a kp:=by rw[tM]
theorem apf(P:SI)(T:List (Nat×AV))(H:List aa)(t:Nat):uX P ⟨T,H⟩ (.tmp t)=look T t:=by rw[uX]
theorem afd(s:AS)(l:List AV):s.at (.rp l)=some l:=by rw[AS.at]
theorem ap8(n i off:Nat):AV.shift n (.op i off)=some (.op i (off+n)):=by rw[AV.shift]
theorem acy(n:Nat)(l:List AV)(h:n<=l.length):AV.shift n (.rp l)=some (.rp (l.drop n)):=by rw[AV.shift,if_pos h]
theorem ap9(l:List AV):AV.shift 0 (.rp l)=some (.rp l):=by rw[AV.shift,if_pos (W2 _),Xy]
theorem aqa(n:Nat)(a:AV)(l:List AV):AV.shift (n+1) (.rp (a::l))=AV.shift n (.rp l):=by simp[AV.shift]
theorem apr(n:Nat)(l:List AV)(e:End):AV.row (.sl n l e)=some (n,.rp l):=by rw[AV.row]
theorem apq(i off n cap:Nat):AV.row (.bh i off n cap)=some (n,.op i off):=by rw[AV.row]
theorem ad5(P:SI)(s:AS){t:TypeId}(n:Nat)(l:List AV)(e:End)(k:AV->Prop)(h:ld P t=some .slice):r_ P s t (.sl n l e) k=k (.val (.int .i64 n)):=by unfold r_;rw[h]
theorem ad4(P:SI)(s:AS){t:TypeId}(i off n cap:Nat)(k:AV->Prop)(h:ld P t=some .slice):r_ P s t (.bh i off n cap) k=k (.val (.int .i64 n)):=by unfold r_;rw[h]
theorem ad3(P:SI)(T:List (Nat×AV))(H:List aa){t:TypeId}(id:Nat)(k:AV->Prop){es:Array Wh}{ck:Nat}(h:ld P t=some .map)(hH:H[id]?=some (.obj (.map es ck))):r_ P ⟨T,H⟩ t (.mp id) k=k (.val (.int .i64 es.size)):=by
 unfold r_;rw[h];simp[hH]
theorem bC{a b:AV}:(∃c,some b=some c/\Wk c a)<->Wk b a:=⟨λ⟨_,h,k⟩=>by cases h;exact k,λh=>⟨_,rfl,h⟩⟩
abbrev iv (n:Int):AV:=.val (.int .i64 n)
abbrev bv (b:Bool):AV:=.val (.bool b)
open Go.Conc
theorem OE{lv:Bool}{P:SI}{r:Option Nat}{s:AS}{nt:Nat}{c:Ti}{x y:T6}{Φ:ao->AS->Prop}(h:ap (s.ev c) λa=>a.asBool λb=>(b=true->aQ lv P r nt x s Φ)/\(b=false->aQ lv P r nt y s Φ)):aQ lv P r nt (.cond c x y) s Φ:=by
 obtain⟨a,h1,h2⟩:=h.out;obtain⟨b,rfl,h3,h4⟩:=BB h2;exact afe h1 h3 h4
theorem PF{α β:Type}{f:α->List β}{m:Nat}(hf:∀x,(f x).length=m):∀{xs:List α}{i:Nat}{x:α},xs[i]?=some x->(xs.flatMap f).drop (i* m)=f x++(xs.drop (i+1)).flatMap f
 |y::xs,0,x,h=>by cases h;simp
 |y::xs,i+1,x,h=>by
  have ih:=PF hf (xs:=xs) (i:=i) (x:=x) (by simpa using h);rw[Ub,Vd,Nat.one_mul,Z0 (i* m) m,<- aj'];have:(f y++xs.flatMap f).drop m=xs.flatMap f:=by rw[<- hf y];simp
  rw[this,ih];simp
 |[],i,x,h=>by simp at h
theorem mb{α β:Type}{f:α->List β}{m:Nat}(hf:∀x,(f x).length=m)(xs:List α):(xs.flatMap f).length=xs.length* m:=by
 induction xs with
 |nil=>simp
 |cons x xs ih=>rw[Ub,S4,hf,ih,Uk,Vd];omega
theorem acw{α:Type}{f:α->List AV}{m:Nat}(hf:∀x,(f x).length=m){xs:List α}{i:Nat}{x:α}(h:xs[i]?=some x):AV.shift (i* m) (.rp (xs.flatMap f))=some (.rp (f x++(xs.drop (i+1)).flatMap f)):=by
 have hi:i<xs.length:=(SL.1 h).1;rw[acy _ _ (by rw[mb hf];exact Uh _ (by omega)),PF hf h]
theorem acx{α:Type}{f:α->AV}{xs:List α}{i:Nat}{x:α}(h:xs[i]?=some x):AV.shift (i* 1) (.rp (xs.map f))=some (.rp (f x::(xs.drop (i+1)).map f)):=by
 have hi:i<xs.length:=(SL.1 h).1;rw[Yb,acy _ _ (by simp;omega)];congr 2;rw[<- af_,TQ hi,UW];congr 2;rw[SY hi]at h;exact Wj h
theorem jE{i n:Nat}(h:i<n):(0<=(i:Int)/\(i:Int)<(n:Int))=True:=by simp;exact h
theorem eI{α:Type}{xs:List α}{i:Nat}{x:α}(h:xs[i]?=some x):i<xs.length:=(SL.1 h).1
theorem cj{α:Type}{xs:List α}{i:Nat}(h:i<xs.length):∃x,xs[i]?=some x:=⟨_,SY h⟩
theorem vo(H L:List aa)(i:Nat):(H++L)[H.length+i]?=L[i]?:=by rw[S9 (by omega)];congr 1;omega
theorem aeQ(H L:List aa):(H++L)[H.length]?=L[0]?:=by have:=vo H L 0;simpa using this
theorem vp(H L:List aa)(i:Nat)(x:aa):(H++L).set (H.length+i) x=H++L.set i x:=by
 rw[T_ _ _ (by omega)];congr 2;omega
theorem aeU(H L:List aa)(x:aa):(H++L).set H.length x=H++L.set 0 x:=by have:=vp H L 0 x;simpa using this
theorem aeP(H L M:List aa):(H++L)++M=H++(L++M):=SC ..
theorem aeT(H L:List aa):(H++L).length=H.length+L.length:=S4
theorem eC(n:Nat)(x:SO):Lt n (.val x)=True:=by simp[Lt.val]
theorem aaP(n i o:Nat):Lt n (.op i o)=(i<n):=propext ⟨λh=>by cases h with|op h=>exact h,.op⟩
theorem tn(n:Nat)(l:List AV):Lt n (.agg l)=∀a∈l,Lt n a:=propext ⟨λh=>by cases h with|agg h=>exact h,.agg⟩
theorem jx(n:Nat)(l:List AV):Lt n (.aN l)=∀a∈l,Lt n a:=propext ⟨λh=>by cases h with|aN h=>exact h,.aN⟩
theorem aaO(n:Nat)(t:TypeId)(a:AV):Lt n (.cY t a)=Lt n a:=propext ⟨λh=>by cases h with|cY h=>exact h,.cY⟩
theorem uT(n m:Nat)(l:List AV):Lt n (.sl m l .shut)=∀a∈l,Lt n a:=propext ⟨λh=>by cases h with|sl _ h=>exact h,λh=> .sl (by simp) h⟩
theorem Ms(n m:Nat)(l:List AV):Lt n (.sl m l .exact)=∀a∈l,Lt n a:=propext ⟨λh=>by cases h with|sl _ h=>exact h,λh=> .sl (by simp) h⟩
theorem amN(n m k:Nat)(l:List AV):Lt n (.sl m l (.opn k))=(k<n/\∀a∈l,Lt n a):=propext ⟨λh=>by cases h with|sl h' h=>exact⟨h' k rfl,h⟩,λh=> .sl (λk' e=>by cases e;exact h.1) h.2⟩
theorem yi(n:Nat)(l:List AV):Lt n (.rp l)=∀a∈l,Lt n a:=propext ⟨λh=>by cases h with|rp h=>exact h,.rp⟩
open Go.Conc
def cN (o:Tu):List Nat:=o.after.toList.filterMap λe=>if Yq .any e then some e.on else none
inductive lQ (ops:Array Tu):List Nat->List Nat->Prop
 |nil (X:List Nat) (h:∀i,i<ops.size->i∈X):lQ ops X []
 |cons {X:List Nat} {i:Nat} {l:List Nat} (o:Tu) (ho:ops[i]?=some o) (hn:i∉X) (hd:∀j∈cN o,j∈X) (h:lQ ops (i::X) l):lQ ops X (i::l)
theorem GL{o:Tu}{j:Nat}:j∈cN o<->∃e∈o.after,Yq .any e=true/\e.on=j:=by
 unfold cN;rw[VT];constructor
 ·rintro⟨e,he,h⟩
  split at h
  ·rename_i hb;cases h;exact⟨e,by simpa using he,hb,rfl⟩
  ·cases h
 ·rintro⟨e,he,hb,rfl⟩
  exact⟨e,by simpa using he,by rw[if_pos hb]⟩
theorem Pj{l:List Nat}{i:Nat}(hi:i∈l){p q:Nat->Bool}(nw:∀k,q k=true->p k=true)(hp:p i=true)(hq:q i=false):l.countP q<l.countP p:=by
 induction l with
 |nil=>cases hi
 |cons x l ih=>
  have hle:l.countP q<=l.countP p:=List.countP_mono_left λk _ h=>nw k h;rcases SK.1 hi with rfl|hi
  ·rw[WQ (by simp[hq]),VS hp];omega
  ·have:=ih hi;by_cases hx:q x=true
   ·rw[VS hx,VS (nw x hx)];omega
   ·rw[WQ hx];by_cases jw:p x=true
    ·rw[VS jw];omega
    ·rw[WQ jw];exact this
structure Od (ops:Array Tu)(L:Array Bool)(X:List Nat):Prop where
 size:L.size=ops.size
 mem:∀i,i<ops.size->(L[i]?=some true<->i∈X)
theorem aaI{ops:Array Tu}(h_:∀(i:Nat) o,ops[i]?=some o->∀j∈cN o,j<i):∀(fuel t:Nat)(L:Array Bool)(X:List Nat),Od ops L X->(SV ops.size).countP (λi=> !X.contains i)<=fuel->lQ ops X (UH .any ops fuel t L [])
 |0,t,L,X,hr,hc=>by
  simp only[UH,XV];refine .nil X λi hi=> ?_;have:(SV ops.size).countP (λi=> !X.contains i)=0:=by omega
  have:=List.countP_eq_zero.1 this i (by simpa using hi);simpa using this
 |fuel+1,t,L,X,hr,hc=>by
  have uC:∀i,i∈((SV ops.size).filter λi=> !L.getD i true&&((ops[i]?).map (·.after.all λe=> !Region.binds .any e||L.getD e.on false)).getD false)<->∃o,ops[i]?=some o/\i∉X/\∀j∈cN o,j∈X:=by
   intro i;simp only[Uw,TP,Tg,TZ];constructor
   ·rintro⟨hi,h1,h2⟩
    have ho:=SJ hi;refine⟨ops[i],ho,λhx=> ?_,λj hj=> ?_⟩
    ·have:=(hr.mem i hi).2 hx;rw[SH,this]at h1;cases h1
    ·obtain⟨e,he,hb,rfl⟩:=GL.1 hj;rw[ho]at h2;simp only[UP,S7,UJ]at h2;have:=h2 e he;rw[hb]at this;simp only[ai',XT]at this;have hlt:e.on<ops.size:=Wl (h_ i _ ho _ hj) hi;refine(hr.mem _ hlt).1 ?_;rw[SH]at this;cases hx:L[e.on]?with
     |none=>rw[hx]at this;cases this
     |some b=>rw[hx]at this;cases b;cases this;rfl
   ·rintro⟨o,ho,h1,h2⟩
    have hi:i<ops.size:=(SR.1 ho).1;refine⟨hi,?_,?_⟩
    ·rw[SH,SJ (by rw[hr.size];exact hi)];simp only[S7];cases hb:L[i]'(by rw[hr.size];exact hi)with
     |false=>rfl
     |true=>exact absurd ((hr.mem i hi).1 (by rw[SJ (by rw[hr.size];exact hi),hb])) h1
    ·rw[ho];simp only[UP,S7,UJ];intro e he;cases hb:Yq .any e with
     |false=>rfl
     |true=>
      have hj:=GL.2 ⟨e,he,hb,rfl⟩;have hlt:e.on<ops.size:=Wl (h_ i _ ho _ hj) hi;have:=(hr.mem _ hlt).2 (h2 _ hj);simp[SH,this]
  simp only[UH];generalize CJ:((SV ops.size).filter λi=> !L.getD i true&&((ops[i]?).map (·.after.all λe=> !Region.binds .any e||L.getD e.on false)).getD false)=rs at uC;cases hi:rs[t % rs.length]?with
  |none=>
   have K2:rs=[]:=by
    cases rs with
    |nil=>rfl
    |cons x xs=>
     have hlt:t % (x::xs).length<(x::xs).length:=ar_ _ (by simp);rw[List.getElem?_eq_none_iff]at hi;omega
   simp only[XV];refine .nil X λi=> ?_;induction i using Yn with
   |_ i ih=>
    intro hlt;apply Tt;intro hx;have:i∈rs:=(uC i).2 ⟨ops[i],SJ hlt,hx,λj hj=>ih j (h_ i _ (SJ hlt) j hj) (Wl (h_ i _ (SJ hlt) j hj) hlt)⟩;rw[K2]at this;cases this
  |some i=>
   simp only[];obtain⟨o,ho,h1,h2⟩:=(uC i).1 (Tc hi);have hlt:i<ops.size:=(SR.1 ho).1;rw[linearise_go_acc,List.reverse_singleton,Y1];refine .cons o ho h1 h2 (aaI h_ fuel _ _ (i::X) ⟨by simp[hr.size],λk hk=> ?_⟩ ?_)
   ·by_cases rk:k=i
    ·subst rk;simp[S_ (by rw[hr.size];exact hlt)]
    ·rw[SU (Ne.symm rk),hr.mem k hk];simp[rk]
   ·have fz:i∈(SV ops.size):=(by simpa using hlt);have:(SV ops.size).countP (λk=> !(i::X).contains k)<(SV ops.size).countP (λk=> !X.contains k):=by
     exact Pj fz (λk hk=>by simp only[TZ,Uq,decide_eq_false_iff_not]at hk⊢;exactλh=>hk (Tb _ h)) (by simpa using h1) (by simp)
    omega
end Go.Gg
