/- A part of the proof. -/
import Derived.Conc.Own5
import Derived.Conc.Own4
import Derived.Conc.Own3
import Derived.Conc.Own2
import Derived.Conc.QuitsD
import Derived.Conc.Deaf
import Derived.Conc.CompanyDraw
import Derived.Conc.Comm2
import Derived.Conc.Beside
import Derived.Conc.Events
import Derived.Conc.CrowdTrace
import Derived.Conc.CrowdComm
import Derived.Conc.CrowdStepC
import Derived.Conc.LeavingOf
import Derived.Conc.AtomicLaws
import Derived.Conc.AtomicLaws2
import Derived.Conc.MarkLaws
import Derived.Conc.SmallLaws
import Derived.Laws.LoneSync
import Derived.KernelRfl
set_option linter.all false
set_option maxRecDepth 4000
set_option maxHeartbeats 4000000
open Array renaming all_eq_true_iff_forall_mem->Vw,append_assoc->Xv,empty_append->XC,getElem?_append_right->Y9,getElem?_eq_getElem->Tf,getElem?_eq_some_iff->Tl,getElem?_map->XA,getElem?_modify->Wd,getElem?_push->Xr,getElem?_push_lt->Zw,getElem?_setIfInBounds->Xp,getElem?_setIfInBounds_ne->Tq,getElem?_setIfInBounds_self_of_lt->T8,getElem_mem->XP,isEmpty_empty->Z0,mem_append->Vk,mem_iff_getElem?->ZE,replicate->UI,size->avQ,size_append->YG
open Bool renaming and_eq_true->Uk,false_eq_true->UB,not_eq_true'->UK
open Classical renaming byContradiction->Uj
open Eq renaming trans->Xd
open Go renaming Addr->Wp,CallKind->Yi,Code->UX,Event->WV,Frame->VA,Func->avu,FuncId->UH,GStep->awL,Goroutine->Te,IntKind->UN,Item->awJ,Machine->awr,MemOp->WU,Oper->U8,Operand->Ui,PanicEntry->avs,Program->Tg,Touch->ZK,Trace->U6,TypeInfo->XV,Value->T5,World->Ul,step->avV
open Go.Act renaming put->Y6
open Go.CallKind renaming early->VZ
open Go.Conc renaming Deaf->VH,Deaf_other->ZM,Good->Yq,Knows->W5,QuitsD->YR,act?_of->ZC,act?_old->Y8,casT_eq->avD,crowd_pick->avx,crowd_waits->awC,deaf_succ->Zk,finishComm_recv->Zt,finishComm_send->avZ,g?_old->awM,getElem?_append_cases->Yp,getElem?_stand->XO,heard_old->W2,knows_own->YF,lt_of_act?->Xe,lt_size_of_getElem?->Uz,mem_ofEvents->UD,mem_of_getElem?->XD,ofEvent_cell0->awj,offersAt_of_not_blocked->Vz,offersAt_parked_send->aq',offersAt_ph->YD,partners_nil->ai_,runT_crowd_go->awi,runT_crowd_spawn->avN,seen_none->Zj,served->UM,stepG_entry->aq_,stepG_same->Yh,touch_mute->avw,touch_of->VG,woken_quitsD->ah',woken_run->Ya
open Go.Conc.Knows renaming app->av1
open Go.Conc.QuitsD renaming status->Za
open Go.ConcN renaming le_sumTo->W_,sumTo_congr->VY
open Go.Event renaming mute->Xi
open Go.Extern.Atomic renaming casT->Yx,loadT->ad',storeT->ad_,update->adE
open Go.Extern.Race renaming marked->Xb
open Go.Extern.Sync renaming semacquire->Yw,semrelease->ats
open Go.Frame renaming catches->avv,oper?->ZL,round->Y5
open Go.GStep renaming after->UT
open Go.GoStatus renaming blocked->awB
open Go.Goroutine renaming again->ZV
open Go.Goroutine.mk renaming injEq->avY
open Go.IntKind renaming u32->av_
open Go.Item renaming plain->avX
open Go.MemAct renaming low_mono->YQ,ofEvent->Up,touch?->Xf
open Go.MemAct.mark renaming injEq->av9
open Go.MemOp renaming ofEvents->Ua
open Go.Obj renaming isChan->av8
open Go.Question renaming cut->awc,forced->awv
open Go.Region renaming schedule->WT,wanted->Ug
open Go.Result renaming ok->ab_
open Go.Sem renaming events_pure->ar',runT->WH,runT_eq->Uw,run_pure->avJ
open Go.Trace renaming g?->Xk
open Go.World renaming cell?->Vs,frozen?->avr,setCell->XH,setChan->Xh
open Go.stepG renaming exec->U1,oper->Z6
open List renaming foldl_cons->VS,getElem?_append_left->Tw,getElem?_drop->Vd,getElem?_eq_some_iff->Tj,getElem?_set_ne->U3,getElem?_set_self->Yd,length_append->Tx,length_cons->UU,length_nil->VR,mem_append->Tp,mem_cons->Th,mem_iff_getElem?->VF,mem_of_getElem?->Uf,mem_toArray->UC,not_mem_nil->Tv,range->Tt
open List.cons renaming inj->WB
open Nat renaming add_zero->Vl,eq_zero_or_pos->VD,le_refl->Tm,le_trans->Vb,lt_of_lt_of_le->Ub,lt_succ_self->Ve,ne_of_lt->XE,strongRecOn->Zl
open Option renaming bind_some->Z9,map_eq_some_iff->Uq,map_some->VL
open Option.some renaming inj->Wq,injEq->Uh
open Prod.mk renaming injEq->VQ
namespace Go.Gg
open Go.Conc
abbrev SE:=List Nat
abbrev SD:=List Int
abbrev cr:=Nat->Nat->Option T5
abbrev BF:=Nat->Option Obj
abbrev Spec:=T5->cr->BF->Prop
inductive nd where
 |plain
 |fork (c Wg:Nat) (Ss:List (List Spec))
 |recv (c Wg:Nat) (Ss:List (List Spec))
 |work (c Wg:Nat) (S:List Spec)
def nd.group:nd->Option Nat
 |.fork _ Wg _=>some Wg
 |_=>none
def nd.chan:nd->Option Nat
 |.fork c _ _=>some c
 |_=>none
structure View where
 ab:cr
 own:BF
 deaf:Nat
 role:nd
structure Sat (V:View)(w:Ul):Prop where
 ab:∀b o v,V.ab b o=some v->w.cell? ⟨b,o,none⟩=some v
 own:∀b x,V.own b=some x->w.heap[b]?=some x
def tU (V:View)(n:Nat)(a:Wp):Prop:=n<=a.block\/V.own a.block≠none\/V.ab a.block a.off≠none
def mF (V:View)(n:Nat)(a:Wp):Prop:=n<=a.block\/(V.own a.block≠none/\V.ab a.block a.off=none)
def na (V:View)(n:Nat)(e:WV):Prop:=
 match e with
 |⟨.cell a,false,s⟩=>tU V n a/\(s=true\/V.role.group≠some a.block)
 |⟨.cell a,true,s⟩=>mF V n a/\(s=true\/V.role.group≠some a.block)
 |⟨.obj r,_,s⟩=>(s=false/\(n<=r\/V.own r≠none))/\V.role.chan≠some r
 |⟨.mark (.read a),_,_⟩=>mF V n a
 |⟨.mark (.write a),_,_⟩=>mF V n a
 |⟨.mark .disable,_,s⟩=>s=true
 |⟨.mark .enable,_,s⟩=>s=true
 |⟨.mark .noRoom,_,_⟩=>True
 |_=>False
structure da (V:View)(w:Ul)(V':View)(w':Ul)(es:Array WV):Prop where
 sat:Sat V' w'
 tape:w'.tape=w.tape
 os:w'.os=w.os
 output:w'.output=w.output
 size:w.heap.size<=w'.heap.size
 frame:∀b,b<w.heap.size->V.own b=none->w'.heap[b]?=w.heap[b]?
 own:∀b,b<w.heap.size->V.own b=none->V'.own b=none
 ab:∀b o v,V.ab b o=some v->V'.ab b o=some v
 kH:∀b o v,V'.ab b o=some v->V.ab b o=some v\/V.own b≠none\/w.heap.size<=b
 fe:∀e∈es,na V w.heap.size e
 deaf:V'.deaf=deafBehind V.deaf es
 role:V'.role=V.role
 chan:∀c x,V.role.chan=some c->V.own c=some x->V'.own c=some x
 low:∀e∈es,(Up e).low w'.heap.size
structure d_ (V V':View):Prop where
 sat:∀w,Sat V w->Sat V' w
 own:∀b,V.own b=none->V'.own b=none
 ab:∀b o v,V.ab b o=some v->V'.ab b o=some v
 kH:∀b o v,V'.ab b o=some v->V.ab b o=some v\/V.own b≠none
 deaf:V'.deaf=V.deaf
 role:V'.role=V.role
 chan:∀c x,V.role.chan=some c->V.own c=some x->V'.own c=some x
def d_.refl(V:View):d_ V V:=⟨λ_ h=>h,λ_ h=>h,λ_ _ _ h=>h,λ_ _ _ h=> .inl h,rfl,rfl,λ_ _ _ e=>e⟩
def d_.trans{V V' aW:View}(h:d_ V V')(k:d_ V' aW):d_ V aW:=
 ⟨λw x=>k.sat w (h.sat w x),λb x=>k.own b (h.own b x),λb o v x=>k.ab b o v (h.ab b o v x),λb o v x=>(k.kH b o v x).elim (λy=>h.kH b o v y) (λy=> .inr λz=>y (h.own b z)),k.deaf.trans h.deaf,k.role.trans h.role,λc x e e'=>k.chan c x (by rw[h.role];exact e) (h.chan c x e e')⟩
def tU.rR{V V':View}(g:d_ V V'){n:Nat}{a:Wp}(h:tU V' n a):tU V n a:=by
 rcases h with h|h|h
 ·exact .inl h
 ·exact .inr (.inl λe=>h (g.own _ e))
 ·cases e:V'.ab a.block a.off with
  |none=>exact absurd e h
  |some v=>exact(g.kH _ _ _ e).elim (λx=> .inr (.inr (by rw[x];simp))) (λx=> .inr (.inl x))
def mF.rR{V V':View}(g:d_ V V'){n:Nat}{a:Wp}(h:mF V' n a):mF V n a:=by
 rcases h with h|⟨h,h'⟩
 ·exact .inl h
 ·refine .inr ⟨λe=>h (g.own _ e),?_⟩;cases e:V.ab a.block a.off with
  |none=>rfl
  |some v=>rw[g.ab _ _ _ e]at h';cases h'
def na.rR{V V':View}(g:d_ V V'){n:Nat}{e:WV}(h:na V' n e):na V n e:=by
 unfold na at h⊢;split at h
 ·exact⟨tU.rR g h.1,by rw[<- g.role];exact h.2⟩
 ·exact⟨mF.rR g h.1,by rw[<- g.role];exact h.2⟩
 ·exact⟨⟨h.1.1,h.1.2.imp id λx y=>x (g.own _ y)⟩,by rw[<- g.role];exact h.2⟩
 ·exact mF.rR g h
 ·exact mF.rR g h
 ·exact h
 ·exact h
 ·trivial
 ·exact h.elim
abbrev SO:=Array WV
def da.rR{V V₁ V':View}{w w':Ul}{es:SO}(g:d_ V V₁)(h:da V₁ w V' w' es):da V w V' w' es:=
 ⟨h.sat,h.tape,h.os,h.output,h.size,λb hb e=>h.frame b hb (g.own b e),λb hb e=>h.own b hb (g.own b e),λb o v e=>h.ab b o v (g.ab b o v e),
  λb o v e=>(h.kH b o v e).elim (λx=>(g.kH b o v x).imp id .inl) (λx=> .inr (x.imp (λy z=>y (g.own b z)) id)),λe he=>na.rR g (h.fe e he),by rw[h.deaf,g.deaf],h.role.trans g.role,λc x e e'=>h.chan c x (by rw[g.role];exact e) (g.chan c x e e'),h.low⟩
def da.ghost{V V' aW:View}{w w':Ul}{es:SO}(h:da V w V' w' es)(g:d_ V' aW):da V w aW w' es:=
 ⟨g.sat _ h.sat,h.tape,h.os,h.output,h.size,h.frame,λb hb e=>g.own b (h.own b hb e),λb o v e=>g.ab b o v (h.ab b o v e),
  λb o v e=>(g.kH b o v e).elim (λx=>h.kH b o v x) (λx=>by
   by_cases hb:b<w.heap.size
   ·exact .inr (.inl λy=>x (h.own b hb y))
   ·exact .inr (.inr (by omega))),h.fe,by rw[g.deaf,h.deaf],g.role.trans h.role,λc x e e'=>g.chan c x (by rw[h.role];exact e) (h.chan c x e e'),h.low⟩
def da.idle{V:View}{w:Ul}(h:Sat V w):da V w V w #[]:=
 ⟨h,rfl,rfl,rfl,Tm _,λ_ _ _=>rfl,λ_ _ e=>e,λ_ _ _ e=>e,λ_ _ _ e=> .inl e,by simp,rfl,rfl,λ_ _ _ e=>e,by simp⟩
def Sat.drew{V:View}{w:Ul}(h:Sat V w)(d:Nat):Sat V {w with drawn:=d}:=⟨h.ab,h.own⟩
def da.draw{V:View}{w:Ul}(h:Sat V w)(d:Nat):da V w V {w with drawn:=d} #[]:=
 ⟨h.drew d,rfl,rfl,rfl,Tm _,λ_ _ _=>rfl,λ_ _ e=>e,λ_ _ _ e=>e,λ_ _ _ e=> .inl e,by simp,rfl,rfl,λ_ _ _ e=>e,by simp⟩
def dZ (Wg:Nat):Wp:=⟨Wg,0,none⟩
def oO (Wg:Nat):Wp:=⟨Wg,1,none⟩
def Om (P : Tg) : TypeId := ((P.types.findIdx? λi => match i.desc with | .named n _ => n == "sync.WaitGroup" | _ => false).getD 0)
def wgBlock (P:Tg)(st sm:Int):Obj:=.cells #[.int .u64 st,.int .u32 sm] (Om P)
def WgAt (P:Tg)(Wg:Nat)(w:Ul)(st sm:Int):Prop:=w.heap[Wg]?=some (wgBlock P st sm)
def KK:Int:=4294967296
def ja (a:Wp):WV:=⟨.cell a,false,true⟩
def kV (a:Wp):WV:=⟨.cell a,true,true⟩
def jW (m:Mark):WV:=⟨.mark m,false,true⟩
def A9 (a:Wp):Array WV:=#[jW .disable,ja a,kV a,jW .enable]
abbrev SZ:=Nat->Te->Prop
def cS (P:Tg)(Stop:SZ):Nat->Nat->Te->Prop
 |0,d,g=>Stop d g
 |n+1,d,g=>Stop d g\/(g.status=.running/\∃g' es,(∀e∈es,Xi e=true)/\(∀w,stepG P false g w=.go g' w es)/\cS P Stop n (deafBehind d es) g')
def gZ (P:Tg)(Wg:Nat)(Stop:SZ):Nat->Nat->Te->Prop
 |0,d,g=>Stop d g
 |n+1,d,g=>Stop d g\/(g.status=.running/\∃g' es,(∀e∈es,Xi e=true)/\(∀w x y,WgAt P Wg w x y->stepG P false g w=.go g' w es)/\gZ P Wg Stop n (deafBehind d es) g')
section
variable (P:Tg)(Wg:Nat)
def EE (d:Nat)(g:Te):Prop:=d=1/\g.status=.running/\mayWake P g=true/\∃g',(∀w,WgAt P Wg w 0 0->stepG P false g w=.go g' (w.setCell (oO Wg) (.int .u32 1)) (A9 (oO Wg)))/\∃q,YR P q 1 g'
def EF (d:Nat)(g:Te):Prop:=d=1/\g.status=.running/\∃g',(∀w,WgAt P Wg w 1 0->stepG P false g w=.go g' (w.setCell (dZ Wg) (.int .u64 0)) #[kV (dZ Wg)])/\∃n,cS P (EE P Wg) n 1 g'
def ED (d:Nat)(g:Te):Prop:=d=1/\g.status=.running/\∃g',(∀w,WgAt P Wg w 1 0->stepG P false g w=.go g' w #[ja (dZ Wg)])/\∃n,cS P (EF P Wg) n 1 g'
def Bt (d:Nat)(g:Te):Prop:=d=1/\g.status=.running/\∀v wt:Nat,wt<=1->v<4->∃g',(∀w,WgAt P Wg w (((v+1:Nat):Int)* KK+wt) 0->stepG P false g w=.go g' (w.setCell (dZ Wg) (.int .u64 ((v:Int)* KK+wt))) #[ja (dZ Wg),kV (dZ Wg)])/\
 ((v=0/\wt=1)->∃n,cS P (ED P Wg) n 1 g')/\(¬(v=0/\wt=1)->∃q,YR P q 1 g')
def EK (g:Te):Prop:=g.status=.running/\∃g',(∀w,stepG P false g w=.go g' w #[jW (.releaseMerge (dZ Wg))])/\∃n,cS P (Bt P Wg) n 0 g'
end
section
variable (P:Tg)(Im:cr)(c Wg:Nat)
def IF (d:Nat)(g:Te):Prop:=d=0/\g.status=.running/\mayWake P g=true/\∃g',(∀w s,w.heap[c]?=some (.chan 0 #[] false s s false)->stepG P false g w=.go g' {w with heap:=w.heap.setIfInBounds c (.chan 0 #[] true s s false)} #[⟨.obj c,false,true⟩,⟨.obj c,true,true⟩])/\∃q,YR P q 0 g'
def IH (d:Nat)(g:Te):Prop:=d=0/\g.status=.running/\∃b o x g',Im b o=some x/\(∀w,w.cell? ⟨b,o,none⟩=some x->stepG P false g w=.go g' w #[⟨.cell ⟨b,o,none⟩,false,false⟩])/\∃n,cS P (IF P c) n 0 g'
def tP (d:Nat)(g:Te):Prop:=d=0/\g.status=.running/\∃g',(∀w,stepG P false g w=.go g' w #[jW (.acquire (dZ Wg))])/\∃n,cS P (IH P Im c) n 0 g'
def IG (d:Nat)(g:Te):Prop:=d=1/\g.status=.running/\∃g',(∀w,WgAt P Wg w 0 0->stepG P false g w=.go g' w #[ja (dZ Wg)])/\∃n,gZ P Wg (tP P Im c Wg) n 1 g'
def EC (d:Nat)(g:Te):Prop:=d=1/\g.status=.running/\g.offers=none/\(∀w st,WgAt P Wg w st 0->stepG P false g w=.go {g with status:=.blocked} w #[])/\
 ∃g',(∀w,WgAt P Wg w 0 1->stepG P false g w=.go g' (w.setCell (oO Wg) (.int .u32 0)) (A9 (oO Wg)))/\∃n,cS P (IG P Im c Wg) n 1 g'
def EB (d:Nat)(g:Te):Prop:=d=1/\g.status=.running/\∃g',(∀w,stepG P false g w=.go g' w #[jW (.write (oO Wg))])/\∃n,cS P (EC P Im c Wg) n 1 g'
def eI:Nat->Nat->Te->Prop
 |0,_,_=>False
 |k+1,d,g=>d=1/\g.status=.running/\∀v:Nat,v<=k->v<=4->∃g',(∀w,WgAt P Wg w ((v:Int)* KK) 0->stepG P false g w=.go g' w #[ja (dZ Wg)])/\(v=0->∃n,gZ P Wg (tP P Im c Wg) n 1 g')/\
  (v≠0->∃n,cS P (λd g=>d=1/\g.status=.running/\
   (∃g',(∀w,WgAt P Wg w ((v:Int)* KK) 0->stepG P false g w=.go g' (w.setCell (dZ Wg) (.int .u64 ((v:Int)* KK+1))) #[ja (dZ Wg),kV (dZ Wg)])/\∃n,gZ P Wg (EB P Im c Wg) n 1 g')/\
   (∀u:Nat,u<v->∃g',(∀w,WgAt P Wg w ((u:Int)* KK) 0->stepG P false g w=.go g' w #[ja (dZ Wg)])/\∃n,cS P (eI v) n 1 g')) n 1 g')
 termination_by k _ _=>k
def II (g:Te):Prop:=∃n,cS P (eI P Im c Wg 5) n 0 g
end
structure yS (P:Tg)(main:Bool)(J:View->Te->Prop):Prop where
 step:∀V g,g.status=.running->(∀w,Sat V w->∃g' w' es V',stepG P main g w=.go g' w' es/\da V w V' w' es/\J V' g')->J V g
 ghost:∀V V' g,d_ V V'->J V' g->J V g
 send:∀V g c Wg sp S v z (B:Nat->Bool),V.role=.work c Wg (sp::S)->V.deaf=0->g.status=.running->g.offers=none->
  (∀w,Sat V w->stepG P main g w=.comm g #[scase c v z] true .send w #[])->sp v V.ab (λb=>if B b then V.own b else none)->
  J {V with own:=λb=>if B b then none else V.own b,role:=.work c Wg S} (UM g undef)->J V g
 done:∀V g c Wg,V.role=.work c Wg []->V.deaf=0->EK P Wg g->J V g
 slip:∀V g g' c Wg,V.role=.work c Wg []->g.status=.running->(∀w st,Sat V w->WgAt P Wg w st 0->stepG P main g w=.go g' w #[])->J V g'->J V g
structure aet (P:Tg)(main:Bool)(J:View->Te->Prop):Prop where
 start:∀V g c Wg,V.role=.plain->c≠Wg->V.own c=some (.chan 0 #[] false 0 0 false)->V.own Wg≠none->(∀o,V.ab Wg o=none)->J {V with role:=.fork c Wg []} g->J V g
 FO:∀V g g' child c Wg Ss sp S,V.role=.fork c Wg Ss->V.deaf=0->g.status=.running->V.own c=some (.chan 0 #[] false 0 0 false)->V.own Wg=some (wgBlock P (((Ss.length+1:Nat):Int)* 4294967296) 0)->Ss.length<4->(∀o,V.ab Wg o=none)->
  (∀w,Sat V w->stepG P main g w=.spawn g' child w #[])->child.status=.running->
  (∀J0,yS P false J0->J0 {ab:=V.ab,own:=λ_=>none,deaf:=0,role:=.work c Wg (sp::S)} child)->
  J {V with role:=.fork c Wg (Ss++[sp::S])} g'->J V g
 FN:∀V g g' child c Wg Ss,V.role=.fork c Wg Ss->V.deaf=0->g.status=.running->c≠Wg->V.own c=some (.chan 0 #[] false 0 0 false)->V.own Wg=some (wgBlock P (((Ss.length:Nat):Int)* 4294967296) 0)->(∀o,V.ab c o=none)->(∀o,V.ab Wg o=none)->
  (∀w,Sat V w->stepG P main g w=.spawn g' child w #[])->child.status=.running->II P V.ab c Wg child->
  J {V with own:=λb=>if b=c\/b=Wg then none else V.own b,role:=.recv c Wg Ss} g'->J V g
 recv:∀V g c Wg Ss z,V.role=.recv c Wg Ss->V.deaf=0->g.status=.running->g.offers=none->
  (∀w,Sat V w->stepG P main g w=.comm g #[rcase c z] true (.recv true) w #[])->
  (∀i sp S v Im Ow,Ss[i]?=some (sp::S)->sp v Im Ow->(∀b,V.own b≠none->Ow b=none)->(∀b o,V.own b≠none->Im b o≠none->V.ab b o≠none)->(∃w,Sat V w/\(∀b o x,Im b o=some x->w.cell? ⟨b,o,none⟩=some x)/\∀b x,Ow b=some x->w.heap[b]?=some x)->
   J {V with ab:=λb o=>match V.ab b o with|some x=>some x|none=>Im b o,own:=λb=>match V.own b with|some x=>some x|none=>Ow b,role:=.recv c Wg (Ss.set i S)} (UM g (.tuple #[v,.bool true])))->
  ((∀S∈Ss,S=[])->J {V with role:=.plain} (UM g (.tuple #[z,.bool false])))->J V g
structure Closed (lv:Bool)(P:Tg)(main:Bool)(J:View->Te->Prop):Prop extends yS P main J where
 more:lv=true->aet P main J
abbrev SM:=View->Te->Prop
def Closed.idle{lv:Bool}{P:Tg}{main:Bool}{J:SM}(C:Closed lv P main J){V:View}{g g':Te}(hs:g.status=.running)(h:∀w,stepG P main g w=.go g' w #[])(hJ:J V g'):J V g:=
 C.step V g hs λw hw=>⟨g',w,#[],V,h w,.idle hw,hJ⟩
abbrev SY:=List awJ
def on (b:VA)(a:Act)(todo:SY):VA:={b with tmps:=a.tmps,todo,defers:=a.defers,mode:=.run}
inductive Ex where
 |normal
 |exit (id:Nat)
 |goto (l:Nat)
 |ret
 |panic (chain:List avs)
abbrev SX:=List VA
def pM (J:SM)(b:VA)(cs:SX)(a:Act)(V:View)(x:UX)(to:List awJ->Option (SY))(k:SY):Prop:=
 (∃k',to k=some k'/\J V (G (on b a k') cs))\/(to k=none/\∀k2,to k2=none->J V (G (on b a (.code x::k2)) cs))
def pM.under{J:SM}{b:VA}{cs:SX}{a:Act}{V:View}{x:UX}{to:List awJ->Option (SY)}{k k2:SY}(h:pM J b cs a V x to k)(e:to k2=to k):pM J b cs a V x to k2:=by
 rcases h with⟨k',h1,h2⟩|⟨h1,h2⟩
 ·exact .inl ⟨k',e.trans h1,h2⟩
 ·exact .inr ⟨e.trans h1,h2⟩
def abM:List awJ->Bool
 |.call .. ::_=>false
 |_=>true
def vB (J:SM)(b:VA)(k:SY)(cs:SX):Ex->Act->View->Prop
 |.normal,a,V=>J V (G (on b a k) cs)
 |.exit id,a,V=>pM J b cs a V (.exit id) (exitTo id) k
 |.goto l,a,V=>pM J b cs a V (.goto l) (gotoIn l) k
 |.ret,a,V=>∀k,J V (G (on b a (.code .ret::k)) cs)
 |.panic chain,a,V=>∀todo,abM todo=true->J V (G {on b a todo with mode:=.panicking chain} cs)
abbrev SJ:=Ex->Act->View->Prop
abbrev SL:=Option Nat
def WP (lv:Bool)(P:Tg)(r:SL)(c:UX)(Q:SJ)(a:Act)(V:View):Prop:=
 ∀(main:Bool)(J:SM),Closed lv P main J->∀(b:VA)(k:SY)(cs:SX),b.kind≠ .early->b.roundOf=r->
  (∀e a' V',Q e a' V'->vB J b k cs e a' V')->J V (G (on b a (.code c::k)) cs)
section steps
variable {P:Tg}{main:Bool}{b:VA}{a:Act}{k:SY}{cs:SX}{w:Ul}
def ara:stepG P main (G (on b a (.code .skip::k)) cs) w=.go (G (on b a k) cs) w #[]:=by simp[G,stepG,U1,on]
def aq4{l:Nat}:stepG P main (G (on b a (.code (.label l)::k)) cs) w=.go (G (on b a k) cs) w #[]:=by simp[G,stepG,U1,on]
def aq1{id:Nat}:stepG P main (G (on b a (.inBlock id::k)) cs) w=.go (G (on b a k) cs) w #[]:=by simp[G,stepG,U1,on]
def aq3{c:UX}:stepG P main (G (on b a (.inScope c::k)) cs) w=.go (G (on b a k) cs) w #[]:=by simp[G,stepG,U1,on]
def acM{x y:UX}:stepG P main (G (on b a (.code (.seq x y)::k)) cs) w=.go (G (on b a (.code x:: .code y::k)) cs) w #[]:=by simp[G,stepG,U1,on]
def HA(b:VA)(a:Act)(todo:SY)(x:Ui):(on b a todo).eval x=a.eval x:=by cases x<;>rfl
def aoY(b:VA)(a:Act)(todo:SY):(on b a todo).eval=a.eval:=funext (HA b a todo)
def s_cond{c:Ui}{x y:UX}{t:Bool}(h:a.eval c=.bool t):
  stepG P main (G (on b a (.code (.cond c x y)::k)) cs) w=.go (G (on b a (.code (if t then x else y)::k)) cs) w #[]:=by
 have h':(on b a (.code (.cond c x y)::k)).eval c=.bool t:=by rw[HA];exact h
 simp only[on]at h';simp[G,stepG,U1,on,h']
def aqY{id:Nat}{c:UX}:stepG P main (G (on b a (.code (.block id c)::k)) cs) w=.go (G (on b a (.code c:: .inBlock id::k)) cs) w #[]:=by simp[G,stepG,U1,on]
def aq9{c:UX}:stepG P main (G (on b a (.code (.scope c)::k)) cs) w=.go (G (on b a (.code c:: .inScope c::k)) cs) w #[]:=by simp[G,stepG,U1,on]
def aq5{c:UX}:stepG P main (G (on b a (.code (.loop c)::k)) cs) w=.go (G (on b a (.code c:: .inLoop c::k)) cs) w #[]:=by simp[G,stepG,U1,on]
def aq2{c:UX}:stepG P main (G (on b a (.inLoop c::k)) cs) w=.go (G (on b a (.code c:: .inLoop c::k)) cs) w #[]:=by simp[G,stepG,U1,on]
def s_exit{id:Nat}{k':SY}(h:exitTo id k=some k'):stepG P main (G (on b a (.code (.exit id)::k)) cs) w=.go (G (on b a k') cs) w #[]:=by simp[G,stepG,U1,on,h]
def aq0{l:Nat}{k':SY}(h:gotoIn l k=some k'):stepG P main (G (on b a (.code (.goto l)::k)) cs) w=.go (G (on b a k') cs) w #[]:=by simp[G,stepG,U1,on,h]
abbrev SK:=Array U8
def acL{id:Nat}{ops:SK}:stepG P main (G (on b a (.code (.region id ops false)::k)) cs) w=.go (G (on b a (.inRegion ops (Tt ops.size)::k)) cs) w #[]:=by simp[G,stepG,U1,on]
def aqZ{id:Nat}{ops:SK}:stepG P main (G (on b a (.code (.region id ops true)::k)) cs) w=
  .go (G (on b a (.inRegion ops (WT (P.follows .mixedOrders) ops (w.tape w.drawn (.order b.fn id)))::k)) cs) {w with drawn:=w.drawn+1} #[]:=by
 simp[G,stepG,U1,on,choose,Sem.run,awv,awc]
def aq8{ops:SK}:stepG P main (G (on b a (.inRegion ops []::k)) cs) w=.go (G (on b a k) cs) w #[]:=by simp[G,stepG,U1,on]
def D8(h:b.roundOf=none):stepG P main (G (on b a (.code .ret::k)) cs) w=.go (G {on b a (.code .ret::k)with mode:=.returning} cs) w #[]:=by simp[G,stepG,U1,on,h]
def D7(h:b.roundOf=none):stepG P main (G (on b a []) cs) w=.go (G {on b a []with mode:=.returning} cs) w #[]:=by simp[G,stepG,U1,on,h]
end steps
section rules
variable {lv:Bool}{P:Tg}{r:SL}{Q:SJ}{a:Act}{V:View}
def WP.mono{c:UX}{Q':SJ}(h:WP lv P r c Q a V)(hq:∀e a V,Q e a V->Q' e a V):WP lv P r c Q' a V:=
 λmain J C b k cs hb hr hL=>h main J C b k cs hb hr λe a' V' q=>hL e a' V' (hq _ _ _ q)
def WP.ghost{c:UX}{V':View}(g:d_ V V')(h:WP lv P r c Q a V'):WP lv P r c Q a V:=
 λmain J C b k cs hb hr hL=>C.ghost _ _ _ g (h main J C b k cs hb hr hL)
def wp_skip(h:Q .normal a V):WP lv P r .skip Q a V:=λ_ _ C _ _ _ _ _ hL=>C.idle rfl (λ_=>ara) (hL _ _ _ h)
def wp_label{l:Nat}(h:Q .normal a V):WP lv P r (.label l) Q a V:=λ_ _ C _ _ _ _ _ hL=>C.idle rfl (λ_=>aq4) (hL _ _ _ h)
def aa3{main:Bool}{J:SM}(C:Closed lv P main J){b:VA}{cs:SX}{a:Act}{V:View}{id:Nat}{k:SY}(h:pM J b cs a V (.exit id) (exitTo id) k):J V (G (on b a (.code (.exit id)::k)) cs):=
 h.elim (λ⟨_,hk,hJ⟩=>C.idle rfl (λ_=>s_exit hk) hJ) (λ⟨hk,hJ⟩=>hJ k hk)
def amS{main:Bool}{J:SM}(C:Closed lv P main J){b:VA}{cs:SX}{a:Act}{V:View}{l:Nat}{k:SY}(h:pM J b cs a V (.goto l) (gotoIn l) k):J V (G (on b a (.code (.goto l)::k)) cs):=
 h.elim (λ⟨_,hk,hJ⟩=>C.idle rfl (λ_=>aq0 hk) hJ) (λ⟨hk,hJ⟩=>hJ k hk)
def wp_exit{id:Nat}(h:Q (.exit id) a V):WP lv P r (.exit id) Q a V:=λ_ _ C _ _ _ _ _ hL=>aa3 C (hL _ _ _ h)
def wp_ret(h:Q .ret a V):WP lv P r .ret Q a V:=λ_ _ _ _ k _ _ _ hL=>hL _ _ _ h k
abbrev S0:=Act->View->Prop
def Ex.then (next:S0)(Q:SJ):Ex->Act->View->Prop
 |.normal,a,V=>next a V
 |e,a,V=>Q e a V
def vB.under{J:SM}{b:VA}{k:SY}{cs:SX}{x:awJ}(hx:x.plain=true){e:Ex}(he:e≠ .normal){a:Act}{V:View}(h:vB J b k cs e a V):vB J b (x::k) cs e a V:=by
 cases e with
 |normal=>exact absurd rfl he
 |exit id=>exact pM.under h (by cases x<;>simp_all[exitTo,avX])
 |goto l=>exact pM.under h (by cases x<;>simp_all[gotoIn,avX])
 |ret=>exact h
 |panic ch=>exact h
def wp_seq{x y:UX}(h:WP lv P r x (Ex.then (WP lv P r y Q) Q) a V):WP lv P r (.seq x y) Q a V:=by
 intro main J C b k cs hb hr hL;refine C.idle rfl (λ_=>acM) (h main J C b (.code y::k) cs hb hr λe a' V' q=> ?_);cases e with
 |normal=>exact q main J C b k cs hb hr hL
 |exit id=>exact(hL _ _ _ q).under rfl (by simp)
 |goto l=>exact(hL _ _ _ q).under rfl (by simp)
 |ret=>exact(hL _ _ _ q).under rfl (by simp)
 |panic ch=>exact(hL _ _ _ q).under rfl (by simp)
def wp_cond{c:Ui}{x y:UX}{t:Bool}(hc:a.eval c=.bool t)(h:WP lv P r (if t then x else y) Q a V):WP lv P r (.cond c x y) Q a V:=
 λmain J C b k cs hb hr hL=>C.idle rfl (λ_=>s_cond hc) (h main J C b k cs hb hr hL)
def Ex.inBlock (id:Nat)(Q:SJ):Ex->Act->View->Prop
 |.exit oI,a,V=>if oI=id then Q .normal a V else Q (.exit oI) a V
 |e,a,V=>Q e a V
def wp_block{id:Nat}{c:UX}(h:WP lv P r c (Ex.inBlock id Q) a V):WP lv P r (.block id c) Q a V:=by
 intro main J C b k cs hb hr hL;refine C.idle rfl (λ_=>aqY) (h main J C b (.inBlock id::k) cs hb hr λe a' V' q=> ?_);cases e with
 |normal=>exact C.idle rfl (λ_=>aq1) (hL _ _ _ q)
 |exit oI=>
  by_cases cq:oI=id
  ·simp only[Ex.inBlock,cq,if_true]at q;exact .inl ⟨k,by simp[exitTo,cq],hL _ _ _ q⟩
  ·simp only[Ex.inBlock,cq,if_false]at q;have:(id==oI)=false:=(by simp;exactλh=>cq h.symm);exact pM.under (hL _ _ _ q) (by simp[exitTo,this])
 |goto l=>exact pM.under (hL _ _ _ q) (by simp[gotoIn])
 |ret=>exact hL _ _ _ q
 |panic ch=>exact hL _ _ _ q
def Oy{α:Type}{lt:α->α->Prop}(wf:WellFounded lt){c:UX}(I:α->S0)(m:α)(h₀:I m a V)
  (round:∀m a V,I m a V->WP lv P r c (Ex.then (λa' V'=>∃m',lt m' m/\I m' a' V') Q) a V):WP lv P r (.loop c) Q a V:=by
 intro main J C b k cs hb hr hL;have key:∀m a V,I m a V->J V (G (on b a (.code c:: .inLoop c::k)) cs):=by
  intro m;induction m using wf.induction with
  |_ m ih=>
   intro a V hI;refine round m a V hI main J C b (.inLoop c::k) cs hb hr λe a' V' q=> ?_;cases e with
   |normal=>obtain⟨m',hlt,hI'⟩:=q;exact C.idle rfl (λ_=>aq2) (ih m' hlt a' V' hI')
   |exit id=>exact(hL _ _ _ q).under rfl (by simp)
   |goto l=>exact(hL _ _ _ q).under rfl (by simp)
   |ret=>exact(hL _ _ _ q).under rfl (by simp)
   |panic ch=>exact(hL _ _ _ q).under rfl (by simp)
 exact C.idle rfl (λ_=>aq5) (key m a V h₀)
def wp_loop{c:UX}(I:Nat->S0)(m:Nat)(h₀:I m a V)
  (round:∀m a V,I m a V->WP lv P r c (Ex.then (λa' V'=>∃m',m'<m/\I m' a' V') Q) a V):WP lv P r (.loop c) Q a V:=
 Oy Nat.lt_wfRel.wf I m h₀ round
def aej{c:UX}(I:Nat->Nat->S0)
  (start:∃n:Nat,WP lv P r c (λe a V=>match e with
   |.goto l=>∃rest,findLabel c l=some rest/\∃m,m<n/\I l m a V
   |e=>Q e a V) a V)
  (back:∀l rest m a V,findLabel c l=some rest->I l m a V->WP lv P r rest (λe a V=>match e with
   |.goto l'=>∃yG,findLabel c l'=some yG/\∃m',m'<m/\I l' m' a V
   |e=>Q e a V) a V):WP lv P r (.scope c) Q a V:=by
 intro main J C b k cs hb hr hL;have land:∀(n:Nat),(∀l rest m a V,m<n->findLabel c l=some rest->I l m a V->J V (G (on b a (.code rest:: .inScope c::k)) cs))->
   ∀e a' V',(match e with
   |.goto l=>∃rest,findLabel c l=some rest/\∃m,m<n/\I l m a' V'
   |e=>Q e a' V')->vB J b (.inScope c::k) cs e a' V':=by
  intro n hn e a' V' q;cases e with
  |normal=>exact C.idle rfl (λ_=>aq3) (hL _ _ _ q)
  |exit id=>exact pM.under (hL _ _ _ q) (by simp[exitTo])
  |goto l=>
   obtain⟨rest,hf,m,hm,hI⟩:=q;exact .inl ⟨_,by simp[gotoIn,hf],hn l rest m a' V' hm hf hI⟩
  |ret=>exact hL _ _ _ q
  |panic ch=>exact hL _ _ _ q
 have key:∀n l rest m a V,m<n->findLabel c l=some rest->I l m a V->J V (G (on b a (.code rest:: .inScope c::k)) cs):=by
  intro n;induction n with
  |zero=>intro _ _ _ _ _ h;omega
  |succ n ih=>
   intro l rest m a V hm hf hI;exact back l rest m a V hf hI main J C b (.inScope c::k) cs hb hr (land m λl' yG m' a' V' h'=>ih l' yG m' a' V' (by omega))
 obtain⟨n,hn⟩:=start;exact C.idle rfl (λ_=>aq9) (hn main J C b (.inScope c::k) cs hb hr (land n (key n)))
end rules
open Go.Conc
def View.get (V:View)(b o:Nat):Option T5:=
 match V.ab b o with
 |some v=>some v
 |none=>match V.own b with
  |some (.cells c _ _)=>c[o]?
  |_=>none
def View.upd (V:View)(b:Nat)(x:Obj):View:={V with own:=λb'=>if b'=b then some x else V.own b'}
def View.fresh (V:View)(b:Nat):Prop:=V.own b=none/\∀o,V.ab b o=none
def Sat.get{V:View}{w:Ul}(h:Sat V w){b o:Nat}{v:T5}(e:V.get b o=some v):w.cell? ⟨b,o,none⟩=some v:=by
 unfold View.get at e;split at e
 ·rename_i v' hv;cases e;exact h.ab _ _ _ hv
 ·split at e
  ·rename_i c el f ho;have:=h.own _ _ ho;simpa[Vs,this]using e
  ·cases e
def Sat.lt{V:View}{w:Ul}(h:Sat V w){b:Nat}{x:Obj}(e:V.own b=some x):b<w.heap.size:=by
 have:=h.own _ _ e;exact(Tl.1 this).1
def Sat.Dt{V:View}{w:Ul}(h:Sat V w){b o:Nat}{v:T5}(e:V.ab b o=some v):b<w.heap.size:=by
 have:=h.ab _ _ _ e;unfold Vs at this;split at this
 ·rename_i hh;exact(Tl.1 hh).1
 ·cases this
def Sat.fresh{V:View}{w:Ul}(h:Sat V w){b:Nat}(hb:w.heap.size<=b):V.fresh b:=
 ⟨by cases e:V.own b with
  |none=>rfl
  |some x=>have:=h.lt e;omega,λo=>by
  cases e:V.ab b o with
  |none=>rfl
  |some x=>have:=h.Dt e;omega⟩
def Sat.ep{V:View}{w:Ul}(h:Sat V w){b o:Nat}{v:T5}(e:V.get b o=some v):b<w.heap.size:=by
 have:=h.get e;unfold Vs at this;split at this
 ·rename_i hh;exact(Tl.1 hh).1
 ·cases this
def tU.yB{V V₁:View}{w w₁:Ul}{es:SO}(s:da V w V₁ w₁ es){a:Wp}(h:tU V₁ w₁.heap.size a):tU V w.heap.size a:=by
 rcases h with h|h|h
 ·exact .inl (Vb s.size h)
 ·by_cases hb:a.block<w.heap.size
  ·exact .inr (.inl λe=>h (s.own _ hb e))
  ·exact .inl (by omega)
 ·cases e:V₁.ab a.block a.off with
  |none=>exact absurd e h
  |some v=>
   rcases s.kH _ _ _ e with x|x|x
   ·exact .inr (.inr (by rw[x];simp))
   ·exact .inr (.inl x)
   ·exact .inl x
def mF.yB{V V₁:View}{w w₁:Ul}{es:SO}(s:da V w V₁ w₁ es){a:Wp}(h:mF V₁ w₁.heap.size a):mF V w.heap.size a:=by
 rcases h with h|⟨h,h'⟩
 ·exact .inl (Vb s.size h)
 ·by_cases hb:a.block<w.heap.size
  ·refine .inr ⟨λe=>h (s.own _ hb e),?_⟩;cases e:V.ab a.block a.off with
   |none=>rfl
   |some v=>rw[s.ab _ _ _ e]at h';cases h'
  ·exact .inl (by omega)
def na.yB{V V₁:View}{w w₁:Ul}{es:SO}(s:da V w V₁ w₁ es){e:WV}(h:na V₁ w₁.heap.size e):na V w.heap.size e:=by
 unfold na at h⊢;split at h
 ·exact⟨tU.yB s h.1,by rw[<- s.role];exact h.2⟩
 ·exact⟨mF.yB s h.1,by rw[<- s.role];exact h.2⟩
 ·refine⟨⟨h.1.1,?_⟩,by rw[<- s.role];exact h.2⟩;rename_i r _ _;rcases h.1.2 with x|x
  ·exact .inl (Vb s.size x)
  ·by_cases hb:r<w.heap.size
   ·exact .inr λy=>x (s.own _ hb y)
   ·exact .inl (by omega)
 ·exact mF.yB s h
 ·exact mF.yB s h
 ·exact h
 ·exact h
 ·trivial
 ·exact h.elim
def Jp(d:Nat)(x y:SO):deafBehind d (x++y)=deafBehind (deafBehind d x) y:=by
 simp[deafBehind]
def da.trans{V V₁ V₂:View}{w w₁ w₂:Ul}{es uk:SO}(s:da V w V₁ w₁ es)(s':da V₁ w₁ V₂ w₂ uk):da V w V₂ w₂ (es++uk):=
 ⟨s'.sat,s'.tape.trans s.tape,s'.os.trans s.os,s'.output.trans s.output,Vb s.size s'.size,
  λb hb e=>(s'.frame b (Ub hb s.size) (s.own b hb e)).trans (s.frame b hb e),λb hb e=>s'.own b (Ub hb s.size) (s.own b hb e),
  λb o v e=>s'.ab b o v (s.ab b o v e),λb o v e=>by
   rcases s'.kH b o v e with x|x|x
   ·exact s.kH b o v x
   ·by_cases hb:b<w.heap.size
    ·exact .inr (.inl λy=>x (s.own b hb y))
    ·exact .inr (.inr (by omega))
   ·exact .inr (.inr (Vb s.size x)),
  λe he=>(Vk.1 he).elim (s.fe e) (λh=>(s'.fe e h).yB s),by rw[s'.deaf,s.deaf,Jp],s'.role.trans s.role,λc x e e'=>s'.chan c x (by rw[s.role];exact e) (s.chan c x e e'),
  λe he=>(Vk.1 he).elim (λx=>YQ s'.size (s.low e x)) (s'.low e)⟩
def fC (es:SO):Array WV:=es.filter λe=>match e.loc with|.mark (.extern _)=>false|_=>true
abbrev SP:=T5->View->Prop
def aR (P:Tg){α:Type}(V:View)(s:Sem α)(K:α->View->Prop)(Kp:SP):Prop:=
 ∀w,Sat V w->∀eO,∃es w' V',da V w V' w' (fC es)/\
  ((∃x,s.runT P w eO=(.ok x w',eO++es)/\K x V')\/(∃v,s.runT P w eO=(.halt (.panic v) w',eO++es)/\Kp v V'))
section
variable {P:Tg}{α β:Type}{V:View}{K:α->View->Prop}{Kp:SP}
def Nb(x y:SO):fC (x++y)=fC x++fC y:=by simp[fC]
def aR.mono{s:Sem α}{K':α->View->Prop}{ON:SP}(h:aR P V s K Kp)(hk:∀x V,K x V->K' x V)(hp:∀x V,Kp x V->ON x V):aR P V s K' ON:=λw hw eO=>
 let⟨es,w',V',h1,h2⟩:=h w hw eO
 ⟨es,w',V',h1,h2.imp (λ⟨x,a,b⟩=>⟨x,a,hk _ _ b⟩) (λ⟨x,a,b⟩=>⟨x,a,hp _ _ b⟩)⟩
def aR.ghost{s:Sem α}{V':View}(g:d_ V V')(h:aR P V' s K Kp):aR P V s K Kp:=λw hw eO=>
 let⟨es,w',V',h1,h2⟩:=h w (g.sat w hw) eO
 ⟨es,w',V',h1.rR g,h2⟩
def aR.cont{s:Sem α}(h:∀w,Sat V w->∃es w' V' s',da V w V' w' (fC es)/\(∀eO,s.runT P w eO=s'.runT P w' (eO++es))/\aR P V' s' K Kp):aR P V s K Kp:=by
 intro w hw eO;obtain⟨es,w',V',s',h1,h2,h3⟩:=h w hw;obtain⟨uk,Ol,aW,h4,h5⟩:=h3 w' h1.sat (eO++es);refine⟨es++uk,Ol,aW,by rw[Nb];exact h1.trans h4,?_⟩;rw[h2,<- Xv];exact h5
def b8{x:α}(h:K x V):aR P V (.pure x) K Kp:=λw hw eO=>⟨#[],w,V,by simpa[fC]using da.idle hw,.inl ⟨x,by simp[-Uw,WH],h⟩⟩
def aq{x:α}(h:K x V):aR P V (pure x) K Kp:=b8 h
def arv{v:T5}(h:Kp v V):aR P V (.halt (.panic v):Sem α) K Kp:=λw hw eO=>⟨#[],w,V,by simpa[fC]using da.idle hw,.inr ⟨v,by simp[-Uw,WH],h⟩⟩
def tC{e:WV}(h:∀f,e.loc≠ .mark (.extern f)):fC #[e]=#[e]:=by
 unfold fC;have:(match e.loc with|.mark (.extern _)=>false|_=>true)=true:=by
  split
  ·rename_i f hf;exact absurd hf (h f)
  ·rfl
 simp[Array.filter]
def PX(d:Nat)(a:Wp)(wr s:Bool):deafBehind d #[⟨.cell a,wr,s⟩]=d:=by simp[deafBehind]
def PY(d:Nat)(a:Nat)(wr s:Bool):deafBehind d #[⟨.obj a,wr,s⟩]=d:=by simp[deafBehind]
def A_{m:Mode}{b o:Nat}{v:T5}{k:T5->Sem α}(e:V.get b o=some v)(ig:V.role.group≠some b\/m=.atomic)(h:aR P V (k v) K Kp):aR P V (.load m ⟨b,o,none⟩ k) K Kp:=by
 refine .cont λw hw=>⟨#[⟨.cell ⟨b,o,none⟩,false,m== .atomic⟩],w,V,k v,?_,λeO=> ?_,h⟩
 ·rw[tC (by simp)];refine⟨hw,rfl,rfl,rfl,Tm _,λ_ _ _=>rfl,λ_ _ e=>e,λ_ _ _ e=>e,λ_ _ _ e=> .inl e,λev cp=> ?_,by rw[PX],rfl,λ_ _ _ e=>e,λev cp=>by simp at cp;subst cp;exact hw.ep e⟩;simp only[UC,Th,Tv,or_false]at cp;subst cp;refine⟨.inr ?_,ig.elim .inr (λx=> .inl (by subst x;rfl))⟩;show V.own b≠none\/V.ab b o≠none;unfold View.get at e;split at e
  ·rename_i hv;exact .inr (by rw[hv];simp)
  ·split at e
   ·rename_i hv;exact .inl (by rw[hv];simp)
   ·cases e
 ·simp[-Uw,WH,hw.get e]
def _root_.Go.Value.one:T5->Bool
 |.agg _|.tuple _=>false
 |_=>true
abbrev SG:=Array T5
def Sat.ad9{V:View}{w:Ul}(h:Sat V w){b o:Nat}{v:T5}{c:SG}{el:TypeId}{f:Nat×Nat}(ho:V.own b=some (.cells c el f))(hi:V.ab b o=none):
  Sat (V.upd b (.cells (c.setIfInBounds o v) el f)) (w.setCell ⟨b,o,none⟩ v):=by
 have hb:=h.own _ _ ho;have hlt:=h.lt ho;have hm:(w.setCell ⟨b,o,none⟩ v).heap=w.heap.setIfInBounds b (.cells (c.setIfInBounds o v) el f):=by
  unfold XH;apply Array.ext_getElem?;intro i;by_cases cG:b=i
  ·subst cG;rw[Wd,T8 hlt];simp[hb]
  ·simp[Wd,cG,Tq cG]
 refine⟨λb' o' v' e=> ?_,λb' x e=> ?_⟩
 ·have:=h.ab _ _ _ e;simp only[View.upd]at e;by_cases zY:b=b'
  ·subst zY;have LI:o≠o':=(by intro x;subst x;rw[hi]at e;cases e);simp only[Vs,hb]at this;simp only[Vs,hm,T8 hlt,Tq LI];exact this
  ·simp only[Vs,hm,Tq zY];exact this
 ·simp only[View.upd]at e;rw[hm];by_cases zY:b'=b
  ·subst zY;simp at e;rw[T8 hlt,e]
  ·simp only[zY,if_false]at e;rw[Tq (Ne.symm zY)];exact h.own _ _ e
def Eb(w:Ul)(a:Wp)(v:T5):(w.setCell a v).heap.size=w.heap.size:=by simp[XH]
def wh(w:Ul)(a:Wp)(v:T5){b:Nat}(h:a.block≠b):(w.setCell a v).heap[b]?=w.heap[b]?:=by simp[XH,Wd,h]
def arx{m:Mode}{b o:Nat}{v:T5}{k:Sem α}{c:SG}{el:TypeId}{lo hi:Nat}(ho:V.own b=some (.cells c el (lo,hi)))(cK:o<c.size)(cG:V.ab b o=none)(hv:v.one=true)
  (hf:¬(lo<=o/\o<hi)) (ig:V.role.group≠some b\/m=.atomic) (La:V.role.chan≠some b) (h:aR P (V.upd b (.cells (c.setIfInBounds o v) el (lo,hi))) k K Kp):aR P V (.store m ⟨b,o,none⟩ v k) K Kp:=by
 refine .cont λw hw=>⟨#[⟨.cell ⟨b,o,none⟩,true,m== .atomic⟩],w.setCell ⟨b,o,none⟩ v,_,k,?_,λeO=> ?_,h⟩
 ·rw[tC (by simp)];refine⟨hw.ad9 ho cG,rfl,rfl,rfl,by rw[Eb];exact Tm _,λb' dj e=>wh _ _ _ (λx=> ?_),λb' dj e=> ?_,λ_ _ _ e=>e,λ_ _ _ e=> .inl e,λev cp=> ?_,by rw[PX];rfl,rfl,λc' x bi e=>by rw[<- e];simp only[View.upd,ite_eq_right_iff];intro x';subst x';exact absurd bi La,λev cp=>by simp at cp;subst cp;show b<_;rw[Eb];exact hw.lt ho⟩
  ·have x':b=b':=x;subst x';rw[ho]at e;cases e
  ·have:b'≠b:=(by intro x;subst x;rw[ho]at e;cases e);simp only[View.upd,this,if_false];exact e
  ·simp only[UC,Th,Tv,or_false]at cp;subst cp;exact⟨.inr ⟨by show V.own b≠none;rw[ho];simp,cG⟩,ig.elim .inr (λx=> .inl (by subst x;rfl))⟩
 ·have hc:w.cell? ⟨b,o,none⟩=some c[o]:=by simp[Vs,hw.own _ _ ho,cK]
  have hfz:w.frozen? ⟨b,o,none⟩=false:=by
   simp only[avr,hw.own _ _ ho];simpa using hf
  cases v<;>simp_all[-Uw,WH,Value.one]
def nY{x:Obj}{k:Nat->Sem α}(h:∀r,V.fresh r->aR P (V.upd r x) (k r) K Kp):aR P V (.new x k) K Kp:=by
 refine .cont λw hw=>⟨#[],{w with heap:=w.heap.push x},V.upd w.heap.size x,k w.heap.size,?_,λeO=>by simp[-Uw,WH],h _ (hw.fresh (Tm _))⟩;have jy:=hw.fresh (Tm w.heap.size);have aH:∀{b y},V.own b=some y->b≠w.heap.size:=λe x=>by rw[x,jy.1]at e;cases e
 refine⟨⟨λb o v e=> ?_,λb y e=> ?_⟩,rfl,rfl,rfl,by simp,λb hb _=> ?_,λb hb e=> ?_,λ_ _ _ e=>e,λ_ _ _ e=> .inl e,by simp[fC],rfl,rfl,λc' x bi e=>by rw[<- e];simp only[View.upd,ite_eq_right_iff];intro x';exact absurd x' (aH e),by simp[fC]⟩
 ·have hlt:=hw.Dt e;have:=hw.ab _ _ _ e;simp only[Vs,Zw hlt]at this⊢;simpa[Vs,hlt]using this
 ·simp only[View.upd]at e;by_cases hb:b=w.heap.size
  ·subst hb;simp at e;simp[e]
  ·simp only[hb,if_false]at e;have:=hw.own _ _ e;have hlt:=hw.lt e;simp only[Zw hlt];simpa[hlt]using this
 ·simp[Xr,XE hb]
 ·simp only[View.upd,XE hb,if_false];exact e
def acX{q:Question}{k:Nat->Sem α}(h0:q.forced=true->aR P V (k 0) K Kp)(h:q.forced=false->∀t,aR P V (k (q.cut t)) K Kp):aR P V (.choose q k) K Kp:=by
 cases hf:q.forced with
 |true=>exact .cont λw hw=>⟨#[],w,V,k 0,by simpa[fC]using da.idle hw,λeO=>by simp[-Uw,WH,hf],h0 hf⟩
 |false=>exact .cont λw hw=>⟨#[],{w with drawn:=w.drawn+1},V,_,by simpa[fC]using da.draw hw (w.drawn+1),λeO=>by simp[-Uw,WH,hf],h hf (w.tape w.drawn q)⟩
def oN{k:Tg->Sem α}(h:aR P V (k P) K Kp):aR P V (.program k) K Kp:=
 .cont λw hw=>⟨#[],w,V,k P,by simpa[fC]using da.idle hw,λeO=>by simp[-Uw,WH],h⟩
def arq{f:UH}{k:Sem α}(h:aR P V k K Kp):aR P V (.mark (.extern f) k) K Kp:=
 .cont λw hw=>⟨#[⟨.mark (.extern f),false,true⟩],w,V,k,by simpa[fC]using da.idle hw,λeO=>by simp[-Uw,WH],h⟩
def aru{k:Sem α}(h:aR P V k K Kp):aR P V (.mark .noRoom k) K Kp:=
 .cont λw hw=>⟨#[⟨.mark .noRoom,false,true⟩],w,V,k,by
  rw[tC (by simp)];exact⟨hw,rfl,rfl,rfl,Tm _,λ_ _ _=>rfl,λ_ _ e=>e,λ_ _ _ e=>e,λ_ _ _ e=> .inl e,λev cp=>by simp at cp;subst cp;trivial,by simp[deafBehind],rfl,λ_ _ _ e=>e,λev cp=>by simp at cp;subst cp;trivial⟩,
  λeO=>by simp[-Uw,WH],h⟩
def art{m:Mark}{k:Sem α}(hm:m=.disable\/m=.enable)(h:aR P {V with deaf:=deafBehind V.deaf #[⟨.mark m,false,true⟩]} k K Kp):aR P V (.mark m k) K Kp:=
 .cont λw hw=>⟨#[⟨.mark m,false,true⟩],w,_,k,by
  rw[tC (by rcases hm with rfl|rfl<;>simp)];exact⟨⟨hw.ab,hw.own⟩,rfl,rfl,rfl,Tm _,λ_ _ _=>rfl,λ_ _ e=>e,λ_ _ _ e=>e,λ_ _ _ e=> .inl e,λev cp=>by simp at cp;subst cp;rcases hm with rfl|rfl<;>rfl,rfl,rfl,λ_ _ _ e=>e,λev cp=>by simp at cp;subst cp;rcases hm with rfl|rfl<;>trivial⟩,
  λeO=>by simp[-Uw,WH],h⟩
def arw{m:Mark}{a:Wp}{k:Sem α}(hm:m=.read a\/m=.write a)(ha:V.own a.block≠none/\V.ab a.block a.off=none)(h:aR P V k K Kp):aR P V (.mark m k) K Kp:=
 .cont λw hw=>⟨#[⟨.mark m,false,true⟩],w,_,k,by
  rw[tC (by rcases hm with rfl|rfl<;>simp)];exact⟨⟨hw.ab,hw.own⟩,rfl,rfl,rfl,Tm _,λ_ _ _=>rfl,λ_ _ e=>e,λ_ _ _ e=>e,λ_ _ _ e=> .inl e,λev cp=>by simp at cp;subst cp;rcases hm with rfl|rfl<;>exact .inr ha,
   by rcases hm with rfl|rfl<;>simp[deafBehind],rfl,λ_ _ _ e=>e,λev cp=>by
    simp at cp;subst cp;have:a.block<w.heap.size:=by
     cases e:V.own a.block with
     |none=>exact absurd e ha.1
     |some y=>exact hw.lt e
    rcases hm with rfl|rfl<;>exact this⟩,
  λeO=>by simp[-Uw,WH],h⟩
def _root_.Go.Obj.uU:Obj->Bool
 |.cells .. =>true
 |_=>false
def nX{r:Nat}{x:Obj}{k:Obj->Sem α}(ho:V.own r=some x)(hx:x.uU=false)(hc:x.isChan=false)(ig:V.role.chan≠some r)(h:aR P V (k x) K Kp):aR P V (.getObj r k) K Kp:=
 .cont λw hw=>⟨#[⟨.obj r,false,false⟩],w,V,k x,by
  rw[tC (by simp)];exact⟨hw,rfl,rfl,rfl,Tm _,λ_ _ _=>rfl,λ_ _ e=>e,λ_ _ _ e=>e,λ_ _ _ e=> .inl e,λev cp=>by simp at cp;subst cp;exact⟨⟨rfl,.inr (by rw[ho];simp)⟩,ig⟩,by rw[PY],rfl,λ_ _ _ e=>e,λev cp=>by simp at cp;subst cp;exact hw.lt ho⟩,
  λeO=>by
   have:=hw.own _ _ ho;cases x<;>simp_all[-Uw,WH,Obj.uU,av8],h⟩
def Sat.atl{V:View}{w:Ul}(h:Sat V w){r:Nat}{x y:Obj}(ho:V.own r=some x)(hx:x.uU=false):Sat (V.upd r y) {w with heap:=w.heap.setIfInBounds r y}:=by
 have hlt:=h.lt ho;refine⟨λb o v e=> ?_,λb z e=> ?_⟩
 ·have:=h.ab _ _ _ e;have hb:r≠b:=by
   intro e';subst e';simp only[Vs,h.own _ _ ho]at this;cases x<;>simp_all[Obj.uU]
  simp only[Vs,Tq hb]at this⊢;exact this
 ·simp only[View.upd]at e;by_cases hb:b=r
  ·subst hb;simp at e;simp[hlt,e]
  ·simp only[hb,if_false]at e;simp only[Tq (Ne.symm hb)];exact h.own _ _ e
def yK{r:Nat}{x y:Obj}{k:Sem α}(ho:V.own r=some x)(hx:x.uU=false)(hy:y.isChan=false)(ig:V.role.chan≠some r)(h:aR P (V.upd r y) k K Kp):aR P V (.setObj r y k) K Kp:=
 .cont λw hw=>⟨#[⟨.obj r,true,false⟩],{w with heap:=w.heap.setIfInBounds r y},_,k,by
  rw[tC (by simp)];refine⟨hw.atl ho hx,rfl,rfl,rfl,by simp,λb hb e=> ?_,λb hb e=> ?_,λ_ _ _ e=>e,λ_ _ _ e=> .inl e,λev cp=>by simp at cp;subst cp;exact⟨⟨rfl,.inr (by rw[ho];simp)⟩,ig⟩,by rw[PY];rfl,rfl,λc' x bi e=>by rw[<- e];simp only[View.upd,ite_eq_right_iff];intro x';subst x';exact absurd bi ig,λev cp=>by simp at cp;subst cp;show r<_;simp;exact hw.lt ho⟩
  ·exact Tq (λx'=>by subst x';rw[ho]at e;cases e)
  ·have:b≠r:=(by intro x';subst x';rw[ho]at e;cases e);simp only[View.upd,this,if_false];exact e,
  λeO=>by
   have:=hw.own _ _ ho;cases x<;>simp_all[-Uw,WH,Obj.uU,av8],h⟩
def ark{s:Sem α}{f:α->Sem β}{K:β->View->Prop}(h:aR P V s (λx V'=>aR P V' (f x) K Kp) Kp):aR P V (s.bind f) K Kp:=by
 intro w hw eO;obtain⟨es,w',V',h1,h2⟩:=h w hw eO;have key:(s.bind f).runT P w eO=match s.runT P w eO with
   |(.ok x w',e)=>(f x).runT P w' e
   |(.halt h w',e)=>(.halt h w',e):=by
  have hr:=Sem.run_bind' P s f w;have he:=Sem.events_bind' P s f w eO;rw[Uw,Uw];have yf:(s.bind f).run P w=_:=hr;have j4:(s.bind f).events P w eO=_:=he;rw[yf,j4];cases s.run P w<;>simp[Result.andThen,Result.evThen]
 rcases h2 with⟨x,hx,hK⟩|⟨v,hv,hKp⟩
 ·obtain⟨uk,Ol,aW,h3,h4⟩:=hK w' h1.sat (eO++es);refine⟨es++uk,Ol,aW,by rw[Nb];exact h1.trans h3,?_⟩;rw[key,hx,<- Xv];exact h4
 ·refine⟨es,w',V',h1,.inr ⟨v,?_,hKp⟩⟩;rw[key,hv]
def ay{s:Sem α}{f:α->Sem β}{K:β->View->Prop}(h:aR P V s (λx V'=>aR P V' (f x) K Kp) Kp):aR P V (s>>=f) K Kp:=ark h
end
open Go.Conc
def yX (e:WV):Prop:=∀m,e.loc=.mark m->(m=.disable\/m=.enable)->e.sync=true
def na.oo{V:View}{n:Nat}{e:WV}(h:na V n e):yX e:=by
 intro m hm hd;obtain⟨l,wr,s⟩:=e;simp only at hm;subst hm;rcases hd with rfl|rfl
 ·simpa[na]using h
 ·simpa[na]using h
def ahk(d:Nat)(x:SO)(e:WV):deafBehind d (x.push e)=deafBehind (deafBehind d x) #[e]:=by
 simp[deafBehind]
def ahl{d:Nat}{e:WV}(hg:yX e)(hs:e.sync=false):deafBehind d #[e]=d:=by
 obtain⟨l,wr,s⟩:=e;cases l with
 |mark m=>
  cases m<;>first
   |(have:=hg _ rfl (.inl rfl);simp_all)
   |(have:=hg _ rfl (.inr rfl);simp_all)
   |simp[deafBehind]
 |_=>simp[deafBehind]
def ari(P:Tg)(fn:UH)(es:SO)(hg:∀e∈fC es,yX e)(d:Nat):(∀e∈seen P fn es,e∈fC es)/\deafBehind d (seen P fn es)=deafBehind d (fC es):=by
 rw[seen_def];obtain⟨l⟩:=es;have key:∀(l:List WV)(q:Bool)(kept ref:SO),(∀e∈fC l.toArray,yX e)->(∀e∈kept,e∈ref)->deafBehind d kept=deafBehind d ref->
   (∀e∈(l.foldl (seenStep λf=>(P.funcs[f]?).any (·.norace)) (q,kept)).2,e∈ref++fC l.toArray)/\
   deafBehind d (l.foldl (seenStep λf=>(P.funcs[f]?).any (·.norace)) (q,kept)).2=deafBehind d (ref++fC l.toArray):=by
  intro l;induction l with
  |nil=>intro q kept ref _ h1 h2;simpa[fC]using⟨h1,h2⟩
  |cons e l ih=>
   intro q kept ref hg h1 h2;rw[VS];by_cases hx:∃f,e.loc=.mark (.extern f)
   ·obtain⟨f,hf⟩:=hx;have e1:fC (e::l).toArray=fC l.toArray:=(by simp[fC,hf]);rw[e1]at hg⊢;have e3:seenStep (λf=>(P.funcs[f]?).any (·.norace)) (q,kept) e=((P.funcs[f]?).any (·.norace),kept):=(by simp[seenStep,hf]);rw[e3];exact ih _ kept ref hg h1 h2
   ·have aH:∀f,e.loc≠ .mark (.extern f):=λf hf=>hx ⟨f,hf⟩;have e1:fC (e::l).toArray=#[e]++fC l.toArray:=by
     have:(e::l).toArray=#[e]++l.toArray:=(by simp);rw[this,Nb,tC aH]
    have uE:yX e:=hg e (by rw[e1];simp);have mR:∀x∈fC l.toArray,yX x:=λx hx=>hg x (by rw[e1];exact Vk.2 (.inr hx));have e2:seenStep (λf=>(P.funcs[f]?).any (·.norace)) (q,kept) e=(q,if q&& !e.sync then kept else kept.push e):=by
     unfold seenStep;dsimp only;split
     ·rename_i f hf;exact absurd hf (aH f)
     ·rfl
    rw[e1,<- Xv];rw[e2];refine ih q _ (ref++#[e]) mR (λx hx=> ?_) ?_
    ·split at hx
     ·exact Vk.2 (.inl (h1 x hx))
     ·rcases Array.mem_push.1 hx with hx|rfl
      ·exact Vk.2 (.inl (h1 x hx))
      ·exact Vk.2 (.inr (by simp))
    ·split
     ·rename_i hq;simp only[Uk,UK]at hq;rw[Jp,ahl uE hq.2,h2]
     ·rw[Jp,ahk,h2]
 have:=key l ((P.funcs[fn]?).any (·.norace)) #[] #[] hg (by simp) rfl;simpa only[XC]using this
def da.seen{V V':View}{w w':Ul}{es:SO}(h:da V w V' w' (fC es))(P:Tg)(fn:UH):da V w V' w' (seen P fn es):=by
 have:=ari P fn es (λe he=>(h.fe e he).oo) V.deaf;exact⟨h.sat,h.tape,h.os,h.output,h.size,h.frame,h.own,h.ab,h.kH,λe he=>h.fe e (this.1 e he),by rw[h.deaf,this.2],h.role,h.chan,λe he=>h.low e (this.1 e he)⟩
open Go.Conc
inductive Out where
 |ret (v:T5)
 |panic (chain:List avs)
def Leaves (P:Tg)(fr:VA)(f:UH)(kd:Yi)(o:Out)(V:View):Prop:=
 fr.fn=f/\fr.defers=[]/\fr.kind=kd/\∃fn,P.funcs[f]?=some fn/\
  match o with
  |.ret v=>fr.mode=.returning/\aR P V (results fn fr.tmps) (λx V'=>x=v/\V'=V) (λ_ _=>False)
  |.panic ch=>fr.mode=.panicking ch
abbrev SU:=Out->View->Prop
def Body (lv:Bool)(P:Tg)(f:UH)(args:SG)(kd:Yi)(V:View)(R:SU):Prop:=
 ∀(main:Bool)(J:SM),Closed lv P main J->∀cs,(∀o V' fr,R o V'->Leaves P fr f kd o V'->J V' (G fr cs))->J V (G (Frame.enter P f args kd) cs)
def nf (lv:Bool)(P:Tg)(fr:VA)(V:View)(R:SU):Prop:=
 ∀(main:Bool)(J:SM),Closed lv P main J->∀c cs,(∀v V',R (.ret v) V'->J V' (G (c.finish v) cs))->(∀ch V',R (.panic ch) V'->J V' (G (c.raise ch) cs))->J V (G fr (c::cs))
def Body.mono{lv:Bool}{P:Tg}{f:UH}{args:SG}{kd:Yi}{V:View}{R R':SU}(h:Body lv P f args kd V R)(hr:∀o V,R o V->R' o V):Body lv P f args kd V R':=
 λmain J C cs hk=>h main J C cs λo V' fr r hl=>hk o V' fr (hr _ _ r) hl
def Body.ghost{lv:Bool}{P:Tg}{f:UH}{args:SG}{kd:Yi}{V V':View}{R:SU}(g:d_ V V')(h:Body lv P f args kd V' R):Body lv P f args kd V R:=
 λmain J C cs hk=>C.ghost _ _ _ g (h main J C cs hk)
def nf.mono{lv:Bool}{P:Tg}{fr:VA}{V:View}{R R':SU}(h:nf lv P fr V R)(hr:∀o V,R o V->R' o V):nf lv P fr V R':=
 λmain J C c cs h1 h2=>h main J C c cs (λv V' r=>h1 v V' (hr _ _ r)) (λv V' r=>h2 v V' (hr _ _ r))
def nf.ghost{lv:Bool}{P:Tg}{fr:VA}{V V':View}{R:SU}(g:d_ V V')(h:nf lv P fr V' R):nf lv P fr V R:=
 λmain J C c cs h1 h2=>C.ghost _ _ _ g (h main J C c cs h1 h2)
def aR.runs{P:Tg}{α:Type}{V:View}{s:Sem α}{K:α->View->Prop}{Kp:SP}(h:aR P V s K Kp){w:Ul}(hw:Sat V w):
  ∃es w' V',da V w V' w' (fC es)/\s.events P w #[]=es/\((∃x,s.run P w=.ok x w'/\K x V')\/(∃v,s.run P w=.halt (.panic v) w'/\Kp v V')):=by
 obtain⟨es,w',V',h1,h2⟩:=h w hw #[];refine⟨es,w',V',h1,?_⟩;simp only[Uw,VQ,XC]at h2;rcases h2 with⟨x,⟨a,b⟩,c⟩|⟨x,⟨a,b⟩,c⟩
 ·exact⟨b,.inl ⟨x,a,c⟩⟩
 ·exact⟨b,.inr ⟨x,a,c⟩⟩
def anF{lv:Bool}{P:Tg}{main:Bool}{J:SM}(C:Closed lv P main J){fr c:VA}{cs:SX}{f:UH}{v:T5}{V:View}(h:Leaves P fr f .normal (.ret v) V)(hJ:J V (G (c.finish v) cs)):J V (G fr (c::cs)):=by
 obtain⟨rfl,hd,hk,fn,hf,hm,hr⟩:=h;refine C.step _ _ rfl λw hw=> ?_;obtain⟨es,w',V',h1,h2,h3⟩:=hr.runs hw;rcases h3 with⟨x,h3,rfl,rfl⟩|⟨_,_,h⟩
 ·exact⟨G (c.finish x) cs,w',seen P fr.fn es,V',by simp[G,stepG,unwind,doReturn,hm,hd,hk,hf,h3,h2,UT],h1.seen P fr.fn,hJ⟩
 ·exact h.elim
def anE{lv:Bool}{P:Tg}{main:Bool}{J:SM}(C:Closed lv P main J){fr c:VA}{cs:SX}{f:UH}{kd:Yi}{ch:List avs}{V:View}(h:Leaves P fr f kd (.panic ch) V)(hJ:J V (G (c.raise ch) cs)):J V (G fr (c::cs)):=by
 obtain⟨rfl,hd,hk,fn,hf,hm⟩:=h;refine C.idle rfl (λw=> ?_) hJ;simp[G,stepG,unwind,avv,hm,hd,hf]
def Body.runs{lv:Bool}{P:Tg}{f:UH}{args:SG}{V:View}{R:SU}(h:Body lv P f args .normal V R):nf lv P (Frame.enter P f args .normal) V R:=by
 intro main J C c cs h1 h2;refine h main J C (c::cs) λo V' fr r hl=> ?_;cases o with
 |ret v=>exact anF C hl (h1 v V' r)
 |panic ch=>exact anE C hl (h2 ch V' r)
def mG (lv:Bool)(P:Tg)(r:SL)(o:U8)(a:Act)(next:S0)(Q:SJ)(nx:Next)(V:View):Prop:=
 match nx with
 |.value v=>next (a.put o.dst v) V
 |.skip=>next (a.put o.dst undef) V
 |.defer d=>r=none/\next ({a with defers:=d::a.defers}.put o.dst undef) V
 |.enter f args=>Body lv P f args .normal V fun
   |.ret v,V'=>next (a.put o.dst v) V'
   |.panic ch,V'=>Q (.panic ch) a V'
 |.round l f tmps assign body=>nf lv P (Y5 l f tmps assign body .normal) V fun
   |.ret v,V'=>next (a.put o.dst v) V'
   |.panic ch,V'=>Q (.panic ch) a V'
 |_=>False
def mq:Op->Bool
 |.defer _=>true
 |_=>false
def xa (lv:Bool)(P:Tg)(r:SL)(o:U8)(a:Act)(V:View)(next:S0)(Q:SJ):Prop:=
 (r=none\/mq o.op=false)/\aR P V (execOp a.eval o) (mG lv P r o a next Q) (λv V'=>Q (.panic [{v,recovered:=false}]) a V')
abbrev TB:=List (List Spec)
abbrev TH:=List Spec
def vD (lv:Bool)(P:Tg)(o:U8)(a:Act)(V:View)(next:S0):Prop:=match o.op with
 |.send ch x=>∃(c Wg:Nat)(sp:Spec)(S:TH)(B:Nat->Bool),a.eval ch=.chan (some c)/\V.role=.work c Wg (sp::S)/\V.deaf=0/\sp (a.eval x) V.ab (λb=>if B b then V.own b else none)/\
   next (a.put o.dst undef) {V with own:=λb=>if B b then none else V.own b,role:=.work c Wg S}
 |.go cl=>lv=true/\∃(x:Ui)(f:UH)(fa ca:SG),cl.callee=.value x/\a.eval x=.func (.func f) fa ca/\V.deaf=0/\
   ((∃(c Wg:Nat)(Ss:TB)(sp:Spec)(S:TH),V.role=.fork c Wg Ss/\V.own c=some (.chan 0 #[] false 0 0 false)/\V.own Wg=some (wgBlock P (((Ss.length+1:Nat):Int)* 4294967296) 0)/\Ss.length<4/\(∀o,V.ab Wg o=none)/\
    (∀J0,yS P false J0->J0 {ab:=V.ab,own:=λ_=>none,deaf:=0,role:=.work c Wg (sp::S)} (born P ⟨.fn (.func f) ca,fa++cl.args.map a.eval⟩))/\next (a.put o.dst undef) {V with role:=.fork c Wg (Ss++[sp::S])})\/
    (∃(c Wg:Nat)(Ss:TB),V.role=.fork c Wg Ss/\c≠Wg/\V.own c=some (.chan 0 #[] false 0 0 false)/\V.own Wg=some (wgBlock P (((Ss.length:Nat):Int)* 4294967296) 0)/\(∀o,V.ab c o=none)/\(∀o,V.ab Wg o=none)/\
    II P V.ab c Wg (born P ⟨.fn (.func f) ca,fa++cl.args.map a.eval⟩)/\next (a.put o.dst undef) {V with own:=λb=>if b=c\/b=Wg then none else V.own b,role:=.recv c Wg Ss}))
 |.recv t ch true=>lv=true/\∃(c Wg:Nat)(Ss:TB)(d:ChanDir)(el:TypeId)(i:XV)(z:T5),a.eval ch=.chan (some c)/\P.underlying t=some (.chan d el)/\P.info? el=some i/\i.zero=some z/\V.role=.recv c Wg Ss/\V.deaf=0/\
   (∀(i:Nat)(sp:Spec)(S:TH)(v:T5)(Im:cr)(Ow:BF),Ss[i]?=some (sp::S)->sp v Im Ow->(∀b,V.own b≠none->Ow b=none)->(∀b o,V.own b≠none->Im b o≠none->V.ab b o≠none)->(∃w,Sat V w/\(∀b o x,Im b o=some x->w.cell? ⟨b,o,none⟩=some x)/\∀b x,Ow b=some x->w.heap[b]?=some x)->
    next (a.put o.dst (.tuple #[v,.bool true])) {V with ab:=λb o=>match V.ab b o with|some x=>some x|none=>Im b o,own:=λb=>match V.own b with|some x=>some x|none=>Ow b,role:=.recv c Wg (Ss.set i S)})/\
   ((∀S∈Ss,S=[])->next (a.put o.dst (.tuple #[z,.bool false])) {V with role:=.plain})
 |_=>False
def vD.mono{lv:Bool}{P:Tg}{o:U8}{a:Act}{V:View}{N N':S0}(h:vD lv P o a V N)(hN:∀a V,N a V->N' a V):vD lv P o a V N':=by
 unfold vD at h⊢;split at h
 ·obtain⟨c,Wg,sp,S,B,h1,h2,h3,h4,h5⟩:=h;exact⟨c,Wg,sp,S,B,h1,h2,h3,h4,hN _ _ h5⟩
 ·obtain⟨sZ,x,f,fa,ca,h1,h2,h3,h4⟩:=h;refine⟨sZ,x,f,fa,ca,h1,h2,h3,h4.imp ?_ ?_⟩
  ·rintro⟨c,Wg,Ss,sp,S,q1,q2,q3,q4,q5,q6,q7⟩
   exact⟨c,Wg,Ss,sp,S,q1,q2,q3,q4,q5,q6,hN _ _ q7⟩
  ·rintro⟨c,Wg,Ss,q1,q2,q3,q4,q5,q6,q7,q8⟩
   exact⟨c,Wg,Ss,q1,q2,q3,q4,q5,q6,q7,hN _ _ q8⟩
 ·obtain⟨sZ,c,Wg,Ss,d,el,ti,z,h1,h2,h3,h4,h5,h6,h7,h8⟩:=h;exact⟨sZ,c,Wg,Ss,d,el,ti,z,h1,h2,h3,h4,h5,h6,λi sp S v Im Ow r1 r2 r3 r4 r5=>hN _ _ (h7 i sp S v Im Ow r1 r2 r3 r4 r5),λhS=>hN _ _ (h8 hS)⟩
 ·exact h
def BD (lv:Bool)(P:Tg)(r:SL)(o:U8)(a:Act)(V:View)(next:S0)(Q:SJ):Prop:=xa lv P r o a V next Q\/vD lv P o a V next
def di (lv:Bool)(P:Tg)(r:SL)(ops:SK)(Q:SJ):SE->Act->View->Prop
 |[],a,V=>Q .normal a V
 |i::rest,a,V=>
  match ops[i]?with
  |none=>di lv P r ops Q rest a V
  |some o=>if Ug o (yielded ops a.tmps)then BD lv P r o a V (di lv P r ops Q rest) Q else di lv P r ops Q rest (a.put o.dst undef) V
def AP(b:VA)(a:Act)(ops:SK)(i:Nat)(rest:SE)(k:SY)(v:T5):
  (on b a (.inRegion ops (i::rest)::k)).finish v=on b (a.put ((ops[i]?).bind (·.dst)) v) (.inRegion ops rest::k):=by
 cases h:(ops[i]?).bind (·.dst)<;>simp[Frame.finish,on,Y6,h]
def acK{P:Tg}{main:Bool}{b:VA}{a:Act}{k:SY}{cs:SX}{w:Ul}{ops:SK}{i:Nat}{rest:SE}(h:((ops[i]?).map (Ug · (yielded ops a.tmps))).getD false=false):
  stepG P main (G (on b a (.inRegion ops (i::rest)::k)) cs) w=.go (G (on b (a.put ((ops[i]?).bind (·.dst)) undef) (.inRegion ops rest::k)) cs) w #[]:=by
 rw[<- AP];simp only[on]at*;simp[G,stepG,U1,h]
def s_op{P:Tg}{main:Bool}{b:VA}{a:Act}{k:SY}{cs:SX}{w:Ul}{ops:SK}{i:Nat}{rest:SE}{o:U8}(ho:ops[i]?=some o)(hw:Ug o (yielded ops a.tmps)=true)(hd:b.roundOf=none\/mq o.op=false):
  stepG P main (G (on b a (.inRegion ops (i::rest)::k)) cs) w=stepG.apply P true (on b a (.inRegion ops (i::rest)::k)) cs none (execOp a.eval o) w:=by
 have he:=aoY b a (.inRegion ops (i::rest)::k);simp only[on]at he;rcases hd with hd|hd
 ·rw[hd]at he;simp[G,stepG,U1,Z6,ZL,on,ho,hw,he,hd]
 ·cases hr:b.roundOf with
  |none=>
   rw[hr]at he;simp[G,stepG,U1,Z6,ZL,on,ho,hw,he,hr]
  |some l=>cases az:o.op<;>simp_all[G,stepG,U1,Z6,ZL,on,mq]
def arP{lv:Bool}{P:Tg}{main:Bool}{J:SM}(C:Closed lv P main J){ops:SK}{i:Nat}{rest:SE}{o:U8}{a:Act}{V:View}{N:S0}{b:VA}{k:SY}{cs:SX}(hb:b.kind≠ .early)
  (ho:ops[i]?=some o) (hw:Ug o (yielded ops a.tmps)=true) (h:vD lv P o a V N) (hN:∀a' V',N a' V'->J V' (G (on b a' (.inRegion ops rest::k)) cs)):J V (G (on b a (.inRegion ops (i::rest)::k)) cs):=by
 have jO:((on b a (.inRegion ops (i::rest)::k)).kind==VZ)=false:=by simpa[on]using hb
 have ee:∀v,(on b a (.inRegion ops (i::rest)::k)).finish v=on b (a.put o.dst v) (.inRegion ops rest::k):=by
  intro v;rw[AP,ho];rfl
 have L6:∀v,UM (G (on b a (.inRegion ops (i::rest)::k)) cs) v=G (on b (a.put o.dst v) (.inRegion ops rest::k)) cs:=λv=>by rw[<- ee v];rfl
 unfold vD at h;split at h
 ·rename_i ch x az;obtain⟨c,Wg,sp,S,B,h1,h2,h3,h4,h5⟩:=h;have aT:∀w,stepG P main (G (on b a (.inRegion ops (i::rest)::k)) cs) w=.comm (G (on b a (.inRegion ops (i::rest)::k)) cs) #[scase c (a.eval x) (.tuple #[])] true .send w #[]:=λw=>by
   rw[s_op ho hw (.inr (by rw[az];rfl))];have e:execOp a.eval o=pure (.comm #[scase c (a.eval x) (.tuple #[])] true .send):=by
    unfold execOp;simp only[az];rw[h1];rfl
   rw[e];simp only[stepG.apply,Uw,if_true,jO,UT,avJ,ar',Zj];rfl
  exact C.send _ _ c Wg sp S (a.eval x) (.tuple #[]) B h2 h3 rfl rfl (λw _=>aT w) h4 (by rw[L6];exact hN _ _ h5)
 ·rename_i cl az;obtain⟨sZ,x,f,fa,ca,h1,h2,h3,h4⟩:=h;have aT:∀w,stepG P main (G (on b a (.inRegion ops (i::rest)::k)) cs) w=.spawn (G (on b (a.put o.dst undef) (.inRegion ops rest::k)) cs) (born P ⟨.fn (.func f) ca,fa++cl.args.map a.eval⟩) w #[]:=λw=>by
   rw[s_op ho hw (.inr (by rw[az];rfl)),<- ee undef];have e:execOp a.eval o=(pure (.spawn ⟨.fn (.func f) ca,fa++cl.args.map a.eval⟩):Sem Next):=by
    unfold execOp;simp only[az];unfold resolve;simp only[h1,h2];rfl
   rw[e];simp only[stepG.apply,Uw,if_true,jO,UT,avJ,ar',Zj];simp[born,G,on];exact Zj _ _
  rcases h4 with⟨c,Wg,Ss,sp,S,q1,q2,q3,q4,q5,q6,q7⟩|⟨c,Wg,Ss,q1,q2,q3,q4,q5,q6,q7,q8⟩
  ·exact(C.more sZ).FO _ _ _ _ c Wg Ss sp S q1 h3 rfl q2 q3 q4 q5 (λw _=>aT w) rfl q6 (hN _ _ q7)
  ·exact(C.more sZ).FN _ _ _ _ c Wg Ss q1 h3 rfl q2 q3 q4 q5 q6 (λw _=>aT w) rfl q7 (hN _ _ q8)
 ·rename_i t ch az;obtain⟨sZ,c,Wg,Ss,d,el,ti,z,h1,h2,h3,h4,h5,h6,h7,h8⟩:=h;have aT:∀w,stepG P main (G (on b a (.inRegion ops (i::rest)::k)) cs) w=.comm (G (on b a (.inRegion ops (i::rest)::k)) cs) #[rcase c z] true (.recv true) w #[]:=λw=>by
   rw[s_op ho hw (.inr (by rw[az];rfl))];have hu:(underlying t).run P w=.ok (.chan d el) w:=run_underlying h2 w;have hi:(typeInfo el).run P w=.ok ti w:=(by simp[typeInfo,h3]);have hz:(zeroValue el).run P w=.ok z w:=(by simp[zeroValue,hi,h4]);have uR:(zeroValue el).events P w #[]=#[]:=(by simp[zeroValue,hi,h4]);have e1:(execOp a.eval o).run P w=.ok (.comm #[rcase c z] true (.recv true)) w:=by
    unfold execOp;simp only[az];rw[h1];simp[hu,hz,rcase]
   have e2:(execOp a.eval o).events P w #[]=#[]:=by
    unfold execOp;simp only[az];rw[h1];simp[hu,hz,uR]
   simp only[stepG.apply,Uw,if_true,jO,UT,e1,e2,Zj];rfl
  refine(C.more sZ).recv _ _ c Wg Ss z h5 h6 rfl rfl (λw _=>aT w) (λi sp S v Im Ow r1 r2 r3 r4 r5=> ?_) λhS=> ?_
  ·rw[L6];exact hN _ _ (h7 i sp S v Im Ow r1 r2 r3 r4 r5)
  ·rw[L6];exact hN _ _ (h8 hS)
 ·exact h.elim
def wp_ops{lv:Bool}{P:Tg}{r:SL}{ops:SK}{Q:SJ}(l:SE):
  ∀(a:Act)(V:View),di lv P r ops Q l a V->∀(main:Bool)(J:SM),Closed lv P main J->∀(b:VA)(k:SY)(cs:SX),b.kind≠ .early->b.roundOf=r->
   (∀e a' V',Q e a' V'->vB J b k cs e a' V')->J V (G (on b a (.inRegion ops l::k)) cs):=by
 induction l with
 |nil=>exactλa V h main J C b k cs _ _ hL=>C.idle rfl (λ_=>aq8) (hL _ _ _ h)
 |cons i rest ih=>
  intro a V h main J C b k cs hb hr hL;simp only[di]at h;cases ho:ops[i]?with
  |none=>
   simp only[ho]at h;refine C.idle rfl (λw=>acK (by simp[ho])) ?_;simp only[ho,Option.bind_none,Y6];exact ih a V h main J C b k cs hb hr hL
  |some o=>
   simp only[ho]at h;by_cases hw:Ug o (yielded ops a.tmps)=true
   ·simp only[hw,if_true]at h;rcases h with h|h
    rotate_left
    ·exact arP C hb ho hw h λa' V' h'=>ih a' V' h' main J C b k cs hb hr hL
    obtain⟨bt,az⟩:=h;have ak9:b.roundOf=none\/mq o.op=false:=hr▸bt;have ee:∀v,(on b a (.inRegion ops (i::rest)::k)).finish v=on b (a.put o.dst v) (.inRegion ops rest::k):=by
     intro v;rw[AP,ho];rfl
    have jO:((on b a (.inRegion ops (i::rest)::k)).kind==VZ)=false:=(by simpa[on]using hb);refine C.step _ _ rfl λw fA=> ?_;obtain⟨es,w',V',h1,h2,h3⟩:=az.runs fA;rw[s_op ho hw ak9];rcases h3 with⟨nx,h3,hU⟩|⟨v,h3,hU⟩
    ·cases nx with
     |value v=>exact⟨_,w',seen P b.fn es,V',by rw[<- ee v];simp only[stepG.apply,Uw,if_true,h3,h2,jO,UT];rfl,h1.seen P _,ih _ _ hU main J C b k cs hb hr hL⟩
     |skip=>exact⟨_,w',seen P b.fn es,V',by rw[<- ee undef];simp only[stepG.apply,Uw,if_true,h3,h2,jO,UT];rfl,h1.seen P _,ih _ _ hU main J C b k cs hb hr hL⟩
     | «defer» d =>
      obtain⟨Ar,hU⟩:=hU;have iP:({on b a (.inRegion ops (i::rest)::k)with defers:=d::a.defers}:VA).finish undef=on b ({a with defers:=d::a.defers}.put o.dst undef) (.inRegion ops rest::k):=by
       have:=AP b {a with defers:=d::a.defers} ops i rest k undef;rw[ho]at this;exact this
      exact⟨_,w',seen P b.fn es,V',by
       rw[<- iP];simp only[stepG.apply,Uw,if_true,h3,h2,jO,UT];rfl,h1.seen P _,ih _ _ hU main J C b k cs hb hr hL⟩
     |enter f args=>
      refine⟨G (Frame.enter P f args .normal) (on b a (.inRegion ops (i::rest)::k)::cs),w',seen P b.fn es,V',by simp only[stepG.apply,Uw,if_true,h3,h2,jO,UT];rfl,h1.seen P _,?_⟩;refine Body.runs hU main J C _ cs (λv aW hR=> ?_) (λch aW hR=> ?_)
      ·rw[ee];exact ih _ _ hR main J C b k cs hb hr hL
      ·exact hL _ _ _ hR _ rfl
     |round l f tmps assign body=>
      refine⟨G (Y5 l f tmps assign body .normal) (on b a (.inRegion ops (i::rest)::k)::cs),w',seen P b.fn es,V',by simp only[stepG.apply,Uw,if_true,h3,h2,jO,UT];rfl,h1.seen P _,?_⟩;refine hU main J C _ cs (λv aW hR=> ?_) (λch aW hR=> ?_)
      ·rw[ee];exact ih _ _ hR main J C b k cs hb hr hL
      ·exact hL _ _ _ hR _ rfl
     |_=>exact hU.elim
    ·refine⟨G ((on b a (.inRegion ops (i::rest)::k)).raise [{v,recovered:=false}]) cs,w',seen P b.fn es,V',by simp only[stepG.apply,Uw,if_true,h3,h2,jO,UT];rfl,h1.seen P _,hL _ _ _ hU _ rfl⟩
   ·have nQ:Ug o (yielded ops a.tmps)=false:=(by simpa using hw);simp only[nQ,if_false,UB]at h;refine C.idle rfl (λw=>acK (by simp[ho,nQ])) ?_;simp only[ho,Z9];exact ih _ _ h main J C b k cs hb hr hL
def wp_region{lv:Bool}{P:Tg}{r:SL}{id:Nat}{ops:SK}{Q:SJ}{a:Act}{V:View}(h:di lv P r ops Q (Tt ops.size) a V):WP lv P r (.region id ops false) Q a V:=
 λmain J C b k cs hb hr hL=>C.idle rfl (λ_=>acL) (wp_ops _ a V h main J C b k cs hb hr hL)
def Ox{lv:Bool}{P:Tg}{r:SL}{id:Nat}{ops:SK}{Q:SJ}{a:Act}{V:View}(h:∀t,di lv P r ops Q (WT (P.follows .mixedOrders) ops t) a V):WP lv P r (.region id ops true) Q a V:=
 λmain J C b k cs hb hr hL=>C.step _ _ rfl λw hw=>⟨_,_,#[],V,aqZ,.draw hw _,wp_ops _ a V (h _) main J C b k cs hb hr hL⟩
def Ends (P:Tg)(fn:avu)(R:SU):Ex->Act->View->Prop
 |.normal,a,V|.ret,a,V=>a.defers=[]/\∃v,aR P V (results fn a.tmps) (λx V'=>x=v/\V'=V) (λ_ _=>False)/\R (.ret v) V
 |.panic ch,a,V=>a.defers=[]/\R (.panic ch) V
 |_,_,_=>False
def PE{lv:Bool}{P:Tg}{f:UH}{fn:avu}{c:UX}{args:SG}{kd:Yi}{V:View}{R:SU}(hk:kd≠ .early)(hf:P.funcs[f]?=some fn)(hb:fn.body=some c)
  (h:WP lv P none c (Ends P fn R) {tmps:=args++UI (fn.ntmps-args.size) undef,defers:=[]} V):Body lv P f args kd V R:=by
 intro main J C cs hR;let b:VA:={(default:VA)with fn:=f,kind:=kd,roundOf:=none};have uC:Frame.enter P f args kd=on b {tmps:=args++UI (fn.ntmps-args.size) undef,defers:=[]} [.code c]:=by
  simp[Frame.enter,on,hf,hb,b]
 rw[uC];refine h main J C b [] cs hk rfl λe a' V' q=> ?_;cases e with
 |normal=>
  obtain⟨hd,v,hs,hr⟩:=q;exact C.idle rfl (λw=>D7 rfl) (hR _ _ _ hr ⟨rfl,hd,rfl,fn,hf,rfl,hs⟩)
 |ret=>
  obtain⟨hd,v,hs,hr⟩:=q;intro k;exact C.idle rfl (λw=>D8 rfl) (hR _ _ _ hr ⟨rfl,hd,rfl,fn,hf,rfl,hs⟩)
 |panic ch=>
  obtain⟨hd,hr⟩:=q;intro todo _;exact hR _ _ _ hr ⟨rfl,hd,rfl,fn,hf,rfl⟩
 |exit id=>exact q.elim
 |goto l=>exact q.elim
open Go.Conc
inductive Ht where
 |z
 |s (f:Ul->Ht)
inductive Bv:Ht->Ht->Prop where
 |mk (f:Ul->Ht) (w:Ul):Bv (f w) (.s f)
def amv:WellFounded Bv:=by
 refine⟨λh=> ?_⟩;induction h with
 |z=>exact⟨_,λy hy=>by cases hy⟩
 |s f ih=>exact⟨_,λy hy=>by cases hy with|mk _ w=>exact ih w⟩
inductive lE (P:Tg):Ht->View->Te->Prop where
 |step {f:Ul->Ht} {V V₁:View} {g:Te} (G':Ul->Te) (W':Ul->Ul) (E':Ul->Array WV) (V':Ul->View) (hs:g.status=.running) (hg:d_ V V₁)
   (h1:∀w,Sat V₁ w->stepG P false g w=.go (G' w) (W' w) (E' w)) (h2:∀w,Sat V₁ w->da V₁ w (V' w) (W' w) (E' w)) (h3:∀w,Sat V₁ w->lE P (f w) (V' w) (G' w)):lE P (.s f) V g
 |send {h:Ht} {V V₁:View} {g:Te} (c Wg:Nat) (sp:Spec) (S:List Spec) (v z:T5) (B:Nat->Bool) (hs:g.status=.running) (hg:d_ V V₁) (hr:V₁.role=.work c Wg (sp::S)) (hd:V₁.deaf=0) (ho:g.offers=none)
   (h1:∀w,Sat V₁ w->stepG P false g w=.comm g #[scase c v z] true .send w #[]) (h2:sp v V₁.ab (λb=>if B b then V₁.own b else none))
   (h3:lE P h {V₁ with own:=λb=>if B b then none else V₁.own b,role:=.work c Wg S} (UM g undef)):lE P (.s λ_=>h) V g
 |done {V V₁:View} {g:Te} (c Wg:Nat) (hg:d_ V V₁) (hr:V₁.role=.work c Wg []) (hd:V₁.deaf=0) (h1:EK P Wg g):lE P (.s λ_=> .z) V g
 |slip {h:Ht} {V V₁:View} {g g':Te} (c Wg:Nat) (hs:g.status=.running) (hg:d_ V V₁) (hr:V₁.role=.work c Wg []) (h1:∀w st,Sat V₁ w->WgAt P Wg w st 0->stepG P false g w=.go g' w #[]) (h3:lE P h V₁ g'):lE P (.s λ_=>h) V g
def lE.running{P:Tg}{h:Ht}{V:View}{g:Te}(k:lE P h V g):g.status=.running:=by
 cases k with
 |step _ _ _ _ hs=>exact hs
 |send _ _ _ _ _ _ _ hs=>exact hs
 |done _ _ _ _ _ h1=>exact h1.1
 |slip _ _ hs=>exact hs
open Classical in
def atw(P:Tg):yS P false (λV g=>∃h,lE P h V g)where
 step V g hs h:=by
  have hc:∀w,∃h' g' w' es V',Sat V w->stepG P false g w=.go g' w' es/\da V w V' w' es/\lE P h' V' g':=by
   intro w;by_cases hw:Sat V w
   ·obtain⟨g',w',es,V',h1,h2,h',h3⟩:=h w hw;exact⟨h',g',w',es,V',λ_=>⟨h1,h2,h3⟩⟩
   ·exact⟨.z,g,w,#[],V,λx=>absurd x hw⟩
  have kz:=λw=>(hc w).choose_spec.choose_spec.choose_spec.choose_spec.choose_spec;exact⟨.s λw=>(hc w).choose,.step (λw=>(hc w).choose_spec.choose) (λw=>(hc w).choose_spec.choose_spec.choose) (λw=>(hc w).choose_spec.choose_spec.choose_spec.choose)
   (λw=>(hc w).choose_spec.choose_spec.choose_spec.choose_spec.choose) hs (d_.refl V) (λw hw=>(kz w hw).1) (λw hw=>(kz w hw).2.1) (λw hw=>(kz w hw).2.2)⟩
 ghost V V' g hg h:=by
  obtain⟨h,hk⟩:=h;cases hk with
  |step a b c d e f x y z=>exact⟨_,.step a b c d e (hg.trans f) x y z⟩
  |send a b c d e f m n o p q r s t u=>exact⟨_,.send a b c d e f m n (hg.trans o) p q r s t u⟩
  |done a b o p q r=>exact⟨_,.done a b (hg.trans o) p q r⟩
  |slip a b f o p q r=>exact⟨_,.slip a b f (hg.trans o) p q r⟩
 send V g c Wg sp S v z B h1 h2 h3 h4 h5 h6 h7:=by
  obtain⟨h,hk⟩:=h7;exact⟨_,.send c Wg sp S v z B h3 (d_.refl V) h1 h2 h4 h5 h6 hk⟩
 done V g c Wg h1 h2 h3:=⟨_,.done c Wg (d_.refl V) h1 h2 h3⟩
 slip V g g' c Wg h1 h2 h3 h4:=by
  obtain⟨h,hk⟩:=h4;exact⟨_,.slip c Wg h2 (d_.refl V) h1 h3 hk⟩
structure zd where
 a:Nat
 h:Ht
 n:Nat
def qO:zd->zd->Prop:=λx y=>x.a<y.a\/(x.a=y.a/\(Bv x.h y.h\/(x.h=y.h/\x.n<y.n)))
def aqx:WellFounded qO:=by
 refine⟨λ⟨a,h,n⟩=> ?_⟩;induction a using Zl generalizing h n with
 |_ a iha=>
  induction h using amv.induction generalizing n with
  |_ h ihh=>
   induction n using Zl with
   |_ n Mr=>
    refine⟨_,λ⟨a',h',n'⟩ hlt=> ?_⟩;rcases hlt with x|⟨rfl,x|⟨rfl,x⟩⟩
    ·exact iha a' x h' n'
    ·exact ihh h' x n'
    ·exact Mr n' x
def BH (N:Nat)(f' f:Nat->zd):Prop:=∃i,i<N/\qO (f' i) (f i)/\∀j,j≠i->f' j=f j
def arI(N:Nat):WellFounded (BH N):=by
 refine⟨?_⟩;induction N with
 |zero=>intro f;exact⟨_,λf' ⟨i,hi,_⟩=>by omega⟩
 |succ N ih=>
  have key:∀x:zd,∀f,f N=x->Acc (BH (N+1)) f:=by
   intro x;induction x using aqx.induction with
   |_ x ihx=>
    intro f hf;have inner:∀f,Acc (BH N) f->f N=x->Acc (BH (N+1)) f:=by
     intro f ha;induction ha with
     |intro f _ Mq=>
      intro hf;refine⟨_,λf' ⟨i,hi,hlt,ho⟩=> ?_⟩;by_cases fz:i=N
      ·subst fz;exact ihx (f' i) (hf▸hlt) f' rfl
      ·exact Mq f' ⟨i,by omega,hlt,ho⟩ ((ho N (Ne.symm fz)).trans hf)
    exact inner f (ih f) hf
  exactλf=>key (f N) f rfl
def BC (N:Nat)(x y:(Nat->zd)×Nat):Prop:=BH N x.1 y.1\/(x.1=y.1/\x.2<y.2)
def abJ(N:Nat):WellFounded (BC N):=by
 refine⟨λ⟨f,n⟩=> ?_⟩;induction f using(arI N).induction generalizing n with
 |_ f Mq=>
  induction n using Zl with
  |_ n Mr=>
   refine⟨_,λ⟨f',n'⟩ hlt=> ?_⟩;rcases hlt with x|⟨x,y⟩
   ·exact Mq f' x n'
   ·have x':f'=f:=x;subst x';exact Mr n' y
open Go.Conc Go.ConcN
structure TI (t:U6)(B N:Nat)(rd wr:Nat->Loc->Prop)(Sh:Loc->Prop)(act:Nat->Prop)(ic:Nat):Prop where
 nr:∀said,¬Race said t
 low:∀op∈t,op.act.low B
 gs:∀op∈t,op.g<N
 norel:∀op∈t,∀a,op.act≠ .mark (.release a)
 kr:∀i,i<N->∀l,rd i l->PermW t i l
 kw:∀i,i<N->∀l,wr i l->Perm t i l
 sp:∀idx a,touchAt t idx=some a->Sh a.loc->(a.kind=.plain->∀i,act i->W5 t i idx)/\(a.kind=.said->W5 t ic idx)
abbrev S7:=Nat->Prop
def Fit (B:Nat)(rd wr:Nat->Loc->Prop)(Sh:Loc->Prop)(act:S7)(ic i:Nat)(x:ZK):Prop:=
 (Sh x.loc/\x.kind=.atomic/\act i)\/(Sh x.loc/\x.kind=.said/\i=ic/\act i)\/(¬Sh x.loc/\(wr i x.loc\/(rd i x.loc/\x.write=false)\/¬x.loc.low B))
def an7{B:Nat}{m:MemAct}(h:m.low B){x:ZK}(hx:m.touch?=some x):x.loc.low B:=by
 cases m with
 |access e=>simp only[Xf,Uh]at hx;subst hx;exact h
 |mark m=>cases m<;>simp[Xf]at hx<;>(subst hx;exact h)
 |_=>simp[Xf]at hx
def Of{t:U6}{B:Nat}(h:∀op∈t,op.act.low B){idx:Nat}{a:ZK}(ha:touchAt t idx=some a):a.loc.low B:=by
 obtain⟨x,hx,GR⟩:=VG ha;exact an7 (h x (XD hx)) GR
def Be{t u:U6}{idx:Nat}{a:ZK}(h:touchAt (t++u) idx=some a):touchAt t idx=some a\/(t.size<=idx/\∃op∈u,(t++u)[idx]?=some op/\op.act.touch?=some a):=by
 obtain⟨x,hx,GR⟩:=VG h;rcases Yp hx with⟨_,jC⟩|⟨hi,hu⟩
 ·exact .inl (by rw[touchAt_of jC];exact GR)
 ·exact .inr ⟨hi,x,hu,hx,GR⟩
def TI.app{t:U6}{B N B':Nat}{rd wr rd' wr':Nat->Loc->Prop}{Sh:Loc->Prop}{act:S7}{ic:Nat}(h:TI t B N rd wr Sh act ic){u:U6}{i:Nat}(hi:i<N)(hu:∀op∈u,op.g=i)
  (hf:∀op∈u,∀x,op.act.touch?=some x->Fit B rd wr Sh act ic i x) (hl:∀op∈u,op.act.low B') (hB:B<=B') (hn:∀op∈u,∀a,op.act≠ .mark (.release a))
  (LX:∀j l,j≠i->rd' j l->rd j l) (rK:∀j l,j≠i->wr' j l->wr j l) (hri:∀l,rd' i l->l.low B->rd i l\/wr i l) (yl:∀l,wr' i l->l.low B->wr i l)
  (ex:∀l j,j≠i->(wr i l->¬rd j l/\¬wr j l)/\(rd i l->¬wr j l)) (H6:∀l j,Sh l->¬rd j l/\¬wr j l) (abv:∀j l,rd j l\/wr j l->l.low B):
  TI (t++u) B' N rd' wr' Sh act ic where
 nr said:=by
  refine noRace_append (h.nr said) hu λidx a ha op az b hb hc=> ?_;have bi:=hc;obtain⟨cP,_,C1,qh⟩:=hc;rcases hf op az b hb with⟨h1,h2,h3⟩|⟨h1,h2,h3,h4⟩|⟨_,h2|⟨h2,h3⟩|h2⟩
  ·rw[h2]at qh;rcases qh with x|x|⟨_,_,x⟩
   ·exact(h.sp idx a ha (cP▸h1)).1 x i h3
   ·cases x
   ·cases x
  ·rw[h2]at qh;rcases qh with x|x|⟨_,x,_⟩
   ·exact(h.sp idx a ha (cP▸h1)).1 x i h4
   ·cases x
   ·rw[h3];exact(h.sp idx a ha (cP▸h1)).2 x
  ·exact h.kw i hi _ h2 idx a ha cP
  ·exact h.kr i hi _ h2 idx a ha cP (by rw[h3]at C1;simpa using C1)
  ·exact absurd (cP▸Of h.low ha) h2
 low op az:=(Vk.1 az).elim (λx=>YQ hB (h.low op x)) (hl op)
 gs op az:=(Vk.1 az).elim (h.gs op) (λx=>by rw[hu op x];exact hi)
 norel op az:=(Vk.1 az).elim (h.norel op) (hn op)
 kr j hj l tg:=by
  by_cases cy:j=i
  ·subst cy;intro idx a ha fy hw;rcases Be ha with gq|⟨_,op,az,cZ,hx⟩
   ·have ii:l.low B:=fy▸Of h.low gq;rcases hri l tg ii with x|x
    ·exact(h.kr j hj l x idx a gq fy hw).app u
    ·exact(h.kw j hj l x idx a gq fy).app u
   ·have:=YF cZ;rwa[hu op az]at this
  ·have Df:=LX j l cy tg;refine(h.kr j hj l Df).app λop az b hb cD hw=> ?_;exfalso;rcases hf op az b hb with⟨h1,_⟩|⟨h1,_⟩|⟨_,h2|⟨_,h3⟩|h2⟩
   ·exact(H6 l j (cD▸h1)).1 Df
   ·exact(H6 l j (cD▸h1)).1 Df
   ·exact((ex l j cy).1 (cD▸h2)).1 Df
   ·rw[h3]at hw;cases hw
   ·exact h2 (cD▸abv j l (.inl Df))
 kw j hj l rJ:=by
  by_cases cy:j=i
  ·subst cy;intro idx a ha fy;rcases Be ha with gq|⟨_,op,az,cZ,hx⟩
   ·exact(h.kw j hj l (yl l rJ (fy▸Of h.low gq)) idx a gq fy).app u
   ·have:=YF cZ;rwa[hu op az]at this
  ·have pt:=rK j l cy rJ;refine(h.kw j hj l pt).app λop az b hb cD=> ?_;exfalso;rcases hf op az b hb with⟨h1,_⟩|⟨h1,_⟩|⟨_,h2|⟨h2,_⟩|h2⟩
   ·exact(H6 l j (cD▸h1)).2 pt
   ·exact(H6 l j (cD▸h1)).2 pt
   ·exact((ex l j cy).1 (cD▸h2)).2 pt
   ·exact(ex l j cy).2 (cD▸h2) pt
   ·exact h2 (cD▸abv j l (.inr pt))
 sp idx a ha dT:=by
  rcases Be ha with gq|⟨_,op,az,cZ,hx⟩
  ·exact⟨λhp j hj=>((h.sp idx a gq dT).1 hp j hj).app u,λhp=>((h.sp idx a gq dT).2 hp).app u⟩
  ·rcases hf op az a hx with⟨_,h2,_⟩|⟨_,h2,h3,_⟩|⟨h1,_⟩
   ·exact⟨λhp=>absurd (h2.symm.trans hp) (by simp),λhp=>absurd (h2.symm.trans hp) (by simp)⟩
   ·refine⟨λhp=>absurd (h2.symm.trans hp) (by simp),λ_=> ?_⟩;have:=YF cZ;rw[hu op az,h3]at this;exact this
   ·exact absurd dT h1
def TI.weaken{t:U6}{B N B':Nat}{rd wr rd' wr':Nat->Loc->Prop}{Sh OU:Loc->Prop}{act act':S7}{ic kG:Nat}(h:TI t B N rd wr Sh act ic)(hB:B<=B')
  (LX:∀i l,i<N->rd' i l->rd i l\/wr i l) (rK:∀i l,i<N->wr' i l->wr i l)
  (th:∀idx a,touchAt t idx=some a->OU a.loc->(a.kind=.plain->∀i,act' i->W5 t i idx)/\(a.kind=.said->W5 t kG idx)):TI t B' N rd' wr' OU act' kG:=
 ⟨h.nr,λop az=>YQ hB (h.low op az),h.gs,h.norel,λi hi l x=>(LX i l hi x).elim (h.kr i hi l) (λy=>PermW.of (h.kw i hi l y)),λi hi l x=>h.kw i hi l (rK i l hi x),th⟩
def aoE{t u:U6}(h:∀said,¬Race said t)(hn:∀op∈u,op.act.touch?=none):∀said,¬Race said (t++u):=by
 intro said
 rintro⟨i,j,j5,⟨a,b,ha,hb,hc⟩,n1,n2⟩
 have old:∀{k:Nat}{x:ZK},((t++u).act? k).bind (·.touch?)=some x->k<t.size/\(t.act? k).bind (·.touch?)=some x:=by
  intro k x hx;obtain⟨y,hy,Mk⟩:=VG hx;rcases Yp hy with⟨hk,pw⟩|⟨_,hyu⟩
  ·exact⟨hk,by simp[Trace.act?,pw,Mk]⟩
  ·rw[hn y hyu]at Mk;cases Mk
 exact h said ⟨i,j,j5,⟨a,b,(old ha).2,(old hb).2,hc⟩,λe=>n1 (hb_app u e),λe=>n2 (hb_app u e)⟩
def Bg{t u:U6}(hn:∀op∈u,op.act.touch?=none){idx:Nat}{a:ZK}(h:touchAt (t++u) idx=some a):touchAt t idx=some a:=by
 rcases Be h with h|⟨_,op,az,_,hx⟩
 ·exact h
 ·rw[hn op az]at hx;cases hx
def TI.mute{t:U6}{B N N':Nat}{rd wr rd' wr':Nat->Loc->Prop}{Sh:Loc->Prop}{act act':S7}{ic kG:Nat}(h:TI t B N rd wr Sh act ic){u:U6}(hn:∀op∈u,op.act.touch?=none)(hl:∀op∈u,op.act.low B)(hg:∀op∈u,op.g<N')(hN:N<=N')
  (rA:∀op∈u,∀a,op.act≠ .mark (.release a))
  (kr:∀i,i<N'->∀l,rd' i l->∀idx a,touchAt t idx=some a->a.loc=l->a.write=true->W5 (t++u) i idx) (kw:∀i,i<N'->∀l,wr' i l->∀idx a,touchAt t idx=some a->a.loc=l->W5 (t++u) i idx)
  (sp:∀idx a,touchAt t idx=some a->Sh a.loc->(a.kind=.plain->∀i,act' i->W5 (t++u) i idx)/\(a.kind=.said->W5 (t++u) kG idx)):TI (t++u) B N' rd' wr' Sh act' kG:=
 ⟨aoE h.nr hn,λop az=>(Vk.1 az).elim (h.low op) (hl op),λop az=>(Vk.1 az).elim (λx=>Ub (h.gs op x) hN) (hg op),λop az=>(Vk.1 az).elim (h.norel op) (rA op),
  λi hi l x idx a ha=>kr i hi l x idx a (Bg hn ha),λi hi l x idx a ha=>kw i hi l x idx a (Bg hn ha),λidx a ha=>sp idx a (Bg hn ha)⟩
def qY{t u:U6}{k:Nat}{x:WU}(h:u[k]?=some x):(t++u)[t.size+k]?=some x:=by
 rw[Y9 (by omega)];simpa using h
def heard_new{t u:U6}{k g:Nat}{x:WU}(h:u[k]?=some x)(hx:x.g=g)(hd:(t++u).deaf g (t.size+k)=0):(t++u).heard (t.size+k):=⟨g,by simp[Xk,qY h,hx],hd⟩
def still (m:MemAct):Prop:=m≠ .mark .disable/\m≠ .mark .enable
def Jq{g d:Nat}{y:WU}(h:still y.act):deafStep g d y=d:=by
 unfold deafStep;obtain⟨_,_,_,act⟩:=y;cases act with
 |mark m=>cases m<;>first|rfl|exact absurd rfl h.1|exact absurd rfl h.2
 |_=>rfl
def uh{t u:U6}{g:Nat}(hs:∀op∈u,still op.act):∀{k:Nat},k<=u.size->(t++u).deaf g (t.size+k)=VH t g:=by
 intro k;induction k with
 |zero=>intro _;exact deaf_old (Tm _)
 |succ k ih=>
  intro hk;have hlt:k<u.size:=by omega
  have hy:u[k]?=some u[k]:=Tf hlt;have e:=Zk (g:=g) (qY (t:=t) hy);rw[show t.size+(k+1)=t.size+k+1 from rfl,e,ih (by omega),Jq (hs _ (XP hlt))]
def Deaf_still{t u:U6}{g:Nat}(hs:∀op∈u,still op.act):VH (t++u) g=VH t g:=by
 have:=uh (t:=t) (g:=g) hs (Tm u.size);unfold VH;rw[YG];exact this
def aoj{t u:U6}{k c s:Nat}{x0 x1 x2 x3:WU}(hu:u=#[x0,x1,x2,x3])(h0:x0.g=k/\x0.act=.send c s)(h1:still x1.act)(h2:still x2.act)(h3:x3.g=0/\x3.act=.recvDone c s)(dk:VH t k=0)(d0:VH t 0=0){idx:Nat}(h:W5 t k idx):W5 (t++u) 0 idx:=by
 have hs:∀op∈u,still op.act:=by
  subst hu;intro op az;simp only[UC,Th,Tv,or_false]at az;rcases az with rfl|rfl|rfl|rfl
  ·rw[h0.2];exact⟨by simp,by simp⟩
  ·exact h1
  ·exact h2
  ·rw[h3.2];exact⟨by simp,by simp⟩
 have e0:u[0]?=some x0:=by subst hu;rfl
 have e3:u[3]?=some x3:=by subst hu;rfl
 have aX:u.size=4:=by subst hu;rfl
 have g0:=qY (t:=t) e0;have g3:=qY (t:=t) e3;have hh0:(t++u).heard (t.size+0):=heard_new e0 h0.1 (by rw[uh hs (by omega)];exact dk);have Sq:(t++u).heard (t.size+3):=heard_new e3 h3.1 (by rw[uh hs (by omega)];exact d0);have hb:HappensBefore (t++u) idx (t.size+0):=h.hb_new (by omega) g0 h0.1;exact⟨_,x3,g3,h3.1,.inr (hb.trans (.single (.inr ⟨.handOver (c:=c) (k:=s) (by rw[ZC g0,h0.2]) (by rw[ZC g3,h3.2]),hh0,Sq⟩)))⟩
def afm{t:U6}{a:Wp}{r q i:Nat}{y:WU}(hr:t.act? r=some (.mark (.releaseMerge a)))(hh:t.heard r)(hn:∀op∈t,∀a,op.act≠ .mark (.release a))(hy:y.g=q/\y.act=.mark (.acquire a))(hd:VH t q=0)(hb:Before t i r):W5 (t++#[y]) q i:=by
 have e:(#[y]:U6)[0]?=some y:=rfl;have g:=qY (t:=t) e;have tg:=Xe hr;have aT:∀op∈(#[y]:U6),still op.act:=by
  intro op az;simp only[UC,Th,Tv,or_false]at az;subst az;rw[hy.2];exact⟨by simp,by simp⟩
 have Lh:(t++#[y]).heard (t.size+0):=heard_new e hy.1 (by rw[uh aT (by simp)];exact hd);refine⟨_,y,g,hy.1,.inr ((hb.app #[y]).hb (.single (.inr ⟨.marked (a:=a) (by omega) (.inr (by rw[Y8 tg];exact hr)) (by rw[ZC g,hy.2]) (λk iD cH e'=> ?_),(W2 tg).2 hh,Lh⟩)))⟩;obtain⟨op,ho,hoa⟩:=Uq.1 e';rcases Yp ho with⟨_,bf⟩|⟨hk,_⟩
 ·exact hn op (XD bf) a hoa
 ·omega
def aha{t:U6}{c p q i:Nat}{y:WU}(hp:t.act? p=some (.close c))(hh:t.heard p)(hy:y.g=q/\y.act=.recvClosed c)(hd:VH t q=0)(hb:Before t i p):W5 (t++#[y]) q i:=by
 have e:(#[y]:U6)[0]?=some y:=rfl;have g:=qY (t:=t) e;have dM:=Xe hp;have aT:∀op∈(#[y]:U6),still op.act:=by
  intro op az;simp only[UC,Th,Tv,or_false]at az;subst az;rw[hy.2];exact⟨by simp,by simp⟩
 have Lh:(t++#[y]).heard (t.size+0):=heard_new e hy.1 (by rw[uh aT (by simp)];exact hd);exact⟨_,y,g,hy.1,.inr ((hb.app #[y]).hb (.single (.inr ⟨.closed (c:=c) (by rw[Y8 dM];exact hp) (by rw[ZC g,hy.2]),(W2 dM).2 hh,Lh⟩)))⟩
open Go.Conc Go.ConcN
def jF (U V:View):Prop:=∀b,U.own b≠none->V.own b=none/\∀o,V.ab b o≠none->U.ab b o≠none
def gP (V:View):Loc->Prop
 |.cell a=>V.own a.block≠none\/V.ab a.block a.off≠none
 |.obj r=>V.own r≠none
 |_=>False
def jG (V:View):Loc->Prop
 |.cell a=>V.own a.block≠none/\V.ab a.block a.off=none
 |.obj r=>V.own r≠none
 |_=>False
def jG.rd{V:View}:∀{l:Loc},jG V l->gP V l
 |.cell _,h=> .inl h.1
 |.obj _,h=>h
def da.others{V V' U:View}{w w':Ul}{es:SO}(s:da V w V' w' es)(hV:Sat V w)(h:Sat U w)(d:jF V U):Sat U w':=by
 refine⟨λb o v e=> ?_,λb x e=> ?_⟩
 ·have hc:=h.ab b o v e;have hb:=h.Dt e;cases ho:V.own b with
  |none=>
   have:=s.frame b hb ho;simp only[Vs,this]at hc⊢;exact hc
  |some x=>
   have hp:=(d b (by rw[ho];simp)).2 o (by rw[e];simp);cases hi:V.ab b o with
   |none=>exact absurd hi hp
   |some v'=>
    have e1:=hV.ab b o v' hi;rw[hc]at e1;cases e1;exact s.sat.ab b o v (s.ab b o v hi)
 ·have hb:=h.lt e;have ho:V.own b=none:=by
   cases ho:V.own b with
   |none=>rfl
   |some y=>rw[(d b (by rw[ho];simp)).1]at e;cases e
  rw[s.frame b hb ho];exact h.own b x e
def da.vT{V V' U:View}{w w':Ul}{es:SO}(s:da V w V' w' es)(h:Sat U w)(d:jF V U)(d':jF U V):jF V' U/\jF U V':=by
 have key:∀b,V'.own b≠none->V.own b≠none\/w.heap.size<=b:=by
  intro b hb;by_cases hlt:b<w.heap.size
  ·exact .inl λe=>hb (s.own b hlt e)
  ·exact .inr (by omega)
 refine⟨λb hb=> ?_,λb hb=> ?_⟩
 ·rcases key b hb with x|x
  ·refine⟨(d b x).1,λo ho=> ?_⟩;have:=(d b x).2 o ho;cases e:V.ab b o with
   |none=>exact absurd e this
   |some v=>rw[s.ab b o v e];simp
  ·have:=h.fresh x;exact⟨this.1,λo ho=>absurd (this.2 o) ho⟩
 ·have hlt:b<w.heap.size:=by
   cases e:U.own b with
   |none=>exact absurd e hb
   |some x=>exact h.lt e
  refine⟨?_,λo ho=> ?_⟩
  ·exact s.own b hlt (d' b hb).1
  ·cases e:V'.ab b o with
   |none=>exact absurd e ho
   |some v=>
    rcases s.kH b o v e with x|x|x
    ·exact(d' b hb).2 o (by rw[x];simp)
    ·exact absurd (d' b hb).1 x
    ·omega
def d_.vT{V V' U:View}(g:d_ V V')(d:jF V U)(d':jF U V):jF V' U/\jF U V':=by
 refine⟨λb hb=> ?_,λb hb=>⟨g.own b (d' b hb).1,λo ho=> ?_⟩⟩
 ·have x:V.own b≠none:=λe=>hb (g.own b e);refine⟨(d b x).1,λo ho=> ?_⟩;cases e:V.ab b o with
  |none=>exact absurd e ((d b x).2 o ho)
  |some v=>rw[g.ab b o v e];simp
 ·cases e:V'.ab b o with
  |none=>exact absurd e ho
  |some v=>
   rcases g.kH b o v e with x|x
   ·exact(d' b hb).2 o (by rw[x];simp)
   ·exact absurd (d' b hb).1 x
def d_.rd{V V':View}(g:d_ V V'):∀{l:Loc},gP V' l->gP V l
 |.cell a,h=>by
  rcases h with h|h
  ·exact .inl λe=>h (g.own _ e)
  ·cases e:V'.ab a.block a.off with
   |none=>exact absurd e h
   |some v=>exact(g.kH _ _ _ e).elim (λx=> .inr (by rw[x];simp)) .inl
 |.obj _,h=>λe=>h (g.own _ e)
def d_.wr{V V':View}(g:d_ V V'):∀{l:Loc},jG V' l->jG V l
 |.cell a,h=>⟨λe=>h.1 (g.own _ e),by
  cases e:V.ab a.block a.off with
  |none=>rfl
  |some v=>exact absurd (g.ab _ _ _ e) (by rw[h.2];simp)⟩
 |.obj _,h=>λe=>h (g.own _ e)
def gP.low{V:View}{w:Ul}(h:Sat V w):∀{l:Loc},gP V l->l.low w.heap.size
 |.cell a,x=>by
  rcases x with x|x
  ·cases e:V.own a.block with
   |none=>exact absurd e x
   |some y=>exact h.lt e
  ·cases e:V.ab a.block a.off with
   |none=>exact absurd e x
   |some y=>exact h.Dt e
 |.obj r,x=>by
  cases e:V.own r with
  |none=>exact absurd e x
  |some y=>exact h.lt e
def da.rd{V V':View}{w w':Ul}{es:SO}(s:da V w V' w' es):∀{l:Loc},gP V' l->l.low w.heap.size->gP V l
 |.cell a,h,hl=>by
  have eF:a.block<w.heap.size:=hl;rcases h with h|h
  ·exact .inl λe=>h (s.own _ eF e)
  ·cases e:V'.ab a.block a.off with
   |none=>exact absurd e h
   |some v=>
    rcases s.kH _ _ _ e with x|x|x
    ·exact .inr (by rw[x];simp)
    ·exact .inl x
    ·omega
 |.obj r,h,hl=>λe=>h (s.own _ hl e)
def da.wr{V V':View}{w w':Ul}{es:SO}(s:da V w V' w' es):∀{l:Loc},jG V' l->l.low w.heap.size->jG V l
 |.cell a,h,hl=>⟨λe=>h.1 (s.own _ hl e),by
  cases e:V.ab a.block a.off with
  |none=>rfl
  |some v=>exact absurd (s.ab _ _ _ e) (by rw[h.2];simp)⟩
 |.obj r,h,hl=>λe=>h (s.own _ hl e)
def ahA{U V:View}(d:jF U V)(d':jF V U)(l:Loc):(jG U l->¬gP V l/\¬jG V l)/\(gP U l->¬jG V l):=by
 cases l with
 |cell a=>
  refine⟨λh=> ?_,λh=> ?_⟩
  ·have:=d _ h.1;refine⟨λx=> ?_,λx=>x.1 this.1⟩;rcases x with x|x
   ·exact x this.1
   ·exact this.2 _ x h.2
  ·intro x;have:=d' _ x.1;rcases h with h|h
   ·exact h this.1
   ·exact this.2 _ h x.2
 |obj r=>exact⟨λh=>⟨λx=>x (d r h).1,λx=>x (d r h).1⟩,λh x=>h (d' r x).1⟩
 |_=>exact⟨λh=>h.elim,λh=>h.elim⟩
def qP (c Wg:Nat):Loc->Prop
 |.cell a=>a.block=Wg
 |.obj r=>r=c
 |_=>False
structure Core (VV:Nat->View)(N:Nat)(w:Ul)(t:U6)(Sh:Loc->Prop)(act:Nat->Prop)(ic n0:Nat)(W0:Ul):Prop where
 sat:∀i,i<N->Sat (VV i) w
 dO:∀i j,i<N->j<N->i≠j->jF (VV i) (VV j)
 ti:TI t w.heap.size N (λi l=>i<N/\gP (VV i) l/\¬Sh l) (λi l=>i<N/\jG (VV i) l/\¬Sh l) Sh act ic
 tape:w.tape=W0.tape
 os:w.os=W0.os
 out:w.output=W0.output
 old:∀b,b<n0->w.heap[b]?=W0.heap[b]?
 jm:∀i,i<N->∀b,b<n0->(VV i).own b=none
 n0:n0<=w.heap.size
def upd {α:Type}(f:Nat->α)(i:Nat)(x:α):Nat->α:=λj=>if j=i then x else f j
def bu{α:Type}(f:Nat->α)(i:Nat)(x:α):upd f i x i=x:=by simp[upd]
def ba{α:Type}(f:Nat->α){i j:Nat}(x:α)(h:j≠i):upd f i x j=f j:=by simp[upd,h]
open Go.Conc Go.ConcN
section
variable {VV:Nat->View}{N:Nat}{w w':Ul}{t:U6}{Sh:Loc->Prop}{act:S7}{ic n0 i:Nat}{W0:Ul}
def Core.draw(h:Core VV N w t Sh act ic n0 W0)(d:Nat):Core VV N (w.at d) t Sh act ic n0 W0:=
 ⟨λi hi=>⟨(h.sat i hi).ab,(h.sat i hi).own⟩,h.dO,h.ti,h.tape,h.os,h.out,h.old,h.jm,h.n0⟩
def JO{V:View}{B:Nat}{e:WV}(he:na V B e){x:ZK}(hx:(Up e).touch?=some x):(jG V x.loc\/(gP V x.loc/\x.write=false)\/¬x.loc.low B)/\
  (∀c,V.role.chan=some c->x.loc≠ .obj c)/\(∀Wg a,V.role.group=some Wg->x.loc=.cell a->a.block=Wg->x.kind≠ .plain):=by
 obtain⟨l,wr,s⟩:=e;cases l with
 |cell a=>
  simp only[awj,Xf,Uh]at hx;subst hx;cases wr with
  |false=>
   refine⟨?_,λc _=>by simp,λWg a' hr ha hb=> ?_⟩
   ·rcases he.1 with h|h|h
    ·exact .inr (.inr (by show ¬a.block<B;omega))
    ·exact .inr (.inl ⟨.inl h,rfl⟩)
    ·exact .inr (.inl ⟨.inr h,rfl⟩)
   ·cases ha;rcases he.2 with h|h
    ·subst h;simp
    ·subst hb;exact absurd hr h
  |true=>
   refine⟨?_,λc _=>by simp,λWg a' hr ha hb=> ?_⟩
   ·rcases he.1 with h|h
    ·exact .inr (.inr (by show ¬a.block<B;omega))
    ·exact .inl h
   ·cases ha;rcases he.2 with h|h
    ·subst h;simp
    ·subst hb;exact absurd hr h
 |obj r=>
  obtain⟨⟨rfl,h2⟩,h3⟩:=he;have e1:Up ⟨.obj r,wr,false⟩=.access ⟨.obj r,wr,false⟩:=by cases wr<;>rfl
  rw[e1]at hx;simp only[Xf,Uh]at hx;subst hx;refine⟨?_,λc hc e=> ?_,λWg a _ ha=>by cases ha⟩
  ·rcases h2 with h|h
   ·exact .inr (.inr (by show ¬r<B;omega))
   ·exact .inl h
  ·cases e;exact h3 hc
 |mark m=>
  have e1:Up ⟨.mark m,wr,s⟩=.mark m:=by cases wr<;>cases s<;>rfl
  rw[e1]at hx;cases m<;>simp only[Xf,Uh,reduceCtorEq]at hx
  all_goals
   subst hx;refine⟨?_,λc _=>by simp,λWg a' _ _ _=>by simp⟩;have j4:mF V B _:=he;rcases j4 with h|h
   ·exact .inr (.inr (by simp only[Loc.low];omega))
   ·exact .inl h
 |_=>exact he.elim
def Core.Qx(h:Core VV N w t Sh act ic n0 W0)(l:Loc){i j:Nat}(hi:i<N)(hj:j≠i):
  ((i<N/\jG (VV i) l/\¬Sh l)->¬(j<N/\gP (VV j) l/\¬Sh l)/\¬(j<N/\jG (VV j) l/\¬Sh l))/\((i<N/\gP (VV i) l/\¬Sh l)->¬(j<N/\jG (VV j) l/\¬Sh l)):=by
 by_cases CY:j<N
 ·have:=ahA (h.dO i j hi CY (Ne.symm hj)) (h.dO j i CY hi hj) l;exact⟨λ⟨_,x,_⟩=>⟨λ⟨_,y,_⟩=>(this.1 x).1 y,λ⟨_,y,_⟩=>(this.1 x).2 y⟩,λ⟨_,x,_⟩ ⟨_,y,_⟩=>this.2 x y⟩
 ·exact⟨λ_=>⟨λ⟨y,_⟩=>CY y,λ⟨y,_⟩=>CY y⟩,λ_ ⟨y,_⟩=>CY y⟩
def Core.step(h:Core VV N w t Sh act ic n0 W0)(hi:i<N){V':View}{es:SO}(s:da (VV i) w V' w' es)
  (dT:∀e∈es,∀x,(Up e).touch?=some x->Sh x.loc->(x.kind=.atomic/\act i)\/(x.kind=.said/\i=ic/\act i)) (fn:UH) (pos:String):
  Core (upd VV i V') N w' (t++Ua i fn pos es) Sh act ic n0 W0 where
 sat j hj:=by
  by_cases cy:j=i
  ·subst cy;rw[bu];exact s.sat
  ·rw[ba _ _ cy];exact s.others (h.sat i hi) (h.sat j hj) (h.dO i j hi hj (Ne.symm cy))
 dO a b ha hb dJ:=by
  by_cases nC:a=i
  ·subst nC;have sQ:b≠a:=Ne.symm dJ;rw[bu,ba _ _ sQ];exact(s.vT (h.sat b hb) (h.dO a b ha hb dJ) (h.dO b a hb ha sQ)).1
  ·by_cases iN:b=i
   ·subst iN;rw[bu,ba _ _ nC];exact(s.vT (h.sat a ha) (h.dO b a hb ha (Ne.symm dJ)) (h.dO a b ha hb dJ)).2
   ·rw[ba _ _ nC,ba _ _ iN];exact h.dO a b ha hb dJ
 ti:=by
  refine h.ti.app hi (λop az=>by obtain⟨e,_,rfl⟩:=UD az;rfl) (λop az x hx=> ?_) (λop az=>by obtain⟨e,he,rfl⟩:=UD az;exact s.low e he) s.size (λop az a=> ?_)
   (λj l hj ⟨x,y⟩=>by rw[ba _ _ hj]at y;exact⟨x,y⟩) (λj l hj ⟨x,y⟩=>by rw[ba _ _ hj]at y;exact⟨x,y⟩)
   (λl ⟨x,y,z⟩ hl=>by rw[bu]at y;exact .inl ⟨x,s.rd y hl,z⟩) (λl ⟨x,y,z⟩ hl=>by rw[bu]at y;exact⟨x,s.wr y hl,z⟩)
   (λl j hj=>h.Qx l hi hj) (λl j hs=>⟨λx=>x.2.2 hs,λx=>x.2.2 hs⟩) (λj l x=>x.elim (λy=>gP.low (h.sat j y.1) y.2.1) (λy=>gP.low (h.sat j y.1) y.2.1.rd))
  ·obtain⟨e,he,rfl⟩:=UD az;by_cases hs:Sh x.loc
   ·rcases dT e he x hx hs with⟨a,b⟩|⟨a,b,c⟩
    ·exact .inl ⟨hs,a,b⟩
    ·exact .inr (.inl ⟨hs,a,b,c⟩)
   ·refine .inr (.inr ⟨hs,?_⟩);rcases(JO (s.fe e he) hx).1 with x'|⟨x',y⟩|x'
    ·exact .inl ⟨hi,x',hs⟩
    ·exact .inr (.inl ⟨⟨hi,x',hs⟩,y⟩)
    ·exact .inr (.inr x')
  ·obtain⟨e,he,rfl⟩:=UD az;intro e';have hk:=s.fe e he;obtain⟨l,wr,sy⟩:=e;cases l with
   |mark m=>
    have e1:Up ⟨.mark m,wr,sy⟩=.mark m:=(by cases wr<;>cases sy<;>rfl);simp only[e1,av9]at e';subst e';exact hk
   |cell a'=>simp[awj]at e'
   |obj r=>cases wr<;>cases sy<;>simp[Up]at e'
   |_=>exact hk
 tape:=s.tape.trans h.tape
 os:=s.os.trans h.os
 out:=s.output.trans h.out
 old b hb:=(s.frame b (Ub hb h.n0) (h.jm i hi b hb)).trans (h.old b hb)
 jm j hj b hb:=by
  by_cases cy:j=i
  ·subst cy;rw[bu];exact s.own b (Ub hb h.n0) (h.jm j hj b hb)
  ·rw[ba _ _ cy];exact h.jm j hj b hb
 n0:=Vb h.n0 s.size
def Core.ghost(h:Core VV N w t Sh act ic n0 W0)(hi:i<N){V':View}(g:d_ (VV i) V'):Core (upd VV i V') N w t Sh act ic n0 W0 where
 sat j hj:=by
  by_cases cy:j=i
  ·subst cy;rw[bu];exact g.sat _ (h.sat j hj)
  ·rw[ba _ _ cy];exact h.sat j hj
 dO a b ha hb dJ:=by
  by_cases nC:a=i
  ·subst nC;have sQ:b≠a:=Ne.symm dJ;rw[bu,ba _ _ sQ];exact(g.vT (h.dO a b ha hb dJ) (h.dO b a hb ha sQ)).1
  ·by_cases iN:b=i
   ·subst iN;rw[bu,ba _ _ nC];exact(g.vT (h.dO b a hb ha (Ne.symm dJ)) (h.dO a b ha hb dJ)).2
   ·rw[ba _ _ nC,ba _ _ iN];exact h.dO a b ha hb dJ
 ti:=h.ti.weaken (Tm _) (λj l _ ⟨x,y,z⟩=>by
   by_cases cy:j=i
   ·subst cy;rw[bu]at y;exact .inl ⟨x,g.rd y,z⟩
   ·rw[ba _ _ cy]at y;exact .inl ⟨x,y,z⟩) (λj l _ ⟨x,y,z⟩=>by
   by_cases cy:j=i
   ·subst cy;rw[bu]at y;exact⟨x,g.wr y,z⟩
   ·rw[ba _ _ cy]at y;exact⟨x,y,z⟩) h.ti.sp
 tape:=h.tape
 os:=h.os
 out:=h.out
 old:=h.old
 jm j hj b hb:=by
  by_cases cy:j=i
  ·subst cy;rw[bu];exact g.own b (h.jm j hj b hb)
  ·rw[ba _ _ cy];exact h.jm j hj b hb
 n0:=h.n0
def mE (V' V:View):Prop:=(∀b,V'.own b=none\/V'.own b=V.own b)/\(∀b o,V'.ab b o=none\/V'.ab b o=V.ab b o)/\(∀b,V'.own b≠none->∀o,V'.ab b o=V.ab b o)
def mE.sat{V V':View}(l:mE V' V){w:Ul}(h:Sat V w):Sat V' w:=
 ⟨λb o v e=>h.ab b o v (by rcases l.2.1 b o with x|x<;>rw[x]at e;cases e;exact e),λb x e=>h.own b x (by rcases l.1 b with y|y<;>rw[y]at e;cases e;exact e)⟩
def mE.rd{V V':View}(k:mE V' V):∀{l:Loc},gP V' l->gP V l
 |.cell a,h=>h.imp (λx y=>by rcases k.1 a.block with z|z;exact x z;exact x (z.trans y)) (λx y=>by rcases k.2.1 a.block a.off with z|z;exact x z;exact x (z.trans y))
 |.obj r,h=>λy=>by rcases k.1 r with z|z;exact h z;exact h (z.trans y)
def mE.wr{V V':View}(k:mE V' V):∀{l:Loc},jG V' l->jG V l
 |.cell a,h=>⟨λy=>by rcases k.1 a.block with z|z;exact h.1 z;exact h.1 (z.trans y),by rw[<- k.2.2 _ h.1];exact h.2⟩
 |.obj r,h=>λy=>by rcases k.1 r with z|z;exact h z;exact h (z.trans y)
def mE.vT{V V' U:View}(k:mE V' V)(d:jF V U)(d':jF U V):jF V' U/\jF U V':=by
 refine⟨λb hb=> ?_,λb hb=>⟨?_,λo ho=> ?_⟩⟩
 ·have x:V.own b≠none:=λy=>by rcases k.1 b with z|z;exact hb z;exact hb (z.trans y)
  exact⟨(d b x).1,λo ho=>by rw[k.2.2 b hb];exact(d b x).2 o ho⟩
 ·rcases k.1 b with z|z;exact z;exact z.trans (d' b hb).1
 ·exact(d' b hb).2 o λy=>by rcases k.2.1 b o with z|z;exact ho z;exact ho (z.trans y)
def Core.less(h:Core VV N w t Sh act ic n0 W0)(hi:i<N){V':View}(k:mE V' (VV i)):Core (upd VV i V') N w t Sh act ic n0 W0 where
 sat j hj:=by
  by_cases cy:j=i
  ·subst cy;rw[bu];exact k.sat (h.sat j hj)
  ·rw[ba _ _ cy];exact h.sat j hj
 dO a b ha hb dJ:=by
  by_cases nC:a=i
  ·subst nC;have sQ:b≠a:=Ne.symm dJ;rw[bu,ba _ _ sQ];exact(k.vT (h.dO a b ha hb dJ) (h.dO b a hb ha sQ)).1
  ·by_cases iN:b=i
   ·subst iN;rw[bu,ba _ _ nC];exact(k.vT (h.dO b a hb ha (Ne.symm dJ)) (h.dO a b ha hb dJ)).2
   ·rw[ba _ _ nC,ba _ _ iN];exact h.dO a b ha hb dJ
 ti:=h.ti.weaken (Tm _) (λj l _ ⟨x,y,z⟩=>by
   by_cases cy:j=i
   ·subst cy;rw[bu]at y;exact .inl ⟨x,k.rd y,z⟩
   ·rw[ba _ _ cy]at y;exact .inl ⟨x,y,z⟩) (λj l _ ⟨x,y,z⟩=>by
   by_cases cy:j=i
   ·subst cy;rw[bu]at y;exact⟨x,k.wr y,z⟩
   ·rw[ba _ _ cy]at y;exact⟨x,y,z⟩) h.ti.sp
 tape:=h.tape
 os:=h.os
 out:=h.out
 old:=h.old
 jm j hj b hb:=by
  by_cases cy:j=i
  ·subst cy;rw[bu];rcases k.1 b with z|z;exact z;exact z.trans (h.jm j hj b hb)
  ·rw[ba _ _ cy];exact h.jm j hj b hb
 n0:=h.n0
def Core.tJ(h:Core VV N w t Sh act ic n0 W0)(hi:i<N){es:SO}(cp:∀e∈es,∀x,(Up e).touch?=some x->Fit w.heap.size (λi l=>i<N/\gP (VV i) l/\¬Sh l) (λi l=>i<N/\jG (VV i) l/\¬Sh l) Sh act ic i x)
  (ii:∀e∈es,(Up e).low w.heap.size) (rA:∀e∈es,∀a,Up e≠ .mark (.release a)) (SB:S7) (L2:∀b,SB b->n0<=b/\∀j,j<N->(VV j).own b=none/\∀o,(VV j).ab b o=none)
  (aX:w'.heap.size=w.heap.size) (jy:∀b,¬SB b->w'.heap[b]?=w.heap[b]?) (ht:w'.tape=w.tape) (ho:w'.os=w.os) (hu:w'.output=w.output) (fn:UH) (pos:String):
  Core VV N w' (t++Ua i fn pos es) Sh act ic n0 W0 where
 sat j hj:=by
  have hs:=h.sat j hj;refine⟨λb o v e=> ?_,λb x e=> ?_⟩
  ·have hb:¬SB b:=λx=>(by rw[((L2 b x).2 j hj).2 o]at e;cases e);have:=hs.ab b o v e;simp only[Vs,jy b hb];exact this
  ·have hb:¬SB b:=λy=>(by rw[((L2 b y).2 j hj).1]at e;cases e);rw[jy b hb];exact hs.own b x e
 dO:=h.dO
 ti:=by
  rw[aX];refine h.ti.app hi (λop az=>by obtain⟨e,_,rfl⟩:=UD az;rfl) (λop az x hx=>by obtain⟨e,he,rfl⟩:=UD az;exact cp e he x hx) (λop az=>by obtain⟨e,he,rfl⟩:=UD az;exact ii e he) (Tm _) (λop az a=>by obtain⟨e,he,rfl⟩:=UD az;exact rA e he a)
   (λj l _ x=>x) (λj l _ x=>x) (λl x _=> .inl x) (λl x _=>x) (λl j hj=>h.Qx l hi hj) (λl j hs=>⟨λx=>x.2.2 hs,λx=>x.2.2 hs⟩) (λj l x=>x.elim (λy=>gP.low (h.sat j y.1) y.2.1) (λy=>gP.low (h.sat j y.1) y.2.1.rd))
 tape:=ht.trans h.tape
 os:=ho.trans h.os
 out:=hu.trans h.out
 old b hb:=(jy b (λx=>by have:=(L2 b x).1;omega)).trans (h.old b hb)
 jm:=h.jm
 n0:=by rw[aX];exact h.n0
def Core.quiet(h:Core VV N w t Sh act ic n0 W0)(hi:i<N){es:SO}(K3:∀e∈es,(Up e).touch?=none/\(Up e).low w.heap.size/\∀a,Up e≠ .mark (.release a))(fn:UH)(pos:String):
  Core VV N w (t++Ua i fn pos es) Sh act ic n0 W0:=
 h.tJ hi (λe he x hx=>by rw[(K3 e he).1]at hx;cases hx) (λe he=>(K3 e he).2.1) (λe he=>(K3 e he).2.2) (λ_=>False) (λb x=>x.elim) rfl (λ_ _=>rfl) rfl rfl rfl fn pos
def Core.role(h:Core VV N w t Sh act ic n0 W0)(hi:i<N){V':View}(h1:V'.ab=(VV i).ab)(h2:V'.own=(VV i).own):Core (upd VV i V') N w t Sh act ic n0 W0:=
 h.less hi ⟨λb=> .inr (by rw[h2]),λb o=> .inr (by rw[h1]),λb _ o=>by rw[h1]⟩
end
open Go.Conc Go.ConcN
inductive GS where
 |gone (q:Nat)
 |work (j:Nat) (h:Ht) (V:View)
 |nW (j:Nat) (h:Ht) (V V':View) (g0:Te) (v z:T5)
 |add (n:Nat)
 |load (n:Nat)
 |store (n:Nat)
 |my (n:Nat)
 |head (k n:Nat)
 |mc (v n:Nat)
 |said (n:Nat)
 |hO (n:Nat)
 |last (n:Nat)
 |acq (n:Nat)
 |look (n:Nat)
 |close (n:Nat)
def noView:View:={ab:=λ_ _=>none,own:=λ_=>none,deaf:=0,role:=.plain}
def GS.view (Im:cr):GS->View
 |.work _ _ V=>V
 |.nW _ _ V _ _ _ _=>V
 |.head .. |.mc .. |.said _|.hO _|.last _|.acq _|.look _=>{noView with ab:=Im}
 |_=>noView
def GS.cnt:GS->Nat
 |.work .. |.nW .. |.add _=>1
 |_=>0
def GS.late:GS->Nat
 |.load _|.store _|.my _=>1
 |_=>0
def GS.idx:GS->Option Nat
 |.work j _ _=>some j
 |.nW j _ _ _ _ _ _=>some j
 |_=>none
def GS.shape:GS->GS
 |.gone _=> .gone 0
 |.work j _ _=> .work j .z noView
 |.nW j _ _ _ _ _ _=> .work j .z noView
 |.add _=> .add 0
 |.load _=> .load 0
 |.store _=> .store 0
 |.my _=> .my 0
 |.head k _=> .head k 0
 |.mc v _=> .mc v 0
 |.said _=> .said 0
 |.hO _=> .hO 0
 |.last _=> .last 0
 |.acq _=> .acq 0
 |.look _=> .look 0
 |.close _=> .close 0
def GS.nw:∀K:GS,K.shape.cnt=K.cnt:=by intro K;cases K<;>rfl
def GS.mu:∀K:GS,K.shape.late=K.late:=by intro K;cases K<;>rfl
def GS.G2:∀K:GS,K.shape.idx=K.idx:=by intro K;cases K<;>rfl
def GS.nv:GS->Bool
 |.head .. |.mc .. |.said _|.hO _|.last _|.acq _|.look _|.close _=>true
 |_=>false
def GS.PT:∀K:GS,K.shape.nv=K.nv:=by intro K;cases K<;>rfl
def GS.c9:GS->zd
 |.gone q=>⟨0,.z,q⟩
 |.work _ h V=>⟨11+2* (match V.role with|.work _ _ S=>S.length|_=>0),h,0⟩
 |.nW _ h V _ _ _ _=>⟨10+2* (match V.role with|.work _ _ S=>S.length|_=>0),h,0⟩
 |.add n=>⟨8,.z,n⟩
 |.load n=>⟨7,.z,n⟩
 |.store n=>⟨6,.z,n⟩
 |.my n=>⟨5,.z,n⟩
 |.head k n=>⟨100+3* k,.z,n⟩
 |.mc v n=>⟨102+3* v,.z,n⟩
 |.said n=>⟨60,.z,n⟩
 |.hO n=>⟨50,.z,n⟩
 |.last n=>⟨40,.z,n⟩
 |.acq n=>⟨30,.z,n⟩
 |.look n=>⟨20,.z,n⟩
 |.close n=>⟨15,.z,n⟩
section
variable (P:Tg)(c Wg:Nat)(Im:cr)(Ss:TB)
def EA (v d:Nat)(g:Te):Prop:=d=1/\g.status=.running/\
 (∃g',(∀w,WgAt P Wg w ((v:Int)* KK) 0->stepG P false g w=.go g' (w.setCell (dZ Wg) (.int .u64 ((v:Int)* KK+1))) #[ja (dZ Wg),kV (dZ Wg)])/\∃n,gZ P Wg (EB P Im c Wg) n 1 g')/\
 (∀u:Nat,u<v->∃g',(∀w,WgAt P Wg w ((u:Int)* KK) 0->stepG P false g w=.go g' w #[ja (dZ Wg)])/\∃n,cS P (eI P Im c Wg v) n 1 g')
def eI.succ{k d:Nat}{g:Te}(h:eI P Im c Wg (k+1) d g):d=1/\g.status=.running/\∀v:Nat,v<=k->v<=4->∃g',(∀w,WgAt P Wg w ((v:Int)* KK) 0->stepG P false g w=.go g' w #[ja (dZ Wg)])/\
  (v=0->∃n,gZ P Wg (tP P Im c Wg) n 1 g')/\(v≠0->∃n,cS P (EA P c Wg Im v) n 1 g'):=by
 rw[eI]at h;exact h
def eI.zero{d:Nat}{g:Te}(h:eI P Im c Wg 0 d g):False:=by
 rw[eI]at h;exact h
def GS.is:GS->Nat->Te->Prop
 |.gone q,d,g=>YR P q d g
 |.work j h V,d,g=>d=V.deaf/\lE P h V g/\∃S,Ss[j]?=some S/\V.role=.work c Wg S
 |.nW j h V V' g0 v z,d,g=>d=0/\V.deaf=0/\g=parked g0 #[scase c v z] .send/\lE P h V' (UM g0 undef)/\∃sp S,∃B:Nat->Bool,Ss[j]?=some (sp::S)/\V.role=.work c Wg (sp::S)/\
   sp v V.ab (λb=>if B b then V.own b else none)/\V'={V with own:=λb=>if B b then none else V.own b,role:=.work c Wg S}
 |.add n,d,g=>cS P (Bt P Wg) n d g
 |.load n,d,g=>cS P (ED P Wg) n d g
 |.store n,d,g=>cS P (EF P Wg) n d g
 |.my n,d,g=>cS P (EE P Wg) n d g
 |.head k n,d,g=>cS P (eI P Im c Wg k) n d g
 |.mc v n,d,g=>cS P (EA P c Wg Im v) n d g
 |.said n,d,g=>gZ P Wg (EB P Im c Wg) n d g
 |.hO n,d,g=>cS P (EC P Im c Wg) n d g\/(n=0/\∃g1,g={g1 with status:=.blocked}/\EC P Im c Wg d g1)
 |.last n,d,g=>cS P (IG P Im c Wg) n d g
 |.acq n,d,g=>gZ P Wg (tP P Im c Wg) n d g
 |.look n,d,g=>cS P (IH P Im c) n d g
 |.close n,d,g=>cS P (IF P c) n d g
end
def cS.running{P:Tg}{Stop:SZ}(hs:∀d g,Stop d g->g.status=.running):∀{n d:Nat}{g:Te},cS P Stop n d g->g.status=.running
 |0,_,_,h=>hs _ _ h
 |_+1,_,_,h=>h.elim (hs _ _) (λx=>x.1)
def gZ.running{P:Tg}{Wg:Nat}{Stop:SZ}(hs:∀d g,Stop d g->g.status=.running):∀{n d:Nat}{g:Te},gZ P Wg Stop n d g->g.status=.running
 |0,_,_,h=>hs _ _ h
 |_+1,_,_,h=>h.elim (hs _ _) (λx=>x.1)
def Si{P:Tg}{Im:cr}{c Wg:Nat}:∀{k d:Nat}{g:Te},eI P Im c Wg k d g->g.status=.running
 |0,_,_,h=>(eI.zero P c Wg Im h).elim
 |_+1,_,_,h=>(eI.succ P c Wg Im h).2.1
def GS.runs{P:Tg}{c Wg:Nat}{Im:cr}{Ss:TB}{K:GS}{d:Nat}{g:Te}(h:K.is P c Wg Im Ss d g):
  g.status=.running\/g.status=.finished/\(∃q,K=.gone q)\/(∃j h V V' g0 v z,K=.nW j h V V' g0 v z)\/((∃n,K=.hO n)/\g.status=.blocked/\g.offers=none):=by
 cases K with
 |gone q=>exact(Za h).elim .inl (λx=> .inr (.inl ⟨x,q,rfl⟩))
 |work j h' V=>exact .inl h.2.1.running
 |nW j h' V V' g0 v z=>exact .inr (.inr (.inl ⟨j,h',V,V',g0,v,z,rfl⟩))
 |add n=>exact .inl (cS.running (λd g x=>x.2.1) h)
 |load n=>exact .inl (cS.running (λd g x=>x.2.1) h)
 |store n=>exact .inl (cS.running (λd g x=>x.2.1) h)
 |my n=>exact .inl (cS.running (λd g x=>x.2.1) h)
 |head k n=>exact .inl (cS.running (λd g x=>Si x) h)
 |mc v n=>exact .inl (cS.running (λd g x=>x.2.1) h)
 |said n=>exact .inl (gZ.running (λd g x=>x.2.1) h)
 |hO n=>
  rcases h with h|⟨_,g1,rfl,h⟩
  ·exact .inl (cS.running (λd g x=>x.2.1) h)
  ·exact .inr (.inr (.inr ⟨⟨n,rfl⟩,rfl,h.2.2.1⟩))
 |last n=>exact .inl (cS.running (λd g x=>x.2.1) h)
 |acq n=>exact .inl (gZ.running (λd g x=>x.2.1) h)
 |look n=>exact .inl (cS.running (λd g x=>x.2.1) h)
 |close n=>exact .inl (cS.running (λd g x=>x.2.1) h)
structure Rel (Wg:Nat)(t:U6)(i r:Nat):Prop where
 act:t.act? r=some (.mark (.releaseMerge (dZ Wg)))
 g:t.g? r=some i
 heard:t.heard r
def Rel.app{Wg:Nat}{t u:U6}{i r:Nat}(h:Rel Wg t i r):Rel Wg (t++u) i r:=
 have hr:=Xe h.act
 ⟨by rw[Y8 hr];exact h.act,by rw[awM hr];exact h.g,(W2 hr).2 h.heard⟩
inductive ek where
 |early
 |got
 |shut (p:Nat)
 deriving DecidableEq
def w7 (Wg:Nat)(t:U6)(K:Nat->GS)(ic:Nat):ek->Nat->Prop
 |.early,idx=>∃i,t.g? idx=some i/\0<i/\(((K i).idx.isSome=true)\/(i=ic)\/∃r,Rel Wg t i r/\idx<=r)
 |.got,idx=>W5 t ic idx
 |.shut p,idx=>Before t idx p
abbrev TJ:=Option ek
def Rest (Wg:Nat)(t:U6)(K:Nat->GS)(ic:Nat)(st:TJ):Prop:=
 ∀idx a,touchAt t idx=some a->a.loc.isMemory=true->W5 t 0 idx\/(a.kind=.atomic/\¬t.heard idx)\/∃s,st=some s/\w7 Wg t K ic s idx
abbrev SR:=Array Te
def Mode (P:Tg)(c Wg N:Nat)(w:Ul)(gs:SR)(t:U6)(K:Nat->GS)(ic:Nat)(s:ek):Prop:=
 let cn:Nat:=sumTo N λi=>(K i).cnt;let la:Nat:=sumTo N λi=>(K i).late;let opn:=∃n,w.heap[c]?=some (.chan 0 #[] false n n false)
 (opn/\s=.early/\la=0/\cn<=4/\WgAt P Wg w ((cn:Int)* KK) 0/\((∃k,(K ic).shape=.head k 0/\cn<k)\/(∃v,(K ic).shape=.mc v 0/\cn<=v/\0<v)))\/
 (opn/\s=.early/\la=0/\1<=cn/\cn<=4/\WgAt P Wg w ((cn:Int)* KK+1) 0/\((K ic).shape=.said 0\/(K ic).shape=.hO 0))\/
 (opn/\s=.early/\la=1/\cn=0/\((K ic).shape=.said 0\/(K ic).shape=.hO 0)/\(∀i,i<N->((K i).shape=.load 0\/(K i).shape=.store 0)->WgAt P Wg w 1 0)/\(∀i,i<N->(K i).shape=.my 0->WgAt P Wg w 0 0))\/
 (opn/\s=.early/\la=0/\cn=0/\WgAt P Wg w 0 1/\(∀g,gs[ic]?=some g->g.status=.running)/\((K ic).shape=.said 0\/(K ic).shape=.hO 0))\/
 (opn/\s=.early/\la=0/\cn=0/\WgAt P Wg w 0 0/\((K ic).shape=.last 0\/(K ic).shape=.acq 0))\/
 (opn/\s=.got/\la=0/\cn=0/\((K ic).shape=.look 0\/(K ic).shape=.close 0))\/
 ((∃p n,s=.shut p/\t.act? p=some (.close c)/\t.heard p/\w.heap[c]?=some (.chan 0 #[] true n n false))/\la=0/\cn=0/\(K ic).shape=.gone 0)
def ko (gs:SR)(g:Te):Prop:=∃g0,gs[0]?=some g0/\g0.status=.running/\g0.frame=g.frame/\g0.callers=g.callers/\g0.dying=g.dying
def n5 (gs:SR)(g:Te)(c:Nat):Prop:=∃g0 z,gs[0]?=some (parked g0 #[rcase c z] (.recv true))/\g0.frame=g.frame/\g0.callers=g.callers/\g0.dying=g.dying
structure Phase where
 c:Nat
 Wg:Nat
 Ss:List (List Spec)
 recv:Bool
def bD (V:View)(Im:cr)(K:Nat->GS):Nat->View:=λi=>if i=0 then V else(K i).view Im
structure Inv (P:Tg)(n0:Nat)(W0:Ul)(V:View)(gs:Array Te)(w:Ul)(t:U6)(K:Nat->GS)(Im:cr)(ic:Nat)(ph:Option Phase)(st:Option ek):Prop where
 pos:0<gs.size
 k0:K 0=.gone 0
 d0:VH t 0=V.deaf
 «is» : ∀ i g, 0 < i -> gs[i]? = some g -> match ph with
  |some p=>(K i).is P p.c p.Wg Im p.Ss (VH t i) g
  |none=>∃q,K i=.gone q/\YR P q (VH t i) g
 core:Core (bD V Im K) gs.size w t (match ph with|some p=>qP p.c p.Wg|none=>λ_=>False)
  (λi=>match ph with|some p=>if p.recv then 0<i/\i<gs.size/\((K i).idx.isSome=true\/i=ic\/(K i).cnt=1\/(K i).late=1)else i=0\/(i<gs.size/\(K i).idx.isSome=true)|none=>False) ic n0 W0
 rest:Rest (match ph with|some p=>p.Wg|none=>0) t K ic st
 phase:match ph with
  |none=>st=none
  |some p=>n0<=p.c/\n0<=p.Wg/\p.c≠p.Wg/\p.c<w.heap.size/\p.Wg<w.heap.size/\p.Ss.length<=4/\
   (∀i,0<i->((K i).view Im).own p.c=none/\(∀o,((K i).view Im).ab p.c o=none)/\((K i).view Im).own p.Wg=none/\(∀o,((K i).view Im).ab p.Wg o=none)/\((K i).nv=true->i=ic))/\
   (∀i i' j,0<i->i<gs.size->0<i'->i'<gs.size->(K i).idx=some j->(K i').idx=some j->i=i')/\
   (∀j S,p.Ss[j]?=some S->S≠[]->∃i,0<i/\i<gs.size/\(K i).idx=some j)/\
   (if p.recv then(V.own p.c=none/\(∀o,V.ab p.c o=none)/\V.own p.Wg=none/\(∀o,V.ab p.Wg o=none))/\0<ic/\ic<gs.size/\(∃s,st=some s/\Mode P p.c p.Wg gs.size w gs t K ic s)
    else V.own p.c=some (.chan 0 #[] false 0 0 false)/\ic=0/\st=some .early/\(∀i,0<i->i<gs.size->(K i).idx.isSome=true\/∃q,K i=.gone q)/\(∀S∈p.Ss,S≠[])/\(sumTo gs.size λi=>(K i).cnt)=p.Ss.length)
open Go.Conc Go.ConcN
def Bd(K:Nat->GS)(k:GS)(φ:GS->Nat){i N:Nat}(hi:i<N):sumTo N (λa=>φ (upd K i k a))+φ (K i)=sumTo N (λa=>φ (K a))+φ k:=sumTo_upd K k φ hi
def lA(K:Nat->GS)(k:GS)(φ:GS->Nat){i N:Nat}(h:φ k=φ (K i)):sumTo N (λa=>φ (upd K i k a))=sumTo N (λa=>φ (K a)):=
 VY λa _=>by by_cases ha:a=i;subst ha;rw[bu,h];rw[ba _ _ ha]
def Core.BV{VV:Nat->View}{N:Nat}{w:Ul}{t:U6}{Sh:Loc->Prop}{act act':S7}{ic n0:Nat}{W0:Ul}(h:Core VV N w t Sh act ic n0 W0)(ha:∀i,act' i->act i):Core VV N w t Sh act' ic n0 W0:=
 ⟨h.sat,h.dO,h.ti.weaken (Tm _) (λ_ _ _ x=> .inl x) (λ_ _ _ x=>x) (λidx a x y=>⟨λhp i hi=>(h.ti.sp idx a x y).1 hp i (ha i hi),(h.ti.sp idx a x y).2⟩),h.tape,h.os,h.out,h.old,h.jm,h.n0⟩
def Core.congr{VV EQ:Nat->View}{N:Nat}{w:Ul}{t:U6}{Sh:Loc->Prop}{act:S7}{ic n0:Nat}{W0:Ul}(h:Core VV N w t Sh act ic n0 W0)(e:∀i,i<N->EQ i=VV i):Core EQ N w t Sh act ic n0 W0:=
 ⟨λi hi=>by rw[e i hi];exact h.sat i hi,λi j hi hj j5=>by rw[e i hi,e j hj];exact h.dO i j hi hj j5,
  h.ti.weaken (Tm _) (λi l hi ⟨x,y,z⟩=> .inl ⟨x,by rw[<- e i hi];exact y,z⟩) (λi l hi ⟨x,y,z⟩=>⟨x,by rw[<- e i hi];exact y,z⟩) h.ti.sp,h.tape,h.os,h.out,h.old,λi hi b hb=>by rw[e i hi];exact h.jm i hi b hb,h.n0⟩
def Oj(V:View)(Im:cr)(K:Nat->GS){i:Nat}(hi:0<i)(k:GS):bD V Im (upd K i k)=upd (bD V Im K) i (k.view Im):=by
 funext j;by_cases hj:j=i
 ·subst hj;rw[bu];simp[bD,bu];omega
 ·rw[ba _ _ hj];simp[bD,ba _ _ hj]
def aaY{P:Tg}{c Wg:Nat}{Im:cr}{Ss:TB}{k:GS}{d:Nat}{x g g':Te}{w':Ul}(ho:(∃n,w'.heap[c]?=some (.chan 0 #[] false n n false))\/k.idx=none)(h:k.is P c Wg Im Ss d x):
  k.is P c Wg Im Ss d (woken P g g' w' x):=by
 rcases GS.runs h with hr|⟨hf,q,rfl⟩|⟨j,h',V,V',g0,v,z,rfl⟩|⟨⟨n,rfl⟩,hb,hof⟩
 ·rw[Ya hr];exact h
 ·rw[ah' h];exact h
 ·rcases ho with⟨n,ho⟩|ho
  ·obtain⟨h1,h2,rfl,h4⟩:=h;rw[woken_send_open _ _ ho];exact⟨h1,h2,rfl,h4⟩
  ·cases ho
 ·rcases h with h|⟨hn,g1,rfl,h⟩
  ·rw[cS.running (λd g x=>x.2.1) h]at hb;cases hb
  ·unfold woken;split
   ·subst hn;refine .inl ?_;have e:({g1 with status:=awB}:Te).again w'=g1:=by
     obtain⟨f,cs,s,dy,o⟩:=g1;have h2:=h.2.1;have h3:=h.2.2.1;simp only at h2 h3;subst h2 h3;rfl
    rw[e];exact h
   ·exact .inr ⟨hn,g1,rfl,h⟩
def M6{P:Tg}{gs:SR}{g:Te}{w':Ul}{i:Nat}{gi bz:Te}(hi:0<i)(h:ko gs g):ko ((gs.map (woken P gi bz w')).setIfInBounds i bz) g:=by
 obtain⟨g0,h0,h1,h2⟩:=h;exact⟨g0,by rw[Tq (by omega),XA,h0];simp[Ya h1],h1,h2⟩
def No{P:Tg}{gs:SR}{g:Te}{w':Ul}{i c:Nat}{gi bz:Te}(hi:0<i)(h:n5 gs g c)(ho:∃n,w'.heap[c]?=some (.chan 0 #[] false n n false)):n5 ((gs.map (woken P gi bz w')).setIfInBounds i bz) g c:=by
 obtain⟨g0,z,h0,h2⟩:=h;obtain⟨n,ho⟩:=ho;exact⟨g0,z,by rw[Tq (by omega),XA,h0];simp[woken_recv_open _ _ ho],h2⟩
def aph{P:Tg}{gs:SR}{g:Te}{w':Ul}{i c:Nat}{gi bz:Te}(hi:0<i)(h:n5 gs g c)(hw:mayWake P gi=true)(hs:bz.status=.running\/bz.status=.finished)(ho:∃n,w'.heap[c]?=some (.chan 0 #[] true n n false)):
  ko ((gs.map (woken P gi bz w')).setIfInBounds i bz) g:=by
 obtain⟨g0,z,h0,h2⟩:=h;obtain⟨n,ho⟩:=ho;refine⟨{parked g0 #[rcase c z] (.recv true)with status:=.running},?_,rfl,h2⟩;rw[Tq (by omega),XA,h0];have:woken P gi bz w' (parked g0 #[rcase c z] (.recv true))={parked g0 #[rcase c z] (.recv true)with status:=.running}:=by
  unfold woken;have hc:(mayWake P gi&&bz.status != .blocked&&bz.status != .waiting)=true:=by rcases hs with hs|hs<;>simp[hw,hs]
  rw[if_pos hc,again_recv_closed ho]
 simp[this]
def za (w:Ul)(c:Nat):Prop:=∃n,w.heap[c]?=some (.chan 0 #[] false n n false)
def IS (gs gs':SR)(w w':Ul)(g:Te)(c:Nat):Prop:=(ko gs g->ko gs' g)/\(n5 gs g c->za w c->ko gs' g\/(n5 gs' g c/\za w' c))
def Calm (gs:SR):Prop:=∀i x,0<i->gs[i]?=some x->x.status=.blocked->x.offers=none
def flag (gs:SR)(ic:Nat):Nat:=if(gs[ic]?).any (·.status== .running)then 1 else 0
def iZ (p:Phase)(N ic:Nat)(K:Nat->GS)(i:Nat):Prop:=if p.recv then 0<i/\i<N/\((K i).idx.isSome=true\/i=ic\/(K i).cnt=1\/(K i).late=1)else i=0\/(i<N/\(K i).idx.isSome=true)
section
abbrev TC:=Option Phase
variable {P:Tg}{n0:Nat}{W0:Ul}{V:View}{gs:SR}{w:Ul}{t:U6}{K:Nat->GS}{Im:cr}{ic:Nat}{ph:TC}{st:TJ}
structure gH (P:Tg)(n0:Nat)(W0:Ul)(V:View)(gs:Array Te)(w:Ul)(sl:Option (Nat×Nat))(t:U6)(K:Nat->GS)(Im:cr)(ic:Nat)(ph:Option Phase)(st:Option ek)(i:Nat):Prop where
 intro::
 avp:∃gs' w' ops K' st',runT P (crowd gs w sl) i=(.next (crowd gs' w' sl),ops)/\gs'.size=gs.size/\Inv P n0 W0 V gs' w' (t++ops) K' Im ic ph st'/\(∀g c,(∀p,ph=some p->p.c=c)->IS gs gs' w w' g c)/\(∀g c,n5 gs g c->Calm gs->Calm gs')/\
  BC gs.size ((λj=>(K' j).c9),flag gs' ic) ((λj=>(K j).c9),flag gs ic)
def getElem?_next{gi bz:Te}{w':Ul}{i j:Nat}{x:Te}(hlt:i<gs.size)(h:((gs.map (woken P gi bz w')).setIfInBounds i bz)[j]?=some x):(j=i/\x=bz)\/(j≠i/\∃y,gs[j]?=some y/\x=woken P gi bz w' y):=by
 by_cases cy:j=i
 ·subst cy;rw[T8 (by simpa using hlt)]at h;exact .inl ⟨rfl,(Wq h).symm⟩
 ·rw[Tq (Ne.symm cy),XA]at h;obtain⟨y,hy,rfl⟩:=Uq.1 h;exact .inr ⟨cy,y,hy,rfl⟩
def Rest.app{Wg:Nat}{t u:U6}{K K':Nat->GS}{ic:Nat}{s s':ek}(h:Rest Wg t K ic (some s))(hold:∀idx a,touchAt t idx=some a->w7 Wg t K ic s idx->W5 (t++u) 0 idx\/w7 Wg (t++u) K' ic s' idx)
  (ww:∀idx a,t.size<=idx->(∃op∈u,(t++u)[idx]?=some op/\op.act.touch?=some a)->a.loc.isMemory=true->W5 (t++u) 0 idx\/(a.kind=.atomic/\¬(t++u).heard idx)\/w7 Wg (t++u) K' ic s' idx):Rest Wg (t++u) K' ic (some s'):=by
 intro idx a ha hm;rcases Be ha with gq|⟨hi,hx⟩
 ·obtain⟨op,az,_⟩:=VG gq;rcases h idx a gq hm with x|⟨x,y⟩|⟨s1,dA,x⟩
  ·exact .inl (x.app u)
  ·exact .inr (.inl ⟨x,λz=>y ((W2 (Uz az)).1 z)⟩)
  ·cases dA;exact(hold idx a gq x).imp id λy=> .inr ⟨s',rfl,y⟩
 ·exact(ww idx a hi hx hm).imp id (λy=>y.imp id λz=>⟨s',rfl,z⟩)
def w7.app{Wg:Nat}{t u:U6}{K K':Nat->GS}{ic idx:Nat}{s:ek}(cZ:idx<t.size)(h:w7 Wg t K ic s idx)(hK:∀i,t.g? idx=some i->0<i->(K i).idx.isSome=true->(K' i).idx.isSome=true\/∃r,Rel Wg (t++u) i r/\idx<=r):w7 Wg (t++u) K' ic s idx:=by
 cases s with
 |early=>
  obtain⟨i,hg,h0,hx⟩:=h;refine⟨i,by rw[awM cZ];exact hg,h0,?_⟩;rcases hx with x|x|⟨r,x,y⟩
  ·exact(hK i hg h0 x).imp id .inr
  ·exact .inr (.inl x)
  ·exact .inr (.inr ⟨r,x.app,y⟩)
 |got=>exact av1 u h
 |shut p=>exact Before.app u h
end
open Go.Conc Go.ConcN
def rW (ph:TC):Loc->Prop:=match ph with|some p=>qP p.c p.Wg|none=>λ_=>False
def ni (ph:TC)(N ic:Nat)(K:Nat->GS):Nat->Prop:=λi=>match ph with|some p=>iZ p N ic K i|none=>False
def Bl (ph:TC):Nat:=match ph with|some p=>p.Wg|none=>0
section
abbrev S8:=Option (Nat×Nat)
variable {P:Tg}{n0:Nat}{W0:Ul}{V:View}{gs:SR}{w w':Ul}{sl:S8}{t:U6}{K:Nat->GS}{Im:cr}{ic:Nat}{ph:TC}{st st':TJ}
def zb (P:Tg)(n0:Nat)(V:View)(gs:SR)(w:Ul)(t:U6)(K:Nat->GS)(Im:cr)(ic:Nat)(ph:TC)(st:TJ):Prop:=match ph with
  |none=>st=none
  |some p=>n0<=p.c/\n0<=p.Wg/\p.c≠p.Wg/\p.c<w.heap.size/\p.Wg<w.heap.size/\p.Ss.length<=4/\
   (∀i,0<i->((K i).view Im).own p.c=none/\(∀o,((K i).view Im).ab p.c o=none)/\((K i).view Im).own p.Wg=none/\(∀o,((K i).view Im).ab p.Wg o=none)/\((K i).nv=true->i=ic))/\
   (∀i i' j,0<i->i<gs.size->0<i'->i'<gs.size->(K i).idx=some j->(K i').idx=some j->i=i')/\
   (∀j S,p.Ss[j]?=some S->S≠[]->∃i,0<i/\i<gs.size/\(K i).idx=some j)/\
   (if p.recv then(V.own p.c=none/\(∀o,V.ab p.c o=none)/\V.own p.Wg=none/\(∀o,V.ab p.Wg o=none))/\0<ic/\ic<gs.size/\(∃s,st=some s/\Mode P p.c p.Wg gs.size w gs t K ic s)
    else V.own p.c=some (.chan 0 #[] false 0 0 false)/\ic=0/\st=some .early/\(∀i,0<i->i<gs.size->(K i).idx.isSome=true\/∃q,K i=.gone q)/\(∀S∈p.Ss,S≠[])/\(sumTo gs.size λi=>(K i).cnt)=p.Ss.length)
def Bw (P:Tg)(Im:cr)(ph:TC)(k:GS)(d:Nat)(g:Te):Prop:=match ph with
  |some p=>k.is P p.c p.Wg Im p.Ss d g
  |none=>∃q,k=.gone q/\YR P q d g
def Inv.mk'(pos:0<gs.size)(k0:K 0=.gone 0)(d0:VH t 0=V.deaf)(dc:∀i g,0<i->gs[i]?=some g->Bw P Im ph (K i) (VH t i) g)
  (hc:Core (bD V Im K) gs.size w t (rW ph) (ni ph gs.size ic K) ic n0 W0) (hr:Rest (Bl ph) t K ic st) (hp:zb P n0 V gs w t K Im ic ph st):Inv P n0 W0 V gs w t K Im ic ph st:=by
 cases ph with
 |none=>exact⟨pos,k0,d0,dc,hc,hr,hp⟩
 |some p=>exact⟨pos,k0,d0,dc,hc,hr,hp⟩
def Inv.out(h:Inv P n0 W0 V gs w t K Im ic ph st):(∀i g,0<i->gs[i]?=some g->Bw P Im ph (K i) (VH t i) g)/\Core (bD V Im K) gs.size w t (rW ph) (ni ph gs.size ic K) ic n0 W0/\Rest (Bl ph) t K ic st/\zb P n0 V gs w t K Im ic ph st:=by
 cases ph with
 |none=>exact⟨h.is,h.core,h.rest,h.phase⟩
 |some p=>exact⟨h.is,h.core,h.rest,h.phase⟩
def agY{y:Te}(hy:y.status=.blocked->y.offers=none):(y.again w').status=.blocked->(y.again w').offers=none:=by
 obtain⟨f,cs,s,d,o⟩:=y;unfold ZV;cases s<;>cases o<;>simp_all
def agZ{g g' y:Te}(hy:y.status=.blocked->y.offers=none)(hb:(woken P g g' w' y).status=.blocked):(woken P g g' w' y).offers=none:=by
 unfold woken at hb⊢;split
 ·rename_i hh;rw[if_pos hh]at hb;exact agY hy hb
 ·rename_i hh;rw[if_neg hh]at hb;exact hy hb
def Inv.abL(h:Inv P n0 W0 V gs w t K Im ic ph st){i:Nat}{gi bz:Te}{es:SO}{k':GS}(hi:0<i)(aN:gs[i]?=some gi)(aT:stepG P false gi w=.go bz w' es)
  (hk:Bw P Im ph k' (deafBehind (VH t i) es) bz) (sR:bz.status=.blocked->bz.offers=none) (gK:∀p,ph=some p->(∃n,w'.heap[p.c]?=some (.chan 0 #[] false n n false))\/(∀j,0<j->j<gs.size->j≠i->(K j).idx=none))
  (xU:Core (bD V Im (upd K i k')) gs.size w' (t++Ua i gi.frame.fn gi.frame.place es) (rW ph) (ni ph gs.size ic (upd K i k')) ic n0 W0)
  (kE:Rest (Bl ph) (t++Ua i gi.frame.fn gi.frame.place es) (upd K i k') ic st')
  (Da:zb P n0 V ((gs.map (woken P gi bz w')).setIfInBounds i bz) w' (t++Ua i gi.frame.fn gi.frame.place es) (upd K i k') Im ic ph st')
  (jA:BC gs.size ((λj=>(upd K i k' j).c9),flag ((gs.map (woken P gi bz w')).setIfInBounds i bz) ic) ((λj=>(K j).c9),flag gs ic))
  (pi:∀g c,(∀p,ph=some p->p.c=c)->IS gs ((gs.map (woken P gi bz w')).setIfInBounds i bz) w w' g c):gH P n0 W0 V gs w sl t K Im ic ph st i:=by
 have hlt:i<gs.size:=(Tl.1 aN).1;have eR:(i==0)=false:=by simp;omega
 have aX:((gs.map (woken P gi bz w')).setIfInBounds i bz).size=gs.size:=by simp
 have Di:∀op∈Ua i gi.frame.fn gi.frame.place es,op.g=i:=λop az=>by obtain⟨e,_,rfl⟩:=UD az;rfl
 refine⟨_,w',_,upd K i k',st',awi (P:=P) (sl:=sl) aN (by rw[eR];exact aT),aX,?_,pi,?_,jA⟩
 rotate_left
 ·intro g c _ hc j x hj hx hb;rcases getElem?_next hlt hx with⟨_,rfl⟩|⟨_,y,hy,rfl⟩
  ·exact sR hb
  ·exact agZ (hc j y hj hy) hb
 refine Inv.mk' (by rw[aX];exact h.pos) (by rw[ba _ _ (by omega)];exact h.k0) ?_ (λj x hj hx=> ?_) (by rw[aX];exact xU) kE Da
 ·rw[ZM t (g:=0) (g':=i) (by omega) _ Di];exact h.d0
 ·rcases getElem?_next hlt hx with⟨rfl,rfl⟩|⟨cy,y,hy,rfl⟩
  ·rw[bu,Deaf_own];exact hk
  ·rw[ba _ _ cy,ZM t (g:=j) (g':=i) (Ne.symm cy) _ Di];have Dp:=h.out.1 j y hj hy;have Lr:j<gs.size:=(Tl.1 hy).1;cases ph with
   |none=>
    obtain⟨q,hq,pw⟩:=Dp;exact⟨q,hq,by rw[ah' pw];exact pw⟩
   |some p=>
    refine aaY ?_ Dp;rcases gK p rfl with x|x
    ·exact .inl x
    ·exact .inr (x j hj Lr cy)
def Inv.next(h:Inv P n0 W0 V gs w t K Im ic ph st){i:Nat}{gi bz:Te}{es:SO}{k':GS}(hi:0<i)(aN:gs[i]?=some gi)(aT:stepG P false gi w=.go bz w' es)
  (hk:Bw P Im ph k' (deafBehind (VH t i) es) bz) (sR:bz.status=.blocked->bz.offers=none) (gK:∀p,ph=some p->(∃n,w'.heap[p.c]?=some (.chan 0 #[] false n n false))\/(∀j,0<j->j<gs.size->j≠i->(K j).idx=none))
  (xU:Core (bD V Im (upd K i k')) gs.size w' (t++Ua i gi.frame.fn gi.frame.place es) (rW ph) (ni ph gs.size ic (upd K i k')) ic n0 W0)
  (kE:Rest (Bl ph) (t++Ua i gi.frame.fn gi.frame.place es) (upd K i k') ic st')
  (Da:zb P n0 V ((gs.map (woken P gi bz w')).setIfInBounds i bz) w' (t++Ua i gi.frame.fn gi.frame.place es) (upd K i k') Im ic ph st')
  (uL:qO k'.c9 (K i).c9)
  (pi:∀g c,(∀p,ph=some p->p.c=c)->IS gs ((gs.map (woken P gi bz w')).setIfInBounds i bz) w w' g c):gH P n0 W0 V gs w sl t K Im ic ph st i:=
 h.abL hi aN aT hk sR gK xU kE Da (.inl ⟨i,(Tl.1 aN).1,by simpa only[bu]using uL,λj hj=>by show (upd K i k' j).c9=(K j).c9;rw[ba _ _ hj]⟩) pi
def aos{B:Nat}{e:WV}(h:e.mute=true):(Up e).touch?=none/\(Up e).low B/\∀a,Up e≠ .mark (.release a):=by
 refine⟨avw h,low_mute h B,λa=> ?_⟩;obtain⟨l,wr,sy⟩:=e;cases l with
 |mark m=>cases m<;>cases wr<;>cases sy<;>simp_all[Up,Xi]
 |_=>simp[Xi]at h
def Mode.keep{c Wg N:Nat}{gs':SR}{u:U6}{K':Nat->GS}{s:ek}(h:Mode P c Wg N w gs t K ic s)(hs:∀j,(K' j).shape=(K j).shape)(hc:w'.heap[c]?=w.heap[c]?)(hW:w'.heap[Wg]?=w.heap[Wg]?)
  (hr:(∀g,gs[ic]?=some g->g.status=.running)->∀g,gs'[ic]?=some g->g.status=.running):Mode P c Wg N w' gs' (t++u) K' ic s:=by
 have e1:sumTo N (λi=>(K' i).cnt)=sumTo N λi=>(K i).cnt:=VY λi _=>by rw[<- GS.nw,hs i,GS.nw]
 have e2:sumTo N (λi=>(K' i).late)=sumTo N λi=>(K i).late:=VY λi _=>by rw[<- GS.mu,hs i,GS.mu]
 have e3:∀st sm,WgAt P Wg w' st sm=WgAt P Wg w st sm:=λst sm=>by unfold WgAt;rw[hW]
 unfold Mode at h⊢;simp only[e1,e2,e3,hs,hc];rcases h with h|h|h|h|h|h|h
 ·exact .inl h
 ·exact .inr (.inl h)
 ·exact .inr (.inr (.inl h))
 ·exact .inr (.inr (.inr (.inl ⟨h.1,h.2.1,h.2.2.1,h.2.2.2.1,h.2.2.2.2.1,hr h.2.2.2.2.2.1,h.2.2.2.2.2.2⟩)))
 ·exact .inr (.inr (.inr (.inr (.inl h))))
 ·exact .inr (.inr (.inr (.inr (.inr (.inl h)))))
 ·obtain⟨⟨p,n,a,b,c',d⟩,e⟩:=h;exact .inr (.inr (.inr (.inr (.inr (.inr ⟨⟨p,n,a,by rw[Y8 (Xe b)];exact b,(W2 (Xe b)).2 c',d⟩,e⟩)))))
def acJ{i:Nat}{gi bz:Te}(hlt:i<gs.size)(hg:bz.status=.running)(h:∀g,gs[ic]?=some g->g.status=.running):∀g,((gs.map (woken P gi bz w')).setIfInBounds i bz)[ic]?=some g->g.status=.running:=by
 intro g K8;rcases getElem?_next hlt K8 with⟨_,rfl⟩|⟨_,y,hy,rfl⟩
 ·exact hg
 ·rw[Ya (h y hy)];exact h y hy
def GS.aaT{k:GS}(h:k.cnt=0):k.idx=none:=by
 cases k<;>first|rfl|(simp[GS.cnt]at h)
def Inv.opens(h:Inv P n0 W0 V gs w t K Im ic ph st){p:Phase}(hp:ph=some p):(∃n,w.heap[p.c]?=some (.chan 0 #[] false n n false))\/((∀j,0<j->j<gs.size->(K j).idx=none)/\(∃n,w.heap[p.c]?=some (.chan 0 #[] true n n false))/\p.recv=true):=by
 subst hp;obtain⟨_,hc,_,gL⟩:=h.out;obtain⟨_,_,_,_,_,_,_,_,_,hx⟩:=gL;by_cases hr:p.recv=true
 ·rw[if_pos hr]at hx;obtain⟨_,_,_,s,_,hm⟩:=hx;rcases hm with h|h|h|h|h|h|h
  ·exact .inl h.1
  ·exact .inl h.1
  ·exact .inl h.1
  ·exact .inl h.1
  ·exact .inl h.1
  ·exact .inl h.1
  ·obtain⟨⟨_,n,_,_,_,hn⟩,_,ez,_⟩:=h;refine .inr ⟨λj hj gS=> ?_,⟨n,hn⟩,hr⟩;have hle:(K j).cnt<=sumTo gs.size λi=>(K i).cnt:=W_ (f:=λi=>(K i).cnt) gS;exact GS.aaT (by omega)
 ·rw[if_neg hr]at hx;have:=(hc.sat 0 h.pos).own p.c _ (by simp only[bD,if_true];exact hx.1);exact .inl ⟨0,this⟩
def Inv.slip(h:Inv P n0 W0 V gs w t K Im ic ph st){i:Nat}{gi bz:Te}{es:SO}{k':GS}(hi:0<i)(aN:gs[i]?=some gi)(aT:stepG P false gi w=.go bz w es)(jA:∀e∈es,e.mute=true)
  (hk:Bw P Im ph k' (deafBehind (VH t i) es) bz) (sR:bz.status=.blocked->bz.offers=none) (dT:k'.shape=(K i).shape) (mo:k'.view Im=(K i).view Im) (bK:(K i).shape=.hO 0\/(K i).shape=.said 0->bz.status=.running) (uL:qO k'.c9 (K i).c9):gH P n0 W0 V gs w sl t K Im ic ph st i:=by
 have hlt:i<gs.size:=(Tl.1 aN).1;obtain⟨_,hc,hr,hp⟩:=h.out;have cZ:∀j,((upd K i k') j).idx=(K j).idx:=λj=>by
  by_cases hj:j=i
  ·subst hj;rw[bu,<- GS.G2,dT,GS.G2]
  ·rw[ba _ _ hj]
 have lN:∀j,((upd K i k') j).shape=(K j).shape:=λj=>by
  by_cases hj:j=i
  ·subst hj;rw[bu,dT]
  ·rw[ba _ _ hj]
 have aaQ:∀j,((upd K i k') j).view Im=(K j).view Im:=λj=>by
  by_cases hj:j=i
  ·subst hj;rw[bu,mo]
  ·rw[ba _ _ hj]
 have o5:∀j,((upd K i k') j).cnt=(K j).cnt:=λj=>by rw[<- GS.nw,lN,GS.nw]
 have wu:∀j,((upd K i k') j).late=(K j).late:=λj=>by rw[<- GS.mu,lN,GS.mu]
 refine h.next (st':=st) hi aN aT hk sR (λp Am=>(h.opens Am).imp id λx j a b _=>x.1 j a b) ?_ ?_ ?_ uL ?_
 ·refine((hc.quiet hlt (λe he=>aos (jA e he)) gi.frame.fn gi.frame.place).congr λj hj=> ?_).BV λj hj=> ?_
  ·simp only[bD,aaQ]
  ·cases ph with
   |none=>exact hj
   |some p=>simpa only[ni,iZ,cZ,o5,wu]using hj
 ·cases st with
  |none=>
   intro idx a ha hm;have gq:=Bg (λop az=>by obtain⟨e,he,rfl⟩:=UD az;exact avw (jA e he)) ha;obtain⟨op,az,_⟩:=VG gq;rcases hr idx a gq hm with x|⟨x,y⟩|⟨_,z,_⟩
   ·exact .inl (x.app _)
   ·exact .inr (.inl ⟨x,λz=>y ((W2 (Uz az)).1 z)⟩)
   ·cases z
  |some s=>
   refine hr.app (λidx a ha hx=> .inr (hx.app (by obtain⟨op,az,_⟩:=VG ha;exact Uz az) λj _ _ hj=> .inl (by rw[cZ];exact hj))) (λidx a _ ⟨op,az,_,hx⟩ _=> ?_);obtain⟨e,he,rfl⟩:=UD az;rw[avw (jA e he)]at hx;cases hx
 ·cases ph with
  |none=>exact hp
  |some p=>
   obtain⟨a1,a2,a3,a4,a5,a6,a7,a8,a9,bW⟩:=hp;refine⟨a1,a2,a3,a4,a5,a6,λj hj=>by rw[aaQ,<- GS.PT,lN,GS.PT];exact a7 j hj,λj j' m b1 b2 b3 b4 b5 b6=>a8 j j' m b1 (by simpa using b2) b3 (by simpa using b4) (by rw[<- cZ];exact b5) (by rw[<- cZ];exact b6),λj S b1 b2=> ?_,?_⟩
   ·obtain⟨m,c1,c2,c3⟩:=a9 j S b1 b2;exact⟨m,c1,by simpa using c2,by rw[cZ];exact c3⟩
   ·split
    ·rename_i aJ;rw[if_pos aJ]at bW;obtain⟨c1,c2,c3,s,c4,c5⟩:=bW;refine⟨c1,c2,by simpa using c3,s,c4,?_⟩;have aX:((gs.map (woken P gi bz w)).setIfInBounds i bz).size=gs.size:=(by simp);rw[aX];by_cases fX:i=ic/\bz.status≠ .running
     ·
      obtain⟨rfl,rA⟩:=fX;unfold Mode at c5⊢;have e1:sumTo gs.size (λj=>((upd K i k') j).cnt)=sumTo gs.size λj=>(K j).cnt:=VY λj _=>o5 j;have e2:sumTo gs.size (λj=>((upd K i k') j).late)=sumTo gs.size λj=>(K j).late:=VY λj _=>wu j;simp only[e1,e2,lN];rcases c5 with h|h|h|h|h|h|h
      ·exact .inl h
      ·exact .inr (.inl h)
      ·exact .inr (.inr (.inl h))
      ·exact absurd (bK h.2.2.2.2.2.2.symm) rA
      ·exact .inr (.inr (.inr (.inr (.inl h))))
      ·exact .inr (.inr (.inr (.inr (.inr (.inl h)))))
      ·obtain⟨⟨p,n,a,b,c',d⟩,e⟩:=h;exact .inr (.inr (.inr (.inr (.inr (.inr ⟨⟨p,n,a,by rw[Y8 (Xe b)];exact b,(W2 (Xe b)).2 c',d⟩,e⟩)))))
     ·refine c5.keep lN rfl rfl λrD g hg=> ?_;rcases getElem?_next hlt hg with⟨rfl,rfl⟩|⟨_,y,hy,rfl⟩
      ·exact Uj λx=>fX ⟨rfl,x⟩
      ·rw[Ya (rD y hy)];exact rD y hy
    ·rename_i aJ;rw[if_neg aJ]at bW;refine⟨bW.1,bW.2.1,bW.2.2.1,λj b1 b2=> ?_,bW.2.2.2.2.1,?_⟩
     rotate_left
     ·rw[show ((gs.map (woken P gi bz w)).setIfInBounds i bz).size=gs.size by simp,VY λj _=>o5 j];exact bW.2.2.2.2.2
     rcases bW.2.2.2.1 j b1 (by simpa using b2)with x|⟨q,x⟩
     ·exact .inl (by rw[cZ];exact x)
     ·by_cases hj:j=i
      ·subst hj;rw[bu];rw[x]at dT;cases k'<;>simp[GS.shape]at dT;exact .inr ⟨_,rfl⟩
      ·rw[ba _ _ hj];exact .inr ⟨q,x⟩
 ·intro g c _;exact⟨M6 hi,λjh ho=> .inr ⟨No hi jh ho,ho⟩⟩
end
open Go.Conc Go.ConcN
section
variable {P:Tg}{n0:Nat}{W0:Ul}{V:View}{gs:SR}{w w':Ul}{sl:S8}{t:U6}{K:Nat->GS}{Im:cr}{ic:Nat}{p:Phase}{st st':TJ}
def jq (p:Phase)(U:View):Prop:=U.own p.c=none/\(∀o,U.ab p.c o=none)/\U.own p.Wg=none/\(∀o,U.ab p.Wg o=none)
def jq.step{U U':View}{es:SO}(b:jq p U)(s:da U w U' w' es)(hc:p.c<w.heap.size)(hW:p.Wg<w.heap.size):jq p U':=by
 have key:∀b,b<w.heap.size->U.own b=none->(∀o,U.ab b o=none)->U'.own b=none/\∀o,U'.ab b o=none:=by
  intro b hb ho hi;refine⟨s.own b hb ho,λo=> ?_⟩;cases e:U'.ab b o with
  |none=>rfl
  |some v=>
   rcases s.kH b o v e with x|x|x
   ·rw[hi o]at x;cases x
   ·exact absurd ho x
   ·omega
 have k1:=key p.c hc b.1 b.2.1;have k2:=key p.Wg hW b.2.2.1 b.2.2.2;exact⟨k1.1,k1.2,k2.1,k2.2⟩
def jq.AL{U:View}(b:jq p U){l:Loc}(h:gP U l):¬qP p.c p.Wg l:=by
 intro hs;cases l with
 |cell a=>
  have e:a.block=p.Wg:=hs;rcases h with h|h
  ·exact h (by rw[e];exact b.2.2.1)
  ·exact h (by rw[e];exact b.2.2.2 _)
 |obj r=>have e:r=p.c:=hs;exact h (by rw[e];exact b.1)
 |_=>exact hs
def jq.ghost{U U':View}(b:jq p U)(g:d_ U U'):jq p U':=by
 have key:∀b,U.own b=none->(∀o,U.ab b o=none)->U'.own b=none/\∀o,U'.ab b o=none:=by
  intro b ho hi;refine⟨g.own b ho,λo=> ?_⟩;cases e:U'.ab b o with
  |none=>rfl
  |some v=>
   rcases g.kH b o v e with x|x
   ·rw[hi o]at x;cases x
   ·exact absurd ho x
 have k1:=key p.c b.1 b.2.1;have k2:=key p.Wg b.2.2.1 b.2.2.2;exact⟨k1.1,k1.2,k2.1,k2.2⟩
def agF:jq p noView:=⟨rfl,λ_=>rfl,rfl,λ_=>rfl⟩
def Inv.blind(h:Inv P n0 W0 V gs w t K Im ic (some p) st){i:Nat}(hi:0<i):jq p ((K i).view Im):=let x:=h.phase.2.2.2.2.2.2.1 i hi;⟨x.1,x.2.1,x.2.2.1,x.2.2.2.1⟩
def Inv.rY(h:Inv P n0 W0 V gs w t K Im ic (some p) st){i:Nat}(hi:0<i)(hc:(K i).nv=true):i=ic:=(h.phase.2.2.2.2.2.2.1 i hi).2.2.2.2 hc
def Inv.low(h:Inv P n0 W0 V gs w t K Im ic (some p) st):p.c<w.heap.size/\p.Wg<w.heap.size:=⟨h.phase.2.2.2.1,h.phase.2.2.2.2.1⟩
def ac9(hc:p.c<w.heap.size)(hW:p.Wg<w.heap.size){l:Loc}(h:qP p.c p.Wg l):l.low w.heap.size:=by
 cases l with
 |cell a=>show a.block<_;rw[show a.block=p.Wg from h];exact hW
 |obj r=>show r<_;rw[show r=p.c from h];exact hc
 |_=>exact h.elim
def Inv.ahg(h:Inv P n0 W0 V gs w t K Im ic (some p) st)(hr:p.recv=true){i:Nat}(hlt:i<gs.size)(hk:(K i).cnt=1):∃s,WgAt P p.Wg w s 0:=by
 obtain⟨_,_,_,_,_,_,_,_,_,hx⟩:=h.phase;rw[if_pos hr]at hx;obtain⟨_,_,_,s,hs,hm⟩:=hx;have hle:(K i).cnt<=sumTo gs.size λi=>(K i).cnt:=W_ (f:=λi=>(K i).cnt) hlt;rcases hm with h|h|h|h|h|h|h
 ·exact⟨_,h.2.2.2.2.1⟩
 ·exact⟨_,h.2.2.2.2.2.1⟩
 ·have:=h.2.2.2.1;omega
 ·have:=h.2.2.2.1;omega
 ·have:=h.2.2.2.1;omega
 ·have:=h.2.2.2.1;omega
 ·have:=h.2.2.1;omega
def Inv.O1(h:Inv P n0 W0 V gs w t K Im ic (some p) st)(hr:p.recv=true){n:Nat}(hk:K ic=.acq n\/K ic=.said n):∃x y,WgAt P p.Wg w x y:=by
 obtain⟨_,_,_,_,_,_,_,_,_,hx⟩:=h.phase;rw[if_pos hr]at hx;obtain⟨_,_,_,s,hs,hm⟩:=hx;unfold Mode at hm;rcases hm with h|h|h|h|h|h|h
 ·exact⟨_,_,h.2.2.2.2.1⟩
 ·exact⟨_,_,h.2.2.2.2.2.1⟩
 ·have key:∀N,0<(sumTo N λi=>(K i).late)->∃i,i<N/\(K i).late≠0:=by
   intro N;induction N with
   |zero=>intro h;exact absurd h (by simp[sumTo])
   |succ N ih=>
    intro h;by_cases h0:(K N).late=0
    ·simp only[sumTo,h0]at h;obtain⟨i,hi,hl⟩:=ih (by omega);exact⟨i,by omega,hl⟩
    ·exact⟨N,by omega,h0⟩
  have:=key gs.size (by have:=h.2.2.1;omega);obtain⟨i,hi,hl⟩:=this;cases kX:K i<;>rw[kX]at hl<;>first
   |exact⟨_,_,h.2.2.2.2.2.1 i hi (by rw[kX];exact .inl rfl)⟩
   |exact⟨_,_,h.2.2.2.2.2.1 i hi (by rw[kX];exact .inr rfl)⟩
   |exact⟨_,_,h.2.2.2.2.2.2 i hi (by rw[kX];rfl)⟩
   |exact absurd rfl hl
 ·exact⟨_,_,h.2.2.2.2.1⟩
 ·exact⟨_,_,h.2.2.2.2.1⟩
 ·exfalso;rcases hk with hk|hk<;>rw[hk]at h<;>rcases h.2.2.2.2 with h|h<;>cases h
 ·exfalso;rcases hk with hk|hk<;>rw[hk]at h<;>cases h.2.2.2
def Inv.counted(h:Inv P n0 W0 V gs w t K Im ic (some p) st){i:Nat}(_hi:0<i)(hlt:i<gs.size)(hk:(K i).cnt=1):(∃n,w.heap[p.c]?=some (.chan 0 #[] false n n false))/\st=some .early:=by
 have gL:=h.phase;obtain⟨_,_,_,_,_,_,_,_,_,hx⟩:=gL;by_cases hr:p.recv=true
 ·rw[if_pos hr]at hx;obtain⟨_,_,_,s,hs,hm⟩:=hx;have hle:(K i).cnt<=sumTo gs.size λi=>(K i).cnt:=W_ (f:=λi=>(K i).cnt) hlt;rcases hm with h|h|h|h|h|h|h
  ·exact⟨h.1,by rw[hs,h.2.1]⟩
  ·exact⟨h.1,by rw[hs,h.2.1]⟩
  ·exact⟨h.1,by rw[hs,h.2.1]⟩
  ·exact⟨h.1,by rw[hs,h.2.1]⟩
  ·exact⟨h.1,by rw[hs,h.2.1]⟩
  ·have:=h.2.2.2.1;omega
  ·have:=h.2.2.1;omega
 ·rw[if_neg hr]at hx;have:=(h.core.sat 0 h.pos).own p.c _ (by simp only[bD,if_true];exact hx.1);exact⟨⟨0,this⟩,hx.2.2.1⟩
def Inv.Nq(h:Inv P n0 W0 V gs w t K Im ic (some p) st){i:Nat}{k':GS}{gs':SR}{t':U6}(aX:gs'.size=gs.size)(iQ:w.heap.size<=w'.heap.size)(hb:jq p (k'.view Im))(xS:k'.nv=true->i=ic)
  (cZ:k'.idx=(K i).idx\/(k'.idx=none/\∀j,(K i).idx=some j->p.Ss[j]?=some []))
  (ee:if p.recv then∃s,st'=some s/\Mode P p.c p.Wg gs.size w' gs' t' (upd K i k') ic s
    else st'=some .early/\k'.idx.isSome=true/\k'.cnt=(K i).cnt):zb P n0 V gs' w' t' (upd K i k') Im ic (some p) st':=by
 obtain⟨a1,a2,a3,a4,a5,a6,a7,a8,a9,bW⟩:=h.phase;have jz:∀j m,((upd K i k') j).idx=some m->(K j).idx=some m:=by
  intro j m hj;by_cases cy:j=i
  ·subst cy;rw[bu]at hj;rcases cZ with x|⟨x,_⟩
   ·rw[<- x];exact hj
   ·rw[x]at hj;cases hj
  ·rw[ba _ _ cy]at hj;exact hj
 refine⟨a1,a2,a3,Ub a4 iQ,Ub a5 iQ,a6,λj hj=> ?_,λj j' m b1 b2 b3 b4 b5 b6=>a8 j j' m b1 (aX▸b2) b3 (aX▸b4) (jz _ _ b5) (jz _ _ b6),λj S b1 b2=> ?_,?_⟩
 ·by_cases cy:j=i
  ·subst cy;rw[bu];exact⟨hb.1,hb.2.1,hb.2.2.1,hb.2.2.2,xS⟩
  ·rw[ba _ _ cy];exact a7 j hj
 ·obtain⟨m,c1,c2,c3⟩:=a9 j S b1 b2;refine⟨m,c1,by rw[aX];exact c2,?_⟩;by_cases cV:m=i
  ·subst cV;rw[bu];rcases cZ with x|⟨_,x⟩
   ·rw[x];exact c3
   ·have:=x j c3;rw[this]at b1;cases b1;exact absurd rfl b2
  ·rw[ba _ _ cV];exact c3
 ·split
  ·rename_i aJ;rw[if_pos aJ]at bW ee;obtain⟨c1,c2,c3,_⟩:=bW;exact⟨c1,c2,by rw[aX];exact c3,by rw[aX];exact ee⟩
  ·rename_i aJ;rw[if_neg aJ]at bW ee;obtain⟨c1,c2,_,c4,c5⟩:=bW;refine⟨c1,c2,ee.1,λj b1 b2=> ?_,c5.1,by rw[aX,lA K k' GS.cnt ee.2.2];exact c5.2⟩;by_cases cy:j=i
   ·subst cy;rw[bu];exact .inl ee.2.1
   ·rw[ba _ _ cy];exact c4 j b1 (aX▸b2)
def Inv.aeg(h:Inv P n0 W0 V gs w t K Im ic (some p) st){i j:Nat}{gi bz:Te}{es:SO}{hh h':Ht}{Vi V':View}(hi:0<i)(aN:gs[i]?=some gi)(hK:K i=.work j hh Vi)(aT:stepG P false gi w=.go bz w' es)
  (s:da Vi w V' w' es) (hk:lE P h' V' bz) (mj:Bv h' hh):gH P n0 W0 V gs w sl t K Im ic (some p) st i:=by
 have hlt:i<gs.size:=(Tl.1 aN).1;have dc:=h.is i gi hi aN;simp only[hK,GS.is]at dc;obtain⟨hd,_,S,hS,ji⟩:=dc;have ez:(K i).cnt=1:=by rw[hK];rfl
 obtain⟨⟨n,gK⟩,lm⟩:=h.counted hi hlt ez;have ii:=h.low;have cD:jq p Vi:=by have:=h.blind hi;rw[hK]at this;exact this
 have akN:=cD.step s ii.1 ii.2;have mo:bD V Im K i=Vi:=by simp[bD,hK,GS.view];omega
 have eW:w'.heap[p.c]?=w.heap[p.c]?:=s.frame p.c ii.1 cD.1;have hWh:w'.heap[p.Wg]?=w.heap[p.Wg]?:=s.frame p.Wg ii.2 cD.2.2.1;have lN:∀m,((upd K i (.work j h' V')) m).shape=(K m).shape:=λm=>by
  by_cases hm:m=i
  ·subst hm;rw[bu,hK];rfl
  ·rw[ba _ _ hm]
 have cZ:∀m,((upd K i (.work j h' V')) m).idx=(K m).idx:=λm=>by rw[<- GS.G2,lN,GS.G2]
 have o5:∀m,((upd K i (.work j h' V')) m).cnt=(K m).cnt:=λm=>by rw[<- GS.nw,lN,GS.nw]
 have wu:∀m,((upd K i (.work j h' V')) m).late=(K m).late:=λm=>by rw[<- GS.mu,lN,GS.mu]
 have cg:V'.role=Vi.role:=s.role;refine h.next (k':=.work j h' V') (st':=st) hi aN aT ⟨by rw[hd,s.deaf],hk,S,hS,cg.trans ji⟩ (λx=>by rw[hk.running]at x;cases x) (λq hq=>by cases hq;exact .inl ⟨n,by rw[eW];exact gK⟩) ?_ ?_ ?_ ?_ ?_
 ·rw[Oj V Im K hi];refine(Core.step (V':=V') h.core hlt (by rw[mo];exact s) (λe he x hx hs=> ?_) gi.frame.fn gi.frame.place).BV λm hm=> ?_
  ·exfalso;rcases(JO (s.fe e he) hx).1 with y|⟨y,_⟩|y
   ·exact cD.AL y.rd hs
   ·exact cD.AL y hs
   ·exact y (ac9 ii.1 ii.2 hs)
  ·simpa only[ni,iZ,cZ,o5,wu]using hm
 ·rw[lm];have hr:Rest (Bl (some p)) t K ic st:=h.out.2.2.1;rw[lm]at hr;refine hr.app (λidx a ha hx=> .inr (hx.app (by obtain⟨op,az,_⟩:=VG ha;exact Uz az) λm _ _ hm=> .inl (by rw[cZ];exact hm))) (λidx a _ ⟨op,az,xZ,_⟩ _=> .inr (.inr ⟨i,?_,hi,.inl ?_⟩))
  ·obtain⟨e,_,rfl⟩:=UD az;simp[Xk,xZ]
  ·rw[bu];rfl
 ·refine h.Nq (by simp) s.size akN (λx=>by cases x) (.inl (by rw[hK];rfl)) ?_;have hx:=h.phase.2.2.2.2.2.2.2.2.2;split
  ·rename_i aJ;rw[if_pos aJ]at hx;obtain⟨_,_,_,s',nN,hm⟩:=hx;exact⟨s',nN,hm.keep lN eW hWh λrD=>acJ hlt hk.running rD⟩
  ·exact⟨lm,rfl,by rw[hK];rfl⟩
 ·rw[hK];refine .inr ⟨by simp[GS.c9,cg],.inl mj⟩
 ·intro g c KW;have ho:za w' c:=⟨n,by rw[<- KW p rfl,eW];exact gK⟩;exact⟨M6 hi,λjh _=> .inr ⟨No hi jh ho,ho⟩⟩
end
open Go.Conc Go.ConcN
def nR (V:View)(I':cr)(O':BF)(r:nd):View:=
 {V with ab:=λb o=>match V.ab b o with|some x=>some x|none=>I' b o,own:=λb=>match V.own b with|some x=>some x|none=>O' b,role:=r}
def lX (B:Nat->Bool)(U:View):BF:=λb=>if B b then U.own b else none
def lS (B:Nat->Bool)(U:View)(r:nd):View:={U with own:=λb=>if B b then none else U.own b,role:=r}
section
variable {P:Tg}{n0:Nat}{W0:Ul}{V:View}{gs gs':SR}{w w':Ul}{sl:S8}{t:U6}{K:Nat->GS}{Im:cr}{ic:Nat}{p:Phase}{st:TJ}
def ab6{k:GS}{d:Nat}{x:Te}(h:k.is P p.c p.Wg Im p.Ss d x)(r:Nat):offersAt x r false=[]:=by
 rcases GS.runs h with hr|⟨hf,_⟩|⟨j,h',V,V',g0,v,z,rfl⟩|⟨_,hb,ho⟩
 ·exact Vz (by rw[hr];simp) r false
 ·exact Vz (by rw[hf];simp) r false
 ·obtain⟨_,_,rfl,_⟩:=h;exact offersAt_parked_send' _ _ _ _ _ _
 ·unfold offersAt;simp[hb,ho]
def aoc{g:Te}(h:ko gs g){x:Te}(hx:gs[0]?=some x)(r:Nat)(s:Bool):offersAt x r s=[]:=by
 obtain⟨g0,h0,h1,_⟩:=h;rw[h0]at hx;cases hx;exact Vz (by rw[h1];simp) r s
def Inv.atB(h:Inv P n0 W0 V gs w t K Im ic (some p) st){g:Te}(hm:ko gs g){i j:Nat}{gi:Te}{hh h':Ht}{Vi V₁:View}{sp:Spec}{S:TH}{v z:T5}{B:Nat->Bool}(hi:0<i)(aN:gs[i]?=some gi)
  (hK:K i=.work j hh Vi) (hg:d_ Vi V₁) (hr:V₁.role=.work p.c p.Wg (sp::S)) (hd:V₁.deaf=0) (aT:stepG P false gi w=.comm gi #[scase p.c v z] true .send w #[])
  (th:sp v V₁.ab (lX B V₁)) (hk:lE P h' (lS B V₁ (.work p.c p.Wg S)) (UM gi undef)):gH P n0 W0 V gs w sl t K Im ic (some p) st i:=by
 have hlt:i<gs.size:=(Tl.1 aN).1;have dc:=h.is i gi hi aN;simp only[hK,GS.is]at dc;obtain⟨bt,_,S',hS,ji⟩:=dc;have ez:(K i).cnt=1:=by rw[hK];rfl
 obtain⟨⟨n,gK⟩,lm⟩:=h.counted hi hlt ez;have eR:(i==0)=false:=by simp;omega
 have er:nd.work p.c p.Wg S'=.work p.c p.Wg (sp::S):=by rw[<- ji,<- hg.role,hr]
 cases er;let k':GS:=.nW j h' V₁ (lS B V₁ (.work p.c p.Wg S)) gi v z;have hw:=awC (P:=P) (sl:=sl) (i:=i) aN (by rw[eR];exact aT) (λcc jc=>by
  simp only[UC,Th,Tv,or_false]at jc;subst jc;refine ways_send_none gK (by simp) (ai_ λm x hx=> ?_);rcases XO gs i m x hx with⟨_,rfl⟩|⟨_,jC⟩
  ·exact YD _ _
  ·rcases VD m with rfl|iF
   ·exact aoc hm jC _ _
   ·exact ab6 (h.is m x iF jC) _)
 have mo:bD V Im K i=Vi:=by simp[bD,hK,GS.view];omega
 have cD:jq p Vi:=by have:=h.blind hi;rw[hK]at this;exact this
 have cZ:∀m,((upd K i k') m).idx=(K m).idx:=λm=>by
  by_cases hm:m=i
  ·subst hm;rw[bu,hK];rfl
  ·rw[ba _ _ hm]
 have lN:∀m,((upd K i k') m).shape=(K m).shape:=λm=>by
  by_cases hm:m=i
  ·subst hm;rw[bu,hK];rfl
  ·rw[ba _ _ hm]
 have o5:∀m,((upd K i k') m).cnt=(K m).cnt:=λm=>by rw[<- GS.nw,lN,GS.nw]
 have wu:∀m,((upd K i k') m).late=(K m).late:=λm=>by rw[<- GS.mu,lN,GS.mu]
 have e0:t++Ua i gi.frame.fn gi.frame.place #[]=t:=by simp[Ua]
 have aX:(gs.setIfInBounds i (parked gi #[scase p.c v z] .send)).size=gs.size:=by simp
 refine⟨_,w,_,upd K i k',st,hw,aX,?_,λg' c _=>⟨λ⟨g0,a,b⟩=>⟨g0,by rw[Tq (by omega)];exact a,b⟩,λ⟨g0,z',a,b⟩ ho=> .inr ⟨⟨g0,z',by rw[Tq (by omega)];exact a,b⟩,ho⟩⟩,λg' c ⟨g1,z',a,_⟩ _=>(by obtain⟨g0,h0,h1,_⟩:=hm;rw[a]at h0;cases h0;cases h1),
  .inl ⟨i,hlt,?_,λm hm=>by show (upd K i k' m).c9=(K m).c9;rw[ba _ _ hm]⟩⟩
 ·rw[e0];refine Inv.mk' (by rw[aX];exact h.pos) (by rw[ba _ _ (by omega)];exact h.k0) h.d0 (λm x hm hx=> ?_) ?_ ?_ ?_
  ·by_cases cV:m=i
   ·subst cV;rw[T8 hlt]at hx;cases hx;rw[bu];exact⟨by rw[bt,<- hg.deaf,hd],hd,rfl,hk,sp,S,B,hS,hr,th,rfl⟩
   ·rw[Tq (Ne.symm cV)]at hx;rw[ba _ _ cV];exact h.is m x hm hx
  ·rw[aX,Oj V Im K hi];exact(Core.ghost (V':=V₁) h.core hlt (by rw[mo];exact hg)).BV λm hm=>by simpa only[ni,iZ,cZ,o5,wu]using hm
  ·have hr:Rest (Bl (some p)) t K ic st:=h.out.2.2.1;rw[lm]at hr⊢;have:=hr.app (u:=#[]) (K':=upd K i k') (s':=.early) (λidx a ha hx=> .inr (hx.app (by obtain⟨op,az,_⟩:=VG ha;exact Uz az) λm _ _ hm=> .inl (by rw[cZ];exact hm))) (λidx a _ ⟨op,az,_⟩ _=>by simp at az);simpa using this
  ·refine h.Nq aX (Tm _) (cD.ghost hg) (λx=>by cases x) (.inl (by rw[hK];rfl)) ?_;have hx:=h.phase.2.2.2.2.2.2.2.2.2;split
   ·rename_i aJ;rw[if_pos aJ]at hx;obtain⟨_,gw,_,s',nN,fZ⟩:=hx;refine⟨s',nN,?_⟩;have:=fZ.keep (w':=w) (gs':=gs.setIfInBounds i (parked gi #[scase p.c v z] .send)) (u:=#[]) lN rfl rfl λrD x hx=>by
     by_cases fX:ic=i
     ·subst fX;exfalso;unfold Mode at fZ;have aH:∀s:GS,(K ic).shape=s->s=.work j .z noView:=λs e=>(by rw[<- e,hK];rfl);rcases fZ with h|h|h|h|h|h|h
      ·rcases h.2.2.2.2.2 with⟨_,e,_⟩|⟨_,e,_⟩<;>cases aH _ e
      ·rcases h.2.2.2.2.2.2 with e|e<;>cases aH _ e
      ·rcases h.2.2.2.2.1 with e|e<;>cases aH _ e
      ·rcases h.2.2.2.2.2.2 with e|e<;>cases aH _ e
      ·rcases h.2.2.2.2.2 with e|e<;>cases aH _ e
      ·rcases h.2.2.2.2 with e|e<;>cases aH _ e
      ·cases aH _ h.2.2.2
     ·rw[Tq (Ne.symm fX)]at hx;exact rD x hx
    simpa using this
   ·exact⟨lm,rfl,by rw[hK];rfl⟩
 ·show qO (upd K i k' i).c9 (K i).c9;rw[hK];refine .inl ?_;simp only[bu,k',GS.c9,hr,ji];omega
def Mode.am5{c Wg N:Nat}{u:U6}{K':Nat->GS}{s:ek}(h:Mode P c Wg N w gs t K ic s)(ez:1<=sumTo N λi=>(K i).cnt)(hs:∀j,(K' j).shape=(K j).shape)(ho:∃n,w'.heap[c]?=some (.chan 0 #[] false n n false))(hW:w'.heap[Wg]?=w.heap[Wg]?):Mode P c Wg N w' gs' (t++u) K' ic s:=by
 have e1:sumTo N (λi=>(K' i).cnt)=sumTo N λi=>(K i).cnt:=VY λi _=>by rw[<- GS.nw,hs i,GS.nw]
 have e2:sumTo N (λi=>(K' i).late)=sumTo N λi=>(K i).late:=VY λi _=>by rw[<- GS.mu,hs i,GS.mu]
 have e3:∀st sm,WgAt P Wg w' st sm=WgAt P Wg w st sm:=λst sm=>by unfold WgAt;rw[hW]
 unfold Mode at h⊢;simp only[e1,e2,e3,hs];rcases h with h|h|h|h|h|h|h
 ·exact .inl ⟨ho,h.2⟩
 ·exact .inr (.inl ⟨ho,h.2⟩)
 ·have:=h.2.2.2.1;omega
 ·have:=h.2.2.2.1;omega
 ·have:=h.2.2.2.1;omega
 ·have:=h.2.2.2.1;omega
 ·have:=h.2.2.1;omega
def Inv.met(h:Inv P n0 W0 V gs w t K Im ic (some p) st)(aJ:p.recv=true)(iM:V.deaf=0){i j:Nat}{h':Ht}{V₁:View}{gi:Te}{sp:Spec}{S:TH}{B:Nat->Bool}(hi:0<i)(hlt:i<gs.size)
  (x6:(K i).idx=some j) (hg:d_ ((K i).view Im) V₁) (hr:V₁.role=.work p.c p.Wg (sp::S)) (hd:V₁.deaf=0) (oA:VH t i=0) (hS:p.Ss[j]?=some (sp::S))
  (hk:lE P h' (lS B V₁ (.work p.c p.Wg S)) (UM gi undef)) (aX:gs'.size=gs.size) (aN:gs'[i]?=some (UM gi undef)) (hgo:∀m,m≠i->0<m->gs'[m]?=gs[m]?)
  {u:U6} {x0 x1 x2 x3:WU} (hu:u=#[x0,x1,x2,x3]) {s:Nat} (h0:x0.g=i/\x0.act=.send p.c s) (h1:x1.g=0/\x1.act=.recv p.c s 0) (h2:x2.g=i/\x2.act=.sendDone p.c s) (h3:x3.g=0/\x3.act=.recvDone p.c s)
  (bH:w'.heap.size=w.heap.size) (fj:∀b,b≠p.c->w'.heap[b]?=w.heap[b]?) (wB:∃n,w'.heap[p.c]?=some (.chan 0 #[] false n n false)) (GO:w'.tape=w.tape) (hw5:w'.os=w.os) (hw6:w'.output=w.output):
  (∀b,V.own b≠none->lX B V₁ b=none)/\(∀b o,V.own b≠none->V₁.ab b o≠none->V.ab b o≠none)/\
  Inv P n0 W0 (nR V V₁.ab (lX B V₁) (.recv p.c p.Wg (p.Ss.set j S))) gs' w' (t++u) (upd K i (.work j h' (lS B V₁ (.work p.c p.Wg S)))) Im ic (some {p with Ss:=p.Ss.set j S}) st:=by
 obtain⟨dc,hc,kE,gL⟩:=h.out;obtain⟨a1,a2,a3,a4,a5,a6,a7,a8,a9,bW⟩:=gL;rw[if_pos aJ]at bW;obtain⟨⟨c1,c2,c3,c4⟩,c5,c6,s',c7,c8⟩:=bW;have CF:jq p V:=⟨c1,c2,c3,c4⟩;have v9:=(h.blind hi).ghost hg;have mo:bD V Im K i=(K i).view Im:=by simp[bD];omega
 have rG:bD V Im K 0=V:=by simp[bD]
 have cN:Core (upd (bD V Im K) i V₁) gs.size w t (rW (some p)) (ni (some p) gs.size ic K) ic n0 W0:=hc.ghost hlt (by rw[mo];exact hg);have dA:Sat V₁ w:=by have:=cN.sat i hlt;rwa[bu]at this
 have dz:Sat V w:=by have:=cN.sat 0 h.pos;rwa[ba _ _ (by omega),rG]at this
 have Fo:jF V V₁:=by have:=cN.dO 0 i h.pos hlt (by omega);rwa[ba _ _ (show 0≠i by omega),bu,rG]at this
 have Qd:jF V₁ V:=by have:=cN.dO i 0 hlt h.pos (by omega);rwa[bu,ba _ _ (show 0≠i by omega),rG]at this
 have alf:∀b,V.own b≠none->lX B V₁ b=none:=λb hb=>by
  unfold lX;split
  ·exact(Fo b hb).1
  ·rfl
 refine⟨alf,λb o hb=>(Fo b hb).2 o,?_⟩;have jA:∀op∈u,op.act.touch?=none/\still op.act/\(op.g=0\/op.g=i)/\op.act.low w.heap.size/\∀a,op.act≠ .mark (.release a):=by
  intro op az;rw[hu]at az;simp only[UC,Th,Tv,or_false]at az;rcases az with rfl|rfl|rfl|rfl
  ·rw[h0.2,h0.1];exact⟨rfl,⟨by simp,by simp⟩,.inr rfl,a4,by simp⟩
  ·rw[h1.2,h1.1];exact⟨rfl,⟨by simp,by simp⟩,.inl rfl,a4,by simp⟩
  ·rw[h2.2,h2.1];exact⟨rfl,⟨by simp,by simp⟩,.inr rfl,a4,by simp⟩
  ·rw[h3.2,h3.1];exact⟨rfl,⟨by simp,by simp⟩,.inl rfl,a4,by simp⟩
 have nO:∀op∈u,still op.act:=λop az=>(jA op az).2.1;have uB:∀m,VH (t++u) m=VH t m:=λm=>Deaf_still nO;have d00:VH t 0=0:=by rw[h.d0,iM]
 have dS:∀idx,W5 t i idx->W5 (t++u) 0 idx:=λidx hx=>aoj hu h0 (jA x1 (by rw[hu];simp)).2.1 (jA x2 (by rw[hu];simp)).2.1 h3 oA d00 hx;let k':GS:=.work j h' (lS B V₁ (.work p.c p.Wg S));let V':View:=nR V V₁.ab (lX B V₁) (.recv p.c p.Wg (p.Ss.set j S));have cZ:∀m,((upd K i k') m).idx=(K m).idx:=λm=>by
  by_cases hm:m=i
  ·subst hm;rw[bu,x6];rfl
  ·rw[ba _ _ hm]
 have dT:(K i).shape=.work j .z noView:=by
  cases kX:K i<;>rw[kX]at x6<;>simp[GS.idx]at x6
  ·subst x6;rfl
  ·subst x6;rfl
 have lN:∀m,((upd K i k') m).shape=(K m).shape:=λm=>by
  by_cases hm:m=i
  ·subst hm;rw[bu,dT];rfl
  ·rw[ba _ _ hm]
 have o5:∀m,((upd K i k') m).cnt=(K m).cnt:=λm=>by rw[<- GS.nw,lN,GS.nw]
 have wu:∀m,((upd K i k') m).late=(K m).late:=λm=>by rw[<- GS.mu,lN,GS.mu]
 have ez:(K i).cnt=1:=by rw[<- GS.nw,dT];rfl
 have lm:=(h.counted hi hlt ez).2;have sd:bD V' Im (upd K i k') 0=V':=by simp[bD]
 have wX:bD V' Im (upd K i k') i=lS B V₁ (.work p.c p.Wg S):=by simp[bD,bu,k',GS.view];omega
 have wY:∀m,m≠0->m≠i->bD V' Im (upd K i k') m=upd (bD V Im K) i V₁ m:=λm h1 h2=>by simp[bD,ba _ _ h2,h1]
 have D1:upd (bD V Im K) i V₁ 0=V:=by rw[ba _ _ (by omega),rG]
 have wK:upd (bD V Im K) i V₁ i=V₁:=bu _ _ _;have ky:∀{U:View},jq p U->Sat U w->Sat U w':=λ{U} hb hs=>⟨λb o v e=>by
   have aH:b≠p.c:=λx=>(by rw[x,hb.2.1 o]at e;cases e);have:=hs.ab b o v e;simp only[Vs,fj b aH]at this⊢;exact this,λb x e=>by
   have aH:b≠p.c:=λy=>(by rw[y,hb.1]at e;cases e);rw[fj b aH];exact hs.own b x e⟩
 have amo:Sat V' w:=⟨λb o v e=>by
   simp only[V',nR]at e;split at e
   ·rename_i x hx;cases e;exact dz.ab b o _ hx
   ·exact dA.ab b o v e,λb x e=>by
   simp only[V',nR]at e;split at e
   ·rename_i y hy;cases e;exact dz.own b _ hy
   ·unfold lX at e;split at e
    ·exact dA.own b x e
    ·cases e⟩
 have CG:jq p V':=⟨by simp[V',nR,c1,lX,v9.1],λo=>by simp[V',nR,c2,v9.2.1],by simp[V',nR,c3,lX,v9.2.2.1],λo=>by simp[V',nR,c4,v9.2.2.2]⟩;have hsK:Sat (lS B V₁ (.work p.c p.Wg S)) w:=⟨dA.ab,λb x e=>by
   simp only[lS]at e;split at e
   ·cases e
   ·exact dA.own b x e⟩
 have CE:jq p (lS B V₁ (.work p.c p.Wg S)):=⟨by simp[lS,v9.1],v9.2.1,by simp[lS,v9.2.2.1],v9.2.2.2⟩;have AT:∀b,V'.own b≠none->V.own b≠none\/(B b=true/\V₁.own b≠none):=λb hb=>by
  simp only[V',nR]at hb;split at hb
  ·rename_i y hy;exact .inl (by rw[hy];simp)
  ·unfold lX at hb;split at hb
   ·rename_i hB;exact .inr ⟨hB,hb⟩
   ·exact absurd rfl hb
 have uS:∀b o,V'.ab b o≠none<->(V.ab b o≠none\/V₁.ab b o≠none):=λb o=>by
  simp only[V',nR];cases e:V.ab b o with
  |some x=>simp
  |none=>simp
 have AU:∀b,(lS B V₁ (.work p.c p.Wg S)).own b≠none->B b=false/\V₁.own b≠none:=λb hb=>by
  simp only[lS]at hb;split at hb
  ·exact absurd rfl hb
  ·rename_i hB;exact⟨by simpa using hB,hb⟩
 have xU:Core (bD V' Im (upd K i k')) gs.size w' (t++u) (rW (some p)) (ni (some p) gs.size ic K) ic n0 W0:=by
  refine⟨λm hm=> ?_,λa b ha hb dJ=> ?_,?_,GO.trans hc.tape,hw5.trans hc.os,hw6.trans hc.out,λb hb=>(fj b (by omega)).trans (hc.old b hb),λm hm b hb=> ?_,by rw[bH];exact hc.n0⟩
  ·by_cases iF:m=0
   ·subst iF;rw[sd];exact ky CG amo
   ·by_cases cV:m=i
    ·subst cV;rw[wX];exact ky CE hsK
    ·rw[wY m iF cV,ba _ _ cV];have:=hc.sat m hm;refine ky ?_ this;have e:bD V Im K m=(K m).view Im:=(by simp[bD,iF]);rw[e];exact h.blind (by omega)
  ·
   have dm:∀m,m<gs.size->m≠0->m≠i->jF (upd (bD V Im K) i V₁ m) V/\jF V (upd (bD V Im K) i V₁ m)/\jF (upd (bD V Im K) i V₁ m) V₁/\jF V₁ (upd (bD V Im K) i V₁ m):=λm hm h1 h2=>
    ⟨by have:=cN.dO m 0 hm h.pos h1;rwa[D1]at this,by have:=cN.dO 0 m h.pos hm (Ne.symm h1);rwa[D1]at this,by have:=cN.dO m i hm hlt h2;rwa[wK]at this,by have:=cN.dO i m hlt hm (Ne.symm h2);rwa[wK]at this⟩
   by_cases zU:a=0
   ·subst zU;by_cases iN:b=i
    ·subst iN;rw[sd,wX];intro q hq;rcases AT q hq with x|⟨hB,x⟩
     ·refine⟨?_,λo ho=>(uS q o).2 (.inl ((Fo q x).2 o ho))⟩;simp only[lS];split
      ·rfl
      ·exact(Fo q x).1
     ·refine⟨by simp only[lS,hB,if_true],λo ho=>(uS q o).2 (.inr ho)⟩
    ·have sP:b≠0:=Ne.symm dJ;rw[sd,wY b sP iN];obtain⟨_,e2,_,e4⟩:=dm b hb sP iN;intro q hq;rcases AT q hq with x|⟨_,x⟩
     ·exact⟨(e2 q x).1,λo ho=>(uS q o).2 (.inl ((e2 q x).2 o ho))⟩
     ·exact⟨(e4 q x).1,λo ho=>(uS q o).2 (.inr ((e4 q x).2 o ho))⟩
   ·by_cases nC:a=i
    ·subst nC;by_cases sP:b=0
     ·subst sP;rw[sd,wX];intro q hq;obtain⟨hB,x⟩:=AU q hq;refine⟨?_,λo ho=> ?_⟩
      ·simp only[V',nR,(Qd q x).1,lX,hB];rfl
      ·rcases(uS q o).1 ho with y|y
       ·exact(Qd q x).2 o y
       ·exact y
     ·rw[wX,wY b sP (Ne.symm dJ)];obtain⟨_,_,_,e4⟩:=dm b hb sP (Ne.symm dJ);intro q hq;exact e4 q (AU q hq).2
    ·rw[wY a zU nC];obtain⟨e1,e2,e3,e4⟩:=dm a ha zU nC;by_cases sP:b=0
     ·subst sP;rw[sd];intro q hq;refine⟨?_,λo ho=>((uS q o).1 ho).elim ((e1 q hq).2 o) ((e3 q hq).2 o)⟩;simp only[V',nR,(e1 q hq).1,lX,(e3 q hq).1,ite_self]
     ·by_cases iN:b=i
      ·subst iN;rw[wX];intro q hq;refine⟨?_,(e3 q hq).2⟩;simp only[lS,(e3 q hq).1,ite_self]
      ·rw[wY b sP iN];exact cN.dO a b ha hb dJ
  ·rw[bH];refine cN.ti.mute (λop az=>(jA op az).1) (λop az=>(jA op az).2.2.2.1) (λop az=>((jA op az).2.2.1).elim (λx=>by rw[x];exact h.pos) (λx=>by rw[x];exact hlt)) (Tm _) (λop az=>(jA op az).2.2.2.2) (λm hm l hl idx a ha fy rK=> ?_) (λm hm l hl idx a ha fy=> ?_) (λidx a ha dT=>⟨λhp m hm=>((cN.ti.sp idx a ha dT).1 hp m hm).app u,λhp=>((cN.ti.sp idx a ha dT).2 hp).app u⟩)
   ·obtain⟨_,cP,mi⟩:=hl;by_cases iF:m=0
    ·subst iF;rw[sd]at cP;have:gP V l\/gP V₁ l:=by
      cases l with
      |cell a'=>
       rcases cP with x|x
       ·exact(AT _ x).imp .inl (λy=> .inl y.2)
       ·exact((uS _ _).1 x).imp .inr .inr
      |obj r=>exact(AT _ cP).imp id (λy=>y.2)
      |_=>exact cP.elim
     rcases this with x|x
     ·exact(cN.ti.kr 0 h.pos l ⟨h.pos,by rw[D1];exact x,mi⟩ idx a ha fy rK).app u
     ·exact dS idx (cN.ti.kr i hlt l ⟨hlt,by rw[wK];exact x,mi⟩ idx a ha fy rK)
    ·by_cases cV:m=i
     ·subst cV;rw[wX]at cP;have:gP V₁ l:=by
       cases l with
       |cell a'=>exact cP.imp (λx=>(AU _ x).2) id
       |obj r=>exact(AU _ cP).2
       |_=>exact cP.elim
      exact(cN.ti.kr m hm l ⟨hm,by rw[wK];exact this,mi⟩ idx a ha fy rK).app u
     ·rw[wY m iF cV]at cP;exact(cN.ti.kr m hm l ⟨hm,cP,mi⟩ idx a ha fy rK).app u
   ·obtain⟨_,cP,mi⟩:=hl;by_cases iF:m=0
    ·subst iF;rw[sd]at cP;have:jG V l\/jG V₁ l:=by
      cases l with
      |cell a'=>
       have fW:V.ab a'.block a'.off=none:=by
        cases e:V.ab a'.block a'.off with
        |none=>rfl
        |some x=>exact absurd cP.2 ((uS _ _).2 (.inl (by rw[e];simp)))
       have rk:V₁.ab a'.block a'.off=none:=by
        cases e:V₁.ab a'.block a'.off with
        |none=>rfl
        |some x=>exact absurd cP.2 ((uS _ _).2 (.inr (by rw[e];simp)))
       exact(AT _ cP.1).imp (λx=>⟨x,fW⟩) (λx=>⟨x.2,rk⟩)
      |obj r=>exact(AT _ cP).imp id (λy=>y.2)
      |_=>exact cP.elim
     rcases this with x|x
     ·exact(cN.ti.kw 0 h.pos l ⟨h.pos,by rw[D1];exact x,mi⟩ idx a ha fy).app u
     ·exact dS idx (cN.ti.kw i hlt l ⟨hlt,by rw[wK];exact x,mi⟩ idx a ha fy)
    ·by_cases cV:m=i
     ·subst cV;rw[wX]at cP;have:jG V₁ l:=by
       cases l with
       |cell a'=>exact⟨(AU _ cP.1).2,cP.2⟩
       |obj r=>exact(AU _ cP).2
       |_=>exact cP.elim
      exact(cN.ti.kw m hm l ⟨hm,by rw[wK];exact this,mi⟩ idx a ha fy).app u
     ·rw[wY m iF cV]at cP;exact(cN.ti.kw m hm l ⟨hm,cP,mi⟩ idx a ha fy).app u
  ·by_cases iF:m=0
   ·subst iF;rw[sd];have e1:=cN.jm 0 h.pos b hb;have e2:=cN.jm i hlt b hb;rw[D1]at e1;rw[wK]at e2;simp[V',nR,e1,lX,e2]
   ·by_cases cV:m=i
    ·subst cV;rw[wX];have e2:=cN.jm m hm b hb;rw[wK]at e2;simp[lS,e2]
    ·rw[wY m iF cV];exact cN.jm m hm b hb
 refine Inv.mk' (by rw[aX];exact h.pos) (by rw[ba _ _ (by omega)];exact h.k0) (by rw[uB];exact h.d0) (λm x hm hx=> ?_) ?_ ?_ ?_
 ·show (upd K i k' m).is P p.c p.Wg Im (p.Ss.set j S) (VH (t++u) m) x;rw[uB];by_cases cV:m=i
  ·subst cV;rw[aN]at hx;cases hx;rw[bu];have ff:j<p.Ss.length:=(Tj.1 hS).1;exact⟨by rw[oA];exact hd.symm,hk,S,by simp[Yd ff],rfl⟩
  ·rw[hgo m cV hm]at hx;rw[ba _ _ cV];have AD:=dc m x hm hx;have C4:m<gs.size:=(Tl.1 hx).1;have aH:(K m).idx≠some j:=λe=>cV (a8 m i j hm C4 hi hlt e x6);cases KD:K m with
   |work j2 h2 V2=>
    rw[KD]at AD aH;obtain⟨b1,b2,S2,b3,b4⟩:=AD;exact⟨b1,b2,S2,by rw[U3 (λe=>aH (by rw[e];rfl))];exact b3,b4⟩
   |nW j2 h2 V2 V3 g2 v2 z2=>
    rw[KD]at AD aH;obtain⟨b1,b2,b3,b4,sp2,S2,B2,b5,b6⟩:=AD;exact⟨b1,b2,b3,b4,sp2,S2,B2,by rw[U3 (λe=>aH (by rw[e];rfl))];exact b5,b6⟩
   |_=>rw[KD]at AD;exact AD
 ·rw[aX];refine xU.BV λm hm=> ?_;have fZ:iZ p gs.size ic (upd K i k') m:=hm;show iZ p gs.size ic K m;unfold iZ at fZ⊢;rw[cZ,o5,wu]at fZ;exact fZ
 ·show Rest p.Wg (t++u) (upd K i k') ic st;have yf:Rest p.Wg t K ic st:=kE;rw[lm]at yf⊢;exact yf.app (λidx a ha hx=> .inr (hx.app (by obtain⟨op,az,_⟩:=VG ha;exact Uz az) λm _ _ hm=> .inl (by rw[cZ];exact hm))) (λidx a _ ⟨op,az,_,hx⟩ _=>by rw[(jA op az).1]at hx;cases hx)
 ·refine⟨a1,a2,a3,by rw[bH];exact a4,by rw[bH];exact a5,by simpa using a6,λm hm=> ?_,λm m' q b1 b2 b3 b4 b5 b6=>a8 m m' q b1 (aX▸b2) b3 (aX▸b4) (by rw[<- cZ];exact b5) (by rw[<- cZ];exact b6),λq S2 b1 b2=> ?_,?_⟩
  ·by_cases cV:m=i
   ·subst cV;rw[bu];exact⟨CE.1,CE.2.1,CE.2.2.1,CE.2.2.2,λx=>by cases x⟩
   ·rw[ba _ _ cV];exact a7 m hm
  ·rw[aX];by_cases hq:q=j
   ·subst hq;exact⟨i,hi,hlt,by rw[cZ];exact x6⟩
   ·have Ja:p.Ss[q]?=some S2:=by
     have:=b1;rwa[show ({p with Ss:=p.Ss.set j S}:Phase).Ss=p.Ss.set j S from rfl,U3 (Ne.symm hq)]at this
    obtain⟨m,e1,e2,e3⟩:=a9 q S2 Ja b2;exact⟨m,e1,e2,by rw[cZ];exact e3⟩
  ·show if p.recv=true then _ else _;rw[if_pos aJ];refine⟨⟨CG.1,CG.2.1,CG.2.2.1,CG.2.2.2⟩,c5,by rw[aX];exact c6,s',c7,?_⟩;have hle:(K i).cnt<=sumTo gs.size λi=>(K i).cnt:=W_ (f:=λi=>(K i).cnt) hlt;rw[aX];exact c8.am5 (by omega) lN wB (fj _ (Ne.symm a3))
end
open Go.Conc Go.ConcN
open Go.Conc Go.ConcN
open Go.Conc Go.ConcN
open Go.Conc Go.ConcN
open Go.Conc Go.ConcN
open Go.Conc Go.ConcN
open Go.Conc Go.ConcN
section
variable {P:Tg}{n0:Nat}{W0:Ul}{V:View}{gs gs':SR}{w w':Ul}{sl:S8}{t:U6}{K:Nat->GS}{Im:cr}{ic:Nat}{p:Phase}{st st':TJ}
def Inv.tJ(h:Inv P n0 W0 V gs w t K Im ic (some p) st)(aJ:p.recv=true){i:Nat}{gi bz:Te}{es:SO}{k':GS}{s':ek}(hi:0<i)(aN:gs[i]?=some gi)(aT:stepG P false gi w=.go bz w' es)
  (hk:k'.is P p.c p.Wg Im p.Ss (deafBehind (VH t i) es) bz) (qj:mE (k'.view Im) ((K i).view Im))
  (xS:k'.nv=true->i=ic) (cZ:k'.idx=none) (xZ:∀j,(K i).idx=some j->p.Ss[j]?=some []/\∃r,Rel p.Wg (t++Ua i gi.frame.fn gi.frame.place es) i r/\t.size<=r)
  (jZ:i=ic\/(K i).idx.isSome=true\/(K i).cnt=1\/(K i).late=1)
  (cp:∀e∈es,∀x,(Up e).touch?=some x->(qP p.c p.Wg x.loc/\x.kind=.atomic)\/(qP p.c p.Wg x.loc/\x.kind=.said/\i=ic)\/(¬qP p.c p.Wg x.loc/\gP ((K i).view Im) x.loc/\x.write=false))
  (ii:∀e∈es,(Up e).low w.heap.size) (rA:∀e∈es,∀a,Up e≠ .mark (.release a))
  (aX:w'.heap.size=w.heap.size) (jy:∀b,b≠p.c->b≠p.Wg->w'.heap[b]?=w.heap[b]?) (ht:w'.tape=w.tape) (ho:w'.os=w.os) (hu:w'.output=w.output)
  (ya:Mode P p.c p.Wg gs.size w' ((gs.map (woken P gi bz w')).setIfInBounds i bz) (t++Ua i gi.frame.fn gi.frame.place es) (upd K i k') ic s')
  (gK:(∃n,w'.heap[p.c]?=some (.chan 0 #[] false n n false))\/((∀j,0<j->j<gs.size->j≠i->(K j).idx=none)/\∀g,n5 gs g p.c->ko ((gs.map (woken P gi bz w')).setIfInBounds i bz) g))
  (kE:Rest p.Wg (t++Ua i gi.frame.fn gi.frame.place es) (upd K i k') ic (some s'))
  (jA:BC gs.size ((λj=>(upd K i k' j).c9),flag ((gs.map (woken P gi bz w')).setIfInBounds i bz) ic) ((λj=>(K j).c9),flag gs ic)):gH P n0 W0 V gs w sl t K Im ic (some p) st i:=by
 have hlt:i<gs.size:=(Tl.1 aN).1;obtain⟨_,hc,_,hp⟩:=h.out;obtain⟨a1,a2,a3,a4,a5,a6,a7,a8,a9,bW⟩:=hp;rw[if_pos aJ]at bW;obtain⟨c1,c2,c3,_⟩:=bW;have qx:bD V Im K i=(K i).view Im:=by simp[bD];omega
 have CF:∀j,j<gs.size->jq p (bD V Im K j):=λj _=>by
  by_cases hj:j=0
  ·subst hj;rw[show bD V Im K 0=V by simp[bD]];exact⟨c1.1,c1.2.1,c1.2.2.1,c1.2.2.2⟩
  ·simp only[bD,hj,if_false];exact h.blind (by omega)
 have RQ:ni (some p) gs.size ic K i:=by
  show iZ p gs.size ic K i;unfold iZ;rw[if_pos aJ];exact⟨hi,hlt,by rcases jZ with x|x|x|x;exact .inr (.inl x);exact .inl x;exact .inr (.inr (.inl x));exact .inr (.inr (.inr x))⟩
 refine h.abL (st':=some s') hi aN aT hk (λhb=> ?_) (λq hq=>by cases hq;exact gK.imp id And.left) ?_ kE ?_ jA ?_
 ·rcases GS.runs hk with x|⟨x,_⟩|⟨_,_,_,_,_,_,_,e⟩|⟨_,_,x⟩
  ·rw[x]at hb;cases hb
  ·rw[x]at hb;cases hb
  ·rw[e]at cZ;cases cZ
  ·exact x
 ·rw[Oj V Im K hi];have dT:=hc.tJ hlt (es:=es) (w':=w') (λe he x hx=>by
    rcases cp e he x hx with⟨x1,x2⟩|⟨x1,x2,x3⟩|⟨x1,x2,x3⟩
    ·exact .inl ⟨x1,x2,RQ⟩
    ·exact .inr (.inl ⟨x1,x2,x3,RQ⟩)
    ·exact .inr (.inr ⟨x1,.inr (.inl ⟨⟨hlt,by rw[qx];exact x2,x1⟩,x3⟩)⟩)) ii rA (λb=>b=p.c\/b=p.Wg)
   (λb hb=>by
    rcases hb with rfl|rfl
    ·exact⟨a1,λj hj=>⟨(CF j hj).1,(CF j hj).2.1⟩⟩
    ·exact⟨a2,λj hj=>⟨(CF j hj).2.2.1,(CF j hj).2.2.2⟩⟩) aX (λb hb=>jy b (λx=>hb (.inl x)) (λx=>hb (.inr x))) ht ho hu gi.frame.fn gi.frame.place
  refine(dT.less (V':=k'.view Im) hlt (by rw[qx];exact qj)).BV λm hm=> ?_;have fZ:iZ p gs.size ic (upd K i k') m:=hm;show iZ p gs.size ic K m;unfold iZ at fZ⊢;rw[if_pos aJ]at fZ⊢;by_cases cV:m=i
  ·subst cV;exact⟨hi,hlt,by rcases jZ with x|x|x|x;exact .inr (.inl x);exact .inl x;exact .inr (.inr (.inl x));exact .inr (.inr (.inr x))⟩
  ·rw[ba _ _ cV]at fZ;exact fZ
 ·refine h.Nq (by simp) (by omega) ?_ xS (.inr ⟨cZ,λj hj=>(xZ j hj).1⟩) ?_
  ·have hb:=h.blind hi;exact⟨(qj.1 _).elim id (λx=>x.trans hb.1),λo=>(qj.2.1 _ o).elim id (λx=>x.trans (hb.2.1 o)),(qj.1 _).elim id (λx=>x.trans hb.2.2.1),λo=>(qj.2.1 _ o).elim id (λx=>x.trans (hb.2.2.2 o))⟩
  ·rw[if_pos aJ];exact⟨s',rfl,ya⟩
 ·intro g c KW;refine⟨M6 hi,λjh _=> ?_⟩;rw[<- KW p rfl]at jh⊢;rcases gK with x|⟨_,x⟩
  ·exact .inr ⟨No hi jh x,x⟩
  ·exact .inl (x g jh)
def Mode.am4{c Wg N:Nat}{u:U6}{K':Nat->GS}{s:ek}(h:Mode P c Wg N w gs t K ic s)(e1:sumTo N (λi=>(K' i).cnt)=sumTo N λi=>(K i).cnt)(e2:sumTo N (λi=>(K' i).late)=sumTo N λi=>(K i).late)
  (e4:(K' ic).shape=(K ic).shape) (e5:∀i,i<N->((K' i).shape=.load 0\/(K' i).shape=.store 0)->((K i).shape=.load 0\/(K i).shape=.store 0)) (e6:∀i,i<N->(K' i).shape=.my 0->(K i).shape=.my 0) (hc:w'.heap[c]?=w.heap[c]?) (hW:w'.heap[Wg]?=w.heap[Wg]?)
  (hr:(∀g,gs[ic]?=some g->g.status=.running)->∀g,gs'[ic]?=some g->g.status=.running):Mode P c Wg N w' gs' (t++u) K' ic s:=by
 have e3:∀st sm,WgAt P Wg w' st sm=WgAt P Wg w st sm:=λst sm=>by unfold WgAt;rw[hW]
 unfold Mode at h⊢;simp only[e1,e2,e3,e4,hc];rcases h with h|h|h|h|h|h|h
 ·exact .inl h
 ·exact .inr (.inl h)
 ·exact .inr (.inr (.inl ⟨h.1,h.2.1,h.2.2.1,h.2.2.2.1,h.2.2.2.2.1,λi hi x=>h.2.2.2.2.2.1 i hi (e5 i hi x),λi hi x=>h.2.2.2.2.2.2 i hi (e6 i hi x)⟩))
 ·exact .inr (.inr (.inr (.inl ⟨h.1,h.2.1,h.2.2.1,h.2.2.2.1,h.2.2.2.2.1,hr h.2.2.2.2.2.1,h.2.2.2.2.2.2⟩)))
 ·exact .inr (.inr (.inr (.inr (.inl h))))
 ·exact .inr (.inr (.inr (.inr (.inr (.inl h)))))
 ·obtain⟨⟨p,n,a,b,c',d⟩,e⟩:=h;exact .inr (.inr (.inr (.inr (.inr (.inr ⟨⟨p,n,a,by rw[Y8 (Xe b)];exact b,(W2 (Xe b)).2 c',d⟩,e⟩)))))
def Mode.waits{c Wg N:Nat}{s:ek}(h:Mode P c Wg N w gs t K ic s):(K ic).cnt=0/\(K ic).late=0:=by
 rw[<- GS.nw,<- GS.mu];rcases h with h|h|h|h|h|h|h
 ·rcases h.2.2.2.2.2 with⟨_,e,_⟩|⟨_,e,_⟩<;>rw[e]<;>exact⟨rfl,rfl⟩
 ·rcases h.2.2.2.2.2.2 with e|e<;>rw[e]<;>exact⟨rfl,rfl⟩
 ·rcases h.2.2.2.2.1 with e|e<;>rw[e]<;>exact⟨rfl,rfl⟩
 ·rcases h.2.2.2.2.2.2 with e|e<;>rw[e]<;>exact⟨rfl,rfl⟩
 ·rcases h.2.2.2.2.2 with e|e<;>rw[e]<;>exact⟨rfl,rfl⟩
 ·rcases h.2.2.2.2 with e|e<;>rw[e]<;>exact⟨rfl,rfl⟩
 ·rw[h.2.2.2];exact⟨rfl,rfl⟩
def yy{i:Nat}{k':GS}{a b:Nat}(hlt:i<gs.size)(hr:qO k'.c9 (K i).c9):BC gs.size ((λj=>(upd K i k' j).c9),a) ((λj=>(K j).c9),b):=
 .inl ⟨i,hlt,by simpa only[bu]using hr,λj hj=>by show (upd K i k' j).c9=(K j).c9;rw[ba _ _ hj]⟩
def Inv.mode(h:Inv P n0 W0 V gs w t K Im ic (some p) st)(aJ:p.recv=true):∃s,st=some s/\0<ic/\ic<gs.size/\Mode P p.c p.Wg gs.size w gs t K ic s:=by
 have hx:=h.phase.2.2.2.2.2.2.2.2.2;rw[if_pos aJ]at hx;obtain⟨_,h1,h2,s,h3,h4⟩:=hx;exact⟨s,h3,h1,h2,h4⟩
def ofEvents_one{i:Nat}{fn:UH}{pos:String}{e:WV}:Ua i fn pos #[e]=#[{g:=i,fn,pos,act:=.ofEvent e}]:=by simp[Ua]
def PZ{t u:U6}{g:Nat}:(t++u).deaf g t.size=VH t g:=deaf_old (Tm _)
def He(U:View):mE noView U:=⟨λ_=> .inl rfl,λ_ _=> .inl rfl,λb hb=>absurd rfl hb⟩
def Inv.release(h:Inv P n0 W0 V gs w t K Im ic (some p) st)(aJ:p.recv=true){i j:Nat}{gi:Te}{hh:Ht}{Vi V₁:View}{c Wg:Nat}(hi:0<i)(aN:gs[i]?=some gi)(hK:K i=.work j hh Vi)(hg:d_ Vi V₁)
  (hr:V₁.role=.work c Wg []) (hd:V₁.deaf=0) (hf:EK P Wg gi):gH P n0 W0 V gs w sl t K Im ic (some p) st i:=by
 have hlt:i<gs.size:=(Tl.1 aN).1;have dc:=h.is i gi hi aN;simp only[hK,GS.is]at dc;obtain⟨bt,_,S,hS,ji⟩:=dc;rw[hg.role,ji]at hr;cases hr;have ez:(K i).cnt=1:=by rw[hK];rfl
 obtain⟨⟨n,gK⟩,lm⟩:=h.counted hi hlt ez;obtain⟨s,hs,gw,iR,hm⟩:=h.mode aJ;rw[lm]at hs;cases hs;obtain⟨bK,g',ln,m,dQ⟩:=hf;have aH:i≠ic:=λe=>by have:=(Mode.waits hm).1;rw[<- e,ez]at this;cases this
 have aO:VH t i=0:=by rw[bt,<- hg.deaf,hd]
 have rC:Rel p.Wg (t++Ua i gi.frame.fn gi.frame.place #[jW (.releaseMerge (dZ p.Wg))]) i t.size:=by
  rw[ofEvents_one];have e:(#[({g:=i,fn:=gi.frame.fn,pos:=gi.frame.place,act:=.ofEvent (jW (.releaseMerge (dZ p.Wg)))}:WU)]:U6)[0]?=some _:=rfl;have g0:=qY (t:=t) e;exact⟨ZC g0,by simp[Xk,g0],heard_new e rfl (by rw[show t.size+0=t.size from rfl,PZ];exact aO)⟩
 have nJ:∀e∈#[jW (.releaseMerge (dZ p.Wg))],e=jW (.releaseMerge (dZ p.Wg)):=λe he=>by simpa using he
 refine h.tJ aJ (k':=.add m) (s':=.early) hi aN (ln w) ?_ (by rw[hK];exact He _) (λx=>by cases x) rfl (λj' iC=> ?_) (.inr (.inr (.inl ez))) (λe he x hx=> ?_) (λe he=> ?_) (λe he a=> ?_) rfl (λ_ _ _=>rfl) rfl rfl rfl ?_ (.inl ⟨n,gK⟩) ?_ (yy hlt ?_)
 ·show cS P (Bt P p.Wg) m _ g';rw[aO];exact dQ
 ·rw[hK]at iC;cases iC;exact⟨hS,t.size,rC,Tm _⟩
 ·rw[nJ e he]at hx;cases hx
 ·rw[nJ e he];exact h.low.2
 ·rw[nJ e he];simp[jW,Up]
 ·refine hm.am4 (lA K _ GS.cnt (by rw[ez];rfl)) (lA K _ GS.late (by rw[hK];rfl)) (by rw[ba _ _ (Ne.symm aH)]) (λm hm=> ?_) (λm hm=> ?_) rfl rfl (acJ hlt ?_)
  ·by_cases cV:m=i
   ·subst cV;rw[bu];intro x;rcases x with x|x<;>cases x
   ·rw[ba _ _ cV];exact id
  ·by_cases cV:m=i
   ·subst cV;rw[bu];intro x;cases x
   ·rw[ba _ _ cV];exact id
  ·exact cS.running (λd g x=>x.2.1) dQ
 ·have hr:Rest p.Wg t K ic st:=h.out.2.2.1;rw[lm]at hr;refine hr.app (λidx a ha hx=> .inr (hx.app (by obtain⟨op,az,_⟩:=VG ha;exact Uz az) λm wl _ hm=> ?_)) (λidx a _ ⟨op,az,_,hx⟩ _=> ?_)
  ·by_cases cV:m=i
   ·subst cV;exact .inr ⟨t.size,rC,by obtain⟨op,az,_⟩:=VG ha;exact Nat.le_of_lt (Uz az)⟩
   ·rw[ba _ _ cV];exact .inl hm
  ·rw[ofEvents_one]at az;simp only[UC,Th,Tv,or_false]at az;subst az;cases hx
 ·rw[hK];refine .inl ?_;simp only[GS.c9,ji];omega
def Atom (a:Wp)(es:SO):Prop:=es=#[ja a]\/es=#[kV a]\/es=#[ja a,kV a]\/es=A9 a
def Atom.mem{a:Wp}{es:SO}(h:Atom a es){e:WV}(he:e∈es):e=ja a\/e=kV a\/e=jW .disable\/e=jW .enable:=by
 rcases h with rfl|rfl|rfl|rfl<;>simp only[A9,UC,Th,Tv,or_false]at he
 ·exact .inl he
 ·exact .inr (.inl he)
 ·exact he.imp id .inl
 ·rcases he with x|x|x|x
  ·exact .inr (.inr (.inl x))
  ·exact .inl x
  ·exact .inr (.inl x)
  ·exact .inr (.inr (.inr x))
def Atom.behind{a:Wp}{es:SO}(h:Atom a es):deafBehind 1 es=1:=by
 rcases h with rfl|rfl|rfl|rfl<;>rfl
def Atom.touch{a:Wp}{es:SO}(h:Atom a es){e:WV}(he:e∈es){x:ZK}(hx:(Up e).touch?=some x):x.loc=.cell a/\x.kind=.atomic:=by
 rcases h.mem he with rfl|rfl|rfl|rfl
 ·cases hx;exact⟨rfl,rfl⟩
 ·cases hx;exact⟨rfl,rfl⟩
 ·cases hx
 ·cases hx
def Atom.low{a:Wp}{es:SO}(h:Atom a es){n:Nat}(ha:a.block<n){e:WV}(he:e∈es):(Up e).low n:=by
 rcases h.mem he with rfl|rfl|rfl|rfl
 ·exact ha
 ·exact ha
 ·trivial
 ·trivial
def Atom.norel{a:Wp}{es:SO}(h:Atom a es){e:WV}(he:e∈es)(b:Wp):Up e≠ .mark (.release b):=by
 rcases h.mem he with rfl|rfl|rfl|rfl<;>simp[ja,kV,jW,Up]
def Atom.atk{a:Wp}{es:SO}(h:Atom a es){i:Nat}{fn:UH}{pos:String}(hd:VH t i=1){idx:Nat}{op:WU}{x:ZK}(cZ:t.size<=idx)(az:(t++Ua i fn pos es)[idx]?=some op)(hx:op.act.touch?=some x):
  ¬(t++Ua i fn pos es).heard idx:=by
 obtain⟨k,rfl⟩:∃k,idx=t.size+k:=⟨idx-t.size,by omega⟩;have s9:(Ua i fn pos es)[k]?=some op:=by rw[Y9 (by omega)]at az;simpa using az
 have aN:op.g=i:=by obtain⟨e,_,rfl⟩:=UD (XD s9);rfl
 rintro⟨g,hg,hz⟩
 have:g=i:=by simp[Xk,az,aN]at hg;exact hg.symm
 subst this;have Bc:∀y:WU,y.act=Up (ja a)\/y.act=Up (kV a)->still y.act:=λy hy=>by rcases hy with e|e<;>rw[e]<;>exact⟨by simp[ja,kV,Up],by simp[ja,kV,Up]⟩
 rcases h with rfl|rfl|rfl|rfl
 ·have:=uh (t:=t) (u:=Ua g fn pos #[ja a]) (g:=g) (λop az=>by obtain⟨e,he,rfl⟩:=UD az;simp only[UC,Th,Tv,or_false]at he;subst he;exact Bc _ (.inl rfl)) (k:=k) (by have:=Uz s9;omega);omega
 ·have:=uh (t:=t) (u:=Ua g fn pos #[kV a]) (g:=g) (λop az=>by obtain⟨e,he,rfl⟩:=UD az;simp only[UC,Th,Tv,or_false]at he;subst he;exact Bc _ (.inr rfl)) (k:=k) (by have:=Uz s9;omega);omega
 ·have:=uh (t:=t) (u:=Ua g fn pos #[ja a,kV a]) (g:=g) (λop az=>by obtain⟨e,he,rfl⟩:=UD az;simp only[UC,Th,Tv,or_false]at he;rcases he with rfl|rfl;exact Bc _ (.inl rfl);exact Bc _ (.inr rfl)) (k:=k) (by have:=Uz s9;omega);omega
 ·
  have eu:Ua g fn pos (A9 a)=#[{g,fn,pos,act:=.mark .disable},{g,fn,pos,act:=.ofEvent (ja a)},{g,fn,pos,act:=.ofEvent (kV a)},{g,fn,pos,act:=.mark .enable}]:=by simp[Ua,A9,jW,Up]
  rw[eu]at s9 hz;have d0:(t++#[({g,fn,pos,act:=.mark .disable}:WU),{g,fn,pos,act:=.ofEvent (ja a)},{g,fn,pos,act:=.ofEvent (kV a)},{g,fn,pos,act:=.mark .enable}]).deaf g t.size=1:=by rw[PZ];exact hd
  have d1:=Zk (g:=g) (qY (t:=t) (show (#[({g,fn,pos,act:=.mark .disable}:WU),{g,fn,pos,act:=.ofEvent (ja a)},{g,fn,pos,act:=.ofEvent (kV a)},{g,fn,pos,act:=.mark .enable}]:U6)[0]?=some _ from rfl));have d2:=Zk (g:=g) (qY (t:=t) (show (#[({g,fn,pos,act:=.mark .disable}:WU),{g,fn,pos,act:=.ofEvent (ja a)},{g,fn,pos,act:=.ofEvent (kV a)},{g,fn,pos,act:=.mark .enable}]:U6)[1]?=some _ from rfl));have d3:=Zk (g:=g) (qY (t:=t) (show (#[({g,fn,pos,act:=.mark .disable}:WU),{g,fn,pos,act:=.ofEvent (ja a)},{g,fn,pos,act:=.ofEvent (kV a)},{g,fn,pos,act:=.mark .enable}]:U6)[2]?=some _ from rfl));rw[Jq (Bc _ (.inl rfl))]at d2;rw[Jq (Bc _ (.inr rfl))]at d3;simp only[Vl]at d1;rw[d0]at d1;have d1:=d1.trans (show deafStep g 1 {g,fn,pos,act:=.mark .disable}=2 by simp[deafStep]);have hk:k<4:=by have:=Uz s9;simpa using this
  match k,hk with
  |0,_=>simp at s9;subst s9;cases hx
  |1,_=>rw[d1]at hz;omega
  |2,_=>rw[show t.size+2=t.size+1+1 from rfl,d2,d1]at hz;omega
  |3,_=>simp at s9;subst s9;cases hx
def Rest.atom{Wg:Nat}{s:ek}(hr:Rest Wg t K ic (some s)){a:Wp}{es:SO}(h:Atom a es){i:Nat}{fn:UH}{pos:String}(hd:VH t i=1){K':Nat->GS}(cZ:∀m,(K' m).idx=(K m).idx):Rest Wg (t++Ua i fn pos es) K' ic (some s):=by
 refine hr.app (λidx a ha hx=> .inr (hx.app (by obtain⟨op,az,_⟩:=VG ha;exact Uz az) λm _ _ hm=> .inl (by rw[cZ];exact hm))) (λidx x hi ⟨op,az,xZ,hx⟩ _=> .inr (.inl ⟨?_,h.atk hd hi xZ hx⟩));obtain⟨e,he,rfl⟩:=UD az;exact(h.touch he hx).2
def WgAt.H2{Wg:Nat}{a b:Int}(h:WgAt P Wg w a b)(v:Int):WgAt P Wg (w.setCell (dZ Wg) (.int .u64 v)) v b:=by
 unfold WgAt at h⊢;unfold XH;rw[Wd];simp[dZ,h,wgBlock]
def WgAt.ac8{Wg:Nat}{a b:Int}(h:WgAt P Wg w a b)(v:Int):WgAt P Wg (w.setCell (oO Wg) (.int .u32 v)) a v:=by
 unfold WgAt at h⊢;unfold XH;rw[Wd];simp[oO,h,wgBlock]
def WgAt.inj{Wg:Nat}{a b a' b':Int}(h:WgAt P Wg w a b)(k:WgAt P Wg w a' b'):a=a'/\b=b':=by
 unfold WgAt at h k;rw[h]at k;simp[wgBlock]at k;exact k
def Inv.E_(h:Inv P n0 W0 V gs w t K Im ic (some p) st)(aJ:p.recv=true){i:Nat}{gi bz:Te}{es:SO}{k':GS}{s:ek}{a:Wp}(hs:st=some s)(hi:0<i)(aN:gs[i]?=some gi)(aT:stepG P false gi w=.go bz w' es)(hd:VH t i=1)
  (ha:Atom a es) (zV:a=dZ p.Wg\/a=oO p.Wg) (nQ:w'=w\/∃x,w'=w.setCell a x) (hk:k'.is P p.c p.Wg Im p.Ss 1 bz) (qj:mE (k'.view Im) ((K i).view Im)) (xS:k'.nv=true->i=ic) (cZ:k'.idx=none) (uF:(K i).idx=none)
  (jZ:i=ic\/(K i).cnt=1\/(K i).late=1) (gK:∃n,w.heap[p.c]?=some (.chan 0 #[] false n n false))
  (ya:Mode P p.c p.Wg gs.size w' ((gs.map (woken P gi bz w')).setIfInBounds i bz) (t++Ua i gi.frame.fn gi.frame.place es) (upd K i k') ic s) (uL:qO k'.c9 (K i).c9):gH P n0 W0 V gs w sl t K Im ic (some p) st i:=by
 have hlt:i<gs.size:=(Tl.1 aN).1;have v_:a.block=p.Wg:=by rcases zV with rfl|rfl<;>rfl
 have ri:p.c≠p.Wg:=h.phase.2.2.1;have jy:∀b,b≠p.Wg->w'.heap[b]?=w.heap[b]?:=λb hb=>by
  rcases nQ with rfl|⟨x,rfl⟩
  ·rfl
  ·exact wh _ _ _ (by rw[v_];exact Ne.symm hb)
 have aX:w'.heap.size=w.heap.size:=by rcases nQ with rfl|⟨x,rfl⟩;rfl;exact Eb _ _ _
 refine h.tJ aJ hi aN aT (by rw[hd,ha.behind];exact hk) qj xS cZ (λj hj=>by rw[uF]at hj;cases hj) (jZ.imp id .inr) (λe he x hx=> .inl ?_) (λe he=>ha.low (by rw[v_];exact h.low.2) he) (λe he b=>ha.norel he b) aX (λb _ hb=>jy b hb)
  (by rcases nQ with rfl|⟨x,rfl⟩<;>rfl) (by rcases nQ with rfl|⟨x,rfl⟩<;>rfl) (by rcases nQ with rfl|⟨x,rfl⟩<;>rfl) ya (.inl (by rw[jy _ ri];exact gK)) ?_ (yy hlt uL)
 ·have:=ha.touch he hx;exact⟨by rw[this.1];exact v_,this.2⟩
 ·have hr:Rest p.Wg t K ic st:=h.out.2.2.1;rw[hs]at hr;exact hr.atom ha hd λm=>by
   by_cases hm:m=i
   ·subst hm;rw[bu,cZ,uF]
   ·rw[ba _ _ hm]
def Inv.afp(h:Inv P n0 W0 V gs w t K Im ic (some p) st)(aJ:p.recv=true){i n:Nat}{gi:Te}(hi:0<i)(aN:gs[i]?=some gi)(hK:K i=.add n)(jB:Bt P p.Wg (VH t i) gi):gH P n0 W0 V gs w sl t K Im ic (some p) st i:=by
 have hlt:i<gs.size:=(Tl.1 aN).1;obtain⟨s,hs,gw,iR,hm⟩:=h.mode aJ;have ez:(K i).cnt=1:=by rw[hK];rfl
 have fh:(K i).late=0:=by rw[hK];rfl
 have uF:(K i).idx=none:=by rw[hK];rfl
 have gK:=(h.counted hi hlt ez).1;have aH:ic≠i:=λe=>by have:=(Mode.waits hm).1;rw[e,ez]at this;cases this
 obtain⟨hd,bK,GF⟩:=jB;have hle:(K i).cnt<=sumTo gs.size λi=>(K i).cnt:=W_ (f:=λi=>(K i).cnt) hlt;have ri:p.c≠p.Wg:=h.phase.2.2.1;have hq:∀(k':GS),sumTo gs.size (λa=>(upd K i k' a).cnt)+(K i).cnt=sumTo gs.size (λa=>(K a).cnt)+k'.cnt:=λk'=>Bd K k' GS.cnt hlt;have te:∀(k':GS),sumTo gs.size (λa=>(upd K i k' a).late)+(K i).late=sumTo gs.size (λa=>(K a).late)+k'.late:=λk'=>Bd K k' GS.late hlt;have qj:∀k':GS,k'.view Im=noView->mE (k'.view Im) ((K i).view Im):=λk' e=>by rw[e];exact He _
 have leave:∀(wt v:Nat),wt<=1->v+1=(sumTo gs.size λi=>(K i).cnt)->v<4->¬(v=0/\wt=1)->s=.early->(sumTo gs.size λi=>(K i).late)=0->WgAt P p.Wg w (((v+1:Nat):Int)* KK+wt) 0->
   ((wt=0/\((∃k,(K ic).shape=.head k 0/\v<k)\/(∃u,(K ic).shape=.mc u 0/\v<=u/\0<u)))\/(wt=1/\((K ic).shape=.said 0\/(K ic).shape=.hO 0)))->gH P n0 W0 V gs w sl t K Im ic (some p) st i:=by
  intro wt v uP hv GN fi wz auZ hW aV;obtain⟨g',aT,_,ml⟩:=GF v wt uP GN;obtain⟨q,ml⟩:=ml fi;have Dd:=hq (.gone q);have Dc:=te (.gone q);simp only[ez,fh]at Dd Dc;rw[show (GS.gone q).cnt=0 from rfl]at Dd;rw[show (GS.gone q).late=0 from rfl]at Dc;refine h.E_ aJ (k':=.gone q) (a:=dZ p.Wg) hs hi aN (aT w hW) hd (.inr (.inr (.inl rfl))) (.inl rfl) (.inr ⟨_,rfl⟩) ml (qj _ rfl) (λx=>by cases x) rfl uF (.inr (.inl ez)) gK ?_ (by rw[hK];exact .inl (by simp[GS.c9]));have v5:=hW.H2 ((v:Int)* KK+wt);unfold Mode;simp only[ba _ _ aH];have JI:sumTo gs.size (λa=>(upd K i (.gone q) a).cnt)=v:=by omega
  have JL:sumTo gs.size (λa=>(upd K i (.gone q) a).late)=0:=by omega
  simp only[JI,JL];have ho:∃n,(w.setCell (dZ p.Wg) (.int .u64 ((v:Int)* KK+wt))).heap[p.c]?=some (.chan 0 #[] false n n false):=by
   obtain⟨n,hn⟩:=gK;exact⟨n,by rw[wh _ _ _ (Ne.symm ri)];exact hn⟩
  rcases aV with⟨rfl,aV⟩|⟨rfl,aV⟩
  ·exact .inl ⟨ho,wz,trivial,by omega,by simpa using v5,aV⟩
  ·exact .inr (.inl ⟨ho,wz,trivial,by omega,by omega,by simpa using v5,aV⟩)
 unfold Mode at hm;rcases hm with m|m|m|m|m|m|m
 ·obtain⟨m1,m2,m3,m4,m5,m6⟩:=m;refine leave 0 ((sumTo gs.size λi=>(K i).cnt)-1) (by omega) (by omega) (by omega) (by omega) m2 m3 ?_ (.inl ⟨rfl,?_⟩)
  ·rw[show (sumTo gs.size λi=>(K i).cnt)-1+1=(sumTo gs.size λi=>(K i).cnt) by omega];simpa using m5
  ·rcases m6 with⟨k,e1,e2⟩|⟨u,e1,e2,e3⟩
   ·exact .inl ⟨k,e1,by omega⟩
   ·exact .inr ⟨u,e1,by omega,e3⟩
 ·obtain⟨m1,m2,m3,m4,m5,m6,m7⟩:=m;by_cases hv:(sumTo gs.size λi=>(K i).cnt)=1
  ·
   obtain⟨g',aT,iE,_⟩:=GF 0 1 (by omega) (by omega);obtain⟨n',iE⟩:=iE ⟨rfl,rfl⟩;have Dd:=hq (.load n');have Dc:=te (.load n');simp only[ez,fh]at Dd Dc;rw[show (GS.load n').cnt=0 from rfl]at Dd;rw[show (GS.load n').late=1 from rfl]at Dc;rw[hv]at m6;have hW:WgAt P p.Wg w (((0+1:Nat):Int)* KK+(1:Nat)) 0:=(by simpa using m6);refine h.E_ aJ (k':=.load n') (a:=dZ p.Wg) hs hi aN (aT w hW) hd (.inr (.inr (.inl rfl))) (.inl rfl) (.inr ⟨_,rfl⟩) iE (qj _ rfl) (λx=>by cases x) rfl uF (.inr (.inl ez)) gK ?_ (by rw[hK];exact .inl (by simp[GS.c9]));have v5:=hW.H2 (((0:Nat):Int)* KK+(1:Nat));unfold Mode;simp only[ba _ _ aH];have JI:sumTo gs.size (λa=>(upd K i (.load n') a).cnt)=0:=(by omega);have JL:sumTo gs.size (λa=>(upd K i (.load n') a).late)=1:=(by omega);simp only[JI,JL];have ho:∃n,(w.setCell (dZ p.Wg) (.int .u64 (((0:Nat):Int)* KK+(1:Nat)))).heap[p.c]?=some (.chan 0 #[] false n n false):=by
    obtain⟨n,hn⟩:=gK;exact⟨n,by rw[wh _ _ _ (Ne.symm ri)];exact hn⟩
   refine .inr (.inr (.inl ⟨ho,m2,trivial,trivial,m7,λ_ _ _=>by simpa using v5,λm hm qt=> ?_⟩));exfalso;have cV:m≠i:=λe=>(by subst e;rw[bu]at qt;cases qt);rw[ba _ _ cV]at qt;have hlm:(K m).late<=sumTo gs.size λi=>(K i).late:=W_ (f:=λi=>(K i).late) hm;rw[m3,<- GS.mu,qt]at hlm;simp[GS.late]at hlm
  ·refine leave 1 ((sumTo gs.size λi=>(K i).cnt)-1) (by omega) (by omega) (by omega) (by omega) m2 m3 ?_ (.inr ⟨rfl,m7⟩);rw[show (sumTo gs.size λi=>(K i).cnt)-1+1=(sumTo gs.size λi=>(K i).cnt) by omega];simpa using m6
 ·have:=m.2.2.2.1;omega
 ·have:=m.2.2.2.1;omega
 ·have:=m.2.2.2.1;omega
 ·have:=m.2.2.2.1;omega
 ·have:=m.2.2.1;omega
def Mode.DC{c Wg N:Nat}{s:ek}(hm:Mode P c Wg N w gs t K ic s){i:Nat}(hlt:i<N)(fh:(K i).late=1):
  (∃n,w.heap[c]?=some (.chan 0 #[] false n n false))/\s=.early/\(sumTo N λi=>(K i).late)=1/\(sumTo N λi=>(K i).cnt)=0/\((K ic).shape=.said 0\/(K ic).shape=.hO 0)/\
  (((K i).shape=.load 0\/(K i).shape=.store 0)->WgAt P Wg w 1 0)/\((K i).shape=.my 0->WgAt P Wg w 0 0):=by
 have hle:(K i).late<=sumTo N λi=>(K i).late:=W_ (f:=λi=>(K i).late) hlt;unfold Mode at hm;rcases hm with m|m|m|m|m|m|m
 ·have:=m.2.2.1;omega
 ·have:=m.2.2.1;omega
 ·exact⟨m.1,m.2.1,m.2.2.1,m.2.2.2.1,m.2.2.2.2.1,m.2.2.2.2.2.1 i hlt,m.2.2.2.2.2.2 i hlt⟩
 ·have:=m.2.2.1;omega
 ·have:=m.2.2.1;omega
 ·have:=m.2.2.1;omega
 ·have:=m.2.1;omega
def ab8{N:Nat}(h:(sumTo N λi=>(K i).late)=1){i m:Nat}(hi:i<N)(hm:m<N)(aH:m≠i)(fh:(K i).late=1):(K m).late=0:=by
 have:=Bd K (.gone 0) GS.late hi;have h2:((upd K i (.gone 0)) m).late<=sumTo N λa=>(upd K i (.gone 0) a).late:=W_ (f:=λa=>(upd K i (.gone 0) a).late) hm;rw[ba _ _ aH]at h2;simp only[fh,h,show (GS.gone 0).late=0 from rfl]at this;omega
def Inv.MU(h:Inv P n0 W0 V gs w t K Im ic (some p) st)(aJ:p.recv=true){i:Nat}{gi bz:Te}{es:SO}{k':GS}{a:Wp}(hi:0<i)(aN:gs[i]?=some gi)(aT:stepG P false gi w=.go bz w' es)(hd:VH t i=1)
  (ha:Atom a es) (zV:a=dZ p.Wg\/a=oO p.Wg) (nQ:w'=w\/∃x,w'=w.setCell a x) (hk:k'.is P p.c p.Wg Im p.Ss 1 bz) (hv:k'.view Im=noView) (cZ:k'.idx=none) (uF:(K i).idx=none) (o5:(K i).cnt=0) (ak1:k'.cnt=0) (xS:k'.nv=false) (fh:(K i).late=1)
  (wi:(k'.late=1/\((k'.shape=.load 0\/k'.shape=.store 0)->WgAt P p.Wg w' 1 0)/\(k'.shape=.my 0->WgAt P p.Wg w' 0 0))\/
   (k'.late=0/\WgAt P p.Wg w' 0 1/\∀g,((gs.map (woken P gi bz w')).setIfInBounds i bz)[ic]?=some g->g.status=.running)) (uL:qO k'.c9 (K i).c9):gH P n0 W0 V gs w sl t K Im ic (some p) st i:=by
 have hlt:i<gs.size:=(Tl.1 aN).1;obtain⟨s,hs,gw,iR,hm⟩:=h.mode aJ;obtain⟨m1,m2,m3,m4,m5,m6,m7⟩:=hm.DC hlt fh;have aH:ic≠i:=λe=>by have:=(Mode.waits hm).2;rw[e,fh]at this;cases this
 have ri:p.c≠p.Wg:=h.phase.2.2.1;have v_:a.block=p.Wg:=by rcases zV with rfl|rfl<;>rfl
 have jy:∀b,b≠p.Wg->w'.heap[b]?=w.heap[b]?:=λb hb=>by
  rcases nQ with rfl|⟨x,rfl⟩
  ·rfl
  ·exact wh _ _ _ (by rw[v_];exact Ne.symm hb)
 refine h.E_ aJ hs hi aN aT hd ha zV nQ hk (by rw[hv];exact He _) (λx=>by rw[xS]at x;cases x) cZ uF (.inr (.inr fh)) m1 ?_ uL;have e1:sumTo gs.size (λa=>(upd K i k' a).cnt)=0:=by have:=Bd K k' GS.cnt hlt;simp only[o5,ak1,m4]at this;omega
 unfold Mode;simp only[ba _ _ aH,e1,jy _ ri];rcases wi with⟨x1,x2,x3⟩|⟨x1,x2,x3⟩
 ·have e2:sumTo gs.size (λa=>(upd K i k' a).late)=1:=by have:=Bd K k' GS.late hlt;simp only[fh,x1,m3]at this;omega
  refine .inr (.inr (.inl ⟨m1,m2,e2,trivial,m5,λm hm dT=> ?_,λm hm dT=> ?_⟩))
  ·by_cases cV:m=i
   ·subst cV;rw[bu]at dT;exact x2 dT
   ·rw[ba _ _ cV]at dT;have:=ab8 m3 hlt hm cV fh;rw[<- GS.mu]at this;rcases dT with e|e<;>rw[e]at this<;>cases this
  ·by_cases cV:m=i
   ·subst cV;rw[bu]at dT;exact x3 dT
   ·rw[ba _ _ cV]at dT;have:=ab8 m3 hlt hm cV fh;rw[<- GS.mu,dT]at this;cases this
 ·have e2:sumTo gs.size (λa=>(upd K i k' a).late)=0:=by have:=Bd K k' GS.late hlt;simp only[fh,x1,m3]at this;omega
  exact .inr (.inr (.inr (.inl ⟨m1,m2,e2,trivial,x2,x3,m5⟩)))
def Inv.anZ(h:Inv P n0 W0 V gs w t K Im ic (some p) st)(aJ:p.recv=true){i n:Nat}{gi:Te}(hi:0<i)(aN:gs[i]?=some gi)(hK:K i=.load n)(jB:ED P p.Wg (VH t i) gi):gH P n0 W0 V gs w sl t K Im ic (some p) st i:=by
 have hlt:i<gs.size:=(Tl.1 aN).1;obtain⟨s,hs,gw,iR,hm⟩:=h.mode aJ;have fh:(K i).late=1:=by rw[hK];rfl
 obtain⟨m1,m2,m3,m4,m5,m6,m7⟩:=hm.DC hlt fh;obtain⟨hd,bK,g',aT,n',dQ⟩:=jB;have hW:=m6 (by rw[hK];exact .inl rfl);exact h.MU aJ (k':=.store n') (a:=dZ p.Wg) hi aN (aT w hW) hd (.inl rfl) (.inl rfl) (.inl rfl) dQ rfl rfl (by rw[hK];rfl) (by rw[hK];rfl) rfl rfl fh (.inl ⟨rfl,λ_=>hW,λx=>by cases x⟩) (by rw[hK];exact .inl (by simp[GS.c9]))
def Inv.asl(h:Inv P n0 W0 V gs w t K Im ic (some p) st)(aJ:p.recv=true){i n:Nat}{gi:Te}(hi:0<i)(aN:gs[i]?=some gi)(hK:K i=.store n)(jB:EF P p.Wg (VH t i) gi):gH P n0 W0 V gs w sl t K Im ic (some p) st i:=by
 have hlt:i<gs.size:=(Tl.1 aN).1;obtain⟨s,hs,gw,iR,hm⟩:=h.mode aJ;have fh:(K i).late=1:=by rw[hK];rfl
 obtain⟨m1,m2,m3,m4,m5,m6,m7⟩:=hm.DC hlt fh;obtain⟨hd,bK,g',aT,n',dQ⟩:=jB;have hW:=m6 (by rw[hK];exact .inr rfl);exact h.MU aJ (k':=.my n') (a:=dZ p.Wg) hi aN (aT w hW) hd (.inr (.inl rfl)) (.inl rfl) (.inr ⟨_,rfl⟩) dQ rfl rfl (by rw[hK];rfl) (by rw[hK];rfl) rfl rfl fh (.inl ⟨rfl,λx=>(x.elim (λy=>by cases y) (λy=>by cases y)),λ_=>hW.H2 0⟩) (by rw[hK];exact .inl (by simp[GS.c9]))
def Inv.ary(h:Inv P n0 W0 V gs w t K Im ic (some p) st)(aJ:p.recv=true){i n:Nat}{gi:Te}(hi:0<i)(aN:gs[i]?=some gi)(hK:K i=.my n)(jB:EE P p.Wg (VH t i) gi):gH P n0 W0 V gs w sl t K Im ic (some p) st i:=by
 have hlt:i<gs.size:=(Tl.1 aN).1;obtain⟨s,hs,gw,iR,hm⟩:=h.mode aJ;have fh:(K i).late=1:=by rw[hK];rfl
 obtain⟨m1,m2,m3,m4,m5,m6,m7⟩:=hm.DC hlt fh;obtain⟨hd,bK,LA,g',aT,q,ml⟩:=jB;have hW:=m7 (by rw[hK];rfl);have aH:ic≠i:=λe=>by have:=(Mode.waits hm).2;rw[e,fh]at this;cases this
 refine h.MU aJ (k':=.gone q) (a:=oO p.Wg) hi aN (aT w hW) hd (.inr (.inr (.inr rfl))) (.inr rfl) (.inr ⟨_,rfl⟩) ml rfl rfl (by rw[hK];rfl) (by rw[hK];rfl) rfl rfl fh (.inr ⟨rfl,hW.ac8 1,λg hg=> ?_⟩) (by rw[hK];exact .inl (by simp[GS.c9]));rcases getElem?_next hlt hg with⟨e,_⟩|⟨_,y,hy,rfl⟩
 ·exact absurd e aH
 ·have x8:=h.is ic y gw hy;simp only at x8;have dT:(∃n,K ic=.said n)\/∃n,K ic=.hO n:=by
   cases xK:K ic<;>rw[xK]at m5<;>simp[GS.shape]at m5
   ·exact .inl ⟨_,rfl⟩
   ·exact .inr ⟨_,rfl⟩
  rcases dT with⟨n1,e⟩|⟨n1,e⟩
  ·rw[e]at x8;have hr:y.status=.running:=gZ.running (λd g x=>x.2.1) x8;rw[Ya hr];exact hr
  ·rw[e]at x8;rcases x8 with x8|⟨_,g1,rfl,K9⟩
   ·have hr:y.status=.running:=cS.running (λd g x=>x.2.1) x8;rw[Ya hr];exact hr
   ·have Lf:g'.status=.running\/g'.status=.finished:=Za ml;unfold woken;have ak0:(mayWake P gi&&g'.status != .blocked&&g'.status != .waiting)=true:=(by rcases Lf with hs|hs<;>simp[LA,hs]);rw[if_pos ak0];unfold ZV;have:=K9.2.2.1;simp[this]
def Mode.af1{c Wg N k:Nat}{s:ek}(hm:Mode P c Wg N w gs t K ic s)(e:(K ic).shape=.head k 0):
  (∃n,w.heap[c]?=some (.chan 0 #[] false n n false))/\s=.early/\(sumTo N λi=>(K i).late)=0/\(sumTo N λi=>(K i).cnt)<=4/\WgAt P Wg w (((sumTo N λi=>(K i).cnt:Nat):Int)* KK) 0/\(sumTo N λi=>(K i).cnt)<k:=by
 unfold Mode at hm;simp only[e]at hm;rcases hm with m|m|m|m|m|m|m
 ·obtain⟨a,b,c,d,f,x⟩:=m;refine⟨a,b,c,d,f,?_⟩;rcases x with⟨k',x,y⟩|⟨v,x,_⟩
  ·cases x;exact y
  ·cases x
 ·rcases m.2.2.2.2.2.2 with x|x<;>cases x
 ·rcases m.2.2.2.2.1 with x|x<;>cases x
 ·rcases m.2.2.2.2.2.2 with x|x<;>cases x
 ·rcases m.2.2.2.2.2 with x|x<;>cases x
 ·rcases m.2.2.2.2 with x|x<;>cases x
 ·cases m.2.2.2
def Mode.af0{c Wg N v:Nat}{s:ek}(hm:Mode P c Wg N w gs t K ic s)(e:(K ic).shape=.mc v 0):
  (∃n,w.heap[c]?=some (.chan 0 #[] false n n false))/\s=.early/\(sumTo N λi=>(K i).late)=0/\(sumTo N λi=>(K i).cnt)<=4/\WgAt P Wg w (((sumTo N λi=>(K i).cnt:Nat):Int)* KK) 0/\(sumTo N λi=>(K i).cnt)<=v/\0<v:=by
 unfold Mode at hm;simp only[e]at hm;rcases hm with m|m|m|m|m|m|m
 ·obtain⟨a,b,c,d,f,x⟩:=m;refine⟨a,b,c,d,f,?_⟩;rcases x with⟨k',x,y⟩|⟨v,x,y⟩
  ·cases x
  ·cases x;exact y
 ·rcases m.2.2.2.2.2.2 with x|x<;>cases x
 ·rcases m.2.2.2.2.1 with x|x<;>cases x
 ·rcases m.2.2.2.2.2.2 with x|x<;>cases x
 ·rcases m.2.2.2.2.2 with x|x<;>cases x
 ·rcases m.2.2.2.2 with x|x<;>cases x
 ·cases m.2.2.2
def Mode.Pf{c Wg N:Nat}{s:ek}(hm:Mode P c Wg N w gs t K ic s)(e:(K ic).shape=.last 0\/(K ic).shape=.acq 0):
  (∃n,w.heap[c]?=some (.chan 0 #[] false n n false))/\s=.early/\(sumTo N λi=>(K i).late)=0/\(sumTo N λi=>(K i).cnt)=0/\WgAt P Wg w 0 0:=by
 unfold Mode at hm;rcases hm with m|m|m|m|m|m|m
 ·rcases m.2.2.2.2.2 with⟨_,x,_⟩|⟨_,x,_⟩<;>rcases e with e|e<;>rw[e]at x<;>cases x
 ·rcases m.2.2.2.2.2.2 with x|x<;>rcases e with e|e<;>rw[e]at x<;>cases x
 ·rcases m.2.2.2.2.1 with x|x<;>rcases e with e|e<;>rw[e]at x<;>cases x
 ·rcases m.2.2.2.2.2.2 with x|x<;>rcases e with e|e<;>rw[e]at x<;>cases x
 ·exact⟨m.1,m.2.1,m.2.2.1,m.2.2.2.1,m.2.2.2.2.1⟩
 ·rcases m.2.2.2.2 with x|x<;>rcases e with e|e<;>rw[e]at x<;>cases x
 ·have x:=m.2.2.2;rcases e with e|e<;>rw[e]at x<;>cases x
def Mode.Pg{c Wg N:Nat}{s:ek}(hm:Mode P c Wg N w gs t K ic s)(e:(K ic).shape=.look 0\/(K ic).shape=.close 0):
  (∃n,w.heap[c]?=some (.chan 0 #[] false n n false))/\s=.got/\(sumTo N λi=>(K i).late)=0/\(sumTo N λi=>(K i).cnt)=0:=by
 unfold Mode at hm;rcases hm with m|m|m|m|m|m|m
 ·rcases m.2.2.2.2.2 with⟨_,x,_⟩|⟨_,x,_⟩<;>rcases e with e|e<;>rw[e]at x<;>cases x
 ·rcases m.2.2.2.2.2.2 with x|x<;>rcases e with e|e<;>rw[e]at x<;>cases x
 ·rcases m.2.2.2.2.1 with x|x<;>rcases e with e|e<;>rw[e]at x<;>cases x
 ·rcases m.2.2.2.2.2.2 with x|x<;>rcases e with e|e<;>rw[e]at x<;>cases x
 ·rcases m.2.2.2.2.2 with x|x<;>rcases e with e|e<;>rw[e]at x<;>cases x
 ·exact⟨m.1,m.2.1,m.2.2.1,m.2.2.2.1⟩
 ·have x:=m.2.2.2;rcases e with e|e<;>rw[e]at x<;>cases x
def Mode.Ph{c Wg N:Nat}{s:ek}(hm:Mode P c Wg N w gs t K ic s)(e:(K ic).shape=.said 0\/(K ic).shape=.hO 0):
  (∃n,w.heap[c]?=some (.chan 0 #[] false n n false))/\s=.early/\((∃st,WgAt P Wg w st 0)\/((sumTo N λi=>(K i).late)=0/\(sumTo N λi=>(K i).cnt)=0/\WgAt P Wg w 0 1))/\
  ∀{w':Ul}{gs':SR}{u:U6}{k':GS},(k'.shape=.said 0\/k'.shape=.hO 0)->w'.heap[c]?=w.heap[c]?->w'.heap[Wg]?=w.heap[Wg]?->(WgAt P Wg w 0 1->∀g,gs'[ic]?=some g->g.status=.running)->ic<N->Mode P c Wg N w' gs' (t++u) (upd K ic k') ic s:=by
 have wait:∀{k:GS},(k.shape=.said 0\/k.shape=.hO 0)->k.cnt=0/\k.late=0:=λ{k} h=>by rw[<- GS.nw,<- GS.mu];rcases h with h|h<;>rw[h]<;>exact⟨rfl,rfl⟩
 have tail:∀(w':Ul)(gs':SR)(u:U6)(k':GS),(k'.shape=.said 0\/k'.shape=.hO 0)->w'.heap[c]?=w.heap[c]?->w'.heap[Wg]?=w.heap[Wg]?->(WgAt P Wg w 0 1->∀g,gs'[ic]?=some g->g.status=.running)->ic<N->Mode P c Wg N w' gs' (t++u) (upd K ic k') ic s:=by
  intro w' gs' u k' hk hc hW hr fX;have e1:sumTo N (λi=>(upd K ic k' i).cnt)=sumTo N λi=>(K i).cnt:=lA K k' GS.cnt (by rw[(wait hk).1,(wait e).1]);have e2:sumTo N (λi=>(upd K ic k' i).late)=sumTo N λi=>(K i).late:=lA K k' GS.late (by rw[(wait hk).2,(wait e).2]);have e3:∀st sm,WgAt P Wg w' st sm=WgAt P Wg w st sm:=λst sm=>by unfold WgAt;rw[hW]
  have e5:∀i (q:GS),(q=.load 0\/q=.store 0\/q=.my 0)->(upd K ic k' i).shape=q->(K i).shape=q:=λi q hq hs=>by
   by_cases hi:i=ic
   ·subst hi;rw[bu]at hs;rcases hk with x|x<;>rw[x]at hs<;>subst hs<;>rcases hq with y|y|y<;>cases y
   ·rw[ba _ _ hi]at hs;exact hs
  unfold Mode at hm⊢;simp only[e1,e2,e3,hc,bu];rcases hm with m|m|m|m|m|m|m
  ·rcases m.2.2.2.2.2 with⟨_,x,_⟩|⟨_,x,_⟩<;>rcases e with e|e<;>rw[e]at x<;>cases x
  ·exact .inr (.inl ⟨m.1,m.2.1,m.2.2.1,m.2.2.2.1,m.2.2.2.2.1,m.2.2.2.2.2.1,hk⟩)
  ·exact .inr (.inr (.inl ⟨m.1,m.2.1,m.2.2.1,m.2.2.2.1,hk,λi hi x=>m.2.2.2.2.2.1 i hi (x.imp (e5 i _ (.inl rfl)) (e5 i _ (.inr (.inl rfl)))),λi hi x=>m.2.2.2.2.2.2 i hi (e5 i _ (.inr (.inr rfl)) x)⟩))
  ·exact .inr (.inr (.inr (.inl ⟨m.1,m.2.1,m.2.2.1,m.2.2.2.1,m.2.2.2.2.1,hr m.2.2.2.2.1,hk⟩)))
  ·rcases m.2.2.2.2.2 with x|x<;>rcases e with e|e<;>rw[e]at x<;>cases x
  ·rcases m.2.2.2.2 with x|x<;>rcases e with e|e<;>rw[e]at x<;>cases x
  ·have x:=m.2.2.2;rcases e with e|e<;>rw[e]at x<;>cases x
 have iF:=hm;unfold Mode at hm;rcases hm with m|m|m|m|m|m|m
 ·rcases m.2.2.2.2.2 with⟨_,x,_⟩|⟨_,x,_⟩<;>rcases e with e|e<;>rw[e]at x<;>cases x
 ·exact⟨m.1,m.2.1,.inl ⟨_,m.2.2.2.2.2.1⟩,λ{w'} {gs'} {u} {k'}=>tail w' gs' u k'⟩
 ·refine⟨m.1,m.2.1,.inl ?_,λ{w'} {gs'} {u} {k'}=>tail w' gs' u k'⟩;have:∃i,i<N/\(K i).late=1:=by
   apply Uj;intro fi;have hz:sumTo N (λi=>(K i).late)=sumTo N λ_=>0:=VY λi hi=>by
    have aH:¬(K i).late=1:=λx=>fi ⟨i,hi,x⟩;cases kX:K i<;>rw[kX]at aH<;>first|rfl|exact absurd rfl aH
   have h0:sumTo N (λ_=>0)=0:=by
    have:∀N,sumTo N (λ_=>0)=0:=λN=>(by induction N with|zero=>rfl|succ N ih=>simp[sumTo,ih]);exact this N
   have:=m.2.2.1;omega
  obtain⟨i,hi,fh⟩:=this;obtain⟨_,_,_,_,_,m6,m7⟩:=iF.DC hi fh;cases kX:K i<;>rw[kX]at fh m6 m7<;>simp[GS.late]at fh
  ·exact⟨1,m6 (.inl rfl)⟩
  ·exact⟨1,m6 (.inr rfl)⟩
  ·exact⟨0,m7 rfl⟩
 ·exact⟨m.1,m.2.1,.inr ⟨m.2.2.1,m.2.2.2.1,m.2.2.2.2.1⟩,λ{w'} {gs'} {u} {k'}=>tail w' gs' u k'⟩
 ·rcases m.2.2.2.2.2 with x|x<;>rcases e with e|e<;>rw[e]at x<;>cases x
 ·rcases m.2.2.2.2 with x|x<;>rcases e with e|e<;>rw[e]at x<;>cases x
 ·have x:=m.2.2.2;rcases e with e|e<;>rw[e]at x<;>cases x
def Hd(Im:cr):mE {noView with ab:=Im} {noView with ab:=Im}:=⟨λ_=> .inr rfl,λ_ _=> .inr rfl,λ_ _ _=>rfl⟩
def anI(Im:cr):mE noView {noView with ab:=Im}:=⟨λ_=> .inr rfl,λ_ _=> .inl rfl,λb hb=>absurd rfl hb⟩
def Inv.zq(h:Inv P n0 W0 V gs w t K Im ic (some p) st)(aJ:p.recv=true){gi bz:Te}{es:SO}{k':GS}{a:Wp}{s:ek}(hs:st=some s)(aN:gs[ic]?=some gi)(aT:stepG P false gi w=.go bz w' es)(hd:VH t ic=1)
  (ha:Atom a es) (zV:a=dZ p.Wg\/a=oO p.Wg) (nQ:w'=w\/∃x,w'=w.setCell a x) (hk:k'.is P p.c p.Wg Im p.Ss 1 bz) (hv:k'.view Im={noView with ab:=Im}) (uO:(K ic).view Im={noView with ab:=Im}) (cZ:k'.idx=none) (uF:(K ic).idx=none)
  (gK:∃n,w.heap[p.c]?=some (.chan 0 #[] false n n false))
  (ya:Mode P p.c p.Wg gs.size w' ((gs.map (woken P gi bz w')).setIfInBounds ic bz) (t++Ua ic gi.frame.fn gi.frame.place es) (upd K ic k') ic s) (uL:qO k'.c9 (K ic).c9):gH P n0 W0 V gs w sl t K Im ic (some p) st ic:=by
 obtain⟨s',_,gw,_,_⟩:=h.mode aJ;exact h.E_ aJ hs gw aN aT hd ha zV nQ hk (by rw[hv,uO];exact Hd Im) (λ_=>rfl) cZ uF (.inl rfl) gK ya uL
def Inv.alm(h:Inv P n0 W0 V gs w t K Im ic (some p) st)(aJ:p.recv=true){k n:Nat}{gi:Te}(aN:gs[ic]?=some gi)(hK:K ic=.head k n)(jB:eI P Im p.c p.Wg k (VH t ic) gi):gH P n0 W0 V gs w sl t K Im ic (some p) st ic:=by
 obtain⟨s,hs,gw,iR,hm⟩:=h.mode aJ;obtain⟨m1,m2,m3,m4,m5,m6⟩:=hm.af1 (k:=k) (by rw[hK];rfl);obtain⟨k,rfl⟩:∃k',k=k'+1:=⟨k-1,by omega⟩;obtain⟨hd,bK,GF⟩:=eI.succ _ _ _ _ jB;obtain⟨g',aT,hz,Ak⟩:=GF _ (by omega) m4;have lO:=aT w m5;have uf:∀k':GS,k'.cnt=0->k'.late=0->sumTo gs.size (λi=>(upd K ic k' i).cnt)=(sumTo gs.size λi=>(K i).cnt)/\sumTo gs.size (λi=>(upd K ic k' i).late)=(sumTo gs.size λi=>(K i).late):=λk' h1 h2=>
  ⟨lA K k' GS.cnt (by rw[h1,hK];rfl),lA K k' GS.late (by rw[h2,hK];rfl)⟩
 by_cases hv:(sumTo gs.size λi=>(K i).cnt)=0
 ·obtain⟨n',dQ⟩:=hz hv;refine h.zq aJ (k':=.acq n') (a:=dZ p.Wg) hs aN lO hd (.inl rfl) (.inl rfl) (.inl rfl) dQ rfl (by rw[hK];rfl) rfl (by rw[hK];rfl) m1 ?_ (by rw[hK];exact .inl (by simp[GS.c9];omega));unfold Mode;simp only[(uf (.acq n') rfl rfl).1,(uf (.acq n') rfl rfl).2,bu];refine .inr (.inr (.inr (.inr (.inl ⟨m1,m2,m3,hv,?_,.inr rfl⟩))));rw[hv]at m5;simpa using m5
 ·obtain⟨n',dQ⟩:=Ak hv;refine h.zq aJ (k':=.mc (sumTo gs.size λi=>(K i).cnt) n') (a:=dZ p.Wg) hs aN lO hd (.inl rfl) (.inl rfl) (.inl rfl) dQ rfl (by rw[hK];rfl) rfl (by rw[hK];rfl) m1 ?_ (by rw[hK];exact .inl (by simp[GS.c9];omega));unfold Mode;simp only[(uf (.mc _ n') rfl rfl).1,(uf (.mc _ n') rfl rfl).2,bu];exact .inl ⟨m1,m2,m3,m4,m5,.inr ⟨_,rfl,Tm _,by omega⟩⟩
def Inv.ag3(h:Inv P n0 W0 V gs w t K Im ic (some p) st)(aJ:p.recv=true){v n:Nat}{gi:Te}(aN:gs[ic]?=some gi)(hK:K ic=.mc v n)(jB:EA P p.c p.Wg Im v (VH t ic) gi):gH P n0 W0 V gs w sl t K Im ic (some p) st ic:=by
 obtain⟨s,hs,gw,iR,hm⟩:=h.mode aJ;obtain⟨m1,m2,m3,m4,m5,m6,m7⟩:=hm.af0 (v:=v) (by rw[hK];rfl);obtain⟨hd,bK,⟨g1,GD,n1,amq⟩,alF⟩:=jB;have ri:p.c≠p.Wg:=h.phase.2.2.1;have uf:∀k':GS,k'.cnt=0->k'.late=0->sumTo gs.size (λi=>(upd K ic k' i).cnt)=(sumTo gs.size λi=>(K i).cnt)/\sumTo gs.size (λi=>(upd K ic k' i).late)=(sumTo gs.size λi=>(K i).late):=λk' h1 h2=>
  ⟨lA K k' GS.cnt (by rw[h1,hK];rfl),lA K k' GS.late (by rw[h2,hK];rfl)⟩
 by_cases hv:(sumTo gs.size λi=>(K i).cnt)=v
 ·refine h.zq aJ (k':=.said n1) (a:=dZ p.Wg) hs aN (GD w (by rw[<- hv];exact m5)) hd (.inr (.inr (.inl rfl))) (.inl rfl) (.inr ⟨_,rfl⟩) amq rfl (by rw[hK];rfl) rfl (by rw[hK];rfl) m1 ?_ (by rw[hK];exact .inl (by simp[GS.c9];omega));unfold Mode;simp only[(uf (.said n1) rfl rfl).1,(uf (.said n1) rfl rfl).2,bu];refine .inr (.inl ⟨?_,m2,m3,by omega,m4,?_,.inl rfl⟩)
  ·obtain⟨n,hn⟩:=m1;exact⟨n,by rw[wh _ _ _ (Ne.symm ri)];exact hn⟩
  ·rw[hv];exact m5.H2 _
 ·obtain⟨g',lO,n',dQ⟩:=alF (sumTo gs.size λi=>(K i).cnt) (by omega);refine h.zq aJ (k':=.head v n') (a:=dZ p.Wg) hs aN (lO w m5) hd (.inl rfl) (.inl rfl) (.inl rfl) dQ rfl (by rw[hK];rfl) rfl (by rw[hK];rfl) m1 ?_ (by rw[hK];exact .inl (by simp[GS.c9]));unfold Mode;simp only[(uf (.head v n') rfl rfl).1,(uf (.head v n') rfl rfl).2,bu];exact .inl ⟨m1,m2,m3,m4,m5,.inl ⟨v,rfl,by omega⟩⟩
def Inv.anf(h:Inv P n0 W0 V gs w t K Im ic (some p) st)(aJ:p.recv=true){n:Nat}{gi:Te}(aN:gs[ic]?=some gi)(hK:K ic=.last n)(jB:IG P Im p.c p.Wg (VH t ic) gi):gH P n0 W0 V gs w sl t K Im ic (some p) st ic:=by
 obtain⟨s,hs,gw,iR,hm⟩:=h.mode aJ;obtain⟨m1,m2,m3,m4,m5⟩:=hm.Pf (.inl (by rw[hK];rfl));obtain⟨hd,bK,g',aT,n',dQ⟩:=jB;refine h.zq aJ (k':=.acq n') (a:=dZ p.Wg) hs aN (aT w m5) hd (.inl rfl) (.inl rfl) (.inl rfl) dQ rfl (by rw[hK];rfl) rfl (by rw[hK];rfl) m1 ?_ (by rw[hK];exact .inl (by simp[GS.c9]));unfold Mode;have e1:sumTo gs.size (λi=>(upd K ic (.acq n') i).cnt)=0:=by rw[lA K (.acq n') GS.cnt (by rw[hK];rfl)];exact m4
 have e2:sumTo gs.size (λi=>(upd K ic (.acq n') i).late)=0:=by rw[lA K (.acq n') GS.late (by rw[hK];rfl)];exact m3
 simp only[e1,e2,bu];exact .inr (.inr (.inr (.inr (.inl ⟨m1,m2,trivial,trivial,m5,.inr rfl⟩))))
def Inv.ahh(h:Inv P n0 W0 V gs w t K Im ic (some p) st)(aJ:p.recv=true){n:Nat}{gi:Te}(aN:gs[ic]?=some gi)(hK:K ic=.hO n)(jB:EC P Im p.c p.Wg (VH t ic) gi):gH P n0 W0 V gs w sl t K Im ic (some p) st ic:=by
 obtain⟨s,hs,gw,iR,hm⟩:=h.mode aJ;obtain⟨m1,m2,m3,mk⟩:=hm.Ph (.inr (by rw[hK];rfl));obtain⟨hd,bK,alQ,v_,g',aaJ,n',dQ⟩:=jB;have ri:p.c≠p.Wg:=h.phase.2.2.1;rcases m3 with⟨stv,hW⟩|⟨m4,m5,hW⟩
 ·
  have aT:=v_ w stv hW;have alK:¬WgAt P p.Wg w 0 1:=λx=>by have:=(hW.inj x).2;cases this
  refine h.tJ aJ (k':=.hO 0) (s':=s) gw aN aT (.inr ⟨rfl,gi,rfl,by rw[hd];exact⟨rfl,bK,alQ,v_,g',aaJ,n',dQ⟩⟩) (by rw[hK];exact Hd Im) (λ_=>rfl) rfl (λj hj=>by rw[hK]at hj;cases hj) (.inl rfl) (by simp) (by simp) (by simp) rfl (λ_ _ _=>rfl) rfl rfl rfl
   (mk (.inr rfl) rfl rfl (λx=>absurd x alK) iR) (.inl m1) ?_ ?_
  ·have e0:t++Ua ic gi.frame.fn gi.frame.place #[]=t:=(by simp[Ua]);have hr:Rest p.Wg t K ic st:=h.out.2.2.1;rw[hs]at hr;refine hr.app (λidx a ha hx=> .inr (hx.app (by obtain⟨op,az,_⟩:=VG ha;exact Uz az) λm _ _ hj=> .inl ?_)) (λidx a _ ⟨op,az,_⟩ _=>by simp[Ua]at az);by_cases cV:m=ic
   ·subst cV;rw[hK]at hj;cases hj
   ·rw[ba _ _ cV];exact hj
  ·by_cases hn:n=0
   ·refine .inr ⟨funext λj=> ?_,?_⟩
    ·by_cases hj:j=ic
     ·subst hj;simp only[bu,hK,hn]
     ·simp only[ba _ _ hj]
    ·simp only[flag];rw[T8 (by simpa using iR),aN];simp[bK]
   ·exact yy iR (by rw[hK];exact .inr ⟨rfl,.inr ⟨rfl,by simp only[GS.c9];omega⟩⟩)
 ·refine h.zq aJ (k':=.last n') (a:=oO p.Wg) hs aN (aaJ w hW) hd (.inr (.inr (.inr rfl))) (.inr rfl) (.inr ⟨_,rfl⟩) dQ rfl (by rw[hK];rfl) rfl (by rw[hK];rfl) m1 ?_ (by rw[hK];exact .inl (by simp[GS.c9]));unfold Mode;have e1:sumTo gs.size (λi=>(upd K ic (.last n') i).cnt)=0:=by rw[lA K (.last n') GS.cnt (by rw[hK];rfl)];exact m5
  have e2:sumTo gs.size (λi=>(upd K ic (.last n') i).late)=0:=by rw[lA K (.last n') GS.late (by rw[hK];rfl)];exact m4
  simp only[e1,e2,bu];obtain⟨n,hn⟩:=m1;exact .inr (.inr (.inr (.inr (.inl ⟨⟨n,by rw[wh _ _ _ (Ne.symm ri)];exact hn⟩,m2,trivial,trivial,hW.ac8 0,.inl rfl⟩))))
def Inv.arb(h:Inv P n0 W0 V gs w t K Im ic (some p) st)(aJ:p.recv=true){n:Nat}{gi:Te}(aN:gs[ic]?=some gi)(hK:K ic=.said n)(jB:EB P Im p.c p.Wg (VH t ic) gi):gH P n0 W0 V gs w sl t K Im ic (some p) st ic:=by
 obtain⟨s,hs,gw,iR,hm⟩:=h.mode aJ;obtain⟨m1,m2,m3,mk⟩:=hm.Ph (.inl (by rw[hK];rfl));obtain⟨hd,bK,g',aT,n',dQ⟩:=jB;have nJ:∀e∈#[jW (.write (oO p.Wg))],e=jW (.write (oO p.Wg)):=λe he=>by simpa using he
 have aaE:g'.status=.running:=cS.running (λd g x=>x.2.1) dQ;refine h.tJ aJ (k':=.hO n') (s':=s) gw aN (aT w) (.inl (by rw[hd];exact dQ)) (by rw[hK];exact Hd Im) (λ_=>rfl) rfl (λj hj=>by rw[hK]at hj;cases hj) (.inl rfl) (λe he x hx=> .inr (.inl ?_)) (λe he=> ?_) (λe he a=> ?_) rfl (λ_ _ _=>rfl) rfl rfl rfl
  (mk (.inr rfl) rfl rfl (λ_ g hg=> ?_) iR) (.inl m1) ?_ (yy iR (by rw[hK];exact .inl (by simp[GS.c9])))
 ·rw[nJ e he]at hx;cases hx;exact⟨rfl,rfl,rfl⟩
 ·rw[nJ e he];exact h.low.2
 ·rw[nJ e he];simp[jW,Up]
 ·rcases getElem?_next iR hg with⟨_,rfl⟩|⟨aH,_⟩
  ·exact aaE
  ·exact absurd rfl aH
 ·have hr:Rest p.Wg t K ic st:=h.out.2.2.1;rw[hs,m2]at hr;rw[m2];refine hr.app (λidx a ha hx=> .inr (hx.app (by obtain⟨op,az,_⟩:=VG ha;exact Uz az) λm _ _ hj=> .inl ?_)) (λidx a _ ⟨op,az,xZ,_⟩ _=> .inr (.inr ⟨ic,?_,gw,.inr (.inl rfl)⟩))
  ·by_cases cV:m=ic
   ·subst cV;rw[hK]at hj;cases hj
   ·rw[ba _ _ cV];exact hj
  ·obtain⟨e,_,rfl⟩:=UD az;simp[Xk,xZ]
def Py{t:U6}{g i j:Nat}(hi:t.g? i=some g)(hj:t.g? j=some g)(h:i<=j):Before t i j:=by
 rcases Nat.eq_or_lt_of_le h with rfl|h
 ·exact .inl rfl
 ·obtain⟨a,ha,rfl⟩:=Uq.1 hi;obtain⟨b,hb,hg⟩:=Uq.1 hj;exact .inr (.single (.inl ⟨h,by simp[Xk,ha,hb,hg]⟩))
def Inv.afl(h:Inv P n0 W0 V gs w t K Im ic (some p) st)(aJ:p.recv=true){n:Nat}{gi:Te}(aN:gs[ic]?=some gi)(hK:K ic=.acq n)(jB:tP P Im p.c p.Wg (VH t ic) gi):gH P n0 W0 V gs w sl t K Im ic (some p) st ic:=by
 obtain⟨s,hs,gw,iR,hm⟩:=h.mode aJ;obtain⟨m1,m2,m3,m4,m5⟩:=hm.Pf (.inr (by rw[hK];rfl));obtain⟨hd,bK,g',aT,n',dQ⟩:=jB;have nJ:∀e∈#[jW (.acquire (dZ p.Wg))],e=jW (.acquire (dZ p.Wg)):=λe he=>by simpa using he
 have aaE:g'.status=.running:=cS.running (λd g x=>x.2.1) dQ;refine h.tJ aJ (k':=.look n') (s':=.got) gw aN (aT w) (by rw[hd];exact dQ) (by rw[hK];exact Hd Im) (λ_=>rfl) rfl (λj hj=>by rw[hK]at hj;cases hj) (.inl rfl) (λe he x hx=> ?_) (λe he=> ?_) (λe he a=> ?_) rfl (λ_ _ _=>rfl) rfl rfl rfl
  ?_ (.inl m1) ?_ (yy iR (by rw[hK];exact .inl (by simp[GS.c9])))
 ·rw[nJ e he]at hx;cases hx
 ·rw[nJ e he];exact h.low.2
 ·rw[nJ e he];simp[jW,Up]
 ·unfold Mode;have e1:sumTo gs.size (λi=>(upd K ic (.look n') i).cnt)=0:=by rw[lA K (.look n') GS.cnt (by rw[hK];rfl)];exact m4
  have e2:sumTo gs.size (λi=>(upd K ic (.look n') i).late)=0:=by rw[lA K (.look n') GS.late (by rw[hK];rfl)];exact m3
  simp only[e1,e2,bu];exact .inr (.inr (.inr (.inr (.inr (.inl ⟨m1,trivial,trivial,trivial,.inl rfl⟩)))))
 ·have hr:Rest p.Wg t K ic st:=h.out.2.2.1;rw[hs,m2]at hr;rw[ofEvents_one];refine hr.app (λidx a ha hx=> .inr ?_) (λidx a _ ⟨op,az,_,hx⟩ _=> ?_)
  ·obtain⟨i,Lc,eR,hx⟩:=hx;have alJ:=h.core.ti.norel;have own:t.g? idx=some ic->W5 (t++#[{g:=ic,fn:=gi.frame.fn,pos:=gi.frame.place,act:=.ofEvent (jW (.acquire (dZ p.Wg)))}]) ic idx:=λe=>by
    obtain⟨op,ho,pn⟩:=Uq.1 e;rw[<- pn];exact(YF ho).app _
   rcases hx with hx|rfl|⟨r,rC,hle⟩
   ·exfalso;have alu:i<gs.size:=by
     obtain⟨op,ho,pn⟩:=Uq.1 Lc;rw[<- pn];exact h.core.ti.gs op (XD ho)
    have ez:(K i).cnt=1:=by cases kX:K i<;>rw[kX]at hx<;>first|rfl|cases hx
    have hle:(K i).cnt<=sumTo gs.size λi=>(K i).cnt:=W_ (f:=λi=>(K i).cnt) alu;omega
   ·exact own Lc
   ·exact afm rC.act rC.heard alJ ⟨rfl,rfl⟩ hd (Py Lc rC.g hle)
  ·simp only[UC,Th,Tv,or_false]at az;subst az;cases hx
def Rest.got{Wg:Nat}(hr:Rest Wg t K ic (some .got)){es:SO}{fn:UH}{pos:String}{K':Nat->GS}:Rest Wg (t++Ua ic fn pos es) K' ic (some .got):=by
 refine hr.app (λidx a ha hx=> .inr (av1 _ hx)) (λidx a _ ⟨op,az,cZ,_⟩ _=> .inr (.inr ?_));obtain⟨e,_,rfl⟩:=UD az;exact YF cZ
def Inv.an0(h:Inv P n0 W0 V gs w t K Im ic (some p) st)(aJ:p.recv=true){n:Nat}{gi:Te}(aN:gs[ic]?=some gi)(hK:K ic=.look n)(jB:IH P Im p.c (VH t ic) gi):gH P n0 W0 V gs w sl t K Im ic (some p) st ic:=by
 obtain⟨s,hs,gw,iR,hm⟩:=h.mode aJ;obtain⟨m1,m2,m3,m4⟩:=hm.Pg (.inl (by rw[hK];rfl));obtain⟨hd,bK,b,o,x,g',lJ,aT,n',dQ⟩:=jB;have fA:Sat ((K ic).view Im) w:=by have:=h.core.sat ic iR;rwa[show bD V Im K ic=(K ic).view Im by simp[bD];omega]at this
 have o4:=fA.ab b o x (by rw[hK];exact lJ);have hb:=fA.Dt (show ((K ic).view Im).ab b o=some x by rw[hK];exact lJ);have nJ:∀e∈(#[⟨.cell ⟨b,o,none⟩,false,false⟩]:SO),e=⟨.cell ⟨b,o,none⟩,false,false⟩:=λe he=>by simpa using he
 have cD:=h.blind gw;refine h.tJ aJ (k':=.close n') (s':=.got) gw aN (aT w o4) (by rw[hd];exact dQ) (by rw[hK];exact anI Im) (λ_=>rfl) rfl (λj hj=>by rw[hK]at hj;cases hj) (.inl rfl) (λe he y hy=> .inr (.inr ?_)) (λe he=> ?_) (λe he a=> ?_) rfl (λ_ _ _=>rfl) rfl rfl rfl
  ?_ (.inl m1) ?_ (yy iR (by rw[hK];exact .inl (by simp[GS.c9])))
 ·rw[nJ e he]at hy;cases hy;refine⟨λdT=> ?_,.inr (by rw[hK];show Im b o≠none;rw[lJ];simp),rfl⟩;have e1:b=p.Wg:=dT;have:=cD.2.2.2 o;rw[hK]at this;have e2:Im p.Wg o=none:=this;rw[<- e1,lJ]at e2;cases e2
 ·rw[nJ e he];exact hb
 ·rw[nJ e he];simp[Up]
 ·unfold Mode;have e1:sumTo gs.size (λi=>(upd K ic (.close n') i).cnt)=0:=by rw[lA K (.close n') GS.cnt (by rw[hK];rfl)];exact m4
  have e2:sumTo gs.size (λi=>(upd K ic (.close n') i).late)=0:=by rw[lA K (.close n') GS.late (by rw[hK];rfl)];exact m3
  simp only[e1,e2,bu];exact .inr (.inr (.inr (.inr (.inr (.inl ⟨m1,trivial,trivial,trivial,.inr rfl⟩)))))
 ·have hr:Rest p.Wg t K ic st:=h.out.2.2.1;rw[hs,m2]at hr;exact hr.got
def Inv.ag9(h:Inv P n0 W0 V gs w t K Im ic (some p) st)(aJ:p.recv=true){n:Nat}{gi:Te}(aN:gs[ic]?=some gi)(hK:K ic=.close n)(jB:IF P p.c (VH t ic) gi):gH P n0 W0 V gs w sl t K Im ic (some p) st ic:=by
 obtain⟨s,hs,gw,iR,hm⟩:=h.mode aJ;obtain⟨⟨nn,m1⟩,m2,m3,m4⟩:=hm.Pg (.inr (by rw[hK];rfl));obtain⟨hd,bK,LA,g',aT,q,ml⟩:=jB;have lO:=aT w nn m1;have fJ:∀e∈(#[⟨.obj p.c,false,true⟩,⟨.obj p.c,true,true⟩]:SO),e=⟨.obj p.c,false,true⟩\/e=⟨.obj p.c,true,true⟩:=λe he=>by simpa using he
 have LD:∀j,0<j->j<gs.size->j≠ic->(K j).idx=none:=λj _ hj _=>by
  have hle:(K j).cnt<=sumTo gs.size λi=>(K i).cnt:=W_ (f:=λi=>(K i).cnt) hj;exact GS.aaT (by omega)
 have Lf:g'.status=.running\/g'.status=.finished:=Za ml;have ri:p.c≠p.Wg:=h.phase.2.2.1;have KU:=h.low.1;have eu:Ua ic gi.frame.fn gi.frame.place #[⟨.obj p.c,false,true⟩,⟨.obj p.c,true,true⟩]=#[{g:=ic,fn:=gi.frame.fn,pos:=gi.frame.place,act:=.ofEvent ⟨.obj p.c,false,true⟩},{g:=ic,fn:=gi.frame.fn,pos:=gi.frame.place,act:=.close p.c}]:=by simp[Ua,Up]
 have g1:=qY (t:=t) (show (#[({g:=ic,fn:=gi.frame.fn,pos:=gi.frame.place,act:=.ofEvent ⟨.obj p.c,false,true⟩}:WU),{g:=ic,fn:=gi.frame.fn,pos:=gi.frame.place,act:=.close p.c}]:U6)[1]?=some _ from rfl);have nO:∀op∈(#[({g:=ic,fn:=gi.frame.fn,pos:=gi.frame.place,act:=.ofEvent ⟨.obj p.c,false,true⟩}:WU),{g:=ic,fn:=gi.frame.fn,pos:=gi.frame.place,act:=.close p.c}]:U6),still op.act:=by
  intro op az;simp only[UC,Th,Tv,or_false]at az;rcases az with rfl|rfl<;>exact⟨by simp[Up],by simp[Up]⟩
 have R7:∃n,({w with heap:=w.heap.setIfInBounds p.c (.chan 0 #[] true nn nn false)}:Ul).heap[p.c]?=some (.chan 0 #[] true n n false):=⟨nn,by simp[KU]⟩;refine h.tJ aJ (k':=.gone q) (s':=.shut (t.size+1)) gw aN lO (by rw[hd];exact ml) (by rw[hK];exact He _) (λ_=>rfl) rfl (λj hj=>by rw[hK]at hj;cases hj) (.inl rfl) (λe he x hx=> .inl ?_) (λe he=> ?_) (λe he a=> ?_) (by simp) (λb hb _=>by simp[Xp,Ne.symm hb]) rfl rfl rfl
  ?_ (.inr ⟨LD,λg hg=>aph gw hg LA Lf R7⟩) ?_ (yy iR (by rw[hK];exact .inl (by simp[GS.c9])))
 ·rcases fJ e he with rfl|rfl
  ·cases hx;exact⟨rfl,rfl⟩
  ·cases hx
 ·rcases fJ e he with rfl|rfl
  ·exact KU
  ·exact KU
 ·rcases fJ e he with rfl|rfl<;>simp[Up]
 ·unfold Mode;have e1:sumTo gs.size (λi=>(upd K ic (.gone q) i).cnt)=0:=by rw[lA K (.gone q) GS.cnt (by rw[hK];rfl)];exact m4
  have e2:sumTo gs.size (λi=>(upd K ic (.gone q) i).late)=0:=by rw[lA K (.gone q) GS.late (by rw[hK];rfl)];exact m3
  simp only[e1,e2,bu];obtain⟨n,hn⟩:=R7;refine .inr (.inr (.inr (.inr (.inr (.inr ⟨⟨t.size+1,n,rfl,?_,?_,hn⟩,trivial,trivial,rfl⟩)))))
  ·rw[eu];exact ZC g1
  ·rw[eu];exact heard_new (k:=1) rfl rfl (by rw[uh nO (by simp)];exact hd)
 ·have hr:Rest p.Wg t K ic st:=h.out.2.2.1;rw[hs,m2]at hr;rw[eu];refine hr.app (λidx a ha hx=> .inr (.inr (Knows.hb_new hx (by omega) g1 rfl))) (λidx a hi ⟨op,az,cZ,_⟩ _=> .inr (.inr ?_));have hlt:idx<t.size+2:=by have:=Uz cZ;simpa using this
  have pn:op.g=ic:=by
   simp only[UC,Th,Tv,or_false]at az;rcases az with rfl|rfl<;>rfl
  exact Py (g:=ic) (by simp[Xk,cZ,pn]) (by simp[Xk,g1]) (by omega)
structure EN (P:Tg)(n0:Nat)(W0:Ul)(V:View)(gs:Array Te)(w:Ul)(sl:Option (Nat×Nat))(t:U6)(Im:cr)(ic:Nat)(p:Phase)(st:Option ek)(g:Te)(i:Nat):Prop where
 intro::
 met:∃gs' w' ops K' j sp S v kP Ow,runT P (crowd gs w sl) i=(.next (crowd gs' w' sl),ops)/\gs'.size=gs.size/\ko gs' (UM g (.tuple #[v,.bool true]))/\p.Ss[j]?=some (sp::S)/\sp v kP Ow/\(∀b,V.own b≠none->Ow b=none)/\(∀b o,V.own b≠none->kP b o≠none->V.ab b o≠none)/\
  (∃w,Sat V w/\(∀b o x,kP b o=some x->w.cell? ⟨b,o,none⟩=some x)/\∀b x,Ow b=some x->w.heap[b]?=some x)/\
  Inv P n0 W0 (nR V kP Ow (.recv p.c p.Wg (p.Ss.set j S))) gs' w' (t++ops) K' Im ic (some {p with Ss:=p.Ss.set j S}) st
def Inv.arz(h:Inv P n0 W0 V gs w t K Im ic (some p) st)(aJ:p.recv=true)(iM:V.deaf=0){g:Te}(hm:n5 gs g p.c){i j:Nat}{gi:Te}{hh h':Ht}{Vi V₁:View}{c Wg:Nat}{sp:Spec}{S:TH}{v z:T5}{B:Nat->Bool}(hi:0<i)(aN:gs[i]?=some gi)
  (hK:K i=.work j hh Vi) (hg:d_ Vi V₁) (hr:V₁.role=.work c Wg (sp::S)) (hd:V₁.deaf=0) (aT:stepG P false gi w=.comm gi #[scase c v z] true .send w #[])
  (th:sp v V₁.ab (lX B V₁)) (hk:lE P h' (lS B V₁ (.work c Wg S)) (UM gi undef)):EN P n0 W0 V gs w sl t Im ic p st g i:=by
 have hlt:i<gs.size:=(Tl.1 aN).1;have dc:=h.is i gi hi aN;simp only[hK,GS.is]at dc;obtain⟨bt,_,S',hS,ji⟩:=dc;rw[hg.role,ji]at hr;cases hr;have ez:(K i).cnt=1:=by rw[hK];rfl
 obtain⟨⟨n,gK⟩,lm⟩:=h.counted hi hlt ez;have eR:(i==0)=false:=by simp;omega
 obtain⟨g0,z0,h0,ld,iP,mQ⟩:=hm;have hp:partners (gs.setIfInBounds i ph) p.c false=[(0,0)]:=by
  have FQ:(gs.setIfInBounds i ph)[0]?=some (parked g0 #[rcase p.c z0] (.recv true)):=by rw[Tq (by omega)];exact h0
  rw[partners_one FQ (λm x hm hx=> ?_),offersAt_parked_recv]
  ·simp
  ·rcases XO gs i m x hx with⟨_,rfl⟩|⟨_,jC⟩
   ·exact YD _ _
   ·exact ab6 (h.is m x (by omega) jC) _
 have bK:=crowd_send_meets (P:=P) (sl:=sl) (i:=i) aN (by rw[eR];exact aT) gK (by omega) h0 hp;rw[Zt,avZ]at bK;have mo:(K i).view Im=Vi:=by rw[hK];rfl
 have aX:((gs.setIfInBounds 0 (UM g0 (recvd true v true))).setIfInBounds i (UM gi undef)).size=gs.size:=by simp
 have aO:VH t i=0:=by rw[bt,<- hg.deaf,hd]
 have Dh:Sat V₁ w:=by
  have:=h.core.sat i hlt;rw[show bD V Im K i=(K i).view Im by simp[bD];omega,mo]at this;exact hg.sat w this
 have L1:Sat V w:=by have:=h.core.sat 0 h.pos;rwa[show bD V Im K 0=V by simp[bD]]at this
 have uH:=h.met (gs':=(gs.setIfInBounds 0 (UM g0 (recvd true v true))).setIfInBounds i (UM gi undef)) (w':=w.setChan p.c 0 #[] false (n+1) (n+1) false) (gi:=gi) (h':=h') (V₁:=V₁) (S:=S) (sp:=sp) (B:=B) aJ iM hi hlt (by rw[hK];rfl) (by rw[mo];exact hg) (by rw[hg.role,ji]) hd aO hS hk aX
  (by rw[T8 (by simpa using hlt)]) (λm hm iF=>by rw[Tq (Ne.symm hm),Tq (by omega)])
  (u:=Ua i gi.frame.fn gi.frame.place #[]++#[{g:=i,fn:=gi.frame.fn,pos:=gi.frame.place,act:=.send p.c n},{g:=0,fn:=g0.frame.fn,pos:=g0.frame.place,act:=.recv p.c n 0},
    {g:=i,fn:=gi.frame.fn,pos:=gi.frame.place,act:=.sendDone p.c n},{g:=0,fn:=g0.frame.fn,pos:=g0.frame.place,act:=.recvDone p.c n}]) (s:=n) (by simp only[Ua,Z0,if_true,XC];rfl) ⟨rfl,rfl⟩ ⟨rfl,rfl⟩ ⟨rfl,rfl⟩ ⟨rfl,rfl⟩
  (by simp[Xh]) (λb hb=>by simp[Xh,Xp,Ne.symm hb]) ⟨n+1,by simp[Xh,h.low.1]⟩ rfl rfl rfl
 refine⟨_,_,_,_,j,sp,S,v,V₁.ab,lX B V₁,bK,aX,⟨UM g0 (recvd true v true),?_,rfl,?_,iP,mQ⟩,hS,th,uH.1,uH.2.1,⟨w,L1,Dh.ab,λb x e=> ?_⟩,uH.2.2⟩
 ·rw[Tq (by omega),T8 h.pos]
 ·simp only[UM,ld];rfl
 ·unfold lX at e;split at e
  ·exact Dh.own b x e
  ·cases e
def Inv.aqD(h:Inv P n0 W0 V gs w t K Im ic (some p) st)(aJ:p.recv=true)(iM:V.deaf=0){g:Te}{z:T5}(hm:ko gs g)(aT:stepG P true g w=.comm g #[rcase p.c z] true (.recv true) w #[])
  (hw:∃i j h' V₁ V₂ g1 v z1,0<i/\i<gs.size/\K i=.nW j h' V₁ V₂ g1 v z1):EN P n0 W0 V gs w sl t Im ic p st g 0:=by
 obtain⟨g0,h0,hf0,ld,iP,mQ⟩:=hm;have lm:stepG P (0==0) g0 w=.comm g #[rcase p.c z] true (.recv true) w #[]:=by rw[<- aT];exact Yh ld iP mQ w
 obtain⟨i0,j0,a0,a1,a2,a3,a4,a5,b0,b1,b2⟩:=hw;have akZ:(K i0).cnt=1:=by rw[b2];rfl
 obtain⟨⟨n,gK⟩,GD⟩:=h.counted b0 b1 akZ;have qy:gs[i0]?=some gs[i0]:=Tf b1;have fI:∀j k,(j,k)∈partners (gs.setIfInBounds 0 ph) p.c true->k=0/\j≠0/\∃gj vj zj NZ,gs[j]?=some (parked gj #[scase p.c vj zj] NZ):=by
  intro j k hjk;obtain⟨x,hx,hk⟩:=mem_partners.1 hjk;rcases XO gs 0 j x hx with⟨_,rfl⟩|⟨hj0,jC⟩
  ·rw[YD]at hk;cases hk
  ·rcases GS.runs (h.is j x (by omega) jC)with hr|⟨hf,_⟩|⟨q,h',V1,V2,g1,v,z1,e⟩|⟨_,hb,ho⟩
   ·rw[Vz (by rw[hr];simp)]at hk;cases hk
   ·rw[Vz (by rw[hf];simp)]at hk;cases hk
   ·have:=h.is j x (by omega) jC;simp only[e,GS.is]at this;obtain⟨_,_,rfl,_⟩:=this;rw[aq']at hk;simp at hk;exact⟨hk,hj0,g1,v,z1,.send,jC⟩
   ·have:offersAt x p.c true=[]:=(by unfold offersAt;simp[hb,ho]);rw[this]at hk;cases hk
 have aH:partners (gs.setIfInBounds 0 ph) p.c true≠[]:=by
  intro e;have fJ:(i0,0)∈partners (gs.setIfInBounds 0 ph) p.c true:=by
   have:=h.is i0 _ b0 qy;simp only[b2,GS.is]at this;obtain⟨_,_,jh,_⟩:=this;refine mem_partners.2 ⟨gs[i0],by rw[Tq (by omega)];exact qy,?_⟩;rw[jh,aq'];simp
  rw[e]at fJ;cases fJ
 obtain⟨i,gj,vj,zj,NZ,d,eR,aN,bK⟩:=crowd_recv_meets_some (P:=P) (sl:=sl) h0 lm gK aH fI;have hi:0<i:=by omega
 have hlt:i<gs.size:=(Tl.1 aN).1;obtain⟨j,h',V₁,V₂,g1,v,z1,hK⟩:∃j h' V₁ V₂ g1 v z1,K i=.nW j h' V₁ V₂ g1 v z1:=by
  rcases GS.runs (h.is i _ hi aN)with hr|⟨hf,_⟩|x|⟨_,_,ho⟩
  ·cases hr
  ·cases hf
  ·exact x
  ·cases ho
 have dc:=h.is i _ hi aN;simp only[hK,GS.is]at dc;obtain⟨bt,hd,jh,hk,sp,S,B,hS,ji,th,zP⟩:=dc;have efr:gj.frame=g1.frame/\gj.callers=g1.callers/\gj.dying=g1.dying/\vj=v/\zj=z1/\NZ=.send:=by
  simp only[parked,avY,Uh,VQ]at jh;obtain⟨e1,e2,_,e3,e4,e5⟩:=jh;simp[scase]at e4;exact⟨e1,e2,e3,e4.1,e4.2,e5⟩
 obtain⟨e1,e2,e3,rfl,rfl,rfl⟩:=efr;have esv:UM gj undef=UM g1 undef:=by simp[UM,e1,e2,e3]
 rw[avZ,Zt,esv]at bK;subst zP;have mo:(K i).view Im=V₁:=by rw[hK];rfl
 have aX:((gs.setIfInBounds i (UM g1 undef)).setIfInBounds 0 (UM g (recvd true vj true))).size=gs.size:=by simp
 have Dh:Sat V₁ w:=by
  have:=h.core.sat i hlt;rwa[show bD V Im K i=(K i).view Im by simp[bD];omega,mo]at this
 have L1:Sat V w:=by have:=h.core.sat 0 h.pos;rwa[show bD V Im K 0=V by simp[bD]]at this
 have uH:=h.met (gs':=(gs.setIfInBounds i (UM g1 undef)).setIfInBounds 0 (UM g (recvd true vj true))) (w':=(w.at d).setChan p.c 0 #[] false (n+1) (n+1) false) (gi:=g1) (h':=h') (V₁:=V₁) (S:=S) (sp:=sp) (B:=B) aJ iM hi hlt (by rw[hK];rfl) (by rw[mo];exact d_.refl _) ji hd bt hS hk aX
  (by rw[Tq (by omega),T8 hlt]) (λm hm iF=>by rw[Tq (by omega),Tq (Ne.symm hm)])
  (u:=Ua 0 g0.frame.fn g0.frame.place #[]++#[{g:=i,fn:=gj.frame.fn,pos:=gj.frame.place,act:=.send p.c n},{g:=0,fn:=g.frame.fn,pos:=g.frame.place,act:=.recv p.c n 0},
    {g:=i,fn:=gj.frame.fn,pos:=gj.frame.place,act:=.sendDone p.c n},{g:=0,fn:=g.frame.fn,pos:=g.frame.place,act:=.recvDone p.c n}]) (s:=n) (by simp only[Ua,Z0,if_true,XC];rfl) ⟨rfl,rfl⟩ ⟨rfl,rfl⟩ ⟨rfl,rfl⟩ ⟨rfl,rfl⟩
  (by simp[Xh,World.at]) (λb hb=>by simp[Xh,World.at,Xp,Ne.symm hb]) ⟨n+1,by simp[Xh,World.at,h.low.1]⟩ rfl rfl rfl
 refine⟨_,_,_,_,j,sp,S,vj,V₁.ab,lX B V₁,bK,aX,⟨UM g (recvd true vj true),?_,rfl,rfl,rfl,rfl⟩,hS,th,uH.1,uH.2.1,⟨w,L1,Dh.ab,λb x e=> ?_⟩,uH.2.2⟩
 ·rw[T8 (by simpa using h.pos)]
 ·unfold lX at e;split at e
  ·exact Dh.own b x e
  ·cases e
end
open Go.Conc Go.ConcN
section
variable {P:Tg}{n0:Nat}{W0:Ul}{V:View}{gs gs':SR}{w w':Ul}{sl:S8}{t:U6}{K:Nat->GS}{Im:cr}{ic:Nat}{ph:TC}{p:Phase}{st st':TJ}
def Inv.tK(h:Inv P n0 W0 V gs w t K Im ic (some p) st){i n:Nat}{gi:Te}{Stop:SZ}{mk:Nat->GS}(hi:0<i)(aN:gs[i]?=some gi)(hK:K i=mk n)(dQ:cS P Stop n (VH t i) gi)
  (pj:∀n d g,cS P Stop n d g->(mk n).is P p.c p.Wg Im p.Ss d g) (dT:∀n m,(mk n).shape=(mk m).shape) (Me:∀n m,(mk n).view Im=(mk m).view Im) (LY:∀n,qO (mk n).c9 (mk (n+1)).c9) (Ar:∀d g,Stop d g->g.status=.running)
  (hgo:Stop (VH t i) gi->gH P n0 W0 V gs w sl t K Im ic (some p) st i):gH P n0 W0 V gs w sl t K Im ic (some p) st i:=by
 cases n with
 |zero=>exact hgo dQ
 |succ n=>
  rcases dQ with hs|⟨hr,g',es,hm,aT,hs⟩
  ·exact hgo hs
  ·exact h.slip (k':=mk n) hi aN (aT w) hm (pj _ _ _ hs) (λx=>by rw[cS.running Ar hs]at x;cases x) (by rw[hK];exact dT _ _) (by rw[hK];exact Me _ _) (λ_=>cS.running Ar hs) (by rw[hK];exact LY n)
def Inv.adf(h:Inv P n0 W0 V gs w t K Im ic (some p) st){i n:Nat}{gi:Te}{Stop:SZ}{mk:Nat->GS}(hi:0<i)(aN:gs[i]?=some gi)(hK:K i=mk n)(hW:∃x y,WgAt P p.Wg w x y)(dQ:gZ P p.Wg Stop n (VH t i) gi)
  (pj:∀n d g,gZ P p.Wg Stop n d g->(mk n).is P p.c p.Wg Im p.Ss d g) (dT:∀n m,(mk n).shape=(mk m).shape) (Me:∀n m,(mk n).view Im=(mk m).view Im) (LY:∀n,qO (mk n).c9 (mk (n+1)).c9) (Ar:∀d g,Stop d g->g.status=.running)
  (hgo:Stop (VH t i) gi->gH P n0 W0 V gs w sl t K Im ic (some p) st i):gH P n0 W0 V gs w sl t K Im ic (some p) st i:=by
 cases n with
 |zero=>exact hgo dQ
 |succ n=>
  rcases dQ with hs|⟨hr,g',es,hm,aT,hs⟩
  ·exact hgo hs
  ·exact h.slip (k':=mk n) hi aN (aT w _ _ hW.choose_spec.choose_spec) hm (pj _ _ _ hs) (λx=>by rw[gZ.running Ar hs]at x;cases x) (by rw[hK];exact dT _ _) (by rw[hK];exact Me _ _) (λ_=>gZ.running Ar hs) (by rw[hK];exact LY n)
def Inv.other(h:Inv P n0 W0 V gs w t K Im ic ph st){g:Te}(pi:ko gs g\/∃p,ph=some p/\p.recv=true/\V.deaf=0/\n5 gs g p.c){i:Nat}{gi:Te}(hi:0<i)(aN:gs[i]?=some gi)(bK:gi.status=.running):
  gH P n0 W0 V gs w sl t K Im ic ph st i\/∃p,ph=some p/\EN P n0 W0 V gs w sl t Im ic p st g i/\n5 gs g p.c:=by
 have hlt:i<gs.size:=(Tl.1 aN).1;have dc:=h.out.1 i gi hi aN;have gone:∀q,K i=.gone q->YR P q (VH t i) gi->gH P n0 W0 V gs w sl t K Im ic ph st i:=by
  intro q hK hq;cases q with
  |zero=>rw[hq.1]at bK;cases bK
  |succ q=>
   rcases hq with⟨hf,_⟩|⟨_,g',es,hm,aT,te⟩
   ·rw[hf]at bK;cases bK
   ·refine h.slip (k':=.gone q) hi aN (aT w) hm ?_ (λx=>by rcases te.status with e|e<;>rw[e]at x<;>cases x) (by rw[hK];rfl) (by rw[hK];rfl) (λx=>by rw[hK]at x;rcases x with x|x<;>cases x) (by rw[hK];exact .inr ⟨rfl,.inr ⟨rfl,Ve _⟩⟩);cases ph with
    |none=>exact⟨q,rfl,te⟩
    |some p=>exact te
 cases ph with
 |none=>
  obtain⟨q,hK,hq⟩:=dc;exact .inl (gone q hK hq)
 |some p=>
  have eZ:(K i).is P p.c p.Wg Im p.Ss (VH t i) gi:=dc;have qq:(K i).idx=none->(∀q,K i≠ .gone q)->p.recv=true:=λh1 h2=>by
   cases aJ:p.recv with
   |true=>rfl
   |false=>
    have hx:=h.phase.2.2.2.2.2.2.2.2.2;rw[if_neg (by rw[aJ];simp)]at hx;rcases hx.2.2.2.1 i hi hlt with x|⟨q,x⟩
    ·rw[h1]at x;cases x
    ·exact absurd x (h2 q)
  cases hK:K i with
  |gone q=>rw[hK]at eZ;exact .inl (gone q hK eZ)
  |nW j h' V1 V2 g0 v z=>
   rw[hK]at eZ;obtain⟨_,_,rfl,_⟩:=eZ;cases bK
  |work j hh Vi=>
   rw[hK]at eZ;obtain⟨hd,Mg,S,hS,ji⟩:=eZ;have mo:bD V Im K i=Vi:=(by simp[bD,hK,GS.view];omega);have fA:Sat Vi w:=(by have:=h.core.sat i hlt;rwa[mo]at this);cases Mg with
   |step G' W' E' V' hs hg h1 h2 h3=>
    exact .inl (h.aeg hi aN hK (h1 w (hg.sat w fA)) (da.rR hg (h2 w (hg.sat w fA))) (h3 w (hg.sat w fA)) (.mk _ w))
   |send c Wg sp S1 v z B hs hg hr bA ho h1 h2 h3=>
    have er:nd.work p.c p.Wg S=.work c Wg (sp::S1):=(by rw[<- ji,<- hg.role,hr]);cases er;rcases pi with hm|⟨p',Am,aJ,iM,hm⟩
    ·exact .inl (h.atB hm hi aN hK hg hr bA (h1 w (hg.sat w fA)) h2 h3)
    ·cases Am;exact .inr ⟨p,rfl,h.arz aJ iM hm hi aN hK hg hr bA (h1 w (hg.sat w fA)) h2 h3,hm⟩
   |done c Wg hg hr bA h1=>
    have er:nd.work p.c p.Wg S=.work c Wg []:=(by rw[<- ji,<- hg.role,hr]);cases er;refine .inl (h.release ?_ hi aN hK hg hr bA h1);cases aJ:p.recv with
    |true=>rfl
    |false=>
     have hx:=h.phase.2.2.2.2.2.2.2.2.2;rw[if_neg (by rw[aJ];simp)]at hx;exact absurd rfl (hx.2.2.2.2.1 [] (Uf hS))
   |slip c Wg hs hg hr h1 h3=>
    have er:nd.work p.c p.Wg S=.work c Wg []:=(by rw[<- ji,<- hg.role,hr]);cases er;have aJ:p.recv=true:=by
     cases aJ:p.recv with
     |true=>rfl
     |false=>
      have hx:=h.phase.2.2.2.2.2.2.2.2.2;rw[if_neg (by rw[aJ];simp)]at hx;exact absurd rfl (hx.2.2.2.2.1 [] (Uf hS))
    obtain⟨s,hW⟩:=h.ahg aJ hlt (by rw[hK];rfl);exact .inl (h.aeg hi aN hK (h1 w s (hg.sat w fA) hW) (da.rR hg (da.idle (hg.sat w fA))) h3 (Bv.mk (λ_=>_) w))
  |add n=>
   rw[hK]at eZ;have aJ:=qq (by rw[hK];rfl) (λq=>by rw[hK];simp);exact .inl (h.tK (mk:=.add) hi aN hK eZ (λ_ _ _ x=>x) (λ_ _=>rfl) (λ_ _=>rfl) (λn=> .inr ⟨rfl,.inr ⟨rfl,Ve _⟩⟩) (λ_ _ x=>x.2.1) (λhs=>h.afp aJ hi aN hK hs))
  |load n=>
   rw[hK]at eZ;have aJ:=qq (by rw[hK];rfl) (λq=>by rw[hK];simp);exact .inl (h.tK (mk:=.load) hi aN hK eZ (λ_ _ _ x=>x) (λ_ _=>rfl) (λ_ _=>rfl) (λn=> .inr ⟨rfl,.inr ⟨rfl,Ve _⟩⟩) (λ_ _ x=>x.2.1) (λhs=>h.anZ aJ hi aN hK hs))
  |store n=>
   rw[hK]at eZ;have aJ:=qq (by rw[hK];rfl) (λq=>by rw[hK];simp);exact .inl (h.tK (mk:=.store) hi aN hK eZ (λ_ _ _ x=>x) (λ_ _=>rfl) (λ_ _=>rfl) (λn=> .inr ⟨rfl,.inr ⟨rfl,Ve _⟩⟩) (λ_ _ x=>x.2.1) (λhs=>h.asl aJ hi aN hK hs))
  |my n=>
   rw[hK]at eZ;have aJ:=qq (by rw[hK];rfl) (λq=>by rw[hK];simp);exact .inl (h.tK (mk:=.my) hi aN hK eZ (λ_ _ _ x=>x) (λ_ _=>rfl) (λ_ _=>rfl) (λn=> .inr ⟨rfl,.inr ⟨rfl,Ve _⟩⟩) (λ_ _ x=>x.2.1) (λhs=>h.ary aJ hi aN hK hs))
  |head k n=>
   rw[hK]at eZ;have aJ:=qq (by rw[hK];rfl) (λq=>by rw[hK];simp);have fX:i=ic:=h.rY hi (by rw[hK];rfl);exact .inl (h.tK (mk:=.head k) hi aN hK eZ (λ_ _ _ x=>x) (λ_ _=>rfl) (λ_ _=>rfl) (λn=> .inr ⟨rfl,.inr ⟨rfl,Ve _⟩⟩) (λ_ _ x=>Si x) (λhs=>by subst fX;exact h.alm aJ aN hK hs))
  |mc v n=>
   rw[hK]at eZ;have aJ:=qq (by rw[hK];rfl) (λq=>by rw[hK];simp);have fX:i=ic:=h.rY hi (by rw[hK];rfl);exact .inl (h.tK (mk:=.mc v) hi aN hK eZ (λ_ _ _ x=>x) (λ_ _=>rfl) (λ_ _=>rfl) (λn=> .inr ⟨rfl,.inr ⟨rfl,Ve _⟩⟩) (λ_ _ x=>x.2.1) (λhs=>by subst fX;exact h.ag3 aJ aN hK hs))
  |said n=>
   rw[hK]at eZ;have aJ:=qq (by rw[hK];rfl) (λq=>by rw[hK];simp);have fX:i=ic:=h.rY hi (by rw[hK];rfl);exact .inl (h.adf (mk:=.said) hi aN hK (h.O1 aJ (n:=n) (.inr (by rw[<- fX];exact hK))) eZ (λ_ _ _ x=>x) (λ_ _=>rfl) (λ_ _=>rfl) (λn=> .inr ⟨rfl,.inr ⟨rfl,Ve _⟩⟩) (λ_ _ x=>x.2.1) (λhs=>by subst fX;exact h.arb aJ aN hK hs))
  |hO n=>
   rw[hK]at eZ;have aJ:=qq (by rw[hK];rfl) (λq=>by rw[hK];simp);have fX:i=ic:=h.rY hi (by rw[hK];rfl);rcases eZ with eZ|⟨_,g1,rfl,_⟩
   ·exact .inl (h.tK (mk:=.hO) hi aN hK eZ (λ_ _ _ x=> .inl x) (λ_ _=>rfl) (λ_ _=>rfl) (λn=> .inr ⟨rfl,.inr ⟨rfl,Ve _⟩⟩) (λ_ _ x=>x.2.1) (λhs=>by subst fX;exact h.ahh aJ aN hK hs))
   ·cases bK
  |last n=>
   rw[hK]at eZ;have aJ:=qq (by rw[hK];rfl) (λq=>by rw[hK];simp);have fX:i=ic:=h.rY hi (by rw[hK];rfl);exact .inl (h.tK (mk:=.last) hi aN hK eZ (λ_ _ _ x=>x) (λ_ _=>rfl) (λ_ _=>rfl) (λn=> .inr ⟨rfl,.inr ⟨rfl,Ve _⟩⟩) (λ_ _ x=>x.2.1) (λhs=>by subst fX;exact h.anf aJ aN hK hs))
  |acq n=>
   rw[hK]at eZ;have aJ:=qq (by rw[hK];rfl) (λq=>by rw[hK];simp);have fX:i=ic:=h.rY hi (by rw[hK];rfl);exact .inl (h.adf (mk:=.acq) hi aN hK (h.O1 aJ (n:=n) (.inl (by rw[<- fX];exact hK))) eZ (λ_ _ _ x=>x) (λ_ _=>rfl) (λ_ _=>rfl) (λn=> .inr ⟨rfl,.inr ⟨rfl,Ve _⟩⟩) (λ_ _ x=>x.2.1) (λhs=>by subst fX;exact h.afl aJ aN hK hs))
  |look n=>
   rw[hK]at eZ;have aJ:=qq (by rw[hK];rfl) (λq=>by rw[hK];simp);have fX:i=ic:=h.rY hi (by rw[hK];rfl);exact .inl (h.tK (mk:=.look) hi aN hK eZ (λ_ _ _ x=>x) (λ_ _=>rfl) (λ_ _=>rfl) (λn=> .inr ⟨rfl,.inr ⟨rfl,Ve _⟩⟩) (λ_ _ x=>x.2.1) (λhs=>by subst fX;exact h.an0 aJ aN hK hs))
  |close n=>
   rw[hK]at eZ;have aJ:=qq (by rw[hK];rfl) (λq=>by rw[hK];simp);have fX:i=ic:=h.rY hi (by rw[hK];rfl);exact .inl (h.tK (mk:=.close) hi aN hK eZ (λ_ _ _ x=>x) (λ_ _=>rfl) (λ_ _=>rfl) (λn=> .inr ⟨rfl,.inr ⟨rfl,Ve _⟩⟩) (λ_ _ x=>x.2.1) (λhs=>by subst fX;exact h.ag9 aJ aN hK hs))
def Inv.awake(h:Inv P n0 W0 V gs w t K Im ic ph st){g:Te}(pi:ko gs g\/∃p,ph=some p/\p.recv=true/\V.deaf=0/\n5 gs g p.c):∀x∈gs,awake x:=by
 intro x hx;obtain⟨i,hi⟩:=ZE.1 hx;rcases VD i with rfl|eR
 ·rcases pi with⟨g0,h0,h1,_⟩|⟨p,_,_,_,g0,z,h0,_⟩
  ·rw[hi]at h0;cases h0;intro s;rw[h1];simp
  ·rw[hi]at h0;cases h0;intro s;simp[parked]
 ·have dc:=h.out.1 i x eR hi;intro s;cases ph with
  |none=>
   obtain⟨q,_,hq⟩:=dc;rcases hq.status with e|e<;>rw[e]<;>simp
  |some p=>
   rcases GS.runs (show (K i).is P p.c p.Wg Im p.Ss (VH t i) x from dc)with e|⟨e,_⟩|⟨j,h',V1,V2,g1,v,z,e⟩|⟨_,e,_⟩
   ·rw[e];simp
   ·rw[e];simp
   ·have eZ:(K i).is P p.c p.Wg Im p.Ss (VH t i) x:=dc;rw[e]at eZ;obtain⟨_,_,rfl,_⟩:=eZ;simp[parked]
   ·rw[e];simp
end
open Go.Conc Go.ConcN
def Ok (P:Tg)(Post:T5->Ul->Prop)(m:awr)(t:U6):Prop:=
 ∃M last o w' t',runNT P (M+1) m t=(.ended o w',t')/\runN P M m=.next last/\step P last=.ended o w'/\Yq P Post last o w' t'
section
variable {P:Tg}{Post:T5->Ul->Prop}
def Ok.step{m m':awr}{t:U6}{ops:Array WU}(hs:stepT P m=(.next m',ops))(h:Ok P Post m' (t++ops)):Ok P Post m t:=by
 obtain⟨M,last,o,w',t',h1,h2,h3,h4⟩:=h;refine⟨M+1,last,o,w',t',?_,?_,h3,h4⟩
 ·rw[runNT,hs];exact h1
 ·have:avV P m=.next m':=by unfold avV;rw[hs]
  rw[runN,this];exact h2
def Ok.end{m:awr}{t:U6}{o:Outcome}{w':Ul}{ops:Array WU}(hs:stepT P m=(.ended o w',ops))(h:Yq P Post m o w' (t++ops)):Ok P Post m t:=by
 refine⟨0,m,o,w',t++ops,?_,rfl,?_,h⟩
 ·simp[runNT,hs]
 ·unfold avV;rw[hs]
end
section
variable {P:Tg}{n0:Nat}{W0:Ul}{V:View}{gs gs':SR}{w w':Ul}{sl:S8}{t:U6}{K:Nat->GS}{Im:cr}{ic:Nat}{ph:TC}{p:Phase}{st st':TJ}
def Inv.draw(h:Inv P n0 W0 V gs w t K Im ic ph st)(d:Nat):Inv P n0 W0 V gs (w.at d) t K Im ic ph st:=
 let⟨a,b,c,e⟩:=h.out
 Inv.mk' h.pos h.k0 h.d0 a (b.draw d) c (by cases ph<;>exact e)
def N6{f:Nat->Nat}:∀{N:Nat},0<sumTo N f->∃i,i<N/\0<f i
 |0,h=>by simp[sumTo]at h
 |N+1,h=>by
  by_cases hN:0<f N
  ·exact⟨N,by omega,hN⟩
  ·obtain⟨i,hi,hf⟩:=N6 (N:=N) (f:=f) (by rw[sumTo]at h;omega);exact⟨i,by omega,hf⟩
def Inv.arJ(h:Inv P n0 W0 V gs w t K Im ic (some p) st)(aJ:p.recv=true)(ho:za w p.c)(sR:Calm gs):∃i gi,0<i/\gs[i]?=some gi/\gi.status=.running:=by
 obtain⟨s,hs,gw,iR,hm⟩:=h.mode aJ;have h0:=h.k0;have Cm:gs[ic]?=some gs[ic]:=Tf iR;have auY:(K ic).is P p.c p.Wg Im p.Ss (VH t ic) gs[ic]:=h.is ic _ gw Cm;have run:∀i x,0<i->gs[i]?=some x->(∀q,K i≠ .gone q)->(∀n,K i≠ .hO n)->x.status=.running:=by
  intro i x hi hx h1 h2;rcases GS.runs (show (K i).is P p.c p.Wg Im p.Ss (VH t i) x from h.is i x hi hx)with e|⟨_,q,e⟩|⟨j,h',V1,V2,g1,v,z,e⟩|⟨⟨n,e⟩,_⟩
  ·exact e
  ·exact absurd e (h1 q)
  ·have cG:=h.is i x hi hx;simp only[e,GS.is]at cG;obtain⟨_,_,jh,_⟩:=cG;have:=sR i x hi hx (by rw[jh];rfl);rw[jh]at this;cases this
  ·exact absurd e (h2 n)
 have Mp:(∀q,K ic≠ .gone q)->(∀n,K ic≠ .hO n)->∃i gi,0<i/\gs[i]?=some gi/\gi.status=.running:=λa b=>⟨ic,_,gw,Cm,run ic _ gw Cm a b⟩;have other:∀i,i<gs.size->(K i).cnt=1\/(K i).late=1->∃i gi,0<i/\gs[i]?=some gi/\gi.status=.running:=by
  intro i hi hc;have eR:0<i:=by
   rcases VD i with rfl|x
   ·rw[h0]at hc;rcases hc with c|c<;>cases c
   ·exact x
  exact⟨i,_,eR,Tf hi,run i _ eR (Tf hi) (λq e=>by rw[e]at hc;rcases hc with c|c<;>cases c) (λq e=>by rw[e]at hc;rcases hc with c|c<;>cases c)⟩
 have one:∀i,0<(K i).cnt->(K i).cnt=1:=λi hi=>by cases e:K i<;>rw[e]at hi<;>first|rfl|exact absurd hi (by simp[GS.cnt])
 have aoZ:∀i,0<(K i).late->(K i).late=1:=λi hi=>by cases e:K i<;>rw[e]at hi<;>first|rfl|exact absurd hi (by simp[GS.late])
 unfold Mode at hm;rcases hm with m|m|m|m|m|m|m
 ·rcases m.2.2.2.2.2 with⟨k,e,_⟩|⟨v,e,_⟩<;>exact Mp (λq x=>by rw[x]at e;cases e) (λq x=>by rw[x]at e;cases e)
 ·obtain⟨i,hi,hc⟩:=N6 (N:=gs.size) (f:=λi=>(K i).cnt) (by have:=m.2.2.2.1;omega);exact other i hi (.inl (one i hc))
 ·obtain⟨i,hi,hc⟩:=N6 (N:=gs.size) (f:=λi=>(K i).late) (by have:=m.2.2.1;omega);exact other i hi (.inr (aoZ i hc))
 ·exact⟨ic,_,gw,Cm,m.2.2.2.2.2.1 _ Cm⟩
 ·rcases m.2.2.2.2.2 with e|e<;>exact Mp (λq x=>by rw[x]at e;cases e) (λq x=>by rw[x]at e;cases e)
 ·rcases m.2.2.2.2 with e|e<;>exact Mp (λq x=>by rw[x]at e;cases e) (λq x=>by rw[x]at e;cases e)
 ·obtain⟨⟨_,n,_,_,_,aV⟩,_⟩:=m;obtain⟨n',ho⟩:=ho;rw[aV]at ho;simp at ho
def sd(V':View)(Im:cr)(K:Nat->GS):bD V' Im K=upd (bD V Im K) 0 V':=by
 funext j;by_cases hj:j=0
 ·subst hj;rw[bu];simp[bD]
 ·rw[ba _ _ hj];simp[bD,hj]
def kM:bD V Im K 0=V:=by simp[bD]
def vC (r:nd)(ph:TC):Prop:=match r with
 |.plain=>ph=none
 |.fork c Wg Ss=>ph=some ⟨c,Wg,Ss,false⟩
 |.recv c Wg Ss=>ph=some ⟨c,Wg,Ss,true⟩
 |.work .. =>False
def Inv.aoa(h:Inv P n0 W0 V gs w t K Im ic ph st){V':View}(g:d_ V V')(hr:vC V.role ph):Inv P n0 W0 V' gs w t K Im ic ph st:=by
 obtain⟨dc,hc,mU,gL⟩:=h.out;refine Inv.mk' h.pos h.k0 (by rw[g.deaf];exact h.d0) dc ?_ mU ?_
 ·rw[sd (V:=V)];exact hc.ghost h.pos (by rw[kM];exact g)
 ·cases ph with
  |none=>exact gL
  |some p=>
   obtain⟨a1,a2,a3,a4,a5,a6,a7,a8,a9,bW⟩:=gL;refine⟨a1,a2,a3,a4,a5,a6,a7,a8,a9,?_⟩;split
   ·rename_i aJ;rw[if_pos aJ]at bW;have b:jq p V:=⟨bW.1.1,bW.1.2.1,bW.1.2.2.1,bW.1.2.2.2⟩;have b':=b.ghost g;exact⟨⟨b'.1,b'.2.1,b'.2.2.1,b'.2.2.2⟩,bW.2⟩
   ·rename_i aJ;rw[if_neg aJ]at bW;refine⟨g.chan _ _ ?_ bW.1,bW.2⟩;unfold vC at hr;split at hr
    ·cases hr
    ·cases hr;rename_i e;rw[e];rfl
    ·cases hr;exact absurd rfl aJ
    ·exact hr.elim
def Inv.abC(h:Inv P n0 W0 V gs w t K Im ic ph st){g0 g':Te}{es:SO}{V':View}(h0:gs[0]?=some g0)(s:da V w V' w' es)(hr:vC V.role ph):
  Inv P n0 W0 V' ((gs.map (woken P g0 g' w')).setIfInBounds 0 g') w' (t++Ua 0 g0.frame.fn g0.frame.place es) K Im ic ph st:=by
 obtain⟨dc,hc,mU,gL⟩:=h.out;have aX:((gs.map (woken P g0 g' w')).setIfInBounds 0 g').size=gs.size:=by simp
 have Di:∀op∈Ua 0 g0.frame.fn g0.frame.place es,op.g=0:=λop az=>by obtain⟨e,_,rfl⟩:=UD az;rfl
 have jg:∀{u:U6}{idx:Nat}{op:WU},(t++u)[idx]?=some op->op.g=0->W5 (t++u) 0 idx:=λ{u idx op} a b=>by have:=YF a;rwa[b]at this
 have R6:∀p,ph=some p->w'.heap[p.c]?=w.heap[p.c]?:=by
  rintro p rfl
  obtain⟨a1,a2,a3,a4,a5,a6,a7,a8,a9,bW⟩:=gL;by_cases aJ:p.recv=true
  ·rw[if_pos aJ]at bW;exact s.frame _ a4 bW.1.1
  ·rw[if_neg aJ]at bW;have dz:Sat V w:=(by have:=hc.sat 0 h.pos;rwa[kM]at this);have eW:V.role.chan=some p.c:=by
    unfold vC at hr;split at hr
    ·cases hr
    ·cases hr;rename_i e;rw[e];rfl
    ·cases hr;exact absurd rfl aJ
    ·exact hr.elim
   rw[s.sat.own _ _ (s.chan _ _ eW bW.1),dz.own _ _ bW.1]
 refine Inv.mk' (by rw[aX];exact h.pos) h.k0 (by rw[Deaf_own,s.deaf,h.d0]) (λj x hj hx=> ?_) ?_ ?_ ?_
 ·rcases getElem?_next h.pos hx with⟨e,_⟩|⟨_,y,hy,rfl⟩
  ·omega
  ·rw[ZM t (g:=j) (g':=0) (by omega) _ Di];have Dp:=dc j y hj hy;have Lr:j<gs.size:=(Tl.1 hy).1;cases ph with
   |none=>
    obtain⟨q,hq,pw⟩:=Dp;exact⟨q,hq,by rw[ah' pw];exact pw⟩
   |some p=>
    refine aaY ?_ Dp;rcases h.opens rfl with⟨n,x⟩|x
    ·exact .inl ⟨n,by rw[R6 p rfl];exact x⟩
    ·exact .inr (x.1 j hj Lr)
 ·rw[aX,sd (V:=V)];refine hc.step h.pos (by rw[kM];exact s) (λe he x hx hs=> ?_) g0.frame.fn g0.frame.place;cases ph with
  |none=>exact hs.elim
  |some p=>
   obtain⟨a1,a2,a3,a4,a5,a6,a7,a8,a9,bW⟩:=gL;have qe:=JO (s.fe e he) hx;by_cases aJ:p.recv=true
   ·exfalso;rw[if_pos aJ]at bW;have b:jq p V:=⟨bW.1.1,bW.1.2.1,bW.1.2.2.1,bW.1.2.2.2⟩;rcases qe.1 with y|⟨y,_⟩|y
    ·exact b.AL y.rd hs
    ·exact b.AL y hs
    ·exact y (ac9 a4 a5 hs)
   ·rw[if_neg aJ]at bW;have ji:V.role.chan=some p.c/\V.role.group=some p.Wg:=by
     unfold vC at hr;split at hr
     ·cases hr
     ·cases hr;rename_i e;rw[e];exact⟨rfl,rfl⟩
     ·cases hr;exact absurd rfl aJ
     ·exact hr.elim
    have jZ:ni (some p) gs.size ic K 0:=by
     show iZ p gs.size ic K 0;unfold iZ;rw[if_neg aJ];exact .inl rfl
    have C_:x.kind≠ .plain:=by
     intro hk;cases hl:x.loc with
     |cell a=>rw[hl]at hs;exact qe.2.2 _ a ji.2 hl hs hk
     |obj r=>rw[hl]at hs;exact qe.2.1 _ ji.1 (by rw[hl];exact congrArg _ hs)
     |_=>rw[hl]at hs;exact hs.elim
    cases hk:x.kind with
    |plain=>exact absurd hk C_
    |atomic=>exact .inl ⟨rfl,jZ⟩
    |said=>exact .inr ⟨rfl,bW.2.1.symm,jZ⟩
 ·have ww:∀idx a,t.size<=idx->(∃op∈Ua 0 g0.frame.fn g0.frame.place es,(t++Ua 0 g0.frame.fn g0.frame.place es)[idx]?=some op/\op.act.touch?=some a)->W5 (t++Ua 0 g0.frame.fn g0.frame.place es) 0 idx:=λidx a _ ⟨op,az,hi,_⟩=>jg hi (Di op az);cases st with
  |none=>
   intro idx a ha hm;rcases Be ha with gq|⟨hi,x⟩
   ·obtain⟨op,az,_⟩:=VG gq;rcases mU idx a gq hm with x|⟨x,y⟩|⟨_,z,_⟩
    ·exact .inl (x.app _)
    ·exact .inr (.inl ⟨x,λz=>y ((W2 (Uz az)).1 z)⟩)
    ·cases z
   ·exact .inl (ww idx a hi x)
  |some s'=>
   exact mU.app (λidx a ha hx=> .inr (hx.app (by obtain⟨op,az,_⟩:=VG ha;exact Uz az) λj _ _ hj=> .inl hj)) (λidx a hi x _=> .inl (ww idx a hi x))
 ·cases ph with
  |none=>exact gL
  |some p=>
   obtain⟨a1,a2,a3,a4,a5,a6,a7,a8,a9,bW⟩:=gL;refine⟨a1,a2,a3,Ub a4 s.size,Ub a5 s.size,a6,a7,λj j' m b1 b2 b3 b4=>a8 j j' m b1 (aX▸b2) b3 (aX▸b4),λj S b1 b2=>by rw[aX];exact a9 j S b1 b2,?_⟩;split
   ·rename_i aJ;rw[if_pos aJ]at bW;obtain⟨c1,c2,c3,s',c4,c5⟩:=bW;have b:jq p V:=⟨c1.1,c1.2.1,c1.2.2.1,c1.2.2.2⟩;have b':=b.step s a4 a5;refine⟨⟨b'.1,b'.2.1,b'.2.2.1,b'.2.2.2⟩,c2,by rw[aX];exact c3,s',c4,?_⟩;rw[aX];refine c5.keep (λ_=>rfl) (R6 p rfl) (s.frame _ a5 b.2.2.1) λrD g hg=> ?_;rcases getElem?_next h.pos hg with⟨e,_⟩|⟨_,y,hy,rfl⟩
    ·omega
    ·rw[Ya (rD y hy)];exact rD y hy
   ·rename_i aJ;rw[if_neg aJ]at bW;have eW:V.role.chan=some p.c:=by
     unfold vC at hr;split at hr
     ·cases hr
     ·cases hr;rename_i e;rw[e];rfl
     ·cases hr;exact absurd rfl aJ
     ·exact hr.elim
    exact⟨s.chan _ _ eW bW.1,bW.2.1,bW.2.2.1,by rw[aX];exact bW.2.2.2.1,bW.2.2.2.2.1,by rw[aX];exact bW.2.2.2.2.2⟩
end
open Go.Conc Go.ConcN
def adZ{x y:WU}{k:Nat}(hx:x.act=.go k)(hy:y.act=.start):∀op∈(#[x,y]:U6),op.act.touch?=none/\still op.act/\(∀B,op.act.low B)/\∀a,op.act≠ .mark (.release a):=by
 intro op az;simp only[UC,Th,Tv,or_false]at az;rcases az with rfl|rfl
 ·rw[hx];exact⟨rfl,⟨by simp,by simp⟩,λ_=>trivial,by simp⟩
 ·rw[hy];exact⟨rfl,⟨by simp,by simp⟩,λ_=>trivial,by simp⟩
def P0{t:U6}{N:Nat}(h:∀op∈t,op.g<N):VH t N=0:=by
 have key:∀k,k<=t.size->t.deaf N k=0:=by
  intro k;induction k with
  |zero=>intro _;rfl
  |succ k ih=>
   intro hk;have hy:t[k]?=some t[k]:=Tf (by omega);have aH:¬t[k].g=N:=(by have:=h t[k] (XP _);omega);rw[Zk hy,ih (by omega)];unfold deafStep;split<;>simp[aH]
 exact key _ (Tm _)
section
variable {VV:Nat->View}{N:Nat}{w:Ul}{t:U6}{Sh:Loc->Prop}{act act':S7}{ic kG n0:Nat}{W0:Ul}
def Core.spawn(h:Core VV N w t Sh act ic n0 W0)(h0:0<N)(aO:VH t 0=0){x y:WU}(hx:x.g=0/\x.act=.go N)(hy:y.g=N/\y.act=.start){U:View}(hi:U.ab=(VV 0).ab)(ho:U.own=λ_=>none)
  (jZ:∀i,act' i->act i\/(i=N/\act 0)) (fX:kG=ic\/(kG=N/\ic=0)):Core (upd VV N U) (N+1) w (t++#[x,y]) Sh act' kG n0 W0:=by
 have jA:=adZ hx.2 hy.2;have hdN:VH t N=0:=P0 h.ti.gs;have hk:∀{idx},W5 t 0 idx->W5 (t++#[x,y]) N idx:=λ{idx} jC=>fork_knows hx hy aO hdN jC;have hsU:Sat U w:=⟨λb o v e=>(h.sat 0 h0).ab b o v (by rw[<- hi];exact e),λb x e=>by rw[ho]at e;cases e⟩;refine⟨λi cG=> ?_,λa b ha hb dJ=> ?_,?_,h.tape,h.os,h.out,h.old,λi cG b hb=> ?_,h.n0⟩
 ·by_cases fz:i=N
  ·subst fz;rw[bu];exact hsU
  ·rw[ba _ _ fz];exact h.sat i (by omega)
 ·by_cases RO:a=N
  ·subst RO;rw[bu];intro q hq;rw[ho]at hq;exact absurd rfl hq
  ·rw[ba _ _ RO];by_cases RY:b=N
   ·subst RY;rw[bu];intro q hq;refine⟨by rw[ho],λo hu=> ?_⟩;rw[hi]at hu;by_cases zU:a=0
    ·subst zU;exact hu
    ·exact(h.dO a 0 (by omega) h0 zU q hq).2 o hu
   ·rw[ba _ _ RY];exact h.dO a b (by omega) (by omega) dJ
 ·refine h.ti.mute (λop az=>(jA op az).1) (λop az=>(jA op az).2.2.1 _) (λop az=> ?_) (by omega) (λop az=>(jA op az).2.2.2) (λi cG l hl idx a ha fy rK=> ?_) (λi cG l hl idx a ha fy=> ?_) (λidx a ha dT=>⟨λhp i cG=> ?_,λhp=> ?_⟩)
  ·simp only[UC,Th,Tv,or_false]at az;rcases az with rfl|rfl
   ·omega
   ·omega
  ·obtain⟨_,cP,mi⟩:=hl;by_cases fz:i=N
   ·subst fz;rw[bu]at cP;have:gP (VV 0) l:=by
     cases l with
     |cell a'=>rcases cP with z|z;exact absurd (by rw[ho]) z;exact .inr (by rw[<- hi];exact z)
     |obj r=>exact absurd (by rw[ho]) cP
     |_=>exact cP.elim
    exact hk (h.ti.kr 0 h0 l ⟨h0,this,mi⟩ idx a ha fy rK)
   ·rw[ba _ _ fz]at cP;exact(h.ti.kr i (by omega) l ⟨by omega,cP,mi⟩ idx a ha fy rK).app _
  ·obtain⟨_,cP,mi⟩:=hl;by_cases fz:i=N
   ·subst fz;rw[bu]at cP;exfalso;cases l with
    |cell a'=>exact cP.1 (by rw[ho])
    |obj r=>exact cP (by rw[ho])
    |_=>exact cP.elim
   ·rw[ba _ _ fz]at cP;exact(h.ti.kw i (by omega) l ⟨by omega,cP,mi⟩ idx a ha fy).app _
  ·have:=h.ti.sp idx a ha dT;rcases jZ i cG with z|⟨rfl,z⟩
   ·exact(this.1 hp i z).app _
   ·exact hk (this.1 hp 0 z)
  ·have:=h.ti.sp idx a ha dT;rcases fX with rfl|⟨rfl,rfl⟩
   ·exact(this.2 hp).app _
   ·exact hk (this.2 hp)
 ·by_cases fz:i=N
  ·subst fz;rw[bu,ho]
  ·rw[ba _ _ fz];exact h.jm i (by omega) b hb
end
open Go.Conc Go.ConcN
open Go.Conc Go.ConcN
section
variable {P:Tg}{n0:Nat}{W0:Ul}{V:View}{gs gs':SR}{w w':Ul}{sl:S8}{t:U6}{K:Nat->GS}{Im:cr}{ic:Nat}{ph:TC}{p:Phase}{st st':TJ}
def GS.aea{k:GS}(h:k.nv=false)(Im kP:cr):k.view kP=k.view Im:=by cases k<;>first|rfl|cases h
def GS.amJ{k:GS}{c Wg d:Nat}{Im kP:cr}{Ss OV:TB}{g:Te}(h:k.nv=false)(hS:∀(j:Nat) S,Ss[j]?=some S->OV[j]?=some S)(hk:k.is P c Wg Im Ss d g):k.is P c Wg kP OV d g:=by
 cases k with
 |work j hh V=>obtain⟨a,b,S,e,f⟩:=hk;exact⟨a,b,S,hS _ _ e,f⟩
 |nW j hh V V' g0 v z=>obtain⟨a,b,c,d,sp,S,B,e,f⟩:=hk;exact⟨a,b,c,d,sp,S,B,hS _ _ e,f⟩
 |gone q=>exact hk
 |add n=>exact hk
 |load n=>exact hk
 |store n=>exact hk
 |my n=>exact hk
 |head k n=>cases h
 |mc k n=>cases h
 |said n=>cases h
 |hO n=>cases h
 |last n=>cases h
 |acq n=>cases h
 |look n=>cases h
 |close n=>cases h
def Inv.spawn(h:Inv P n0 W0 V gs w t K Im ic (some p) st)(aJ:p.recv=false)(iM:V.deaf=0){g' child:Te}{x y:WU}(hx:x.g=0/\x.act=.go gs.size)(hy:y.g=gs.size/\y.act=.start){V':View}{p':Phase}{kP:cr}{kG:Nat}{k':GS}(hc:p'.c=p.c)(zQ:p'.Wg=p.Wg)
  (qj:mE V' V) (uB:V'.deaf=V.deaf) (qx:(k'.view kP).ab=V.ab) (hvo:(k'.view kP).own=λ_=>none) (hSs:∀(j:Nat) S,p.Ss[j]?=some S->p'.Ss[j]?=some S) (CM:k'.is P p.c p.Wg kP p'.Ss 0 child)
  (jZ:∀i,i<gs.size->iZ p' (gs.size+1) kG (upd K gs.size k') i->iZ p gs.size ic K i) (fX:kG=ic\/kG=gs.size)
  (Da:zb P n0 V' ((gs.setIfInBounds 0 g').push child) w (t++#[x,y]) (upd K gs.size k') kP kG (some p') (some .early)):
  Inv P n0 W0 V' ((gs.setIfInBounds 0 g').push child) w (t++#[x,y]) (upd K gs.size k') kP kG (some p') (some .early):=by
 obtain⟨dc,gR,mU,gL⟩:=h.out;obtain⟨a1,a2,a3,a4,a5,a6,a7,a8,a9,bW⟩:=gL;rw[if_neg (by rw[aJ];simp)]at bW;obtain⟨c1,c2,c3,c4,c5,c6⟩:=bW;have aX:((gs.setIfInBounds 0 g').push child).size=gs.size+1:=by simp
 have jA:=adZ hx.2 hy.2;have bt:∀i,VH (t++#[x,y]) i=VH t i:=λi=>Deaf_still λop az=>(jA op az).2.1;have Db:=h.pos;have aO:VH t 0=0:=by rw[h.d0,iM]
 have aV:∀i,0<i->(K i).nv=false:=λi hi=>by
  cases e:(K i).nv with
  |false=>rfl
  |true=>have:=h.rY hi e;omega
 have akC:ni (some p) gs.size ic K 0:=by
  show iZ p gs.size ic K 0;unfold iZ;rw[if_neg (by rw[aJ];simp)];exact .inl rfl
 have xU:=gR.spawn (act':=ni (some p') (gs.size+1) kG (upd K gs.size k')) (kG:=kG) Db aO hx hy (U:=k'.view kP) (by rw[kM];exact qx) hvo (λi hi=>by
   by_cases fz:i<gs.size
   ·exact .inl (jZ i fz hi)
   ·refine .inr ⟨?_,akC⟩;have cG:iZ p' (gs.size+1) kG (upd K gs.size k') i:=hi;unfold iZ at cG;split at cG<;>omega) (fX.imp id λe=>⟨e,c2⟩)
 have ak4:=(xU.less (i:=0) (V':=V') (by omega) (by rw[ba _ _ (by omega),kM];exact qj)).congr (EQ:=bD V' kP (upd K gs.size k')) λi hi=>by
  by_cases eR:i=0
  ·subst eR;rw[bu];simp[bD]
  ·rw[ba _ _ eR];by_cases fz:i=gs.size
   ·subst fz;rw[bu];simp[bD,eR,bu]
   ·rw[ba _ _ fz];simp only[bD,eR,if_false,ba _ _ fz];exact GS.aea (aV i (by omega)) _ _
 refine Inv.mk' (by omega) (by rw[ba _ _ (by omega)];exact h.k0) (by rw[bt,uB];exact h.d0) (λi z hi hz=> ?_) ?_ ?_ Da
 ·rw[bt];show (upd K gs.size k' i).is P p'.c p'.Wg kP p'.Ss _ z;rw[hc,zQ];by_cases fz:i=gs.size
  ·subst fz;rw[bu,P0 gR.ti.gs];have:z=child:=by
    rw[show gs.size=(gs.setIfInBounds 0 g').size by simp]at hz;rw[Array.getElem?_push_size]at hz;exact(Wq hz).symm
   rw[this];exact CM
  ·have auW:i<gs.size:=(by have:=(Tl.1 hz).1;omega);rw[ba _ _ fz];rw[Xr,if_neg (by simp;omega),Tq (by omega)]at hz;exact GS.amJ (aV i hi) hSs (dc i z hi hz)
 ·rw[aX];have e:rW (some p')=rW (some p):=by show qP p'.c p'.Wg=qP p.c p.Wg;rw[hc,zQ]
  rw[e];exact ak4
 ·have hr:Rest p.Wg t K ic st:=mU;rw[c3]at hr;show Rest p'.Wg _ _ _ _;rw[zQ];intro idx a ha hm;have gq:=Bg (λop az=>(jA op az).1) ha;obtain⟨op,az,_⟩:=VG gq;have hlt:=Uz az;rcases hr idx a gq hm with z|⟨z1,z2⟩|⟨s,hs,jC⟩
  ·exact .inl (z.app _)
  ·exact .inr (.inl ⟨z1,λz=>z2 ((W2 hlt).1 z)⟩)
  ·cases hs;obtain⟨i,hg,hi,hz⟩:=jC;have fz:i<gs.size:=by
    obtain⟨op',bf,pn⟩:=Uq.1 hg;rw[<- pn];exact gR.ti.gs op' (XD bf)
   refine .inr (.inr ⟨.early,rfl,i,by rw[awM hlt];exact hg,hi,?_⟩);rcases hz with hz|hz|⟨r,hz,hle⟩
   ·exact .inl (by rw[ba _ _ (by omega)];exact hz)
   ·omega
   ·exact .inr (.inr ⟨r,hz.app,hle⟩)
def Sat.Mt{c:Nat}{a:Nat}{x:Bool}{y z:Nat}{u:Bool}{Fi:SG}(h:Sat V w)(hc:w.heap[c]?=some (.chan a Fi x y z u))(o:Nat):V.ab c o=none:=by
 cases e:V.ab c o with
 |none=>rfl
 |some v=>have:=h.ab c o v e;simp[Vs,hc]at this
def Inv.abN(h:Inv P n0 W0 V gs w t K Im ic (some p) st)(aJ:p.recv=false){i:Nat}(hi:0<i):(K i).nv=false:=by
 have hx:=h.phase.2.2.2.2.2.2.2.2.2;rw[if_neg (by rw[aJ];simp)]at hx;cases e:(K i).nv with
 |false=>rfl
 |true=>have:=h.rY hi e;have:=hx.2.1;omega
def Inv.FO(h:Inv P n0 W0 V gs w t K Im ic (some p) st)(aJ:p.recv=false)(iM:V.deaf=0){g' child:Te}{x y:WU}(hx:x.g=0/\x.act=.go gs.size)(hy:y.g=gs.size/\y.act=.start){hh:Ht}{sp:Spec}{S:TH}(hlen:p.Ss.length<4)(ox:∀o,V.ab p.Wg o=none)
  (CM:lE P hh {ab:=V.ab,own:=λ_=>none,deaf:=0,role:=.work p.c p.Wg (sp::S)} child):
  Inv P n0 W0 {V with role:=.fork p.c p.Wg (p.Ss++[sp::S])} ((gs.setIfInBounds 0 g').push child) w (t++#[x,y]) (upd K gs.size (.work p.Ss.length hh {ab:=V.ab,own:=λ_=>none,deaf:=0,role:=.work p.c p.Wg (sp::S)})) Im ic
   (some {p with Ss:=p.Ss++[sp::S]}) (some .early):=by
 obtain⟨dc,gR,mU,gL⟩:=h.out;obtain⟨a1,a2,a3,a4,a5,a6,a7,a8,a9,bW⟩:=gL;rw[if_neg (by rw[aJ];simp)]at bW;obtain⟨c1,c2,c3,c4,c5,c6⟩:=bW;have aX:((gs.setIfInBounds 0 g').push child).size=gs.size+1:=by simp
 have dz:Sat V w:=by have:=gR.sat 0 h.pos;rwa[kM]at this
 have z9:=dz.Mt (dz.own _ _ c1);have cZ:∀i j,0<i->i<gs.size->(K i).idx=some j->j<p.Ss.length:=λi j hi hlt e=>by
  have St:=dc i _ hi (Tf hlt);have Lj:(K i).is P p.c p.Wg Im p.Ss (VH t i) gs[i]:=St;cases kX:K i<;>rw[kX]at e Lj<;>simp[GS.idx]at e
  ·subst e;obtain⟨_,_,S,e,_⟩:=Lj;exact(Tj.1 e).1
  ·subst e;obtain⟨_,_,_,_,_,_,_,e,_⟩:=Lj;exact(Tj.1 e).1
 refine h.spawn aJ iM hx hy rfl rfl ⟨λ_=> .inr rfl,λ_ _=> .inr rfl,λ_ _ _=>rfl⟩ rfl rfl rfl (λj S' e=> ?_) ⟨rfl,CM,sp::S,by simp,rfl⟩ (λi hi jZ=> ?_) (.inl rfl) ?_
 ·show (p.Ss++[sp::S])[j]?=some S';rw[Tw (Tj.1 e).1];exact e
 ·unfold iZ at jZ⊢;rw[if_neg (by show ¬p.recv=true;rw[aJ];simp)]at jZ;rw[if_neg (by rw[aJ];simp)];rw[ba _ _ (by omega)]at jZ;exact jZ.imp id λz=>⟨hi,z.2⟩
 ·refine⟨a1,a2,a3,a4,a5,by simp only[Tx,UU,VR];omega,λi hi=> ?_,λi i' j b1 b2 b3 b4 b5 b6=> ?_,λj S' b1 b2=> ?_,?_⟩
  ·by_cases fz:i=gs.size
   ·subst fz;rw[bu];exact⟨rfl,z9,rfl,ox,λe=>by cases e⟩
   ·rw[ba _ _ fz];exact a7 i hi
  ·rw[aX]at b2 b4;by_cases e1:i=gs.size
   ·by_cases e2:i'=gs.size
    ·omega
    ·rw[ba _ _ e2]at b6;have:=cZ i' j b3 (by omega) b6;subst e1;rw[bu]at b5;simp only[GS.idx,Uh]at b5;omega
   ·rw[ba _ _ e1]at b5;by_cases e2:i'=gs.size
    ·have:=cZ i j b1 (by omega) b5;subst e2;rw[bu]at b6;simp only[GS.idx,Uh]at b6;omega
    ·rw[ba _ _ e2]at b6;exact a8 i i' j b1 (by omega) b3 (by omega) b5 b6
  ·rw[aX];by_cases hj:j<p.Ss.length
   ·have:p.Ss[j]?=some S':=by
     have Ja:(p.Ss++[sp::S])[j]?=some S':=b1;rwa[Tw hj]at Ja
    obtain⟨i,e1,e2,e3⟩:=a9 j S' this b2;exact⟨i,e1,by omega,by rw[ba _ _ (by omega)];exact e3⟩
   ·have iC:j=p.Ss.length:=by
     have:=(Tj.1 (show (p.Ss++[sp::S])[j]?=some S' from b1)).1;simp at this;omega
    exact⟨gs.size,h.pos,by omega,by rw[bu,iC];rfl⟩
  ·show if p.recv=true then _ else _;rw[if_neg (by rw[aJ];simp)];refine⟨c1,c2,rfl,λi b1 b2=> ?_,λS' hS'=> ?_,?_⟩
   ·rw[aX]at b2;by_cases fz:i=gs.size
    ·subst fz;rw[bu];exact .inl rfl
    ·rw[ba _ _ fz];exact c4 i b1 (by omega)
   ·rcases Tp.1 hS' with z|z
    ·exact c5 S' z
    ·simp at z;subst z;simp
   ·rw[aX,sumTo,bu,Tx,<- c6];rw[VY (g:=λi=>(K i).cnt) λi hi=>by rw[ba _ _ (by omega)]];rfl
def Inv.FN(h:Inv P n0 W0 V gs w t K Im ic (some p) st)(aJ:p.recv=false)(iM:V.deaf=0){g' child:Te}{x y:WU}(hx:x.g=0/\x.act=.go gs.size)(hy:y.g=gs.size/\y.act=.start){n:Nat}
  (zQ:V.own p.Wg=some (wgBlock P (((p.Ss.length:Nat):Int)* KK) 0)) (ox:∀o,V.ab p.Wg o=none) (CM:cS P (eI P V.ab p.c p.Wg 5) n 0 child):
  Inv P n0 W0 {V with own:=λb=>if b=p.c\/b=p.Wg then none else V.own b,role:=.recv p.c p.Wg p.Ss} ((gs.setIfInBounds 0 g').push child) w (t++#[x,y]) (upd K gs.size (.head 5 n)) V.ab gs.size (some {p with recv:=true}) (some .early):=by
 obtain⟨dc,gR,mU,gL⟩:=h.out;obtain⟨a1,a2,a3,a4,a5,a6,a7,a8,a9,bW⟩:=gL;rw[if_neg (by rw[aJ];simp)]at bW;obtain⟨c1,c2,c3,c4,c5,c6⟩:=bW;have aX:((gs.setIfInBounds 0 g').push child).size=gs.size+1:=by simp
 have dz:Sat V w:=by have:=gR.sat 0 h.pos;rwa[kM]at this
 have z9:=dz.Mt (dz.own _ _ c1);have Db:=h.pos;refine h.spawn aJ iM hx hy rfl rfl ⟨λb=> ?_,λ_ _=> .inr rfl,λ_ _ _=>rfl⟩ rfl rfl rfl (λj S' e=>e) CM (λi hi jZ=> ?_) (.inr rfl) ?_
 ·by_cases e:b=p.c\/b=p.Wg
  ·exact .inl (by simp only[e,if_true])
  ·exact .inr (by simp only[e,if_false])
 ·unfold iZ at jZ⊢;rw[if_pos rfl]at jZ;rw[if_neg (by rw[aJ];simp)];rw[ba _ _ (by omega)]at jZ;obtain⟨z1,_,z2⟩:=jZ;rcases c4 i z1 hi with z|⟨q,z⟩
  ·exact .inr ⟨hi,z⟩
  ·exfalso;rw[z]at z2;rcases z2 with z2|z2|z2|z2
   ·cases z2
   ·omega
   ·cases z2
   ·cases z2
 ·refine⟨a1,a2,a3,a4,a5,a6,λi hi=> ?_,λi i' j b1 b2 b3 b4 b5 b6=> ?_,λj S' b1 b2=> ?_,?_⟩
  ·by_cases fz:i=gs.size
   ·subst fz;rw[bu];exact⟨rfl,z9,rfl,ox,λ_=>rfl⟩
   ·rw[ba _ _ fz,GS.aea (h.abN aJ hi) Im];have:=a7 i hi;exact⟨this.1,this.2.1,this.2.2.1,this.2.2.2.1,λe=>by rw[h.abN aJ hi]at e;cases e⟩
  ·rw[aX]at b2 b4;by_cases e1:i=gs.size
   ·subst e1;rw[bu]at b5;cases b5
   ·by_cases e2:i'=gs.size
    ·subst e2;rw[bu]at b6;cases b6
    ·rw[ba _ _ e1]at b5;rw[ba _ _ e2]at b6;exact a8 i i' j b1 (by omega) b3 (by omega) b5 b6
  ·obtain⟨i,e1,e2,e3⟩:=a9 j S' b1 b2;exact⟨i,e1,by omega,by rw[ba _ _ (by omega)];exact e3⟩
  ·show if true=true then _ else _;rw[if_pos rfl];refine⟨⟨by simp,z9,by simp,ox⟩,by omega,by rw[aX];omega,.early,rfl,?_⟩;rw[aX];have e1:sumTo (gs.size+1) (λi=>(upd K gs.size (.head 5 n) i).cnt)=p.Ss.length:=by
    rw[sumTo,bu,<- c6];rw[VY (g:=λi=>(K i).cnt) λi hi=>by rw[ba _ _ (by omega)]];rfl
   have e2:sumTo (gs.size+1) (λi=>(upd K gs.size (.head 5 n) i).late)=0:=by
    have hz:∀N,sumTo N (λ_=>0)=0:=λN=>(by induction N with|zero=>rfl|succ N ih=>simp[sumTo,ih]);rw[sumTo,bu];rw[VY (g:=λ_=>0) λi hi=> ?_,hz]
    ·rfl
    ·rw[ba _ _ (by omega)];rcases VD i with rfl|eR
     ·rw[h.k0];rfl
     ·rcases c4 i eR hi with z|⟨q,z⟩
      ·cases kX:K i<;>rw[kX]at z<;>first|rfl|cases z
      ·rw[z];rfl
   unfold Mode;simp only[e1,e2,bu];exact .inl ⟨⟨0,dz.own _ _ c1⟩,trivial,trivial,a6,dz.own _ _ zQ,.inl ⟨5,rfl,by omega⟩⟩
def Inv.begin(h:Inv P n0 W0 V gs w t K Im ic none st){c Wg:Nat}(aH:c≠Wg)(hc:V.own c=some (.chan 0 #[] false 0 0 false))(hW:V.own Wg≠none)(ox:∀o,V.ab Wg o=none):
  Inv P n0 W0 {V with role:=.fork c Wg []} gs w t (λi=>if i<gs.size then K i else .gone 0) Im 0 (some ⟨c,Wg,[],false⟩) (some .early):=by
 obtain⟨dc,gR,mU,gL⟩:=h.out;have dz:Sat V w:=by have:=gR.sat 0 h.pos;rwa[kM]at this
 have z9:=dz.Mt (dz.own _ _ hc);have sW:∀i,(∃q,(if i<gs.size then K i else .gone 0)=GS.gone q):=λi=>by
  by_cases hi:i<gs.size
  ·rw[if_pos hi];rcases VD i with rfl|eR
   ·exact⟨0,h.k0⟩
   ·obtain⟨q,hq,_⟩:=dc i _ eR (Tf hi);exact⟨q,hq⟩
  ·rw[if_neg hi];exact⟨0,rfl⟩
 have ii:∀{b x},V.own b=some x->n0<=b/\b<w.heap.size:=λ{b x} e=>by
  refine⟨?_,dz.lt e⟩;apply Nat.le_of_not_lt;intro hb;have:=gR.jm 0 h.pos b hb;rw[kM,e]at this;cases this
 obtain⟨xW,hxW⟩:∃x,V.own Wg=some x:=by cases e:V.own Wg with|none=>exact absurd e hW|some x=>exact⟨x,rfl⟩
 have mo:∀i,0<i->((if i<gs.size then K i else .gone 0).view Im)=noView:=λi _=>by obtain⟨q,e⟩:=sW i;rw[e];rfl
 refine Inv.mk' h.pos (by rw[if_pos h.pos];exact h.k0) h.d0 (λi x hi hx=> ?_) ?_ ?_ ?_
 ·have hlt:i<gs.size:=(Tl.1 hx).1;obtain⟨q,hq,hy⟩:=dc i x hi hx;show (if i<gs.size then K i else .gone 0).is P c Wg Im [] _ x;rw[if_pos hlt,hq];exact hy
 ·have bi:Core (bD {V with role:=.fork c Wg []} Im (λi=>if i<gs.size then K i else .gone 0)) gs.size w t (rW none) (ni none gs.size ic K) ic n0 W0:=by
   refine(gR.role (i:=0) (V':={V with role:=.fork c Wg []}) h.pos (by rw[kM]) (by rw[kM])).congr λi hi=> ?_;by_cases eR:i=0
   ·subst eR;rw[bu];simp[bD]
   ·rw[ba _ _ eR];simp[bD,eR,hi]
  refine⟨bi.sat,bi.dO,?_,bi.tape,bi.os,bi.out,bi.old,bi.jm,bi.n0⟩;refine bi.ti.weaken (Tm _) (λi l _ x=> .inl ⟨x.1,x.2.1,λz=>z.elim⟩) (λi l _ x=>⟨x.1,x.2.1,λz=>z.elim⟩) (λidx a ha dT=> ?_);have hk:W5 t 0 idx:=by
   have yk:jG V a.loc:=by
    have Aw:qP c Wg a.loc:=dT;cases hl:a.loc with
    |cell ad=>rw[hl]at Aw;have e:ad.block=Wg:=Aw;exact⟨by rw[e];exact hW,by rw[e];exact ox _⟩
    |obj r=>rw[hl]at Aw;have e:r=c:=Aw;show V.own r≠none;rw[e,hc];simp
    |_=>rw[hl]at Aw;exact Aw.elim
   exact gR.ti.kw 0 h.pos a.loc ⟨h.pos,by rw[kM];exact yk,λz=>z.elim⟩ idx a ha rfl
  refine⟨λ_ i hi=> ?_,λ_=>hk⟩;have cG:iZ ⟨c,Wg,[],false⟩ gs.size 0 (λi=>if i<gs.size then K i else .gone 0) i:=hi;unfold iZ at cG;rw[if_neg (by simp)]at cG;rcases cG with rfl|⟨_,e⟩
  ·exact hk
  ·obtain⟨q,eq⟩:=sW i;simp only[eq]at e;cases e
 ·have aT:st=none:=gL;intro idx a ha hm;rcases mU idx a ha hm with z|z|⟨s,e,_⟩
  ·exact .inl z
  ·exact .inr (.inl z)
  ·rw[aT]at e;cases e
 ·refine⟨(ii hc).1,(ii hxW).1,aH,(ii hc).2,(ii hxW).2,by simp,λi hi=> ?_,λi i' j _ _ _ _ b5=> ?_,λj S b1=>by simp at b1,?_⟩
  ·rw[mo i hi];exact⟨rfl,λ_=>rfl,rfl,λ_=>rfl,λe=>by obtain⟨q,eq⟩:=sW i;simp only[eq]at e;cases e⟩
  ·obtain⟨q,eq⟩:=sW i;simp only[eq]at b5;cases b5
  ·show if false=true then _ else _;rw[if_neg (by simp)];refine⟨hc,rfl,rfl,λi _ _=> .inr (sW i),by simp,?_⟩;have hz:∀N,sumTo N (λ_=>0)=0:=λN=>(by induction N with|zero=>rfl|succ N ih=>simp[sumTo,ih]);rw[VY (g:=λ_=>0) λi _=>by obtain⟨q,eq⟩:=sW i;show (if i<gs.size then K i else GS.gone 0).cnt=0;rw[eq];rfl];exact hz _
def Inv.arF(h:Inv P n0 W0 V gs w t K Im ic (some p) st)(aJ:p.recv=true)(iM:V.deaf=0){g0 g':Te}{n:Nat}(aV:w.heap[p.c]?=some (.chan 0 #[] true n n false)){y:WU}(hy:y.g=0/\y.act=.recvClosed p.c):
  (∀S∈p.Ss,S=[])/\Inv P n0 W0 {V with role:=.plain} (gs.setIfInBounds 0 g') w (t++#[y]) K Im ic none none:=by
 obtain⟨dc,gR,mU,gL⟩:=h.out;obtain⟨a1,a2,a3,a4,a5,a6,a7,a8,a9,bW⟩:=gL;rw[if_pos aJ]at bW;obtain⟨c1,c2,c3,s,c4,c5⟩:=bW;have ya:(∃pp n,s=.shut pp/\t.act? pp=some (.close p.c)/\t.heard pp/\w.heap[p.c]?=some (.chan 0 #[] true n n false))/\(sumTo gs.size λi=>(K i).late)=0/\(sumTo gs.size λi=>(K i).cnt)=0/\(K ic).shape=.gone 0:=by
  have no:¬∃n,w.heap[p.c]?=some (.chan 0 #[] false n n false):=λ⟨m,e⟩=>by rw[aV]at e;simp at e
  unfold Mode at c5;rcases c5 with m|m|m|m|m|m|m
  ·exact absurd m.1 no
  ·exact absurd m.1 no
  ·exact absurd m.1 no
  ·exact absurd m.1 no
  ·exact absurd m.1 no
  ·exact absurd m.1 no
  ·exact m
 obtain⟨⟨pp,n',rfl,m1,m2,_⟩,m3,m4,m5⟩:=ya;have sW:∀i,i<gs.size->∃q,K i=.gone q:=λi hi=>by
  have e1:(K i).cnt<=sumTo gs.size λi=>(K i).cnt:=W_ (f:=λi=>(K i).cnt) hi;have e2:(K i).late<=sumTo gs.size λi=>(K i).late:=W_ (f:=λi=>(K i).late) hi;rcases VD i with rfl|eR
  ·exact⟨0,h.k0⟩
  ·have hc:=h.rY (i:=i) eR;have z1:(K i).cnt=0:=(by omega);have z2:(K i).late=0:=(by omega);clear e1 e2;cases kX:K i<;>rw[kX]at z1 z2 hc<;>first
    |exact⟨_,rfl⟩
    |(exfalso;simp[GS.cnt]at z1;done)
    |(exfalso;simp[GS.late]at z2;done)
    |(exfalso;have:=hc rfl;subst this;rw[kX]at m5;cases m5)
 have bV:jq p V:=⟨c1.1,c1.2.1,c1.2.2.1,c1.2.2.2⟩;have aO:VH t 0=0:=by rw[h.d0,iM]
 have nO:∀op∈(#[y]:U6),op.act.touch?=none/\still op.act/\op.act.low w.heap.size/\(∀a,op.act≠ .mark (.release a))/\op.g=0:=by
  intro op az;simp only[UC,Th,Tv,or_false]at az;subst az;rw[hy.2];exact⟨rfl,⟨by simp,by simp⟩,a4,by simp,hy.1⟩
 have bt:∀i,VH (t++#[y]) i=VH t i:=λi=>Deaf_still λop az=>(nO op az).2.1;have aX:(gs.setIfInBounds 0 g').size=gs.size:=by simp
 refine⟨λS hS=> ?_,?_⟩
 ·obtain⟨j,hj⟩:=VF.1 hS;apply Uj;intro aH;obtain⟨i,e1,e2,e3⟩:=a9 j S hj aH;obtain⟨q,e⟩:=sW i e2;rw[e]at e3;cases e3
 ·refine Inv.mk' (by rw[aX];exact h.pos) h.k0 (by rw[bt];exact h.d0) (λi x hi hx=> ?_) ?_ ?_ rfl
  ·rw[Tq (by omega)]at hx;have hlt:i<gs.size:=(Tl.1 hx).1;obtain⟨q,e⟩:=sW i hlt;have hk:(K i).is P p.c p.Wg Im p.Ss (VH t i) x:=dc i x hi hx;rw[e]at hk;rw[bt];exact⟨q,e,hk⟩
  ·rw[aX];have h1:=(gR.role (i:=0) (V':={V with role:=.plain}) h.pos (by rw[kM]) (by rw[kM])).congr (EQ:=bD {V with role:=.plain} Im K) λi hi=>by
    by_cases eR:i=0
    ·subst eR;rw[bu];simp[bD]
    ·rw[ba _ _ eR];simp[bD,eR]
   have abR:∀i l,i<gs.size->gP (bD {V with role:=.plain} Im K i) l->¬qP p.c p.Wg l:=λi l hi hl=>by
    by_cases eR:i=0
    ·subst eR;have b':jq p (bD {V with role:=.plain} Im K 0):=(by simp only[bD,if_true];exact bV);exact b'.AL hl
    ·obtain⟨q,e⟩:=sW i hi;have:bD {V with role:=.plain} Im K i=noView:=(by simp only[bD,eR,if_false,e];rfl);rw[this]at hl;exact agF.AL hl
   refine⟨h1.sat,h1.dO,?_,h1.tape,h1.os,h1.out,h1.old,h1.jm,h1.n0⟩;have wA:=h1.ti.mute (u:=#[y]) (N':=gs.size) (rd':=λi l=>i<gs.size/\gP (bD {V with role:=.plain} Im K i) l/\¬rW none l) (wr':=λi l=>i<gs.size/\jG (bD {V with role:=.plain} Im K i) l/\¬rW none l) (act':=ni (some p) gs.size ic K) (kG:=ic)
    (λop az=>(nO op az).1) (λop az=>(nO op az).2.2.1) (λop az=>by rw[(nO op az).2.2.2.2];exact h.pos) (Tm _) (λop az=>(nO op az).2.2.2.1)
    (λi hi l hl idx a ha fy hw=>(h1.ti.kr i hi l ⟨hl.1,hl.2.1,abR i l hi hl.2.1⟩ idx a ha fy hw).app _) (λi hi l hl idx a ha fy=>(h1.ti.kw i hi l ⟨hl.1,hl.2.1,abR i l hi hl.2.1.rd⟩ idx a ha fy).app _)
    (λidx a ha dT=>⟨λhp i hi=>((h1.ti.sp idx a ha dT).1 hp i hi).app _,λhp=>((h1.ti.sp idx a ha dT).2 hp).app _⟩)
   exact wA.weaken (Tm _) (λ_ _ _ x=> .inl x) (λ_ _ _ x=>x) (λidx a _ hx=>hx.elim)
  ·have hr:Rest p.Wg t K ic st:=mU;rw[c4]at hr;intro idx a ha hm;have gq:=Bg (λop az=>(nO op az).1) ha;obtain⟨op,az,_⟩:=VG gq;rcases hr idx a gq hm with z|⟨z1,z2⟩|⟨s,hs,hx⟩
   ·exact .inl (z.app _)
   ·exact .inr (.inl ⟨z1,λz=>z2 ((W2 (Uz az)).1 z)⟩)
   ·cases hs;exact .inl (aha m1 m2 hy aO hx)
def Inv.aob(h:Inv P n0 W0 V gs w t K Im ic (some p) st)(aJ:p.recv=true)(x:Te):Inv P n0 W0 V (gs.setIfInBounds 0 x) w t K Im ic (some p) st:=by
 obtain⟨dc,gR,mU,gL⟩:=h.out;obtain⟨a1,a2,a3,a4,a5,a6,a7,a8,a9,bW⟩:=gL;have aX:(gs.setIfInBounds 0 x).size=gs.size:=by simp
 rw[if_pos aJ]at bW;obtain⟨c1,c2,c3,s,c4,c5⟩:=bW;refine Inv.mk' (by rw[aX];exact h.pos) h.k0 h.d0 (λi z hi hz=> ?_) (by rw[aX];exact gR) mU ⟨a1,a2,a3,a4,a5,a6,a7,by rw[aX];exact a8,by rw[aX];exact a9,?_⟩
 ·rw[Tq (by omega)]at hz;exact dc i z hi hz
 ·rw[if_pos aJ];refine⟨c1,c2,by rw[aX];exact c3,s,c4,?_⟩;rw[aX];have e0:t=t++#[]:=by simp
  rw[e0];exact c5.keep (λ_=>rfl) rfl rfl λrD g hg=>by rw[Tq (by omega)]at hg;exact rD g hg
end
def MJ (P:Tg)(Post:T5->Ul->Prop)(n0:Nat)(W0:Ul)(V:View)(g:Te):Prop:=
 g.status=.running/\∀gs w sl t K Im ic ph st,Inv P n0 W0 V gs w t K Im ic ph st->vC V.role ph->ko gs g->Ok P Post (crowd gs w sl) t
open Go.Conc Go.ConcN
section
variable {P:Tg}{Post:T5->Ul->Prop}{n0:Nat}{W0:Ul}
def aeA (P:Tg)(Post:T5->Ul->Prop)(gs:SR)(w:Ul)(sl:S8)(t:U6):Prop:=
 (∃m' ops,runT P (crowd gs w sl) 0=(.next m',ops)/\Ok P Post m' (t++ops))\/∃o w' ops,runT P (crowd gs w sl) 0=(.ended o w',ops)/\∀w0 Ed,Yq P Post (crowd gs w0 Ed) o w' (t++ops)
def ko.pos{gs:SR}{g:Te}(h:ko gs g):∃(i:Nat)(x:Te),gs[i]?=some x/\x.status=.running:=by
 obtain⟨g0,h0,h1,_⟩:=h;exact⟨0,g0,h0,h1⟩
def MJ.iY{V:View}{g:Te}(hg:g.status=.running)(own:∀gs w sl t K Im ic ph st,Inv P n0 W0 V gs w t K Im ic ph st->vC V.role ph->ko gs g->aeA P Post gs w sl t):MJ P Post n0 W0 V g:=by
 refine⟨hg,λgs w sl t K Im ic ph st h hr hm=> ?_⟩;generalize hN:gs.size=N;generalize hμ:((λj=>(K j).c9),flag gs ic)=μ;induction μ using(abJ N).induction generalizing gs w sl t K st with
 |_ μ ih=>
  obtain⟨i,gi,d,oP,aN,bK,aT⟩:=avx (P:=P) (w:=w) (sl:=sl) (h.awake (.inl hm)) hm.pos;have hd:=h.draw d;rcases VD i with rfl|hi
  ·rcases own _ _ oP _ _ _ _ _ _ hd hr hm with⟨m',ops,h1,h2⟩|⟨o,w',ops,h1,h2⟩
   ·exact Ok.step (aT.trans h1) h2
   ·exact Ok.end (aT.trans h1) (h2 w sl)
  ·rcases hd.other (sl:=oP) (.inl hm) hi aN bK with⟨gs',w',ops,K',st',h1,h2,h3,h4,_,h5⟩|⟨p,_,_,jh⟩
   ·have pi:ko gs' g:=by
     cases ph with
     |none=>exact(h4 g 0 (by simp)).1 hm
     |some p=>exact(h4 g p.c (λq hq=>by cases hq;rfl)).1 hm
    exact Ok.step (aT.trans h1) (ih _ (by rw[<- hμ,<- hN];exact h5) gs' w' oP _ K' st' h3 pi (by rw[h2,hN]) rfl)
   ·obtain⟨g0,h0,hs,_⟩:=hm;obtain⟨g1,z,h1,_⟩:=jh;rw[h1]at h0;cases h0;cases hs
def MJ.recv{V:View}{g:Te}{c Wg:Nat}{Ss:TB}{z:T5}(ji:V.role=.recv c Wg Ss)(iM:V.deaf=0)(hg:g.status=.running)
  (ln:∀w,Sat V w->stepG P true g w=.comm g #[rcase c z] true (.recv true) w #[])
  (J1:∀(i:Nat) sp S v Im Ow,Ss[i]?=some (sp::S)->sp v Im Ow->(∀b,V.own b≠none->Ow b=none)->(∀b o,V.own b≠none->Im b o≠none->V.ab b o≠none)->(∃w,Sat V w/\(∀b o x,Im b o=some x->w.cell? ⟨b,o,none⟩=some x)/\∀b x,Ow b=some x->w.heap[b]?=some x)->
   MJ P Post n0 W0 (nR V Im Ow (.recv c Wg (Ss.set i S))) (UM g (.tuple #[v,.bool true])))
  (J2:(∀S∈Ss,S=[])->MJ P Post n0 W0 {V with role:=.plain} (UM g (.tuple #[z,.bool false]))):MJ P Post n0 W0 V g:=by
 have met:∀{gs w sl t K Im ic st i},Inv P n0 W0 V gs w t K Im ic (some ⟨c,Wg,Ss,true⟩) st->EN P n0 W0 V gs w sl t Im ic ⟨c,Wg,Ss,true⟩ st g i->∀{m},stepT P m=runT P (crowd gs w sl) i->Ok P Post m t:=by
  rintro gs w sl t K Im ic st i _ ⟨gs',w',ops,K',j,sp,S,v,kP,Ow,h1,h2,h3,h4,h5,h6,h6',h7,h8⟩ m hm
  exact Ok.step (hm.trans h1) ((J1 j sp S v kP Ow h4 h5 h6 h6' h7).2 gs' w' sl _ K' Im ic _ st h8 rfl h3)
 refine⟨hg,λgs w sl t K Im ic ph st h hr hm=> ?_⟩;have gL:ph=some ⟨c,Wg,Ss,true⟩:=by rw[ji]at hr;exact hr
 subst gL
 suffices key:∀N μ gs w sl t K st,Inv P n0 W0 V gs w t K Im ic (some ⟨c,Wg,Ss,true⟩) st->gs.size=N->((λj=>(K j).c9),flag gs ic)=μ->(ko gs g\/(n5 gs g c/\Calm gs/\za w c))->Ok P Post (crowd gs w sl) t from key _ _ gs w sl t K st h rfl rfl (.inl hm)
 clear h hr hm;intro N μ;induction μ using(abJ N).induction with
 |_ μ ih=>
  have A:∀gs w sl t K st,Inv P n0 W0 V gs w t K Im ic (some ⟨c,Wg,Ss,true⟩) st->gs.size=N->((λj=>(K j).c9),flag gs ic)=μ->n5 gs g c->Calm gs->za w c->Ok P Post (crowd gs w sl) t:=by
   intro gs w sl t K st h hN hμ jh sR ho;have lL:ko gs g\/∃p,some (Phase.mk c Wg Ss true)=some p/\p.recv=true/\V.deaf=0/\n5 gs g p.c:=.inr ⟨_,rfl,rfl,iM,jh⟩;have amr:∃(i:Nat)(x:Te),gs[i]?=some x/\x.status=.running:=by
    obtain⟨i,x,_,h1,h2⟩:=h.arJ rfl ho sR;exact⟨i,x,h1,h2⟩
   obtain⟨i,gi,d,oP,aN,bK,aT⟩:=avx (P:=P) (w:=w) (sl:=sl) (h.awake lL) amr;have hd:=h.draw d;have hi:0<i:=by
    rcases VD i with rfl|hi
    ·obtain⟨g1,z1,h1,_⟩:=jh;rw[h1]at aN;cases aN;cases bK
    ·exact hi
   rcases hd.other (sl:=oP) lL hi aN bK with⟨gs',w',ops,K',st',h1,h2,h3,h4,h5,h6⟩|⟨p,hp,uH,_⟩
   ·refine Ok.step (aT.trans h1) (ih _ (by rw[<- hμ,<- hN];exact h6) gs' w' oP _ K' st' h3 (by rw[h2,hN]) rfl ?_);rcases(h4 g c (λq hq=>by cases hq;rfl)).2 jh ho with x|⟨x,y⟩
    ·exact .inl x
    ·exact .inr ⟨x,h5 g c jh sR,y⟩
   ·cases hp;exact met hd uH aT
  intro gs w sl t K st h hN hμ pi;rcases pi with hm|⟨h1,h2,h3⟩
  ·obtain⟨i,gi,d,oP,aN,bK,aT⟩:=avx (P:=P) (w:=w) (sl:=sl) (h.awake (.inl hm)) hm.pos;have hd:=h.draw d;rcases VD i with rfl|hi
   ·
    obtain⟨g0,h0,kA,ld,iP,mQ⟩:=hm;have fA:Sat V (w.at d):=(by have:=hd.core.sat 0 h.pos;rwa[kM]at this);have lm:stepG P (0==0) g0 (w.at d)=.comm g #[rcase c z] true (.recv true) (w.at d) #[]:=(by rw[<- ln _ fA];exact Yh ld iP mQ _);have e0:(t++Ua 0 g0.frame.fn g0.frame.place #[])=t:=(by simp[Ua]);rcases hd.opens rfl with⟨n,gK⟩|⟨alI,⟨n,aV⟩,_⟩
    ·by_cases aay:∃i j h' V₁ V₂ g1 v z1,0<i/\i<gs.size/\K i=.nW j h' V₁ V₂ g1 v z1
     ·exact met hd (hd.aqD (sl:=oP) rfl iM ⟨g0,h0,kA,ld,iP,mQ⟩ (ln _ fA) aay) aT
     ·have offers:∀m x,0<m->gs[m]?=some x->x.status=.blocked->x.offers=none:=by
       intro m x iF hx hb;rcases GS.runs (show (K m).is P c Wg Im Ss (VH t m) x from h.is m x iF hx)with e|⟨e,_⟩|⟨j,h',V1,V2,g1,v,z1,e⟩|⟨_,_,e⟩
       ·rw[e]at hb;cases hb
       ·rw[e]at hb;cases hb
       ·exact absurd ⟨m,j,h',V1,V2,g1,v,z1,iF,(Tl.1 hx).1,e⟩ aay
       ·exact e
      have hw:=awC (P:=P) (sl:=oP) (i:=0) h0 lm (λcc jc=>by
       simp only[UC,Th,Tv,or_false]at jc;subst jc;refine ways_recv_none gK (ai_ λm x hx=> ?_);rcases XO gs 0 m x hx with⟨_,rfl⟩|⟨iF,jC⟩
       ·exact YD _ _
       ·by_cases hb:x.status=.blocked
        ·unfold offersAt;simp[hb,offers m x (by omega) jC hb]
        ·exact Vz hb _ _)
      refine Ok.step (aT.trans hw) ?_;rw[e0];refine A _ (w.at d) oP t K st (hd.aob rfl _) (by simp[hN]) ?_ ⟨g,z,?_,rfl,rfl,rfl⟩ (λm x iF hx hb=> ?_) ⟨n,gK⟩
      ·rw[<- hμ];have fX:0<ic:=(by obtain⟨_,_,x,_⟩:=h.mode rfl;exact x);unfold flag;rw[Tq (by omega)]
      ·rw[T8 h.pos]
      ·rw[Tq (by omega)]at hx;exact offers m x iF hx hb
    ·have hp:partners (gs.setIfInBounds 0 ph) c true=[]:=ai_ λm x hx=>by
      rcases XO gs 0 m x hx with⟨_,rfl⟩|⟨iF,jC⟩
      ·exact YD _ _
      ·have hlt:m<gs.size:=(Tl.1 jC).1;rcases GS.runs (show (K m).is P c Wg Im Ss (VH t m) x from h.is m x (by omega) jC)with e|⟨e,_⟩|⟨j,h',V1,V2,g1,v,z1,e⟩|⟨_,eb,e⟩
       ·exact Vz (by rw[e];simp) _ _
       ·exact Vz (by rw[e];simp) _ _
       ·have:=alI m (by omega) hlt;rw[e]at this;cases this
       ·unfold offersAt;simp[eb,e]
     have hw:=crowd_recv_closed (P:=P) (sl:=oP) (i:=0) h0 lm aV hp;refine Ok.step (aT.trans hw) ?_;rw[Zt,<- Xv,e0];obtain⟨hS,hinv⟩:=hd.arF rfl iM (g0:=g0) (g':=UM g (recvd true z false)) aV (y:={g:=0,fn:=g.frame.fn,pos:=g.frame.place,act:=.recvClosed c}) ⟨rfl,rfl⟩;exact(J2 hS).2 _ (w.at d) oP _ K Im ic none none hinv rfl ⟨UM g (recvd true z false),by rw[T8 h.pos],rfl,rfl,rfl,rfl⟩
   ·rcases hd.other (sl:=oP) (.inl hm) hi aN bK with⟨gs',w',ops,K',st',h1,h2,h3,h4,_,h5⟩|⟨p,_,_,jh⟩
    ·exact Ok.step (aT.trans h1) (ih _ (by rw[<- hμ,<- hN];exact h5) gs' w' oP _ K' st' h3 (by rw[h2,hN]) rfl (.inl ((h4 g c (λq hq=>by cases hq;rfl)).1 hm)))
    ·obtain⟨g0,h0,hs,_⟩:=hm;obtain⟨g1,z1,h1,_⟩:=jh;rw[h1]at h0;cases h0;cases hs
  ·exact A gs w sl t K st h hN hμ h1 h2 h3
def aop:Closed true P true (MJ P Post n0 W0)where
 step V g hs h:=by
  refine MJ.iY hs λgs w sl t K Im ic ph st hI hr ⟨g0,h0,kA,ld,iP,mQ⟩=> .inl ?_;have fA:Sat V w:=by have:=hI.core.sat 0 hI.pos;rwa[kM]at this
  obtain⟨g',w',es,V',h1,h2,h3⟩:=h w fA;have aT:stepG P (0==0) g0 w=.go g' w' es:=by rw[<- h1];exact Yh ld iP mQ w
  refine⟨_,_,awi h0 aT,h3.2 _ w' sl _ K Im ic ph st (hI.abC h0 h2 hr) (by rw[h2.role];exact hr) ⟨g',?_,h3.1,rfl,rfl,rfl⟩⟩;rw[T8 (by simpa using hI.pos)]
 ghost V V' g hg h:=⟨h.1,λgs w sl t K Im ic ph st hI hr hm=>h.2 gs w sl t K Im ic ph st (hI.aoa hg hr) (by rw[hg.role];exact hr) hm⟩
 send V g c Wg sp S v z B hr hd hs ho h1 h2 h3:=⟨hs,λgs w sl t K Im ic ph st hI cg hm=>by rw[hr]at cg;exact cg.elim⟩
 done V g c Wg hr hd h1:=⟨h1.1,λgs w sl t K Im ic ph st hI cg hm=>by rw[hr]at cg;exact cg.elim⟩
 slip V g g' c Wg hr hs h1 h2:=⟨hs,λgs w sl t K Im ic ph st hI cg hm=>by rw[hr]at cg;exact cg.elim⟩
 more _:={
  start:=λV g c Wg hr aH hc hW ox h=>⟨h.1,λgs w sl t K Im ic ph st hI cg hm=>by
   rw[hr]at cg;cases cg;exact h.2 gs w sl t _ Im 0 _ _ (hI.begin aH hc hW ox) rfl hm⟩
  FO:=λV g g' child c Wg Ss sp S hr hd hs hc hW hlen ox aT eW Mg h=>by
   refine MJ.iY hs λgs w sl t K Im ic ph st hI cg ⟨g0,h0,kA,ld,iP,mQ⟩=> .inl ?_;rw[hr]at cg;cases cg;have fA:Sat V w:=(by have:=hI.core.sat 0 hI.pos;rwa[kM]at this);have lO:stepG P (0==0) g0 w=.spawn g' child w #[]:=(by rw[<- aT w fA];exact Yh ld iP mQ w);obtain⟨hh,hk⟩:=Mg _ (atw P);have bK:=avN (P:=P) (sl:=sl) h0 lO;have e0:Ua 0 g0.frame.fn g0.frame.place #[]=#[]:=rfl;rw[e0]at bK;have hinv:=hI.FO (g':=g') (x:={g:=0,fn:=g0.frame.fn,pos:=g0.frame.place,act:=.go gs.size}) (y:={g:=gs.size,fn:=child.frame.fn,pos:=g0.frame.place,act:=.start}) rfl hd ⟨rfl,rfl⟩ ⟨rfl,rfl⟩ hlen ox hk;exact⟨_,_,bK,h.2 _ w sl _ _ Im ic _ _ hinv rfl ⟨g',by rw[Xr,if_neg (by simp;have:=hI.pos;omega),T8 hI.pos],h.1,rfl,rfl,rfl⟩⟩
  FN:=λV g g' child c Wg Ss hr hd hs aH hc hW z9 ox aT eW aV h=>by
   refine MJ.iY hs λgs w sl t K Im ic ph st hI cg ⟨g0,h0,kA,ld,iP,mQ⟩=> .inl ?_;rw[hr]at cg;cases cg;have fA:Sat V w:=(by have:=hI.core.sat 0 hI.pos;rwa[kM]at this);have lO:stepG P (0==0) g0 w=.spawn g' child w #[]:=(by rw[<- aT w fA];exact Yh ld iP mQ w);obtain⟨n,hk⟩:=aV;have bK:=avN (P:=P) (sl:=sl) h0 lO;have e0:Ua 0 g0.frame.fn g0.frame.place #[]=#[]:=rfl;rw[e0]at bK;have hinv:=hI.FN (g':=g') (x:={g:=0,fn:=g0.frame.fn,pos:=g0.frame.place,act:=.go gs.size}) (y:={g:=gs.size,fn:=child.frame.fn,pos:=g0.frame.place,act:=.start}) rfl hd ⟨rfl,rfl⟩ ⟨rfl,rfl⟩ hW ox hk;exact⟨_,_,bK,h.2 _ w sl _ _ V.ab gs.size _ _ hinv rfl ⟨g',by rw[Xr,if_neg (by simp;have:=hI.pos;omega),T8 hI.pos],h.1,rfl,rfl,rfl⟩⟩
  recv:=λV g c Wg Ss z hr hd hs ho aT j1 j2=>MJ.recv hr hd hs aT j1 j2}
structure Left (n0:Nat)(W0 w:Ul):Prop where
 tape:w.tape=W0.tape
 os:w.os=W0.os
 out:w.output=W0.output
 old:∀b,b<n0->w.heap[b]?=W0.heap[b]?
 size:n0<=w.heap.size
def Inv.oo{V:View}{gs:SR}{w:Ul}{t:U6}{K:Nat->GS}{Im:cr}{ic:Nat}{st:TJ}(h:Inv P n0 W0 V gs w t K Im ic none st){v:T5}(hp:Post v w)(w0:Ul)(Ed:S8):Yq P Post (crowd gs w0 Ed) (.done v) w t:=by
 obtain⟨dc,gR,mU,aT⟩:=h.out;have lO:st=none:=aT;refine⟨v,rfl,hp,gR.ti.nr,?_,⟨?_,rfl⟩,?_⟩
 ·intro i g hg kA ⟨x,hx,hm,hk⟩;rcases mU i x hx hm with⟨q,z,h1,h2,h3⟩|⟨h1,h2⟩|⟨_,h1,_⟩
  ·rcases h3 with rfl|h3
   ·exfalso;simp only[Xk,h1,VL,Uh]at hg;omega
   ·exact⟨q,by simp[Xk,h1,h2],h3⟩
  ·rcases hk with hk|hk
   ·exact absurd h1 hk
   ·exact absurd hk h2
  ·rw[lO]at h1;cases h1
 ·intro g hg;obtain⟨i,hi⟩:=VF.1 hg;rw[Vd]at hi;have cG:gs[1+i]?=some g:=by simpa[crowd]using hi
  obtain⟨q,_,hq⟩:=dc (1+i) g (by omega) cG;exact⟨q,hq.leaves⟩
 ·intro i g hi eR;obtain⟨q,_,hq⟩:=dc i g (by omega) hi;exact⟨q,hq.hears _⟩
def MJ.end{V:View}{g:Te}(hg:g.status=.running)(hr:V.role=.plain)
  (h:∀w,Sat V w->Left n0 W0 w->(∀b,b<n0->V.own b=none)->∃v w' es V',stepG P true g w=.ended (.done v) w' es/\da V w V' w' es/\Post v w'):MJ P Post n0 W0 V g:=by
 refine MJ.iY hg λgs w sl t K Im ic ph st hI cg ⟨g0,h0,kA,ld,iP,mQ⟩=> .inr ?_;have gR:=hI.out.2.1;have fA:Sat V w:=by have:=hI.core.sat 0 hI.pos;rwa[kM]at this
 obtain⟨v,w',es,V',h1,h2,h3⟩:=h w fA ⟨gR.tape,gR.os,gR.out,gR.old,gR.n0⟩ (λb hb=>by have:=gR.jm 0 hI.pos b hb;rwa[kM]at this);have aT:stepG P (0==0) g0 w=.ended (.done v) w' es:=by rw[<- h1];exact Yh ld iP mQ w
 refine⟨_,w',_,runT_crowd_ended h0 aT,λw0 Ed=> ?_⟩;have gL:ph=none:=by rw[hr]at cg;exact cg
 subst gL;have hinv:=hI.abC (g':=g0) h0 h2 cg;have sV:=hinv.oo (Post:=Post) h3 w0 Ed;obtain⟨v',e,hp,hn,hh,hl,hd⟩:=sV;refine⟨v',e,hp,hn,hh,⟨?_,rfl⟩,?_⟩
 ·intro g K8;obtain⟨i,hi⟩:=VF.1 K8;rw[Vd]at hi;have cG:gs[1+i]?=some g:=by simpa[crowd]using hi
  obtain⟨q,_,hq⟩:=hI.out.1 (1+i) g (by omega) cG;exact⟨q,hq.leaves⟩
 ·intro i g hi eR;obtain⟨q,_,hq⟩:=hI.out.1 i g (by omega) hi;refine⟨q,?_⟩;have:(t++Ua 0 g0.frame.fn g0.frame.place es).deaf i (t++Ua 0 g0.frame.fn g0.frame.place es).size=VH t i:=
   ZM t (g:=i) (g':=0) (by omega) _ λop az=>by obtain⟨e,_,rfl⟩:=UD az;rfl
  rw[this];exact hq.hears _
def Inv.init(W:Ul){V:View}(ho:V.own=λ_=>none)(hd:V.deaf=0)(hs:Sat V W)(g:Te):Inv P W.heap.size W V #[g] W #[] (λ_=> .gone 0) V.ab 0 none none:=by
 have fi:∀i,i<(1:Nat)->bD V V.ab (λ_=> .gone 0) i=V:=λi hi=>by
  obtain rfl:i=0:=by omega
  simp[bD]
 refine Inv.mk' (by simp) rfl (by rw[hd];rfl) (λi x hi hx=> ?_) ⟨λi hi=>by rw[fi i hi];exact hs,λi j hi hj j5=> ?_,?_,rfl,rfl,rfl,λ_ _=>rfl,λi hi b _=>by rw[fi i hi,ho],Tm _⟩ ?_ rfl
 ·exfalso;have:=(Tl.1 hx).1;simp at this;omega
 ·simp at hi hj;omega
 ·refine⟨λsaid hr=> ?_,by simp,by simp,by simp,λi _ l _ idx a ha=> ?_,λi _ l _ idx a ha=> ?_,λidx a ha=> ?_⟩
  ·obtain⟨i,j,_,⟨a,b,ha,_⟩,_⟩:=hr;obtain⟨op,az,_⟩:=VG ha;simp at az
  ·obtain⟨op,az,_⟩:=VG ha;simp at az
  ·obtain⟨op,az,_⟩:=VG ha;simp at az
  ·obtain⟨op,az,_⟩:=VG ha;simp at az
 ·intro idx a ha _;obtain⟨op,az,_⟩:=VG ha;simp at az
def aks{f:UH}{args:SG}{W:Ul}{V:View}{R:SU}(hi:P.inits.idxOf? f=none)(ho:V.own=λ_=>none)(hd:V.deaf=0)(cg:V.role=.plain)(hs:Sat V W)(h:Body true P f args .normal V R)
  (hR:∀o V',R o V'->V'.role=.plain/\∃v,o=.ret v/\∀w,Sat V' w->Left W.heap.size W w->Post v w):
  ∃M last o w' t',runNT P (M+1) (solo (G (Frame.enter P f args .normal) []) W) #[]=(.ended o w',t')/\runN P M (solo (G (Frame.enter P f args .normal) []) W)=.next last/\step P last=.ended o w'/\Yq P Post last o w' t':=by
 have hJ:MJ P Post W.heap.size W V (G (Frame.enter P f args .normal) []):=by
  refine h true _ aop [] λo V' fr r hl=> ?_;obtain⟨hr,v,rfl,hp⟩:=hR _ _ r;obtain⟨rfl,bt,hk,fn,hf,hm,gA⟩:=hl;refine MJ.end rfl hr λw hw Aj hold=> ?_;obtain⟨es,w',aW,h1,h2,h3⟩:=gA.runs hw;rcases h3 with⟨x,h3,rfl,rfl⟩|⟨_,_,hx⟩
  ·refine⟨x,w',seen P fr.fn es,aW,by simp[G,stepG,unwind,doReturn,hm,bt,hk,hf,h3,h2,UT,hi],h1.seen P fr.fn,?_⟩;refine hp w' h1.sat ⟨h1.tape.trans Aj.tape,h1.os.trans Aj.os,h1.output.trans Aj.out,λb hb=> ?_,Vb Aj.size h1.size⟩;rw[h1.frame b (Ub hb Aj.size) (hold b hb)];exact Aj.old b hb
  ·exact hx.elim
 exact hJ.2 #[_] W none #[] _ _ _ none none (Inv.init W ho hd hs _) (by rw[cg];rfl) ⟨_,rfl,rfl,rfl,rfl,rfl⟩
end
open Go.Conc
def gC (P:Tg)(main:Bool)(g:Te):Te:=match stepG P main g default with
 |.go g' _ _=>g'
 |_=>g
def AM (P:Tg)(main:Bool)(g:Te):Array WV:=match stepG P main g default with
 |.go _ _ es=>es
 |_=>#[]
def cJ (P:Tg)(main:Bool):Nat->Te->Te
 |0,g=>g
 |n+1,g=>cJ P main n (gC P main g)
def fM (P:Tg)(main:Bool)(w:Ul):Nat->Te->List awL
 |0,_=>[]
 |n+1,g=>stepG P main g w::fM P main w n (gC P main g)
def fH (P:Tg)(main:Bool)(w:Ul):Nat->Te->List awL
 |0,_=>[]
 |n+1,g=> .go (gC P main g) w (AM P main g)::fH P main w n (gC P main g)
def bQ (g:Te):Bool:=match g.status with
 |.running=>true
 |_=>false
def bQ.out{g:Te}(h:bQ g=true):g.status=.running:=by
 unfold bQ at h;split at h
 ·assumption
 ·cases h
def iU (P:Tg)(main:Bool):Nat->Te->Bool
 |0,_=>true
 |n+1,g=>bQ g&&(AM P main g).all Xi&&iU P main n (gC P main g)
def oM (P:Tg)(main:Bool):Nat->Te->Bool
 |0,_=>true
 |n+1,g=>bQ g&&(AM P main g).isEmpty&&oM P main n (gC P main g)
def jK (P:Tg)(main:Bool):Nat->Nat->Te->Nat
 |0,d,_=>d
 |n+1,d,g=>jK P main n (deafBehind d (AM P main g)) (gC P main g)
section
variable {P:Tg}
def M9{n:Nat}{main:Bool}{g:Te}(h:iU P main (n+1) g=true):g.status=.running/\(∀e∈AM P main g,Xi e=true)/\iU P main n (gC P main g)=true:=by
 simp only[iU,Uk]at h;exact⟨bQ.out h.1.1,λe he=>Vw.1 h.1.2 e he,h.2⟩
def wS{Stop:SZ}:∀(n d:Nat)(g:Te),(∀w,fM P false w n g=fH P false w n g)->iU P false n g=true->(∃m,cS P Stop m (jK P false n d g) (cJ P false n g))->∃m,cS P Stop m d g
 |0,d,g,_,_,hs=>hs
 |n+1,d,g,h,hm,hs=>by
  obtain⟨h1,h2,h3⟩:=M9 hm;obtain⟨m,hm⟩:=wS n _ (gC P false g) (λw=>(WB (h w)).2) h3 hs;exact⟨m+1,.inr ⟨h1,_,_,h2,λw=>(WB (h w)).1,hm⟩⟩
def adg{Wg:Nat}{Stop:SZ}:∀(n d:Nat)(g:Te),(∀w,fM P false w n g=fH P false w n g)->iU P false n g=true->(∃m,gZ P Wg Stop m (jK P false n d g) (cJ P false n g))->∃m,gZ P Wg Stop m d g
 |0,d,g,_,_,hs=>hs
 |n+1,d,g,h,hm,hs=>by
  obtain⟨h1,h2,h3⟩:=M9 hm;obtain⟨m,hm⟩:=adg n _ (gC P false g) (λw=>(WB (h w)).2) h3 hs;exact⟨m+1,.inr ⟨h1,_,_,h2,λw _ _ _=>(WB (h w)).1,hm⟩⟩
def adh{Wg:Nat}{Stop:SZ}{d:Nat}{g g':Te}(hr:g.status=.running)(h:∀w x y,WgAt P Wg w x y->stepG P false g w=.go g' w #[])(hs:∃m,gZ P Wg Stop m d g'):∃m,gZ P Wg Stop m d g:=by
 obtain⟨m,hm⟩:=hs;exact⟨m+1,.inr ⟨hr,g',#[],by simp,h,by simpa[deafBehind]using hm⟩⟩
def HR:∀(n d:Nat)(g:Te),(∀w,fM P false w n g=fH P false w n g)->iU P false n g=true->(∃q,YR P q (jK P false n d g) (cJ P false n g))->∃q,YR P q d g
 |0,d,g,_,_,hs=>hs
 |n+1,d,g,h,hm,hs=>by
  obtain⟨h1,h2,h3⟩:=M9 hm;obtain⟨m,hm⟩:=HR n _ (gC P false g) (λw=>(WB (h w)).2) h3 hs;exact⟨m+1,.inr ⟨h1,_,_,h2,λw=>(WB (h w)).1,hm⟩⟩
def NN{d:Nat}{g:Te}(h:g.status=.finished)(hd:d=0):∃q,YR P q d g:=⟨0,h,hd⟩
def aqv{n:Nat}{main:Bool}{g:Te}(h:oM P main (n+1) g=true):g.status=.running/\AM P main g=#[]/\oM P main n (gC P main g)=true:=by
 simp only[oM,Uk]at h;exact⟨bQ.out h.1.1,by simpa using h.1.2,h.2⟩
def tw{lv main:Bool}{J:SM}(C:Closed lv P main J){V:View}:∀(n:Nat)(g:Te),(∀w,fM P main w n g=fH P main w n g)->oM P main n g=true->J V (cJ P main n g)->J V g
 |0,g,_,_,hs=>hs
 |n+1,g,h,hm,hs=>by
  obtain⟨h1,h2,h3⟩:=aqv hm;refine C.idle h1 (λw=> ?_) (tw C n (gC P main g) (λw=>(WB (h w)).2) h3 hs);rw[(WB (h w)).1,h2]
def Closed.mute{lv main:Bool}{J:SM}(C:Closed lv P main J){V:View}{g g':Te}{m:Mark}(hm:m=.disable\/m=.enable)(hr:g.status=.running)(h:∀w,stepG P main g w=.go g' w #[⟨.mark m,false,true⟩])(hJ:J {V with deaf:=deafBehind V.deaf #[⟨.mark m,false,true⟩]} g'):J V g:=by
 refine C.step _ _ hr λw hw=> ?_;have hs:=art (P:=P) (V:=V) (k:=(.pure ():Sem Unit)) (K:=λ_ V'=>V'={V with deaf:=deafBehind V.deaf #[⟨.mark m,false,true⟩]}) (Kp:=λ_ _=>False) hm (b8 rfl);obtain⟨es,w',V',k1,k2,k3⟩:=hs.runs hw;rcases k3 with⟨x,k3,rfl⟩|⟨_,_,hx⟩
 ·have e1:ab_ () w=ab_ x w':=k3;have e2:es=#[⟨.mark m,false,true⟩]:=k2.symm;cases e1;subst e2;refine⟨g',w,_,_,h w,?_,hJ⟩;rwa[tC (by rcases hm with rfl|rfl<;>simp)]at k1
 ·exact hx.elim
def ready (g:Te):Option U8:=match g with
 |{frame:={fn:=_,tmps,todo:=.inRegion ops (i::_)::_,defers:=_,mode:=.run,kind,roundOf:=none},callers:=_,status:=.running,dying:=none,offers:=none}=>
  match ops[i]?with
  |some o=>if Ug o (yielded ops tmps)&& !(kind== .early)then some o else none
  |none=>none
 |_=>none
def fin (g:Te)(v:T5):Te:={g with frame:=g.frame.finish v}
def ready.out{g:Te}{o:U8}(h:ready g=some o):∃(b:VA)(a:Act)(ops:SK)(i:Nat)(rest:SE)(k:SY)(cs:SX),g=G (b.at a (.inRegion ops (i::rest)::k)) cs/\ops[i]?=some o/\Ug o (yielded ops a.tmps)=true/\b.kind≠ .early/\a.eval=g.frame.eval/\
  (∀v,G (b.at (a.put o.dst v) (.inRegion ops rest::k)) cs=fin g v)/\b.fn=g.frame.fn/\g.status=.running:=by
 unfold ready at h;split at h
 ·rename_i fn tmps ops i rest k defers kind cs;split at h
  ·rename_i o' ho;split at h
   ·rename_i hw;cases h;simp only[Uk,UK,beq_eq_false_iff_ne,ne_eq]at hw;refine⟨{(default:VA)with fn,kind},⟨tmps,defers⟩,ops,i,rest,k,cs,rfl,ho,hw.1,hw.2,?_,λv=> ?_,rfl,rfl⟩
    ·funext x;cases x<;>rfl
    ·unfold fin;have:=Frame.finish_at {(default:VA)with fn,kind} ⟨tmps,defers⟩ ops i rest k v;rw[ho]at this;simp only[Frame.at,Z9]at this⊢;rw[this];rfl
   ·cases h
  ·cases h
 ·cases h
def cC (g:Te):Option (UH×Array T5):=match ready g with
 |some {op:=.call {callee:=.value (.func f),args, .. }, .. }=>some (f,args.map g.frame.eval)
 |_=>none
def cC.out{g:Te}{f:UH}{vs:SG}(h:cC g=some (f,vs)):∃o aG ma,ready g=some o/\o.op=.call {callee:=.value (.func f),args:=aG,argTypes:=ma}/\aG.map g.frame.eval=vs:=by
 unfold cC at h;split at h
 ·rename_i f' aG ma dst ty pos af gd ho;cases h;exact⟨_,_,_,ho,rfl,rfl⟩
 ·cases h
structure Ext (P:Tg)(f:UH)(e:Array T5->Sem T5):Prop where
 fn : ∃ fn, P.funcs[f]? = some fn /\ (fn.name == "runtime.NumGoroutine") = false /\ fn.body.isNone = true /\ Extern.findNext fn = none /\ Extern.find fn = some e
variable {main:Bool}{g:Te}{f:UH}{w:Ul}
def adk{v d:Int}{k:UN}{ad:Wp}(h:cC g=some (f,#[.pointer (some ad),.int k d]))(he:Ext P f (adE (Op.intArith .add) k true))(hc:w.cell? ad=some (.int k v))(hz:w.frozen? ad=false):
  stepG P main g w=.go (fin g (.int k (k.wrap (v+d)))) (w.setCell ad (.int k (k.wrap (v+d)))) #[⟨.cell ad,false,true⟩,⟨.cell ad,true,true⟩]:=by
 obtain⟨o,aG,ma,h1,h2,h3⟩:=cC.out h;obtain⟨b,a,ops,i,rest,kk,cs,e,q1,q2,q3,q4,q5,q6,_⟩:=ready.out h1;obtain⟨fn,f1,f2,f3,f4,f5⟩:=he.fn;rw[<- q4]at h3;rw[<- q5];refine Xd (congrArg (λx=>stepG P main x w) e) ?_;exact aq_ q1 q2 q3 h2 f1 f2 f3 f4 f5 (by rw[h3];exact run_add_entry hc hz) (by rw[h3,events_add_entry hc hz];rfl) (sync_rw ad)
def N4{v:Int}{k:UN}{ad:Wp}(h:cC g=some (f,#[.pointer (some ad)]))(he:Ext P f (ad' (.int k)))(hc:w.cell? ad=some (.int k v)):
  stepG P main g w=.go (fin g (.int k v)) w #[⟨.cell ad,false,true⟩]:=by
 obtain⟨o,aG,ma,h1,h2,h3⟩:=cC.out h;obtain⟨b,a,ops,i,rest,kk,cs,e,q1,q2,q3,q4,q5,q6,_⟩:=ready.out h1;obtain⟨fn,f1,f2,f3,f4,f5⟩:=he.fn;rw[<- q4]at h3;rw[<- q5];refine Xd (congrArg (λx=>stepG P main x w) e) ?_;obtain⟨x,rfl⟩:∃x,aG=#[x]:=by
  have:aG.size=1:=by have:=congrArg avQ h3;simpa using this
  exact Array.size_eq_one_iff.1 this
 exact stepG_load_atomic q1 q2 q3 h2 f1 f2 f3 f4 k f5 (by simpa using h3) hc
def ar0{v:Int}{u:T5}{k:UN}{ad:Wp}(h:cC g=some (f,#[.pointer (some ad),.int k v]))(he:Ext P f ad_)(hc:w.cell? ad=some u)(hz:w.frozen? ad=false):
  stepG P main g w=.go (fin g (.tuple #[])) (w.setCell ad (.int k v)) #[⟨.cell ad,true,true⟩]:=by
 obtain⟨o,aG,ma,h1,h2,h3⟩:=cC.out h;obtain⟨b,a,ops,i,rest,kk,cs,e,q1,q2,q3,q4,q5,q6,_⟩:=ready.out h1;obtain⟨fn,f1,f2,f3,f4,f5⟩:=he.fn;rw[<- q4]at h3;rw[<- q5];refine Xd (congrArg (λx=>stepG P main x w) e) ?_;obtain⟨x,y,rfl⟩:∃x y,aG=#[x,y]:=by
  have:aG.toList.length=2:=by have:=congrArg avQ h3;simpa using this
  obtain⟨l⟩:=aG
  match l,this with
  |[x,y],_=>exact⟨x,y,rfl⟩
 have vZ:a.eval x=.pointer (some ad)/\a.eval y=.int k v:=by simpa using h3
 exact stepG_store_atomic q1 q2 q3 h2 f1 f2 f3 f4 f5 vZ.1 vZ.2 hc hz
def arT{v n:Int}{k:UN}{ad:Wp}(h:cC g=some (f,#[.pointer (some ad),.int k v,.int k n]))(he:Ext P f (Yx (.int k)))(hc:w.cell? ad=some (.int k v))(hz:w.frozen? ad=false):
  stepG P main g w=.go (fin g (.bool true)) (w.setCell ad (.int k n)) #[⟨.cell ad,false,true⟩,⟨.cell ad,true,true⟩]:=by
 obtain⟨o,aG,ma,h1,h2,h3⟩:=cC.out h;obtain⟨b,a,ops,i,rest,kk,cs,e,q1,q2,q3,q4,q5,q6,_⟩:=ready.out h1;obtain⟨fn,f1,f2,f3,f4,f5⟩:=he.fn;rw[<- q4]at h3;rw[<- q5];refine Xd (congrArg (λx=>stepG P main x w) e) ?_;exact aq_ q1 q2 q3 h2 f1 f2 f3 f4 f5 (by rw[h3,avD];exact run_cas_hit_entry hc hz) (by rw[h3,avD,events_cas_hit_entry hc hz];rfl) (sync_rw ad)
def arU{v old n:Int}{k:UN}{ad:Wp}(h:cC g=some (f,#[.pointer (some ad),.int k old,.int k n]))(he:Ext P f (Yx (.int k)))(hc:w.cell? ad=some (.int k v))(hz:w.frozen? ad=false)(aH:¬v=old):
  stepG P main g w=.go (fin g (.bool false)) w #[⟨.cell ad,false,true⟩]:=by
 obtain⟨o,aG,ma,h1,h2,h3⟩:=cC.out h;obtain⟨b,a,ops,i,rest,kk,cs,e,q1,q2,q3,q4,q5,q6,_⟩:=ready.out h1;obtain⟨fn,f1,f2,f3,f4,f5⟩:=he.fn;rw[<- q4]at h3;rw[<- q5];refine Xd (congrArg (λx=>stepG P main x w) e) ?_;exact aq_ q1 q2 q3 h2 f1 f2 f3 f4 f5 (by rw[h3,avD];exact run_cas_miss_entry hc hz aH) (by rw[h3,avD,events_cas_miss_entry hc hz aH];rfl) (sync_r ad)
def arY{n:Int}{x y:T5}{ad:Wp}(h:cC g=some (f,#[.pointer (some ad),x,y]))(he:Ext P f ats)(hc:w.cell? ad=some (.int .u32 n))(hz:w.frozen? ad=false):
  stepG P main g w=.go (fin g (.tuple #[])) (w.setCell ad (.int .u32 (av_.wrap (n+1)))) (semEvents ad):=by
 obtain⟨o,aG,ma,h1,h2,h3⟩:=cC.out h;obtain⟨b,a,ops,i,rest,kk,cs,e,q1,q2,q3,q4,q5,q6,_⟩:=ready.out h1;obtain⟨fn,f1,f2,f3,f4,f5⟩:=he.fn;rw[<- q4]at h3;rw[<- q5];refine Xd (congrArg (λx=>stepG P main x w) e) ?_;exact stepG_semrelease q1 q2 q3 h2 f1 f2 f3 f4 f5 (by rw[h3];rfl) hc hz
def arX{n:Int}{x:T5}{ad:Wp}(h:cC g=some (f,#[.pointer (some ad),x]))(he:Ext P f Yw)(hc:w.cell? ad=some (.int .u32 n))(hn:n≠0)(hz:w.frozen? ad=false):
  stepG P main g w=.go (fin g (.tuple #[])) (w.setCell ad (.int .u32 (n-1))) (semEvents ad):=by
 obtain⟨o,aG,ma,h1,h2,h3⟩:=cC.out h;obtain⟨b,a,ops,i,rest,kk,cs,e,q1,q2,q3,q4,q5,q6,_⟩:=ready.out h1;obtain⟨fn,f1,f2,f3,f4,f5⟩:=he.fn;rw[<- q4]at h3;rw[<- q5];refine Xd (congrArg (λx=>stepG P main x w) e) ?_;exact stepG_semacquire q1 q2 q3 h2 f1 f2 f3 f4 f5 (by rw[h3];rfl) hc hn hz
def arZ{x:T5}{ad:Wp}(h:cC g=some (f,#[.pointer (some ad),x]))(he:Ext P f Yw)(hc:w.cell? ad=some (.int .u32 0)):
  stepG P main g w=.go {g with status:=.blocked} w #[]:=by
 obtain⟨o,aG,ma,h1,h2,h3⟩:=cC.out h;obtain⟨b,a,ops,i,rest,kk,cs,e,q1,q2,q3,q4,q5,q6,_⟩:=ready.out h1;obtain⟨fn,f1,f2,f3,f4,f5⟩:=he.fn;rw[<- q4]at h3;rw[e];exact stepG_semacquire_wait q1 q2 h2 f1 f2 f3 f4 f5 (by rw[h3];rfl) hc
def H9{ad:Wp}(mk:Wp->Mark)(hm:∀ad g,mk ad≠ .extern g)(h:cC g=some (f,#[.pointer (some ad)]))(he:Ext P f (Xb mk)):
  stepG P main g w=.go (fin g (.tuple #[])) w #[⟨.mark (mk ad),false,true⟩]:=by
 obtain⟨o,aG,ma,h1,h2,h3⟩:=cC.out h;obtain⟨b,a,ops,i,rest,kk,cs,e,q1,q2,q3,q4,q5,q6,_⟩:=ready.out h1;obtain⟨fn,f1,f2,f3,f4,f5⟩:=he.fn;rw[<- q4]at h3;rw[<- q5];refine Xd (congrArg (λx=>stepG P main x w) e) ?_;exact stepG_markAt mk hm q1 q2 q3 h2 f1 f2 f3 f4 f5 (by rw[h3];rfl)
def oZ (g:Te):Option (TypeId×TypeId×T5):=match ready g with
 |some {op:=.convert s d x, .. }=>some (s,d,g.frame.eval x)
 |_=>none
def H_{src dst t:TypeId}{ad:Wp}{v:T5}(h:oZ g=some (src,dst,.pointer (some ad)))(hs:P.underlying src=some (.pointer t))(hd:P.underlying dst=some .unsafePointer)(aX:(P.info? t).map (λi=>decide (i.size=0))=some false)(hc:w.cell? ad=some v):
  stepG P main g w=.go (fin g (.pointer (some ad))) w #[]:=by
 obtain⟨o,x,h1,h2,h3⟩:∃o x,ready g=some o/\o.op=.convert src dst x/\g.frame.eval x=.pointer (some ad):=by
  unfold oZ at h;split at h
  ·rename_i s d x _ _ _ _ ho;simp only[Uh,VQ]at h;obtain⟨rfl,rfl,h⟩:=h;exact⟨_,x,ho,rfl,h⟩
  ·cases h
 obtain⟨b,a,ops,i,rest,kk,cs,e,q1,q2,q3,q4,q5,q6,_⟩:=ready.out h1;rw[<- q4]at h3;rw[<- q5];refine Xd (congrArg (λx=>stepG P main x w) e) ?_;have hr:(execOp a.eval o).run P w=.ok (.value (.pointer (some ad))) w:=by
  unfold execOp;simp only[h2,h3];simp[run_convert_to_unsafe hs hd aX hc]
 have cp:(execOp a.eval o).events P w #[]=#[]:=by
  unfold execOp;simp only[h2,h3];simp[events_convert_to_unsafe hs hd aX hc]
 rw[stepG_value q1 q2 q3 hr];unfold listed;rw[cp,Zj]
end
end Go.Gg
