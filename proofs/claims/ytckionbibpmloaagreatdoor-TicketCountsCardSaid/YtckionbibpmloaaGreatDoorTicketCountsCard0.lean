/- A part of the proof. -/
import Derived.Conc.Own5
import Derived.Conc.Own4
import Derived.Conc.Own3
import Derived.Conc.Own2
import Derived.Conc.QuitsD
import Derived.Conc.Deaf
import Derived.Conc.CompanyDraw
import Derived.Conc.Comm2
import Derived.Conc.Beside
import Derived.Conc.Events
import Derived.Conc.CrowdTrace
import Derived.Conc.CrowdComm
import Derived.Conc.CrowdStepC
import Derived.Conc.LeavingOf
import Derived.Conc.AtomicLaws
import Derived.Conc.AtomicLaws2
import Derived.Conc.MarkLaws
import Derived.Conc.SmallLaws
import Derived.Laws.LoneSync
import Derived.KernelRfl
set_option linter.all false
set_option maxRecDepth 4000
set_option maxHeartbeats 4000000
open Array renaming all_eq_true_iff_forall_mem->VG,append_assoc->XF,empty_append->XK,getElem?_append_right->Zj,getElem?_eq_getElem->Tj,getElem?_eq_some_iff->Tw,getElem?_map->XI,getElem?_modify->Wr,getElem?_push->XC,getElem?_push_lt->ZJ,getElem?_setIfInBounds->Xz,getElem?_setIfInBounds_ne->Tx,getElem?_setIfInBounds_self_of_lt->Ud,getElem_mem->XZ,isEmpty_empty->Z9,mem_append->Vu,mem_iff_getElem?->ZP,replicate->US,size->axo,size_append->YR
open Bool renaming and_eq_true->Ui,false_eq_true->UH,not_eq_true'->UV
open Classical renaming byContradiction->Uv
open Eq renaming trans->Xm
open Go renaming Addr->Wy,CallKind->Yr,Code->U5,Event->W8,Frame->VM,Func->aw5,FuncId->UR,GStep->ayi,Goroutine->Ti,IntKind->UZ,Item->ayg,Machine->ax0,MemOp->W7,Oper->Vp,Operand->Up,PanicEntry->aw3,Program->Tl,Touch->ZU,Trace->Vj,TypeInfo->X8,Value->T9,World->Us,step->axu
open Go.Act renaming put->Zg
open Go.CallKind renaming early->Wn
open Go.Conc renaming Deaf->VS,Deaf_other->ZW,Good->YA,Knows->Xe,QuitsD->Y5,act?_of->ZO,act?_old->Zi,casT_eq->axc,crowd_pick->aw9,crowd_waits->ax',deaf_succ->Zx,finishComm_recv->ZG,finishComm_send->axy,g?_old->ayj,getElem?_append_cases->Yz,getElem?_stand->XY,heard_old->Xb,knows_own->YQ,lt_of_act?->Xo,lt_size_of_getElem?->UI,mem_ofEvents->UO,mem_of_getElem?->XM,ofEvent_cell0->axS,offersAt_of_not_blocked->VK,offersAt_parked_send->avs,offersAt_ph->YM,partners_nil->ao_,runT_crowd_go->axR,runT_crowd_spawn->axl,seen_none->Zw,served->UY,stepG_entry->au',stepG_same->Yq,touch_mute->aw8,touch_of->VR,woken_quitsD->an',woken_run->Yj
open Go.Conc.Knows renaming app->axz
open Go.Conc.QuitsD renaming status->Zn
open Go.ConcN renaming le_sumTo->Xj,sumTo_congr->Wm
open Go.Event renaming mute->Xr
open Go.Extern.Atomic renaming casT->YH,loadT->ai',storeT->ai_,update->ah'
open Go.Extern.Race renaming marked->Xk
open Go.Extern.Sync renaming semacquire->YG,semrelease->awW
open Go.Frame renaming catches->aw6,oper?->ZV,round->Zf
open Go.GStep renaming after->U3
open Go.GoStatus renaming blocked->ax_
open Go.Goroutine renaming again->Z5
open Go.Goroutine.mk renaming injEq->axx
open Go.IntKind renaming u32->axH
open Go.Item renaming plain->axw
open Go.MemAct renaming low_mono->Y4,ofEvent->Ut,touch?->Xp
open Go.MemAct.mark renaming injEq->axG
open Go.MemOp renaming ofEvents->Uf
open Go.Obj renaming isChan->axF
open Go.Question renaming cut->axM,forced->ax4
open Go.Region renaming schedule->W6,wanted->Uo
open Go.Result renaming ok->af'
open Go.Sem renaming events_pure->av',runT->WQ,runT_eq->UE,run_pure->axi
open Go.Trace renaming g?->Xu
open Go.World renaming cell?->VA,frozen?->aw2,setCell->XQ,setChan->Xq
open Go.stepG renaming exec->U_,oper->aa'
open List renaming foldl_cons->Wd,getElem?_append_left->T6,getElem?_drop->Vo,getElem?_eq_some_iff->Tn,getElem?_set_ne->Vd,getElem?_set_self->Ym,length_append->Tp,length_cons->U4,length_nil->Vz,mem_append->T1,mem_cons->Tm,mem_iff_getElem?->VQ,mem_of_getElem?->Un,mem_toArray->UN,not_mem_nil->T5,range->Tt
open List.cons renaming inj->WH
open Nat renaming add_zero->Vr,eq_zero_or_pos->Vf,le_refl->Tv,le_trans->UJ,lt_of_lt_of_le->Ug,lt_succ_self->Vw,ne_of_lt->XN,strongRecOn->Zy
open Option renaming bind_some->ac_,map_eq_some_iff->Uu,map_some->VT
open Option.some renaming inj->V_,injEq->Ul
open Prod.mk renaming injEq->VW
namespace Go.Gg
open Go.Conc
abbrev SE:=List Nat
abbrev SD:=List Int
abbrev cC:=Nat->Nat->Option T9
abbrev CR:=Nat->Option Obj
abbrev Spec:=T9->cC->CR->Prop
inductive nT where
 |plain
 |fork (c Wg:Nat) (Ss:List (List Spec))
 |recv (c Wg:Nat) (Ss:List (List Spec))
 |work (c Wg:Nat) (S:List Spec)
def nT.group:nT->Option Nat
 |.fork _ Wg _=>some Wg
 |_=>none
def nT.chan:nT->Option Nat
 |.fork c _ _=>some c
 |_=>none
structure View where
 ah:cC
 own:CR
 deaf:Nat
 role:nT
structure Sat (V:View)(w:Us):Prop where
 ah:∀b o v,V.ah b o=some v->w.cell? ⟨b,o,none⟩=some v
 own:∀b x,V.own b=some x->w.heap[b]?=some x
def uX (V:View)(n:Nat)(a:Wy):Prop:=n<=a.block\/V.own a.block≠none\/V.ah a.block a.off≠none
def nf (V:View)(n:Nat)(a:Wy):Prop:=n<=a.block\/(V.own a.block≠none/\V.ah a.block a.off=none)
def nQ (V:View)(n:Nat)(e:W8):Prop:=
 match e with
 |⟨.cell a,false,s⟩=>uX V n a/\(s=true\/V.role.group≠some a.block)
 |⟨.cell a,true,s⟩=>nf V n a/\(s=true\/V.role.group≠some a.block)
 |⟨.obj r,_,s⟩=>(s=false/\(n<=r\/V.own r≠none))/\V.role.chan≠some r
 |⟨.mark (.read a),_,_⟩=>nf V n a
 |⟨.mark (.write a),_,_⟩=>nf V n a
 |⟨.mark .disable,_,s⟩=>s=true
 |⟨.mark .enable,_,s⟩=>s=true
 |⟨.mark .noRoom,_,_⟩=>True
 |_=>False
structure dl (V:View)(w:Us)(V':View)(w':Us)(es:Array W8):Prop where
 sat:Sat V' w'
 tape:w'.tape=w.tape
 os:w'.os=w.os
 output:w'.output=w.output
 size:w.heap.size<=w'.heap.size
 frame:∀b,b<w.heap.size->V.own b=none->w'.heap[b]?=w.heap[b]?
 own:∀b,b<w.heap.size->V.own b=none->V'.own b=none
 ah:∀b o v,V.ah b o=some v->V'.ah b o=some v
 kZ:∀b o v,V'.ah b o=some v->V.ah b o=some v\/V.own b≠none\/w.heap.size<=b
 fJ:∀e∈es,nQ V w.heap.size e
 deaf:V'.deaf=deafBehind V.deaf es
 role:V'.role=V.role
 chan:∀c x,V.role.chan=some c->V.own c=some x->V'.own c=some x
 low:∀e∈es,(Ut e).low w'.heap.size
structure eg (V V':View):Prop where
 sat:∀w,Sat V w->Sat V' w
 own:∀b,V.own b=none->V'.own b=none
 ah:∀b o v,V.ah b o=some v->V'.ah b o=some v
 kZ:∀b o v,V'.ah b o=some v->V.ah b o=some v\/V.own b≠none
 deaf:V'.deaf=V.deaf
 role:V'.role=V.role
 chan:∀c x,V.role.chan=some c->V.own c=some x->V'.own c=some x
def eg.refl(V:View):eg V V:=⟨λ_ h=>h,λ_ h=>h,λ_ _ _ h=>h,λ_ _ _ h=> .inl h,rfl,rfl,λ_ _ _ e=>e⟩
def eg.trans{V V' aZ:View}(h:eg V V')(k:eg V' aZ):eg V aZ:=
 ⟨λw x=>k.sat w (h.sat w x),λb x=>k.own b (h.own b x),λb o v x=>k.ah b o v (h.ah b o v x),λb o v x=>(k.kZ b o v x).elim (λy=>h.kZ b o v y) (λy=> .inr λz=>y (h.own b z)),k.deaf.trans h.deaf,k.role.trans h.role,λc x e e'=>k.chan c x (by rw[h.role];exact e) (h.chan c x e e')⟩
def uX.s8{V V':View}(g:eg V V'){n:Nat}{a:Wy}(h:uX V' n a):uX V n a:=by
 rcases h with h|h|h;exact .inl h;exact .inr (.inl λe=>h (g.own _ e))
 ·cases e:V'.ah a.block a.off with
  |none=>exact absurd e h
  |some v=>exact(g.kZ _ _ _ e).elim (λx=> .inr (.inr (by rw[x];simp))) (λx=> .inr (.inl x))
def nf.s8{V V':View}(g:eg V V'){n:Nat}{a:Wy}(h:nf V' n a):nf V n a:=by
 rcases h with h|⟨h,h'⟩;exact .inl h
 ·refine .inr ⟨λe=>h (g.own _ e),?_⟩;cases e:V.ah a.block a.off with
  |none=>rfl
  |some v=>rw[g.ah _ _ _ e]at h';cases h'
def nQ.s8{V V':View}(g:eg V V'){n:Nat}{e:W8}(h:nQ V' n e):nQ V n e:=by unfold nQ at h⊢;split at h;exact⟨uX.s8 g h.1,by rw[<- g.role];exact h.2⟩;exact⟨nf.s8 g h.1,by rw[<- g.role];exact h.2⟩;exact⟨⟨h.1.1,h.1.2.imp id λx y=>x (g.own _ y)⟩,by rw[<- g.role];exact h.2⟩;exact nf.s8 g h;exact nf.s8 g h;exact h;exact h;trivial;exact h.elim
abbrev SO:=Array W8
def dl.s8{V V₁ V':View}{w w':Us}{es:SO}(g:eg V V₁)(h:dl V₁ w V' w' es):dl V w V' w' es:=
 ⟨h.sat,h.tape,h.os,h.output,h.size,λb hb e=>h.frame b hb (g.own b e),λb hb e=>h.own b hb (g.own b e),λb o v e=>h.ah b o v (g.ah b o v e),
  λb o v e=>(h.kZ b o v e).elim (λx=>(g.kZ b o v x).imp id .inl) (λx=> .inr (x.imp (λy z=>y (g.own b z)) id)),λe he=>nQ.s8 g (h.fJ e he),by rw[h.deaf,g.deaf],h.role.trans g.role,λc x e e'=>h.chan c x (by rw[g.role];exact e) (g.chan c x e e'),h.low⟩
def dl.ghost{V V' aZ:View}{w w':Us}{es:SO}(h:dl V w V' w' es)(g:eg V' aZ):dl V w aZ w' es:=
 ⟨g.sat _ h.sat,h.tape,h.os,h.output,h.size,h.frame,λb hb e=>g.own b (h.own b hb e),λb o v e=>g.ah b o v (h.ah b o v e),
  λb o v e=>(g.kZ b o v e).elim (λx=>h.kZ b o v x) (λx=>by
   by_cases hb:b<w.heap.size;exact .inr (.inl λy=>x (h.own b hb y))
   ·exact .inr (.inr (by omega))),h.fJ,by rw[g.deaf,h.deaf],g.role.trans h.role,λc x e e'=>g.chan c x (by rw[h.role];exact e) (h.chan c x e e'),h.low⟩
def dl.idle{V:View}{w:Us}(h:Sat V w):dl V w V w #[]:=
 ⟨h,rfl,rfl,rfl,Tv _,λ_ _ _=>rfl,λ_ _ e=>e,λ_ _ _ e=>e,λ_ _ _ e=> .inl e,by simp,rfl,rfl,λ_ _ _ e=>e,by simp⟩
def Sat.drew{V:View}{w:Us}(h:Sat V w)(d:Nat):Sat V {w with drawn:=d}:=⟨h.ah,h.own⟩
def dl.draw{V:View}{w:Us}(h:Sat V w)(d:Nat):dl V w V {w with drawn:=d} #[]:=
 ⟨h.drew d,rfl,rfl,rfl,Tv _,λ_ _ _=>rfl,λ_ _ e=>e,λ_ _ _ e=>e,λ_ _ _ e=> .inl e,by simp,rfl,rfl,λ_ _ _ e=>e,by simp⟩
def eo (Wg:Nat):Wy:=⟨Wg,0,none⟩
def pL (Wg:Nat):Wy:=⟨Wg,1,none⟩
def PP (P : Tl) : TypeId := ((P.types.findIdx? λi => match i.desc with | .named n _ => n == "sync.WaitGroup" | _ => false).getD 0)
def wgBlock (P:Tl)(st sm:Int):Obj:=.cells #[.int .u64 st,.int .u32 sm] (PP P)
def WgAt (P:Tl)(Wg:Nat)(w:Us)(st sm:Int):Prop:=w.heap[Wg]?=some (wgBlock P st sm)
def KK:Int:=4294967296
def jx (a:Wy):W8:=⟨.cell a,false,true⟩
def lA (a:Wy):W8:=⟨.cell a,true,true⟩
def kA (m:Mark):W8:=⟨.mark m,false,true⟩
def Ck (a:Wy):Array W8:=#[kA .disable,jx a,lA a,kA .enable]
abbrev S0:=Nat->Ti->Prop
def cZ (P:Tl)(Stop:S0):Nat->Nat->Ti->Prop
 |0,d,g=>Stop d g
 |n+1,d,g=>Stop d g\/(g.status=.running/\∃g' es,(∀e∈es,Xr e=true)/\(∀w,stepG P false g w=.go g' w es)/\cZ P Stop n (deafBehind d es) g')
def iJ (P:Tl)(Wg:Nat)(Stop:S0):Nat->Nat->Ti->Prop
 |0,d,g=>Stop d g
 |n+1,d,g=>Stop d g\/(g.status=.running/\∃g' es,(∀e∈es,Xr e=true)/\(∀w x y,WgAt P Wg w x y->stepG P false g w=.go g' w es)/\iJ P Wg Stop n (deafBehind d es) g')
section
variable (P:Tl)(Wg:Nat)
def FX (d:Nat)(g:Ti):Prop:=d=1/\g.status=.running/\mayWake P g=true/\∃g',(∀w,WgAt P Wg w 0 0->stepG P false g w=.go g' (w.setCell (pL Wg) (.int .u32 1)) (Ck (pL Wg)))/\∃q,Y5 P q 1 g'
def FY (d:Nat)(g:Ti):Prop:=d=1/\g.status=.running/\∃g',(∀w,WgAt P Wg w 1 0->stepG P false g w=.go g' (w.setCell (eo Wg) (.int .u64 0)) #[lA (eo Wg)])/\∃n,cZ P (FX P Wg) n 1 g'
def FW (d:Nat)(g:Ti):Prop:=d=1/\g.status=.running/\∃g',(∀w,WgAt P Wg w 1 0->stepG P false g w=.go g' w #[jx (eo Wg)])/\∃n,cZ P (FY P Wg) n 1 g'
def CF (d:Nat)(g:Ti):Prop:=d=1/\g.status=.running/\∀v wt:Nat,wt<=1->v<4->∃g',(∀w,WgAt P Wg w (((v+1:Nat):Int)* KK+wt) 0->stepG P false g w=.go g' (w.setCell (eo Wg) (.int .u64 ((v:Int)* KK+wt))) #[jx (eo Wg),lA (eo Wg)])/\
 ((v=0/\wt=1)->∃n,cZ P (FW P Wg) n 1 g')/\(¬(v=0/\wt=1)->∃q,Y5 P q 1 g')
def F3 (g:Ti):Prop:=g.status=.running/\∃g',(∀w,stepG P false g w=.go g' w #[kA (.releaseMerge (eo Wg))])/\∃n,cZ P (CF P Wg) n 0 g'
end
section
variable (P:Tl)(Im:cC)(c Wg:Nat)
def JI (d:Nat)(g:Ti):Prop:=d=0/\g.status=.running/\mayWake P g=true/\∃g',(∀w s,w.heap[c]?=some (.chan 0 #[] false s s false)->stepG P false g w=.go g' {w with heap:=w.heap.setIfInBounds c (.chan 0 #[] true s s false)} #[⟨.obj c,false,true⟩,⟨.obj c,true,true⟩])/\∃q,Y5 P q 0 g'
def JK (d:Nat)(g:Ti):Prop:=d=0/\g.status=.running/\∃b o x g',Im b o=some x/\(∀w,w.cell? ⟨b,o,none⟩=some x->stepG P false g w=.go g' w #[⟨.cell ⟨b,o,none⟩,false,false⟩])/\∃n,cZ P (JI P c) n 0 g'
def uT (d:Nat)(g:Ti):Prop:=d=0/\g.status=.running/\∃g',(∀w,stepG P false g w=.go g' w #[kA (.acquire (eo Wg))])/\∃n,cZ P (JK P Im c) n 0 g'
def JJ (d:Nat)(g:Ti):Prop:=d=1/\g.status=.running/\∃g',(∀w,WgAt P Wg w 0 0->stepG P false g w=.go g' w #[jx (eo Wg)])/\∃n,iJ P Wg (uT P Im c Wg) n 1 g'
def FV (d:Nat)(g:Ti):Prop:=d=1/\g.status=.running/\g.offers=none/\(∀w st,WgAt P Wg w st 0->stepG P false g w=.go {g with status:=.blocked} w #[])/\
 ∃g',(∀w,WgAt P Wg w 0 1->stepG P false g w=.go g' (w.setCell (pL Wg) (.int .u32 0)) (Ck (pL Wg)))/\∃n,cZ P (JJ P Im c Wg) n 1 g'
def FU (d:Nat)(g:Ti):Prop:=d=1/\g.status=.running/\∃g',(∀w,stepG P false g w=.go g' w #[kA (.write (pL Wg))])/\∃n,cZ P (FV P Im c Wg) n 1 g'
def eY:Nat->Nat->Ti->Prop
 |0,_,_=>False
 |k+1,d,g=>d=1/\g.status=.running/\∀v:Nat,v<=k->v<=4->∃g',(∀w,WgAt P Wg w ((v:Int)* KK) 0->stepG P false g w=.go g' w #[jx (eo Wg)])/\(v=0->∃n,iJ P Wg (uT P Im c Wg) n 1 g')/\
  (v≠0->∃n,cZ P (λd g=>d=1/\g.status=.running/\
   (∃g',(∀w,WgAt P Wg w ((v:Int)* KK) 0->stepG P false g w=.go g' (w.setCell (eo Wg) (.int .u64 ((v:Int)* KK+1))) #[jx (eo Wg),lA (eo Wg)])/\∃n,iJ P Wg (FU P Im c Wg) n 1 g')/\
   (∀u:Nat,u<v->∃g',(∀w,WgAt P Wg w ((u:Int)* KK) 0->stepG P false g w=.go g' w #[jx (eo Wg)])/\∃n,cZ P (eY v) n 1 g')) n 1 g')
 termination_by k _ _=>k
def JL (g:Ti):Prop:=∃n,cZ P (eY P Im c Wg 5) n 0 g
end
structure Am (P:Tl)(main:Bool)(J:View->Ti->Prop):Prop where
 step:∀V g,g.status=.running->(∀w,Sat V w->∃g' w' es V',stepG P main g w=.go g' w' es/\dl V w V' w' es/\J V' g')->J V g
 ghost:∀V V' g,eg V V'->J V' g->J V g
 send:∀V g c Wg sp S v z (B:Nat->Bool),V.role=.work c Wg (sp::S)->V.deaf=0->g.status=.running->g.offers=none->
  (∀w,Sat V w->stepG P main g w=.comm g #[scase c v z] true .send w #[])->sp v V.ah (λb=>if B b then V.own b else none)->
  J {V with own:=λb=>if B b then none else V.own b,role:=.work c Wg S} (UY g undef)->J V g
 done:∀V g c Wg,V.role=.work c Wg []->V.deaf=0->F3 P Wg g->J V g
 slip:∀V g g' c Wg,V.role=.work c Wg []->g.status=.running->(∀w st,Sat V w->WgAt P Wg w st 0->stepG P main g w=.go g' w #[])->J V g'->J V g
structure afs (P:Tl)(main:Bool)(J:View->Ti->Prop):Prop where
 start:∀V g c Wg,V.role=.plain->c≠Wg->V.own c=some (.chan 0 #[] false 0 0 false)->V.own Wg≠none->(∀o,V.ah Wg o=none)->J {V with role:=.fork c Wg []} g->J V g
 GW:∀V g g' child c Wg Ss sp S,V.role=.fork c Wg Ss->V.deaf=0->g.status=.running->V.own c=some (.chan 0 #[] false 0 0 false)->V.own Wg=some (wgBlock P (((Ss.length+1:Nat):Int)* 4294967296) 0)->Ss.length<4->(∀o,V.ah Wg o=none)->
  (∀w,Sat V w->stepG P main g w=.spawn g' child w #[])->child.status=.running->
  (∀J0,Am P false J0->J0 {ah:=V.ah,own:=λ_=>none,deaf:=0,role:=.work c Wg (sp::S)} child)->
  J {V with role:=.fork c Wg (Ss++[sp::S])} g'->J V g
 GV:∀V g g' child c Wg Ss,V.role=.fork c Wg Ss->V.deaf=0->g.status=.running->c≠Wg->V.own c=some (.chan 0 #[] false 0 0 false)->V.own Wg=some (wgBlock P (((Ss.length:Nat):Int)* 4294967296) 0)->(∀o,V.ah c o=none)->(∀o,V.ah Wg o=none)->
  (∀w,Sat V w->stepG P main g w=.spawn g' child w #[])->child.status=.running->JL P V.ah c Wg child->
  J {V with own:=λb=>if b=c\/b=Wg then none else V.own b,role:=.recv c Wg Ss} g'->J V g
 recv:∀V g c Wg Ss z,V.role=.recv c Wg Ss->V.deaf=0->g.status=.running->g.offers=none->
  (∀w,Sat V w->stepG P main g w=.comm g #[rcase c z] true (.recv true) w #[])->
  (∀i sp S v Im Ow,Ss[i]?=some (sp::S)->sp v Im Ow->(∀b,V.own b≠none->Ow b=none)->(∀b o,V.own b≠none->Im b o≠none->V.ah b o≠none)->(∃w,Sat V w/\(∀b o x,Im b o=some x->w.cell? ⟨b,o,none⟩=some x)/\∀b x,Ow b=some x->w.heap[b]?=some x)->
   J {V with ah:=λb o=>match V.ah b o with|some x=>some x|none=>Im b o,own:=λb=>match V.own b with|some x=>some x|none=>Ow b,role:=.recv c Wg (Ss.set i S)} (UY g (.tuple #[v,.bool true])))->
  ((∀S∈Ss,S=[])->J {V with role:=.plain} (UY g (.tuple #[z,.bool false])))->J V g
structure Closed (lv:Bool)(P:Tl)(main:Bool)(J:View->Ti->Prop):Prop extends Am P main J where
 more:lv=true->afs P main J
abbrev SM:=View->Ti->Prop
def Closed.idle{lv:Bool}{P:Tl}{main:Bool}{J:SM}(C:Closed lv P main J){V:View}{g g':Ti}(hs:g.status=.running)(h:∀w,stepG P main g w=.go g' w #[])(hJ:J V g'):J V g:=
 C.step V g hs λw hw=>⟨g',w,#[],V,h w,.idle hw,hJ⟩
abbrev SZ:=List ayg
def on (b:VM)(a:Act)(todo:SZ):VM:={b with tmps:=a.tmps,todo,defers:=a.defers,mode:=.run}
inductive Ex where
 |normal
 |exit (id:Nat)
 |goto (l:Nat)
 |ret
 |panic (chain:List aw3)
abbrev SX:=List VM
def qQ (J:SM)(b:VM)(cs:SX)(a:Act)(V:View)(x:U5)(to:List ayg->Option (SZ))(k:SZ):Prop:=
 (∃k',to k=some k'/\J V (G (on b a k') cs))\/(to k=none/\∀k2,to k2=none->J V (G (on b a (.code x::k2)) cs))
def qQ.under{J:SM}{b:VM}{cs:SX}{a:Act}{V:View}{x:U5}{to:List ayg->Option (SZ)}{k k2:SZ}(h:qQ J b cs a V x to k)(e:to k2=to k):qQ J b cs a V x to k2:=by rcases h with⟨k',h1,h2⟩|⟨h1,h2⟩;exact .inl ⟨k',e.trans h1,h2⟩;exact .inr ⟨e.trans h1,h2⟩
def acN:List ayg->Bool
 |.call .. ::_=>false
 |_=>true
def wG (J:SM)(b:VM)(k:SZ)(cs:SX):Ex->Act->View->Prop
 |.normal,a,V=>J V (G (on b a k) cs)
 |.exit id,a,V=>qQ J b cs a V (.exit id) (exitTo id) k
 |.goto l,a,V=>qQ J b cs a V (.goto l) (gotoIn l) k
 |.ret,a,V=>∀k,J V (G (on b a (.code .ret::k)) cs)
 |.panic chain,a,V=>∀todo,acN todo=true->J V (G {on b a todo with mode:=.panicking chain} cs)
abbrev SJ:=Ex->Act->View->Prop
abbrev SL:=Option Nat
def WP (lv:Bool)(P:Tl)(r:SL)(c:U5)(Q:SJ)(a:Act)(V:View):Prop:=
 ∀(main:Bool)(J:SM),Closed lv P main J->∀(b:VM)(k:SZ)(cs:SX),b.kind≠ .early->b.roundOf=r->
  (∀e a' V',Q e a' V'->wG J b k cs e a' V')->J V (G (on b a (.code c::k)) cs)
section steps
variable {P:Tl}{main:Bool}{b:VM}{a:Act}{k:SZ}{cs:SX}{w:Us}
def asA:stepG P main (G (on b a (.code .skip::k)) cs) w=.go (G (on b a k) cs) w #[]:=by simp[G,stepG,U_,on]
def asu{l:Nat}:stepG P main (G (on b a (.code (.label l)::k)) cs) w=.go (G (on b a k) cs) w #[]:=by simp[G,stepG,U_,on]
def asr{id:Nat}:stepG P main (G (on b a (.inBlock id::k)) cs) w=.go (G (on b a k) cs) w #[]:=by simp[G,stepG,U_,on]
def ast{c:U5}:stepG P main (G (on b a (.inScope c::k)) cs) w=.go (G (on b a k) cs) w #[]:=by simp[G,stepG,U_,on]
def adN{x y:U5}:stepG P main (G (on b a (.code (.seq x y)::k)) cs) w=.go (G (on b a (.code x:: .code y::k)) cs) w #[]:=by simp[G,stepG,U_,on]
def IL(b:VM)(a:Act)(todo:SZ)(x:Up):(on b a todo).eval x=a.eval x:=by cases x<;>rfl
def aql(b:VM)(a:Act)(todo:SZ):(on b a todo).eval=a.eval:=funext (IL b a todo)
def s_cond{c:Up}{x y:U5}{t:Bool}(h:a.eval c=.bool t):
  stepG P main (G (on b a (.code (.cond c x y)::k)) cs) w=.go (G (on b a (.code (if t then x else y)::k)) cs) w #[]:=by
 have h':(on b a (.code (.cond c x y)::k)).eval c=.bool t:=by rw[IL];exact h
 simp only[on]at h';simp[G,stepG,U_,on,h']
def aso{id:Nat}{c:U5}:stepG P main (G (on b a (.code (.block id c)::k)) cs) w=.go (G (on b a (.code c:: .inBlock id::k)) cs) w #[]:=by simp[G,stepG,U_,on]
def asz{c:U5}:stepG P main (G (on b a (.code (.scope c)::k)) cs) w=.go (G (on b a (.code c:: .inScope c::k)) cs) w #[]:=by simp[G,stepG,U_,on]
def asv{c:U5}:stepG P main (G (on b a (.code (.loop c)::k)) cs) w=.go (G (on b a (.code c:: .inLoop c::k)) cs) w #[]:=by simp[G,stepG,U_,on]
def ass{c:U5}:stepG P main (G (on b a (.inLoop c::k)) cs) w=.go (G (on b a (.code c:: .inLoop c::k)) cs) w #[]:=by simp[G,stepG,U_,on]
def s_exit{id:Nat}{k':SZ}(h:exitTo id k=some k'):stepG P main (G (on b a (.code (.exit id)::k)) cs) w=.go (G (on b a k') cs) w #[]:=by simp[G,stepG,U_,on,h]
def asq{l:Nat}{k':SZ}(h:gotoIn l k=some k'):stepG P main (G (on b a (.code (.goto l)::k)) cs) w=.go (G (on b a k') cs) w #[]:=by simp[G,stepG,U_,on,h]
abbrev SK:=Array Vp
def adM{id:Nat}{ops:SK}:stepG P main (G (on b a (.code (.region id ops false)::k)) cs) w=.go (G (on b a (.inRegion ops (Tt ops.size)::k)) cs) w #[]:=by simp[G,stepG,U_,on]
def asp{id:Nat}{ops:SK}:stepG P main (G (on b a (.code (.region id ops true)::k)) cs) w=
  .go (G (on b a (.inRegion ops (W6 (P.follows .mixedOrders) ops (w.tape w.drawn (.order b.fn id)))::k)) cs) {w with drawn:=w.drawn+1} #[]:=by
 simp[G,stepG,U_,on,choose,Sem.run,ax4,axM]
def asy{ops:SK}:stepG P main (G (on b a (.inRegion ops []::k)) cs) w=.go (G (on b a k) cs) w #[]:=by simp[G,stepG,U_,on]
def Fw(h:b.roundOf=none):stepG P main (G (on b a (.code .ret::k)) cs) w=.go (G {on b a (.code .ret::k)with mode:=.returning} cs) w #[]:=by simp[G,stepG,U_,on,h]
def Fv(h:b.roundOf=none):stepG P main (G (on b a []) cs) w=.go (G {on b a []with mode:=.returning} cs) w #[]:=by simp[G,stepG,U_,on,h]
end steps
section rules
variable {lv:Bool}{P:Tl}{r:SL}{Q:SJ}{a:Act}{V:View}
def WP.mono{c:U5}{Q':SJ}(h:WP lv P r c Q a V)(hq:∀e a V,Q e a V->Q' e a V):WP lv P r c Q' a V:=
 λmain J C b k cs hb hr hL=>h main J C b k cs hb hr λe a' V' q=>hL e a' V' (hq _ _ _ q)
def WP.ghost{c:U5}{V':View}(g:eg V V')(h:WP lv P r c Q a V'):WP lv P r c Q a V:=
 λmain J C b k cs hb hr hL=>C.ghost _ _ _ g (h main J C b k cs hb hr hL)
def wp_skip(h:Q .normal a V):WP lv P r .skip Q a V:=λ_ _ C _ _ _ _ _ hL=>C.idle rfl (λ_=>asA) (hL _ _ _ h)
def wp_label{l:Nat}(h:Q .normal a V):WP lv P r (.label l) Q a V:=λ_ _ C _ _ _ _ _ hL=>C.idle rfl (λ_=>asu) (hL _ _ _ h)
def ab9{main:Bool}{J:SM}(C:Closed lv P main J){b:VM}{cs:SX}{a:Act}{V:View}{id:Nat}{k:SZ}(h:qQ J b cs a V (.exit id) (exitTo id) k):J V (G (on b a (.code (.exit id)::k)) cs):=
 h.elim (λ⟨_,hk,hJ⟩=>C.idle rfl (λ_=>s_exit hk) hJ) (λ⟨hk,hJ⟩=>hJ k hk)
def aoe{main:Bool}{J:SM}(C:Closed lv P main J){b:VM}{cs:SX}{a:Act}{V:View}{l:Nat}{k:SZ}(h:qQ J b cs a V (.goto l) (gotoIn l) k):J V (G (on b a (.code (.goto l)::k)) cs):=
 h.elim (λ⟨_,hk,hJ⟩=>C.idle rfl (λ_=>asq hk) hJ) (λ⟨hk,hJ⟩=>hJ k hk)
def wp_exit{id:Nat}(h:Q (.exit id) a V):WP lv P r (.exit id) Q a V:=λ_ _ C _ _ _ _ _ hL=>ab9 C (hL _ _ _ h)
def wp_ret(h:Q .ret a V):WP lv P r .ret Q a V:=λ_ _ _ _ k _ _ _ hL=>hL _ _ _ h k
abbrev S4:=Act->View->Prop
def Ex.then (next:S4)(Q:SJ):Ex->Act->View->Prop
 |.normal,a,V=>next a V
 |e,a,V=>Q e a V
def wG.under{J:SM}{b:VM}{k:SZ}{cs:SX}{x:ayg}(hx:x.plain=true){e:Ex}(he:e≠ .normal){a:Act}{V:View}(h:wG J b k cs e a V):wG J b (x::k) cs e a V:=by
 cases e with
 |normal=>exact absurd rfl he
 |exit id=>exact qQ.under h (by cases x<;>simp_all[exitTo,axw])
 |goto l=>exact qQ.under h (by cases x<;>simp_all[gotoIn,axw])
 |ret=>exact h
 |panic ch=>exact h
def wp_seq{x y:U5}(h:WP lv P r x (Ex.then (WP lv P r y Q) Q) a V):WP lv P r (.seq x y) Q a V:=by
 intro main J C b k cs hb hr hL;refine C.idle rfl (λ_=>adN) (h main J C b (.code y::k) cs hb hr λe a' V' q=> ?_);cases e with
 |normal=>exact q main J C b k cs hb hr hL
 |exit id=>exact(hL _ _ _ q).under rfl (by simp)
 |goto l=>exact(hL _ _ _ q).under rfl (by simp)
 |ret=>exact(hL _ _ _ q).under rfl (by simp)
 |panic ch=>exact(hL _ _ _ q).under rfl (by simp)
def wp_cond{c:Up}{x y:U5}{t:Bool}(hc:a.eval c=.bool t)(h:WP lv P r (if t then x else y) Q a V):WP lv P r (.cond c x y) Q a V:=
 λmain J C b k cs hb hr hL=>C.idle rfl (λ_=>s_cond hc) (h main J C b k cs hb hr hL)
def Ex.inBlock (id:Nat)(Q:SJ):Ex->Act->View->Prop
 |.exit pD,a,V=>if pD=id then Q .normal a V else Q (.exit pD) a V
 |e,a,V=>Q e a V
def wp_block{id:Nat}{c:U5}(h:WP lv P r c (Ex.inBlock id Q) a V):WP lv P r (.block id c) Q a V:=by
 intro main J C b k cs hb hr hL;refine C.idle rfl (λ_=>aso) (h main J C b (.inBlock id::k) cs hb hr λe a' V' q=> ?_);cases e with
 |normal=>exact C.idle rfl (λ_=>asr) (hL _ _ _ q)
 |exit pD=>by_cases b_:pD=id;simp only[Ex.inBlock,b_,if_true]at q;exact .inl ⟨k,by simp[exitTo,b_],hL _ _ _ q⟩;simp only[Ex.inBlock,b_,if_false]at q;have:(id==pD)=false:=(by simp;exactλh=>b_ h.symm);exact qQ.under (hL _ _ _ q) (by simp[exitTo,this])
 |goto l=>exact qQ.under (hL _ _ _ q) (by simp[gotoIn])
 |ret=>exact hL _ _ _ q
 |panic ch=>exact hL _ _ _ q
def PU{α:Type}{lt:α->α->Prop}(wf:WellFounded lt){c:U5}(I:α->S4)(m:α)(h₀:I m a V)
  (round:∀m a V,I m a V->WP lv P r c (Ex.then (λa' V'=>∃m',lt m' m/\I m' a' V') Q) a V):WP lv P r (.loop c) Q a V:=by
 intro main J C b k cs hb hr hL;have key:∀m a V,I m a V->J V (G (on b a (.code c:: .inLoop c::k)) cs):=by
  intro m;induction m using wf.induction with
  |_ m ih=>
   intro a V hI;refine round m a V hI main J C b (.inLoop c::k) cs hb hr λe a' V' q=> ?_;cases e with
   |normal=>obtain⟨m',hlt,hI'⟩:=q;exact C.idle rfl (λ_=>ass) (ih m' hlt a' V' hI')
   |exit id=>exact(hL _ _ _ q).under rfl (by simp)
   |goto l=>exact(hL _ _ _ q).under rfl (by simp)
   |ret=>exact(hL _ _ _ q).under rfl (by simp)
   |panic ch=>exact(hL _ _ _ q).under rfl (by simp)
 exact C.idle rfl (λ_=>asv) (key m a V h₀)
def wp_loop{c:U5}(I:Nat->S4)(m:Nat)(h₀:I m a V)
  (round:∀m a V,I m a V->WP lv P r c (Ex.then (λa' V'=>∃m',m'<m/\I m' a' V') Q) a V):WP lv P r (.loop c) Q a V:=
 PU Nat.lt_wfRel.wf I m h₀ round
def afh{c:U5}(I:Nat->Nat->S4)
  (start:∃n:Nat,WP lv P r c (λe a V=>match e with
   |.goto l=>∃rest,findLabel c l=some rest/\∃m,m<n/\I l m a V
   |e=>Q e a V) a V)
  (back:∀l rest m a V,findLabel c l=some rest->I l m a V->WP lv P r rest (λe a V=>match e with
   |.goto l'=>∃zZ,findLabel c l'=some zZ/\∃m',m'<m/\I l' m' a V
   |e=>Q e a V) a V):WP lv P r (.scope c) Q a V:=by
 intro main J C b k cs hb hr hL;have land:∀(n:Nat),(∀l rest m a V,m<n->findLabel c l=some rest->I l m a V->J V (G (on b a (.code rest:: .inScope c::k)) cs))->
   ∀e a' V',(match e with
   |.goto l=>∃rest,findLabel c l=some rest/\∃m,m<n/\I l m a' V'
   |e=>Q e a' V')->wG J b (.inScope c::k) cs e a' V':=by
  intro n hn e a' V' q;cases e with
  |normal=>exact C.idle rfl (λ_=>ast) (hL _ _ _ q)
  |exit id=>exact qQ.under (hL _ _ _ q) (by simp[exitTo])
  |goto l=>obtain⟨rest,hf,m,hm,hI⟩:=q;exact .inl ⟨_,by simp[gotoIn,hf],hn l rest m a' V' hm hf hI⟩
  |ret=>exact hL _ _ _ q
  |panic ch=>exact hL _ _ _ q
 have key:∀n l rest m a V,m<n->findLabel c l=some rest->I l m a V->J V (G (on b a (.code rest:: .inScope c::k)) cs):=by
  intro n;induction n with
  |zero=>intro _ _ _ _ _ h;omega
  |succ n ih=>intro l rest m a V hm hf hI;exact back l rest m a V hf hI main J C b (.inScope c::k) cs hb hr (land m λl' zZ m' a' V' h'=>ih l' zZ m' a' V' (by omega))
 obtain⟨n,hn⟩:=start;exact C.idle rfl (λ_=>asz) (hn main J C b (.inScope c::k) cs hb hr (land n (key n)))
end rules
open Go.Conc
def View.get (V:View)(b o:Nat):Option T9:=
 match V.ah b o with
 |some v=>some v
 |none=>match V.own b with
  |some (.cells c _ _)=>c[o]?
  |_=>none
def View.upd (V:View)(b:Nat)(x:Obj):View:={V with own:=λb'=>if b'=b then some x else V.own b'}
def View.fresh (V:View)(b:Nat):Prop:=V.own b=none/\∀o,V.ah b o=none
def Sat.get{V:View}{w:Us}(h:Sat V w){b o:Nat}{v:T9}(e:V.get b o=some v):w.cell? ⟨b,o,none⟩=some v:=by unfold View.get at e;split at e;rename_i v' hv;cases e;exact h.ah _ _ _ hv;split at e;(rename_i c el f ho;have:=h.own _ _ ho;simpa[VA,this]using e);cases e
def Sat.lt{V:View}{w:Us}(h:Sat V w){b:Nat}{x:Obj}(e:V.own b=some x):b<w.heap.size:=by have:=h.own _ _ e;exact(Tw.1 this).1
def Sat.EK{V:View}{w:Us}(h:Sat V w){b o:Nat}{v:T9}(e:V.ah b o=some v):b<w.heap.size:=by have:=h.ah _ _ _ e;unfold VA at this;split at this;rename_i hh;exact(Tw.1 hh).1;cases this
def Sat.fresh{V:View}{w:Us}(h:Sat V w){b:Nat}(hb:w.heap.size<=b):V.fresh b:=
 ⟨by cases e:V.own b with
  |none=>rfl
  |some x=>have:=h.lt e;omega,λo=>by
  cases e:V.ah b o with
  |none=>rfl
  |some x=>have:=h.EK e;omega⟩
def Sat.eF{V:View}{w:Us}(h:Sat V w){b o:Nat}{v:T9}(e:V.get b o=some v):b<w.heap.size:=by have:=h.get e;unfold VA at this;split at this;rename_i hh;exact(Tw.1 hh).1;cases this
def uX.zU{V V₁:View}{w w₁:Us}{es:SO}(s:dl V w V₁ w₁ es){a:Wy}(h:uX V₁ w₁.heap.size a):uX V w.heap.size a:=by
 rcases h with h|h|h;exact .inl (UJ s.size h);by_cases hb:a.block<w.heap.size;exact .inr (.inl λe=>h (s.own _ hb e));exact .inl (by omega)
 ·cases e:V₁.ah a.block a.off with
  |none=>exact absurd e h
  |some v=>rcases s.kZ _ _ _ e with x|x|x;exact .inr (.inr (by rw[x];simp));exact .inr (.inl x);exact .inl x
def nf.zU{V V₁:View}{w w₁:Us}{es:SO}(s:dl V w V₁ w₁ es){a:Wy}(h:nf V₁ w₁.heap.size a):nf V w.heap.size a:=by
 rcases h with h|⟨h,h'⟩;exact .inl (UJ s.size h)
 ·by_cases hb:a.block<w.heap.size
  ·refine .inr ⟨λe=>h (s.own _ hb e),?_⟩;cases e:V.ah a.block a.off with
   |none=>rfl
   |some v=>rw[s.ah _ _ _ e]at h';cases h'
  ·exact .inl (by omega)
def nQ.zU{V V₁:View}{w w₁:Us}{es:SO}(s:dl V w V₁ w₁ es){e:W8}(h:nQ V₁ w₁.heap.size e):nQ V w.heap.size e:=by unfold nQ at h⊢;split at h;exact⟨uX.zU s h.1,by rw[<- s.role];exact h.2⟩;exact⟨nf.zU s h.1,by rw[<- s.role];exact h.2⟩;refine⟨⟨h.1.1,?_⟩,by rw[<- s.role];exact h.2⟩;rename_i r _ _;rcases h.1.2 with x|x;exact .inl (UJ s.size x);by_cases hb:r<w.heap.size;(exact .inr λy=>x (s.own _ hb y));exact .inl (by omega);exact nf.zU s h;exact nf.zU s h;exact h;exact h;trivial;exact h.elim
def Kz(d:Nat)(x y:SO):deafBehind d (x++y)=deafBehind (deafBehind d x) y:=by simp[deafBehind]
def dl.trans{V V₁ V₂:View}{w w₁ w₂:Us}{es vk:SO}(s:dl V w V₁ w₁ es)(s':dl V₁ w₁ V₂ w₂ vk):dl V w V₂ w₂ (es++vk):=
 ⟨s'.sat,s'.tape.trans s.tape,s'.os.trans s.os,s'.output.trans s.output,UJ s.size s'.size,
  λb hb e=>(s'.frame b (Ug hb s.size) (s.own b hb e)).trans (s.frame b hb e),λb hb e=>s'.own b (Ug hb s.size) (s.own b hb e),
  λb o v e=>s'.ah b o v (s.ah b o v e),λb o v e=>by
   rcases s'.kZ b o v e with x|x|x;exact s.kZ b o v x;by_cases hb:b<w.heap.size;exact .inr (.inl λy=>x (s.own b hb y));exact .inr (.inr (by omega))
   ·exact .inr (.inr (UJ s.size x)),
  λe he=>(Vu.1 he).elim (s.fJ e) (λh=>(s'.fJ e h).zU s),by rw[s'.deaf,s.deaf,Kz],s'.role.trans s.role,λc x e e'=>s'.chan c x (by rw[s.role];exact e) (s.chan c x e e'),
  λe he=>(Vu.1 he).elim (λx=>Y4 s'.size (s.low e x)) (s'.low e)⟩
def gh (es:SO):Array W8:=es.filter λe=>match e.loc with|.mark (.extern _)=>false|_=>true
abbrev SQ:=T9->View->Prop
def aT (P:Tl){α:Type}(V:View)(s:Sem α)(K:α->View->Prop)(Kp:SQ):Prop:=
 ∀w,Sat V w->∀fi,∃es w' V',dl V w V' w' (gh es)/\
  ((∃x,s.runT P w fi=(.ok x w',fi++es)/\K x V')\/(∃v,s.runT P w fi=(.halt (.panic v) w',fi++es)/\Kp v V'))
section
variable {P:Tl}{α β:Type}{V:View}{K:α->View->Prop}{Kp:SQ}
def OA(x y:SO):gh (x++y)=gh x++gh y:=by simp[gh]
def aT.mono{s:Sem α}{K':α->View->Prop}{P9:SQ}(h:aT P V s K Kp)(hk:∀x V,K x V->K' x V)(hp:∀x V,Kp x V->P9 x V):aT P V s K' P9:=λw hw fi=>
 let⟨es,w',V',h1,h2⟩:=h w hw fi
 ⟨es,w',V',h1,h2.imp (λ⟨x,a,b⟩=>⟨x,a,hk _ _ b⟩) (λ⟨x,a,b⟩=>⟨x,a,hp _ _ b⟩)⟩
def aT.ghost{s:Sem α}{V':View}(g:eg V V')(h:aT P V' s K Kp):aT P V s K Kp:=λw hw fi=>
 let⟨es,w',V',h1,h2⟩:=h w (g.sat w hw) fi
 ⟨es,w',V',h1.s8 g,h2⟩
def aT.cont{s:Sem α}(h:∀w,Sat V w->∃es w' V' s',dl V w V' w' (gh es)/\(∀fi,s.runT P w fi=s'.runT P w' (fi++es))/\aT P V' s' K Kp):aT P V s K Kp:=by intro w hw fi;obtain⟨es,w',V',s',h1,h2,h3⟩:=h w hw;obtain⟨vk,PO,aZ,h4,h5⟩:=h3 w' h1.sat (fi++es);refine⟨es++vk,PO,aZ,by rw[OA];exact h1.trans h4,?_⟩;rw[h2,<- XF];exact h5
def cj{x:α}(h:K x V):aT P V (.pure x) K Kp:=λw hw fi=>⟨#[],w,V,by simpa[gh]using dl.idle hw,.inl ⟨x,by simp[-UE,WQ],h⟩⟩
def az{x:α}(h:K x V):aT P V (pure x) K Kp:=cj h
def asV{v:T9}(h:Kp v V):aT P V (.halt (.panic v):Sem α) K Kp:=λw hw fi=>⟨#[],w,V,by simpa[gh]using dl.idle hw,.inr ⟨v,by simp[-UE,WQ],h⟩⟩
def uD{e:W8}(h:∀f,e.loc≠ .mark (.extern f)):gh #[e]=#[e]:=by
 unfold gh;have:(match e.loc with|.mark (.extern _)=>false|_=>true)=true:=by split;rename_i f hf;exact absurd hf (h f);rfl
 simp[Array.filter]
def Rj(d:Nat)(a:Wy)(wr s:Bool):deafBehind d #[⟨.cell a,wr,s⟩]=d:=by simp[deafBehind]
def Rk(d:Nat)(a:Nat)(wr s:Bool):deafBehind d #[⟨.obj a,wr,s⟩]=d:=by simp[deafBehind]
def Cl{m:Mode}{b o:Nat}{v:T9}{k:T9->Sem α}(e:V.get b o=some v)(iO:V.role.group≠some b\/m=.atomic)(h:aT P V (k v) K Kp):aT P V (.load m ⟨b,o,none⟩ k) K Kp:=by
 refine .cont λw hw=>⟨#[⟨.cell ⟨b,o,none⟩,false,m== .atomic⟩],w,V,k v,?_,λfi=> ?_,h⟩
 ·rw[uD (by simp)];refine⟨hw,rfl,rfl,rfl,Tv _,λ_ _ _=>rfl,λ_ _ e=>e,λ_ _ _ e=>e,λ_ _ _ e=> .inl e,λev cw=> ?_,by rw[Rj],rfl,λ_ _ _ e=>e,λev cw=>by simp at cw;subst cw;exact hw.eF e⟩;simp only[UN,Tm,T5,or_false]at cw;subst cw;refine⟨.inr ?_,iO.elim .inr (λx=> .inl (by subst x;rfl))⟩;show V.own b≠none\/V.ah b o≠none;unfold View.get at e;split at e;rename_i hv;exact .inr (by rw[hv];simp);split at e;rename_i hv;exact .inl (by rw[hv];simp);cases e
 ·simp[-UE,WQ,hw.get e]
def _root_.Go.Value.one:T9->Bool
 |.agg _|.tuple _=>false
 |_=>true
abbrev SG:=Array T9
def Sat.ae6{V:View}{w:Us}(h:Sat V w){b o:Nat}{v:T9}{c:SG}{el:TypeId}{f:Nat×Nat}(ho:V.own b=some (.cells c el f))(hi:V.ah b o=none):
  Sat (V.upd b (.cells (c.setIfInBounds o v) el f)) (w.setCell ⟨b,o,none⟩ v):=by
 have hb:=h.own _ _ ho;have hlt:=h.lt ho;have hm:(w.setCell ⟨b,o,none⟩ v).heap=w.heap.setIfInBounds b (.cells (c.setIfInBounds o v) el f):=by unfold XQ;apply Array.ext_getElem?;intro i;by_cases cN:b=i;subst cN;rw[Wr,Ud hlt];simp[hb];simp[Wr,cN,Tx cN]
 refine⟨λb' o' v' e=> ?_,λb' x e=> ?_⟩;have:=h.ah _ _ _ e;simp only[View.upd]at e;by_cases Bi:b=b';subst Bi;have M_:o≠o':=(by intro x;subst x;rw[hi]at e;cases e);simp only[VA,hb]at this;simp only[VA,hm,Ud hlt,Tx M_];exact this;simp only[VA,hm,Tx Bi];exact this;simp only[View.upd]at e;rw[hm];by_cases Bi:b'=b;subst Bi;simp at e;rw[Ud hlt,e];simp only[Bi,if_false]at e;rw[Tx (Ne.symm Bi)];exact h.own _ _ e
def FA(w:Us)(a:Wy)(v:T9):(w.setCell a v).heap.size=w.heap.size:=by simp[XQ]
def xi(w:Us)(a:Wy)(v:T9){b:Nat}(h:a.block≠b):(w.setCell a v).heap[b]?=w.heap[b]?:=by simp[XQ,Wr,h]
def asX{m:Mode}{b o:Nat}{v:T9}{k:Sem α}{c:SG}{el:TypeId}{lo hi:Nat}(ho:V.own b=some (.cells c el (lo,hi)))(ce:o<c.size)(cN:V.ah b o=none)(hv:v.one=true)
  (hf:¬(lo<=o/\o<hi)) (iO:V.role.group≠some b\/m=.atomic) (MD:V.role.chan≠some b) (h:aT P (V.upd b (.cells (c.setIfInBounds o v) el (lo,hi))) k K Kp):aT P V (.store m ⟨b,o,none⟩ v k) K Kp:=by
 refine .cont λw hw=>⟨#[⟨.cell ⟨b,o,none⟩,true,m== .atomic⟩],w.setCell ⟨b,o,none⟩ v,_,k,?_,λfi=> ?_,h⟩
 ·rw[uD (by simp)];refine⟨hw.ae6 ho cN,rfl,rfl,rfl,by rw[FA];exact Tv _,λb' de e=>xi _ _ _ (λx=> ?_),λb' de e=> ?_,λ_ _ _ e=>e,λ_ _ _ e=> .inl e,λev cw=> ?_,by rw[Rj];rfl,rfl,λc' x bu e=>by rw[<- e];simp only[View.upd,ite_eq_right_iff];intro x';subst x';exact absurd bu MD,λev cw=>by simp at cw;subst cw;show b<_;rw[FA];exact hw.lt ho⟩;have x':b=b':=x;subst x';rw[ho]at e;cases e;have:b'≠b:=(by intro x;subst x;rw[ho]at e;cases e);simp only[View.upd,this,if_false];exact e;simp only[UN,Tm,T5,or_false]at cw;subst cw;exact⟨.inr ⟨by show V.own b≠none;rw[ho];simp,cN⟩,iO.elim .inr (λx=> .inl (by subst x;rfl))⟩
 ·have hc:w.cell? ⟨b,o,none⟩=some c[o]:=by simp[VA,hw.own _ _ ho,ce]
  have hfz:w.frozen? ⟨b,o,none⟩=false:=by simp only[aw2,hw.own _ _ ho];simpa using hf
  cases v<;>simp_all[-UE,WQ,Value.one]
def oQ{x:Obj}{k:Nat->Sem α}(h:∀r,V.fresh r->aT P (V.upd r x) (k r) K Kp):aT P V (.new x k) K Kp:=by
 refine .cont λw hw=>⟨#[],{w with heap:=w.heap.push x},V.upd w.heap.size x,k w.heap.size,?_,λfi=>by simp[-UE,WQ],h _ (hw.fresh (Tv _))⟩;have jD:=hw.fresh (Tv w.heap.size);have aN:∀{b y},V.own b=some y->b≠w.heap.size:=λe x=>by rw[x,jD.1]at e;cases e
 refine⟨⟨λb o v e=> ?_,λb y e=> ?_⟩,rfl,rfl,rfl,by simp,λb hb _=> ?_,λb hb e=> ?_,λ_ _ _ e=>e,λ_ _ _ e=> .inl e,by simp[gh],rfl,rfl,λc' x bu e=>by rw[<- e];simp only[View.upd,ite_eq_right_iff];intro x';exact absurd x' (aN e),by simp[gh]⟩;(have hlt:=hw.EK e;have:=hw.ah _ _ _ e;simp only[VA,ZJ hlt]at this⊢;simpa[VA,hlt]using this);simp only[View.upd]at e;by_cases hb:b=w.heap.size;subst hb;simp at e;simp[e];(simp only[hb,if_false]at e;have:=hw.own _ _ e;have hlt:=hw.lt e;simp only[ZJ hlt];simpa[hlt]using this);simp[XC,XN hb];simp only[View.upd,XN hb,if_false];exact e
def adY{q:Question}{k:Nat->Sem α}(h0:q.forced=true->aT P V (k 0) K Kp)(h:q.forced=false->∀t,aT P V (k (q.cut t)) K Kp):aT P V (.choose q k) K Kp:=by
 cases hf:q.forced with
 |true=>exact .cont λw hw=>⟨#[],w,V,k 0,by simpa[gh]using dl.idle hw,λfi=>by simp[-UE,WQ,hf],h0 hf⟩
 |false=>exact .cont λw hw=>⟨#[],{w with drawn:=w.drawn+1},V,_,by simpa[gh]using dl.draw hw (w.drawn+1),λfi=>by simp[-UE,WQ,hf],h hf (w.tape w.drawn q)⟩
def pK{k:Tl->Sem α}(h:aT P V (k P) K Kp):aT P V (.program k) K Kp:=
 .cont λw hw=>⟨#[],w,V,k P,by simpa[gh]using dl.idle hw,λfi=>by simp[-UE,WQ],h⟩
def asR{f:UR}{k:Sem α}(h:aT P V k K Kp):aT P V (.mark (.extern f) k) K Kp:=
 .cont λw hw=>⟨#[⟨.mark (.extern f),false,true⟩],w,V,k,by simpa[gh]using dl.idle hw,λfi=>by simp[-UE,WQ],h⟩
def asU{k:Sem α}(h:aT P V k K Kp):aT P V (.mark .noRoom k) K Kp:=
 .cont λw hw=>⟨#[⟨.mark .noRoom,false,true⟩],w,V,k,by
  rw[uD (by simp)];exact⟨hw,rfl,rfl,rfl,Tv _,λ_ _ _=>rfl,λ_ _ e=>e,λ_ _ _ e=>e,λ_ _ _ e=> .inl e,λev cw=>by simp at cw;subst cw;trivial,by simp[deafBehind],rfl,λ_ _ _ e=>e,λev cw=>by simp at cw;subst cw;trivial⟩,
  λfi=>by simp[-UE,WQ],h⟩
def asT{m:Mark}{k:Sem α}(hm:m=.disable\/m=.enable)(h:aT P {V with deaf:=deafBehind V.deaf #[⟨.mark m,false,true⟩]} k K Kp):aT P V (.mark m k) K Kp:=
 .cont λw hw=>⟨#[⟨.mark m,false,true⟩],w,_,k,by
  rw[uD (by rcases hm with rfl|rfl<;>simp)];exact⟨⟨hw.ah,hw.own⟩,rfl,rfl,rfl,Tv _,λ_ _ _=>rfl,λ_ _ e=>e,λ_ _ _ e=>e,λ_ _ _ e=> .inl e,λev cw=>by simp at cw;subst cw;rcases hm with rfl|rfl<;>rfl,rfl,rfl,λ_ _ _ e=>e,λev cw=>by simp at cw;subst cw;rcases hm with rfl|rfl<;>trivial⟩,
  λfi=>by simp[-UE,WQ],h⟩
def asW{m:Mark}{a:Wy}{k:Sem α}(hm:m=.read a\/m=.write a)(ha:V.own a.block≠none/\V.ah a.block a.off=none)(h:aT P V k K Kp):aT P V (.mark m k) K Kp:=
 .cont λw hw=>⟨#[⟨.mark m,false,true⟩],w,_,k,by
  rw[uD (by rcases hm with rfl|rfl<;>simp)];exact⟨⟨hw.ah,hw.own⟩,rfl,rfl,rfl,Tv _,λ_ _ _=>rfl,λ_ _ e=>e,λ_ _ _ e=>e,λ_ _ _ e=> .inl e,λev cw=>by simp at cw;subst cw;rcases hm with rfl|rfl<;>exact .inr ha,
   by rcases hm with rfl|rfl<;>simp[deafBehind],rfl,λ_ _ _ e=>e,λev cw=>by
    simp at cw;subst cw;have:a.block<w.heap.size:=by
     cases e:V.own a.block with
     |none=>exact absurd e ha.1
     |some y=>exact hw.lt e
    rcases hm with rfl|rfl<;>exact this⟩,
  λfi=>by simp[-UE,WQ],h⟩
def _root_.Go.Obj.v5:Obj->Bool
 |.cells .. =>true
 |_=>false
def oP{r:Nat}{x:Obj}{k:Obj->Sem α}(ho:V.own r=some x)(hx:x.v5=false)(hc:x.isChan=false)(iO:V.role.chan≠some r)(h:aT P V (k x) K Kp):aT P V (.getObj r k) K Kp:=
 .cont λw hw=>⟨#[⟨.obj r,false,false⟩],w,V,k x,by
  rw[uD (by simp)];exact⟨hw,rfl,rfl,rfl,Tv _,λ_ _ _=>rfl,λ_ _ e=>e,λ_ _ _ e=>e,λ_ _ _ e=> .inl e,λev cw=>by simp at cw;subst cw;exact⟨⟨rfl,.inr (by rw[ho];simp)⟩,iO⟩,by rw[Rk],rfl,λ_ _ _ e=>e,λev cw=>by simp at cw;subst cw;exact hw.lt ho⟩,
  λfi=>by have:=hw.own _ _ ho;cases x<;>simp_all[-UE,WQ,Obj.v5,axF],h⟩
def Sat.auT{V:View}{w:Us}(h:Sat V w){r:Nat}{x y:Obj}(ho:V.own r=some x)(hx:x.v5=false):Sat (V.upd r y) {w with heap:=w.heap.setIfInBounds r y}:=by
 have hlt:=h.lt ho;refine⟨λb o v e=> ?_,λb z e=> ?_⟩
 ·have:=h.ah _ _ _ e;have hb:r≠b:=by intro e';subst e';simp only[VA,h.own _ _ ho]at this;cases x<;>simp_all[Obj.v5]
  simp only[VA,Tx hb]at this⊢;exact this
 ·simp only[View.upd]at e;by_cases hb:b=r;subst hb;simp at e;simp[hlt,e];simp only[hb,if_false]at e;simp only[Tx (Ne.symm hb)];exact h.own _ _ e
def z_{r:Nat}{x y:Obj}{k:Sem α}(ho:V.own r=some x)(hx:x.v5=false)(hy:y.isChan=false)(iO:V.role.chan≠some r)(h:aT P (V.upd r y) k K Kp):aT P V (.setObj r y k) K Kp:=
 .cont λw hw=>⟨#[⟨.obj r,true,false⟩],{w with heap:=w.heap.setIfInBounds r y},_,k,by
  rw[uD (by simp)];refine⟨hw.auT ho hx,rfl,rfl,rfl,by simp,λb hb e=> ?_,λb hb e=> ?_,λ_ _ _ e=>e,λ_ _ _ e=> .inl e,λev cw=>by simp at cw;subst cw;exact⟨⟨rfl,.inr (by rw[ho];simp)⟩,iO⟩,by rw[Rk];rfl,rfl,λc' x bu e=>by rw[<- e];simp only[View.upd,ite_eq_right_iff];intro x';subst x';exact absurd bu iO,λev cw=>by simp at cw;subst cw;show r<_;simp;exact hw.lt ho⟩;exact Tx (λx'=>by subst x';rw[ho]at e;cases e)
  ·have:b≠r:=(by intro x';subst x';rw[ho]at e;cases e);simp only[View.upd,this,if_false];exact e,
  λfi=>by have:=hw.own _ _ ho;cases x<;>simp_all[-UE,WQ,Obj.v5,axF],h⟩
def asL{s:Sem α}{f:α->Sem β}{K:β->View->Prop}(h:aT P V s (λx V'=>aT P V' (f x) K Kp) Kp):aT P V (s.bind f) K Kp:=by
 intro w hw fi;obtain⟨es,w',V',h1,h2⟩:=h w hw fi;have key:(s.bind f).runT P w fi=match s.runT P w fi with
   |(.ok x w',e)=>(f x).runT P w' e
   |(.halt h w',e)=>(.halt h w',e):=by
  have hr:=Sem.run_bind' P s f w;have he:=Sem.events_bind' P s f w fi;rw[UE,UE];have zm:(s.bind f).run P w=_:=hr;have kE:(s.bind f).events P w fi=_:=he;rw[zm,kE];cases s.run P w<;>simp[Result.andThen,Result.evThen]
 rcases h2 with⟨x,hx,hK⟩|⟨v,hv,hKp⟩;obtain⟨vk,PO,aZ,h3,h4⟩:=hK w' h1.sat (fi++es);refine⟨es++vk,PO,aZ,by rw[OA];exact h1.trans h3,?_⟩;rw[key,hx,<- XF];exact h4;refine⟨es,w',V',h1,.inr ⟨v,?_,hKp⟩⟩;rw[key,hv]
def aA{s:Sem α}{f:α->Sem β}{K:β->View->Prop}(h:aT P V s (λx V'=>aT P V' (f x) K Kp) Kp):aT P V (s>>=f) K Kp:=asL h
end
open Go.Conc
def Ar (e:W8):Prop:=∀m,e.loc=.mark m->(m=.disable\/m=.enable)->e.sync=true
def nQ.LB{V:View}{n:Nat}{e:W8}(h:nQ V n e):Ar e:=by intro m hm hd;obtain⟨l,wr,s⟩:=e;simp only at hm;subst hm;rcases hd with rfl|rfl;(simpa[nQ]using h);(simpa[nQ]using h)
def aip(d:Nat)(x:SO)(e:W8):deafBehind d (x.push e)=deafBehind (deafBehind d x) #[e]:=by simp[deafBehind]
def aiq{d:Nat}{e:W8}(hg:Ar e)(hs:e.sync=false):deafBehind d #[e]=d:=by
 obtain⟨l,wr,s⟩:=e;cases l with
 |mark m=>
  cases m<;>first
   |(have:=hg _ rfl (.inl rfl);simp_all)
   |(have:=hg _ rfl (.inr rfl);simp_all)
   |simp[deafBehind]
 |_=>simp[deafBehind]
def asJ(P:Tl)(fn:UR)(es:SO)(hg:∀e∈gh es,Ar e)(d:Nat):(∀e∈seen P fn es,e∈gh es)/\deafBehind d (seen P fn es)=deafBehind d (gh es):=by
 rw[seen_def];obtain⟨l⟩:=es;have key:∀(l:List W8)(q:Bool)(kept ref:SO),(∀e∈gh l.toArray,Ar e)->(∀e∈kept,e∈ref)->deafBehind d kept=deafBehind d ref->
   (∀e∈(l.foldl (seenStep λf=>(P.funcs[f]?).any (·.norace)) (q,kept)).2,e∈ref++gh l.toArray)/\
   deafBehind d (l.foldl (seenStep λf=>(P.funcs[f]?).any (·.norace)) (q,kept)).2=deafBehind d (ref++gh l.toArray):=by
  intro l;induction l with
  |nil=>intro q kept ref _ h1 h2;simpa[gh]using⟨h1,h2⟩
  |cons e l ih=>
   intro q kept ref hg h1 h2;rw[Wd];by_cases hx:∃f,e.loc=.mark (.extern f);obtain⟨f,hf⟩:=hx;have e1:gh (e::l).toArray=gh l.toArray:=(by simp[gh,hf]);rw[e1]at hg⊢;have e3:seenStep (λf=>(P.funcs[f]?).any (·.norace)) (q,kept) e=((P.funcs[f]?).any (·.norace),kept):=(by simp[seenStep,hf]);rw[e3];exact ih _ kept ref hg h1 h2
   ·have aN:∀f,e.loc≠ .mark (.extern f):=λf hf=>hx ⟨f,hf⟩;have e1:gh (e::l).toArray=#[e]++gh l.toArray:=by have:(e::l).toArray=#[e]++l.toArray:=(by simp);rw[this,OA,uD aN]
    have vF:Ar e:=hg e (by rw[e1];simp);have ko:∀x∈gh l.toArray,Ar x:=λx hx=>hg x (by rw[e1];exact Vu.2 (.inr hx));have e2:seenStep (λf=>(P.funcs[f]?).any (·.norace)) (q,kept) e=(q,if q&& !e.sync then kept else kept.push e):=by unfold seenStep;dsimp only;split;rename_i f hf;exact absurd hf (aN f);rfl
    rw[e1,<- XF];rw[e2];refine ih q _ (ref++#[e]) ko (λx hx=> ?_) ?_;split at hx;exact Vu.2 (.inl (h1 x hx));rcases Array.mem_push.1 hx with hx|rfl;exact Vu.2 (.inl (h1 x hx));exact Vu.2 (.inr (by simp));split;rename_i hq;simp only[Ui,UV]at hq;rw[Kz,aiq vF hq.2,h2];rw[Kz,aip,h2]
 have:=key l ((P.funcs[fn]?).any (·.norace)) #[] #[] hg (by simp) rfl;simpa only[XK]using this
def dl.seen{V V':View}{w w':Us}{es:SO}(h:dl V w V' w' (gh es))(P:Tl)(fn:UR):dl V w V' w' (seen P fn es):=by have:=asJ P fn es (λe he=>(h.fJ e he).LB) V.deaf;exact⟨h.sat,h.tape,h.os,h.output,h.size,h.frame,h.own,h.ah,h.kZ,λe he=>h.fJ e (this.1 e he),by rw[h.deaf,this.2],h.role,h.chan,λe he=>h.low e (this.1 e he)⟩
open Go.Conc
inductive Out where
 |ret (v:T9)
 |panic (chain:List aw3)
def Leaves (P:Tl)(fr:VM)(f:UR)(kd:Yr)(o:Out)(V:View):Prop:=
 fr.fn=f/\fr.defers=[]/\fr.kind=kd/\∃fn,P.funcs[f]?=some fn/\
  match o with
  |.ret v=>fr.mode=.returning/\aT P V (results fn fr.tmps) (λx V'=>x=v/\V'=V) (λ_ _=>False)
  |.panic ch=>fr.mode=.panicking ch
abbrev SU:=Out->View->Prop
def Body (lv:Bool)(P:Tl)(f:UR)(args:SG)(kd:Yr)(V:View)(R:SU):Prop:=
 ∀(main:Bool)(J:SM),Closed lv P main J->∀cs,(∀o V' fr,R o V'->Leaves P fr f kd o V'->J V' (G fr cs))->J V (G (Frame.enter P f args kd) cs)
def nU (lv:Bool)(P:Tl)(fr:VM)(V:View)(R:SU):Prop:=
 ∀(main:Bool)(J:SM),Closed lv P main J->∀c cs,(∀v V',R (.ret v) V'->J V' (G (c.finish v) cs))->(∀ch V',R (.panic ch) V'->J V' (G (c.raise ch) cs))->J V (G fr (c::cs))
def Body.mono{lv:Bool}{P:Tl}{f:UR}{args:SG}{kd:Yr}{V:View}{R R':SU}(h:Body lv P f args kd V R)(hr:∀o V,R o V->R' o V):Body lv P f args kd V R':=
 λmain J C cs hk=>h main J C cs λo V' fr r hl=>hk o V' fr (hr _ _ r) hl
def Body.ghost{lv:Bool}{P:Tl}{f:UR}{args:SG}{kd:Yr}{V V':View}{R:SU}(g:eg V V')(h:Body lv P f args kd V' R):Body lv P f args kd V R:=
 λmain J C cs hk=>C.ghost _ _ _ g (h main J C cs hk)
def nU.mono{lv:Bool}{P:Tl}{fr:VM}{V:View}{R R':SU}(h:nU lv P fr V R)(hr:∀o V,R o V->R' o V):nU lv P fr V R':=
 λmain J C c cs h1 h2=>h main J C c cs (λv V' r=>h1 v V' (hr _ _ r)) (λv V' r=>h2 v V' (hr _ _ r))
def nU.ghost{lv:Bool}{P:Tl}{fr:VM}{V V':View}{R:SU}(g:eg V V')(h:nU lv P fr V' R):nU lv P fr V R:=
 λmain J C c cs h1 h2=>C.ghost _ _ _ g (h main J C c cs h1 h2)
def aT.runs{P:Tl}{α:Type}{V:View}{s:Sem α}{K:α->View->Prop}{Kp:SQ}(h:aT P V s K Kp){w:Us}(hw:Sat V w):
  ∃es w' V',dl V w V' w' (gh es)/\s.events P w #[]=es/\((∃x,s.run P w=.ok x w'/\K x V')\/(∃v,s.run P w=.halt (.panic v) w'/\Kp v V')):=by
 obtain⟨es,w',V',h1,h2⟩:=h w hw #[];refine⟨es,w',V',h1,?_⟩;simp only[UE,VW,XK]at h2;rcases h2 with⟨x,⟨a,b⟩,c⟩|⟨x,⟨a,b⟩,c⟩;exact⟨b,.inl ⟨x,a,c⟩⟩;exact⟨b,.inr ⟨x,a,c⟩⟩
def aoX{lv:Bool}{P:Tl}{main:Bool}{J:SM}(C:Closed lv P main J){fr c:VM}{cs:SX}{f:UR}{v:T9}{V:View}(h:Leaves P fr f .normal (.ret v) V)(hJ:J V (G (c.finish v) cs)):J V (G fr (c::cs)):=by
 obtain⟨rfl,hd,hk,fn,hf,hm,hr⟩:=h;refine C.step _ _ rfl λw hw=> ?_;obtain⟨es,w',V',h1,h2,h3⟩:=hr.runs hw;rcases h3 with⟨x,h3,rfl,rfl⟩|⟨_,_,h⟩
 ·exact⟨G (c.finish x) cs,w',seen P fr.fn es,V',by simp[G,stepG,unwind,doReturn,hm,hd,hk,hf,h3,h2,U3],h1.seen P fr.fn,hJ⟩
 ·exact h.elim
def aoW{lv:Bool}{P:Tl}{main:Bool}{J:SM}(C:Closed lv P main J){fr c:VM}{cs:SX}{f:UR}{kd:Yr}{ch:List aw3}{V:View}(h:Leaves P fr f kd (.panic ch) V)(hJ:J V (G (c.raise ch) cs)):J V (G fr (c::cs)):=by obtain⟨rfl,hd,hk,fn,hf,hm⟩:=h;refine C.idle rfl (λw=> ?_) hJ;simp[G,stepG,unwind,aw6,hm,hd,hf]
def Body.runs{lv:Bool}{P:Tl}{f:UR}{args:SG}{V:View}{R:SU}(h:Body lv P f args .normal V R):nU lv P (Frame.enter P f args .normal) V R:=by
 intro main J C c cs h1 h2;refine h main J C (c::cs) λo V' fr r hl=> ?_;cases o with
 |ret v=>exact aoX C hl (h1 v V' r)
 |panic ch=>exact aoW C hl (h2 ch V' r)
def ng (lv:Bool)(P:Tl)(r:SL)(o:Vp)(a:Act)(next:S4)(Q:SJ)(nx:Next)(V:View):Prop:=
 match nx with
 |.value v=>next (a.put o.dst v) V
 |.skip=>next (a.put o.dst undef) V
 |.defer d=>r=none/\next ({a with defers:=d::a.defers}.put o.dst undef) V
 |.enter f args=>Body lv P f args .normal V fun
   |.ret v,V'=>next (a.put o.dst v) V'
   |.panic ch,V'=>Q (.panic ch) a V'
 |.round l f tmps assign body=>nU lv P (Zf l f tmps assign body .normal) V fun
   |.ret v,V'=>next (a.put o.dst v) V'
   |.panic ch,V'=>Q (.panic ch) a V'
 |_=>False
def mR:Op->Bool
 |.defer _=>true
 |_=>false
def yi (lv:Bool)(P:Tl)(r:SL)(o:Vp)(a:Act)(V:View)(next:S4)(Q:SJ):Prop:=
 (r=none\/mR o.op=false)/\aT P V (execOp a.eval o) (ng lv P r o a next Q) (λv V'=>Q (.panic [{v,recovered:=false}]) a V')
abbrev TB:=List (List Spec)
abbrev TH:=List Spec
def wJ (lv:Bool)(P:Tl)(o:Vp)(a:Act)(V:View)(next:S4):Prop:=match o.op with
 |.send ch x=>∃(c Wg:Nat)(sp:Spec)(S:TH)(B:Nat->Bool),a.eval ch=.chan (some c)/\V.role=.work c Wg (sp::S)/\V.deaf=0/\sp (a.eval x) V.ah (λb=>if B b then V.own b else none)/\
   next (a.put o.dst undef) {V with own:=λb=>if B b then none else V.own b,role:=.work c Wg S}
 |.go cl=>lv=true/\∃(x:Up)(f:UR)(fa ca:SG),cl.callee=.value x/\a.eval x=.func (.func f) fa ca/\V.deaf=0/\
   ((∃(c Wg:Nat)(Ss:TB)(sp:Spec)(S:TH),V.role=.fork c Wg Ss/\V.own c=some (.chan 0 #[] false 0 0 false)/\V.own Wg=some (wgBlock P (((Ss.length+1:Nat):Int)* 4294967296) 0)/\Ss.length<4/\(∀o,V.ah Wg o=none)/\
    (∀J0,Am P false J0->J0 {ah:=V.ah,own:=λ_=>none,deaf:=0,role:=.work c Wg (sp::S)} (born P ⟨.fn (.func f) ca,fa++cl.args.map a.eval⟩))/\next (a.put o.dst undef) {V with role:=.fork c Wg (Ss++[sp::S])})\/
    (∃(c Wg:Nat)(Ss:TB),V.role=.fork c Wg Ss/\c≠Wg/\V.own c=some (.chan 0 #[] false 0 0 false)/\V.own Wg=some (wgBlock P (((Ss.length:Nat):Int)* 4294967296) 0)/\(∀o,V.ah c o=none)/\(∀o,V.ah Wg o=none)/\
    JL P V.ah c Wg (born P ⟨.fn (.func f) ca,fa++cl.args.map a.eval⟩)/\next (a.put o.dst undef) {V with own:=λb=>if b=c\/b=Wg then none else V.own b,role:=.recv c Wg Ss}))
 |.recv t ch true=>lv=true/\∃(c Wg:Nat)(Ss:TB)(d:ChanDir)(el:TypeId)(i:X8)(z:T9),a.eval ch=.chan (some c)/\P.underlying t=some (.chan d el)/\P.info? el=some i/\i.zero=some z/\V.role=.recv c Wg Ss/\V.deaf=0/\
   (∀(i:Nat)(sp:Spec)(S:TH)(v:T9)(Im:cC)(Ow:CR),Ss[i]?=some (sp::S)->sp v Im Ow->(∀b,V.own b≠none->Ow b=none)->(∀b o,V.own b≠none->Im b o≠none->V.ah b o≠none)->(∃w,Sat V w/\(∀b o x,Im b o=some x->w.cell? ⟨b,o,none⟩=some x)/\∀b x,Ow b=some x->w.heap[b]?=some x)->
    next (a.put o.dst (.tuple #[v,.bool true])) {V with ah:=λb o=>match V.ah b o with|some x=>some x|none=>Im b o,own:=λb=>match V.own b with|some x=>some x|none=>Ow b,role:=.recv c Wg (Ss.set i S)})/\
   ((∀S∈Ss,S=[])->next (a.put o.dst (.tuple #[z,.bool false])) {V with role:=.plain})
 |_=>False
def wJ.mono{lv:Bool}{P:Tl}{o:Vp}{a:Act}{V:View}{N N':S4}(h:wJ lv P o a V N)(hN:∀a V,N a V->N' a V):wJ lv P o a V N':=by
 unfold wJ at h⊢;split at h;obtain⟨c,Wg,sp,S,B,h1,h2,h3,h4,h5⟩:=h;exact⟨c,Wg,sp,S,B,h1,h2,h3,h4,hN _ _ h5⟩
 ·obtain⟨ui,x,f,fa,ca,h1,h2,h3,h4⟩:=h;refine⟨ui,x,f,fa,ca,h1,h2,h3,h4.imp ?_ ?_⟩
  ·rintro⟨c,Wg,Ss,sp,S,q1,q2,q3,q4,q5,q6,q7⟩
   exact⟨c,Wg,Ss,sp,S,q1,q2,q3,q4,q5,q6,hN _ _ q7⟩
  ·rintro⟨c,Wg,Ss,q1,q2,q3,q4,q5,q6,q7,q8⟩
   exact⟨c,Wg,Ss,q1,q2,q3,q4,q5,q6,q7,hN _ _ q8⟩
 ·obtain⟨ui,c,Wg,Ss,d,el,ti,z,h1,h2,h3,h4,h5,h6,h7,h8⟩:=h;exact⟨ui,c,Wg,Ss,d,el,ti,z,h1,h2,h3,h4,h5,h6,λi sp S v Im Ow r1 r2 r3 r4 r5=>hN _ _ (h7 i sp S v Im Ow r1 r2 r3 r4 r5),λhS=>hN _ _ (h8 hS)⟩
 ·exact h
def CQ (lv:Bool)(P:Tl)(r:SL)(o:Vp)(a:Act)(V:View)(next:S4)(Q:SJ):Prop:=yi lv P r o a V next Q\/wJ lv P o a V next
def dq (lv:Bool)(P:Tl)(r:SL)(ops:SK)(Q:SJ):SE->Act->View->Prop
 |[],a,V=>Q .normal a V
 |i::rest,a,V=>
  match ops[i]?with
  |none=>dq lv P r ops Q rest a V
  |some o=>if Uo o (yielded ops a.tmps)then CQ lv P r o a V (dq lv P r ops Q rest) Q else dq lv P r ops Q rest (a.put o.dst undef) V
def B3(b:VM)(a:Act)(ops:SK)(i:Nat)(rest:SE)(k:SZ)(v:T9):
  (on b a (.inRegion ops (i::rest)::k)).finish v=on b (a.put ((ops[i]?).bind (·.dst)) v) (.inRegion ops rest::k):=by
 cases h:(ops[i]?).bind (·.dst)<;>simp[Frame.finish,on,Zg,h]
def adL{P:Tl}{main:Bool}{b:VM}{a:Act}{k:SZ}{cs:SX}{w:Us}{ops:SK}{i:Nat}{rest:SE}(h:((ops[i]?).map (Uo · (yielded ops a.tmps))).getD false=false):
  stepG P main (G (on b a (.inRegion ops (i::rest)::k)) cs) w=.go (G (on b (a.put ((ops[i]?).bind (·.dst)) undef) (.inRegion ops rest::k)) cs) w #[]:=by
 rw[<- B3];simp only[on]at*;simp[G,stepG,U_,h]
def s_op{P:Tl}{main:Bool}{b:VM}{a:Act}{k:SZ}{cs:SX}{w:Us}{ops:SK}{i:Nat}{rest:SE}{o:Vp}(ho:ops[i]?=some o)(hw:Uo o (yielded ops a.tmps)=true)(hd:b.roundOf=none\/mR o.op=false):
  stepG P main (G (on b a (.inRegion ops (i::rest)::k)) cs) w=stepG.apply P true (on b a (.inRegion ops (i::rest)::k)) cs none (execOp a.eval o) w:=by
 have he:=aql b a (.inRegion ops (i::rest)::k);simp only[on]at he;rcases hd with hd|hd;rw[hd]at he;simp[G,stepG,U_,aa',ZV,on,ho,hw,he,hd]
 ·cases hr:b.roundOf with
  |none=>rw[hr]at he;simp[G,stepG,U_,aa',ZV,on,ho,hw,he,hr]
  |some l=>cases aB:o.op<;>simp_all[G,stepG,U_,aa',ZV,on,mR]
def atl{lv:Bool}{P:Tl}{main:Bool}{J:SM}(C:Closed lv P main J){ops:SK}{i:Nat}{rest:SE}{o:Vp}{a:Act}{V:View}{N:S4}{b:VM}{k:SZ}{cs:SX}(hb:b.kind≠ .early)
  (ho:ops[i]?=some o) (hw:Uo o (yielded ops a.tmps)=true) (h:wJ lv P o a V N) (hN:∀a' V',N a' V'->J V' (G (on b a' (.inRegion ops rest::k)) cs)):J V (G (on b a (.inRegion ops (i::rest)::k)) cs):=by
 have kq:((on b a (.inRegion ops (i::rest)::k)).kind==Wn)=false:=by simpa[on]using hb
 have eA:∀v,(on b a (.inRegion ops (i::rest)::k)).finish v=on b (a.put o.dst v) (.inRegion ops rest::k):=by intro v;rw[B3,ho];rfl
 have Nt:∀v,UY (G (on b a (.inRegion ops (i::rest)::k)) cs) v=G (on b (a.put o.dst v) (.inRegion ops rest::k)) cs:=λv=>by rw[<- eA v];rfl
 unfold wJ at h;split at h
 ·rename_i ch x aB;obtain⟨c,Wg,sp,S,B,h1,h2,h3,h4,h5⟩:=h;have aU:∀w,stepG P main (G (on b a (.inRegion ops (i::rest)::k)) cs) w=.comm (G (on b a (.inRegion ops (i::rest)::k)) cs) #[scase c (a.eval x) (.tuple #[])] true .send w #[]:=λw=>by
   rw[s_op ho hw (.inr (by rw[aB];rfl))];have e:execOp a.eval o=pure (.comm #[scase c (a.eval x) (.tuple #[])] true .send):=by unfold execOp;simp only[aB];rw[h1];rfl
   rw[e];simp only[stepG.apply,UE,if_true,kq,U3,axi,av',Zw];rfl
  exact C.send _ _ c Wg sp S (a.eval x) (.tuple #[]) B h2 h3 rfl rfl (λw _=>aU w) h4 (by rw[Nt];exact hN _ _ h5)
 ·rename_i cl aB;obtain⟨ui,x,f,fa,ca,h1,h2,h3,h4⟩:=h;have aU:∀w,stepG P main (G (on b a (.inRegion ops (i::rest)::k)) cs) w=.spawn (G (on b (a.put o.dst undef) (.inRegion ops rest::k)) cs) (born P ⟨.fn (.func f) ca,fa++cl.args.map a.eval⟩) w #[]:=λw=>by
   rw[s_op ho hw (.inr (by rw[aB];rfl)),<- eA undef];have e:execOp a.eval o=(pure (.spawn ⟨.fn (.func f) ca,fa++cl.args.map a.eval⟩):Sem Next):=by unfold execOp;simp only[aB];unfold resolve;simp only[h1,h2];rfl
   rw[e];simp only[stepG.apply,UE,if_true,kq,U3,axi,av',Zw];simp[born,G,on];exact Zw _ _
  rcases h4 with⟨c,Wg,Ss,sp,S,q1,q2,q3,q4,q5,q6,q7⟩|⟨c,Wg,Ss,q1,q2,q3,q4,q5,q6,q7,q8⟩;exact(C.more ui).GW _ _ _ _ c Wg Ss sp S q1 h3 rfl q2 q3 q4 q5 (λw _=>aU w) rfl q6 (hN _ _ q7);exact(C.more ui).GV _ _ _ _ c Wg Ss q1 h3 rfl q2 q3 q4 q5 q6 (λw _=>aU w) rfl q7 (hN _ _ q8)
 ·rename_i t ch aB;obtain⟨ui,c,Wg,Ss,d,el,ti,z,h1,h2,h3,h4,h5,h6,h7,h8⟩:=h;have aU:∀w,stepG P main (G (on b a (.inRegion ops (i::rest)::k)) cs) w=.comm (G (on b a (.inRegion ops (i::rest)::k)) cs) #[rcase c z] true (.recv true) w #[]:=λw=>by
   rw[s_op ho hw (.inr (by rw[aB];rfl))];have hu:(underlying t).run P w=.ok (.chan d el) w:=run_underlying h2 w;have hi:(typeInfo el).run P w=.ok ti w:=(by simp[typeInfo,h3]);have hz:(zeroValue el).run P w=.ok z w:=(by simp[zeroValue,hi,h4]);have vY:(zeroValue el).events P w #[]=#[]:=(by simp[zeroValue,hi,h4]);have e1:(execOp a.eval o).run P w=.ok (.comm #[rcase c z] true (.recv true)) w:=by unfold execOp;simp only[aB];rw[h1];simp[hu,hz,rcase]
   have e2:(execOp a.eval o).events P w #[]=#[]:=by unfold execOp;simp only[aB];rw[h1];simp[hu,hz,vY]
   simp only[stepG.apply,UE,if_true,kq,U3,e1,e2,Zw];rfl
  refine(C.more ui).recv _ _ c Wg Ss z h5 h6 rfl rfl (λw _=>aU w) (λi sp S v Im Ow r1 r2 r3 r4 r5=> ?_) λhS=> ?_
  ·rw[Nt];exact hN _ _ (h7 i sp S v Im Ow r1 r2 r3 r4 r5)
  ·rw[Nt];exact hN _ _ (h8 hS)
 ·exact h.elim
def wp_ops{lv:Bool}{P:Tl}{r:SL}{ops:SK}{Q:SJ}(l:SE):
  ∀(a:Act)(V:View),dq lv P r ops Q l a V->∀(main:Bool)(J:SM),Closed lv P main J->∀(b:VM)(k:SZ)(cs:SX),b.kind≠ .early->b.roundOf=r->
   (∀e a' V',Q e a' V'->wG J b k cs e a' V')->J V (G (on b a (.inRegion ops l::k)) cs):=by
 induction l with
 |nil=>exactλa V h main J C b k cs _ _ hL=>C.idle rfl (λ_=>asy) (hL _ _ _ h)
 |cons i rest ih=>
  intro a V h main J C b k cs hb hr hL;simp only[dq]at h;cases ho:ops[i]?with
  |none=>simp only[ho]at h;refine C.idle rfl (λw=>adL (by simp[ho])) ?_;simp only[ho,Option.bind_none,Zg];exact ih a V h main J C b k cs hb hr hL
  |some o=>
   simp only[ho]at h;by_cases hw:Uo o (yielded ops a.tmps)=true
   ·simp only[hw,if_true]at h;rcases h with h|h
    rotate_left
    ·exact atl C hb ho hw h λa' V' h'=>ih a' V' h' main J C b k cs hb hr hL
    obtain⟨bC,aB⟩:=h;have amp:b.roundOf=none\/mR o.op=false:=hr▸bC;have eA:∀v,(on b a (.inRegion ops (i::rest)::k)).finish v=on b (a.put o.dst v) (.inRegion ops rest::k):=by intro v;rw[B3,ho];rfl
    have kq:((on b a (.inRegion ops (i::rest)::k)).kind==Wn)=false:=(by simpa[on]using hb);refine C.step _ _ rfl λw fZ=> ?_;obtain⟨es,w',V',h1,h2,h3⟩:=aB.runs fZ;rw[s_op ho hw amp];rcases h3 with⟨nx,h3,hU⟩|⟨v,h3,hU⟩
    ·cases nx with
     |value v=>exact⟨_,w',seen P b.fn es,V',by rw[<- eA v];simp only[stepG.apply,UE,if_true,h3,h2,kq,U3];rfl,h1.seen P _,ih _ _ hU main J C b k cs hb hr hL⟩
     |skip=>exact⟨_,w',seen P b.fn es,V',by rw[<- eA undef];simp only[stepG.apply,UE,if_true,h3,h2,kq,U3];rfl,h1.seen P _,ih _ _ hU main J C b k cs hb hr hL⟩
     | «defer» d =>
      obtain⟨BG,hU⟩:=hU;have jg:({on b a (.inRegion ops (i::rest)::k)with defers:=d::a.defers}:VM).finish undef=on b ({a with defers:=d::a.defers}.put o.dst undef) (.inRegion ops rest::k):=by have:=B3 b {a with defers:=d::a.defers} ops i rest k undef;rw[ho]at this;exact this
      exact⟨_,w',seen P b.fn es,V',by rw[<- jg];simp only[stepG.apply,UE,if_true,h3,h2,kq,U3];rfl,h1.seen P _,ih _ _ hU main J C b k cs hb hr hL⟩
     |enter f args=>refine⟨G (Frame.enter P f args .normal) (on b a (.inRegion ops (i::rest)::k)::cs),w',seen P b.fn es,V',by simp only[stepG.apply,UE,if_true,h3,h2,kq,U3];rfl,h1.seen P _,?_⟩;refine Body.runs hU main J C _ cs (λv aZ hR=> ?_) (λch aZ hR=> ?_);rw[eA];exact ih _ _ hR main J C b k cs hb hr hL;exact hL _ _ _ hR _ rfl
     |round l f tmps assign body=>refine⟨G (Zf l f tmps assign body .normal) (on b a (.inRegion ops (i::rest)::k)::cs),w',seen P b.fn es,V',by simp only[stepG.apply,UE,if_true,h3,h2,kq,U3];rfl,h1.seen P _,?_⟩;refine hU main J C _ cs (λv aZ hR=> ?_) (λch aZ hR=> ?_);rw[eA];exact ih _ _ hR main J C b k cs hb hr hL;exact hL _ _ _ hR _ rfl
     |_=>exact hU.elim
    ·refine⟨G ((on b a (.inRegion ops (i::rest)::k)).raise [{v,recovered:=false}]) cs,w',seen P b.fn es,V',by simp only[stepG.apply,UE,if_true,h3,h2,kq,U3];rfl,h1.seen P _,hL _ _ _ hU _ rfl⟩
   ·have oF:Uo o (yielded ops a.tmps)=false:=(by simpa using hw);simp only[oF,if_false,UH]at h;refine C.idle rfl (λw=>adL (by simp[ho,oF])) ?_;simp only[ho,ac_];exact ih _ _ h main J C b k cs hb hr hL
def wp_region{lv:Bool}{P:Tl}{r:SL}{id:Nat}{ops:SK}{Q:SJ}{a:Act}{V:View}(h:dq lv P r ops Q (Tt ops.size) a V):WP lv P r (.region id ops false) Q a V:=
 λmain J C b k cs hb hr hL=>C.idle rfl (λ_=>adM) (wp_ops _ a V h main J C b k cs hb hr hL)
def PT{lv:Bool}{P:Tl}{r:SL}{id:Nat}{ops:SK}{Q:SJ}{a:Act}{V:View}(h:∀t,dq lv P r ops Q (W6 (P.follows .mixedOrders) ops t) a V):WP lv P r (.region id ops true) Q a V:=
 λmain J C b k cs hb hr hL=>C.step _ _ rfl λw hw=>⟨_,_,#[],V,asp,.draw hw _,wp_ops _ a V (h _) main J C b k cs hb hr hL⟩
def Ends (P:Tl)(fn:aw5)(R:SU):Ex->Act->View->Prop
 |.normal,a,V|.ret,a,V=>a.defers=[]/\∃v,aT P V (results fn a.tmps) (λx V'=>x=v/\V'=V) (λ_ _=>False)/\R (.ret v) V
 |.panic ch,a,V=>a.defers=[]/\R (.panic ch) V
 |_,_,_=>False
def Q2{lv:Bool}{P:Tl}{f:UR}{fn:aw5}{c:U5}{args:SG}{kd:Yr}{V:View}{R:SU}(hk:kd≠ .early)(hf:P.funcs[f]?=some fn)(hb:fn.body=some c)
  (h:WP lv P none c (Ends P fn R) {tmps:=args++US (fn.ntmps-args.size) undef,defers:=[]} V):Body lv P f args kd V R:=by
 intro main J C cs hR;let b:VM:={(default:VM)with fn:=f,kind:=kd,roundOf:=none};have vD:Frame.enter P f args kd=on b {tmps:=args++US (fn.ntmps-args.size) undef,defers:=[]} [.code c]:=by simp[Frame.enter,on,hf,hb,b]
 rw[vD];refine h main J C b [] cs hk rfl λe a' V' q=> ?_;cases e with
 |normal=>obtain⟨hd,v,hs,hr⟩:=q;exact C.idle rfl (λw=>Fv rfl) (hR _ _ _ hr ⟨rfl,hd,rfl,fn,hf,rfl,hs⟩)
 |ret=>obtain⟨hd,v,hs,hr⟩:=q;intro k;exact C.idle rfl (λw=>Fw rfl) (hR _ _ _ hr ⟨rfl,hd,rfl,fn,hf,rfl,hs⟩)
 |panic ch=>obtain⟨hd,hr⟩:=q;intro todo _;exact hR _ _ _ hr ⟨rfl,hd,rfl,fn,hf,rfl⟩
 |exit id=>exact q.elim
 |goto l=>exact q.elim
open Go.Conc
inductive Ht where
 |z
 |s (f:Us->Ht)
inductive CH:Ht->Ht->Prop where
 |mk (f:Us->Ht) (w:Us):CH (f w) (.s f)
def anP:WellFounded CH:=by
 refine⟨λh=> ?_⟩;induction h with
 |z=>exact⟨_,λy hy=>by cases hy⟩
 |s f ih=>exact⟨_,λy hy=>by cases hy with|mk _ w=>exact ih w⟩
inductive l6 (P:Tl):Ht->View->Ti->Prop where
 |step {f:Us->Ht} {V V₁:View} {g:Ti} (G':Us->Ti) (W':Us->Us) (E':Us->Array W8) (V':Us->View) (hs:g.status=.running) (hg:eg V V₁)
   (h1:∀w,Sat V₁ w->stepG P false g w=.go (G' w) (W' w) (E' w)) (h2:∀w,Sat V₁ w->dl V₁ w (V' w) (W' w) (E' w)) (h3:∀w,Sat V₁ w->l6 P (f w) (V' w) (G' w)):l6 P (.s f) V g
 |send {h:Ht} {V V₁:View} {g:Ti} (c Wg:Nat) (sp:Spec) (S:List Spec) (v z:T9) (B:Nat->Bool) (hs:g.status=.running) (hg:eg V V₁) (hr:V₁.role=.work c Wg (sp::S)) (hd:V₁.deaf=0) (ho:g.offers=none)
   (h1:∀w,Sat V₁ w->stepG P false g w=.comm g #[scase c v z] true .send w #[]) (h2:sp v V₁.ah (λb=>if B b then V₁.own b else none))
   (h3:l6 P h {V₁ with own:=λb=>if B b then none else V₁.own b,role:=.work c Wg S} (UY g undef)):l6 P (.s λ_=>h) V g
 |done {V V₁:View} {g:Ti} (c Wg:Nat) (hg:eg V V₁) (hr:V₁.role=.work c Wg []) (hd:V₁.deaf=0) (h1:F3 P Wg g):l6 P (.s λ_=> .z) V g
 |slip {h:Ht} {V V₁:View} {g g':Ti} (c Wg:Nat) (hs:g.status=.running) (hg:eg V V₁) (hr:V₁.role=.work c Wg []) (h1:∀w st,Sat V₁ w->WgAt P Wg w st 0->stepG P false g w=.go g' w #[]) (h3:l6 P h V₁ g'):l6 P (.s λ_=>h) V g
def l6.running{P:Tl}{h:Ht}{V:View}{g:Ti}(k:l6 P h V g):g.status=.running:=by
 cases k with
 |step _ _ _ _ hs=>exact hs
 |send _ _ _ _ _ _ _ hs=>exact hs
 |done _ _ _ _ _ h1=>exact h1.1
 |slip _ _ hs=>exact hs
open Classical in
def auY(P:Tl):Am P false (λV g=>∃h,l6 P h V g)where
 step V g hs h:=by
  have hc:∀w,∃h' g' w' es V',Sat V w->stepG P false g w=.go g' w' es/\dl V w V' w' es/\l6 P h' V' g':=by intro w;by_cases hw:Sat V w;obtain⟨g',w',es,V',h1,h2,h',h3⟩:=h w hw;exact⟨h',g',w',es,V',λ_=>⟨h1,h2,h3⟩⟩;exact⟨.z,g,w,#[],V,λx=>absurd x hw⟩
  have kT:=λw=>(hc w).choose_spec.choose_spec.choose_spec.choose_spec.choose_spec;exact⟨.s λw=>(hc w).choose,.step (λw=>(hc w).choose_spec.choose) (λw=>(hc w).choose_spec.choose_spec.choose) (λw=>(hc w).choose_spec.choose_spec.choose_spec.choose)
   (λw=>(hc w).choose_spec.choose_spec.choose_spec.choose_spec.choose) hs (eg.refl V) (λw hw=>(kT w hw).1) (λw hw=>(kT w hw).2.1) (λw hw=>(kT w hw).2.2)⟩
 ghost V V' g hg h:=by
  obtain⟨h,hk⟩:=h;cases hk with
  |step a b c d e f x y z=>exact⟨_,.step a b c d e (hg.trans f) x y z⟩
  |send a b c d e f m n o p q r s t u=>exact⟨_,.send a b c d e f m n (hg.trans o) p q r s t u⟩
  |done a b o p q r=>exact⟨_,.done a b (hg.trans o) p q r⟩
  |slip a b f o p q r=>exact⟨_,.slip a b f (hg.trans o) p q r⟩
 send V g c Wg sp S v z B h1 h2 h3 h4 h5 h6 h7:=by obtain⟨h,hk⟩:=h7;exact⟨_,.send c Wg sp S v z B h3 (eg.refl V) h1 h2 h4 h5 h6 hk⟩
 done V g c Wg h1 h2 h3:=⟨_,.done c Wg (eg.refl V) h1 h2 h3⟩
 slip V g g' c Wg h1 h2 h3 h4:=by obtain⟨h,hk⟩:=h4;exact⟨_,.slip c Wg h2 (eg.refl V) h1 h3 hk⟩
structure Az where
 a:Nat
 h:Ht
 n:Nat
def r_:Az->Az->Prop:=λx y=>x.a<y.a\/(x.a=y.a/\(CH x.h y.h\/(x.h=y.h/\x.n<y.n)))
def arU:WellFounded r_:=by
 refine⟨λ⟨a,h,n⟩=> ?_⟩;induction a using Zy generalizing h n with
 |_ a iha=>
  induction h using anP.induction generalizing n with
  |_ h ihh=>
   induction n using Zy with
   |_ n NP=>refine⟨_,λ⟨a',h',n'⟩ hlt=> ?_⟩;rcases hlt with x|⟨rfl,x|⟨rfl,x⟩⟩;exact iha a' x h' n';exact ihh h' x n';exact NP n' x
def CU (N:Nat)(f' f:Nat->Az):Prop:=∃i,i<N/\r_ (f' i) (f i)/\∀j,j≠i->f' j=f j
def ate(N:Nat):WellFounded (CU N):=by
 refine⟨?_⟩;induction N with
 |zero=>intro f;exact⟨_,λf' ⟨i,hi,_⟩=>by omega⟩
 |succ N ih=>
  have key:∀x:Az,∀f,f N=x->Acc (CU (N+1)) f:=by
   intro x;induction x using arU.induction with
   |_ x ihx=>
    intro f hf;have inner:∀f,Acc (CU N) f->f N=x->Acc (CU (N+1)) f:=by
     intro f ha;induction ha with
     |intro f _ NO=>intro hf;refine⟨_,λf' ⟨i,hi,hlt,ho⟩=> ?_⟩;by_cases fX:i=N;subst fX;exact ihx (f' i) (hf▸hlt) f' rfl;exact NO f' ⟨i,by omega,hlt,ho⟩ ((ho N (Ne.symm fX)).trans hf)
    exact inner f (ih f) hf
  exactλf=>key (f N) f rfl
def CP (N:Nat)(x y:(Nat->Az)×Nat):Prop:=CU N x.1 y.1\/(x.1=y.1/\x.2<y.2)
def acK(N:Nat):WellFounded (CP N):=by
 refine⟨λ⟨f,n⟩=> ?_⟩;induction f using(ate N).induction generalizing n with
 |_ f NO=>
  induction n using Zy with
  |_ n NP=>refine⟨_,λ⟨f',n'⟩ hlt=> ?_⟩;rcases hlt with x|⟨x,y⟩;exact NO f' x n';have x':f'=f:=x;subst x';exact NP n' y
open Go.Conc Go.ConcN
structure TI (t:Vj)(B N:Nat)(rd wr:Nat->Loc->Prop)(Sh:Loc->Prop)(act:Nat->Prop)(ic:Nat):Prop where
 nr:∀said,¬Race said t
 low:∀op∈t,op.act.low B
 gs:∀op∈t,op.g<N
 norel:∀op∈t,∀a,op.act≠ .mark (.release a)
 kr:∀i,i<N->∀l,rd i l->PermW t i l
 kw:∀i,i<N->∀l,wr i l->Perm t i l
 sp:∀idx a,touchAt t idx=some a->Sh a.loc->(a.kind=.plain->∀i,act i->Xe t i idx)/\(a.kind=.said->Xe t ic idx)
abbrev S7:=Nat->Prop
def Fit (B:Nat)(rd wr:Nat->Loc->Prop)(Sh:Loc->Prop)(act:S7)(ic i:Nat)(x:ZU):Prop:=
 (Sh x.loc/\x.kind=.atomic/\act i)\/(Sh x.loc/\x.kind=.said/\i=ic/\act i)\/(¬Sh x.loc/\(wr i x.loc\/(rd i x.loc/\x.write=false)\/¬x.loc.low B))
def apm{B:Nat}{m:MemAct}(h:m.low B){x:ZU}(hx:m.touch?=some x):x.loc.low B:=by
 cases m with
 |access e=>simp only[Xp,Ul]at hx;subst hx;exact h
 |mark m=>cases m<;>simp[Xp]at hx<;>(subst hx;exact h)
 |_=>simp[Xp]at hx
def PJ{t:Vj}{B:Nat}(h:∀op∈t,op.act.low B){idx:Nat}{a:ZU}(ha:touchAt t idx=some a):a.loc.low B:=by obtain⟨x,hx,H7⟩:=VR ha;exact apm (h x (XM hx)) H7
def Cr{t u:Vj}{idx:Nat}{a:ZU}(h:touchAt (t++u) idx=some a):touchAt t idx=some a\/(t.size<=idx/\∃op∈u,(t++u)[idx]?=some op/\op.act.touch?=some a):=by obtain⟨x,hx,H7⟩:=VR h;rcases Yz hx with⟨_,jZ⟩|⟨hi,hu⟩;exact .inl (by rw[touchAt_of jZ];exact H7);exact .inr ⟨hi,x,hu,hx,H7⟩
def TI.app{t:Vj}{B N B':Nat}{rd wr rd' wr':Nat->Loc->Prop}{Sh:Loc->Prop}{act:S7}{ic:Nat}(h:TI t B N rd wr Sh act ic){u:Vj}{i:Nat}(hi:i<N)(hu:∀op∈u,op.g=i)
  (hf:∀op∈u,∀x,op.act.touch?=some x->Fit B rd wr Sh act ic i x) (hl:∀op∈u,op.act.low B') (hB:B<=B') (hn:∀op∈u,∀a,op.act≠ .mark (.release a))
  (Nm:∀j l,j≠i->rd' j l->rd j l) (sT:∀j l,j≠i->wr' j l->wr j l) (hri:∀l,rd' i l->l.low B->rd i l\/wr i l) (zA:∀l,wr' i l->l.low B->wr i l)
  (ex:∀l j,j≠i->(wr i l->¬rd j l/\¬wr j l)/\(rd i l->¬wr j l)) (Jc:∀l j,Sh l->¬rd j l/\¬wr j l) (acz:∀j l,rd j l\/wr j l->l.low B):
  TI (t++u) B' N rd' wr' Sh act ic where
 nr said:=by
  refine noRace_append (h.nr said) hu λidx a ha op aB b hb hc=> ?_;have bu:=hc;obtain⟨cX,_,Ef,rz⟩:=hc;rcases hf op aB b hb with⟨h1,h2,h3⟩|⟨h1,h2,h3,h4⟩|⟨_,h2|⟨h2,h3⟩|h2⟩
  ·rw[h2]at rz;rcases rz with x|x|⟨_,_,x⟩;exact(h.sp idx a ha (cX▸h1)).1 x i h3;cases x;cases x
  ·rw[h2]at rz;rcases rz with x|x|⟨_,x,_⟩;exact(h.sp idx a ha (cX▸h1)).1 x i h4;cases x;rw[h3];exact(h.sp idx a ha (cX▸h1)).2 x
  ·exact h.kw i hi _ h2 idx a ha cX
  ·exact h.kr i hi _ h2 idx a ha cX (by rw[h3]at Ef;simpa using Ef)
  ·exact absurd (cX▸PJ h.low ha) h2
 low op aB:=(Vu.1 aB).elim (λx=>Y4 hB (h.low op x)) (hl op)
 gs op aB:=(Vu.1 aB).elim (h.gs op) (λx=>by rw[hu op x];exact hi)
 norel op aB:=(Vu.1 aB).elim (h.norel op) (hn op)
 kr j hj l pB:=by
  by_cases cF:j=i;subst cF;intro idx a ha io hw;rcases Cr ha with fK|⟨_,op,aB,dg,hx⟩;have iP:l.low B:=io▸PJ h.low fK;rcases hri l pB iP with x|x;exact(h.kr j hj l x idx a fK io hw).app u;exact(h.kw j hj l x idx a fK io).app u;have:=YQ dg;rwa[hu op aB]at this
  ·have Eu:=Nm j l cF pB;refine(h.kr j hj l Eu).app λop aB b hb cI hw=> ?_;exfalso;rcases hf op aB b hb with⟨h1,_⟩|⟨h1,_⟩|⟨_,h2|⟨_,h3⟩|h2⟩
   ·exact(Jc l j (cI▸h1)).1 Eu
   ·exact(Jc l j (cI▸h1)).1 Eu
   ·exact((ex l j cF).1 (cI▸h2)).1 Eu
   ·rw[h3]at hw;cases hw
   ·exact h2 (cI▸acz j l (.inl Eu))
 kw j hj l sS:=by
  by_cases cF:j=i;subst cF;intro idx a ha io;rcases Cr ha with fK|⟨_,op,aB,dg,hx⟩;exact(h.kw j hj l (zA l sS (io▸PJ h.low fK)) idx a fK io).app u;have:=YQ dg;rwa[hu op aB]at this
  ·have oG:=sT j l cF sS;refine(h.kw j hj l oG).app λop aB b hb cI=> ?_;exfalso;rcases hf op aB b hb with⟨h1,_⟩|⟨h1,_⟩|⟨_,h2|⟨h2,_⟩|h2⟩
   ·exact(Jc l j (cI▸h1)).2 oG
   ·exact(Jc l j (cI▸h1)).2 oG
   ·exact((ex l j cF).1 (cI▸h2)).2 oG
   ·exact(ex l j cF).2 (cI▸h2) oG
   ·exact h2 (cI▸acz j l (.inr oG))
 sp idx a ha dD:=by rcases Cr ha with fK|⟨_,op,aB,dg,hx⟩;exact⟨λhp j hj=>((h.sp idx a fK dD).1 hp j hj).app u,λhp=>((h.sp idx a fK dD).2 hp).app u⟩;rcases hf op aB a hx with⟨_,h2,_⟩|⟨_,h2,h3,_⟩|⟨h1,_⟩;exact⟨λhp=>absurd (h2.symm.trans hp) (by simp),λhp=>absurd (h2.symm.trans hp) (by simp)⟩;refine⟨λhp=>absurd (h2.symm.trans hp) (by simp),λ_=> ?_⟩;have:=YQ dg;rw[hu op aB,h3]at this;exact this;exact absurd dD h1
def TI.weaken{t:Vj}{B N B':Nat}{rd wr rd' wr':Nat->Loc->Prop}{Sh Qe:Loc->Prop}{act act':S7}{ic kY:Nat}(h:TI t B N rd wr Sh act ic)(hB:B<=B')
  (Nm:∀i l,i<N->rd' i l->rd i l\/wr i l) (sT:∀i l,i<N->wr' i l->wr i l)
  (qz:∀idx a,touchAt t idx=some a->Qe a.loc->(a.kind=.plain->∀i,act' i->Xe t i idx)/\(a.kind=.said->Xe t kY idx)):TI t B' N rd' wr' Qe act' kY:=
 ⟨h.nr,λop aB=>Y4 hB (h.low op aB),h.gs,h.norel,λi hi l x=>(Nm i l hi x).elim (h.kr i hi l) (λy=>PermW.of (h.kw i hi l y)),λi hi l x=>h.kw i hi l (sT i l hi x),qz⟩
def apX{t u:Vj}(h:∀said,¬Race said t)(hn:∀op∈u,op.act.touch?=none):∀said,¬Race said (t++u):=by
 intro said
 rintro⟨i,j,kF,⟨a,b,ha,hb,hc⟩,n1,n2⟩
 have old:∀{k:Nat}{x:ZU},((t++u).act? k).bind (·.touch?)=some x->k<t.size/\(t.act? k).bind (·.touch?)=some x:=by intro k x hx;obtain⟨y,hy,NI⟩:=VR hx;rcases Yz hy with⟨hk,qC⟩|⟨_,hyu⟩;exact⟨hk,by simp[Trace.act?,qC,NI]⟩;rw[hn y hyu]at NI;cases NI
 exact h said ⟨i,j,kF,⟨a,b,(old ha).2,(old hb).2,hc⟩,λe=>n1 (hb_app u e),λe=>n2 (hb_app u e)⟩
def Cs{t u:Vj}(hn:∀op∈u,op.act.touch?=none){idx:Nat}{a:ZU}(h:touchAt (t++u) idx=some a):touchAt t idx=some a:=by rcases Cr h with h|⟨_,op,aB,_,hx⟩;exact h;rw[hn op aB]at hx;cases hx
def TI.mute{t:Vj}{B N N':Nat}{rd wr rd' wr':Nat->Loc->Prop}{Sh:Loc->Prop}{act act':S7}{ic kY:Nat}(h:TI t B N rd wr Sh act ic){u:Vj}(hn:∀op∈u,op.act.touch?=none)(hl:∀op∈u,op.act.low B)(hg:∀op∈u,op.g<N')(hN:N<=N')
  (sL:∀op∈u,∀a,op.act≠ .mark (.release a))
  (kr:∀i,i<N'->∀l,rd' i l->∀idx a,touchAt t idx=some a->a.loc=l->a.write=true->Xe (t++u) i idx) (kw:∀i,i<N'->∀l,wr' i l->∀idx a,touchAt t idx=some a->a.loc=l->Xe (t++u) i idx)
  (sp:∀idx a,touchAt t idx=some a->Sh a.loc->(a.kind=.plain->∀i,act' i->Xe (t++u) i idx)/\(a.kind=.said->Xe (t++u) kY idx)):TI (t++u) B N' rd' wr' Sh act' kY:=
 ⟨apX h.nr hn,λop aB=>(Vu.1 aB).elim (h.low op) (hl op),λop aB=>(Vu.1 aB).elim (λx=>Ug (h.gs op x) hN) (hg op),λop aB=>(Vu.1 aB).elim (h.norel op) (sL op),
  λi hi l x idx a ha=>kr i hi l x idx a (Cs hn ha),λi hi l x idx a ha=>kw i hi l x idx a (Cs hn ha),λidx a ha=>sp idx a (Cs hn ha)⟩
def sq{t u:Vj}{k:Nat}{x:W7}(h:u[k]?=some x):(t++u)[t.size+k]?=some x:=by rw[Zj (by omega)];simpa using h
def heard_new{t u:Vj}{k g:Nat}{x:W7}(h:u[k]?=some x)(hx:x.g=g)(hd:(t++u).deaf g (t.size+k)=0):(t++u).heard (t.size+k):=⟨g,by simp[Xu,sq h,hx],hd⟩
def still (m:MemAct):Prop:=m≠ .mark .disable/\m≠ .mark .enable
def KA{g d:Nat}{y:W7}(h:still y.act):deafStep g d y=d:=by
 unfold deafStep;obtain⟨_,_,_,act⟩:=y;cases act with
 |mark m=>cases m<;>first|rfl|exact absurd rfl h.1|exact absurd rfl h.2
 |_=>rfl
def vd{t u:Vj}{g:Nat}(hs:∀op∈u,still op.act):∀{k:Nat},k<=u.size->(t++u).deaf g (t.size+k)=VS t g:=by
 intro k;induction k with
 |zero=>intro _;exact deaf_old (Tv _)
 |succ k ih=>
  intro hk;have hlt:k<u.size:=by omega
  have hy:u[k]?=some u[k]:=Tj hlt;have e:=Zx (g:=g) (sq (t:=t) hy);rw[show t.size+(k+1)=t.size+k+1 from rfl,e,ih (by omega),KA (hs _ (XZ hlt))]
def Deaf_still{t u:Vj}{g:Nat}(hs:∀op∈u,still op.act):VS (t++u) g=VS t g:=by have:=vd (t:=t) (g:=g) hs (Tv u.size);unfold VS;rw[YR];exact this
def apA{t u:Vj}{k c s:Nat}{x0 x1 x2 x3:W7}(hu:u=#[x0,x1,x2,x3])(h0:x0.g=k/\x0.act=.send c s)(h1:still x1.act)(h2:still x2.act)(h3:x3.g=0/\x3.act=.recvDone c s)(dk:VS t k=0)(d0:VS t 0=0){idx:Nat}(h:Xe t k idx):Xe (t++u) 0 idx:=by
 have hs:∀op∈u,still op.act:=by subst hu;intro op aB;simp only[UN,Tm,T5,or_false]at aB;rcases aB with rfl|rfl|rfl|rfl;rw[h0.2];exact⟨by simp,by simp⟩;exact h1;exact h2;rw[h3.2];exact⟨by simp,by simp⟩
 have e0:u[0]?=some x0:=by subst hu;rfl
 have e3:u[3]?=some x3:=by subst hu;rfl
 have a_:u.size=4:=by subst hu;rfl
 have g0:=sq (t:=t) e0;have g3:=sq (t:=t) e3;have hh0:(t++u).heard (t.size+0):=heard_new e0 h0.1 (by rw[vd hs (by omega)];exact dk);have hh3:(t++u).heard (t.size+3):=heard_new e3 h3.1 (by rw[vd hs (by omega)];exact d0);have hb:HappensBefore (t++u) idx (t.size+0):=h.hb_new (by omega) g0 h0.1;exact⟨_,x3,g3,h3.1,.inr (hb.trans (.single (.inr ⟨.handOver (c:=c) (k:=s) (by rw[ZO g0,h0.2]) (by rw[ZO g3,h3.2]),hh0,hh3⟩)))⟩
def ago{t:Vj}{a:Wy}{r q i:Nat}{y:W7}(hr:t.act? r=some (.mark (.releaseMerge a)))(hh:t.heard r)(hn:∀op∈t,∀a,op.act≠ .mark (.release a))(hy:y.g=q/\y.act=.mark (.acquire a))(hd:VS t q=0)(hb:Before t i r):Xe (t++#[y]) q i:=by
 have e:(#[y]:Vj)[0]?=some y:=rfl;have g:=sq (t:=t) e;have pB:=Xo hr;have aU:∀op∈(#[y]:Vj),still op.act:=by intro op aB;simp only[UN,Tm,T5,or_false]at aB;subst aB;rw[hy.2];exact⟨by simp,by simp⟩
 have MK:(t++#[y]).heard (t.size+0):=heard_new e hy.1 (by rw[vd aU (by simp)];exact hd);refine⟨_,y,g,hy.1,.inr ((hb.app #[y]).hb (.single (.inr ⟨.marked (a:=a) (by omega) (.inr (by rw[Zi pB];exact hr)) (by rw[ZO g,hy.2]) (λk iY cO e'=> ?_),(Xb pB).2 hh,MK⟩)))⟩;obtain⟨op,ho,M8⟩:=Uu.1 e';rcases Yz ho with⟨_,bl⟩|⟨hk,_⟩;exact hn op (XM bl) a M8;omega
def aif{t:Vj}{c p q i:Nat}{y:W7}(hp:t.act? p=some (.close c))(hh:t.heard p)(hy:y.g=q/\y.act=.recvClosed c)(hd:VS t q=0)(hb:Before t i p):Xe (t++#[y]) q i:=by
 have e:(#[y]:Vj)[0]?=some y:=rfl;have g:=sq (t:=t) e;have cJ:=Xo hp;have aU:∀op∈(#[y]:Vj),still op.act:=by intro op aB;simp only[UN,Tm,T5,or_false]at aB;subst aB;rw[hy.2];exact⟨by simp,by simp⟩
 have MK:(t++#[y]).heard (t.size+0):=heard_new e hy.1 (by rw[vd aU (by simp)];exact hd);exact⟨_,y,g,hy.1,.inr ((hb.app #[y]).hb (.single (.inr ⟨.closed (c:=c) (by rw[Zi cJ];exact hp) (by rw[ZO g,hy.2]),(Xb cJ).2 hh,MK⟩)))⟩
open Go.Conc Go.ConcN
def j5 (U V:View):Prop:=∀b,U.own b≠none->V.own b=none/\∀o,V.ah b o≠none->U.ah b o≠none
def iA (V:View):Loc->Prop
 |.cell a=>V.own a.block≠none\/V.ah a.block a.off≠none
 |.obj r=>V.own r≠none
 |_=>False
def j7 (V:View):Loc->Prop
 |.cell a=>V.own a.block≠none/\V.ah a.block a.off=none
 |.obj r=>V.own r≠none
 |_=>False
def j7.rd{V:View}:∀{l:Loc},j7 V l->iA V l
 |.cell _,h=> .inl h.1
 |.obj _,h=>h
def dl.others{V V' U:View}{w w':Us}{es:SO}(s:dl V w V' w' es)(hV:Sat V w)(h:Sat U w)(d:j5 V U):Sat U w':=by
 refine⟨λb o v e=> ?_,λb x e=> ?_⟩
 ·have hc:=h.ah b o v e;have hb:=h.EK e;cases ho:V.own b with
  |none=>have:=s.frame b hb ho;simp only[VA,this]at hc⊢;exact hc
  |some x=>
   have hp:=(d b (by rw[ho];simp)).2 o (by rw[e];simp);cases hi:V.ah b o with
   |none=>exact absurd hi hp
   |some v'=>have e1:=hV.ah b o v' hi;rw[hc]at e1;cases e1;exact s.sat.ah b o v (s.ah b o v hi)
 ·have hb:=h.lt e;have ho:V.own b=none:=by
   cases ho:V.own b with
   |none=>rfl
   |some y=>rw[(d b (by rw[ho];simp)).1]at e;cases e
  rw[s.frame b hb ho];exact h.own b x e
def dl.wX{V V' U:View}{w w':Us}{es:SO}(s:dl V w V' w' es)(h:Sat U w)(d:j5 V U)(d':j5 U V):j5 V' U/\j5 U V':=by
 have key:∀b,V'.own b≠none->V.own b≠none\/w.heap.size<=b:=by intro b hb;by_cases hlt:b<w.heap.size;(exact .inl λe=>hb (s.own b hlt e));exact .inr (by omega)
 refine⟨λb hb=> ?_,λb hb=> ?_⟩
 ·rcases key b hb with x|x
  ·refine⟨(d b x).1,λo ho=> ?_⟩;have:=(d b x).2 o ho;cases e:V.ah b o with
   |none=>exact absurd e this
   |some v=>rw[s.ah b o v e];simp
  ·have:=h.fresh x;exact⟨this.1,λo ho=>absurd (this.2 o) ho⟩
 ·have hlt:b<w.heap.size:=by
   cases e:U.own b with
   |none=>exact absurd e hb
   |some x=>exact h.lt e
  refine⟨?_,λo ho=> ?_⟩;exact s.own b hlt (d' b hb).1
  ·cases e:V'.ah b o with
   |none=>exact absurd e ho
   |some v=>rcases s.kZ b o v e with x|x|x;exact(d' b hb).2 o (by rw[x];simp);exact absurd (d' b hb).1 x;omega
def eg.wX{V V' U:View}(g:eg V V')(d:j5 V U)(d':j5 U V):j5 V' U/\j5 U V':=by
 refine⟨λb hb=> ?_,λb hb=>⟨g.own b (d' b hb).1,λo ho=> ?_⟩⟩
 ·have x:V.own b≠none:=λe=>hb (g.own b e);refine⟨(d b x).1,λo ho=> ?_⟩;cases e:V.ah b o with
  |none=>exact absurd e ((d b x).2 o ho)
  |some v=>rw[g.ah b o v e];simp
 ·cases e:V'.ah b o with
  |none=>exact absurd e ho
  |some v=>rcases g.kZ b o v e with x|x;exact(d' b hb).2 o (by rw[x];simp);exact absurd (d' b hb).1 x
def eg.rd{V V':View}(g:eg V V'):∀{l:Loc},iA V' l->iA V l
 |.cell a,h=>by
  rcases h with h|h;(exact .inl λe=>h (g.own _ e))
  ·cases e:V'.ah a.block a.off with
   |none=>exact absurd e h
   |some v=>exact(g.kZ _ _ _ e).elim (λx=> .inr (by rw[x];simp)) .inl
 |.obj _,h=>λe=>h (g.own _ e)
def eg.wr{V V':View}(g:eg V V'):∀{l:Loc},j7 V' l->j7 V l
 |.cell a,h=>⟨λe=>h.1 (g.own _ e),by
  cases e:V.ah a.block a.off with
  |none=>rfl
  |some v=>exact absurd (g.ah _ _ _ e) (by rw[h.2];simp)⟩
 |.obj _,h=>λe=>h (g.own _ e)
def iA.low{V:View}{w:Us}(h:Sat V w):∀{l:Loc},iA V l->l.low w.heap.size
 |.cell a,x=>by
  rcases x with x|x
  ·cases e:V.own a.block with
   |none=>exact absurd e x
   |some y=>exact h.lt e
  ·cases e:V.ah a.block a.off with
   |none=>exact absurd e x
   |some y=>exact h.EK e
 |.obj r,x=>by
  cases e:V.own r with
  |none=>exact absurd e x
  |some y=>exact h.lt e
def dl.rd{V V':View}{w w':Us}{es:SO}(s:dl V w V' w' es):∀{l:Loc},iA V' l->l.low w.heap.size->iA V l
 |.cell a,h,hl=>by
  have eS:a.block<w.heap.size:=hl;rcases h with h|h;(exact .inl λe=>h (s.own _ eS e))
  ·cases e:V'.ah a.block a.off with
   |none=>exact absurd e h
   |some v=>rcases s.kZ _ _ _ e with x|x|x;exact .inr (by rw[x];simp);exact .inl x;omega
 |.obj r,h,hl=>λe=>h (s.own _ hl e)
def dl.wr{V V':View}{w w':Us}{es:SO}(s:dl V w V' w' es):∀{l:Loc},j7 V' l->l.low w.heap.size->j7 V l
 |.cell a,h,hl=>⟨λe=>h.1 (s.own _ hl e),by
  cases e:V.ah a.block a.off with
  |none=>rfl
  |some v=>exact absurd (s.ah _ _ _ e) (by rw[h.2];simp)⟩
 |.obj r,h,hl=>λe=>h (s.own _ hl e)
def aiE{U V:View}(d:j5 U V)(d':j5 V U)(l:Loc):(j7 U l->¬iA V l/\¬j7 V l)/\(iA U l->¬j7 V l):=by
 cases l with
 |cell a=>refine⟨λh=> ?_,λh=> ?_⟩;have:=d _ h.1;refine⟨λx=> ?_,λx=>x.1 this.1⟩;rcases x with x|x;exact x this.1;exact this.2 _ x h.2;intro x;have:=d' _ x.1;rcases h with h|h;exact h this.1;exact this.2 _ h x.2
 |obj r=>exact⟨λh=>⟨λx=>x (d r h).1,λx=>x (d r h).1⟩,λh x=>h (d' r x).1⟩
 |_=>exact⟨λh=>h.elim,λh=>h.elim⟩
def se (c Wg:Nat):Loc->Prop
 |.cell a=>a.block=Wg
 |.obj r=>r=c
 |_=>False
structure Core (VV:Nat->View)(N:Nat)(w:Us)(t:Vj)(Sh:Loc->Prop)(act:Nat->Prop)(ic n0:Nat)(W0:Us):Prop where
 sat:∀i,i<N->Sat (VV i) w
 dV:∀i j,i<N->j<N->i≠j->j5 (VV i) (VV j)
 ti:TI t w.heap.size N (λi l=>i<N/\iA (VV i) l/\¬Sh l) (λi l=>i<N/\j7 (VV i) l/\¬Sh l) Sh act ic
 tape:w.tape=W0.tape
 os:w.os=W0.os
 out:w.output=W0.output
 old:∀b,b<n0->w.heap[b]?=W0.heap[b]?
 jJ:∀i,i<N->∀b,b<n0->(VV i).own b=none
 n0:n0<=w.heap.size
def upd {α:Type}(f:Nat->α)(i:Nat)(x:α):Nat->α:=λj=>if j=i then x else f j
def bD{α:Type}(f:Nat->α)(i:Nat)(x:α):upd f i x i=x:=by simp[upd]
def bk{α:Type}(f:Nat->α){i j:Nat}(x:α)(h:j≠i):upd f i x j=f j:=by simp[upd,h]
open Go.Conc Go.ConcN
section
variable {VV:Nat->View}{N:Nat}{w w':Us}{t:Vj}{Sh:Loc->Prop}{act:S7}{ic n0 i:Nat}{W0:Us}
def Core.draw(h:Core VV N w t Sh act ic n0 W0)(d:Nat):Core VV N (w.at d) t Sh act ic n0 W0:=
 ⟨λi hi=>⟨(h.sat i hi).ah,(h.sat i hi).own⟩,h.dV,h.ti,h.tape,h.os,h.out,h.old,h.jJ,h.n0⟩
def KZ{V:View}{B:Nat}{e:W8}(he:nQ V B e){x:ZU}(hx:(Ut e).touch?=some x):(j7 V x.loc\/(iA V x.loc/\x.write=false)\/¬x.loc.low B)/\
  (∀c,V.role.chan=some c->x.loc≠ .obj c)/\(∀Wg a,V.role.group=some Wg->x.loc=.cell a->a.block=Wg->x.kind≠ .plain):=by
 obtain⟨l,wr,s⟩:=e;cases l with
 |cell a=>
  simp only[axS,Xp,Ul]at hx;subst hx;cases wr with
  |false=>refine⟨?_,λc _=>by simp,λWg a' hr ha hb=> ?_⟩;rcases he.1 with h|h|h;exact .inr (.inr (by show ¬a.block<B;omega));exact .inr (.inl ⟨.inl h,rfl⟩);exact .inr (.inl ⟨.inr h,rfl⟩);cases ha;rcases he.2 with h|h;subst h;simp;subst hb;exact absurd hr h
  |true=>refine⟨?_,λc _=>by simp,λWg a' hr ha hb=> ?_⟩;rcases he.1 with h|h;exact .inr (.inr (by show ¬a.block<B;omega));exact .inl h;cases ha;rcases he.2 with h|h;subst h;simp;subst hb;exact absurd hr h
 |obj r=>
  obtain⟨⟨rfl,h2⟩,h3⟩:=he;have e1:Ut ⟨.obj r,wr,false⟩=.access ⟨.obj r,wr,false⟩:=by cases wr<;>rfl
  rw[e1]at hx;simp only[Xp,Ul]at hx;subst hx;refine⟨?_,λc hc e=> ?_,λWg a _ ha=>by cases ha⟩;rcases h2 with h|h;exact .inr (.inr (by show ¬r<B;omega));exact .inl h;cases e;exact h3 hc
 |mark m=>
  have e1:Ut ⟨.mark m,wr,s⟩=.mark m:=by cases wr<;>cases s<;>rfl
  rw[e1]at hx;cases m<;>simp only[Xp,Ul,reduceCtorEq]at hx
  all_goals
   subst hx;refine⟨?_,λc _=>by simp,λWg a' _ _ _=>by simp⟩;have kE:nf V B _:=he;rcases kE with h|h;exact .inr (.inr (by simp only[Loc.low];omega));exact .inl h
 |_=>exact he.elim
def Core.RZ(h:Core VV N w t Sh act ic n0 W0)(l:Loc){i j:Nat}(hi:i<N)(hj:j≠i):
  ((i<N/\j7 (VV i) l/\¬Sh l)->¬(j<N/\iA (VV j) l/\¬Sh l)/\¬(j<N/\j7 (VV j) l/\¬Sh l))/\((i<N/\iA (VV i) l/\¬Sh l)->¬(j<N/\j7 (VV j) l/\¬Sh l)):=by
 by_cases Ed:j<N;have:=aiE (h.dV i j hi Ed (Ne.symm hj)) (h.dV j i Ed hi hj) l;exact⟨λ⟨_,x,_⟩=>⟨λ⟨_,y,_⟩=>(this.1 x).1 y,λ⟨_,y,_⟩=>(this.1 x).2 y⟩,λ⟨_,x,_⟩ ⟨_,y,_⟩=>this.2 x y⟩;exact⟨λ_=>⟨λ⟨y,_⟩=>Ed y,λ⟨y,_⟩=>Ed y⟩,λ_ ⟨y,_⟩=>Ed y⟩
def Core.step(h:Core VV N w t Sh act ic n0 W0)(hi:i<N){V':View}{es:SO}(s:dl (VV i) w V' w' es)
  (dD:∀e∈es,∀x,(Ut e).touch?=some x->Sh x.loc->(x.kind=.atomic/\act i)\/(x.kind=.said/\i=ic/\act i)) (fn:UR) (pos:String):
  Core (upd VV i V') N w' (t++Uf i fn pos es) Sh act ic n0 W0 where
 sat j hj:=by by_cases cF:j=i;subst cF;rw[bD];exact s.sat;rw[bk _ _ cF];exact s.others (h.sat i hi) (h.sat j hj) (h.dV i j hi hj (Ne.symm cF))
 dV a b ha hb im:=by by_cases nw:a=i;subst nw;have xd:b≠a:=Ne.symm im;rw[bD,bk _ _ xd];exact(s.wX (h.sat b hb) (h.dV a b ha hb im) (h.dV b a hb ha xd)).1;by_cases dA:b=i;subst dA;rw[bD,bk _ _ nw];exact(s.wX (h.sat a ha) (h.dV b a hb ha (Ne.symm im)) (h.dV a b ha hb im)).2;rw[bk _ _ nw,bk _ _ dA];exact h.dV a b ha hb im
 ti:=by
  refine h.ti.app hi (λop aB=>by obtain⟨e,_,rfl⟩:=UO aB;rfl) (λop aB x hx=> ?_) (λop aB=>by obtain⟨e,he,rfl⟩:=UO aB;exact s.low e he) s.size (λop aB a=> ?_)
   (λj l hj ⟨x,y⟩=>by rw[bk _ _ hj]at y;exact⟨x,y⟩) (λj l hj ⟨x,y⟩=>by rw[bk _ _ hj]at y;exact⟨x,y⟩)
   (λl ⟨x,y,z⟩ hl=>by rw[bD]at y;exact .inl ⟨x,s.rd y hl,z⟩) (λl ⟨x,y,z⟩ hl=>by rw[bD]at y;exact⟨x,s.wr y hl,z⟩)
   (λl j hj=>h.RZ l hi hj) (λl j hs=>⟨λx=>x.2.2 hs,λx=>x.2.2 hs⟩) (λj l x=>x.elim (λy=>iA.low (h.sat j y.1) y.2.1) (λy=>iA.low (h.sat j y.1) y.2.1.rd))
  ·obtain⟨e,he,rfl⟩:=UO aB;by_cases hs:Sh x.loc;rcases dD e he x hx hs with⟨a,b⟩|⟨a,b,c⟩;exact .inl ⟨hs,a,b⟩;exact .inr (.inl ⟨hs,a,b,c⟩);refine .inr (.inr ⟨hs,?_⟩);rcases(KZ (s.fJ e he) hx).1 with x'|⟨x',y⟩|x';exact .inl ⟨hi,x',hs⟩;exact .inr (.inl ⟨⟨hi,x',hs⟩,y⟩);exact .inr (.inr x')
  ·obtain⟨e,he,rfl⟩:=UO aB;intro e';have hk:=s.fJ e he;obtain⟨l,wr,sy⟩:=e;cases l with
   |mark m=>have e1:Ut ⟨.mark m,wr,sy⟩=.mark m:=(by cases wr<;>cases sy<;>rfl);simp only[e1,axG]at e';subst e';exact hk
   |cell a'=>simp[axS]at e'
   |obj r=>cases wr<;>cases sy<;>simp[Ut]at e'
   |_=>exact hk
 tape:=s.tape.trans h.tape
 os:=s.os.trans h.os
 out:=s.output.trans h.out
 old b hb:=(s.frame b (Ug hb h.n0) (h.jJ i hi b hb)).trans (h.old b hb)
 jJ j hj b hb:=by by_cases cF:j=i;subst cF;rw[bD];exact s.own b (Ug hb h.n0) (h.jJ j hj b hb);rw[bk _ _ cF];exact h.jJ j hj b hb
 n0:=UJ h.n0 s.size
def Core.ghost(h:Core VV N w t Sh act ic n0 W0)(hi:i<N){V':View}(g:eg (VV i) V'):Core (upd VV i V') N w t Sh act ic n0 W0 where
 sat j hj:=by by_cases cF:j=i;subst cF;rw[bD];exact g.sat _ (h.sat j hj);rw[bk _ _ cF];exact h.sat j hj
 dV a b ha hb im:=by by_cases nw:a=i;subst nw;have xd:b≠a:=Ne.symm im;rw[bD,bk _ _ xd];exact(g.wX (h.dV a b ha hb im) (h.dV b a hb ha xd)).1;by_cases dA:b=i;subst dA;rw[bD,bk _ _ nw];exact(g.wX (h.dV b a hb ha (Ne.symm im)) (h.dV a b ha hb im)).2;rw[bk _ _ nw,bk _ _ dA];exact h.dV a b ha hb im
 ti:=h.ti.weaken (Tv _) (λj l _ ⟨x,y,z⟩=>by
   by_cases cF:j=i;subst cF;rw[bD]at y;exact .inl ⟨x,g.rd y,z⟩
   ·rw[bk _ _ cF]at y;exact .inl ⟨x,y,z⟩) (λj l _ ⟨x,y,z⟩=>by
   by_cases cF:j=i;subst cF;rw[bD]at y;exact⟨x,g.wr y,z⟩
   ·rw[bk _ _ cF]at y;exact⟨x,y,z⟩) h.ti.sp
 tape:=h.tape
 os:=h.os
 out:=h.out
 old:=h.old
 jJ j hj b hb:=by by_cases cF:j=i;subst cF;rw[bD];exact g.own b (h.jJ j hj b hb);rw[bk _ _ cF];exact h.jJ j hj b hb
 n0:=h.n0
def nd (V' V:View):Prop:=(∀b,V'.own b=none\/V'.own b=V.own b)/\(∀b o,V'.ah b o=none\/V'.ah b o=V.ah b o)/\(∀b,V'.own b≠none->∀o,V'.ah b o=V.ah b o)
def nd.sat{V V':View}(l:nd V' V){w:Us}(h:Sat V w):Sat V' w:=
 ⟨λb o v e=>h.ah b o v (by rcases l.2.1 b o with x|x<;>rw[x]at e;cases e;exact e),λb x e=>h.own b x (by rcases l.1 b with y|y<;>rw[y]at e;cases e;exact e)⟩
def nd.rd{V V':View}(k:nd V' V):∀{l:Loc},iA V' l->iA V l
 |.cell a,h=>h.imp (λx y=>by rcases k.1 a.block with z|z;exact x z;exact x (z.trans y)) (λx y=>by rcases k.2.1 a.block a.off with z|z;exact x z;exact x (z.trans y))
 |.obj r,h=>λy=>by rcases k.1 r with z|z;exact h z;exact h (z.trans y)
def nd.wr{V V':View}(k:nd V' V):∀{l:Loc},j7 V' l->j7 V l
 |.cell a,h=>⟨λy=>by rcases k.1 a.block with z|z;exact h.1 z;exact h.1 (z.trans y),by rw[<- k.2.2 _ h.1];exact h.2⟩
 |.obj r,h=>λy=>by rcases k.1 r with z|z;exact h z;exact h (z.trans y)
def nd.wX{V V' U:View}(k:nd V' V)(d:j5 V U)(d':j5 U V):j5 V' U/\j5 U V':=by
 refine⟨λb hb=> ?_,λb hb=>⟨?_,λo ho=> ?_⟩⟩
 ·have x:V.own b≠none:=λy=>by rcases k.1 b with z|z;exact hb z;exact hb (z.trans y)
  exact⟨(d b x).1,λo ho=>by rw[k.2.2 b hb];exact(d b x).2 o ho⟩
 ·rcases k.1 b with z|z;exact z;exact z.trans (d' b hb).1
 ·exact(d' b hb).2 o λy=>by rcases k.2.1 b o with z|z;exact ho z;exact ho (z.trans y)
def Core.less(h:Core VV N w t Sh act ic n0 W0)(hi:i<N){V':View}(k:nd V' (VV i)):Core (upd VV i V') N w t Sh act ic n0 W0 where
 sat j hj:=by by_cases cF:j=i;subst cF;rw[bD];exact k.sat (h.sat j hj);rw[bk _ _ cF];exact h.sat j hj
 dV a b ha hb im:=by by_cases nw:a=i;subst nw;have xd:b≠a:=Ne.symm im;rw[bD,bk _ _ xd];exact(k.wX (h.dV a b ha hb im) (h.dV b a hb ha xd)).1;by_cases dA:b=i;subst dA;rw[bD,bk _ _ nw];exact(k.wX (h.dV b a hb ha (Ne.symm im)) (h.dV a b ha hb im)).2;rw[bk _ _ nw,bk _ _ dA];exact h.dV a b ha hb im
 ti:=h.ti.weaken (Tv _) (λj l _ ⟨x,y,z⟩=>by
   by_cases cF:j=i;subst cF;rw[bD]at y;exact .inl ⟨x,k.rd y,z⟩
   ·rw[bk _ _ cF]at y;exact .inl ⟨x,y,z⟩) (λj l _ ⟨x,y,z⟩=>by
   by_cases cF:j=i;subst cF;rw[bD]at y;exact⟨x,k.wr y,z⟩
   ·rw[bk _ _ cF]at y;exact⟨x,y,z⟩) h.ti.sp
 tape:=h.tape
 os:=h.os
 out:=h.out
 old:=h.old
 jJ j hj b hb:=by by_cases cF:j=i;subst cF;rw[bD];rcases k.1 b with z|z;exact z;exact z.trans (h.jJ j hj b hb);rw[bk _ _ cF];exact h.jJ j hj b hb
 n0:=h.n0
def Core.uL(h:Core VV N w t Sh act ic n0 W0)(hi:i<N){es:SO}(cw:∀e∈es,∀x,(Ut e).touch?=some x->Fit w.heap.size (λi l=>i<N/\iA (VV i) l/\¬Sh l) (λi l=>i<N/\j7 (VV i) l/\¬Sh l) Sh act ic i x)
  (iP:∀e∈es,(Ut e).low w.heap.size) (sL:∀e∈es,∀a,Ut e≠ .mark (.release a)) (SB:S7) (qy:∀b,SB b->n0<=b/\∀j,j<N->(VV j).own b=none/\∀o,(VV j).ah b o=none)
  (a_:w'.heap.size=w.heap.size) (jD:∀b,¬SB b->w'.heap[b]?=w.heap[b]?) (ht:w'.tape=w.tape) (ho:w'.os=w.os) (hu:w'.output=w.output) (fn:UR) (pos:String):
  Core VV N w' (t++Uf i fn pos es) Sh act ic n0 W0 where
 sat j hj:=by have hs:=h.sat j hj;refine⟨λb o v e=> ?_,λb x e=> ?_⟩;(have hb:¬SB b:=λx=>(by rw[((qy b x).2 j hj).2 o]at e;cases e);have:=hs.ah b o v e;simp only[VA,jD b hb];exact this);(have hb:¬SB b:=λy=>(by rw[((qy b y).2 j hj).1]at e;cases e);rw[jD b hb];exact hs.own b x e)
 dV:=h.dV
 ti:=by
  rw[a_];refine h.ti.app hi (λop aB=>by obtain⟨e,_,rfl⟩:=UO aB;rfl) (λop aB x hx=>by obtain⟨e,he,rfl⟩:=UO aB;exact cw e he x hx) (λop aB=>by obtain⟨e,he,rfl⟩:=UO aB;exact iP e he) (Tv _) (λop aB a=>by obtain⟨e,he,rfl⟩:=UO aB;exact sL e he a)
   (λj l _ x=>x) (λj l _ x=>x) (λl x _=> .inl x) (λl x _=>x) (λl j hj=>h.RZ l hi hj) (λl j hs=>⟨λx=>x.2.2 hs,λx=>x.2.2 hs⟩) (λj l x=>x.elim (λy=>iA.low (h.sat j y.1) y.2.1) (λy=>iA.low (h.sat j y.1) y.2.1.rd))
 tape:=ht.trans h.tape
 os:=ho.trans h.os
 out:=hu.trans h.out
 old b hb:=(jD b (λx=>by have:=(qy b x).1;omega)).trans (h.old b hb)
 jJ:=h.jJ
 n0:=by rw[a_];exact h.n0
def Core.quiet(h:Core VV N w t Sh act ic n0 W0)(hi:i<N){es:SO}(Mu:∀e∈es,(Ut e).touch?=none/\(Ut e).low w.heap.size/\∀a,Ut e≠ .mark (.release a))(fn:UR)(pos:String):
  Core VV N w (t++Uf i fn pos es) Sh act ic n0 W0:=
 h.uL hi (λe he x hx=>by rw[(Mu e he).1]at hx;cases hx) (λe he=>(Mu e he).2.1) (λe he=>(Mu e he).2.2) (λ_=>False) (λb x=>x.elim) rfl (λ_ _=>rfl) rfl rfl rfl fn pos
def Core.role(h:Core VV N w t Sh act ic n0 W0)(hi:i<N){V':View}(h1:V'.ah=(VV i).ah)(h2:V'.own=(VV i).own):Core (upd VV i V') N w t Sh act ic n0 W0:=
 h.less hi ⟨λb=> .inr (by rw[h2]),λb o=> .inr (by rw[h1]),λb _ o=>by rw[h1]⟩
end
open Go.Conc Go.ConcN
inductive GS where
 |gone (q:Nat)
 |work (j:Nat) (h:Ht) (V:View)
 |oN (j:Nat) (h:Ht) (V V':View) (g0:Ti) (v z:T9)
 |add (n:Nat)
 |load (n:Nat)
 |store (n:Nat)
 |mX (n:Nat)
 |head (k n:Nat)
 |mE (v n:Nat)
 |said (n:Nat)
 |iL (n:Nat)
 |last (n:Nat)
 |acq (n:Nat)
 |look (n:Nat)
 |close (n:Nat)
def noView:View:={ah:=λ_ _=>none,own:=λ_=>none,deaf:=0,role:=.plain}
def GS.view (Im:cC):GS->View
 |.work _ _ V=>V
 |.oN _ _ V _ _ _ _=>V
 |.head .. |.mE .. |.said _|.iL _|.last _|.acq _|.look _=>{noView with ah:=Im}
 |_=>noView
def GS.cnt:GS->Nat
 |.work .. |.oN .. |.add _=>1
 |_=>0
def GS.late:GS->Nat
 |.load _|.store _|.mX _=>1
 |_=>0
def GS.idx:GS->Option Nat
 |.work j _ _=>some j
 |.oN j _ _ _ _ _ _=>some j
 |_=>none
def GS.shape:GS->GS
 |.gone _=> .gone 0
 |.work j _ _=> .work j .z noView
 |.oN j _ _ _ _ _ _=> .work j .z noView
 |.add _=> .add 0
 |.load _=> .load 0
 |.store _=> .store 0
 |.mX _=> .mX 0
 |.head k _=> .head k 0
 |.mE v _=> .mE v 0
 |.said _=> .said 0
 |.iL _=> .iL 0
 |.last _=> .last 0
 |.acq _=> .acq 0
 |.look _=> .look 0
 |.close _=> .close 0
def GS.oc:∀K:GS,K.shape.cnt=K.cnt:=by intro K;cases K<;>rfl
def GS.mT:∀K:GS,K.shape.late=K.late:=by intro K;cases K<;>rfl
def GS.Ie:∀K:GS,K.shape.idx=K.idx:=by intro K;cases K<;>rfl
def GS.n_:GS->Bool
 |.head .. |.mE .. |.said _|.iL _|.last _|.acq _|.look _|.close _=>true
 |_=>false
def GS.Rf:∀K:GS,K.shape.n_=K.n_:=by intro K;cases K<;>rfl
def GS.dh:GS->Az
 |.gone q=>⟨0,.z,q⟩
 |.work _ h V=>⟨11+2* (match V.role with|.work _ _ S=>S.length|_=>0),h,0⟩
 |.oN _ h V _ _ _ _=>⟨10+2* (match V.role with|.work _ _ S=>S.length|_=>0),h,0⟩
 |.add n=>⟨8,.z,n⟩
 |.load n=>⟨7,.z,n⟩
 |.store n=>⟨6,.z,n⟩
 |.mX n=>⟨5,.z,n⟩
 |.head k n=>⟨100+3* k,.z,n⟩
 |.mE v n=>⟨102+3* v,.z,n⟩
 |.said n=>⟨60,.z,n⟩
 |.iL n=>⟨50,.z,n⟩
 |.last n=>⟨40,.z,n⟩
 |.acq n=>⟨30,.z,n⟩
 |.look n=>⟨20,.z,n⟩
 |.close n=>⟨15,.z,n⟩
section
variable (P:Tl)(c Wg:Nat)(Im:cC)(Ss:TB)
def FT (v d:Nat)(g:Ti):Prop:=d=1/\g.status=.running/\
 (∃g',(∀w,WgAt P Wg w ((v:Int)* KK) 0->stepG P false g w=.go g' (w.setCell (eo Wg) (.int .u64 ((v:Int)* KK+1))) #[jx (eo Wg),lA (eo Wg)])/\∃n,iJ P Wg (FU P Im c Wg) n 1 g')/\
 (∀u:Nat,u<v->∃g',(∀w,WgAt P Wg w ((u:Int)* KK) 0->stepG P false g w=.go g' w #[jx (eo Wg)])/\∃n,cZ P (eY P Im c Wg v) n 1 g')
def eY.succ{k d:Nat}{g:Ti}(h:eY P Im c Wg (k+1) d g):d=1/\g.status=.running/\∀v:Nat,v<=k->v<=4->∃g',(∀w,WgAt P Wg w ((v:Int)* KK) 0->stepG P false g w=.go g' w #[jx (eo Wg)])/\
  (v=0->∃n,iJ P Wg (uT P Im c Wg) n 1 g')/\(v≠0->∃n,cZ P (FT P c Wg Im v) n 1 g'):=by
 rw[eY]at h;exact h
def eY.zero{d:Nat}{g:Ti}(h:eY P Im c Wg 0 d g):False:=by rw[eY]at h;exact h
def GS.is:GS->Nat->Ti->Prop
 |.gone q,d,g=>Y5 P q d g
 |.work j h V,d,g=>d=V.deaf/\l6 P h V g/\∃S,Ss[j]?=some S/\V.role=.work c Wg S
 |.oN j h V V' g0 v z,d,g=>d=0/\V.deaf=0/\g=parked g0 #[scase c v z] .send/\l6 P h V' (UY g0 undef)/\∃sp S,∃B:Nat->Bool,Ss[j]?=some (sp::S)/\V.role=.work c Wg (sp::S)/\
   sp v V.ah (λb=>if B b then V.own b else none)/\V'={V with own:=λb=>if B b then none else V.own b,role:=.work c Wg S}
 |.add n,d,g=>cZ P (CF P Wg) n d g
 |.load n,d,g=>cZ P (FW P Wg) n d g
 |.store n,d,g=>cZ P (FY P Wg) n d g
 |.mX n,d,g=>cZ P (FX P Wg) n d g
 |.head k n,d,g=>cZ P (eY P Im c Wg k) n d g
 |.mE v n,d,g=>cZ P (FT P c Wg Im v) n d g
 |.said n,d,g=>iJ P Wg (FU P Im c Wg) n d g
 |.iL n,d,g=>cZ P (FV P Im c Wg) n d g\/(n=0/\∃g1,g={g1 with status:=.blocked}/\FV P Im c Wg d g1)
 |.last n,d,g=>cZ P (JJ P Im c Wg) n d g
 |.acq n,d,g=>iJ P Wg (uT P Im c Wg) n d g
 |.look n,d,g=>cZ P (JK P Im c) n d g
 |.close n,d,g=>cZ P (JI P c) n d g
end
def cZ.running{P:Tl}{Stop:S0}(hs:∀d g,Stop d g->g.status=.running):∀{n d:Nat}{g:Ti},cZ P Stop n d g->g.status=.running
 |0,_,_,h=>hs _ _ h
 |_+1,_,_,h=>h.elim (hs _ _) (λx=>x.1)
def iJ.running{P:Tl}{Wg:Nat}{Stop:S0}(hs:∀d g,Stop d g->g.status=.running):∀{n d:Nat}{g:Ti},iJ P Wg Stop n d g->g.status=.running
 |0,_,_,h=>hs _ _ h
 |_+1,_,_,h=>h.elim (hs _ _) (λx=>x.1)
def aa5{P:Tl}{Im:cC}{c Wg:Nat}:∀{k d:Nat}{g:Ti},eY P Im c Wg k d g->g.status=.running
 |0,_,_,h=>(eY.zero P c Wg Im h).elim
 |_+1,_,_,h=>(eY.succ P c Wg Im h).2.1
def GS.runs{P:Tl}{c Wg:Nat}{Im:cC}{Ss:TB}{K:GS}{d:Nat}{g:Ti}(h:K.is P c Wg Im Ss d g):
  g.status=.running\/g.status=.finished/\(∃q,K=.gone q)\/(∃j h V V' g0 v z,K=.oN j h V V' g0 v z)\/((∃n,K=.iL n)/\g.status=.blocked/\g.offers=none):=by
 cases K with
 |gone q=>exact(Zn h).elim .inl (λx=> .inr (.inl ⟨x,q,rfl⟩))
 |work j h' V=>exact .inl h.2.1.running
 |oN j h' V V' g0 v z=>exact .inr (.inr (.inl ⟨j,h',V,V',g0,v,z,rfl⟩))
 |add n=>exact .inl (cZ.running (λd g x=>x.2.1) h)
 |load n=>exact .inl (cZ.running (λd g x=>x.2.1) h)
 |store n=>exact .inl (cZ.running (λd g x=>x.2.1) h)
 |mX n=>exact .inl (cZ.running (λd g x=>x.2.1) h)
 |head k n=>exact .inl (cZ.running (λd g x=>aa5 x) h)
 |mE v n=>exact .inl (cZ.running (λd g x=>x.2.1) h)
 |said n=>exact .inl (iJ.running (λd g x=>x.2.1) h)
 |iL n=>rcases h with h|⟨_,g1,rfl,h⟩;exact .inl (cZ.running (λd g x=>x.2.1) h);exact .inr (.inr (.inr ⟨⟨n,rfl⟩,rfl,h.2.2.1⟩))
 |last n=>exact .inl (cZ.running (λd g x=>x.2.1) h)
 |acq n=>exact .inl (iJ.running (λd g x=>x.2.1) h)
 |look n=>exact .inl (cZ.running (λd g x=>x.2.1) h)
 |close n=>exact .inl (cZ.running (λd g x=>x.2.1) h)
structure Rel (Wg:Nat)(t:Vj)(i r:Nat):Prop where
 act:t.act? r=some (.mark (.releaseMerge (eo Wg)))
 g:t.g? r=some i
 heard:t.heard r
def Rel.app{Wg:Nat}{t u:Vj}{i r:Nat}(h:Rel Wg t i r):Rel Wg (t++u) i r:=
 have hr:=Xo h.act
 ⟨by rw[Zi hr];exact h.act,by rw[ayj hr];exact h.g,(Xb hr).2 h.heard⟩
inductive eE where
 |early
 |got
 |shut (p:Nat)
 deriving DecidableEq
def yd (Wg:Nat)(t:Vj)(K:Nat->GS)(ic:Nat):eE->Nat->Prop
 |.early,idx=>∃i,t.g? idx=some i/\0<i/\(((K i).idx.isSome=true)\/(i=ic)\/∃r,Rel Wg t i r/\idx<=r)
 |.got,idx=>Xe t ic idx
 |.shut p,idx=>Before t idx p
abbrev TJ:=Option eE
def Rest (Wg:Nat)(t:Vj)(K:Nat->GS)(ic:Nat)(st:TJ):Prop:=
 ∀idx a,touchAt t idx=some a->a.loc.isMemory=true->Xe t 0 idx\/(a.kind=.atomic/\¬t.heard idx)\/∃s,st=some s/\yd Wg t K ic s idx
abbrev SR:=Array Ti
def Mode (P:Tl)(c Wg N:Nat)(w:Us)(gs:SR)(t:Vj)(K:Nat->GS)(ic:Nat)(s:eE):Prop:=
 let cn:Nat:=sumTo N λi=>(K i).cnt;let la:Nat:=sumTo N λi=>(K i).late;let opn:=∃n,w.heap[c]?=some (.chan 0 #[] false n n false)
 (opn/\s=.early/\la=0/\cn<=4/\WgAt P Wg w ((cn:Int)* KK) 0/\((∃k,(K ic).shape=.head k 0/\cn<k)\/(∃v,(K ic).shape=.mE v 0/\cn<=v/\0<v)))\/
 (opn/\s=.early/\la=0/\1<=cn/\cn<=4/\WgAt P Wg w ((cn:Int)* KK+1) 0/\((K ic).shape=.said 0\/(K ic).shape=.iL 0))\/
 (opn/\s=.early/\la=1/\cn=0/\((K ic).shape=.said 0\/(K ic).shape=.iL 0)/\(∀i,i<N->((K i).shape=.load 0\/(K i).shape=.store 0)->WgAt P Wg w 1 0)/\(∀i,i<N->(K i).shape=.mX 0->WgAt P Wg w 0 0))\/
 (opn/\s=.early/\la=0/\cn=0/\WgAt P Wg w 0 1/\(∀g,gs[ic]?=some g->g.status=.running)/\((K ic).shape=.said 0\/(K ic).shape=.iL 0))\/
 (opn/\s=.early/\la=0/\cn=0/\WgAt P Wg w 0 0/\((K ic).shape=.last 0\/(K ic).shape=.acq 0))\/
 (opn/\s=.got/\la=0/\cn=0/\((K ic).shape=.look 0\/(K ic).shape=.close 0))\/
 ((∃p n,s=.shut p/\t.act? p=some (.close c)/\t.heard p/\w.heap[c]?=some (.chan 0 #[] true n n false))/\la=0/\cn=0/\(K ic).shape=.gone 0)
def kP (gs:SR)(g:Ti):Prop:=∃g0,gs[0]?=some g0/\g0.status=.running/\g0.frame=g.frame/\g0.callers=g.callers/\g0.dying=g.dying
def oV (gs:SR)(g:Ti)(c:Nat):Prop:=∃g0 z,gs[0]?=some (parked g0 #[rcase c z] (.recv true))/\g0.frame=g.frame/\g0.callers=g.callers/\g0.dying=g.dying
structure Phase where
 c:Nat
 Wg:Nat
 Ss:List (List Spec)
 recv:Bool
def bK (V:View)(Im:cC)(K:Nat->GS):Nat->View:=λi=>if i=0 then V else(K i).view Im
structure Inv (P:Tl)(n0:Nat)(W0:Us)(V:View)(gs:Array Ti)(w:Us)(t:Vj)(K:Nat->GS)(Im:cC)(ic:Nat)(ph:Option Phase)(st:Option eE):Prop where
 pos:0<gs.size
 k0:K 0=.gone 0
 d0:VS t 0=V.deaf
 «is» : ∀ i g, 0 < i -> gs[i]? = some g -> match ph with
  |some p=>(K i).is P p.c p.Wg Im p.Ss (VS t i) g
  |none=>∃q,K i=.gone q/\Y5 P q (VS t i) g
 core:Core (bK V Im K) gs.size w t (match ph with|some p=>se p.c p.Wg|none=>λ_=>False)
  (λi=>match ph with|some p=>if p.recv then 0<i/\i<gs.size/\((K i).idx.isSome=true\/i=ic\/(K i).cnt=1\/(K i).late=1)else i=0\/(i<gs.size/\(K i).idx.isSome=true)|none=>False) ic n0 W0
 rest:Rest (match ph with|some p=>p.Wg|none=>0) t K ic st
 phase:match ph with
  |none=>st=none
  |some p=>n0<=p.c/\n0<=p.Wg/\p.c≠p.Wg/\p.c<w.heap.size/\p.Wg<w.heap.size/\p.Ss.length<=4/\
   (∀i,0<i->((K i).view Im).own p.c=none/\(∀o,((K i).view Im).ah p.c o=none)/\((K i).view Im).own p.Wg=none/\(∀o,((K i).view Im).ah p.Wg o=none)/\((K i).n_=true->i=ic))/\
   (∀i i' j,0<i->i<gs.size->0<i'->i'<gs.size->(K i).idx=some j->(K i').idx=some j->i=i')/\
   (∀j S,p.Ss[j]?=some S->S≠[]->∃i,0<i/\i<gs.size/\(K i).idx=some j)/\
   (if p.recv then(V.own p.c=none/\(∀o,V.ah p.c o=none)/\V.own p.Wg=none/\(∀o,V.ah p.Wg o=none))/\0<ic/\ic<gs.size/\(∃s,st=some s/\Mode P p.c p.Wg gs.size w gs t K ic s)
    else V.own p.c=some (.chan 0 #[] false 0 0 false)/\ic=0/\st=some .early/\(∀i,0<i->i<gs.size->(K i).idx.isSome=true\/∃q,K i=.gone q)/\(∀S∈p.Ss,S≠[])/\(sumTo gs.size λi=>(K i).cnt)=p.Ss.length)
open Go.Conc Go.ConcN
def Cp(K:Nat->GS)(k:GS)(φ:GS->Nat){i N:Nat}(hi:i<N):sumTo N (λa=>φ (upd K i k a))+φ (K i)=sumTo N (λa=>φ (K a))+φ k:=sumTo_upd K k φ hi
def lV(K:Nat->GS)(k:GS)(φ:GS->Nat){i N:Nat}(h:φ k=φ (K i)):sumTo N (λa=>φ (upd K i k a))=sumTo N (λa=>φ (K a)):=
 Wm λa _=>by by_cases ha:a=i;subst ha;rw[bD,h];rw[bk _ _ ha]
def Core.C7{VV:Nat->View}{N:Nat}{w:Us}{t:Vj}{Sh:Loc->Prop}{act act':S7}{ic n0:Nat}{W0:Us}(h:Core VV N w t Sh act ic n0 W0)(ha:∀i,act' i->act i):Core VV N w t Sh act' ic n0 W0:=
 ⟨h.sat,h.dV,h.ti.weaken (Tv _) (λ_ _ _ x=> .inl x) (λ_ _ _ x=>x) (λidx a x y=>⟨λhp i hi=>(h.ti.sp idx a x y).1 hp i (ha i hi),(h.ti.sp idx a x y).2⟩),h.tape,h.os,h.out,h.old,h.jJ,h.n0⟩
def Core.congr{VV F9:Nat->View}{N:Nat}{w:Us}{t:Vj}{Sh:Loc->Prop}{act:S7}{ic n0:Nat}{W0:Us}(h:Core VV N w t Sh act ic n0 W0)(e:∀i,i<N->F9 i=VV i):Core F9 N w t Sh act ic n0 W0:=
 ⟨λi hi=>by rw[e i hi];exact h.sat i hi,λi j hi hj kF=>by rw[e i hi,e j hj];exact h.dV i j hi hj kF,
  h.ti.weaken (Tv _) (λi l hi ⟨x,y,z⟩=> .inl ⟨x,by rw[<- e i hi];exact y,z⟩) (λi l hi ⟨x,y,z⟩=>⟨x,by rw[<- e i hi];exact y,z⟩) h.ti.sp,h.tape,h.os,h.out,h.old,λi hi b hb=>by rw[e i hi];exact h.jJ i hi b hb,h.n0⟩
def PN(V:View)(Im:cC)(K:Nat->GS){i:Nat}(hi:0<i)(k:GS):bK V Im (upd K i k)=upd (bK V Im K) i (k.view Im):=by funext j;by_cases hj:j=i;subst hj;rw[bD];simp[bK,bD];omega;rw[bk _ _ hj];simp[bK,bk _ _ hj]
def ab4{P:Tl}{c Wg:Nat}{Im:cC}{Ss:TB}{k:GS}{d:Nat}{x g g':Ti}{w':Us}(ho:(∃n,w'.heap[c]?=some (.chan 0 #[] false n n false))\/k.idx=none)(h:k.is P c Wg Im Ss d x):
  k.is P c Wg Im Ss d (woken P g g' w' x):=by
 rcases GS.runs h with hr|⟨hf,q,rfl⟩|⟨j,h',V,V',g0,v,z,rfl⟩|⟨⟨n,rfl⟩,hb,hof⟩;rw[Yj hr];exact h;rw[an' h];exact h;rcases ho with⟨n,ho⟩|ho;obtain⟨h1,h2,rfl,h4⟩:=h;rw[woken_send_open _ _ ho];exact⟨h1,h2,rfl,h4⟩;cases ho
 ·rcases h with h|⟨hn,g1,rfl,h⟩;rw[cZ.running (λd g x=>x.2.1) h]at hb;cases hb
  ·unfold woken;split
   ·subst hn;refine .inl ?_;have e:({g1 with status:=ax_}:Ti).again w'=g1:=by obtain⟨f,cs,s,dy,o⟩:=g1;have h2:=h.2.1;have h3:=h.2.2.1;simp only at h2 h3;subst h2 h3;rfl
    rw[e];exact h
   ·exact .inr ⟨hn,g1,rfl,h⟩
def Ot{P:Tl}{gs:SR}{g:Ti}{w':Us}{i:Nat}{gi bH:Ti}(hi:0<i)(h:kP gs g):kP ((gs.map (woken P gi bH w')).setIfInBounds i bH) g:=by obtain⟨g0,h0,h1,h2⟩:=h;exact⟨g0,by rw[Tx (by omega),XI,h0];simp[Yj h1],h1,h2⟩
def OQ{P:Tl}{gs:SR}{g:Ti}{w':Us}{i c:Nat}{gi bH:Ti}(hi:0<i)(h:oV gs g c)(ho:∃n,w'.heap[c]?=some (.chan 0 #[] false n n false)):oV ((gs.map (woken P gi bH w')).setIfInBounds i bH) g c:=by obtain⟨g0,z,h0,h2⟩:=h;obtain⟨n,ho⟩:=ho;exact⟨g0,z,by rw[Tx (by omega),XI,h0];simp[woken_recv_open _ _ ho],h2⟩
def aqE{P:Tl}{gs:SR}{g:Ti}{w':Us}{i c:Nat}{gi bH:Ti}(hi:0<i)(h:oV gs g c)(hw:mayWake P gi=true)(hs:bH.status=.running\/bH.status=.finished)(ho:∃n,w'.heap[c]?=some (.chan 0 #[] true n n false)):
  kP ((gs.map (woken P gi bH w')).setIfInBounds i bH) g:=by
 obtain⟨g0,z,h0,h2⟩:=h;obtain⟨n,ho⟩:=ho;refine⟨{parked g0 #[rcase c z] (.recv true)with status:=.running},?_,rfl,h2⟩;rw[Tx (by omega),XI,h0];have:woken P gi bH w' (parked g0 #[rcase c z] (.recv true))={parked g0 #[rcase c z] (.recv true)with status:=.running}:=by
  unfold woken;have hc:(mayWake P gi&&bH.status != .blocked&&bH.status != .waiting)=true:=by rcases hs with hs|hs<;>simp[hw,hs]
  rw[if_pos hc,again_recv_closed ho]
 simp[this]
def Ax (w:Us)(c:Nat):Prop:=∃n,w.heap[c]?=some (.chan 0 #[] false n n false)
def JW (gs gs':SR)(w w':Us)(g:Ti)(c:Nat):Prop:=(kP gs g->kP gs' g)/\(oV gs g c->Ax w c->kP gs' g\/(oV gs' g c/\Ax w' c))
def Calm (gs:SR):Prop:=∀i x,0<i->gs[i]?=some x->x.status=.blocked->x.offers=none
def flag (gs:SR)(ic:Nat):Nat:=if(gs[ic]?).any (·.status== .running)then 1 else 0
def jv (p:Phase)(N ic:Nat)(K:Nat->GS)(i:Nat):Prop:=if p.recv then 0<i/\i<N/\((K i).idx.isSome=true\/i=ic\/(K i).cnt=1\/(K i).late=1)else i=0\/(i<N/\(K i).idx.isSome=true)
section
abbrev TC:=Option Phase
variable {P:Tl}{n0:Nat}{W0:Us}{V:View}{gs:SR}{w:Us}{t:Vj}{K:Nat->GS}{Im:cC}{ic:Nat}{ph:TC}{st:TJ}
structure ie (P:Tl)(n0:Nat)(W0:Us)(V:View)(gs:Array Ti)(w:Us)(sl:Option (Nat×Nat))(t:Vj)(K:Nat->GS)(Im:cC)(ic:Nat)(ph:Option Phase)(st:Option eE)(i:Nat):Prop where
 intro::
 awR:∃gs' w' ops K' st',runT P (crowd gs w sl) i=(.next (crowd gs' w' sl),ops)/\gs'.size=gs.size/\Inv P n0 W0 V gs' w' (t++ops) K' Im ic ph st'/\(∀g c,(∀p,ph=some p->p.c=c)->JW gs gs' w w' g c)/\(∀g c,oV gs g c->Calm gs->Calm gs')/\
  CP gs.size ((λj=>(K' j).dh),flag gs' ic) ((λj=>(K j).dh),flag gs ic)
def getElem?_next{gi bH:Ti}{w':Us}{i j:Nat}{x:Ti}(hlt:i<gs.size)(h:((gs.map (woken P gi bH w')).setIfInBounds i bH)[j]?=some x):(j=i/\x=bH)\/(j≠i/\∃y,gs[j]?=some y/\x=woken P gi bH w' y):=by by_cases cF:j=i;subst cF;rw[Ud (by simpa using hlt)]at h;exact .inl ⟨rfl,(V_ h).symm⟩;rw[Tx (Ne.symm cF),XI]at h;obtain⟨y,hy,rfl⟩:=Uu.1 h;exact .inr ⟨cF,y,hy,rfl⟩
def Rest.app{Wg:Nat}{t u:Vj}{K K':Nat->GS}{ic:Nat}{s s':eE}(h:Rest Wg t K ic (some s))(hold:∀idx a,touchAt t idx=some a->yd Wg t K ic s idx->Xe (t++u) 0 idx\/yd Wg (t++u) K' ic s' idx)
  (xw:∀idx a,t.size<=idx->(∃op∈u,(t++u)[idx]?=some op/\op.act.touch?=some a)->a.loc.isMemory=true->Xe (t++u) 0 idx\/(a.kind=.atomic/\¬(t++u).heard idx)\/yd Wg (t++u) K' ic s' idx):Rest Wg (t++u) K' ic (some s'):=by
 intro idx a ha hm;rcases Cr ha with fK|⟨hi,hx⟩;obtain⟨op,aB,_⟩:=VR fK;rcases h idx a fK hm with x|⟨x,y⟩|⟨s1,da,x⟩;exact .inl (x.app u);exact .inr (.inl ⟨x,λz=>y ((Xb (UI aB)).1 z)⟩);(cases da;exact(hold idx a fK x).imp id λy=> .inr ⟨s',rfl,y⟩);exact(xw idx a hi hx hm).imp id (λy=>y.imp id λz=>⟨s',rfl,z⟩)
def yd.app{Wg:Nat}{t u:Vj}{K K':Nat->GS}{ic idx:Nat}{s:eE}(dg:idx<t.size)(h:yd Wg t K ic s idx)(hK:∀i,t.g? idx=some i->0<i->(K i).idx.isSome=true->(K' i).idx.isSome=true\/∃r,Rel Wg (t++u) i r/\idx<=r):yd Wg (t++u) K' ic s idx:=by
 cases s with
 |early=>obtain⟨i,hg,h0,hx⟩:=h;refine⟨i,by rw[ayj dg];exact hg,h0,?_⟩;rcases hx with x|x|⟨r,x,y⟩;exact(hK i hg h0 x).imp id .inr;exact .inr (.inl x);exact .inr (.inr ⟨r,x.app,y⟩)
 |got=>exact axz u h
 |shut p=>exact Before.app u h
end
open Go.Conc Go.ConcN
def te (ph:TC):Loc->Prop:=match ph with|some p=>se p.c p.Wg|none=>λ_=>False
def nX (ph:TC)(N ic:Nat)(K:Nat->GS):Nat->Prop:=λi=>match ph with|some p=>jv p N ic K i|none=>False
def Cv (ph:TC):Nat:=match ph with|some p=>p.Wg|none=>0
section
abbrev S9:=Option (Nat×Nat)
variable {P:Tl}{n0:Nat}{W0:Us}{V:View}{gs:SR}{w w':Us}{sl:S9}{t:Vj}{K:Nat->GS}{Im:cC}{ic:Nat}{ph:TC}{st st':TJ}
def Ay (P:Tl)(n0:Nat)(V:View)(gs:SR)(w:Us)(t:Vj)(K:Nat->GS)(Im:cC)(ic:Nat)(ph:TC)(st:TJ):Prop:=match ph with
  |none=>st=none
  |some p=>n0<=p.c/\n0<=p.Wg/\p.c≠p.Wg/\p.c<w.heap.size/\p.Wg<w.heap.size/\p.Ss.length<=4/\
   (∀i,0<i->((K i).view Im).own p.c=none/\(∀o,((K i).view Im).ah p.c o=none)/\((K i).view Im).own p.Wg=none/\(∀o,((K i).view Im).ah p.Wg o=none)/\((K i).n_=true->i=ic))/\
   (∀i i' j,0<i->i<gs.size->0<i'->i'<gs.size->(K i).idx=some j->(K i').idx=some j->i=i')/\
   (∀j S,p.Ss[j]?=some S->S≠[]->∃i,0<i/\i<gs.size/\(K i).idx=some j)/\
   (if p.recv then(V.own p.c=none/\(∀o,V.ah p.c o=none)/\V.own p.Wg=none/\(∀o,V.ah p.Wg o=none))/\0<ic/\ic<gs.size/\(∃s,st=some s/\Mode P p.c p.Wg gs.size w gs t K ic s)
    else V.own p.c=some (.chan 0 #[] false 0 0 false)/\ic=0/\st=some .early/\(∀i,0<i->i<gs.size->(K i).idx.isSome=true\/∃q,K i=.gone q)/\(∀S∈p.Ss,S≠[])/\(sumTo gs.size λi=>(K i).cnt)=p.Ss.length)
def CI (P:Tl)(Im:cC)(ph:TC)(k:GS)(d:Nat)(g:Ti):Prop:=match ph with
  |some p=>k.is P p.c p.Wg Im p.Ss d g
  |none=>∃q,k=.gone q/\Y5 P q d g
def Inv.mk'(pos:0<gs.size)(k0:K 0=.gone 0)(d0:VS t 0=V.deaf)(du:∀i g,0<i->gs[i]?=some g->CI P Im ph (K i) (VS t i) g)
  (hc:Core (bK V Im K) gs.size w t (te ph) (nX ph gs.size ic K) ic n0 W0) (hr:Rest (Cv ph) t K ic st) (hp:Ay P n0 V gs w t K Im ic ph st):Inv P n0 W0 V gs w t K Im ic ph st:=by
 cases ph with
 |none=>exact⟨pos,k0,d0,du,hc,hr,hp⟩
 |some p=>exact⟨pos,k0,d0,du,hc,hr,hp⟩
def Inv.out(h:Inv P n0 W0 V gs w t K Im ic ph st):(∀i g,0<i->gs[i]?=some g->CI P Im ph (K i) (VS t i) g)/\Core (bK V Im K) gs.size w t (te ph) (nX ph gs.size ic K) ic n0 W0/\Rest (Cv ph) t K ic st/\Ay P n0 V gs w t K Im ic ph st:=by
 cases ph with
 |none=>exact⟨h.is,h.core,h.rest,h.phase⟩
 |some p=>exact⟨h.is,h.core,h.rest,h.phase⟩
def ah5{y:Ti}(hy:y.status=.blocked->y.offers=none):(y.again w').status=.blocked->(y.again w').offers=none:=by obtain⟨f,cs,s,d,o⟩:=y;unfold Z5;cases s<;>cases o<;>simp_all
def ah6{g g' y:Ti}(hy:y.status=.blocked->y.offers=none)(hb:(woken P g g' w' y).status=.blocked):(woken P g g' w' y).offers=none:=by unfold woken at hb⊢;split;rename_i hh;rw[if_pos hh]at hb;exact ah5 hy hb;rename_i hh;rw[if_neg hh]at hb;exact hy hb
def Inv.acM(h:Inv P n0 W0 V gs w t K Im ic ph st){i:Nat}{gi bH:Ti}{es:SO}{k':GS}(hi:0<i)(aR:gs[i]?=some gi)(aU:stepG P false gi w=.go bH w' es)
  (hk:CI P Im ph k' (deafBehind (VS t i) es) bH) (ub:bH.status=.blocked->bH.offers=none) (iq:∀p,ph=some p->(∃n,w'.heap[p.c]?=some (.chan 0 #[] false n n false))\/(∀j,0<j->j<gs.size->j≠i->(K j).idx=none))
  (y_:Core (bK V Im (upd K i k')) gs.size w' (t++Uf i gi.frame.fn gi.frame.place es) (te ph) (nX ph gs.size ic (upd K i k')) ic n0 W0)
  (kX:Rest (Cv ph) (t++Uf i gi.frame.fn gi.frame.place es) (upd K i k') ic st')
  (Eo:Ay P n0 V ((gs.map (woken P gi bH w')).setIfInBounds i bH) w' (t++Uf i gi.frame.fn gi.frame.place es) (upd K i k') Im ic ph st')
  (jX:CP gs.size ((λj=>(upd K i k' j).dh),flag ((gs.map (woken P gi bH w')).setIfInBounds i bH) ic) ((λj=>(K j).dh),flag gs ic))
  (qt:∀g c,(∀p,ph=some p->p.c=c)->JW gs ((gs.map (woken P gi bH w')).setIfInBounds i bH) w w' g c):ie P n0 W0 V gs w sl t K Im ic ph st i:=by
 have hlt:i<gs.size:=(Tw.1 aR).1;have fq:(i==0)=false:=by simp;omega
 have a_:((gs.map (woken P gi bH w')).setIfInBounds i bH).size=gs.size:=by simp
 have zp:∀op∈Uf i gi.frame.fn gi.frame.place es,op.g=i:=λop aB=>by obtain⟨e,_,rfl⟩:=UO aB;rfl
 refine⟨_,w',_,upd K i k',st',axR (P:=P) (sl:=sl) aR (by rw[fq];exact aU),a_,?_,qt,?_,jX⟩
 rotate_left
 ·intro g c _ hc j x hj hx hb;rcases getElem?_next hlt hx with⟨_,rfl⟩|⟨_,y,hy,rfl⟩;exact ub hb;exact ah6 (hc j y hj hy) hb
 refine Inv.mk' (by rw[a_];exact h.pos) (by rw[bk _ _ (by omega)];exact h.k0) ?_ (λj x hj hx=> ?_) (by rw[a_];exact y_) kX Eo;rw[ZW t (g:=0) (g':=i) (by omega) _ zp];exact h.d0
 ·rcases getElem?_next hlt hx with⟨rfl,rfl⟩|⟨cF,y,hy,rfl⟩;rw[bD,Deaf_own];exact hk
  ·rw[bk _ _ cF,ZW t (g:=j) (g':=i) (Ne.symm cF) _ zp];have EG:=h.out.1 j y hj hy;have MS:j<gs.size:=(Tw.1 hy).1;cases ph with
   |none=>obtain⟨q,hq,qC⟩:=EG;exact⟨q,hq,by rw[an' qC];exact qC⟩
   |some p=>refine ab4 ?_ EG;rcases iq p rfl with x|x;exact .inl x;exact .inr (x j hj MS cF)
def Inv.next(h:Inv P n0 W0 V gs w t K Im ic ph st){i:Nat}{gi bH:Ti}{es:SO}{k':GS}(hi:0<i)(aR:gs[i]?=some gi)(aU:stepG P false gi w=.go bH w' es)
  (hk:CI P Im ph k' (deafBehind (VS t i) es) bH) (ub:bH.status=.blocked->bH.offers=none) (iq:∀p,ph=some p->(∃n,w'.heap[p.c]?=some (.chan 0 #[] false n n false))\/(∀j,0<j->j<gs.size->j≠i->(K j).idx=none))
  (y_:Core (bK V Im (upd K i k')) gs.size w' (t++Uf i gi.frame.fn gi.frame.place es) (te ph) (nX ph gs.size ic (upd K i k')) ic n0 W0)
  (kX:Rest (Cv ph) (t++Uf i gi.frame.fn gi.frame.place es) (upd K i k') ic st')
  (Eo:Ay P n0 V ((gs.map (woken P gi bH w')).setIfInBounds i bH) w' (t++Uf i gi.frame.fn gi.frame.place es) (upd K i k') Im ic ph st')
  (vR:r_ k'.dh (K i).dh)
  (qt:∀g c,(∀p,ph=some p->p.c=c)->JW gs ((gs.map (woken P gi bH w')).setIfInBounds i bH) w w' g c):ie P n0 W0 V gs w sl t K Im ic ph st i:=
 h.acM hi aR aU hk ub iq y_ kX Eo (.inl ⟨i,(Tw.1 aR).1,by simpa only[bD]using vR,λj hj=>by show (upd K i k' j).dh=(K j).dh;rw[bk _ _ hj]⟩) qt
def apL{B:Nat}{e:W8}(h:e.mute=true):(Ut e).touch?=none/\(Ut e).low B/\∀a,Ut e≠ .mark (.release a):=by
 refine⟨aw8 h,low_mute h B,λa=> ?_⟩;obtain⟨l,wr,sy⟩:=e;cases l with
 |mark m=>cases m<;>cases wr<;>cases sy<;>simp_all[Ut,Xr]
 |_=>simp[Xr]at h
def Mode.keep{c Wg N:Nat}{gs':SR}{u:Vj}{K':Nat->GS}{s:eE}(h:Mode P c Wg N w gs t K ic s)(hs:∀j,(K' j).shape=(K j).shape)(hc:w'.heap[c]?=w.heap[c]?)(hW:w'.heap[Wg]?=w.heap[Wg]?)
  (hr:(∀g,gs[ic]?=some g->g.status=.running)->∀g,gs'[ic]?=some g->g.status=.running):Mode P c Wg N w' gs' (t++u) K' ic s:=by
 have e1:sumTo N (λi=>(K' i).cnt)=sumTo N λi=>(K i).cnt:=Wm λi _=>by rw[<- GS.oc,hs i,GS.oc]
 have e2:sumTo N (λi=>(K' i).late)=sumTo N λi=>(K i).late:=Wm λi _=>by rw[<- GS.mT,hs i,GS.mT]
 have e3:∀st sm,WgAt P Wg w' st sm=WgAt P Wg w st sm:=λst sm=>by unfold WgAt;rw[hW]
 unfold Mode at h⊢;simp only[e1,e2,e3,hs,hc];rcases h with h|h|h|h|h|h|h;exact .inl h;exact .inr (.inl h);exact .inr (.inr (.inl h));exact .inr (.inr (.inr (.inl ⟨h.1,h.2.1,h.2.2.1,h.2.2.2.1,h.2.2.2.2.1,hr h.2.2.2.2.2.1,h.2.2.2.2.2.2⟩)));exact .inr (.inr (.inr (.inr (.inl h))));exact .inr (.inr (.inr (.inr (.inr (.inl h)))));obtain⟨⟨p,n,a,b,c',d⟩,e⟩:=h;exact .inr (.inr (.inr (.inr (.inr (.inr ⟨⟨p,n,a,by rw[Zi (Xo b)];exact b,(Xb (Xo b)).2 c',d⟩,e⟩)))))
def adK{i:Nat}{gi bH:Ti}(hlt:i<gs.size)(hg:bH.status=.running)(h:∀g,gs[ic]?=some g->g.status=.running):∀g,((gs.map (woken P gi bH w')).setIfInBounds i bH)[ic]?=some g->g.status=.running:=by intro g MA;rcases getElem?_next hlt MA with⟨_,rfl⟩|⟨_,y,hy,rfl⟩;exact hg;rw[Yj (h y hy)];exact h y hy
def GS.abZ{k:GS}(h:k.cnt=0):k.idx=none:=by cases k<;>first|rfl|(simp[GS.cnt]at h)
def Inv.opens(h:Inv P n0 W0 V gs w t K Im ic ph st){p:Phase}(hp:ph=some p):(∃n,w.heap[p.c]?=some (.chan 0 #[] false n n false))\/((∀j,0<j->j<gs.size->(K j).idx=none)/\(∃n,w.heap[p.c]?=some (.chan 0 #[] true n n false))/\p.recv=true):=by subst hp;obtain⟨_,hc,_,iu⟩:=h.out;obtain⟨_,_,_,_,_,_,_,_,_,hx⟩:=iu;by_cases hr:p.recv=true;rw[if_pos hr]at hx;obtain⟨_,_,_,s,_,hm⟩:=hx;rcases hm with h|h|h|h|h|h|h;exact .inl h.1;exact .inl h.1;exact .inl h.1;exact .inl h.1;exact .inl h.1;exact .inl h.1;(obtain⟨⟨_,n,_,_,_,hn⟩,_,eN,_⟩:=h;refine .inr ⟨λj hj iX=> ?_,⟨n,hn⟩,hr⟩;have hle:(K j).cnt<=sumTo gs.size λi=>(K i).cnt:=Xj (f:=λi=>(K i).cnt) iX;exact GS.abZ (by omega));rw[if_neg hr]at hx;have:=(hc.sat 0 h.pos).own p.c _ (by simp only[bK,if_true];exact hx.1);exact .inl ⟨0,this⟩
def Inv.slip(h:Inv P n0 W0 V gs w t K Im ic ph st){i:Nat}{gi bH:Ti}{es:SO}{k':GS}(hi:0<i)(aR:gs[i]?=some gi)(aU:stepG P false gi w=.go bH w es)(jX:∀e∈es,e.mute=true)
  (hk:CI P Im ph k' (deafBehind (VS t i) es) bH) (ub:bH.status=.blocked->bH.offers=none) (dD:k'.shape=(K i).shape) (mO:k'.view Im=(K i).view Im) (bQ:(K i).shape=.iL 0\/(K i).shape=.said 0->bH.status=.running) (vR:r_ k'.dh (K i).dh):ie P n0 W0 V gs w sl t K Im ic ph st i:=by
 have hlt:i<gs.size:=(Tw.1 aR).1;obtain⟨_,hc,hr,hp⟩:=h.out;have dg:∀j,((upd K i k') j).idx=(K j).idx:=λj=>by by_cases hj:j=i;subst hj;rw[bD,<- GS.Ie,dD,GS.Ie];rw[bk _ _ hj]
 have mh:∀j,((upd K i k') j).shape=(K j).shape:=λj=>by by_cases hj:j=i;subst hj;rw[bD,dD];rw[bk _ _ hj]
 have abW:∀j,((upd K i k') j).view Im=(K j).view Im:=λj=>by by_cases hj:j=i;subst hj;rw[bD,mO];rw[bk _ _ hj]
 have qi:∀j,((upd K i k') j).cnt=(K j).cnt:=λj=>by rw[<- GS.oc,mh,GS.oc]
 have xr:∀j,((upd K i k') j).late=(K j).late:=λj=>by rw[<- GS.mT,mh,GS.mT]
 refine h.next (st':=st) hi aR aU hk ub (λp Bz=>(h.opens Bz).imp id λx j a b _=>x.1 j a b) ?_ ?_ ?_ vR ?_
 ·refine((hc.quiet hlt (λe he=>apL (jX e he)) gi.frame.fn gi.frame.place).congr λj hj=> ?_).C7 λj hj=> ?_
  ·simp only[bK,abW]
  ·cases ph with
   |none=>exact hj
   |some p=>simpa only[nX,jv,dg,qi,xr]using hj
 ·cases st with
  |none=>intro idx a ha hm;have fK:=Cs (λop aB=>by obtain⟨e,he,rfl⟩:=UO aB;exact aw8 (jX e he)) ha;obtain⟨op,aB,_⟩:=VR fK;rcases hr idx a fK hm with x|⟨x,y⟩|⟨_,z,_⟩;exact .inl (x.app _);exact .inr (.inl ⟨x,λz=>y ((Xb (UI aB)).1 z)⟩);cases z
  |some s=>refine hr.app (λidx a ha hx=> .inr (hx.app (by obtain⟨op,aB,_⟩:=VR ha;exact UI aB) λj _ _ hj=> .inl (by rw[dg];exact hj))) (λidx a _ ⟨op,aB,_,hx⟩ _=> ?_);obtain⟨e,he,rfl⟩:=UO aB;rw[aw8 (jX e he)]at hx;cases hx
 ·cases ph with
  |none=>exact hp
  |some p=>
   obtain⟨a1,a2,a3,a4,a5,a6,a7,a8,a9,b9⟩:=hp;refine⟨a1,a2,a3,a4,a5,a6,λj hj=>by rw[abW,<- GS.Rf,mh,GS.Rf];exact a7 j hj,λj j' m b1 b2 b3 b4 b5 b6=>a8 j j' m b1 (by simpa using b2) b3 (by simpa using b4) (by rw[<- dg];exact b5) (by rw[<- dg];exact b6),λj S b1 b2=> ?_,?_⟩;obtain⟨m,c1,c2,c3⟩:=a9 j S b1 b2;exact⟨m,c1,by simpa using c2,by rw[dg];exact c3⟩
   ·split
    ·rename_i aM;rw[if_pos aM]at b9;obtain⟨c1,c2,c3,s,c4,c5⟩:=b9;refine⟨c1,c2,by simpa using c3,s,c4,?_⟩;have a_:((gs.map (woken P gi bH w)).setIfInBounds i bH).size=gs.size:=(by simp);rw[a_];by_cases gI:i=ic/\bH.status≠ .running
     ·
      obtain⟨rfl,sL⟩:=gI;unfold Mode at c5⊢;have e1:sumTo gs.size (λj=>((upd K i k') j).cnt)=sumTo gs.size λj=>(K j).cnt:=Wm λj _=>qi j;have e2:sumTo gs.size (λj=>((upd K i k') j).late)=sumTo gs.size λj=>(K j).late:=Wm λj _=>xr j;simp only[e1,e2,mh];rcases c5 with h|h|h|h|h|h|h
      ·exact .inl h
      ·exact .inr (.inl h)
      ·exact .inr (.inr (.inl h))
      ·exact absurd (bQ h.2.2.2.2.2.2.symm) sL
      ·exact .inr (.inr (.inr (.inr (.inl h))))
      ·exact .inr (.inr (.inr (.inr (.inr (.inl h)))))
      ·obtain⟨⟨p,n,a,b,c',d⟩,e⟩:=h;exact .inr (.inr (.inr (.inr (.inr (.inr ⟨⟨p,n,a,by rw[Zi (Xo b)];exact b,(Xb (Xo b)).2 c',d⟩,e⟩)))))
     ·refine c5.keep mh rfl rfl λmM g hg=> ?_;rcases getElem?_next hlt hg with⟨rfl,rfl⟩|⟨_,y,hy,rfl⟩
      ·exact Uv λx=>gI ⟨rfl,x⟩
      ·rw[Yj (mM y hy)];exact mM y hy
    ·rename_i aM;rw[if_neg aM]at b9;refine⟨b9.1,b9.2.1,b9.2.2.1,λj b1 b2=> ?_,b9.2.2.2.2.1,?_⟩
     rotate_left
     ·rw[show ((gs.map (woken P gi bH w)).setIfInBounds i bH).size=gs.size by simp,Wm λj _=>qi j];exact b9.2.2.2.2.2
     rcases b9.2.2.2.1 j b1 (by simpa using b2)with x|⟨q,x⟩;exact .inl (by rw[dg];exact x);by_cases hj:j=i;subst hj;rw[bD];rw[x]at dD;cases k'<;>simp[GS.shape]at dD;exact .inr ⟨_,rfl⟩;rw[bk _ _ hj];exact .inr ⟨q,x⟩
 ·intro g c _;exact⟨Ot hi,λjF ho=> .inr ⟨OQ hi jF ho,ho⟩⟩
end
open Go.Conc Go.ConcN
section
variable {P:Tl}{n0:Nat}{W0:Us}{V:View}{gs:SR}{w w':Us}{sl:S9}{t:Vj}{K:Nat->GS}{Im:cC}{ic:Nat}{p:Phase}{st st':TJ}
def jO (p:Phase)(U:View):Prop:=U.own p.c=none/\(∀o,U.ah p.c o=none)/\U.own p.Wg=none/\(∀o,U.ah p.Wg o=none)
def jO.step{U U':View}{es:SO}(b:jO p U)(s:dl U w U' w' es)(hc:p.c<w.heap.size)(hW:p.Wg<w.heap.size):jO p U':=by
 have key:∀b,b<w.heap.size->U.own b=none->(∀o,U.ah b o=none)->U'.own b=none/\∀o,U'.ah b o=none:=by
  intro b hb ho hi;refine⟨s.own b hb ho,λo=> ?_⟩;cases e:U'.ah b o with
  |none=>rfl
  |some v=>rcases s.kZ b o v e with x|x|x;rw[hi o]at x;cases x;exact absurd ho x;omega
 have k1:=key p.c hc b.1 b.2.1;have k2:=key p.Wg hW b.2.2.1 b.2.2.2;exact⟨k1.1,k1.2,k2.1,k2.2⟩
def jO.BZ{U:View}(b:jO p U){l:Loc}(h:iA U l):¬se p.c p.Wg l:=by
 intro hs;cases l with
 |cell a=>have e:a.block=p.Wg:=hs;rcases h with h|h;exact h (by rw[e];exact b.2.2.1);exact h (by rw[e];exact b.2.2.2 _)
 |obj r=>have e:r=p.c:=hs;exact h (by rw[e];exact b.1)
 |_=>exact hs
def jO.ghost{U U':View}(b:jO p U)(g:eg U U'):jO p U':=by
 have key:∀b,U.own b=none->(∀o,U.ah b o=none)->U'.own b=none/\∀o,U'.ah b o=none:=by
  intro b ho hi;refine⟨g.own b ho,λo=> ?_⟩;cases e:U'.ah b o with
  |none=>rfl
  |some v=>rcases g.kZ b o v e with x|x;rw[hi o]at x;cases x;exact absurd ho x
 have k1:=key p.c b.1 b.2.1;have k2:=key p.Wg b.2.2.1 b.2.2.2;exact⟨k1.1,k1.2,k2.1,k2.2⟩
def ahM:jO p noView:=⟨rfl,λ_=>rfl,rfl,λ_=>rfl⟩
def Inv.blind(h:Inv P n0 W0 V gs w t K Im ic (some p) st){i:Nat}(hi:0<i):jO p ((K i).view Im):=let x:=h.phase.2.2.2.2.2.2.1 i hi;⟨x.1,x.2.1,x.2.2.1,x.2.2.2.1⟩
def Inv.th(h:Inv P n0 W0 V gs w t K Im ic (some p) st){i:Nat}(hi:0<i)(hc:(K i).n_=true):i=ic:=(h.phase.2.2.2.2.2.2.1 i hi).2.2.2.2 hc
def Inv.low(h:Inv P n0 W0 V gs w t K Im ic (some p) st):p.c<w.heap.size/\p.Wg<w.heap.size:=⟨h.phase.2.2.2.1,h.phase.2.2.2.2.1⟩
def aeb(hc:p.c<w.heap.size)(hW:p.Wg<w.heap.size){l:Loc}(h:se p.c p.Wg l):l.low w.heap.size:=by
 cases l with
 |cell a=>show a.block<_;rw[show a.block=p.Wg from h];exact hW
 |obj r=>show r<_;rw[show r=p.c from h];exact hc
 |_=>exact h.elim
def Inv.ail(h:Inv P n0 W0 V gs w t K Im ic (some p) st)(hr:p.recv=true){i:Nat}(hlt:i<gs.size)(hk:(K i).cnt=1):∃s,WgAt P p.Wg w s 0:=by
 obtain⟨_,_,_,_,_,_,_,_,_,hx⟩:=h.phase;rw[if_pos hr]at hx;obtain⟨_,_,_,s,hs,hm⟩:=hx;have hle:(K i).cnt<=sumTo gs.size λi=>(K i).cnt:=Xj (f:=λi=>(K i).cnt) hlt;rcases hm with h|h|h|h|h|h|h
 ·exact⟨_,h.2.2.2.2.1⟩
 ·exact⟨_,h.2.2.2.2.2.1⟩
 ·have:=h.2.2.2.1;omega
 ·have:=h.2.2.2.1;omega
 ·have:=h.2.2.2.1;omega
 ·have:=h.2.2.2.1;omega
 ·have:=h.2.2.1;omega
def Inv.Ql(h:Inv P n0 W0 V gs w t K Im ic (some p) st)(hr:p.recv=true){n:Nat}(hk:K ic=.acq n\/K ic=.said n):∃x y,WgAt P p.Wg w x y:=by
 obtain⟨_,_,_,_,_,_,_,_,_,hx⟩:=h.phase;rw[if_pos hr]at hx;obtain⟨_,_,_,s,hs,hm⟩:=hx;unfold Mode at hm;rcases hm with h|h|h|h|h|h|h;exact⟨_,_,h.2.2.2.2.1⟩;exact⟨_,_,h.2.2.2.2.2.1⟩
 ·have key:∀N,0<(sumTo N λi=>(K i).late)->∃i,i<N/\(K i).late≠0:=by
   intro N;induction N with
   |zero=>intro h;exact absurd h (by simp[sumTo])
   |succ N ih=>intro h;by_cases h0:(K N).late=0;simp only[sumTo,h0]at h;obtain⟨i,hi,hl⟩:=ih (by omega);exact⟨i,by omega,hl⟩;exact⟨N,by omega,h0⟩
  have:=key gs.size (by have:=h.2.2.1;omega);obtain⟨i,hi,hl⟩:=this;cases lC:K i<;>rw[lC]at hl<;>first
   |exact⟨_,_,h.2.2.2.2.2.1 i hi (by rw[lC];exact .inl rfl)⟩
   |exact⟨_,_,h.2.2.2.2.2.1 i hi (by rw[lC];exact .inr rfl)⟩
   |exact⟨_,_,h.2.2.2.2.2.2 i hi (by rw[lC];rfl)⟩
   |exact absurd rfl hl
 ·exact⟨_,_,h.2.2.2.2.1⟩
 ·exact⟨_,_,h.2.2.2.2.1⟩
 ·exfalso;rcases hk with hk|hk<;>rw[hk]at h<;>rcases h.2.2.2.2 with h|h<;>cases h
 ·exfalso;rcases hk with hk|hk<;>rw[hk]at h<;>cases h.2.2.2
def Inv.counted(h:Inv P n0 W0 V gs w t K Im ic (some p) st){i:Nat}(_hi:0<i)(hlt:i<gs.size)(hk:(K i).cnt=1):(∃n,w.heap[p.c]?=some (.chan 0 #[] false n n false))/\st=some .early:=by
 have iu:=h.phase;obtain⟨_,_,_,_,_,_,_,_,_,hx⟩:=iu;by_cases hr:p.recv=true
 ·rw[if_pos hr]at hx;obtain⟨_,_,_,s,hs,hm⟩:=hx;have hle:(K i).cnt<=sumTo gs.size λi=>(K i).cnt:=Xj (f:=λi=>(K i).cnt) hlt;rcases hm with h|h|h|h|h|h|h
  ·exact⟨h.1,by rw[hs,h.2.1]⟩
  ·exact⟨h.1,by rw[hs,h.2.1]⟩
  ·exact⟨h.1,by rw[hs,h.2.1]⟩
  ·exact⟨h.1,by rw[hs,h.2.1]⟩
  ·exact⟨h.1,by rw[hs,h.2.1]⟩
  ·have:=h.2.2.2.1;omega
  ·have:=h.2.2.1;omega
 ·rw[if_neg hr]at hx;have:=(h.core.sat 0 h.pos).own p.c _ (by simp only[bK,if_true];exact hx.1);exact⟨⟨0,this⟩,hx.2.2.1⟩
def Inv.OS(h:Inv P n0 W0 V gs w t K Im ic (some p) st){i:Nat}{k':GS}{gs':SR}{t':Vj}(a_:gs'.size=gs.size)(jh:w.heap.size<=w'.heap.size)(hb:jO p (k'.view Im))(y8:k'.n_=true->i=ic)
  (dg:k'.idx=(K i).idx\/(k'.idx=none/\∀j,(K i).idx=some j->p.Ss[j]?=some []))
  (eA:if p.recv then∃s,st'=some s/\Mode P p.c p.Wg gs.size w' gs' t' (upd K i k') ic s
    else st'=some .early/\k'.idx.isSome=true/\k'.cnt=(K i).cnt):Ay P n0 V gs' w' t' (upd K i k') Im ic (some p) st':=by
 obtain⟨a1,a2,a3,a4,a5,a6,a7,a8,a9,b9⟩:=h.phase;have jj:∀j m,((upd K i k') j).idx=some m->(K j).idx=some m:=by intro j m hj;by_cases cF:j=i;subst cF;rw[bD]at hj;rcases dg with x|⟨x,_⟩;rw[<- x];exact hj;rw[x]at hj;cases hj;rw[bk _ _ cF]at hj;exact hj
 refine⟨a1,a2,a3,Ug a4 jh,Ug a5 jh,a6,λj hj=> ?_,λj j' m b1 b2 b3 b4 b5 b6=>a8 j j' m b1 (a_▸b2) b3 (a_▸b4) (jj _ _ b5) (jj _ _ b6),λj S b1 b2=> ?_,?_⟩;by_cases cF:j=i;subst cF;rw[bD];exact⟨hb.1,hb.2.1,hb.2.2.1,hb.2.2.2,y8⟩;rw[bk _ _ cF];exact a7 j hj;obtain⟨m,c1,c2,c3⟩:=a9 j S b1 b2;refine⟨m,c1,by rw[a_];exact c2,?_⟩;by_cases c_:m=i;subst c_;rw[bD];rcases dg with x|⟨_,x⟩;rw[x];exact c3;have:=x j c3;rw[this]at b1;cases b1;exact absurd rfl b2;rw[bk _ _ c_];exact c3;split;rename_i aM;rw[if_pos aM]at b9 eA;obtain⟨c1,c2,c3,_⟩:=b9;exact⟨c1,c2,by rw[a_];exact c3,by rw[a_];exact eA⟩;rename_i aM;rw[if_neg aM]at b9 eA;obtain⟨c1,c2,_,c4,c5⟩:=b9;refine⟨c1,c2,eA.1,λj b1 b2=> ?_,c5.1,by rw[a_,lV K k' GS.cnt eA.2.2];exact c5.2⟩;by_cases cF:j=i;subst cF;rw[bD];exact .inl eA.2.1;rw[bk _ _ cF];exact c4 j b1 (a_▸b2)
def Inv.afd(h:Inv P n0 W0 V gs w t K Im ic (some p) st){i j:Nat}{gi bH:Ti}{es:SO}{hh h':Ht}{Vi V':View}(hi:0<i)(aR:gs[i]?=some gi)(hK:K i=.work j hh Vi)(aU:stepG P false gi w=.go bH w' es)
  (s:dl Vi w V' w' es) (hk:l6 P h' V' bH) (mJ:CH h' hh):ie P n0 W0 V gs w sl t K Im ic (some p) st i:=by
 have hlt:i<gs.size:=(Tw.1 aR).1;have du:=h.is i gi hi aR;simp only[hK,GS.is]at du;obtain⟨hd,_,S,hS,jG⟩:=du;have eN:(K i).cnt=1:=by rw[hK];rfl
 obtain⟨⟨n,iq⟩,lM⟩:=h.counted hi hlt eN;have iP:=h.low;have cI:jO p Vi:=by have:=h.blind hi;rw[hK]at this;exact this
 have al3:=cI.step s iP.1 iP.2;have mO:bK V Im K i=Vi:=by simp[bK,hK,GS.view];omega
 have fA:w'.heap[p.c]?=w.heap[p.c]?:=s.frame p.c iP.1 cI.1;have hWh:w'.heap[p.Wg]?=w.heap[p.Wg]?:=s.frame p.Wg iP.2 cI.2.2.1;have mh:∀m,((upd K i (.work j h' V')) m).shape=(K m).shape:=λm=>by by_cases hm:m=i;subst hm;rw[bD,hK];rfl;rw[bk _ _ hm]
 have dg:∀m,((upd K i (.work j h' V')) m).idx=(K m).idx:=λm=>by rw[<- GS.Ie,mh,GS.Ie]
 have qi:∀m,((upd K i (.work j h' V')) m).cnt=(K m).cnt:=λm=>by rw[<- GS.oc,mh,GS.oc]
 have xr:∀m,((upd K i (.work j h' V')) m).late=(K m).late:=λm=>by rw[<- GS.mT,mh,GS.mT]
 have cr:V'.role=Vi.role:=s.role;refine h.next (k':=.work j h' V') (st':=st) hi aR aU ⟨by rw[hd,s.deaf],hk,S,hS,cr.trans jG⟩ (λx=>by rw[hk.running]at x;cases x) (λq hq=>by cases hq;exact .inl ⟨n,by rw[fA];exact iq⟩) ?_ ?_ ?_ ?_ ?_
 ·rw[PN V Im K hi];refine(Core.step (V':=V') h.core hlt (by rw[mO];exact s) (λe he x hx hs=> ?_) gi.frame.fn gi.frame.place).C7 λm hm=> ?_
  ·exfalso;rcases(KZ (s.fJ e he) hx).1 with y|⟨y,_⟩|y;exact cI.BZ y.rd hs;exact cI.BZ y hs;exact y (aeb iP.1 iP.2 hs)
  ·simpa only[nX,jv,dg,qi,xr]using hm
 ·rw[lM];have hr:Rest (Cv (some p)) t K ic st:=h.out.2.2.1;rw[lM]at hr;refine hr.app (λidx a ha hx=> .inr (hx.app (by obtain⟨op,aB,_⟩:=VR ha;exact UI aB) λm _ _ hm=> .inl (by rw[dg];exact hm))) (λidx a _ ⟨op,aB,zb,_⟩ _=> .inr (.inr ⟨i,?_,hi,.inl ?_⟩));obtain⟨e,_,rfl⟩:=UO aB;simp[Xu,zb];rw[bD];rfl
 ·refine h.OS (by simp) s.size al3 (λx=>by cases x) (.inl (by rw[hK];rfl)) ?_;have hx:=h.phase.2.2.2.2.2.2.2.2.2;split;rename_i aM;rw[if_pos aM]at hx;obtain⟨_,_,_,s',qx,hm⟩:=hx;exact⟨s',qx,hm.keep mh fA hWh λmM=>adK hlt hk.running mM⟩;exact⟨lM,rfl,by rw[hK];rfl⟩
 ·rw[hK];refine .inr ⟨by simp[GS.dh,cr],.inl mJ⟩
 ·intro g c sD;have ho:Ax w' c:=⟨n,by rw[<- sD p rfl,fA];exact iq⟩;exact⟨Ot hi,λjF _=> .inr ⟨OQ hi jF ho,ho⟩⟩
end
open Go.Conc Go.ConcN
def oH (V:View)(I':cC)(O':CR)(r:nT):View:=
 {V with ah:=λb o=>match V.ah b o with|some x=>some x|none=>I' b o,own:=λb=>match V.own b with|some x=>some x|none=>O' b,role:=r}
def mu (B:Nat->Bool)(U:View):CR:=λb=>if B b then U.own b else none
def mo (B:Nat->Bool)(U:View)(r:nT):View:={U with own:=λb=>if B b then none else U.own b,role:=r}
section
variable {P:Tl}{n0:Nat}{W0:Us}{V:View}{gs gs':SR}{w w':Us}{sl:S9}{t:Vj}{K:Nat->GS}{Im:cC}{ic:Nat}{p:Phase}{st:TJ}
def ac6{k:GS}{d:Nat}{x:Ti}(h:k.is P p.c p.Wg Im p.Ss d x)(r:Nat):offersAt x r false=[]:=by rcases GS.runs h with hr|⟨hf,_⟩|⟨j,h',V,V',g0,v,z,rfl⟩|⟨_,hb,ho⟩;exact VK (by rw[hr];simp) r false;exact VK (by rw[hf];simp) r false;obtain⟨_,_,rfl,_⟩:=h;exact offersAt_parked_send' _ _ _ _ _ _;unfold offersAt;simp[hb,ho]
def apt{g:Ti}(h:kP gs g){x:Ti}(hx:gs[0]?=some x)(r:Nat)(s:Bool):offersAt x r s=[]:=by obtain⟨g0,h0,h1,_⟩:=h;rw[h0]at hx;cases hx;exact VK (by rw[h1];simp) r s
def Inv.au4(h:Inv P n0 W0 V gs w t K Im ic (some p) st){g:Ti}(hm:kP gs g){i j:Nat}{gi:Ti}{hh h':Ht}{Vi V₁:View}{sp:Spec}{S:TH}{v z:T9}{B:Nat->Bool}(hi:0<i)(aR:gs[i]?=some gi)
  (hK:K i=.work j hh Vi) (hg:eg Vi V₁) (hr:V₁.role=.work p.c p.Wg (sp::S)) (hd:V₁.deaf=0) (aU:stepG P false gi w=.comm gi #[scase p.c v z] true .send w #[])
  (qz:sp v V₁.ah (mu B V₁)) (hk:l6 P h' (mo B V₁ (.work p.c p.Wg S)) (UY gi undef)):ie P n0 W0 V gs w sl t K Im ic (some p) st i:=by
 have hlt:i<gs.size:=(Tw.1 aR).1;have du:=h.is i gi hi aR;simp only[hK,GS.is]at du;obtain⟨bC,_,S',hS,jG⟩:=du;have eN:(K i).cnt=1:=by rw[hK];rfl
 obtain⟨⟨n,iq⟩,lM⟩:=h.counted hi hlt eN;have fq:(i==0)=false:=by simp;omega
 have er:nT.work p.c p.Wg S'=.work p.c p.Wg (sp::S):=by rw[<- jG,<- hg.role,hr]
 cases er;let k':GS:=.oN j h' V₁ (mo B V₁ (.work p.c p.Wg S)) gi v z;have hw:=ax' (P:=P) (sl:=sl) (i:=i) aR (by rw[fq];exact aU) (λcc jA=>by
  simp only[UN,Tm,T5,or_false]at jA;subst jA;refine ways_send_none iq (by simp) (ao_ λm x hx=> ?_);rcases XY gs i m x hx with⟨_,rfl⟩|⟨_,jZ⟩;exact YM _ _
  ·rcases Vf m with rfl|jk;exact apt hm jZ _ _
   ·exact ac6 (h.is m x jk jZ) _)
 have mO:bK V Im K i=Vi:=by simp[bK,hK,GS.view];omega
 have cI:jO p Vi:=by have:=h.blind hi;rw[hK]at this;exact this
 have dg:∀m,((upd K i k') m).idx=(K m).idx:=λm=>by by_cases hm:m=i;subst hm;rw[bD,hK];rfl;rw[bk _ _ hm]
 have mh:∀m,((upd K i k') m).shape=(K m).shape:=λm=>by by_cases hm:m=i;subst hm;rw[bD,hK];rfl;rw[bk _ _ hm]
 have qi:∀m,((upd K i k') m).cnt=(K m).cnt:=λm=>by rw[<- GS.oc,mh,GS.oc]
 have xr:∀m,((upd K i k') m).late=(K m).late:=λm=>by rw[<- GS.mT,mh,GS.mT]
 have e0:t++Uf i gi.frame.fn gi.frame.place #[]=t:=by simp[Uf]
 have a_:(gs.setIfInBounds i (parked gi #[scase p.c v z] .send)).size=gs.size:=by simp
 refine⟨_,w,_,upd K i k',st,hw,a_,?_,λg' c _=>⟨λ⟨g0,a,b⟩=>⟨g0,by rw[Tx (by omega)];exact a,b⟩,λ⟨g0,z',a,b⟩ ho=> .inr ⟨⟨g0,z',by rw[Tx (by omega)];exact a,b⟩,ho⟩⟩,λg' c ⟨g1,z',a,_⟩ _=>(by obtain⟨g0,h0,h1,_⟩:=hm;rw[a]at h0;cases h0;cases h1),
  .inl ⟨i,hlt,?_,λm hm=>by show (upd K i k' m).dh=(K m).dh;rw[bk _ _ hm]⟩⟩
 ·rw[e0];refine Inv.mk' (by rw[a_];exact h.pos) (by rw[bk _ _ (by omega)];exact h.k0) h.d0 (λm x hm hx=> ?_) ?_ ?_ ?_;by_cases c_:m=i;subst c_;rw[Ud hlt]at hx;cases hx;rw[bD];exact⟨by rw[bC,<- hg.deaf,hd],hd,rfl,hk,sp,S,B,hS,hr,qz,rfl⟩;rw[Tx (Ne.symm c_)]at hx;rw[bk _ _ c_];exact h.is m x hm hx;(rw[a_,PN V Im K hi];exact(Core.ghost (V':=V₁) h.core hlt (by rw[mO];exact hg)).C7 λm hm=>by simpa only[nX,jv,dg,qi,xr]using hm);(have hr:Rest (Cv (some p)) t K ic st:=h.out.2.2.1;rw[lM]at hr⊢;have:=hr.app (u:=#[]) (K':=upd K i k') (s':=.early) (λidx a ha hx=> .inr (hx.app (by obtain⟨op,aB,_⟩:=VR ha;exact UI aB) λm _ _ hm=> .inl (by rw[dg];exact hm))) (λidx a _ ⟨op,aB,_⟩ _=>by simp at aB);simpa using this)
  ·refine h.OS a_ (Tv _) (cI.ghost hg) (λx=>by cases x) (.inl (by rw[hK];rfl)) ?_;have hx:=h.phase.2.2.2.2.2.2.2.2.2;split
   ·rename_i aM;rw[if_pos aM]at hx;obtain⟨_,gZ,_,s',qx,gK⟩:=hx;refine⟨s',qx,?_⟩;have:=gK.keep (w':=w) (gs':=gs.setIfInBounds i (parked gi #[scase p.c v z] .send)) (u:=#[]) mh rfl rfl λmM x hx=>by
     by_cases gI:ic=i
     ·subst gI;exfalso;unfold Mode at gK;have aN:∀s:GS,(K ic).shape=s->s=.work j .z noView:=λs e=>(by rw[<- e,hK];rfl);rcases gK with h|h|h|h|h|h|h
      ·rcases h.2.2.2.2.2 with⟨_,e,_⟩|⟨_,e,_⟩<;>cases aN _ e
      ·rcases h.2.2.2.2.2.2 with e|e<;>cases aN _ e
      ·rcases h.2.2.2.2.1 with e|e<;>cases aN _ e
      ·rcases h.2.2.2.2.2.2 with e|e<;>cases aN _ e
      ·rcases h.2.2.2.2.2 with e|e<;>cases aN _ e
      ·rcases h.2.2.2.2 with e|e<;>cases aN _ e
      ·cases aN _ h.2.2.2
     ·rw[Tx (Ne.symm gI)]at hx;exact mM x hx
    simpa using this
   ·exact⟨lM,rfl,by rw[hK];rfl⟩
 ·show r_ (upd K i k' i).dh (K i).dh;rw[hK];refine .inl ?_;simp only[bD,k',GS.dh,hr,jG];omega
def Mode.aoq{c Wg N:Nat}{u:Vj}{K':Nat->GS}{s:eE}(h:Mode P c Wg N w gs t K ic s)(eN:1<=sumTo N λi=>(K i).cnt)(hs:∀j,(K' j).shape=(K j).shape)(ho:∃n,w'.heap[c]?=some (.chan 0 #[] false n n false))(hW:w'.heap[Wg]?=w.heap[Wg]?):Mode P c Wg N w' gs' (t++u) K' ic s:=by
 have e1:sumTo N (λi=>(K' i).cnt)=sumTo N λi=>(K i).cnt:=Wm λi _=>by rw[<- GS.oc,hs i,GS.oc]
 have e2:sumTo N (λi=>(K' i).late)=sumTo N λi=>(K i).late:=Wm λi _=>by rw[<- GS.mT,hs i,GS.mT]
 have e3:∀st sm,WgAt P Wg w' st sm=WgAt P Wg w st sm:=λst sm=>by unfold WgAt;rw[hW]
 unfold Mode at h⊢;simp only[e1,e2,e3,hs];rcases h with h|h|h|h|h|h|h;exact .inl ⟨ho,h.2⟩;exact .inr (.inl ⟨ho,h.2⟩);have:=h.2.2.2.1;omega;have:=h.2.2.2.1;omega;have:=h.2.2.2.1;omega;have:=h.2.2.2.1;omega;have:=h.2.2.1;omega
def Inv.met(h:Inv P n0 W0 V gs w t K Im ic (some p) st)(aM:p.recv=true)(ik:V.deaf=0){i j:Nat}{h':Ht}{V₁:View}{gi:Ti}{sp:Spec}{S:TH}{B:Nat->Bool}(hi:0<i)(hlt:i<gs.size)
  (zd:(K i).idx=some j) (hg:eg ((K i).view Im) V₁) (hr:V₁.role=.work p.c p.Wg (sp::S)) (hd:V₁.deaf=0) (pn:VS t i=0) (hS:p.Ss[j]?=some (sp::S))
  (hk:l6 P h' (mo B V₁ (.work p.c p.Wg S)) (UY gi undef)) (a_:gs'.size=gs.size) (aR:gs'[i]?=some (UY gi undef)) (hgo:∀m,m≠i->0<m->gs'[m]?=gs[m]?)
  {u:Vj} {x0 x1 x2 x3:W7} (hu:u=#[x0,x1,x2,x3]) {s:Nat} (h0:x0.g=i/\x0.act=.send p.c s) (h1:x1.g=0/\x1.act=.recv p.c s 0) (h2:x2.g=i/\x2.act=.sendDone p.c s) (h3:x3.g=0/\x3.act=.recvDone p.c s)
  (bz:w'.heap.size=w.heap.size) (f_:∀b,b≠p.c->w'.heap[b]?=w.heap[b]?) (ux:∃n,w'.heap[p.c]?=some (.chan 0 #[] false n n false)) (H2:w'.tape=w.tape) (hw5:w'.os=w.os) (hw6:w'.output=w.output):
  (∀b,V.own b≠none->mu B V₁ b=none)/\(∀b o,V.own b≠none->V₁.ah b o≠none->V.ah b o≠none)/\
  Inv P n0 W0 (oH V V₁.ah (mu B V₁) (.recv p.c p.Wg (p.Ss.set j S))) gs' w' (t++u) (upd K i (.work j h' (mo B V₁ (.work p.c p.Wg S)))) Im ic (some {p with Ss:=p.Ss.set j S}) st:=by
 obtain⟨du,hc,kX,iu⟩:=h.out;obtain⟨a1,a2,a3,a4,a5,a6,a7,a8,a9,b9⟩:=iu;rw[if_pos aM]at b9;obtain⟨⟨c1,c2,c3,c4⟩,c5,c6,s',c7,c8⟩:=b9;have DW:jO p V:=⟨c1,c2,c3,c4⟩;have xc:=(h.blind hi).ghost hg;have mO:bK V Im K i=(K i).view Im:=by simp[bK];omega
 have sQ:bK V Im K 0=V:=by simp[bK]
 have cV:Core (upd (bK V Im K) i V₁) gs.size w t (te (some p)) (nX (some p) gs.size ic K) ic n0 W0:=hc.ghost hlt (by rw[mO];exact hg);have da:Sat V₁ w:=by have:=cV.sat i hlt;rwa[bD]at this
 have cx:Sat V w:=by have:=cV.sat 0 h.pos;rwa[bk _ _ (by omega),sQ]at this
 have Gx:j5 V V₁:=by have:=cV.dV 0 i h.pos hlt (by omega);rwa[bk _ _ (show 0≠i by omega),bD,sQ]at this
 have RA:j5 V₁ V:=by have:=cV.dV i 0 hlt h.pos (by omega);rwa[bD,bk _ _ (show 0≠i by omega),sQ]at this
 have amv:∀b,V.own b≠none->mu B V₁ b=none:=λb hb=>by unfold mu;split;exact(Gx b hb).1;rfl
 refine⟨amv,λb o hb=>(Gx b hb).2 o,?_⟩;have jX:∀op∈u,op.act.touch?=none/\still op.act/\(op.g=0\/op.g=i)/\op.act.low w.heap.size/\∀a,op.act≠ .mark (.release a):=by intro op aB;rw[hu]at aB;simp only[UN,Tm,T5,or_false]at aB;rcases aB with rfl|rfl|rfl|rfl;rw[h0.2,h0.1];exact⟨rfl,⟨by simp,by simp⟩,.inr rfl,a4,by simp⟩;rw[h1.2,h1.1];exact⟨rfl,⟨by simp,by simp⟩,.inl rfl,a4,by simp⟩;rw[h2.2,h2.1];exact⟨rfl,⟨by simp,by simp⟩,.inr rfl,a4,by simp⟩;rw[h3.2,h3.1];exact⟨rfl,⟨by simp,by simp⟩,.inl rfl,a4,by simp⟩
 have oE:∀op∈u,still op.act:=λop aB=>(jX op aB).2.1;have vC:∀m,VS (t++u) m=VS t m:=λm=>Deaf_still oE;have d00:VS t 0=0:=by rw[h.d0,ik]
 have eI:∀idx,Xe t i idx->Xe (t++u) 0 idx:=λidx hx=>apA hu h0 (jX x1 (by rw[hu];simp)).2.1 (jX x2 (by rw[hu];simp)).2.1 h3 pn d00 hx;let k':GS:=.work j h' (mo B V₁ (.work p.c p.Wg S));let V':View:=oH V V₁.ah (mu B V₁) (.recv p.c p.Wg (p.Ss.set j S));have dg:∀m,((upd K i k') m).idx=(K m).idx:=λm=>by by_cases hm:m=i;subst hm;rw[bD,zd];rfl;rw[bk _ _ hm]
 have dD:(K i).shape=.work j .z noView:=by cases lC:K i<;>rw[lC]at zd<;>simp[GS.idx]at zd;subst zd;rfl;subst zd;rfl
 have mh:∀m,((upd K i k') m).shape=(K m).shape:=λm=>by by_cases hm:m=i;subst hm;rw[bD,dD];rfl;rw[bk _ _ hm]
 have qi:∀m,((upd K i k') m).cnt=(K m).cnt:=λm=>by rw[<- GS.oc,mh,GS.oc]
 have xr:∀m,((upd K i k') m).late=(K m).late:=λm=>by rw[<- GS.mT,mh,GS.mT]
 have eN:(K i).cnt=1:=by rw[<- GS.oc,dD];rfl
 have lM:=(h.counted hi hlt eN).2;have tr:bK V' Im (upd K i k') 0=V':=by simp[bK]
 have x8:bK V' Im (upd K i k') i=mo B V₁ (.work p.c p.Wg S):=by simp[bK,bD,k',GS.view];omega
 have x9:∀m,m≠0->m≠i->bK V' Im (upd K i k') m=upd (bK V Im K) i V₁ m:=λm h1 h2=>by simp[bK,bk _ _ h2,h1]
 have Fi:upd (bK V Im K) i V₁ 0=V:=by rw[bk _ _ (by omega),sQ]
 have xM:upd (bK V Im K) i V₁ i=V₁:=bD _ _ _;have kS:∀{U:View},jO p U->Sat U w->Sat U w':=λ{U} hb hs=>⟨λb o v e=>by
   have aN:b≠p.c:=λx=>(by rw[x,hb.2.1 o]at e;cases e);have:=hs.ah b o v e;simp only[VA,f_ b aN]at this⊢;exact this,λb x e=>by
   have aN:b≠p.c:=λy=>(by rw[y,hb.1]at e;cases e);rw[f_ b aN];exact hs.own b x e⟩
 have anI:Sat V' w:=⟨λb o v e=>by
   simp only[V',oH]at e;split at e;rename_i x hx;cases e;exact cx.ah b o _ hx
   ·exact da.ah b o v e,λb x e=>by
   simp only[V',oH]at e;split at e;rename_i y hy;cases e;exact cx.own b _ hy
   ·unfold mu at e;split at e;exact da.own b x e
    ·cases e⟩
 have DX:jO p V':=⟨by simp[V',oH,c1,mu,xc.1],λo=>by simp[V',oH,c2,xc.2.1],by simp[V',oH,c3,mu,xc.2.2.1],λo=>by simp[V',oH,c4,xc.2.2.2]⟩;have hsK:Sat (mo B V₁ (.work p.c p.Wg S)) w:=⟨da.ah,λb x e=>by
   simp only[mo]at e;split at e;cases e
   ·exact da.own b x e⟩
 have DV:jO p (mo B V₁ (.work p.c p.Wg S)):=⟨by simp[mo,xc.1],xc.2.1,by simp[mo,xc.2.2.1],xc.2.2.2⟩;have B5:∀b,V'.own b≠none->V.own b≠none\/(B b=true/\V₁.own b≠none):=λb hb=>by simp only[V',oH]at hb;split at hb;rename_i y hy;exact .inl (by rw[hy];simp);unfold mu at hb;split at hb;rename_i hB;exact .inr ⟨hB,hb⟩;exact absurd rfl hb
 have vZ:∀b o,V'.ah b o≠none<->(V.ah b o≠none\/V₁.ah b o≠none):=λb o=>by
  simp only[V',oH];cases e:V.ah b o with
  |some x=>simp
  |none=>simp
 have B6:∀b,(mo B V₁ (.work p.c p.Wg S)).own b≠none->B b=false/\V₁.own b≠none:=λb hb=>by simp only[mo]at hb;split at hb;exact absurd rfl hb;rename_i hB;exact⟨by simpa using hB,hb⟩
 have y_:Core (bK V' Im (upd K i k')) gs.size w' (t++u) (te (some p)) (nX (some p) gs.size ic K) ic n0 W0:=by
  refine⟨λm hm=> ?_,λa b ha hb im=> ?_,?_,H2.trans hc.tape,hw5.trans hc.os,hw6.trans hc.out,λb hb=>(f_ b (by omega)).trans (hc.old b hb),λm hm b hb=> ?_,by rw[bz];exact hc.n0⟩;by_cases jk:m=0;subst jk;rw[tr];exact kS DX anI;by_cases c_:m=i;subst c_;rw[x8];exact kS DV hsK;rw[x9 m jk c_,bk _ _ c_];have:=hc.sat m hm;refine kS ?_ this;have e:bK V Im K m=(K m).view Im:=(by simp[bK,jk]);rw[e];exact h.blind (by omega)
  ·
   have dm:∀m,m<gs.size->m≠0->m≠i->j5 (upd (bK V Im K) i V₁ m) V/\j5 V (upd (bK V Im K) i V₁ m)/\j5 (upd (bK V Im K) i V₁ m) V₁/\j5 V₁ (upd (bK V Im K) i V₁ m):=λm hm h1 h2=>⟨by have:=cV.dV m 0 hm h.pos h1;rwa[Fi]at this,by have:=cV.dV 0 m h.pos hm (Ne.symm h1);rwa[Fi]at this,by have:=cV.dV m i hm hlt h2;rwa[xM]at this,by have:=cV.dV i m hlt hm (Ne.symm h2);rwa[xM]at this⟩
   by_cases Bd:a=0;subst Bd;by_cases dA:b=i;subst dA;rw[tr,x8];intro q hq;rcases B5 q hq with x|⟨hB,x⟩;refine⟨?_,λo ho=>(vZ q o).2 (.inl ((Gx q x).2 o ho))⟩;simp only[mo];split;rfl;exact(Gx q x).1;refine⟨by simp only[mo,hB,if_true],λo ho=>(vZ q o).2 (.inr ho)⟩;have rl:b≠0:=Ne.symm im;rw[tr,x9 b rl dA];obtain⟨_,e2,_,e4⟩:=dm b hb rl dA;intro q hq;rcases B5 q hq with x|⟨_,x⟩;exact⟨(e2 q x).1,λo ho=>(vZ q o).2 (.inl ((e2 q x).2 o ho))⟩;exact⟨(e4 q x).1,λo ho=>(vZ q o).2 (.inr ((e4 q x).2 o ho))⟩;by_cases nw:a=i;subst nw;by_cases rl:b=0;subst rl;rw[tr,x8];intro q hq;obtain⟨hB,x⟩:=B6 q hq;refine⟨?_,λo ho=> ?_⟩;simp only[V',oH,(RA q x).1,mu,hB];rfl;rcases(vZ q o).1 ho with y|y;exact(RA q x).2 o y;exact y;rw[x8,x9 b rl (Ne.symm im)];obtain⟨_,_,_,e4⟩:=dm b hb rl (Ne.symm im);intro q hq;exact e4 q (B6 q hq).2;rw[x9 a Bd nw];obtain⟨e1,e2,e3,e4⟩:=dm a ha Bd nw;by_cases rl:b=0;subst rl;rw[tr];intro q hq;refine⟨?_,λo ho=>((vZ q o).1 ho).elim ((e1 q hq).2 o) ((e3 q hq).2 o)⟩;simp only[V',oH,(e1 q hq).1,mu,(e3 q hq).1,ite_self];by_cases dA:b=i;subst dA;rw[x8];intro q hq;refine⟨?_,(e3 q hq).2⟩;simp only[mo,(e3 q hq).1,ite_self];rw[x9 b rl dA];exact cV.dV a b ha hb im
  ·rw[bz];refine cV.ti.mute (λop aB=>(jX op aB).1) (λop aB=>(jX op aB).2.2.2.1) (λop aB=>((jX op aB).2.2.1).elim (λx=>by rw[x];exact h.pos) (λx=>by rw[x];exact hlt)) (Tv _) (λop aB=>(jX op aB).2.2.2.2) (λm hm l hl idx a ha io sT=> ?_) (λm hm l hl idx a ha io=> ?_) (λidx a ha dD=>⟨λhp m hm=>((cV.ti.sp idx a ha dD).1 hp m hm).app u,λhp=>((cV.ti.sp idx a ha dD).2 hp).app u⟩)
   ·obtain⟨_,cX,mI⟩:=hl;by_cases jk:m=0
    ·subst jk;rw[tr]at cX;have:iA V l\/iA V₁ l:=by
      cases l with
      |cell a'=>rcases cX with x|x;exact(B5 _ x).imp .inl (λy=> .inl y.2);exact((vZ _ _).1 x).imp .inr .inr
      |obj r=>exact(B5 _ cX).imp id (λy=>y.2)
      |_=>exact cX.elim
     rcases this with x|x;exact(cV.ti.kr 0 h.pos l ⟨h.pos,by rw[Fi];exact x,mI⟩ idx a ha io sT).app u;exact eI idx (cV.ti.kr i hlt l ⟨hlt,by rw[xM];exact x,mI⟩ idx a ha io sT)
    ·by_cases c_:m=i
     ·subst c_;rw[x8]at cX;have:iA V₁ l:=by
       cases l with
       |cell a'=>exact cX.imp (λx=>(B6 _ x).2) id
       |obj r=>exact(B6 _ cX).2
       |_=>exact cX.elim
      exact(cV.ti.kr m hm l ⟨hm,by rw[xM];exact this,mI⟩ idx a ha io sT).app u
     ·rw[x9 m jk c_]at cX;exact(cV.ti.kr m hm l ⟨hm,cX,mI⟩ idx a ha io sT).app u
   ·obtain⟨_,cX,mI⟩:=hl;by_cases jk:m=0
    ·subst jk;rw[tr]at cX;have:j7 V l\/j7 V₁ l:=by
      cases l with
      |cell a'=>
       have e9:V.ah a'.block a'.off=none:=by
        cases e:V.ah a'.block a'.off with
        |none=>rfl
        |some x=>exact absurd cX.2 ((vZ _ _).2 (.inl (by rw[e];simp)))
       have sG:V₁.ah a'.block a'.off=none:=by
        cases e:V₁.ah a'.block a'.off with
        |none=>rfl
        |some x=>exact absurd cX.2 ((vZ _ _).2 (.inr (by rw[e];simp)))
       exact(B5 _ cX.1).imp (λx=>⟨x,e9⟩) (λx=>⟨x.2,sG⟩)
      |obj r=>exact(B5 _ cX).imp id (λy=>y.2)
      |_=>exact cX.elim
     rcases this with x|x;exact(cV.ti.kw 0 h.pos l ⟨h.pos,by rw[Fi];exact x,mI⟩ idx a ha io).app u;exact eI idx (cV.ti.kw i hlt l ⟨hlt,by rw[xM];exact x,mI⟩ idx a ha io)
    ·by_cases c_:m=i
     ·subst c_;rw[x8]at cX;have:j7 V₁ l:=by
       cases l with
       |cell a'=>exact⟨(B6 _ cX.1).2,cX.2⟩
       |obj r=>exact(B6 _ cX).2
       |_=>exact cX.elim
      exact(cV.ti.kw m hm l ⟨hm,by rw[xM];exact this,mI⟩ idx a ha io).app u
     ·rw[x9 m jk c_]at cX;exact(cV.ti.kw m hm l ⟨hm,cX,mI⟩ idx a ha io).app u
  ·by_cases jk:m=0;subst jk;rw[tr];have e1:=cV.jJ 0 h.pos b hb;have e2:=cV.jJ i hlt b hb;rw[Fi]at e1;rw[xM]at e2;simp[V',oH,e1,mu,e2];by_cases c_:m=i;subst c_;rw[x8];have e2:=cV.jJ m hm b hb;rw[xM]at e2;simp[mo,e2];rw[x9 m jk c_];exact cV.jJ m hm b hb
 refine Inv.mk' (by rw[a_];exact h.pos) (by rw[bk _ _ (by omega)];exact h.k0) (by rw[vC];exact h.d0) (λm x hm hx=> ?_) ?_ ?_ ?_
 ·show (upd K i k' m).is P p.c p.Wg Im (p.Ss.set j S) (VS (t++u) m) x;rw[vC];by_cases c_:m=i;subst c_;rw[aR]at hx;cases hx;rw[bD];have fM:j<p.Ss.length:=(Tn.1 hS).1;exact⟨by rw[pn];exact hd.symm,hk,S,by simp[Ym fM],rfl⟩
  ·rw[hgo m c_ hm]at hx;rw[bk _ _ c_];have BO:=du m x hm hx;have Ei:m<gs.size:=(Tw.1 hx).1;have aN:(K m).idx≠some j:=λe=>c_ (a8 m i j hm Ei hi hlt e zd);cases LY:K m with
   |work j2 h2 V2=>rw[LY]at BO aN;obtain⟨b1,b2,S2,b3,b4⟩:=BO;exact⟨b1,b2,S2,by rw[Vd (λe=>aN (by rw[e];rfl))];exact b3,b4⟩
   |oN j2 h2 V2 V3 g2 v2 z2=>rw[LY]at BO aN;obtain⟨b1,b2,b3,b4,sp2,S2,B2,b5,b6⟩:=BO;exact⟨b1,b2,b3,b4,sp2,S2,B2,by rw[Vd (λe=>aN (by rw[e];rfl))];exact b5,b6⟩
   |_=>rw[LY]at BO;exact BO
 ·rw[a_];refine y_.C7 λm hm=> ?_;have gK:jv p gs.size ic (upd K i k') m:=hm;show jv p gs.size ic K m;unfold jv at gK⊢;rw[dg,qi,xr]at gK;exact gK
 ·show Rest p.Wg (t++u) (upd K i k') ic st;have zm:Rest p.Wg t K ic st:=kX;rw[lM]at zm⊢;exact zm.app (λidx a ha hx=> .inr (hx.app (by obtain⟨op,aB,_⟩:=VR ha;exact UI aB) λm _ _ hm=> .inl (by rw[dg];exact hm))) (λidx a _ ⟨op,aB,_,hx⟩ _=>by rw[(jX op aB).1]at hx;cases hx)
 ·refine⟨a1,a2,a3,by rw[bz];exact a4,by rw[bz];exact a5,by simpa using a6,λm hm=> ?_,λm m' q b1 b2 b3 b4 b5 b6=>a8 m m' q b1 (a_▸b2) b3 (a_▸b4) (by rw[<- dg];exact b5) (by rw[<- dg];exact b6),λq S2 b1 b2=> ?_,?_⟩;by_cases c_:m=i;subst c_;rw[bD];exact⟨DV.1,DV.2.1,DV.2.2.1,DV.2.2.2,λx=>by cases x⟩;rw[bk _ _ c_];exact a7 m hm
  ·rw[a_];by_cases hq:q=j;subst hq;exact⟨i,hi,hlt,by rw[dg];exact zd⟩
   ·have Ki:p.Ss[q]?=some S2:=by have:=b1;rwa[show ({p with Ss:=p.Ss.set j S}:Phase).Ss=p.Ss.set j S from rfl,Vd (Ne.symm hq)]at this
    obtain⟨m,e1,e2,e3⟩:=a9 q S2 Ki b2;exact⟨m,e1,e2,by rw[dg];exact e3⟩
  ·show if p.recv=true then _ else _;rw[if_pos aM];refine⟨⟨DX.1,DX.2.1,DX.2.2.1,DX.2.2.2⟩,c5,by rw[a_];exact c6,s',c7,?_⟩;have hle:(K i).cnt<=sumTo gs.size λi=>(K i).cnt:=Xj (f:=λi=>(K i).cnt) hlt;rw[a_];exact c8.aoq (by omega) mh ux (f_ _ (Ne.symm a3))
end
open Go.Conc Go.ConcN
open Go.Conc Go.ConcN
open Go.Conc Go.ConcN
open Go.Conc Go.ConcN
open Go.Conc Go.ConcN
open Go.Conc Go.ConcN
open Go.Conc Go.ConcN
section
variable {P:Tl}{n0:Nat}{W0:Us}{V:View}{gs gs':SR}{w w':Us}{sl:S9}{t:Vj}{K:Nat->GS}{Im:cC}{ic:Nat}{p:Phase}{st st':TJ}
def Inv.uL(h:Inv P n0 W0 V gs w t K Im ic (some p) st)(aM:p.recv=true){i:Nat}{gi bH:Ti}{es:SO}{k':GS}{s':eE}(hi:0<i)(aR:gs[i]?=some gi)(aU:stepG P false gi w=.go bH w' es)
  (hk:k'.is P p.c p.Wg Im p.Ss (deafBehind (VS t i) es) bH) (rC:nd (k'.view Im) ((K i).view Im))
  (y8:k'.n_=true->i=ic) (dg:k'.idx=none) (zb:∀j,(K i).idx=some j->p.Ss[j]?=some []/\∃r,Rel p.Wg (t++Uf i gi.frame.fn gi.frame.place es) i r/\t.size<=r)
  (kC:i=ic\/(K i).idx.isSome=true\/(K i).cnt=1\/(K i).late=1)
  (cw:∀e∈es,∀x,(Ut e).touch?=some x->(se p.c p.Wg x.loc/\x.kind=.atomic)\/(se p.c p.Wg x.loc/\x.kind=.said/\i=ic)\/(¬se p.c p.Wg x.loc/\iA ((K i).view Im) x.loc/\x.write=false))
  (iP:∀e∈es,(Ut e).low w.heap.size) (sL:∀e∈es,∀a,Ut e≠ .mark (.release a))
  (a_:w'.heap.size=w.heap.size) (jD:∀b,b≠p.c->b≠p.Wg->w'.heap[b]?=w.heap[b]?) (ht:w'.tape=w.tape) (ho:w'.os=w.os) (hu:w'.output=w.output)
  (zh:Mode P p.c p.Wg gs.size w' ((gs.map (woken P gi bH w')).setIfInBounds i bH) (t++Uf i gi.frame.fn gi.frame.place es) (upd K i k') ic s')
  (iq:(∃n,w'.heap[p.c]?=some (.chan 0 #[] false n n false))\/((∀j,0<j->j<gs.size->j≠i->(K j).idx=none)/\∀g,oV gs g p.c->kP ((gs.map (woken P gi bH w')).setIfInBounds i bH) g))
  (kX:Rest p.Wg (t++Uf i gi.frame.fn gi.frame.place es) (upd K i k') ic (some s'))
  (jX:CP gs.size ((λj=>(upd K i k' j).dh),flag ((gs.map (woken P gi bH w')).setIfInBounds i bH) ic) ((λj=>(K j).dh),flag gs ic)):ie P n0 W0 V gs w sl t K Im ic (some p) st i:=by
 have hlt:i<gs.size:=(Tw.1 aR).1;obtain⟨_,hc,_,hp⟩:=h.out;obtain⟨a1,a2,a3,a4,a5,a6,a7,a8,a9,b9⟩:=hp;rw[if_pos aM]at b9;obtain⟨c1,c2,c3,_⟩:=b9;have rL:bK V Im K i=(K i).view Im:=by simp[bK];omega
 have DW:∀j,j<gs.size->jO p (bK V Im K j):=λj _=>by by_cases hj:j=0;subst hj;rw[show bK V Im K 0=V by simp[bK]];exact⟨c1.1,c1.2.1,c1.2.2.1,c1.2.2.2⟩;simp only[bK,hj,if_false];exact h.blind (by omega)
 have aaM:nX (some p) gs.size ic K i:=by show jv p gs.size ic K i;unfold jv;rw[if_pos aM];exact⟨hi,hlt,by rcases kC with x|x|x|x;exact .inr (.inl x);exact .inl x;exact .inr (.inr (.inl x));exact .inr (.inr (.inr x))⟩
 refine h.acM (st':=some s') hi aR aU hk (λhb=> ?_) (λq hq=>by cases hq;exact iq.imp id And.left) ?_ kX ?_ jX ?_;rcases GS.runs hk with x|⟨x,_⟩|⟨_,_,_,_,_,_,_,e⟩|⟨_,_,x⟩;rw[x]at hb;cases hb;rw[x]at hb;cases hb;rw[e]at dg;cases dg;exact x
 ·rw[PN V Im K hi];have dD:=hc.uL hlt (es:=es) (w':=w') (λe he x hx=>by
    rcases cw e he x hx with⟨x1,x2⟩|⟨x1,x2,x3⟩|⟨x1,x2,x3⟩;exact .inl ⟨x1,x2,aaM⟩;exact .inr (.inl ⟨x1,x2,x3,aaM⟩)
    ·exact .inr (.inr ⟨x1,.inr (.inl ⟨⟨hlt,by rw[rL];exact x2,x1⟩,x3⟩)⟩)) iP sL (λb=>b=p.c\/b=p.Wg)
   (λb hb=>by
    rcases hb with rfl|rfl;exact⟨a1,λj hj=>⟨(DW j hj).1,(DW j hj).2.1⟩⟩
    ·exact⟨a2,λj hj=>⟨(DW j hj).2.2.1,(DW j hj).2.2.2⟩⟩) a_ (λb hb=>jD b (λx=>hb (.inl x)) (λx=>hb (.inr x))) ht ho hu gi.frame.fn gi.frame.place
  refine(dD.less (V':=k'.view Im) hlt (by rw[rL];exact rC)).C7 λm hm=> ?_;have gK:jv p gs.size ic (upd K i k') m:=hm;show jv p gs.size ic K m;unfold jv at gK⊢;rw[if_pos aM]at gK⊢;by_cases c_:m=i
  ·subst c_;exact⟨hi,hlt,by rcases kC with x|x|x|x;exact .inr (.inl x);exact .inl x;exact .inr (.inr (.inl x));exact .inr (.inr (.inr x))⟩
  ·rw[bk _ _ c_]at gK;exact gK
 ·refine h.OS (by simp) (by omega) ?_ y8 (.inr ⟨dg,λj hj=>(zb j hj).1⟩) ?_;have hb:=h.blind hi;exact⟨(rC.1 _).elim id (λx=>x.trans hb.1),λo=>(rC.2.1 _ o).elim id (λx=>x.trans (hb.2.1 o)),(rC.1 _).elim id (λx=>x.trans hb.2.2.1),λo=>(rC.2.1 _ o).elim id (λx=>x.trans (hb.2.2.2 o))⟩;rw[if_pos aM];exact⟨s',rfl,zh⟩
 ·intro g c sD;refine⟨Ot hi,λjF _=> ?_⟩;rw[<- sD p rfl]at jF⊢;rcases iq with x|⟨_,x⟩;exact .inr ⟨OQ hi jF x,x⟩;exact .inl (x g jF)
def Mode.aop{c Wg N:Nat}{u:Vj}{K':Nat->GS}{s:eE}(h:Mode P c Wg N w gs t K ic s)(e1:sumTo N (λi=>(K' i).cnt)=sumTo N λi=>(K i).cnt)(e2:sumTo N (λi=>(K' i).late)=sumTo N λi=>(K i).late)
  (e4:(K' ic).shape=(K ic).shape) (e5:∀i,i<N->((K' i).shape=.load 0\/(K' i).shape=.store 0)->((K i).shape=.load 0\/(K i).shape=.store 0)) (e6:∀i,i<N->(K' i).shape=.mX 0->(K i).shape=.mX 0) (hc:w'.heap[c]?=w.heap[c]?) (hW:w'.heap[Wg]?=w.heap[Wg]?)
  (hr:(∀g,gs[ic]?=some g->g.status=.running)->∀g,gs'[ic]?=some g->g.status=.running):Mode P c Wg N w' gs' (t++u) K' ic s:=by
 have e3:∀st sm,WgAt P Wg w' st sm=WgAt P Wg w st sm:=λst sm=>by unfold WgAt;rw[hW]
 unfold Mode at h⊢;simp only[e1,e2,e3,e4,hc];rcases h with h|h|h|h|h|h|h;exact .inl h;exact .inr (.inl h);exact .inr (.inr (.inl ⟨h.1,h.2.1,h.2.2.1,h.2.2.2.1,h.2.2.2.2.1,λi hi x=>h.2.2.2.2.2.1 i hi (e5 i hi x),λi hi x=>h.2.2.2.2.2.2 i hi (e6 i hi x)⟩));exact .inr (.inr (.inr (.inl ⟨h.1,h.2.1,h.2.2.1,h.2.2.2.1,h.2.2.2.2.1,hr h.2.2.2.2.2.1,h.2.2.2.2.2.2⟩)));exact .inr (.inr (.inr (.inr (.inl h))));exact .inr (.inr (.inr (.inr (.inr (.inl h)))));obtain⟨⟨p,n,a,b,c',d⟩,e⟩:=h;exact .inr (.inr (.inr (.inr (.inr (.inr ⟨⟨p,n,a,by rw[Zi (Xo b)];exact b,(Xb (Xo b)).2 c',d⟩,e⟩)))))
def Mode.waits{c Wg N:Nat}{s:eE}(h:Mode P c Wg N w gs t K ic s):(K ic).cnt=0/\(K ic).late=0:=by rw[<- GS.oc,<- GS.mT];rcases h with h|h|h|h|h|h|h;rcases h.2.2.2.2.2 with⟨_,e,_⟩|⟨_,e,_⟩<;>rw[e]<;>exact⟨rfl,rfl⟩;rcases h.2.2.2.2.2.2 with e|e<;>rw[e]<;>exact⟨rfl,rfl⟩;rcases h.2.2.2.2.1 with e|e<;>rw[e]<;>exact⟨rfl,rfl⟩;rcases h.2.2.2.2.2.2 with e|e<;>rw[e]<;>exact⟨rfl,rfl⟩;rcases h.2.2.2.2.2 with e|e<;>rw[e]<;>exact⟨rfl,rfl⟩;rcases h.2.2.2.2 with e|e<;>rw[e]<;>exact⟨rfl,rfl⟩;rw[h.2.2.2];exact⟨rfl,rfl⟩
def zO{i:Nat}{k':GS}{a b:Nat}(hlt:i<gs.size)(hr:r_ k'.dh (K i).dh):CP gs.size ((λj=>(upd K i k' j).dh),a) ((λj=>(K j).dh),b):=
 .inl ⟨i,hlt,by simpa only[bD]using hr,λj hj=>by show (upd K i k' j).dh=(K j).dh;rw[bk _ _ hj]⟩
def Inv.mode(h:Inv P n0 W0 V gs w t K Im ic (some p) st)(aM:p.recv=true):∃s,st=some s/\0<ic/\ic<gs.size/\Mode P p.c p.Wg gs.size w gs t K ic s:=by have hx:=h.phase.2.2.2.2.2.2.2.2.2;rw[if_pos aM]at hx;obtain⟨_,h1,h2,s,h3,h4⟩:=hx;exact⟨s,h3,h1,h2,h4⟩
def ofEvents_one{i:Nat}{fn:UR}{pos:String}{e:W8}:Uf i fn pos #[e]=#[{g:=i,fn,pos,act:=.ofEvent e}]:=by simp[Uf]
def Rl{t u:Vj}{g:Nat}:(t++u).deaf g t.size=VS t g:=deaf_old (Tv _)
def It(U:View):nd noView U:=⟨λ_=> .inl rfl,λ_ _=> .inl rfl,λb hb=>absurd rfl hb⟩
def Inv.release(h:Inv P n0 W0 V gs w t K Im ic (some p) st)(aM:p.recv=true){i j:Nat}{gi:Ti}{hh:Ht}{Vi V₁:View}{c Wg:Nat}(hi:0<i)(aR:gs[i]?=some gi)(hK:K i=.work j hh Vi)(hg:eg Vi V₁)
  (hr:V₁.role=.work c Wg []) (hd:V₁.deaf=0) (hf:F3 P Wg gi):ie P n0 W0 V gs w sl t K Im ic (some p) st i:=by
 have hlt:i<gs.size:=(Tw.1 aR).1;have du:=h.is i gi hi aR;simp only[hK,GS.is]at du;obtain⟨bC,_,S,hS,jG⟩:=du;rw[hg.role,jG]at hr;cases hr;have eN:(K i).cnt=1:=by rw[hK];rfl
 obtain⟨⟨n,iq⟩,lM⟩:=h.counted hi hlt eN;obtain⟨s,hs,gZ,ji,hm⟩:=h.mode aM;rw[lM]at hs;cases hs;obtain⟨bQ,g',lN,m,cy⟩:=hf;have aN:i≠ic:=λe=>by have:=(Mode.waits hm).1;rw[<- e,eN]at this;cases this
 have aE:VS t i=0:=by rw[bC,<- hg.deaf,hd]
 have sN:Rel p.Wg (t++Uf i gi.frame.fn gi.frame.place #[kA (.releaseMerge (eo p.Wg))]) i t.size:=by rw[ofEvents_one];have e:(#[({g:=i,fn:=gi.frame.fn,pos:=gi.frame.place,act:=.ofEvent (kA (.releaseMerge (eo p.Wg)))}:W7)]:Vj)[0]?=some _:=rfl;have g0:=sq (t:=t) e;exact⟨ZO g0,by simp[Xu,g0],heard_new e rfl (by rw[show t.size+0=t.size from rfl,Rl];exact aE)⟩
 have oz:∀e∈#[kA (.releaseMerge (eo p.Wg))],e=kA (.releaseMerge (eo p.Wg)):=λe he=>by simpa using he
 refine h.uL aM (k':=.add m) (s':=.early) hi aR (lN w) ?_ (by rw[hK];exact It _) (λx=>by cases x) rfl (λj' iW=> ?_) (.inr (.inr (.inl eN))) (λe he x hx=> ?_) (λe he=> ?_) (λe he a=> ?_) rfl (λ_ _ _=>rfl) rfl rfl rfl ?_ (.inl ⟨n,iq⟩) ?_ (zO hlt ?_);show cZ P (CF P p.Wg) m _ g';rw[aE];exact cy;rw[hK]at iW;cases iW;exact⟨hS,t.size,sN,Tv _⟩;rw[oz e he]at hx;cases hx;rw[oz e he];exact h.low.2;rw[oz e he];simp[kA,Ut];refine hm.aop (lV K _ GS.cnt (by rw[eN];rfl)) (lV K _ GS.late (by rw[hK];rfl)) (by rw[bk _ _ (Ne.symm aN)]) (λm hm=> ?_) (λm hm=> ?_) rfl rfl (adK hlt ?_);by_cases c_:m=i;subst c_;rw[bD];intro x;rcases x with x|x<;>cases x;rw[bk _ _ c_];exact id;by_cases c_:m=i;subst c_;rw[bD];intro x;cases x;rw[bk _ _ c_];exact id;exact cZ.running (λd g x=>x.2.1) cy;have hr:Rest p.Wg t K ic st:=h.out.2.2.1;rw[lM]at hr;refine hr.app (λidx a ha hx=> .inr (hx.app (by obtain⟨op,aB,_⟩:=VR ha;exact UI aB) λm xn _ hm=> ?_)) (λidx a _ ⟨op,aB,_,hx⟩ _=> ?_);by_cases c_:m=i;subst c_;exact .inr ⟨t.size,sN,by obtain⟨op,aB,_⟩:=VR ha;exact Nat.le_of_lt (UI aB)⟩;rw[bk _ _ c_];exact .inl hm;rw[ofEvents_one]at aB;simp only[UN,Tm,T5,or_false]at aB;subst aB;cases hx;rw[hK];refine .inl ?_;simp only[GS.dh,jG];omega
def Atom (a:Wy)(es:SO):Prop:=es=#[jx a]\/es=#[lA a]\/es=#[jx a,lA a]\/es=Ck a
def Atom.mem{a:Wy}{es:SO}(h:Atom a es){e:W8}(he:e∈es):e=jx a\/e=lA a\/e=kA .disable\/e=kA .enable:=by rcases h with rfl|rfl|rfl|rfl<;>simp only[Ck,UN,Tm,T5,or_false]at he;exact .inl he;exact .inr (.inl he);exact he.imp id .inl;rcases he with x|x|x|x;exact .inr (.inr (.inl x));exact .inl x;exact .inr (.inl x);exact .inr (.inr (.inr x))
def Atom.behind{a:Wy}{es:SO}(h:Atom a es):deafBehind 1 es=1:=by rcases h with rfl|rfl|rfl|rfl<;>rfl
def Atom.touch{a:Wy}{es:SO}(h:Atom a es){e:W8}(he:e∈es){x:ZU}(hx:(Ut e).touch?=some x):x.loc=.cell a/\x.kind=.atomic:=by rcases h.mem he with rfl|rfl|rfl|rfl;cases hx;exact⟨rfl,rfl⟩;cases hx;exact⟨rfl,rfl⟩;cases hx;cases hx
def Atom.low{a:Wy}{es:SO}(h:Atom a es){n:Nat}(ha:a.block<n){e:W8}(he:e∈es):(Ut e).low n:=by rcases h.mem he with rfl|rfl|rfl|rfl;exact ha;exact ha;trivial;trivial
def Atom.norel{a:Wy}{es:SO}(h:Atom a es){e:W8}(he:e∈es)(b:Wy):Ut e≠ .mark (.release b):=by rcases h.mem he with rfl|rfl|rfl|rfl<;>simp[jx,lA,kA,Ut]
def Atom.auS{a:Wy}{es:SO}(h:Atom a es){i:Nat}{fn:UR}{pos:String}(hd:VS t i=1){idx:Nat}{op:W7}{x:ZU}(dg:t.size<=idx)(aB:(t++Uf i fn pos es)[idx]?=some op)(hx:op.act.touch?=some x):
  ¬(t++Uf i fn pos es).heard idx:=by
 obtain⟨k,rfl⟩:∃k,idx=t.size+k:=⟨idx-t.size,by omega⟩;have un:(Uf i fn pos es)[k]?=some op:=by rw[Zj (by omega)]at aB;simpa using aB
 have aR:op.g=i:=by obtain⟨e,_,rfl⟩:=UO (XM un);rfl
 rintro⟨g,hg,hz⟩
 have:g=i:=by simp[Xu,aB,aR]at hg;exact hg.symm
 subst this;have Co:∀y:W7,y.act=Ut (jx a)\/y.act=Ut (lA a)->still y.act:=λy hy=>by rcases hy with e|e<;>rw[e]<;>exact⟨by simp[jx,lA,Ut],by simp[jx,lA,Ut]⟩
 rcases h with rfl|rfl|rfl|rfl;have:=vd (t:=t) (u:=Uf g fn pos #[jx a]) (g:=g) (λop aB=>by obtain⟨e,he,rfl⟩:=UO aB;simp only[UN,Tm,T5,or_false]at he;subst he;exact Co _ (.inl rfl)) (k:=k) (by have:=UI un;omega);omega;have:=vd (t:=t) (u:=Uf g fn pos #[lA a]) (g:=g) (λop aB=>by obtain⟨e,he,rfl⟩:=UO aB;simp only[UN,Tm,T5,or_false]at he;subst he;exact Co _ (.inr rfl)) (k:=k) (by have:=UI un;omega);omega;have:=vd (t:=t) (u:=Uf g fn pos #[jx a,lA a]) (g:=g) (λop aB=>by obtain⟨e,he,rfl⟩:=UO aB;simp only[UN,Tm,T5,or_false]at he;rcases he with rfl|rfl;exact Co _ (.inl rfl);exact Co _ (.inr rfl)) (k:=k) (by have:=UI un;omega);omega
 ·
  have eu:Uf g fn pos (Ck a)=#[{g,fn,pos,act:=.mark .disable},{g,fn,pos,act:=.ofEvent (jx a)},{g,fn,pos,act:=.ofEvent (lA a)},{g,fn,pos,act:=.mark .enable}]:=by simp[Uf,Ck,kA,Ut]
  rw[eu]at un hz;have d0:(t++#[({g,fn,pos,act:=.mark .disable}:W7),{g,fn,pos,act:=.ofEvent (jx a)},{g,fn,pos,act:=.ofEvent (lA a)},{g,fn,pos,act:=.mark .enable}]).deaf g t.size=1:=by rw[Rl];exact hd
  have d1:=Zx (g:=g) (sq (t:=t) (show (#[({g,fn,pos,act:=.mark .disable}:W7),{g,fn,pos,act:=.ofEvent (jx a)},{g,fn,pos,act:=.ofEvent (lA a)},{g,fn,pos,act:=.mark .enable}]:Vj)[0]?=some _ from rfl));have d2:=Zx (g:=g) (sq (t:=t) (show (#[({g,fn,pos,act:=.mark .disable}:W7),{g,fn,pos,act:=.ofEvent (jx a)},{g,fn,pos,act:=.ofEvent (lA a)},{g,fn,pos,act:=.mark .enable}]:Vj)[1]?=some _ from rfl));have d3:=Zx (g:=g) (sq (t:=t) (show (#[({g,fn,pos,act:=.mark .disable}:W7),{g,fn,pos,act:=.ofEvent (jx a)},{g,fn,pos,act:=.ofEvent (lA a)},{g,fn,pos,act:=.mark .enable}]:Vj)[2]?=some _ from rfl));rw[KA (Co _ (.inl rfl))]at d2;rw[KA (Co _ (.inr rfl))]at d3;simp only[Vr]at d1;rw[d0]at d1;have d1:=d1.trans (show deafStep g 1 {g,fn,pos,act:=.mark .disable}=2 by simp[deafStep]);have hk:k<4:=by have:=UI un;simpa using this
  match k,hk with
  |0,_=>simp at un;subst un;cases hx
  |1,_=>rw[d1]at hz;omega
  |2,_=>rw[show t.size+2=t.size+1+1 from rfl,d2,d1]at hz;omega
  |3,_=>simp at un;subst un;cases hx
def Rest.atom{Wg:Nat}{s:eE}(hr:Rest Wg t K ic (some s)){a:Wy}{es:SO}(h:Atom a es){i:Nat}{fn:UR}{pos:String}(hd:VS t i=1){K':Nat->GS}(dg:∀m,(K' m).idx=(K m).idx):Rest Wg (t++Uf i fn pos es) K' ic (some s):=by refine hr.app (λidx a ha hx=> .inr (hx.app (by obtain⟨op,aB,_⟩:=VR ha;exact UI aB) λm _ _ hm=> .inl (by rw[dg];exact hm))) (λidx x hi ⟨op,aB,zb,hx⟩ _=> .inr (.inl ⟨?_,h.auS hd hi zb hx⟩));obtain⟨e,he,rfl⟩:=UO aB;exact(h.touch he hx).2
def WgAt.Ja{Wg:Nat}{a b:Int}(h:WgAt P Wg w a b)(v:Int):WgAt P Wg (w.setCell (eo Wg) (.int .u64 v)) v b:=by unfold WgAt at h⊢;unfold XQ;rw[Wr];simp[eo,h,wgBlock]
def WgAt.aea{Wg:Nat}{a b:Int}(h:WgAt P Wg w a b)(v:Int):WgAt P Wg (w.setCell (pL Wg) (.int .u32 v)) a v:=by unfold WgAt at h⊢;unfold XQ;rw[Wr];simp[pL,h,wgBlock]
def WgAt.inj{Wg:Nat}{a b a' b':Int}(h:WgAt P Wg w a b)(k:WgAt P Wg w a' b'):a=a'/\b=b':=by unfold WgAt at h k;rw[h]at k;simp[wgBlock]at k;exact k
def Inv.Gj(h:Inv P n0 W0 V gs w t K Im ic (some p) st)(aM:p.recv=true){i:Nat}{gi bH:Ti}{es:SO}{k':GS}{s:eE}{a:Wy}(hs:st=some s)(hi:0<i)(aR:gs[i]?=some gi)(aU:stepG P false gi w=.go bH w' es)(hd:VS t i=1)
  (ha:Atom a es) (Be:a=eo p.Wg\/a=pL p.Wg) (oF:w'=w\/∃x,w'=w.setCell a x) (hk:k'.is P p.c p.Wg Im p.Ss 1 bH) (rC:nd (k'.view Im) ((K i).view Im)) (y8:k'.n_=true->i=ic) (dg:k'.idx=none) (vI:(K i).idx=none)
  (kC:i=ic\/(K i).cnt=1\/(K i).late=1) (iq:∃n,w.heap[p.c]?=some (.chan 0 #[] false n n false))
  (zh:Mode P p.c p.Wg gs.size w' ((gs.map (woken P gi bH w')).setIfInBounds i bH) (t++Uf i gi.frame.fn gi.frame.place es) (upd K i k') ic s) (vR:r_ k'.dh (K i).dh):ie P n0 W0 V gs w sl t K Im ic (some p) st i:=by
 have hlt:i<gs.size:=(Tw.1 aR).1;have xe:a.block=p.Wg:=by rcases Be with rfl|rfl<;>rfl
 have sC:p.c≠p.Wg:=h.phase.2.2.1;have jD:∀b,b≠p.Wg->w'.heap[b]?=w.heap[b]?:=λb hb=>by rcases oF with rfl|⟨x,rfl⟩;rfl;exact xi _ _ _ (by rw[xe];exact Ne.symm hb)
 have a_:w'.heap.size=w.heap.size:=by rcases oF with rfl|⟨x,rfl⟩;rfl;exact FA _ _ _
 refine h.uL aM hi aR aU (by rw[hd,ha.behind];exact hk) rC y8 dg (λj hj=>by rw[vI]at hj;cases hj) (kC.imp id .inr) (λe he x hx=> .inl ?_) (λe he=>ha.low (by rw[xe];exact h.low.2) he) (λe he b=>ha.norel he b) a_ (λb _ hb=>jD b hb)
  (by rcases oF with rfl|⟨x,rfl⟩<;>rfl) (by rcases oF with rfl|⟨x,rfl⟩<;>rfl) (by rcases oF with rfl|⟨x,rfl⟩<;>rfl) zh (.inl (by rw[jD _ sC];exact iq)) ?_ (zO hlt vR)
 ·have:=ha.touch he hx;exact⟨by rw[this.1];exact xe,this.2⟩
 ·have hr:Rest p.Wg t K ic st:=h.out.2.2.1;rw[hs]at hr;exact hr.atom ha hd λm=>by by_cases hm:m=i;subst hm;rw[bD,dg,vI];rw[bk _ _ hm]
def Inv.ags(h:Inv P n0 W0 V gs w t K Im ic (some p) st)(aM:p.recv=true){i n:Nat}{gi:Ti}(hi:0<i)(aR:gs[i]?=some gi)(hK:K i=.add n)(jY:CF P p.Wg (VS t i) gi):ie P n0 W0 V gs w sl t K Im ic (some p) st i:=by
 have hlt:i<gs.size:=(Tw.1 aR).1;obtain⟨s,hs,gZ,ji,hm⟩:=h.mode aM;have eN:(K i).cnt=1:=by rw[hK];rfl
 have fN:(K i).late=0:=by rw[hK];rfl
 have vI:(K i).idx=none:=by rw[hK];rfl
 have iq:=(h.counted hi hlt eN).1;have aN:ic≠i:=λe=>by have:=(Mode.waits hm).1;rw[e,eN]at this;cases this
 obtain⟨hd,bQ,HU⟩:=jY;have hle:(K i).cnt<=sumTo gs.size λi=>(K i).cnt:=Xj (f:=λi=>(K i).cnt) hlt;have sC:p.c≠p.Wg:=h.phase.2.2.1;have hq:∀(k':GS),sumTo gs.size (λa=>(upd K i k' a).cnt)+(K i).cnt=sumTo gs.size (λa=>(K a).cnt)+k'.cnt:=λk'=>Cp K k' GS.cnt hlt;have uq:∀(k':GS),sumTo gs.size (λa=>(upd K i k' a).late)+(K i).late=sumTo gs.size (λa=>(K a).late)+k'.late:=λk'=>Cp K k' GS.late hlt;have rC:∀k':GS,k'.view Im=noView->nd (k'.view Im) ((K i).view Im):=λk' e=>by rw[e];exact It _
 have leave:∀(wt v:Nat),wt<=1->v+1=(sumTo gs.size λi=>(K i).cnt)->v<4->¬(v=0/\wt=1)->s=.early->(sumTo gs.size λi=>(K i).late)=0->WgAt P p.Wg w (((v+1:Nat):Int)* KK+wt) 0->
   ((wt=0/\((∃k,(K ic).shape=.head k 0/\v<k)\/(∃u,(K ic).shape=.mE u 0/\v<=u/\0<u)))\/(wt=1/\((K ic).shape=.said 0\/(K ic).shape=.iL 0)))->ie P n0 W0 V gs w sl t K Im ic (some p) st i:=by
  intro wt v vW hv HZ ew Ez awq hW aY;obtain⟨g',aU,_,mL⟩:=HU v wt vW HZ;obtain⟨q,mL⟩:=mL ew;have Es:=hq (.gone q);have Er:=uq (.gone q);simp only[eN,fN]at Es Er;rw[show (GS.gone q).cnt=0 from rfl]at Es;rw[show (GS.gone q).late=0 from rfl]at Er;refine h.Gj aM (k':=.gone q) (a:=eo p.Wg) hs hi aR (aU w hW) hd (.inr (.inr (.inl rfl))) (.inl rfl) (.inr ⟨_,rfl⟩) mL (rC _ rfl) (λx=>by cases x) rfl vI (.inr (.inl eN)) iq ?_ (by rw[hK];exact .inl (by simp[GS.dh]));have w9:=hW.Ja ((v:Int)* KK+wt);unfold Mode;simp only[bk _ _ aN];have KU:sumTo gs.size (λa=>(upd K i (.gone q) a).cnt)=v:=by omega
  have KX:sumTo gs.size (λa=>(upd K i (.gone q) a).late)=0:=by omega
  simp only[KU,KX];have ho:∃n,(w.setCell (eo p.Wg) (.int .u64 ((v:Int)* KK+wt))).heap[p.c]?=some (.chan 0 #[] false n n false):=by obtain⟨n,hn⟩:=iq;exact⟨n,by rw[xi _ _ _ (Ne.symm sC)];exact hn⟩
  rcases aY with⟨rfl,aY⟩|⟨rfl,aY⟩;exact .inl ⟨ho,Ez,trivial,by omega,by simpa using w9,aY⟩;exact .inr (.inl ⟨ho,Ez,trivial,by omega,by omega,by simpa using w9,aY⟩)
 unfold Mode at hm;rcases hm with m|m|m|m|m|m|m;obtain⟨m1,m2,m3,m4,m5,m6⟩:=m;refine leave 0 ((sumTo gs.size λi=>(K i).cnt)-1) (by omega) (by omega) (by omega) (by omega) m2 m3 ?_ (.inl ⟨rfl,?_⟩);(rw[show (sumTo gs.size λi=>(K i).cnt)-1+1=(sumTo gs.size λi=>(K i).cnt) by omega];simpa using m5);rcases m6 with⟨k,e1,e2⟩|⟨u,e1,e2,e3⟩;exact .inl ⟨k,e1,by omega⟩;exact .inr ⟨u,e1,by omega,e3⟩
 ·obtain⟨m1,m2,m3,m4,m5,m6,m7⟩:=m;by_cases hv:(sumTo gs.size λi=>(K i).cnt)=1
  ·
   obtain⟨g',aU,fE,_⟩:=HU 0 1 (by omega) (by omega);obtain⟨n',fE⟩:=fE ⟨rfl,rfl⟩;have Es:=hq (.load n');have Er:=uq (.load n');simp only[eN,fN]at Es Er;rw[show (GS.load n').cnt=0 from rfl]at Es;rw[show (GS.load n').late=1 from rfl]at Er;rw[hv]at m6;have hW:WgAt P p.Wg w (((0+1:Nat):Int)* KK+(1:Nat)) 0:=(by simpa using m6);refine h.Gj aM (k':=.load n') (a:=eo p.Wg) hs hi aR (aU w hW) hd (.inr (.inr (.inl rfl))) (.inl rfl) (.inr ⟨_,rfl⟩) fE (rC _ rfl) (λx=>by cases x) rfl vI (.inr (.inl eN)) iq ?_ (by rw[hK];exact .inl (by simp[GS.dh]));have w9:=hW.Ja (((0:Nat):Int)* KK+(1:Nat));unfold Mode;simp only[bk _ _ aN];have KU:sumTo gs.size (λa=>(upd K i (.load n') a).cnt)=0:=(by omega);have KX:sumTo gs.size (λa=>(upd K i (.load n') a).late)=1:=(by omega);simp only[KU,KX];have ho:∃n,(w.setCell (eo p.Wg) (.int .u64 (((0:Nat):Int)* KK+(1:Nat)))).heap[p.c]?=some (.chan 0 #[] false n n false):=by obtain⟨n,hn⟩:=iq;exact⟨n,by rw[xi _ _ _ (Ne.symm sC)];exact hn⟩
   refine .inr (.inr (.inl ⟨ho,m2,trivial,trivial,m7,λ_ _ _=>by simpa using w9,λm hm rH=> ?_⟩));exfalso;have c_:m≠i:=λe=>(by subst e;rw[bD]at rH;cases rH);rw[bk _ _ c_]at rH;have hlm:(K m).late<=sumTo gs.size λi=>(K i).late:=Xj (f:=λi=>(K i).late) hm;rw[m3,<- GS.mT,rH]at hlm;simp[GS.late]at hlm
  ·refine leave 1 ((sumTo gs.size λi=>(K i).cnt)-1) (by omega) (by omega) (by omega) (by omega) m2 m3 ?_ (.inr ⟨rfl,m7⟩);rw[show (sumTo gs.size λi=>(K i).cnt)-1+1=(sumTo gs.size λi=>(K i).cnt) by omega];simpa using m6
 ·have:=m.2.2.2.1;omega
 ·have:=m.2.2.2.1;omega
 ·have:=m.2.2.2.1;omega
 ·have:=m.2.2.2.1;omega
 ·have:=m.2.2.1;omega
def Mode.ER{c Wg N:Nat}{s:eE}(hm:Mode P c Wg N w gs t K ic s){i:Nat}(hlt:i<N)(fN:(K i).late=1):
  (∃n,w.heap[c]?=some (.chan 0 #[] false n n false))/\s=.early/\(sumTo N λi=>(K i).late)=1/\(sumTo N λi=>(K i).cnt)=0/\((K ic).shape=.said 0\/(K ic).shape=.iL 0)/\
  (((K i).shape=.load 0\/(K i).shape=.store 0)->WgAt P Wg w 1 0)/\((K i).shape=.mX 0->WgAt P Wg w 0 0):=by
 have hle:(K i).late<=sumTo N λi=>(K i).late:=Xj (f:=λi=>(K i).late) hlt;unfold Mode at hm;rcases hm with m|m|m|m|m|m|m
 ·have:=m.2.2.1;omega
 ·have:=m.2.2.1;omega
 ·exact⟨m.1,m.2.1,m.2.2.1,m.2.2.2.1,m.2.2.2.2.1,m.2.2.2.2.2.1 i hlt,m.2.2.2.2.2.2 i hlt⟩
 ·have:=m.2.2.1;omega
 ·have:=m.2.2.1;omega
 ·have:=m.2.2.1;omega
 ·have:=m.2.1;omega
def ac9{N:Nat}(h:(sumTo N λi=>(K i).late)=1){i m:Nat}(hi:i<N)(hm:m<N)(aN:m≠i)(fN:(K i).late=1):(K m).late=0:=by have:=Cp K (.gone 0) GS.late hi;have h2:((upd K i (.gone 0)) m).late<=sumTo N λa=>(upd K i (.gone 0) a).late:=Xj (f:=λa=>(upd K i (.gone 0) a).late) hm;rw[bk _ _ aN]at h2;simp only[fN,h,show (GS.gone 0).late=0 from rfl]at this;omega
def Inv.Oc(h:Inv P n0 W0 V gs w t K Im ic (some p) st)(aM:p.recv=true){i:Nat}{gi bH:Ti}{es:SO}{k':GS}{a:Wy}(hi:0<i)(aR:gs[i]?=some gi)(aU:stepG P false gi w=.go bH w' es)(hd:VS t i=1)
  (ha:Atom a es) (Be:a=eo p.Wg\/a=pL p.Wg) (oF:w'=w\/∃x,w'=w.setCell a x) (hk:k'.is P p.c p.Wg Im p.Ss 1 bH) (hv:k'.view Im=noView) (dg:k'.idx=none) (vI:(K i).idx=none) (qi:(K i).cnt=0) (amh:k'.cnt=0) (y8:k'.n_=false) (fN:(K i).late=1)
  (ue:(k'.late=1/\((k'.shape=.load 0\/k'.shape=.store 0)->WgAt P p.Wg w' 1 0)/\(k'.shape=.mX 0->WgAt P p.Wg w' 0 0))\/
   (k'.late=0/\WgAt P p.Wg w' 0 1/\∀g,((gs.map (woken P gi bH w')).setIfInBounds i bH)[ic]?=some g->g.status=.running)) (vR:r_ k'.dh (K i).dh):ie P n0 W0 V gs w sl t K Im ic (some p) st i:=by
 have hlt:i<gs.size:=(Tw.1 aR).1;obtain⟨s,hs,gZ,ji,hm⟩:=h.mode aM;obtain⟨m1,m2,m3,m4,m5,m6,m7⟩:=hm.ER hlt fN;have aN:ic≠i:=λe=>by have:=(Mode.waits hm).2;rw[e,fN]at this;cases this
 have sC:p.c≠p.Wg:=h.phase.2.2.1;have xe:a.block=p.Wg:=by rcases Be with rfl|rfl<;>rfl
 have jD:∀b,b≠p.Wg->w'.heap[b]?=w.heap[b]?:=λb hb=>by rcases oF with rfl|⟨x,rfl⟩;rfl;exact xi _ _ _ (by rw[xe];exact Ne.symm hb)
 refine h.Gj aM hs hi aR aU hd ha Be oF hk (by rw[hv];exact It _) (λx=>by rw[y8]at x;cases x) dg vI (.inr (.inr fN)) m1 ?_ vR;have e1:sumTo gs.size (λa=>(upd K i k' a).cnt)=0:=by have:=Cp K k' GS.cnt hlt;simp only[qi,amh,m4]at this;omega
 unfold Mode;simp only[bk _ _ aN,e1,jD _ sC];rcases ue with⟨x1,x2,x3⟩|⟨x1,x2,x3⟩
 ·have e2:sumTo gs.size (λa=>(upd K i k' a).late)=1:=by have:=Cp K k' GS.late hlt;simp only[fN,x1,m3]at this;omega
  refine .inr (.inr (.inl ⟨m1,m2,e2,trivial,m5,λm hm dD=> ?_,λm hm dD=> ?_⟩));by_cases c_:m=i;subst c_;rw[bD]at dD;exact x2 dD;rw[bk _ _ c_]at dD;have:=ac9 m3 hlt hm c_ fN;rw[<- GS.mT]at this;rcases dD with e|e<;>rw[e]at this<;>cases this;by_cases c_:m=i;subst c_;rw[bD]at dD;exact x3 dD;rw[bk _ _ c_]at dD;have:=ac9 m3 hlt hm c_ fN;rw[<- GS.mT,dD]at this;cases this
 ·have e2:sumTo gs.size (λa=>(upd K i k' a).late)=0:=by have:=Cp K k' GS.late hlt;simp only[fN,x1,m3]at this;omega
  exact .inr (.inr (.inr (.inl ⟨m1,m2,e2,trivial,x2,x3,m5⟩)))
def Inv.apf(h:Inv P n0 W0 V gs w t K Im ic (some p) st)(aM:p.recv=true){i n:Nat}{gi:Ti}(hi:0<i)(aR:gs[i]?=some gi)(hK:K i=.load n)(jY:FW P p.Wg (VS t i) gi):ie P n0 W0 V gs w sl t K Im ic (some p) st i:=by
 have hlt:i<gs.size:=(Tw.1 aR).1;obtain⟨s,hs,gZ,ji,hm⟩:=h.mode aM;have fN:(K i).late=1:=by rw[hK];rfl
 obtain⟨m1,m2,m3,m4,m5,m6,m7⟩:=hm.ER hlt fN;obtain⟨hd,bQ,g',aU,n',cy⟩:=jY;have hW:=m6 (by rw[hK];exact .inl rfl);exact h.Oc aM (k':=.store n') (a:=eo p.Wg) hi aR (aU w hW) hd (.inl rfl) (.inl rfl) (.inl rfl) cy rfl rfl (by rw[hK];rfl) (by rw[hK];rfl) rfl rfl fN (.inl ⟨rfl,λ_=>hW,λx=>by cases x⟩) (by rw[hK];exact .inl (by simp[GS.dh]))
def Inv.atQ(h:Inv P n0 W0 V gs w t K Im ic (some p) st)(aM:p.recv=true){i n:Nat}{gi:Ti}(hi:0<i)(aR:gs[i]?=some gi)(hK:K i=.store n)(jY:FY P p.Wg (VS t i) gi):ie P n0 W0 V gs w sl t K Im ic (some p) st i:=by
 have hlt:i<gs.size:=(Tw.1 aR).1;obtain⟨s,hs,gZ,ji,hm⟩:=h.mode aM;have fN:(K i).late=1:=by rw[hK];rfl
 obtain⟨m1,m2,m3,m4,m5,m6,m7⟩:=hm.ER hlt fN;obtain⟨hd,bQ,g',aU,n',cy⟩:=jY;have hW:=m6 (by rw[hK];exact .inr rfl);exact h.Oc aM (k':=.mX n') (a:=eo p.Wg) hi aR (aU w hW) hd (.inr (.inl rfl)) (.inl rfl) (.inr ⟨_,rfl⟩) cy rfl rfl (by rw[hK];rfl) (by rw[hK];rfl) rfl rfl fN (.inl ⟨rfl,λx=>(x.elim (λy=>by cases y) (λy=>by cases y)),λ_=>hW.Ja 0⟩) (by rw[hK];exact .inl (by simp[GS.dh]))
def Inv.asY(h:Inv P n0 W0 V gs w t K Im ic (some p) st)(aM:p.recv=true){i n:Nat}{gi:Ti}(hi:0<i)(aR:gs[i]?=some gi)(hK:K i=.mX n)(jY:FX P p.Wg (VS t i) gi):ie P n0 W0 V gs w sl t K Im ic (some p) st i:=by
 have hlt:i<gs.size:=(Tw.1 aR).1;obtain⟨s,hs,gZ,ji,hm⟩:=h.mode aM;have fN:(K i).late=1:=by rw[hK];rfl
 obtain⟨m1,m2,m3,m4,m5,m6,m7⟩:=hm.ER hlt fN;obtain⟨hd,bQ,M1,g',aU,q,mL⟩:=jY;have hW:=m7 (by rw[hK];rfl);have aN:ic≠i:=λe=>by have:=(Mode.waits hm).2;rw[e,fN]at this;cases this
 refine h.Oc aM (k':=.gone q) (a:=pL p.Wg) hi aR (aU w hW) hd (.inr (.inr (.inr rfl))) (.inr rfl) (.inr ⟨_,rfl⟩) mL rfl rfl (by rw[hK];rfl) (by rw[hK];rfl) rfl rfl fN (.inr ⟨rfl,hW.aea 1,λg hg=> ?_⟩) (by rw[hK];exact .inl (by simp[GS.dh]));rcases getElem?_next hlt hg with⟨e,_⟩|⟨_,y,hy,rfl⟩;exact absurd e aN
 ·have ze:=h.is ic y gZ hy;simp only at ze;have dD:(∃n,K ic=.said n)\/∃n,K ic=.iL n:=by cases yS:K ic<;>rw[yS]at m5<;>simp[GS.shape]at m5;exact .inl ⟨_,rfl⟩;exact .inr ⟨_,rfl⟩
  rcases dD with⟨n1,e⟩|⟨n1,e⟩;rw[e]at ze;have hr:y.status=.running:=iJ.running (λd g x=>x.2.1) ze;rw[Yj hr];exact hr;rw[e]at ze;rcases ze with ze|⟨_,g1,rfl,MB⟩;have hr:y.status=.running:=cZ.running (λd g x=>x.2.1) ze;rw[Yj hr];exact hr;have MH:g'.status=.running\/g'.status=.finished:=Zn mL;unfold woken;have amg:(mayWake P gi&&g'.status != .blocked&&g'.status != .waiting)=true:=(by rcases MH with hs|hs<;>simp[M1,hs]);rw[if_pos amg];unfold Z5;have:=MB.2.2.1;simp[this]
def Mode.ag8{c Wg N k:Nat}{s:eE}(hm:Mode P c Wg N w gs t K ic s)(e:(K ic).shape=.head k 0):
  (∃n,w.heap[c]?=some (.chan 0 #[] false n n false))/\s=.early/\(sumTo N λi=>(K i).late)=0/\(sumTo N λi=>(K i).cnt)<=4/\WgAt P Wg w (((sumTo N λi=>(K i).cnt:Nat):Int)* KK) 0/\(sumTo N λi=>(K i).cnt)<k:=by
 unfold Mode at hm;simp only[e]at hm;rcases hm with m|m|m|m|m|m|m;obtain⟨a,b,c,d,f,x⟩:=m;refine⟨a,b,c,d,f,?_⟩;rcases x with⟨k',x,y⟩|⟨v,x,_⟩;cases x;exact y;cases x;rcases m.2.2.2.2.2.2 with x|x<;>cases x;rcases m.2.2.2.2.1 with x|x<;>cases x;rcases m.2.2.2.2.2.2 with x|x<;>cases x;rcases m.2.2.2.2.2 with x|x<;>cases x;rcases m.2.2.2.2 with x|x<;>cases x;cases m.2.2.2
def Mode.ag7{c Wg N v:Nat}{s:eE}(hm:Mode P c Wg N w gs t K ic s)(e:(K ic).shape=.mE v 0):
  (∃n,w.heap[c]?=some (.chan 0 #[] false n n false))/\s=.early/\(sumTo N λi=>(K i).late)=0/\(sumTo N λi=>(K i).cnt)<=4/\WgAt P Wg w (((sumTo N λi=>(K i).cnt:Nat):Int)* KK) 0/\(sumTo N λi=>(K i).cnt)<=v/\0<v:=by
 unfold Mode at hm;simp only[e]at hm;rcases hm with m|m|m|m|m|m|m;obtain⟨a,b,c,d,f,x⟩:=m;refine⟨a,b,c,d,f,?_⟩;rcases x with⟨k',x,y⟩|⟨v,x,y⟩;cases x;cases x;exact y;rcases m.2.2.2.2.2.2 with x|x<;>cases x;rcases m.2.2.2.2.1 with x|x<;>cases x;rcases m.2.2.2.2.2.2 with x|x<;>cases x;rcases m.2.2.2.2.2 with x|x<;>cases x;rcases m.2.2.2.2 with x|x<;>cases x;cases m.2.2.2
def Mode.Qx{c Wg N:Nat}{s:eE}(hm:Mode P c Wg N w gs t K ic s)(e:(K ic).shape=.last 0\/(K ic).shape=.acq 0):
  (∃n,w.heap[c]?=some (.chan 0 #[] false n n false))/\s=.early/\(sumTo N λi=>(K i).late)=0/\(sumTo N λi=>(K i).cnt)=0/\WgAt P Wg w 0 0:=by
 unfold Mode at hm;rcases hm with m|m|m|m|m|m|m;rcases m.2.2.2.2.2 with⟨_,x,_⟩|⟨_,x,_⟩<;>rcases e with e|e<;>rw[e]at x<;>cases x;rcases m.2.2.2.2.2.2 with x|x<;>rcases e with e|e<;>rw[e]at x<;>cases x;rcases m.2.2.2.2.1 with x|x<;>rcases e with e|e<;>rw[e]at x<;>cases x;rcases m.2.2.2.2.2.2 with x|x<;>rcases e with e|e<;>rw[e]at x<;>cases x;exact⟨m.1,m.2.1,m.2.2.1,m.2.2.2.1,m.2.2.2.2.1⟩;rcases m.2.2.2.2 with x|x<;>rcases e with e|e<;>rw[e]at x<;>cases x;have x:=m.2.2.2;rcases e with e|e<;>rw[e]at x<;>cases x
def Mode.Qy{c Wg N:Nat}{s:eE}(hm:Mode P c Wg N w gs t K ic s)(e:(K ic).shape=.look 0\/(K ic).shape=.close 0):
  (∃n,w.heap[c]?=some (.chan 0 #[] false n n false))/\s=.got/\(sumTo N λi=>(K i).late)=0/\(sumTo N λi=>(K i).cnt)=0:=by
 unfold Mode at hm;rcases hm with m|m|m|m|m|m|m;rcases m.2.2.2.2.2 with⟨_,x,_⟩|⟨_,x,_⟩<;>rcases e with e|e<;>rw[e]at x<;>cases x;rcases m.2.2.2.2.2.2 with x|x<;>rcases e with e|e<;>rw[e]at x<;>cases x;rcases m.2.2.2.2.1 with x|x<;>rcases e with e|e<;>rw[e]at x<;>cases x;rcases m.2.2.2.2.2.2 with x|x<;>rcases e with e|e<;>rw[e]at x<;>cases x;rcases m.2.2.2.2.2 with x|x<;>rcases e with e|e<;>rw[e]at x<;>cases x;exact⟨m.1,m.2.1,m.2.2.1,m.2.2.2.1⟩;have x:=m.2.2.2;rcases e with e|e<;>rw[e]at x<;>cases x
def Mode.Qz{c Wg N:Nat}{s:eE}(hm:Mode P c Wg N w gs t K ic s)(e:(K ic).shape=.said 0\/(K ic).shape=.iL 0):
  (∃n,w.heap[c]?=some (.chan 0 #[] false n n false))/\s=.early/\((∃st,WgAt P Wg w st 0)\/((sumTo N λi=>(K i).late)=0/\(sumTo N λi=>(K i).cnt)=0/\WgAt P Wg w 0 1))/\
  ∀{w':Us}{gs':SR}{u:Vj}{k':GS},(k'.shape=.said 0\/k'.shape=.iL 0)->w'.heap[c]?=w.heap[c]?->w'.heap[Wg]?=w.heap[Wg]?->(WgAt P Wg w 0 1->∀g,gs'[ic]?=some g->g.status=.running)->ic<N->Mode P c Wg N w' gs' (t++u) (upd K ic k') ic s:=by
 have wait:∀{k:GS},(k.shape=.said 0\/k.shape=.iL 0)->k.cnt=0/\k.late=0:=λ{k} h=>by rw[<- GS.oc,<- GS.mT];rcases h with h|h<;>rw[h]<;>exact⟨rfl,rfl⟩
 have tail:∀(w':Us)(gs':SR)(u:Vj)(k':GS),(k'.shape=.said 0\/k'.shape=.iL 0)->w'.heap[c]?=w.heap[c]?->w'.heap[Wg]?=w.heap[Wg]?->(WgAt P Wg w 0 1->∀g,gs'[ic]?=some g->g.status=.running)->ic<N->Mode P c Wg N w' gs' (t++u) (upd K ic k') ic s:=by
  intro w' gs' u k' hk hc hW hr gI;have e1:sumTo N (λi=>(upd K ic k' i).cnt)=sumTo N λi=>(K i).cnt:=lV K k' GS.cnt (by rw[(wait hk).1,(wait e).1]);have e2:sumTo N (λi=>(upd K ic k' i).late)=sumTo N λi=>(K i).late:=lV K k' GS.late (by rw[(wait hk).2,(wait e).2]);have e3:∀st sm,WgAt P Wg w' st sm=WgAt P Wg w st sm:=λst sm=>by unfold WgAt;rw[hW]
  have e5:∀i (q:GS),(q=.load 0\/q=.store 0\/q=.mX 0)->(upd K ic k' i).shape=q->(K i).shape=q:=λi q hq hs=>by by_cases hi:i=ic;subst hi;rw[bD]at hs;rcases hk with x|x<;>rw[x]at hs<;>subst hs<;>rcases hq with y|y|y<;>cases y;rw[bk _ _ hi]at hs;exact hs
  unfold Mode at hm⊢;simp only[e1,e2,e3,hc,bD];rcases hm with m|m|m|m|m|m|m;rcases m.2.2.2.2.2 with⟨_,x,_⟩|⟨_,x,_⟩<;>rcases e with e|e<;>rw[e]at x<;>cases x;exact .inr (.inl ⟨m.1,m.2.1,m.2.2.1,m.2.2.2.1,m.2.2.2.2.1,m.2.2.2.2.2.1,hk⟩);exact .inr (.inr (.inl ⟨m.1,m.2.1,m.2.2.1,m.2.2.2.1,hk,λi hi x=>m.2.2.2.2.2.1 i hi (x.imp (e5 i _ (.inl rfl)) (e5 i _ (.inr (.inl rfl)))),λi hi x=>m.2.2.2.2.2.2 i hi (e5 i _ (.inr (.inr rfl)) x)⟩));exact .inr (.inr (.inr (.inl ⟨m.1,m.2.1,m.2.2.1,m.2.2.2.1,m.2.2.2.2.1,hr m.2.2.2.2.1,hk⟩)));rcases m.2.2.2.2.2 with x|x<;>rcases e with e|e<;>rw[e]at x<;>cases x;rcases m.2.2.2.2 with x|x<;>rcases e with e|e<;>rw[e]at x<;>cases x;have x:=m.2.2.2;rcases e with e|e<;>rw[e]at x<;>cases x
 have jk:=hm;unfold Mode at hm;rcases hm with m|m|m|m|m|m|m;rcases m.2.2.2.2.2 with⟨_,x,_⟩|⟨_,x,_⟩<;>rcases e with e|e<;>rw[e]at x<;>cases x;exact⟨m.1,m.2.1,.inl ⟨_,m.2.2.2.2.2.1⟩,λ{w'} {gs'} {u} {k'}=>tail w' gs' u k'⟩
 ·refine⟨m.1,m.2.1,.inl ?_,λ{w'} {gs'} {u} {k'}=>tail w' gs' u k'⟩;have:∃i,i<N/\(K i).late=1:=by
   apply Uv;intro ew;have hz:sumTo N (λi=>(K i).late)=sumTo N λ_=>0:=Wm λi hi=>by have aN:¬(K i).late=1:=λx=>ew ⟨i,hi,x⟩;cases lC:K i<;>rw[lC]at aN<;>first|rfl|exact absurd rfl aN
   have h0:sumTo N (λ_=>0)=0:=by have:∀N,sumTo N (λ_=>0)=0:=λN=>(by induction N with|zero=>rfl|succ N ih=>simp[sumTo,ih]);exact this N
   have:=m.2.2.1;omega
  obtain⟨i,hi,fN⟩:=this;obtain⟨_,_,_,_,_,m6,m7⟩:=jk.ER hi fN;cases lC:K i<;>rw[lC]at fN m6 m7<;>simp[GS.late]at fN;exact⟨1,m6 (.inl rfl)⟩;exact⟨1,m6 (.inr rfl)⟩;exact⟨0,m7 rfl⟩
 ·exact⟨m.1,m.2.1,.inr ⟨m.2.2.1,m.2.2.2.1,m.2.2.2.2.1⟩,λ{w'} {gs'} {u} {k'}=>tail w' gs' u k'⟩
 ·rcases m.2.2.2.2.2 with x|x<;>rcases e with e|e<;>rw[e]at x<;>cases x
 ·rcases m.2.2.2.2 with x|x<;>rcases e with e|e<;>rw[e]at x<;>cases x
 ·have x:=m.2.2.2;rcases e with e|e<;>rw[e]at x<;>cases x
def Is(Im:cC):nd {noView with ah:=Im} {noView with ah:=Im}:=⟨λ_=> .inr rfl,λ_ _=> .inr rfl,λ_ _ _=>rfl⟩
def ao1(Im:cC):nd noView {noView with ah:=Im}:=⟨λ_=> .inr rfl,λ_ _=> .inl rfl,λb hb=>absurd rfl hb⟩
def Inv.AL(h:Inv P n0 W0 V gs w t K Im ic (some p) st)(aM:p.recv=true){gi bH:Ti}{es:SO}{k':GS}{a:Wy}{s:eE}(hs:st=some s)(aR:gs[ic]?=some gi)(aU:stepG P false gi w=.go bH w' es)(hd:VS t ic=1)
  (ha:Atom a es) (Be:a=eo p.Wg\/a=pL p.Wg) (oF:w'=w\/∃x,w'=w.setCell a x) (hk:k'.is P p.c p.Wg Im p.Ss 1 bH) (hv:k'.view Im={noView with ah:=Im}) (zw:(K ic).view Im={noView with ah:=Im}) (dg:k'.idx=none) (vI:(K ic).idx=none)
  (iq:∃n,w.heap[p.c]?=some (.chan 0 #[] false n n false))
  (zh:Mode P p.c p.Wg gs.size w' ((gs.map (woken P gi bH w')).setIfInBounds ic bH) (t++Uf ic gi.frame.fn gi.frame.place es) (upd K ic k') ic s) (vR:r_ k'.dh (K ic).dh):ie P n0 W0 V gs w sl t K Im ic (some p) st ic:=by
 obtain⟨s',_,gZ,_,_⟩:=h.mode aM;exact h.Gj aM hs gZ aR aU hd ha Be oF hk (by rw[hv,zw];exact Is Im) (λ_=>rfl) dg vI (.inl rfl) iq zh vR
def Inv.amA(h:Inv P n0 W0 V gs w t K Im ic (some p) st)(aM:p.recv=true){k n:Nat}{gi:Ti}(aR:gs[ic]?=some gi)(hK:K ic=.head k n)(jY:eY P Im p.c p.Wg k (VS t ic) gi):ie P n0 W0 V gs w sl t K Im ic (some p) st ic:=by
 obtain⟨s,hs,gZ,ji,hm⟩:=h.mode aM;obtain⟨m1,m2,m3,m4,m5,m6⟩:=hm.ag8 (k:=k) (by rw[hK];rfl);obtain⟨k,rfl⟩:∃k',k=k'+1:=⟨k-1,by omega⟩;obtain⟨hd,bQ,HU⟩:=eY.succ _ _ _ _ jY;obtain⟨g',aU,hz,M7⟩:=HU _ (by omega) m4;have mi:=aU w m5;have vc:∀k':GS,k'.cnt=0->k'.late=0->sumTo gs.size (λi=>(upd K ic k' i).cnt)=(sumTo gs.size λi=>(K i).cnt)/\sumTo gs.size (λi=>(upd K ic k' i).late)=(sumTo gs.size λi=>(K i).late):=λk' h1 h2=>⟨lV K k' GS.cnt (by rw[h1,hK];rfl),lV K k' GS.late (by rw[h2,hK];rfl)⟩
 by_cases hv:(sumTo gs.size λi=>(K i).cnt)=0;(obtain⟨n',cy⟩:=hz hv;refine h.AL aM (k':=.acq n') (a:=eo p.Wg) hs aR mi hd (.inl rfl) (.inl rfl) (.inl rfl) cy rfl (by rw[hK];rfl) rfl (by rw[hK];rfl) m1 ?_ (by rw[hK];exact .inl (by simp[GS.dh];omega));unfold Mode;simp only[(vc (.acq n') rfl rfl).1,(vc (.acq n') rfl rfl).2,bD];refine .inr (.inr (.inr (.inr (.inl ⟨m1,m2,m3,hv,?_,.inr rfl⟩))));rw[hv]at m5;simpa using m5);obtain⟨n',cy⟩:=M7 hv;refine h.AL aM (k':=.mE (sumTo gs.size λi=>(K i).cnt) n') (a:=eo p.Wg) hs aR mi hd (.inl rfl) (.inl rfl) (.inl rfl) cy rfl (by rw[hK];rfl) rfl (by rw[hK];rfl) m1 ?_ (by rw[hK];exact .inl (by simp[GS.dh];omega));unfold Mode;simp only[(vc (.mE _ n') rfl rfl).1,(vc (.mE _ n') rfl rfl).2,bD];exact .inl ⟨m1,m2,m3,m4,m5,.inr ⟨_,rfl,Tv _,by omega⟩⟩
def Inv.ah7(h:Inv P n0 W0 V gs w t K Im ic (some p) st)(aM:p.recv=true){v n:Nat}{gi:Ti}(aR:gs[ic]?=some gi)(hK:K ic=.mE v n)(jY:FT P p.c p.Wg Im v (VS t ic) gi):ie P n0 W0 V gs w sl t K Im ic (some p) st ic:=by
 obtain⟨s,hs,gZ,ji,hm⟩:=h.mode aM;obtain⟨m1,m2,m3,m4,m5,m6,m7⟩:=hm.ag7 (v:=v) (by rw[hK];rfl);obtain⟨hd,bQ,⟨g1,HT,n1,anK⟩,amW⟩:=jY;have sC:p.c≠p.Wg:=h.phase.2.2.1;have vc:∀k':GS,k'.cnt=0->k'.late=0->sumTo gs.size (λi=>(upd K ic k' i).cnt)=(sumTo gs.size λi=>(K i).cnt)/\sumTo gs.size (λi=>(upd K ic k' i).late)=(sumTo gs.size λi=>(K i).late):=λk' h1 h2=>⟨lV K k' GS.cnt (by rw[h1,hK];rfl),lV K k' GS.late (by rw[h2,hK];rfl)⟩
 by_cases hv:(sumTo gs.size λi=>(K i).cnt)=v;refine h.AL aM (k':=.said n1) (a:=eo p.Wg) hs aR (HT w (by rw[<- hv];exact m5)) hd (.inr (.inr (.inl rfl))) (.inl rfl) (.inr ⟨_,rfl⟩) anK rfl (by rw[hK];rfl) rfl (by rw[hK];rfl) m1 ?_ (by rw[hK];exact .inl (by simp[GS.dh];omega));unfold Mode;simp only[(vc (.said n1) rfl rfl).1,(vc (.said n1) rfl rfl).2,bD];refine .inr (.inl ⟨?_,m2,m3,by omega,m4,?_,.inl rfl⟩);obtain⟨n,hn⟩:=m1;exact⟨n,by rw[xi _ _ _ (Ne.symm sC)];exact hn⟩;rw[hv];exact m5.Ja _;obtain⟨g',mi,n',cy⟩:=amW (sumTo gs.size λi=>(K i).cnt) (by omega);refine h.AL aM (k':=.head v n') (a:=eo p.Wg) hs aR (mi w m5) hd (.inl rfl) (.inl rfl) (.inl rfl) cy rfl (by rw[hK];rfl) rfl (by rw[hK];rfl) m1 ?_ (by rw[hK];exact .inl (by simp[GS.dh]));unfold Mode;simp only[(vc (.head v n') rfl rfl).1,(vc (.head v n') rfl rfl).2,bD];exact .inl ⟨m1,m2,m3,m4,m5,.inl ⟨v,rfl,by omega⟩⟩
def Inv.aoy(h:Inv P n0 W0 V gs w t K Im ic (some p) st)(aM:p.recv=true){n:Nat}{gi:Ti}(aR:gs[ic]?=some gi)(hK:K ic=.last n)(jY:JJ P Im p.c p.Wg (VS t ic) gi):ie P n0 W0 V gs w sl t K Im ic (some p) st ic:=by
 obtain⟨s,hs,gZ,ji,hm⟩:=h.mode aM;obtain⟨m1,m2,m3,m4,m5⟩:=hm.Qx (.inl (by rw[hK];rfl));obtain⟨hd,bQ,g',aU,n',cy⟩:=jY;refine h.AL aM (k':=.acq n') (a:=eo p.Wg) hs aR (aU w m5) hd (.inl rfl) (.inl rfl) (.inl rfl) cy rfl (by rw[hK];rfl) rfl (by rw[hK];rfl) m1 ?_ (by rw[hK];exact .inl (by simp[GS.dh]));unfold Mode;have e1:sumTo gs.size (λi=>(upd K ic (.acq n') i).cnt)=0:=by rw[lV K (.acq n') GS.cnt (by rw[hK];rfl)];exact m4
 have e2:sumTo gs.size (λi=>(upd K ic (.acq n') i).late)=0:=by rw[lV K (.acq n') GS.late (by rw[hK];rfl)];exact m3
 simp only[e1,e2,bD];exact .inr (.inr (.inr (.inr (.inl ⟨m1,m2,trivial,trivial,m5,.inr rfl⟩))))
def Inv.aim(h:Inv P n0 W0 V gs w t K Im ic (some p) st)(aM:p.recv=true){n:Nat}{gi:Ti}(aR:gs[ic]?=some gi)(hK:K ic=.iL n)(jY:FV P Im p.c p.Wg (VS t ic) gi):ie P n0 W0 V gs w sl t K Im ic (some p) st ic:=by
 obtain⟨s,hs,gZ,ji,hm⟩:=h.mode aM;obtain⟨m1,m2,m3,mk⟩:=hm.Qz (.inr (by rw[hK];rfl));obtain⟨hd,bQ,am6,xe,g',abP,n',cy⟩:=jY;have sC:p.c≠p.Wg:=h.phase.2.2.1;rcases m3 with⟨stv,hW⟩|⟨m4,m5,hW⟩
 ·
  have aU:=xe w stv hW;have HF:¬WgAt P p.Wg w 0 1:=λx=>by have:=(hW.inj x).2;cases this
  refine h.uL aM (k':=.iL 0) (s':=s) gZ aR aU (.inr ⟨rfl,gi,rfl,by rw[hd];exact⟨rfl,bQ,am6,xe,g',abP,n',cy⟩⟩) (by rw[hK];exact Is Im) (λ_=>rfl) rfl (λj hj=>by rw[hK]at hj;cases hj) (.inl rfl) (by simp) (by simp) (by simp) rfl (λ_ _ _=>rfl) rfl rfl rfl
   (mk (.inr rfl) rfl rfl (λx=>absurd x HF) ji) (.inl m1) ?_ ?_
  ·have e0:t++Uf ic gi.frame.fn gi.frame.place #[]=t:=(by simp[Uf]);have hr:Rest p.Wg t K ic st:=h.out.2.2.1;rw[hs]at hr;refine hr.app (λidx a ha hx=> .inr (hx.app (by obtain⟨op,aB,_⟩:=VR ha;exact UI aB) λm _ _ hj=> .inl ?_)) (λidx a _ ⟨op,aB,_⟩ _=>by simp[Uf]at aB);by_cases c_:m=ic;subst c_;rw[hK]at hj;cases hj;rw[bk _ _ c_];exact hj
  ·by_cases hn:n=0;refine .inr ⟨funext λj=> ?_,?_⟩;by_cases hj:j=ic;subst hj;simp only[bD,hK,hn];simp only[bk _ _ hj];simp only[flag];rw[Ud (by simpa using ji),aR];simp[bQ];exact zO ji (by rw[hK];exact .inr ⟨rfl,.inr ⟨rfl,by simp only[GS.dh];omega⟩⟩)
 ·refine h.AL aM (k':=.last n') (a:=pL p.Wg) hs aR (abP w hW) hd (.inr (.inr (.inr rfl))) (.inr rfl) (.inr ⟨_,rfl⟩) cy rfl (by rw[hK];rfl) rfl (by rw[hK];rfl) m1 ?_ (by rw[hK];exact .inl (by simp[GS.dh]));unfold Mode;have e1:sumTo gs.size (λi=>(upd K ic (.last n') i).cnt)=0:=by rw[lV K (.last n') GS.cnt (by rw[hK];rfl)];exact m5
  have e2:sumTo gs.size (λi=>(upd K ic (.last n') i).late)=0:=by rw[lV K (.last n') GS.late (by rw[hK];rfl)];exact m4
  simp only[e1,e2,bD];obtain⟨n,hn⟩:=m1;exact .inr (.inr (.inr (.inr (.inl ⟨⟨n,by rw[xi _ _ _ (Ne.symm sC)];exact hn⟩,m2,trivial,trivial,hW.aea 0,.inl rfl⟩))))
def Inv.asB(h:Inv P n0 W0 V gs w t K Im ic (some p) st)(aM:p.recv=true){n:Nat}{gi:Ti}(aR:gs[ic]?=some gi)(hK:K ic=.said n)(jY:FU P Im p.c p.Wg (VS t ic) gi):ie P n0 W0 V gs w sl t K Im ic (some p) st ic:=by
 obtain⟨s,hs,gZ,ji,hm⟩:=h.mode aM;obtain⟨m1,m2,m3,mk⟩:=hm.Qz (.inl (by rw[hK];rfl));obtain⟨hd,bQ,g',aU,n',cy⟩:=jY;have oz:∀e∈#[kA (.write (pL p.Wg))],e=kA (.write (pL p.Wg)):=λe he=>by simpa using he
 have abK:g'.status=.running:=cZ.running (λd g x=>x.2.1) cy;refine h.uL aM (k':=.iL n') (s':=s) gZ aR (aU w) (.inl (by rw[hd];exact cy)) (by rw[hK];exact Is Im) (λ_=>rfl) rfl (λj hj=>by rw[hK]at hj;cases hj) (.inl rfl) (λe he x hx=> .inr (.inl ?_)) (λe he=> ?_) (λe he a=> ?_) rfl (λ_ _ _=>rfl) rfl rfl rfl
  (mk (.inr rfl) rfl rfl (λ_ g hg=> ?_) ji) (.inl m1) ?_ (zO ji (by rw[hK];exact .inl (by simp[GS.dh])))
 ·rw[oz e he]at hx;cases hx;exact⟨rfl,rfl,rfl⟩
 ·rw[oz e he];exact h.low.2
 ·rw[oz e he];simp[kA,Ut]
 ·rcases getElem?_next ji hg with⟨_,rfl⟩|⟨aN,_⟩;exact abK;exact absurd rfl aN
 ·have hr:Rest p.Wg t K ic st:=h.out.2.2.1;rw[hs,m2]at hr;rw[m2];refine hr.app (λidx a ha hx=> .inr (hx.app (by obtain⟨op,aB,_⟩:=VR ha;exact UI aB) λm _ _ hj=> .inl ?_)) (λidx a _ ⟨op,aB,zb,_⟩ _=> .inr (.inr ⟨ic,?_,gZ,.inr (.inl rfl)⟩));by_cases c_:m=ic;subst c_;rw[hK]at hj;cases hj;rw[bk _ _ c_];exact hj;obtain⟨e,_,rfl⟩:=UO aB;simp[Xu,zb]
def QU{t:Vj}{g i j:Nat}(hi:t.g? i=some g)(hj:t.g? j=some g)(h:i<=j):Before t i j:=by rcases Nat.eq_or_lt_of_le h with rfl|h;exact .inl rfl;obtain⟨a,ha,rfl⟩:=Uu.1 hi;obtain⟨b,hb,hg⟩:=Uu.1 hj;exact .inr (.single (.inl ⟨h,by simp[Xu,ha,hb,hg]⟩))
def Inv.agn(h:Inv P n0 W0 V gs w t K Im ic (some p) st)(aM:p.recv=true){n:Nat}{gi:Ti}(aR:gs[ic]?=some gi)(hK:K ic=.acq n)(jY:uT P Im p.c p.Wg (VS t ic) gi):ie P n0 W0 V gs w sl t K Im ic (some p) st ic:=by
 obtain⟨s,hs,gZ,ji,hm⟩:=h.mode aM;obtain⟨m1,m2,m3,m4,m5⟩:=hm.Qx (.inr (by rw[hK];rfl));obtain⟨hd,bQ,g',aU,n',cy⟩:=jY;have oz:∀e∈#[kA (.acquire (eo p.Wg))],e=kA (.acquire (eo p.Wg)):=λe he=>by simpa using he
 have abK:g'.status=.running:=cZ.running (λd g x=>x.2.1) cy;refine h.uL aM (k':=.look n') (s':=.got) gZ aR (aU w) (by rw[hd];exact cy) (by rw[hK];exact Is Im) (λ_=>rfl) rfl (λj hj=>by rw[hK]at hj;cases hj) (.inl rfl) (λe he x hx=> ?_) (λe he=> ?_) (λe he a=> ?_) rfl (λ_ _ _=>rfl) rfl rfl rfl
  ?_ (.inl m1) ?_ (zO ji (by rw[hK];exact .inl (by simp[GS.dh])))
 ·rw[oz e he]at hx;cases hx
 ·rw[oz e he];exact h.low.2
 ·rw[oz e he];simp[kA,Ut]
 ·unfold Mode;have e1:sumTo gs.size (λi=>(upd K ic (.look n') i).cnt)=0:=by rw[lV K (.look n') GS.cnt (by rw[hK];rfl)];exact m4
  have e2:sumTo gs.size (λi=>(upd K ic (.look n') i).late)=0:=by rw[lV K (.look n') GS.late (by rw[hK];rfl)];exact m3
  simp only[e1,e2,bD];exact .inr (.inr (.inr (.inr (.inr (.inl ⟨m1,trivial,trivial,trivial,.inl rfl⟩)))))
 ·have hr:Rest p.Wg t K ic st:=h.out.2.2.1;rw[hs,m2]at hr;rw[ofEvents_one];refine hr.app (λidx a ha hx=> .inr ?_) (λidx a _ ⟨op,aB,_,hx⟩ _=> ?_)
  ·obtain⟨i,MF,fq,hx⟩:=hx;have am0:=h.core.ti.norel;have own:t.g? idx=some ic->Xe (t++#[{g:=ic,fn:=gi.frame.fn,pos:=gi.frame.place,act:=.ofEvent (kA (.acquire (eo p.Wg)))}]) ic idx:=λe=>by obtain⟨op,ho,qv⟩:=Uu.1 e;rw[<- qv];exact(YQ ho).app _
   rcases hx with hx|rfl|⟨r,sN,hle⟩
   ·exfalso;have amL:i<gs.size:=by obtain⟨op,ho,qv⟩:=Uu.1 MF;rw[<- qv];exact h.core.ti.gs op (XM ho)
    have eN:(K i).cnt=1:=by cases lC:K i<;>rw[lC]at hx<;>first|rfl|cases hx
    have hle:(K i).cnt<=sumTo gs.size λi=>(K i).cnt:=Xj (f:=λi=>(K i).cnt) amL;omega
   ·exact own MF
   ·exact ago sN.act sN.heard am0 ⟨rfl,rfl⟩ hd (QU MF sN.g hle)
  ·simp only[UN,Tm,T5,or_false]at aB;subst aB;cases hx
def Rest.got{Wg:Nat}(hr:Rest Wg t K ic (some .got)){es:SO}{fn:UR}{pos:String}{K':Nat->GS}:Rest Wg (t++Uf ic fn pos es) K' ic (some .got):=by refine hr.app (λidx a ha hx=> .inr (axz _ hx)) (λidx a _ ⟨op,aB,dg,_⟩ _=> .inr (.inr ?_));obtain⟨e,_,rfl⟩:=UO aB;exact YQ dg
def Inv.apg(h:Inv P n0 W0 V gs w t K Im ic (some p) st)(aM:p.recv=true){n:Nat}{gi:Ti}(aR:gs[ic]?=some gi)(hK:K ic=.look n)(jY:JK P Im p.c (VS t ic) gi):ie P n0 W0 V gs w sl t K Im ic (some p) st ic:=by
 obtain⟨s,hs,gZ,ji,hm⟩:=h.mode aM;obtain⟨m1,m2,m3,m4⟩:=hm.Qy (.inl (by rw[hK];rfl));obtain⟨hd,bQ,b,o,x,g',mb,aU,n',cy⟩:=jY;have fZ:Sat ((K ic).view Im) w:=by have:=h.core.sat ic ji;rwa[show bK V Im K ic=(K ic).view Im by simp[bK];omega]at this
 have qh:=fZ.ah b o x (by rw[hK];exact mb);have hb:=fZ.EK (show ((K ic).view Im).ah b o=some x by rw[hK];exact mb);have oz:∀e∈(#[⟨.cell ⟨b,o,none⟩,false,false⟩]:SO),e=⟨.cell ⟨b,o,none⟩,false,false⟩:=λe he=>by simpa using he
 have cI:=h.blind gZ;refine h.uL aM (k':=.close n') (s':=.got) gZ aR (aU w qh) (by rw[hd];exact cy) (by rw[hK];exact ao1 Im) (λ_=>rfl) rfl (λj hj=>by rw[hK]at hj;cases hj) (.inl rfl) (λe he y hy=> .inr (.inr ?_)) (λe he=> ?_) (λe he a=> ?_) rfl (λ_ _ _=>rfl) rfl rfl rfl
  ?_ (.inl m1) ?_ (zO ji (by rw[hK];exact .inl (by simp[GS.dh])))
 ·rw[oz e he]at hy;cases hy;refine⟨λdD=> ?_,.inr (by rw[hK];show Im b o≠none;rw[mb];simp),rfl⟩;have e1:b=p.Wg:=dD;have:=cI.2.2.2 o;rw[hK]at this;have e2:Im p.Wg o=none:=this;rw[<- e1,mb]at e2;cases e2
 ·rw[oz e he];exact hb
 ·rw[oz e he];simp[Ut]
 ·unfold Mode;have e1:sumTo gs.size (λi=>(upd K ic (.close n') i).cnt)=0:=by rw[lV K (.close n') GS.cnt (by rw[hK];rfl)];exact m4
  have e2:sumTo gs.size (λi=>(upd K ic (.close n') i).late)=0:=by rw[lV K (.close n') GS.late (by rw[hK];rfl)];exact m3
  simp only[e1,e2,bD];exact .inr (.inr (.inr (.inr (.inr (.inl ⟨m1,trivial,trivial,trivial,.inr rfl⟩)))))
 ·have hr:Rest p.Wg t K ic st:=h.out.2.2.1;rw[hs,m2]at hr;exact hr.got
def Inv.aie(h:Inv P n0 W0 V gs w t K Im ic (some p) st)(aM:p.recv=true){n:Nat}{gi:Ti}(aR:gs[ic]?=some gi)(hK:K ic=.close n)(jY:JI P p.c (VS t ic) gi):ie P n0 W0 V gs w sl t K Im ic (some p) st ic:=by
 obtain⟨s,hs,gZ,ji,hm⟩:=h.mode aM;obtain⟨⟨nn,m1⟩,m2,m3,m4⟩:=hm.Qy (.inr (by rw[hK];rfl));obtain⟨hd,bQ,M1,g',aU,q,mL⟩:=jY;have mi:=aU w nn m1;have e_:∀e∈(#[⟨.obj p.c,false,true⟩,⟨.obj p.c,true,true⟩]:SO),e=⟨.obj p.c,false,true⟩\/e=⟨.obj p.c,true,true⟩:=λe he=>by simpa using he
 have M5:∀j,0<j->j<gs.size->j≠ic->(K j).idx=none:=λj _ hj _=>by have hle:(K j).cnt<=sumTo gs.size λi=>(K i).cnt:=Xj (f:=λi=>(K i).cnt) hj;exact GS.abZ (by omega)
 have MH:g'.status=.running\/g'.status=.finished:=Zn mL;have sC:p.c≠p.Wg:=h.phase.2.2.1;have Mi:=h.low.1;have eu:Uf ic gi.frame.fn gi.frame.place #[⟨.obj p.c,false,true⟩,⟨.obj p.c,true,true⟩]=#[{g:=ic,fn:=gi.frame.fn,pos:=gi.frame.place,act:=.ofEvent ⟨.obj p.c,false,true⟩},{g:=ic,fn:=gi.frame.fn,pos:=gi.frame.place,act:=.close p.c}]:=by simp[Uf,Ut]
 have g1:=sq (t:=t) (show (#[({g:=ic,fn:=gi.frame.fn,pos:=gi.frame.place,act:=.ofEvent ⟨.obj p.c,false,true⟩}:W7),{g:=ic,fn:=gi.frame.fn,pos:=gi.frame.place,act:=.close p.c}]:Vj)[1]?=some _ from rfl);have oE:∀op∈(#[({g:=ic,fn:=gi.frame.fn,pos:=gi.frame.place,act:=.ofEvent ⟨.obj p.c,false,true⟩}:W7),{g:=ic,fn:=gi.frame.fn,pos:=gi.frame.place,act:=.close p.c}]:Vj),still op.act:=by intro op aB;simp only[UN,Tm,T5,or_false]at aB;rcases aB with rfl|rfl<;>exact⟨by simp[Ut],by simp[Ut]⟩
 have aaW:∃n,({w with heap:=w.heap.setIfInBounds p.c (.chan 0 #[] true nn nn false)}:Us).heap[p.c]?=some (.chan 0 #[] true n n false):=⟨nn,by simp[Mi]⟩;refine h.uL aM (k':=.gone q) (s':=.shut (t.size+1)) gZ aR mi (by rw[hd];exact mL) (by rw[hK];exact It _) (λ_=>rfl) rfl (λj hj=>by rw[hK]at hj;cases hj) (.inl rfl) (λe he x hx=> .inl ?_) (λe he=> ?_) (λe he a=> ?_) (by simp) (λb hb _=>by simp[Xz,Ne.symm hb]) rfl rfl rfl
  ?_ (.inr ⟨M5,λg hg=>aqE gZ hg M1 MH aaW⟩) ?_ (zO ji (by rw[hK];exact .inl (by simp[GS.dh])))
 ·rcases e_ e he with rfl|rfl;cases hx;exact⟨rfl,rfl⟩;cases hx
 ·rcases e_ e he with rfl|rfl;exact Mi;exact Mi
 ·rcases e_ e he with rfl|rfl<;>simp[Ut]
 ·unfold Mode;have e1:sumTo gs.size (λi=>(upd K ic (.gone q) i).cnt)=0:=by rw[lV K (.gone q) GS.cnt (by rw[hK];rfl)];exact m4
  have e2:sumTo gs.size (λi=>(upd K ic (.gone q) i).late)=0:=by rw[lV K (.gone q) GS.late (by rw[hK];rfl)];exact m3
  simp only[e1,e2,bD];obtain⟨n,hn⟩:=aaW;refine .inr (.inr (.inr (.inr (.inr (.inr ⟨⟨t.size+1,n,rfl,?_,?_,hn⟩,trivial,trivial,rfl⟩)))));rw[eu];exact ZO g1;rw[eu];exact heard_new (k:=1) rfl rfl (by rw[vd oE (by simp)];exact hd)
 ·have hr:Rest p.Wg t K ic st:=h.out.2.2.1;rw[hs,m2]at hr;rw[eu];refine hr.app (λidx a ha hx=> .inr (.inr (Knows.hb_new hx (by omega) g1 rfl))) (λidx a hi ⟨op,aB,dg,_⟩ _=> .inr (.inr ?_));have hlt:idx<t.size+2:=by have:=UI dg;simpa using this
  have qv:op.g=ic:=by simp only[UN,Tm,T5,or_false]at aB;rcases aB with rfl|rfl<;>rfl
  exact QU (g:=ic) (by simp[Xu,dg,qv]) (by simp[Xu,g1]) (by omega)
structure F7 (P:Tl)(n0:Nat)(W0:Us)(V:View)(gs:Array Ti)(w:Us)(sl:Option (Nat×Nat))(t:Vj)(Im:cC)(ic:Nat)(p:Phase)(st:Option eE)(g:Ti)(i:Nat):Prop where
 intro::
 met:∃gs' w' ops K' j sp S v lm Ow,runT P (crowd gs w sl) i=(.next (crowd gs' w' sl),ops)/\gs'.size=gs.size/\kP gs' (UY g (.tuple #[v,.bool true]))/\p.Ss[j]?=some (sp::S)/\sp v lm Ow/\(∀b,V.own b≠none->Ow b=none)/\(∀b o,V.own b≠none->lm b o≠none->V.ah b o≠none)/\
  (∃w,Sat V w/\(∀b o x,lm b o=some x->w.cell? ⟨b,o,none⟩=some x)/\∀b x,Ow b=some x->w.heap[b]?=some x)/\
  Inv P n0 W0 (oH V lm Ow (.recv p.c p.Wg (p.Ss.set j S))) gs' w' (t++ops) K' Im ic (some {p with Ss:=p.Ss.set j S}) st
def Inv.asZ(h:Inv P n0 W0 V gs w t K Im ic (some p) st)(aM:p.recv=true)(ik:V.deaf=0){g:Ti}(hm:oV gs g p.c){i j:Nat}{gi:Ti}{hh h':Ht}{Vi V₁:View}{c Wg:Nat}{sp:Spec}{S:TH}{v z:T9}{B:Nat->Bool}(hi:0<i)(aR:gs[i]?=some gi)
  (hK:K i=.work j hh Vi) (hg:eg Vi V₁) (hr:V₁.role=.work c Wg (sp::S)) (hd:V₁.deaf=0) (aU:stepG P false gi w=.comm gi #[scase c v z] true .send w #[])
  (qz:sp v V₁.ah (mu B V₁)) (hk:l6 P h' (mo B V₁ (.work c Wg S)) (UY gi undef)):F7 P n0 W0 V gs w sl t Im ic p st g i:=by
 have hlt:i<gs.size:=(Tw.1 aR).1;have du:=h.is i gi hi aR;simp only[hK,GS.is]at du;obtain⟨bC,_,S',hS,jG⟩:=du;rw[hg.role,jG]at hr;cases hr;have eN:(K i).cnt=1:=by rw[hK];rfl
 obtain⟨⟨n,iq⟩,lM⟩:=h.counted hi hlt eN;have fq:(i==0)=false:=by simp;omega
 obtain⟨g0,z0,h0,lG,jg,nC⟩:=hm;have hp:partners (gs.setIfInBounds i ph) p.c false=[(0,0)]:=by
  have GY:(gs.setIfInBounds i ph)[0]?=some (parked g0 #[rcase p.c z0] (.recv true)):=by rw[Tx (by omega)];exact h0
  rw[partners_one GY (λm x hm hx=> ?_),offersAt_parked_recv];simp;rcases XY gs i m x hx with⟨_,rfl⟩|⟨_,jZ⟩;exact YM _ _;exact ac6 (h.is m x (by omega) jZ) _
 have bQ:=crowd_send_meets (P:=P) (sl:=sl) (i:=i) aR (by rw[fq];exact aU) iq (by omega) h0 hp;rw[ZG,axy]at bQ;have mO:(K i).view Im=Vi:=by rw[hK];rfl
 have a_:((gs.setIfInBounds 0 (UY g0 (recvd true v true))).setIfInBounds i (UY gi undef)).size=gs.size:=by simp
 have aE:VS t i=0:=by rw[bC,<- hg.deaf,hd]
 have Ey:Sat V₁ w:=by have:=h.core.sat i hlt;rw[show bK V Im K i=(K i).view Im by simp[bK];omega,mO]at this;exact hg.sat w this
 have Np:Sat V w:=by have:=h.core.sat 0 h.pos;rwa[show bK V Im K 0=V by simp[bK]]at this
 have vN:=h.met (gs':=(gs.setIfInBounds 0 (UY g0 (recvd true v true))).setIfInBounds i (UY gi undef)) (w':=w.setChan p.c 0 #[] false (n+1) (n+1) false) (gi:=gi) (h':=h') (V₁:=V₁) (S:=S) (sp:=sp) (B:=B) aM ik hi hlt (by rw[hK];rfl) (by rw[mO];exact hg) (by rw[hg.role,jG]) hd aE hS hk a_
  (by rw[Ud (by simpa using hlt)]) (λm hm jk=>by rw[Tx (Ne.symm hm),Tx (by omega)])
  (u:=Uf i gi.frame.fn gi.frame.place #[]++#[{g:=i,fn:=gi.frame.fn,pos:=gi.frame.place,act:=.send p.c n},{g:=0,fn:=g0.frame.fn,pos:=g0.frame.place,act:=.recv p.c n 0},
    {g:=i,fn:=gi.frame.fn,pos:=gi.frame.place,act:=.sendDone p.c n},{g:=0,fn:=g0.frame.fn,pos:=g0.frame.place,act:=.recvDone p.c n}]) (s:=n) (by simp only[Uf,Z9,if_true,XK];rfl) ⟨rfl,rfl⟩ ⟨rfl,rfl⟩ ⟨rfl,rfl⟩ ⟨rfl,rfl⟩
  (by simp[Xq]) (λb hb=>by simp[Xq,Xz,Ne.symm hb]) ⟨n+1,by simp[Xq,h.low.1]⟩ rfl rfl rfl
 refine⟨_,_,_,_,j,sp,S,v,V₁.ah,mu B V₁,bQ,a_,⟨UY g0 (recvd true v true),?_,rfl,?_,jg,nC⟩,hS,qz,vN.1,vN.2.1,⟨w,Np,Ey.ah,λb x e=> ?_⟩,vN.2.2⟩;rw[Tx (by omega),Ud h.pos];simp only[UY,lG];rfl;unfold mu at e;split at e;exact Ey.own b x e;cases e
def Inv.ar1(h:Inv P n0 W0 V gs w t K Im ic (some p) st)(aM:p.recv=true)(ik:V.deaf=0){g:Ti}{z:T9}(hm:kP gs g)(aU:stepG P true g w=.comm g #[rcase p.c z] true (.recv true) w #[])
  (hw:∃i j h' V₁ V₂ g1 v z1,0<i/\i<gs.size/\K i=.oN j h' V₁ V₂ g1 v z1):F7 P n0 W0 V gs w sl t Im ic p st g 0:=by
 obtain⟨g0,h0,hf0,lG,jg,nC⟩:=hm;have lM:stepG P (0==0) g0 w=.comm g #[rcase p.c z] true (.recv true) w #[]:=by rw[<- aU];exact Yq lG jg nC w
 obtain⟨i0,j0,a0,a1,a2,a3,a4,a5,b0,b1,b2⟩:=hw;have amf:(K i0).cnt=1:=by rw[b2];rfl
 obtain⟨⟨n,iq⟩,HT⟩:=h.counted b0 b1 amf;have rN:gs[i0]?=some gs[i0]:=Tj b1;have fL:∀j k,(j,k)∈partners (gs.setIfInBounds 0 ph) p.c true->k=0/\j≠0/\∃gj vj zj Pt,gs[j]?=some (parked gj #[scase p.c vj zj] Pt):=by intro j k hjk;obtain⟨x,hx,hk⟩:=mem_partners.1 hjk;rcases XY gs 0 j x hx with⟨_,rfl⟩|⟨vJ,jZ⟩;rw[YM]at hk;cases hk;rcases GS.runs (h.is j x (by omega) jZ)with hr|⟨hf,_⟩|⟨q,h',V1,V2,g1,v,z1,e⟩|⟨_,hb,ho⟩;rw[VK (by rw[hr];simp)]at hk;cases hk;rw[VK (by rw[hf];simp)]at hk;cases hk;have:=h.is j x (by omega) jZ;simp only[e,GS.is]at this;obtain⟨_,_,rfl,_⟩:=this;rw[avs]at hk;simp at hk;exact⟨hk,vJ,g1,v,z1,.send,jZ⟩;have:offersAt x p.c true=[]:=(by unfold offersAt;simp[hb,ho]);rw[this]at hk;cases hk
 have aN:partners (gs.setIfInBounds 0 ph) p.c true≠[]:=by
  intro e;have e_:(i0,0)∈partners (gs.setIfInBounds 0 ph) p.c true:=by have:=h.is i0 _ b0 rN;simp only[b2,GS.is]at this;obtain⟨_,_,jF,_⟩:=this;refine mem_partners.2 ⟨gs[i0],by rw[Tx (by omega)];exact rN,?_⟩;rw[jF,avs];simp
  rw[e]at e_;cases e_
 obtain⟨i,gj,vj,zj,Pt,d,fq,aR,bQ⟩:=crowd_recv_meets_some (P:=P) (sl:=sl) h0 lM iq aN fL;have hi:0<i:=by omega
 have hlt:i<gs.size:=(Tw.1 aR).1;obtain⟨j,h',V₁,V₂,g1,v,z1,hK⟩:∃j h' V₁ V₂ g1 v z1,K i=.oN j h' V₁ V₂ g1 v z1:=by rcases GS.runs (h.is i _ hi aR)with hr|⟨hf,_⟩|x|⟨_,_,ho⟩;cases hr;cases hf;exact x;cases ho
 have du:=h.is i _ hi aR;simp only[hK,GS.is]at du;obtain⟨bC,hd,jF,hk,sp,S,B,hS,jG,qz,Bb⟩:=du;have efr:gj.frame=g1.frame/\gj.callers=g1.callers/\gj.dying=g1.dying/\vj=v/\zj=z1/\Pt=.send:=by simp only[parked,axx,Ul,VW]at jF;obtain⟨e1,e2,_,e3,e4,e5⟩:=jF;simp[scase]at e4;exact⟨e1,e2,e3,e4.1,e4.2,e5⟩
 obtain⟨e1,e2,e3,rfl,rfl,rfl⟩:=efr;have esv:UY gj undef=UY g1 undef:=by simp[UY,e1,e2,e3]
 rw[axy,ZG,esv]at bQ;subst Bb;have mO:(K i).view Im=V₁:=by rw[hK];rfl
 have a_:((gs.setIfInBounds i (UY g1 undef)).setIfInBounds 0 (UY g (recvd true vj true))).size=gs.size:=by simp
 have Ey:Sat V₁ w:=by have:=h.core.sat i hlt;rwa[show bK V Im K i=(K i).view Im by simp[bK];omega,mO]at this
 have Np:Sat V w:=by have:=h.core.sat 0 h.pos;rwa[show bK V Im K 0=V by simp[bK]]at this
 have vN:=h.met (gs':=(gs.setIfInBounds i (UY g1 undef)).setIfInBounds 0 (UY g (recvd true vj true))) (w':=(w.at d).setChan p.c 0 #[] false (n+1) (n+1) false) (gi:=g1) (h':=h') (V₁:=V₁) (S:=S) (sp:=sp) (B:=B) aM ik hi hlt (by rw[hK];rfl) (by rw[mO];exact eg.refl _) jG hd bC hS hk a_
  (by rw[Tx (by omega),Ud hlt]) (λm hm jk=>by rw[Tx (by omega),Tx (Ne.symm hm)])
  (u:=Uf 0 g0.frame.fn g0.frame.place #[]++#[{g:=i,fn:=gj.frame.fn,pos:=gj.frame.place,act:=.send p.c n},{g:=0,fn:=g.frame.fn,pos:=g.frame.place,act:=.recv p.c n 0},
    {g:=i,fn:=gj.frame.fn,pos:=gj.frame.place,act:=.sendDone p.c n},{g:=0,fn:=g.frame.fn,pos:=g.frame.place,act:=.recvDone p.c n}]) (s:=n) (by simp only[Uf,Z9,if_true,XK];rfl) ⟨rfl,rfl⟩ ⟨rfl,rfl⟩ ⟨rfl,rfl⟩ ⟨rfl,rfl⟩
  (by simp[Xq,World.at]) (λb hb=>by simp[Xq,World.at,Xz,Ne.symm hb]) ⟨n+1,by simp[Xq,World.at,h.low.1]⟩ rfl rfl rfl
 refine⟨_,_,_,_,j,sp,S,vj,V₁.ah,mu B V₁,bQ,a_,⟨UY g (recvd true vj true),?_,rfl,rfl,rfl,rfl⟩,hS,qz,vN.1,vN.2.1,⟨w,Np,Ey.ah,λb x e=> ?_⟩,vN.2.2⟩;rw[Ud (by simpa using h.pos)];unfold mu at e;split at e;exact Ey.own b x e;cases e
end
open Go.Conc Go.ConcN
section
variable {P:Tl}{n0:Nat}{W0:Us}{V:View}{gs gs':SR}{w w':Us}{sl:S9}{t:Vj}{K:Nat->GS}{Im:cC}{ic:Nat}{ph:TC}{p:Phase}{st st':TJ}
def Inv.uM(h:Inv P n0 W0 V gs w t K Im ic (some p) st){i n:Nat}{gi:Ti}{Stop:S0}{mk:Nat->GS}(hi:0<i)(aR:gs[i]?=some gi)(hK:K i=mk n)(cy:cZ P Stop n (VS t i) gi)
  (ox:∀n d g,cZ P Stop n d g->(mk n).is P p.c p.Wg Im p.Ss d g) (dD:∀n m,(mk n).shape=(mk m).shape) (NE:∀n m,(mk n).view Im=(mk m).view Im) (Nn:∀n,r_ (mk n).dh (mk (n+1)).dh) (BG:∀d g,Stop d g->g.status=.running)
  (hgo:Stop (VS t i) gi->ie P n0 W0 V gs w sl t K Im ic (some p) st i):ie P n0 W0 V gs w sl t K Im ic (some p) st i:=by
 cases n with
 |zero=>exact hgo cy
 |succ n=>rcases cy with hs|⟨hr,g',es,hm,aU,hs⟩;exact hgo hs;exact h.slip (k':=mk n) hi aR (aU w) hm (ox _ _ _ hs) (λx=>by rw[cZ.running BG hs]at x;cases x) (by rw[hK];exact dD _ _) (by rw[hK];exact NE _ _) (λ_=>cZ.running BG hs) (by rw[hK];exact Nn n)
def Inv.aee(h:Inv P n0 W0 V gs w t K Im ic (some p) st){i n:Nat}{gi:Ti}{Stop:S0}{mk:Nat->GS}(hi:0<i)(aR:gs[i]?=some gi)(hK:K i=mk n)(hW:∃x y,WgAt P p.Wg w x y)(cy:iJ P p.Wg Stop n (VS t i) gi)
  (ox:∀n d g,iJ P p.Wg Stop n d g->(mk n).is P p.c p.Wg Im p.Ss d g) (dD:∀n m,(mk n).shape=(mk m).shape) (NE:∀n m,(mk n).view Im=(mk m).view Im) (Nn:∀n,r_ (mk n).dh (mk (n+1)).dh) (BG:∀d g,Stop d g->g.status=.running)
  (hgo:Stop (VS t i) gi->ie P n0 W0 V gs w sl t K Im ic (some p) st i):ie P n0 W0 V gs w sl t K Im ic (some p) st i:=by
 cases n with
 |zero=>exact hgo cy
 |succ n=>rcases cy with hs|⟨hr,g',es,hm,aU,hs⟩;exact hgo hs;exact h.slip (k':=mk n) hi aR (aU w _ _ hW.choose_spec.choose_spec) hm (ox _ _ _ hs) (λx=>by rw[iJ.running BG hs]at x;cases x) (by rw[hK];exact dD _ _) (by rw[hK];exact NE _ _) (λ_=>iJ.running BG hs) (by rw[hK];exact Nn n)
def Inv.other(h:Inv P n0 W0 V gs w t K Im ic ph st){g:Ti}(qt:kP gs g\/∃p,ph=some p/\p.recv=true/\V.deaf=0/\oV gs g p.c){i:Nat}{gi:Ti}(hi:0<i)(aR:gs[i]?=some gi)(bQ:gi.status=.running):
  ie P n0 W0 V gs w sl t K Im ic ph st i\/∃p,ph=some p/\F7 P n0 W0 V gs w sl t Im ic p st g i/\oV gs g p.c:=by
 have hlt:i<gs.size:=(Tw.1 aR).1;have du:=h.out.1 i gi hi aR;have gone:∀q,K i=.gone q->Y5 P q (VS t i) gi->ie P n0 W0 V gs w sl t K Im ic ph st i:=by
  intro q hK hq;cases q with
  |zero=>rw[hq.1]at bQ;cases bQ
  |succ q=>
   rcases hq with⟨hf,_⟩|⟨_,g',es,hm,aU,uq⟩;rw[hf]at bQ;cases bQ
   ·refine h.slip (k':=.gone q) hi aR (aU w) hm ?_ (λx=>by rcases uq.status with e|e<;>rw[e]at x<;>cases x) (by rw[hK];rfl) (by rw[hK];rfl) (λx=>by rw[hK]at x;rcases x with x|x<;>cases x) (by rw[hK];exact .inr ⟨rfl,.inr ⟨rfl,Vw _⟩⟩);cases ph with
    |none=>exact⟨q,rfl,uq⟩
    |some p=>exact uq
 cases ph with
 |none=>obtain⟨q,hK,hq⟩:=du;exact .inl (gone q hK hq)
 |some p=>
  have fD:(K i).is P p.c p.Wg Im p.Ss (VS t i) gi:=du;have rG:(K i).idx=none->(∀q,K i≠ .gone q)->p.recv=true:=λh1 h2=>by
   cases aM:p.recv with
   |true=>rfl
   |false=>have hx:=h.phase.2.2.2.2.2.2.2.2.2;rw[if_neg (by rw[aM];simp)]at hx;rcases hx.2.2.2.1 i hi hlt with x|⟨q,x⟩;rw[h1]at x;cases x;exact absurd x (h2 q)
  cases hK:K i with
  |gone q=>rw[hK]at fD;exact .inl (gone q hK fD)
  |oN j h' V1 V2 g0 v z=>rw[hK]at fD;obtain⟨_,_,rfl,_⟩:=fD;cases bQ
  |work j hh Vi=>
   rw[hK]at fD;obtain⟨hd,NG,S,hS,jG⟩:=fD;have mO:bK V Im K i=Vi:=(by simp[bK,hK,GS.view];omega);have fZ:Sat Vi w:=(by have:=h.core.sat i hlt;rwa[mO]at this);cases NG with
   |step G' W' E' V' hs hg h1 h2 h3=>exact .inl (h.afd hi aR hK (h1 w (hg.sat w fZ)) (dl.s8 hg (h2 w (hg.sat w fZ))) (h3 w (hg.sat w fZ)) (.mk _ w))
   |send c Wg sp S1 v z B hs hg hr bi ho h1 h2 h3=>have er:nT.work p.c p.Wg S=.work c Wg (sp::S1):=(by rw[<- jG,<- hg.role,hr]);cases er;rcases qt with hm|⟨p',Bz,aM,ik,hm⟩;exact .inl (h.au4 hm hi aR hK hg hr bi (h1 w (hg.sat w fZ)) h2 h3);cases Bz;exact .inr ⟨p,rfl,h.asZ aM ik hm hi aR hK hg hr bi (h1 w (hg.sat w fZ)) h2 h3,hm⟩
   |done c Wg hg hr bi h1=>
    have er:nT.work p.c p.Wg S=.work c Wg []:=(by rw[<- jG,<- hg.role,hr]);cases er;refine .inl (h.release ?_ hi aR hK hg hr bi h1);cases aM:p.recv with
    |true=>rfl
    |false=>have hx:=h.phase.2.2.2.2.2.2.2.2.2;rw[if_neg (by rw[aM];simp)]at hx;exact absurd rfl (hx.2.2.2.2.1 [] (Un hS))
   |slip c Wg hs hg hr h1 h3=>
    have er:nT.work p.c p.Wg S=.work c Wg []:=(by rw[<- jG,<- hg.role,hr]);cases er;have aM:p.recv=true:=by
     cases aM:p.recv with
     |true=>rfl
     |false=>have hx:=h.phase.2.2.2.2.2.2.2.2.2;rw[if_neg (by rw[aM];simp)]at hx;exact absurd rfl (hx.2.2.2.2.1 [] (Un hS))
    obtain⟨s,hW⟩:=h.ail aM hlt (by rw[hK];rfl);exact .inl (h.afd hi aR hK (h1 w s (hg.sat w fZ) hW) (dl.s8 hg (dl.idle (hg.sat w fZ))) h3 (CH.mk (λ_=>_) w))
  |add n=>rw[hK]at fD;have aM:=rG (by rw[hK];rfl) (λq=>by rw[hK];simp);exact .inl (h.uM (mk:=.add) hi aR hK fD (λ_ _ _ x=>x) (λ_ _=>rfl) (λ_ _=>rfl) (λn=> .inr ⟨rfl,.inr ⟨rfl,Vw _⟩⟩) (λ_ _ x=>x.2.1) (λhs=>h.ags aM hi aR hK hs))
  |load n=>rw[hK]at fD;have aM:=rG (by rw[hK];rfl) (λq=>by rw[hK];simp);exact .inl (h.uM (mk:=.load) hi aR hK fD (λ_ _ _ x=>x) (λ_ _=>rfl) (λ_ _=>rfl) (λn=> .inr ⟨rfl,.inr ⟨rfl,Vw _⟩⟩) (λ_ _ x=>x.2.1) (λhs=>h.apf aM hi aR hK hs))
  |store n=>rw[hK]at fD;have aM:=rG (by rw[hK];rfl) (λq=>by rw[hK];simp);exact .inl (h.uM (mk:=.store) hi aR hK fD (λ_ _ _ x=>x) (λ_ _=>rfl) (λ_ _=>rfl) (λn=> .inr ⟨rfl,.inr ⟨rfl,Vw _⟩⟩) (λ_ _ x=>x.2.1) (λhs=>h.atQ aM hi aR hK hs))
  |mX n=>rw[hK]at fD;have aM:=rG (by rw[hK];rfl) (λq=>by rw[hK];simp);exact .inl (h.uM (mk:=.mX) hi aR hK fD (λ_ _ _ x=>x) (λ_ _=>rfl) (λ_ _=>rfl) (λn=> .inr ⟨rfl,.inr ⟨rfl,Vw _⟩⟩) (λ_ _ x=>x.2.1) (λhs=>h.asY aM hi aR hK hs))
  |head k n=>rw[hK]at fD;have aM:=rG (by rw[hK];rfl) (λq=>by rw[hK];simp);have gI:i=ic:=h.th hi (by rw[hK];rfl);exact .inl (h.uM (mk:=.head k) hi aR hK fD (λ_ _ _ x=>x) (λ_ _=>rfl) (λ_ _=>rfl) (λn=> .inr ⟨rfl,.inr ⟨rfl,Vw _⟩⟩) (λ_ _ x=>aa5 x) (λhs=>by subst gI;exact h.amA aM aR hK hs))
  |mE v n=>rw[hK]at fD;have aM:=rG (by rw[hK];rfl) (λq=>by rw[hK];simp);have gI:i=ic:=h.th hi (by rw[hK];rfl);exact .inl (h.uM (mk:=.mE v) hi aR hK fD (λ_ _ _ x=>x) (λ_ _=>rfl) (λ_ _=>rfl) (λn=> .inr ⟨rfl,.inr ⟨rfl,Vw _⟩⟩) (λ_ _ x=>x.2.1) (λhs=>by subst gI;exact h.ah7 aM aR hK hs))
  |said n=>rw[hK]at fD;have aM:=rG (by rw[hK];rfl) (λq=>by rw[hK];simp);have gI:i=ic:=h.th hi (by rw[hK];rfl);exact .inl (h.aee (mk:=.said) hi aR hK (h.Ql aM (n:=n) (.inr (by rw[<- gI];exact hK))) fD (λ_ _ _ x=>x) (λ_ _=>rfl) (λ_ _=>rfl) (λn=> .inr ⟨rfl,.inr ⟨rfl,Vw _⟩⟩) (λ_ _ x=>x.2.1) (λhs=>by subst gI;exact h.asB aM aR hK hs))
  |iL n=>rw[hK]at fD;have aM:=rG (by rw[hK];rfl) (λq=>by rw[hK];simp);have gI:i=ic:=h.th hi (by rw[hK];rfl);rcases fD with fD|⟨_,g1,rfl,_⟩;exact .inl (h.uM (mk:=.iL) hi aR hK fD (λ_ _ _ x=> .inl x) (λ_ _=>rfl) (λ_ _=>rfl) (λn=> .inr ⟨rfl,.inr ⟨rfl,Vw _⟩⟩) (λ_ _ x=>x.2.1) (λhs=>by subst gI;exact h.aim aM aR hK hs));cases bQ
  |last n=>rw[hK]at fD;have aM:=rG (by rw[hK];rfl) (λq=>by rw[hK];simp);have gI:i=ic:=h.th hi (by rw[hK];rfl);exact .inl (h.uM (mk:=.last) hi aR hK fD (λ_ _ _ x=>x) (λ_ _=>rfl) (λ_ _=>rfl) (λn=> .inr ⟨rfl,.inr ⟨rfl,Vw _⟩⟩) (λ_ _ x=>x.2.1) (λhs=>by subst gI;exact h.aoy aM aR hK hs))
  |acq n=>rw[hK]at fD;have aM:=rG (by rw[hK];rfl) (λq=>by rw[hK];simp);have gI:i=ic:=h.th hi (by rw[hK];rfl);exact .inl (h.aee (mk:=.acq) hi aR hK (h.Ql aM (n:=n) (.inl (by rw[<- gI];exact hK))) fD (λ_ _ _ x=>x) (λ_ _=>rfl) (λ_ _=>rfl) (λn=> .inr ⟨rfl,.inr ⟨rfl,Vw _⟩⟩) (λ_ _ x=>x.2.1) (λhs=>by subst gI;exact h.agn aM aR hK hs))
  |look n=>rw[hK]at fD;have aM:=rG (by rw[hK];rfl) (λq=>by rw[hK];simp);have gI:i=ic:=h.th hi (by rw[hK];rfl);exact .inl (h.uM (mk:=.look) hi aR hK fD (λ_ _ _ x=>x) (λ_ _=>rfl) (λ_ _=>rfl) (λn=> .inr ⟨rfl,.inr ⟨rfl,Vw _⟩⟩) (λ_ _ x=>x.2.1) (λhs=>by subst gI;exact h.apg aM aR hK hs))
  |close n=>rw[hK]at fD;have aM:=rG (by rw[hK];rfl) (λq=>by rw[hK];simp);have gI:i=ic:=h.th hi (by rw[hK];rfl);exact .inl (h.uM (mk:=.close) hi aR hK fD (λ_ _ _ x=>x) (λ_ _=>rfl) (λ_ _=>rfl) (λn=> .inr ⟨rfl,.inr ⟨rfl,Vw _⟩⟩) (λ_ _ x=>x.2.1) (λhs=>by subst gI;exact h.aie aM aR hK hs))
def Inv.awake(h:Inv P n0 W0 V gs w t K Im ic ph st){g:Ti}(qt:kP gs g\/∃p,ph=some p/\p.recv=true/\V.deaf=0/\oV gs g p.c):∀x∈gs,awake x:=by
 intro x hx;obtain⟨i,hi⟩:=ZP.1 hx;rcases Vf i with rfl|fq;rcases qt with⟨g0,h0,h1,_⟩|⟨p,_,_,_,g0,z,h0,_⟩;rw[hi]at h0;cases h0;intro s;rw[h1];simp;rw[hi]at h0;cases h0;intro s;simp[parked]
 ·have du:=h.out.1 i x fq hi;intro s;cases ph with
  |none=>obtain⟨q,_,hq⟩:=du;rcases hq.status with e|e<;>rw[e]<;>simp
  |some p=>rcases GS.runs (show (K i).is P p.c p.Wg Im p.Ss (VS t i) x from du)with e|⟨e,_⟩|⟨j,h',V1,V2,g1,v,z,e⟩|⟨_,e,_⟩;rw[e];simp;rw[e];simp;have fD:(K i).is P p.c p.Wg Im p.Ss (VS t i) x:=du;rw[e]at fD;obtain⟨_,_,rfl,_⟩:=fD;simp[parked];rw[e];simp
end
open Go.Conc Go.ConcN
def Ok (P:Tl)(Post:T9->Us->Prop)(m:ax0)(t:Vj):Prop:=
 ∃M last o w' t',runNT P (M+1) m t=(.ended o w',t')/\runN P M m=.next last/\step P last=.ended o w'/\YA P Post last o w' t'
section
variable {P:Tl}{Post:T9->Us->Prop}
def Ok.step{m m':ax0}{t:Vj}{ops:Array W7}(hs:stepT P m=(.next m',ops))(h:Ok P Post m' (t++ops)):Ok P Post m t:=by
 obtain⟨M,last,o,w',t',h1,h2,h3,h4⟩:=h;refine⟨M+1,last,o,w',t',?_,?_,h3,h4⟩;rw[runNT,hs];exact h1
 ·have:axu P m=.next m':=by unfold axu;rw[hs]
  rw[runN,this];exact h2
def Ok.end{m:ax0}{t:Vj}{o:Outcome}{w':Us}{ops:Array W7}(hs:stepT P m=(.ended o w',ops))(h:YA P Post m o w' (t++ops)):Ok P Post m t:=by refine⟨0,m,o,w',t++ops,?_,rfl,?_,h⟩;simp[runNT,hs];unfold axu;rw[hs]
end
section
variable {P:Tl}{n0:Nat}{W0:Us}{V:View}{gs gs':SR}{w w':Us}{sl:S9}{t:Vj}{K:Nat->GS}{Im:cC}{ic:Nat}{ph:TC}{p:Phase}{st st':TJ}
def Inv.draw(h:Inv P n0 W0 V gs w t K Im ic ph st)(d:Nat):Inv P n0 W0 V gs (w.at d) t K Im ic ph st:=
 let⟨a,b,c,e⟩:=h.out
 Inv.mk' h.pos h.k0 h.d0 a (b.draw d) c (by cases ph<;>exact e)
def PA{f:Nat->Nat}:∀{N:Nat},0<sumTo N f->∃i,i<N/\0<f i
 |0,h=>by simp[sumTo]at h
 |N+1,h=>by by_cases hN:0<f N;exact⟨N,by omega,hN⟩;obtain⟨i,hi,hf⟩:=PA (N:=N) (f:=f) (by rw[sumTo]at h;omega);exact⟨i,by omega,hf⟩
def Inv.atf(h:Inv P n0 W0 V gs w t K Im ic (some p) st)(aM:p.recv=true)(ho:Ax w p.c)(ub:Calm gs):∃i gi,0<i/\gs[i]?=some gi/\gi.status=.running:=by
 obtain⟨s,hs,gZ,ji,hm⟩:=h.mode aM;have h0:=h.k0;have Dz:gs[ic]?=some gs[ic]:=Tj ji;have awp:(K ic).is P p.c p.Wg Im p.Ss (VS t ic) gs[ic]:=h.is ic _ gZ Dz;have run:∀i x,0<i->gs[i]?=some x->(∀q,K i≠ .gone q)->(∀n,K i≠ .iL n)->x.status=.running:=by intro i x hi hx h1 h2;rcases GS.runs (show (K i).is P p.c p.Wg Im p.Ss (VS t i) x from h.is i x hi hx)with e|⟨_,q,e⟩|⟨j,h',V1,V2,g1,v,z,e⟩|⟨⟨n,e⟩,_⟩;exact e;exact absurd e (h1 q);have cN:=h.is i x hi hx;simp only[e,GS.is]at cN;obtain⟨_,_,jF,_⟩:=cN;have:=ub i x hi hx (by rw[jF];rfl);rw[jF]at this;cases this;exact absurd e (h2 n)
 have NN:(∀q,K ic≠ .gone q)->(∀n,K ic≠ .iL n)->∃i gi,0<i/\gs[i]?=some gi/\gi.status=.running:=λa b=>⟨ic,_,gZ,Dz,run ic _ gZ Dz a b⟩;have other:∀i,i<gs.size->(K i).cnt=1\/(K i).late=1->∃i gi,0<i/\gs[i]?=some gi/\gi.status=.running:=by
  intro i hi hc;have fq:0<i:=by rcases Vf i with rfl|x;rw[h0]at hc;rcases hc with c|c<;>cases c;exact x
  exact⟨i,_,fq,Tj hi,run i _ fq (Tj hi) (λq e=>by rw[e]at hc;rcases hc with c|c<;>cases c) (λq e=>by rw[e]at hc;rcases hc with c|c<;>cases c)⟩
 have one:∀i,0<(K i).cnt->(K i).cnt=1:=λi hi=>by cases e:K i<;>rw[e]at hi<;>first|rfl|exact absurd hi (by simp[GS.cnt])
 have aqm:∀i,0<(K i).late->(K i).late=1:=λi hi=>by cases e:K i<;>rw[e]at hi<;>first|rfl|exact absurd hi (by simp[GS.late])
 unfold Mode at hm;rcases hm with m|m|m|m|m|m|m;rcases m.2.2.2.2.2 with⟨k,e,_⟩|⟨v,e,_⟩<;>exact NN (λq x=>by rw[x]at e;cases e) (λq x=>by rw[x]at e;cases e);obtain⟨i,hi,hc⟩:=PA (N:=gs.size) (f:=λi=>(K i).cnt) (by have:=m.2.2.2.1;omega);exact other i hi (.inl (one i hc));obtain⟨i,hi,hc⟩:=PA (N:=gs.size) (f:=λi=>(K i).late) (by have:=m.2.2.1;omega);exact other i hi (.inr (aqm i hc));exact⟨ic,_,gZ,Dz,m.2.2.2.2.2.1 _ Dz⟩;rcases m.2.2.2.2.2 with e|e<;>exact NN (λq x=>by rw[x]at e;cases e) (λq x=>by rw[x]at e;cases e);rcases m.2.2.2.2 with e|e<;>exact NN (λq x=>by rw[x]at e;cases e) (λq x=>by rw[x]at e;cases e);obtain⟨⟨_,n,_,_,_,aY⟩,_⟩:=m;obtain⟨n',ho⟩:=ho;rw[aY]at ho;simp at ho
def tr(V':View)(Im:cC)(K:Nat->GS):bK V' Im K=upd (bK V Im K) 0 V':=by funext j;by_cases hj:j=0;subst hj;rw[bD];simp[bK];rw[bk _ _ hj];simp[bK,hj]
def lh:bK V Im K 0=V:=by simp[bK]
def wI (r:nT)(ph:TC):Prop:=match r with
 |.plain=>ph=none
 |.fork c Wg Ss=>ph=some ⟨c,Wg,Ss,false⟩
 |.recv c Wg Ss=>ph=some ⟨c,Wg,Ss,true⟩
 |.work .. =>False
def Inv.apr(h:Inv P n0 W0 V gs w t K Im ic ph st){V':View}(g:eg V V')(hr:wI V.role ph):Inv P n0 W0 V' gs w t K Im ic ph st:=by
 obtain⟨du,hc,nF,iu⟩:=h.out;refine Inv.mk' h.pos h.k0 (by rw[g.deaf];exact h.d0) du ?_ nF ?_;rw[tr (V:=V)];exact hc.ghost h.pos (by rw[lh];exact g)
 ·cases ph with
  |none=>exact iu
  |some p=>obtain⟨a1,a2,a3,a4,a5,a6,a7,a8,a9,b9⟩:=iu;refine⟨a1,a2,a3,a4,a5,a6,a7,a8,a9,?_⟩;split;rename_i aM;rw[if_pos aM]at b9;have b:jO p V:=⟨b9.1.1,b9.1.2.1,b9.1.2.2.1,b9.1.2.2.2⟩;have b':=b.ghost g;exact⟨⟨b'.1,b'.2.1,b'.2.2.1,b'.2.2.2⟩,b9.2⟩;rename_i aM;rw[if_neg aM]at b9;refine⟨g.chan _ _ ?_ b9.1,b9.2⟩;unfold wI at hr;split at hr;cases hr;cases hr;rename_i e;rw[e];rfl;cases hr;exact absurd rfl aM;exact hr.elim
def Inv.acD(h:Inv P n0 W0 V gs w t K Im ic ph st){g0 g':Ti}{es:SO}{V':View}(h0:gs[0]?=some g0)(s:dl V w V' w' es)(hr:wI V.role ph):
  Inv P n0 W0 V' ((gs.map (woken P g0 g' w')).setIfInBounds 0 g') w' (t++Uf 0 g0.frame.fn g0.frame.place es) K Im ic ph st:=by
 obtain⟨du,hc,nF,iu⟩:=h.out;have a_:((gs.map (woken P g0 g' w')).setIfInBounds 0 g').size=gs.size:=by simp
 have zp:∀op∈Uf 0 g0.frame.fn g0.frame.place es,op.g=0:=λop aB=>by obtain⟨e,_,rfl⟩:=UO aB;rfl
 have eO:∀{u:Vj}{idx:Nat}{op:W7},(t++u)[idx]?=some op->op.g=0->Xe (t++u) 0 idx:=λ{u idx op} a b=>by have:=YQ a;rwa[b]at this
 have aaV:∀p,ph=some p->w'.heap[p.c]?=w.heap[p.c]?:=by
  rintro p rfl
  obtain⟨a1,a2,a3,a4,a5,a6,a7,a8,a9,b9⟩:=iu;by_cases aM:p.recv=true;rw[if_pos aM]at b9;exact s.frame _ a4 b9.1.1
  ·rw[if_neg aM]at b9;have cx:Sat V w:=(by have:=hc.sat 0 h.pos;rwa[lh]at this);have fA:V.role.chan=some p.c:=by unfold wI at hr;split at hr;cases hr;cases hr;rename_i e;rw[e];rfl;cases hr;exact absurd rfl aM;exact hr.elim
   rw[s.sat.own _ _ (s.chan _ _ fA b9.1),cx.own _ _ b9.1]
 refine Inv.mk' (by rw[a_];exact h.pos) h.k0 (by rw[Deaf_own,s.deaf,h.d0]) (λj x hj hx=> ?_) ?_ ?_ ?_
 ·rcases getElem?_next h.pos hx with⟨e,_⟩|⟨_,y,hy,rfl⟩;omega
  ·rw[ZW t (g:=j) (g':=0) (by omega) _ zp];have EG:=du j y hj hy;have MS:j<gs.size:=(Tw.1 hy).1;cases ph with
   |none=>obtain⟨q,hq,qC⟩:=EG;exact⟨q,hq,by rw[an' qC];exact qC⟩
   |some p=>refine ab4 ?_ EG;rcases h.opens rfl with⟨n,x⟩|x;exact .inl ⟨n,by rw[aaV p rfl];exact x⟩;exact .inr (x.1 j hj MS)
 ·rw[a_,tr (V:=V)];refine hc.step h.pos (by rw[lh];exact s) (λe he x hx hs=> ?_) g0.frame.fn g0.frame.place;cases ph with
  |none=>exact hs.elim
  |some p=>
   obtain⟨a1,a2,a3,a4,a5,a6,a7,a8,a9,b9⟩:=iu;have rq:=KZ (s.fJ e he) hx;by_cases aM:p.recv=true;exfalso;rw[if_pos aM]at b9;have b:jO p V:=⟨b9.1.1,b9.1.2.1,b9.1.2.2.1,b9.1.2.2.2⟩;rcases rq.1 with y|⟨y,_⟩|y;exact b.BZ y.rd hs;exact b.BZ y hs;exact y (aeb a4 a5 hs)
   ·rw[if_neg aM]at b9;have jG:V.role.chan=some p.c/\V.role.group=some p.Wg:=by unfold wI at hr;split at hr;cases hr;cases hr;rename_i e;rw[e];exact⟨rfl,rfl⟩;cases hr;exact absurd rfl aM;exact hr.elim
    have kC:nX (some p) gs.size ic K 0:=by show jv p gs.size ic K 0;unfold jv;rw[if_neg aM];exact .inl rfl
    have En:x.kind≠ .plain:=by
     intro hk;cases hl:x.loc with
     |cell a=>rw[hl]at hs;exact rq.2.2 _ a jG.2 hl hs hk
     |obj r=>rw[hl]at hs;exact rq.2.1 _ jG.1 (by rw[hl];exact congrArg _ hs)
     |_=>rw[hl]at hs;exact hs.elim
    cases hk:x.kind with
    |plain=>exact absurd hk En
    |atomic=>exact .inl ⟨rfl,kC⟩
    |said=>exact .inr ⟨rfl,b9.2.1.symm,kC⟩
 ·have xw:∀idx a,t.size<=idx->(∃op∈Uf 0 g0.frame.fn g0.frame.place es,(t++Uf 0 g0.frame.fn g0.frame.place es)[idx]?=some op/\op.act.touch?=some a)->Xe (t++Uf 0 g0.frame.fn g0.frame.place es) 0 idx:=λidx a _ ⟨op,aB,hi,_⟩=>eO hi (zp op aB);cases st with
  |none=>intro idx a ha hm;rcases Cr ha with fK|⟨hi,x⟩;obtain⟨op,aB,_⟩:=VR fK;rcases nF idx a fK hm with x|⟨x,y⟩|⟨_,z,_⟩;exact .inl (x.app _);exact .inr (.inl ⟨x,λz=>y ((Xb (UI aB)).1 z)⟩);cases z;exact .inl (xw idx a hi x)
  |some s'=>exact nF.app (λidx a ha hx=> .inr (hx.app (by obtain⟨op,aB,_⟩:=VR ha;exact UI aB) λj _ _ hj=> .inl hj)) (λidx a hi x _=> .inl (xw idx a hi x))
 ·cases ph with
  |none=>exact iu
  |some p=>
   obtain⟨a1,a2,a3,a4,a5,a6,a7,a8,a9,b9⟩:=iu;refine⟨a1,a2,a3,Ug a4 s.size,Ug a5 s.size,a6,a7,λj j' m b1 b2 b3 b4=>a8 j j' m b1 (a_▸b2) b3 (a_▸b4),λj S b1 b2=>by rw[a_];exact a9 j S b1 b2,?_⟩;split
   ·rename_i aM;rw[if_pos aM]at b9;obtain⟨c1,c2,c3,s',c4,c5⟩:=b9;have b:jO p V:=⟨c1.1,c1.2.1,c1.2.2.1,c1.2.2.2⟩;have b':=b.step s a4 a5;refine⟨⟨b'.1,b'.2.1,b'.2.2.1,b'.2.2.2⟩,c2,by rw[a_];exact c3,s',c4,?_⟩;rw[a_];refine c5.keep (λ_=>rfl) (aaV p rfl) (s.frame _ a5 b.2.2.1) λmM g hg=> ?_;rcases getElem?_next h.pos hg with⟨e,_⟩|⟨_,y,hy,rfl⟩
    ·omega
    ·rw[Yj (mM y hy)];exact mM y hy
   ·rename_i aM;rw[if_neg aM]at b9;have fA:V.role.chan=some p.c:=by unfold wI at hr;split at hr;cases hr;cases hr;rename_i e;rw[e];rfl;cases hr;exact absurd rfl aM;exact hr.elim
    exact⟨s.chan _ _ fA b9.1,b9.2.1,b9.2.2.1,by rw[a_];exact b9.2.2.2.1,b9.2.2.2.2.1,by rw[a_];exact b9.2.2.2.2.2⟩
end
open Go.Conc Go.ConcN
def aeX{x y:W7}{k:Nat}(hx:x.act=.go k)(hy:y.act=.start):∀op∈(#[x,y]:Vj),op.act.touch?=none/\still op.act/\(∀B,op.act.low B)/\∀a,op.act≠ .mark (.release a):=by intro op aB;simp only[UN,Tm,T5,or_false]at aB;rcases aB with rfl|rfl;rw[hx];exact⟨rfl,⟨by simp,by simp⟩,λ_=>trivial,by simp⟩;rw[hy];exact⟨rfl,⟨by simp,by simp⟩,λ_=>trivial,by simp⟩
def Rm{t:Vj}{N:Nat}(h:∀op∈t,op.g<N):VS t N=0:=by
 have key:∀k,k<=t.size->t.deaf N k=0:=by
  intro k;induction k with
  |zero=>intro _;rfl
  |succ k ih=>intro hk;have hy:t[k]?=some t[k]:=Tj (by omega);have aN:¬t[k].g=N:=(by have:=h t[k] (XZ _);omega);rw[Zx hy,ih (by omega)];unfold deafStep;split<;>simp[aN]
 exact key _ (Tv _)
section
variable {VV:Nat->View}{N:Nat}{w:Us}{t:Vj}{Sh:Loc->Prop}{act act':S7}{ic kY n0:Nat}{W0:Us}
def Core.spawn(h:Core VV N w t Sh act ic n0 W0)(h0:0<N)(aE:VS t 0=0){x y:W7}(hx:x.g=0/\x.act=.go N)(hy:y.g=N/\y.act=.start){U:View}(hi:U.ah=(VV 0).ah)(ho:U.own=λ_=>none)
  (kC:∀i,act' i->act i\/(i=N/\act 0)) (gI:kY=ic\/(kY=N/\ic=0)):Core (upd VV N U) (N+1) w (t++#[x,y]) Sh act' kY n0 W0:=by
 have jX:=aeX hx.2 hy.2;have hdN:VS t N=0:=Rm h.ti.gs;have hk:∀{idx},Xe t 0 idx->Xe (t++#[x,y]) N idx:=λ{idx} jZ=>fork_knows hx hy aE hdN jZ;have hsU:Sat U w:=⟨λb o v e=>(h.sat 0 h0).ah b o v (by rw[<- hi];exact e),λb x e=>by rw[ho]at e;cases e⟩;refine⟨λi cN=> ?_,λa b ha hb im=> ?_,?_,h.tape,h.os,h.out,h.old,λi cN b hb=> ?_,h.n0⟩
 ·by_cases fX:i=N;subst fX;rw[bD];exact hsU;rw[bk _ _ fX];exact h.sat i (by omega)
 ·by_cases haN:a=N;subst haN;rw[bD];intro q hq;rw[ho]at hq;exact absurd rfl hq;rw[bk _ _ haN];by_cases hbN:b=N;subst hbN;rw[bD];intro q hq;refine⟨by rw[ho],λo hu=> ?_⟩;rw[hi]at hu;by_cases Bd:a=0;subst Bd;exact hu;exact(h.dV a 0 (by omega) h0 Bd q hq).2 o hu;rw[bk _ _ hbN];exact h.dV a b (by omega) (by omega) im
 ·refine h.ti.mute (λop aB=>(jX op aB).1) (λop aB=>(jX op aB).2.2.1 _) (λop aB=> ?_) (by omega) (λop aB=>(jX op aB).2.2.2) (λi cN l hl idx a ha io sT=> ?_) (λi cN l hl idx a ha io=> ?_) (λidx a ha dD=>⟨λhp i cN=> ?_,λhp=> ?_⟩);simp only[UN,Tm,T5,or_false]at aB;rcases aB with rfl|rfl;omega;omega
  ·obtain⟨_,cX,mI⟩:=hl;by_cases fX:i=N
   ·subst fX;rw[bD]at cX;have:iA (VV 0) l:=by
     cases l with
     |cell a'=>rcases cX with z|z;exact absurd (by rw[ho]) z;exact .inr (by rw[<- hi];exact z)
     |obj r=>exact absurd (by rw[ho]) cX
     |_=>exact cX.elim
    exact hk (h.ti.kr 0 h0 l ⟨h0,this,mI⟩ idx a ha io sT)
   ·rw[bk _ _ fX]at cX;exact(h.ti.kr i (by omega) l ⟨by omega,cX,mI⟩ idx a ha io sT).app _
  ·obtain⟨_,cX,mI⟩:=hl;by_cases fX:i=N
   ·subst fX;rw[bD]at cX;exfalso;cases l with
    |cell a'=>exact cX.1 (by rw[ho])
    |obj r=>exact cX (by rw[ho])
    |_=>exact cX.elim
   ·rw[bk _ _ fX]at cX;exact(h.ti.kw i (by omega) l ⟨by omega,cX,mI⟩ idx a ha io).app _
  ·have:=h.ti.sp idx a ha dD;rcases kC i cN with z|⟨rfl,z⟩;exact(this.1 hp i z).app _;exact hk (this.1 hp 0 z)
  ·have:=h.ti.sp idx a ha dD;rcases gI with rfl|⟨rfl,rfl⟩;exact(this.2 hp).app _;exact hk (this.2 hp)
 ·by_cases fX:i=N;subst fX;rw[bD,ho];rw[bk _ _ fX];exact h.jJ i (by omega) b hb
end
open Go.Conc Go.ConcN
open Go.Conc Go.ConcN
section
variable {P:Tl}{n0:Nat}{W0:Us}{V:View}{gs gs':SR}{w w':Us}{sl:S9}{t:Vj}{K:Nat->GS}{Im:cC}{ic:Nat}{ph:TC}{p:Phase}{st st':TJ}
def GS.ae7{k:GS}(h:k.n_=false)(Im lm:cC):k.view lm=k.view Im:=by cases k<;>first|rfl|cases h
def GS.an5{k:GS}{c Wg d:Nat}{Im lm:cC}{Ss Qf:TB}{g:Ti}(h:k.n_=false)(hS:∀(j:Nat) S,Ss[j]?=some S->Qf[j]?=some S)(hk:k.is P c Wg Im Ss d g):k.is P c Wg lm Qf d g:=by
 cases k with
 |work j hh V=>obtain⟨a,b,S,e,f⟩:=hk;exact⟨a,b,S,hS _ _ e,f⟩
 |oN j hh V V' g0 v z=>obtain⟨a,b,c,d,sp,S,B,e,f⟩:=hk;exact⟨a,b,c,d,sp,S,B,hS _ _ e,f⟩
 |gone q=>exact hk
 |add n=>exact hk
 |load n=>exact hk
 |store n=>exact hk
 |mX n=>exact hk
 |head k n=>cases h
 |mE k n=>cases h
 |said n=>cases h
 |iL n=>cases h
 |last n=>cases h
 |acq n=>cases h
 |look n=>cases h
 |close n=>cases h
def Inv.spawn(h:Inv P n0 W0 V gs w t K Im ic (some p) st)(aM:p.recv=false)(ik:V.deaf=0){g' child:Ti}{x y:W7}(hx:x.g=0/\x.act=.go gs.size)(hy:y.g=gs.size/\y.act=.start){V':View}{p':Phase}{lm:cC}{kY:Nat}{k':GS}(hc:p'.c=p.c)(Bc:p'.Wg=p.Wg)
  (rC:nd V' V) (vC:V'.deaf=V.deaf) (rL:(k'.view lm).ah=V.ah) (hvo:(k'.view lm).own=λ_=>none) (hSs:∀(j:Nat) S,p.Ss[j]?=some S->p'.Ss[j]?=some S) (D3:k'.is P p.c p.Wg lm p'.Ss 0 child)
  (kC:∀i,i<gs.size->jv p' (gs.size+1) kY (upd K gs.size k') i->jv p gs.size ic K i) (gI:kY=ic\/kY=gs.size)
  (Eo:Ay P n0 V' ((gs.setIfInBounds 0 g').push child) w (t++#[x,y]) (upd K gs.size k') lm kY (some p') (some .early)):
  Inv P n0 W0 V' ((gs.setIfInBounds 0 g').push child) w (t++#[x,y]) (upd K gs.size k') lm kY (some p') (some .early):=by
 obtain⟨du,iB,nF,iu⟩:=h.out;obtain⟨a1,a2,a3,a4,a5,a6,a7,a8,a9,b9⟩:=iu;rw[if_neg (by rw[aM];simp)]at b9;obtain⟨c1,c2,c3,c4,c5,c6⟩:=b9;have a_:((gs.setIfInBounds 0 g').push child).size=gs.size+1:=by simp
 have jX:=aeX hx.2 hy.2;have bC:∀i,VS (t++#[x,y]) i=VS t i:=λi=>Deaf_still λop aB=>(jX op aB).2.1;have Ep:=h.pos;have aE:VS t 0=0:=by rw[h.d0,ik]
 have aY:∀i,0<i->(K i).n_=false:=λi hi=>by
  cases e:(K i).n_ with
  |false=>rfl
  |true=>have:=h.th hi e;omega
 have alT:nX (some p) gs.size ic K 0:=by show jv p gs.size ic K 0;unfold jv;rw[if_neg (by rw[aM];simp)];exact .inl rfl
 have y_:=iB.spawn (act':=nX (some p') (gs.size+1) kY (upd K gs.size k')) (kY:=kY) Ep aE hx hy (U:=k'.view lm) (by rw[lh];exact rL) hvo (λi hi=>by
   by_cases fX:i<gs.size;exact .inl (kC i fX hi)
   ·refine .inr ⟨?_,alT⟩;have cN:jv p' (gs.size+1) kY (upd K gs.size k') i:=hi;unfold jv at cN;split at cN<;>omega) (gI.imp id λe=>⟨e,c2⟩)
 have amk:=(y_.less (i:=0) (V':=V') (by omega) (by rw[bk _ _ (by omega),lh];exact rC)).congr (F9:=bK V' lm (upd K gs.size k')) λi hi=>by by_cases fq:i=0;subst fq;rw[bD];simp[bK];rw[bk _ _ fq];by_cases fX:i=gs.size;subst fX;rw[bD];simp[bK,fq,bD];rw[bk _ _ fX];simp only[bK,fq,if_false,bk _ _ fX];exact GS.ae7 (aY i (by omega)) _ _
 refine Inv.mk' (by omega) (by rw[bk _ _ (by omega)];exact h.k0) (by rw[bC,vC];exact h.d0) (λi z hi hz=> ?_) ?_ ?_ Eo
 ·rw[bC];show (upd K gs.size k' i).is P p'.c p'.Wg lm p'.Ss _ z;rw[hc,Bc];by_cases fX:i=gs.size
  ·subst fX;rw[bD,Rm iB.ti.gs];have:z=child:=by rw[show gs.size=(gs.setIfInBounds 0 g').size by simp]at hz;rw[Array.getElem?_push_size]at hz;exact(V_ hz).symm
   rw[this];exact D3
  ·have awm:i<gs.size:=(by have:=(Tw.1 hz).1;omega);rw[bk _ _ fX];rw[XC,if_neg (by simp;omega),Tx (by omega)]at hz;exact GS.an5 (aY i hi) hSs (du i z hi hz)
 ·rw[a_];have e:te (some p')=te (some p):=by show se p'.c p'.Wg=se p.c p.Wg;rw[hc,Bc]
  rw[e];exact amk
 ·have hr:Rest p.Wg t K ic st:=nF;rw[c3]at hr;show Rest p'.Wg _ _ _ _;rw[Bc];intro idx a ha hm;have fK:=Cs (λop aB=>(jX op aB).1) ha;obtain⟨op,aB,_⟩:=VR fK;have hlt:=UI aB;rcases hr idx a fK hm with z|⟨z1,z2⟩|⟨s,hs,jZ⟩;exact .inl (z.app _);exact .inr (.inl ⟨z1,λz=>z2 ((Xb hlt).1 z)⟩)
  ·cases hs;obtain⟨i,hg,hi,hz⟩:=jZ;have fX:i<gs.size:=by obtain⟨op',bl,qv⟩:=Uu.1 hg;rw[<- qv];exact iB.ti.gs op' (XM bl)
   refine .inr (.inr ⟨.early,rfl,i,by rw[ayj hlt];exact hg,hi,?_⟩);rcases hz with hz|hz|⟨r,hz,hle⟩;exact .inl (by rw[bk _ _ (by omega)];exact hz);omega;exact .inr (.inr ⟨r,hz.app,hle⟩)
def Sat.NR{c:Nat}{a:Nat}{x:Bool}{y z:Nat}{u:Bool}{Gt:SG}(h:Sat V w)(hc:w.heap[c]?=some (.chan a Gt x y z u))(o:Nat):V.ah c o=none:=by
 cases e:V.ah c o with
 |none=>rfl
 |some v=>have:=h.ah c o v e;simp[VA,hc]at this
def Inv.acO(h:Inv P n0 W0 V gs w t K Im ic (some p) st)(aM:p.recv=false){i:Nat}(hi:0<i):(K i).n_=false:=by
 have hx:=h.phase.2.2.2.2.2.2.2.2.2;rw[if_neg (by rw[aM];simp)]at hx;cases e:(K i).n_ with
 |false=>rfl
 |true=>have:=h.th hi e;have:=hx.2.1;omega
def Inv.GW(h:Inv P n0 W0 V gs w t K Im ic (some p) st)(aM:p.recv=false)(ik:V.deaf=0){g' child:Ti}{x y:W7}(hx:x.g=0/\x.act=.go gs.size)(hy:y.g=gs.size/\y.act=.start){hh:Ht}{sp:Spec}{S:TH}(hlen:p.Ss.length<4)(pi:∀o,V.ah p.Wg o=none)
  (D3:l6 P hh {ah:=V.ah,own:=λ_=>none,deaf:=0,role:=.work p.c p.Wg (sp::S)} child):
  Inv P n0 W0 {V with role:=.fork p.c p.Wg (p.Ss++[sp::S])} ((gs.setIfInBounds 0 g').push child) w (t++#[x,y]) (upd K gs.size (.work p.Ss.length hh {ah:=V.ah,own:=λ_=>none,deaf:=0,role:=.work p.c p.Wg (sp::S)})) Im ic
   (some {p with Ss:=p.Ss++[sp::S]}) (some .early):=by
 obtain⟨du,iB,nF,iu⟩:=h.out;obtain⟨a1,a2,a3,a4,a5,a6,a7,a8,a9,b9⟩:=iu;rw[if_neg (by rw[aM];simp)]at b9;obtain⟨c1,c2,c3,c4,c5,c6⟩:=b9;have a_:((gs.setIfInBounds 0 g').push child).size=gs.size+1:=by simp
 have cx:Sat V w:=by have:=iB.sat 0 h.pos;rwa[lh]at this
 have Bn:=cx.NR (cx.own _ _ c1);have dg:∀i j,0<i->i<gs.size->(K i).idx=some j->j<p.Ss.length:=λi j hi hlt e=>by have hik:=du i _ hi (Tj hlt);have MN:(K i).is P p.c p.Wg Im p.Ss (VS t i) gs[i]:=hik;cases lC:K i<;>rw[lC]at e MN<;>simp[GS.idx]at e;subst e;obtain⟨_,_,S,e,_⟩:=MN;exact(Tn.1 e).1;subst e;obtain⟨_,_,_,_,_,_,_,e,_⟩:=MN;exact(Tn.1 e).1
 refine h.spawn aM ik hx hy rfl rfl ⟨λ_=> .inr rfl,λ_ _=> .inr rfl,λ_ _ _=>rfl⟩ rfl rfl rfl (λj S' e=> ?_) ⟨rfl,D3,sp::S,by simp,rfl⟩ (λi hi kC=> ?_) (.inl rfl) ?_;show (p.Ss++[sp::S])[j]?=some S';rw[T6 (Tn.1 e).1];exact e;(unfold jv at kC⊢;rw[if_neg (by show ¬p.recv=true;rw[aM];simp)]at kC;rw[if_neg (by rw[aM];simp)];rw[bk _ _ (by omega)]at kC;exact kC.imp id λz=>⟨hi,z.2⟩)
 ·refine⟨a1,a2,a3,a4,a5,by simp only[Tp,U4,Vz];omega,λi hi=> ?_,λi i' j b1 b2 b3 b4 b5 b6=> ?_,λj S' b1 b2=> ?_,?_⟩;by_cases fX:i=gs.size;subst fX;rw[bD];exact⟨rfl,Bn,rfl,pi,λe=>by cases e⟩;rw[bk _ _ fX];exact a7 i hi;rw[a_]at b2 b4;by_cases e1:i=gs.size;by_cases e2:i'=gs.size;omega;rw[bk _ _ e2]at b6;have:=dg i' j b3 (by omega) b6;subst e1;rw[bD]at b5;simp only[GS.idx,Ul]at b5;omega;rw[bk _ _ e1]at b5;by_cases e2:i'=gs.size;have:=dg i j b1 (by omega) b5;subst e2;rw[bD]at b6;simp only[GS.idx,Ul]at b6;omega;rw[bk _ _ e2]at b6;exact a8 i i' j b1 (by omega) b3 (by omega) b5 b6
  ·rw[a_];by_cases hj:j<p.Ss.length
   ·have:p.Ss[j]?=some S':=by have Ki:(p.Ss++[sp::S])[j]?=some S':=b1;rwa[T6 hj]at Ki
    obtain⟨i,e1,e2,e3⟩:=a9 j S' this b2;exact⟨i,e1,by omega,by rw[bk _ _ (by omega)];exact e3⟩
   ·have iW:j=p.Ss.length:=by have:=(Tn.1 (show (p.Ss++[sp::S])[j]?=some S' from b1)).1;simp at this;omega
    exact⟨gs.size,h.pos,by omega,by rw[bD,iW];rfl⟩
  ·show if p.recv=true then _ else _;rw[if_neg (by rw[aM];simp)];refine⟨c1,c2,rfl,λi b1 b2=> ?_,λS' hS'=> ?_,?_⟩
   ·rw[a_]at b2;by_cases fX:i=gs.size;subst fX;rw[bD];exact .inl rfl;rw[bk _ _ fX];exact c4 i b1 (by omega)
   ·rcases T1.1 hS' with z|z;exact c5 S' z;simp at z;subst z;simp
   ·rw[a_,sumTo,bD,Tp,<- c6];rw[Wm (g:=λi=>(K i).cnt) λi hi=>by rw[bk _ _ (by omega)]];rfl
def Inv.GV(h:Inv P n0 W0 V gs w t K Im ic (some p) st)(aM:p.recv=false)(ik:V.deaf=0){g' child:Ti}{x y:W7}(hx:x.g=0/\x.act=.go gs.size)(hy:y.g=gs.size/\y.act=.start){n:Nat}
  (Bc:V.own p.Wg=some (wgBlock P (((p.Ss.length:Nat):Int)* KK) 0)) (pi:∀o,V.ah p.Wg o=none) (D3:cZ P (eY P V.ah p.c p.Wg 5) n 0 child):
  Inv P n0 W0 {V with own:=λb=>if b=p.c\/b=p.Wg then none else V.own b,role:=.recv p.c p.Wg p.Ss} ((gs.setIfInBounds 0 g').push child) w (t++#[x,y]) (upd K gs.size (.head 5 n)) V.ah gs.size (some {p with recv:=true}) (some .early):=by
 obtain⟨du,iB,nF,iu⟩:=h.out;obtain⟨a1,a2,a3,a4,a5,a6,a7,a8,a9,b9⟩:=iu;rw[if_neg (by rw[aM];simp)]at b9;obtain⟨c1,c2,c3,c4,c5,c6⟩:=b9;have a_:((gs.setIfInBounds 0 g').push child).size=gs.size+1:=by simp
 have cx:Sat V w:=by have:=iB.sat 0 h.pos;rwa[lh]at this
 have Bn:=cx.NR (cx.own _ _ c1);have Ep:=h.pos;refine h.spawn aM ik hx hy rfl rfl ⟨λb=> ?_,λ_ _=> .inr rfl,λ_ _ _=>rfl⟩ rfl rfl rfl (λj S' e=>e) D3 (λi hi kC=> ?_) (.inr rfl) ?_;by_cases e:b=p.c\/b=p.Wg;exact .inl (by simp only[e,if_true]);exact .inr (by simp only[e,if_false]);unfold jv at kC⊢;rw[if_pos rfl]at kC;rw[if_neg (by rw[aM];simp)];rw[bk _ _ (by omega)]at kC;obtain⟨z1,_,z2⟩:=kC;rcases c4 i z1 hi with z|⟨q,z⟩;exact .inr ⟨hi,z⟩;exfalso;rw[z]at z2;rcases z2 with z2|z2|z2|z2;cases z2;omega;cases z2;cases z2
 ·refine⟨a1,a2,a3,a4,a5,a6,λi hi=> ?_,λi i' j b1 b2 b3 b4 b5 b6=> ?_,λj S' b1 b2=> ?_,?_⟩;by_cases fX:i=gs.size;subst fX;rw[bD];exact⟨rfl,Bn,rfl,pi,λ_=>rfl⟩;rw[bk _ _ fX,GS.ae7 (h.acO aM hi) Im];have:=a7 i hi;exact⟨this.1,this.2.1,this.2.2.1,this.2.2.2.1,λe=>by rw[h.acO aM hi]at e;cases e⟩;rw[a_]at b2 b4;by_cases e1:i=gs.size;subst e1;rw[bD]at b5;cases b5;by_cases e2:i'=gs.size;subst e2;rw[bD]at b6;cases b6;rw[bk _ _ e1]at b5;rw[bk _ _ e2]at b6;exact a8 i i' j b1 (by omega) b3 (by omega) b5 b6;obtain⟨i,e1,e2,e3⟩:=a9 j S' b1 b2;exact⟨i,e1,by omega,by rw[bk _ _ (by omega)];exact e3⟩
  ·show if true=true then _ else _;rw[if_pos rfl];refine⟨⟨by simp,Bn,by simp,pi⟩,by omega,by rw[a_];omega,.early,rfl,?_⟩;rw[a_];have e1:sumTo (gs.size+1) (λi=>(upd K gs.size (.head 5 n) i).cnt)=p.Ss.length:=by rw[sumTo,bD,<- c6];rw[Wm (g:=λi=>(K i).cnt) λi hi=>by rw[bk _ _ (by omega)]];rfl
   have e2:sumTo (gs.size+1) (λi=>(upd K gs.size (.head 5 n) i).late)=0:=by
    have hz:∀N,sumTo N (λ_=>0)=0:=λN=>(by induction N with|zero=>rfl|succ N ih=>simp[sumTo,ih]);rw[sumTo,bD];rw[Wm (g:=λ_=>0) λi hi=> ?_,hz]
    ·rfl
    ·rw[bk _ _ (by omega)];rcases Vf i with rfl|fq;rw[h.k0];rfl;rcases c4 i fq hi with z|⟨q,z⟩;(cases lC:K i<;>rw[lC]at z<;>first|rfl|cases z);rw[z];rfl
   unfold Mode;simp only[e1,e2,bD];exact .inl ⟨⟨0,cx.own _ _ c1⟩,trivial,trivial,a6,cx.own _ _ Bc,.inl ⟨5,rfl,by omega⟩⟩
def Inv.begin(h:Inv P n0 W0 V gs w t K Im ic none st){c Wg:Nat}(aN:c≠Wg)(hc:V.own c=some (.chan 0 #[] false 0 0 false))(hW:V.own Wg≠none)(pi:∀o,V.ah Wg o=none):
  Inv P n0 W0 {V with role:=.fork c Wg []} gs w t (λi=>if i<gs.size then K i else .gone 0) Im 0 (some ⟨c,Wg,[],false⟩) (some .early):=by
 obtain⟨du,iB,nF,iu⟩:=h.out;have cx:Sat V w:=by have:=iB.sat 0 h.pos;rwa[lh]at this
 have Bn:=cx.NR (cx.own _ _ hc);have ug:∀i,(∃q,(if i<gs.size then K i else .gone 0)=GS.gone q):=λi=>by by_cases hi:i<gs.size;rw[if_pos hi];rcases Vf i with rfl|fq;exact⟨0,h.k0⟩;obtain⟨q,hq,_⟩:=du i _ fq (Tj hi);exact⟨q,hq⟩;rw[if_neg hi];exact⟨0,rfl⟩
 have iP:∀{b x},V.own b=some x->n0<=b/\b<w.heap.size:=λ{b x} e=>by refine⟨?_,cx.lt e⟩;apply Nat.le_of_not_lt;intro hb;have:=iB.jJ 0 h.pos b hb;rw[lh,e]at this;cases this
 obtain⟨xW,hxW⟩:∃x,V.own Wg=some x:=by cases e:V.own Wg with|none=>exact absurd e hW|some x=>exact⟨x,rfl⟩
 have mO:∀i,0<i->((if i<gs.size then K i else .gone 0).view Im)=noView:=λi _=>by obtain⟨q,e⟩:=ug i;rw[e];rfl
 refine Inv.mk' h.pos (by rw[if_pos h.pos];exact h.k0) h.d0 (λi x hi hx=> ?_) ?_ ?_ ?_;have hlt:i<gs.size:=(Tw.1 hx).1;obtain⟨q,hq,hy⟩:=du i x hi hx;show (if i<gs.size then K i else .gone 0).is P c Wg Im [] _ x;rw[if_pos hlt,hq];exact hy
 ·have bu:Core (bK {V with role:=.fork c Wg []} Im (λi=>if i<gs.size then K i else .gone 0)) gs.size w t (te none) (nX none gs.size ic K) ic n0 W0:=by
   refine(iB.role (i:=0) (V':={V with role:=.fork c Wg []}) h.pos (by rw[lh]) (by rw[lh])).congr λi hi=> ?_;by_cases fq:i=0
   ·subst fq;rw[bD];simp[bK]
   ·rw[bk _ _ fq];simp[bK,fq,hi]
  refine⟨bu.sat,bu.dV,?_,bu.tape,bu.os,bu.out,bu.old,bu.jJ,bu.n0⟩;refine bu.ti.weaken (Tv _) (λi l _ x=> .inl ⟨x.1,x.2.1,λz=>z.elim⟩) (λi l _ x=>⟨x.1,x.2.1,λz=>z.elim⟩) (λidx a ha dD=> ?_);have hk:Xe t 0 idx:=by
   have pC:j7 V a.loc:=by
    have BH:se c Wg a.loc:=dD;cases hl:a.loc with
    |cell ad=>rw[hl]at BH;have e:ad.block=Wg:=BH;exact⟨by rw[e];exact hW,by rw[e];exact pi _⟩
    |obj r=>rw[hl]at BH;have e:r=c:=BH;show V.own r≠none;rw[e,hc];simp
    |_=>rw[hl]at BH;exact BH.elim
   exact iB.ti.kw 0 h.pos a.loc ⟨h.pos,by rw[lh];exact pC,λz=>z.elim⟩ idx a ha rfl
  refine⟨λ_ i hi=> ?_,λ_=>hk⟩;have cN:jv ⟨c,Wg,[],false⟩ gs.size 0 (λi=>if i<gs.size then K i else .gone 0) i:=hi;unfold jv at cN;rw[if_neg (by simp)]at cN;rcases cN with rfl|⟨_,e⟩;exact hk;obtain⟨q,eq⟩:=ug i;simp only[eq]at e;cases e
 ·have aU:st=none:=iu;intro idx a ha hm;rcases nF idx a ha hm with z|z|⟨s,e,_⟩;exact .inl z;exact .inr (.inl z);rw[aU]at e;cases e
 ·refine⟨(iP hc).1,(iP hxW).1,aN,(iP hc).2,(iP hxW).2,by simp,λi hi=> ?_,λi i' j _ _ _ _ b5=> ?_,λj S b1=>by simp at b1,?_⟩;rw[mO i hi];exact⟨rfl,λ_=>rfl,rfl,λ_=>rfl,λe=>by obtain⟨q,eq⟩:=ug i;simp only[eq]at e;cases e⟩;obtain⟨q,eq⟩:=ug i;simp only[eq]at b5;cases b5;(show if false=true then _ else _;rw[if_neg (by simp)];refine⟨hc,rfl,rfl,λi _ _=> .inr (ug i),by simp,?_⟩;have hz:∀N,sumTo N (λ_=>0)=0:=λN=>(by induction N with|zero=>rfl|succ N ih=>simp[sumTo,ih]);rw[Wm (g:=λ_=>0) λi _=>by obtain⟨q,eq⟩:=ug i;show (if i<gs.size then K i else GS.gone 0).cnt=0;rw[eq];rfl];exact hz _)
def Inv.ata(h:Inv P n0 W0 V gs w t K Im ic (some p) st)(aM:p.recv=true)(ik:V.deaf=0){g0 g':Ti}{n:Nat}(aY:w.heap[p.c]?=some (.chan 0 #[] true n n false)){y:W7}(hy:y.g=0/\y.act=.recvClosed p.c):
  (∀S∈p.Ss,S=[])/\Inv P n0 W0 {V with role:=.plain} (gs.setIfInBounds 0 g') w (t++#[y]) K Im ic none none:=by
 obtain⟨du,iB,nF,iu⟩:=h.out;obtain⟨a1,a2,a3,a4,a5,a6,a7,a8,a9,b9⟩:=iu;rw[if_pos aM]at b9;obtain⟨c1,c2,c3,s,c4,c5⟩:=b9;have zh:(∃pp n,s=.shut pp/\t.act? pp=some (.close p.c)/\t.heard pp/\w.heap[p.c]?=some (.chan 0 #[] true n n false))/\(sumTo gs.size λi=>(K i).late)=0/\(sumTo gs.size λi=>(K i).cnt)=0/\(K ic).shape=.gone 0:=by
  have no:¬∃n,w.heap[p.c]?=some (.chan 0 #[] false n n false):=λ⟨m,e⟩=>by rw[aY]at e;simp at e
  unfold Mode at c5;rcases c5 with m|m|m|m|m|m|m;exact absurd m.1 no;exact absurd m.1 no;exact absurd m.1 no;exact absurd m.1 no;exact absurd m.1 no;exact absurd m.1 no;exact m
 obtain⟨⟨pp,n',rfl,m1,m2,_⟩,m3,m4,m5⟩:=zh;have ug:∀i,i<gs.size->∃q,K i=.gone q:=λi hi=>by
  have e1:(K i).cnt<=sumTo gs.size λi=>(K i).cnt:=Xj (f:=λi=>(K i).cnt) hi;have e2:(K i).late<=sumTo gs.size λi=>(K i).late:=Xj (f:=λi=>(K i).late) hi;rcases Vf i with rfl|fq
  ·exact⟨0,h.k0⟩
  ·have hc:=h.th (i:=i) fq;have z1:(K i).cnt=0:=(by omega);have z2:(K i).late=0:=(by omega);clear e1 e2;cases lC:K i<;>rw[lC]at z1 z2 hc<;>first
    |exact⟨_,rfl⟩
    |(exfalso;simp[GS.cnt]at z1;done)
    |(exfalso;simp[GS.late]at z2;done)
    |(exfalso;have:=hc rfl;subst this;rw[lC]at m5;cases m5)
 have bV:jO p V:=⟨c1.1,c1.2.1,c1.2.2.1,c1.2.2.2⟩;have aE:VS t 0=0:=by rw[h.d0,ik]
 have oE:∀op∈(#[y]:Vj),op.act.touch?=none/\still op.act/\op.act.low w.heap.size/\(∀a,op.act≠ .mark (.release a))/\op.g=0:=by intro op aB;simp only[UN,Tm,T5,or_false]at aB;subst aB;rw[hy.2];exact⟨rfl,⟨by simp,by simp⟩,a4,by simp,hy.1⟩
 have bC:∀i,VS (t++#[y]) i=VS t i:=λi=>Deaf_still λop aB=>(oE op aB).2.1;have a_:(gs.setIfInBounds 0 g').size=gs.size:=by simp
 refine⟨λS hS=> ?_,?_⟩;obtain⟨j,hj⟩:=VQ.1 hS;apply Uv;intro aN;obtain⟨i,e1,e2,e3⟩:=a9 j S hj aN;obtain⟨q,e⟩:=ug i e2;rw[e]at e3;cases e3
 ·refine Inv.mk' (by rw[a_];exact h.pos) h.k0 (by rw[bC];exact h.d0) (λi x hi hx=> ?_) ?_ ?_ rfl;rw[Tx (by omega)]at hx;have hlt:i<gs.size:=(Tw.1 hx).1;obtain⟨q,e⟩:=ug i hlt;have hk:(K i).is P p.c p.Wg Im p.Ss (VS t i) x:=du i x hi hx;rw[e]at hk;rw[bC];exact⟨q,e,hk⟩
  ·rw[a_];have h1:=(iB.role (i:=0) (V':={V with role:=.plain}) h.pos (by rw[lh]) (by rw[lh])).congr (F9:=bK {V with role:=.plain} Im K) λi hi=>by by_cases fq:i=0;subst fq;rw[bD];simp[bK];rw[bk _ _ fq];simp[bK,fq]
   have acR:∀i l,i<gs.size->iA (bK {V with role:=.plain} Im K i) l->¬se p.c p.Wg l:=λi l hi hl=>by by_cases fq:i=0;subst fq;have b':jO p (bK {V with role:=.plain} Im K 0):=(by simp only[bK,if_true];exact bV);exact b'.BZ hl;obtain⟨q,e⟩:=ug i hi;have:bK {V with role:=.plain} Im K i=noView:=(by simp only[bK,fq,if_false,e];rfl);rw[this]at hl;exact ahM.BZ hl
   refine⟨h1.sat,h1.dV,?_,h1.tape,h1.os,h1.out,h1.old,h1.jJ,h1.n0⟩;have xB:=h1.ti.mute (u:=#[y]) (N':=gs.size) (rd':=λi l=>i<gs.size/\iA (bK {V with role:=.plain} Im K i) l/\¬te none l) (wr':=λi l=>i<gs.size/\j7 (bK {V with role:=.plain} Im K i) l/\¬te none l) (act':=nX (some p) gs.size ic K) (kY:=ic)
    (λop aB=>(oE op aB).1) (λop aB=>(oE op aB).2.2.1) (λop aB=>by rw[(oE op aB).2.2.2.2];exact h.pos) (Tv _) (λop aB=>(oE op aB).2.2.2.1)
    (λi hi l hl idx a ha io hw=>(h1.ti.kr i hi l ⟨hl.1,hl.2.1,acR i l hi hl.2.1⟩ idx a ha io hw).app _) (λi hi l hl idx a ha io=>(h1.ti.kw i hi l ⟨hl.1,hl.2.1,acR i l hi hl.2.1.rd⟩ idx a ha io).app _)
    (λidx a ha dD=>⟨λhp i hi=>((h1.ti.sp idx a ha dD).1 hp i hi).app _,λhp=>((h1.ti.sp idx a ha dD).2 hp).app _⟩)
   exact xB.weaken (Tv _) (λ_ _ _ x=> .inl x) (λ_ _ _ x=>x) (λidx a _ hx=>hx.elim)
  ·have hr:Rest p.Wg t K ic st:=nF;rw[c4]at hr;intro idx a ha hm;have fK:=Cs (λop aB=>(oE op aB).1) ha;obtain⟨op,aB,_⟩:=VR fK;rcases hr idx a fK hm with z|⟨z1,z2⟩|⟨s,hs,hx⟩;exact .inl (z.app _);exact .inr (.inl ⟨z1,λz=>z2 ((Xb (UI aB)).1 z)⟩);cases hs;exact .inl (aif m1 m2 hy aE hx)
def Inv.aps(h:Inv P n0 W0 V gs w t K Im ic (some p) st)(aM:p.recv=true)(x:Ti):Inv P n0 W0 V (gs.setIfInBounds 0 x) w t K Im ic (some p) st:=by
 obtain⟨du,iB,nF,iu⟩:=h.out;obtain⟨a1,a2,a3,a4,a5,a6,a7,a8,a9,b9⟩:=iu;have a_:(gs.setIfInBounds 0 x).size=gs.size:=by simp
 rw[if_pos aM]at b9;obtain⟨c1,c2,c3,s,c4,c5⟩:=b9;refine Inv.mk' (by rw[a_];exact h.pos) h.k0 h.d0 (λi z hi hz=> ?_) (by rw[a_];exact iB) nF ⟨a1,a2,a3,a4,a5,a6,a7,by rw[a_];exact a8,by rw[a_];exact a9,?_⟩;rw[Tx (by omega)]at hz;exact du i z hi hz
 ·rw[if_pos aM];refine⟨c1,c2,by rw[a_];exact c3,s,c4,?_⟩;rw[a_];have e0:t=t++#[]:=by simp
  rw[e0];exact c5.keep (λ_=>rfl) rfl rfl λmM g hg=>by rw[Tx (by omega)]at hg;exact mM g hg
end
def MJ (P:Tl)(Post:T9->Us->Prop)(n0:Nat)(W0:Us)(V:View)(g:Ti):Prop:=
 g.status=.running/\∀gs w sl t K Im ic ph st,Inv P n0 W0 V gs w t K Im ic ph st->wI V.role ph->kP gs g->Ok P Post (crowd gs w sl) t
open Go.Conc Go.ConcN
section
variable {P:Tl}{Post:T9->Us->Prop}{n0:Nat}{W0:Us}
def afA (P:Tl)(Post:T9->Us->Prop)(gs:SR)(w:Us)(sl:S9)(t:Vj):Prop:=
 (∃m' ops,runT P (crowd gs w sl) 0=(.next m',ops)/\Ok P Post m' (t++ops))\/∃o w' ops,runT P (crowd gs w sl) 0=(.ended o w',ops)/\∀w0 FC,YA P Post (crowd gs w0 FC) o w' (t++ops)
def kP.pos{gs:SR}{g:Ti}(h:kP gs g):∃(i:Nat)(x:Ti),gs[i]?=some x/\x.status=.running:=by obtain⟨g0,h0,h1,_⟩:=h;exact⟨0,g0,h0,h1⟩
def MJ.ja{V:View}{g:Ti}(hg:g.status=.running)(own:∀gs w sl t K Im ic ph st,Inv P n0 W0 V gs w t K Im ic ph st->wI V.role ph->kP gs g->afA P Post gs w sl t):MJ P Post n0 W0 V g:=by
 refine⟨hg,λgs w sl t K Im ic ph st h hr hm=> ?_⟩;generalize hN:gs.size=N;generalize hμ:((λj=>(K j).dh),flag gs ic)=μ;induction μ using(acK N).induction generalizing gs w sl t K st with
 |_ μ ih=>
  obtain⟨i,gi,d,pM,aR,bQ,aU⟩:=aw9 (P:=P) (w:=w) (sl:=sl) (h.awake (.inl hm)) hm.pos;have hd:=h.draw d;rcases Vf i with rfl|hi;rcases own _ _ pM _ _ _ _ _ _ hd hr hm with⟨m',ops,h1,h2⟩|⟨o,w',ops,h1,h2⟩;exact Ok.step (aU.trans h1) h2;exact Ok.end (aU.trans h1) (h2 w sl)
  ·rcases hd.other (sl:=pM) (.inl hm) hi aR bQ with⟨gs',w',ops,K',st',h1,h2,h3,h4,_,h5⟩|⟨p,_,_,jF⟩
   ·have qt:kP gs' g:=by
     cases ph with
     |none=>exact(h4 g 0 (by simp)).1 hm
     |some p=>exact(h4 g p.c (λq hq=>by cases hq;rfl)).1 hm
    exact Ok.step (aU.trans h1) (ih _ (by rw[<- hμ,<- hN];exact h5) gs' w' pM _ K' st' h3 qt (by rw[h2,hN]) rfl)
   ·obtain⟨g0,h0,hs,_⟩:=hm;obtain⟨g1,z,h1,_⟩:=jF;rw[h1]at h0;cases h0;cases hs
def MJ.recv{V:View}{g:Ti}{c Wg:Nat}{Ss:TB}{z:T9}(jG:V.role=.recv c Wg Ss)(ik:V.deaf=0)(hg:g.status=.running)
  (lN:∀w,Sat V w->stepG P true g w=.comm g #[rcase c z] true (.recv true) w #[])
  (J1:∀(i:Nat) sp S v Im Ow,Ss[i]?=some (sp::S)->sp v Im Ow->(∀b,V.own b≠none->Ow b=none)->(∀b o,V.own b≠none->Im b o≠none->V.ah b o≠none)->(∃w,Sat V w/\(∀b o x,Im b o=some x->w.cell? ⟨b,o,none⟩=some x)/\∀b x,Ow b=some x->w.heap[b]?=some x)->
   MJ P Post n0 W0 (oH V Im Ow (.recv c Wg (Ss.set i S))) (UY g (.tuple #[v,.bool true])))
  (J2:(∀S∈Ss,S=[])->MJ P Post n0 W0 {V with role:=.plain} (UY g (.tuple #[z,.bool false]))):MJ P Post n0 W0 V g:=by
 have met:∀{gs w sl t K Im ic st i},Inv P n0 W0 V gs w t K Im ic (some ⟨c,Wg,Ss,true⟩) st->F7 P n0 W0 V gs w sl t Im ic ⟨c,Wg,Ss,true⟩ st g i->∀{m},stepT P m=runT P (crowd gs w sl) i->Ok P Post m t:=by
  rintro gs w sl t K Im ic st i _ ⟨gs',w',ops,K',j,sp,S,v,lm,Ow,h1,h2,h3,h4,h5,h6,h6',h7,h8⟩ m hm
  exact Ok.step (hm.trans h1) ((J1 j sp S v lm Ow h4 h5 h6 h6' h7).2 gs' w' sl _ K' Im ic _ st h8 rfl h3)
 refine⟨hg,λgs w sl t K Im ic ph st h hr hm=> ?_⟩;have iu:ph=some ⟨c,Wg,Ss,true⟩:=by rw[jG]at hr;exact hr
 subst iu
 suffices key:∀N μ gs w sl t K st,Inv P n0 W0 V gs w t K Im ic (some ⟨c,Wg,Ss,true⟩) st->gs.size=N->((λj=>(K j).dh),flag gs ic)=μ->(kP gs g\/(oV gs g c/\Calm gs/\Ax w c))->Ok P Post (crowd gs w sl) t from key _ _ gs w sl t K st h rfl rfl (.inl hm)
 clear h hr hm;intro N μ;induction μ using(acK N).induction with
 |_ μ ih=>
  have A:∀gs w sl t K st,Inv P n0 W0 V gs w t K Im ic (some ⟨c,Wg,Ss,true⟩) st->gs.size=N->((λj=>(K j).dh),flag gs ic)=μ->oV gs g c->Calm gs->Ax w c->Ok P Post (crowd gs w sl) t:=by
   intro gs w sl t K st h hN hμ jF ub ho;have oy:kP gs g\/∃p,some (Phase.mk c Wg Ss true)=some p/\p.recv=true/\V.deaf=0/\oV gs g p.c:=.inr ⟨_,rfl,rfl,ik,jF⟩;have anL:∃(i:Nat)(x:Ti),gs[i]?=some x/\x.status=.running:=by obtain⟨i,x,_,h1,h2⟩:=h.atf rfl ho ub;exact⟨i,x,h1,h2⟩
   obtain⟨i,gi,d,pM,aR,bQ,aU⟩:=aw9 (P:=P) (w:=w) (sl:=sl) (h.awake oy) anL;have hd:=h.draw d;have hi:0<i:=by rcases Vf i with rfl|hi;obtain⟨g1,z1,h1,_⟩:=jF;rw[h1]at aR;cases aR;cases bQ;exact hi
   rcases hd.other (sl:=pM) oy hi aR bQ with⟨gs',w',ops,K',st',h1,h2,h3,h4,h5,h6⟩|⟨p,hp,vN,_⟩;refine Ok.step (aU.trans h1) (ih _ (by rw[<- hμ,<- hN];exact h6) gs' w' pM _ K' st' h3 (by rw[h2,hN]) rfl ?_);rcases(h4 g c (λq hq=>by cases hq;rfl)).2 jF ho with x|⟨x,y⟩;exact .inl x;exact .inr ⟨x,h5 g c jF ub,y⟩;cases hp;exact met hd vN aU
  intro gs w sl t K st h hN hμ qt;rcases qt with hm|⟨h1,h2,h3⟩
  ·obtain⟨i,gi,d,pM,aR,bQ,aU⟩:=aw9 (P:=P) (w:=w) (sl:=sl) (h.awake (.inl hm)) hm.pos;have hd:=h.draw d;rcases Vf i with rfl|hi
   ·
    obtain⟨g0,h0,jE,lG,jg,nC⟩:=hm;have fZ:Sat V (w.at d):=(by have:=hd.core.sat 0 h.pos;rwa[lh]at this);have lM:stepG P (0==0) g0 (w.at d)=.comm g #[rcase c z] true (.recv true) (w.at d) #[]:=(by rw[<- lN _ fZ];exact Yq lG jg nC _);have e0:(t++Uf 0 g0.frame.fn g0.frame.place #[])=t:=(by simp[Uf]);rcases hd.opens rfl with⟨n,iq⟩|⟨amZ,⟨n,aY⟩,_⟩
    ·by_cases abE:∃i j h' V₁ V₂ g1 v z1,0<i/\i<gs.size/\K i=.oN j h' V₁ V₂ g1 v z1;exact met hd (hd.ar1 (sl:=pM) rfl ik ⟨g0,h0,jE,lG,jg,nC⟩ (lN _ fZ) abE) aU
     ·have offers:∀m x,0<m->gs[m]?=some x->x.status=.blocked->x.offers=none:=by intro m x jk hx hb;rcases GS.runs (show (K m).is P c Wg Im Ss (VS t m) x from h.is m x jk hx)with e|⟨e,_⟩|⟨j,h',V1,V2,g1,v,z1,e⟩|⟨_,_,e⟩;rw[e]at hb;cases hb;rw[e]at hb;cases hb;exact absurd ⟨m,j,h',V1,V2,g1,v,z1,jk,(Tw.1 hx).1,e⟩ abE;exact e
      have hw:=ax' (P:=P) (sl:=pM) (i:=0) h0 lM (λcc jA=>by
       simp only[UN,Tm,T5,or_false]at jA;subst jA;refine ways_recv_none iq (ao_ λm x hx=> ?_);rcases XY gs 0 m x hx with⟨_,rfl⟩|⟨jk,jZ⟩;exact YM _ _
       ·by_cases hb:x.status=.blocked;unfold offersAt;simp[hb,offers m x (by omega) jZ hb]
        ·exact VK hb _ _)
      refine Ok.step (aU.trans hw) ?_;rw[e0];refine A _ (w.at d) pM t K st (hd.aps rfl _) (by simp[hN]) ?_ ⟨g,z,?_,rfl,rfl,rfl⟩ (λm x jk hx hb=> ?_) ⟨n,iq⟩;rw[<- hμ];have gI:0<ic:=(by obtain⟨_,_,x,_⟩:=h.mode rfl;exact x);unfold flag;rw[Tx (by omega)];rw[Ud h.pos];rw[Tx (by omega)]at hx;exact offers m x jk hx hb
    ·have hp:partners (gs.setIfInBounds 0 ph) c true=[]:=ao_ λm x hx=>by rcases XY gs 0 m x hx with⟨_,rfl⟩|⟨jk,jZ⟩;exact YM _ _;have hlt:m<gs.size:=(Tw.1 jZ).1;rcases GS.runs (show (K m).is P c Wg Im Ss (VS t m) x from h.is m x (by omega) jZ)with e|⟨e,_⟩|⟨j,h',V1,V2,g1,v,z1,e⟩|⟨_,eb,e⟩;exact VK (by rw[e];simp) _ _;exact VK (by rw[e];simp) _ _;have:=amZ m (by omega) hlt;rw[e]at this;cases this;unfold offersAt;simp[eb,e]
     have hw:=crowd_recv_closed (P:=P) (sl:=pM) (i:=0) h0 lM aY hp;refine Ok.step (aU.trans hw) ?_;rw[ZG,<- XF,e0];obtain⟨hS,hinv⟩:=hd.ata rfl ik (g0:=g0) (g':=UY g (recvd true z false)) aY (y:={g:=0,fn:=g.frame.fn,pos:=g.frame.place,act:=.recvClosed c}) ⟨rfl,rfl⟩;exact(J2 hS).2 _ (w.at d) pM _ K Im ic none none hinv rfl ⟨UY g (recvd true z false),by rw[Ud h.pos],rfl,rfl,rfl,rfl⟩
   ·rcases hd.other (sl:=pM) (.inl hm) hi aR bQ with⟨gs',w',ops,K',st',h1,h2,h3,h4,_,h5⟩|⟨p,_,_,jF⟩;exact Ok.step (aU.trans h1) (ih _ (by rw[<- hμ,<- hN];exact h5) gs' w' pM _ K' st' h3 (by rw[h2,hN]) rfl (.inl ((h4 g c (λq hq=>by cases hq;rfl)).1 hm)));obtain⟨g0,h0,hs,_⟩:=hm;obtain⟨g1,z1,h1,_⟩:=jF;rw[h1]at h0;cases h0;cases hs
  ·exact A gs w sl t K st h hN hμ h1 h2 h3
def apI:Closed true P true (MJ P Post n0 W0)where
 step V g hs h:=by
  refine MJ.ja hs λgs w sl t K Im ic ph st hI hr ⟨g0,h0,jE,lG,jg,nC⟩=> .inl ?_;have fZ:Sat V w:=by have:=hI.core.sat 0 hI.pos;rwa[lh]at this
  obtain⟨g',w',es,V',h1,h2,h3⟩:=h w fZ;have aU:stepG P (0==0) g0 w=.go g' w' es:=by rw[<- h1];exact Yq lG jg nC w
  refine⟨_,_,axR h0 aU,h3.2 _ w' sl _ K Im ic ph st (hI.acD h0 h2 hr) (by rw[h2.role];exact hr) ⟨g',?_,h3.1,rfl,rfl,rfl⟩⟩;rw[Ud (by simpa using hI.pos)]
 ghost V V' g hg h:=⟨h.1,λgs w sl t K Im ic ph st hI hr hm=>h.2 gs w sl t K Im ic ph st (hI.apr hg hr) (by rw[hg.role];exact hr) hm⟩
 send V g c Wg sp S v z B hr hd hs ho h1 h2 h3:=⟨hs,λgs w sl t K Im ic ph st hI cr hm=>by rw[hr]at cr;exact cr.elim⟩
 done V g c Wg hr hd h1:=⟨h1.1,λgs w sl t K Im ic ph st hI cr hm=>by rw[hr]at cr;exact cr.elim⟩
 slip V g g' c Wg hr hs h1 h2:=⟨hs,λgs w sl t K Im ic ph st hI cr hm=>by rw[hr]at cr;exact cr.elim⟩
 more _:={
  start:=λV g c Wg hr aN hc hW pi h=>⟨h.1,λgs w sl t K Im ic ph st hI cr hm=>by rw[hr]at cr;cases cr;exact h.2 gs w sl t _ Im 0 _ _ (hI.begin aN hc hW pi) rfl hm⟩
  GW:=λV g g' child c Wg Ss sp S hr hd hs hc hW hlen pi aU fA NG h=>by refine MJ.ja hs λgs w sl t K Im ic ph st hI cr ⟨g0,h0,jE,lG,jg,nC⟩=> .inl ?_;rw[hr]at cr;cases cr;have fZ:Sat V w:=(by have:=hI.core.sat 0 hI.pos;rwa[lh]at this);have mi:stepG P (0==0) g0 w=.spawn g' child w #[]:=(by rw[<- aU w fZ];exact Yq lG jg nC w);obtain⟨hh,hk⟩:=NG _ (auY P);have bQ:=axl (P:=P) (sl:=sl) h0 mi;have e0:Uf 0 g0.frame.fn g0.frame.place #[]=#[]:=rfl;rw[e0]at bQ;have hinv:=hI.GW (g':=g') (x:={g:=0,fn:=g0.frame.fn,pos:=g0.frame.place,act:=.go gs.size}) (y:={g:=gs.size,fn:=child.frame.fn,pos:=g0.frame.place,act:=.start}) rfl hd ⟨rfl,rfl⟩ ⟨rfl,rfl⟩ hlen pi hk;exact⟨_,_,bQ,h.2 _ w sl _ _ Im ic _ _ hinv rfl ⟨g',by rw[XC,if_neg (by simp;have:=hI.pos;omega),Ud hI.pos],h.1,rfl,rfl,rfl⟩⟩
  GV:=λV g g' child c Wg Ss hr hd hs aN hc hW Bn pi aU fA aY h=>by refine MJ.ja hs λgs w sl t K Im ic ph st hI cr ⟨g0,h0,jE,lG,jg,nC⟩=> .inl ?_;rw[hr]at cr;cases cr;have fZ:Sat V w:=(by have:=hI.core.sat 0 hI.pos;rwa[lh]at this);have mi:stepG P (0==0) g0 w=.spawn g' child w #[]:=(by rw[<- aU w fZ];exact Yq lG jg nC w);obtain⟨n,hk⟩:=aY;have bQ:=axl (P:=P) (sl:=sl) h0 mi;have e0:Uf 0 g0.frame.fn g0.frame.place #[]=#[]:=rfl;rw[e0]at bQ;have hinv:=hI.GV (g':=g') (x:={g:=0,fn:=g0.frame.fn,pos:=g0.frame.place,act:=.go gs.size}) (y:={g:=gs.size,fn:=child.frame.fn,pos:=g0.frame.place,act:=.start}) rfl hd ⟨rfl,rfl⟩ ⟨rfl,rfl⟩ hW pi hk;exact⟨_,_,bQ,h.2 _ w sl _ _ V.ah gs.size _ _ hinv rfl ⟨g',by rw[XC,if_neg (by simp;have:=hI.pos;omega),Ud hI.pos],h.1,rfl,rfl,rfl⟩⟩
  recv:=λV g c Wg Ss z hr hd hs ho aU j1 j2=>MJ.recv hr hd hs aU j1 j2}
structure Left (n0:Nat)(W0 w:Us):Prop where
 tape:w.tape=W0.tape
 os:w.os=W0.os
 out:w.output=W0.output
 old:∀b,b<n0->w.heap[b]?=W0.heap[b]?
 size:n0<=w.heap.size
def Inv.LB{V:View}{gs:SR}{w:Us}{t:Vj}{K:Nat->GS}{Im:cC}{ic:Nat}{st:TJ}(h:Inv P n0 W0 V gs w t K Im ic none st){v:T9}(hp:Post v w)(w0:Us)(FC:S9):YA P Post (crowd gs w0 FC) (.done v) w t:=by
 obtain⟨du,iB,nF,aU⟩:=h.out;have mi:st=none:=aU;refine⟨v,rfl,hp,iB.ti.nr,?_,⟨?_,rfl⟩,?_⟩;intro i g hg jE ⟨x,hx,hm,hk⟩;rcases nF i x hx hm with⟨q,z,h1,h2,h3⟩|⟨h1,h2⟩|⟨_,h1,_⟩;rcases h3 with rfl|h3;exfalso;simp only[Xu,h1,VT,Ul]at hg;omega;exact⟨q,by simp[Xu,h1,h2],h3⟩;rcases hk with hk|hk;exact absurd h1 hk;exact absurd hk h2;rw[mi]at h1;cases h1
 ·intro g hg;obtain⟨i,hi⟩:=VQ.1 hg;rw[Vo]at hi;have cN:gs[1+i]?=some g:=by simpa[crowd]using hi
  obtain⟨q,_,hq⟩:=du (1+i) g (by omega) cN;exact⟨q,hq.leaves⟩
 ·intro i g hi fq;obtain⟨q,_,hq⟩:=du i g (by omega) hi;exact⟨q,hq.hears _⟩
def MJ.end{V:View}{g:Ti}(hg:g.status=.running)(hr:V.role=.plain)
  (h:∀w,Sat V w->Left n0 W0 w->(∀b,b<n0->V.own b=none)->∃v w' es V',stepG P true g w=.ended (.done v) w' es/\dl V w V' w' es/\Post v w'):MJ P Post n0 W0 V g:=by
 refine MJ.ja hg λgs w sl t K Im ic ph st hI cr ⟨g0,h0,jE,lG,jg,nC⟩=> .inr ?_;have iB:=hI.out.2.1;have fZ:Sat V w:=by have:=hI.core.sat 0 hI.pos;rwa[lh]at this
 obtain⟨v,w',es,V',h1,h2,h3⟩:=h w fZ ⟨iB.tape,iB.os,iB.out,iB.old,iB.n0⟩ (λb hb=>by have:=iB.jJ 0 hI.pos b hb;rwa[lh]at this);have aU:stepG P (0==0) g0 w=.ended (.done v) w' es:=by rw[<- h1];exact Yq lG jg nC w
 refine⟨_,w',_,runT_crowd_ended h0 aU,λw0 FC=> ?_⟩;have iu:ph=none:=by rw[hr]at cr;exact cr
 subst iu;have hinv:=hI.acD (g':=g0) h0 h2 cr;have uf:=hinv.LB (Post:=Post) h3 w0 FC;obtain⟨v',e,hp,hn,hh,hl,hd⟩:=uf;refine⟨v',e,hp,hn,hh,⟨?_,rfl⟩,?_⟩
 ·intro g MA;obtain⟨i,hi⟩:=VQ.1 MA;rw[Vo]at hi;have cN:gs[1+i]?=some g:=by simpa[crowd]using hi
  obtain⟨q,_,hq⟩:=hI.out.1 (1+i) g (by omega) cN;exact⟨q,hq.leaves⟩
 ·intro i g hi fq;obtain⟨q,_,hq⟩:=hI.out.1 i g (by omega) hi;refine⟨q,?_⟩;have:(t++Uf 0 g0.frame.fn g0.frame.place es).deaf i (t++Uf 0 g0.frame.fn g0.frame.place es).size=VS t i:=
   ZW t (g:=i) (g':=0) (by omega) _ λop aB=>by obtain⟨e,_,rfl⟩:=UO aB;rfl
  rw[this];exact hq.hears _
def Inv.init(W:Us){V:View}(ho:V.own=λ_=>none)(hd:V.deaf=0)(hs:Sat V W)(g:Ti):Inv P W.heap.size W V #[g] W #[] (λ_=> .gone 0) V.ah 0 none none:=by
 have ew:∀i,i<(1:Nat)->bK V V.ah (λ_=> .gone 0) i=V:=λi hi=>by
  obtain rfl:i=0:=by omega
  simp[bK]
 refine Inv.mk' (by simp) rfl (by rw[hd];rfl) (λi x hi hx=> ?_) ⟨λi hi=>by rw[ew i hi];exact hs,λi j hi hj kF=> ?_,?_,rfl,rfl,rfl,λ_ _=>rfl,λi hi b _=>by rw[ew i hi,ho],Tv _⟩ ?_ rfl;exfalso;have:=(Tw.1 hx).1;simp at this;omega;simp at hi hj;omega;refine⟨λsaid hr=> ?_,by simp,by simp,by simp,λi _ l _ idx a ha=> ?_,λi _ l _ idx a ha=> ?_,λidx a ha=> ?_⟩;obtain⟨i,j,_,⟨a,b,ha,_⟩,_⟩:=hr;obtain⟨op,aB,_⟩:=VR ha;simp at aB;obtain⟨op,aB,_⟩:=VR ha;simp at aB;obtain⟨op,aB,_⟩:=VR ha;simp at aB;obtain⟨op,aB,_⟩:=VR ha;simp at aB;intro idx a ha _;obtain⟨op,aB,_⟩:=VR ha;simp at aB
def alG{f:UR}{args:SG}{W:Us}{V:View}{R:SU}(hi:P.inits.idxOf? f=none)(ho:V.own=λ_=>none)(hd:V.deaf=0)(cr:V.role=.plain)(hs:Sat V W)(h:Body true P f args .normal V R)
  (hR:∀o V',R o V'->V'.role=.plain/\∃v,o=.ret v/\∀w,Sat V' w->Left W.heap.size W w->Post v w):
  ∃M last o w' t',runNT P (M+1) (solo (G (Frame.enter P f args .normal) []) W) #[]=(.ended o w',t')/\runN P M (solo (G (Frame.enter P f args .normal) []) W)=.next last/\step P last=.ended o w'/\YA P Post last o w' t':=by
 have hJ:MJ P Post W.heap.size W V (G (Frame.enter P f args .normal) []):=by
  refine h true _ apI [] λo V' fr r hl=> ?_;obtain⟨hr,v,rfl,hp⟩:=hR _ _ r;obtain⟨rfl,bC,hk,fn,hf,hm,fu⟩:=hl;refine MJ.end rfl hr λw hw Bw hold=> ?_;obtain⟨es,w',aZ,h1,h2,h3⟩:=fu.runs hw;rcases h3 with⟨x,h3,rfl,rfl⟩|⟨_,_,hx⟩
  ·refine⟨x,w',seen P fr.fn es,aZ,by simp[G,stepG,unwind,doReturn,hm,bC,hk,hf,h3,h2,U3,hi],h1.seen P fr.fn,?_⟩;refine hp w' h1.sat ⟨h1.tape.trans Bw.tape,h1.os.trans Bw.os,h1.output.trans Bw.out,λb hb=> ?_,UJ Bw.size h1.size⟩;rw[h1.frame b (Ug hb Bw.size) (hold b hb)];exact Bw.old b hb
  ·exact hx.elim
 exact hJ.2 #[_] W none #[] _ _ _ none none (Inv.init W ho hd hs _) (by rw[cr];rfl) ⟨_,rfl,rfl,rfl,rfl,rfl⟩
end
open Go.Conc
def eU (P:Tl)(main:Bool)(g:Ti):Ti:=match stepG P main g default with
 |.go g' _ _=>g'
 |_=>g
def B0 (P:Tl)(main:Bool)(g:Ti):Array W8:=match stepG P main g default with
 |.go _ _ es=>es
 |_=>#[]
def cQ (P:Tl)(main:Bool):Nat->Ti->Ti
 |0,g=>g
 |n+1,g=>cQ P main n (eU P main g)
def gE (P:Tl)(main:Bool)(w:Us):Nat->Ti->List ayi
 |0,_=>[]
 |n+1,g=>stepG P main g w::gE P main w n (eU P main g)
def gw (P:Tl)(main:Bool)(w:Us):Nat->Ti->List ayi
 |0,_=>[]
 |n+1,g=> .go (eU P main g) w (B0 P main g)::gw P main w n (eU P main g)
def bU (g:Ti):Bool:=match g.status with
 |.running=>true
 |_=>false
def bU.out{g:Ti}(h:bU g=true):g.status=.running:=by unfold bU at h;split at h;assumption;cases h
def jp (P:Tl)(main:Bool):Nat->Ti->Bool
 |0,_=>true
 |n+1,g=>bU g&&(B0 P main g).all Xr&&jp P main n (eU P main g)
def pJ (P:Tl)(main:Bool):Nat->Ti->Bool
 |0,_=>true
 |n+1,g=>bU g&&(B0 P main g).isEmpty&&pJ P main n (eU P main g)
def kg (P:Tl)(main:Bool):Nat->Nat->Ti->Nat
 |0,d,_=>d
 |n+1,d,g=>kg P main n (deafBehind d (B0 P main g)) (eU P main g)
section
variable {P:Tl}
def Ox{n:Nat}{main:Bool}{g:Ti}(h:jp P main (n+1) g=true):g.status=.running/\(∀e∈B0 P main g,Xr e=true)/\jp P main n (eU P main g)=true:=by simp only[jp,Ui]at h;exact⟨bU.out h.1.1,λe he=>VG.1 h.1.2 e he,h.2⟩
def xV{Stop:S0}:∀(n d:Nat)(g:Ti),(∀w,gE P false w n g=gw P false w n g)->jp P false n g=true->(∃m,cZ P Stop m (kg P false n d g) (cQ P false n g))->∃m,cZ P Stop m d g
 |0,d,g,_,_,hs=>hs
 |n+1,d,g,h,hm,hs=>by obtain⟨h1,h2,h3⟩:=Ox hm;obtain⟨m,hm⟩:=xV n _ (eU P false g) (λw=>(WH (h w)).2) h3 hs;exact⟨m+1,.inr ⟨h1,_,_,h2,λw=>(WH (h w)).1,hm⟩⟩
def aef{Wg:Nat}{Stop:S0}:∀(n d:Nat)(g:Ti),(∀w,gE P false w n g=gw P false w n g)->jp P false n g=true->(∃m,iJ P Wg Stop m (kg P false n d g) (cQ P false n g))->∃m,iJ P Wg Stop m d g
 |0,d,g,_,_,hs=>hs
 |n+1,d,g,h,hm,hs=>by obtain⟨h1,h2,h3⟩:=Ox hm;obtain⟨m,hm⟩:=aef n _ (eU P false g) (λw=>(WH (h w)).2) h3 hs;exact⟨m+1,.inr ⟨h1,_,_,h2,λw _ _ _=>(WH (h w)).1,hm⟩⟩
def aeg{Wg:Nat}{Stop:S0}{d:Nat}{g g':Ti}(hr:g.status=.running)(h:∀w x y,WgAt P Wg w x y->stepG P false g w=.go g' w #[])(hs:∃m,iJ P Wg Stop m d g'):∃m,iJ P Wg Stop m d g:=by obtain⟨m,hm⟩:=hs;exact⟨m+1,.inr ⟨hr,g',#[],by simp,h,by simpa[deafBehind]using hm⟩⟩
def I2:∀(n d:Nat)(g:Ti),(∀w,gE P false w n g=gw P false w n g)->jp P false n g=true->(∃q,Y5 P q (kg P false n d g) (cQ P false n g))->∃q,Y5 P q d g
 |0,d,g,_,_,hs=>hs
 |n+1,d,g,h,hm,hs=>by obtain⟨h1,h2,h3⟩:=Ox hm;obtain⟨m,hm⟩:=I2 n _ (eU P false g) (λw=>(WH (h w)).2) h3 hs;exact⟨m+1,.inr ⟨h1,_,_,h2,λw=>(WH (h w)).1,hm⟩⟩
def Pd{d:Nat}{g:Ti}(h:g.status=.finished)(hd:d=0):∃q,Y5 P q d g:=⟨0,h,hd⟩
def arS{n:Nat}{main:Bool}{g:Ti}(h:pJ P main (n+1) g=true):g.status=.running/\B0 P main g=#[]/\pJ P main n (eU P main g)=true:=by simp only[pJ,Ui]at h;exact⟨bU.out h.1.1,by simpa using h.1.2,h.2⟩
def uz{lv main:Bool}{J:SM}(C:Closed lv P main J){V:View}:∀(n:Nat)(g:Ti),(∀w,gE P main w n g=gw P main w n g)->pJ P main n g=true->J V (cQ P main n g)->J V g
 |0,g,_,_,hs=>hs
 |n+1,g,h,hm,hs=>by obtain⟨h1,h2,h3⟩:=arS hm;refine C.idle h1 (λw=> ?_) (uz C n (eU P main g) (λw=>(WH (h w)).2) h3 hs);rw[(WH (h w)).1,h2]
def Closed.mute{lv main:Bool}{J:SM}(C:Closed lv P main J){V:View}{g g':Ti}{m:Mark}(hm:m=.disable\/m=.enable)(hr:g.status=.running)(h:∀w,stepG P main g w=.go g' w #[⟨.mark m,false,true⟩])(hJ:J {V with deaf:=deafBehind V.deaf #[⟨.mark m,false,true⟩]} g'):J V g:=by
 refine C.step _ _ hr λw hw=> ?_;have hs:=asT (P:=P) (V:=V) (k:=(.pure ():Sem Unit)) (K:=λ_ V'=>V'={V with deaf:=deafBehind V.deaf #[⟨.mark m,false,true⟩]}) (Kp:=λ_ _=>False) hm (cj rfl);obtain⟨es,w',V',k1,k2,k3⟩:=hs.runs hw;rcases k3 with⟨x,k3,rfl⟩|⟨_,_,hx⟩
 ·have e1:af' () w=af' x w':=k3;have e2:es=#[⟨.mark m,false,true⟩]:=k2.symm;cases e1;subst e2;refine⟨g',w,_,_,h w,?_,hJ⟩;rwa[uD (by rcases hm with rfl|rfl<;>simp)]at k1
 ·exact hx.elim
def ready (g:Ti):Option Vp:=match g with
 |{frame:={fn:=_,tmps,todo:=.inRegion ops (i::_)::_,defers:=_,mode:=.run,kind,roundOf:=none},callers:=_,status:=.running,dying:=none,offers:=none}=>
  match ops[i]?with
  |some o=>if Uo o (yielded ops tmps)&& !(kind== .early)then some o else none
  |none=>none
 |_=>none
def fin (g:Ti)(v:T9):Ti:={g with frame:=g.frame.finish v}
def ready.out{g:Ti}{o:Vp}(h:ready g=some o):∃(b:VM)(a:Act)(ops:SK)(i:Nat)(rest:SE)(k:SZ)(cs:SX),g=G (b.at a (.inRegion ops (i::rest)::k)) cs/\ops[i]?=some o/\Uo o (yielded ops a.tmps)=true/\b.kind≠ .early/\a.eval=g.frame.eval/\
  (∀v,G (b.at (a.put o.dst v) (.inRegion ops rest::k)) cs=fin g v)/\b.fn=g.frame.fn/\g.status=.running:=by
 unfold ready at h;split at h;rename_i fn tmps ops i rest k defers kind cs;split at h;rename_i o' ho;split at h;rename_i hw;cases h;simp only[Ui,UV,beq_eq_false_iff_ne,ne_eq]at hw;refine⟨{(default:VM)with fn,kind},⟨tmps,defers⟩,ops,i,rest,k,cs,rfl,ho,hw.1,hw.2,?_,λv=> ?_,rfl,rfl⟩;funext x;cases x<;>rfl;unfold fin;have:=Frame.finish_at {(default:VM)with fn,kind} ⟨tmps,defers⟩ ops i rest k v;rw[ho]at this;simp only[Frame.at,ac_]at this⊢;rw[this];rfl;cases h;cases h;cases h
def cH (g:Ti):Option (UR×Array T9):=match ready g with
 |some {op:=.call {callee:=.value (.func f),args, .. }, .. }=>some (f,args.map g.frame.eval)
 |_=>none
def cH.out{g:Ti}{f:UR}{vs:SG}(h:cH g=some (f,vs)):∃o aL mB,ready g=some o/\o.op=.call {callee:=.value (.func f),args:=aL,argTypes:=mB}/\aL.map g.frame.eval=vs:=by unfold cH at h;split at h;rename_i f' aL mB dst ty pos af gd ho;cases h;exact⟨_,_,_,ho,rfl,rfl⟩;cases h
structure Ext (P:Tl)(f:UR)(e:Array T9->Sem T9):Prop where
 fn : ∃ fn, P.funcs[f]? = some fn /\ (fn.name == "runtime.NumGoroutine") = false /\ fn.body.isNone = true /\ Extern.findNext fn = none /\ Extern.find fn = some e
variable {main:Bool}{g:Ti}{f:UR}{w:Us}
def aej{v d:Int}{k:UZ}{ad:Wy}(h:cH g=some (f,#[.pointer (some ad),.int k d]))(he:Ext P f (ah' (Op.intArith .add) k true))(hc:w.cell? ad=some (.int k v))(hz:w.frozen? ad=false):
  stepG P main g w=.go (fin g (.int k (k.wrap (v+d)))) (w.setCell ad (.int k (k.wrap (v+d)))) #[⟨.cell ad,false,true⟩,⟨.cell ad,true,true⟩]:=by
 obtain⟨o,aL,mB,h1,h2,h3⟩:=cH.out h;obtain⟨b,a,ops,i,rest,kk,cs,e,q1,q2,q3,q4,q5,q6,_⟩:=ready.out h1;obtain⟨fn,f1,f2,f3,f4,f5⟩:=he.fn;rw[<- q4]at h3;rw[<- q5];refine Xm (congrArg (λx=>stepG P main x w) e) ?_;exact au' q1 q2 q3 h2 f1 f2 f3 f4 f5 (by rw[h3];exact run_add_entry hc hz) (by rw[h3,events_add_entry hc hz];rfl) (sync_rw ad)
def Py{v:Int}{k:UZ}{ad:Wy}(h:cH g=some (f,#[.pointer (some ad)]))(he:Ext P f (ai' (.int k)))(hc:w.cell? ad=some (.int k v)):
  stepG P main g w=.go (fin g (.int k v)) w #[⟨.cell ad,false,true⟩]:=by
 obtain⟨o,aL,mB,h1,h2,h3⟩:=cH.out h;obtain⟨b,a,ops,i,rest,kk,cs,e,q1,q2,q3,q4,q5,q6,_⟩:=ready.out h1;obtain⟨fn,f1,f2,f3,f4,f5⟩:=he.fn;rw[<- q4]at h3;rw[<- q5];refine Xm (congrArg (λx=>stepG P main x w) e) ?_;obtain⟨x,rfl⟩:∃x,aL=#[x]:=by
  have:aL.size=1:=by have:=congrArg axo h3;simpa using this
  exact Array.size_eq_one_iff.1 this
 exact stepG_load_atomic q1 q2 q3 h2 f1 f2 f3 f4 k f5 (by simpa using h3) hc
def atx{v:Int}{u:T9}{k:UZ}{ad:Wy}(h:cH g=some (f,#[.pointer (some ad),.int k v]))(he:Ext P f ai_)(hc:w.cell? ad=some u)(hz:w.frozen? ad=false):
  stepG P main g w=.go (fin g (.tuple #[])) (w.setCell ad (.int k v)) #[⟨.cell ad,true,true⟩]:=by
 obtain⟨o,aL,mB,h1,h2,h3⟩:=cH.out h;obtain⟨b,a,ops,i,rest,kk,cs,e,q1,q2,q3,q4,q5,q6,_⟩:=ready.out h1;obtain⟨fn,f1,f2,f3,f4,f5⟩:=he.fn;rw[<- q4]at h3;rw[<- q5];refine Xm (congrArg (λx=>stepG P main x w) e) ?_;obtain⟨x,y,rfl⟩:∃x y,aL=#[x,y]:=by
  have:aL.toList.length=2:=by have:=congrArg axo h3;simpa using this
  obtain⟨l⟩:=aL
  match l,this with
  |[x,y],_=>exact⟨x,y,rfl⟩
 have w7:a.eval x=.pointer (some ad)/\a.eval y=.int k v:=by simpa using h3
 exact stepG_store_atomic q1 q2 q3 h2 f1 f2 f3 f4 f5 w7.1 w7.2 hc hz
def atp{v n:Int}{k:UZ}{ad:Wy}(h:cH g=some (f,#[.pointer (some ad),.int k v,.int k n]))(he:Ext P f (YH (.int k)))(hc:w.cell? ad=some (.int k v))(hz:w.frozen? ad=false):
  stepG P main g w=.go (fin g (.bool true)) (w.setCell ad (.int k n)) #[⟨.cell ad,false,true⟩,⟨.cell ad,true,true⟩]:=by
 obtain⟨o,aL,mB,h1,h2,h3⟩:=cH.out h;obtain⟨b,a,ops,i,rest,kk,cs,e,q1,q2,q3,q4,q5,q6,_⟩:=ready.out h1;obtain⟨fn,f1,f2,f3,f4,f5⟩:=he.fn;rw[<- q4]at h3;rw[<- q5];refine Xm (congrArg (λx=>stepG P main x w) e) ?_;exact au' q1 q2 q3 h2 f1 f2 f3 f4 f5 (by rw[h3,axc];exact run_cas_hit_entry hc hz) (by rw[h3,axc,events_cas_hit_entry hc hz];rfl) (sync_rw ad)
def atq{v old n:Int}{k:UZ}{ad:Wy}(h:cH g=some (f,#[.pointer (some ad),.int k old,.int k n]))(he:Ext P f (YH (.int k)))(hc:w.cell? ad=some (.int k v))(hz:w.frozen? ad=false)(aN:¬v=old):
  stepG P main g w=.go (fin g (.bool false)) w #[⟨.cell ad,false,true⟩]:=by
 obtain⟨o,aL,mB,h1,h2,h3⟩:=cH.out h;obtain⟨b,a,ops,i,rest,kk,cs,e,q1,q2,q3,q4,q5,q6,_⟩:=ready.out h1;obtain⟨fn,f1,f2,f3,f4,f5⟩:=he.fn;rw[<- q4]at h3;rw[<- q5];refine Xm (congrArg (λx=>stepG P main x w) e) ?_;exact au' q1 q2 q3 h2 f1 f2 f3 f4 f5 (by rw[h3,axc];exact run_cas_miss_entry hc hz aN) (by rw[h3,axc,events_cas_miss_entry hc hz aN];rfl) (sync_r ad)
def atv{n:Int}{x y:T9}{ad:Wy}(h:cH g=some (f,#[.pointer (some ad),x,y]))(he:Ext P f awW)(hc:w.cell? ad=some (.int .u32 n))(hz:w.frozen? ad=false):
  stepG P main g w=.go (fin g (.tuple #[])) (w.setCell ad (.int .u32 (axH.wrap (n+1)))) (semEvents ad):=by
 obtain⟨o,aL,mB,h1,h2,h3⟩:=cH.out h;obtain⟨b,a,ops,i,rest,kk,cs,e,q1,q2,q3,q4,q5,q6,_⟩:=ready.out h1;obtain⟨fn,f1,f2,f3,f4,f5⟩:=he.fn;rw[<- q4]at h3;rw[<- q5];refine Xm (congrArg (λx=>stepG P main x w) e) ?_;exact stepG_semrelease q1 q2 q3 h2 f1 f2 f3 f4 f5 (by rw[h3];rfl) hc hz
def atu{n:Int}{x:T9}{ad:Wy}(h:cH g=some (f,#[.pointer (some ad),x]))(he:Ext P f YG)(hc:w.cell? ad=some (.int .u32 n))(hn:n≠0)(hz:w.frozen? ad=false):
  stepG P main g w=.go (fin g (.tuple #[])) (w.setCell ad (.int .u32 (n-1))) (semEvents ad):=by
 obtain⟨o,aL,mB,h1,h2,h3⟩:=cH.out h;obtain⟨b,a,ops,i,rest,kk,cs,e,q1,q2,q3,q4,q5,q6,_⟩:=ready.out h1;obtain⟨fn,f1,f2,f3,f4,f5⟩:=he.fn;rw[<- q4]at h3;rw[<- q5];refine Xm (congrArg (λx=>stepG P main x w) e) ?_;exact stepG_semacquire q1 q2 q3 h2 f1 f2 f3 f4 f5 (by rw[h3];rfl) hc hn hz
def atw{x:T9}{ad:Wy}(h:cH g=some (f,#[.pointer (some ad),x]))(he:Ext P f YG)(hc:w.cell? ad=some (.int .u32 0)):
  stepG P main g w=.go {g with status:=.blocked} w #[]:=by
 obtain⟨o,aL,mB,h1,h2,h3⟩:=cH.out h;obtain⟨b,a,ops,i,rest,kk,cs,e,q1,q2,q3,q4,q5,q6,_⟩:=ready.out h1;obtain⟨fn,f1,f2,f3,f4,f5⟩:=he.fn;rw[<- q4]at h3;rw[e];exact stepG_semacquire_wait q1 q2 h2 f1 f2 f3 f4 f5 (by rw[h3];rfl) hc
def Jf{ad:Wy}(mk:Wy->Mark)(hm:∀ad g,mk ad≠ .extern g)(h:cH g=some (f,#[.pointer (some ad)]))(he:Ext P f (Xk mk)):
  stepG P main g w=.go (fin g (.tuple #[])) w #[⟨.mark (mk ad),false,true⟩]:=by
 obtain⟨o,aL,mB,h1,h2,h3⟩:=cH.out h;obtain⟨b,a,ops,i,rest,kk,cs,e,q1,q2,q3,q4,q5,q6,_⟩:=ready.out h1;obtain⟨fn,f1,f2,f3,f4,f5⟩:=he.fn;rw[<- q4]at h3;rw[<- q5];refine Xm (congrArg (λx=>stepG P main x w) e) ?_;exact stepG_markAt mk hm q1 q2 q3 h2 f1 f2 f3 f4 f5 (by rw[h3];rfl)
def p9 (g:Ti):Option (TypeId×TypeId×T9):=match ready g with
 |some {op:=.convert s d x, .. }=>some (s,d,g.frame.eval x)
 |_=>none
def Jg{src dst t:TypeId}{ad:Wy}{v:T9}(h:p9 g=some (src,dst,.pointer (some ad)))(hs:P.underlying src=some (.pointer t))(hd:P.underlying dst=some .unsafePointer)(a_:(P.info? t).map (λi=>decide (i.size=0))=some false)(hc:w.cell? ad=some v):
  stepG P main g w=.go (fin g (.pointer (some ad))) w #[]:=by
 obtain⟨o,x,h1,h2,h3⟩:∃o x,ready g=some o/\o.op=.convert src dst x/\g.frame.eval x=.pointer (some ad):=by unfold p9 at h;split at h;rename_i s d x _ _ _ _ ho;simp only[Ul,VW]at h;obtain⟨rfl,rfl,h⟩:=h;exact⟨_,x,ho,rfl,h⟩;cases h
 obtain⟨b,a,ops,i,rest,kk,cs,e,q1,q2,q3,q4,q5,q6,_⟩:=ready.out h1;rw[<- q4]at h3;rw[<- q5];refine Xm (congrArg (λx=>stepG P main x w) e) ?_;have hr:(execOp a.eval o).run P w=.ok (.value (.pointer (some ad))) w:=by unfold execOp;simp only[h2,h3];simp[run_convert_to_unsafe hs hd a_ hc]
 have cw:(execOp a.eval o).events P w #[]=#[]:=by unfold execOp;simp only[h2,h3];simp[events_convert_to_unsafe hs hd a_ hc]
 rw[stepG_value q1 q2 q3 hr];unfold listed;rw[cw,Zw]
end
end Go.Gg
