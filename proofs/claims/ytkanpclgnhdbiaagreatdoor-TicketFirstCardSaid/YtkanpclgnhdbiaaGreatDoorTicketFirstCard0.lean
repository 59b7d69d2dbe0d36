/- A part of the proof. -/
import Derived.Conc.Own5
import Derived.Conc.Own4
import Derived.Conc.Own3
import Derived.Conc.Own2
import Derived.Conc.QuitsD
import Derived.Conc.Deaf
import Derived.Conc.CompanyDraw
import Derived.Conc.Comm2
import Derived.Conc.Beside
import Derived.Conc.Events
import Derived.Orders
set_option linter.all false
set_option maxRecDepth 4000
set_option maxHeartbeats 4000000
open Array renaming all_eq_true_iff_forall_mem->UQ,append_assoc->Xv,empty_append->Xu,ext'->VH,getD_eq_getD_getElem?->SH,getElem?_append_left->Yd,getElem?_append_right->X9,getElem?_eq_getElem->SJ,getElem?_eq_some_iff->SR,getElem?_map->WI,getElem?_modify->Wn,getElem?_push->Xl,getElem?_push_lt->Yz,getElem?_setIfInBounds_ne->SW,getElem?_setIfInBounds_self_of_lt->Tb,getElem_mem->XX,isEmpty_iff->Zl,mem_append->Uw,range->WN,replicate->TP,size_append->XF,toList_map->VN
open BitVec renaming ofInt->Ul
open Bool renaming and_eq_true->Tg,false_eq_true->TR,false_or->ZD,not_eq_true'->T4,not_false->YE,not_true->ao'
open Classical renaming byContradiction->Tv
open Function renaming comp_def->Yy
open Go renaming Addr->Va,BinOp->Wc,Call->Xt,CallKind->Xj,Code->Ub,Event->Uu,Field->Y0,Frame->Uf,Func->YD,FuncId->TS,Goroutine->SG,IntKind->T8,Item->WX,LoopState->ad_,MapEntry->Wp,Oper->Tx,Operand->Tj,PanicEntry->Z2,Program->SI,ResultVar->UT,TypeInfo->Wo,Value->SQ,World->Tq
open Go.Act renaming put->X7
open Go.Addr renaming add->avt
open Go.Builtin renaming append_->VD,copy_->avE,delete_->avD,firstCells->Vz,growBy->Zu,lenOf->avC,len_->Yn,nextslicecap->W7,zeroCells->Xo
open Go.CallKind renaming early->Vb
open Go.Conc renaming QuitsD->Y_,seen_none->ae_,served->Ua
open Go.Deferred renaming ofValue->U_
open Go.Event renaming mute->WK
open Go.Frame renaming catches->Z4,oper?->YL,round->Xe
open Go.GStep renaming after->T_
open Go.Instr renaming checkKey->Vk,fill->ad',findKey->VR,index->Z',indexAt->ZV,loadAt->XE,mapUpdate->ZB,sameBits->WF,slice->Z_,sliceAt->Yl,sliceBound->Zs,sliceBounds->Zh,storeAt->Yk,sureAddr->Vj,typeAssert->Zr
open Go.IntKind renaming bits->avp,i64->SD,signed->avo,wrap->Xh
open Go.Item renaming plain->ai_
open Go.MemAct renaming low_mono->Zq,ofEvent->Tt
open Go.Next renaming value->W9
open Go.Obj renaming isChan->am_
open Go.Op renaming equal->Xs,equalIn->VC,intArith->avz,intDiv->au_,shift->avn
open Go.Question renaming cut->ZA,forced->avj
open Go.Region renaming binds->Yr,schedule->VP,wanted->Ti
open Go.Region.linearise renaming go->UM
open Go.Sem renaming events_pure->ZS,runT->VK,runT_eq->TE,run_pure->ac'
open Go.Value renaming bool->Xg,slice->TL,tuple->YJ
open Go.World renaming cell?->UC,frozen?->Z1,setCell->Xm
open Go.stepG renaming exec->Uk,oper->Y8
open Int renaming toNat_natCast->VI
open List renaming append_assoc->SC,append_nil->SO,contains_eq_mem->Ut,countP_cons_of_neg->WV,countP_cons_of_pos->VY,drop_drop->ap_,drop_eq_getElem_cons->TY,drop_zero->XD,ext_getElem?->Yp,flatMap_cons->T1,foldl_cons->UY,getD_cons_zero->Xq,getD_eq_getElem?_getD->SE,getElem?_append_left->SY,getElem?_append_right->S_,getElem?_cons_succ->UR,getElem?_cons_zero->Vx,getElem?_drop->Us,getElem?_eq_getElem->SX,getElem?_eq_some_iff->SN,getElem?_map->To,getElem?_range->XC,getElem?_set_ne->Uc,getElem?_set_self->Xd,getElem?_take->Uj,getElem?_toArray->Vm,getElem_mem->Ww,length_append->SL,length_cons->Ui,length_drop->Ur,length_nil->UA,length_take->TC,mapM_cons->Ue,mapM_nil->UH,mapM_toArray->X4,map_congr_left->VF,map_cons->U5,map_drop->ak',mem_cons->SK,mem_cons_of_mem->Td,mem_cons_self->TF,mem_filter->Uy,mem_filterMap->V_,mem_iff_getElem?->UW,mem_of_getElem?->S8,mem_of_mem_take->VQ,mem_range->TW,mem_toArray->TO,not_mem_nil->SZ,range->S0,range'->Ug,range'_succ->VU,range_eq_range'->Vw,reverse_nil->XZ,set_append_right->Ud,set_set->Xc,singleton_append->Y5,take_length->Tp,take_take->U9,take_zero->Za
open Nat renaming add_assoc->U7,add_comm->apT,add_mul->Vo,add_zero->UJ,le_of_eq->WL,le_refl->SP,le_succ->Y4,le_trans->TV,lt_of_lt_of_le->Te,lt_trans->Wr,min_le_left->ZP,mod_lt->avi,mul_le_mul->ZX,mul_le_mul_right->TK,mul_one->XH,ne_of_lt->Wd,strongRecOn->Yo,sub_zero->Z8,zero_add->Wv,zero_le->XY,zero_mul->apH
open Option renaming bind_eq_bind->TU,bind_eq_some_iff->Tf,getD_none->Vu,getD_some->S7,map_eq_some_iff->Ts,map_some->UU,pure_def->Um
open Option.some renaming inj->Wb,injEq->Tl
open Prod.mk renaming injEq->U8
namespace Go.Gg
open Go.Conc
abbrev cE:=Nat->Nat->Option SQ
abbrev B8:=Nat->Option Obj
abbrev Spec:=SQ->cE->B8->Prop
inductive nB where
 |plain
 |fork (c Wg:Nat) (Ss:List (List Spec))
 |recv (c Wg:Nat) (Ss:List (List Spec))
 |work (c Wg:Nat) (S:List Spec)
def nB.group:nB->Option Nat
 |.fork _ Wg _=>some Wg
 |_=>none
def nB.chan:nB->Option Nat
 |.fork c _ _=>some c
 |_=>none
structure View where
 ab:cE
 own:B8
 deaf:Nat
 role:nB
structure Sat (V:View)(w:Tq):Prop where
 ab:∀b o v,V.ab b o=some v->w.cell? ⟨b,o,none⟩=some v
 own:∀b x,V.own b=some x->w.heap[b]?=some x
def uI (V:View)(n:Nat)(a:Va):Prop:=n<=a.block\/V.own a.block≠none\/V.ab a.block a.off≠none
def mZ (V:View)(n:Nat)(a:Va):Prop:=n<=a.block\/(V.own a.block≠none/\V.ab a.block a.off=none)
def nw (V:View)(n:Nat)(e:Uu):Prop:=
 match e with
 |⟨.cell a,false,s⟩=>uI V n a/\(s=true\/V.role.group≠some a.block)
 |⟨.cell a,true,s⟩=>mZ V n a/\(s=true\/V.role.group≠some a.block)
 |⟨.obj r,_,s⟩=>(s=false/\(n<=r\/V.own r≠none))/\V.role.chan≠some r
 |⟨.mark (.read a),_,_⟩=>mZ V n a
 |⟨.mark (.write a),_,_⟩=>mZ V n a
 |⟨.mark .disable,_,s⟩=>s=true
 |⟨.mark .enable,_,s⟩=>s=true
 |⟨.mark .noRoom,_,_⟩=>True
 |_=>False
structure dh (V:View)(w:Tq)(V':View)(w':Tq)(es:Array Uu):Prop where
 sat:Sat V' w'
 tape:w'.tape=w.tape
 os:w'.os=w.os
 output:w'.output=w.output
 size:w.heap.size<=w'.heap.size
 frame:∀b,b<w.heap.size->V.own b=none->w'.heap[b]?=w.heap[b]?
 own:∀b,b<w.heap.size->V.own b=none->V'.own b=none
 ab:∀b o v,V.ab b o=some v->V'.ab b o=some v
 kY:∀b o v,V'.ab b o=some v->V.ab b o=some v\/V.own b≠none\/w.heap.size<=b
 ft:∀e∈es,nw V w.heap.size e
 deaf:V'.deaf=deafBehind V.deaf es
 role:V'.role=V.role
 chan:∀c x,V.role.chan=some c->V.own c=some x->V'.own c=some x
 low:∀e∈es,(Tt e).low w'.heap.size
structure d_ (V V':View):Prop where
 sat:∀w,Sat V w->Sat V' w
 own:∀b,V.own b=none->V'.own b=none
 ab:∀b o v,V.ab b o=some v->V'.ab b o=some v
 kY:∀b o v,V'.ab b o=some v->V.ab b o=some v\/V.own b≠none
 deaf:V'.deaf=V.deaf
 role:V'.role=V.role
 chan:∀c x,V.role.chan=some c->V.own c=some x->V'.own c=some x
theorem d_.refl(V:View):d_ V V:=⟨λ_ h=>h,λ_ h=>h,λ_ _ _ h=>h,λ_ _ _ h=> .inl h,rfl,rfl,λ_ _ _ e=>e⟩
theorem d_.trans{V V' aU:View}(h:d_ V V')(k:d_ V' aU):d_ V aU:=
 ⟨λw x=>k.sat w (h.sat w x),λb x=>k.own b (h.own b x),λb o v x=>k.ab b o v (h.ab b o v x),λb o v x=>(k.kY b o v x).elim (λy=>h.kY b o v y) (λy=> .inr λz=>y (h.own b z)),k.deaf.trans h.deaf,k.role.trans h.role,λc x e e'=>k.chan c x (by rw[h.role];exact e) (h.chan c x e e')⟩
theorem uI.sB{V V':View}(g:d_ V V'){n:Nat}{a:Va}(h:uI V' n a):uI V n a:=by
 rcases h with h|h|h
 ·exact .inl h
 ·exact .inr (.inl λe=>h (g.own _ e))
 ·cases e:V'.ab a.block a.off with
  |none=>exact absurd e h
  |some v=>exact(g.kY _ _ _ e).elim (λx=> .inr (.inr (by rw[x];simp))) (λx=> .inr (.inl x))
theorem mZ.sB{V V':View}(g:d_ V V'){n:Nat}{a:Va}(h:mZ V' n a):mZ V n a:=by
 rcases h with h|⟨h,h'⟩
 ·exact .inl h
 ·refine .inr ⟨λe=>h (g.own _ e),?_⟩;cases e:V.ab a.block a.off with
  |none=>rfl
  |some v=>rw[g.ab _ _ _ e]at h';cases h'
theorem nw.sB{V V':View}(g:d_ V V'){n:Nat}{e:Uu}(h:nw V' n e):nw V n e:=by
 unfold nw at h⊢;split at h
 ·exact⟨uI.sB g h.1,by rw[<- g.role];exact h.2⟩
 ·exact⟨mZ.sB g h.1,by rw[<- g.role];exact h.2⟩
 ·exact⟨⟨h.1.1,h.1.2.imp id λx y=>x (g.own _ y)⟩,by rw[<- g.role];exact h.2⟩
 ·exact mZ.sB g h
 ·exact mZ.sB g h
 ·exact h
 ·exact h
 ·trivial
 ·exact h.elim
theorem dh.sB{V V₁ V':View}{w w':Tq}{es:Array Uu}(g:d_ V V₁)(h:dh V₁ w V' w' es):dh V w V' w' es:=
 ⟨h.sat,h.tape,h.os,h.output,h.size,λb hb e=>h.frame b hb (g.own b e),λb hb e=>h.own b hb (g.own b e),λb o v e=>h.ab b o v (g.ab b o v e),
  λb o v e=>(h.kY b o v e).elim (λx=>(g.kY b o v x).imp id .inl) (λx=> .inr (x.imp (λy z=>y (g.own b z)) id)),λe he=>nw.sB g (h.ft e he),by rw[h.deaf,g.deaf],h.role.trans g.role,λc x e e'=>h.chan c x (by rw[g.role];exact e) (g.chan c x e e'),h.low⟩
theorem dh.ghost{V V' aU:View}{w w':Tq}{es:Array Uu}(h:dh V w V' w' es)(g:d_ V' aU):dh V w aU w' es:=
 ⟨g.sat _ h.sat,h.tape,h.os,h.output,h.size,h.frame,λb hb e=>g.own b (h.own b hb e),λb o v e=>g.ab b o v (h.ab b o v e),
  λb o v e=>(g.kY b o v e).elim (λx=>h.kY b o v x) (λx=>by
   by_cases hb:b<w.heap.size
   ·exact .inr (.inl λy=>x (h.own b hb y))
   ·exact .inr (.inr (by omega))),h.ft,by rw[g.deaf,h.deaf],g.role.trans h.role,λc x e e'=>g.chan c x (by rw[h.role];exact e) (h.chan c x e e'),h.low⟩
theorem dh.idle{V:View}{w:Tq}(h:Sat V w):dh V w V w #[]:=
 ⟨h,rfl,rfl,rfl,SP _,λ_ _ _=>rfl,λ_ _ e=>e,λ_ _ _ e=>e,λ_ _ _ e=> .inl e,by simp,rfl,rfl,λ_ _ _ e=>e,by simp⟩
theorem Sat.drew{V:View}{w:Tq}(h:Sat V w)(d:Nat):Sat V {w with drawn:=d}:=⟨h.ab,h.own⟩
theorem dh.draw{V:View}{w:Tq}(h:Sat V w)(d:Nat):dh V w V {w with drawn:=d} #[]:=
 ⟨h.drew d,rfl,rfl,rfl,SP _,λ_ _ _=>rfl,λ_ _ e=>e,λ_ _ _ e=>e,λ_ _ _ e=> .inl e,by simp,rfl,rfl,λ_ _ _ e=>e,by simp⟩
def ej (Wg:Nat):Va:=⟨Wg,0,none⟩
def pj (Wg:Nat):Va:=⟨Wg,1,none⟩
def O0 (P : SI) : TypeId := ((P.types.findIdx? λi => match i.desc with | .named n _ => n == "sync.WaitGroup" | _ => false).getD 0)
def wgBlock (P:SI)(st sm:Int):Obj:=.cells #[.int .u64 st,.int .u32 sm] (O0 P)
def WgAt (P:SI)(Wg:Nat)(w:Tq)(st sm:Int):Prop:=w.heap[Wg]?=some (wgBlock P st sm)
def KK:Int:=4294967296
def ji (a:Va):Uu:=⟨.cell a,false,true⟩
def ly (a:Va):Uu:=⟨.cell a,true,true⟩
def kA (m:Mark):Uu:=⟨.mark m,false,true⟩
def Bw (a:Va):Array Uu:=#[kA .disable,ji a,ly a,kA .enable]
def cV (P:SI)(Stop:Nat->SG->Prop):Nat->Nat->SG->Prop
 |0,d,g=>Stop d g
 |n+1,d,g=>Stop d g\/(g.status=.running/\∃g' es,(∀e∈es,WK e=true)/\(∀w,stepG P false g w=.go g' w es)/\cV P Stop n (deafBehind d es) g')
def iu (P:SI)(Wg:Nat)(Stop:Nat->SG->Prop):Nat->Nat->SG->Prop
 |0,d,g=>Stop d g
 |n+1,d,g=>Stop d g\/(g.status=.running/\∃g' es,(∀e∈es,WK e=true)/\(∀w x y,WgAt P Wg w x y->stepG P false g w=.go g' w es)/\iu P Wg Stop n (deafBehind d es) g')
section
variable (P:SI)(Wg:Nat)
def Ff (d:Nat)(g:SG):Prop:=d=1/\g.status=.running/\mayWake P g=true/\∃g',(∀w,WgAt P Wg w 0 0->stepG P false g w=.go g' (w.setCell (pj Wg) (.int .u32 1)) (Bw (pj Wg)))/\∃q,Y_ P q 1 g'
def Fg (d:Nat)(g:SG):Prop:=d=1/\g.status=.running/\∃g',(∀w,WgAt P Wg w 1 0->stepG P false g w=.go g' (w.setCell (ej Wg) (.int .u64 0)) #[ly (ej Wg)])/\∃n,cV P (Ff P Wg) n 1 g'
def Fe (d:Nat)(g:SG):Prop:=d=1/\g.status=.running/\∃g',(∀w,WgAt P Wg w 1 0->stepG P false g w=.go g' w #[ji (ej Wg)])/\∃n,cV P (Fg P Wg) n 1 g'
def BV (d:Nat)(g:SG):Prop:=d=1/\g.status=.running/\∀v wt:Nat,wt<=1->v<4->∃g',(∀w,WgAt P Wg w (((v+1:Nat):Int)* KK+wt) 0->stepG P false g w=.go g' (w.setCell (ej Wg) (.int .u64 ((v:Int)* KK+wt))) #[ji (ej Wg),ly (ej Wg)])/\
 ((v=0/\wt=1)->∃n,cV P (Fe P Wg) n 1 g')/\(¬(v=0/\wt=1)->∃q,Y_ P q 1 g')
def Fo (g:SG):Prop:=g.status=.running/\∃g',(∀w,stepG P false g w=.go g' w #[kA (.releaseMerge (ej Wg))])/\∃n,cV P (BV P Wg) n 0 g'
end
section
variable (P:SI)(Im:cE)(c Wg:Nat)
def IX (d:Nat)(g:SG):Prop:=d=0/\g.status=.running/\mayWake P g=true/\∃g',(∀w s,w.heap[c]?=some (.chan 0 #[] false s s false)->stepG P false g w=.go g' {w with heap:=w.heap.setIfInBounds c (.chan 0 #[] true s s false)} #[⟨.obj c,false,true⟩,⟨.obj c,true,true⟩])/\∃q,Y_ P q 0 g'
def IZ (d:Nat)(g:SG):Prop:=d=0/\g.status=.running/\∃b o x g',Im b o=some x/\(∀w,w.cell? ⟨b,o,none⟩=some x->stepG P false g w=.go g' w #[⟨.cell ⟨b,o,none⟩,false,false⟩])/\∃n,cV P (IX P c) n 0 g'
def uE (d:Nat)(g:SG):Prop:=d=0/\g.status=.running/\∃g',(∀w,stepG P false g w=.go g' w #[kA (.acquire (ej Wg))])/\∃n,cV P (IZ P Im c) n 0 g'
def IY (d:Nat)(g:SG):Prop:=d=1/\g.status=.running/\∃g',(∀w,WgAt P Wg w 0 0->stepG P false g w=.go g' w #[ji (ej Wg)])/\∃n,iu P Wg (uE P Im c Wg) n 1 g'
def Fc (d:Nat)(g:SG):Prop:=d=1/\g.status=.running/\g.offers=none/\(∀w st,WgAt P Wg w st 0->stepG P false g w=.go {g with status:=.blocked} w #[])/\
 ∃g',(∀w,WgAt P Wg w 0 1->stepG P false g w=.go g' (w.setCell (pj Wg) (.int .u32 0)) (Bw (pj Wg)))/\∃n,cV P (IY P Im c Wg) n 1 g'
def Fb (d:Nat)(g:SG):Prop:=d=1/\g.status=.running/\∃g',(∀w,stepG P false g w=.go g' w #[kA (.write (pj Wg))])/\∃n,cV P (Fc P Im c Wg) n 1 g'
def eM:Nat->Nat->SG->Prop
 |0,_,_=>False
 |k+1,d,g=>d=1/\g.status=.running/\∀v:Nat,v<=k->v<=4->∃g',(∀w,WgAt P Wg w ((v:Int)* KK) 0->stepG P false g w=.go g' w #[ji (ej Wg)])/\(v=0->∃n,iu P Wg (uE P Im c Wg) n 1 g')/\
  (v≠0->∃n,cV P (λd g=>d=1/\g.status=.running/\
   (∃g',(∀w,WgAt P Wg w ((v:Int)* KK) 0->stepG P false g w=.go g' (w.setCell (ej Wg) (.int .u64 ((v:Int)* KK+1))) #[ji (ej Wg),ly (ej Wg)])/\∃n,iu P Wg (Fb P Im c Wg) n 1 g')/\
   (∀u:Nat,u<v->∃g',(∀w,WgAt P Wg w ((u:Int)* KK) 0->stepG P false g w=.go g' w #[ji (ej Wg)])/\∃n,cV P (eM v) n 1 g')) n 1 g')
 termination_by k _ _=>k
def I0 (g:SG):Prop:=∃n,cV P (eM P Im c Wg 5) n 0 g
end
structure zL (P:SI)(main:Bool)(J:View->SG->Prop):Prop where
 step:∀V g,g.status=.running->(∀w,Sat V w->∃g' w' es V',stepG P main g w=.go g' w' es/\dh V w V' w' es/\J V' g')->J V g
 ghost:∀V V' g,d_ V V'->J V' g->J V g
 send:∀V g c Wg sp S v z (B:Nat->Bool),V.role=.work c Wg (sp::S)->V.deaf=0->g.status=.running->g.offers=none->
  (∀w,Sat V w->stepG P main g w=.comm g #[scase c v z] true .send w #[])->sp v V.ab (λb=>if B b then V.own b else none)->
  J {V with own:=λb=>if B b then none else V.own b,role:=.work c Wg S} (Ua g undef)->J V g
 done:∀V g c Wg,V.role=.work c Wg []->V.deaf=0->Fo P Wg g->J V g
 slip:∀V g g' c Wg,V.role=.work c Wg []->g.status=.running->(∀w st,Sat V w->WgAt P Wg w st 0->stepG P main g w=.go g' w #[])->J V g'->J V g
structure aeJ (P:SI)(main:Bool)(J:View->SG->Prop):Prop where
 start:∀V g c Wg,V.role=.plain->c≠Wg->V.own c=some (.chan 0 #[] false 0 0 false)->V.own Wg≠none->(∀o,V.ab Wg o=none)->J {V with role:=.fork c Wg []} g->J V g
 F':∀V g g' child c Wg Ss sp S,V.role=.fork c Wg Ss->V.deaf=0->g.status=.running->V.own c=some (.chan 0 #[] false 0 0 false)->V.own Wg=some (wgBlock P (((Ss.length+1:Nat):Int)* 4294967296) 0)->Ss.length<4->(∀o,V.ab Wg o=none)->
  (∀w,Sat V w->stepG P main g w=.spawn g' child w #[])->child.status=.running->
  (∀J0,zL P false J0->J0 {ab:=V.ab,own:=λ_=>none,deaf:=0,role:=.work c Wg (sp::S)} child)->
  J {V with role:=.fork c Wg (Ss++[sp::S])} g'->J V g
 F_:∀V g g' child c Wg Ss,V.role=.fork c Wg Ss->V.deaf=0->g.status=.running->c≠Wg->V.own c=some (.chan 0 #[] false 0 0 false)->V.own Wg=some (wgBlock P (((Ss.length:Nat):Int)* 4294967296) 0)->(∀o,V.ab c o=none)->(∀o,V.ab Wg o=none)->
  (∀w,Sat V w->stepG P main g w=.spawn g' child w #[])->child.status=.running->I0 P V.ab c Wg child->
  J {V with own:=λb=>if b=c\/b=Wg then none else V.own b,role:=.recv c Wg Ss} g'->J V g
 recv:∀V g c Wg Ss z,V.role=.recv c Wg Ss->V.deaf=0->g.status=.running->g.offers=none->
  (∀w,Sat V w->stepG P main g w=.comm g #[rcase c z] true (.recv true) w #[])->
  (∀i sp S v Im Ow,Ss[i]?=some (sp::S)->sp v Im Ow->(∀b,V.own b≠none->Ow b=none)->(∀b o,V.own b≠none->Im b o≠none->V.ab b o≠none)->(∃w,Sat V w/\(∀b o x,Im b o=some x->w.cell? ⟨b,o,none⟩=some x)/\∀b x,Ow b=some x->w.heap[b]?=some x)->
   J {V with ab:=λb o=>match V.ab b o with|some x=>some x|none=>Im b o,own:=λb=>match V.own b with|some x=>some x|none=>Ow b,role:=.recv c Wg (Ss.set i S)} (Ua g (.tuple #[v,.bool true])))->
  ((∀S∈Ss,S=[])->J {V with role:=.plain} (Ua g (.tuple #[z,.bool false])))->J V g
structure Closed (lv:Bool)(P:SI)(main:Bool)(J:View->SG->Prop):Prop extends zL P main J where
 more:lv=true->aeJ P main J
theorem Closed.idle{lv:Bool}{P:SI}{main:Bool}{J:View->SG->Prop}(C:Closed lv P main J){V:View}{g g':SG}(hs:g.status=.running)(h:∀w,stepG P main g w=.go g' w #[]) (hJ:J V g'):J V g:=
 C.step V g hs λw hw=>⟨g',w,#[],V,h w,.idle hw,hJ⟩
def on (b:Uf)(a:Act)(todo:List WX):Uf:={b with tmps:=a.tmps,todo,defers:=a.defers,mode:=.run}
inductive Ex where
 |normal
 |exit (id:Nat)
 |goto (l:Nat)
 |ret
 |panic (chain:List Z2)
def qp (J:View->SG->Prop)(b:Uf)(cs:List Uf)(a:Act)(V:View)(x:Ub)(to:List WX->Option (List WX))(k:List WX):Prop:=
 (∃k',to k=some k'/\J V (G (on b a k') cs))\/(to k=none/\∀k2,to k2=none->J V (G (on b a (.code x::k2)) cs))
theorem qp.under{J:View->SG->Prop}{b:Uf}{cs:List Uf}{a:Act}{V:View}{x:Ub}{to:List WX->Option (List WX)}{k k2:List WX}(h:qp J b cs a V x to k)(e:to k2=to k):qp J b cs a V x to k2:=by
 rcases h with⟨k',h1,h2⟩|⟨h1,h2⟩
 ·exact .inl ⟨k',e.trans h1,h2⟩
 ·exact .inr ⟨e.trans h1,h2⟩
def ab8:List WX->Bool
 |.call .. ::_=>false
 |_=>true
def wi (J:View->SG->Prop)(b:Uf)(k:List WX)(cs:List Uf):Ex->Act->View->Prop
 |.normal,a,V=>J V (G (on b a k) cs)
 |.exit id,a,V=>qp J b cs a V (.exit id) (exitTo id) k
 |.goto l,a,V=>qp J b cs a V (.goto l) (gotoIn l) k
 |.ret,a,V=>∀k,J V (G (on b a (.code .ret::k)) cs)
 |.panic chain,a,V=>∀todo,ab8 todo=true->J V (G {on b a todo with mode:=.panicking chain} cs)
def WP (lv:Bool)(P:SI)(r:Option Nat)(c:Ub)(Q:Ex->Act->View->Prop)(a:Act)(V:View):Prop:=
 ∀(main:Bool)(J:View->SG->Prop),Closed lv P main J->∀(b:Uf)(k:List WX)(cs:List Uf),b.kind≠ .early->b.roundOf=r->
  (∀e a' V',Q e a' V'->wi J b k cs e a' V')->J V (G (on b a (.code c::k)) cs)
section steps
variable {P:SI}{main:Bool}{b:Uf}{a:Act}{k:List WX}{cs:List Uf}{w:Tq}
theorem aq5:stepG P main (G (on b a (.code .skip::k)) cs) w=.go (G (on b a k) cs) w #[]:=by simp[G,stepG,Uk,on]
theorem aqZ{l:Nat}:stepG P main (G (on b a (.code (.label l)::k)) cs) w=.go (G (on b a k) cs) w #[]:=by simp[G,stepG,Uk,on]
theorem aqW{id:Nat}:stepG P main (G (on b a (.inBlock id::k)) cs) w=.go (G (on b a k) cs) w #[]:=by simp[G,stepG,Uk,on]
theorem aqY{c:Ub}:stepG P main (G (on b a (.inScope c::k)) cs) w=.go (G (on b a k) cs) w #[]:=by simp[G,stepG,Uk,on]
theorem ac5{x y:Ub}:stepG P main (G (on b a (.code (.seq x y)::k)) cs) w=.go (G (on b a (.code x:: .code y::k)) cs) w #[]:=by simp[G,stepG,Uk,on]
theorem HX(b:Uf)(a:Act)(todo:List WX)(x:Tj):(on b a todo).eval x=a.eval x:=by cases x<;>rfl
theorem aoZ(b:Uf)(a:Act)(todo:List WX):(on b a todo).eval=a.eval:=funext (HX b a todo)
theorem s_cond{c:Tj}{x y:Ub}{t:Bool}(h:a.eval c=.bool t):
  stepG P main (G (on b a (.code (.cond c x y)::k)) cs) w=.go (G (on b a (.code (if t then x else y)::k)) cs) w #[]:=by
 have h':(on b a (.code (.cond c x y)::k)).eval c=.bool t:=by rw[HX];exact h
 simp only[on]at h';simp[G,stepG,Uk,on,h']
theorem aqT{id:Nat}{c:Ub}:stepG P main (G (on b a (.code (.block id c)::k)) cs) w=.go (G (on b a (.code c:: .inBlock id::k)) cs) w #[]:=by simp[G,stepG,Uk,on]
theorem aq4{c:Ub}:stepG P main (G (on b a (.code (.scope c)::k)) cs) w=.go (G (on b a (.code c:: .inScope c::k)) cs) w #[]:=by simp[G,stepG,Uk,on]
theorem aq0{c:Ub}:stepG P main (G (on b a (.code (.loop c)::k)) cs) w=.go (G (on b a (.code c:: .inLoop c::k)) cs) w #[]:=by simp[G,stepG,Uk,on]
theorem aqX{c:Ub}:stepG P main (G (on b a (.inLoop c::k)) cs) w=.go (G (on b a (.code c:: .inLoop c::k)) cs) w #[]:=by simp[G,stepG,Uk,on]
theorem s_exit{id:Nat}{k':List WX}(h:exitTo id k=some k'):stepG P main (G (on b a (.code (.exit id)::k)) cs) w=.go (G (on b a k') cs) w #[]:=by simp[G,stepG,Uk,on,h]
theorem aqV{l:Nat}{k':List WX}(h:gotoIn l k=some k'):stepG P main (G (on b a (.code (.goto l)::k)) cs) w=.go (G (on b a k') cs) w #[]:=by simp[G,stepG,Uk,on,h]
theorem ac4{id:Nat}{ops:Array Tx}:stepG P main (G (on b a (.code (.region id ops false)::k)) cs) w=.go (G (on b a (.inRegion ops (S0 ops.size)::k)) cs) w #[]:=by simp[G,stepG,Uk,on]
theorem aqU{id:Nat}{ops:Array Tx}:stepG P main (G (on b a (.code (.region id ops true)::k)) cs) w=
  .go (G (on b a (.inRegion ops (VP (P.follows .mixedOrders) ops (w.tape w.drawn (.order b.fn id)))::k)) cs) {w with drawn:=w.drawn+1} #[]:=by
 simp[G,stepG,Uk,on,choose,Sem.run,avj,ZA]
theorem aq3{ops:Array Tx}:stepG P main (G (on b a (.inRegion ops []::k)) cs) w=.go (G (on b a k) cs) w #[]:=by simp[G,stepG,Uk,on]
theorem EE(h:b.roundOf=none):stepG P main (G (on b a (.code .ret::k)) cs) w=.go (G {on b a (.code .ret::k)with mode:=.returning} cs) w #[]:=by simp[G,stepG,Uk,on,h]
theorem ED(h:b.roundOf=none):stepG P main (G (on b a []) cs) w=.go (G {on b a []with mode:=.returning} cs) w #[]:=by simp[G,stepG,Uk,on,h]
end steps
section rules
variable {lv:Bool}{P:SI}{r:Option Nat}{Q:Ex->Act->View->Prop}{a:Act}{V:View}
theorem WP.mono{c:Ub}{Q':Ex->Act->View->Prop}(h:WP lv P r c Q a V)(hq:∀e a V,Q e a V->Q' e a V):WP lv P r c Q' a V:=
 λmain J C b k cs hb hr hL=>h main J C b k cs hb hr λe a' V' q=>hL e a' V' (hq _ _ _ q)
theorem WP.ghost{c:Ub}{V':View}(g:d_ V V')(h:WP lv P r c Q a V'):WP lv P r c Q a V:=
 λmain J C b k cs hb hr hL=>C.ghost _ _ _ g (h main J C b k cs hb hr hL)
theorem wp_skip(h:Q .normal a V):WP lv P r .skip Q a V:=λ_ _ C _ _ _ _ _ hL=>C.idle rfl (λ_=>aq5) (hL _ _ _ h)
theorem wp_label{l:Nat}(h:Q .normal a V):WP lv P r (.label l) Q a V:=λ_ _ C _ _ _ _ _ hL=>C.idle rfl (λ_=>aqZ) (hL _ _ _ h)
theorem abq{main:Bool}{J:View->SG->Prop}(C:Closed lv P main J){b:Uf}{cs:List Uf}{a:Act}{V:View}{id:Nat}{k:List WX}(h:qp J b cs a V (.exit id) (exitTo id) k):J V (G (on b a (.code (.exit id)::k)) cs):=
 h.elim (λ⟨_,hk,hJ⟩=>C.idle rfl (λ_=>s_exit hk) hJ) (λ⟨hk,hJ⟩=>hJ k hk)
theorem am2{main:Bool}{J:View->SG->Prop}(C:Closed lv P main J){b:Uf}{cs:List Uf}{a:Act}{V:View}{l:Nat}{k:List WX}(h:qp J b cs a V (.goto l) (gotoIn l) k):J V (G (on b a (.code (.goto l)::k)) cs):=
 h.elim (λ⟨_,hk,hJ⟩=>C.idle rfl (λ_=>aqV hk) hJ) (λ⟨hk,hJ⟩=>hJ k hk)
theorem wp_exit{id:Nat}(h:Q (.exit id) a V):WP lv P r (.exit id) Q a V:=λ_ _ C _ _ _ _ _ hL=>abq C (hL _ _ _ h)
theorem wp_ret(h:Q .ret a V):WP lv P r .ret Q a V:=λ_ _ _ _ k _ _ _ hL=>hL _ _ _ h k
def Ex.then (next:Act->View->Prop)(Q:Ex->Act->View->Prop):Ex->Act->View->Prop
 |.normal,a,V=>next a V
 |e,a,V=>Q e a V
theorem wi.under{J:View->SG->Prop}{b:Uf}{k:List WX}{cs:List Uf}{x:WX}(hx:x.plain=true){e:Ex}(he:e≠ .normal){a:Act}{V:View}(h:wi J b k cs e a V):wi J b (x::k) cs e a V:=by
 cases e with
 |normal=>exact absurd rfl he
 |exit id=>exact qp.under h (by cases x<;>simp_all[exitTo,ai_])
 |goto l=>exact qp.under h (by cases x<;>simp_all[gotoIn,ai_])
 |ret=>exact h
 |panic ch=>exact h
theorem wp_seq{x y:Ub}(h:WP lv P r x (Ex.then (WP lv P r y Q) Q) a V):WP lv P r (.seq x y) Q a V:=by
 intro main J C b k cs hb hr hL;refine C.idle rfl (λ_=>ac5) (h main J C b (.code y::k) cs hb hr λe a' V' q=> ?_);cases e with
 |normal=>exact q main J C b k cs hb hr hL
 |exit id=>exact(hL _ _ _ q).under rfl (by simp)
 |goto l=>exact(hL _ _ _ q).under rfl (by simp)
 |ret=>exact(hL _ _ _ q).under rfl (by simp)
 |panic ch=>exact(hL _ _ _ q).under rfl (by simp)
theorem wp_cond{c:Tj}{x y:Ub}{t:Bool}(hc:a.eval c=.bool t)(h:WP lv P r (if t then x else y) Q a V):WP lv P r (.cond c x y) Q a V:=
 λmain J C b k cs hb hr hL=>C.idle rfl (λ_=>s_cond hc) (h main J C b k cs hb hr hL)
def Ex.inBlock (id:Nat)(Q:Ex->Act->View->Prop):Ex->Act->View->Prop
 |.exit o5,a,V=>if o5=id then Q .normal a V else Q (.exit o5) a V
 |e,a,V=>Q e a V
theorem wp_block{id:Nat}{c:Ub}(h:WP lv P r c (Ex.inBlock id Q) a V):WP lv P r (.block id c) Q a V:=by
 intro main J C b k cs hb hr hL;refine C.idle rfl (λ_=>aqT) (h main J C b (.inBlock id::k) cs hb hr λe a' V' q=> ?_);cases e with
 |normal=>exact C.idle rfl (λ_=>aqW) (hL _ _ _ q)
 |exit o5=>
  by_cases bZ:o5=id
  ·simp only[Ex.inBlock,bZ,if_true]at q;exact .inl ⟨k,by simp[exitTo,bZ],hL _ _ _ q⟩
  ·simp only[Ex.inBlock,bZ,if_false]at q;have:(id==o5)=false:=(by simp;exactλh=>bZ h.symm);exact qp.under (hL _ _ _ q) (by simp[exitTo,this])
 |goto l=>exact qp.under (hL _ _ _ q) (by simp[gotoIn])
 |ret=>exact hL _ _ _ q
 |panic ch=>exact hL _ _ _ q
theorem O7{α:Type}{lt:α->α->Prop}(wf:WellFounded lt){c:Ub}(I:α->Act->View->Prop)(m:α)(h₀:I m a V)
  (round:∀m a V,I m a V->WP lv P r c (Ex.then (λa' V'=>∃m',lt m' m/\I m' a' V') Q) a V):WP lv P r (.loop c) Q a V:=by
 intro main J C b k cs hb hr hL;have key:∀m a V,I m a V->J V (G (on b a (.code c:: .inLoop c::k)) cs):=by
  intro m;induction m using wf.induction with
  |_ m ih=>
   intro a V hI;refine round m a V hI main J C b (.inLoop c::k) cs hb hr λe a' V' q=> ?_;cases e with
   |normal=>obtain⟨m',hlt,hI'⟩:=q;exact C.idle rfl (λ_=>aqX) (ih m' hlt a' V' hI')
   |exit id=>exact(hL _ _ _ q).under rfl (by simp)
   |goto l=>exact(hL _ _ _ q).under rfl (by simp)
   |ret=>exact(hL _ _ _ q).under rfl (by simp)
   |panic ch=>exact(hL _ _ _ q).under rfl (by simp)
 exact C.idle rfl (λ_=>aq0) (key m a V h₀)
theorem wp_loop{c:Ub}(I:Nat->Act->View->Prop)(m:Nat)(h₀:I m a V)
  (round:∀m a V,I m a V->WP lv P r c (Ex.then (λa' V'=>∃m',m'<m/\I m' a' V') Q) a V):WP lv P r (.loop c) Q a V:=
 O7 Nat.lt_wfRel.wf I m h₀ round
theorem aeC{c:Ub}(I:Nat->Nat->Act->View->Prop)
  (start:∃n:Nat,WP lv P r c (λe a V=>match e with
   |.goto l=>∃rest,findLabel c l=some rest/\∃m,m<n/\I l m a V
   |e=>Q e a V) a V)
  (back:∀l rest m a V,findLabel c l=some rest->I l m a V->WP lv P r rest (λe a V=>match e with
   |.goto l'=>∃zu,findLabel c l'=some zu/\∃m',m'<m/\I l' m' a V
   |e=>Q e a V) a V):WP lv P r (.scope c) Q a V:=by
 intro main J C b k cs hb hr hL;have land:∀(n:Nat),(∀l rest m a V,m<n->findLabel c l=some rest->I l m a V->J V (G (on b a (.code rest:: .inScope c::k)) cs))->
   ∀e a' V',(match e with
   |.goto l=>∃rest,findLabel c l=some rest/\∃m,m<n/\I l m a' V'
   |e=>Q e a' V')->wi J b (.inScope c::k) cs e a' V':=by
  intro n hn e a' V' q;cases e with
  |normal=>exact C.idle rfl (λ_=>aqY) (hL _ _ _ q)
  |exit id=>exact qp.under (hL _ _ _ q) (by simp[exitTo])
  |goto l=>
   obtain⟨rest,hf,m,hm,hI⟩:=q;exact .inl ⟨_,by simp[gotoIn,hf],hn l rest m a' V' hm hf hI⟩
  |ret=>exact hL _ _ _ q
  |panic ch=>exact hL _ _ _ q
 have key:∀n l rest m a V,m<n->findLabel c l=some rest->I l m a V->J V (G (on b a (.code rest:: .inScope c::k)) cs):=by
  intro n;induction n with
  |zero=>intro _ _ _ _ _ h;omega
  |succ n ih=>
   intro l rest m a V hm hf hI;exact back l rest m a V hf hI main J C b (.inScope c::k) cs hb hr (land m λl' zu m' a' V' h'=>ih l' zu m' a' V' (by omega))
 obtain⟨n,hn⟩:=start;exact C.idle rfl (λ_=>aq4) (hn main J C b (.inScope c::k) cs hb hr (land n (key n)))
end rules
open Go.Conc
def View.get (V:View)(b o:Nat):Option SQ:=
 match V.ab b o with
 |some v=>some v
 |none=>match V.own b with
  |some (.cells c _ _)=>c[o]?
  |_=>none
def View.upd (V:View)(b:Nat)(x:Obj):View:={V with own:=λb'=>if b'=b then some x else V.own b'}
def View.fresh (V:View)(b:Nat):Prop:=V.own b=none/\∀o,V.ab b o=none
theorem Sat.get{V:View}{w:Tq}(h:Sat V w){b o:Nat}{v:SQ}(e:V.get b o=some v):w.cell? ⟨b,o,none⟩=some v:=by
 unfold View.get at e;split at e
 ·rename_i v' hv;cases e;exact h.ab _ _ _ hv
 ·split at e
  ·rename_i c el f ho;have:=h.own _ _ ho;simpa[UC,this]using e
  ·cases e
theorem Sat.lt{V:View}{w:Tq}(h:Sat V w){b:Nat}{x:Obj}(e:V.own b=some x):b<w.heap.size:=by
 have:=h.own _ _ e;exact(SR.1 this).1
theorem Sat.D3{V:View}{w:Tq}(h:Sat V w){b o:Nat}{v:SQ}(e:V.ab b o=some v):b<w.heap.size:=by
 have:=h.ab _ _ _ e;unfold UC at this;split at this
 ·rename_i hh;exact(SR.1 hh).1
 ·cases this
theorem Sat.fresh{V:View}{w:Tq}(h:Sat V w){b:Nat}(hb:w.heap.size<=b):V.fresh b:=
 ⟨by cases e:V.own b with
  |none=>rfl
  |some x=>have:=h.lt e;omega,λo=>by
  cases e:V.ab b o with
  |none=>rfl
  |some x=>have:=h.D3 e;omega⟩
theorem Sat.eX{V:View}{w:Tq}(h:Sat V w){b o:Nat}{v:SQ}(e:V.get b o=some v):b<w.heap.size:=by
 have:=h.get e;unfold UC at this;split at this
 ·rename_i hh;exact(SR.1 hh).1
 ·cases this
theorem uI.zl{V V₁:View}{w w₁:Tq}{es:Array Uu}(s:dh V w V₁ w₁ es){a:Va}(h:uI V₁ w₁.heap.size a):uI V w.heap.size a:=by
 rcases h with h|h|h
 ·exact .inl (TV s.size h)
 ·by_cases hb:a.block<w.heap.size
  ·exact .inr (.inl λe=>h (s.own _ hb e))
  ·exact .inl (by omega)
 ·cases e:V₁.ab a.block a.off with
  |none=>exact absurd e h
  |some v=>
   rcases s.kY _ _ _ e with x|x|x
   ·exact .inr (.inr (by rw[x];simp))
   ·exact .inr (.inl x)
   ·exact .inl x
theorem mZ.zl{V V₁:View}{w w₁:Tq}{es:Array Uu}(s:dh V w V₁ w₁ es){a:Va}(h:mZ V₁ w₁.heap.size a):mZ V w.heap.size a:=by
 rcases h with h|⟨h,h'⟩
 ·exact .inl (TV s.size h)
 ·by_cases hb:a.block<w.heap.size
  ·refine .inr ⟨λe=>h (s.own _ hb e),?_⟩;cases e:V.ab a.block a.off with
   |none=>rfl
   |some v=>rw[s.ab _ _ _ e]at h';cases h'
  ·exact .inl (by omega)
theorem nw.zl{V V₁:View}{w w₁:Tq}{es:Array Uu}(s:dh V w V₁ w₁ es){e:Uu}(h:nw V₁ w₁.heap.size e):nw V w.heap.size e:=by
 unfold nw at h⊢;split at h
 ·exact⟨uI.zl s h.1,by rw[<- s.role];exact h.2⟩
 ·exact⟨mZ.zl s h.1,by rw[<- s.role];exact h.2⟩
 ·refine⟨⟨h.1.1,?_⟩,by rw[<- s.role];exact h.2⟩;rename_i r _ _;rcases h.1.2 with x|x
  ·exact .inl (TV s.size x)
  ·by_cases hb:r<w.heap.size
   ·exact .inr λy=>x (s.own _ hb y)
   ·exact .inl (by omega)
 ·exact mZ.zl s h
 ·exact mZ.zl s h
 ·exact h
 ·exact h
 ·trivial
 ·exact h.elim
theorem JH(d:Nat)(x y:Array Uu):deafBehind d (x++y)=deafBehind (deafBehind d x) y:=by
 simp[deafBehind]
theorem dh.trans{V V₁ V₂:View}{w w₁ w₂:Tq}{es uX:Array Uu}(s:dh V w V₁ w₁ es)(s':dh V₁ w₁ V₂ w₂ uX):dh V w V₂ w₂ (es++uX):=
 ⟨s'.sat,s'.tape.trans s.tape,s'.os.trans s.os,s'.output.trans s.output,TV s.size s'.size,
  λb hb e=>(s'.frame b (Te hb s.size) (s.own b hb e)).trans (s.frame b hb e),λb hb e=>s'.own b (Te hb s.size) (s.own b hb e),
  λb o v e=>s'.ab b o v (s.ab b o v e),λb o v e=>by
   rcases s'.kY b o v e with x|x|x
   ·exact s.kY b o v x
   ·by_cases hb:b<w.heap.size
    ·exact .inr (.inl λy=>x (s.own b hb y))
    ·exact .inr (.inr (by omega))
   ·exact .inr (.inr (TV s.size x)),
  λe he=>(Uw.1 he).elim (s.ft e) (λh=>(s'.ft e h).zl s),by rw[s'.deaf,s.deaf,JH],s'.role.trans s.role,λc x e e'=>s'.chan c x (by rw[s.role];exact e) (s.chan c x e e'),
  λe he=>(Uw.1 he).elim (λx=>Zq s'.size (s.low e x)) (s'.low e)⟩
def fN (es:Array Uu):Array Uu:=es.filter λe=>match e.loc with|.mark (.extern _)=>false|_=>true
def aR (P:SI){α:Type}(V:View)(s:Sem α)(K:α->View->Prop)(Kp:SQ->View->Prop):Prop:=
 ∀w,Sat V w->∀fb,∃es w' V',dh V w V' w' (fN es)/\
  ((∃x,s.runT P w fb=(.ok x w',fb++es)/\K x V')\/(∃v,s.runT P w fb=(.halt (.panic v) w',fb++es)/\Kp v V'))
section
variable {P:SI}{α β:Type}{V:View}{K:α->View->Prop}{Kp:SQ->View->Prop}
theorem NH(x y:Array Uu):fN (x++y)=fN x++fN y:=by simp[fN]
theorem aR.mono{s:Sem α}{K':α->View->Prop}{Pk:SQ->View->Prop}(h:aR P V s K Kp)(hk:∀x V,K x V->K' x V)(hp:∀x V,Kp x V->Pk x V):aR P V s K' Pk:=λw hw fb=>
 let⟨es,w',V',h1,h2⟩:=h w hw fb
 ⟨es,w',V',h1,h2.imp (λ⟨x,a,b⟩=>⟨x,a,hk _ _ b⟩) (λ⟨x,a,b⟩=>⟨x,a,hp _ _ b⟩)⟩
theorem aR.ghost{s:Sem α}{V':View}(g:d_ V V')(h:aR P V' s K Kp):aR P V s K Kp:=λw hw fb=>
 let⟨es,w',V',h1,h2⟩:=h w (g.sat w hw) fb
 ⟨es,w',V',h1.sB g,h2⟩
theorem aR.cont{s:Sem α}(h:∀w,Sat V w->∃es w' V' s',dh V w V' w' (fN es)/\(∀fb,s.runT P w fb=s'.runT P w' (fb++es))/\aR P V' s' K Kp):aR P V s K Kp:=by
 intro w hw fb;obtain⟨es,w',V',s',h1,h2,h3⟩:=h w hw;obtain⟨uX,OZ,aU,h4,h5⟩:=h3 w' h1.sat (fb++es);refine⟨es++uX,OZ,aU,by rw[NH];exact h1.trans h4,?_⟩;rw[h2,<- Xv];exact h5
theorem cM{x:α}(h:K x V):aR P V (.pure x) K Kp:=λw hw fb=>⟨#[],w,V,by simpa[fN]using dh.idle hw,.inl ⟨x,by simp[-TE,VK],h⟩⟩
theorem au{x:α}(h:K x V):aR P V (pure x) K Kp:=cM h
theorem aro{v:SQ}(h:Kp v V):aR P V (.halt (.panic v):Sem α) K Kp:=λw hw fb=>⟨#[],w,V,by simpa[fN]using dh.idle hw,.inr ⟨v,by simp[-TE,VK],h⟩⟩
theorem un{e:Uu}(h:∀f,e.loc≠ .mark (.extern f)):fN #[e]=#[e]:=by
 unfold fN;have:(match e.loc with|.mark (.extern _)=>false|_=>true)=true:=by
  split
  ·rename_i f hf;exact absurd hf (h f)
  ·rfl
 simp[Array.filter]
theorem Qn(d:Nat)(a:Va)(wr s:Bool):deafBehind d #[⟨.cell a,wr,s⟩]=d:=by simp[deafBehind]
theorem Qo(d:Nat)(a:Nat)(wr s:Bool):deafBehind d #[⟨.obj a,wr,s⟩]=d:=by simp[deafBehind]
theorem Ou{m:Mode}{b o:Nat}{v:SQ}{k:SQ->Sem α}(e:V.get b o=some v)(kH:V.role.group≠some b\/m=.atomic)(h:aR P V (k v) K Kp):aR P V (.load m ⟨b,o,none⟩ k) K Kp:=by
 refine .cont λw hw=>⟨#[⟨.cell ⟨b,o,none⟩,false,m== .atomic⟩],w,V,k v,?_,λfb=> ?_,h⟩
 ·rw[un (by simp)];refine⟨hw,rfl,rfl,rfl,SP _,λ_ _ _=>rfl,λ_ _ e=>e,λ_ _ _ e=>e,λ_ _ _ e=> .inl e,λev ce=> ?_,by rw[Qn],rfl,λ_ _ _ e=>e,λev ce=>by simp at ce;subst ce;exact hw.eX e⟩;simp only[TO,SK,SZ,or_false]at ce;subst ce;refine⟨.inr ?_,kH.elim .inr (λx=> .inl (by subst x;rfl))⟩;show V.own b≠none\/V.ab b o≠none;unfold View.get at e;split at e
  ·rename_i hv;exact .inr (by rw[hv];simp)
  ·split at e
   ·rename_i hv;exact .inl (by rw[hv];simp)
   ·cases e
 ·simp[-TE,VK,hw.get e]
def _root_.Go.Value.one:SQ->Bool
 |.agg _|.tuple _=>false
 |_=>true
theorem Sat.aes{V:View}{w:Tq}(h:Sat V w){b o:Nat}{v:SQ}{c:Array SQ}{el:TypeId}{f:Nat×Nat}(ho:V.own b=some (.cells c el f))(hi:V.ab b o=none):
  Sat (V.upd b (.cells (c.setIfInBounds o v) el f)) (w.setCell ⟨b,o,none⟩ v):=by
 have hb:=h.own _ _ ho;have hlt:=h.lt ho;have hm:(w.setCell ⟨b,o,none⟩ v).heap=w.heap.setIfInBounds b (.cells (c.setIfInBounds o v) el f):=by
  unfold Xm;apply Array.ext_getElem?;intro i;by_cases cG:b=i
  ·subst cG;rw[Wn,Tb hlt];simp[hb]
  ·simp[Wn,cG,SW cG]
 refine⟨λb' o' v' e=> ?_,λb' x e=> ?_⟩
 ·have:=h.ab _ _ _ e;simp only[View.upd]at e;by_cases AB:b=b'
  ·subst AB;have AW:o≠o':=(by intro x;subst x;rw[hi]at e;cases e);simp only[UC,hb]at this;simp only[UC,hm,Tb hlt,SW AW];exact this
  ·simp only[UC,hm,SW AB];exact this
 ·simp only[View.upd]at e;rw[hm];by_cases AB:b'=b
  ·subst AB;simp at e;rw[Tb hlt,e]
  ·simp only[AB,if_false]at e;rw[SW (Ne.symm AB)];exact h.own _ _ e
theorem EJ(w:Tq)(a:Va)(v:SQ):(w.setCell a v).heap.size=w.heap.size:=by simp[Xm]
theorem wU(w:Tq)(a:Va)(v:SQ){b:Nat}(h:a.block≠b):(w.setCell a v).heap[b]?=w.heap[b]?:=by simp[Xm,Wn,h]
theorem arq{m:Mode}{b o:Nat}{v:SQ}{k:Sem α}{c:Array SQ}{el:TypeId}{lo hi:Nat}(ho:V.own b=some (.cells c el (lo,hi)))(cK:o<c.size)(cG:V.ab b o=none)(hv:v.one=true)
  (hf:¬(lo<=o/\o<hi)) (kH:V.role.group≠some b\/m=.atomic) (LA:V.role.chan≠some b) (h:aR P (V.upd b (.cells (c.setIfInBounds o v) el (lo,hi))) k K Kp):aR P V (.store m ⟨b,o,none⟩ v k) K Kp:=by
 refine .cont λw hw=>⟨#[⟨.cell ⟨b,o,none⟩,true,m== .atomic⟩],w.setCell ⟨b,o,none⟩ v,_,k,?_,λfb=> ?_,h⟩
 ·rw[un (by simp)];refine⟨hw.aes ho cG,rfl,rfl,rfl,by rw[EJ];exact SP _,λb' dI e=>wU _ _ _ (λx=> ?_),λb' dI e=> ?_,λ_ _ _ e=>e,λ_ _ _ e=> .inl e,λev ce=> ?_,by rw[Qn];rfl,rfl,λc' x bp e=>by rw[<- e];simp only[View.upd,ite_eq_right_iff];intro x';subst x';exact absurd bp LA,λev ce=>by simp at ce;subst ce;show b<_;rw[EJ];exact hw.lt ho⟩
  ·have x':b=b':=x;subst x';rw[ho]at e;cases e
  ·have:b'≠b:=(by intro x;subst x;rw[ho]at e;cases e);simp only[View.upd,this,if_false];exact e
  ·simp only[TO,SK,SZ,or_false]at ce;subst ce;exact⟨.inr ⟨by show V.own b≠none;rw[ho];simp,cG⟩,kH.elim .inr (λx=> .inl (by subst x;rfl))⟩
 ·have hc:w.cell? ⟨b,o,none⟩=some c[o]:=by simp[UC,hw.own _ _ ho,cK]
  have hfz:w.frozen? ⟨b,o,none⟩=false:=by
   simp only[Z1,hw.own _ _ ho];simpa using hf
  cases v<;>simp_all[-TE,VK,Value.one]
theorem pi{x:Obj}{k:Nat->Sem α}(h:∀r,V.fresh r->aR P (V.upd r x) (k r) K Kp):aR P V (.new x k) K Kp:=by
 refine .cont λw hw=>⟨#[],{w with heap:=w.heap.push x},V.upd w.heap.size x,k w.heap.size,?_,λfb=>by simp[-TE,VK],h _ (hw.fresh (SP _))⟩;have g_:=hw.fresh (SP w.heap.size);have aG:∀{b y},V.own b=some y->b≠w.heap.size:=λe x=>by rw[x,g_.1]at e;cases e
 refine⟨⟨λb o v e=> ?_,λb y e=> ?_⟩,rfl,rfl,rfl,by simp,λb hb _=> ?_,λb hb e=> ?_,λ_ _ _ e=>e,λ_ _ _ e=> .inl e,by simp[fN],rfl,rfl,λc' x bp e=>by rw[<- e];simp only[View.upd,ite_eq_right_iff];intro x';exact absurd x' (aG e),by simp[fN]⟩
 ·have hlt:=hw.D3 e;have:=hw.ab _ _ _ e;simp only[UC,Yz hlt]at this⊢;simpa[UC,hlt]using this
 ·simp only[View.upd]at e;by_cases hb:b=w.heap.size
  ·subst hb;simp at e;simp[e]
  ·simp only[hb,if_false]at e;have:=hw.own _ _ e;have hlt:=hw.lt e;simp only[Yz hlt];simpa[hlt]using this
 ·simp[Xl,Wd hb]
 ·simp only[View.upd,Wd hb,if_false];exact e
theorem adh{q:Question}{k:Nat->Sem α}(h0:q.forced=true->aR P V (k 0) K Kp)(h:q.forced=false->∀t,aR P V (k (q.cut t)) K Kp):aR P V (.choose q k) K Kp:=by
 cases hf:q.forced with
 |true=>exact .cont λw hw=>⟨#[],w,V,k 0,by simpa[fN]using dh.idle hw,λfb=>by simp[-TE,VK,hf],h0 hf⟩
 |false=>exact .cont λw hw=>⟨#[],{w with drawn:=w.drawn+1},V,_,by simpa[fN]using dh.draw hw (w.drawn+1),λfb=>by simp[-TE,VK,hf],h hf (w.tape w.drawn q)⟩
theorem ri{k:SI->Sem α}(h:aR P V (k P) K Kp):aR P V (.program k) K Kp:=
 .cont λw hw=>⟨#[],w,V,k P,by simpa[fN]using dh.idle hw,λfb=>by simp[-TE,VK],h⟩
theorem arn{k:Sem α}(h:aR P V k K Kp):aR P V (.mark .noRoom k) K Kp:=
 .cont λw hw=>⟨#[⟨.mark .noRoom,false,true⟩],w,V,k,by
  rw[un (by simp)];exact⟨hw,rfl,rfl,rfl,SP _,λ_ _ _=>rfl,λ_ _ e=>e,λ_ _ _ e=>e,λ_ _ _ e=> .inl e,λev ce=>by simp at ce;subst ce;trivial,by simp[deafBehind],rfl,λ_ _ _ e=>e,λev ce=>by simp at ce;subst ce;trivial⟩,
  λfb=>by simp[-TE,VK],h⟩
theorem arm{m:Mark}{k:Sem α}(hm:m=.disable\/m=.enable)(h:aR P {V with deaf:=deafBehind V.deaf #[⟨.mark m,false,true⟩]} k K Kp):aR P V (.mark m k) K Kp:=
 .cont λw hw=>⟨#[⟨.mark m,false,true⟩],w,_,k,by
  rw[un (by rcases hm with rfl|rfl<;>simp)];exact⟨⟨hw.ab,hw.own⟩,rfl,rfl,rfl,SP _,λ_ _ _=>rfl,λ_ _ e=>e,λ_ _ _ e=>e,λ_ _ _ e=> .inl e,λev ce=>by simp at ce;subst ce;rcases hm with rfl|rfl<;>rfl,rfl,rfl,λ_ _ _ e=>e,λev ce=>by simp at ce;subst ce;rcases hm with rfl|rfl<;>trivial⟩,
  λfb=>by simp[-TE,VK],h⟩
theorem arp{m:Mark}{a:Va}{k:Sem α}(hm:m=.read a\/m=.write a)(ha:V.own a.block≠none/\V.ab a.block a.off=none)(h:aR P V k K Kp):aR P V (.mark m k) K Kp:=
 .cont λw hw=>⟨#[⟨.mark m,false,true⟩],w,_,k,by
  rw[un (by rcases hm with rfl|rfl<;>simp)];exact⟨⟨hw.ab,hw.own⟩,rfl,rfl,rfl,SP _,λ_ _ _=>rfl,λ_ _ e=>e,λ_ _ _ e=>e,λ_ _ _ e=> .inl e,λev ce=>by simp at ce;subst ce;rcases hm with rfl|rfl<;>exact .inr ha,
   by rcases hm with rfl|rfl<;>simp[deafBehind],rfl,λ_ _ _ e=>e,λev ce=>by
    simp at ce;subst ce;have:a.block<w.heap.size:=by
     cases e:V.own a.block with
     |none=>exact absurd e ha.1
     |some y=>exact hw.lt e
    rcases hm with rfl|rfl<;>exact this⟩,
  λfb=>by simp[-TE,VK],h⟩
def _root_.Go.Obj.vO:Obj->Bool
 |.cells .. =>true
 |_=>false
theorem oy{r:Nat}{x:Obj}{k:Obj->Sem α}(ho:V.own r=some x)(hx:x.vO=false)(hc:x.isChan=false)(kH:V.role.chan≠some r)(h:aR P V (k x) K Kp):aR P V (.getObj r k) K Kp:=
 .cont λw hw=>⟨#[⟨.obj r,false,false⟩],w,V,k x,by
  rw[un (by simp)];exact⟨hw,rfl,rfl,rfl,SP _,λ_ _ _=>rfl,λ_ _ e=>e,λ_ _ _ e=>e,λ_ _ _ e=> .inl e,λev ce=>by simp at ce;subst ce;exact⟨⟨rfl,.inr (by rw[ho];simp)⟩,kH⟩,by rw[Qo],rfl,λ_ _ _ e=>e,λev ce=>by simp at ce;subst ce;exact hw.lt ho⟩,
  λfb=>by
   have:=hw.own _ _ ho;cases x<;>simp_all[-TE,VK,Obj.vO,am_],h⟩
theorem Sat.atn{V:View}{w:Tq}(h:Sat V w){r:Nat}{x y:Obj}(ho:V.own r=some x)(hx:x.vO=false):Sat (V.upd r y) {w with heap:=w.heap.setIfInBounds r y}:=by
 have hlt:=h.lt ho;refine⟨λb o v e=> ?_,λb z e=> ?_⟩
 ·have:=h.ab _ _ _ e;have hb:r≠b:=by
   intro e';subst e';simp only[UC,h.own _ _ ho]at this;cases x<;>simp_all[Obj.vO]
  simp only[UC,SW hb]at this⊢;exact this
 ·simp only[View.upd]at e;by_cases hb:b=r
  ·subst hb;simp at e;simp[hlt,e]
  ·simp only[hb,if_false]at e;simp only[SW (Ne.symm hb)];exact h.own _ _ e
theorem zx{r:Nat}{x y:Obj}{k:Sem α}(ho:V.own r=some x)(hx:x.vO=false)(hy:y.isChan=false)(kH:V.role.chan≠some r)(h:aR P (V.upd r y) k K Kp):aR P V (.setObj r y k) K Kp:=
 .cont λw hw=>⟨#[⟨.obj r,true,false⟩],{w with heap:=w.heap.setIfInBounds r y},_,k,by
  rw[un (by simp)];refine⟨hw.atn ho hx,rfl,rfl,rfl,by simp,λb hb e=> ?_,λb hb e=> ?_,λ_ _ _ e=>e,λ_ _ _ e=> .inl e,λev ce=>by simp at ce;subst ce;exact⟨⟨rfl,.inr (by rw[ho];simp)⟩,kH⟩,by rw[Qo];rfl,rfl,λc' x bp e=>by rw[<- e];simp only[View.upd,ite_eq_right_iff];intro x';subst x';exact absurd bp kH,λev ce=>by simp at ce;subst ce;show r<_;simp;exact hw.lt ho⟩
  ·exact SW (λx'=>by subst x';rw[ho]at e;cases e)
  ·have:b≠r:=(by intro x';subst x';rw[ho]at e;cases e);simp only[View.upd,this,if_false];exact e,
  λfb=>by
   have:=hw.own _ _ ho;cases x<;>simp_all[-TE,VK,Obj.vO,am_],h⟩
theorem are{s:Sem α}{f:α->Sem β}{K:β->View->Prop}(h:aR P V s (λx V'=>aR P V' (f x) K Kp) Kp):aR P V (s.bind f) K Kp:=by
 intro w hw fb;obtain⟨es,w',V',h1,h2⟩:=h w hw fb;have key:(s.bind f).runT P w fb=match s.runT P w fb with
   |(.ok x w',e)=>(f x).runT P w' e
   |(.halt h w',e)=>(.halt h w',e):=by
  have hr:=Sem.run_bind' P s f w;have he:=Sem.events_bind' P s f w fb;rw[TE,TE];have yP:(s.bind f).run P w=_:=hr;have kG:(s.bind f).events P w fb=_:=he;rw[yP,kG];cases s.run P w<;>simp[Result.andThen,Result.evThen]
 rcases h2 with⟨x,hx,hK⟩|⟨v,hv,hKp⟩
 ·obtain⟨uX,OZ,aU,h3,h4⟩:=hK w' h1.sat (fb++es);refine⟨es++uX,OZ,aU,by rw[NH];exact h1.trans h3,?_⟩;rw[key,hx,<- Xv];exact h4
 ·refine⟨es,w',V',h1,.inr ⟨v,?_,hKp⟩⟩;rw[key,hv]
theorem az{s:Sem α}{f:α->Sem β}{K:β->View->Prop}(h:aR P V s (λx V'=>aR P V' (f x) K Kp) Kp):aR P V (s>>=f) K Kp:=are h
end
open Go.Conc
def zQ (e:Uu):Prop:=∀m,e.loc=.mark m->(m=.disable\/m=.enable)->e.sync=true
theorem nw.KH{V:View}{n:Nat}{e:Uu}(h:nw V n e):zQ e:=by
 intro m hm hd;obtain⟨l,wr,s⟩:=e;simp only at hm;subst hm;rcases hd with rfl|rfl
 ·simpa[nw]using h
 ·simpa[nw]using h
theorem ahw(d:Nat)(x:Array Uu)(e:Uu):deafBehind d (x.push e)=deafBehind (deafBehind d x) #[e]:=by
 simp[deafBehind]
theorem ahx{d:Nat}{e:Uu}(hg:zQ e)(hs:e.sync=false):deafBehind d #[e]=d:=by
 obtain⟨l,wr,s⟩:=e;cases l with
 |mark m=>
  cases m<;>first
   |(have:=hg _ rfl (.inl rfl);simp_all)
   |(have:=hg _ rfl (.inr rfl);simp_all)
   |simp[deafBehind]
 |_=>simp[deafBehind]
theorem arc(P:SI)(fn:TS)(es:Array Uu)(hg:∀e∈fN es,zQ e)(d:Nat):(∀e∈seen P fn es,e∈fN es)/\deafBehind d (seen P fn es)=deafBehind d (fN es):=by
 rw[seen_def];obtain⟨l⟩:=es;have key:∀(l:List Uu)(q:Bool)(kept ref:Array Uu),(∀e∈fN l.toArray,zQ e)->(∀e∈kept,e∈ref)->deafBehind d kept=deafBehind d ref->
   (∀e∈(l.foldl (seenStep λf=>(P.funcs[f]?).any (·.norace)) (q,kept)).2,e∈ref++fN l.toArray)/\
   deafBehind d (l.foldl (seenStep λf=>(P.funcs[f]?).any (·.norace)) (q,kept)).2=deafBehind d (ref++fN l.toArray):=by
  intro l;induction l with
  |nil=>intro q kept ref _ h1 h2;simpa[fN]using⟨h1,h2⟩
  |cons e l ih=>
   intro q kept ref hg h1 h2;rw[UY];by_cases hx:∃f,e.loc=.mark (.extern f)
   ·obtain⟨f,hf⟩:=hx;have e1:fN (e::l).toArray=fN l.toArray:=(by simp[fN,hf]);rw[e1]at hg⊢;have e3:seenStep (λf=>(P.funcs[f]?).any (·.norace)) (q,kept) e=((P.funcs[f]?).any (·.norace),kept):=(by simp[seenStep,hf]);rw[e3];exact ih _ kept ref hg h1 h2
   ·have aG:∀f,e.loc≠ .mark (.extern f):=λf hf=>hx ⟨f,hf⟩;have e1:fN (e::l).toArray=#[e]++fN l.toArray:=by
     have:(e::l).toArray=#[e]++l.toArray:=(by simp);rw[this,NH,un aG]
    have vn:zQ e:=hg e (by rw[e1];simp);have kg:∀x∈fN l.toArray,zQ x:=λx hx=>hg x (by rw[e1];exact Uw.2 (.inr hx));have e2:seenStep (λf=>(P.funcs[f]?).any (·.norace)) (q,kept) e=(q,if q&& !e.sync then kept else kept.push e):=by
     unfold seenStep;dsimp only;split
     ·rename_i f hf;exact absurd hf (aG f)
     ·rfl
    rw[e1,<- Xv];rw[e2];refine ih q _ (ref++#[e]) kg (λx hx=> ?_) ?_
    ·split at hx
     ·exact Uw.2 (.inl (h1 x hx))
     ·rcases Array.mem_push.1 hx with hx|rfl
      ·exact Uw.2 (.inl (h1 x hx))
      ·exact Uw.2 (.inr (by simp))
    ·split
     ·rename_i hq;simp only[Tg,T4]at hq;rw[JH,ahx vn hq.2,h2]
     ·rw[JH,ahw,h2]
 have:=key l ((P.funcs[fn]?).any (·.norace)) #[] #[] hg (by simp) rfl;simpa only[Xu]using this
theorem dh.seen{V V':View}{w w':Tq}{es:Array Uu}(h:dh V w V' w' (fN es))(P:SI)(fn:TS):dh V w V' w' (seen P fn es):=by
 have:=arc P fn es (λe he=>(h.ft e he).KH) V.deaf;exact⟨h.sat,h.tape,h.os,h.output,h.size,h.frame,h.own,h.ab,h.kY,λe he=>h.ft e (this.1 e he),by rw[h.deaf,this.2],h.role,h.chan,λe he=>h.low e (this.1 e he)⟩
open Go.Conc
inductive Out where
 |ret (v:SQ)
 |panic (chain:List Z2)
def Leaves (P:SI)(fr:Uf)(f:TS)(kd:Xj)(o:Out)(V:View):Prop:=
 fr.fn=f/\fr.defers=[]/\fr.kind=kd/\∃fn,P.funcs[f]?=some fn/\
  match o with
  |.ret v=>fr.mode=.returning/\aR P V (results fn fr.tmps) (λx V'=>x=v/\V'=V) (λ_ _=>False)
  |.panic ch=>fr.mode=.panicking ch
def Body (lv:Bool)(P:SI)(f:TS)(args:Array SQ)(kd:Xj)(V:View)(R:Out->View->Prop):Prop:=
 ∀(main:Bool)(J:View->SG->Prop),Closed lv P main J->∀cs,(∀o V' fr,R o V'->Leaves P fr f kd o V'->J V' (G fr cs))->J V (G (Frame.enter P f args kd) cs)
def nC (lv:Bool)(P:SI)(fr:Uf)(V:View)(R:Out->View->Prop):Prop:=
 ∀(main:Bool)(J:View->SG->Prop),Closed lv P main J->∀c cs,(∀v V',R (.ret v) V'->J V' (G (c.finish v) cs))->(∀ch V',R (.panic ch) V'->J V' (G (c.raise ch) cs))->J V (G fr (c::cs))
theorem Body.mono{lv:Bool}{P:SI}{f:TS}{args:Array SQ}{kd:Xj}{V:View}{R R':Out->View->Prop}(h:Body lv P f args kd V R)(hr:∀o V,R o V->R' o V):Body lv P f args kd V R':=
 λmain J C cs hk=>h main J C cs λo V' fr r hl=>hk o V' fr (hr _ _ r) hl
theorem Body.ghost{lv:Bool}{P:SI}{f:TS}{args:Array SQ}{kd:Xj}{V V':View}{R:Out->View->Prop}(g:d_ V V')(h:Body lv P f args kd V' R):Body lv P f args kd V R:=
 λmain J C cs hk=>C.ghost _ _ _ g (h main J C cs hk)
theorem nC.mono{lv:Bool}{P:SI}{fr:Uf}{V:View}{R R':Out->View->Prop}(h:nC lv P fr V R)(hr:∀o V,R o V->R' o V):nC lv P fr V R':=
 λmain J C c cs h1 h2=>h main J C c cs (λv V' r=>h1 v V' (hr _ _ r)) (λv V' r=>h2 v V' (hr _ _ r))
theorem nC.ghost{lv:Bool}{P:SI}{fr:Uf}{V V':View}{R:Out->View->Prop}(g:d_ V V')(h:nC lv P fr V' R):nC lv P fr V R:=
 λmain J C c cs h1 h2=>C.ghost _ _ _ g (h main J C c cs h1 h2)
theorem aR.runs{P:SI}{α:Type}{V:View}{s:Sem α}{K:α->View->Prop}{Kp:SQ->View->Prop}(h:aR P V s K Kp){w:Tq}(hw:Sat V w):
  ∃es w' V',dh V w V' w' (fN es)/\s.events P w #[]=es/\((∃x,s.run P w=.ok x w'/\K x V')\/(∃v,s.run P w=.halt (.panic v) w'/\Kp v V')):=by
 obtain⟨es,w',V',h1,h2⟩:=h w hw #[];refine⟨es,w',V',h1,?_⟩;simp only[TE,U8,Xu]at h2;rcases h2 with⟨x,⟨a,b⟩,c⟩|⟨x,⟨a,b⟩,c⟩
 ·exact⟨b,.inl ⟨x,a,c⟩⟩
 ·exact⟨b,.inr ⟨x,a,c⟩⟩
theorem anI{lv:Bool}{P:SI}{main:Bool}{J:View->SG->Prop}(C:Closed lv P main J){fr c:Uf}{cs:List Uf}{f:TS}{v:SQ}{V:View}(h:Leaves P fr f .normal (.ret v) V)(hJ:J V (G (c.finish v) cs)):J V (G fr (c::cs)):=by
 obtain⟨rfl,hd,hk,fn,hf,hm,hr⟩:=h;refine C.step _ _ rfl λw hw=> ?_;obtain⟨es,w',V',h1,h2,h3⟩:=hr.runs hw;rcases h3 with⟨x,h3,rfl,rfl⟩|⟨_,_,h⟩
 ·exact⟨G (c.finish x) cs,w',seen P fr.fn es,V',by simp[G,stepG,unwind,doReturn,hm,hd,hk,hf,h3,h2,T_],h1.seen P fr.fn,hJ⟩
 ·exact h.elim
theorem anH{lv:Bool}{P:SI}{main:Bool}{J:View->SG->Prop}(C:Closed lv P main J){fr c:Uf}{cs:List Uf}{f:TS}{kd:Xj}{ch:List Z2}{V:View}(h:Leaves P fr f kd (.panic ch) V)(hJ:J V (G (c.raise ch) cs)):J V (G fr (c::cs)):=by
 obtain⟨rfl,hd,hk,fn,hf,hm⟩:=h;refine C.idle rfl (λw=> ?_) hJ;simp[G,stepG,unwind,Z4,hm,hd,hf]
theorem Body.runs{lv:Bool}{P:SI}{f:TS}{args:Array SQ}{V:View}{R:Out->View->Prop}(h:Body lv P f args .normal V R):nC lv P (Frame.enter P f args .normal) V R:=by
 intro main J C c cs h1 h2;refine h main J C (c::cs) λo V' fr r hl=> ?_;cases o with
 |ret v=>exact anI C hl (h1 v V' r)
 |panic ch=>exact anH C hl (h2 ch V' r)
def m8 (lv:Bool)(P:SI)(r:Option Nat)(o:Tx)(a:Act)(next:Act->View->Prop)(Q:Ex->Act->View->Prop)(nx:Next)(V:View):Prop:=
 match nx with
 |.value v=>next (a.put o.dst v) V
 |.skip=>next (a.put o.dst undef) V
 |.defer d=>r=none/\next ({a with defers:=d::a.defers}.put o.dst undef) V
 |.enter f args=>Body lv P f args .normal V fun
   |.ret v,V'=>next (a.put o.dst v) V'
   |.panic ch,V'=>Q (.panic ch) a V'
 |.round l f tmps assign body=>nC lv P (Xe l f tmps assign body .normal) V fun
   |.ret v,V'=>next (a.put o.dst v) V'
   |.panic ch,V'=>Q (.panic ch) a V'
 |_=>False
def mL:Op->Bool
 |.defer _=>true
 |_=>false
def xL (lv:Bool)(P:SI)(r:Option Nat)(o:Tx)(a:Act)(V:View)(next:Act->View->Prop)(Q:Ex->Act->View->Prop):Prop:=
 (r=none\/mL o.op=false)/\aR P V (execOp a.eval o) (m8 lv P r o a next Q) (λv V'=>Q (.panic [{v,recovered:=false}]) a V')
def wl (lv:Bool)(P:SI)(o:Tx)(a:Act)(V:View)(next:Act->View->Prop):Prop:=match o.op with
 |.send ch x=>∃(c Wg:Nat)(sp:Spec)(S:List Spec)(B:Nat->Bool),a.eval ch=.chan (some c)/\V.role=.work c Wg (sp::S)/\V.deaf=0/\sp (a.eval x) V.ab (λb=>if B b then V.own b else none)/\
   next (a.put o.dst undef) {V with own:=λb=>if B b then none else V.own b,role:=.work c Wg S}
 |.go cl=>lv=true/\∃(x:Tj)(f:TS)(fa ca:Array SQ),cl.callee=.value x/\a.eval x=.func (.func f) fa ca/\V.deaf=0/\
   ((∃(c Wg:Nat)(Ss:List (List Spec))(sp:Spec)(S:List Spec),V.role=.fork c Wg Ss/\V.own c=some (.chan 0 #[] false 0 0 false)/\V.own Wg=some (wgBlock P (((Ss.length+1:Nat):Int)* 4294967296) 0)/\Ss.length<4/\(∀o,V.ab Wg o=none)/\
    (∀J0,zL P false J0->J0 {ab:=V.ab,own:=λ_=>none,deaf:=0,role:=.work c Wg (sp::S)} (born P ⟨.fn (.func f) ca,fa++cl.args.map a.eval⟩))/\next (a.put o.dst undef) {V with role:=.fork c Wg (Ss++[sp::S])})\/
    (∃(c Wg:Nat)(Ss:List (List Spec)),V.role=.fork c Wg Ss/\c≠Wg/\V.own c=some (.chan 0 #[] false 0 0 false)/\V.own Wg=some (wgBlock P (((Ss.length:Nat):Int)* 4294967296) 0)/\(∀o,V.ab c o=none)/\(∀o,V.ab Wg o=none)/\
    I0 P V.ab c Wg (born P ⟨.fn (.func f) ca,fa++cl.args.map a.eval⟩)/\next (a.put o.dst undef) {V with own:=λb=>if b=c\/b=Wg then none else V.own b,role:=.recv c Wg Ss}))
 |.recv t ch true=>lv=true/\∃(c Wg:Nat)(Ss:List (List Spec))(d:ChanDir)(el:TypeId)(i:Wo)(z:SQ),a.eval ch=.chan (some c)/\P.underlying t=some (.chan d el)/\P.info? el=some i/\i.zero=some z/\V.role=.recv c Wg Ss/\V.deaf=0/\
   (∀(i:Nat)(sp:Spec)(S:List Spec)(v:SQ)(Im:cE)(Ow:B8),Ss[i]?=some (sp::S)->sp v Im Ow->(∀b,V.own b≠none->Ow b=none)->(∀b o,V.own b≠none->Im b o≠none->V.ab b o≠none)->(∃w,Sat V w/\(∀b o x,Im b o=some x->w.cell? ⟨b,o,none⟩=some x)/\∀b x,Ow b=some x->w.heap[b]?=some x)->
    next (a.put o.dst (.tuple #[v,.bool true])) {V with ab:=λb o=>match V.ab b o with|some x=>some x|none=>Im b o,own:=λb=>match V.own b with|some x=>some x|none=>Ow b,role:=.recv c Wg (Ss.set i S)})/\
   ((∀S∈Ss,S=[])->next (a.put o.dst (.tuple #[z,.bool false])) {V with role:=.plain})
 |_=>False
theorem wl.mono{lv:Bool}{P:SI}{o:Tx}{a:Act}{V:View}{N N':Act->View->Prop}(h:wl lv P o a V N)(hN:∀a V,N a V->N' a V):wl lv P o a V N':=by
 unfold wl at h⊢;split at h
 ·obtain⟨c,Wg,sp,S,B,h1,h2,h3,h4,h5⟩:=h;exact⟨c,Wg,sp,S,B,h1,h2,h3,h4,hN _ _ h5⟩
 ·obtain⟨tR,x,f,fa,ca,h1,h2,h3,h4⟩:=h;refine⟨tR,x,f,fa,ca,h1,h2,h3,h4.imp ?_ ?_⟩
  ·rintro⟨c,Wg,Ss,sp,S,q1,q2,q3,q4,q5,q6,q7⟩
   exact⟨c,Wg,Ss,sp,S,q1,q2,q3,q4,q5,q6,hN _ _ q7⟩
  ·rintro⟨c,Wg,Ss,q1,q2,q3,q4,q5,q6,q7,q8⟩
   exact⟨c,Wg,Ss,q1,q2,q3,q4,q5,q6,q7,hN _ _ q8⟩
 ·obtain⟨tR,c,Wg,Ss,d,el,ti,z,h1,h2,h3,h4,h5,h6,h7,h8⟩:=h;exact⟨tR,c,Wg,Ss,d,el,ti,z,h1,h2,h3,h4,h5,h6,λi sp S v Im Ow r1 r2 r3 r4 r5=>hN _ _ (h7 i sp S v Im Ow r1 r2 r3 r4 r5),λhS=>hN _ _ (h8 hS)⟩
 ·exact h
def B7 (lv:Bool)(P:SI)(r:Option Nat)(o:Tx)(a:Act)(V:View)(next:Act->View->Prop)(Q:Ex->Act->View->Prop):Prop:=xL lv P r o a V next Q\/wl lv P o a V next
def dq (lv:Bool)(P:SI)(r:Option Nat)(ops:Array Tx)(Q:Ex->Act->View->Prop):List Nat->Act->View->Prop
 |[],a,V=>Q .normal a V
 |i::rest,a,V=>
  match ops[i]?with
  |none=>dq lv P r ops Q rest a V
  |some o=>if Ti o (yielded ops a.tmps)then B7 lv P r o a V (dq lv P r ops Q rest) Q else dq lv P r ops Q rest (a.put o.dst undef) V
theorem Bj(b:Uf)(a:Act)(ops:Array Tx)(i:Nat)(rest:List Nat)(k:List WX)(v:SQ):
  (on b a (.inRegion ops (i::rest)::k)).finish v=on b (a.put ((ops[i]?).bind (·.dst)) v) (.inRegion ops rest::k):=by
 cases h:(ops[i]?).bind (·.dst)<;>simp[Frame.finish,on,X7,h]
theorem ac3{P:SI}{main:Bool}{b:Uf}{a:Act}{k:List WX}{cs:List Uf}{w:Tq}{ops:Array Tx}{i:Nat}{rest:List Nat}(h:((ops[i]?).map (Ti · (yielded ops a.tmps))).getD false=false):
  stepG P main (G (on b a (.inRegion ops (i::rest)::k)) cs) w=.go (G (on b (a.put ((ops[i]?).bind (·.dst)) undef) (.inRegion ops rest::k)) cs) w #[]:=by
 rw[<- Bj];simp only[on]at*;simp[G,stepG,Uk,h]
theorem s_op{P:SI}{main:Bool}{b:Uf}{a:Act}{k:List WX}{cs:List Uf}{w:Tq}{ops:Array Tx}{i:Nat}{rest:List Nat}{o:Tx}(ho:ops[i]?=some o)(hw:Ti o (yielded ops a.tmps)=true)(hd:b.roundOf=none\/mL o.op=false):
  stepG P main (G (on b a (.inRegion ops (i::rest)::k)) cs) w=stepG.apply P true (on b a (.inRegion ops (i::rest)::k)) cs none (execOp a.eval o) w:=by
 have he:=aoZ b a (.inRegion ops (i::rest)::k);simp only[on]at he;rcases hd with hd|hd
 ·rw[hd]at he;simp[G,stepG,Uk,Y8,YL,on,ho,hw,he,hd]
 ·cases hr:b.roundOf with
  |none=>
   rw[hr]at he;simp[G,stepG,Uk,Y8,YL,on,ho,hw,he,hr]
  |some l=>cases ay:o.op<;>simp_all[G,stepG,Uk,Y8,YL,on,mL]
theorem arM{lv:Bool}{P:SI}{main:Bool}{J:View->SG->Prop}(C:Closed lv P main J){ops:Array Tx}{i:Nat}{rest:List Nat}{o:Tx}{a:Act}{V:View}{N:Act->View->Prop}{b:Uf}{k:List WX}{cs:List Uf}(hb:b.kind≠ .early)
  (ho:ops[i]?=some o) (hw:Ti o (yielded ops a.tmps)=true) (h:wl lv P o a V N) (hN:∀a' V',N a' V'->J V' (G (on b a' (.inRegion ops rest::k)) cs)):J V (G (on b a (.inRegion ops (i::rest)::k)) cs):=by
 have ki:((on b a (.inRegion ops (i::rest)::k)).kind==Vb)=false:=by simpa[on]using hb
 have ep:∀v,(on b a (.inRegion ops (i::rest)::k)).finish v=on b (a.put o.dst v) (.inRegion ops rest::k):=by
  intro v;rw[Bj,ho];rfl
 have Mt:∀v,Ua (G (on b a (.inRegion ops (i::rest)::k)) cs) v=G (on b (a.put o.dst v) (.inRegion ops rest::k)) cs:=λv=>by rw[<- ep v];rfl
 unfold wl at h;split at h
 ·rename_i ch x ay;obtain⟨c,Wg,sp,S,B,h1,h2,h3,h4,h5⟩:=h;have aP:∀w,stepG P main (G (on b a (.inRegion ops (i::rest)::k)) cs) w=.comm (G (on b a (.inRegion ops (i::rest)::k)) cs) #[scase c (a.eval x) (.tuple #[])] true .send w #[]:=λw=>by
   rw[s_op ho hw (.inr (by rw[ay];rfl))];have e:execOp a.eval o=pure (.comm #[scase c (a.eval x) (.tuple #[])] true .send):=by
    unfold execOp;simp only[ay];rw[h1];rfl
   rw[e];simp only[stepG.apply,TE,if_true,ki,T_,ac',ZS,ae_];rfl
  exact C.send _ _ c Wg sp S (a.eval x) (.tuple #[]) B h2 h3 rfl rfl (λw _=>aP w) h4 (by rw[Mt];exact hN _ _ h5)
 ·rename_i cl ay;obtain⟨tR,x,f,fa,ca,h1,h2,h3,h4⟩:=h;have aP:∀w,stepG P main (G (on b a (.inRegion ops (i::rest)::k)) cs) w=.spawn (G (on b (a.put o.dst undef) (.inRegion ops rest::k)) cs) (born P ⟨.fn (.func f) ca,fa++cl.args.map a.eval⟩) w #[]:=λw=>by
   rw[s_op ho hw (.inr (by rw[ay];rfl)),<- ep undef];have e:execOp a.eval o=(pure (.spawn ⟨.fn (.func f) ca,fa++cl.args.map a.eval⟩):Sem Next):=by
    unfold execOp;simp only[ay];unfold resolve;simp only[h1,h2];rfl
   rw[e];simp only[stepG.apply,TE,if_true,ki,T_,ac',ZS,ae_];simp[born,G,on];exact ae_ _ _
  rcases h4 with⟨c,Wg,Ss,sp,S,q1,q2,q3,q4,q5,q6,q7⟩|⟨c,Wg,Ss,q1,q2,q3,q4,q5,q6,q7,q8⟩
  ·exact(C.more tR).F' _ _ _ _ c Wg Ss sp S q1 h3 rfl q2 q3 q4 q5 (λw _=>aP w) rfl q6 (hN _ _ q7)
  ·exact(C.more tR).F_ _ _ _ _ c Wg Ss q1 h3 rfl q2 q3 q4 q5 q6 (λw _=>aP w) rfl q7 (hN _ _ q8)
 ·rename_i t ch ay;obtain⟨tR,c,Wg,Ss,d,el,ti,z,h1,h2,h3,h4,h5,h6,h7,h8⟩:=h;have aP:∀w,stepG P main (G (on b a (.inRegion ops (i::rest)::k)) cs) w=.comm (G (on b a (.inRegion ops (i::rest)::k)) cs) #[rcase c z] true (.recv true) w #[]:=λw=>by
   rw[s_op ho hw (.inr (by rw[ay];rfl))];have hu:(underlying t).run P w=.ok (.chan d el) w:=run_underlying h2 w;have hi:(typeInfo el).run P w=.ok ti w:=(by simp[typeInfo,h3]);have hz:(zeroValue el).run P w=.ok z w:=(by simp[zeroValue,hi,h4]);have vK:(zeroValue el).events P w #[]=#[]:=(by simp[zeroValue,hi,h4]);have e1:(execOp a.eval o).run P w=.ok (.comm #[rcase c z] true (.recv true)) w:=by
    unfold execOp;simp only[ay];rw[h1];simp[hu,hz,rcase]
   have e2:(execOp a.eval o).events P w #[]=#[]:=by
    unfold execOp;simp only[ay];rw[h1];simp[hu,hz,vK]
   simp only[stepG.apply,TE,if_true,ki,T_,e1,e2,ae_];rfl
  refine(C.more tR).recv _ _ c Wg Ss z h5 h6 rfl rfl (λw _=>aP w) (λi sp S v Im Ow r1 r2 r3 r4 r5=> ?_) λhS=> ?_
  ·rw[Mt];exact hN _ _ (h7 i sp S v Im Ow r1 r2 r3 r4 r5)
  ·rw[Mt];exact hN _ _ (h8 hS)
 ·exact h.elim
theorem wp_ops{lv:Bool}{P:SI}{r:Option Nat}{ops:Array Tx}{Q:Ex->Act->View->Prop}(l:List Nat):
  ∀(a:Act)(V:View),dq lv P r ops Q l a V->∀(main:Bool)(J:View->SG->Prop),Closed lv P main J->∀(b:Uf)(k:List WX)(cs:List Uf),b.kind≠ .early->b.roundOf=r->
   (∀e a' V',Q e a' V'->wi J b k cs e a' V')->J V (G (on b a (.inRegion ops l::k)) cs):=by
 induction l with
 |nil=>exactλa V h main J C b k cs _ _ hL=>C.idle rfl (λ_=>aq3) (hL _ _ _ h)
 |cons i rest ih=>
  intro a V h main J C b k cs hb hr hL;simp only[dq]at h;cases ho:ops[i]?with
  |none=>
   simp only[ho]at h;refine C.idle rfl (λw=>ac3 (by simp[ho])) ?_;simp only[ho,Option.bind_none,X7];exact ih a V h main J C b k cs hb hr hL
  |some o=>
   simp only[ho]at h;by_cases hw:Ti o (yielded ops a.tmps)=true
   ·simp only[hw,if_true]at h;rcases h with h|h
    rotate_left
    ·exact arM C hb ho hw h λa' V' h'=>ih a' V' h' main J C b k cs hb hr hL
    obtain⟨bB,ay⟩:=h;have ala:b.roundOf=none\/mL o.op=false:=hr▸bB;have ep:∀v,(on b a (.inRegion ops (i::rest)::k)).finish v=on b (a.put o.dst v) (.inRegion ops rest::k):=by
     intro v;rw[Bj,ho];rfl
    have ki:((on b a (.inRegion ops (i::rest)::k)).kind==Vb)=false:=(by simpa[on]using hb);refine C.step _ _ rfl λw fE=> ?_;obtain⟨es,w',V',h1,h2,h3⟩:=ay.runs fE;rw[s_op ho hw ala];rcases h3 with⟨nx,h3,hU⟩|⟨v,h3,hU⟩
    ·cases nx with
     |value v=>exact⟨_,w',seen P b.fn es,V',by rw[<- ep v];simp only[stepG.apply,TE,if_true,h3,h2,ki,T_];rfl,h1.seen P _,ih _ _ hU main J C b k cs hb hr hL⟩
     |skip=>exact⟨_,w',seen P b.fn es,V',by rw[<- ep undef];simp only[stepG.apply,TE,if_true,h3,h2,ki,T_];rfl,h1.seen P _,ih _ _ hU main J C b k cs hb hr hL⟩
     | «defer» d =>
      obtain⟨A2,hU⟩:=hU;have iV:({on b a (.inRegion ops (i::rest)::k)with defers:=d::a.defers}:Uf).finish undef=on b ({a with defers:=d::a.defers}.put o.dst undef) (.inRegion ops rest::k):=by
       have:=Bj b {a with defers:=d::a.defers} ops i rest k undef;rw[ho]at this;exact this
      exact⟨_,w',seen P b.fn es,V',by
       rw[<- iV];simp only[stepG.apply,TE,if_true,h3,h2,ki,T_];rfl,h1.seen P _,ih _ _ hU main J C b k cs hb hr hL⟩
     |enter f args=>
      refine⟨G (Frame.enter P f args .normal) (on b a (.inRegion ops (i::rest)::k)::cs),w',seen P b.fn es,V',by simp only[stepG.apply,TE,if_true,h3,h2,ki,T_];rfl,h1.seen P _,?_⟩;refine Body.runs hU main J C _ cs (λv aU hR=> ?_) (λch aU hR=> ?_)
      ·rw[ep];exact ih _ _ hR main J C b k cs hb hr hL
      ·exact hL _ _ _ hR _ rfl
     |round l f tmps assign body=>
      refine⟨G (Xe l f tmps assign body .normal) (on b a (.inRegion ops (i::rest)::k)::cs),w',seen P b.fn es,V',by simp only[stepG.apply,TE,if_true,h3,h2,ki,T_];rfl,h1.seen P _,?_⟩;refine hU main J C _ cs (λv aU hR=> ?_) (λch aU hR=> ?_)
      ·rw[ep];exact ih _ _ hR main J C b k cs hb hr hL
      ·exact hL _ _ _ hR _ rfl
     |_=>exact hU.elim
    ·refine⟨G ((on b a (.inRegion ops (i::rest)::k)).raise [{v,recovered:=false}]) cs,w',seen P b.fn es,V',by simp only[stepG.apply,TE,if_true,h3,h2,ki,T_];rfl,h1.seen P _,hL _ _ _ hU _ rfl⟩
   ·have oe:Ti o (yielded ops a.tmps)=false:=(by simpa using hw);simp only[oe,if_false,TR]at h;refine C.idle rfl (λw=>ac3 (by simp[ho,oe])) ?_;simp only[ho,Option.bind_some];exact ih _ _ h main J C b k cs hb hr hL
theorem wp_region{lv:Bool}{P:SI}{r:Option Nat}{id:Nat}{ops:Array Tx}{Q:Ex->Act->View->Prop}{a:Act}{V:View}(h:dq lv P r ops Q (S0 ops.size) a V):WP lv P r (.region id ops false) Q a V:=
 λmain J C b k cs hb hr hL=>C.idle rfl (λ_=>ac4) (wp_ops _ a V h main J C b k cs hb hr hL)
theorem O6{lv:Bool}{P:SI}{r:Option Nat}{id:Nat}{ops:Array Tx}{Q:Ex->Act->View->Prop}{a:Act}{V:View}(h:∀t,dq lv P r ops Q (VP (P.follows .mixedOrders) ops t) a V):WP lv P r (.region id ops true) Q a V:=
 λmain J C b k cs hb hr hL=>C.step _ _ rfl λw hw=>⟨_,_,#[],V,aqU,.draw hw _,wp_ops _ a V (h _) main J C b k cs hb hr hL⟩
def Ends (P:SI)(fn:YD)(R:Out->View->Prop):Ex->Act->View->Prop
 |.normal,a,V|.ret,a,V=>a.defers=[]/\∃v,aR P V (results fn a.tmps) (λx V'=>x=v/\V'=V) (λ_ _=>False)/\R (.ret v) V
 |.panic ch,a,V=>a.defers=[]/\R (.panic ch) V
 |_,_,_=>False
theorem P6{lv:Bool}{P:SI}{f:TS}{fn:YD}{c:Ub}{args:Array SQ}{kd:Xj}{V:View}{R:Out->View->Prop}(hk:kd≠ .early)(hf:P.funcs[f]?=some fn)(hb:fn.body=some c)
  (h:WP lv P none c (Ends P fn R) {tmps:=args++TP (fn.ntmps-args.size) undef,defers:=[]} V):Body lv P f args kd V R:=by
 intro main J C cs hR;let b:Uf:={(default:Uf)with fn:=f,kind:=kd,roundOf:=none};have vk:Frame.enter P f args kd=on b {tmps:=args++TP (fn.ntmps-args.size) undef,defers:=[]} [.code c]:=by
  simp[Frame.enter,on,hf,hb,b]
 rw[vk];refine h main J C b [] cs hk rfl λe a' V' q=> ?_;cases e with
 |normal=>
  obtain⟨hd,v,hs,hr⟩:=q;exact C.idle rfl (λw=>ED rfl) (hR _ _ _ hr ⟨rfl,hd,rfl,fn,hf,rfl,hs⟩)
 |ret=>
  obtain⟨hd,v,hs,hr⟩:=q;intro k;exact C.idle rfl (λw=>EE rfl) (hR _ _ _ hr ⟨rfl,hd,rfl,fn,hf,rfl,hs⟩)
 |panic ch=>
  obtain⟨hd,hr⟩:=q;intro todo _;exact hR _ _ _ hr ⟨rfl,hd,rfl,fn,hf,rfl⟩
 |exit id=>exact q.elim
 |goto l=>exact q.elim
open Go.Conc
inductive End where
 |exact
 |shut
 |opn (k:Nat)
 deriving DecidableEq
inductive AV where
 |val (x:SQ)
 |agg (l:List AV)
 |aO (l:List AV)
 |sl (n:Nat) (l:List AV) (e:End)
 |bz (id off n cap:Nat)
 |rp (l:List AV)
 |op (id off:Nat)
 |fn (f:Fn) (first cW:List AV)
 |db (t:TypeId) (x:AV)
 |mp (id:Nat)
structure Env where
 I:cE
 n:Nat
 blk:Nat->Nat
 room:Nat->Nat->Option Va×Nat
 fH:Nat->Nat
 fr:Nat->Option Obj
 main:Bool
structure Env.Le (E E':Env):Prop where
 I:∀b o v,E.I b o=some v->E'.I b o=some v
 n:E.n<=E'.n
 blk:∀k,k<E.n->E'.blk k=E.blk k
 fH:∀k,k<E.n->E.fH k<=E'.fH k
 room:∀k v,k<E.n->v<=E.fH k->E'.room k v=E.room k v
 fr:E'.fr=E.fr
 main:E'.main=E.main
theorem Env.Le.refl(E:Env):E.Le E:=⟨λ_ _ _ h=>h,SP _,λ_ _=>rfl,λ_ _=>SP _,λ_ _ _ _=>rfl,rfl,rfl⟩
theorem Env.Le.trans{E E' bT:Env}(h:E.Le E')(k:E'.Le bT):E.Le bT:=
 ⟨λb o v e=>k.I b o v (h.I b o v e),TV h.n k.n,λi hi=>(k.blk i (Te hi h.n)).trans (h.blk i hi),λi hi=>TV (h.fH i hi) (k.fH i (Te hi h.n)),
  λi v hi hv=>(k.room i v (Te hi h.n) (TV hv (h.fH i hi))).trans (h.room i v hi hv),k.fr.trans h.fr,k.main.trans h.main⟩
def qk (E:Env)(e:End)(a:Option Va)(n cap:Nat):Prop:=match e with
 |.exact=>cap=n
 |.shut=>True
 |.opn k=>k<E.n/\n<=E.fH k/\E.room k n=(a,cap)
inductive ap (E:Env):AV->SQ->Prop
 |val (x:SQ):ap E (.val x) x
 |agg {l:List AV} {cs:Array SQ} (hs:cs.size=l.length) (h:∀(i:Nat) a,l[i]?=some a->ap E a (cs.getD i undef)):ap E (.agg l) (.agg cs)
 |aO {l:List AV} {cs:Array SQ} (hs:cs.size=l.length) (h:∀(i:Nat) a,l[i]?=some a->ap E a (cs.getD i undef)):ap E (.aO l) (.tuple cs)
 |sl {n:Nat} {l:List AV} {e:End} (b o cap:Nat) (f:Nat->SQ) (hc:n<=cap) (he:qk E e (some ⟨b,o,none⟩) n cap)
   (h1:∀i,i<l.length->E.I b (o+i)=some (f i)) (h2:∀(i:Nat) x,l[i]?=some x->ap E x (f i)):ap E (.sl n l e) (.slice (some ⟨b,o,none⟩) n cap)
 |nil {e:End} {a:Option Va} (he:qk E e a 0 0):ap E (.sl 0 [] e) (.slice a 0 0)
 |bz {id off n cap cap':Nat} (hi:id<E.n) (dU:n<=cap'/\(n<=cap->cap=cap')/\(cap<n->cap'<=(E.room id 0).2)):ap E (.bz id off n cap) (.slice (some ⟨E.blk id,off,none⟩) n cap')
 |rp {l:List AV} (b o:Nat) (f:Nat->SQ) (h1:∀i,i<l.length->E.I b (o+i)=some (f i)) (h2:∀(i:Nat) x,l[i]?=some x->ap E x (f i)):ap E (.rp l) (.pointer (some ⟨b,o,none⟩))
 |op {id off:Nat} (hi:id<E.n):ap E (.op id off) (.pointer (some ⟨E.blk id,off,none⟩))
 |fn {f:Fn} {first cW:List AV} {fa ca:Array SQ} (dW:fa.size=first.length) (f_:ca.size=cW.length) (h1:∀(i:Nat) a,first[i]?=some a->ap E a (fa.getD i undef)) (h2:∀(i:Nat) a,cW[i]?=some a->ap E a (ca.getD i undef)):ap E (.fn f first cW) (.func f fa ca)
 |db {t:TypeId} {x:AV} {v:SQ} (h:ap E x v):ap E (.db t x) (.iface t v)
 |mp {id:Nat} (hi:id<E.n):ap E (.mp id) (.map (some (E.blk id)))
theorem qk.mono{E E':Env}(h:E.Le E'){e:End}{a:Option Va}{n cap:Nat}(k:qk E e a n cap):qk E' e a n cap:=by
 cases e with
 |exact=>exact k
 |shut=>trivial
 |opn i=>exact⟨Te k.1 h.n,TV k.2.1 (h.fH i k.1),by rw[h.room i n k.1 k.2.1];exact k.2.2⟩
theorem ap.mono{E E':Env}(h:E.Le E'){a:AV}{v:SQ}(d:ap E a v):ap E' a v:=by
 induction d with
 |val x=>exact .val x
 |agg hs _ ih=>exact .agg hs ih
 |aO hs _ ih=>exact .aO hs ih
 |sl b o cap f hc he h1 _ ih=>exact .sl b o cap f hc (he.mono h) (λi hi=>h.I _ _ _ (h1 i hi)) ih
 |nil he=>exact .nil (he.mono h)
 |bz hi dU=>rw[<- h.blk _ hi];exact .bz (Te hi h.n) ⟨dU.1,dU.2.1,λe=>by rw[h.room _ 0 hi (XY _)];exact dU.2.2 e⟩
 |rp b o f h1 _ ih=>exact .rp b o f (λi hi=>h.I _ _ _ (h1 i hi)) ih
 |op hi=>rw[<- h.blk _ hi];exact .op (Te hi h.n)
 |fn dW f_ _ _ ni lK=>exact .fn dW f_ ni lK
 |db _ ih=>exact .db ih
 |mp hi=>rw[<- h.blk _ hi];exact .mp (Te hi h.n)
def AV.leaf:AV->Bool
 |.agg _|.aO _=>false
 |.val x=>x.one
 |_=>true
inductive aa where
 |cells (l:List AV) (elem:TypeId)
 |part (p:Nat) (l:List AV) (elem:TypeId)
 |own (sz:Nat) (l:List AV) (elem:TypeId)
 |tail (n sz:Nat) (elem:TypeId)
 |obj (x:Obj)
 |iter (m since:Nat) (seen:Array Nat) (uA:Nat)
 |loop (r:Nat) (st:ad_) (pend:Option Ub) (fn:TS) (T:List (Nat×AV)) (nt:Nat) (ps:Array Tmp) (bO body:Ub) (df:Nat)
 |gone
 |main
def look:List (Nat×AV)->Nat->Option AV
 |[],_=>none
 |(k,a)::l,t=>if k=t then some a else look l t
def cu (E:Env)(T:List (Nat×AV))(tmps:Array SQ):Prop:=∀t a,look T t=some a->t<tmps.size/\ap E a (tmps.getD t undef)
theorem cu.mono{E E':Env}(h:E.Le E'){T:List (Nat×AV)}{tmps:Array SQ}(k:cu E T tmps):cu E' T tmps:=λt a e=>⟨(k t a e).1,(k t a e).2.mono h⟩
theorem cu.put{E:Env}{T:List (Nat×AV)}{tmps:Array SQ}(k:cu E T tmps){d:Nat}(hd:d<tmps.size){a:AV}{v:SQ}(hv:ap E a v):cu E ((d,a)::T) (tmps.setIfInBounds d v):=by
 intro t x e;simp only[look]at e;by_cases h:d=t
 ·subst h;rw[if_pos rfl]at e;cases e;exact⟨by simpa using hd,by simpa[SH,Tb hd]using hv⟩
 ·rw[if_neg h]at e;have:=k t x e;exact⟨by simpa using this.1,by simpa[SH,SW h]using this.2⟩
def cN (E:Env)(l:List AV)(cs:Array SQ):Prop:=cs.size=l.length/\∀(i:Nat) a,l[i]?=some a->ap E a (cs.getD i undef)
theorem cN.mono{E E':Env}(h:E.Le E'){l:List AV}{cs:Array SQ}(d:cN E l cs):cN E' l cs:=⟨d.1,λi a e=>(d.2 i a e).mono h⟩
def kx (E:Env)(l:List AV)(cs:Array SQ):Prop:=l.length<=cs.size/\∀(i:Nat) a,l[i]?=some a->ap E a (cs.getD i undef)
theorem kx.mono{E E':Env}(h:E.Le E'){l:List AV}{cs:Array SQ}(d:kx E l cs):kx E' l cs:=⟨d.1,λi a e=>(d.2 i a e).mono h⟩
theorem cN.p{E:Env}{l:List AV}{cs:Array SQ}(d:cN E l cs):kx E l cs:=⟨WL d.1.symm,d.2⟩
def bP (E:Env)(k:Nat):aa->Option Nat
 |.tail n _ _=>if(E.room k n).2=n then none else(E.room k n).1.map (·.block)
 |.gone|.main=>none
 |_=>some (E.blk k)
def fU (E:Env)(V:View)(k:Nat):aa->Prop
 |.cells l elem=>(∃cs,V.own (E.blk k)=some (.cells cs elem (0,0))/\cN E l cs)/\∀o,V.ab (E.blk k) o=none
 |.part p l elem=>(∃cs,V.own (E.blk k)=some (.cells cs elem (0,0))/\kx E l cs/\∀o,o<p->V.ab (E.blk k) o=cs[o]?)/\∀o,p<=o->V.ab (E.blk k) o=none
 |.own sz l elem=>(∃cs,V.own (E.blk k)=some (.cells cs elem (0,0))/\kx E l cs/\cs.size=(E.room k 0).2* sz)/\∀o,V.ab (E.blk k) o=none
 |.tail n sz elem=>E.fH k=n/\((E.room k n).2=n\/∃b cap cs,E.room k n=(some ⟨b,0,none⟩,cap)/\V.own b=some (.cells cs elem (0,0))/\cs.size=cap* sz/\n<cap/\∀o,n* sz<=o->V.ab b o=none)
 |.obj x=>V.own (E.blk k)=some x/\x.vO=false/\x.isChan=false/\∀o,V.ab (E.blk k) o=none
 |.iter m since seen uA=>m<E.n/\V.own (E.blk k)=some (.mapIter (some (E.blk m)) since seen uA)/\∀o,V.ab (E.blk k) o=none
 |.loop r st pend fn T nt ps bO body df=>(∃tmps,V.own (E.blk k)=some (.loop {state:=st,pending:=pend,fn,tmps,params:=ps,assign:=bO,body,defers:=E.blk df})/\tmps.size=nt/\cu E T tmps)/\df<E.n/\(∀o,V.ab (E.blk k) o=none)/\E.blk k=r
 |.gone=>True
 |.main=>E.main=true
structure Conc (E:Env)(V:View)(H:List aa):Prop where
 I:E.I=V.ab
 n:E.n=H.length
 obj:∀k x,H[k]?=some x->fU E V k x
 inj:∀i j x y b,H[i]?=some x->H[j]?=some y->bP E i x=some b->bP E j y=some b->i=j
 group:∀g,V.role.group=some g->V.own g≠none/\(∀o,V.ab g o=none)/\∀(k:Nat) x,H[k]?=some x->bP E k x≠some g
 chan:∀c,V.role.chan=some c->V.own c≠none/\(∀o,V.ab c o=none)/\∀(k:Nat) x,H[k]?=some x->bP E k x≠some c
 top:E.main=true->V.role=.plain/\V.deaf=0
 fr:∀b y,E.fr b=some y->V.own b=some y/\(∀o,V.ab b o=none)/\∀(k:Nat) x,H[k]?=some x->bP E k x≠some b
structure AS where
 T:List (Nat×AV)
 H:List aa
def AS.Le (s s':AS):Prop:=(∀t a,look s'.T t=some a->look s.T t=some a)/\s'.H=s.H
def AV.of:SQ->AV
 |.agg cs=> .agg (cs.toList.map λ|.slice none 0 0=> .sl 0 [] .exact|v=> .val v)
 |.slice none 0 0=> .sl 0 [] .exact
 |v=> .val v
def AV.qf:SQ->AV
 |.slice none 0 0=> .sl 0 [] .exact
 |v=> .val v
theorem JL(E:Env)(v:SQ):ap E (AV.qf v) v:=by
 unfold AV.qf;split
 ·exact .nil rfl
 ·exact .val _
theorem tp(E:Env)(v:SQ):ap E (AV.of v) v:=by
 unfold AV.of;split
 ·rename_i cs;refine .agg (by simp) λi a h=> ?_;rw[To]at h;obtain⟨x,hx,rfl⟩:=Ts.1 h;have:cs[i]?=some x:=by simpa using hx
  rw[SH,this];exact JL E x
 ·exact .nil rfl
 ·exact .val _
def AS.ev (s:AS):Tj->Option AV
 |.tmp t=>look s.T t
 |.const v=>some (AV.of v)
 |.func f=>some (.fn (.func f) [] [])
 |.global _=>none
theorem ap.ev{E:Env}{s:AS}{a:Act}(k:cu E s.T a.tmps){x:Tj}{av:AV}(h:s.ev x=some av):ap E av (a.eval x):=by
 cases x with
 |tmp t=>exact(k t av h).2
 |const v=>cases h;exact tp E v
 |func f=>cases h;exact .fn rfl rfl (by simp) (by simp)
 |global g=>cases h
theorem fU.Ct{E:Env}{V:View}{k:Nat}{x:aa}(h:fU E V k x){b:Nat}(hb:bP E k x=some b):∃y,V.own b=some y:=by
 cases x with
 |cells l el=>cases hb;obtain⟨⟨cs,h1,_⟩,_⟩:=h;exact⟨_,h1⟩
 |part p l el=>cases hb;obtain⟨⟨cs,h1,_⟩,_⟩:=h;exact⟨_,h1⟩
 |own p l el=>cases hb;obtain⟨⟨cs,h1,_⟩,_⟩:=h;exact⟨_,h1⟩
 |tail n sz el=>
  obtain⟨hv,h|⟨b',cap,cs,h1,h2,h3,h4,h5⟩⟩:=h
  ·simp only[bP,h,if_true]at hb;cases hb
  ·simp only[bP,h1]at hb;rw[if_neg (by omega)]at hb;cases hb;exact⟨_,h2⟩
 |obj x=>cases hb;exact⟨_,h.1⟩
 |iter m since seen uA=>cases hb;exact⟨_,h.2.1⟩
 |loop=>cases hb;obtain⟨⟨tmps,h1,_⟩,_⟩:=h;exact⟨_,h1⟩
 |gone=>cases hb
 |main=>cases hb
theorem P4{E E':Env}(hl:E.Le E'){k:Nat}(hk:k<E.n){x:aa}{V:View}(h:fU E V k x):bP E' k x=bP E k x:=by
 cases x with
 |tail n sz el=>simp only[bP];rw[hl.room k n hk (WL h.1.symm)]
 |gone=>rfl
 |main=>rfl
 |_=>simp only[bP,hl.blk k hk]
theorem fU.mono{E E':Env}{V V':View}{k:Nat}{x:aa}(h:fU E V k x)(hl:E.Le E')(hk:k<E.n)(A8:E'.fH k=E.fH k)
  (ho:∀b y,bP E k x=some b->V.own b=some y->V'.own b=some y) (hi:∀b,bP E k x=some b->∀o,V'.ab b o=V.ab b o):fU E' V' k x:=by
 cases x with
 |cells l el=>
  obtain⟨⟨cs,h1,h2⟩,h3⟩:=h;simp only[fU,hl.blk k hk];exact⟨⟨cs,ho _ _ rfl h1,h2.mono hl⟩,λo=>(hi _ rfl o).trans (h3 o)⟩
 |part p l el=>
  obtain⟨⟨cs,h1,h2,h4⟩,h3⟩:=h;simp only[fU,hl.blk k hk];exact⟨⟨cs,ho _ _ rfl h1,h2.mono hl,λo hp=>(hi _ rfl o).trans (h4 o hp)⟩,λo hp=>(hi _ rfl o).trans (h3 o hp)⟩
 |own sz l el=>
  obtain⟨⟨cs,h1,h2,h4⟩,h3⟩:=h;simp only[fU,hl.blk k hk,hl.room k 0 hk (XY _)];exact⟨⟨cs,ho _ _ rfl h1,h2.mono hl,h4⟩,λo=>(hi _ rfl o).trans (h3 o)⟩
 |tail n sz el=>
  obtain⟨hv,h⟩:=h;simp only[fU,A8,hl.room k n hk (WL hv.symm)];refine⟨hv,?_⟩;rcases h with h|⟨b',cap,cs,h1,h2,h3,h4,h5⟩
  ·exact .inl h
  ·have hb:bP E k (.tail n sz el)=some b':=(by simp only[bP,h1];rw[if_neg (by omega)];rfl);exact .inr ⟨b',cap,cs,h1,ho _ _ hb h2,h3,h4,λo hm=>(hi _ hb o).trans (h5 o hm)⟩
 |obj x=>
  obtain⟨h1,h2,h4,h3⟩:=h;simp only[fU,hl.blk k hk];exact⟨ho _ _ rfl h1,h2,h4,λo=>(hi _ rfl o).trans (h3 o)⟩
 |iter m since seen uA=>
  obtain⟨h0,h1,h2⟩:=h;simp only[fU,hl.blk k hk,hl.blk m h0];exact⟨Te h0 hl.n,ho _ _ rfl h1,λo=>(hi _ rfl o).trans (h2 o)⟩
 |loop r st pend fn T nt ps bO body df=>
  obtain⟨⟨tmps,h1,h2,h3⟩,h4,h5,h6⟩:=h;simp only[fU,hl.blk k hk,hl.blk df h4];exact⟨⟨tmps,ho _ _ rfl h1,h2,h3.mono hl⟩,Te h4 hl.n,λo=>(hi _ rfl o).trans (h5 o),h6⟩
 |gone=>trivial
 |main=>exact hl.main.trans h
theorem Conc.iQ{E E':Env}{V V':View}{H H':List aa}(hc:Conc E V H)(k:Nat)(x':aa)(hle:E.Le E')(hI:E'.I=V'.ab)(hn:E'.n=H'.length)
  (hH:∀(j:Nat) y,H'[j]?=some y->(j=k/\y=x')\/(j≠k/\H[j]?=some y)) (hr:V'.role=V.role)
  (A8:∀j,j≠k->j<E.n->E'.fH j=E.fH j)
  (ho:∀b y,(∀x,H[k]?=some x->bP E k x≠some b)->V.own b=some y->V'.own b=some y/\∀o,V'.ab b o=V.ab b o)
  (hx:fU E' V' k x') (hb:∀b,bP E' k x'=some b->(∃x,H[k]?=some x/\bP E k x=some b)\/V.own b=none) (bB:V'.deaf=V.deaf:=by rfl):Conc E' V' H':=by
 have hlt:∀(j:Nat) y,H[j]?=some y->j<E.n:=λj y h=>by rw[hc.n];exact(SN.1 h).1
 have cR:∀(j:Nat) y b,H[j]?=some y->bP E' j y=some b->bP E j y=some b:=λj y b h e=>by rw[<- P4 hle (hlt j y h) (hc.obj j y h)];exact e
 have aaQ:∀(j:Nat) y b,j≠k->H[j]?=some y->bP E j y=some b->∀x,H[k]?=some x->bP E k x≠some b:=λj y b hj h1 h2 x h3 h4=>hj (hc.inj j k y x b h1 h3 h2 h4);have hg:∀(j:Nat) y,H'[j]?=some y->∀g,V.own g≠none->(∀(i:Nat) x,H[i]?=some x->bP E i x≠some g)->bP E' j y≠some g:=λj y h g pV fD e=>by
  rcases hH j y h with⟨rfl,rfl⟩|⟨hj,h⟩
  ·rcases hb g e with⟨x,h1,h2⟩|h2
   ·exact fD _ x h1 h2
   ·exact pV h2
  ·exact fD j y h (cR j y g h e)
 have hk:∀g,V.own g≠none->(∀(i:Nat) x,H[i]?=some x->bP E i x≠some g)->V'.own g≠none/\∀o,V'.ab g o=V.ab g o:=λg pV fD=>by
  cases e:V.own g with
  |none=>exact absurd e pV
  |some y=>
   have:=ho g y (λx hx=>fD k x hx) e;exact⟨by rw[this.1];simp,this.2⟩
 refine⟨hI,hn,λj y h=> ?_,λi j y z b h1 h2 e1 e2=> ?_,λg aau=> ?_,λc ff=> ?_,λhm=>(by rw[hr,bB];exact hc.top (by rw[<- hle.main];exact hm)),λb y g_=> ?_⟩
 ·rcases hH j y h with⟨rfl,rfl⟩|⟨hj,h⟩
  ·exact hx
  ·have l8:=hc.obj j y h;refine l8.mono hle (hlt j y h) (A8 j hj (hlt j y h)) (λb z kT hz=> ?_) (λb kT o=> ?_)
   ·exact(ho b z (aaQ j y b hj h kT) hz).1
   ·obtain⟨z,hz⟩:=l8.Ct kT;exact(ho b z (aaQ j y b hj h kT) hz).2 o
 ·have new:∀(j:Nat) y,j≠k->H[j]?=some y->bP E' j y=some b->bP E' k x'≠some b:=λj y hj h e e'=>by
   have e:=cR j y b h e;rcases hb b e' with⟨x,DX,hx2⟩|h1
   ·exact hj (hc.inj j k y x b h DX e hx2)
   ·obtain⟨q,hq⟩:=(hc.obj j y h).Ct e;rw[h1]at hq;cases hq
  rcases hH i y h1 with⟨rfl,rfl⟩|⟨hi,h1⟩<;>rcases hH j z h2 with⟨rfl,rfl⟩|⟨hj,h2⟩
  ·rfl
  ·exact absurd e1 (new j z hj h2 e2)
  ·exact absurd e2 (new i y hi h1 e1)
  ·exact hc.inj i j y z b h1 h2 (cR i y b h1 e1) (cR j z b h2 e2)
 ·rw[hr]at aau;obtain⟨h0,h1,h2⟩:=hc.group g aau;exact⟨(hk g h0 h2).1,λo=>((hk g h0 h2).2 o).trans (h1 o),λj y h=>hg j y h g h0 h2⟩
 ·rw[hr]at ff;obtain⟨h0,h1,h2⟩:=hc.chan c ff;exact⟨(hk c h0 h2).1,λo=>((hk c h0 h2).2 o).trans (h1 o),λj y h=>hg j y h c h0 h2⟩
 ·rw[hle.fr]at g_;obtain⟨h0,h1,h2⟩:=hc.fr b y g_;have Gb:V.own b≠none:=by rw[h0];simp
  exact⟨(ho b y (λx hx=>h2 k x hx) h0).1,λo=>((hk b Gb h2).2 o).trans (h1 o),λj z h=>hg j z h b Gb h2⟩
theorem lM{α:Type}{H:List α}{k:Nat}{x':α}:∀(j:Nat) y,(H.set k x')[j]?=some y->(j=k/\y=x')\/(j≠k/\H[j]?=some y):=λj y h=>by
 by_cases hj:j=k
 ·subst hj;rw[List.getElem?_set_self']at h;cases e:H[j]?with
  |none=>rw[e]at h;cases h
  |some z=>rw[e]at h;exact .inl ⟨rfl,by simpa using h.symm⟩
 ·rw[Uc (Ne.symm hj)]at h;exact .inr ⟨hj,h⟩
theorem Ec{α:Type}{H:List α}{x':α}:∀(j:Nat) y,(H++[x'])[j]?=some y->(j=H.length/\y=x')\/(j≠H.length/\H[j]?=some y):=λj y h=>by
 by_cases hk:j<H.length
 ·rw[SY hk]at h;exact .inr ⟨by omega,h⟩
 ·rw[S_ (by omega)]at h;have aJ:j-H.length=0:=by
   have:=(SN.1 h).1;simpa using this
  rw[aJ]at h;exact .inl ⟨by omega,by simpa using h.symm⟩
theorem Conc.jv{E:Env}{V:View}{H:List aa}(hc:Conc E V H){k:Nat}{x:aa}(hk:H[k]?=some x){b:Nat}(hb:bP E k x=some b):V.role.group≠some b/\V.role.chan≠some b:=
 ⟨λe=>(hc.group b e).2.2 k x hk hb,λe=>(hc.chan b e).2.2 k x hk hb⟩
theorem Conc.abh{E:Env}{V:View}{H:List aa}(hc:Conc E V H){b o:Nat}{v:SQ}(h:E.I b o=some v):V.role.group≠some b/\V.role.chan≠some b:=
 ⟨λe=>(by have:=(hc.group b e).2.1 o;rw[<- hc.I,h]at this;cases this),λe=>(by have:=(hc.chan b e).2.1 o;rw[<- hc.I,h]at this;cases this)⟩
open Go.Conc
def AS.put (s:AS)(dst:Option Nat)(av:AV):AS:=match dst with
 |some d=>⟨(d,av)::s.T,s.H⟩
 |none=>s
theorem cu.ii{E:Env}{s:AS}{a:Act}(k:cu E s.T a.tmps){dst:Option Nat}(hd:∀d,dst=some d->d<a.tmps.size){av:AV}{v:SQ}(hv:ap E av v):cu E (s.put dst av).T (a.put dst v).tmps:=by
 cases dst with
 |none=>exact k
 |some d=>exact cu.put k (hd d rfl) hv
theorem fx(s:AS)(dst:Option Nat)(av:AV):(s.put dst av).H=s.H:=by cases dst<;>rfl
theorem eo(a:Act)(dst:Option Nat)(v:SQ):(a.put dst v).tmps.size=a.tmps.size:=by cases dst<;>simp[X7]
theorem put_defers(a:Act)(dst:Option Nat)(v:SQ):(a.put dst v).defers=a.defers:=by cases dst<;>rfl
structure Kept (E E':Env)(V V':View)(a a':Act):Prop where
 le:E.Le E'
 size:a'.tmps.size=a.tmps.size
 defers:a'.defers=a.defers
 role:V'.role=V.role
 deaf:V'.deaf=V.deaf
def Step (lv:Bool)(P:SI)(r:Option Nat)(o:Tx)(s:AS)(next:AS->Prop)(bad:AV->AS->Prop):Prop:=
 ∀(E:Env)(V:View)(a:Act)(N:Act->View->Prop)(Q:Ex->Act->View->Prop),Conc E V s.H->cu E s.T a.tmps->(∀d,o.dst=some d->d<a.tmps.size)->(r=none\/mL o.op=false)->
  (∀E' V' a' s',Kept E E' V V' a a'->Conc E' V' s'.H->cu E' s'.T a'.tmps->next s'->N a' V')->
  (∀E' V' s' pv v,Kept E E' V V' a a->Conc E' V' s'.H->cu E' s'.T a.tmps->ap E' pv v->bad pv s'->Q (.panic [{v,recovered:=false}]) a V')->xL lv P r o a V N Q
def dF (lv:Bool)(P:SI)(r:Option Nat)(o:Tx)(s:AS)(av:AV):Prop:=
 ∀(E:Env)(V:View)(a:Act)(N:Act->View->Prop)(Q:Ex->Act->View->Prop),Conc E V s.H->cu E s.T a.tmps->(r=none\/mL o.op=false)->
  (∀E' V' v,E.Le E'->V'.role=V.role->V'.deaf=V.deaf->Conc E' V' s.H->ap E' av v->N (a.put o.dst v) V')->xL lv P r o a V N Q
section
variable {lv:Bool}{P:SI}{r:Option Nat}{o:Tx}{s:AS}{next:AS->Prop}{bad:AV->AS->Prop}
theorem Step.mono{next':AS->Prop}{PX:AV->AS->Prop}(h:Step lv P r o s next bad)(hn:∀s,next s->next' s)(hb:∀c s,bad c s->PX c s):Step lv P r o s next' PX:=
 λE V a N Q h1 h2 h3 h4 h5 h6=>h E V a N Q h1 h2 h3 h4 (λE' V' a' s' x1 x2 x3 x4=>h5 E' V' a' s' x1 x2 x3 (hn _ x4)) (λE' V' s' pv v x1 x2 x3 x4 x5=>h6 E' V' s' pv v x1 x2 x3 x4 (hb _ _ x5))
theorem jb{av:AV}(h:∀(E:Env)(V:View)(a:Act),Conc E V s.H->cu E s.T a.tmps->aR P V (execOp a.eval o) (λnx V'=>V'=V/\∃v,nx=.value v/\ap E av v) (λ_ _=>False)):dF lv P r o s av:=by
 intro E V a N Q hc ht bB h1;refine⟨bB,(h E V a hc ht).mono (λnx V' hx=> ?_) (λ_ _ hx=>hx.elim)⟩;obtain⟨rfl,v,rfl,hv⟩:=hx;exact h1 E V' v (Env.Le.refl E) rfl rfl hc hv
theorem sD{av:AV}(h:∀(E:Env)(V:View)(a:Act),Conc E V s.H->cu E s.T a.tmps->∃v,execOp a.eval o=.pure (.value v)/\ap E av v):dF lv P r o s av:=
 jb (λE V a hc ht=>by
  obtain⟨v,h1,h2⟩:=h E V a hc ht;rw[h1];exact cM ⟨rfl,v,rfl,h2⟩)
theorem dF.step{av:AV}(h:dF lv P r o s av)(hn:next (s.put o.dst av)):Step lv P r o s next bad:=by
 intro E V a N Q hc ht hd bB h1 _;refine h E V a N Q hc ht bB λE' V' v hle cp fg bp hv=> ?_;exact h1 E' V' (a.put o.dst v) (s.put o.dst av) ⟨hle,eo _ _ _,put_defers _ _ _,cp,fg⟩ (by rw[fx];exact bp) ((ht.mono hle).ii hd hv) hn
theorem acS{x:Tj}{av:AV}(ho:o.op=.move x\/o.op=.assign x)(hx:s.ev x=some av):dF lv P r o s (av):=
 sD (λE V a hc ht=>⟨a.eval x,by unfold execOp;rcases ho with ho|ho<;>rw[ho]<;>rfl,ap.ev ht hx⟩)
theorem aqk{c x y:Tj}{b:Bool}{av aw:AV}(ho:o.op=.pick c x y)(hc:s.ev c=some (.val (.bool b)))(hx:s.ev x=some av)(hy:s.ev y=some aw):dF lv P r o s ((if b then av else aw)):=
 sD (λE V a jm ht=>by
  have h1:=ap.ev ht hc;generalize hv:a.eval c=v at h1;cases h1;refine⟨if b then a.eval x else a.eval y,by unfold execOp;rw[ho];simp only[hv];cases b<;>rfl,?_⟩;cases b
  ·exact ap.ev ht hy
  ·exact ap.ev ht hx)
def mz (op:Wc)(k:T8)(x y:Int):Option SQ:=match op with
 |.add=>some (.int k (k.wrap (x+y)))
 |.sub=>some (.int k (k.wrap (x-y)))
 |.mul=>some (.int k (k.wrap (x* y)))
 |.eql=>some (.bool (x==y))
 |.neq=>some (.bool (x !=y))
 |.lss=>some (.bool (x<y))
 |.leq=>some (.bool (x<=y))
 |.gtr=>some (.bool (x>y))
 |.geq=>some (.bool (x>=y))
 |.and=>some (.int k (k.wrap (Ul k.bits x&&&Ul k.bits y).toNat))
 |.or=>some (.int k (k.wrap (Ul k.bits x|||Ul k.bits y).toNat))
 |.xor=>some (.int k (k.wrap (Ul k.bits x^^^Ul k.bits y).toNat))
 |.quo=>if y=0 then none else some (.int k (k.wrap (x.tdiv y)))
 |.rem=>if y=0 then none else some (.int k (x.tmod y))
 |_=>none
def BB (op:Wc)(k:T8)(x y:Int):Option SQ:=if y<0 then none else match op with
 |.shl=>some (.int k (k.wrap (x* 2^(min y.toNat k.bits))))
 |.shr=>some (.int k (x.fdiv (2^(min y.toNat k.bits))))
 |_=>none
def nj:Wc->Bool
 |.shl|.shr=>true
 |_=>false
theorem agQ{op:Wc}{k:T8}{x y:Int}{v:SQ}{t:TypeId}(h:mz op k x y=some v):binOp op t (.int k x) (.int k y)=.pure v:=by
 cases op<;>simp only[mz,Tl,reduceCtorEq]at h<;>try(subst h;simp[binOp,avz,Op.intCmp,Op.intBits];rfl)
 ·split at h
  ·cases h
  ·rename_i hy;simp only[Tl]at h;subst h;simp[binOp,au_,hy];rfl
 ·split at h
  ·cases h
  ·rename_i hy;simp only[Tl]at h;subst h;simp[binOp,au_,hy];rfl
theorem ary{op:Wc}{k j:T8}{x y:Int}{v:SQ}{t:TypeId}(h:BB op k x y=some v):binOp op t (.int k x) (.int j y)=.pure v:=by
 unfold BB at h;split at h
 ·cases h
 ·rename_i hy;cases op<;>simp only[Tl,reduceCtorEq]at h
  ·subst h;simp[binOp,avn,hy];rfl
  ·subst h;simp[binOp,avn,hy];rfl
theorem QS{op:Wc}{t:TypeId}{x y:Tj}{j k:T8}{a b:Int}:eqGuard op t x y (.int j a) (.int k b)=.pure ():=by
 unfold eqGuard;cases op<;>rfl
theorem apU{op:Wc}{xt yt:TypeId}{x y:Tj}{k:T8}{m n:Int}{v:SQ}(ho:o.op=.binOp op xt x y yt)(hx:s.ev x=some (.val (.int k m)))(hy:s.ev y=some (.val (.int k n)))(hv:mz op k m n=some v):dF lv P r o s ((.val v)):=
 sD (λE V a jm ht=>by
  have h1:=ap.ev ht hx;have h2:=ap.ev ht hy;generalize p8:a.eval x=v1 at h1;generalize ue:a.eval y=v2 at h2;cases h1;cases h2;refine⟨v,?_,.val v⟩;unfold execOp;rw[ho];simp only[p8,ue,QS,agQ hv];rfl)
theorem aql{op:Wc}{xt yt:TypeId}{x y:Tj}{k j:T8}{m n:Int}{v:SQ}(ho:o.op=.binOp op xt x y yt)(hx:s.ev x=some (.val (.int k m)))(hy:s.ev y=some (.val (.int j n)))(hv:BB op k m n=some v):dF lv P r o s ((.val v)):=
 sD (λE V a jm ht=>by
  have h1:=ap.ev ht hx;have h2:=ap.ev ht hy;generalize p8:a.eval x=v1 at h1;generalize ue:a.eval y=v2 at h2;cases h1;cases h2;refine⟨v,?_,.val v⟩;unfold execOp;rw[ho];simp only[p8,ue,QS,ary hv];rfl)
theorem aqj{t:TypeId}{x:Tj}{b:Bool}(ho:o.op=.unOp .not t x)(hx:s.ev x=some (.val (.bool b))):dF lv P r o s ((.val (.bool !b))):=
 sD (λE V a jm ht=>by
  have h1:=ap.ev ht hx;generalize p8:a.eval x=v1 at h1;cases h1;exact⟨_,by unfold execOp;rw[ho];simp only[p8];rfl,.val _⟩)
theorem aqg{t:TypeId}{x:Tj}{k:T8}{n:Int}(ho:o.op=.unOp .neg t x)(hx:s.ev x=some (.val (.int k n))):dF lv P r o s (.val (.int k (k.wrap (0-n)))):=
 sD (λE V a jm ht=>by
  have h1:=ap.ev ht hx;generalize p8:a.eval x=v1 at h1;cases h1;exact⟨_,by unfold execOp;rw[ho];simp only[p8];rfl,.val _⟩)
theorem ap0{x:Tj}{i:Nat}{l:List AV}{av:AV}(ho:o.op=.extract x i)(hx:s.ev x=some (.aO l))(hi:l[i]?=some av):dF lv P r o s (av):=
 sD (λE V a jm ht=>by
  have h1:=ap.ev ht hx;generalize p8:a.eval x=v1 at h1;cases h1 with
  |aO hs h=>
   rename_i cs;have hlt:i<cs.size:=(by rw[hs];exact(SN.1 hi).1);refine⟨cs[i],?_,?_⟩
   ·unfold execOp;rw[ho];simp only[p8,Instr.extract,SJ hlt];rfl
   ·have:=h i av hi;rwa [SH,SJ hlt]at this)
end
theorem add_plain(b o n:Nat):(⟨b,o,none⟩:Va).add n=⟨b,o+n,none⟩:=by
 unfold avt;split
 ·rename_i h;subst h;rfl
 ·rfl
def AS.at (s:AS):AV->Option (List AV)
 |.rp l=>some l
 |.op id off=>match s.H[id]?with
  |some (.cells l _)=>some (l.drop off)
  |some (.part _ l _)=>some (l.drop off)
  |some (.own _ l _)=>some (l.drop off)
  |_=>none
 |_=>none
def AV.shift (n:Nat):AV->Option AV
 |.rp l=>if n<=l.length then some (.rp (l.drop n))else none
 |.op id off=>some (.op id (off+n))
 |_=>none
theorem Conc.at{E:Env}{V:View}{s:AS}(hc:Conc E V s.H){p:AV}{v:SQ}(hd:ap E p v){l:List AV}(h:s.at p=some l):
  ∃(b o:Nat)(f:Nat->SQ),v=.pointer (some ⟨b,o,none⟩)/\(∀i,i<l.length->V.get b (o+i)=some (f i))/\(0<l.length->V.role.group≠some b)/\∀(i:Nat) x,l[i]?=some x->ap E x (f i):=by
 cases hd with
 |rp b o f h1 h2=>
  cases h;exact⟨b,o,f,rfl,λi hi=>by unfold View.get;rw[<- hc.I,h1 i hi],λhp=>(hc.abh (h1 0 hp)).1,h2⟩
 |op hi=>
  rename_i id off;simp only[AS.at]at h;cases hk:s.H[id]?with
  |none=>rw[hk]at h;cases h
  |some ob=>
   rw[hk]at h;cases ob with
   |cells l' el=>
    cases h;obtain⟨⟨cs,ho,hs,bt⟩,l6⟩:=hc.obj id _ hk;refine⟨E.blk id,off,λi=>cs.getD (off+i) undef,rfl,λi hi=> ?_,λ_=>(hc.jv hk rfl).1,λi x hx=> ?_⟩
    ·unfold View.get;rw[l6,ho];simp only[Ur]at hi;have hlt:off+i<cs.size:=(by omega);simp only[SH,SJ hlt,S7]
    ·rw[Us]at hx;exact bt _ _ hx
   |part p l' el=>
    cases h;obtain⟨⟨cs,ho,⟨hs,bt⟩,mH⟩,l6⟩:=hc.obj id _ hk;refine⟨E.blk id,off,λi=>cs.getD (off+i) undef,rfl,λi hi=> ?_,λ_=>(hc.jv hk rfl).1,λi x hx=> ?_⟩
    ·simp only[Ur]at hi;have hlt:off+i<cs.size:=(by omega);unfold View.get;by_cases hp:off+i<p
     ·rw[mH _ hp];simp only[SH,SJ hlt,S7]
     ·rw[l6 _ (by omega),ho];simp only[SH,SJ hlt,S7]
    ·rw[Us]at hx;exact bt _ _ hx
   |own sz l' el=>
    cases h;obtain⟨⟨cs,ho,⟨hs,bt⟩,_⟩,l6⟩:=hc.obj id _ hk;refine⟨E.blk id,off,λi=>cs.getD (off+i) undef,rfl,λi hi=> ?_,λ_=>(hc.jv hk rfl).1,λi x hx=> ?_⟩
    ·simp only[Ur]at hi;have hlt:off+i<cs.size:=(by omega);unfold View.get;rw[l6,ho];simp only[SH,SJ hlt,S7]
    ·rw[Us]at hx;exact bt _ _ hx
   |_=>cases h
 |_=>cases h
theorem ap.shift{E:Env}{p q:AV}{v:SQ}(hd:ap E p v){n:Nat}(h:p.shift n=some q):∃b o,v=.pointer (some ⟨b,o,none⟩)/\ap E q (.pointer (some ⟨b,o+n,none⟩)):=by
 cases hd with
 |rp b o f h1 h2=>
  simp only[AV.shift]at h;split at h
  ·rename_i hn;cases h;refine⟨b,o,rfl,.rp b (o+n) (λi=>f (n+i)) (λi hi=> ?_) (λi x hx=> ?_)⟩
   ·simp only[Ur]at hi;rw[U7];exact h1 _ (by omega)
   ·rw[Us]at hx;exact h2 _ _ hx
  ·cases h
 |op hi=>cases h;exact⟨_,_,rfl,.op hi⟩
 |_=>cases h
section
variable {P:SI}{V:View}{α:Type}{K:α->View->Prop}{Kp:SQ->View->Prop}
theorem ez{t:TypeId}{d:TypeDesc}{k:TypeDesc->Sem α}(h:P.underlying t=some d)(hk:aR P V (k d) K Kp):aR P V (underlying t>>=k) K Kp:=by
 unfold underlying;refine az (az (ri (cM ?_)));rw[h];exact au hk
theorem zy{t:TypeId}{i:Wo}{k:Wo->Sem α}(h:P.info? t=some i)(hk:aR P V (k i) K Kp):aR P V (typeInfo t>>=k) K Kp:=by
 unfold typeInfo;refine az (az (ri (cM ?_)));rw[h];exact au hk
theorem kq{t:TypeId}{i:Wo}{k:Nat->Sem α}(h:P.info? t=some i)(hk:aR P V (k i.size) K Kp):aR P V (sizeOf t>>=k) K Kp:=by
 refine az ?_;unfold sizeOf;exact zy h (au hk)
def TypeDesc.agg:TypeDesc->Bool
 |.struct _|.array _ _=>true
 |_=>false
theorem EG{t:TypeId}{d:TypeDesc}{k:Bool->Sem α}(h:P.underlying t=some d)(hk:aR P V (k (TypeDesc.agg d)) K Kp):aR P V (isAgg t>>=k) K Kp:=by
 refine az ?_;unfold isAgg;refine ez h ?_;cases d<;>exact au hk
theorem arl{b o:Nat}{v:SQ}{k:SQ->Sem α}(hg:V.role.group≠some b)(e:V.get b o=some v)(hk:aR P V (k v) K Kp):aR P V (load ⟨b,o,none⟩>>=k) K Kp:=
 az (Ou e (.inl hg) (cM hk))
theorem adg{b o:Nat}{f:Nat->SQ}{K:Array SQ->View->Prop}:∀(n i:Nat)(acc:Array SQ),(0<n->V.role.group≠some b)->(∀j,j<n->V.get b (o+(i+j))=some (f (i+j)))->
  K (acc++((S0 n).map λj=>f (i+j)).toArray) V->aR P V (loadCellsFrom ⟨b,o,none⟩ i n acc) K Kp
 |0,i,acc,_,_,h=>au (by simpa using h)
 |n+1,i,acc,hg,he,h=>by
  have h0:=he 0 (by omega);unfold loadCellsFrom;rw[add_plain];refine arl (hg (by omega)) h0 ?_;refine adg n (i+1) _ (λ_=>hg (by omega)) (λj hj=>by have:=he (j+1) (by omega);rwa [show i+(j+1)=i+1+j by omega]at this) ?_;have e:(acc.push (f (i+0))++((S0 n).map λj=>f (i+1+j)).toArray)=acc++((S0 (n+1)).map λj=>f (i+j)).toArray:=by
   rw[List.range_succ_eq_map];apply VH;simp[Yy,U7,apT 1]
  rw[e];exact h
theorem Bx{b o n:Nat}{f:Nat->SQ}(hg:0<n->V.role.group≠some b){K:Array SQ->View->Prop}(he:∀j,j<n->V.get b (o+j)=some (f j))(h:K ((S0 n).map f).toArray V):aR P V (loadCells ⟨b,o,none⟩ n) K Kp:=
 adg n 0 #[] hg (λj hj=>by simpa using he j hj) (by simpa using h)
end
theorem lx{α β:Type}{x:Option α}{f:α->β}{y:β}(h:x.map f=some y):∃a,x=some a/\f a=y:=Ts.1 h
def Ty (P:SI)(t:TypeId):Option (Nat×Bool):=(P.info? t).bind λi=>(P.underlying t).map λd=>(i.size,TypeDesc.agg d)
theorem Ty.out{P:SI}{t:TypeId}{n:Nat}{g:Bool}(h:Ty P t=some (n,g)):∃i d,P.info? t=some i/\P.underlying t=some d/\i.size=n/\TypeDesc.agg d=g:=by
 unfold Ty at h;obtain⟨i,h1,h2⟩:=Tf.1 h;obtain⟨d,h3,h4⟩:=lx h2;cases h4;exact⟨i,d,h1,h3,rfl,rfl⟩
theorem JN{E:Env}{l:List AV}{f:Nat->SQ}{n:Nat}(hn:n<=l.length)(h:∀(i:Nat) x,l[i]?=some x->ap E x (f i)):ap E (.agg (l.take n)) (.agg ((S0 n).map f).toArray):=by
 refine .agg (by simp;omega) λi x hx=> ?_;rw[Uj]at hx;split at hx
 ·rename_i hi;have:=h i x hx;simpa[SH,hi]using this
 ·cases hx
def AV.row:AV->Option (Nat×AV)
 |.sl n l _=>some (n,.rp l)
 |.bz id off n _=>some (n,.op id off)
 |_=>none
theorem ap.row{E:Env}{a p:AV}{v:SQ}{n:Nat}(hd:ap E a v)(h:a.row=some (n,p))(h0:0<n):∃b o cap,v=.slice (some ⟨b,o,none⟩) n cap/\ap E p (.pointer (some ⟨b,o,none⟩)):=by
 cases hd with
 |sl b o cap f hc he h1 h2=>cases h;exact⟨b,o,cap,rfl,.rp b o f h1 h2⟩
 |nil he=>cases h;exact absurd h0 (by simp)
 |bz hi=>cases h;exact⟨_,_,_,rfl,.op hi⟩
 |_=>cases h
def AV.len:AV->Option Nat
 |.sl n _ _=>some n
 |.bz _ _ n _=>some n
 |_=>none
theorem ap.len{E:Env}{a:AV}{v:SQ}{n:Nat}(hd:ap E a v)(h:a.len=some n):∃ad cap,v=.slice ad n cap:=by
 cases hd with
 |sl b o cap f hc he h1 h2=>cases h;exact⟨_,_,rfl⟩
 |nil he=>cases h;exact⟨_,_,rfl⟩
 |bz hi=>cases h;exact⟨_,_,rfl⟩
 |_=>cases h
def eN (P:SI)(t:TypeId)(k:Nat):Option Nat:=match P.underlying t with
 |some (.struct fs)=>match fs[k]?with
  |some f=>match P.info? f.type with
   |some i=>if i.size=0 then none else some f.offset
   |none=>none
  |none=>none
 |_=>none
def nz (P:SI)(t:TypeId):Option (Option Nat×Nat):=match P.underlying t with
 |some (.array n e)=>(P.info? e).map λi=>(some n,i.size)
 |some (.slice e)=>(P.info? e).map λi=>(none,i.size)
 |_=>none
inductive xK where
 |slice|map|str|arr (n:Nat)
def lj (P:SI)(t:TypeId):Option xK:=match P.underlying t with
 |some (.slice _)=>some .slice
 |some (.map _ _)=>some .map
 |some .string=>some .str
 |some (.array n _)=>some (.arr n)
 |_=>none
def Ja (P:SI)(t:TypeId)(k:Nat):Option (Nat×Nat×Bool):=match P.underlying t with
 |some (.struct fs)=>match fs[k]?with
  |some f=>(Ty P f.type).map λx=>(f.offset,x.1,x.2)
  |none=>none
 |_=>none
def I4 (P:SI)(t:TypeId):Option (Nat×Nat×Bool):=match P.underlying t with
 |some (.array n e)=>(Ty P e).map λx=>(n,x.1,x.2)
 |_=>none
section
variable {lv:Bool}{P:SI}{r:Option Nat}{o:Tx}{s:AS}{next:AS->Prop}{bad:AV->AS->Prop}
theorem ap9{t:TypeId}{x:Tj}{p:AV}{l:List AV}{n:Nat}(ho:o.op=.load t x)(ht:Ty P t=some (n,true))(hx:s.ev x=some p)(hl:s.at p=some l)(hlen:n<=l.length):dF lv P r o s ((.agg (l.take n))):=
 jb (λE V a hc aE=>by
  obtain⟨i,d,h1,h2,rfl,h4⟩:=Ty.out ht;obtain⟨b,off,f,hv,hg,kH,hd⟩:=hc.at (ap.ev aE hx) hl;unfold execOp;rw[ho];simp only[hv];refine az ?_;unfold XE Vj;refine az (au ?_);unfold loadVar;refine EG h2 ?_;rw[h4];simp only[if_true];refine kq h1 ?_;refine az (Bx (f:=f) (λh=>kH (by omega)) (λj hj=>hg j (by omega)) ?_);exact au (au ⟨rfl,_,rfl,JN hlen hd⟩))
theorem aqa{t:TypeId}{x:Tj}{p:AV}{l:List AV}{n:Nat}{av:AV}(ho:o.op=.load t x)(ht:Ty P t=some (n,false))(hx:s.ev x=some p)(hl:s.at p=some l)(h0:l[0]?=some av):dF lv P r o s (av):=
 jb (λE V a hc aE=>by
  obtain⟨i,d,h1,h2,rfl,h4⟩:=Ty.out ht;obtain⟨b,off,f,hv,hg,kH,hd⟩:=hc.at (ap.ev aE hx) hl;unfold execOp;rw[ho];simp only[hv];refine az ?_;unfold XE Vj;refine az (au ?_);unfold loadVar;refine EG h2 ?_;rw[h4];simp only[TR,if_false];have hlen:0<l.length:=(SN.1 h0).1;have l5:=hg 0 hlen;rw[UJ]at l5;exact Ou l5 (.inl (kH hlen)) (cM (au ⟨rfl,_,rfl,hd 0 av h0⟩)))
def AV.sure:AV->Bool
 |.rp _|.op _ _=>true
 |.fn (.func _) _ _=>true
 |.fn (.yield _) _ _=>true
 |.db _ _=>true
 |_=>false
theorem aqh{x:Tj}{p:AV}(ho:o.op=.nilCheck x)(hx:s.ev x=some p)(hp:p.sure=true):dF lv P r o s (p):=
 sD (λE V a hc aE=>by
  have hd:=ap.ev aE hx;refine⟨a.eval x,?_,hd⟩;unfold execOp;rw[ho];dsimp only;generalize a.eval x=v at hd⊢;cases hd with
  |rp=>rfl
  |op=>rfl
  |db=>rfl
  |fn dW f_ h1 h2=>
   rename_i f _ _ _ _;cases f with
   |func=>rfl
   |yield=>rfl
   |_=>cases hp
  |_=>cases hp)
theorem ap1{t:TypeId}{x:Tj}{k n:Nat}{p q:AV}(ho:o.op=.fieldAddr t x k)(ht:eN P t k=some n)(hx:s.ev x=some p)(hp:p.shift n=some q):dF lv P r o s (q):=
 jb (λE V a hc aE=>by
  obtain⟨b,off,hv,hq⟩:=(ap.ev aE hx).shift hp;unfold eN at ht;split at ht
  ·rename_i fs hu;split at ht
   ·rename_i f hf;split at ht
    ·rename_i i hi;split at ht
     ·cases ht
     ·rename_i hz;cases ht;unfold execOp;rw[ho];simp only[hv];refine az ?_;unfold Instr.fieldAt;refine ez hu ?_;simp only[hf];unfold Vj;refine az (au ?_);unfold fieldPlace;refine az (kq hi ?_);rw[if_neg hz];refine au (au (au ⟨rfl,_,rfl,?_⟩));rw[add_plain];exact hq
    ·cases ht
   ·cases ht
  ·cases ht)
theorem ap3{t:TypeId}{x ix:Tj}{a p q:AV}{k:T8}{i:Int}{n sz:Nat}(ho:o.op=.indexAddr t x ix)(ht:nz P t=some (none,sz))(hx:s.ev x=some a)(ha:a.row=some (n,p))(hi:s.ev ix=some (.val (.int k i)))(h0:0<=i)(h1:i<n)
  (hp:p.shift (i.toNat* sz)=some q):dF lv P r o s (q):=
 jb (λE V ac hc aE=>by
  obtain⟨b,off,cap,hv,AY⟩:=(ap.ev aE hx).row ha (by omega);obtain⟨b',o',hb,hq⟩:=AY.shift hp;cases hb;have hd:=ap.ev aE hi;generalize qZ:ac.eval ix=vi at hd;cases hd;unfold nz at ht;split at ht
  ·obtain⟨_,_,h⟩:=lx ht;cases h
  ·rename_i e hu;obtain⟨inf,LN,h⟩:=lx ht;cases h;unfold execOp;rw[ho];simp only[hv,qZ];refine az ?_;unfold ZV asIntOf;refine az (au ?_);dsimp only;refine ez hu ?_;refine az (au ?_);dsimp only;refine ez hu ?_;dsimp only;rw[if_pos ⟨h0,h1⟩];refine kq LN ?_;refine au (au ⟨rfl,_,rfl,?_⟩);rw[add_plain];exact hq
  ·cases ht)
theorem ap4{t:TypeId}{x ix:Tj}{p q:AV}{k:T8}{i:Int}{n sz:Nat}(ho:o.op=.indexAddr t x ix)(ht:nz P t=some (some n,sz))(hx:s.ev x=some p)(hi:s.ev ix=some (.val (.int k i)))(h0:0<=i)(h1:i<n)
  (hp:p.shift (i.toNat* sz)=some q):dF lv P r o s (q):=
 jb (λE V ac hc aE=>by
  obtain⟨b,off,hv,hq⟩:=(ap.ev aE hx).shift hp;have hd:=ap.ev aE hi;generalize qZ:ac.eval ix=vi at hd;cases hd;unfold nz at ht;split at ht
  ·rename_i m e hu;obtain⟨inf,LN,h⟩:=lx ht;cases h;unfold execOp;rw[ho];simp only[hv,qZ];refine az ?_;unfold ZV asIntOf;refine az (au ?_);dsimp only;refine ez hu ?_;dsimp only;unfold Vj;refine az (az (au (au ?_)));refine ez hu ?_;dsimp only;rw[if_pos ⟨h0,h1⟩];refine kq LN ?_;refine au (au ⟨rfl,_,rfl,?_⟩);rw[add_plain];exact hq
  ·obtain⟨_,_,h⟩:=lx ht;cases h
  ·cases ht)
theorem acR{c:Xt}{x:Tj}{t:TypeId}{a:AV}{n:Nat}(ho:o.op=.call c)(ba:c.callee=.builtin .len)(sq:c.args[0]?=some x)(DR:c.argTypes[0]?=some t)(ht:lj P t=some .slice)(hx:s.ev x=some a)(ha:a.len=some n):dF lv P r o s (.val (.int .i64 n)):=
 jb (λE V ac hc aE=>by
  obtain⟨ad,cap,hv⟩:=(ap.ev aE hx).len ha;unfold lj at ht;split at ht<;>cases ht;rename_i e hu;unfold execOp;rw[ho];dsimp only;unfold resolve;rw[ba];dsimp only;refine az (au ?_);unfold invoke builtin;dsimp only;refine az ?_;unfold Yn;have e1:(c.args.map ac.eval)[0]?=some (.slice ad n cap):=by simp[sq,hv]
  simp only[DR,e1];refine ez hu ?_;exact au (au ⟨rfl,_,rfl,.val _⟩))
theorem ap8{c:Xt}{x:Tj}{t:TypeId}{b:ByteArray}(ho:o.op=.call c)(ba:c.callee=.builtin .len)(sq:c.args[0]?=some x)(DR:c.argTypes[0]?=some t)(ht:lj P t=some .str)(hx:s.ev x=some (.val (.string b))):dF lv P r o s (.val (.int .i64 b.size)):=
 jb (λE V ac hc aE=>by
  have hd:=ap.ev aE hx;generalize hv:ac.eval x=v at hd;cases hd;unfold lj at ht;split at ht<;>cases ht;rename_i hu;unfold execOp;rw[ho];dsimp only;unfold resolve;rw[ba];dsimp only;refine az (au ?_);unfold invoke builtin;dsimp only;refine az ?_;unfold Yn;have e1:(c.args.map ac.eval)[0]?=some (.string b):=by simp[sq,hv]
  simp only[DR,e1];refine ez hu ?_;exact au (au ⟨rfl,_,rfl,.val _⟩))
theorem ap7{c:Xt}{x:Tj}{t:TypeId}{id:Nat}{es:Array Wp}{ck:Nat}(ho:o.op=.call c)(ba:c.callee=.builtin .len)(sq:c.args[0]?=some x)(DR:c.argTypes[0]?=some t)(ht:lj P t=some .map)(hx:s.ev x=some (.mp id))(hk:s.H[id]?=some (.obj (.map es ck))):dF lv P r o s (.val (.int .i64 es.size)):=
 jb (λE V ac hc aE=>by
  have hd:=ap.ev aE hx;generalize hv:ac.eval x=v at hd;cases hd;obtain⟨h1,h2,h3,h4⟩:=hc.obj id _ hk;unfold lj at ht;split at ht<;>cases ht;rename_i hu;unfold execOp;rw[ho];dsimp only;unfold resolve;rw[ba];dsimp only;refine az (au ?_);unfold invoke builtin;dsimp only;refine az ?_;unfold Yn;have e1:(c.args.map ac.eval)[0]?=some (.map (some (E.blk id))):=by simp[sq,hv]
  simp only[DR,e1];refine ez hu ?_;refine az (oy h1 h2 h3 (hc.jv hk rfl).2 (cM ?_));exact au (au ⟨rfl,_,rfl,.val _⟩))
theorem adi{t:TypeId}{n off:Nat}{g:Bool}{E:Env}{V:View}{l:List AV}{cs:Array SQ}{K:SQ->View->Prop}{Kp:SQ->View->Prop}(ht:Ty P t=some (n,g))(hd:cN E l cs)(hl:off+n<=l.length)(hn:g=false->0<n)
  (h:∀v,(g=true->ap E (.agg ((l.drop off).take n)) v)->(g=false->∀a,l[off]?=some a->ap E a v)->K v V):aR P V (part t cs off) K Kp:=by
 obtain⟨i,d,h1,h2,rfl,h4⟩:=Ty.out ht;unfold part;refine EG h2 ?_;rw[h4];cases g with
 |true=>
  simp only[if_true];refine kq h1 (au (h _ (λ_=> .agg (by have:=hd.1;simp;omega) λj a e=> ?_) (by simp)));rw[Uj]at e;split at e
  ·rename_i hj;rw[Us]at e;have:=hd.2 _ _ e;have hlt:off+j<cs.size:=(by rw[hd.1];omega);have alG:j<(cs.extract off (off+i.size)).size:=(by have:=hd.1;simp;omega);rw[SH,SJ alG];rw[SH,SJ hlt]at this;simpa using this
  ·cases e
 |false=>
  simp only[TR,if_false];have hlt:off<cs.size:=by have:=hn rfl;rw[hd.1];omega
  rw[SJ hlt];refine au (h _ (by simp) λ_ a e=> ?_);have:=hd.2 _ _ e;rwa [SH,SJ hlt]at this
def AV.cut (l:List AV)(off n:Nat)(g:Bool):Option AV:=if off+n<=l.length/\(g=false->0<n)then(if g then some (.agg ((l.drop off).take n))else l[off]?)else none
theorem ap2{t:TypeId}{x:Tj}{k off n:Nat}{g:Bool}{l:List AV}{av:AV}(ho:o.op=.field t x k)(ht:Ja P t k=some (off,n,g))(hx:s.ev x=some (.agg l))(hv:AV.cut l off n g=some av):dF lv P r o s av:=
 jb (λE V a hc aE=>by
  have hd:=ap.ev aE hx;generalize he:a.eval x=v at hd;cases hd with
  |agg hs h=>
   unfold Ja at ht;split at ht
   ·rename_i fs hu;split at ht
    ·rename_i f hf;obtain⟨⟨n',g'⟩,h1,h2⟩:=lx ht;cases h2;unfold AV.cut at hv;split at hv
     ·rename_i yA;unfold execOp;rw[ho];simp only[he];refine az ?_;unfold Instr.field;refine ez hu ?_;simp only[hf];unfold asAgg;refine az (au ?_);refine adi h1 ⟨hs,h⟩ yA.1 yA.2 λv h3 h4=>au ⟨rfl,v,rfl,?_⟩;cases g' with
      |true=>simp only[if_true,Tl]at hv;subst hv;exact h3 rfl
      |false=>simp only[TR,if_false]at hv;exact h4 rfl _ hv
     ·cases hv
    ·cases ht
   ·cases ht)
theorem ap6{t:TypeId}{x ix:Tj}{n sz:Nat}{g:Bool}{l:List AV}{av:AV}{k:T8}{i:Int}(ho:o.op=.index t x ix)(ht:I4 P t=some (n,sz,g))(hx:s.ev x=some (.agg l))(hi:s.ev ix=some (.val (.int k i)))(h0:0<=i)(h1:i<n)(hv:AV.cut l (i.toNat* sz) sz g=some av):dF lv P r o s av:=
 jb (λE V a hc aE=>by
  have hd:=ap.ev aE hx;generalize he:a.eval x=v at hd;have oU:=ap.ev aE hi;generalize Lr:a.eval ix=vi at oU;cases oU;cases hd with
  |agg hs h=>
   unfold I4 at ht;split at ht
   ·rename_i m e hu;obtain⟨⟨n',g'⟩,h2,h3⟩:=lx ht;cases h3;unfold AV.cut at hv;split at hv
    ·rename_i yA;obtain⟨inf,d,q1,q2,q3,q4⟩:=Ty.out h2;unfold execOp;rw[ho];simp only[he,Lr];refine az ?_;unfold Z' asIntOf;refine az (au ?_);dsimp only;refine ez hu ?_;dsimp only;rw[if_pos ⟨h0,h1⟩];refine kq q1 ?_;rw[q3];refine adi h2 ⟨hs,h⟩ yA.1 yA.2 λv h4 h5=>au ⟨rfl,v,rfl,?_⟩;cases g' with
     |true=>simp only[if_true,Tl]at hv;subst hv;exact h4 rfl
     |false=>simp only[TR,if_false]at hv;exact h5 rfl _ hv
    ·cases hv
   ·cases ht)
theorem ap5{t:TypeId}{x ix:Tj}{b:ByteArray}{k:T8}{i:Int}{c:UInt8}(ho:o.op=.index t x ix)(ht:lj P t=some .str)(hx:s.ev x=some (.val (.string b)))(hi:s.ev ix=some (.val (.int k i)))(h0:0<=i)(h1:b[i.toNat]?=some c):dF lv P r o s (.val (.int .u8 c.toNat)):=
 jb (λE V a hc aE=>by
  have hd:=ap.ev aE hx;generalize he:a.eval x=v at hd;have oU:=ap.ev aE hi;generalize Lr:a.eval ix=vi at oU;cases oU;cases hd;unfold lj at ht;split at ht<;>cases ht;rename_i hu;unfold execOp;rw[ho];simp only[he,Lr];refine az ?_;unfold Z' asIntOf;refine az (au ?_);dsimp only;refine ez hu ?_;dsimp only;rw[if_pos h0,h1];exact au (au ⟨rfl,_,rfl,.val _⟩))
theorem Qv{E:Env}{s:AS}{a:Act}(k:cu E s.T a.tmps){l:Array Tj}{aF:List AV}(h:l.toList.mapM s.ev=some aF):cN E aF (l.map a.eval):=by
 have key:∀(l:List Tj)(aF:List AV),l.mapM s.ev=some aF->cN E aF (l.map a.eval).toArray:=by
  intro l;induction l with
  |nil=>intro aF h;simp at h;subst h;exact⟨rfl,by simp⟩
  |cons x l ih=>
   intro aF h;simp only[Ue,Um,TU,Tf,Tl]at h;obtain⟨b,h1,bs,h2,rfl⟩:=h;have:=ih bs h2;refine⟨by have:=this.1;simpa using this,λi c e=> ?_⟩;cases i with
   |zero=>simp at e;subst e;simpa[SH]using ap.ev k h1
   |succ i=>
    simp only[UR]at e;have:=this.2 i c e;simpa[SH]using this
 have:=key l.toList aF h;have e:l.map a.eval=(l.toList.map a.eval).toArray:=by apply VH;simp
 rw[e];exact this
theorem aqc{f:Fn}{first cW:Array Tj}{fa ca:List AV}(ho:o.op=.makeFunc f first cW)(h1:first.toList.mapM s.ev=some fa)(h2:cW.toList.mapM s.ev=some ca):dF lv P r o s (.fn f fa ca):=
 sD (λE V a hc ht=>by
  have d1:=Qv ht h1;have d2:=Qv ht h2;exact⟨_,by unfold execOp;rw[ho];rfl,.fn d1.1 d2.1 d1.2 d2.2⟩)
def mM (P:SI)(t:TypeId):Option Bool:=(P.underlying t).map λ|.interface _=>true|_=>false
theorem aqd{t:TypeId}{x:Tj}{av:AV}(ho:o.op=.makeInterface t x)(ht:mM P t=some false)(hx:s.ev x=some av):dF lv P r o s (.db t av):=
 jb (λE V a hc aE=>by
  obtain⟨d,hu,hd⟩:=lx ht;unfold execOp;rw[ho];dsimp only;refine az ?_;unfold Instr.makeInterface;refine ez hu ?_;split
  ·cases hd
  ·exact au (au ⟨rfl,_,rfl,.db (ap.ev aE hx)⟩))
def BU (P:SI)(src dst:TypeId):Option (Option T8):=(P.underlying src).bind λ_=>match P.underlying dst with
 |some (.int k)=>some (some k)
 |_=>none
theorem apX{src dst:TypeId}{x:Tj}{k j:T8}{n:Int}(ho:o.op=.convert src dst x)(ht:BU P src dst=some (some k))(hx:s.ev x=some (.val (.int j n))):dF lv P r o s (.val (.int k (k.wrap n))):=
 jb (λE V a hc aE=>by
  have hd:=ap.ev aE hx;generalize he:a.eval x=v at hd;cases hd;unfold BU at ht;obtain⟨d,h1,h2⟩:=Tf.1 ht;split at h2
  ·rename_i k' hu;cases h2;unfold execOp;rw[ho];simp only[he];refine az ?_;unfold convert;refine ez h1 (ez hu ?_);dsimp only;exact au (au ⟨rfl,_,rfl,.val _⟩)
  ·cases h2)
end
open Go.Conc
def Env.add (E:Env)(r:Nat)(I:cE):Env:={E with I:=I,n:=E.n+1,blk:=λk=>if k=E.n then r else E.blk k}
theorem Env.q_(E:Env)(r:Nat){I:cE}(hI:∀b o v,E.I b o=some v->I b o=some v):E.Le (E.add r I):=
 ⟨hI,Y4 _,λk hk=>by simp[Env.add,Wd hk],λ_ _=>SP _,λ_ _ _ _=>rfl,rfl,rfl⟩
def View.eT (V:View)(b:Nat)(cs:Array SQ)(p:Nat->Bool):View:={V with ab:=λb' o=>if b'=b/\p o=true then cs[o]?else V.ab b' o}
theorem yj{V:View}{b:Nat}{cs:Array SQ}{el:TypeId}{f:Nat×Nat}{p:Nat->Bool}(ho:V.own b=some (.cells cs el f))(hp:∀o,p o=true->V.ab b o=none):d_ V (V.eT b cs p)where
 sat w h:=⟨λb' o v e=>by
   simp only[View.eT]at e;split at e
   ·rename_i hb;obtain⟨rfl,_⟩:=hb;have:=h.own _ _ ho;simpa[UC,this]using e
   ·exact h.ab _ _ _ e,λb' x e=>h.own b' x e⟩
 own b' e:=e
 ab b' o v e:=by
  have hn:¬(b'=b/\p o=true):=λhb=>by obtain⟨rfl,h2⟩:=hb;rw[hp o h2]at e;cases e
  simp only[View.eT,if_neg hn];exact e
 kY b' o v e:=by
  simp only[View.eT]at e;split at e
  ·rename_i hb;obtain⟨rfl,_⟩:=hb;exact .inr (by rw[ho];simp)
  ·exact .inl e
 deaf:=rfl
 role:=rfl
 chan c x _ h:=h
def View.kK (V:View)(r:Nat)(cs:Array SQ):View:={V with ab:=λb o=>if b=r then cs[o]?else V.ab b o}
theorem akp{V:View}{r:Nat}{cs:Array SQ}{el:TypeId}{f:Nat×Nat}(hf:V.fresh r)(hc:V.role.chan≠some r):d_ (V.upd r (.cells cs el f)) (V.kK r cs)where
 sat w h:=⟨λb o v e=>by
   simp only[View.kK]at e;split at e
   ·rename_i hb;subst hb;have:=h.own b (.cells cs el f) (by simp[View.upd]);simpa[UC,this]using e
   ·exact h.ab b o v e,λb x e=>by
   have hb:b≠r:=λhb=>(by subst hb;rw[show (V.kK b cs).own b=V.own b from rfl,hf.1]at e;cases e);have e':V.own b=some x:=e;exact h.own b x (by simpa[View.upd,hb]using e')⟩
 own b e:=by
  simp only[View.upd]at e;split at e
  ·cases e
  ·exact e
 ab b o v e:=by
  have e':V.ab b o=some v:=e;have hb:b≠r:=λhb=>by subst hb;rw[hf.2 o]at e';cases e'
  simpa[View.kK,hb]using e'
 kY b o v e:=by
  simp only[View.kK]at e;split at e
  ·rename_i hb;exact .inr (by simp[View.upd,hb])
  ·exact .inl e
 deaf:=rfl
 role:=rfl
 chan c x hcx h:=by
  have hb:c≠r:=λhb=>by subst hb;exact hc hcx
  have h':V.own c=some x:=by simpa[View.upd,hb]using h
  exact h'
theorem Conc.akf{E:Env}{V:View}{H:List aa}(hc:Conc E V H){r:Nat}(hf:V.own r=none):V.role.chan≠some r/\V.role.group≠some r:=
 ⟨λe=>(hc.chan r e).1 hf,λe=>(hc.group r e).1 hf⟩
theorem Conc.add{E:Env}{V:View}{H:List aa}(hc:Conc E V H){r:Nat}(hf:V.fresh r)(y:Obj){x:aa}(hx:fU (E.add r V.ab) (V.upd r y) E.n x)(hb:∀b,bP (E.add r V.ab) E.n x=some b->b=r):Conc (E.add r V.ab) (V.upd r y) (H++[x]):=by
 refine hc.iQ (E':=E.add r V.ab) H.length x (E.q_ r (λb o v h=>by rw[<- hc.I];exact h)) rfl (by simp[Env.add,hc.n]) Ec rfl (λ_ _ _=>rfl) (λb z _ hz=>⟨?_,λ_=>rfl⟩) (by rw[<- hc.n];exact hx) (λb h=> .inr ?_)
 ·have:b≠r:=λe=>by rw[e,hf.1]at hz;cases hz
  simpa[View.upd,this]using hz
 ·rw[<- hc.n]at h;rw[hb b h];exact hf.1
theorem Env.dQ(E:Env)(r:Nat)(I:cE):(E.add r I).blk E.n=r:=by simp[Env.add]
theorem Qx{E:Env}{H:List aa}(hn:E.n=H.length)(r:Nat)(I:cE):ap (E.add r I) (.op H.length 0) (.pointer (some ⟨r,0,none⟩)):=by
 have:=ap.op (E:=E.add r I) (id:=H.length) (off:=0) (by show _<E.n+1;rw[hn];omega);have e:(E.add r I).blk H.length=r:=by rw[<- hn];exact E.dQ r I
 rwa [e]at this
def AV.parts:AV->Option (List AV)
 |.agg l=>some l
 |.aO _=>none
 |.val (.agg _)=>none
 |a=>some [a]
theorem ap.parts{E:Env}{a:AV}{v:SQ}{l:List AV}(h:ap E a v)(hp:a.parts=some l):cN E l v.cells:=by
 have one:∀a v,ap E a v->v.cells=#[v]->cN E [a] v.cells:=λa v h e=>by
  rw[e];refine⟨rfl,λi x hx=> ?_⟩;have hi:i=0:=by have:=(SN.1 hx).1;simpa using this
  subst hi;simp at hx;subst hx;simpa using h
 cases h with
 |val=>cases v<;>first|(cases hp;exact one _ _ (.val _) rfl)|cases hp
 |agg hs h=>cases hp;exact⟨hs,h⟩
 |aO hs h=>cases hp
 |sl b o cap f hc he h1 h2=>cases hp;exact one _ _ (.sl b o cap f hc he h1 h2) rfl
 |nil he=>cases hp;exact one _ _ (.nil he) rfl
 |bz hi dU=>cases hp;exact one _ _ (.bz hi dU) rfl
 |rp b o f h1 h2=>cases hp;exact one _ _ (.rp b o f h1 h2) rfl
 |op hi=>cases hp;exact one _ _ (.op hi) rfl
 |fn dW f_ h1 h2=>cases hp;exact one _ _ (.fn dW f_ h1 h2) rfl
 |db h=>cases hp;exact one _ _ (.db h) rfl
 |mp hi=>cases hp;exact one _ _ (.mp hi) rfl
def eU (P:SI)(t:TypeId):Option SQ:=(P.info? t).bind (·.zero)
def mr (z:SQ):List AV:=z.cells.toList.map AV.qf
theorem JQ(E:Env)(z:SQ):cN E (mr z) z.cells:=by
 refine⟨by simp[mr],λi a h=> ?_⟩;unfold mr at h;rw[To]at h;obtain⟨x,hx,rfl⟩:=Ts.1 h;have:z.cells[i]?=some x:=by simpa using hx
 rw[SH,this];exact JL E x
section
variable {P:SI}{V:View}{α:Type}{K:α->View->Prop}{Kp:SQ->View->Prop}
theorem Iq{t:TypeId}{z:SQ}{k:SQ->Sem α}(h:eU P t=some z)(hk:aR P V (k z) K Kp):aR P V (zeroValue t>>=k) K Kp:=by
 unfold eU at h;obtain⟨i,h1,h2⟩:=Tf.1 h;refine az ?_;unfold zeroValue;refine zy h1 ?_;rw[h2];exact au hk
end
section
variable {lv:Bool}{P:SI}{r:Option Nat}{o:Tx}{s:AS}{next:AS->Prop}{bad:AV->AS->Prop}
theorem adQ{t:TypeId}{l:List AV}(h:∀(E:Env)(V:View)(a:Act),Conc E V s.H->cu E s.T a.tmps->∃cs,cN E l cs/\aR P V (execOp a.eval o) (λnx V'=>∃rr,V.fresh rr/\V'=V.upd rr (.cells cs t)/\nx=.value (.pointer (some ⟨rr,0,none⟩))) (λ_ _=>False))
  (hn:next ((⟨s.T,s.H++[.cells l t]⟩:AS).put o.dst (.op s.H.length 0))):Step lv P r o s next bad:=by
 intro E V a N Q hc ht hd bB h1 _;obtain⟨cs,pI,qV⟩:=h E V a hc ht;refine⟨bB,qV.mono (λnx V' hx=> ?_) (λ_ _ hx=>hx.elim)⟩;obtain⟨rr,hf,rfl,rfl⟩:=hx;have hle:E.Le (E.add rr V.ab):=E.q_ rr (λb o v h=>by rw[<- hc.I];exact h);have bp:Conc (E.add rr V.ab) (V.upd rr (.cells cs t)) (s.H++[.cells l t]):=by
  refine hc.add hf _ ⟨⟨cs,?_,pI.mono hle⟩,λo=> ?_⟩ (λb e=> ?_)
  ·rw[Env.dQ];simp[View.upd]
  ·rw[Env.dQ];exact hf.2 o
  ·simp only[bP,Env.dQ,Tl]at e;exact e.symm
 exact h1 _ _ (a.put o.dst (.pointer (some ⟨rr,0,none⟩))) ((⟨s.T,s.H++[.cells l t]⟩:AS).put o.dst (.op s.H.length 0)) ⟨hle,eo _ _ _,put_defers _ _ _,rfl,rfl⟩ (by rw[fx];exact bp)
  (cu.ii (s:=⟨s.T,s.H++[.cells l t]⟩) (ht.mono hle) hd (Qx hc.n rr V.ab)) hn
theorem adM{t:TypeId}{x:Tj}{av:AV}{l:List AV}(ho:o.op=.box t x)(hx:s.ev x=some av)(hl:av.parts=some l)(hn:next ((⟨s.T,s.H++[.cells l t]⟩:AS).put o.dst (.op s.H.length 0))):Step lv P r o s next bad:=
 adQ (λE V a hc ht=>⟨(a.eval x).cells,(ap.ev ht hx).parts hl,by
  unfold execOp;rw[ho];dsimp only;refine az ?_;unfold Instr.box newVar newRow;refine az (az (az (pi λrr hf=>cM (au (au (au (au ⟨rr,hf,rfl,rfl⟩)))))))⟩) hn
theorem adJ{t:TypeId}{z:SQ}(ho:o.op=.alloc t)(hz:eU P t=some z)(hn:next ((⟨s.T,s.H++[.cells (mr z) t]⟩:AS).put o.dst (.op s.H.length 0))):Step lv P r o s next bad:=
 adQ (λE V a hc ht=>⟨z.cells,JQ E z,by
  unfold execOp;rw[ho];dsimp only;refine az ?_;unfold Instr.alloc;refine Iq hz ?_;unfold newVar newRow;refine az (az (az (pi λrr hf=>cM (au (au (au (au ⟨rr,hf,rfl,rfl⟩)))))))⟩) hn
theorem asa{t:TypeId}(ho:o.op=.makeMap t none)(hn:next ((⟨s.T,s.H++[.obj (.map #[] 0)]⟩:AS).put o.dst (.mp s.H.length))):Step lv P r o s next bad:=by
 intro E V a N Q hc ht hd bB h1 _;refine⟨bB,?_⟩;unfold execOp;rw[ho];dsimp only;refine az ?_;unfold Instr.makeMap;refine az (pi λrr hf=>cM (au (au ?_)));have hle:E.Le (E.add rr V.ab):=E.q_ rr (λb o v h=>by rw[<- hc.I];exact h);have bp:Conc (E.add rr V.ab) (V.upd rr (.map #[] 0)) (s.H++[.obj (.map #[] 0)]):=by
  refine hc.add hf _ ⟨?_,rfl,rfl,λo=> ?_⟩ (λb e=> ?_)
  ·rw[Env.dQ];simp[View.upd]
  ·rw[Env.dQ];exact hf.2 o
  ·simp only[bP,Env.dQ,Tl]at e;exact e.symm
 have bt:ap (E.add rr V.ab) (.mp s.H.length) (.map (some rr)):=by
  have:=ap.mp (E:=E.add rr V.ab) (id:=s.H.length) (by show _<E.n+1;rw[hc.n];omega);have e:(E.add rr V.ab).blk s.H.length=rr:=by rw[<- hc.n];exact E.dQ rr _
  rwa [e]at this
 exact h1 _ _ (a.put o.dst (.map (some rr))) ((⟨s.T,s.H++[.obj (.map #[] 0)]⟩:AS).put o.dst (.mp s.H.length)) ⟨hle,eo _ _ _,put_defers _ _ _,rfl,rfl⟩ (by rw[fx];exact bp)
  (cu.ii (s:=⟨s.T,s.H++[.obj (.map #[] 0)]⟩) (ht.mono hle) hd bt) hn
end
def storeAt:Array SQ->Nat->List SQ->Array SQ
 |cs,_,[]=>cs
 |cs,o,v::vs=>storeAt (cs.setIfInBounds o v) (o+1) vs
theorem zC:∀(vs:List SQ)(cs:Array SQ)(o:Nat),(storeAt cs o vs).size=cs.size
 |[],_,_=>rfl
 |v::vs,cs,o=>by rw[storeAt,zC];simp
theorem EM:∀(vs:List SQ)(cs:Array SQ)(o k:Nat),o+vs.length<=cs.size->(storeAt cs o vs).getD k undef=if o<=k/\k<o+vs.length then vs.getD (k-o) undef else cs.getD k undef
 |[],cs,o,k,_=>by
  have:¬(o<=k/\k<o+([]:List SQ).length):=by intro h;simp only[UA]at h;omega
  rw[if_neg this];rfl
 |v::vs,cs,o,k,h=>by
  simp only[Ui]at h;rw[storeAt,EM vs _ (o+1) k (by simp;omega)];by_cases h1:k=o
  ·subst h1;rw[if_neg (by omega),if_pos (by simp)];simp[SH,Tb (show k<cs.size by omega)]
  ·by_cases h2:o+1<=k/\k<o+1+vs.length
   ·rw[if_pos h2,if_pos (by simp only[Ui];omega)];have:k-o=(k-(o+1))+1:=(by omega);rw[this];simp[SE]
   ·rw[if_neg h2,if_neg (by simp only[Ui];omega)];simp[SH,SW (Ne.symm h1)]
theorem ato(V:View)(b:Nat)(x y:Obj):(V.upd b x).upd b y=V.upd b y:=by
 unfold View.upd;congr 1;funext k;dsimp only;split<;>rfl
theorem atp{V:View}{b:Nat}{x:Obj}(h:V.own b=some x):V.upd b x=V:=by
 unfold View.upd;have:(λk=>if k=b then some x else V.own k)=V.own:=by
  funext k;split
  ·rename_i e;subst e;rw[h]
  ·rfl
 rw[this]
section
variable {P:SI}{K:Unit->View->Prop}{Kp:SQ->View->Prop}{b off:Nat}{el:TypeId}
theorem Bz:∀(vs:List SQ)(i:Nat)(V:View)(cs:Array SQ),V.role.group≠some b->V.role.chan≠some b->V.own b=some (.cells cs el (0,0))->(∀o,off+i<=o->o<off+i+vs.length->V.ab b o=none)->off+i+vs.length<=cs.size->(∀v∈vs,v.one=true)->
  K () (V.upd b (.cells (storeAt cs (off+i) vs) el (0,0)))->aR P V (storeCells ⟨b,off,none⟩ vs i) K Kp
 |[],i,V,cs,hg,hc,ho,hi,hl,hv,h=>by
  unfold storeCells;rw[show storeAt cs (off+i) []=cs from rfl,atp ho]at h;exact au h
 |v::vs,i,V,cs,hg,hc,ho,hi,hl,hv,h=>by
  unfold storeCells;rw[add_plain];simp only[Ui]at hl hi;refine az (arq ho (by omega) (hi _ (by omega) (by omega)) (hv v (TF ..)) (by omega) (.inl hg) hc (cM ?_));refine Bz vs (i+1) (V.upd b (.cells (cs.setIfInBounds (off+i) v) el (0,0))) (cs.setIfInBounds (off+i) v) hg hc (by simp[View.upd]) (λo h1 h2=>hi o (by omega) (by omega)) (by simp;omega) (λx hx=>hv x (Td _ hx)) ?_;rw[ato];exact h
end
theorem Conc.set{E:Env}{V:View}{H:List aa}(hc:Conc E V H){id:Nat}{l l':List AV}{el:TypeId}(hk:H[id]?=some (.cells l el)){eV:Array SQ}(hd:cN E l' eV):Conc E (V.upd (E.blk id) (.cells eV el (0,0))) (H.set id (.cells l' el)):=by
 obtain⟨⟨cs,h1,_⟩,h3⟩:=hc.obj id _ hk;refine hc.iQ id (.cells l' el) (Env.Le.refl E) hc.I (by simpa using hc.n) lM rfl (λ_ _ _=>rfl) (λb y hb hy=>⟨?_,λ_=>rfl⟩) ⟨⟨eV,by simp[View.upd],hd⟩,h3⟩ (λb h=> .inl ⟨_,hk,h⟩);have:b≠E.blk id:=λe=>hb _ hk (by rw[e];rfl);simpa[View.upd,this]using hy
theorem adT:∀(vs:List SQ)(cs:Array SQ)(off o:Nat),o<off->(storeAt cs off vs)[o]?=cs[o]?
 |[],_,_,_,_=>rfl
 |v::vs,cs,off,o,h=>by
  rw[storeAt,adT vs _ (off+1) o (by omega),SW (by omega)]
theorem Conc.EI{E:Env}{V:View}{H:List aa}(hc:Conc E V H){id p:Nat}{l l':List AV}{el:TypeId}(hk:H[id]?=some (.part p l el)){cs eV:Array SQ}(h1:V.own (E.blk id)=some (.cells cs el (0,0)))(hd:kx E l' eV)(hs:∀o,o<p->eV[o]?=cs[o]?):Conc E (V.upd (E.blk id) (.cells eV el (0,0))) (H.set id (.part p l' el)):=by
 obtain⟨⟨Ag,q1,_,q2⟩,h3⟩:=hc.obj id _ hk;rw[h1]at q1;cases q1;refine hc.iQ id (.part p l' el) (Env.Le.refl E) hc.I (by simpa using hc.n) lM rfl (λ_ _ _=>rfl) (λb y hb hy=>⟨?_,λ_=>rfl⟩) ⟨⟨eV,by simp[View.upd],hd,λo ho=>(q2 o ho).trans (hs o ho).symm⟩,h3⟩ (λb h=> .inl ⟨_,hk,h⟩);have:b≠E.blk id:=λe=>hb _ hk (by rw[e];rfl);simpa[View.upd,this]using hy
theorem Conc.adq{E:Env}{V:View}{H:List aa}(hc:Conc E V H){id sz:Nat}{l l':List AV}{el:TypeId}(hk:H[id]?=some (.own sz l el)){eV:Array SQ}(hd:kx E l' eV)(hz:eV.size=(E.room id 0).2* sz):Conc E (V.upd (E.blk id) (.cells eV el (0,0))) (H.set id (.own sz l' el)):=by
 obtain⟨⟨cs,h1,_⟩,h3⟩:=hc.obj id _ hk;refine hc.iQ id (.own sz l' el) (Env.Le.refl E) hc.I (by simpa using hc.n) lM rfl (λ_ _ _=>rfl) (λb y hb hy=>⟨?_,λ_=>rfl⟩) ⟨⟨eV,by simp[View.upd],hd,hz⟩,h3⟩ (λb h=> .inl ⟨_,hk,h⟩);have:b≠E.blk id:=λe=>hb _ hk (by rw[e];rfl);simpa[View.upd,this]using hy
theorem Conc.setObj{E:Env}{V:View}{H:List aa}(hc:Conc E V H){id:Nat}{x y:Obj}(hk:H[id]?=some (.obj x))(h1:y.vO=false)(h2:y.isChan=false):Conc E (V.upd (E.blk id) y) (H.set id (.obj y)):=by
 obtain⟨p1,p2,p3,p4⟩:=hc.obj id _ hk;refine hc.iQ id (.obj y) (Env.Le.refl E) hc.I (by simpa using hc.n) lM rfl (λ_ _ _=>rfl) (λb z hb hz=>⟨?_,λ_=>rfl⟩) ⟨by simp[View.upd],h1,h2,p4⟩ (λb h=> .inl ⟨_,hk,h⟩);have:b≠E.blk id:=λe=>hb _ hk (by rw[e];rfl);simpa[View.upd,this]using hz
theorem anz{E:Env}{a:AV}{v:SQ}(h:ap E a v)(hl:a.leaf=true):v.one=true:=by
 cases h with
 |val x=>exact hl
 |agg _ _=>cases hl
 |aO _ _=>cases hl
 |_=>rfl
def iO (l:List AV)(off:Nat)(lp:List AV):List AV:=l.take off++lp++l.drop (off+lp.length)
theorem JO{E:Env}{l lp:List AV}{cs vs:Array SQ}{off:Nat}(h:cN E l cs)(k:cN E lp vs)(hl:off+lp.length<=l.length):cN E (iO l off lp) (storeAt cs off vs.toList):=by
 have hv:vs.toList.length=lp.length:=by simpa using k.1
 refine⟨by rw[zC,h.1];simp[iO];omega,λi a e=> ?_⟩;rw[EM _ _ _ _ (by rw[h.1,hv];exact hl),hv];unfold iO at e;by_cases h1:i<off
 ·rw[if_neg (by omega)];rw[SC,SY (by simp;omega),Uj,if_pos h1]at e;exact h.2 i a e
 ·by_cases h2:i<off+lp.length
  ·rw[if_pos ⟨by omega,h2⟩];rw[SY (by simp;omega),S_ (by simp;omega)]at e;have e':lp[i-off]?=some a:=by
    have:min off l.length=off:=(by omega);simpa[this]using e
   have:=k.2 _ a e';simpa[SH,SE]using this
  ·rw[if_neg (by omega)];rw[S_ (by simp;omega),Us]at e;have e':l[i]?=some a:=by
    have h3:off+lp.length+(i-(l.take off++lp).length)=i:=(by simp;omega);rw[h3]at e;exact e
   exact h.2 i a e'
theorem QC{E:Env}{l lp:List AV}{cs vs:Array SQ}{off:Nat}(h:kx E l cs)(k:cN E lp vs)(hl:off+lp.length<=l.length):kx E (iO l off lp) (storeAt cs off vs.toList):=by
 have hv:vs.toList.length=lp.length:=by simpa using k.1
 refine⟨by rw[zC];have:=h.1;simp[iO];omega,λi a e=> ?_⟩;rw[EM _ _ _ _ (by have:=h.1;rw[hv];omega),hv];unfold iO at e;by_cases h1:i<off
 ·rw[if_neg (by omega)];rw[SC,SY (by simp;omega),Uj,if_pos h1]at e;exact h.2 i a e
 ·by_cases h2:i<off+lp.length
  ·rw[if_pos ⟨by omega,h2⟩];rw[SY (by simp;omega),S_ (by simp;omega)]at e;have e':lp[i-off]?=some a:=by
    have:min off l.length=off:=(by omega);simpa[this]using e
   have:=k.2 _ a e';simpa[SH,SE]using this
  ·rw[if_neg (by omega)];rw[S_ (by simp;omega),Us]at e;have e':l[i]?=some a:=by
    have h3:off+lp.length+(i-(l.take off++lp).length)=i:=(by simp;omega);rw[h3]at e;exact e
   exact h.2 i a e'
theorem CC{E:Env}{lp:List AV}{vs:Array SQ}(h:cN E lp vs)(nY:∀a∈lp,a.leaf=true):∀v∈vs.toList,v.one=true:=by
 intro v hv;obtain⟨j,hj⟩:=UW.1 hv;have dP:j<lp.length:=by have:=(SN.1 hj).1;have:=h.1;simp at*;omega
 have:=h.2 j lp[j] (SX dP);have iI:vs[j]?=some v:=by simpa using hj
 rw[SH,iI]at this;exact anz this (nY _ (Ww dP))
section
variable {lv:Bool}{P:SI}{r:Option Nat}{o:Tx}{s:AS}{next:AS->Prop}{bad:AV->AS->Prop}
theorem adR{t:TypeId}{x y:Tj}{id off n:Nat}{l lp:List AV}{el:TypeId}{g:Bool}{av:AV}(ho:o.op=.store t x y)(ht:Ty P t=some (n,g))(hx:s.ev x=some (.op id off))(hk:s.H[id]?=some (.cells l el))(hy:s.ev y=some av)(hp:av.parts=some lp)(iY:lp.length=n)(hl:off+lp.length<=l.length)
  (nY:∀a∈lp,a.leaf=true) (hn:next ((⟨s.T,s.H.set id (.cells (iO l off lp) el)⟩:AS).put o.dst (.val undef))):Step lv P r o s next bad:=by
 intro E V a N Q hc aE hd bB h1 _;obtain⟨i,d,q1,q2,rfl,q4⟩:=Ty.out ht;have dC:=ap.ev aE hx;generalize kJ:a.eval x=vx at dC;cases dC with
 |op bZ=>
  have bt:=(ap.ev aE hy).parts hp;obtain⟨⟨cs,p1,p2⟩,p3⟩:=hc.obj id _ hk;obtain⟨g1,g2⟩:=hc.jv hk rfl;refine⟨bB,?_⟩;unfold execOp;rw[ho];simp only[kJ];refine az ?_;unfold Yk Vj;refine az (au ?_);unfold storeVar;refine kq q1 ?_;rw[if_neg (by rw[bt.1,iY];simp)];refine Bz _ 0 V cs g1 g2 p1 (λo _ _=>p3 o) (by have:=bt.1;have:=p2.1;simp;omega) (CC bt nY) ?_;rw[UJ];exact au (h1 E _ (a.put o.dst undef) _ ⟨Env.Le.refl E,eo _ _ _,put_defers _ _ _,rfl,rfl⟩ (by rw[fx];exact hc.set hk (JO p2 bt hl))
   (cu.ii (s:=⟨s.T,s.H.set id (.cells (iO l off lp) el)⟩) aE hd (.val undef)) hn)
theorem ash{t:TypeId}{x y:Tj}{id off n p:Nat}{l lp:List AV}{el:TypeId}{g:Bool}{av:AV}(ho:o.op=.store t x y)(ht:Ty P t=some (n,g))(hx:s.ev x=some (.op id off))(hk:s.H[id]?=some (.part p l el))(hpo:p<=off)(hy:s.ev y=some av)(hp:av.parts=some lp)(iY:lp.length=n)(hl:off+lp.length<=l.length)
  (nY:∀a∈lp,a.leaf=true) (hn:next ((⟨s.T,s.H.set id (.part p (iO l off lp) el)⟩:AS).put o.dst (.val undef))):Step lv P r o s next bad:=by
 intro E V a N Q hc aE hd bB h1 _;obtain⟨i,d,q1,q2,rfl,q4⟩:=Ty.out ht;have dC:=ap.ev aE hx;generalize kJ:a.eval x=vx at dC;cases dC with
 |op bZ=>
  have bt:=(ap.ev aE hy).parts hp;obtain⟨⟨cs,p1,p2,p4⟩,p3⟩:=hc.obj id _ hk;obtain⟨g1,g2⟩:=hc.jv hk rfl;refine⟨bB,?_⟩;unfold execOp;rw[ho];simp only[kJ];refine az ?_;unfold Yk Vj;refine az (au ?_);unfold storeVar;refine kq q1 ?_;rw[if_neg (by rw[bt.1,iY];simp)];refine Bz _ 0 V cs g1 g2 p1 (λo _ _=>p3 o (by omega)) (by have:=bt.1;have:=p2.1;simp;omega) (CC bt nY) ?_;rw[UJ];exact au (h1 E _ (a.put o.dst undef) _ ⟨Env.Le.refl E,eo _ _ _,put_defers _ _ _,rfl,rfl⟩ (by rw[fx];exact hc.EI hk p1 (QC p2 bt hl) λo ho=>adT _ _ _ _ (by omega))
   (cu.ii (s:=⟨s.T,s.H.set id (.part p (iO l off lp) el)⟩) aE hd (.val undef)) hn)
theorem adS{t:TypeId}{x y:Tj}{id off n p:Nat}{l lp:List AV}{el:TypeId}{g:Bool}{av:AV}(ho:o.op=.store t x y)(ht:Ty P t=some (n,g))(hx:s.ev x=some (.op id off))(hk:s.H[id]?=some (.own p l el))(hy:s.ev y=some av)(hp:av.parts=some lp)(iY:lp.length=n)(hl:off+lp.length<=l.length)
  (nY:∀a∈lp,a.leaf=true) (hn:next ((⟨s.T,s.H.set id (.own p (iO l off lp) el)⟩:AS).put o.dst (.val undef))):Step lv P r o s next bad:=by
 intro E V a N Q hc aE hd bB h1 _;obtain⟨i,d,q1,q2,rfl,q4⟩:=Ty.out ht;have dC:=ap.ev aE hx;generalize kJ:a.eval x=vx at dC;cases dC with
 |op bZ=>
  have bt:=(ap.ev aE hy).parts hp;obtain⟨⟨cs,p1,p2,p4⟩,p3⟩:=hc.obj id _ hk;obtain⟨g1,g2⟩:=hc.jv hk rfl;refine⟨bB,?_⟩;unfold execOp;rw[ho];simp only[kJ];refine az ?_;unfold Yk Vj;refine az (au ?_);unfold storeVar;refine kq q1 ?_;rw[if_neg (by rw[bt.1,iY];simp)];refine Bz _ 0 V cs g1 g2 p1 (λo _ _=>p3 o) (by have:=bt.1;have:=p2.1;simp;omega) (CC bt nY) ?_;rw[UJ];exact au (h1 E _ (a.put o.dst undef) _ ⟨Env.Le.refl E,eo _ _ _,put_defers _ _ _,rfl,rfl⟩ (by rw[fx];exact hc.adq hk (QC p2 bt hl) (by rw[zC];exact p4))
   (cu.ii (s:=⟨s.T,s.H.set id (.own p (iO l off lp) el)⟩) aE hd (.val undef)) hn)
theorem Conc.kK{E:Env}{V:View}{H:List aa}(hc:Conc E V H){r:Nat}(hf:V.fresh r)(cs:Array SQ):E.Le {E with I:=(V.kK r cs).ab}/\Conc {E with I:=(V.kK r cs).ab} (V.kK r cs) H:=by
 have hle:E.Le {E with I:=(V.kK r cs).ab}:=⟨λb o v h=>by
  rw[hc.I]at h;have hb:b≠r:=λhb=>by subst hb;rw[hf.2 o]at h;cases h
  simpa[View.kK,hb]using h,SP _,λ_ _=>rfl,λ_ _=>SP _,λ_ _ _ _=>rfl,rfl,rfl⟩
 have hlt:∀(k:Nat) y,H[k]?=some y->k<E.n:=λk y h=>by rw[hc.n];exact(SN.1 h).1
 refine⟨hle,rfl,hc.n,λk x h=>(hc.obj k x h).mono hle (hlt k x h) rfl (λb y _ hb=>hb) (λb hb o=> ?_),hc.inj,λg hg=> ?_,λg hg=> ?_,hc.top,λb y hg=> ?_⟩
 ·obtain⟨y,hy⟩:=(hc.obj k x h).Ct hb;have aG:b≠r:=λe=>by subst e;rw[hf.1]at hy;cases hy
  simp[View.kK,aG]
 ·obtain⟨h0,h1,h2⟩:=hc.group g hg;have aG:g≠r:=λe=>by subst e;exact h0 hf.1
  exact⟨h0,λo=>by simp[View.kK,aG,h1 o],h2⟩
 ·obtain⟨h0,h1,h2⟩:=hc.chan g hg;have aG:g≠r:=λe=>by subst e;exact h0 hf.1
  exact⟨h0,λo=>by simp[View.kK,aG,h1 o],h2⟩
 ·obtain⟨h0,h1,h2⟩:=hc.fr b y hg;have aG:b≠r:=λe=>by subst e;rw[hf.1]at h0;cases h0
  exact⟨h0,λo=>by simp[View.kK,aG,h1 o],h2⟩
theorem ap.apJ{E:Env}{V:View}{H:List aa}(hc:Conc E V H){r:Nat}(hf:V.fresh r){cs:Array SQ}{l:List AV}(h:cN E l cs){n cap:Nat}(dU:n<=cap){e:End}(he:qk {E with I:=(V.kK r cs).ab} e (some ⟨r,0,none⟩) n cap):ap {E with I:=(V.kK r cs).ab} (.sl n l e) (.slice (some ⟨r,0,none⟩) n cap):=by
 refine .sl r 0 cap (λi=>cs.getD i undef) dU he (λi hi=> ?_) λi x hx=>(h.2 i x hx).mono (hc.kK hf cs).1;have hlt:i<cs.size:=by rw[h.1];exact hi
 simp[View.kK,SH,SJ hlt]
def oL (place:Nat->Option (Nat×Nat))(cells:List AV):List (Nat×AV)->Option (List AV)
 |[]=>some cells
 |(i,a)::rest=>match place i,a.parts with
  |some (off,size),some lp=>if lp.length≠size\/off+lp.length>cells.length then none else oL place (iO cells off lp) rest
  |_,_=>none
theorem RH:∀(vs:List SQ)(k off:Nat)(cs:Array SQ),(vs.zipIdx k).foldl (λ(cs:Array SQ) (x:SQ×Nat)=>cs.setIfInBounds (off+x.2) x.1) cs=storeAt cs (off+k) vs
 |[],_,_,_=>rfl
 |v::vs,k,off,cs=>by
  rw[List.zipIdx_cons,UY,RH vs (k+1) off];rfl
theorem CF{E:Env}{place:Nat->Option (Nat×Nat)}:∀{parts:List (Nat×AV)}{vs:List (Nat×SQ)}{l l':List AV}{cs:Array SQ},cN E l cs->parts.length=vs.length->(∀(j:Nat) p q,parts[j]?=some p->vs[j]?=some q->p.1=q.1/\ap E p.2 q.2)->
  oL place l parts=some l'->∃eV,ad' place cs vs=some eV/\cN E l' eV
 |[],[],l,l',cs,h,_,_,e=>by cases e;exact⟨cs,rfl,h⟩
 |[],_::_,_,_,_,_,h,_,_=>by simp at h
 |_::_,[],_,_,_,_,h,_,_=>by simp at h
 |(i,a)::parts,(i',v)::vs,l,l',cs,h,hl,hp,e=>by
  obtain⟨e1,hd⟩:=hp 0 (i,a) (i',v) rfl rfl;have e1':i=i':=e1;subst e1';simp only[oL]at e;split at e
  ·rename_i off size lp dz Md;split at e
   ·cases e
   ·rename_i hc;have bt:=ap.parts (v:=v) hd Md;have aY:v.cells.size=lp.length:=bt.1;have hle:off+lp.length<=l.length:=(by omega);obtain⟨eV,h1,h2⟩:=CF (JO h bt hle) (by simpa using hl) (λj p q x y=>hp (j+1) p q (by simpa using x) (by simpa using y)) e;refine⟨eV,?_,h2⟩;unfold ad';rw[dz];simp only;rw[if_neg (by rw[aY,h.1];simp;omega)];have:=RH v.cells.toList 0 off cs;rw[UJ]at this;rw[<- h1,<- this];congr 1;rw[<- Array.toList_zipIdx,Array.foldl_toList]
  ·cases e
def kB (s:AS):List (Nat×Tj)->Option (List (Nat×AV))
 |[]=>some []
 |(i,x)::l=>match s.ev x,kB s l with
  |some a,some aF=>some ((i,a)::aF)
  |_,_=>none
theorem F1{E:Env}{s:AS}{a:Act}(k:cu E s.T a.tmps):∀{l:List (Nat×Tj)}{aF:List (Nat×AV)},kB s l=some aF->aF.length=(l.map λ(i,x)=>(i,a.eval x)).length/\∀(j:Nat) p q,aF[j]?=some p->(l.map λ(i,x)=>(i,a.eval x))[j]?=some q->p.1=q.1/\ap E p.2 q.2
 |[],aF,h=>by cases h;exact⟨rfl,by simp⟩
 |(i,x)::l,aF,h=>by
  simp only[kB]at h;split at h
  ·rename_i av my h1 h2;cases h;obtain⟨ni,lK⟩:=F1 k h2;refine⟨by simpa using ni,λj p q e1 e2=> ?_⟩;cases j with
   |zero=>simp at e1 e2;subst e1 e2;exact⟨rfl,ap.ev k h1⟩
   |succ j=>exact lK j p q (by simpa using e1) (by simpa using e2)
  ·cases h
def qu (P:SI)(t:TypeId):Option (TypeId×Nat×SQ):=match P.underlying t with
 |some (.slice e)=>(P.info? e).bind λi=>i.zero.map λz=>(e,i.size,z)
 |_=>none
def gG (z:SQ)(m:Nat):List AV:=(S0 m).map λi=>AV.qf (z.cells[i % z.cells.size]!)
inductive iq where
 |fields (l:List (Nat×Nat))
 |elems (sz:Nat)
def iq.at:iq->Nat->Option (Nat×Nat)
 |.fields l,i=>l[i]?
 |.elems sz,i=>some (i* sz,sz)
def oz (P:SI)(t:TypeId):Option (iq×SQ):=(eU P t).bind λz=>match P.underlying t with
 |some (.struct fs)=>(fs.toList.mapM λf=>(P.info? f.type).map λi=>(f.offset,i.size)).map λl=>(.fields l,z)
 |some (.array _ e)=>(P.info? e).map λi=>(.elems i.size,z)
 |_=>none
theorem adj{P:SI}{V:View}{Kp:SQ->View->Prop}:∀(fs:List Y0)(l:List (Nat×Nat)){K:List (Nat×Nat)->View->Prop},fs.mapM (λf=>(P.info? f.type).map λi=>(f.offset,i.size))=some l->
  K l V->aR P V (fs.mapM λf=>(do pure (f.offset,<- sizeOf f.type):Sem (Nat×Nat))) K Kp
 |[],l,K,h,hk=>by
  simp at h;subst h;rw[UH];exact au hk
 |f::fs,l,K,h,hk=>by
  simp only[Ue,Um,TU,Tf,Tl]at h;obtain⟨b,h1,bs,h2,rfl⟩:=h;obtain⟨i,hi,rfl⟩:=lx h1;rw[Ue];exact az (kq hi (au (az (adj fs bs h2 (au hk)))))
theorem apV{t:TypeId}{parts:Array (Nat×Tj)}{pl:iq}{z:SQ}{aF:List (Nat×AV)}{l:List AV}(ho:o.op=.build t parts)(ht:oz P t=some (pl,z))(hp:kB s parts.toList=some aF)
  (hl:oL pl.at (mr z) aF=some l):dF lv P r o s (.agg l):=
 jb (λE V a hc aE=>by
  unfold oz at ht;obtain⟨z',hz,ht⟩:=Tf.1 ht;obtain⟨hlen,bt⟩:=F1 aE hp;unfold execOp;rw[ho];dsimp only;refine az ?_;unfold Instr.build;refine Iq hz ?_;split at ht
  ·rename_i fs hu;obtain⟨lp,h1,h2⟩:=lx ht;cases h2;obtain⟨eV,nX,vf⟩:=CF (JQ E z) hlen bt hl;refine ez hu ?_;dsimp only;have e:fs=fs.toList.toArray:=(by simp);rw[e,X4];refine az ?_;refine az (adj fs.toList lp h1 ?_);refine au ?_;rw[VN];have e2:(λx=>lp.toArray[x]?)=iq.at (.fields lp):=(by funext x;simp[iq.at]);rw[e2,nX];exact au (au ⟨rfl,_,rfl,.agg vf.1 vf.2⟩)
  ·rename_i n e hu;obtain⟨i,h1,h2⟩:=lx ht;cases h2;obtain⟨eV,nX,vf⟩:=CF (JQ E z) hlen bt hl;refine ez hu ?_;dsimp only;refine kq h1 ?_;rw[VN];have e2:(λj=>some (j* i.size,i.size))=iq.at (.elems i.size):=rfl;rw[e2,nX];exact au (au ⟨rfl,_,rfl,.agg vf.1 vf.2⟩)
  ·cases ht)
theorem JP{E:Env}(z:SQ)(m:Nat):cN E (gG z m) ((WN m).map (λx=>z.cells[x % z.cells.size]!)):=by
 refine⟨by simp[gG],λj x hx=> ?_⟩;unfold gG at hx;rw[To]at hx;obtain⟨k,hk,rfl⟩:=Ts.1 hx;have hj:j<m:=by have:=(SN.1 hk).1;simpa using this
 have hmj:k=j:=by rw[XC hj]at hk;cases hk;rfl
 subst hmj;simp only[SH,WI,Array.getElem?_range,hj,if_true,UU,S7];exact JL E _
theorem apW{t e:TypeId}{len sz:Nat}{z:SQ}{parts:Array (Nat×Tj)}{aF:List (Nat×AV)}{l:List AV}(ho:o.op=.buildSlice t len parts)(ht:qu P t=some (e,sz,z))(aY:len* sz<=2^24)(hp:kB s parts.toList=some aF)
  (hl:oL (iq.at (.elems sz)) (gG z (len* sz)) aF=some l):dF lv P r o s (.sl len l .exact):=by
 intro E V a N Q hc aE bB h1;unfold qu at ht;split at ht
 ·rename_i e' hu;obtain⟨i,hi,ht⟩:=Tf.1 ht;obtain⟨z',hz,ht⟩:=Ts.1 ht;cases ht;refine⟨bB,?_⟩;unfold execOp;rw[ho];dsimp only;refine az ?_;unfold Instr.buildSlice;refine ez hu ?_;dsimp only;refine kq hi ?_;rw[if_neg (by omega)];obtain⟨hlen,bt⟩:=F1 aE hp;obtain⟨eV,nX,vf⟩:=CF (JP (E:=E) z (len* i.size)) hlen bt hl;have fin:∀(rr:Nat),V.fresh rr->aR P (V.upd rr (.cells eV e)) (pure (W9 (.slice (some ⟨rr,0,none⟩) len len))) (m8 lv P r o a N Q) (λv V'=>Q (.panic [{v,recovered:=false}]) a V'):=λrr hf=>
   aR.ghost (akp hf (hc.akf hf.1).1) (au (h1 _ _ _ (hc.kK hf eV).1 rfl rfl (hc.kK hf eV).2 (ap.apJ hc hf vf (SP _) rfl)))
  have e2:(λj=>some (j* i.size,i.size))=iq.at (.elems i.size):=rfl;rw[e2];by_cases h0:len* i.size=0
  ·rw[if_pos h0];refine az (au ?_);rw[h0]at nX⊢;rw[show WN 0=#[]from rfl]at nX⊢;simp only[List.map_toArray,List.map_nil,VN]at nX⊢;rw[nX];unfold newRow;exact az (az (az (pi λrr hf=>cM (au (au (au (fin rr hf)))))))
  ·rw[if_neg h0];refine az (az ?_);unfold typeInfo;refine az (ri (cM ?_));rw[hi];refine au ?_;rw[hz];refine au (az (au ?_));rw[VN,nX];unfold newRow;exact az (az (az (pi λrr hf=>cM (au (au (au (fin rr hf)))))))
 ·cases ht
end
open Go.Conc
def acb (P:SI)(t:TypeId):Bool:=match P.underlying t with
 |some (.int _)=>false
 |some _=>true
 |none=>false
def jC (P:SI)(t t':TypeId):Option (TypeId×Nat×SQ):=match P.underlying t with
 |some (.slice e)=>(P.info? e).bind λi=>i.zero.bind λz=>if z.cells.size=i.size/\i.bytes<=2^16/\i.bytes≠0/\acb P t'=true then some (e,i.size,z)else none
 |_=>none
theorem jC.out{P:SI}{t t' e:TypeId}{sz:Nat}{z:SQ}(h:jC P t t'=some (e,sz,z)):∃i d,P.underlying t=some (.slice e)/\P.info? e=some i/\i.zero=some z/\i.size=sz/\z.cells.size=sz/\i.bytes<=2^16/\i.bytes≠0/\P.underlying t'=some d/\(∀k,d≠ .int k):=by
 unfold jC at h;split at h
 ·rename_i e' hu;obtain⟨i,h1,h⟩:=Tf.1 h;obtain⟨z',h2,h⟩:=Tf.1 h;split at h
  ·rename_i hc;obtain⟨c1,c2,c3,c4⟩:=hc;cases h;unfold acb at c4;split at c4
   ·cases c4
   ·rename_i d hd aG;exact⟨i,d,hu,h1,h2,rfl,c1,c2,c3,aG,λk e=>hd k e⟩
   ·cases c4
  ·cases h
 ·cases h
def AS.src (s:AS)(sz:Nat):AV->Option (Nat×List AV)
 |.sl m l _=>some (m,l.take (m* sz))
 |.bz id off m _=>match s.H[id]?with
  |some (.cells l _)|some (.part _ l _)|some (.own _ l _)=>some (m,(l.drop off).take (m* sz))
  |_=>none
 |_=>none
section
variable {P:SI}{E:Env}{V:View}{s:AS}{K:Array SQ->View->Prop}{Kp:SQ->View->Prop}
theorem FX{l:List AV}{f:Nat->SQ}{n:Nat}(hn:n<=l.length)(h:∀(i:Nat) x,l[i]?=some x->ap E x (f i)):cN E (l.take n) ((S0 n).map f).toArray:=by
 have:=JN hn h;cases this with
 |agg h1 h2=>exact⟨h1,h2⟩
theorem EF(hc:Conc E V s.H){av:AV}{v:SQ}(hd:ap E av v){sz m k:Nat}{l:List AV}(h:s.src sz av=some (m,l))(hl:l.length=m* sz)(hk:k<=m)(hK:∀cs,cN E (l.take (k* sz)) cs->K cs V):aR P V (Vz sz k v) K Kp:=by
 have hks:k* sz<=m* sz:=TK _ hk;cases hd with
 |sl b o cap f dU he h1 h2=>
  cases h;rename_i l _;simp only[TC]at hl;have e:(l.take (m* sz)).take (k* sz)=l.take (k* sz):=by rw[U9];congr 1;omega
  rw[e]at hK;unfold Vz;exact Bx (f:=f) (λhp=>(hc.abh (h1 0 (by omega))).1) (λj hj=>by unfold View.get;rw[<- hc.I,h1 j (by omega)]) (hK _ (FX (by omega) h2))
 |nil he=>
  cases h;have:k=0:=by omega
  subst this;have hK:=hK #[] ⟨by simp,by simp⟩;unfold Vz;split
  ·rw[apH];exact au hK
  ·exact au hK
  ·rename_i h;cases h
  ·rename_i a _ _ h1 h2 _;cases a with
   |none=>exact(h2 _ _ rfl).elim
   |some x=>exact(h1 _ _ _ rfl).elim
 |bz hi dU=>
  rename_i id off m' cap cap';simp only[AS.src]at h;cases hq:s.H[id]?with
  |none=>rw[hq]at h;cases h
  |some ob=>
   rw[hq]at h;cases ob with
   |cells l' el=>
    cases h;obtain⟨⟨cs,ho,hs,bt⟩,l6⟩:=hc.obj id _ hq;simp only[TC,Ur]at hl;have e:((l'.drop off).take (m* sz)).take (k* sz)=(l'.drop off).take (k* sz):=(by rw[U9];congr 1;omega);rw[e]at hK;unfold Vz;refine Bx (f:=λi=>cs.getD (off+i) undef) (λ_=>(hc.jv hq rfl).1) (λj hj=> ?_) (hK _ (FX (by simp only[Ur];omega) λi x hx=> ?_))
    ·unfold View.get;rw[l6,ho];have hlt:off+j<cs.size:=(by omega);simp only[SH,SJ hlt,S7]
    ·rw[Us]at hx;exact bt _ _ hx
   |part p l' el=>
    cases h;obtain⟨⟨cs,ho,⟨hs,bt⟩,mH⟩,l6⟩:=hc.obj id _ hq;simp only[TC,Ur]at hl;have e:((l'.drop off).take (m* sz)).take (k* sz)=(l'.drop off).take (k* sz):=(by rw[U9];congr 1;omega);rw[e]at hK;unfold Vz;refine Bx (f:=λi=>cs.getD (off+i) undef) (λ_=>(hc.jv hq rfl).1) (λj hj=> ?_) (hK _ (FX (by simp only[Ur];omega) λi x hx=> ?_))
    ·have hlt:off+j<cs.size:=(by omega);unfold View.get;by_cases hp:off+j<p
     ·rw[mH _ hp];simp only[SH,SJ hlt,S7]
     ·rw[l6 _ (by omega),ho];simp only[SH,SJ hlt,S7]
    ·rw[Us]at hx;exact bt _ _ hx
   |own eG l' el=>
    cases h;obtain⟨⟨cs,ho,⟨hs,bt⟩,_⟩,l6⟩:=hc.obj id _ hq;simp only[TC,Ur]at hl;have e:((l'.drop off).take (m* sz)).take (k* sz)=(l'.drop off).take (k* sz):=(by rw[U9];congr 1;omega);rw[e]at hK;unfold Vz;refine Bx (f:=λi=>cs.getD (off+i) undef) (λ_=>(hc.jv hq rfl).1) (λj hj=> ?_) (hK _ (FX (by simp only[Ur];omega) λi x hx=> ?_))
    ·have hlt:off+j<cs.size:=(by omega);unfold View.get;rw[l6,ho];simp only[SH,SJ hlt,S7]
    ·rw[Us]at hx;exact bt _ _ hx
   |_=>cases h
 |_=>cases h
theorem It{av:AV}{v:SQ}(hd:ap E av v){sz m:Nat}{l:List AV}(h:s.src sz av=some (m,l)):avC v=pure m:=by
 cases hd with
 |sl=>cases h;rfl
 |nil=>cases h;rfl
 |bz=>
  simp only[AS.src]at h;split at h
  ·cases h;rfl
  ·cases h;rfl
  ·cases h;rfl
  ·cases h
 |_=>cases h
end
theorem RZ(vX:Nat):∀(r c:Nat),c<=2* vX+200->Zu vX r c<=2* vX+200
 |0,c,h=>h
 |r+1,c,h=>by
  unfold Zu;split
  ·exact h
  ·exact RZ vX r _ (by omega)
theorem aoD(vX cap:Nat)(h:cap<vX):W7 vX cap<=2* vX+200:=by
 unfold W7;split
 ·omega
 ·split
  ·omega
  ·exact RZ vX 4 cap (by omega)
theorem CB{E:Env}{l m:List AV}{x y:Array SQ}(h:cN E l x)(k:cN E m y):cN E (l++m) (x++y):=by
 refine⟨by simp[h.1,k.1],λi a e=> ?_⟩;by_cases hi:i<l.length
 ·rw[SY hi]at e;have:=h.2 i a e;rw[SH,Yd (by rw[h.1];exact hi)];rwa [SH]at this
 ·rw[S_ (by omega)]at e;have:=k.2 _ a e;rw[SH,X9 (by rw[h.1];omega),h.1];rwa [SH]at this
theorem Ov{P:SI}{V:View}{α:Type}{K:α->View->Prop}{Kp:SQ->View->Prop}{b:Bool}{k:Bool->Sem α}(hb:b=false)(h:aR P V (k false) K Kp):aR P V (pure b>>=k) K Kp:=by
 subst hb;exact az (au h)
section
variable {P:SI}{E:Env}{V:View}{s:AS}{K:SQ->View->Prop}{Kp:SQ->View->Prop}
theorem adf{n:Nat}{K:Unit->View->Prop}(h:K () V):aR P V (askRoom n) K Kp:=by
 unfold askRoom;split
 ·exact arn (cM h)
 ·exact au h
theorem ade(hc:Conc E V s.H){t t' e:TypeId}{sz n m cap:Nat}{z:SQ}{base:Option Va}{av:AV}{v:SQ}{ax:AV}{l l':List AV}{ty:TypeId}(ht:jC P t t'=some (e,sz,z))(hd:ap E ax (.slice base n cap))(de:s.src sz ax=some (n,l))(cF:ap E av v)(hs:s.src sz av=some (m,l'))
  (hl:l.length=n* sz) (eR:l'.length=m* sz) (hb:n+m<=2^30) (LH:cap<n+m)
  (hK:∀r cs cap',V.fresh r->cN E (l++l') (cs.extract 0 ((n+m)* sz))->n+m<=cap'->cs.size=cap'* sz->K (.slice (some ⟨r,0,none⟩) (n+m) cap') (V.upd r (.cells cs e))):aR P V (VD #[t,t'] ty #[.slice base n cap,v]) K Kp:=by
 obtain⟨i,d,h1,h2,h3,h4,h5,h6,h7,h8,h9⟩:=jC.out ht;unfold VD;simp only[Vm,Vx,UR];refine ez h1 ?_;dsimp only;refine kq h2 ?_;rw[h4];refine ez h8 ?_;refine Ov (by cases d<;>first|rfl|exact absurd rfl (h9 _)) ?_;simp only[TR,if_false,YE,if_true];rw[It cF hs];refine az (au ?_);rw[if_neg (by omega)];refine zy h2 ?_;rw[if_neg (by intro hx;exact hx.2.elim (λx=>x.elim) h7)];refine zy h2 ?_;have dU:=aoD (n+m) cap LH;have hmul:W7 (n+m) cap* i.bytes<=(2* 2^30+200)* 2^16:=ZX (by omega) h6;rw[if_neg (by omega)];refine az (adh (λhf=>by cases hf) (λ_ t=>cM ?_));generalize jm:ZA (.appendCap (n+m) cap e) t=cap';have Gw:n+m<=cap':=by rw[<- jm];exact Nat.le_add_right _ _
 refine zy h2 (az (adf (az ?_)));refine EF hc hd de hl (SP _) λAg Lj=> ?_;refine az (EF hc cF hs eR (SP _) λjH lC=> ?_);refine Iq (z:=z) (by unfold eU;rw[h2];exact h3) ?_;rw[<- hl,Tp]at Lj;rw[<- eR,Tp]at lC;unfold newRow;refine az (az (pi λr hf=>cM (au (au ?_))));have amC:Ag.size=n* sz:=by rw[Lj.1,hl]
 have A4:jH.size=m* sz:=by rw[lC.1,eR]
 have aY:(Ag++jH).size=(n+m)* sz:=by rw[XF,amC,A4,Vo]
 refine hK r _ cap' hf ?_ Gw ?_
 ·have e1:(Ag++jH++Xo z.cells (cap'-(n+m))).extract 0 ((n+m)* sz)=Ag++jH:=by
   rw[<- aY];generalize Ag++jH=q;apply VH;simp[Array.toList_extract,List.extract_eq_take_drop]
  rw[e1];exact CB Lj lC
 ·rw[XF,aY];have:(Xo z.cells (cap'-(n+m))).size=(cap'-(n+m))* sz:=by simp[Xo,h5]
  rw[this,<- Vo];congr 1;omega
theorem Io(hc:Conc E V s.H){t t' e:TypeId}{sz n m cap:Nat}{z:SQ}{base:Option Va}{av:AV}{v:SQ}{en:End}{l l':List AV}{ty:TypeId}(ht:jC P t t'=some (e,sz,z))(hd:ap E (.sl n l en) (.slice base n cap))(cF:ap E av v)(hs:s.src sz av=some (m,l'))
  (hl:l.length=n* sz) (eR:l'.length=m* sz) (hb:n+m<=2^30) (LH:cap<n+m)
  (hK:∀r cs cap',V.fresh r->cN E (l++l') (cs.extract 0 ((n+m)* sz))->n+m<=cap'->cs.size=cap'* sz->K (.slice (some ⟨r,0,none⟩) (n+m) cap') (V.upd r (.cells cs e))):aR P V (VD #[t,t'] ty #[.slice base n cap,v]) K Kp:=
 ade hc ht hd (by simp only[AS.src];rw[<- hl,Tp]) cF hs hl eR hb LH hK
theorem Ip(hc:Conc E V s.H){t t' e:TypeId}{sz n cap:Nat}{z:SQ}{base:Option Va}{av:AV}{v:SQ}{l':List AV}{ty:TypeId}(ht:jC P t t'=some (e,sz,z))(cF:ap E av v)(hs:s.src sz av=some (0,l'))
  (eR:l'.length=0* sz) (hle:n<=cap) (hK:K (.slice base n cap) V):aR P V (VD #[t,t'] ty #[.slice base n cap,v]) K Kp:=by
 obtain⟨i,d,h1,h2,h3,h4,h5,h6,h7,h8,h9⟩:=jC.out ht;unfold VD;simp only[Vm,Vx,UR];refine ez h1 ?_;dsimp only;refine kq h2 ?_;rw[h4];refine ez h8 ?_;refine Ov (by cases d<;>first|rfl|exact absurd rfl (h9 _)) ?_;simp only[TR,if_false,YE,if_true];rw[It cF hs];refine az (au ?_);rw[if_pos (by omega)];refine az (EF hc cF hs eR (SP _) λjH lC=> ?_);have A4:jH=#[]:=by
  have:=lC.1;apply Array.eq_empty_of_size_eq_zero;rw[this];simp
 subst A4;rw[UJ];cases base with
 |none=>exact au hK
 |some a=>
  dsimp only;unfold storeCells;exact az (au (au hK))
theorem adc(hc:Conc E V s.H){t t' e:TypeId}{sz n m cap:Nat}{z:SQ}{b:Nat}{av:AV}{v:SQ}{l':List AV}{ty:TypeId}{cs:Array SQ}{el:TypeId}(ht:jC P t t'=some (e,sz,z))(cF:ap E av v)(hs:s.src sz av=some (m,l'))
  (eR:l'.length=m* sz) (hle:n+m<=cap) (ho:V.own b=some (.cells cs el (0,0))) (aY:cap* sz<=cs.size) (hi:∀o,n* sz<=o->V.ab b o=none) (hg:V.role.group≠some b/\V.role.chan≠some b) (nY:∀a∈l',a.leaf=true)
  (hK:∀jH,cN E l' jH->K (.slice (some ⟨b,0,none⟩) (n+m) cap) (V.upd b (.cells (storeAt cs (n* sz) jH.toList) el (0,0)))):aR P V (VD #[t,t'] ty #[.slice (some ⟨b,0,none⟩) n cap,v]) K Kp:=by
 obtain⟨i,d,h1,h2,h3,h4,h5,h6,h7,h8,h9⟩:=jC.out ht;unfold VD;simp only[Vm,Vx,UR];refine ez h1 ?_;dsimp only;refine kq h2 ?_;rw[h4];refine ez h8 ?_;refine Ov (by cases d<;>first|rfl|exact absurd rfl (h9 _)) ?_;simp only[TR,if_false,YE,if_true];rw[It cF hs];refine az (au ?_);rw[if_pos (by omega)];refine az (EF hc cF hs eR (SP _) λjH lC=> ?_);rw[<- eR,Tp]at lC;rw[add_plain];have vA:(n+m)* sz<=cap* sz:=TK _ hle;rw[Vo]at vA;refine az (Bz _ 0 V cs hg.1 hg.2 ho (λo h _=>hi o (by omega)) (by have:=lC.1;simp;omega) (CC lC nY) ?_);rw[Wv,UJ];exact au (hK jH lC)
end
def Env.tok (E:Env)(I:cE)(rm:Option Va×Nat)(v:Nat):Env:={E with I:=I,n:=E.n+1,room:=λk u=>if k=E.n/\u=v then rm else E.room k u,fH:=λk=>if k=E.n then v else E.fH k}
theorem Env.Np(E:Env){I:cE}(hI:∀b o v,E.I b o=some v->I b o=some v)(rm:Option Va×Nat)(v:Nat):E.Le (E.tok I rm v):=
 ⟨hI,Y4 _,λk hk=>rfl,λk hk=>by simp[Env.tok,Wd hk],λk u hk _=>by simp[Env.tok,Wd hk],rfl,rfl⟩
def Env.grow (E:Env)(I:cE)(k:Nat)(rm:Option Va×Nat)(v:Nat):Env:={E with I:=I,room:=λj u=>if j=k/\u=v then rm else E.room j u,fH:=λj=>if j=k then v else E.fH j}
theorem Env.abA(E:Env){I:cE}(hI:∀b o v,E.I b o=some v->I b o=some v){k:Nat}(rm:Option Va×Nat){v:Nat}(hv:E.fH k<v):E.Le (E.grow I k rm v):=
 ⟨hI,SP _,λ_ _=>rfl,λj _=>by
  simp only[Env.grow];split
  ·rename_i e;subst e;omega
  ·exact SP _,λj u _ hu=>by
  simp only[Env.grow];split
  ·rename_i e;obtain⟨rfl,rfl⟩:=e;omega
  ·rfl,rfl,rfl⟩
open Go.Conc
abbrev View.laid (V:View)(b:Nat)(cs:Array SQ)(el:TypeId)(p:Nat->Bool):View:=(V.upd b (.cells cs el (0,0))).eT b cs p
theorem Nl{V:View}{b b':Nat}{cs:Array SQ}{el:TypeId}{p:Nat->Bool}(h:b'≠b):(V.laid b cs el p).own b'=V.own b':=by simp[View.laid,View.eT,View.upd,h]
theorem Nk{V:View}{b b':Nat}{cs:Array SQ}{el:TypeId}{p:Nat->Bool}(h:b'≠b)(o:Nat):(V.laid b cs el p).ab b' o=V.ab b' o:=by simp[View.laid,View.eT,View.upd,h]
theorem HA{V:View}{b:Nat}{cs:Array SQ}{el:TypeId}{p:Nat->Bool}(hp:∀o,p o=true->V.ab b o=none):∀b' o v,V.ab b' o=some v->(V.laid b cs el p).ab b' o=some v:=λb' o v h=>by
 have hn:¬(b'=b/\p o=true):=λhb=>by obtain⟨rfl,h2⟩:=hb;rw[hp o h2]at h;cases h
 simp only[View.laid,View.eT,View.upd,if_neg hn];exact h
theorem Hz{V:View}{b:Nat}{cs:Array SQ}{el:TypeId}{p:Nat->Bool}{o:Nat}(h:p o=true):(V.laid b cs el p).ab b o=cs[o]?:=by simp[View.laid,View.eT,h]
theorem Nm{V:View}{b:Nat}{cs:Array SQ}{el:TypeId}{p:Nat->Bool}:(V.laid b cs el p).own b=some (.cells cs el (0,0)):=by simp[View.laid,View.eT,View.upd]
theorem JM{E:Env}{I:cE}{b n cap:Nat}{cs:Array SQ}{l:List AV}{e:End}{sz:Nat}(hI:E.I=I)(hd:cN E l (cs.extract 0 (n* sz)))(hl:l.length=n* sz)(hs:n* sz<=cs.size)(hi:∀o,o<n* sz->I b o=cs[o]?)(hc:n<=cap)(he:qk E e (some ⟨b,0,none⟩) n cap):ap E (.sl n l e) (.slice (some ⟨b,0,none⟩) n cap):=by
 refine .sl b 0 cap (λi=>cs.getD i undef) hc he (λi h=> ?_) (λi x hx=> ?_)
 ·rw[hl]at h;have hlt:i<cs.size:=by omega
  rw[hI,Wv,hi i h];simp only[SH,SJ hlt,S7]
 ·have cG:i<n* sz:=by rw[<- hl];exact(SN.1 hx).1
  have:=hd.2 i x hx;have hlt:i<cs.size:=by omega
  rw[SH,SJ hlt];rw[SH]at this;rw[Array.getElem?_extract]at this;have GR:i<min (n* sz) cs.size:=by omega
  simpa[cG,hlt,GR]using this
section
variable {E:Env}{V:View}{H:List aa}
theorem Conc.OR(hc:Conc E V H){n:Nat}(sz:Nat)(el:TypeId)(a:Option Va):Conc (E.tok V.ab (a,n) n) V (H++[.tail n sz el])/\E.Le (E.tok V.ab (a,n) n):=by
 have hle:=E.Np (I:=V.ab) (λb o v h=>by rw[<- hc.I];exact h) (a,n) n;refine⟨hc.iQ H.length (.tail n sz el) hle rfl (by simp[Env.tok,hc.n]) Ec rfl (λj hj _=>by simp[Env.tok,hc.n,hj]) (λb y _ hy=>⟨hy,λ_=>rfl⟩) ?_ (λb h=> ?_),hle⟩
 ·rw[<- hc.n];exact⟨by simp[Env.tok],.inl (by simp[Env.tok])⟩
 ·rw[<- hc.n]at h;simp[bP,Env.tok]at h
theorem Conc.ad7(hc:Conc E V H){r n cap sz:Nat}{el:TypeId}{cs:Array SQ}(hf:V.fresh r)(hs:cs.size=cap* sz)(hn:n<=cap):
  Conc (E.tok (V.laid r cs el (·<n* sz)).ab (some ⟨r,0,none⟩,cap) n) (V.laid r cs el (·<n* sz)) (H++[.tail n sz el])/\E.Le (E.tok (V.laid r cs el (·<n* sz)).ab (some ⟨r,0,none⟩,cap) n):=by
 have hle:=E.Np (I:=(V.laid r cs el (·<n* sz)).ab) (λb o v h=>HA (λo _=>hf.2 o) b o v (by rw[<- hc.I];exact h)) (some ⟨r,0,none⟩,cap) n;refine⟨hc.iQ H.length (.tail n sz el) hle rfl (by simp[Env.tok,hc.n]) Ec rfl (λj hj _=>by simp[Env.tok,hc.n,hj]) (λb y _ hy=> ?_) ?_ (λb h=> .inr ?_),hle⟩
 ·have hb:b≠r:=λe=>by subst e;rw[hf.1]at hy;cases hy
  exact⟨by rw[Nl hb];exact hy,λo=>Nk hb o⟩
 ·rw[<- hc.n];refine⟨by simp[Env.tok],?_⟩;by_cases e:cap=n
  ·exact .inl (by simp[Env.tok,e])
  ·refine .inr ⟨r,cap,cs,by simp[Env.tok],Nm,hs,by omega,λo ho=> ?_⟩;have:¬(decide (o<n* sz)=true):=(by simpa using ho);simp only[View.laid,View.eT];rw[if_neg (λx=>this x.2)];exact hf.2 o
 ·rw[<- hc.n]at h;simp[bP,Env.tok]at h;obtain⟨_,rfl⟩:=h;exact hf.1
theorem Conc.akt(hc:Conc E V H){k r n n' cap sz:Nat}{el gX:TypeId}{cs:Array SQ}(hk:H[k]?=some (.tail n sz gX))(hf:V.fresh r)(hs:cs.size=cap* sz)(hn:n'<=cap)(hlt:n<n'):
  Conc (E.grow (V.laid r cs el (·<n'* sz)).ab k (some ⟨r,0,none⟩,cap) n') (V.laid r cs el (·<n'* sz)) (H.set k (.tail n' sz el))/\E.Le (E.grow (V.laid r cs el (·<n'* sz)).ab k (some ⟨r,0,none⟩,cap) n'):=by
 have A8:E.fH k=n:=(hc.obj k _ hk).1;have hle:=E.abA (I:=(V.laid r cs el (·<n'* sz)).ab) (λb o v h=>HA (λo _=>hf.2 o) b o v (by rw[<- hc.I];exact h)) (k:=k) (some ⟨r,0,none⟩,cap) (v:=n') (by omega);refine⟨hc.iQ k (.tail n' sz el) hle rfl (by simpa[Env.grow]using hc.n) lM rfl (λj hj _=>by simp[Env.grow,hj]) (λb y _ hy=> ?_) ?_ (λb h=> .inr ?_),hle⟩
 ·have hb:b≠r:=λe=>by subst e;rw[hf.1]at hy;cases hy
  exact⟨by rw[Nl hb];exact hy,λo=>Nk hb o⟩
 ·refine⟨by simp[Env.grow],?_⟩;by_cases e:cap=n'
  ·exact .inl (by simp[Env.grow,e])
  ·refine .inr ⟨r,cap,cs,by simp[Env.grow],Nm,hs,by omega,λo ho=> ?_⟩;have:¬(decide (o<n'* sz)=true):=(by simpa using ho);simp only[View.laid,View.eT];rw[if_neg (λx=>this x.2)];exact hf.2 o
 ·simp[bP,Env.grow]at h;obtain⟨_,rfl⟩:=h;exact hf.1
theorem Conc.aku(hc:Conc E V H){k b n n' cap sz:Nat}{el gX:TypeId}{cs eV:Array SQ}(hk:H[k]?=some (.tail n sz gX))(hrm:E.room k n=(some ⟨b,0,none⟩,cap))(ho:V.own b=some (.cells cs el (0,0)))(hi:∀o,n* sz<=o->V.ab b o=none)(hs:eV.size=cap* sz)(hn:n'<=cap)(hlt:n<n'):
  Conc (E.grow (V.laid b eV el (λo=>n* sz<=o&&o<n'* sz)).ab k (some ⟨b,0,none⟩,cap) n') (V.laid b eV el (λo=>n* sz<=o&&o<n'* sz)) (H.set k (.tail n' sz el))/\E.Le (E.grow (V.laid b eV el (λo=>n* sz<=o&&o<n'* sz)).ab k (some ⟨b,0,none⟩,cap) n'):=by
 have A8:E.fH k=n:=(hc.obj k _ hk).1;have hp:∀o,(λo=>decide (n* sz<=o)&&decide (o<n'* sz)) o=true->V.ab b o=none:=λo h=>hi o (by simp at h;exact h.1);have hle:=E.abA (I:=(V.laid b eV el (λo=>n* sz<=o&&o<n'* sz)).ab) (λb o v h=>HA hp b o v (by rw[<- hc.I];exact h)) (k:=k) (some ⟨b,0,none⟩,cap) (v:=n') (by omega);have kT:bP E k (.tail n sz gX)=some b:=by
  simp only[bP,hrm];rw[if_neg (by omega)];rfl
 refine⟨hc.iQ k (.tail n' sz el) hle rfl (by simpa[Env.grow]using hc.n) lM rfl (λj hj _=>by simp[Env.grow,hj]) (λb' y fD hy=> ?_) ?_ (λb' h=> .inl ⟨_,hk,?_⟩),hle⟩
 ·have hb:b'≠b:=λe=>by subst e;exact fD _ hk kT
  exact⟨by rw[Nl hb];exact hy,λo=>Nk hb o⟩
 ·refine⟨by simp[Env.grow],?_⟩;by_cases e:cap=n'
  ·exact .inl (by simp[Env.grow,e])
  ·have GW:n* sz<=n'* sz:=TK _ (by omega);refine .inr ⟨b,cap,eV,by simp[Env.grow],Nm,hs,by omega,λo bi=> ?_⟩;have:¬((decide (n* sz<=o)&&decide (o<n'* sz))=true):=(by simp;omega);simp only[View.laid,View.eT];rw[if_neg (λx=>this x.2)];exact hi o (by omega)
 ·simp[bP,Env.grow]at h;obtain⟨_,rfl⟩:=h;exact kT
end
section
variable {lv:Bool}{P:SI}{r:Option Nat}{o:Tx}{s:AS}{next:AS->Prop}{bad:AV->AS->Prop}
def BS (s:AS)(dst:Option Nat)(next:AS->Prop)(n m sz:Nat)(elem:TypeId)(l l':List AV):End->Prop
 |.exact=>next ((⟨s.T,s.H++[.tail (n+m) sz elem]⟩:AS).put dst (.sl (n+m) (l++l') (.opn s.H.length)))
 |.opn k=>(match s.H[k]?with
   |some (.tail n' eG gX)=>n'=n/\eG=sz/\gX=elem
   |_=>False)/\(∀a∈l',a.leaf=true)/\next ((⟨s.T,s.H.set k (.tail (n+m) sz elem)⟩:AS).put dst (.sl (n+m) (l++l') (.opn k)))
 |.shut=>m=0/\next (s.put dst (.sl n l .shut))
theorem ahF{E E':Env}{n:Nat}{l:List AV}{en:End}{base:Option Va}{cap:Nat}(h:ap E (.sl n l en) (.slice base n cap))(hl:E.Le E'){e':End}(he:qk E' e' base n cap):ap E' (.sl n l e') (.slice base n cap):=by
 cases h with
 |sl b o cap f hc _ h1 h2=>exact .sl b o cap f hc he (λi hi=>hl.I _ _ _ (h1 i hi)) (λi x hx=>(h2 i x hx).mono hl)
 |nil _=>exact .nil he
theorem step_append{c:Xt}{x y:Tj}{t t' elem:TypeId}{sz n m:Nat}{z:SQ}{en:End}{l l':List AV}{av:AV}(ho:o.op=.call c)(ba:c.callee=.builtin .append)(cQ:c.args=#[x,y]) (dX:c.argTypes=#[t,t']) (ht:jC P t t'=some (elem,sz,z))
  (hx:s.ev x=some (.sl n l en)) (hy:s.ev y=some av) (hs:s.src sz av=some (m,l')) (hl:l.length=n* sz) (eR:l'.length=m* sz) (hb:n+m<=2^30) (hn:BS s o.dst next n m sz elem l l' en):Step lv P r o s next bad:=by
 intro E V a N Q hc aE hd bB h1 _;refine⟨bB,?_⟩;have dC:=ap.ev aE hx;have iU:=ap.ev aE hy;generalize kJ:a.eval x=vx at dC;generalize sk:a.eval y=vy at iU;unfold execOp;rw[ho];dsimp only;unfold resolve;rw[ba];dsimp only;refine az (au ?_);unfold invoke builtin;dsimp only;refine az ?_;have nZ:c.args.map a.eval=#[vx,vy]:=by rw[cQ];simp[kJ,sk]
 rw[nZ,dX];obtain⟨base,cap,rfl⟩:∃base cap,vx=.slice base n cap:=by
  cases dC with
  |sl b o cap f dU he q1 q2=>exact⟨_,_,rfl⟩
  |nil he=>exact⟨_,_,rfl⟩
 have dU:n<=cap:=by
  cases dC with
  |sl b o cap f dU he q1 q2=>exact dU
  |nil he=>exact SP _
 have fin:∀E' V' H' (m_:AV) v',E.Le E'->V'.role=V.role->V'.deaf=V.deaf->Conc E' V' H'->ap E' m_ v'->next ((⟨s.T,H'⟩:AS).put o.dst m_)->aR P V' (pure (W9 v')) (m8 lv P r o a N Q) (λv V'=>Q (.panic [{v,recovered:=false}]) a V'):=λE' V' H' m_ v' hle hr vg bp bt cT=>
  au (h1 E' V' (a.put o.dst v') ((⟨s.T,H'⟩:AS).put o.dst m_) ⟨hle,eo _ _ _,put_defers _ _ _,hr,vg⟩ (by rw[fx];exact bp) (cu.ii (s:=⟨s.T,H'⟩) (aE.mono hle) hd bt) cT)
 have ud:(l++l').length=(n+m)* sz:=by rw[SL,hl,eR,Vo]
 cases en with
 |exact=>
  have gY:cap=n:=by
   cases dC with
   |sl b o cap f dU he q1 q2=>exact he
   |nil he=>rfl
  subst gY;have iY:=hn;simp only[BS]at iY;by_cases hm:m=0
  ·subst hm;have tQ:l'=[]:=(by simpa using eR);subst tQ;refine Ip hc ht iU hs eR (SP _) ?_;obtain⟨bp,hle⟩:=hc.OR (n:=cap) sz elem base;refine fin _ V _ _ _ hle rfl rfl bp (ahF (e':=.opn s.H.length) dC hle ⟨?_,?_,?_⟩) (by simpa using iY)
   ·simp[Env.tok,hc.n]
   ·simp[Env.tok,hc.n]
   ·simp[Env.tok,hc.n]
  ·refine Io hc ht dC iU hs hl eR hb (by omega) λrr cs cap' hf bt hle aY=> ?_;obtain⟨bp,sd⟩:=hc.ad7 (el:=elem) hf aY hle;have vF:(cap+m)* sz<=cs.size:=(by rw[aY];exact TK _ hle);refine aR.ghost (yj (f:=(0,0)) (cs:=cs) (el:=elem) (p:=(·<(cap+m)* sz)) (by simp[View.upd]) (λo _=>hf.2 o)) ?_;refine fin _ _ _ _ _ sd rfl rfl bp (JM (I:=(V.laid rr cs elem (·<(cap+m)* sz)).ab) (e:=.opn s.H.length) (sz:=sz) (cs:=cs) rfl (bt.mono sd) ud vF (λo h=>Hz (by simpa using h)) hle ⟨?_,?_,?_⟩) iY
   ·simp[Env.tok,hc.n]
   ·simp[Env.tok,hc.n]
   ·simp[Env.tok,hc.n]
 |shut=>
  obtain⟨rfl,iY⟩:=hn;have tQ:l'=[]:=by simpa using eR
  subst tQ;refine Ip hc ht iU hs eR dU ?_;exact fin E V s.H _ _ (Env.Le.refl E) rfl rfl hc dC iY
 |opn k=>
  obtain⟨vu,nY,iY⟩:=hn;split at vu
  ·rename_i n' eG gX hk;obtain⟨rfl,rfl,rfl⟩:=vu;have heo:qk E (.opn k) base n' cap:=by
    cases dC with
    |sl b o cap f dU he q1 q2=>exact he
    |nil he=>exact he
   obtain⟨e1,e2,e3⟩:=heo;obtain⟨A8,G9⟩:=hc.obj k _ hk;have ub:s.H.set k (.tail n' eG gX)=s.H:=by
    apply Yp;intro i;by_cases hi:i=k
    ·subst hi;rw[Xd (SN.1 hk).1,hk]
    ·rw[Uc (Ne.symm hi)]
   by_cases hm:m=0
   ·subst hm;have tQ:l'=[]:=(by simpa using eR);subst tQ;refine Ip hc ht iU hs eR dU ?_;refine fin E V s.H _ _ (Env.Le.refl E) rfl rfl hc dC ?_;rw[UJ,ub,SO]at iY;exact iY
   ·by_cases j_:n'+m<=cap
    ·rcases G9 with G9|⟨b,auu,cs,r1,r2,r3,r4,r5⟩
     ·rw[e3]at G9;simp only at G9;omega
     ·rw[e3]at r1;cases r1;have kT:bP E k (.tail n' eG gX)=some b:=by
       simp only[bP,e3];rw[if_neg (by omega)];rfl
      refine adc hc ht iU hs eR j_ r2 (WL r3.symm) r5 (hc.jv hk kT) nY λjH lC=> ?_;have A4:jH.toList.length=m* eG:=(by have:=lC.1;simp;omega);have vA:(n'+m)* eG<=cap* eG:=TK _ j_;rw[Vo]at vA;have uc:(storeAt cs (n'* eG) jH.toList).size=cap* eG:=(by rw[zC];exact r3);obtain⟨bp,sd⟩:=hc.aku hk e3 r2 r5 uc j_ (by omega);refine aR.ghost (yj (f:=(0,0)) (cs:=storeAt cs (n'* eG) jH.toList) (el:=gX) (p:=λo=>n'* eG<=o&&o<(n'+m)* eG) (by simp[View.upd]) (λo h=>r5 o (by simp at h;exact h.1))) ?_;refine fin _ _ _ _ _ sd rfl rfl bp ?_ iY;cases dC with
      |nil he=>exact absurd j_ (by omega)
      |sl b' o' cap f Gw he q1 q2=>
       have q1':∀i,i<l.length->V.ab b i=some (f i):=λi hi=>(by have:=q1 i hi;rwa [hc.I,Wv]at this);refine .sl b 0 cap (λi=>if i<n'* eG then f i else(storeAt cs (n'* eG) jH.toList).getD i undef) (by omega) ⟨?_,?_,?_⟩ (λi hi=> ?_) (λi x hx=> ?_)
       ·exact e1
       ·simp[Env.grow]
       ·simp[Env.grow]
       ·rw[ud,Vo]at hi;show (V.laid b (storeAt cs (n'* eG) jH.toList) gX (λo=>n'* eG<=o&&o<(n'+m)* eG)).ab b (0+i)=_;rw[Wv];by_cases cG:i<n'* eG
        ·rw[if_pos cG];exact HA (λo h=>r5 o (by simp at h;exact h.1)) _ _ _ (q1' i (by omega))
        ·rw[if_neg cG,Hz (by simp[Vo];omega)];have hlt:i<(storeAt cs (n'* eG) jH.toList).size:=(by rw[uc];omega);simp only[SH,SJ hlt,S7]
       ·by_cases cG:i<n'* eG
        ·rw[SY (by omega)]at hx;rw[if_pos cG];exact(q2 i x hx).mono sd
        ·rw[S_ (by omega)]at hx;have vp:i-l.length<l'.length:=(SN.1 hx).1;rw[if_neg cG,EM _ _ _ _ (by rw[A4,r3];omega),if_pos (by rw[A4];omega)];have:=(lC.2 _ _ hx).mono sd;rw[hl]at this;simpa[SH,SE]using this
    ·refine Io hc ht dC iU hs hl eR hb (by omega) λrr cs cap' hf bt hle aY=> ?_;obtain⟨bp,sd⟩:=hc.akt (el:=gX) (n':=n'+m) hk hf aY hle (by omega);have vF:(n'+m)* eG<=cs.size:=(by rw[aY];exact TK _ hle);refine aR.ghost (yj (f:=(0,0)) (cs:=cs) (el:=gX) (p:=(·<(n'+m)* eG)) (by simp[View.upd]) (λo _=>hf.2 o)) ?_;refine fin _ _ _ _ _ sd rfl rfl bp (JM (I:=(V.laid rr cs gX (·<(n'+m)* eG)).ab) (e:=.opn k) (sz:=eG) (cs:=cs) rfl (bt.mono sd) ud vF (λo h=>Hz (by simpa using h)) hle ⟨?_,?_,?_⟩) iY
     ·exact e1
     ·simp[Env.grow]
     ·simp[Env.grow]
  ·exact vu.elim
def Env.iw (E:Env)(r:Nat)(I:cE)(c:Nat):Env:={E with I:=I,n:=E.n+1,blk:=λk=>if k=E.n then r else E.blk k,room:=λk u=>if k=E.n/\u=0 then(none,c)else E.room k u}
theorem Env.Eb(E:Env)(r c:Nat){I:cE}(hI:∀b o v,E.I b o=some v->I b o=some v):E.Le (E.iw r I c):=
 ⟨hI,Y4 _,λk hk=>by simp[Env.iw,Wd hk],λ_ _=>SP _,λk u hk _=>by simp[Env.iw,Wd hk],rfl,rfl⟩
theorem Env.xS(E:Env)(r c:Nat)(I:cE):(E.iw r I c).blk E.n=r:=by simp[Env.iw]
theorem Env.Jf(E:Env)(r c:Nat)(I:cE):(E.iw r I c).room E.n 0=(none,c):=by simp[Env.iw]
theorem Conc.iw{E:Env}{V:View}{H:List aa}(hc:Conc E V H){r c:Nat}(hf:V.fresh r){cs:Array SQ}{sz:Nat}{l:List AV}{el:TypeId}(hd:kx (E.iw r V.ab c) l cs)(hs:cs.size=c* sz):Conc (E.iw r V.ab c) (V.upd r (.cells cs el)) (H++[.own sz l el]):=by
 refine hc.iQ (E':=E.iw r V.ab c) H.length (.own sz l el) (E.Eb r c (λb o v h=>by rw[<- hc.I];exact h)) rfl (by simp[Env.iw,hc.n]) Ec rfl (λ_ _ _=>rfl) (λb z _ hz=>⟨?_,λ_=>rfl⟩) ?_ (λb h=> .inr ?_)
 ·have:b≠r:=λe=>by rw[e,hf.1]at hz;cases hz
  simpa[View.upd,this]using hz
 ·rw[<- hc.n];refine⟨⟨cs,by rw[Env.xS];simp[View.upd],hd,by rw[Env.Jf];exact hs⟩,λo=> ?_⟩;rw[Env.xS];exact hf.2 o
 ·rw[<- hc.n]at h;simp only[bP,Env.xS,Tl]at h;subst h;exact hf.1
theorem JK{E:Env}{H:List aa}(hn:E.n=H.length){r c n:Nat}(I:cE)(h:n<=c){cap:Nat}(o0:n<=cap)(hc:cap<=c)(h0:0<n):ap (E.iw r I c) (.bz H.length 0 n 0) (.slice (some ⟨r,0,none⟩) n cap):=by
 have:=ap.bz (E:=E.iw r I c) (id:=H.length) (off:=0) (n:=n) (cap:=0) (cap':=cap) (by show _<E.n+1;rw[hn];omega) ⟨o0,λe=>by omega,λ_=>by rw[<- hn,Env.Jf];exact hc⟩;have e:(E.iw r I c).blk H.length=r:=by rw[<- hn];exact E.xS r c I
 rwa [e]at this
theorem Conc.relabel{E:Env}{V:View}{H:List aa}(hc:Conc E V H){id sz:Nat}{l:List AV}{el:TypeId}(hk:H[id]?=some (.own sz l el)):Conc (E.iw (E.blk id) V.ab (E.room id 0).2) V (H.set id .gone++[.own sz l el]):=by
 have hle:=E.Eb (E.blk id) (E.room id 0).2 (I:=V.ab) (λb o v h=>by rw[<- hc.I];exact h);have auL:=(SN.1 hk).1;have hlt:∀(j:Nat) y,H[j]?=some y->j<E.n:=λj y h=>by rw[hc.n];exact(SN.1 h).1
 have rZ:∀(j:Nat) y,(H.set id .gone++[aa.own sz l el])[j]?=some y->(j=H.length/\y=.own sz l el)\/(j=id/\y=.gone)\/(j≠id/\H[j]?=some y):=λj y h=>by
  rcases Ec j y h with⟨h1,h2⟩|⟨_,h⟩
  ·exact .inl ⟨by simpa using h1,h2⟩
  ·rcases lM j y h with h|h
   ·exact .inr (.inl h)
   ·exact .inr (.inr h)
 have cR:∀(j:Nat) y b,H[j]?=some y->bP (E.iw (E.blk id) V.ab (E.room id 0).2) j y=some b->bP E j y=some b:=λj y b h e=>by rw[<- P4 hle (hlt j y h) (hc.obj j y h)];exact e
 have w8:∀b,bP (E.iw (E.blk id) V.ab (E.room id 0).2) H.length (.own sz l el)=some b->b=E.blk id:=λb e=>by
  simp only[bP,<- hc.n,Env.xS,Tl]at e;exact e.symm
 have fD:∀g,(∀(k:Nat) x,H[k]?=some x->bP E k x≠some g)->∀(k:Nat) x,(H.set id .gone++[aa.own sz l el])[k]?=some x->bP (E.iw (E.blk id) V.ab (E.room id 0).2) k x≠some g:=λg h0 k x hx e=>by
  rcases rZ k x hx with⟨rfl,rfl⟩|⟨_,rfl⟩|⟨_,hx⟩
  ·have:=w8 g e;exact h0 id _ hk (by rw[this];rfl)
  ·cases e
  ·exact h0 k x hx (cR k x g hx e)
 refine⟨rfl,by simp[Env.iw,hc.n],λj y h=> ?_,λi j y z b h1 h2 e1 e2=> ?_,λg hg=> ?_,λg hg=> ?_,λhm=>hc.top hm,λb y hf=> ?_⟩
 ·rcases rZ j y h with⟨rfl,rfl⟩|⟨_,rfl⟩|⟨_,h⟩
  ·obtain⟨⟨cs,q1,q2,q3⟩,q4⟩:=hc.obj id _ hk;rw[<- hc.n];refine⟨⟨cs,by rw[Env.xS];exact q1,q2.mono hle,by rw[Env.Jf];exact q3⟩,λo=> ?_⟩;rw[Env.xS];exact q4 o
  ·trivial
  ·exact(hc.obj j y h).mono hle (hlt j y h) rfl (λ_ _ _ h=>h) (λ_ _ _=>rfl)
 ·rcases rZ i y h1 with⟨rfl,rfl⟩|⟨_,rfl⟩|⟨hi,h1⟩
  ·rcases rZ j z h2 with⟨rfl,rfl⟩|⟨_,rfl⟩|⟨hj,h2⟩
   ·rfl
   ·cases e2
   ·have:=w8 b e1;exact absurd (hc.inj id j _ z b hk h2 (by rw[this];rfl) (cR j z b h2 e2)).symm hj
  ·cases e1
  ·rcases rZ j z h2 with⟨rfl,rfl⟩|⟨_,rfl⟩|⟨hj,h2⟩
   ·have:=w8 b e2;exact absurd (hc.inj id i _ y b hk h1 (by rw[this];rfl) (cR i y b h1 e1)).symm hi
   ·cases e2
   ·exact hc.inj i j y z b h1 h2 (cR i y b h1 e1) (cR j z b h2 e2)
 ·obtain⟨h0,h1,h2⟩:=hc.group g hg;exact⟨h0,h1,fD g h2⟩
 ·obtain⟨h0,h1,h2⟩:=hc.chan g hg;exact⟨h0,h1,fD g h2⟩
 ·obtain⟨h0,h1,h2⟩:=hc.fr b y hf;exact⟨h0,h1,fD b h2⟩
theorem Conc.leave{E:Env}{V:View}{H:List aa}(hc:Conc E V H)(id:Nat):Conc E V (H.set id .gone):=
 hc.iQ id .gone (Env.Le.refl E) hc.I (by simpa using hc.n) lM rfl (λ_ _ _=>rfl) (λ_ _ _ hy=>⟨hy,λ_=>rfl⟩) trivial (λb h=>by cases h)
theorem ahH{E:Env}{l l':List AV}{cs vs:Array SQ}(h:kx E l cs)(k:cN E l' vs)(hl:l.length+l'.length<=cs.size):kx E (l++l') (storeAt cs l.length vs.toList):=by
 have hv:vs.toList.length=l'.length:=by simpa using k.1
 refine⟨by rw[zC,SL];exact hl,λi a e=> ?_⟩;rw[EM _ _ _ _ (by rw[hv];exact hl),hv];by_cases h1:i<l.length
 ·rw[if_neg (by omega)];rw[SY h1]at e;exact h.2 i a e
 ·rw[S_ (by omega)]at e;have h2:=(SN.1 e).1;rw[if_pos ⟨by omega,by omega⟩];have:=k.2 _ a e;simpa[SH,SE]using this
theorem QB{E:Env}{l:List AV}{cs:Array SQ}{k:Nat}(h:cN E l (cs.extract 0 k))(hk:l.length=k)(hs:k<=cs.size):kx E l cs:=by
 refine⟨by omega,λi a e=> ?_⟩;have hi:=(SN.1 e).1;have fX:i<cs.size:=by omega
 have:=h.2 i a e;rw[SH,Array.getElem?_extract_of_lt (by omega)]at this;rw[SH];simpa[SJ fX]using this
theorem adL{c:Xt}{x y:Tj}{t t' elem:TypeId}{sz n m:Nat}{z:SQ}{l l':List AV}{av:AV}(ho:o.op=.call c)(ba:c.callee=.builtin .append)(cQ:c.args=#[x,y]) (dX:c.argTypes=#[t,t']) (ht:jC P t t'=some (elem,sz,z))
  (hx:s.ev x=some (.sl n l .exact)) (hy:s.ev y=some av) (hs:s.src sz av=some (m,l')) (hl:l.length=n* sz) (eR:l'.length=m* sz) (hb:n+m<=2^30) (hm:0<m) (hn:next ((⟨s.T,s.H++[.own sz (l++l') elem]⟩:AS).put o.dst (.bz s.H.length 0 (n+m) 0))):Step lv P r o s next bad:=by
 intro E V a N Q hc aE hd bB h1 _;refine⟨bB,?_⟩;have dC:=ap.ev aE hx;have iU:=ap.ev aE hy;generalize kJ:a.eval x=vx at dC;generalize sk:a.eval y=vy at iU;unfold execOp;rw[ho];dsimp only;unfold resolve;rw[ba];dsimp only;refine az (au ?_);unfold invoke builtin;dsimp only;refine az ?_;have nZ:c.args.map a.eval=#[vx,vy]:=by rw[cQ];simp[kJ,sk]
 rw[nZ,dX];obtain⟨base,cap,rfl⟩:∃base cap,vx=.slice base n cap:=by
  cases dC with
  |sl b o cap f dU he q1 q2=>exact⟨_,_,rfl⟩
  |nil he=>exact⟨_,_,rfl⟩
 have gY:cap=n:=by
  cases dC with
  |sl b o cap f dU he q1 q2=>exact he
  |nil he=>rfl
 subst gY;refine Io hc ht dC iU hs hl eR hb (by omega) λrr cs cap' hf bt hle aY=> ?_;have ud:(l++l').length=(cap+m)* sz:=by rw[SL,hl,eR,Vo]
 have vF:(cap+m)* sz<=cs.size:=by rw[aY];exact TK _ hle
 have oZ:E.Le (E.iw rr V.ab cap'):=E.Eb rr cap' (λb o v h=>by rw[<- hc.I];exact h);have bp:=hc.iw (el:=elem) (c:=cap') hf ((QB bt ud vF).mono oZ) aY;have pL:=JK hc.n (r:=rr) V.ab hle (n:=cap+m) (cap:=cap') hle (SP _) (by omega);exact au (h1 _ _ (a.put o.dst _) _ ⟨oZ,eo _ _ _,put_defers _ _ _,rfl,rfl⟩ (by rw[fx];exact bp) (cu.ii (s:=⟨s.T,s.H++[.own sz (l++l') elem]⟩) (aE.mono oZ) hd pL) hn)
theorem adK{c:Xt}{x y:Tj}{t t' elem el:TypeId}{sz n m c0 id:Nat}{z:SQ}{l l':List AV}{av:AV}(ho:o.op=.call c)(ba:c.callee=.builtin .append)(cQ:c.args=#[x,y]) (dX:c.argTypes=#[t,t']) (ht:jC P t t'=some (elem,sz,z))
  (hx:s.ev x=some (.bz id 0 n c0)) (yy:c0<n) (bZ:s.H[id]?=some (.own sz l el)) (hel:el=elem) (hy:s.ev y=some av) (hs:s.src sz av=some (m,l')) (hl:l.length=n* sz) (eR:l'.length=m* sz) (hb:n+m<=2^30) (nY:∀a∈l',a.leaf=true) (hn:next ((⟨s.T,s.H.set id .gone++[.own sz (l++l') elem]⟩:AS).put o.dst (.bz s.H.length 0 (n+m) 0))):Step lv P r o s next bad:=by
 subst hel;intro E V a N Q hc aE hd bB h1 _;refine⟨bB,?_⟩;have dC:=ap.ev aE hx;have iU:=ap.ev aE hy;generalize kJ:a.eval x=vx at dC;generalize sk:a.eval y=vy at iU;unfold execOp;rw[ho];dsimp only;unfold resolve;rw[ba];dsimp only;refine az (au ?_);unfold invoke builtin;dsimp only;refine az ?_;have nZ:c.args.map a.eval=#[vx,vy]:=by rw[cQ];simp[kJ,sk]
 rw[nZ,dX];have ali:=dC;have ud:(l++l').length=(n+m)* sz:=by rw[SL,hl,eR,Vo]
 have de:s.src sz (.bz id 0 n c0)=some (n,l):=by
  simp only[AS.src];rw[bZ];simp only[XD];rw[<- hl,Tp]
 cases dC with
 |bz hi dU=>
  rename_i cap';obtain⟨q1,_,q3⟩:=dU;have q3:=q3 yy;obtain⟨⟨cs,p1,p2,p3⟩,p4⟩:=hc.obj id _ bZ;by_cases j_:n+m<=cap'
  ·have oR:(n+m)* sz<=cap'* sz:=TK _ j_;have yw:cap'* sz<=cs.size:=(by rw[p3];exact TK _ q3);refine adc hc ht iU hs eR j_ p1 yw (λo _=>p4 o) (hc.jv bZ rfl) nY λjH lC=> ?_;have Ll:kx E (l++l') (storeAt cs (n* sz) jH.toList):=by
    rw[<- hl];exact ahH p2 lC (by rw[<- SL,ud];omega)
   have du:=hc.adq bZ Ll (by rw[zC];exact p3);have rZ:(s.H.set id (.own sz (l++l') el))[id]?=some (.own sz (l++l') el):=(by rw[Xd ((SN.1 bZ).1)]);have cq:=du.relabel rZ;rw[Xc]at cq;have oZ:E.Le (E.iw (E.blk id) V.ab (E.room id 0).2):=E.Eb _ _ (λb o v h=>by rw[<- hc.I];exact h);have pL:ap (E.iw (E.blk id) V.ab (E.room id 0).2) (.bz s.H.length 0 (n+m) 0) (.slice (some ⟨E.blk id,0,none⟩) (n+m) cap'):=JK hc.n V.ab (by omega) j_ q3 (by omega);exact au (h1 _ _ (a.put o.dst _) _ ⟨oZ,eo _ _ _,put_defers _ _ _,rfl,rfl⟩ (by rw[fx];exact cq) (cu.ii (s:=⟨s.T,s.H.set id .gone++[.own sz (l++l') el]⟩) (aE.mono oZ) hd pL) hn)
  ·refine ade hc ht ali de iU hs hl eR hb (by omega) λrr eV Cy hf bt hle aY=> ?_;have vF:(n+m)* sz<=eV.size:=(by rw[aY];exact TK _ hle);have oZ:E.Le (E.iw rr V.ab Cy):=E.Eb rr Cy (λb o v h=>by rw[<- hc.I];exact h);have Gv:=hc.leave id;have bp:=Gv.iw (el:=el) (c:=Cy) hf ((QB bt ud vF).mono oZ) aY;have pL:ap (E.iw rr V.ab Cy) (.bz s.H.length 0 (n+m) 0) (.slice (some ⟨rr,0,none⟩) (n+m) Cy):=JK hc.n V.ab hle hle (SP _) (by omega);exact au (h1 _ _ (a.put o.dst _) _ ⟨oZ,eo _ _ _,put_defers _ _ _,rfl,rfl⟩ (by rw[fx];exact bp) (cu.ii (s:=⟨s.T,s.H.set id .gone++[.own sz (l++l') el]⟩) (aE.mono oZ) hd pL) hn)
end
open Go.Conc
theorem br(n:Int)(h: -9223372036854775808<=n/\n<=9223372036854775807):SD.wrap n=n:=by
 have e:SD.wrap n=if n % 18446744073709551616>=9223372036854775808 then n % 18446744073709551616-18446744073709551616 else n % 18446744073709551616:=by
  unfold Xh;simp[avp,avo]
 rw[e];split<;>omega
def cP (P:SI){α:Type}(s:Sem α)(x:α):Prop:=∀w es,s.runT P w es=(.ok x w,es)
theorem cP.ok{P:SI}{α:Type}{V:View}{s:Sem α}{x:α}{K:α->View->Prop}{Kp:SQ->View->Prop}(h:cP P s x)(hk:K x V):aR P V s K Kp:=
 λw hw fb=>⟨#[],w,V,by simpa[fN]using dh.idle hw,.inl ⟨x,by rw[h w fb];simp,hk⟩⟩
theorem cP.bind{P:SI}{α β:Type}{V:View}{s:Sem α}{x:α}{f:α->Sem β}{K:β->View->Prop}{Kp:SQ->View->Prop}(h:cP P s x)(hk:aR P V (f x) K Kp):aR P V (s>>=f) K Kp:=
 az (h.ok hk)
def AV.ws:AV->Option Int
 |.val (.int _ n)=>some n
 |_=>none
theorem ap.ws{E:Env}{a:AV}{v:SQ}{n:Int}(hd:ap E a v)(h:a.ws=some n):∃k,v=.int k n:=by
 cases hd with
 |val x=>unfold AV.ws at h;split at h<;>simp_all
 |_=>cases h
def AS.jg (s:AS):Option Tj->Option (Option Int)
 |none=>some none
 |some x=>match s.ev x with
  |some a=>a.ws.map some
  |none=>none
theorem Ab{E:Env}{s:AS}{a:Act}(k:cu E s.T a.tmps){x:Option Tj}{i:Option Int}(h:s.jg x=some i):(i=none/\x.map a.eval=none)\/∃n kd,i=some n/\x.map a.eval=some (.int kd n):=by
 cases x with
 |none=>cases h;exact .inl ⟨rfl,rfl⟩
 |some x=>
  simp only[AS.jg]at h;split at h
  ·rename_i av hav;obtain⟨n,hn,rfl⟩:=lx h;obtain⟨kd,hv⟩:=(ap.ev k hav).ws hn;exact .inr ⟨n,kd,rfl,by simp[hv]⟩
  ·cases h
section
variable {P:SI}{V:View}{Kp:SQ->View->Prop}
theorem By{kd:T8}{n:Int}{y:Nat}{code:BoundsCode}{K:Nat->View->Prop}(h0:0<=n)(h1:n<=y)(h:K n.toNat V):aR P V (Zs (.int kd n) y code) K Kp:=by
 unfold Zs asIntOf;refine az (au ?_);dsimp only;rw[if_pos ⟨h0,h1⟩];exact au h
theorem Ox{E:Env}{s:AS}{a:Act}(k:cu E s.T a.tmps){isS:Bool}{len cap:Nat}{lo hi mx:Option Tj}{l h m:Option Int}(hl:s.jg lo=some l)(hh:s.jg hi=some h)(hm:s.jg mx=some m){K:Nat×Nat×Nat->View->Prop}
  (hlc:len<=cap) (c0:0<=l.getD 0) (c1:l.getD 0<=h.getD len) (c2:h.getD len<=m.getD cap) (c3:m.getD cap<=cap) (c4:m.isSome=true->h.isSome=true) (hK:K ((l.getD 0).toNat,(h.getD len).toNat,(m.getD cap).toNat) V):
  aR P V (Zh isS len cap (lo.map a.eval) (hi.map a.eval) (mx.map a.eval)) K Kp:=by
 unfold Zh;rcases Ab k hm with⟨rfl,em⟩|⟨vm,km,rfl,em⟩
 ·rw[em];refine az (au ?_);rcases Ab k hh with⟨rfl,eh⟩|⟨vh,kh,rfl,eh⟩
  ·rw[eh];refine az (au ?_);rcases Ab k hl with⟨rfl,el⟩|⟨vl,kl,rfl,el⟩
   ·rw[el];exact az (au (au (by simpa using hK)))
   ·rw[el];simp only[S7,Vu]at c0 c1 c2;exact az (By c0 c1 (au (by simpa using hK)))
  ·rw[eh];simp only[S7,Vu]at c0 c1 c2 c3;refine az (By (by omega) c2 ?_);rcases Ab k hl with⟨rfl,el⟩|⟨vl,kl,rfl,el⟩
   ·rw[el];exact az (au (au (by simpa using hK)))
   ·rw[el];simp only[S7,Vu]at c0 c1 c2;exact az (By c0 (by omega) (au (by simpa using hK)))
 ·rw[em];simp only[S7,Option.isSome_some,true_implies]at c2 c3 c4;rcases Ab k hh with⟨rfl,eh⟩|⟨vh,kh,rfl,eh⟩
  ·cases c4
  ·rw[eh];simp only[S7]at c1 c2 c0;refine az (By (by omega) c3 ?_);refine az (By (by omega) (by omega) ?_);rcases Ab k hl with⟨rfl,el⟩|⟨vl,kl,rfl,el⟩
   ·rw[el];exact az (au (au (by simpa using hK)))
   ·rw[el];simp only[S7]at c0 c1;exact az (By c0 (by omega) (au (by simpa using hK)))
end
def xN (n:Nat)(l:List AV)(e:End)(sz:Nat)(lo hi mx:Option Int)(k:AV->Prop):Prop:=
 l.length=n* sz/\0<=lo.getD 0/\lo.getD 0<=hi.getD n/\hi.getD n<=mx.getD n/\mx.getD n<=n/\(mx.isSome=true->hi.isSome=true)/\
 k (.sl ((hi.getD n).toNat-(lo.getD 0).toNat) ((l.drop ((lo.getD 0).toNat* sz)).take (((hi.getD n).toNat-(lo.getD 0).toNat)* sz))
  (if mx.isSome&&mx.getD n==hi.getD n then .exact else if lo.getD 0==0&&hi.getD n==n&&mx.isNone then e else .shut))
def kN (P:SI)(t:TypeId):Option (TypeId×Nat):=match P.underlying t with
 |some (.slice e)=>(P.info? e).map λi=>(e,i.size)
 |_=>none
def xI (P:SI)(t:TypeId):Option (Nat×Nat):=match P.underlying t with
 |some (.array n e)=>(P.info? e).map λi=>(n,i.size)
 |_=>none
open Go.Conc
section
variable {lv:Bool}{P:SI}{r:Option Nat}{o:Tx}{s:AS}{next:AS->Prop}{bad:AV->AS->Prop}
theorem aqm{t e:TypeId}{x:Tj}{lo hi mx:Option Tj}{l h m:Option Int}{n sz:Nat}{li:List AV}{en:End}(ho:o.op=.slice t x lo hi mx)(ht:kN P t=some (e,sz))(hx:s.ev x=some (.sl n li en))(hl:s.jg lo=some l)(hh:s.jg hi=some h)(hm:s.jg mx=some m)
  {k:AV->Prop} (hc:xN n li en sz l h m k):∃av,dF lv P r o s av/\k av:=by
 obtain⟨hlen,c0,c1,c2,c3,c4,hk⟩:=hc;refine⟨_,jb (λE V a hc aE=> ?_),hk⟩;have hd:=ap.ev aE hx;generalize hv:a.eval x=v at hd;unfold kN at ht;split at ht
 ·rename_i e' hu;obtain⟨i,cG,ht⟩:=lx ht;cases ht;unfold execOp;rw[ho];simp only[hv];refine az ?_;unfold Yl;refine ez hu ?_;dsimp only;unfold Z_;refine ez hu ?_;obtain⟨base,cap,rfl⟩:∃base cap,v=.slice base n cap:=by
   cases hd with
   |sl b o cap f dU he q1 q2=>exact⟨_,_,rfl⟩
   |nil he=>exact⟨_,_,rfl⟩
  have dU:n<=cap:=by
   cases hd with
   |sl b o cap f dU he q1 q2=>exact dU
   |nil he=>exact SP _
  dsimp only;have hmm:m.getD (cap:Int)=if m.isSome then m.getD n else cap:=by cases m<;>simp
  refine az (Ox aE hl hh hm dU c0 c1 ?_ ?_ c4 ?_)
  ·cases m with
   |none=>simp only[Vu]at c2⊢;omega
   |some m=>simpa using c2
  ·cases m with
   |none=>simp
   |some m=>simp only[S7]at c3⊢;omega
  refine kq cG ?_;refine au (au ⟨rfl,_,rfl,?_⟩);generalize hA:(l.getD 0).toNat=A;generalize hB:(h.getD (n:Int)).toNat=B;have R0:A<=B:=by omega
  have hBn:B<=n:=by omega
  generalize hM:(m.getD (cap:Int)).toNat=M;have hBM:B<=M:=by
   cases m with
   |none=>simp only[Vu]at hM;omega
   |some m=>simp only[S7]at hM c2;omega
  cases hd with
  |nil he=>
   have Gd:A=0:=(by omega);have hB0:B=0:=(by omega);have hM0:M=0:=by
    cases m with
    |none=>simp only[Vu]at hM;omega
    |some m=>simp only[S7]at hM c3;omega
   rw[Gd,hB0,hM0];simp only[if_true,Z8,apH,Za];refine .nil ?_;split
   ·rfl
   ·split
    ·exact he
    ·trivial
  |sl b o cap f dU he q1 q2=>
   have C1:(if M=A then some (⟨b,o,none⟩:Va)else(some (⟨b,o,none⟩:Va)).map λx=>x.add (A* i.size))=some ⟨b,if M=A then o else o+A* i.size,none⟩:=by
    split
    ·rfl
    ·simp only[UU,add_plain]
   rw[C1];have hb:(B-A)* i.size+A* i.size<=n* i.size:=(by rw[<- Vo];exact TK _ (by omega));refine .sl b _ (M-A) (λj=>f (A* i.size+j)) (by omega) ?_ (λj hj=> ?_) (λj y hj=> ?_)
   ·split
    ·rename_i hx;simp only[Tg,beq_iff_eq]at hx;cases m with
     |none=>simp at hx
     |some m=>
      simp only[S7]at hM hx;show M-A=B-A;omega
    ·split
     ·rename_i hx;simp only[Tg,beq_iff_eq]at hx;obtain⟨⟨x1,x2⟩,x3⟩:=hx;have:A=0:=(by omega);have:B=n:=(by omega);cases m with
      |some m=>cases x3
      |none=>
       simp only[Vu]at hM;have hMc:M=cap:=(by omega);subst hMc;have e1:M-A=M:=(by omega);have e2:B-A=n:=(by omega);have e3:(if M=A then o else o+A* i.size)=o:=(by split<;>simp_all);rw[e1,e2,e3];exact he
     ·trivial
   ·simp only[TC,Ur]at hj;have hMA:M≠A:=by
     intro e;have:B-A=0:=(by omega);rw[this]at hj;omega
    rw[if_neg hMA,U7];exact q1 _ (by omega)
   ·rw[Uj]at hj;split at hj
    ·rw[Us]at hj;exact q2 _ _ hj
    ·cases hj
 ·cases ht
def sY (id off n cap sz:Nat)(lo hi mx:Option Int)(k:AV->Prop):Prop:=
 n<=cap/\0<=lo.getD 0/\lo.getD 0<=hi.getD n/\hi.getD n<=mx.getD cap/\mx.getD cap<=cap/\(mx.isSome=true->hi.isSome=true)/\(lo.getD 0=0\/lo.getD 0<mx.getD cap)/\
 k (.bz id (off+(lo.getD 0).toNat* sz) ((hi.getD n).toNat-(lo.getD 0).toNat) ((mx.getD cap).toNat-(lo.getD 0).toNat))
theorem aqo{t e:TypeId}{x:Tj}{lo hi mx:Option Tj}{l h m:Option Int}{id off n cap sz:Nat}(ho:o.op=.slice t x lo hi mx)(ht:kN P t=some (e,sz))(hx:s.ev x=some (.bz id off n cap))(hl:s.jg lo=some l)(hh:s.jg hi=some h)(hm:s.jg mx=some m)
  {k:AV->Prop} (hc:sY id off n cap sz l h m k):∃av,dF lv P r o s av/\k av:=by
 obtain⟨hlen,c0,c1,c2,c3,c4,c5,hk⟩:=hc;refine⟨_,jb (λE V a hc aE=> ?_),hk⟩;have hd:=ap.ev aE hx;generalize hv:a.eval x=v at hd;unfold kN at ht;split at ht
 ·rename_i e' hu;obtain⟨i,cG,ht⟩:=lx ht;cases ht;unfold execOp;rw[ho];simp only[hv];refine az ?_;unfold Yl;refine ez hu ?_;dsimp only;unfold Z_;refine ez hu ?_;cases hd with
  |bz bZ dU=>
   rename_i cap';obtain rfl:cap=cap':=dU.2.1 hlen;dsimp only;refine az (Ox aE hl hh hm hlen c0 c1 c2 c3 c4 ?_);refine kq cG ?_;refine au (au ⟨rfl,_,rfl,?_⟩);have C1:(if(m.getD (cap:Int)).toNat=(l.getD 0).toNat then some (⟨E.blk id,off,none⟩:Va)else(some (⟨E.blk id,off,none⟩:Va)).map λx=>x.add ((l.getD 0).toNat* i.size))=some ⟨E.blk id,off+(l.getD 0).toNat* i.size,none⟩:=by
    split
    ·have:(l.getD 0).toNat=0:=(by omega);rw[this];simp
    ·simp only[UU,add_plain]
   rw[C1];exact .bz bZ ⟨by dsimp only;omega,λ_=>rfl,λh=>absurd h (by omega)⟩
 ·cases ht
theorem aqn{t:TypeId}{x:Tj}{lo hi mx:Option Tj}{l h m:Option Int}{id off n sz:Nat}(ho:o.op=.slice t x lo hi mx)(ht:xI P t=some (n,sz))(hx:s.ev x=some (.op id off))(hl:s.jg lo=some l)(hh:s.jg hi=some h)(hm:s.jg mx=some m)
  {k:AV->Prop} (hc:sY id off n n sz l h m k):∃av,dF lv P r o s av/\k av:=by
 obtain⟨hlen,c0,c1,c2,c3,c4,c5,hk⟩:=hc;refine⟨_,jb (λE V a hc aE=> ?_),hk⟩;have hd:=ap.ev aE hx;generalize hv:a.eval x=v at hd;unfold xI at ht;split at ht
 ·rename_i m' e' hu;obtain⟨i,cG,ht⟩:=lx ht;cases ht;unfold execOp;rw[ho];simp only[hv];refine az ?_;unfold Yl;refine ez hu ?_;cases hd with
  |op bZ=>
   dsimp only;unfold Vj;refine az (au ?_);refine az (Ox aE hl hh hm hlen c0 c1 c2 c3 c4 ?_);refine kq cG ?_;refine au (au ⟨rfl,_,rfl,?_⟩);have C1:(if(m.getD (n:Int)).toNat=(l.getD 0).toNat then(⟨E.blk id,off,none⟩:Va)else(⟨E.blk id,off,none⟩:Va).add ((l.getD 0).toNat* i.size))=⟨E.blk id,off+(l.getD 0).toNat* i.size,none⟩:=by
    split
    ·have:(l.getD 0).toNat=0:=(by omega);rw[this];simp
    ·rw[add_plain]
   rw[C1];exact .bz bZ ⟨by dsimp only;omega,λ_=>rfl,λh=>absurd h (by omega)⟩
 ·cases ht
theorem ar8{c:Xt}{x y:Tj}{t t' e:TypeId}{id off n cap sz m:Nat}{l l':List AV}{el:TypeId}{av:AV}(ho:o.op=.call c)(ba:c.callee=.builtin .copy)(cQ:c.args=#[x,y]) (dX:c.argTypes=#[t,t']) (ht:kN P t=some (e,sz)) (hx:s.ev x=some (.bz id off n cap))
  (hk:s.H[id]?=some (.cells l el)) (hy:s.ev y=some av) (hs:s.src sz av=some (m,l')) (eR:l'.length=m* sz) (hl:off+min m n* sz<=l.length) (nY:∀a∈l',a.leaf=true)
  (hn:next ((⟨s.T,s.H.set id (.cells (iO l off (l'.take (min m n* sz))) el)⟩:AS).put o.dst (.val (.int .i64 (min m n:Nat))))):Step lv P r o s next bad:=by
 intro E V a N Q hc aE hd bB h1 _;refine⟨bB,?_⟩;have dC:=ap.ev aE hx;have iU:=ap.ev aE hy;generalize kJ:a.eval x=vx at dC;generalize sk:a.eval y=vy at iU;unfold execOp;rw[ho];dsimp only;unfold resolve;rw[ba];dsimp only;refine az (au ?_);unfold invoke builtin;dsimp only;refine az ?_;have nZ:c.args.map a.eval=#[vx,vy]:=by rw[cQ];simp[kJ,sk]
 rw[nZ,dX];unfold kN at ht;split at ht
 ·rename_i e' hu;obtain⟨i,cG,ht⟩:=lx ht;cases ht;cases dC with
  |bz bZ _=>
   obtain⟨⟨cs,p1,p2⟩,p3⟩:=hc.obj id _ hk;obtain⟨g1,g2⟩:=hc.jv hk rfl;unfold avE;simp only[Vm,Vx,UR];refine ez hu ?_;dsimp only;rw[It iU hs];refine az (au ?_);refine kq cG ?_;refine az (EF hc iU hs eR (ZP _ _) λjH lC=> ?_);have h2:(l'.take (min m n* i.size)).length=min m n* i.size:=by
    have:min m n* i.size<=m* i.size:=TK _ (ZP _ _);simp;omega
   refine az (Bz _ 0 V cs g1 g2 p1 (λo _ _=>p3 o) (by
    have hq:jH.size=min m n* i.size:=(by(rw[lC.1];exact h2));have:=p2.1;simp only[Array.length_toList];omega) (CC lC (λa ha=>nY a (VQ ha))) ?_)
   rw[UJ];refine au (au (h1 E _ (a.put o.dst _) _ ⟨Env.Le.refl E,eo _ _ _,put_defers _ _ _,rfl,rfl⟩ (by rw[fx];exact hc.set hk (JO p2 lC (by rw[h2];exact hl)))
    (cu.ii (s:=⟨s.T,s.H.set id (.cells (iO l off (l'.take (min m n* i.size))) el)⟩) aE hd (.val _)) hn))
 ·cases ht
def B4 (P:SI)(t:TypeId):Option (TypeId×Nat×SQ):=match P.underlying t with
 |some (.slice e)=>(P.info? e).bind λi=>i.zero.bind λz=>if z.cells.size=i.size/\i.bytes<=2^16 then some (e,i.size,z)else none
 |_=>none
theorem adP{t e:TypeId}{x y:Tj}{n sz:Nat}{z:SQ}{k k':T8}(ho:o.op=.makeSlice t x y)(ht:B4 P t=some (e,sz,z))(hx:s.ev x=some (.val (.int k n)))(hy:s.ev y=some (.val (.int k' n)))(hb:n<=2^30)
  (hn:next ((⟨s.T,s.H++[.cells (gG z (n* sz)) e]⟩:AS).put o.dst (.bz s.H.length 0 n n))):Step lv P r o s next bad:=by
 intro E V a N Q hc aE hd bB h1 _;refine⟨bB,?_⟩;have dC:=ap.ev aE hx;have iU:=ap.ev aE hy;generalize kJ:a.eval x=vx at dC;generalize sk:a.eval y=vy at iU;cases dC;cases iU;unfold B4 at ht;split at ht
 ·rename_i e' hu;obtain⟨i,q1,ht⟩:=Tf.1 ht;obtain⟨z',q2,ht⟩:=Tf.1 ht;split at ht
  ·rename_i yA;cases ht;unfold execOp;rw[ho];simp only[kJ,sk];refine az ?_;unfold Instr.makeSlice;refine ez hu ?_;dsimp only;refine az (au ?_);refine az (au ?_);refine zy q1 ?_;have hw:SD.wrap (n:Int)=n:=br _ (by omega);rw[hw];have hmul:i.bytes* n<=2^16* 2^30:=ZX yA.2 hb;have auP:(i.bytes:Int)* n<=2^46:=(by exact_mod_cast hmul);rw[if_neg (by simp;omega)];refine az (adf ?_);refine kq q1 ?_;rw[VI];have fin:∀(zero:Array SQ),(∀j,j<n* i.size->zero[j % zero.size]! =z.cells[j % z.cells.size]!)->aR P V (do let a<- newRow e ((WN (n* i.size)).map (zero[· % zero.size]!));pure (TL (some a) n n)) (λx V'=>aR P V' (pure (W9 x)) (m8 lv P r o a N Q) (λv V'=>Q (.panic [{v,recovered:=false}]) a V')) (λv V'=>Q (.panic [{v,recovered:=false}]) a V'):=by
    intro zero hz;unfold newRow;refine az (az (pi λrr hf=>cM (au (au (au ?_)))));have hle:E.Le (E.add rr V.ab):=E.q_ rr (λb o v h=>by rw[<- hc.I];exact h);have akV:(WN (n* i.size)).map (zero[· % zero.size]!)=(WN (n* i.size)).map (λx=>z.cells[x % z.cells.size]!):=by
     apply VH;simp only[VN];apply VF;intro j hj;exact hz j (by simpa using hj)
    rw[akV];have bp:Conc (E.add rr V.ab) (V.upd rr (.cells ((WN (n* i.size)).map (λx=>z.cells[x % z.cells.size]!)) e)) (s.H++[.cells (gG z (n* i.size)) e]):=by
     refine hc.add hf _ ⟨⟨_,?_,JP z _⟩,λo=> ?_⟩ (λb e=> ?_)
     ·rw[Env.dQ];simp[View.upd]
     ·rw[Env.dQ];exact hf.2 o
     ·simp only[bP,Env.dQ,Tl]at e;exact e.symm
    have bt:ap (E.add rr V.ab) (.bz s.H.length 0 n n) (.slice (some ⟨rr,0,none⟩) n n):=by
     have:=ap.bz (E:=E.add rr V.ab) (id:=s.H.length) (off:=0) (n:=n) (cap:=n) (cap':=n) (by show _<E.n+1;rw[hc.n];omega) ⟨SP _,λ_=>rfl,λh=>absurd h (Nat.lt_irrefl _)⟩;have e:(E.add rr V.ab).blk s.H.length=rr:=(by rw[<- hc.n];exact E.dQ rr _);rwa [e]at this
    exact h1 _ _ (a.put o.dst _) ((⟨s.T,s.H++[.cells (gG z (n* i.size)) e]⟩:AS).put o.dst (.bz s.H.length 0 n n)) ⟨hle,eo _ _ _,put_defers _ _ _,rfl,rfl⟩ (by rw[fx];exact bp)
     (cu.ii (s:=⟨s.T,s.H++[.cells (gG z (n* i.size)) e]⟩) (aE.mono hle) hd bt) hn
   by_cases h0:n* i.size=0
   ·rw[if_pos h0];refine az (au ?_);exact fin #[] (λj hj=>by omega)
   ·rw[if_neg h0];refine az (az ?_);unfold typeInfo;refine az (ri (cM ?_));rw[q1];refine au ?_;rw[q2];refine au (az (au ?_));exact fin z.cells (λj _=>rfl)
  ·cases ht
 ·cases ht
def AV.Bs:AV->Option SQ
 |.val x=>some x
 |_=>none
def AV.raw:AV->Option SQ
 |.val x=>some x
 |.agg l=>(l.mapM AV.Bs).map λvs=> .agg vs.toArray
 |_=>none
theorem ap.Bs{E:Env}{a:AV}{v x:SQ}(h:ap E a v)(hr:a.Bs=some x):v=x:=by
 cases h<;>cases hr;rfl
theorem ap.raw{E:Env}{a:AV}{v x:SQ}(h:ap E a v)(hr:a.raw=some x):v=x:=by
 cases h with
 |val=>cases hr;rfl
 |agg hs h=>
  obtain⟨vs,h1,rfl⟩:=lx hr;congr 1;rename_i l cs;have key:∀(l:List AV)(vs:List SQ)(cs:List SQ),l.mapM AV.Bs=some vs->cs.length=l.length->(∀(i:Nat) a,l[i]?=some a->ap E a (cs.getD i undef))->cs=vs:=by
   intro l;induction l with
   |nil=>intro vs cs h1 h2 _;simp at h1;subst h1;simpa using h2
   |cons a l ih=>
    intro vs cs h1 h2 h3;simp only[Ue,Um,TU,Tf,Tl]at h1;obtain⟨b,e1,bs,e2,rfl⟩:=h1;cases cs with
    |nil=>simp at h2
    |cons c cs=>
     have hc:=(h3 0 a rfl).Bs e1;have:=ih bs cs e2 (by simpa using h2) (λi x hx=>by simpa using h3 (i+1) x (by simpa using hx));subst this;simp only[Xq]at hc;rw[hc]
  have:=key l vs cs.toList h1 (by simpa using hs) (λi a e=>by have:=h i a e;rw[SH]at this;simpa[SE]using this);rw[<- this]
 |_=>cases hr
def Ak:SQ->SQ->Bool
 |.agg _,.agg _=>true
 |.bool _,.bool _=>true
 |_,_=>false
theorem apZ{op:Wc}{xt yt:TypeId}{x y:Tj}{a b:AV}{X Y:SQ}{e:Bool}(ho:o.op=.binOp op xt x y yt)(ay:op=.eql\/op=.neq)(hx:s.ev x=some a)(hy:s.ev y=some b)(hX:a.raw=some X)(hY:b.raw=some Y)(hk:Ak X Y=true)(hg:P.eqGuardType P.depth xt=false)(he:cP P (Xs xt X Y) e):
  dF lv P r o s (.val (.bool (if op== .neq then !e else e))):=
 jb (λE V ac hc aE=>by
  have e1:=(ap.ev aE hx).raw hX;have e2:=(ap.ev aE hy).raw hY;unfold execOp;rw[ho];simp only[e1,e2];refine az ?_;have guard:∀{K:Unit->View->Prop},K () V->aR P V (eqGuard op xt x y X Y) K (λ_ _=>False):=λhK=>by
   unfold eqGuard;unfold Ak at hk;split at hk
   ·rcases ay with rfl|rfl
    all_goals
     simp only[ao',TR,if_false];refine az (ri (cM ?_));refine az (ri (cM ?_));rw[hg];exact au hK
   ·rcases ay with rfl|rfl<;>exact au hK
   ·cases hk
  refine az (guard ?_);unfold Ak at hk;split at hk
  ·rcases ay with rfl|rfl<;>(unfold binOp;refine he.bind (au (au ⟨rfl,_,rfl,?_⟩));exact .val _)
  ·rcases ay with rfl|rfl<;>(unfold binOp;refine he.bind (au (au ⟨rfl,_,rfl,?_⟩));exact .val _)
  ·cases hk)
theorem aid{t:TypeId}{v:SQ}{b:Bool}{V:View}{K:Bool->View->Prop}{Kp:SQ->View->Prop}(ht:mM P t=some true)(hv:(v=.nilIface/\b=true)\/((∃u x,v=.iface u x)/\b=false))(hk:K b V):aR P V (Xs t v .nilIface) K Kp:=by
 obtain⟨el,hu⟩:∃el,P.underlying t=some (.interface el):=by
  unfold mM at ht;cases h:P.underlying t with
  |none=>rw[h]at ht;cases ht
  |some d=>
   rw[h]at ht;cases d<;>first|exact⟨_,rfl⟩|(simp at ht)
 have e:Xs t v .nilIface=VC (9999+1) t v .nilIface:=rfl;rw[e,VC];refine ez hu ?_;rcases hv with⟨rfl,rfl⟩|⟨⟨u,x,rfl⟩,rfl⟩
 ·exact au hk
 ·exact au hk
theorem acQ{op:Wc}{xt yt:TypeId}{x:Tj}{a:AV}{b:Bool}(ho:o.op=.binOp op xt x (.const .nilIface) yt)(ay:op=.eql\/op=.neq)(hx:s.ev x=some a)(ha:(a=.val .nilIface/\b=true)\/((∃u y,a=.db u y)/\b=false))(ht:mM P xt=some true):
  dF lv P r o s (.val (.bool (if op== .neq then !b else b))):=
 jb (λE V ac hc aE=>by
  have hd:=ap.ev aE hx;generalize kJ:ac.eval x=vx at hd;have hv:(vx=.nilIface/\b=true)\/((∃u y,vx=.iface u y)/\b=false):=by
   rcases ha with⟨rfl,rfl⟩|⟨⟨u,y,rfl⟩,rfl⟩
   ·cases hd;exact .inl ⟨rfl,rfl⟩
   ·cases hd;exact .inr ⟨⟨_,_,rfl⟩,rfl⟩
  have hy:ac.eval (.const .nilIface)=.nilIface:=rfl;unfold execOp;rw[ho];simp only[kJ,hy];refine az ?_;have guard:∀{K:Unit->View->Prop},K () V->aR P V (eqGuard op xt x (.const .nilIface) vx .nilIface) K (λ_ _=>False):=λhK=>by
   unfold eqGuard;rcases hv with⟨rfl,_⟩|⟨⟨u,y,rfl⟩,_⟩<;>rcases ay with rfl|rfl<;>first|exact au hK|(simp;exact au hK)
  refine az (guard ?_);rcases hv with⟨rfl,rfl⟩|⟨⟨u,y,rfl⟩,rfl⟩<;>rcases ay with rfl|rfl<;>(unfold binOp;refine az (aid (b:=_) ht (by first|exact .inl ⟨rfl,rfl⟩|exact .inr ⟨⟨_,_,rfl⟩,rfl⟩) (au (au ⟨rfl,_,rfl,?_⟩)));exact .val _))
theorem QT{t:TypeId}{d:TypeId×Nat}{b:Option Va}{n cap:Nat}{V:View}{K:Bool->View->Prop}{Kp:SQ->View->Prop}(ht:kN P t=some d)(hk:K b.isNone V):aR P V (Xs t (.slice b n cap) (.slice none 0 0)) K Kp:=by
 obtain⟨el,hu⟩:∃el,P.underlying t=some (.slice el):=by
  unfold kN at ht;split at ht
  ·rename_i e he;exact⟨e,he⟩
  ·cases ht
 have e:Xs t (.slice b n cap) (.slice none 0 0)=VC (9999+1) t (.slice b n cap) (.slice none 0 0):=rfl;rw[e,VC];refine ez hu ?_;cases b with
 |none=>exact au hk
 |some a=>exact au hk
theorem asf{op:Wc}{t yt:TypeId}{x:Tj}{n:Nat}{av:AV}{d:TypeId×Nat}(ho:o.op=.binOp op t x (.const (.slice none 0 0)) yt)(ay:op=.eql\/op=.neq)(hx:s.ev x=some av)(hlen:av.len=some n)(ht:kN P t=some d)
  (hn:∀b:Bool,(0<n->b=false)->next (s.put o.dst (.val (.bool (if op== .neq then !b else b))))):Step lv P r o s next bad:=by
 intro E V a N Q hc aE hd bB h1 _;refine⟨bB,?_⟩;have dC:=ap.ev aE hx;generalize kJ:a.eval x=vx at dC;obtain⟨base,cap,rfl,hb⟩:∃base cap,vx=.slice base n cap/\(0<n->base.isNone=false):=by
  cases dC with
  |sl b o cap f dU he q1 q2=>cases hlen;exact⟨_,_,rfl,λ_=>rfl⟩
  |nil he=>cases hlen;exact⟨_,_,rfl,λh=>absurd h (by omega)⟩
  |bz hi=>cases hlen;exact⟨_,_,rfl,λ_=>rfl⟩
  |_=>cases hlen
 unfold execOp;rw[ho];have hy:a.eval (.const (.slice none 0 0))=.slice none 0 0:=rfl;simp only[kJ,hy];have fin:aR P V (pure (W9 (.bool (if op== .neq then !base.isNone else base.isNone)))) (m8 lv P r o a N Q) (λv V'=>Q (.panic [{v,recovered:=false}]) a V'):=
  au (h1 E V (a.put o.dst _) _ ⟨Env.Le.refl E,eo _ _ _,put_defers _ _ _,rfl,rfl⟩ (by rw[fx];exact hc) (aE.ii hd (.val _)) (hn _ hb))
 rcases ay with rfl|rfl
 ·refine az (az (au ?_));unfold binOp;exact az (QT ht (au fin))
 ·refine az (az (au ?_));unfold binOp;exact az (QT ht (au fin))
theorem aqe{c:Xt}{x y:Tj}{k j:T8}{m n:Int}(ho:o.op=.call c)(ba:c.callee=.builtin .max)(cQ:c.args=#[x,y]) (hx:s.ev x=some (.val (.int k m))) (hy:s.ev y=some (.val (.int j n))):dF lv P r o s (.val (.int k (if n>m then n else m))):=
 sD (λE V a hc aE=>by
  have h1:=ap.ev aE hx;have h2:=ap.ev aE hy;generalize p8:a.eval x=v1 at h1;generalize ue:a.eval y=v2 at h2;cases h1;cases h2;refine⟨_,?_,.val _⟩;unfold execOp;rw[ho];dsimp only;unfold resolve;rw[ba];have nZ:c.args.map a.eval=#[.int k m,.int j n]:=by rw[cQ];simp[p8,ue]
  rw[nZ];rfl)
theorem aqf{c:Xt}{x y:Tj}{k j:T8}{m n:Int}(ho:o.op=.call c)(ba:c.callee=.builtin .min)(cQ:c.args=#[x,y]) (hx:s.ev x=some (.val (.int k m))) (hy:s.ev y=some (.val (.int j n))):dF lv P r o s (.val (.int k (if n<m then n else m))):=
 sD (λE V a hc aE=>by
  have h1:=ap.ev aE hx;have h2:=ap.ev aE hy;generalize p8:a.eval x=v1 at h1;generalize ue:a.eval y=v2 at h2;cases h1;cases h2;refine⟨_,?_,.val _⟩;unfold execOp;rw[ho];dsimp only;unfold resolve;rw[ba];have nZ:c.args.map a.eval=#[.int k m,.int j n]:=by rw[cQ];simp[p8,ue]
  rw[nZ];rfl)
theorem acP{x:Tj}{xt aF t:TypeId}{ok:Bool}{av:AV}{z:SQ}(ho:o.op=.typeAssert x xt aF ok)(ht:mM P aF=some false)(hz:eU P aF=some z)(hx:s.ev x=some (.db t av))(aq:ok=true\/t=aF):
  dF lv P r o s (if t=aF then(if ok then .aO [av,.val (.bool true)]else av)else .aO [AV.of z,.val (.bool false)]):=
 jb (λE V a hc aE=>by
  have hd:=ap.ev aE hx;generalize hv:a.eval x=v at hd;cases hd with
  |db hd=>
   obtain⟨d,hu,jn⟩:=lx ht;unfold execOp;rw[ho];simp only[hv];refine az ?_;unfold Zr;refine ez hu ?_;split
   ·rename_i h;cases jn
   ·rename_i h;cases jn
   ·rename_i h;cases h
   ·rename_i t' v' h;cases h;by_cases e:t=aF
    ·rw[if_pos e,if_pos e];cases ok
     ·exact au (au ⟨rfl,_,rfl,hd⟩)
     ·refine au (au ⟨rfl,_,rfl,.aO rfl λi b hb=> ?_⟩)
      match i,hb with
      |0,hb=>cases hb;exact hd
      |1,hb=>cases hb;exact .val _
    ·rw[if_neg e,if_neg e];have n5:ok=true:=aq.resolve_right e;subst n5;simp only[if_true];refine az (az ?_);unfold eU at hz;obtain⟨inf,z1,z2⟩:=Tf.1 hz;unfold typeInfo;refine az (ri (cM ?_));rw[z1];refine au ?_;rw[z2];refine au (au (au ⟨rfl,_,rfl,.aO rfl λi b hb=> ?_⟩))
     match i,hb with
     |0,hb=>cases hb;exact tp E z
     |1,hb=>cases hb;exact .val _
   ·exfalso;simp_all)
theorem apS{x:Tj}{xt aF:TypeId}{z:SQ}(ho:o.op=.typeAssert x xt aF true)(ht:mM P aF=some false)(hz:eU P aF=some z)(hx:s.ev x=some (.val .nilIface)):dF lv P r o s (.aO [AV.of z,.val (.bool false)]):=
 jb (λE V a hc aE=>by
  have hd:=ap.ev aE hx;generalize hv:a.eval x=v at hd;cases hd;obtain⟨d,hu,jn⟩:=lx ht;unfold execOp;rw[ho];simp only[hv];refine az ?_;unfold Zr;refine ez hu ?_;unfold eU at hz;obtain⟨inf,z1,z2⟩:=Tf.1 hz;split
  ·rename_i h;cases jn
  ·rename_i h;cases h
  ·simp only[if_true];refine az (az ?_);unfold typeInfo;refine az (ri (cM ?_));rw[z1];refine au ?_;rw[z2];refine au (au (au ⟨rfl,_,rfl,.aO rfl λi b hb=> ?_⟩))
   match i,hb with
   |0,hb=>cases hb;exact tp E z
   |1,hb=>cases hb;exact .val _
  ·rename_i h;cases h
  ·exfalso;simp_all)
def I_ (P:SI)(t:TypeId)(name:String):Prop:=∀v,cP P (nilAhead (P.types.size+Made.depth) t v name) (some false)
theorem aqi{x:Tj}{name:String}{t:TypeId}{av:AV}(ho:o.op=.nilCheck x)(hx:s.ev x=some (.fn (.method name) [.db t av] []))(hn:I_ P t name):dF lv P r o s (.fn (.method name) [.db t av] []):=
 jb (λE V a hc aE=>by
  have hd:=ap.ev aE hx;unfold execOp;rw[ho];dsimp only;generalize hv:a.eval x=v at hd⊢;have cF:=hd;cases hd with
  |fn dW f_ h1 h2=>
   rename_i fa ca;have GC:fa.size=1:=dW;have:=h1 0 _ rfl;rw[SH,SJ (by omega)]at this;simp only[S7]at this;have hg:fa[0]?=some fa[0]:=SJ (by omega);generalize hq:fa[0]=q at this hg;cases this with
   |db jT=>
    dsimp only;rw[hg];dsimp only;refine az (ri (cM ?_));refine(hn _).bind ?_;simp only[bne_self_eq_false,TR,if_false];exact au ⟨rfl,_,rfl,cF⟩)
def pu (P:SI)(t:TypeId):Option (TypeId×TypeId):=match P.underlying t with
 |some (.map k e)=>some (k,e)
 |_=>none
def xq (es:Array Wp)(ck:Nat)(k x:SQ):Option (Nat×SQ)->Obj
 |none=> .map (es.push {key:=k,val:=x,born:=ck}) (ck+1)
 |some (i,_)=> .map (es.modify i λe=>{e with key:=k,val:=x}) ck
theorem asb{t kt et:TypeId}{m k x:Tj}{id ck:Nat}{es:Array Wp}{a b:AV}{K X:SQ}{fd:Option (Nat×SQ)}(ho:o.op=.mapUpdate t m k x\/o.op=.insert t m k x)(ht:pu P t=some (kt,et))(hm:s.ev m=some (.mp id))(hk:s.ev k=some a)(hx:s.ev x=some b)(hK:a.raw=some K)(hX:b.raw=some X)
  (hH:s.H[id]?=some (.obj (.map es ck))) (hc:cP P (Vk false 10000 kt K) ()) (hf:cP P (VR kt K es.toList) fd) (G_:∀i v,fd=some (i,v)->WF 10000 (((es[i]?).map (·.key)).getD K) K=true)
  (hn:next ((⟨s.T,s.H.set id (.obj (xq es ck K X fd))⟩:AS).put o.dst (.val undef))):Step lv P r o s next bad:=by
 intro E V ac N Q jm aE hd bB h1 _;refine⟨bB,?_⟩;have e1:=(ap.ev aE hk).raw hK;have e2:=(ap.ev aE hx).raw hX;have pK:=ap.ev aE hm;generalize yW:ac.eval m=vm at pK;cases pK;obtain⟨p1,p2,p3,p4⟩:=jm.obj id _ hH;obtain⟨g1,g2⟩:=jm.jv hH rfl;have go:aR P V (do ZB t (.map (some (E.blk id))) K X;pure Next.skip) (m8 lv P r o ac N Q) (λv V'=>Q (.panic [{v,recovered:=false}]) ac V'):=by
  refine az ?_;unfold pu at ht;split at ht
  ·rename_i k' e' hu;cases ht;unfold ZB;refine ez hu ?_;dsimp only;refine az (oy p1 p2 p3 g2 (cM ?_));dsimp only;refine hc.bind (hf.bind ?_);have fin:∀y,y=xq es ck K X fd->aR P V (setObj (E.blk id) y) (λ_ V'=>aR P V' (pure Next.skip) (m8 lv P r o ac N Q) (λv V'=>Q (.panic [{v,recovered:=false}]) ac V')) (λv V'=>Q (.panic [{v,recovered:=false}]) ac V'):=λy hy=>by
    have gf:y.vO=false:=(by rw[hy];cases fd<;>rfl);have hy2:y.isChan=false:=(by rw[hy];cases fd<;>rfl);refine zx p1 p2 hy2 g2 (cM (au ?_));exact h1 E _ (ac.put o.dst undef) _ ⟨Env.Le.refl E,eo _ _ _,put_defers _ _ _,rfl,rfl⟩ (by rw[fx];rw[hy];exact jm.setObj hH (by cases fd<;>rfl) (by cases fd<;>rfl))
     (cu.ii (s:=⟨s.T,s.H.set id (.obj (xq es ck K X fd))⟩) aE hd (.val undef)) hn
   cases fd with
   |none=>exact fin _ rfl
   |some iv=>
    obtain⟨i,v⟩:=iv;dsimp only;unfold Instr.keyThatStays;rw[G_ i v rfl];simp only[if_true];exact az (au (fin _ rfl))
  ·cases ht
 unfold execOp;rcases ho with ho|ho
 all_goals
  rw[ho];simp only[yW,e1,e2];exact go
def FV (es:Array Wp):Option (Nat×SQ)->Array Wp
 |some (i,_)=>es.eraseIdxIfInBounds i
 |none=>es
theorem ar9{c:Xt}{t t' kt et:TypeId}{m k:Tj}{id ck:Nat}{es:Array Wp}{a:AV}{K:SQ}{fd:Option (Nat×SQ)}(ho:o.op=.call c)(ba:c.callee=.builtin .delete)(cQ:c.args=#[m,k]) (dX:c.argTypes=#[t,t']) (ht:pu P t=some (kt,et)) (hm:s.ev m=some (.mp id)) (hk:s.ev k=some a) (hK:a.raw=some K)
  (hH:s.H[id]?=some (.obj (.map es ck))) (hc:cP P (Vk es.isEmpty 10000 kt K) ()) (hf:cP P (VR kt K es.toList) fd)
  (hn:next ((⟨s.T,s.H.set id (.obj (.map (FV es fd) ck))⟩:AS).put o.dst (.val undef))):Step lv P r o s next bad:=by
 intro E V ac N Q jm aE hd bB h1 _;refine⟨bB,?_⟩;have e1:=(ap.ev aE hk).raw hK;have pK:=ap.ev aE hm;generalize yW:ac.eval m=vm at pK;cases pK;obtain⟨p1,p2,p3,p4⟩:=jm.obj id _ hH;obtain⟨g1,g2⟩:=jm.jv hH rfl;unfold execOp;rw[ho];dsimp only;unfold resolve;rw[ba];dsimp only;refine az (au ?_);unfold invoke builtin;dsimp only;refine az ?_;have nZ:c.args.map ac.eval=#[.map (some (E.blk id)),K]:=by rw[cQ];simp[yW,e1]
 rw[nZ,dX];unfold pu at ht;split at ht
 ·rename_i k' e' hu;cases ht;unfold avD;simp only[Vm,Vx,UR];refine ez hu ?_;dsimp only;refine az (oy p1 p2 p3 g2 (cM ?_));dsimp only;refine hc.bind (hf.bind ?_);have fin:∀uX,uX=(FV es fd)->aR P V (setObj (E.blk id) (.map uX ck)) (λ_ V'=>aR P V' (pure (YJ #[])) (λx V'=>aR P V' (pure (W9 x)) (m8 lv P r o ac N Q) (λv V'=>Q (.panic [{v,recovered:=false}]) ac V')) (λv V'=>Q (.panic [{v,recovered:=false}]) ac V')) (λv V'=>Q (.panic [{v,recovered:=false}]) ac V'):=λy hy=>by
   refine zx p1 p2 rfl g2 (cM (au (au ?_)));exact h1 E _ (ac.put o.dst undef) _ ⟨Env.Le.refl E,eo _ _ _,put_defers _ _ _,rfl,rfl⟩ (by rw[fx];rw[hy];exact jm.setObj hH rfl rfl)
    (cu.ii (s:=⟨s.T,s.H.set id (.obj (.map (FV es fd) ck))⟩) aE hd (.val undef)) hn
  cases fd with
  |none=>exact az (fin _ rfl)
  |some iv=>exact az (fin _ rfl)
 ·cases ht
theorem ase{t kt et:TypeId}{x:Tj}{m ck:Nat}{es:Array Wp}(ho:o.op=.range t x)(ht:pu P t=some (kt,et))(hx:s.ev x=some (.mp m))(hH:s.H[m]?=some (.obj (.map es ck)))
  (hn:next ((⟨s.T,s.H++[.iter m ck #[] ck]⟩:AS).put o.dst (.op s.H.length 0))):Step lv P r o s next bad:=by
 intro E V ac N Q hc aE hd bB h1 _;refine⟨bB,?_⟩;have pK:=ap.ev aE hx;generalize yW:ac.eval x=vm at pK;cases pK with
 |mp hm=>
  obtain⟨p1,p2,p3,p4⟩:=hc.obj m _ hH;obtain⟨g1,g2⟩:=hc.jv hH rfl;unfold execOp;rw[ho];simp only[yW];refine az ?_;unfold pu at ht;split at ht
  ·rename_i k' e' hu;cases ht;unfold Instr.range;refine ez hu ?_;refine az (oy p1 p2 p3 g2 (cM ?_));dsimp only;refine az (au ?_);refine az (pi λrr hf=>cM (au (au ?_)));have hle:E.Le (E.add rr V.ab):=E.q_ rr (λb o v h=>by rw[<- hc.I];exact h);have bp:Conc (E.add rr V.ab) (V.upd rr (.mapIter (some (E.blk m)) ck #[] ck)) (s.H++[.iter m ck #[] ck]):=by
    refine hc.add hf _ ⟨?_,?_,λo=> ?_⟩ (λb e=> ?_)
    ·exact Nat.lt_succ_of_lt hm
    ·rw[Env.dQ,hle.blk m hm];simp[View.upd]
    ·rw[Env.dQ];exact hf.2 o
    ·simp only[bP,Env.dQ,Tl]at e;exact e.symm
   exact h1 _ _ (ac.put o.dst (.pointer (some ⟨rr,0,none⟩))) ((⟨s.T,s.H++[.iter m ck #[] ck]⟩:AS).put o.dst (.op s.H.length 0)) ⟨hle,eo _ _ _,put_defers _ _ _,rfl,rfl⟩ (by rw[fx];exact bp)
    (cu.ii (s:=⟨s.T,s.H++[.iter m ck #[] ck]⟩) (aE.mono hle) hd (Qx hc.n rr V.ab)) hn
  ·cases ht
theorem Conc.setIter{E:Env}{V:View}{H:List aa}(hc:Conc E V H){id m a c:Nat}{b:Array Nat}(hk:H[id]?=some (.iter m a b c))(a':Nat)(b':Array Nat)(c':Nat):Conc E (V.upd (E.blk id) (.mapIter (some (E.blk m)) a' b' c')) (H.set id (.iter m a' b' c')):=by
 obtain⟨p1,p2,p4⟩:=hc.obj id _ hk;refine hc.iQ id (.iter m a' b' c') (Env.Le.refl E) hc.I (by simpa using hc.n) lM rfl (λ_ _ _=>rfl) (λb z hb hz=>⟨?_,λ_=>rfl⟩) ⟨p1,by simp[View.upd],p4⟩ (λb h=> .inl ⟨_,hk,h⟩);have:b≠E.blk id:=λe=>hb _ hk (by rw[e];rfl);simpa[View.upd,this]using hz
theorem asc{it:Tj}{id m since ck uA:Nat}{seen:Array Nat}{es:Array Wp}(ho:o.op=.next it false)(hi:s.ev it=some (.op id 0))(hI:s.H[id]?=some (.iter m since seen uA))(hM:s.H[m]?=some (.obj (.map es ck)))
  (aq:es.all (λe=>decide (e.born>=uA))=false\/es.isEmpty=true\/seen.isEmpty=true)
  (hn:∀e∈es,e.born∉seen->next ((⟨s.T,s.H.set id (.iter m since (seen.push e.born) ck)⟩:AS).put o.dst (.aO [.val (.bool true),AV.of e.key,AV.of e.val])))
  (al0:(∀e∈es,e.born<since->e.born∈seen)->next (s.put o.dst (.aO [.val (.bool false)]))):Step lv P r o s next bad:=by
 intro E V ac N Q hc aE hd bB h1 _;refine⟨bB,?_⟩;have oU:=ap.ev aE hi;generalize qZ:ac.eval it=vi at oU;cases oU with
 |op bZ=>
  obtain⟨q1,q2,q3⟩:=hc.obj id _ hI;obtain⟨p1,p2,p3,p4⟩:=hc.obj m _ hM;have gi:=hc.jv hI rfl;have gm:=hc.jv hM rfl;unfold execOp;rw[ho];simp only[qZ];refine az ?_;unfold Instr.next;dsimp only;refine az (oy q2 rfl rfl gi.2 (cM ?_));dsimp only;refine az (oy p1 p2 p3 gm.2 (cM ?_));dsimp only;rw[if_neg (by
   intro h;simp only[Tg,T4]at h;rcases aq with hk|hk|hk
   ·rw[hk]at h;cases h.2
   ·rw[hk]at h;cases h.1.2
   ·rw[hk]at h;cases h.1.1)]
  generalize aaf:(if((es.filter λe=> !seen.contains e.born).filter (λe=>decide (e.born<since))).isEmpty=true then#[none]else#[])++((es.filter λe=> !seen.contains e.born).filter (λe=>decide (e.born<since))++(es.filter λe=> !seen.contains e.born).filter (λe=>decide (e.born>=since))).map some=Ad;have cK:∀x∈Ad,match x with
    |some e=>e∈es/\e.born∉seen
    |none=>∀e∈es,e.born<since->e.born∈seen:=by
   intro x hx;rw[<- aaf]at hx;rcases Uw.1 hx with hx|hx
   ·split at hx
    ·rename_i tM;simp at hx;subst hx;intro e he hlt;apply Tv;intro iL;have:e∈((es.filter λe=> !seen.contains e.born).filter (λe=>decide (e.born<since))):=(by simp[he,hlt,iL]);rw[Zl]at tM;rw[tM]at this;simp at this
    ·simp at hx
   ·rw[Array.mem_map]at hx;obtain⟨e,he,rfl⟩:=hx;rcases Uw.1 he with he|he<;>simp at he<;>exact⟨he.1,he.2.2⟩
  have Dy:0<Ad.size:=by
   rw[<- aaf];split
   ·simp;omega
   ·rename_i tM;have:0<((es.filter λe=> !seen.contains e.born).filter (λe=>decide (e.born<since))).size:=by
     rw[Zl]at tM;exact Array.size_pos_iff.2 tM
    simp only[XF,Array.size_map,List.size_toArray,UA];omega
  have fin:∀j,j<Ad.size->aR P V (match Ad[j]?with
    |some (some e)=>do setObj (E.blk id) (.mapIter (some (E.blk m)) since (seen.push e.born) ck);pure (YJ #[.bool true,e.key,e.val])
    |some none=>pure (YJ #[.bool false])
    | none => stuck "Next: no such candidate") (λx V' => aR P V' (pure (W9 x)) (m8 lv P r o ac N Q) (λv V' => Q (.panic [{ v, recovered := false }]) ac V')) (λv V' => Q (.panic [{ v, recovered := false }]) ac V') := by
   intro j hj;rw[SJ hj];have hm:=cK Ad[j] (XX hj);generalize Ad[j]=x at hm;cases x with
   |none=>
    dsimp only;refine au (au ?_);exact h1 E V (ac.put o.dst _) (s.put o.dst (.aO [.val (.bool false)])) ⟨Env.Le.refl E,eo _ _ _,put_defers _ _ _,rfl,rfl⟩ (by rw[fx];exact hc)
     (cu.ii aE hd (.aO rfl λi b hb=>by
      match i,hb with
      |0,hb=>cases hb;exact .val _)) (al0 hm)
   |some e=>
    dsimp only;refine az (zx q2 rfl rfl gi.2 (cM (au (au ?_))));exact h1 E _ (ac.put o.dst _) _ ⟨Env.Le.refl E,eo _ _ _,put_defers _ _ _,rfl,rfl⟩ (by rw[fx];exact hc.setIter hI since (seen.push e.born) ck)
     (cu.ii (s:=⟨s.T,s.H.set id (.iter m since (seen.push e.born) ck)⟩) aE hd (.aO rfl λi b hb=>by
      match i,hb with
      |0,hb=>cases hb;exact .val _
      |1,hb=>cases hb;exact tp E _
      |2,hb=>cases hb;exact tp E _)) (hn e hm.1 hm.2)
  refine az (adh (λhf=>cM (fin 0 Dy)) (λhf t=>cM (fin _ (avi _ Dy))))
def AV.found (z:SQ)(ok:Bool):Option (Nat×SQ)->AV
 |some (_,v)=>if ok then .aO [AV.of v,.val (.bool true)]else AV.of v
 |none=>if ok then .aO [AV.of z,.val (.bool false)]else AV.of z
theorem aqb{t kt et:TypeId}{m k:Tj}{id ck:Nat}{es:Array Wp}{a:AV}{K z:SQ}{ok:Bool}{fd:Option (Nat×SQ)}(ho:o.op=.lookup t m k ok)(ht:pu P t=some (kt,et))(hz:eU P et=some z)(hm:s.ev m=some (.mp id))(hk:s.ev k=some a)(hK:a.raw=some K)
  (hH:s.H[id]?=some (.obj (.map es ck))) (hc:cP P (Vk es.isEmpty 10000 kt K) ()) (hf:cP P (VR kt K es.toList) fd):dF lv P r o s (AV.found z ok fd):=
 jb (λE V ac jm aE=>by
  have e1:=(ap.ev aE hk).raw hK;have pK:=ap.ev aE hm;generalize yW:ac.eval m=vm at pK;cases pK;obtain⟨p1,p2,p3,p4⟩:=jm.obj id _ hH;have g:=jm.jv hH rfl;unfold pu at ht;split at ht
  ·rename_i k' e' hu;cases ht;unfold execOp;rw[ho];simp only[yW,e1];refine az ?_;unfold Instr.lookup;refine ez hu ?_;dsimp only;refine az (az (oy p1 p2 p3 g.2 (au (au ?_))));refine hc.bind (az (hf.ok ?_));have two:∀(v:SQ)(b:Bool)(i:Nat)(x:AV),[AV.of v,.val (.bool b)][i]?=some x->ap E x ((#[v,Xg b]:Array SQ).getD i undef):=λv b i x hx=>by
    match i,hx with
    |0,hx=>cases hx;exact tp E _
    |1,hx=>cases hx;exact .val _
   cases fd with
   |some iv=>
    obtain⟨i,v⟩:=iv;refine au (au ⟨rfl,_,rfl,?_⟩);cases ok with
    |true=>exact .aO rfl (two v true)
    |false=>exact tp E _
   |none=>
    refine Iq hz (au (au ⟨rfl,_,rfl,?_⟩));cases ok with
    |true=>exact .aO rfl (two z false)
    |false=>exact tp E _
  ·cases ht)
theorem apY{it:Tj}{id m since ck:Nat}{seen:Array Nat}{es:Array Wp}{b:Nat}{e:Wp}(ho:o.op=.entry it)(hi:s.ev it=some (.op id 0))(hI:s.H[id]?=some (.iter m since seen ck))(hM:s.H[m]?=some (.obj (.map es ck)))
  (hb:seen.back?=some b) (he:es.find? (·.born==b)=some e):dF lv P r o s (.aO [AV.of e.key,AV.of e.val]):=
 jb (λE V ac hc aE=>by
  have oU:=ap.ev aE hi;generalize qZ:ac.eval it=vi at oU;cases oU with
  |op bZ=>
   obtain⟨q1,q2,q3⟩:=hc.obj id _ hI;obtain⟨p1,p2,p3,p4⟩:=hc.obj m _ hM;have gi:=hc.jv hI rfl;have gm:=hc.jv hM rfl;unfold execOp;rw[ho];simp only[qZ];refine az ?_;unfold Instr.entry;dsimp only;refine az (oy q2 rfl rfl gi.2 (cM ?_));dsimp only;rw[hb];dsimp only;refine az (oy p1 p2 p3 gm.2 (cM ?_));dsimp only;rw[if_neg (by simp)];rw[he];refine au (au ⟨rfl,_,rfl,.aO rfl λi b hb=> ?_⟩)
   match i,hb with
   |0,hb=>cases hb;exact tp E _
   |1,hb=>cases hb;exact tp E _)
end
open Go.Conc
def gW (E:Env)(V:View)(k:AV->List aa->Prop)(kp:AV->List aa->Prop):Out->View->Prop
 |.ret v,V'=>∃av E' H',E.Le E'/\V'.role=V.role/\V'.deaf=V.deaf/\ap E' av v/\Conc E' V' H'/\k av H'
 |.panic ch,V'=>∃pv v E' H',ch=[{v,recovered:=false}]/\E.Le E'/\V'.role=V.role/\V'.deaf=V.deaf/\ap E' pv v/\Conc E' V' H'/\kp pv H'
def bc (lv:Bool)(P:SI)(f:TS)(H:List aa)(args:List AV)(k:AV->List aa->Prop)(kp:AV->List aa->Prop):Prop:=
 ∀(E:Env)(V:View)(vs:Array SQ),Conc E V H->cN E args vs->Body lv P f vs .normal V (gW E V k kp)
def Nx (lv:Bool)(P:SI)(R:Out->View->Prop):Next->View->Prop
 |.value v,V=>R (.ret v) V
 |.skip,V=>R (.ret undef) V
 |.enter f args,V=>Body lv P f args .normal V R
 |.round l f tmps assign body,V=>nC lv P (Xe l f tmps assign body .normal) V R
 |_,_=>False
def je (lv:Bool)(P:SI)(c:AV)(H:List aa)(args:List AV)(k:AV->List aa->Prop)(kp:AV->List aa->Prop):Prop:=
 ∀(E:Env)(V:View)(cv:SQ)(vs:Array SQ),Conc E V H->ap E c cv->cN E args vs->
  aR P V (do let d<- U_ cv vs;invoke d.target d.args) (λnx V'=>Nx lv P (gW E V k kp) nx V') (λv V'=>gW E V k kp (.panic [{v,recovered:=false}]) V')
def Fs (lv:Bool)(P:SI)(c:AV)(name:String)(H:List aa)(args:List AV)(k:AV->List aa->Prop)(kp:AV->List aa->Prop):Prop:=
 ∀(E:Env)(V:View)(cv:SQ)(vs:Array SQ),Conc E V H->ap E c cv->cN E args vs->
  aR P V (invoke (.fn (.method name) #[]) (#[cv]++vs)) (λnx V'=>Nx lv P (gW E V k kp) nx V') (λv V'=>gW E V k kp (.panic [{v,recovered:=false}]) V')
theorem gW.mono{E:Env}{V:View}{k k' kp uj:AV->List aa->Prop}(h:∀a H,k a H->k' a H)(hp:∀a H,kp a H->uj a H):∀{o V'},gW E V k kp o V'->gW E V k' uj o V'
 |.ret _,_,⟨av,E',H',a,b,c,d,e,f⟩=>⟨av,E',H',a,b,c,d,e,h _ _ f⟩
 |.panic _,_,⟨pv,v,E',H',a,b,c,d,e,f,g⟩=>⟨pv,v,E',H',a,b,c,d,e,f,hp _ _ g⟩
theorem Nx.mono{lv:Bool}{P:SI}{R R':Out->View->Prop}(h:∀o V,R o V->R' o V):∀{nx V},Nx lv P R nx V->Nx lv P R' nx V:=by
 intro nx V hn;cases nx with
 |value v=>exact h _ _ hn
 |skip=>exact h _ _ hn
 |enter f args=>exact Body.mono hn h
 |round l f tmps a b=>exact nC.mono hn h
 |_=>exact hn
theorem bc.mono{lv:Bool}{P:SI}{f:TS}{H:List aa}{args:List AV}{k k' kp uj:AV->List aa->Prop}(h:bc lv P f H args k kp)(hk:∀a H,k a H->k' a H)(hp:∀a H,kp a H->uj a H):bc lv P f H args k' uj:=λE V vs hc hd=>
 (h E V vs hc hd).mono λ_ _ x=>x.mono hk hp
theorem je.mono{lv:Bool}{P:SI}{f:AV}{H:List aa}{args:List AV}{k k' kp uj:AV->List aa->Prop}(h:je lv P f H args k kp)(hk:∀a H,k a H->k' a H)(hp:∀a H,kp a H->uj a H):je lv P f H args k' uj:=λE V cv vs hc hd pM=>
 (h E V cv vs hc hd pM).mono (λ_ _ x=>Nx.mono (λ_ _ y=>y.mono hk hp) x) (λ_ _ y=>y.mono hk hp)
def ru (P:SI)(g:TS):Bool:=match P.funcs[g]?with
 | some fn => fn.body.isSome && !(fn.name == "runtime.NumGoroutine")
 |none=>false
theorem arf{lv:Bool}{P:SI}{V:View}{g:TS}{vs:Array SQ}{R:Out->View->Prop}{Kp:SQ->View->Prop}(hg:ru P g=true)(h:Body lv P g vs .normal V R):aR P V (callFunc g vs) (λnx V'=>Nx lv P R nx V') Kp:=by
 unfold callFunc;refine az (ri (cM ?_));unfold ru at hg;split at hg
 ·rename_i fn yC;simp only[Tg,T4]at hg;rw[yC];dsimp only;have La:fn.body.isNone=false:=by
   have h1:=hg.1;cases hb:fn.body with
   |none=>rw[hb]at h1;cases h1
   |some _=>rfl
  rw[if_neg (by rw[hg.2];simp),if_neg (by rw[La];simp)];exact au h
 ·cases hg
section
variable {lv:Bool}{P:SI}{H:List aa}{args:List AV}{k kp:AV->List aa->Prop}
theorem Jy{g:TS}{first cW:List AV}(hg:ru P g=true)(hf:bc lv P g H (first++args++cW) k kp):je lv P (.fn (.func g) first cW) H args k kp:=by
 intro E V cv vs hc hd pM;cases hd with
 |fn dW f_ h1 h2=>
  rename_i fa ca;unfold U_;refine az (au ?_);unfold invoke;dsimp only;exact arf hg (hf E V _ hc (CB (CB ⟨dW,h1⟩ pM) ⟨f_,h2⟩))
end
def ft (s:AS):List Tj->Option (List AV)
 |[]=>some []
 |x::l=>match s.ev x,ft s l with
  |some a,some aF=>some (a::aF)
  |_,_=>none
theorem An{E:Env}{s:AS}{a:Act}(k:cu E s.T a.tmps):∀{l:List Tj}{aF:List AV},ft s l=some aF->cN E aF (l.map a.eval).toArray
 |[],_,h=>by cases h;exact⟨rfl,by simp⟩
 |x::l,aF,h=>by
  simp only[ft]at h;split at h
  ·rename_i av my h1 h2;cases h;have ih:=An k h2;refine⟨by have:=ih.1;simpa using this,λi b e=> ?_⟩;cases i with
   |zero=>simp at e;subst e;simpa[SH]using ap.ev k h1
   |succ i=>
    simp only[UR]at e;have:=ih.2 i b e;simpa[SH]using this
  ·cases h
section
variable {lv:Bool}{P:SI}{r:Option Nat}{o:Tx}{s:AS}{next:AS->Prop}{bad:AV->AS->Prop}
theorem acp{E:Env}{V:View}{a:Act}{N:Act->View->Prop}{Q:Ex->Act->View->Prop}(aE:cu E s.T a.tmps)(hd:∀d,o.dst=some d->d<a.tmps.size)
  (h1:∀E' V' a' s',Kept E E' V V' a a'->Conc E' V' s'.H->cu E' s'.T a'.tmps->next s'->N a' V')
  (h2:∀E' V' s' pv v,Kept E E' V V' a a->Conc E' V' s'.H->cu E' s'.T a.tmps->ap E' pv v->bad pv s'->Q (.panic [{v,recovered:=false}]) a V'):
  (∀nx V',Nx lv P (gW E V (λb H'=>next ((⟨s.T,H'⟩:AS).put o.dst b)) (λpv H'=>bad pv ⟨s.T,H'⟩)) nx V'->m8 lv P r o a N Q nx V')/\
  (∀v V',gW E V (λb H'=>next ((⟨s.T,H'⟩:AS).put o.dst b)) (λpv H'=>bad pv ⟨s.T,H'⟩) (.panic [{v,recovered:=false}]) V'->Q (.panic [{v,recovered:=false}]) a V'):=by
 have hv:∀v V',gW E V (λb H'=>next ((⟨s.T,H'⟩:AS).put o.dst b)) (λpv H'=>bad pv ⟨s.T,H'⟩) (.ret v) V'->N (a.put o.dst v) V':=λv V' ⟨av,E',H',hle,cp,fg,bt,bp,hk⟩=>
  h1 E' V' _ _ ⟨hle,eo _ _ _,put_defers _ _ _,cp,fg⟩ (by rw[fx];exact bp) (cu.ii (s:=⟨s.T,H'⟩) (aE.mono hle) hd bt) hk
 have hp:∀ch V',gW E V (λb H'=>next ((⟨s.T,H'⟩:AS).put o.dst b)) (λpv H'=>bad pv ⟨s.T,H'⟩) (.panic ch) V'->Q (.panic ch) a V':=λch V' ⟨pv,v,E',H',ff,hle,cp,fg,bt,bp,hk⟩=>by
  subst ff;exact h2 E' V' ⟨s.T,H'⟩ pv v ⟨hle,rfl,rfl,cp,fg⟩ bp (aE.mono hle) bt hk
 refine⟨λnx V' hn=> ?_,λv V' h=>hp _ _ h⟩;cases nx with
 |value v=>exact hv _ _ hn
 |skip=>exact hv _ _ hn
 |enter f args=>
  refine Body.mono (R':=fun
   |.ret v,V'=>N (a.put o.dst v) V'
   |.panic ch,V'=>Q (.panic ch) a V') hn λot aU h=> ?_
  cases ot with
  |ret v=>exact hv _ _ h
  |panic ch=>exact hp _ _ h
 |round l f tmps aF b=>
  refine nC.mono (R':=fun
   |.ret v,V'=>N (a.put o.dst v) V'
   |.panic ch,V'=>Q (.panic ch) a V') hn λot aU h=> ?_
  cases ot with
  |ret v=>exact hv _ _ h
  |panic ch=>exact hp _ _ h
 |_=>exact hn.elim
theorem OL{c:Xt}{x:Tj}{tg:AV}{aF:List AV}(ho:o.op=.call c)(ba:c.callee=.value x)(hx:s.ev x=some tg)(has:ft s c.args.toList=some aF)
  (hf:je lv P tg s.H aF (λb H'=>next ((⟨s.T,H'⟩:AS).put o.dst b)) (λpv H'=>bad pv ⟨s.T,H'⟩)):Step lv P r o s next bad:=by
 intro E V a N Q hc aE hd bB h1 h2;have sj:=acp (lv:=lv) (P:=P) (r:=r) aE hd h1 h2;refine⟨bB,?_⟩;unfold execOp;rw[ho];dsimp only;unfold resolve;rw[ba];dsimp only;have e:c.args.map a.eval=(c.args.toList.map a.eval).toArray:=by apply VH;simp
 rw[e];exact(hf E V (a.eval x) _ hc (ap.ev aE hx) (An aE has)).mono (λnx V' h=>sj.1 nx V' h) (λv V' h=>sj.2 v V' h)
theorem adO{c:Xt}{x:Tj}{name:String}{tg:AV}{aF:List AV}(ho:o.op=.call c)(ba:c.callee=.invoke x name)(hx:s.ev x=some tg)(has:ft s c.args.toList=some aF)
  (hf:Fs lv P tg name s.H aF (λb H'=>next ((⟨s.T,H'⟩:AS).put o.dst b)) (λpv H'=>bad pv ⟨s.T,H'⟩)):Step lv P r o s next bad:=by
 intro E V a N Q hc aE hd bB h1 h2;have sj:=acp (lv:=lv) (P:=P) (r:=r) aE hd h1 h2;refine⟨bB,?_⟩;unfold execOp;rw[ho];dsimp only;unfold resolve;rw[ba];dsimp only;refine az (au ?_);have e:c.args.map a.eval=(c.args.toList.map a.eval).toArray:=by apply VH;simp
 rw[e];exact(hf E V (a.eval x) _ hc (ap.ev aE hx) (An aE has)).mono (λnx V' h=>sj.1 nx V' h) (λv V' h=>sj.2 v V' h)
theorem asd{x:Tj}{t:TypeId}{av:AV}(ho:o.op=.panic x)(hx:s.ev x=some (.db t av))(hb:bad (.db t av) s):Step lv P r o s next bad:=by
 intro E V a N Q hc aE hd bB _ h2;refine⟨bB,?_⟩;have dC:=ap.ev aE hx;unfold execOp;rw[ho];dsimp only;refine az ?_;generalize a.eval x=v at dC⊢;have alh:=dC;cases dC with
 |db hv=>
  unfold Instr.panic;dsimp only;exact aro (h2 E V s (.db t av) _ ⟨Env.Le.refl E,rfl,rfl,rfl,rfl⟩ hc aE alh hb)
end
structure Ft (k kp:AV->List aa->Prop):Type where
 n:Nat
def BT (lv:Bool)(P:SI)(c:AV)(H:List aa)(args:List AV)(k kp:AV->List aa->Prop)(_t:Ft k kp):Prop:=je lv P c H args k kp
def aeM (lv:Bool)(P:SI)(c:AV)(name:String)(H:List aa)(args:List AV)(k kp:AV->List aa->Prop)(_t:Ft k kp):Prop:=Fs lv P c name H args k kp
theorem xZ{lv:Bool}{P:SI}{c:AV}{H:List aa}{args:List AV}{k kp:AV->List aa->Prop}{t:Ft k kp}(h:je lv P c H args k kp):BT lv P c H args k kp t:=h
def ao {α:Type}(x:Option α)(k:α->Prop):Prop:=match x with
 |some a=>k a
 |none=>False
def AV.asBool (a:AV)(k:Bool->Prop):Prop:=match a with
 |.val (.bool b)=>k b
 |_=>False
def AV.asInt (a:AV)(k:T8->Int->Prop):Prop:=match a with
 |.val (.int j n)=>k j n
 |_=>False
def AV.xU (a:AV)(k:List AV->Prop):Prop:=match a with
 |.aO l=>k l
 |_=>False
def AV.asAgg (a:AV)(k:List AV->Prop):Prop:=match a with
 |.agg l=>k l
 |_=>False
def AV.qw (a:AV)(k:Nat->Nat->Prop):Prop:=match a with
 |.op i j=>k i j
 |_=>False
def AV.s_ (a:AV)(k:Nat->Prop):Prop:=match a with
 |.mp i=>k i
 |_=>False
def AV.wu (a:AV)(k:Nat->List AV->End->Prop):Prop:=match a with
 |.sl n l e=>k n l e
 |_=>False
theorem ao.out{α:Type}{x:Option α}{k:α->Prop}(h:ao x k):∃a,x=some a/\k a:=by
 cases x with
 |none=>exact h.elim
 |some a=>exact⟨a,rfl,h⟩
theorem Co{a:AV}{k:Bool->Prop}(h:a.asBool k):∃b,a=.val (.bool b)/\k b:=by
 unfold AV.asBool at h;split at h
 ·exact⟨_,rfl,h⟩
 ·exact h.elim
theorem oG{a:AV}{k:T8->Int->Prop}(h:a.asInt k):∃j n,a=.val (.int j n)/\k j n:=by
 unfold AV.asInt at h;split at h
 ·exact⟨_,_,rfl,h⟩
 ·exact h.elim
theorem agb{a:AV}{k:List AV->Prop}(h:a.xU k):∃l,a=.aO l/\k l:=by
 unfold AV.xU at h;split at h
 ·exact⟨_,rfl,h⟩
 ·exact h.elim
theorem af2{a:AV}{k:List AV->Prop}(h:a.asAgg k):∃l,a=.agg l/\k l:=by
 unfold AV.asAgg at h;split at h
 ·exact⟨_,rfl,h⟩
 ·exact h.elim
theorem Cp{a:AV}{k:Nat->Nat->Prop}(h:a.qw k):∃i j,a=.op i j/\k i j:=by
 unfold AV.qw at h;split at h
 ·exact⟨_,_,rfl,h⟩
 ·exact h.elim
theorem FH{a:AV}{k:Nat->Prop}(h:a.s_ k):∃i,a=.mp i/\k i:=by
 unfold AV.s_ at h;split at h
 ·exact⟨_,rfl,h⟩
 ·exact h.elim
theorem PC{a:AV}{k:Nat->List AV->End->Prop}(h:a.wu k):∃n l e,a=.sl n l e/\k n l e:=by
 unfold AV.wu at h;split at h
 ·exact⟨_,_,_,rfl,h⟩
 ·exact h.elim
section
variable (P:SI)(s:AS)
def dM (op:Wc)(xt:TypeId)(a b:AV)(k:AV->Prop):Prop:=match a,b with
 |.val (.int j m),.val (.int j' n)=>if nj op then ao (BB op j m n) λv=>k (.val v)else j'=j/\ao (mz op j m n) λv=>k (.val v)
 |_,_=>(op=.eql\/op=.neq)/\ao a.raw λX=>ao b.raw λY=>Ak X Y=true/\P.eqGuardType P.depth xt=false/\∃e,cP P (Xs xt X Y) e/\k (.val (.bool (if op== .neq then !e else e)))
def iR (op:Wc)(xt:TypeId)(y:Tj)(a:AV)(k:AV->Prop):Prop:=match y,a with
 |.const .nilIface,.val .nilIface=>mM P xt=some true/\(op=.eql\/op=.neq)/\k (.val (.bool (if op== .neq then false else true)))
 |.const .nilIface,.db _ _=>mM P xt=some true/\(op=.eql\/op=.neq)/\k (.val (.bool (if op== .neq then true else false)))
 |y,a=>ao (s.ev y) λb=>dM P op xt a b k
def sR (t:TypeId)(a:AV)(l h m:Option Int)(k:AV->Prop):Prop:=match a with
 |.sl n li e=>ao (kN P t) λ(_,sz)=>xN n li e sz l h m k
 |.bz id off n cap=>ao (kN P t) λ(_,sz)=>sY id off n cap sz l h m k
 |.op id off=>ao (xI P t) λ(n,sz)=>sY id off n n sz l h m k
 |_=>False
def sQ (t:TypeId)(a:AV)(k:AV->Prop):Prop:=match lj P t,a with
 |some .slice,.sl n _ _=>k (.val (.int .i64 n))
 |some .slice,.bz _ _ n _=>k (.val (.int .i64 n))
 |some .str,.val (.string b)=>k (.val (.int .i64 b.size))
 |some .map,.mp id=>match s.H[id]?with
  |some (.obj (.map es _))=>k (.val (.int .i64 es.size))
  |_=>False
 |_,_=>False
def mU (a:AV)(k:AV->Prop):Prop:=match a with
 |.fn (.method name) [.db t av] []=>I_ P t name/\k (.fn (.method name) [.db t av] [])
 |a=>a.sure=true/\k a
def BP (aF:TypeId)(ok:Bool)(a:AV)(k:AV->Prop):Prop:=mM P aF=some false/\ao (eU P aF) λz=>match a with
 |.db t av=>if t=aF then k (if ok then .aO [av,.val (.bool true)]else av)else ok=true/\k (.aO [AV.of z,.val (.bool false)])
 |.val .nilIface=>ok=true/\k (.aO [AV.of z,.val (.bool false)])
 |_=>False
def lT (o:Tx)(k:AV->Prop):Prop:=match o.op with
 |.move x=>ao (s.ev x) k
 |.assign x=>ao (s.ev x) k
 |.pick c x y=>ao (s.ev c) λb=>ao (s.ev x) λa=>ao (s.ev y) λa'=>b.asBool λb=>k (if b then a else a')
 |.binOp op xt x y _=>ao (s.ev x) λa=>iR P s op xt y a k
 |.unOp .not _ x=>ao (s.ev x) λa=>a.asBool λb=>k (.val (.bool !b))
 |.unOp .neg _ x=>ao (s.ev x) λa=>a.asInt λj n=>k (.val (.int j (j.wrap (0-n))))
 |.convert src dst x=>ao (s.ev x) λa=>match BU P src dst with
   |some (some j)=>a.asInt λ_ n=>k (.val (.int j (j.wrap n)))
   |_=>False
 |.extract x i=>ao (s.ev x) λa=>a.xU λl=>ao l[i]? k
 |.nilCheck x=>ao (s.ev x) λa=>mU P a k
 |.makeInterface t x=>mM P t=some false/\ao (s.ev x) λa=>k (.db t a)
 |.makeFunc f first cW=>ao (first.toList.mapM s.ev) λfa=>ao (cW.toList.mapM s.ev) λca=>k (.fn f fa ca)
 |.typeAssert x _ aF ok=>ao (s.ev x) λa=>BP P aF ok a k
 |.build t parts=>ao (oz P t) λ(pl,z)=>ao (kB s parts.toList) λaF=>ao (oL pl.at (mr z) aF) λl=>k (.agg l)
 |.buildSlice t len parts=>ao (qu P t) λ(_,sz,z)=>len* sz<=2^24/\ao (kB s parts.toList) λaF=>ao (oL (iq.at (.elems sz)) (gG z (len* sz)) aF) λl=>k (.sl len l .exact)
 |.fieldAddr t x f=>ao (s.ev x) λa=>ao (eN P t f) λn=>ao (a.shift n) k
 |.indexAddr t x ix=>ao (s.ev x) λa=>ao (s.ev ix) λi=>i.asInt λ_ i=>ao (nz P t) fun
   |(some n,sz)=>(0<=i/\i<n)/\ao (a.shift (i.toNat* sz)) k
   |(none,sz)=>ao a.row λ(n,p)=>(0<=i/\i<n)/\ao (p.shift (i.toNat* sz)) k
 |.field t x f=>ao (s.ev x) λa=>a.asAgg λl=>ao (Ja P t f) λ(off,n,g)=>ao (AV.cut l off n g) k
 |.index t x ix=>ao (s.ev x) λa=>ao (s.ev ix) λi=>i.asInt λ_ i=>match a with
   |.agg l=>ao (I4 P t) λ(n,sz,g)=>(0<=i/\i<n)/\ao (AV.cut l (i.toNat* sz) sz g) k
   |.val (.string b)=>(match lj P t with|some .str=>True|_=>False)/\0<=i/\ao b[i.toNat]? λc=>k (.val (.int .u8 c.toNat))
   |_=>False
 |.load t x=>ao (s.ev x) λp=>ao (s.at p) λl=>ao (Ty P t) fun
   |(n,true)=>n<=l.length/\k (.agg (l.take n))
   |(_,false)=>ao l[0]? k
 |.lookup t m k' ok=>ao (pu P t) λ(kt,et)=>ao (eU P et) λz=>ao (s.ev m) λp=>ao (s.ev k') λa=>ao a.raw λK=>p.s_ λid=>match s.H[id]?with
  |some (.obj (.map es _))=>cP P (Vk es.isEmpty 10000 kt K) ()/\∃fd,cP P (VR kt K es.toList) fd/\k (AV.found z ok fd)
  |_=>False
 |.slice t x lo hi mx=>ao (s.ev x) λa=>ao (s.jg lo) λl=>ao (s.jg hi) λh=>ao (s.jg mx) λm=>sR P t a l h m k
 |.entry it=>ao (s.ev it) λp=>p.qw λid off=>off=0/\match s.H[id]?with
   |some (.iter m _ seen ck)=>match s.H[m]?with
    |some (.obj (.map es Qh))=>Qh=ck/\ao seen.back? λb=>ao (es.find? (·.born==b)) λe=>k (.aO [AV.of e.key,AV.of e.val])
    |_=>False
   |_=>False
 |.call c=>match c.callee with
  |.builtin .len=>ao c.args[0]? λx=>ao c.argTypes[0]? λt=>ao (s.ev x) λa=>sQ P s t a k
  |.builtin .max=>match c.args.toList with
   |[x,y]=>ao (s.ev x) λa=>ao (s.ev y) λb=>a.asInt λj m=>b.asInt λ_ n=>k (.val (.int j (if n>m then n else m)))
   |_=>False
  |.builtin .min=>match c.args.toList with
   |[x,y]=>ao (s.ev x) λa=>ao (s.ev y) λb=>a.asInt λj m=>b.asInt λ_ n=>k (.val (.int j (if n<m then n else m)))
   |_=>False
  |_=>False
 |_=>False
end
section
variable {lv:Bool}{P:SI}{r:Option Nat}{o:Tx}{s:AS}
theorem nG{c:Xt}{x y:Tj}(h:c.args.toList=[x,y]):c.args=#[x,y]:=by
 apply VH;simpa using h
theorem lT.sound{k:AV->Prop}(h:lT P s o k):∃av,dF lv P r o s av/\k av:=by
 unfold lT at h;split at h
 ·rename_i x ho;obtain⟨a,h1,h2⟩:=h.out;exact⟨a,acS (.inl ho) h1,h2⟩
 ·rename_i x ho;obtain⟨a,h1,h2⟩:=h.out;exact⟨a,acS (.inr ho) h1,h2⟩
 ·rename_i c x y ho;obtain⟨b,h1,h⟩:=h.out;obtain⟨a,h2,h⟩:=h.out;obtain⟨a',h3,h⟩:=h.out;obtain⟨b,rfl,h⟩:=Co h;exact⟨_,aqk ho h1 h2 h3,h⟩
 ·rename_i op xt x y yt ho;obtain⟨a,h1,hY⟩:=h.out;clear h;unfold iR at hY;split at hY
  ·exact⟨_,acQ ho hY.2.1 h1 (.inl ⟨rfl,rfl⟩) hY.1,hY.2.2⟩
  ·exact⟨_,acQ ho hY.2.1 h1 (.inr ⟨⟨_,_,rfl⟩,rfl⟩) hY.1,hY.2.2⟩
  rename_i n1 n2;clear n1 n2;obtain⟨b,h2,h⟩:=hY.out;unfold dM at h;split at h
  ·rename_i j m j' n;split at h
   ·obtain⟨v,h3,h⟩:=h.out;exact⟨_,aql ho h1 h2 h3,h⟩
   ·obtain⟨rfl,h⟩:=h;obtain⟨v,h3,h⟩:=h.out;exact⟨_,apU ho h1 h2 h3,h⟩
  ·obtain⟨ay,h⟩:=h;obtain⟨X,h3,h⟩:=h.out;obtain⟨Y,h4,h⟩:=h.out;obtain⟨h5,h6,e,h7,h⟩:=h;exact⟨_,apZ ho ay h1 h2 h3 h4 h5 h6 h7,h⟩
 ·rename_i t x ho;obtain⟨a,h1,h⟩:=h.out;obtain⟨b,rfl,h⟩:=Co h;exact⟨_,aqj ho h1,h⟩
 ·rename_i t x ho;obtain⟨a,h1,h⟩:=h.out;obtain⟨j,n,rfl,h⟩:=oG h;exact⟨_,aqg ho h1,h⟩
 ·rename_i src dst x ho;obtain⟨a,h1,h⟩:=h.out;split at h
  ·rename_i j hj;obtain⟨j',n,rfl,h⟩:=oG h;exact⟨_,apX ho hj h1,h⟩
  ·exact h.elim
 ·rename_i x i ho;obtain⟨a,h1,h⟩:=h.out;obtain⟨l,rfl,h⟩:=agb h;obtain⟨b,h2,h⟩:=h.out;exact⟨_,ap0 ho h1 h2,h⟩
 ·rename_i x ho;obtain⟨a,h1,h⟩:=h.out;unfold mU at h;split at h
  ·exact⟨_,aqi ho h1 h.1,h.2⟩
  ·exact⟨_,aqh ho h1 h.1,h.2⟩
 ·rename_i t x ho;obtain⟨h1,h⟩:=h;obtain⟨a,h2,h⟩:=h.out;exact⟨_,aqd ho h1 h2,h⟩
 ·rename_i f first cW ho
  obtain⟨fa,h1,h⟩:=h.out;obtain⟨ca,h2,h⟩:=h.out;exact⟨_,aqc ho h1 h2,h⟩
 ·rename_i x xt aF ok ho;obtain⟨a,h1,hA⟩:=h.out;obtain⟨h2,hB⟩:=hA;obtain⟨z,h3,hC⟩:=hB.out;clear h hB;split at hC
  ·rename_i t av;split at hC
   ·rename_i e;subst e;exact⟨_,acP ho h2 h3 h1 (.inr rfl),by rw[if_pos rfl];exact hC⟩
   ·rename_i e;exact⟨_,acP ho h2 h3 h1 (.inl hC.1),by rw[if_neg e];exact hC.2⟩
  ·obtain⟨e,hC⟩:=hC;subst e;exact⟨_,apS ho h2 h3 h1,hC⟩
  ·exact hC.elim
 ·rename_i t parts ho;obtain⟨⟨pl,z⟩,h1,h⟩:=h.out;obtain⟨aF,h2,h⟩:=h.out;obtain⟨l,h3,h⟩:=h.out;exact⟨_,apV ho h1 h2 h3,h⟩
 ·rename_i t len parts ho;obtain⟨⟨e,sz,z⟩,h1,h⟩:=h.out;obtain⟨hs,h⟩:=h;obtain⟨aF,h2,h⟩:=h.out;obtain⟨l,h3,h⟩:=h.out;exact⟨_,apW ho h1 hs h2 h3,h⟩
 ·rename_i t x f ho;obtain⟨a,h1,h⟩:=h.out;obtain⟨n,hn,h⟩:=h.out;obtain⟨b,h2,h⟩:=h.out;exact⟨_,ap1 ho hn h1 h2,h⟩
 ·rename_i t x ix ho;obtain⟨a,h1,h⟩:=h.out;obtain⟨i,h2,h⟩:=h.out;obtain⟨j,i,rfl,h⟩:=oG h;obtain⟨⟨on,sz⟩,ht,h⟩:=h.out;cases on with
  |some n=>
   obtain⟨⟨h3,h4⟩,h⟩:=h;obtain⟨q,h5,h⟩:=h.out;exact⟨_,ap4 ho ht h1 h2 h3 h4 h5,h⟩
  |none=>
   obtain⟨⟨n,p⟩,amr,h⟩:=ao.out h;obtain⟨⟨h3,h4⟩,h⟩:=h;obtain⟨q,h5,h⟩:=h.out;exact⟨_,ap3 ho ht h1 amr h2 h3 h4 h5,h⟩
 ·rename_i t x f ho;obtain⟨a,h1,h⟩:=h.out;obtain⟨l,rfl,h⟩:=af2 h;obtain⟨⟨off,n,g⟩,h2,h⟩:=h.out;obtain⟨b,h3,h⟩:=h.out;exact⟨_,ap2 ho h2 h1 h3,h⟩
 ·rename_i t x ix ho;obtain⟨a,h1,h⟩:=h.out;obtain⟨i,h2,h⟩:=h.out;obtain⟨j,i,rfl,h⟩:=oG h;split at h
  ·obtain⟨⟨n,sz,g⟩,h3,h⟩:=h.out;obtain⟨⟨h4,h5⟩,h⟩:=h;obtain⟨b,h6,h⟩:=h.out;exact⟨_,ap6 ho h3 h1 h2 h4 h5 h6,h⟩
  ·obtain⟨h3,h4,h⟩:=h;obtain⟨c,h5,h⟩:=h.out;split at h3
   ·rename_i hl;exact⟨_,ap5 ho hl h1 h2 h4 h5,h⟩
   ·exact h3.elim
  ·exact h.elim
 ·rename_i t x ho;obtain⟨p,h1,h⟩:=h.out;obtain⟨l,hl,h⟩:=h.out;obtain⟨⟨n,g⟩,ht,h⟩:=h.out;cases g with
  |true=>exact⟨_,ap9 ho ht h1 hl h.1,h.2⟩
  |false=>
   obtain⟨av,h2,h⟩:=ao.out h;exact⟨_,aqa ho ht h1 hl h2,h⟩
 ·rename_i t m k' ok ho;obtain⟨⟨kt,et⟩,h1,hA⟩:=h.out;obtain⟨z,h2,hB⟩:=hA.out;obtain⟨p,h3,hC⟩:=hB.out;obtain⟨a,h4,hD⟩:=hC.out;obtain⟨K,h5,hE⟩:=hD.out;obtain⟨id,e1,hF⟩:=FH hE;subst e1;split at hF
  ·rename_i es ck hH;obtain⟨h6,fd,h7,h8⟩:=hF;exact⟨_,aqb ho h1 h2 h3 h4 h5 hH h6 h7,h8⟩
  ·exact hF.elim
 ·rename_i t x lo hi mx ho;obtain⟨a,h1,h⟩:=h.out;obtain⟨l,h2,h⟩:=h.out;obtain⟨hh,h3,h⟩:=h.out;obtain⟨m,h4,h⟩:=h.out;unfold sR at h;split at h
  ·obtain⟨⟨e,sz⟩,h5,h⟩:=h.out;exact aqm ho h5 h1 h2 h3 h4 h
  ·obtain⟨⟨e,sz⟩,h5,h⟩:=h.out;exact aqo ho h5 h1 h2 h3 h4 h
  ·obtain⟨⟨n,sz⟩,h5,h⟩:=h.out;exact aqn ho h5 h1 h2 h3 h4 h
  ·exact h.elim
 ·rename_i it ho;obtain⟨p,h1,hA⟩:=h.out;obtain⟨id,off,e1,hB⟩:=Cp hA;clear h hA;subst e1;obtain⟨e1,hC⟩:=hB;subst e1;split at hC
  ·rename_i m since seen ck hI;split at hC
   ·rename_i es Qh hM;obtain⟨e1,hD⟩:=hC;subst e1;obtain⟨b,h2,hE⟩:=hD.out;obtain⟨e,h3,hF⟩:=hE.out;exact⟨_,apY ho h1 hI hM h2 h3,hF⟩
   ·exact hC.elim
  ·exact hC.elim
 ·rename_i c ho;split at h
  ·rename_i ba;obtain⟨x,h1,h⟩:=h.out;obtain⟨t,h2,h⟩:=h.out;obtain⟨a,h3,h⟩:=h.out;unfold sQ at h;split at h
   ·rename_i hl;exact⟨_,acR ho ba h1 h2 hl h3 rfl,h⟩
   ·rename_i hl;exact⟨_,acR ho ba h1 h2 hl h3 rfl,h⟩
   ·rename_i hl;exact⟨_,ap8 ho ba h1 h2 hl h3,h⟩
   ·rename_i hl;split at h
    ·rename_i hM;exact⟨_,ap7 ho ba h1 h2 hl h3 hM,h⟩
    ·exact h.elim
   ·exact h.elim
  ·rename_i ba;split at h
   ·rename_i x y cQ;obtain⟨a,h1,hA⟩:=h.out;obtain⟨b,h2,hB⟩:=hA.out;obtain⟨j,m,e1,hC⟩:=oG hB;obtain⟨j',n,e2,hD⟩:=oG hC;subst e1 e2;exact⟨_,aqe ho ba (nG cQ) h1 h2,hD⟩
   ·exact h.elim
  ·rename_i ba;split at h
   ·rename_i x y cQ;obtain⟨a,h1,hA⟩:=h.out;obtain⟨b,h2,hB⟩:=hA.out;obtain⟨j,m,e1,hC⟩:=oG hB;obtain⟨j',n,e2,hD⟩:=oG hC;subst e1 e2;exact⟨_,aqf ho ba (nG cQ) h1 h2,hD⟩
   ·exact h.elim
  ·exact h.elim
 ·exact h.elim
end
open Go.Conc
structure mu (X Y:Prop):Type where
 n:Nat
def rA (b cj:Bool)(X Y:Prop)(_t:mu X Y):Prop:=(b=cj->X)/\(b= !cj->Y)
theorem yk{b cj:Bool}{X Y:Prop}{t:mu X Y}(h1:b=cj->X)(h2:b= !cj->Y):rA b cj X Y t:=⟨h1,h2⟩
theorem aky(X Y:Prop)(t:mu X Y):rA true true X Y t=X:=by simp[rA]
theorem akx(X Y:Prop)(t:mu X Y):rA true false X Y t=Y:=by simp[rA]
theorem akw(X Y:Prop)(t:mu X Y):rA false true X Y t=Y:=by simp[rA]
theorem akv(X Y:Prop)(t:mu X Y):rA false false X Y t=X:=by simp[rA]
section
variable (lv:Bool)(P:SI)
def uC (H:List aa)(k:AV->List aa->Prop)(id off n c0 m sz:Nat)(elem:TypeId)(l':List AV):Prop:=off=0/\c0<n/\l'.length=m* sz/\n+m<=2^30/\(∀a∈l',a.leaf=true)/\match H[id]?with
 |some (.own eG l el)=>eG=sz/\el=elem/\l.length=n* sz/\k (.bz H.length 0 (n+m) 0) (H.set id .gone++[.own sz (l++l') elem])
 |_=>False
def AV.qx (a:AV)(kO:Nat->Nat->Nat->Nat->Prop)(k:Nat->List AV->End->Prop):Prop:=match a with
 |.bz id off n c=>kO id off n c
 |.sl n l e=>k n l e
 |_=>False
theorem Jj{a:AV}{kO:Nat->Nat->Nat->Nat->Prop}{k:Nat->List AV->End->Prop}(h:a.qx kO k):(∃id off n c,a=.bz id off n c/\kO id off n c)\/∃n l e,a=.sl n l e/\k n l e:=by
 unfold AV.qx at h;split at h
 ·exact .inl ⟨_,_,_,_,rfl,h⟩
 ·exact .inr ⟨_,_,_,rfl,h⟩
 ·exact h.elim
def mV (s:AS)(o:Tx)(next:AS->Prop)(bad:AV->AS->Prop):Prop:=match o.op with
 |.box t x=>ao (s.ev x) λa=>ao a.parts λl=>next ((⟨s.T,s.H++[.cells l t]⟩:AS).put o.dst (.op s.H.length 0))
 |.alloc t=>ao (eU P t) λz=>next ((⟨s.T,s.H++[.cells (mr z) t]⟩:AS).put o.dst (.op s.H.length 0))
 |.store t x y=>ao (s.ev x) λp=>ao (s.ev y) λa=>ao a.parts λlp=>p.qw λid off=>match s.H[id]?with
  |some (.cells l el)=>(ao (Ty P t) λx=>lp.length=x.1)/\off+lp.length<=l.length/\(∀a∈lp,a.leaf=true)/\next ((⟨s.T,s.H.set id (.cells (iO l off lp) el)⟩:AS).put o.dst (.val undef))
  |some (.part p l el)=>p<=off/\(ao (Ty P t) λx=>lp.length=x.1)/\off+lp.length<=l.length/\(∀a∈lp,a.leaf=true)/\next ((⟨s.T,s.H.set id (.part p (iO l off lp) el)⟩:AS).put o.dst (.val undef))
  |some (.own p l el)=>(ao (Ty P t) λx=>lp.length=x.1)/\off+lp.length<=l.length/\(∀a∈lp,a.leaf=true)/\next ((⟨s.T,s.H.set id (.own p (iO l off lp) el)⟩:AS).put o.dst (.val undef))
  |_=>False
 |.makeMap _ none=>next ((⟨s.T,s.H++[.obj (.map #[] 0)]⟩:AS).put o.dst (.mp s.H.length))
 |.makeSlice t x y=>ao (B4 P t) λ(e,sz,z)=>ao (s.ev x) λa=>ao (s.ev y) λb=>a.asInt λ_ n=>b.asInt λ_ n'=>n'=n/\0<=n/\n<=2^30/\next ((⟨s.T,s.H++[.cells (gG z (n.toNat* sz)) e]⟩:AS).put o.dst (.bz s.H.length 0 n.toNat n.toNat))
 |.mapUpdate t m k x=>ao (pu P t) λ(kt,_)=>ao (s.ev m) λp=>ao (s.ev k) λa=>ao (s.ev x) λb=>ao a.raw λK=>ao b.raw λX=>p.s_ λid=>match s.H[id]?with
  |some (.obj (.map es ck))=>cP P (Vk false 10000 kt K) ()/\∃fd,cP P (VR kt K es.toList) fd/\(∀i v,fd=some (i,v)->WF 10000 (((es[i]?).map (·.key)).getD K) K=true)/\next ((⟨s.T,s.H.set id (.obj (xq es ck K X fd))⟩:AS).put o.dst (.val undef))
  |_=>False
 |.range t x=>ao (pu P t) λ_=>ao (s.ev x) λp=>p.s_ λm=>match s.H[m]?with
  |some (.obj (.map _ ck))=>next ((⟨s.T,s.H++[.iter m ck #[] ck]⟩:AS).put o.dst (.op s.H.length 0))
  |_=>False
 |.next it false=>ao (s.ev it) λp=>p.qw λid off=>off=0/\match s.H[id]?with
  |some (.iter m since seen uA)=>match s.H[m]?with
   |some (.obj (.map es ck))=>(es.all (λe=>decide (e.born>=uA))=false\/es.isEmpty=true\/seen.isEmpty=true)/\
    (∀e∈es,e.born∉seen->next ((⟨s.T,s.H.set id (.iter m since (seen.push e.born) ck)⟩:AS).put o.dst (.aO [.val (.bool true),AV.of e.key,AV.of e.val])))/\
    ((∀e∈es,e.born<since->e.born∈seen)->next (s.put o.dst (.aO [.val (.bool false)])))
   |_=>False
  |_=>False
 |.panic x=>ao (s.ev x) λa=>match a with
  |.db t av=>bad (.db t av) s
  |_=>False
 |.binOp op t x (.const (.slice none 0 0)) _=>(op=.eql\/op=.neq)/\ao (kN P t) λ_=>ao (s.ev x) λa=>ao a.len λn=>∀b:Bool,(0<n->b=false)->next (s.put o.dst (.val (.bool (if op== .neq then !b else b))))
 |.call c=>match c.callee with
  |.builtin .append=>match c.args.toList,c.argTypes.toList with
   |[x,y],[t,t']=>ao (jC P t t') λ(elem,sz,_)=>ao (s.ev x) λa=>ao (s.ev y) λb=>a.qx (λid off n c0=>ao (s.src sz b) λ(m,l')=>uC s.H (λb H'=>next ((⟨s.T,H'⟩:AS).put o.dst b)) id off n c0 m sz elem l') λn l e=>ao (s.src sz b) λ(m,l')=>l.length=n* sz/\l'.length=m* sz/\n+m<=2^30/\BS s o.dst next n m sz elem l l' e
   |_,_=>False
  |.builtin .copy=>match c.args.toList,c.argTypes.toList with
   |[x,y],[t,_]=>ao (kN P t) λ(_,sz)=>ao (s.ev x) λa=>ao (s.ev y) λb=>match a with
    |.bz id off n _=>match s.H[id]?with
     |some (.cells l el)=>ao (s.src sz b) λ(m,l')=>l'.length=m* sz/\off+min m n* sz<=l.length/\(∀a∈l',a.leaf=true)/\next ((⟨s.T,s.H.set id (.cells (iO l off (l'.take (min m n* sz))) el)⟩:AS).put o.dst (.val (.int .i64 (min m n:Nat))))
     |_=>False
    |_=>False
   |_,_=>False
  |.builtin .delete=>match c.args.toList,c.argTypes.toList with
   |[m,k],[t,_]=>ao (pu P t) λ(kt,_)=>ao (s.ev m) λp=>ao (s.ev k) λa=>ao a.raw λK=>p.s_ λid=>match s.H[id]?with
    |some (.obj (.map es ck))=>cP P (Vk es.isEmpty 10000 kt K) ()/\∃fd,cP P (VR kt K es.toList) fd/\next ((⟨s.T,s.H.set id (.obj (.map (FV es fd) ck))⟩:AS).put o.dst (.val undef))
    |_=>False
   |_,_=>False
  |.value x=>ao (s.ev x) λf=>ao (ft s c.args.toList) λaF=>BT lv P f s.H aF (λb H'=>next ((⟨s.T,H'⟩:AS).put o.dst b)) (λpv H'=>bad pv ⟨s.T,H'⟩) ⟨0⟩
  |.invoke x name=>ao (s.ev x) λf=>ao (ft s c.args.toList) λaF=>aeM lv P f name s.H aF (λb H'=>next ((⟨s.T,H'⟩:AS).put o.dst b)) (λpv H'=>bad pv ⟨s.T,H'⟩) ⟨0⟩
  |_=>lT P s o λav=>next (s.put o.dst av)
 |_=>lT P s o λav=>next (s.put o.dst av)
def iF (all:Array Tx):List Tx->AS->(AS->Prop)->(AV->AS->Prop)->Prop
 |[],s,next,_=>next s
 |o::rest,s,next,bad=>match o.guard with
  |none=>mV lv P s o (λs'=>iF all rest s' next bad) bad
  |some (j,cj)=>ao ((all[j]?).bind (·.dst)) λd=>ao (look s.T d) λa=>a.asBool λb=>rA b cj (mV lv P ⟨(d,.val (.bool cj))::s.T,s.H⟩ o (λs'=>iF all rest s' next bad) bad) (iF all rest ((⟨(d,.val (.bool !cj))::s.T,s.H⟩:AS).put o.dst (.val undef)) next bad) ⟨0⟩
end
section
variable {lv:Bool}{P:SI}{r:Option Nat}{s:AS}
theorem sN{c:Xt}{x y:TypeId}(h:c.argTypes.toList=[x,y]):c.argTypes=#[x,y]:=by
 apply VH;simpa using h
theorem mV.sound{o:Tx}{next:AS->Prop}{bad:AV->AS->Prop}(h:mV lv P s o next bad):Step lv P r o s next bad:=by
 have quiet:(lT P s o λav=>next (s.put o.dst av))->Step lv P r o s next bad:=λh=>by
  obtain⟨av,h1,h2⟩:=h.sound (lv:=lv) (r:=r);exact h1.step h2
 unfold mV at h;split at h
 ·rename_i t x ho;obtain⟨a,h1,h⟩:=h.out;obtain⟨l,h2,h⟩:=h.out;exact adM ho h1 h2 h
 ·rename_i t ho;obtain⟨z,h1,h⟩:=h.out;exact adJ ho h1 h
 ·rename_i t x y ho;obtain⟨p,h1,hA⟩:=h.out;obtain⟨a,h2,hB⟩:=hA.out;obtain⟨lp,h3,hC⟩:=hB.out;obtain⟨id,off,e1,hD⟩:=Cp hC;clear h hA hB hC;subst e1;split at hD
  ·rename_i l el hk;obtain⟨q1,q2,q3,q4⟩:=hD;obtain⟨⟨n,g⟩,q5,q6⟩:=q1.out;exact adR ho q5 h1 hk h2 h3 q6 q2 q3 q4
  ·rename_i p l el hk;obtain⟨q0,q1,q2,q3,q4⟩:=hD;obtain⟨⟨n,g⟩,q5,q6⟩:=q1.out;exact ash ho q5 h1 hk q0 h2 h3 q6 q2 q3 q4
  ·rename_i p l el hk;obtain⟨q1,q2,q3,q4⟩:=hD;obtain⟨⟨n,g⟩,q5,q6⟩:=q1.out;exact adS ho q5 h1 hk h2 h3 q6 q2 q3 q4
  ·exact hD.elim
 ·rename_i t ho;exact asa ho h
 ·rename_i t x y ho;obtain⟨⟨e,sz,z⟩,h1,hA⟩:=h.out;obtain⟨a,h2,hB⟩:=hA.out;obtain⟨b,h3,hC⟩:=hB.out;obtain⟨j,n,e1,hD⟩:=oG hC;obtain⟨j',n',e2,hE⟩:=oG hD;clear h hA hB hC hD;subst e1 e2;obtain⟨e3,h4,h5,h6⟩:=hE;subst e3;obtain⟨m,rfl⟩:∃m:Nat,n'=m:=⟨n'.toNat,by omega⟩;exact adP ho h1 h2 h3 (by omega) (by simpa using h6)
 ·rename_i t m k x ho;obtain⟨⟨kt,et⟩,h1,hA⟩:=h.out;obtain⟨p,h2,hB⟩:=hA.out;obtain⟨a,h3,hC⟩:=hB.out;obtain⟨b,h4,hD⟩:=hC.out;obtain⟨K,h5,hE⟩:=hD.out;obtain⟨X,h6,hF⟩:=hE.out;obtain⟨id,e1,hG⟩:=FH hF;clear h hA hB hC hD hE hF;subst e1;split at hG
  ·rename_i es ck hH;obtain⟨q1,fd,q2,q3,q4⟩:=hG;exact asb (.inl ho) h1 h2 h3 h4 h5 h6 hH q1 q2 q3 q4
  ·exact hG.elim
 ·rename_i t x ho;obtain⟨⟨kt,et⟩,h1,hA⟩:=h.out;obtain⟨p,h2,hB⟩:=hA.out;obtain⟨m,e1,hC⟩:=FH hB;clear h hA hB;subst e1;split at hC
  ·rename_i es ck hH;exact ase ho h1 h2 hH hC
  ·exact hC.elim
 ·rename_i it ho;obtain⟨p,h1,hA⟩:=h.out;obtain⟨id,off,e1,hB⟩:=Cp hA;clear h hA;subst e1;obtain⟨e1,hC⟩:=hB;subst e1;split at hC
  ·rename_i m since seen uA hI;split at hC
   ·rename_i es ck hM;exact asc ho h1 hI hM hC.1 hC.2.1 hC.2.2
   ·exact hC.elim
  ·exact hC.elim
 ·rename_i x ho;obtain⟨a,h1,hA⟩:=h.out;split at hA
  ·exact asd ho h1 hA
  ·exact hA.elim
 ·rename_i op t x yt ho;obtain⟨ay,hA⟩:=h;obtain⟨d,h1,hB⟩:=hA.out;obtain⟨a,h2,hC⟩:=hB.out;obtain⟨n,e1,hD⟩:=hC.out;exact asf ho ay h2 e1 h1 hD
 ·rename_i c ho;split at h
  ·rename_i ba;split at h
   ·rename_i x y t t' ha ht;obtain⟨⟨elem,sz,z⟩,h1,hA⟩:=h.out;obtain⟨a,h2,hB⟩:=hA.out;obtain⟨b,h3,hC⟩:=hB.out;rcases Jj hC with⟨id,off,n,c0,e1,hD⟩|⟨n,l,e,e1,hD⟩
    ·clear h hA hB hC;subst e1;obtain⟨⟨m,l'⟩,h4,rfl,g2,g3,g4,g5,hE⟩:=hD.out;split at hE
     ·rename_i hk;obtain⟨rfl,rfl,g6,g7⟩:=hE;exact adK ho ba (nG ha) (sN ht) h1 h2 g2 hk rfl h3 h4 g6 g3 g4 g5 g7
     ·exact hE.elim
    ·clear h hA hB hC;subst e1;obtain⟨⟨m,l'⟩,h4,h5,h6,h7,h8⟩:=hD.out;exact step_append ho ba (nG ha) (sN ht) h1 h2 h3 h4 h5 h6 h7 h8
   ·exact h.elim
  ·rename_i ba;split at h
   ·rename_i x y t t' ha ht;obtain⟨⟨elem,sz⟩,h1,hA⟩:=h.out;obtain⟨a,h2,hB⟩:=hA.out;obtain⟨b,h3,hC⟩:=hB.out;clear h hA hB;split at hC
    ·split at hC
     ·rename_i hk;obtain⟨⟨m,l'⟩,h4,h5,h6,h7,h8⟩:=hC.out;exact ar8 ho ba (nG ha) (sN ht) h1 h2 hk h3 h4 h5 h6 h7 h8
     ·exact hC.elim
    ·exact hC.elim
   ·exact h.elim
  ·rename_i ba;split at h
   ·rename_i m k t t' ha ht;obtain⟨⟨kt,et⟩,h1,hA⟩:=h.out;obtain⟨p,h2,hB⟩:=hA.out;obtain⟨a,h3,hC⟩:=hB.out;obtain⟨K,h4,hD⟩:=hC.out;obtain⟨id,e1,hE⟩:=FH hD;clear h hA hB hC hD;subst e1;split at hE
    ·rename_i es ck hH;obtain⟨q1,fd,q2,q3⟩:=hE;exact ar9 ho ba (nG ha) (sN ht) h1 h2 h3 h4 hH q1 q2 q3
    ·exact hE.elim
   ·exact h.elim
  ·rename_i x ba;obtain⟨f,h1,hA⟩:=h.out;obtain⟨aF,h2,hB⟩:=hA.out;exact OL ho ba h1 h2 hB
  ·rename_i x name ba;obtain⟨f,h1,hA⟩:=h.out;obtain⟨aF,h2,hB⟩:=hA.out;exact adO ho ba h1 h2 hB
  ·exact quiet h
 ·exact quiet h
structure At (E:Env)(V:View)(s:AS)(a:Act)(nt:Nat):Prop where
 bw:Conc E V s.H
 tok:cu E s.T a.tmps
 size:a.tmps.size=nt
theorem Kept.refl(E:Env)(V:View)(a:Act):Kept E E V V a a:=⟨Env.Le.refl E,rfl,rfl,rfl,rfl⟩
theorem Kept.trans{E E' bT:Env}{V V' aU:View}{a a' cw:Act}(h:Kept E E' V V' a a')(k:Kept E' bT V' aU a' cw):Kept E bT V aU a cw:=
 ⟨h.le.trans k.le,k.size.trans h.size,k.defers.trans h.defers,k.role.trans h.role,k.deaf.trans h.deaf⟩
inductive an where
 |normal
 |exit (id:Nat)
 |goto (l:Nat)
 |ret
 |panic (pv:AV)
def qn (E:Env):an->Ex->Prop
 |.normal,.normal=>True
 |.exit i,.exit j=>i=j
 |.goto i,.goto j=>i=j
 |.ret,.ret=>True
 |.panic pv,.panic ch=>∃v,ch=[{v,recovered:=false}]/\ap E pv v
 |_,_=>False
def aQ (lv:Bool)(P:SI)(r:Option Nat)(nt:Nat)(c:Ub)(s:AS)(Φ:an->AS->Prop):Prop:=
 ∀(E:Env)(V:View)(a:Act)(Q:Ex->Act->View->Prop),At E V s a nt->(∀ae e E' V' a' s',Kept E E' V V' a a'->At E' V' s' a' nt->qn E' ae e->Φ ae s'->Q e a' V')->WP lv P r c Q a V
theorem Bm{nt:Nat}{all:Array Tx}{Φ:an->AS->Prop}(dx:∀o∈all,∀d,o.dst=some d->d<nt)(nW:∀o∈all,r=none\/mL o.op=false):∀(n k:Nat)(s:AS),k+n=all.size->iF lv P all (all.toList.drop k) s (Φ .normal) (λpv s=>Φ (.panic pv) s)->
  ∀(E:Env)(V:View)(a:Act)(Q:Ex->Act->View->Prop),At E V s a nt->(∀ae e E' V' a' s',Kept E E' V V' a a'->At E' V' s' a' nt->qn E' ae e->Φ ae s'->Q e a' V')->dq lv P r all Q (Ug k n) a V
 |0,k,s,hk,h,E,V,a,Q,ai,hQ=>by
  have:all.toList.drop k=[]:=by simp;omega
  rw[this]at h;exact hQ .normal .normal E V a s (Kept.refl E V a) ai trivial h
 |n+1,k,s,hk,h,E,V,a,Q,ai,hQ=>by
  have hlt:k<all.size:=by omega
  have hd:all.toList.drop k=all[k]::all.toList.drop (k+1):=by
   rw[TY (by simpa using hlt)];simp
  rw[hd]at h;have fL:all[k]∈all:=XX hlt;have ho:all[k]?=some all[k]:=SJ hlt;simp only[VU,dq,ho];have go:∀s:AS,At E V s a nt->mV lv P s all[k] (λs'=>iF lv P all (all.toList.drop (k+1)) s' (Φ .normal) (λpv s=>Φ (.panic pv) s)) (λpv s=>Φ (.panic pv) s)->xL lv P r all[k] a V (dq lv P r all Q (Ug (k+1) n)) Q:=λs ai h=>by
   refine h.sound (lv:=lv) (r:=r) E V a _ Q ai.bw ai.tok (λd e=>by rw[ai.size];exact dx _ fL d e) (nW _ fL) (λE' V' a' s' aJ bp mJ hn=> ?_) (λE' V' s' pv v aJ bp mJ bt hb=> ?_)
   ·exact Bm dx nW n (k+1) s' (by omega) hn E' V' a' Q ⟨bp,mJ,aJ.size.trans ai.size⟩ (λae e bT aU cw dn fY di he hΦ=>hQ ae e bT aU cw dn (aJ.trans fY) di he hΦ)
   ·exact hQ (.panic pv) (.panic _) E' V' a s' aJ ⟨bp,mJ,ai.size⟩ ⟨v,rfl,bt⟩ hb
  simp only[iF]at h;split at h
  ·rename_i hg;have hw:Ti all[k] (yielded all a.tmps)=true:=(by unfold Ti;rw[hg]);rw[if_pos hw];exact .inl (go s ai h)
  ·rename_i j cj hg;obtain⟨d,gz,h⟩:=h.out;obtain⟨av,h1,h⟩:=h.out;obtain⟨b,rfl,h2,h3⟩:=Co h;have hv:=(ai.tok d _ h1).2;have hy:yielded all a.tmps j=some b:=by
    obtain⟨oj,kV,jn⟩:=Tf.1 gz;generalize hx:a.tmps.getD d undef=x at hv;cases hv;have mF:d<a.tmps.size:=(ai.tok d _ h1).1;rw[SH,SJ mF]at hx;simp only[S7]at hx;simp[yielded,kV,jn,SJ mF,hx]
   have sw:∀b',b=b'->At E V ⟨(d,.val (.bool b'))::s.T,s.H⟩ a nt:=λb' dI=>by
    subst dI;refine⟨ai.bw,λt x e=> ?_,ai.size⟩;simp only[look]at e;split at e
    ·rename_i e';subst e';cases e;exact ai.tok d _ h1
    ·exact ai.tok t x e
   by_cases hb:b=cj
   ·have hw:Ti all[k] (yielded all a.tmps)=true:=(by unfold Ti;rw[hg];simp[hy,hb]);rw[if_pos hw];exact .inl (go _ (sw cj hb) (h2 hb))
   ·have hw:¬Ti all[k] (yielded all a.tmps)=true:=(by unfold Ti;rw[hg];simp[hy,hb]);rw[if_neg hw];have dI:b= !cj:=(by cases b<;>cases cj<;>simp_all);have wI:=h3 dI;have ai:=sw _ dI;exact Bm dx nW n (k+1) ((⟨(d,.val (.bool !cj))::s.T,s.H⟩:AS).put all[k].dst (.val undef)) (by omega) wI E V (a.put all[k].dst undef) Q
     ⟨by rw[fx];exact ai.bw,ai.tok.ii (λd e=>by rw[ai.size];exact dx _ fL d e) (.val undef),by rw[eo];exact ai.size⟩
     (λae e bT aU cw dn fY di he hΦ=>hQ ae e bT aU cw dn ⟨fY.le,fY.size.trans (eo _ _ _),fY.defers.trans (put_defers _ _ _),fY.role,fY.deaf⟩ di he hΦ)
def j9 (nt:Nat)(ops:Array Tx):Bool:=ops.all λo=>(o.dst.all (·<nt))&& !mL o.op
theorem j9.out{nt:Nat}{ops:Array Tx}(hd:j9 nt ops=true){o:Tx}(ho:o∈ops):(∀d,o.dst=some d->d<nt)/\mL o.op=false:=by
 have:=(UQ.1 hd) o ho;simp only[Tg,T4]at this;exact⟨λd e=>by have h1:=this.1;rw[e]at h1;simpa using h1,this.2⟩
theorem PQ{nt id:Nat}{ops:Array Tx}{Φ:an->AS->Prop}(hd:j9 nt ops=true)(h:iF lv P ops ops.toList s (Φ .normal) (λpv s=>Φ (.panic pv) s)):aQ lv P r nt (.region id ops false) s Φ:=by
 intro E V a Q ai hQ;refine wp_region ?_;rw[Vw];exact Bm (Φ:=Φ) (λo ho d e=>(j9.out hd ho).1 d e) (λo ho=> .inr (j9.out hd ho).2) ops.size 0 s (by omega) (by simpa using h) E V a Q ai hQ
theorem PT{nt:Nat}{Φ:an->AS->Prop}(h:Φ .normal s):aQ lv P r nt .skip s Φ:=λE V a _ ai hQ=>wp_skip (hQ .normal _ E V a s (Kept.refl E V a) ai trivial h)
theorem PN{nt l:Nat}{Φ:an->AS->Prop}(h:Φ .normal s):aQ lv P r nt (.label l) s Φ:=λE V a _ ai hQ=>wp_label (hQ .normal _ E V a s (Kept.refl E V a) ai trivial h)
theorem PL{nt id:Nat}{Φ:an->AS->Prop}(h:Φ (.exit id) s):aQ lv P r nt (.exit id) s Φ:=λE V a _ ai hQ=>wp_exit (hQ (.exit id) _ E V a s (Kept.refl E V a) ai rfl h)
theorem PR{nt:Nat}{Φ:an->AS->Prop}(h:Φ .ret s):aQ lv P r nt .ret s Φ:=λE V a _ ai hQ=>wp_ret (hQ .ret _ E V a s (Kept.refl E V a) ai trivial h)
def an.then (next:AS->Prop)(Φ:an->AS->Prop):an->AS->Prop
 |.normal,s=>next s
 |e,s=>Φ e s
theorem qn.mono{E E':Env}(h:E.Le E'){ae:an}{e:Ex}(k:qn E ae e):qn E' ae e:=by
 cases ae<;>cases e<;>first|exact k|(obtain⟨v,h1,h2⟩:=k;exact⟨v,h1,h2.mono h⟩)
theorem gp{nt:Nat}{x y:Ub}{Φ:an->AS->Prop}(h:aQ lv P r nt x s (an.then (λs'=>aQ lv P r nt y s' Φ) Φ)):aQ lv P r nt (.seq x y) s Φ:=by
 intro E V a Q ai hQ;refine wp_seq (h E V a _ ai λae e E' V' a' s' hk aV he hΦ=> ?_);cases ae<;>cases e<;>first
  |exact he.elim
  |exact hΦ E' V' a' Q aV λae e bT aU cw dn aJ di kG ug=>hQ ae e bT aU cw dn (hk.trans aJ) di kG ug
  |exact hQ _ _ E' V' a' s' hk aV he hΦ
theorem agk{nt:Nat}{c:Tj}{x y:Ub}{b:Bool}{Φ:an->AS->Prop}(hc:s.ev c=some (.val (.bool b)))(h1:b=true->aQ lv P r nt x s Φ)(h2:b=false->aQ lv P r nt y s Φ):aQ lv P r nt (.cond c x y) s Φ:=by
 intro E V a Q ai hQ;have hv:=ap.ev ai.tok hc;generalize hx:a.eval c=v at hv;cases hv;refine wp_cond hx ?_;cases b with
 |true=>exact h1 rfl E V a Q ai hQ
 |false=>exact h2 rfl E V a Q ai hQ
def an.inBlock (id:Nat)(Φ:an->AS->Prop):an->AS->Prop
 |.exit o5,s=>if o5=id then Φ .normal s else Φ (.exit o5) s
 |e,s=>Φ e s
theorem PJ{nt id:Nat}{c:Ub}{Φ:an->AS->Prop}(h:aQ lv P r nt c s (an.inBlock id Φ)):aQ lv P r nt (.block id c) s Φ:=by
 intro E V a Q ai hQ;refine wp_block (h E V a _ ai λae e E' V' a' s' hk aV he hΦ=> ?_);cases ae<;>cases e<;>first
  |exact he.elim
  |(rename_i i j
    have e:i=j:=he;subst e;by_cases bZ:i=id
    ·simp only[Ex.inBlock,bZ,if_true];simp only[an.inBlock,bZ,if_true]at hΦ;exact hQ .normal _ E' V' a' s' hk aV trivial hΦ
    ·simp only[Ex.inBlock,bZ,if_false];simp only[an.inBlock,bZ,if_false]at hΦ;exact hQ (.exit i) _ E' V' a' s' hk aV rfl hΦ)
  |exact hQ _ _ E' V' a' s' hk aV he hΦ
theorem aQ.mono{nt:Nat}{c:Ub}{Φ Φ':an->AS->Prop}(h:aQ lv P r nt c s Φ)(hm:∀e s,Φ e s->Φ' e s):aQ lv P r nt c s Φ':=λE V a Q ai hQ=>
 h E V a Q ai λae e E' V' a' s' hk aV he hΦ=>hQ ae e E' V' a' s' hk aV he (hm _ _ hΦ)
def Wk (b a:AV):Prop:=∀E v,ap E b v->ap E a v
theorem Wk.refl(a:AV):Wk a a:=λ_ _ h=>h
theorem e9(n:Nat)(l:List AV)(e:End):Wk (.sl n l e) (.sl n l .shut):=λ_ _ h=>by
 cases h with
 |sl b o cap f hc he h1 h2=>exact .sl b o cap f hc trivial h1 h2
 |nil he=>exact .nil trivial
structure AS.Sub (s s':AS):Prop where
 tok:∀t a,look s'.T t=some a->∃b,look s.T t=some b/\Wk b a
 H:s.H=s'.H
theorem At.sub{E:Env}{V:View}{s s':AS}{a:Act}{nt:Nat}(h:At E V s a nt)(hl:s.Sub s'):At E V s' a nt:=
 ⟨by rw[<- hl.H];exact h.bw,λt x e=>by obtain⟨b,h1,h2⟩:=hl.tok t x e;exact⟨(h.tok t b h1).1,h2 _ _ (h.tok t b h1).2⟩,h.size⟩
theorem iG{lv:Bool}{P:SI}{r:Option Nat}{nt:Nat}{c:Ub}{s s':AS}{Φ:an->AS->Prop}(hl:s.Sub s')(h:aQ lv P r nt c s' Φ):aQ lv P r nt c s Φ:=λE V a Q ai hQ=>h E V a Q (ai.sub hl) hQ
inductive Lt (n:Nat):AV->Prop
 |val (x:SQ):Lt n (.val x)
 |agg {l:List AV} (h:∀a∈l,Lt n a):Lt n (.agg l)
 |aO {l:List AV} (h:∀a∈l,Lt n a):Lt n (.aO l)
 |sl {m:Nat} {l:List AV} {e:End} (he:∀k,e=.opn k->k<n) (h:∀a∈l,Lt n a):Lt n (.sl m l e)
 |bz {id off m cap:Nat} (h:id<n):Lt n (.bz id off m cap)
 |rp {l:List AV} (h:∀a∈l,Lt n a):Lt n (.rp l)
 |op {id off:Nat} (h:id<n):Lt n (.op id off)
 |fn {f:Fn} {first cW:List AV} (h1:∀a∈first,Lt n a) (h2:∀a∈cW,Lt n a):Lt n (.fn f first cW)
 |db {t:TypeId} {x:AV} (h:Lt n x):Lt n (.db t x)
 |mp {id:Nat} (h:id<n):Lt n (.mp id)
theorem qe{l:List AV}{a:AV}(h:a∈l):∃i:Nat,l[i]?=some a:=UW.1 h
theorem ap.lt{E:Env}{a:AV}{v:SQ}(d:ap E a v):Lt E.n a:=by
 induction d with
 |val x=>exact .val x
 |agg hs _ ih=>exact .agg λa h=>(qe h).elim λi hi=>ih i a hi
 |aO hs _ ih=>exact .aO λa h=>(qe h).elim λi hi=>ih i a hi
 |sl b o cap f hc he h1 _ ih=>exact .sl (λk e=>by subst e;exact he.1) λa h=>(qe h).elim λi hi=>ih i a hi
 |nil he=>exact .sl (λk e=>by subst e;exact he.1) (by simp)
 |bz hi _=>exact .bz hi
 |rp b o f h1 _ ih=>exact .rp λa h=>(qe h).elim λi hi=>ih i a hi
 |op hi=>exact .op hi
 |fn dW f_ _ _ ni lK=>exact .fn (λa h=>(qe h).elim λi hi=>ni i a hi) (λa h=>(qe h).elim λi hi=>lK i a hi)
 |db _ ih=>exact .db ih
 |mp hi=>exact .mp hi
theorem Lt.mono{n m:Nat}(h:n<=m){a:AV}(d:Lt n a):Lt m a:=by
 induction d with
 |val x=>exact .val x
 |agg _ ih=>exact .agg ih
 |aO _ ih=>exact .aO ih
 |sl he _ ih=>exact .sl (λk e=>Te (he k e) h) ih
 |bz hi=>exact .bz (Te hi h)
 |rp _ ih=>exact .rp ih
 |op hi=>exact .op (Te hi h)
 |fn _ _ ni lK=>exact .fn ni lK
 |db _ ih=>exact .db ih
 |mp hi=>exact .mp (Te hi h)
theorem qk.trim{E:Env}{e:End}{a:Option Va}{m cap n:Nat}(h:qk E e a m cap)(hk:∀k,e=.opn k->k<n):qk {E with n:=n} e a m cap:=by
 cases e with
 |exact=>exact h
 |shut=>trivial
 |opn k=>exact⟨hk k rfl,h.2⟩
theorem get_mem{l:List AV}{i:Nat}{a:AV}(h:l[i]?=some a):a∈l:=UW.2 ⟨i,h⟩
theorem ap.trim{E:Env}{a:AV}{v:SQ}(d:ap E a v){n:Nat}(h:Lt n a):ap {E with n:=n} a v:=by
 induction d with
 |val x=>exact .val x
 |agg hs _ ih=>cases h with|agg h=>exact .agg hs λi a e=>ih i a e (h a (get_mem e))
 |aO hs _ ih=>cases h with|aO h=>exact .aO hs λi a e=>ih i a e (h a (get_mem e))
 |sl b o cap f hc he h1 _ ih=>cases h with|sl hk h=>exact .sl b o cap f hc (he.trim hk) h1 λi a e=>ih i a e (h a (get_mem e))
 |nil he=>cases h with|sl hk h=>exact .nil (he.trim hk)
 |bz hi dU=>cases h with|bz h=>exact .bz (E:={E with n:=n}) h dU
 |rp b o f h1 _ ih=>cases h with|rp h=>exact .rp b o f h1 λi a e=>ih i a e (h a (get_mem e))
 |op hi=>cases h with|op h=>exact .op (E:={E with n:=n}) h
 |fn dW f_ _ _ ni lK=>cases h with|fn h1 h2=>exact .fn dW f_ (λi a e=>ni i a e (h1 a (get_mem e))) λi a e=>lK i a e (h2 a (get_mem e))
 |db _ ih=>cases h with|db h=>exact .db (ih h)
 |mp hi=>cases h with|mp h=>exact .mp (E:={E with n:=n}) h
def e_ (n:Nat):aa->Prop
 |.cells l _|.part _ l _|.own _ l _=>∀a∈l,Lt n a
 |.iter m _ _ _=>m<n
 |.loop _ _ _ _ T _ _ _ _ df=>(∀t a,look T t=some a->Lt n a)/\df<n
 |_=>True
theorem e_.mono{n m:Nat}(h:n<=m){x:aa}(k:e_ n x):e_ m x:=by
 cases x with
 |cells l el=>exactλa ha=>(k a ha).mono h
 |part p l el=>exactλa ha=>(k a ha).mono h
 |own p l el=>exactλa ha=>(k a ha).mono h
 |iter=>exact Te k h
 |loop=>exact⟨λt a e=>(k.1 t a e).mono h,Te k.2 h⟩
 |_=>trivial
theorem fU.olt{E:Env}{V:View}{k:Nat}{x:aa}(h:fU E V k x):e_ E.n x:=by
 cases x with
 |cells l el=>obtain⟨⟨cs,_,h2⟩,_⟩:=h;exactλa ha=>(qe ha).elim λi hi=>(h2.2 i a hi).lt
 |part p l el=>obtain⟨⟨cs,_,h2,_⟩,_⟩:=h;exactλa ha=>(qe ha).elim λi hi=>(h2.2 i a hi).lt
 |own p l el=>obtain⟨⟨cs,_,h2,_⟩,_⟩:=h;exactλa ha=>(qe ha).elim λi hi=>(h2.2 i a hi).lt
 |iter m a b c=>exact h.1
 |loop=>obtain⟨⟨tmps,_,_,h2⟩,h3,_⟩:=h;exact⟨λt a e=>(h2 t a e).2.lt,h3⟩
 |_=>trivial
theorem fU.trim{E:Env}{V:View}{k n:Nat}{x:aa}(h:fU E V k x)(hl:e_ n x):fU {E with n:=n} V k x:=by
 cases x with
 |cells l el=>obtain⟨⟨cs,h1,h2⟩,h3⟩:=h;exact⟨⟨cs,h1,h2.1,λi a e=>(h2.2 i a e).trim (hl a (get_mem e))⟩,h3⟩
 |part p l el=>obtain⟨⟨cs,h1,h2,h4⟩,h3⟩:=h;exact⟨⟨cs,h1,⟨h2.1,λi a e=>(h2.2 i a e).trim (hl a (get_mem e))⟩,h4⟩,h3⟩
 |own p l el=>obtain⟨⟨cs,h1,h2,h4⟩,h3⟩:=h;exact⟨⟨cs,h1,⟨h2.1,λi a e=>(h2.2 i a e).trim (hl a (get_mem e))⟩,h4⟩,h3⟩
 |iter m a b c=>exact⟨hl,h.2⟩
 |tail m sz el=>exact h
 |obj x=>exact h
 |loop=>obtain⟨⟨tmps,h1,h2,h3⟩,h4,h5⟩:=h;exact⟨⟨tmps,h1,h2,λt a e=>⟨(h3 t a e).1,(h3 t a e).2.trim (hl.1 t a e)⟩⟩,hl.2,h5⟩
 |gone=>trivial
 |main=>exact h
def bF (H:List aa):Prop:=∀x∈H,e_ H.length x
theorem Conc.aq{E:Env}{V:View}{H:List aa}(h:Conc E V H):bF H:=λx hx=>by
 obtain⟨i,hi⟩:=UW.1 hx;rw[<- h.n];exact(h.obj i x hi).olt
theorem FO(E:Env)(n k:Nat)(x:aa):bP {E with n:=n} k x=bP E k x:=by cases x<;>rfl
theorem Conc.trim{E:Env}{V:View}{H G:List aa}(h:Conc E V (H++G))(hl:bF H):Conc {E with n:=H.length} V H:=by
 have hg:∀(k:Nat) x,H[k]?=some x->(H++G)[k]?=some x:=λk x e=>by rw[SY (SN.1 e).1];exact e
 refine⟨h.I,rfl,λk x e=>(h.obj k x (hg k x e)).trim (hl x (S8 e)),λi j x y b h1 h2 h3 h4=> ?_,λg kH=> ?_,λg kH=> ?_,h.top,λb y kH=> ?_⟩
 ·rw[FO]at h3 h4;exact h.inj i j x y b (hg i x h1) (hg j y h2) h3 h4
 ·obtain⟨q0,q1,q2⟩:=h.group g kH;exact⟨q0,q1,λk x e=>by rw[FO];exact q2 k x (hg k x e)⟩
 ·obtain⟨q0,q1,q2⟩:=h.chan g kH;exact⟨q0,q1,λk x e=>by rw[FO];exact q2 k x (hg k x e)⟩
 ·obtain⟨q0,q1,q2⟩:=h.fr b y kH;exact⟨q0,q1,λk x e=>by rw[FO];exact q2 k x (hg k x e)⟩
structure AS.I1 (s s':AS):Prop where
 tok:∀t a,look s'.T t=some a->∃b,look s.T t=some b/\Wk b a/\Lt s'.H.length a
 H:∃G,s.H=s'.H++G
 ok:bF s'.H
theorem ER{E:Env}{n m:Nat}(h1:m<=n)(h2:n<=E.n){E0:Env}(h:E0.Le E)(h0:E0.n=m):E0.Le {E with n:=n}:=⟨h.I,by show E0.n<=n;omega,h.blk,h.fH,h.room,h.fr,h.main⟩
theorem At.cut{E:Env}{V:View}{s s':AS}{a:Act}{nt:Nat}(h:At E V s a nt)(hl:s.I1 s'):At {E with n:=s'.H.length} V s' a nt:=by
 obtain⟨G,hG⟩:=hl.H;have hc:=h.bw;rw[hG]at hc;refine⟨hc.trim hl.ok,λt x e=> ?_,h.size⟩;obtain⟨b,h1,h2,h3⟩:=hl.tok t x e;exact⟨(h.tok t b h1).1,(h2 _ _ (h.tok t b h1).2).trim h3⟩
theorem PO{nt:Nat}{α:Type}{lt:α->α->Prop}(wf:WellFounded lt){c:Ub}{Φ:an->AS->Prop}(inv:α->AS)(ok:α->Prop)(m:α)(h0:s.Sub (inv m))(hm:ok m)(hn:∀m,ok m->s.H.length<=(inv m).H.length)
  (h:∀m,ok m->aQ lv P r nt c (inv m) (an.then (λs'=>∃m',lt m' m/\ok m'/\(s'.Sub (inv m')\/s'.I1 (inv m'))) Φ)):aQ lv P r nt (.loop c) s Φ:=by
 intro E V a Q ai hQ;refine O7 wf (I:=λm a' V'=>ok m/\∃E',Kept E E' V V' a a'/\At E' V' (inv m) a' nt) m ⟨hm,E,Kept.refl E V a,ai.sub h0⟩ λm a' V' hI=> ?_;obtain⟨aq,E',hk,aV⟩:=hI;refine h m aq E' V' a' _ aV λae e bT aU cw dn aJ di he hΦ=> ?_;cases ae<;>cases e<;>first
  |exact he.elim
  |(obtain⟨m',h1,h2,h3⟩:=hΦ
    rcases h3 with h3|h3
    ·exact⟨m',h1,h2,bT,hk.trans aJ,di.sub h3⟩
    ·refine⟨m',h1,h2,_,?_,di.cut h3⟩;have cL:=hk.trans aJ;obtain⟨G,hG⟩:=h3.H;exact⟨ER (hn m' h2) (by rw[di.bw.n,hG];simp) cL.le ai.bw.n,cL.size,cL.defers,cL.role,cL.deaf⟩)
  |exact hQ _ _ bT aU cw dn (hk.trans aJ) di he hΦ
theorem agv{nt:Nat}{c:Ub}{Φ:an->AS->Prop}(inv:Nat->Nat->AS->Prop)
  (start:∃n:Nat,aQ lv P r nt c s (λe s'=>match e with
   |.goto l=>∃rest,findLabel c l=some rest/\∃m,m<n/\inv l m s'
   |e=>Φ e s'))
  (back:∀l rest m s',findLabel c l=some rest->inv l m s'->aQ lv P r nt rest s' (λe dn=>match e with
   |.goto l'=>∃zu,findLabel c l'=some zu/\∃m',m'<m/\inv l' m' dn
   |e=>Φ e dn)):aQ lv P r nt (.scope c) s Φ:=by
 intro E V a Q ai hQ;refine aeC (λl m a' V'=>∃E' s',Kept E E' V V' a a'/\At E' V' s' a' nt/\inv l m s') ?_ ?_
 ·obtain⟨n,hn⟩:=start;refine⟨n,hn E V a _ ai λae e E' V' a' s' hk aV he hΦ=> ?_⟩;cases ae<;>cases e<;>first
   |exact he.elim
   |(have e:_=_:=he
     subst e;obtain⟨rest,h1,m,h2,h3⟩:=hΦ;exact⟨rest,h1,m,h2,E',s',hk,aV,h3⟩)
   |exact hQ _ _ E' V' a' s' hk aV he hΦ
 ·intro l rest m a' V' hf ⟨E',s',hk,aV,hi⟩;refine back l rest m s' hf hi E' V' a' _ aV λae e bT aU cw dn aJ di he hΦ=> ?_;cases ae<;>cases e<;>first
   |exact he.elim
   |(have e:_=_:=he
     subst e;obtain⟨zu,h1,m',h2,h3⟩:=hΦ;exact⟨zu,h1,m',h2,bT,dn,hk.trans aJ,di,h3⟩)
   |exact hQ _ _ bT aU cw dn (hk.trans aJ) di he hΦ
end
def bk:Nat->List AV->List (Nat×AV)
 |_,[]=>[]
 |i,a::l=>(i,a)::bk (i+1) l
theorem Nu:∀(l:List AV)(i t:Nat)(a:AV),look (bk i l) t=some a->i<=t/\l[t-i]?=some a
 |[],_,_,_,h=>by cases h
 |b::l,i,t,a,h=>by
  simp only[bk,look]at h;split at h
  ·rename_i e;subst e;cases h;exact⟨SP _,by simp⟩
  ·obtain⟨h1,h2⟩:=Nu l (i+1) t a h;refine⟨by omega,?_⟩;have:t-i=(t-(i+1))+1:=(by omega);rw[this,UR];exact h2
def vY (P:SI)(s:AS):UT->Option AV
 |.tmp t=>look s.T t
 |.cell a t=>(look s.T a).bind λp=>(s.at p).bind λl=>(Ty P t).bind λx=>if x.2 then(if x.1<=l.length then some (.agg (l.take x.1))else none)else l[0]?
def ik (P:SI)(s:AS):List UT->Option (List AV)
 |[]=>some []
 |x::l=>match vY P s x,ik P s l with
  |some a,some aF=>some (a::aF)
  |_,_=>none
def jc:List AV->AV
 |[a]=>a
 |l=> .aO l
theorem aqF{P:SI}{E:Env}{V:View}{s:AS}{a:Act}{nt:Nat}(ai:At E V s a nt){x:UT}{av:AV}(h:vY P s x=some av):
  ∃v,ap E av v/\∀{K:SQ->View->Prop}{Kp:SQ->View->Prop},K v V->aR P V (match x with|.tmp t=>pure (a.tmps.getD t undef)|.cell b t=>do loadVar t (<- asAddr (a.tmps.getD b undef))) K Kp:=by
 cases x with
 |tmp t=>exact⟨_,(ai.tok t av h).2,λhK=>au hK⟩
 |cell b t=>
  unfold vY at h;obtain⟨p,h1,h⟩:=Tf.1 h;obtain⟨l,h2,h⟩:=Tf.1 h;obtain⟨⟨n,g⟩,h3,h⟩:=Tf.1 h;obtain⟨i,d,t1,t2,rfl,t4⟩:=Ty.out h3;obtain⟨bb,off,f,hv,hg,kH,hd⟩:=ai.bw.at (ai.tok b p h1).2 h2;dsimp only;rw[hv];cases g with
  |true=>
   simp only[if_true]at h;split at h
   ·rename_i hlen;cases h;refine⟨_,JN hlen hd,λhK=> ?_⟩;refine az ?_;unfold asAddr;refine au ?_;unfold loadVar;refine EG t2 ?_;rw[t4];simp only[if_true];refine kq t1 ?_;exact az (Bx (f:=f) (λh=>kH (by omega)) (λj hj=>hg j (by omega)) (au hK))
   ·cases h
  |false=>
   simp only[TR,if_false]at h;have hlen:0<l.length:=(SN.1 h).1;have l5:=hg 0 hlen;rw[UJ]at l5;refine⟨_,hd 0 av h,λhK=> ?_⟩;refine az ?_;unfold asAddr;refine au ?_;unfold loadVar;refine EG t2 ?_;rw[t4];simp only[TR,if_false];exact Ou l5 (.inl (kH hlen)) (cM hK)
theorem Ii{P:SI}{E:Env}{V:View}{s:AS}{a:Act}{nt:Nat}(ai:At E V s a nt):∀(rs:List UT)(l:List AV),ik P s rs=some l->∃vs:List SQ,vs.length=l.length/\(∀(i:Nat) x,l[i]?=some x->ap E x (vs.getD i undef))/\
  ∀{K:List SQ->View->Prop}{Kp:SQ->View->Prop},K vs V->aR P V (rs.mapM λx=>(match x with|.tmp t=>pure (a.tmps.getD t undef)|.cell b t=>do loadVar t (<- asAddr (a.tmps.getD b undef)):Sem SQ)) K Kp
 |[],l,h=>by
  cases h;refine⟨[],rfl,by simp,λhK=> ?_⟩;rw[UH];exact au hK
 |x::rs,l,h=>by
  simp only[ik]at h;split at h
  ·rename_i av my h1 h2;cases h;obtain⟨v,hv,hs⟩:=aqF ai h1;obtain⟨vs,hl,mh,uc⟩:=Ii ai rs my h2;refine⟨v::vs,by simp[hl],λi x hx=> ?_,λhK=> ?_⟩
   ·cases i with
    |zero=>cases hx;simpa using hv
    |succ i=>simpa using mh i x (by simpa using hx)
   ·rw[Ue];exact az (hs (az (uc (au hK))))
  ·cases h
attribute [seval] Int.natCast_pow Int.natCast_mul Int.natCast_shiftLeft Int.natCast_emod Int.ofNat_sub Int.natCast_shiftRight Int.natCast_add_one Int.natCast_add Int.cast_id Int.natCast_sub Int.natCast_ediv Int.natCast_succ
open Go.Conc
def cJ (n0:Nat)(H:List aa)(a:AV)(k:AV->List aa->Prop):Prop:=
 ∃b,Wk a b/\(k b H\/∃H' G,H=H'++G/\n0<=H'.length/\bF H'/\Lt H'.length b/\k b H')
def uF (P:SI)(rs:List UT)(n0:Nat)(k kp:AV->List aa->Prop):an->AS->Prop
 |.normal,s|.ret,s=>ao (ik P s rs) λl=>cJ n0 s.H (jc l) k
 |.panic pv,s=>cJ n0 s.H pv kp
 |_,_=>False
theorem b8{n0:Nat}{H:List aa}{a:AV}{k:AV->List aa->Prop}(h:k a H):cJ n0 H a k:=⟨a,Wk.refl a,.inl h⟩
theorem jI{H H' G:List aa}{a b:AV}{k:AV->List aa->Prop}{n0:Nat}(hw:Wk a b)(hH:H=H'++G)(hn:n0<=H'.length)(aq:bF H')(hl:Lt H'.length b)(h:k b H'):cJ n0 H a k:=⟨b,hw,.inr ⟨H',G,hH,hn,aq,hl,h⟩⟩
theorem x_{n0:Nat}{E0 E:Env}{V':View}{H:List aa}{a:AV}{v:SQ}{k:AV->List aa->Prop}(h:cJ n0 H a k)(hc:Conc E V' H)(hd:ap E a v)(hle:E0.Le E)(hn:E0.n=n0):∃b E' H',E0.Le E'/\ap E' b v/\Conc E' V' H'/\k b H':=by
 obtain⟨b,hw,h|⟨H',G,rfl,h1,h2,h3,h4⟩⟩:=h
 ·exact⟨b,E,H,hle,hw _ _ hd,hc,h⟩
 ·refine⟨b,{E with n:=H'.length},H',ER h1 (by rw[hc.n];simp) hle hn,(hw _ _ hd).trim h3,hc.trim h2,h4⟩
theorem ajX{lv:Bool}{P:SI}{f:TS}{fn:YD}{c:Ub}{rs:List UT}{nt:Nat}{H:List aa}{args:List AV}{k kp:AV->List aa->Prop}(hf:P.funcs[f]?=some fn)(hb:fn.body=some c)(hr:fn.results=rs.toArray)(hn:fn.ntmps=nt)(cQ:args.length<=nt)
  (h:bF H->(∀a∈args,Lt H.length a)->aQ lv P none nt c ⟨bk 0 args,H⟩ (uF P rs H.length k kp)):bc lv P f H args k kp:=by
 intro E V vs hc hd;have aY:(vs++TP (fn.ntmps-vs.size) undef).size=nt:=by simp[hd.1];omega
 have hlt:∀a∈args,Lt H.length a:=λa ha=>by
  obtain⟨i,hi⟩:=qe ha;rw[<- hc.n];exact(hd.2 i a hi).lt
 refine P6 (by simp) hf hb (h hc.aq hlt E V _ _ ⟨hc,λq a e=> ?_,aY⟩ λae e E' V' a' s' hk ai he hΦ=> ?_)
 ·obtain⟨_,e⟩:=Nu args 0 q a e;simp only[Z8]at e;have hq:q<args.length:=(SN.1 e).1;have tZ:q<vs.size:=by rw[hd.1];exact hq
  refine⟨by rw[aY];omega,?_⟩;have:=hd.2 q a e;rw[SH,Yd tZ];rwa [SH]at this
 ·have fin:(ao (ik P s' rs) λl=>cJ H.length s'.H (jc l) k)->a'.defers=[]/\∃v,aR P V' (results fn a'.tmps) (λx aU=>x=v/\aU=V') (λ_ _=>False)/\gW E V k kp (.ret v) V':=by
   intro hΦ;obtain⟨l,h1,h2⟩:=hΦ.out;have gC:∃v,ap E' (jc l) v/\aR P V' (results fn a'.tmps) (λx aU=>x=v/\aU=V') (λ_ _=>False):=by
    obtain⟨vs,hl,mh,yN⟩:=Ii ai rs l h1;refine⟨if h:vs.length=1 then vs[0]else .tuple vs.toArray,?_,?_⟩
    ·match l,vs,hl,mh with
     |[x],[v],_,mh=>exact mh 0 x rfl
     |[],[],_,mh=>exact .aO rfl (by simp)
     |x::y::l,v::w::vs,hl,mh=>exact .aO (by simpa using hl) (λi z hz=>by simpa[SH,SE]using mh i z hz)
    ·unfold results;rw[hr,X4];refine az ?_;refine az (yN ?_);refine au (au ⟨?_,rfl⟩);simp
   obtain⟨v,bt,qV⟩:=gC;obtain⟨b,bT,H',q1,q2,q3,q4⟩:=x_ h2 ai.bw bt hk.le hc.n;exact⟨hk.defers,v,qV,b,bT,H',q1,hk.role,hk.deaf,q2,q3,q4⟩
  cases ae<;>cases e<;>first
   |exact he.elim
   |exact fin hΦ
   |(obtain⟨v,rfl,bt⟩:=he
     obtain⟨b,bT,H',q1,q2,q3,q4⟩:=x_ hΦ ai.bw bt hk.le hc.n;exact⟨hk.defers,b,v,bT,H',rfl,q1,hk.role,hk.deaf,q2,q3,q4⟩)
   |exact hΦ.elim
open Go.Conc
theorem an4(k:Nat)(a:AV)(l:List (Nat×AV)):look ((k,a)::l) k=some a:=by simp[look]
theorem an5(k t:Nat)(a:AV)(l:List (Nat×AV))(h:(k==t)=false):look ((k,a)::l) t=look l t:=by
 have:¬k=t:=by simpa using h
 simp[look,this]
theorem Bl{α:Type}(a:α)(k:α->Prop):ao (some a) k=k a:=by rw[ao]
theorem af3(b:Bool)(k:Bool->Prop):AV.asBool (.val (.bool b)) k=k b:=by rw[AV.asBool]
theorem af5(j:T8)(n:Int)(k:T8->Int->Prop):AV.asInt (.val (.int j n)) k=k j n:=by rw[AV.asInt]
theorem agc(l:List AV)(k:List AV->Prop):AV.xU (.aO l) k=k l:=by rw[AV.xU]
theorem af1(l:List AV)(k:List AV->Prop):AV.asAgg (.agg l) k=k l:=by rw[AV.asAgg]
theorem af7(i j:Nat)(k:Nat->Nat->Prop):AV.qw (.op i j) k=k i j:=by rw[AV.qw]
theorem af6(i:Nat)(k:Nat->Prop):AV.s_ (.mp i) k=k i:=by rw[AV.s_]
theorem aga(n:Nat)(l:List AV)(e:End)(k:Nat->List AV->End->Prop):AV.wu (.sl n l e) k=k n l e:=by rw[AV.wu]
theorem afo(P:SI)(xt:TypeId)(j:T8)(m n:Int)(k:AV->Prop):dM P .add xt (.val (.int j m)) (.val (.int j n)) k=k (.val (.int j (j.wrap (m+n)))):=by simp[dM,nj,mz,ao]
theorem afB(P:SI)(xt:TypeId)(j:T8)(m n:Int)(k:AV->Prop):dM P .sub xt (.val (.int j m)) (.val (.int j n)) k=k (.val (.int j (j.wrap (m-n)))):=by simp[dM,nj,mz,ao]
theorem afx(P:SI)(xt:TypeId)(j:T8)(m n:Int)(k:AV->Prop):dM P .mul xt (.val (.int j m)) (.val (.int j n)) k=k (.val (.int j (j.wrap (m* n)))):=by simp[dM,nj,mz,ao]
theorem afq(P:SI)(xt:TypeId)(j:T8)(m n:Int)(k:AV->Prop):dM P .eql xt (.val (.int j m)) (.val (.int j n)) k=k (.val (.bool (m==n))):=by simp[dM,nj,mz,ao]
theorem Pu(P:SI)(xt:TypeId)(j:T8)(m n:Int)(k:AV->Prop):dM P .neq xt (.val (.int j m)) (.val (.int j n)) k=k (.val (.bool (m !=n))):=by simp[dM,nj,mz,ao]
theorem afw(P:SI)(xt:TypeId)(j:T8)(m n:Int)(k:AV->Prop):dM P .lss xt (.val (.int j m)) (.val (.int j n)) k=k (.val (.bool (decide (m<n)))):=by simp[dM,nj,mz,ao]
theorem afv(P:SI)(xt:TypeId)(j:T8)(m n:Int)(k:AV->Prop):dM P .leq xt (.val (.int j m)) (.val (.int j n)) k=k (.val (.bool (decide (m<=n)))):=by simp[dM,nj,mz,ao]
theorem afs(P:SI)(xt:TypeId)(j:T8)(m n:Int)(k:AV->Prop):dM P .gtr xt (.val (.int j m)) (.val (.int j n)) k=k (.val (.bool (decide (m>n)))):=by simp[dM,nj,mz,ao]
theorem afr(P:SI)(xt:TypeId)(j:T8)(m n:Int)(k:AV->Prop):dM P .geq xt (.val (.int j m)) (.val (.int j n)) k=k (.val (.bool (decide (m>=n)))):=by simp[dM,nj,mz,ao]
theorem afp(P:SI)(xt:TypeId)(j:T8)(m n:Int)(k:AV->Prop):dM P .and xt (.val (.int j m)) (.val (.int j n)) k=k (.val (.int j (j.wrap (Ul j.bits m&&&Ul j.bits n).toNat))):=by simp[dM,nj,mz,ao]
theorem Ch(P:SI)(xt:TypeId)(j:T8)(m n:Int)(k:AV->Prop):dM P .or xt (.val (.int j m)) (.val (.int j n)) k=k (.val (.int j (j.wrap (Ul j.bits m|||Ul j.bits n).toNat))):=by simp[dM,nj,mz,ao]
theorem Cj(P:SI)(xt:TypeId)(j:T8)(m n:Int)(k:AV->Prop):dM P .xor xt (.val (.int j m)) (.val (.int j n)) k=k (.val (.int j (j.wrap (Ul j.bits m^^^Ul j.bits n).toNat))):=by simp[dM,nj,mz,ao]
theorem afz(P:SI)(xt:TypeId)(j:T8)(m n:Int)(k:AV->Prop):dM P .rem xt (.val (.int j m)) (.val (.int j n)) k=ao (if n=0 then none else some (.int j (m.tmod n))) λv=>k (.val v):=by simp[dM,nj,mz]
theorem afA(P:SI)(xt:TypeId)(j j':T8)(m n:Int)(k:AV->Prop):dM P .shl xt (.val (.int j m)) (.val (.int j' n)) k=ao (if n<0 then none else some (.int j (j.wrap (m* 2^(min n.toNat j.bits))))) λv=>k (.val v):=by simp[dM,nj,BB]
theorem Ci(P:SI)(xt:TypeId)(j j':T8)(m n:Int)(k:AV->Prop):dM P .shr xt (.val (.int j m)) (.val (.int j' n)) k=ao (if n<0 then none else some (.int j (m.fdiv (2^(min n.toNat j.bits))))) λv=>k (.val v):=by simp[dM,nj,BB]
theorem ain(T:List (Nat×AV))(H:List aa)(t:Nat):AS.ev ⟨T,H⟩ (.tmp t)=look T t:=by rw[AS.ev]
theorem aie(s:AS)(b:Bool):s.ev (.const (.bool b))=some (.val (.bool b)):=by rw[AS.ev,AV.of]<;>(intros;simp_all)
theorem aii(s:AS)(k:T8)(n:Int):s.ev (.const (.int k n))=some (.val (.int k n)):=by rw[AS.ev,AV.of]<;>(intros;simp_all)
theorem aig(s:AS)(f:TS):s.ev (.func f)=some (.fn (.func f) [] []):=by rw[AS.ev]
theorem aim(s:AS):s.ev (.const (.slice none 0 0))=some (.sl 0 [] .exact):=by rw[AS.ev,AV.of]
theorem aij(s:AS):s.ev (.const (.map none))=some (.val (.map none)):=by rw[AS.ev,AV.of]<;>(intros;simp_all)
theorem aik(s:AS):s.ev (.const (.pointer none))=some (.val (.pointer none)):=by rw[AS.ev,AV.of]<;>(intros;simp_all)
theorem aif(s:AS):s.ev (.const .nilFunc)=some (.val .nilFunc):=by rw[AS.ev,AV.of]<;>(intros;simp_all)
theorem aih(s:AS):s.ev (.const .nilIface)=some (.val .nilIface):=by rw[AS.ev,AV.of]<;>(intros;simp_all)
theorem apN(T:List (Nat×AV))(H:List aa)(d:Nat)(a:AV):AS.put ⟨T,H⟩ (some d) a=⟨(d,a)::T,H⟩:=by rw[AS.put]
theorem apM(s:AS)(a:AV):AS.put s none a=s:=by rw[AS.put]
theorem asQ(n:AS->Prop)(Φ:an->AS->Prop)(s:AS):an.then n Φ .normal s=n s:=by rw[an.then]
theorem asS(n:AS->Prop)(Φ:an->AS->Prop)(s:AS):an.then n Φ .ret s=Φ .ret s:=by rw[an.then];intro h;cases h
theorem asO(n:AS->Prop)(Φ:an->AS->Prop)(i:Nat)(s:AS):an.then n Φ (.exit i) s=Φ (.exit i) s:=by rw[an.then];intro h;cases h
theorem asP(n:AS->Prop)(Φ:an->AS->Prop)(i:Nat)(s:AS):an.then n Φ (.goto i) s=Φ (.goto i) s:=by rw[an.then];intro h;cases h
theorem asR(n:AS->Prop)(Φ:an->AS->Prop)(a:AV)(s:AS):an.then n Φ (.panic a) s=Φ (.panic a) s:=by rw[an.then];intro h;cases h
theorem ag4(i:Nat)(Φ:an->AS->Prop)(s:AS):an.inBlock i Φ .normal s=Φ .normal s:=by rw[an.inBlock];intro h h';cases h'
theorem ag6(i:Nat)(Φ:an->AS->Prop)(s:AS):an.inBlock i Φ .ret s=Φ .ret s:=by rw[an.inBlock];intro h h';cases h'
theorem ag0(i l:Nat)(Φ:an->AS->Prop)(s:AS):an.inBlock i Φ (.goto l) s=Φ (.goto l) s:=by rw[an.inBlock];intro h h';cases h'
theorem ag5(i:Nat)(Φ:an->AS->Prop)(a:AV)(s:AS):an.inBlock i Φ (.panic a) s=Φ (.panic a) s:=by rw[an.inBlock];intro h h';cases h'
theorem ag1(i:Nat)(Φ:an->AS->Prop)(s:AS):an.inBlock i Φ (.exit i) s=Φ .normal s:=by rw[an.inBlock,if_pos rfl]
theorem ag3(i j:Nat)(Φ:an->AS->Prop)(s:AS)(h:(j==i)=false):an.inBlock i Φ (.exit j) s=Φ (.exit j) s:=by
 have:¬j=i:=by simpa using h
 rw[an.inBlock,if_neg this]
theorem aj8(P:SI)(rs:List UT)(n:Nat)(k kp:AV->List aa->Prop)(s:AS):uF P rs n k kp .ret s=ao (ik P s rs) λl=>cJ n s.H (jc l) k:=by rw[uF]
theorem aj6(P:SI)(rs:List UT)(n:Nat)(k kp:AV->List aa->Prop)(s:AS):uF P rs n k kp .normal s=ao (ik P s rs) λl=>cJ n s.H (jc l) k:=by rw[uF]
theorem aj7(P:SI)(rs:List UT)(n:Nat)(k kp:AV->List aa->Prop)(a:AV)(s:AS):uF P rs n k kp (.panic a) s=cJ n s.H a kp:=by rw[uF]
theorem aqG(P:SI)(T:List (Nat×AV))(H:List aa)(t:Nat):vY P ⟨T,H⟩ (.tmp t)=look T t:=by rw[vY]
theorem agj(s:AS)(l:List AV):s.at (.rp l)=some l:=by rw[AS.at]
theorem arz(n i off:Nat):AV.shift n (.op i off)=some (.op i (off+n)):=by rw[AV.shift]
theorem adu(n:Nat)(l:List AV)(h:n<=l.length):AV.shift n (.rp l)=some (.rp (l.drop n)):=by rw[AV.shift,if_pos h]
theorem arA(l:List AV):AV.shift 0 (.rp l)=some (.rp l):=by rw[AV.shift,if_pos (XY _),XD]
theorem arB(n:Nat)(a:AV)(l:List AV):AV.shift (n+1) (.rp (a::l))=AV.shift n (.rp l):=by simp[AV.shift]
theorem aqR(n:Nat)(l:List AV)(e:End):AV.row (.sl n l e)=some (n,.rp l):=by rw[AV.row]
theorem aqQ(i off n cap:Nat):AV.row (.bz i off n cap)=some (n,.op i off):=by rw[AV.row]
theorem ae8(P:SI)(s:AS){t:TypeId}(n:Nat)(l:List AV)(e:End)(k:AV->Prop)(h:lj P t=some .slice):sQ P s t (.sl n l e) k=k (.val (.int .i64 n)):=by unfold sQ;rw[h]
theorem ae7(P:SI)(s:AS){t:TypeId}(i off n cap:Nat)(k:AV->Prop)(h:lj P t=some .slice):sQ P s t (.bz i off n cap) k=k (.val (.int .i64 n)):=by unfold sQ;rw[h]
theorem ae6(P:SI)(T:List (Nat×AV))(H:List aa){t:TypeId}(id:Nat)(k:AV->Prop){es:Array Wp}{ck:Nat}(h:lj P t=some .map)(hH:H[id]?=some (.obj (.map es ck))):sQ P ⟨T,H⟩ t (.mp id) k=k (.val (.int .i64 es.size)):=by
 unfold sQ;rw[h];simp[hH]
theorem a_{a b:AV}:(∃c,some b=some c/\Wk c a)<->Wk b a:=⟨λ⟨_,h,k⟩=>by cases h;exact k,λh=>⟨_,rfl,h⟩⟩
abbrev iv (n:Int):AV:=.val (.int .i64 n)
abbrev bv (b:Bool):AV:=.val (.bool b)
open Go.Conc
theorem PK{lv:Bool}{P:SI}{r:Option Nat}{s:AS}{nt:Nat}{c:Tj}{x y:Ub}{Φ:an->AS->Prop}(h:ao (s.ev c) λa=>a.asBool λb=>(b=true->aQ lv P r nt x s Φ)/\(b=false->aQ lv P r nt y s Φ)):aQ lv P r nt (.cond c x y) s Φ:=by
 obtain⟨a,h1,h2⟩:=h.out;obtain⟨b,rfl,h3,h4⟩:=Co h2;exact agk h1 h3 h4
theorem QJ{α β:Type}{f:α->List β}{m:Nat}(hf:∀x,(f x).length=m):∀{xs:List α}{i:Nat}{x:α},xs[i]?=some x->(xs.flatMap f).drop (i* m)=f x++(xs.drop (i+1)).flatMap f
 |y::xs,0,x,h=>by cases h;simp
 |y::xs,i+1,x,h=>by
  have ih:=QJ hf (xs:=xs) (i:=i) (x:=x) (by simpa using h);rw[T1,Vo,Nat.one_mul,apT (i* m) m,<- ap_];have:(f y++xs.flatMap f).drop m=xs.flatMap f:=by rw[<- hf y];simp
  rw[this,ih];simp
 |[],i,x,h=>by simp at h
theorem ze{α β:Type}{f:α->List β}{m:Nat}(hf:∀x,(f x).length=m)(xs:List α):(xs.flatMap f).length=xs.length* m:=by
 induction xs with
 |nil=>simp
 |cons x xs ih=>rw[T1,SL,hf,ih,Ui,Vo];omega
theorem OD{α:Type}{f:α->List AV}{m:Nat}(hf:∀x,(f x).length=m){xs:List α}{i:Nat}{x:α}(h:xs[i]?=some x):AV.shift (i* m) (.rp (xs.flatMap f))=some (.rp (f x++(xs.drop (i+1)).flatMap f)):=by
 have hi:i<xs.length:=(SN.1 h).1;rw[adu _ _ (by rw[ze hf];exact TK _ (by omega)),QJ hf h]
theorem OE{α:Type}{f:α->AV}{xs:List α}{i:Nat}{x:α}(h:xs[i]?=some x):AV.shift (i* 1) (.rp (xs.map f))=some (.rp (f x::(xs.drop (i+1)).map f)):=by
 have hi:i<xs.length:=(SN.1 h).1;rw[XH,adu _ _ (by simp;omega)];congr 2;rw[<- ak',TY hi,U5];congr 2;rw[SX hi]at h;exact Wb h
theorem jh{i n:Nat}(h:i<n):(0<=(i:Int)/\(i:Int)<(n:Int))=True:=by simp;exact h
theorem eX{α:Type}{xs:List α}{i:Nat}{x:α}(h:xs[i]?=some x):i<xs.length:=(SN.1 h).1
theorem bK{α:Type}{xs:List α}{i:Nat}(h:i<xs.length):∃x,xs[i]?=some x:=⟨_,SX h⟩
theorem wn(H L:List aa)(i:Nat):(H++L)[H.length+i]?=L[i]?:=by rw[S_ (by omega)];congr 1;omega
theorem afU(H L:List aa):(H++L)[H.length]?=L[0]?:=by have:=wn H L 0;simpa using this
theorem wq(H L:List aa)(i:Nat)(x:aa):(H++L).set (H.length+i) x=H++L.set i x:=by
 rw[Ud _ _ (by omega)];congr 2;omega
theorem afY(H L:List aa)(x:aa):(H++L).set H.length x=H++L.set 0 x:=by have:=wq H L 0 x;simpa using this
theorem afT(H L M:List aa):(H++L)++M=H++(L++M):=SC ..
theorem afX(H L:List aa):(H++L).length=H.length+L.length:=SL
theorem ec(n:Nat)(x:SQ):Lt n (.val x)=True:=by simp[Lt.val]
theorem abR(n i o:Nat):Lt n (.op i o)=(i<n):=propext ⟨λh=>by cases h with|op h=>exact h,.op⟩
theorem ul(n:Nat)(l:List AV):Lt n (.agg l)=∀a∈l,Lt n a:=propext ⟨λh=>by cases h with|agg h=>exact h,.agg⟩
theorem jV(n:Nat)(l:List AV):Lt n (.aO l)=∀a∈l,Lt n a:=propext ⟨λh=>by cases h with|aO h=>exact h,.aO⟩
theorem abQ(n:Nat)(t:TypeId)(a:AV):Lt n (.db t a)=Lt n a:=propext ⟨λh=>by cases h with|db h=>exact h,.db⟩
theorem qb(n m:Nat)(l:List AV):Lt n (.sl m l .shut)=∀a∈l,Lt n a:=propext ⟨λh=>by cases h with|sl _ h=>exact h,λh=> .sl (by simp) h⟩
theorem Nz(n m:Nat)(l:List AV):Lt n (.sl m l .exact)=∀a∈l,Lt n a:=propext ⟨λh=>by cases h with|sl _ h=>exact h,λh=> .sl (by simp) h⟩
theorem abS(n m k:Nat)(l:List AV):Lt n (.sl m l (.opn k))=(k<n/\∀a∈l,Lt n a):=propext ⟨λh=>by cases h with|sl h' h=>exact⟨h' k rfl,h⟩,λh=> .sl (λk' e=>by cases e;exact h.1) h.2⟩
theorem zh(n:Nat)(l:List AV):Lt n (.rp l)=∀a∈l,Lt n a:=propext ⟨λh=>by cases h with|rp h=>exact h,.rp⟩
open Go.Conc
def cU (o:Tx):List Nat:=o.after.toList.filterMap λe=>if Yr .any e then some e.on else none
inductive mv (ops:Array Tx):List Nat->List Nat->Prop
 |nil (X:List Nat) (h:∀i,i<ops.size->i∈X):mv ops X []
 |cons {X:List Nat} {i:Nat} {l:List Nat} (o:Tx) (ho:ops[i]?=some o) (hn:i∉X) (hd:∀j∈cU o,j∈X) (h:mv ops (i::X) l):mv ops X (i::l)
theorem HN{o:Tx}{j:Nat}:j∈cU o<->∃e∈o.after,Yr .any e=true/\e.on=j:=by
 unfold cU;rw[V_];constructor
 ·rintro⟨e,he,h⟩
  split at h
  ·rename_i hb;cases h;exact⟨e,by simpa using he,hb,rfl⟩
  ·cases h
 ·rintro⟨e,he,hb,rfl⟩
  exact⟨e,by simpa using he,by rw[if_pos hb]⟩
theorem Qm{l:List Nat}{i:Nat}(hi:i∈l){p q:Nat->Bool}(iM:∀k,q k=true->p k=true)(hp:p i=true)(hq:q i=false):l.countP q<l.countP p:=by
 induction l with
 |nil=>cases hi
 |cons x l ih=>
  have hle:l.countP q<=l.countP p:=List.countP_mono_left λk _ h=>iM k h;rcases SK.1 hi with rfl|hi
  ·rw[WV (by simp[hq]),VY hp];omega
  ·have:=ih hi;by_cases hx:q x=true
   ·rw[VY hx,VY (iM x hx)];omega
   ·rw[WV hx];by_cases jT:p x=true
    ·rw[VY jT];omega
    ·rw[WV jT];exact this
structure Pp (ops:Array Tx)(L:Array Bool)(X:List Nat):Prop where
 size:L.size=ops.size
 mem:∀i,i<ops.size->(L[i]?=some true<->i∈X)
theorem abG{ops:Array Tx}(iA:∀(i:Nat) o,ops[i]?=some o->∀j∈cU o,j<i):∀(fuel t:Nat)(L:Array Bool)(X:List Nat),Pp ops L X->(S0 ops.size).countP (λi=> !X.contains i)<=fuel->mv ops X (UM .any ops fuel t L [])
 |0,t,L,X,hr,hc=>by
  simp only[UM,XZ];refine .nil X λi hi=> ?_;have:(S0 ops.size).countP (λi=> !X.contains i)=0:=by omega
  have:=List.countP_eq_zero.1 this i (by simpa using hi);simpa using this
 |fuel+1,t,L,X,hr,hc=>by
  have vE:∀i,i∈((S0 ops.size).filter λi=> !L.getD i true&&((ops[i]?).map (·.after.all λe=> !Region.binds .any e||L.getD e.on false)).getD false)<->∃o,ops[i]?=some o/\i∉X/\∀j∈cU o,j∈X:=by
   intro i;simp only[Uy,TW,Tg,T4];constructor
   ·rintro⟨hi,h1,h2⟩
    have ho:=SJ hi;refine⟨ops[i],ho,λhx=> ?_,λj hj=> ?_⟩
    ·have:=(hr.mem i hi).2 hx;rw[SH,this]at h1;cases h1
    ·obtain⟨e,he,hb,rfl⟩:=HN.1 hj;rw[ho]at h2;simp only[UU,S7,UQ]at h2;have:=h2 e he;rw[hb]at this;simp only[ao',ZD]at this;have hlt:e.on<ops.size:=Wr (iA i _ ho _ hj) hi;refine(hr.mem _ hlt).1 ?_;rw[SH]at this;cases hx:L[e.on]?with
     |none=>rw[hx]at this;cases this
     |some b=>rw[hx]at this;cases b;cases this;rfl
   ·rintro⟨o,ho,h1,h2⟩
    have hi:i<ops.size:=(SR.1 ho).1;refine⟨hi,?_,?_⟩
    ·rw[SH,SJ (by rw[hr.size];exact hi)];simp only[S7];cases hb:L[i]'(by rw[hr.size];exact hi)with
     |false=>rfl
     |true=>exact absurd ((hr.mem i hi).1 (by rw[SJ (by rw[hr.size];exact hi),hb])) h1
    ·rw[ho];simp only[UU,S7,UQ];intro e he;cases hb:Yr .any e with
     |false=>rfl
     |true=>
      have hj:=HN.2 ⟨e,he,hb,rfl⟩;have hlt:e.on<ops.size:=Wr (iA i _ ho _ hj) hi;have:=(hr.mem _ hlt).2 (h2 _ hj);simp[SH,this]
  simp only[UM];generalize DI:((S0 ops.size).filter λi=> !L.getD i true&&((ops[i]?).map (·.after.all λe=> !Region.binds .any e||L.getD e.on false)).getD false)=rs at vE;cases hi:rs[t % rs.length]?with
  |none=>
   have L6:rs=[]:=by
    cases rs with
    |nil=>rfl
    |cons x xs=>
     have hlt:t % (x::xs).length<(x::xs).length:=avi _ (by simp);rw[List.getElem?_eq_none_iff]at hi;omega
   simp only[XZ];refine .nil X λi=> ?_;induction i using Yo with
   |_ i ih=>
    intro hlt;apply Tv;intro hx;have:i∈rs:=(vE i).2 ⟨ops[i],SJ hlt,hx,λj hj=>ih j (iA i _ (SJ hlt) j hj) (Wr (iA i _ (SJ hlt) j hj) hlt)⟩;rw[L6]at this;cases this
  |some i=>
   simp only[];obtain⟨o,ho,h1,h2⟩:=(vE i).1 (S8 hi);have hlt:i<ops.size:=(SR.1 ho).1;rw[linearise_go_acc,List.reverse_singleton,Y5];refine .cons o ho h1 h2 (abG iA fuel _ _ (i::X) ⟨by simp[hr.size],λk hk=> ?_⟩ ?_)
   ·by_cases r_:k=i
    ·subst r_;simp[Tb (by rw[hr.size];exact hlt)]
    ·rw[SW (Ne.symm r_),hr.mem k hk];simp[r_]
   ·have fL:i∈(S0 ops.size):=(by simpa using hlt);have:(S0 ops.size).countP (λk=> !(i::X).contains k)<(S0 ops.size).countP (λk=> !X.contains k):=by
     exact Qm fL (λk hk=>by simp only[T4,Ut,decide_eq_false_iff_not]at hk⊢;exactλh=>hk (Td _ h)) (by simpa using h1) (by simp)
    omega
end Go.Gg
