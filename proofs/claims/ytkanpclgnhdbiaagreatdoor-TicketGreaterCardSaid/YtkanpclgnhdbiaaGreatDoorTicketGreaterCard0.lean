/- A part of the proof. -/
import Derived.Conc.Own5
import Derived.Conc.Own4
import Derived.Conc.Own3
import Derived.Conc.Own2
import Derived.Conc.QuitsD
import Derived.Conc.Deaf
import Derived.Conc.CompanyDraw
import Derived.Conc.Comm2
import Derived.Conc.Beside
import Derived.Conc.Events
import Derived.Orders
set_option linter.all false
set_option maxRecDepth 4000
set_option maxHeartbeats 4000000
open Array renaming all_eq_true_iff_forall_mem->UM,append_assoc->Xv,empty_append->Xu,ext'->VG,getD_eq_getD_getElem?->SH,getElem?_append_left->Yd,getElem?_append_right->X_,getElem?_eq_getElem->SJ,getElem?_eq_some_iff->SR,getElem?_map->WI,getElem?_modify->Wo,getElem?_push->Xl,getElem?_push_lt->YC,getElem?_setIfInBounds_ne->SV,getElem?_setIfInBounds_self_of_lt->Tb,getElem_mem->XX,isEmpty_iff->Zi,mem_append->Uw,range->WO,replicate->TN,size_append->XG,toList_map->VN
open BitVec renaming ofInt->Ui
open Bool renaming and_eq_true->Tl,false_eq_true->TP,false_or->Zy,not_eq_true'->T1,not_false->YI,not_true->as_
open Classical renaming byContradiction->Tn
open Function renaming comp_def->YB
open Go renaming Addr->U_,BinOp->Wb,Call->Xt,CallKind->Xi,Code->T7,Event->Ut,Field->Y0,Frame->Uc,Func->YH,FuncId->TQ,Goroutine->SG,IntKind->TZ,Item->WZ,LoopState->aa',MapEntry->Wq,Oper->Tu,Operand->Tj,PanicEntry->ZV,Program->SI,ResultVar->UQ,TypeInfo->Wp,Value->SP,World->Tp
open Go.Act renaming put->X6
open Go.Addr renaming add->au3
open Go.Builtin renaming append_->VD,copy_->avc,delete_->avb,firstCells->Vz,growBy->Zq,lenOf->ava,len_->Yp,nextslicecap->W7,zeroCells->Xp
open Go.CallKind renaming early->Va
open Go.Conc renaming QuitsD->Y9,seen_none->ab',served->T8
open Go.Deferred renaming ofValue->U9
open Go.Event renaming mute->WK
open Go.Frame renaming catches->ZX,oper?->YP,round->Xd
open Go.GStep renaming after->T6
open Go.Instr renaming checkKey->Vj,fill->ab_,findKey->VP,index->Z4,indexAt->ZO,loadAt->XF,mapUpdate->Zw,sameBits->WG,slice->Z3,sliceAt->Yn,sliceBound->Zo,sliceBounds->Ze,storeAt->Ym,sureAddr->Vh,typeAssert->Zn
open Go.IntKind renaming bits->auZ,i64->SD,signed->auY,wrap->Xg
open Go.Item renaming plain->ag2
open Go.MemAct renaming low_mono->Zm,ofEvent->Ts
open Go.Next renaming value->W9
open Go.Obj renaming isChan->aj_
open Go.Op renaming equal->WT,equalIn->VC,intArith->au9,intDiv->aq',shift->auX
open Go.Question renaming cut->Zv,forced->ats
open Go.Region renaming binds->Yt,schedule->VO,wanted->Ti
open Go.Region.linearise renaming go->UK
open Go.Sem renaming events_pure->ZL,runT->VI,runT_eq->TB,run_pure->aa_
open Go.Value renaming bool->Xf,slice->Uu,tuple->YN
open Go.World renaming cell?->UA,frozen?->ZU,setCell->Xn
open Go.stepG renaming exec->Ug,oper->Y7
open Int renaming toNat_natCast->VR
open List renaming append_assoc->SC,append_nil->SN,contains_eq_mem->Us,countP_cons_of_neg->WX,countP_cons_of_pos->VX,drop_drop->am_,drop_eq_getElem_cons->TL,drop_zero->XD,ext_getElem?->Yr,flatMap_cons->T5,foldl_cons->U4,getD_cons_zero->Xs,getD_eq_getElem?_getD->SE,getElem?_append_left->SX,getElem?_append_right->Ta,getElem?_cons_succ->UN,getElem?_cons_zero->Vt,getElem?_drop->Up,getElem?_eq_getElem->SW,getElem?_eq_some_iff->SL,getElem?_map->To,getElem?_range->XC,getElem?_set_ne->Ua,getElem?_set_self->Xc,getElem?_take->Uf,getElem?_toArray->Vl,getElem_mem->Wz,length_append->S5,length_cons->Un,length_drop->Uk,length_nil->UW,length_take->TV,mapM_cons->Ub,mapM_nil->UE,mapM_toArray->X2,map_congr_left->Vg,map_cons->UP,map_drop->apT,mem_cons->SK,mem_cons_of_mem->Td,mem_cons_self->TC,mem_filter->Uq,mem_filterMap->VZ,mem_iff_getElem?->UV,mem_of_getElem?->S_,mem_of_mem_take->Wy,mem_range->Tx,mem_toArray->TM,not_mem_nil->SZ,range->SU,range'->T9,range'_succ->VU,range_eq_range'->Vs,reverse_nil->XY,set_append_right->Ud,set_set->Xb,singleton_append->Y5,take_length->TD,take_take->U8,take_zero->al'
open Nat renaming add_assoc->U6,add_comm->Z7,add_mul->Vk,add_zero->UI,le_of_eq->WL,le_refl->SO,le_succ->Y4,le_trans->UH,lt_of_lt_of_le->Tf,lt_trans->Ws,min_le_left->ZK,mod_lt->as',mul_le_mul->ZQ,mul_le_mul_right->Uh,mul_one->Ye,ne_of_lt->Wc,strongRecOn->Yq,sub_zero->Z1,zero_add->Wx,zero_le->WQ,zero_mul->Z6
open Option renaming bind_eq_bind->TR,bind_eq_some_iff->Tg,getD_none->Vr,getD_some->S0,map_eq_some_iff->Tq,map_some->UT,pure_def->Uj
open Option.some renaming inj->V_,injEq->Tm
open Prod.mk renaming injEq->U7
namespace Go.Gg
open Go.Conc
abbrev cx:=Nat->Nat->Option SP
abbrev Ca:=Nat->Option Obj
abbrev Spec:=SP->cx->Ca->Prop
inductive mX where
 |plain
 |fork (c Wg:Nat) (Ss:List (List Spec))
 |recv (c Wg:Nat) (Ss:List (List Spec))
 |work (c Wg:Nat) (S:List Spec)
def mX.group:mX->Option Nat
 |.fork _ Wg _=>some Wg
 |_=>none
def mX.chan:mX->Option Nat
 |.fork c _ _=>some c
 |_=>none
structure View where
 ab:cx
 own:Ca
 deaf:Nat
 role:mX
structure Sat (V:View)(w:Tp):Prop where
 ab:∀b o v,V.ab b o=some v->w.cell? ⟨b,o,none⟩=some v
 own:∀b x,V.own b=some x->w.heap[b]?=some x
def uk (V:View)(n:Nat)(a:U_):Prop:=n<=a.block\/V.own a.block≠none\/V.ab a.block a.off≠none
def mC (V:View)(n:Nat)(a:U_):Prop:=n<=a.block\/(V.own a.block≠none/\V.ab a.block a.off=none)
def mU (V:View)(n:Nat)(e:Ut):Prop:=
 match e with
 |⟨.cell a,false,s⟩=>uk V n a/\(s=true\/V.role.group≠some a.block)
 |⟨.cell a,true,s⟩=>mC V n a/\(s=true\/V.role.group≠some a.block)
 |⟨.obj r,_,s⟩=>(s=false/\(n<=r\/V.own r≠none))/\V.role.chan≠some r
 |⟨.mark (.read a),_,_⟩=>mC V n a
 |⟨.mark (.write a),_,_⟩=>mC V n a
 |⟨.mark .disable,_,s⟩=>s=true
 |⟨.mark .enable,_,s⟩=>s=true
 |⟨.mark .noRoom,_,_⟩=>True
 |_=>False
structure dh (V:View)(w:Tp)(V':View)(w':Tp)(es:Array Ut):Prop where
 sat:Sat V' w'
 tape:w'.tape=w.tape
 os:w'.os=w.os
 output:w'.output=w.output
 size:w.heap.size<=w'.heap.size
 frame:∀b,b<w.heap.size->V.own b=none->w'.heap[b]?=w.heap[b]?
 own:∀b,b<w.heap.size->V.own b=none->V'.own b=none
 ab:∀b o v,V.ab b o=some v->V'.ab b o=some v
 kI:∀b o v,V'.ab b o=some v->V.ab b o=some v\/V.own b≠none\/w.heap.size<=b
 eZ:∀e∈es,mU V w.heap.size e
 deaf:V'.deaf=deafBehind V.deaf es
 role:V'.role=V.role
 chan:∀c x,V.role.chan=some c->V.own c=some x->V'.own c=some x
 low:∀e∈es,(Ts e).low w'.heap.size
structure dU (V V':View):Prop where
 sat:∀w,Sat V w->Sat V' w
 own:∀b,V.own b=none->V'.own b=none
 ab:∀b o v,V.ab b o=some v->V'.ab b o=some v
 kI:∀b o v,V'.ab b o=some v->V.ab b o=some v\/V.own b≠none
 deaf:V'.deaf=V.deaf
 role:V'.role=V.role
 chan:∀c x,V.role.chan=some c->V.own c=some x->V'.own c=some x
theorem dU.refl(V:View):dU V V:=⟨λ_ h=>h,λ_ h=>h,λ_ _ _ h=>h,λ_ _ _ h=> .inl h,rfl,rfl,λ_ _ _ e=>e⟩
theorem dU.trans{V V' aS:View}(h:dU V V')(k:dU V' aS):dU V aS:=
 ⟨λw x=>k.sat w (h.sat w x),λb x=>k.own b (h.own b x),λb o v x=>k.ab b o v (h.ab b o v x),λb o v x=>(k.kI b o v x).elim (λy=>h.kI b o v y) (λy=> .inr λz=>y (h.own b z)),k.deaf.trans h.deaf,k.role.trans h.role,λc x e e'=>k.chan c x (by rw[h.role];exact e) (h.chan c x e e')⟩
theorem uk.si{V V':View}(g:dU V V'){n:Nat}{a:U_}(h:uk V' n a):uk V n a:=by
 rcases h with h|h|h
 ·exact .inl h
 ·exact .inr (.inl λe=>h (g.own _ e))
 ·cases e:V'.ab a.block a.off with
  |none=>exact absurd e h
  |some v=>exact(g.kI _ _ _ e).elim (λx=> .inr (.inr (by rw[x];simp))) (λx=> .inr (.inl x))
theorem mC.si{V V':View}(g:dU V V'){n:Nat}{a:U_}(h:mC V' n a):mC V n a:=by
 rcases h with h|⟨h,h'⟩
 ·exact .inl h
 ·refine .inr ⟨λe=>h (g.own _ e),?_⟩;cases e:V.ab a.block a.off with
  |none=>rfl
  |some v=>rw[g.ab _ _ _ e]at h';cases h'
theorem mU.si{V V':View}(g:dU V V'){n:Nat}{e:Ut}(h:mU V' n e):mU V n e:=by
 unfold mU at h⊢;split at h
 ·exact⟨uk.si g h.1,by rw[<- g.role];exact h.2⟩
 ·exact⟨mC.si g h.1,by rw[<- g.role];exact h.2⟩
 ·exact⟨⟨h.1.1,h.1.2.imp id λx y=>x (g.own _ y)⟩,by rw[<- g.role];exact h.2⟩
 ·exact mC.si g h
 ·exact mC.si g h
 ·exact h
 ·exact h
 ·trivial
 ·exact h.elim
theorem dh.si{V V₁ V':View}{w w':Tp}{es:Array Ut}(g:dU V V₁)(h:dh V₁ w V' w' es):dh V w V' w' es:=
 ⟨h.sat,h.tape,h.os,h.output,h.size,λb hb e=>h.frame b hb (g.own b e),λb hb e=>h.own b hb (g.own b e),λb o v e=>h.ab b o v (g.ab b o v e),
  λb o v e=>(h.kI b o v e).elim (λx=>(g.kI b o v x).imp id .inl) (λx=> .inr (x.imp (λy z=>y (g.own b z)) id)),λe he=>mU.si g (h.eZ e he),by rw[h.deaf,g.deaf],h.role.trans g.role,λc x e e'=>h.chan c x (by rw[g.role];exact e) (g.chan c x e e'),h.low⟩
theorem dh.ghost{V V' aS:View}{w w':Tp}{es:Array Ut}(h:dh V w V' w' es)(g:dU V' aS):dh V w aS w' es:=
 ⟨g.sat _ h.sat,h.tape,h.os,h.output,h.size,h.frame,λb hb e=>g.own b (h.own b hb e),λb o v e=>g.ab b o v (h.ab b o v e),
  λb o v e=>(g.kI b o v e).elim (λx=>h.kI b o v x) (λx=>by
   by_cases hb:b<w.heap.size
   ·exact .inr (.inl λy=>x (h.own b hb y))
   ·exact .inr (.inr (by omega))),h.eZ,by rw[g.deaf,h.deaf],g.role.trans h.role,λc x e e'=>g.chan c x (by rw[h.role];exact e) (h.chan c x e e'),h.low⟩
theorem dh.idle{V:View}{w:Tp}(h:Sat V w):dh V w V w #[]:=
 ⟨h,rfl,rfl,rfl,SO _,λ_ _ _=>rfl,λ_ _ e=>e,λ_ _ _ e=>e,λ_ _ _ e=> .inl e,by simp,rfl,rfl,λ_ _ _ e=>e,by simp⟩
theorem Sat.drew{V:View}{w:Tp}(h:Sat V w)(d:Nat):Sat V {w with drawn:=d}:=⟨h.ab,h.own⟩
theorem dh.draw{V:View}{w:Tp}(h:Sat V w)(d:Nat):dh V w V {w with drawn:=d} #[]:=
 ⟨h.drew d,rfl,rfl,rfl,SO _,λ_ _ _=>rfl,λ_ _ e=>e,λ_ _ _ e=>e,λ_ _ _ e=> .inl e,by simp,rfl,rfl,λ_ _ _ e=>e,by simp⟩
def dW (Wg:Nat):U_:=⟨Wg,0,none⟩
def oR (Wg:Nat):U_:=⟨Wg,1,none⟩
def OO (P : SI) : TypeId := ((P.types.findIdx? λi => match i.desc with | .named n _ => n == "sync.WaitGroup" | _ => false).getD 0)
def wgBlock (P:SI)(st sm:Int):Obj:=.cells #[.int .u64 st,.int .u32 sm] (OO P)
def WgAt (P:SI)(Wg:Nat)(w:Tp)(st sm:Int):Prop:=w.heap[Wg]?=some (wgBlock P st sm)
def KK:Int:=4294967296
def je (a:U_):Ut:=⟨.cell a,false,true⟩
def kV (a:U_):Ut:=⟨.cell a,true,true⟩
def j6 (m:Mark):Ut:=⟨.mark m,false,true⟩
def Bz (a:U_):Array Ut:=#[j6 .disable,je a,kV a,j6 .enable]
def cU (P:SI)(Stop:Nat->SG->Prop):Nat->Nat->SG->Prop
 |0,d,g=>Stop d g
 |n+1,d,g=>Stop d g\/(g.status=.running/\∃g' es,(∀e∈es,WK e=true)/\(∀w,stepG P false g w=.go g' w es)/\cU P Stop n (deafBehind d es) g')
def ij (P:SI)(Wg:Nat)(Stop:Nat->SG->Prop):Nat->Nat->SG->Prop
 |0,d,g=>Stop d g
 |n+1,d,g=>Stop d g\/(g.status=.running/\∃g' es,(∀e∈es,WK e=true)/\(∀w x y,WgAt P Wg w x y->stepG P false g w=.go g' w es)/\ij P Wg Stop n (deafBehind d es) g')
section
variable (P:SI)(Wg:Nat)
def EV (d:Nat)(g:SG):Prop:=d=1/\g.status=.running/\mayWake P g=true/\∃g',(∀w,WgAt P Wg w 0 0->stepG P false g w=.go g' (w.setCell (oR Wg) (.int .u32 1)) (Bz (oR Wg)))/\∃q,Y9 P q 1 g'
def EW (d:Nat)(g:SG):Prop:=d=1/\g.status=.running/\∃g',(∀w,WgAt P Wg w 1 0->stepG P false g w=.go g' (w.setCell (dW Wg) (.int .u64 0)) #[kV (dW Wg)])/\∃n,cU P (EV P Wg) n 1 g'
def EU (d:Nat)(g:SG):Prop:=d=1/\g.status=.running/\∃g',(∀w,WgAt P Wg w 1 0->stepG P false g w=.go g' w #[je (dW Wg)])/\∃n,cU P (EW P Wg) n 1 g'
def BY (d:Nat)(g:SG):Prop:=d=1/\g.status=.running/\∀v wt:Nat,wt<=1->v<4->∃g',(∀w,WgAt P Wg w (((v+1:Nat):Int)* KK+wt) 0->stepG P false g w=.go g' (w.setCell (dW Wg) (.int .u64 ((v:Int)* KK+wt))) #[je (dW Wg),kV (dW Wg)])/\
 ((v=0/\wt=1)->∃n,cU P (EU P Wg) n 1 g')/\(¬(v=0/\wt=1)->∃q,Y9 P q 1 g')
def Fa (g:SG):Prop:=g.status=.running/\∃g',(∀w,stepG P false g w=.go g' w #[j6 (.releaseMerge (dW Wg))])/\∃n,cU P (BY P Wg) n 0 g'
end
section
variable (P:SI)(Im:cx)(c Wg:Nat)
def IN (d:Nat)(g:SG):Prop:=d=0/\g.status=.running/\mayWake P g=true/\∃g',(∀w s,w.heap[c]?=some (.chan 0 #[] false s s false)->stepG P false g w=.go g' {w with heap:=w.heap.setIfInBounds c (.chan 0 #[] true s s false)} #[⟨.obj c,false,true⟩,⟨.obj c,true,true⟩])/\∃q,Y9 P q 0 g'
def IQ (d:Nat)(g:SG):Prop:=d=0/\g.status=.running/\∃b o x g',Im b o=some x/\(∀w,w.cell? ⟨b,o,none⟩=some x->stepG P false g w=.go g' w #[⟨.cell ⟨b,o,none⟩,false,false⟩])/\∃n,cU P (IN P c) n 0 g'
def uh (d:Nat)(g:SG):Prop:=d=0/\g.status=.running/\∃g',(∀w,stepG P false g w=.go g' w #[j6 (.acquire (dW Wg))])/\∃n,cU P (IQ P Im c) n 0 g'
def IP (d:Nat)(g:SG):Prop:=d=1/\g.status=.running/\∃g',(∀w,WgAt P Wg w 0 0->stepG P false g w=.go g' w #[je (dW Wg)])/\∃n,ij P Wg (uh P Im c Wg) n 1 g'
def ET (d:Nat)(g:SG):Prop:=d=1/\g.status=.running/\g.offers=none/\(∀w st,WgAt P Wg w st 0->stepG P false g w=.go {g with status:=.blocked} w #[])/\
 ∃g',(∀w,WgAt P Wg w 0 1->stepG P false g w=.go g' (w.setCell (oR Wg) (.int .u32 0)) (Bz (oR Wg)))/\∃n,cU P (IP P Im c Wg) n 1 g'
def ES (d:Nat)(g:SG):Prop:=d=1/\g.status=.running/\∃g',(∀w,stepG P false g w=.go g' w #[j6 (.write (oR Wg))])/\∃n,cU P (ET P Im c Wg) n 1 g'
def eE:Nat->Nat->SG->Prop
 |0,_,_=>False
 |k+1,d,g=>d=1/\g.status=.running/\∀v:Nat,v<=k->v<=4->∃g',(∀w,WgAt P Wg w ((v:Int)* KK) 0->stepG P false g w=.go g' w #[je (dW Wg)])/\(v=0->∃n,ij P Wg (uh P Im c Wg) n 1 g')/\
  (v≠0->∃n,cU P (λd g=>d=1/\g.status=.running/\
   (∃g',(∀w,WgAt P Wg w ((v:Int)* KK) 0->stepG P false g w=.go g' (w.setCell (dW Wg) (.int .u64 ((v:Int)* KK+1))) #[je (dW Wg),kV (dW Wg)])/\∃n,ij P Wg (ES P Im c Wg) n 1 g')/\
   (∀u:Nat,u<v->∃g',(∀w,WgAt P Wg w ((u:Int)* KK) 0->stepG P false g w=.go g' w #[je (dW Wg)])/\∃n,cU P (eE v) n 1 g')) n 1 g')
 termination_by k _ _=>k
def IR (g:SG):Prop:=∃n,cU P (eE P Im c Wg 5) n 0 g
end
structure zC (P:SI)(main:Bool)(J:View->SG->Prop):Prop where
 step:∀V g,g.status=.running->(∀w,Sat V w->∃g' w' es V',stepG P main g w=.go g' w' es/\dh V w V' w' es/\J V' g')->J V g
 ghost:∀V V' g,dU V V'->J V' g->J V g
 send:∀V g c Wg sp S v z (B:Nat->Bool),V.role=.work c Wg (sp::S)->V.deaf=0->g.status=.running->g.offers=none->
  (∀w,Sat V w->stepG P main g w=.comm g #[scase c v z] true .send w #[])->sp v V.ab (λb=>if B b then V.own b else none)->
  J {V with own:=λb=>if B b then none else V.own b,role:=.work c Wg S} (T8 g undef)->J V g
 done:∀V g c Wg,V.role=.work c Wg []->V.deaf=0->Fa P Wg g->J V g
 slip:∀V g g' c Wg,V.role=.work c Wg []->g.status=.running->(∀w st,Sat V w->WgAt P Wg w st 0->stepG P main g w=.go g' w #[])->J V g'->J V g
structure aeB (P:SI)(main:Bool)(J:View->SG->Prop):Prop where
 start:∀V g c Wg,V.role=.plain->c≠Wg->V.own c=some (.chan 0 #[] false 0 0 false)->V.own Wg≠none->(∀o,V.ab Wg o=none)->J {V with role:=.fork c Wg []} g->J V g
 F1:∀V g g' child c Wg Ss sp S,V.role=.fork c Wg Ss->V.deaf=0->g.status=.running->V.own c=some (.chan 0 #[] false 0 0 false)->V.own Wg=some (wgBlock P (((Ss.length+1:Nat):Int)* 4294967296) 0)->Ss.length<4->(∀o,V.ab Wg o=none)->
  (∀w,Sat V w->stepG P main g w=.spawn g' child w #[])->child.status=.running->
  (∀J0,zC P false J0->J0 {ab:=V.ab,own:=λ_=>none,deaf:=0,role:=.work c Wg (sp::S)} child)->
  J {V with role:=.fork c Wg (Ss++[sp::S])} g'->J V g
 F0:∀V g g' child c Wg Ss,V.role=.fork c Wg Ss->V.deaf=0->g.status=.running->c≠Wg->V.own c=some (.chan 0 #[] false 0 0 false)->V.own Wg=some (wgBlock P (((Ss.length:Nat):Int)* 4294967296) 0)->(∀o,V.ab c o=none)->(∀o,V.ab Wg o=none)->
  (∀w,Sat V w->stepG P main g w=.spawn g' child w #[])->child.status=.running->IR P V.ab c Wg child->
  J {V with own:=λb=>if b=c\/b=Wg then none else V.own b,role:=.recv c Wg Ss} g'->J V g
 recv:∀V g c Wg Ss z,V.role=.recv c Wg Ss->V.deaf=0->g.status=.running->g.offers=none->
  (∀w,Sat V w->stepG P main g w=.comm g #[rcase c z] true (.recv true) w #[])->
  (∀i sp S v Im Ow,Ss[i]?=some (sp::S)->sp v Im Ow->(∀b,V.own b≠none->Ow b=none)->(∀b o,V.own b≠none->Im b o≠none->V.ab b o≠none)->(∃w,Sat V w/\(∀b o x,Im b o=some x->w.cell? ⟨b,o,none⟩=some x)/\∀b x,Ow b=some x->w.heap[b]?=some x)->
   J {V with ab:=λb o=>match V.ab b o with|some x=>some x|none=>Im b o,own:=λb=>match V.own b with|some x=>some x|none=>Ow b,role:=.recv c Wg (Ss.set i S)} (T8 g (.tuple #[v,.bool true])))->
  ((∀S∈Ss,S=[])->J {V with role:=.plain} (T8 g (.tuple #[z,.bool false])))->J V g
structure Closed (lv:Bool)(P:SI)(main:Bool)(J:View->SG->Prop):Prop extends zC P main J where
 more:lv=true->aeB P main J
theorem Closed.idle{lv:Bool}{P:SI}{main:Bool}{J:View->SG->Prop}(C:Closed lv P main J){V:View}{g g':SG}(hs:g.status=.running)(h:∀w,stepG P main g w=.go g' w #[]) (hJ:J V g'):J V g:=
 C.step V g hs λw hw=>⟨g',w,#[],V,h w,.idle hw,hJ⟩
def on (b:Uc)(a:Act)(todo:List WZ):Uc:={b with tmps:=a.tmps,todo,defers:=a.defers,mode:=.run}
inductive Ex where
 |normal
 |exit (id:Nat)
 |goto (l:Nat)
 |ret
 |panic (chain:List ZV)
def pX (J:View->SG->Prop)(b:Uc)(cs:List Uc)(a:Act)(V:View)(x:T7)(to:List WZ->Option (List WZ))(k:List WZ):Prop:=
 (∃k',to k=some k'/\J V (G (on b a k') cs))\/(to k=none/\∀k2,to k2=none->J V (G (on b a (.code x::k2)) cs))
theorem pX.under{J:View->SG->Prop}{b:Uc}{cs:List Uc}{a:Act}{V:View}{x:T7}{to:List WZ->Option (List WZ)}{k k2:List WZ}(h:pX J b cs a V x to k)(e:to k2=to k):pX J b cs a V x to k2:=by
 rcases h with⟨k',h1,h2⟩|⟨h1,h2⟩
 ·exact .inl ⟨k',e.trans h1,h2⟩
 ·exact .inr ⟨e.trans h1,h2⟩
def abX:List WZ->Bool
 |.call .. ::_=>false
 |_=>true
def vT (J:View->SG->Prop)(b:Uc)(k:List WZ)(cs:List Uc):Ex->Act->View->Prop
 |.normal,a,V=>J V (G (on b a k) cs)
 |.exit id,a,V=>pX J b cs a V (.exit id) (exitTo id) k
 |.goto l,a,V=>pX J b cs a V (.goto l) (gotoIn l) k
 |.ret,a,V=>∀k,J V (G (on b a (.code .ret::k)) cs)
 |.panic chain,a,V=>∀todo,abX todo=true->J V (G {on b a todo with mode:=.panicking chain} cs)
def WP (lv:Bool)(P:SI)(r:Option Nat)(c:T7)(Q:Ex->Act->View->Prop)(a:Act)(V:View):Prop:=
 ∀(main:Bool)(J:View->SG->Prop),Closed lv P main J->∀(b:Uc)(k:List WZ)(cs:List Uc),b.kind≠ .early->b.roundOf=r->
  (∀e a' V',Q e a' V'->vT J b k cs e a' V')->J V (G (on b a (.code c::k)) cs)
section steps
variable {P:SI}{main:Bool}{b:Uc}{a:Act}{k:List WZ}{cs:List Uc}{w:Tp}
theorem aqL:stepG P main (G (on b a (.code .skip::k)) cs) w=.go (G (on b a k) cs) w #[]:=by simp[G,stepG,Ug,on]
theorem aqF{l:Nat}:stepG P main (G (on b a (.code (.label l)::k)) cs) w=.go (G (on b a k) cs) w #[]:=by simp[G,stepG,Ug,on]
theorem aqC{id:Nat}:stepG P main (G (on b a (.inBlock id::k)) cs) w=.go (G (on b a k) cs) w #[]:=by simp[G,stepG,Ug,on]
theorem aqE{c:T7}:stepG P main (G (on b a (.inScope c::k)) cs) w=.go (G (on b a k) cs) w #[]:=by simp[G,stepG,Ug,on]
theorem acY{x y:T7}:stepG P main (G (on b a (.code (.seq x y)::k)) cs) w=.go (G (on b a (.code x:: .code y::k)) cs) w #[]:=by simp[G,stepG,Ug,on]
theorem HJ(b:Uc)(a:Act)(todo:List WZ)(x:Tj):(on b a todo).eval x=a.eval x:=by cases x<;>rfl
theorem aoE(b:Uc)(a:Act)(todo:List WZ):(on b a todo).eval=a.eval:=funext (HJ b a todo)
theorem s_cond{c:Tj}{x y:T7}{t:Bool}(h:a.eval c=.bool t):
  stepG P main (G (on b a (.code (.cond c x y)::k)) cs) w=.go (G (on b a (.code (if t then x else y)::k)) cs) w #[]:=by
 have h':(on b a (.code (.cond c x y)::k)).eval c=.bool t:=by rw[HJ];exact h
 simp only[on]at h';simp[G,stepG,Ug,on,h']
theorem aqz{id:Nat}{c:T7}:stepG P main (G (on b a (.code (.block id c)::k)) cs) w=.go (G (on b a (.code c:: .inBlock id::k)) cs) w #[]:=by simp[G,stepG,Ug,on]
theorem aqK{c:T7}:stepG P main (G (on b a (.code (.scope c)::k)) cs) w=.go (G (on b a (.code c:: .inScope c::k)) cs) w #[]:=by simp[G,stepG,Ug,on]
theorem aqG{c:T7}:stepG P main (G (on b a (.code (.loop c)::k)) cs) w=.go (G (on b a (.code c:: .inLoop c::k)) cs) w #[]:=by simp[G,stepG,Ug,on]
theorem aqD{c:T7}:stepG P main (G (on b a (.inLoop c::k)) cs) w=.go (G (on b a (.code c:: .inLoop c::k)) cs) w #[]:=by simp[G,stepG,Ug,on]
theorem s_exit{id:Nat}{k':List WZ}(h:exitTo id k=some k'):stepG P main (G (on b a (.code (.exit id)::k)) cs) w=.go (G (on b a k') cs) w #[]:=by simp[G,stepG,Ug,on,h]
theorem aqB{l:Nat}{k':List WZ}(h:gotoIn l k=some k'):stepG P main (G (on b a (.code (.goto l)::k)) cs) w=.go (G (on b a k') cs) w #[]:=by simp[G,stepG,Ug,on,h]
theorem acX{id:Nat}{ops:Array Tu}:stepG P main (G (on b a (.code (.region id ops false)::k)) cs) w=.go (G (on b a (.inRegion ops (SU ops.size)::k)) cs) w #[]:=by simp[G,stepG,Ug,on]
theorem aqA{id:Nat}{ops:Array Tu}:stepG P main (G (on b a (.code (.region id ops true)::k)) cs) w=
  .go (G (on b a (.inRegion ops (VO (P.follows .mixedOrders) ops (w.tape w.drawn (.order b.fn id)))::k)) cs) {w with drawn:=w.drawn+1} #[]:=by
 simp[G,stepG,Ug,on,choose,Sem.run,ats,Zv]
theorem aqJ{ops:Array Tu}:stepG P main (G (on b a (.inRegion ops []::k)) cs) w=.go (G (on b a k) cs) w #[]:=by simp[G,stepG,Ug,on]
theorem Es(h:b.roundOf=none):stepG P main (G (on b a (.code .ret::k)) cs) w=.go (G {on b a (.code .ret::k)with mode:=.returning} cs) w #[]:=by simp[G,stepG,Ug,on,h]
theorem Er(h:b.roundOf=none):stepG P main (G (on b a []) cs) w=.go (G {on b a []with mode:=.returning} cs) w #[]:=by simp[G,stepG,Ug,on,h]
end steps
section rules
variable {lv:Bool}{P:SI}{r:Option Nat}{Q:Ex->Act->View->Prop}{a:Act}{V:View}
theorem WP.mono{c:T7}{Q':Ex->Act->View->Prop}(h:WP lv P r c Q a V)(hq:∀e a V,Q e a V->Q' e a V):WP lv P r c Q' a V:=
 λmain J C b k cs hb hr hL=>h main J C b k cs hb hr λe a' V' q=>hL e a' V' (hq _ _ _ q)
theorem WP.ghost{c:T7}{V':View}(g:dU V V')(h:WP lv P r c Q a V'):WP lv P r c Q a V:=
 λmain J C b k cs hb hr hL=>C.ghost _ _ _ g (h main J C b k cs hb hr hL)
theorem wp_skip(h:Q .normal a V):WP lv P r .skip Q a V:=λ_ _ C _ _ _ _ _ hL=>C.idle rfl (λ_=>aqL) (hL _ _ _ h)
theorem wp_label{l:Nat}(h:Q .normal a V):WP lv P r (.label l) Q a V:=λ_ _ C _ _ _ _ _ hL=>C.idle rfl (λ_=>aqF) (hL _ _ _ h)
theorem abi{main:Bool}{J:View->SG->Prop}(C:Closed lv P main J){b:Uc}{cs:List Uc}{a:Act}{V:View}{id:Nat}{k:List WZ}(h:pX J b cs a V (.exit id) (exitTo id) k):J V (G (on b a (.code (.exit id)::k)) cs):=
 h.elim (λ⟨_,hk,hJ⟩=>C.idle rfl (λ_=>s_exit hk) hJ) (λ⟨hk,hJ⟩=>hJ k hk)
theorem amI{main:Bool}{J:View->SG->Prop}(C:Closed lv P main J){b:Uc}{cs:List Uc}{a:Act}{V:View}{l:Nat}{k:List WZ}(h:pX J b cs a V (.goto l) (gotoIn l) k):J V (G (on b a (.code (.goto l)::k)) cs):=
 h.elim (λ⟨_,hk,hJ⟩=>C.idle rfl (λ_=>aqB hk) hJ) (λ⟨hk,hJ⟩=>hJ k hk)
theorem wp_exit{id:Nat}(h:Q (.exit id) a V):WP lv P r (.exit id) Q a V:=λ_ _ C _ _ _ _ _ hL=>abi C (hL _ _ _ h)
theorem wp_ret(h:Q .ret a V):WP lv P r .ret Q a V:=λ_ _ _ _ k _ _ _ hL=>hL _ _ _ h k
def Ex.then (next:Act->View->Prop)(Q:Ex->Act->View->Prop):Ex->Act->View->Prop
 |.normal,a,V=>next a V
 |e,a,V=>Q e a V
theorem vT.under{J:View->SG->Prop}{b:Uc}{k:List WZ}{cs:List Uc}{x:WZ}(hx:x.plain=true){e:Ex}(he:e≠ .normal){a:Act}{V:View}(h:vT J b k cs e a V):vT J b (x::k) cs e a V:=by
 cases e with
 |normal=>exact absurd rfl he
 |exit id=>exact pX.under h (by cases x<;>simp_all[exitTo,ag2])
 |goto l=>exact pX.under h (by cases x<;>simp_all[gotoIn,ag2])
 |ret=>exact h
 |panic ch=>exact h
theorem wp_seq{x y:T7}(h:WP lv P r x (Ex.then (WP lv P r y Q) Q) a V):WP lv P r (.seq x y) Q a V:=by
 intro main J C b k cs hb hr hL;refine C.idle rfl (λ_=>acY) (h main J C b (.code y::k) cs hb hr λe a' V' q=> ?_);cases e with
 |normal=>exact q main J C b k cs hb hr hL
 |exit id=>exact(hL _ _ _ q).under rfl (by simp)
 |goto l=>exact(hL _ _ _ q).under rfl (by simp)
 |ret=>exact(hL _ _ _ q).under rfl (by simp)
 |panic ch=>exact(hL _ _ _ q).under rfl (by simp)
theorem wp_cond{c:Tj}{x y:T7}{t:Bool}(hc:a.eval c=.bool t)(h:WP lv P r (if t then x else y) Q a V):WP lv P r (.cond c x y) Q a V:=
 λmain J C b k cs hb hr hL=>C.idle rfl (λ_=>s_cond hc) (h main J C b k cs hb hr hL)
def Ex.inBlock (id:Nat)(Q:Ex->Act->View->Prop):Ex->Act->View->Prop
 |.exit oI,a,V=>if oI=id then Q .normal a V else Q (.exit oI) a V
 |e,a,V=>Q e a V
theorem wp_block{id:Nat}{c:T7}(h:WP lv P r c (Ex.inBlock id Q) a V):WP lv P r (.block id c) Q a V:=by
 intro main J C b k cs hb hr hL;refine C.idle rfl (λ_=>aqz) (h main J C b (.inBlock id::k) cs hb hr λe a' V' q=> ?_);cases e with
 |normal=>exact C.idle rfl (λ_=>aqC) (hL _ _ _ q)
 |exit oI=>
  by_cases bX:oI=id
  ·simp only[Ex.inBlock,bX,if_true]at q;exact .inl ⟨k,by simp[exitTo,bX],hL _ _ _ q⟩
  ·simp only[Ex.inBlock,bX,if_false]at q;have:(id==oI)=false:=(by simp;exactλh=>bX h.symm);exact pX.under (hL _ _ _ q) (by simp[exitTo,this])
 |goto l=>exact pX.under (hL _ _ _ q) (by simp[gotoIn])
 |ret=>exact hL _ _ _ q
 |panic ch=>exact hL _ _ _ q
theorem OW{α:Type}{lt:α->α->Prop}(wf:WellFounded lt){c:T7}(I:α->Act->View->Prop)(m:α)(h₀:I m a V)
  (round:∀m a V,I m a V->WP lv P r c (Ex.then (λa' V'=>∃m',lt m' m/\I m' a' V') Q) a V):WP lv P r (.loop c) Q a V:=by
 intro main J C b k cs hb hr hL;have key:∀m a V,I m a V->J V (G (on b a (.code c:: .inLoop c::k)) cs):=by
  intro m;induction m using wf.induction with
  |_ m ih=>
   intro a V hI;refine round m a V hI main J C b (.inLoop c::k) cs hb hr λe a' V' q=> ?_;cases e with
   |normal=>obtain⟨m',hlt,hI'⟩:=q;exact C.idle rfl (λ_=>aqD) (ih m' hlt a' V' hI')
   |exit id=>exact(hL _ _ _ q).under rfl (by simp)
   |goto l=>exact(hL _ _ _ q).under rfl (by simp)
   |ret=>exact(hL _ _ _ q).under rfl (by simp)
   |panic ch=>exact(hL _ _ _ q).under rfl (by simp)
 exact C.idle rfl (λ_=>aqG) (key m a V h₀)
theorem wp_loop{c:T7}(I:Nat->Act->View->Prop)(m:Nat)(h₀:I m a V)
  (round:∀m a V,I m a V->WP lv P r c (Ex.then (λa' V'=>∃m',m'<m/\I m' a' V') Q) a V):WP lv P r (.loop c) Q a V:=
 OW Nat.lt_wfRel.wf I m h₀ round
theorem aeu{c:T7}(I:Nat->Nat->Act->View->Prop)
  (start:∃n:Nat,WP lv P r c (λe a V=>match e with
   |.goto l=>∃rest,findLabel c l=some rest/\∃m,m<n/\I l m a V
   |e=>Q e a V) a V)
  (back:∀l rest m a V,findLabel c l=some rest->I l m a V->WP lv P r rest (λe a V=>match e with
   |.goto l'=>∃zk,findLabel c l'=some zk/\∃m',m'<m/\I l' m' a V
   |e=>Q e a V) a V):WP lv P r (.scope c) Q a V:=by
 intro main J C b k cs hb hr hL;have land:∀(n:Nat),(∀l rest m a V,m<n->findLabel c l=some rest->I l m a V->J V (G (on b a (.code rest:: .inScope c::k)) cs))->
   ∀e a' V',(match e with
   |.goto l=>∃rest,findLabel c l=some rest/\∃m,m<n/\I l m a' V'
   |e=>Q e a' V')->vT J b (.inScope c::k) cs e a' V':=by
  intro n hn e a' V' q;cases e with
  |normal=>exact C.idle rfl (λ_=>aqE) (hL _ _ _ q)
  |exit id=>exact pX.under (hL _ _ _ q) (by simp[exitTo])
  |goto l=>
   obtain⟨rest,hf,m,hm,hI⟩:=q;exact .inl ⟨_,by simp[gotoIn,hf],hn l rest m a' V' hm hf hI⟩
  |ret=>exact hL _ _ _ q
  |panic ch=>exact hL _ _ _ q
 have key:∀n l rest m a V,m<n->findLabel c l=some rest->I l m a V->J V (G (on b a (.code rest:: .inScope c::k)) cs):=by
  intro n;induction n with
  |zero=>intro _ _ _ _ _ h;omega
  |succ n ih=>
   intro l rest m a V hm hf hI;exact back l rest m a V hf hI main J C b (.inScope c::k) cs hb hr (land m λl' zk m' a' V' h'=>ih l' zk m' a' V' (by omega))
 obtain⟨n,hn⟩:=start;exact C.idle rfl (λ_=>aqK) (hn main J C b (.inScope c::k) cs hb hr (land n (key n)))
end rules
open Go.Conc
def View.get (V:View)(b o:Nat):Option SP:=
 match V.ab b o with
 |some v=>some v
 |none=>match V.own b with
  |some (.cells c _ _)=>c[o]?
  |_=>none
def View.upd (V:View)(b:Nat)(x:Obj):View:={V with own:=λb'=>if b'=b then some x else V.own b'}
def View.fresh (V:View)(b:Nat):Prop:=V.own b=none/\∀o,V.ab b o=none
theorem Sat.get{V:View}{w:Tp}(h:Sat V w){b o:Nat}{v:SP}(e:V.get b o=some v):w.cell? ⟨b,o,none⟩=some v:=by
 unfold View.get at e;split at e
 ·rename_i v' hv;cases e;exact h.ab _ _ _ hv
 ·split at e
  ·rename_i c el f ho;have:=h.own _ _ ho;simpa[UA,this]using e
  ·cases e
theorem Sat.lt{V:View}{w:Tp}(h:Sat V w){b:Nat}{x:Obj}(e:V.own b=some x):b<w.heap.size:=by
 have:=h.own _ _ e;exact(SR.1 this).1
theorem Sat.DX{V:View}{w:Tp}(h:Sat V w){b o:Nat}{v:SP}(e:V.ab b o=some v):b<w.heap.size:=by
 have:=h.ab _ _ _ e;unfold UA at this;split at this
 ·rename_i hh;exact(SR.1 hh).1
 ·cases this
theorem Sat.fresh{V:View}{w:Tp}(h:Sat V w){b:Nat}(hb:w.heap.size<=b):V.fresh b:=
 ⟨by cases e:V.own b with
  |none=>rfl
  |some x=>have:=h.lt e;omega,λo=>by
  cases e:V.ab b o with
  |none=>rfl
  |some x=>have:=h.DX e;omega⟩
theorem Sat.eN{V:View}{w:Tp}(h:Sat V w){b o:Nat}{v:SP}(e:V.get b o=some v):b<w.heap.size:=by
 have:=h.get e;unfold UA at this;split at this
 ·rename_i hh;exact(SR.1 hh).1
 ·cases this
theorem uk.y_{V V₁:View}{w w₁:Tp}{es:Array Ut}(s:dh V w V₁ w₁ es){a:U_}(h:uk V₁ w₁.heap.size a):uk V w.heap.size a:=by
 rcases h with h|h|h
 ·exact .inl (UH s.size h)
 ·by_cases hb:a.block<w.heap.size
  ·exact .inr (.inl λe=>h (s.own _ hb e))
  ·exact .inl (by omega)
 ·cases e:V₁.ab a.block a.off with
  |none=>exact absurd e h
  |some v=>
   rcases s.kI _ _ _ e with x|x|x
   ·exact .inr (.inr (by rw[x];simp))
   ·exact .inr (.inl x)
   ·exact .inl x
theorem mC.y_{V V₁:View}{w w₁:Tp}{es:Array Ut}(s:dh V w V₁ w₁ es){a:U_}(h:mC V₁ w₁.heap.size a):mC V w.heap.size a:=by
 rcases h with h|⟨h,h'⟩
 ·exact .inl (UH s.size h)
 ·by_cases hb:a.block<w.heap.size
  ·refine .inr ⟨λe=>h (s.own _ hb e),?_⟩;cases e:V.ab a.block a.off with
   |none=>rfl
   |some v=>rw[s.ab _ _ _ e]at h';cases h'
  ·exact .inl (by omega)
theorem mU.y_{V V₁:View}{w w₁:Tp}{es:Array Ut}(s:dh V w V₁ w₁ es){e:Ut}(h:mU V₁ w₁.heap.size e):mU V w.heap.size e:=by
 unfold mU at h⊢;split at h
 ·exact⟨uk.y_ s h.1,by rw[<- s.role];exact h.2⟩
 ·exact⟨mC.y_ s h.1,by rw[<- s.role];exact h.2⟩
 ·refine⟨⟨h.1.1,?_⟩,by rw[<- s.role];exact h.2⟩;rename_i r _ _;rcases h.1.2 with x|x
  ·exact .inl (UH s.size x)
  ·by_cases hb:r<w.heap.size
   ·exact .inr λy=>x (s.own _ hb y)
   ·exact .inl (by omega)
 ·exact mC.y_ s h
 ·exact mC.y_ s h
 ·exact h
 ·exact h
 ·trivial
 ·exact h.elim
theorem Jx(d:Nat)(x y:Array Ut):deafBehind d (x++y)=deafBehind (deafBehind d x) y:=by
 simp[deafBehind]
theorem dh.trans{V V₁ V₂:View}{w w₁ w₂:Tp}{es uz:Array Ut}(s:dh V w V₁ w₁ es)(s':dh V₁ w₁ V₂ w₂ uz):dh V w V₂ w₂ (es++uz):=
 ⟨s'.sat,s'.tape.trans s.tape,s'.os.trans s.os,s'.output.trans s.output,UH s.size s'.size,
  λb hb e=>(s'.frame b (Tf hb s.size) (s.own b hb e)).trans (s.frame b hb e),λb hb e=>s'.own b (Tf hb s.size) (s.own b hb e),
  λb o v e=>s'.ab b o v (s.ab b o v e),λb o v e=>by
   rcases s'.kI b o v e with x|x|x
   ·exact s.kI b o v x
   ·by_cases hb:b<w.heap.size
    ·exact .inr (.inl λy=>x (s.own b hb y))
    ·exact .inr (.inr (by omega))
   ·exact .inr (.inr (UH s.size x)),
  λe he=>(Uw.1 he).elim (s.eZ e) (λh=>(s'.eZ e h).y_ s),by rw[s'.deaf,s.deaf,Jx],s'.role.trans s.role,λc x e e'=>s'.chan c x (by rw[s.role];exact e) (s.chan c x e e'),
  λe he=>(Uw.1 he).elim (λx=>Zm s'.size (s.low e x)) (s'.low e)⟩
def fH (es:Array Ut):Array Ut:=es.filter λe=>match e.loc with|.mark (.extern _)=>false|_=>true
def aQ (P:SI){α:Type}(V:View)(s:Sem α)(K:α->View->Prop)(Kp:SP->View->Prop):Prop:=
 ∀w,Sat V w->∀eR,∃es w' V',dh V w V' w' (fH es)/\
  ((∃x,s.runT P w eR=(.ok x w',eR++es)/\K x V')\/(∃v,s.runT P w eR=(.halt (.panic v) w',eR++es)/\Kp v V'))
section
variable {P:SI}{α β:Type}{V:View}{K:α->View->Prop}{Kp:SP->View->Prop}
theorem Nv(x y:Array Ut):fH (x++y)=fH x++fH y:=by simp[fH]
theorem aQ.mono{s:Sem α}{K':α->View->Prop}{O_:SP->View->Prop}(h:aQ P V s K Kp)(hk:∀x V,K x V->K' x V)(hp:∀x V,Kp x V->O_ x V):aQ P V s K' O_:=λw hw eR=>
 let⟨es,w',V',h1,h2⟩:=h w hw eR
 ⟨es,w',V',h1,h2.imp (λ⟨x,a,b⟩=>⟨x,a,hk _ _ b⟩) (λ⟨x,a,b⟩=>⟨x,a,hp _ _ b⟩)⟩
theorem aQ.ghost{s:Sem α}{V':View}(g:dU V V')(h:aQ P V' s K Kp):aQ P V s K Kp:=λw hw eR=>
 let⟨es,w',V',h1,h2⟩:=h w (g.sat w hw) eR
 ⟨es,w',V',h1.si g,h2⟩
theorem aQ.cont{s:Sem α}(h:∀w,Sat V w->∃es w' V' s',dh V w V' w' (fH es)/\(∀eR,s.runT P w eR=s'.runT P w' (eR++es))/\aQ P V' s' K Kp):aQ P V s K Kp:=by
 intro w hw eR;obtain⟨es,w',V',s',h1,h2,h3⟩:=h w hw;obtain⟨uz,ON,aS,h4,h5⟩:=h3 w' h1.sat (eR++es);refine⟨es++uz,ON,aS,by rw[Nv];exact h1.trans h4,?_⟩;rw[h2,<- Xv];exact h5
theorem cI{x:α}(h:K x V):aQ P V (.pure x) K Kp:=λw hw eR=>⟨#[],w,V,by simpa[fH]using dh.idle hw,.inl ⟨x,by simp[-TB,VI],h⟩⟩
theorem au{x:α}(h:K x V):aQ P V (pure x) K Kp:=cI h
theorem aq2{v:SP}(h:Kp v V):aQ P V (.halt (.panic v):Sem α) K Kp:=λw hw eR=>⟨#[],w,V,by simpa[fH]using dh.idle hw,.inr ⟨v,by simp[-TB,VI],h⟩⟩
theorem tV{e:Ut}(h:∀f,e.loc≠ .mark (.extern f)):fH #[e]=#[e]:=by
 unfold fH;have:(match e.loc with|.mark (.extern _)=>false|_=>true)=true:=by
  split
  ·rename_i f hf;exact absurd hf (h f)
  ·rfl
 simp[Array.filter]
theorem Qk(d:Nat)(a:U_)(wr s:Bool):deafBehind d #[⟨.cell a,wr,s⟩]=d:=by simp[deafBehind]
theorem Ql(d:Nat)(a:Nat)(wr s:Bool):deafBehind d #[⟨.obj a,wr,s⟩]=d:=by simp[deafBehind]
theorem Oe{m:Mode}{b o:Nat}{v:SP}{k:SP->Sem α}(e:V.get b o=some v)(kj:V.role.group≠some b\/m=.atomic)(h:aQ P V (k v) K Kp):aQ P V (.load m ⟨b,o,none⟩ k) K Kp:=by
 refine .cont λw hw=>⟨#[⟨.cell ⟨b,o,none⟩,false,m== .atomic⟩],w,V,k v,?_,λeR=> ?_,h⟩
 ·rw[tV (by simp)];refine⟨hw,rfl,rfl,rfl,SO _,λ_ _ _=>rfl,λ_ _ e=>e,λ_ _ _ e=>e,λ_ _ _ e=> .inl e,λev cr=> ?_,by rw[Qk],rfl,λ_ _ _ e=>e,λev cr=>by simp at cr;subst cr;exact hw.eN e⟩;simp only[TM,SK,SZ,or_false]at cr;subst cr;refine⟨.inr ?_,kj.elim .inr (λx=> .inl (by subst x;rfl))⟩;show V.own b≠none\/V.ab b o≠none;unfold View.get at e;split at e
  ·rename_i hv;exact .inr (by rw[hv];simp)
  ·split at e
   ·rename_i hv;exact .inl (by rw[hv];simp)
   ·cases e
 ·simp[-TB,VI,hw.get e]
def _root_.Go.Value.one:SP->Bool
 |.agg _|.tuple _=>false
 |_=>true
theorem Sat.aek{V:View}{w:Tp}(h:Sat V w){b o:Nat}{v:SP}{c:Array SP}{el:TypeId}{f:Nat×Nat}(ho:V.own b=some (.cells c el f))(hi:V.ab b o=none):
  Sat (V.upd b (.cells (c.setIfInBounds o v) el f)) (w.setCell ⟨b,o,none⟩ v):=by
 have hb:=h.own _ _ ho;have hlt:=h.lt ho;have hm:(w.setCell ⟨b,o,none⟩ v).heap=w.heap.setIfInBounds b (.cells (c.setIfInBounds o v) el f):=by
  unfold Xn;apply Array.ext_getElem?;intro i;by_cases cC:b=i
  ·subst cC;rw[Wo,Tb hlt];simp[hb]
  ·simp[Wo,cC,SV cC]
 refine⟨λb' o' v' e=> ?_,λb' x e=> ?_⟩
 ·have:=h.ab _ _ _ e;simp only[View.upd]at e;by_cases AA:b=b'
  ·subst AA;have L7:o≠o':=(by intro x;subst x;rw[hi]at e;cases e);simp only[UA,hb]at this;simp only[UA,hm,Tb hlt,SV L7];exact this
  ·simp only[UA,hm,SV AA];exact this
 ·simp only[View.upd]at e;rw[hm];by_cases AA:b'=b
  ·subst AA;simp at e;rw[Tb hlt,e]
  ·simp only[AA,if_false]at e;rw[SV (Ne.symm AA)];exact h.own _ _ e
theorem Ey(w:Tp)(a:U_)(v:SP):(w.setCell a v).heap.size=w.heap.size:=by simp[Xn]
theorem wG(w:Tp)(a:U_)(v:SP){b:Nat}(h:a.block≠b):(w.setCell a v).heap[b]?=w.heap[b]?:=by simp[Xn,Wo,h]
theorem aq4{m:Mode}{b o:Nat}{v:SP}{k:Sem α}{c:Array SP}{el:TypeId}{lo hi:Nat}(ho:V.own b=some (.cells c el (lo,hi)))(cK:o<c.size)(cC:V.ab b o=none)(hv:v.one=true)
  (hf:¬(lo<=o/\o<hi)) (kj:V.role.group≠some b\/m=.atomic) (Lu:V.role.chan≠some b) (h:aQ P (V.upd b (.cells (c.setIfInBounds o v) el (lo,hi))) k K Kp):aQ P V (.store m ⟨b,o,none⟩ v k) K Kp:=by
 refine .cont λw hw=>⟨#[⟨.cell ⟨b,o,none⟩,true,m== .atomic⟩],w.setCell ⟨b,o,none⟩ v,_,k,?_,λeR=> ?_,h⟩
 ·rw[tV (by simp)];refine⟨hw.aek ho cC,rfl,rfl,rfl,by rw[Ey];exact SO _,λb' dI e=>wG _ _ _ (λx=> ?_),λb' dI e=> ?_,λ_ _ _ e=>e,λ_ _ _ e=> .inl e,λev cr=> ?_,by rw[Qk];rfl,rfl,λc' x bi e=>by rw[<- e];simp only[View.upd,ite_eq_right_iff];intro x';subst x';exact absurd bi Lu,λev cr=>by simp at cr;subst cr;show b<_;rw[Ey];exact hw.lt ho⟩
  ·have x':b=b':=x;subst x';rw[ho]at e;cases e
  ·have:b'≠b:=(by intro x;subst x;rw[ho]at e;cases e);simp only[View.upd,this,if_false];exact e
  ·simp only[TM,SK,SZ,or_false]at cr;subst cr;exact⟨.inr ⟨by show V.own b≠none;rw[ho];simp,cC⟩,kj.elim .inr (λx=> .inl (by subst x;rfl))⟩
 ·have hc:w.cell? ⟨b,o,none⟩=some c[o]:=by simp[UA,hw.own _ _ ho,cK]
  have hfz:w.frozen? ⟨b,o,none⟩=false:=by
   simp only[ZU,hw.own _ _ ho];simpa using hf
  cases v<;>simp_all[-TB,VI,Value.one]
theorem oQ{x:Obj}{k:Nat->Sem α}(h:∀r,V.fresh r->aQ P (V.upd r x) (k r) K Kp):aQ P V (.new x k) K Kp:=by
 refine .cont λw hw=>⟨#[],{w with heap:=w.heap.push x},V.upd w.heap.size x,k w.heap.size,?_,λeR=>by simp[-TB,VI],h _ (hw.fresh (SO _))⟩;have ji:=hw.fresh (SO w.heap.size);have aF:∀{b y},V.own b=some y->b≠w.heap.size:=λe x=>by rw[x,ji.1]at e;cases e
 refine⟨⟨λb o v e=> ?_,λb y e=> ?_⟩,rfl,rfl,rfl,by simp,λb hb _=> ?_,λb hb e=> ?_,λ_ _ _ e=>e,λ_ _ _ e=> .inl e,by simp[fH],rfl,rfl,λc' x bi e=>by rw[<- e];simp only[View.upd,ite_eq_right_iff];intro x';exact absurd x' (aF e),by simp[fH]⟩
 ·have hlt:=hw.DX e;have:=hw.ab _ _ _ e;simp only[UA,YC hlt]at this⊢;simpa[UA,hlt]using this
 ·simp only[View.upd]at e;by_cases hb:b=w.heap.size
  ·subst hb;simp at e;simp[e]
  ·simp only[hb,if_false]at e;have:=hw.own _ _ e;have hlt:=hw.lt e;simp only[YC hlt];simpa[hlt]using this
 ·simp[Xl,Wc hb]
 ·simp only[View.upd,Wc hb,if_false];exact e
theorem ada{q:Question}{k:Nat->Sem α}(h0:q.forced=true->aQ P V (k 0) K Kp)(h:q.forced=false->∀t,aQ P V (k (q.cut t)) K Kp):aQ P V (.choose q k) K Kp:=by
 cases hf:q.forced with
 |true=>exact .cont λw hw=>⟨#[],w,V,k 0,by simpa[fH]using dh.idle hw,λeR=>by simp[-TB,VI,hf],h0 hf⟩
 |false=>exact .cont λw hw=>⟨#[],{w with drawn:=w.drawn+1},V,_,by simpa[fH]using dh.draw hw (w.drawn+1),λeR=>by simp[-TB,VI,hf],h hf (w.tape w.drawn q)⟩
theorem qK{k:SI->Sem α}(h:aQ P V (k P) K Kp):aQ P V (.program k) K Kp:=
 .cont λw hw=>⟨#[],w,V,k P,by simpa[fH]using dh.idle hw,λeR=>by simp[-TB,VI],h⟩
theorem aq1{k:Sem α}(h:aQ P V k K Kp):aQ P V (.mark .noRoom k) K Kp:=
 .cont λw hw=>⟨#[⟨.mark .noRoom,false,true⟩],w,V,k,by
  rw[tV (by simp)];exact⟨hw,rfl,rfl,rfl,SO _,λ_ _ _=>rfl,λ_ _ e=>e,λ_ _ _ e=>e,λ_ _ _ e=> .inl e,λev cr=>by simp at cr;subst cr;trivial,by simp[deafBehind],rfl,λ_ _ _ e=>e,λev cr=>by simp at cr;subst cr;trivial⟩,
  λeR=>by simp[-TB,VI],h⟩
theorem aq0{m:Mark}{k:Sem α}(hm:m=.disable\/m=.enable)(h:aQ P {V with deaf:=deafBehind V.deaf #[⟨.mark m,false,true⟩]} k K Kp):aQ P V (.mark m k) K Kp:=
 .cont λw hw=>⟨#[⟨.mark m,false,true⟩],w,_,k,by
  rw[tV (by rcases hm with rfl|rfl<;>simp)];exact⟨⟨hw.ab,hw.own⟩,rfl,rfl,rfl,SO _,λ_ _ _=>rfl,λ_ _ e=>e,λ_ _ _ e=>e,λ_ _ _ e=> .inl e,λev cr=>by simp at cr;subst cr;rcases hm with rfl|rfl<;>rfl,rfl,rfl,λ_ _ _ e=>e,λev cr=>by simp at cr;subst cr;rcases hm with rfl|rfl<;>trivial⟩,
  λeR=>by simp[-TB,VI],h⟩
theorem aq3{m:Mark}{a:U_}{k:Sem α}(hm:m=.read a\/m=.write a)(ha:V.own a.block≠none/\V.ab a.block a.off=none)(h:aQ P V k K Kp):aQ P V (.mark m k) K Kp:=
 .cont λw hw=>⟨#[⟨.mark m,false,true⟩],w,_,k,by
  rw[tV (by rcases hm with rfl|rfl<;>simp)];exact⟨⟨hw.ab,hw.own⟩,rfl,rfl,rfl,SO _,λ_ _ _=>rfl,λ_ _ e=>e,λ_ _ _ e=>e,λ_ _ _ e=> .inl e,λev cr=>by simp at cr;subst cr;rcases hm with rfl|rfl<;>exact .inr ha,
   by rcases hm with rfl|rfl<;>simp[deafBehind],rfl,λ_ _ _ e=>e,λev cr=>by
    simp at cr;subst cr;have:a.block<w.heap.size:=by
     cases e:V.own a.block with
     |none=>exact absurd e ha.1
     |some y=>exact hw.lt e
    rcases hm with rfl|rfl<;>exact this⟩,
  λeR=>by simp[-TB,VI],h⟩
def _root_.Go.Obj.ve:Obj->Bool
 |.cells .. =>true
 |_=>false
theorem nU{r:Nat}{x:Obj}{k:Obj->Sem α}(ho:V.own r=some x)(hx:x.ve=false)(hc:x.isChan=false)(kj:V.role.chan≠some r)(h:aQ P V (k x) K Kp):aQ P V (.getObj r k) K Kp:=
 .cont λw hw=>⟨#[⟨.obj r,false,false⟩],w,V,k x,by
  rw[tV (by simp)];exact⟨hw,rfl,rfl,rfl,SO _,λ_ _ _=>rfl,λ_ _ e=>e,λ_ _ _ e=>e,λ_ _ _ e=> .inl e,λev cr=>by simp at cr;subst cr;exact⟨⟨rfl,.inr (by rw[ho];simp)⟩,kj⟩,by rw[Ql],rfl,λ_ _ _ e=>e,λev cr=>by simp at cr;subst cr;exact hw.lt ho⟩,
  λeR=>by
   have:=hw.own _ _ ho;cases x<;>simp_all[-TB,VI,Obj.ve,aj_],h⟩
theorem Sat.as0{V:View}{w:Tp}(h:Sat V w){r:Nat}{x y:Obj}(ho:V.own r=some x)(hx:x.ve=false):Sat (V.upd r y) {w with heap:=w.heap.setIfInBounds r y}:=by
 have hlt:=h.lt ho;refine⟨λb o v e=> ?_,λb z e=> ?_⟩
 ·have:=h.ab _ _ _ e;have hb:r≠b:=by
   intro e';subst e';simp only[UA,h.own _ _ ho]at this;cases x<;>simp_all[Obj.ve]
  simp only[UA,SV hb]at this⊢;exact this
 ·simp only[View.upd]at e;by_cases hb:b=r
  ·subst hb;simp at e;simp[hlt,e]
  ·simp only[hb,if_false]at e;simp only[SV (Ne.symm hb)];exact h.own _ _ e
theorem zm{r:Nat}{x y:Obj}{k:Sem α}(ho:V.own r=some x)(hx:x.ve=false)(hy:y.isChan=false)(kj:V.role.chan≠some r)(h:aQ P (V.upd r y) k K Kp):aQ P V (.setObj r y k) K Kp:=
 .cont λw hw=>⟨#[⟨.obj r,true,false⟩],{w with heap:=w.heap.setIfInBounds r y},_,k,by
  rw[tV (by simp)];refine⟨hw.as0 ho hx,rfl,rfl,rfl,by simp,λb hb e=> ?_,λb hb e=> ?_,λ_ _ _ e=>e,λ_ _ _ e=> .inl e,λev cr=>by simp at cr;subst cr;exact⟨⟨rfl,.inr (by rw[ho];simp)⟩,kj⟩,by rw[Ql];rfl,rfl,λc' x bi e=>by rw[<- e];simp only[View.upd,ite_eq_right_iff];intro x';subst x';exact absurd bi kj,λev cr=>by simp at cr;subst cr;show r<_;simp;exact hw.lt ho⟩
  ·exact SV (λx'=>by subst x';rw[ho]at e;cases e)
  ·have:b≠r:=(by intro x';subst x';rw[ho]at e;cases e);simp only[View.upd,this,if_false];exact e,
  λeR=>by
   have:=hw.own _ _ ho;cases x<;>simp_all[-TB,VI,Obj.ve,aj_],h⟩
theorem aqT{s:Sem α}{f:α->Sem β}{K:β->View->Prop}(h:aQ P V s (λx V'=>aQ P V' (f x) K Kp) Kp):aQ P V (s.bind f) K Kp:=by
 intro w hw eR;obtain⟨es,w',V',h1,h2⟩:=h w hw eR;have key:(s.bind f).runT P w eR=match s.runT P w eR with
   |(.ok x w',e)=>(f x).runT P w' e
   |(.halt h w',e)=>(.halt h w',e):=by
  have hr:=Sem.run_bind' P s f w;have he:=Sem.events_bind' P s f w eR;rw[TB,TB];have yF:(s.bind f).run P w=_:=hr;have kg:(s.bind f).events P w eR=_:=he;rw[yF,kg];cases s.run P w<;>simp[Result.andThen,Result.evThen]
 rcases h2 with⟨x,hx,hK⟩|⟨v,hv,hKp⟩
 ·obtain⟨uz,ON,aS,h3,h4⟩:=hK w' h1.sat (eR++es);refine⟨es++uz,ON,aS,by rw[Nv];exact h1.trans h3,?_⟩;rw[key,hx,<- Xv];exact h4
 ·refine⟨es,w',V',h1,.inr ⟨v,?_,hKp⟩⟩;rw[key,hv]
theorem az{s:Sem α}{f:α->Sem β}{K:β->View->Prop}(h:aQ P V s (λx V'=>aQ P V' (f x) K Kp) Kp):aQ P V (s>>=f) K Kp:=aqT h
end
open Go.Conc
def zH (e:Ut):Prop:=∀m,e.loc=.mark m->(m=.disable\/m=.enable)->e.sync=true
theorem mU.Ky{V:View}{n:Nat}{e:Ut}(h:mU V n e):zH e:=by
 intro m hm hd;obtain⟨l,wr,s⟩:=e;simp only at hm;subst hm;rcases hd with rfl|rfl
 ·simpa[mU]using h
 ·simpa[mU]using h
theorem aho(d:Nat)(x:Array Ut)(e:Ut):deafBehind d (x.push e)=deafBehind (deafBehind d x) #[e]:=by
 simp[deafBehind]
theorem ahp{d:Nat}{e:Ut}(hg:zH e)(hs:e.sync=false):deafBehind d #[e]=d:=by
 obtain⟨l,wr,s⟩:=e;cases l with
 |mark m=>
  cases m<;>first
   |(have:=hg _ rfl (.inl rfl);simp_all)
   |(have:=hg _ rfl (.inr rfl);simp_all)
   |simp[deafBehind]
 |_=>simp[deafBehind]
theorem aqR(P:SI)(fn:TQ)(es:Array Ut)(hg:∀e∈fH es,zH e)(d:Nat):(∀e∈seen P fn es,e∈fH es)/\deafBehind d (seen P fn es)=deafBehind d (fH es):=by
 rw[seen_def];obtain⟨l⟩:=es;have key:∀(l:List Ut)(q:Bool)(kept ref:Array Ut),(∀e∈fH l.toArray,zH e)->(∀e∈kept,e∈ref)->deafBehind d kept=deafBehind d ref->
   (∀e∈(l.foldl (seenStep λf=>(P.funcs[f]?).any (·.norace)) (q,kept)).2,e∈ref++fH l.toArray)/\
   deafBehind d (l.foldl (seenStep λf=>(P.funcs[f]?).any (·.norace)) (q,kept)).2=deafBehind d (ref++fH l.toArray):=by
  intro l;induction l with
  |nil=>intro q kept ref _ h1 h2;simpa[fH]using⟨h1,h2⟩
  |cons e l ih=>
   intro q kept ref hg h1 h2;rw[U4];by_cases hx:∃f,e.loc=.mark (.extern f)
   ·obtain⟨f,hf⟩:=hx;have e1:fH (e::l).toArray=fH l.toArray:=(by simp[fH,hf]);rw[e1]at hg⊢;have e3:seenStep (λf=>(P.funcs[f]?).any (·.norace)) (q,kept) e=((P.funcs[f]?).any (·.norace),kept):=(by simp[seenStep,hf]);rw[e3];exact ih _ kept ref hg h1 h2
   ·have aF:∀f,e.loc≠ .mark (.extern f):=λf hf=>hx ⟨f,hf⟩;have e1:fH (e::l).toArray=#[e]++fH l.toArray:=by
     have:(e::l).toArray=#[e]++l.toArray:=(by simp);rw[this,Nv,tV aF]
    have qn:zH e:=hg e (by rw[e1];simp);have ki:∀x∈fH l.toArray,zH x:=λx hx=>hg x (by rw[e1];exact Uw.2 (.inr hx));have e2:seenStep (λf=>(P.funcs[f]?).any (·.norace)) (q,kept) e=(q,if q&& !e.sync then kept else kept.push e):=by
     unfold seenStep;dsimp only;split
     ·rename_i f hf;exact absurd hf (aF f)
     ·rfl
    rw[e1,<- Xv];rw[e2];refine ih q _ (ref++#[e]) ki (λx hx=> ?_) ?_
    ·split at hx
     ·exact Uw.2 (.inl (h1 x hx))
     ·rcases Array.mem_push.1 hx with hx|rfl
      ·exact Uw.2 (.inl (h1 x hx))
      ·exact Uw.2 (.inr (by simp))
    ·split
     ·rename_i hq;simp only[Tl,T1]at hq;rw[Jx,ahp qn hq.2,h2]
     ·rw[Jx,aho,h2]
 have:=key l ((P.funcs[fn]?).any (·.norace)) #[] #[] hg (by simp) rfl;simpa only[Xu]using this
theorem dh.seen{V V':View}{w w':Tp}{es:Array Ut}(h:dh V w V' w' (fH es))(P:SI)(fn:TQ):dh V w V' w' (seen P fn es):=by
 have:=aqR P fn es (λe he=>(h.eZ e he).Ky) V.deaf;exact⟨h.sat,h.tape,h.os,h.output,h.size,h.frame,h.own,h.ab,h.kI,λe he=>h.eZ e (this.1 e he),by rw[h.deaf,this.2],h.role,h.chan,λe he=>h.low e (this.1 e he)⟩
open Go.Conc
inductive Out where
 |ret (v:SP)
 |panic (chain:List ZV)
def Leaves (P:SI)(fr:Uc)(f:TQ)(kd:Xi)(o:Out)(V:View):Prop:=
 fr.fn=f/\fr.defers=[]/\fr.kind=kd/\∃fn,P.funcs[f]?=some fn/\
  match o with
  |.ret v=>fr.mode=.returning/\aQ P V (results fn fr.tmps) (λx V'=>x=v/\V'=V) (λ_ _=>False)
  |.panic ch=>fr.mode=.panicking ch
def Body (lv:Bool)(P:SI)(f:TQ)(args:Array SP)(kd:Xi)(V:View)(R:Out->View->Prop):Prop:=
 ∀(main:Bool)(J:View->SG->Prop),Closed lv P main J->∀cs,(∀o V' fr,R o V'->Leaves P fr f kd o V'->J V' (G fr cs))->J V (G (Frame.enter P f args kd) cs)
def mY (lv:Bool)(P:SI)(fr:Uc)(V:View)(R:Out->View->Prop):Prop:=
 ∀(main:Bool)(J:View->SG->Prop),Closed lv P main J->∀c cs,(∀v V',R (.ret v) V'->J V' (G (c.finish v) cs))->(∀ch V',R (.panic ch) V'->J V' (G (c.raise ch) cs))->J V (G fr (c::cs))
theorem Body.mono{lv:Bool}{P:SI}{f:TQ}{args:Array SP}{kd:Xi}{V:View}{R R':Out->View->Prop}(h:Body lv P f args kd V R)(hr:∀o V,R o V->R' o V):Body lv P f args kd V R':=
 λmain J C cs hk=>h main J C cs λo V' fr r hl=>hk o V' fr (hr _ _ r) hl
theorem Body.ghost{lv:Bool}{P:SI}{f:TQ}{args:Array SP}{kd:Xi}{V V':View}{R:Out->View->Prop}(g:dU V V')(h:Body lv P f args kd V' R):Body lv P f args kd V R:=
 λmain J C cs hk=>C.ghost _ _ _ g (h main J C cs hk)
theorem mY.mono{lv:Bool}{P:SI}{fr:Uc}{V:View}{R R':Out->View->Prop}(h:mY lv P fr V R)(hr:∀o V,R o V->R' o V):mY lv P fr V R':=
 λmain J C c cs h1 h2=>h main J C c cs (λv V' r=>h1 v V' (hr _ _ r)) (λv V' r=>h2 v V' (hr _ _ r))
theorem mY.ghost{lv:Bool}{P:SI}{fr:Uc}{V V':View}{R:Out->View->Prop}(g:dU V V')(h:mY lv P fr V' R):mY lv P fr V R:=
 λmain J C c cs h1 h2=>C.ghost _ _ _ g (h main J C c cs h1 h2)
theorem aQ.runs{P:SI}{α:Type}{V:View}{s:Sem α}{K:α->View->Prop}{Kp:SP->View->Prop}(h:aQ P V s K Kp){w:Tp}(hw:Sat V w):
  ∃es w' V',dh V w V' w' (fH es)/\s.events P w #[]=es/\((∃x,s.run P w=.ok x w'/\K x V')\/(∃v,s.run P w=.halt (.panic v) w'/\Kp v V')):=by
 obtain⟨es,w',V',h1,h2⟩:=h w hw #[];refine⟨es,w',V',h1,?_⟩;simp only[TB,U7,Xu]at h2;rcases h2 with⟨x,⟨a,b⟩,c⟩|⟨x,⟨a,b⟩,c⟩
 ·exact⟨b,.inl ⟨x,a,c⟩⟩
 ·exact⟨b,.inr ⟨x,a,c⟩⟩
theorem ano{lv:Bool}{P:SI}{main:Bool}{J:View->SG->Prop}(C:Closed lv P main J){fr c:Uc}{cs:List Uc}{f:TQ}{v:SP}{V:View}(h:Leaves P fr f .normal (.ret v) V)(hJ:J V (G (c.finish v) cs)):J V (G fr (c::cs)):=by
 obtain⟨rfl,hd,hk,fn,hf,hm,hr⟩:=h;refine C.step _ _ rfl λw hw=> ?_;obtain⟨es,w',V',h1,h2,h3⟩:=hr.runs hw;rcases h3 with⟨x,h3,rfl,rfl⟩|⟨_,_,h⟩
 ·exact⟨G (c.finish x) cs,w',seen P fr.fn es,V',by simp[G,stepG,unwind,doReturn,hm,hd,hk,hf,h3,h2,T6],h1.seen P fr.fn,hJ⟩
 ·exact h.elim
theorem ann{lv:Bool}{P:SI}{main:Bool}{J:View->SG->Prop}(C:Closed lv P main J){fr c:Uc}{cs:List Uc}{f:TQ}{kd:Xi}{ch:List ZV}{V:View}(h:Leaves P fr f kd (.panic ch) V)(hJ:J V (G (c.raise ch) cs)):J V (G fr (c::cs)):=by
 obtain⟨rfl,hd,hk,fn,hf,hm⟩:=h;refine C.idle rfl (λw=> ?_) hJ;simp[G,stepG,unwind,ZX,hm,hd,hf]
theorem Body.runs{lv:Bool}{P:SI}{f:TQ}{args:Array SP}{V:View}{R:Out->View->Prop}(h:Body lv P f args .normal V R):mY lv P (Frame.enter P f args .normal) V R:=by
 intro main J C c cs h1 h2;refine h main J C (c::cs) λo V' fr r hl=> ?_;cases o with
 |ret v=>exact ano C hl (h1 v V' r)
 |panic ch=>exact ann C hl (h2 ch V' r)
def mD (lv:Bool)(P:SI)(r:Option Nat)(o:Tu)(a:Act)(next:Act->View->Prop)(Q:Ex->Act->View->Prop)(nx:Next)(V:View):Prop:=
 match nx with
 |.value v=>next (a.put o.dst v) V
 |.skip=>next (a.put o.dst undef) V
 |.defer d=>r=none/\next ({a with defers:=d::a.defers}.put o.dst undef) V
 |.enter f args=>Body lv P f args .normal V fun
   |.ret v,V'=>next (a.put o.dst v) V'
   |.panic ch,V'=>Q (.panic ch) a V'
 |.round l f tmps assign body=>mY lv P (Xd l f tmps assign body .normal) V fun
   |.ret v,V'=>next (a.put o.dst v) V'
   |.panic ch,V'=>Q (.panic ch) a V'
 |_=>False
def mi:Op->Bool
 |.defer _=>true
 |_=>false
def xD (lv:Bool)(P:SI)(r:Option Nat)(o:Tu)(a:Act)(V:View)(next:Act->View->Prop)(Q:Ex->Act->View->Prop):Prop:=
 (r=none\/mi o.op=false)/\aQ P V (execOp a.eval o) (mD lv P r o a next Q) (λv V'=>Q (.panic [{v,recovered:=false}]) a V')
def vV (lv:Bool)(P:SI)(o:Tu)(a:Act)(V:View)(next:Act->View->Prop):Prop:=match o.op with
 |.send ch x=>∃(c Wg:Nat)(sp:Spec)(S:List Spec)(B:Nat->Bool),a.eval ch=.chan (some c)/\V.role=.work c Wg (sp::S)/\V.deaf=0/\sp (a.eval x) V.ab (λb=>if B b then V.own b else none)/\
   next (a.put o.dst undef) {V with own:=λb=>if B b then none else V.own b,role:=.work c Wg S}
 |.go cl=>lv=true/\∃(x:Tj)(f:TQ)(fa ca:Array SP),cl.callee=.value x/\a.eval x=.func (.func f) fa ca/\V.deaf=0/\
   ((∃(c Wg:Nat)(Ss:List (List Spec))(sp:Spec)(S:List Spec),V.role=.fork c Wg Ss/\V.own c=some (.chan 0 #[] false 0 0 false)/\V.own Wg=some (wgBlock P (((Ss.length+1:Nat):Int)* 4294967296) 0)/\Ss.length<4/\(∀o,V.ab Wg o=none)/\
    (∀J0,zC P false J0->J0 {ab:=V.ab,own:=λ_=>none,deaf:=0,role:=.work c Wg (sp::S)} (born P ⟨.fn (.func f) ca,fa++cl.args.map a.eval⟩))/\next (a.put o.dst undef) {V with role:=.fork c Wg (Ss++[sp::S])})\/
    (∃(c Wg:Nat)(Ss:List (List Spec)),V.role=.fork c Wg Ss/\c≠Wg/\V.own c=some (.chan 0 #[] false 0 0 false)/\V.own Wg=some (wgBlock P (((Ss.length:Nat):Int)* 4294967296) 0)/\(∀o,V.ab c o=none)/\(∀o,V.ab Wg o=none)/\
    IR P V.ab c Wg (born P ⟨.fn (.func f) ca,fa++cl.args.map a.eval⟩)/\next (a.put o.dst undef) {V with own:=λb=>if b=c\/b=Wg then none else V.own b,role:=.recv c Wg Ss}))
 |.recv t ch true=>lv=true/\∃(c Wg:Nat)(Ss:List (List Spec))(d:ChanDir)(el:TypeId)(i:Wp)(z:SP),a.eval ch=.chan (some c)/\P.underlying t=some (.chan d el)/\P.info? el=some i/\i.zero=some z/\V.role=.recv c Wg Ss/\V.deaf=0/\
   (∀(i:Nat)(sp:Spec)(S:List Spec)(v:SP)(Im:cx)(Ow:Ca),Ss[i]?=some (sp::S)->sp v Im Ow->(∀b,V.own b≠none->Ow b=none)->(∀b o,V.own b≠none->Im b o≠none->V.ab b o≠none)->(∃w,Sat V w/\(∀b o x,Im b o=some x->w.cell? ⟨b,o,none⟩=some x)/\∀b x,Ow b=some x->w.heap[b]?=some x)->
    next (a.put o.dst (.tuple #[v,.bool true])) {V with ab:=λb o=>match V.ab b o with|some x=>some x|none=>Im b o,own:=λb=>match V.own b with|some x=>some x|none=>Ow b,role:=.recv c Wg (Ss.set i S)})/\
   ((∀S∈Ss,S=[])->next (a.put o.dst (.tuple #[z,.bool false])) {V with role:=.plain})
 |_=>False
theorem vV.mono{lv:Bool}{P:SI}{o:Tu}{a:Act}{V:View}{N N':Act->View->Prop}(h:vV lv P o a V N)(hN:∀a V,N a V->N' a V):vV lv P o a V N':=by
 unfold vV at h⊢;split at h
 ·obtain⟨c,Wg,sp,S,B,h1,h2,h3,h4,h5⟩:=h;exact⟨c,Wg,sp,S,B,h1,h2,h3,h4,hN _ _ h5⟩
 ·obtain⟨tF,x,f,fa,ca,h1,h2,h3,h4⟩:=h;refine⟨tF,x,f,fa,ca,h1,h2,h3,h4.imp ?_ ?_⟩
  ·rintro⟨c,Wg,Ss,sp,S,q1,q2,q3,q4,q5,q6,q7⟩
   exact⟨c,Wg,Ss,sp,S,q1,q2,q3,q4,q5,q6,hN _ _ q7⟩
  ·rintro⟨c,Wg,Ss,q1,q2,q3,q4,q5,q6,q7,q8⟩
   exact⟨c,Wg,Ss,q1,q2,q3,q4,q5,q6,q7,hN _ _ q8⟩
 ·obtain⟨tF,c,Wg,Ss,d,el,ti,z,h1,h2,h3,h4,h5,h6,h7,h8⟩:=h;exact⟨tF,c,Wg,Ss,d,el,ti,z,h1,h2,h3,h4,h5,h6,λi sp S v Im Ow r1 r2 r3 r4 r5=>hN _ _ (h7 i sp S v Im Ow r1 r2 r3 r4 r5),λhS=>hN _ _ (h8 hS)⟩
 ·exact h
def B_ (lv:Bool)(P:SI)(r:Option Nat)(o:Tu)(a:Act)(V:View)(next:Act->View->Prop)(Q:Ex->Act->View->Prop):Prop:=xD lv P r o a V next Q\/vV lv P o a V next
def dp (lv:Bool)(P:SI)(r:Option Nat)(ops:Array Tu)(Q:Ex->Act->View->Prop):List Nat->Act->View->Prop
 |[],a,V=>Q .normal a V
 |i::rest,a,V=>
  match ops[i]?with
  |none=>dp lv P r ops Q rest a V
  |some o=>if Ti o (yielded ops a.tmps)then B_ lv P r o a V (dp lv P r ops Q rest) Q else dp lv P r ops Q rest (a.put o.dst undef) V
theorem Bh(b:Uc)(a:Act)(ops:Array Tu)(i:Nat)(rest:List Nat)(k:List WZ)(v:SP):
  (on b a (.inRegion ops (i::rest)::k)).finish v=on b (a.put ((ops[i]?).bind (·.dst)) v) (.inRegion ops rest::k):=by
 cases h:(ops[i]?).bind (·.dst)<;>simp[Frame.finish,on,X6,h]
theorem acW{P:SI}{main:Bool}{b:Uc}{a:Act}{k:List WZ}{cs:List Uc}{w:Tp}{ops:Array Tu}{i:Nat}{rest:List Nat}(h:((ops[i]?).map (Ti · (yielded ops a.tmps))).getD false=false):
  stepG P main (G (on b a (.inRegion ops (i::rest)::k)) cs) w=.go (G (on b (a.put ((ops[i]?).bind (·.dst)) undef) (.inRegion ops rest::k)) cs) w #[]:=by
 rw[<- Bh];simp only[on]at*;simp[G,stepG,Ug,h]
theorem s_op{P:SI}{main:Bool}{b:Uc}{a:Act}{k:List WZ}{cs:List Uc}{w:Tp}{ops:Array Tu}{i:Nat}{rest:List Nat}{o:Tu}(ho:ops[i]?=some o)(hw:Ti o (yielded ops a.tmps)=true)(hd:b.roundOf=none\/mi o.op=false):
  stepG P main (G (on b a (.inRegion ops (i::rest)::k)) cs) w=stepG.apply P true (on b a (.inRegion ops (i::rest)::k)) cs none (execOp a.eval o) w:=by
 have he:=aoE b a (.inRegion ops (i::rest)::k);simp only[on]at he;rcases hd with hd|hd
 ·rw[hd]at he;simp[G,stepG,Ug,Y7,YP,on,ho,hw,he,hd]
 ·cases hr:b.roundOf with
  |none=>
   rw[hr]at he;simp[G,stepG,Ug,Y7,YP,on,ho,hw,he,hr]
  |some l=>cases ay:o.op<;>simp_all[G,stepG,Ug,Y7,YP,on,mi]
theorem ars{lv:Bool}{P:SI}{main:Bool}{J:View->SG->Prop}(C:Closed lv P main J){ops:Array Tu}{i:Nat}{rest:List Nat}{o:Tu}{a:Act}{V:View}{N:Act->View->Prop}{b:Uc}{k:List WZ}{cs:List Uc}(hb:b.kind≠ .early)
  (ho:ops[i]?=some o) (hw:Ti o (yielded ops a.tmps)=true) (h:vV lv P o a V N) (hN:∀a' V',N a' V'->J V' (G (on b a' (.inRegion ops rest::k)) cs)):J V (G (on b a (.inRegion ops (i::rest)::k)) cs):=by
 have jV:((on b a (.inRegion ops (i::rest)::k)).kind==Va)=false:=by simpa[on]using hb
 have dY:∀v,(on b a (.inRegion ops (i::rest)::k)).finish v=on b (a.put o.dst v) (.inRegion ops rest::k):=by
  intro v;rw[Bh,ho];rfl
 have Mo:∀v,T8 (G (on b a (.inRegion ops (i::rest)::k)) cs) v=G (on b (a.put o.dst v) (.inRegion ops rest::k)) cs:=λv=>by rw[<- dY v];rfl
 unfold vV at h;split at h
 ·rename_i ch x ay;obtain⟨c,Wg,sp,S,B,h1,h2,h3,h4,h5⟩:=h;have aR:∀w,stepG P main (G (on b a (.inRegion ops (i::rest)::k)) cs) w=.comm (G (on b a (.inRegion ops (i::rest)::k)) cs) #[scase c (a.eval x) (.tuple #[])] true .send w #[]:=λw=>by
   rw[s_op ho hw (.inr (by rw[ay];rfl))];have e:execOp a.eval o=pure (.comm #[scase c (a.eval x) (.tuple #[])] true .send):=by
    unfold execOp;simp only[ay];rw[h1];rfl
   rw[e];simp only[stepG.apply,TB,if_true,jV,T6,aa_,ZL,ab'];rfl
  exact C.send _ _ c Wg sp S (a.eval x) (.tuple #[]) B h2 h3 rfl rfl (λw _=>aR w) h4 (by rw[Mo];exact hN _ _ h5)
 ·rename_i cl ay;obtain⟨tF,x,f,fa,ca,h1,h2,h3,h4⟩:=h;have aR:∀w,stepG P main (G (on b a (.inRegion ops (i::rest)::k)) cs) w=.spawn (G (on b (a.put o.dst undef) (.inRegion ops rest::k)) cs) (born P ⟨.fn (.func f) ca,fa++cl.args.map a.eval⟩) w #[]:=λw=>by
   rw[s_op ho hw (.inr (by rw[ay];rfl)),<- dY undef];have e:execOp a.eval o=(pure (.spawn ⟨.fn (.func f) ca,fa++cl.args.map a.eval⟩):Sem Next):=by
    unfold execOp;simp only[ay];unfold resolve;simp only[h1,h2];rfl
   rw[e];simp only[stepG.apply,TB,if_true,jV,T6,aa_,ZL,ab'];simp[born,G,on];exact ab' _ _
  rcases h4 with⟨c,Wg,Ss,sp,S,q1,q2,q3,q4,q5,q6,q7⟩|⟨c,Wg,Ss,q1,q2,q3,q4,q5,q6,q7,q8⟩
  ·exact(C.more tF).F1 _ _ _ _ c Wg Ss sp S q1 h3 rfl q2 q3 q4 q5 (λw _=>aR w) rfl q6 (hN _ _ q7)
  ·exact(C.more tF).F0 _ _ _ _ c Wg Ss q1 h3 rfl q2 q3 q4 q5 q6 (λw _=>aR w) rfl q7 (hN _ _ q8)
 ·rename_i t ch ay;obtain⟨tF,c,Wg,Ss,d,el,ti,z,h1,h2,h3,h4,h5,h6,h7,h8⟩:=h;have aR:∀w,stepG P main (G (on b a (.inRegion ops (i::rest)::k)) cs) w=.comm (G (on b a (.inRegion ops (i::rest)::k)) cs) #[rcase c z] true (.recv true) w #[]:=λw=>by
   rw[s_op ho hw (.inr (by rw[ay];rfl))];have hu:(underlying t).run P w=.ok (.chan d el) w:=run_underlying h2 w;have hi:(typeInfo el).run P w=.ok ti w:=(by simp[typeInfo,h3]);have hz:(zeroValue el).run P w=.ok z w:=(by simp[zeroValue,hi,h4]);have vb:(zeroValue el).events P w #[]=#[]:=(by simp[zeroValue,hi,h4]);have e1:(execOp a.eval o).run P w=.ok (.comm #[rcase c z] true (.recv true)) w:=by
    unfold execOp;simp only[ay];rw[h1];simp[hu,hz,rcase]
   have e2:(execOp a.eval o).events P w #[]=#[]:=by
    unfold execOp;simp only[ay];rw[h1];simp[hu,hz,vb]
   simp only[stepG.apply,TB,if_true,jV,T6,e1,e2,ab'];rfl
  refine(C.more tF).recv _ _ c Wg Ss z h5 h6 rfl rfl (λw _=>aR w) (λi sp S v Im Ow r1 r2 r3 r4 r5=> ?_) λhS=> ?_
  ·rw[Mo];exact hN _ _ (h7 i sp S v Im Ow r1 r2 r3 r4 r5)
  ·rw[Mo];exact hN _ _ (h8 hS)
 ·exact h.elim
theorem wp_ops{lv:Bool}{P:SI}{r:Option Nat}{ops:Array Tu}{Q:Ex->Act->View->Prop}(l:List Nat):
  ∀(a:Act)(V:View),dp lv P r ops Q l a V->∀(main:Bool)(J:View->SG->Prop),Closed lv P main J->∀(b:Uc)(k:List WZ)(cs:List Uc),b.kind≠ .early->b.roundOf=r->
   (∀e a' V',Q e a' V'->vT J b k cs e a' V')->J V (G (on b a (.inRegion ops l::k)) cs):=by
 induction l with
 |nil=>exactλa V h main J C b k cs _ _ hL=>C.idle rfl (λ_=>aqJ) (hL _ _ _ h)
 |cons i rest ih=>
  intro a V h main J C b k cs hb hr hL;simp only[dp]at h;cases ho:ops[i]?with
  |none=>
   simp only[ho]at h;refine C.idle rfl (λw=>acW (by simp[ho])) ?_;simp only[ho,Option.bind_none,X6];exact ih a V h main J C b k cs hb hr hL
  |some o=>
   simp only[ho]at h;by_cases hw:Ti o (yielded ops a.tmps)=true
   ·simp only[hw,if_true]at h;rcases h with h|h
    rotate_left
    ·exact ars C hb ho hw h λa' V' h'=>ih a' V' h' main J C b k cs hb hr hL
    obtain⟨bA,ay⟩:=h;have akW:b.roundOf=none\/mi o.op=false:=hr▸bA;have dY:∀v,(on b a (.inRegion ops (i::rest)::k)).finish v=on b (a.put o.dst v) (.inRegion ops rest::k):=by
     intro v;rw[Bh,ho];rfl
    have jV:((on b a (.inRegion ops (i::rest)::k)).kind==Va)=false:=(by simpa[on]using hb);refine C.step _ _ rfl λw fw=> ?_;obtain⟨es,w',V',h1,h2,h3⟩:=ay.runs fw;rw[s_op ho hw akW];rcases h3 with⟨nx,h3,hU⟩|⟨v,h3,hU⟩
    ·cases nx with
     |value v=>exact⟨_,w',seen P b.fn es,V',by rw[<- dY v];simp only[stepG.apply,TB,if_true,h3,h2,jV,T6];rfl,h1.seen P _,ih _ _ hU main J C b k cs hb hr hL⟩
     |skip=>exact⟨_,w',seen P b.fn es,V',by rw[<- dY undef];simp only[stepG.apply,TB,if_true,h3,h2,jV,T6];rfl,h1.seen P _,ih _ _ hU main J C b k cs hb hr hL⟩
     | «defer» d =>
      obtain⟨AZ,hU⟩:=hU;have iS:({on b a (.inRegion ops (i::rest)::k)with defers:=d::a.defers}:Uc).finish undef=on b ({a with defers:=d::a.defers}.put o.dst undef) (.inRegion ops rest::k):=by
       have:=Bh b {a with defers:=d::a.defers} ops i rest k undef;rw[ho]at this;exact this
      exact⟨_,w',seen P b.fn es,V',by
       rw[<- iS];simp only[stepG.apply,TB,if_true,h3,h2,jV,T6];rfl,h1.seen P _,ih _ _ hU main J C b k cs hb hr hL⟩
     |enter f args=>
      refine⟨G (Frame.enter P f args .normal) (on b a (.inRegion ops (i::rest)::k)::cs),w',seen P b.fn es,V',by simp only[stepG.apply,TB,if_true,h3,h2,jV,T6];rfl,h1.seen P _,?_⟩;refine Body.runs hU main J C _ cs (λv aS hR=> ?_) (λch aS hR=> ?_)
      ·rw[dY];exact ih _ _ hR main J C b k cs hb hr hL
      ·exact hL _ _ _ hR _ rfl
     |round l f tmps assign body=>
      refine⟨G (Xd l f tmps assign body .normal) (on b a (.inRegion ops (i::rest)::k)::cs),w',seen P b.fn es,V',by simp only[stepG.apply,TB,if_true,h3,h2,jV,T6];rfl,h1.seen P _,?_⟩;refine hU main J C _ cs (λv aS hR=> ?_) (λch aS hR=> ?_)
      ·rw[dY];exact ih _ _ hR main J C b k cs hb hr hL
      ·exact hL _ _ _ hR _ rfl
     |_=>exact hU.elim
    ·refine⟨G ((on b a (.inRegion ops (i::rest)::k)).raise [{v,recovered:=false}]) cs,w',seen P b.fn es,V',by simp only[stepG.apply,TB,if_true,h3,h2,jV,T6];rfl,h1.seen P _,hL _ _ _ hU _ rfl⟩
   ·have nL:Ti o (yielded ops a.tmps)=false:=(by simpa using hw);simp only[nL,if_false,TP]at h;refine C.idle rfl (λw=>acW (by simp[ho,nL])) ?_;simp only[ho,Option.bind_some];exact ih _ _ h main J C b k cs hb hr hL
theorem wp_region{lv:Bool}{P:SI}{r:Option Nat}{id:Nat}{ops:Array Tu}{Q:Ex->Act->View->Prop}{a:Act}{V:View}(h:dp lv P r ops Q (SU ops.size) a V):WP lv P r (.region id ops false) Q a V:=
 λmain J C b k cs hb hr hL=>C.idle rfl (λ_=>acX) (wp_ops _ a V h main J C b k cs hb hr hL)
theorem OV{lv:Bool}{P:SI}{r:Option Nat}{id:Nat}{ops:Array Tu}{Q:Ex->Act->View->Prop}{a:Act}{V:View}(h:∀t,dp lv P r ops Q (VO (P.follows .mixedOrders) ops t) a V):WP lv P r (.region id ops true) Q a V:=
 λmain J C b k cs hb hr hL=>C.step _ _ rfl λw hw=>⟨_,_,#[],V,aqA,.draw hw _,wp_ops _ a V (h _) main J C b k cs hb hr hL⟩
def Ends (P:SI)(fn:YH)(R:Out->View->Prop):Ex->Act->View->Prop
 |.normal,a,V|.ret,a,V=>a.defers=[]/\∃v,aQ P V (results fn a.tmps) (λx V'=>x=v/\V'=V) (λ_ _=>False)/\R (.ret v) V
 |.panic ch,a,V=>a.defers=[]/\R (.panic ch) V
 |_,_,_=>False
theorem PZ{lv:Bool}{P:SI}{f:TQ}{fn:YH}{c:T7}{args:Array SP}{kd:Xi}{V:View}{R:Out->View->Prop}(hk:kd≠ .early)(hf:P.funcs[f]?=some fn)(hb:fn.body=some c)
  (h:WP lv P none c (Ends P fn R) {tmps:=args++TN (fn.ntmps-args.size) undef,defers:=[]} V):Body lv P f args kd V R:=by
 intro main J C cs hR;let b:Uc:={(default:Uc)with fn:=f,kind:=kd,roundOf:=none};have uM:Frame.enter P f args kd=on b {tmps:=args++TN (fn.ntmps-args.size) undef,defers:=[]} [.code c]:=by
  simp[Frame.enter,on,hf,hb,b]
 rw[uM];refine h main J C b [] cs hk rfl λe a' V' q=> ?_;cases e with
 |normal=>
  obtain⟨hd,v,hs,hr⟩:=q;exact C.idle rfl (λw=>Er rfl) (hR _ _ _ hr ⟨rfl,hd,rfl,fn,hf,rfl,hs⟩)
 |ret=>
  obtain⟨hd,v,hs,hr⟩:=q;intro k;exact C.idle rfl (λw=>Es rfl) (hR _ _ _ hr ⟨rfl,hd,rfl,fn,hf,rfl,hs⟩)
 |panic ch=>
  obtain⟨hd,hr⟩:=q;intro todo _;exact hR _ _ _ hr ⟨rfl,hd,rfl,fn,hf,rfl⟩
 |exit id=>exact q.elim
 |goto l=>exact q.elim
open Go.Conc
inductive End where
 |exact
 |shut
 |opn (k:Nat)
 deriving DecidableEq
inductive AV where
 |val (x:SP)
 |agg (l:List AV)
 |aN (l:List AV)
 |sl (n:Nat) (l:List AV) (e:End)
 |bp (id off n cap:Nat)
 |rp (l:List AV)
 |op (id off:Nat)
 |fn (f:Fn) (first cV:List AV)
 |da (t:TypeId) (x:AV)
 |mp (id:Nat)
structure Env where
 I:cx
 n:Nat
 blk:Nat->Nat
 room:Nat->Nat->Option U_×Nat
 fz:Nat->Nat
 fr:Nat->Option Obj
 main:Bool
structure Env.Le (E E':Env):Prop where
 I:∀b o v,E.I b o=some v->E'.I b o=some v
 n:E.n<=E'.n
 blk:∀k,k<E.n->E'.blk k=E.blk k
 fz:∀k,k<E.n->E.fz k<=E'.fz k
 room:∀k v,k<E.n->v<=E.fz k->E'.room k v=E.room k v
 fr:E'.fr=E.fr
 main:E'.main=E.main
theorem Env.Le.refl(E:Env):E.Le E:=⟨λ_ _ _ h=>h,SO _,λ_ _=>rfl,λ_ _=>SO _,λ_ _ _ _=>rfl,rfl,rfl⟩
theorem Env.Le.trans{E E' bS:Env}(h:E.Le E')(k:E'.Le bS):E.Le bS:=
 ⟨λb o v e=>k.I b o v (h.I b o v e),UH h.n k.n,λi hi=>(k.blk i (Tf hi h.n)).trans (h.blk i hi),λi hi=>UH (h.fz i hi) (k.fz i (Tf hi h.n)),
  λi v hi hv=>(k.room i v (Tf hi h.n) (UH hv (h.fz i hi))).trans (h.room i v hi hv),k.fr.trans h.fr,k.main.trans h.main⟩
def pU (E:Env)(e:End)(a:Option U_)(n cap:Nat):Prop:=match e with
 |.exact=>cap=n
 |.shut=>True
 |.opn k=>k<E.n/\n<=E.fz k/\E.room k n=(a,cap)
inductive ap (E:Env):AV->SP->Prop
 |val (x:SP):ap E (.val x) x
 |agg {l:List AV} {cs:Array SP} (hs:cs.size=l.length) (h:∀(i:Nat) a,l[i]?=some a->ap E a (cs.getD i undef)):ap E (.agg l) (.agg cs)
 |aN {l:List AV} {cs:Array SP} (hs:cs.size=l.length) (h:∀(i:Nat) a,l[i]?=some a->ap E a (cs.getD i undef)):ap E (.aN l) (.tuple cs)
 |sl {n:Nat} {l:List AV} {e:End} (b o cap:Nat) (f:Nat->SP) (hc:n<=cap) (he:pU E e (some ⟨b,o,none⟩) n cap)
   (h1:∀i,i<l.length->E.I b (o+i)=some (f i)) (h2:∀(i:Nat) x,l[i]?=some x->ap E x (f i)):ap E (.sl n l e) (.slice (some ⟨b,o,none⟩) n cap)
 |nil {e:End} {a:Option U_} (he:pU E e a 0 0):ap E (.sl 0 [] e) (.slice a 0 0)
 |bp {id off n cap cap':Nat} (hi:id<E.n) (dR:n<=cap'/\(n<=cap->cap=cap')/\(cap<n->cap'<=(E.room id 0).2)):ap E (.bp id off n cap) (.slice (some ⟨E.blk id,off,none⟩) n cap')
 |rp {l:List AV} (b o:Nat) (f:Nat->SP) (h1:∀i,i<l.length->E.I b (o+i)=some (f i)) (h2:∀(i:Nat) x,l[i]?=some x->ap E x (f i)):ap E (.rp l) (.pointer (some ⟨b,o,none⟩))
 |op {id off:Nat} (hi:id<E.n):ap E (.op id off) (.pointer (some ⟨E.blk id,off,none⟩))
 |fn {f:Fn} {first cV:List AV} {fa ca:Array SP} (dL:fa.size=first.length) (fX:ca.size=cV.length) (h1:∀(i:Nat) a,first[i]?=some a->ap E a (fa.getD i undef)) (h2:∀(i:Nat) a,cV[i]?=some a->ap E a (ca.getD i undef)):ap E (.fn f first cV) (.func f fa ca)
 |da {t:TypeId} {x:AV} {v:SP} (h:ap E x v):ap E (.da t x) (.iface t v)
 |mp {id:Nat} (hi:id<E.n):ap E (.mp id) (.map (some (E.blk id)))
theorem pU.mono{E E':Env}(h:E.Le E'){e:End}{a:Option U_}{n cap:Nat}(k:pU E e a n cap):pU E' e a n cap:=by
 cases e with
 |exact=>exact k
 |shut=>trivial
 |opn i=>exact⟨Tf k.1 h.n,UH k.2.1 (h.fz i k.1),by rw[h.room i n k.1 k.2.1];exact k.2.2⟩
theorem ap.mono{E E':Env}(h:E.Le E'){a:AV}{v:SP}(d:ap E a v):ap E' a v:=by
 induction d with
 |val x=>exact .val x
 |agg hs _ ih=>exact .agg hs ih
 |aN hs _ ih=>exact .aN hs ih
 |sl b o cap f hc he h1 _ ih=>exact .sl b o cap f hc (he.mono h) (λi hi=>h.I _ _ _ (h1 i hi)) ih
 |nil he=>exact .nil (he.mono h)
 |bp hi dR=>rw[<- h.blk _ hi];exact .bp (Tf hi h.n) ⟨dR.1,dR.2.1,λe=>by rw[h.room _ 0 hi (WQ _)];exact dR.2.2 e⟩
 |rp b o f h1 _ ih=>exact .rp b o f (λi hi=>h.I _ _ _ (h1 i hi)) ih
 |op hi=>rw[<- h.blk _ hi];exact .op (Tf hi h.n)
 |fn dL fX _ _ mN lm=>exact .fn dL fX mN lm
 |da _ ih=>exact .da ih
 |mp hi=>rw[<- h.blk _ hi];exact .mp (Tf hi h.n)
def AV.leaf:AV->Bool
 |.agg _|.aN _=>false
 |.val x=>x.one
 |_=>true
inductive aa where
 |cells (l:List AV) (elem:TypeId)
 |part (p:Nat) (l:List AV) (elem:TypeId)
 |own (sz:Nat) (l:List AV) (elem:TypeId)
 |tail (n sz:Nat) (elem:TypeId)
 |obj (x:Obj)
 |iter (m since:Nat) (seen:Array Nat) (ud:Nat)
 |loop (r:Nat) (st:aa') (pend:Option T7) (fn:TQ) (T:List (Nat×AV)) (nt:Nat) (ps:Array Tmp) (bM body:T7) (df:Nat)
 |gone
 |main
def look:List (Nat×AV)->Nat->Option AV
 |[],_=>none
 |(k,a)::l,t=>if k=t then some a else look l t
def cg (E:Env)(T:List (Nat×AV))(tmps:Array SP):Prop:=∀t a,look T t=some a->t<tmps.size/\ap E a (tmps.getD t undef)
theorem cg.mono{E E':Env}(h:E.Le E'){T:List (Nat×AV)}{tmps:Array SP}(k:cg E T tmps):cg E' T tmps:=λt a e=>⟨(k t a e).1,(k t a e).2.mono h⟩
theorem cg.put{E:Env}{T:List (Nat×AV)}{tmps:Array SP}(k:cg E T tmps){d:Nat}(hd:d<tmps.size){a:AV}{v:SP}(hv:ap E a v):cg E ((d,a)::T) (tmps.setIfInBounds d v):=by
 intro t x e;simp only[look]at e;by_cases h:d=t
 ·subst h;rw[if_pos rfl]at e;cases e;exact⟨by simpa using hd,by simpa[SH,Tb hd]using hv⟩
 ·rw[if_neg h]at e;have:=k t x e;exact⟨by simpa using this.1,by simpa[SH,SV h]using this.2⟩
def cJ (E:Env)(l:List AV)(cs:Array SP):Prop:=cs.size=l.length/\∀(i:Nat) a,l[i]?=some a->ap E a (cs.getD i undef)
theorem cJ.mono{E E':Env}(h:E.Le E'){l:List AV}{cs:Array SP}(d:cJ E l cs):cJ E' l cs:=⟨d.1,λi a e=>(d.2 i a e).mono h⟩
def j4 (E:Env)(l:List AV)(cs:Array SP):Prop:=l.length<=cs.size/\∀(i:Nat) a,l[i]?=some a->ap E a (cs.getD i undef)
theorem j4.mono{E E':Env}(h:E.Le E'){l:List AV}{cs:Array SP}(d:j4 E l cs):j4 E' l cs:=⟨d.1,λi a e=>(d.2 i a e).mono h⟩
theorem cJ.p{E:Env}{l:List AV}{cs:Array SP}(d:cJ E l cs):j4 E l cs:=⟨WL d.1.symm,d.2⟩
def bO (E:Env)(k:Nat):aa->Option Nat
 |.tail n _ _=>if(E.room k n).2=n then none else(E.room k n).1.map (·.block)
 |.gone|.main=>none
 |_=>some (E.blk k)
def fN (E:Env)(V:View)(k:Nat):aa->Prop
 |.cells l elem=>(∃cs,V.own (E.blk k)=some (.cells cs elem (0,0))/\cJ E l cs)/\∀o,V.ab (E.blk k) o=none
 |.part p l elem=>(∃cs,V.own (E.blk k)=some (.cells cs elem (0,0))/\j4 E l cs/\∀o,o<p->V.ab (E.blk k) o=cs[o]?)/\∀o,p<=o->V.ab (E.blk k) o=none
 |.own sz l elem=>(∃cs,V.own (E.blk k)=some (.cells cs elem (0,0))/\j4 E l cs/\cs.size=(E.room k 0).2* sz)/\∀o,V.ab (E.blk k) o=none
 |.tail n sz elem=>E.fz k=n/\((E.room k n).2=n\/∃b cap cs,E.room k n=(some ⟨b,0,none⟩,cap)/\V.own b=some (.cells cs elem (0,0))/\cs.size=cap* sz/\n<cap/\∀o,n* sz<=o->V.ab b o=none)
 |.obj x=>V.own (E.blk k)=some x/\x.ve=false/\x.isChan=false/\∀o,V.ab (E.blk k) o=none
 |.iter m since seen ud=>m<E.n/\V.own (E.blk k)=some (.mapIter (some (E.blk m)) since seen ud)/\∀o,V.ab (E.blk k) o=none
 |.loop r st pend fn T nt ps bM body df=>(∃tmps,V.own (E.blk k)=some (.loop {state:=st,pending:=pend,fn,tmps,params:=ps,assign:=bM,body,defers:=E.blk df})/\tmps.size=nt/\cg E T tmps)/\df<E.n/\(∀o,V.ab (E.blk k) o=none)/\E.blk k=r
 |.gone=>True
 |.main=>E.main=true
structure Conc (E:Env)(V:View)(H:List aa):Prop where
 I:E.I=V.ab
 n:E.n=H.length
 obj:∀k x,H[k]?=some x->fN E V k x
 inj:∀i j x y b,H[i]?=some x->H[j]?=some y->bO E i x=some b->bO E j y=some b->i=j
 group:∀g,V.role.group=some g->V.own g≠none/\(∀o,V.ab g o=none)/\∀(k:Nat) x,H[k]?=some x->bO E k x≠some g
 chan:∀c,V.role.chan=some c->V.own c≠none/\(∀o,V.ab c o=none)/\∀(k:Nat) x,H[k]?=some x->bO E k x≠some c
 top:E.main=true->V.role=.plain/\V.deaf=0
 fr:∀b y,E.fr b=some y->V.own b=some y/\(∀o,V.ab b o=none)/\∀(k:Nat) x,H[k]?=some x->bO E k x≠some b
structure AS where
 T:List (Nat×AV)
 H:List aa
def AS.Le (s s':AS):Prop:=(∀t a,look s'.T t=some a->look s.T t=some a)/\s'.H=s.H
def AV.of:SP->AV
 |.agg cs=> .agg (cs.toList.map λ|.slice none 0 0=> .sl 0 [] .exact|v=> .val v)
 |.slice none 0 0=> .sl 0 [] .exact
 |v=> .val v
def AV.pN:SP->AV
 |.slice none 0 0=> .sl 0 [] .exact
 |v=> .val v
theorem JB(E:Env)(v:SP):ap E (AV.pN v) v:=by
 unfold AV.pN;split
 ·exact .nil rfl
 ·exact .val _
theorem sX(E:Env)(v:SP):ap E (AV.of v) v:=by
 unfold AV.of;split
 ·rename_i cs;refine .agg (by simp) λi a h=> ?_;rw[To]at h;obtain⟨x,hx,rfl⟩:=Tq.1 h;have:cs[i]?=some x:=by simpa using hx
  rw[SH,this];exact JB E x
 ·exact .nil rfl
 ·exact .val _
def AS.ev (s:AS):Tj->Option AV
 |.tmp t=>look s.T t
 |.const v=>some (AV.of v)
 |.func f=>some (.fn (.func f) [] [])
 |.global _=>none
theorem ap.ev{E:Env}{s:AS}{a:Act}(k:cg E s.T a.tmps){x:Tj}{av:AV}(h:s.ev x=some av):ap E av (a.eval x):=by
 cases x with
 |tmp t=>exact(k t av h).2
 |const v=>cases h;exact sX E v
 |func f=>cases h;exact .fn rfl rfl (by simp) (by simp)
 |global g=>cases h
theorem fN.Cw{E:Env}{V:View}{k:Nat}{x:aa}(h:fN E V k x){b:Nat}(hb:bO E k x=some b):∃y,V.own b=some y:=by
 cases x with
 |cells l el=>cases hb;obtain⟨⟨cs,h1,_⟩,_⟩:=h;exact⟨_,h1⟩
 |part p l el=>cases hb;obtain⟨⟨cs,h1,_⟩,_⟩:=h;exact⟨_,h1⟩
 |own p l el=>cases hb;obtain⟨⟨cs,h1,_⟩,_⟩:=h;exact⟨_,h1⟩
 |tail n sz el=>
  obtain⟨hv,h|⟨b',cap,cs,h1,h2,h3,h4,h5⟩⟩:=h
  ·simp only[bO,h,if_true]at hb;cases hb
  ·simp only[bO,h1]at hb;rw[if_neg (by omega)]at hb;cases hb;exact⟨_,h2⟩
 |obj x=>cases hb;exact⟨_,h.1⟩
 |iter m since seen ud=>cases hb;exact⟨_,h.2.1⟩
 |loop=>cases hb;obtain⟨⟨tmps,h1,_⟩,_⟩:=h;exact⟨_,h1⟩
 |gone=>cases hb
 |main=>cases hb
theorem PX{E E':Env}(hl:E.Le E'){k:Nat}(hk:k<E.n){x:aa}{V:View}(h:fN E V k x):bO E' k x=bO E k x:=by
 cases x with
 |tail n sz el=>simp only[bO];rw[hl.room k n hk (WL h.1.symm)]
 |gone=>rfl
 |main=>rfl
 |_=>simp only[bO,hl.blk k hk]
theorem fN.mono{E E':Env}{V V':View}{k:Nat}{x:aa}(h:fN E V k x)(hl:E.Le E')(hk:k<E.n)(A6:E'.fz k=E.fz k)
  (ho:∀b y,bO E k x=some b->V.own b=some y->V'.own b=some y) (hi:∀b,bO E k x=some b->∀o,V'.ab b o=V.ab b o):fN E' V' k x:=by
 cases x with
 |cells l el=>
  obtain⟨⟨cs,h1,h2⟩,h3⟩:=h;simp only[fN,hl.blk k hk];exact⟨⟨cs,ho _ _ rfl h1,h2.mono hl⟩,λo=>(hi _ rfl o).trans (h3 o)⟩
 |part p l el=>
  obtain⟨⟨cs,h1,h2,h4⟩,h3⟩:=h;simp only[fN,hl.blk k hk];exact⟨⟨cs,ho _ _ rfl h1,h2.mono hl,λo hp=>(hi _ rfl o).trans (h4 o hp)⟩,λo hp=>(hi _ rfl o).trans (h3 o hp)⟩
 |own sz l el=>
  obtain⟨⟨cs,h1,h2,h4⟩,h3⟩:=h;simp only[fN,hl.blk k hk,hl.room k 0 hk (WQ _)];exact⟨⟨cs,ho _ _ rfl h1,h2.mono hl,h4⟩,λo=>(hi _ rfl o).trans (h3 o)⟩
 |tail n sz el=>
  obtain⟨hv,h⟩:=h;simp only[fN,A6,hl.room k n hk (WL hv.symm)];refine⟨hv,?_⟩;rcases h with h|⟨b',cap,cs,h1,h2,h3,h4,h5⟩
  ·exact .inl h
  ·have hb:bO E k (.tail n sz el)=some b':=(by simp only[bO,h1];rw[if_neg (by omega)];rfl);exact .inr ⟨b',cap,cs,h1,ho _ _ hb h2,h3,h4,λo hm=>(hi _ hb o).trans (h5 o hm)⟩
 |obj x=>
  obtain⟨h1,h2,h4,h3⟩:=h;simp only[fN,hl.blk k hk];exact⟨ho _ _ rfl h1,h2,h4,λo=>(hi _ rfl o).trans (h3 o)⟩
 |iter m since seen ud=>
  obtain⟨h0,h1,h2⟩:=h;simp only[fN,hl.blk k hk,hl.blk m h0];exact⟨Tf h0 hl.n,ho _ _ rfl h1,λo=>(hi _ rfl o).trans (h2 o)⟩
 |loop r st pend fn T nt ps bM body df=>
  obtain⟨⟨tmps,h1,h2,h3⟩,h4,h5,h6⟩:=h;simp only[fN,hl.blk k hk,hl.blk df h4];exact⟨⟨tmps,ho _ _ rfl h1,h2,h3.mono hl⟩,Tf h4 hl.n,λo=>(hi _ rfl o).trans (h5 o),h6⟩
 |gone=>trivial
 |main=>exact hl.main.trans h
theorem Conc.iN{E E':Env}{V V':View}{H H':List aa}(hc:Conc E V H)(k:Nat)(x':aa)(hle:E.Le E')(hI:E'.I=V'.ab)(hn:E'.n=H'.length)
  (hH:∀(j:Nat) y,H'[j]?=some y->(j=k/\y=x')\/(j≠k/\H[j]?=some y)) (hr:V'.role=V.role)
  (A6:∀j,j≠k->j<E.n->E'.fz j=E.fz j)
  (ho:∀b y,(∀x,H[k]?=some x->bO E k x≠some b)->V.own b=some y->V'.own b=some y/\∀o,V'.ab b o=V.ab b o)
  (hx:fN E' V' k x') (hb:∀b,bO E' k x'=some b->(∃x,H[k]?=some x/\bO E k x=some b)\/V.own b=none) (bA:V'.deaf=V.deaf:=by rfl):Conc E' V' H':=by
 have hlt:∀(j:Nat) y,H[j]?=some y->j<E.n:=λj y h=>by rw[hc.n];exact(SL.1 h).1
 have cN:∀(j:Nat) y b,H[j]?=some y->bO E' j y=some b->bO E j y=some b:=λj y b h e=>by rw[<- PX hle (hlt j y h) (hc.obj j y h)];exact e
 have aaI:∀(j:Nat) y b,j≠k->H[j]?=some y->bO E j y=some b->∀x,H[k]?=some x->bO E k x≠some b:=λj y b hj h1 h2 x h3 h4=>hj (hc.inj j k y x b h1 h3 h2 h4);have hg:∀(j:Nat) y,H'[j]?=some y->∀g,V.own g≠none->(∀(i:Nat) x,H[i]?=some x->bO E i x≠some g)->bO E' j y≠some g:=λj y h g pC fu e=>by
  rcases hH j y h with⟨rfl,rfl⟩|⟨hj,h⟩
  ·rcases hb g e with⟨x,h1,h2⟩|h2
   ·exact fu _ x h1 h2
   ·exact pC h2
  ·exact fu j y h (cN j y g h e)
 have hk:∀g,V.own g≠none->(∀(i:Nat) x,H[i]?=some x->bO E i x≠some g)->V'.own g≠none/\∀o,V'.ab g o=V.ab g o:=λg pC fu=>by
  cases e:V.own g with
  |none=>exact absurd e pC
  |some y=>
   have:=ho g y (λx hx=>fu k x hx) e;exact⟨by rw[this.1];simp,this.2⟩
 refine⟨hI,hn,λj y h=> ?_,λi j y z b h1 h2 e1 e2=> ?_,λg aai=> ?_,λc eS=> ?_,λhm=>(by rw[hr,bA];exact hc.top (by rw[<- hle.main];exact hm)),λb y ji=> ?_⟩
 ·rcases hH j y h with⟨rfl,rfl⟩|⟨hj,h⟩
  ·exact hx
  ·have lJ:=hc.obj j y h;refine lJ.mono hle (hlt j y h) (A6 j hj (hlt j y h)) (λb z kE hz=> ?_) (λb kE o=> ?_)
   ·exact(ho b z (aaI j y b hj h kE) hz).1
   ·obtain⟨z,hz⟩:=lJ.Cw kE;exact(ho b z (aaI j y b hj h kE) hz).2 o
 ·have new:∀(j:Nat) y,j≠k->H[j]?=some y->bO E' j y=some b->bO E' k x'≠some b:=λj y hj h e e'=>by
   have e:=cN j y b h e;rcases hb b e' with⟨x,DO,hx2⟩|h1
   ·exact hj (hc.inj j k y x b h DO e hx2)
   ·obtain⟨q,hq⟩:=(hc.obj j y h).Cw e;rw[h1]at hq;cases hq
  rcases hH i y h1 with⟨rfl,rfl⟩|⟨hi,h1⟩<;>rcases hH j z h2 with⟨rfl,rfl⟩|⟨hj,h2⟩
  ·rfl
  ·exact absurd e1 (new j z hj h2 e2)
  ·exact absurd e2 (new i y hi h1 e1)
  ·exact hc.inj i j y z b h1 h2 (cN i y b h1 e1) (cN j z b h2 e2)
 ·rw[hr]at aai;obtain⟨h0,h1,h2⟩:=hc.group g aai;exact⟨(hk g h0 h2).1,λo=>((hk g h0 h2).2 o).trans (h1 o),λj y h=>hg j y h g h0 h2⟩
 ·rw[hr]at eS;obtain⟨h0,h1,h2⟩:=hc.chan c eS;exact⟨(hk c h0 h2).1,λo=>((hk c h0 h2).2 o).trans (h1 o),λj y h=>hg j y h c h0 h2⟩
 ·rw[hle.fr]at ji;obtain⟨h0,h1,h2⟩:=hc.fr b y ji;have F2:V.own b≠none:=by rw[h0];simp
  exact⟨(ho b y (λx hx=>h2 k x hx) h0).1,λo=>((hk b F2 h2).2 o).trans (h1 o),λj z h=>hg j z h b F2 h2⟩
theorem ln{α:Type}{H:List α}{k:Nat}{x':α}:∀(j:Nat) y,(H.set k x')[j]?=some y->(j=k/\y=x')\/(j≠k/\H[j]?=some y):=λj y h=>by
 by_cases hj:j=k
 ·subst hj;rw[List.getElem?_set_self']at h;cases e:H[j]?with
  |none=>rw[e]at h;cases h
  |some z=>rw[e]at h;exact .inl ⟨rfl,by simpa using h.symm⟩
 ·rw[Ua (Ne.symm hj)]at h;exact .inr ⟨hj,h⟩
theorem D7{α:Type}{H:List α}{x':α}:∀(j:Nat) y,(H++[x'])[j]?=some y->(j=H.length/\y=x')\/(j≠H.length/\H[j]?=some y):=λj y h=>by
 by_cases hk:j<H.length
 ·rw[SX hk]at h;exact .inr ⟨by omega,h⟩
 ·rw[Ta (by omega)]at h;have aI:j-H.length=0:=by
   have:=(SL.1 h).1;simpa using this
  rw[aI]at h;exact .inl ⟨by omega,by simpa using h.symm⟩
theorem Conc.jm{E:Env}{V:View}{H:List aa}(hc:Conc E V H){k:Nat}{x:aa}(hk:H[k]?=some x){b:Nat}(hb:bO E k x=some b):V.role.group≠some b/\V.role.chan≠some b:=
 ⟨λe=>(hc.group b e).2.2 k x hk hb,λe=>(hc.chan b e).2.2 k x hk hb⟩
theorem Conc.aa8{E:Env}{V:View}{H:List aa}(hc:Conc E V H){b o:Nat}{v:SP}(h:E.I b o=some v):V.role.group≠some b/\V.role.chan≠some b:=
 ⟨λe=>(by have:=(hc.group b e).2.1 o;rw[<- hc.I,h]at this;cases this),λe=>(by have:=(hc.chan b e).2.1 o;rw[<- hc.I,h]at this;cases this)⟩
open Go.Conc
def AS.put (s:AS)(dst:Option Nat)(av:AV):AS:=match dst with
 |some d=>⟨(d,av)::s.T,s.H⟩
 |none=>s
theorem cg.h_{E:Env}{s:AS}{a:Act}(k:cg E s.T a.tmps){dst:Option Nat}(hd:∀d,dst=some d->d<a.tmps.size){av:AV}{v:SP}(hv:ap E av v):cg E (s.put dst av).T (a.put dst v).tmps:=by
 cases dst with
 |none=>exact k
 |some d=>exact cg.put k (hd d rfl) hv
theorem fb(s:AS)(dst:Option Nat)(av:AV):(s.put dst av).H=s.H:=by cases dst<;>rfl
theorem dX(a:Act)(dst:Option Nat)(v:SP):(a.put dst v).tmps.size=a.tmps.size:=by cases dst<;>simp[X6]
theorem put_defers(a:Act)(dst:Option Nat)(v:SP):(a.put dst v).defers=a.defers:=by cases dst<;>rfl
structure Kept (E E':Env)(V V':View)(a a':Act):Prop where
 le:E.Le E'
 size:a'.tmps.size=a.tmps.size
 defers:a'.defers=a.defers
 role:V'.role=V.role
 deaf:V'.deaf=V.deaf
def Step (lv:Bool)(P:SI)(r:Option Nat)(o:Tu)(s:AS)(next:AS->Prop)(bad:AV->AS->Prop):Prop:=
 ∀(E:Env)(V:View)(a:Act)(N:Act->View->Prop)(Q:Ex->Act->View->Prop),Conc E V s.H->cg E s.T a.tmps->(∀d,o.dst=some d->d<a.tmps.size)->(r=none\/mi o.op=false)->
  (∀E' V' a' s',Kept E E' V V' a a'->Conc E' V' s'.H->cg E' s'.T a'.tmps->next s'->N a' V')->
  (∀E' V' s' pv v,Kept E E' V V' a a->Conc E' V' s'.H->cg E' s'.T a.tmps->ap E' pv v->bad pv s'->Q (.panic [{v,recovered:=false}]) a V')->xD lv P r o a V N Q
def dF (lv:Bool)(P:SI)(r:Option Nat)(o:Tu)(s:AS)(av:AV):Prop:=
 ∀(E:Env)(V:View)(a:Act)(N:Act->View->Prop)(Q:Ex->Act->View->Prop),Conc E V s.H->cg E s.T a.tmps->(r=none\/mi o.op=false)->
  (∀E' V' v,E.Le E'->V'.role=V.role->V'.deaf=V.deaf->Conc E' V' s.H->ap E' av v->N (a.put o.dst v) V')->xD lv P r o a V N Q
section
variable {lv:Bool}{P:SI}{r:Option Nat}{o:Tu}{s:AS}{next:AS->Prop}{bad:AV->AS->Prop}
theorem Step.mono{next':AS->Prop}{PQ:AV->AS->Prop}(h:Step lv P r o s next bad)(hn:∀s,next s->next' s)(hb:∀c s,bad c s->PQ c s):Step lv P r o s next' PQ:=
 λE V a N Q h1 h2 h3 h4 h5 h6=>h E V a N Q h1 h2 h3 h4 (λE' V' a' s' x1 x2 x3 x4=>h5 E' V' a' s' x1 x2 x3 (hn _ x4)) (λE' V' s' pv v x1 x2 x3 x4 x5=>h6 E' V' s' pv v x1 x2 x3 x4 (hb _ _ x5))
theorem iZ{av:AV}(h:∀(E:Env)(V:View)(a:Act),Conc E V s.H->cg E s.T a.tmps->aQ P V (execOp a.eval o) (λnx V'=>V'=V/\∃v,nx=.value v/\ap E av v) (λ_ _=>False)):dF lv P r o s av:=by
 intro E V a N Q hc ht bA h1;refine⟨bA,(h E V a hc ht).mono (λnx V' hx=> ?_) (λ_ _ hx=>hx.elim)⟩;obtain⟨rfl,v,rfl,hv⟩:=hx;exact h1 E V' v (Env.Le.refl E) rfl rfl hc hv
theorem sk{av:AV}(h:∀(E:Env)(V:View)(a:Act),Conc E V s.H->cg E s.T a.tmps->∃v,execOp a.eval o=.pure (.value v)/\ap E av v):dF lv P r o s av:=
 iZ (λE V a hc ht=>by
  obtain⟨v,h1,h2⟩:=h E V a hc ht;rw[h1];exact cI ⟨rfl,v,rfl,h2⟩)
theorem dF.step{av:AV}(h:dF lv P r o s av)(hn:next (s.put o.dst av)):Step lv P r o s next bad:=by
 intro E V a N Q hc ht hd bA h1 _;refine h E V a N Q hc ht bA λE' V' v hle ce eT bi hv=> ?_;exact h1 E' V' (a.put o.dst v) (s.put o.dst av) ⟨hle,dX _ _ _,put_defers _ _ _,ce,eT⟩ (by rw[fb];exact bi) ((ht.mono hle).h_ hd hv) hn
theorem acL{x:Tj}{av:AV}(ho:o.op=.move x\/o.op=.assign x)(hx:s.ev x=some av):dF lv P r o s (av):=
 sk (λE V a hc ht=>⟨a.eval x,by unfold execOp;rcases ho with ho|ho<;>rw[ho]<;>rfl,ap.ev ht hx⟩)
theorem ap0{c x y:Tj}{b:Bool}{av aw:AV}(ho:o.op=.pick c x y)(hc:s.ev c=some (.val (.bool b)))(hx:s.ev x=some av)(hy:s.ev y=some aw):dF lv P r o s ((if b then av else aw)):=
 sk (λE V a jg ht=>by
  have h1:=ap.ev ht hc;generalize hv:a.eval c=v at h1;cases h1;refine⟨if b then a.eval x else a.eval y,by unfold execOp;rw[ho];simp only[hv];cases b<;>rfl,?_⟩;cases b
  ·exact ap.ev ht hy
  ·exact ap.ev ht hx)
def l7 (op:Wb)(k:TZ)(x y:Int):Option SP:=match op with
 |.add=>some (.int k (k.wrap (x+y)))
 |.sub=>some (.int k (k.wrap (x-y)))
 |.mul=>some (.int k (k.wrap (x* y)))
 |.eql=>some (.bool (x==y))
 |.neq=>some (.bool (x !=y))
 |.lss=>some (.bool (x<y))
 |.leq=>some (.bool (x<=y))
 |.gtr=>some (.bool (x>y))
 |.geq=>some (.bool (x>=y))
 |.and=>some (.int k (k.wrap (Ui k.bits x&&&Ui k.bits y).toNat))
 |.or=>some (.int k (k.wrap (Ui k.bits x|||Ui k.bits y).toNat))
 |.xor=>some (.int k (k.wrap (Ui k.bits x^^^Ui k.bits y).toNat))
 |.quo=>if y=0 then none else some (.int k (k.wrap (x.tdiv y)))
 |.rem=>if y=0 then none else some (.int k (x.tmod y))
 |_=>none
def BF (op:Wb)(k:TZ)(x y:Int):Option SP:=if y<0 then none else match op with
 |.shl=>some (.int k (k.wrap (x* 2^(min y.toNat k.bits))))
 |.shr=>some (.int k (x.fdiv (2^(min y.toNat k.bits))))
 |_=>none
def mO:Wb->Bool
 |.shl|.shr=>true
 |_=>false
theorem agE{op:Wb}{k:TZ}{x y:Int}{v:SP}{t:TypeId}(h:l7 op k x y=some v):binOp op t (.int k x) (.int k y)=.pure v:=by
 cases op<;>simp only[l7,Tm,reduceCtorEq]at h<;>try(subst h;simp[binOp,au9,Op.intCmp,Op.intBits];rfl)
 ·split at h
  ·cases h
  ·rename_i hy;simp only[Tm]at h;subst h;simp[binOp,aq',hy];rfl
 ·split at h
  ·cases h
  ·rename_i hy;simp only[Tm]at h;subst h;simp[binOp,aq',hy];rfl
theorem arc{op:Wb}{k j:TZ}{x y:Int}{v:SP}{t:TypeId}(h:BF op k x y=some v):binOp op t (.int k x) (.int j y)=.pure v:=by
 unfold BF at h;split at h
 ·cases h
 ·rename_i hy;cases op<;>simp only[Tm,reduceCtorEq]at h
  ·subst h;simp[binOp,auX,hy];rfl
  ·subst h;simp[binOp,auX,hy];rfl
theorem QR{op:Wb}{t:TypeId}{x y:Tj}{j k:TZ}{a b:Int}:eqGuard op t x y (.int j a) (.int k b)=.pure ():=by
 unfold eqGuard;cases op<;>rfl
theorem apy{op:Wb}{xt yt:TypeId}{x y:Tj}{k:TZ}{m n:Int}{v:SP}(ho:o.op=.binOp op xt x y yt)(hx:s.ev x=some (.val (.int k m)))(hy:s.ev y=some (.val (.int k n)))(hv:l7 op k m n=some v):dF lv P r o s ((.val v)):=
 sk (λE V a jg ht=>by
  have h1:=ap.ev ht hx;have h2:=ap.ev ht hy;generalize pG:a.eval x=v1 at h1;generalize tR:a.eval y=v2 at h2;cases h1;cases h2;refine⟨v,?_,.val v⟩;unfold execOp;rw[ho];simp only[pG,tR,QR,agE hv];rfl)
theorem ap1{op:Wb}{xt yt:TypeId}{x y:Tj}{k j:TZ}{m n:Int}{v:SP}(ho:o.op=.binOp op xt x y yt)(hx:s.ev x=some (.val (.int k m)))(hy:s.ev y=some (.val (.int j n)))(hv:BF op k m n=some v):dF lv P r o s ((.val v)):=
 sk (λE V a jg ht=>by
  have h1:=ap.ev ht hx;have h2:=ap.ev ht hy;generalize pG:a.eval x=v1 at h1;generalize tR:a.eval y=v2 at h2;cases h1;cases h2;refine⟨v,?_,.val v⟩;unfold execOp;rw[ho];simp only[pG,tR,QR,arc hv];rfl)
theorem apZ{t:TypeId}{x:Tj}{b:Bool}(ho:o.op=.unOp .not t x)(hx:s.ev x=some (.val (.bool b))):dF lv P r o s ((.val (.bool !b))):=
 sk (λE V a jg ht=>by
  have h1:=ap.ev ht hx;generalize pG:a.eval x=v1 at h1;cases h1;exact⟨_,by unfold execOp;rw[ho];simp only[pG];rfl,.val _⟩)
theorem apW{t:TypeId}{x:Tj}{k:TZ}{n:Int}(ho:o.op=.unOp .neg t x)(hx:s.ev x=some (.val (.int k n))):dF lv P r o s (.val (.int k (k.wrap (0-n)))):=
 sk (λE V a jg ht=>by
  have h1:=ap.ev ht hx;generalize pG:a.eval x=v1 at h1;cases h1;exact⟨_,by unfold execOp;rw[ho];simp only[pG];rfl,.val _⟩)
theorem apE{x:Tj}{i:Nat}{l:List AV}{av:AV}(ho:o.op=.extract x i)(hx:s.ev x=some (.aN l))(hi:l[i]?=some av):dF lv P r o s (av):=
 sk (λE V a jg ht=>by
  have h1:=ap.ev ht hx;generalize pG:a.eval x=v1 at h1;cases h1 with
  |aN hs h=>
   rename_i cs;have hlt:i<cs.size:=(by rw[hs];exact(SL.1 hi).1);refine⟨cs[i],?_,?_⟩
   ·unfold execOp;rw[ho];simp only[pG,Instr.extract,SJ hlt];rfl
   ·have:=h i av hi;rwa [SH,SJ hlt]at this)
end
theorem add_plain(b o n:Nat):(⟨b,o,none⟩:U_).add n=⟨b,o+n,none⟩:=by
 unfold au3;split
 ·rename_i h;subst h;rfl
 ·rfl
def AS.at (s:AS):AV->Option (List AV)
 |.rp l=>some l
 |.op id off=>match s.H[id]?with
  |some (.cells l _)=>some (l.drop off)
  |some (.part _ l _)=>some (l.drop off)
  |some (.own _ l _)=>some (l.drop off)
  |_=>none
 |_=>none
def AV.shift (n:Nat):AV->Option AV
 |.rp l=>if n<=l.length then some (.rp (l.drop n))else none
 |.op id off=>some (.op id (off+n))
 |_=>none
theorem Conc.at{E:Env}{V:View}{s:AS}(hc:Conc E V s.H){p:AV}{v:SP}(hd:ap E p v){l:List AV}(h:s.at p=some l):
  ∃(b o:Nat)(f:Nat->SP),v=.pointer (some ⟨b,o,none⟩)/\(∀i,i<l.length->V.get b (o+i)=some (f i))/\(0<l.length->V.role.group≠some b)/\∀(i:Nat) x,l[i]?=some x->ap E x (f i):=by
 cases hd with
 |rp b o f h1 h2=>
  cases h;exact⟨b,o,f,rfl,λi hi=>by unfold View.get;rw[<- hc.I,h1 i hi],λhp=>(hc.aa8 (h1 0 hp)).1,h2⟩
 |op hi=>
  rename_i id off;simp only[AS.at]at h;cases hk:s.H[id]?with
  |none=>rw[hk]at h;cases h
  |some ob=>
   rw[hk]at h;cases ob with
   |cells l' el=>
    cases h;obtain⟨⟨cs,ho,hs,bk⟩,lH⟩:=hc.obj id _ hk;refine⟨E.blk id,off,λi=>cs.getD (off+i) undef,rfl,λi hi=> ?_,λ_=>(hc.jm hk rfl).1,λi x hx=> ?_⟩
    ·unfold View.get;rw[lH,ho];simp only[Uk]at hi;have hlt:off+i<cs.size:=(by omega);simp only[SH,SJ hlt,S0]
    ·rw[Up]at hx;exact bk _ _ hx
   |part p l' el=>
    cases h;obtain⟨⟨cs,ho,⟨hs,bk⟩,nH⟩,lH⟩:=hc.obj id _ hk;refine⟨E.blk id,off,λi=>cs.getD (off+i) undef,rfl,λi hi=> ?_,λ_=>(hc.jm hk rfl).1,λi x hx=> ?_⟩
    ·simp only[Uk]at hi;have hlt:off+i<cs.size:=(by omega);unfold View.get;by_cases hp:off+i<p
     ·rw[nH _ hp];simp only[SH,SJ hlt,S0]
     ·rw[lH _ (by omega),ho];simp only[SH,SJ hlt,S0]
    ·rw[Up]at hx;exact bk _ _ hx
   |own sz l' el=>
    cases h;obtain⟨⟨cs,ho,⟨hs,bk⟩,_⟩,lH⟩:=hc.obj id _ hk;refine⟨E.blk id,off,λi=>cs.getD (off+i) undef,rfl,λi hi=> ?_,λ_=>(hc.jm hk rfl).1,λi x hx=> ?_⟩
    ·simp only[Uk]at hi;have hlt:off+i<cs.size:=(by omega);unfold View.get;rw[lH,ho];simp only[SH,SJ hlt,S0]
    ·rw[Up]at hx;exact bk _ _ hx
   |_=>cases h
 |_=>cases h
theorem ap.shift{E:Env}{p q:AV}{v:SP}(hd:ap E p v){n:Nat}(h:p.shift n=some q):∃b o,v=.pointer (some ⟨b,o,none⟩)/\ap E q (.pointer (some ⟨b,o+n,none⟩)):=by
 cases hd with
 |rp b o f h1 h2=>
  simp only[AV.shift]at h;split at h
  ·rename_i hn;cases h;refine⟨b,o,rfl,.rp b (o+n) (λi=>f (n+i)) (λi hi=> ?_) (λi x hx=> ?_)⟩
   ·simp only[Uk]at hi;rw[U6];exact h1 _ (by omega)
   ·rw[Up]at hx;exact h2 _ _ hx
  ·cases h
 |op hi=>cases h;exact⟨_,_,rfl,.op hi⟩
 |_=>cases h
section
variable {P:SI}{V:View}{α:Type}{K:α->View->Prop}{Kp:SP->View->Prop}
theorem ee{t:TypeId}{d:TypeDesc}{k:TypeDesc->Sem α}(h:P.underlying t=some d)(hk:aQ P V (k d) K Kp):aQ P V (underlying t>>=k) K Kp:=by
 unfold underlying;refine az (az (qK (cI ?_)));rw[h];exact au hk
theorem zn{t:TypeId}{i:Wp}{k:Wp->Sem α}(h:P.info? t=some i)(hk:aQ P V (k i) K Kp):aQ P V (typeInfo t>>=k) K Kp:=by
 unfold typeInfo;refine az (az (qK (cI ?_)));rw[h];exact au hk
theorem jZ{t:TypeId}{i:Wp}{k:Nat->Sem α}(h:P.info? t=some i)(hk:aQ P V (k i.size) K Kp):aQ P V (sizeOf t>>=k) K Kp:=by
 refine az ?_;unfold sizeOf;exact zn h (au hk)
def TypeDesc.agg:TypeDesc->Bool
 |.struct _|.array _ _=>true
 |_=>false
theorem Eu{t:TypeId}{d:TypeDesc}{k:Bool->Sem α}(h:P.underlying t=some d)(hk:aQ P V (k (TypeDesc.agg d)) K Kp):aQ P V (isAgg t>>=k) K Kp:=by
 refine az ?_;unfold isAgg;refine ee h ?_;cases d<;>exact au hk
theorem aqZ{b o:Nat}{v:SP}{k:SP->Sem α}(hg:V.role.group≠some b)(e:V.get b o=some v)(hk:aQ P V (k v) K Kp):aQ P V (load ⟨b,o,none⟩>>=k) K Kp:=
 az (Oe e (.inl hg) (cI hk))
theorem ac9{b o:Nat}{f:Nat->SP}{K:Array SP->View->Prop}:∀(n i:Nat)(acc:Array SP),(0<n->V.role.group≠some b)->(∀j,j<n->V.get b (o+(i+j))=some (f (i+j)))->
  K (acc++((SU n).map λj=>f (i+j)).toArray) V->aQ P V (loadCellsFrom ⟨b,o,none⟩ i n acc) K Kp
 |0,i,acc,_,_,h=>au (by simpa using h)
 |n+1,i,acc,hg,he,h=>by
  have h0:=he 0 (by omega);unfold loadCellsFrom;rw[add_plain];refine aqZ (hg (by omega)) h0 ?_;refine ac9 n (i+1) _ (λ_=>hg (by omega)) (λj hj=>by have:=he (j+1) (by omega);rwa [show i+(j+1)=i+1+j by omega]at this) ?_;have e:(acc.push (f (i+0))++((SU n).map λj=>f (i+1+j)).toArray)=acc++((SU (n+1)).map λj=>f (i+j)).toArray:=by
   rw[List.range_succ_eq_map];apply VG;simp[YB,U6,Z7 1]
  rw[e];exact h
theorem BA{b o n:Nat}{f:Nat->SP}(hg:0<n->V.role.group≠some b){K:Array SP->View->Prop}(he:∀j,j<n->V.get b (o+j)=some (f j))(h:K ((SU n).map f).toArray V):aQ P V (loadCells ⟨b,o,none⟩ n) K Kp:=
 ac9 n 0 #[] hg (λj hj=>by simpa using he j hj) (by simpa using h)
end
theorem kU{α β:Type}{x:Option α}{f:α->β}{y:β}(h:x.map f=some y):∃a,x=some a/\f a=y:=Tq.1 h
def Ty (P:SI)(t:TypeId):Option (Nat×Bool):=(P.info? t).bind λi=>(P.underlying t).map λd=>(i.size,TypeDesc.agg d)
theorem Ty.out{P:SI}{t:TypeId}{n:Nat}{g:Bool}(h:Ty P t=some (n,g)):∃i d,P.info? t=some i/\P.underlying t=some d/\i.size=n/\TypeDesc.agg d=g:=by
 unfold Ty at h;obtain⟨i,h1,h2⟩:=Tg.1 h;obtain⟨d,h3,h4⟩:=kU h2;cases h4;exact⟨i,d,h1,h3,rfl,rfl⟩
theorem JD{E:Env}{l:List AV}{f:Nat->SP}{n:Nat}(hn:n<=l.length)(h:∀(i:Nat) x,l[i]?=some x->ap E x (f i)):ap E (.agg (l.take n)) (.agg ((SU n).map f).toArray):=by
 refine .agg (by simp;omega) λi x hx=> ?_;rw[Uf]at hx;split at hx
 ·rename_i hi;have:=h i x hx;simpa[SH,hi]using this
 ·cases hx
def AV.row:AV->Option (Nat×AV)
 |.sl n l _=>some (n,.rp l)
 |.bp id off n _=>some (n,.op id off)
 |_=>none
theorem ap.row{E:Env}{a p:AV}{v:SP}{n:Nat}(hd:ap E a v)(h:a.row=some (n,p))(h0:0<n):∃b o cap,v=.slice (some ⟨b,o,none⟩) n cap/\ap E p (.pointer (some ⟨b,o,none⟩)):=by
 cases hd with
 |sl b o cap f hc he h1 h2=>cases h;exact⟨b,o,cap,rfl,.rp b o f h1 h2⟩
 |nil he=>cases h;exact absurd h0 (by simp)
 |bp hi=>cases h;exact⟨_,_,_,rfl,.op hi⟩
 |_=>cases h
def AV.len:AV->Option Nat
 |.sl n _ _=>some n
 |.bp _ _ n _=>some n
 |_=>none
theorem ap.len{E:Env}{a:AV}{v:SP}{n:Nat}(hd:ap E a v)(h:a.len=some n):∃ad cap,v=.slice ad n cap:=by
 cases hd with
 |sl b o cap f hc he h1 h2=>cases h;exact⟨_,_,rfl⟩
 |nil he=>cases h;exact⟨_,_,rfl⟩
 |bp hi=>cases h;exact⟨_,_,rfl⟩
 |_=>cases h
def eX (P:SI)(t:TypeId)(k:Nat):Option Nat:=match P.underlying t with
 |some (.struct fs)=>match fs[k]?with
  |some f=>match P.info? f.type with
   |some i=>if i.size=0 then none else some f.offset
   |none=>none
  |none=>none
 |_=>none
def nX (P:SI)(t:TypeId):Option (Option Nat×Nat):=match P.underlying t with
 |some (.array n e)=>(P.info? e).map λi=>(some n,i.size)
 |some (.slice e)=>(P.info? e).map λi=>(none,i.size)
 |_=>none
inductive zK where
 |slice|map|str|arr (n:Nat)
def lz (P:SI)(t:TypeId):Option zK:=match P.underlying t with
 |some (.slice _)=>some .slice
 |some (.map _ _)=>some .map
 |some .string=>some .str
 |some (.array n _)=>some (.arr n)
 |_=>none
def I2 (P:SI)(t:TypeId)(k:Nat):Option (Nat×Nat×Bool):=match P.underlying t with
 |some (.struct fs)=>match fs[k]?with
  |some f=>(Ty P f.type).map λx=>(f.offset,x.1,x.2)
  |none=>none
 |_=>none
def IV (P:SI)(t:TypeId):Option (Nat×Nat×Bool):=match P.underlying t with
 |some (.array n e)=>(Ty P e).map λx=>(n,x.1,x.2)
 |_=>none
section
variable {lv:Bool}{P:SI}{r:Option Nat}{o:Tu}{s:AS}{next:AS->Prop}{bad:AV->AS->Prop}
theorem apO{t:TypeId}{x:Tj}{p:AV}{l:List AV}{n:Nat}(ho:o.op=.load t x)(ht:Ty P t=some (n,true))(hx:s.ev x=some p)(hl:s.at p=some l)(hlen:n<=l.length):dF lv P r o s ((.agg (l.take n))):=
 iZ (λE V a hc aG=>by
  obtain⟨i,d,h1,h2,rfl,h4⟩:=Ty.out ht;obtain⟨b,off,f,hv,hg,kj,hd⟩:=hc.at (ap.ev aG hx) hl;unfold execOp;rw[ho];simp only[hv];refine az ?_;unfold XF Vh;refine az (au ?_);unfold loadVar;refine Eu h2 ?_;rw[h4];simp only[if_true];refine jZ h1 ?_;refine az (BA (f:=f) (λh=>kj (by omega)) (λj hj=>hg j (by omega)) ?_);exact au (au ⟨rfl,_,rfl,JD hlen hd⟩))
theorem apP{t:TypeId}{x:Tj}{p:AV}{l:List AV}{n:Nat}{av:AV}(ho:o.op=.load t x)(ht:Ty P t=some (n,false))(hx:s.ev x=some p)(hl:s.at p=some l)(h0:l[0]?=some av):dF lv P r o s (av):=
 iZ (λE V a hc aG=>by
  obtain⟨i,d,h1,h2,rfl,h4⟩:=Ty.out ht;obtain⟨b,off,f,hv,hg,kj,hd⟩:=hc.at (ap.ev aG hx) hl;unfold execOp;rw[ho];simp only[hv];refine az ?_;unfold XF Vh;refine az (au ?_);unfold loadVar;refine Eu h2 ?_;rw[h4];simp only[TP,if_false];have hlen:0<l.length:=(SL.1 h0).1;have lG:=hg 0 hlen;rw[UI]at lG;exact Oe lG (.inl (kj hlen)) (cI (au ⟨rfl,_,rfl,hd 0 av h0⟩)))
def AV.sure:AV->Bool
 |.rp _|.op _ _=>true
 |.fn (.func _) _ _=>true
 |.fn (.yield _) _ _=>true
 |.da _ _=>true
 |_=>false
theorem apX{x:Tj}{p:AV}(ho:o.op=.nilCheck x)(hx:s.ev x=some p)(hp:p.sure=true):dF lv P r o s (p):=
 sk (λE V a hc aG=>by
  have hd:=ap.ev aG hx;refine⟨a.eval x,?_,hd⟩;unfold execOp;rw[ho];dsimp only;generalize a.eval x=v at hd⊢;cases hd with
  |rp=>rfl
  |op=>rfl
  |da=>rfl
  |fn dL fX h1 h2=>
   rename_i f _ _ _ _;cases f with
   |func=>rfl
   |yield=>rfl
   |_=>cases hp
  |_=>cases hp)
theorem apF{t:TypeId}{x:Tj}{k n:Nat}{p q:AV}(ho:o.op=.fieldAddr t x k)(ht:eX P t k=some n)(hx:s.ev x=some p)(hp:p.shift n=some q):dF lv P r o s (q):=
 iZ (λE V a hc aG=>by
  obtain⟨b,off,hv,hq⟩:=(ap.ev aG hx).shift hp;unfold eX at ht;split at ht
  ·rename_i fs hu;split at ht
   ·rename_i f hf;split at ht
    ·rename_i i hi;split at ht
     ·cases ht
     ·rename_i hz;cases ht;unfold execOp;rw[ho];simp only[hv];refine az ?_;unfold Instr.fieldAt;refine ee hu ?_;simp only[hf];unfold Vh;refine az (au ?_);unfold fieldPlace;refine az (jZ hi ?_);rw[if_neg hz];refine au (au (au ⟨rfl,_,rfl,?_⟩));rw[add_plain];exact hq
    ·cases ht
   ·cases ht
  ·cases ht)
theorem apI{t:TypeId}{x ix:Tj}{a p q:AV}{k:TZ}{i:Int}{n sz:Nat}(ho:o.op=.indexAddr t x ix)(ht:nX P t=some (none,sz))(hx:s.ev x=some a)(ha:a.row=some (n,p))(hi:s.ev ix=some (.val (.int k i)))(h0:0<=i)(h1:i<n)
  (hp:p.shift (i.toNat* sz)=some q):dF lv P r o s (q):=
 iZ (λE V ac hc aG=>by
  obtain⟨b,off,cap,hv,AT⟩:=(ap.ev aG hx).row ha (by omega);obtain⟨b',o',hb,hq⟩:=AT.shift hp;cases hb;have hd:=ap.ev aG hi;generalize qE:ac.eval ix=vi at hd;cases hd;unfold nX at ht;split at ht
  ·obtain⟨_,_,h⟩:=kU ht;cases h
  ·rename_i e hu;obtain⟨inf,LF,h⟩:=kU ht;cases h;unfold execOp;rw[ho];simp only[hv,qE];refine az ?_;unfold ZO asIntOf;refine az (au ?_);dsimp only;refine ee hu ?_;refine az (au ?_);dsimp only;refine ee hu ?_;dsimp only;rw[if_pos ⟨h0,h1⟩];refine jZ LF ?_;refine au (au ⟨rfl,_,rfl,?_⟩);rw[add_plain];exact hq
  ·cases ht)
theorem apJ{t:TypeId}{x ix:Tj}{p q:AV}{k:TZ}{i:Int}{n sz:Nat}(ho:o.op=.indexAddr t x ix)(ht:nX P t=some (some n,sz))(hx:s.ev x=some p)(hi:s.ev ix=some (.val (.int k i)))(h0:0<=i)(h1:i<n)
  (hp:p.shift (i.toNat* sz)=some q):dF lv P r o s (q):=
 iZ (λE V ac hc aG=>by
  obtain⟨b,off,hv,hq⟩:=(ap.ev aG hx).shift hp;have hd:=ap.ev aG hi;generalize qE:ac.eval ix=vi at hd;cases hd;unfold nX at ht;split at ht
  ·rename_i m e hu;obtain⟨inf,LF,h⟩:=kU ht;cases h;unfold execOp;rw[ho];simp only[hv,qE];refine az ?_;unfold ZO asIntOf;refine az (au ?_);dsimp only;refine ee hu ?_;dsimp only;unfold Vh;refine az (az (au (au ?_)));refine ee hu ?_;dsimp only;rw[if_pos ⟨h0,h1⟩];refine jZ LF ?_;refine au (au ⟨rfl,_,rfl,?_⟩);rw[add_plain];exact hq
  ·obtain⟨_,_,h⟩:=kU ht;cases h
  ·cases ht)
theorem acK{c:Xt}{x:Tj}{t:TypeId}{a:AV}{n:Nat}(ho:o.op=.call c)(aW:c.callee=.builtin .len)(pI:c.args[0]?=some x)(wU:c.argTypes[0]?=some t)(ht:lz P t=some .slice)(hx:s.ev x=some a)(ha:a.len=some n):dF lv P r o s (.val (.int .i64 n)):=
 iZ (λE V ac hc aG=>by
  obtain⟨ad,cap,hv⟩:=(ap.ev aG hx).len ha;unfold lz at ht;split at ht<;>cases ht;rename_i e hu;unfold execOp;rw[ho];dsimp only;unfold resolve;rw[aW];dsimp only;refine az (au ?_);unfold invoke builtin;dsimp only;refine az ?_;unfold Yp;have e1:(c.args.map ac.eval)[0]?=some (.slice ad n cap):=by simp[pI,hv]
  simp only[wU,e1];refine ee hu ?_;exact au (au ⟨rfl,_,rfl,.val _⟩))
theorem apN{c:Xt}{x:Tj}{t:TypeId}{b:ByteArray}(ho:o.op=.call c)(aW:c.callee=.builtin .len)(pI:c.args[0]?=some x)(wU:c.argTypes[0]?=some t)(ht:lz P t=some .str)(hx:s.ev x=some (.val (.string b))):dF lv P r o s (.val (.int .i64 b.size)):=
 iZ (λE V ac hc aG=>by
  have hd:=ap.ev aG hx;generalize hv:ac.eval x=v at hd;cases hd;unfold lz at ht;split at ht<;>cases ht;rename_i hu;unfold execOp;rw[ho];dsimp only;unfold resolve;rw[aW];dsimp only;refine az (au ?_);unfold invoke builtin;dsimp only;refine az ?_;unfold Yp;have e1:(c.args.map ac.eval)[0]?=some (.string b):=by simp[pI,hv]
  simp only[wU,e1];refine ee hu ?_;exact au (au ⟨rfl,_,rfl,.val _⟩))
theorem apM{c:Xt}{x:Tj}{t:TypeId}{id:Nat}{es:Array Wq}{ck:Nat}(ho:o.op=.call c)(aW:c.callee=.builtin .len)(pI:c.args[0]?=some x)(wU:c.argTypes[0]?=some t)(ht:lz P t=some .map)(hx:s.ev x=some (.mp id))(hk:s.H[id]?=some (.obj (.map es ck))):dF lv P r o s (.val (.int .i64 es.size)):=
 iZ (λE V ac hc aG=>by
  have hd:=ap.ev aG hx;generalize hv:ac.eval x=v at hd;cases hd;obtain⟨h1,h2,h3,h4⟩:=hc.obj id _ hk;unfold lz at ht;split at ht<;>cases ht;rename_i hu;unfold execOp;rw[ho];dsimp only;unfold resolve;rw[aW];dsimp only;refine az (au ?_);unfold invoke builtin;dsimp only;refine az ?_;unfold Yp;have e1:(c.args.map ac.eval)[0]?=some (.map (some (E.blk id))):=by simp[pI,hv]
  simp only[wU,e1];refine ee hu ?_;refine az (nU h1 h2 h3 (hc.jm hk rfl).2 (cI ?_));exact au (au ⟨rfl,_,rfl,.val _⟩))
theorem adb{t:TypeId}{n off:Nat}{g:Bool}{E:Env}{V:View}{l:List AV}{cs:Array SP}{K:SP->View->Prop}{Kp:SP->View->Prop}(ht:Ty P t=some (n,g))(hd:cJ E l cs)(hl:off+n<=l.length)(hn:g=false->0<n)
  (h:∀v,(g=true->ap E (.agg ((l.drop off).take n)) v)->(g=false->∀a,l[off]?=some a->ap E a v)->K v V):aQ P V (part t cs off) K Kp:=by
 obtain⟨i,d,h1,h2,rfl,h4⟩:=Ty.out ht;unfold part;refine Eu h2 ?_;rw[h4];cases g with
 |true=>
  simp only[if_true];refine jZ h1 (au (h _ (λ_=> .agg (by have:=hd.1;simp;omega) λj a e=> ?_) (by simp)));rw[Uf]at e;split at e
  ·rename_i hj;rw[Up]at e;have:=hd.2 _ _ e;have hlt:off+j<cs.size:=(by rw[hd.1];omega);have alp:j<(cs.extract off (off+i.size)).size:=(by have:=hd.1;simp;omega);rw[SH,SJ alp];rw[SH,SJ hlt]at this;simpa using this
  ·cases e
 |false=>
  simp only[TP,if_false];have hlt:off<cs.size:=by have:=hn rfl;rw[hd.1];omega
  rw[SJ hlt];refine au (h _ (by simp) λ_ a e=> ?_);have:=hd.2 _ _ e;rwa [SH,SJ hlt]at this
def AV.cut (l:List AV)(off n:Nat)(g:Bool):Option AV:=if off+n<=l.length/\(g=false->0<n)then(if g then some (.agg ((l.drop off).take n))else l[off]?)else none
theorem apG{t:TypeId}{x:Tj}{k off n:Nat}{g:Bool}{l:List AV}{av:AV}(ho:o.op=.field t x k)(ht:I2 P t k=some (off,n,g))(hx:s.ev x=some (.agg l))(hv:AV.cut l off n g=some av):dF lv P r o s av:=
 iZ (λE V a hc aG=>by
  have hd:=ap.ev aG hx;generalize he:a.eval x=v at hd;cases hd with
  |agg hs h=>
   unfold I2 at ht;split at ht
   ·rename_i fs hu;split at ht
    ·rename_i f hf;obtain⟨⟨n',g'⟩,h1,h2⟩:=kU ht;cases h2;unfold AV.cut at hv;split at hv
     ·rename_i yo;unfold execOp;rw[ho];simp only[he];refine az ?_;unfold Instr.field;refine ee hu ?_;simp only[hf];unfold asAgg;refine az (au ?_);refine adb h1 ⟨hs,h⟩ yo.1 yo.2 λv h3 h4=>au ⟨rfl,v,rfl,?_⟩;cases g' with
      |true=>simp only[if_true,Tm]at hv;subst hv;exact h3 rfl
      |false=>simp only[TP,if_false]at hv;exact h4 rfl _ hv
     ·cases hv
    ·cases ht
   ·cases ht)
theorem apL{t:TypeId}{x ix:Tj}{n sz:Nat}{g:Bool}{l:List AV}{av:AV}{k:TZ}{i:Int}(ho:o.op=.index t x ix)(ht:IV P t=some (n,sz,g))(hx:s.ev x=some (.agg l))(hi:s.ev ix=some (.val (.int k i)))(h0:0<=i)(h1:i<n)(hv:AV.cut l (i.toNat* sz) sz g=some av):dF lv P r o s av:=
 iZ (λE V a hc aG=>by
  have hd:=ap.ev aG hx;generalize he:a.eval x=v at hd;have oC:=ap.ev aG hi;generalize Lh:a.eval ix=vi at oC;cases oC;cases hd with
  |agg hs h=>
   unfold IV at ht;split at ht
   ·rename_i m e hu;obtain⟨⟨n',g'⟩,h2,h3⟩:=kU ht;cases h3;unfold AV.cut at hv;split at hv
    ·rename_i yo;obtain⟨inf,d,q1,q2,q3,q4⟩:=Ty.out h2;unfold execOp;rw[ho];simp only[he,Lh];refine az ?_;unfold Z4 asIntOf;refine az (au ?_);dsimp only;refine ee hu ?_;dsimp only;rw[if_pos ⟨h0,h1⟩];refine jZ q1 ?_;rw[q3];refine adb h2 ⟨hs,h⟩ yo.1 yo.2 λv h4 h5=>au ⟨rfl,v,rfl,?_⟩;cases g' with
     |true=>simp only[if_true,Tm]at hv;subst hv;exact h4 rfl
     |false=>simp only[TP,if_false]at hv;exact h5 rfl _ hv
    ·cases hv
   ·cases ht)
theorem apK{t:TypeId}{x ix:Tj}{b:ByteArray}{k:TZ}{i:Int}{c:UInt8}(ho:o.op=.index t x ix)(ht:lz P t=some .str)(hx:s.ev x=some (.val (.string b)))(hi:s.ev ix=some (.val (.int k i)))(h0:0<=i)(h1:b[i.toNat]?=some c):dF lv P r o s (.val (.int .u8 c.toNat)):=
 iZ (λE V a hc aG=>by
  have hd:=ap.ev aG hx;generalize he:a.eval x=v at hd;have oC:=ap.ev aG hi;generalize Lh:a.eval ix=vi at oC;cases oC;cases hd;unfold lz at ht;split at ht<;>cases ht;rename_i hu;unfold execOp;rw[ho];simp only[he,Lh];refine az ?_;unfold Z4 asIntOf;refine az (au ?_);dsimp only;refine ee hu ?_;dsimp only;rw[if_pos h0,h1];exact au (au ⟨rfl,_,rfl,.val _⟩))
theorem Qs{E:Env}{s:AS}{a:Act}(k:cg E s.T a.tmps){l:Array Tj}{aE:List AV}(h:l.toList.mapM s.ev=some aE):cJ E aE (l.map a.eval):=by
 have key:∀(l:List Tj)(aE:List AV),l.mapM s.ev=some aE->cJ E aE (l.map a.eval).toArray:=by
  intro l;induction l with
  |nil=>intro aE h;simp at h;subst h;exact⟨rfl,by simp⟩
  |cons x l ih=>
   intro aE h;simp only[Ub,Uj,TR,Tg,Tm]at h;obtain⟨b,h1,bs,h2,rfl⟩:=h;have:=ih bs h2;refine⟨by have:=this.1;simpa using this,λi c e=> ?_⟩;cases i with
   |zero=>simp at e;subst e;simpa[SH]using ap.ev k h1
   |succ i=>
    simp only[UN]at e;have:=this.2 i c e;simpa[SH]using this
 have:=key l.toList aE h;have e:l.map a.eval=(l.toList.map a.eval).toArray:=by apply VG;simp
 rw[e];exact this
theorem apR{f:Fn}{first cV:Array Tj}{fa ca:List AV}(ho:o.op=.makeFunc f first cV)(h1:first.toList.mapM s.ev=some fa)(h2:cV.toList.mapM s.ev=some ca):dF lv P r o s (.fn f fa ca):=
 sk (λE V a hc ht=>by
  have d1:=Qs ht h1;have d2:=Qs ht h2;exact⟨_,by unfold execOp;rw[ho];rfl,.fn d1.1 d2.1 d1.2 d2.2⟩)
def mj (P:SI)(t:TypeId):Option Bool:=(P.underlying t).map λ|.interface _=>true|_=>false
theorem apS{t:TypeId}{x:Tj}{av:AV}(ho:o.op=.makeInterface t x)(ht:mj P t=some false)(hx:s.ev x=some av):dF lv P r o s (.da t av):=
 iZ (λE V a hc aG=>by
  obtain⟨d,hu,hd⟩:=kU ht;unfold execOp;rw[ho];dsimp only;refine az ?_;unfold Instr.makeInterface;refine ee hu ?_;split
  ·cases hd
  ·exact au (au ⟨rfl,_,rfl,.da (ap.ev aG hx)⟩))
def BX (P:SI)(src dst:TypeId):Option (Option TZ):=(P.underlying src).bind λ_=>match P.underlying dst with
 |some (.int k)=>some (some k)
 |_=>none
theorem apB{src dst:TypeId}{x:Tj}{k j:TZ}{n:Int}(ho:o.op=.convert src dst x)(ht:BX P src dst=some (some k))(hx:s.ev x=some (.val (.int j n))):dF lv P r o s (.val (.int k (k.wrap n))):=
 iZ (λE V a hc aG=>by
  have hd:=ap.ev aG hx;generalize he:a.eval x=v at hd;cases hd;unfold BX at ht;obtain⟨d,h1,h2⟩:=Tg.1 ht;split at h2
  ·rename_i k' hu;cases h2;unfold execOp;rw[ho];simp only[he];refine az ?_;unfold convert;refine ee h1 (ee hu ?_);dsimp only;exact au (au ⟨rfl,_,rfl,.val _⟩)
  ·cases h2)
end
open Go.Conc
def Env.add (E:Env)(r:Nat)(I:cx):Env:={E with I:=I,n:=E.n+1,blk:=λk=>if k=E.n then r else E.blk k}
theorem Env.qF(E:Env)(r:Nat){I:cx}(hI:∀b o v,E.I b o=some v->I b o=some v):E.Le (E.add r I):=
 ⟨hI,Y4 _,λk hk=>by simp[Env.add,Wc hk],λ_ _=>SO _,λ_ _ _ _=>rfl,rfl,rfl⟩
def View.eI (V:View)(b:Nat)(cs:Array SP)(p:Nat->Bool):View:={V with ab:=λb' o=>if b'=b/\p o=true then cs[o]?else V.ab b' o}
theorem yb{V:View}{b:Nat}{cs:Array SP}{el:TypeId}{f:Nat×Nat}{p:Nat->Bool}(ho:V.own b=some (.cells cs el f))(hp:∀o,p o=true->V.ab b o=none):dU V (V.eI b cs p)where
 sat w h:=⟨λb' o v e=>by
   simp only[View.eI]at e;split at e
   ·rename_i hb;obtain⟨rfl,_⟩:=hb;have:=h.own _ _ ho;simpa[UA,this]using e
   ·exact h.ab _ _ _ e,λb' x e=>h.own b' x e⟩
 own b' e:=e
 ab b' o v e:=by
  have hn:¬(b'=b/\p o=true):=λhb=>by obtain⟨rfl,h2⟩:=hb;rw[hp o h2]at e;cases e
  simp only[View.eI,if_neg hn];exact e
 kI b' o v e:=by
  simp only[View.eI]at e;split at e
  ·rename_i hb;obtain⟨rfl,_⟩:=hb;exact .inr (by rw[ho];simp)
  ·exact .inl e
 deaf:=rfl
 role:=rfl
 chan c x _ h:=h
def View.kx (V:View)(r:Nat)(cs:Array SP):View:={V with ab:=λb o=>if b=r then cs[o]?else V.ab b o}
theorem akd{V:View}{r:Nat}{cs:Array SP}{el:TypeId}{f:Nat×Nat}(hf:V.fresh r)(hc:V.role.chan≠some r):dU (V.upd r (.cells cs el f)) (V.kx r cs)where
 sat w h:=⟨λb o v e=>by
   simp only[View.kx]at e;split at e
   ·rename_i hb;subst hb;have:=h.own b (.cells cs el f) (by simp[View.upd]);simpa[UA,this]using e
   ·exact h.ab b o v e,λb x e=>by
   have hb:b≠r:=λhb=>(by subst hb;rw[show (V.kx b cs).own b=V.own b from rfl,hf.1]at e;cases e);have e':V.own b=some x:=e;exact h.own b x (by simpa[View.upd,hb]using e')⟩
 own b e:=by
  simp only[View.upd]at e;split at e
  ·cases e
  ·exact e
 ab b o v e:=by
  have e':V.ab b o=some v:=e;have hb:b≠r:=λhb=>by subst hb;rw[hf.2 o]at e';cases e'
  simpa[View.kx,hb]using e'
 kI b o v e:=by
  simp only[View.kx]at e;split at e
  ·rename_i hb;exact .inr (by simp[View.upd,hb])
  ·exact .inl e
 deaf:=rfl
 role:=rfl
 chan c x hcx h:=by
  have hb:c≠r:=λhb=>by subst hb;exact hc hcx
  have h':V.own c=some x:=by simpa[View.upd,hb]using h
  exact h'
theorem Conc.aj2{E:Env}{V:View}{H:List aa}(hc:Conc E V H){r:Nat}(hf:V.own r=none):V.role.chan≠some r/\V.role.group≠some r:=
 ⟨λe=>(hc.chan r e).1 hf,λe=>(hc.group r e).1 hf⟩
theorem Conc.add{E:Env}{V:View}{H:List aa}(hc:Conc E V H){r:Nat}(hf:V.fresh r)(y:Obj){x:aa}(hx:fN (E.add r V.ab) (V.upd r y) E.n x)(hb:∀b,bO (E.add r V.ab) E.n x=some b->b=r):Conc (E.add r V.ab) (V.upd r y) (H++[x]):=by
 refine hc.iN (E':=E.add r V.ab) H.length x (E.qF r (λb o v h=>by rw[<- hc.I];exact h)) rfl (by simp[Env.add,hc.n]) D7 rfl (λ_ _ _=>rfl) (λb z _ hz=>⟨?_,λ_=>rfl⟩) (by rw[<- hc.n];exact hx) (λb h=> .inr ?_)
 ·have:b≠r:=λe=>by rw[e,hf.1]at hz;cases hz
  simpa[View.upd,this]using hz
 ·rw[<- hc.n]at h;rw[hb b h];exact hf.1
theorem Env.dM(E:Env)(r:Nat)(I:cx):(E.add r I).blk E.n=r:=by simp[Env.add]
theorem Qu{E:Env}{H:List aa}(hn:E.n=H.length)(r:Nat)(I:cx):ap (E.add r I) (.op H.length 0) (.pointer (some ⟨r,0,none⟩)):=by
 have:=ap.op (E:=E.add r I) (id:=H.length) (off:=0) (by show _<E.n+1;rw[hn];omega);have e:(E.add r I).blk H.length=r:=by rw[<- hn];exact E.dM r I
 rwa [e]at this
def AV.parts:AV->Option (List AV)
 |.agg l=>some l
 |.aN _=>none
 |.val (.agg _)=>none
 |a=>some [a]
theorem ap.parts{E:Env}{a:AV}{v:SP}{l:List AV}(h:ap E a v)(hp:a.parts=some l):cJ E l v.cells:=by
 have one:∀a v,ap E a v->v.cells=#[v]->cJ E [a] v.cells:=λa v h e=>by
  rw[e];refine⟨rfl,λi x hx=> ?_⟩;have hi:i=0:=by have:=(SL.1 hx).1;simpa using this
  subst hi;simp at hx;subst hx;simpa using h
 cases h with
 |val=>cases v<;>first|(cases hp;exact one _ _ (.val _) rfl)|cases hp
 |agg hs h=>cases hp;exact⟨hs,h⟩
 |aN hs h=>cases hp
 |sl b o cap f hc he h1 h2=>cases hp;exact one _ _ (.sl b o cap f hc he h1 h2) rfl
 |nil he=>cases hp;exact one _ _ (.nil he) rfl
 |bp hi dR=>cases hp;exact one _ _ (.bp hi dR) rfl
 |rp b o f h1 h2=>cases hp;exact one _ _ (.rp b o f h1 h2) rfl
 |op hi=>cases hp;exact one _ _ (.op hi) rfl
 |fn dL fX h1 h2=>cases hp;exact one _ _ (.fn dL fX h1 h2) rfl
 |da h=>cases hp;exact one _ _ (.da h) rfl
 |mp hi=>cases hp;exact one _ _ (.mp hi) rfl
def eJ (P:SI)(t:TypeId):Option SP:=(P.info? t).bind (·.zero)
def lX (z:SP):List AV:=z.cells.toList.map AV.pN
theorem JG(E:Env)(z:SP):cJ E (lX z) z.cells:=by
 refine⟨by simp[lX],λi a h=> ?_⟩;unfold lX at h;rw[To]at h;obtain⟨x,hx,rfl⟩:=Tq.1 h;have:z.cells[i]?=some x:=by simpa using hx
 rw[SH,this];exact JB E x
section
variable {P:SI}{V:View}{α:Type}{K:α->View->Prop}{Kp:SP->View->Prop}
theorem Ia{t:TypeId}{z:SP}{k:SP->Sem α}(h:eJ P t=some z)(hk:aQ P V (k z) K Kp):aQ P V (zeroValue t>>=k) K Kp:=by
 unfold eJ at h;obtain⟨i,h1,h2⟩:=Tg.1 h;refine az ?_;unfold zeroValue;refine zn h1 ?_;rw[h2];exact au hk
end
section
variable {lv:Bool}{P:SI}{r:Option Nat}{o:Tu}{s:AS}{next:AS->Prop}{bad:AV->AS->Prop}
theorem adG{t:TypeId}{l:List AV}(h:∀(E:Env)(V:View)(a:Act),Conc E V s.H->cg E s.T a.tmps->∃cs,cJ E l cs/\aQ P V (execOp a.eval o) (λnx V'=>∃rr,V.fresh rr/\V'=V.upd rr (.cells cs t)/\nx=.value (.pointer (some ⟨rr,0,none⟩))) (λ_ _=>False))
  (hn:next ((⟨s.T,s.H++[.cells l t]⟩:AS).put o.dst (.op s.H.length 0))):Step lv P r o s next bad:=by
 intro E V a N Q hc ht hd bA h1 _;obtain⟨cs,pn,qA⟩:=h E V a hc ht;refine⟨bA,qA.mono (λnx V' hx=> ?_) (λ_ _ hx=>hx.elim)⟩;obtain⟨rr,hf,rfl,rfl⟩:=hx;have hle:E.Le (E.add rr V.ab):=E.qF rr (λb o v h=>by rw[<- hc.I];exact h);have bi:Conc (E.add rr V.ab) (V.upd rr (.cells cs t)) (s.H++[.cells l t]):=by
  refine hc.add hf _ ⟨⟨cs,?_,pn.mono hle⟩,λo=> ?_⟩ (λb e=> ?_)
  ·rw[Env.dM];simp[View.upd]
  ·rw[Env.dM];exact hf.2 o
  ·simp only[bO,Env.dM,Tm]at e;exact e.symm
 exact h1 _ _ (a.put o.dst (.pointer (some ⟨rr,0,none⟩))) ((⟨s.T,s.H++[.cells l t]⟩:AS).put o.dst (.op s.H.length 0)) ⟨hle,dX _ _ _,put_defers _ _ _,rfl,rfl⟩ (by rw[fb];exact bi)
  (cg.h_ (s:=⟨s.T,s.H++[.cells l t]⟩) (ht.mono hle) hd (Qu hc.n rr V.ab)) hn
theorem adC{t:TypeId}{x:Tj}{av:AV}{l:List AV}(ho:o.op=.box t x)(hx:s.ev x=some av)(hl:av.parts=some l)(hn:next ((⟨s.T,s.H++[.cells l t]⟩:AS).put o.dst (.op s.H.length 0))):Step lv P r o s next bad:=
 adG (λE V a hc ht=>⟨(a.eval x).cells,(ap.ev ht hx).parts hl,by
  unfold execOp;rw[ho];dsimp only;refine az ?_;unfold Instr.box newVar newRow;refine az (az (az (oQ λrr hf=>cI (au (au (au (au ⟨rr,hf,rfl,rfl⟩)))))))⟩) hn
theorem adz{t:TypeId}{z:SP}(ho:o.op=.alloc t)(hz:eJ P t=some z)(hn:next ((⟨s.T,s.H++[.cells (lX z) t]⟩:AS).put o.dst (.op s.H.length 0))):Step lv P r o s next bad:=
 adG (λE V a hc ht=>⟨z.cells,JG E z,by
  unfold execOp;rw[ho];dsimp only;refine az ?_;unfold Instr.alloc;refine Ia hz ?_;unfold newVar newRow;refine az (az (az (oQ λrr hf=>cI (au (au (au (au ⟨rr,hf,rfl,rfl⟩)))))))⟩) hn
theorem arO{t:TypeId}(ho:o.op=.makeMap t none)(hn:next ((⟨s.T,s.H++[.obj (.map #[] 0)]⟩:AS).put o.dst (.mp s.H.length))):Step lv P r o s next bad:=by
 intro E V a N Q hc ht hd bA h1 _;refine⟨bA,?_⟩;unfold execOp;rw[ho];dsimp only;refine az ?_;unfold Instr.makeMap;refine az (oQ λrr hf=>cI (au (au ?_)));have hle:E.Le (E.add rr V.ab):=E.qF rr (λb o v h=>by rw[<- hc.I];exact h);have bi:Conc (E.add rr V.ab) (V.upd rr (.map #[] 0)) (s.H++[.obj (.map #[] 0)]):=by
  refine hc.add hf _ ⟨?_,rfl,rfl,λo=> ?_⟩ (λb e=> ?_)
  ·rw[Env.dM];simp[View.upd]
  ·rw[Env.dM];exact hf.2 o
  ·simp only[bO,Env.dM,Tm]at e;exact e.symm
 have bk:ap (E.add rr V.ab) (.mp s.H.length) (.map (some rr)):=by
  have:=ap.mp (E:=E.add rr V.ab) (id:=s.H.length) (by show _<E.n+1;rw[hc.n];omega);have e:(E.add rr V.ab).blk s.H.length=rr:=by rw[<- hc.n];exact E.dM rr _
  rwa [e]at this
 exact h1 _ _ (a.put o.dst (.map (some rr))) ((⟨s.T,s.H++[.obj (.map #[] 0)]⟩:AS).put o.dst (.mp s.H.length)) ⟨hle,dX _ _ _,put_defers _ _ _,rfl,rfl⟩ (by rw[fb];exact bi)
  (cg.h_ (s:=⟨s.T,s.H++[.obj (.map #[] 0)]⟩) (ht.mono hle) hd bk) hn
end
def storeAt:Array SP->Nat->List SP->Array SP
 |cs,_,[]=>cs
 |cs,o,v::vs=>storeAt (cs.setIfInBounds o v) (o+1) vs
theorem zr:∀(vs:List SP)(cs:Array SP)(o:Nat),(storeAt cs o vs).size=cs.size
 |[],_,_=>rfl
 |v::vs,cs,o=>by rw[storeAt,zr];simp
theorem EB:∀(vs:List SP)(cs:Array SP)(o k:Nat),o+vs.length<=cs.size->(storeAt cs o vs).getD k undef=if o<=k/\k<o+vs.length then vs.getD (k-o) undef else cs.getD k undef
 |[],cs,o,k,_=>by
  have:¬(o<=k/\k<o+([]:List SP).length):=by intro h;simp only[UW]at h;omega
  rw[if_neg this];rfl
 |v::vs,cs,o,k,h=>by
  simp only[Un]at h;rw[storeAt,EB vs _ (o+1) k (by simp;omega)];by_cases h1:k=o
  ·subst h1;rw[if_neg (by omega),if_pos (by simp)];simp[SH,Tb (show k<cs.size by omega)]
  ·by_cases h2:o+1<=k/\k<o+1+vs.length
   ·rw[if_pos h2,if_pos (by simp only[Un];omega)];have:k-o=(k-(o+1))+1:=(by omega);rw[this];simp[SE]
   ·rw[if_neg h2,if_neg (by simp only[Un];omega)];simp[SH,SV (Ne.symm h1)]
theorem as1(V:View)(b:Nat)(x y:Obj):(V.upd b x).upd b y=V.upd b y:=by
 unfold View.upd;congr 1;funext k;dsimp only;split<;>rfl
theorem as3{V:View}{b:Nat}{x:Obj}(h:V.own b=some x):V.upd b x=V:=by
 unfold View.upd;have:(λk=>if k=b then some x else V.own k)=V.own:=by
  funext k;split
  ·rename_i e;subst e;rw[h]
  ·rfl
 rw[this]
section
variable {P:SI}{K:Unit->View->Prop}{Kp:SP->View->Prop}{b off:Nat}{el:TypeId}
theorem BD:∀(vs:List SP)(i:Nat)(V:View)(cs:Array SP),V.role.group≠some b->V.role.chan≠some b->V.own b=some (.cells cs el (0,0))->(∀o,off+i<=o->o<off+i+vs.length->V.ab b o=none)->off+i+vs.length<=cs.size->(∀v∈vs,v.one=true)->
  K () (V.upd b (.cells (storeAt cs (off+i) vs) el (0,0)))->aQ P V (storeCells ⟨b,off,none⟩ vs i) K Kp
 |[],i,V,cs,hg,hc,ho,hi,hl,hv,h=>by
  unfold storeCells;rw[show storeAt cs (off+i) []=cs from rfl,as3 ho]at h;exact au h
 |v::vs,i,V,cs,hg,hc,ho,hi,hl,hv,h=>by
  unfold storeCells;rw[add_plain];simp only[Un]at hl hi;refine az (aq4 ho (by omega) (hi _ (by omega) (by omega)) (hv v (TC ..)) (by omega) (.inl hg) hc (cI ?_));refine BD vs (i+1) (V.upd b (.cells (cs.setIfInBounds (off+i) v) el (0,0))) (cs.setIfInBounds (off+i) v) hg hc (by simp[View.upd]) (λo h1 h2=>hi o (by omega) (by omega)) (by simp;omega) (λx hx=>hv x (Td _ hx)) ?_;rw[as1];exact h
end
theorem Conc.set{E:Env}{V:View}{H:List aa}(hc:Conc E V H){id:Nat}{l l':List AV}{el:TypeId}(hk:H[id]?=some (.cells l el)){eK:Array SP}(hd:cJ E l' eK):Conc E (V.upd (E.blk id) (.cells eK el (0,0))) (H.set id (.cells l' el)):=by
 obtain⟨⟨cs,h1,_⟩,h3⟩:=hc.obj id _ hk;refine hc.iN id (.cells l' el) (Env.Le.refl E) hc.I (by simpa using hc.n) ln rfl (λ_ _ _=>rfl) (λb y hb hy=>⟨?_,λ_=>rfl⟩) ⟨⟨eK,by simp[View.upd],hd⟩,h3⟩ (λb h=> .inl ⟨_,hk,h⟩);have:b≠E.blk id:=λe=>hb _ hk (by rw[e];rfl);simpa[View.upd,this]using hy
theorem adJ:∀(vs:List SP)(cs:Array SP)(off o:Nat),o<off->(storeAt cs off vs)[o]?=cs[o]?
 |[],_,_,_,_=>rfl
 |v::vs,cs,off,o,h=>by
  rw[storeAt,adJ vs _ (off+1) o (by omega),SV (by omega)]
theorem Conc.Ew{E:Env}{V:View}{H:List aa}(hc:Conc E V H){id p:Nat}{l l':List AV}{el:TypeId}(hk:H[id]?=some (.part p l el)){cs eK:Array SP}(h1:V.own (E.blk id)=some (.cells cs el (0,0)))(hd:j4 E l' eK)(hs:∀o,o<p->eK[o]?=cs[o]?):Conc E (V.upd (E.blk id) (.cells eK el (0,0))) (H.set id (.part p l' el)):=by
 obtain⟨⟨Aa,q1,_,q2⟩,h3⟩:=hc.obj id _ hk;rw[h1]at q1;cases q1;refine hc.iN id (.part p l' el) (Env.Le.refl E) hc.I (by simpa using hc.n) ln rfl (λ_ _ _=>rfl) (λb y hb hy=>⟨?_,λ_=>rfl⟩) ⟨⟨eK,by simp[View.upd],hd,λo ho=>(q2 o ho).trans (hs o ho).symm⟩,h3⟩ (λb h=> .inl ⟨_,hk,h⟩);have:b≠E.blk id:=λe=>hb _ hk (by rw[e];rfl);simpa[View.upd,this]using hy
theorem Conc.adk{E:Env}{V:View}{H:List aa}(hc:Conc E V H){id sz:Nat}{l l':List AV}{el:TypeId}(hk:H[id]?=some (.own sz l el)){eK:Array SP}(hd:j4 E l' eK)(hz:eK.size=(E.room id 0).2* sz):Conc E (V.upd (E.blk id) (.cells eK el (0,0))) (H.set id (.own sz l' el)):=by
 obtain⟨⟨cs,h1,_⟩,h3⟩:=hc.obj id _ hk;refine hc.iN id (.own sz l' el) (Env.Le.refl E) hc.I (by simpa using hc.n) ln rfl (λ_ _ _=>rfl) (λb y hb hy=>⟨?_,λ_=>rfl⟩) ⟨⟨eK,by simp[View.upd],hd,hz⟩,h3⟩ (λb h=> .inl ⟨_,hk,h⟩);have:b≠E.blk id:=λe=>hb _ hk (by rw[e];rfl);simpa[View.upd,this]using hy
theorem Conc.setObj{E:Env}{V:View}{H:List aa}(hc:Conc E V H){id:Nat}{x y:Obj}(hk:H[id]?=some (.obj x))(h1:y.ve=false)(h2:y.isChan=false):Conc E (V.upd (E.blk id) y) (H.set id (.obj y)):=by
 obtain⟨p1,p2,p3,p4⟩:=hc.obj id _ hk;refine hc.iN id (.obj y) (Env.Le.refl E) hc.I (by simpa using hc.n) ln rfl (λ_ _ _=>rfl) (λb z hb hz=>⟨?_,λ_=>rfl⟩) ⟨by simp[View.upd],h1,h2,p4⟩ (λb h=> .inl ⟨_,hk,h⟩);have:b≠E.blk id:=λe=>hb _ hk (by rw[e];rfl);simpa[View.upd,this]using hz
theorem anf{E:Env}{a:AV}{v:SP}(h:ap E a v)(hl:a.leaf=true):v.one=true:=by
 cases h with
 |val x=>exact hl
 |agg _ _=>cases hl
 |aN _ _=>cases hl
 |_=>rfl
def iJ (l:List AV)(off:Nat)(lp:List AV):List AV:=l.take off++lp++l.drop (off+lp.length)
theorem JE{E:Env}{l lp:List AV}{cs vs:Array SP}{off:Nat}(h:cJ E l cs)(k:cJ E lp vs)(hl:off+lp.length<=l.length):cJ E (iJ l off lp) (storeAt cs off vs.toList):=by
 have hv:vs.toList.length=lp.length:=by simpa using k.1
 refine⟨by rw[zr,h.1];simp[iJ];omega,λi a e=> ?_⟩;rw[EB _ _ _ _ (by rw[h.1,hv];exact hl),hv];unfold iJ at e;by_cases h1:i<off
 ·rw[if_neg (by omega)];rw[SC,SX (by simp;omega),Uf,if_pos h1]at e;exact h.2 i a e
 ·by_cases h2:i<off+lp.length
  ·rw[if_pos ⟨by omega,h2⟩];rw[SX (by simp;omega),Ta (by simp;omega)]at e;have e':lp[i-off]?=some a:=by
    have:min off l.length=off:=(by omega);simpa[this]using e
   have:=k.2 _ a e';simpa[SH,SE]using this
  ·rw[if_neg (by omega)];rw[Ta (by simp;omega),Up]at e;have e':l[i]?=some a:=by
    have h3:off+lp.length+(i-(l.take off++lp).length)=i:=(by simp;omega);rw[h3]at e;exact e
   exact h.2 i a e'
theorem Qz{E:Env}{l lp:List AV}{cs vs:Array SP}{off:Nat}(h:j4 E l cs)(k:cJ E lp vs)(hl:off+lp.length<=l.length):j4 E (iJ l off lp) (storeAt cs off vs.toList):=by
 have hv:vs.toList.length=lp.length:=by simpa using k.1
 refine⟨by rw[zr];have:=h.1;simp[iJ];omega,λi a e=> ?_⟩;rw[EB _ _ _ _ (by have:=h.1;rw[hv];omega),hv];unfold iJ at e;by_cases h1:i<off
 ·rw[if_neg (by omega)];rw[SC,SX (by simp;omega),Uf,if_pos h1]at e;exact h.2 i a e
 ·by_cases h2:i<off+lp.length
  ·rw[if_pos ⟨by omega,h2⟩];rw[SX (by simp;omega),Ta (by simp;omega)]at e;have e':lp[i-off]?=some a:=by
    have:min off l.length=off:=(by omega);simpa[this]using e
   have:=k.2 _ a e';simpa[SH,SE]using this
  ·rw[if_neg (by omega)];rw[Ta (by simp;omega),Up]at e;have e':l[i]?=some a:=by
    have h3:off+lp.length+(i-(l.take off++lp).length)=i:=(by simp;omega);rw[h3]at e;exact e
   exact h.2 i a e'
theorem CF{E:Env}{lp:List AV}{vs:Array SP}(h:cJ E lp vs)(nA:∀a∈lp,a.leaf=true):∀v∈vs.toList,v.one=true:=by
 intro v hv;obtain⟨j,hj⟩:=UV.1 hv;have e9:j<lp.length:=by have:=(SL.1 hj).1;have:=h.1;simp at*;omega
 have:=h.2 j lp[j] (SW e9);have iE:vs[j]?=some v:=by simpa using hj
 rw[SH,iE]at this;exact anf this (nA _ (Wz e9))
section
variable {lv:Bool}{P:SI}{r:Option Nat}{o:Tu}{s:AS}{next:AS->Prop}{bad:AV->AS->Prop}
theorem adH{t:TypeId}{x y:Tj}{id off n:Nat}{l lp:List AV}{el:TypeId}{g:Bool}{av:AV}(ho:o.op=.store t x y)(ht:Ty P t=some (n,g))(hx:s.ev x=some (.op id off))(hk:s.H[id]?=some (.cells l el))(hy:s.ev y=some av)(hp:av.parts=some lp)(iW:lp.length=n)(hl:off+lp.length<=l.length)
  (nA:∀a∈lp,a.leaf=true) (hn:next ((⟨s.T,s.H.set id (.cells (iJ l off lp) el)⟩:AS).put o.dst (.val undef))):Step lv P r o s next bad:=by
 intro E V a N Q hc aG hd bA h1 _;obtain⟨i,d,q1,q2,rfl,q4⟩:=Ty.out ht;have dC:=ap.ev aG hx;generalize ku:a.eval x=vx at dC;cases dC with
 |op bX=>
  have bk:=(ap.ev aG hy).parts hp;obtain⟨⟨cs,p1,p2⟩,p3⟩:=hc.obj id _ hk;obtain⟨g1,g2⟩:=hc.jm hk rfl;refine⟨bA,?_⟩;unfold execOp;rw[ho];simp only[ku];refine az ?_;unfold Ym Vh;refine az (au ?_);unfold storeVar;refine jZ q1 ?_;rw[if_neg (by rw[bk.1,iW];simp)];refine BD _ 0 V cs g1 g2 p1 (λo _ _=>p3 o) (by have:=bk.1;have:=p2.1;simp;omega) (CF bk nA) ?_;rw[UI];exact au (h1 E _ (a.put o.dst undef) _ ⟨Env.Le.refl E,dX _ _ _,put_defers _ _ _,rfl,rfl⟩ (by rw[fb];exact hc.set hk (JE p2 bk hl))
   (cg.h_ (s:=⟨s.T,s.H.set id (.cells (iJ l off lp) el)⟩) aG hd (.val undef)) hn)
theorem arU{t:TypeId}{x y:Tj}{id off n p:Nat}{l lp:List AV}{el:TypeId}{g:Bool}{av:AV}(ho:o.op=.store t x y)(ht:Ty P t=some (n,g))(hx:s.ev x=some (.op id off))(hk:s.H[id]?=some (.part p l el))(hpo:p<=off)(hy:s.ev y=some av)(hp:av.parts=some lp)(iW:lp.length=n)(hl:off+lp.length<=l.length)
  (nA:∀a∈lp,a.leaf=true) (hn:next ((⟨s.T,s.H.set id (.part p (iJ l off lp) el)⟩:AS).put o.dst (.val undef))):Step lv P r o s next bad:=by
 intro E V a N Q hc aG hd bA h1 _;obtain⟨i,d,q1,q2,rfl,q4⟩:=Ty.out ht;have dC:=ap.ev aG hx;generalize ku:a.eval x=vx at dC;cases dC with
 |op bX=>
  have bk:=(ap.ev aG hy).parts hp;obtain⟨⟨cs,p1,p2,p4⟩,p3⟩:=hc.obj id _ hk;obtain⟨g1,g2⟩:=hc.jm hk rfl;refine⟨bA,?_⟩;unfold execOp;rw[ho];simp only[ku];refine az ?_;unfold Ym Vh;refine az (au ?_);unfold storeVar;refine jZ q1 ?_;rw[if_neg (by rw[bk.1,iW];simp)];refine BD _ 0 V cs g1 g2 p1 (λo _ _=>p3 o (by omega)) (by have:=bk.1;have:=p2.1;simp;omega) (CF bk nA) ?_;rw[UI];exact au (h1 E _ (a.put o.dst undef) _ ⟨Env.Le.refl E,dX _ _ _,put_defers _ _ _,rfl,rfl⟩ (by rw[fb];exact hc.Ew hk p1 (Qz p2 bk hl) λo ho=>adJ _ _ _ _ (by omega))
   (cg.h_ (s:=⟨s.T,s.H.set id (.part p (iJ l off lp) el)⟩) aG hd (.val undef)) hn)
theorem adI{t:TypeId}{x y:Tj}{id off n p:Nat}{l lp:List AV}{el:TypeId}{g:Bool}{av:AV}(ho:o.op=.store t x y)(ht:Ty P t=some (n,g))(hx:s.ev x=some (.op id off))(hk:s.H[id]?=some (.own p l el))(hy:s.ev y=some av)(hp:av.parts=some lp)(iW:lp.length=n)(hl:off+lp.length<=l.length)
  (nA:∀a∈lp,a.leaf=true) (hn:next ((⟨s.T,s.H.set id (.own p (iJ l off lp) el)⟩:AS).put o.dst (.val undef))):Step lv P r o s next bad:=by
 intro E V a N Q hc aG hd bA h1 _;obtain⟨i,d,q1,q2,rfl,q4⟩:=Ty.out ht;have dC:=ap.ev aG hx;generalize ku:a.eval x=vx at dC;cases dC with
 |op bX=>
  have bk:=(ap.ev aG hy).parts hp;obtain⟨⟨cs,p1,p2,p4⟩,p3⟩:=hc.obj id _ hk;obtain⟨g1,g2⟩:=hc.jm hk rfl;refine⟨bA,?_⟩;unfold execOp;rw[ho];simp only[ku];refine az ?_;unfold Ym Vh;refine az (au ?_);unfold storeVar;refine jZ q1 ?_;rw[if_neg (by rw[bk.1,iW];simp)];refine BD _ 0 V cs g1 g2 p1 (λo _ _=>p3 o) (by have:=bk.1;have:=p2.1;simp;omega) (CF bk nA) ?_;rw[UI];exact au (h1 E _ (a.put o.dst undef) _ ⟨Env.Le.refl E,dX _ _ _,put_defers _ _ _,rfl,rfl⟩ (by rw[fb];exact hc.adk hk (Qz p2 bk hl) (by rw[zr];exact p4))
   (cg.h_ (s:=⟨s.T,s.H.set id (.own p (iJ l off lp) el)⟩) aG hd (.val undef)) hn)
theorem Conc.kx{E:Env}{V:View}{H:List aa}(hc:Conc E V H){r:Nat}(hf:V.fresh r)(cs:Array SP):E.Le {E with I:=(V.kx r cs).ab}/\Conc {E with I:=(V.kx r cs).ab} (V.kx r cs) H:=by
 have hle:E.Le {E with I:=(V.kx r cs).ab}:=⟨λb o v h=>by
  rw[hc.I]at h;have hb:b≠r:=λhb=>by subst hb;rw[hf.2 o]at h;cases h
  simpa[View.kx,hb]using h,SO _,λ_ _=>rfl,λ_ _=>SO _,λ_ _ _ _=>rfl,rfl,rfl⟩
 have hlt:∀(k:Nat) y,H[k]?=some y->k<E.n:=λk y h=>by rw[hc.n];exact(SL.1 h).1
 refine⟨hle,rfl,hc.n,λk x h=>(hc.obj k x h).mono hle (hlt k x h) rfl (λb y _ hb=>hb) (λb hb o=> ?_),hc.inj,λg hg=> ?_,λg hg=> ?_,hc.top,λb y hg=> ?_⟩
 ·obtain⟨y,hy⟩:=(hc.obj k x h).Cw hb;have aF:b≠r:=λe=>by subst e;rw[hf.1]at hy;cases hy
  simp[View.kx,aF]
 ·obtain⟨h0,h1,h2⟩:=hc.group g hg;have aF:g≠r:=λe=>by subst e;exact h0 hf.1
  exact⟨h0,λo=>by simp[View.kx,aF,h1 o],h2⟩
 ·obtain⟨h0,h1,h2⟩:=hc.chan g hg;have aF:g≠r:=λe=>by subst e;exact h0 hf.1
  exact⟨h0,λo=>by simp[View.kx,aF,h1 o],h2⟩
 ·obtain⟨h0,h1,h2⟩:=hc.fr b y hg;have aF:b≠r:=λe=>by subst e;rw[hf.1]at h0;cases h0
  exact⟨h0,λo=>by simp[View.kx,aF,h1 o],h2⟩
theorem ap.apn{E:Env}{V:View}{H:List aa}(hc:Conc E V H){r:Nat}(hf:V.fresh r){cs:Array SP}{l:List AV}(h:cJ E l cs){n cap:Nat}(dR:n<=cap){e:End}(he:pU {E with I:=(V.kx r cs).ab} e (some ⟨r,0,none⟩) n cap):ap {E with I:=(V.kx r cs).ab} (.sl n l e) (.slice (some ⟨r,0,none⟩) n cap):=by
 refine .sl r 0 cap (λi=>cs.getD i undef) dR he (λi hi=> ?_) λi x hx=>(h.2 i x hx).mono (hc.kx hf cs).1;have hlt:i<cs.size:=by rw[h.1];exact hi
 simp[View.kx,SH,SJ hlt]
def oo (place:Nat->Option (Nat×Nat))(cells:List AV):List (Nat×AV)->Option (List AV)
 |[]=>some cells
 |(i,a)::rest=>match place i,a.parts with
  |some (off,size),some lp=>if lp.length≠size\/off+lp.length>cells.length then none else oo place (iJ cells off lp) rest
  |_,_=>none
theorem Rv:∀(vs:List SP)(k off:Nat)(cs:Array SP),(vs.zipIdx k).foldl (λ(cs:Array SP) (x:SP×Nat)=>cs.setIfInBounds (off+x.2) x.1) cs=storeAt cs (off+k) vs
 |[],_,_,_=>rfl
 |v::vs,k,off,cs=>by
  rw[List.zipIdx_cons,U4,Rv vs (k+1) off];rfl
theorem CI{E:Env}{place:Nat->Option (Nat×Nat)}:∀{parts:List (Nat×AV)}{vs:List (Nat×SP)}{l l':List AV}{cs:Array SP},cJ E l cs->parts.length=vs.length->(∀(j:Nat) p q,parts[j]?=some p->vs[j]?=some q->p.1=q.1/\ap E p.2 q.2)->
  oo place l parts=some l'->∃eK,ab_ place cs vs=some eK/\cJ E l' eK
 |[],[],l,l',cs,h,_,_,e=>by cases e;exact⟨cs,rfl,h⟩
 |[],_::_,_,_,_,_,h,_,_=>by simp at h
 |_::_,[],_,_,_,_,h,_,_=>by simp at h
 |(i,a)::parts,(i',v)::vs,l,l',cs,h,hl,hp,e=>by
  obtain⟨e1,hd⟩:=hp 0 (i,a) (i',v) rfl rfl;have e1':i=i':=e1;subst e1';simp only[oo]at e;split at e
  ·rename_i off size lp du Ma;split at e
   ·cases e
   ·rename_i hc;have bk:=ap.parts (v:=v) hd Ma;have aV:v.cells.size=lp.length:=bk.1;have hle:off+lp.length<=l.length:=(by omega);obtain⟨eK,h1,h2⟩:=CI (JE h bk hle) (by simpa using hl) (λj p q x y=>hp (j+1) p q (by simpa using x) (by simpa using y)) e;refine⟨eK,?_,h2⟩;unfold ab_;rw[du];simp only;rw[if_neg (by rw[aV,h.1];simp;omega)];have:=Rv v.cells.toList 0 off cs;rw[UI]at this;rw[<- h1,<- this];congr 1;rw[<- Array.toList_zipIdx,Array.foldl_toList]
  ·cases e
def j7 (s:AS):List (Nat×Tj)->Option (List (Nat×AV))
 |[]=>some []
 |(i,x)::l=>match s.ev x,j7 s l with
  |some a,some aE=>some ((i,a)::aE)
  |_,_=>none
theorem FQ{E:Env}{s:AS}{a:Act}(k:cg E s.T a.tmps):∀{l:List (Nat×Tj)}{aE:List (Nat×AV)},j7 s l=some aE->aE.length=(l.map λ(i,x)=>(i,a.eval x)).length/\∀(j:Nat) p q,aE[j]?=some p->(l.map λ(i,x)=>(i,a.eval x))[j]?=some q->p.1=q.1/\ap E p.2 q.2
 |[],aE,h=>by cases h;exact⟨rfl,by simp⟩
 |(i,x)::l,aE,h=>by
  simp only[j7]at h;split at h
  ·rename_i av l6 h1 h2;cases h;obtain⟨mN,lm⟩:=FQ k h2;refine⟨by simpa using mN,λj p q e1 e2=> ?_⟩;cases j with
   |zero=>simp at e1 e2;subst e1 e2;exact⟨rfl,ap.ev k h1⟩
   |succ j=>exact lm j p q (by simpa using e1) (by simpa using e2)
  ·cases h
def re (P:SI)(t:TypeId):Option (TypeId×Nat×SP):=match P.underlying t with
 |some (.slice e)=>(P.info? e).bind λi=>i.zero.map λz=>(e,i.size,z)
 |_=>none
def gU (z:SP)(m:Nat):List AV:=(SU m).map λi=>AV.pN (z.cells[i % z.cells.size]!)
inductive iD where
 |fields (l:List (Nat×Nat))
 |elems (sz:Nat)
def iD.at:iD->Nat->Option (Nat×Nat)
 |.fields l,i=>l[i]?
 |.elems sz,i=>some (i* sz,sz)
def oU (P:SI)(t:TypeId):Option (iD×SP):=(eJ P t).bind λz=>match P.underlying t with
 |some (.struct fs)=>(fs.toList.mapM λf=>(P.info? f.type).map λi=>(f.offset,i.size)).map λl=>(.fields l,z)
 |some (.array _ e)=>(P.info? e).map λi=>(.elems i.size,z)
 |_=>none
theorem adc{P:SI}{V:View}{Kp:SP->View->Prop}:∀(fs:List Y0)(l:List (Nat×Nat)){K:List (Nat×Nat)->View->Prop},fs.mapM (λf=>(P.info? f.type).map λi=>(f.offset,i.size))=some l->
  K l V->aQ P V (fs.mapM λf=>(do pure (f.offset,<- sizeOf f.type):Sem (Nat×Nat))) K Kp
 |[],l,K,h,hk=>by
  simp at h;subst h;rw[UE];exact au hk
 |f::fs,l,K,h,hk=>by
  simp only[Ub,Uj,TR,Tg,Tm]at h;obtain⟨b,h1,bs,h2,rfl⟩:=h;obtain⟨i,hi,rfl⟩:=kU h1;rw[Ub];exact az (jZ hi (au (az (adc fs bs h2 (au hk)))))
theorem apz{t:TypeId}{parts:Array (Nat×Tj)}{pl:iD}{z:SP}{aE:List (Nat×AV)}{l:List AV}(ho:o.op=.build t parts)(ht:oU P t=some (pl,z))(hp:j7 s parts.toList=some aE)
  (hl:oo pl.at (lX z) aE=some l):dF lv P r o s (.agg l):=
 iZ (λE V a hc aG=>by
  unfold oU at ht;obtain⟨z',hz,ht⟩:=Tg.1 ht;obtain⟨hlen,bk⟩:=FQ aG hp;unfold execOp;rw[ho];dsimp only;refine az ?_;unfold Instr.build;refine Ia hz ?_;split at ht
  ·rename_i fs hu;obtain⟨lp,h1,h2⟩:=kU ht;cases h2;obtain⟨eK,nz,uK⟩:=CI (JG E z) hlen bk hl;refine ee hu ?_;dsimp only;have e:fs=fs.toList.toArray:=(by simp);rw[e,X2];refine az ?_;refine az (adc fs.toList lp h1 ?_);refine au ?_;rw[VN];have e2:(λx=>lp.toArray[x]?)=iD.at (.fields lp):=(by funext x;simp[iD.at]);rw[e2,nz];exact au (au ⟨rfl,_,rfl,.agg uK.1 uK.2⟩)
  ·rename_i n e hu;obtain⟨i,h1,h2⟩:=kU ht;cases h2;obtain⟨eK,nz,uK⟩:=CI (JG E z) hlen bk hl;refine ee hu ?_;dsimp only;refine jZ h1 ?_;rw[VN];have e2:(λj=>some (j* i.size,i.size))=iD.at (.elems i.size):=rfl;rw[e2,nz];exact au (au ⟨rfl,_,rfl,.agg uK.1 uK.2⟩)
  ·cases ht)
theorem JF{E:Env}(z:SP)(m:Nat):cJ E (gU z m) ((WO m).map (λx=>z.cells[x % z.cells.size]!)):=by
 refine⟨by simp[gU],λj x hx=> ?_⟩;unfold gU at hx;rw[To]at hx;obtain⟨k,hk,rfl⟩:=Tq.1 hx;have hj:j<m:=by have:=(SL.1 hk).1;simpa using this
 have hmj:k=j:=by rw[XC hj]at hk;cases hk;rfl
 subst hmj;simp only[SH,WI,Array.getElem?_range,hj,if_true,UT,S0];exact JB E _
theorem apA{t e:TypeId}{len sz:Nat}{z:SP}{parts:Array (Nat×Tj)}{aE:List (Nat×AV)}{l:List AV}(ho:o.op=.buildSlice t len parts)(ht:re P t=some (e,sz,z))(aV:len* sz<=2^24)(hp:j7 s parts.toList=some aE)
  (hl:oo (iD.at (.elems sz)) (gU z (len* sz)) aE=some l):dF lv P r o s (.sl len l .exact):=by
 intro E V a N Q hc aG bA h1;unfold re at ht;split at ht
 ·rename_i e' hu;obtain⟨i,hi,ht⟩:=Tg.1 ht;obtain⟨z',hz,ht⟩:=Tq.1 ht;cases ht;refine⟨bA,?_⟩;unfold execOp;rw[ho];dsimp only;refine az ?_;unfold Instr.buildSlice;refine ee hu ?_;dsimp only;refine jZ hi ?_;rw[if_neg (by omega)];obtain⟨hlen,bk⟩:=FQ aG hp;obtain⟨eK,nz,uK⟩:=CI (JF (E:=E) z (len* i.size)) hlen bk hl;have fin:∀(rr:Nat),V.fresh rr->aQ P (V.upd rr (.cells eK e)) (pure (W9 (.slice (some ⟨rr,0,none⟩) len len))) (mD lv P r o a N Q) (λv V'=>Q (.panic [{v,recovered:=false}]) a V'):=λrr hf=>
   aQ.ghost (akd hf (hc.aj2 hf.1).1) (au (h1 _ _ _ (hc.kx hf eK).1 rfl rfl (hc.kx hf eK).2 (ap.apn hc hf uK (SO _) rfl)))
  have e2:(λj=>some (j* i.size,i.size))=iD.at (.elems i.size):=rfl;rw[e2];by_cases h0:len* i.size=0
  ·rw[if_pos h0];refine az (au ?_);rw[h0]at nz⊢;rw[show WO 0=#[]from rfl]at nz⊢;simp only[List.map_toArray,List.map_nil,VN]at nz⊢;rw[nz];unfold newRow;exact az (az (az (oQ λrr hf=>cI (au (au (au (fin rr hf)))))))
  ·rw[if_neg h0];refine az (az ?_);unfold typeInfo;refine az (qK (cI ?_));rw[hi];refine au ?_;rw[hz];refine au (az (au ?_));rw[VN,nz];unfold newRow;exact az (az (az (oQ λrr hf=>cI (au (au (au (fin rr hf)))))))
 ·cases ht
end
open Go.Conc
def ab0 (P:SI)(t:TypeId):Bool:=match P.underlying t with
 |some (.int _)=>false
 |some _=>true
 |none=>false
def jM (P:SI)(t t':TypeId):Option (TypeId×Nat×SP):=match P.underlying t with
 |some (.slice e)=>(P.info? e).bind λi=>i.zero.bind λz=>if z.cells.size=i.size/\i.bytes<=2^16/\i.bytes≠0/\ab0 P t'=true then some (e,i.size,z)else none
 |_=>none
theorem jM.out{P:SI}{t t' e:TypeId}{sz:Nat}{z:SP}(h:jM P t t'=some (e,sz,z)):∃i d,P.underlying t=some (.slice e)/\P.info? e=some i/\i.zero=some z/\i.size=sz/\z.cells.size=sz/\i.bytes<=2^16/\i.bytes≠0/\P.underlying t'=some d/\(∀k,d≠ .int k):=by
 unfold jM at h;split at h
 ·rename_i e' hu;obtain⟨i,h1,h⟩:=Tg.1 h;obtain⟨z',h2,h⟩:=Tg.1 h;split at h
  ·rename_i hc;obtain⟨c1,c2,c3,c4⟩:=hc;cases h;unfold ab0 at c4;split at c4
   ·cases c4
   ·rename_i d hd aF;exact⟨i,d,hu,h1,h2,rfl,c1,c2,c3,aF,λk e=>hd k e⟩
   ·cases c4
  ·cases h
 ·cases h
def AS.src (s:AS)(sz:Nat):AV->Option (Nat×List AV)
 |.sl m l _=>some (m,l.take (m* sz))
 |.bp id off m _=>match s.H[id]?with
  |some (.cells l _)|some (.part _ l _)|some (.own _ l _)=>some (m,(l.drop off).take (m* sz))
  |_=>none
 |_=>none
section
variable {P:SI}{E:Env}{V:View}{s:AS}{K:Array SP->View->Prop}{Kp:SP->View->Prop}
theorem FL{l:List AV}{f:Nat->SP}{n:Nat}(hn:n<=l.length)(h:∀(i:Nat) x,l[i]?=some x->ap E x (f i)):cJ E (l.take n) ((SU n).map f).toArray:=by
 have:=JD hn h;cases this with
 |agg h1 h2=>exact⟨h1,h2⟩
theorem Et(hc:Conc E V s.H){av:AV}{v:SP}(hd:ap E av v){sz m k:Nat}{l:List AV}(h:s.src sz av=some (m,l))(hl:l.length=m* sz)(hk:k<=m)(hK:∀cs,cJ E (l.take (k* sz)) cs->K cs V):aQ P V (Vz sz k v) K Kp:=by
 have hks:k* sz<=m* sz:=Uh _ hk;cases hd with
 |sl b o cap f dR he h1 h2=>
  cases h;rename_i l _;simp only[TV]at hl;have e:(l.take (m* sz)).take (k* sz)=l.take (k* sz):=by rw[U8];congr 1;omega
  rw[e]at hK;unfold Vz;exact BA (f:=f) (λhp=>(hc.aa8 (h1 0 (by omega))).1) (λj hj=>by unfold View.get;rw[<- hc.I,h1 j (by omega)]) (hK _ (FL (by omega) h2))
 |nil he=>
  cases h;have:k=0:=by omega
  subst this;have hK:=hK #[] ⟨by simp,by simp⟩;unfold Vz;split
  ·rw[Z6];exact au hK
  ·exact au hK
  ·rename_i h;cases h
  ·rename_i a _ _ h1 h2 _;cases a with
   |none=>exact(h2 _ _ rfl).elim
   |some x=>exact(h1 _ _ _ rfl).elim
 |bp hi dR=>
  rename_i id off m' cap cap';simp only[AS.src]at h;cases hq:s.H[id]?with
  |none=>rw[hq]at h;cases h
  |some ob=>
   rw[hq]at h;cases ob with
   |cells l' el=>
    cases h;obtain⟨⟨cs,ho,hs,bk⟩,lH⟩:=hc.obj id _ hq;simp only[TV,Uk]at hl;have e:((l'.drop off).take (m* sz)).take (k* sz)=(l'.drop off).take (k* sz):=(by rw[U8];congr 1;omega);rw[e]at hK;unfold Vz;refine BA (f:=λi=>cs.getD (off+i) undef) (λ_=>(hc.jm hq rfl).1) (λj hj=> ?_) (hK _ (FL (by simp only[Uk];omega) λi x hx=> ?_))
    ·unfold View.get;rw[lH,ho];have hlt:off+j<cs.size:=(by omega);simp only[SH,SJ hlt,S0]
    ·rw[Up]at hx;exact bk _ _ hx
   |part p l' el=>
    cases h;obtain⟨⟨cs,ho,⟨hs,bk⟩,nH⟩,lH⟩:=hc.obj id _ hq;simp only[TV,Uk]at hl;have e:((l'.drop off).take (m* sz)).take (k* sz)=(l'.drop off).take (k* sz):=(by rw[U8];congr 1;omega);rw[e]at hK;unfold Vz;refine BA (f:=λi=>cs.getD (off+i) undef) (λ_=>(hc.jm hq rfl).1) (λj hj=> ?_) (hK _ (FL (by simp only[Uk];omega) λi x hx=> ?_))
    ·have hlt:off+j<cs.size:=(by omega);unfold View.get;by_cases hp:off+j<p
     ·rw[nH _ hp];simp only[SH,SJ hlt,S0]
     ·rw[lH _ (by omega),ho];simp only[SH,SJ hlt,S0]
    ·rw[Up]at hx;exact bk _ _ hx
   |own ez l' el=>
    cases h;obtain⟨⟨cs,ho,⟨hs,bk⟩,_⟩,lH⟩:=hc.obj id _ hq;simp only[TV,Uk]at hl;have e:((l'.drop off).take (m* sz)).take (k* sz)=(l'.drop off).take (k* sz):=(by rw[U8];congr 1;omega);rw[e]at hK;unfold Vz;refine BA (f:=λi=>cs.getD (off+i) undef) (λ_=>(hc.jm hq rfl).1) (λj hj=> ?_) (hK _ (FL (by simp only[Uk];omega) λi x hx=> ?_))
    ·have hlt:off+j<cs.size:=(by omega);unfold View.get;rw[lH,ho];simp only[SH,SJ hlt,S0]
    ·rw[Up]at hx;exact bk _ _ hx
   |_=>cases h
 |_=>cases h
theorem Ig{av:AV}{v:SP}(hd:ap E av v){sz m:Nat}{l:List AV}(h:s.src sz av=some (m,l)):ava v=pure m:=by
 cases hd with
 |sl=>cases h;rfl
 |nil=>cases h;rfl
 |bp=>
  simp only[AS.src]at h;split at h
  ·cases h;rfl
  ·cases h;rfl
  ·cases h;rfl
  ·cases h
 |_=>cases h
end
theorem RN(vv:Nat):∀(r c:Nat),c<=2* vv+200->Zq vv r c<=2* vv+200
 |0,c,h=>h
 |r+1,c,h=>by
  unfold Zq;split
  ·exact h
  ·exact RN vv r _ (by omega)
theorem aoi(vv cap:Nat)(h:cap<vv):W7 vv cap<=2* vv+200:=by
 unfold W7;split
 ·omega
 ·split
  ·omega
  ·exact RN vv 4 cap (by omega)
theorem CE{E:Env}{l m:List AV}{x y:Array SP}(h:cJ E l x)(k:cJ E m y):cJ E (l++m) (x++y):=by
 refine⟨by simp[h.1,k.1],λi a e=> ?_⟩;by_cases hi:i<l.length
 ·rw[SX hi]at e;have:=h.2 i a e;rw[SH,Yd (by rw[h.1];exact hi)];rwa [SH]at this
 ·rw[Ta (by omega)]at e;have:=k.2 _ a e;rw[SH,X_ (by rw[h.1];omega),h.1];rwa [SH]at this
theorem Of{P:SI}{V:View}{α:Type}{K:α->View->Prop}{Kp:SP->View->Prop}{b:Bool}{k:Bool->Sem α}(hb:b=false)(h:aQ P V (k false) K Kp):aQ P V (pure b>>=k) K Kp:=by
 subst hb;exact az (au h)
section
variable {P:SI}{E:Env}{V:View}{s:AS}{K:SP->View->Prop}{Kp:SP->View->Prop}
theorem ac8{n:Nat}{K:Unit->View->Prop}(h:K () V):aQ P V (askRoom n) K Kp:=by
 unfold askRoom;split
 ·exact aq1 (cI h)
 ·exact au h
theorem ac7(hc:Conc E V s.H){t t' e:TypeId}{sz n m cap:Nat}{z:SP}{base:Option U_}{av:AV}{v:SP}{ax:AV}{l l':List AV}{ty:TypeId}(ht:jM P t t'=some (e,sz,z))(hd:ap E ax (.slice base n cap))(cu:s.src sz ax=some (n,l))(cz:ap E av v)(hs:s.src sz av=some (m,l'))
  (hl:l.length=n* sz) (eG:l'.length=m* sz) (hb:n+m<=2^30) (Lz:cap<n+m)
  (hK:∀r cs cap',V.fresh r->cJ E (l++l') (cs.extract 0 ((n+m)* sz))->n+m<=cap'->cs.size=cap'* sz->K (.slice (some ⟨r,0,none⟩) (n+m) cap') (V.upd r (.cells cs e))):aQ P V (VD #[t,t'] ty #[.slice base n cap,v]) K Kp:=by
 obtain⟨i,d,h1,h2,h3,h4,h5,h6,h7,h8,h9⟩:=jM.out ht;unfold VD;simp only[Vl,Vt,UN];refine ee h1 ?_;dsimp only;refine jZ h2 ?_;rw[h4];refine ee h8 ?_;refine Of (by cases d<;>first|rfl|exact absurd rfl (h9 _)) ?_;simp only[TP,if_false,YI,if_true];rw[Ig cz hs];refine az (au ?_);rw[if_neg (by omega)];refine zn h2 ?_;rw[if_neg (by intro hx;exact hx.2.elim (λx=>x.elim) h7)];refine zn h2 ?_;have dR:=aoi (n+m) cap Lz;have hmul:W7 (n+m) cap* i.bytes<=(2* 2^30+200)* 2^16:=ZQ (by omega) h6;rw[if_neg (by omega)];refine az (ada (λhf=>by cases hf) (λ_ t=>cI ?_));generalize jg:Zv (.appendCap (n+m) cap e) t=cap';have Gk:n+m<=cap':=by rw[<- jg];exact Nat.le_add_right _ _
 refine zn h2 (az (ac8 (az ?_)));refine Et hc hd cu hl (SO _) λAa Lb=> ?_;refine az (Et hc cz hs eG (SO _) λjz kY=> ?_);refine Ia (z:=z) (by unfold eJ;rw[h2];exact h3) ?_;rw[<- hl,TD]at Lb;rw[<- eG,TD]at kY;unfold newRow;refine az (az (oQ λr hf=>cI (au (au ?_))));have ami:Aa.size=n* sz:=by rw[Lb.1,hl]
 have A2:jz.size=m* sz:=by rw[kY.1,eG]
 have aV:(Aa++jz).size=(n+m)* sz:=by rw[XG,ami,A2,Vk]
 refine hK r _ cap' hf ?_ Gk ?_
 ·have e1:(Aa++jz++Xp z.cells (cap'-(n+m))).extract 0 ((n+m)* sz)=Aa++jz:=by
   rw[<- aV];generalize Aa++jz=q;apply VG;simp[Array.toList_extract,List.extract_eq_take_drop]
  rw[e1];exact CE Lb kY
 ·rw[XG,aV];have:(Xp z.cells (cap'-(n+m))).size=(cap'-(n+m))* sz:=by simp[Xp,h5]
  rw[this,<- Vk];congr 1;omega
theorem H9(hc:Conc E V s.H){t t' e:TypeId}{sz n m cap:Nat}{z:SP}{base:Option U_}{av:AV}{v:SP}{en:End}{l l':List AV}{ty:TypeId}(ht:jM P t t'=some (e,sz,z))(hd:ap E (.sl n l en) (.slice base n cap))(cz:ap E av v)(hs:s.src sz av=some (m,l'))
  (hl:l.length=n* sz) (eG:l'.length=m* sz) (hb:n+m<=2^30) (Lz:cap<n+m)
  (hK:∀r cs cap',V.fresh r->cJ E (l++l') (cs.extract 0 ((n+m)* sz))->n+m<=cap'->cs.size=cap'* sz->K (.slice (some ⟨r,0,none⟩) (n+m) cap') (V.upd r (.cells cs e))):aQ P V (VD #[t,t'] ty #[.slice base n cap,v]) K Kp:=
 ac7 hc ht hd (by simp only[AS.src];rw[<- hl,TD]) cz hs hl eG hb Lz hK
theorem H_(hc:Conc E V s.H){t t' e:TypeId}{sz n cap:Nat}{z:SP}{base:Option U_}{av:AV}{v:SP}{l':List AV}{ty:TypeId}(ht:jM P t t'=some (e,sz,z))(cz:ap E av v)(hs:s.src sz av=some (0,l'))
  (eG:l'.length=0* sz) (hle:n<=cap) (hK:K (.slice base n cap) V):aQ P V (VD #[t,t'] ty #[.slice base n cap,v]) K Kp:=by
 obtain⟨i,d,h1,h2,h3,h4,h5,h6,h7,h8,h9⟩:=jM.out ht;unfold VD;simp only[Vl,Vt,UN];refine ee h1 ?_;dsimp only;refine jZ h2 ?_;rw[h4];refine ee h8 ?_;refine Of (by cases d<;>first|rfl|exact absurd rfl (h9 _)) ?_;simp only[TP,if_false,YI,if_true];rw[Ig cz hs];refine az (au ?_);rw[if_pos (by omega)];refine az (Et hc cz hs eG (SO _) λjz kY=> ?_);have A2:jz=#[]:=by
  have:=kY.1;apply Array.eq_empty_of_size_eq_zero;rw[this];simp
 subst A2;rw[UI];cases base with
 |none=>exact au hK
 |some a=>
  dsimp only;unfold storeCells;exact az (au (au hK))
theorem ac6(hc:Conc E V s.H){t t' e:TypeId}{sz n m cap:Nat}{z:SP}{b:Nat}{av:AV}{v:SP}{l':List AV}{ty:TypeId}{cs:Array SP}{el:TypeId}(ht:jM P t t'=some (e,sz,z))(cz:ap E av v)(hs:s.src sz av=some (m,l'))
  (eG:l'.length=m* sz) (hle:n+m<=cap) (ho:V.own b=some (.cells cs el (0,0))) (aV:cap* sz<=cs.size) (hi:∀o,n* sz<=o->V.ab b o=none) (hg:V.role.group≠some b/\V.role.chan≠some b) (nA:∀a∈l',a.leaf=true)
  (hK:∀jz,cJ E l' jz->K (.slice (some ⟨b,0,none⟩) (n+m) cap) (V.upd b (.cells (storeAt cs (n* sz) jz.toList) el (0,0)))):aQ P V (VD #[t,t'] ty #[.slice (some ⟨b,0,none⟩) n cap,v]) K Kp:=by
 obtain⟨i,d,h1,h2,h3,h4,h5,h6,h7,h8,h9⟩:=jM.out ht;unfold VD;simp only[Vl,Vt,UN];refine ee h1 ?_;dsimp only;refine jZ h2 ?_;rw[h4];refine ee h8 ?_;refine Of (by cases d<;>first|rfl|exact absurd rfl (h9 _)) ?_;simp only[TP,if_false,YI,if_true];rw[Ig cz hs];refine az (au ?_);rw[if_pos (by omega)];refine az (Et hc cz hs eG (SO _) λjz kY=> ?_);rw[<- eG,TD]at kY;rw[add_plain];have uV:(n+m)* sz<=cap* sz:=Uh _ hle;rw[Vk]at uV;refine az (BD _ 0 V cs hg.1 hg.2 ho (λo h _=>hi o (by omega)) (by have:=kY.1;simp;omega) (CF kY nA) ?_);rw[Wx,UI];exact au (hK jz kY)
end
def Env.tok (E:Env)(I:cx)(rm:Option U_×Nat)(v:Nat):Env:={E with I:=I,n:=E.n+1,room:=λk u=>if k=E.n/\u=v then rm else E.room k u,fz:=λk=>if k=E.n then v else E.fz k}
theorem Env.Nd(E:Env){I:cx}(hI:∀b o v,E.I b o=some v->I b o=some v)(rm:Option U_×Nat)(v:Nat):E.Le (E.tok I rm v):=
 ⟨hI,Y4 _,λk hk=>rfl,λk hk=>by simp[Env.tok,Wc hk],λk u hk _=>by simp[Env.tok,Wc hk],rfl,rfl⟩
def Env.grow (E:Env)(I:cx)(k:Nat)(rm:Option U_×Nat)(v:Nat):Env:={E with I:=I,room:=λj u=>if j=k/\u=v then rm else E.room j u,fz:=λj=>if j=k then v else E.fz j}
theorem Env.abr(E:Env){I:cx}(hI:∀b o v,E.I b o=some v->I b o=some v){k:Nat}(rm:Option U_×Nat){v:Nat}(hv:E.fz k<v):E.Le (E.grow I k rm v):=
 ⟨hI,SO _,λ_ _=>rfl,λj _=>by
  simp only[Env.grow];split
  ·rename_i e;subst e;omega
  ·exact SO _,λj u _ hu=>by
  simp only[Env.grow];split
  ·rename_i e;obtain⟨rfl,rfl⟩:=e;omega
  ·rfl,rfl,rfl⟩
open Go.Conc
abbrev View.laid (V:View)(b:Nat)(cs:Array SP)(el:TypeId)(p:Nat->Bool):View:=(V.upd b (.cells cs el (0,0))).eI b cs p
theorem M_{V:View}{b b':Nat}{cs:Array SP}{el:TypeId}{p:Nat->Bool}(h:b'≠b):(V.laid b cs el p).own b'=V.own b':=by simp[View.laid,View.eI,View.upd,h]
theorem M9{V:View}{b b':Nat}{cs:Array SP}{el:TypeId}{p:Nat->Bool}(h:b'≠b)(o:Nat):(V.laid b cs el p).ab b' o=V.ab b' o:=by simp[View.laid,View.eI,View.upd,h]
theorem Hl{V:View}{b:Nat}{cs:Array SP}{el:TypeId}{p:Nat->Bool}(hp:∀o,p o=true->V.ab b o=none):∀b' o v,V.ab b' o=some v->(V.laid b cs el p).ab b' o=some v:=λb' o v h=>by
 have hn:¬(b'=b/\p o=true):=λhb=>by obtain⟨rfl,h2⟩:=hb;rw[hp o h2]at h;cases h
 simp only[View.laid,View.eI,View.upd,if_neg hn];exact h
theorem Hk{V:View}{b:Nat}{cs:Array SP}{el:TypeId}{p:Nat->Bool}{o:Nat}(h:p o=true):(V.laid b cs el p).ab b o=cs[o]?:=by simp[View.laid,View.eI,h]
theorem Na{V:View}{b:Nat}{cs:Array SP}{el:TypeId}{p:Nat->Bool}:(V.laid b cs el p).own b=some (.cells cs el (0,0)):=by simp[View.laid,View.eI,View.upd]
theorem JC{E:Env}{I:cx}{b n cap:Nat}{cs:Array SP}{l:List AV}{e:End}{sz:Nat}(hI:E.I=I)(hd:cJ E l (cs.extract 0 (n* sz)))(hl:l.length=n* sz)(hs:n* sz<=cs.size)(hi:∀o,o<n* sz->I b o=cs[o]?)(hc:n<=cap)(he:pU E e (some ⟨b,0,none⟩) n cap):ap E (.sl n l e) (.slice (some ⟨b,0,none⟩) n cap):=by
 refine .sl b 0 cap (λi=>cs.getD i undef) hc he (λi h=> ?_) (λi x hx=> ?_)
 ·rw[hl]at h;have hlt:i<cs.size:=by omega
  rw[hI,Wx,hi i h];simp only[SH,SJ hlt,S0]
 ·have cC:i<n* sz:=by rw[<- hl];exact(SL.1 hx).1
  have:=hd.2 i x hx;have hlt:i<cs.size:=by omega
  rw[SH,SJ hlt];rw[SH]at this;rw[Array.getElem?_extract]at this;have GB:i<min (n* sz) cs.size:=by omega
  simpa[cC,hlt,GB]using this
section
variable {E:Env}{V:View}{H:List aa}
theorem Conc.OA(hc:Conc E V H){n:Nat}(sz:Nat)(el:TypeId)(a:Option U_):Conc (E.tok V.ab (a,n) n) V (H++[.tail n sz el])/\E.Le (E.tok V.ab (a,n) n):=by
 have hle:=E.Nd (I:=V.ab) (λb o v h=>by rw[<- hc.I];exact h) (a,n) n;refine⟨hc.iN H.length (.tail n sz el) hle rfl (by simp[Env.tok,hc.n]) D7 rfl (λj hj _=>by simp[Env.tok,hc.n,hj]) (λb y _ hy=>⟨hy,λ_=>rfl⟩) ?_ (λb h=> ?_),hle⟩
 ·rw[<- hc.n];exact⟨by simp[Env.tok],.inl (by simp[Env.tok])⟩
 ·rw[<- hc.n]at h;simp[bO,Env.tok]at h
theorem Conc.adX(hc:Conc E V H){r n cap sz:Nat}{el:TypeId}{cs:Array SP}(hf:V.fresh r)(hs:cs.size=cap* sz)(hn:n<=cap):
  Conc (E.tok (V.laid r cs el (·<n* sz)).ab (some ⟨r,0,none⟩,cap) n) (V.laid r cs el (·<n* sz)) (H++[.tail n sz el])/\E.Le (E.tok (V.laid r cs el (·<n* sz)).ab (some ⟨r,0,none⟩,cap) n):=by
 have hle:=E.Nd (I:=(V.laid r cs el (·<n* sz)).ab) (λb o v h=>Hl (λo _=>hf.2 o) b o v (by rw[<- hc.I];exact h)) (some ⟨r,0,none⟩,cap) n;refine⟨hc.iN H.length (.tail n sz el) hle rfl (by simp[Env.tok,hc.n]) D7 rfl (λj hj _=>by simp[Env.tok,hc.n,hj]) (λb y _ hy=> ?_) ?_ (λb h=> .inr ?_),hle⟩
 ·have hb:b≠r:=λe=>by subst e;rw[hf.1]at hy;cases hy
  exact⟨by rw[M_ hb];exact hy,λo=>M9 hb o⟩
 ·rw[<- hc.n];refine⟨by simp[Env.tok],?_⟩;by_cases e:cap=n
  ·exact .inl (by simp[Env.tok,e])
  ·refine .inr ⟨r,cap,cs,by simp[Env.tok],Na,hs,by omega,λo ho=> ?_⟩;have:¬(decide (o<n* sz)=true):=(by simpa using ho);simp only[View.laid,View.eI];rw[if_neg (λx=>this x.2)];exact hf.2 o
 ·rw[<- hc.n]at h;simp[bO,Env.tok]at h;obtain⟨_,rfl⟩:=h;exact hf.1
theorem Conc.akh(hc:Conc E V H){k r n n' cap sz:Nat}{el gX:TypeId}{cs:Array SP}(hk:H[k]?=some (.tail n sz gX))(hf:V.fresh r)(hs:cs.size=cap* sz)(hn:n'<=cap)(hlt:n<n'):
  Conc (E.grow (V.laid r cs el (·<n'* sz)).ab k (some ⟨r,0,none⟩,cap) n') (V.laid r cs el (·<n'* sz)) (H.set k (.tail n' sz el))/\E.Le (E.grow (V.laid r cs el (·<n'* sz)).ab k (some ⟨r,0,none⟩,cap) n'):=by
 have A6:E.fz k=n:=(hc.obj k _ hk).1;have hle:=E.abr (I:=(V.laid r cs el (·<n'* sz)).ab) (λb o v h=>Hl (λo _=>hf.2 o) b o v (by rw[<- hc.I];exact h)) (k:=k) (some ⟨r,0,none⟩,cap) (v:=n') (by omega);refine⟨hc.iN k (.tail n' sz el) hle rfl (by simpa[Env.grow]using hc.n) ln rfl (λj hj _=>by simp[Env.grow,hj]) (λb y _ hy=> ?_) ?_ (λb h=> .inr ?_),hle⟩
 ·have hb:b≠r:=λe=>by subst e;rw[hf.1]at hy;cases hy
  exact⟨by rw[M_ hb];exact hy,λo=>M9 hb o⟩
 ·refine⟨by simp[Env.grow],?_⟩;by_cases e:cap=n'
  ·exact .inl (by simp[Env.grow,e])
  ·refine .inr ⟨r,cap,cs,by simp[Env.grow],Na,hs,by omega,λo ho=> ?_⟩;have:¬(decide (o<n'* sz)=true):=(by simpa using ho);simp only[View.laid,View.eI];rw[if_neg (λx=>this x.2)];exact hf.2 o
 ·simp[bO,Env.grow]at h;obtain⟨_,rfl⟩:=h;exact hf.1
theorem Conc.aki(hc:Conc E V H){k b n n' cap sz:Nat}{el gX:TypeId}{cs eK:Array SP}(hk:H[k]?=some (.tail n sz gX))(hrm:E.room k n=(some ⟨b,0,none⟩,cap))(ho:V.own b=some (.cells cs el (0,0)))(hi:∀o,n* sz<=o->V.ab b o=none)(hs:eK.size=cap* sz)(hn:n'<=cap)(hlt:n<n'):
  Conc (E.grow (V.laid b eK el (λo=>n* sz<=o&&o<n'* sz)).ab k (some ⟨b,0,none⟩,cap) n') (V.laid b eK el (λo=>n* sz<=o&&o<n'* sz)) (H.set k (.tail n' sz el))/\E.Le (E.grow (V.laid b eK el (λo=>n* sz<=o&&o<n'* sz)).ab k (some ⟨b,0,none⟩,cap) n'):=by
 have A6:E.fz k=n:=(hc.obj k _ hk).1;have hp:∀o,(λo=>decide (n* sz<=o)&&decide (o<n'* sz)) o=true->V.ab b o=none:=λo h=>hi o (by simp at h;exact h.1);have hle:=E.abr (I:=(V.laid b eK el (λo=>n* sz<=o&&o<n'* sz)).ab) (λb o v h=>Hl hp b o v (by rw[<- hc.I];exact h)) (k:=k) (some ⟨b,0,none⟩,cap) (v:=n') (by omega);have kE:bO E k (.tail n sz gX)=some b:=by
  simp only[bO,hrm];rw[if_neg (by omega)];rfl
 refine⟨hc.iN k (.tail n' sz el) hle rfl (by simpa[Env.grow]using hc.n) ln rfl (λj hj _=>by simp[Env.grow,hj]) (λb' y fu hy=> ?_) ?_ (λb' h=> .inl ⟨_,hk,?_⟩),hle⟩
 ·have hb:b'≠b:=λe=>by subst e;exact fu _ hk kE
  exact⟨by rw[M_ hb];exact hy,λo=>M9 hb o⟩
 ·refine⟨by simp[Env.grow],?_⟩;by_cases e:cap=n'
  ·exact .inl (by simp[Env.grow,e])
  ·have GF:n* sz<=n'* sz:=Uh _ (by omega);refine .inr ⟨b,cap,eK,by simp[Env.grow],Na,hs,by omega,λo ba=> ?_⟩;have:¬((decide (n* sz<=o)&&decide (o<n'* sz))=true):=(by simp;omega);simp only[View.laid,View.eI];rw[if_neg (λx=>this x.2)];exact hi o (by omega)
 ·simp[bO,Env.grow]at h;obtain⟨_,rfl⟩:=h;exact kE
end
section
variable {lv:Bool}{P:SI}{r:Option Nat}{o:Tu}{s:AS}{next:AS->Prop}{bad:AV->AS->Prop}
def BV (s:AS)(dst:Option Nat)(next:AS->Prop)(n m sz:Nat)(elem:TypeId)(l l':List AV):End->Prop
 |.exact=>next ((⟨s.T,s.H++[.tail (n+m) sz elem]⟩:AS).put dst (.sl (n+m) (l++l') (.opn s.H.length)))
 |.opn k=>(match s.H[k]?with
   |some (.tail n' ez gX)=>n'=n/\ez=sz/\gX=elem
   |_=>False)/\(∀a∈l',a.leaf=true)/\next ((⟨s.T,s.H.set k (.tail (n+m) sz elem)⟩:AS).put dst (.sl (n+m) (l++l') (.opn k)))
 |.shut=>m=0/\next (s.put dst (.sl n l .shut))
theorem ahx{E E':Env}{n:Nat}{l:List AV}{en:End}{base:Option U_}{cap:Nat}(h:ap E (.sl n l en) (.slice base n cap))(hl:E.Le E'){e':End}(he:pU E' e' base n cap):ap E' (.sl n l e') (.slice base n cap):=by
 cases h with
 |sl b o cap f hc _ h1 h2=>exact .sl b o cap f hc he (λi hi=>hl.I _ _ _ (h1 i hi)) (λi x hx=>(h2 i x hx).mono hl)
 |nil _=>exact .nil he
theorem step_append{c:Xt}{x y:Tj}{t t' elem:TypeId}{sz n m:Nat}{z:SP}{en:End}{l l':List AV}{av:AV}(ho:o.op=.call c)(aW:c.callee=.builtin .append)(cM:c.args=#[x,y]) (cR:c.argTypes=#[t,t']) (ht:jM P t t'=some (elem,sz,z))
  (hx:s.ev x=some (.sl n l en)) (hy:s.ev y=some av) (hs:s.src sz av=some (m,l')) (hl:l.length=n* sz) (eG:l'.length=m* sz) (hb:n+m<=2^30) (hn:BV s o.dst next n m sz elem l l' en):Step lv P r o s next bad:=by
 intro E V a N Q hc aG hd bA h1 _;refine⟨bA,?_⟩;have dC:=ap.ev aG hx;have iR:=ap.ev aG hy;generalize ku:a.eval x=vx at dC;generalize rX:a.eval y=vy at iR;unfold execOp;rw[ho];dsimp only;unfold resolve;rw[aW];dsimp only;refine az (au ?_);unfold invoke builtin;dsimp only;refine az ?_;have nB:c.args.map a.eval=#[vx,vy]:=by rw[cM];simp[ku,rX]
 rw[nB,cR];obtain⟨base,cap,rfl⟩:∃base cap,vx=.slice base n cap:=by
  cases dC with
  |sl b o cap f dR he q1 q2=>exact⟨_,_,rfl⟩
  |nil he=>exact⟨_,_,rfl⟩
 have dR:n<=cap:=by
  cases dC with
  |sl b o cap f dR he q1 q2=>exact dR
  |nil he=>exact SO _
 have fin:∀E' V' H' (mF:AV) v',E.Le E'->V'.role=V.role->V'.deaf=V.deaf->Conc E' V' H'->ap E' mF v'->next ((⟨s.T,H'⟩:AS).put o.dst mF)->aQ P V' (pure (W9 v')) (mD lv P r o a N Q) (λv V'=>Q (.panic [{v,recovered:=false}]) a V'):=λE' V' H' mF v' hle hr uL bi bk dc=>
  au (h1 E' V' (a.put o.dst v') ((⟨s.T,H'⟩:AS).put o.dst mF) ⟨hle,dX _ _ _,put_defers _ _ _,hr,uL⟩ (by rw[fb];exact bi) (cg.h_ (s:=⟨s.T,H'⟩) (aG.mono hle) hd bk) dc)
 have tP:(l++l').length=(n+m)* sz:=by rw[S5,hl,eG,Vk]
 cases en with
 |exact=>
  have gY:cap=n:=by
   cases dC with
   |sl b o cap f dR he q1 q2=>exact he
   |nil he=>rfl
  subst gY;have iW:=hn;simp only[BV]at iW;by_cases hm:m=0
  ·subst hm;have tE:l'=[]:=(by simpa using eG);subst tE;refine H_ hc ht iR hs eG (SO _) ?_;obtain⟨bi,hle⟩:=hc.OA (n:=cap) sz elem base;refine fin _ V _ _ _ hle rfl rfl bi (ahx (e':=.opn s.H.length) dC hle ⟨?_,?_,?_⟩) (by simpa using iW)
   ·simp[Env.tok,hc.n]
   ·simp[Env.tok,hc.n]
   ·simp[Env.tok,hc.n]
  ·refine H9 hc ht dC iR hs hl eG hb (by omega) λrr cs cap' hf bk hle aV=> ?_;obtain⟨bi,rL⟩:=hc.adX (el:=elem) hf aV hle;have u6:(cap+m)* sz<=cs.size:=(by rw[aV];exact Uh _ hle);refine aQ.ghost (yb (f:=(0,0)) (cs:=cs) (el:=elem) (p:=(·<(cap+m)* sz)) (by simp[View.upd]) (λo _=>hf.2 o)) ?_;refine fin _ _ _ _ _ rL rfl rfl bi (JC (I:=(V.laid rr cs elem (·<(cap+m)* sz)).ab) (e:=.opn s.H.length) (sz:=sz) (cs:=cs) rfl (bk.mono rL) tP u6 (λo h=>Hk (by simpa using h)) hle ⟨?_,?_,?_⟩) iW
   ·simp[Env.tok,hc.n]
   ·simp[Env.tok,hc.n]
   ·simp[Env.tok,hc.n]
 |shut=>
  obtain⟨rfl,iW⟩:=hn;have tE:l'=[]:=by simpa using eG
  subst tE;refine H_ hc ht iR hs eG dR ?_;exact fin E V s.H _ _ (Env.Le.refl E) rfl rfl hc dC iW
 |opn k=>
  obtain⟨uR,nA,iW⟩:=hn;split at uR
  ·rename_i n' ez gX hk;obtain⟨rfl,rfl,rfl⟩:=uR;have heo:pU E (.opn k) base n' cap:=by
    cases dC with
    |sl b o cap f dR he q1 q2=>exact he
    |nil he=>exact he
   obtain⟨e1,e2,e3⟩:=heo;obtain⟨A6,GR⟩:=hc.obj k _ hk;have tN:s.H.set k (.tail n' ez gX)=s.H:=by
    apply Yr;intro i;by_cases hi:i=k
    ·subst hi;rw[Xc (SL.1 hk).1,hk]
    ·rw[Ua (Ne.symm hi)]
   by_cases hm:m=0
   ·subst hm;have tE:l'=[]:=(by simpa using eG);subst tE;refine H_ hc ht iR hs eG dR ?_;refine fin E V s.H _ _ (Env.Le.refl E) rfl rfl hc dC ?_;rw[UI,tN,SN]at iW;exact iW
   ·by_cases qk:n'+m<=cap
    ·rcases GR with GR|⟨b,at6,cs,r1,r2,r3,r4,r5⟩
     ·rw[e3]at GR;simp only at GR;omega
     ·rw[e3]at r1;cases r1;have kE:bO E k (.tail n' ez gX)=some b:=by
       simp only[bO,e3];rw[if_neg (by omega)];rfl
      refine ac6 hc ht iR hs eG qk r2 (WL r3.symm) r5 (hc.jm hk kE) nA λjz kY=> ?_;have A2:jz.toList.length=m* ez:=(by have:=kY.1;simp;omega);have uV:(n'+m)* ez<=cap* ez:=Uh _ qk;rw[Vk]at uV;have GV:(storeAt cs (n'* ez) jz.toList).size=cap* ez:=(by rw[zr];exact r3);obtain⟨bi,rL⟩:=hc.aki hk e3 r2 r5 GV qk (by omega);refine aQ.ghost (yb (f:=(0,0)) (cs:=storeAt cs (n'* ez) jz.toList) (el:=gX) (p:=λo=>n'* ez<=o&&o<(n'+m)* ez) (by simp[View.upd]) (λo h=>r5 o (by simp at h;exact h.1))) ?_;refine fin _ _ _ _ _ rL rfl rfl bi ?_ iW;cases dC with
      |nil he=>exact absurd qk (by omega)
      |sl b' o' cap f Gk he q1 q2=>
       have q1':∀i,i<l.length->V.ab b i=some (f i):=λi hi=>(by have:=q1 i hi;rwa [hc.I,Wx]at this);refine .sl b 0 cap (λi=>if i<n'* ez then f i else(storeAt cs (n'* ez) jz.toList).getD i undef) (by omega) ⟨?_,?_,?_⟩ (λi hi=> ?_) (λi x hx=> ?_)
       ·exact e1
       ·simp[Env.grow]
       ·simp[Env.grow]
       ·rw[tP,Vk]at hi;show (V.laid b (storeAt cs (n'* ez) jz.toList) gX (λo=>n'* ez<=o&&o<(n'+m)* ez)).ab b (0+i)=_;rw[Wx];by_cases cC:i<n'* ez
        ·rw[if_pos cC];exact Hl (λo h=>r5 o (by simp at h;exact h.1)) _ _ _ (q1' i (by omega))
        ·rw[if_neg cC,Hk (by simp[Vk];omega)];have hlt:i<(storeAt cs (n'* ez) jz.toList).size:=(by rw[GV];omega);simp only[SH,SJ hlt,S0]
       ·by_cases cC:i<n'* ez
        ·rw[SX (by omega)]at hx;rw[if_pos cC];exact(q2 i x hx).mono rL
        ·rw[Ta (by omega)]at hx;have uO:i-l.length<l'.length:=(SL.1 hx).1;rw[if_neg cC,EB _ _ _ _ (by rw[A2,r3];omega),if_pos (by rw[A2];omega)];have:=(kY.2 _ _ hx).mono rL;rw[hl]at this;simpa[SH,SE]using this
    ·refine H9 hc ht dC iR hs hl eG hb (by omega) λrr cs cap' hf bk hle aV=> ?_;obtain⟨bi,rL⟩:=hc.akh (el:=gX) (n':=n'+m) hk hf aV hle (by omega);have u6:(n'+m)* ez<=cs.size:=(by rw[aV];exact Uh _ hle);refine aQ.ghost (yb (f:=(0,0)) (cs:=cs) (el:=gX) (p:=(·<(n'+m)* ez)) (by simp[View.upd]) (λo _=>hf.2 o)) ?_;refine fin _ _ _ _ _ rL rfl rfl bi (JC (I:=(V.laid rr cs gX (·<(n'+m)* ez)).ab) (e:=.opn k) (sz:=ez) (cs:=cs) rfl (bk.mono rL) tP u6 (λo h=>Hk (by simpa using h)) hle ⟨?_,?_,?_⟩) iW
     ·exact e1
     ·simp[Env.grow]
     ·simp[Env.grow]
  ·exact uR.elim
def Env.ik (E:Env)(r:Nat)(I:cx)(c:Nat):Env:={E with I:=I,n:=E.n+1,blk:=λk=>if k=E.n then r else E.blk k,room:=λk u=>if k=E.n/\u=0 then(none,c)else E.room k u}
theorem Env.D6(E:Env)(r c:Nat){I:cx}(hI:∀b o v,E.I b o=some v->I b o=some v):E.Le (E.ik r I c):=
 ⟨hI,Y4 _,λk hk=>by simp[Env.ik,Wc hk],λ_ _=>SO _,λk u hk _=>by simp[Env.ik,Wc hk],rfl,rfl⟩
theorem Env.xL(E:Env)(r c:Nat)(I:cx):(E.ik r I c).blk E.n=r:=by simp[Env.ik]
theorem Env.I7(E:Env)(r c:Nat)(I:cx):(E.ik r I c).room E.n 0=(none,c):=by simp[Env.ik]
theorem Conc.ik{E:Env}{V:View}{H:List aa}(hc:Conc E V H){r c:Nat}(hf:V.fresh r){cs:Array SP}{sz:Nat}{l:List AV}{el:TypeId}(hd:j4 (E.ik r V.ab c) l cs)(hs:cs.size=c* sz):Conc (E.ik r V.ab c) (V.upd r (.cells cs el)) (H++[.own sz l el]):=by
 refine hc.iN (E':=E.ik r V.ab c) H.length (.own sz l el) (E.D6 r c (λb o v h=>by rw[<- hc.I];exact h)) rfl (by simp[Env.ik,hc.n]) D7 rfl (λ_ _ _=>rfl) (λb z _ hz=>⟨?_,λ_=>rfl⟩) ?_ (λb h=> .inr ?_)
 ·have:b≠r:=λe=>by rw[e,hf.1]at hz;cases hz
  simpa[View.upd,this]using hz
 ·rw[<- hc.n];refine⟨⟨cs,by rw[Env.xL];simp[View.upd],hd,by rw[Env.I7];exact hs⟩,λo=> ?_⟩;rw[Env.xL];exact hf.2 o
 ·rw[<- hc.n]at h;simp only[bO,Env.xL,Tm]at h;subst h;exact hf.1
theorem JA{E:Env}{H:List aa}(hn:E.n=H.length){r c n:Nat}(I:cx)(h:n<=c){cap:Nat}(oH:n<=cap)(hc:cap<=c)(h0:0<n):ap (E.ik r I c) (.bp H.length 0 n 0) (.slice (some ⟨r,0,none⟩) n cap):=by
 have:=ap.bp (E:=E.ik r I c) (id:=H.length) (off:=0) (n:=n) (cap:=0) (cap':=cap) (by show _<E.n+1;rw[hn];omega) ⟨oH,λe=>by omega,λ_=>by rw[<- hn,Env.I7];exact hc⟩;have e:(E.ik r I c).blk H.length=r:=by rw[<- hn];exact E.xL r c I
 rwa [e]at this
theorem Conc.relabel{E:Env}{V:View}{H:List aa}(hc:Conc E V H){id sz:Nat}{l:List AV}{el:TypeId}(hk:H[id]?=some (.own sz l el)):Conc (E.ik (E.blk id) V.ab (E.room id 0).2) V (H.set id .gone++[.own sz l el]):=by
 have hle:=E.D6 (E.blk id) (E.room id 0).2 (I:=V.ab) (λb o v h=>by rw[<- hc.I];exact h);have auq:=(SL.1 hk).1;have hlt:∀(j:Nat) y,H[j]?=some y->j<E.n:=λj y h=>by rw[hc.n];exact(SL.1 h).1
 have rH:∀(j:Nat) y,(H.set id .gone++[aa.own sz l el])[j]?=some y->(j=H.length/\y=.own sz l el)\/(j=id/\y=.gone)\/(j≠id/\H[j]?=some y):=λj y h=>by
  rcases D7 j y h with⟨h1,h2⟩|⟨_,h⟩
  ·exact .inl ⟨by simpa using h1,h2⟩
  ·rcases ln j y h with h|h
   ·exact .inr (.inl h)
   ·exact .inr (.inr h)
 have cN:∀(j:Nat) y b,H[j]?=some y->bO (E.ik (E.blk id) V.ab (E.room id 0).2) j y=some b->bO E j y=some b:=λj y b h e=>by rw[<- PX hle (hlt j y h) (hc.obj j y h)];exact e
 have wO:∀b,bO (E.ik (E.blk id) V.ab (E.room id 0).2) H.length (.own sz l el)=some b->b=E.blk id:=λb e=>by
  simp only[bO,<- hc.n,Env.xL,Tm]at e;exact e.symm
 have fu:∀g,(∀(k:Nat) x,H[k]?=some x->bO E k x≠some g)->∀(k:Nat) x,(H.set id .gone++[aa.own sz l el])[k]?=some x->bO (E.ik (E.blk id) V.ab (E.room id 0).2) k x≠some g:=λg h0 k x hx e=>by
  rcases rH k x hx with⟨rfl,rfl⟩|⟨_,rfl⟩|⟨_,hx⟩
  ·have:=wO g e;exact h0 id _ hk (by rw[this];rfl)
  ·cases e
  ·exact h0 k x hx (cN k x g hx e)
 refine⟨rfl,by simp[Env.ik,hc.n],λj y h=> ?_,λi j y z b h1 h2 e1 e2=> ?_,λg hg=> ?_,λg hg=> ?_,λhm=>hc.top hm,λb y hf=> ?_⟩
 ·rcases rH j y h with⟨rfl,rfl⟩|⟨_,rfl⟩|⟨_,h⟩
  ·obtain⟨⟨cs,q1,q2,q3⟩,q4⟩:=hc.obj id _ hk;rw[<- hc.n];refine⟨⟨cs,by rw[Env.xL];exact q1,q2.mono hle,by rw[Env.I7];exact q3⟩,λo=> ?_⟩;rw[Env.xL];exact q4 o
  ·trivial
  ·exact(hc.obj j y h).mono hle (hlt j y h) rfl (λ_ _ _ h=>h) (λ_ _ _=>rfl)
 ·rcases rH i y h1 with⟨rfl,rfl⟩|⟨_,rfl⟩|⟨hi,h1⟩
  ·rcases rH j z h2 with⟨rfl,rfl⟩|⟨_,rfl⟩|⟨hj,h2⟩
   ·rfl
   ·cases e2
   ·have:=wO b e1;exact absurd (hc.inj id j _ z b hk h2 (by rw[this];rfl) (cN j z b h2 e2)).symm hj
  ·cases e1
  ·rcases rH j z h2 with⟨rfl,rfl⟩|⟨_,rfl⟩|⟨hj,h2⟩
   ·have:=wO b e2;exact absurd (hc.inj id i _ y b hk h1 (by rw[this];rfl) (cN i y b h1 e1)).symm hi
   ·cases e2
   ·exact hc.inj i j y z b h1 h2 (cN i y b h1 e1) (cN j z b h2 e2)
 ·obtain⟨h0,h1,h2⟩:=hc.group g hg;exact⟨h0,h1,fu g h2⟩
 ·obtain⟨h0,h1,h2⟩:=hc.chan g hg;exact⟨h0,h1,fu g h2⟩
 ·obtain⟨h0,h1,h2⟩:=hc.fr b y hf;exact⟨h0,h1,fu b h2⟩
theorem Conc.leave{E:Env}{V:View}{H:List aa}(hc:Conc E V H)(id:Nat):Conc E V (H.set id .gone):=
 hc.iN id .gone (Env.Le.refl E) hc.I (by simpa using hc.n) ln rfl (λ_ _ _=>rfl) (λ_ _ _ hy=>⟨hy,λ_=>rfl⟩) trivial (λb h=>by cases h)
theorem ahz{E:Env}{l l':List AV}{cs vs:Array SP}(h:j4 E l cs)(k:cJ E l' vs)(hl:l.length+l'.length<=cs.size):j4 E (l++l') (storeAt cs l.length vs.toList):=by
 have hv:vs.toList.length=l'.length:=by simpa using k.1
 refine⟨by rw[zr,S5];exact hl,λi a e=> ?_⟩;rw[EB _ _ _ _ (by rw[hv];exact hl),hv];by_cases h1:i<l.length
 ·rw[if_neg (by omega)];rw[SX h1]at e;exact h.2 i a e
 ·rw[Ta (by omega)]at e;have h2:=(SL.1 e).1;rw[if_pos ⟨by omega,by omega⟩];have:=k.2 _ a e;simpa[SH,SE]using this
theorem Qy{E:Env}{l:List AV}{cs:Array SP}{k:Nat}(h:cJ E l (cs.extract 0 k))(hk:l.length=k)(hs:k<=cs.size):j4 E l cs:=by
 refine⟨by omega,λi a e=> ?_⟩;have hi:=(SL.1 e).1;have fU:i<cs.size:=by omega
 have:=h.2 i a e;rw[SH,Array.getElem?_extract_of_lt (by omega)]at this;rw[SH];simpa[SJ fU]using this
theorem adB{c:Xt}{x y:Tj}{t t' elem:TypeId}{sz n m:Nat}{z:SP}{l l':List AV}{av:AV}(ho:o.op=.call c)(aW:c.callee=.builtin .append)(cM:c.args=#[x,y]) (cR:c.argTypes=#[t,t']) (ht:jM P t t'=some (elem,sz,z))
  (hx:s.ev x=some (.sl n l .exact)) (hy:s.ev y=some av) (hs:s.src sz av=some (m,l')) (hl:l.length=n* sz) (eG:l'.length=m* sz) (hb:n+m<=2^30) (hm:0<m) (hn:next ((⟨s.T,s.H++[.own sz (l++l') elem]⟩:AS).put o.dst (.bp s.H.length 0 (n+m) 0))):Step lv P r o s next bad:=by
 intro E V a N Q hc aG hd bA h1 _;refine⟨bA,?_⟩;have dC:=ap.ev aG hx;have iR:=ap.ev aG hy;generalize ku:a.eval x=vx at dC;generalize rX:a.eval y=vy at iR;unfold execOp;rw[ho];dsimp only;unfold resolve;rw[aW];dsimp only;refine az (au ?_);unfold invoke builtin;dsimp only;refine az ?_;have nB:c.args.map a.eval=#[vx,vy]:=by rw[cM];simp[ku,rX]
 rw[nB,cR];obtain⟨base,cap,rfl⟩:∃base cap,vx=.slice base n cap:=by
  cases dC with
  |sl b o cap f dR he q1 q2=>exact⟨_,_,rfl⟩
  |nil he=>exact⟨_,_,rfl⟩
 have gY:cap=n:=by
  cases dC with
  |sl b o cap f dR he q1 q2=>exact he
  |nil he=>rfl
 subst gY;refine H9 hc ht dC iR hs hl eG hb (by omega) λrr cs cap' hf bk hle aV=> ?_;have tP:(l++l').length=(cap+m)* sz:=by rw[S5,hl,eG,Vk]
 have u6:(cap+m)* sz<=cs.size:=by rw[aV];exact Uh _ hle
 have oG:E.Le (E.ik rr V.ab cap'):=E.D6 rr cap' (λb o v h=>by rw[<- hc.I];exact h);have bi:=hc.ik (el:=elem) (c:=cap') hf ((Qy bk tP u6).mono oG) aV;have pq:=JA hc.n (r:=rr) V.ab hle (n:=cap+m) (cap:=cap') hle (SO _) (by omega);exact au (h1 _ _ (a.put o.dst _) _ ⟨oG,dX _ _ _,put_defers _ _ _,rfl,rfl⟩ (by rw[fb];exact bi) (cg.h_ (s:=⟨s.T,s.H++[.own sz (l++l') elem]⟩) (aG.mono oG) hd pq) hn)
theorem adA{c:Xt}{x y:Tj}{t t' elem el:TypeId}{sz n m c0 id:Nat}{z:SP}{l l':List AV}{av:AV}(ho:o.op=.call c)(aW:c.callee=.builtin .append)(cM:c.args=#[x,y]) (cR:c.argTypes=#[t,t']) (ht:jM P t t'=some (elem,sz,z))
  (hx:s.ev x=some (.bp id 0 n c0)) (ym:c0<n) (bX:s.H[id]?=some (.own sz l el)) (hel:el=elem) (hy:s.ev y=some av) (hs:s.src sz av=some (m,l')) (hl:l.length=n* sz) (eG:l'.length=m* sz) (hb:n+m<=2^30) (nA:∀a∈l',a.leaf=true) (hn:next ((⟨s.T,s.H.set id .gone++[.own sz (l++l') elem]⟩:AS).put o.dst (.bp s.H.length 0 (n+m) 0))):Step lv P r o s next bad:=by
 subst hel;intro E V a N Q hc aG hd bA h1 _;refine⟨bA,?_⟩;have dC:=ap.ev aG hx;have iR:=ap.ev aG hy;generalize ku:a.eval x=vx at dC;generalize rX:a.eval y=vy at iR;unfold execOp;rw[ho];dsimp only;unfold resolve;rw[aW];dsimp only;refine az (au ?_);unfold invoke builtin;dsimp only;refine az ?_;have nB:c.args.map a.eval=#[vx,vy]:=by rw[cM];simp[ku,rX]
 rw[nB,cR];have ak4:=dC;have tP:(l++l').length=(n+m)* sz:=by rw[S5,hl,eG,Vk]
 have cu:s.src sz (.bp id 0 n c0)=some (n,l):=by
  simp only[AS.src];rw[bX];simp only[XD];rw[<- hl,TD]
 cases dC with
 |bp hi dR=>
  rename_i cap';obtain⟨q1,_,q3⟩:=dR;have q3:=q3 ym;obtain⟨⟨cs,p1,p2,p3⟩,p4⟩:=hc.obj id _ bX;by_cases qk:n+m<=cap'
  ·have oA:(n+m)* sz<=cap'* sz:=Uh _ qk;have uJ:cap'* sz<=cs.size:=(by rw[p3];exact Uh _ q3);refine ac6 hc ht iR hs eG qk p1 uJ (λo _=>p4 o) (hc.jm bX rfl) nA λjz kY=> ?_;have Lc:j4 E (l++l') (storeAt cs (n* sz) jz.toList):=by
    rw[<- hl];exact ahz p2 kY (by rw[<- S5,tP];omega)
   have dq:=hc.adk bX Lc (by rw[zr];exact p3);have rH:(s.H.set id (.own sz (l++l') el))[id]?=some (.own sz (l++l') el):=(by rw[Xc ((SL.1 bX).1)]);have cO:=dq.relabel rH;rw[Xb]at cO;have oG:E.Le (E.ik (E.blk id) V.ab (E.room id 0).2):=E.D6 _ _ (λb o v h=>by rw[<- hc.I];exact h);have pq:ap (E.ik (E.blk id) V.ab (E.room id 0).2) (.bp s.H.length 0 (n+m) 0) (.slice (some ⟨E.blk id,0,none⟩) (n+m) cap'):=JA hc.n V.ab (by omega) qk q3 (by omega);exact au (h1 _ _ (a.put o.dst _) _ ⟨oG,dX _ _ _,put_defers _ _ _,rfl,rfl⟩ (by rw[fb];exact cO) (cg.h_ (s:=⟨s.T,s.H.set id .gone++[.own sz (l++l') el]⟩) (aG.mono oG) hd pq) hn)
  ·refine ac7 hc ht ak4 cu iR hs hl eG hb (by omega) λrr eK CB hf bk hle aV=> ?_;have u6:(n+m)* sz<=eK.size:=(by rw[aV];exact Uh _ hle);have oG:E.Le (E.ik rr V.ab CB):=E.D6 rr CB (λb o v h=>by rw[<- hc.I];exact h);have Gj:=hc.leave id;have bi:=Gj.ik (el:=el) (c:=CB) hf ((Qy bk tP u6).mono oG) aV;have pq:ap (E.ik rr V.ab CB) (.bp s.H.length 0 (n+m) 0) (.slice (some ⟨rr,0,none⟩) (n+m) CB):=JA hc.n V.ab hle hle (SO _) (by omega);exact au (h1 _ _ (a.put o.dst _) _ ⟨oG,dX _ _ _,put_defers _ _ _,rfl,rfl⟩ (by rw[fb];exact bi) (cg.h_ (s:=⟨s.T,s.H.set id .gone++[.own sz (l++l') el]⟩) (aG.mono oG) hd pq) hn)
end
open Go.Conc
theorem bw(n:Int)(h: -9223372036854775808<=n/\n<=9223372036854775807):SD.wrap n=n:=by
 have e:SD.wrap n=if n % 18446744073709551616>=9223372036854775808 then n % 18446744073709551616-18446744073709551616 else n % 18446744073709551616:=by
  unfold Xg;simp[auZ,auY]
 rw[e];split<;>omega
def cG (P:SI){α:Type}(s:Sem α)(x:α):Prop:=∀w es,s.runT P w es=(.ok x w,es)
theorem cG.ok{P:SI}{α:Type}{V:View}{s:Sem α}{x:α}{K:α->View->Prop}{Kp:SP->View->Prop}(h:cG P s x)(hk:K x V):aQ P V s K Kp:=
 λw hw eR=>⟨#[],w,V,by simpa[fH]using dh.idle hw,.inl ⟨x,by rw[h w eR];simp,hk⟩⟩
theorem cG.bind{P:SI}{α β:Type}{V:View}{s:Sem α}{x:α}{f:α->Sem β}{K:β->View->Prop}{Kp:SP->View->Prop}(h:cG P s x)(hk:aQ P V (f x) K Kp):aQ P V (s>>=f) K Kp:=
 az (h.ok hk)
def AV.vZ:AV->Option Int
 |.val (.int _ n)=>some n
 |_=>none
theorem ap.vZ{E:Env}{a:AV}{v:SP}{n:Int}(hd:ap E a v)(h:a.vZ=some n):∃k,v=.int k n:=by
 cases hd with
 |val x=>unfold AV.vZ at h;split at h<;>simp_all
 |_=>cases h
def AS.jd (s:AS):Option Tj->Option (Option Int)
 |none=>some none
 |some x=>match s.ev x with
  |some a=>a.vZ.map some
  |none=>none
theorem zY{E:Env}{s:AS}{a:Act}(k:cg E s.T a.tmps){x:Option Tj}{i:Option Int}(h:s.jd x=some i):(i=none/\x.map a.eval=none)\/∃n kd,i=some n/\x.map a.eval=some (.int kd n):=by
 cases x with
 |none=>cases h;exact .inl ⟨rfl,rfl⟩
 |some x=>
  simp only[AS.jd]at h;split at h
  ·rename_i av hav;obtain⟨n,hn,rfl⟩:=kU h;obtain⟨kd,hv⟩:=(ap.ev k hav).vZ hn;exact .inr ⟨n,kd,rfl,by simp[hv]⟩
  ·cases h
section
variable {P:SI}{V:View}{Kp:SP->View->Prop}
theorem BC{kd:TZ}{n:Int}{y:Nat}{code:BoundsCode}{K:Nat->View->Prop}(h0:0<=n)(h1:n<=y)(h:K n.toNat V):aQ P V (Zo (.int kd n) y code) K Kp:=by
 unfold Zo asIntOf;refine az (au ?_);dsimp only;rw[if_pos ⟨h0,h1⟩];exact au h
theorem Og{E:Env}{s:AS}{a:Act}(k:cg E s.T a.tmps){isS:Bool}{len cap:Nat}{lo hi mx:Option Tj}{l h m:Option Int}(hl:s.jd lo=some l)(hh:s.jd hi=some h)(hm:s.jd mx=some m){K:Nat×Nat×Nat->View->Prop}
  (hlc:len<=cap) (c0:0<=l.getD 0) (c1:l.getD 0<=h.getD len) (c2:h.getD len<=m.getD cap) (c3:m.getD cap<=cap) (c4:m.isSome=true->h.isSome=true) (hK:K ((l.getD 0).toNat,(h.getD len).toNat,(m.getD cap).toNat) V):
  aQ P V (Ze isS len cap (lo.map a.eval) (hi.map a.eval) (mx.map a.eval)) K Kp:=by
 unfold Ze;rcases zY k hm with⟨rfl,em⟩|⟨vm,km,rfl,em⟩
 ·rw[em];refine az (au ?_);rcases zY k hh with⟨rfl,eh⟩|⟨vh,kh,rfl,eh⟩
  ·rw[eh];refine az (au ?_);rcases zY k hl with⟨rfl,el⟩|⟨vl,kl,rfl,el⟩
   ·rw[el];exact az (au (au (by simpa using hK)))
   ·rw[el];simp only[S0,Vr]at c0 c1 c2;exact az (BC c0 c1 (au (by simpa using hK)))
  ·rw[eh];simp only[S0,Vr]at c0 c1 c2 c3;refine az (BC (by omega) c2 ?_);rcases zY k hl with⟨rfl,el⟩|⟨vl,kl,rfl,el⟩
   ·rw[el];exact az (au (au (by simpa using hK)))
   ·rw[el];simp only[S0,Vr]at c0 c1 c2;exact az (BC c0 (by omega) (au (by simpa using hK)))
 ·rw[em];simp only[S0,Option.isSome_some,true_implies]at c2 c3 c4;rcases zY k hh with⟨rfl,eh⟩|⟨vh,kh,rfl,eh⟩
  ·cases c4
  ·rw[eh];simp only[S0]at c1 c2 c0;refine az (BC (by omega) c3 ?_);refine az (BC (by omega) (by omega) ?_);rcases zY k hl with⟨rfl,el⟩|⟨vl,kl,rfl,el⟩
   ·rw[el];exact az (au (au (by simpa using hK)))
   ·rw[el];simp only[S0]at c0 c1;exact az (BC c0 (by omega) (au (by simpa using hK)))
end
def xF (n:Nat)(l:List AV)(e:End)(sz:Nat)(lo hi mx:Option Int)(k:AV->Prop):Prop:=
 l.length=n* sz/\0<=lo.getD 0/\lo.getD 0<=hi.getD n/\hi.getD n<=mx.getD n/\mx.getD n<=n/\(mx.isSome=true->hi.isSome=true)/\
 k (.sl ((hi.getD n).toNat-(lo.getD 0).toNat) ((l.drop ((lo.getD 0).toNat* sz)).take (((hi.getD n).toNat-(lo.getD 0).toNat)* sz))
  (if mx.isSome&&mx.getD n==hi.getD n then .exact else if lo.getD 0==0&&hi.getD n==n&&mx.isNone then e else .shut))
def kA (P:SI)(t:TypeId):Option (TypeId×Nat):=match P.underlying t with
 |some (.slice e)=>(P.info? e).map λi=>(e,i.size)
 |_=>none
def xB (P:SI)(t:TypeId):Option (Nat×Nat):=match P.underlying t with
 |some (.array n e)=>(P.info? e).map λi=>(n,i.size)
 |_=>none
open Go.Conc
section
variable {lv:Bool}{P:SI}{r:Option Nat}{o:Tu}{s:AS}{next:AS->Prop}{bad:AV->AS->Prop}
theorem ap2{t e:TypeId}{x:Tj}{lo hi mx:Option Tj}{l h m:Option Int}{n sz:Nat}{li:List AV}{en:End}(ho:o.op=.slice t x lo hi mx)(ht:kA P t=some (e,sz))(hx:s.ev x=some (.sl n li en))(hl:s.jd lo=some l)(hh:s.jd hi=some h)(hm:s.jd mx=some m)
  {k:AV->Prop} (hc:xF n li en sz l h m k):∃av,dF lv P r o s av/\k av:=by
 obtain⟨hlen,c0,c1,c2,c3,c4,hk⟩:=hc;refine⟨_,iZ (λE V a hc aG=> ?_),hk⟩;have hd:=ap.ev aG hx;generalize hv:a.eval x=v at hd;unfold kA at ht;split at ht
 ·rename_i e' hu;obtain⟨i,cC,ht⟩:=kU ht;cases ht;unfold execOp;rw[ho];simp only[hv];refine az ?_;unfold Yn;refine ee hu ?_;dsimp only;unfold Z3;refine ee hu ?_;obtain⟨base,cap,rfl⟩:∃base cap,v=.slice base n cap:=by
   cases hd with
   |sl b o cap f dR he q1 q2=>exact⟨_,_,rfl⟩
   |nil he=>exact⟨_,_,rfl⟩
  have dR:n<=cap:=by
   cases hd with
   |sl b o cap f dR he q1 q2=>exact dR
   |nil he=>exact SO _
  dsimp only;have hmm:m.getD (cap:Int)=if m.isSome then m.getD n else cap:=by cases m<;>simp
  refine az (Og aG hl hh hm dR c0 c1 ?_ ?_ c4 ?_)
  ·cases m with
   |none=>simp only[Vr]at c2⊢;omega
   |some m=>simpa using c2
  ·cases m with
   |none=>simp
   |some m=>simp only[S0]at c3⊢;omega
  refine jZ cC ?_;refine au (au ⟨rfl,_,rfl,?_⟩);generalize hA:(l.getD 0).toNat=A;generalize hB:(h.getD (n:Int)).toNat=B;have RS:A<=B:=by omega
  have hBn:B<=n:=by omega
  generalize hM:(m.getD (cap:Int)).toNat=M;have hBM:B<=M:=by
   cases m with
   |none=>simp only[Vr]at hM;omega
   |some m=>simp only[S0]at hM c2;omega
  cases hd with
  |nil he=>
   have F5:A=0:=(by omega);have hB0:B=0:=(by omega);have hM0:M=0:=by
    cases m with
    |none=>simp only[Vr]at hM;omega
    |some m=>simp only[S0]at hM c3;omega
   rw[F5,hB0,hM0];simp only[if_true,Z1,Z6,al'];refine .nil ?_;split
   ·rfl
   ·split
    ·exact he
    ·trivial
  |sl b o cap f dR he q1 q2=>
   have C5:(if M=A then some (⟨b,o,none⟩:U_)else(some (⟨b,o,none⟩:U_)).map λx=>x.add (A* i.size))=some ⟨b,if M=A then o else o+A* i.size,none⟩:=by
    split
    ·rfl
    ·simp only[UT,add_plain]
   rw[C5];have hb:(B-A)* i.size+A* i.size<=n* i.size:=(by rw[<- Vk];exact Uh _ (by omega));refine .sl b _ (M-A) (λj=>f (A* i.size+j)) (by omega) ?_ (λj hj=> ?_) (λj y hj=> ?_)
   ·split
    ·rename_i hx;simp only[Tl,beq_iff_eq]at hx;cases m with
     |none=>simp at hx
     |some m=>
      simp only[S0]at hM hx;show M-A=B-A;omega
    ·split
     ·rename_i hx;simp only[Tl,beq_iff_eq]at hx;obtain⟨⟨x1,x2⟩,x3⟩:=hx;have:A=0:=(by omega);have:B=n:=(by omega);cases m with
      |some m=>cases x3
      |none=>
       simp only[Vr]at hM;have hMc:M=cap:=(by omega);subst hMc;have e1:M-A=M:=(by omega);have e2:B-A=n:=(by omega);have e3:(if M=A then o else o+A* i.size)=o:=(by split<;>simp_all);rw[e1,e2,e3];exact he
     ·trivial
   ·simp only[TV,Uk]at hj;have hMA:M≠A:=by
     intro e;have:B-A=0:=(by omega);rw[this]at hj;omega
    rw[if_neg hMA,U6];exact q1 _ (by omega)
   ·rw[Uf]at hj;split at hj
    ·rw[Up]at hj;exact q2 _ _ hj
    ·cases hj
 ·cases ht
def sK (id off n cap sz:Nat)(lo hi mx:Option Int)(k:AV->Prop):Prop:=
 n<=cap/\0<=lo.getD 0/\lo.getD 0<=hi.getD n/\hi.getD n<=mx.getD cap/\mx.getD cap<=cap/\(mx.isSome=true->hi.isSome=true)/\(lo.getD 0=0\/lo.getD 0<mx.getD cap)/\
 k (.bp id (off+(lo.getD 0).toNat* sz) ((hi.getD n).toNat-(lo.getD 0).toNat) ((mx.getD cap).toNat-(lo.getD 0).toNat))
theorem ap4{t e:TypeId}{x:Tj}{lo hi mx:Option Tj}{l h m:Option Int}{id off n cap sz:Nat}(ho:o.op=.slice t x lo hi mx)(ht:kA P t=some (e,sz))(hx:s.ev x=some (.bp id off n cap))(hl:s.jd lo=some l)(hh:s.jd hi=some h)(hm:s.jd mx=some m)
  {k:AV->Prop} (hc:sK id off n cap sz l h m k):∃av,dF lv P r o s av/\k av:=by
 obtain⟨hlen,c0,c1,c2,c3,c4,c5,hk⟩:=hc;refine⟨_,iZ (λE V a hc aG=> ?_),hk⟩;have hd:=ap.ev aG hx;generalize hv:a.eval x=v at hd;unfold kA at ht;split at ht
 ·rename_i e' hu;obtain⟨i,cC,ht⟩:=kU ht;cases ht;unfold execOp;rw[ho];simp only[hv];refine az ?_;unfold Yn;refine ee hu ?_;dsimp only;unfold Z3;refine ee hu ?_;cases hd with
  |bp bX dR=>
   rename_i cap';obtain rfl:cap=cap':=dR.2.1 hlen;dsimp only;refine az (Og aG hl hh hm hlen c0 c1 c2 c3 c4 ?_);refine jZ cC ?_;refine au (au ⟨rfl,_,rfl,?_⟩);have C5:(if(m.getD (cap:Int)).toNat=(l.getD 0).toNat then some (⟨E.blk id,off,none⟩:U_)else(some (⟨E.blk id,off,none⟩:U_)).map λx=>x.add ((l.getD 0).toNat* i.size))=some ⟨E.blk id,off+(l.getD 0).toNat* i.size,none⟩:=by
    split
    ·have:(l.getD 0).toNat=0:=(by omega);rw[this];simp
    ·simp only[UT,add_plain]
   rw[C5];exact .bp bX ⟨by dsimp only;omega,λ_=>rfl,λh=>absurd h (by omega)⟩
 ·cases ht
theorem ap3{t:TypeId}{x:Tj}{lo hi mx:Option Tj}{l h m:Option Int}{id off n sz:Nat}(ho:o.op=.slice t x lo hi mx)(ht:xB P t=some (n,sz))(hx:s.ev x=some (.op id off))(hl:s.jd lo=some l)(hh:s.jd hi=some h)(hm:s.jd mx=some m)
  {k:AV->Prop} (hc:sK id off n n sz l h m k):∃av,dF lv P r o s av/\k av:=by
 obtain⟨hlen,c0,c1,c2,c3,c4,c5,hk⟩:=hc;refine⟨_,iZ (λE V a hc aG=> ?_),hk⟩;have hd:=ap.ev aG hx;generalize hv:a.eval x=v at hd;unfold xB at ht;split at ht
 ·rename_i m' e' hu;obtain⟨i,cC,ht⟩:=kU ht;cases ht;unfold execOp;rw[ho];simp only[hv];refine az ?_;unfold Yn;refine ee hu ?_;cases hd with
  |op bX=>
   dsimp only;unfold Vh;refine az (au ?_);refine az (Og aG hl hh hm hlen c0 c1 c2 c3 c4 ?_);refine jZ cC ?_;refine au (au ⟨rfl,_,rfl,?_⟩);have C5:(if(m.getD (n:Int)).toNat=(l.getD 0).toNat then(⟨E.blk id,off,none⟩:U_)else(⟨E.blk id,off,none⟩:U_).add ((l.getD 0).toNat* i.size))=⟨E.blk id,off+(l.getD 0).toNat* i.size,none⟩:=by
    split
    ·have:(l.getD 0).toNat=0:=(by omega);rw[this];simp
    ·rw[add_plain]
   rw[C5];exact .bp bX ⟨by dsimp only;omega,λ_=>rfl,λh=>absurd h (by omega)⟩
 ·cases ht
theorem arM{c:Xt}{x y:Tj}{t t' e:TypeId}{id off n cap sz m:Nat}{l l':List AV}{el:TypeId}{av:AV}(ho:o.op=.call c)(aW:c.callee=.builtin .copy)(cM:c.args=#[x,y]) (cR:c.argTypes=#[t,t']) (ht:kA P t=some (e,sz)) (hx:s.ev x=some (.bp id off n cap))
  (hk:s.H[id]?=some (.cells l el)) (hy:s.ev y=some av) (hs:s.src sz av=some (m,l')) (eG:l'.length=m* sz) (hl:off+min m n* sz<=l.length) (nA:∀a∈l',a.leaf=true)
  (hn:next ((⟨s.T,s.H.set id (.cells (iJ l off (l'.take (min m n* sz))) el)⟩:AS).put o.dst (.val (.int .i64 (min m n:Nat))))):Step lv P r o s next bad:=by
 intro E V a N Q hc aG hd bA h1 _;refine⟨bA,?_⟩;have dC:=ap.ev aG hx;have iR:=ap.ev aG hy;generalize ku:a.eval x=vx at dC;generalize rX:a.eval y=vy at iR;unfold execOp;rw[ho];dsimp only;unfold resolve;rw[aW];dsimp only;refine az (au ?_);unfold invoke builtin;dsimp only;refine az ?_;have nB:c.args.map a.eval=#[vx,vy]:=by rw[cM];simp[ku,rX]
 rw[nB,cR];unfold kA at ht;split at ht
 ·rename_i e' hu;obtain⟨i,cC,ht⟩:=kU ht;cases ht;cases dC with
  |bp bX _=>
   obtain⟨⟨cs,p1,p2⟩,p3⟩:=hc.obj id _ hk;obtain⟨g1,g2⟩:=hc.jm hk rfl;unfold avc;simp only[Vl,Vt,UN];refine ee hu ?_;dsimp only;rw[Ig iR hs];refine az (au ?_);refine jZ cC ?_;refine az (Et hc iR hs eG (ZK _ _) λjz kY=> ?_);have h2:(l'.take (min m n* i.size)).length=min m n* i.size:=by
    have:min m n* i.size<=m* i.size:=Uh _ (ZK _ _);simp;omega
   refine az (BD _ 0 V cs g1 g2 p1 (λo _ _=>p3 o) (by
    have hq:jz.size=min m n* i.size:=(by(rw[kY.1];exact h2));have:=p2.1;simp only[Array.length_toList];omega) (CF kY (λa ha=>nA a (Wy ha))) ?_)
   rw[UI];refine au (au (h1 E _ (a.put o.dst _) _ ⟨Env.Le.refl E,dX _ _ _,put_defers _ _ _,rfl,rfl⟩ (by rw[fb];exact hc.set hk (JE p2 kY (by rw[h2];exact hl)))
    (cg.h_ (s:=⟨s.T,s.H.set id (.cells (iJ l off (l'.take (min m n* i.size))) el)⟩) aG hd (.val _)) hn))
 ·cases ht
def B7 (P:SI)(t:TypeId):Option (TypeId×Nat×SP):=match P.underlying t with
 |some (.slice e)=>(P.info? e).bind λi=>i.zero.bind λz=>if z.cells.size=i.size/\i.bytes<=2^16 then some (e,i.size,z)else none
 |_=>none
theorem adF{t e:TypeId}{x y:Tj}{n sz:Nat}{z:SP}{k k':TZ}(ho:o.op=.makeSlice t x y)(ht:B7 P t=some (e,sz,z))(hx:s.ev x=some (.val (.int k n)))(hy:s.ev y=some (.val (.int k' n)))(hb:n<=2^30)
  (hn:next ((⟨s.T,s.H++[.cells (gU z (n* sz)) e]⟩:AS).put o.dst (.bp s.H.length 0 n n))):Step lv P r o s next bad:=by
 intro E V a N Q hc aG hd bA h1 _;refine⟨bA,?_⟩;have dC:=ap.ev aG hx;have iR:=ap.ev aG hy;generalize ku:a.eval x=vx at dC;generalize rX:a.eval y=vy at iR;cases dC;cases iR;unfold B7 at ht;split at ht
 ·rename_i e' hu;obtain⟨i,q1,ht⟩:=Tg.1 ht;obtain⟨z',q2,ht⟩:=Tg.1 ht;split at ht
  ·rename_i yo;cases ht;unfold execOp;rw[ho];simp only[ku,rX];refine az ?_;unfold Instr.makeSlice;refine ee hu ?_;dsimp only;refine az (au ?_);refine az (au ?_);refine zn q1 ?_;have hw:SD.wrap (n:Int)=n:=bw _ (by omega);rw[hw];have hmul:i.bytes* n<=2^16* 2^30:=ZQ yo.2 hb;have auu:(i.bytes:Int)* n<=2^46:=(by exact_mod_cast hmul);rw[if_neg (by simp;omega)];refine az (ac8 ?_);refine jZ q1 ?_;rw[VR];have fin:∀(zero:Array SP),(∀j,j<n* i.size->zero[j % zero.size]! =z.cells[j % z.cells.size]!)->aQ P V (do let a<- newRow e ((WO (n* i.size)).map (zero[· % zero.size]!));pure (Uu (some a) n n)) (λx V'=>aQ P V' (pure (W9 x)) (mD lv P r o a N Q) (λv V'=>Q (.panic [{v,recovered:=false}]) a V')) (λv V'=>Q (.panic [{v,recovered:=false}]) a V'):=by
    intro zero hz;unfold newRow;refine az (az (oQ λrr hf=>cI (au (au (au ?_)))));have hle:E.Le (E.add rr V.ab):=E.qF rr (λb o v h=>by rw[<- hc.I];exact h);have akH:(WO (n* i.size)).map (zero[· % zero.size]!)=(WO (n* i.size)).map (λx=>z.cells[x % z.cells.size]!):=by
     apply VG;simp only[VN];apply Vg;intro j hj;exact hz j (by simpa using hj)
    rw[akH];have bi:Conc (E.add rr V.ab) (V.upd rr (.cells ((WO (n* i.size)).map (λx=>z.cells[x % z.cells.size]!)) e)) (s.H++[.cells (gU z (n* i.size)) e]):=by
     refine hc.add hf _ ⟨⟨_,?_,JF z _⟩,λo=> ?_⟩ (λb e=> ?_)
     ·rw[Env.dM];simp[View.upd]
     ·rw[Env.dM];exact hf.2 o
     ·simp only[bO,Env.dM,Tm]at e;exact e.symm
    have bk:ap (E.add rr V.ab) (.bp s.H.length 0 n n) (.slice (some ⟨rr,0,none⟩) n n):=by
     have:=ap.bp (E:=E.add rr V.ab) (id:=s.H.length) (off:=0) (n:=n) (cap:=n) (cap':=n) (by show _<E.n+1;rw[hc.n];omega) ⟨SO _,λ_=>rfl,λh=>absurd h (Nat.lt_irrefl _)⟩;have e:(E.add rr V.ab).blk s.H.length=rr:=(by rw[<- hc.n];exact E.dM rr _);rwa [e]at this
    exact h1 _ _ (a.put o.dst _) ((⟨s.T,s.H++[.cells (gU z (n* i.size)) e]⟩:AS).put o.dst (.bp s.H.length 0 n n)) ⟨hle,dX _ _ _,put_defers _ _ _,rfl,rfl⟩ (by rw[fb];exact bi)
     (cg.h_ (s:=⟨s.T,s.H++[.cells (gU z (n* i.size)) e]⟩) (aG.mono hle) hd bk) hn
   by_cases h0:n* i.size=0
   ·rw[if_pos h0];refine az (au ?_);exact fin #[] (λj hj=>by omega)
   ·rw[if_neg h0];refine az (az ?_);unfold typeInfo;refine az (qK (cI ?_));rw[q1];refine au ?_;rw[q2];refine au (az (au ?_));exact fin z.cells (λj _=>rfl)
  ·cases ht
 ·cases ht
def AV.Br:AV->Option SP
 |.val x=>some x
 |_=>none
def AV.raw:AV->Option SP
 |.val x=>some x
 |.agg l=>(l.mapM AV.Br).map λvs=> .agg vs.toArray
 |_=>none
theorem ap.Br{E:Env}{a:AV}{v x:SP}(h:ap E a v)(hr:a.Br=some x):v=x:=by
 cases h<;>cases hr;rfl
theorem ap.raw{E:Env}{a:AV}{v x:SP}(h:ap E a v)(hr:a.raw=some x):v=x:=by
 cases h with
 |val=>cases hr;rfl
 |agg hs h=>
  obtain⟨vs,h1,rfl⟩:=kU hr;congr 1;rename_i l cs;have key:∀(l:List AV)(vs:List SP)(cs:List SP),l.mapM AV.Br=some vs->cs.length=l.length->(∀(i:Nat) a,l[i]?=some a->ap E a (cs.getD i undef))->cs=vs:=by
   intro l;induction l with
   |nil=>intro vs cs h1 h2 _;simp at h1;subst h1;simpa using h2
   |cons a l ih=>
    intro vs cs h1 h2 h3;simp only[Ub,Uj,TR,Tg,Tm]at h1;obtain⟨b,e1,bs,e2,rfl⟩:=h1;cases cs with
    |nil=>simp at h2
    |cons c cs=>
     have hc:=(h3 0 a rfl).Br e1;have:=ih bs cs e2 (by simpa using h2) (λi x hx=>by simpa using h3 (i+1) x (by simpa using hx));subst this;simp only[Xs]at hc;rw[hc]
  have:=key l vs cs.toList h1 (by simpa using hs) (λi a e=>by have:=h i a e;rw[SH]at this;simpa[SE]using this);rw[<- this]
 |_=>cases hr
def xY:SP->SP->Bool
 |.agg _,.agg _=>true
 |.bool _,.bool _=>true
 |_,_=>false
theorem apD{op:Wb}{xt yt:TypeId}{x y:Tj}{a b:AV}{X Y:SP}{e:Bool}(ho:o.op=.binOp op xt x y yt)(ay:op=.eql\/op=.neq)(hx:s.ev x=some a)(hy:s.ev y=some b)(hX:a.raw=some X)(hY:b.raw=some Y)(hk:xY X Y=true)(hg:P.eqGuardType P.depth xt=false)(he:cG P (WT xt X Y) e):
  dF lv P r o s (.val (.bool (if op== .neq then !e else e))):=
 iZ (λE V ac hc aG=>by
  have e1:=(ap.ev aG hx).raw hX;have e2:=(ap.ev aG hy).raw hY;unfold execOp;rw[ho];simp only[e1,e2];refine az ?_;have guard:∀{K:Unit->View->Prop},K () V->aQ P V (eqGuard op xt x y X Y) K (λ_ _=>False):=λhK=>by
   unfold eqGuard;unfold xY at hk;split at hk
   ·rcases ay with rfl|rfl
    all_goals
     simp only[as_,TP,if_false];refine az (qK (cI ?_));refine az (qK (cI ?_));rw[hg];exact au hK
   ·rcases ay with rfl|rfl<;>exact au hK
   ·cases hk
  refine az (guard ?_);unfold xY at hk;split at hk
  ·rcases ay with rfl|rfl<;>(unfold binOp;refine he.bind (au (au ⟨rfl,_,rfl,?_⟩));exact .val _)
  ·rcases ay with rfl|rfl<;>(unfold binOp;refine he.bind (au (au ⟨rfl,_,rfl,?_⟩));exact .val _)
  ·cases hk)
theorem ah6{t:TypeId}{v:SP}{b:Bool}{V:View}{K:Bool->View->Prop}{Kp:SP->View->Prop}(ht:mj P t=some true)(hv:(v=.nilIface/\b=true)\/((∃u x,v=.iface u x)/\b=false))(hk:K b V):aQ P V (WT t v .nilIface) K Kp:=by
 obtain⟨el,hu⟩:∃el,P.underlying t=some (.interface el):=by
  unfold mj at ht;cases h:P.underlying t with
  |none=>rw[h]at ht;cases ht
  |some d=>
   rw[h]at ht;cases d<;>first|exact⟨_,rfl⟩|(simp at ht)
 have e:WT t v .nilIface=VC (9999+1) t v .nilIface:=rfl;rw[e,VC];refine ee hu ?_;rcases hv with⟨rfl,rfl⟩|⟨⟨u,x,rfl⟩,rfl⟩
 ·exact au hk
 ·exact au hk
theorem acJ{op:Wb}{xt yt:TypeId}{x:Tj}{a:AV}{b:Bool}(ho:o.op=.binOp op xt x (.const .nilIface) yt)(ay:op=.eql\/op=.neq)(hx:s.ev x=some a)(ha:(a=.val .nilIface/\b=true)\/((∃u y,a=.da u y)/\b=false))(ht:mj P xt=some true):
  dF lv P r o s (.val (.bool (if op== .neq then !b else b))):=
 iZ (λE V ac hc aG=>by
  have hd:=ap.ev aG hx;generalize ku:ac.eval x=vx at hd;have hv:(vx=.nilIface/\b=true)\/((∃u y,vx=.iface u y)/\b=false):=by
   rcases ha with⟨rfl,rfl⟩|⟨⟨u,y,rfl⟩,rfl⟩
   ·cases hd;exact .inl ⟨rfl,rfl⟩
   ·cases hd;exact .inr ⟨⟨_,_,rfl⟩,rfl⟩
  have hy:ac.eval (.const .nilIface)=.nilIface:=rfl;unfold execOp;rw[ho];simp only[ku,hy];refine az ?_;have guard:∀{K:Unit->View->Prop},K () V->aQ P V (eqGuard op xt x (.const .nilIface) vx .nilIface) K (λ_ _=>False):=λhK=>by
   unfold eqGuard;rcases hv with⟨rfl,_⟩|⟨⟨u,y,rfl⟩,_⟩<;>rcases ay with rfl|rfl<;>first|exact au hK|(simp;exact au hK)
  refine az (guard ?_);rcases hv with⟨rfl,rfl⟩|⟨⟨u,y,rfl⟩,rfl⟩<;>rcases ay with rfl|rfl<;>(unfold binOp;refine az (ah6 (b:=_) ht (by first|exact .inl ⟨rfl,rfl⟩|exact .inr ⟨⟨_,_,rfl⟩,rfl⟩) (au (au ⟨rfl,_,rfl,?_⟩)));exact .val _))
theorem QS{t:TypeId}{d:TypeId×Nat}{b:Option U_}{n cap:Nat}{V:View}{K:Bool->View->Prop}{Kp:SP->View->Prop}(ht:kA P t=some d)(hk:K b.isNone V):aQ P V (WT t (.slice b n cap) (.slice none 0 0)) K Kp:=by
 obtain⟨el,hu⟩:∃el,P.underlying t=some (.slice el):=by
  unfold kA at ht;split at ht
  ·rename_i e he;exact⟨e,he⟩
  ·cases ht
 have e:WT t (.slice b n cap) (.slice none 0 0)=VC (9999+1) t (.slice b n cap) (.slice none 0 0):=rfl;rw[e,VC];refine ee hu ?_;cases b with
 |none=>exact au hk
 |some a=>exact au hk
theorem arT{op:Wb}{t yt:TypeId}{x:Tj}{n:Nat}{av:AV}{d:TypeId×Nat}(ho:o.op=.binOp op t x (.const (.slice none 0 0)) yt)(ay:op=.eql\/op=.neq)(hx:s.ev x=some av)(hlen:av.len=some n)(ht:kA P t=some d)
  (hn:∀b:Bool,(0<n->b=false)->next (s.put o.dst (.val (.bool (if op== .neq then !b else b))))):Step lv P r o s next bad:=by
 intro E V a N Q hc aG hd bA h1 _;refine⟨bA,?_⟩;have dC:=ap.ev aG hx;generalize ku:a.eval x=vx at dC;obtain⟨base,cap,rfl,hb⟩:∃base cap,vx=.slice base n cap/\(0<n->base.isNone=false):=by
  cases dC with
  |sl b o cap f dR he q1 q2=>cases hlen;exact⟨_,_,rfl,λ_=>rfl⟩
  |nil he=>cases hlen;exact⟨_,_,rfl,λh=>absurd h (by omega)⟩
  |bp hi=>cases hlen;exact⟨_,_,rfl,λ_=>rfl⟩
  |_=>cases hlen
 unfold execOp;rw[ho];have hy:a.eval (.const (.slice none 0 0))=.slice none 0 0:=rfl;simp only[ku,hy];have fin:aQ P V (pure (W9 (.bool (if op== .neq then !base.isNone else base.isNone)))) (mD lv P r o a N Q) (λv V'=>Q (.panic [{v,recovered:=false}]) a V'):=
  au (h1 E V (a.put o.dst _) _ ⟨Env.Le.refl E,dX _ _ _,put_defers _ _ _,rfl,rfl⟩ (by rw[fb];exact hc) (aG.h_ hd (.val _)) (hn _ hb))
 rcases ay with rfl|rfl
 ·refine az (az (au ?_));unfold binOp;exact az (QS ht (au fin))
 ·refine az (az (au ?_));unfold binOp;exact az (QS ht (au fin))
theorem apU{c:Xt}{x y:Tj}{k j:TZ}{m n:Int}(ho:o.op=.call c)(aW:c.callee=.builtin .max)(cM:c.args=#[x,y]) (hx:s.ev x=some (.val (.int k m))) (hy:s.ev y=some (.val (.int j n))):dF lv P r o s (.val (.int k (if n>m then n else m))):=
 sk (λE V a hc aG=>by
  have h1:=ap.ev aG hx;have h2:=ap.ev aG hy;generalize pG:a.eval x=v1 at h1;generalize tR:a.eval y=v2 at h2;cases h1;cases h2;refine⟨_,?_,.val _⟩;unfold execOp;rw[ho];dsimp only;unfold resolve;rw[aW];have nB:c.args.map a.eval=#[.int k m,.int j n]:=by rw[cM];simp[pG,tR]
  rw[nB];rfl)
theorem apV{c:Xt}{x y:Tj}{k j:TZ}{m n:Int}(ho:o.op=.call c)(aW:c.callee=.builtin .min)(cM:c.args=#[x,y]) (hx:s.ev x=some (.val (.int k m))) (hy:s.ev y=some (.val (.int j n))):dF lv P r o s (.val (.int k (if n<m then n else m))):=
 sk (λE V a hc aG=>by
  have h1:=ap.ev aG hx;have h2:=ap.ev aG hy;generalize pG:a.eval x=v1 at h1;generalize tR:a.eval y=v2 at h2;cases h1;cases h2;refine⟨_,?_,.val _⟩;unfold execOp;rw[ho];dsimp only;unfold resolve;rw[aW];have nB:c.args.map a.eval=#[.int k m,.int j n]:=by rw[cM];simp[pG,tR]
  rw[nB];rfl)
theorem acI{x:Tj}{xt aE t:TypeId}{ok:Bool}{av:AV}{z:SP}(ho:o.op=.typeAssert x xt aE ok)(ht:mj P aE=some false)(hz:eJ P aE=some z)(hx:s.ev x=some (.da t av))(aq:ok=true\/t=aE):
  dF lv P r o s (if t=aE then(if ok then .aN [av,.val (.bool true)]else av)else .aN [AV.of z,.val (.bool false)]):=
 iZ (λE V a hc aG=>by
  have hd:=ap.ev aG hx;generalize hv:a.eval x=v at hd;cases hd with
  |da hd=>
   obtain⟨d,hu,jh⟩:=kU ht;unfold execOp;rw[ho];simp only[hv];refine az ?_;unfold Zn;refine ee hu ?_;split
   ·rename_i h;cases jh
   ·rename_i h;cases jh
   ·rename_i h;cases h
   ·rename_i t' v' h;cases h;by_cases e:t=aE
    ·rw[if_pos e,if_pos e];cases ok
     ·exact au (au ⟨rfl,_,rfl,hd⟩)
     ·refine au (au ⟨rfl,_,rfl,.aN rfl λi b hb=> ?_⟩)
      match i,hb with
      |0,hb=>cases hb;exact hd
      |1,hb=>cases hb;exact .val _
    ·rw[if_neg e,if_neg e];have nE:ok=true:=aq.resolve_right e;subst nE;simp only[if_true];refine az (az ?_);unfold eJ at hz;obtain⟨inf,z1,z2⟩:=Tg.1 hz;unfold typeInfo;refine az (qK (cI ?_));rw[z1];refine au ?_;rw[z2];refine au (au (au ⟨rfl,_,rfl,.aN rfl λi b hb=> ?_⟩))
     match i,hb with
     |0,hb=>cases hb;exact sX E z
     |1,hb=>cases hb;exact .val _
   ·exfalso;simp_all)
theorem apx{x:Tj}{xt aE:TypeId}{z:SP}(ho:o.op=.typeAssert x xt aE true)(ht:mj P aE=some false)(hz:eJ P aE=some z)(hx:s.ev x=some (.val .nilIface)):dF lv P r o s (.aN [AV.of z,.val (.bool false)]):=
 iZ (λE V a hc aG=>by
  have hd:=ap.ev aG hx;generalize hv:a.eval x=v at hd;cases hd;obtain⟨d,hu,jh⟩:=kU ht;unfold execOp;rw[ho];simp only[hv];refine az ?_;unfold Zn;refine ee hu ?_;unfold eJ at hz;obtain⟨inf,z1,z2⟩:=Tg.1 hz;split
  ·rename_i h;cases jh
  ·rename_i h;cases h
  ·simp only[if_true];refine az (az ?_);unfold typeInfo;refine az (qK (cI ?_));rw[z1];refine au ?_;rw[z2];refine au (au (au ⟨rfl,_,rfl,.aN rfl λi b hb=> ?_⟩))
   match i,hb with
   |0,hb=>cases hb;exact sX E z
   |1,hb=>cases hb;exact .val _
  ·rename_i h;cases h
  ·exfalso;simp_all)
def I1 (P:SI)(t:TypeId)(name:String):Prop:=∀v,cG P (nilAhead (P.types.size+Made.depth) t v name) (some false)
theorem apY{x:Tj}{name:String}{t:TypeId}{av:AV}(ho:o.op=.nilCheck x)(hx:s.ev x=some (.fn (.method name) [.da t av] []))(hn:I1 P t name):dF lv P r o s (.fn (.method name) [.da t av] []):=
 iZ (λE V a hc aG=>by
  have hd:=ap.ev aG hx;unfold execOp;rw[ho];dsimp only;generalize hv:a.eval x=v at hd⊢;have cz:=hd;cases hd with
  |fn dL fX h1 h2=>
   rename_i fa ca;have hfa:fa.size=1:=dL;have:=h1 0 _ rfl;rw[SH,SJ (by omega)]at this;simp only[S0]at this;have hg:fa[0]?=some fa[0]:=SJ (by omega);generalize hq:fa[0]=q at this hg;cases this with
   |da jI=>
    dsimp only;rw[hg];dsimp only;refine az (qK (cI ?_));refine(hn _).bind ?_;simp only[bne_self_eq_false,TP,if_false];exact au ⟨rfl,_,rfl,cz⟩)
def oX (P:SI)(t:TypeId):Option (TypeId×TypeId):=match P.underlying t with
 |some (.map k e)=>some (k,e)
 |_=>none
def xh (es:Array Wq)(ck:Nat)(k x:SP):Option (Nat×SP)->Obj
 |none=> .map (es.push {key:=k,val:=x,born:=ck}) (ck+1)
 |some (i,_)=> .map (es.modify i λe=>{e with key:=k,val:=x}) ck
theorem arP{t kt et:TypeId}{m k x:Tj}{id ck:Nat}{es:Array Wq}{a b:AV}{K X:SP}{fd:Option (Nat×SP)}(ho:o.op=.mapUpdate t m k x\/o.op=.insert t m k x)(ht:oX P t=some (kt,et))(hm:s.ev m=some (.mp id))(hk:s.ev k=some a)(hx:s.ev x=some b)(hK:a.raw=some K)(hX:b.raw=some X)
  (hH:s.H[id]?=some (.obj (.map es ck))) (hc:cG P (Vj false 10000 kt K) ()) (hf:cG P (VP kt K es.toList) fd) (GU:∀i v,fd=some (i,v)->WG 10000 (((es[i]?).map (·.key)).getD K) K=true)
  (hn:next ((⟨s.T,s.H.set id (.obj (xh es ck K X fd))⟩:AS).put o.dst (.val undef))):Step lv P r o s next bad:=by
 intro E V ac N Q jg aG hd bA h1 _;refine⟨bA,?_⟩;have e1:=(ap.ev aG hk).raw hK;have e2:=(ap.ev aG hx).raw hX;have po:=ap.ev aG hm;generalize yL:ac.eval m=vm at po;cases po;obtain⟨p1,p2,p3,p4⟩:=jg.obj id _ hH;obtain⟨g1,g2⟩:=jg.jm hH rfl;have go:aQ P V (do Zw t (.map (some (E.blk id))) K X;pure Next.skip) (mD lv P r o ac N Q) (λv V'=>Q (.panic [{v,recovered:=false}]) ac V'):=by
  refine az ?_;unfold oX at ht;split at ht
  ·rename_i k' e' hu;cases ht;unfold Zw;refine ee hu ?_;dsimp only;refine az (nU p1 p2 p3 g2 (cI ?_));dsimp only;refine hc.bind (hf.bind ?_);have fin:∀y,y=xh es ck K X fd->aQ P V (setObj (E.blk id) y) (λ_ V'=>aQ P V' (pure Next.skip) (mD lv P r o ac N Q) (λv V'=>Q (.panic [{v,recovered:=false}]) ac V')) (λv V'=>Q (.panic [{v,recovered:=false}]) ac V'):=λy hy=>by
    have u_:y.ve=false:=(by rw[hy];cases fd<;>rfl);have hy2:y.isChan=false:=(by rw[hy];cases fd<;>rfl);refine zm p1 p2 hy2 g2 (cI (au ?_));exact h1 E _ (ac.put o.dst undef) _ ⟨Env.Le.refl E,dX _ _ _,put_defers _ _ _,rfl,rfl⟩ (by rw[fb];rw[hy];exact jg.setObj hH (by cases fd<;>rfl) (by cases fd<;>rfl))
     (cg.h_ (s:=⟨s.T,s.H.set id (.obj (xh es ck K X fd))⟩) aG hd (.val undef)) hn
   cases fd with
   |none=>exact fin _ rfl
   |some iv=>
    obtain⟨i,v⟩:=iv;dsimp only;unfold Instr.keyThatStays;rw[GU i v rfl];simp only[if_true];exact az (au (fin _ rfl))
  ·cases ht
 unfold execOp;rcases ho with ho|ho
 all_goals
  rw[ho];simp only[yL,e1,e2];exact go
def FJ (es:Array Wq):Option (Nat×SP)->Array Wq
 |some (i,_)=>es.eraseIdxIfInBounds i
 |none=>es
theorem arN{c:Xt}{t t' kt et:TypeId}{m k:Tj}{id ck:Nat}{es:Array Wq}{a:AV}{K:SP}{fd:Option (Nat×SP)}(ho:o.op=.call c)(aW:c.callee=.builtin .delete)(cM:c.args=#[m,k]) (cR:c.argTypes=#[t,t']) (ht:oX P t=some (kt,et)) (hm:s.ev m=some (.mp id)) (hk:s.ev k=some a) (hK:a.raw=some K)
  (hH:s.H[id]?=some (.obj (.map es ck))) (hc:cG P (Vj es.isEmpty 10000 kt K) ()) (hf:cG P (VP kt K es.toList) fd)
  (hn:next ((⟨s.T,s.H.set id (.obj (.map (FJ es fd) ck))⟩:AS).put o.dst (.val undef))):Step lv P r o s next bad:=by
 intro E V ac N Q jg aG hd bA h1 _;refine⟨bA,?_⟩;have e1:=(ap.ev aG hk).raw hK;have po:=ap.ev aG hm;generalize yL:ac.eval m=vm at po;cases po;obtain⟨p1,p2,p3,p4⟩:=jg.obj id _ hH;obtain⟨g1,g2⟩:=jg.jm hH rfl;unfold execOp;rw[ho];dsimp only;unfold resolve;rw[aW];dsimp only;refine az (au ?_);unfold invoke builtin;dsimp only;refine az ?_;have nB:c.args.map ac.eval=#[.map (some (E.blk id)),K]:=by rw[cM];simp[yL,e1]
 rw[nB,cR];unfold oX at ht;split at ht
 ·rename_i k' e' hu;cases ht;unfold avb;simp only[Vl,Vt,UN];refine ee hu ?_;dsimp only;refine az (nU p1 p2 p3 g2 (cI ?_));dsimp only;refine hc.bind (hf.bind ?_);have fin:∀uz,uz=(FJ es fd)->aQ P V (setObj (E.blk id) (.map uz ck)) (λ_ V'=>aQ P V' (pure (YN #[])) (λx V'=>aQ P V' (pure (W9 x)) (mD lv P r o ac N Q) (λv V'=>Q (.panic [{v,recovered:=false}]) ac V')) (λv V'=>Q (.panic [{v,recovered:=false}]) ac V')) (λv V'=>Q (.panic [{v,recovered:=false}]) ac V'):=λy hy=>by
   refine zm p1 p2 rfl g2 (cI (au (au ?_)));exact h1 E _ (ac.put o.dst undef) _ ⟨Env.Le.refl E,dX _ _ _,put_defers _ _ _,rfl,rfl⟩ (by rw[fb];rw[hy];exact jg.setObj hH rfl rfl)
    (cg.h_ (s:=⟨s.T,s.H.set id (.obj (.map (FJ es fd) ck))⟩) aG hd (.val undef)) hn
  cases fd with
  |none=>exact az (fin _ rfl)
  |some iv=>exact az (fin _ rfl)
 ·cases ht
theorem arS{t kt et:TypeId}{x:Tj}{m ck:Nat}{es:Array Wq}(ho:o.op=.range t x)(ht:oX P t=some (kt,et))(hx:s.ev x=some (.mp m))(hH:s.H[m]?=some (.obj (.map es ck)))
  (hn:next ((⟨s.T,s.H++[.iter m ck #[] ck]⟩:AS).put o.dst (.op s.H.length 0))):Step lv P r o s next bad:=by
 intro E V ac N Q hc aG hd bA h1 _;refine⟨bA,?_⟩;have po:=ap.ev aG hx;generalize yL:ac.eval x=vm at po;cases po with
 |mp hm=>
  obtain⟨p1,p2,p3,p4⟩:=hc.obj m _ hH;obtain⟨g1,g2⟩:=hc.jm hH rfl;unfold execOp;rw[ho];simp only[yL];refine az ?_;unfold oX at ht;split at ht
  ·rename_i k' e' hu;cases ht;unfold Instr.range;refine ee hu ?_;refine az (nU p1 p2 p3 g2 (cI ?_));dsimp only;refine az (au ?_);refine az (oQ λrr hf=>cI (au (au ?_)));have hle:E.Le (E.add rr V.ab):=E.qF rr (λb o v h=>by rw[<- hc.I];exact h);have bi:Conc (E.add rr V.ab) (V.upd rr (.mapIter (some (E.blk m)) ck #[] ck)) (s.H++[.iter m ck #[] ck]):=by
    refine hc.add hf _ ⟨?_,?_,λo=> ?_⟩ (λb e=> ?_)
    ·exact Nat.lt_succ_of_lt hm
    ·rw[Env.dM,hle.blk m hm];simp[View.upd]
    ·rw[Env.dM];exact hf.2 o
    ·simp only[bO,Env.dM,Tm]at e;exact e.symm
   exact h1 _ _ (ac.put o.dst (.pointer (some ⟨rr,0,none⟩))) ((⟨s.T,s.H++[.iter m ck #[] ck]⟩:AS).put o.dst (.op s.H.length 0)) ⟨hle,dX _ _ _,put_defers _ _ _,rfl,rfl⟩ (by rw[fb];exact bi)
    (cg.h_ (s:=⟨s.T,s.H++[.iter m ck #[] ck]⟩) (aG.mono hle) hd (Qu hc.n rr V.ab)) hn
  ·cases ht
theorem Conc.setIter{E:Env}{V:View}{H:List aa}(hc:Conc E V H){id m a c:Nat}{b:Array Nat}(hk:H[id]?=some (.iter m a b c))(a':Nat)(b':Array Nat)(c':Nat):Conc E (V.upd (E.blk id) (.mapIter (some (E.blk m)) a' b' c')) (H.set id (.iter m a' b' c')):=by
 obtain⟨p1,p2,p4⟩:=hc.obj id _ hk;refine hc.iN id (.iter m a' b' c') (Env.Le.refl E) hc.I (by simpa using hc.n) ln rfl (λ_ _ _=>rfl) (λb z hb hz=>⟨?_,λ_=>rfl⟩) ⟨p1,by simp[View.upd],p4⟩ (λb h=> .inl ⟨_,hk,h⟩);have:b≠E.blk id:=λe=>hb _ hk (by rw[e];rfl);simpa[View.upd,this]using hz
theorem arQ{it:Tj}{id m since ck ud:Nat}{seen:Array Nat}{es:Array Wq}(ho:o.op=.next it false)(hi:s.ev it=some (.op id 0))(hI:s.H[id]?=some (.iter m since seen ud))(hM:s.H[m]?=some (.obj (.map es ck)))
  (aq:es.all (λe=>decide (e.born>=ud))=false\/es.isEmpty=true\/seen.isEmpty=true)
  (hn:∀e∈es,e.born∉seen->next ((⟨s.T,s.H.set id (.iter m since (seen.push e.born) ck)⟩:AS).put o.dst (.aN [.val (.bool true),AV.of e.key,AV.of e.val])))
  (alJ:(∀e∈es,e.born<since->e.born∈seen)->next (s.put o.dst (.aN [.val (.bool false)]))):Step lv P r o s next bad:=by
 intro E V ac N Q hc aG hd bA h1 _;refine⟨bA,?_⟩;have oC:=ap.ev aG hi;generalize qE:ac.eval it=vi at oC;cases oC with
 |op bX=>
  obtain⟨q1,q2,q3⟩:=hc.obj id _ hI;obtain⟨p1,p2,p3,p4⟩:=hc.obj m _ hM;have gi:=hc.jm hI rfl;have gm:=hc.jm hM rfl;unfold execOp;rw[ho];simp only[qE];refine az ?_;unfold Instr.next;dsimp only;refine az (nU q2 rfl rfl gi.2 (cI ?_));dsimp only;refine az (nU p1 p2 p3 gm.2 (cI ?_));dsimp only;rw[if_neg (by
   intro h;simp only[Tl,T1]at h;rcases aq with hk|hk|hk
   ·rw[hk]at h;cases h.2
   ·rw[hk]at h;cases h.1.2
   ·rw[hk]at h;cases h.1.1)]
  generalize Su:(if((es.filter λe=> !seen.contains e.born).filter (λe=>decide (e.born<since))).isEmpty=true then#[none]else#[])++((es.filter λe=> !seen.contains e.born).filter (λe=>decide (e.born<since))++(es.filter λe=> !seen.contains e.born).filter (λe=>decide (e.born>=since))).map some=z8;have cK:∀x∈z8,match x with
    |some e=>e∈es/\e.born∉seen
    |none=>∀e∈es,e.born<since->e.born∈seen:=by
   intro x hx;rw[<- Su]at hx;rcases Uw.1 hx with hx|hx
   ·split at hx
    ·rename_i tx;simp at hx;subst hx;intro e he hlt;apply Tn;intro gK;have:e∈((es.filter λe=> !seen.contains e.born).filter (λe=>decide (e.born<since))):=(by simp[he,hlt,gK]);rw[Zi]at tx;rw[tx]at this;simp at this
    ·simp at hx
   ·rw[Array.mem_map]at hx;obtain⟨e,he,rfl⟩:=hx;rcases Uw.1 he with he|he<;>simp at he<;>exact⟨he.1,he.2.2⟩
  have yE:0<z8.size:=by
   rw[<- Su];split
   ·simp;omega
   ·rename_i tx;have:0<((es.filter λe=> !seen.contains e.born).filter (λe=>decide (e.born<since))).size:=by
     rw[Zi]at tx;exact Array.size_pos_iff.2 tx
    simp only[XG,Array.size_map,List.size_toArray,UW];omega
  have fin:∀j,j<z8.size->aQ P V (match z8[j]?with
    |some (some e)=>do setObj (E.blk id) (.mapIter (some (E.blk m)) since (seen.push e.born) ck);pure (YN #[.bool true,e.key,e.val])
    |some none=>pure (YN #[.bool false])
    | none => stuck "Next: no such candidate") (λx V' => aQ P V' (pure (W9 x)) (mD lv P r o ac N Q) (λv V' => Q (.panic [{ v, recovered := false }]) ac V')) (λv V' => Q (.panic [{ v, recovered := false }]) ac V') := by
   intro j hj;rw[SJ hj];have hm:=cK z8[j] (XX hj);generalize z8[j]=x at hm;cases x with
   |none=>
    dsimp only;refine au (au ?_);exact h1 E V (ac.put o.dst _) (s.put o.dst (.aN [.val (.bool false)])) ⟨Env.Le.refl E,dX _ _ _,put_defers _ _ _,rfl,rfl⟩ (by rw[fb];exact hc)
     (cg.h_ aG hd (.aN rfl λi b hb=>by
      match i,hb with
      |0,hb=>cases hb;exact .val _)) (alJ hm)
   |some e=>
    dsimp only;refine az (zm q2 rfl rfl gi.2 (cI (au (au ?_))));exact h1 E _ (ac.put o.dst _) _ ⟨Env.Le.refl E,dX _ _ _,put_defers _ _ _,rfl,rfl⟩ (by rw[fb];exact hc.setIter hI since (seen.push e.born) ck)
     (cg.h_ (s:=⟨s.T,s.H.set id (.iter m since (seen.push e.born) ck)⟩) aG hd (.aN rfl λi b hb=>by
      match i,hb with
      |0,hb=>cases hb;exact .val _
      |1,hb=>cases hb;exact sX E _
      |2,hb=>cases hb;exact sX E _)) (hn e hm.1 hm.2)
  refine az (ada (λhf=>cI (fin 0 yE)) (λhf t=>cI (fin _ (as' _ yE))))
def AV.found (z:SP)(ok:Bool):Option (Nat×SP)->AV
 |some (_,v)=>if ok then .aN [AV.of v,.val (.bool true)]else AV.of v
 |none=>if ok then .aN [AV.of z,.val (.bool false)]else AV.of z
theorem apQ{t kt et:TypeId}{m k:Tj}{id ck:Nat}{es:Array Wq}{a:AV}{K z:SP}{ok:Bool}{fd:Option (Nat×SP)}(ho:o.op=.lookup t m k ok)(ht:oX P t=some (kt,et))(hz:eJ P et=some z)(hm:s.ev m=some (.mp id))(hk:s.ev k=some a)(hK:a.raw=some K)
  (hH:s.H[id]?=some (.obj (.map es ck))) (hc:cG P (Vj es.isEmpty 10000 kt K) ()) (hf:cG P (VP kt K es.toList) fd):dF lv P r o s (AV.found z ok fd):=
 iZ (λE V ac jg aG=>by
  have e1:=(ap.ev aG hk).raw hK;have po:=ap.ev aG hm;generalize yL:ac.eval m=vm at po;cases po;obtain⟨p1,p2,p3,p4⟩:=jg.obj id _ hH;have g:=jg.jm hH rfl;unfold oX at ht;split at ht
  ·rename_i k' e' hu;cases ht;unfold execOp;rw[ho];simp only[yL,e1];refine az ?_;unfold Instr.lookup;refine ee hu ?_;dsimp only;refine az (az (nU p1 p2 p3 g.2 (au (au ?_))));refine hc.bind (az (hf.ok ?_));have two:∀(v:SP)(b:Bool)(i:Nat)(x:AV),[AV.of v,.val (.bool b)][i]?=some x->ap E x ((#[v,Xf b]:Array SP).getD i undef):=λv b i x hx=>by
    match i,hx with
    |0,hx=>cases hx;exact sX E _
    |1,hx=>cases hx;exact .val _
   cases fd with
   |some iv=>
    obtain⟨i,v⟩:=iv;refine au (au ⟨rfl,_,rfl,?_⟩);cases ok with
    |true=>exact .aN rfl (two v true)
    |false=>exact sX E _
   |none=>
    refine Ia hz (au (au ⟨rfl,_,rfl,?_⟩));cases ok with
    |true=>exact .aN rfl (two z false)
    |false=>exact sX E _
  ·cases ht)
theorem apC{it:Tj}{id m since ck:Nat}{seen:Array Nat}{es:Array Wq}{b:Nat}{e:Wq}(ho:o.op=.entry it)(hi:s.ev it=some (.op id 0))(hI:s.H[id]?=some (.iter m since seen ck))(hM:s.H[m]?=some (.obj (.map es ck)))
  (hb:seen.back?=some b) (he:es.find? (·.born==b)=some e):dF lv P r o s (.aN [AV.of e.key,AV.of e.val]):=
 iZ (λE V ac hc aG=>by
  have oC:=ap.ev aG hi;generalize qE:ac.eval it=vi at oC;cases oC with
  |op bX=>
   obtain⟨q1,q2,q3⟩:=hc.obj id _ hI;obtain⟨p1,p2,p3,p4⟩:=hc.obj m _ hM;have gi:=hc.jm hI rfl;have gm:=hc.jm hM rfl;unfold execOp;rw[ho];simp only[qE];refine az ?_;unfold Instr.entry;dsimp only;refine az (nU q2 rfl rfl gi.2 (cI ?_));dsimp only;rw[hb];dsimp only;refine az (nU p1 p2 p3 gm.2 (cI ?_));dsimp only;rw[if_neg (by simp)];rw[he];refine au (au ⟨rfl,_,rfl,.aN rfl λi b hb=> ?_⟩)
   match i,hb with
   |0,hb=>cases hb;exact sX E _
   |1,hb=>cases hb;exact sX E _)
end
open Go.Conc
def gW (E:Env)(V:View)(k:AV->List aa->Prop)(kp:AV->List aa->Prop):Out->View->Prop
 |.ret v,V'=>∃av E' H',E.Le E'/\V'.role=V.role/\V'.deaf=V.deaf/\ap E' av v/\Conc E' V' H'/\k av H'
 |.panic ch,V'=>∃pv v E' H',ch=[{v,recovered:=false}]/\E.Le E'/\V'.role=V.role/\V'.deaf=V.deaf/\ap E' pv v/\Conc E' V' H'/\kp pv H'
def bf (lv:Bool)(P:SI)(f:TQ)(H:List aa)(args:List AV)(k:AV->List aa->Prop)(kp:AV->List aa->Prop):Prop:=
 ∀(E:Env)(V:View)(vs:Array SP),Conc E V H->cJ E args vs->Body lv P f vs .normal V (gW E V k kp)
def Nx (lv:Bool)(P:SI)(R:Out->View->Prop):Next->View->Prop
 |.value v,V=>R (.ret v) V
 |.skip,V=>R (.ret undef) V
 |.enter f args,V=>Body lv P f args .normal V R
 |.round l f tmps assign body,V=>mY lv P (Xd l f tmps assign body .normal) V R
 |_,_=>False
def jb (lv:Bool)(P:SI)(c:AV)(H:List aa)(args:List AV)(k:AV->List aa->Prop)(kp:AV->List aa->Prop):Prop:=
 ∀(E:Env)(V:View)(cv:SP)(vs:Array SP),Conc E V H->ap E c cv->cJ E args vs->
  aQ P V (do let d<- U9 cv vs;invoke d.target d.args) (λnx V'=>Nx lv P (gW E V k kp) nx V') (λv V'=>gW E V k kp (.panic [{v,recovered:=false}]) V')
def Fc (lv:Bool)(P:SI)(c:AV)(name:String)(H:List aa)(args:List AV)(k:AV->List aa->Prop)(kp:AV->List aa->Prop):Prop:=
 ∀(E:Env)(V:View)(cv:SP)(vs:Array SP),Conc E V H->ap E c cv->cJ E args vs->
  aQ P V (invoke (.fn (.method name) #[]) (#[cv]++vs)) (λnx V'=>Nx lv P (gW E V k kp) nx V') (λv V'=>gW E V k kp (.panic [{v,recovered:=false}]) V')
theorem gW.mono{E:Env}{V:View}{k k' kp w8:AV->List aa->Prop}(h:∀a H,k a H->k' a H)(hp:∀a H,kp a H->w8 a H):∀{o V'},gW E V k kp o V'->gW E V k' w8 o V'
 |.ret _,_,⟨av,E',H',a,b,c,d,e,f⟩=>⟨av,E',H',a,b,c,d,e,h _ _ f⟩
 |.panic _,_,⟨pv,v,E',H',a,b,c,d,e,f,g⟩=>⟨pv,v,E',H',a,b,c,d,e,f,hp _ _ g⟩
theorem Nx.mono{lv:Bool}{P:SI}{R R':Out->View->Prop}(h:∀o V,R o V->R' o V):∀{nx V},Nx lv P R nx V->Nx lv P R' nx V:=by
 intro nx V hn;cases nx with
 |value v=>exact h _ _ hn
 |skip=>exact h _ _ hn
 |enter f args=>exact Body.mono hn h
 |round l f tmps a b=>exact mY.mono hn h
 |_=>exact hn
theorem bf.mono{lv:Bool}{P:SI}{f:TQ}{H:List aa}{args:List AV}{k k' kp w8:AV->List aa->Prop}(h:bf lv P f H args k kp)(hk:∀a H,k a H->k' a H)(hp:∀a H,kp a H->w8 a H):bf lv P f H args k' w8:=λE V vs hc hd=>
 (h E V vs hc hd).mono λ_ _ x=>x.mono hk hp
theorem jb.mono{lv:Bool}{P:SI}{f:AV}{H:List aa}{args:List AV}{k k' kp w8:AV->List aa->Prop}(h:jb lv P f H args k kp)(hk:∀a H,k a H->k' a H)(hp:∀a H,kp a H->w8 a H):jb lv P f H args k' w8:=λE V cv vs hc hd pt=>
 (h E V cv vs hc hd pt).mono (λ_ _ x=>Nx.mono (λ_ _ y=>y.mono hk hp) x) (λ_ _ y=>y.mono hk hp)
def qR (P:SI)(g:TQ):Bool:=match P.funcs[g]?with
 | some fn => fn.body.isSome && !(fn.name == "runtime.NumGoroutine")
 |none=>false
theorem aqU{lv:Bool}{P:SI}{V:View}{g:TQ}{vs:Array SP}{R:Out->View->Prop}{Kp:SP->View->Prop}(hg:qR P g=true)(h:Body lv P g vs .normal V R):aQ P V (callFunc g vs) (λnx V'=>Nx lv P R nx V') Kp:=by
 unfold callFunc;refine az (qK (cI ?_));unfold qR at hg;split at hg
 ·rename_i fn yq;simp only[Tl,T1]at hg;rw[yq];dsimp only;have tr:fn.body.isNone=false:=by
   have h1:=hg.1;cases hb:fn.body with
   |none=>rw[hb]at h1;cases h1
   |some _=>rfl
  rw[if_neg (by rw[hg.2];simp),if_neg (by rw[tr];simp)];exact au h
 ·cases hg
section
variable {lv:Bool}{P:SI}{H:List aa}{args:List AV}{k kp:AV->List aa->Prop}
theorem Jo{g:TQ}{first cV:List AV}(hg:qR P g=true)(hf:bf lv P g H (first++args++cV) k kp):jb lv P (.fn (.func g) first cV) H args k kp:=by
 intro E V cv vs hc hd pt;cases hd with
 |fn dL fX h1 h2=>
  rename_i fa ca;unfold U9;refine az (au ?_);unfold invoke;dsimp only;exact aqU hg (hf E V _ hc (CE (CE ⟨dL,h1⟩ pt) ⟨fX,h2⟩))
end
def eZ (s:AS):List Tj->Option (List AV)
 |[]=>some []
 |x::l=>match s.ev x,eZ s l with
  |some a,some aE=>some (a::aE)
  |_,_=>none
theorem Ag{E:Env}{s:AS}{a:Act}(k:cg E s.T a.tmps):∀{l:List Tj}{aE:List AV},eZ s l=some aE->cJ E aE (l.map a.eval).toArray
 |[],_,h=>by cases h;exact⟨rfl,by simp⟩
 |x::l,aE,h=>by
  simp only[eZ]at h;split at h
  ·rename_i av l6 h1 h2;cases h;have ih:=Ag k h2;refine⟨by have:=ih.1;simpa using this,λi b e=> ?_⟩;cases i with
   |zero=>simp at e;subst e;simpa[SH]using ap.ev k h1
   |succ i=>
    simp only[UN]at e;have:=ih.2 i b e;simpa[SH]using this
  ·cases h
section
variable {lv:Bool}{P:SI}{r:Option Nat}{o:Tu}{s:AS}{next:AS->Prop}{bad:AV->AS->Prop}
theorem acg{E:Env}{V:View}{a:Act}{N:Act->View->Prop}{Q:Ex->Act->View->Prop}(aG:cg E s.T a.tmps)(hd:∀d,o.dst=some d->d<a.tmps.size)
  (h1:∀E' V' a' s',Kept E E' V V' a a'->Conc E' V' s'.H->cg E' s'.T a'.tmps->next s'->N a' V')
  (h2:∀E' V' s' pv v,Kept E E' V V' a a->Conc E' V' s'.H->cg E' s'.T a.tmps->ap E' pv v->bad pv s'->Q (.panic [{v,recovered:=false}]) a V'):
  (∀nx V',Nx lv P (gW E V (λb H'=>next ((⟨s.T,H'⟩:AS).put o.dst b)) (λpv H'=>bad pv ⟨s.T,H'⟩)) nx V'->mD lv P r o a N Q nx V')/\
  (∀v V',gW E V (λb H'=>next ((⟨s.T,H'⟩:AS).put o.dst b)) (λpv H'=>bad pv ⟨s.T,H'⟩) (.panic [{v,recovered:=false}]) V'->Q (.panic [{v,recovered:=false}]) a V'):=by
 have hv:∀v V',gW E V (λb H'=>next ((⟨s.T,H'⟩:AS).put o.dst b)) (λpv H'=>bad pv ⟨s.T,H'⟩) (.ret v) V'->N (a.put o.dst v) V':=λv V' ⟨av,E',H',hle,ce,eT,bk,bi,hk⟩=>
  h1 E' V' _ _ ⟨hle,dX _ _ _,put_defers _ _ _,ce,eT⟩ (by rw[fb];exact bi) (cg.h_ (s:=⟨s.T,H'⟩) (aG.mono hle) hd bk) hk
 have hp:∀ch V',gW E V (λb H'=>next ((⟨s.T,H'⟩:AS).put o.dst b)) (λpv H'=>bad pv ⟨s.T,H'⟩) (.panic ch) V'->Q (.panic ch) a V':=λch V' ⟨pv,v,E',H',eS,hle,ce,eT,bk,bi,hk⟩=>by
  subst eS;exact h2 E' V' ⟨s.T,H'⟩ pv v ⟨hle,rfl,rfl,ce,eT⟩ bi (aG.mono hle) bk hk
 refine⟨λnx V' hn=> ?_,λv V' h=>hp _ _ h⟩;cases nx with
 |value v=>exact hv _ _ hn
 |skip=>exact hv _ _ hn
 |enter f args=>
  refine Body.mono (R':=fun
   |.ret v,V'=>N (a.put o.dst v) V'
   |.panic ch,V'=>Q (.panic ch) a V') hn λot aS h=> ?_
  cases ot with
  |ret v=>exact hv _ _ h
  |panic ch=>exact hp _ _ h
 |round l f tmps aE b=>
  refine mY.mono (R':=fun
   |.ret v,V'=>N (a.put o.dst v) V'
   |.panic ch,V'=>Q (.panic ch) a V') hn λot aS h=> ?_
  cases ot with
  |ret v=>exact hv _ _ h
  |panic ch=>exact hp _ _ h
 |_=>exact hn.elim
theorem Ot{c:Xt}{x:Tj}{sU:AV}{aE:List AV}(ho:o.op=.call c)(aW:c.callee=.value x)(hx:s.ev x=some sU)(has:eZ s c.args.toList=some aE)
  (hf:jb lv P sU s.H aE (λb H'=>next ((⟨s.T,H'⟩:AS).put o.dst b)) (λpv H'=>bad pv ⟨s.T,H'⟩)):Step lv P r o s next bad:=by
 intro E V a N Q hc aG hd bA h1 h2;have rV:=acg (lv:=lv) (P:=P) (r:=r) aG hd h1 h2;refine⟨bA,?_⟩;unfold execOp;rw[ho];dsimp only;unfold resolve;rw[aW];dsimp only;have e:c.args.map a.eval=(c.args.toList.map a.eval).toArray:=by apply VG;simp
 rw[e];exact(hf E V (a.eval x) _ hc (ap.ev aG hx) (Ag aG has)).mono (λnx V' h=>rV.1 nx V' h) (λv V' h=>rV.2 v V' h)
theorem adE{c:Xt}{x:Tj}{name:String}{sU:AV}{aE:List AV}(ho:o.op=.call c)(aW:c.callee=.invoke x name)(hx:s.ev x=some sU)(has:eZ s c.args.toList=some aE)
  (hf:Fc lv P sU name s.H aE (λb H'=>next ((⟨s.T,H'⟩:AS).put o.dst b)) (λpv H'=>bad pv ⟨s.T,H'⟩)):Step lv P r o s next bad:=by
 intro E V a N Q hc aG hd bA h1 h2;have rV:=acg (lv:=lv) (P:=P) (r:=r) aG hd h1 h2;refine⟨bA,?_⟩;unfold execOp;rw[ho];dsimp only;unfold resolve;rw[aW];dsimp only;refine az (au ?_);have e:c.args.map a.eval=(c.args.toList.map a.eval).toArray:=by apply VG;simp
 rw[e];exact(hf E V (a.eval x) _ hc (ap.ev aG hx) (Ag aG has)).mono (λnx V' h=>rV.1 nx V' h) (λv V' h=>rV.2 v V' h)
theorem arR{x:Tj}{t:TypeId}{av:AV}(ho:o.op=.panic x)(hx:s.ev x=some (.da t av))(hb:bad (.da t av) s):Step lv P r o s next bad:=by
 intro E V a N Q hc aG hd bA _ h2;refine⟨bA,?_⟩;have dC:=ap.ev aG hx;unfold execOp;rw[ho];dsimp only;refine az ?_;generalize a.eval x=v at dC⊢;have ak3:=dC;cases dC with
 |da hv=>
  unfold Instr.panic;dsimp only;exact aq2 (h2 E V s (.da t av) _ ⟨Env.Le.refl E,rfl,rfl,rfl,rfl⟩ hc aG ak3 hb)
end
structure Fe (k kp:AV->List aa->Prop):Type where
 n:Nat
def BW (lv:Bool)(P:SI)(c:AV)(H:List aa)(args:List AV)(k kp:AV->List aa->Prop)(_t:Fe k kp):Prop:=jb lv P c H args k kp
def aeE (lv:Bool)(P:SI)(c:AV)(name:String)(H:List aa)(args:List AV)(k kp:AV->List aa->Prop)(_t:Fe k kp):Prop:=Fc lv P c name H args k kp
theorem xQ{lv:Bool}{P:SI}{c:AV}{H:List aa}{args:List AV}{k kp:AV->List aa->Prop}{t:Fe k kp}(h:jb lv P c H args k kp):BW lv P c H args k kp t:=h
def ao {α:Type}(x:Option α)(k:α->Prop):Prop:=match x with
 |some a=>k a
 |none=>False
def AV.asBool (a:AV)(k:Bool->Prop):Prop:=match a with
 |.val (.bool b)=>k b
 |_=>False
def AV.asInt (a:AV)(k:TZ->Int->Prop):Prop:=match a with
 |.val (.int j n)=>k j n
 |_=>False
def AV.xN (a:AV)(k:List AV->Prop):Prop:=match a with
 |.aN l=>k l
 |_=>False
def AV.asAgg (a:AV)(k:List AV->Prop):Prop:=match a with
 |.agg l=>k l
 |_=>False
def AV.p7 (a:AV)(k:Nat->Nat->Prop):Prop:=match a with
 |.op i j=>k i j
 |_=>False
def AV.sP (a:AV)(k:Nat->Prop):Prop:=match a with
 |.mp i=>k i
 |_=>False
def AV.v4 (a:AV)(k:Nat->List AV->End->Prop):Prop:=match a with
 |.sl n l e=>k n l e
 |_=>False
theorem ao.out{α:Type}{x:Option α}{k:α->Prop}(h:ao x k):∃a,x=some a/\k a:=by
 cases x with
 |none=>exact h.elim
 |some a=>exact⟨a,rfl,h⟩
theorem Cr{a:AV}{k:Bool->Prop}(h:a.asBool k):∃b,a=.val (.bool b)/\k b:=by
 unfold AV.asBool at h;split at h
 ·exact⟨_,rfl,h⟩
 ·exact h.elim
theorem od{a:AV}{k:TZ->Int->Prop}(h:a.asInt k):∃j n,a=.val (.int j n)/\k j n:=by
 unfold AV.asInt at h;split at h
 ·exact⟨_,_,rfl,h⟩
 ·exact h.elim
theorem af3{a:AV}{k:List AV->Prop}(h:a.xN k):∃l,a=.aN l/\k l:=by
 unfold AV.xN at h;split at h
 ·exact⟨_,rfl,h⟩
 ·exact h.elim
theorem afU{a:AV}{k:List AV->Prop}(h:a.asAgg k):∃l,a=.agg l/\k l:=by
 unfold AV.asAgg at h;split at h
 ·exact⟨_,rfl,h⟩
 ·exact h.elim
theorem Cs{a:AV}{k:Nat->Nat->Prop}(h:a.p7 k):∃i j,a=.op i j/\k i j:=by
 unfold AV.p7 at h;split at h
 ·exact⟨_,_,rfl,h⟩
 ·exact h.elim
theorem Fu{a:AV}{k:Nat->Prop}(h:a.sP k):∃i,a=.mp i/\k i:=by
 unfold AV.sP at h;split at h
 ·exact⟨_,rfl,h⟩
 ·exact h.elim
theorem Pt{a:AV}{k:Nat->List AV->End->Prop}(h:a.v4 k):∃n l e,a=.sl n l e/\k n l e:=by
 unfold AV.v4 at h;split at h
 ·exact⟨_,_,_,rfl,h⟩
 ·exact h.elim
section
variable (P:SI)(s:AS)
def dA (op:Wb)(xt:TypeId)(a b:AV)(k:AV->Prop):Prop:=match a,b with
 |.val (.int j m),.val (.int j' n)=>if mO op then ao (BF op j m n) λv=>k (.val v)else j'=j/\ao (l7 op j m n) λv=>k (.val v)
 |_,_=>(op=.eql\/op=.neq)/\ao a.raw λX=>ao b.raw λY=>xY X Y=true/\P.eqGuardType P.depth xt=false/\∃e,cG P (WT xt X Y) e/\k (.val (.bool (if op== .neq then !e else e)))
def iO (op:Wb)(xt:TypeId)(y:Tj)(a:AV)(k:AV->Prop):Prop:=match y,a with
 |.const .nilIface,.val .nilIface=>mj P xt=some true/\(op=.eql\/op=.neq)/\k (.val (.bool (if op== .neq then false else true)))
 |.const .nilIface,.da _ _=>mj P xt=some true/\(op=.eql\/op=.neq)/\k (.val (.bool (if op== .neq then true else false)))
 |y,a=>ao (s.ev y) λb=>dA P op xt a b k
def sE (t:TypeId)(a:AV)(l h m:Option Int)(k:AV->Prop):Prop:=match a with
 |.sl n li e=>ao (kA P t) λ(_,sz)=>xF n li e sz l h m k
 |.bp id off n cap=>ao (kA P t) λ(_,sz)=>sK id off n cap sz l h m k
 |.op id off=>ao (xB P t) λ(n,sz)=>sK id off n n sz l h m k
 |_=>False
def sD (t:TypeId)(a:AV)(k:AV->Prop):Prop:=match lz P t,a with
 |some .slice,.sl n _ _=>k (.val (.int .i64 n))
 |some .slice,.bp _ _ n _=>k (.val (.int .i64 n))
 |some .str,.val (.string b)=>k (.val (.int .i64 b.size))
 |some .map,.mp id=>match s.H[id]?with
  |some (.obj (.map es _))=>k (.val (.int .i64 es.size))
  |_=>False
 |_,_=>False
def mw (a:AV)(k:AV->Prop):Prop:=match a with
 |.fn (.method name) [.da t av] []=>I1 P t name/\k (.fn (.method name) [.da t av] [])
 |a=>a.sure=true/\k a
def BT (aE:TypeId)(ok:Bool)(a:AV)(k:AV->Prop):Prop:=mj P aE=some false/\ao (eJ P aE) λz=>match a with
 |.da t av=>if t=aE then k (if ok then .aN [av,.val (.bool true)]else av)else ok=true/\k (.aN [AV.of z,.val (.bool false)])
 |.val .nilIface=>ok=true/\k (.aN [AV.of z,.val (.bool false)])
 |_=>False
def ly (o:Tu)(k:AV->Prop):Prop:=match o.op with
 |.move x=>ao (s.ev x) k
 |.assign x=>ao (s.ev x) k
 |.pick c x y=>ao (s.ev c) λb=>ao (s.ev x) λa=>ao (s.ev y) λa'=>b.asBool λb=>k (if b then a else a')
 |.binOp op xt x y _=>ao (s.ev x) λa=>iO P s op xt y a k
 |.unOp .not _ x=>ao (s.ev x) λa=>a.asBool λb=>k (.val (.bool !b))
 |.unOp .neg _ x=>ao (s.ev x) λa=>a.asInt λj n=>k (.val (.int j (j.wrap (0-n))))
 |.convert src dst x=>ao (s.ev x) λa=>match BX P src dst with
   |some (some j)=>a.asInt λ_ n=>k (.val (.int j (j.wrap n)))
   |_=>False
 |.extract x i=>ao (s.ev x) λa=>a.xN λl=>ao l[i]? k
 |.nilCheck x=>ao (s.ev x) λa=>mw P a k
 |.makeInterface t x=>mj P t=some false/\ao (s.ev x) λa=>k (.da t a)
 |.makeFunc f first cV=>ao (first.toList.mapM s.ev) λfa=>ao (cV.toList.mapM s.ev) λca=>k (.fn f fa ca)
 |.typeAssert x _ aE ok=>ao (s.ev x) λa=>BT P aE ok a k
 |.build t parts=>ao (oU P t) λ(pl,z)=>ao (j7 s parts.toList) λaE=>ao (oo pl.at (lX z) aE) λl=>k (.agg l)
 |.buildSlice t len parts=>ao (re P t) λ(_,sz,z)=>len* sz<=2^24/\ao (j7 s parts.toList) λaE=>ao (oo (iD.at (.elems sz)) (gU z (len* sz)) aE) λl=>k (.sl len l .exact)
 |.fieldAddr t x f=>ao (s.ev x) λa=>ao (eX P t f) λn=>ao (a.shift n) k
 |.indexAddr t x ix=>ao (s.ev x) λa=>ao (s.ev ix) λi=>i.asInt λ_ i=>ao (nX P t) fun
   |(some n,sz)=>(0<=i/\i<n)/\ao (a.shift (i.toNat* sz)) k
   |(none,sz)=>ao a.row λ(n,p)=>(0<=i/\i<n)/\ao (p.shift (i.toNat* sz)) k
 |.field t x f=>ao (s.ev x) λa=>a.asAgg λl=>ao (I2 P t f) λ(off,n,g)=>ao (AV.cut l off n g) k
 |.index t x ix=>ao (s.ev x) λa=>ao (s.ev ix) λi=>i.asInt λ_ i=>match a with
   |.agg l=>ao (IV P t) λ(n,sz,g)=>(0<=i/\i<n)/\ao (AV.cut l (i.toNat* sz) sz g) k
   |.val (.string b)=>(match lz P t with|some .str=>True|_=>False)/\0<=i/\ao b[i.toNat]? λc=>k (.val (.int .u8 c.toNat))
   |_=>False
 |.load t x=>ao (s.ev x) λp=>ao (s.at p) λl=>ao (Ty P t) fun
   |(n,true)=>n<=l.length/\k (.agg (l.take n))
   |(_,false)=>ao l[0]? k
 |.lookup t m k' ok=>ao (oX P t) λ(kt,et)=>ao (eJ P et) λz=>ao (s.ev m) λp=>ao (s.ev k') λa=>ao a.raw λK=>p.sP λid=>match s.H[id]?with
  |some (.obj (.map es _))=>cG P (Vj es.isEmpty 10000 kt K) ()/\∃fd,cG P (VP kt K es.toList) fd/\k (AV.found z ok fd)
  |_=>False
 |.slice t x lo hi mx=>ao (s.ev x) λa=>ao (s.jd lo) λl=>ao (s.jd hi) λh=>ao (s.jd mx) λm=>sE P t a l h m k
 |.entry it=>ao (s.ev it) λp=>p.p7 λid off=>off=0/\match s.H[id]?with
   |some (.iter m _ seen ck)=>match s.H[m]?with
    |some (.obj (.map es Qc))=>Qc=ck/\ao seen.back? λb=>ao (es.find? (·.born==b)) λe=>k (.aN [AV.of e.key,AV.of e.val])
    |_=>False
   |_=>False
 |.call c=>match c.callee with
  |.builtin .len=>ao c.args[0]? λx=>ao c.argTypes[0]? λt=>ao (s.ev x) λa=>sD P s t a k
  |.builtin .max=>match c.args.toList with
   |[x,y]=>ao (s.ev x) λa=>ao (s.ev y) λb=>a.asInt λj m=>b.asInt λ_ n=>k (.val (.int j (if n>m then n else m)))
   |_=>False
  |.builtin .min=>match c.args.toList with
   |[x,y]=>ao (s.ev x) λa=>ao (s.ev y) λb=>a.asInt λj m=>b.asInt λ_ n=>k (.val (.int j (if n<m then n else m)))
   |_=>False
  |_=>False
 |_=>False
end
section
variable {lv:Bool}{P:SI}{r:Option Nat}{o:Tu}{s:AS}
theorem na{c:Xt}{x y:Tj}(h:c.args.toList=[x,y]):c.args=#[x,y]:=by
 apply VG;simpa using h
theorem ly.sound{k:AV->Prop}(h:ly P s o k):∃av,dF lv P r o s av/\k av:=by
 unfold ly at h;split at h
 ·rename_i x ho;obtain⟨a,h1,h2⟩:=h.out;exact⟨a,acL (.inl ho) h1,h2⟩
 ·rename_i x ho;obtain⟨a,h1,h2⟩:=h.out;exact⟨a,acL (.inr ho) h1,h2⟩
 ·rename_i c x y ho;obtain⟨b,h1,h⟩:=h.out;obtain⟨a,h2,h⟩:=h.out;obtain⟨a',h3,h⟩:=h.out;obtain⟨b,rfl,h⟩:=Cr h;exact⟨_,ap0 ho h1 h2 h3,h⟩
 ·rename_i op xt x y yt ho;obtain⟨a,h1,hY⟩:=h.out;clear h;unfold iO at hY;split at hY
  ·exact⟨_,acJ ho hY.2.1 h1 (.inl ⟨rfl,rfl⟩) hY.1,hY.2.2⟩
  ·exact⟨_,acJ ho hY.2.1 h1 (.inr ⟨⟨_,_,rfl⟩,rfl⟩) hY.1,hY.2.2⟩
  rename_i n1 n2;clear n1 n2;obtain⟨b,h2,h⟩:=hY.out;unfold dA at h;split at h
  ·rename_i j m j' n;split at h
   ·obtain⟨v,h3,h⟩:=h.out;exact⟨_,ap1 ho h1 h2 h3,h⟩
   ·obtain⟨rfl,h⟩:=h;obtain⟨v,h3,h⟩:=h.out;exact⟨_,apy ho h1 h2 h3,h⟩
  ·obtain⟨ay,h⟩:=h;obtain⟨X,h3,h⟩:=h.out;obtain⟨Y,h4,h⟩:=h.out;obtain⟨h5,h6,e,h7,h⟩:=h;exact⟨_,apD ho ay h1 h2 h3 h4 h5 h6 h7,h⟩
 ·rename_i t x ho;obtain⟨a,h1,h⟩:=h.out;obtain⟨b,rfl,h⟩:=Cr h;exact⟨_,apZ ho h1,h⟩
 ·rename_i t x ho;obtain⟨a,h1,h⟩:=h.out;obtain⟨j,n,rfl,h⟩:=od h;exact⟨_,apW ho h1,h⟩
 ·rename_i src dst x ho;obtain⟨a,h1,h⟩:=h.out;split at h
  ·rename_i j hj;obtain⟨j',n,rfl,h⟩:=od h;exact⟨_,apB ho hj h1,h⟩
  ·exact h.elim
 ·rename_i x i ho;obtain⟨a,h1,h⟩:=h.out;obtain⟨l,rfl,h⟩:=af3 h;obtain⟨b,h2,h⟩:=h.out;exact⟨_,apE ho h1 h2,h⟩
 ·rename_i x ho;obtain⟨a,h1,h⟩:=h.out;unfold mw at h;split at h
  ·exact⟨_,apY ho h1 h.1,h.2⟩
  ·exact⟨_,apX ho h1 h.1,h.2⟩
 ·rename_i t x ho;obtain⟨h1,h⟩:=h;obtain⟨a,h2,h⟩:=h.out;exact⟨_,apS ho h1 h2,h⟩
 ·rename_i f first cV ho
  obtain⟨fa,h1,h⟩:=h.out;obtain⟨ca,h2,h⟩:=h.out;exact⟨_,apR ho h1 h2,h⟩
 ·rename_i x xt aE ok ho;obtain⟨a,h1,hA⟩:=h.out;obtain⟨h2,hB⟩:=hA;obtain⟨z,h3,hC⟩:=hB.out;clear h hB;split at hC
  ·rename_i t av;split at hC
   ·rename_i e;subst e;exact⟨_,acI ho h2 h3 h1 (.inr rfl),by rw[if_pos rfl];exact hC⟩
   ·rename_i e;exact⟨_,acI ho h2 h3 h1 (.inl hC.1),by rw[if_neg e];exact hC.2⟩
  ·obtain⟨e,hC⟩:=hC;subst e;exact⟨_,apx ho h2 h3 h1,hC⟩
  ·exact hC.elim
 ·rename_i t parts ho;obtain⟨⟨pl,z⟩,h1,h⟩:=h.out;obtain⟨aE,h2,h⟩:=h.out;obtain⟨l,h3,h⟩:=h.out;exact⟨_,apz ho h1 h2 h3,h⟩
 ·rename_i t len parts ho;obtain⟨⟨e,sz,z⟩,h1,h⟩:=h.out;obtain⟨hs,h⟩:=h;obtain⟨aE,h2,h⟩:=h.out;obtain⟨l,h3,h⟩:=h.out;exact⟨_,apA ho h1 hs h2 h3,h⟩
 ·rename_i t x f ho;obtain⟨a,h1,h⟩:=h.out;obtain⟨n,hn,h⟩:=h.out;obtain⟨b,h2,h⟩:=h.out;exact⟨_,apF ho hn h1 h2,h⟩
 ·rename_i t x ix ho;obtain⟨a,h1,h⟩:=h.out;obtain⟨i,h2,h⟩:=h.out;obtain⟨j,i,rfl,h⟩:=od h;obtain⟨⟨on,sz⟩,ht,h⟩:=h.out;cases on with
  |some n=>
   obtain⟨⟨h3,h4⟩,h⟩:=h;obtain⟨q,h5,h⟩:=h.out;exact⟨_,apJ ho ht h1 h2 h3 h4 h5,h⟩
  |none=>
   obtain⟨⟨n,p⟩,ama,h⟩:=ao.out h;obtain⟨⟨h3,h4⟩,h⟩:=h;obtain⟨q,h5,h⟩:=h.out;exact⟨_,apI ho ht h1 ama h2 h3 h4 h5,h⟩
 ·rename_i t x f ho;obtain⟨a,h1,h⟩:=h.out;obtain⟨l,rfl,h⟩:=afU h;obtain⟨⟨off,n,g⟩,h2,h⟩:=h.out;obtain⟨b,h3,h⟩:=h.out;exact⟨_,apG ho h2 h1 h3,h⟩
 ·rename_i t x ix ho;obtain⟨a,h1,h⟩:=h.out;obtain⟨i,h2,h⟩:=h.out;obtain⟨j,i,rfl,h⟩:=od h;split at h
  ·obtain⟨⟨n,sz,g⟩,h3,h⟩:=h.out;obtain⟨⟨h4,h5⟩,h⟩:=h;obtain⟨b,h6,h⟩:=h.out;exact⟨_,apL ho h3 h1 h2 h4 h5 h6,h⟩
  ·obtain⟨h3,h4,h⟩:=h;obtain⟨c,h5,h⟩:=h.out;split at h3
   ·rename_i hl;exact⟨_,apK ho hl h1 h2 h4 h5,h⟩
   ·exact h3.elim
  ·exact h.elim
 ·rename_i t x ho;obtain⟨p,h1,h⟩:=h.out;obtain⟨l,hl,h⟩:=h.out;obtain⟨⟨n,g⟩,ht,h⟩:=h.out;cases g with
  |true=>exact⟨_,apO ho ht h1 hl h.1,h.2⟩
  |false=>
   obtain⟨av,h2,h⟩:=ao.out h;exact⟨_,apP ho ht h1 hl h2,h⟩
 ·rename_i t m k' ok ho;obtain⟨⟨kt,et⟩,h1,hA⟩:=h.out;obtain⟨z,h2,hB⟩:=hA.out;obtain⟨p,h3,hC⟩:=hB.out;obtain⟨a,h4,hD⟩:=hC.out;obtain⟨K,h5,hE⟩:=hD.out;obtain⟨id,e1,hF⟩:=Fu hE;subst e1;split at hF
  ·rename_i es ck hH;obtain⟨h6,fd,h7,h8⟩:=hF;exact⟨_,apQ ho h1 h2 h3 h4 h5 hH h6 h7,h8⟩
  ·exact hF.elim
 ·rename_i t x lo hi mx ho;obtain⟨a,h1,h⟩:=h.out;obtain⟨l,h2,h⟩:=h.out;obtain⟨hh,h3,h⟩:=h.out;obtain⟨m,h4,h⟩:=h.out;unfold sE at h;split at h
  ·obtain⟨⟨e,sz⟩,h5,h⟩:=h.out;exact ap2 ho h5 h1 h2 h3 h4 h
  ·obtain⟨⟨e,sz⟩,h5,h⟩:=h.out;exact ap4 ho h5 h1 h2 h3 h4 h
  ·obtain⟨⟨n,sz⟩,h5,h⟩:=h.out;exact ap3 ho h5 h1 h2 h3 h4 h
  ·exact h.elim
 ·rename_i it ho;obtain⟨p,h1,hA⟩:=h.out;obtain⟨id,off,e1,hB⟩:=Cs hA;clear h hA;subst e1;obtain⟨e1,hC⟩:=hB;subst e1;split at hC
  ·rename_i m since seen ck hI;split at hC
   ·rename_i es Qc hM;obtain⟨e1,hD⟩:=hC;subst e1;obtain⟨b,h2,hE⟩:=hD.out;obtain⟨e,h3,hF⟩:=hE.out;exact⟨_,apC ho h1 hI hM h2 h3,hF⟩
   ·exact hC.elim
  ·exact hC.elim
 ·rename_i c ho;split at h
  ·rename_i aW;obtain⟨x,h1,h⟩:=h.out;obtain⟨t,h2,h⟩:=h.out;obtain⟨a,h3,h⟩:=h.out;unfold sD at h;split at h
   ·rename_i hl;exact⟨_,acK ho aW h1 h2 hl h3 rfl,h⟩
   ·rename_i hl;exact⟨_,acK ho aW h1 h2 hl h3 rfl,h⟩
   ·rename_i hl;exact⟨_,apN ho aW h1 h2 hl h3,h⟩
   ·rename_i hl;split at h
    ·rename_i hM;exact⟨_,apM ho aW h1 h2 hl h3 hM,h⟩
    ·exact h.elim
   ·exact h.elim
  ·rename_i aW;split at h
   ·rename_i x y cM;obtain⟨a,h1,hA⟩:=h.out;obtain⟨b,h2,hB⟩:=hA.out;obtain⟨j,m,e1,hC⟩:=od hB;obtain⟨j',n,e2,hD⟩:=od hC;subst e1 e2;exact⟨_,apU ho aW (na cM) h1 h2,hD⟩
   ·exact h.elim
  ·rename_i aW;split at h
   ·rename_i x y cM;obtain⟨a,h1,hA⟩:=h.out;obtain⟨b,h2,hB⟩:=hA.out;obtain⟨j,m,e1,hC⟩:=od hB;obtain⟨j',n,e2,hD⟩:=od hC;subst e1 e2;exact⟨_,apV ho aW (na cM) h1 h2,hD⟩
   ·exact h.elim
  ·exact h.elim
 ·exact h.elim
end
open Go.Conc
structure lY (X Y:Prop):Type where
 n:Nat
def qV (b b8:Bool)(X Y:Prop)(_t:lY X Y):Prop:=(b=b8->X)/\(b= !b8->Y)
theorem yc{b b8:Bool}{X Y:Prop}{t:lY X Y}(h1:b=b8->X)(h2:b= !b8->Y):qV b b8 X Y t:=⟨h1,h2⟩
theorem akm(X Y:Prop)(t:lY X Y):qV true true X Y t=X:=by simp[qV]
theorem akl(X Y:Prop)(t:lY X Y):qV true false X Y t=Y:=by simp[qV]
theorem akk(X Y:Prop)(t:lY X Y):qV false true X Y t=Y:=by simp[qV]
theorem akj(X Y:Prop)(t:lY X Y):qV false false X Y t=X:=by simp[qV]
section
variable (lv:Bool)(P:SI)
def uf (H:List aa)(k:AV->List aa->Prop)(id off n c0 m sz:Nat)(elem:TypeId)(l':List AV):Prop:=off=0/\c0<n/\l'.length=m* sz/\n+m<=2^30/\(∀a∈l',a.leaf=true)/\match H[id]?with
 |some (.own ez l el)=>ez=sz/\el=elem/\l.length=n* sz/\k (.bp H.length 0 (n+m) 0) (H.set id .gone++[.own sz (l++l') elem])
 |_=>False
def AV.p8 (a:AV)(kO:Nat->Nat->Nat->Nat->Prop)(k:Nat->List AV->End->Prop):Prop:=match a with
 |.bp id off n c=>kO id off n c
 |.sl n l e=>k n l e
 |_=>False
theorem Ja{a:AV}{kO:Nat->Nat->Nat->Nat->Prop}{k:Nat->List AV->End->Prop}(h:a.p8 kO k):(∃id off n c,a=.bp id off n c/\kO id off n c)\/∃n l e,a=.sl n l e/\k n l e:=by
 unfold AV.p8 at h;split at h
 ·exact .inl ⟨_,_,_,_,rfl,h⟩
 ·exact .inr ⟨_,_,_,rfl,h⟩
 ·exact h.elim
def my (s:AS)(o:Tu)(next:AS->Prop)(bad:AV->AS->Prop):Prop:=match o.op with
 |.box t x=>ao (s.ev x) λa=>ao a.parts λl=>next ((⟨s.T,s.H++[.cells l t]⟩:AS).put o.dst (.op s.H.length 0))
 |.alloc t=>ao (eJ P t) λz=>next ((⟨s.T,s.H++[.cells (lX z) t]⟩:AS).put o.dst (.op s.H.length 0))
 |.store t x y=>ao (s.ev x) λp=>ao (s.ev y) λa=>ao a.parts λlp=>p.p7 λid off=>match s.H[id]?with
  |some (.cells l el)=>(ao (Ty P t) λx=>lp.length=x.1)/\off+lp.length<=l.length/\(∀a∈lp,a.leaf=true)/\next ((⟨s.T,s.H.set id (.cells (iJ l off lp) el)⟩:AS).put o.dst (.val undef))
  |some (.part p l el)=>p<=off/\(ao (Ty P t) λx=>lp.length=x.1)/\off+lp.length<=l.length/\(∀a∈lp,a.leaf=true)/\next ((⟨s.T,s.H.set id (.part p (iJ l off lp) el)⟩:AS).put o.dst (.val undef))
  |some (.own p l el)=>(ao (Ty P t) λx=>lp.length=x.1)/\off+lp.length<=l.length/\(∀a∈lp,a.leaf=true)/\next ((⟨s.T,s.H.set id (.own p (iJ l off lp) el)⟩:AS).put o.dst (.val undef))
  |_=>False
 |.makeMap _ none=>next ((⟨s.T,s.H++[.obj (.map #[] 0)]⟩:AS).put o.dst (.mp s.H.length))
 |.makeSlice t x y=>ao (B7 P t) λ(e,sz,z)=>ao (s.ev x) λa=>ao (s.ev y) λb=>a.asInt λ_ n=>b.asInt λ_ n'=>n'=n/\0<=n/\n<=2^30/\next ((⟨s.T,s.H++[.cells (gU z (n.toNat* sz)) e]⟩:AS).put o.dst (.bp s.H.length 0 n.toNat n.toNat))
 |.mapUpdate t m k x=>ao (oX P t) λ(kt,_)=>ao (s.ev m) λp=>ao (s.ev k) λa=>ao (s.ev x) λb=>ao a.raw λK=>ao b.raw λX=>p.sP λid=>match s.H[id]?with
  |some (.obj (.map es ck))=>cG P (Vj false 10000 kt K) ()/\∃fd,cG P (VP kt K es.toList) fd/\(∀i v,fd=some (i,v)->WG 10000 (((es[i]?).map (·.key)).getD K) K=true)/\next ((⟨s.T,s.H.set id (.obj (xh es ck K X fd))⟩:AS).put o.dst (.val undef))
  |_=>False
 |.range t x=>ao (oX P t) λ_=>ao (s.ev x) λp=>p.sP λm=>match s.H[m]?with
  |some (.obj (.map _ ck))=>next ((⟨s.T,s.H++[.iter m ck #[] ck]⟩:AS).put o.dst (.op s.H.length 0))
  |_=>False
 |.next it false=>ao (s.ev it) λp=>p.p7 λid off=>off=0/\match s.H[id]?with
  |some (.iter m since seen ud)=>match s.H[m]?with
   |some (.obj (.map es ck))=>(es.all (λe=>decide (e.born>=ud))=false\/es.isEmpty=true\/seen.isEmpty=true)/\
    (∀e∈es,e.born∉seen->next ((⟨s.T,s.H.set id (.iter m since (seen.push e.born) ck)⟩:AS).put o.dst (.aN [.val (.bool true),AV.of e.key,AV.of e.val])))/\
    ((∀e∈es,e.born<since->e.born∈seen)->next (s.put o.dst (.aN [.val (.bool false)])))
   |_=>False
  |_=>False
 |.panic x=>ao (s.ev x) λa=>match a with
  |.da t av=>bad (.da t av) s
  |_=>False
 |.binOp op t x (.const (.slice none 0 0)) _=>(op=.eql\/op=.neq)/\ao (kA P t) λ_=>ao (s.ev x) λa=>ao a.len λn=>∀b:Bool,(0<n->b=false)->next (s.put o.dst (.val (.bool (if op== .neq then !b else b))))
 |.call c=>match c.callee with
  |.builtin .append=>match c.args.toList,c.argTypes.toList with
   |[x,y],[t,t']=>ao (jM P t t') λ(elem,sz,_)=>ao (s.ev x) λa=>ao (s.ev y) λb=>a.p8 (λid off n c0=>ao (s.src sz b) λ(m,l')=>uf s.H (λb H'=>next ((⟨s.T,H'⟩:AS).put o.dst b)) id off n c0 m sz elem l') λn l e=>ao (s.src sz b) λ(m,l')=>l.length=n* sz/\l'.length=m* sz/\n+m<=2^30/\BV s o.dst next n m sz elem l l' e
   |_,_=>False
  |.builtin .copy=>match c.args.toList,c.argTypes.toList with
   |[x,y],[t,_]=>ao (kA P t) λ(_,sz)=>ao (s.ev x) λa=>ao (s.ev y) λb=>match a with
    |.bp id off n _=>match s.H[id]?with
     |some (.cells l el)=>ao (s.src sz b) λ(m,l')=>l'.length=m* sz/\off+min m n* sz<=l.length/\(∀a∈l',a.leaf=true)/\next ((⟨s.T,s.H.set id (.cells (iJ l off (l'.take (min m n* sz))) el)⟩:AS).put o.dst (.val (.int .i64 (min m n:Nat))))
     |_=>False
    |_=>False
   |_,_=>False
  |.builtin .delete=>match c.args.toList,c.argTypes.toList with
   |[m,k],[t,_]=>ao (oX P t) λ(kt,_)=>ao (s.ev m) λp=>ao (s.ev k) λa=>ao a.raw λK=>p.sP λid=>match s.H[id]?with
    |some (.obj (.map es ck))=>cG P (Vj es.isEmpty 10000 kt K) ()/\∃fd,cG P (VP kt K es.toList) fd/\next ((⟨s.T,s.H.set id (.obj (.map (FJ es fd) ck))⟩:AS).put o.dst (.val undef))
    |_=>False
   |_,_=>False
  |.value x=>ao (s.ev x) λf=>ao (eZ s c.args.toList) λaE=>BW lv P f s.H aE (λb H'=>next ((⟨s.T,H'⟩:AS).put o.dst b)) (λpv H'=>bad pv ⟨s.T,H'⟩) ⟨0⟩
  |.invoke x name=>ao (s.ev x) λf=>ao (eZ s c.args.toList) λaE=>aeE lv P f name s.H aE (λb H'=>next ((⟨s.T,H'⟩:AS).put o.dst b)) (λpv H'=>bad pv ⟨s.T,H'⟩) ⟨0⟩
  |_=>ly P s o λav=>next (s.put o.dst av)
 |_=>ly P s o λav=>next (s.put o.dst av)
def iC (all:Array Tu):List Tu->AS->(AS->Prop)->(AV->AS->Prop)->Prop
 |[],s,next,_=>next s
 |o::rest,s,next,bad=>match o.guard with
  |none=>my lv P s o (λs'=>iC all rest s' next bad) bad
  |some (j,b8)=>ao ((all[j]?).bind (·.dst)) λd=>ao (look s.T d) λa=>a.asBool λb=>qV b b8 (my lv P ⟨(d,.val (.bool b8))::s.T,s.H⟩ o (λs'=>iC all rest s' next bad) bad) (iC all rest ((⟨(d,.val (.bool !b8))::s.T,s.H⟩:AS).put o.dst (.val undef)) next bad) ⟨0⟩
end
section
variable {lv:Bool}{P:SI}{r:Option Nat}{s:AS}
theorem sA{c:Xt}{x y:TypeId}(h:c.argTypes.toList=[x,y]):c.argTypes=#[x,y]:=by
 apply VG;simpa using h
theorem my.sound{o:Tu}{next:AS->Prop}{bad:AV->AS->Prop}(h:my lv P s o next bad):Step lv P r o s next bad:=by
 have quiet:(ly P s o λav=>next (s.put o.dst av))->Step lv P r o s next bad:=λh=>by
  obtain⟨av,h1,h2⟩:=h.sound (lv:=lv) (r:=r);exact h1.step h2
 unfold my at h;split at h
 ·rename_i t x ho;obtain⟨a,h1,h⟩:=h.out;obtain⟨l,h2,h⟩:=h.out;exact adC ho h1 h2 h
 ·rename_i t ho;obtain⟨z,h1,h⟩:=h.out;exact adz ho h1 h
 ·rename_i t x y ho;obtain⟨p,h1,hA⟩:=h.out;obtain⟨a,h2,hB⟩:=hA.out;obtain⟨lp,h3,hC⟩:=hB.out;obtain⟨id,off,e1,hD⟩:=Cs hC;clear h hA hB hC;subst e1;split at hD
  ·rename_i l el hk;obtain⟨q1,q2,q3,q4⟩:=hD;obtain⟨⟨n,g⟩,q5,q6⟩:=q1.out;exact adH ho q5 h1 hk h2 h3 q6 q2 q3 q4
  ·rename_i p l el hk;obtain⟨q0,q1,q2,q3,q4⟩:=hD;obtain⟨⟨n,g⟩,q5,q6⟩:=q1.out;exact arU ho q5 h1 hk q0 h2 h3 q6 q2 q3 q4
  ·rename_i p l el hk;obtain⟨q1,q2,q3,q4⟩:=hD;obtain⟨⟨n,g⟩,q5,q6⟩:=q1.out;exact adI ho q5 h1 hk h2 h3 q6 q2 q3 q4
  ·exact hD.elim
 ·rename_i t ho;exact arO ho h
 ·rename_i t x y ho;obtain⟨⟨e,sz,z⟩,h1,hA⟩:=h.out;obtain⟨a,h2,hB⟩:=hA.out;obtain⟨b,h3,hC⟩:=hB.out;obtain⟨j,n,e1,hD⟩:=od hC;obtain⟨j',n',e2,hE⟩:=od hD;clear h hA hB hC hD;subst e1 e2;obtain⟨e3,h4,h5,h6⟩:=hE;subst e3;obtain⟨m,rfl⟩:∃m:Nat,n'=m:=⟨n'.toNat,by omega⟩;exact adF ho h1 h2 h3 (by omega) (by simpa using h6)
 ·rename_i t m k x ho;obtain⟨⟨kt,et⟩,h1,hA⟩:=h.out;obtain⟨p,h2,hB⟩:=hA.out;obtain⟨a,h3,hC⟩:=hB.out;obtain⟨b,h4,hD⟩:=hC.out;obtain⟨K,h5,hE⟩:=hD.out;obtain⟨X,h6,hF⟩:=hE.out;obtain⟨id,e1,hG⟩:=Fu hF;clear h hA hB hC hD hE hF;subst e1;split at hG
  ·rename_i es ck hH;obtain⟨q1,fd,q2,q3,q4⟩:=hG;exact arP (.inl ho) h1 h2 h3 h4 h5 h6 hH q1 q2 q3 q4
  ·exact hG.elim
 ·rename_i t x ho;obtain⟨⟨kt,et⟩,h1,hA⟩:=h.out;obtain⟨p,h2,hB⟩:=hA.out;obtain⟨m,e1,hC⟩:=Fu hB;clear h hA hB;subst e1;split at hC
  ·rename_i es ck hH;exact arS ho h1 h2 hH hC
  ·exact hC.elim
 ·rename_i it ho;obtain⟨p,h1,hA⟩:=h.out;obtain⟨id,off,e1,hB⟩:=Cs hA;clear h hA;subst e1;obtain⟨e1,hC⟩:=hB;subst e1;split at hC
  ·rename_i m since seen ud hI;split at hC
   ·rename_i es ck hM;exact arQ ho h1 hI hM hC.1 hC.2.1 hC.2.2
   ·exact hC.elim
  ·exact hC.elim
 ·rename_i x ho;obtain⟨a,h1,hA⟩:=h.out;split at hA
  ·exact arR ho h1 hA
  ·exact hA.elim
 ·rename_i op t x yt ho;obtain⟨ay,hA⟩:=h;obtain⟨d,h1,hB⟩:=hA.out;obtain⟨a,h2,hC⟩:=hB.out;obtain⟨n,e1,hD⟩:=hC.out;exact arT ho ay h2 e1 h1 hD
 ·rename_i c ho;split at h
  ·rename_i aW;split at h
   ·rename_i x y t t' ha ht;obtain⟨⟨elem,sz,z⟩,h1,hA⟩:=h.out;obtain⟨a,h2,hB⟩:=hA.out;obtain⟨b,h3,hC⟩:=hB.out;rcases Ja hC with⟨id,off,n,c0,e1,hD⟩|⟨n,l,e,e1,hD⟩
    ·clear h hA hB hC;subst e1;obtain⟨⟨m,l'⟩,h4,rfl,g2,g3,g4,g5,hE⟩:=hD.out;split at hE
     ·rename_i hk;obtain⟨rfl,rfl,g6,g7⟩:=hE;exact adA ho aW (na ha) (sA ht) h1 h2 g2 hk rfl h3 h4 g6 g3 g4 g5 g7
     ·exact hE.elim
    ·clear h hA hB hC;subst e1;obtain⟨⟨m,l'⟩,h4,h5,h6,h7,h8⟩:=hD.out;exact step_append ho aW (na ha) (sA ht) h1 h2 h3 h4 h5 h6 h7 h8
   ·exact h.elim
  ·rename_i aW;split at h
   ·rename_i x y t t' ha ht;obtain⟨⟨elem,sz⟩,h1,hA⟩:=h.out;obtain⟨a,h2,hB⟩:=hA.out;obtain⟨b,h3,hC⟩:=hB.out;clear h hA hB;split at hC
    ·split at hC
     ·rename_i hk;obtain⟨⟨m,l'⟩,h4,h5,h6,h7,h8⟩:=hC.out;exact arM ho aW (na ha) (sA ht) h1 h2 hk h3 h4 h5 h6 h7 h8
     ·exact hC.elim
    ·exact hC.elim
   ·exact h.elim
  ·rename_i aW;split at h
   ·rename_i m k t t' ha ht;obtain⟨⟨kt,et⟩,h1,hA⟩:=h.out;obtain⟨p,h2,hB⟩:=hA.out;obtain⟨a,h3,hC⟩:=hB.out;obtain⟨K,h4,hD⟩:=hC.out;obtain⟨id,e1,hE⟩:=Fu hD;clear h hA hB hC hD;subst e1;split at hE
    ·rename_i es ck hH;obtain⟨q1,fd,q2,q3⟩:=hE;exact arN ho aW (na ha) (sA ht) h1 h2 h3 h4 hH q1 q2 q3
    ·exact hE.elim
   ·exact h.elim
  ·rename_i x aW;obtain⟨f,h1,hA⟩:=h.out;obtain⟨aE,h2,hB⟩:=hA.out;exact Ot ho aW h1 h2 hB
  ·rename_i x name aW;obtain⟨f,h1,hA⟩:=h.out;obtain⟨aE,h2,hB⟩:=hA.out;exact adE ho aW h1 h2 hB
  ·exact quiet h
 ·exact quiet h
structure At (E:Env)(V:View)(s:AS)(a:Act)(nt:Nat):Prop where
 bu:Conc E V s.H
 tok:cg E s.T a.tmps
 size:a.tmps.size=nt
theorem Kept.refl(E:Env)(V:View)(a:Act):Kept E E V V a a:=⟨Env.Le.refl E,rfl,rfl,rfl,rfl⟩
theorem Kept.trans{E E' bS:Env}{V V' aS:View}{a a' cj:Act}(h:Kept E E' V V' a a')(k:Kept E' bS V' aS a' cj):Kept E bS V aS a cj:=
 ⟨h.le.trans k.le,k.size.trans h.size,k.defers.trans h.defers,k.role.trans h.role,k.deaf.trans h.deaf⟩
inductive an where
 |normal
 |exit (id:Nat)
 |goto (l:Nat)
 |ret
 |panic (pv:AV)
def pV (E:Env):an->Ex->Prop
 |.normal,.normal=>True
 |.exit i,.exit j=>i=j
 |.goto i,.goto j=>i=j
 |.ret,.ret=>True
 |.panic pv,.panic ch=>∃v,ch=[{v,recovered:=false}]/\ap E pv v
 |_,_=>False
def aP (lv:Bool)(P:SI)(r:Option Nat)(nt:Nat)(c:T7)(s:AS)(Φ:an->AS->Prop):Prop:=
 ∀(E:Env)(V:View)(a:Act)(Q:Ex->Act->View->Prop),At E V s a nt->(∀ae e E' V' a' s',Kept E E' V V' a a'->At E' V' s' a' nt->pV E' ae e->Φ ae s'->Q e a' V')->WP lv P r c Q a V
theorem Bi{nt:Nat}{all:Array Tu}{Φ:an->AS->Prop}(dt:∀o∈all,∀d,o.dst=some d->d<nt)(ny:∀o∈all,r=none\/mi o.op=false):∀(n k:Nat)(s:AS),k+n=all.size->iC lv P all (all.toList.drop k) s (Φ .normal) (λpv s=>Φ (.panic pv) s)->
  ∀(E:Env)(V:View)(a:Act)(Q:Ex->Act->View->Prop),At E V s a nt->(∀ae e E' V' a' s',Kept E E' V V' a a'->At E' V' s' a' nt->pV E' ae e->Φ ae s'->Q e a' V')->dp lv P r all Q (T9 k n) a V
 |0,k,s,hk,h,E,V,a,Q,ah,hQ=>by
  have:all.toList.drop k=[]:=by simp;omega
  rw[this]at h;exact hQ .normal .normal E V a s (Kept.refl E V a) ah trivial h
 |n+1,k,s,hk,h,E,V,a,Q,ah,hQ=>by
  have hlt:k<all.size:=by omega
  have hd:all.toList.drop k=all[k]::all.toList.drop (k+1):=by
   rw[TL (by simpa using hlt)];simp
  rw[hd]at h;have fF:all[k]∈all:=XX hlt;have ho:all[k]?=some all[k]:=SJ hlt;simp only[VU,dp,ho];have go:∀s:AS,At E V s a nt->my lv P s all[k] (λs'=>iC lv P all (all.toList.drop (k+1)) s' (Φ .normal) (λpv s=>Φ (.panic pv) s)) (λpv s=>Φ (.panic pv) s)->xD lv P r all[k] a V (dp lv P r all Q (T9 (k+1) n)) Q:=λs ah h=>by
   refine h.sound (lv:=lv) (r:=r) E V a _ Q ah.bu ah.tok (λd e=>by rw[ah.size];exact dt _ fF d e) (ny _ fF) (λE' V' a' s' aI bi mf hn=> ?_) (λE' V' s' pv v aI bi mf bk hb=> ?_)
   ·exact Bi dt ny n (k+1) s' (by omega) hn E' V' a' Q ⟨bi,mf,aI.size.trans ah.size⟩ (λae e bS aS cj dn fV dj he hΦ=>hQ ae e bS aS cj dn (aI.trans fV) dj he hΦ)
   ·exact hQ (.panic pv) (.panic _) E' V' a s' aI ⟨bi,mf,ah.size⟩ ⟨v,rfl,bk⟩ hb
  simp only[iC]at h;split at h
  ·rename_i hg;have hw:Ti all[k] (yielded all a.tmps)=true:=(by unfold Ti;rw[hg]);rw[if_pos hw];exact .inl (go s ah h)
  ·rename_i j b8 hg;obtain⟨d,gr,h⟩:=h.out;obtain⟨av,h1,h⟩:=h.out;obtain⟨b,rfl,h2,h3⟩:=Cr h;have hv:=(ah.tok d _ h1).2;have hy:yielded all a.tmps j=some b:=by
    obtain⟨oj,kG,jh⟩:=Tg.1 gr;generalize hx:a.tmps.getD d undef=x at hv;cases hv;have mc:d<a.tmps.size:=(ah.tok d _ h1).1;rw[SH,SJ mc]at hx;simp only[S0]at hx;simp[yielded,kG,jh,SJ mc,hx]
   have se:∀b',b=b'->At E V ⟨(d,.val (.bool b'))::s.T,s.H⟩ a nt:=λb' dI=>by
    subst dI;refine⟨ah.bu,λt x e=> ?_,ah.size⟩;simp only[look]at e;split at e
    ·rename_i e';subst e';cases e;exact ah.tok d _ h1
    ·exact ah.tok t x e
   by_cases hb:b=b8
   ·have hw:Ti all[k] (yielded all a.tmps)=true:=(by unfold Ti;rw[hg];simp[hy,hb]);rw[if_pos hw];exact .inl (go _ (se b8 hb) (h2 hb))
   ·have hw:¬Ti all[k] (yielded all a.tmps)=true:=(by unfold Ti;rw[hg];simp[hy,hb]);rw[if_neg hw];have dI:b= !b8:=(by cases b<;>cases b8<;>simp_all);have wn:=h3 dI;have ah:=se _ dI;exact Bi dt ny n (k+1) ((⟨(d,.val (.bool !b8))::s.T,s.H⟩:AS).put all[k].dst (.val undef)) (by omega) wn E V (a.put all[k].dst undef) Q
     ⟨by rw[fb];exact ah.bu,ah.tok.h_ (λd e=>by rw[ah.size];exact dt _ fF d e) (.val undef),by rw[dX];exact ah.size⟩
     (λae e bS aS cj dn fV dj he hΦ=>hQ ae e bS aS cj dn ⟨fV.le,fV.size.trans (dX _ _ _),fV.defers.trans (put_defers _ _ _),fV.role,fV.deaf⟩ dj he hΦ)
def jT (nt:Nat)(ops:Array Tu):Bool:=ops.all λo=>(o.dst.all (·<nt))&& !mi o.op
theorem jT.out{nt:Nat}{ops:Array Tu}(hd:jT nt ops=true){o:Tu}(ho:o∈ops):(∀d,o.dst=some d->d<nt)/\mi o.op=false:=by
 have:=(UM.1 hd) o ho;simp only[Tl,T1]at this;exact⟨λd e=>by have h1:=this.1;rw[e]at h1;simpa using h1,this.2⟩
theorem PJ{nt id:Nat}{ops:Array Tu}{Φ:an->AS->Prop}(hd:jT nt ops=true)(h:iC lv P ops ops.toList s (Φ .normal) (λpv s=>Φ (.panic pv) s)):aP lv P r nt (.region id ops false) s Φ:=by
 intro E V a Q ah hQ;refine wp_region ?_;rw[Vs];exact Bi (Φ:=Φ) (λo ho d e=>(jT.out hd ho).1 d e) (λo ho=> .inr (jT.out hd ho).2) ops.size 0 s (by omega) (by simpa using h) E V a Q ah hQ
theorem PM{nt:Nat}{Φ:an->AS->Prop}(h:Φ .normal s):aP lv P r nt .skip s Φ:=λE V a _ ah hQ=>wp_skip (hQ .normal _ E V a s (Kept.refl E V a) ah trivial h)
theorem PE{nt l:Nat}{Φ:an->AS->Prop}(h:Φ .normal s):aP lv P r nt (.label l) s Φ:=λE V a _ ah hQ=>wp_label (hQ .normal _ E V a s (Kept.refl E V a) ah trivial h)
theorem PC{nt id:Nat}{Φ:an->AS->Prop}(h:Φ (.exit id) s):aP lv P r nt (.exit id) s Φ:=λE V a _ ah hQ=>wp_exit (hQ (.exit id) _ E V a s (Kept.refl E V a) ah rfl h)
theorem PK{nt:Nat}{Φ:an->AS->Prop}(h:Φ .ret s):aP lv P r nt .ret s Φ:=λE V a _ ah hQ=>wp_ret (hQ .ret _ E V a s (Kept.refl E V a) ah trivial h)
def an.then (next:AS->Prop)(Φ:an->AS->Prop):an->AS->Prop
 |.normal,s=>next s
 |e,s=>Φ e s
theorem pV.mono{E E':Env}(h:E.Le E'){ae:an}{e:Ex}(k:pV E ae e):pV E' ae e:=by
 cases ae<;>cases e<;>first|exact k|(obtain⟨v,h1,h2⟩:=k;exact⟨v,h1,h2.mono h⟩)
theorem im{nt:Nat}{x y:T7}{Φ:an->AS->Prop}(h:aP lv P r nt x s (an.then (λs'=>aP lv P r nt y s' Φ) Φ)):aP lv P r nt (.seq x y) s Φ:=by
 intro E V a Q ah hQ;refine wp_seq (h E V a _ ah λae e E' V' a' s' hk aT he hΦ=> ?_);cases ae<;>cases e<;>first
  |exact he.elim
  |exact hΦ E' V' a' Q aT λae e bS aS cj dn aI dj kg tS=>hQ ae e bS aS cj dn (hk.trans aI) dj kg tS
  |exact hQ _ _ E' V' a' s' hk aT he hΦ
theorem aga{nt:Nat}{c:Tj}{x y:T7}{b:Bool}{Φ:an->AS->Prop}(hc:s.ev c=some (.val (.bool b)))(h1:b=true->aP lv P r nt x s Φ)(h2:b=false->aP lv P r nt y s Φ):aP lv P r nt (.cond c x y) s Φ:=by
 intro E V a Q ah hQ;have hv:=ap.ev ah.tok hc;generalize hx:a.eval c=v at hv;cases hv;refine wp_cond hx ?_;cases b with
 |true=>exact h1 rfl E V a Q ah hQ
 |false=>exact h2 rfl E V a Q ah hQ
def an.inBlock (id:Nat)(Φ:an->AS->Prop):an->AS->Prop
 |.exit oI,s=>if oI=id then Φ .normal s else Φ (.exit oI) s
 |e,s=>Φ e s
theorem PA{nt id:Nat}{c:T7}{Φ:an->AS->Prop}(h:aP lv P r nt c s (an.inBlock id Φ)):aP lv P r nt (.block id c) s Φ:=by
 intro E V a Q ah hQ;refine wp_block (h E V a _ ah λae e E' V' a' s' hk aT he hΦ=> ?_);cases ae<;>cases e<;>first
  |exact he.elim
  |(rename_i i j
    have e:i=j:=he;subst e;by_cases bX:i=id
    ·simp only[Ex.inBlock,bX,if_true];simp only[an.inBlock,bX,if_true]at hΦ;exact hQ .normal _ E' V' a' s' hk aT trivial hΦ
    ·simp only[Ex.inBlock,bX,if_false];simp only[an.inBlock,bX,if_false]at hΦ;exact hQ (.exit i) _ E' V' a' s' hk aT rfl hΦ)
  |exact hQ _ _ E' V' a' s' hk aT he hΦ
theorem aP.mono{nt:Nat}{c:T7}{Φ Φ':an->AS->Prop}(h:aP lv P r nt c s Φ)(hm:∀e s,Φ e s->Φ' e s):aP lv P r nt c s Φ':=λE V a Q ah hQ=>
 h E V a Q ah λae e E' V' a' s' hk aT he hΦ=>hQ ae e E' V' a' s' hk aT he (hm _ _ hΦ)
def Wk (b a:AV):Prop:=∀E v,ap E b v->ap E a v
theorem Wk.refl(a:AV):Wk a a:=λ_ _ h=>h
theorem jq(n:Nat)(l:List AV)(e:End):Wk (.sl n l e) (.sl n l .shut):=λ_ _ h=>by
 cases h with
 |sl b o cap f hc he h1 h2=>exact .sl b o cap f hc trivial h1 h2
 |nil he=>exact .nil trivial
structure AS.Sub (s s':AS):Prop where
 tok:∀t a,look s'.T t=some a->∃b,look s.T t=some b/\Wk b a
 H:s.H=s'.H
theorem At.sub{E:Env}{V:View}{s s':AS}{a:Act}{nt:Nat}(h:At E V s a nt)(hl:s.Sub s'):At E V s' a nt:=
 ⟨by rw[<- hl.H];exact h.bu,λt x e=>by obtain⟨b,h1,h2⟩:=hl.tok t x e;exact⟨(h.tok t b h1).1,h2 _ _ (h.tok t b h1).2⟩,h.size⟩
theorem jx{lv:Bool}{P:SI}{r:Option Nat}{nt:Nat}{c:T7}{s s':AS}{Φ:an->AS->Prop}(hl:s.Sub s')(h:aP lv P r nt c s' Φ):aP lv P r nt c s Φ:=λE V a Q ah hQ=>h E V a Q (ah.sub hl) hQ
inductive Lt (n:Nat):AV->Prop
 |val (x:SP):Lt n (.val x)
 |agg {l:List AV} (h:∀a∈l,Lt n a):Lt n (.agg l)
 |aN {l:List AV} (h:∀a∈l,Lt n a):Lt n (.aN l)
 |sl {m:Nat} {l:List AV} {e:End} (he:∀k,e=.opn k->k<n) (h:∀a∈l,Lt n a):Lt n (.sl m l e)
 |bp {id off m cap:Nat} (h:id<n):Lt n (.bp id off m cap)
 |rp {l:List AV} (h:∀a∈l,Lt n a):Lt n (.rp l)
 |op {id off:Nat} (h:id<n):Lt n (.op id off)
 |fn {f:Fn} {first cV:List AV} (h1:∀a∈first,Lt n a) (h2:∀a∈cV,Lt n a):Lt n (.fn f first cV)
 |da {t:TypeId} {x:AV} (h:Lt n x):Lt n (.da t x)
 |mp {id:Nat} (h:id<n):Lt n (.mp id)
theorem pM{l:List AV}{a:AV}(h:a∈l):∃i:Nat,l[i]?=some a:=UV.1 h
theorem ap.lt{E:Env}{a:AV}{v:SP}(d:ap E a v):Lt E.n a:=by
 induction d with
 |val x=>exact .val x
 |agg hs _ ih=>exact .agg λa h=>(pM h).elim λi hi=>ih i a hi
 |aN hs _ ih=>exact .aN λa h=>(pM h).elim λi hi=>ih i a hi
 |sl b o cap f hc he h1 _ ih=>exact .sl (λk e=>by subst e;exact he.1) λa h=>(pM h).elim λi hi=>ih i a hi
 |nil he=>exact .sl (λk e=>by subst e;exact he.1) (by simp)
 |bp hi _=>exact .bp hi
 |rp b o f h1 _ ih=>exact .rp λa h=>(pM h).elim λi hi=>ih i a hi
 |op hi=>exact .op hi
 |fn dL fX _ _ mN lm=>exact .fn (λa h=>(pM h).elim λi hi=>mN i a hi) (λa h=>(pM h).elim λi hi=>lm i a hi)
 |da _ ih=>exact .da ih
 |mp hi=>exact .mp hi
theorem Lt.mono{n m:Nat}(h:n<=m){a:AV}(d:Lt n a):Lt m a:=by
 induction d with
 |val x=>exact .val x
 |agg _ ih=>exact .agg ih
 |aN _ ih=>exact .aN ih
 |sl he _ ih=>exact .sl (λk e=>Tf (he k e) h) ih
 |bp hi=>exact .bp (Tf hi h)
 |rp _ ih=>exact .rp ih
 |op hi=>exact .op (Tf hi h)
 |fn _ _ mN lm=>exact .fn mN lm
 |da _ ih=>exact .da ih
 |mp hi=>exact .mp (Tf hi h)
theorem pU.trim{E:Env}{e:End}{a:Option U_}{m cap n:Nat}(h:pU E e a m cap)(hk:∀k,e=.opn k->k<n):pU {E with n:=n} e a m cap:=by
 cases e with
 |exact=>exact h
 |shut=>trivial
 |opn k=>exact⟨hk k rfl,h.2⟩
theorem get_mem{l:List AV}{i:Nat}{a:AV}(h:l[i]?=some a):a∈l:=UV.2 ⟨i,h⟩
theorem ap.trim{E:Env}{a:AV}{v:SP}(d:ap E a v){n:Nat}(h:Lt n a):ap {E with n:=n} a v:=by
 induction d with
 |val x=>exact .val x
 |agg hs _ ih=>cases h with|agg h=>exact .agg hs λi a e=>ih i a e (h a (get_mem e))
 |aN hs _ ih=>cases h with|aN h=>exact .aN hs λi a e=>ih i a e (h a (get_mem e))
 |sl b o cap f hc he h1 _ ih=>cases h with|sl hk h=>exact .sl b o cap f hc (he.trim hk) h1 λi a e=>ih i a e (h a (get_mem e))
 |nil he=>cases h with|sl hk h=>exact .nil (he.trim hk)
 |bp hi dR=>cases h with|bp h=>exact .bp (E:={E with n:=n}) h dR
 |rp b o f h1 _ ih=>cases h with|rp h=>exact .rp b o f h1 λi a e=>ih i a e (h a (get_mem e))
 |op hi=>cases h with|op h=>exact .op (E:={E with n:=n}) h
 |fn dL fX _ _ mN lm=>cases h with|fn h1 h2=>exact .fn dL fX (λi a e=>mN i a e (h1 a (get_mem e))) λi a e=>lm i a e (h2 a (get_mem e))
 |da _ ih=>cases h with|da h=>exact .da (ih h)
 |mp hi=>cases h with|mp h=>exact .mp (E:={E with n:=n}) h
def eQ (n:Nat):aa->Prop
 |.cells l _|.part _ l _|.own _ l _=>∀a∈l,Lt n a
 |.iter m _ _ _=>m<n
 |.loop _ _ _ _ T _ _ _ _ df=>(∀t a,look T t=some a->Lt n a)/\df<n
 |_=>True
theorem eQ.mono{n m:Nat}(h:n<=m){x:aa}(k:eQ n x):eQ m x:=by
 cases x with
 |cells l el=>exactλa ha=>(k a ha).mono h
 |part p l el=>exactλa ha=>(k a ha).mono h
 |own p l el=>exactλa ha=>(k a ha).mono h
 |iter=>exact Tf k h
 |loop=>exact⟨λt a e=>(k.1 t a e).mono h,Tf k.2 h⟩
 |_=>trivial
theorem fN.olt{E:Env}{V:View}{k:Nat}{x:aa}(h:fN E V k x):eQ E.n x:=by
 cases x with
 |cells l el=>obtain⟨⟨cs,_,h2⟩,_⟩:=h;exactλa ha=>(pM ha).elim λi hi=>(h2.2 i a hi).lt
 |part p l el=>obtain⟨⟨cs,_,h2,_⟩,_⟩:=h;exactλa ha=>(pM ha).elim λi hi=>(h2.2 i a hi).lt
 |own p l el=>obtain⟨⟨cs,_,h2,_⟩,_⟩:=h;exactλa ha=>(pM ha).elim λi hi=>(h2.2 i a hi).lt
 |iter m a b c=>exact h.1
 |loop=>obtain⟨⟨tmps,_,_,h2⟩,h3,_⟩:=h;exact⟨λt a e=>(h2 t a e).2.lt,h3⟩
 |_=>trivial
theorem fN.trim{E:Env}{V:View}{k n:Nat}{x:aa}(h:fN E V k x)(hl:eQ n x):fN {E with n:=n} V k x:=by
 cases x with
 |cells l el=>obtain⟨⟨cs,h1,h2⟩,h3⟩:=h;exact⟨⟨cs,h1,h2.1,λi a e=>(h2.2 i a e).trim (hl a (get_mem e))⟩,h3⟩
 |part p l el=>obtain⟨⟨cs,h1,h2,h4⟩,h3⟩:=h;exact⟨⟨cs,h1,⟨h2.1,λi a e=>(h2.2 i a e).trim (hl a (get_mem e))⟩,h4⟩,h3⟩
 |own p l el=>obtain⟨⟨cs,h1,h2,h4⟩,h3⟩:=h;exact⟨⟨cs,h1,⟨h2.1,λi a e=>(h2.2 i a e).trim (hl a (get_mem e))⟩,h4⟩,h3⟩
 |iter m a b c=>exact⟨hl,h.2⟩
 |tail m sz el=>exact h
 |obj x=>exact h
 |loop=>obtain⟨⟨tmps,h1,h2,h3⟩,h4,h5⟩:=h;exact⟨⟨tmps,h1,h2,λt a e=>⟨(h3 t a e).1,(h3 t a e).2.trim (hl.1 t a e)⟩⟩,hl.2,h5⟩
 |gone=>trivial
 |main=>exact h
def bH (H:List aa):Prop:=∀x∈H,eQ H.length x
theorem Conc.aq{E:Env}{V:View}{H:List aa}(h:Conc E V H):bH H:=λx hx=>by
 obtain⟨i,hi⟩:=UV.1 hx;rw[<- h.n];exact(h.obj i x hi).olt
theorem FC(E:Env)(n k:Nat)(x:aa):bO {E with n:=n} k x=bO E k x:=by cases x<;>rfl
theorem Conc.trim{E:Env}{V:View}{H G:List aa}(h:Conc E V (H++G))(hl:bH H):Conc {E with n:=H.length} V H:=by
 have hg:∀(k:Nat) x,H[k]?=some x->(H++G)[k]?=some x:=λk x e=>by rw[SX (SL.1 e).1];exact e
 refine⟨h.I,rfl,λk x e=>(h.obj k x (hg k x e)).trim (hl x (S_ e)),λi j x y b h1 h2 h3 h4=> ?_,λg kj=> ?_,λg kj=> ?_,h.top,λb y kj=> ?_⟩
 ·rw[FC]at h3 h4;exact h.inj i j x y b (hg i x h1) (hg j y h2) h3 h4
 ·obtain⟨q0,q1,q2⟩:=h.group g kj;exact⟨q0,q1,λk x e=>by rw[FC];exact q2 k x (hg k x e)⟩
 ·obtain⟨q0,q1,q2⟩:=h.chan g kj;exact⟨q0,q1,λk x e=>by rw[FC];exact q2 k x (hg k x e)⟩
 ·obtain⟨q0,q1,q2⟩:=h.fr b y kj;exact⟨q0,q1,λk x e=>by rw[FC];exact q2 k x (hg k x e)⟩
structure AS.IS (s s':AS):Prop where
 tok:∀t a,look s'.T t=some a->∃b,look s.T t=some b/\Wk b a/\Lt s'.H.length a
 H:∃G,s.H=s'.H++G
 ok:bH s'.H
theorem EH{E:Env}{n m:Nat}(h1:m<=n)(h2:n<=E.n){E0:Env}(h:E0.Le E)(h0:E0.n=m):E0.Le {E with n:=n}:=⟨h.I,by show E0.n<=n;omega,h.blk,h.fz,h.room,h.fr,h.main⟩
theorem At.cut{E:Env}{V:View}{s s':AS}{a:Act}{nt:Nat}(h:At E V s a nt)(hl:s.IS s'):At {E with n:=s'.H.length} V s' a nt:=by
 obtain⟨G,hG⟩:=hl.H;have hc:=h.bu;rw[hG]at hc;refine⟨hc.trim hl.ok,λt x e=> ?_,h.size⟩;obtain⟨b,h1,h2,h3⟩:=hl.tok t x e;exact⟨(h.tok t b h1).1,(h2 _ _ (h.tok t b h1).2).trim h3⟩
theorem PF{nt:Nat}{α:Type}{lt:α->α->Prop}(wf:WellFounded lt){c:T7}{Φ:an->AS->Prop}(inv:α->AS)(ok:α->Prop)(m:α)(h0:s.Sub (inv m))(hm:ok m)(hn:∀m,ok m->s.H.length<=(inv m).H.length)
  (h:∀m,ok m->aP lv P r nt c (inv m) (an.then (λs'=>∃m',lt m' m/\ok m'/\(s'.Sub (inv m')\/s'.IS (inv m'))) Φ)):aP lv P r nt (.loop c) s Φ:=by
 intro E V a Q ah hQ;refine OW wf (I:=λm a' V'=>ok m/\∃E',Kept E E' V V' a a'/\At E' V' (inv m) a' nt) m ⟨hm,E,Kept.refl E V a,ah.sub h0⟩ λm a' V' hI=> ?_;obtain⟨aq,E',hk,aT⟩:=hI;refine h m aq E' V' a' _ aT λae e bS aS cj dn aI dj he hΦ=> ?_;cases ae<;>cases e<;>first
  |exact he.elim
  |(obtain⟨m',h1,h2,h3⟩:=hΦ
    rcases h3 with h3|h3
    ·exact⟨m',h1,h2,bS,hk.trans aI,dj.sub h3⟩
    ·refine⟨m',h1,h2,_,?_,dj.cut h3⟩;have cH:=hk.trans aI;obtain⟨G,hG⟩:=h3.H;exact⟨EH (hn m' h2) (by rw[dj.bu.n,hG];simp) cH.le ah.bu.n,cH.size,cH.defers,cH.role,cH.deaf⟩)
  |exact hQ _ _ bS aS cj dn (hk.trans aI) dj he hΦ
theorem agj{nt:Nat}{c:T7}{Φ:an->AS->Prop}(inv:Nat->Nat->AS->Prop)
  (start:∃n:Nat,aP lv P r nt c s (λe s'=>match e with
   |.goto l=>∃rest,findLabel c l=some rest/\∃m,m<n/\inv l m s'
   |e=>Φ e s'))
  (back:∀l rest m s',findLabel c l=some rest->inv l m s'->aP lv P r nt rest s' (λe dn=>match e with
   |.goto l'=>∃zk,findLabel c l'=some zk/\∃m',m'<m/\inv l' m' dn
   |e=>Φ e dn)):aP lv P r nt (.scope c) s Φ:=by
 intro E V a Q ah hQ;refine aeu (λl m a' V'=>∃E' s',Kept E E' V V' a a'/\At E' V' s' a' nt/\inv l m s') ?_ ?_
 ·obtain⟨n,hn⟩:=start;refine⟨n,hn E V a _ ah λae e E' V' a' s' hk aT he hΦ=> ?_⟩;cases ae<;>cases e<;>first
   |exact he.elim
   |(have e:_=_:=he
     subst e;obtain⟨rest,h1,m,h2,h3⟩:=hΦ;exact⟨rest,h1,m,h2,E',s',hk,aT,h3⟩)
   |exact hQ _ _ E' V' a' s' hk aT he hΦ
 ·intro l rest m a' V' hf ⟨E',s',hk,aT,hi⟩;refine back l rest m s' hf hi E' V' a' _ aT λae e bS aS cj dn aI dj he hΦ=> ?_;cases ae<;>cases e<;>first
   |exact he.elim
   |(have e:_=_:=he
     subst e;obtain⟨zk,h1,m',h2,h3⟩:=hΦ;exact⟨zk,h1,m',h2,bS,dn,hk.trans aI,dj,h3⟩)
   |exact hQ _ _ bS aS cj dn (hk.trans aI) dj he hΦ
end
def bt:Nat->List AV->List (Nat×AV)
 |_,[]=>[]
 |i,a::l=>(i,a)::bt (i+1) l
theorem Nk:∀(l:List AV)(i t:Nat)(a:AV),look (bt i l) t=some a->i<=t/\l[t-i]?=some a
 |[],_,_,_,h=>by cases h
 |b::l,i,t,a,h=>by
  simp only[bt,look]at h;split at h
  ·rename_i e;subst e;cases h;exact⟨SO _,by simp⟩
  ·obtain⟨h1,h2⟩:=Nk l (i+1) t a h;refine⟨by omega,?_⟩;have:t-i=(t-(i+1))+1:=(by omega);rw[this,UN];exact h2
def vC (P:SI)(s:AS):UQ->Option AV
 |.tmp t=>look s.T t
 |.cell a t=>(look s.T a).bind λp=>(s.at p).bind λl=>(Ty P t).bind λx=>if x.2 then(if x.1<=l.length then some (.agg (l.take x.1))else none)else l[0]?
def ie (P:SI)(s:AS):List UQ->Option (List AV)
 |[]=>some []
 |x::l=>match vC P s x,ie P s l with
  |some a,some aE=>some (a::aE)
  |_,_=>none
def i_:List AV->AV
 |[a]=>a
 |l=> .aN l
theorem aql{P:SI}{E:Env}{V:View}{s:AS}{a:Act}{nt:Nat}(ah:At E V s a nt){x:UQ}{av:AV}(h:vC P s x=some av):
  ∃v,ap E av v/\∀{K:SP->View->Prop}{Kp:SP->View->Prop},K v V->aQ P V (match x with|.tmp t=>pure (a.tmps.getD t undef)|.cell b t=>do loadVar t (<- asAddr (a.tmps.getD b undef))) K Kp:=by
 cases x with
 |tmp t=>exact⟨_,(ah.tok t av h).2,λhK=>au hK⟩
 |cell b t=>
  unfold vC at h;obtain⟨p,h1,h⟩:=Tg.1 h;obtain⟨l,h2,h⟩:=Tg.1 h;obtain⟨⟨n,g⟩,h3,h⟩:=Tg.1 h;obtain⟨i,d,t1,t2,rfl,t4⟩:=Ty.out h3;obtain⟨bb,off,f,hv,hg,kj,hd⟩:=ah.bu.at (ah.tok b p h1).2 h2;dsimp only;rw[hv];cases g with
  |true=>
   simp only[if_true]at h;split at h
   ·rename_i hlen;cases h;refine⟨_,JD hlen hd,λhK=> ?_⟩;refine az ?_;unfold asAddr;refine au ?_;unfold loadVar;refine Eu t2 ?_;rw[t4];simp only[if_true];refine jZ t1 ?_;exact az (BA (f:=f) (λh=>kj (by omega)) (λj hj=>hg j (by omega)) (au hK))
   ·cases h
  |false=>
   simp only[TP,if_false]at h;have hlen:0<l.length:=(SL.1 h).1;have lG:=hg 0 hlen;rw[UI]at lG;refine⟨_,hd 0 av h,λhK=> ?_⟩;refine az ?_;unfold asAddr;refine au ?_;unfold loadVar;refine Eu t2 ?_;rw[t4];simp only[TP,if_false];exact Oe lG (.inl (kj hlen)) (cI hK)
theorem H2{P:SI}{E:Env}{V:View}{s:AS}{a:Act}{nt:Nat}(ah:At E V s a nt):∀(rs:List UQ)(l:List AV),ie P s rs=some l->∃vs:List SP,vs.length=l.length/\(∀(i:Nat) x,l[i]?=some x->ap E x (vs.getD i undef))/\
  ∀{K:List SP->View->Prop}{Kp:SP->View->Prop},K vs V->aQ P V (rs.mapM λx=>(match x with|.tmp t=>pure (a.tmps.getD t undef)|.cell b t=>do loadVar t (<- asAddr (a.tmps.getD b undef)):Sem SP)) K Kp
 |[],l,h=>by
  cases h;refine⟨[],rfl,by simp,λhK=> ?_⟩;rw[UE];exact au hK
 |x::rs,l,h=>by
  simp only[ie]at h;split at h
  ·rename_i av l6 h1 h2;cases h;obtain⟨v,hv,hs⟩:=aql ah h1;obtain⟨vs,hl,lQ,GV⟩:=H2 ah rs l6 h2;refine⟨v::vs,by simp[hl],λi x hx=> ?_,λhK=> ?_⟩
   ·cases i with
    |zero=>cases hx;simpa using hv
    |succ i=>simpa using lQ i x (by simpa using hx)
   ·rw[Ub];exact az (hs (az (GV (au hK))))
  ·cases h
attribute [seval] Int.natCast_pow Int.natCast_mul Int.natCast_shiftLeft Int.natCast_emod Int.ofNat_sub Int.natCast_shiftRight Int.natCast_add_one Int.natCast_add Int.cast_id Int.natCast_sub Int.natCast_ediv Int.natCast_succ
open Go.Conc
def cF (n0:Nat)(H:List aa)(a:AV)(k:AV->List aa->Prop):Prop:=
 ∃b,Wk a b/\(k b H\/∃H' G,H=H'++G/\n0<=H'.length/\bH H'/\Lt H'.length b/\k b H')
def qU (P:SI)(rs:List UQ)(n0:Nat)(k kp:AV->List aa->Prop):an->AS->Prop
 |.normal,s|.ret,s=>ao (ie P s rs) λl=>cF n0 s.H (i_ l) k
 |.panic pv,s=>cF n0 s.H pv kp
 |_,_=>False
theorem b9{n0:Nat}{H:List aa}{a:AV}{k:AV->List aa->Prop}(h:k a H):cF n0 H a k:=⟨a,Wk.refl a,.inl h⟩
theorem jU{H H' G:List aa}{a b:AV}{k:AV->List aa->Prop}{n0:Nat}(hw:Wk a b)(hH:H=H'++G)(hn:n0<=H'.length)(aq:bH H')(hl:Lt H'.length b)(h:k b H'):cF n0 H a k:=⟨b,hw,.inr ⟨H',G,hH,hn,aq,hl,h⟩⟩
theorem xX{n0:Nat}{E0 E:Env}{V':View}{H:List aa}{a:AV}{v:SP}{k:AV->List aa->Prop}(h:cF n0 H a k)(hc:Conc E V' H)(hd:ap E a v)(hle:E0.Le E)(hn:E0.n=n0):∃b E' H',E0.Le E'/\ap E' b v/\Conc E' V' H'/\k b H':=by
 obtain⟨b,hw,h|⟨H',G,rfl,h1,h2,h3,h4⟩⟩:=h
 ·exact⟨b,E,H,hle,hw _ _ hd,hc,h⟩
 ·refine⟨b,{E with n:=H'.length},H',EH h1 (by rw[hc.n];simp) hle hn,(hw _ _ hd).trim h3,hc.trim h2,h4⟩
theorem ajJ{lv:Bool}{P:SI}{f:TQ}{fn:YH}{c:T7}{rs:List UQ}{nt:Nat}{H:List aa}{args:List AV}{k kp:AV->List aa->Prop}(hf:P.funcs[f]?=some fn)(hb:fn.body=some c)(hr:fn.results=rs.toArray)(hn:fn.ntmps=nt)(cM:args.length<=nt)
  (h:bH H->(∀a∈args,Lt H.length a)->aP lv P none nt c ⟨bt 0 args,H⟩ (qU P rs H.length k kp)):bf lv P f H args k kp:=by
 intro E V vs hc hd;have aV:(vs++TN (fn.ntmps-vs.size) undef).size=nt:=by simp[hd.1];omega
 have hlt:∀a∈args,Lt H.length a:=λa ha=>by
  obtain⟨i,hi⟩:=pM ha;rw[<- hc.n];exact(hd.2 i a hi).lt
 refine PZ (by simp) hf hb (h hc.aq hlt E V _ _ ⟨hc,λq a e=> ?_,aV⟩ λae e E' V' a' s' hk ah he hΦ=> ?_)
 ·obtain⟨_,e⟩:=Nk args 0 q a e;simp only[Z1]at e;have hq:q<args.length:=(SL.1 e).1;have tL:q<vs.size:=by rw[hd.1];exact hq
  refine⟨by rw[aV];omega,?_⟩;have:=hd.2 q a e;rw[SH,Yd tL];rwa [SH]at this
 ·have fin:(ao (ie P s' rs) λl=>cF H.length s'.H (i_ l) k)->a'.defers=[]/\∃v,aQ P V' (results fn a'.tmps) (λx aS=>x=v/\aS=V') (λ_ _=>False)/\gW E V k kp (.ret v) V':=by
   intro hΦ;obtain⟨l,h1,h2⟩:=hΦ.out;have gA:∃v,ap E' (i_ l) v/\aQ P V' (results fn a'.tmps) (λx aS=>x=v/\aS=V') (λ_ _=>False):=by
    obtain⟨vs,hl,lQ,yD⟩:=H2 ah rs l h1;refine⟨if h:vs.length=1 then vs[0]else .tuple vs.toArray,?_,?_⟩
    ·match l,vs,hl,lQ with
     |[x],[v],_,lQ=>exact lQ 0 x rfl
     |[],[],_,lQ=>exact .aN rfl (by simp)
     |x::y::l,v::w::vs,hl,lQ=>exact .aN (by simpa using hl) (λi z hz=>by simpa[SH,SE]using lQ i z hz)
    ·unfold results;rw[hr,X2];refine az ?_;refine az (yD ?_);refine au (au ⟨?_,rfl⟩);simp
   obtain⟨v,bk,qA⟩:=gA;obtain⟨b,bS,H',q1,q2,q3,q4⟩:=xX h2 ah.bu bk hk.le hc.n;exact⟨hk.defers,v,qA,b,bS,H',q1,hk.role,hk.deaf,q2,q3,q4⟩
  cases ae<;>cases e<;>first
   |exact he.elim
   |exact fin hΦ
   |(obtain⟨v,rfl,bk⟩:=he
     obtain⟨b,bS,H',q1,q2,q3,q4⟩:=xX hΦ ah.bu bk hk.le hc.n;exact⟨hk.defers,b,v,bS,H',rfl,q1,hk.role,hk.deaf,q2,q3,q4⟩)
   |exact hΦ.elim
open Go.Conc
theorem anL(k:Nat)(a:AV)(l:List (Nat×AV)):look ((k,a)::l) k=some a:=by simp[look]
theorem anM(k t:Nat)(a:AV)(l:List (Nat×AV))(h:(k==t)=false):look ((k,a)::l) t=look l t:=by
 have:¬k=t:=by simpa using h
 simp[look,this]
theorem xd{α:Type}(a:α)(k:α->Prop):ao (some a) k=k a:=by rw[ao]
theorem afV(b:Bool)(k:Bool->Prop):AV.asBool (.val (.bool b)) k=k b:=by rw[AV.asBool]
theorem afX(j:TZ)(n:Int)(k:TZ->Int->Prop):AV.asInt (.val (.int j n)) k=k j n:=by rw[AV.asInt]
theorem af4(l:List AV)(k:List AV->Prop):AV.xN (.aN l) k=k l:=by rw[AV.xN]
theorem afT(l:List AV)(k:List AV->Prop):AV.asAgg (.agg l) k=k l:=by rw[AV.asAgg]
theorem afZ(i j:Nat)(k:Nat->Nat->Prop):AV.p7 (.op i j) k=k i j:=by rw[AV.p7]
theorem afY(i:Nat)(k:Nat->Prop):AV.sP (.mp i) k=k i:=by rw[AV.sP]
theorem af2(n:Nat)(l:List AV)(e:End)(k:Nat->List AV->End->Prop):AV.v4 (.sl n l e) k=k n l e:=by rw[AV.v4]
theorem afg(P:SI)(xt:TypeId)(j:TZ)(m n:Int)(k:AV->Prop):dA P .add xt (.val (.int j m)) (.val (.int j n)) k=k (.val (.int j (j.wrap (m+n)))):=by simp[dA,mO,l7,ao]
theorem afu(P:SI)(xt:TypeId)(j:TZ)(m n:Int)(k:AV->Prop):dA P .sub xt (.val (.int j m)) (.val (.int j n)) k=k (.val (.int j (j.wrap (m-n)))):=by simp[dA,mO,l7,ao]
theorem afo(P:SI)(xt:TypeId)(j:TZ)(m n:Int)(k:AV->Prop):dA P .mul xt (.val (.int j m)) (.val (.int j n)) k=k (.val (.int j (j.wrap (m* n)))):=by simp[dA,mO,l7,ao]
theorem afi(P:SI)(xt:TypeId)(j:TZ)(m n:Int)(k:AV->Prop):dA P .eql xt (.val (.int j m)) (.val (.int j n)) k=k (.val (.bool (m==n))):=by simp[dA,mO,l7,ao]
theorem Pk(P:SI)(xt:TypeId)(j:TZ)(m n:Int)(k:AV->Prop):dA P .neq xt (.val (.int j m)) (.val (.int j n)) k=k (.val (.bool (m !=n))):=by simp[dA,mO,l7,ao]
theorem afn(P:SI)(xt:TypeId)(j:TZ)(m n:Int)(k:AV->Prop):dA P .lss xt (.val (.int j m)) (.val (.int j n)) k=k (.val (.bool (decide (m<n)))):=by simp[dA,mO,l7,ao]
theorem afm(P:SI)(xt:TypeId)(j:TZ)(m n:Int)(k:AV->Prop):dA P .leq xt (.val (.int j m)) (.val (.int j n)) k=k (.val (.bool (decide (m<=n)))):=by simp[dA,mO,l7,ao]
theorem afk(P:SI)(xt:TypeId)(j:TZ)(m n:Int)(k:AV->Prop):dA P .gtr xt (.val (.int j m)) (.val (.int j n)) k=k (.val (.bool (decide (m>n)))):=by simp[dA,mO,l7,ao]
theorem afj(P:SI)(xt:TypeId)(j:TZ)(m n:Int)(k:AV->Prop):dA P .geq xt (.val (.int j m)) (.val (.int j n)) k=k (.val (.bool (decide (m>=n)))):=by simp[dA,mO,l7,ao]
theorem afh(P:SI)(xt:TypeId)(j:TZ)(m n:Int)(k:AV->Prop):dA P .and xt (.val (.int j m)) (.val (.int j n)) k=k (.val (.int j (j.wrap (Ui j.bits m&&&Ui j.bits n).toNat))):=by simp[dA,mO,l7,ao]
theorem Ck(P:SI)(xt:TypeId)(j:TZ)(m n:Int)(k:AV->Prop):dA P .or xt (.val (.int j m)) (.val (.int j n)) k=k (.val (.int j (j.wrap (Ui j.bits m|||Ui j.bits n).toNat))):=by simp[dA,mO,l7,ao]
theorem Cm(P:SI)(xt:TypeId)(j:TZ)(m n:Int)(k:AV->Prop):dA P .xor xt (.val (.int j m)) (.val (.int j n)) k=k (.val (.int j (j.wrap (Ui j.bits m^^^Ui j.bits n).toNat))):=by simp[dA,mO,l7,ao]
theorem afr(P:SI)(xt:TypeId)(j:TZ)(m n:Int)(k:AV->Prop):dA P .rem xt (.val (.int j m)) (.val (.int j n)) k=ao (if n=0 then none else some (.int j (m.tmod n))) λv=>k (.val v):=by simp[dA,mO,l7]
theorem afs(P:SI)(xt:TypeId)(j j':TZ)(m n:Int)(k:AV->Prop):dA P .shl xt (.val (.int j m)) (.val (.int j' n)) k=ao (if n<0 then none else some (.int j (j.wrap (m* 2^(min n.toNat j.bits))))) λv=>k (.val v):=by simp[dA,mO,BF]
theorem Cl(P:SI)(xt:TypeId)(j j':TZ)(m n:Int)(k:AV->Prop):dA P .shr xt (.val (.int j m)) (.val (.int j' n)) k=ao (if n<0 then none else some (.int j (m.fdiv (2^(min n.toNat j.bits))))) λv=>k (.val v):=by simp[dA,mO,BF]
theorem aig(T:List (Nat×AV))(H:List aa)(t:Nat):AS.ev ⟨T,H⟩ (.tmp t)=look T t:=by rw[AS.ev]
theorem ah7(s:AS)(b:Bool):s.ev (.const (.bool b))=some (.val (.bool b)):=by rw[AS.ev,AV.of]<;>(intros;simp_all)
theorem aib(s:AS)(k:TZ)(n:Int):s.ev (.const (.int k n))=some (.val (.int k n)):=by rw[AS.ev,AV.of]<;>(intros;simp_all)
theorem ah9(s:AS)(f:TQ):s.ev (.func f)=some (.fn (.func f) [] []):=by rw[AS.ev]
theorem aif(s:AS):s.ev (.const (.slice none 0 0))=some (.sl 0 [] .exact):=by rw[AS.ev,AV.of]
theorem aic(s:AS):s.ev (.const (.map none))=some (.val (.map none)):=by rw[AS.ev,AV.of]<;>(intros;simp_all)
theorem aid(s:AS):s.ev (.const (.pointer none))=some (.val (.pointer none)):=by rw[AS.ev,AV.of]<;>(intros;simp_all)
theorem ah8(s:AS):s.ev (.const .nilFunc)=some (.val .nilFunc):=by rw[AS.ev,AV.of]<;>(intros;simp_all)
theorem aia(s:AS):s.ev (.const .nilIface)=some (.val .nilIface):=by rw[AS.ev,AV.of]<;>(intros;simp_all)
theorem aps(T:List (Nat×AV))(H:List aa)(d:Nat)(a:AV):AS.put ⟨T,H⟩ (some d) a=⟨(d,a)::T,H⟩:=by rw[AS.put]
theorem apr(s:AS)(a:AV):AS.put s none a=s:=by rw[AS.put]
theorem asr(n:AS->Prop)(Φ:an->AS->Prop)(s:AS):an.then n Φ .normal s=n s:=by rw[an.then]
theorem ast(n:AS->Prop)(Φ:an->AS->Prop)(s:AS):an.then n Φ .ret s=Φ .ret s:=by rw[an.then];intro h;cases h
theorem asp(n:AS->Prop)(Φ:an->AS->Prop)(i:Nat)(s:AS):an.then n Φ (.exit i) s=Φ (.exit i) s:=by rw[an.then];intro h;cases h
theorem asq(n:AS->Prop)(Φ:an->AS->Prop)(i:Nat)(s:AS):an.then n Φ (.goto i) s=Φ (.goto i) s:=by rw[an.then];intro h;cases h
theorem ass(n:AS->Prop)(Φ:an->AS->Prop)(a:AV)(s:AS):an.then n Φ (.panic a) s=Φ (.panic a) s:=by rw[an.then];intro h;cases h
theorem agR(i:Nat)(Φ:an->AS->Prop)(s:AS):an.inBlock i Φ .normal s=Φ .normal s:=by rw[an.inBlock];intro h h';cases h'
theorem agT(i:Nat)(Φ:an->AS->Prop)(s:AS):an.inBlock i Φ .ret s=Φ .ret s:=by rw[an.inBlock];intro h h';cases h'
theorem agO(i l:Nat)(Φ:an->AS->Prop)(s:AS):an.inBlock i Φ (.goto l) s=Φ (.goto l) s:=by rw[an.inBlock];intro h h';cases h'
theorem agS(i:Nat)(Φ:an->AS->Prop)(a:AV)(s:AS):an.inBlock i Φ (.panic a) s=Φ (.panic a) s:=by rw[an.inBlock];intro h h';cases h'
theorem agP(i:Nat)(Φ:an->AS->Prop)(s:AS):an.inBlock i Φ (.exit i) s=Φ .normal s:=by rw[an.inBlock,if_pos rfl]
theorem agQ(i j:Nat)(Φ:an->AS->Prop)(s:AS)(h:(j==i)=false):an.inBlock i Φ (.exit j) s=Φ (.exit j) s:=by
 have:¬j=i:=by simpa using h
 rw[an.inBlock,if_neg this]
theorem ajU(P:SI)(rs:List UQ)(n:Nat)(k kp:AV->List aa->Prop)(s:AS):qU P rs n k kp .ret s=ao (ie P s rs) λl=>cF n s.H (i_ l) k:=by rw[qU]
theorem ajS(P:SI)(rs:List UQ)(n:Nat)(k kp:AV->List aa->Prop)(s:AS):qU P rs n k kp .normal s=ao (ie P s rs) λl=>cF n s.H (i_ l) k:=by rw[qU]
theorem ajT(P:SI)(rs:List UQ)(n:Nat)(k kp:AV->List aa->Prop)(a:AV)(s:AS):qU P rs n k kp (.panic a) s=cF n s.H a kp:=by rw[qU]
theorem aqm(P:SI)(T:List (Nat×AV))(H:List aa)(t:Nat):vC P ⟨T,H⟩ (.tmp t)=look T t:=by rw[vC]
theorem af9(s:AS)(l:List AV):s.at (.rp l)=some l:=by rw[AS.at]
theorem ard(n i off:Nat):AV.shift n (.op i off)=some (.op i (off+n)):=by rw[AV.shift]
theorem adq(n:Nat)(l:List AV)(h:n<=l.length):AV.shift n (.rp l)=some (.rp (l.drop n)):=by rw[AV.shift,if_pos h]
theorem are(l:List AV):AV.shift 0 (.rp l)=some (.rp l):=by rw[AV.shift,if_pos (WQ _),XD]
theorem arf(n:Nat)(a:AV)(l:List AV):AV.shift (n+1) (.rp (a::l))=AV.shift n (.rp l):=by simp[AV.shift]
theorem aqx(n:Nat)(l:List AV)(e:End):AV.row (.sl n l e)=some (n,.rp l):=by rw[AV.row]
theorem aqw(i off n cap:Nat):AV.row (.bp i off n cap)=some (n,.op i off):=by rw[AV.row]
theorem ae0(P:SI)(s:AS){t:TypeId}(n:Nat)(l:List AV)(e:End)(k:AV->Prop)(h:lz P t=some .slice):sD P s t (.sl n l e) k=k (.val (.int .i64 n)):=by unfold sD;rw[h]
theorem aeZ(P:SI)(s:AS){t:TypeId}(i off n cap:Nat)(k:AV->Prop)(h:lz P t=some .slice):sD P s t (.bp i off n cap) k=k (.val (.int .i64 n)):=by unfold sD;rw[h]
theorem aeY(P:SI)(T:List (Nat×AV))(H:List aa){t:TypeId}(id:Nat)(k:AV->Prop){es:Array Wq}{ck:Nat}(h:lz P t=some .map)(hH:H[id]?=some (.obj (.map es ck))):sD P ⟨T,H⟩ t (.mp id) k=k (.val (.int .i64 es.size)):=by
 unfold sD;rw[h];simp[hH]
theorem bm{a b:AV}:(∃c,some b=some c/\Wk c a)<->Wk b a:=⟨λ⟨_,h,k⟩=>by cases h;exact k,λh=>⟨_,rfl,h⟩⟩
abbrev iv (n:Int):AV:=.val (.int .i64 n)
abbrev bv (b:Bool):AV:=.val (.bool b)
open Go.Conc
theorem PB{lv:Bool}{P:SI}{r:Option Nat}{s:AS}{nt:Nat}{c:Tj}{x y:T7}{Φ:an->AS->Prop}(h:ao (s.ev c) λa=>a.asBool λb=>(b=true->aP lv P r nt x s Φ)/\(b=false->aP lv P r nt y s Φ)):aP lv P r nt (.cond c x y) s Φ:=by
 obtain⟨a,h1,h2⟩:=h.out;obtain⟨b,rfl,h3,h4⟩:=Cr h2;exact aga h1 h3 h4
theorem QI{α β:Type}{f:α->List β}{m:Nat}(hf:∀x,(f x).length=m):∀{xs:List α}{i:Nat}{x:α},xs[i]?=some x->(xs.flatMap f).drop (i* m)=f x++(xs.drop (i+1)).flatMap f
 |y::xs,0,x,h=>by cases h;simp
 |y::xs,i+1,x,h=>by
  have ih:=QI hf (xs:=xs) (i:=i) (x:=x) (by simpa using h);rw[T5,Vk,Nat.one_mul,Z7 (i* m) m,<- am_];have:(f y++xs.flatMap f).drop m=xs.flatMap f:=by rw[<- hf y];simp
  rw[this,ih];simp
 |[],i,x,h=>by simp at h
theorem mQ{α β:Type}{f:α->List β}{m:Nat}(hf:∀x,(f x).length=m)(xs:List α):(xs.flatMap f).length=xs.length* m:=by
 induction xs with
 |nil=>simp
 |cons x xs ih=>rw[T5,S5,hf,ih,Un,Vk];omega
theorem ado{α:Type}{f:α->List AV}{m:Nat}(hf:∀x,(f x).length=m){xs:List α}{i:Nat}{x:α}(h:xs[i]?=some x):AV.shift (i* m) (.rp (xs.flatMap f))=some (.rp (f x++(xs.drop (i+1)).flatMap f)):=by
 have hi:i<xs.length:=(SL.1 h).1;rw[adq _ _ (by rw[mQ hf];exact Uh _ (by omega)),QI hf h]
theorem adp{α:Type}{f:α->AV}{xs:List α}{i:Nat}{x:α}(h:xs[i]?=some x):AV.shift (i* 1) (.rp (xs.map f))=some (.rp (f x::(xs.drop (i+1)).map f)):=by
 have hi:i<xs.length:=(SL.1 h).1;rw[Ye,adq _ _ (by simp;omega)];congr 2;rw[<- apT,TL hi,UP];congr 2;rw[SW hi]at h;exact V_ h
theorem jR{i n:Nat}(h:i<n):(0<=(i:Int)/\(i:Int)<(n:Int))=True:=by simp;exact h
theorem eN{α:Type}{xs:List α}{i:Nat}{x:α}(h:xs[i]?=some x):i<xs.length:=(SL.1 h).1
theorem bZ{α:Type}{xs:List α}{i:Nat}(h:i<xs.length):∃x,xs[i]?=some x:=⟨_,SW h⟩
theorem vX(H L:List aa)(i:Nat):(H++L)[H.length+i]?=L[i]?:=by rw[Ta (by omega)];congr 1;omega
theorem afM(H L:List aa):(H++L)[H.length]?=L[0]?:=by have:=vX H L 0;simpa using this
theorem vY(H L:List aa)(i:Nat)(x:aa):(H++L).set (H.length+i) x=H++L.set i x:=by
 rw[Ud _ _ (by omega)];congr 2;omega
theorem afQ(H L:List aa)(x:aa):(H++L).set H.length x=H++L.set 0 x:=by have:=vY H L 0 x;simpa using this
theorem afL(H L M:List aa):(H++L)++M=H++(L++M):=SC ..
theorem afP(H L:List aa):(H++L).length=H.length+L.length:=S5
theorem eC(n:Nat)(x:SP):Lt n (.val x)=True:=by simp[Lt.val]
theorem abH(n i o:Nat):Lt n (.op i o)=(i<n):=propext ⟨λh=>by cases h with|op h=>exact h,.op⟩
theorem sf(n:Nat)(l:List AV):Lt n (.agg l)=∀a∈l,Lt n a:=propext ⟨λh=>by cases h with|agg h=>exact h,.agg⟩
theorem jK(n:Nat)(l:List AV):Lt n (.aN l)=∀a∈l,Lt n a:=propext ⟨λh=>by cases h with|aN h=>exact h,.aN⟩
theorem abG(n:Nat)(t:TypeId)(a:AV):Lt n (.da t a)=Lt n a:=propext ⟨λh=>by cases h with|da h=>exact h,.da⟩
theorem vt(n m:Nat)(l:List AV):Lt n (.sl m l .shut)=∀a∈l,Lt n a:=propext ⟨λh=>by cases h with|sl _ h=>exact h,λh=> .sl (by simp) h⟩
theorem Nn(n m:Nat)(l:List AV):Lt n (.sl m l .exact)=∀a∈l,Lt n a:=propext ⟨λh=>by cases h with|sl _ h=>exact h,λh=> .sl (by simp) h⟩
theorem anP(n m k:Nat)(l:List AV):Lt n (.sl m l (.opn k))=(k<n/\∀a∈l,Lt n a):=propext ⟨λh=>by cases h with|sl h' h=>exact⟨h' k rfl,h⟩,λh=> .sl (λk' e=>by cases e;exact h.1) h.2⟩
theorem yW(n:Nat)(l:List AV):Lt n (.rp l)=∀a∈l,Lt n a:=propext ⟨λh=>by cases h with|rp h=>exact h,.rp⟩
open Go.Conc
def cS (o:Tu):List Nat:=o.after.toList.filterMap λe=>if Yt .any e then some e.on else none
inductive lZ (ops:Array Tu):List Nat->List Nat->Prop
 |nil (X:List Nat) (h:∀i,i<ops.size->i∈X):lZ ops X []
 |cons {X:List Nat} {i:Nat} {l:List Nat} (o:Tu) (ho:ops[i]?=some o) (hn:i∉X) (hd:∀j∈cS o,j∈X) (h:lZ ops (i::X) l):lZ ops X (i::l)
theorem Hz{o:Tu}{j:Nat}:j∈cS o<->∃e∈o.after,Yt .any e=true/\e.on=j:=by
 unfold cS;rw[VZ];constructor
 ·rintro⟨e,he,h⟩
  split at h
  ·rename_i hb;cases h;exact⟨e,by simpa using he,hb,rfl⟩
  ·cases h
 ·rintro⟨e,he,hb,rfl⟩
  exact⟨e,by simpa using he,by rw[if_pos hb]⟩
theorem Qj{l:List Nat}{i:Nat}(hi:i∈l){p q:Nat->Bool}(nG:∀k,q k=true->p k=true)(hp:p i=true)(hq:q i=false):l.countP q<l.countP p:=by
 induction l with
 |nil=>cases hi
 |cons x l ih=>
  have hle:l.countP q<=l.countP p:=List.countP_mono_left λk _ h=>nG k h;rcases SK.1 hi with rfl|hi
  ·rw[WX (by simp[hq]),VX hp];omega
  ·have:=ih hi;by_cases hx:q x=true
   ·rw[VX hx,VX (nG x hx)];omega
   ·rw[WX hx];by_cases jI:p x=true
    ·rw[VX jI];omega
    ·rw[WX jI];exact this
structure Pe (ops:Array Tu)(L:Array Bool)(X:List Nat):Prop where
 size:L.size=ops.size
 mem:∀i,i<ops.size->(L[i]?=some true<->i∈X)
theorem aby{ops:Array Tu}(iw:∀(i:Nat) o,ops[i]?=some o->∀j∈cS o,j<i):∀(fuel t:Nat)(L:Array Bool)(X:List Nat),Pe ops L X->(SU ops.size).countP (λi=> !X.contains i)<=fuel->lZ ops X (UK .any ops fuel t L [])
 |0,t,L,X,hr,hc=>by
  simp only[UK,XY];refine .nil X λi hi=> ?_;have:(SU ops.size).countP (λi=> !X.contains i)=0:=by omega
  have:=List.countP_eq_zero.1 this i (by simpa using hi);simpa using this
 |fuel+1,t,L,X,hr,hc=>by
  have uY:∀i,i∈((SU ops.size).filter λi=> !L.getD i true&&((ops[i]?).map (·.after.all λe=> !Region.binds .any e||L.getD e.on false)).getD false)<->∃o,ops[i]?=some o/\i∉X/\∀j∈cS o,j∈X:=by
   intro i;simp only[Uq,Tx,Tl,T1];constructor
   ·rintro⟨hi,h1,h2⟩
    have ho:=SJ hi;refine⟨ops[i],ho,λhx=> ?_,λj hj=> ?_⟩
    ·have:=(hr.mem i hi).2 hx;rw[SH,this]at h1;cases h1
    ·obtain⟨e,he,hb,rfl⟩:=Hz.1 hj;rw[ho]at h2;simp only[UT,S0,UM]at h2;have:=h2 e he;rw[hb]at this;simp only[as_,Zy]at this;have hlt:e.on<ops.size:=Ws (iw i _ ho _ hj) hi;refine(hr.mem _ hlt).1 ?_;rw[SH]at this;cases hx:L[e.on]?with
     |none=>rw[hx]at this;cases this
     |some b=>rw[hx]at this;cases b;cases this;rfl
   ·rintro⟨o,ho,h1,h2⟩
    have hi:i<ops.size:=(SR.1 ho).1;refine⟨hi,?_,?_⟩
    ·rw[SH,SJ (by rw[hr.size];exact hi)];simp only[S0];cases hb:L[i]'(by rw[hr.size];exact hi)with
     |false=>rfl
     |true=>exact absurd ((hr.mem i hi).1 (by rw[SJ (by rw[hr.size];exact hi),hb])) h1
    ·rw[ho];simp only[UT,S0,UM];intro e he;cases hb:Yt .any e with
     |false=>rfl
     |true=>
      have hj:=Hz.2 ⟨e,he,hb,rfl⟩;have hlt:e.on<ops.size:=Ws (iw i _ ho _ hj) hi;have:=(hr.mem _ hlt).2 (h2 _ hj);simp[SH,this]
  simp only[UK];generalize Dz:((SU ops.size).filter λi=> !L.getD i true&&((ops[i]?).map (·.after.all λe=> !Region.binds .any e||L.getD e.on false)).getD false)=rs at uY;cases hi:rs[t % rs.length]?with
  |none=>
   have L1:rs=[]:=by
    cases rs with
    |nil=>rfl
    |cons x xs=>
     have hlt:t % (x::xs).length<(x::xs).length:=as' _ (by simp);rw[List.getElem?_eq_none_iff]at hi;omega
   simp only[XY];refine .nil X λi=> ?_;induction i using Yq with
   |_ i ih=>
    intro hlt;apply Tn;intro hx;have:i∈rs:=(uY i).2 ⟨ops[i],SJ hlt,hx,λj hj=>ih j (iw i _ (SJ hlt) j hj) (Ws (iw i _ (SJ hlt) j hj) hlt)⟩;rw[L1]at this;cases this
  |some i=>
   simp only[];obtain⟨o,ho,h1,h2⟩:=(uY i).1 (S_ hi);have hlt:i<ops.size:=(SR.1 ho).1;rw[linearise_go_acc,List.reverse_singleton,Y5];refine .cons o ho h1 h2 (aby iw fuel _ _ (i::X) ⟨by simp[hr.size],λk hk=> ?_⟩ ?_)
   ·by_cases rK:k=i
    ·subst rK;simp[Tb (by rw[hr.size];exact hlt)]
    ·rw[SV (Ne.symm rK),hr.mem k hk];simp[rK]
   ·have fF:i∈(SU ops.size):=(by simpa using hlt);have:(SU ops.size).countP (λk=> !(i::X).contains k)<(SU ops.size).countP (λk=> !X.contains k):=by
     exact Qj fF (λk hk=>by simp only[T1,Us,decide_eq_false_iff_not]at hk⊢;exactλh=>hk (Td _ h)) (by simpa using h1) (by simp)
    omega
end Go.Gg
