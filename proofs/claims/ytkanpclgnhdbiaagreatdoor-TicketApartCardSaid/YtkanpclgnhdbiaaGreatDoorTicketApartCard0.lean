/- A part of the proof. -/
import Derived.Conc.Own5
import Derived.Conc.Own4
import Derived.Conc.Own3
import Derived.Conc.Own2
import Derived.Conc.QuitsD
import Derived.Conc.Deaf
import Derived.Conc.CompanyDraw
import Derived.Conc.Comm2
import Derived.Conc.Beside
import Derived.Conc.Events
import Derived.Orders
set_option linter.all false
set_option maxRecDepth 4000
set_option maxHeartbeats 4000000
open Array renaming all_eq_true_iff_forall_mem->UQ,append_assoc->XA,empty_append->Xz,ext'->VJ,getD_eq_getD_getElem?->SH,getElem?_append_left->Yk,getElem?_append_right->Yh,getElem?_eq_getElem->SJ,getElem?_eq_some_iff->SS,getElem?_map->WI,getElem?_modify->Wn,getElem?_push->Xp,getElem?_push_lt->YG,getElem?_setIfInBounds_ne->SX,getElem?_setIfInBounds_self_of_lt->Tb,getElem_mem->X8,isEmpty_iff->Zr,mem_append->Uw,range->WO,replicate->TS,size_append->XL,toList_map->VQ
open BitVec renaming ofInt->Ul
open Bool renaming and_eq_true->Te,false_eq_true->TV,false_or->ZH,not_eq_true'->TZ,not_false->YM,not_true->aq_
open Classical renaming byContradiction->Tv
open Function renaming comp_def->YF
open Go renaming Addr->Vf,BinOp->Wd,Call->Xy,CallKind->Xm,Code->Uc,Event->Uu,Field->Y5,Frame->Ug,Func->YL,FuncId->TY,Goroutine->SG,IntKind->T8,Item->W1,LoopState->af',MapEntry->Wp,Oper->Tx,Operand->Tl,PanicEntry->Z5,Program->SI,ResultVar->UU,TypeInfo->Wo,Value->SP,World->Tq
open Go.Act renaming put->Yf
open Go.Addr renaming add->av8
open Go.Builtin renaming append_->VG,copy_->awh,delete_->awg,firstCells->VC,growBy->Zz,lenOf->awf,len_->Yu,nextslicecap->W_,zeroCells->Xt
open Go.CallKind renaming early->Vg
open Go.Conc renaming QuitsD->Zf,seen_none->ag_,served->Ua
open Go.Deferred renaming ofValue->Ve
open Go.Event renaming mute->WK
open Go.Frame renaming catches->Z7,oper?->YS,round->Xh
open Go.GStep renaming after->T_
open Go.Instr renaming checkKey->Vo,fill->ag2,findKey->VT,index->ab',indexAt->ZY,loadAt->XK,mapUpdate->ZF,sameBits->WF,slice->ab_,sliceAt->Ys,sliceBound->Zx,sliceBounds->Zn,storeAt->Yr,sureAddr->Vm,typeAssert->Zw
open Go.IntKind renaming bits->av4,i64->SD,signed->av3,wrap->Xk
open Go.Item renaming plain->ak'
open Go.MemAct renaming low_mono->Zv,ofEvent->Tt
open Go.Next renaming value->Xc
open Go.Obj renaming isChan->ao'
open Go.Op renaming equal->Xx,equalIn->VF,intArith->awc,intDiv->avR,shift->av2
open Go.Question renaming cut->ZE,forced->avX
open Go.Region renaming binds->Yz,schedule->VR,wanted->Tj
open Go.Region.linearise renaming go->UM
open Go.Sem renaming events_pure->ZV,runT->VN,runT_eq->TE,run_pure->af_
open Go.Value renaming bool->Xj,slice->TN,tuple->YQ
open Go.World renaming cell?->UC,frozen?->Z4,setCell->Xr
open Go.stepG renaming exec->Uj,oper->Zd
open Int renaming toNat_natCast->VK
open List renaming append_assoc->SC,append_nil->SN,contains_eq_mem->Ut,countP_cons_of_neg->WX,countP_cons_of_pos->VY,drop_drop->ar_,drop_eq_getElem_cons->T4,drop_zero->XJ,ext_getElem?->Yw,flatMap_cons->TW,foldl_cons->UV,getD_cons_zero->Xu,getD_eq_getElem?_getD->SE,getElem?_append_left->S0,getElem?_append_right->S_,getElem?_cons_succ->UR,getElem?_cons_zero->Vy,getElem?_drop->Us,getElem?_eq_getElem->SY,getElem?_eq_some_iff->SL,getElem?_map->Tp,getElem?_range->XH,getElem?_set_ne->Ud,getElem?_set_self->Xg,getElem?_take->Ui,getElem?_toArray->Vq,getElem_mem->Ww,length_append->SQ,length_cons->Un,length_drop->Ur,length_nil->UA,length_take->TC,mapM_cons->Uf,mapM_nil->UH,mapM_toArray->Yc,map_congr_left->VH,map_cons->U0,map_drop->an_,map_nil->ZU,mem_cons->SK,mem_cons_of_mem->Td,mem_cons_self->TF,mem_filter->Uz,mem_filterMap->V_,mem_iff_getElem?->UY,mem_of_getElem?->S6,mem_of_mem_take->VS,mem_range->TG,mem_toArray->TQ,not_mem_nil->SZ,range->SR,range'->Ub,range'_succ->VW,range_eq_range'->Vx,reverse_nil->X_,set_append_right->Ue,set_set->Xf,singleton_append->Y',take_length->Tn,take_take->Vd,take_zero->Zh
open Nat renaming add_assoc->U5,add_comm->aq',add_mul->Vr,add_zero->UJ,le_of_eq->WL,le_refl->SO,le_succ->Y_,le_trans->TL,lt_of_lt_of_le->Tg,lt_trans->Wr,min_le_left->ZT,mod_lt->avW,mul_le_mul->Z0,mul_le_mul_right->TM,mul_one->Y9,ne_of_lt->We,strongRecOn->Yv,sub_zero->Z',zero_add->Wv,zero_le->X9,zero_mul->ac'
open Option renaming bind_eq_bind->T1,bind_eq_some_iff->Th,getD_none->Vw,getD_some->S8,map_eq_some_iff->Ts,map_some->UW,pure_def->Um
open Option.some renaming inj->Wb,injEq->Tm
open Prod.mk renaming injEq->Vb
namespace Go.Gg
open Go.Conc
abbrev cC:=Nat->Nat->Option SP
abbrev Cz:=Nat->Option Obj
abbrev Spec:=SP->cC->Cz->Prop
inductive nm where
 |plain
 |fork (c Wg:Nat) (Ss:List (List Spec))
 |recv (c Wg:Nat) (Ss:List (List Spec))
 |work (c Wg:Nat) (S:List Spec)
def nm.group:nm->Option Nat
 |.fork _ Wg _=>some Wg
 |_=>none
def nm.chan:nm->Option Nat
 |.fork c _ _=>some c
 |_=>none
structure View where
 ah:cC
 own:Cz
 deaf:Nat
 role:nm
structure Sat (V:View)(w:Tq):Prop where
 ah:∀b o v,V.ah b o=some v->w.cell? ⟨b,o,none⟩=some v
 own:∀b x,V.own b=some x->w.heap[b]?=some x
def uE (V:View)(n:Nat)(a:Vf):Prop:=n<=a.block\/V.own a.block≠none\/V.ah a.block a.off≠none
def mO (V:View)(n:Nat)(a:Vf):Prop:=n<=a.block\/(V.own a.block≠none/\V.ah a.block a.off=none)
def nh (V:View)(n:Nat)(e:Uu):Prop:=
 match e with
 |⟨.cell a,false,s⟩=>uE V n a/\(s=true\/V.role.group≠some a.block)
 |⟨.cell a,true,s⟩=>mO V n a/\(s=true\/V.role.group≠some a.block)
 |⟨.obj r,_,s⟩=>(s=false/\(n<=r\/V.own r≠none))/\V.role.chan≠some r
 |⟨.mark (.read a),_,_⟩=>mO V n a
 |⟨.mark (.write a),_,_⟩=>mO V n a
 |⟨.mark .disable,_,s⟩=>s=true
 |⟨.mark .enable,_,s⟩=>s=true
 |⟨.mark .noRoom,_,_⟩=>True
 |_=>False
structure di (V:View)(w:Tq)(V':View)(w':Tq)(es:Array Uu):Prop where
 sat:Sat V' w'
 tape:w'.tape=w.tape
 os:w'.os=w.os
 output:w'.output=w.output
 size:w.heap.size<=w'.heap.size
 frame:∀b,b<w.heap.size->V.own b=none->w'.heap[b]?=w.heap[b]?
 own:∀b,b<w.heap.size->V.own b=none->V'.own b=none
 ah:∀b o v,V.ah b o=some v->V'.ah b o=some v
 kP:∀b o v,V'.ah b o=some v->V.ah b o=some v\/V.own b≠none\/w.heap.size<=b
 fq:∀e∈es,nh V w.heap.size e
 deaf:V'.deaf=deafBehind V.deaf es
 role:V'.role=V.role
 chan:∀c x,V.role.chan=some c->V.own c=some x->V'.own c=some x
 low:∀e∈es,(Tt e).low w'.heap.size
structure dY (V V':View):Prop where
 sat:∀w,Sat V w->Sat V' w
 own:∀b,V.own b=none->V'.own b=none
 ah:∀b o v,V.ah b o=some v->V'.ah b o=some v
 kP:∀b o v,V'.ah b o=some v->V.ah b o=some v\/V.own b≠none
 deaf:V'.deaf=V.deaf
 role:V'.role=V.role
 chan:∀c x,V.role.chan=some c->V.own c=some x->V'.own c=some x
theorem dY.refl(V:View):dY V V:=⟨λ_ h=>h,λ_ h=>h,λ_ _ _ h=>h,λ_ _ _ h=> .inl h,rfl,rfl,λ_ _ _ e=>e⟩
theorem dY.trans{V V' aU:View}(h:dY V V')(k:dY V' aU):dY V aU:=
 ⟨λw x=>k.sat w (h.sat w x),λb x=>k.own b (h.own b x),λb o v x=>k.ah b o v (h.ah b o v x),λb o v x=>(k.kP b o v x).elim (λy=>h.kP b o v y) (λy=> .inr λz=>y (h.own b z)),k.deaf.trans h.deaf,k.role.trans h.role,λc x e e'=>k.chan c x (by rw[h.role];exact e) (h.chan c x e e')⟩
theorem uE.sC{V V':View}(g:dY V V'){n:Nat}{a:Vf}(h:uE V' n a):uE V n a:=by
 rcases h with h|h|h
 ·exact .inl h
 ·exact .inr (.inl λe=>h (g.own _ e))
 ·cases e:V'.ah a.block a.off with
  |none=>exact absurd e h
  |some v=>exact(g.kP _ _ _ e).elim (λx=> .inr (.inr (by rw[x];simp))) (λx=> .inr (.inl x))
theorem mO.sC{V V':View}(g:dY V V'){n:Nat}{a:Vf}(h:mO V' n a):mO V n a:=by
 rcases h with h|⟨h,h'⟩
 ·exact .inl h
 ·refine .inr ⟨λe=>h (g.own _ e),?_⟩;cases e:V.ah a.block a.off with
  |none=>rfl
  |some v=>rw[g.ah _ _ _ e]at h';cases h'
theorem nh.sC{V V':View}(g:dY V V'){n:Nat}{e:Uu}(h:nh V' n e):nh V n e:=by
 unfold nh at h⊢;split at h
 ·exact⟨uE.sC g h.1,by rw[<- g.role];exact h.2⟩
 ·exact⟨mO.sC g h.1,by rw[<- g.role];exact h.2⟩
 ·exact⟨⟨h.1.1,h.1.2.imp id λx y=>x (g.own _ y)⟩,by rw[<- g.role];exact h.2⟩
 ·exact mO.sC g h
 ·exact mO.sC g h
 ·exact h
 ·exact h
 ·trivial
 ·exact h.elim
theorem di.sC{V V₁ V':View}{w w':Tq}{es:Array Uu}(g:dY V V₁)(h:di V₁ w V' w' es):di V w V' w' es:=
 ⟨h.sat,h.tape,h.os,h.output,h.size,λb hb e=>h.frame b hb (g.own b e),λb hb e=>h.own b hb (g.own b e),λb o v e=>h.ah b o v (g.ah b o v e),
  λb o v e=>(h.kP b o v e).elim (λx=>(g.kP b o v x).imp id .inl) (λx=> .inr (x.imp (λy z=>y (g.own b z)) id)),λe he=>nh.sC g (h.fq e he),by rw[h.deaf,g.deaf],h.role.trans g.role,λc x e e'=>h.chan c x (by rw[g.role];exact e) (g.chan c x e e'),h.low⟩
theorem di.ghost{V V' aU:View}{w w':Tq}{es:Array Uu}(h:di V w V' w' es)(g:dY V' aU):di V w aU w' es:=
 ⟨g.sat _ h.sat,h.tape,h.os,h.output,h.size,h.frame,λb hb e=>g.own b (h.own b hb e),λb o v e=>g.ah b o v (h.ah b o v e),
  λb o v e=>(g.kP b o v e).elim (λx=>h.kP b o v x) (λx=>by
   by_cases hb:b<w.heap.size
   ·exact .inr (.inl λy=>x (h.own b hb y))
   ·exact .inr (.inr (by omega))),h.fq,by rw[g.deaf,h.deaf],g.role.trans h.role,λc x e e'=>g.chan c x (by rw[h.role];exact e) (h.chan c x e e'),h.low⟩
theorem di.idle{V:View}{w:Tq}(h:Sat V w):di V w V w #[]:=
 ⟨h,rfl,rfl,rfl,SO _,λ_ _ _=>rfl,λ_ _ e=>e,λ_ _ _ e=>e,λ_ _ _ e=> .inl e,by simp,rfl,rfl,λ_ _ _ e=>e,by simp⟩
theorem Sat.drew{V:View}{w:Tq}(h:Sat V w)(d:Nat):Sat V {w with drawn:=d}:=⟨h.ah,h.own⟩
theorem di.draw{V:View}{w:Tq}(h:Sat V w)(d:Nat):di V w V {w with drawn:=d} #[]:=
 ⟨h.drew d,rfl,rfl,rfl,SO _,λ_ _ _=>rfl,λ_ _ e=>e,λ_ _ _ e=>e,λ_ _ _ e=> .inl e,by simp,rfl,rfl,λ_ _ _ e=>e,by simp⟩
def ec (Wg:Nat):Vf:=⟨Wg,0,none⟩
def pf (Wg:Nat):Vf:=⟨Wg,1,none⟩
def PJ (P : SI) : TypeId := ((P.types.findIdx? λi => match i.desc with | .named n _ => n == "sync.WaitGroup" | _ => false).getD 0)
def wgBlock (P:SI)(st sm:Int):Obj:=.cells #[.int .u64 st,.int .u32 sm] (PJ P)
def WgAt (P:SI)(Wg:Nat)(w:Tq)(st sm:Int):Prop:=w.heap[Wg]?=some (wgBlock P st sm)
def KK:Int:=4294967296
def jh (a:Vf):Uu:=⟨.cell a,false,true⟩
def lg (a:Vf):Uu:=⟨.cell a,true,true⟩
def j_ (m:Mark):Uu:=⟨.mark m,false,true⟩
def B0 (a:Vf):Array Uu:=#[j_ .disable,jh a,lg a,j_ .enable]
def cT (P:SI)(Stop:Nat->SG->Prop):Nat->Nat->SG->Prop
 |0,d,g=>Stop d g
 |n+1,d,g=>Stop d g\/(g.status=.running/\∃g' es,(∀e∈es,WK e=true)/\(∀w,stepG P false g w=.go g' w es)/\cT P Stop n (deafBehind d es) g')
def im (P:SI)(Wg:Nat)(Stop:Nat->SG->Prop):Nat->Nat->SG->Prop
 |0,d,g=>Stop d g
 |n+1,d,g=>Stop d g\/(g.status=.running/\∃g' es,(∀e∈es,WK e=true)/\(∀w x y,WgAt P Wg w x y->stepG P false g w=.go g' w es)/\im P Wg Stop n (deafBehind d es) g')
section
variable (P:SI)(Wg:Nat)
def FJ (d:Nat)(g:SG):Prop:=d=1/\g.status=.running/\mayWake P g=true/\∃g',(∀w,WgAt P Wg w 0 0->stepG P false g w=.go g' (w.setCell (pf Wg) (.int .u32 1)) (B0 (pf Wg)))/\∃q,Zf P q 1 g'
def FK (d:Nat)(g:SG):Prop:=d=1/\g.status=.running/\∃g',(∀w,WgAt P Wg w 1 0->stepG P false g w=.go g' (w.setCell (ec Wg) (.int .u64 0)) #[lg (ec Wg)])/\∃n,cT P (FJ P Wg) n 1 g'
def FI (d:Nat)(g:SG):Prop:=d=1/\g.status=.running/\∃g',(∀w,WgAt P Wg w 1 0->stepG P false g w=.go g' w #[jh (ec Wg)])/\∃n,cT P (FK P Wg) n 1 g'
def Cm (d:Nat)(g:SG):Prop:=d=1/\g.status=.running/\∀v wt:Nat,wt<=1->v<4->∃g',(∀w,WgAt P Wg w (((v+1:Nat):Int)* KK+wt) 0->stepG P false g w=.go g' (w.setCell (ec Wg) (.int .u64 ((v:Int)* KK+wt))) #[jh (ec Wg),lg (ec Wg)])/\
 ((v=0/\wt=1)->∃n,cT P (FI P Wg) n 1 g')/\(¬(v=0/\wt=1)->∃q,Zf P q 1 g')
def FQ (g:SG):Prop:=g.status=.running/\∃g',(∀w,stepG P false g w=.go g' w #[j_ (.releaseMerge (ec Wg))])/\∃n,cT P (Cm P Wg) n 0 g'
end
section
variable (P:SI)(Im:cC)(c Wg:Nat)
def Jv (d:Nat)(g:SG):Prop:=d=0/\g.status=.running/\mayWake P g=true/\∃g',(∀w s,w.heap[c]?=some (.chan 0 #[] false s s false)->stepG P false g w=.go g' {w with heap:=w.heap.setIfInBounds c (.chan 0 #[] true s s false)} #[⟨.obj c,false,true⟩,⟨.obj c,true,true⟩])/\∃q,Zf P q 0 g'
def Jx (d:Nat)(g:SG):Prop:=d=0/\g.status=.running/\∃b o x g',Im b o=some x/\(∀w,w.cell? ⟨b,o,none⟩=some x->stepG P false g w=.go g' w #[⟨.cell ⟨b,o,none⟩,false,false⟩])/\∃n,cT P (Jv P c) n 0 g'
def uA (d:Nat)(g:SG):Prop:=d=0/\g.status=.running/\∃g',(∀w,stepG P false g w=.go g' w #[j_ (.acquire (ec Wg))])/\∃n,cT P (Jx P Im c) n 0 g'
def Jw (d:Nat)(g:SG):Prop:=d=1/\g.status=.running/\∃g',(∀w,WgAt P Wg w 0 0->stepG P false g w=.go g' w #[jh (ec Wg)])/\∃n,im P Wg (uA P Im c Wg) n 1 g'
def FH (d:Nat)(g:SG):Prop:=d=1/\g.status=.running/\g.offers=none/\(∀w st,WgAt P Wg w st 0->stepG P false g w=.go {g with status:=.blocked} w #[])/\
 ∃g',(∀w,WgAt P Wg w 0 1->stepG P false g w=.go g' (w.setCell (pf Wg) (.int .u32 0)) (B0 (pf Wg)))/\∃n,cT P (Jw P Im c Wg) n 1 g'
def FG (d:Nat)(g:SG):Prop:=d=1/\g.status=.running/\∃g',(∀w,stepG P false g w=.go g' w #[j_ (.write (pf Wg))])/\∃n,cT P (FH P Im c Wg) n 1 g'
def eM:Nat->Nat->SG->Prop
 |0,_,_=>False
 |k+1,d,g=>d=1/\g.status=.running/\∀v:Nat,v<=k->v<=4->∃g',(∀w,WgAt P Wg w ((v:Int)* KK) 0->stepG P false g w=.go g' w #[jh (ec Wg)])/\(v=0->∃n,im P Wg (uA P Im c Wg) n 1 g')/\
  (v≠0->∃n,cT P (λd g=>d=1/\g.status=.running/\
   (∃g',(∀w,WgAt P Wg w ((v:Int)* KK) 0->stepG P false g w=.go g' (w.setCell (ec Wg) (.int .u64 ((v:Int)* KK+1))) #[jh (ec Wg),lg (ec Wg)])/\∃n,im P Wg (FG P Im c Wg) n 1 g')/\
   (∀u:Nat,u<v->∃g',(∀w,WgAt P Wg w ((u:Int)* KK) 0->stepG P false g w=.go g' w #[jh (ec Wg)])/\∃n,cT P (eM v) n 1 g')) n 1 g')
 termination_by k _ _=>k
def Jy (g:SG):Prop:=∃n,cT P (eM P Im c Wg 5) n 0 g
end
structure z_ (P:SI)(main:Bool)(J:View->SG->Prop):Prop where
 step:∀V g,g.status=.running->(∀w,Sat V w->∃g' w' es V',stepG P main g w=.go g' w' es/\di V w V' w' es/\J V' g')->J V g
 ghost:∀V V' g,dY V V'->J V' g->J V g
 send:∀V g c Wg sp S v z (B:Nat->Bool),V.role=.work c Wg (sp::S)->V.deaf=0->g.status=.running->g.offers=none->
  (∀w,Sat V w->stepG P main g w=.comm g #[scase c v z] true .send w #[])->sp v V.ah (λb=>if B b then V.own b else none)->
  J {V with own:=λb=>if B b then none else V.own b,role:=.work c Wg S} (Ua g undef)->J V g
 done:∀V g c Wg,V.role=.work c Wg []->V.deaf=0->FQ P Wg g->J V g
 slip:∀V g g' c Wg,V.role=.work c Wg []->g.status=.running->(∀w st,Sat V w->WgAt P Wg w st 0->stepG P main g w=.go g' w #[])->J V g'->J V g
structure ae9 (P:SI)(main:Bool)(J:View->SG->Prop):Prop where
 start:∀V g c Wg,V.role=.plain->c≠Wg->V.own c=some (.chan 0 #[] false 0 0 false)->V.own Wg≠none->(∀o,V.ah Wg o=none)->J {V with role:=.fork c Wg []} g->J V g
 GC:∀V g g' child c Wg Ss sp S,V.role=.fork c Wg Ss->V.deaf=0->g.status=.running->V.own c=some (.chan 0 #[] false 0 0 false)->V.own Wg=some (wgBlock P (((Ss.length+1:Nat):Int)* 4294967296) 0)->Ss.length<4->(∀o,V.ah Wg o=none)->
  (∀w,Sat V w->stepG P main g w=.spawn g' child w #[])->child.status=.running->
  (∀J0,z_ P false J0->J0 {ah:=V.ah,own:=λ_=>none,deaf:=0,role:=.work c Wg (sp::S)} child)->
  J {V with role:=.fork c Wg (Ss++[sp::S])} g'->J V g
 GB:∀V g g' child c Wg Ss,V.role=.fork c Wg Ss->V.deaf=0->g.status=.running->c≠Wg->V.own c=some (.chan 0 #[] false 0 0 false)->V.own Wg=some (wgBlock P (((Ss.length:Nat):Int)* 4294967296) 0)->(∀o,V.ah c o=none)->(∀o,V.ah Wg o=none)->
  (∀w,Sat V w->stepG P main g w=.spawn g' child w #[])->child.status=.running->Jy P V.ah c Wg child->
  J {V with own:=λb=>if b=c\/b=Wg then none else V.own b,role:=.recv c Wg Ss} g'->J V g
 recv:∀V g c Wg Ss z,V.role=.recv c Wg Ss->V.deaf=0->g.status=.running->g.offers=none->
  (∀w,Sat V w->stepG P main g w=.comm g #[rcase c z] true (.recv true) w #[])->
  (∀i sp S v Im Ow,Ss[i]?=some (sp::S)->sp v Im Ow->(∀b,V.own b≠none->Ow b=none)->(∀b o,V.own b≠none->Im b o≠none->V.ah b o≠none)->(∃w,Sat V w/\(∀b o x,Im b o=some x->w.cell? ⟨b,o,none⟩=some x)/\∀b x,Ow b=some x->w.heap[b]?=some x)->
   J {V with ah:=λb o=>match V.ah b o with|some x=>some x|none=>Im b o,own:=λb=>match V.own b with|some x=>some x|none=>Ow b,role:=.recv c Wg (Ss.set i S)} (Ua g (.tuple #[v,.bool true])))->
  ((∀S∈Ss,S=[])->J {V with role:=.plain} (Ua g (.tuple #[z,.bool false])))->J V g
structure Closed (lv:Bool)(P:SI)(main:Bool)(J:View->SG->Prop):Prop extends z_ P main J where
 more:lv=true->ae9 P main J
theorem Closed.idle{lv:Bool}{P:SI}{main:Bool}{J:View->SG->Prop}(C:Closed lv P main J){V:View}{g g':SG}(hs:g.status=.running)(h:∀w,stepG P main g w=.go g' w #[]) (hJ:J V g'):J V g:=
 C.step V g hs λw hw=>⟨g',w,#[],V,h w,.idle hw,hJ⟩
def on (b:Ug)(a:Act)(todo:List W1):Ug:={b with tmps:=a.tmps,todo,defers:=a.defers,mode:=.run}
inductive Ex where
 |normal
 |exit (id:Nat)
 |goto (l:Nat)
 |ret
 |panic (chain:List Z5)
def qi (J:View->SG->Prop)(b:Ug)(cs:List Ug)(a:Act)(V:View)(x:Uc)(to:List W1->Option (List W1))(k:List W1):Prop:=
 (∃k',to k=some k'/\J V (G (on b a k') cs))\/(to k=none/\∀k2,to k2=none->J V (G (on b a (.code x::k2)) cs))
theorem qi.under{J:View->SG->Prop}{b:Ug}{cs:List Ug}{a:Act}{V:View}{x:Uc}{to:List W1->Option (List W1)}{k k2:List W1}(h:qi J b cs a V x to k)(e:to k2=to k):qi J b cs a V x to k2:=by
 rcases h with⟨k',h1,h2⟩|⟨h1,h2⟩
 ·exact .inl ⟨k',e.trans h1,h2⟩
 ·exact .inr ⟨e.trans h1,h2⟩
def acz:List W1->Bool
 |.call .. ::_=>false
 |_=>true
def wm (J:View->SG->Prop)(b:Ug)(k:List W1)(cs:List Ug):Ex->Act->View->Prop
 |.normal,a,V=>J V (G (on b a k) cs)
 |.exit id,a,V=>qi J b cs a V (.exit id) (exitTo id) k
 |.goto l,a,V=>qi J b cs a V (.goto l) (gotoIn l) k
 |.ret,a,V=>∀k,J V (G (on b a (.code .ret::k)) cs)
 |.panic chain,a,V=>∀todo,acz todo=true->J V (G {on b a todo with mode:=.panicking chain} cs)
def WP (lv:Bool)(P:SI)(r:Option Nat)(c:Uc)(Q:Ex->Act->View->Prop)(a:Act)(V:View):Prop:=
 ∀(main:Bool)(J:View->SG->Prop),Closed lv P main J->∀(b:Ug)(k:List W1)(cs:List Ug),b.kind≠ .early->b.roundOf=r->
  (∀e a' V',Q e a' V'->wm J b k cs e a' V')->J V (G (on b a (.code c::k)) cs)
section steps
variable {P:SI}{main:Bool}{b:Ug}{a:Act}{k:List W1}{cs:List Ug}{w:Tq}
theorem arG:stepG P main (G (on b a (.code .skip::k)) cs) w=.go (G (on b a k) cs) w #[]:=by simp[G,stepG,Uj,on]
theorem arA{l:Nat}:stepG P main (G (on b a (.code (.label l)::k)) cs) w=.go (G (on b a k) cs) w #[]:=by simp[G,stepG,Uj,on]
theorem arx{id:Nat}:stepG P main (G (on b a (.inBlock id::k)) cs) w=.go (G (on b a k) cs) w #[]:=by simp[G,stepG,Uj,on]
theorem arz{c:Uc}:stepG P main (G (on b a (.inScope c::k)) cs) w=.go (G (on b a k) cs) w #[]:=by simp[G,stepG,Uj,on]
theorem adv{x y:Uc}:stepG P main (G (on b a (.code (.seq x y)::k)) cs) w=.go (G (on b a (.code x:: .code y::k)) cs) w #[]:=by simp[G,stepG,Uj,on]
theorem Iz(b:Ug)(a:Act)(todo:List W1)(x:Tl):(on b a todo).eval x=a.eval x:=by cases x<;>rfl
theorem apy(b:Ug)(a:Act)(todo:List W1):(on b a todo).eval=a.eval:=funext (Iz b a todo)
theorem s_cond{c:Tl}{x y:Uc}{t:Bool}(h:a.eval c=.bool t):
  stepG P main (G (on b a (.code (.cond c x y)::k)) cs) w=.go (G (on b a (.code (if t then x else y)::k)) cs) w #[]:=by
 have h':(on b a (.code (.cond c x y)::k)).eval c=.bool t:=by rw[Iz];exact h
 simp only[on]at h';simp[G,stepG,Uj,on,h']
theorem aru{id:Nat}{c:Uc}:stepG P main (G (on b a (.code (.block id c)::k)) cs) w=.go (G (on b a (.code c:: .inBlock id::k)) cs) w #[]:=by simp[G,stepG,Uj,on]
theorem arF{c:Uc}:stepG P main (G (on b a (.code (.scope c)::k)) cs) w=.go (G (on b a (.code c:: .inScope c::k)) cs) w #[]:=by simp[G,stepG,Uj,on]
theorem arB{c:Uc}:stepG P main (G (on b a (.code (.loop c)::k)) cs) w=.go (G (on b a (.code c:: .inLoop c::k)) cs) w #[]:=by simp[G,stepG,Uj,on]
theorem ary{c:Uc}:stepG P main (G (on b a (.inLoop c::k)) cs) w=.go (G (on b a (.code c:: .inLoop c::k)) cs) w #[]:=by simp[G,stepG,Uj,on]
theorem s_exit{id:Nat}{k':List W1}(h:exitTo id k=some k'):stepG P main (G (on b a (.code (.exit id)::k)) cs) w=.go (G (on b a k') cs) w #[]:=by simp[G,stepG,Uj,on,h]
theorem arw{l:Nat}{k':List W1}(h:gotoIn l k=some k'):stepG P main (G (on b a (.code (.goto l)::k)) cs) w=.go (G (on b a k') cs) w #[]:=by simp[G,stepG,Uj,on,h]
theorem adu{id:Nat}{ops:Array Tx}:stepG P main (G (on b a (.code (.region id ops false)::k)) cs) w=.go (G (on b a (.inRegion ops (SR ops.size)::k)) cs) w #[]:=by simp[G,stepG,Uj,on]
theorem arv{id:Nat}{ops:Array Tx}:stepG P main (G (on b a (.code (.region id ops true)::k)) cs) w=
  .go (G (on b a (.inRegion ops (VR (P.follows .mixedOrders) ops (w.tape w.drawn (.order b.fn id)))::k)) cs) {w with drawn:=w.drawn+1} #[]:=by
 simp[G,stepG,Uj,on,choose,Sem.run,avX,ZE]
theorem arE{ops:Array Tx}:stepG P main (G (on b a (.inRegion ops []::k)) cs) w=.go (G (on b a k) cs) w #[]:=by simp[G,stepG,Uj,on]
theorem Ff(h:b.roundOf=none):stepG P main (G (on b a (.code .ret::k)) cs) w=.go (G {on b a (.code .ret::k)with mode:=.returning} cs) w #[]:=by simp[G,stepG,Uj,on,h]
theorem Fe(h:b.roundOf=none):stepG P main (G (on b a []) cs) w=.go (G {on b a []with mode:=.returning} cs) w #[]:=by simp[G,stepG,Uj,on,h]
end steps
section rules
variable {lv:Bool}{P:SI}{r:Option Nat}{Q:Ex->Act->View->Prop}{a:Act}{V:View}
theorem WP.mono{c:Uc}{Q':Ex->Act->View->Prop}(h:WP lv P r c Q a V)(hq:∀e a V,Q e a V->Q' e a V):WP lv P r c Q' a V:=
 λmain J C b k cs hb hr hL=>h main J C b k cs hb hr λe a' V' q=>hL e a' V' (hq _ _ _ q)
theorem WP.ghost{c:Uc}{V':View}(g:dY V V')(h:WP lv P r c Q a V'):WP lv P r c Q a V:=
 λmain J C b k cs hb hr hL=>C.ghost _ _ _ g (h main J C b k cs hb hr hL)
theorem wp_skip(h:Q .normal a V):WP lv P r .skip Q a V:=λ_ _ C _ _ _ _ _ hL=>C.idle rfl (λ_=>arG) (hL _ _ _ h)
theorem wp_label{l:Nat}(h:Q .normal a V):WP lv P r (.label l) Q a V:=λ_ _ C _ _ _ _ _ hL=>C.idle rfl (λ_=>arA) (hL _ _ _ h)
theorem abQ{main:Bool}{J:View->SG->Prop}(C:Closed lv P main J){b:Ug}{cs:List Ug}{a:Act}{V:View}{id:Nat}{k:List W1}(h:qi J b cs a V (.exit id) (exitTo id) k):J V (G (on b a (.code (.exit id)::k)) cs):=
 h.elim (λ⟨_,hk,hJ⟩=>C.idle rfl (λ_=>s_exit hk) hJ) (λ⟨hk,hJ⟩=>hJ k hk)
theorem anA{main:Bool}{J:View->SG->Prop}(C:Closed lv P main J){b:Ug}{cs:List Ug}{a:Act}{V:View}{l:Nat}{k:List W1}(h:qi J b cs a V (.goto l) (gotoIn l) k):J V (G (on b a (.code (.goto l)::k)) cs):=
 h.elim (λ⟨_,hk,hJ⟩=>C.idle rfl (λ_=>arw hk) hJ) (λ⟨hk,hJ⟩=>hJ k hk)
theorem wp_exit{id:Nat}(h:Q (.exit id) a V):WP lv P r (.exit id) Q a V:=λ_ _ C _ _ _ _ _ hL=>abQ C (hL _ _ _ h)
theorem wp_ret(h:Q .ret a V):WP lv P r .ret Q a V:=λ_ _ _ _ k _ _ _ hL=>hL _ _ _ h k
def Ex.then (next:Act->View->Prop)(Q:Ex->Act->View->Prop):Ex->Act->View->Prop
 |.normal,a,V=>next a V
 |e,a,V=>Q e a V
theorem wm.under{J:View->SG->Prop}{b:Ug}{k:List W1}{cs:List Ug}{x:W1}(hx:x.plain=true){e:Ex}(he:e≠ .normal){a:Act}{V:View}(h:wm J b k cs e a V):wm J b (x::k) cs e a V:=by
 cases e with
 |normal=>exact absurd rfl he
 |exit id=>exact qi.under h (by cases x<;>simp_all[exitTo,ak'])
 |goto l=>exact qi.under h (by cases x<;>simp_all[gotoIn,ak'])
 |ret=>exact h
 |panic ch=>exact h
theorem wp_seq{x y:Uc}(h:WP lv P r x (Ex.then (WP lv P r y Q) Q) a V):WP lv P r (.seq x y) Q a V:=by
 intro main J C b k cs hb hr hL;refine C.idle rfl (λ_=>adv) (h main J C b (.code y::k) cs hb hr λe a' V' q=> ?_);cases e with
 |normal=>exact q main J C b k cs hb hr hL
 |exit id=>exact(hL _ _ _ q).under rfl (by simp)
 |goto l=>exact(hL _ _ _ q).under rfl (by simp)
 |ret=>exact(hL _ _ _ q).under rfl (by simp)
 |panic ch=>exact(hL _ _ _ q).under rfl (by simp)
theorem wp_cond{c:Tl}{x y:Uc}{t:Bool}(hc:a.eval c=.bool t)(h:WP lv P r (if t then x else y) Q a V):WP lv P r (.cond c x y) Q a V:=
 λmain J C b k cs hb hr hL=>C.idle rfl (λ_=>s_cond hc) (h main J C b k cs hb hr hL)
def Ex.inBlock (id:Nat)(Q:Ex->Act->View->Prop):Ex->Act->View->Prop
 |.exit o0,a,V=>if o0=id then Q .normal a V else Q (.exit o0) a V
 |e,a,V=>Q e a V
theorem wp_block{id:Nat}{c:Uc}(h:WP lv P r c (Ex.inBlock id Q) a V):WP lv P r (.block id c) Q a V:=by
 intro main J C b k cs hb hr hL;refine C.idle rfl (λ_=>aru) (h main J C b (.inBlock id::k) cs hb hr λe a' V' q=> ?_);cases e with
 |normal=>exact C.idle rfl (λ_=>arx) (hL _ _ _ q)
 |exit o0=>
  by_cases cg:o0=id
  ·simp only[Ex.inBlock,cg,if_true]at q;exact .inl ⟨k,by simp[exitTo,cg],hL _ _ _ q⟩
  ·simp only[Ex.inBlock,cg,if_false]at q;have:(id==o0)=false:=(by simp;exactλh=>cg h.symm);exact qi.under (hL _ _ _ q) (by simp[exitTo,this])
 |goto l=>exact qi.under (hL _ _ _ q) (by simp[gotoIn])
 |ret=>exact hL _ _ _ q
 |panic ch=>exact hL _ _ _ q
theorem PP{α:Type}{lt:α->α->Prop}(wf:WellFounded lt){c:Uc}(I:α->Act->View->Prop)(m:α)(h₀:I m a V)
  (round:∀m a V,I m a V->WP lv P r c (Ex.then (λa' V'=>∃m',lt m' m/\I m' a' V') Q) a V):WP lv P r (.loop c) Q a V:=by
 intro main J C b k cs hb hr hL;have key:∀m a V,I m a V->J V (G (on b a (.code c:: .inLoop c::k)) cs):=by
  intro m;induction m using wf.induction with
  |_ m ih=>
   intro a V hI;refine round m a V hI main J C b (.inLoop c::k) cs hb hr λe a' V' q=> ?_;cases e with
   |normal=>obtain⟨m',hlt,hI'⟩:=q;exact C.idle rfl (λ_=>ary) (ih m' hlt a' V' hI')
   |exit id=>exact(hL _ _ _ q).under rfl (by simp)
   |goto l=>exact(hL _ _ _ q).under rfl (by simp)
   |ret=>exact(hL _ _ _ q).under rfl (by simp)
   |panic ch=>exact(hL _ _ _ q).under rfl (by simp)
 exact C.idle rfl (λ_=>arB) (key m a V h₀)
theorem wp_loop{c:Uc}(I:Nat->Act->View->Prop)(m:Nat)(h₀:I m a V)
  (round:∀m a V,I m a V->WP lv P r c (Ex.then (λa' V'=>∃m',m'<m/\I m' a' V') Q) a V):WP lv P r (.loop c) Q a V:=
 PP Nat.lt_wfRel.wf I m h₀ round
theorem ae2{c:Uc}(I:Nat->Nat->Act->View->Prop)
  (start:∃n:Nat,WP lv P r c (λe a V=>match e with
   |.goto l=>∃rest,findLabel c l=some rest/\∃m,m<n/\I l m a V
   |e=>Q e a V) a V)
  (back:∀l rest m a V,findLabel c l=some rest->I l m a V->WP lv P r rest (λe a V=>match e with
   |.goto l'=>∃zK,findLabel c l'=some zK/\∃m',m'<m/\I l' m' a V
   |e=>Q e a V) a V):WP lv P r (.scope c) Q a V:=by
 intro main J C b k cs hb hr hL;have land:∀(n:Nat),(∀l rest m a V,m<n->findLabel c l=some rest->I l m a V->J V (G (on b a (.code rest:: .inScope c::k)) cs))->
   ∀e a' V',(match e with
   |.goto l=>∃rest,findLabel c l=some rest/\∃m,m<n/\I l m a' V'
   |e=>Q e a' V')->wm J b (.inScope c::k) cs e a' V':=by
  intro n hn e a' V' q;cases e with
  |normal=>exact C.idle rfl (λ_=>arz) (hL _ _ _ q)
  |exit id=>exact qi.under (hL _ _ _ q) (by simp[exitTo])
  |goto l=>
   obtain⟨rest,hf,m,hm,hI⟩:=q;exact .inl ⟨_,by simp[gotoIn,hf],hn l rest m a' V' hm hf hI⟩
  |ret=>exact hL _ _ _ q
  |panic ch=>exact hL _ _ _ q
 have key:∀n l rest m a V,m<n->findLabel c l=some rest->I l m a V->J V (G (on b a (.code rest:: .inScope c::k)) cs):=by
  intro n;induction n with
  |zero=>intro _ _ _ _ _ h;omega
  |succ n ih=>
   intro l rest m a V hm hf hI;exact back l rest m a V hf hI main J C b (.inScope c::k) cs hb hr (land m λl' zK m' a' V' h'=>ih l' zK m' a' V' (by omega))
 obtain⟨n,hn⟩:=start;exact C.idle rfl (λ_=>arF) (hn main J C b (.inScope c::k) cs hb hr (land n (key n)))
end rules
open Go.Conc
def View.get (V:View)(b o:Nat):Option SP:=
 match V.ah b o with
 |some v=>some v
 |none=>match V.own b with
  |some (.cells c _ _)=>c[o]?
  |_=>none
def View.upd (V:View)(b:Nat)(x:Obj):View:={V with own:=λb'=>if b'=b then some x else V.own b'}
def View.fresh (V:View)(b:Nat):Prop:=V.own b=none/\∀o,V.ah b o=none
theorem Sat.get{V:View}{w:Tq}(h:Sat V w){b o:Nat}{v:SP}(e:V.get b o=some v):w.cell? ⟨b,o,none⟩=some v:=by
 unfold View.get at e;split at e
 ·rename_i v' hv;cases e;exact h.ah _ _ _ hv
 ·split at e
  ·rename_i c el f ho;have:=h.own _ _ ho;simpa[UC,this]using e
  ·cases e
theorem Sat.lt{V:View}{w:Tq}(h:Sat V w){b:Nat}{x:Obj}(e:V.own b=some x):b<w.heap.size:=by
 have:=h.own _ _ e;exact(SS.1 this).1
theorem Sat.Ey{V:View}{w:Tq}(h:Sat V w){b o:Nat}{v:SP}(e:V.ah b o=some v):b<w.heap.size:=by
 have:=h.ah _ _ _ e;unfold UC at this;split at this
 ·rename_i hh;exact(SS.1 hh).1
 ·cases this
theorem Sat.fresh{V:View}{w:Tq}(h:Sat V w){b:Nat}(hb:w.heap.size<=b):V.fresh b:=
 ⟨by cases e:V.own b with
  |none=>rfl
  |some x=>have:=h.lt e;omega,λo=>by
  cases e:V.ah b o with
  |none=>rfl
  |some x=>have:=h.Ey e;omega⟩
theorem Sat.eW{V:View}{w:Tq}(h:Sat V w){b o:Nat}{v:SP}(e:V.get b o=some v):b<w.heap.size:=by
 have:=h.get e;unfold UC at this;split at this
 ·rename_i hh;exact(SS.1 hh).1
 ·cases this
theorem uE.zD{V V₁:View}{w w₁:Tq}{es:Array Uu}(s:di V w V₁ w₁ es){a:Vf}(h:uE V₁ w₁.heap.size a):uE V w.heap.size a:=by
 rcases h with h|h|h
 ·exact .inl (TL s.size h)
 ·by_cases hb:a.block<w.heap.size
  ·exact .inr (.inl λe=>h (s.own _ hb e))
  ·exact .inl (by omega)
 ·cases e:V₁.ah a.block a.off with
  |none=>exact absurd e h
  |some v=>
   rcases s.kP _ _ _ e with x|x|x
   ·exact .inr (.inr (by rw[x];simp))
   ·exact .inr (.inl x)
   ·exact .inl x
theorem mO.zD{V V₁:View}{w w₁:Tq}{es:Array Uu}(s:di V w V₁ w₁ es){a:Vf}(h:mO V₁ w₁.heap.size a):mO V w.heap.size a:=by
 rcases h with h|⟨h,h'⟩
 ·exact .inl (TL s.size h)
 ·by_cases hb:a.block<w.heap.size
  ·refine .inr ⟨λe=>h (s.own _ hb e),?_⟩;cases e:V.ah a.block a.off with
   |none=>rfl
   |some v=>rw[s.ah _ _ _ e]at h';cases h'
  ·exact .inl (by omega)
theorem nh.zD{V V₁:View}{w w₁:Tq}{es:Array Uu}(s:di V w V₁ w₁ es){e:Uu}(h:nh V₁ w₁.heap.size e):nh V w.heap.size e:=by
 unfold nh at h⊢;split at h
 ·exact⟨uE.zD s h.1,by rw[<- s.role];exact h.2⟩
 ·exact⟨mO.zD s h.1,by rw[<- s.role];exact h.2⟩
 ·refine⟨⟨h.1.1,?_⟩,by rw[<- s.role];exact h.2⟩;rename_i r _ _;rcases h.1.2 with x|x
  ·exact .inl (TL s.size x)
  ·by_cases hb:r<w.heap.size
   ·exact .inr λy=>x (s.own _ hb y)
   ·exact .inl (by omega)
 ·exact mO.zD s h
 ·exact mO.zD s h
 ·exact h
 ·exact h
 ·trivial
 ·exact h.elim
theorem Kk(d:Nat)(x y:Array Uu):deafBehind d (x++y)=deafBehind (deafBehind d x) y:=by
 simp[deafBehind]
theorem di.trans{V V₁ V₂:View}{w w₁ w₂:Tq}{es uS:Array Uu}(s:di V w V₁ w₁ es)(s':di V₁ w₁ V₂ w₂ uS):di V w V₂ w₂ (es++uS):=
 ⟨s'.sat,s'.tape.trans s.tape,s'.os.trans s.os,s'.output.trans s.output,TL s.size s'.size,
  λb hb e=>(s'.frame b (Tg hb s.size) (s.own b hb e)).trans (s.frame b hb e),λb hb e=>s'.own b (Tg hb s.size) (s.own b hb e),
  λb o v e=>s'.ah b o v (s.ah b o v e),λb o v e=>by
   rcases s'.kP b o v e with x|x|x
   ·exact s.kP b o v x
   ·by_cases hb:b<w.heap.size
    ·exact .inr (.inl λy=>x (s.own b hb y))
    ·exact .inr (.inr (by omega))
   ·exact .inr (.inr (TL s.size x)),
  λe he=>(Uw.1 he).elim (s.fq e) (λh=>(s'.fq e h).zD s),by rw[s'.deaf,s.deaf,Kk],s'.role.trans s.role,λc x e e'=>s'.chan c x (by rw[s.role];exact e) (s.chan c x e e'),
  λe he=>(Uw.1 he).elim (λx=>Zv s'.size (s.low e x)) (s'.low e)⟩
def fM (es:Array Uu):Array Uu:=es.filter λe=>match e.loc with|.mark (.extern _)=>false|_=>true
def aS (P:SI){α:Type}(V:View)(s:Sem α)(K:α->View->Prop)(Kp:SP->View->Prop):Prop:=
 ∀w,Sat V w->∀e9,∃es w' V',di V w V' w' (fM es)/\
  ((∃x,s.runT P w e9=(.ok x w',e9++es)/\K x V')\/(∃v,s.runT P w e9=(.halt (.panic v) w',e9++es)/\Kp v V'))
section
variable {P:SI}{α β:Type}{V:View}{K:α->View->Prop}{Kp:SP->View->Prop}
theorem Ot(x y:Array Uu):fM (x++y)=fM x++fM y:=by simp[fM]
theorem aS.mono{s:Sem α}{K':α->View->Prop}{P3:SP->View->Prop}(h:aS P V s K Kp)(hk:∀x V,K x V->K' x V)(hp:∀x V,Kp x V->P3 x V):aS P V s K' P3:=λw hw e9=>
 let⟨es,w',V',h1,h2⟩:=h w hw e9
 ⟨es,w',V',h1,h2.imp (λ⟨x,a,b⟩=>⟨x,a,hk _ _ b⟩) (λ⟨x,a,b⟩=>⟨x,a,hp _ _ b⟩)⟩
theorem aS.ghost{s:Sem α}{V':View}(g:dY V V')(h:aS P V' s K Kp):aS P V s K Kp:=λw hw e9=>
 let⟨es,w',V',h1,h2⟩:=h w (g.sat w hw) e9
 ⟨es,w',V',h1.sC g,h2⟩
theorem aS.cont{s:Sem α}(h:∀w,Sat V w->∃es w' V' s',di V w V' w' (fM es)/\(∀e9,s.runT P w e9=s'.runT P w' (e9++es))/\aS P V' s' K Kp):aS P V s K Kp:=by
 intro w hw e9;obtain⟨es,w',V',s',h1,h2,h3⟩:=h w hw;obtain⟨uS,PI,aU,h4,h5⟩:=h3 w' h1.sat (e9++es);refine⟨es++uS,PI,aU,by rw[Ot];exact h1.trans h4,?_⟩;rw[h2,<- XA];exact h5
theorem cJ{x:α}(h:K x V):aS P V (.pure x) K Kp:=λw hw e9=>⟨#[],w,V,by simpa[fM]using di.idle hw,.inl ⟨x,by simp[-TE,VN],h⟩⟩
theorem au{x:α}(h:K x V):aS P V (pure x) K Kp:=cJ h
theorem arY{v:SP}(h:Kp v V):aS P V (.halt (.panic v):Sem α) K Kp:=λw hw e9=>⟨#[],w,V,by simpa[fM]using di.idle hw,.inr ⟨v,by simp[-TE,VN],h⟩⟩
theorem ul{e:Uu}(h:∀f,e.loc≠ .mark (.extern f)):fM #[e]=#[e]:=by
 unfold fM;have:(match e.loc with|.mark (.extern _)=>false|_=>true)=true:=by
  split
  ·rename_i f hf;exact absurd hf (h f)
  ·rfl
 simp[Array.filter]
theorem Rd(d:Nat)(a:Vf)(wr s:Bool):deafBehind d #[⟨.cell a,wr,s⟩]=d:=by simp[deafBehind]
theorem Re(d:Nat)(a:Nat)(wr s:Bool):deafBehind d #[⟨.obj a,wr,s⟩]=d:=by simp[deafBehind]
theorem Pc{m:Mode}{b o:Nat}{v:SP}{k:SP->Sem α}(e:V.get b o=some v)(kv:V.role.group≠some b\/m=.atomic)(h:aS P V (k v) K Kp):aS P V (.load m ⟨b,o,none⟩ k) K Kp:=by
 refine .cont λw hw=>⟨#[⟨.cell ⟨b,o,none⟩,false,m== .atomic⟩],w,V,k v,?_,λe9=> ?_,h⟩
 ·rw[ul (by simp)];refine⟨hw,rfl,rfl,rfl,SO _,λ_ _ _=>rfl,λ_ _ e=>e,λ_ _ _ e=>e,λ_ _ _ e=> .inl e,λev cm=> ?_,by rw[Rd],rfl,λ_ _ _ e=>e,λev cm=>by simp at cm;subst cm;exact hw.eW e⟩;simp only[TQ,SK,SZ,or_false]at cm;subst cm;refine⟨.inr ?_,kv.elim .inr (λx=> .inl (by subst x;rfl))⟩;show V.own b≠none\/V.ah b o≠none;unfold View.get at e;split at e
  ·rename_i hv;exact .inr (by rw[hv];simp)
  ·split at e
   ·rename_i hv;exact .inl (by rw[hv];simp)
   ·cases e
 ·simp[-TE,VN,hw.get e]
def _root_.Go.Value.one:SP->Bool
 |.agg _|.tuple _=>false
 |_=>true
theorem Sat.aeS{V:View}{w:Tq}(h:Sat V w){b o:Nat}{v:SP}{c:Array SP}{el:TypeId}{f:Nat×Nat}(ho:V.own b=some (.cells c el f))(hi:V.ah b o=none):
  Sat (V.upd b (.cells (c.setIfInBounds o v) el f)) (w.setCell ⟨b,o,none⟩ v):=by
 have hb:=h.own _ _ ho;have hlt:=h.lt ho;have hm:(w.setCell ⟨b,o,none⟩ v).heap=w.heap.setIfInBounds b (.cells (c.setIfInBounds o v) el f):=by
  unfold Xr;apply Array.ext_getElem?;intro i;by_cases cE:b=i
  ·subst cE;rw[Wn,Tb hlt];simp[hb]
  ·simp[Wn,cE,SX cE]
 refine⟨λb' o' v' e=> ?_,λb' x e=> ?_⟩
 ·have:=h.ah _ _ _ e;simp only[View.upd]at e;by_cases A1:b=b'
  ·subst A1;have Bh:o≠o':=(by intro x;subst x;rw[hi]at e;cases e);simp only[UC,hb]at this;simp only[UC,hm,Tb hlt,SX Bh];exact this
  ·simp only[UC,hm,SX A1];exact this
 ·simp only[View.upd]at e;rw[hm];by_cases A1:b'=b
  ·subst A1;simp at e;rw[Tb hlt,e]
  ·simp only[A1,if_false]at e;rw[SX (Ne.symm A1)];exact h.own _ _ e
theorem Fl(w:Tq)(a:Vf)(v:SP):(w.setCell a v).heap.size=w.heap.size:=by simp[Xr]
theorem wY(w:Tq)(a:Vf)(v:SP){b:Nat}(h:a.block≠b):(w.setCell a v).heap[b]?=w.heap[b]?:=by simp[Xr,Wn,h]
theorem ar0{m:Mode}{b o:Nat}{v:SP}{k:Sem α}{c:Array SP}{el:TypeId}{lo hi:Nat}(ho:V.own b=some (.cells c el (lo,hi)))(cw:o<c.size)(cE:V.ah b o=none)(hv:v.one=true)
  (hf:¬(lo<=o/\o<hi)) (kv:V.role.group≠some b\/m=.atomic) (Mh:V.role.chan≠some b) (h:aS P (V.upd b (.cells (c.setIfInBounds o v) el (lo,hi))) k K Kp):aS P V (.store m ⟨b,o,none⟩ v k) K Kp:=by
 refine .cont λw hw=>⟨#[⟨.cell ⟨b,o,none⟩,true,m== .atomic⟩],w.setCell ⟨b,o,none⟩ v,_,k,?_,λe9=> ?_,h⟩
 ·rw[ul (by simp)];refine⟨hw.aeS ho cE,rfl,rfl,rfl,by rw[Fl];exact SO _,λb' dG e=>wY _ _ _ (λx=> ?_),λb' dG e=> ?_,λ_ _ _ e=>e,λ_ _ _ e=> .inl e,λev cm=> ?_,by rw[Rd];rfl,rfl,λc' x bu e=>by rw[<- e];simp only[View.upd,ite_eq_right_iff];intro x';subst x';exact absurd bu Mh,λev cm=>by simp at cm;subst cm;show b<_;rw[Fl];exact hw.lt ho⟩
  ·have x':b=b':=x;subst x';rw[ho]at e;cases e
  ·have:b'≠b:=(by intro x;subst x;rw[ho]at e;cases e);simp only[View.upd,this,if_false];exact e
  ·simp only[TQ,SK,SZ,or_false]at cm;subst cm;exact⟨.inr ⟨by show V.own b≠none;rw[ho];simp,cE⟩,kv.elim .inr (λx=> .inl (by subst x;rfl))⟩
 ·have hc:w.cell? ⟨b,o,none⟩=some c[o]:=by simp[UC,hw.own _ _ ho,cw]
  have hfz:w.frozen? ⟨b,o,none⟩=false:=by
   simp only[Z4,hw.own _ _ ho];simpa using hf
  cases v<;>simp_all[-TE,VN,Value.one]
theorem pc{x:Obj}{k:Nat->Sem α}(h:∀r,V.fresh r->aS P (V.upd r x) (k r) K Kp):aS P V (.new x k) K Kp:=by
 refine .cont λw hw=>⟨#[],{w with heap:=w.heap.push x},V.upd w.heap.size x,k w.heap.size,?_,λe9=>by simp[-TE,VN],h _ (hw.fresh (SO _))⟩;have gL:=hw.fresh (SO w.heap.size);have aH:∀{b y},V.own b=some y->b≠w.heap.size:=λe x=>by rw[x,gL.1]at e;cases e
 refine⟨⟨λb o v e=> ?_,λb y e=> ?_⟩,rfl,rfl,rfl,by simp,λb hb _=> ?_,λb hb e=> ?_,λ_ _ _ e=>e,λ_ _ _ e=> .inl e,by simp[fM],rfl,rfl,λc' x bu e=>by rw[<- e];simp only[View.upd,ite_eq_right_iff];intro x';exact absurd x' (aH e),by simp[fM]⟩
 ·have hlt:=hw.Ey e;have:=hw.ah _ _ _ e;simp only[UC,YG hlt]at this⊢;simpa[UC,hlt]using this
 ·simp only[View.upd]at e;by_cases hb:b=w.heap.size
  ·subst hb;simp at e;simp[e]
  ·simp only[hb,if_false]at e;have:=hw.own _ _ e;have hlt:=hw.lt e;simp only[YG hlt];simpa[hlt]using this
 ·simp[Xp,We hb]
 ·simp only[View.upd,We hb,if_false];exact e
theorem adG{q:Question}{k:Nat->Sem α}(h0:q.forced=true->aS P V (k 0) K Kp)(h:q.forced=false->∀t,aS P V (k (q.cut t)) K Kp):aS P V (.choose q k) K Kp:=by
 cases hf:q.forced with
 |true=>exact .cont λw hw=>⟨#[],w,V,k 0,by simpa[fM]using di.idle hw,λe9=>by simp[-TE,VN,hf],h0 hf⟩
 |false=>exact .cont λw hw=>⟨#[],{w with drawn:=w.drawn+1},V,_,by simpa[fM]using di.draw hw (w.drawn+1),λe9=>by simp[-TE,VN,hf],h hf (w.tape w.drawn q)⟩
theorem rf{k:SI->Sem α}(h:aS P V (k P) K Kp):aS P V (.program k) K Kp:=
 .cont λw hw=>⟨#[],w,V,k P,by simpa[fM]using di.idle hw,λe9=>by simp[-TE,VN],h⟩
theorem arX{k:Sem α}(h:aS P V k K Kp):aS P V (.mark .noRoom k) K Kp:=
 .cont λw hw=>⟨#[⟨.mark .noRoom,false,true⟩],w,V,k,by
  rw[ul (by simp)];exact⟨hw,rfl,rfl,rfl,SO _,λ_ _ _=>rfl,λ_ _ e=>e,λ_ _ _ e=>e,λ_ _ _ e=> .inl e,λev cm=>by simp at cm;subst cm;trivial,by simp[deafBehind],rfl,λ_ _ _ e=>e,λev cm=>by simp at cm;subst cm;trivial⟩,
  λe9=>by simp[-TE,VN],h⟩
theorem arW{m:Mark}{k:Sem α}(hm:m=.disable\/m=.enable)(h:aS P {V with deaf:=deafBehind V.deaf #[⟨.mark m,false,true⟩]} k K Kp):aS P V (.mark m k) K Kp:=
 .cont λw hw=>⟨#[⟨.mark m,false,true⟩],w,_,k,by
  rw[ul (by rcases hm with rfl|rfl<;>simp)];exact⟨⟨hw.ah,hw.own⟩,rfl,rfl,rfl,SO _,λ_ _ _=>rfl,λ_ _ e=>e,λ_ _ _ e=>e,λ_ _ _ e=> .inl e,λev cm=>by simp at cm;subst cm;rcases hm with rfl|rfl<;>rfl,rfl,rfl,λ_ _ _ e=>e,λev cm=>by simp at cm;subst cm;rcases hm with rfl|rfl<;>trivial⟩,
  λe9=>by simp[-TE,VN],h⟩
theorem arZ{m:Mark}{a:Vf}{k:Sem α}(hm:m=.read a\/m=.write a)(ha:V.own a.block≠none/\V.ah a.block a.off=none)(h:aS P V k K Kp):aS P V (.mark m k) K Kp:=
 .cont λw hw=>⟨#[⟨.mark m,false,true⟩],w,_,k,by
  rw[ul (by rcases hm with rfl|rfl<;>simp)];exact⟨⟨hw.ah,hw.own⟩,rfl,rfl,rfl,SO _,λ_ _ _=>rfl,λ_ _ e=>e,λ_ _ _ e=>e,λ_ _ _ e=> .inl e,λev cm=>by simp at cm;subst cm;rcases hm with rfl|rfl<;>exact .inr ha,
   by rcases hm with rfl|rfl<;>simp[deafBehind],rfl,λ_ _ _ e=>e,λev cm=>by
    simp at cm;subst cm;have:a.block<w.heap.size:=by
     cases e:V.own a.block with
     |none=>exact absurd e ha.1
     |some y=>exact hw.lt e
    rcases hm with rfl|rfl<;>exact this⟩,
  λe9=>by simp[-TE,VN],h⟩
def _root_.Go.Obj.vK:Obj->Bool
 |.cells .. =>true
 |_=>false
theorem ou{r:Nat}{x:Obj}{k:Obj->Sem α}(ho:V.own r=some x)(hx:x.vK=false)(hc:x.isChan=false)(kv:V.role.chan≠some r)(h:aS P V (k x) K Kp):aS P V (.getObj r k) K Kp:=
 .cont λw hw=>⟨#[⟨.obj r,false,false⟩],w,V,k x,by
  rw[ul (by simp)];exact⟨hw,rfl,rfl,rfl,SO _,λ_ _ _=>rfl,λ_ _ e=>e,λ_ _ _ e=>e,λ_ _ _ e=> .inl e,λev cm=>by simp at cm;subst cm;exact⟨⟨rfl,.inr (by rw[ho];simp)⟩,kv⟩,by rw[Re],rfl,λ_ _ _ e=>e,λev cm=>by simp at cm;subst cm;exact hw.lt ho⟩,
  λe9=>by
   have:=hw.own _ _ ho;cases x<;>simp_all[-TE,VN,Obj.vK,ao'],h⟩
theorem Sat.atY{V:View}{w:Tq}(h:Sat V w){r:Nat}{x y:Obj}(ho:V.own r=some x)(hx:x.vK=false):Sat (V.upd r y) {w with heap:=w.heap.setIfInBounds r y}:=by
 have hlt:=h.lt ho;refine⟨λb o v e=> ?_,λb z e=> ?_⟩
 ·have:=h.ah _ _ _ e;have hb:r≠b:=by
   intro e';subst e';simp only[UC,h.own _ _ ho]at this;cases x<;>simp_all[Obj.vK]
  simp only[UC,SX hb]at this⊢;exact this
 ·simp only[View.upd]at e;by_cases hb:b=r
  ·subst hb;simp at e;simp[hlt,e]
  ·simp only[hb,if_false]at e;simp only[SX (Ne.symm hb)];exact h.own _ _ e
theorem zM{r:Nat}{x y:Obj}{k:Sem α}(ho:V.own r=some x)(hx:x.vK=false)(hy:y.isChan=false)(kv:V.role.chan≠some r)(h:aS P (V.upd r y) k K Kp):aS P V (.setObj r y k) K Kp:=
 .cont λw hw=>⟨#[⟨.obj r,true,false⟩],{w with heap:=w.heap.setIfInBounds r y},_,k,by
  rw[ul (by simp)];refine⟨hw.atY ho hx,rfl,rfl,rfl,by simp,λb hb e=> ?_,λb hb e=> ?_,λ_ _ _ e=>e,λ_ _ _ e=> .inl e,λev cm=>by simp at cm;subst cm;exact⟨⟨rfl,.inr (by rw[ho];simp)⟩,kv⟩,by rw[Re];rfl,rfl,λc' x bu e=>by rw[<- e];simp only[View.upd,ite_eq_right_iff];intro x';subst x';exact absurd bu kv,λev cm=>by simp at cm;subst cm;show r<_;simp;exact hw.lt ho⟩
  ·exact SX (λx'=>by subst x';rw[ho]at e;cases e)
  ·have:b≠r:=(by intro x';subst x';rw[ho]at e;cases e);simp only[View.upd,this,if_false];exact e,
  λe9=>by
   have:=hw.own _ _ ho;cases x<;>simp_all[-TE,VN,Obj.vK,ao'],h⟩
theorem arP{s:Sem α}{f:α->Sem β}{K:β->View->Prop}(h:aS P V s (λx V'=>aS P V' (f x) K Kp) Kp):aS P V (s.bind f) K Kp:=by
 intro w hw e9;obtain⟨es,w',V',h1,h2⟩:=h w hw e9;have key:(s.bind f).runT P w e9=match s.runT P w e9 with
   |(.ok x w',e)=>(f x).runT P w' e
   |(.halt h w',e)=>(.halt h w',e):=by
  have hr:=Sem.run_bind' P s f w;have he:=Sem.events_bind' P s f w e9;rw[TE,TE];have za:(s.bind f).run P w=_:=hr;have ku:(s.bind f).events P w e9=_:=he;rw[za,ku];cases s.run P w<;>simp[Result.andThen,Result.evThen]
 rcases h2 with⟨x,hx,hK⟩|⟨v,hv,hKp⟩
 ·obtain⟨uS,PI,aU,h3,h4⟩:=hK w' h1.sat (e9++es);refine⟨es++uS,PI,aU,by rw[Ot];exact h1.trans h3,?_⟩;rw[key,hx,<- XA];exact h4
 ·refine⟨es,w',V',h1,.inr ⟨v,?_,hKp⟩⟩;rw[key,hv]
theorem aA{s:Sem α}{f:α->Sem β}{K:β->View->Prop}(h:aS P V s (λx V'=>aS P V' (f x) K Kp) Kp):aS P V (s>>=f) K Kp:=arP h
end
open Go.Conc
def Ae (e:Uu):Prop:=∀m,e.loc=.mark m->(m=.disable\/m=.enable)->e.sync=true
theorem nh.Lm{V:View}{n:Nat}{e:Uu}(h:nh V n e):Ae e:=by
 intro m hm hd;obtain⟨l,wr,s⟩:=e;simp only at hm;subst hm;rcases hd with rfl|rfl
 ·simpa[nh]using h
 ·simpa[nh]using h
theorem ah1(d:Nat)(x:Array Uu)(e:Uu):deafBehind d (x.push e)=deafBehind (deafBehind d x) #[e]:=by
 simp[deafBehind]
theorem ah2{d:Nat}{e:Uu}(hg:Ae e)(hs:e.sync=false):deafBehind d #[e]=d:=by
 obtain⟨l,wr,s⟩:=e;cases l with
 |mark m=>
  cases m<;>first
   |(have:=hg _ rfl (.inl rfl);simp_all)
   |(have:=hg _ rfl (.inr rfl);simp_all)
   |simp[deafBehind]
 |_=>simp[deafBehind]
theorem arN(P:SI)(fn:TY)(es:Array Uu)(hg:∀e∈fM es,Ae e)(d:Nat):(∀e∈seen P fn es,e∈fM es)/\deafBehind d (seen P fn es)=deafBehind d (fM es):=by
 rw[seen_def];obtain⟨l⟩:=es;have key:∀(l:List Uu)(q:Bool)(kept ref:Array Uu),(∀e∈fM l.toArray,Ae e)->(∀e∈kept,e∈ref)->deafBehind d kept=deafBehind d ref->
   (∀e∈(l.foldl (seenStep λf=>(P.funcs[f]?).any (·.norace)) (q,kept)).2,e∈ref++fM l.toArray)/\
   deafBehind d (l.foldl (seenStep λf=>(P.funcs[f]?).any (·.norace)) (q,kept)).2=deafBehind d (ref++fM l.toArray):=by
  intro l;induction l with
  |nil=>intro q kept ref _ h1 h2;simpa[fM]using⟨h1,h2⟩
  |cons e l ih=>
   intro q kept ref hg h1 h2;rw[UV];by_cases hx:∃f,e.loc=.mark (.extern f)
   ·obtain⟨f,hf⟩:=hx;have e1:fM (e::l).toArray=fM l.toArray:=(by simp[fM,hf]);rw[e1]at hg⊢;have e3:seenStep (λf=>(P.funcs[f]?).any (·.norace)) (q,kept) e=((P.funcs[f]?).any (·.norace),kept):=(by simp[seenStep,hf]);rw[e3];exact ih _ kept ref hg h1 h2
   ·have aH:∀f,e.loc≠ .mark (.extern f):=λf hf=>hx ⟨f,hf⟩;have e1:fM (e::l).toArray=#[e]++fM l.toArray:=by
     have:(e::l).toArray=#[e]++l.toArray:=(by simp);rw[this,Ot,ul aH]
    have ve:Ae e:=hg e (by rw[e1];simp);have jV:∀x∈fM l.toArray,Ae x:=λx hx=>hg x (by rw[e1];exact Uw.2 (.inr hx));have e2:seenStep (λf=>(P.funcs[f]?).any (·.norace)) (q,kept) e=(q,if q&& !e.sync then kept else kept.push e):=by
     unfold seenStep;dsimp only;split
     ·rename_i f hf;exact absurd hf (aH f)
     ·rfl
    rw[e1,<- XA];rw[e2];refine ih q _ (ref++#[e]) jV (λx hx=> ?_) ?_
    ·split at hx
     ·exact Uw.2 (.inl (h1 x hx))
     ·rcases Array.mem_push.1 hx with hx|rfl
      ·exact Uw.2 (.inl (h1 x hx))
      ·exact Uw.2 (.inr (by simp))
    ·split
     ·rename_i hq;simp only[Te,TZ]at hq;rw[Kk,ah2 ve hq.2,h2]
     ·rw[Kk,ah1,h2]
 have:=key l ((P.funcs[fn]?).any (·.norace)) #[] #[] hg (by simp) rfl;simpa only[Xz]using this
theorem di.seen{V V':View}{w w':Tq}{es:Array Uu}(h:di V w V' w' (fM es))(P:SI)(fn:TY):di V w V' w' (seen P fn es):=by
 have:=arN P fn es (λe he=>(h.fq e he).Lm) V.deaf;exact⟨h.sat,h.tape,h.os,h.output,h.size,h.frame,h.own,h.ah,h.kP,λe he=>h.fq e (this.1 e he),by rw[h.deaf,this.2],h.role,h.chan,λe he=>h.low e (this.1 e he)⟩
open Go.Conc
inductive Out where
 |ret (v:SP)
 |panic (chain:List Z5)
def Leaves (P:SI)(fr:Ug)(f:TY)(kd:Xm)(o:Out)(V:View):Prop:=
 fr.fn=f/\fr.defers=[]/\fr.kind=kd/\∃fn,P.funcs[f]?=some fn/\
  match o with
  |.ret v=>fr.mode=.returning/\aS P V (results fn fr.tmps) (λx V'=>x=v/\V'=V) (λ_ _=>False)
  |.panic ch=>fr.mode=.panicking ch
def Body (lv:Bool)(P:SI)(f:TY)(args:Array SP)(kd:Xm)(V:View)(R:Out->View->Prop):Prop:=
 ∀(main:Bool)(J:View->SG->Prop),Closed lv P main J->∀cs,(∀o V' fr,R o V'->Leaves P fr f kd o V'->J V' (G fr cs))->J V (G (Frame.enter P f args kd) cs)
def nq (lv:Bool)(P:SI)(fr:Ug)(V:View)(R:Out->View->Prop):Prop:=
 ∀(main:Bool)(J:View->SG->Prop),Closed lv P main J->∀c cs,(∀v V',R (.ret v) V'->J V' (G (c.finish v) cs))->(∀ch V',R (.panic ch) V'->J V' (G (c.raise ch) cs))->J V (G fr (c::cs))
theorem Body.mono{lv:Bool}{P:SI}{f:TY}{args:Array SP}{kd:Xm}{V:View}{R R':Out->View->Prop}(h:Body lv P f args kd V R)(hr:∀o V,R o V->R' o V):Body lv P f args kd V R':=
 λmain J C cs hk=>h main J C cs λo V' fr r hl=>hk o V' fr (hr _ _ r) hl
theorem Body.ghost{lv:Bool}{P:SI}{f:TY}{args:Array SP}{kd:Xm}{V V':View}{R:Out->View->Prop}(g:dY V V')(h:Body lv P f args kd V' R):Body lv P f args kd V R:=
 λmain J C cs hk=>C.ghost _ _ _ g (h main J C cs hk)
theorem nq.mono{lv:Bool}{P:SI}{fr:Ug}{V:View}{R R':Out->View->Prop}(h:nq lv P fr V R)(hr:∀o V,R o V->R' o V):nq lv P fr V R':=
 λmain J C c cs h1 h2=>h main J C c cs (λv V' r=>h1 v V' (hr _ _ r)) (λv V' r=>h2 v V' (hr _ _ r))
theorem nq.ghost{lv:Bool}{P:SI}{fr:Ug}{V V':View}{R:Out->View->Prop}(g:dY V V')(h:nq lv P fr V' R):nq lv P fr V R:=
 λmain J C c cs h1 h2=>C.ghost _ _ _ g (h main J C c cs h1 h2)
theorem aS.runs{P:SI}{α:Type}{V:View}{s:Sem α}{K:α->View->Prop}{Kp:SP->View->Prop}(h:aS P V s K Kp){w:Tq}(hw:Sat V w):
  ∃es w' V',di V w V' w' (fM es)/\s.events P w #[]=es/\((∃x,s.run P w=.ok x w'/\K x V')\/(∃v,s.run P w=.halt (.panic v) w'/\Kp v V')):=by
 obtain⟨es,w',V',h1,h2⟩:=h w hw #[];refine⟨es,w',V',h1,?_⟩;simp only[TE,Vb,Xz]at h2;rcases h2 with⟨x,⟨a,b⟩,c⟩|⟨x,⟨a,b⟩,c⟩
 ·exact⟨b,.inl ⟨x,a,c⟩⟩
 ·exact⟨b,.inr ⟨x,a,c⟩⟩
theorem aoe{lv:Bool}{P:SI}{main:Bool}{J:View->SG->Prop}(C:Closed lv P main J){fr c:Ug}{cs:List Ug}{f:TY}{v:SP}{V:View}(h:Leaves P fr f .normal (.ret v) V)(hJ:J V (G (c.finish v) cs)):J V (G fr (c::cs)):=by
 obtain⟨rfl,hd,hk,fn,hf,hm,hr⟩:=h;refine C.step _ _ rfl λw hw=> ?_;obtain⟨es,w',V',h1,h2,h3⟩:=hr.runs hw;rcases h3 with⟨x,h3,rfl,rfl⟩|⟨_,_,h⟩
 ·exact⟨G (c.finish x) cs,w',seen P fr.fn es,V',by simp[G,stepG,unwind,doReturn,hm,hd,hk,hf,h3,h2,T_],h1.seen P fr.fn,hJ⟩
 ·exact h.elim
theorem aod{lv:Bool}{P:SI}{main:Bool}{J:View->SG->Prop}(C:Closed lv P main J){fr c:Ug}{cs:List Ug}{f:TY}{kd:Xm}{ch:List Z5}{V:View}(h:Leaves P fr f kd (.panic ch) V)(hJ:J V (G (c.raise ch) cs)):J V (G fr (c::cs)):=by
 obtain⟨rfl,hd,hk,fn,hf,hm⟩:=h;refine C.idle rfl (λw=> ?_) hJ;simp[G,stepG,unwind,Z7,hm,hd,hf]
theorem Body.runs{lv:Bool}{P:SI}{f:TY}{args:Array SP}{V:View}{R:Out->View->Prop}(h:Body lv P f args .normal V R):nq lv P (Frame.enter P f args .normal) V R:=by
 intro main J C c cs h1 h2;refine h main J C (c::cs) λo V' fr r hl=> ?_;cases o with
 |ret v=>exact aoe C hl (h1 v V' r)
 |panic ch=>exact aod C hl (h2 ch V' r)
def mP (lv:Bool)(P:SI)(r:Option Nat)(o:Tx)(a:Act)(next:Act->View->Prop)(Q:Ex->Act->View->Prop)(nx:Next)(V:View):Prop:=
 match nx with
 |.value v=>next (a.put o.dst v) V
 |.skip=>next (a.put o.dst undef) V
 |.defer d=>r=none/\next ({a with defers:=d::a.defers}.put o.dst undef) V
 |.enter f args=>Body lv P f args .normal V fun
   |.ret v,V'=>next (a.put o.dst v) V'
   |.panic ch,V'=>Q (.panic ch) a V'
 |.round l f tmps assign body=>nq lv P (Xh l f tmps assign body .normal) V fun
   |.ret v,V'=>next (a.put o.dst v) V'
   |.panic ch,V'=>Q (.panic ch) a V'
 |_=>False
def mA:Op->Bool
 |.defer _=>true
 |_=>false
def xV (lv:Bool)(P:SI)(r:Option Nat)(o:Tx)(a:Act)(V:View)(next:Act->View->Prop)(Q:Ex->Act->View->Prop):Prop:=
 (r=none\/mA o.op=false)/\aS P V (execOp a.eval o) (mP lv P r o a next Q) (λv V'=>Q (.panic [{v,recovered:=false}]) a V')
def wq (lv:Bool)(P:SI)(o:Tx)(a:Act)(V:View)(next:Act->View->Prop):Prop:=match o.op with
 |.send ch x=>∃(c Wg:Nat)(sp:Spec)(S:List Spec)(B:Nat->Bool),a.eval ch=.chan (some c)/\V.role=.work c Wg (sp::S)/\V.deaf=0/\sp (a.eval x) V.ah (λb=>if B b then V.own b else none)/\
   next (a.put o.dst undef) {V with own:=λb=>if B b then none else V.own b,role:=.work c Wg S}
 |.go cl=>lv=true/\∃(x:Tl)(f:TY)(fa ca:Array SP),cl.callee=.value x/\a.eval x=.func (.func f) fa ca/\V.deaf=0/\
   ((∃(c Wg:Nat)(Ss:List (List Spec))(sp:Spec)(S:List Spec),V.role=.fork c Wg Ss/\V.own c=some (.chan 0 #[] false 0 0 false)/\V.own Wg=some (wgBlock P (((Ss.length+1:Nat):Int)* 4294967296) 0)/\Ss.length<4/\(∀o,V.ah Wg o=none)/\
    (∀J0,z_ P false J0->J0 {ah:=V.ah,own:=λ_=>none,deaf:=0,role:=.work c Wg (sp::S)} (born P ⟨.fn (.func f) ca,fa++cl.args.map a.eval⟩))/\next (a.put o.dst undef) {V with role:=.fork c Wg (Ss++[sp::S])})\/
    (∃(c Wg:Nat)(Ss:List (List Spec)),V.role=.fork c Wg Ss/\c≠Wg/\V.own c=some (.chan 0 #[] false 0 0 false)/\V.own Wg=some (wgBlock P (((Ss.length:Nat):Int)* 4294967296) 0)/\(∀o,V.ah c o=none)/\(∀o,V.ah Wg o=none)/\
    Jy P V.ah c Wg (born P ⟨.fn (.func f) ca,fa++cl.args.map a.eval⟩)/\next (a.put o.dst undef) {V with own:=λb=>if b=c\/b=Wg then none else V.own b,role:=.recv c Wg Ss}))
 |.recv t ch true=>lv=true/\∃(c Wg:Nat)(Ss:List (List Spec))(d:ChanDir)(el:TypeId)(i:Wo)(z:SP),a.eval ch=.chan (some c)/\P.underlying t=some (.chan d el)/\P.info? el=some i/\i.zero=some z/\V.role=.recv c Wg Ss/\V.deaf=0/\
   (∀(i:Nat)(sp:Spec)(S:List Spec)(v:SP)(Im:cC)(Ow:Cz),Ss[i]?=some (sp::S)->sp v Im Ow->(∀b,V.own b≠none->Ow b=none)->(∀b o,V.own b≠none->Im b o≠none->V.ah b o≠none)->(∃w,Sat V w/\(∀b o x,Im b o=some x->w.cell? ⟨b,o,none⟩=some x)/\∀b x,Ow b=some x->w.heap[b]?=some x)->
    next (a.put o.dst (.tuple #[v,.bool true])) {V with ah:=λb o=>match V.ah b o with|some x=>some x|none=>Im b o,own:=λb=>match V.own b with|some x=>some x|none=>Ow b,role:=.recv c Wg (Ss.set i S)})/\
   ((∀S∈Ss,S=[])->next (a.put o.dst (.tuple #[z,.bool false])) {V with role:=.plain})
 |_=>False
theorem wq.mono{lv:Bool}{P:SI}{o:Tx}{a:Act}{V:View}{N N':Act->View->Prop}(h:wq lv P o a V N)(hN:∀a V,N a V->N' a V):wq lv P o a V N':=by
 unfold wq at h⊢;split at h
 ·obtain⟨c,Wg,sp,S,B,h1,h2,h3,h4,h5⟩:=h;exact⟨c,Wg,sp,S,B,h1,h2,h3,h4,hN _ _ h5⟩
 ·obtain⟨tT,x,f,fa,ca,h1,h2,h3,h4⟩:=h;refine⟨tT,x,f,fa,ca,h1,h2,h3,h4.imp ?_ ?_⟩
  ·rintro⟨c,Wg,Ss,sp,S,q1,q2,q3,q4,q5,q6,q7⟩
   exact⟨c,Wg,Ss,sp,S,q1,q2,q3,q4,q5,q6,hN _ _ q7⟩
  ·rintro⟨c,Wg,Ss,q1,q2,q3,q4,q5,q6,q7,q8⟩
   exact⟨c,Wg,Ss,q1,q2,q3,q4,q5,q6,q7,hN _ _ q8⟩
 ·obtain⟨tT,c,Wg,Ss,d,el,ti,z,h1,h2,h3,h4,h5,h6,h7,h8⟩:=h;exact⟨tT,c,Wg,Ss,d,el,ti,z,h1,h2,h3,h4,h5,h6,λi sp S v Im Ow r1 r2 r3 r4 r5=>hN _ _ (h7 i sp S v Im Ow r1 r2 r3 r4 r5),λhS=>hN _ _ (h8 hS)⟩
 ·exact h
def Cy (lv:Bool)(P:SI)(r:Option Nat)(o:Tx)(a:Act)(V:View)(next:Act->View->Prop)(Q:Ex->Act->View->Prop):Prop:=xV lv P r o a V next Q\/wq lv P o a V next
def dq (lv:Bool)(P:SI)(r:Option Nat)(ops:Array Tx)(Q:Ex->Act->View->Prop):List Nat->Act->View->Prop
 |[],a,V=>Q .normal a V
 |i::rest,a,V=>
  match ops[i]?with
  |none=>dq lv P r ops Q rest a V
  |some o=>if Tj o (yielded ops a.tmps)then Cy lv P r o a V (dq lv P r ops Q rest) Q else dq lv P r ops Q rest (a.put o.dst undef) V
theorem BK(b:Ug)(a:Act)(ops:Array Tx)(i:Nat)(rest:List Nat)(k:List W1)(v:SP):
  (on b a (.inRegion ops (i::rest)::k)).finish v=on b (a.put ((ops[i]?).bind (·.dst)) v) (.inRegion ops rest::k):=by
 cases h:(ops[i]?).bind (·.dst)<;>simp[Frame.finish,on,Yf,h]
theorem adt{P:SI}{main:Bool}{b:Ug}{a:Act}{k:List W1}{cs:List Ug}{w:Tq}{ops:Array Tx}{i:Nat}{rest:List Nat}(h:((ops[i]?).map (Tj · (yielded ops a.tmps))).getD false=false):
  stepG P main (G (on b a (.inRegion ops (i::rest)::k)) cs) w=.go (G (on b (a.put ((ops[i]?).bind (·.dst)) undef) (.inRegion ops rest::k)) cs) w #[]:=by
 rw[<- BK];simp only[on]at*;simp[G,stepG,Uj,h]
theorem s_op{P:SI}{main:Bool}{b:Ug}{a:Act}{k:List W1}{cs:List Ug}{w:Tq}{ops:Array Tx}{i:Nat}{rest:List Nat}{o:Tx}(ho:ops[i]?=some o)(hw:Tj o (yielded ops a.tmps)=true)(hd:b.roundOf=none\/mA o.op=false):
  stepG P main (G (on b a (.inRegion ops (i::rest)::k)) cs) w=stepG.apply P true (on b a (.inRegion ops (i::rest)::k)) cs none (execOp a.eval o) w:=by
 have he:=apy b a (.inRegion ops (i::rest)::k);simp only[on]at he;rcases hd with hd|hd
 ·rw[hd]at he;simp[G,stepG,Uj,Zd,YS,on,ho,hw,he,hd]
 ·cases hr:b.roundOf with
  |none=>
   rw[hr]at he;simp[G,stepG,Uj,Zd,YS,on,ho,hw,he,hr]
  |some l=>cases ay:o.op<;>simp_all[G,stepG,Uj,Zd,YS,on,mA]
theorem asn{lv:Bool}{P:SI}{main:Bool}{J:View->SG->Prop}(C:Closed lv P main J){ops:Array Tx}{i:Nat}{rest:List Nat}{o:Tx}{a:Act}{V:View}{N:Act->View->Prop}{b:Ug}{k:List W1}{cs:List Ug}(hb:b.kind≠ .early)
  (ho:ops[i]?=some o) (hw:Tj o (yielded ops a.tmps)=true) (h:wq lv P o a V N) (hN:∀a' V',N a' V'->J V' (G (on b a' (.inRegion ops rest::k)) cs)):J V (G (on b a (.inRegion ops (i::rest)::k)) cs):=by
 have jX:((on b a (.inRegion ops (i::rest)::k)).kind==Vg)=false:=by simpa[on]using hb
 have dS:∀v,(on b a (.inRegion ops (i::rest)::k)).finish v=on b (a.put o.dst v) (.inRegion ops rest::k):=by
  intro v;rw[BK,ho];rfl
 have Nc:∀v,Ua (G (on b a (.inRegion ops (i::rest)::k)) cs) v=G (on b (a.put o.dst v) (.inRegion ops rest::k)) cs:=λv=>by rw[<- dS v];rfl
 unfold wq at h;split at h
 ·rename_i ch x ay;obtain⟨c,Wg,sp,S,B,h1,h2,h3,h4,h5⟩:=h;have aP:∀w,stepG P main (G (on b a (.inRegion ops (i::rest)::k)) cs) w=.comm (G (on b a (.inRegion ops (i::rest)::k)) cs) #[scase c (a.eval x) (.tuple #[])] true .send w #[]:=λw=>by
   rw[s_op ho hw (.inr (by rw[ay];rfl))];have e:execOp a.eval o=pure (.comm #[scase c (a.eval x) (.tuple #[])] true .send):=by
    unfold execOp;simp only[ay];rw[h1];rfl
   rw[e];simp only[stepG.apply,TE,if_true,jX,T_,af_,ZV,ag_];rfl
  exact C.send _ _ c Wg sp S (a.eval x) (.tuple #[]) B h2 h3 rfl rfl (λw _=>aP w) h4 (by rw[Nc];exact hN _ _ h5)
 ·rename_i cl ay;obtain⟨tT,x,f,fa,ca,h1,h2,h3,h4⟩:=h;have aP:∀w,stepG P main (G (on b a (.inRegion ops (i::rest)::k)) cs) w=.spawn (G (on b (a.put o.dst undef) (.inRegion ops rest::k)) cs) (born P ⟨.fn (.func f) ca,fa++cl.args.map a.eval⟩) w #[]:=λw=>by
   rw[s_op ho hw (.inr (by rw[ay];rfl)),<- dS undef];have e:execOp a.eval o=(pure (.spawn ⟨.fn (.func f) ca,fa++cl.args.map a.eval⟩):Sem Next):=by
    unfold execOp;simp only[ay];unfold resolve;simp only[h1,h2];rfl
   rw[e];simp only[stepG.apply,TE,if_true,jX,T_,af_,ZV,ag_];simp[born,G,on];exact ag_ _ _
  rcases h4 with⟨c,Wg,Ss,sp,S,q1,q2,q3,q4,q5,q6,q7⟩|⟨c,Wg,Ss,q1,q2,q3,q4,q5,q6,q7,q8⟩
  ·exact(C.more tT).GC _ _ _ _ c Wg Ss sp S q1 h3 rfl q2 q3 q4 q5 (λw _=>aP w) rfl q6 (hN _ _ q7)
  ·exact(C.more tT).GB _ _ _ _ c Wg Ss q1 h3 rfl q2 q3 q4 q5 q6 (λw _=>aP w) rfl q7 (hN _ _ q8)
 ·rename_i t ch ay;obtain⟨tT,c,Wg,Ss,d,el,ti,z,h1,h2,h3,h4,h5,h6,h7,h8⟩:=h;have aP:∀w,stepG P main (G (on b a (.inRegion ops (i::rest)::k)) cs) w=.comm (G (on b a (.inRegion ops (i::rest)::k)) cs) #[rcase c z] true (.recv true) w #[]:=λw=>by
   rw[s_op ho hw (.inr (by rw[ay];rfl))];have hu:(underlying t).run P w=.ok (.chan d el) w:=run_underlying h2 w;have hi:(typeInfo el).run P w=.ok ti w:=(by simp[typeInfo,h3]);have hz:(zeroValue el).run P w=.ok z w:=(by simp[zeroValue,hi,h4]);have vH:(zeroValue el).events P w #[]=#[]:=(by simp[zeroValue,hi,h4]);have e1:(execOp a.eval o).run P w=.ok (.comm #[rcase c z] true (.recv true)) w:=by
    unfold execOp;simp only[ay];rw[h1];simp[hu,hz,rcase]
   have e2:(execOp a.eval o).events P w #[]=#[]:=by
    unfold execOp;simp only[ay];rw[h1];simp[hu,hz,vH]
   simp only[stepG.apply,TE,if_true,jX,T_,e1,e2,ag_];rfl
  refine(C.more tT).recv _ _ c Wg Ss z h5 h6 rfl rfl (λw _=>aP w) (λi sp S v Im Ow r1 r2 r3 r4 r5=> ?_) λhS=> ?_
  ·rw[Nc];exact hN _ _ (h7 i sp S v Im Ow r1 r2 r3 r4 r5)
  ·rw[Nc];exact hN _ _ (h8 hS)
 ·exact h.elim
theorem wp_ops{lv:Bool}{P:SI}{r:Option Nat}{ops:Array Tx}{Q:Ex->Act->View->Prop}(l:List Nat):
  ∀(a:Act)(V:View),dq lv P r ops Q l a V->∀(main:Bool)(J:View->SG->Prop),Closed lv P main J->∀(b:Ug)(k:List W1)(cs:List Ug),b.kind≠ .early->b.roundOf=r->
   (∀e a' V',Q e a' V'->wm J b k cs e a' V')->J V (G (on b a (.inRegion ops l::k)) cs):=by
 induction l with
 |nil=>exactλa V h main J C b k cs _ _ hL=>C.idle rfl (λ_=>arE) (hL _ _ _ h)
 |cons i rest ih=>
  intro a V h main J C b k cs hb hr hL;simp only[dq]at h;cases ho:ops[i]?with
  |none=>
   simp only[ho]at h;refine C.idle rfl (λw=>adt (by simp[ho])) ?_;simp only[ho,Option.bind_none,Yf];exact ih a V h main J C b k cs hb hr hL
  |some o=>
   simp only[ho]at h;by_cases hw:Tj o (yielded ops a.tmps)=true
   ·simp only[hw,if_true]at h;rcases h with h|h
    rotate_left
    ·exact asn C hb ho hw h λa' V' h'=>ih a' V' h' main J C b k cs hb hr hL
    obtain⟨bC,ay⟩:=h;have alG:b.roundOf=none\/mA o.op=false:=hr▸bC;have dS:∀v,(on b a (.inRegion ops (i::rest)::k)).finish v=on b (a.put o.dst v) (.inRegion ops rest::k):=by
     intro v;rw[BK,ho];rfl
    have jX:((on b a (.inRegion ops (i::rest)::k)).kind==Vg)=false:=(by simpa[on]using hb);refine C.step _ _ rfl λw fB=> ?_;obtain⟨es,w',V',h1,h2,h3⟩:=ay.runs fB;rw[s_op ho hw alG];rcases h3 with⟨nx,h3,hU⟩|⟨v,h3,hU⟩
    ·cases nx with
     |value v=>exact⟨_,w',seen P b.fn es,V',by rw[<- dS v];simp only[stepG.apply,TE,if_true,h3,h2,jX,T_];rfl,h1.seen P _,ih _ _ hU main J C b k cs hb hr hL⟩
     |skip=>exact⟨_,w',seen P b.fn es,V',by rw[<- dS undef];simp only[stepG.apply,TE,if_true,h3,h2,jX,T_];rfl,h1.seen P _,ih _ _ hU main J C b k cs hb hr hL⟩
     | «defer» d =>
      obtain⟨Bq,hU⟩:=hU;have iW:({on b a (.inRegion ops (i::rest)::k)with defers:=d::a.defers}:Ug).finish undef=on b ({a with defers:=d::a.defers}.put o.dst undef) (.inRegion ops rest::k):=by
       have:=BK b {a with defers:=d::a.defers} ops i rest k undef;rw[ho]at this;exact this
      exact⟨_,w',seen P b.fn es,V',by
       rw[<- iW];simp only[stepG.apply,TE,if_true,h3,h2,jX,T_];rfl,h1.seen P _,ih _ _ hU main J C b k cs hb hr hL⟩
     |enter f args=>
      refine⟨G (Frame.enter P f args .normal) (on b a (.inRegion ops (i::rest)::k)::cs),w',seen P b.fn es,V',by simp only[stepG.apply,TE,if_true,h3,h2,jX,T_];rfl,h1.seen P _,?_⟩;refine Body.runs hU main J C _ cs (λv aU hR=> ?_) (λch aU hR=> ?_)
      ·rw[dS];exact ih _ _ hR main J C b k cs hb hr hL
      ·exact hL _ _ _ hR _ rfl
     |round l f tmps assign body=>
      refine⟨G (Xh l f tmps assign body .normal) (on b a (.inRegion ops (i::rest)::k)::cs),w',seen P b.fn es,V',by simp only[stepG.apply,TE,if_true,h3,h2,jX,T_];rfl,h1.seen P _,?_⟩;refine hU main J C _ cs (λv aU hR=> ?_) (λch aU hR=> ?_)
      ·rw[dS];exact ih _ _ hR main J C b k cs hb hr hL
      ·exact hL _ _ _ hR _ rfl
     |_=>exact hU.elim
    ·refine⟨G ((on b a (.inRegion ops (i::rest)::k)).raise [{v,recovered:=false}]) cs,w',seen P b.fn es,V',by simp only[stepG.apply,TE,if_true,h3,h2,jX,T_];rfl,h1.seen P _,hL _ _ _ hU _ rfl⟩
   ·have n9:Tj o (yielded ops a.tmps)=false:=(by simpa using hw);simp only[n9,if_false,TV]at h;refine C.idle rfl (λw=>adt (by simp[ho,n9])) ?_;simp only[ho,Option.bind_some];exact ih _ _ h main J C b k cs hb hr hL
theorem wp_region{lv:Bool}{P:SI}{r:Option Nat}{id:Nat}{ops:Array Tx}{Q:Ex->Act->View->Prop}{a:Act}{V:View}(h:dq lv P r ops Q (SR ops.size) a V):WP lv P r (.region id ops false) Q a V:=
 λmain J C b k cs hb hr hL=>C.idle rfl (λ_=>adu) (wp_ops _ a V h main J C b k cs hb hr hL)
theorem PO{lv:Bool}{P:SI}{r:Option Nat}{id:Nat}{ops:Array Tx}{Q:Ex->Act->View->Prop}{a:Act}{V:View}(h:∀t,dq lv P r ops Q (VR (P.follows .mixedOrders) ops t) a V):WP lv P r (.region id ops true) Q a V:=
 λmain J C b k cs hb hr hL=>C.step _ _ rfl λw hw=>⟨_,_,#[],V,arv,.draw hw _,wp_ops _ a V (h _) main J C b k cs hb hr hL⟩
def Ends (P:SI)(fn:YL)(R:Out->View->Prop):Ex->Act->View->Prop
 |.normal,a,V|.ret,a,V=>a.defers=[]/\∃v,aS P V (results fn a.tmps) (λx V'=>x=v/\V'=V) (λ_ _=>False)/\R (.ret v) V
 |.panic ch,a,V=>a.defers=[]/\R (.panic ch) V
 |_,_,_=>False
theorem QR{lv:Bool}{P:SI}{f:TY}{fn:YL}{c:Uc}{args:Array SP}{kd:Xm}{V:View}{R:Out->View->Prop}(hk:kd≠ .early)(hf:P.funcs[f]?=some fn)(hb:fn.body=some c)
  (h:WP lv P none c (Ends P fn R) {tmps:=args++TS (fn.ntmps-args.size) undef,defers:=[]} V):Body lv P f args kd V R:=by
 intro main J C cs hR;let b:Ug:={(default:Ug)with fn:=f,kind:=kd,roundOf:=none};have vc:Frame.enter P f args kd=on b {tmps:=args++TS (fn.ntmps-args.size) undef,defers:=[]} [.code c]:=by
  simp[Frame.enter,on,hf,hb,b]
 rw[vc];refine h main J C b [] cs hk rfl λe a' V' q=> ?_;cases e with
 |normal=>
  obtain⟨hd,v,hs,hr⟩:=q;exact C.idle rfl (λw=>Fe rfl) (hR _ _ _ hr ⟨rfl,hd,rfl,fn,hf,rfl,hs⟩)
 |ret=>
  obtain⟨hd,v,hs,hr⟩:=q;intro k;exact C.idle rfl (λw=>Ff rfl) (hR _ _ _ hr ⟨rfl,hd,rfl,fn,hf,rfl,hs⟩)
 |panic ch=>
  obtain⟨hd,hr⟩:=q;intro todo _;exact hR _ _ _ hr ⟨rfl,hd,rfl,fn,hf,rfl⟩
 |exit id=>exact q.elim
 |goto l=>exact q.elim
open Go.Conc
inductive End where
 |exact
 |shut
 |opn (k:Nat)
 deriving DecidableEq
inductive AV where
 |val (x:SP)
 |agg (l:List AV)
 |aQ (l:List AV)
 |sl (n:Nat) (l:List AV) (e:End)
 |bA (id off n cap:Nat)
 |rp (l:List AV)
 |op (id off:Nat)
 |fn (f:Fn) (first cU:List AV)
 |cZ (t:TypeId) (x:AV)
 |mp (id:Nat)
structure Env where
 I:cC
 n:Nat
 blk:Nat->Nat
 room:Nat->Nat->Option Vf×Nat
 fF:Nat->Nat
 fr:Nat->Option Obj
 main:Bool
structure Env.Le (E E':Env):Prop where
 I:∀b o v,E.I b o=some v->E'.I b o=some v
 n:E.n<=E'.n
 blk:∀k,k<E.n->E'.blk k=E.blk k
 fF:∀k,k<E.n->E.fF k<=E'.fF k
 room:∀k v,k<E.n->v<=E.fF k->E'.room k v=E.room k v
 fr:E'.fr=E.fr
 main:E'.main=E.main
theorem Env.Le.refl(E:Env):E.Le E:=⟨λ_ _ _ h=>h,SO _,λ_ _=>rfl,λ_ _=>SO _,λ_ _ _ _=>rfl,rfl,rfl⟩
theorem Env.Le.trans{E E' bY:Env}(h:E.Le E')(k:E'.Le bY):E.Le bY:=
 ⟨λb o v e=>k.I b o v (h.I b o v e),TL h.n k.n,λi hi=>(k.blk i (Tg hi h.n)).trans (h.blk i hi),λi hi=>TL (h.fF i hi) (k.fF i (Tg hi h.n)),
  λi v hi hv=>(k.room i v (Tg hi h.n) (TL hv (h.fF i hi))).trans (h.room i v hi hv),k.fr.trans h.fr,k.main.trans h.main⟩
def qg (E:Env)(e:End)(a:Option Vf)(n cap:Nat):Prop:=match e with
 |.exact=>cap=n
 |.shut=>True
 |.opn k=>k<E.n/\n<=E.fF k/\E.room k n=(a,cap)
inductive ap (E:Env):AV->SP->Prop
 |val (x:SP):ap E (.val x) x
 |agg {l:List AV} {cs:Array SP} (hs:cs.size=l.length) (h:∀(i:Nat) a,l[i]?=some a->ap E a (cs.getD i undef)):ap E (.agg l) (.agg cs)
 |aQ {l:List AV} {cs:Array SP} (hs:cs.size=l.length) (h:∀(i:Nat) a,l[i]?=some a->ap E a (cs.getD i undef)):ap E (.aQ l) (.tuple cs)
 |sl {n:Nat} {l:List AV} {e:End} (b o cap:Nat) (f:Nat->SP) (hc:n<=cap) (he:qg E e (some ⟨b,o,none⟩) n cap)
   (h1:∀i,i<l.length->E.I b (o+i)=some (f i)) (h2:∀(i:Nat) x,l[i]?=some x->ap E x (f i)):ap E (.sl n l e) (.slice (some ⟨b,o,none⟩) n cap)
 |nil {e:End} {a:Option Vf} (he:qg E e a 0 0):ap E (.sl 0 [] e) (.slice a 0 0)
 |bA {id off n cap cap':Nat} (hi:id<E.n) (dR:n<=cap'/\(n<=cap->cap=cap')/\(cap<n->cap'<=(E.room id 0).2)):ap E (.bA id off n cap) (.slice (some ⟨E.blk id,off,none⟩) n cap')
 |rp {l:List AV} (b o:Nat) (f:Nat->SP) (h1:∀i,i<l.length->E.I b (o+i)=some (f i)) (h2:∀(i:Nat) x,l[i]?=some x->ap E x (f i)):ap E (.rp l) (.pointer (some ⟨b,o,none⟩))
 |op {id off:Nat} (hi:id<E.n):ap E (.op id off) (.pointer (some ⟨E.blk id,off,none⟩))
 |fn {f:Fn} {first cU:List AV} {fa ca:Array SP} (dT:fa.size=first.length) (fZ:ca.size=cU.length) (h1:∀(i:Nat) a,first[i]?=some a->ap E a (fa.getD i undef)) (h2:∀(i:Nat) a,cU[i]?=some a->ap E a (ca.getD i undef)):ap E (.fn f first cU) (.func f fa ca)
 |cZ {t:TypeId} {x:AV} {v:SP} (h:ap E x v):ap E (.cZ t x) (.iface t v)
 |mp {id:Nat} (hi:id<E.n):ap E (.mp id) (.map (some (E.blk id)))
theorem qg.mono{E E':Env}(h:E.Le E'){e:End}{a:Option Vf}{n cap:Nat}(k:qg E e a n cap):qg E' e a n cap:=by
 cases e with
 |exact=>exact k
 |shut=>trivial
 |opn i=>exact⟨Tg k.1 h.n,TL k.2.1 (h.fF i k.1),by rw[h.room i n k.1 k.2.1];exact k.2.2⟩
theorem ap.mono{E E':Env}(h:E.Le E'){a:AV}{v:SP}(d:ap E a v):ap E' a v:=by
 induction d with
 |val x=>exact .val x
 |agg hs _ ih=>exact .agg hs ih
 |aQ hs _ ih=>exact .aQ hs ih
 |sl b o cap f hc he h1 _ ih=>exact .sl b o cap f hc (he.mono h) (λi hi=>h.I _ _ _ (h1 i hi)) ih
 |nil he=>exact .nil (he.mono h)
 |bA hi dR=>rw[<- h.blk _ hi];exact .bA (Tg hi h.n) ⟨dR.1,dR.2.1,λe=>by rw[h.room _ 0 hi (X9 _)];exact dR.2.2 e⟩
 |rp b o f h1 _ ih=>exact .rp b o f (λi hi=>h.I _ _ _ (h1 i hi)) ih
 |op hi=>rw[<- h.blk _ hi];exact .op (Tg hi h.n)
 |fn dT fZ _ _ m_ lB=>exact .fn dT fZ m_ lB
 |cZ _ ih=>exact .cZ ih
 |mp hi=>rw[<- h.blk _ hi];exact .mp (Tg hi h.n)
def AV.leaf:AV->Bool
 |.agg _|.aQ _=>false
 |.val x=>x.one
 |_=>true
inductive aa where
 |cells (l:List AV) (elem:TypeId)
 |part (p:Nat) (l:List AV) (elem:TypeId)
 |own (sz:Nat) (l:List AV) (elem:TypeId)
 |tail (n sz:Nat) (elem:TypeId)
 |obj (x:Obj)
 |iter (m since:Nat) (seen:Array Nat) (uw:Nat)
 |loop (r:Nat) (st:af') (pend:Option Uc) (fn:TY) (T:List (Nat×AV)) (nt:Nat) (ps:Array Tmp) (bS body:Uc) (df:Nat)
 |gone
 |main
def look:List (Nat×AV)->Nat->Option AV
 |[],_=>none
 |(k,a)::l,t=>if k=t then some a else look l t
def cr (E:Env)(T:List (Nat×AV))(tmps:Array SP):Prop:=∀t a,look T t=some a->t<tmps.size/\ap E a (tmps.getD t undef)
theorem cr.mono{E E':Env}(h:E.Le E'){T:List (Nat×AV)}{tmps:Array SP}(k:cr E T tmps):cr E' T tmps:=λt a e=>⟨(k t a e).1,(k t a e).2.mono h⟩
theorem cr.put{E:Env}{T:List (Nat×AV)}{tmps:Array SP}(k:cr E T tmps){d:Nat}(hd:d<tmps.size){a:AV}{v:SP}(hv:ap E a v):cr E ((d,a)::T) (tmps.setIfInBounds d v):=by
 intro t x e;simp only[look]at e;by_cases h:d=t
 ·subst h;rw[if_pos rfl]at e;cases e;exact⟨by simpa using hd,by simpa[SH,Tb hd]using hv⟩
 ·rw[if_neg h]at e;have:=k t x e;exact⟨by simpa using this.1,by simpa[SH,SX h]using this.2⟩
def cK (E:Env)(l:List AV)(cs:Array SP):Prop:=cs.size=l.length/\∀(i:Nat) a,l[i]?=some a->ap E a (cs.getD i undef)
theorem cK.mono{E E':Env}(h:E.Le E'){l:List AV}{cs:Array SP}(d:cK E l cs):cK E' l cs:=⟨d.1,λi a e=>(d.2 i a e).mono h⟩
def j8 (E:Env)(l:List AV)(cs:Array SP):Prop:=l.length<=cs.size/\∀(i:Nat) a,l[i]?=some a->ap E a (cs.getD i undef)
theorem j8.mono{E E':Env}(h:E.Le E'){l:List AV}{cs:Array SP}(d:j8 E l cs):j8 E' l cs:=⟨d.1,λi a e=>(d.2 i a e).mono h⟩
theorem cK.p{E:Env}{l:List AV}{cs:Array SP}(d:cK E l cs):j8 E l cs:=⟨WL d.1.symm,d.2⟩
def bT (E:Env)(k:Nat):aa->Option Nat
 |.tail n _ _=>if(E.room k n).2=n then none else(E.room k n).1.map (·.block)
 |.gone|.main=>none
 |_=>some (E.blk k)
def fS (E:Env)(V:View)(k:Nat):aa->Prop
 |.cells l elem=>(∃cs,V.own (E.blk k)=some (.cells cs elem (0,0))/\cK E l cs)/\∀o,V.ah (E.blk k) o=none
 |.part p l elem=>(∃cs,V.own (E.blk k)=some (.cells cs elem (0,0))/\j8 E l cs/\∀o,o<p->V.ah (E.blk k) o=cs[o]?)/\∀o,p<=o->V.ah (E.blk k) o=none
 |.own sz l elem=>(∃cs,V.own (E.blk k)=some (.cells cs elem (0,0))/\j8 E l cs/\cs.size=(E.room k 0).2* sz)/\∀o,V.ah (E.blk k) o=none
 |.tail n sz elem=>E.fF k=n/\((E.room k n).2=n\/∃b cap cs,E.room k n=(some ⟨b,0,none⟩,cap)/\V.own b=some (.cells cs elem (0,0))/\cs.size=cap* sz/\n<cap/\∀o,n* sz<=o->V.ah b o=none)
 |.obj x=>V.own (E.blk k)=some x/\x.vK=false/\x.isChan=false/\∀o,V.ah (E.blk k) o=none
 |.iter m since seen uw=>m<E.n/\V.own (E.blk k)=some (.mapIter (some (E.blk m)) since seen uw)/\∀o,V.ah (E.blk k) o=none
 |.loop r st pend fn T nt ps bS body df=>(∃tmps,V.own (E.blk k)=some (.loop {state:=st,pending:=pend,fn,tmps,params:=ps,assign:=bS,body,defers:=E.blk df})/\tmps.size=nt/\cr E T tmps)/\df<E.n/\(∀o,V.ah (E.blk k) o=none)/\E.blk k=r
 |.gone=>True
 |.main=>E.main=true
structure Conc (E:Env)(V:View)(H:List aa):Prop where
 I:E.I=V.ah
 n:E.n=H.length
 obj:∀k x,H[k]?=some x->fS E V k x
 inj:∀i j x y b,H[i]?=some x->H[j]?=some y->bT E i x=some b->bT E j y=some b->i=j
 group:∀g,V.role.group=some g->V.own g≠none/\(∀o,V.ah g o=none)/\∀(k:Nat) x,H[k]?=some x->bT E k x≠some g
 chan:∀c,V.role.chan=some c->V.own c≠none/\(∀o,V.ah c o=none)/\∀(k:Nat) x,H[k]?=some x->bT E k x≠some c
 top:E.main=true->V.role=.plain/\V.deaf=0
 fr:∀b y,E.fr b=some y->V.own b=some y/\(∀o,V.ah b o=none)/\∀(k:Nat) x,H[k]?=some x->bT E k x≠some b
structure AS where
 T:List (Nat×AV)
 H:List aa
def AS.Le (s s':AS):Prop:=(∀t a,look s'.T t=some a->look s.T t=some a)/\s'.H=s.H
def AV.of:SP->AV
 |.agg cs=> .agg (cs.toList.map λ|.slice none 0 0=> .sl 0 [] .exact|v=> .val v)
 |.slice none 0 0=> .sl 0 [] .exact
 |v=> .val v
def AV.p_:SP->AV
 |.slice none 0 0=> .sl 0 [] .exact
 |v=> .val v
theorem Kq(E:Env)(v:SP):ap E (AV.p_ v) v:=by
 unfold AV.p_;split
 ·exact .nil rfl
 ·exact .val _
theorem tp(E:Env)(v:SP):ap E (AV.of v) v:=by
 unfold AV.of;split
 ·rename_i cs;refine .agg (by simp) λi a h=> ?_;rw[Tp]at h;obtain⟨x,hx,rfl⟩:=Ts.1 h;have:cs[i]?=some x:=by simpa using hx
  rw[SH,this];exact Kq E x
 ·exact .nil rfl
 ·exact .val _
def AS.ev (s:AS):Tl->Option AV
 |.tmp t=>look s.T t
 |.const v=>some (AV.of v)
 |.func f=>some (.fn (.func f) [] [])
 |.global _=>none
theorem ap.ev{E:Env}{s:AS}{a:Act}(k:cr E s.T a.tmps){x:Tl}{av:AV}(h:s.ev x=some av):ap E av (a.eval x):=by
 cases x with
 |tmp t=>exact(k t av h).2
 |const v=>cases h;exact tp E v
 |func f=>cases h;exact .fn rfl rfl (by simp) (by simp)
 |global g=>cases h
theorem fS.CX{E:Env}{V:View}{k:Nat}{x:aa}(h:fS E V k x){b:Nat}(hb:bT E k x=some b):∃y,V.own b=some y:=by
 cases x with
 |cells l el=>cases hb;obtain⟨⟨cs,h1,_⟩,_⟩:=h;exact⟨_,h1⟩
 |part p l el=>cases hb;obtain⟨⟨cs,h1,_⟩,_⟩:=h;exact⟨_,h1⟩
 |own p l el=>cases hb;obtain⟨⟨cs,h1,_⟩,_⟩:=h;exact⟨_,h1⟩
 |tail n sz el=>
  obtain⟨hv,h|⟨b',cap,cs,h1,h2,h3,h4,h5⟩⟩:=h
  ·simp only[bT,h,if_true]at hb;cases hb
  ·simp only[bT,h1]at hb;rw[if_neg (by omega)]at hb;cases hb;exact⟨_,h2⟩
 |obj x=>cases hb;exact⟨_,h.1⟩
 |iter m since seen uw=>cases hb;exact⟨_,h.2.1⟩
 |loop=>cases hb;obtain⟨⟨tmps,h1,_⟩,_⟩:=h;exact⟨_,h1⟩
 |gone=>cases hb
 |main=>cases hb
theorem QP{E E':Env}(hl:E.Le E'){k:Nat}(hk:k<E.n){x:aa}{V:View}(h:fS E V k x):bT E' k x=bT E k x:=by
 cases x with
 |tail n sz el=>simp only[bT];rw[hl.room k n hk (WL h.1.symm)]
 |gone=>rfl
 |main=>rfl
 |_=>simp only[bT,hl.blk k hk]
theorem fS.mono{E E':Env}{V V':View}{k:Nat}{x:aa}(h:fS E V k x)(hl:E.Le E')(hk:k<E.n)(Bx:E'.fF k=E.fF k)
  (ho:∀b y,bT E k x=some b->V.own b=some y->V'.own b=some y) (hi:∀b,bT E k x=some b->∀o,V'.ah b o=V.ah b o):fS E' V' k x:=by
 cases x with
 |cells l el=>
  obtain⟨⟨cs,h1,h2⟩,h3⟩:=h;simp only[fS,hl.blk k hk];exact⟨⟨cs,ho _ _ rfl h1,h2.mono hl⟩,λo=>(hi _ rfl o).trans (h3 o)⟩
 |part p l el=>
  obtain⟨⟨cs,h1,h2,h4⟩,h3⟩:=h;simp only[fS,hl.blk k hk];exact⟨⟨cs,ho _ _ rfl h1,h2.mono hl,λo hp=>(hi _ rfl o).trans (h4 o hp)⟩,λo hp=>(hi _ rfl o).trans (h3 o hp)⟩
 |own sz l el=>
  obtain⟨⟨cs,h1,h2,h4⟩,h3⟩:=h;simp only[fS,hl.blk k hk,hl.room k 0 hk (X9 _)];exact⟨⟨cs,ho _ _ rfl h1,h2.mono hl,h4⟩,λo=>(hi _ rfl o).trans (h3 o)⟩
 |tail n sz el=>
  obtain⟨hv,h⟩:=h;simp only[fS,Bx,hl.room k n hk (WL hv.symm)];refine⟨hv,?_⟩;rcases h with h|⟨b',cap,cs,h1,h2,h3,h4,h5⟩
  ·exact .inl h
  ·have hb:bT E k (.tail n sz el)=some b':=(by simp only[bT,h1];rw[if_neg (by omega)];rfl);exact .inr ⟨b',cap,cs,h1,ho _ _ hb h2,h3,h4,λo hm=>(hi _ hb o).trans (h5 o hm)⟩
 |obj x=>
  obtain⟨h1,h2,h4,h3⟩:=h;simp only[fS,hl.blk k hk];exact⟨ho _ _ rfl h1,h2,h4,λo=>(hi _ rfl o).trans (h3 o)⟩
 |iter m since seen uw=>
  obtain⟨h0,h1,h2⟩:=h;simp only[fS,hl.blk k hk,hl.blk m h0];exact⟨Tg h0 hl.n,ho _ _ rfl h1,λo=>(hi _ rfl o).trans (h2 o)⟩
 |loop r st pend fn T nt ps bS body df=>
  obtain⟨⟨tmps,h1,h2,h3⟩,h4,h5,h6⟩:=h;simp only[fS,hl.blk k hk,hl.blk df h4];exact⟨⟨tmps,ho _ _ rfl h1,h2,h3.mono hl⟩,Tg h4 hl.n,λo=>(hi _ rfl o).trans (h5 o),h6⟩
 |gone=>trivial
 |main=>exact hl.main.trans h
theorem Conc.iO{E E':Env}{V V':View}{H H':List aa}(hc:Conc E V H)(k:Nat)(x':aa)(hle:E.Le E')(hI:E'.I=V'.ah)(hn:E'.n=H'.length)
  (hH:∀(j:Nat) y,H'[j]?=some y->(j=k/\y=x')\/(j≠k/\H[j]?=some y)) (hr:V'.role=V.role)
  (Bx:∀j,j≠k->j<E.n->E'.fF j=E.fF j)
  (ho:∀b y,(∀x,H[k]?=some x->bT E k x≠some b)->V.own b=some y->V'.own b=some y/\∀o,V'.ah b o=V.ah b o)
  (hx:fS E' V' k x') (hb:∀b,bT E' k x'=some b->(∃x,H[k]?=some x/\bT E k x=some b)\/V.own b=none) (bC:V'.deaf=V.deaf:=by rfl):Conc E' V' H':=by
 have hlt:∀(j:Nat) y,H[j]?=some y->j<E.n:=λj y h=>by rw[hc.n];exact(SL.1 h).1
 have cO:∀(j:Nat) y b,H[j]?=some y->bT E' j y=some b->bT E j y=some b:=λj y b h e=>by rw[<- QP hle (hlt j y h) (hc.obj j y h)];exact e
 have abe:∀(j:Nat) y b,j≠k->H[j]?=some y->bT E j y=some b->∀x,H[k]?=some x->bT E k x≠some b:=λj y b hj h1 h2 x h3 h4=>hj (hc.inj j k y x b h1 h3 h2 h4);have hg:∀(j:Nat) y,H'[j]?=some y->∀g,V.own g≠none->(∀(i:Nat) x,H[i]?=some x->bT E i x≠some g)->bT E' j y≠some g:=λj y h g pO fA e=>by
  rcases hH j y h with⟨rfl,rfl⟩|⟨hj,h⟩
  ·rcases hb g e with⟨x,h1,h2⟩|h2
   ·exact fA _ x h1 h2
   ·exact pO h2
  ·exact fA j y h (cO j y g h e)
 have hk:∀g,V.own g≠none->(∀(i:Nat) x,H[i]?=some x->bT E i x≠some g)->V'.own g≠none/\∀o,V'.ah g o=V.ah g o:=λg pO fA=>by
  cases e:V.own g with
  |none=>exact absurd e pO
  |some y=>
   have:=ho g y (λx hx=>fA k x hx) e;exact⟨by rw[this.1];simp,this.2⟩
 refine⟨hI,hn,λj y h=> ?_,λi j y z b h1 h2 e1 e2=> ?_,λg aaU=> ?_,λc ff=> ?_,λhm=>(by rw[hr,bC];exact hc.top (by rw[<- hle.main];exact hm)),λb y gL=> ?_⟩
 ·rcases hH j y h with⟨rfl,rfl⟩|⟨hj,h⟩
  ·exact hx
  ·have lU:=hc.obj j y h;refine lU.mono hle (hlt j y h) (Bx j hj (hlt j y h)) (λb z kH hz=> ?_) (λb kH o=> ?_)
   ·exact(ho b z (abe j y b hj h kH) hz).1
   ·obtain⟨z,hz⟩:=lU.CX kH;exact(ho b z (abe j y b hj h kH) hz).2 o
 ·have new:∀(j:Nat) y,j≠k->H[j]?=some y->bT E' j y=some b->bT E' k x'≠some b:=λj y hj h e e'=>by
   have e:=cO j y b h e;rcases hb b e' with⟨x,vE,hx2⟩|h1
   ·exact hj (hc.inj j k y x b h vE e hx2)
   ·obtain⟨q,hq⟩:=(hc.obj j y h).CX e;rw[h1]at hq;cases hq
  rcases hH i y h1 with⟨rfl,rfl⟩|⟨hi,h1⟩<;>rcases hH j z h2 with⟨rfl,rfl⟩|⟨hj,h2⟩
  ·rfl
  ·exact absurd e1 (new j z hj h2 e2)
  ·exact absurd e2 (new i y hi h1 e1)
  ·exact hc.inj i j y z b h1 h2 (cO i y b h1 e1) (cO j z b h2 e2)
 ·rw[hr]at aaU;obtain⟨h0,h1,h2⟩:=hc.group g aaU;exact⟨(hk g h0 h2).1,λo=>((hk g h0 h2).2 o).trans (h1 o),λj y h=>hg j y h g h0 h2⟩
 ·rw[hr]at ff;obtain⟨h0,h1,h2⟩:=hc.chan c ff;exact⟨(hk c h0 h2).1,λo=>((hk c h0 h2).2 o).trans (h1 o),λj y h=>hg j y h c h0 h2⟩
 ·rw[hle.fr]at gL;obtain⟨h0,h1,h2⟩:=hc.fr b y gL;have GF:V.own b≠none:=by rw[h0];simp
  exact⟨(ho b y (λx hx=>h2 k x hx) h0).1,λo=>((hk b GF h2).2 o).trans (h1 o),λj z h=>hg j z h b GF h2⟩
theorem lD{α:Type}{H:List α}{k:Nat}{x':α}:∀(j:Nat) y,(H.set k x')[j]?=some y->(j=k/\y=x')\/(j≠k/\H[j]?=some y):=λj y h=>by
 by_cases hj:j=k
 ·subst hj;rw[List.getElem?_set_self']at h;cases e:H[j]?with
  |none=>rw[e]at h;cases h
  |some z=>rw[e]at h;exact .inl ⟨rfl,by simpa using h.symm⟩
 ·rw[Ud (Ne.symm hj)]at h;exact .inr ⟨hj,h⟩
theorem EH{α:Type}{H:List α}{x':α}:∀(j:Nat) y,(H++[x'])[j]?=some y->(j=H.length/\y=x')\/(j≠H.length/\H[j]?=some y):=λj y h=>by
 by_cases hk:j<H.length
 ·rw[S0 hk]at h;exact .inr ⟨by omega,h⟩
 ·rw[S_ (by omega)]at h;have aJ:j-H.length=0:=by
   have:=(SL.1 h).1;simpa using this
  rw[aJ]at h;exact .inl ⟨by omega,by simpa using h.symm⟩
theorem Conc.jq{E:Env}{V:View}{H:List aa}(hc:Conc E V H){k:Nat}{x:aa}(hk:H[k]?=some x){b:Nat}(hb:bT E k x=some b):V.role.group≠some b/\V.role.chan≠some b:=
 ⟨λe=>(hc.group b e).2.2 k x hk hb,λe=>(hc.chan b e).2.2 k x hk hb⟩
theorem Conc.abH{E:Env}{V:View}{H:List aa}(hc:Conc E V H){b o:Nat}{v:SP}(h:E.I b o=some v):V.role.group≠some b/\V.role.chan≠some b:=
 ⟨λe=>(by have:=(hc.group b e).2.1 o;rw[<- hc.I,h]at this;cases this),λe=>(by have:=(hc.chan b e).2.1 o;rw[<- hc.I,h]at this;cases this)⟩
open Go.Conc
def AS.put (s:AS)(dst:Option Nat)(av:AV):AS:=match dst with
 |some d=>⟨(d,av)::s.T,s.H⟩
 |none=>s
theorem cr.ie{E:Env}{s:AS}{a:Act}(k:cr E s.T a.tmps){dst:Option Nat}(hd:∀d,dst=some d->d<a.tmps.size){av:AV}{v:SP}(hv:ap E av v):cr E (s.put dst av).T (a.put dst v).tmps:=by
 cases dst with
 |none=>exact k
 |some d=>exact cr.put k (hd d rfl) hv
theorem ft(s:AS)(dst:Option Nat)(av:AV):(s.put dst av).H=s.H:=by cases dst<;>rfl
theorem eg(a:Act)(dst:Option Nat)(v:SP):(a.put dst v).tmps.size=a.tmps.size:=by cases dst<;>simp[Yf]
theorem put_defers(a:Act)(dst:Option Nat)(v:SP):(a.put dst v).defers=a.defers:=by cases dst<;>rfl
structure Kept (E E':Env)(V V':View)(a a':Act):Prop where
 le:E.Le E'
 size:a'.tmps.size=a.tmps.size
 defers:a'.defers=a.defers
 role:V'.role=V.role
 deaf:V'.deaf=V.deaf
def Step (lv:Bool)(P:SI)(r:Option Nat)(o:Tx)(s:AS)(next:AS->Prop)(bad:AV->AS->Prop):Prop:=
 ∀(E:Env)(V:View)(a:Act)(N:Act->View->Prop)(Q:Ex->Act->View->Prop),Conc E V s.H->cr E s.T a.tmps->(∀d,o.dst=some d->d<a.tmps.size)->(r=none\/mA o.op=false)->
  (∀E' V' a' s',Kept E E' V V' a a'->Conc E' V' s'.H->cr E' s'.T a'.tmps->next s'->N a' V')->
  (∀E' V' s' pv v,Kept E E' V V' a a->Conc E' V' s'.H->cr E' s'.T a.tmps->ap E' pv v->bad pv s'->Q (.panic [{v,recovered:=false}]) a V')->xV lv P r o a V N Q
def dD (lv:Bool)(P:SI)(r:Option Nat)(o:Tx)(s:AS)(av:AV):Prop:=
 ∀(E:Env)(V:View)(a:Act)(N:Act->View->Prop)(Q:Ex->Act->View->Prop),Conc E V s.H->cr E s.T a.tmps->(r=none\/mA o.op=false)->
  (∀E' V' v,E.Le E'->V'.role=V.role->V'.deaf=V.deaf->Conc E' V' s.H->ap E' av v->N (a.put o.dst v) V')->xV lv P r o a V N Q
section
variable {lv:Bool}{P:SI}{r:Option Nat}{o:Tx}{s:AS}{next:AS->Prop}{bad:AV->AS->Prop}
theorem Step.mono{next':AS->Prop}{QK:AV->AS->Prop}(h:Step lv P r o s next bad)(hn:∀s,next s->next' s)(hb:∀c s,bad c s->QK c s):Step lv P r o s next' QK:=
 λE V a N Q h1 h2 h3 h4 h5 h6=>h E V a N Q h1 h2 h3 h4 (λE' V' a' s' x1 x2 x3 x4=>h5 E' V' a' s' x1 x2 x3 (hn _ x4)) (λE' V' s' pv v x1 x2 x3 x4 x5=>h6 E' V' s' pv v x1 x2 x3 x4 (hb _ _ x5))
theorem jb{av:AV}(h:∀(E:Env)(V:View)(a:Act),Conc E V s.H->cr E s.T a.tmps->aS P V (execOp a.eval o) (λnx V'=>V'=V/\∃v,nx=.value v/\ap E av v) (λ_ _=>False)):dD lv P r o s av:=by
 intro E V a N Q hc ht bC h1;refine⟨bC,(h E V a hc ht).mono (λnx V' hx=> ?_) (λ_ _ hx=>hx.elim)⟩;obtain⟨rfl,v,rfl,hv⟩:=hx;exact h1 E V' v (Env.Le.refl E) rfl rfl hc hv
theorem sF{av:AV}(h:∀(E:Env)(V:View)(a:Act),Conc E V s.H->cr E s.T a.tmps->∃v,execOp a.eval o=.pure (.value v)/\ap E av v):dD lv P r o s av:=
 jb (λE V a hc ht=>by
  obtain⟨v,h1,h2⟩:=h E V a hc ht;rw[h1];exact cJ ⟨rfl,v,rfl,h2⟩)
theorem dD.step{av:AV}(h:dD lv P r o s av)(hn:next (s.put o.dst av)):Step lv P r o s next bad:=by
 intro E V a N Q hc ht hd bC h1 _;refine h E V a N Q hc ht bC λE' V' v hle cq fg bu hv=> ?_;exact h1 E' V' (a.put o.dst v) (s.put o.dst av) ⟨hle,eg _ _ _,put_defers _ _ _,cq,fg⟩ (by rw[ft];exact bu) ((ht.mono hle).ie hd hv) hn
theorem adi{x:Tl}{av:AV}(ho:o.op=.move x\/o.op=.assign x)(hx:s.ev x=some av):dD lv P r o s (av):=
 sF (λE V a hc ht=>⟨a.eval x,by unfold execOp;rcases ho with ho|ho<;>rw[ho]<;>rfl,ap.ev ht hx⟩)
theorem aqT{c x y:Tl}{b:Bool}{av aw:AV}(ho:o.op=.pick c x y)(hc:s.ev c=some (.val (.bool b)))(hx:s.ev x=some av)(hy:s.ev y=some aw):dD lv P r o s ((if b then av else aw)):=
 sF (λE V a jk ht=>by
  have h1:=ap.ev ht hc;generalize hv:a.eval c=v at h1;cases h1;refine⟨if b then a.eval x else a.eval y,by unfold execOp;rw[ho];simp only[hv];cases b<;>rfl,?_⟩;cases b
  ·exact ap.ev ht hy
  ·exact ap.ev ht hx)
def mj (op:Wd)(k:T8)(x y:Int):Option SP:=match op with
 |.add=>some (.int k (k.wrap (x+y)))
 |.sub=>some (.int k (k.wrap (x-y)))
 |.mul=>some (.int k (k.wrap (x* y)))
 |.eql=>some (.bool (x==y))
 |.neq=>some (.bool (x !=y))
 |.lss=>some (.bool (x<y))
 |.leq=>some (.bool (x<=y))
 |.gtr=>some (.bool (x>y))
 |.geq=>some (.bool (x>=y))
 |.and=>some (.int k (k.wrap (Ul k.bits x&&&Ul k.bits y).toNat))
 |.or=>some (.int k (k.wrap (Ul k.bits x|||Ul k.bits y).toNat))
 |.xor=>some (.int k (k.wrap (Ul k.bits x^^^Ul k.bits y).toNat))
 |.quo=>if y=0 then none else some (.int k (k.wrap (x.tdiv y)))
 |.rem=>if y=0 then none else some (.int k (x.tmod y))
 |_=>none
def B5 (op:Wd)(k:T8)(x y:Int):Option SP:=if y<0 then none else match op with
 |.shl=>some (.int k (k.wrap (x* 2^(min y.toNat k.bits))))
 |.shr=>some (.int k (x.fdiv (2^(min y.toNat k.bits))))
 |_=>none
def na:Wd->Bool
 |.shl|.shr=>true
 |_=>false
theorem ahh{op:Wd}{k:T8}{x y:Int}{v:SP}{t:TypeId}(h:mj op k x y=some v):binOp op t (.int k x) (.int k y)=.pure v:=by
 cases op<;>simp only[mj,Tm,reduceCtorEq]at h<;>try(subst h;simp[binOp,awc,Op.intCmp,Op.intBits];rfl)
 ·split at h
  ·cases h
  ·rename_i hy;simp only[Tm]at h;subst h;simp[binOp,avR,hy];rfl
 ·split at h
  ·cases h
  ·rename_i hy;simp only[Tm]at h;subst h;simp[binOp,avR,hy];rfl
theorem ar7{op:Wd}{k j:T8}{x y:Int}{v:SP}{t:TypeId}(h:B5 op k x y=some v):binOp op t (.int k x) (.int j y)=.pure v:=by
 unfold B5 at h;split at h
 ·cases h
 ·rename_i hy;cases op<;>simp only[Tm,reduceCtorEq]at h
  ·subst h;simp[binOp,av2,hy];rfl
  ·subst h;simp[binOp,av2,hy];rfl
theorem RJ{op:Wd}{t:TypeId}{x y:Tl}{j k:T8}{a b:Int}:eqGuard op t x y (.int j a) (.int k b)=.pure ():=by
 unfold eqGuard;cases op<;>rfl
theorem aqt{op:Wd}{xt yt:TypeId}{x y:Tl}{k:T8}{m n:Int}{v:SP}(ho:o.op=.binOp op xt x y yt)(hx:s.ev x=some (.val (.int k m)))(hy:s.ev y=some (.val (.int k n)))(hv:mj op k m n=some v):dD lv P r o s ((.val v)):=
 sF (λE V a jk ht=>by
  have h1:=ap.ev ht hx;have h2:=ap.ev ht hy;generalize pV:a.eval x=v1 at h1;generalize m8:a.eval y=v2 at h2;cases h1;cases h2;refine⟨v,?_,.val v⟩;unfold execOp;rw[ho];simp only[pV,m8,RJ,ahh hv];rfl)
theorem aqU{op:Wd}{xt yt:TypeId}{x y:Tl}{k j:T8}{m n:Int}{v:SP}(ho:o.op=.binOp op xt x y yt)(hx:s.ev x=some (.val (.int k m)))(hy:s.ev y=some (.val (.int j n)))(hv:B5 op k m n=some v):dD lv P r o s ((.val v)):=
 sF (λE V a jk ht=>by
  have h1:=ap.ev ht hx;have h2:=ap.ev ht hy;generalize pV:a.eval x=v1 at h1;generalize m8:a.eval y=v2 at h2;cases h1;cases h2;refine⟨v,?_,.val v⟩;unfold execOp;rw[ho];simp only[pV,m8,RJ,ar7 hv];rfl)
theorem aqS{t:TypeId}{x:Tl}{b:Bool}(ho:o.op=.unOp .not t x)(hx:s.ev x=some (.val (.bool b))):dD lv P r o s ((.val (.bool !b))):=
 sF (λE V a jk ht=>by
  have h1:=ap.ev ht hx;generalize pV:a.eval x=v1 at h1;cases h1;exact⟨_,by unfold execOp;rw[ho];simp only[pV];rfl,.val _⟩)
theorem aqP{t:TypeId}{x:Tl}{k:T8}{n:Int}(ho:o.op=.unOp .neg t x)(hx:s.ev x=some (.val (.int k n))):dD lv P r o s (.val (.int k (k.wrap (0-n)))):=
 sF (λE V a jk ht=>by
  have h1:=ap.ev ht hx;generalize pV:a.eval x=v1 at h1;cases h1;exact⟨_,by unfold execOp;rw[ho];simp only[pV];rfl,.val _⟩)
theorem aqz{x:Tl}{i:Nat}{l:List AV}{av:AV}(ho:o.op=.extract x i)(hx:s.ev x=some (.aQ l))(hi:l[i]?=some av):dD lv P r o s (av):=
 sF (λE V a jk ht=>by
  have h1:=ap.ev ht hx;generalize pV:a.eval x=v1 at h1;cases h1 with
  |aQ hs h=>
   rename_i cs;have hlt:i<cs.size:=(by rw[hs];exact(SL.1 hi).1);refine⟨cs[i],?_,?_⟩
   ·unfold execOp;rw[ho];simp only[pV,Instr.extract,SJ hlt];rfl
   ·have:=h i av hi;rwa [SH,SJ hlt]at this)
end
theorem add_plain(b o n:Nat):(⟨b,o,none⟩:Vf).add n=⟨b,o+n,none⟩:=by
 unfold av8;split
 ·rename_i h;subst h;rfl
 ·rfl
def AS.at (s:AS):AV->Option (List AV)
 |.rp l=>some l
 |.op id off=>match s.H[id]?with
  |some (.cells l _)=>some (l.drop off)
  |some (.part _ l _)=>some (l.drop off)
  |some (.own _ l _)=>some (l.drop off)
  |_=>none
 |_=>none
def AV.shift (n:Nat):AV->Option AV
 |.rp l=>if n<=l.length then some (.rp (l.drop n))else none
 |.op id off=>some (.op id (off+n))
 |_=>none
theorem Conc.at{E:Env}{V:View}{s:AS}(hc:Conc E V s.H){p:AV}{v:SP}(hd:ap E p v){l:List AV}(h:s.at p=some l):
  ∃(b o:Nat)(f:Nat->SP),v=.pointer (some ⟨b,o,none⟩)/\(∀i,i<l.length->V.get b (o+i)=some (f i))/\(0<l.length->V.role.group≠some b)/\∀(i:Nat) x,l[i]?=some x->ap E x (f i):=by
 cases hd with
 |rp b o f h1 h2=>
  cases h;exact⟨b,o,f,rfl,λi hi=>by unfold View.get;rw[<- hc.I,h1 i hi],λhp=>(hc.abH (h1 0 hp)).1,h2⟩
 |op hi=>
  rename_i id off;simp only[AS.at]at h;cases hk:s.H[id]?with
  |none=>rw[hk]at h;cases h
  |some ob=>
   rw[hk]at h;cases ob with
   |cells l' el=>
    cases h;obtain⟨⟨cs,ho,hs,bx⟩,kK⟩:=hc.obj id _ hk;refine⟨E.blk id,off,λi=>cs.getD (off+i) undef,rfl,λi hi=> ?_,λ_=>(hc.jq hk rfl).1,λi x hx=> ?_⟩
    ·unfold View.get;rw[kK,ho];simp only[Ur]at hi;have hlt:off+i<cs.size:=(by omega);simp only[SH,SJ hlt,S8]
    ·rw[Us]at hx;exact bx _ _ hx
   |part p l' el=>
    cases h;obtain⟨⟨cs,ho,⟨hs,bx⟩,mv⟩,kK⟩:=hc.obj id _ hk;refine⟨E.blk id,off,λi=>cs.getD (off+i) undef,rfl,λi hi=> ?_,λ_=>(hc.jq hk rfl).1,λi x hx=> ?_⟩
    ·simp only[Ur]at hi;have hlt:off+i<cs.size:=(by omega);unfold View.get;by_cases hp:off+i<p
     ·rw[mv _ hp];simp only[SH,SJ hlt,S8]
     ·rw[kK _ (by omega),ho];simp only[SH,SJ hlt,S8]
    ·rw[Us]at hx;exact bx _ _ hx
   |own sz l' el=>
    cases h;obtain⟨⟨cs,ho,⟨hs,bx⟩,_⟩,kK⟩:=hc.obj id _ hk;refine⟨E.blk id,off,λi=>cs.getD (off+i) undef,rfl,λi hi=> ?_,λ_=>(hc.jq hk rfl).1,λi x hx=> ?_⟩
    ·simp only[Ur]at hi;have hlt:off+i<cs.size:=(by omega);unfold View.get;rw[kK,ho];simp only[SH,SJ hlt,S8]
    ·rw[Us]at hx;exact bx _ _ hx
   |_=>cases h
 |_=>cases h
theorem ap.shift{E:Env}{p q:AV}{v:SP}(hd:ap E p v){n:Nat}(h:p.shift n=some q):∃b o,v=.pointer (some ⟨b,o,none⟩)/\ap E q (.pointer (some ⟨b,o+n,none⟩)):=by
 cases hd with
 |rp b o f h1 h2=>
  simp only[AV.shift]at h;split at h
  ·rename_i hn;cases h;refine⟨b,o,rfl,.rp b (o+n) (λi=>f (n+i)) (λi hi=> ?_) (λi x hx=> ?_)⟩
   ·simp only[Ur]at hi;rw[U5];exact h1 _ (by omega)
   ·rw[Us]at hx;exact h2 _ _ hx
  ·cases h
 |op hi=>cases h;exact⟨_,_,rfl,.op hi⟩
 |_=>cases h
section
variable {P:SI}{V:View}{α:Type}{K:α->View->Prop}{Kp:SP->View->Prop}
theorem ey{t:TypeId}{d:TypeDesc}{k:TypeDesc->Sem α}(h:P.underlying t=some d)(hk:aS P V (k d) K Kp):aS P V (underlying t>>=k) K Kp:=by
 unfold underlying;refine aA (aA (rf (cJ ?_)));rw[h];exact au hk
theorem zN{t:TypeId}{i:Wo}{k:Wo->Sem α}(h:P.info? t=some i)(hk:aS P V (k i) K Kp):aS P V (typeInfo t>>=k) K Kp:=by
 unfold typeInfo;refine aA (aA (rf (cJ ?_)));rw[h];exact au hk
theorem j5{t:TypeId}{i:Wo}{k:Nat->Sem α}(h:P.info? t=some i)(hk:aS P V (k i.size) K Kp):aS P V (sizeOf t>>=k) K Kp:=by
 refine aA ?_;unfold sizeOf;exact zN h (au hk)
def TypeDesc.agg:TypeDesc->Bool
 |.struct _|.array _ _=>true
 |_=>false
theorem Fh{t:TypeId}{d:TypeDesc}{k:Bool->Sem α}(h:P.underlying t=some d)(hk:aS P V (k (TypeDesc.agg d)) K Kp):aS P V (isAgg t>>=k) K Kp:=by
 refine aA ?_;unfold isAgg;refine ey h ?_;cases d<;>exact au hk
theorem arV{b o:Nat}{v:SP}{k:SP->Sem α}(hg:V.role.group≠some b)(e:V.get b o=some v)(hk:aS P V (k v) K Kp):aS P V (load ⟨b,o,none⟩>>=k) K Kp:=
 aA (Pc e (.inl hg) (cJ hk))
theorem adF{b o:Nat}{f:Nat->SP}{K:Array SP->View->Prop}:∀(n i:Nat)(acc:Array SP),(0<n->V.role.group≠some b)->(∀j,j<n->V.get b (o+(i+j))=some (f (i+j)))->
  K (acc++((SR n).map λj=>f (i+j)).toArray) V->aS P V (loadCellsFrom ⟨b,o,none⟩ i n acc) K Kp
 |0,i,acc,_,_,h=>au (by simpa using h)
 |n+1,i,acc,hg,he,h=>by
  have h0:=he 0 (by omega);unfold loadCellsFrom;rw[add_plain];refine arV (hg (by omega)) h0 ?_;refine adF n (i+1) _ (λ_=>hg (by omega)) (λj hj=>by have:=he (j+1) (by omega);rwa [show i+(j+1)=i+1+j by omega]at this) ?_;have e:(acc.push (f (i+0))++((SR n).map λj=>f (i+1+j)).toArray)=acc++((SR (n+1)).map λj=>f (i+j)).toArray:=by
   rw[List.range_succ_eq_map];apply VJ;simp[YF,U5,aq' 1]
  rw[e];exact h
theorem B1{b o n:Nat}{f:Nat->SP}(hg:0<n->V.role.group≠some b){K:Array SP->View->Prop}(he:∀j,j<n->V.get b (o+j)=some (f j))(h:K ((SR n).map f).toArray V):aS P V (loadCells ⟨b,o,none⟩ n) K Kp:=
 adF n 0 #[] hg (λj hj=>by simpa using he j hj) (by simpa using h)
end
theorem ld{α β:Type}{x:Option α}{f:α->β}{y:β}(h:x.map f=some y):∃a,x=some a/\f a=y:=Ts.1 h
def Ty (P:SI)(t:TypeId):Option (Nat×Bool):=(P.info? t).bind λi=>(P.underlying t).map λd=>(i.size,TypeDesc.agg d)
theorem Ty.out{P:SI}{t:TypeId}{n:Nat}{g:Bool}(h:Ty P t=some (n,g)):∃i d,P.info? t=some i/\P.underlying t=some d/\i.size=n/\TypeDesc.agg d=g:=by
 unfold Ty at h;obtain⟨i,h1,h2⟩:=Th.1 h;obtain⟨d,h3,h4⟩:=ld h2;cases h4;exact⟨i,d,h1,h3,rfl,rfl⟩
theorem Ks{E:Env}{l:List AV}{f:Nat->SP}{n:Nat}(hn:n<=l.length)(h:∀(i:Nat) x,l[i]?=some x->ap E x (f i)):ap E (.agg (l.take n)) (.agg ((SR n).map f).toArray):=by
 refine .agg (by simp;omega) λi x hx=> ?_;rw[Ui]at hx;split at hx
 ·rename_i hi;have:=h i x hx;simpa[SH,hi]using this
 ·cases hx
def AV.row:AV->Option (Nat×AV)
 |.sl n l _=>some (n,.rp l)
 |.bA id off n _=>some (n,.op id off)
 |_=>none
theorem ap.row{E:Env}{a p:AV}{v:SP}{n:Nat}(hd:ap E a v)(h:a.row=some (n,p))(h0:0<n):∃b o cap,v=.slice (some ⟨b,o,none⟩) n cap/\ap E p (.pointer (some ⟨b,o,none⟩)):=by
 cases hd with
 |sl b o cap f hc he h1 h2=>cases h;exact⟨b,o,cap,rfl,.rp b o f h1 h2⟩
 |nil he=>cases h;exact absurd h0 (by simp)
 |bA hi=>cases h;exact⟨_,_,_,rfl,.op hi⟩
 |_=>cases h
def AV.len:AV->Option Nat
 |.sl n _ _=>some n
 |.bA _ _ n _=>some n
 |_=>none
theorem ap.len{E:Env}{a:AV}{v:SP}{n:Nat}(hd:ap E a v)(h:a.len=some n):∃ad cap,v=.slice ad n cap:=by
 cases hd with
 |sl b o cap f hc he h1 h2=>cases h;exact⟨_,_,rfl⟩
 |nil he=>cases h;exact⟨_,_,rfl⟩
 |bA hi=>cases h;exact⟨_,_,rfl⟩
 |_=>cases h
def eR (P:SI)(t:TypeId)(k:Nat):Option Nat:=match P.underlying t with
 |some (.struct fs)=>match fs[k]?with
  |some f=>match P.info? f.type with
   |some i=>if i.size=0 then none else some f.offset
   |none=>none
  |none=>none
 |_=>none
def nj (P:SI)(t:TypeId):Option (Option Nat×Nat):=match P.underlying t with
 |some (.array n e)=>(P.info? e).map λi=>(some n,i.size)
 |some (.slice e)=>(P.info? e).map λi=>(none,i.size)
 |_=>none
inductive xU where
 |slice|map|str|arr (n:Nat)
def kW (P:SI)(t:TypeId):Option xU:=match P.underlying t with
 |some (.slice _)=>some .slice
 |some (.map _ _)=>some .map
 |some .string=>some .str
 |some (.array n _)=>some (.arr n)
 |_=>none
def JJ (P:SI)(t:TypeId)(k:Nat):Option (Nat×Nat×Bool):=match P.underlying t with
 |some (.struct fs)=>match fs[k]?with
  |some f=>(Ty P f.type).map λx=>(f.offset,x.1,x.2)
  |none=>none
 |_=>none
def JC (P:SI)(t:TypeId):Option (Nat×Nat×Bool):=match P.underlying t with
 |some (.array n e)=>(Ty P e).map λx=>(n,x.1,x.2)
 |_=>none
section
variable {lv:Bool}{P:SI}{r:Option Nat}{o:Tx}{s:AS}{next:AS->Prop}{bad:AV->AS->Prop}
theorem aqI{t:TypeId}{x:Tl}{p:AV}{l:List AV}{n:Nat}(ho:o.op=.load t x)(ht:Ty P t=some (n,true))(hx:s.ev x=some p)(hl:s.at p=some l)(hlen:n<=l.length):dD lv P r o s ((.agg (l.take n))):=
 jb (λE V a hc aE=>by
  obtain⟨i,d,h1,h2,rfl,h4⟩:=Ty.out ht;obtain⟨b,off,f,hv,hg,kv,hd⟩:=hc.at (ap.ev aE hx) hl;unfold execOp;rw[ho];simp only[hv];refine aA ?_;unfold XK Vm;refine aA (au ?_);unfold loadVar;refine Fh h2 ?_;rw[h4];simp only[if_true];refine j5 h1 ?_;refine aA (B1 (f:=f) (λh=>kv (by omega)) (λj hj=>hg j (by omega)) ?_);exact au (au ⟨rfl,_,rfl,Ks hlen hd⟩))
theorem aqJ{t:TypeId}{x:Tl}{p:AV}{l:List AV}{n:Nat}{av:AV}(ho:o.op=.load t x)(ht:Ty P t=some (n,false))(hx:s.ev x=some p)(hl:s.at p=some l)(h0:l[0]?=some av):dD lv P r o s (av):=
 jb (λE V a hc aE=>by
  obtain⟨i,d,h1,h2,rfl,h4⟩:=Ty.out ht;obtain⟨b,off,f,hv,hg,kv,hd⟩:=hc.at (ap.ev aE hx) hl;unfold execOp;rw[ho];simp only[hv];refine aA ?_;unfold XK Vm;refine aA (au ?_);unfold loadVar;refine Fh h2 ?_;rw[h4];simp only[TV,if_false];have hlen:0<l.length:=(SL.1 h0).1;have lR:=hg 0 hlen;rw[UJ]at lR;exact Pc lR (.inl (kv hlen)) (cJ (au ⟨rfl,_,rfl,hd 0 av h0⟩)))
def AV.sure:AV->Bool
 |.rp _|.op _ _=>true
 |.fn (.func _) _ _=>true
 |.fn (.yield _) _ _=>true
 |.cZ _ _=>true
 |_=>false
theorem aqQ{x:Tl}{p:AV}(ho:o.op=.nilCheck x)(hx:s.ev x=some p)(hp:p.sure=true):dD lv P r o s (p):=
 sF (λE V a hc aE=>by
  have hd:=ap.ev aE hx;refine⟨a.eval x,?_,hd⟩;unfold execOp;rw[ho];dsimp only;generalize a.eval x=v at hd⊢;cases hd with
  |rp=>rfl
  |op=>rfl
  |cZ=>rfl
  |fn dT fZ h1 h2=>
   rename_i f _ _ _ _;cases f with
   |func=>rfl
   |yield=>rfl
   |_=>cases hp
  |_=>cases hp)
theorem aqA{t:TypeId}{x:Tl}{k n:Nat}{p q:AV}(ho:o.op=.fieldAddr t x k)(ht:eR P t k=some n)(hx:s.ev x=some p)(hp:p.shift n=some q):dD lv P r o s (q):=
 jb (λE V a hc aE=>by
  obtain⟨b,off,hv,hq⟩:=(ap.ev aE hx).shift hp;unfold eR at ht;split at ht
  ·rename_i fs hu;split at ht
   ·rename_i f hf;split at ht
    ·rename_i i hi;split at ht
     ·cases ht
     ·rename_i hz;cases ht;unfold execOp;rw[ho];simp only[hv];refine aA ?_;unfold Instr.fieldAt;refine ey hu ?_;simp only[hf];unfold Vm;refine aA (au ?_);unfold fieldPlace;refine aA (j5 hi ?_);rw[if_neg hz];refine au (au (au ⟨rfl,_,rfl,?_⟩));rw[add_plain];exact hq
    ·cases ht
   ·cases ht
  ·cases ht)
theorem aqC{t:TypeId}{x ix:Tl}{a p q:AV}{k:T8}{i:Int}{n sz:Nat}(ho:o.op=.indexAddr t x ix)(ht:nj P t=some (none,sz))(hx:s.ev x=some a)(ha:a.row=some (n,p))(hi:s.ev ix=some (.val (.int k i)))(h0:0<=i)(h1:i<n)
  (hp:p.shift (i.toNat* sz)=some q):dD lv P r o s (q):=
 jb (λE V ac hc aE=>by
  obtain⟨b,off,cap,hv,Bj⟩:=(ap.ev aE hx).row ha (by omega);obtain⟨b',o',hb,hq⟩:=Bj.shift hp;cases hb;have hd:=ap.ev aE hi;generalize qW:ac.eval ix=vi at hd;cases hd;unfold nj at ht;split at ht
  ·obtain⟨_,_,h⟩:=ld ht;cases h
  ·rename_i e hu;obtain⟨inf,Mr,h⟩:=ld ht;cases h;unfold execOp;rw[ho];simp only[hv,qW];refine aA ?_;unfold ZY asIntOf;refine aA (au ?_);dsimp only;refine ey hu ?_;refine aA (au ?_);dsimp only;refine ey hu ?_;dsimp only;rw[if_pos ⟨h0,h1⟩];refine j5 Mr ?_;refine au (au ⟨rfl,_,rfl,?_⟩);rw[add_plain];exact hq
  ·cases ht)
theorem aqD{t:TypeId}{x ix:Tl}{p q:AV}{k:T8}{i:Int}{n sz:Nat}(ho:o.op=.indexAddr t x ix)(ht:nj P t=some (some n,sz))(hx:s.ev x=some p)(hi:s.ev ix=some (.val (.int k i)))(h0:0<=i)(h1:i<n)
  (hp:p.shift (i.toNat* sz)=some q):dD lv P r o s (q):=
 jb (λE V ac hc aE=>by
  obtain⟨b,off,hv,hq⟩:=(ap.ev aE hx).shift hp;have hd:=ap.ev aE hi;generalize qW:ac.eval ix=vi at hd;cases hd;unfold nj at ht;split at ht
  ·rename_i m e hu;obtain⟨inf,Mr,h⟩:=ld ht;cases h;unfold execOp;rw[ho];simp only[hv,qW];refine aA ?_;unfold ZY asIntOf;refine aA (au ?_);dsimp only;refine ey hu ?_;dsimp only;unfold Vm;refine aA (aA (au (au ?_)));refine ey hu ?_;dsimp only;rw[if_pos ⟨h0,h1⟩];refine j5 Mr ?_;refine au (au ⟨rfl,_,rfl,?_⟩);rw[add_plain];exact hq
  ·obtain⟨_,_,h⟩:=ld ht;cases h
  ·cases ht)
theorem adh{c:Xy}{x:Tl}{t:TypeId}{a:AV}{n:Nat}(ho:o.op=.call c)(a_:c.callee=.builtin .len)(pY:c.args[0]?=some x)(Em:c.argTypes[0]?=some t)(ht:kW P t=some .slice)(hx:s.ev x=some a)(ha:a.len=some n):dD lv P r o s (.val (.int .i64 n)):=
 jb (λE V ac hc aE=>by
  obtain⟨ad,cap,hv⟩:=(ap.ev aE hx).len ha;unfold kW at ht;split at ht<;>cases ht;rename_i e hu;unfold execOp;rw[ho];dsimp only;unfold resolve;rw[a_];dsimp only;refine aA (au ?_);unfold invoke builtin;dsimp only;refine aA ?_;unfold Yu;have e1:(c.args.map ac.eval)[0]?=some (.slice ad n cap):=by simp[pY,hv]
  simp only[Em,e1];refine ey hu ?_;exact au (au ⟨rfl,_,rfl,.val _⟩))
theorem aqH{c:Xy}{x:Tl}{t:TypeId}{b:ByteArray}(ho:o.op=.call c)(a_:c.callee=.builtin .len)(pY:c.args[0]?=some x)(Em:c.argTypes[0]?=some t)(ht:kW P t=some .str)(hx:s.ev x=some (.val (.string b))):dD lv P r o s (.val (.int .i64 b.size)):=
 jb (λE V ac hc aE=>by
  have hd:=ap.ev aE hx;generalize hv:ac.eval x=v at hd;cases hd;unfold kW at ht;split at ht<;>cases ht;rename_i hu;unfold execOp;rw[ho];dsimp only;unfold resolve;rw[a_];dsimp only;refine aA (au ?_);unfold invoke builtin;dsimp only;refine aA ?_;unfold Yu;have e1:(c.args.map ac.eval)[0]?=some (.string b):=by simp[pY,hv]
  simp only[Em,e1];refine ey hu ?_;exact au (au ⟨rfl,_,rfl,.val _⟩))
theorem aqG{c:Xy}{x:Tl}{t:TypeId}{id:Nat}{es:Array Wp}{ck:Nat}(ho:o.op=.call c)(a_:c.callee=.builtin .len)(pY:c.args[0]?=some x)(Em:c.argTypes[0]?=some t)(ht:kW P t=some .map)(hx:s.ev x=some (.mp id))(hk:s.H[id]?=some (.obj (.map es ck))):dD lv P r o s (.val (.int .i64 es.size)):=
 jb (λE V ac hc aE=>by
  have hd:=ap.ev aE hx;generalize hv:ac.eval x=v at hd;cases hd;obtain⟨h1,h2,h3,h4⟩:=hc.obj id _ hk;unfold kW at ht;split at ht<;>cases ht;rename_i hu;unfold execOp;rw[ho];dsimp only;unfold resolve;rw[a_];dsimp only;refine aA (au ?_);unfold invoke builtin;dsimp only;refine aA ?_;unfold Yu;have e1:(c.args.map ac.eval)[0]?=some (.map (some (E.blk id))):=by simp[pY,hv]
  simp only[Em,e1];refine ey hu ?_;refine aA (ou h1 h2 h3 (hc.jq hk rfl).2 (cJ ?_));exact au (au ⟨rfl,_,rfl,.val _⟩))
theorem adH{t:TypeId}{n off:Nat}{g:Bool}{E:Env}{V:View}{l:List AV}{cs:Array SP}{K:SP->View->Prop}{Kp:SP->View->Prop}(ht:Ty P t=some (n,g))(hd:cK E l cs)(hl:off+n<=l.length)(hn:g=false->0<n)
  (h:∀v,(g=true->ap E (.agg ((l.drop off).take n)) v)->(g=false->∀a,l[off]?=some a->ap E a v)->K v V):aS P V (part t cs off) K Kp:=by
 obtain⟨i,d,h1,h2,rfl,h4⟩:=Ty.out ht;unfold part;refine Fh h2 ?_;rw[h4];cases g with
 |true=>
  simp only[if_true];refine j5 h1 (au (h _ (λ_=> .agg (by have:=hd.1;simp;omega) λj a e=> ?_) (by simp)));rw[Ui]at e;split at e
  ·rename_i hj;rw[Us]at e;have:=hd.2 _ _ e;have hlt:off+j<cs.size:=(by rw[hd.1];omega);have amc:j<(cs.extract off (off+i.size)).size:=(by have:=hd.1;simp;omega);rw[SH,SJ amc];rw[SH,SJ hlt]at this;simpa using this
  ·cases e
 |false=>
  simp only[TV,if_false];have hlt:off<cs.size:=by have:=hn rfl;rw[hd.1];omega
  rw[SJ hlt];refine au (h _ (by simp) λ_ a e=> ?_);have:=hd.2 _ _ e;rwa [SH,SJ hlt]at this
def AV.cut (l:List AV)(off n:Nat)(g:Bool):Option AV:=if off+n<=l.length/\(g=false->0<n)then(if g then some (.agg ((l.drop off).take n))else l[off]?)else none
theorem aqB{t:TypeId}{x:Tl}{k off n:Nat}{g:Bool}{l:List AV}{av:AV}(ho:o.op=.field t x k)(ht:JJ P t k=some (off,n,g))(hx:s.ev x=some (.agg l))(hv:AV.cut l off n g=some av):dD lv P r o s av:=
 jb (λE V a hc aE=>by
  have hd:=ap.ev aE hx;generalize he:a.eval x=v at hd;cases hd with
  |agg hs h=>
   unfold JJ at ht;split at ht
   ·rename_i fs hu;split at ht
    ·rename_i f hf;obtain⟨⟨n',g'⟩,h1,h2⟩:=ld ht;cases h2;unfold AV.cut at hv;split at hv
     ·rename_i yM;unfold execOp;rw[ho];simp only[he];refine aA ?_;unfold Instr.field;refine ey hu ?_;simp only[hf];unfold asAgg;refine aA (au ?_);refine adH h1 ⟨hs,h⟩ yM.1 yM.2 λv h3 h4=>au ⟨rfl,v,rfl,?_⟩;cases g' with
      |true=>simp only[if_true,Tm]at hv;subst hv;exact h3 rfl
      |false=>simp only[TV,if_false]at hv;exact h4 rfl _ hv
     ·cases hv
    ·cases ht
   ·cases ht)
theorem aqF{t:TypeId}{x ix:Tl}{n sz:Nat}{g:Bool}{l:List AV}{av:AV}{k:T8}{i:Int}(ho:o.op=.index t x ix)(ht:JC P t=some (n,sz,g))(hx:s.ev x=some (.agg l))(hi:s.ev ix=some (.val (.int k i)))(h0:0<=i)(h1:i<n)(hv:AV.cut l (i.toNat* sz) sz g=some av):dD lv P r o s av:=
 jb (λE V a hc aE=>by
  have hd:=ap.ev aE hx;generalize he:a.eval x=v at hd;have kJ:=ap.ev aE hi;generalize Mb:a.eval ix=vi at kJ;cases kJ;cases hd with
  |agg hs h=>
   unfold JC at ht;split at ht
   ·rename_i m e hu;obtain⟨⟨n',g'⟩,h2,h3⟩:=ld ht;cases h3;unfold AV.cut at hv;split at hv
    ·rename_i yM;obtain⟨inf,d,q1,q2,q3,q4⟩:=Ty.out h2;unfold execOp;rw[ho];simp only[he,Mb];refine aA ?_;unfold ab' asIntOf;refine aA (au ?_);dsimp only;refine ey hu ?_;dsimp only;rw[if_pos ⟨h0,h1⟩];refine j5 q1 ?_;rw[q3];refine adH h2 ⟨hs,h⟩ yM.1 yM.2 λv h4 h5=>au ⟨rfl,v,rfl,?_⟩;cases g' with
     |true=>simp only[if_true,Tm]at hv;subst hv;exact h4 rfl
     |false=>simp only[TV,if_false]at hv;exact h5 rfl _ hv
    ·cases hv
   ·cases ht)
theorem aqE{t:TypeId}{x ix:Tl}{b:ByteArray}{k:T8}{i:Int}{c:UInt8}(ho:o.op=.index t x ix)(ht:kW P t=some .str)(hx:s.ev x=some (.val (.string b)))(hi:s.ev ix=some (.val (.int k i)))(h0:0<=i)(h1:b[i.toNat]?=some c):dD lv P r o s (.val (.int .u8 c.toNat)):=
 jb (λE V a hc aE=>by
  have hd:=ap.ev aE hx;generalize he:a.eval x=v at hd;have kJ:=ap.ev aE hi;generalize Mb:a.eval ix=vi at kJ;cases kJ;cases hd;unfold kW at ht;split at ht<;>cases ht;rename_i hu;unfold execOp;rw[ho];simp only[he,Mb];refine aA ?_;unfold ab' asIntOf;refine aA (au ?_);dsimp only;refine ey hu ?_;dsimp only;rw[if_pos h0,h1];exact au (au ⟨rfl,_,rfl,.val _⟩))
theorem Rl{E:Env}{s:AS}{a:Act}(k:cr E s.T a.tmps){l:Array Tl}{aG:List AV}(h:l.toList.mapM s.ev=some aG):cK E aG (l.map a.eval):=by
 have key:∀(l:List Tl)(aG:List AV),l.mapM s.ev=some aG->cK E aG (l.map a.eval).toArray:=by
  intro l;induction l with
  |nil=>intro aG h;simp at h;subst h;exact⟨rfl,by simp⟩
  |cons x l ih=>
   intro aG h;simp only[Uf,Um,T1,Th,Tm]at h;obtain⟨b,h1,bs,h2,rfl⟩:=h;have:=ih bs h2;refine⟨by have:=this.1;simpa using this,λi c e=> ?_⟩;cases i with
   |zero=>simp at e;subst e;simpa[SH]using ap.ev k h1
   |succ i=>
    simp only[UR]at e;have:=this.2 i c e;simpa[SH]using this
 have:=key l.toList aG h;have e:l.map a.eval=(l.toList.map a.eval).toArray:=by apply VJ;simp
 rw[e];exact this
theorem aqL{f:Fn}{first cU:Array Tl}{fa ca:List AV}(ho:o.op=.makeFunc f first cU)(h1:first.toList.mapM s.ev=some fa)(h2:cU.toList.mapM s.ev=some ca):dD lv P r o s (.fn f fa ca):=
 sF (λE V a hc ht=>by
  have d1:=Rl ht h1;have d2:=Rl ht h2;exact⟨_,by unfold execOp;rw[ho];rfl,.fn d1.1 d2.1 d1.2 d2.2⟩)
def mB (P:SI)(t:TypeId):Option Bool:=(P.underlying t).map λ|.interface _=>true|_=>false
theorem aqM{t:TypeId}{x:Tl}{av:AV}(ho:o.op=.makeInterface t x)(ht:mB P t=some false)(hx:s.ev x=some av):dD lv P r o s (.cZ t av):=
 jb (λE V a hc aE=>by
  obtain⟨d,hu,hd⟩:=ld ht;unfold execOp;rw[ho];dsimp only;refine aA ?_;unfold Instr.makeInterface;refine ey hu ?_;split
  ·cases hd
  ·exact au (au ⟨rfl,_,rfl,.cZ (ap.ev aE hx)⟩))
def Cl (P:SI)(src dst:TypeId):Option (Option T8):=(P.underlying src).bind λ_=>match P.underlying dst with
 |some (.int k)=>some (some k)
 |_=>none
theorem aqw{src dst:TypeId}{x:Tl}{k j:T8}{n:Int}(ho:o.op=.convert src dst x)(ht:Cl P src dst=some (some k))(hx:s.ev x=some (.val (.int j n))):dD lv P r o s (.val (.int k (k.wrap n))):=
 jb (λE V a hc aE=>by
  have hd:=ap.ev aE hx;generalize he:a.eval x=v at hd;cases hd;unfold Cl at ht;obtain⟨d,h1,h2⟩:=Th.1 ht;split at h2
  ·rename_i k' hu;cases h2;unfold execOp;rw[ho];simp only[he];refine aA ?_;unfold convert;refine ey h1 (ey hu ?_);dsimp only;exact au (au ⟨rfl,_,rfl,.val _⟩)
  ·cases h2)
end
open Go.Conc
def Env.add (E:Env)(r:Nat)(I:cC):Env:={E with I:=I,n:=E.n+1,blk:=λk=>if k=E.n then r else E.blk k}
theorem Env.qX(E:Env)(r:Nat){I:cC}(hI:∀b o v,E.I b o=some v->I b o=some v):E.Le (E.add r I):=
 ⟨hI,Y_ _,λk hk=>by simp[Env.add,We hk],λ_ _=>SO _,λ_ _ _ _=>rfl,rfl,rfl⟩
def View.eP (V:View)(b:Nat)(cs:Array SP)(p:Nat->Bool):View:={V with ah:=λb' o=>if b'=b/\p o=true then cs[o]?else V.ah b' o}
theorem yx{V:View}{b:Nat}{cs:Array SP}{el:TypeId}{f:Nat×Nat}{p:Nat->Bool}(ho:V.own b=some (.cells cs el f))(hp:∀o,p o=true->V.ah b o=none):dY V (V.eP b cs p)where
 sat w h:=⟨λb' o v e=>by
   simp only[View.eP]at e;split at e
   ·rename_i hb;obtain⟨rfl,_⟩:=hb;have:=h.own _ _ ho;simpa[UC,this]using e
   ·exact h.ah _ _ _ e,λb' x e=>h.own b' x e⟩
 own b' e:=e
 ah b' o v e:=by
  have hn:¬(b'=b/\p o=true):=λhb=>by obtain⟨rfl,h2⟩:=hb;rw[hp o h2]at e;cases e
  simp only[View.eP,if_neg hn];exact e
 kP b' o v e:=by
  simp only[View.eP]at e;split at e
  ·rename_i hb;obtain⟨rfl,_⟩:=hb;exact .inr (by rw[ho];simp)
  ·exact .inl e
 deaf:=rfl
 role:=rfl
 chan c x _ h:=h
def View.kz (V:View)(r:Nat)(cs:Array SP):View:={V with ah:=λb o=>if b=r then cs[o]?else V.ah b o}
theorem akU{V:View}{r:Nat}{cs:Array SP}{el:TypeId}{f:Nat×Nat}(hf:V.fresh r)(hc:V.role.chan≠some r):dY (V.upd r (.cells cs el f)) (V.kz r cs)where
 sat w h:=⟨λb o v e=>by
   simp only[View.kz]at e;split at e
   ·rename_i hb;subst hb;have:=h.own b (.cells cs el f) (by simp[View.upd]);simpa[UC,this]using e
   ·exact h.ah b o v e,λb x e=>by
   have hb:b≠r:=λhb=>(by subst hb;rw[show (V.kz b cs).own b=V.own b from rfl,hf.1]at e;cases e);have e':V.own b=some x:=e;exact h.own b x (by simpa[View.upd,hb]using e')⟩
 own b e:=by
  simp only[View.upd]at e;split at e
  ·cases e
  ·exact e
 ah b o v e:=by
  have e':V.ah b o=some v:=e;have hb:b≠r:=λhb=>by subst hb;rw[hf.2 o]at e';cases e'
  simpa[View.kz,hb]using e'
 kP b o v e:=by
  simp only[View.kz]at e;split at e
  ·rename_i hb;exact .inr (by simp[View.upd,hb])
  ·exact .inl e
 deaf:=rfl
 role:=rfl
 chan c x hcx h:=by
  have hb:c≠r:=λhb=>by subst hb;exact hc hcx
  have h':V.own c=some x:=by simpa[View.upd,hb]using h
  exact h'
theorem Conc.akL{E:Env}{V:View}{H:List aa}(hc:Conc E V H){r:Nat}(hf:V.own r=none):V.role.chan≠some r/\V.role.group≠some r:=
 ⟨λe=>(hc.chan r e).1 hf,λe=>(hc.group r e).1 hf⟩
theorem Conc.add{E:Env}{V:View}{H:List aa}(hc:Conc E V H){r:Nat}(hf:V.fresh r)(y:Obj){x:aa}(hx:fS (E.add r V.ah) (V.upd r y) E.n x)(hb:∀b,bT (E.add r V.ah) E.n x=some b->b=r):Conc (E.add r V.ah) (V.upd r y) (H++[x]):=by
 refine hc.iO (E':=E.add r V.ah) H.length x (E.qX r (λb o v h=>by rw[<- hc.I];exact h)) rfl (by simp[Env.add,hc.n]) EH rfl (λ_ _ _=>rfl) (λb z _ hz=>⟨?_,λ_=>rfl⟩) (by rw[<- hc.n];exact hx) (λb h=> .inr ?_)
 ·have:b≠r:=λe=>by rw[e,hf.1]at hz;cases hz
  simpa[View.upd,this]using hz
 ·rw[<- hc.n]at h;rw[hb b h];exact hf.1
theorem Env.dO(E:Env)(r:Nat)(I:cC):(E.add r I).blk E.n=r:=by simp[Env.add]
theorem Rn{E:Env}{H:List aa}(hn:E.n=H.length)(r:Nat)(I:cC):ap (E.add r I) (.op H.length 0) (.pointer (some ⟨r,0,none⟩)):=by
 have:=ap.op (E:=E.add r I) (id:=H.length) (off:=0) (by show _<E.n+1;rw[hn];omega);have e:(E.add r I).blk H.length=r:=by rw[<- hn];exact E.dO r I
 rwa [e]at this
def AV.parts:AV->Option (List AV)
 |.agg l=>some l
 |.aQ _=>none
 |.val (.agg _)=>none
 |a=>some [a]
theorem ap.parts{E:Env}{a:AV}{v:SP}{l:List AV}(h:ap E a v)(hp:a.parts=some l):cK E l v.cells:=by
 have one:∀a v,ap E a v->v.cells=#[v]->cK E [a] v.cells:=λa v h e=>by
  rw[e];refine⟨rfl,λi x hx=> ?_⟩;have hi:i=0:=by have:=(SL.1 hx).1;simpa using this
  subst hi;simp at hx;subst hx;simpa using h
 cases h with
 |val=>cases v<;>first|(cases hp;exact one _ _ (.val _) rfl)|cases hp
 |agg hs h=>cases hp;exact⟨hs,h⟩
 |aQ hs h=>cases hp
 |sl b o cap f hc he h1 h2=>cases hp;exact one _ _ (.sl b o cap f hc he h1 h2) rfl
 |nil he=>cases hp;exact one _ _ (.nil he) rfl
 |bA hi dR=>cases hp;exact one _ _ (.bA hi dR) rfl
 |rp b o f h1 h2=>cases hp;exact one _ _ (.rp b o f h1 h2) rfl
 |op hi=>cases hp;exact one _ _ (.op hi) rfl
 |fn dT fZ h1 h2=>cases hp;exact one _ _ (.fn dT fZ h1 h2) rfl
 |cZ h=>cases hp;exact one _ _ (.cZ h) rfl
 |mp hi=>cases hp;exact one _ _ (.mp hi) rfl
def eS (P:SI)(t:TypeId):Option SP:=(P.info? t).bind (·.zero)
def mc (z:SP):List AV:=z.cells.toList.map AV.p_
theorem Kv(E:Env)(z:SP):cK E (mc z) z.cells:=by
 refine⟨by simp[mc],λi a h=> ?_⟩;unfold mc at h;rw[Tp]at h;obtain⟨x,hx,rfl⟩:=Ts.1 h;have:z.cells[i]?=some x:=by simpa using hx
 rw[SH,this];exact Kq E x
section
variable {P:SI}{V:View}{α:Type}{K:α->View->Prop}{Kp:SP->View->Prop}
theorem IY{t:TypeId}{z:SP}{k:SP->Sem α}(h:eS P t=some z)(hk:aS P V (k z) K Kp):aS P V (zeroValue t>>=k) K Kp:=by
 unfold eS at h;obtain⟨i,h1,h2⟩:=Th.1 h;refine aA ?_;unfold zeroValue;refine zN h1 ?_;rw[h2];exact au hk
end
section
variable {lv:Bool}{P:SI}{r:Option Nat}{o:Tx}{s:AS}{next:AS->Prop}{bad:AV->AS->Prop}
theorem aef{t:TypeId}{l:List AV}(h:∀(E:Env)(V:View)(a:Act),Conc E V s.H->cr E s.T a.tmps->∃cs,cK E l cs/\aS P V (execOp a.eval o) (λnx V'=>∃rr,V.fresh rr/\V'=V.upd rr (.cells cs t)/\nx=.value (.pointer (some ⟨rr,0,none⟩))) (λ_ _=>False))
  (hn:next ((⟨s.T,s.H++[.cells l t]⟩:AS).put o.dst (.op s.H.length 0))):Step lv P r o s next bad:=by
 intro E V a N Q hc ht hd bC h1 _;obtain⟨cs,pF,qS⟩:=h E V a hc ht;refine⟨bC,qS.mono (λnx V' hx=> ?_) (λ_ _ hx=>hx.elim)⟩;obtain⟨rr,hf,rfl,rfl⟩:=hx;have hle:E.Le (E.add rr V.ah):=E.qX rr (λb o v h=>by rw[<- hc.I];exact h);have bu:Conc (E.add rr V.ah) (V.upd rr (.cells cs t)) (s.H++[.cells l t]):=by
  refine hc.add hf _ ⟨⟨cs,?_,pF.mono hle⟩,λo=> ?_⟩ (λb e=> ?_)
  ·rw[Env.dO];simp[View.upd]
  ·rw[Env.dO];exact hf.2 o
  ·simp only[bT,Env.dO,Tm]at e;exact e.symm
 exact h1 _ _ (a.put o.dst (.pointer (some ⟨rr,0,none⟩))) ((⟨s.T,s.H++[.cells l t]⟩:AS).put o.dst (.op s.H.length 0)) ⟨hle,eg _ _ _,put_defers _ _ _,rfl,rfl⟩ (by rw[ft];exact bu)
  (cr.ie (s:=⟨s.T,s.H++[.cells l t]⟩) (ht.mono hle) hd (Rn hc.n rr V.ah)) hn
theorem aeb{t:TypeId}{x:Tl}{av:AV}{l:List AV}(ho:o.op=.box t x)(hx:s.ev x=some av)(hl:av.parts=some l)(hn:next ((⟨s.T,s.H++[.cells l t]⟩:AS).put o.dst (.op s.H.length 0))):Step lv P r o s next bad:=
 aef (λE V a hc ht=>⟨(a.eval x).cells,(ap.ev ht hx).parts hl,by
  unfold execOp;rw[ho];dsimp only;refine aA ?_;unfold Instr.box newVar newRow;refine aA (aA (aA (pc λrr hf=>cJ (au (au (au (au ⟨rr,hf,rfl,rfl⟩)))))))⟩) hn
theorem ad8{t:TypeId}{z:SP}(ho:o.op=.alloc t)(hz:eS P t=some z)(hn:next ((⟨s.T,s.H++[.cells (mc z) t]⟩:AS).put o.dst (.op s.H.length 0))):Step lv P r o s next bad:=
 aef (λE V a hc ht=>⟨z.cells,Kv E z,by
  unfold execOp;rw[ho];dsimp only;refine aA ?_;unfold Instr.alloc;refine IY hz ?_;unfold newVar newRow;refine aA (aA (aA (pc λrr hf=>cJ (au (au (au (au ⟨rr,hf,rfl,rfl⟩)))))))⟩) hn
theorem asM{t:TypeId}(ho:o.op=.makeMap t none)(hn:next ((⟨s.T,s.H++[.obj (.map #[] 0)]⟩:AS).put o.dst (.mp s.H.length))):Step lv P r o s next bad:=by
 intro E V a N Q hc ht hd bC h1 _;refine⟨bC,?_⟩;unfold execOp;rw[ho];dsimp only;refine aA ?_;unfold Instr.makeMap;refine aA (pc λrr hf=>cJ (au (au ?_)));have hle:E.Le (E.add rr V.ah):=E.qX rr (λb o v h=>by rw[<- hc.I];exact h);have bu:Conc (E.add rr V.ah) (V.upd rr (.map #[] 0)) (s.H++[.obj (.map #[] 0)]):=by
  refine hc.add hf _ ⟨?_,rfl,rfl,λo=> ?_⟩ (λb e=> ?_)
  ·rw[Env.dO];simp[View.upd]
  ·rw[Env.dO];exact hf.2 o
  ·simp only[bT,Env.dO,Tm]at e;exact e.symm
 have bx:ap (E.add rr V.ah) (.mp s.H.length) (.map (some rr)):=by
  have:=ap.mp (E:=E.add rr V.ah) (id:=s.H.length) (by show _<E.n+1;rw[hc.n];omega);have e:(E.add rr V.ah).blk s.H.length=rr:=by rw[<- hc.n];exact E.dO rr _
  rwa [e]at this
 exact h1 _ _ (a.put o.dst (.map (some rr))) ((⟨s.T,s.H++[.obj (.map #[] 0)]⟩:AS).put o.dst (.mp s.H.length)) ⟨hle,eg _ _ _,put_defers _ _ _,rfl,rfl⟩ (by rw[ft];exact bu)
  (cr.ie (s:=⟨s.T,s.H++[.obj (.map #[] 0)]⟩) (ht.mono hle) hd bx) hn
end
def storeAt:Array SP->Nat->List SP->Array SP
 |cs,_,[]=>cs
 |cs,o,v::vs=>storeAt (cs.setIfInBounds o v) (o+1) vs
theorem zS:∀(vs:List SP)(cs:Array SP)(o:Nat),(storeAt cs o vs).size=cs.size
 |[],_,_=>rfl
 |v::vs,cs,o=>by rw[storeAt,zS];simp
theorem Fq:∀(vs:List SP)(cs:Array SP)(o k:Nat),o+vs.length<=cs.size->(storeAt cs o vs).getD k undef=if o<=k/\k<o+vs.length then vs.getD (k-o) undef else cs.getD k undef
 |[],cs,o,k,_=>by
  have:¬(o<=k/\k<o+([]:List SP).length):=by intro h;simp only[UA]at h;omega
  rw[if_neg this];rfl
 |v::vs,cs,o,k,h=>by
  simp only[Un]at h;rw[storeAt,Fq vs _ (o+1) k (by simp;omega)];by_cases h1:k=o
  ·subst h1;rw[if_neg (by omega),if_pos (by simp)];simp[SH,Tb (show k<cs.size by omega)]
  ·by_cases h2:o+1<=k/\k<o+1+vs.length
   ·rw[if_pos h2,if_pos (by simp only[Un];omega)];have:k-o=(k-(o+1))+1:=(by omega);rw[this];simp[SE]
   ·rw[if_neg h2,if_neg (by simp only[Un];omega)];simp[SH,SX (Ne.symm h1)]
theorem atZ(V:View)(b:Nat)(x y:Obj):(V.upd b x).upd b y=V.upd b y:=by
 unfold View.upd;congr 1;funext k;dsimp only;split<;>rfl
theorem at0{V:View}{b:Nat}{x:Obj}(h:V.own b=some x):V.upd b x=V:=by
 unfold View.upd;have:(λk=>if k=b then some x else V.own k)=V.own:=by
  funext k;split
  ·rename_i e;subst e;rw[h]
  ·rfl
 rw[this]
section
variable {P:SI}{K:Unit->View->Prop}{Kp:SP->View->Prop}{b off:Nat}{el:TypeId}
theorem B4:∀(vs:List SP)(i:Nat)(V:View)(cs:Array SP),V.role.group≠some b->V.role.chan≠some b->V.own b=some (.cells cs el (0,0))->(∀o,off+i<=o->o<off+i+vs.length->V.ah b o=none)->off+i+vs.length<=cs.size->(∀v∈vs,v.one=true)->
  K () (V.upd b (.cells (storeAt cs (off+i) vs) el (0,0)))->aS P V (storeCells ⟨b,off,none⟩ vs i) K Kp
 |[],i,V,cs,hg,hc,ho,hi,hl,hv,h=>by
  unfold storeCells;rw[show storeAt cs (off+i) []=cs from rfl,at0 ho]at h;exact au h
 |v::vs,i,V,cs,hg,hc,ho,hi,hl,hv,h=>by
  unfold storeCells;rw[add_plain];simp only[Un]at hl hi;refine aA (ar0 ho (by omega) (hi _ (by omega) (by omega)) (hv v (TF ..)) (by omega) (.inl hg) hc (cJ ?_));refine B4 vs (i+1) (V.upd b (.cells (cs.setIfInBounds (off+i) v) el (0,0))) (cs.setIfInBounds (off+i) v) hg hc (by simp[View.upd]) (λo h1 h2=>hi o (by omega) (by omega)) (by simp;omega) (λx hx=>hv x (Td _ hx)) ?_;rw[atZ];exact h
end
theorem Conc.set{E:Env}{V:View}{H:List aa}(hc:Conc E V H){id:Nat}{l l':List AV}{el:TypeId}(hk:H[id]?=some (.cells l el)){eU:Array SP}(hd:cK E l' eU):Conc E (V.upd (E.blk id) (.cells eU el (0,0))) (H.set id (.cells l' el)):=by
 obtain⟨⟨cs,h1,_⟩,h3⟩:=hc.obj id _ hk;refine hc.iO id (.cells l' el) (Env.Le.refl E) hc.I (by simpa using hc.n) lD rfl (λ_ _ _=>rfl) (λb y hb hy=>⟨?_,λ_=>rfl⟩) ⟨⟨eU,by simp[View.upd],hd⟩,h3⟩ (λb h=> .inl ⟨_,hk,h⟩);have:b≠E.blk id:=λe=>hb _ hk (by rw[e];rfl);simpa[View.upd,this]using hy
theorem aei:∀(vs:List SP)(cs:Array SP)(off o:Nat),o<off->(storeAt cs off vs)[o]?=cs[o]?
 |[],_,_,_,_=>rfl
 |v::vs,cs,off,o,h=>by
  rw[storeAt,aei vs _ (off+1) o (by omega),SX (by omega)]
theorem Conc.Fj{E:Env}{V:View}{H:List aa}(hc:Conc E V H){id p:Nat}{l l':List AV}{el:TypeId}(hk:H[id]?=some (.part p l el)){cs eU:Array SP}(h1:V.own (E.blk id)=some (.cells cs el (0,0)))(hd:j8 E l' eU)(hs:∀o,o<p->eU[o]?=cs[o]?):Conc E (V.upd (E.blk id) (.cells eU el (0,0))) (H.set id (.part p l' el)):=by
 obtain⟨⟨Ax,q1,_,q2⟩,h3⟩:=hc.obj id _ hk;rw[h1]at q1;cases q1;refine hc.iO id (.part p l' el) (Env.Le.refl E) hc.I (by simpa using hc.n) lD rfl (λ_ _ _=>rfl) (λb y hb hy=>⟨?_,λ_=>rfl⟩) ⟨⟨eU,by simp[View.upd],hd,λo ho=>(q2 o ho).trans (hs o ho).symm⟩,h3⟩ (λb h=> .inl ⟨_,hk,h⟩);have:b≠E.blk id:=λe=>hb _ hk (by rw[e];rfl);simpa[View.upd,this]using hy
theorem Conc.adP{E:Env}{V:View}{H:List aa}(hc:Conc E V H){id sz:Nat}{l l':List AV}{el:TypeId}(hk:H[id]?=some (.own sz l el)){eU:Array SP}(hd:j8 E l' eU)(hz:eU.size=(E.room id 0).2* sz):Conc E (V.upd (E.blk id) (.cells eU el (0,0))) (H.set id (.own sz l' el)):=by
 obtain⟨⟨cs,h1,_⟩,h3⟩:=hc.obj id _ hk;refine hc.iO id (.own sz l' el) (Env.Le.refl E) hc.I (by simpa using hc.n) lD rfl (λ_ _ _=>rfl) (λb y hb hy=>⟨?_,λ_=>rfl⟩) ⟨⟨eU,by simp[View.upd],hd,hz⟩,h3⟩ (λb h=> .inl ⟨_,hk,h⟩);have:b≠E.blk id:=λe=>hb _ hk (by rw[e];rfl);simpa[View.upd,this]using hy
theorem Conc.setObj{E:Env}{V:View}{H:List aa}(hc:Conc E V H){id:Nat}{x y:Obj}(hk:H[id]?=some (.obj x))(h1:y.vK=false)(h2:y.isChan=false):Conc E (V.upd (E.blk id) y) (H.set id (.obj y)):=by
 obtain⟨p1,p2,p3,p4⟩:=hc.obj id _ hk;refine hc.iO id (.obj y) (Env.Le.refl E) hc.I (by simpa using hc.n) lD rfl (λ_ _ _=>rfl) (λb z hb hz=>⟨?_,λ_=>rfl⟩) ⟨by simp[View.upd],h1,h2,p4⟩ (λb h=> .inl ⟨_,hk,h⟩);have:b≠E.blk id:=λe=>hb _ hk (by rw[e];rfl);simpa[View.upd,this]using hz
theorem an5{E:Env}{a:AV}{v:SP}(h:ap E a v)(hl:a.leaf=true):v.one=true:=by
 cases h with
 |val x=>exact hl
 |agg _ _=>cases hl
 |aQ _ _=>cases hl
 |_=>rfl
def iL (l:List AV)(off:Nat)(lp:List AV):List AV:=l.take off++lp++l.drop (off+lp.length)
theorem Kt{E:Env}{l lp:List AV}{cs vs:Array SP}{off:Nat}(h:cK E l cs)(k:cK E lp vs)(hl:off+lp.length<=l.length):cK E (iL l off lp) (storeAt cs off vs.toList):=by
 have hv:vs.toList.length=lp.length:=by simpa using k.1
 refine⟨by rw[zS,h.1];simp[iL];omega,λi a e=> ?_⟩;rw[Fq _ _ _ _ (by rw[h.1,hv];exact hl),hv];unfold iL at e;by_cases h1:i<off
 ·rw[if_neg (by omega)];rw[SC,S0 (by simp;omega),Ui,if_pos h1]at e;exact h.2 i a e
 ·by_cases h2:i<off+lp.length
  ·rw[if_pos ⟨by omega,h2⟩];rw[S0 (by simp;omega),S_ (by simp;omega)]at e;have e':lp[i-off]?=some a:=by
    have:min off l.length=off:=(by omega);simpa[this]using e
   have:=k.2 _ a e';simpa[SH,SE]using this
  ·rw[if_neg (by omega)];rw[S_ (by simp;omega),Us]at e;have e':l[i]?=some a:=by
    have h3:off+lp.length+(i-(l.take off++lp).length)=i:=(by simp;omega);rw[h3]at e;exact e
   exact h.2 i a e'
theorem Rs{E:Env}{l lp:List AV}{cs vs:Array SP}{off:Nat}(h:j8 E l cs)(k:cK E lp vs)(hl:off+lp.length<=l.length):j8 E (iL l off lp) (storeAt cs off vs.toList):=by
 have hv:vs.toList.length=lp.length:=by simpa using k.1
 refine⟨by rw[zS];have:=h.1;simp[iL];omega,λi a e=> ?_⟩;rw[Fq _ _ _ _ (by have:=h.1;rw[hv];omega),hv];unfold iL at e;by_cases h1:i<off
 ·rw[if_neg (by omega)];rw[SC,S0 (by simp;omega),Ui,if_pos h1]at e;exact h.2 i a e
 ·by_cases h2:i<off+lp.length
  ·rw[if_pos ⟨by omega,h2⟩];rw[S0 (by simp;omega),S_ (by simp;omega)]at e;have e':lp[i-off]?=some a:=by
    have:min off l.length=off:=(by omega);simpa[this]using e
   have:=k.2 _ a e';simpa[SH,SE]using this
  ·rw[if_neg (by omega)];rw[S_ (by simp;omega),Us]at e;have e':l[i]?=some a:=by
    have h3:off+lp.length+(i-(l.take off++lp).length)=i:=(by simp;omega);rw[h3]at e;exact e
   exact h.2 i a e'
theorem C6{E:Env}{lp:List AV}{vs:Array SP}(h:cK E lp vs)(nS:∀a∈lp,a.leaf=true):∀v∈vs.toList,v.one=true:=by
 intro v hv;obtain⟨j,hj⟩:=UY.1 hv;have dn:j<lp.length:=by have:=(SL.1 hj).1;have:=h.1;simp at*;omega
 have:=h.2 j lp[j] (SY dn);have iI:vs[j]?=some v:=by simpa using hj
 rw[SH,iI]at this;exact an5 this (nS _ (Ww dn))
section
variable {lv:Bool}{P:SI}{r:Option Nat}{o:Tx}{s:AS}{next:AS->Prop}{bad:AV->AS->Prop}
theorem aeg{t:TypeId}{x y:Tl}{id off n:Nat}{l lp:List AV}{el:TypeId}{g:Bool}{av:AV}(ho:o.op=.store t x y)(ht:Ty P t=some (n,g))(hx:s.ev x=some (.op id off))(hk:s.H[id]?=some (.cells l el))(hy:s.ev y=some av)(hp:av.parts=some lp)(iZ:lp.length=n)(hl:off+lp.length<=l.length)
  (nS:∀a∈lp,a.leaf=true) (hn:next ((⟨s.T,s.H.set id (.cells (iL l off lp) el)⟩:AS).put o.dst (.val undef))):Step lv P r o s next bad:=by
 intro E V a N Q hc aE hd bC h1 _;obtain⟨i,d,q1,q2,rfl,q4⟩:=Ty.out ht;have dA:=ap.ev aE hx;generalize ky:a.eval x=vx at dA;cases dA with
 |op cg=>
  have bx:=(ap.ev aE hy).parts hp;obtain⟨⟨cs,p1,p2⟩,p3⟩:=hc.obj id _ hk;obtain⟨g1,g2⟩:=hc.jq hk rfl;refine⟨bC,?_⟩;unfold execOp;rw[ho];simp only[ky];refine aA ?_;unfold Yr Vm;refine aA (au ?_);unfold storeVar;refine j5 q1 ?_;rw[if_neg (by rw[bx.1,iZ];simp)];refine B4 _ 0 V cs g1 g2 p1 (λo _ _=>p3 o) (by have:=bx.1;have:=p2.1;simp;omega) (C6 bx nS) ?_;rw[UJ];exact au (h1 E _ (a.put o.dst undef) _ ⟨Env.Le.refl E,eg _ _ _,put_defers _ _ _,rfl,rfl⟩ (by rw[ft];exact hc.set hk (Kt p2 bx hl))
   (cr.ie (s:=⟨s.T,s.H.set id (.cells (iL l off lp) el)⟩) aE hd (.val undef)) hn)
theorem asS{t:TypeId}{x y:Tl}{id off n p:Nat}{l lp:List AV}{el:TypeId}{g:Bool}{av:AV}(ho:o.op=.store t x y)(ht:Ty P t=some (n,g))(hx:s.ev x=some (.op id off))(hk:s.H[id]?=some (.part p l el))(hpo:p<=off)(hy:s.ev y=some av)(hp:av.parts=some lp)(iZ:lp.length=n)(hl:off+lp.length<=l.length)
  (nS:∀a∈lp,a.leaf=true) (hn:next ((⟨s.T,s.H.set id (.part p (iL l off lp) el)⟩:AS).put o.dst (.val undef))):Step lv P r o s next bad:=by
 intro E V a N Q hc aE hd bC h1 _;obtain⟨i,d,q1,q2,rfl,q4⟩:=Ty.out ht;have dA:=ap.ev aE hx;generalize ky:a.eval x=vx at dA;cases dA with
 |op cg=>
  have bx:=(ap.ev aE hy).parts hp;obtain⟨⟨cs,p1,p2,p4⟩,p3⟩:=hc.obj id _ hk;obtain⟨g1,g2⟩:=hc.jq hk rfl;refine⟨bC,?_⟩;unfold execOp;rw[ho];simp only[ky];refine aA ?_;unfold Yr Vm;refine aA (au ?_);unfold storeVar;refine j5 q1 ?_;rw[if_neg (by rw[bx.1,iZ];simp)];refine B4 _ 0 V cs g1 g2 p1 (λo _ _=>p3 o (by omega)) (by have:=bx.1;have:=p2.1;simp;omega) (C6 bx nS) ?_;rw[UJ];exact au (h1 E _ (a.put o.dst undef) _ ⟨Env.Le.refl E,eg _ _ _,put_defers _ _ _,rfl,rfl⟩ (by rw[ft];exact hc.Fj hk p1 (Rs p2 bx hl) λo ho=>aei _ _ _ _ (by omega))
   (cr.ie (s:=⟨s.T,s.H.set id (.part p (iL l off lp) el)⟩) aE hd (.val undef)) hn)
theorem aeh{t:TypeId}{x y:Tl}{id off n p:Nat}{l lp:List AV}{el:TypeId}{g:Bool}{av:AV}(ho:o.op=.store t x y)(ht:Ty P t=some (n,g))(hx:s.ev x=some (.op id off))(hk:s.H[id]?=some (.own p l el))(hy:s.ev y=some av)(hp:av.parts=some lp)(iZ:lp.length=n)(hl:off+lp.length<=l.length)
  (nS:∀a∈lp,a.leaf=true) (hn:next ((⟨s.T,s.H.set id (.own p (iL l off lp) el)⟩:AS).put o.dst (.val undef))):Step lv P r o s next bad:=by
 intro E V a N Q hc aE hd bC h1 _;obtain⟨i,d,q1,q2,rfl,q4⟩:=Ty.out ht;have dA:=ap.ev aE hx;generalize ky:a.eval x=vx at dA;cases dA with
 |op cg=>
  have bx:=(ap.ev aE hy).parts hp;obtain⟨⟨cs,p1,p2,p4⟩,p3⟩:=hc.obj id _ hk;obtain⟨g1,g2⟩:=hc.jq hk rfl;refine⟨bC,?_⟩;unfold execOp;rw[ho];simp only[ky];refine aA ?_;unfold Yr Vm;refine aA (au ?_);unfold storeVar;refine j5 q1 ?_;rw[if_neg (by rw[bx.1,iZ];simp)];refine B4 _ 0 V cs g1 g2 p1 (λo _ _=>p3 o) (by have:=bx.1;have:=p2.1;simp;omega) (C6 bx nS) ?_;rw[UJ];exact au (h1 E _ (a.put o.dst undef) _ ⟨Env.Le.refl E,eg _ _ _,put_defers _ _ _,rfl,rfl⟩ (by rw[ft];exact hc.adP hk (Rs p2 bx hl) (by rw[zS];exact p4))
   (cr.ie (s:=⟨s.T,s.H.set id (.own p (iL l off lp) el)⟩) aE hd (.val undef)) hn)
theorem Conc.kz{E:Env}{V:View}{H:List aa}(hc:Conc E V H){r:Nat}(hf:V.fresh r)(cs:Array SP):E.Le {E with I:=(V.kz r cs).ah}/\Conc {E with I:=(V.kz r cs).ah} (V.kz r cs) H:=by
 have hle:E.Le {E with I:=(V.kz r cs).ah}:=⟨λb o v h=>by
  rw[hc.I]at h;have hb:b≠r:=λhb=>by subst hb;rw[hf.2 o]at h;cases h
  simpa[View.kz,hb]using h,SO _,λ_ _=>rfl,λ_ _=>SO _,λ_ _ _ _=>rfl,rfl,rfl⟩
 have hlt:∀(k:Nat) y,H[k]?=some y->k<E.n:=λk y h=>by rw[hc.n];exact(SL.1 h).1
 refine⟨hle,rfl,hc.n,λk x h=>(hc.obj k x h).mono hle (hlt k x h) rfl (λb y _ hb=>hb) (λb hb o=> ?_),hc.inj,λg hg=> ?_,λg hg=> ?_,hc.top,λb y hg=> ?_⟩
 ·obtain⟨y,hy⟩:=(hc.obj k x h).CX hb;have aH:b≠r:=λe=>by subst e;rw[hf.1]at hy;cases hy
  simp[View.kz,aH]
 ·obtain⟨h0,h1,h2⟩:=hc.group g hg;have aH:g≠r:=λe=>by subst e;exact h0 hf.1
  exact⟨h0,λo=>by simp[View.kz,aH,h1 o],h2⟩
 ·obtain⟨h0,h1,h2⟩:=hc.chan g hg;have aH:g≠r:=λe=>by subst e;exact h0 hf.1
  exact⟨h0,λo=>by simp[View.kz,aH,h1 o],h2⟩
 ·obtain⟨h0,h1,h2⟩:=hc.fr b y hg;have aH:b≠r:=λe=>by subst e;rw[hf.1]at h0;cases h0
  exact⟨h0,λo=>by simp[View.kz,aH,h1 o],h2⟩
theorem ap.aqj{E:Env}{V:View}{H:List aa}(hc:Conc E V H){r:Nat}(hf:V.fresh r){cs:Array SP}{l:List AV}(h:cK E l cs){n cap:Nat}(dR:n<=cap){e:End}(he:qg {E with I:=(V.kz r cs).ah} e (some ⟨r,0,none⟩) n cap):ap {E with I:=(V.kz r cs).ah} (.sl n l e) (.slice (some ⟨r,0,none⟩) n cap):=by
 refine .sl r 0 cap (λi=>cs.getD i undef) dR he (λi hi=> ?_) λi x hx=>(h.2 i x hx).mono (hc.kz hf cs).1;have hlt:i<cs.size:=by rw[h.1];exact hi
 simp[View.kz,SH,SJ hlt]
def oG (place:Nat->Option (Nat×Nat))(cells:List AV):List (Nat×AV)->Option (List AV)
 |[]=>some cells
 |(i,a)::rest=>match place i,a.parts with
  |some (off,size),some lp=>if lp.length≠size\/off+lp.length>cells.length then none else oG place (iL cells off lp) rest
  |_,_=>none
theorem aag:∀(vs:List SP)(k off:Nat)(cs:Array SP),(vs.zipIdx k).foldl (λ(cs:Array SP) (x:SP×Nat)=>cs.setIfInBounds (off+x.2) x.1) cs=storeAt cs (off+k) vs
 |[],_,_,_=>rfl
 |v::vs,k,off,cs=>by
  rw[List.zipIdx_cons,UV,aag vs (k+1) off];rfl
theorem C_{E:Env}{place:Nat->Option (Nat×Nat)}:∀{parts:List (Nat×AV)}{vs:List (Nat×SP)}{l l':List AV}{cs:Array SP},cK E l cs->parts.length=vs.length->(∀(j:Nat) p q,parts[j]?=some p->vs[j]?=some q->p.1=q.1/\ap E p.2 q.2)->
  oG place l parts=some l'->∃eU,ag2 place cs vs=some eU/\cK E l' eU
 |[],[],l,l',cs,h,_,_,e=>by cases e;exact⟨cs,rfl,h⟩
 |[],_::_,_,_,_,_,h,_,_=>by simp at h
 |_::_,[],_,_,_,_,h,_,_=>by simp at h
 |(i,a)::parts,(i',v)::vs,l,l',cs,h,hl,hp,e=>by
  obtain⟨e1,hd⟩:=hp 0 (i,a) (i',v) rfl rfl;have e1':i=i':=e1;subst e1';simp only[oG]at e;split at e
  ·rename_i off size lp cL MW;split at e
   ·cases e
   ·rename_i hc;have bx:=ap.parts (v:=v) hd MW;have aY:v.cells.size=lp.length:=bx.1;have hle:off+lp.length<=l.length:=(by omega);obtain⟨eU,h1,h2⟩:=C_ (Kt h bx hle) (by simpa using hl) (λj p q x y=>hp (j+1) p q (by simpa using x) (by simpa using y)) e;refine⟨eU,?_,h2⟩;unfold ag2;rw[cL];simp only;rw[if_neg (by rw[aY,h.1];simp;omega)];have:=aag v.cells.toList 0 off cs;rw[UJ]at this;rw[<- h1,<- this];congr 1;rw[<- Array.toList_zipIdx,Array.foldl_toList]
  ·cases e
def kg (s:AS):List (Nat×Tl)->Option (List (Nat×AV))
 |[]=>some []
 |(i,x)::l=>match s.ev x,kg s l with
  |some a,some aG=>some ((i,a)::aG)
  |_,_=>none
theorem Gr{E:Env}{s:AS}{a:Act}(k:cr E s.T a.tmps):∀{l:List (Nat×Tl)}{aG:List (Nat×AV)},kg s l=some aG->aG.length=(l.map λ(i,x)=>(i,a.eval x)).length/\∀(j:Nat) p q,aG[j]?=some p->(l.map λ(i,x)=>(i,a.eval x))[j]?=some q->p.1=q.1/\ap E p.2 q.2
 |[],aG,h=>by cases h;exact⟨rfl,by simp⟩
 |(i,x)::l,aG,h=>by
  simp only[kg]at h;split at h
  ·rename_i av mi h1 h2;cases h;obtain⟨m_,lB⟩:=Gr k h2;refine⟨by simpa using m_,λj p q e1 e2=> ?_⟩;cases j with
   |zero=>simp at e1 e2;subst e1 e2;exact⟨rfl,ap.ev k h1⟩
   |succ j=>exact lB j p q (by simpa using e1) (by simpa using e2)
  ·cases h
def qn (P:SI)(t:TypeId):Option (TypeId×Nat×SP):=match P.underlying t with
 |some (.slice e)=>(P.info? e).bind λi=>i.zero.map λz=>(e,i.size,z)
 |_=>none
def gD (z:SP)(m:Nat):List AV:=(SR m).map λi=>AV.p_ (z.cells[i % z.cells.size]!)
inductive ik where
 |fields (l:List (Nat×Nat))
 |elems (sz:Nat)
def ik.at:ik->Nat->Option (Nat×Nat)
 |.fields l,i=>l[i]?
 |.elems sz,i=>some (i* sz,sz)
def ov (P:SI)(t:TypeId):Option (ik×SP):=(eS P t).bind λz=>match P.underlying t with
 |some (.struct fs)=>(fs.toList.mapM λf=>(P.info? f.type).map λi=>(f.offset,i.size)).map λl=>(.fields l,z)
 |some (.array _ e)=>(P.info? e).map λi=>(.elems i.size,z)
 |_=>none
theorem adI{P:SI}{V:View}{Kp:SP->View->Prop}:∀(fs:List Y5)(l:List (Nat×Nat)){K:List (Nat×Nat)->View->Prop},fs.mapM (λf=>(P.info? f.type).map λi=>(f.offset,i.size))=some l->
  K l V->aS P V (fs.mapM λf=>(do pure (f.offset,<- sizeOf f.type):Sem (Nat×Nat))) K Kp
 |[],l,K,h,hk=>by
  simp at h;subst h;rw[UH];exact au hk
 |f::fs,l,K,h,hk=>by
  simp only[Uf,Um,T1,Th,Tm]at h;obtain⟨b,h1,bs,h2,rfl⟩:=h;obtain⟨i,hi,rfl⟩:=ld h1;rw[Uf];exact aA (j5 hi (au (aA (adI fs bs h2 (au hk)))))
theorem aqu{t:TypeId}{parts:Array (Nat×Tl)}{pl:ik}{z:SP}{aG:List (Nat×AV)}{l:List AV}(ho:o.op=.build t parts)(ht:ov P t=some (pl,z))(hp:kg s parts.toList=some aG)
  (hl:oG pl.at (mc z) aG=some l):dD lv P r o s (.agg l):=
 jb (λE V a hc aE=>by
  unfold ov at ht;obtain⟨z',hz,ht⟩:=Th.1 ht;obtain⟨hlen,bx⟩:=Gr aE hp;unfold execOp;rw[ho];dsimp only;refine aA ?_;unfold Instr.build;refine IY hz ?_;split at ht
  ·rename_i fs hu;obtain⟨lp,h1,h2⟩:=ld ht;cases h2;obtain⟨eU,nR,va⟩:=C_ (Kv E z) hlen bx hl;refine ey hu ?_;dsimp only;have e:fs=fs.toList.toArray:=(by simp);rw[e,Yc];refine aA ?_;refine aA (adI fs.toList lp h1 ?_);refine au ?_;rw[VQ];have e2:(λx=>lp.toArray[x]?)=ik.at (.fields lp):=(by funext x;simp[ik.at]);rw[e2,nR];exact au (au ⟨rfl,_,rfl,.agg va.1 va.2⟩)
  ·rename_i n e hu;obtain⟨i,h1,h2⟩:=ld ht;cases h2;obtain⟨eU,nR,va⟩:=C_ (Kv E z) hlen bx hl;refine ey hu ?_;dsimp only;refine j5 h1 ?_;rw[VQ];have e2:(λj=>some (j* i.size,i.size))=ik.at (.elems i.size):=rfl;rw[e2,nR];exact au (au ⟨rfl,_,rfl,.agg va.1 va.2⟩)
  ·cases ht)
theorem Ku{E:Env}(z:SP)(m:Nat):cK E (gD z m) ((WO m).map (λx=>z.cells[x % z.cells.size]!)):=by
 refine⟨by simp[gD],λj x hx=> ?_⟩;unfold gD at hx;rw[Tp]at hx;obtain⟨k,hk,rfl⟩:=Ts.1 hx;have hj:j<m:=by have:=(SL.1 hk).1;simpa using this
 have hmj:k=j:=by rw[XH hj]at hk;cases hk;rfl
 subst hmj;simp only[SH,WI,Array.getElem?_range,hj,if_true,UW,S8];exact Kq E _
theorem aqv{t e:TypeId}{len sz:Nat}{z:SP}{parts:Array (Nat×Tl)}{aG:List (Nat×AV)}{l:List AV}(ho:o.op=.buildSlice t len parts)(ht:qn P t=some (e,sz,z))(aY:len* sz<=2^24)(hp:kg s parts.toList=some aG)
  (hl:oG (ik.at (.elems sz)) (gD z (len* sz)) aG=some l):dD lv P r o s (.sl len l .exact):=by
 intro E V a N Q hc aE bC h1;unfold qn at ht;split at ht
 ·rename_i e' hu;obtain⟨i,hi,ht⟩:=Th.1 ht;obtain⟨z',hz,ht⟩:=Ts.1 ht;cases ht;refine⟨bC,?_⟩;unfold execOp;rw[ho];dsimp only;refine aA ?_;unfold Instr.buildSlice;refine ey hu ?_;dsimp only;refine j5 hi ?_;rw[if_neg (by omega)];obtain⟨hlen,bx⟩:=Gr aE hp;obtain⟨eU,nR,va⟩:=C_ (Ku (E:=E) z (len* i.size)) hlen bx hl;have fin:∀(rr:Nat),V.fresh rr->aS P (V.upd rr (.cells eU e)) (pure (Xc (.slice (some ⟨rr,0,none⟩) len len))) (mP lv P r o a N Q) (λv V'=>Q (.panic [{v,recovered:=false}]) a V'):=λrr hf=>
   aS.ghost (akU hf (hc.akL hf.1).1) (au (h1 _ _ _ (hc.kz hf eU).1 rfl rfl (hc.kz hf eU).2 (ap.aqj hc hf va (SO _) rfl)))
  have e2:(λj=>some (j* i.size,i.size))=ik.at (.elems i.size):=rfl;rw[e2];by_cases h0:len* i.size=0
  ·rw[if_pos h0];refine aA (au ?_);rw[h0]at nR⊢;rw[show WO 0=#[]from rfl]at nR⊢;simp only[List.map_toArray,ZU,VQ]at nR⊢;rw[nR];unfold newRow;exact aA (aA (aA (pc λrr hf=>cJ (au (au (au (fin rr hf)))))))
  ·rw[if_neg h0];refine aA (aA ?_);unfold typeInfo;refine aA (rf (cJ ?_));rw[hi];refine au ?_;rw[hz];refine au (aA (au ?_));rw[VQ,nR];unfold newRow;exact aA (aA (aA (pc λrr hf=>cJ (au (au (au (fin rr hf)))))))
 ·cases ht
end
open Go.Conc
def acC (P:SI)(t:TypeId):Bool:=match P.underlying t with
 |some (.int _)=>false
 |some _=>true
 |none=>false
def jy (P:SI)(t t':TypeId):Option (TypeId×Nat×SP):=match P.underlying t with
 |some (.slice e)=>(P.info? e).bind λi=>i.zero.bind λz=>if z.cells.size=i.size/\i.bytes<=2^16/\i.bytes≠0/\acC P t'=true then some (e,i.size,z)else none
 |_=>none
theorem jy.out{P:SI}{t t' e:TypeId}{sz:Nat}{z:SP}(h:jy P t t'=some (e,sz,z)):∃i d,P.underlying t=some (.slice e)/\P.info? e=some i/\i.zero=some z/\i.size=sz/\z.cells.size=sz/\i.bytes<=2^16/\i.bytes≠0/\P.underlying t'=some d/\(∀k,d≠ .int k):=by
 unfold jy at h;split at h
 ·rename_i e' hu;obtain⟨i,h1,h⟩:=Th.1 h;obtain⟨z',h2,h⟩:=Th.1 h;split at h
  ·rename_i hc;obtain⟨c1,c2,c3,c4⟩:=hc;cases h;unfold acC at c4;split at c4
   ·cases c4
   ·rename_i d hd aH;exact⟨i,d,hu,h1,h2,rfl,c1,c2,c3,aH,λk e=>hd k e⟩
   ·cases c4
  ·cases h
 ·cases h
def AS.src (s:AS)(sz:Nat):AV->Option (Nat×List AV)
 |.sl m l _=>some (m,l.take (m* sz))
 |.bA id off m _=>match s.H[id]?with
  |some (.cells l _)|some (.part _ l _)|some (.own _ l _)=>some (m,(l.drop off).take (m* sz))
  |_=>none
 |_=>none
section
variable {P:SI}{E:Env}{V:View}{s:AS}{K:Array SP->View->Prop}{Kp:SP->View->Prop}
theorem Gm{l:List AV}{f:Nat->SP}{n:Nat}(hn:n<=l.length)(h:∀(i:Nat) x,l[i]?=some x->ap E x (f i)):cK E (l.take n) ((SR n).map f).toArray:=by
 have:=Ks hn h;cases this with
 |agg h1 h2=>exact⟨h1,h2⟩
theorem Fg(hc:Conc E V s.H){av:AV}{v:SP}(hd:ap E av v){sz m k:Nat}{l:List AV}(h:s.src sz av=some (m,l))(hl:l.length=m* sz)(hk:k<=m)(hK:∀cs,cK E (l.take (k* sz)) cs->K cs V):aS P V (VC sz k v) K Kp:=by
 have hks:k* sz<=m* sz:=TM _ hk;cases hd with
 |sl b o cap f dR he h1 h2=>
  cases h;rename_i l _;simp only[TC]at hl;have e:(l.take (m* sz)).take (k* sz)=l.take (k* sz):=by rw[Vd];congr 1;omega
  rw[e]at hK;unfold VC;exact B1 (f:=f) (λhp=>(hc.abH (h1 0 (by omega))).1) (λj hj=>by unfold View.get;rw[<- hc.I,h1 j (by omega)]) (hK _ (Gm (by omega) h2))
 |nil he=>
  cases h;have:k=0:=by omega
  subst this;have hK:=hK #[] ⟨by simp,by simp⟩;unfold VC;split
  ·rw[ac'];exact au hK
  ·exact au hK
  ·rename_i h;cases h
  ·rename_i a _ _ h1 h2 _;cases a with
   |none=>exact(h2 _ _ rfl).elim
   |some x=>exact(h1 _ _ _ rfl).elim
 |bA hi dR=>
  rename_i id off m' cap cap';simp only[AS.src]at h;cases hq:s.H[id]?with
  |none=>rw[hq]at h;cases h
  |some ob=>
   rw[hq]at h;cases ob with
   |cells l' el=>
    cases h;obtain⟨⟨cs,ho,hs,bx⟩,kK⟩:=hc.obj id _ hq;simp only[TC,Ur]at hl;have e:((l'.drop off).take (m* sz)).take (k* sz)=(l'.drop off).take (k* sz):=(by rw[Vd];congr 1;omega);rw[e]at hK;unfold VC;refine B1 (f:=λi=>cs.getD (off+i) undef) (λ_=>(hc.jq hq rfl).1) (λj hj=> ?_) (hK _ (Gm (by simp only[Ur];omega) λi x hx=> ?_))
    ·unfold View.get;rw[kK,ho];have hlt:off+j<cs.size:=(by omega);simp only[SH,SJ hlt,S8]
    ·rw[Us]at hx;exact bx _ _ hx
   |part p l' el=>
    cases h;obtain⟨⟨cs,ho,⟨hs,bx⟩,mv⟩,kK⟩:=hc.obj id _ hq;simp only[TC,Ur]at hl;have e:((l'.drop off).take (m* sz)).take (k* sz)=(l'.drop off).take (k* sz):=(by rw[Vd];congr 1;omega);rw[e]at hK;unfold VC;refine B1 (f:=λi=>cs.getD (off+i) undef) (λ_=>(hc.jq hq rfl).1) (λj hj=> ?_) (hK _ (Gm (by simp only[Ur];omega) λi x hx=> ?_))
    ·have hlt:off+j<cs.size:=(by omega);unfold View.get;by_cases hp:off+j<p
     ·rw[mv _ hp];simp only[SH,SJ hlt,S8]
     ·rw[kK _ (by omega),ho];simp only[SH,SJ hlt,S8]
    ·rw[Us]at hx;exact bx _ _ hx
   |own eI l' el=>
    cases h;obtain⟨⟨cs,ho,⟨hs,bx⟩,_⟩,kK⟩:=hc.obj id _ hq;simp only[TC,Ur]at hl;have e:((l'.drop off).take (m* sz)).take (k* sz)=(l'.drop off).take (k* sz):=(by rw[Vd];congr 1;omega);rw[e]at hK;unfold VC;refine B1 (f:=λi=>cs.getD (off+i) undef) (λ_=>(hc.jq hq rfl).1) (λj hj=> ?_) (hK _ (Gm (by simp only[Ur];omega) λi x hx=> ?_))
    ·have hlt:off+j<cs.size:=(by omega);unfold View.get;rw[kK,ho];simp only[SH,SJ hlt,S8]
    ·rw[Us]at hx;exact bx _ _ hx
   |_=>cases h
 |_=>cases h
theorem I1{av:AV}{v:SP}(hd:ap E av v){sz m:Nat}{l:List AV}(h:s.src sz av=some (m,l)):awf v=pure m:=by
 cases hd with
 |sl=>cases h;rfl
 |nil=>cases h;rfl
 |bA=>
  simp only[AS.src]at h;split at h
  ·cases h;rfl
  ·cases h;rfl
  ·cases h;rfl
  ·cases h
 |_=>cases h
end
theorem aau(vV:Nat):∀(r c:Nat),c<=2* vV+200->Zz vV r c<=2* vV+200
 |0,c,h=>h
 |r+1,c,h=>by
  unfold Zz;split
  ·exact h
  ·exact aau vV r _ (by omega)
theorem apb(vV cap:Nat)(h:cap<vV):W_ vV cap<=2* vV+200:=by
 unfold W_;split
 ·omega
 ·split
  ·omega
  ·exact aau vV 4 cap (by omega)
theorem C5{E:Env}{l m:List AV}{x y:Array SP}(h:cK E l x)(k:cK E m y):cK E (l++m) (x++y):=by
 refine⟨by simp[h.1,k.1],λi a e=> ?_⟩;by_cases hi:i<l.length
 ·rw[S0 hi]at e;have:=h.2 i a e;rw[SH,Yk (by rw[h.1];exact hi)];rwa [SH]at this
 ·rw[S_ (by omega)]at e;have:=k.2 _ a e;rw[SH,Yh (by rw[h.1];omega),h.1];rwa [SH]at this
theorem Pd{P:SI}{V:View}{α:Type}{K:α->View->Prop}{Kp:SP->View->Prop}{b:Bool}{k:Bool->Sem α}(hb:b=false)(h:aS P V (k false) K Kp):aS P V (pure b>>=k) K Kp:=by
 subst hb;exact aA (au h)
section
variable {P:SI}{E:Env}{V:View}{s:AS}{K:SP->View->Prop}{Kp:SP->View->Prop}
theorem adE{n:Nat}{K:Unit->View->Prop}(h:K () V):aS P V (askRoom n) K Kp:=by
 unfold askRoom;split
 ·exact arX (cJ h)
 ·exact au h
theorem adD(hc:Conc E V s.H){t t' e:TypeId}{sz n m cap:Nat}{z:SP}{base:Option Vf}{av:AV}{v:SP}{ax:AV}{l l':List AV}{ty:TypeId}(ht:jy P t t'=some (e,sz,z))(hd:ap E ax (.slice base n cap))(dg:s.src sz ax=some (n,l))(cD:ap E av v)(hs:s.src sz av=some (m,l'))
  (hl:l.length=n* sz) (eO:l'.length=m* sz) (hb:n+m<=2^30) (Mm:cap<n+m)
  (hK:∀r cs cap',V.fresh r->cK E (l++l') (cs.extract 0 ((n+m)* sz))->n+m<=cap'->cs.size=cap'* sz->K (.slice (some ⟨r,0,none⟩) (n+m) cap') (V.upd r (.cells cs e))):aS P V (VG #[t,t'] ty #[.slice base n cap,v]) K Kp:=by
 obtain⟨i,d,h1,h2,h3,h4,h5,h6,h7,h8,h9⟩:=jy.out ht;unfold VG;simp only[Vq,Vy,UR];refine ey h1 ?_;dsimp only;refine j5 h2 ?_;rw[h4];refine ey h8 ?_;refine Pd (by cases d<;>first|rfl|exact absurd rfl (h9 _)) ?_;simp only[TV,if_false,YM,if_true];rw[I1 cD hs];refine aA (au ?_);rw[if_neg (by omega)];refine zN h2 ?_;rw[if_neg (by intro hx;exact hx.2.elim (λx=>x.elim) h7)];refine zN h2 ?_;have dR:=apb (n+m) cap Mm;have hmul:W_ (n+m) cap* i.bytes<=(2* 2^30+200)* 2^16:=Z0 (by omega) h6;rw[if_neg (by omega)];refine aA (adG (λhf=>by cases hf) (λ_ t=>cJ ?_));generalize jk:ZE (.appendCap (n+m) cap e) t=cap';have GZ:n+m<=cap':=by rw[<- jk];exact Nat.le_add_right _ _
 refine zN h2 (aA (adE (aA ?_)));refine Fg hc hd dg hl (SO _) λAx L6=> ?_;refine aA (Fg hc cD hs eO (SO _) λjD lm=> ?_);refine IY (z:=z) (by unfold eS;rw[h2];exact h3) ?_;rw[<- hl,Tn]at L6;rw[<- eO,Tn]at lm;unfold newRow;refine aA (aA (pc λr hf=>cJ (au (au ?_))));have am8:Ax.size=n* sz:=by rw[L6.1,hl]
 have Bt:jD.size=m* sz:=by rw[lm.1,eO]
 have aY:(Ax++jD).size=(n+m)* sz:=by rw[XL,am8,Bt,Vr]
 refine hK r _ cap' hf ?_ GZ ?_
 ·have e1:(Ax++jD++Xt z.cells (cap'-(n+m))).extract 0 ((n+m)* sz)=Ax++jD:=by
   rw[<- aY];generalize Ax++jD=q;apply VJ;simp[Array.toList_extract,List.extract_eq_take_drop]
  rw[e1];exact C5 L6 lm
 ·rw[XL,aY];have:(Xt z.cells (cap'-(n+m))).size=(cap'-(n+m))* sz:=by simp[Xt,h5]
  rw[this,<- Vr];congr 1;omega
theorem IW(hc:Conc E V s.H){t t' e:TypeId}{sz n m cap:Nat}{z:SP}{base:Option Vf}{av:AV}{v:SP}{en:End}{l l':List AV}{ty:TypeId}(ht:jy P t t'=some (e,sz,z))(hd:ap E (.sl n l en) (.slice base n cap))(cD:ap E av v)(hs:s.src sz av=some (m,l'))
  (hl:l.length=n* sz) (eO:l'.length=m* sz) (hb:n+m<=2^30) (Mm:cap<n+m)
  (hK:∀r cs cap',V.fresh r->cK E (l++l') (cs.extract 0 ((n+m)* sz))->n+m<=cap'->cs.size=cap'* sz->K (.slice (some ⟨r,0,none⟩) (n+m) cap') (V.upd r (.cells cs e))):aS P V (VG #[t,t'] ty #[.slice base n cap,v]) K Kp:=
 adD hc ht hd (by simp only[AS.src];rw[<- hl,Tn]) cD hs hl eO hb Mm hK
theorem IX(hc:Conc E V s.H){t t' e:TypeId}{sz n cap:Nat}{z:SP}{base:Option Vf}{av:AV}{v:SP}{l':List AV}{ty:TypeId}(ht:jy P t t'=some (e,sz,z))(cD:ap E av v)(hs:s.src sz av=some (0,l'))
  (eO:l'.length=0* sz) (hle:n<=cap) (hK:K (.slice base n cap) V):aS P V (VG #[t,t'] ty #[.slice base n cap,v]) K Kp:=by
 obtain⟨i,d,h1,h2,h3,h4,h5,h6,h7,h8,h9⟩:=jy.out ht;unfold VG;simp only[Vq,Vy,UR];refine ey h1 ?_;dsimp only;refine j5 h2 ?_;rw[h4];refine ey h8 ?_;refine Pd (by cases d<;>first|rfl|exact absurd rfl (h9 _)) ?_;simp only[TV,if_false,YM,if_true];rw[I1 cD hs];refine aA (au ?_);rw[if_pos (by omega)];refine aA (Fg hc cD hs eO (SO _) λjD lm=> ?_);have Bt:jD=#[]:=by
  have:=lm.1;apply Array.eq_empty_of_size_eq_zero;rw[this];simp
 subst Bt;rw[UJ];cases base with
 |none=>exact au hK
 |some a=>
  dsimp only;unfold storeCells;exact aA (au (au hK))
theorem adC(hc:Conc E V s.H){t t' e:TypeId}{sz n m cap:Nat}{z:SP}{b:Nat}{av:AV}{v:SP}{l':List AV}{ty:TypeId}{cs:Array SP}{el:TypeId}(ht:jy P t t'=some (e,sz,z))(cD:ap E av v)(hs:s.src sz av=some (m,l'))
  (eO:l'.length=m* sz) (hle:n+m<=cap) (ho:V.own b=some (.cells cs el (0,0))) (aY:cap* sz<=cs.size) (hi:∀o,n* sz<=o->V.ah b o=none) (hg:V.role.group≠some b/\V.role.chan≠some b) (nS:∀a∈l',a.leaf=true)
  (hK:∀jD,cK E l' jD->K (.slice (some ⟨b,0,none⟩) (n+m) cap) (V.upd b (.cells (storeAt cs (n* sz) jD.toList) el (0,0)))):aS P V (VG #[t,t'] ty #[.slice (some ⟨b,0,none⟩) n cap,v]) K Kp:=by
 obtain⟨i,d,h1,h2,h3,h4,h5,h6,h7,h8,h9⟩:=jy.out ht;unfold VG;simp only[Vq,Vy,UR];refine ey h1 ?_;dsimp only;refine j5 h2 ?_;rw[h4];refine ey h8 ?_;refine Pd (by cases d<;>first|rfl|exact absurd rfl (h9 _)) ?_;simp only[TV,if_false,YM,if_true];rw[I1 cD hs];refine aA (au ?_);rw[if_pos (by omega)];refine aA (Fg hc cD hs eO (SO _) λjD lm=> ?_);rw[<- eO,Tn]at lm;rw[add_plain];have vu:(n+m)* sz<=cap* sz:=TM _ hle;rw[Vr]at vu;refine aA (B4 _ 0 V cs hg.1 hg.2 ho (λo h _=>hi o (by omega)) (by have:=lm.1;simp;omega) (C6 lm nS) ?_);rw[Wv,UJ];exact au (hK jD lm)
end
def Env.tok (E:Env)(I:cC)(rm:Option Vf×Nat)(v:Nat):Env:={E with I:=I,n:=E.n+1,room:=λk u=>if k=E.n/\u=v then rm else E.room k u,fF:=λk=>if k=E.n then v else E.fF k}
theorem Env.N7(E:Env){I:cC}(hI:∀b o v,E.I b o=some v->I b o=some v)(rm:Option Vf×Nat)(v:Nat):E.Le (E.tok I rm v):=
 ⟨hI,Y_ _,λk hk=>rfl,λk hk=>by simp[Env.tok,We hk],λk u hk _=>by simp[Env.tok,We hk],rfl,rfl⟩
def Env.grow (E:Env)(I:cC)(k:Nat)(rm:Option Vf×Nat)(v:Nat):Env:={E with I:=I,room:=λj u=>if j=k/\u=v then rm else E.room j u,fF:=λj=>if j=k then v else E.fF j}
theorem Env.abZ(E:Env){I:cC}(hI:∀b o v,E.I b o=some v->I b o=some v){k:Nat}(rm:Option Vf×Nat){v:Nat}(hv:E.fF k<v):E.Le (E.grow I k rm v):=
 ⟨hI,SO _,λ_ _=>rfl,λj _=>by
  simp only[Env.grow];split
  ·rename_i e;subst e;omega
  ·exact SO _,λj u _ hu=>by
  simp only[Env.grow];split
  ·rename_i e;obtain⟨rfl,rfl⟩:=e;omega
  ·rfl,rfl,rfl⟩
open Go.Conc
abbrev View.laid (V:View)(b:Nat)(cs:Array SP)(el:TypeId)(p:Nat->Bool):View:=(V.upd b (.cells cs el (0,0))).eP b cs p
theorem N3{V:View}{b b':Nat}{cs:Array SP}{el:TypeId}{p:Nat->Bool}(h:b'≠b):(V.laid b cs el p).own b'=V.own b':=by simp[View.laid,View.eP,View.upd,h]
theorem N2{V:View}{b b':Nat}{cs:Array SP}{el:TypeId}{p:Nat->Bool}(h:b'≠b)(o:Nat):(V.laid b cs el p).ah b' o=V.ah b' o:=by simp[View.laid,View.eP,View.upd,h]
theorem H9{V:View}{b:Nat}{cs:Array SP}{el:TypeId}{p:Nat->Bool}(hp:∀o,p o=true->V.ah b o=none):∀b' o v,V.ah b' o=some v->(V.laid b cs el p).ah b' o=some v:=λb' o v h=>by
 have hn:¬(b'=b/\p o=true):=λhb=>by obtain⟨rfl,h2⟩:=hb;rw[hp o h2]at h;cases h
 simp only[View.laid,View.eP,View.upd,if_neg hn];exact h
theorem H8{V:View}{b:Nat}{cs:Array SP}{el:TypeId}{p:Nat->Bool}{o:Nat}(h:p o=true):(V.laid b cs el p).ah b o=cs[o]?:=by simp[View.laid,View.eP,h]
theorem N4{V:View}{b:Nat}{cs:Array SP}{el:TypeId}{p:Nat->Bool}:(V.laid b cs el p).own b=some (.cells cs el (0,0)):=by simp[View.laid,View.eP,View.upd]
theorem Kr{E:Env}{I:cC}{b n cap:Nat}{cs:Array SP}{l:List AV}{e:End}{sz:Nat}(hI:E.I=I)(hd:cK E l (cs.extract 0 (n* sz)))(hl:l.length=n* sz)(hs:n* sz<=cs.size)(hi:∀o,o<n* sz->I b o=cs[o]?)(hc:n<=cap)(he:qg E e (some ⟨b,0,none⟩) n cap):ap E (.sl n l e) (.slice (some ⟨b,0,none⟩) n cap):=by
 refine .sl b 0 cap (λi=>cs.getD i undef) hc he (λi h=> ?_) (λi x hx=> ?_)
 ·rw[hl]at h;have hlt:i<cs.size:=by omega
  rw[hI,Wv,hi i h];simp only[SH,SJ hlt,S8]
 ·have cE:i<n* sz:=by rw[<- hl];exact(SL.1 hx).1
  have:=hd.2 i x hx;have hlt:i<cs.size:=by omega
  rw[SH,SJ hlt];rw[SH]at this;rw[Array.getElem?_extract]at this;have Hm:i<min (n* sz) cs.size:=by omega
  simpa[cE,hlt,Hm]using this
section
variable {E:Env}{V:View}{H:List aa}
theorem Conc.Py(hc:Conc E V H){n:Nat}(sz:Nat)(el:TypeId)(a:Option Vf):Conc (E.tok V.ah (a,n) n) V (H++[.tail n sz el])/\E.Le (E.tok V.ah (a,n) n):=by
 have hle:=E.N7 (I:=V.ah) (λb o v h=>by rw[<- hc.I];exact h) (a,n) n;refine⟨hc.iO H.length (.tail n sz el) hle rfl (by simp[Env.tok,hc.n]) EH rfl (λj hj _=>by simp[Env.tok,hc.n,hj]) (λb y _ hy=>⟨hy,λ_=>rfl⟩) ?_ (λb h=> ?_),hle⟩
 ·rw[<- hc.n];exact⟨by simp[Env.tok],.inl (by simp[Env.tok])⟩
 ·rw[<- hc.n]at h;simp[bT,Env.tok]at h
theorem Conc.aex(hc:Conc E V H){r n cap sz:Nat}{el:TypeId}{cs:Array SP}(hf:V.fresh r)(hs:cs.size=cap* sz)(hn:n<=cap):
  Conc (E.tok (V.laid r cs el (·<n* sz)).ah (some ⟨r,0,none⟩,cap) n) (V.laid r cs el (·<n* sz)) (H++[.tail n sz el])/\E.Le (E.tok (V.laid r cs el (·<n* sz)).ah (some ⟨r,0,none⟩,cap) n):=by
 have hle:=E.N7 (I:=(V.laid r cs el (·<n* sz)).ah) (λb o v h=>H9 (λo _=>hf.2 o) b o v (by rw[<- hc.I];exact h)) (some ⟨r,0,none⟩,cap) n;refine⟨hc.iO H.length (.tail n sz el) hle rfl (by simp[Env.tok,hc.n]) EH rfl (λj hj _=>by simp[Env.tok,hc.n,hj]) (λb y _ hy=> ?_) ?_ (λb h=> .inr ?_),hle⟩
 ·have hb:b≠r:=λe=>by subst e;rw[hf.1]at hy;cases hy
  exact⟨by rw[N3 hb];exact hy,λo=>N2 hb o⟩
 ·rw[<- hc.n];refine⟨by simp[Env.tok],?_⟩;by_cases e:cap=n
  ·exact .inl (by simp[Env.tok,e])
  ·refine .inr ⟨r,cap,cs,by simp[Env.tok],N4,hs,by omega,λo ho=> ?_⟩;have:¬(decide (o<n* sz)=true):=(by simpa using ho);simp only[View.laid,View.eP];rw[if_neg (λx=>this x.2)];exact hf.2 o
 ·rw[<- hc.n]at h;simp[bT,Env.tok]at h;obtain⟨_,rfl⟩:=h;exact hf.1
theorem Conc.akY(hc:Conc E V H){k r n n' cap sz:Nat}{el gV:TypeId}{cs:Array SP}(hk:H[k]?=some (.tail n sz gV))(hf:V.fresh r)(hs:cs.size=cap* sz)(hn:n'<=cap)(hlt:n<n'):
  Conc (E.grow (V.laid r cs el (·<n'* sz)).ah k (some ⟨r,0,none⟩,cap) n') (V.laid r cs el (·<n'* sz)) (H.set k (.tail n' sz el))/\E.Le (E.grow (V.laid r cs el (·<n'* sz)).ah k (some ⟨r,0,none⟩,cap) n'):=by
 have Bx:E.fF k=n:=(hc.obj k _ hk).1;have hle:=E.abZ (I:=(V.laid r cs el (·<n'* sz)).ah) (λb o v h=>H9 (λo _=>hf.2 o) b o v (by rw[<- hc.I];exact h)) (k:=k) (some ⟨r,0,none⟩,cap) (v:=n') (by omega);refine⟨hc.iO k (.tail n' sz el) hle rfl (by simpa[Env.grow]using hc.n) lD rfl (λj hj _=>by simp[Env.grow,hj]) (λb y _ hy=> ?_) ?_ (λb h=> .inr ?_),hle⟩
 ·have hb:b≠r:=λe=>by subst e;rw[hf.1]at hy;cases hy
  exact⟨by rw[N3 hb];exact hy,λo=>N2 hb o⟩
 ·refine⟨by simp[Env.grow],?_⟩;by_cases e:cap=n'
  ·exact .inl (by simp[Env.grow,e])
  ·refine .inr ⟨r,cap,cs,by simp[Env.grow],N4,hs,by omega,λo ho=> ?_⟩;have:¬(decide (o<n'* sz)=true):=(by simpa using ho);simp only[View.laid,View.eP];rw[if_neg (λx=>this x.2)];exact hf.2 o
 ·simp[bT,Env.grow]at h;obtain⟨_,rfl⟩:=h;exact hf.1
theorem Conc.akZ(hc:Conc E V H){k b n n' cap sz:Nat}{el gV:TypeId}{cs eU:Array SP}(hk:H[k]?=some (.tail n sz gV))(hrm:E.room k n=(some ⟨b,0,none⟩,cap))(ho:V.own b=some (.cells cs el (0,0)))(hi:∀o,n* sz<=o->V.ah b o=none)(hs:eU.size=cap* sz)(hn:n'<=cap)(hlt:n<n'):
  Conc (E.grow (V.laid b eU el (λo=>n* sz<=o&&o<n'* sz)).ah k (some ⟨b,0,none⟩,cap) n') (V.laid b eU el (λo=>n* sz<=o&&o<n'* sz)) (H.set k (.tail n' sz el))/\E.Le (E.grow (V.laid b eU el (λo=>n* sz<=o&&o<n'* sz)).ah k (some ⟨b,0,none⟩,cap) n'):=by
 have Bx:E.fF k=n:=(hc.obj k _ hk).1;have hp:∀o,(λo=>decide (n* sz<=o)&&decide (o<n'* sz)) o=true->V.ah b o=none:=λo h=>hi o (by simp at h;exact h.1);have hle:=E.abZ (I:=(V.laid b eU el (λo=>n* sz<=o&&o<n'* sz)).ah) (λb o v h=>H9 hp b o v (by rw[<- hc.I];exact h)) (k:=k) (some ⟨b,0,none⟩,cap) (v:=n') (by omega);have kH:bT E k (.tail n sz gV)=some b:=by
  simp only[bT,hrm];rw[if_neg (by omega)];rfl
 refine⟨hc.iO k (.tail n' sz el) hle rfl (by simpa[Env.grow]using hc.n) lD rfl (λj hj _=>by simp[Env.grow,hj]) (λb' y fA hy=> ?_) ?_ (λb' h=> .inl ⟨_,hk,?_⟩),hle⟩
 ·have hb:b'≠b:=λe=>by subst e;exact fA _ hk kH
  exact⟨by rw[N3 hb];exact hy,λo=>N2 hb o⟩
 ·refine⟨by simp[Env.grow],?_⟩;by_cases e:cap=n'
  ·exact .inl (by simp[Env.grow,e])
  ·have Hq:n* sz<=n'* sz:=TM _ (by omega);refine .inr ⟨b,cap,eU,by simp[Env.grow],N4,hs,by omega,λo bm=> ?_⟩;have:¬((decide (n* sz<=o)&&decide (o<n'* sz))=true):=(by simp;omega);simp only[View.laid,View.eP];rw[if_neg (λx=>this x.2)];exact hi o (by omega)
 ·simp[bT,Env.grow]at h;obtain⟨_,rfl⟩:=h;exact kH
end
section
variable {lv:Bool}{P:SI}{r:Option Nat}{o:Tx}{s:AS}{next:AS->Prop}{bad:AV->AS->Prop}
def Cj (s:AS)(dst:Option Nat)(next:AS->Prop)(n m sz:Nat)(elem:TypeId)(l l':List AV):End->Prop
 |.exact=>next ((⟨s.T,s.H++[.tail (n+m) sz elem]⟩:AS).put dst (.sl (n+m) (l++l') (.opn s.H.length)))
 |.opn k=>(match s.H[k]?with
   |some (.tail n' eI gV)=>n'=n/\eI=sz/\gV=elem
   |_=>False)/\(∀a∈l',a.leaf=true)/\next ((⟨s.T,s.H.set k (.tail (n+m) sz elem)⟩:AS).put dst (.sl (n+m) (l++l') (.opn k)))
 |.shut=>m=0/\next (s.put dst (.sl n l .shut))
theorem aia{E E':Env}{n:Nat}{l:List AV}{en:End}{base:Option Vf}{cap:Nat}(h:ap E (.sl n l en) (.slice base n cap))(hl:E.Le E'){e':End}(he:qg E' e' base n cap):ap E' (.sl n l e') (.slice base n cap):=by
 cases h with
 |sl b o cap f hc _ h1 h2=>exact .sl b o cap f hc he (λi hi=>hl.I _ _ _ (h1 i hi)) (λi x hx=>(h2 i x hx).mono hl)
 |nil _=>exact .nil he
theorem step_append{c:Xy}{x y:Tl}{t t' elem:TypeId}{sz n m:Nat}{z:SP}{en:End}{l l':List AV}{av:AV}(ho:o.op=.call c)(a_:c.callee=.builtin .append)(cN:c.args=#[x,y]) (dU:c.argTypes=#[t,t']) (ht:jy P t t'=some (elem,sz,z))
  (hx:s.ev x=some (.sl n l en)) (hy:s.ev y=some av) (hs:s.src sz av=some (m,l')) (hl:l.length=n* sz) (eO:l'.length=m* sz) (hb:n+m<=2^30) (hn:Cj s o.dst next n m sz elem l l' en):Step lv P r o s next bad:=by
 intro E V a N Q hc aE hd bC h1 _;refine⟨bC,?_⟩;have dA:=ap.ev aE hx;have iV:=ap.ev aE hy;generalize ky:a.eval x=vx at dA;generalize sj:a.eval y=vy at iV;unfold execOp;rw[ho];dsimp only;unfold resolve;rw[a_];dsimp only;refine aA (au ?_);unfold invoke builtin;dsimp only;refine aA ?_;have nT:c.args.map a.eval=#[vx,vy]:=by rw[cN];simp[ky,sj]
 rw[nT,dU];obtain⟨base,cap,rfl⟩:∃base cap,vx=.slice base n cap:=by
  cases dA with
  |sl b o cap f dR he q1 q2=>exact⟨_,_,rfl⟩
  |nil he=>exact⟨_,_,rfl⟩
 have dR:n<=cap:=by
  cases dA with
  |sl b o cap f dR he q1 q2=>exact dR
  |nil he=>exact SO _
 have fin:∀E' V' H' (mS:AV) v',E.Le E'->V'.role=V.role->V'.deaf=V.deaf->Conc E' V' H'->ap E' mS v'->next ((⟨s.T,H'⟩:AS).put o.dst mS)->aS P V' (pure (Xc v')) (mP lv P r o a N Q) (λv V'=>Q (.panic [{v,recovered:=false}]) a V'):=λE' V' H' mS v' hle hr vb bu bx cR=>
  au (h1 E' V' (a.put o.dst v') ((⟨s.T,H'⟩:AS).put o.dst mS) ⟨hle,eg _ _ _,put_defers _ _ _,hr,vb⟩ (by rw[ft];exact bu) (cr.ie (s:=⟨s.T,H'⟩) (aE.mono hle) hd bx) cR)
 have ue:(l++l').length=(n+m)* sz:=by rw[SQ,hl,eO,Vr]
 cases en with
 |exact=>
  have gX:cap=n:=by
   cases dA with
   |sl b o cap f dR he q1 q2=>exact he
   |nil he=>rfl
  subst gX;have iZ:=hn;simp only[Cj]at iZ;by_cases hm:m=0
  ·subst hm;have tS:l'=[]:=(by simpa using eO);subst tS;refine IX hc ht iV hs eO (SO _) ?_;obtain⟨bu,hle⟩:=hc.Py (n:=cap) sz elem base;refine fin _ V _ _ _ hle rfl rfl bu (aia (e':=.opn s.H.length) dA hle ⟨?_,?_,?_⟩) (by simpa using iZ)
   ·simp[Env.tok,hc.n]
   ·simp[Env.tok,hc.n]
   ·simp[Env.tok,hc.n]
  ·refine IW hc ht dA iV hs hl eO hb (by omega) λrr cs cap' hf bx hle aY=> ?_;obtain⟨bu,r6⟩:=hc.aex (el:=elem) hf aY hle;have vB:(cap+m)* sz<=cs.size:=(by rw[aY];exact TM _ hle);refine aS.ghost (yx (f:=(0,0)) (cs:=cs) (el:=elem) (p:=(·<(cap+m)* sz)) (by simp[View.upd]) (λo _=>hf.2 o)) ?_;refine fin _ _ _ _ _ r6 rfl rfl bu (Kr (I:=(V.laid rr cs elem (·<(cap+m)* sz)).ah) (e:=.opn s.H.length) (sz:=sz) (cs:=cs) rfl (bx.mono r6) ue vB (λo h=>H8 (by simpa using h)) hle ⟨?_,?_,?_⟩) iZ
   ·simp[Env.tok,hc.n]
   ·simp[Env.tok,hc.n]
   ·simp[Env.tok,hc.n]
 |shut=>
  obtain⟨rfl,iZ⟩:=hn;have tS:l'=[]:=by simpa using eO
  subst tS;refine IX hc ht iV hs eO dR ?_;exact fin E V s.H _ _ (Env.Le.refl E) rfl rfl hc dA iZ
 |opn k=>
  obtain⟨vp,nS,iZ⟩:=hn;split at vp
  ·rename_i n' eI gV hk;obtain⟨rfl,rfl,rfl⟩:=vp;have heo:qg E (.opn k) base n' cap:=by
    cases dA with
    |sl b o cap f dR he q1 q2=>exact he
    |nil he=>exact he
   obtain⟨e1,e2,e3⟩:=heo;obtain⟨Bx,HD⟩:=hc.obj k _ hk;have uc:s.H.set k (.tail n' eI gV)=s.H:=by
    apply Yw;intro i;by_cases hi:i=k
    ·subst hi;rw[Xg (SL.1 hk).1,hk]
    ·rw[Ud (Ne.symm hi)]
   by_cases hm:m=0
   ·subst hm;have tS:l'=[]:=(by simpa using eO);subst tS;refine IX hc ht iV hs eO dR ?_;refine fin E V s.H _ _ (Env.Le.refl E) rfl rfl hc dA ?_;rw[UJ,uc,SN]at iZ;exact iZ
   ·by_cases jU:n'+m<=cap
    ·rcases HD with HD|⟨b,au4,cs,r1,r2,r3,r4,r5⟩
     ·rw[e3]at HD;simp only at HD;omega
     ·rw[e3]at r1;cases r1;have kH:bT E k (.tail n' eI gV)=some b:=by
       simp only[bT,e3];rw[if_neg (by omega)];rfl
      refine adC hc ht iV hs eO jU r2 (WL r3.symm) r5 (hc.jq hk kH) nS λjD lm=> ?_;have Bt:jD.toList.length=m* eI:=(by have:=lm.1;simp;omega);have vu:(n'+m)* eI<=cap* eI:=TM _ jU;rw[Vr]at vu;have ud:(storeAt cs (n'* eI) jD.toList).size=cap* eI:=(by rw[zS];exact r3);obtain⟨bu,r6⟩:=hc.akZ hk e3 r2 r5 ud jU (by omega);refine aS.ghost (yx (f:=(0,0)) (cs:=storeAt cs (n'* eI) jD.toList) (el:=gV) (p:=λo=>n'* eI<=o&&o<(n'+m)* eI) (by simp[View.upd]) (λo h=>r5 o (by simp at h;exact h.1))) ?_;refine fin _ _ _ _ _ r6 rfl rfl bu ?_ iZ;cases dA with
      |nil he=>exact absurd jU (by omega)
      |sl b' o' cap f GZ he q1 q2=>
       have q1':∀i,i<l.length->V.ah b i=some (f i):=λi hi=>(by have:=q1 i hi;rwa [hc.I,Wv]at this);refine .sl b 0 cap (λi=>if i<n'* eI then f i else(storeAt cs (n'* eI) jD.toList).getD i undef) (by omega) ⟨?_,?_,?_⟩ (λi hi=> ?_) (λi x hx=> ?_)
       ·exact e1
       ·simp[Env.grow]
       ·simp[Env.grow]
       ·rw[ue,Vr]at hi;show (V.laid b (storeAt cs (n'* eI) jD.toList) gV (λo=>n'* eI<=o&&o<(n'+m)* eI)).ah b (0+i)=_;rw[Wv];by_cases cE:i<n'* eI
        ·rw[if_pos cE];exact H9 (λo h=>r5 o (by simp at h;exact h.1)) _ _ _ (q1' i (by omega))
        ·rw[if_neg cE,H8 (by simp[Vr];omega)];have hlt:i<(storeAt cs (n'* eI) jD.toList).size:=(by rw[ud];omega);simp only[SH,SJ hlt,S8]
       ·by_cases cE:i<n'* eI
        ·rw[S0 (by omega)]at hx;rw[if_pos cE];exact(q2 i x hx).mono r6
        ·rw[S_ (by omega)]at hx;have vg:i-l.length<l'.length:=(SL.1 hx).1;rw[if_neg cE,Fq _ _ _ _ (by rw[Bt,r3];omega),if_pos (by rw[Bt];omega)];have:=(lm.2 _ _ hx).mono r6;rw[hl]at this;simpa[SH,SE]using this
    ·refine IW hc ht dA iV hs hl eO hb (by omega) λrr cs cap' hf bx hle aY=> ?_;obtain⟨bu,r6⟩:=hc.akY (el:=gV) (n':=n'+m) hk hf aY hle (by omega);have vB:(n'+m)* eI<=cs.size:=(by rw[aY];exact TM _ hle);refine aS.ghost (yx (f:=(0,0)) (cs:=cs) (el:=gV) (p:=(·<(n'+m)* eI)) (by simp[View.upd]) (λo _=>hf.2 o)) ?_;refine fin _ _ _ _ _ r6 rfl rfl bu (Kr (I:=(V.laid rr cs gV (·<(n'+m)* eI)).ah) (e:=.opn k) (sz:=eI) (cs:=cs) rfl (bx.mono r6) ue vB (λo h=>H8 (by simpa using h)) hle ⟨?_,?_,?_⟩) iZ
     ·exact e1
     ·simp[Env.grow]
     ·simp[Env.grow]
  ·exact vp.elim
def Env.io (E:Env)(r:Nat)(I:cC)(c:Nat):Env:={E with I:=I,n:=E.n+1,blk:=λk=>if k=E.n then r else E.blk k,room:=λk u=>if k=E.n/\u=0 then(none,c)else E.room k u}
theorem Env.EG(E:Env)(r c:Nat){I:cC}(hI:∀b o v,E.I b o=some v->I b o=some v):E.Le (E.io r I c):=
 ⟨hI,Y_ _,λk hk=>by simp[Env.io,We hk],λ_ _=>SO _,λk u hk _=>by simp[Env.io,We hk],rfl,rfl⟩
theorem Env.x9(E:Env)(r c:Nat)(I:cC):(E.io r I c).blk E.n=r:=by simp[Env.io]
theorem Env.JO(E:Env)(r c:Nat)(I:cC):(E.io r I c).room E.n 0=(none,c):=by simp[Env.io]
theorem Conc.io{E:Env}{V:View}{H:List aa}(hc:Conc E V H){r c:Nat}(hf:V.fresh r){cs:Array SP}{sz:Nat}{l:List AV}{el:TypeId}(hd:j8 (E.io r V.ah c) l cs)(hs:cs.size=c* sz):Conc (E.io r V.ah c) (V.upd r (.cells cs el)) (H++[.own sz l el]):=by
 refine hc.iO (E':=E.io r V.ah c) H.length (.own sz l el) (E.EG r c (λb o v h=>by rw[<- hc.I];exact h)) rfl (by simp[Env.io,hc.n]) EH rfl (λ_ _ _=>rfl) (λb z _ hz=>⟨?_,λ_=>rfl⟩) ?_ (λb h=> .inr ?_)
 ·have:b≠r:=λe=>by rw[e,hf.1]at hz;cases hz
  simpa[View.upd,this]using hz
 ·rw[<- hc.n];refine⟨⟨cs,by rw[Env.x9];simp[View.upd],hd,by rw[Env.JO];exact hs⟩,λo=> ?_⟩;rw[Env.x9];exact hf.2 o
 ·rw[<- hc.n]at h;simp only[bT,Env.x9,Tm]at h;subst h;exact hf.1
theorem Ko{E:Env}{H:List aa}(hn:E.n=H.length){r c n:Nat}(I:cC)(h:n<=c){cap:Nat}(oW:n<=cap)(hc:cap<=c)(h0:0<n):ap (E.io r I c) (.bA H.length 0 n 0) (.slice (some ⟨r,0,none⟩) n cap):=by
 have:=ap.bA (E:=E.io r I c) (id:=H.length) (off:=0) (n:=n) (cap:=0) (cap':=cap) (by show _<E.n+1;rw[hn];omega) ⟨oW,λe=>by omega,λ_=>by rw[<- hn,Env.JO];exact hc⟩;have e:(E.io r I c).blk H.length=r:=by rw[<- hn];exact E.x9 r c I
 rwa [e]at this
theorem Conc.relabel{E:Env}{V:View}{H:List aa}(hc:Conc E V H){id sz:Nat}{l:List AV}{el:TypeId}(hk:H[id]?=some (.own sz l el)):Conc (E.io (E.blk id) V.ah (E.room id 0).2) V (H.set id .gone++[.own sz l el]):=by
 have hle:=E.EG (E.blk id) (E.room id 0).2 (I:=V.ah) (λb o v h=>by rw[<- hc.I];exact h);have avl:=(SL.1 hk).1;have hlt:∀(j:Nat) y,H[j]?=some y->j<E.n:=λj y h=>by rw[hc.n];exact(SL.1 h).1
 have rX:∀(j:Nat) y,(H.set id .gone++[aa.own sz l el])[j]?=some y->(j=H.length/\y=.own sz l el)\/(j=id/\y=.gone)\/(j≠id/\H[j]?=some y):=λj y h=>by
  rcases EH j y h with⟨h1,h2⟩|⟨_,h⟩
  ·exact .inl ⟨by simpa using h1,h2⟩
  ·rcases lD j y h with h|h
   ·exact .inr (.inl h)
   ·exact .inr (.inr h)
 have cO:∀(j:Nat) y b,H[j]?=some y->bT (E.io (E.blk id) V.ah (E.room id 0).2) j y=some b->bT E j y=some b:=λj y b h e=>by rw[<- QP hle (hlt j y h) (hc.obj j y h)];exact e
 have xb:∀b,bT (E.io (E.blk id) V.ah (E.room id 0).2) H.length (.own sz l el)=some b->b=E.blk id:=λb e=>by
  simp only[bT,<- hc.n,Env.x9,Tm]at e;exact e.symm
 have fA:∀g,(∀(k:Nat) x,H[k]?=some x->bT E k x≠some g)->∀(k:Nat) x,(H.set id .gone++[aa.own sz l el])[k]?=some x->bT (E.io (E.blk id) V.ah (E.room id 0).2) k x≠some g:=λg h0 k x hx e=>by
  rcases rX k x hx with⟨rfl,rfl⟩|⟨_,rfl⟩|⟨_,hx⟩
  ·have:=xb g e;exact h0 id _ hk (by rw[this];rfl)
  ·cases e
  ·exact h0 k x hx (cO k x g hx e)
 refine⟨rfl,by simp[Env.io,hc.n],λj y h=> ?_,λi j y z b h1 h2 e1 e2=> ?_,λg hg=> ?_,λg hg=> ?_,λhm=>hc.top hm,λb y hf=> ?_⟩
 ·rcases rX j y h with⟨rfl,rfl⟩|⟨_,rfl⟩|⟨_,h⟩
  ·obtain⟨⟨cs,q1,q2,q3⟩,q4⟩:=hc.obj id _ hk;rw[<- hc.n];refine⟨⟨cs,by rw[Env.x9];exact q1,q2.mono hle,by rw[Env.JO];exact q3⟩,λo=> ?_⟩;rw[Env.x9];exact q4 o
  ·trivial
  ·exact(hc.obj j y h).mono hle (hlt j y h) rfl (λ_ _ _ h=>h) (λ_ _ _=>rfl)
 ·rcases rX i y h1 with⟨rfl,rfl⟩|⟨_,rfl⟩|⟨hi,h1⟩
  ·rcases rX j z h2 with⟨rfl,rfl⟩|⟨_,rfl⟩|⟨hj,h2⟩
   ·rfl
   ·cases e2
   ·have:=xb b e1;exact absurd (hc.inj id j _ z b hk h2 (by rw[this];rfl) (cO j z b h2 e2)).symm hj
  ·cases e1
  ·rcases rX j z h2 with⟨rfl,rfl⟩|⟨_,rfl⟩|⟨hj,h2⟩
   ·have:=xb b e2;exact absurd (hc.inj id i _ y b hk h1 (by rw[this];rfl) (cO i y b h1 e1)).symm hi
   ·cases e2
   ·exact hc.inj i j y z b h1 h2 (cO i y b h1 e1) (cO j z b h2 e2)
 ·obtain⟨h0,h1,h2⟩:=hc.group g hg;exact⟨h0,h1,fA g h2⟩
 ·obtain⟨h0,h1,h2⟩:=hc.chan g hg;exact⟨h0,h1,fA g h2⟩
 ·obtain⟨h0,h1,h2⟩:=hc.fr b y hf;exact⟨h0,h1,fA b h2⟩
theorem Conc.leave{E:Env}{V:View}{H:List aa}(hc:Conc E V H)(id:Nat):Conc E V (H.set id .gone):=
 hc.iO id .gone (Env.Le.refl E) hc.I (by simpa using hc.n) lD rfl (λ_ _ _=>rfl) (λ_ _ _ hy=>⟨hy,λ_=>rfl⟩) trivial (λb h=>by cases h)
theorem aic{E:Env}{l l':List AV}{cs vs:Array SP}(h:j8 E l cs)(k:cK E l' vs)(hl:l.length+l'.length<=cs.size):j8 E (l++l') (storeAt cs l.length vs.toList):=by
 have hv:vs.toList.length=l'.length:=by simpa using k.1
 refine⟨by rw[zS,SQ];exact hl,λi a e=> ?_⟩;rw[Fq _ _ _ _ (by rw[hv];exact hl),hv];by_cases h1:i<l.length
 ·rw[if_neg (by omega)];rw[S0 h1]at e;exact h.2 i a e
 ·rw[S_ (by omega)]at e;have h2:=(SL.1 e).1;rw[if_pos ⟨by omega,by omega⟩];have:=k.2 _ a e;simpa[SH,SE]using this
theorem Rr{E:Env}{l:List AV}{cs:Array SP}{k:Nat}(h:cK E l (cs.extract 0 k))(hk:l.length=k)(hs:k<=cs.size):j8 E l cs:=by
 refine⟨by omega,λi a e=> ?_⟩;have hi:=(SL.1 e).1;have fW:i<cs.size:=by omega
 have:=h.2 i a e;rw[SH,Array.getElem?_extract_of_lt (by omega)]at this;rw[SH];simpa[SJ fW]using this
theorem aea{c:Xy}{x y:Tl}{t t' elem:TypeId}{sz n m:Nat}{z:SP}{l l':List AV}{av:AV}(ho:o.op=.call c)(a_:c.callee=.builtin .append)(cN:c.args=#[x,y]) (dU:c.argTypes=#[t,t']) (ht:jy P t t'=some (elem,sz,z))
  (hx:s.ev x=some (.sl n l .exact)) (hy:s.ev y=some av) (hs:s.src sz av=some (m,l')) (hl:l.length=n* sz) (eO:l'.length=m* sz) (hb:n+m<=2^30) (hm:0<m) (hn:next ((⟨s.T,s.H++[.own sz (l++l') elem]⟩:AS).put o.dst (.bA s.H.length 0 (n+m) 0))):Step lv P r o s next bad:=by
 intro E V a N Q hc aE hd bC h1 _;refine⟨bC,?_⟩;have dA:=ap.ev aE hx;have iV:=ap.ev aE hy;generalize ky:a.eval x=vx at dA;generalize sj:a.eval y=vy at iV;unfold execOp;rw[ho];dsimp only;unfold resolve;rw[a_];dsimp only;refine aA (au ?_);unfold invoke builtin;dsimp only;refine aA ?_;have nT:c.args.map a.eval=#[vx,vy]:=by rw[cN];simp[ky,sj]
 rw[nT,dU];obtain⟨base,cap,rfl⟩:∃base cap,vx=.slice base n cap:=by
  cases dA with
  |sl b o cap f dR he q1 q2=>exact⟨_,_,rfl⟩
  |nil he=>exact⟨_,_,rfl⟩
 have gX:cap=n:=by
  cases dA with
  |sl b o cap f dR he q1 q2=>exact he
  |nil he=>rfl
 subst gX;refine IW hc ht dA iV hs hl eO hb (by omega) λrr cs cap' hf bx hle aY=> ?_;have ue:(l++l').length=(cap+m)* sz:=by rw[SQ,hl,eO,Vr]
 have vB:(cap+m)* sz<=cs.size:=by rw[aY];exact TM _ hle
 have oV:E.Le (E.io rr V.ah cap'):=E.EG rr cap' (λb o v h=>by rw[<- hc.I];exact h);have bu:=hc.io (el:=elem) (c:=cap') hf ((Rr bx ue vB).mono oV) aY;have pH:=Ko hc.n (r:=rr) V.ah hle (n:=cap+m) (cap:=cap') hle (SO _) (by omega);exact au (h1 _ _ (a.put o.dst _) _ ⟨oV,eg _ _ _,put_defers _ _ _,rfl,rfl⟩ (by rw[ft];exact bu) (cr.ie (s:=⟨s.T,s.H++[.own sz (l++l') elem]⟩) (aE.mono oV) hd pH) hn)
theorem ad9{c:Xy}{x y:Tl}{t t' elem el:TypeId}{sz n m c0 id:Nat}{z:SP}{l l':List AV}{av:AV}(ho:o.op=.call c)(a_:c.callee=.builtin .append)(cN:c.args=#[x,y]) (dU:c.argTypes=#[t,t']) (ht:jy P t t'=some (elem,sz,z))
  (hx:s.ev x=some (.bA id 0 n c0)) (yK:c0<n) (cg:s.H[id]?=some (.own sz l el)) (hel:el=elem) (hy:s.ev y=some av) (hs:s.src sz av=some (m,l')) (hl:l.length=n* sz) (eO:l'.length=m* sz) (hb:n+m<=2^30) (nS:∀a∈l',a.leaf=true) (hn:next ((⟨s.T,s.H.set id .gone++[.own sz (l++l') elem]⟩:AS).put o.dst (.bA s.H.length 0 (n+m) 0))):Step lv P r o s next bad:=by
 subst hel;intro E V a N Q hc aE hd bC h1 _;refine⟨bC,?_⟩;have dA:=ap.ev aE hx;have iV:=ap.ev aE hy;generalize ky:a.eval x=vx at dA;generalize sj:a.eval y=vy at iV;unfold execOp;rw[ho];dsimp only;unfold resolve;rw[a_];dsimp only;refine aA (au ?_);unfold invoke builtin;dsimp only;refine aA ?_;have nT:c.args.map a.eval=#[vx,vy]:=by rw[cN];simp[ky,sj]
 rw[nT,dU];have alP:=dA;have ue:(l++l').length=(n+m)* sz:=by rw[SQ,hl,eO,Vr]
 have dg:s.src sz (.bA id 0 n c0)=some (n,l):=by
  simp only[AS.src];rw[cg];simp only[XJ];rw[<- hl,Tn]
 cases dA with
 |bA hi dR=>
  rename_i cap';obtain⟨q1,_,q3⟩:=dR;have q3:=q3 yK;obtain⟨⟨cs,p1,p2,p3⟩,p4⟩:=hc.obj id _ cg;by_cases jU:n+m<=cap'
  ·have oO:(n+m)* sz<=cap'* sz:=TM _ jU;have yH:cap'* sz<=cs.size:=(by rw[p3];exact TM _ q3);refine adC hc ht iV hs eO jU p1 yH (λo _=>p4 o) (hc.jq cg rfl) nS λjD lm=> ?_;have L7:j8 E (l++l') (storeAt cs (n* sz) jD.toList):=by
    rw[<- hl];exact aic p2 lm (by rw[<- SQ,ue];omega)
   have dt:=hc.adP cg L7 (by rw[zS];exact p3);have rX:(s.H.set id (.own sz (l++l') el))[id]?=some (.own sz (l++l') el):=(by rw[Xg ((SL.1 cg).1)]);have b_:=dt.relabel rX;rw[Xf]at b_;have oV:E.Le (E.io (E.blk id) V.ah (E.room id 0).2):=E.EG _ _ (λb o v h=>by rw[<- hc.I];exact h);have pH:ap (E.io (E.blk id) V.ah (E.room id 0).2) (.bA s.H.length 0 (n+m) 0) (.slice (some ⟨E.blk id,0,none⟩) (n+m) cap'):=Ko hc.n V.ah (by omega) jU q3 (by omega);exact au (h1 _ _ (a.put o.dst _) _ ⟨oV,eg _ _ _,put_defers _ _ _,rfl,rfl⟩ (by rw[ft];exact b_) (cr.ie (s:=⟨s.T,s.H.set id .gone++[.own sz (l++l') el]⟩) (aE.mono oV) hd pH) hn)
  ·refine adD hc ht alP dg iV hs hl eO hb (by omega) λrr eU C2 hf bx hle aY=> ?_;have vB:(n+m)* sz<=eU.size:=(by rw[aY];exact TM _ hle);have oV:E.Le (E.io rr V.ah C2):=E.EG rr C2 (λb o v h=>by rw[<- hc.I];exact h);have GY:=hc.leave id;have bu:=GY.io (el:=el) (c:=C2) hf ((Rr bx ue vB).mono oV) aY;have pH:ap (E.io rr V.ah C2) (.bA s.H.length 0 (n+m) 0) (.slice (some ⟨rr,0,none⟩) (n+m) C2):=Ko hc.n V.ah hle hle (SO _) (by omega);exact au (h1 _ _ (a.put o.dst _) _ ⟨oV,eg _ _ _,put_defers _ _ _,rfl,rfl⟩ (by rw[ft];exact bu) (cr.ie (s:=⟨s.T,s.H.set id .gone++[.own sz (l++l') el]⟩) (aE.mono oV) hd pH) hn)
end
open Go.Conc
theorem bc(n:Int)(h: -9223372036854775808<=n/\n<=9223372036854775807):SD.wrap n=n:=by
 have e:SD.wrap n=if n % 18446744073709551616>=9223372036854775808 then n % 18446744073709551616-18446744073709551616 else n % 18446744073709551616:=by
  unfold Xk;simp[av4,av3]
 rw[e];split<;>omega
def cM (P:SI){α:Type}(s:Sem α)(x:α):Prop:=∀w es,s.runT P w es=(.ok x w,es)
theorem cM.ok{P:SI}{α:Type}{V:View}{s:Sem α}{x:α}{K:α->View->Prop}{Kp:SP->View->Prop}(h:cM P s x)(hk:K x V):aS P V s K Kp:=
 λw hw e9=>⟨#[],w,V,by simpa[fM]using di.idle hw,.inl ⟨x,by rw[h w e9];simp,hk⟩⟩
theorem cM.bind{P:SI}{α β:Type}{V:View}{s:Sem α}{x:α}{f:α->Sem β}{K:β->View->Prop}{Kp:SP->View->Prop}(h:cM P s x)(hk:aS P V (f x) K Kp):aS P V (s>>=f) K Kp:=
 aA (h.ok hk)
def AV.ww:AV->Option Int
 |.val (.int _ n)=>some n
 |_=>none
theorem ap.ww{E:Env}{a:AV}{v:SP}{n:Int}(hd:ap E a v)(h:a.ww=some n):∃k,v=.int k n:=by
 cases hd with
 |val x=>unfold AV.ww at h;split at h<;>simp_all
 |_=>cases h
def AS.jg (s:AS):Option Tl->Option (Option Int)
 |none=>some none
 |some x=>match s.ev x with
  |some a=>a.ww.map some
  |none=>none
theorem Ar{E:Env}{s:AS}{a:Act}(k:cr E s.T a.tmps){x:Option Tl}{i:Option Int}(h:s.jg x=some i):(i=none/\x.map a.eval=none)\/∃n kd,i=some n/\x.map a.eval=some (.int kd n):=by
 cases x with
 |none=>cases h;exact .inl ⟨rfl,rfl⟩
 |some x=>
  simp only[AS.jg]at h;split at h
  ·rename_i av LV;obtain⟨n,hn,rfl⟩:=ld h;obtain⟨kd,hv⟩:=(ap.ev k LV).ww hn;exact .inr ⟨n,kd,rfl,by simp[hv]⟩
  ·cases h
section
variable {P:SI}{V:View}{Kp:SP->View->Prop}
theorem B3{kd:T8}{n:Int}{y:Nat}{code:BoundsCode}{K:Nat->View->Prop}(h0:0<=n)(h1:n<=y)(h:K n.toNat V):aS P V (Zx (.int kd n) y code) K Kp:=by
 unfold Zx asIntOf;refine aA (au ?_);dsimp only;rw[if_pos ⟨h0,h1⟩];exact au h
theorem Pe{E:Env}{s:AS}{a:Act}(k:cr E s.T a.tmps){isS:Bool}{len cap:Nat}{lo hi mx:Option Tl}{l h m:Option Int}(hl:s.jg lo=some l)(hh:s.jg hi=some h)(hm:s.jg mx=some m){K:Nat×Nat×Nat->View->Prop}
  (hlc:len<=cap) (c0:0<=l.getD 0) (c1:l.getD 0<=h.getD len) (c2:h.getD len<=m.getD cap) (c3:m.getD cap<=cap) (c4:m.isSome=true->h.isSome=true) (hK:K ((l.getD 0).toNat,(h.getD len).toNat,(m.getD cap).toNat) V):
  aS P V (Zn isS len cap (lo.map a.eval) (hi.map a.eval) (mx.map a.eval)) K Kp:=by
 unfold Zn;rcases Ar k hm with⟨rfl,em⟩|⟨vm,km,rfl,em⟩
 ·rw[em];refine aA (au ?_);rcases Ar k hh with⟨rfl,eh⟩|⟨vh,kh,rfl,eh⟩
  ·rw[eh];refine aA (au ?_);rcases Ar k hl with⟨rfl,el⟩|⟨vl,kl,rfl,el⟩
   ·rw[el];exact aA (au (au (by simpa using hK)))
   ·rw[el];simp only[S8,Vw]at c0 c1 c2;exact aA (B3 c0 c1 (au (by simpa using hK)))
  ·rw[eh];simp only[S8,Vw]at c0 c1 c2 c3;refine aA (B3 (by omega) c2 ?_);rcases Ar k hl with⟨rfl,el⟩|⟨vl,kl,rfl,el⟩
   ·rw[el];exact aA (au (au (by simpa using hK)))
   ·rw[el];simp only[S8,Vw]at c0 c1 c2;exact aA (B3 c0 (by omega) (au (by simpa using hK)))
 ·rw[em];simp only[S8,Option.isSome_some,true_implies]at c2 c3 c4;rcases Ar k hh with⟨rfl,eh⟩|⟨vh,kh,rfl,eh⟩
  ·cases c4
  ·rw[eh];simp only[S8]at c1 c2 c0;refine aA (B3 (by omega) c3 ?_);refine aA (B3 (by omega) (by omega) ?_);rcases Ar k hl with⟨rfl,el⟩|⟨vl,kl,rfl,el⟩
   ·rw[el];exact aA (au (au (by simpa using hK)))
   ·rw[el];simp only[S8]at c0 c1;exact aA (B3 c0 (by omega) (au (by simpa using hK)))
end
def xY (n:Nat)(l:List AV)(e:End)(sz:Nat)(lo hi mx:Option Int)(k:AV->Prop):Prop:=
 l.length=n* sz/\0<=lo.getD 0/\lo.getD 0<=hi.getD n/\hi.getD n<=mx.getD n/\mx.getD n<=n/\(mx.isSome=true->hi.isSome=true)/\
 k (.sl ((hi.getD n).toNat-(lo.getD 0).toNat) ((l.drop ((lo.getD 0).toNat* sz)).take (((hi.getD n).toNat-(lo.getD 0).toNat)* sz))
  (if mx.isSome&&mx.getD n==hi.getD n then .exact else if lo.getD 0==0&&hi.getD n==n&&mx.isNone then e else .shut))
def kC (P:SI)(t:TypeId):Option (TypeId×Nat):=match P.underlying t with
 |some (.slice e)=>(P.info? e).map λi=>(e,i.size)
 |_=>none
def xS (P:SI)(t:TypeId):Option (Nat×Nat):=match P.underlying t with
 |some (.array n e)=>(P.info? e).map λi=>(n,i.size)
 |_=>none
open Go.Conc
section
variable {lv:Bool}{P:SI}{r:Option Nat}{o:Tx}{s:AS}{next:AS->Prop}{bad:AV->AS->Prop}
theorem aqV{t e:TypeId}{x:Tl}{lo hi mx:Option Tl}{l h m:Option Int}{n sz:Nat}{li:List AV}{en:End}(ho:o.op=.slice t x lo hi mx)(ht:kC P t=some (e,sz))(hx:s.ev x=some (.sl n li en))(hl:s.jg lo=some l)(hh:s.jg hi=some h)(hm:s.jg mx=some m)
  {k:AV->Prop} (hc:xY n li en sz l h m k):∃av,dD lv P r o s av/\k av:=by
 obtain⟨hlen,c0,c1,c2,c3,c4,hk⟩:=hc;refine⟨_,jb (λE V a hc aE=> ?_),hk⟩;have hd:=ap.ev aE hx;generalize hv:a.eval x=v at hd;unfold kC at ht;split at ht
 ·rename_i e' hu;obtain⟨i,cE,ht⟩:=ld ht;cases ht;unfold execOp;rw[ho];simp only[hv];refine aA ?_;unfold Ys;refine ey hu ?_;dsimp only;unfold ab_;refine ey hu ?_;obtain⟨base,cap,rfl⟩:∃base cap,v=.slice base n cap:=by
   cases hd with
   |sl b o cap f dR he q1 q2=>exact⟨_,_,rfl⟩
   |nil he=>exact⟨_,_,rfl⟩
  have dR:n<=cap:=by
   cases hd with
   |sl b o cap f dR he q1 q2=>exact dR
   |nil he=>exact SO _
  dsimp only;have hmm:m.getD (cap:Int)=if m.isSome then m.getD n else cap:=by cases m<;>simp
  refine aA (Pe aE hl hh hm dR c0 c1 ?_ ?_ c4 ?_)
  ·cases m with
   |none=>simp only[Vw]at c2⊢;omega
   |some m=>simpa using c2
  ·cases m with
   |none=>simp
   |some m=>simp only[S8]at c3⊢;omega
  refine j5 cE ?_;refine au (au ⟨rfl,_,rfl,?_⟩);generalize hA:(l.getD 0).toNat=A;generalize hB:(h.getD (n:Int)).toNat=B;have hAB:A<=B:=by omega
  have hBn:B<=n:=by omega
  generalize hM:(m.getD (cap:Int)).toNat=M;have hBM:B<=M:=by
   cases m with
   |none=>simp only[Vw]at hM;omega
   |some m=>simp only[S8]at hM c2;omega
  cases hd with
  |nil he=>
   have uX:A=0:=(by omega);have hB0:B=0:=(by omega);have hM0:M=0:=by
    cases m with
    |none=>simp only[Vw]at hM;omega
    |some m=>simp only[S8]at hM c3;omega
   rw[uX,hB0,hM0];simp only[if_true,Z',ac',Zh];refine .nil ?_;split
   ·rfl
   ·split
    ·exact he
    ·trivial
  |sl b o cap f dR he q1 q2=>
   have Dt:(if M=A then some (⟨b,o,none⟩:Vf)else(some (⟨b,o,none⟩:Vf)).map λx=>x.add (A* i.size))=some ⟨b,if M=A then o else o+A* i.size,none⟩:=by
    split
    ·rfl
    ·simp only[UW,add_plain]
   rw[Dt];have hb:(B-A)* i.size+A* i.size<=n* i.size:=(by rw[<- Vr];exact TM _ (by omega));refine .sl b _ (M-A) (λj=>f (A* i.size+j)) (by omega) ?_ (λj hj=> ?_) (λj y hj=> ?_)
   ·split
    ·rename_i hx;simp only[Te,beq_iff_eq]at hx;cases m with
     |none=>simp at hx
     |some m=>
      simp only[S8]at hM hx;show M-A=B-A;omega
    ·split
     ·rename_i hx;simp only[Te,beq_iff_eq]at hx;obtain⟨⟨x1,x2⟩,x3⟩:=hx;have:A=0:=(by omega);have:B=n:=(by omega);cases m with
      |some m=>cases x3
      |none=>
       simp only[Vw]at hM;have hMc:M=cap:=(by omega);subst hMc;have e1:M-A=M:=(by omega);have e2:B-A=n:=(by omega);have e3:(if M=A then o else o+A* i.size)=o:=(by split<;>simp_all);rw[e1,e2,e3];exact he
     ·trivial
   ·simp only[TC,Ur]at hj;have hMA:M≠A:=by
     intro e;have:B-A=0:=(by omega);rw[this]at hj;omega
    rw[if_neg hMA,U5];exact q1 _ (by omega)
   ·rw[Ui]at hj;split at hj
    ·rw[Us]at hj;exact q2 _ _ hj
    ·cases hj
 ·cases ht
def sZ (id off n cap sz:Nat)(lo hi mx:Option Int)(k:AV->Prop):Prop:=
 n<=cap/\0<=lo.getD 0/\lo.getD 0<=hi.getD n/\hi.getD n<=mx.getD cap/\mx.getD cap<=cap/\(mx.isSome=true->hi.isSome=true)/\(lo.getD 0=0\/lo.getD 0<mx.getD cap)/\
 k (.bA id (off+(lo.getD 0).toNat* sz) ((hi.getD n).toNat-(lo.getD 0).toNat) ((mx.getD cap).toNat-(lo.getD 0).toNat))
theorem aqX{t e:TypeId}{x:Tl}{lo hi mx:Option Tl}{l h m:Option Int}{id off n cap sz:Nat}(ho:o.op=.slice t x lo hi mx)(ht:kC P t=some (e,sz))(hx:s.ev x=some (.bA id off n cap))(hl:s.jg lo=some l)(hh:s.jg hi=some h)(hm:s.jg mx=some m)
  {k:AV->Prop} (hc:sZ id off n cap sz l h m k):∃av,dD lv P r o s av/\k av:=by
 obtain⟨hlen,c0,c1,c2,c3,c4,c5,hk⟩:=hc;refine⟨_,jb (λE V a hc aE=> ?_),hk⟩;have hd:=ap.ev aE hx;generalize hv:a.eval x=v at hd;unfold kC at ht;split at ht
 ·rename_i e' hu;obtain⟨i,cE,ht⟩:=ld ht;cases ht;unfold execOp;rw[ho];simp only[hv];refine aA ?_;unfold Ys;refine ey hu ?_;dsimp only;unfold ab_;refine ey hu ?_;cases hd with
  |bA cg dR=>
   rename_i cap';obtain rfl:cap=cap':=dR.2.1 hlen;dsimp only;refine aA (Pe aE hl hh hm hlen c0 c1 c2 c3 c4 ?_);refine j5 cE ?_;refine au (au ⟨rfl,_,rfl,?_⟩);have Dt:(if(m.getD (cap:Int)).toNat=(l.getD 0).toNat then some (⟨E.blk id,off,none⟩:Vf)else(some (⟨E.blk id,off,none⟩:Vf)).map λx=>x.add ((l.getD 0).toNat* i.size))=some ⟨E.blk id,off+(l.getD 0).toNat* i.size,none⟩:=by
    split
    ·have:(l.getD 0).toNat=0:=(by omega);rw[this];simp
    ·simp only[UW,add_plain]
   rw[Dt];exact .bA cg ⟨by dsimp only;omega,λ_=>rfl,λh=>absurd h (by omega)⟩
 ·cases ht
theorem aqW{t:TypeId}{x:Tl}{lo hi mx:Option Tl}{l h m:Option Int}{id off n sz:Nat}(ho:o.op=.slice t x lo hi mx)(ht:xS P t=some (n,sz))(hx:s.ev x=some (.op id off))(hl:s.jg lo=some l)(hh:s.jg hi=some h)(hm:s.jg mx=some m)
  {k:AV->Prop} (hc:sZ id off n n sz l h m k):∃av,dD lv P r o s av/\k av:=by
 obtain⟨hlen,c0,c1,c2,c3,c4,c5,hk⟩:=hc;refine⟨_,jb (λE V a hc aE=> ?_),hk⟩;have hd:=ap.ev aE hx;generalize hv:a.eval x=v at hd;unfold xS at ht;split at ht
 ·rename_i m' e' hu;obtain⟨i,cE,ht⟩:=ld ht;cases ht;unfold execOp;rw[ho];simp only[hv];refine aA ?_;unfold Ys;refine ey hu ?_;cases hd with
  |op cg=>
   dsimp only;unfold Vm;refine aA (au ?_);refine aA (Pe aE hl hh hm hlen c0 c1 c2 c3 c4 ?_);refine j5 cE ?_;refine au (au ⟨rfl,_,rfl,?_⟩);have Dt:(if(m.getD (n:Int)).toNat=(l.getD 0).toNat then(⟨E.blk id,off,none⟩:Vf)else(⟨E.blk id,off,none⟩:Vf).add ((l.getD 0).toNat* i.size))=⟨E.blk id,off+(l.getD 0).toNat* i.size,none⟩:=by
    split
    ·have:(l.getD 0).toNat=0:=(by omega);rw[this];simp
    ·rw[add_plain]
   rw[Dt];exact .bA cg ⟨by dsimp only;omega,λ_=>rfl,λh=>absurd h (by omega)⟩
 ·cases ht
theorem asK{c:Xy}{x y:Tl}{t t' e:TypeId}{id off n cap sz m:Nat}{l l':List AV}{el:TypeId}{av:AV}(ho:o.op=.call c)(a_:c.callee=.builtin .copy)(cN:c.args=#[x,y]) (dU:c.argTypes=#[t,t']) (ht:kC P t=some (e,sz)) (hx:s.ev x=some (.bA id off n cap))
  (hk:s.H[id]?=some (.cells l el)) (hy:s.ev y=some av) (hs:s.src sz av=some (m,l')) (eO:l'.length=m* sz) (hl:off+min m n* sz<=l.length) (nS:∀a∈l',a.leaf=true)
  (hn:next ((⟨s.T,s.H.set id (.cells (iL l off (l'.take (min m n* sz))) el)⟩:AS).put o.dst (.val (.int .i64 (min m n:Nat))))):Step lv P r o s next bad:=by
 intro E V a N Q hc aE hd bC h1 _;refine⟨bC,?_⟩;have dA:=ap.ev aE hx;have iV:=ap.ev aE hy;generalize ky:a.eval x=vx at dA;generalize sj:a.eval y=vy at iV;unfold execOp;rw[ho];dsimp only;unfold resolve;rw[a_];dsimp only;refine aA (au ?_);unfold invoke builtin;dsimp only;refine aA ?_;have nT:c.args.map a.eval=#[vx,vy]:=by rw[cN];simp[ky,sj]
 rw[nT,dU];unfold kC at ht;split at ht
 ·rename_i e' hu;obtain⟨i,cE,ht⟩:=ld ht;cases ht;cases dA with
  |bA cg _=>
   obtain⟨⟨cs,p1,p2⟩,p3⟩:=hc.obj id _ hk;obtain⟨g1,g2⟩:=hc.jq hk rfl;unfold awh;simp only[Vq,Vy,UR];refine ey hu ?_;dsimp only;rw[I1 iV hs];refine aA (au ?_);refine j5 cE ?_;refine aA (Fg hc iV hs eO (ZT _ _) λjD lm=> ?_);have h2:(l'.take (min m n* i.size)).length=min m n* i.size:=by
    have:min m n* i.size<=m* i.size:=TM _ (ZT _ _);simp;omega
   refine aA (B4 _ 0 V cs g1 g2 p1 (λo _ _=>p3 o) (by
    have hq:jD.size=min m n* i.size:=(by(rw[lm.1];exact h2));have:=p2.1;simp only[Array.length_toList];omega) (C6 lm (λa ha=>nS a (VS ha))) ?_)
   rw[UJ];refine au (au (h1 E _ (a.put o.dst _) _ ⟨Env.Le.refl E,eg _ _ _,put_defers _ _ _,rfl,rfl⟩ (by rw[ft];exact hc.set hk (Kt p2 lm (by rw[h2];exact hl)))
    (cr.ie (s:=⟨s.T,s.H.set id (.cells (iL l off (l'.take (min m n* i.size))) el)⟩) aE hd (.val _)) hn))
 ·cases ht
def Cv (P:SI)(t:TypeId):Option (TypeId×Nat×SP):=match P.underlying t with
 |some (.slice e)=>(P.info? e).bind λi=>i.zero.bind λz=>if z.cells.size=i.size/\i.bytes<=2^16 then some (e,i.size,z)else none
 |_=>none
theorem aee{t e:TypeId}{x y:Tl}{n sz:Nat}{z:SP}{k k':T8}(ho:o.op=.makeSlice t x y)(ht:Cv P t=some (e,sz,z))(hx:s.ev x=some (.val (.int k n)))(hy:s.ev y=some (.val (.int k' n)))(hb:n<=2^30)
  (hn:next ((⟨s.T,s.H++[.cells (gD z (n* sz)) e]⟩:AS).put o.dst (.bA s.H.length 0 n n))):Step lv P r o s next bad:=by
 intro E V a N Q hc aE hd bC h1 _;refine⟨bC,?_⟩;have dA:=ap.ev aE hx;have iV:=ap.ev aE hy;generalize ky:a.eval x=vx at dA;generalize sj:a.eval y=vy at iV;cases dA;cases iV;unfold Cv at ht;split at ht
 ·rename_i e' hu;obtain⟨i,q1,ht⟩:=Th.1 ht;obtain⟨z',q2,ht⟩:=Th.1 ht;split at ht
  ·rename_i yM;cases ht;unfold execOp;rw[ho];simp only[ky,sj];refine aA ?_;unfold Instr.makeSlice;refine ey hu ?_;dsimp only;refine aA (au ?_);refine aA (au ?_);refine zN q1 ?_;have hw:SD.wrap (n:Int)=n:=bc _ (by omega);rw[hw];have hmul:i.bytes* n<=2^16* 2^30:=Z0 yM.2 hb;have avp:(i.bytes:Int)* n<=2^46:=(by exact_mod_cast hmul);rw[if_neg (by simp;omega)];refine aA (adE ?_);refine j5 q1 ?_;rw[VK];have fin:∀(zero:Array SP),(∀j,j<n* i.size->zero[j % zero.size]! =z.cells[j % z.cells.size]!)->aS P V (do let a<- newRow e ((WO (n* i.size)).map (zero[· % zero.size]!));pure (TN (some a) n n)) (λx V'=>aS P V' (pure (Xc x)) (mP lv P r o a N Q) (λv V'=>Q (.panic [{v,recovered:=false}]) a V')) (λv V'=>Q (.panic [{v,recovered:=false}]) a V'):=by
    intro zero hz;unfold newRow;refine aA (aA (pc λrr hf=>cJ (au (au (au ?_)))));have hle:E.Le (E.add rr V.ah):=E.qX rr (λb o v h=>by rw[<- hc.I];exact h);have alr:(WO (n* i.size)).map (zero[· % zero.size]!)=(WO (n* i.size)).map (λx=>z.cells[x % z.cells.size]!):=by
     apply VJ;simp only[VQ];apply VH;intro j hj;exact hz j (by simpa using hj)
    rw[alr];have bu:Conc (E.add rr V.ah) (V.upd rr (.cells ((WO (n* i.size)).map (λx=>z.cells[x % z.cells.size]!)) e)) (s.H++[.cells (gD z (n* i.size)) e]):=by
     refine hc.add hf _ ⟨⟨_,?_,Ku z _⟩,λo=> ?_⟩ (λb e=> ?_)
     ·rw[Env.dO];simp[View.upd]
     ·rw[Env.dO];exact hf.2 o
     ·simp only[bT,Env.dO,Tm]at e;exact e.symm
    have bx:ap (E.add rr V.ah) (.bA s.H.length 0 n n) (.slice (some ⟨rr,0,none⟩) n n):=by
     have:=ap.bA (E:=E.add rr V.ah) (id:=s.H.length) (off:=0) (n:=n) (cap:=n) (cap':=n) (by show _<E.n+1;rw[hc.n];omega) ⟨SO _,λ_=>rfl,λh=>absurd h (Nat.lt_irrefl _)⟩;have e:(E.add rr V.ah).blk s.H.length=rr:=(by rw[<- hc.n];exact E.dO rr _);rwa [e]at this
    exact h1 _ _ (a.put o.dst _) ((⟨s.T,s.H++[.cells (gD z (n* i.size)) e]⟩:AS).put o.dst (.bA s.H.length 0 n n)) ⟨hle,eg _ _ _,put_defers _ _ _,rfl,rfl⟩ (by rw[ft];exact bu)
     (cr.ie (s:=⟨s.T,s.H++[.cells (gD z (n* i.size)) e]⟩) (aE.mono hle) hd bx) hn
   by_cases h0:n* i.size=0
   ·rw[if_pos h0];refine aA (au ?_);exact fin #[] (λj hj=>by omega)
   ·rw[if_neg h0];refine aA (aA ?_);unfold typeInfo;refine aA (rf (cJ ?_));rw[q1];refine au ?_;rw[q2];refine au (aA (au ?_));exact fin z.cells (λj _=>rfl)
  ·cases ht
 ·cases ht
def AV.BS:AV->Option SP
 |.val x=>some x
 |_=>none
def AV.raw:AV->Option SP
 |.val x=>some x
 |.agg l=>(l.mapM AV.BS).map λvs=> .agg vs.toArray
 |_=>none
theorem ap.BS{E:Env}{a:AV}{v x:SP}(h:ap E a v)(hr:a.BS=some x):v=x:=by
 cases h<;>cases hr;rfl
theorem ap.raw{E:Env}{a:AV}{v x:SP}(h:ap E a v)(hr:a.raw=some x):v=x:=by
 cases h with
 |val=>cases hr;rfl
 |agg hs h=>
  obtain⟨vs,h1,rfl⟩:=ld hr;congr 1;rename_i l cs;have key:∀(l:List AV)(vs:List SP)(cs:List SP),l.mapM AV.BS=some vs->cs.length=l.length->(∀(i:Nat) a,l[i]?=some a->ap E a (cs.getD i undef))->cs=vs:=by
   intro l;induction l with
   |nil=>intro vs cs h1 h2 _;simp at h1;subst h1;simpa using h2
   |cons a l ih=>
    intro vs cs h1 h2 h3;simp only[Uf,Um,T1,Th,Tm]at h1;obtain⟨b,e1,bs,e2,rfl⟩:=h1;cases cs with
    |nil=>simp at h2
    |cons c cs=>
     have hc:=(h3 0 a rfl).BS e1;have:=ih bs cs e2 (by simpa using h2) (λi x hx=>by simpa using h3 (i+1) x (by simpa using hx));subst this;simp only[Xu]at hc;rw[hc]
  have:=key l vs cs.toList h1 (by simpa using hs) (λi a e=>by have:=h i a e;rw[SH]at this;simpa[SE]using this);rw[<- this]
 |_=>cases hr
def AC:SP->SP->Bool
 |.agg _,.agg _=>true
 |.bool _,.bool _=>true
 |_,_=>false
theorem aqy{op:Wd}{xt yt:TypeId}{x y:Tl}{a b:AV}{X Y:SP}{e:Bool}(ho:o.op=.binOp op xt x y yt)(ay:op=.eql\/op=.neq)(hx:s.ev x=some a)(hy:s.ev y=some b)(hX:a.raw=some X)(hY:b.raw=some Y)(hk:AC X Y=true)(hg:P.eqGuardType P.depth xt=false)(he:cM P (Xx xt X Y) e):
  dD lv P r o s (.val (.bool (if op== .neq then !e else e))):=
 jb (λE V ac hc aE=>by
  have e1:=(ap.ev aE hx).raw hX;have e2:=(ap.ev aE hy).raw hY;unfold execOp;rw[ho];simp only[e1,e2];refine aA ?_;have guard:∀{K:Unit->View->Prop},K () V->aS P V (eqGuard op xt x y X Y) K (λ_ _=>False):=λhK=>by
   unfold eqGuard;unfold AC at hk;split at hk
   ·rcases ay with rfl|rfl
    all_goals
     simp only[aq_,TV,if_false];refine aA (rf (cJ ?_));refine aA (rf (cJ ?_));rw[hg];exact au hK
   ·rcases ay with rfl|rfl<;>exact au hK
   ·cases hk
  refine aA (guard ?_);unfold AC at hk;split at hk
  ·rcases ay with rfl|rfl<;>(unfold binOp;refine he.bind (au (au ⟨rfl,_,rfl,?_⟩));exact .val _)
  ·rcases ay with rfl|rfl<;>(unfold binOp;refine he.bind (au (au ⟨rfl,_,rfl,?_⟩));exact .val _)
  ·cases hk)
theorem aiJ{t:TypeId}{v:SP}{b:Bool}{V:View}{K:Bool->View->Prop}{Kp:SP->View->Prop}(ht:mB P t=some true)(hv:(v=.nilIface/\b=true)\/((∃u x,v=.iface u x)/\b=false))(hk:K b V):aS P V (Xx t v .nilIface) K Kp:=by
 obtain⟨el,hu⟩:∃el,P.underlying t=some (.interface el):=by
  unfold mB at ht;cases h:P.underlying t with
  |none=>rw[h]at ht;cases ht
  |some d=>
   rw[h]at ht;cases d<;>first|exact⟨_,rfl⟩|(simp at ht)
 have e:Xx t v .nilIface=VF (9999+1) t v .nilIface:=rfl;rw[e,VF];refine ey hu ?_;rcases hv with⟨rfl,rfl⟩|⟨⟨u,x,rfl⟩,rfl⟩
 ·exact au hk
 ·exact au hk
theorem adg{op:Wd}{xt yt:TypeId}{x:Tl}{a:AV}{b:Bool}(ho:o.op=.binOp op xt x (.const .nilIface) yt)(ay:op=.eql\/op=.neq)(hx:s.ev x=some a)(ha:(a=.val .nilIface/\b=true)\/((∃u y,a=.cZ u y)/\b=false))(ht:mB P xt=some true):
  dD lv P r o s (.val (.bool (if op== .neq then !b else b))):=
 jb (λE V ac hc aE=>by
  have hd:=ap.ev aE hx;generalize ky:ac.eval x=vx at hd;have hv:(vx=.nilIface/\b=true)\/((∃u y,vx=.iface u y)/\b=false):=by
   rcases ha with⟨rfl,rfl⟩|⟨⟨u,y,rfl⟩,rfl⟩
   ·cases hd;exact .inl ⟨rfl,rfl⟩
   ·cases hd;exact .inr ⟨⟨_,_,rfl⟩,rfl⟩
  have hy:ac.eval (.const .nilIface)=.nilIface:=rfl;unfold execOp;rw[ho];simp only[ky,hy];refine aA ?_;have guard:∀{K:Unit->View->Prop},K () V->aS P V (eqGuard op xt x (.const .nilIface) vx .nilIface) K (λ_ _=>False):=λhK=>by
   unfold eqGuard;rcases hv with⟨rfl,_⟩|⟨⟨u,y,rfl⟩,_⟩<;>rcases ay with rfl|rfl<;>first|exact au hK|(simp;exact au hK)
  refine aA (guard ?_);rcases hv with⟨rfl,rfl⟩|⟨⟨u,y,rfl⟩,rfl⟩<;>rcases ay with rfl|rfl<;>(unfold binOp;refine aA (aiJ (b:=_) ht (by first|exact .inl ⟨rfl,rfl⟩|exact .inr ⟨⟨_,_,rfl⟩,rfl⟩) (au (au ⟨rfl,_,rfl,?_⟩)));exact .val _))
theorem RL{t:TypeId}{d:TypeId×Nat}{b:Option Vf}{n cap:Nat}{V:View}{K:Bool->View->Prop}{Kp:SP->View->Prop}(ht:kC P t=some d)(hk:K b.isNone V):aS P V (Xx t (.slice b n cap) (.slice none 0 0)) K Kp:=by
 obtain⟨el,hu⟩:∃el,P.underlying t=some (.slice el):=by
  unfold kC at ht;split at ht
  ·rename_i e he;exact⟨e,he⟩
  ·cases ht
 have e:Xx t (.slice b n cap) (.slice none 0 0)=VF (9999+1) t (.slice b n cap) (.slice none 0 0):=rfl;rw[e,VF];refine ey hu ?_;cases b with
 |none=>exact au hk
 |some a=>exact au hk
theorem asR{op:Wd}{t yt:TypeId}{x:Tl}{n:Nat}{av:AV}{d:TypeId×Nat}(ho:o.op=.binOp op t x (.const (.slice none 0 0)) yt)(ay:op=.eql\/op=.neq)(hx:s.ev x=some av)(hlen:av.len=some n)(ht:kC P t=some d)
  (hn:∀b:Bool,(0<n->b=false)->next (s.put o.dst (.val (.bool (if op== .neq then !b else b))))):Step lv P r o s next bad:=by
 intro E V a N Q hc aE hd bC h1 _;refine⟨bC,?_⟩;have dA:=ap.ev aE hx;generalize ky:a.eval x=vx at dA;obtain⟨base,cap,rfl,hb⟩:∃base cap,vx=.slice base n cap/\(0<n->base.isNone=false):=by
  cases dA with
  |sl b o cap f dR he q1 q2=>cases hlen;exact⟨_,_,rfl,λ_=>rfl⟩
  |nil he=>cases hlen;exact⟨_,_,rfl,λh=>absurd h (by omega)⟩
  |bA hi=>cases hlen;exact⟨_,_,rfl,λ_=>rfl⟩
  |_=>cases hlen
 unfold execOp;rw[ho];have hy:a.eval (.const (.slice none 0 0))=.slice none 0 0:=rfl;simp only[ky,hy];have fin:aS P V (pure (Xc (.bool (if op== .neq then !base.isNone else base.isNone)))) (mP lv P r o a N Q) (λv V'=>Q (.panic [{v,recovered:=false}]) a V'):=
  au (h1 E V (a.put o.dst _) _ ⟨Env.Le.refl E,eg _ _ _,put_defers _ _ _,rfl,rfl⟩ (by rw[ft];exact hc) (aE.ie hd (.val _)) (hn _ hb))
 rcases ay with rfl|rfl
 ·refine aA (aA (au ?_));unfold binOp;exact aA (RL ht (au fin))
 ·refine aA (aA (au ?_));unfold binOp;exact aA (RL ht (au fin))
theorem aqN{c:Xy}{x y:Tl}{k j:T8}{m n:Int}(ho:o.op=.call c)(a_:c.callee=.builtin .max)(cN:c.args=#[x,y]) (hx:s.ev x=some (.val (.int k m))) (hy:s.ev y=some (.val (.int j n))):dD lv P r o s (.val (.int k (if n>m then n else m))):=
 sF (λE V a hc aE=>by
  have h1:=ap.ev aE hx;have h2:=ap.ev aE hy;generalize pV:a.eval x=v1 at h1;generalize m8:a.eval y=v2 at h2;cases h1;cases h2;refine⟨_,?_,.val _⟩;unfold execOp;rw[ho];dsimp only;unfold resolve;rw[a_];have nT:c.args.map a.eval=#[.int k m,.int j n]:=by rw[cN];simp[pV,m8]
  rw[nT];rfl)
theorem aqO{c:Xy}{x y:Tl}{k j:T8}{m n:Int}(ho:o.op=.call c)(a_:c.callee=.builtin .min)(cN:c.args=#[x,y]) (hx:s.ev x=some (.val (.int k m))) (hy:s.ev y=some (.val (.int j n))):dD lv P r o s (.val (.int k (if n<m then n else m))):=
 sF (λE V a hc aE=>by
  have h1:=ap.ev aE hx;have h2:=ap.ev aE hy;generalize pV:a.eval x=v1 at h1;generalize m8:a.eval y=v2 at h2;cases h1;cases h2;refine⟨_,?_,.val _⟩;unfold execOp;rw[ho];dsimp only;unfold resolve;rw[a_];have nT:c.args.map a.eval=#[.int k m,.int j n]:=by rw[cN];simp[pV,m8]
  rw[nT];rfl)
theorem adf{x:Tl}{xt aG t:TypeId}{ok:Bool}{av:AV}{z:SP}(ho:o.op=.typeAssert x xt aG ok)(ht:mB P aG=some false)(hz:eS P aG=some z)(hx:s.ev x=some (.cZ t av))(aq:ok=true\/t=aG):
  dD lv P r o s (if t=aG then(if ok then .aQ [av,.val (.bool true)]else av)else .aQ [AV.of z,.val (.bool false)]):=
 jb (λE V a hc aE=>by
  have hd:=ap.ev aE hx;generalize hv:a.eval x=v at hd;cases hd with
  |cZ hd=>
   obtain⟨d,hu,jl⟩:=ld ht;unfold execOp;rw[ho];simp only[hv];refine aA ?_;unfold Zw;refine ey hu ?_;split
   ·rename_i h;cases jl
   ·rename_i h;cases jl
   ·rename_i h;cases h
   ·rename_i t' v' h;cases h;by_cases e:t=aG
    ·rw[if_pos e,if_pos e];cases ok
     ·exact au (au ⟨rfl,_,rfl,hd⟩)
     ·refine au (au ⟨rfl,_,rfl,.aQ rfl λi b hb=> ?_⟩)
      match i,hb with
      |0,hb=>cases hb;exact hd
      |1,hb=>cases hb;exact .val _
    ·rw[if_neg e,if_neg e];have nX:ok=true:=aq.resolve_right e;subst nX;simp only[if_true];refine aA (aA ?_);unfold eS at hz;obtain⟨inf,z1,z2⟩:=Th.1 hz;unfold typeInfo;refine aA (rf (cJ ?_));rw[z1];refine au ?_;rw[z2];refine au (au (au ⟨rfl,_,rfl,.aQ rfl λi b hb=> ?_⟩))
     match i,hb with
     |0,hb=>cases hb;exact tp E z
     |1,hb=>cases hb;exact .val _
   ·exfalso;simp_all)
theorem aqs{x:Tl}{xt aG:TypeId}{z:SP}(ho:o.op=.typeAssert x xt aG true)(ht:mB P aG=some false)(hz:eS P aG=some z)(hx:s.ev x=some (.val .nilIface)):dD lv P r o s (.aQ [AV.of z,.val (.bool false)]):=
 jb (λE V a hc aE=>by
  have hd:=ap.ev aE hx;generalize hv:a.eval x=v at hd;cases hd;obtain⟨d,hu,jl⟩:=ld ht;unfold execOp;rw[ho];simp only[hv];refine aA ?_;unfold Zw;refine ey hu ?_;unfold eS at hz;obtain⟨inf,z1,z2⟩:=Th.1 hz;split
  ·rename_i h;cases jl
  ·rename_i h;cases h
  ·simp only[if_true];refine aA (aA ?_);unfold typeInfo;refine aA (rf (cJ ?_));rw[z1];refine au ?_;rw[z2];refine au (au (au ⟨rfl,_,rfl,.aQ rfl λi b hb=> ?_⟩))
   match i,hb with
   |0,hb=>cases hb;exact tp E z
   |1,hb=>cases hb;exact .val _
  ·rename_i h;cases h
  ·exfalso;simp_all)
def JI (P:SI)(t:TypeId)(name:String):Prop:=∀v,cM P (nilAhead (P.types.size+Made.depth) t v name) (some false)
theorem aqR{x:Tl}{name:String}{t:TypeId}{av:AV}(ho:o.op=.nilCheck x)(hx:s.ev x=some (.fn (.method name) [.cZ t av] []))(hn:JI P t name):dD lv P r o s (.fn (.method name) [.cZ t av] []):=
 jb (λE V a hc aE=>by
  have hd:=ap.ev aE hx;unfold execOp;rw[ho];dsimp only;generalize hv:a.eval x=v at hd⊢;have cD:=hd;cases hd with
  |fn dT fZ h1 h2=>
   rename_i fa ca;have G6:fa.size=1:=dT;have:=h1 0 _ rfl;rw[SH,SJ (by omega)]at this;simp only[S8]at this;have hg:fa[0]?=some fa[0]:=SJ (by omega);generalize hq:fa[0]=q at this hg;cases this with
   |cZ jL=>
    dsimp only;rw[hg];dsimp only;refine aA (rf (cJ ?_));refine(hn _).bind ?_;simp only[bne_self_eq_false,TV,if_false];exact au ⟨rfl,_,rfl,cD⟩)
def pq (P:SI)(t:TypeId):Option (TypeId×TypeId):=match P.underlying t with
 |some (.map k e)=>some (k,e)
 |_=>none
def xC (es:Array Wp)(ck:Nat)(k x:SP):Option (Nat×SP)->Obj
 |none=> .map (es.push {key:=k,val:=x,born:=ck}) (ck+1)
 |some (i,_)=> .map (es.modify i λe=>{e with key:=k,val:=x}) ck
theorem asN{t kt et:TypeId}{m k x:Tl}{id ck:Nat}{es:Array Wp}{a b:AV}{K X:SP}{fd:Option (Nat×SP)}(ho:o.op=.mapUpdate t m k x\/o.op=.insert t m k x)(ht:pq P t=some (kt,et))(hm:s.ev m=some (.mp id))(hk:s.ev k=some a)(hx:s.ev x=some b)(hK:a.raw=some K)(hX:b.raw=some X)
  (hH:s.H[id]?=some (.obj (.map es ck))) (hc:cM P (Vo false 10000 kt K) ()) (hf:cM P (VT kt K es.toList) fd) (HE:∀i v,fd=some (i,v)->WF 10000 (((es[i]?).map (·.key)).getD K) K=true)
  (hn:next ((⟨s.T,s.H.set id (.obj (xC es ck K X fd))⟩:AS).put o.dst (.val undef))):Step lv P r o s next bad:=by
 intro E V ac N Q jk aE hd bC h1 _;refine⟨bC,?_⟩;have e1:=(ap.ev aE hk).raw hK;have e2:=(ap.ev aE hx).raw hX;have pG:=ap.ev aE hm;generalize zh:ac.eval m=vm at pG;cases pG;obtain⟨p1,p2,p3,p4⟩:=jk.obj id _ hH;obtain⟨g1,g2⟩:=jk.jq hH rfl;have go:aS P V (do ZF t (.map (some (E.blk id))) K X;pure Next.skip) (mP lv P r o ac N Q) (λv V'=>Q (.panic [{v,recovered:=false}]) ac V'):=by
  refine aA ?_;unfold pq at ht;split at ht
  ·rename_i k' e' hu;cases ht;unfold ZF;refine ey hu ?_;dsimp only;refine aA (ou p1 p2 p3 g2 (cJ ?_));dsimp only;refine hc.bind (hf.bind ?_);have fin:∀y,y=xC es ck K X fd->aS P V (setObj (E.blk id) y) (λ_ V'=>aS P V' (pure Next.skip) (mP lv P r o ac N Q) (λv V'=>Q (.panic [{v,recovered:=false}]) ac V')) (λv V'=>Q (.panic [{v,recovered:=false}]) ac V'):=λy hy=>by
    have vF:y.vK=false:=(by rw[hy];cases fd<;>rfl);have hy2:y.isChan=false:=(by rw[hy];cases fd<;>rfl);refine zM p1 p2 hy2 g2 (cJ (au ?_));exact h1 E _ (ac.put o.dst undef) _ ⟨Env.Le.refl E,eg _ _ _,put_defers _ _ _,rfl,rfl⟩ (by rw[ft];rw[hy];exact jk.setObj hH (by cases fd<;>rfl) (by cases fd<;>rfl))
     (cr.ie (s:=⟨s.T,s.H.set id (.obj (xC es ck K X fd))⟩) aE hd (.val undef)) hn
   cases fd with
   |none=>exact fin _ rfl
   |some iv=>
    obtain⟨i,v⟩:=iv;dsimp only;unfold Instr.keyThatStays;rw[HE i v rfl];simp only[if_true];exact aA (au (fin _ rfl))
  ·cases ht
 unfold execOp;rcases ho with ho|ho
 all_goals
  rw[ho];simp only[zh,e1,e2];exact go
def Gk (es:Array Wp):Option (Nat×SP)->Array Wp
 |some (i,_)=>es.eraseIdxIfInBounds i
 |none=>es
theorem asL{c:Xy}{t t' kt et:TypeId}{m k:Tl}{id ck:Nat}{es:Array Wp}{a:AV}{K:SP}{fd:Option (Nat×SP)}(ho:o.op=.call c)(a_:c.callee=.builtin .delete)(cN:c.args=#[m,k]) (dU:c.argTypes=#[t,t']) (ht:pq P t=some (kt,et)) (hm:s.ev m=some (.mp id)) (hk:s.ev k=some a) (hK:a.raw=some K)
  (hH:s.H[id]?=some (.obj (.map es ck))) (hc:cM P (Vo es.isEmpty 10000 kt K) ()) (hf:cM P (VT kt K es.toList) fd)
  (hn:next ((⟨s.T,s.H.set id (.obj (.map (Gk es fd) ck))⟩:AS).put o.dst (.val undef))):Step lv P r o s next bad:=by
 intro E V ac N Q jk aE hd bC h1 _;refine⟨bC,?_⟩;have e1:=(ap.ev aE hk).raw hK;have pG:=ap.ev aE hm;generalize zh:ac.eval m=vm at pG;cases pG;obtain⟨p1,p2,p3,p4⟩:=jk.obj id _ hH;obtain⟨g1,g2⟩:=jk.jq hH rfl;unfold execOp;rw[ho];dsimp only;unfold resolve;rw[a_];dsimp only;refine aA (au ?_);unfold invoke builtin;dsimp only;refine aA ?_;have nT:c.args.map ac.eval=#[.map (some (E.blk id)),K]:=by rw[cN];simp[zh,e1]
 rw[nT,dU];unfold pq at ht;split at ht
 ·rename_i k' e' hu;cases ht;unfold awg;simp only[Vq,Vy,UR];refine ey hu ?_;dsimp only;refine aA (ou p1 p2 p3 g2 (cJ ?_));dsimp only;refine hc.bind (hf.bind ?_);have fin:∀uS,uS=(Gk es fd)->aS P V (setObj (E.blk id) (.map uS ck)) (λ_ V'=>aS P V' (pure (YQ #[])) (λx V'=>aS P V' (pure (Xc x)) (mP lv P r o ac N Q) (λv V'=>Q (.panic [{v,recovered:=false}]) ac V')) (λv V'=>Q (.panic [{v,recovered:=false}]) ac V')) (λv V'=>Q (.panic [{v,recovered:=false}]) ac V'):=λy hy=>by
   refine zM p1 p2 rfl g2 (cJ (au (au ?_)));exact h1 E _ (ac.put o.dst undef) _ ⟨Env.Le.refl E,eg _ _ _,put_defers _ _ _,rfl,rfl⟩ (by rw[ft];rw[hy];exact jk.setObj hH rfl rfl)
    (cr.ie (s:=⟨s.T,s.H.set id (.obj (.map (Gk es fd) ck))⟩) aE hd (.val undef)) hn
  cases fd with
  |none=>exact aA (fin _ rfl)
  |some iv=>exact aA (fin _ rfl)
 ·cases ht
theorem asQ{t kt et:TypeId}{x:Tl}{m ck:Nat}{es:Array Wp}(ho:o.op=.range t x)(ht:pq P t=some (kt,et))(hx:s.ev x=some (.mp m))(hH:s.H[m]?=some (.obj (.map es ck)))
  (hn:next ((⟨s.T,s.H++[.iter m ck #[] ck]⟩:AS).put o.dst (.op s.H.length 0))):Step lv P r o s next bad:=by
 intro E V ac N Q hc aE hd bC h1 _;refine⟨bC,?_⟩;have pG:=ap.ev aE hx;generalize zh:ac.eval x=vm at pG;cases pG with
 |mp hm=>
  obtain⟨p1,p2,p3,p4⟩:=hc.obj m _ hH;obtain⟨g1,g2⟩:=hc.jq hH rfl;unfold execOp;rw[ho];simp only[zh];refine aA ?_;unfold pq at ht;split at ht
  ·rename_i k' e' hu;cases ht;unfold Instr.range;refine ey hu ?_;refine aA (ou p1 p2 p3 g2 (cJ ?_));dsimp only;refine aA (au ?_);refine aA (pc λrr hf=>cJ (au (au ?_)));have hle:E.Le (E.add rr V.ah):=E.qX rr (λb o v h=>by rw[<- hc.I];exact h);have bu:Conc (E.add rr V.ah) (V.upd rr (.mapIter (some (E.blk m)) ck #[] ck)) (s.H++[.iter m ck #[] ck]):=by
    refine hc.add hf _ ⟨?_,?_,λo=> ?_⟩ (λb e=> ?_)
    ·exact Nat.lt_succ_of_lt hm
    ·rw[Env.dO,hle.blk m hm];simp[View.upd]
    ·rw[Env.dO];exact hf.2 o
    ·simp only[bT,Env.dO,Tm]at e;exact e.symm
   exact h1 _ _ (ac.put o.dst (.pointer (some ⟨rr,0,none⟩))) ((⟨s.T,s.H++[.iter m ck #[] ck]⟩:AS).put o.dst (.op s.H.length 0)) ⟨hle,eg _ _ _,put_defers _ _ _,rfl,rfl⟩ (by rw[ft];exact bu)
    (cr.ie (s:=⟨s.T,s.H++[.iter m ck #[] ck]⟩) (aE.mono hle) hd (Rn hc.n rr V.ah)) hn
  ·cases ht
theorem Conc.setIter{E:Env}{V:View}{H:List aa}(hc:Conc E V H){id m a c:Nat}{b:Array Nat}(hk:H[id]?=some (.iter m a b c))(a':Nat)(b':Array Nat)(c':Nat):Conc E (V.upd (E.blk id) (.mapIter (some (E.blk m)) a' b' c')) (H.set id (.iter m a' b' c')):=by
 obtain⟨p1,p2,p4⟩:=hc.obj id _ hk;refine hc.iO id (.iter m a' b' c') (Env.Le.refl E) hc.I (by simpa using hc.n) lD rfl (λ_ _ _=>rfl) (λb z hb hz=>⟨?_,λ_=>rfl⟩) ⟨p1,by simp[View.upd],p4⟩ (λb h=> .inl ⟨_,hk,h⟩);have:b≠E.blk id:=λe=>hb _ hk (by rw[e];rfl);simpa[View.upd,this]using hz
theorem asO{it:Tl}{id m since ck uw:Nat}{seen:Array Nat}{es:Array Wp}(ho:o.op=.next it false)(hi:s.ev it=some (.op id 0))(hI:s.H[id]?=some (.iter m since seen uw))(hM:s.H[m]?=some (.obj (.map es ck)))
  (aq:es.all (λe=>decide (e.born>=uw))=false\/es.isEmpty=true\/seen.isEmpty=true)
  (hn:∀e∈es,e.born∉seen->next ((⟨s.T,s.H.set id (.iter m since (seen.push e.born) ck)⟩:AS).put o.dst (.aQ [.val (.bool true),AV.of e.key,AV.of e.val])))
  (amw:(∀e∈es,e.born<since->e.born∈seen)->next (s.put o.dst (.aQ [.val (.bool false)]))):Step lv P r o s next bad:=by
 intro E V ac N Q hc aE hd bC h1 _;refine⟨bC,?_⟩;have kJ:=ap.ev aE hi;generalize qW:ac.eval it=vi at kJ;cases kJ with
 |op cg=>
  obtain⟨q1,q2,q3⟩:=hc.obj id _ hI;obtain⟨p1,p2,p3,p4⟩:=hc.obj m _ hM;have gi:=hc.jq hI rfl;have gm:=hc.jq hM rfl;unfold execOp;rw[ho];simp only[qW];refine aA ?_;unfold Instr.next;dsimp only;refine aA (ou q2 rfl rfl gi.2 (cJ ?_));dsimp only;refine aA (ou p1 p2 p3 gm.2 (cJ ?_));dsimp only;rw[if_neg (by
   intro h;simp only[Te,TZ]at h;rcases aq with hk|hk|hk
   ·rw[hk]at h;cases h.2
   ·rw[hk]at h;cases h.1.2
   ·rw[hk]at h;cases h.1.1)]
  generalize aaF:(if((es.filter λe=> !seen.contains e.born).filter (λe=>decide (e.born<since))).isEmpty=true then#[none]else#[])++((es.filter λe=> !seen.contains e.born).filter (λe=>decide (e.born<since))++(es.filter λe=> !seen.contains e.born).filter (λe=>decide (e.born>=since))).map some=Au;have cw:∀x∈Au,match x with
    |some e=>e∈es/\e.born∉seen
    |none=>∀e∈es,e.born<since->e.born∈seen:=by
   intro x hx;rw[<- aaF]at hx;rcases Uw.1 hx with hx|hx
   ·split at hx
    ·rename_i tO;simp at hx;subst hx;intro e he hlt;apply Tv;intro iz;have:e∈((es.filter λe=> !seen.contains e.born).filter (λe=>decide (e.born<since))):=(by simp[he,hlt,iz]);rw[Zr]at tO;rw[tO]at this;simp at this
    ·simp at hx
   ·rw[Array.mem_map]at hx;obtain⟨e,he,rfl⟩:=hx;rcases Uw.1 he with he|he<;>simp at he<;>exact⟨he.1,he.2.2⟩
  have Ea:0<Au.size:=by
   rw[<- aaF];split
   ·simp;omega
   ·rename_i tO;have:0<((es.filter λe=> !seen.contains e.born).filter (λe=>decide (e.born<since))).size:=by
     rw[Zr]at tO;exact Array.size_pos_iff.2 tO
    simp only[XL,Array.size_map,List.size_toArray,UA];omega
  have fin:∀j,j<Au.size->aS P V (match Au[j]?with
    |some (some e)=>do setObj (E.blk id) (.mapIter (some (E.blk m)) since (seen.push e.born) ck);pure (YQ #[.bool true,e.key,e.val])
    |some none=>pure (YQ #[.bool false])
    | none => stuck "Next: no such candidate") (λx V' => aS P V' (pure (Xc x)) (mP lv P r o ac N Q) (λv V' => Q (.panic [{ v, recovered := false }]) ac V')) (λv V' => Q (.panic [{ v, recovered := false }]) ac V') := by
   intro j hj;rw[SJ hj];have hm:=cw Au[j] (X8 hj);generalize Au[j]=x at hm;cases x with
   |none=>
    dsimp only;refine au (au ?_);exact h1 E V (ac.put o.dst _) (s.put o.dst (.aQ [.val (.bool false)])) ⟨Env.Le.refl E,eg _ _ _,put_defers _ _ _,rfl,rfl⟩ (by rw[ft];exact hc)
     (cr.ie aE hd (.aQ rfl λi b hb=>by
      match i,hb with
      |0,hb=>cases hb;exact .val _)) (amw hm)
   |some e=>
    dsimp only;refine aA (zM q2 rfl rfl gi.2 (cJ (au (au ?_))));exact h1 E _ (ac.put o.dst _) _ ⟨Env.Le.refl E,eg _ _ _,put_defers _ _ _,rfl,rfl⟩ (by rw[ft];exact hc.setIter hI since (seen.push e.born) ck)
     (cr.ie (s:=⟨s.T,s.H.set id (.iter m since (seen.push e.born) ck)⟩) aE hd (.aQ rfl λi b hb=>by
      match i,hb with
      |0,hb=>cases hb;exact .val _
      |1,hb=>cases hb;exact tp E _
      |2,hb=>cases hb;exact tp E _)) (hn e hm.1 hm.2)
  refine aA (adG (λhf=>cJ (fin 0 Ea)) (λhf t=>cJ (fin _ (avW _ Ea))))
def AV.found (z:SP)(ok:Bool):Option (Nat×SP)->AV
 |some (_,v)=>if ok then .aQ [AV.of v,.val (.bool true)]else AV.of v
 |none=>if ok then .aQ [AV.of z,.val (.bool false)]else AV.of z
theorem aqK{t kt et:TypeId}{m k:Tl}{id ck:Nat}{es:Array Wp}{a:AV}{K z:SP}{ok:Bool}{fd:Option (Nat×SP)}(ho:o.op=.lookup t m k ok)(ht:pq P t=some (kt,et))(hz:eS P et=some z)(hm:s.ev m=some (.mp id))(hk:s.ev k=some a)(hK:a.raw=some K)
  (hH:s.H[id]?=some (.obj (.map es ck))) (hc:cM P (Vo es.isEmpty 10000 kt K) ()) (hf:cM P (VT kt K es.toList) fd):dD lv P r o s (AV.found z ok fd):=
 jb (λE V ac jk aE=>by
  have e1:=(ap.ev aE hk).raw hK;have pG:=ap.ev aE hm;generalize zh:ac.eval m=vm at pG;cases pG;obtain⟨p1,p2,p3,p4⟩:=jk.obj id _ hH;have g:=jk.jq hH rfl;unfold pq at ht;split at ht
  ·rename_i k' e' hu;cases ht;unfold execOp;rw[ho];simp only[zh,e1];refine aA ?_;unfold Instr.lookup;refine ey hu ?_;dsimp only;refine aA (aA (ou p1 p2 p3 g.2 (au (au ?_))));refine hc.bind (aA (hf.ok ?_));have two:∀(v:SP)(b:Bool)(i:Nat)(x:AV),[AV.of v,.val (.bool b)][i]?=some x->ap E x ((#[v,Xj b]:Array SP).getD i undef):=λv b i x hx=>by
    match i,hx with
    |0,hx=>cases hx;exact tp E _
    |1,hx=>cases hx;exact .val _
   cases fd with
   |some iv=>
    obtain⟨i,v⟩:=iv;refine au (au ⟨rfl,_,rfl,?_⟩);cases ok with
    |true=>exact .aQ rfl (two v true)
    |false=>exact tp E _
   |none=>
    refine IY hz (au (au ⟨rfl,_,rfl,?_⟩));cases ok with
    |true=>exact .aQ rfl (two z false)
    |false=>exact tp E _
  ·cases ht)
theorem aqx{it:Tl}{id m since ck:Nat}{seen:Array Nat}{es:Array Wp}{b:Nat}{e:Wp}(ho:o.op=.entry it)(hi:s.ev it=some (.op id 0))(hI:s.H[id]?=some (.iter m since seen ck))(hM:s.H[m]?=some (.obj (.map es ck)))
  (hb:seen.back?=some b) (he:es.find? (·.born==b)=some e):dD lv P r o s (.aQ [AV.of e.key,AV.of e.val]):=
 jb (λE V ac hc aE=>by
  have kJ:=ap.ev aE hi;generalize qW:ac.eval it=vi at kJ;cases kJ with
  |op cg=>
   obtain⟨q1,q2,q3⟩:=hc.obj id _ hI;obtain⟨p1,p2,p3,p4⟩:=hc.obj m _ hM;have gi:=hc.jq hI rfl;have gm:=hc.jq hM rfl;unfold execOp;rw[ho];simp only[qW];refine aA ?_;unfold Instr.entry;dsimp only;refine aA (ou q2 rfl rfl gi.2 (cJ ?_));dsimp only;rw[hb];dsimp only;refine aA (ou p1 p2 p3 gm.2 (cJ ?_));dsimp only;rw[if_neg (by simp)];rw[he];refine au (au ⟨rfl,_,rfl,.aQ rfl λi b hb=> ?_⟩)
   match i,hb with
   |0,hb=>cases hb;exact tp E _
   |1,hb=>cases hb;exact tp E _)
end
open Go.Conc
def gU (E:Env)(V:View)(k:AV->List aa->Prop)(kp:AV->List aa->Prop):Out->View->Prop
 |.ret v,V'=>∃av E' H',E.Le E'/\V'.role=V.role/\V'.deaf=V.deaf/\ap E' av v/\Conc E' V' H'/\k av H'
 |.panic ch,V'=>∃pv v E' H',ch=[{v,recovered:=false}]/\E.Le E'/\V'.role=V.role/\V'.deaf=V.deaf/\ap E' pv v/\Conc E' V' H'/\kp pv H'
def ba (lv:Bool)(P:SI)(f:TY)(H:List aa)(args:List AV)(k:AV->List aa->Prop)(kp:AV->List aa->Prop):Prop:=
 ∀(E:Env)(V:View)(vs:Array SP),Conc E V H->cK E args vs->Body lv P f vs .normal V (gU E V k kp)
def Nx (lv:Bool)(P:SI)(R:Out->View->Prop):Next->View->Prop
 |.value v,V=>R (.ret v) V
 |.skip,V=>R (.ret undef) V
 |.enter f args,V=>Body lv P f args .normal V R
 |.round l f tmps assign body,V=>nq lv P (Xh l f tmps assign body .normal) V R
 |_,_=>False
def je (lv:Bool)(P:SI)(c:AV)(H:List aa)(args:List AV)(k:AV->List aa->Prop)(kp:AV->List aa->Prop):Prop:=
 ∀(E:Env)(V:View)(cv:SP)(vs:Array SP),Conc E V H->ap E c cv->cK E args vs->
  aS P V (do let d<- Ve cv vs;invoke d.target d.args) (λnx V'=>Nx lv P (gU E V k kp) nx V') (λv V'=>gU E V k kp (.panic [{v,recovered:=false}]) V')
def FT (lv:Bool)(P:SI)(c:AV)(name:String)(H:List aa)(args:List AV)(k:AV->List aa->Prop)(kp:AV->List aa->Prop):Prop:=
 ∀(E:Env)(V:View)(cv:SP)(vs:Array SP),Conc E V H->ap E c cv->cK E args vs->
  aS P V (invoke (.fn (.method name) #[]) (#[cv]++vs)) (λnx V'=>Nx lv P (gU E V k kp) nx V') (λv V'=>gU E V k kp (.panic [{v,recovered:=false}]) V')
theorem gU.mono{E:Env}{V:View}{k k' kp ui:AV->List aa->Prop}(h:∀a H,k a H->k' a H)(hp:∀a H,kp a H->ui a H):∀{o V'},gU E V k kp o V'->gU E V k' ui o V'
 |.ret _,_,⟨av,E',H',a,b,c,d,e,f⟩=>⟨av,E',H',a,b,c,d,e,h _ _ f⟩
 |.panic _,_,⟨pv,v,E',H',a,b,c,d,e,f,g⟩=>⟨pv,v,E',H',a,b,c,d,e,f,hp _ _ g⟩
theorem Nx.mono{lv:Bool}{P:SI}{R R':Out->View->Prop}(h:∀o V,R o V->R' o V):∀{nx V},Nx lv P R nx V->Nx lv P R' nx V:=by
 intro nx V hn;cases nx with
 |value v=>exact h _ _ hn
 |skip=>exact h _ _ hn
 |enter f args=>exact Body.mono hn h
 |round l f tmps a b=>exact nq.mono hn h
 |_=>exact hn
theorem ba.mono{lv:Bool}{P:SI}{f:TY}{H:List aa}{args:List AV}{k k' kp ui:AV->List aa->Prop}(h:ba lv P f H args k kp)(hk:∀a H,k a H->k' a H)(hp:∀a H,kp a H->ui a H):ba lv P f H args k' ui:=λE V vs hc hd=>
 (h E V vs hc hd).mono λ_ _ x=>x.mono hk hp
theorem je.mono{lv:Bool}{P:SI}{f:AV}{H:List aa}{args:List AV}{k k' kp ui:AV->List aa->Prop}(h:je lv P f H args k kp)(hk:∀a H,k a H->k' a H)(hp:∀a H,kp a H->ui a H):je lv P f H args k' ui:=λE V cv vs hc hd pI=>
 (h E V cv vs hc hd pI).mono (λ_ _ x=>Nx.mono (λ_ _ y=>y.mono hk hp) x) (λ_ _ y=>y.mono hk hp)
def rn (P:SI)(g:TY):Bool:=match P.funcs[g]?with
 | some fn => fn.body.isSome && !(fn.name == "runtime.NumGoroutine")
 |none=>false
theorem arQ{lv:Bool}{P:SI}{V:View}{g:TY}{vs:Array SP}{R:Out->View->Prop}{Kp:SP->View->Prop}(hg:rn P g=true)(h:Body lv P g vs .normal V R):aS P V (callFunc g vs) (λnx V'=>Nx lv P R nx V') Kp:=by
 unfold callFunc;refine aA (rf (cJ ?_));unfold rn at hg;split at hg
 ·rename_i fn yP;simp only[Te,TZ]at hg;rw[yP];dsimp only;have Dz:fn.body.isNone=false:=by
   have h1:=hg.1;cases hb:fn.body with
   |none=>rw[hb]at h1;cases h1
   |some _=>rfl
  rw[if_neg (by rw[hg.2];simp),if_neg (by rw[Dz];simp)];exact au h
 ·cases hg
section
variable {lv:Bool}{P:SI}{H:List aa}{args:List AV}{k kp:AV->List aa->Prop}
theorem J'{g:TY}{first cU:List AV}(hg:rn P g=true)(hf:ba lv P g H (first++args++cU) k kp):je lv P (.fn (.func g) first cU) H args k kp:=by
 intro E V cv vs hc hd pI;cases hd with
 |fn dT fZ h1 h2=>
  rename_i fa ca;unfold Ve;refine aA (au ?_);unfold invoke;dsimp only;exact arQ hg (hf E V _ hc (C5 (C5 ⟨dT,h1⟩ pI) ⟨fZ,h2⟩))
end
def fq (s:AS):List Tl->Option (List AV)
 |[]=>some []
 |x::l=>match s.ev x,fq s l with
  |some a,some aG=>some (a::aG)
  |_,_=>none
theorem AF{E:Env}{s:AS}{a:Act}(k:cr E s.T a.tmps):∀{l:List Tl}{aG:List AV},fq s l=some aG->cK E aG (l.map a.eval).toArray
 |[],_,h=>by cases h;exact⟨rfl,by simp⟩
 |x::l,aG,h=>by
  simp only[fq]at h;split at h
  ·rename_i av mi h1 h2;cases h;have ih:=AF k h2;refine⟨by have:=ih.1;simpa using this,λi b e=> ?_⟩;cases i with
   |zero=>simp at e;subst e;simpa[SH]using ap.ev k h1
   |succ i=>
    simp only[UR]at e;have:=ih.2 i b e;simpa[SH]using this
  ·cases h
section
variable {lv:Bool}{P:SI}{r:Option Nat}{o:Tx}{s:AS}{next:AS->Prop}{bad:AV->AS->Prop}
theorem acQ{E:Env}{V:View}{a:Act}{N:Act->View->Prop}{Q:Ex->Act->View->Prop}(aE:cr E s.T a.tmps)(hd:∀d,o.dst=some d->d<a.tmps.size)
  (h1:∀E' V' a' s',Kept E E' V V' a a'->Conc E' V' s'.H->cr E' s'.T a'.tmps->next s'->N a' V')
  (h2:∀E' V' s' pv v,Kept E E' V V' a a->Conc E' V' s'.H->cr E' s'.T a.tmps->ap E' pv v->bad pv s'->Q (.panic [{v,recovered:=false}]) a V'):
  (∀nx V',Nx lv P (gU E V (λb H'=>next ((⟨s.T,H'⟩:AS).put o.dst b)) (λpv H'=>bad pv ⟨s.T,H'⟩)) nx V'->mP lv P r o a N Q nx V')/\
  (∀v V',gU E V (λb H'=>next ((⟨s.T,H'⟩:AS).put o.dst b)) (λpv H'=>bad pv ⟨s.T,H'⟩) (.panic [{v,recovered:=false}]) V'->Q (.panic [{v,recovered:=false}]) a V'):=by
 have hv:∀v V',gU E V (λb H'=>next ((⟨s.T,H'⟩:AS).put o.dst b)) (λpv H'=>bad pv ⟨s.T,H'⟩) (.ret v) V'->N (a.put o.dst v) V':=λv V' ⟨av,E',H',hle,cq,fg,bx,bu,hk⟩=>
  h1 E' V' _ _ ⟨hle,eg _ _ _,put_defers _ _ _,cq,fg⟩ (by rw[ft];exact bu) (cr.ie (s:=⟨s.T,H'⟩) (aE.mono hle) hd bx) hk
 have hp:∀ch V',gU E V (λb H'=>next ((⟨s.T,H'⟩:AS).put o.dst b)) (λpv H'=>bad pv ⟨s.T,H'⟩) (.panic ch) V'->Q (.panic ch) a V':=λch V' ⟨pv,v,E',H',ff,hle,cq,fg,bx,bu,hk⟩=>by
  subst ff;exact h2 E' V' ⟨s.T,H'⟩ pv v ⟨hle,rfl,rfl,cq,fg⟩ bu (aE.mono hle) bx hk
 refine⟨λnx V' hn=> ?_,λv V' h=>hp _ _ h⟩;cases nx with
 |value v=>exact hv _ _ hn
 |skip=>exact hv _ _ hn
 |enter f args=>
  refine Body.mono (R':=fun
   |.ret v,V'=>N (a.put o.dst v) V'
   |.panic ch,V'=>Q (.panic ch) a V') hn λot aU h=> ?_
  cases ot with
  |ret v=>exact hv _ _ h
  |panic ch=>exact hp _ _ h
 |round l f tmps aG b=>
  refine nq.mono (R':=fun
   |.ret v,V'=>N (a.put o.dst v) V'
   |.panic ch,V'=>Q (.panic ch) a V') hn λot aU h=> ?_
  cases ot with
  |ret v=>exact hv _ _ h
  |panic ch=>exact hp _ _ h
 |_=>exact hn.elim
theorem Ps{c:Xy}{x:Tl}{tg:AV}{aG:List AV}(ho:o.op=.call c)(a_:c.callee=.value x)(hx:s.ev x=some tg)(has:fq s c.args.toList=some aG)
  (hf:je lv P tg s.H aG (λb H'=>next ((⟨s.T,H'⟩:AS).put o.dst b)) (λpv H'=>bad pv ⟨s.T,H'⟩)):Step lv P r o s next bad:=by
 intro E V a N Q hc aE hd bC h1 h2;have sh:=acQ (lv:=lv) (P:=P) (r:=r) aE hd h1 h2;refine⟨bC,?_⟩;unfold execOp;rw[ho];dsimp only;unfold resolve;rw[a_];dsimp only;have e:c.args.map a.eval=(c.args.toList.map a.eval).toArray:=by apply VJ;simp
 rw[e];exact(hf E V (a.eval x) _ hc (ap.ev aE hx) (AF aE has)).mono (λnx V' h=>sh.1 nx V' h) (λv V' h=>sh.2 v V' h)
theorem aed{c:Xy}{x:Tl}{name:String}{tg:AV}{aG:List AV}(ho:o.op=.call c)(a_:c.callee=.invoke x name)(hx:s.ev x=some tg)(has:fq s c.args.toList=some aG)
  (hf:FT lv P tg name s.H aG (λb H'=>next ((⟨s.T,H'⟩:AS).put o.dst b)) (λpv H'=>bad pv ⟨s.T,H'⟩)):Step lv P r o s next bad:=by
 intro E V a N Q hc aE hd bC h1 h2;have sh:=acQ (lv:=lv) (P:=P) (r:=r) aE hd h1 h2;refine⟨bC,?_⟩;unfold execOp;rw[ho];dsimp only;unfold resolve;rw[a_];dsimp only;refine aA (au ?_);have e:c.args.map a.eval=(c.args.toList.map a.eval).toArray:=by apply VJ;simp
 rw[e];exact(hf E V (a.eval x) _ hc (ap.ev aE hx) (AF aE has)).mono (λnx V' h=>sh.1 nx V' h) (λv V' h=>sh.2 v V' h)
theorem asP{x:Tl}{t:TypeId}{av:AV}(ho:o.op=.panic x)(hx:s.ev x=some (.cZ t av))(hb:bad (.cZ t av) s):Step lv P r o s next bad:=by
 intro E V a N Q hc aE hd bC _ h2;refine⟨bC,?_⟩;have dA:=ap.ev aE hx;unfold execOp;rw[ho];dsimp only;refine aA ?_;generalize a.eval x=v at dA⊢;have alO:=dA;cases dA with
 |cZ hv=>
  unfold Instr.panic;dsimp only;exact arY (h2 E V s (.cZ t av) _ ⟨Env.Le.refl E,rfl,rfl,rfl,rfl⟩ hc aE alO hb)
end
structure FU (k kp:AV->List aa->Prop):Type where
 n:Nat
def Ck (lv:Bool)(P:SI)(c:AV)(H:List aa)(args:List AV)(k kp:AV->List aa->Prop)(_t:FU k kp):Prop:=je lv P c H args k kp
def afc (lv:Bool)(P:SI)(c:AV)(name:String)(H:List aa)(args:List AV)(k kp:AV->List aa->Prop)(_t:FU k kp):Prop:=FT lv P c name H args k kp
theorem ye{lv:Bool}{P:SI}{c:AV}{H:List aa}{args:List AV}{k kp:AV->List aa->Prop}{t:FU k kp}(h:je lv P c H args k kp):Ck lv P c H args k kp t:=h
def ao {α:Type}(x:Option α)(k:α->Prop):Prop:=match x with
 |some a=>k a
 |none=>False
def AV.asBool (a:AV)(k:Bool->Prop):Prop:=match a with
 |.val (.bool b)=>k b
 |_=>False
def AV.asInt (a:AV)(k:T8->Int->Prop):Prop:=match a with
 |.val (.int j n)=>k j n
 |_=>False
def AV.ya (a:AV)(k:List AV->Prop):Prop:=match a with
 |.aQ l=>k l
 |_=>False
def AV.asAgg (a:AV)(k:List AV->Prop):Prop:=match a with
 |.agg l=>k l
 |_=>False
def AV.qq (a:AV)(k:Nat->Nat->Prop):Prop:=match a with
 |.op i j=>k i j
 |_=>False
def AV.s_ (a:AV)(k:Nat->Prop):Prop:=match a with
 |.mp i=>k i
 |_=>False
def AV.wx (a:AV)(k:Nat->List AV->End->Prop):Prop:=match a with
 |.sl n l e=>k n l e
 |_=>False
theorem ao.out{α:Type}{x:Option α}{k:α->Prop}(h:ao x k):∃a,x=some a/\k a:=by
 cases x with
 |none=>exact h.elim
 |some a=>exact⟨a,rfl,h⟩
theorem CP{a:AV}{k:Bool->Prop}(h:a.asBool k):∃b,a=.val (.bool b)/\k b:=by
 unfold AV.asBool at h;split at h
 ·exact⟨_,rfl,h⟩
 ·exact h.elim
theorem oC{a:AV}{k:T8->Int->Prop}(h:a.asInt k):∃j n,a=.val (.int j n)/\k j n:=by
 unfold AV.asInt at h;split at h
 ·exact⟨_,_,rfl,h⟩
 ·exact h.elim
theorem agD{a:AV}{k:List AV->Prop}(h:a.ya k):∃l,a=.aQ l/\k l:=by
 unfold AV.ya at h;split at h
 ·exact⟨_,rfl,h⟩
 ·exact h.elim
theorem agu{a:AV}{k:List AV->Prop}(h:a.asAgg k):∃l,a=.agg l/\k l:=by
 unfold AV.asAgg at h;split at h
 ·exact⟨_,rfl,h⟩
 ·exact h.elim
theorem CQ{a:AV}{k:Nat->Nat->Prop}(h:a.qq k):∃i j,a=.op i j/\k i j:=by
 unfold AV.qq at h;split at h
 ·exact⟨_,_,rfl,h⟩
 ·exact h.elim
theorem F8{a:AV}{k:Nat->Prop}(h:a.s_ k):∃i,a=.mp i/\k i:=by
 unfold AV.s_ at h;split at h
 ·exact⟨_,rfl,h⟩
 ·exact h.elim
theorem Qo{a:AV}{k:Nat->List AV->End->Prop}(h:a.wx k):∃n l e,a=.sl n l e/\k n l e:=by
 unfold AV.wx at h;split at h
 ·exact⟨_,_,_,rfl,h⟩
 ·exact h.elim
section
variable (P:SI)(s:AS)
def dK (op:Wd)(xt:TypeId)(a b:AV)(k:AV->Prop):Prop:=match a,b with
 |.val (.int j m),.val (.int j' n)=>if na op then ao (B5 op j m n) λv=>k (.val v)else j'=j/\ao (mj op j m n) λv=>k (.val v)
 |_,_=>(op=.eql\/op=.neq)/\ao a.raw λX=>ao b.raw λY=>AC X Y=true/\P.eqGuardType P.depth xt=false/\∃e,cM P (Xx xt X Y) e/\k (.val (.bool (if op== .neq then !e else e)))
def iP (op:Wd)(xt:TypeId)(y:Tl)(a:AV)(k:AV->Prop):Prop:=match y,a with
 |.const .nilIface,.val .nilIface=>mB P xt=some true/\(op=.eql\/op=.neq)/\k (.val (.bool (if op== .neq then false else true)))
 |.const .nilIface,.cZ _ _=>mB P xt=some true/\(op=.eql\/op=.neq)/\k (.val (.bool (if op== .neq then true else false)))
 |y,a=>ao (s.ev y) λb=>dK P op xt a b k
def sT (t:TypeId)(a:AV)(l h m:Option Int)(k:AV->Prop):Prop:=match a with
 |.sl n li e=>ao (kC P t) λ(_,sz)=>xY n li e sz l h m k
 |.bA id off n cap=>ao (kC P t) λ(_,sz)=>sZ id off n cap sz l h m k
 |.op id off=>ao (xS P t) λ(n,sz)=>sZ id off n n sz l h m k
 |_=>False
def sS (t:TypeId)(a:AV)(k:AV->Prop):Prop:=match kW P t,a with
 |some .slice,.sl n _ _=>k (.val (.int .i64 n))
 |some .slice,.bA _ _ n _=>k (.val (.int .i64 n))
 |some .str,.val (.string b)=>k (.val (.int .i64 b.size))
 |some .map,.mp id=>match s.H[id]?with
  |some (.obj (.map es _))=>k (.val (.int .i64 es.size))
  |_=>False
 |_,_=>False
def mJ (a:AV)(k:AV->Prop):Prop:=match a with
 |.fn (.method name) [.cZ t av] []=>JI P t name/\k (.fn (.method name) [.cZ t av] [])
 |a=>a.sure=true/\k a
def Ch (aG:TypeId)(ok:Bool)(a:AV)(k:AV->Prop):Prop:=mB P aG=some false/\ao (eS P aG) λz=>match a with
 |.cZ t av=>if t=aG then k (if ok then .aQ [av,.val (.bool true)]else av)else ok=true/\k (.aQ [AV.of z,.val (.bool false)])
 |.val .nilIface=>ok=true/\k (.aQ [AV.of z,.val (.bool false)])
 |_=>False
def lK (o:Tx)(k:AV->Prop):Prop:=match o.op with
 |.move x=>ao (s.ev x) k
 |.assign x=>ao (s.ev x) k
 |.pick c x y=>ao (s.ev c) λb=>ao (s.ev x) λa=>ao (s.ev y) λa'=>b.asBool λb=>k (if b then a else a')
 |.binOp op xt x y _=>ao (s.ev x) λa=>iP P s op xt y a k
 |.unOp .not _ x=>ao (s.ev x) λa=>a.asBool λb=>k (.val (.bool !b))
 |.unOp .neg _ x=>ao (s.ev x) λa=>a.asInt λj n=>k (.val (.int j (j.wrap (0-n))))
 |.convert src dst x=>ao (s.ev x) λa=>match Cl P src dst with
   |some (some j)=>a.asInt λ_ n=>k (.val (.int j (j.wrap n)))
   |_=>False
 |.extract x i=>ao (s.ev x) λa=>a.ya λl=>ao l[i]? k
 |.nilCheck x=>ao (s.ev x) λa=>mJ P a k
 |.makeInterface t x=>mB P t=some false/\ao (s.ev x) λa=>k (.cZ t a)
 |.makeFunc f first cU=>ao (first.toList.mapM s.ev) λfa=>ao (cU.toList.mapM s.ev) λca=>k (.fn f fa ca)
 |.typeAssert x _ aG ok=>ao (s.ev x) λa=>Ch P aG ok a k
 |.build t parts=>ao (ov P t) λ(pl,z)=>ao (kg s parts.toList) λaG=>ao (oG pl.at (mc z) aG) λl=>k (.agg l)
 |.buildSlice t len parts=>ao (qn P t) λ(_,sz,z)=>len* sz<=2^24/\ao (kg s parts.toList) λaG=>ao (oG (ik.at (.elems sz)) (gD z (len* sz)) aG) λl=>k (.sl len l .exact)
 |.fieldAddr t x f=>ao (s.ev x) λa=>ao (eR P t f) λn=>ao (a.shift n) k
 |.indexAddr t x ix=>ao (s.ev x) λa=>ao (s.ev ix) λi=>i.asInt λ_ i=>ao (nj P t) fun
   |(some n,sz)=>(0<=i/\i<n)/\ao (a.shift (i.toNat* sz)) k
   |(none,sz)=>ao a.row λ(n,p)=>(0<=i/\i<n)/\ao (p.shift (i.toNat* sz)) k
 |.field t x f=>ao (s.ev x) λa=>a.asAgg λl=>ao (JJ P t f) λ(off,n,g)=>ao (AV.cut l off n g) k
 |.index t x ix=>ao (s.ev x) λa=>ao (s.ev ix) λi=>i.asInt λ_ i=>match a with
   |.agg l=>ao (JC P t) λ(n,sz,g)=>(0<=i/\i<n)/\ao (AV.cut l (i.toNat* sz) sz g) k
   |.val (.string b)=>(match kW P t with|some .str=>True|_=>False)/\0<=i/\ao b[i.toNat]? λc=>k (.val (.int .u8 c.toNat))
   |_=>False
 |.load t x=>ao (s.ev x) λp=>ao (s.at p) λl=>ao (Ty P t) fun
   |(n,true)=>n<=l.length/\k (.agg (l.take n))
   |(_,false)=>ao l[0]? k
 |.lookup t m k' ok=>ao (pq P t) λ(kt,et)=>ao (eS P et) λz=>ao (s.ev m) λp=>ao (s.ev k') λa=>ao a.raw λK=>p.s_ λid=>match s.H[id]?with
  |some (.obj (.map es _))=>cM P (Vo es.isEmpty 10000 kt K) ()/\∃fd,cM P (VT kt K es.toList) fd/\k (AV.found z ok fd)
  |_=>False
 |.slice t x lo hi mx=>ao (s.ev x) λa=>ao (s.jg lo) λl=>ao (s.jg hi) λh=>ao (s.jg mx) λm=>sT P t a l h m k
 |.entry it=>ao (s.ev it) λp=>p.qq λid off=>off=0/\match s.H[id]?with
   |some (.iter m _ seen ck)=>match s.H[m]?with
    |some (.obj (.map es Q5))=>Q5=ck/\ao seen.back? λb=>ao (es.find? (·.born==b)) λe=>k (.aQ [AV.of e.key,AV.of e.val])
    |_=>False
   |_=>False
 |.call c=>match c.callee with
  |.builtin .len=>ao c.args[0]? λx=>ao c.argTypes[0]? λt=>ao (s.ev x) λa=>sS P s t a k
  |.builtin .max=>match c.args.toList with
   |[x,y]=>ao (s.ev x) λa=>ao (s.ev y) λb=>a.asInt λj m=>b.asInt λ_ n=>k (.val (.int j (if n>m then n else m)))
   |_=>False
  |.builtin .min=>match c.args.toList with
   |[x,y]=>ao (s.ev x) λa=>ao (s.ev y) λb=>a.asInt λj m=>b.asInt λ_ n=>k (.val (.int j (if n<m then n else m)))
   |_=>False
  |_=>False
 |_=>False
end
section
variable {lv:Bool}{P:SI}{r:Option Nat}{o:Tx}{s:AS}
theorem nz{c:Xy}{x y:Tl}(h:c.args.toList=[x,y]):c.args=#[x,y]:=by
 apply VJ;simpa using h
theorem lK.sound{k:AV->Prop}(h:lK P s o k):∃av,dD lv P r o s av/\k av:=by
 unfold lK at h;split at h
 ·rename_i x ho;obtain⟨a,h1,h2⟩:=h.out;exact⟨a,adi (.inl ho) h1,h2⟩
 ·rename_i x ho;obtain⟨a,h1,h2⟩:=h.out;exact⟨a,adi (.inr ho) h1,h2⟩
 ·rename_i c x y ho;obtain⟨b,h1,h⟩:=h.out;obtain⟨a,h2,h⟩:=h.out;obtain⟨a',h3,h⟩:=h.out;obtain⟨b,rfl,h⟩:=CP h;exact⟨_,aqT ho h1 h2 h3,h⟩
 ·rename_i op xt x y yt ho;obtain⟨a,h1,hY⟩:=h.out;clear h;unfold iP at hY;split at hY
  ·exact⟨_,adg ho hY.2.1 h1 (.inl ⟨rfl,rfl⟩) hY.1,hY.2.2⟩
  ·exact⟨_,adg ho hY.2.1 h1 (.inr ⟨⟨_,_,rfl⟩,rfl⟩) hY.1,hY.2.2⟩
  rename_i n1 n2;clear n1 n2;obtain⟨b,h2,h⟩:=hY.out;unfold dK at h;split at h
  ·rename_i j m j' n;split at h
   ·obtain⟨v,h3,h⟩:=h.out;exact⟨_,aqU ho h1 h2 h3,h⟩
   ·obtain⟨rfl,h⟩:=h;obtain⟨v,h3,h⟩:=h.out;exact⟨_,aqt ho h1 h2 h3,h⟩
  ·obtain⟨ay,h⟩:=h;obtain⟨X,h3,h⟩:=h.out;obtain⟨Y,h4,h⟩:=h.out;obtain⟨h5,h6,e,h7,h⟩:=h;exact⟨_,aqy ho ay h1 h2 h3 h4 h5 h6 h7,h⟩
 ·rename_i t x ho;obtain⟨a,h1,h⟩:=h.out;obtain⟨b,rfl,h⟩:=CP h;exact⟨_,aqS ho h1,h⟩
 ·rename_i t x ho;obtain⟨a,h1,h⟩:=h.out;obtain⟨j,n,rfl,h⟩:=oC h;exact⟨_,aqP ho h1,h⟩
 ·rename_i src dst x ho;obtain⟨a,h1,h⟩:=h.out;split at h
  ·rename_i j hj;obtain⟨j',n,rfl,h⟩:=oC h;exact⟨_,aqw ho hj h1,h⟩
  ·exact h.elim
 ·rename_i x i ho;obtain⟨a,h1,h⟩:=h.out;obtain⟨l,rfl,h⟩:=agD h;obtain⟨b,h2,h⟩:=h.out;exact⟨_,aqz ho h1 h2,h⟩
 ·rename_i x ho;obtain⟨a,h1,h⟩:=h.out;unfold mJ at h;split at h
  ·exact⟨_,aqR ho h1 h.1,h.2⟩
  ·exact⟨_,aqQ ho h1 h.1,h.2⟩
 ·rename_i t x ho;obtain⟨h1,h⟩:=h;obtain⟨a,h2,h⟩:=h.out;exact⟨_,aqM ho h1 h2,h⟩
 ·rename_i f first cU ho
  obtain⟨fa,h1,h⟩:=h.out;obtain⟨ca,h2,h⟩:=h.out;exact⟨_,aqL ho h1 h2,h⟩
 ·rename_i x xt aG ok ho;obtain⟨a,h1,hA⟩:=h.out;obtain⟨h2,hB⟩:=hA;obtain⟨z,h3,hC⟩:=hB.out;clear h hB;split at hC
  ·rename_i t av;split at hC
   ·rename_i e;subst e;exact⟨_,adf ho h2 h3 h1 (.inr rfl),by rw[if_pos rfl];exact hC⟩
   ·rename_i e;exact⟨_,adf ho h2 h3 h1 (.inl hC.1),by rw[if_neg e];exact hC.2⟩
  ·obtain⟨e,hC⟩:=hC;subst e;exact⟨_,aqs ho h2 h3 h1,hC⟩
  ·exact hC.elim
 ·rename_i t parts ho;obtain⟨⟨pl,z⟩,h1,h⟩:=h.out;obtain⟨aG,h2,h⟩:=h.out;obtain⟨l,h3,h⟩:=h.out;exact⟨_,aqu ho h1 h2 h3,h⟩
 ·rename_i t len parts ho;obtain⟨⟨e,sz,z⟩,h1,h⟩:=h.out;obtain⟨hs,h⟩:=h;obtain⟨aG,h2,h⟩:=h.out;obtain⟨l,h3,h⟩:=h.out;exact⟨_,aqv ho h1 hs h2 h3,h⟩
 ·rename_i t x f ho;obtain⟨a,h1,h⟩:=h.out;obtain⟨n,hn,h⟩:=h.out;obtain⟨b,h2,h⟩:=h.out;exact⟨_,aqA ho hn h1 h2,h⟩
 ·rename_i t x ix ho;obtain⟨a,h1,h⟩:=h.out;obtain⟨i,h2,h⟩:=h.out;obtain⟨j,i,rfl,h⟩:=oC h;obtain⟨⟨on,sz⟩,ht,h⟩:=h.out;cases on with
  |some n=>
   obtain⟨⟨h3,h4⟩,h⟩:=h;obtain⟨q,h5,h⟩:=h.out;exact⟨_,aqD ho ht h1 h2 h3 h4 h5,h⟩
  |none=>
   obtain⟨⟨n,p⟩,amX,h⟩:=ao.out h;obtain⟨⟨h3,h4⟩,h⟩:=h;obtain⟨q,h5,h⟩:=h.out;exact⟨_,aqC ho ht h1 amX h2 h3 h4 h5,h⟩
 ·rename_i t x f ho;obtain⟨a,h1,h⟩:=h.out;obtain⟨l,rfl,h⟩:=agu h;obtain⟨⟨off,n,g⟩,h2,h⟩:=h.out;obtain⟨b,h3,h⟩:=h.out;exact⟨_,aqB ho h2 h1 h3,h⟩
 ·rename_i t x ix ho;obtain⟨a,h1,h⟩:=h.out;obtain⟨i,h2,h⟩:=h.out;obtain⟨j,i,rfl,h⟩:=oC h;split at h
  ·obtain⟨⟨n,sz,g⟩,h3,h⟩:=h.out;obtain⟨⟨h4,h5⟩,h⟩:=h;obtain⟨b,h6,h⟩:=h.out;exact⟨_,aqF ho h3 h1 h2 h4 h5 h6,h⟩
  ·obtain⟨h3,h4,h⟩:=h;obtain⟨c,h5,h⟩:=h.out;split at h3
   ·rename_i hl;exact⟨_,aqE ho hl h1 h2 h4 h5,h⟩
   ·exact h3.elim
  ·exact h.elim
 ·rename_i t x ho;obtain⟨p,h1,h⟩:=h.out;obtain⟨l,hl,h⟩:=h.out;obtain⟨⟨n,g⟩,ht,h⟩:=h.out;cases g with
  |true=>exact⟨_,aqI ho ht h1 hl h.1,h.2⟩
  |false=>
   obtain⟨av,h2,h⟩:=ao.out h;exact⟨_,aqJ ho ht h1 hl h2,h⟩
 ·rename_i t m k' ok ho;obtain⟨⟨kt,et⟩,h1,hA⟩:=h.out;obtain⟨z,h2,hB⟩:=hA.out;obtain⟨p,h3,hC⟩:=hB.out;obtain⟨a,h4,hD⟩:=hC.out;obtain⟨K,h5,hE⟩:=hD.out;obtain⟨id,e1,hF⟩:=F8 hE;subst e1;split at hF
  ·rename_i es ck hH;obtain⟨h6,fd,h7,h8⟩:=hF;exact⟨_,aqK ho h1 h2 h3 h4 h5 hH h6 h7,h8⟩
  ·exact hF.elim
 ·rename_i t x lo hi mx ho;obtain⟨a,h1,h⟩:=h.out;obtain⟨l,h2,h⟩:=h.out;obtain⟨hh,h3,h⟩:=h.out;obtain⟨m,h4,h⟩:=h.out;unfold sT at h;split at h
  ·obtain⟨⟨e,sz⟩,h5,h⟩:=h.out;exact aqV ho h5 h1 h2 h3 h4 h
  ·obtain⟨⟨e,sz⟩,h5,h⟩:=h.out;exact aqX ho h5 h1 h2 h3 h4 h
  ·obtain⟨⟨n,sz⟩,h5,h⟩:=h.out;exact aqW ho h5 h1 h2 h3 h4 h
  ·exact h.elim
 ·rename_i it ho;obtain⟨p,h1,hA⟩:=h.out;obtain⟨id,off,e1,hB⟩:=CQ hA;clear h hA;subst e1;obtain⟨e1,hC⟩:=hB;subst e1;split at hC
  ·rename_i m since seen ck hI;split at hC
   ·rename_i es Q5 hM;obtain⟨e1,hD⟩:=hC;subst e1;obtain⟨b,h2,hE⟩:=hD.out;obtain⟨e,h3,hF⟩:=hE.out;exact⟨_,aqx ho h1 hI hM h2 h3,hF⟩
   ·exact hC.elim
  ·exact hC.elim
 ·rename_i c ho;split at h
  ·rename_i a_;obtain⟨x,h1,h⟩:=h.out;obtain⟨t,h2,h⟩:=h.out;obtain⟨a,h3,h⟩:=h.out;unfold sS at h;split at h
   ·rename_i hl;exact⟨_,adh ho a_ h1 h2 hl h3 rfl,h⟩
   ·rename_i hl;exact⟨_,adh ho a_ h1 h2 hl h3 rfl,h⟩
   ·rename_i hl;exact⟨_,aqH ho a_ h1 h2 hl h3,h⟩
   ·rename_i hl;split at h
    ·rename_i hM;exact⟨_,aqG ho a_ h1 h2 hl h3 hM,h⟩
    ·exact h.elim
   ·exact h.elim
  ·rename_i a_;split at h
   ·rename_i x y cN;obtain⟨a,h1,hA⟩:=h.out;obtain⟨b,h2,hB⟩:=hA.out;obtain⟨j,m,e1,hC⟩:=oC hB;obtain⟨j',n,e2,hD⟩:=oC hC;subst e1 e2;exact⟨_,aqN ho a_ (nz cN) h1 h2,hD⟩
   ·exact h.elim
  ·rename_i a_;split at h
   ·rename_i x y cN;obtain⟨a,h1,hA⟩:=h.out;obtain⟨b,h2,hB⟩:=hA.out;obtain⟨j,m,e1,hC⟩:=oC hB;obtain⟨j',n,e2,hD⟩:=oC hC;subst e1 e2;exact⟨_,aqO ho a_ (nz cN) h1 h2,hD⟩
   ·exact h.elim
  ·exact h.elim
 ·exact h.elim
end
open Go.Conc
structure me (X Y:Prop):Type where
 n:Nat
def ry (b cp:Bool)(X Y:Prop)(_t:me X Y):Prop:=(b=cp->X)/\(b= !cp->Y)
theorem yy{b cp:Bool}{X Y:Prop}{t:me X Y}(h1:b=cp->X)(h2:b= !cp->Y):ry b cp X Y t:=⟨h1,h2⟩
theorem ak3(X Y:Prop)(t:me X Y):ry true true X Y t=X:=by simp[ry]
theorem ak2(X Y:Prop)(t:me X Y):ry true false X Y t=Y:=by simp[ry]
theorem ak1(X Y:Prop)(t:me X Y):ry false true X Y t=Y:=by simp[ry]
theorem ak0(X Y:Prop)(t:me X Y):ry false false X Y t=X:=by simp[ry]
section
variable (lv:Bool)(P:SI)
def uy (H:List aa)(k:AV->List aa->Prop)(id off n c0 m sz:Nat)(elem:TypeId)(l':List AV):Prop:=off=0/\c0<n/\l'.length=m* sz/\n+m<=2^30/\(∀a∈l',a.leaf=true)/\match H[id]?with
 |some (.own eI l el)=>eI=sz/\el=elem/\l.length=n* sz/\k (.bA H.length 0 (n+m) 0) (H.set id .gone++[.own sz (l++l') elem])
 |_=>False
def AV.qt (a:AV)(kO:Nat->Nat->Nat->Nat->Prop)(k:Nat->List AV->End->Prop):Prop:=match a with
 |.bA id off n c=>kO id off n c
 |.sl n l e=>k n l e
 |_=>False
theorem JU{a:AV}{kO:Nat->Nat->Nat->Nat->Prop}{k:Nat->List AV->End->Prop}(h:a.qt kO k):(∃id off n c,a=.bA id off n c/\kO id off n c)\/∃n l e,a=.sl n l e/\k n l e:=by
 unfold AV.qt at h;split at h
 ·exact .inl ⟨_,_,_,_,rfl,h⟩
 ·exact .inr ⟨_,_,_,rfl,h⟩
 ·exact h.elim
def mK (s:AS)(o:Tx)(next:AS->Prop)(bad:AV->AS->Prop):Prop:=match o.op with
 |.box t x=>ao (s.ev x) λa=>ao a.parts λl=>next ((⟨s.T,s.H++[.cells l t]⟩:AS).put o.dst (.op s.H.length 0))
 |.alloc t=>ao (eS P t) λz=>next ((⟨s.T,s.H++[.cells (mc z) t]⟩:AS).put o.dst (.op s.H.length 0))
 |.store t x y=>ao (s.ev x) λp=>ao (s.ev y) λa=>ao a.parts λlp=>p.qq λid off=>match s.H[id]?with
  |some (.cells l el)=>(ao (Ty P t) λx=>lp.length=x.1)/\off+lp.length<=l.length/\(∀a∈lp,a.leaf=true)/\next ((⟨s.T,s.H.set id (.cells (iL l off lp) el)⟩:AS).put o.dst (.val undef))
  |some (.part p l el)=>p<=off/\(ao (Ty P t) λx=>lp.length=x.1)/\off+lp.length<=l.length/\(∀a∈lp,a.leaf=true)/\next ((⟨s.T,s.H.set id (.part p (iL l off lp) el)⟩:AS).put o.dst (.val undef))
  |some (.own p l el)=>(ao (Ty P t) λx=>lp.length=x.1)/\off+lp.length<=l.length/\(∀a∈lp,a.leaf=true)/\next ((⟨s.T,s.H.set id (.own p (iL l off lp) el)⟩:AS).put o.dst (.val undef))
  |_=>False
 |.makeMap _ none=>next ((⟨s.T,s.H++[.obj (.map #[] 0)]⟩:AS).put o.dst (.mp s.H.length))
 |.makeSlice t x y=>ao (Cv P t) λ(e,sz,z)=>ao (s.ev x) λa=>ao (s.ev y) λb=>a.asInt λ_ n=>b.asInt λ_ n'=>n'=n/\0<=n/\n<=2^30/\next ((⟨s.T,s.H++[.cells (gD z (n.toNat* sz)) e]⟩:AS).put o.dst (.bA s.H.length 0 n.toNat n.toNat))
 |.mapUpdate t m k x=>ao (pq P t) λ(kt,_)=>ao (s.ev m) λp=>ao (s.ev k) λa=>ao (s.ev x) λb=>ao a.raw λK=>ao b.raw λX=>p.s_ λid=>match s.H[id]?with
  |some (.obj (.map es ck))=>cM P (Vo false 10000 kt K) ()/\∃fd,cM P (VT kt K es.toList) fd/\(∀i v,fd=some (i,v)->WF 10000 (((es[i]?).map (·.key)).getD K) K=true)/\next ((⟨s.T,s.H.set id (.obj (xC es ck K X fd))⟩:AS).put o.dst (.val undef))
  |_=>False
 |.range t x=>ao (pq P t) λ_=>ao (s.ev x) λp=>p.s_ λm=>match s.H[m]?with
  |some (.obj (.map _ ck))=>next ((⟨s.T,s.H++[.iter m ck #[] ck]⟩:AS).put o.dst (.op s.H.length 0))
  |_=>False
 |.next it false=>ao (s.ev it) λp=>p.qq λid off=>off=0/\match s.H[id]?with
  |some (.iter m since seen uw)=>match s.H[m]?with
   |some (.obj (.map es ck))=>(es.all (λe=>decide (e.born>=uw))=false\/es.isEmpty=true\/seen.isEmpty=true)/\
    (∀e∈es,e.born∉seen->next ((⟨s.T,s.H.set id (.iter m since (seen.push e.born) ck)⟩:AS).put o.dst (.aQ [.val (.bool true),AV.of e.key,AV.of e.val])))/\
    ((∀e∈es,e.born<since->e.born∈seen)->next (s.put o.dst (.aQ [.val (.bool false)])))
   |_=>False
  |_=>False
 |.panic x=>ao (s.ev x) λa=>match a with
  |.cZ t av=>bad (.cZ t av) s
  |_=>False
 |.binOp op t x (.const (.slice none 0 0)) _=>(op=.eql\/op=.neq)/\ao (kC P t) λ_=>ao (s.ev x) λa=>ao a.len λn=>∀b:Bool,(0<n->b=false)->next (s.put o.dst (.val (.bool (if op== .neq then !b else b))))
 |.call c=>match c.callee with
  |.builtin .append=>match c.args.toList,c.argTypes.toList with
   |[x,y],[t,t']=>ao (jy P t t') λ(elem,sz,_)=>ao (s.ev x) λa=>ao (s.ev y) λb=>a.qt (λid off n c0=>ao (s.src sz b) λ(m,l')=>uy s.H (λb H'=>next ((⟨s.T,H'⟩:AS).put o.dst b)) id off n c0 m sz elem l') λn l e=>ao (s.src sz b) λ(m,l')=>l.length=n* sz/\l'.length=m* sz/\n+m<=2^30/\Cj s o.dst next n m sz elem l l' e
   |_,_=>False
  |.builtin .copy=>match c.args.toList,c.argTypes.toList with
   |[x,y],[t,_]=>ao (kC P t) λ(_,sz)=>ao (s.ev x) λa=>ao (s.ev y) λb=>match a with
    |.bA id off n _=>match s.H[id]?with
     |some (.cells l el)=>ao (s.src sz b) λ(m,l')=>l'.length=m* sz/\off+min m n* sz<=l.length/\(∀a∈l',a.leaf=true)/\next ((⟨s.T,s.H.set id (.cells (iL l off (l'.take (min m n* sz))) el)⟩:AS).put o.dst (.val (.int .i64 (min m n:Nat))))
     |_=>False
    |_=>False
   |_,_=>False
  |.builtin .delete=>match c.args.toList,c.argTypes.toList with
   |[m,k],[t,_]=>ao (pq P t) λ(kt,_)=>ao (s.ev m) λp=>ao (s.ev k) λa=>ao a.raw λK=>p.s_ λid=>match s.H[id]?with
    |some (.obj (.map es ck))=>cM P (Vo es.isEmpty 10000 kt K) ()/\∃fd,cM P (VT kt K es.toList) fd/\next ((⟨s.T,s.H.set id (.obj (.map (Gk es fd) ck))⟩:AS).put o.dst (.val undef))
    |_=>False
   |_,_=>False
  |.value x=>ao (s.ev x) λf=>ao (fq s c.args.toList) λaG=>Ck lv P f s.H aG (λb H'=>next ((⟨s.T,H'⟩:AS).put o.dst b)) (λpv H'=>bad pv ⟨s.T,H'⟩) ⟨0⟩
  |.invoke x name=>ao (s.ev x) λf=>ao (fq s c.args.toList) λaG=>afc lv P f name s.H aG (λb H'=>next ((⟨s.T,H'⟩:AS).put o.dst b)) (λpv H'=>bad pv ⟨s.T,H'⟩) ⟨0⟩
  |_=>lK P s o λav=>next (s.put o.dst av)
 |_=>lK P s o λav=>next (s.put o.dst av)
def iF (all:Array Tx):List Tx->AS->(AS->Prop)->(AV->AS->Prop)->Prop
 |[],s,next,_=>next s
 |o::rest,s,next,bad=>match o.guard with
  |none=>mK lv P s o (λs'=>iF all rest s' next bad) bad
  |some (j,cp)=>ao ((all[j]?).bind (·.dst)) λd=>ao (look s.T d) λa=>a.asBool λb=>ry b cp (mK lv P ⟨(d,.val (.bool cp))::s.T,s.H⟩ o (λs'=>iF all rest s' next bad) bad) (iF all rest ((⟨(d,.val (.bool !cp))::s.T,s.H⟩:AS).put o.dst (.val undef)) next bad) ⟨0⟩
end
section
variable {lv:Bool}{P:SI}{r:Option Nat}{s:AS}
theorem sP{c:Xy}{x y:TypeId}(h:c.argTypes.toList=[x,y]):c.argTypes=#[x,y]:=by
 apply VJ;simpa using h
theorem mK.sound{o:Tx}{next:AS->Prop}{bad:AV->AS->Prop}(h:mK lv P s o next bad):Step lv P r o s next bad:=by
 have quiet:(lK P s o λav=>next (s.put o.dst av))->Step lv P r o s next bad:=λh=>by
  obtain⟨av,h1,h2⟩:=h.sound (lv:=lv) (r:=r);exact h1.step h2
 unfold mK at h;split at h
 ·rename_i t x ho;obtain⟨a,h1,h⟩:=h.out;obtain⟨l,h2,h⟩:=h.out;exact aeb ho h1 h2 h
 ·rename_i t ho;obtain⟨z,h1,h⟩:=h.out;exact ad8 ho h1 h
 ·rename_i t x y ho;obtain⟨p,h1,hA⟩:=h.out;obtain⟨a,h2,hB⟩:=hA.out;obtain⟨lp,h3,hC⟩:=hB.out;obtain⟨id,off,e1,hD⟩:=CQ hC;clear h hA hB hC;subst e1;split at hD
  ·rename_i l el hk;obtain⟨q1,q2,q3,q4⟩:=hD;obtain⟨⟨n,g⟩,q5,q6⟩:=q1.out;exact aeg ho q5 h1 hk h2 h3 q6 q2 q3 q4
  ·rename_i p l el hk;obtain⟨q0,q1,q2,q3,q4⟩:=hD;obtain⟨⟨n,g⟩,q5,q6⟩:=q1.out;exact asS ho q5 h1 hk q0 h2 h3 q6 q2 q3 q4
  ·rename_i p l el hk;obtain⟨q1,q2,q3,q4⟩:=hD;obtain⟨⟨n,g⟩,q5,q6⟩:=q1.out;exact aeh ho q5 h1 hk h2 h3 q6 q2 q3 q4
  ·exact hD.elim
 ·rename_i t ho;exact asM ho h
 ·rename_i t x y ho;obtain⟨⟨e,sz,z⟩,h1,hA⟩:=h.out;obtain⟨a,h2,hB⟩:=hA.out;obtain⟨b,h3,hC⟩:=hB.out;obtain⟨j,n,e1,hD⟩:=oC hC;obtain⟨j',n',e2,hE⟩:=oC hD;clear h hA hB hC hD;subst e1 e2;obtain⟨e3,h4,h5,h6⟩:=hE;subst e3;obtain⟨m,rfl⟩:∃m:Nat,n'=m:=⟨n'.toNat,by omega⟩;exact aee ho h1 h2 h3 (by omega) (by simpa using h6)
 ·rename_i t m k x ho;obtain⟨⟨kt,et⟩,h1,hA⟩:=h.out;obtain⟨p,h2,hB⟩:=hA.out;obtain⟨a,h3,hC⟩:=hB.out;obtain⟨b,h4,hD⟩:=hC.out;obtain⟨K,h5,hE⟩:=hD.out;obtain⟨X,h6,hF⟩:=hE.out;obtain⟨id,e1,hG⟩:=F8 hF;clear h hA hB hC hD hE hF;subst e1;split at hG
  ·rename_i es ck hH;obtain⟨q1,fd,q2,q3,q4⟩:=hG;exact asN (.inl ho) h1 h2 h3 h4 h5 h6 hH q1 q2 q3 q4
  ·exact hG.elim
 ·rename_i t x ho;obtain⟨⟨kt,et⟩,h1,hA⟩:=h.out;obtain⟨p,h2,hB⟩:=hA.out;obtain⟨m,e1,hC⟩:=F8 hB;clear h hA hB;subst e1;split at hC
  ·rename_i es ck hH;exact asQ ho h1 h2 hH hC
  ·exact hC.elim
 ·rename_i it ho;obtain⟨p,h1,hA⟩:=h.out;obtain⟨id,off,e1,hB⟩:=CQ hA;clear h hA;subst e1;obtain⟨e1,hC⟩:=hB;subst e1;split at hC
  ·rename_i m since seen uw hI;split at hC
   ·rename_i es ck hM;exact asO ho h1 hI hM hC.1 hC.2.1 hC.2.2
   ·exact hC.elim
  ·exact hC.elim
 ·rename_i x ho;obtain⟨a,h1,hA⟩:=h.out;split at hA
  ·exact asP ho h1 hA
  ·exact hA.elim
 ·rename_i op t x yt ho;obtain⟨ay,hA⟩:=h;obtain⟨d,h1,hB⟩:=hA.out;obtain⟨a,h2,hC⟩:=hB.out;obtain⟨n,e1,hD⟩:=hC.out;exact asR ho ay h2 e1 h1 hD
 ·rename_i c ho;split at h
  ·rename_i a_;split at h
   ·rename_i x y t t' ha ht;obtain⟨⟨elem,sz,z⟩,h1,hA⟩:=h.out;obtain⟨a,h2,hB⟩:=hA.out;obtain⟨b,h3,hC⟩:=hB.out;rcases JU hC with⟨id,off,n,c0,e1,hD⟩|⟨n,l,e,e1,hD⟩
    ·clear h hA hB hC;subst e1;obtain⟨⟨m,l'⟩,h4,rfl,g2,g3,g4,g5,hE⟩:=hD.out;split at hE
     ·rename_i hk;obtain⟨rfl,rfl,g6,g7⟩:=hE;exact ad9 ho a_ (nz ha) (sP ht) h1 h2 g2 hk rfl h3 h4 g6 g3 g4 g5 g7
     ·exact hE.elim
    ·clear h hA hB hC;subst e1;obtain⟨⟨m,l'⟩,h4,h5,h6,h7,h8⟩:=hD.out;exact step_append ho a_ (nz ha) (sP ht) h1 h2 h3 h4 h5 h6 h7 h8
   ·exact h.elim
  ·rename_i a_;split at h
   ·rename_i x y t t' ha ht;obtain⟨⟨elem,sz⟩,h1,hA⟩:=h.out;obtain⟨a,h2,hB⟩:=hA.out;obtain⟨b,h3,hC⟩:=hB.out;clear h hA hB;split at hC
    ·split at hC
     ·rename_i hk;obtain⟨⟨m,l'⟩,h4,h5,h6,h7,h8⟩:=hC.out;exact asK ho a_ (nz ha) (sP ht) h1 h2 hk h3 h4 h5 h6 h7 h8
     ·exact hC.elim
    ·exact hC.elim
   ·exact h.elim
  ·rename_i a_;split at h
   ·rename_i m k t t' ha ht;obtain⟨⟨kt,et⟩,h1,hA⟩:=h.out;obtain⟨p,h2,hB⟩:=hA.out;obtain⟨a,h3,hC⟩:=hB.out;obtain⟨K,h4,hD⟩:=hC.out;obtain⟨id,e1,hE⟩:=F8 hD;clear h hA hB hC hD;subst e1;split at hE
    ·rename_i es ck hH;obtain⟨q1,fd,q2,q3⟩:=hE;exact asL ho a_ (nz ha) (sP ht) h1 h2 h3 h4 hH q1 q2 q3
    ·exact hE.elim
   ·exact h.elim
  ·rename_i x a_;obtain⟨f,h1,hA⟩:=h.out;obtain⟨aG,h2,hB⟩:=hA.out;exact Ps ho a_ h1 h2 hB
  ·rename_i x name a_;obtain⟨f,h1,hA⟩:=h.out;obtain⟨aG,h2,hB⟩:=hA.out;exact aed ho a_ h1 h2 hB
  ·exact quiet h
 ·exact quiet h
structure At (E:Env)(V:View)(s:AS)(a:Act)(nt:Nat):Prop where
 bz:Conc E V s.H
 tok:cr E s.T a.tmps
 size:a.tmps.size=nt
theorem Kept.refl(E:Env)(V:View)(a:Act):Kept E E V V a a:=⟨Env.Le.refl E,rfl,rfl,rfl,rfl⟩
theorem Kept.trans{E E' bY:Env}{V V' aU:View}{a a' cu:Act}(h:Kept E E' V V' a a')(k:Kept E' bY V' aU a' cu):Kept E bY V aU a cu:=
 ⟨h.le.trans k.le,k.size.trans h.size,k.defers.trans h.defers,k.role.trans h.role,k.deaf.trans h.deaf⟩
inductive an where
 |normal
 |exit (id:Nat)
 |goto (l:Nat)
 |ret
 |panic (pv:AV)
def qh (E:Env):an->Ex->Prop
 |.normal,.normal=>True
 |.exit i,.exit j=>i=j
 |.goto i,.goto j=>i=j
 |.ret,.ret=>True
 |.panic pv,.panic ch=>∃v,ch=[{v,recovered:=false}]/\ap E pv v
 |_,_=>False
def aR (lv:Bool)(P:SI)(r:Option Nat)(nt:Nat)(c:Uc)(s:AS)(Φ:an->AS->Prop):Prop:=
 ∀(E:Env)(V:View)(a:Act)(Q:Ex->Act->View->Prop),At E V s a nt->(∀ae e E' V' a' s',Kept E E' V V' a a'->At E' V' s' a' nt->qh E' ae e->Φ ae s'->Q e a' V')->WP lv P r c Q a V
theorem BM{nt:Nat}{all:Array Tx}{Φ:an->AS->Prop}(du:∀o∈all,∀d,o.dst=some d->d<nt)(nQ:∀o∈all,r=none\/mA o.op=false):∀(n k:Nat)(s:AS),k+n=all.size->iF lv P all (all.toList.drop k) s (Φ .normal) (λpv s=>Φ (.panic pv) s)->
  ∀(E:Env)(V:View)(a:Act)(Q:Ex->Act->View->Prop),At E V s a nt->(∀ae e E' V' a' s',Kept E E' V V' a a'->At E' V' s' a' nt->qh E' ae e->Φ ae s'->Q e a' V')->dq lv P r all Q (Ub k n) a V
 |0,k,s,hk,h,E,V,a,Q,ai,hQ=>by
  have:all.toList.drop k=[]:=by simp;omega
  rw[this]at h;exact hQ .normal .normal E V a s (Kept.refl E V a) ai trivial h
 |n+1,k,s,hk,h,E,V,a,Q,ai,hQ=>by
  have hlt:k<all.size:=by omega
  have hd:all.toList.drop k=all[k]::all.toList.drop (k+1):=by
   rw[T4 (by simpa using hlt)];simp
  rw[hd]at h;have fK:all[k]∈all:=X8 hlt;have ho:all[k]?=some all[k]:=SJ hlt;simp only[VW,dq,ho];have go:∀s:AS,At E V s a nt->mK lv P s all[k] (λs'=>iF lv P all (all.toList.drop (k+1)) s' (Φ .normal) (λpv s=>Φ (.panic pv) s)) (λpv s=>Φ (.panic pv) s)->xV lv P r all[k] a V (dq lv P r all Q (Ub (k+1) n)) Q:=λs ai h=>by
   refine h.sound (lv:=lv) (r:=r) E V a _ Q ai.bz ai.tok (λd e=>by rw[ai.size];exact du _ fK d e) (nQ _ fK) (λE' V' a' s' aJ bu my hn=> ?_) (λE' V' s' pv v aJ bu my bx hb=> ?_)
   ·exact BM du nQ n (k+1) s' (by omega) hn E' V' a' Q ⟨bu,my,aJ.size.trans ai.size⟩ (λae e bY aU cu dp fX dj he hΦ=>hQ ae e bY aU cu dp (aJ.trans fX) dj he hΦ)
   ·exact hQ (.panic pv) (.panic _) E' V' a s' aJ ⟨bu,my,ai.size⟩ ⟨v,rfl,bx⟩ hb
  simp only[iF]at h;split at h
  ·rename_i hg;have hw:Tj all[k] (yielded all a.tmps)=true:=(by unfold Tj;rw[hg]);rw[if_pos hw];exact .inl (go s ai h)
  ·rename_i j cp hg;obtain⟨d,fJ,h⟩:=h.out;obtain⟨av,h1,h⟩:=h.out;obtain⟨b,rfl,h2,h3⟩:=CP h;have hv:=(ai.tok d _ h1).2;have hy:yielded all a.tmps j=some b:=by
    obtain⟨oj,kL,jl⟩:=Th.1 fJ;generalize hx:a.tmps.getD d undef=x at hv;cases hv;have mr:d<a.tmps.size:=(ai.tok d _ h1).1;rw[SH,SJ mr]at hx;simp only[S8]at hx;simp[yielded,kL,jl,SJ mr,hx]
   have su:∀b',b=b'->At E V ⟨(d,.val (.bool b'))::s.T,s.H⟩ a nt:=λb' dG=>by
    subst dG;refine⟨ai.bz,λt x e=> ?_,ai.size⟩;simp only[look]at e;split at e
    ·rename_i e';subst e';cases e;exact ai.tok d _ h1
    ·exact ai.tok t x e
   by_cases hb:b=cp
   ·have hw:Tj all[k] (yielded all a.tmps)=true:=(by unfold Tj;rw[hg];simp[hy,hb]);rw[if_pos hw];exact .inl (go _ (su cp hb) (h2 hb))
   ·have hw:¬Tj all[k] (yielded all a.tmps)=true:=(by unfold Tj;rw[hg];simp[hy,hb]);rw[if_neg hw];have dG:b= !cp:=(by cases b<;>cases cp<;>simp_all);have wK:=h3 dG;have ai:=su _ dG;exact BM du nQ n (k+1) ((⟨(d,.val (.bool !cp))::s.T,s.H⟩:AS).put all[k].dst (.val undef)) (by omega) wK E V (a.put all[k].dst undef) Q
     ⟨by rw[ft];exact ai.bz,ai.tok.ie (λd e=>by rw[ai.size];exact du _ fK d e) (.val undef),by rw[eg];exact ai.size⟩
     (λae e bY aU cu dp fX dj he hΦ=>hQ ae e bY aU cu dp ⟨fX.le,fX.size.trans (eg _ _ _),fX.defers.trans (put_defers _ _ _),fX.role,fX.deaf⟩ dj he hΦ)
def jT (nt:Nat)(ops:Array Tx):Bool:=ops.all λo=>(o.dst.all (·<nt))&& !mA o.op
theorem jT.out{nt:Nat}{ops:Array Tx}(hd:jT nt ops=true){o:Tx}(ho:o∈ops):(∀d,o.dst=some d->d<nt)/\mA o.op=false:=by
 have:=(UQ.1 hd) o ho;simp only[Te,TZ]at this;exact⟨λd e=>by have h1:=this.1;rw[e]at h1;simpa using h1,this.2⟩
theorem QC{nt id:Nat}{ops:Array Tx}{Φ:an->AS->Prop}(hd:jT nt ops=true)(h:iF lv P ops ops.toList s (Φ .normal) (λpv s=>Φ (.panic pv) s)):aR lv P r nt (.region id ops false) s Φ:=by
 intro E V a Q ai hQ;refine wp_region ?_;rw[Vx];exact BM (Φ:=Φ) (λo ho d e=>(jT.out hd ho).1 d e) (λo ho=> .inr (jT.out hd ho).2) ops.size 0 s (by omega) (by simpa using h) E V a Q ai hQ
theorem QF{nt:Nat}{Φ:an->AS->Prop}(h:Φ .normal s):aR lv P r nt .skip s Φ:=λE V a _ ai hQ=>wp_skip (hQ .normal _ E V a s (Kept.refl E V a) ai trivial h)
theorem Qz{nt l:Nat}{Φ:an->AS->Prop}(h:Φ .normal s):aR lv P r nt (.label l) s Φ:=λE V a _ ai hQ=>wp_label (hQ .normal _ E V a s (Kept.refl E V a) ai trivial h)
theorem Qx{nt id:Nat}{Φ:an->AS->Prop}(h:Φ (.exit id) s):aR lv P r nt (.exit id) s Φ:=λE V a _ ai hQ=>wp_exit (hQ (.exit id) _ E V a s (Kept.refl E V a) ai rfl h)
theorem QD{nt:Nat}{Φ:an->AS->Prop}(h:Φ .ret s):aR lv P r nt .ret s Φ:=λE V a _ ai hQ=>wp_ret (hQ .ret _ E V a s (Kept.refl E V a) ai trivial h)
def an.then (next:AS->Prop)(Φ:an->AS->Prop):an->AS->Prop
 |.normal,s=>next s
 |e,s=>Φ e s
theorem qh.mono{E E':Env}(h:E.Le E'){ae:an}{e:Ex}(k:qh E ae e):qh E' ae e:=by
 cases ae<;>cases e<;>first|exact k|(obtain⟨v,h1,h2⟩:=k;exact⟨v,h1,h2.mono h⟩)
theorem eT{nt:Nat}{x y:Uc}{Φ:an->AS->Prop}(h:aR lv P r nt x s (an.then (λs'=>aR lv P r nt y s' Φ) Φ)):aR lv P r nt (.seq x y) s Φ:=by
 intro E V a Q ai hQ;refine wp_seq (h E V a _ ai λae e E' V' a' s' hk aV he hΦ=> ?_);cases ae<;>cases e<;>first
  |exact he.elim
  |exact hΦ E' V' a' Q aV λae e bY aU cu dp aJ dj ku uf=>hQ ae e bY aU cu dp (hk.trans aJ) dj ku uf
  |exact hQ _ _ E' V' a' s' hk aV he hΦ
theorem agL{nt:Nat}{c:Tl}{x y:Uc}{b:Bool}{Φ:an->AS->Prop}(hc:s.ev c=some (.val (.bool b)))(h1:b=true->aR lv P r nt x s Φ)(h2:b=false->aR lv P r nt y s Φ):aR lv P r nt (.cond c x y) s Φ:=by
 intro E V a Q ai hQ;have hv:=ap.ev ai.tok hc;generalize hx:a.eval c=v at hv;cases hv;refine wp_cond hx ?_;cases b with
 |true=>exact h1 rfl E V a Q ai hQ
 |false=>exact h2 rfl E V a Q ai hQ
def an.inBlock (id:Nat)(Φ:an->AS->Prop):an->AS->Prop
 |.exit o0,s=>if o0=id then Φ .normal s else Φ (.exit o0) s
 |e,s=>Φ e s
theorem Qv{nt id:Nat}{c:Uc}{Φ:an->AS->Prop}(h:aR lv P r nt c s (an.inBlock id Φ)):aR lv P r nt (.block id c) s Φ:=by
 intro E V a Q ai hQ;refine wp_block (h E V a _ ai λae e E' V' a' s' hk aV he hΦ=> ?_);cases ae<;>cases e<;>first
  |exact he.elim
  |(rename_i i j
    have e:i=j:=he;subst e;by_cases cg:i=id
    ·simp only[Ex.inBlock,cg,if_true];simp only[an.inBlock,cg,if_true]at hΦ;exact hQ .normal _ E' V' a' s' hk aV trivial hΦ
    ·simp only[Ex.inBlock,cg,if_false];simp only[an.inBlock,cg,if_false]at hΦ;exact hQ (.exit i) _ E' V' a' s' hk aV rfl hΦ)
  |exact hQ _ _ E' V' a' s' hk aV he hΦ
theorem aR.mono{nt:Nat}{c:Uc}{Φ Φ':an->AS->Prop}(h:aR lv P r nt c s Φ)(hm:∀e s,Φ e s->Φ' e s):aR lv P r nt c s Φ':=λE V a Q ai hQ=>
 h E V a Q ai λae e E' V' a' s' hk aV he hΦ=>hQ ae e E' V' a' s' hk aV he (hm _ _ hΦ)
def Wk (b a:AV):Prop:=∀E v,ap E b v->ap E a v
theorem Wk.refl(a:AV):Wk a a:=λ_ _ h=>h
theorem eQ(n:Nat)(l:List AV)(e:End):Wk (.sl n l e) (.sl n l .shut):=λ_ _ h=>by
 cases h with
 |sl b o cap f hc he h1 h2=>exact .sl b o cap f hc trivial h1 h2
 |nil he=>exact .nil trivial
structure AS.Sub (s s':AS):Prop where
 tok:∀t a,look s'.T t=some a->∃b,look s.T t=some b/\Wk b a
 H:s.H=s'.H
theorem At.sub{E:Env}{V:View}{s s':AS}{a:Act}{nt:Nat}(h:At E V s a nt)(hl:s.Sub s'):At E V s' a nt:=
 ⟨by rw[<- hl.H];exact h.bz,λt x e=>by obtain⟨b,h1,h2⟩:=hl.tok t x e;exact⟨(h.tok t b h1).1,h2 _ _ (h.tok t b h1).2⟩,h.size⟩
theorem nD{lv:Bool}{P:SI}{r:Option Nat}{nt:Nat}{c:Uc}{s s':AS}{Φ:an->AS->Prop}(hl:s.Sub s')(h:aR lv P r nt c s' Φ):aR lv P r nt c s Φ:=λE V a Q ai hQ=>h E V a Q (ai.sub hl) hQ
inductive Lt (n:Nat):AV->Prop
 |val (x:SP):Lt n (.val x)
 |agg {l:List AV} (h:∀a∈l,Lt n a):Lt n (.agg l)
 |aQ {l:List AV} (h:∀a∈l,Lt n a):Lt n (.aQ l)
 |sl {m:Nat} {l:List AV} {e:End} (he:∀k,e=.opn k->k<n) (h:∀a∈l,Lt n a):Lt n (.sl m l e)
 |bA {id off m cap:Nat} (h:id<n):Lt n (.bA id off m cap)
 |rp {l:List AV} (h:∀a∈l,Lt n a):Lt n (.rp l)
 |op {id off:Nat} (h:id<n):Lt n (.op id off)
 |fn {f:Fn} {first cU:List AV} (h1:∀a∈first,Lt n a) (h2:∀a∈cU,Lt n a):Lt n (.fn f first cU)
 |cZ {t:TypeId} {x:AV} (h:Lt n x):Lt n (.cZ t x)
 |mp {id:Nat} (h:id<n):Lt n (.mp id)
theorem p9{l:List AV}{a:AV}(h:a∈l):∃i:Nat,l[i]?=some a:=UY.1 h
theorem ap.lt{E:Env}{a:AV}{v:SP}(d:ap E a v):Lt E.n a:=by
 induction d with
 |val x=>exact .val x
 |agg hs _ ih=>exact .agg λa h=>(p9 h).elim λi hi=>ih i a hi
 |aQ hs _ ih=>exact .aQ λa h=>(p9 h).elim λi hi=>ih i a hi
 |sl b o cap f hc he h1 _ ih=>exact .sl (λk e=>by subst e;exact he.1) λa h=>(p9 h).elim λi hi=>ih i a hi
 |nil he=>exact .sl (λk e=>by subst e;exact he.1) (by simp)
 |bA hi _=>exact .bA hi
 |rp b o f h1 _ ih=>exact .rp λa h=>(p9 h).elim λi hi=>ih i a hi
 |op hi=>exact .op hi
 |fn dT fZ _ _ m_ lB=>exact .fn (λa h=>(p9 h).elim λi hi=>m_ i a hi) (λa h=>(p9 h).elim λi hi=>lB i a hi)
 |cZ _ ih=>exact .cZ ih
 |mp hi=>exact .mp hi
theorem Lt.mono{n m:Nat}(h:n<=m){a:AV}(d:Lt n a):Lt m a:=by
 induction d with
 |val x=>exact .val x
 |agg _ ih=>exact .agg ih
 |aQ _ ih=>exact .aQ ih
 |sl he _ ih=>exact .sl (λk e=>Tg (he k e) h) ih
 |bA hi=>exact .bA (Tg hi h)
 |rp _ ih=>exact .rp ih
 |op hi=>exact .op (Tg hi h)
 |fn _ _ m_ lB=>exact .fn m_ lB
 |cZ _ ih=>exact .cZ ih
 |mp hi=>exact .mp (Tg hi h)
theorem qg.trim{E:Env}{e:End}{a:Option Vf}{m cap n:Nat}(h:qg E e a m cap)(hk:∀k,e=.opn k->k<n):qg {E with n:=n} e a m cap:=by
 cases e with
 |exact=>exact h
 |shut=>trivial
 |opn k=>exact⟨hk k rfl,h.2⟩
theorem get_mem{l:List AV}{i:Nat}{a:AV}(h:l[i]?=some a):a∈l:=UY.2 ⟨i,h⟩
theorem ap.trim{E:Env}{a:AV}{v:SP}(d:ap E a v){n:Nat}(h:Lt n a):ap {E with n:=n} a v:=by
 induction d with
 |val x=>exact .val x
 |agg hs _ ih=>cases h with|agg h=>exact .agg hs λi a e=>ih i a e (h a (get_mem e))
 |aQ hs _ ih=>cases h with|aQ h=>exact .aQ hs λi a e=>ih i a e (h a (get_mem e))
 |sl b o cap f hc he h1 _ ih=>cases h with|sl hk h=>exact .sl b o cap f hc (he.trim hk) h1 λi a e=>ih i a e (h a (get_mem e))
 |nil he=>cases h with|sl hk h=>exact .nil (he.trim hk)
 |bA hi dR=>cases h with|bA h=>exact .bA (E:={E with n:=n}) h dR
 |rp b o f h1 _ ih=>cases h with|rp h=>exact .rp b o f h1 λi a e=>ih i a e (h a (get_mem e))
 |op hi=>cases h with|op h=>exact .op (E:={E with n:=n}) h
 |fn dT fZ _ _ m_ lB=>cases h with|fn h1 h2=>exact .fn dT fZ (λi a e=>m_ i a e (h1 a (get_mem e))) λi a e=>lB i a e (h2 a (get_mem e))
 |cZ _ ih=>cases h with|cZ h=>exact .cZ (ih h)
 |mp hi=>cases h with|mp h=>exact .mp (E:={E with n:=n}) h
def eZ (n:Nat):aa->Prop
 |.cells l _|.part _ l _|.own _ l _=>∀a∈l,Lt n a
 |.iter m _ _ _=>m<n
 |.loop _ _ _ _ T _ _ _ _ df=>(∀t a,look T t=some a->Lt n a)/\df<n
 |_=>True
theorem eZ.mono{n m:Nat}(h:n<=m){x:aa}(k:eZ n x):eZ m x:=by
 cases x with
 |cells l el=>exactλa ha=>(k a ha).mono h
 |part p l el=>exactλa ha=>(k a ha).mono h
 |own p l el=>exactλa ha=>(k a ha).mono h
 |iter=>exact Tg k h
 |loop=>exact⟨λt a e=>(k.1 t a e).mono h,Tg k.2 h⟩
 |_=>trivial
theorem fS.olt{E:Env}{V:View}{k:Nat}{x:aa}(h:fS E V k x):eZ E.n x:=by
 cases x with
 |cells l el=>obtain⟨⟨cs,_,h2⟩,_⟩:=h;exactλa ha=>(p9 ha).elim λi hi=>(h2.2 i a hi).lt
 |part p l el=>obtain⟨⟨cs,_,h2,_⟩,_⟩:=h;exactλa ha=>(p9 ha).elim λi hi=>(h2.2 i a hi).lt
 |own p l el=>obtain⟨⟨cs,_,h2,_⟩,_⟩:=h;exactλa ha=>(p9 ha).elim λi hi=>(h2.2 i a hi).lt
 |iter m a b c=>exact h.1
 |loop=>obtain⟨⟨tmps,_,_,h2⟩,h3,_⟩:=h;exact⟨λt a e=>(h2 t a e).2.lt,h3⟩
 |_=>trivial
theorem fS.trim{E:Env}{V:View}{k n:Nat}{x:aa}(h:fS E V k x)(hl:eZ n x):fS {E with n:=n} V k x:=by
 cases x with
 |cells l el=>obtain⟨⟨cs,h1,h2⟩,h3⟩:=h;exact⟨⟨cs,h1,h2.1,λi a e=>(h2.2 i a e).trim (hl a (get_mem e))⟩,h3⟩
 |part p l el=>obtain⟨⟨cs,h1,h2,h4⟩,h3⟩:=h;exact⟨⟨cs,h1,⟨h2.1,λi a e=>(h2.2 i a e).trim (hl a (get_mem e))⟩,h4⟩,h3⟩
 |own p l el=>obtain⟨⟨cs,h1,h2,h4⟩,h3⟩:=h;exact⟨⟨cs,h1,⟨h2.1,λi a e=>(h2.2 i a e).trim (hl a (get_mem e))⟩,h4⟩,h3⟩
 |iter m a b c=>exact⟨hl,h.2⟩
 |tail m sz el=>exact h
 |obj x=>exact h
 |loop=>obtain⟨⟨tmps,h1,h2,h3⟩,h4,h5⟩:=h;exact⟨⟨tmps,h1,h2,λt a e=>⟨(h3 t a e).1,(h3 t a e).2.trim (hl.1 t a e)⟩⟩,hl.2,h5⟩
 |gone=>trivial
 |main=>exact h
def bJ (H:List aa):Prop:=∀x∈H,eZ H.length x
theorem Conc.aq{E:Env}{V:View}{H:List aa}(h:Conc E V H):bJ H:=λx hx=>by
 obtain⟨i,hi⟩:=UY.1 hx;rw[<- h.n];exact(h.obj i x hi).olt
theorem Gc(E:Env)(n k:Nat)(x:aa):bT {E with n:=n} k x=bT E k x:=by cases x<;>rfl
theorem Conc.trim{E:Env}{V:View}{H G:List aa}(h:Conc E V (H++G))(hl:bJ H):Conc {E with n:=H.length} V H:=by
 have hg:∀(k:Nat) x,H[k]?=some x->(H++G)[k]?=some x:=λk x e=>by rw[S0 (SL.1 e).1];exact e
 refine⟨h.I,rfl,λk x e=>(h.obj k x (hg k x e)).trim (hl x (S6 e)),λi j x y b h1 h2 h3 h4=> ?_,λg kv=> ?_,λg kv=> ?_,h.top,λb y kv=> ?_⟩
 ·rw[Gc]at h3 h4;exact h.inj i j x y b (hg i x h1) (hg j y h2) h3 h4
 ·obtain⟨q0,q1,q2⟩:=h.group g kv;exact⟨q0,q1,λk x e=>by rw[Gc];exact q2 k x (hg k x e)⟩
 ·obtain⟨q0,q1,q2⟩:=h.chan g kv;exact⟨q0,q1,λk x e=>by rw[Gc];exact q2 k x (hg k x e)⟩
 ·obtain⟨q0,q1,q2⟩:=h.fr b y kv;exact⟨q0,q1,λk x e=>by rw[Gc];exact q2 k x (hg k x e)⟩
structure AS.Jz (s s':AS):Prop where
 tok:∀t a,look s'.T t=some a->∃b,look s.T t=some b/\Wk b a/\Lt s'.H.length a
 H:∃G,s.H=s'.H++G
 ok:bJ s'.H
theorem Fw{E:Env}{n m:Nat}(h1:m<=n)(h2:n<=E.n){E0:Env}(h:E0.Le E)(h0:E0.n=m):E0.Le {E with n:=n}:=⟨h.I,by show E0.n<=n;omega,h.blk,h.fF,h.room,h.fr,h.main⟩
theorem At.cut{E:Env}{V:View}{s s':AS}{a:Act}{nt:Nat}(h:At E V s a nt)(hl:s.Jz s'):At {E with n:=s'.H.length} V s' a nt:=by
 obtain⟨G,hG⟩:=hl.H;have hc:=h.bz;rw[hG]at hc;refine⟨hc.trim hl.ok,λt x e=> ?_,h.size⟩;obtain⟨b,h1,h2,h3⟩:=hl.tok t x e;exact⟨(h.tok t b h1).1,(h2 _ _ (h.tok t b h1).2).trim h3⟩
theorem QA{nt:Nat}{α:Type}{lt:α->α->Prop}(wf:WellFounded lt){c:Uc}{Φ:an->AS->Prop}(inv:α->AS)(ok:α->Prop)(m:α)(h0:s.Sub (inv m))(hm:ok m)(hn:∀m,ok m->s.H.length<=(inv m).H.length)
  (h:∀m,ok m->aR lv P r nt c (inv m) (an.then (λs'=>∃m',lt m' m/\ok m'/\(s'.Sub (inv m')\/s'.Jz (inv m'))) Φ)):aR lv P r nt (.loop c) s Φ:=by
 intro E V a Q ai hQ;refine PP wf (I:=λm a' V'=>ok m/\∃E',Kept E E' V V' a a'/\At E' V' (inv m) a' nt) m ⟨hm,E,Kept.refl E V a,ai.sub h0⟩ λm a' V' hI=> ?_;obtain⟨aq,E',hk,aV⟩:=hI;refine h m aq E' V' a' _ aV λae e bY aU cu dp aJ dj he hΦ=> ?_;cases ae<;>cases e<;>first
  |exact he.elim
  |(obtain⟨m',h1,h2,h3⟩:=hΦ
    rcases h3 with h3|h3
    ·exact⟨m',h1,h2,bY,hk.trans aJ,dj.sub h3⟩
    ·refine⟨m',h1,h2,_,?_,dj.cut h3⟩;have cI:=hk.trans aJ;obtain⟨G,hG⟩:=h3.H;exact⟨Fw (hn m' h2) (by rw[dj.bz.n,hG];simp) cI.le ai.bz.n,cI.size,cI.defers,cI.role,cI.deaf⟩)
  |exact hQ _ _ bY aU cu dp (hk.trans aJ) dj he hΦ
theorem agV{nt:Nat}{c:Uc}{Φ:an->AS->Prop}(inv:Nat->Nat->AS->Prop)
  (start:∃n:Nat,aR lv P r nt c s (λe s'=>match e with
   |.goto l=>∃rest,findLabel c l=some rest/\∃m,m<n/\inv l m s'
   |e=>Φ e s'))
  (back:∀l rest m s',findLabel c l=some rest->inv l m s'->aR lv P r nt rest s' (λe dp=>match e with
   |.goto l'=>∃zK,findLabel c l'=some zK/\∃m',m'<m/\inv l' m' dp
   |e=>Φ e dp)):aR lv P r nt (.scope c) s Φ:=by
 intro E V a Q ai hQ;refine ae2 (λl m a' V'=>∃E' s',Kept E E' V V' a a'/\At E' V' s' a' nt/\inv l m s') ?_ ?_
 ·obtain⟨n,hn⟩:=start;refine⟨n,hn E V a _ ai λae e E' V' a' s' hk aV he hΦ=> ?_⟩;cases ae<;>cases e<;>first
   |exact he.elim
   |(have e:_=_:=he
     subst e;obtain⟨rest,h1,m,h2,h3⟩:=hΦ;exact⟨rest,h1,m,h2,E',s',hk,aV,h3⟩)
   |exact hQ _ _ E' V' a' s' hk aV he hΦ
 ·intro l rest m a' V' hf ⟨E',s',hk,aV,hi⟩;refine back l rest m s' hf hi E' V' a' _ aV λae e bY aU cu dp aJ dj he hΦ=> ?_;cases ae<;>cases e<;>first
   |exact he.elim
   |(have e:_=_:=he
     subst e;obtain⟨zK,h1,m',h2,h3⟩:=hΦ;exact⟨zK,h1,m',h2,bY,dp,hk.trans aJ,dj,h3⟩)
   |exact hQ _ _ bY aU cu dp (hk.trans aJ) dj he hΦ
end
def bp:Nat->List AV->List (Nat×AV)
 |_,[]=>[]
 |i,a::l=>(i,a)::bp (i+1) l
theorem Oc:∀(l:List AV)(i t:Nat)(a:AV),look (bp i l) t=some a->i<=t/\l[t-i]?=some a
 |[],_,_,_,h=>by cases h
 |b::l,i,t,a,h=>by
  simp only[bp,look]at h;split at h
  ·rename_i e;subst e;cases h;exact⟨SO _,by simp⟩
  ·obtain⟨h1,h2⟩:=Oc l (i+1) t a h;refine⟨by omega,?_⟩;have:t-i=(t-(i+1))+1:=(by omega);rw[this,UR];exact h2
def vX (P:SI)(s:AS):UU->Option AV
 |.tmp t=>look s.T t
 |.cell a t=>(look s.T a).bind λp=>(s.at p).bind λl=>(Ty P t).bind λx=>if x.2 then(if x.1<=l.length then some (.agg (l.take x.1))else none)else l[0]?
def ig (P:SI)(s:AS):List UU->Option (List AV)
 |[]=>some []
 |x::l=>match vX P s x,ig P s l with
  |some a,some aG=>some (a::aG)
  |_,_=>none
def jc:List AV->AV
 |[a]=>a
 |l=> .aQ l
theorem are{P:SI}{E:Env}{V:View}{s:AS}{a:Act}{nt:Nat}(ai:At E V s a nt){x:UU}{av:AV}(h:vX P s x=some av):
  ∃v,ap E av v/\∀{K:SP->View->Prop}{Kp:SP->View->Prop},K v V->aS P V (match x with|.tmp t=>pure (a.tmps.getD t undef)|.cell b t=>do loadVar t (<- asAddr (a.tmps.getD b undef))) K Kp:=by
 cases x with
 |tmp t=>exact⟨_,(ai.tok t av h).2,λhK=>au hK⟩
 |cell b t=>
  unfold vX at h;obtain⟨p,h1,h⟩:=Th.1 h;obtain⟨l,h2,h⟩:=Th.1 h;obtain⟨⟨n,g⟩,h3,h⟩:=Th.1 h;obtain⟨i,d,t1,t2,rfl,t4⟩:=Ty.out h3;obtain⟨bb,off,f,hv,hg,kv,hd⟩:=ai.bz.at (ai.tok b p h1).2 h2;dsimp only;rw[hv];cases g with
  |true=>
   simp only[if_true]at h;split at h
   ·rename_i hlen;cases h;refine⟨_,Ks hlen hd,λhK=> ?_⟩;refine aA ?_;unfold asAddr;refine au ?_;unfold loadVar;refine Fh t2 ?_;rw[t4];simp only[if_true];refine j5 t1 ?_;exact aA (B1 (f:=f) (λh=>kv (by omega)) (λj hj=>hg j (by omega)) (au hK))
   ·cases h
  |false=>
   simp only[TV,if_false]at h;have hlen:0<l.length:=(SL.1 h).1;have lR:=hg 0 hlen;rw[UJ]at lR;refine⟨_,hd 0 av h,λhK=> ?_⟩;refine aA ?_;unfold asAddr;refine au ?_;unfold loadVar;refine Fh t2 ?_;rw[t4];simp only[TV,if_false];exact Pc lR (.inl (kv hlen)) (cJ hK)
theorem IS{P:SI}{E:Env}{V:View}{s:AS}{a:Act}{nt:Nat}(ai:At E V s a nt):∀(rs:List UU)(l:List AV),ig P s rs=some l->∃vs:List SP,vs.length=l.length/\(∀(i:Nat) x,l[i]?=some x->ap E x (vs.getD i undef))/\
  ∀{K:List SP->View->Prop}{Kp:SP->View->Prop},K vs V->aS P V (rs.mapM λx=>(match x with|.tmp t=>pure (a.tmps.getD t undef)|.cell b t=>do loadVar t (<- asAddr (a.tmps.getD b undef)):Sem SP)) K Kp
 |[],l,h=>by
  cases h;refine⟨[],rfl,by simp,λhK=> ?_⟩;rw[UH];exact au hK
 |x::rs,l,h=>by
  simp only[ig]at h;split at h
  ·rename_i av mi h1 h2;cases h;obtain⟨v,hv,hs⟩:=are ai h1;obtain⟨vs,hl,l6,ud⟩:=IS ai rs mi h2;refine⟨v::vs,by simp[hl],λi x hx=> ?_,λhK=> ?_⟩
   ·cases i with
    |zero=>cases hx;simpa using hv
    |succ i=>simpa using l6 i x (by simpa using hx)
   ·rw[Uf];exact aA (hs (aA (ud (au hK))))
  ·cases h
attribute [seval] Int.natCast_pow Int.natCast_mul Int.natCast_shiftLeft Int.natCast_emod Int.ofNat_sub Int.natCast_shiftRight Int.natCast_add_one Int.natCast_add Int.cast_id Int.natCast_sub Int.natCast_ediv Int.natCast_succ
open Go.Conc
def cH (n0:Nat)(H:List aa)(a:AV)(k:AV->List aa->Prop):Prop:=
 ∃b,Wk a b/\(k b H\/∃H' G,H=H'++G/\n0<=H'.length/\bJ H'/\Lt H'.length b/\k b H')
def uB (P:SI)(rs:List UU)(n0:Nat)(k kp:AV->List aa->Prop):an->AS->Prop
 |.normal,s|.ret,s=>ao (ig P s rs) λl=>cH n0 s.H (jc l) k
 |.panic pv,s=>cH n0 s.H pv kp
 |_,_=>False
theorem ce{n0:Nat}{H:List aa}{a:AV}{k:AV->List aa->Prop}(h:k a H):cH n0 H a k:=⟨a,Wk.refl a,.inl h⟩
theorem jE{H H' G:List aa}{a b:AV}{k:AV->List aa->Prop}{n0:Nat}(hw:Wk a b)(hH:H=H'++G)(hn:n0<=H'.length)(aq:bJ H')(hl:Lt H'.length b)(h:k b H'):cH n0 H a k:=⟨b,hw,.inr ⟨H',G,hH,hn,aq,hl,h⟩⟩
theorem yl{n0:Nat}{E0 E:Env}{V':View}{H:List aa}{a:AV}{v:SP}{k:AV->List aa->Prop}(h:cH n0 H a k)(hc:Conc E V' H)(hd:ap E a v)(hle:E0.Le E)(hn:E0.n=n0):∃b E' H',E0.Le E'/\ap E' b v/\Conc E' V' H'/\k b H':=by
 obtain⟨b,hw,h|⟨H',G,rfl,h1,h2,h3,h4⟩⟩:=h
 ·exact⟨b,E,H,hle,hw _ _ hd,hc,h⟩
 ·refine⟨b,{E with n:=H'.length},H',Fw h1 (by rw[hc.n];simp) hle hn,(hw _ _ hd).trim h3,hc.trim h2,h4⟩
theorem akt{lv:Bool}{P:SI}{f:TY}{fn:YL}{c:Uc}{rs:List UU}{nt:Nat}{H:List aa}{args:List AV}{k kp:AV->List aa->Prop}(hf:P.funcs[f]?=some fn)(hb:fn.body=some c)(hr:fn.results=rs.toArray)(hn:fn.ntmps=nt)(cN:args.length<=nt)
  (h:bJ H->(∀a∈args,Lt H.length a)->aR lv P none nt c ⟨bp 0 args,H⟩ (uB P rs H.length k kp)):ba lv P f H args k kp:=by
 intro E V vs hc hd;have aY:(vs++TS (fn.ntmps-vs.size) undef).size=nt:=by simp[hd.1];omega
 have hlt:∀a∈args,Lt H.length a:=λa ha=>by
  obtain⟨i,hi⟩:=p9 ha;rw[<- hc.n];exact(hd.2 i a hi).lt
 refine QR (by simp) hf hb (h hc.aq hlt E V _ _ ⟨hc,λq a e=> ?_,aY⟩ λae e E' V' a' s' hk ai he hΦ=> ?_)
 ·obtain⟨_,e⟩:=Oc args 0 q a e;simp only[Z']at e;have hq:q<args.length:=(SL.1 e).1;have t_:q<vs.size:=by rw[hd.1];exact hq
  refine⟨by rw[aY];omega,?_⟩;have:=hd.2 q a e;rw[SH,Yk t_];rwa [SH]at this
 ·have fin:(ao (ig P s' rs) λl=>cH H.length s'.H (jc l) k)->a'.defers=[]/\∃v,aS P V' (results fn a'.tmps) (λx aU=>x=v/\aU=V') (λ_ _=>False)/\gU E V k kp (.ret v) V':=by
   intro hΦ;obtain⟨l,h1,h2⟩:=hΦ.out;have gw:∃v,ap E' (jc l) v/\aS P V' (results fn a'.tmps) (λx aU=>x=v/\aU=V') (λ_ _=>False):=by
    obtain⟨vs,hl,l6,y9⟩:=IS ai rs l h1;refine⟨if h:vs.length=1 then vs[0]else .tuple vs.toArray,?_,?_⟩
    ·match l,vs,hl,l6 with
     |[x],[v],_,l6=>exact l6 0 x rfl
     |[],[],_,l6=>exact .aQ rfl (by simp)
     |x::y::l,v::w::vs,hl,l6=>exact .aQ (by simpa using hl) (λi z hz=>by simpa[SH,SE]using l6 i z hz)
    ·unfold results;rw[hr,Yc];refine aA ?_;refine aA (y9 ?_);refine au (au ⟨?_,rfl⟩);simp
   obtain⟨v,bx,qS⟩:=gw;obtain⟨b,bY,H',q1,q2,q3,q4⟩:=yl h2 ai.bz bx hk.le hc.n;exact⟨hk.defers,v,qS,b,bY,H',q1,hk.role,hk.deaf,q2,q3,q4⟩
  cases ae<;>cases e<;>first
   |exact he.elim
   |exact fin hΦ
   |(obtain⟨v,rfl,bx⟩:=he
     obtain⟨b,bY,H',q1,q2,q3,q4⟩:=yl hΦ ai.bz bx hk.le hc.n;exact⟨hk.defers,b,v,bY,H',rfl,q1,hk.role,hk.deaf,q2,q3,q4⟩)
   |exact hΦ.elim
open Go.Conc
theorem aoB(k:Nat)(a:AV)(l:List (Nat×AV)):look ((k,a)::l) k=some a:=by simp[look]
theorem aoC(k t:Nat)(a:AV)(l:List (Nat×AV))(h:(k==t)=false):look ((k,a)::l) t=look l t:=by
 have:¬k=t:=by simpa using h
 simp[look,this]
theorem BL{α:Type}(a:α)(k:α->Prop):ao (some a) k=k a:=by rw[ao]
theorem agv(b:Bool)(k:Bool->Prop):AV.asBool (.val (.bool b)) k=k b:=by rw[AV.asBool]
theorem agx(j:T8)(n:Int)(k:T8->Int->Prop):AV.asInt (.val (.int j n)) k=k j n:=by rw[AV.asInt]
theorem agE(l:List AV)(k:List AV->Prop):AV.ya (.aQ l) k=k l:=by rw[AV.ya]
theorem agt(l:List AV)(k:List AV->Prop):AV.asAgg (.agg l) k=k l:=by rw[AV.asAgg]
theorem agz(i j:Nat)(k:Nat->Nat->Prop):AV.qq (.op i j) k=k i j:=by rw[AV.qq]
theorem agy(i:Nat)(k:Nat->Prop):AV.s_ (.mp i) k=k i:=by rw[AV.s_]
theorem agC(n:Nat)(l:List AV)(e:End)(k:Nat->List AV->End->Prop):AV.wx (.sl n l e) k=k n l e:=by rw[AV.wx]
theorem afP(P:SI)(xt:TypeId)(j:T8)(m n:Int)(k:AV->Prop):dK P .add xt (.val (.int j m)) (.val (.int j n)) k=k (.val (.int j (j.wrap (m+n)))):=by simp[dK,na,mj,ao]
theorem af1(P:SI)(xt:TypeId)(j:T8)(m n:Int)(k:AV->Prop):dK P .sub xt (.val (.int j m)) (.val (.int j n)) k=k (.val (.int j (j.wrap (m-n)))):=by simp[dK,na,mj,ao]
theorem afX(P:SI)(xt:TypeId)(j:T8)(m n:Int)(k:AV->Prop):dK P .mul xt (.val (.int j m)) (.val (.int j n)) k=k (.val (.int j (j.wrap (m* n)))):=by simp[dK,na,mj,ao]
theorem afR(P:SI)(xt:TypeId)(j:T8)(m n:Int)(k:AV->Prop):dK P .eql xt (.val (.int j m)) (.val (.int j n)) k=k (.val (.bool (m==n))):=by simp[dK,na,mj,ao]
theorem Qc(P:SI)(xt:TypeId)(j:T8)(m n:Int)(k:AV->Prop):dK P .neq xt (.val (.int j m)) (.val (.int j n)) k=k (.val (.bool (m !=n))):=by simp[dK,na,mj,ao]
theorem afW(P:SI)(xt:TypeId)(j:T8)(m n:Int)(k:AV->Prop):dK P .lss xt (.val (.int j m)) (.val (.int j n)) k=k (.val (.bool (decide (m<n)))):=by simp[dK,na,mj,ao]
theorem afV(P:SI)(xt:TypeId)(j:T8)(m n:Int)(k:AV->Prop):dK P .leq xt (.val (.int j m)) (.val (.int j n)) k=k (.val (.bool (decide (m<=n)))):=by simp[dK,na,mj,ao]
theorem afT(P:SI)(xt:TypeId)(j:T8)(m n:Int)(k:AV->Prop):dK P .gtr xt (.val (.int j m)) (.val (.int j n)) k=k (.val (.bool (decide (m>n)))):=by simp[dK,na,mj,ao]
theorem afS(P:SI)(xt:TypeId)(j:T8)(m n:Int)(k:AV->Prop):dK P .geq xt (.val (.int j m)) (.val (.int j n)) k=k (.val (.bool (decide (m>=n)))):=by simp[dK,na,mj,ao]
theorem afQ(P:SI)(xt:TypeId)(j:T8)(m n:Int)(k:AV->Prop):dK P .and xt (.val (.int j m)) (.val (.int j n)) k=k (.val (.int j (j.wrap (Ul j.bits m&&&Ul j.bits n).toNat))):=by simp[dK,na,mj,ao]
theorem CJ(P:SI)(xt:TypeId)(j:T8)(m n:Int)(k:AV->Prop):dK P .or xt (.val (.int j m)) (.val (.int j n)) k=k (.val (.int j (j.wrap (Ul j.bits m|||Ul j.bits n).toNat))):=by simp[dK,na,mj,ao]
theorem CL(P:SI)(xt:TypeId)(j:T8)(m n:Int)(k:AV->Prop):dK P .xor xt (.val (.int j m)) (.val (.int j n)) k=k (.val (.int j (j.wrap (Ul j.bits m^^^Ul j.bits n).toNat))):=by simp[dK,na,mj,ao]
theorem afZ(P:SI)(xt:TypeId)(j:T8)(m n:Int)(k:AV->Prop):dK P .rem xt (.val (.int j m)) (.val (.int j n)) k=ao (if n=0 then none else some (.int j (m.tmod n))) λv=>k (.val v):=by simp[dK,na,mj]
theorem af0(P:SI)(xt:TypeId)(j j':T8)(m n:Int)(k:AV->Prop):dK P .shl xt (.val (.int j m)) (.val (.int j' n)) k=ao (if n<0 then none else some (.int j (j.wrap (m* 2^(min n.toNat j.bits))))) λv=>k (.val v):=by simp[dK,na,B5]
theorem CK(P:SI)(xt:TypeId)(j j':T8)(m n:Int)(k:AV->Prop):dK P .shr xt (.val (.int j m)) (.val (.int j' n)) k=ao (if n<0 then none else some (.int j (m.fdiv (2^(min n.toNat j.bits))))) λv=>k (.val v):=by simp[dK,na,B5]
theorem aiT(T:List (Nat×AV))(H:List aa)(t:Nat):AS.ev ⟨T,H⟩ (.tmp t)=look T t:=by rw[AS.ev]
theorem aiK(s:AS)(b:Bool):s.ev (.const (.bool b))=some (.val (.bool b)):=by rw[AS.ev,AV.of]<;>(intros;simp_all)
theorem aiO(s:AS)(k:T8)(n:Int):s.ev (.const (.int k n))=some (.val (.int k n)):=by rw[AS.ev,AV.of]<;>(intros;simp_all)
theorem aiM(s:AS)(f:TY):s.ev (.func f)=some (.fn (.func f) [] []):=by rw[AS.ev]
theorem aiS(s:AS):s.ev (.const (.slice none 0 0))=some (.sl 0 [] .exact):=by rw[AS.ev,AV.of]
theorem aiP(s:AS):s.ev (.const (.map none))=some (.val (.map none)):=by rw[AS.ev,AV.of]<;>(intros;simp_all)
theorem aiQ(s:AS):s.ev (.const (.pointer none))=some (.val (.pointer none)):=by rw[AS.ev,AV.of]<;>(intros;simp_all)
theorem aiL(s:AS):s.ev (.const .nilFunc)=some (.val .nilFunc):=by rw[AS.ev,AV.of]<;>(intros;simp_all)
theorem aiN(s:AS):s.ev (.const .nilIface)=some (.val .nilIface):=by rw[AS.ev,AV.of]<;>(intros;simp_all)
theorem aqn(T:List (Nat×AV))(H:List aa)(d:Nat)(a:AV):AS.put ⟨T,H⟩ (some d) a=⟨(d,a)::T,H⟩:=by rw[AS.put]
theorem aqm(s:AS)(a:AV):AS.put s none a=s:=by rw[AS.put]
theorem att(n:AS->Prop)(Φ:an->AS->Prop)(s:AS):an.then n Φ .normal s=n s:=by rw[an.then]
theorem atv(n:AS->Prop)(Φ:an->AS->Prop)(s:AS):an.then n Φ .ret s=Φ .ret s:=by rw[an.then];intro h;cases h
theorem atq(n:AS->Prop)(Φ:an->AS->Prop)(i:Nat)(s:AS):an.then n Φ (.exit i) s=Φ (.exit i) s:=by rw[an.then];intro h;cases h
theorem atr(n:AS->Prop)(Φ:an->AS->Prop)(i:Nat)(s:AS):an.then n Φ (.goto i) s=Φ (.goto i) s:=by rw[an.then];intro h;cases h
theorem atu(n:AS->Prop)(Φ:an->AS->Prop)(a:AV)(s:AS):an.then n Φ (.panic a) s=Φ (.panic a) s:=by rw[an.then];intro h;cases h
theorem ahu(i:Nat)(Φ:an->AS->Prop)(s:AS):an.inBlock i Φ .normal s=Φ .normal s:=by rw[an.inBlock];intro h h';cases h'
theorem ahw(i:Nat)(Φ:an->AS->Prop)(s:AS):an.inBlock i Φ .ret s=Φ .ret s:=by rw[an.inBlock];intro h h';cases h'
theorem ahr(i l:Nat)(Φ:an->AS->Prop)(s:AS):an.inBlock i Φ (.goto l) s=Φ (.goto l) s:=by rw[an.inBlock];intro h h';cases h'
theorem ahv(i:Nat)(Φ:an->AS->Prop)(a:AV)(s:AS):an.inBlock i Φ (.panic a) s=Φ (.panic a) s:=by rw[an.inBlock];intro h h';cases h'
theorem ahs(i:Nat)(Φ:an->AS->Prop)(s:AS):an.inBlock i Φ (.exit i) s=Φ .normal s:=by rw[an.inBlock,if_pos rfl]
theorem aht(i j:Nat)(Φ:an->AS->Prop)(s:AS)(h:(j==i)=false):an.inBlock i Φ (.exit j) s=Φ (.exit j) s:=by
 have:¬j=i:=by simpa using h
 rw[an.inBlock,if_neg this]
theorem akE(P:SI)(rs:List UU)(n:Nat)(k kp:AV->List aa->Prop)(s:AS):uB P rs n k kp .ret s=ao (ig P s rs) λl=>cH n s.H (jc l) k:=by rw[uB]
theorem akC(P:SI)(rs:List UU)(n:Nat)(k kp:AV->List aa->Prop)(s:AS):uB P rs n k kp .normal s=ao (ig P s rs) λl=>cH n s.H (jc l) k:=by rw[uB]
theorem akD(P:SI)(rs:List UU)(n:Nat)(k kp:AV->List aa->Prop)(a:AV)(s:AS):uB P rs n k kp (.panic a) s=cH n s.H a kp:=by rw[uB]
theorem arf(P:SI)(T:List (Nat×AV))(H:List aa)(t:Nat):vX P ⟨T,H⟩ (.tmp t)=look T t:=by rw[vX]
theorem agK(s:AS)(l:List AV):s.at (.rp l)=some l:=by rw[AS.at]
theorem ar8(n i off:Nat):AV.shift n (.op i off)=some (.op i (off+n)):=by rw[AV.shift]
theorem adT(n:Nat)(l:List AV)(h:n<=l.length):AV.shift n (.rp l)=some (.rp (l.drop n)):=by rw[AV.shift,if_pos h]
theorem ar9(l:List AV):AV.shift 0 (.rp l)=some (.rp l):=by rw[AV.shift,if_pos (X9 _),XJ]
theorem asa(n:Nat)(a:AV)(l:List AV):AV.shift (n+1) (.rp (a::l))=AV.shift n (.rp l):=by simp[AV.shift]
theorem ars(n:Nat)(l:List AV)(e:End):AV.row (.sl n l e)=some (n,.rp l):=by rw[AV.row]
theorem arq(i off n cap:Nat):AV.row (.bA i off n cap)=some (n,.op i off):=by rw[AV.row]
theorem afz(P:SI)(s:AS){t:TypeId}(n:Nat)(l:List AV)(e:End)(k:AV->Prop)(h:kW P t=some .slice):sS P s t (.sl n l e) k=k (.val (.int .i64 n)):=by unfold sS;rw[h]
theorem afy(P:SI)(s:AS){t:TypeId}(i off n cap:Nat)(k:AV->Prop)(h:kW P t=some .slice):sS P s t (.bA i off n cap) k=k (.val (.int .i64 n)):=by unfold sS;rw[h]
theorem afx(P:SI)(T:List (Nat×AV))(H:List aa){t:TypeId}(id:Nat)(k:AV->Prop){es:Array Wp}{ck:Nat}(h:kW P t=some .map)(hH:H[id]?=some (.obj (.map es ck))):sS P ⟨T,H⟩ t (.mp id) k=k (.val (.int .i64 es.size)):=by
 unfold sS;rw[h];simp[hH]
theorem bk{a b:AV}:(∃c,some b=some c/\Wk c a)<->Wk b a:=⟨λ⟨_,h,k⟩=>by cases h;exact k,λh=>⟨_,rfl,h⟩⟩
abbrev iv (n:Int):AV:=.val (.int .i64 n)
abbrev bv (b:Bool):AV:=.val (.bool b)
open Go.Conc
theorem Qw{lv:Bool}{P:SI}{r:Option Nat}{s:AS}{nt:Nat}{c:Tl}{x y:Uc}{Φ:an->AS->Prop}(h:ao (s.ev c) λa=>a.asBool λb=>(b=true->aR lv P r nt x s Φ)/\(b=false->aR lv P r nt y s Φ)):aR lv P r nt (.cond c x y) s Φ:=by
 obtain⟨a,h1,h2⟩:=h.out;obtain⟨b,rfl,h3,h4⟩:=CP h2;exact agL h1 h3 h4
theorem Ry{α β:Type}{f:α->List β}{m:Nat}(hf:∀x,(f x).length=m):∀{xs:List α}{i:Nat}{x:α},xs[i]?=some x->(xs.flatMap f).drop (i* m)=f x++(xs.drop (i+1)).flatMap f
 |y::xs,0,x,h=>by cases h;simp
 |y::xs,i+1,x,h=>by
  have ih:=Ry hf (xs:=xs) (i:=i) (x:=x) (by simpa using h);rw[TW,Vr,Nat.one_mul,aq' (i* m) m,<- ar_];have:(f y++xs.flatMap f).drop m=xs.flatMap f:=by rw[<- hf y];simp
  rw[this,ih];simp
 |[],i,x,h=>by simp at h
theorem xq{α β:Type}{f:α->List β}{m:Nat}(hf:∀x,(f x).length=m)(xs:List α):(xs.flatMap f).length=xs.length* m:=by
 induction xs with
 |nil=>simp
 |cons x xs ih=>rw[TW,SQ,hf,ih,Un,Vr];omega
theorem Pk{α:Type}{f:α->List AV}{m:Nat}(hf:∀x,(f x).length=m){xs:List α}{i:Nat}{x:α}(h:xs[i]?=some x):AV.shift (i* m) (.rp (xs.flatMap f))=some (.rp (f x++(xs.drop (i+1)).flatMap f)):=by
 have hi:i<xs.length:=(SL.1 h).1;rw[adT _ _ (by rw[xq hf];exact TM _ (by omega)),Ry hf h]
theorem Pl{α:Type}{f:α->AV}{xs:List α}{i:Nat}{x:α}(h:xs[i]?=some x):AV.shift (i* 1) (.rp (xs.map f))=some (.rp (f x::(xs.drop (i+1)).map f)):=by
 have hi:i<xs.length:=(SL.1 h).1;rw[Y9,adT _ _ (by simp;omega)];congr 2;rw[<- an_,T4 hi,U0];congr 2;rw[SY hi]at h;exact Wb h
theorem iR{i n:Nat}(h:i<n):(0<=(i:Int)/\(i:Int)<(n:Int))=True:=by simp;exact h
theorem eW{α:Type}{xs:List α}{i:Nat}{x:α}(h:xs[i]?=some x):i<xs.length:=(SL.1 h).1
theorem bE{α:Type}{xs:List α}{i:Nat}(h:i<xs.length):∃x,xs[i]?=some x:=⟨_,SY h⟩
theorem ws(H L:List aa)(i:Nat):(H++L)[H.length+i]?=L[i]?:=by rw[S_ (by omega)];congr 1;omega
theorem agm(H L:List aa):(H++L)[H.length]?=L[0]?:=by have:=ws H L 0;simpa using this
theorem wu(H L:List aa)(i:Nat)(x:aa):(H++L).set (H.length+i) x=H++L.set i x:=by
 rw[Ue _ _ (by omega)];congr 2;omega
theorem agq(H L:List aa)(x:aa):(H++L).set H.length x=H++L.set 0 x:=by have:=wu H L 0 x;simpa using this
theorem agl(H L M:List aa):(H++L)++M=H++(L++M):=SC ..
theorem agp(H L:List aa):(H++L).length=H.length+L.length:=SQ
theorem dZ(n:Nat)(x:SP):Lt n (.val x)=True:=by simp[Lt.val]
theorem ach(n i o:Nat):Lt n (.op i o)=(i<n):=propext ⟨λh=>by cases h with|op h=>exact h,.op⟩
theorem uk(n:Nat)(l:List AV):Lt n (.agg l)=∀a∈l,Lt n a:=propext ⟨λh=>by cases h with|agg h=>exact h,.agg⟩
theorem jM(n:Nat)(l:List AV):Lt n (.aQ l)=∀a∈l,Lt n a:=propext ⟨λh=>by cases h with|aQ h=>exact h,.aQ⟩
theorem acg(n:Nat)(t:TypeId)(a:AV):Lt n (.cZ t a)=Lt n a:=propext ⟨λh=>by cases h with|cZ h=>exact h,.cZ⟩
theorem p8(n m:Nat)(l:List AV):Lt n (.sl m l .shut)=∀a∈l,Lt n a:=propext ⟨λh=>by cases h with|sl _ h=>exact h,λh=> .sl (by simp) h⟩
theorem Og(n m:Nat)(l:List AV):Lt n (.sl m l .exact)=∀a∈l,Lt n a:=propext ⟨λh=>by cases h with|sl _ h=>exact h,λh=> .sl (by simp) h⟩
theorem aci(n m k:Nat)(l:List AV):Lt n (.sl m l (.opn k))=(k<n/\∀a∈l,Lt n a):=propext ⟨λh=>by cases h with|sl h' h=>exact⟨h' k rfl,h⟩,λh=> .sl (λk' e=>by cases e;exact h.1) h.2⟩
theorem zv(n:Nat)(l:List AV):Lt n (.rp l)=∀a∈l,Lt n a:=propext ⟨λh=>by cases h with|rp h=>exact h,.rp⟩
open Go.Conc
def cS (o:Tx):List Nat:=o.after.toList.filterMap λe=>if Yz .any e then some e.on else none
inductive mf (ops:Array Tx):List Nat->List Nat->Prop
 |nil (X:List Nat) (h:∀i,i<ops.size->i∈X):mf ops X []
 |cons {X:List Nat} {i:Nat} {l:List Nat} (o:Tx) (ho:ops[i]?=some o) (hn:i∉X) (hd:∀j∈cS o,j∈X) (h:mf ops (i::X) l):mf ops X (i::l)
theorem Il{o:Tx}{j:Nat}:j∈cS o<->∃e∈o.after,Yz .any e=true/\e.on=j:=by
 unfold cS;rw[V_];constructor
 ·rintro⟨e,he,h⟩
  split at h
  ·rename_i hb;cases h;exact⟨e,by simpa using he,hb,rfl⟩
  ·cases h
 ·rintro⟨e,he,hb,rfl⟩
  exact⟨e,by simpa using he,by rw[if_pos hb]⟩
theorem Q_{l:List Nat}{i:Nat}(hi:i∈l){p q:Nat->Bool}(nZ:∀k,q k=true->p k=true)(hp:p i=true)(hq:q i=false):l.countP q<l.countP p:=by
 induction l with
 |nil=>cases hi
 |cons x l ih=>
  have hle:l.countP q<=l.countP p:=List.countP_mono_left λk _ h=>nZ k h;rcases SK.1 hi with rfl|hi
  ·rw[WX (by simp[hq]),VY hp];omega
  ·have:=ih hi;by_cases hx:q x=true
   ·rw[VY hx,VY (nZ x hx)];omega
   ·rw[WX hx];by_cases jL:p x=true
    ·rw[VY jL];omega
    ·rw[WX jL];exact this
structure P8 (ops:Array Tx)(L:Array Bool)(X:List Nat):Prop where
 size:L.size=ops.size
 mem:∀i,i<ops.size->(L[i]?=some true<->i∈X)
theorem ab5{ops:Array Tx}(iy:∀(i:Nat) o,ops[i]?=some o->∀j∈cS o,j<i):∀(fuel t:Nat)(L:Array Bool)(X:List Nat),P8 ops L X->(SR ops.size).countP (λi=> !X.contains i)<=fuel->mf ops X (UM .any ops fuel t L [])
 |0,t,L,X,hr,hc=>by
  simp only[UM,X_];refine .nil X λi hi=> ?_;have:(SR ops.size).countP (λi=> !X.contains i)=0:=by omega
  have:=List.countP_eq_zero.1 this i (by simpa using hi);simpa using this
 |fuel+1,t,L,X,hr,hc=>by
  have vA:∀i,i∈((SR ops.size).filter λi=> !L.getD i true&&((ops[i]?).map (·.after.all λe=> !Region.binds .any e||L.getD e.on false)).getD false)<->∃o,ops[i]?=some o/\i∉X/\∀j∈cS o,j∈X:=by
   intro i;simp only[Uz,TG,Te,TZ];constructor
   ·rintro⟨hi,h1,h2⟩
    have ho:=SJ hi;refine⟨ops[i],ho,λhx=> ?_,λj hj=> ?_⟩
    ·have:=(hr.mem i hi).2 hx;rw[SH,this]at h1;cases h1
    ·obtain⟨e,he,hb,rfl⟩:=Il.1 hj;rw[ho]at h2;simp only[UW,S8,UQ]at h2;have:=h2 e he;rw[hb]at this;simp only[aq_,ZH]at this;have hlt:e.on<ops.size:=Wr (iy i _ ho _ hj) hi;refine(hr.mem _ hlt).1 ?_;rw[SH]at this;cases hx:L[e.on]?with
     |none=>rw[hx]at this;cases this
     |some b=>rw[hx]at this;cases b;cases this;rfl
   ·rintro⟨o,ho,h1,h2⟩
    have hi:i<ops.size:=(SS.1 ho).1;refine⟨hi,?_,?_⟩
    ·rw[SH,SJ (by rw[hr.size];exact hi)];simp only[S8];cases hb:L[i]'(by rw[hr.size];exact hi)with
     |false=>rfl
     |true=>exact absurd ((hr.mem i hi).1 (by rw[SJ (by rw[hr.size];exact hi),hb])) h1
    ·rw[ho];simp only[UW,S8,UQ];intro e he;cases hb:Yz .any e with
     |false=>rfl
     |true=>
      have hj:=Il.2 ⟨e,he,hb,rfl⟩;have hlt:e.on<ops.size:=Wr (iy i _ ho _ hj) hi;have:=(hr.mem _ hlt).2 (h2 _ hj);simp[SH,this]
  simp only[UM];generalize Ef:((SR ops.size).filter λi=> !L.getD i true&&((ops[i]?).map (·.after.all λe=> !Region.binds .any e||L.getD e.on false)).getD false)=rs at vA;cases hi:rs[t % rs.length]?with
  |none=>
   have MO:rs=[]:=by
    cases rs with
    |nil=>rfl
    |cons x xs=>
     have hlt:t % (x::xs).length<(x::xs).length:=avW _ (by simp);rw[List.getElem?_eq_none_iff]at hi;omega
   simp only[X_];refine .nil X λi=> ?_;induction i using Yv with
   |_ i ih=>
    intro hlt;apply Tv;intro hx;have:i∈rs:=(vA i).2 ⟨ops[i],SJ hlt,hx,λj hj=>ih j (iy i _ (SJ hlt) j hj) (Wr (iy i _ (SJ hlt) j hj) hlt)⟩;rw[MO]at this;cases this
  |some i=>
   simp only[];obtain⟨o,ho,h1,h2⟩:=(vA i).1 (S6 hi);have hlt:i<ops.size:=(SS.1 ho).1;rw[linearise_go_acc,List.reverse_singleton,Y'];refine .cons o ho h1 h2 (ab5 iy fuel _ _ (i::X) ⟨by simp[hr.size],λk hk=> ?_⟩ ?_)
   ·by_cases rZ:k=i
    ·subst rZ;simp[Tb (by rw[hr.size];exact hlt)]
    ·rw[SX (Ne.symm rZ),hr.mem k hk];simp[rZ]
   ·have fK:i∈(SR ops.size):=(by simpa using hlt);have:(SR ops.size).countP (λk=> !(i::X).contains k)<(SR ops.size).countP (λk=> !X.contains k):=by
     exact Q_ fK (λk hk=>by simp only[TZ,Ut,decide_eq_false_iff_not]at hk⊢;exactλh=>hk (Td _ h)) (by simpa using h1) (by simp)
    omega
end Go.Gg
