/- A part of the proof. -/
import Derived.Conc.Own5
import Derived.Conc.Own4
import Derived.Conc.Own3
import Derived.Conc.Own2
import Derived.Conc.QuitsD
import Derived.Conc.Deaf
import Derived.Conc.CompanyDraw
import Derived.Conc.Comm2
import Derived.Conc.Beside
import Derived.Conc.Events
import Derived.Orders
set_option linter.all false
set_option maxRecDepth 4000
set_option maxHeartbeats 4000000
open Array renaming all_eq_true_iff_forall_mem->VM,append_assoc->Yv,empty_append->Yu,ext'->WT,getD_eq_getD_getElem?->Ti,getElem?_append_left->Ze,getElem?_append_right->Y',getElem?_eq_getElem->Tn,getElem?_eq_some_iff->T5,getElem?_map->XE,getElem?_modify->Xn,getElem?_push->Yl,getElem?_push_lt->Zz,getElem?_setIfInBounds_ne->T6,getElem?_setIfInBounds_self_of_lt->Ug,getElem_mem->YV,isEmpty_iff->ag2,mem_append->Vx,range->XK,replicate->UT,size_append->YC,toList_map->W2
open BitVec renaming ofInt->Vj
open Bool renaming and_eq_true->Uh,false_eq_true->UD,false_or->Y_,not_eq_true'->U0,not_false->Yt,not_true->af'
open Classical renaming byContradiction->Uz
open Function renaming comp_def->Zy
open Go renaming Addr->WC,BinOp->Xf,Call->Ys,CallKind->Yh,Code->U_,Event->XH,Field->ZY,Frame->VR,Func->ZD,FuncId->UW,Goroutine->Tj,IntKind->U3,Item->ayk,LoopState->axk,Oper->Vo,Operand->Ur,PanicEntry->aw5,Program->Tl,ResultVar->ac',TypeInfo->Xp,Value->Uf,World->Uu
open Go.Act renaming put->Y8
open Go.Addr renaming add->ayc
open Go.Builtin renaming append_->WO,copy_->ayo,delete_->ayn,firstCells->WK,growBy->aj',lenOf->aym,len_->Zm,nextslicecap->X5,zeroCells->Yp
open Go.CallKind renaming early->Wl
open Go.Conc renaming QuitsD->Z8,seen_none->axm,served->U9
open Go.Deferred renaming ofValue->Wi
open Go.Event renaming mute->XG
open Go.Frame renaming catches->aw7,oper?->ZK,round->Yc
open Go.GStep renaming after->U8
open Go.Instr renaming checkKey->Wr,fill->axl,findKey->W6,index->axd,indexAt->au_,loadAt->YB,mapUpdate->an_,sameBits->XC,slice->axc,sliceAt->Zk,sliceBound->ai',sliceBounds->ad',storeAt->Zj,sureAddr->Wq,typeAssert->ai_
open Go.IntKind renaming bits->ax_,i64->Tg,signed->ax9,wrap->Yf
open Go.Item renaming plain->axw
open Go.MemAct renaming low_mono->ah',ofEvent->Uw
open Go.Next renaming value->X7
open Go.Obj renaming isChan->axE
open Go.Op renaming equal->XP,equalIn->WN,intArith->ayi,intDiv->axY,shift->ax8
open Go.Question renaming cut->am',forced->ax4
open Go.Region renaming binds->Zq,schedule->W4,wanted->Up
open Go.Region.linearise renaming go->VJ
open Go.Sem renaming events_pure->as_,runT->WW,runT_eq->UF,run_pure->axj
open Go.Value renaming bool->Yj,slice->UO,tuple->ZI
open Go.World renaming cell?->VC,frozen?->aw4,setCell->Yn
open Go.stepG renaming exec->Vg,oper->Z6
open Int renaming toNat_natCast->WU
open List renaming append_assoc->Te,append_nil->To,contains_eq_mem->Vw,countP_cons_of_neg->XT,countP_cons_of_pos->Xa,drop_drop->axL,drop_eq_getElem_cons->UY,drop_zero->YA,ext_getElem?->Zo,flatMap_cons->UV,foldl_cons->VO,getD_cons_zero->Yr,getD_eq_getElem?_getD->Tf,getElem?_append_left->T4,getElem?_append_right->Ud,getElem?_cons_succ->VP,getElem?_cons_zero->WF,getElem?_drop->Vs,getElem?_eq_getElem->Tw,getElem?_eq_some_iff->Tq,getElem?_map->Ut,getElem?_range->av',getElem?_set_ne->U6,getElem?_set_self->Yb,getElem?_take->Vm,getElem?_toArray->Wt,getElem_mem->W_,length_append->Tt,length_cons->Ve,length_drop->Vr,length_nil->VL,length_take->Ux,mapM_cons->Vb,mapM_nil->VH,mapM_toArray->Y3,map_congr_left->WR,map_cons->Wd,map_drop->axB,mem_cons->Tm,mem_cons_of_mem->Uj,mem_cons_self->UH,mem_filter->Vl,mem_filterMap->Xc,mem_iff_getElem?->VU,mem_of_getElem?->T8,mem_of_mem_take->W5,mem_range->UN,mem_toArray->UR,not_mem_nil->T7,range->T1,range'->Vd,range'_succ->W9,range_eq_range'->WE,reverse_nil->Y0,set_append_right->Va,set_set->Ya,singleton_append->Z4,take_length->Un,take_take->Wh,take_zero->Z'
open Nat renaming add_assoc->Wa,add_comm->axK,add_mul->Wu,add_zero->VA,le_of_eq->XI,le_refl->Ts,le_succ->Z3,le_trans->UK,lt_irrefl->axA,lt_of_lt_of_le->Uk,lt_trans->Xr,min_le_left->asg,mod_lt->ax3,mul_le_mul->avs,mul_le_mul_right->UI,mul_one->YE,ne_of_lt->Xg,strongRecOn->Zn,sub_zero->aw',zero_add->Xv,zero_le->YX,zero_mul->axJ
open Option renaming bind_eq_bind->UX,bind_eq_some_iff->Um,getD_none->WA,getD_some->Ua,map_eq_some_iff->Uv,map_some->VS,pure_def->Vk
open Option.some renaming inj->WV,injEq->Us
open Prod.mk renaming injEq->We
namespace Go.Gg
open Go.Conc
abbrev SE:=List Nat
abbrev SD:=List Int
abbrev cG:=Nat->Nat->Option Uf
abbrev C2:=Nat->Option Obj
abbrev Spec:=Uf->cG->C2->Prop
inductive nJ where
 |plain
 |fork (c Wg:Nat) (Ss:List (List Spec))
 |recv (c Wg:Nat) (Ss:List (List Spec))
 |work (c Wg:Nat) (S:List Spec)
def nJ.group:nJ->Option Nat
 |.fork _ Wg _=>some Wg
 |_=>none
def nJ.chan:nJ->Option Nat
 |.fork c _ _=>some c
 |_=>none
structure View where
 ai:cG
 own:C2
 deaf:Nat
 role:nJ
structure Sat (V:View)(w:Uu):Prop where
 ai:∀b o v,V.ai b o=some v->w.cell? ⟨b,o,none⟩=some v
 own:∀b x,V.own b=some x->w.heap[b]?=some x
def u9 (V:View)(n:Nat)(a:WC):Prop:=n<=a.block\/V.own a.block≠none\/V.ai a.block a.off≠none
def na (V:View)(n:Nat)(a:WC):Prop:=n<=a.block\/(V.own a.block≠none/\V.ai a.block a.off=none)
def nE (V:View)(n:Nat)(e:XH):Prop:=
 match e with
 |⟨.cell a,false,s⟩=>u9 V n a/\(s=true\/V.role.group≠some a.block)
 |⟨.cell a,true,s⟩=>na V n a/\(s=true\/V.role.group≠some a.block)
 |⟨.obj r,_,s⟩=>(s=false/\(n<=r\/V.own r≠none))/\V.role.chan≠some r
 |⟨.mark (.read a),_,_⟩=>na V n a
 |⟨.mark (.write a),_,_⟩=>na V n a
 |⟨.mark .disable,_,s⟩=>s=true
 |⟨.mark .enable,_,s⟩=>s=true
 |⟨.mark .noRoom,_,_⟩=>True
 |_=>False
structure du (V:View)(w:Uu)(V':View)(w':Uu)(es:Array XH):Prop where
 sat:Sat V' w'
 tape:w'.tape=w.tape
 os:w'.os=w.os
 output:w'.output=w.output
 size:w.heap.size<=w'.heap.size
 frame:∀b,b<w.heap.size->V.own b=none->w'.heap[b]?=w.heap[b]?
 own:∀b,b<w.heap.size->V.own b=none->V'.own b=none
 ai:∀b o v,V.ai b o=some v->V'.ai b o=some v
 kZ:∀b o v,V'.ai b o=some v->V.ai b o=some v\/V.own b≠none\/w.heap.size<=b
 fG:∀e∈es,nE V w.heap.size e
 deaf:V'.deaf=deafBehind V.deaf es
 role:V'.role=V.role
 chan:∀c x,V.role.chan=some c->V.own c=some x->V'.own c=some x
 low:∀e∈es,(Uw e).low w'.heap.size
structure ey (V V':View):Prop where
 sat:∀w,Sat V w->Sat V' w
 own:∀b,V.own b=none->V'.own b=none
 ai:∀b o v,V.ai b o=some v->V'.ai b o=some v
 kZ:∀b o v,V'.ai b o=some v->V.ai b o=some v\/V.own b≠none
 deaf:V'.deaf=V.deaf
 role:V'.role=V.role
 chan:∀c x,V.role.chan=some c->V.own c=some x->V'.own c=some x
def ey.refl(V:View):ey V V:=⟨λ_ h=>h,λ_ h=>h,λ_ _ _ h=>h,λ_ _ _ h=> .inl h,rfl,rfl,λ_ _ _ e=>e⟩
def ey.trans{V V' aV:View}(h:ey V V')(k:ey V' aV):ey V aV:=
 ⟨λw x=>k.sat w (h.sat w x),λb x=>k.own b (h.own b x),λb o v x=>k.ai b o v (h.ai b o v x),λb o v x=>(k.kZ b o v x).elim (λy=>h.kZ b o v y) (λy=> .inr λz=>y (h.own b z)),k.deaf.trans h.deaf,k.role.trans h.role,λc x e e'=>k.chan c x (by rw[h.role];exact e) (h.chan c x e e')⟩
def u9.sZ{V V':View}(g:ey V V'){n:Nat}{a:WC}(h:u9 V' n a):u9 V n a:=by
 rcases h with h|h|h
 ·exact .inl h
 ·exact .inr (.inl λe=>h (g.own _ e))
 ·cases e:V'.ai a.block a.off with
  |none=>exact absurd e h
  |some v=>exact(g.kZ _ _ _ e).elim (λx=> .inr (.inr (by rw[x];simp))) (λx=> .inr (.inl x))
def na.sZ{V V':View}(g:ey V V'){n:Nat}{a:WC}(h:na V' n a):na V n a:=by
 rcases h with h|⟨h,h'⟩
 ·exact .inl h
 ·refine .inr ⟨λe=>h (g.own _ e),?_⟩;cases e:V.ai a.block a.off with
  |none=>rfl
  |some v=>rw[g.ai _ _ _ e]at h';cases h'
def nE.sZ{V V':View}(g:ey V V'){n:Nat}{e:XH}(h:nE V' n e):nE V n e:=by
 unfold nE at h⊢;split at h
 ·exact⟨u9.sZ g h.1,by rw[<- g.role];exact h.2⟩
 ·exact⟨na.sZ g h.1,by rw[<- g.role];exact h.2⟩
 ·exact⟨⟨h.1.1,h.1.2.imp id λx y=>x (g.own _ y)⟩,by rw[<- g.role];exact h.2⟩
 ·exact na.sZ g h
 ·exact na.sZ g h
 ·exact h
 ·exact h
 ·trivial
 ·exact h.elim
abbrev SP:=Array XH
def du.sZ{V V₁ V':View}{w w':Uu}{es:SP}(g:ey V V₁)(h:du V₁ w V' w' es):du V w V' w' es:=
 ⟨h.sat,h.tape,h.os,h.output,h.size,λb hb e=>h.frame b hb (g.own b e),λb hb e=>h.own b hb (g.own b e),λb o v e=>h.ai b o v (g.ai b o v e),
  λb o v e=>(h.kZ b o v e).elim (λx=>(g.kZ b o v x).imp id .inl) (λx=> .inr (x.imp (λy z=>y (g.own b z)) id)),λe he=>nE.sZ g (h.fG e he),by rw[h.deaf,g.deaf],h.role.trans g.role,λc x e e'=>h.chan c x (by rw[g.role];exact e) (g.chan c x e e'),h.low⟩
def du.ghost{V V' aV:View}{w w':Uu}{es:SP}(h:du V w V' w' es)(g:ey V' aV):du V w aV w' es:=
 ⟨g.sat _ h.sat,h.tape,h.os,h.output,h.size,h.frame,λb hb e=>g.own b (h.own b hb e),λb o v e=>g.ai b o v (h.ai b o v e),
  λb o v e=>(g.kZ b o v e).elim (λx=>h.kZ b o v x) (λx=>by
   by_cases hb:b<w.heap.size
   ·exact .inr (.inl λy=>x (h.own b hb y))
   ·exact .inr (.inr (by omega))),h.fG,by rw[g.deaf,h.deaf],g.role.trans h.role,λc x e e'=>g.chan c x (by rw[h.role];exact e) (h.chan c x e e'),h.low⟩
def du.idle{V:View}{w:Uu}(h:Sat V w):du V w V w #[]:=
 ⟨h,rfl,rfl,rfl,Ts _,λ_ _ _=>rfl,λ_ _ e=>e,λ_ _ _ e=>e,λ_ _ _ e=> .inl e,by simp,rfl,rfl,λ_ _ _ e=>e,by simp⟩
def Sat.drew{V:View}{w:Uu}(h:Sat V w)(d:Nat):Sat V {w with drawn:=d}:=⟨h.ai,h.own⟩
def du.draw{V:View}{w:Uu}(h:Sat V w)(d:Nat):du V w V {w with drawn:=d} #[]:=
 ⟨h.drew d,rfl,rfl,rfl,Ts _,λ_ _ _=>rfl,λ_ _ e=>e,λ_ _ _ e=>e,λ_ _ _ e=> .inl e,by simp,rfl,rfl,λ_ _ _ e=>e,by simp⟩
def eE (Wg:Nat):WC:=⟨Wg,0,none⟩
def pz (Wg:Nat):WC:=⟨Wg,1,none⟩
def QB (P : Tl) : TypeId := ((P.types.findIdx? λi => match i.desc with | .named n _ => n == "sync.WaitGroup" | _ => false).getD 0)
def wgBlock (P:Tl)(st sm:Int):Obj:=.cells #[.int .u64 st,.int .u32 sm] (QB P)
def WgAt (P:Tl)(Wg:Nat)(w:Uu)(st sm:Int):Prop:=w.heap[Wg]?=some (wgBlock P st sm)
def KK:Int:=4294967296
def jy (a:WC):XH:=⟨.cell a,false,true⟩
def lA (a:WC):XH:=⟨.cell a,true,true⟩
def kz (m:Mark):XH:=⟨.mark m,false,true⟩
def Cq (a:WC):Array XH:=#[kz .disable,jy a,lA a,kz .enable]
abbrev S0:=Nat->Tj->Prop
def cY (P:Tl)(Stop:S0):Nat->Nat->Tj->Prop
 |0,d,g=>Stop d g
 |n+1,d,g=>Stop d g\/(g.status=.running/\∃g' es,(∀e∈es,XG e=true)/\(∀w,stepG P false g w=.go g' w es)/\cY P Stop n (deafBehind d es) g')
def iJ (P:Tl)(Wg:Nat)(Stop:S0):Nat->Nat->Tj->Prop
 |0,d,g=>Stop d g
 |n+1,d,g=>Stop d g\/(g.status=.running/\∃g' es,(∀e∈es,XG e=true)/\(∀w x y,WgAt P Wg w x y->stepG P false g w=.go g' w es)/\iJ P Wg Stop n (deafBehind d es) g')
section
variable (P:Tl)(Wg:Nat)
def Gd (d:Nat)(g:Tj):Prop:=d=1/\g.status=.running/\mayWake P g=true/\∃g',(∀w,WgAt P Wg w 0 0->stepG P false g w=.go g' (w.setCell (pz Wg) (.int .u32 1)) (Cq (pz Wg)))/\∃q,Z8 P q 1 g'
def Ge (d:Nat)(g:Tj):Prop:=d=1/\g.status=.running/\∃g',(∀w,WgAt P Wg w 1 0->stepG P false g w=.go g' (w.setCell (eE Wg) (.int .u64 0)) #[lA (eE Wg)])/\∃n,cY P (Gd P Wg) n 1 g'
def Gc (d:Nat)(g:Tj):Prop:=d=1/\g.status=.running/\∃g',(∀w,WgAt P Wg w 1 0->stepG P false g w=.go g' w #[jy (eE Wg)])/\∃n,cY P (Ge P Wg) n 1 g'
def CP (d:Nat)(g:Tj):Prop:=d=1/\g.status=.running/\∀v wt:Nat,wt<=1->v<4->∃g',(∀w,WgAt P Wg w (((v+1:Nat):Int)* KK+wt) 0->stepG P false g w=.go g' (w.setCell (eE Wg) (.int .u64 ((v:Int)* KK+wt))) #[jy (eE Wg),lA (eE Wg)])/\
 ((v=0/\wt=1)->∃n,cY P (Gc P Wg) n 1 g')/\(¬(v=0/\wt=1)->∃q,Z8 P q 1 g')
def Gl (g:Tj):Prop:=g.status=.running/\∃g',(∀w,stepG P false g w=.go g' w #[kz (.releaseMerge (eE Wg))])/\∃n,cY P (CP P Wg) n 0 g'
end
section
variable (P:Tl)(Im:cG)(c Wg:Nat)
def J9 (d:Nat)(g:Tj):Prop:=d=0/\g.status=.running/\mayWake P g=true/\∃g',(∀w s,w.heap[c]?=some (.chan 0 #[] false s s false)->stepG P false g w=.go g' {w with heap:=w.heap.setIfInBounds c (.chan 0 #[] true s s false)} #[⟨.obj c,false,true⟩,⟨.obj c,true,true⟩])/\∃q,Z8 P q 0 g'
def J' (d:Nat)(g:Tj):Prop:=d=0/\g.status=.running/\∃b o x g',Im b o=some x/\(∀w,w.cell? ⟨b,o,none⟩=some x->stepG P false g w=.go g' w #[⟨.cell ⟨b,o,none⟩,false,false⟩])/\∃n,cY P (J9 P c) n 0 g'
def uZ (d:Nat)(g:Tj):Prop:=d=0/\g.status=.running/\∃g',(∀w,stepG P false g w=.go g' w #[kz (.acquire (eE Wg))])/\∃n,cY P (J' P Im c) n 0 g'
def J_ (d:Nat)(g:Tj):Prop:=d=1/\g.status=.running/\∃g',(∀w,WgAt P Wg w 0 0->stepG P false g w=.go g' w #[jy (eE Wg)])/\∃n,iJ P Wg (uZ P Im c Wg) n 1 g'
def Gb (d:Nat)(g:Tj):Prop:=d=1/\g.status=.running/\g.offers=none/\(∀w st,WgAt P Wg w st 0->stepG P false g w=.go {g with status:=.blocked} w #[])/\
 ∃g',(∀w,WgAt P Wg w 0 1->stepG P false g w=.go g' (w.setCell (pz Wg) (.int .u32 0)) (Cq (pz Wg)))/\∃n,cY P (J_ P Im c Wg) n 1 g'
def Ga (d:Nat)(g:Tj):Prop:=d=1/\g.status=.running/\∃g',(∀w,stepG P false g w=.go g' w #[kz (.write (pz Wg))])/\∃n,cY P (Gb P Im c Wg) n 1 g'
def eZ:Nat->Nat->Tj->Prop
 |0,_,_=>False
 |k+1,d,g=>d=1/\g.status=.running/\∀v:Nat,v<=k->v<=4->∃g',(∀w,WgAt P Wg w ((v:Int)* KK) 0->stepG P false g w=.go g' w #[jy (eE Wg)])/\(v=0->∃n,iJ P Wg (uZ P Im c Wg) n 1 g')/\
  (v≠0->∃n,cY P (λd g=>d=1/\g.status=.running/\
   (∃g',(∀w,WgAt P Wg w ((v:Int)* KK) 0->stepG P false g w=.go g' (w.setCell (eE Wg) (.int .u64 ((v:Int)* KK+1))) #[jy (eE Wg),lA (eE Wg)])/\∃n,iJ P Wg (Ga P Im c Wg) n 1 g')/\
   (∀u:Nat,u<v->∃g',(∀w,WgAt P Wg w ((u:Int)* KK) 0->stepG P false g w=.go g' w #[jy (eE Wg)])/\∃n,cY P (eZ v) n 1 g')) n 1 g')
 termination_by k _ _=>k
def Kc (g:Tj):Prop:=∃n,cY P (eZ P Im c Wg 5) n 0 g
end
structure Av (P:Tl)(main:Bool)(J:View->Tj->Prop):Prop where
 step:∀V g,g.status=.running->(∀w,Sat V w->∃g' w' es V',stepG P main g w=.go g' w' es/\du V w V' w' es/\J V' g')->J V g
 ghost:∀V V' g,ey V V'->J V' g->J V g
 send:∀V g c Wg sp S v z (B:Nat->Bool),V.role=.work c Wg (sp::S)->V.deaf=0->g.status=.running->g.offers=none->
  (∀w,Sat V w->stepG P main g w=.comm g #[scase c v z] true .send w #[])->sp v V.ai (λb=>if B b then V.own b else none)->
  J {V with own:=λb=>if B b then none else V.own b,role:=.work c Wg S} (U9 g undef)->J V g
 done:∀V g c Wg,V.role=.work c Wg []->V.deaf=0->Gl P Wg g->J V g
 slip:∀V g g' c Wg,V.role=.work c Wg []->g.status=.running->(∀w st,Sat V w->WgAt P Wg w st 0->stepG P main g w=.go g' w #[])->J V g'->J V g
structure agf (P:Tl)(main:Bool)(J:View->Tj->Prop):Prop where
 start:∀V g c Wg,V.role=.plain->c≠Wg->V.own c=some (.chan 0 #[] false 0 0 false)->V.own Wg≠none->(∀o,V.ai Wg o=none)->J {V with role:=.fork c Wg []} g->J V g
 Hm:∀V g g' child c Wg Ss sp S,V.role=.fork c Wg Ss->V.deaf=0->g.status=.running->V.own c=some (.chan 0 #[] false 0 0 false)->V.own Wg=some (wgBlock P (((Ss.length+1:Nat):Int)* 4294967296) 0)->Ss.length<4->(∀o,V.ai Wg o=none)->
  (∀w,Sat V w->stepG P main g w=.spawn g' child w #[])->child.status=.running->
  (∀J0,Av P false J0->J0 {ai:=V.ai,own:=λ_=>none,deaf:=0,role:=.work c Wg (sp::S)} child)->
  J {V with role:=.fork c Wg (Ss++[sp::S])} g'->J V g
 Hl:∀V g g' child c Wg Ss,V.role=.fork c Wg Ss->V.deaf=0->g.status=.running->c≠Wg->V.own c=some (.chan 0 #[] false 0 0 false)->V.own Wg=some (wgBlock P (((Ss.length:Nat):Int)* 4294967296) 0)->(∀o,V.ai c o=none)->(∀o,V.ai Wg o=none)->
  (∀w,Sat V w->stepG P main g w=.spawn g' child w #[])->child.status=.running->Kc P V.ai c Wg child->
  J {V with own:=λb=>if b=c\/b=Wg then none else V.own b,role:=.recv c Wg Ss} g'->J V g
 recv:∀V g c Wg Ss z,V.role=.recv c Wg Ss->V.deaf=0->g.status=.running->g.offers=none->
  (∀w,Sat V w->stepG P main g w=.comm g #[rcase c z] true (.recv true) w #[])->
  (∀i sp S v Im Ow,Ss[i]?=some (sp::S)->sp v Im Ow->(∀b,V.own b≠none->Ow b=none)->(∀b o,V.own b≠none->Im b o≠none->V.ai b o≠none)->(∃w,Sat V w/\(∀b o x,Im b o=some x->w.cell? ⟨b,o,none⟩=some x)/\∀b x,Ow b=some x->w.heap[b]?=some x)->
   J {V with ai:=λb o=>match V.ai b o with|some x=>some x|none=>Im b o,own:=λb=>match V.own b with|some x=>some x|none=>Ow b,role:=.recv c Wg (Ss.set i S)} (U9 g (.tuple #[v,.bool true])))->
  ((∀S∈Ss,S=[])->J {V with role:=.plain} (U9 g (.tuple #[z,.bool false])))->J V g
structure Closed (lv:Bool)(P:Tl)(main:Bool)(J:View->Tj->Prop):Prop extends Av P main J where
 more:lv=true->agf P main J
abbrev SM:=View->Tj->Prop
def Closed.idle{lv:Bool}{P:Tl}{main:Bool}{J:SM}(C:Closed lv P main J){V:View}{g g':Tj}(hs:g.status=.running)(h:∀w,stepG P main g w=.go g' w #[]) (hJ:J V g'):J V g:=
 C.step V g hs λw hw=>⟨g',w,#[],V,h w,.idle hw,hJ⟩
abbrev SZ:=List ayk
def on (b:VR)(a:Act)(todo:SZ):VR:={b with tmps:=a.tmps,todo,defers:=a.defers,mode:=.run}
inductive Ex where
 |normal
 |exit (id:Nat)
 |goto (l:Nat)
 |ret
 |panic (chain:List aw5)
abbrev SX:=List VR
def qC (J:SM)(b:VR)(cs:SX)(a:Act)(V:View)(x:U_)(to:List ayk->Option (SZ))(k:SZ):Prop:=
 (∃k',to k=some k'/\J V (G (on b a k') cs))\/(to k=none/\∀k2,to k2=none->J V (G (on b a (.code x::k2)) cs))
def qC.under{J:SM}{b:VR}{cs:SX}{a:Act}{V:View}{x:U_}{to:List ayk->Option (SZ)}{k k2:SZ}(h:qC J b cs a V x to k)(e:to k2=to k):qC J b cs a V x to k2:=by
 rcases h with⟨k',h1,h2⟩|⟨h1,h2⟩
 ·exact .inl ⟨k',e.trans h1,h2⟩
 ·exact .inr ⟨e.trans h1,h2⟩
def adF:List ayk->Bool
 |.call .. ::_=>false
 |_=>true
def wQ (J:SM)(b:VR)(k:SZ)(cs:SX):Ex->Act->View->Prop
 |.normal,a,V=>J V (G (on b a k) cs)
 |.exit id,a,V=>qC J b cs a V (.exit id) (exitTo id) k
 |.goto l,a,V=>qC J b cs a V (.goto l) (gotoIn l) k
 |.ret,a,V=>∀k,J V (G (on b a (.code .ret::k)) cs)
 |.panic chain,a,V=>∀todo,adF todo=true->J V (G {on b a todo with mode:=.panicking chain} cs)
abbrev SJ:=Ex->Act->View->Prop
abbrev SL:=Option Nat
def WP (lv:Bool)(P:Tl)(r:SL)(c:U_)(Q:SJ)(a:Act)(V:View):Prop:=
 ∀(main:Bool)(J:SM),Closed lv P main J->∀(b:VR)(k:SZ)(cs:SX),b.kind≠ .early->b.roundOf=r->
  (∀e a' V',Q e a' V'->wQ J b k cs e a' V')->J V (G (on b a (.code c::k)) cs)
section steps
variable {P:Tl}{main:Bool}{b:VR}{a:Act}{k:SZ}{cs:SX}{w:Uu}
def asS:stepG P main (G (on b a (.code .skip::k)) cs) w=.go (G (on b a k) cs) w #[]:=by simp[G,stepG,Vg,on]
def asM{l:Nat}:stepG P main (G (on b a (.code (.label l)::k)) cs) w=.go (G (on b a k) cs) w #[]:=by simp[G,stepG,Vg,on]
def asJ{id:Nat}:stepG P main (G (on b a (.inBlock id::k)) cs) w=.go (G (on b a k) cs) w #[]:=by simp[G,stepG,Vg,on]
def asL{c:U_}:stepG P main (G (on b a (.inScope c::k)) cs) w=.go (G (on b a k) cs) w #[]:=by simp[G,stepG,Vg,on]
def aez{x y:U_}:stepG P main (G (on b a (.code (.seq x y)::k)) cs) w=.go (G (on b a (.code x:: .code y::k)) cs) w #[]:=by simp[G,stepG,Vg,on]
def Ja(b:VR)(a:Act)(todo:SZ)(x:Ur):(on b a todo).eval x=a.eval x:=by cases x<;>rfl
def aqM(b:VR)(a:Act)(todo:SZ):(on b a todo).eval=a.eval:=funext (Ja b a todo)
def s_cond{c:Ur}{x y:U_}{t:Bool}(h:a.eval c=.bool t):
  stepG P main (G (on b a (.code (.cond c x y)::k)) cs) w=.go (G (on b a (.code (if t then x else y)::k)) cs) w #[]:=by
 have h':(on b a (.code (.cond c x y)::k)).eval c=.bool t:=by rw[Ja];exact h
 simp only[on]at h';simp[G,stepG,Vg,on,h']
def asF{id:Nat}{c:U_}:stepG P main (G (on b a (.code (.block id c)::k)) cs) w=.go (G (on b a (.code c:: .inBlock id::k)) cs) w #[]:=by simp[G,stepG,Vg,on]
def asR{c:U_}:stepG P main (G (on b a (.code (.scope c)::k)) cs) w=.go (G (on b a (.code c:: .inScope c::k)) cs) w #[]:=by simp[G,stepG,Vg,on]
def asN{c:U_}:stepG P main (G (on b a (.code (.loop c)::k)) cs) w=.go (G (on b a (.code c:: .inLoop c::k)) cs) w #[]:=by simp[G,stepG,Vg,on]
def asK{c:U_}:stepG P main (G (on b a (.inLoop c::k)) cs) w=.go (G (on b a (.code c:: .inLoop c::k)) cs) w #[]:=by simp[G,stepG,Vg,on]
def s_exit{id:Nat}{k':SZ}(h:exitTo id k=some k'):stepG P main (G (on b a (.code (.exit id)::k)) cs) w=.go (G (on b a k') cs) w #[]:=by simp[G,stepG,Vg,on,h]
def asH{l:Nat}{k':SZ}(h:gotoIn l k=some k'):stepG P main (G (on b a (.code (.goto l)::k)) cs) w=.go (G (on b a k') cs) w #[]:=by simp[G,stepG,Vg,on,h]
abbrev SK:=Array Vo
def aey{id:Nat}{ops:SK}:stepG P main (G (on b a (.code (.region id ops false)::k)) cs) w=.go (G (on b a (.inRegion ops (T1 ops.size)::k)) cs) w #[]:=by simp[G,stepG,Vg,on]
def asG{id:Nat}{ops:SK}:stepG P main (G (on b a (.code (.region id ops true)::k)) cs) w=
  .go (G (on b a (.inRegion ops (W4 (P.follows .mixedOrders) ops (w.tape w.drawn (.order b.fn id)))::k)) cs) {w with drawn:=w.drawn+1} #[]:=by
 simp[G,stepG,Vg,on,choose,Sem.run,ax4,am']
def asQ{ops:SK}:stepG P main (G (on b a (.inRegion ops []::k)) cs) w=.go (G (on b a k) cs) w #[]:=by simp[G,stepG,Vg,on]
def FQ(h:b.roundOf=none):stepG P main (G (on b a (.code .ret::k)) cs) w=.go (G {on b a (.code .ret::k)with mode:=.returning} cs) w #[]:=by simp[G,stepG,Vg,on,h]
def FO(h:b.roundOf=none):stepG P main (G (on b a []) cs) w=.go (G {on b a []with mode:=.returning} cs) w #[]:=by simp[G,stepG,Vg,on,h]
end steps
section rules
variable {lv:Bool}{P:Tl}{r:SL}{Q:SJ}{a:Act}{V:View}
def WP.mono{c:U_}{Q':SJ}(h:WP lv P r c Q a V)(hq:∀e a V,Q e a V->Q' e a V):WP lv P r c Q' a V:=
 λmain J C b k cs hb hr hL=>h main J C b k cs hb hr λe a' V' q=>hL e a' V' (hq _ _ _ q)
def WP.ghost{c:U_}{V':View}(g:ey V V')(h:WP lv P r c Q a V'):WP lv P r c Q a V:=
 λmain J C b k cs hb hr hL=>C.ghost _ _ _ g (h main J C b k cs hb hr hL)
def wp_skip(h:Q .normal a V):WP lv P r .skip Q a V:=λ_ _ C _ _ _ _ _ hL=>C.idle rfl (λ_=>asS) (hL _ _ _ h)
def wp_label{l:Nat}(h:Q .normal a V):WP lv P r (.label l) Q a V:=λ_ _ C _ _ _ _ _ hL=>C.idle rfl (λ_=>asM) (hL _ _ _ h)
def acV{main:Bool}{J:SM}(C:Closed lv P main J){b:VR}{cs:SX}{a:Act}{V:View}{id:Nat}{k:SZ}(h:qC J b cs a V (.exit id) (exitTo id) k):J V (G (on b a (.code (.exit id)::k)) cs):=
 h.elim (λ⟨_,hk,hJ⟩=>C.idle rfl (λ_=>s_exit hk) hJ) (λ⟨hk,hJ⟩=>hJ k hk)
def aoH{main:Bool}{J:SM}(C:Closed lv P main J){b:VR}{cs:SX}{a:Act}{V:View}{l:Nat}{k:SZ}(h:qC J b cs a V (.goto l) (gotoIn l) k):J V (G (on b a (.code (.goto l)::k)) cs):=
 h.elim (λ⟨_,hk,hJ⟩=>C.idle rfl (λ_=>asH hk) hJ) (λ⟨hk,hJ⟩=>hJ k hk)
def wp_exit{id:Nat}(h:Q (.exit id) a V):WP lv P r (.exit id) Q a V:=λ_ _ C _ _ _ _ _ hL=>acV C (hL _ _ _ h)
def wp_ret(h:Q .ret a V):WP lv P r .ret Q a V:=λ_ _ _ _ k _ _ _ hL=>hL _ _ _ h k
abbrev S4:=Act->View->Prop
def Ex.then (next:S4)(Q:SJ):Ex->Act->View->Prop
 |.normal,a,V=>next a V
 |e,a,V=>Q e a V
def wQ.under{J:SM}{b:VR}{k:SZ}{cs:SX}{x:ayk}(hx:x.plain=true){e:Ex}(he:e≠ .normal){a:Act}{V:View}(h:wQ J b k cs e a V):wQ J b (x::k) cs e a V:=by
 cases e with
 |normal=>exact absurd rfl he
 |exit id=>exact qC.under h (by cases x<;>simp_all[exitTo,axw])
 |goto l=>exact qC.under h (by cases x<;>simp_all[gotoIn,axw])
 |ret=>exact h
 |panic ch=>exact h
def wp_seq{x y:U_}(h:WP lv P r x (Ex.then (WP lv P r y Q) Q) a V):WP lv P r (.seq x y) Q a V:=by
 intro main J C b k cs hb hr hL;refine C.idle rfl (λ_=>aez) (h main J C b (.code y::k) cs hb hr λe a' V' q=> ?_);cases e with
 |normal=>exact q main J C b k cs hb hr hL
 |exit id=>exact(hL _ _ _ q).under rfl (by simp)
 |goto l=>exact(hL _ _ _ q).under rfl (by simp)
 |ret=>exact(hL _ _ _ q).under rfl (by simp)
 |panic ch=>exact(hL _ _ _ q).under rfl (by simp)
def wp_cond{c:Ur}{x y:U_}{t:Bool}(hc:a.eval c=.bool t)(h:WP lv P r (if t then x else y) Q a V):WP lv P r (.cond c x y) Q a V:=
 λmain J C b k cs hb hr hL=>C.idle rfl (λ_=>s_cond hc) (h main J C b k cs hb hr hL)
def Ex.inBlock (id:Nat)(Q:SJ):Ex->Act->View->Prop
 |.exit pj,a,V=>if pj=id then Q .normal a V else Q (.exit pj) a V
 |e,a,V=>Q e a V
def wp_block{id:Nat}{c:U_}(h:WP lv P r c (Ex.inBlock id Q) a V):WP lv P r (.block id c) Q a V:=by
 intro main J C b k cs hb hr hL;refine C.idle rfl (λ_=>asF) (h main J C b (.inBlock id::k) cs hb hr λe a' V' q=> ?_);cases e with
 |normal=>exact C.idle rfl (λ_=>asJ) (hL _ _ _ q)
 |exit pj=>
  by_cases cg:pj=id
  ·simp only[Ex.inBlock,cg,if_true]at q;exact .inl ⟨k,by simp[exitTo,cg],hL _ _ _ q⟩
  ·simp only[Ex.inBlock,cg,if_false]at q;have:(id==pj)=false:=(by simp;exactλh=>cg h.symm);exact qC.under (hL _ _ _ q) (by simp[exitTo,this])
 |goto l=>exact qC.under (hL _ _ _ q) (by simp[gotoIn])
 |ret=>exact hL _ _ _ q
 |panic ch=>exact hL _ _ _ q
def QJ{α:Type}{lt:α->α->Prop}(wf:WellFounded lt){c:U_}(I:α->S4)(m:α)(h₀:I m a V)
  (round:∀m a V,I m a V->WP lv P r c (Ex.then (λa' V'=>∃m',lt m' m/\I m' a' V') Q) a V):WP lv P r (.loop c) Q a V:=by
 intro main J C b k cs hb hr hL;have key:∀m a V,I m a V->J V (G (on b a (.code c:: .inLoop c::k)) cs):=by
  intro m;induction m using wf.induction with
  |_ m ih=>
   intro a V hI;refine round m a V hI main J C b (.inLoop c::k) cs hb hr λe a' V' q=> ?_;cases e with
   |normal=>obtain⟨m',hlt,hI'⟩:=q;exact C.idle rfl (λ_=>asK) (ih m' hlt a' V' hI')
   |exit id=>exact(hL _ _ _ q).under rfl (by simp)
   |goto l=>exact(hL _ _ _ q).under rfl (by simp)
   |ret=>exact(hL _ _ _ q).under rfl (by simp)
   |panic ch=>exact(hL _ _ _ q).under rfl (by simp)
 exact C.idle rfl (λ_=>asN) (key m a V h₀)
def wp_loop{c:U_}(I:Nat->S4)(m:Nat)(h₀:I m a V)
  (round:∀m a V,I m a V->WP lv P r c (Ex.then (λa' V'=>∃m',m'<m/\I m' a' V') Q) a V):WP lv P r (.loop c) Q a V:=
 QJ Nat.lt_wfRel.wf I m h₀ round
def af8{c:U_}(I:Nat->Nat->S4)
  (start:∃n:Nat,WP lv P r c (λe a V=>match e with
   |.goto l=>∃rest,findLabel c l=some rest/\∃m,m<n/\I l m a V
   |e=>Q e a V) a V)
  (back:∀l rest m a V,findLabel c l=some rest->I l m a V->WP lv P r rest (λe a V=>match e with
   |.goto l'=>∃Ab,findLabel c l'=some Ab/\∃m',m'<m/\I l' m' a V
   |e=>Q e a V) a V):WP lv P r (.scope c) Q a V:=by
 intro main J C b k cs hb hr hL;have land:∀(n:Nat),(∀l rest m a V,m<n->findLabel c l=some rest->I l m a V->J V (G (on b a (.code rest:: .inScope c::k)) cs))->
   ∀e a' V',(match e with
   |.goto l=>∃rest,findLabel c l=some rest/\∃m,m<n/\I l m a' V'
   |e=>Q e a' V')->wQ J b (.inScope c::k) cs e a' V':=by
  intro n hn e a' V' q;cases e with
  |normal=>exact C.idle rfl (λ_=>asL) (hL _ _ _ q)
  |exit id=>exact qC.under (hL _ _ _ q) (by simp[exitTo])
  |goto l=>
   obtain⟨rest,hf,m,hm,hI⟩:=q;exact .inl ⟨_,by simp[gotoIn,hf],hn l rest m a' V' hm hf hI⟩
  |ret=>exact hL _ _ _ q
  |panic ch=>exact hL _ _ _ q
 have key:∀n l rest m a V,m<n->findLabel c l=some rest->I l m a V->J V (G (on b a (.code rest:: .inScope c::k)) cs):=by
  intro n;induction n with
  |zero=>intro _ _ _ _ _ h;omega
  |succ n ih=>
   intro l rest m a V hm hf hI;exact back l rest m a V hf hI main J C b (.inScope c::k) cs hb hr (land m λl' Ab m' a' V' h'=>ih l' Ab m' a' V' (by omega))
 obtain⟨n,hn⟩:=start;exact C.idle rfl (λ_=>asR) (hn main J C b (.inScope c::k) cs hb hr (land n (key n)))
end rules
open Go.Conc
def View.get (V:View)(b o:Nat):Option Uf:=
 match V.ai b o with
 |some v=>some v
 |none=>match V.own b with
  |some (.cells c _ _)=>c[o]?
  |_=>none
def View.upd (V:View)(b:Nat)(x:Obj):View:={V with own:=λb'=>if b'=b then some x else V.own b'}
def View.fresh (V:View)(b:Nat):Prop:=V.own b=none/\∀o,V.ai b o=none
def Sat.get{V:View}{w:Uu}(h:Sat V w){b o:Nat}{v:Uf}(e:V.get b o=some v):w.cell? ⟨b,o,none⟩=some v:=by
 unfold View.get at e;split at e
 ·rename_i v' hv;cases e;exact h.ai _ _ _ hv
 ·split at e
  ·rename_i c el f ho;have:=h.own _ _ ho;simpa[VC,this]using e
  ·cases e
def Sat.lt{V:View}{w:Uu}(h:Sat V w){b:Nat}{x:Obj}(e:V.own b=some x):b<w.heap.size:=by
 have:=h.own _ _ e;exact(T5.1 this).1
def Sat.Fa{V:View}{w:Uu}(h:Sat V w){b o:Nat}{v:Uf}(e:V.ai b o=some v):b<w.heap.size:=by
 have:=h.ai _ _ _ e;unfold VC at this;split at this
 ·rename_i hh;exact(T5.1 hh).1
 ·cases this
def Sat.fresh{V:View}{w:Uu}(h:Sat V w){b:Nat}(hb:w.heap.size<=b):V.fresh b:=
 ⟨by cases e:V.own b with
  |none=>rfl
  |some x=>have:=h.lt e;omega,λo=>by
  cases e:V.ai b o with
  |none=>rfl
  |some x=>have:=h.Fa e;omega⟩
def Sat.e_{V:View}{w:Uu}(h:Sat V w){b o:Nat}{v:Uf}(e:V.get b o=some v):b<w.heap.size:=by
 have:=h.get e;unfold VC at this;split at this
 ·rename_i hh;exact(T5.1 hh).1
 ·cases this
def u9.zY{V V₁:View}{w w₁:Uu}{es:SP}(s:du V w V₁ w₁ es){a:WC}(h:u9 V₁ w₁.heap.size a):u9 V w.heap.size a:=by
 rcases h with h|h|h
 ·exact .inl (UK s.size h)
 ·by_cases hb:a.block<w.heap.size
  ·exact .inr (.inl λe=>h (s.own _ hb e))
  ·exact .inl (by omega)
 ·cases e:V₁.ai a.block a.off with
  |none=>exact absurd e h
  |some v=>
   rcases s.kZ _ _ _ e with x|x|x
   ·exact .inr (.inr (by rw[x];simp))
   ·exact .inr (.inl x)
   ·exact .inl x
def na.zY{V V₁:View}{w w₁:Uu}{es:SP}(s:du V w V₁ w₁ es){a:WC}(h:na V₁ w₁.heap.size a):na V w.heap.size a:=by
 rcases h with h|⟨h,h'⟩
 ·exact .inl (UK s.size h)
 ·by_cases hb:a.block<w.heap.size
  ·refine .inr ⟨λe=>h (s.own _ hb e),?_⟩;cases e:V.ai a.block a.off with
   |none=>rfl
   |some v=>rw[s.ai _ _ _ e]at h';cases h'
  ·exact .inl (by omega)
def nE.zY{V V₁:View}{w w₁:Uu}{es:SP}(s:du V w V₁ w₁ es){e:XH}(h:nE V₁ w₁.heap.size e):nE V w.heap.size e:=by
 unfold nE at h⊢;split at h
 ·exact⟨u9.zY s h.1,by rw[<- s.role];exact h.2⟩
 ·exact⟨na.zY s h.1,by rw[<- s.role];exact h.2⟩
 ·refine⟨⟨h.1.1,?_⟩,by rw[<- s.role];exact h.2⟩;rename_i r _ _;rcases h.1.2 with x|x
  ·exact .inl (UK s.size x)
  ·by_cases hb:r<w.heap.size
   ·exact .inr λy=>x (s.own _ hb y)
   ·exact .inl (by omega)
 ·exact na.zY s h
 ·exact na.zY s h
 ·exact h
 ·exact h
 ·trivial
 ·exact h.elim
def K1(d:Nat)(x y:SP):deafBehind d (x++y)=deafBehind (deafBehind d x) y:=by
 simp[deafBehind]
def du.trans{V V₁ V₂:View}{w w₁ w₂:Uu}{es vq:SP}(s:du V w V₁ w₁ es)(s':du V₁ w₁ V₂ w₂ vq):du V w V₂ w₂ (es++vq):=
 ⟨s'.sat,s'.tape.trans s.tape,s'.os.trans s.os,s'.output.trans s.output,UK s.size s'.size,
  λb hb e=>(s'.frame b (Uk hb s.size) (s.own b hb e)).trans (s.frame b hb e),λb hb e=>s'.own b (Uk hb s.size) (s.own b hb e),
  λb o v e=>s'.ai b o v (s.ai b o v e),λb o v e=>by
   rcases s'.kZ b o v e with x|x|x
   ·exact s.kZ b o v x
   ·by_cases hb:b<w.heap.size
    ·exact .inr (.inl λy=>x (s.own b hb y))
    ·exact .inr (.inr (by omega))
   ·exact .inr (.inr (UK s.size x)),
  λe he=>(Vx.1 he).elim (s.fG e) (λh=>(s'.fG e h).zY s),by rw[s'.deaf,s.deaf,K1],s'.role.trans s.role,λc x e e'=>s'.chan c x (by rw[s.role];exact e) (s.chan c x e e'),
  λe he=>(Vx.1 he).elim (λx=>ah' s'.size (s.low e x)) (s'.low e)⟩
def gn (es:SP):Array XH:=es.filter λe=>match e.loc with|.mark (.extern _)=>false|_=>true
abbrev SS:=Uf->View->Prop
def aU (P:Tl){α:Type}(V:View)(s:Sem α)(K:α->View->Prop)(Kp:SS):Prop:=
 ∀w,Sat V w->∀fw,∃es w' V',du V w V' w' (gn es)/\
  ((∃x,s.runT P w fw=(.ok x w',fw++es)/\K x V')\/(∃v,s.runT P w fw=(.halt (.panic v) w',fw++es)/\Kp v V'))
section
variable {P:Tl}{α β:Type}{V:View}{K:α->View->Prop}{Kp:SS}
def O_(x y:SP):gn (x++y)=gn x++gn y:=by simp[gn]
def aU.mono{s:Sem α}{K':α->View->Prop}{QW:SS}(h:aU P V s K Kp)(hk:∀x V,K x V->K' x V)(hp:∀x V,Kp x V->QW x V):aU P V s K' QW:=λw hw fw=>
 let⟨es,w',V',h1,h2⟩:=h w hw fw
 ⟨es,w',V',h1,h2.imp (λ⟨x,a,b⟩=>⟨x,a,hk _ _ b⟩) (λ⟨x,a,b⟩=>⟨x,a,hp _ _ b⟩)⟩
def aU.ghost{s:Sem α}{V':View}(g:ey V V')(h:aU P V' s K Kp):aU P V s K Kp:=λw hw fw=>
 let⟨es,w',V',h1,h2⟩:=h w (g.sat w hw) fw
 ⟨es,w',V',h1.sZ g,h2⟩
def aU.cont{s:Sem α}(h:∀w,Sat V w->∃es w' V' s',du V w V' w' (gn es)/\(∀fw,s.runT P w fw=s'.runT P w' (fw++es))/\aU P V' s' K Kp):aU P V s K Kp:=by
 intro w hw fw;obtain⟨es,w',V',s',h1,h2,h3⟩:=h w hw;obtain⟨vq,Qz,aV,h4,h5⟩:=h3 w' h1.sat (fw++es);refine⟨es++vq,Qz,aV,by rw[O_];exact h1.trans h4,?_⟩;rw[h2,<- Yv];exact h5
def cN{x:α}(h:K x V):aU P V (.pure x) K Kp:=λw hw fw=>⟨#[],w,V,by simpa[gn]using du.idle hw,.inl ⟨x,by simp[-UF,WW],h⟩⟩
def ay{x:α}(h:K x V):aU P V (pure x) K Kp:=cN h
def atc{v:Uf}(h:Kp v V):aU P V (.halt (.panic v):Sem α) K Kp:=λw hw fw=>⟨#[],w,V,by simpa[gn]using du.idle hw,.inr ⟨v,by simp[-UF,WW],h⟩⟩
def uJ{e:XH}(h:∀f,e.loc≠ .mark (.extern f)):gn #[e]=#[e]:=by
 unfold gn;have:(match e.loc with|.mark (.extern _)=>false|_=>true)=true:=by
  split
  ·rename_i f hf;exact absurd hf (h f)
  ·rfl
 simp[Array.filter]
def Se(d:Nat)(a:WC)(wr s:Bool):deafBehind d #[⟨.cell a,wr,s⟩]=d:=by simp[deafBehind]
def Sf(d:Nat)(a:Nat)(wr s:Bool):deafBehind d #[⟨.obj a,wr,s⟩]=d:=by simp[deafBehind]
def P4{m:Mode}{b o:Nat}{v:Uf}{k:Uf->Sem α}(e:V.get b o=some v)(kG:V.role.group≠some b\/m=.atomic)(h:aU P V (k v) K Kp):aU P V (.load m ⟨b,o,none⟩ k) K Kp:=by
 refine .cont λw hw=>⟨#[⟨.cell ⟨b,o,none⟩,false,m== .atomic⟩],w,V,k v,?_,λfw=> ?_,h⟩
 ·rw[uJ (by simp)];refine⟨hw,rfl,rfl,rfl,Ts _,λ_ _ _=>rfl,λ_ _ e=>e,λ_ _ _ e=>e,λ_ _ _ e=> .inl e,λev cq=> ?_,by rw[Se],rfl,λ_ _ _ e=>e,λev cq=>by simp at cq;subst cq;exact hw.e_ e⟩;simp only[UR,Tm,T7,or_false]at cq;subst cq;refine⟨.inr ?_,kG.elim .inr (λx=> .inl (by subst x;rfl))⟩;show V.own b≠none\/V.ai b o≠none;unfold View.get at e;split at e
  ·rename_i hv;exact .inr (by rw[hv];simp)
  ·split at e
   ·rename_i hv;exact .inl (by rw[hv];simp)
   ·cases e
 ·simp[-UF,WW,hw.get e]
def _root_.Go.Value.one:Uf->Bool
 |.agg _|.tuple _=>false
 |_=>true
abbrev SG:=Array Uf
def Sat.afV{V:View}{w:Uu}(h:Sat V w){b o:Nat}{v:Uf}{c:SG}{el:TypeId}{f:Nat×Nat}(ho:V.own b=some (.cells c el f))(hi:V.ai b o=none):
  Sat (V.upd b (.cells (c.setIfInBounds o v) el f)) (w.setCell ⟨b,o,none⟩ v):=by
 have hb:=h.own _ _ ho;have hlt:=h.lt ho;have hm:(w.setCell ⟨b,o,none⟩ v).heap=w.heap.setIfInBounds b (.cells (c.setIfInBounds o v) el f):=by
  unfold Yn;apply Array.ext_getElem?;intro i;by_cases cI:b=i
  ·subst cI;rw[Xn,Ug hlt];simp[hb]
  ·simp[Xn,cI,T6 cI]
 refine⟨λb' o' v' e=> ?_,λb' x e=> ?_⟩
 ·have:=h.ai _ _ _ e;simp only[View.upd]at e;by_cases Bm:b=b'
  ·subst Bm;have BG:o≠o':=(by intro x;subst x;rw[hi]at e;cases e);simp only[VC,hb]at this;simp only[VC,hm,Ug hlt,T6 BG];exact this
  ·simp only[VC,hm,T6 Bm];exact this
 ·simp only[View.upd]at e;rw[hm];by_cases Bm:b'=b
  ·subst Bm;simp at e;rw[Ug hlt,e]
  ·simp only[Bm,if_false]at e;rw[T6 (Ne.symm Bm)];exact h.own _ _ e
def FV(w:Uu)(a:WC)(v:Uf):(w.setCell a v).heap.size=w.heap.size:=by simp[Yn]
def xz(w:Uu)(a:WC)(v:Uf){b:Nat}(h:a.block≠b):(w.setCell a v).heap[b]?=w.heap[b]?:=by simp[Yn,Xn,h]
def ate{m:Mode}{b o:Nat}{v:Uf}{k:Sem α}{c:SG}{el:TypeId}{lo hi:Nat}(ho:V.own b=some (.cells c el (lo,hi)))(ce:o<c.size)(cI:V.ai b o=none)(hv:v.one=true)
  (hf:¬(lo<=o/\o<hi)) (kG:V.role.group≠some b\/m=.atomic) (M3:V.role.chan≠some b) (h:aU P (V.upd b (.cells (c.setIfInBounds o v) el (lo,hi))) k K Kp):aU P V (.store m ⟨b,o,none⟩ v k) K Kp:=by
 refine .cont λw hw=>⟨#[⟨.cell ⟨b,o,none⟩,true,m== .atomic⟩],w.setCell ⟨b,o,none⟩ v,_,k,?_,λfw=> ?_,h⟩
 ·rw[uJ (by simp)];refine⟨hw.afV ho cI,rfl,rfl,rfl,by rw[FV];exact Ts _,λb' dO e=>xz _ _ _ (λx=> ?_),λb' dO e=> ?_,λ_ _ _ e=>e,λ_ _ _ e=> .inl e,λev cq=> ?_,by rw[Se];rfl,rfl,λc' x bw e=>by rw[<- e];simp only[View.upd,ite_eq_right_iff];intro x';subst x';exact absurd bw M3,λev cq=>by simp at cq;subst cq;show b<_;rw[FV];exact hw.lt ho⟩
  ·have x':b=b':=x;subst x';rw[ho]at e;cases e
  ·have:b'≠b:=(by intro x;subst x;rw[ho]at e;cases e);simp only[View.upd,this,if_false];exact e
  ·simp only[UR,Tm,T7,or_false]at cq;subst cq;exact⟨.inr ⟨by show V.own b≠none;rw[ho];simp,cI⟩,kG.elim .inr (λx=> .inl (by subst x;rfl))⟩
 ·have hc:w.cell? ⟨b,o,none⟩=some c[o]:=by simp[VC,hw.own _ _ ho,ce]
  have hfz:w.frozen? ⟨b,o,none⟩=false:=by
   simp only[aw4,hw.own _ _ ho];simpa using hf
  cases v<;>simp_all[-UF,WW,Value.one]
def py{x:Obj}{k:Nat->Sem α}(h:∀r,V.fresh r->aU P (V.upd r x) (k r) K Kp):aU P V (.new x k) K Kp:=by
 refine .cont λw hw=>⟨#[],{w with heap:=w.heap.push x},V.upd w.heap.size x,k w.heap.size,?_,λfw=>by simp[-UF,WW],h _ (hw.fresh (Ts _))⟩;have ik:=hw.fresh (Ts w.heap.size);have aF:∀{b y},V.own b=some y->b≠w.heap.size:=λe x=>by rw[x,ik.1]at e;cases e
 refine⟨⟨λb o v e=> ?_,λb y e=> ?_⟩,rfl,rfl,rfl,by simp,λb hb _=> ?_,λb hb e=> ?_,λ_ _ _ e=>e,λ_ _ _ e=> .inl e,by simp[gn],rfl,rfl,λc' x bw e=>by rw[<- e];simp only[View.upd,ite_eq_right_iff];intro x';exact absurd x' (aF e),by simp[gn]⟩
 ·have hlt:=hw.Fa e;have:=hw.ai _ _ _ e;simp only[VC,Zz hlt]at this⊢;simpa[VC,hlt]using this
 ·simp only[View.upd]at e;by_cases hb:b=w.heap.size
  ·subst hb;simp at e;simp[e]
  ·simp only[hb,if_false]at e;have:=hw.own _ _ e;have hlt:=hw.lt e;simp only[Zz hlt];simpa[hlt]using this
 ·simp[Yl,Xg hb]
 ·simp only[View.upd,Xg hb,if_false];exact e
def aeJ{q:Question}{k:Nat->Sem α}(h0:q.forced=true->aU P V (k 0) K Kp)(h:q.forced=false->∀t,aU P V (k (q.cut t)) K Kp):aU P V (.choose q k) K Kp:=by
 cases hf:q.forced with
 |true=>exact .cont λw hw=>⟨#[],w,V,k 0,by simpa[gn]using du.idle hw,λfw=>by simp[-UF,WW,hf],h0 hf⟩
 |false=>exact .cont λw hw=>⟨#[],{w with drawn:=w.drawn+1},V,_,by simpa[gn]using du.draw hw (w.drawn+1),λfw=>by simp[-UF,WW,hf],h hf (w.tape w.drawn q)⟩
def rD{k:Tl->Sem α}(h:aU P V (k P) K Kp):aU P V (.program k) K Kp:=
 .cont λw hw=>⟨#[],w,V,k P,by simpa[gn]using du.idle hw,λfw=>by simp[-UF,WW],h⟩
def atb{k:Sem α}(h:aU P V k K Kp):aU P V (.mark .noRoom k) K Kp:=
 .cont λw hw=>⟨#[⟨.mark .noRoom,false,true⟩],w,V,k,by
  rw[uJ (by simp)];exact⟨hw,rfl,rfl,rfl,Ts _,λ_ _ _=>rfl,λ_ _ e=>e,λ_ _ _ e=>e,λ_ _ _ e=> .inl e,λev cq=>by simp at cq;subst cq;trivial,by simp[deafBehind],rfl,λ_ _ _ e=>e,λev cq=>by simp at cq;subst cq;trivial⟩,
  λfw=>by simp[-UF,WW],h⟩
def ata{m:Mark}{k:Sem α}(hm:m=.disable\/m=.enable)(h:aU P {V with deaf:=deafBehind V.deaf #[⟨.mark m,false,true⟩]} k K Kp):aU P V (.mark m k) K Kp:=
 .cont λw hw=>⟨#[⟨.mark m,false,true⟩],w,_,k,by
  rw[uJ (by rcases hm with rfl|rfl<;>simp)];exact⟨⟨hw.ai,hw.own⟩,rfl,rfl,rfl,Ts _,λ_ _ _=>rfl,λ_ _ e=>e,λ_ _ _ e=>e,λ_ _ _ e=> .inl e,λev cq=>by simp at cq;subst cq;rcases hm with rfl|rfl<;>rfl,rfl,rfl,λ_ _ _ e=>e,λev cq=>by simp at cq;subst cq;rcases hm with rfl|rfl<;>trivial⟩,
  λfw=>by simp[-UF,WW],h⟩
def atd{m:Mark}{a:WC}{k:Sem α}(hm:m=.read a\/m=.write a)(ha:V.own a.block≠none/\V.ai a.block a.off=none)(h:aU P V k K Kp):aU P V (.mark m k) K Kp:=
 .cont λw hw=>⟨#[⟨.mark m,false,true⟩],w,_,k,by
  rw[uJ (by rcases hm with rfl|rfl<;>simp)];exact⟨⟨hw.ai,hw.own⟩,rfl,rfl,rfl,Ts _,λ_ _ _=>rfl,λ_ _ e=>e,λ_ _ _ e=>e,λ_ _ _ e=> .inl e,λev cq=>by simp at cq;subst cq;rcases hm with rfl|rfl<;>exact .inr ha,
   by rcases hm with rfl|rfl<;>simp[deafBehind],rfl,λ_ _ _ e=>e,λev cq=>by
    simp at cq;subst cq;have:a.block<w.heap.size:=by
     cases e:V.own a.block with
     |none=>exact absurd e ha.1
     |some y=>exact hw.lt e
    rcases hm with rfl|rfl<;>exact this⟩,
  λfw=>by simp[-UF,WW],h⟩
def _root_.Go.Obj.wi:Obj->Bool
 |.cells .. =>true
 |_=>false
def oH{r:Nat}{x:Obj}{k:Obj->Sem α}(ho:V.own r=some x)(hx:x.wi=false)(hc:x.isChan=false)(kG:V.role.chan≠some r)(h:aU P V (k x) K Kp):aU P V (.getObj r k) K Kp:=
 .cont λw hw=>⟨#[⟨.obj r,false,false⟩],w,V,k x,by
  rw[uJ (by simp)];exact⟨hw,rfl,rfl,rfl,Ts _,λ_ _ _=>rfl,λ_ _ e=>e,λ_ _ _ e=>e,λ_ _ _ e=> .inl e,λev cq=>by simp at cq;subst cq;exact⟨⟨rfl,.inr (by rw[ho];simp)⟩,kG⟩,by rw[Sf],rfl,λ_ _ _ e=>e,λev cq=>by simp at cq;subst cq;exact hw.lt ho⟩,
  λfw=>by
   have:=hw.own _ _ ho;cases x<;>simp_all[-UF,WW,Obj.wi,axE],h⟩
def Sat.avc{V:View}{w:Uu}(h:Sat V w){r:Nat}{x y:Obj}(ho:V.own r=some x)(hx:x.wi=false):Sat (V.upd r y) {w with heap:=w.heap.setIfInBounds r y}:=by
 have hlt:=h.lt ho;refine⟨λb o v e=> ?_,λb z e=> ?_⟩
 ·have:=h.ai _ _ _ e;have hb:r≠b:=by
   intro e';subst e';simp only[VC,h.own _ _ ho]at this;cases x<;>simp_all[Obj.wi]
  simp only[VC,T6 hb]at this⊢;exact this
 ·simp only[View.upd]at e;by_cases hb:b=r
  ·subst hb;simp at e;simp[hlt,e]
  ·simp only[hb,if_false]at e;simp only[T6 (Ne.symm hb)];exact h.own _ _ e
def Ae{r:Nat}{x y:Obj}{k:Sem α}(ho:V.own r=some x)(hx:x.wi=false)(hy:y.isChan=false)(kG:V.role.chan≠some r)(h:aU P (V.upd r y) k K Kp):aU P V (.setObj r y k) K Kp:=
 .cont λw hw=>⟨#[⟨.obj r,true,false⟩],{w with heap:=w.heap.setIfInBounds r y},_,k,by
  rw[uJ (by simp)];refine⟨hw.avc ho hx,rfl,rfl,rfl,by simp,λb hb e=> ?_,λb hb e=> ?_,λ_ _ _ e=>e,λ_ _ _ e=> .inl e,λev cq=>by simp at cq;subst cq;exact⟨⟨rfl,.inr (by rw[ho];simp)⟩,kG⟩,by rw[Sf];rfl,rfl,λc' x bw e=>by rw[<- e];simp only[View.upd,ite_eq_right_iff];intro x';subst x';exact absurd bw kG,λev cq=>by simp at cq;subst cq;show r<_;simp;exact hw.lt ho⟩
  ·exact T6 (λx'=>by subst x';rw[ho]at e;cases e)
  ·have:b≠r:=(by intro x';subst x';rw[ho]at e;cases e);simp only[View.upd,this,if_false];exact e,
  λfw=>by
   have:=hw.own _ _ ho;cases x<;>simp_all[-UF,WW,Obj.wi,axE],h⟩
def as1{s:Sem α}{f:α->Sem β}{K:β->View->Prop}(h:aU P V s (λx V'=>aU P V' (f x) K Kp) Kp):aU P V (s.bind f) K Kp:=by
 intro w hw fw;obtain⟨es,w',V',h1,h2⟩:=h w hw fw;have key:(s.bind f).runT P w fw=match s.runT P w fw with
   |(.ok x w',e)=>(f x).runT P w' e
   |(.halt h w',e)=>(.halt h w',e):=by
  have hr:=Sem.run_bind' P s f w;have he:=Sem.events_bind' P s f w fw;rw[UF,UF];have zy:(s.bind f).run P w=_:=hr;have kF:(s.bind f).events P w fw=_:=he;rw[zy,kF];cases s.run P w<;>simp[Result.andThen,Result.evThen]
 rcases h2 with⟨x,hx,hK⟩|⟨v,hv,hKp⟩
 ·obtain⟨vq,Qz,aV,h3,h4⟩:=hK w' h1.sat (fw++es);refine⟨es++vq,Qz,aV,by rw[O_];exact h1.trans h3,?_⟩;rw[key,hx,<- Yv];exact h4
 ·refine⟨es,w',V',h1,.inr ⟨v,?_,hKp⟩⟩;rw[key,hv]
def aA{s:Sem α}{f:α->Sem β}{K:β->View->Prop}(h:aU P V s (λx V'=>aU P V' (f x) K Kp) Kp):aU P V (s>>=f) K Kp:=as1 h
end
open Go.Conc
def AA (e:XH):Prop:=∀m,e.loc=.mark m->(m=.disable\/m=.enable)->e.sync=true
def nE.L9{V:View}{n:Nat}{e:XH}(h:nE V n e):AA e:=by
 intro m hm hd;obtain⟨l,wr,s⟩:=e;simp only at hm;subst hm;rcases hd with rfl|rfl
 ·simpa[nE]using h
 ·simpa[nE]using h
def ai1(d:Nat)(x:SP)(e:XH):deafBehind d (x.push e)=deafBehind (deafBehind d x) #[e]:=by
 simp[deafBehind]
def ai2{d:Nat}{e:XH}(hg:AA e)(hs:e.sync=false):deafBehind d #[e]=d:=by
 obtain⟨l,wr,s⟩:=e;cases l with
 |mark m=>
  cases m<;>first
   |(have:=hg _ rfl (.inl rfl);simp_all)
   |(have:=hg _ rfl (.inr rfl);simp_all)
   |simp[deafBehind]
 |_=>simp[deafBehind]
def asZ(P:Tl)(fn:UW)(es:SP)(hg:∀e∈gn es,AA e)(d:Nat):(∀e∈seen P fn es,e∈gn es)/\deafBehind d (seen P fn es)=deafBehind d (gn es):=by
 rw[seen_def];obtain⟨l⟩:=es;have key:∀(l:List XH)(q:Bool)(kept ref:SP),(∀e∈gn l.toArray,AA e)->(∀e∈kept,e∈ref)->deafBehind d kept=deafBehind d ref->
   (∀e∈(l.foldl (seenStep λf=>(P.funcs[f]?).any (·.norace)) (q,kept)).2,e∈ref++gn l.toArray)/\
   deafBehind d (l.foldl (seenStep λf=>(P.funcs[f]?).any (·.norace)) (q,kept)).2=deafBehind d (ref++gn l.toArray):=by
  intro l;induction l with
  |nil=>intro q kept ref _ h1 h2;simpa[gn]using⟨h1,h2⟩
  |cons e l ih=>
   intro q kept ref hg h1 h2;rw[VO];by_cases hx:∃f,e.loc=.mark (.extern f)
   ·obtain⟨f,hf⟩:=hx;have e1:gn (e::l).toArray=gn l.toArray:=(by simp[gn,hf]);rw[e1]at hg⊢;have e3:seenStep (λf=>(P.funcs[f]?).any (·.norace)) (q,kept) e=((P.funcs[f]?).any (·.norace),kept):=(by simp[seenStep,hf]);rw[e3];exact ih _ kept ref hg h1 h2
   ·have aF:∀f,e.loc≠ .mark (.extern f):=λf hf=>hx ⟨f,hf⟩;have e1:gn (e::l).toArray=#[e]++gn l.toArray:=by
     have:(e::l).toArray=#[e]++l.toArray:=(by simp);rw[this,O_,uJ aF]
    have uk:AA e:=hg e (by rw[e1];simp);have kg:∀x∈gn l.toArray,AA x:=λx hx=>hg x (by rw[e1];exact Vx.2 (.inr hx));have e2:seenStep (λf=>(P.funcs[f]?).any (·.norace)) (q,kept) e=(q,if q&& !e.sync then kept else kept.push e):=by
     unfold seenStep;dsimp only;split
     ·rename_i f hf;exact absurd hf (aF f)
     ·rfl
    rw[e1,<- Yv];rw[e2];refine ih q _ (ref++#[e]) kg (λx hx=> ?_) ?_
    ·split at hx
     ·exact Vx.2 (.inl (h1 x hx))
     ·rcases Array.mem_push.1 hx with hx|rfl
      ·exact Vx.2 (.inl (h1 x hx))
      ·exact Vx.2 (.inr (by simp))
    ·split
     ·rename_i hq;simp only[Uh,U0]at hq;rw[K1,ai2 uk hq.2,h2]
     ·rw[K1,ai1,h2]
 have:=key l ((P.funcs[fn]?).any (·.norace)) #[] #[] hg (by simp) rfl;simpa only[Yu]using this
def du.seen{V V':View}{w w':Uu}{es:SP}(h:du V w V' w' (gn es))(P:Tl)(fn:UW):du V w V' w' (seen P fn es):=by
 have:=asZ P fn es (λe he=>(h.fG e he).L9) V.deaf;exact⟨h.sat,h.tape,h.os,h.output,h.size,h.frame,h.own,h.ai,h.kZ,λe he=>h.fG e (this.1 e he),by rw[h.deaf,this.2],h.role,h.chan,λe he=>h.low e (this.1 e he)⟩
open Go.Conc
inductive Out where
 |ret (v:Uf)
 |panic (chain:List aw5)
def Leaves (P:Tl)(fr:VR)(f:UW)(kd:Yh)(o:Out)(V:View):Prop:=
 fr.fn=f/\fr.defers=[]/\fr.kind=kd/\∃fn,P.funcs[f]?=some fn/\
  match o with
  |.ret v=>fr.mode=.returning/\aU P V (results fn fr.tmps) (λx V'=>x=v/\V'=V) (λ_ _=>False)
  |.panic ch=>fr.mode=.panicking ch
abbrev SU:=Out->View->Prop
def Body (lv:Bool)(P:Tl)(f:UW)(args:SG)(kd:Yh)(V:View)(R:SU):Prop:=
 ∀(main:Bool)(J:SM),Closed lv P main J->∀cs,(∀o V' fr,R o V'->Leaves P fr f kd o V'->J V' (G fr cs))->J V (G (Frame.enter P f args kd) cs)
def nK (lv:Bool)(P:Tl)(fr:VR)(V:View)(R:SU):Prop:=
 ∀(main:Bool)(J:SM),Closed lv P main J->∀c cs,(∀v V',R (.ret v) V'->J V' (G (c.finish v) cs))->(∀ch V',R (.panic ch) V'->J V' (G (c.raise ch) cs))->J V (G fr (c::cs))
def Body.mono{lv:Bool}{P:Tl}{f:UW}{args:SG}{kd:Yh}{V:View}{R R':SU}(h:Body lv P f args kd V R)(hr:∀o V,R o V->R' o V):Body lv P f args kd V R':=
 λmain J C cs hk=>h main J C cs λo V' fr r hl=>hk o V' fr (hr _ _ r) hl
def Body.ghost{lv:Bool}{P:Tl}{f:UW}{args:SG}{kd:Yh}{V V':View}{R:SU}(g:ey V V')(h:Body lv P f args kd V' R):Body lv P f args kd V R:=
 λmain J C cs hk=>C.ghost _ _ _ g (h main J C cs hk)
def nK.mono{lv:Bool}{P:Tl}{fr:VR}{V:View}{R R':SU}(h:nK lv P fr V R)(hr:∀o V,R o V->R' o V):nK lv P fr V R':=
 λmain J C c cs h1 h2=>h main J C c cs (λv V' r=>h1 v V' (hr _ _ r)) (λv V' r=>h2 v V' (hr _ _ r))
def nK.ghost{lv:Bool}{P:Tl}{fr:VR}{V V':View}{R:SU}(g:ey V V')(h:nK lv P fr V' R):nK lv P fr V R:=
 λmain J C c cs h1 h2=>C.ghost _ _ _ g (h main J C c cs h1 h2)
def aU.runs{P:Tl}{α:Type}{V:View}{s:Sem α}{K:α->View->Prop}{Kp:SS}(h:aU P V s K Kp){w:Uu}(hw:Sat V w):
  ∃es w' V',du V w V' w' (gn es)/\s.events P w #[]=es/\((∃x,s.run P w=.ok x w'/\K x V')\/(∃v,s.run P w=.halt (.panic v) w'/\Kp v V')):=by
 obtain⟨es,w',V',h1,h2⟩:=h w hw #[];refine⟨es,w',V',h1,?_⟩;simp only[UF,We,Yu]at h2;rcases h2 with⟨x,⟨a,b⟩,c⟩|⟨x,⟨a,b⟩,c⟩
 ·exact⟨b,.inl ⟨x,a,c⟩⟩
 ·exact⟨b,.inr ⟨x,a,c⟩⟩
def apq{lv:Bool}{P:Tl}{main:Bool}{J:SM}(C:Closed lv P main J){fr c:VR}{cs:SX}{f:UW}{v:Uf}{V:View}(h:Leaves P fr f .normal (.ret v) V)(hJ:J V (G (c.finish v) cs)):J V (G fr (c::cs)):=by
 obtain⟨rfl,hd,hk,fn,hf,hm,hr⟩:=h;refine C.step _ _ rfl λw hw=> ?_;obtain⟨es,w',V',h1,h2,h3⟩:=hr.runs hw;rcases h3 with⟨x,h3,rfl,rfl⟩|⟨_,_,h⟩
 ·exact⟨G (c.finish x) cs,w',seen P fr.fn es,V',by simp[G,stepG,unwind,doReturn,hm,hd,hk,hf,h3,h2,U8],h1.seen P fr.fn,hJ⟩
 ·exact h.elim
def apo{lv:Bool}{P:Tl}{main:Bool}{J:SM}(C:Closed lv P main J){fr c:VR}{cs:SX}{f:UW}{kd:Yh}{ch:List aw5}{V:View}(h:Leaves P fr f kd (.panic ch) V)(hJ:J V (G (c.raise ch) cs)):J V (G fr (c::cs)):=by
 obtain⟨rfl,hd,hk,fn,hf,hm⟩:=h;refine C.idle rfl (λw=> ?_) hJ;simp[G,stepG,unwind,aw7,hm,hd,hf]
def Body.runs{lv:Bool}{P:Tl}{f:UW}{args:SG}{V:View}{R:SU}(h:Body lv P f args .normal V R):nK lv P (Frame.enter P f args .normal) V R:=by
 intro main J C c cs h1 h2;refine h main J C (c::cs) λo V' fr r hl=> ?_;cases o with
 |ret v=>exact apq C hl (h1 v V' r)
 |panic ch=>exact apo C hl (h2 ch V' r)
def nb (lv:Bool)(P:Tl)(r:SL)(o:Vo)(a:Act)(next:S4)(Q:SJ)(nx:Next)(V:View):Prop:=
 match nx with
 |.value v=>next (a.put o.dst v) V
 |.skip=>next (a.put o.dst undef) V
 |.defer d=>r=none/\next ({a with defers:=d::a.defers}.put o.dst undef) V
 |.enter f args=>Body lv P f args .normal V fun
   |.ret v,V'=>next (a.put o.dst v) V'
   |.panic ch,V'=>Q (.panic ch) a V'
 |.round l f tmps assign body=>nK lv P (Yc l f tmps assign body .normal) V fun
   |.ret v,V'=>next (a.put o.dst v) V'
   |.panic ch,V'=>Q (.panic ch) a V'
 |_=>False
def mQ:Op->Bool
 |.defer _=>true
 |_=>false
def yu (lv:Bool)(P:Tl)(r:SL)(o:Vo)(a:Act)(V:View)(next:S4)(Q:SJ):Prop:=
 (r=none\/mQ o.op=false)/\aU P V (execOp a.eval o) (nb lv P r o a next Q) (λv V'=>Q (.panic [{v,recovered:=false}]) a V')
abbrev TA:=List (List Spec)
abbrev TJ:=List Spec
def wS (lv:Bool)(P:Tl)(o:Vo)(a:Act)(V:View)(next:S4):Prop:=match o.op with
 |.send ch x=>∃(c Wg:Nat)(sp:Spec)(S:TJ)(B:Nat->Bool),a.eval ch=.chan (some c)/\V.role=.work c Wg (sp::S)/\V.deaf=0/\sp (a.eval x) V.ai (λb=>if B b then V.own b else none)/\
   next (a.put o.dst undef) {V with own:=λb=>if B b then none else V.own b,role:=.work c Wg S}
 |.go cl=>lv=true/\∃(x:Ur)(f:UW)(fa ca:SG),cl.callee=.value x/\a.eval x=.func (.func f) fa ca/\V.deaf=0/\
   ((∃(c Wg:Nat)(Ss:TA)(sp:Spec)(S:TJ),V.role=.fork c Wg Ss/\V.own c=some (.chan 0 #[] false 0 0 false)/\V.own Wg=some (wgBlock P (((Ss.length+1:Nat):Int)* 4294967296) 0)/\Ss.length<4/\(∀o,V.ai Wg o=none)/\
    (∀J0,Av P false J0->J0 {ai:=V.ai,own:=λ_=>none,deaf:=0,role:=.work c Wg (sp::S)} (born P ⟨.fn (.func f) ca,fa++cl.args.map a.eval⟩))/\next (a.put o.dst undef) {V with role:=.fork c Wg (Ss++[sp::S])})\/
    (∃(c Wg:Nat)(Ss:TA),V.role=.fork c Wg Ss/\c≠Wg/\V.own c=some (.chan 0 #[] false 0 0 false)/\V.own Wg=some (wgBlock P (((Ss.length:Nat):Int)* 4294967296) 0)/\(∀o,V.ai c o=none)/\(∀o,V.ai Wg o=none)/\
    Kc P V.ai c Wg (born P ⟨.fn (.func f) ca,fa++cl.args.map a.eval⟩)/\next (a.put o.dst undef) {V with own:=λb=>if b=c\/b=Wg then none else V.own b,role:=.recv c Wg Ss}))
 |.recv t ch true=>lv=true/\∃(c Wg:Nat)(Ss:TA)(d:ChanDir)(el:TypeId)(i:Xp)(z:Uf),a.eval ch=.chan (some c)/\P.underlying t=some (.chan d el)/\P.info? el=some i/\i.zero=some z/\V.role=.recv c Wg Ss/\V.deaf=0/\
   (∀(i:Nat)(sp:Spec)(S:TJ)(v:Uf)(Im:cG)(Ow:C2),Ss[i]?=some (sp::S)->sp v Im Ow->(∀b,V.own b≠none->Ow b=none)->(∀b o,V.own b≠none->Im b o≠none->V.ai b o≠none)->(∃w,Sat V w/\(∀b o x,Im b o=some x->w.cell? ⟨b,o,none⟩=some x)/\∀b x,Ow b=some x->w.heap[b]?=some x)->
    next (a.put o.dst (.tuple #[v,.bool true])) {V with ai:=λb o=>match V.ai b o with|some x=>some x|none=>Im b o,own:=λb=>match V.own b with|some x=>some x|none=>Ow b,role:=.recv c Wg (Ss.set i S)})/\
   ((∀S∈Ss,S=[])->next (a.put o.dst (.tuple #[z,.bool false])) {V with role:=.plain})
 |_=>False
def wS.mono{lv:Bool}{P:Tl}{o:Vo}{a:Act}{V:View}{N N':S4}(h:wS lv P o a V N)(hN:∀a V,N a V->N' a V):wS lv P o a V N':=by
 unfold wS at h⊢;split at h
 ·obtain⟨c,Wg,sp,S,B,h1,h2,h3,h4,h5⟩:=h;exact⟨c,Wg,sp,S,B,h1,h2,h3,h4,hN _ _ h5⟩
 ·obtain⟨un,x,f,fa,ca,h1,h2,h3,h4⟩:=h;refine⟨un,x,f,fa,ca,h1,h2,h3,h4.imp ?_ ?_⟩
  ·rintro⟨c,Wg,Ss,sp,S,q1,q2,q3,q4,q5,q6,q7⟩
   exact⟨c,Wg,Ss,sp,S,q1,q2,q3,q4,q5,q6,hN _ _ q7⟩
  ·rintro⟨c,Wg,Ss,q1,q2,q3,q4,q5,q6,q7,q8⟩
   exact⟨c,Wg,Ss,q1,q2,q3,q4,q5,q6,q7,hN _ _ q8⟩
 ·obtain⟨un,c,Wg,Ss,d,el,ti,z,h1,h2,h3,h4,h5,h6,h7,h8⟩:=h;exact⟨un,c,Wg,Ss,d,el,ti,z,h1,h2,h3,h4,h5,h6,λi sp S v Im Ow r1 r2 r3 r4 r5=>hN _ _ (h7 i sp S v Im Ow r1 r2 r3 r4 r5),λhS=>hN _ _ (h8 hS)⟩
 ·exact h
def C1 (lv:Bool)(P:Tl)(r:SL)(o:Vo)(a:Act)(V:View)(next:S4)(Q:SJ):Prop:=yu lv P r o a V next Q\/wS lv P o a V next
def dD (lv:Bool)(P:Tl)(r:SL)(ops:SK)(Q:SJ):SE->Act->View->Prop
 |[],a,V=>Q .normal a V
 |i::rest,a,V=>
  match ops[i]?with
  |none=>dD lv P r ops Q rest a V
  |some o=>if Up o (yielded ops a.tmps)then C1 lv P r o a V (dD lv P r ops Q rest) Q else dD lv P r ops Q rest (a.put o.dst undef) V
def Cb(b:VR)(a:Act)(ops:SK)(i:Nat)(rest:SE)(k:SZ)(v:Uf):
  (on b a (.inRegion ops (i::rest)::k)).finish v=on b (a.put ((ops[i]?).bind (·.dst)) v) (.inRegion ops rest::k):=by
 cases h:(ops[i]?).bind (·.dst)<;>simp[Frame.finish,on,Y8,h]
def aex{P:Tl}{main:Bool}{b:VR}{a:Act}{k:SZ}{cs:SX}{w:Uu}{ops:SK}{i:Nat}{rest:SE}(h:((ops[i]?).map (Up · (yielded ops a.tmps))).getD false=false):
  stepG P main (G (on b a (.inRegion ops (i::rest)::k)) cs) w=.go (G (on b (a.put ((ops[i]?).bind (·.dst)) undef) (.inRegion ops rest::k)) cs) w #[]:=by
 rw[<- Cb];simp only[on]at*;simp[G,stepG,Vg,h]
def s_op{P:Tl}{main:Bool}{b:VR}{a:Act}{k:SZ}{cs:SX}{w:Uu}{ops:SK}{i:Nat}{rest:SE}{o:Vo}(ho:ops[i]?=some o)(hw:Up o (yielded ops a.tmps)=true)(hd:b.roundOf=none\/mQ o.op=false):
  stepG P main (G (on b a (.inRegion ops (i::rest)::k)) cs) w=stepG.apply P true (on b a (.inRegion ops (i::rest)::k)) cs none (execOp a.eval o) w:=by
 have he:=aqM b a (.inRegion ops (i::rest)::k);simp only[on]at he;rcases hd with hd|hd
 ·rw[hd]at he;simp[G,stepG,Vg,Z6,ZK,on,ho,hw,he,hd]
 ·cases hr:b.roundOf with
  |none=>
   rw[hr]at he;simp[G,stepG,Vg,Z6,ZK,on,ho,hw,he,hr]
  |some l=>cases az:o.op<;>simp_all[G,stepG,Vg,Z6,ZK,on,mQ]
def atz{lv:Bool}{P:Tl}{main:Bool}{J:SM}(C:Closed lv P main J){ops:SK}{i:Nat}{rest:SE}{o:Vo}{a:Act}{V:View}{N:S4}{b:VR}{k:SZ}{cs:SX}(hb:b.kind≠ .early)
  (ho:ops[i]?=some o) (hw:Up o (yielded ops a.tmps)=true) (h:wS lv P o a V N) (hN:∀a' V',N a' V'->J V' (G (on b a' (.inRegion ops rest::k)) cs)):J V (G (on b a (.inRegion ops (i::rest)::k)) cs):=by
 have ki:((on b a (.inRegion ops (i::rest)::k)).kind==Wl)=false:=by simpa[on]using hb
 have eJ:∀v,(on b a (.inRegion ops (i::rest)::k)).finish v=on b (a.put o.dst v) (.inRegion ops rest::k):=by
  intro v;rw[Cb,ho];rfl
 have NT:∀v,U9 (G (on b a (.inRegion ops (i::rest)::k)) cs) v=G (on b (a.put o.dst v) (.inRegion ops rest::k)) cs:=λv=>by rw[<- eJ v];rfl
 unfold wS at h;split at h
 ·rename_i ch x az;obtain⟨c,Wg,sp,S,B,h1,h2,h3,h4,h5⟩:=h;have aP:∀w,stepG P main (G (on b a (.inRegion ops (i::rest)::k)) cs) w=.comm (G (on b a (.inRegion ops (i::rest)::k)) cs) #[scase c (a.eval x) (.tuple #[])] true .send w #[]:=λw=>by
   rw[s_op ho hw (.inr (by rw[az];rfl))];have e:execOp a.eval o=pure (.comm #[scase c (a.eval x) (.tuple #[])] true .send):=by
    unfold execOp;simp only[az];rw[h1];rfl
   rw[e];simp only[stepG.apply,UF,if_true,ki,U8,axj,as_,axm];rfl
  exact C.send _ _ c Wg sp S (a.eval x) (.tuple #[]) B h2 h3 rfl rfl (λw _=>aP w) h4 (by rw[NT];exact hN _ _ h5)
 ·rename_i cl az;obtain⟨un,x,f,fa,ca,h1,h2,h3,h4⟩:=h;have aP:∀w,stepG P main (G (on b a (.inRegion ops (i::rest)::k)) cs) w=.spawn (G (on b (a.put o.dst undef) (.inRegion ops rest::k)) cs) (born P ⟨.fn (.func f) ca,fa++cl.args.map a.eval⟩) w #[]:=λw=>by
   rw[s_op ho hw (.inr (by rw[az];rfl)),<- eJ undef];have e:execOp a.eval o=(pure (.spawn ⟨.fn (.func f) ca,fa++cl.args.map a.eval⟩):Sem Next):=by
    unfold execOp;simp only[az];unfold resolve;simp only[h1,h2];rfl
   rw[e];simp only[stepG.apply,UF,if_true,ki,U8,axj,as_,axm];simp[born,G,on];exact axm _ _
  rcases h4 with⟨c,Wg,Ss,sp,S,q1,q2,q3,q4,q5,q6,q7⟩|⟨c,Wg,Ss,q1,q2,q3,q4,q5,q6,q7,q8⟩
  ·exact(C.more un).Hm _ _ _ _ c Wg Ss sp S q1 h3 rfl q2 q3 q4 q5 (λw _=>aP w) rfl q6 (hN _ _ q7)
  ·exact(C.more un).Hl _ _ _ _ c Wg Ss q1 h3 rfl q2 q3 q4 q5 q6 (λw _=>aP w) rfl q7 (hN _ _ q8)
 ·rename_i t ch az;obtain⟨un,c,Wg,Ss,d,el,ti,z,h1,h2,h3,h4,h5,h6,h7,h8⟩:=h;have aP:∀w,stepG P main (G (on b a (.inRegion ops (i::rest)::k)) cs) w=.comm (G (on b a (.inRegion ops (i::rest)::k)) cs) #[rcase c z] true (.recv true) w #[]:=λw=>by
   rw[s_op ho hw (.inr (by rw[az];rfl))];have hu:(underlying t).run P w=.ok (.chan d el) w:=run_underlying h2 w;have hi:(typeInfo el).run P w=.ok ti w:=(by simp[typeInfo,h3]);have hz:(zeroValue el).run P w=.ok z w:=(by simp[zeroValue,hi,h4]);have wc:(zeroValue el).events P w #[]=#[]:=(by simp[zeroValue,hi,h4]);have e1:(execOp a.eval o).run P w=.ok (.comm #[rcase c z] true (.recv true)) w:=by
    unfold execOp;simp only[az];rw[h1];simp[hu,hz,rcase]
   have e2:(execOp a.eval o).events P w #[]=#[]:=by
    unfold execOp;simp only[az];rw[h1];simp[hu,hz,wc]
   simp only[stepG.apply,UF,if_true,ki,U8,e1,e2,axm];rfl
  refine(C.more un).recv _ _ c Wg Ss z h5 h6 rfl rfl (λw _=>aP w) (λi sp S v Im Ow r1 r2 r3 r4 r5=> ?_) λhS=> ?_
  ·rw[NT];exact hN _ _ (h7 i sp S v Im Ow r1 r2 r3 r4 r5)
  ·rw[NT];exact hN _ _ (h8 hS)
 ·exact h.elim
def wp_ops{lv:Bool}{P:Tl}{r:SL}{ops:SK}{Q:SJ}(l:SE):
  ∀(a:Act)(V:View),dD lv P r ops Q l a V->∀(main:Bool)(J:SM),Closed lv P main J->∀(b:VR)(k:SZ)(cs:SX),b.kind≠ .early->b.roundOf=r->
   (∀e a' V',Q e a' V'->wQ J b k cs e a' V')->J V (G (on b a (.inRegion ops l::k)) cs):=by
 induction l with
 |nil=>exactλa V h main J C b k cs _ _ hL=>C.idle rfl (λ_=>asQ) (hL _ _ _ h)
 |cons i rest ih=>
  intro a V h main J C b k cs hb hr hL;simp only[dD]at h;cases ho:ops[i]?with
  |none=>
   simp only[ho]at h;refine C.idle rfl (λw=>aex (by simp[ho])) ?_;simp only[ho,Option.bind_none,Y8];exact ih a V h main J C b k cs hb hr hL
  |some o=>
   simp only[ho]at h;by_cases hw:Up o (yielded ops a.tmps)=true
   ·simp only[hw,if_true]at h;rcases h with h|h
    rotate_left
    ·exact atz C hb ho hw h λa' V' h'=>ih a' V' h' main J C b k cs hb hr hL
    obtain⟨bI,az⟩:=h;have amJ:b.roundOf=none\/mQ o.op=false:=hr▸bI;have eJ:∀v,(on b a (.inRegion ops (i::rest)::k)).finish v=on b (a.put o.dst v) (.inRegion ops rest::k):=by
     intro v;rw[Cb,ho];rfl
    have ki:((on b a (.inRegion ops (i::rest)::k)).kind==Wl)=false:=(by simpa[on]using hb);refine C.step _ _ rfl λw fV=> ?_;obtain⟨es,w',V',h1,h2,h3⟩:=az.runs fV;rw[s_op ho hw amJ];rcases h3 with⟨nx,h3,hU⟩|⟨v,h3,hU⟩
    ·cases nx with
     |value v=>exact⟨_,w',seen P b.fn es,V',by rw[<- eJ v];simp only[stepG.apply,UF,if_true,h3,h2,ki,U8];rfl,h1.seen P _,ih _ _ hU main J C b k cs hb hr hL⟩
     |skip=>exact⟨_,w',seen P b.fn es,V',by rw[<- eJ undef];simp only[stepG.apply,UF,if_true,h3,h2,ki,U8];rfl,h1.seen P _,ih _ _ hU main J C b k cs hb hr hL⟩
     | «defer» d =>
      obtain⟨BO,hU⟩:=hU;have jj:({on b a (.inRegion ops (i::rest)::k)with defers:=d::a.defers}:VR).finish undef=on b ({a with defers:=d::a.defers}.put o.dst undef) (.inRegion ops rest::k):=by
       have:=Cb b {a with defers:=d::a.defers} ops i rest k undef;rw[ho]at this;exact this
      exact⟨_,w',seen P b.fn es,V',by
       rw[<- jj];simp only[stepG.apply,UF,if_true,h3,h2,ki,U8];rfl,h1.seen P _,ih _ _ hU main J C b k cs hb hr hL⟩
     |enter f args=>
      refine⟨G (Frame.enter P f args .normal) (on b a (.inRegion ops (i::rest)::k)::cs),w',seen P b.fn es,V',by simp only[stepG.apply,UF,if_true,h3,h2,ki,U8];rfl,h1.seen P _,?_⟩;refine Body.runs hU main J C _ cs (λv aV hR=> ?_) (λch aV hR=> ?_)
      ·rw[eJ];exact ih _ _ hR main J C b k cs hb hr hL
      ·exact hL _ _ _ hR _ rfl
     |round l f tmps assign body=>
      refine⟨G (Yc l f tmps assign body .normal) (on b a (.inRegion ops (i::rest)::k)::cs),w',seen P b.fn es,V',by simp only[stepG.apply,UF,if_true,h3,h2,ki,U8];rfl,h1.seen P _,?_⟩;refine hU main J C _ cs (λv aV hR=> ?_) (λch aV hR=> ?_)
      ·rw[eJ];exact ih _ _ hR main J C b k cs hb hr hL
      ·exact hL _ _ _ hR _ rfl
     |_=>exact hU.elim
    ·refine⟨G ((on b a (.inRegion ops (i::rest)::k)).raise [{v,recovered:=false}]) cs,w',seen P b.fn es,V',by simp only[stepG.apply,UF,if_true,h3,h2,ki,U8];rfl,h1.seen P _,hL _ _ _ hU _ rfl⟩
   ·have oy:Up o (yielded ops a.tmps)=false:=(by simpa using hw);simp only[oy,if_false,UD]at h;refine C.idle rfl (λw=>aex (by simp[ho,oy])) ?_;simp only[ho,Option.bind_some];exact ih _ _ h main J C b k cs hb hr hL
def wp_region{lv:Bool}{P:Tl}{r:SL}{id:Nat}{ops:SK}{Q:SJ}{a:Act}{V:View}(h:dD lv P r ops Q (T1 ops.size) a V):WP lv P r (.region id ops false) Q a V:=
 λmain J C b k cs hb hr hL=>C.idle rfl (λ_=>aey) (wp_ops _ a V h main J C b k cs hb hr hL)
def QI{lv:Bool}{P:Tl}{r:SL}{id:Nat}{ops:SK}{Q:SJ}{a:Act}{V:View}(h:∀t,dD lv P r ops Q (W4 (P.follows .mixedOrders) ops t) a V):WP lv P r (.region id ops true) Q a V:=
 λmain J C b k cs hb hr hL=>C.step _ _ rfl λw hw=>⟨_,_,#[],V,asG,.draw hw _,wp_ops _ a V (h _) main J C b k cs hb hr hL⟩
def Ends (P:Tl)(fn:ZD)(R:SU):Ex->Act->View->Prop
 |.normal,a,V|.ret,a,V=>a.defers=[]/\∃v,aU P V (results fn a.tmps) (λx V'=>x=v/\V'=V) (λ_ _=>False)/\R (.ret v) V
 |.panic ch,a,V=>a.defers=[]/\R (.panic ch) V
 |_,_,_=>False
def RP{lv:Bool}{P:Tl}{f:UW}{fn:ZD}{c:U_}{args:SG}{kd:Yh}{V:View}{R:SU}(hk:kd≠ .early)(hf:P.funcs[f]?=some fn)(hb:fn.body=some c)
  (h:WP lv P none c (Ends P fn R) {tmps:=args++UT (fn.ntmps-args.size) undef,defers:=[]} V):Body lv P f args kd V R:=by
 intro main J C cs hR;let b:VR:={(default:VR)with fn:=f,kind:=kd,roundOf:=none};have vN:Frame.enter P f args kd=on b {tmps:=args++UT (fn.ntmps-args.size) undef,defers:=[]} [.code c]:=by
  simp[Frame.enter,on,hf,hb,b]
 rw[vN];refine h main J C b [] cs hk rfl λe a' V' q=> ?_;cases e with
 |normal=>
  obtain⟨hd,v,hs,hr⟩:=q;exact C.idle rfl (λw=>FO rfl) (hR _ _ _ hr ⟨rfl,hd,rfl,fn,hf,rfl,hs⟩)
 |ret=>
  obtain⟨hd,v,hs,hr⟩:=q;intro k;exact C.idle rfl (λw=>FQ rfl) (hR _ _ _ hr ⟨rfl,hd,rfl,fn,hf,rfl,hs⟩)
 |panic ch=>
  obtain⟨hd,hr⟩:=q;intro todo _;exact hR _ _ _ hr ⟨rfl,hd,rfl,fn,hf,rfl⟩
 |exit id=>exact q.elim
 |goto l=>exact q.elim
open Go.Conc
inductive End where
 |exact
 |shut
 |opn (k:Nat)
 deriving DecidableEq
inductive AV where
 |val (x:Uf)
 |agg (l:List AV)
 |aL (l:List AV)
 |sl (n:Nat) (l:List AV) (e:End)
 |bC (id off n cap:Nat)
 |rp (l:List AV)
 |op (id off:Nat)
 |fn (f:Fn) (first cZ:List AV)
 |da (t:TypeId) (x:AV)
 |mp (id:Nat)
abbrev SC:=List AV
structure Env where
 I:cG
 n:Nat
 blk:Nat->Nat
 room:Nat->Nat->Option WC×Nat
 fZ:Nat->Nat
 fr:Nat->Option Obj
 main:Bool
structure Env.Le (E E':Env):Prop where
 I:∀b o v,E.I b o=some v->E'.I b o=some v
 n:E.n<=E'.n
 blk:∀k,k<E.n->E'.blk k=E.blk k
 fZ:∀k,k<E.n->E.fZ k<=E'.fZ k
 room:∀k v,k<E.n->v<=E.fZ k->E'.room k v=E.room k v
 fr:E'.fr=E.fr
 main:E'.main=E.main
def Env.Le.refl(E:Env):E.Le E:=⟨λ_ _ _ h=>h,Ts _,λ_ _=>rfl,λ_ _=>Ts _,λ_ _ _ _=>rfl,rfl,rfl⟩
def Env.Le.trans{E E' bY:Env}(h:E.Le E')(k:E'.Le bY):E.Le bY:=
 ⟨λb o v e=>k.I b o v (h.I b o v e),UK h.n k.n,λi hi=>(k.blk i (Uk hi h.n)).trans (h.blk i hi),λi hi=>UK (h.fZ i hi) (k.fZ i (Uk hi h.n)),
  λi v hi hv=>(k.room i v (Uk hi h.n) (UK hv (h.fZ i hi))).trans (h.room i v hi hv),k.fr.trans h.fr,k.main.trans h.main⟩
abbrev S9:=Option WC
def qA (E:Env)(e:End)(a:S9)(n cap:Nat):Prop:=match e with
 |.exact=>cap=n
 |.shut=>True
 |.opn k=>k<E.n/\n<=E.fZ k/\E.room k n=(a,cap)
inductive au (E:Env):AV->Uf->Prop
 |val (x:Uf):au E (.val x) x
 |agg {l:List AV} {cs:Array Uf} (hs:cs.size=l.length) (h:∀(i:Nat) a,l[i]?=some a->au E a (cs.getD i undef)):au E (.agg l) (.agg cs)
 |aL {l:List AV} {cs:Array Uf} (hs:cs.size=l.length) (h:∀(i:Nat) a,l[i]?=some a->au E a (cs.getD i undef)):au E (.aL l) (.tuple cs)
 |sl {n:Nat} {l:List AV} {e:End} (b o cap:Nat) (f:Nat->Uf) (hc:n<=cap) (he:qA E e (some ⟨b,o,none⟩) n cap)
   (h1:∀i,i<l.length->E.I b (o+i)=some (f i)) (h2:∀(i:Nat) x,l[i]?=some x->au E x (f i)):au E (.sl n l e) (.slice (some ⟨b,o,none⟩) n cap)
 |nil {e:End} {a:Option WC} (he:qA E e a 0 0):au E (.sl 0 [] e) (.slice a 0 0)
 |bC {id off n cap cap':Nat} (hi:id<E.n) (eo:n<=cap'/\(n<=cap->cap=cap')/\(cap<n->cap'<=(E.room id 0).2)):au E (.bC id off n cap) (.slice (some ⟨E.blk id,off,none⟩) n cap')
 |rp {l:SC} (b o:Nat) (f:Nat->Uf) (h1:∀i,i<l.length->E.I b (o+i)=some (f i)) (h2:∀(i:Nat) x,l[i]?=some x->au E x (f i)):au E (.rp l) (.pointer (some ⟨b,o,none⟩))
 |op {id off:Nat} (hi:id<E.n):au E (.op id off) (.pointer (some ⟨E.blk id,off,none⟩))
 |fn {f:Fn} {first cZ:SC} {fa ca:Array Uf} (ep:fa.size=first.length) (ft:ca.size=cZ.length) (h1:∀(i:Nat) a,first[i]?=some a->au E a (fa.getD i undef)) (h2:∀(i:Nat) a,cZ[i]?=some a->au E a (ca.getD i undef)):au E (.fn f first cZ) (.func f fa ca)
 |da {t:TypeId} {x:AV} {v:Uf} (h:au E x v):au E (.da t x) (.iface t v)
 |mp {id:Nat} (hi:id<E.n):au E (.mp id) (.map (some (E.blk id)))
def qA.mono{E E':Env}(h:E.Le E'){e:End}{a:S9}{n cap:Nat}(k:qA E e a n cap):qA E' e a n cap:=by
 cases e with
 |exact=>exact k
 |shut=>trivial
 |opn i=>exact⟨Uk k.1 h.n,UK k.2.1 (h.fZ i k.1),by rw[h.room i n k.1 k.2.1];exact k.2.2⟩
def au.mono{E E':Env}(h:E.Le E'){a:AV}{v:Uf}(d:au E a v):au E' a v:=by
 induction d with
 |val x=>exact .val x
 |agg hs _ ih=>exact .agg hs ih
 |aL hs _ ih=>exact .aL hs ih
 |sl b o cap f hc he h1 _ ih=>exact .sl b o cap f hc (he.mono h) (λi hi=>h.I _ _ _ (h1 i hi)) ih
 |nil he=>exact .nil (he.mono h)
 |bC hi eo=>rw[<- h.blk _ hi];exact .bC (Uk hi h.n) ⟨eo.1,eo.2.1,λe=>by rw[h.room _ 0 hi (YX _)];exact eo.2.2 e⟩
 |rp b o f h1 _ ih=>exact .rp b o f (λi hi=>h.I _ _ _ (h1 i hi)) ih
 |op hi=>rw[<- h.blk _ hi];exact .op (Uk hi h.n)
 |fn ep ft _ _ nw lP=>exact .fn ep ft nw lP
 |da _ ih=>exact .da ih
 |mp hi=>rw[<- h.blk _ hi];exact .mp (Uk hi h.n)
def AV.leaf:AV->Bool
 |.agg _|.aL _=>false
 |.val x=>x.one
 |_=>true
inductive aa where
 |cells (l:List AV) (elem:TypeId)
 |part (p:Nat) (l:List AV) (elem:TypeId)
 |own (sz:Nat) (l:List AV) (elem:TypeId)
 |tail (n sz:Nat) (elem:TypeId)
 |obj (x:Obj)
 |iter (m since:Nat) (seen:Array Nat) (uU:Nat)
 |loop (r:Nat) (st:axk) (pend:Option U_) (fn:UW) (T:List (Nat×AV)) (nt:Nat) (ps:Array Tmp) (bS body:U_) (df:Nat)
 |gone
 |main
abbrev SF:=AV->List aa->Prop
abbrev SA:=List aa
def look:List (Nat×AV)->Nat->Option AV
 |[],_=>none
 |(k,a)::l,t=>if k=t then some a else look l t
abbrev SH:=List (Nat×AV)
def cC (E:Env)(T:SH)(tmps:SG):Prop:=∀t a,look T t=some a->t<tmps.size/\au E a (tmps.getD t undef)
def cC.mono{E E':Env}(h:E.Le E'){T:SH}{tmps:SG}(k:cC E T tmps):cC E' T tmps:=λt a e=>⟨(k t a e).1,(k t a e).2.mono h⟩
def cC.put{E:Env}{T:SH}{tmps:SG}(k:cC E T tmps){d:Nat}(hd:d<tmps.size){a:AV}{v:Uf}(hv:au E a v):cC E ((d,a)::T) (tmps.setIfInBounds d v):=by
 intro t x e;simp only[look]at e;by_cases h:d=t
 ·subst h;rw[if_pos rfl]at e;cases e;exact⟨by simpa using hd,by simpa[Ti,Ug hd]using hv⟩
 ·rw[if_neg h]at e;have:=k t x e;exact⟨by simpa using this.1,by simpa[Ti,T6 h]using this.2⟩
def cO (E:Env)(l:SC)(cs:SG):Prop:=cs.size=l.length/\∀(i:Nat) a,l[i]?=some a->au E a (cs.getD i undef)
def cO.mono{E E':Env}(h:E.Le E'){l:SC}{cs:SG}(d:cO E l cs):cO E' l cs:=⟨d.1,λi a e=>(d.2 i a e).mono h⟩
def kv (E:Env)(l:SC)(cs:SG):Prop:=l.length<=cs.size/\∀(i:Nat) a,l[i]?=some a->au E a (cs.getD i undef)
def kv.mono{E E':Env}(h:E.Le E'){l:SC}{cs:SG}(d:kv E l cs):kv E' l cs:=⟨d.1,λi a e=>(d.2 i a e).mono h⟩
def cO.p{E:Env}{l:SC}{cs:SG}(d:cO E l cs):kv E l cs:=⟨XI d.1.symm,d.2⟩
def bT (E:Env)(k:Nat):aa->Option Nat
 |.tail n _ _=>if(E.room k n).2=n then none else(E.room k n).1.map (·.block)
 |.gone|.main=>none
 |_=>some (E.blk k)
def gw (E:Env)(V:View)(k:Nat):aa->Prop
 |.cells l elem=>(∃cs,V.own (E.blk k)=some (.cells cs elem (0,0))/\cO E l cs)/\∀o,V.ai (E.blk k) o=none
 |.part p l elem=>(∃cs,V.own (E.blk k)=some (.cells cs elem (0,0))/\kv E l cs/\∀o,o<p->V.ai (E.blk k) o=cs[o]?)/\∀o,p<=o->V.ai (E.blk k) o=none
 |.own sz l elem=>(∃cs,V.own (E.blk k)=some (.cells cs elem (0,0))/\kv E l cs/\cs.size=(E.room k 0).2* sz)/\∀o,V.ai (E.blk k) o=none
 |.tail n sz elem=>E.fZ k=n/\((E.room k n).2=n\/∃b cap cs,E.room k n=(some ⟨b,0,none⟩,cap)/\V.own b=some (.cells cs elem (0,0))/\cs.size=cap* sz/\n<cap/\∀o,n* sz<=o->V.ai b o=none)
 |.obj x=>V.own (E.blk k)=some x/\x.wi=false/\x.isChan=false/\∀o,V.ai (E.blk k) o=none
 |.iter m since seen uU=>m<E.n/\V.own (E.blk k)=some (.mapIter (some (E.blk m)) since seen uU)/\∀o,V.ai (E.blk k) o=none
 |.loop r st pend fn T nt ps bS body df=>(∃tmps,V.own (E.blk k)=some (.loop {state:=st,pending:=pend,fn,tmps,params:=ps,assign:=bS,body,defers:=E.blk df})/\tmps.size=nt/\cC E T tmps)/\df<E.n/\(∀o,V.ai (E.blk k) o=none)/\E.blk k=r
 |.gone=>True
 |.main=>E.main=true
structure Conc (E:Env)(V:View)(H:SA):Prop where
 I:E.I=V.ai
 n:E.n=H.length
 obj:∀k x,H[k]?=some x->gw E V k x
 inj:∀i j x y b,H[i]?=some x->H[j]?=some y->bT E i x=some b->bT E j y=some b->i=j
 group:∀g,V.role.group=some g->V.own g≠none/\(∀o,V.ai g o=none)/\∀(k:Nat) x,H[k]?=some x->bT E k x≠some g
 chan:∀c,V.role.chan=some c->V.own c≠none/\(∀o,V.ai c o=none)/\∀(k:Nat) x,H[k]?=some x->bT E k x≠some c
 top:E.main=true->V.role=.plain/\V.deaf=0
 fr:∀b y,E.fr b=some y->V.own b=some y/\(∀o,V.ai b o=none)/\∀(k:Nat) x,H[k]?=some x->bT E k x≠some b
structure AS where
 T:List (Nat×AV)
 H:SA
def AS.Le (s s':AS):Prop:=(∀t a,look s'.T t=some a->look s.T t=some a)/\s'.H=s.H
def AV.of:Uf->AV
 |.agg cs=> .agg (cs.toList.map λ|.slice none 0 0=> .sl 0 [] .exact|v=> .val v)
 |.slice none 0 0=> .sl 0 [] .exact
 |v=> .val v
def AV.qu:Uf->AV
 |.slice none 0 0=> .sl 0 [] .exact
 |v=> .val v
def K5(E:Env)(v:Uf):au E (AV.qu v) v:=by
 unfold AV.qu;split
 ·exact .nil rfl
 ·exact .val _
def tU(E:Env)(v:Uf):au E (AV.of v) v:=by
 unfold AV.of;split
 ·rename_i cs;refine .agg (by simp) λi a h=> ?_;rw[Ut]at h;obtain⟨x,hx,rfl⟩:=Uv.1 h;have:cs[i]?=some x:=by simpa using hx
  rw[Ti,this];exact K5 E x
 ·exact .nil rfl
 ·exact .val _
def AS.ev (s:AS):Ur->Option AV
 |.tmp t=>look s.T t
 |.const v=>some (AV.of v)
 |.func f=>some (.fn (.func f) [] [])
 |.global _=>none
def au.ev{E:Env}{s:AS}{a:Act}(k:cC E s.T a.tmps){x:Ur}{av:AV}(h:s.ev x=some av):au E av (a.eval x):=by
 cases x with
 |tmp t=>exact(k t av h).2
 |const v=>cases h;exact tU E v
 |func f=>cases h;exact .fn rfl rfl (by simp) (by simp)
 |global g=>cases h
def gw.Dl{E:Env}{V:View}{k:Nat}{x:aa}(h:gw E V k x){b:Nat}(hb:bT E k x=some b):∃y,V.own b=some y:=by
 cases x with
 |cells l el=>cases hb;obtain⟨⟨cs,h1,_⟩,_⟩:=h;exact⟨_,h1⟩
 |part p l el=>cases hb;obtain⟨⟨cs,h1,_⟩,_⟩:=h;exact⟨_,h1⟩
 |own p l el=>cases hb;obtain⟨⟨cs,h1,_⟩,_⟩:=h;exact⟨_,h1⟩
 |tail n sz el=>
  obtain⟨hv,h|⟨b',cap,cs,h1,h2,h3,h4,h5⟩⟩:=h
  ·simp only[bT,h,if_true]at hb;cases hb
  ·simp only[bT,h1]at hb;rw[if_neg (by omega)]at hb;cases hb;exact⟨_,h2⟩
 |obj x=>cases hb;exact⟨_,h.1⟩
 |iter m since seen uU=>cases hb;exact⟨_,h.2.1⟩
 |loop=>cases hb;obtain⟨⟨tmps,h1,_⟩,_⟩:=h;exact⟨_,h1⟩
 |gone=>cases hb
 |main=>cases hb
def RN{E E':Env}(hl:E.Le E'){k:Nat}(hk:k<E.n){x:aa}{V:View}(h:gw E V k x):bT E' k x=bT E k x:=by
 cases x with
 |tail n sz el=>simp only[bT];rw[hl.room k n hk (XI h.1.symm)]
 |gone=>rfl
 |main=>rfl
 |_=>simp only[bT,hl.blk k hk]
def gw.mono{E E':Env}{V V':View}{k:Nat}{x:aa}(h:gw E V k x)(hl:E.Le E')(hk:k<E.n)(BX:E'.fZ k=E.fZ k)
  (ho:∀b y,bT E k x=some b->V.own b=some y->V'.own b=some y) (hi:∀b,bT E k x=some b->∀o,V'.ai b o=V.ai b o):gw E' V' k x:=by
 cases x with
 |cells l el=>
  obtain⟨⟨cs,h1,h2⟩,h3⟩:=h;simp only[gw,hl.blk k hk];exact⟨⟨cs,ho _ _ rfl h1,h2.mono hl⟩,λo=>(hi _ rfl o).trans (h3 o)⟩
 |part p l el=>
  obtain⟨⟨cs,h1,h2,h4⟩,h3⟩:=h;simp only[gw,hl.blk k hk];exact⟨⟨cs,ho _ _ rfl h1,h2.mono hl,λo hp=>(hi _ rfl o).trans (h4 o hp)⟩,λo hp=>(hi _ rfl o).trans (h3 o hp)⟩
 |own sz l el=>
  obtain⟨⟨cs,h1,h2,h4⟩,h3⟩:=h;simp only[gw,hl.blk k hk,hl.room k 0 hk (YX _)];exact⟨⟨cs,ho _ _ rfl h1,h2.mono hl,h4⟩,λo=>(hi _ rfl o).trans (h3 o)⟩
 |tail n sz el=>
  obtain⟨hv,h⟩:=h;simp only[gw,BX,hl.room k n hk (XI hv.symm)];refine⟨hv,?_⟩;rcases h with h|⟨b',cap,cs,h1,h2,h3,h4,h5⟩
  ·exact .inl h
  ·have hb:bT E k (.tail n sz el)=some b':=(by simp only[bT,h1];rw[if_neg (by omega)];rfl);exact .inr ⟨b',cap,cs,h1,ho _ _ hb h2,h3,h4,λo hm=>(hi _ hb o).trans (h5 o hm)⟩
 |obj x=>
  obtain⟨h1,h2,h4,h3⟩:=h;simp only[gw,hl.blk k hk];exact⟨ho _ _ rfl h1,h2,h4,λo=>(hi _ rfl o).trans (h3 o)⟩
 |iter m since seen uU=>
  obtain⟨h0,h1,h2⟩:=h;simp only[gw,hl.blk k hk,hl.blk m h0];exact⟨Uk h0 hl.n,ho _ _ rfl h1,λo=>(hi _ rfl o).trans (h2 o)⟩
 |loop r st pend fn T nt ps bS body df=>
  obtain⟨⟨tmps,h1,h2,h3⟩,h4,h5,h6⟩:=h;simp only[gw,hl.blk k hk,hl.blk df h4];exact⟨⟨tmps,ho _ _ rfl h1,h2,h3.mono hl⟩,Uk h4 hl.n,λo=>(hi _ rfl o).trans (h5 o),h6⟩
 |gone=>trivial
 |main=>exact hl.main.trans h
def Conc.ja{E E':Env}{V V':View}{H H':SA}(hc:Conc E V H)(k:Nat)(x':aa)(hle:E.Le E')(hI:E'.I=V'.ai)(hn:E'.n=H'.length)
  (hH:∀(j:Nat) y,H'[j]?=some y->(j=k/\y=x')\/(j≠k/\H[j]?=some y)) (hr:V'.role=V.role)
  (BX:∀j,j≠k->j<E.n->E'.fZ j=E.fZ j)
  (ho:∀b y,(∀x,H[k]?=some x->bT E k x≠some b)->V.own b=some y->V'.own b=some y/\∀o,V'.ai b o=V.ai b o)
  (hx:gw E' V' k x') (hb:∀b,bT E' k x'=some b->(∃x,H[k]?=some x/\bT E k x=some b)\/V.own b=none) (bI:V'.deaf=V.deaf:=by rfl):Conc E' V' H':=by
 have hlt:∀(j:Nat) y,H[j]?=some y->j<E.n:=λj y h=>by rw[hc.n];exact(Tq.1 h).1
 have cT:∀(j:Nat) y b,H[j]?=some y->bT E' j y=some b->bT E j y=some b:=λj y b h e=>by rw[<- RN hle (hlt j y h) (hc.obj j y h)];exact e
 have aci:∀(j:Nat) y b,j≠k->H[j]?=some y->bT E j y=some b->∀x,H[k]?=some x->bT E k x≠some b:=λj y b hj h1 h2 x h3 h4=>hj (hc.inj j k y x b h1 h3 h2 h4);have hg:∀(j:Nat) y,H'[j]?=some y->∀g,V.own g≠none->(∀(i:Nat) x,H[i]?=some x->bT E i x≠some g)->bT E' j y≠some g:=λj y h g p_ fS e=>by
  rcases hH j y h with⟨rfl,rfl⟩|⟨hj,h⟩
  ·rcases hb g e with⟨x,h1,h2⟩|h2
   ·exact fS _ x h1 h2
   ·exact p_ h2
  ·exact fS j y h (cT j y g h e)
 have hk:∀g,V.own g≠none->(∀(i:Nat) x,H[i]?=some x->bT E i x≠some g)->V'.own g≠none/\∀o,V'.ai g o=V.ai g o:=λg p_ fS=>by
  cases e:V.own g with
  |none=>exact absurd e p_
  |some y=>
   have:=ho g y (λx hx=>fS k x hx) e;exact⟨by rw[this.1];simp,this.2⟩
 refine⟨hI,hn,λj y h=> ?_,λi j y z b h1 h2 e1 e2=> ?_,λg abT=> ?_,λc fy=> ?_,λhm=>(by rw[hr,bI];exact hc.top (by rw[<- hle.main];exact hm)),λb y ik=> ?_⟩
 ·rcases hH j y h with⟨rfl,rfl⟩|⟨hj,h⟩
  ·exact hx
  ·have ma:=hc.obj j y h;refine ma.mono hle (hlt j y h) (BX j hj (hlt j y h)) (λb z kT hz=> ?_) (λb kT o=> ?_)
   ·exact(ho b z (aci j y b hj h kT) hz).1
   ·obtain⟨z,hz⟩:=ma.Dl kT;exact(ho b z (aci j y b hj h kT) hz).2 o
 ·have new:∀(j:Nat) y,j≠k->H[j]?=some y->bT E' j y=some b->bT E' k x'≠some b:=λj y hj h e e'=>by
   have e:=cT j y b h e;rcases hb b e' with⟨x,EV,hx2⟩|h1
   ·exact hj (hc.inj j k y x b h EV e hx2)
   ·obtain⟨q,hq⟩:=(hc.obj j y h).Dl e;rw[h1]at hq;cases hq
  rcases hH i y h1 with⟨rfl,rfl⟩|⟨hi,h1⟩<;>rcases hH j z h2 with⟨rfl,rfl⟩|⟨hj,h2⟩
  ·rfl
  ·exact absurd e1 (new j z hj h2 e2)
  ·exact absurd e2 (new i y hi h1 e1)
  ·exact hc.inj i j y z b h1 h2 (cT i y b h1 e1) (cT j z b h2 e2)
 ·rw[hr]at abT;obtain⟨h0,h1,h2⟩:=hc.group g abT;exact⟨(hk g h0 h2).1,λo=>((hk g h0 h2).2 o).trans (h1 o),λj y h=>hg j y h g h0 h2⟩
 ·rw[hr]at fy;obtain⟨h0,h1,h2⟩:=hc.chan c fy;exact⟨(hk c h0 h2).1,λo=>((hk c h0 h2).2 o).trans (h1 o),λj y h=>hg j y h c h0 h2⟩
 ·rw[hle.fr]at ik;obtain⟨h0,h1,h2⟩:=hc.fr b y ik;have Hp:V.own b≠none:=by rw[h0];simp
  exact⟨(ho b y (λx hx=>h2 k x hx) h0).1,λo=>((hk b Hp h2).2 o).trans (h1 o),λj z h=>hg j z h b Hp h2⟩
def lQ{α:Type}{H:List α}{k:Nat}{x':α}:∀(j:Nat) y,(H.set k x')[j]?=some y->(j=k/\y=x')\/(j≠k/\H[j]?=some y):=λj y h=>by
 by_cases hj:j=k
 ·subst hj;rw[List.getElem?_set_self']at h;cases e:H[j]?with
  |none=>rw[e]at h;cases h
  |some z=>rw[e]at h;exact .inl ⟨rfl,by simpa using h.symm⟩
 ·rw[U6 (Ne.symm hj)]at h;exact .inr ⟨hj,h⟩
def Fq{α:Type}{H:List α}{x':α}:∀(j:Nat) y,(H++[x'])[j]?=some y->(j=H.length/\y=x')\/(j≠H.length/\H[j]?=some y):=λj y h=>by
 by_cases hk:j<H.length
 ·rw[T4 hk]at h;exact .inr ⟨by omega,h⟩
 ·rw[Ud (by omega)]at h;have aI:j-H.length=0:=by
   have:=(Tq.1 h).1;simpa using this
  rw[aI]at h;exact .inl ⟨by omega,by simpa using h.symm⟩
def Conc.jH{E:Env}{V:View}{H:SA}(hc:Conc E V H){k:Nat}{x:aa}(hk:H[k]?=some x){b:Nat}(hb:bT E k x=some b):V.role.group≠some b/\V.role.chan≠some b:=
 ⟨λe=>(hc.group b e).2.2 k x hk hb,λe=>(hc.chan b e).2.2 k x hk hb⟩
def Conc.acM{E:Env}{V:View}{H:SA}(hc:Conc E V H){b o:Nat}{v:Uf}(h:E.I b o=some v):V.role.group≠some b/\V.role.chan≠some b:=
 ⟨λe=>(by have:=(hc.group b e).2.1 o;rw[<- hc.I,h]at this;cases this),λe=>(by have:=(hc.chan b e).2.1 o;rw[<- hc.I,h]at this;cases this)⟩
open Go.Conc
def AS.put (s:AS)(dst:SL)(av:AV):AS:=match dst with
 |some d=>⟨(d,av)::s.T,s.H⟩
 |none=>s
def cC.iG{E:Env}{s:AS}{a:Act}(k:cC E s.T a.tmps){dst:SL}(hd:∀d,dst=some d->d<a.tmps.size){av:AV}{v:Uf}(hv:au E av v):cC E (s.put dst av).T (a.put dst v).tmps:=by
 cases dst with
 |none=>exact k
 |some d=>exact cC.put k (hd d rfl) hv
def fK(s:AS)(dst:SL)(av:AV):(s.put dst av).H=s.H:=by cases dst<;>rfl
def eF(a:Act)(dst:SL)(v:Uf):(a.put dst v).tmps.size=a.tmps.size:=by cases dst<;>simp[Y8]
def put_defers(a:Act)(dst:SL)(v:Uf):(a.put dst v).defers=a.defers:=by cases dst<;>rfl
structure Kept (E E':Env)(V V':View)(a a':Act):Prop where
 le:E.Le E'
 size:a'.tmps.size=a.tmps.size
 defers:a'.defers=a.defers
 role:V'.role=V.role
 deaf:V'.deaf=V.deaf
abbrev SV:=AS->Prop
def Step (lv:Bool)(P:Tl)(r:SL)(o:Vo)(s:AS)(next:SV)(bad:AV->SV):Prop:=
 ∀(E:Env)(V:View)(a:Act)(N:S4)(Q:SJ),Conc E V s.H->cC E s.T a.tmps->(∀d,o.dst=some d->d<a.tmps.size)->(r=none\/mQ o.op=false)->
  (∀E' V' a' s',Kept E E' V V' a a'->Conc E' V' s'.H->cC E' s'.T a'.tmps->next s'->N a' V')->
  (∀E' V' s' pv v,Kept E E' V V' a a->Conc E' V' s'.H->cC E' s'.T a.tmps->au E' pv v->bad pv s'->Q (.panic [{v,recovered:=false}]) a V')->yu lv P r o a V N Q
def dL (lv:Bool)(P:Tl)(r:SL)(o:Vo)(s:AS)(av:AV):Prop:=
 ∀(E:Env)(V:View)(a:Act)(N:S4)(Q:SJ),Conc E V s.H->cC E s.T a.tmps->(r=none\/mQ o.op=false)->
  (∀E' V' v,E.Le E'->V'.role=V.role->V'.deaf=V.deaf->Conc E' V' s.H->au E' av v->N (a.put o.dst v) V')->yu lv P r o a V N Q
section
variable {lv:Bool}{P:Tl}{r:SL}{o:Vo}{s:AS}{next:SV}{bad:AV->SV}
def Step.mono{next':SV}{RE:AV->SV}(h:Step lv P r o s next bad)(hn:∀s,next s->next' s)(hb:∀c s,bad c s->RE c s):Step lv P r o s next' RE:=
 λE V a N Q h1 h2 h3 h4 h5 h6=>h E V a N Q h1 h2 h3 h4 (λE' V' a' s' x1 x2 x3 x4=>h5 E' V' a' s' x1 x2 x3 (hn _ x4)) (λE' V' s' pv v x1 x2 x3 x4 x5=>h6 E' V' s' pv v x1 x2 x3 x4 (hb _ _ x5))
def jp{av:AV}(h:∀(E:Env)(V:View)(a:Act),Conc E V s.H->cC E s.T a.tmps->aU P V (execOp a.eval o) (λnx V'=>V'=V/\∃v,nx=.value v/\au E av v) (λ_ _=>False)):dL lv P r o s av:=by
 intro E V a N Q hc ht bI h1;refine⟨bI,(h E V a hc ht).mono (λnx V' hx=> ?_) (λ_ _ hx=>hx.elim)⟩;obtain⟨rfl,v,rfl,hv⟩:=hx;exact h1 E V' v (Env.Le.refl E) rfl rfl hc hv
def s9{av:AV}(h:∀(E:Env)(V:View)(a:Act),Conc E V s.H->cC E s.T a.tmps->∃v,execOp a.eval o=.pure (.value v)/\au E av v):dL lv P r o s av:=
 jp (λE V a hc ht=>by
  obtain⟨v,h1,h2⟩:=h E V a hc ht;rw[h1];exact cN ⟨rfl,v,rfl,h2⟩)
def dL.step{av:AV}(h:dL lv P r o s av)(hn:next (s.put o.dst av)):Step lv P r o s next bad:=by
 intro E V a N Q hc ht hd bI h1 _;refine h E V a N Q hc ht bI λE' V' v hle cy fz bw hv=> ?_;exact h1 E' V' (a.put o.dst v) (s.put o.dst av) ⟨hle,eF _ _ _,put_defers _ _ _,cy,fz⟩ (by rw[fK];exact bw) ((ht.mono hle).iG hd hv) hn
def aen{x:Ur}{av:AV}(ho:o.op=.move x\/o.op=.assign x)(hx:s.ev x=some av):dL lv P r o s (av):=
 s9 (λE V a hc ht=>⟨a.eval x,by unfold execOp;rcases ho with ho|ho<;>rw[ho]<;>rfl,au.ev ht hx⟩)
def ar4{c x y:Ur}{b:Bool}{av aw:AV}(ho:o.op=.pick c x y)(hc:s.ev c=some (.val (.bool b)))(hx:s.ev x=some av)(hy:s.ev y=some aw):dL lv P r o s (if b then av else aw):=
 s9 (λE V a jA ht=>by
  have h1:=au.ev ht hc;generalize hv:a.eval c=v at h1;cases h1;refine⟨if b then a.eval x else a.eval y,by unfold execOp;rw[ho];simp only[hv];cases b<;>rfl,?_⟩;cases b
  ·exact au.ev ht hy
  ·exact au.ev ht hx)
def mC (op:Xf)(k:U3)(x y:Int):Option Uf:=match op with
 |.add=>some (.int k (k.wrap (x+y)))
 |.sub=>some (.int k (k.wrap (x-y)))
 |.mul=>some (.int k (k.wrap (x* y)))
 |.eql=>some (.bool (x==y))
 |.neq=>some (.bool (x !=y))
 |.lss=>some (.bool (x<y))
 |.leq=>some (.bool (x<=y))
 |.gtr=>some (.bool (x>y))
 |.geq=>some (.bool (x>=y))
 |.and=>some (.int k (k.wrap (Vj k.bits x&&&Vj k.bits y).toNat))
 |.or=>some (.int k (k.wrap (Vj k.bits x|||Vj k.bits y).toNat))
 |.xor=>some (.int k (k.wrap (Vj k.bits x^^^Vj k.bits y).toNat))
 |.quo=>if y=0 then none else some (.int k (k.wrap (x.tdiv y)))
 |.rem=>if y=0 then none else some (.int k (x.tmod y))
 |_=>none
def Cv (op:Xf)(k:U3)(x y:Int):Option Uf:=if y<0 then none else match op with
 |.shl=>some (.int k (k.wrap (x* 2^(min y.toNat k.bits))))
 |.shr=>some (.int k (x.fdiv (2^(min y.toNat k.bits))))
 |_=>none
def ny:Xf->Bool
 |.shl|.shr=>true
 |_=>false
def aij{op:Xf}{k:U3}{x y:Int}{v:Uf}{t:TypeId}(h:mC op k x y=some v):binOp op t (.int k x) (.int k y)=.pure v:=by
 cases op<;>simp only[mC,Us,reduceCtorEq]at h<;>try(subst h;simp[binOp,ayi,Op.intCmp,Op.intBits];rfl)
 ·split at h
  ·cases h
  ·rename_i hy;simp only[Us]at h;subst h;simp[binOp,axY,hy];rfl
 ·split at h
  ·cases h
  ·rename_i hy;simp only[Us]at h;subst h;simp[binOp,axY,hy];rfl
def atk{op:Xf}{k j:U3}{x y:Int}{v:Uf}{t:TypeId}(h:Cv op k x y=some v):binOp op t (.int k x) (.int j y)=.pure v:=by
 unfold Cv at h;split at h
 ·cases h
 ·rename_i hy;cases op<;>simp only[Us,reduceCtorEq]at h
  ·subst h;simp[binOp,ax8,hy];rfl
  ·subst h;simp[binOp,ax8,hy];rfl
def aai{op:Xf}{t:TypeId}{x y:Ur}{j k:U3}{a b:Int}:eqGuard op t x y (.int j a) (.int k b)=.pure ():=by
 unfold eqGuard;cases op<;>rfl
def arE{op:Xf}{xt yt:TypeId}{x y:Ur}{k:U3}{m n:Int}{v:Uf}(ho:o.op=.binOp op xt x y yt)(hx:s.ev x=some (.val (.int k m)))(hy:s.ev y=some (.val (.int k n)))(hv:mC op k m n=some v):dL lv P r o s (.val v):=
 s9 (λE V a jA ht=>by
  have h1:=au.ev ht hx;have h2:=au.ev ht hy;generalize qg:a.eval x=v1 at h1;generalize qh:a.eval y=v2 at h2;cases h1;cases h2;refine⟨v,?_,.val v⟩;unfold execOp;rw[ho];simp only[qg,qh,aai,aij hv];rfl)
def ar5{op:Xf}{xt yt:TypeId}{x y:Ur}{k j:U3}{m n:Int}{v:Uf}(ho:o.op=.binOp op xt x y yt)(hx:s.ev x=some (.val (.int k m)))(hy:s.ev y=some (.val (.int j n)))(hv:Cv op k m n=some v):dL lv P r o s (.val v):=
 s9 (λE V a jA ht=>by
  have h1:=au.ev ht hx;have h2:=au.ev ht hy;generalize qg:a.eval x=v1 at h1;generalize qh:a.eval y=v2 at h2;cases h1;cases h2;refine⟨v,?_,.val v⟩;unfold execOp;rw[ho];simp only[qg,qh,aai,atk hv];rfl)
def ar3{t:TypeId}{x:Ur}{b:Bool}(ho:o.op=.unOp .not t x)(hx:s.ev x=some (.val (.bool b))):dL lv P r o s (.val (.bool !b)):=
 s9 (λE V a jA ht=>by
  have h1:=au.ev ht hx;generalize qg:a.eval x=v1 at h1;cases h1;exact⟨_,by unfold execOp;rw[ho];simp only[qg];rfl,.val _⟩)
def ar0{t:TypeId}{x:Ur}{k:U3}{n:Int}(ho:o.op=.unOp .neg t x)(hx:s.ev x=some (.val (.int k n))):dL lv P r o s (.val (.int k (k.wrap (0-n)))):=
 s9 (λE V a jA ht=>by
  have h1:=au.ev ht hx;generalize qg:a.eval x=v1 at h1;cases h1;exact⟨_,by unfold execOp;rw[ho];simp only[qg];rfl,.val _⟩)
def arK{x:Ur}{i:Nat}{l:SC}{av:AV}(ho:o.op=.extract x i)(hx:s.ev x=some (.aL l))(hi:l[i]?=some av):dL lv P r o s (av):=
 s9 (λE V a jA ht=>by
  have h1:=au.ev ht hx;generalize qg:a.eval x=v1 at h1;cases h1 with
  |aL hs h=>
   rename_i cs;have hlt:i<cs.size:=(by rw[hs];exact(Tq.1 hi).1);refine⟨cs[i],?_,?_⟩
   ·unfold execOp;rw[ho];simp only[qg,Instr.extract,Tn hlt];rfl
   ·have:=h i av hi;rwa[Ti,Tn hlt]at this)
end
def add_plain(b o n:Nat):(⟨b,o,none⟩:WC).add n=⟨b,o+n,none⟩:=by
 unfold ayc;split
 ·rename_i h;subst h;rfl
 ·rfl
def AS.at (s:AS):AV->Option (SC)
 |.rp l=>some l
 |.op id off=>match s.H[id]?with
  |some (.cells l _)=>some (l.drop off)
  |some (.part _ l _)=>some (l.drop off)
  |some (.own _ l _)=>some (l.drop off)
  |_=>none
 |_=>none
def AV.shift (n:Nat):AV->Option AV
 |.rp l=>if n<=l.length then some (.rp (l.drop n))else none
 |.op id off=>some (.op id (off+n))
 |_=>none
def Conc.at{E:Env}{V:View}{s:AS}(hc:Conc E V s.H){p:AV}{v:Uf}(hd:au E p v){l:SC}(h:s.at p=some l):
  ∃(b o:Nat)(f:Nat->Uf),v=.pointer (some ⟨b,o,none⟩)/\(∀i,i<l.length->V.get b (o+i)=some (f i))/\(0<l.length->V.role.group≠some b)/\∀(i:Nat) x,l[i]?=some x->au E x (f i):=by
 cases hd with
 |rp b o f h1 h2=>
  cases h;exact⟨b,o,f,rfl,λi hi=>by unfold View.get;rw[<- hc.I,h1 i hi],λhp=>(hc.acM (h1 0 hp)).1,h2⟩
 |op hi=>
  rename_i id off;simp only[AS.at]at h;cases hk:s.H[id]?with
  |none=>rw[hk]at h;cases h
  |some ob=>
   rw[hk]at h;cases ob with
   |cells l' el=>
    cases h;obtain⟨⟨cs,ho,hs,bx⟩,l9⟩:=hc.obj id _ hk;refine⟨E.blk id,off,λi=>cs.getD (off+i) undef,rfl,λi hi=> ?_,λ_=>(hc.jH hk rfl).1,λi x hx=> ?_⟩
    ·unfold View.get;rw[l9,ho];simp only[Vr]at hi;have hlt:off+i<cs.size:=(by omega);simp only[Ti,Tn hlt,Ua]
    ·rw[Vs]at hx;exact bx _ _ hx
   |part p l' el=>
    cases h;obtain⟨⟨cs,ho,⟨hs,bx⟩,mL⟩,l9⟩:=hc.obj id _ hk;refine⟨E.blk id,off,λi=>cs.getD (off+i) undef,rfl,λi hi=> ?_,λ_=>(hc.jH hk rfl).1,λi x hx=> ?_⟩
    ·simp only[Vr]at hi;have hlt:off+i<cs.size:=(by omega);unfold View.get;by_cases hp:off+i<p
     ·rw[mL _ hp];simp only[Ti,Tn hlt,Ua]
     ·rw[l9 _ (by omega),ho];simp only[Ti,Tn hlt,Ua]
    ·rw[Vs]at hx;exact bx _ _ hx
   |own sz l' el=>
    cases h;obtain⟨⟨cs,ho,⟨hs,bx⟩,_⟩,l9⟩:=hc.obj id _ hk;refine⟨E.blk id,off,λi=>cs.getD (off+i) undef,rfl,λi hi=> ?_,λ_=>(hc.jH hk rfl).1,λi x hx=> ?_⟩
    ·simp only[Vr]at hi;have hlt:off+i<cs.size:=(by omega);unfold View.get;rw[l9,ho];simp only[Ti,Tn hlt,Ua]
    ·rw[Vs]at hx;exact bx _ _ hx
   |_=>cases h
 |_=>cases h
def au.shift{E:Env}{p q:AV}{v:Uf}(hd:au E p v){n:Nat}(h:p.shift n=some q):∃b o,v=.pointer (some ⟨b,o,none⟩)/\au E q (.pointer (some ⟨b,o+n,none⟩)):=by
 cases hd with
 |rp b o f h1 h2=>
  simp only[AV.shift]at h;split at h
  ·rename_i hn;cases h;refine⟨b,o,rfl,.rp b (o+n) (λi=>f (n+i)) (λi hi=> ?_) (λi x hx=> ?_)⟩
   ·simp only[Vr]at hi;rw[Wa];exact h1 _ (by omega)
   ·rw[Vs]at hx;exact h2 _ _ hx
  ·cases h
 |op hi=>cases h;exact⟨_,_,rfl,.op hi⟩
 |_=>cases h
section
variable {P:Tl}{V:View}{α:Type}{K:α->View->Prop}{Kp:SS}
def eM{t:TypeId}{d:TypeDesc}{k:TypeDesc->Sem α}(h:P.underlying t=some d)(hk:aU P V (k d) K Kp):aU P V (underlying t>>=k) K Kp:=by
 unfold underlying;refine aA (aA (rD (cN ?_)));rw[h];exact ay hk
def Af{t:TypeId}{i:Xp}{k:Xp->Sem α}(h:P.info? t=some i)(hk:aU P V (k i) K Kp):aU P V (typeInfo t>>=k) K Kp:=by
 unfold typeInfo;refine aA (aA (rD (cN ?_)));rw[h];exact ay hk
def kq{t:TypeId}{i:Xp}{k:Nat->Sem α}(h:P.info? t=some i)(hk:aU P V (k i.size) K Kp):aU P V (sizeOf t>>=k) K Kp:=by
 refine aA ?_;unfold sizeOf;exact Af h (ay hk)
def TypeDesc.agg:TypeDesc->Bool
 |.struct _|.array _ _=>true
 |_=>false
def FS{t:TypeId}{d:TypeDesc}{k:Bool->Sem α}(h:P.underlying t=some d)(hk:aU P V (k (TypeDesc.agg d)) K Kp):aU P V (isAgg t>>=k) K Kp:=by
 refine aA ?_;unfold isAgg;refine eM h ?_;cases d<;>exact ay hk
def as9{b o:Nat}{v:Uf}{k:Uf->Sem α}(hg:V.role.group≠some b)(e:V.get b o=some v)(hk:aU P V (k v) K Kp):aU P V (load ⟨b,o,none⟩>>=k) K Kp:=
 aA (P4 e (.inl hg) (cN hk))
def aeI{b o:Nat}{f:Nat->Uf}{K:Array Uf->View->Prop}:∀(n i:Nat)(acc:SG),(0<n->V.role.group≠some b)->(∀j,j<n->V.get b (o+(i+j))=some (f (i+j)))->
  K (acc++((T1 n).map λj=>f (i+j)).toArray) V->aU P V (loadCellsFrom ⟨b,o,none⟩ i n acc) K Kp
 |0,i,acc,_,_,h=>ay (by simpa using h)
 |n+1,i,acc,hg,he,h=>by
  have h0:=he 0 (by omega);unfold loadCellsFrom;rw[add_plain];refine as9 (hg (by omega)) h0 ?_;refine aeI n (i+1) _ (λ_=>hg (by omega)) (λj hj=>by have:=he (j+1) (by omega);rwa[show i+(j+1)=i+1+j by omega]at this) ?_;have e:(acc.push (f (i+0))++((T1 n).map λj=>f (i+1+j)).toArray)=acc++((T1 (n+1)).map λj=>f (i+j)).toArray:=by
   rw[List.range_succ_eq_map];apply WT;simp[Zy,Wa,axK 1]
  rw[e];exact h
def Cr{b o n:Nat}{f:Nat->Uf}(hg:0<n->V.role.group≠some b){K:Array Uf->View->Prop}(he:∀j,j<n->V.get b (o+j)=some (f j))(h:K ((T1 n).map f).toArray V):aU P V (loadCells ⟨b,o,none⟩ n) K Kp:=
 aeI n 0 #[] hg (λj hj=>by simpa using he j hj) (by simpa using h)
end
def lz{α β:Type}{x:Option α}{f:α->β}{y:β}(h:x.map f=some y):∃a,x=some a/\f a=y:=Uv.1 h
def Ty (P:Tl)(t:TypeId):Option (Nat×Bool):=(P.info? t).bind λi=>(P.underlying t).map λd=>(i.size,TypeDesc.agg d)
def Ty.out{P:Tl}{t:TypeId}{n:Nat}{g:Bool}(h:Ty P t=some (n,g)):∃i d,P.info? t=some i/\P.underlying t=some d/\i.size=n/\TypeDesc.agg d=g:=by
 unfold Ty at h;obtain⟨i,h1,h2⟩:=Um.1 h;obtain⟨d,h3,h4⟩:=lz h2;cases h4;exact⟨i,d,h1,h3,rfl,rfl⟩
def K7{E:Env}{l:SC}{f:Nat->Uf}{n:Nat}(hn:n<=l.length)(h:∀(i:Nat) x,l[i]?=some x->au E x (f i)):au E (.agg (l.take n)) (.agg ((T1 n).map f).toArray):=by
 refine .agg (by simp;omega) λi x hx=> ?_;rw[Vm]at hx;split at hx
 ·rename_i hi;have:=h i x hx;simpa[Ti,hi]using this
 ·cases hx
def AV.row:AV->Option (Nat×AV)
 |.sl n l _=>some (n,.rp l)
 |.bC id off n _=>some (n,.op id off)
 |_=>none
def au.row{E:Env}{a p:AV}{v:Uf}{n:Nat}(hd:au E a v)(h:a.row=some (n,p))(h0:0<n):∃b o cap,v=.slice (some ⟨b,o,none⟩) n cap/\au E p (.pointer (some ⟨b,o,none⟩)):=by
 cases hd with
 |sl b o cap f hc he h1 h2=>cases h;exact⟨b,o,cap,rfl,.rp b o f h1 h2⟩
 |nil he=>cases h;exact absurd h0 (by simp)
 |bC hi=>cases h;exact⟨_,_,_,rfl,.op hi⟩
 |_=>cases h
def AV.len:AV->Option Nat
 |.sl n _ _=>some n
 |.bC _ _ n _=>some n
 |_=>none
def au.len{E:Env}{a:AV}{v:Uf}{n:Nat}(hd:au E a v)(h:a.len=some n):∃ad cap,v=.slice ad n cap:=by
 cases hd with
 |sl b o cap f hc he h1 h2=>cases h;exact⟨_,_,rfl⟩
 |nil he=>cases h;exact⟨_,_,rfl⟩
 |bC hi=>cases h;exact⟨_,_,rfl⟩
 |_=>cases h
def eR (P:Tl)(t:TypeId)(k:Nat):Option Nat:=match P.underlying t with
 |some (.struct fs)=>match fs[k]?with
  |some f=>match P.info? f.type with
   |some i=>if i.size=0 then none else some f.offset
   |none=>none
  |none=>none
 |_=>none
def nG (P:Tl)(t:TypeId):Option (Option Nat×Nat):=match P.underlying t with
 |some (.array n e)=>(P.info? e).map λi=>(some n,i.size)
 |some (.slice e)=>(P.info? e).map λi=>(none,i.size)
 |_=>none
inductive yr where
 |slice|map|str|arr (n:Nat)
def lq (P:Tl)(t:TypeId):Option yr:=match P.underlying t with
 |some (.slice _)=>some .slice
 |some (.map _ _)=>some .map
 |some .string=>some .str
 |some (.array n _)=>some (.arr n)
 |_=>none
def Kq (P:Tl)(t:TypeId)(k:Nat):Option (Nat×Nat×Bool):=match P.underlying t with
 |some (.struct fs)=>match fs[k]?with
  |some f=>(Ty P f.type).map λx=>(f.offset,x.1,x.2)
  |none=>none
 |_=>none
def Kg (P:Tl)(t:TypeId):Option (Nat×Nat×Bool):=match P.underlying t with
 |some (.array n e)=>(Ty P e).map λx=>(n,x.1,x.2)
 |_=>none
section
variable {lv:Bool}{P:Tl}{r:SL}{o:Vo}{s:AS}{next:SV}{bad:AV->SV}
def arT{t:TypeId}{x:Ur}{p:AV}{l:SC}{n:Nat}(ho:o.op=.load t x)(ht:Ty P t=some (n,true))(hx:s.ev x=some p)(hl:s.at p=some l)(hlen:n<=l.length):dL lv P r o s (.agg (l.take n)):=
 jp (λE V a hc aH=>by
  obtain⟨i,d,h1,h2,rfl,h4⟩:=Ty.out ht;obtain⟨b,off,f,hv,hg,kG,hd⟩:=hc.at (au.ev aH hx) hl;unfold execOp;rw[ho];simp only[hv];refine aA ?_;unfold YB Wq;refine aA (ay ?_);unfold loadVar;refine FS h2 ?_;rw[h4];simp only[if_true];refine kq h1 ?_;refine aA (Cr (f:=f) (λh=>kG (by omega)) (λj hj=>hg j (by omega)) ?_);exact ay (ay ⟨rfl,_,rfl,K7 hlen hd⟩))
def arU{t:TypeId}{x:Ur}{p:AV}{l:SC}{n:Nat}{av:AV}(ho:o.op=.load t x)(ht:Ty P t=some (n,false))(hx:s.ev x=some p)(hl:s.at p=some l)(h0:l[0]?=some av):dL lv P r o s (av):=
 jp (λE V a hc aH=>by
  obtain⟨i,d,h1,h2,rfl,h4⟩:=Ty.out ht;obtain⟨b,off,f,hv,hg,kG,hd⟩:=hc.at (au.ev aH hx) hl;unfold execOp;rw[ho];simp only[hv];refine aA ?_;unfold YB Wq;refine aA (ay ?_);unfold loadVar;refine FS h2 ?_;rw[h4];simp only[UD,if_false];have hlen:0<l.length:=(Tq.1 h0).1;have l8:=hg 0 hlen;rw[VA]at l8;exact P4 l8 (.inl (kG hlen)) (cN (ay ⟨rfl,_,rfl,hd 0 av h0⟩)))
def AV.sure:AV->Bool
 |.rp _|.op _ _=>true
 |.fn (.func _) _ _=>true
 |.fn (.yield _) _ _=>true
 |.da _ _=>true
 |_=>false
def ar1{x:Ur}{p:AV}(ho:o.op=.nilCheck x)(hx:s.ev x=some p)(hp:p.sure=true):dL lv P r o s (p):=
 s9 (λE V a hc aH=>by
  have hd:=au.ev aH hx;refine⟨a.eval x,?_,hd⟩;unfold execOp;rw[ho];dsimp only;generalize a.eval x=v at hd⊢;cases hd with
  |rp=>rfl
  |op=>rfl
  |da=>rfl
  |fn ep ft h1 h2=>
   rename_i f _ _ _ _;cases f with
   |func=>rfl
   |yield=>rfl
   |_=>cases hp
  |_=>cases hp)
def arL{t:TypeId}{x:Ur}{k n:Nat}{p q:AV}(ho:o.op=.fieldAddr t x k)(ht:eR P t k=some n)(hx:s.ev x=some p)(hp:p.shift n=some q):dL lv P r o s (q):=
 jp (λE V a hc aH=>by
  obtain⟨b,off,hv,hq⟩:=(au.ev aH hx).shift hp;unfold eR at ht;split at ht
  ·rename_i fs hu;split at ht
   ·rename_i f hf;split at ht
    ·rename_i i hi;split at ht
     ·cases ht
     ·rename_i hz;cases ht;unfold execOp;rw[ho];simp only[hv];refine aA ?_;unfold Instr.fieldAt;refine eM hu ?_;simp only[hf];unfold Wq;refine aA (ay ?_);unfold fieldPlace;refine aA (kq hi ?_);rw[if_neg hz];refine ay (ay (ay ⟨rfl,_,rfl,?_⟩));rw[add_plain];exact hq
    ·cases ht
   ·cases ht
  ·cases ht)
def arN{t:TypeId}{x ix:Ur}{a p q:AV}{k:U3}{i:Int}{n sz:Nat}(ho:o.op=.indexAddr t x ix)(ht:nG P t=some (none,sz))(hx:s.ev x=some a)(ha:a.row=some (n,p))(hi:s.ev ix=some (.val (.int k i)))(h0:0<=i)(h1:i<n)
  (hp:p.shift (i.toNat* sz)=some q):dL lv P r o s (q):=
 jp (λE V ac hc aH=>by
  obtain⟨b,off,cap,hv,BI⟩:=(au.ev aH hx).row ha (by omega);obtain⟨b',o',hb,hq⟩:=BI.shift hp;cases hb;have hd:=au.ev aH hi;generalize rn:ac.eval ix=vi at hd;cases hd;unfold nG at ht;split at ht
  ·obtain⟨_,_,h⟩:=lz ht;cases h
  ·rename_i e hu;obtain⟨inf,Nd,h⟩:=lz ht;cases h;unfold execOp;rw[ho];simp only[hv,rn];refine aA ?_;unfold au_ asIntOf;refine aA (ay ?_);dsimp only;refine eM hu ?_;refine aA (ay ?_);dsimp only;refine eM hu ?_;dsimp only;rw[if_pos ⟨h0,h1⟩];refine kq Nd ?_;refine ay (ay ⟨rfl,_,rfl,?_⟩);rw[add_plain];exact hq
  ·cases ht)
def arO{t:TypeId}{x ix:Ur}{p q:AV}{k:U3}{i:Int}{n sz:Nat}(ho:o.op=.indexAddr t x ix)(ht:nG P t=some (some n,sz))(hx:s.ev x=some p)(hi:s.ev ix=some (.val (.int k i)))(h0:0<=i)(h1:i<n)
  (hp:p.shift (i.toNat* sz)=some q):dL lv P r o s (q):=
 jp (λE V ac hc aH=>by
  obtain⟨b,off,hv,hq⟩:=(au.ev aH hx).shift hp;have hd:=au.ev aH hi;generalize rn:ac.eval ix=vi at hd;cases hd;unfold nG at ht;split at ht
  ·rename_i m e hu;obtain⟨inf,Nd,h⟩:=lz ht;cases h;unfold execOp;rw[ho];simp only[hv,rn];refine aA ?_;unfold au_ asIntOf;refine aA (ay ?_);dsimp only;refine eM hu ?_;dsimp only;unfold Wq;refine aA (aA (ay (ay ?_)));refine eM hu ?_;dsimp only;rw[if_pos ⟨h0,h1⟩];refine kq Nd ?_;refine ay (ay ⟨rfl,_,rfl,?_⟩);rw[add_plain];exact hq
  ·obtain⟨_,_,h⟩:=lz ht;cases h
  ·cases ht)
def aem{c:Ys}{x:Ur}{t:TypeId}{a:AV}{n:Nat}(ho:o.op=.call c)(bi:c.callee=.builtin .len)(sQ:c.args[0]?=some x)(zC:c.argTypes[0]?=some t)(ht:lq P t=some .slice)(hx:s.ev x=some a)(ha:a.len=some n):dL lv P r o s (.val (.int .i64 n)):=
 jp (λE V ac hc aH=>by
  obtain⟨ad,cap,hv⟩:=(au.ev aH hx).len ha;unfold lq at ht;split at ht<;>cases ht;rename_i e hu;unfold execOp;rw[ho];dsimp only;unfold resolve;rw[bi];dsimp only;refine aA (ay ?_);unfold invoke builtin;dsimp only;refine aA ?_;unfold Zm;have e1:(c.args.map ac.eval)[0]?=some (.slice ad n cap):=by simp[sQ,hv]
  simp only[zC,e1];refine eM hu ?_;exact ay (ay ⟨rfl,_,rfl,.val _⟩))
def arS{c:Ys}{x:Ur}{t:TypeId}{b:ByteArray}(ho:o.op=.call c)(bi:c.callee=.builtin .len)(sQ:c.args[0]?=some x)(zC:c.argTypes[0]?=some t)(ht:lq P t=some .str)(hx:s.ev x=some (.val (.string b))):dL lv P r o s (.val (.int .i64 b.size)):=
 jp (λE V ac hc aH=>by
  have hd:=au.ev aH hx;generalize hv:ac.eval x=v at hd;cases hd;unfold lq at ht;split at ht<;>cases ht;rename_i hu;unfold execOp;rw[ho];dsimp only;unfold resolve;rw[bi];dsimp only;refine aA (ay ?_);unfold invoke builtin;dsimp only;refine aA ?_;unfold Zm;have e1:(c.args.map ac.eval)[0]?=some (.string b):=by simp[sQ,hv]
  simp only[zC,e1];refine eM hu ?_;exact ay (ay ⟨rfl,_,rfl,.val _⟩))
abbrev TC:=Array MapEntry
def arR{c:Ys}{x:Ur}{t:TypeId}{id:Nat}{es:TC}{ck:Nat}(ho:o.op=.call c)(bi:c.callee=.builtin .len)(sQ:c.args[0]?=some x)(zC:c.argTypes[0]?=some t)(ht:lq P t=some .map)(hx:s.ev x=some (.mp id))(hk:s.H[id]?=some (.obj (.map es ck))):dL lv P r o s (.val (.int .i64 es.size)):=
 jp (λE V ac hc aH=>by
  have hd:=au.ev aH hx;generalize hv:ac.eval x=v at hd;cases hd;obtain⟨h1,h2,h3,h4⟩:=hc.obj id _ hk;unfold lq at ht;split at ht<;>cases ht;rename_i hu;unfold execOp;rw[ho];dsimp only;unfold resolve;rw[bi];dsimp only;refine aA (ay ?_);unfold invoke builtin;dsimp only;refine aA ?_;unfold Zm;have e1:(c.args.map ac.eval)[0]?=some (.map (some (E.blk id))):=by simp[sQ,hv]
  simp only[zC,e1];refine eM hu ?_;refine aA (oH h1 h2 h3 (hc.jH hk rfl).2 (cN ?_));exact ay (ay ⟨rfl,_,rfl,.val _⟩))
def aeK{t:TypeId}{n off:Nat}{g:Bool}{E:Env}{V:View}{l:SC}{cs:SG}{K:SS}{Kp:SS}(ht:Ty P t=some (n,g))(hd:cO E l cs)(hl:off+n<=l.length)(hn:g=false->0<n)
  (h:∀v,(g=true->au E (.agg ((l.drop off).take n)) v)->(g=false->∀a,l[off]?=some a->au E a v)->K v V):aU P V (part t cs off) K Kp:=by
 obtain⟨i,d,h1,h2,rfl,h4⟩:=Ty.out ht;unfold part;refine FS h2 ?_;rw[h4];cases g with
 |true=>
  simp only[if_true];refine kq h1 (ay (h _ (λ_=> .agg (by have:=hd.1;simp;omega) λj a e=> ?_) (by simp)));rw[Vm]at e;split at e
  ·rename_i hj;rw[Vs]at e;have:=hd.2 _ _ e;have hlt:off+j<cs.size:=(by rw[hd.1];omega);have anf:j<(cs.extract off (off+i.size)).size:=(by have:=hd.1;simp;omega);rw[Ti,Tn anf];rw[Ti,Tn hlt]at this;simpa using this
  ·cases e
 |false=>
  simp only[UD,if_false];have hlt:off<cs.size:=by have:=hn rfl;rw[hd.1];omega
  rw[Tn hlt];refine ay (h _ (by simp) λ_ a e=> ?_);have:=hd.2 _ _ e;rwa[Ti,Tn hlt]at this
def AV.cut (l:SC)(off n:Nat)(g:Bool):Option AV:=if off+n<=l.length/\(g=false->0<n)then(if g then some (.agg ((l.drop off).take n))else l[off]?)else none
def arM{t:TypeId}{x:Ur}{k off n:Nat}{g:Bool}{l:SC}{av:AV}(ho:o.op=.field t x k)(ht:Kq P t k=some (off,n,g))(hx:s.ev x=some (.agg l))(hv:AV.cut l off n g=some av):dL lv P r o s av:=
 jp (λE V a hc aH=>by
  have hd:=au.ev aH hx;generalize he:a.eval x=v at hd;cases hd with
  |agg hs h=>
   unfold Kq at ht;split at ht
   ·rename_i fs hu;split at ht
    ·rename_i f hf;obtain⟨⟨n',g'⟩,h1,h2⟩:=lz ht;cases h2;unfold AV.cut at hv;split at hv
     ·rename_i zh;unfold execOp;rw[ho];simp only[he];refine aA ?_;unfold Instr.field;refine eM hu ?_;simp only[hf];unfold asAgg;refine aA (ay ?_);refine aeK h1 ⟨hs,h⟩ zh.1 zh.2 λv h3 h4=>ay ⟨rfl,v,rfl,?_⟩;cases g' with
      |true=>simp only[if_true,Us]at hv;subst hv;exact h3 rfl
      |false=>simp only[UD,if_false]at hv;exact h4 rfl _ hv
     ·cases hv
    ·cases ht
   ·cases ht)
def arQ{t:TypeId}{x ix:Ur}{n sz:Nat}{g:Bool}{l:SC}{av:AV}{k:U3}{i:Int}(ho:o.op=.index t x ix)(ht:Kg P t=some (n,sz,g))(hx:s.ev x=some (.agg l))(hi:s.ev ix=some (.val (.int k i)))(h0:0<=i)(h1:i<n)(hv:AV.cut l (i.toNat* sz) sz g=some av):dL lv P r o s av:=
 jp (λE V a hc aH=>by
  have hd:=au.ev aH hx;generalize he:a.eval x=v at hd;have oX:=au.ev aH hi;generalize MU:a.eval ix=vi at oX;cases oX;cases hd with
  |agg hs h=>
   unfold Kg at ht;split at ht
   ·rename_i m e hu;obtain⟨⟨n',g'⟩,h2,h3⟩:=lz ht;cases h3;unfold AV.cut at hv;split at hv
    ·rename_i zh;obtain⟨inf,d,q1,q2,q3,q4⟩:=Ty.out h2;unfold execOp;rw[ho];simp only[he,MU];refine aA ?_;unfold axd asIntOf;refine aA (ay ?_);dsimp only;refine eM hu ?_;dsimp only;rw[if_pos ⟨h0,h1⟩];refine kq q1 ?_;rw[q3];refine aeK h2 ⟨hs,h⟩ zh.1 zh.2 λv h4 h5=>ay ⟨rfl,v,rfl,?_⟩;cases g' with
     |true=>simp only[if_true,Us]at hv;subst hv;exact h4 rfl
     |false=>simp only[UD,if_false]at hv;exact h5 rfl _ hv
    ·cases hv
   ·cases ht)
def arP{t:TypeId}{x ix:Ur}{b:ByteArray}{k:U3}{i:Int}{c:UInt8}(ho:o.op=.index t x ix)(ht:lq P t=some .str)(hx:s.ev x=some (.val (.string b)))(hi:s.ev ix=some (.val (.int k i)))(h0:0<=i)(h1:b[i.toNat]?=some c):dL lv P r o s (.val (.int .u8 c.toNat)):=
 jp (λE V a hc aH=>by
  have hd:=au.ev aH hx;generalize he:a.eval x=v at hd;have oX:=au.ev aH hi;generalize MU:a.eval ix=vi at oX;cases oX;cases hd;unfold lq at ht;split at ht<;>cases ht;rename_i hu;unfold execOp;rw[ho];simp only[he,MU];refine aA ?_;unfold axd asIntOf;refine aA (ay ?_);dsimp only;refine eM hu ?_;dsimp only;rw[if_pos h0,h1];exact ay (ay ⟨rfl,_,rfl,.val _⟩))
def Sn{E:Env}{s:AS}{a:Act}(k:cC E s.T a.tmps){l:Array Ur}{aJ:SC}(h:l.toList.mapM s.ev=some aJ):cO E aJ (l.map a.eval):=by
 have key:∀(l:List Ur)(aJ:SC),l.mapM s.ev=some aJ->cO E aJ (l.map a.eval).toArray:=by
  intro l;induction l with
  |nil=>intro aJ h;simp at h;subst h;exact⟨rfl,by simp⟩
  |cons x l ih=>
   intro aJ h;simp only[Vb,Vk,UX,Um,Us]at h;obtain⟨b,h1,bs,h2,rfl⟩:=h;have:=ih bs h2;refine⟨by have:=this.1;simpa using this,λi c e=> ?_⟩;cases i with
   |zero=>simp at e;subst e;simpa[Ti]using au.ev k h1
   |succ i=>
    simp only[VP]at e;have:=this.2 i c e;simpa[Ti]using this
 have:=key l.toList aJ h;have e:l.map a.eval=(l.toList.map a.eval).toArray:=by apply WT;simp
 rw[e];exact this
def arW{f:Fn}{first cZ:Array Ur}{fa ca:SC}(ho:o.op=.makeFunc f first cZ)(h1:first.toList.mapM s.ev=some fa)(h2:cZ.toList.mapM s.ev=some ca):dL lv P r o s (.fn f fa ca):=
 s9 (λE V a hc ht=>by
  have d1:=Sn ht h1;have d2:=Sn ht h2;exact⟨_,by unfold execOp;rw[ho];rfl,.fn d1.1 d2.1 d1.2 d2.2⟩)
def mR (P:Tl)(t:TypeId):Option Bool:=(P.underlying t).map λ|.interface _=>true|_=>false
def arX{t:TypeId}{x:Ur}{av:AV}(ho:o.op=.makeInterface t x)(ht:mR P t=some false)(hx:s.ev x=some av):dL lv P r o s (.da t av):=
 jp (λE V a hc aH=>by
  obtain⟨d,hu,hd⟩:=lz ht;unfold execOp;rw[ho];dsimp only;refine aA ?_;unfold Instr.makeInterface;refine eM hu ?_;split
  ·cases hd
  ·exact ay (ay ⟨rfl,_,rfl,.da (au.ev aH hx)⟩))
def CO (P:Tl)(src dst:TypeId):Option (Option U3):=(P.underlying src).bind λ_=>match P.underlying dst with
 |some (.int k)=>some (some k)
 |_=>none
def arH{src dst:TypeId}{x:Ur}{k j:U3}{n:Int}(ho:o.op=.convert src dst x)(ht:CO P src dst=some (some k))(hx:s.ev x=some (.val (.int j n))):dL lv P r o s (.val (.int k (k.wrap n))):=
 jp (λE V a hc aH=>by
  have hd:=au.ev aH hx;generalize he:a.eval x=v at hd;cases hd;unfold CO at ht;obtain⟨d,h1,h2⟩:=Um.1 ht;split at h2
  ·rename_i k' hu;cases h2;unfold execOp;rw[ho];simp only[he];refine aA ?_;unfold convert;refine eM h1 (eM hu ?_);dsimp only;exact ay (ay ⟨rfl,_,rfl,.val _⟩)
  ·cases h2)
end
open Go.Conc
def Env.add (E:Env)(r:Nat)(I:cG):Env:={E with I:=I,n:=E.n+1,blk:=λk=>if k=E.n then r else E.blk k}
def Env.ru(E:Env)(r:Nat){I:cG}(hI:∀b o v,E.I b o=some v->I b o=some v):E.Le (E.add r I):=
 ⟨hI,Z3 _,λk hk=>by simp[Env.add,Xg hk],λ_ _=>Ts _,λ_ _ _ _=>rfl,rfl,rfl⟩
def View.fe (V:View)(b:Nat)(cs:SG)(p:Nat->Bool):View:={V with ai:=λb' o=>if b'=b/\p o=true then cs[o]?else V.ai b' o}
def yV{V:View}{b:Nat}{cs:SG}{el:TypeId}{f:Nat×Nat}{p:Nat->Bool}(ho:V.own b=some (.cells cs el f))(hp:∀o,p o=true->V.ai b o=none):ey V (V.fe b cs p)where
 sat w h:=⟨λb' o v e=>by
   simp only[View.fe]at e;split at e
   ·rename_i hb;obtain⟨rfl,_⟩:=hb;have:=h.own _ _ ho;simpa[VC,this]using e
   ·exact h.ai _ _ _ e,λb' x e=>h.own b' x e⟩
 own b' e:=e
 ai b' o v e:=by
  have hn:¬(b'=b/\p o=true):=λhb=>by obtain⟨rfl,h2⟩:=hb;rw[hp o h2]at e;cases e
  simp only[View.fe,if_neg hn];exact e
 kZ b' o v e:=by
  simp only[View.fe]at e;split at e
  ·rename_i hb;obtain⟨rfl,_⟩:=hb;exact .inr (by rw[ho];simp)
  ·exact .inl e
 deaf:=rfl
 role:=rfl
 chan c x _ h:=h
def View.kJ (V:View)(r:Nat)(cs:SG):View:={V with ai:=λb o=>if b=r then cs[o]?else V.ai b o}
def alX{V:View}{r:Nat}{cs:SG}{el:TypeId}{f:Nat×Nat}(hf:V.fresh r)(hc:V.role.chan≠some r):ey (V.upd r (.cells cs el f)) (V.kJ r cs)where
 sat w h:=⟨λb o v e=>by
   simp only[View.kJ]at e;split at e
   ·rename_i hb;subst hb;have:=h.own b (.cells cs el f) (by simp[View.upd]);simpa[VC,this]using e
   ·exact h.ai b o v e,λb x e=>by
   have hb:b≠r:=λhb=>(by subst hb;rw[show (V.kJ b cs).own b=V.own b from rfl,hf.1]at e;cases e);have e':V.own b=some x:=e;exact h.own b x (by simpa[View.upd,hb]using e')⟩
 own b e:=by
  simp only[View.upd]at e;split at e
  ·cases e
  ·exact e
 ai b o v e:=by
  have e':V.ai b o=some v:=e;have hb:b≠r:=λhb=>by subst hb;rw[hf.2 o]at e';cases e'
  simpa[View.kJ,hb]using e'
 kZ b o v e:=by
  simp only[View.kJ]at e;split at e
  ·rename_i hb;exact .inr (by simp[View.upd,hb])
  ·exact .inl e
 deaf:=rfl
 role:=rfl
 chan c x hcx h:=by
  have hb:c≠r:=λhb=>by subst hb;exact hc hcx
  have h':V.own c=some x:=by simpa[View.upd,hb]using h
  exact h'
def Conc.alN{E:Env}{V:View}{H:SA}(hc:Conc E V H){r:Nat}(hf:V.own r=none):V.role.chan≠some r/\V.role.group≠some r:=
 ⟨λe=>(hc.chan r e).1 hf,λe=>(hc.group r e).1 hf⟩
def Conc.add{E:Env}{V:View}{H:SA}(hc:Conc E V H){r:Nat}(hf:V.fresh r)(y:Obj){x:aa}(hx:gw (E.add r V.ai) (V.upd r y) E.n x)(hb:∀b,bT (E.add r V.ai) E.n x=some b->b=r):Conc (E.add r V.ai) (V.upd r y) (H++[x]):=by
 refine hc.ja (E':=E.add r V.ai) H.length x (E.ru r (λb o v h=>by rw[<- hc.I];exact h)) rfl (by simp[Env.add,hc.n]) Fq rfl (λ_ _ _=>rfl) (λb z _ hz=>⟨?_,λ_=>rfl⟩) (by rw[<- hc.n];exact hx) (λb h=> .inr ?_)
 ·have:b≠r:=λe=>by rw[e,hf.1]at hz;cases hz
  simpa[View.upd,this]using hz
 ·rw[<- hc.n]at h;rw[hb b h];exact hf.1
def Env.dZ(E:Env)(r:Nat)(I:cG):(E.add r I).blk E.n=r:=by simp[Env.add]
def Sp{E:Env}{H:SA}(hn:E.n=H.length)(r:Nat)(I:cG):au (E.add r I) (.op H.length 0) (.pointer (some ⟨r,0,none⟩)):=by
 have:=au.op (E:=E.add r I) (id:=H.length) (off:=0) (by show _<E.n+1;rw[hn];omega);have e:(E.add r I).blk H.length=r:=by rw[<- hn];exact E.dZ r I
 rwa[e]at this
def AV.parts:AV->Option (SC)
 |.agg l=>some l
 |.aL _=>none
 |.val (.agg _)=>none
 |a=>some [a]
def au.parts{E:Env}{a:AV}{v:Uf}{l:SC}(h:au E a v)(hp:a.parts=some l):cO E l v.cells:=by
 have one:∀a v,au E a v->v.cells=#[v]->cO E [a] v.cells:=λa v h e=>by
  rw[e];refine⟨rfl,λi x hx=> ?_⟩;have hi:i=0:=by have:=(Tq.1 hx).1;simpa using this
  subst hi;simp at hx;subst hx;simpa using h
 cases h with
 |val=>cases v<;>first|(cases hp;exact one _ _ (.val _) rfl)|cases hp
 |agg hs h=>cases hp;exact⟨hs,h⟩
 |aL hs h=>cases hp
 |sl b o cap f hc he h1 h2=>cases hp;exact one _ _ (.sl b o cap f hc he h1 h2) rfl
 |nil he=>cases hp;exact one _ _ (.nil he) rfl
 |bC hi eo=>cases hp;exact one _ _ (.bC hi eo) rfl
 |rp b o f h1 h2=>cases hp;exact one _ _ (.rp b o f h1 h2) rfl
 |op hi=>cases hp;exact one _ _ (.op hi) rfl
 |fn ep ft h1 h2=>cases hp;exact one _ _ (.fn ep ft h1 h2) rfl
 |da h=>cases hp;exact one _ _ (.da h) rfl
 |mp hi=>cases hp;exact one _ _ (.mp hi) rfl
def fh (P:Tl)(t:TypeId):Option Uf:=(P.info? t).bind (·.zero)
def mv (z:Uf):SC:=z.cells.toList.map AV.qu
def K_(E:Env)(z:Uf):cO E (mv z) z.cells:=by
 refine⟨by simp[mv],λi a h=> ?_⟩;unfold mv at h;rw[Ut]at h;obtain⟨x,hx,rfl⟩:=Uv.1 h;have:z.cells[i]?=some x:=by simpa using hx
 rw[Ti,this];exact K5 E x
section
variable {P:Tl}{V:View}{α:Type}{K:α->View->Prop}{Kp:SS}
def Jy{t:TypeId}{z:Uf}{k:Uf->Sem α}(h:fh P t=some z)(hk:aU P V (k z) K Kp):aU P V (zeroValue t>>=k) K Kp:=by
 unfold fh at h;obtain⟨i,h1,h2⟩:=Um.1 h;refine aA ?_;unfold zeroValue;refine Af h1 ?_;rw[h2];exact ay hk
end
section
variable {lv:Bool}{P:Tl}{r:SL}{o:Vo}{s:AS}{next:SV}{bad:AV->SV}
def afi{t:TypeId}{l:SC}(h:∀(E:Env)(V:View)(a:Act),Conc E V s.H->cC E s.T a.tmps->∃cs,cO E l cs/\aU P V (execOp a.eval o) (λnx V'=>∃rr,V.fresh rr/\V'=V.upd rr (.cells cs t)/\nx=.value (.pointer (some ⟨rr,0,none⟩))) (λ_ _=>False))
  (hn:next ((⟨s.T,s.H++[.cells l t]⟩:AS).put o.dst (.op s.H.length 0))):Step lv P r o s next bad:=by
 intro E V a N Q hc ht hd bI h1 _;obtain⟨cs,pV,rj⟩:=h E V a hc ht;refine⟨bI,rj.mono (λnx V' hx=> ?_) (λ_ _ hx=>hx.elim)⟩;obtain⟨rr,hf,rfl,rfl⟩:=hx;have hle:E.Le (E.add rr V.ai):=E.ru rr (λb o v h=>by rw[<- hc.I];exact h);have bw:Conc (E.add rr V.ai) (V.upd rr (.cells cs t)) (s.H++[.cells l t]):=by
  refine hc.add hf _ ⟨⟨cs,?_,pV.mono hle⟩,λo=> ?_⟩ (λb e=> ?_)
  ·rw[Env.dZ];simp[View.upd]
  ·rw[Env.dZ];exact hf.2 o
  ·simp only[bT,Env.dZ,Us]at e;exact e.symm
 exact h1 _ _ (a.put o.dst (.pointer (some ⟨rr,0,none⟩))) ((⟨s.T,s.H++[.cells l t]⟩:AS).put o.dst (.op s.H.length 0)) ⟨hle,eF _ _ _,put_defers _ _ _,rfl,rfl⟩ (by rw[fK];exact bw)
  (cC.iG (s:=⟨s.T,s.H++[.cells l t]⟩) (ht.mono hle) hd (Sp hc.n rr V.ai)) hn
def afe{t:TypeId}{x:Ur}{av:AV}{l:SC}(ho:o.op=.box t x)(hx:s.ev x=some av)(hl:av.parts=some l)(hn:next ((⟨s.T,s.H++[.cells l t]⟩:AS).put o.dst (.op s.H.length 0))):Step lv P r o s next bad:=
 afi (λE V a hc ht=>⟨(a.eval x).cells,(au.ev ht hx).parts hl,by
  unfold execOp;rw[ho];dsimp only;refine aA ?_;unfold Instr.box newVar newRow;refine aA (aA (aA (py λrr hf=>cN (ay (ay (ay (ay ⟨rr,hf,rfl,rfl⟩)))))))⟩) hn
def afb{t:TypeId}{z:Uf}(ho:o.op=.alloc t)(hz:fh P t=some z)(hn:next ((⟨s.T,s.H++[.cells (mv z) t]⟩:AS).put o.dst (.op s.H.length 0))):Step lv P r o s next bad:=
 afi (λE V a hc ht=>⟨z.cells,K_ E z,by
  unfold execOp;rw[ho];dsimp only;refine aA ?_;unfold Instr.alloc;refine Jy hz ?_;unfold newVar newRow;refine aA (aA (aA (py λrr hf=>cN (ay (ay (ay (ay ⟨rr,hf,rfl,rfl⟩)))))))⟩) hn
def atZ{t:TypeId}(ho:o.op=.makeMap t none)(hn:next ((⟨s.T,s.H++[.obj (.map #[] 0)]⟩:AS).put o.dst (.mp s.H.length))):Step lv P r o s next bad:=by
 intro E V a N Q hc ht hd bI h1 _;refine⟨bI,?_⟩;unfold execOp;rw[ho];dsimp only;refine aA ?_;unfold Instr.makeMap;refine aA (py λrr hf=>cN (ay (ay ?_)));have hle:E.Le (E.add rr V.ai):=E.ru rr (λb o v h=>by rw[<- hc.I];exact h);have bw:Conc (E.add rr V.ai) (V.upd rr (.map #[] 0)) (s.H++[.obj (.map #[] 0)]):=by
  refine hc.add hf _ ⟨?_,rfl,rfl,λo=> ?_⟩ (λb e=> ?_)
  ·rw[Env.dZ];simp[View.upd]
  ·rw[Env.dZ];exact hf.2 o
  ·simp only[bT,Env.dZ,Us]at e;exact e.symm
 have bx:au (E.add rr V.ai) (.mp s.H.length) (.map (some rr)):=by
  have:=au.mp (E:=E.add rr V.ai) (id:=s.H.length) (by show _<E.n+1;rw[hc.n];omega);have e:(E.add rr V.ai).blk s.H.length=rr:=by rw[<- hc.n];exact E.dZ rr _
  rwa[e]at this
 exact h1 _ _ (a.put o.dst (.map (some rr))) ((⟨s.T,s.H++[.obj (.map #[] 0)]⟩:AS).put o.dst (.mp s.H.length)) ⟨hle,eF _ _ _,put_defers _ _ _,rfl,rfl⟩ (by rw[fK];exact bw)
  (cC.iG (s:=⟨s.T,s.H++[.obj (.map #[] 0)]⟩) (ht.mono hle) hd bx) hn
end
def storeAt:Array Uf->Nat->List Uf->Array Uf
 |cs,_,[]=>cs
 |cs,o,v::vs=>storeAt (cs.setIfInBounds o v) (o+1) vs
abbrev TE:=List Uf
def Ak:∀(vs:TE)(cs:SG)(o:Nat),(storeAt cs o vs).size=cs.size
 |[],_,_=>rfl
 |v::vs,cs,o=>by rw[storeAt,Ak];simp
def FZ:∀(vs:TE)(cs:SG)(o k:Nat),o+vs.length<=cs.size->(storeAt cs o vs).getD k undef=if o<=k/\k<o+vs.length then vs.getD (k-o) undef else cs.getD k undef
 |[],cs,o,k,_=>by
  have:¬(o<=k/\k<o+([]:TE).length):=by intro h;simp only[VL]at h;omega
  rw[if_neg this];rfl
 |v::vs,cs,o,k,h=>by
  simp only[Ve]at h;rw[storeAt,FZ vs _ (o+1) k (by simp;omega)];by_cases h1:k=o
  ·subst h1;rw[if_neg (by omega),if_pos (by simp)];simp[Ti,Ug (show k<cs.size by omega)]
  ·by_cases h2:o+1<=k/\k<o+1+vs.length
   ·rw[if_pos h2,if_pos (by simp only[Ve];omega)];have:k-o=(k-(o+1))+1:=(by omega);rw[this];simp[Tf]
   ·rw[if_neg h2,if_neg (by simp only[Ve];omega)];simp[Ti,T6 (Ne.symm h1)]
def avd(V:View)(b:Nat)(x y:Obj):(V.upd b x).upd b y=V.upd b y:=by
 unfold View.upd;congr 1;funext k;dsimp only;split<;>rfl
def ave{V:View}{b:Nat}{x:Obj}(h:V.own b=some x):V.upd b x=V:=by
 unfold View.upd;have:(λk=>if k=b then some x else V.own k)=V.own:=by
  funext k;split
  ·rename_i e;subst e;rw[h]
  ·rfl
 rw[this]
section
variable {P:Tl}{K:Unit->View->Prop}{Kp:SS}{b off:Nat}{el:TypeId}
def Ct:∀(vs:TE)(i:Nat)(V:View)(cs:SG),V.role.group≠some b->V.role.chan≠some b->V.own b=some (.cells cs el (0,0))->(∀o,off+i<=o->o<off+i+vs.length->V.ai b o=none)->off+i+vs.length<=cs.size->(∀v∈vs,v.one=true)->
  K () (V.upd b (.cells (storeAt cs (off+i) vs) el (0,0)))->aU P V (storeCells ⟨b,off,none⟩ vs i) K Kp
 |[],i,V,cs,hg,hc,ho,hi,hl,hv,h=>by
  unfold storeCells;rw[show storeAt cs (off+i) []=cs from rfl,ave ho]at h;exact ay h
 |v::vs,i,V,cs,hg,hc,ho,hi,hl,hv,h=>by
  unfold storeCells;rw[add_plain];simp only[Ve]at hl hi;refine aA (ate ho (by omega) (hi _ (by omega) (by omega)) (hv v (UH ..)) (by omega) (.inl hg) hc (cN ?_));refine Ct vs (i+1) (V.upd b (.cells (cs.setIfInBounds (off+i) v) el (0,0))) (cs.setIfInBounds (off+i) v) hg hc (by simp[View.upd]) (λo h1 h2=>hi o (by omega) (by omega)) (by simp;omega) (λx hx=>hv x (Uj _ hx)) ?_;rw[avd];exact h
end
def Conc.set{E:Env}{V:View}{H:SA}(hc:Conc E V H){id:Nat}{l l':SC}{el:TypeId}(hk:H[id]?=some (.cells l el)){fj:SG}(hd:cO E l' fj):Conc E (V.upd (E.blk id) (.cells fj el (0,0))) (H.set id (.cells l' el)):=by
 obtain⟨⟨cs,h1,_⟩,h3⟩:=hc.obj id _ hk;refine hc.ja id (.cells l' el) (Env.Le.refl E) hc.I (by simpa using hc.n) lQ rfl (λ_ _ _=>rfl) (λb y hb hy=>⟨?_,λ_=>rfl⟩) ⟨⟨fj,by simp[View.upd],hd⟩,h3⟩ (λb h=> .inl ⟨_,hk,h⟩);have:b≠E.blk id:=λe=>hb _ hk (by rw[e];rfl);simpa[View.upd,this]using hy
def afl:∀(vs:TE)(cs:SG)(off o:Nat),o<off->(storeAt cs off vs)[o]?=cs[o]?
 |[],_,_,_,_=>rfl
 |v::vs,cs,off,o,h=>by
  rw[storeAt,afl vs _ (off+1) o (by omega),T6 (by omega)]
def Conc.FU{E:Env}{V:View}{H:SA}(hc:Conc E V H){id p:Nat}{l l':SC}{el:TypeId}(hk:H[id]?=some (.part p l el)){cs fj:SG}(h1:V.own (E.blk id)=some (.cells cs el (0,0)))(hd:kv E l' fj)(hs:∀o,o<p->fj[o]?=cs[o]?):Conc E (V.upd (E.blk id) (.cells fj el (0,0))) (H.set id (.part p l' el)):=by
 obtain⟨⟨AW,q1,_,q2⟩,h3⟩:=hc.obj id _ hk;rw[h1]at q1;cases q1;refine hc.ja id (.part p l' el) (Env.Le.refl E) hc.I (by simpa using hc.n) lQ rfl (λ_ _ _=>rfl) (λb y hb hy=>⟨?_,λ_=>rfl⟩) ⟨⟨fj,by simp[View.upd],hd,λo ho=>(q2 o ho).trans (hs o ho).symm⟩,h3⟩ (λb h=> .inl ⟨_,hk,h⟩);have:b≠E.blk id:=λe=>hb _ hk (by rw[e];rfl);simpa[View.upd,this]using hy
def Conc.aeS{E:Env}{V:View}{H:SA}(hc:Conc E V H){id sz:Nat}{l l':SC}{el:TypeId}(hk:H[id]?=some (.own sz l el)){fj:SG}(hd:kv E l' fj)(hz:fj.size=(E.room id 0).2* sz):Conc E (V.upd (E.blk id) (.cells fj el (0,0))) (H.set id (.own sz l' el)):=by
 obtain⟨⟨cs,h1,_⟩,h3⟩:=hc.obj id _ hk;refine hc.ja id (.own sz l' el) (Env.Le.refl E) hc.I (by simpa using hc.n) lQ rfl (λ_ _ _=>rfl) (λb y hb hy=>⟨?_,λ_=>rfl⟩) ⟨⟨fj,by simp[View.upd],hd,hz⟩,h3⟩ (λb h=> .inl ⟨_,hk,h⟩);have:b≠E.blk id:=λe=>hb _ hk (by rw[e];rfl);simpa[View.upd,this]using hy
def Conc.setObj{E:Env}{V:View}{H:SA}(hc:Conc E V H){id:Nat}{x y:Obj}(hk:H[id]?=some (.obj x))(h1:y.wi=false)(h2:y.isChan=false):Conc E (V.upd (E.blk id) y) (H.set id (.obj y)):=by
 obtain⟨p1,p2,p3,p4⟩:=hc.obj id _ hk;refine hc.ja id (.obj y) (Env.Le.refl E) hc.I (by simpa using hc.n) lQ rfl (λ_ _ _=>rfl) (λb z hb hz=>⟨?_,λ_=>rfl⟩) ⟨by simp[View.upd],h1,h2,p4⟩ (λb h=> .inl ⟨_,hk,h⟩);have:b≠E.blk id:=λe=>hb _ hk (by rw[e];rfl);simpa[View.upd,this]using hz
def apg{E:Env}{a:AV}{v:Uf}(h:au E a v)(hl:a.leaf=true):v.one=true:=by
 cases h with
 |val x=>exact hl
 |agg _ _=>cases hl
 |aL _ _=>cases hl
 |_=>rfl
def iY (l:SC)(off:Nat)(lp:SC):SC:=l.take off++lp++l.drop (off+lp.length)
def K8{E:Env}{l lp:SC}{cs vs:SG}{off:Nat}(h:cO E l cs)(k:cO E lp vs)(hl:off+lp.length<=l.length):cO E (iY l off lp) (storeAt cs off vs.toList):=by
 have hv:vs.toList.length=lp.length:=by simpa using k.1
 refine⟨by rw[Ak,h.1];simp[iY];omega,λi a e=> ?_⟩;rw[FZ _ _ _ _ (by rw[h.1,hv];exact hl),hv];unfold iY at e;by_cases h1:i<off
 ·rw[if_neg (by omega)];rw[Te,T4 (by simp;omega),Vm,if_pos h1]at e;exact h.2 i a e
 ·by_cases h2:i<off+lp.length
  ·rw[if_pos ⟨by omega,h2⟩];rw[T4 (by simp;omega),Ud (by simp;omega)]at e;have e':lp[i-off]?=some a:=by
    have:min off l.length=off:=(by omega);simpa[this]using e
   have:=k.2 _ a e';simpa[Ti,Tf]using this
  ·rw[if_neg (by omega)];rw[Ud (by simp;omega),Vs]at e;have e':l[i]?=some a:=by
    have h3:off+lp.length+(i-(l.take off++lp).length)=i:=(by simp;omega);rw[h3]at e;exact e
   exact h.2 i a e'
def Sv{E:Env}{l lp:SC}{cs vs:SG}{off:Nat}(h:kv E l cs)(k:cO E lp vs)(hl:off+lp.length<=l.length):kv E (iY l off lp) (storeAt cs off vs.toList):=by
 have hv:vs.toList.length=lp.length:=by simpa using k.1
 refine⟨by rw[Ak];have:=h.1;simp[iY];omega,λi a e=> ?_⟩;rw[FZ _ _ _ _ (by have:=h.1;rw[hv];omega),hv];unfold iY at e;by_cases h1:i<off
 ·rw[if_neg (by omega)];rw[Te,T4 (by simp;omega),Vm,if_pos h1]at e;exact h.2 i a e
 ·by_cases h2:i<off+lp.length
  ·rw[if_pos ⟨by omega,h2⟩];rw[T4 (by simp;omega),Ud (by simp;omega)]at e;have e':lp[i-off]?=some a:=by
    have:min off l.length=off:=(by omega);simpa[this]using e
   have:=k.2 _ a e';simpa[Ti,Tf]using this
  ·rw[if_neg (by omega)];rw[Ud (by simp;omega),Vs]at e;have e':l[i]?=some a:=by
    have h3:off+lp.length+(i-(l.take off++lp).length)=i:=(by simp;omega);rw[h3]at e;exact e
   exact h.2 i a e'
def Du{E:Env}{lp:SC}{vs:SG}(h:cO E lp vs)(og:∀a∈lp,a.leaf=true):∀v∈vs.toList,v.one=true:=by
 intro v hv;obtain⟨j,hj⟩:=VU.1 hv;have dW:j<lp.length:=by have:=(Tq.1 hj).1;have:=h.1;simp at*;omega
 have:=h.2 j lp[j] (Tw dW);have iT:vs[j]?=some v:=by simpa using hj
 rw[Ti,iT]at this;exact apg this (og _ (W_ dW))
section
variable {lv:Bool}{P:Tl}{r:SL}{o:Vo}{s:AS}{next:SV}{bad:AV->SV}
def afj{t:TypeId}{x y:Ur}{id off n:Nat}{l lp:SC}{el:TypeId}{g:Bool}{av:AV}(ho:o.op=.store t x y)(ht:Ty P t=some (n,g))(hx:s.ev x=some (.op id off))(hk:s.H[id]?=some (.cells l el))(hy:s.ev y=some av)(hp:av.parts=some lp)(jm:lp.length=n)(hl:off+lp.length<=l.length)
  (og:∀a∈lp,a.leaf=true) (hn:next ((⟨s.T,s.H.set id (.cells (iY l off lp) el)⟩:AS).put o.dst (.val undef))):Step lv P r o s next bad:=by
 intro E V a N Q hc aH hd bI h1 _;obtain⟨i,d,q1,q2,rfl,q4⟩:=Ty.out ht;have dJ:=au.ev aH hx;generalize kI:a.eval x=vx at dJ;cases dJ with
 |op cg=>
  have bx:=(au.ev aH hy).parts hp;obtain⟨⟨cs,p1,p2⟩,p3⟩:=hc.obj id _ hk;obtain⟨g1,g2⟩:=hc.jH hk rfl;refine⟨bI,?_⟩;unfold execOp;rw[ho];simp only[kI];refine aA ?_;unfold Zj Wq;refine aA (ay ?_);unfold storeVar;refine kq q1 ?_;rw[if_neg (by rw[bx.1,jm];simp)];refine Ct _ 0 V cs g1 g2 p1 (λo _ _=>p3 o) (by have:=bx.1;have:=p2.1;simp;omega) (Du bx og) ?_;rw[VA];exact ay (h1 E _ (a.put o.dst undef) _ ⟨Env.Le.refl E,eF _ _ _,put_defers _ _ _,rfl,rfl⟩ (by rw[fK];exact hc.set hk (K8 p2 bx hl))
   (cC.iG (s:=⟨s.T,s.H.set id (.cells (iY l off lp) el)⟩) aH hd (.val undef)) hn)
def at5{t:TypeId}{x y:Ur}{id off n p:Nat}{l lp:SC}{el:TypeId}{g:Bool}{av:AV}(ho:o.op=.store t x y)(ht:Ty P t=some (n,g))(hx:s.ev x=some (.op id off))(hk:s.H[id]?=some (.part p l el))(hpo:p<=off)(hy:s.ev y=some av)(hp:av.parts=some lp)(jm:lp.length=n)(hl:off+lp.length<=l.length)
  (og:∀a∈lp,a.leaf=true) (hn:next ((⟨s.T,s.H.set id (.part p (iY l off lp) el)⟩:AS).put o.dst (.val undef))):Step lv P r o s next bad:=by
 intro E V a N Q hc aH hd bI h1 _;obtain⟨i,d,q1,q2,rfl,q4⟩:=Ty.out ht;have dJ:=au.ev aH hx;generalize kI:a.eval x=vx at dJ;cases dJ with
 |op cg=>
  have bx:=(au.ev aH hy).parts hp;obtain⟨⟨cs,p1,p2,p4⟩,p3⟩:=hc.obj id _ hk;obtain⟨g1,g2⟩:=hc.jH hk rfl;refine⟨bI,?_⟩;unfold execOp;rw[ho];simp only[kI];refine aA ?_;unfold Zj Wq;refine aA (ay ?_);unfold storeVar;refine kq q1 ?_;rw[if_neg (by rw[bx.1,jm];simp)];refine Ct _ 0 V cs g1 g2 p1 (λo _ _=>p3 o (by omega)) (by have:=bx.1;have:=p2.1;simp;omega) (Du bx og) ?_;rw[VA];exact ay (h1 E _ (a.put o.dst undef) _ ⟨Env.Le.refl E,eF _ _ _,put_defers _ _ _,rfl,rfl⟩ (by rw[fK];exact hc.FU hk p1 (Sv p2 bx hl) λo ho=>afl _ _ _ _ (by omega))
   (cC.iG (s:=⟨s.T,s.H.set id (.part p (iY l off lp) el)⟩) aH hd (.val undef)) hn)
def afk{t:TypeId}{x y:Ur}{id off n p:Nat}{l lp:SC}{el:TypeId}{g:Bool}{av:AV}(ho:o.op=.store t x y)(ht:Ty P t=some (n,g))(hx:s.ev x=some (.op id off))(hk:s.H[id]?=some (.own p l el))(hy:s.ev y=some av)(hp:av.parts=some lp)(jm:lp.length=n)(hl:off+lp.length<=l.length)
  (og:∀a∈lp,a.leaf=true) (hn:next ((⟨s.T,s.H.set id (.own p (iY l off lp) el)⟩:AS).put o.dst (.val undef))):Step lv P r o s next bad:=by
 intro E V a N Q hc aH hd bI h1 _;obtain⟨i,d,q1,q2,rfl,q4⟩:=Ty.out ht;have dJ:=au.ev aH hx;generalize kI:a.eval x=vx at dJ;cases dJ with
 |op cg=>
  have bx:=(au.ev aH hy).parts hp;obtain⟨⟨cs,p1,p2,p4⟩,p3⟩:=hc.obj id _ hk;obtain⟨g1,g2⟩:=hc.jH hk rfl;refine⟨bI,?_⟩;unfold execOp;rw[ho];simp only[kI];refine aA ?_;unfold Zj Wq;refine aA (ay ?_);unfold storeVar;refine kq q1 ?_;rw[if_neg (by rw[bx.1,jm];simp)];refine Ct _ 0 V cs g1 g2 p1 (λo _ _=>p3 o) (by have:=bx.1;have:=p2.1;simp;omega) (Du bx og) ?_;rw[VA];exact ay (h1 E _ (a.put o.dst undef) _ ⟨Env.Le.refl E,eF _ _ _,put_defers _ _ _,rfl,rfl⟩ (by rw[fK];exact hc.aeS hk (Sv p2 bx hl) (by rw[Ak];exact p4))
   (cC.iG (s:=⟨s.T,s.H.set id (.own p (iY l off lp) el)⟩) aH hd (.val undef)) hn)
def Conc.kJ{E:Env}{V:View}{H:SA}(hc:Conc E V H){r:Nat}(hf:V.fresh r)(cs:SG):E.Le {E with I:=(V.kJ r cs).ai}/\Conc {E with I:=(V.kJ r cs).ai} (V.kJ r cs) H:=by
 have hle:E.Le {E with I:=(V.kJ r cs).ai}:=⟨λb o v h=>by
  rw[hc.I]at h;have hb:b≠r:=λhb=>by subst hb;rw[hf.2 o]at h;cases h
  simpa[View.kJ,hb]using h,Ts _,λ_ _=>rfl,λ_ _=>Ts _,λ_ _ _ _=>rfl,rfl,rfl⟩
 have hlt:∀(k:Nat) y,H[k]?=some y->k<E.n:=λk y h=>by rw[hc.n];exact(Tq.1 h).1
 refine⟨hle,rfl,hc.n,λk x h=>(hc.obj k x h).mono hle (hlt k x h) rfl (λb y _ hb=>hb) (λb hb o=> ?_),hc.inj,λg hg=> ?_,λg hg=> ?_,hc.top,λb y hg=> ?_⟩
 ·obtain⟨y,hy⟩:=(hc.obj k x h).Dl hb;have aF:b≠r:=λe=>by subst e;rw[hf.1]at hy;cases hy
  simp[View.kJ,aF]
 ·obtain⟨h0,h1,h2⟩:=hc.group g hg;have aF:g≠r:=λe=>by subst e;exact h0 hf.1
  exact⟨h0,λo=>by simp[View.kJ,aF,h1 o],h2⟩
 ·obtain⟨h0,h1,h2⟩:=hc.chan g hg;have aF:g≠r:=λe=>by subst e;exact h0 hf.1
  exact⟨h0,λo=>by simp[View.kJ,aF,h1 o],h2⟩
 ·obtain⟨h0,h1,h2⟩:=hc.fr b y hg;have aF:b≠r:=λe=>by subst e;rw[hf.1]at h0;cases h0
  exact⟨h0,λo=>by simp[View.kJ,aF,h1 o],h2⟩
def au.aru{E:Env}{V:View}{H:SA}(hc:Conc E V H){r:Nat}(hf:V.fresh r){cs:SG}{l:SC}(h:cO E l cs){n cap:Nat}(eo:n<=cap){e:End}(he:qA {E with I:=(V.kJ r cs).ai} e (some ⟨r,0,none⟩) n cap):au {E with I:=(V.kJ r cs).ai} (.sl n l e) (.slice (some ⟨r,0,none⟩) n cap):=by
 refine .sl r 0 cap (λi=>cs.getD i undef) eo he (λi hi=> ?_) λi x hx=>(h.2 i x hx).mono (hc.kJ hf cs).1;have hlt:i<cs.size:=by rw[h.1];exact hi
 simp[View.kJ,Ti,Tn hlt]
abbrev S6:=Option (Nat×Nat)
def oQ (place:Nat->S6)(cells:SC):List (Nat×AV)->Option (SC)
 |[]=>some cells
 |(i,a)::rest=>match place i,a.parts with
  |some (off,size),some lp=>if lp.length≠size\/off+lp.length>cells.length then none else oQ place (iY cells off lp) rest
  |_,_=>none
def abd:∀(vs:TE)(k off:Nat)(cs:SG),(vs.zipIdx k).foldl (λ(cs:SG) (x:Uf×Nat)=>cs.setIfInBounds (off+x.2) x.1) cs=storeAt cs (off+k) vs
 |[],_,_,_=>rfl
 |v::vs,k,off,cs=>by
  rw[List.zipIdx_cons,VO,abd vs (k+1) off];rfl
def Dy{E:Env}{place:Nat->S6}:∀{parts:SH}{vs:List (Nat×Uf)}{l l':SC}{cs:SG},cO E l cs->parts.length=vs.length->(∀(j:Nat) p q,parts[j]?=some p->vs[j]?=some q->p.1=q.1/\au E p.2 q.2)->
  oQ place l parts=some l'->∃fj,axl place cs vs=some fj/\cO E l' fj
 |[],[],l,l',cs,h,_,_,e=>by cases e;exact⟨cs,rfl,h⟩
 |[],_::_,_,_,_,_,h,_,_=>by simp at h
 |_::_,[],_,_,_,_,h,_,_=>by simp at h
 |(i,a)::parts,(i',v)::vs,l,l',cs,h,hl,hp,e=>by
  obtain⟨e1,hd⟩:=hp 0 (i,a) (i',v) rfl rfl;have e1':i=i':=e1;subst e1';simp only[oQ]at e;split at e
  ·rename_i off size lp cr NF;split at e
   ·cases e
   ·rename_i hc;have bx:=au.parts (v:=v) hd NF;have aZ:v.cells.size=lp.length:=bx.1;have hle:off+lp.length<=l.length:=(by omega);obtain⟨fj,h1,h2⟩:=Dy (K8 h bx hle) (by simpa using hl) (λj p q x y=>hp (j+1) p q (by simpa using x) (by simpa using y)) e;refine⟨fj,?_,h2⟩;unfold axl;rw[cr];simp only;rw[if_neg (by rw[aZ,h.1];simp;omega)];have:=abd v.cells.toList 0 off cs;rw[VA]at this;rw[<- h1,<- this];congr 1;rw[<- Array.toList_zipIdx,Array.foldl_toList]
  ·cases e
def kA (s:AS):List (Nat×Ur)->Option (SH)
 |[]=>some []
 |(i,x)::l=>match s.ev x,kA s l with
  |some a,some aJ=>some ((i,a)::aJ)
  |_,_=>none
def G7{E:Env}{s:AS}{a:Act}(k:cC E s.T a.tmps):∀{l:List (Nat×Ur)}{aJ:SH},kA s l=some aJ->aJ.length=(l.map λ(i,x)=>(i,a.eval x)).length/\∀(j:Nat) p q,aJ[j]?=some p->(l.map λ(i,x)=>(i,a.eval x))[j]?=some q->p.1=q.1/\au E p.2 q.2
 |[],aJ,h=>by cases h;exact⟨rfl,by simp⟩
 |(i,x)::l,aJ,h=>by
  simp only[kA]at h;split at h
  ·rename_i av mA h1 h2;cases h;obtain⟨nw,lP⟩:=G7 k h2;refine⟨by simpa using nw,λj p q e1 e2=> ?_⟩;cases j with
   |zero=>simp at e1 e2;subst e1 e2;exact⟨rfl,au.ev k h1⟩
   |succ j=>exact lP j p q (by simpa using e1) (by simpa using e2)
  ·cases h
def qF (P:Tl)(t:TypeId):Option (TypeId×Nat×Uf):=match P.underlying t with
 |some (.slice e)=>(P.info? e).bind λi=>i.zero.map λz=>(e,i.size,z)
 |_=>none
def gZ (z:Uf)(m:Nat):SC:=(T1 m).map λi=>AV.qu (z.cells[i % z.cells.size]!)
inductive iy where
 |fields (l:List (Nat×Nat))
 |elems (sz:Nat)
def iy.at:iy->Nat->Option (Nat×Nat)
 |.fields l,i=>l[i]?
 |.elems sz,i=>some (i* sz,sz)
def nD (P:Tl)(t:TypeId):Option (iy×Uf):=(fh P t).bind λz=>match P.underlying t with
 |some (.struct fs)=>(fs.toList.mapM λf=>(P.info? f.type).map λi=>(f.offset,i.size)).map λl=>(.fields l,z)
 |some (.array _ e)=>(P.info? e).map λi=>(.elems i.size,z)
 |_=>none
def aeL{P:Tl}{V:View}{Kp:SS}:∀(fs:List ZY)(l:List (Nat×Nat)){K:List (Nat×Nat)->View->Prop},fs.mapM (λf=>(P.info? f.type).map λi=>(f.offset,i.size))=some l->
  K l V->aU P V (fs.mapM λf=>(do pure (f.offset,<- sizeOf f.type):Sem (Nat×Nat))) K Kp
 |[],l,K,h,hk=>by
  simp at h;subst h;rw[VH];exact ay hk
 |f::fs,l,K,h,hk=>by
  simp only[Vb,Vk,UX,Um,Us]at h;obtain⟨b,h1,bs,h2,rfl⟩:=h;obtain⟨i,hi,rfl⟩:=lz h1;rw[Vb];exact aA (kq hi (ay (aA (aeL fs bs h2 (ay hk)))))
def arF{t:TypeId}{parts:Array (Nat×Ur)}{pl:iy}{z:Uf}{aJ:SH}{l:SC}(ho:o.op=.build t parts)(ht:nD P t=some (pl,z))(hp:kA s parts.toList=some aJ)
  (hl:oQ pl.at (mv z) aJ=some l):dL lv P r o s (.agg l):=
 jp (λE V a hc aH=>by
  unfold nD at ht;obtain⟨z',hz,ht⟩:=Um.1 ht;obtain⟨hlen,bx⟩:=G7 aH hp;unfold execOp;rw[ho];dsimp only;refine aA ?_;unfold Instr.build;refine Jy hz ?_;split at ht
  ·rename_i fs hu;obtain⟨lp,h1,h2⟩:=lz ht;cases h2;obtain⟨fj,oe,vI⟩:=Dy (K_ E z) hlen bx hl;refine eM hu ?_;dsimp only;have e:fs=fs.toList.toArray:=(by simp);rw[e,Y3];refine aA ?_;refine aA (aeL fs.toList lp h1 ?_);refine ay ?_;rw[W2];have e2:(λx=>lp.toArray[x]?)=iy.at (.fields lp):=(by funext x;simp[iy.at]);rw[e2,oe];exact ay (ay ⟨rfl,_,rfl,.agg vI.1 vI.2⟩)
  ·rename_i n e hu;obtain⟨i,h1,h2⟩:=lz ht;cases h2;obtain⟨fj,oe,vI⟩:=Dy (K_ E z) hlen bx hl;refine eM hu ?_;dsimp only;refine kq h1 ?_;rw[W2];have e2:(λj=>some (j* i.size,i.size))=iy.at (.elems i.size):=rfl;rw[e2,oe];exact ay (ay ⟨rfl,_,rfl,.agg vI.1 vI.2⟩)
  ·cases ht)
def K9{E:Env}(z:Uf)(m:Nat):cO E (gZ z m) ((XK m).map (λx=>z.cells[x % z.cells.size]!)):=by
 refine⟨by simp[gZ],λj x hx=> ?_⟩;unfold gZ at hx;rw[Ut]at hx;obtain⟨k,hk,rfl⟩:=Uv.1 hx;have hj:j<m:=by have:=(Tq.1 hk).1;simpa using this
 have hmj:k=j:=by rw[av' hj]at hk;cases hk;rfl
 subst hmj;simp only[Ti,XE,Array.getElem?_range,hj,if_true,VS,Ua];exact K5 E _
def arG{t e:TypeId}{len sz:Nat}{z:Uf}{parts:Array (Nat×Ur)}{aJ:SH}{l:SC}(ho:o.op=.buildSlice t len parts)(ht:qF P t=some (e,sz,z))(aZ:len* sz<=2^24)(hp:kA s parts.toList=some aJ)
  (hl:oQ (iy.at (.elems sz)) (gZ z (len* sz)) aJ=some l):dL lv P r o s (.sl len l .exact):=by
 intro E V a N Q hc aH bI h1;unfold qF at ht;split at ht
 ·rename_i e' hu;obtain⟨i,hi,ht⟩:=Um.1 ht;obtain⟨z',hz,ht⟩:=Uv.1 ht;cases ht;refine⟨bI,?_⟩;unfold execOp;rw[ho];dsimp only;refine aA ?_;unfold Instr.buildSlice;refine eM hu ?_;dsimp only;refine kq hi ?_;rw[if_neg (by omega)];obtain⟨hlen,bx⟩:=G7 aH hp;obtain⟨fj,oe,vI⟩:=Dy (K9 (E:=E) z (len* i.size)) hlen bx hl;have fin:∀(rr:Nat),V.fresh rr->aU P (V.upd rr (.cells fj e)) (pure (X7 (.slice (some ⟨rr,0,none⟩) len len))) (nb lv P r o a N Q) (λv V'=>Q (.panic [{v,recovered:=false}]) a V'):=λrr hf=>
   aU.ghost (alX hf (hc.alN hf.1).1) (ay (h1 _ _ _ (hc.kJ hf fj).1 rfl rfl (hc.kJ hf fj).2 (au.aru hc hf vI (Ts _) rfl)))
  have e2:(λj=>some (j* i.size,i.size))=iy.at (.elems i.size):=rfl;rw[e2];by_cases h0:len* i.size=0
  ·rw[if_pos h0];refine aA (ay ?_);rw[h0]at oe⊢;rw[show XK 0=#[]from rfl]at oe⊢;simp only[List.map_toArray,List.map_nil,W2]at oe⊢;rw[oe];unfold newRow;exact aA (aA (aA (py λrr hf=>cN (ay (ay (ay (fin rr hf)))))))
  ·rw[if_neg h0];refine aA (aA ?_);unfold typeInfo;refine aA (rD (cN ?_));rw[hi];refine ay ?_;rw[hz];refine ay (aA (ay ?_));rw[W2,oe];unfold newRow;exact aA (aA (aA (py λrr hf=>cN (ay (ay (ay (fin rr hf)))))))
 ·cases ht
end
open Go.Conc
def adI (P:Tl)(t:TypeId):Bool:=match P.underlying t with
 |some (.int _)=>false
 |some _=>true
 |none=>false
def jM (P:Tl)(t t':TypeId):Option (TypeId×Nat×Uf):=match P.underlying t with
 |some (.slice e)=>(P.info? e).bind λi=>i.zero.bind λz=>if z.cells.size=i.size/\i.bytes<=2^16/\i.bytes≠0/\adI P t'=true then some (e,i.size,z)else none
 |_=>none
def jM.out{P:Tl}{t t' e:TypeId}{sz:Nat}{z:Uf}(h:jM P t t'=some (e,sz,z)):∃i d,P.underlying t=some (.slice e)/\P.info? e=some i/\i.zero=some z/\i.size=sz/\z.cells.size=sz/\i.bytes<=2^16/\i.bytes≠0/\P.underlying t'=some d/\(∀k,d≠ .int k):=by
 unfold jM at h;split at h
 ·rename_i e' hu;obtain⟨i,h1,h⟩:=Um.1 h;obtain⟨z',h2,h⟩:=Um.1 h;split at h
  ·rename_i hc;obtain⟨c1,c2,c3,c4⟩:=hc;cases h;unfold adI at c4;split at c4
   ·cases c4
   ·rename_i d hd aF;exact⟨i,d,hu,h1,h2,rfl,c1,c2,c3,aF,λk e=>hd k e⟩
   ·cases c4
  ·cases h
 ·cases h
def AS.src (s:AS)(sz:Nat):AV->Option (Nat×SC)
 |.sl m l _=>some (m,l.take (m* sz))
 |.bC id off m _=>match s.H[id]?with
  |some (.cells l _)|some (.part _ l _)|some (.own _ l _)=>some (m,(l.drop off).take (m* sz))
  |_=>none
 |_=>none
section
variable {P:Tl}{E:Env}{V:View}{s:AS}{K:Array Uf->View->Prop}{Kp:SS}
def G3{l:SC}{f:Nat->Uf}{n:Nat}(hn:n<=l.length)(h:∀(i:Nat) x,l[i]?=some x->au E x (f i)):cO E (l.take n) ((T1 n).map f).toArray:=by
 have:=K7 hn h;cases this with
 |agg h1 h2=>exact⟨h1,h2⟩
def FR(hc:Conc E V s.H){av:AV}{v:Uf}(hd:au E av v){sz m k:Nat}{l:SC}(h:s.src sz av=some (m,l))(hl:l.length=m* sz)(hk:k<=m)(hK:∀cs,cO E (l.take (k* sz)) cs->K cs V):aU P V (WK sz k v) K Kp:=by
 have hks:k* sz<=m* sz:=UI _ hk;cases hd with
 |sl b o cap f eo he h1 h2=>
  cases h;rename_i l _;simp only[Ux]at hl;have e:(l.take (m* sz)).take (k* sz)=l.take (k* sz):=by rw[Wh];congr 1;omega
  rw[e]at hK;unfold WK;exact Cr (f:=f) (λhp=>(hc.acM (h1 0 (by omega))).1) (λj hj=>by unfold View.get;rw[<- hc.I,h1 j (by omega)]) (hK _ (G3 (by omega) h2))
 |nil he=>
  cases h;have:k=0:=by omega
  subst this;have hK:=hK #[] ⟨by simp,by simp⟩;unfold WK;split
  ·rw[axJ];exact ay hK
  ·exact ay hK
  ·rename_i h;cases h
  ·rename_i a _ _ h1 h2 _;cases a with
   |none=>exact(h2 _ _ rfl).elim
   |some x=>exact(h1 _ _ _ rfl).elim
 |bC hi eo=>
  rename_i id off m' cap cap';simp only[AS.src]at h;cases hq:s.H[id]?with
  |none=>rw[hq]at h;cases h
  |some ob=>
   rw[hq]at h;cases ob with
   |cells l' el=>
    cases h;obtain⟨⟨cs,ho,hs,bx⟩,l9⟩:=hc.obj id _ hq;simp only[Ux,Vr]at hl;have e:((l'.drop off).take (m* sz)).take (k* sz)=(l'.drop off).take (k* sz):=(by rw[Wh];congr 1;omega);rw[e]at hK;unfold WK;refine Cr (f:=λi=>cs.getD (off+i) undef) (λ_=>(hc.jH hq rfl).1) (λj hj=> ?_) (hK _ (G3 (by simp only[Vr];omega) λi x hx=> ?_))
    ·unfold View.get;rw[l9,ho];have hlt:off+j<cs.size:=(by omega);simp only[Ti,Tn hlt,Ua]
    ·rw[Vs]at hx;exact bx _ _ hx
   |part p l' el=>
    cases h;obtain⟨⟨cs,ho,⟨hs,bx⟩,mL⟩,l9⟩:=hc.obj id _ hq;simp only[Ux,Vr]at hl;have e:((l'.drop off).take (m* sz)).take (k* sz)=(l'.drop off).take (k* sz):=(by rw[Wh];congr 1;omega);rw[e]at hK;unfold WK;refine Cr (f:=λi=>cs.getD (off+i) undef) (λ_=>(hc.jH hq rfl).1) (λj hj=> ?_) (hK _ (G3 (by simp only[Vr];omega) λi x hx=> ?_))
    ·have hlt:off+j<cs.size:=(by omega);unfold View.get;by_cases hp:off+j<p
     ·rw[mL _ hp];simp only[Ti,Tn hlt,Ua]
     ·rw[l9 _ (by omega),ho];simp only[Ti,Tn hlt,Ua]
    ·rw[Vs]at hx;exact bx _ _ hx
   |own eX l' el=>
    cases h;obtain⟨⟨cs,ho,⟨hs,bx⟩,_⟩,l9⟩:=hc.obj id _ hq;simp only[Ux,Vr]at hl;have e:((l'.drop off).take (m* sz)).take (k* sz)=(l'.drop off).take (k* sz):=(by rw[Wh];congr 1;omega);rw[e]at hK;unfold WK;refine Cr (f:=λi=>cs.getD (off+i) undef) (λ_=>(hc.jH hq rfl).1) (λj hj=> ?_) (hK _ (G3 (by simp only[Vr];omega) λi x hx=> ?_))
    ·have hlt:off+j<cs.size:=(by omega);unfold View.get;rw[l9,ho];simp only[Ti,Tn hlt,Ua]
    ·rw[Vs]at hx;exact bx _ _ hx
   |_=>cases h
 |_=>cases h
def JB{av:AV}{v:Uf}(hd:au E av v){sz m:Nat}{l:SC}(h:s.src sz av=some (m,l)):aym v=pure m:=by
 cases hd with
 |sl=>cases h;rfl
 |nil=>cases h;rfl
 |bC=>
  simp only[AS.src]at h;split at h
  ·cases h;rfl
  ·cases h;rfl
  ·cases h;rfl
  ·cases h
 |_=>cases h
end
def abq(wx:Nat):∀(r c:Nat),c<=2* wx+200->aj' wx r c<=2* wx+200
 |0,c,h=>h
 |r+1,c,h=>by
  unfold aj';split
  ·exact h
  ·exact abq wx r _ (by omega)
def aqo(wx cap:Nat)(h:cap<wx):X5 wx cap<=2* wx+200:=by
 unfold X5;split
 ·omega
 ·split
  ·omega
  ·exact abq wx 4 cap (by omega)
def Dt{E:Env}{l m:SC}{x y:SG}(h:cO E l x)(k:cO E m y):cO E (l++m) (x++y):=by
 refine⟨by simp[h.1,k.1],λi a e=> ?_⟩;by_cases hi:i<l.length
 ·rw[T4 hi]at e;have:=h.2 i a e;rw[Ti,Ze (by rw[h.1];exact hi)];rwa[Ti]at this
 ·rw[Ud (by omega)]at e;have:=k.2 _ a e;rw[Ti,Y' (by rw[h.1];omega),h.1];rwa[Ti]at this
def P5{P:Tl}{V:View}{α:Type}{K:α->View->Prop}{Kp:SS}{b:Bool}{k:Bool->Sem α}(hb:b=false)(h:aU P V (k false) K Kp):aU P V (pure b>>=k) K Kp:=by
 subst hb;exact aA (ay h)
section
variable {P:Tl}{E:Env}{V:View}{s:AS}{K:SS}{Kp:SS}
def aeH{n:Nat}{K:Unit->View->Prop}(h:K () V):aU P V (askRoom n) K Kp:=by
 unfold askRoom;split
 ·exact atb (cN h)
 ·exact ay h
def aeG(hc:Conc E V s.H){t t' e:TypeId}{sz n m cap:Nat}{z:Uf}{base:S9}{av:AV}{v:Uf}{ax:AV}{l l':SC}{ty:TypeId}(ht:jM P t t'=some (e,sz,z))(hd:au E ax (.slice base n cap))(dn:s.src sz ax=some (n,l))(cH:au E av v)(hs:s.src sz av=some (m,l'))
  (hl:l.length=n* sz) (fb:l'.length=m* sz) (hb:n+m<=2^30) (M8:cap<n+m)
  (hK:∀r cs cap',V.fresh r->cO E (l++l') (cs.extract 0 ((n+m)* sz))->n+m<=cap'->cs.size=cap'* sz->K (.slice (some ⟨r,0,none⟩) (n+m) cap') (V.upd r (.cells cs e))):aU P V (WO #[t,t'] ty #[.slice base n cap,v]) K Kp:=by
 obtain⟨i,d,h1,h2,h3,h4,h5,h6,h7,h8,h9⟩:=jM.out ht;unfold WO;simp only[Wt,WF,VP];refine eM h1 ?_;dsimp only;refine kq h2 ?_;rw[h4];refine eM h8 ?_;refine P5 (by cases d<;>first|rfl|exact absurd rfl (h9 _)) ?_;simp only[UD,if_false,Yt,if_true];rw[JB cH hs];refine aA (ay ?_);rw[if_neg (by omega)];refine Af h2 ?_;rw[if_neg (by intro hx;exact hx.2.elim (λx=>x.elim) h7)];refine Af h2 ?_;have eo:=aqo (n+m) cap M8;have hmul:X5 (n+m) cap* i.bytes<=(2* 2^30+200)* 2^16:=avs (by omega) h6;rw[if_neg (by omega)];refine aA (aeJ (λhf=>by cases hf) (λ_ t=>cN ?_));generalize jA:am' (.appendCap (n+m) cap e) t=cap';have HM:n+m<=cap':=by rw[<- jA];exact Nat.le_add_right _ _
 refine Af h2 (aA (aeH (aA ?_)));refine FR hc hd dn hl (Ts _) λAW MR=> ?_;refine aA (FR hc cH hs fb (Ts _) λjR lD=> ?_);refine Jy (z:=z) (by unfold fh;rw[h2];exact h3) ?_;rw[<- hl,Un]at MR;rw[<- fb,Un]at lD;unfold newRow;refine aA (aA (py λr hf=>cN (ay (ay ?_))));have aof:AW.size=n* sz:=by rw[MR.1,hl]
 have BR:jR.size=m* sz:=by rw[lD.1,fb]
 have aZ:(AW++jR).size=(n+m)* sz:=by rw[YC,aof,BR,Wu]
 refine hK r _ cap' hf ?_ HM ?_
 ·have e1:(AW++jR++Yp z.cells (cap'-(n+m))).extract 0 ((n+m)* sz)=AW++jR:=by
   rw[<- aZ];generalize AW++jR=q;apply WT;simp[Array.toList_extract,List.extract_eq_take_drop]
  rw[e1];exact Dt MR lD
 ·rw[YC,aZ];have:(Yp z.cells (cap'-(n+m))).size=(cap'-(n+m))* sz:=by simp[Yp,h5]
  rw[this,<- Wu];congr 1;omega
def Jw(hc:Conc E V s.H){t t' e:TypeId}{sz n m cap:Nat}{z:Uf}{base:S9}{av:AV}{v:Uf}{en:End}{l l':SC}{ty:TypeId}(ht:jM P t t'=some (e,sz,z))(hd:au E (.sl n l en) (.slice base n cap))(cH:au E av v)(hs:s.src sz av=some (m,l'))
  (hl:l.length=n* sz) (fb:l'.length=m* sz) (hb:n+m<=2^30) (M8:cap<n+m)
  (hK:∀r cs cap',V.fresh r->cO E (l++l') (cs.extract 0 ((n+m)* sz))->n+m<=cap'->cs.size=cap'* sz->K (.slice (some ⟨r,0,none⟩) (n+m) cap') (V.upd r (.cells cs e))):aU P V (WO #[t,t'] ty #[.slice base n cap,v]) K Kp:=
 aeG hc ht hd (by simp only[AS.src];rw[<- hl,Un]) cH hs hl fb hb M8 hK
def Jx(hc:Conc E V s.H){t t' e:TypeId}{sz n cap:Nat}{z:Uf}{base:S9}{av:AV}{v:Uf}{l':SC}{ty:TypeId}(ht:jM P t t'=some (e,sz,z))(cH:au E av v)(hs:s.src sz av=some (0,l'))
  (fb:l'.length=0* sz) (hle:n<=cap) (hK:K (.slice base n cap) V):aU P V (WO #[t,t'] ty #[.slice base n cap,v]) K Kp:=by
 obtain⟨i,d,h1,h2,h3,h4,h5,h6,h7,h8,h9⟩:=jM.out ht;unfold WO;simp only[Wt,WF,VP];refine eM h1 ?_;dsimp only;refine kq h2 ?_;rw[h4];refine eM h8 ?_;refine P5 (by cases d<;>first|rfl|exact absurd rfl (h9 _)) ?_;simp only[UD,if_false,Yt,if_true];rw[JB cH hs];refine aA (ay ?_);rw[if_pos (by omega)];refine aA (FR hc cH hs fb (Ts _) λjR lD=> ?_);have BR:jR=#[]:=by
  have:=lD.1;apply Array.eq_empty_of_size_eq_zero;rw[this];simp
 subst BR;rw[VA];cases base with
 |none=>exact ay hK
 |some a=>
  dsimp only;unfold storeCells;exact aA (ay (ay hK))
def aeF(hc:Conc E V s.H){t t' e:TypeId}{sz n m cap:Nat}{z:Uf}{b:Nat}{av:AV}{v:Uf}{l':SC}{ty:TypeId}{cs:SG}{el:TypeId}(ht:jM P t t'=some (e,sz,z))(cH:au E av v)(hs:s.src sz av=some (m,l'))
  (fb:l'.length=m* sz) (hle:n+m<=cap) (ho:V.own b=some (.cells cs el (0,0))) (aZ:cap* sz<=cs.size) (hi:∀o,n* sz<=o->V.ai b o=none) (hg:V.role.group≠some b/\V.role.chan≠some b) (og:∀a∈l',a.leaf=true)
  (hK:∀jR,cO E l' jR->K (.slice (some ⟨b,0,none⟩) (n+m) cap) (V.upd b (.cells (storeAt cs (n* sz) jR.toList) el (0,0)))):aU P V (WO #[t,t'] ty #[.slice (some ⟨b,0,none⟩) n cap,v]) K Kp:=by
 obtain⟨i,d,h1,h2,h3,h4,h5,h6,h7,h8,h9⟩:=jM.out ht;unfold WO;simp only[Wt,WF,VP];refine eM h1 ?_;dsimp only;refine kq h2 ?_;rw[h4];refine eM h8 ?_;refine P5 (by cases d<;>first|rfl|exact absurd rfl (h9 _)) ?_;simp only[UD,if_false,Yt,if_true];rw[JB cH hs];refine aA (ay ?_);rw[if_pos (by omega)];refine aA (FR hc cH hs fb (Ts _) λjR lD=> ?_);rw[<- fb,Un]at lD;rw[add_plain];have o6:(n+m)* sz<=cap* sz:=UI _ hle;rw[Wu]at o6;refine aA (Ct _ 0 V cs hg.1 hg.2 ho (λo h _=>hi o (by omega)) (by have:=lD.1;simp;omega) (Du lD og) ?_);rw[Xv,VA];exact ay (hK jR lD)
end
def Env.tok (E:Env)(I:cG)(rm:Option WC×Nat)(v:Nat):Env:={E with I:=I,n:=E.n+1,room:=λk u=>if k=E.n/\u=v then rm else E.room k u,fZ:=λk=>if k=E.n then v else E.fZ k}
def Env.OP(E:Env){I:cG}(hI:∀b o v,E.I b o=some v->I b o=some v)(rm:Option WC×Nat)(v:Nat):E.Le (E.tok I rm v):=
 ⟨hI,Z3 _,λk hk=>rfl,λk hk=>by simp[Env.tok,Xg hk],λk u hk _=>by simp[Env.tok,Xg hk],rfl,rfl⟩
def Env.grow (E:Env)(I:cG)(k:Nat)(rm:Option WC×Nat)(v:Nat):Env:={E with I:=I,room:=λj u=>if j=k/\u=v then rm else E.room j u,fZ:=λj=>if j=k then v else E.fZ j}
def Env.ac4(E:Env){I:cG}(hI:∀b o v,E.I b o=some v->I b o=some v){k:Nat}(rm:Option WC×Nat){v:Nat}(hv:E.fZ k<v):E.Le (E.grow I k rm v):=
 ⟨hI,Ts _,λ_ _=>rfl,λj _=>by
  simp only[Env.grow];split
  ·rename_i e;subst e;omega
  ·exact Ts _,λj u _ hu=>by
  simp only[Env.grow];split
  ·rename_i e;obtain⟨rfl,rfl⟩:=e;omega
  ·rfl,rfl,rfl⟩
open Go.Conc
abbrev View.laid (V:View)(b:Nat)(cs:Array Uf)(el:TypeId)(p:Nat->Bool):View:=(V.upd b (.cells cs el (0,0))).fe b cs p
def OL{V:View}{b b':Nat}{cs:SG}{el:TypeId}{p:Nat->Bool}(h:b'≠b):(V.laid b cs el p).own b'=V.own b':=by simp[View.laid,View.fe,View.upd,h]
def OK{V:View}{b b':Nat}{cs:SG}{el:TypeId}{p:Nat->Bool}(h:b'≠b)(o:Nat):(V.laid b cs el p).ai b' o=V.ai b' o:=by simp[View.laid,View.fe,View.upd,h]
def IL{V:View}{b:Nat}{cs:SG}{el:TypeId}{p:Nat->Bool}(hp:∀o,p o=true->V.ai b o=none):∀b' o v,V.ai b' o=some v->(V.laid b cs el p).ai b' o=some v:=λb' o v h=>by
 have hn:¬(b'=b/\p o=true):=λhb=>by obtain⟨rfl,h2⟩:=hb;rw[hp o h2]at h;cases h
 simp only[View.laid,View.fe,View.upd,if_neg hn];exact h
def IK{V:View}{b:Nat}{cs:SG}{el:TypeId}{p:Nat->Bool}{o:Nat}(h:p o=true):(V.laid b cs el p).ai b o=cs[o]?:=by simp[View.laid,View.fe,h]
def OM{V:View}{b:Nat}{cs:SG}{el:TypeId}{p:Nat->Bool}:(V.laid b cs el p).own b=some (.cells cs el (0,0)):=by simp[View.laid,View.fe,View.upd]
def K6{E:Env}{I:cG}{b n cap:Nat}{cs:SG}{l:SC}{e:End}{sz:Nat}(hI:E.I=I)(hd:cO E l (cs.extract 0 (n* sz)))(hl:l.length=n* sz)(hs:n* sz<=cs.size)(hi:∀o,o<n* sz->I b o=cs[o]?)(hc:n<=cap)(he:qA E e (some ⟨b,0,none⟩) n cap):au E (.sl n l e) (.slice (some ⟨b,0,none⟩) n cap):=by
 refine .sl b 0 cap (λi=>cs.getD i undef) hc he (λi h=> ?_) (λi x hx=> ?_)
 ·rw[hl]at h;have hlt:i<cs.size:=by omega
  rw[hI,Xv,hi i h];simp only[Ti,Tn hlt,Ua]
 ·have cI:i<n* sz:=by rw[<- hl];exact(Tq.1 hx).1
  have:=hd.2 i x hx;have hlt:i<cs.size:=by omega
  rw[Ti,Tn hlt];rw[Ti]at this;rw[Array.getElem?_extract]at this;have H7:i<min (n* sz) cs.size:=by omega
  simpa[cI,hlt,H7]using this
section
variable {E:Env}{V:View}{H:SA}
def Conc.Qo(hc:Conc E V H){n:Nat}(sz:Nat)(el:TypeId)(a:S9):Conc (E.tok V.ai (a,n) n) V (H++[.tail n sz el])/\E.Le (E.tok V.ai (a,n) n):=by
 have hle:=E.OP (I:=V.ai) (λb o v h=>by rw[<- hc.I];exact h) (a,n) n;refine⟨hc.ja H.length (.tail n sz el) hle rfl (by simp[Env.tok,hc.n]) Fq rfl (λj hj _=>by simp[Env.tok,hc.n,hj]) (λb y _ hy=>⟨hy,λ_=>rfl⟩) ?_ (λb h=> ?_),hle⟩
 ·rw[<- hc.n];exact⟨by simp[Env.tok],.inl (by simp[Env.tok])⟩
 ·rw[<- hc.n]at h;simp[bT,Env.tok]at h
def Conc.afA(hc:Conc E V H){r n cap sz:Nat}{el:TypeId}{cs:SG}(hf:V.fresh r)(hs:cs.size=cap* sz)(hn:n<=cap):
  Conc (E.tok (V.laid r cs el (·<n* sz)).ai (some ⟨r,0,none⟩,cap) n) (V.laid r cs el (·<n* sz)) (H++[.tail n sz el])/\E.Le (E.tok (V.laid r cs el (·<n* sz)).ai (some ⟨r,0,none⟩,cap) n):=by
 have hle:=E.OP (I:=(V.laid r cs el (·<n* sz)).ai) (λb o v h=>IL (λo _=>hf.2 o) b o v (by rw[<- hc.I];exact h)) (some ⟨r,0,none⟩,cap) n;refine⟨hc.ja H.length (.tail n sz el) hle rfl (by simp[Env.tok,hc.n]) Fq rfl (λj hj _=>by simp[Env.tok,hc.n,hj]) (λb y _ hy=> ?_) ?_ (λb h=> .inr ?_),hle⟩
 ·have hb:b≠r:=λe=>by subst e;rw[hf.1]at hy;cases hy
  exact⟨by rw[OL hb];exact hy,λo=>OK hb o⟩
 ·rw[<- hc.n];refine⟨by simp[Env.tok],?_⟩;by_cases e:cap=n
  ·exact .inl (by simp[Env.tok,e])
  ·refine .inr ⟨r,cap,cs,by simp[Env.tok],OM,hs,by omega,λo ho=> ?_⟩;have:¬(decide (o<n* sz)=true):=(by simpa using ho);simp only[View.laid,View.fe];rw[if_neg (λx=>this x.2)];exact hf.2 o
 ·rw[<- hc.n]at h;simp[bT,Env.tok]at h;obtain⟨_,rfl⟩:=h;exact hf.1
def Conc.al1(hc:Conc E V H){k r n n' cap sz:Nat}{el iB:TypeId}{cs:SG}(hk:H[k]?=some (.tail n sz iB))(hf:V.fresh r)(hs:cs.size=cap* sz)(hn:n'<=cap)(hlt:n<n'):
  Conc (E.grow (V.laid r cs el (·<n'* sz)).ai k (some ⟨r,0,none⟩,cap) n') (V.laid r cs el (·<n'* sz)) (H.set k (.tail n' sz el))/\E.Le (E.grow (V.laid r cs el (·<n'* sz)).ai k (some ⟨r,0,none⟩,cap) n'):=by
 have BX:E.fZ k=n:=(hc.obj k _ hk).1;have hle:=E.ac4 (I:=(V.laid r cs el (·<n'* sz)).ai) (λb o v h=>IL (λo _=>hf.2 o) b o v (by rw[<- hc.I];exact h)) (k:=k) (some ⟨r,0,none⟩,cap) (v:=n') (by omega);refine⟨hc.ja k (.tail n' sz el) hle rfl (by simpa[Env.grow]using hc.n) lQ rfl (λj hj _=>by simp[Env.grow,hj]) (λb y _ hy=> ?_) ?_ (λb h=> .inr ?_),hle⟩
 ·have hb:b≠r:=λe=>by subst e;rw[hf.1]at hy;cases hy
  exact⟨by rw[OL hb];exact hy,λo=>OK hb o⟩
 ·refine⟨by simp[Env.grow],?_⟩;by_cases e:cap=n'
  ·exact .inl (by simp[Env.grow,e])
  ·refine .inr ⟨r,cap,cs,by simp[Env.grow],OM,hs,by omega,λo ho=> ?_⟩;have:¬(decide (o<n'* sz)=true):=(by simpa using ho);simp only[View.laid,View.fe];rw[if_neg (λx=>this x.2)];exact hf.2 o
 ·simp[bT,Env.grow]at h;obtain⟨_,rfl⟩:=h;exact hf.1
def Conc.al2(hc:Conc E V H){k b n n' cap sz:Nat}{el iB:TypeId}{cs fj:SG}(hk:H[k]?=some (.tail n sz iB))(hrm:E.room k n=(some ⟨b,0,none⟩,cap))(ho:V.own b=some (.cells cs el (0,0)))(hi:∀o,n* sz<=o->V.ai b o=none)(hs:fj.size=cap* sz)(hn:n'<=cap)(hlt:n<n'):
  Conc (E.grow (V.laid b fj el (λo=>n* sz<=o&&o<n'* sz)).ai k (some ⟨b,0,none⟩,cap) n') (V.laid b fj el (λo=>n* sz<=o&&o<n'* sz)) (H.set k (.tail n' sz el))/\E.Le (E.grow (V.laid b fj el (λo=>n* sz<=o&&o<n'* sz)).ai k (some ⟨b,0,none⟩,cap) n'):=by
 have BX:E.fZ k=n:=(hc.obj k _ hk).1;have hp:∀o,(λo=>decide (n* sz<=o)&&decide (o<n'* sz)) o=true->V.ai b o=none:=λo h=>hi o (by simp at h;exact h.1);have hle:=E.ac4 (I:=(V.laid b fj el (λo=>n* sz<=o&&o<n'* sz)).ai) (λb o v h=>IL hp b o v (by rw[<- hc.I];exact h)) (k:=k) (some ⟨b,0,none⟩,cap) (v:=n') (by omega);have kT:bT E k (.tail n sz iB)=some b:=by
  simp only[bT,hrm];rw[if_neg (by omega)];rfl
 refine⟨hc.ja k (.tail n' sz el) hle rfl (by simpa[Env.grow]using hc.n) lQ rfl (λj hj _=>by simp[Env.grow,hj]) (λb' y fS hy=> ?_) ?_ (λb' h=> .inl ⟨_,hk,?_⟩),hle⟩
 ·have hb:b'≠b:=λe=>by subst e;exact fS _ hk kT
  exact⟨by rw[OL hb];exact hy,λo=>OK hb o⟩
 ·refine⟨by simp[Env.grow],?_⟩;by_cases e:cap=n'
  ·exact .inl (by simp[Env.grow,e])
  ·have H_:n* sz<=n'* sz:=UI _ (by omega);refine .inr ⟨b,cap,fj,by simp[Env.grow],OM,hs,by omega,λo bt=> ?_⟩;have:¬((decide (n* sz<=o)&&decide (o<n'* sz))=true):=(by simp;omega);simp only[View.laid,View.fe];rw[if_neg (λx=>this x.2)];exact hi o (by omega)
 ·simp[bT,Env.grow]at h;obtain⟨_,rfl⟩:=h;exact kT
end
section
variable {lv:Bool}{P:Tl}{r:SL}{o:Vo}{s:AS}{next:SV}{bad:AV->SV}
def CM (s:AS)(dst:SL)(next:SV)(n m sz:Nat)(elem:TypeId)(l l':SC):End->Prop
 |.exact=>next ((⟨s.T,s.H++[.tail (n+m) sz elem]⟩:AS).put dst (.sl (n+m) (l++l') (.opn s.H.length)))
 |.opn k=>(match s.H[k]?with
   |some (.tail n' eX iB)=>n'=n/\eX=sz/\iB=elem
   |_=>False)/\(∀a∈l',a.leaf=true)/\next ((⟨s.T,s.H.set k (.tail (n+m) sz elem)⟩:AS).put dst (.sl (n+m) (l++l') (.opn k)))
 |.shut=>m=0/\next (s.put dst (.sl n l .shut))
def aja{E E':Env}{n:Nat}{l:SC}{en:End}{base:S9}{cap:Nat}(h:au E (.sl n l en) (.slice base n cap))(hl:E.Le E'){e':End}(he:qA E' e' base n cap):au E' (.sl n l e') (.slice base n cap):=by
 cases h with
 |sl b o cap f hc _ h1 h2=>exact .sl b o cap f hc he (λi hi=>hl.I _ _ _ (h1 i hi)) (λi x hx=>(h2 i x hx).mono hl)
 |nil _=>exact .nil he
def step_append{c:Ys}{x y:Ur}{t t' elem:TypeId}{sz n m:Nat}{z:Uf}{en:End}{l l':SC}{av:AV}(ho:o.op=.call c)(bi:c.callee=.builtin .append)(cS:c.args=#[x,y]) (dz:c.argTypes=#[t,t']) (ht:jM P t t'=some (elem,sz,z))
  (hx:s.ev x=some (.sl n l en)) (hy:s.ev y=some av) (hs:s.src sz av=some (m,l')) (hl:l.length=n* sz) (fb:l'.length=m* sz) (hb:n+m<=2^30) (hn:CM s o.dst next n m sz elem l l' en):Step lv P r o s next bad:=by
 intro E V a N Q hc aH hd bI h1 _;refine⟨bI,?_⟩;have dJ:=au.ev aH hx;have ji:=au.ev aH hy;generalize kI:a.eval x=vx at dJ;generalize sP:a.eval y=vy at ji;unfold execOp;rw[ho];dsimp only;unfold resolve;rw[bi];dsimp only;refine aA (ay ?_);unfold invoke builtin;dsimp only;refine aA ?_;have oh:c.args.map a.eval=#[vx,vy]:=by rw[cS];simp[kI,sP]
 rw[oh,dz];obtain⟨base,cap,rfl⟩:∃base cap,vx=.slice base n cap:=by
  cases dJ with
  |sl b o cap f eo he q1 q2=>exact⟨_,_,rfl⟩
  |nil he=>exact⟨_,_,rfl⟩
 have eo:n<=cap:=by
  cases dJ with
  |sl b o cap f eo he q1 q2=>exact eo
  |nil he=>exact Ts _
 have fin:∀E' V' H' (nf:AV) v',E.Le E'->V'.role=V.role->V'.deaf=V.deaf->Conc E' V' H'->au E' nf v'->next ((⟨s.T,H'⟩:AS).put o.dst nf)->aU P V' (pure (X7 v')) (nb lv P r o a N Q) (λv V'=>Q (.panic [{v,recovered:=false}]) a V'):=λE' V' H' nf v' hle hr vK bw bx cW=>
  ay (h1 E' V' (a.put o.dst v') ((⟨s.T,H'⟩:AS).put o.dst nf) ⟨hle,eF _ _ _,put_defers _ _ _,hr,vK⟩ (by rw[fK];exact bw) (cC.iG (s:=⟨s.T,H'⟩) (aH.mono hle) hd bx) cW)
 have uy:(l++l').length=(n+m)* sz:=by rw[Tt,hl,fb,Wu]
 cases en with
 |exact=>
  have gz:cap=n:=by
   cases dJ with
   |sl b o cap f eo he q1 q2=>exact he
   |nil he=>rfl
  subst gz;have jm:=hn;simp only[CM]at jm;by_cases hm:m=0
  ·subst hm;have sD:l'=[]:=(by simpa using fb);subst sD;refine Jx hc ht ji hs fb (Ts _) ?_;obtain⟨bw,hle⟩:=hc.Qo (n:=cap) sz elem base;refine fin _ V _ _ _ hle rfl rfl bw (aja (e':=.opn s.H.length) dJ hle ⟨?_,?_,?_⟩) (by simpa using jm)
   ·simp[Env.tok,hc.n]
   ·simp[Env.tok,hc.n]
   ·simp[Env.tok,hc.n]
  ·refine Jw hc ht dJ ji hs hl fb hb (by omega) λrr cs cap' hf bx hle aZ=> ?_;obtain⟨bw,sE⟩:=hc.afA (el:=elem) hf aZ hle;have v4:(cap+m)* sz<=cs.size:=(by rw[aZ];exact UI _ hle);refine aU.ghost (yV (f:=(0,0)) (cs:=cs) (el:=elem) (p:=(·<(cap+m)* sz)) (by simp[View.upd]) (λo _=>hf.2 o)) ?_;refine fin _ _ _ _ _ sE rfl rfl bw (K6 (I:=(V.laid rr cs elem (·<(cap+m)* sz)).ai) (e:=.opn s.H.length) (sz:=sz) (cs:=cs) rfl (bx.mono sE) uy v4 (λo h=>IK (by simpa using h)) hle ⟨?_,?_,?_⟩) jm
   ·simp[Env.tok,hc.n]
   ·simp[Env.tok,hc.n]
   ·simp[Env.tok,hc.n]
 |shut=>
  obtain⟨rfl,jm⟩:=hn;have sD:l'=[]:=by simpa using fb
  subst sD;refine Jx hc ht ji hs fb eo ?_;exact fin E V s.H _ _ (Env.Le.refl E) rfl rfl hc dJ jm
 |opn k=>
  obtain⟨vT,og,jm⟩:=hn;split at vT
  ·rename_i n' eX iB hk;obtain⟨rfl,rfl,rfl⟩:=vT;have heo:qA E (.opn k) base n' cap:=by
    cases dJ with
    |sl b o cap f eo he q1 q2=>exact he
    |nil he=>exact he
   obtain⟨e1,e2,e3⟩:=heo;obtain⟨BX,Ij⟩:=hc.obj k _ hk;have ux:s.H.set k (.tail n' eX iB)=s.H:=by
    apply Zo;intro i;by_cases hi:i=k
    ·subst hi;rw[Yb (Tq.1 hk).1,hk]
    ·rw[U6 (Ne.symm hi)]
   by_cases hm:m=0
   ·subst hm;have sD:l'=[]:=(by simpa using fb);subst sD;refine Jx hc ht ji hs fb eo ?_;refine fin E V s.H _ _ (Env.Le.refl E) rfl rfl hc dJ ?_;rw[VA,ux,To]at jm;exact jm
   ·by_cases j_:n'+m<=cap
    ·rcases Ij with Ij|⟨b,awg,cs,r1,r2,r3,r4,r5⟩
     ·rw[e3]at Ij;simp only at Ij;omega
     ·rw[e3]at r1;cases r1;have kT:bT E k (.tail n' eX iB)=some b:=by
       simp only[bT,e3];rw[if_neg (by omega)];rfl
      refine aeF hc ht ji hs fb j_ r2 (XI r3.symm) r5 (hc.jH hk kT) og λjR lD=> ?_;have BR:jR.toList.length=m* eX:=(by have:=lD.1;simp;omega);have o6:(n'+m)* eX<=cap* eX:=UI _ j_;rw[Wu]at o6;have sM:(storeAt cs (n'* eX) jR.toList).size=cap* eX:=(by rw[Ak];exact r3);obtain⟨bw,sE⟩:=hc.al2 hk e3 r2 r5 sM j_ (by omega);refine aU.ghost (yV (f:=(0,0)) (cs:=storeAt cs (n'* eX) jR.toList) (el:=iB) (p:=λo=>n'* eX<=o&&o<(n'+m)* eX) (by simp[View.upd]) (λo h=>r5 o (by simp at h;exact h.1))) ?_;refine fin _ _ _ _ _ sE rfl rfl bw ?_ jm;cases dJ with
      |nil he=>exact absurd j_ (by omega)
      |sl b' o' cap f HM he q1 q2=>
       have q1':∀i,i<l.length->V.ai b i=some (f i):=λi hi=>(by have:=q1 i hi;rwa[hc.I,Xv]at this);refine .sl b 0 cap (λi=>if i<n'* eX then f i else(storeAt cs (n'* eX) jR.toList).getD i undef) (by omega) ⟨?_,?_,?_⟩ (λi hi=> ?_) (λi x hx=> ?_)
       ·exact e1
       ·simp[Env.grow]
       ·simp[Env.grow]
       ·rw[uy,Wu]at hi;show (V.laid b (storeAt cs (n'* eX) jR.toList) iB (λo=>n'* eX<=o&&o<(n'+m)* eX)).ai b (0+i)=_;rw[Xv];by_cases cI:i<n'* eX
        ·rw[if_pos cI];exact IL (λo h=>r5 o (by simp at h;exact h.1)) _ _ _ (q1' i (by omega))
        ·rw[if_neg cI,IK (by simp[Wu];omega)];have hlt:i<(storeAt cs (n'* eX) jR.toList).size:=(by rw[sM];omega);simp only[Ti,Tn hlt,Ua]
       ·by_cases cI:i<n'* eX
        ·rw[T4 (by omega)]at hx;rw[if_pos cI];exact(q2 i x hx).mono sE
        ·rw[Ud (by omega)]at hx;have vP:i-l.length<l'.length:=(Tq.1 hx).1;rw[if_neg cI,FZ _ _ _ _ (by rw[BR,r3];omega),if_pos (by rw[BR];omega)];have:=(lD.2 _ _ hx).mono sE;rw[hl]at this;simpa[Ti,Tf]using this
    ·refine Jw hc ht dJ ji hs hl fb hb (by omega) λrr cs cap' hf bx hle aZ=> ?_;obtain⟨bw,sE⟩:=hc.al1 (el:=iB) (n':=n'+m) hk hf aZ hle (by omega);have v4:(n'+m)* eX<=cs.size:=(by rw[aZ];exact UI _ hle);refine aU.ghost (yV (f:=(0,0)) (cs:=cs) (el:=iB) (p:=(·<(n'+m)* eX)) (by simp[View.upd]) (λo _=>hf.2 o)) ?_;refine fin _ _ _ _ _ sE rfl rfl bw (K6 (I:=(V.laid rr cs iB (·<(n'+m)* eX)).ai) (e:=.opn k) (sz:=eX) (cs:=cs) rfl (bx.mono sE) uy v4 (λo h=>IK (by simpa using h)) hle ⟨?_,?_,?_⟩) jm
     ·exact e1
     ·simp[Env.grow]
     ·simp[Env.grow]
  ·exact vT.elim
def Env.iK (E:Env)(r:Nat)(I:cG)(c:Nat):Env:={E with I:=I,n:=E.n+1,blk:=λk=>if k=E.n then r else E.blk k,room:=λk u=>if k=E.n/\u=0 then(none,c)else E.room k u}
def Env.Fo(E:Env)(r c:Nat){I:cG}(hI:∀b o v,E.I b o=some v->I b o=some v):E.Le (E.iK r I c):=
 ⟨hI,Z3 _,λk hk=>by simp[Env.iK,Xg hk],λ_ _=>Ts _,λk u hk _=>by simp[Env.iK,Xg hk],rfl,rfl⟩
def Env.yB(E:Env)(r c:Nat)(I:cG):(E.iK r I c).blk E.n=r:=by simp[Env.iK]
def Env.Kv(E:Env)(r c:Nat)(I:cG):(E.iK r I c).room E.n 0=(none,c):=by simp[Env.iK]
def Conc.iK{E:Env}{V:View}{H:SA}(hc:Conc E V H){r c:Nat}(hf:V.fresh r){cs:SG}{sz:Nat}{l:SC}{el:TypeId}(hd:kv (E.iK r V.ai c) l cs)(hs:cs.size=c* sz):Conc (E.iK r V.ai c) (V.upd r (.cells cs el)) (H++[.own sz l el]):=by
 refine hc.ja (E':=E.iK r V.ai c) H.length (.own sz l el) (E.Fo r c (λb o v h=>by rw[<- hc.I];exact h)) rfl (by simp[Env.iK,hc.n]) Fq rfl (λ_ _ _=>rfl) (λb z _ hz=>⟨?_,λ_=>rfl⟩) ?_ (λb h=> .inr ?_)
 ·have:b≠r:=λe=>by rw[e,hf.1]at hz;cases hz
  simpa[View.upd,this]using hz
 ·rw[<- hc.n];refine⟨⟨cs,by rw[Env.yB];simp[View.upd],hd,by rw[Env.Kv];exact hs⟩,λo=> ?_⟩;rw[Env.yB];exact hf.2 o
 ·rw[<- hc.n]at h;simp only[bT,Env.yB,Us]at h;subst h;exact hf.1
def K4{E:Env}{H:SA}(hn:E.n=H.length){r c n:Nat}(I:cG)(h:n<=c){cap:Nat}(o_:n<=cap)(hc:cap<=c)(h0:0<n):au (E.iK r I c) (.bC H.length 0 n 0) (.slice (some ⟨r,0,none⟩) n cap):=by
 have:=au.bC (E:=E.iK r I c) (id:=H.length) (off:=0) (n:=n) (cap:=0) (cap':=cap) (by show _<E.n+1;rw[hn];omega) ⟨o_,λe=>by omega,λ_=>by rw[<- hn,Env.Kv];exact hc⟩;have e:(E.iK r I c).blk H.length=r:=by rw[<- hn];exact E.yB r c I
 rwa[e]at this
def Conc.relabel{E:Env}{V:View}{H:SA}(hc:Conc E V H){id sz:Nat}{l:SC}{el:TypeId}(hk:H[id]?=some (.own sz l el)):Conc (E.iK (E.blk id) V.ai (E.room id 0).2) V (H.set id .gone++[.own sz l el]):=by
 have hle:=E.Fo (E.blk id) (E.room id 0).2 (I:=V.ai) (λb o v h=>by rw[<- hc.I];exact h);have awv:=(Tq.1 hk).1;have hlt:∀(j:Nat) y,H[j]?=some y->j<E.n:=λj y h=>by rw[hc.n];exact(Tq.1 h).1
 have sx:∀(j:Nat) y,(H.set id .gone++[aa.own sz l el])[j]?=some y->(j=H.length/\y=.own sz l el)\/(j=id/\y=.gone)\/(j≠id/\H[j]?=some y):=λj y h=>by
  rcases Fq j y h with⟨h1,h2⟩|⟨_,h⟩
  ·exact .inl ⟨by simpa using h1,h2⟩
  ·rcases lQ j y h with h|h
   ·exact .inr (.inl h)
   ·exact .inr (.inr h)
 have cT:∀(j:Nat) y b,H[j]?=some y->bT (E.iK (E.blk id) V.ai (E.room id 0).2) j y=some b->bT E j y=some b:=λj y b h e=>by rw[<- RN hle (hlt j y h) (hc.obj j y h)];exact e
 have xI:∀b,bT (E.iK (E.blk id) V.ai (E.room id 0).2) H.length (.own sz l el)=some b->b=E.blk id:=λb e=>by
  simp only[bT,<- hc.n,Env.yB,Us]at e;exact e.symm
 have fS:∀g,(∀(k:Nat) x,H[k]?=some x->bT E k x≠some g)->∀(k:Nat) x,(H.set id .gone++[aa.own sz l el])[k]?=some x->bT (E.iK (E.blk id) V.ai (E.room id 0).2) k x≠some g:=λg h0 k x hx e=>by
  rcases sx k x hx with⟨rfl,rfl⟩|⟨_,rfl⟩|⟨_,hx⟩
  ·have:=xI g e;exact h0 id _ hk (by rw[this];rfl)
  ·cases e
  ·exact h0 k x hx (cT k x g hx e)
 refine⟨rfl,by simp[Env.iK,hc.n],λj y h=> ?_,λi j y z b h1 h2 e1 e2=> ?_,λg hg=> ?_,λg hg=> ?_,λhm=>hc.top hm,λb y hf=> ?_⟩
 ·rcases sx j y h with⟨rfl,rfl⟩|⟨_,rfl⟩|⟨_,h⟩
  ·obtain⟨⟨cs,q1,q2,q3⟩,q4⟩:=hc.obj id _ hk;rw[<- hc.n];refine⟨⟨cs,by rw[Env.yB];exact q1,q2.mono hle,by rw[Env.Kv];exact q3⟩,λo=> ?_⟩;rw[Env.yB];exact q4 o
  ·trivial
  ·exact(hc.obj j y h).mono hle (hlt j y h) rfl (λ_ _ _ h=>h) (λ_ _ _=>rfl)
 ·rcases sx i y h1 with⟨rfl,rfl⟩|⟨_,rfl⟩|⟨hi,h1⟩
  ·rcases sx j z h2 with⟨rfl,rfl⟩|⟨_,rfl⟩|⟨hj,h2⟩
   ·rfl
   ·cases e2
   ·have:=xI b e1;exact absurd (hc.inj id j _ z b hk h2 (by rw[this];rfl) (cT j z b h2 e2)).symm hj
  ·cases e1
  ·rcases sx j z h2 with⟨rfl,rfl⟩|⟨_,rfl⟩|⟨hj,h2⟩
   ·have:=xI b e2;exact absurd (hc.inj id i _ y b hk h1 (by rw[this];rfl) (cT i y b h1 e1)).symm hi
   ·cases e2
   ·exact hc.inj i j y z b h1 h2 (cT i y b h1 e1) (cT j z b h2 e2)
 ·obtain⟨h0,h1,h2⟩:=hc.group g hg;exact⟨h0,h1,fS g h2⟩
 ·obtain⟨h0,h1,h2⟩:=hc.chan g hg;exact⟨h0,h1,fS g h2⟩
 ·obtain⟨h0,h1,h2⟩:=hc.fr b y hf;exact⟨h0,h1,fS b h2⟩
def Conc.leave{E:Env}{V:View}{H:SA}(hc:Conc E V H)(id:Nat):Conc E V (H.set id .gone):=
 hc.ja id .gone (Env.Le.refl E) hc.I (by simpa using hc.n) lQ rfl (λ_ _ _=>rfl) (λ_ _ _ hy=>⟨hy,λ_=>rfl⟩) trivial (λb h=>by cases h)
def ajc{E:Env}{l l':SC}{cs vs:SG}(h:kv E l cs)(k:cO E l' vs)(hl:l.length+l'.length<=cs.size):kv E (l++l') (storeAt cs l.length vs.toList):=by
 have hv:vs.toList.length=l'.length:=by simpa using k.1
 refine⟨by rw[Ak,Tt];exact hl,λi a e=> ?_⟩;rw[FZ _ _ _ _ (by rw[hv];exact hl),hv];by_cases h1:i<l.length
 ·rw[if_neg (by omega)];rw[T4 h1]at e;exact h.2 i a e
 ·rw[Ud (by omega)]at e;have h2:=(Tq.1 e).1;rw[if_pos ⟨by omega,by omega⟩];have:=k.2 _ a e;simpa[Ti,Tf]using this
def Su{E:Env}{l:SC}{cs:SG}{k:Nat}(h:cO E l (cs.extract 0 k))(hk:l.length=k)(hs:k<=cs.size):kv E l cs:=by
 refine⟨by omega,λi a e=> ?_⟩;have hi:=(Tq.1 e).1;have gB:i<cs.size:=by omega
 have:=h.2 i a e;rw[Ti,Array.getElem?_extract_of_lt (by omega)]at this;rw[Ti];simpa[Tn gB]using this
def afd{c:Ys}{x y:Ur}{t t' elem:TypeId}{sz n m:Nat}{z:Uf}{l l':SC}{av:AV}(ho:o.op=.call c)(bi:c.callee=.builtin .append)(cS:c.args=#[x,y]) (dz:c.argTypes=#[t,t']) (ht:jM P t t'=some (elem,sz,z))
  (hx:s.ev x=some (.sl n l .exact)) (hy:s.ev y=some av) (hs:s.src sz av=some (m,l')) (hl:l.length=n* sz) (fb:l'.length=m* sz) (hb:n+m<=2^30) (hm:0<m) (hn:next ((⟨s.T,s.H++[.own sz (l++l') elem]⟩:AS).put o.dst (.bC s.H.length 0 (n+m) 0))):Step lv P r o s next bad:=by
 intro E V a N Q hc aH hd bI h1 _;refine⟨bI,?_⟩;have dJ:=au.ev aH hx;have ji:=au.ev aH hy;generalize kI:a.eval x=vx at dJ;generalize sP:a.eval y=vy at ji;unfold execOp;rw[ho];dsimp only;unfold resolve;rw[bi];dsimp only;refine aA (ay ?_);unfold invoke builtin;dsimp only;refine aA ?_;have oh:c.args.map a.eval=#[vx,vy]:=by rw[cS];simp[kI,sP]
 rw[oh,dz];obtain⟨base,cap,rfl⟩:∃base cap,vx=.slice base n cap:=by
  cases dJ with
  |sl b o cap f eo he q1 q2=>exact⟨_,_,rfl⟩
  |nil he=>exact⟨_,_,rfl⟩
 have gz:cap=n:=by
  cases dJ with
  |sl b o cap f eo he q1 q2=>exact he
  |nil he=>rfl
 subst gz;refine Jw hc ht dJ ji hs hl fb hb (by omega) λrr cs cap' hf bx hle aZ=> ?_;have uy:(l++l').length=(cap+m)* sz:=by rw[Tt,hl,fb,Wu]
 have v4:(cap+m)* sz<=cs.size:=by rw[aZ];exact UI _ hle
 have o5:E.Le (E.iK rr V.ai cap'):=E.Fo rr cap' (λb o v h=>by rw[<- hc.I];exact h);have bw:=hc.iK (el:=elem) (c:=cap') hf ((Su bx uy v4).mono o5) aZ;have pX:=K4 hc.n (r:=rr) V.ai hle (n:=cap+m) (cap:=cap') hle (Ts _) (by omega);exact ay (h1 _ _ (a.put o.dst _) _ ⟨o5,eF _ _ _,put_defers _ _ _,rfl,rfl⟩ (by rw[fK];exact bw) (cC.iG (s:=⟨s.T,s.H++[.own sz (l++l') elem]⟩) (aH.mono o5) hd pX) hn)
def afc{c:Ys}{x y:Ur}{t t' elem el:TypeId}{sz n m c0 id:Nat}{z:Uf}{l l':SC}{av:AV}(ho:o.op=.call c)(bi:c.callee=.builtin .append)(cS:c.args=#[x,y]) (dz:c.argTypes=#[t,t']) (ht:jM P t t'=some (elem,sz,z))
  (hx:s.ev x=some (.bC id 0 n c0)) (sr:c0<n) (cg:s.H[id]?=some (.own sz l el)) (hel:el=elem) (hy:s.ev y=some av) (hs:s.src sz av=some (m,l')) (hl:l.length=n* sz) (fb:l'.length=m* sz) (hb:n+m<=2^30) (og:∀a∈l',a.leaf=true) (hn:next ((⟨s.T,s.H.set id .gone++[.own sz (l++l') elem]⟩:AS).put o.dst (.bC s.H.length 0 (n+m) 0))):Step lv P r o s next bad:=by
 subst hel;intro E V a N Q hc aH hd bI h1 _;refine⟨bI,?_⟩;have dJ:=au.ev aH hx;have ji:=au.ev aH hy;generalize kI:a.eval x=vx at dJ;generalize sP:a.eval y=vy at ji;unfold execOp;rw[ho];dsimp only;unfold resolve;rw[bi];dsimp only;refine aA (ay ?_);unfold invoke builtin;dsimp only;refine aA ?_;have oh:c.args.map a.eval=#[vx,vy]:=by rw[cS];simp[kI,sP]
 rw[oh,dz];have amR:=dJ;have uy:(l++l').length=(n+m)* sz:=by rw[Tt,hl,fb,Wu]
 have dn:s.src sz (.bC id 0 n c0)=some (n,l):=by
  simp only[AS.src];rw[cg];simp only[YA];rw[<- hl,Un]
 cases dJ with
 |bC hi eo=>
  rename_i cap';obtain⟨q1,_,q3⟩:=eo;have q3:=q3 sr;obtain⟨⟨cs,p1,p2,p3⟩,p4⟩:=hc.obj id _ cg;by_cases j_:n+m<=cap'
  ·have nj:(n+m)* sz<=cap'* sz:=UI _ j_;have sq:cap'* sz<=cs.size:=(by rw[p3];exact UI _ q3);refine aeF hc ht ji hs fb j_ p1 sq (λo _=>p4 o) (hc.jH cg rfl) og λjR lD=> ?_;have MS:kv E (l++l') (storeAt cs (n* sz) jR.toList):=by
    rw[<- hl];exact ajc p2 lD (by rw[<- Tt,uy];omega)
   have dE:=hc.aeS cg MS (by rw[Ak];exact p3);have sx:(s.H.set id (.own sz (l++l') el))[id]?=some (.own sz (l++l') el):=(by rw[Yb ((Tq.1 cg).1)]);have bZ:=dE.relabel sx;rw[Ya]at bZ;have o5:E.Le (E.iK (E.blk id) V.ai (E.room id 0).2):=E.Fo _ _ (λb o v h=>by rw[<- hc.I];exact h);have pX:au (E.iK (E.blk id) V.ai (E.room id 0).2) (.bC s.H.length 0 (n+m) 0) (.slice (some ⟨E.blk id,0,none⟩) (n+m) cap'):=K4 hc.n V.ai (by omega) j_ q3 (by omega);exact ay (h1 _ _ (a.put o.dst _) _ ⟨o5,eF _ _ _,put_defers _ _ _,rfl,rfl⟩ (by rw[fK];exact bZ) (cC.iG (s:=⟨s.T,s.H.set id .gone++[.own sz (l++l') el]⟩) (aH.mono o5) hd pX) hn)
  ·refine aeG hc ht amR dn ji hs hl fb hb (by omega) λrr fj Dq hf bx hle aZ=> ?_;have v4:(n+m)* sz<=fj.size:=(by rw[aZ];exact UI _ hle);have o5:E.Le (E.iK rr V.ai Dq):=E.Fo rr Dq (λb o v h=>by rw[<- hc.I];exact h);have HL:=hc.leave id;have bw:=HL.iK (el:=el) (c:=Dq) hf ((Su bx uy v4).mono o5) aZ;have pX:au (E.iK rr V.ai Dq) (.bC s.H.length 0 (n+m) 0) (.slice (some ⟨rr,0,none⟩) (n+m) Dq):=K4 hc.n V.ai hle hle (Ts _) (by omega);exact ay (h1 _ _ (a.put o.dst _) _ ⟨o5,eF _ _ _,put_defers _ _ _,rfl,rfl⟩ (by rw[fK];exact bw) (cC.iG (s:=⟨s.T,s.H.set id .gone++[.own sz (l++l') el]⟩) (aH.mono o5) hd pX) hn)
end
open Go.Conc
def a_(n:Int)(h: -9223372036854775808<=n/\n<=9223372036854775807):Tg.wrap n=n:=by
 have e:Tg.wrap n=if n % 18446744073709551616>=9223372036854775808 then n % 18446744073709551616-18446744073709551616 else n % 18446744073709551616:=by
  unfold Yf;simp[ax_,ax9]
 rw[e];split<;>omega
def TN(n:Nat)(h:(n:Int)+1<=9223372036854775807):Tg.wrap ((n:Int)+1)=((n+1:Nat):Int):=by rw[a_ _ (by omega)];rfl
def cL (P:Tl){α:Type}(s:Sem α)(x:α):Prop:=∀w es,s.runT P w es=(.ok x w,es)
def cL.ok{P:Tl}{α:Type}{V:View}{s:Sem α}{x:α}{K:α->View->Prop}{Kp:SS}(h:cL P s x)(hk:K x V):aU P V s K Kp:=
 λw hw fw=>⟨#[],w,V,by simpa[gn]using du.idle hw,.inl ⟨x,by rw[h w fw];simp,hk⟩⟩
def cL.bind{P:Tl}{α β:Type}{V:View}{s:Sem α}{x:α}{f:α->Sem β}{K:β->View->Prop}{Kp:SS}(h:cL P s x)(hk:aU P V (f x) K Kp):aU P V (s>>=f) K Kp:=
 aA (h.ok hk)
def AV.wX:AV->Option Int
 |.val (.int _ n)=>some n
 |_=>none
def au.wX{E:Env}{a:AV}{v:Uf}{n:Int}(hd:au E a v)(h:a.wX=some n):∃k,v=.int k n:=by
 cases hd with
 |val x=>unfold AV.wX at h;split at h<;>simp_all
 |_=>cases h
abbrev TM:=Option Int
def AS.jw (s:AS):Option Ur->Option (TM)
 |none=>some none
 |some x=>match s.ev x with
  |some a=>a.wX.map some
  |none=>none
def AM{E:Env}{s:AS}{a:Act}(k:cC E s.T a.tmps){x:Option Ur}{i:TM}(h:s.jw x=some i):(i=none/\x.map a.eval=none)\/∃n kd,i=some n/\x.map a.eval=some (.int kd n):=by
 cases x with
 |none=>cases h;exact .inl ⟨rfl,rfl⟩
 |some x=>
  simp only[AS.jw]at h;split at h
  ·rename_i av hav;obtain⟨n,hn,rfl⟩:=lz h;obtain⟨kd,hv⟩:=(au.ev k hav).wX hn;exact .inr ⟨n,kd,rfl,by simp[hv]⟩
  ·cases h
section
variable {P:Tl}{V:View}{Kp:SS}
def Cs{kd:U3}{n:Int}{y:Nat}{code:BoundsCode}{K:Nat->View->Prop}(h0:0<=n)(h1:n<=y)(h:K n.toNat V):aU P V (ai' (.int kd n) y code) K Kp:=by
 unfold ai' asIntOf;refine aA (ay ?_);dsimp only;rw[if_pos ⟨h0,h1⟩];exact ay h
def P6{E:Env}{s:AS}{a:Act}(k:cC E s.T a.tmps){isS:Bool}{len cap:Nat}{lo hi mx:Option Ur}{l h m:TM}(hl:s.jw lo=some l)(hh:s.jw hi=some h)(hm:s.jw mx=some m){K:Nat×Nat×Nat->View->Prop}
  (hlc:len<=cap) (c0:0<=l.getD 0) (c1:l.getD 0<=h.getD len) (c2:h.getD len<=m.getD cap) (c3:m.getD cap<=cap) (c4:m.isSome=true->h.isSome=true) (hK:K ((l.getD 0).toNat,(h.getD len).toNat,(m.getD cap).toNat) V):
  aU P V (ad' isS len cap (lo.map a.eval) (hi.map a.eval) (mx.map a.eval)) K Kp:=by
 unfold ad';rcases AM k hm with⟨rfl,em⟩|⟨vm,km,rfl,em⟩
 ·rw[em];refine aA (ay ?_);rcases AM k hh with⟨rfl,eh⟩|⟨vh,kh,rfl,eh⟩
  ·rw[eh];refine aA (ay ?_);rcases AM k hl with⟨rfl,el⟩|⟨vl,kl,rfl,el⟩
   ·rw[el];exact aA (ay (ay (by simpa using hK)))
   ·rw[el];simp only[Ua,WA]at c0 c1 c2;exact aA (Cs c0 c1 (ay (by simpa using hK)))
  ·rw[eh];simp only[Ua,WA]at c0 c1 c2 c3;refine aA (Cs (by omega) c2 ?_);rcases AM k hl with⟨rfl,el⟩|⟨vl,kl,rfl,el⟩
   ·rw[el];exact aA (ay (ay (by simpa using hK)))
   ·rw[el];simp only[Ua,WA]at c0 c1 c2;exact aA (Cs c0 (by omega) (ay (by simpa using hK)))
 ·rw[em];simp only[Ua,Option.isSome_some,true_implies]at c2 c3 c4;rcases AM k hh with⟨rfl,eh⟩|⟨vh,kh,rfl,eh⟩
  ·cases c4
  ·rw[eh];simp only[Ua]at c1 c2 c0;refine aA (Cs (by omega) c3 ?_);refine aA (Cs (by omega) (by omega) ?_);rcases AM k hl with⟨rfl,el⟩|⟨vl,kl,rfl,el⟩
   ·rw[el];exact aA (ay (ay (by simpa using hK)))
   ·rw[el];simp only[Ua]at c0 c1;exact aA (Cs c0 (by omega) (ay (by simpa using hK)))
end
abbrev SR:=AV->Prop
def yx (n:Nat)(l:SC)(e:End)(sz:Nat)(lo hi mx:TM)(k:SR):Prop:=
 l.length=n* sz/\0<=lo.getD 0/\lo.getD 0<=hi.getD n/\hi.getD n<=mx.getD n/\mx.getD n<=n/\(mx.isSome=true->hi.isSome=true)/\
 k (.sl ((hi.getD n).toNat-(lo.getD 0).toNat) ((l.drop ((lo.getD 0).toNat* sz)).take (((hi.getD n).toNat-(lo.getD 0).toNat)* sz))
  (if mx.isSome&&mx.getD n==hi.getD n then .exact else if lo.getD 0==0&&hi.getD n==n&&mx.isNone then e else .shut))
def kM (P:Tl)(t:TypeId):Option (TypeId×Nat):=match P.underlying t with
 |some (.slice e)=>(P.info? e).map λi=>(e,i.size)
 |_=>none
def yp (P:Tl)(t:TypeId):Option (Nat×Nat):=match P.underlying t with
 |some (.array n e)=>(P.info? e).map λi=>(n,i.size)
 |_=>none
open Go.Conc
section
variable {lv:Bool}{P:Tl}{r:SL}{o:Vo}{s:AS}{next:SV}{bad:AV->SV}
def ar6{t e:TypeId}{x:Ur}{lo hi mx:Option Ur}{l h m:TM}{n sz:Nat}{li:SC}{en:End}(ho:o.op=.slice t x lo hi mx)(ht:kM P t=some (e,sz))(hx:s.ev x=some (.sl n li en))(hl:s.jw lo=some l)(hh:s.jw hi=some h)(hm:s.jw mx=some m)
  {k:SR} (hc:yx n li en sz l h m k):∃av,dL lv P r o s av/\k av:=by
 obtain⟨hlen,c0,c1,c2,c3,c4,hk⟩:=hc;refine⟨_,jp (λE V a hc aH=> ?_),hk⟩;have hd:=au.ev aH hx;generalize hv:a.eval x=v at hd;unfold kM at ht;split at ht
 ·rename_i e' hu;obtain⟨i,cI,ht⟩:=lz ht;cases ht;unfold execOp;rw[ho];simp only[hv];refine aA ?_;unfold Zk;refine eM hu ?_;dsimp only;unfold axc;refine eM hu ?_;obtain⟨base,cap,rfl⟩:∃base cap,v=.slice base n cap:=by
   cases hd with
   |sl b o cap f eo he q1 q2=>exact⟨_,_,rfl⟩
   |nil he=>exact⟨_,_,rfl⟩
  have eo:n<=cap:=by
   cases hd with
   |sl b o cap f eo he q1 q2=>exact eo
   |nil he=>exact Ts _
  dsimp only;have hmm:m.getD (cap:Int)=if m.isSome then m.getD n else cap:=by cases m<;>simp
  refine aA (P6 aH hl hh hm eo c0 c1 ?_ ?_ c4 ?_)
  ·cases m with
   |none=>simp only[WA]at c2⊢;omega
   |some m=>simpa using c2
  ·cases m with
   |none=>simp
   |some m=>simp only[Ua]at c3⊢;omega
  refine kq cI ?_;refine ay (ay ⟨rfl,_,rfl,?_⟩);generalize hA:(l.getD 0).toNat=A;generalize hB:(h.getD (n:Int)).toNat=B;have hAB:A<=B:=by omega
  have hBn:B<=n:=by omega
  generalize hM:(m.getD (cap:Int)).toNat=M;have hBM:B<=M:=by
   cases m with
   |none=>simp only[WA]at hM;omega
   |some m=>simp only[Ua]at hM c2;omega
  cases hd with
  |nil he=>
   have A':A=0:=(by omega);have hB0:B=0:=(by omega);have hM0:M=0:=by
    cases m with
    |none=>simp only[WA]at hM;omega
    |some m=>simp only[Ua]at hM c3;omega
   rw[A',hB0,hM0];simp only[if_true,aw',axJ,Z'];refine .nil ?_;split
   ·rfl
   ·split
    ·exact he
    ·trivial
  |sl b o cap f eo he q1 q2=>
   have D6:(if M=A then some (⟨b,o,none⟩:WC)else(some (⟨b,o,none⟩:WC)).map λx=>x.add (A* i.size))=some ⟨b,if M=A then o else o+A* i.size,none⟩:=by
    split
    ·rfl
    ·simp only[VS,add_plain]
   rw[D6];have hb:(B-A)* i.size+A* i.size<=n* i.size:=(by rw[<- Wu];exact UI _ (by omega));refine .sl b _ (M-A) (λj=>f (A* i.size+j)) (by omega) ?_ (λj hj=> ?_) (λj y hj=> ?_)
   ·split
    ·rename_i hx;simp only[Uh,beq_iff_eq]at hx;cases m with
     |none=>simp at hx
     |some m=>
      simp only[Ua]at hM hx;show M-A=B-A;omega
    ·split
     ·rename_i hx;simp only[Uh,beq_iff_eq]at hx;obtain⟨⟨x1,x2⟩,x3⟩:=hx;have:A=0:=(by omega);have:B=n:=(by omega);cases m with
      |some m=>cases x3
      |none=>
       simp only[WA]at hM;have hMc:M=cap:=(by omega);subst hMc;have e1:M-A=M:=(by omega);have e2:B-A=n:=(by omega);have e3:(if M=A then o else o+A* i.size)=o:=(by split<;>simp_all);rw[e1,e2,e3];exact he
     ·trivial
   ·simp only[Ux,Vr]at hj;have hMA:M≠A:=by
     intro e;have:B-A=0:=(by omega);rw[this]at hj;omega
    rw[if_neg hMA,Wa];exact q1 _ (by omega)
   ·rw[Vm]at hj;split at hj
    ·rw[Vs]at hj;exact q2 _ _ hj
    ·cases hj
 ·cases ht
def tK (id off n cap sz:Nat)(lo hi mx:TM)(k:SR):Prop:=
 n<=cap/\0<=lo.getD 0/\lo.getD 0<=hi.getD n/\hi.getD n<=mx.getD cap/\mx.getD cap<=cap/\(mx.isSome=true->hi.isSome=true)/\(lo.getD 0=0\/lo.getD 0<mx.getD cap)/\
 k (.bC id (off+(lo.getD 0).toNat* sz) ((hi.getD n).toNat-(lo.getD 0).toNat) ((mx.getD cap).toNat-(lo.getD 0).toNat))
def ar8{t e:TypeId}{x:Ur}{lo hi mx:Option Ur}{l h m:TM}{id off n cap sz:Nat}(ho:o.op=.slice t x lo hi mx)(ht:kM P t=some (e,sz))(hx:s.ev x=some (.bC id off n cap))(hl:s.jw lo=some l)(hh:s.jw hi=some h)(hm:s.jw mx=some m)
  {k:SR} (hc:tK id off n cap sz l h m k):∃av,dL lv P r o s av/\k av:=by
 obtain⟨hlen,c0,c1,c2,c3,c4,c5,hk⟩:=hc;refine⟨_,jp (λE V a hc aH=> ?_),hk⟩;have hd:=au.ev aH hx;generalize hv:a.eval x=v at hd;unfold kM at ht;split at ht
 ·rename_i e' hu;obtain⟨i,cI,ht⟩:=lz ht;cases ht;unfold execOp;rw[ho];simp only[hv];refine aA ?_;unfold Zk;refine eM hu ?_;dsimp only;unfold axc;refine eM hu ?_;cases hd with
  |bC cg eo=>
   rename_i cap';obtain rfl:cap=cap':=eo.2.1 hlen;dsimp only;refine aA (P6 aH hl hh hm hlen c0 c1 c2 c3 c4 ?_);refine kq cI ?_;refine ay (ay ⟨rfl,_,rfl,?_⟩);have D6:(if(m.getD (cap:Int)).toNat=(l.getD 0).toNat then some (⟨E.blk id,off,none⟩:WC)else(some (⟨E.blk id,off,none⟩:WC)).map λx=>x.add ((l.getD 0).toNat* i.size))=some ⟨E.blk id,off+(l.getD 0).toNat* i.size,none⟩:=by
    split
    ·have:(l.getD 0).toNat=0:=(by omega);rw[this];simp
    ·simp only[VS,add_plain]
   rw[D6];exact .bC cg ⟨by dsimp only;omega,λ_=>rfl,λh=>absurd h (by omega)⟩
 ·cases ht
def ar7{t:TypeId}{x:Ur}{lo hi mx:Option Ur}{l h m:TM}{id off n sz:Nat}(ho:o.op=.slice t x lo hi mx)(ht:yp P t=some (n,sz))(hx:s.ev x=some (.op id off))(hl:s.jw lo=some l)(hh:s.jw hi=some h)(hm:s.jw mx=some m)
  {k:SR} (hc:tK id off n n sz l h m k):∃av,dL lv P r o s av/\k av:=by
 obtain⟨hlen,c0,c1,c2,c3,c4,c5,hk⟩:=hc;refine⟨_,jp (λE V a hc aH=> ?_),hk⟩;have hd:=au.ev aH hx;generalize hv:a.eval x=v at hd;unfold yp at ht;split at ht
 ·rename_i m' e' hu;obtain⟨i,cI,ht⟩:=lz ht;cases ht;unfold execOp;rw[ho];simp only[hv];refine aA ?_;unfold Zk;refine eM hu ?_;cases hd with
  |op cg=>
   dsimp only;unfold Wq;refine aA (ay ?_);refine aA (P6 aH hl hh hm hlen c0 c1 c2 c3 c4 ?_);refine kq cI ?_;refine ay (ay ⟨rfl,_,rfl,?_⟩);have D6:(if(m.getD (n:Int)).toNat=(l.getD 0).toNat then(⟨E.blk id,off,none⟩:WC)else(⟨E.blk id,off,none⟩:WC).add ((l.getD 0).toNat* i.size))=⟨E.blk id,off+(l.getD 0).toNat* i.size,none⟩:=by
    split
    ·have:(l.getD 0).toNat=0:=(by omega);rw[this];simp
    ·rw[add_plain]
   rw[D6];exact .bC cg ⟨by dsimp only;omega,λ_=>rfl,λh=>absurd h (by omega)⟩
 ·cases ht
def atX{c:Ys}{x y:Ur}{t t' e:TypeId}{id off n cap sz m:Nat}{l l':SC}{el:TypeId}{av:AV}(ho:o.op=.call c)(bi:c.callee=.builtin .copy)(cS:c.args=#[x,y]) (dz:c.argTypes=#[t,t']) (ht:kM P t=some (e,sz)) (hx:s.ev x=some (.bC id off n cap))
  (hk:s.H[id]?=some (.cells l el)) (hy:s.ev y=some av) (hs:s.src sz av=some (m,l')) (fb:l'.length=m* sz) (hl:off+min m n* sz<=l.length) (og:∀a∈l',a.leaf=true)
  (hn:next ((⟨s.T,s.H.set id (.cells (iY l off (l'.take (min m n* sz))) el)⟩:AS).put o.dst (.val (.int .i64 (min m n:Nat))))):Step lv P r o s next bad:=by
 intro E V a N Q hc aH hd bI h1 _;refine⟨bI,?_⟩;have dJ:=au.ev aH hx;have ji:=au.ev aH hy;generalize kI:a.eval x=vx at dJ;generalize sP:a.eval y=vy at ji;unfold execOp;rw[ho];dsimp only;unfold resolve;rw[bi];dsimp only;refine aA (ay ?_);unfold invoke builtin;dsimp only;refine aA ?_;have oh:c.args.map a.eval=#[vx,vy]:=by rw[cS];simp[kI,sP]
 rw[oh,dz];unfold kM at ht;split at ht
 ·rename_i e' hu;obtain⟨i,cI,ht⟩:=lz ht;cases ht;cases dJ with
  |bC cg _=>
   obtain⟨⟨cs,p1,p2⟩,p3⟩:=hc.obj id _ hk;obtain⟨g1,g2⟩:=hc.jH hk rfl;unfold ayo;simp only[Wt,WF,VP];refine eM hu ?_;dsimp only;rw[JB ji hs];refine aA (ay ?_);refine kq cI ?_;refine aA (FR hc ji hs fb (asg _ _) λjR lD=> ?_);have h2:(l'.take (min m n* i.size)).length=min m n* i.size:=by
    have:min m n* i.size<=m* i.size:=UI _ (asg _ _);simp;omega
   refine aA (Ct _ 0 V cs g1 g2 p1 (λo _ _=>p3 o) (by
    have hq:jR.size=min m n* i.size:=(by(rw[lD.1];exact h2));have:=p2.1;simp only[Array.length_toList];omega) (Du lD (λa ha=>og a (W5 ha))) ?_)
   rw[VA];refine ay (ay (h1 E _ (a.put o.dst _) _ ⟨Env.Le.refl E,eF _ _ _,put_defers _ _ _,rfl,rfl⟩ (by rw[fK];exact hc.set hk (K8 p2 lD (by rw[h2];exact hl)))
    (cC.iG (s:=⟨s.T,s.H.set id (.cells (iY l off (l'.take (min m n* i.size))) el)⟩) aH hd (.val _)) hn))
 ·cases ht
def CY (P:Tl)(t:TypeId):Option (TypeId×Nat×Uf):=match P.underlying t with
 |some (.slice e)=>(P.info? e).bind λi=>i.zero.bind λz=>if z.cells.size=i.size/\i.bytes<=2^16 then some (e,i.size,z)else none
 |_=>none
def afh{t e:TypeId}{x y:Ur}{n sz:Nat}{z:Uf}{k k':U3}(ho:o.op=.makeSlice t x y)(ht:CY P t=some (e,sz,z))(hx:s.ev x=some (.val (.int k n)))(hy:s.ev y=some (.val (.int k' n)))(hb:n<=2^30)
  (hn:next ((⟨s.T,s.H++[.cells (gZ z (n* sz)) e]⟩:AS).put o.dst (.bC s.H.length 0 n n))):Step lv P r o s next bad:=by
 intro E V a N Q hc aH hd bI h1 _;refine⟨bI,?_⟩;have dJ:=au.ev aH hx;have ji:=au.ev aH hy;generalize kI:a.eval x=vx at dJ;generalize sP:a.eval y=vy at ji;cases dJ;cases ji;unfold CY at ht;split at ht
 ·rename_i e' hu;obtain⟨i,q1,ht⟩:=Um.1 ht;obtain⟨z',q2,ht⟩:=Um.1 ht;split at ht
  ·rename_i zh;cases ht;unfold execOp;rw[ho];simp only[kI,sP];refine aA ?_;unfold Instr.makeSlice;refine eM hu ?_;dsimp only;refine aA (ay ?_);refine aA (ay ?_);refine Af q1 ?_;have hw:Tg.wrap (n:Int)=n:=a_ _ (by omega);rw[hw];have hmul:i.bytes* n<=2^16* 2^30:=avs zh.2 hb;have awA:(i.bytes:Int)* n<=2^46:=(by exact_mod_cast hmul);rw[if_neg (by simp;omega)];refine aA (aeH ?_);refine kq q1 ?_;rw[WU];have fin:∀(zero:SG),(∀j,j<n* i.size->zero[j % zero.size]! =z.cells[j % z.cells.size]!)->aU P V (do let a<- newRow e ((XK (n* i.size)).map (zero[· % zero.size]!));pure (UO (some a) n n)) (λx V'=>aU P V' (pure (X7 x)) (nb lv P r o a N Q) (λv V'=>Q (.panic [{v,recovered:=false}]) a V')) (λv V'=>Q (.panic [{v,recovered:=false}]) a V'):=by
    intro zero hz;unfold newRow;refine aA (aA (py λrr hf=>cN (ay (ay (ay ?_)))));have hle:E.Le (E.add rr V.ai):=E.ru rr (λb o v h=>by rw[<- hc.I];exact h);have amu:(XK (n* i.size)).map (zero[· % zero.size]!)=(XK (n* i.size)).map (λx=>z.cells[x % z.cells.size]!):=by
     apply WT;simp only[W2];apply WR;intro j hj;exact hz j (by simpa using hj)
    rw[amu];have bw:Conc (E.add rr V.ai) (V.upd rr (.cells ((XK (n* i.size)).map (λx=>z.cells[x % z.cells.size]!)) e)) (s.H++[.cells (gZ z (n* i.size)) e]):=by
     refine hc.add hf _ ⟨⟨_,?_,K9 z _⟩,λo=> ?_⟩ (λb e=> ?_)
     ·rw[Env.dZ];simp[View.upd]
     ·rw[Env.dZ];exact hf.2 o
     ·simp only[bT,Env.dZ,Us]at e;exact e.symm
    have bx:au (E.add rr V.ai) (.bC s.H.length 0 n n) (.slice (some ⟨rr,0,none⟩) n n):=by
     have:=au.bC (E:=E.add rr V.ai) (id:=s.H.length) (off:=0) (n:=n) (cap:=n) (cap':=n) (by show _<E.n+1;rw[hc.n];omega) ⟨Ts _,λ_=>rfl,λh=>absurd h (axA _)⟩;have e:(E.add rr V.ai).blk s.H.length=rr:=(by rw[<- hc.n];exact E.dZ rr _);rwa[e]at this
    exact h1 _ _ (a.put o.dst _) ((⟨s.T,s.H++[.cells (gZ z (n* i.size)) e]⟩:AS).put o.dst (.bC s.H.length 0 n n)) ⟨hle,eF _ _ _,put_defers _ _ _,rfl,rfl⟩ (by rw[fK];exact bw)
     (cC.iG (s:=⟨s.T,s.H++[.cells (gZ z (n* i.size)) e]⟩) (aH.mono hle) hd bx) hn
   by_cases h0:n* i.size=0
   ·rw[if_pos h0];refine aA (ay ?_);exact fin #[] (λj hj=>by omega)
   ·rw[if_neg h0];refine aA (aA ?_);unfold typeInfo;refine aA (rD (cN ?_));rw[q1];refine ay ?_;rw[q2];refine ay (aA (ay ?_));exact fin z.cells (λj _=>rfl)
  ·cases ht
 ·cases ht
def AV.Ci:AV->Option Uf
 |.val x=>some x
 |_=>none
def AV.raw:AV->Option Uf
 |.val x=>some x
 |.agg l=>(l.mapM AV.Ci).map λvs=> .agg vs.toArray
 |_=>none
def au.Ci{E:Env}{a:AV}{v x:Uf}(h:au E a v)(hr:a.Ci=some x):v=x:=by
 cases h<;>cases hr;rfl
def au.raw{E:Env}{a:AV}{v x:Uf}(h:au E a v)(hr:a.raw=some x):v=x:=by
 cases h with
 |val=>cases hr;rfl
 |agg hs h=>
  obtain⟨vs,h1,rfl⟩:=lz hr;congr 1;rename_i l cs;have key:∀(l:SC)(vs:TE)(cs:TE),l.mapM AV.Ci=some vs->cs.length=l.length->(∀(i:Nat) a,l[i]?=some a->au E a (cs.getD i undef))->cs=vs:=by
   intro l;induction l with
   |nil=>intro vs cs h1 h2 _;simp at h1;subst h1;simpa using h2
   |cons a l ih=>
    intro vs cs h1 h2 h3;simp only[Vb,Vk,UX,Um,Us]at h1;obtain⟨b,e1,bs,e2,rfl⟩:=h1;cases cs with
    |nil=>simp at h2
    |cons c cs=>
     have hc:=(h3 0 a rfl).Ci e1;have:=ih bs cs e2 (by simpa using h2) (λi x hx=>by simpa using h3 (i+1) x (by simpa using hx));subst this;simp only[Yr]at hc;rw[hc]
  have:=key l vs cs.toList h1 (by simpa using hs) (λi a e=>by have:=h i a e;rw[Ti]at this;simpa[Tf]using this);rw[<- this]
 |_=>cases hr
def yO:Uf->Uf->Bool
 |.agg _,.agg _=>true
 |.bool _,.bool _=>true
 |_,_=>false
def arJ{op:Xf}{xt yt:TypeId}{x y:Ur}{a b:AV}{X Y:Uf}{e:Bool}(ho:o.op=.binOp op xt x y yt)(az:op=.eql\/op=.neq)(hx:s.ev x=some a)(hy:s.ev y=some b)(hX:a.raw=some X)(hY:b.raw=some Y)(hk:yO X Y=true)(hg:P.eqGuardType P.depth xt=false)(he:cL P (XP xt X Y) e):
  dL lv P r o s (.val (.bool (if op== .neq then !e else e))):=
 jp (λE V ac hc aH=>by
  have e1:=(au.ev aH hx).raw hX;have e2:=(au.ev aH hy).raw hY;unfold execOp;rw[ho];simp only[e1,e2];refine aA ?_;have guard:∀{K:Unit->View->Prop},K () V->aU P V (eqGuard op xt x y X Y) K (λ_ _=>False):=λhK=>by
   unfold eqGuard;unfold yO at hk;split at hk
   ·rcases az with rfl|rfl
    all_goals
     simp only[af',UD,if_false];refine aA (rD (cN ?_));refine aA (rD (cN ?_));rw[hg];exact ay hK
   ·rcases az with rfl|rfl<;>exact ay hK
   ·cases hk
  refine aA (guard ?_);unfold yO at hk;split at hk
  ·rcases az with rfl|rfl<;>(unfold binOp;refine he.bind (ay (ay ⟨rfl,_,rfl,?_⟩));exact .val _)
  ·rcases az with rfl|rfl<;>(unfold binOp;refine he.bind (ay (ay ⟨rfl,_,rfl,?_⟩));exact .val _)
  ·cases hk)
def ajH{t:TypeId}{v:Uf}{b:Bool}{V:View}{K:Bool->View->Prop}{Kp:SS}(ht:mR P t=some true)(hv:(v=.nilIface/\b=true)\/((∃u x,v=.iface u x)/\b=false))(hk:K b V):aU P V (XP t v .nilIface) K Kp:=by
 obtain⟨el,hu⟩:∃el,P.underlying t=some (.interface el):=by
  unfold mR at ht;cases h:P.underlying t with
  |none=>rw[h]at ht;cases ht
  |some d=>
   rw[h]at ht;cases d<;>first|exact⟨_,rfl⟩|(simp at ht)
 have e:XP t v .nilIface=WN (9999+1) t v .nilIface:=rfl;rw[e,WN];refine eM hu ?_;rcases hv with⟨rfl,rfl⟩|⟨⟨u,x,rfl⟩,rfl⟩
 ·exact ay hk
 ·exact ay hk
def ael{op:Xf}{xt yt:TypeId}{x:Ur}{a:AV}{b:Bool}(ho:o.op=.binOp op xt x (.const .nilIface) yt)(az:op=.eql\/op=.neq)(hx:s.ev x=some a)(ha:(a=.val .nilIface/\b=true)\/((∃u y,a=.da u y)/\b=false))(ht:mR P xt=some true):
  dL lv P r o s (.val (.bool (if op== .neq then !b else b))):=
 jp (λE V ac hc aH=>by
  have hd:=au.ev aH hx;generalize kI:ac.eval x=vx at hd;have hv:(vx=.nilIface/\b=true)\/((∃u y,vx=.iface u y)/\b=false):=by
   rcases ha with⟨rfl,rfl⟩|⟨⟨u,y,rfl⟩,rfl⟩
   ·cases hd;exact .inl ⟨rfl,rfl⟩
   ·cases hd;exact .inr ⟨⟨_,_,rfl⟩,rfl⟩
  have hy:ac.eval (.const .nilIface)=.nilIface:=rfl;unfold execOp;rw[ho];simp only[kI,hy];refine aA ?_;have guard:∀{K:Unit->View->Prop},K () V->aU P V (eqGuard op xt x (.const .nilIface) vx .nilIface) K (λ_ _=>False):=λhK=>by
   unfold eqGuard;rcases hv with⟨rfl,_⟩|⟨⟨u,y,rfl⟩,_⟩<;>rcases az with rfl|rfl<;>first|exact ay hK|(simp;exact ay hK)
  refine aA (guard ?_);rcases hv with⟨rfl,rfl⟩|⟨⟨u,y,rfl⟩,rfl⟩<;>rcases az with rfl|rfl<;>(unfold binOp;refine aA (ajH (b:=_) ht (by first|exact .inl ⟨rfl,rfl⟩|exact .inr ⟨⟨_,_,rfl⟩,rfl⟩) (ay (ay ⟨rfl,_,rfl,?_⟩)));exact .val _))
def aaj{t:TypeId}{d:TypeId×Nat}{b:S9}{n cap:Nat}{V:View}{K:Bool->View->Prop}{Kp:SS}(ht:kM P t=some d)(hk:K b.isNone V):aU P V (XP t (.slice b n cap) (.slice none 0 0)) K Kp:=by
 obtain⟨el,hu⟩:∃el,P.underlying t=some (.slice el):=by
  unfold kM at ht;split at ht
  ·rename_i e he;exact⟨e,he⟩
  ·cases ht
 have e:XP t (.slice b n cap) (.slice none 0 0)=WN (9999+1) t (.slice b n cap) (.slice none 0 0):=rfl;rw[e,WN];refine eM hu ?_;cases b with
 |none=>exact ay hk
 |some a=>exact ay hk
def at4{op:Xf}{t yt:TypeId}{x:Ur}{n:Nat}{av:AV}{d:TypeId×Nat}(ho:o.op=.binOp op t x (.const (.slice none 0 0)) yt)(az:op=.eql\/op=.neq)(hx:s.ev x=some av)(hlen:av.len=some n)(ht:kM P t=some d)
  (hn:∀b:Bool,(0<n->b=false)->next (s.put o.dst (.val (.bool (if op== .neq then !b else b))))):Step lv P r o s next bad:=by
 intro E V a N Q hc aH hd bI h1 _;refine⟨bI,?_⟩;have dJ:=au.ev aH hx;generalize kI:a.eval x=vx at dJ;obtain⟨base,cap,rfl,hb⟩:∃base cap,vx=.slice base n cap/\(0<n->base.isNone=false):=by
  cases dJ with
  |sl b o cap f eo he q1 q2=>cases hlen;exact⟨_,_,rfl,λ_=>rfl⟩
  |nil he=>cases hlen;exact⟨_,_,rfl,λh=>absurd h (by omega)⟩
  |bC hi=>cases hlen;exact⟨_,_,rfl,λ_=>rfl⟩
  |_=>cases hlen
 unfold execOp;rw[ho];have hy:a.eval (.const (.slice none 0 0))=.slice none 0 0:=rfl;simp only[kI,hy];have fin:aU P V (pure (X7 (.bool (if op== .neq then !base.isNone else base.isNone)))) (nb lv P r o a N Q) (λv V'=>Q (.panic [{v,recovered:=false}]) a V'):=
  ay (h1 E V (a.put o.dst _) _ ⟨Env.Le.refl E,eF _ _ _,put_defers _ _ _,rfl,rfl⟩ (by rw[fK];exact hc) (aH.iG hd (.val _)) (hn _ hb))
 rcases az with rfl|rfl
 ·refine aA (aA (ay ?_));unfold binOp;exact aA (aaj ht (ay fin))
 ·refine aA (aA (ay ?_));unfold binOp;exact aA (aaj ht (ay fin))
def arY{c:Ys}{x y:Ur}{k j:U3}{m n:Int}(ho:o.op=.call c)(bi:c.callee=.builtin .max)(cS:c.args=#[x,y]) (hx:s.ev x=some (.val (.int k m))) (hy:s.ev y=some (.val (.int j n))):dL lv P r o s (.val (.int k (if n>m then n else m))):=
 s9 (λE V a hc aH=>by
  have h1:=au.ev aH hx;have h2:=au.ev aH hy;generalize qg:a.eval x=v1 at h1;generalize qh:a.eval y=v2 at h2;cases h1;cases h2;refine⟨_,?_,.val _⟩;unfold execOp;rw[ho];dsimp only;unfold resolve;rw[bi];have oh:c.args.map a.eval=#[.int k m,.int j n]:=by rw[cS];simp[qg,qh]
  rw[oh];rfl)
def arZ{c:Ys}{x y:Ur}{k j:U3}{m n:Int}(ho:o.op=.call c)(bi:c.callee=.builtin .min)(cS:c.args=#[x,y]) (hx:s.ev x=some (.val (.int k m))) (hy:s.ev y=some (.val (.int j n))):dL lv P r o s (.val (.int k (if n<m then n else m))):=
 s9 (λE V a hc aH=>by
  have h1:=au.ev aH hx;have h2:=au.ev aH hy;generalize qg:a.eval x=v1 at h1;generalize qh:a.eval y=v2 at h2;cases h1;cases h2;refine⟨_,?_,.val _⟩;unfold execOp;rw[ho];dsimp only;unfold resolve;rw[bi];have oh:c.args.map a.eval=#[.int k m,.int j n]:=by rw[cS];simp[qg,qh]
  rw[oh];rfl)
def aek{x:Ur}{xt aJ t:TypeId}{ok:Bool}{av:AV}{z:Uf}(ho:o.op=.typeAssert x xt aJ ok)(ht:mR P aJ=some false)(hz:fh P aJ=some z)(hx:s.ev x=some (.da t av))(aq:ok=true\/t=aJ):
  dL lv P r o s (if t=aJ then(if ok then .aL [av,.val (.bool true)]else av)else .aL [AV.of z,.val (.bool false)]):=
 jp (λE V a hc aH=>by
  have hd:=au.ev aH hx;generalize hv:a.eval x=v at hd;cases hd with
  |da hd=>
   obtain⟨d,hu,jB⟩:=lz ht;unfold execOp;rw[ho];simp only[hv];refine aA ?_;unfold ai_;refine eM hu ?_;split
   ·rename_i h;cases jB
   ·rename_i h;cases jB
   ·rename_i h;cases h
   ·rename_i t' v' h;cases h;by_cases e:t=aJ
    ·rw[if_pos e,if_pos e];cases ok
     ·exact ay (ay ⟨rfl,_,rfl,hd⟩)
     ·refine ay (ay ⟨rfl,_,rfl,.aL rfl λi b hb=> ?_⟩)
      match i,hb with
      |0,hb=>cases hb;exact hd
      |1,hb=>cases hb;exact .val _
    ·rw[if_neg e,if_neg e];have oq:ok=true:=aq.resolve_right e;subst oq;simp only[if_true];refine aA (aA ?_);unfold fh at hz;obtain⟨inf,z1,z2⟩:=Um.1 hz;unfold typeInfo;refine aA (rD (cN ?_));rw[z1];refine ay ?_;rw[z2];refine ay (ay (ay ⟨rfl,_,rfl,.aL rfl λi b hb=> ?_⟩))
     match i,hb with
     |0,hb=>cases hb;exact tU E z
     |1,hb=>cases hb;exact .val _
   ·exfalso;simp_all)
def arD{x:Ur}{xt aJ:TypeId}{z:Uf}(ho:o.op=.typeAssert x xt aJ true)(ht:mR P aJ=some false)(hz:fh P aJ=some z)(hx:s.ev x=some (.val .nilIface)):dL lv P r o s (.aL [AV.of z,.val (.bool false)]):=
 jp (λE V a hc aH=>by
  have hd:=au.ev aH hx;generalize hv:a.eval x=v at hd;cases hd;obtain⟨d,hu,jB⟩:=lz ht;unfold execOp;rw[ho];simp only[hv];refine aA ?_;unfold ai_;refine eM hu ?_;unfold fh at hz;obtain⟨inf,z1,z2⟩:=Um.1 hz;split
  ·rename_i h;cases jB
  ·rename_i h;cases h
  ·simp only[if_true];refine aA (aA ?_);unfold typeInfo;refine aA (rD (cN ?_));rw[z1];refine ay ?_;rw[z2];refine ay (ay (ay ⟨rfl,_,rfl,.aL rfl λi b hb=> ?_⟩))
   match i,hb with
   |0,hb=>cases hb;exact tU E z
   |1,hb=>cases hb;exact .val _
  ·rename_i h;cases h
  ·exfalso;simp_all)
def Ko (P:Tl)(t:TypeId)(name:String):Prop:=∀v,cL P (nilAhead (P.types.size+Made.depth) t v name) (some false)
def ar2{x:Ur}{name:String}{t:TypeId}{av:AV}(ho:o.op=.nilCheck x)(hx:s.ev x=some (.fn (.method name) [.da t av] []))(hn:Ko P t name):dL lv P r o s (.fn (.method name) [.da t av] []):=
 jp (λE V a hc aH=>by
  have hd:=au.ev aH hx;unfold execOp;rw[ho];dsimp only;generalize hv:a.eval x=v at hd⊢;have cH:=hd;cases hd with
  |fn ep ft h1 h2=>
   rename_i fa ca;have HQ:fa.size=1:=ep;have:=h1 0 _ rfl;rw[Ti,Tn (by omega)]at this;simp only[Ua]at this;have hg:fa[0]?=some fa[0]:=Tn (by omega);generalize hq:fa[0]=q at this hg;cases this with
   |da jY=>
    dsimp only;rw[hg];dsimp only;refine aA (rD (cN ?_));refine(hn _).bind ?_;simp only[bne_self_eq_false,UD,if_false];exact ay ⟨rfl,_,rfl,cH⟩)
def pF (P:Tl)(t:TypeId):Option (TypeId×TypeId):=match P.underlying t with
 |some (.map k e)=>some (k,e)
 |_=>none
def x9 (es:TC)(ck:Nat)(k x:Uf):Option (Nat×Uf)->Obj
 |none=> .map (es.push {key:=k,val:=x,born:=ck}) (ck+1)
 |some (i,_)=> .map (es.modify i λe=>{e with key:=k,val:=x}) ck
def at0{t kt et:TypeId}{m k x:Ur}{id ck:Nat}{es:TC}{a b:AV}{K X:Uf}{fd:Option (Nat×Uf)}(ho:o.op=.mapUpdate t m k x\/o.op=.insert t m k x)(ht:pF P t=some (kt,et))(hm:s.ev m=some (.mp id))(hk:s.ev k=some a)(hx:s.ev x=some b)(hK:a.raw=some K)(hX:b.raw=some X)
  (hH:s.H[id]?=some (.obj (.map es ck))) (hc:cL P (Wr false 10000 kt K) ()) (hf:cL P (W6 kt K es.toList) fd) (Ik:∀i v,fd=some (i,v)->XC 10000 (((es[i]?).map (·.key)).getD K) K=true)
  (hn:next ((⟨s.T,s.H.set id (.obj (x9 es ck K X fd))⟩:AS).put o.dst (.val undef))):Step lv P r o s next bad:=by
 intro E V ac N Q jA aH hd bI h1 _;refine⟨bI,?_⟩;have e1:=(au.ev aH hk).raw hK;have e2:=(au.ev aH hx).raw hX;have od:=au.ev aH hm;generalize zF:ac.eval m=vm at od;cases od;obtain⟨p1,p2,p3,p4⟩:=jA.obj id _ hH;obtain⟨g1,g2⟩:=jA.jH hH rfl;have go:aU P V (do an_ t (.map (some (E.blk id))) K X;pure Next.skip) (nb lv P r o ac N Q) (λv V'=>Q (.panic [{v,recovered:=false}]) ac V'):=by
  refine aA ?_;unfold pF at ht;split at ht
  ·rename_i k' e' hu;cases ht;unfold an_;refine eM hu ?_;dsimp only;refine aA (oH p1 p2 p3 g2 (cN ?_));dsimp only;refine hc.bind (hf.bind ?_);have fin:∀y,y=x9 es ck K X fd->aU P V (setObj (E.blk id) y) (λ_ V'=>aU P V' (pure Next.skip) (nb lv P r o ac N Q) (λv V'=>Q (.panic [{v,recovered:=false}]) ac V')) (λv V'=>Q (.panic [{v,recovered:=false}]) ac V'):=λy hy=>by
    have wa:y.wi=false:=(by rw[hy];cases fd<;>rfl);have hy2:y.isChan=false:=(by rw[hy];cases fd<;>rfl);refine Ae p1 p2 hy2 g2 (cN (ay ?_));exact h1 E _ (ac.put o.dst undef) _ ⟨Env.Le.refl E,eF _ _ _,put_defers _ _ _,rfl,rfl⟩ (by rw[fK];rw[hy];exact jA.setObj hH (by cases fd<;>rfl) (by cases fd<;>rfl))
     (cC.iG (s:=⟨s.T,s.H.set id (.obj (x9 es ck K X fd))⟩) aH hd (.val undef)) hn
   cases fd with
   |none=>exact fin _ rfl
   |some iv=>
    obtain⟨i,v⟩:=iv;dsimp only;unfold Instr.keyThatStays;rw[Ik i v rfl];simp only[if_true];exact aA (ay (fin _ rfl))
  ·cases ht
 unfold execOp;rcases ho with ho|ho
 all_goals
  rw[ho];simp only[zF,e1,e2];exact go
def GZ (es:TC):Option (Nat×Uf)->Array MapEntry
 |some (i,_)=>es.eraseIdxIfInBounds i
 |none=>es
def atY{c:Ys}{t t' kt et:TypeId}{m k:Ur}{id ck:Nat}{es:TC}{a:AV}{K:Uf}{fd:Option (Nat×Uf)}(ho:o.op=.call c)(bi:c.callee=.builtin .delete)(cS:c.args=#[m,k]) (dz:c.argTypes=#[t,t']) (ht:pF P t=some (kt,et)) (hm:s.ev m=some (.mp id)) (hk:s.ev k=some a) (hK:a.raw=some K)
  (hH:s.H[id]?=some (.obj (.map es ck))) (hc:cL P (Wr es.isEmpty 10000 kt K) ()) (hf:cL P (W6 kt K es.toList) fd)
  (hn:next ((⟨s.T,s.H.set id (.obj (.map (GZ es fd) ck))⟩:AS).put o.dst (.val undef))):Step lv P r o s next bad:=by
 intro E V ac N Q jA aH hd bI h1 _;refine⟨bI,?_⟩;have e1:=(au.ev aH hk).raw hK;have od:=au.ev aH hm;generalize zF:ac.eval m=vm at od;cases od;obtain⟨p1,p2,p3,p4⟩:=jA.obj id _ hH;obtain⟨g1,g2⟩:=jA.jH hH rfl;unfold execOp;rw[ho];dsimp only;unfold resolve;rw[bi];dsimp only;refine aA (ay ?_);unfold invoke builtin;dsimp only;refine aA ?_;have oh:c.args.map ac.eval=#[.map (some (E.blk id)),K]:=by rw[cS];simp[zF,e1]
 rw[oh,dz];unfold pF at ht;split at ht
 ·rename_i k' e' hu;cases ht;unfold ayn;simp only[Wt,WF,VP];refine eM hu ?_;dsimp only;refine aA (oH p1 p2 p3 g2 (cN ?_));dsimp only;refine hc.bind (hf.bind ?_);have fin:∀vq,vq=(GZ es fd)->aU P V (setObj (E.blk id) (.map vq ck)) (λ_ V'=>aU P V' (pure (ZI #[])) (λx V'=>aU P V' (pure (X7 x)) (nb lv P r o ac N Q) (λv V'=>Q (.panic [{v,recovered:=false}]) ac V')) (λv V'=>Q (.panic [{v,recovered:=false}]) ac V')) (λv V'=>Q (.panic [{v,recovered:=false}]) ac V'):=λy hy=>by
   refine Ae p1 p2 rfl g2 (cN (ay (ay ?_)));exact h1 E _ (ac.put o.dst undef) _ ⟨Env.Le.refl E,eF _ _ _,put_defers _ _ _,rfl,rfl⟩ (by rw[fK];rw[hy];exact jA.setObj hH rfl rfl)
    (cC.iG (s:=⟨s.T,s.H.set id (.obj (.map (GZ es fd) ck))⟩) aH hd (.val undef)) hn
  cases fd with
  |none=>exact aA (fin _ rfl)
  |some iv=>exact aA (fin _ rfl)
 ·cases ht
def at3{t kt et:TypeId}{x:Ur}{m ck:Nat}{es:TC}(ho:o.op=.range t x)(ht:pF P t=some (kt,et))(hx:s.ev x=some (.mp m))(hH:s.H[m]?=some (.obj (.map es ck)))
  (hn:next ((⟨s.T,s.H++[.iter m ck #[] ck]⟩:AS).put o.dst (.op s.H.length 0))):Step lv P r o s next bad:=by
 intro E V ac N Q hc aH hd bI h1 _;refine⟨bI,?_⟩;have od:=au.ev aH hx;generalize zF:ac.eval x=vm at od;cases od with
 |mp hm=>
  obtain⟨p1,p2,p3,p4⟩:=hc.obj m _ hH;obtain⟨g1,g2⟩:=hc.jH hH rfl;unfold execOp;rw[ho];simp only[zF];refine aA ?_;unfold pF at ht;split at ht
  ·rename_i k' e' hu;cases ht;unfold Instr.range;refine eM hu ?_;refine aA (oH p1 p2 p3 g2 (cN ?_));dsimp only;refine aA (ay ?_);refine aA (py λrr hf=>cN (ay (ay ?_)));have hle:E.Le (E.add rr V.ai):=E.ru rr (λb o v h=>by rw[<- hc.I];exact h);have bw:Conc (E.add rr V.ai) (V.upd rr (.mapIter (some (E.blk m)) ck #[] ck)) (s.H++[.iter m ck #[] ck]):=by
    refine hc.add hf _ ⟨?_,?_,λo=> ?_⟩ (λb e=> ?_)
    ·exact Nat.lt_succ_of_lt hm
    ·rw[Env.dZ,hle.blk m hm];simp[View.upd]
    ·rw[Env.dZ];exact hf.2 o
    ·simp only[bT,Env.dZ,Us]at e;exact e.symm
   exact h1 _ _ (ac.put o.dst (.pointer (some ⟨rr,0,none⟩))) ((⟨s.T,s.H++[.iter m ck #[] ck]⟩:AS).put o.dst (.op s.H.length 0)) ⟨hle,eF _ _ _,put_defers _ _ _,rfl,rfl⟩ (by rw[fK];exact bw)
    (cC.iG (s:=⟨s.T,s.H++[.iter m ck #[] ck]⟩) (aH.mono hle) hd (Sp hc.n rr V.ai)) hn
  ·cases ht
def Conc.setIter{E:Env}{V:View}{H:SA}(hc:Conc E V H){id m a c:Nat}{b:Array Nat}(hk:H[id]?=some (.iter m a b c))(a':Nat)(b':Array Nat)(c':Nat):Conc E (V.upd (E.blk id) (.mapIter (some (E.blk m)) a' b' c')) (H.set id (.iter m a' b' c')):=by
 obtain⟨p1,p2,p4⟩:=hc.obj id _ hk;refine hc.ja id (.iter m a' b' c') (Env.Le.refl E) hc.I (by simpa using hc.n) lQ rfl (λ_ _ _=>rfl) (λb z hb hz=>⟨?_,λ_=>rfl⟩) ⟨p1,by simp[View.upd],p4⟩ (λb h=> .inl ⟨_,hk,h⟩);have:b≠E.blk id:=λe=>hb _ hk (by rw[e];rfl);simpa[View.upd,this]using hz
def at1{it:Ur}{id m since ck uU:Nat}{seen:Array Nat}{es:TC}(ho:o.op=.next it false)(hi:s.ev it=some (.op id 0))(hI:s.H[id]?=some (.iter m since seen uU))(hM:s.H[m]?=some (.obj (.map es ck)))
  (aq:es.all (λe=>decide (e.born>=uU))=false\/es.isEmpty=true\/seen.isEmpty=true)
  (hn:∀e∈es,e.born∉seen->next ((⟨s.T,s.H.set id (.iter m since (seen.push e.born) ck)⟩:AS).put o.dst (.aL [.val (.bool true),AV.of e.key,AV.of e.val])))
  (anD:(∀e∈es,e.born<since->e.born∈seen)->next (s.put o.dst (.aL [.val (.bool false)]))):Step lv P r o s next bad:=by
 intro E V ac N Q hc aH hd bI h1 _;refine⟨bI,?_⟩;have oX:=au.ev aH hi;generalize rn:ac.eval it=vi at oX;cases oX with
 |op cg=>
  obtain⟨q1,q2,q3⟩:=hc.obj id _ hI;obtain⟨p1,p2,p3,p4⟩:=hc.obj m _ hM;have gi:=hc.jH hI rfl;have gm:=hc.jH hM rfl;unfold execOp;rw[ho];simp only[rn];refine aA ?_;unfold Instr.next;dsimp only;refine aA (oH q2 rfl rfl gi.2 (cN ?_));dsimp only;refine aA (oH p1 p2 p3 gm.2 (cN ?_));dsimp only;rw[if_neg (by
   intro h;simp only[Uh,U0]at h;rcases aq with hk|hk|hk
   ·rw[hk]at h;cases h.2
   ·rw[hk]at h;cases h.1.2
   ·rw[hk]at h;cases h.1.1)]
  generalize abE:(if((es.filter λe=> !seen.contains e.born).filter (λe=>decide (e.born<since))).isEmpty=true then#[none]else#[])++((es.filter λe=> !seen.contains e.born).filter (λe=>decide (e.born<since))++(es.filter λe=> !seen.contains e.born).filter (λe=>decide (e.born>=since))).map some=AR;have ce:∀x∈AR,match x with
    |some e=>e∈es/\e.born∉seen
    |none=>∀e∈es,e.born<since->e.born∈seen:=by
   intro x hx;rw[<- abE]at hx;rcases Vx.1 hx with hx|hx
   ·split at hx
    ·rename_i uh;simp at hx;subst hx;intro e he hlt;apply Uz;intro iW;have:e∈((es.filter λe=> !seen.contains e.born).filter (λe=>decide (e.born<since))):=(by simp[he,hlt,iW]);rw[ag2]at uh;rw[uh]at this;simp at this
    ·simp at hx
   ·rw[Array.mem_map]at hx;obtain⟨e,he,rfl⟩:=hx;rcases Vx.1 he with he|he<;>simp at he<;>exact⟨he.1,he.2.2⟩
  have BJ:0<AR.size:=by
   rw[<- abE];split
   ·simp;omega
   ·rename_i uh;have:0<((es.filter λe=> !seen.contains e.born).filter (λe=>decide (e.born<since))).size:=by
     rw[ag2]at uh;exact Array.size_pos_iff.2 uh
    simp only[YC,Array.size_map,List.size_toArray,VL];omega
  have fin:∀j,j<AR.size->aU P V (match AR[j]?with
    |some (some e)=>do setObj (E.blk id) (.mapIter (some (E.blk m)) since (seen.push e.born) ck);pure (ZI #[.bool true,e.key,e.val])
    |some none=>pure (ZI #[.bool false])
    | none => stuck "Next: no such candidate") (λx V' => aU P V' (pure (X7 x)) (nb lv P r o ac N Q) (λv V' => Q (.panic [{ v, recovered := false }]) ac V')) (λv V' => Q (.panic [{ v, recovered := false }]) ac V') := by
   intro j hj;rw[Tn hj];have hm:=ce AR[j] (YV hj);generalize AR[j]=x at hm;cases x with
   |none=>
    dsimp only;refine ay (ay ?_);exact h1 E V (ac.put o.dst _) (s.put o.dst (.aL [.val (.bool false)])) ⟨Env.Le.refl E,eF _ _ _,put_defers _ _ _,rfl,rfl⟩ (by rw[fK];exact hc)
     (cC.iG aH hd (.aL rfl λi b hb=>by
      match i,hb with
      |0,hb=>cases hb;exact .val _)) (anD hm)
   |some e=>
    dsimp only;refine aA (Ae q2 rfl rfl gi.2 (cN (ay (ay ?_))));exact h1 E _ (ac.put o.dst _) _ ⟨Env.Le.refl E,eF _ _ _,put_defers _ _ _,rfl,rfl⟩ (by rw[fK];exact hc.setIter hI since (seen.push e.born) ck)
     (cC.iG (s:=⟨s.T,s.H.set id (.iter m since (seen.push e.born) ck)⟩) aH hd (.aL rfl λi b hb=>by
      match i,hb with
      |0,hb=>cases hb;exact .val _
      |1,hb=>cases hb;exact tU E _
      |2,hb=>cases hb;exact tU E _)) (hn e hm.1 hm.2)
  refine aA (aeJ (λhf=>cN (fin 0 BJ)) (λhf t=>cN (fin _ (ax3 _ BJ))))
def AV.found (z:Uf)(ok:Bool):Option (Nat×Uf)->AV
 |some (_,v)=>if ok then .aL [AV.of v,.val (.bool true)]else AV.of v
 |none=>if ok then .aL [AV.of z,.val (.bool false)]else AV.of z
def arV{t kt et:TypeId}{m k:Ur}{id ck:Nat}{es:TC}{a:AV}{K z:Uf}{ok:Bool}{fd:Option (Nat×Uf)}(ho:o.op=.lookup t m k ok)(ht:pF P t=some (kt,et))(hz:fh P et=some z)(hm:s.ev m=some (.mp id))(hk:s.ev k=some a)(hK:a.raw=some K)
  (hH:s.H[id]?=some (.obj (.map es ck))) (hc:cL P (Wr es.isEmpty 10000 kt K) ()) (hf:cL P (W6 kt K es.toList) fd):dL lv P r o s (AV.found z ok fd):=
 jp (λE V ac jA aH=>by
  have e1:=(au.ev aH hk).raw hK;have od:=au.ev aH hm;generalize zF:ac.eval m=vm at od;cases od;obtain⟨p1,p2,p3,p4⟩:=jA.obj id _ hH;have g:=jA.jH hH rfl;unfold pF at ht;split at ht
  ·rename_i k' e' hu;cases ht;unfold execOp;rw[ho];simp only[zF,e1];refine aA ?_;unfold Instr.lookup;refine eM hu ?_;dsimp only;refine aA (aA (oH p1 p2 p3 g.2 (ay (ay ?_))));refine hc.bind (aA (hf.ok ?_));have two:∀(v:Uf)(b:Bool)(i:Nat)(x:AV),[AV.of v,.val (.bool b)][i]?=some x->au E x ((#[v,Yj b]:SG).getD i undef):=λv b i x hx=>by
    match i,hx with
    |0,hx=>cases hx;exact tU E _
    |1,hx=>cases hx;exact .val _
   cases fd with
   |some iv=>
    obtain⟨i,v⟩:=iv;refine ay (ay ⟨rfl,_,rfl,?_⟩);cases ok with
    |true=>exact .aL rfl (two v true)
    |false=>exact tU E _
   |none=>
    refine Jy hz (ay (ay ⟨rfl,_,rfl,?_⟩));cases ok with
    |true=>exact .aL rfl (two z false)
    |false=>exact tU E _
  ·cases ht)
def arI{it:Ur}{id m since ck:Nat}{seen:Array Nat}{es:TC}{b:Nat}{e:MapEntry}(ho:o.op=.entry it)(hi:s.ev it=some (.op id 0))(hI:s.H[id]?=some (.iter m since seen ck))(hM:s.H[m]?=some (.obj (.map es ck)))
  (hb:seen.back?=some b) (he:es.find? (·.born==b)=some e):dL lv P r o s (.aL [AV.of e.key,AV.of e.val]):=
 jp (λE V ac hc aH=>by
  have oX:=au.ev aH hi;generalize rn:ac.eval it=vi at oX;cases oX with
  |op cg=>
   obtain⟨q1,q2,q3⟩:=hc.obj id _ hI;obtain⟨p1,p2,p3,p4⟩:=hc.obj m _ hM;have gi:=hc.jH hI rfl;have gm:=hc.jH hM rfl;unfold execOp;rw[ho];simp only[rn];refine aA ?_;unfold Instr.entry;dsimp only;refine aA (oH q2 rfl rfl gi.2 (cN ?_));dsimp only;rw[hb];dsimp only;refine aA (oH p1 p2 p3 gm.2 (cN ?_));dsimp only;rw[if_neg (by simp)];rw[he];refine ay (ay ⟨rfl,_,rfl,.aL rfl λi b hb=> ?_⟩)
   match i,hb with
   |0,hb=>cases hb;exact tU E _
   |1,hb=>cases hb;exact tU E _)
end
open Go.Conc
def iA (E:Env)(V:View)(k:SF)(kp:SF):Out->View->Prop
 |.ret v,V'=>∃av E' H',E.Le E'/\V'.role=V.role/\V'.deaf=V.deaf/\au E' av v/\Conc E' V' H'/\k av H'
 |.panic ch,V'=>∃pv v E' H',ch=[{v,recovered:=false}]/\E.Le E'/\V'.role=V.role/\V'.deaf=V.deaf/\au E' pv v/\Conc E' V' H'/\kp pv H'
def ba (lv:Bool)(P:Tl)(f:UW)(H:SA)(args:SC)(k:SF)(kp:SF):Prop:=
 ∀(E:Env)(V:View)(vs:SG),Conc E V H->cO E args vs->Body lv P f vs .normal V (iA E V k kp)
def Nx (lv:Bool)(P:Tl)(R:SU):Next->View->Prop
 |.value v,V=>R (.ret v) V
 |.skip,V=>R (.ret undef) V
 |.enter f args,V=>Body lv P f args .normal V R
 |.round l f tmps assign body,V=>nK lv P (Yc l f tmps assign body .normal) V R
 |_,_=>False
def ju (lv:Bool)(P:Tl)(c:AV)(H:SA)(args:SC)(k:SF)(kp:SF):Prop:=
 ∀(E:Env)(V:View)(cv:Uf)(vs:SG),Conc E V H->au E c cv->cO E args vs->
  aU P V (do let d<- Wi cv vs;invoke d.target d.args) (λnx V'=>Nx lv P (iA E V k kp) nx V') (λv V'=>iA E V k kp (.panic [{v,recovered:=false}]) V')
def Gp (lv:Bool)(P:Tl)(c:AV)(name:String)(H:SA)(args:SC)(k:SF)(kp:SF):Prop:=
 ∀(E:Env)(V:View)(cv:Uf)(vs:SG),Conc E V H->au E c cv->cO E args vs->
  aU P V (invoke (.fn (.method name) #[]) (#[cv]++vs)) (λnx V'=>Nx lv P (iA E V k kp) nx V') (λv V'=>iA E V k kp (.panic [{v,recovered:=false}]) V')
def iA.mono{E:Env}{V:View}{k k' kp uE:SF}(h:∀a H,k a H->k' a H)(hp:∀a H,kp a H->uE a H):∀{o V'},iA E V k kp o V'->iA E V k' uE o V'
 |.ret _,_,⟨av,E',H',a,b,c,d,e,f⟩=>⟨av,E',H',a,b,c,d,e,h _ _ f⟩
 |.panic _,_,⟨pv,v,E',H',a,b,c,d,e,f,g⟩=>⟨pv,v,E',H',a,b,c,d,e,f,hp _ _ g⟩
def Nx.mono{lv:Bool}{P:Tl}{R R':SU}(h:∀o V,R o V->R' o V):∀{nx V},Nx lv P R nx V->Nx lv P R' nx V:=by
 intro nx V hn;cases nx with
 |value v=>exact h _ _ hn
 |skip=>exact h _ _ hn
 |enter f args=>exact Body.mono hn h
 |round l f tmps a b=>exact nK.mono hn h
 |_=>exact hn
def ba.mono{lv:Bool}{P:Tl}{f:UW}{H:SA}{args:SC}{k k' kp uE:SF}(h:ba lv P f H args k kp)(hk:∀a H,k a H->k' a H)(hp:∀a H,kp a H->uE a H):ba lv P f H args k' uE:=λE V vs hc hd=>
 (h E V vs hc hd).mono λ_ _ x=>x.mono hk hp
def ju.mono{lv:Bool}{P:Tl}{f:AV}{H:SA}{args:SC}{k k' kp uE:SF}(h:ju lv P f H args k kp)(hk:∀a H,k a H->k' a H)(hp:∀a H,kp a H->uE a H):ju lv P f H args k' uE:=λE V cv vs hc hd pY=>
 (h E V cv vs hc hd pY).mono (λ_ _ x=>Nx.mono (λ_ _ y=>y.mono hk hp) x) (λ_ _ y=>y.mono hk hp)
def rI (P:Tl)(g:UW):Bool:=match P.funcs[g]?with
 | some fn => fn.body.isSome && !(fn.name == "runtime.NumGoroutine")
 |none=>false
def as3{lv:Bool}{P:Tl}{V:View}{g:UW}{vs:SG}{R:SU}{Kp:SS}(hg:rI P g=true)(h:Body lv P g vs .normal V R):aU P V (callFunc g vs) (λnx V'=>Nx lv P R nx V') Kp:=by
 unfold callFunc;refine aA (rD (cN ?_));unfold rI at hg;split at hg
 ·rename_i fn zl;simp only[Uh,U0]at hg;rw[zl];dsimp only;have MI:fn.body.isNone=false:=by
   have h1:=hg.1;cases hb:fn.body with
   |none=>rw[hb]at h1;cases h1
   |some _=>rfl
  rw[if_neg (by rw[hg.2];simp),if_neg (by rw[MI];simp)];exact ay h
 ·cases hg
section
variable {lv:Bool}{P:Tl}{H:SA}{args:SC}{k kp:SF}
def KQ{g:UW}{first cZ:SC}(hg:rI P g=true)(hf:ba lv P g H (first++args++cZ) k kp):ju lv P (.fn (.func g) first cZ) H args k kp:=by
 intro E V cv vs hc hd pY;cases hd with
 |fn ep ft h1 h2=>
  rename_i fa ca;unfold Wi;refine aA (ay ?_);unfold invoke;dsimp only;exact as3 hg (hf E V _ hc (Dt (Dt ⟨ep,h1⟩ pY) ⟨ft,h2⟩))
end
def fG (s:AS):List Ur->Option (SC)
 |[]=>some []
 |x::l=>match s.ev x,fG s l with
  |some a,some aJ=>some (a::aJ)
  |_,_=>none
def A2{E:Env}{s:AS}{a:Act}(k:cC E s.T a.tmps):∀{l:List Ur}{aJ:SC},fG s l=some aJ->cO E aJ (l.map a.eval).toArray
 |[],_,h=>by cases h;exact⟨rfl,by simp⟩
 |x::l,aJ,h=>by
  simp only[fG]at h;split at h
  ·rename_i av mA h1 h2;cases h;have ih:=A2 k h2;refine⟨by have:=ih.1;simpa using this,λi b e=> ?_⟩;cases i with
   |zero=>simp at e;subst e;simpa[Ti]using au.ev k h1
   |succ i=>
    simp only[VP]at e;have:=ih.2 i b e;simpa[Ti]using this
  ·cases h
section
variable {lv:Bool}{P:Tl}{r:SL}{o:Vo}{s:AS}{next:SV}{bad:AV->SV}
def adW{E:Env}{V:View}{a:Act}{N:S4}{Q:SJ}(aH:cC E s.T a.tmps)(hd:∀d,o.dst=some d->d<a.tmps.size)
  (h1:∀E' V' a' s',Kept E E' V V' a a'->Conc E' V' s'.H->cC E' s'.T a'.tmps->next s'->N a' V')
  (h2:∀E' V' s' pv v,Kept E E' V V' a a->Conc E' V' s'.H->cC E' s'.T a.tmps->au E' pv v->bad pv s'->Q (.panic [{v,recovered:=false}]) a V'):
  (∀nx V',Nx lv P (iA E V (λb H'=>next ((⟨s.T,H'⟩:AS).put o.dst b)) (λpv H'=>bad pv ⟨s.T,H'⟩)) nx V'->nb lv P r o a N Q nx V')/\
  (∀v V',iA E V (λb H'=>next ((⟨s.T,H'⟩:AS).put o.dst b)) (λpv H'=>bad pv ⟨s.T,H'⟩) (.panic [{v,recovered:=false}]) V'->Q (.panic [{v,recovered:=false}]) a V'):=by
 have hv:∀v V',iA E V (λb H'=>next ((⟨s.T,H'⟩:AS).put o.dst b)) (λpv H'=>bad pv ⟨s.T,H'⟩) (.ret v) V'->N (a.put o.dst v) V':=λv V' ⟨av,E',H',hle,cy,fz,bx,bw,hk⟩=>
  h1 E' V' _ _ ⟨hle,eF _ _ _,put_defers _ _ _,cy,fz⟩ (by rw[fK];exact bw) (cC.iG (s:=⟨s.T,H'⟩) (aH.mono hle) hd bx) hk
 have hp:∀ch V',iA E V (λb H'=>next ((⟨s.T,H'⟩:AS).put o.dst b)) (λpv H'=>bad pv ⟨s.T,H'⟩) (.panic ch) V'->Q (.panic ch) a V':=λch V' ⟨pv,v,E',H',fy,hle,cy,fz,bx,bw,hk⟩=>by
  subst fy;exact h2 E' V' ⟨s.T,H'⟩ pv v ⟨hle,rfl,rfl,cy,fz⟩ bw (aH.mono hle) bx hk
 refine⟨λnx V' hn=> ?_,λv V' h=>hp _ _ h⟩;cases nx with
 |value v=>exact hv _ _ hn
 |skip=>exact hv _ _ hn
 |enter f args=>
  refine Body.mono (R':=fun
   |.ret v,V'=>N (a.put o.dst v) V'
   |.panic ch,V'=>Q (.panic ch) a V') hn λot aV h=> ?_
  cases ot with
  |ret v=>exact hv _ _ h
  |panic ch=>exact hp _ _ h
 |round l f tmps aJ b=>
  refine nK.mono (R':=fun
   |.ret v,V'=>N (a.put o.dst v) V'
   |.panic ch,V'=>Q (.panic ch) a V') hn λot aV h=> ?_
  cases ot with
  |ret v=>exact hv _ _ h
  |panic ch=>exact hp _ _ h
 |_=>exact hn.elim
def Qi{c:Ys}{x:Ur}{tQ:AV}{aJ:SC}(ho:o.op=.call c)(bi:c.callee=.value x)(hx:s.ev x=some tQ)(has:fG s c.args.toList=some aJ)
  (hf:ju lv P tQ s.H aJ (λb H'=>next ((⟨s.T,H'⟩:AS).put o.dst b)) (λpv H'=>bad pv ⟨s.T,H'⟩)):Step lv P r o s next bad:=by
 intro E V a N Q hc aH hd bI h1 h2;have sN:=adW (lv:=lv) (P:=P) (r:=r) aH hd h1 h2;refine⟨bI,?_⟩;unfold execOp;rw[ho];dsimp only;unfold resolve;rw[bi];dsimp only;have e:c.args.map a.eval=(c.args.toList.map a.eval).toArray:=by apply WT;simp
 rw[e];exact(hf E V (a.eval x) _ hc (au.ev aH hx) (A2 aH has)).mono (λnx V' h=>sN.1 nx V' h) (λv V' h=>sN.2 v V' h)
def afg{c:Ys}{x:Ur}{name:String}{tQ:AV}{aJ:SC}(ho:o.op=.call c)(bi:c.callee=.invoke x name)(hx:s.ev x=some tQ)(has:fG s c.args.toList=some aJ)
  (hf:Gp lv P tQ name s.H aJ (λb H'=>next ((⟨s.T,H'⟩:AS).put o.dst b)) (λpv H'=>bad pv ⟨s.T,H'⟩)):Step lv P r o s next bad:=by
 intro E V a N Q hc aH hd bI h1 h2;have sN:=adW (lv:=lv) (P:=P) (r:=r) aH hd h1 h2;refine⟨bI,?_⟩;unfold execOp;rw[ho];dsimp only;unfold resolve;rw[bi];dsimp only;refine aA (ay ?_);have e:c.args.map a.eval=(c.args.toList.map a.eval).toArray:=by apply WT;simp
 rw[e];exact(hf E V (a.eval x) _ hc (au.ev aH hx) (A2 aH has)).mono (λnx V' h=>sN.1 nx V' h) (λv V' h=>sN.2 v V' h)
def at2{x:Ur}{t:TypeId}{av:AV}(ho:o.op=.panic x)(hx:s.ev x=some (.da t av))(hb:bad (.da t av) s):Step lv P r o s next bad:=by
 intro E V a N Q hc aH hd bI _ h2;refine⟨bI,?_⟩;have dJ:=au.ev aH hx;unfold execOp;rw[ho];dsimp only;refine aA ?_;generalize a.eval x=v at dJ⊢;have amQ:=dJ;cases dJ with
 |da hv=>
  unfold Instr.panic;dsimp only;exact atc (h2 E V s (.da t av) _ ⟨Env.Le.refl E,rfl,rfl,rfl,rfl⟩ hc aH amQ hb)
end
structure Gq (k kp:SF):Type where
 n:Nat
def CN (lv:Bool)(P:Tl)(c:AV)(H:SA)(args:SC)(k kp:SF)(_t:Gq k kp):Prop:=ju lv P c H args k kp
def agj (lv:Bool)(P:Tl)(c:AV)(name:String)(H:SA)(args:SC)(k kp:SF)(_t:Gq k kp):Prop:=Gp lv P c name H args k kp
def yI{lv:Bool}{P:Tl}{c:AV}{H:SA}{args:SC}{k kp:SF}{t:Gq k kp}(h:ju lv P c H args k kp):CN lv P c H args k kp t:=h
def ao {α:Type}(x:Option α)(k:α->Prop):Prop:=match x with
 |some a=>k a
 |none=>False
def AV.asBool (a:AV)(k:Bool->Prop):Prop:=match a with
 |.val (.bool b)=>k b
 |_=>False
def AV.asInt (a:AV)(k:U3->Int->Prop):Prop:=match a with
 |.val (.int j n)=>k j n
 |_=>False
def AV.yE (a:AV)(k:SC->Prop):Prop:=match a with
 |.aL l=>k l
 |_=>False
def AV.asAgg (a:AV)(k:SC->Prop):Prop:=match a with
 |.agg l=>k l
 |_=>False
abbrev S7:=Nat->Prop
def AV.qI (a:AV)(k:Nat->S7):Prop:=match a with
 |.op i j=>k i j
 |_=>False
def AV.tN (a:AV)(k:S7):Prop:=match a with
 |.mp i=>k i
 |_=>False
abbrev TH:=Nat->SC->End->Prop
def AV.wY (a:AV)(k:TH):Prop:=match a with
 |.sl n l e=>k n l e
 |_=>False
def ao.out{α:Type}{x:Option α}{k:α->Prop}(h:ao x k):∃a,x=some a/\k a:=by
 cases x with
 |none=>exact h.elim
 |some a=>exact⟨a,rfl,h⟩
def Dg{a:AV}{k:Bool->Prop}(h:a.asBool k):∃b,a=.val (.bool b)/\k b:=by
 unfold AV.asBool at h;split at h
 ·exact⟨_,rfl,h⟩
 ·exact h.elim
def oN{a:AV}{k:U3->Int->Prop}(h:a.asInt k):∃j n,a=.val (.int j n)/\k j n:=by
 unfold AV.asInt at h;split at h
 ·exact⟨_,_,rfl,h⟩
 ·exact h.elim
def ahH{a:AV}{k:SC->Prop}(h:a.yE k):∃l,a=.aL l/\k l:=by
 unfold AV.yE at h;split at h
 ·exact⟨_,rfl,h⟩
 ·exact h.elim
def ahy{a:AV}{k:SC->Prop}(h:a.asAgg k):∃l,a=.agg l/\k l:=by
 unfold AV.asAgg at h;split at h
 ·exact⟨_,rfl,h⟩
 ·exact h.elim
def Dh{a:AV}{k:Nat->S7}(h:a.qI k):∃i j,a=.op i j/\k i j:=by
 unfold AV.qI at h;split at h
 ·exact⟨_,_,rfl,h⟩
 ·exact h.elim
def GF{a:AV}{k:S7}(h:a.tN k):∃i,a=.mp i/\k i:=by
 unfold AV.tN at h;split at h
 ·exact⟨_,rfl,h⟩
 ·exact h.elim
def Rh{a:AV}{k:TH}(h:a.wY k):∃n l e,a=.sl n l e/\k n l e:=by
 unfold AV.wY at h;split at h
 ·exact⟨_,_,_,rfl,h⟩
 ·exact h.elim
section
variable (P:Tl)(s:AS)
def dH (op:Xf)(xt:TypeId)(a b:AV)(k:SR):Prop:=match a,b with
 |.val (.int j m),.val (.int j' n)=>if ny op then ao (Cv op j m n) λv=>k (.val v)else j'=j/\ao (mC op j m n) λv=>k (.val v)
 |_,_=>(op=.eql\/op=.neq)/\ao a.raw λX=>ao b.raw λY=>yO X Y=true/\P.eqGuardType P.depth xt=false/\∃e,cL P (XP xt X Y) e/\k (.val (.bool (if op== .neq then !e else e)))
def jc (op:Xf)(xt:TypeId)(y:Ur)(a:AV)(k:SR):Prop:=match y,a with
 |.const .nilIface,.val .nilIface=>mR P xt=some true/\(op=.eql\/op=.neq)/\k (.val (.bool (if op== .neq then false else true)))
 |.const .nilIface,.da _ _=>mR P xt=some true/\(op=.eql\/op=.neq)/\k (.val (.bool (if op== .neq then true else false)))
 |y,a=>ao (s.ev y) λb=>dH P op xt a b k
def tD (t:TypeId)(a:AV)(l h m:TM)(k:SR):Prop:=match a with
 |.sl n li e=>ao (kM P t) λ(_,sz)=>yx n li e sz l h m k
 |.bC id off n cap=>ao (kM P t) λ(_,sz)=>tK id off n cap sz l h m k
 |.op id off=>ao (yp P t) λ(n,sz)=>tK id off n n sz l h m k
 |_=>False
def tC (t:TypeId)(a:AV)(k:SR):Prop:=match lq P t,a with
 |some .slice,.sl n _ _=>k (.val (.int .i64 n))
 |some .slice,.bC _ _ n _=>k (.val (.int .i64 n))
 |some .str,.val (.string b)=>k (.val (.int .i64 b.size))
 |some .map,.mp id=>match s.H[id]?with
  |some (.obj (.map es _))=>k (.val (.int .i64 es.size))
  |_=>False
 |_,_=>False
def mZ (a:AV)(k:SR):Prop:=match a with
 |.fn (.method name) [.da t av] []=>Ko P t name/\k (.fn (.method name) [.da t av] [])
 |a=>a.sure=true/\k a
def CK (aJ:TypeId)(ok:Bool)(a:AV)(k:SR):Prop:=mR P aJ=some false/\ao (fh P aJ) λz=>match a with
 |.da t av=>if t=aJ then k (if ok then .aL [av,.val (.bool true)]else av)else ok=true/\k (.aL [AV.of z,.val (.bool false)])
 |.val .nilIface=>ok=true/\k (.aL [AV.of z,.val (.bool false)])
 |_=>False
def lW (o:Vo)(k:SR):Prop:=match o.op with
 |.move x=>ao (s.ev x) k
 |.assign x=>ao (s.ev x) k
 |.pick c x y=>ao (s.ev c) λb=>ao (s.ev x) λa=>ao (s.ev y) λa'=>b.asBool λb=>k (if b then a else a')
 |.binOp op xt x y _=>ao (s.ev x) λa=>jc P s op xt y a k
 |.unOp .not _ x=>ao (s.ev x) λa=>a.asBool λb=>k (.val (.bool !b))
 |.unOp .neg _ x=>ao (s.ev x) λa=>a.asInt λj n=>k (.val (.int j (j.wrap (0-n))))
 |.convert src dst x=>ao (s.ev x) λa=>match CO P src dst with
   |some (some j)=>a.asInt λ_ n=>k (.val (.int j (j.wrap n)))
   |_=>False
 |.extract x i=>ao (s.ev x) λa=>a.yE λl=>ao l[i]? k
 |.nilCheck x=>ao (s.ev x) λa=>mZ P a k
 |.makeInterface t x=>mR P t=some false/\ao (s.ev x) λa=>k (.da t a)
 |.makeFunc f first cZ=>ao (first.toList.mapM s.ev) λfa=>ao (cZ.toList.mapM s.ev) λca=>k (.fn f fa ca)
 |.typeAssert x _ aJ ok=>ao (s.ev x) λa=>CK P aJ ok a k
 |.build t parts=>ao (nD P t) λ(pl,z)=>ao (kA s parts.toList) λaJ=>ao (oQ pl.at (mv z) aJ) λl=>k (.agg l)
 |.buildSlice t len parts=>ao (qF P t) λ(_,sz,z)=>len* sz<=2^24/\ao (kA s parts.toList) λaJ=>ao (oQ (iy.at (.elems sz)) (gZ z (len* sz)) aJ) λl=>k (.sl len l .exact)
 |.fieldAddr t x f=>ao (s.ev x) λa=>ao (eR P t f) λn=>ao (a.shift n) k
 |.indexAddr t x ix=>ao (s.ev x) λa=>ao (s.ev ix) λi=>i.asInt λ_ i=>ao (nG P t) fun
   |(some n,sz)=>(0<=i/\i<n)/\ao (a.shift (i.toNat* sz)) k
   |(none,sz)=>ao a.row λ(n,p)=>(0<=i/\i<n)/\ao (p.shift (i.toNat* sz)) k
 |.field t x f=>ao (s.ev x) λa=>a.asAgg λl=>ao (Kq P t f) λ(off,n,g)=>ao (AV.cut l off n g) k
 |.index t x ix=>ao (s.ev x) λa=>ao (s.ev ix) λi=>i.asInt λ_ i=>match a with
   |.agg l=>ao (Kg P t) λ(n,sz,g)=>(0<=i/\i<n)/\ao (AV.cut l (i.toNat* sz) sz g) k
   |.val (.string b)=>(match lq P t with|some .str=>True|_=>False)/\0<=i/\ao b[i.toNat]? λc=>k (.val (.int .u8 c.toNat))
   |_=>False
 |.load t x=>ao (s.ev x) λp=>ao (s.at p) λl=>ao (Ty P t) fun
   |(n,true)=>n<=l.length/\k (.agg (l.take n))
   |(_,false)=>ao l[0]? k
 |.lookup t m k' ok=>ao (pF P t) λ(kt,et)=>ao (fh P et) λz=>ao (s.ev m) λp=>ao (s.ev k') λa=>ao a.raw λK=>p.tN λid=>match s.H[id]?with
  |some (.obj (.map es _))=>cL P (Wr es.isEmpty 10000 kt K) ()/\∃fd,cL P (W6 kt K es.toList) fd/\k (AV.found z ok fd)
  |_=>False
 |.slice t x lo hi mx=>ao (s.ev x) λa=>ao (s.jw lo) λl=>ao (s.jw hi) λh=>ao (s.jw mx) λm=>tD P t a l h m k
 |.entry it=>ao (s.ev it) λp=>p.qI λid off=>off=0/\match s.H[id]?with
   |some (.iter m _ seen ck)=>match s.H[m]?with
    |some (.obj (.map es R8))=>R8=ck/\ao seen.back? λb=>ao (es.find? (·.born==b)) λe=>k (.aL [AV.of e.key,AV.of e.val])
    |_=>False
   |_=>False
 |.call c=>match c.callee with
  |.builtin .len=>ao c.args[0]? λx=>ao c.argTypes[0]? λt=>ao (s.ev x) λa=>tC P s t a k
  |.builtin .max=>match c.args.toList with
   |[x,y]=>ao (s.ev x) λa=>ao (s.ev y) λb=>a.asInt λj m=>b.asInt λ_ n=>k (.val (.int j (if n>m then n else m)))
   |_=>False
  |.builtin .min=>match c.args.toList with
   |[x,y]=>ao (s.ev x) λa=>ao (s.ev y) λb=>a.asInt λj m=>b.asInt λ_ n=>k (.val (.int j (if n<m then n else m)))
   |_=>False
  |_=>False
 |_=>False
end
section
variable {lv:Bool}{P:Tl}{r:SL}{o:Vo}{s:AS}
def nO{c:Ys}{x y:Ur}(h:c.args.toList=[x,y]):c.args=#[x,y]:=by
 apply WT;simpa using h
def lW.sound{k:SR}(h:lW P s o k):∃av,dL lv P r o s av/\k av:=by
 unfold lW at h;split at h
 ·rename_i x ho;obtain⟨a,h1,h2⟩:=h.out;exact⟨a,aen (.inl ho) h1,h2⟩
 ·rename_i x ho;obtain⟨a,h1,h2⟩:=h.out;exact⟨a,aen (.inr ho) h1,h2⟩
 ·rename_i c x y ho;obtain⟨b,h1,h⟩:=h.out;obtain⟨a,h2,h⟩:=h.out;obtain⟨a',h3,h⟩:=h.out;obtain⟨b,rfl,h⟩:=Dg h;exact⟨_,ar4 ho h1 h2 h3,h⟩
 ·rename_i op xt x y yt ho;obtain⟨a,h1,hY⟩:=h.out;clear h;unfold jc at hY;split at hY
  ·exact⟨_,ael ho hY.2.1 h1 (.inl ⟨rfl,rfl⟩) hY.1,hY.2.2⟩
  ·exact⟨_,ael ho hY.2.1 h1 (.inr ⟨⟨_,_,rfl⟩,rfl⟩) hY.1,hY.2.2⟩
  rename_i n1 n2;clear n1 n2;obtain⟨b,h2,h⟩:=hY.out;unfold dH at h;split at h
  ·rename_i j m j' n;split at h
   ·obtain⟨v,h3,h⟩:=h.out;exact⟨_,ar5 ho h1 h2 h3,h⟩
   ·obtain⟨rfl,h⟩:=h;obtain⟨v,h3,h⟩:=h.out;exact⟨_,arE ho h1 h2 h3,h⟩
  ·obtain⟨az,h⟩:=h;obtain⟨X,h3,h⟩:=h.out;obtain⟨Y,h4,h⟩:=h.out;obtain⟨h5,h6,e,h7,h⟩:=h;exact⟨_,arJ ho az h1 h2 h3 h4 h5 h6 h7,h⟩
 ·rename_i t x ho;obtain⟨a,h1,h⟩:=h.out;obtain⟨b,rfl,h⟩:=Dg h;exact⟨_,ar3 ho h1,h⟩
 ·rename_i t x ho;obtain⟨a,h1,h⟩:=h.out;obtain⟨j,n,rfl,h⟩:=oN h;exact⟨_,ar0 ho h1,h⟩
 ·rename_i src dst x ho;obtain⟨a,h1,h⟩:=h.out;split at h
  ·rename_i j hj;obtain⟨j',n,rfl,h⟩:=oN h;exact⟨_,arH ho hj h1,h⟩
  ·exact h.elim
 ·rename_i x i ho;obtain⟨a,h1,h⟩:=h.out;obtain⟨l,rfl,h⟩:=ahH h;obtain⟨b,h2,h⟩:=h.out;exact⟨_,arK ho h1 h2,h⟩
 ·rename_i x ho;obtain⟨a,h1,h⟩:=h.out;unfold mZ at h;split at h
  ·exact⟨_,ar2 ho h1 h.1,h.2⟩
  ·exact⟨_,ar1 ho h1 h.1,h.2⟩
 ·rename_i t x ho;obtain⟨h1,h⟩:=h;obtain⟨a,h2,h⟩:=h.out;exact⟨_,arX ho h1 h2,h⟩
 ·rename_i f first cZ ho
  obtain⟨fa,h1,h⟩:=h.out;obtain⟨ca,h2,h⟩:=h.out;exact⟨_,arW ho h1 h2,h⟩
 ·rename_i x xt aJ ok ho;obtain⟨a,h1,hA⟩:=h.out;obtain⟨h2,hB⟩:=hA;obtain⟨z,h3,hC⟩:=hB.out;clear h hB;split at hC
  ·rename_i t av;split at hC
   ·rename_i e;subst e;exact⟨_,aek ho h2 h3 h1 (.inr rfl),by rw[if_pos rfl];exact hC⟩
   ·rename_i e;exact⟨_,aek ho h2 h3 h1 (.inl hC.1),by rw[if_neg e];exact hC.2⟩
  ·obtain⟨e,hC⟩:=hC;subst e;exact⟨_,arD ho h2 h3 h1,hC⟩
  ·exact hC.elim
 ·rename_i t parts ho;obtain⟨⟨pl,z⟩,h1,h⟩:=h.out;obtain⟨aJ,h2,h⟩:=h.out;obtain⟨l,h3,h⟩:=h.out;exact⟨_,arF ho h1 h2 h3,h⟩
 ·rename_i t len parts ho;obtain⟨⟨e,sz,z⟩,h1,h⟩:=h.out;obtain⟨hs,h⟩:=h;obtain⟨aJ,h2,h⟩:=h.out;obtain⟨l,h3,h⟩:=h.out;exact⟨_,arG ho h1 hs h2 h3,h⟩
 ·rename_i t x f ho;obtain⟨a,h1,h⟩:=h.out;obtain⟨n,hn,h⟩:=h.out;obtain⟨b,h2,h⟩:=h.out;exact⟨_,arL ho hn h1 h2,h⟩
 ·rename_i t x ix ho;obtain⟨a,h1,h⟩:=h.out;obtain⟨i,h2,h⟩:=h.out;obtain⟨j,i,rfl,h⟩:=oN h;obtain⟨⟨on,sz⟩,ht,h⟩:=h.out;cases on with
  |some n=>
   obtain⟨⟨h3,h4⟩,h⟩:=h;obtain⟨q,h5,h⟩:=h.out;exact⟨_,arO ho ht h1 h2 h3 h4 h5,h⟩
  |none=>
   obtain⟨⟨n,p⟩,an4,h⟩:=ao.out h;obtain⟨⟨h3,h4⟩,h⟩:=h;obtain⟨q,h5,h⟩:=h.out;exact⟨_,arN ho ht h1 an4 h2 h3 h4 h5,h⟩
 ·rename_i t x f ho;obtain⟨a,h1,h⟩:=h.out;obtain⟨l,rfl,h⟩:=ahy h;obtain⟨⟨off,n,g⟩,h2,h⟩:=h.out;obtain⟨b,h3,h⟩:=h.out;exact⟨_,arM ho h2 h1 h3,h⟩
 ·rename_i t x ix ho;obtain⟨a,h1,h⟩:=h.out;obtain⟨i,h2,h⟩:=h.out;obtain⟨j,i,rfl,h⟩:=oN h;split at h
  ·obtain⟨⟨n,sz,g⟩,h3,h⟩:=h.out;obtain⟨⟨h4,h5⟩,h⟩:=h;obtain⟨b,h6,h⟩:=h.out;exact⟨_,arQ ho h3 h1 h2 h4 h5 h6,h⟩
  ·obtain⟨h3,h4,h⟩:=h;obtain⟨c,h5,h⟩:=h.out;split at h3
   ·rename_i hl;exact⟨_,arP ho hl h1 h2 h4 h5,h⟩
   ·exact h3.elim
  ·exact h.elim
 ·rename_i t x ho;obtain⟨p,h1,h⟩:=h.out;obtain⟨l,hl,h⟩:=h.out;obtain⟨⟨n,g⟩,ht,h⟩:=h.out;cases g with
  |true=>exact⟨_,arT ho ht h1 hl h.1,h.2⟩
  |false=>
   obtain⟨av,h2,h⟩:=ao.out h;exact⟨_,arU ho ht h1 hl h2,h⟩
 ·rename_i t m k' ok ho;obtain⟨⟨kt,et⟩,h1,hA⟩:=h.out;obtain⟨z,h2,hB⟩:=hA.out;obtain⟨p,h3,hC⟩:=hB.out;obtain⟨a,h4,hD⟩:=hC.out;obtain⟨K,h5,hE⟩:=hD.out;obtain⟨id,e1,hF⟩:=GF hE;subst e1;split at hF
  ·rename_i es ck hH;obtain⟨h6,fd,h7,h8⟩:=hF;exact⟨_,arV ho h1 h2 h3 h4 h5 hH h6 h7,h8⟩
  ·exact hF.elim
 ·rename_i t x lo hi mx ho;obtain⟨a,h1,h⟩:=h.out;obtain⟨l,h2,h⟩:=h.out;obtain⟨hh,h3,h⟩:=h.out;obtain⟨m,h4,h⟩:=h.out;unfold tD at h;split at h
  ·obtain⟨⟨e,sz⟩,h5,h⟩:=h.out;exact ar6 ho h5 h1 h2 h3 h4 h
  ·obtain⟨⟨e,sz⟩,h5,h⟩:=h.out;exact ar8 ho h5 h1 h2 h3 h4 h
  ·obtain⟨⟨n,sz⟩,h5,h⟩:=h.out;exact ar7 ho h5 h1 h2 h3 h4 h
  ·exact h.elim
 ·rename_i it ho;obtain⟨p,h1,hA⟩:=h.out;obtain⟨id,off,e1,hB⟩:=Dh hA;clear h hA;subst e1;obtain⟨e1,hC⟩:=hB;subst e1;split at hC
  ·rename_i m since seen ck hI;split at hC
   ·rename_i es R8 hM;obtain⟨e1,hD⟩:=hC;subst e1;obtain⟨b,h2,hE⟩:=hD.out;obtain⟨e,h3,hF⟩:=hE.out;exact⟨_,arI ho h1 hI hM h2 h3,hF⟩
   ·exact hC.elim
  ·exact hC.elim
 ·rename_i c ho;split at h
  ·rename_i bi;obtain⟨x,h1,h⟩:=h.out;obtain⟨t,h2,h⟩:=h.out;obtain⟨a,h3,h⟩:=h.out;unfold tC at h;split at h
   ·rename_i hl;exact⟨_,aem ho bi h1 h2 hl h3 rfl,h⟩
   ·rename_i hl;exact⟨_,aem ho bi h1 h2 hl h3 rfl,h⟩
   ·rename_i hl;exact⟨_,arS ho bi h1 h2 hl h3,h⟩
   ·rename_i hl;split at h
    ·rename_i hM;exact⟨_,arR ho bi h1 h2 hl h3 hM,h⟩
    ·exact h.elim
   ·exact h.elim
  ·rename_i bi;split at h
   ·rename_i x y cS;obtain⟨a,h1,hA⟩:=h.out;obtain⟨b,h2,hB⟩:=hA.out;obtain⟨j,m,e1,hC⟩:=oN hB;obtain⟨j',n,e2,hD⟩:=oN hC;subst e1 e2;exact⟨_,arY ho bi (nO cS) h1 h2,hD⟩
   ·exact h.elim
  ·rename_i bi;split at h
   ·rename_i x y cS;obtain⟨a,h1,hA⟩:=h.out;obtain⟨b,h2,hB⟩:=hA.out;obtain⟨j,m,e1,hC⟩:=oN hB;obtain⟨j',n,e2,hD⟩:=oN hC;subst e1 e2;exact⟨_,arZ ho bi (nO cS) h1 h2,hD⟩
   ·exact h.elim
  ·exact h.elim
 ·exact h.elim
end
open Go.Conc
structure mw (X Y:Prop):Type where
 n:Nat
def rL (b cw:Bool)(X Y:Prop)(_t:mw X Y):Prop:=(b=cw->X)/\(b= !cw->Y)
def yX{b cw:Bool}{X Y:Prop}{t:mw X Y}(h1:b=cw->X)(h2:b= !cw->Y):rL b cw X Y t:=⟨h1,h2⟩
def al6(X Y:Prop)(t:mw X Y):rL true true X Y t=X:=by simp[rL]
def al5(X Y:Prop)(t:mw X Y):rL true false X Y t=Y:=by simp[rL]
def al4(X Y:Prop)(t:mw X Y):rL false true X Y t=Y:=by simp[rL]
def al3(X Y:Prop)(t:mw X Y):rL false false X Y t=X:=by simp[rL]
section
variable (lv:Bool)(P:Tl)
def uX (H:SA)(k:SF)(id off n c0 m sz:Nat)(elem:TypeId)(l':SC):Prop:=off=0/\c0<n/\l'.length=m* sz/\n+m<=2^30/\(∀a∈l',a.leaf=true)/\match H[id]?with
 |some (.own eX l el)=>eX=sz/\el=elem/\l.length=n* sz/\k (.bC H.length 0 (n+m) 0) (H.set id .gone++[.own sz (l++l') elem])
 |_=>False
def AV.qJ (a:AV)(kO:Nat->Nat->Nat->S7)(k:TH):Prop:=match a with
 |.bC id off n c=>kO id off n c
 |.sl n l e=>k n l e
 |_=>False
def Kz{a:AV}{kO:Nat->Nat->Nat->S7}{k:TH}(h:a.qJ kO k):(∃id off n c,a=.bC id off n c/\kO id off n c)\/∃n l e,a=.sl n l e/\k n l e:=by
 unfold AV.qJ at h;split at h
 ·exact .inl ⟨_,_,_,_,rfl,h⟩
 ·exact .inr ⟨_,_,_,rfl,h⟩
 ·exact h.elim
def m8 (s:AS)(o:Vo)(next:SV)(bad:AV->SV):Prop:=match o.op with
 |.box t x=>ao (s.ev x) λa=>ao a.parts λl=>next ((⟨s.T,s.H++[.cells l t]⟩:AS).put o.dst (.op s.H.length 0))
 |.alloc t=>ao (fh P t) λz=>next ((⟨s.T,s.H++[.cells (mv z) t]⟩:AS).put o.dst (.op s.H.length 0))
 |.store t x y=>ao (s.ev x) λp=>ao (s.ev y) λa=>ao a.parts λlp=>p.qI λid off=>match s.H[id]?with
  |some (.cells l el)=>(ao (Ty P t) λx=>lp.length=x.1)/\off+lp.length<=l.length/\(∀a∈lp,a.leaf=true)/\next ((⟨s.T,s.H.set id (.cells (iY l off lp) el)⟩:AS).put o.dst (.val undef))
  |some (.part p l el)=>p<=off/\(ao (Ty P t) λx=>lp.length=x.1)/\off+lp.length<=l.length/\(∀a∈lp,a.leaf=true)/\next ((⟨s.T,s.H.set id (.part p (iY l off lp) el)⟩:AS).put o.dst (.val undef))
  |some (.own p l el)=>(ao (Ty P t) λx=>lp.length=x.1)/\off+lp.length<=l.length/\(∀a∈lp,a.leaf=true)/\next ((⟨s.T,s.H.set id (.own p (iY l off lp) el)⟩:AS).put o.dst (.val undef))
  |_=>False
 |.makeMap _ none=>next ((⟨s.T,s.H++[.obj (.map #[] 0)]⟩:AS).put o.dst (.mp s.H.length))
 |.makeSlice t x y=>ao (CY P t) λ(e,sz,z)=>ao (s.ev x) λa=>ao (s.ev y) λb=>a.asInt λ_ n=>b.asInt λ_ n'=>n'=n/\0<=n/\n<=2^30/\next ((⟨s.T,s.H++[.cells (gZ z (n.toNat* sz)) e]⟩:AS).put o.dst (.bC s.H.length 0 n.toNat n.toNat))
 |.mapUpdate t m k x=>ao (pF P t) λ(kt,_)=>ao (s.ev m) λp=>ao (s.ev k) λa=>ao (s.ev x) λb=>ao a.raw λK=>ao b.raw λX=>p.tN λid=>match s.H[id]?with
  |some (.obj (.map es ck))=>cL P (Wr false 10000 kt K) ()/\∃fd,cL P (W6 kt K es.toList) fd/\(∀i v,fd=some (i,v)->XC 10000 (((es[i]?).map (·.key)).getD K) K=true)/\next ((⟨s.T,s.H.set id (.obj (x9 es ck K X fd))⟩:AS).put o.dst (.val undef))
  |_=>False
 |.range t x=>ao (pF P t) λ_=>ao (s.ev x) λp=>p.tN λm=>match s.H[m]?with
  |some (.obj (.map _ ck))=>next ((⟨s.T,s.H++[.iter m ck #[] ck]⟩:AS).put o.dst (.op s.H.length 0))
  |_=>False
 |.next it false=>ao (s.ev it) λp=>p.qI λid off=>off=0/\match s.H[id]?with
  |some (.iter m since seen uU)=>match s.H[m]?with
   |some (.obj (.map es ck))=>(es.all (λe=>decide (e.born>=uU))=false\/es.isEmpty=true\/seen.isEmpty=true)/\
    (∀e∈es,e.born∉seen->next ((⟨s.T,s.H.set id (.iter m since (seen.push e.born) ck)⟩:AS).put o.dst (.aL [.val (.bool true),AV.of e.key,AV.of e.val])))/\
    ((∀e∈es,e.born<since->e.born∈seen)->next (s.put o.dst (.aL [.val (.bool false)])))
   |_=>False
  |_=>False
 |.panic x=>ao (s.ev x) λa=>match a with
  |.da t av=>bad (.da t av) s
  |_=>False
 |.binOp op t x (.const (.slice none 0 0)) _=>(op=.eql\/op=.neq)/\ao (kM P t) λ_=>ao (s.ev x) λa=>ao a.len λn=>∀b:Bool,(0<n->b=false)->next (s.put o.dst (.val (.bool (if op== .neq then !b else b))))
 |.call c=>match c.callee with
  |.builtin .append=>match c.args.toList,c.argTypes.toList with
   |[x,y],[t,t']=>ao (jM P t t') λ(elem,sz,_)=>ao (s.ev x) λa=>ao (s.ev y) λb=>a.qJ (λid off n c0=>ao (s.src sz b) λ(m,l')=>uX s.H (λb H'=>next ((⟨s.T,H'⟩:AS).put o.dst b)) id off n c0 m sz elem l') λn l e=>ao (s.src sz b) λ(m,l')=>l.length=n* sz/\l'.length=m* sz/\n+m<=2^30/\CM s o.dst next n m sz elem l l' e
   |_,_=>False
  |.builtin .copy=>match c.args.toList,c.argTypes.toList with
   |[x,y],[t,_]=>ao (kM P t) λ(_,sz)=>ao (s.ev x) λa=>ao (s.ev y) λb=>match a with
    |.bC id off n _=>match s.H[id]?with
     |some (.cells l el)=>ao (s.src sz b) λ(m,l')=>l'.length=m* sz/\off+min m n* sz<=l.length/\(∀a∈l',a.leaf=true)/\next ((⟨s.T,s.H.set id (.cells (iY l off (l'.take (min m n* sz))) el)⟩:AS).put o.dst (.val (.int .i64 (min m n:Nat))))
     |_=>False
    |_=>False
   |_,_=>False
  |.builtin .delete=>match c.args.toList,c.argTypes.toList with
   |[m,k],[t,_]=>ao (pF P t) λ(kt,_)=>ao (s.ev m) λp=>ao (s.ev k) λa=>ao a.raw λK=>p.tN λid=>match s.H[id]?with
    |some (.obj (.map es ck))=>cL P (Wr es.isEmpty 10000 kt K) ()/\∃fd,cL P (W6 kt K es.toList) fd/\next ((⟨s.T,s.H.set id (.obj (.map (GZ es fd) ck))⟩:AS).put o.dst (.val undef))
    |_=>False
   |_,_=>False
  |.value x=>ao (s.ev x) λf=>ao (fG s c.args.toList) λaJ=>CN lv P f s.H aJ (λb H'=>next ((⟨s.T,H'⟩:AS).put o.dst b)) (λpv H'=>bad pv ⟨s.T,H'⟩) ⟨0⟩
  |.invoke x name=>ao (s.ev x) λf=>ao (fG s c.args.toList) λaJ=>agj lv P f name s.H aJ (λb H'=>next ((⟨s.T,H'⟩:AS).put o.dst b)) (λpv H'=>bad pv ⟨s.T,H'⟩) ⟨0⟩
  |_=>lW P s o λav=>next (s.put o.dst av)
 |_=>lW P s o λav=>next (s.put o.dst av)
def iS (all:SK):List Vo->AS->(SV)->(AV->SV)->Prop
 |[],s,next,_=>next s
 |o::rest,s,next,bad=>match o.guard with
  |none=>m8 lv P s o (λs'=>iS all rest s' next bad) bad
  |some (j,cw)=>ao ((all[j]?).bind (·.dst)) λd=>ao (look s.T d) λa=>a.asBool λb=>rL b cw (m8 lv P ⟨(d,.val (.bool cw))::s.T,s.H⟩ o (λs'=>iS all rest s' next bad) bad) (iS all rest ((⟨(d,.val (.bool !cw))::s.T,s.H⟩:AS).put o.dst (.val undef)) next bad) ⟨0⟩
end
section
variable {lv:Bool}{P:Tl}{r:SL}{s:AS}
def tw{c:Ys}{x y:TypeId}(h:c.argTypes.toList=[x,y]):c.argTypes=#[x,y]:=by
 apply WT;simpa using h
def m8.sound{o:Vo}{next:SV}{bad:AV->SV}(h:m8 lv P s o next bad):Step lv P r o s next bad:=by
 have quiet:(lW P s o λav=>next (s.put o.dst av))->Step lv P r o s next bad:=λh=>by
  obtain⟨av,h1,h2⟩:=h.sound (lv:=lv) (r:=r);exact h1.step h2
 unfold m8 at h;split at h
 ·rename_i t x ho;obtain⟨a,h1,h⟩:=h.out;obtain⟨l,h2,h⟩:=h.out;exact afe ho h1 h2 h
 ·rename_i t ho;obtain⟨z,h1,h⟩:=h.out;exact afb ho h1 h
 ·rename_i t x y ho;obtain⟨p,h1,hA⟩:=h.out;obtain⟨a,h2,hB⟩:=hA.out;obtain⟨lp,h3,hC⟩:=hB.out;obtain⟨id,off,e1,hD⟩:=Dh hC;clear h hA hB hC;subst e1;split at hD
  ·rename_i l el hk;obtain⟨q1,q2,q3,q4⟩:=hD;obtain⟨⟨n,g⟩,q5,q6⟩:=q1.out;exact afj ho q5 h1 hk h2 h3 q6 q2 q3 q4
  ·rename_i p l el hk;obtain⟨q0,q1,q2,q3,q4⟩:=hD;obtain⟨⟨n,g⟩,q5,q6⟩:=q1.out;exact at5 ho q5 h1 hk q0 h2 h3 q6 q2 q3 q4
  ·rename_i p l el hk;obtain⟨q1,q2,q3,q4⟩:=hD;obtain⟨⟨n,g⟩,q5,q6⟩:=q1.out;exact afk ho q5 h1 hk h2 h3 q6 q2 q3 q4
  ·exact hD.elim
 ·rename_i t ho;exact atZ ho h
 ·rename_i t x y ho;obtain⟨⟨e,sz,z⟩,h1,hA⟩:=h.out;obtain⟨a,h2,hB⟩:=hA.out;obtain⟨b,h3,hC⟩:=hB.out;obtain⟨j,n,e1,hD⟩:=oN hC;obtain⟨j',n',e2,hE⟩:=oN hD;clear h hA hB hC hD;subst e1 e2;obtain⟨e3,h4,h5,h6⟩:=hE;subst e3;obtain⟨m,rfl⟩:∃m:Nat,n'=m:=⟨n'.toNat,by omega⟩;exact afh ho h1 h2 h3 (by omega) (by simpa using h6)
 ·rename_i t m k x ho;obtain⟨⟨kt,et⟩,h1,hA⟩:=h.out;obtain⟨p,h2,hB⟩:=hA.out;obtain⟨a,h3,hC⟩:=hB.out;obtain⟨b,h4,hD⟩:=hC.out;obtain⟨K,h5,hE⟩:=hD.out;obtain⟨X,h6,hF⟩:=hE.out;obtain⟨id,e1,hG⟩:=GF hF;clear h hA hB hC hD hE hF;subst e1;split at hG
  ·rename_i es ck hH;obtain⟨q1,fd,q2,q3,q4⟩:=hG;exact at0 (.inl ho) h1 h2 h3 h4 h5 h6 hH q1 q2 q3 q4
  ·exact hG.elim
 ·rename_i t x ho;obtain⟨⟨kt,et⟩,h1,hA⟩:=h.out;obtain⟨p,h2,hB⟩:=hA.out;obtain⟨m,e1,hC⟩:=GF hB;clear h hA hB;subst e1;split at hC
  ·rename_i es ck hH;exact at3 ho h1 h2 hH hC
  ·exact hC.elim
 ·rename_i it ho;obtain⟨p,h1,hA⟩:=h.out;obtain⟨id,off,e1,hB⟩:=Dh hA;clear h hA;subst e1;obtain⟨e1,hC⟩:=hB;subst e1;split at hC
  ·rename_i m since seen uU hI;split at hC
   ·rename_i es ck hM;exact at1 ho h1 hI hM hC.1 hC.2.1 hC.2.2
   ·exact hC.elim
  ·exact hC.elim
 ·rename_i x ho;obtain⟨a,h1,hA⟩:=h.out;split at hA
  ·exact at2 ho h1 hA
  ·exact hA.elim
 ·rename_i op t x yt ho;obtain⟨az,hA⟩:=h;obtain⟨d,h1,hB⟩:=hA.out;obtain⟨a,h2,hC⟩:=hB.out;obtain⟨n,e1,hD⟩:=hC.out;exact at4 ho az h2 e1 h1 hD
 ·rename_i c ho;split at h
  ·rename_i bi;split at h
   ·rename_i x y t t' ha ht;obtain⟨⟨elem,sz,z⟩,h1,hA⟩:=h.out;obtain⟨a,h2,hB⟩:=hA.out;obtain⟨b,h3,hC⟩:=hB.out;rcases Kz hC with⟨id,off,n,c0,e1,hD⟩|⟨n,l,e,e1,hD⟩
    ·clear h hA hB hC;subst e1;obtain⟨⟨m,l'⟩,h4,rfl,g2,g3,g4,g5,hE⟩:=hD.out;split at hE
     ·rename_i hk;obtain⟨rfl,rfl,g6,g7⟩:=hE;exact afc ho bi (nO ha) (tw ht) h1 h2 g2 hk rfl h3 h4 g6 g3 g4 g5 g7
     ·exact hE.elim
    ·clear h hA hB hC;subst e1;obtain⟨⟨m,l'⟩,h4,h5,h6,h7,h8⟩:=hD.out;exact step_append ho bi (nO ha) (tw ht) h1 h2 h3 h4 h5 h6 h7 h8
   ·exact h.elim
  ·rename_i bi;split at h
   ·rename_i x y t t' ha ht;obtain⟨⟨elem,sz⟩,h1,hA⟩:=h.out;obtain⟨a,h2,hB⟩:=hA.out;obtain⟨b,h3,hC⟩:=hB.out;clear h hA hB;split at hC
    ·split at hC
     ·rename_i hk;obtain⟨⟨m,l'⟩,h4,h5,h6,h7,h8⟩:=hC.out;exact atX ho bi (nO ha) (tw ht) h1 h2 hk h3 h4 h5 h6 h7 h8
     ·exact hC.elim
    ·exact hC.elim
   ·exact h.elim
  ·rename_i bi;split at h
   ·rename_i m k t t' ha ht;obtain⟨⟨kt,et⟩,h1,hA⟩:=h.out;obtain⟨p,h2,hB⟩:=hA.out;obtain⟨a,h3,hC⟩:=hB.out;obtain⟨K,h4,hD⟩:=hC.out;obtain⟨id,e1,hE⟩:=GF hD;clear h hA hB hC hD;subst e1;split at hE
    ·rename_i es ck hH;obtain⟨q1,fd,q2,q3⟩:=hE;exact atY ho bi (nO ha) (tw ht) h1 h2 h3 h4 hH q1 q2 q3
    ·exact hE.elim
   ·exact h.elim
  ·rename_i x bi;obtain⟨f,h1,hA⟩:=h.out;obtain⟨aJ,h2,hB⟩:=hA.out;exact Qi ho bi h1 h2 hB
  ·rename_i x name bi;obtain⟨f,h1,hA⟩:=h.out;obtain⟨aJ,h2,hB⟩:=hA.out;exact afg ho bi h1 h2 hB
  ·exact quiet h
 ·exact quiet h
structure At (E:Env)(V:View)(s:AS)(a:Act)(nt:Nat):Prop where
 bB:Conc E V s.H
 tok:cC E s.T a.tmps
 size:a.tmps.size=nt
def Kept.refl(E:Env)(V:View)(a:Act):Kept E E V V a a:=⟨Env.Le.refl E,rfl,rfl,rfl,rfl⟩
def Kept.trans{E E' bY:Env}{V V' aV:View}{a a' cD:Act}(h:Kept E E' V V' a a')(k:Kept E' bY V' aV a' cD):Kept E bY V aV a cD:=
 ⟨h.le.trans k.le,k.size.trans h.size,k.defers.trans h.defers,k.role.trans h.role,k.deaf.trans h.deaf⟩
inductive an where
 |normal
 |exit (id:Nat)
 |goto (l:Nat)
 |ret
 |panic (pv:AV)
def qB (E:Env):an->Ex->Prop
 |.normal,.normal=>True
 |.exit i,.exit j=>i=j
 |.goto i,.goto j=>i=j
 |.ret,.ret=>True
 |.panic pv,.panic ch=>∃v,ch=[{v,recovered:=false}]/\au E pv v
 |_,_=>False
abbrev SI:=an->AS->Prop
def aS (lv:Bool)(P:Tl)(r:SL)(nt:Nat)(c:U_)(s:AS)(Φ:SI):Prop:=
 ∀(E:Env)(V:View)(a:Act)(Q:SJ),At E V s a nt->(∀ae e E' V' a' s',Kept E E' V V' a a'->At E' V' s' a' nt->qB E' ae e->Φ ae s'->Q e a' V')->WP lv P r c Q a V
def Cc{nt:Nat}{all:SK}{Φ:SI}(dF:∀o∈all,∀d,o.dst=some d->d<nt)(oc:∀o∈all,r=none\/mQ o.op=false):∀(n k:Nat)(s:AS),k+n=all.size->iS lv P all (all.toList.drop k) s (Φ .normal) (λpv s=>Φ (.panic pv) s)->
  ∀(E:Env)(V:View)(a:Act)(Q:SJ),At E V s a nt->(∀ae e E' V' a' s',Kept E E' V V' a a'->At E' V' s' a' nt->qB E' ae e->Φ ae s'->Q e a' V')->dD lv P r all Q (Vd k n) a V
 |0,k,s,hk,h,E,V,a,Q,aj,hQ=>by
  have:all.toList.drop k=[]:=by simp;omega
  rw[this]at h;exact hQ .normal .normal E V a s (Kept.refl E V a) aj trivial h
 |n+1,k,s,hk,h,E,V,a,Q,aj,hQ=>by
  have hlt:k<all.size:=by omega
  have hd:all.toList.drop k=all[k]::all.toList.drop (k+1):=by
   rw[UY (by simpa using hlt)];simp
  rw[hd]at h;have gk:all[k]∈all:=YV hlt;have ho:all[k]?=some all[k]:=Tn hlt;simp only[W9,dD,ho];have go:∀s:AS,At E V s a nt->m8 lv P s all[k] (λs'=>iS lv P all (all.toList.drop (k+1)) s' (Φ .normal) (λpv s=>Φ (.panic pv) s)) (λpv s=>Φ (.panic pv) s)->yu lv P r all[k] a V (dD lv P r all Q (Vd (k+1) n)) Q:=λs aj h=>by
   refine h.sound (lv:=lv) (r:=r) E V a _ Q aj.bB aj.tok (λd e=>by rw[aj.size];exact dF _ gk d e) (oc _ gk) (λE' V' a' s' aI bw mN hn=> ?_) (λE' V' s' pv v aI bw mN bx hb=> ?_)
   ·exact Cc dF oc n (k+1) s' (by omega) hn E' V' a' Q ⟨bw,mN,aI.size.trans aj.size⟩ (λae e bY aV cD dA gC dw he hΦ=>hQ ae e bY aV cD dA (aI.trans gC) dw he hΦ)
   ·exact hQ (.panic pv) (.panic _) E' V' a s' aI ⟨bw,mN,aj.size⟩ ⟨v,rfl,bx⟩ hb
  simp only[iS]at h;split at h
  ·rename_i hg;have hw:Up all[k] (yielded all a.tmps)=true:=(by unfold Up;rw[hg]);rw[if_pos hw];exact .inl (go s aj h)
  ·rename_i j cw hg;obtain⟨d,gM,h⟩:=h.out;obtain⟨av,h1,h⟩:=h.out;obtain⟨b,rfl,h2,h3⟩:=Dg h;have hv:=(aj.tok d _ h1).2;have hy:yielded all a.tmps j=some b:=by
    obtain⟨oj,kV,jB⟩:=Um.1 gM;generalize hx:a.tmps.getD d undef=x at hv;cases hv;have mJ:d<a.tmps.size:=(aj.tok d _ h1).1;rw[Ti,Tn mJ]at hx;simp only[Ua]at hx;simp[yielded,kV,jB,Tn mJ,hx]
   have sU:∀b',b=b'->At E V ⟨(d,.val (.bool b'))::s.T,s.H⟩ a nt:=λb' dO=>by
    subst dO;refine⟨aj.bB,λt x e=> ?_,aj.size⟩;simp only[look]at e;split at e
    ·rename_i e';subst e';cases e;exact aj.tok d _ h1
    ·exact aj.tok t x e
   by_cases hb:b=cw
   ·have hw:Up all[k] (yielded all a.tmps)=true:=(by unfold Up;rw[hg];simp[hy,hb]);rw[if_pos hw];exact .inl (go _ (sU cw hb) (h2 hb))
   ·have hw:¬Up all[k] (yielded all a.tmps)=true:=(by unfold Up;rw[hg];simp[hy,hb]);rw[if_neg hw];have dO:b= !cw:=(by cases b<;>cases cw<;>simp_all);have xh:=h3 dO;have aj:=sU _ dO;exact Cc dF oc n (k+1) ((⟨(d,.val (.bool !cw))::s.T,s.H⟩:AS).put all[k].dst (.val undef)) (by omega) xh E V (a.put all[k].dst undef) Q
     ⟨by rw[fK];exact aj.bB,aj.tok.iG (λd e=>by rw[aj.size];exact dF _ gk d e) (.val undef),by rw[eF];exact aj.size⟩
     (λae e bY aV cD dA gC dw he hΦ=>hQ ae e bY aV cD dA ⟨gC.le,gC.size.trans (eF _ _ _),gC.defers.trans (put_defers _ _ _),gC.role,gC.deaf⟩ dw he hΦ)
def j8 (nt:Nat)(ops:SK):Bool:=ops.all λo=>(o.dst.all (·<nt))&& !mQ o.op
def j8.out{nt:Nat}{ops:SK}(hd:j8 nt ops=true){o:Vo}(ho:o∈ops):(∀d,o.dst=some d->d<nt)/\mQ o.op=false:=by
 have:=(VM.1 hd) o ho;simp only[Uh,U0]at this;exact⟨λd e=>by have h1:=this.1;rw[e]at h1;simpa using h1,this.2⟩
def Rw{nt id:Nat}{ops:SK}{Φ:SI}(hd:j8 nt ops=true)(h:iS lv P ops ops.toList s (Φ .normal) (λpv s=>Φ (.panic pv) s)):aS lv P r nt (.region id ops false) s Φ:=by
 intro E V a Q aj hQ;refine wp_region ?_;rw[WE];exact Cc (Φ:=Φ) (λo ho d e=>(j8.out hd ho).1 d e) (λo ho=> .inr (j8.out hd ho).2) ops.size 0 s (by omega) (by simpa using h) E V a Q aj hQ
def Rz{nt:Nat}{Φ:SI}(h:Φ .normal s):aS lv P r nt .skip s Φ:=λE V a _ aj hQ=>wp_skip (hQ .normal _ E V a s (Kept.refl E V a) aj trivial h)
def Rt{nt l:Nat}{Φ:SI}(h:Φ .normal s):aS lv P r nt (.label l) s Φ:=λE V a _ aj hQ=>wp_label (hQ .normal _ E V a s (Kept.refl E V a) aj trivial h)
def Rr{nt id:Nat}{Φ:SI}(h:Φ (.exit id) s):aS lv P r nt (.exit id) s Φ:=λE V a _ aj hQ=>wp_exit (hQ (.exit id) _ E V a s (Kept.refl E V a) aj rfl h)
def Rx{nt:Nat}{Φ:SI}(h:Φ .ret s):aS lv P r nt .ret s Φ:=λE V a _ aj hQ=>wp_ret (hQ .ret _ E V a s (Kept.refl E V a) aj trivial h)
def an.then (next:SV)(Φ:SI):an->AS->Prop
 |.normal,s=>next s
 |e,s=>Φ e s
def qB.mono{E E':Env}(h:E.Le E'){ae:an}{e:Ex}(k:qB E ae e):qB E' ae e:=by
 cases ae<;>cases e<;>first|exact k|(obtain⟨v,h1,h2⟩:=k;exact⟨v,h1,h2.mono h⟩)
def fu{nt:Nat}{x y:U_}{Φ:SI}(h:aS lv P r nt x s (an.then (λs'=>aS lv P r nt y s' Φ) Φ)):aS lv P r nt (.seq x y) s Φ:=by
 intro E V a Q aj hQ;refine wp_seq (h E V a _ aj λae e E' V' a' s' hk aX he hΦ=> ?_);cases ae<;>cases e<;>first
  |exact he.elim
  |exact hΦ E' V' a' Q aX λae e bY aV cD dA aI dw kF uB=>hQ ae e bY aV cD dA (hk.trans aI) dw kF uB
  |exact hQ _ _ E' V' a' s' hk aX he hΦ
def ahP{nt:Nat}{c:Ur}{x y:U_}{b:Bool}{Φ:SI}(hc:s.ev c=some (.val (.bool b)))(h1:b=true->aS lv P r nt x s Φ)(h2:b=false->aS lv P r nt y s Φ):aS lv P r nt (.cond c x y) s Φ:=by
 intro E V a Q aj hQ;have hv:=au.ev aj.tok hc;generalize hx:a.eval c=v at hv;cases hv;refine wp_cond hx ?_;cases b with
 |true=>exact h1 rfl E V a Q aj hQ
 |false=>exact h2 rfl E V a Q aj hQ
def an.inBlock (id:Nat)(Φ:SI):an->AS->Prop
 |.exit pj,s=>if pj=id then Φ .normal s else Φ (.exit pj) s
 |e,s=>Φ e s
def Ro{nt id:Nat}{c:U_}{Φ:SI}(h:aS lv P r nt c s (an.inBlock id Φ)):aS lv P r nt (.block id c) s Φ:=by
 intro E V a Q aj hQ;refine wp_block (h E V a _ aj λae e E' V' a' s' hk aX he hΦ=> ?_);cases ae<;>cases e<;>first
  |exact he.elim
  |(rename_i i j
    have e:i=j:=he;subst e;by_cases cg:i=id
    ·simp only[Ex.inBlock,cg,if_true];simp only[an.inBlock,cg,if_true]at hΦ;exact hQ .normal _ E' V' a' s' hk aX trivial hΦ
    ·simp only[Ex.inBlock,cg,if_false];simp only[an.inBlock,cg,if_false]at hΦ;exact hQ (.exit i) _ E' V' a' s' hk aX rfl hΦ)
  |exact hQ _ _ E' V' a' s' hk aX he hΦ
def aS.mono{nt:Nat}{c:U_}{Φ Φ':SI}(h:aS lv P r nt c s Φ)(hm:∀e s,Φ e s->Φ' e s):aS lv P r nt c s Φ':=λE V a Q aj hQ=>
 h E V a Q aj λae e E' V' a' s' hk aX he hΦ=>hQ ae e E' V' a' s' hk aX he (hm _ _ hΦ)
def Wk (b a:AV):Prop:=∀E v,au E b v->au E a v
def Wk.refl(a:AV):Wk a a:=λ_ _ h=>h
def ff(n:Nat)(l:SC)(e:End):Wk (.sl n l e) (.sl n l .shut):=λ_ _ h=>by
 cases h with
 |sl b o cap f hc he h1 h2=>exact .sl b o cap f hc trivial h1 h2
 |nil he=>exact .nil trivial
structure AS.Sub (s s':AS):Prop where
 tok:∀t a,look s'.T t=some a->∃b,look s.T t=some b/\Wk b a
 H:s.H=s'.H
def At.sub{E:Env}{V:View}{s s':AS}{a:Act}{nt:Nat}(h:At E V s a nt)(hl:s.Sub s'):At E V s' a nt:=
 ⟨by rw[<- hl.H];exact h.bB,λt x e=>by obtain⟨b,h1,h2⟩:=hl.tok t x e;exact⟨(h.tok t b h1).1,h2 _ _ (h.tok t b h1).2⟩,h.size⟩
def mB{lv:Bool}{P:Tl}{r:SL}{nt:Nat}{c:U_}{s s':AS}{Φ:SI}(hl:s.Sub s')(h:aS lv P r nt c s' Φ):aS lv P r nt c s Φ:=λE V a Q aj hQ=>h E V a Q (aj.sub hl) hQ
inductive Lt (n:Nat):AV->Prop
 |val (x:Uf):Lt n (.val x)
 |agg {l:List AV} (h:∀a∈l,Lt n a):Lt n (.agg l)
 |aL {l:List AV} (h:∀a∈l,Lt n a):Lt n (.aL l)
 |sl {m:Nat} {l:List AV} {e:End} (he:∀k,e=.opn k->k<n) (h:∀a∈l,Lt n a):Lt n (.sl m l e)
 |bC {id off m cap:Nat} (h:id<n):Lt n (.bC id off m cap)
 |rp {l:List AV} (h:∀a∈l,Lt n a):Lt n (.rp l)
 |op {id off:Nat} (h:id<n):Lt n (.op id off)
 |fn {f:Fn} {first cZ:List AV} (h1:∀a∈first,Lt n a) (h2:∀a∈cZ,Lt n a):Lt n (.fn f first cZ)
 |da {t:TypeId} {x:AV} (h:Lt n x):Lt n (.da t x)
 |mp {id:Nat} (h:id<n):Lt n (.mp id)
def qq{l:SC}{a:AV}(h:a∈l):∃i:Nat,l[i]?=some a:=VU.1 h
def au.lt{E:Env}{a:AV}{v:Uf}(d:au E a v):Lt E.n a:=by
 induction d with
 |val x=>exact .val x
 |agg hs _ ih=>exact .agg λa h=>(qq h).elim λi hi=>ih i a hi
 |aL hs _ ih=>exact .aL λa h=>(qq h).elim λi hi=>ih i a hi
 |sl b o cap f hc he h1 _ ih=>exact .sl (λk e=>by subst e;exact he.1) λa h=>(qq h).elim λi hi=>ih i a hi
 |nil he=>exact .sl (λk e=>by subst e;exact he.1) (by simp)
 |bC hi _=>exact .bC hi
 |rp b o f h1 _ ih=>exact .rp λa h=>(qq h).elim λi hi=>ih i a hi
 |op hi=>exact .op hi
 |fn ep ft _ _ nw lP=>exact .fn (λa h=>(qq h).elim λi hi=>nw i a hi) (λa h=>(qq h).elim λi hi=>lP i a hi)
 |da _ ih=>exact .da ih
 |mp hi=>exact .mp hi
def Lt.mono{n m:Nat}(h:n<=m){a:AV}(d:Lt n a):Lt m a:=by
 induction d with
 |val x=>exact .val x
 |agg _ ih=>exact .agg ih
 |aL _ ih=>exact .aL ih
 |sl he _ ih=>exact .sl (λk e=>Uk (he k e) h) ih
 |bC hi=>exact .bC (Uk hi h)
 |rp _ ih=>exact .rp ih
 |op hi=>exact .op (Uk hi h)
 |fn _ _ nw lP=>exact .fn nw lP
 |da _ ih=>exact .da ih
 |mp hi=>exact .mp (Uk hi h)
def qA.trim{E:Env}{e:End}{a:S9}{m cap n:Nat}(h:qA E e a m cap)(hk:∀k,e=.opn k->k<n):qA {E with n:=n} e a m cap:=by
 cases e with
 |exact=>exact h
 |shut=>trivial
 |opn k=>exact⟨hk k rfl,h.2⟩
def get_mem{l:SC}{i:Nat}{a:AV}(h:l[i]?=some a):a∈l:=VU.2 ⟨i,h⟩
def au.trim{E:Env}{a:AV}{v:Uf}(d:au E a v){n:Nat}(h:Lt n a):au {E with n:=n} a v:=by
 induction d with
 |val x=>exact .val x
 |agg hs _ ih=>cases h with|agg h=>exact .agg hs λi a e=>ih i a e (h a (get_mem e))
 |aL hs _ ih=>cases h with|aL h=>exact .aL hs λi a e=>ih i a e (h a (get_mem e))
 |sl b o cap f hc he h1 _ ih=>cases h with|sl hk h=>exact .sl b o cap f hc (he.trim hk) h1 λi a e=>ih i a e (h a (get_mem e))
 |nil he=>cases h with|sl hk h=>exact .nil (he.trim hk)
 |bC hi eo=>cases h with|bC h=>exact .bC (E:={E with n:=n}) h eo
 |rp b o f h1 _ ih=>cases h with|rp h=>exact .rp b o f h1 λi a e=>ih i a e (h a (get_mem e))
 |op hi=>cases h with|op h=>exact .op (E:={E with n:=n}) h
 |fn ep ft _ _ nw lP=>cases h with|fn h1 h2=>exact .fn ep ft (λi a e=>nw i a e (h1 a (get_mem e))) λi a e=>lP i a e (h2 a (get_mem e))
 |da _ ih=>cases h with|da h=>exact .da (ih h)
 |mp hi=>cases h with|mp h=>exact .mp (E:={E with n:=n}) h
def e9 (n:Nat):aa->Prop
 |.cells l _|.part _ l _|.own _ l _=>∀a∈l,Lt n a
 |.iter m _ _ _=>m<n
 |.loop _ _ _ _ T _ _ _ _ df=>(∀t a,look T t=some a->Lt n a)/\df<n
 |_=>True
def e9.mono{n m:Nat}(h:n<=m){x:aa}(k:e9 n x):e9 m x:=by
 cases x with
 |cells l el=>exactλa ha=>(k a ha).mono h
 |part p l el=>exactλa ha=>(k a ha).mono h
 |own p l el=>exactλa ha=>(k a ha).mono h
 |iter=>exact Uk k h
 |loop=>exact⟨λt a e=>(k.1 t a e).mono h,Uk k.2 h⟩
 |_=>trivial
def gw.olt{E:Env}{V:View}{k:Nat}{x:aa}(h:gw E V k x):e9 E.n x:=by
 cases x with
 |cells l el=>obtain⟨⟨cs,_,h2⟩,_⟩:=h;exactλa ha=>(qq ha).elim λi hi=>(h2.2 i a hi).lt
 |part p l el=>obtain⟨⟨cs,_,h2,_⟩,_⟩:=h;exactλa ha=>(qq ha).elim λi hi=>(h2.2 i a hi).lt
 |own p l el=>obtain⟨⟨cs,_,h2,_⟩,_⟩:=h;exactλa ha=>(qq ha).elim λi hi=>(h2.2 i a hi).lt
 |iter m a b c=>exact h.1
 |loop=>obtain⟨⟨tmps,_,_,h2⟩,h3,_⟩:=h;exact⟨λt a e=>(h2 t a e).2.lt,h3⟩
 |_=>trivial
def gw.trim{E:Env}{V:View}{k n:Nat}{x:aa}(h:gw E V k x)(hl:e9 n x):gw {E with n:=n} V k x:=by
 cases x with
 |cells l el=>obtain⟨⟨cs,h1,h2⟩,h3⟩:=h;exact⟨⟨cs,h1,h2.1,λi a e=>(h2.2 i a e).trim (hl a (get_mem e))⟩,h3⟩
 |part p l el=>obtain⟨⟨cs,h1,h2,h4⟩,h3⟩:=h;exact⟨⟨cs,h1,⟨h2.1,λi a e=>(h2.2 i a e).trim (hl a (get_mem e))⟩,h4⟩,h3⟩
 |own p l el=>obtain⟨⟨cs,h1,h2,h4⟩,h3⟩:=h;exact⟨⟨cs,h1,⟨h2.1,λi a e=>(h2.2 i a e).trim (hl a (get_mem e))⟩,h4⟩,h3⟩
 |iter m a b c=>exact⟨hl,h.2⟩
 |tail m sz el=>exact h
 |obj x=>exact h
 |loop=>obtain⟨⟨tmps,h1,h2,h3⟩,h4,h5⟩:=h;exact⟨⟨tmps,h1,h2,λt a e=>⟨(h3 t a e).1,(h3 t a e).2.trim (hl.1 t a e)⟩⟩,hl.2,h5⟩
 |gone=>trivial
 |main=>exact h
def bJ (H:SA):Prop:=∀x∈H,e9 H.length x
def Conc.aq{E:Env}{V:View}{H:SA}(h:Conc E V H):bJ H:=λx hx=>by
 obtain⟨i,hi⟩:=VU.1 hx;rw[<- h.n];exact(h.obj i x hi).olt
def GR(E:Env)(n k:Nat)(x:aa):bT {E with n:=n} k x=bT E k x:=by cases x<;>rfl
def Conc.trim{E:Env}{V:View}{H G:SA}(h:Conc E V (H++G))(hl:bJ H):Conc {E with n:=H.length} V H:=by
 have hg:∀(k:Nat) x,H[k]?=some x->(H++G)[k]?=some x:=λk x e=>by rw[T4 (Tq.1 e).1];exact e
 refine⟨h.I,rfl,λk x e=>(h.obj k x (hg k x e)).trim (hl x (T8 e)),λi j x y b h1 h2 h3 h4=> ?_,λg kG=> ?_,λg kG=> ?_,h.top,λb y kG=> ?_⟩
 ·rw[GR]at h3 h4;exact h.inj i j x y b (hg i x h1) (hg j y h2) h3 h4
 ·obtain⟨q0,q1,q2⟩:=h.group g kG;exact⟨q0,q1,λk x e=>by rw[GR];exact q2 k x (hg k x e)⟩
 ·obtain⟨q0,q1,q2⟩:=h.chan g kG;exact⟨q0,q1,λk x e=>by rw[GR];exact q2 k x (hg k x e)⟩
 ·obtain⟨q0,q1,q2⟩:=h.fr b y kG;exact⟨q0,q1,λk x e=>by rw[GR];exact q2 k x (hg k x e)⟩
structure AS.Kd (s s':AS):Prop where
 tok:∀t a,look s'.T t=some a->∃b,look s.T t=some b/\Wk b a/\Lt s'.H.length a
 H:∃G,s.H=s'.H++G
 ok:bJ s'.H
def F3{E:Env}{n m:Nat}(h1:m<=n)(h2:n<=E.n){E0:Env}(h:E0.Le E)(h0:E0.n=m):E0.Le {E with n:=n}:=⟨h.I,by show E0.n<=n;omega,h.blk,h.fZ,h.room,h.fr,h.main⟩
def At.cut{E:Env}{V:View}{s s':AS}{a:Act}{nt:Nat}(h:At E V s a nt)(hl:s.Kd s'):At {E with n:=s'.H.length} V s' a nt:=by
 obtain⟨G,hG⟩:=hl.H;have hc:=h.bB;rw[hG]at hc;refine⟨hc.trim hl.ok,λt x e=> ?_,h.size⟩;obtain⟨b,h1,h2,h3⟩:=hl.tok t x e;exact⟨(h.tok t b h1).1,(h2 _ _ (h.tok t b h1).2).trim h3⟩
def Ru{nt:Nat}{α:Type}{lt:α->α->Prop}(wf:WellFounded lt){c:U_}{Φ:SI}(inv:α->AS)(ok:α->Prop)(m:α)(h0:s.Sub (inv m))(hm:ok m)(hn:∀m,ok m->s.H.length<=(inv m).H.length)
  (h:∀m,ok m->aS lv P r nt c (inv m) (an.then (λs'=>∃m',lt m' m/\ok m'/\(s'.Sub (inv m')\/s'.Kd (inv m'))) Φ)):aS lv P r nt (.loop c) s Φ:=by
 intro E V a Q aj hQ;refine QJ wf (I:=λm a' V'=>ok m/\∃E',Kept E E' V V' a a'/\At E' V' (inv m) a' nt) m ⟨hm,E,Kept.refl E V a,aj.sub h0⟩ λm a' V' hI=> ?_;obtain⟨aq,E',hk,aX⟩:=hI;refine h m aq E' V' a' _ aX λae e bY aV cD dA aI dw he hΦ=> ?_;cases ae<;>cases e<;>first
  |exact he.elim
  |(obtain⟨m',h1,h2,h3⟩:=hΦ
    rcases h3 with h3|h3
    ·exact⟨m',h1,h2,bY,hk.trans aI,dw.sub h3⟩
    ·refine⟨m',h1,h2,_,?_,dw.cut h3⟩;have cp:=hk.trans aI;obtain⟨G,hG⟩:=h3.H;exact⟨F3 (hn m' h2) (by rw[dw.bB.n,hG];simp) cp.le aj.bB.n,cp.size,cp.defers,cp.role,cp.deaf⟩)
  |exact hQ _ _ bY aV cD dA (hk.trans aI) dw he hΦ
def ahY{nt:Nat}{c:U_}{Φ:SI}(inv:Nat->Nat->SV)
  (start:∃n:Nat,aS lv P r nt c s (λe s'=>match e with
   |.goto l=>∃rest,findLabel c l=some rest/\∃m,m<n/\inv l m s'
   |e=>Φ e s'))
  (back:∀l rest m s',findLabel c l=some rest->inv l m s'->aS lv P r nt rest s' (λe dA=>match e with
   |.goto l'=>∃Ab,findLabel c l'=some Ab/\∃m',m'<m/\inv l' m' dA
   |e=>Φ e dA)):aS lv P r nt (.scope c) s Φ:=by
 intro E V a Q aj hQ;refine af8 (λl m a' V'=>∃E' s',Kept E E' V V' a a'/\At E' V' s' a' nt/\inv l m s') ?_ ?_
 ·obtain⟨n,hn⟩:=start;refine⟨n,hn E V a _ aj λae e E' V' a' s' hk aX he hΦ=> ?_⟩;cases ae<;>cases e<;>first
   |exact he.elim
   |(have e:_=_:=he
     subst e;obtain⟨rest,h1,m,h2,h3⟩:=hΦ;exact⟨rest,h1,m,h2,E',s',hk,aX,h3⟩)
   |exact hQ _ _ E' V' a' s' hk aX he hΦ
 ·intro l rest m a' V' hf ⟨E',s',hk,aX,hi⟩;refine back l rest m s' hf hi E' V' a' _ aX λae e bY aV cD dA aI dw he hΦ=> ?_;cases ae<;>cases e<;>first
   |exact he.elim
   |(have e:_=_:=he
     subst e;obtain⟨Ab,h1,m',h2,h3⟩:=hΦ;exact⟨Ab,h1,m',h2,bY,dA,hk.trans aI,dw,h3⟩)
   |exact hQ _ _ bY aV cD dA (hk.trans aI) dw he hΦ
end
def bm:Nat->SC->List (Nat×AV)
 |_,[]=>[]
 |i,a::l=>(i,a)::bm (i+1) l
def OX:∀(l:SC)(i t:Nat)(a:AV),look (bm i l) t=some a->i<=t/\l[t-i]?=some a
 |[],_,_,_,h=>by cases h
 |b::l,i,t,a,h=>by
  simp only[bm,look]at h;split at h
  ·rename_i e;subst e;cases h;exact⟨Ts _,by simp⟩
  ·obtain⟨h1,h2⟩:=OX l (i+1) t a h;refine⟨by omega,?_⟩;have:t-i=(t-(i+1))+1:=(by omega);rw[this,VP];exact h2
def wA (P:Tl)(s:AS):ac'->Option AV
 |.tmp t=>look s.T t
 |.cell a t=>(look s.T a).bind λp=>(s.at p).bind λl=>(Ty P t).bind λx=>if x.2 then(if x.1<=l.length then some (.agg (l.take x.1))else none)else l[0]?
def iH (P:Tl)(s:AS):List ac'->Option (SC)
 |[]=>some []
 |x::l=>match wA P s x,iH P s l with
  |some a,some aJ=>some (a::aJ)
  |_,_=>none
def jq:SC->AV
 |[a]=>a
 |l=> .aL l
def asr{P:Tl}{E:Env}{V:View}{s:AS}{a:Act}{nt:Nat}(aj:At E V s a nt){x:ac'}{av:AV}(h:wA P s x=some av):
  ∃v,au E av v/\∀{K:SS}{Kp:SS},K v V->aU P V (match x with|.tmp t=>pure (a.tmps.getD t undef)|.cell b t=>do loadVar t (<- asAddr (a.tmps.getD b undef))) K Kp:=by
 cases x with
 |tmp t=>exact⟨_,(aj.tok t av h).2,λhK=>ay hK⟩
 |cell b t=>
  unfold wA at h;obtain⟨p,h1,h⟩:=Um.1 h;obtain⟨l,h2,h⟩:=Um.1 h;obtain⟨⟨n,g⟩,h3,h⟩:=Um.1 h;obtain⟨i,d,t1,t2,rfl,t4⟩:=Ty.out h3;obtain⟨bb,off,f,hv,hg,kG,hd⟩:=aj.bB.at (aj.tok b p h1).2 h2;dsimp only;rw[hv];cases g with
  |true=>
   simp only[if_true]at h;split at h
   ·rename_i hlen;cases h;refine⟨_,K7 hlen hd,λhK=> ?_⟩;refine aA ?_;unfold asAddr;refine ay ?_;unfold loadVar;refine FS t2 ?_;rw[t4];simp only[if_true];refine kq t1 ?_;exact aA (Cr (f:=f) (λh=>kG (by omega)) (λj hj=>hg j (by omega)) (ay hK))
   ·cases h
  |false=>
   simp only[UD,if_false]at h;have hlen:0<l.length:=(Tq.1 h).1;have l8:=hg 0 hlen;rw[VA]at l8;refine⟨_,hd 0 av h,λhK=> ?_⟩;refine aA ?_;unfold asAddr;refine ay ?_;unfold loadVar;refine FS t2 ?_;rw[t4];simp only[UD,if_false];exact P4 l8 (.inl (kG hlen)) (cN hK)
abbrev SW:=List ac'
def Js{P:Tl}{E:Env}{V:View}{s:AS}{a:Act}{nt:Nat}(aj:At E V s a nt):∀(rs:SW)(l:SC),iH P s rs=some l->∃vs:TE,vs.length=l.length/\(∀(i:Nat) x,l[i]?=some x->au E x (vs.getD i undef))/\
  ∀{K:List Uf->View->Prop}{Kp:SS},K vs V->aU P V (rs.mapM λx=>(match x with|.tmp t=>pure (a.tmps.getD t undef)|.cell b t=>do loadVar t (<- asAddr (a.tmps.getD b undef)):Sem Uf)) K Kp
 |[],l,h=>by
  cases h;refine⟨[],rfl,by simp,λhK=> ?_⟩;rw[VH];exact ay hK
 |x::rs,l,h=>by
  simp only[iH]at h;split at h
  ·rename_i av mA h1 h2;cases h;obtain⟨v,hv,hs⟩:=asr aj h1;obtain⟨vs,hl,mj,sM⟩:=Js aj rs mA h2;refine⟨v::vs,by simp[hl],λi x hx=> ?_,λhK=> ?_⟩
   ·cases i with
    |zero=>cases hx;simpa using hv
    |succ i=>simpa using mj i x (by simpa using hx)
   ·rw[Vb];exact aA (hs (aA (sM (ay hK))))
  ·cases h
attribute [seval] Int.natCast_pow Int.natCast_mul Int.natCast_shiftLeft Int.natCast_emod Int.ofNat_sub Int.natCast_shiftRight Int.natCast_add_one Int.natCast_add Int.cast_id Int.natCast_sub Int.natCast_ediv Int.natCast_succ
open Go.Conc
def cz (n0:Nat)(H:SA)(a:AV)(k:SF):Prop:=
 ∃b,Wk a b/\(k b H\/∃H' G,H=H'++G/\n0<=H'.length/\bJ H'/\Lt H'.length b/\k b H')
def tG (P:Tl)(rs:SW)(n0:Nat)(k kp:SF):an->AS->Prop
 |.normal,s|.ret,s=>ao (iH P s rs) λl=>cz n0 s.H (jq l) k
 |.panic pv,s=>cz n0 s.H pv kp
 |_,_=>False
def b8{n0:Nat}{H:SA}{a:AV}{k:SF}(h:k a H):cz n0 H a k:=⟨a,Wk.refl a,.inl h⟩
def jS{H H' G:SA}{a b:AV}{k:SF}{n0:Nat}(hw:Wk a b)(hH:H=H'++G)(hn:n0<=H'.length)(aq:bJ H')(hl:Lt H'.length b)(h:k b H'):cz n0 H a k:=⟨b,hw,.inr ⟨H',G,hH,hn,aq,hl,h⟩⟩
def yN{n0:Nat}{E0 E:Env}{V':View}{H:SA}{a:AV}{v:Uf}{k:SF}(h:cz n0 H a k)(hc:Conc E V' H)(hd:au E a v)(hle:E0.Le E)(hn:E0.n=n0):∃b E' H',E0.Le E'/\au E' b v/\Conc E' V' H'/\k b H':=by
 obtain⟨b,hw,h|⟨H',G,rfl,h1,h2,h3,h4⟩⟩:=h
 ·exact⟨b,E,H,hle,hw _ _ hd,hc,h⟩
 ·refine⟨b,{E with n:=H'.length},H',F3 h1 (by rw[hc.n];simp) hle hn,(hw _ _ hd).trim h3,hc.trim h2,h4⟩
def alv{lv:Bool}{P:Tl}{f:UW}{fn:ZD}{c:U_}{rs:SW}{nt:Nat}{H:SA}{args:SC}{k kp:SF}(hf:P.funcs[f]?=some fn)(hb:fn.body=some c)(hr:fn.results=rs.toArray)(hn:fn.ntmps=nt)(cS:args.length<=nt)
  (h:bJ H->(∀a∈args,Lt H.length a)->aS lv P none nt c ⟨bm 0 args,H⟩ (tG P rs H.length k kp)):ba lv P f H args k kp:=by
 intro E V vs hc hd;have aZ:(vs++UT (fn.ntmps-vs.size) undef).size=nt:=by simp[hd.1];omega
 have hlt:∀a∈args,Lt H.length a:=λa ha=>by
  obtain⟨i,hi⟩:=qq ha;rw[<- hc.n];exact(hd.2 i a hi).lt
 refine RP (by simp) hf hb (h hc.aq hlt E V _ _ ⟨hc,λq a e=> ?_,aZ⟩ λae e E' V' a' s' hk aj he hΦ=> ?_)
 ·obtain⟨_,e⟩:=OX args 0 q a e;simp only[aw']at e;have hq:q<args.length:=(Tq.1 e).1;have ut:q<vs.size:=by rw[hd.1];exact hq
  refine⟨by rw[aZ];omega,?_⟩;have:=hd.2 q a e;rw[Ti,Ze ut];rwa[Ti]at this
 ·have fin:(ao (iH P s' rs) λl=>cz H.length s'.H (jq l) k)->a'.defers=[]/\∃v,aU P V' (results fn a'.tmps) (λx aV=>x=v/\aV=V') (λ_ _=>False)/\iA E V k kp (.ret v) V':=by
   intro hΦ;obtain⟨l,h1,h2⟩:=hΦ.out;have gV:∃v,au E' (jq l) v/\aU P V' (results fn a'.tmps) (λx aV=>x=v/\aV=V') (λ_ _=>False):=by
    obtain⟨vs,hl,mj,zw⟩:=Js aj rs l h1;refine⟨if h:vs.length=1 then vs[0]else .tuple vs.toArray,?_,?_⟩
    ·match l,vs,hl,mj with
     |[x],[v],_,mj=>exact mj 0 x rfl
     |[],[],_,mj=>exact .aL rfl (by simp)
     |x::y::l,v::w::vs,hl,mj=>exact .aL (by simpa using hl) (λi z hz=>by simpa[Ti,Tf]using mj i z hz)
    ·unfold results;rw[hr,Y3];refine aA ?_;refine aA (zw ?_);refine ay (ay ⟨?_,rfl⟩);simp
   obtain⟨v,bx,rj⟩:=gV;obtain⟨b,bY,H',q1,q2,q3,q4⟩:=yN h2 aj.bB bx hk.le hc.n;exact⟨hk.defers,v,rj,b,bY,H',q1,hk.role,hk.deaf,q2,q3,q4⟩
  cases ae<;>cases e<;>first
   |exact he.elim
   |exact fin hΦ
   |(obtain⟨v,rfl,bx⟩:=he
     obtain⟨b,bY,H',q1,q2,q3,q4⟩:=yN hΦ aj.bB bx hk.le hc.n;exact⟨hk.defers,b,v,bY,H',rfl,q1,hk.role,hk.deaf,q2,q3,q4⟩)
   |exact hΦ.elim
open Go.Conc
def apO(k:Nat)(a:AV)(l:SH):look ((k,a)::l) k=some a:=by simp[look]
def apP(k t:Nat)(a:AV)(l:SH)(h:(k==t)=false):look ((k,a)::l) t=look l t:=by
 have:¬k=t:=by simpa using h
 simp[look,this]
def xY{α:Type}(a:α)(k:α->Prop):ao (some a) k=k a:=by rw[ao]
def ahz(b:Bool)(k:Bool->Prop):AV.asBool (.val (.bool b)) k=k b:=by rw[AV.asBool]
def ahB(j:U3)(n:Int)(k:U3->Int->Prop):AV.asInt (.val (.int j n)) k=k j n:=by rw[AV.asInt]
def ahI(l:SC)(k:SC->Prop):AV.yE (.aL l) k=k l:=by rw[AV.yE]
def ahx(l:SC)(k:SC->Prop):AV.asAgg (.agg l) k=k l:=by rw[AV.asAgg]
def ahD(i j:Nat)(k:Nat->S7):AV.qI (.op i j) k=k i j:=by rw[AV.qI]
def ahC(i:Nat)(k:S7):AV.tN (.mp i) k=k i:=by rw[AV.tN]
def ahG(n:Nat)(l:SC)(e:End)(k:TH):AV.wY (.sl n l e) k=k n l e:=by rw[AV.wY]
def agV(P:Tl)(xt:TypeId)(j:U3)(m n:Int)(k:SR):dH P .add xt (.val (.int j m)) (.val (.int j n)) k=k (.val (.int j (j.wrap (m+n)))):=by simp[dH,ny,mC,ao]
def ag9(P:Tl)(xt:TypeId)(j:U3)(m n:Int)(k:SR):dH P .sub xt (.val (.int j m)) (.val (.int j n)) k=k (.val (.int j (j.wrap (m-n)))):=by simp[dH,ny,mC,ao]
def ag4(P:Tl)(xt:TypeId)(j:U3)(m n:Int)(k:SR):dH P .mul xt (.val (.int j m)) (.val (.int j n)) k=k (.val (.int j (j.wrap (m* n)))):=by simp[dH,ny,mC,ao]
def agX(P:Tl)(xt:TypeId)(j:U3)(m n:Int)(k:SR):dH P .eql xt (.val (.int j m)) (.val (.int j n)) k=k (.val (.bool (m==n))):=by simp[dH,ny,mC,ao]
def Q8(P:Tl)(xt:TypeId)(j:U3)(m n:Int)(k:SR):dH P .neq xt (.val (.int j m)) (.val (.int j n)) k=k (.val (.bool (m !=n))):=by simp[dH,ny,mC,ao]
def ag3(P:Tl)(xt:TypeId)(j:U3)(m n:Int)(k:SR):dH P .lss xt (.val (.int j m)) (.val (.int j n)) k=k (.val (.bool (decide (m<n)))):=by simp[dH,ny,mC,ao]
def ag1(P:Tl)(xt:TypeId)(j:U3)(m n:Int)(k:SR):dH P .leq xt (.val (.int j m)) (.val (.int j n)) k=k (.val (.bool (decide (m<=n)))):=by simp[dH,ny,mC,ao]
def agZ(P:Tl)(xt:TypeId)(j:U3)(m n:Int)(k:SR):dH P .gtr xt (.val (.int j m)) (.val (.int j n)) k=k (.val (.bool (decide (m>n)))):=by simp[dH,ny,mC,ao]
def agY(P:Tl)(xt:TypeId)(j:U3)(m n:Int)(k:SR):dH P .geq xt (.val (.int j m)) (.val (.int j n)) k=k (.val (.bool (decide (m>=n)))):=by simp[dH,ny,mC,ao]
def agW(P:Tl)(xt:TypeId)(j:U3)(m n:Int)(k:SR):dH P .and xt (.val (.int j m)) (.val (.int j n)) k=k (.val (.int j (j.wrap (Vj j.bits m&&&Vj j.bits n).toNat))):=by simp[dH,ny,mC,ao]
def Db(P:Tl)(xt:TypeId)(j:U3)(m n:Int)(k:SR):dH P .or xt (.val (.int j m)) (.val (.int j n)) k=k (.val (.int j (j.wrap (Vj j.bits m|||Vj j.bits n).toNat))):=by simp[dH,ny,mC,ao]
def Dd(P:Tl)(xt:TypeId)(j:U3)(m n:Int)(k:SR):dH P .xor xt (.val (.int j m)) (.val (.int j n)) k=k (.val (.int j (j.wrap (Vj j.bits m^^^Vj j.bits n).toNat))):=by simp[dH,ny,mC,ao]
def ag7(P:Tl)(xt:TypeId)(j:U3)(m n:Int)(k:SR):dH P .rem xt (.val (.int j m)) (.val (.int j n)) k=ao (if n=0 then none else some (.int j (m.tmod n))) λv=>k (.val v):=by simp[dH,ny,mC]
def ag8(P:Tl)(xt:TypeId)(j j':U3)(m n:Int)(k:SR):dH P .shl xt (.val (.int j m)) (.val (.int j' n)) k=ao (if n<0 then none else some (.int j (j.wrap (m* 2^(min n.toNat j.bits))))) λv=>k (.val v):=by simp[dH,ny,Cv]
def Dc(P:Tl)(xt:TypeId)(j j':U3)(m n:Int)(k:SR):dH P .shr xt (.val (.int j m)) (.val (.int j' n)) k=ao (if n<0 then none else some (.int j (m.fdiv (2^(min n.toNat j.bits))))) λv=>k (.val v):=by simp[dH,ny,Cv]
def ajR(T:SH)(H:SA)(t:Nat):AS.ev ⟨T,H⟩ (.tmp t)=look T t:=by rw[AS.ev]
def ajI(s:AS)(b:Bool):s.ev (.const (.bool b))=some (.val (.bool b)):=by rw[AS.ev,AV.of]<;>(intros;simp_all)
def ajM(s:AS)(k:U3)(n:Int):s.ev (.const (.int k n))=some (.val (.int k n)):=by rw[AS.ev,AV.of]<;>(intros;simp_all)
def ajK(s:AS)(f:UW):s.ev (.func f)=some (.fn (.func f) [] []):=by rw[AS.ev]
def ajQ(s:AS):s.ev (.const (.slice none 0 0))=some (.sl 0 [] .exact):=by rw[AS.ev,AV.of]
def ajN(s:AS):s.ev (.const (.map none))=some (.val (.map none)):=by rw[AS.ev,AV.of]<;>(intros;simp_all)
def ajO(s:AS):s.ev (.const (.pointer none))=some (.val (.pointer none)):=by rw[AS.ev,AV.of]<;>(intros;simp_all)
def ajJ(s:AS):s.ev (.const .nilFunc)=some (.val .nilFunc):=by rw[AS.ev,AV.of]<;>(intros;simp_all)
def ajL(s:AS):s.ev (.const .nilIface)=some (.val .nilIface):=by rw[AS.ev,AV.of]<;>(intros;simp_all)
def ary(T:SH)(H:SA)(d:Nat)(a:AV):AS.put ⟨T,H⟩ (some d) a=⟨(d,a)::T,H⟩:=by rw[AS.put]
def arx(s:AS)(a:AV):AS.put s none a=s:=by rw[AS.put]
def auI(n:SV)(Φ:SI)(s:AS):an.then n Φ .normal s=n s:=by rw[an.then]
def auK(n:SV)(Φ:SI)(s:AS):an.then n Φ .ret s=Φ .ret s:=by rw[an.then];intro h;cases h
def auG(n:SV)(Φ:SI)(i:Nat)(s:AS):an.then n Φ (.exit i) s=Φ (.exit i) s:=by rw[an.then];intro h;cases h
def auH(n:SV)(Φ:SI)(i:Nat)(s:AS):an.then n Φ (.goto i) s=Φ (.goto i) s:=by rw[an.then];intro h;cases h
def auJ(n:SV)(Φ:SI)(a:AV)(s:AS):an.then n Φ (.panic a) s=Φ (.panic a) s:=by rw[an.then];intro h;cases h
def aiw(i:Nat)(Φ:SI)(s:AS):an.inBlock i Φ .normal s=Φ .normal s:=by rw[an.inBlock];intro h h';cases h'
def aiy(i:Nat)(Φ:SI)(s:AS):an.inBlock i Φ .ret s=Φ .ret s:=by rw[an.inBlock];intro h h';cases h'
def ait(i l:Nat)(Φ:SI)(s:AS):an.inBlock i Φ (.goto l) s=Φ (.goto l) s:=by rw[an.inBlock];intro h h';cases h'
def aix(i:Nat)(Φ:SI)(a:AV)(s:AS):an.inBlock i Φ (.panic a) s=Φ (.panic a) s:=by rw[an.inBlock];intro h h';cases h'
def aiu(i:Nat)(Φ:SI)(s:AS):an.inBlock i Φ (.exit i) s=Φ .normal s:=by rw[an.inBlock,if_pos rfl]
def aiv(i j:Nat)(Φ:SI)(s:AS)(h:(j==i)=false):an.inBlock i Φ (.exit j) s=Φ (.exit j) s:=by
 have:¬j=i:=by simpa using h
 rw[an.inBlock,if_neg this]
def alG(P:Tl)(rs:SW)(n:Nat)(k kp:SF)(s:AS):tG P rs n k kp .ret s=ao (iH P s rs) λl=>cz n s.H (jq l) k:=by rw[tG]
def alE(P:Tl)(rs:SW)(n:Nat)(k kp:SF)(s:AS):tG P rs n k kp .normal s=ao (iH P s rs) λl=>cz n s.H (jq l) k:=by rw[tG]
def alF(P:Tl)(rs:SW)(n:Nat)(k kp:SF)(a:AV)(s:AS):tG P rs n k kp (.panic a) s=cz n s.H a kp:=by rw[tG]
def ass(P:Tl)(T:SH)(H:SA)(t:Nat):wA P ⟨T,H⟩ (.tmp t)=look T t:=by rw[wA]
def ahO(s:AS)(l:SC):s.at (.rp l)=some l:=by rw[AS.at]
def atl(n i off:Nat):AV.shift n (.op i off)=some (.op i (off+n)):=by rw[AV.shift]
def aeW(n:Nat)(l:SC)(h:n<=l.length):AV.shift n (.rp l)=some (.rp (l.drop n)):=by rw[AV.shift,if_pos h]
def atm(l:SC):AV.shift 0 (.rp l)=some (.rp l):=by rw[AV.shift,if_pos (YX _),YA]
def atn(n:Nat)(a:AV)(l:SC):AV.shift (n+1) (.rp (a::l))=AV.shift n (.rp l):=by simp[AV.shift]
def asD(n:Nat)(l:SC)(e:End):AV.row (.sl n l e)=some (n,.rp l):=by rw[AV.row]
def asC(i off n cap:Nat):AV.row (.bC i off n cap)=some (n,.op i off):=by rw[AV.row]
def agF(P:Tl)(s:AS){t:TypeId}(n:Nat)(l:SC)(e:End)(k:SR)(h:lq P t=some .slice):tC P s t (.sl n l e) k=k (.val (.int .i64 n)):=by unfold tC;rw[h]
def agE(P:Tl)(s:AS){t:TypeId}(i off n cap:Nat)(k:SR)(h:lq P t=some .slice):tC P s t (.bC i off n cap) k=k (.val (.int .i64 n)):=by unfold tC;rw[h]
def agD(P:Tl)(T:SH)(H:SA){t:TypeId}(id:Nat)(k:SR){es:TC}{ck:Nat}(h:lq P t=some .map)(hH:H[id]?=some (.obj (.map es ck))):tC P ⟨T,H⟩ t (.mp id) k=k (.val (.int .i64 es.size)):=by
 unfold tC;rw[h];simp[hH]
def bh{a b:AV}:(∃c,some b=some c/\Wk c a)<->Wk b a:=⟨λ⟨_,h,k⟩=>by cases h;exact k,λh=>⟨_,rfl,h⟩⟩
abbrev iv (n:Int):AV:=.val (.int .i64 n)
abbrev bv (b:Bool):AV:=.val (.bool b)
open Go.Conc
def Rp{lv:Bool}{P:Tl}{r:SL}{s:AS}{nt:Nat}{c:Ur}{x y:U_}{Φ:SI}(h:ao (s.ev c) λa=>a.asBool λb=>(b=true->aS lv P r nt x s Φ)/\(b=false->aS lv P r nt y s Φ)):aS lv P r nt (.cond c x y) s Φ:=by
 obtain⟨a,h1,h2⟩:=h.out;obtain⟨b,rfl,h3,h4⟩:=Dg h2;exact ahP h1 h3 h4
def aac{α β:Type}{f:α->List β}{m:Nat}(hf:∀x,(f x).length=m):∀{xs:List α}{i:Nat}{x:α},xs[i]?=some x->(xs.flatMap f).drop (i* m)=f x++(xs.drop (i+1)).flatMap f
 |y::xs,0,x,h=>by cases h;simp
 |y::xs,i+1,x,h=>by
  have ih:=aac hf (xs:=xs) (i:=i) (x:=x) (by simpa using h);rw[UV,Wu,Nat.one_mul,axK (i* m) m,<- axL];have:(f y++xs.flatMap f).drop m=xs.flatMap f:=by rw[<- hf y];simp
  rw[this,ih];simp
 |[],i,x,h=>by simp at h
def zQ{α β:Type}{f:α->List β}{m:Nat}(hf:∀x,(f x).length=m)(xs:List α):(xs.flatMap f).length=xs.length* m:=by
 induction xs with
 |nil=>simp
 |cons x xs ih=>rw[UV,Tt,hf,ih,Ve,Wu];omega
def Qa{α:Type}{f:α->SC}{m:Nat}(hf:∀x,(f x).length=m){xs:List α}{i:Nat}{x:α}(h:xs[i]?=some x):AV.shift (i* m) (.rp (xs.flatMap f))=some (.rp (f x++(xs.drop (i+1)).flatMap f)):=by
 have hi:i<xs.length:=(Tq.1 h).1;rw[aeW _ _ (by rw[zQ hf];exact UI _ (by omega)),aac hf h]
def Qb{α:Type}{f:α->AV}{xs:List α}{i:Nat}{x:α}(h:xs[i]?=some x):AV.shift (i* 1) (.rp (xs.map f))=some (.rp (f x::(xs.drop (i+1)).map f)):=by
 have hi:i<xs.length:=(Tq.1 h).1;rw[YE,aeW _ _ (by simp;omega)];congr 2;rw[<- axB,UY hi,Wd];congr 2;rw[Tw hi]at h;exact WV h
def jx{i n:Nat}(h:i<n):(0<=(i:Int)/\(i:Int)<(n:Int))=True:=by simp;exact h
def e_{α:Type}{xs:List α}{i:Nat}{x:α}(h:xs[i]?=some x):i<xs.length:=(Tq.1 h).1
def bA{α:Type}{xs:List α}{i:Nat}(h:i<xs.length):∃x,xs[i]?=some x:=⟨_,Tw h⟩
def wV(H L:SA)(i:Nat):(H++L)[H.length+i]?=L[i]?:=by rw[Ud (by omega)];congr 1;omega
def ahq(H L:SA):(H++L)[H.length]?=L[0]?:=by have:=wV H L 0;simpa using this
def wW(H L:SA)(i:Nat)(x:aa):(H++L).set (H.length+i) x=H++L.set i x:=by
 rw[Va _ _ (by omega)];congr 2;omega
def ahu(H L:SA)(x:aa):(H++L).set H.length x=H++L.set 0 x:=by have:=wW H L 0 x;simpa using this
def ahp(H L M:SA):(H++L)++M=H++(L++M):=Te ..
def aht(H L:SA):(H++L).length=H.length+L.length:=Tt
def dj(n:Nat)(x:Uf):Lt n (.val x)=True:=by simp[Lt.val]
def ado(n i o:Nat):Lt n (.op i o)=(i<n):=propext ⟨λh=>by cases h with|op h=>exact h,.op⟩
def qp(n:Nat)(l:SC):Lt n (.agg l)=∀a∈l,Lt n a:=propext ⟨λh=>by cases h with|agg h=>exact h,.agg⟩
def iF(n:Nat)(l:SC):Lt n (.aL l)=∀a∈l,Lt n a:=propext ⟨λh=>by cases h with|aL h=>exact h,.aL⟩
def adn(n:Nat)(t:TypeId)(a:AV):Lt n (.da t a)=Lt n a:=propext ⟨λh=>by cases h with|da h=>exact h,.da⟩
def pq(n m:Nat)(l:SC):Lt n (.sl m l .shut)=∀a∈l,Lt n a:=propext ⟨λh=>by cases h with|sl _ h=>exact h,λh=> .sl (by simp) h⟩
def O1(n m:Nat)(l:SC):Lt n (.sl m l .exact)=∀a∈l,Lt n a:=propext ⟨λh=>by cases h with|sl _ h=>exact h,λh=> .sl (by simp) h⟩
def adp(n m k:Nat)(l:SC):Lt n (.sl m l (.opn k))=(k<n/\∀a∈l,Lt n a):=propext ⟨λh=>by cases h with|sl h' h=>exact⟨h' k rfl,h⟩,λh=> .sl (λk' e=>by cases e;exact h.1) h.2⟩
def zS(n:Nat)(l:SC):Lt n (.rp l)=∀a∈l,Lt n a:=propext ⟨λh=>by cases h with|rp h=>exact h,.rp⟩
open Go.Conc
def cX (o:Vo):SE:=o.after.toList.filterMap λe=>if Zq .any e then some e.on else none
inductive my (ops:Array Vo):List Nat->List Nat->Prop
 |nil (X:List Nat) (h:∀i,i<ops.size->i∈X):my ops X []
 |cons {X:List Nat} {i:Nat} {l:List Nat} (o:Vo) (ho:ops[i]?=some o) (hn:i∉X) (hd:∀j∈cX o,j∈X) (h:my ops (i::X) l):my ops X (i::l)
def I0{o:Vo}{j:Nat}:j∈cX o<->∃e∈o.after,Zq .any e=true/\e.on=j:=by
 unfold cX;rw[Xc];constructor
 ·rintro⟨e,he,h⟩
  split at h
  ·rename_i hb;cases h;exact⟨e,by simpa using he,hb,rfl⟩
  ·cases h
 ·rintro⟨e,he,hb,rfl⟩
  exact⟨e,by simpa using he,by rw[if_pos hb]⟩
def Sd{l:SE}{i:Nat}(hi:i∈l){p q:Nat->Bool}(kW:∀k,q k=true->p k=true)(hp:p i=true)(hq:q i=false):l.countP q<l.countP p:=by
 induction l with
 |nil=>cases hi
 |cons x l ih=>
  have hle:l.countP q<=l.countP p:=List.countP_mono_left λk _ h=>kW k h;rcases Tm.1 hi with rfl|hi
  ·rw[XT (by simp[hq]),Xa hp];omega
  ·have:=ih hi;by_cases hx:q x=true
   ·rw[Xa hx,Xa (kW x hx)];omega
   ·rw[XT hx];by_cases jY:p x=true
    ·rw[Xa jY];omega
    ·rw[XT jY];exact this
structure Q3 (ops:Array Vo)(L:Array Bool)(X:SE):Prop where
 size:L.size=ops.size
 mem:∀i,i<ops.size->(L[i]?=some true<->i∈X)
def adf{ops:SK}(iO:∀(i:Nat) o,ops[i]?=some o->∀j∈cX o,j<i):∀(fuel t:Nat)(L:Array Bool)(X:SE),Q3 ops L X->(T1 ops.size).countP (λi=> !X.contains i)<=fuel->my ops X (VJ .any ops fuel t L [])
 |0,t,L,X,hr,hc=>by
  simp only[VJ,Y0];refine .nil X λi hi=> ?_;have:(T1 ops.size).countP (λi=> !X.contains i)=0:=by omega
  have:=List.countP_eq_zero.1 this i (by simpa using hi);simpa using this
 |fuel+1,t,L,X,hr,hc=>by
  have vZ:∀i,i∈((T1 ops.size).filter λi=> !L.getD i true&&((ops[i]?).map (·.after.all λe=> !Region.binds .any e||L.getD e.on false)).getD false)<->∃o,ops[i]?=some o/\i∉X/\∀j∈cX o,j∈X:=by
   intro i;simp only[Vl,UN,Uh,U0];constructor
   ·rintro⟨hi,h1,h2⟩
    have ho:=Tn hi;refine⟨ops[i],ho,λhx=> ?_,λj hj=> ?_⟩
    ·have:=(hr.mem i hi).2 hx;rw[Ti,this]at h1;cases h1
    ·obtain⟨e,he,hb,rfl⟩:=I0.1 hj;rw[ho]at h2;simp only[VS,Ua,VM]at h2;have:=h2 e he;rw[hb]at this;simp only[af',Y_]at this;have hlt:e.on<ops.size:=Xr (iO i _ ho _ hj) hi;refine(hr.mem _ hlt).1 ?_;rw[Ti]at this;cases hx:L[e.on]?with
     |none=>rw[hx]at this;cases this
     |some b=>rw[hx]at this;cases b;cases this;rfl
   ·rintro⟨o,ho,h1,h2⟩
    have hi:i<ops.size:=(T5.1 ho).1;refine⟨hi,?_,?_⟩
    ·rw[Ti,Tn (by rw[hr.size];exact hi)];simp only[Ua];cases hb:L[i]'(by rw[hr.size];exact hi)with
     |false=>rfl
     |true=>exact absurd ((hr.mem i hi).1 (by rw[Tn (by rw[hr.size];exact hi),hb])) h1
    ·rw[ho];simp only[VS,Ua,VM];intro e he;cases hb:Zq .any e with
     |false=>rfl
     |true=>
      have hj:=I0.2 ⟨e,he,hb,rfl⟩;have hlt:e.on<ops.size:=Xr (iO i _ ho _ hj) hi;have:=(hr.mem _ hlt).2 (h2 _ hj);simp[Ti,this]
  simp only[VJ];generalize EL:((T1 ops.size).filter λi=> !L.getD i true&&((ops[i]?).map (·.after.all λe=> !Region.binds .any e||L.getD e.on false)).getD false)=rs at vZ;cases hi:rs[t % rs.length]?with
  |none=>
   have Nw:rs=[]:=by
    cases rs with
    |nil=>rfl
    |cons x xs=>
     have hlt:t % (x::xs).length<(x::xs).length:=ax3 _ (by simp);rw[List.getElem?_eq_none_iff]at hi;omega
   simp only[Y0];refine .nil X λi=> ?_;induction i using Zn with
   |_ i ih=>
    intro hlt;apply Uz;intro hx;have:i∈rs:=(vZ i).2 ⟨ops[i],Tn hlt,hx,λj hj=>ih j (iO i _ (Tn hlt) j hj) (Xr (iO i _ (Tn hlt) j hj) hlt)⟩;rw[Nw]at this;cases this
  |some i=>
   simp only[];obtain⟨o,ho,h1,h2⟩:=(vZ i).1 (T8 hi);have hlt:i<ops.size:=(T5.1 ho).1;rw[linearise_go_acc,List.reverse_singleton,Z4];refine .cons o ho h1 h2 (adf iO fuel _ _ (i::X) ⟨by simp[hr.size],λk hk=> ?_⟩ ?_)
   ·by_cases sC:k=i
    ·subst sC;simp[Ug (by rw[hr.size];exact hlt)]
    ·rw[T6 (Ne.symm sC),hr.mem k hk];simp[sC]
   ·have gk:i∈(T1 ops.size):=(by simpa using hlt);have:(T1 ops.size).countP (λk=> !(i::X).contains k)<(T1 ops.size).countP (λk=> !X.contains k):=by
     exact Sd gk (λk hk=>by simp only[U0,Vw,decide_eq_false_iff_not]at hk⊢;exactλh=>hk (Uj _ h)) (by simpa using h1) (by simp)
    omega
end Go.Gg
