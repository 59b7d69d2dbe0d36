/- A part of the proof. -/
import Derived.Test.YtckionbibpmloaaGreatDoorTicketCountsCard0
import Derived.Orders
set_option linter.all false
set_option maxRecDepth 4000
set_option maxHeartbeats 4000000
open Array renaming all_eq_true_iff_forall_mem->VG,eq_empty_of_size_eq_zero->Xw,ext'->Wz,getD_eq_getD_getElem?->Th,getElem?_append_left->XJ,getElem?_append_right->Zj,getElem?_eq_getElem->Tj,getElem?_eq_some_iff->Tw,getElem?_map->XI,getElem?_setIfInBounds_ne->Tx,getElem?_setIfInBounds_self_of_lt->Ud,getElem_mem->XZ,isEmpty_iff->aj',mem_append->Vu,mem_iff_getElem?->ZP,mem_of_getElem?->Z8,range->XS,replicate->US,size_append->YR,toList_map->W1
open BitVec renaming ofInt->Va
open Bool renaming and_eq_true->Ui,false_eq_true->UH,false_or->ar_,not_eq_true'->UV,not_false->W5,not_true->Xn,or_eq_true->XP
open Classical renaming byContradiction->Uv
open Function renaming comp_def->ZI
open Go renaming Addr->Wy,BinOp->Xl,Call->Yv,Code->U5,Field->aw7,Func->aw5,FuncId->UR,IntKind->UZ,LoopState->axj,Oper->Vp,Operand->Up,Program->Tl,ResultVar->af_,TypeInfo->X8,Value->T9
open Go.Act renaming put->Zg
open Go.BinOp renaming eql->ZH,neq->Xh
open Go.Builtin renaming append_->WJ,copy_->aym,delete_->ayl,firstCells->WE,growBy->ao',lenOf->ayk,len_->YC,nextslicecap->Ye,zeroCells->YB
open Go.Call renaming operands->Xy
open Go.Deferred renaming ofValue->VU
open Go.Frame renaming round->Zf
open Go.Instr renaming checkKey->Wq,fill->axk,findKey->Xa,index->axb,indexAt->awU,loadAt->X_,mapUpdate->aq_,sameBits->XH,slice->axa,sliceAt->Zv,sliceBound->am',sliceBounds->ah_,storeAt->Zu,sureAddr->Wh,typeAssert->am_
open Go.IntKind renaming bits->ax9,i64->Tg,signed->ax8,wrap->Ze
open Go.Made renaming depth->ZN
open Go.Next renaming value->Yf
open Go.Op renaming equal->XW,equalIn->WI,intDiv->axZ,operands->Uz,shift->ax7
open Go.Operand renaming tmp->ax6
open Go.Question renaming cut->axM
open Go.Region renaming binds->ZB,linearise->ag2,schedule->W6,wanted->Uo
open Go.Region.linearise renaming go->VC
open Go.Value renaming bool->Yp,cells->Y8,slice->UP,tuple->ZT
open Go.World renaming cell?->VA
open Int renaming toNat_natCast->WO
open List renaming all_eq_true->Uq,any_cons->Z3,any_eq_true->VP,append_assoc->Ev,append_nil->Ts,cons_append->WX,contains_eq_mem->Vq,countP_cons_of_neg->X5,countP_cons_of_pos->Xf,countP_le_length->aa3,drop_drop->axL,drop_eq_getElem_cons->UL,drop_eq_nil_of_le->UX,drop_zero->Wx,ext_getElem?->Yd,extract_eq_take_drop->ZF,flatMap_cons->UT,foldl_cons->Wd,getD_cons_zero->YE,getD_eq_getElem?_getD->Tf,getElem?_append_left->T6,getElem?_append_right->Uc,getElem?_cons_succ->VL,getElem?_cons_zero->WF,getElem?_drop->Vo,getElem?_eq_getElem->T4,getElem?_eq_none->VI,getElem?_eq_some_iff->Tn,getElem?_map->Ur,getElem?_range->awZ,getElem?_set_ne->Vd,getElem?_set_self->Ym,getElem?_take->Vh,getElem?_toArray->Ws,getElem_mem->W_,length_append->Tp,length_cons->U4,length_drop->Vm,length_nil->Vz,length_set->UK,length_singleton->Uw,length_take->Vl,mapM_cons->U6,mapM_nil->VB,mapM_toArray->Zc,map_congr_left->WR,map_cons->VN,map_drop->ZL,map_nil->Zk,mem_append->T1,mem_cons->Tm,mem_cons_of_mem->Ue,mem_cons_self->UC,mem_filter->Vx,mem_filterMap->WM,mem_flatMap->T8,mem_iff_getElem?->VQ,mem_map->Uh,mem_of_getElem?->Un,mem_of_mem_take->YN,mem_or_eq_of_mem_set->VD,mem_range->UB,mem_toArray->UN,nil_append->Vv,range->Tt,range'->U8,range'_succ->WL,range_eq_range'->Wj,reverse_nil->Y_,set_append_right->Vg,set_set->Yk,singleton_append->Z',take_append_drop->W2,take_length->Ux,take_take->VF,take_zero->axK
open Nat renaming add_assoc->VY,add_comm->axJ,add_mul->Wi,add_zero->Vr,le_of_eq->Yx,le_refl->Tv,le_succ->Z_,le_trans->UJ,lt_of_lt_of_le->Ug,lt_trans->Xx,lt_trichotomy->YT,min_le_left->av_,mul_le_mul->axp,mul_le_mul_right->U2,mul_one->Zo,ne_of_lt->XN,strongRecOn->Zy,sub_self->WV,sub_zero->aw',zero_add->WK,zero_le->YS,zero_mul->Y9
open Option renaming bind_eq_bind->UW,bind_eq_some_iff->Uj,getD_none->WA,getD_some->T_,map_eq_some_iff->Uu,map_some->VT,pure_def->Vk
open Option.some renaming inj->V_,injEq->Ul
namespace Go.Gg
open Go.Conc
inductive End where
 |exact
 |shut
 |opn (k:Nat)
 deriving DecidableEq
inductive AV where
 |val (x:T9)
 |agg (l:List AV)
 |aJ (l:List AV)
 |sl (n:Nat) (l:List AV) (e:End)
 |bB (id off n cap:Nat)
 |rp (l:List AV)
 |op (id off:Nat)
 |fn (f:Fn) (first c9:List AV)
 |bY (t:TypeId) (x:AV)
 |mp (id:Nat)
abbrev SC:=List AV
structure Env where
 I:cC
 n:Nat
 blk:Nat->Nat
 room:Nat->Nat->Option Wy×Nat
 gn:Nat->Nat
 fr:Nat->Option Obj
 main:Bool
structure Env.Le (E E':Env):Prop where
 I:∀b o v,E.I b o=some v->E'.I b o=some v
 n:E.n<=E'.n
 blk:∀k,k<E.n->E'.blk k=E.blk k
 gn:∀k,k<E.n->E.gn k<=E'.gn k
 room:∀k v,k<E.n->v<=E.gn k->E'.room k v=E.room k v
 fr:E'.fr=E.fr
 main:E'.main=E.main
def Env.Le.refl(E:Env):E.Le E:=⟨λ_ _ _ h=>h,Tv _,λ_ _=>rfl,λ_ _=>Tv _,λ_ _ _ _=>rfl,rfl,rfl⟩
def Env.Le.trans{E E' bZ:Env}(h:E.Le E')(k:E'.Le bZ):E.Le bZ:=
 ⟨λb o v e=>k.I b o v (h.I b o v e),UJ h.n k.n,λi hi=>(k.blk i (Ug hi h.n)).trans (h.blk i hi),λi hi=>UJ (h.gn i hi) (k.gn i (Ug hi h.n)),
  λi v hi hv=>(k.room i v (Ug hi h.n) (UJ hv (h.gn i hi))).trans (h.room i v hi hv),k.fr.trans h.fr,k.main.trans h.main⟩
abbrev TA:=Option Wy
def qP (E:Env)(e:End)(a:TA)(n cap:Nat):Prop:=match e with
 |.exact=>cap=n
 |.shut=>True
 |.opn k=>k<E.n/\n<=E.gn k/\E.room k n=(a,cap)
inductive ay (E:Env):AV->T9->Prop
 |val (x:T9):ay E (.val x) x
 |agg {l:List AV} {cs:Array T9} (hs:cs.size=l.length) (h:∀(i:Nat) a,l[i]?=some a->ay E a (cs.getD i undef)):ay E (.agg l) (.agg cs)
 |aJ {l:List AV} {cs:Array T9} (hs:cs.size=l.length) (h:∀(i:Nat) a,l[i]?=some a->ay E a (cs.getD i undef)):ay E (.aJ l) (.tuple cs)
 |sl {n:Nat} {l:List AV} {e:End} (b o cap:Nat) (f:Nat->T9) (hc:n<=cap) (he:qP E e (some ⟨b,o,none⟩) n cap)
   (h1:∀i,i<l.length->E.I b (o+i)=some (f i)) (h2:∀(i:Nat) x,l[i]?=some x->ay E x (f i)):ay E (.sl n l e) (.slice (some ⟨b,o,none⟩) n cap)
 |nil {e:End} {a:Option Wy} (he:qP E e a 0 0):ay E (.sl 0 [] e) (.slice a 0 0)
 |bB {id off n cap cap':Nat} (hi:id<E.n) (dT:n<=cap'/\(n<=cap->cap=cap')/\(cap<n->cap'<=(E.room id 0).2)):ay E (.bB id off n cap) (.slice (some ⟨E.blk id,off,none⟩) n cap')
 |rp {l:SC} (b o:Nat) (f:Nat->T9) (h1:∀i,i<l.length->E.I b (o+i)=some (f i)) (h2:∀(i:Nat) x,l[i]?=some x->ay E x (f i)):ay E (.rp l) (.pointer (some ⟨b,o,none⟩))
 |op {id off:Nat} (hi:id<E.n):ay E (.op id off) (.pointer (some ⟨E.blk id,off,none⟩))
 |fn {f:Fn} {first c9:SC} {fa ca:Array T9} (da:fa.size=first.length) (eJ:ca.size=c9.length) (h1:∀(i:Nat) a,first[i]?=some a->ay E a (fa.getD i undef)) (h2:∀(i:Nat) a,c9[i]?=some a->ay E a (ca.getD i undef)):ay E (.fn f first c9) (.func f fa ca)
 |bY {t:TypeId} {x:AV} {v:T9} (h:ay E x v):ay E (.bY t x) (.iface t v)
 |mp {id:Nat} (hi:id<E.n):ay E (.mp id) (.map (some (E.blk id)))
def qP.mono{E E':Env}(h:E.Le E'){e:End}{a:TA}{n cap:Nat}(k:qP E e a n cap):qP E' e a n cap:=by
 cases e with
 |exact=>exact k
 |shut=>trivial
 |opn i=>exact⟨Ug k.1 h.n,UJ k.2.1 (h.gn i k.1),by rw[h.room i n k.1 k.2.1];exact k.2.2⟩
def ay.mono{E E':Env}(h:E.Le E'){a:AV}{v:T9}(d:ay E a v):ay E' a v:=by
 induction d with
 |val x=>exact .val x
 |agg hs _ ih=>exact .agg hs ih
 |aJ hs _ ih=>exact .aJ hs ih
 |sl b o cap f hc he h1 _ ih=>exact .sl b o cap f hc (he.mono h) (λi hi=>h.I _ _ _ (h1 i hi)) ih
 |nil he=>exact .nil (he.mono h)
 |bB hi dT=>rw[<- h.blk _ hi];exact .bB (Ug hi h.n) ⟨dT.1,dT.2.1,λe=>by rw[h.room _ 0 hi (YS _)];exact dT.2.2 e⟩
 |rp b o f h1 _ ih=>exact .rp b o f (λi hi=>h.I _ _ _ (h1 i hi)) ih
 |op hi=>rw[<- h.blk _ hi];exact .op (Ug hi h.n)
 |fn da eJ _ _ nI lQ=>exact .fn da eJ nI lQ
 |bY _ ih=>exact .bY ih
 |mp hi=>rw[<- h.blk _ hi];exact .mp (Ug hi h.n)
def AV.leaf:AV->Bool
 |.agg _|.aJ _=>false
 |.val x=>x.one
 |_=>true
inductive aa where
 |cells (l:List AV) (elem:TypeId)
 |part (p:Nat) (l:List AV) (elem:TypeId)
 |own (sz:Nat) (l:List AV) (elem:TypeId)
 |tail (n sz:Nat) (elem:TypeId)
 |obj (x:Obj)
 |iter (m since:Nat) (seen:Array Nat) (uN:Nat)
 |loop (r:Nat) (st:axj) (pend:Option U5) (fn:UR) (T:List (Nat×AV)) (nt:Nat) (ps:Array Tmp) (bS body:U5) (df:Nat)
 |gone
 |main
abbrev SF:=AV->List aa->Prop
abbrev SA:=List aa
def look:List (Nat×AV)->Nat->Option AV
 |[],_=>none
 |(k,a)::l,t=>if k=t then some a else look l t
abbrev SH:=List (Nat×AV)
def cu (E:Env)(T:SH)(tmps:SG):Prop:=∀t a,look T t=some a->t<tmps.size/\ay E a (tmps.getD t undef)
def cu.mono{E E':Env}(h:E.Le E'){T:SH}{tmps:SG}(k:cu E T tmps):cu E' T tmps:=λt a e=>⟨(k t a e).1,(k t a e).2.mono h⟩
def cu.put{E:Env}{T:SH}{tmps:SG}(k:cu E T tmps){d:Nat}(hd:d<tmps.size){a:AV}{v:T9}(hv:ay E a v):cu E ((d,a)::T) (tmps.setIfInBounds d v):=by intro t x e;simp only[look]at e;by_cases h:d=t;subst h;rw[if_pos rfl]at e;cases e;exact⟨by simpa using hd,by simpa[Th,Ud hd]using hv⟩;rw[if_neg h]at e;have:=k t x e;exact⟨by simpa using this.1,by simpa[Th,Tx h]using this.2⟩
def bR (E:Env)(l:SC)(cs:SG):Prop:=cs.size=l.length/\∀(i:Nat) a,l[i]?=some a->ay E a (cs.getD i undef)
def bR.mono{E E':Env}(h:E.Le E'){l:SC}{cs:SG}(d:bR E l cs):bR E' l cs:=⟨d.1,λi a e=>(d.2 i a e).mono h⟩
def ky (E:Env)(l:SC)(cs:SG):Prop:=l.length<=cs.size/\∀(i:Nat) a,l[i]?=some a->ay E a (cs.getD i undef)
def ky.mono{E E':Env}(h:E.Le E'){l:SC}{cs:SG}(d:ky E l cs):ky E' l cs:=⟨d.1,λi a e=>(d.2 i a e).mono h⟩
def bR.p{E:Env}{l:SC}{cs:SG}(d:bR E l cs):ky E l cs:=⟨Yx d.1.symm,d.2⟩
def bP (E:Env)(k:Nat):aa->Option Nat
 |.tail n _ _=>if(E.room k n).2=n then none else(E.room k n).1.map (·.block)
 |.gone|.main=>none
 |_=>some (E.blk k)
def DE:List (Nat×T9):=[(0,.iface 209 (.agg #[.pointer (some ⟨1,92,none⟩)]))]
def Av (I:cC):Prop:=∀g v,DE.lookup g=some v->I g 0=some v
def Av.mono{I I':cC}(h:Av I)(k:∀b o v,I b o=some v->I' b o=some v):Av I':=λg v e=>k _ _ _ (h g v e)
def gG (E:Env)(V:View)(k:Nat):aa->Prop
 |.cells l elem=>(∃cs,V.own (E.blk k)=some (.cells cs elem (0,0))/\bR E l cs)/\∀o,V.ah (E.blk k) o=none
 |.part p l elem=>(∃cs,V.own (E.blk k)=some (.cells cs elem (0,0))/\ky E l cs/\∀o,o<p->V.ah (E.blk k) o=cs[o]?)/\∀o,p<=o->V.ah (E.blk k) o=none
 |.own sz l elem=>(∃cs,V.own (E.blk k)=some (.cells cs elem (0,0))/\ky E l cs/\cs.size=(E.room k 0).2* sz)/\∀o,V.ah (E.blk k) o=none
 |.tail n sz elem=>E.gn k=n/\((E.room k n).2=n\/∃b cap cs,E.room k n=(some ⟨b,0,none⟩,cap)/\V.own b=some (.cells cs elem (0,0))/\cs.size=cap* sz/\n<cap/\∀o,n* sz<=o->V.ah b o=none)
 |.obj x=>V.own (E.blk k)=some x/\x.v5=false/\x.isChan=false/\∀o,V.ah (E.blk k) o=none
 |.iter m since seen uN=>m<E.n/\V.own (E.blk k)=some (.mapIter (some (E.blk m)) since seen uN)/\∀o,V.ah (E.blk k) o=none
 |.loop r st pend fn T nt ps bS body df=>(∃tmps,V.own (E.blk k)=some (.loop {state:=st,pending:=pend,fn,tmps,params:=ps,assign:=bS,body,defers:=E.blk df})/\tmps.size=nt/\cu E T tmps)/\df<E.n/\(∀o,V.ah (E.blk k) o=none)/\E.blk k=r
 |.gone=>True
 |.main=>E.main=true/\Av E.I
structure Conc (E:Env)(V:View)(H:SA):Prop where
 I:E.I=V.ah
 n:E.n=H.length
 obj:∀k x,H[k]?=some x->gG E V k x
 inj:∀i j x y b,H[i]?=some x->H[j]?=some y->bP E i x=some b->bP E j y=some b->i=j
 group:∀g,V.role.group=some g->V.own g≠none/\(∀o,V.ah g o=none)/\∀(k:Nat) x,H[k]?=some x->bP E k x≠some g
 chan:∀c,V.role.chan=some c->V.own c≠none/\(∀o,V.ah c o=none)/\∀(k:Nat) x,H[k]?=some x->bP E k x≠some c
 top:E.main=true->V.role=.plain/\V.deaf=0
 fr:∀b y,E.fr b=some y->V.own b=some y/\(∀o,V.ah b o=none)/\∀(k:Nat) x,H[k]?=some x->bP E k x≠some b
structure AS where
 T:List (Nat×AV)
 H:SA
def AS.Le (s s':AS):Prop:=(∀t a,look s'.T t=some a->look s.T t=some a)/\s'.H=s.H
def AV.of:T9->AV
 |.agg cs=> .agg (cs.toList.map λ|.slice none 0 0=> .sl 0 [] .exact|v=> .val v)
 |.slice none 0 0=> .sl 0 [] .exact
 |v=> .val v
def AV.qG:T9->AV
 |.slice none 0 0=> .sl 0 [] .exact
 |v=> .val v
def KE(E:Env)(v:T9):ay E (AV.qG v) v:=by unfold AV.qG;split;exact .nil rfl;exact .val _
def tS(E:Env)(v:T9):ay E (AV.of v) v:=by
 unfold AV.of;split
 ·rename_i cs;refine .agg (by simp) λi a h=> ?_;rw[Ur]at h;obtain⟨x,hx,rfl⟩:=Uu.1 h;have:cs[i]?=some x:=by simpa using hx
  rw[Th,this];exact KE E x
 ·exact .nil rfl
 ·exact .val _
def AS.ev (s:AS):Up->Option AV
 |.tmp t=>look s.T t
 |.const v=>some (AV.of v)
 |.func f=>some (.fn (.func f) [] [])
 |.global _=>none
def ay.ev{E:Env}{s:AS}{a:Act}(k:cu E s.T a.tmps){x:Up}{av:AV}(h:s.ev x=some av):ay E av (a.eval x):=by
 cases x with
 |tmp t=>exact(k t av h).2
 |const v=>cases h;exact tS E v
 |func f=>cases h;exact .fn rfl rfl (by simp) (by simp)
 |global g=>cases h
def gG.De{E:Env}{V:View}{k:Nat}{x:aa}(h:gG E V k x){b:Nat}(hb:bP E k x=some b):∃y,V.own b=some y:=by
 cases x with
 |cells l el=>cases hb;obtain⟨⟨cs,h1,_⟩,_⟩:=h;exact⟨_,h1⟩
 |part p l el=>cases hb;obtain⟨⟨cs,h1,_⟩,_⟩:=h;exact⟨_,h1⟩
 |own p l el=>cases hb;obtain⟨⟨cs,h1,_⟩,_⟩:=h;exact⟨_,h1⟩
 |tail n sz el=>obtain⟨hv,h|⟨b',cap,cs,h1,h2,h3,h4,h5⟩⟩:=h;simp only[bP,h,if_true]at hb;cases hb;simp only[bP,h1]at hb;rw[if_neg (by omega)]at hb;cases hb;exact⟨_,h2⟩
 |obj x=>cases hb;exact⟨_,h.1⟩
 |iter m since seen uN=>cases hb;exact⟨_,h.2.1⟩
 |loop=>cases hb;obtain⟨⟨tmps,h1,_⟩,_⟩:=h;exact⟨_,h1⟩
 |gone=>cases hb
 |main=>cases hb
def QY{E E':Env}(hl:E.Le E'){k:Nat}(hk:k<E.n){x:aa}{V:View}(h:gG E V k x):bP E' k x=bP E k x:=by
 cases x with
 |tail n sz el=>simp only[bP];rw[hl.room k n hk (Yx h.1.symm)]
 |gone=>rfl
 |main=>rfl
 |_=>simp only[bP,hl.blk k hk]
def gG.mono{E E':Env}{V V':View}{k:Nat}{x:aa}(h:gG E V k x)(hl:E.Le E')(hk:k<E.n)(BN:E'.gn k=E.gn k)
  (ho:∀b y,bP E k x=some b->V.own b=some y->V'.own b=some y) (hi:∀b,bP E k x=some b->∀o,V'.ah b o=V.ah b o):gG E' V' k x:=by
 cases x with
 |cells l el=>obtain⟨⟨cs,h1,h2⟩,h3⟩:=h;simp only[gG,hl.blk k hk];exact⟨⟨cs,ho _ _ rfl h1,h2.mono hl⟩,λo=>(hi _ rfl o).trans (h3 o)⟩
 |part p l el=>obtain⟨⟨cs,h1,h2,h4⟩,h3⟩:=h;simp only[gG,hl.blk k hk];exact⟨⟨cs,ho _ _ rfl h1,h2.mono hl,λo hp=>(hi _ rfl o).trans (h4 o hp)⟩,λo hp=>(hi _ rfl o).trans (h3 o hp)⟩
 |own sz l el=>obtain⟨⟨cs,h1,h2,h4⟩,h3⟩:=h;simp only[gG,hl.blk k hk,hl.room k 0 hk (YS _)];exact⟨⟨cs,ho _ _ rfl h1,h2.mono hl,h4⟩,λo=>(hi _ rfl o).trans (h3 o)⟩
 |tail n sz el=>obtain⟨hv,h⟩:=h;simp only[gG,BN,hl.room k n hk (Yx hv.symm)];refine⟨hv,?_⟩;rcases h with h|⟨b',cap,cs,h1,h2,h3,h4,h5⟩;exact .inl h;have hb:bP E k (.tail n sz el)=some b':=(by simp only[bP,h1];rw[if_neg (by omega)];rfl);exact .inr ⟨b',cap,cs,h1,ho _ _ hb h2,h3,h4,λo hm=>(hi _ hb o).trans (h5 o hm)⟩
 |obj x=>obtain⟨h1,h2,h4,h3⟩:=h;simp only[gG,hl.blk k hk];exact⟨ho _ _ rfl h1,h2,h4,λo=>(hi _ rfl o).trans (h3 o)⟩
 |iter m since seen uN=>obtain⟨h0,h1,h2⟩:=h;simp only[gG,hl.blk k hk,hl.blk m h0];exact⟨Ug h0 hl.n,ho _ _ rfl h1,λo=>(hi _ rfl o).trans (h2 o)⟩
 |loop r st pend fn T nt ps bS body df=>obtain⟨⟨tmps,h1,h2,h3⟩,h4,h5,h6⟩:=h;simp only[gG,hl.blk k hk,hl.blk df h4];exact⟨⟨tmps,ho _ _ rfl h1,h2,h3.mono hl⟩,Ug h4 hl.n,λo=>(hi _ rfl o).trans (h5 o),h6⟩
 |gone=>trivial
 |main=>exact⟨hl.main.trans h.1,h.2.mono hl.I⟩
def Conc.ja{E E':Env}{V V':View}{H H':SA}(hc:Conc E V H)(k:Nat)(x':aa)(hle:E.Le E')(hI:E'.I=V'.ah)(hn:E'.n=H'.length)
  (hH:∀(j:Nat) y,H'[j]?=some y->(j=k/\y=x')\/(j≠k/\H[j]?=some y)) (hr:V'.role=V.role)
  (BN:∀j,j≠k->j<E.n->E'.gn j=E.gn j)
  (ho:∀b y,(∀x,H[k]?=some x->bP E k x≠some b)->V.own b=some y->V'.own b=some y/\∀o,V'.ah b o=V.ah b o)
  (hx:gG E' V' k x') (hb:∀b,bP E' k x'=some b->(∃x,H[k]?=some x/\bP E k x=some b)\/V.own b=none) (bC:V'.deaf=V.deaf:=by rfl):Conc E' V' H':=by
 have hlt:∀(j:Nat) y,H[j]?=some y->j<E.n:=λj y h=>by rw[hc.n];exact(Tn.1 h).1
 have cI:∀(j:Nat) y b,H[j]?=some y->bP E' j y=some b->bP E j y=some b:=λj y b h e=>by rw[<- QY hle (hlt j y h) (hc.obj j y h)];exact e
 have abA:∀(j:Nat) y b,j≠k->H[j]?=some y->bP E j y=some b->∀x,H[k]?=some x->bP E k x≠some b:=λj y b hj h1 h2 x h3 h4=>hj (hc.inj j k y x b h1 h3 h2 h4);have hg:∀(j:Nat) y,H'[j]?=some y->∀g,V.own g≠none->(∀(i:Nat) x,H[i]?=some x->bP E i x≠some g)->bP E' j y≠some g:=λj y h g qv ew e=>by rcases hH j y h with⟨rfl,rfl⟩|⟨hj,h⟩;rcases hb g e with⟨x,h1,h2⟩|h2;exact ew _ x h1 h2;exact qv h2;exact ew j y h (cI j y g h e)
 have hk:∀g,V.own g≠none->(∀(i:Nat) x,H[i]?=some x->bP E i x≠some g)->V'.own g≠none/\∀o,V'.ah g o=V.ah g o:=λg qv ew=>by
  cases e:V.own g with
  |none=>exact absurd e qv
  |some y=>have:=ho g y (λx hx=>ew k x hx) e;exact⟨by rw[this.1];simp,this.2⟩
 refine⟨hI,hn,λj y h=> ?_,λi j y z b h1 h2 e1 e2=> ?_,λg aa9=> ?_,λc fA=> ?_,λhm=>(by rw[hr,bC];exact hc.top (by rw[<- hle.main];exact hm)),λb y jD=> ?_⟩;rcases hH j y h with⟨rfl,rfl⟩|⟨hj,h⟩;exact hx;have mf:=hc.obj j y h;refine mf.mono hle (hlt j y h) (BN j hj (hlt j y h)) (λb z kS hz=> ?_) (λb kS o=> ?_);exact(ho b z (abA j y b hj h kS) hz).1;obtain⟨z,hz⟩:=mf.De kS;exact(ho b z (abA j y b hj h kS) hz).2 o
 ·have new:∀(j:Nat) y,j≠k->H[j]?=some y->bP E' j y=some b->bP E' k x'≠some b:=λj y hj h e e'=>by have e:=cI j y b h e;rcases hb b e' with⟨x,mP,hx2⟩|h1;exact hj (hc.inj j k y x b h mP e hx2);obtain⟨q,hq⟩:=(hc.obj j y h).De e;rw[h1]at hq;cases hq
  rcases hH i y h1 with⟨rfl,rfl⟩|⟨hi,h1⟩<;>rcases hH j z h2 with⟨rfl,rfl⟩|⟨hj,h2⟩;rfl;exact absurd e1 (new j z hj h2 e2);exact absurd e2 (new i y hi h1 e1);exact hc.inj i j y z b h1 h2 (cI i y b h1 e1) (cI j z b h2 e2)
 ·rw[hr]at aa9;obtain⟨h0,h1,h2⟩:=hc.group g aa9;exact⟨(hk g h0 h2).1,λo=>((hk g h0 h2).2 o).trans (h1 o),λj y h=>hg j y h g h0 h2⟩
 ·rw[hr]at fA;obtain⟨h0,h1,h2⟩:=hc.chan c fA;exact⟨(hk c h0 h2).1,λo=>((hk c h0 h2).2 o).trans (h1 o),λj y h=>hg j y h c h0 h2⟩
 ·rw[hle.fr]at jD;obtain⟨h0,h1,h2⟩:=hc.fr b y jD;have GY:V.own b≠none:=by rw[h0];simp
  exact⟨(ho b y (λx hx=>h2 k x hx) h0).1,λo=>((hk b GY h2).2 o).trans (h1 o),λj z h=>hg j z h b GY h2⟩
def lS{α:Type}{H:List α}{k:Nat}{x':α}:∀(j:Nat) y,(H.set k x')[j]?=some y->(j=k/\y=x')\/(j≠k/\H[j]?=some y):=λj y h=>by
 by_cases hj:j=k
 ·subst hj;rw[List.getElem?_set_self']at h;cases e:H[j]?with
  |none=>rw[e]at h;cases h
  |some z=>rw[e]at h;exact .inl ⟨rfl,by simpa using h.symm⟩
 ·rw[Vd (Ne.symm hj)]at h;exact .inr ⟨hj,h⟩
def EU{α:Type}{H:List α}{x':α}:∀(j:Nat) y,(H++[x'])[j]?=some y->(j=H.length/\y=x')\/(j≠H.length/\H[j]?=some y):=λj y h=>by
 by_cases hk:j<H.length;rw[T6 hk]at h;exact .inr ⟨by omega,h⟩
 ·rw[Uc (by omega)]at h;have aO:j-H.length=0:=by have:=(Tn.1 h).1;simpa using this
  rw[aO]at h;exact .inl ⟨by omega,by simpa using h.symm⟩
def Conc.jq{E:Env}{V:View}{H:SA}(hc:Conc E V H){k:Nat}{x:aa}(hk:H[k]?=some x){b:Nat}(hb:bP E k x=some b):V.role.group≠some b/\V.role.chan≠some b:=
 ⟨λe=>(hc.group b e).2.2 k x hk hb,λe=>(hc.chan b e).2.2 k x hk hb⟩
def Conc.NQ{E:Env}{V:View}{H:SA}(hc:Conc E V H){b o:Nat}{v:T9}(h:E.I b o=some v):V.role.group≠some b/\V.role.chan≠some b:=
 ⟨λe=>(by have:=(hc.group b e).2.1 o;rw[<- hc.I,h]at this;cases this),λe=>(by have:=(hc.chan b e).2.1 o;rw[<- hc.I,h]at this;cases this)⟩
def AS.put (s:AS)(dst:SL)(av:AV):AS:=match dst with
 |some d=>⟨(d,av)::s.T,s.H⟩
 |none=>s
def cu.iy{E:Env}{s:AS}{a:Act}(k:cu E s.T a.tmps){dst:SL}(hd:∀d,dst=some d->d<a.tmps.size){av:AV}{v:T9}(hv:ay E av v):cu E (s.put dst av).T (a.put dst v).tmps:=by
 cases dst with
 |none=>exact k
 |some d=>exact cu.put k (hd d rfl) hv
def fG(s:AS)(dst:SL)(av:AV):(s.put dst av).H=s.H:=by cases dst<;>rfl
def ek(a:Act)(dst:SL)(v:T9):(a.put dst v).tmps.size=a.tmps.size:=by cases dst<;>simp[Zg]
def put_defers(a:Act)(dst:SL)(v:T9):(a.put dst v).defers=a.defers:=by cases dst<;>rfl
structure Kept (E E':Env)(V V':View)(a a':Act):Prop where
 le:E.Le E'
 size:a'.tmps.size=a.tmps.size
 defers:a'.defers=a.defers
 role:V'.role=V.role
 deaf:V'.deaf=V.deaf
abbrev SV:=AS->Prop
def Step (lv:Bool)(P:Tl)(r:SL)(o:Vp)(s:AS)(next:SV)(bad:AV->SV):Prop:=
 ∀(E:Env)(V:View)(a:Act)(N:S4)(Q:SJ),Conc E V s.H->cu E s.T a.tmps->(∀d,o.dst=some d->d<a.tmps.size)->(r=none\/mR o.op=false)->
  (∀E' V' a' s',Kept E E' V V' a a'->Conc E' V' s'.H->cu E' s'.T a'.tmps->next s'->N a' V')->
  (∀E' V' s' pv v,Kept E E' V V' a a->Conc E' V' s'.H->cu E' s'.T a.tmps->ay E' pv v->bad pv s'->Q (.panic [{v,recovered:=false}]) a V')->yi lv P r o a V N Q
def dH (lv:Bool)(P:Tl)(r:SL)(o:Vp)(s:AS)(av:AV):Prop:=
 ∀(E:Env)(V:View)(a:Act)(N:S4)(Q:SJ),Conc E V s.H->cu E s.T a.tmps->(r=none\/mR o.op=false)->
  (∀E' V' v,E.Le E'->V'.role=V.role->V'.deaf=V.deaf->Conc E' V' s.H->ay E' av v->N (a.put o.dst v) V')->yi lv P r o a V N Q
section
variable {lv:Bool}{P:Tl}{r:SL}{o:Vp}{s:AS}{next:SV}{bad:AV->SV}
def Step.mono{next':SV}{QS:AV->SV}(h:Step lv P r o s next bad)(hn:∀s,next s->next' s)(hb:∀c s,bad c s->QS c s):Step lv P r o s next' QS:=
 λE V a N Q h1 h2 h3 h4 h5 h6=>h E V a N Q h1 h2 h3 h4 (λE' V' a' s' x1 x2 x3 x4=>h5 E' V' a' s' x1 x2 x3 (hn _ x4)) (λE' V' s' pv v x1 x2 x3 x4 x5=>h6 E' V' s' pv v x1 x2 x3 x4 (hb _ _ x5))
def iZ{av:AV}(h:∀(E:Env)(V:View)(a:Act),Conc E V s.H->cu E s.T a.tmps->aT P V (execOp a.eval o) (λnx V'=>V'=V/\∃v,nx=.value v/\ay E av v) (λ_ _=>False)):dH lv P r o s av:=by intro E V a N Q hc ht bC h1;refine⟨bC,(h E V a hc ht).mono (λnx V' hx=> ?_) (λ_ _ hx=>hx.elim)⟩;obtain⟨rfl,v,rfl,hv⟩:=hx;exact h1 E V' v (Env.Le.refl E) rfl rfl hc hv
def s_{av:AV}(h:∀(E:Env)(V:View)(a:Act),Conc E V s.H->cu E s.T a.tmps->∃v,execOp a.eval o=.pure (.value v)/\ay E av v):dH lv P r o s av:=
 iZ (λE V a hc ht=>by obtain⟨v,h1,h2⟩:=h E V a hc ht;rw[h1];exact cj ⟨rfl,v,rfl,h2⟩)
def dH.step{av:AV}(h:dH lv P r o s av)(hn:next (s.put o.dst av)):Step lv P r o s next bad:=by intro E V a N Q hc ht hd bC h1 _;refine h E V a N Q hc ht bC λE' V' v hle cr fB bu hv=> ?_;exact h1 E' V' (a.put o.dst v) (s.put o.dst av) ⟨hle,ek _ _ _,put_defers _ _ _,cr,fB⟩ (by rw[fG];exact bu) ((ht.mono hle).iy hd hv) hn
def ady{x:Up}{av:AV}(ho:o.op=.move x\/o.op=.assign x)(hx:s.ev x=some av):dH lv P r o s (av):=
 s_ (λE V a hc ht=>⟨a.eval x,by unfold execOp;rcases ho with ho|ho<;>rw[ho]<;>rfl,ay.ev ht hx⟩)
def arI{c x y:Up}{b:Bool}{av aw:AV}(ho:o.op=.pick c x y)(hc:s.ev c=some (.val (.bool b)))(hx:s.ev x=some av)(hy:s.ev y=some aw):dH lv P r o s (if b then av else aw):=
 s_ (λE V a jA ht=>by
  have h1:=ay.ev ht hc;generalize hv:a.eval c=v at h1;cases h1;refine⟨if b then a.eval x else a.eval y,by unfold execOp;rw[ho];simp only[hv];cases b<;>rfl,?_⟩;cases b;exact ay.ev ht hy
  ·exact ay.ev ht hx)
def mD (op:Xl)(k:UZ)(x y:Int):Option T9:=match op with
 |.add=>some (.int k (k.wrap (x+y)))
 |.sub=>some (.int k (k.wrap (x-y)))
 |.mul=>some (.int k (k.wrap (x* y)))
 |.eql=>some (.bool (x==y))
 |.neq=>some (.bool (x !=y))
 |.lss=>some (.bool (x<y))
 |.leq=>some (.bool (x<=y))
 |.gtr=>some (.bool (x>y))
 |.geq=>some (.bool (x>=y))
 |.and=>some (.int k (k.wrap (Va k.bits x&&&Va k.bits y).toNat))
 |.or=>some (.int k (k.wrap (Va k.bits x|||Va k.bits y).toNat))
 |.xor=>some (.int k (k.wrap (Va k.bits x^^^Va k.bits y).toNat))
 |.quo=>if y=0 then none else some (.int k (k.wrap (x.tdiv y)))
 |.rem=>if y=0 then none else some (.int k (x.tmod y))
 |_=>none
def Cn (op:Xl)(k:UZ)(x y:Int):Option T9:=if y<0 then none else match op with
 |.shl=>some (.int k (k.wrap (x* 2^(min y.toNat k.bits))))
 |.shr=>some (.int k (x.fdiv (2^(min y.toNat k.bits))))
 |_=>none
def nJ:Xl->Bool
 |.shl|.shr=>true
 |_=>false
def ahG{op:Xl}{k:UZ}{x y:Int}{v:T9}{t:TypeId}(h:mD op k x y=some v):binOp op t (.int k x) (.int k y)=.pure v:=by
 cases op<;>simp only[mD,Ul,reduceCtorEq]at h<;>try(subst h;simp[binOp,Op.intArith,Op.intCmp,Op.intBits];rfl)
 ·split at h;cases h;rename_i hy;simp only[Ul]at h;subst h;simp[binOp,axZ,hy];rfl
 ·split at h;cases h;rename_i hy;simp only[Ul]at h;subst h;simp[binOp,axZ,hy];rfl
def as5{op:Xl}{k j:UZ}{x y:Int}{v:T9}{t:TypeId}(h:Cn op k x y=some v):binOp op t (.int k x) (.int j y)=.pure v:=by unfold Cn at h;split at h;cases h;rename_i hy;cases op<;>simp only[Ul,reduceCtorEq]at h;subst h;simp[binOp,ax7,hy];rfl;subst h;simp[binOp,ax7,hy];rfl
def RQ{op:Xl}{t:TypeId}{x y:Up}{j k:UZ}{a b:Int}:eqGuard op t x y (.int j a) (.int k b)=.pure ():=by unfold eqGuard;cases op<;>rfl
def arf{op:Xl}{xt yt:TypeId}{x y:Up}{k:UZ}{m n:Int}{v:T9}(ho:o.op=.binOp op xt x y yt)(hx:s.ev x=some (.val (.int k m)))(hy:s.ev y=some (.val (.int k n)))(hv:mD op k m n=some v):dH lv P r o s (.val v):=
 s_ (λE V a jA ht=>by have h1:=ay.ev ht hx;have h2:=ay.ev ht hy;generalize qA:a.eval x=v1 at h1;generalize uw:a.eval y=v2 at h2;cases h1;cases h2;refine⟨v,?_,.val v⟩;unfold execOp;rw[ho];simp only[qA,uw,RQ,ahG hv];rfl)
def arJ{op:Xl}{xt yt:TypeId}{x y:Up}{k j:UZ}{m n:Int}{v:T9}(ho:o.op=.binOp op xt x y yt)(hx:s.ev x=some (.val (.int k m)))(hy:s.ev y=some (.val (.int j n)))(hv:Cn op k m n=some v):dH lv P r o s (.val v):=
 s_ (λE V a jA ht=>by have h1:=ay.ev ht hx;have h2:=ay.ev ht hy;generalize qA:a.eval x=v1 at h1;generalize uw:a.eval y=v2 at h2;cases h1;cases h2;refine⟨v,?_,.val v⟩;unfold execOp;rw[ho];simp only[qA,uw,RQ,as5 hv];rfl)
def arH{t:TypeId}{x:Up}{b:Bool}(ho:o.op=.unOp .not t x)(hx:s.ev x=some (.val (.bool b))):dH lv P r o s (.val (.bool !b)):=
 s_ (λE V a jA ht=>by have h1:=ay.ev ht hx;generalize qA:a.eval x=v1 at h1;cases h1;exact⟨_,by unfold execOp;rw[ho];simp only[qA];rfl,.val _⟩)
def arE{t:TypeId}{x:Up}{k:UZ}{n:Int}(ho:o.op=.unOp .neg t x)(hx:s.ev x=some (.val (.int k n))):dH lv P r o s (.val (.int k (k.wrap (0-n)))):=
 s_ (λE V a jA ht=>by have h1:=ay.ev ht hx;generalize qA:a.eval x=v1 at h1;cases h1;exact⟨_,by unfold execOp;rw[ho];simp only[qA];rfl,.val _⟩)
def arm{x:Up}{i:Nat}{l:SC}{av:AV}(ho:o.op=.extract x i)(hx:s.ev x=some (.aJ l))(hi:l[i]?=some av):dH lv P r o s (av):=
 s_ (λE V a jA ht=>by
  have h1:=ay.ev ht hx;generalize qA:a.eval x=v1 at h1;cases h1 with
  |aJ hs h=>
   rename_i cs;have hlt:i<cs.size:=(by rw[hs];exact(Tn.1 hi).1);refine⟨cs[i],?_,?_⟩;unfold execOp;rw[ho];simp only[qA,Instr.extract,Tj hlt];rfl
   ·have:=h i av hi;rwa[Th,Tj hlt]at this)
end
def add_plain(b o n:Nat):(⟨b,o,none⟩:Wy).add n=⟨b,o+n,none⟩:=by unfold Addr.add;split;rename_i h;subst h;rfl;rfl
def AS.at (s:AS):AV->Option (SC)
 |.rp l=>some l
 |.op id off=>match s.H[id]?with
  |some (.cells l _)=>some (l.drop off)
  |some (.part _ l _)=>some (l.drop off)
  |some (.own _ l _)=>some (l.drop off)
  |_=>none
 |_=>none
def AV.shift (n:Nat):AV->Option AV
 |.rp l=>if n<=l.length then some (.rp (l.drop n))else none
 |.op id off=>some (.op id (off+n))
 |_=>none
def Conc.at{E:Env}{V:View}{s:AS}(hc:Conc E V s.H){p:AV}{v:T9}(hd:ay E p v){l:SC}(h:s.at p=some l):
  ∃(b o:Nat)(f:Nat->T9),v=.pointer (some ⟨b,o,none⟩)/\(∀i,i<l.length->V.get b (o+i)=some (f i))/\(0<l.length->V.role.group≠some b)/\∀(i:Nat) x,l[i]?=some x->ay E x (f i):=by
 cases hd with
 |rp b o f h1 h2=>cases h;exact⟨b,o,f,rfl,λi hi=>by unfold View.get;rw[<- hc.I,h1 i hi],λhp=>(hc.NQ (h1 0 hp)).1,h2⟩
 |op hi=>
  rename_i id off;simp only[AS.at]at h;cases hk:s.H[id]?with
  |none=>rw[hk]at h;cases h
  |some ob=>
   rw[hk]at h;cases ob with
   |cells l' el=>cases h;obtain⟨⟨cs,ho,hs,bm⟩,mb⟩:=hc.obj id _ hk;refine⟨E.blk id,off,λi=>cs.getD (off+i) undef,rfl,λi hi=> ?_,λ_=>(hc.jq hk rfl).1,λi x hx=> ?_⟩;unfold View.get;rw[mb,ho];simp only[Vm]at hi;have hlt:off+i<cs.size:=(by omega);simp only[Th,Tj hlt,T_];rw[Vo]at hx;exact bm _ _ hx
   |part p l' el=>cases h;obtain⟨⟨cs,ho,⟨hs,bm⟩,oD⟩,mb⟩:=hc.obj id _ hk;refine⟨E.blk id,off,λi=>cs.getD (off+i) undef,rfl,λi hi=> ?_,λ_=>(hc.jq hk rfl).1,λi x hx=> ?_⟩;simp only[Vm]at hi;have hlt:off+i<cs.size:=(by omega);unfold View.get;by_cases hp:off+i<p;rw[oD _ hp];simp only[Th,Tj hlt,T_];rw[mb _ (by omega),ho];simp only[Th,Tj hlt,T_];rw[Vo]at hx;exact bm _ _ hx
   |own sz l' el=>cases h;obtain⟨⟨cs,ho,⟨hs,bm⟩,_⟩,mb⟩:=hc.obj id _ hk;refine⟨E.blk id,off,λi=>cs.getD (off+i) undef,rfl,λi hi=> ?_,λ_=>(hc.jq hk rfl).1,λi x hx=> ?_⟩;simp only[Vm]at hi;have hlt:off+i<cs.size:=(by omega);unfold View.get;rw[mb,ho];simp only[Th,Tj hlt,T_];rw[Vo]at hx;exact bm _ _ hx
   |_=>cases h
 |_=>cases h
def ay.shift{E:Env}{p q:AV}{v:T9}(hd:ay E p v){n:Nat}(h:p.shift n=some q):∃b o,v=.pointer (some ⟨b,o,none⟩)/\ay E q (.pointer (some ⟨b,o+n,none⟩)):=by
 cases hd with
 |rp b o f h1 h2=>simp only[AV.shift]at h;split at h;rename_i hn;cases h;refine⟨b,o,rfl,.rp b (o+n) (λi=>f (n+i)) (λi hi=> ?_) (λi x hx=> ?_)⟩;simp only[Vm]at hi;rw[VY];exact h1 _ (by omega);rw[Vo]at hx;exact h2 _ _ hx;cases h
 |op hi=>cases h;exact⟨_,_,rfl,.op hi⟩
 |_=>cases h
section
variable {P:Tl}{V:View}{α:Type}{K:α->View->Prop}{Kp:SQ}
def ez{t:TypeId}{d:TypeDesc}{k:TypeDesc->Sem α}(h:P.underlying t=some d)(hk:aT P V (k d) K Kp):aT P V (underlying t>>=k) K Kp:=by unfold underlying;refine aA (aA (pK (cj ?_)));rw[h];exact az hk
def Ab{t:TypeId}{i:X8}{k:X8->Sem α}(h:P.info? t=some i)(hk:aT P V (k i) K Kp):aT P V (typeInfo t>>=k) K Kp:=by unfold typeInfo;refine aA (aA (pK (cj ?_)));rw[h];exact az hk
def jM{t:TypeId}{i:X8}{k:Nat->Sem α}(h:P.info? t=some i)(hk:aT P V (k i.size) K Kp):aT P V (sizeOf t>>=k) K Kp:=by refine aA ?_;unfold sizeOf;exact Ab h (az hk)
def TypeDesc.agg:TypeDesc->Bool
 |.struct _|.array _ _=>true
 |_=>false
def wn{t:TypeId}{d:TypeDesc}{k:Bool->Sem α}(h:P.underlying t=some d)(hk:aT P V (k (TypeDesc.agg d)) K Kp):aT P V (isAgg t>>=k) K Kp:=by refine aA ?_;unfold isAgg;refine ez h ?_;cases d<;>exact az hk
def asS{b o:Nat}{v:T9}{k:T9->Sem α}(hg:V.role.group≠some b)(e:V.get b o=some v)(hk:aT P V (k v) K Kp):aT P V (load ⟨b,o,none⟩>>=k) K Kp:=
 aA (Cl e (.inl hg) (cj hk))
def adX{b o:Nat}{f:Nat->T9}{K:Array T9->View->Prop}:∀(n i:Nat)(acc:SG),(0<n->V.role.group≠some b)->(∀j,j<n->V.get b (o+(i+j))=some (f (i+j)))->
  K (acc++((Tt n).map λj=>f (i+j)).toArray) V->aT P V (loadCellsFrom ⟨b,o,none⟩ i n acc) K Kp
 |0,i,acc,_,_,h=>az (by simpa using h)
 |n+1,i,acc,hg,he,h=>by
  have h0:=he 0 (by omega);unfold loadCellsFrom;rw[add_plain];refine asS (hg (by omega)) h0 ?_;refine adX n (i+1) _ (λ_=>hg (by omega)) (λj hj=>by have:=he (j+1) (by omega);rwa[show i+(j+1)=i+1+j by omega]at this) ?_;have e:(acc.push (f (i+0))++((Tt n).map λj=>f (i+1+j)).toArray)=acc++((Tt (n+1)).map λj=>f (i+j)).toArray:=by rw[List.range_succ_eq_map];apply Wz;simp[ZI,VY,axJ 1]
  rw[e];exact h
def z9{b o n:Nat}{f:Nat->T9}(hg:0<n->V.role.group≠some b){K:Array T9->View->Prop}(he:∀j,j<n->V.get b (o+j)=some (f j))(h:K ((Tt n).map f).toArray V):aT P V (loadCells ⟨b,o,none⟩ n) K Kp:=
 adX n 0 #[] hg (λj hj=>by simpa using he j hj) (by simpa using h)
end
def lz{α β:Type}{x:Option α}{f:α->β}{y:β}(h:x.map f=some y):∃a,x=some a/\f a=y:=Uu.1 h
def Ty (P:Tl)(t:TypeId):Option (Nat×Bool):=(P.info? t).bind λi=>(P.underlying t).map λd=>(i.size,TypeDesc.agg d)
def Ty.out{P:Tl}{t:TypeId}{n:Nat}{g:Bool}(h:Ty P t=some (n,g)):∃i d,P.info? t=some i/\P.underlying t=some d/\i.size=n/\TypeDesc.agg d=g:=by unfold Ty at h;obtain⟨i,h1,h2⟩:=Uj.1 h;obtain⟨d,h3,h4⟩:=lz h2;cases h4;exact⟨i,d,h1,h3,rfl,rfl⟩
def Gz{E:Env}{l:SC}{f:Nat->T9}{n:Nat}(hn:n<=l.length)(h:∀(i:Nat) x,l[i]?=some x->ay E x (f i)):ay E (.agg (l.take n)) (.agg ((Tt n).map f).toArray):=by
 refine .agg (by simp;omega) λi x hx=> ?_;rw[Vh]at hx;split at hx
 ·rename_i hi;have:=h i x hx;simpa[Th,hi]using this
 ·cases hx
def AV.row:AV->Option (Nat×AV)
 |.sl n l _=>some (n,.rp l)
 |.bB id off n _=>some (n,.op id off)
 |_=>none
def ay.row{E:Env}{a p:AV}{v:T9}{n:Nat}(hd:ay E a v)(h:a.row=some (n,p))(h0:0<n):∃b o cap,v=.slice (some ⟨b,o,none⟩) n cap/\ay E p (.pointer (some ⟨b,o,none⟩)):=by
 cases hd with
 |sl b o cap f hc he h1 h2=>cases h;exact⟨b,o,cap,rfl,.rp b o f h1 h2⟩
 |nil he=>cases h;exact absurd h0 (by simp)
 |bB hi=>cases h;exact⟨_,_,_,rfl,.op hi⟩
 |_=>cases h
def AV.len:AV->Option Nat
 |.sl n _ _=>some n
 |.bB _ _ n _=>some n
 |_=>none
def ay.len{E:Env}{a:AV}{v:T9}{n:Nat}(hd:ay E a v)(h:a.len=some n):∃ad cap,v=.slice ad n cap:=by
 cases hd with
 |sl b o cap f hc he h1 h2=>cases h;exact⟨_,_,rfl⟩
 |nil he=>cases h;exact⟨_,_,rfl⟩
 |bB hi=>cases h;exact⟨_,_,rfl⟩
 |_=>cases h
def eD (P:Tl)(t:TypeId)(k:Nat):Option Nat:=match P.underlying t with
 |some (.struct fs)=>match fs[k]?with
  |some f=>match P.info? f.type with
   |some i=>if i.size=0 then none else some f.offset
   |none=>none
  |none=>none
 |_=>none
def nR (P:Tl)(t:TypeId):Option (Option Nat×Nat):=match P.underlying t with
 |some (.array n e)=>(P.info? e).map λi=>(some n,i.size)
 |some (.slice e)=>(P.info? e).map λi=>(none,i.size)
 |_=>none
inductive yh where
 |slice|map|str|arr (n:Nat)
def j6 (P:Tl)(t:TypeId):Option yh:=match P.underlying t with
 |some (.slice _)=>some .slice
 |some (.map _ _)=>some .map
 |some .string=>some .str
 |some (.array n _)=>some (.arr n)
 |_=>none
def JY (P:Tl)(t:TypeId)(k:Nat):Option (Nat×Nat×Bool):=match P.underlying t with
 |some (.struct fs)=>match fs[k]?with
  |some f=>(Ty P f.type).map λx=>(f.offset,x.1,x.2)
  |none=>none
 |_=>none
def JP (P:Tl)(t:TypeId):Option (Nat×Nat×Bool):=match P.underlying t with
 |some (.array n e)=>(Ty P e).map λx=>(n,x.1,x.2)
 |_=>none
section
variable {lv:Bool}{P:Tl}{r:SL}{o:Vp}{s:AS}{next:SV}{bad:AV->SV}
def arx{t:TypeId}{x:Up}{p:AV}{l:SC}{n:Nat}(ho:o.op=.load t x)(ht:Ty P t=some (n,true))(hx:s.ev x=some p)(hl:s.at p=some l)(hlen:n<=l.length):dH lv P r o s (.agg (l.take n)):=
 iZ (λE V a hc aI=>by obtain⟨i,d,h1,h2,rfl,h4⟩:=Ty.out ht;obtain⟨b,off,f,hv,hg,iO,hd⟩:=hc.at (ay.ev aI hx) hl;unfold execOp;rw[ho];simp only[hv];refine aA ?_;unfold X_ Wh;refine aA (az ?_);unfold loadVar;refine wn h2 ?_;rw[h4];simp only[if_true];refine jM h1 ?_;refine aA (z9 (f:=f) (λh=>iO (by omega)) (λj hj=>hg j (by omega)) ?_);exact az (az ⟨rfl,_,rfl,Gz hlen hd⟩))
def ary{t:TypeId}{x:Up}{p:AV}{l:SC}{n:Nat}{av:AV}(ho:o.op=.load t x)(ht:Ty P t=some (n,false))(hx:s.ev x=some p)(hl:s.at p=some l)(h0:l[0]?=some av):dH lv P r o s (av):=
 iZ (λE V a hc aI=>by obtain⟨i,d,h1,h2,rfl,h4⟩:=Ty.out ht;obtain⟨b,off,f,hv,hg,iO,hd⟩:=hc.at (ay.ev aI hx) hl;unfold execOp;rw[ho];simp only[hv];refine aA ?_;unfold X_ Wh;refine aA (az ?_);unfold loadVar;refine wn h2 ?_;rw[h4];simp only[UH,if_false];have hlen:0<l.length:=(Tn.1 h0).1;have jE:=hg 0 hlen;rw[Vr]at jE;exact Cl jE (.inl (iO hlen)) (cj (az ⟨rfl,_,rfl,hd 0 av h0⟩)))
def AV.sure:AV->Bool
 |.rp _|.op _ _=>true
 |.fn (.func _) _ _=>true
 |.fn (.yield _) _ _=>true
 |.bY _ _=>true
 |_=>false
def arF{x:Up}{p:AV}(ho:o.op=.nilCheck x)(hx:s.ev x=some p)(hp:p.sure=true):dH lv P r o s (p):=
 s_ (λE V a hc aI=>by
  have hd:=ay.ev aI hx;refine⟨a.eval x,?_,hd⟩;unfold execOp;rw[ho];dsimp only;generalize a.eval x=v at hd⊢;cases hd with
  |rp=>rfl
  |op=>rfl
  |bY=>rfl
  |fn da eJ h1 h2=>
   rename_i f _ _ _ _;cases f with
   |func=>rfl
   |yield=>rfl
   |_=>cases hp
  |_=>cases hp)
def arn{t:TypeId}{x:Up}{k n:Nat}{p q:AV}(ho:o.op=.fieldAddr t x k)(ht:eD P t k=some n)(hx:s.ev x=some p)(hp:p.shift n=some q):dH lv P r o s (q):=
 iZ (λE V a hc aI=>by
  obtain⟨b,off,hv,hq⟩:=(ay.ev aI hx).shift hp;unfold eD at ht;split at ht;rename_i fs hu;split at ht;rename_i f hf;split at ht;rename_i i hi;split at ht;cases ht;rename_i hz;cases ht;unfold execOp;rw[ho];simp only[hv];refine aA ?_;unfold Instr.fieldAt;refine ez hu ?_;simp only[hf];unfold Wh;refine aA (az ?_);unfold fieldPlace;refine aA (jM hi ?_);rw[if_neg hz];refine az (az (az ⟨rfl,_,rfl,?_⟩));rw[add_plain];exact hq;cases ht;cases ht
  ·cases ht)
def arp{t:TypeId}{x ix:Up}{a p q:AV}{k:UZ}{i:Int}{n sz:Nat}(ho:o.op=.indexAddr t x ix)(ht:nR P t=some (none,sz))(hx:s.ev x=some a)(ha:a.row=some (n,p))(hi:s.ev ix=some (.val (.int k i)))(h0:0<=i)(h1:i<n)
  (hp:p.shift (i.toNat* sz)=some q):dH lv P r o s (q):=
 iZ (λE V ac hc aI=>by
  obtain⟨b,off,cap,hv,BA⟩:=(ay.ev aI hx).row ha (by omega);obtain⟨b',o',hb,hq⟩:=BA.shift hp;cases hb;have hd:=ay.ev aI hi;generalize rL:ac.eval ix=vi at hd;cases hd;unfold nR at ht;split at ht;obtain⟨_,_,h⟩:=lz ht;cases h;rename_i e hu;obtain⟨inf,MO,h⟩:=lz ht;cases h;unfold execOp;rw[ho];simp only[hv,rL];refine aA ?_;unfold awU asIntOf;refine aA (az ?_);dsimp only;refine ez hu ?_;refine aA (az ?_);dsimp only;refine ez hu ?_;dsimp only;rw[if_pos ⟨h0,h1⟩];refine jM MO ?_;refine az (az ⟨rfl,_,rfl,?_⟩);rw[add_plain];exact hq
  ·cases ht)
def arq{t:TypeId}{x ix:Up}{p q:AV}{k:UZ}{i:Int}{n sz:Nat}(ho:o.op=.indexAddr t x ix)(ht:nR P t=some (some n,sz))(hx:s.ev x=some p)(hi:s.ev ix=some (.val (.int k i)))(h0:0<=i)(h1:i<n)
  (hp:p.shift (i.toNat* sz)=some q):dH lv P r o s (q):=
 iZ (λE V ac hc aI=>by
  obtain⟨b,off,hv,hq⟩:=(ay.ev aI hx).shift hp;have hd:=ay.ev aI hi;generalize rL:ac.eval ix=vi at hd;cases hd;unfold nR at ht;split at ht;rename_i m e hu;obtain⟨inf,MO,h⟩:=lz ht;cases h;unfold execOp;rw[ho];simp only[hv,rL];refine aA ?_;unfold awU asIntOf;refine aA (az ?_);dsimp only;refine ez hu ?_;dsimp only;unfold Wh;refine aA (aA (az (az ?_)));refine ez hu ?_;dsimp only;rw[if_pos ⟨h0,h1⟩];refine jM MO ?_;refine az (az ⟨rfl,_,rfl,?_⟩);rw[add_plain];exact hq;obtain⟨_,_,h⟩:=lz ht;cases h
  ·cases ht)
def adx{c:Yv}{x:Up}{t:TypeId}{a:AV}{n:Nat}(ho:o.op=.call c)(aY:c.callee=.builtin .len)(rN:c.args[0]?=some x)(zt:c.argTypes[0]?=some t)(ht:j6 P t=some .slice)(hx:s.ev x=some a)(ha:a.len=some n):dH lv P r o s (.val (.int .i64 n)):=
 iZ (λE V ac hc aI=>by
  obtain⟨ad,cap,hv⟩:=(ay.ev aI hx).len ha;unfold j6 at ht;split at ht<;>cases ht;rename_i e hu;unfold execOp;rw[ho];dsimp only;unfold resolve;rw[aY];dsimp only;refine aA (az ?_);unfold invoke builtin;dsimp only;refine aA ?_;unfold YC;have e1:(c.args.map ac.eval)[0]?=some (.slice ad n cap):=by simp[rN,hv]
  simp only[zt,e1];refine ez hu ?_;exact az (az ⟨rfl,_,rfl,.val _⟩))
def arw{c:Yv}{x:Up}{t:TypeId}{b:ByteArray}(ho:o.op=.call c)(aY:c.callee=.builtin .len)(rN:c.args[0]?=some x)(zt:c.argTypes[0]?=some t)(ht:j6 P t=some .str)(hx:s.ev x=some (.val (.string b))):dH lv P r o s (.val (.int .i64 b.size)):=
 iZ (λE V ac hc aI=>by
  have hd:=ay.ev aI hx;generalize hv:ac.eval x=v at hd;cases hd;unfold j6 at ht;split at ht<;>cases ht;rename_i hu;unfold execOp;rw[ho];dsimp only;unfold resolve;rw[aY];dsimp only;refine aA (az ?_);unfold invoke builtin;dsimp only;refine aA ?_;unfold YC;have e1:(c.args.map ac.eval)[0]?=some (.string b):=by simp[rN,hv]
  simp only[zt,e1];refine ez hu ?_;exact az (az ⟨rfl,_,rfl,.val _⟩))
abbrev TD:=Array MapEntry
def aru{c:Yv}{x:Up}{t:TypeId}{id:Nat}{es:TD}{ck:Nat}(ho:o.op=.call c)(aY:c.callee=.builtin .len)(rN:c.args[0]?=some x)(zt:c.argTypes[0]?=some t)(ht:j6 P t=some .map)(hx:s.ev x=some (.mp id))(hk:s.H[id]?=some (.obj (.map es ck))):dH lv P r o s (.val (.int .i64 es.size)):=
 iZ (λE V ac hc aI=>by
  have hd:=ay.ev aI hx;generalize hv:ac.eval x=v at hd;cases hd;obtain⟨h1,h2,h3,h4⟩:=hc.obj id _ hk;unfold j6 at ht;split at ht<;>cases ht;rename_i hu;unfold execOp;rw[ho];dsimp only;unfold resolve;rw[aY];dsimp only;refine aA (az ?_);unfold invoke builtin;dsimp only;refine aA ?_;unfold YC;have e1:(c.args.map ac.eval)[0]?=some (.map (some (E.blk id))):=by simp[rN,hv]
  simp only[zt,e1];refine ez hu ?_;refine aA (oP h1 h2 h3 (hc.jq hk rfl).2 (cj ?_));exact az (az ⟨rfl,_,rfl,.val _⟩))
def ad0{t:TypeId}{n off:Nat}{g:Bool}{E:Env}{V:View}{l:SC}{cs:SG}{K:SQ}{Kp:SQ}(ht:Ty P t=some (n,g))(hd:bR E l cs)(hl:off+n<=l.length)(hn:g=false->0<n)
  (h:∀v,(g=true->ay E (.agg ((l.drop off).take n)) v)->(g=false->∀a,l[off]?=some a->ay E a v)->K v V):aT P V (part t cs off) K Kp:=by
 obtain⟨i,d,h1,h2,rfl,h4⟩:=Ty.out ht;unfold part;refine wn h2 ?_;rw[h4];cases g with
 |true=>simp only[if_true];refine jM h1 (az (h _ (λ_=> .agg (by have:=hd.1;simp;omega) λj a e=> ?_) (by simp)));rw[Vh]at e;split at e;(rename_i hj;rw[Vo]at e;have:=hd.2 _ _ e;have hlt:off+j<cs.size:=(by rw[hd.1];omega);have amS:j<(cs.extract off (off+i.size)).size:=(by have:=hd.1;simp;omega);rw[Th,Tj amS];rw[Th,Tj hlt]at this;simpa using this);cases e
 |false=>
  simp only[UH,if_false];have hlt:off<cs.size:=by have:=hn rfl;rw[hd.1];omega
  rw[Tj hlt];refine az (h _ (by simp) λ_ a e=> ?_);have:=hd.2 _ _ e;rwa[Th,Tj hlt]at this
def AV.cut (l:SC)(off n:Nat)(g:Bool):Option AV:=if off+n<=l.length/\(g=false->0<n)then(if g then some (.agg ((l.drop off).take n))else l[off]?)else none
def aro{t:TypeId}{x:Up}{k off n:Nat}{g:Bool}{l:SC}{av:AV}(ho:o.op=.field t x k)(ht:JY P t k=some (off,n,g))(hx:s.ev x=some (.agg l))(hv:AV.cut l off n g=some av):dH lv P r o s av:=
 iZ (λE V a hc aI=>by
  have hd:=ay.ev aI hx;generalize he:a.eval x=v at hd;cases hd with
  |agg hs h=>
   unfold JY at ht;split at ht
   ·rename_i fs hu;split at ht
    ·rename_i f hf;obtain⟨⟨n',g'⟩,h1,h2⟩:=lz ht;cases h2;unfold AV.cut at hv;split at hv
     ·rename_i y9;unfold execOp;rw[ho];simp only[he];refine aA ?_;unfold Instr.field;refine ez hu ?_;simp only[hf];unfold asAgg;refine aA (az ?_);refine ad0 h1 ⟨hs,h⟩ y9.1 y9.2 λv h3 h4=>az ⟨rfl,v,rfl,?_⟩;cases g' with
      |true=>simp only[if_true,Ul]at hv;subst hv;exact h3 rfl
      |false=>simp only[UH,if_false]at hv;exact h4 rfl _ hv
     ·cases hv
    ·cases ht
   ·cases ht)
def art{t:TypeId}{x ix:Up}{n sz:Nat}{g:Bool}{l:SC}{av:AV}{k:UZ}{i:Int}(ho:o.op=.index t x ix)(ht:JP P t=some (n,sz,g))(hx:s.ev x=some (.agg l))(hi:s.ev ix=some (.val (.int k i)))(h0:0<=i)(h1:i<n)(hv:AV.cut l (i.toNat* sz) sz g=some av):dH lv P r o s av:=
 iZ (λE V a hc aI=>by
  have hd:=ay.ev aI hx;generalize he:a.eval x=v at hd;have pn:=ay.ev aI hi;generalize Ms:a.eval ix=vi at pn;cases pn;cases hd with
  |agg hs h=>
   unfold JP at ht;split at ht
   ·rename_i m e hu;obtain⟨⟨n',g'⟩,h2,h3⟩:=lz ht;cases h3;unfold AV.cut at hv;split at hv
    ·rename_i y9;obtain⟨inf,d,q1,q2,q3,q4⟩:=Ty.out h2;unfold execOp;rw[ho];simp only[he,Ms];refine aA ?_;unfold axb asIntOf;refine aA (az ?_);dsimp only;refine ez hu ?_;dsimp only;rw[if_pos ⟨h0,h1⟩];refine jM q1 ?_;rw[q3];refine ad0 h2 ⟨hs,h⟩ y9.1 y9.2 λv h4 h5=>az ⟨rfl,v,rfl,?_⟩;cases g' with
     |true=>simp only[if_true,Ul]at hv;subst hv;exact h4 rfl
     |false=>simp only[UH,if_false]at hv;exact h5 rfl _ hv
    ·cases hv
   ·cases ht)
def ars{t:TypeId}{x ix:Up}{b:ByteArray}{k:UZ}{i:Int}{c:UInt8}(ho:o.op=.index t x ix)(ht:j6 P t=some .str)(hx:s.ev x=some (.val (.string b)))(hi:s.ev ix=some (.val (.int k i)))(h0:0<=i)(h1:b[i.toNat]?=some c):dH lv P r o s (.val (.int .u8 c.toNat)):=
 iZ (λE V a hc aI=>by have hd:=ay.ev aI hx;generalize he:a.eval x=v at hd;have pn:=ay.ev aI hi;generalize Ms:a.eval ix=vi at pn;cases pn;cases hd;unfold j6 at ht;split at ht<;>cases ht;rename_i hu;unfold execOp;rw[ho];simp only[he,Ms];refine aA ?_;unfold axb asIntOf;refine aA (az ?_);dsimp only;refine ez hu ?_;dsimp only;rw[if_pos h0,h1];exact az (az ⟨rfl,_,rfl,.val _⟩))
def Rs{E:Env}{s:AS}{a:Act}(k:cu E s.T a.tmps){l:Array Up}{aL:SC}(h:l.toList.mapM s.ev=some aL):bR E aL (l.map a.eval):=by
 have key:∀(l:List Up)(aL:SC),l.mapM s.ev=some aL->bR E aL (l.map a.eval).toArray:=by
  intro l;induction l with
  |nil=>intro aL h;simp at h;subst h;exact⟨rfl,by simp⟩
  |cons x l ih=>
   intro aL h;simp only[U6,Vk,UW,Uj,Ul]at h;obtain⟨b,h1,bs,h2,rfl⟩:=h;have:=ih bs h2;refine⟨by have:=this.1;simpa using this,λi c e=> ?_⟩;cases i with
   |zero=>simp at e;subst e;simpa[Th]using ay.ev k h1
   |succ i=>simp only[VL]at e;have:=this.2 i c e;simpa[Th]using this
 have:=key l.toList aL h;have e:l.map a.eval=(l.toList.map a.eval).toArray:=by apply Wz;simp
 rw[e];exact this
def arA{f:Fn}{first c9:Array Up}{fa ca:SC}(ho:o.op=.makeFunc f first c9)(h1:first.toList.mapM s.ev=some fa)(h2:c9.toList.mapM s.ev=some ca):dH lv P r o s (.fn f fa ca):=
 s_ (λE V a hc ht=>by have d1:=Rs ht h1;have d2:=Rs ht h2;exact⟨_,by unfold execOp;rw[ho];rfl,.fn d1.1 d2.1 d1.2 d2.2⟩)
def lR (P:Tl)(t:TypeId):Option Bool:=(P.underlying t).map λ|.interface _=>true|_=>false
def arB{t:TypeId}{x:Up}{av:AV}(ho:o.op=.makeInterface t x)(ht:lR P t=some false)(hx:s.ev x=some av):dH lv P r o s (.bY t av):=
 iZ (λE V a hc aI=>by
  obtain⟨d,hu,hd⟩:=lz ht;unfold execOp;rw[ho];dsimp only;refine aA ?_;unfold Instr.makeInterface;refine ez hu ?_;split;cases hd
  ·exact az (az ⟨rfl,_,rfl,.bY (ay.ev aI hx)⟩))
def CE (P:Tl)(src dst:TypeId):Option (Option UZ):=(P.underlying src).bind λ_=>match P.underlying dst with
 |some (.int k)=>some (some k)
 |_=>none
def arj{src dst:TypeId}{x:Up}{k j:UZ}{n:Int}(ho:o.op=.convert src dst x)(ht:CE P src dst=some (some k))(hx:s.ev x=some (.val (.int j n))):dH lv P r o s (.val (.int k (k.wrap n))):=
 iZ (λE V a hc aI=>by
  have hd:=ay.ev aI hx;generalize he:a.eval x=v at hd;cases hd;unfold CE at ht;obtain⟨d,h1,h2⟩:=Uj.1 ht;split at h2;rename_i k' hu;cases h2;unfold execOp;rw[ho];simp only[he];refine aA ?_;unfold convert;refine ez h1 (ez hu ?_);dsimp only;exact az (az ⟨rfl,_,rfl,.val _⟩)
  ·cases h2)
end
def Env.add (E:Env)(r:Nat)(I:cC):Env:={E with I:=I,n:=E.n+1,blk:=λk=>if k=E.n then r else E.blk k}
def Env.qE(E:Env)(r:Nat){I:cC}(hI:∀b o v,E.I b o=some v->I b o=some v):E.Le (E.add r I):=
 ⟨hI,Z_ _,λk hk=>by simp[Env.add,XN hk],λ_ _=>Tv _,λ_ _ _ _=>rfl,rfl,rfl⟩
def View.fe (V:View)(b:Nat)(cs:SG)(p:Nat->Bool):View:={V with ah:=λb' o=>if b'=b/\p o=true then cs[o]?else V.ah b' o}
def yN{V:View}{b:Nat}{cs:SG}{el:TypeId}{f:Nat×Nat}{p:Nat->Bool}(ho:V.own b=some (.cells cs el f))(hp:∀o,p o=true->V.ah b o=none):eg V (V.fe b cs p)where
 sat w h:=⟨λb' o v e=>by
   simp only[View.fe]at e;split at e;(rename_i hb;obtain⟨rfl,_⟩:=hb;have:=h.own _ _ ho;simpa[VA,this]using e)
   ·exact h.ah _ _ _ e,λb' x e=>h.own b' x e⟩
 own b' e:=e
 ah b' o v e:=by
  have hn:¬(b'=b/\p o=true):=λhb=>by obtain⟨rfl,h2⟩:=hb;rw[hp o h2]at e;cases e
  simp only[View.fe,if_neg hn];exact e
 kZ b' o v e:=by simp only[View.fe]at e;split at e;rename_i hb;obtain⟨rfl,_⟩:=hb;exact .inr (by rw[ho];simp);exact .inl e
 deaf:=rfl
 role:=rfl
 chan c x _ h:=h
def View.kK (V:View)(r:Nat)(cs:SG):View:={V with ah:=λb o=>if b=r then cs[o]?else V.ah b o}
def alD{V:View}{r:Nat}{cs:SG}{el:TypeId}{f:Nat×Nat}(hf:V.fresh r)(hc:V.role.chan≠some r):eg (V.upd r (.cells cs el f)) (V.kK r cs)where
 sat w h:=⟨λb o v e=>by
   simp only[View.kK]at e;split at e;(rename_i hb;subst hb;have:=h.own b (.cells cs el f) (by simp[View.upd]);simpa[VA,this]using e)
   ·exact h.ah b o v e,λb x e=>by
   have hb:b≠r:=λhb=>(by subst hb;rw[show (V.kK b cs).own b=V.own b from rfl,hf.1]at e;cases e);have e':V.own b=some x:=e;exact h.own b x (by simpa[View.upd,hb]using e')⟩
 own b e:=by simp only[View.upd]at e;split at e;cases e;exact e
 ah b o v e:=by
  have e':V.ah b o=some v:=e;have hb:b≠r:=λhb=>by subst hb;rw[hf.2 o]at e';cases e'
  simpa[View.kK,hb]using e'
 kZ b o v e:=by simp only[View.kK]at e;split at e;rename_i hb;exact .inr (by simp[View.upd,hb]);exact .inl e
 deaf:=rfl
 role:=rfl
 chan c x hcx h:=by
  have hb:c≠r:=λhb=>by subst hb;exact hc hcx
  have h':V.own c=some x:=by simpa[View.upd,hb]using h
  exact h'
def Conc.als{E:Env}{V:View}{H:SA}(hc:Conc E V H){r:Nat}(hf:V.own r=none):V.role.chan≠some r/\V.role.group≠some r:=
 ⟨λe=>(hc.chan r e).1 hf,λe=>(hc.group r e).1 hf⟩
def Conc.add{E:Env}{V:View}{H:SA}(hc:Conc E V H){r:Nat}(hf:V.fresh r)(y:Obj){x:aa}(hx:gG (E.add r V.ah) (V.upd r y) E.n x)(hb:∀b,bP (E.add r V.ah) E.n x=some b->b=r):Conc (E.add r V.ah) (V.upd r y) (H++[x]):=by
 refine hc.ja (E':=E.add r V.ah) H.length x (E.qE r (λb o v h=>by rw[<- hc.I];exact h)) rfl (by simp[Env.add,hc.n]) EU rfl (λ_ _ _=>rfl) (λb z _ hz=>⟨?_,λ_=>rfl⟩) (by rw[<- hc.n];exact hx) (λb h=> .inr ?_)
 ·have:b≠r:=λe=>by rw[e,hf.1]at hz;cases hz
  simpa[View.upd,this]using hz
 ·rw[<- hc.n]at h;rw[hb b h];exact hf.1
def Env.dP(E:Env)(r:Nat)(I:cC):(E.add r I).blk E.n=r:=by simp[Env.add]
def KD{E:Env}{H:SA}(hn:E.n=H.length)(r:Nat)(I:cC):ay (E.add r I) (.op H.length 0) (.pointer (some ⟨r,0,none⟩)):=by
 have:=ay.op (E:=E.add r I) (id:=H.length) (off:=0) (by show _<E.n+1;rw[hn];omega);have e:(E.add r I).blk H.length=r:=by rw[<- hn];exact E.dP r I
 rwa[e]at this
def AV.parts:AV->Option (SC)
 |.agg l=>some l
 |.aJ _=>none
 |.val (.agg _)=>none
 |a=>some [a]
def ay.parts{E:Env}{a:AV}{v:T9}{l:SC}(h:ay E a v)(hp:a.parts=some l):bR E l v.cells:=by
 have one:∀a v,ay E a v->v.cells=#[v]->bR E [a] v.cells:=λa v h e=>by
  rw[e];refine⟨rfl,λi x hx=> ?_⟩;have hi:i=0:=by have:=(Tn.1 hx).1;simpa using this
  subst hi;simp at hx;subst hx;simpa using h
 cases h with
 |val=>cases v<;>first|(cases hp;exact one _ _ (.val _) rfl)|cases hp
 |agg hs h=>cases hp;exact⟨hs,h⟩
 |aJ hs h=>cases hp
 |sl b o cap f hc he h1 h2=>cases hp;exact one _ _ (.sl b o cap f hc he h1 h2) rfl
 |nil he=>cases hp;exact one _ _ (.nil he) rfl
 |bB hi dT=>cases hp;exact one _ _ (.bB hi dT) rfl
 |rp b o f h1 h2=>cases hp;exact one _ _ (.rp b o f h1 h2) rfl
 |op hi=>cases hp;exact one _ _ (.op hi) rfl
 |fn da eJ h1 h2=>cases hp;exact one _ _ (.fn da eJ h1 h2) rfl
 |bY h=>cases hp;exact one _ _ (.bY h) rfl
 |mp hi=>cases hp;exact one _ _ (.mp hi) rfl
def eR (P:Tl)(t:TypeId):Option T9:=(P.info? t).bind (·.zero)
def my (z:T9):SC:=z.cells.toList.map AV.qG
def KH(E:Env)(z:T9):bR E (my z) z.cells:=by
 refine⟨by simp[my],λi a h=> ?_⟩;unfold my at h;rw[Ur]at h;obtain⟨x,hx,rfl⟩:=Uu.1 h;have:z.cells[i]?=some x:=by simpa using hx
 rw[Th,this];exact KE E x
section
variable {P:Tl}{V:View}{α:Type}{K:α->View->Prop}{Kp:SQ}
def I_{t:TypeId}{z:T9}{k:T9->Sem α}(h:eR P t=some z)(hk:aT P V (k z) K Kp):aT P V (zeroValue t>>=k) K Kp:=by unfold eR at h;obtain⟨i,h1,h2⟩:=Uj.1 h;refine aA ?_;unfold zeroValue;refine Ab h1 ?_;rw[h2];exact az hk
end
section
variable {lv:Bool}{P:Tl}{r:SL}{o:Vp}{s:AS}{next:SV}{bad:AV->SV}
def aet{t:TypeId}{l:SC}(h:∀(E:Env)(V:View)(a:Act),Conc E V s.H->cu E s.T a.tmps->∃cs,bR E l cs/\aT P V (execOp a.eval o) (λnx V'=>∃rr,V.fresh rr/\V'=V.upd rr (.cells cs t)/\nx=.value (.pointer (some ⟨rr,0,none⟩))) (λ_ _=>False))
  (hn:next ((⟨s.T,s.H++[.cells l t]⟩:AS).put o.dst (.op s.H.length 0))):Step lv P r o s next bad:=by
 intro E V a N Q hc ht hd bC h1 _;obtain⟨cs,kT,rH⟩:=h E V a hc ht;refine⟨bC,rH.mono (λnx V' hx=> ?_) (λ_ _ hx=>hx.elim)⟩;obtain⟨rr,hf,rfl,rfl⟩:=hx;have hle:E.Le (E.add rr V.ah):=E.qE rr (λb o v h=>by rw[<- hc.I];exact h);have bu:Conc (E.add rr V.ah) (V.upd rr (.cells cs t)) (s.H++[.cells l t]):=by refine hc.add hf _ ⟨⟨cs,?_,kT.mono hle⟩,λo=> ?_⟩ (λb e=> ?_);rw[Env.dP];simp[View.upd];rw[Env.dP];exact hf.2 o;simp only[bP,Env.dP,Ul]at e;exact e.symm
 exact h1 _ _ (a.put o.dst (.pointer (some ⟨rr,0,none⟩))) ((⟨s.T,s.H++[.cells l t]⟩:AS).put o.dst (.op s.H.length 0)) ⟨hle,ek _ _ _,put_defers _ _ _,rfl,rfl⟩ (by rw[fG];exact bu)
  (cu.iy (s:=⟨s.T,s.H++[.cells l t]⟩) (ht.mono hle) hd (KD hc.n rr V.ah)) hn
def aep{t:TypeId}{x:Up}{av:AV}{l:SC}(ho:o.op=.box t x)(hx:s.ev x=some av)(hl:av.parts=some l)(hn:next ((⟨s.T,s.H++[.cells l t]⟩:AS).put o.dst (.op s.H.length 0))):Step lv P r o s next bad:=
 aet (λE V a hc ht=>⟨(a.eval x).cells,(ay.ev ht hx).parts hl,by unfold execOp;rw[ho];dsimp only;refine aA ?_;unfold Instr.box newVar newRow;refine aA (aA (aA (oQ λrr hf=>cj (az (az (az (az ⟨rr,hf,rfl,rfl⟩)))))))⟩) hn
def aem{t:TypeId}{z:T9}(ho:o.op=.alloc t)(hz:eR P t=some z)(hn:next ((⟨s.T,s.H++[.cells (my z) t]⟩:AS).put o.dst (.op s.H.length 0))):Step lv P r o s next bad:=
 aet (λE V a hc ht=>⟨z.cells,KH E z,by unfold execOp;rw[ho];dsimp only;refine aA ?_;unfold Instr.alloc;refine I_ hz ?_;unfold newVar newRow;refine aA (aA (aA (oQ λrr hf=>cj (az (az (az (az ⟨rr,hf,rfl,rfl⟩)))))))⟩) hn
def atJ{t:TypeId}(ho:o.op=.makeMap t none)(hn:next ((⟨s.T,s.H++[.obj (.map #[] 0)]⟩:AS).put o.dst (.mp s.H.length))):Step lv P r o s next bad:=by
 intro E V a N Q hc ht hd bC h1 _;refine⟨bC,?_⟩;unfold execOp;rw[ho];dsimp only;refine aA ?_;unfold Instr.makeMap;refine aA (oQ λrr hf=>cj (az (az ?_)));have hle:E.Le (E.add rr V.ah):=E.qE rr (λb o v h=>by rw[<- hc.I];exact h);have bu:Conc (E.add rr V.ah) (V.upd rr (.map #[] 0)) (s.H++[.obj (.map #[] 0)]):=by refine hc.add hf _ ⟨?_,rfl,rfl,λo=> ?_⟩ (λb e=> ?_);rw[Env.dP];simp[View.upd];rw[Env.dP];exact hf.2 o;simp only[bP,Env.dP,Ul]at e;exact e.symm
 have bm:ay (E.add rr V.ah) (.mp s.H.length) (.map (some rr)):=by
  have:=ay.mp (E:=E.add rr V.ah) (id:=s.H.length) (by show _<E.n+1;rw[hc.n];omega);have e:(E.add rr V.ah).blk s.H.length=rr:=by rw[<- hc.n];exact E.dP rr _
  rwa[e]at this
 exact h1 _ _ (a.put o.dst (.map (some rr))) ((⟨s.T,s.H++[.obj (.map #[] 0)]⟩:AS).put o.dst (.mp s.H.length)) ⟨hle,ek _ _ _,put_defers _ _ _,rfl,rfl⟩ (by rw[fG];exact bu)
  (cu.iy (s:=⟨s.T,s.H++[.obj (.map #[] 0)]⟩) (ht.mono hle) hd bm) hn
end
def storeAt:Array T9->Nat->List T9->Array T9
 |cs,_,[]=>cs
 |cs,o,v::vs=>storeAt (cs.setIfInBounds o v) (o+1) vs
abbrev S6:=List T9
def Ae:∀(vs:S6)(cs:SG)(o:Nat),(storeAt cs o vs).size=cs.size
 |[],_,_=>rfl
 |v::vs,cs,o=>by rw[storeAt,Ae];simp
def FD:∀(vs:S6)(cs:SG)(o k:Nat),o+vs.length<=cs.size->(storeAt cs o vs).getD k undef=if o<=k/\k<o+vs.length then vs.getD (k-o) undef else cs.getD k undef
 |[],cs,o,k,_=>by
  have:¬(o<=k/\k<o+([]:S6).length):=by intro h;simp only[Vz]at h;omega
  rw[if_neg this];rfl
 |v::vs,cs,o,k,h=>by simp only[U4]at h;rw[storeAt,FD vs _ (o+1) k (by simp;omega)];by_cases h1:k=o;subst h1;rw[if_neg (by omega),if_pos (by simp)];simp[Th,Ud (show k<cs.size by omega)];by_cases h2:o+1<=k/\k<o+1+vs.length;rw[if_pos h2,if_pos (by simp only[U4];omega)];have:k-o=(k-(o+1))+1:=(by omega);rw[this];simp[Tf];rw[if_neg h2,if_neg (by simp only[U4];omega)];simp[Th,Tx (Ne.symm h1)]
def auU(V:View)(b:Nat)(x y:Obj):(V.upd b x).upd b y=V.upd b y:=by unfold View.upd;congr 1;funext k;dsimp only;split<;>rfl
def auV{V:View}{b:Nat}{x:Obj}(h:V.own b=some x):V.upd b x=V:=by
 unfold View.upd;have:(λk=>if k=b then some x else V.own k)=V.own:=by funext k;split;rename_i e;subst e;rw[h];rfl
 rw[this]
section
variable {P:Tl}{K:Unit->View->Prop}{Kp:SQ}{b off:Nat}{el:TypeId}
def Aa:∀(vs:S6)(i:Nat)(V:View)(cs:SG),V.role.group≠some b->V.role.chan≠some b->V.own b=some (.cells cs el (0,0))->(∀o,off+i<=o->o<off+i+vs.length->V.ah b o=none)->off+i+vs.length<=cs.size->(∀v∈vs,v.one=true)->
  K () (V.upd b (.cells (storeAt cs (off+i) vs) el (0,0)))->aT P V (storeCells ⟨b,off,none⟩ vs i) K Kp
 |[],i,V,cs,hg,hc,ho,hi,hl,hv,h=>by unfold storeCells;rw[show storeAt cs (off+i) []=cs from rfl,auV ho]at h;exact az h
 |v::vs,i,V,cs,hg,hc,ho,hi,hl,hv,h=>by unfold storeCells;rw[add_plain];simp only[U4]at hl hi;refine aA (asX ho (by omega) (hi _ (by omega) (by omega)) (hv v (UC ..)) (by omega) (.inl hg) hc (cj ?_));refine Aa vs (i+1) (V.upd b (.cells (cs.setIfInBounds (off+i) v) el (0,0))) (cs.setIfInBounds (off+i) v) hg hc (by simp[View.upd]) (λo h1 h2=>hi o (by omega) (by omega)) (by simp;omega) (λx hx=>hv x (Ue _ hx)) ?_;rw[auU];exact h
end
def Conc.set{E:Env}{V:View}{H:SA}(hc:Conc E V H){id:Nat}{l l':SC}{el:TypeId}(hk:H[id]?=some (.cells l el)){cE:SG}(hd:bR E l' cE):Conc E (V.upd (E.blk id) (.cells cE el (0,0))) (H.set id (.cells l' el)):=by obtain⟨⟨cs,h1,_⟩,h3⟩:=hc.obj id _ hk;refine hc.ja id (.cells l' el) (Env.Le.refl E) hc.I (by simpa using hc.n) lS rfl (λ_ _ _=>rfl) (λb y hb hy=>⟨?_,λ_=>rfl⟩) ⟨⟨cE,by simp[View.upd],hd⟩,h3⟩ (λb h=> .inl ⟨_,hk,h⟩);have:b≠E.blk id:=λe=>hb _ hk (by rw[e];rfl);simpa[View.upd,this]using hy
def aew:∀(vs:S6)(cs:SG)(off o:Nat),o<off->(storeAt cs off vs)[o]?=cs[o]?
 |[],_,_,_,_=>rfl
 |v::vs,cs,off,o,h=>by rw[storeAt,aew vs _ (off+1) o (by omega),Tx (by omega)]
def Conc.Fz{E:Env}{V:View}{H:SA}(hc:Conc E V H){id p:Nat}{l l':SC}{el:TypeId}(hk:H[id]?=some (.part p l el)){cs cE:SG}(h1:V.own (E.blk id)=some (.cells cs el (0,0)))(hd:ky E l' cE)(hs:∀o,o<p->cE[o]?=cs[o]?):Conc E (V.upd (E.blk id) (.cells cE el (0,0))) (H.set id (.part p l' el)):=by obtain⟨⟨AM,q1,_,q2⟩,h3⟩:=hc.obj id _ hk;rw[h1]at q1;cases q1;refine hc.ja id (.part p l' el) (Env.Le.refl E) hc.I (by simpa using hc.n) lS rfl (λ_ _ _=>rfl) (λb y hb hy=>⟨?_,λ_=>rfl⟩) ⟨⟨cE,by simp[View.upd],hd,λo ho=>(q2 o ho).trans (hs o ho).symm⟩,h3⟩ (λb h=> .inl ⟨_,hk,h⟩);have:b≠E.blk id:=λe=>hb _ hk (by rw[e];rfl);simpa[View.upd,this]using hy
def Conc.ad8{E:Env}{V:View}{H:SA}(hc:Conc E V H){id sz:Nat}{l l':SC}{el:TypeId}(hk:H[id]?=some (.own sz l el)){cE:SG}(hd:ky E l' cE)(hz:cE.size=(E.room id 0).2* sz):Conc E (V.upd (E.blk id) (.cells cE el (0,0))) (H.set id (.own sz l' el)):=by obtain⟨⟨cs,h1,_⟩,h3⟩:=hc.obj id _ hk;refine hc.ja id (.own sz l' el) (Env.Le.refl E) hc.I (by simpa using hc.n) lS rfl (λ_ _ _=>rfl) (λb y hb hy=>⟨?_,λ_=>rfl⟩) ⟨⟨cE,by simp[View.upd],hd,hz⟩,h3⟩ (λb h=> .inl ⟨_,hk,h⟩);have:b≠E.blk id:=λe=>hb _ hk (by rw[e];rfl);simpa[View.upd,this]using hy
def Conc.setObj{E:Env}{V:View}{H:SA}(hc:Conc E V H){id:Nat}{x y:Obj}(hk:H[id]?=some (.obj x))(h1:y.v5=false)(h2:y.isChan=false):Conc E (V.upd (E.blk id) y) (H.set id (.obj y)):=by obtain⟨p1,p2,p3,p4⟩:=hc.obj id _ hk;refine hc.ja id (.obj y) (Env.Le.refl E) hc.I (by simpa using hc.n) lS rfl (λ_ _ _=>rfl) (λb z hb hz=>⟨?_,λ_=>rfl⟩) ⟨by simp[View.upd],h1,h2,p4⟩ (λb h=> .inl ⟨_,hk,h⟩);have:b≠E.blk id:=λe=>hb _ hk (by rw[e];rfl);simpa[View.upd,this]using hz
def aoO{E:Env}{a:AV}{v:T9}(h:ay E a v)(hl:a.leaf=true):v.one=true:=by
 cases h with
 |val x=>exact hl
 |agg _ _=>cases hl
 |aJ _ _=>cases hl
 |_=>rfl
def iT (l:SC)(off:Nat)(lp:SC):SC:=l.take off++lp++l.drop (off+lp.length)
def GB{E:Env}{l lp:SC}{cs vs:SG}{off:Nat}(h:bR E l cs)(k:bR E lp vs)(hl:off+lp.length<=l.length):bR E (iT l off lp) (storeAt cs off vs.toList):=by
 have hv:vs.toList.length=lp.length:=by simpa using k.1
 refine⟨by rw[Ae,h.1];simp[iT];omega,λi a e=> ?_⟩;rw[FD _ _ _ _ (by rw[h.1,hv];exact hl),hv];unfold iT at e;by_cases h1:i<off;rw[if_neg (by omega)];rw[Ev,T6 (by simp;omega),Vh,if_pos h1]at e;exact h.2 i a e
 ·by_cases h2:i<off+lp.length
  ·rw[if_pos ⟨by omega,h2⟩];rw[T6 (by simp;omega),Uc (by simp;omega)]at e;have e':lp[i-off]?=some a:=by have:min off l.length=off:=(by omega);simpa[this]using e
   have:=k.2 _ a e';simpa[Th,Tf]using this
  ·rw[if_neg (by omega)];rw[Uc (by simp;omega),Vo]at e;have e':l[i]?=some a:=by have h3:off+lp.length+(i-(l.take off++lp).length)=i:=(by simp;omega);rw[h3]at e;exact e
   exact h.2 i a e'
def Rz{E:Env}{l lp:SC}{cs vs:SG}{off:Nat}(h:ky E l cs)(k:bR E lp vs)(hl:off+lp.length<=l.length):ky E (iT l off lp) (storeAt cs off vs.toList):=by
 have hv:vs.toList.length=lp.length:=by simpa using k.1
 refine⟨by rw[Ae];have:=h.1;simp[iT];omega,λi a e=> ?_⟩;rw[FD _ _ _ _ (by have:=h.1;rw[hv];omega),hv];unfold iT at e;by_cases h1:i<off;rw[if_neg (by omega)];rw[Ev,T6 (by simp;omega),Vh,if_pos h1]at e;exact h.2 i a e
 ·by_cases h2:i<off+lp.length
  ·rw[if_pos ⟨by omega,h2⟩];rw[T6 (by simp;omega),Uc (by simp;omega)]at e;have e':lp[i-off]?=some a:=by have:min off l.length=off:=(by omega);simpa[this]using e
   have:=k.2 _ a e';simpa[Th,Tf]using this
  ·rw[if_neg (by omega)];rw[Uc (by simp;omega),Vo]at e;have e':l[i]?=some a:=by have h3:off+lp.length+(i-(l.take off++lp).length)=i:=(by simp;omega);rw[h3]at e;exact e
   exact h.2 i a e'
def AR{E:Env}{lp:SC}{vs:SG}(h:bR E lp vs)(ov:∀a∈lp,a.leaf=true):∀v∈vs.toList,v.one=true:=by
 intro v hv;obtain⟨j,hj⟩:=VQ.1 hv;have fM:j<lp.length:=by have:=(Tn.1 hj).1;have:=h.1;simp at*;omega
 have:=h.2 j lp[j] (T4 fM);have iW:vs[j]?=some v:=by simpa using hj
 rw[Th,iW]at this;exact aoO this (ov _ (W_ fM))
section
variable {lv:Bool}{P:Tl}{r:SL}{o:Vp}{s:AS}{next:SV}{bad:AV->SV}
def aeu{t:TypeId}{x y:Up}{id off n:Nat}{l lp:SC}{el:TypeId}{g:Bool}{av:AV}(ho:o.op=.store t x y)(ht:Ty P t=some (n,g))(hx:s.ev x=some (.op id off))(hk:s.H[id]?=some (.cells l el))(hy:s.ev y=some av)(hp:av.parts=some lp)(jl:lp.length=n)(hl:off+lp.length<=l.length)
  (ov:∀a∈lp,a.leaf=true) (hn:next ((⟨s.T,s.H.set id (.cells (iT l off lp) el)⟩:AS).put o.dst (.val undef))):Step lv P r o s next bad:=by
 intro E V a N Q hc aI hd bC h1 _;obtain⟨i,d,q1,q2,rfl,q4⟩:=Ty.out ht;have dK:=ay.ev aI hx;generalize kH:a.eval x=vx at dK;cases dK with
 |op b_=>
  have bm:=(ay.ev aI hy).parts hp;obtain⟨⟨cs,p1,p2⟩,p3⟩:=hc.obj id _ hk;obtain⟨g1,g2⟩:=hc.jq hk rfl;refine⟨bC,?_⟩;unfold execOp;rw[ho];simp only[kH];refine aA ?_;unfold Zu Wh;refine aA (az ?_);unfold storeVar;refine jM q1 ?_;rw[if_neg (by rw[bm.1,jl];simp)];refine Aa _ 0 V cs g1 g2 p1 (λo _ _=>p3 o) (by have:=bm.1;have:=p2.1;simp;omega) (AR bm ov) ?_;rw[Vr];exact az (h1 E _ (a.put o.dst undef) _ ⟨Env.Le.refl E,ek _ _ _,put_defers _ _ _,rfl,rfl⟩ (by rw[fG];exact hc.set hk (GB p2 bm hl))
   (cu.iy (s:=⟨s.T,s.H.set id (.cells (iT l off lp) el)⟩) aI hd (.val undef)) hn)
def atP{t:TypeId}{x y:Up}{id off n p:Nat}{l lp:SC}{el:TypeId}{g:Bool}{av:AV}(ho:o.op=.store t x y)(ht:Ty P t=some (n,g))(hx:s.ev x=some (.op id off))(hk:s.H[id]?=some (.part p l el))(hpo:p<=off)(hy:s.ev y=some av)(hp:av.parts=some lp)(jl:lp.length=n)(hl:off+lp.length<=l.length)
  (ov:∀a∈lp,a.leaf=true) (hn:next ((⟨s.T,s.H.set id (.part p (iT l off lp) el)⟩:AS).put o.dst (.val undef))):Step lv P r o s next bad:=by
 intro E V a N Q hc aI hd bC h1 _;obtain⟨i,d,q1,q2,rfl,q4⟩:=Ty.out ht;have dK:=ay.ev aI hx;generalize kH:a.eval x=vx at dK;cases dK with
 |op b_=>
  have bm:=(ay.ev aI hy).parts hp;obtain⟨⟨cs,p1,p2,p4⟩,p3⟩:=hc.obj id _ hk;obtain⟨g1,g2⟩:=hc.jq hk rfl;refine⟨bC,?_⟩;unfold execOp;rw[ho];simp only[kH];refine aA ?_;unfold Zu Wh;refine aA (az ?_);unfold storeVar;refine jM q1 ?_;rw[if_neg (by rw[bm.1,jl];simp)];refine Aa _ 0 V cs g1 g2 p1 (λo _ _=>p3 o (by omega)) (by have:=bm.1;have:=p2.1;simp;omega) (AR bm ov) ?_;rw[Vr];exact az (h1 E _ (a.put o.dst undef) _ ⟨Env.Le.refl E,ek _ _ _,put_defers _ _ _,rfl,rfl⟩ (by rw[fG];exact hc.Fz hk p1 (Rz p2 bm hl) λo ho=>aew _ _ _ _ (by omega))
   (cu.iy (s:=⟨s.T,s.H.set id (.part p (iT l off lp) el)⟩) aI hd (.val undef)) hn)
def aev{t:TypeId}{x y:Up}{id off n p:Nat}{l lp:SC}{el:TypeId}{g:Bool}{av:AV}(ho:o.op=.store t x y)(ht:Ty P t=some (n,g))(hx:s.ev x=some (.op id off))(hk:s.H[id]?=some (.own p l el))(hy:s.ev y=some av)(hp:av.parts=some lp)(jl:lp.length=n)(hl:off+lp.length<=l.length)
  (ov:∀a∈lp,a.leaf=true) (hn:next ((⟨s.T,s.H.set id (.own p (iT l off lp) el)⟩:AS).put o.dst (.val undef))):Step lv P r o s next bad:=by
 intro E V a N Q hc aI hd bC h1 _;obtain⟨i,d,q1,q2,rfl,q4⟩:=Ty.out ht;have dK:=ay.ev aI hx;generalize kH:a.eval x=vx at dK;cases dK with
 |op b_=>
  have bm:=(ay.ev aI hy).parts hp;obtain⟨⟨cs,p1,p2,p4⟩,p3⟩:=hc.obj id _ hk;obtain⟨g1,g2⟩:=hc.jq hk rfl;refine⟨bC,?_⟩;unfold execOp;rw[ho];simp only[kH];refine aA ?_;unfold Zu Wh;refine aA (az ?_);unfold storeVar;refine jM q1 ?_;rw[if_neg (by rw[bm.1,jl];simp)];refine Aa _ 0 V cs g1 g2 p1 (λo _ _=>p3 o) (by have:=bm.1;have:=p2.1;simp;omega) (AR bm ov) ?_;rw[Vr];exact az (h1 E _ (a.put o.dst undef) _ ⟨Env.Le.refl E,ek _ _ _,put_defers _ _ _,rfl,rfl⟩ (by rw[fG];exact hc.ad8 hk (Rz p2 bm hl) (by rw[Ae];exact p4))
   (cu.iy (s:=⟨s.T,s.H.set id (.own p (iT l off lp) el)⟩) aI hd (.val undef)) hn)
def Conc.kK{E:Env}{V:View}{H:SA}(hc:Conc E V H){r:Nat}(hf:V.fresh r)(cs:SG):E.Le {E with I:=(V.kK r cs).ah}/\Conc {E with I:=(V.kK r cs).ah} (V.kK r cs) H:=by
 have hle:E.Le {E with I:=(V.kK r cs).ah}:=⟨λb o v h=>by
  rw[hc.I]at h;have hb:b≠r:=λhb=>by subst hb;rw[hf.2 o]at h;cases h
  simpa[View.kK,hb]using h,Tv _,λ_ _=>rfl,λ_ _=>Tv _,λ_ _ _ _=>rfl,rfl,rfl⟩
 have hlt:∀(k:Nat) y,H[k]?=some y->k<E.n:=λk y h=>by rw[hc.n];exact(Tn.1 h).1
 refine⟨hle,rfl,hc.n,λk x h=>(hc.obj k x h).mono hle (hlt k x h) rfl (λb y _ hb=>hb) (λb hb o=> ?_),hc.inj,λg hg=> ?_,λg hg=> ?_,hc.top,λb y hg=> ?_⟩
 ·obtain⟨y,hy⟩:=(hc.obj k x h).De hb;have aN:b≠r:=λe=>by subst e;rw[hf.1]at hy;cases hy
  simp[View.kK,aN]
 ·obtain⟨h0,h1,h2⟩:=hc.group g hg;have aN:g≠r:=λe=>by subst e;exact h0 hf.1
  exact⟨h0,λo=>by simp[View.kK,aN,h1 o],h2⟩
 ·obtain⟨h0,h1,h2⟩:=hc.chan g hg;have aN:g≠r:=λe=>by subst e;exact h0 hf.1
  exact⟨h0,λo=>by simp[View.kK,aN,h1 o],h2⟩
 ·obtain⟨h0,h1,h2⟩:=hc.fr b y hg;have aN:b≠r:=λe=>by subst e;rw[hf.1]at h0;cases h0
  exact⟨h0,λo=>by simp[View.kK,aN,h1 o],h2⟩
def ay.aq5{E:Env}{V:View}{H:SA}(hc:Conc E V H){r:Nat}(hf:V.fresh r){cs:SG}{l:SC}(h:bR E l cs){n cap:Nat}(dT:n<=cap){e:End}(he:qP {E with I:=(V.kK r cs).ah} e (some ⟨r,0,none⟩) n cap):ay {E with I:=(V.kK r cs).ah} (.sl n l e) (.slice (some ⟨r,0,none⟩) n cap):=by
 refine .sl r 0 cap (λi=>cs.getD i undef) dT he (λi hi=> ?_) λi x hx=>(h.2 i x hx).mono (hc.kK hf cs).1;have hlt:i<cs.size:=by rw[h.1];exact hi
 simp[View.kK,Th,Tj hlt]
def o6 (place:Nat->S9)(cells:SC):List (Nat×AV)->Option (SC)
 |[]=>some cells
 |(i,a)::rest=>match place i,a.parts with
  |some (off,size),some lp=>if lp.length≠size\/off+lp.length>cells.length then none else o6 place (iT cells off lp) rest
  |_,_=>none
def aao:∀(vs:S6)(k off:Nat)(cs:SG),(vs.zipIdx k).foldl (λ(cs:SG) (x:T9×Nat)=>cs.setIfInBounds (off+x.2) x.1) cs=storeAt cs (off+k) vs
 |[],_,_,_=>rfl
 |v::vs,k,off,cs=>by rw[List.zipIdx_cons,Wd,aao vs (k+1) off];rfl
def Dq{E:Env}{place:Nat->S9}:∀{parts:SH}{vs:List (Nat×T9)}{l l':SC}{cs:SG},bR E l cs->parts.length=vs.length->(∀(j:Nat) p q,parts[j]?=some p->vs[j]?=some q->p.1=q.1/\ay E p.2 q.2)->
  o6 place l parts=some l'->∃cE,axk place cs vs=some cE/\bR E l' cE
 |[],[],l,l',cs,h,_,_,e=>by cases e;exact⟨cs,rfl,h⟩
 |[],_::_,_,_,_,_,h,_,_=>by simp at h
 |_::_,[],_,_,_,_,h,_,_=>by simp at h
 |(i,a)::parts,(i',v)::vs,l,l',cs,h,hl,hp,e=>by obtain⟨e1,hd⟩:=hp 0 (i,a) (i',v) rfl rfl;have e1':i=i':=e1;subst e1';simp only[o6]at e;split at e;rename_i off size lp cJ Nc;split at e;cases e;rename_i hc;have bm:=ay.parts (v:=v) hd Nc;have a_:v.cells.size=lp.length:=bm.1;have hle:off+lp.length<=l.length:=(by omega);obtain⟨cE,h1,h2⟩:=Dq (GB h bm hle) (by simpa using hl) (λj p q x y=>hp (j+1) p q (by simpa using x) (by simpa using y)) e;refine⟨cE,?_,h2⟩;unfold axk;rw[cJ];simp only;rw[if_neg (by rw[a_,h.1];simp;omega)];have:=aao v.cells.toList 0 off cs;rw[Vr]at this;rw[<- h1,<- this];congr 1;rw[<- Array.toList_zipIdx,Array.foldl_toList];cases e
def kB (s:AS):List (Nat×Up)->Option (SH)
 |[]=>some []
 |(i,x)::l=>match s.ev x,kB s l with
  |some a,some aL=>some ((i,a)::aL)
  |_,_=>none
def GI{E:Env}{s:AS}{a:Act}(k:cu E s.T a.tmps):∀{l:List (Nat×Up)}{aL:SH},kB s l=some aL->aL.length=(l.map λ(i,x)=>(i,a.eval x)).length/\∀(j:Nat) p q,aL[j]?=some p->(l.map λ(i,x)=>(i,a.eval x))[j]?=some q->p.1=q.1/\ay E p.2 q.2
 |[],aL,h=>by cases h;exact⟨rfl,by simp⟩
 |(i,x)::l,aL,h=>by
  simp only[kB]at h;split at h
  ·rename_i av j9 h1 h2;cases h;obtain⟨nI,lQ⟩:=GI k h2;refine⟨by simpa using nI,λj p q e1 e2=> ?_⟩;cases j with
   |zero=>simp at e1 e2;subst e1 e2;exact⟨rfl,ay.ev k h1⟩
   |succ j=>exact lQ j p q (by simpa using e1) (by simpa using e2)
  ·cases h
def qS (P:Tl)(t:TypeId):Option (TypeId×Nat×T9):=match P.underlying t with
 |some (.slice e)=>(P.info? e).bind λi=>i.zero.map λz=>(e,i.size,z)
 |_=>none
def gF (z:T9)(m:Nat):SC:=(Tt m).map λi=>AV.qG (z.cells[i % z.cells.size]!)
inductive h_ where
 |fields (l:List (Nat×Nat))
 |elems (sz:Nat)
def h_.at:h_->Nat->Option (Nat×Nat)
 |.fields l,i=>l[i]?
 |.elems sz,i=>some (i* sz,sz)
def m_ (P:Tl)(t:TypeId):Option (h_×T9):=(eR P t).bind λz=>match P.underlying t with
 |some (.struct fs)=>(fs.toList.mapM λf=>(P.info? f.type).map λi=>(f.offset,i.size)).map λl=>(.fields l,z)
 |some (.array _ e)=>(P.info? e).map λi=>(.elems i.size,z)
 |_=>none
def ad1{P:Tl}{V:View}{Kp:SQ}:∀(fs:List aw7)(l:List (Nat×Nat)){K:List (Nat×Nat)->View->Prop},fs.mapM (λf=>(P.info? f.type).map λi=>(f.offset,i.size))=some l->
  K l V->aT P V (fs.mapM λf=>(do pure (f.offset,<- sizeOf f.type):Sem (Nat×Nat))) K Kp
 |[],l,K,h,hk=>by simp at h;subst h;rw[VB];exact az hk
 |f::fs,l,K,h,hk=>by simp only[U6,Vk,UW,Uj,Ul]at h;obtain⟨b,h1,bs,h2,rfl⟩:=h;obtain⟨i,hi,rfl⟩:=lz h1;rw[U6];exact aA (jM hi (az (aA (ad1 fs bs h2 (az hk)))))
def arh{t:TypeId}{parts:Array (Nat×Up)}{pl:h_}{z:T9}{aL:SH}{l:SC}(ho:o.op=.build t parts)(ht:m_ P t=some (pl,z))(hp:kB s parts.toList=some aL)
  (hl:o6 pl.at (my z) aL=some l):dH lv P r o s (.agg l):=
 iZ (λE V a hc aI=>by
  unfold m_ at ht;obtain⟨z',hz,ht⟩:=Uj.1 ht;obtain⟨hlen,bm⟩:=GI aI hp;unfold execOp;rw[ho];dsimp only;refine aA ?_;unfold Instr.build;refine I_ hz ?_;split at ht;rename_i fs hu;obtain⟨lp,h1,h2⟩:=lz ht;cases h2;obtain⟨cE,ou,vA⟩:=Dq (KH E z) hlen bm hl;refine ez hu ?_;dsimp only;have e:fs=fs.toList.toArray:=(by simp);rw[e,Zc];refine aA ?_;refine aA (ad1 fs.toList lp h1 ?_);refine az ?_;rw[W1];have e2:(λx=>lp.toArray[x]?)=h_.at (.fields lp):=(by funext x;simp[h_.at]);rw[e2,ou];exact az (az ⟨rfl,_,rfl,.agg vA.1 vA.2⟩);rename_i n e hu;obtain⟨i,h1,h2⟩:=lz ht;cases h2;obtain⟨cE,ou,vA⟩:=Dq (KH E z) hlen bm hl;refine ez hu ?_;dsimp only;refine jM h1 ?_;rw[W1];have e2:(λj=>some (j* i.size,i.size))=h_.at (.elems i.size):=rfl;rw[e2,ou];exact az (az ⟨rfl,_,rfl,.agg vA.1 vA.2⟩)
  ·cases ht)
def KG{E:Env}(z:T9)(m:Nat):bR E (gF z m) ((XS m).map (λx=>z.cells[x % z.cells.size]!)):=by
 refine⟨by simp[gF],λj x hx=> ?_⟩;unfold gF at hx;rw[Ur]at hx;obtain⟨k,hk,rfl⟩:=Uu.1 hx;have hj:j<m:=by have:=(Tn.1 hk).1;simpa using this
 have hmj:k=j:=by rw[awZ hj]at hk;cases hk;rfl
 subst hmj;simp only[Th,XI,Array.getElem?_range,hj,if_true,VT,T_];exact KE E _
def ari{t e:TypeId}{len sz:Nat}{z:T9}{parts:Array (Nat×Up)}{aL:SH}{l:SC}(ho:o.op=.buildSlice t len parts)(ht:qS P t=some (e,sz,z))(a_:len* sz<=2^24)(hp:kB s parts.toList=some aL)
  (hl:o6 (h_.at (.elems sz)) (gF z (len* sz)) aL=some l):dH lv P r o s (.sl len l .exact):=by
 intro E V a N Q hc aI bC h1;unfold qS at ht;split at ht
 ·rename_i e' hu;obtain⟨i,hi,ht⟩:=Uj.1 ht;obtain⟨z',hz,ht⟩:=Uu.1 ht;cases ht;refine⟨bC,?_⟩;unfold execOp;rw[ho];dsimp only;refine aA ?_;unfold Instr.buildSlice;refine ez hu ?_;dsimp only;refine jM hi ?_;rw[if_neg (by omega)];obtain⟨hlen,bm⟩:=GI aI hp;obtain⟨cE,ou,vA⟩:=Dq (KG (E:=E) z (len* i.size)) hlen bm hl;have fin:∀(rr:Nat),V.fresh rr->aT P (V.upd rr (.cells cE e)) (pure (Yf (.slice (some ⟨rr,0,none⟩) len len))) (ng lv P r o a N Q) (λv V'=>Q (.panic [{v,recovered:=false}]) a V'):=λrr hf=>aT.ghost (alD hf (hc.als hf.1).1) (az (h1 _ _ _ (hc.kK hf cE).1 rfl rfl (hc.kK hf cE).2 (ay.aq5 hc hf vA (Tv _) rfl)))
  have e2:(λj=>some (j* i.size,i.size))=h_.at (.elems i.size):=rfl;rw[e2];by_cases h0:len* i.size=0;rw[if_pos h0];refine aA (az ?_);rw[h0]at ou⊢;rw[show XS 0=#[]from rfl]at ou⊢;simp only[List.map_toArray,Zk,W1]at ou⊢;rw[ou];unfold newRow;exact aA (aA (aA (oQ λrr hf=>cj (az (az (az (fin rr hf)))))));rw[if_neg h0];refine aA (aA ?_);unfold typeInfo;refine aA (pK (cj ?_));rw[hi];refine az ?_;rw[hz];refine az (aA (az ?_));rw[W1,ou];unfold newRow;exact aA (aA (aA (oQ λrr hf=>cj (az (az (az (fin rr hf)))))))
 ·cases ht
end
def acQ (P:Tl)(t:TypeId):Bool:=match P.underlying t with
 |some (.int _)=>false
 |some _=>true
 |none=>false
def j4 (P:Tl)(t t':TypeId):Option (TypeId×Nat×T9):=match P.underlying t with
 |some (.slice e)=>(P.info? e).bind λi=>i.zero.bind λz=>if z.cells.size=i.size/\i.bytes<=2^16/\i.bytes≠0/\acQ P t'=true then some (e,i.size,z)else none
 |_=>none
def j4.out{P:Tl}{t t' e:TypeId}{sz:Nat}{z:T9}(h:j4 P t t'=some (e,sz,z)):∃i d,P.underlying t=some (.slice e)/\P.info? e=some i/\i.zero=some z/\i.size=sz/\z.cells.size=sz/\i.bytes<=2^16/\i.bytes≠0/\P.underlying t'=some d/\(∀k,d≠ .int k):=by unfold j4 at h;split at h;rename_i e' hu;obtain⟨i,h1,h⟩:=Uj.1 h;obtain⟨z',h2,h⟩:=Uj.1 h;split at h;rename_i hc;obtain⟨c1,c2,c3,c4⟩:=hc;cases h;unfold acQ at c4;split at c4;cases c4;rename_i d hd aN;exact⟨i,d,hu,h1,h2,rfl,c1,c2,c3,aN,λk e=>hd k e⟩;cases c4;cases h;cases h
def AS.src (s:AS)(sz:Nat):AV->Option (Nat×SC)
 |.sl m l _=>some (m,l.take (m* sz))
 |.bB id off m _=>match s.H[id]?with
  |some (.cells l _)|some (.part _ l _)|some (.own _ l _)=>some (m,(l.drop off).take (m* sz))
  |_=>none
 |_=>none
section
variable {P:Tl}{E:Env}{V:View}{s:AS}{K:Array T9->View->Prop}{Kp:SQ}
def GD{l:SC}{f:Nat->T9}{n:Nat}(hn:n<=l.length)(h:∀(i:Nat) x,l[i]?=some x->ay E x (f i)):bR E (l.take n) ((Tt n).map f).toArray:=by
 have:=Gz hn h;cases this with
 |agg h1 h2=>exact⟨h1,h2⟩
def Fx(hc:Conc E V s.H){av:AV}{v:T9}(hd:ay E av v){sz m k:Nat}{l:SC}(h:s.src sz av=some (m,l))(hl:l.length=m* sz)(hk:k<=m)(hK:∀cs,bR E (l.take (k* sz)) cs->K cs V):aT P V (WE sz k v) K Kp:=by
 have hks:k* sz<=m* sz:=U2 _ hk;cases hd with
 |sl b o cap f dT he h1 h2=>
  cases h;rename_i l _;simp only[Vl]at hl;have e:(l.take (m* sz)).take (k* sz)=l.take (k* sz):=by rw[VF];congr 1;omega
  rw[e]at hK;unfold WE;exact z9 (f:=f) (λhp=>(hc.NQ (h1 0 (by omega))).1) (λj hj=>by unfold View.get;rw[<- hc.I,h1 j (by omega)]) (hK _ (GD (by omega) h2))
 |nil he=>
  cases h;have:k=0:=by omega
  subst this;have hK:=hK #[] ⟨by simp,by simp⟩;unfold WE;split;rw[Y9];exact az hK;exact az hK;rename_i h;cases h
  ·rename_i a _ _ h1 h2 _;cases a with
   |none=>exact(h2 _ _ rfl).elim
   |some x=>exact(h1 _ _ _ rfl).elim
 |bB hi dT=>
  rename_i id off m' cap cap';simp only[AS.src]at h;cases hq:s.H[id]?with
  |none=>rw[hq]at h;cases h
  |some ob=>
   rw[hq]at h;cases ob with
   |cells l' el=>cases h;obtain⟨⟨cs,ho,hs,bm⟩,mb⟩:=hc.obj id _ hq;simp only[Vl,Vm]at hl;have e:((l'.drop off).take (m* sz)).take (k* sz)=(l'.drop off).take (k* sz):=(by rw[VF];congr 1;omega);rw[e]at hK;unfold WE;refine z9 (f:=λi=>cs.getD (off+i) undef) (λ_=>(hc.jq hq rfl).1) (λj hj=> ?_) (hK _ (GD (by simp only[Vm];omega) λi x hx=> ?_));unfold View.get;rw[mb,ho];have hlt:off+j<cs.size:=(by omega);simp only[Th,Tj hlt,T_];rw[Vo]at hx;exact bm _ _ hx
   |part p l' el=>cases h;obtain⟨⟨cs,ho,⟨hs,bm⟩,oD⟩,mb⟩:=hc.obj id _ hq;simp only[Vl,Vm]at hl;have e:((l'.drop off).take (m* sz)).take (k* sz)=(l'.drop off).take (k* sz):=(by rw[VF];congr 1;omega);rw[e]at hK;unfold WE;refine z9 (f:=λi=>cs.getD (off+i) undef) (λ_=>(hc.jq hq rfl).1) (λj hj=> ?_) (hK _ (GD (by simp only[Vm];omega) λi x hx=> ?_));have hlt:off+j<cs.size:=(by omega);unfold View.get;by_cases hp:off+j<p;rw[oD _ hp];simp only[Th,Tj hlt,T_];rw[mb _ (by omega),ho];simp only[Th,Tj hlt,T_];rw[Vo]at hx;exact bm _ _ hx
   |own eQ l' el=>cases h;obtain⟨⟨cs,ho,⟨hs,bm⟩,_⟩,mb⟩:=hc.obj id _ hq;simp only[Vl,Vm]at hl;have e:((l'.drop off).take (m* sz)).take (k* sz)=(l'.drop off).take (k* sz):=(by rw[VF];congr 1;omega);rw[e]at hK;unfold WE;refine z9 (f:=λi=>cs.getD (off+i) undef) (λ_=>(hc.jq hq rfl).1) (λj hj=> ?_) (hK _ (GD (by simp only[Vm];omega) λi x hx=> ?_));have hlt:off+j<cs.size:=(by omega);unfold View.get;rw[mb,ho];simp only[Th,Tj hlt,T_];rw[Vo]at hx;exact bm _ _ hx
   |_=>cases h
 |_=>cases h
def Jd{av:AV}{v:T9}(hd:ay E av v){sz m:Nat}{l:SC}(h:s.src sz av=some (m,l)):ayk v=pure m:=by
 cases hd with
 |sl=>cases h;rfl
 |nil=>cases h;rfl
 |bB=>simp only[AS.src]at h;split at h;cases h;rfl;cases h;rfl;cases h;rfl;cases h
 |_=>cases h
end
def aaE(wh:Nat):∀(r c:Nat),c<=2* wh+200->ao' wh r c<=2* wh+200
 |0,c,h=>h
 |r+1,c,h=>by unfold ao';split;exact h;exact aaE wh r _ (by omega)
def apU(wh cap:Nat)(h:cap<wh):Ye wh cap<=2* wh+200:=by unfold Ye;split;omega;split;omega;exact aaE wh 4 cap (by omega)
def AP{E:Env}{l m:SC}{x y:SG}(h:bR E l x)(k:bR E m y):bR E (l++m) (x++y):=by refine⟨by simp[h.1,k.1],λi a e=> ?_⟩;by_cases hi:i<l.length;rw[T6 hi]at e;have:=h.2 i a e;rw[Th,XJ (by rw[h.1];exact hi)];rwa[Th]at this;rw[Uc (by omega)]at e;have:=k.2 _ a e;rw[Th,Zj (by rw[h.1];omega),h.1];rwa[Th]at this
def Po{P:Tl}{V:View}{α:Type}{K:α->View->Prop}{Kp:SQ}{b:Bool}{k:Bool->Sem α}(hb:b=false)(h:aT P V (k false) K Kp):aT P V (pure b>>=k) K Kp:=by subst hb;exact aA (az h)
section
variable {P:Tl}{E:Env}{V:View}{s:AS}{K:SQ}{Kp:SQ}
def adW{n:Nat}{K:Unit->View->Prop}(h:K () V):aT P V (askRoom n) K Kp:=by unfold askRoom;split;exact asU (cj h);exact az h
def adV(hc:Conc E V s.H){t t' e:TypeId}{sz n m cap:Nat}{z:T9}{base:TA}{av:AV}{v:T9}{ax:AV}{l l':SC}{ty:TypeId}(ht:j4 P t t'=some (e,sz,z))(hd:ay E ax (.slice base n cap))(cx:s.src sz ax=some (n,l))(cM:ay E av v)(hs:s.src sz av=some (m,l'))
  (hl:l.length=n* sz) (eS:l'.length=m* sz) (hb:n+m<=2^30) (MI:cap<n+m)
  (hK:∀r cs cap',V.fresh r->bR E (l++l') (cs.extract 0 ((n+m)* sz))->n+m<=cap'->cs.size=cap'* sz->K (.slice (some ⟨r,0,none⟩) (n+m) cap') (V.upd r (.cells cs e))):aT P V (WJ #[t,t'] ty #[.slice base n cap,v]) K Kp:=by
 obtain⟨i,d,h1,h2,h3,h4,h5,h6,h7,h8,h9⟩:=j4.out ht;unfold WJ;simp only[Ws,WF,VL];refine ez h1 ?_;dsimp only;refine jM h2 ?_;rw[h4];refine ez h8 ?_;refine Po (by cases d<;>first|rfl|exact absurd rfl (h9 _)) ?_;simp only[UH,if_false,W5,if_true];rw[Jd cM hs];refine aA (az ?_);rw[if_neg (by omega)];refine Ab h2 ?_;rw[if_neg (by intro hx;exact hx.2.elim (λx=>x.elim) h7)];refine Ab h2 ?_;have dT:=apU (n+m) cap MI;have hmul:Ye (n+m) cap* i.bytes<=(2* 2^30+200)* 2^16:=axp (by omega) h6;rw[if_neg (by omega)];refine aA (adY (λhf=>by cases hf) (λ_ t=>cj ?_));generalize jA:axM (.appendCap (n+m) cap e) t=cap';have Hj:n+m<=cap':=by rw[<- jA];exact Nat.le_add_right _ _
 refine Ab h2 (aA (adW (aA ?_)));refine Fx hc hd cx hl (Tv _) λAM Mk=> ?_;refine aA (Fx hc cM hs eS (Tv _) λjT lE=> ?_);refine I_ (z:=z) (by unfold eR;rw[h2];exact h3) ?_;rw[<- hl,Ux]at Mk;rw[<- eS,Ux]at lE;unfold newRow;refine aA (aA (oQ λr hf=>cj (az (az ?_))));have anO:AM.size=n* sz:=by rw[Mk.1,hl]
 have BJ:jT.size=m* sz:=by rw[lE.1,eS]
 have a_:(AM++jT).size=(n+m)* sz:=by rw[YR,anO,BJ,Wi]
 refine hK r _ cap' hf ?_ Hj ?_
 ·have e1:(AM++jT++YB z.cells (cap'-(n+m))).extract 0 ((n+m)* sz)=AM++jT:=by rw[<- a_];generalize AM++jT=q;apply Wz;simp[Array.toList_extract,ZF]
  rw[e1];exact AP Mk lE
 ·rw[YR,a_];have:(YB z.cells (cap'-(n+m))).size=(cap'-(n+m))* sz:=by simp[YB,h5]
  rw[this,<- Wi];congr 1;omega
def I8(hc:Conc E V s.H){t t' e:TypeId}{sz n m cap:Nat}{z:T9}{base:TA}{av:AV}{v:T9}{en:End}{l l':SC}{ty:TypeId}(ht:j4 P t t'=some (e,sz,z))(hd:ay E (.sl n l en) (.slice base n cap))(cM:ay E av v)(hs:s.src sz av=some (m,l'))
  (hl:l.length=n* sz) (eS:l'.length=m* sz) (hb:n+m<=2^30) (MI:cap<n+m)
  (hK:∀r cs cap',V.fresh r->bR E (l++l') (cs.extract 0 ((n+m)* sz))->n+m<=cap'->cs.size=cap'* sz->K (.slice (some ⟨r,0,none⟩) (n+m) cap') (V.upd r (.cells cs e))):aT P V (WJ #[t,t'] ty #[.slice base n cap,v]) K Kp:=
 adV hc ht hd (by simp only[AS.src];rw[<- hl,Ux]) cM hs hl eS hb MI hK
def I9(hc:Conc E V s.H){t t' e:TypeId}{sz n cap:Nat}{z:T9}{base:TA}{av:AV}{v:T9}{l':SC}{ty:TypeId}(ht:j4 P t t'=some (e,sz,z))(cM:ay E av v)(hs:s.src sz av=some (0,l'))
  (eS:l'.length=0* sz) (hle:n<=cap) (hK:K (.slice base n cap) V):aT P V (WJ #[t,t'] ty #[.slice base n cap,v]) K Kp:=by
 obtain⟨i,d,h1,h2,h3,h4,h5,h6,h7,h8,h9⟩:=j4.out ht;unfold WJ;simp only[Ws,WF,VL];refine ez h1 ?_;dsimp only;refine jM h2 ?_;rw[h4];refine ez h8 ?_;refine Po (by cases d<;>first|rfl|exact absurd rfl (h9 _)) ?_;simp only[UH,if_false,W5,if_true];rw[Jd cM hs];refine aA (az ?_);rw[if_pos (by omega)];refine aA (Fx hc cM hs eS (Tv _) λjT lE=> ?_);have BJ:jT=#[]:=by have:=lE.1;apply Xw;rw[this];simp
 subst BJ;rw[Vr];cases base with
 |none=>exact az hK
 |some a=>dsimp only;unfold storeCells;exact aA (az (az hK))
def adU(hc:Conc E V s.H){t t' e:TypeId}{sz n m cap:Nat}{z:T9}{b:Nat}{av:AV}{v:T9}{l':SC}{ty:TypeId}{cs:SG}{el:TypeId}(ht:j4 P t t'=some (e,sz,z))(cM:ay E av v)(hs:s.src sz av=some (m,l'))
  (eS:l'.length=m* sz) (hle:n+m<=cap) (ho:V.own b=some (.cells cs el (0,0))) (a_:cap* sz<=cs.size) (hi:∀o,n* sz<=o->V.ah b o=none) (hg:V.role.group≠some b/\V.role.chan≠some b) (ov:∀a∈l',a.leaf=true)
  (hK:∀jT,bR E l' jT->K (.slice (some ⟨b,0,none⟩) (n+m) cap) (V.upd b (.cells (storeAt cs (n* sz) jT.toList) el (0,0)))):aT P V (WJ #[t,t'] ty #[.slice (some ⟨b,0,none⟩) n cap,v]) K Kp:=by
 obtain⟨i,d,h1,h2,h3,h4,h5,h6,h7,h8,h9⟩:=j4.out ht;unfold WJ;simp only[Ws,WF,VL];refine ez h1 ?_;dsimp only;refine jM h2 ?_;rw[h4];refine ez h8 ?_;refine Po (by cases d<;>first|rfl|exact absurd rfl (h9 _)) ?_;simp only[UH,if_false,W5,if_true];rw[Jd cM hs];refine aA (az ?_);rw[if_pos (by omega)];refine aA (Fx hc cM hs eS (Tv _) λjT lE=> ?_);rw[<- eS,Ux]at lE;rw[add_plain];have vO:(n+m)* sz<=cap* sz:=U2 _ hle;rw[Wi]at vO;refine aA (Aa _ 0 V cs hg.1 hg.2 ho (λo h _=>hi o (by omega)) (by have:=lE.1;simp;omega) (AR lE ov) ?_);rw[WK,Vr];exact az (hK jT lE)
end
def Env.tok (E:Env)(I:cC)(rm:Option Wy×Nat)(v:Nat):Env:={E with I:=I,n:=E.n+1,room:=λk u=>if k=E.n/\u=v then rm else E.room k u,gn:=λk=>if k=E.n then v else E.gn k}
def Env.Oe(E:Env){I:cC}(hI:∀b o v,E.I b o=some v->I b o=some v)(rm:Option Wy×Nat)(v:Nat):E.Le (E.tok I rm v):=
 ⟨hI,Z_ _,λk hk=>rfl,λk hk=>by simp[Env.tok,XN hk],λk u hk _=>by simp[Env.tok,XN hk],rfl,rfl⟩
def Env.grow (E:Env)(I:cC)(k:Nat)(rm:Option Wy×Nat)(v:Nat):Env:={E with I:=I,room:=λj u=>if j=k/\u=v then rm else E.room j u,gn:=λj=>if j=k then v else E.gn j}
def Env.acl(E:Env){I:cC}(hI:∀b o v,E.I b o=some v->I b o=some v){k:Nat}(rm:Option Wy×Nat){v:Nat}(hv:E.gn k<v):E.Le (E.grow I k rm v):=
 ⟨hI,Tv _,λ_ _=>rfl,λj _=>by
  simp only[Env.grow];split;rename_i e;subst e;omega
  ·exact Tv _,λj u _ hu=>by
  simp only[Env.grow];split;rename_i e;obtain⟨rfl,rfl⟩:=e;omega
  ·rfl,rfl,rfl⟩
abbrev View.laid (V:View)(b:Nat)(cs:Array T9)(el:TypeId)(p:Nat->Bool):View:=(V.upd b (.cells cs el (0,0))).fe b cs p
def Oa{V:View}{b b':Nat}{cs:SG}{el:TypeId}{p:Nat->Bool}(h:b'≠b):(V.laid b cs el p).own b'=V.own b':=by simp[View.laid,View.fe,View.upd,h]
def N_{V:View}{b b':Nat}{cs:SG}{el:TypeId}{p:Nat->Bool}(h:b'≠b)(o:Nat):(V.laid b cs el p).ah b' o=V.ah b' o:=by simp[View.laid,View.fe,View.upd,h]
def Ip{V:View}{b:Nat}{cs:SG}{el:TypeId}{p:Nat->Bool}(hp:∀o,p o=true->V.ah b o=none):∀b' o v,V.ah b' o=some v->(V.laid b cs el p).ah b' o=some v:=λb' o v h=>by
 have hn:¬(b'=b/\p o=true):=λhb=>by obtain⟨rfl,h2⟩:=hb;rw[hp o h2]at h;cases h
 simp only[View.laid,View.fe,View.upd,if_neg hn];exact h
def Io{V:View}{b:Nat}{cs:SG}{el:TypeId}{p:Nat->Bool}{o:Nat}(h:p o=true):(V.laid b cs el p).ah b o=cs[o]?:=by simp[View.laid,View.fe,h]
def Ob{V:View}{b:Nat}{cs:SG}{el:TypeId}{p:Nat->Bool}:(V.laid b cs el p).own b=some (.cells cs el (0,0)):=by simp[View.laid,View.fe,View.upd]
def KF{E:Env}{I:cC}{b n cap:Nat}{cs:SG}{l:SC}{e:End}{sz:Nat}(hI:E.I=I)(hd:bR E l (cs.extract 0 (n* sz)))(hl:l.length=n* sz)(hs:n* sz<=cs.size)(hi:∀o,o<n* sz->I b o=cs[o]?)(hc:n<=cap)(he:qP E e (some ⟨b,0,none⟩) n cap):ay E (.sl n l e) (.slice (some ⟨b,0,none⟩) n cap):=by
 refine .sl b 0 cap (λi=>cs.getD i undef) hc he (λi h=> ?_) (λi x hx=> ?_)
 ·rw[hl]at h;have hlt:i<cs.size:=by omega
  rw[hI,WK,hi i h];simp only[Th,Tj hlt,T_]
 ·have cN:i<n* sz:=by rw[<- hl];exact(Tn.1 hx).1
  have:=hd.2 i x hx;have hlt:i<cs.size:=by omega
  rw[Th,Tj hlt];rw[Th]at this;rw[Array.getElem?_extract]at this;have HB:i<min (n* sz) cs.size:=by omega
  simpa[cN,hlt,HB]using this
section
variable {E:Env}{V:View}{H:SA}
def Conc.PF(hc:Conc E V H){n:Nat}(sz:Nat)(el:TypeId)(a:TA):Conc (E.tok V.ah (a,n) n) V (H++[.tail n sz el])/\E.Le (E.tok V.ah (a,n) n):=by have hle:=E.Oe (I:=V.ah) (λb o v h=>by rw[<- hc.I];exact h) (a,n) n;refine⟨hc.ja H.length (.tail n sz el) hle rfl (by simp[Env.tok,hc.n]) EU rfl (λj hj _=>by simp[Env.tok,hc.n,hj]) (λb y _ hy=>⟨hy,λ_=>rfl⟩) ?_ (λb h=> ?_),hle⟩;rw[<- hc.n];exact⟨by simp[Env.tok],.inl (by simp[Env.tok])⟩;rw[<- hc.n]at h;simp[bP,Env.tok]at h
def Conc.aeL(hc:Conc E V H){r n cap sz:Nat}{el:TypeId}{cs:SG}(hf:V.fresh r)(hs:cs.size=cap* sz)(hn:n<=cap):
  Conc (E.tok (V.laid r cs el (·<n* sz)).ah (some ⟨r,0,none⟩,cap) n) (V.laid r cs el (·<n* sz)) (H++[.tail n sz el])/\E.Le (E.tok (V.laid r cs el (·<n* sz)).ah (some ⟨r,0,none⟩,cap) n):=by
 have hle:=E.Oe (I:=(V.laid r cs el (·<n* sz)).ah) (λb o v h=>Ip (λo _=>hf.2 o) b o v (by rw[<- hc.I];exact h)) (some ⟨r,0,none⟩,cap) n;refine⟨hc.ja H.length (.tail n sz el) hle rfl (by simp[Env.tok,hc.n]) EU rfl (λj hj _=>by simp[Env.tok,hc.n,hj]) (λb y _ hy=> ?_) ?_ (λb h=> .inr ?_),hle⟩
 ·have hb:b≠r:=λe=>by subst e;rw[hf.1]at hy;cases hy
  exact⟨by rw[Oa hb];exact hy,λo=>N_ hb o⟩
 ·rw[<- hc.n];refine⟨by simp[Env.tok],?_⟩;by_cases e:cap=n;exact .inl (by simp[Env.tok,e]);refine .inr ⟨r,cap,cs,by simp[Env.tok],Ob,hs,by omega,λo ho=> ?_⟩;have:¬(decide (o<n* sz)=true):=(by simpa using ho);simp only[View.laid,View.fe];rw[if_neg (λx=>this x.2)];exact hf.2 o
 ·rw[<- hc.n]at h;simp[bP,Env.tok]at h;obtain⟨_,rfl⟩:=h;exact hf.1
def Conc.alJ(hc:Conc E V H){k r n n' cap sz:Nat}{el gW:TypeId}{cs:SG}(hk:H[k]?=some (.tail n sz gW))(hf:V.fresh r)(hs:cs.size=cap* sz)(hn:n'<=cap)(hlt:n<n'):
  Conc (E.grow (V.laid r cs el (·<n'* sz)).ah k (some ⟨r,0,none⟩,cap) n') (V.laid r cs el (·<n'* sz)) (H.set k (.tail n' sz el))/\E.Le (E.grow (V.laid r cs el (·<n'* sz)).ah k (some ⟨r,0,none⟩,cap) n'):=by
 have BN:E.gn k=n:=(hc.obj k _ hk).1;have hle:=E.acl (I:=(V.laid r cs el (·<n'* sz)).ah) (λb o v h=>Ip (λo _=>hf.2 o) b o v (by rw[<- hc.I];exact h)) (k:=k) (some ⟨r,0,none⟩,cap) (v:=n') (by omega);refine⟨hc.ja k (.tail n' sz el) hle rfl (by simpa[Env.grow]using hc.n) lS rfl (λj hj _=>by simp[Env.grow,hj]) (λb y _ hy=> ?_) ?_ (λb h=> .inr ?_),hle⟩
 ·have hb:b≠r:=λe=>by subst e;rw[hf.1]at hy;cases hy
  exact⟨by rw[Oa hb];exact hy,λo=>N_ hb o⟩
 ·refine⟨by simp[Env.grow],?_⟩;by_cases e:cap=n';exact .inl (by simp[Env.grow,e]);refine .inr ⟨r,cap,cs,by simp[Env.grow],Ob,hs,by omega,λo ho=> ?_⟩;have:¬(decide (o<n'* sz)=true):=(by simpa using ho);simp only[View.laid,View.fe];rw[if_neg (λx=>this x.2)];exact hf.2 o
 ·simp[bP,Env.grow]at h;obtain⟨_,rfl⟩:=h;exact hf.1
def Conc.alK(hc:Conc E V H){k b n n' cap sz:Nat}{el gW:TypeId}{cs cE:SG}(hk:H[k]?=some (.tail n sz gW))(hrm:E.room k n=(some ⟨b,0,none⟩,cap))(ho:V.own b=some (.cells cs el (0,0)))(hi:∀o,n* sz<=o->V.ah b o=none)(hs:cE.size=cap* sz)(hn:n'<=cap)(hlt:n<n'):
  Conc (E.grow (V.laid b cE el (λo=>n* sz<=o&&o<n'* sz)).ah k (some ⟨b,0,none⟩,cap) n') (V.laid b cE el (λo=>n* sz<=o&&o<n'* sz)) (H.set k (.tail n' sz el))/\E.Le (E.grow (V.laid b cE el (λo=>n* sz<=o&&o<n'* sz)).ah k (some ⟨b,0,none⟩,cap) n'):=by
 have BN:E.gn k=n:=(hc.obj k _ hk).1;have hp:∀o,(λo=>decide (n* sz<=o)&&decide (o<n'* sz)) o=true->V.ah b o=none:=λo h=>hi o (by simp at h;exact h.1);have hle:=E.acl (I:=(V.laid b cE el (λo=>n* sz<=o&&o<n'* sz)).ah) (λb o v h=>Ip hp b o v (by rw[<- hc.I];exact h)) (k:=k) (some ⟨b,0,none⟩,cap) (v:=n') (by omega);have kS:bP E k (.tail n sz gW)=some b:=by simp only[bP,hrm];rw[if_neg (by omega)];rfl
 refine⟨hc.ja k (.tail n' sz el) hle rfl (by simpa[Env.grow]using hc.n) lS rfl (λj hj _=>by simp[Env.grow,hj]) (λb' y ew hy=> ?_) ?_ (λb' h=> .inl ⟨_,hk,?_⟩),hle⟩
 ·have hb:b'≠b:=λe=>by subst e;exact ew _ hk kS
  exact⟨by rw[Oa hb];exact hy,λo=>N_ hb o⟩
 ·refine⟨by simp[Env.grow],?_⟩;by_cases e:cap=n';exact .inl (by simp[Env.grow,e]);have HE:n* sz<=n'* sz:=U2 _ (by omega);refine .inr ⟨b,cap,cE,by simp[Env.grow],Ob,hs,by omega,λo bl=> ?_⟩;have:¬((decide (n* sz<=o)&&decide (o<n'* sz))=true):=(by simp;omega);simp only[View.laid,View.fe];rw[if_neg (λx=>this x.2)];exact hi o (by omega)
 ·simp[bP,Env.grow]at h;obtain⟨_,rfl⟩:=h;exact kS
end
section
variable {lv:Bool}{P:Tl}{r:SL}{o:Vp}{s:AS}{next:SV}{bad:AV->SV}
def CC (s:AS)(dst:SL)(next:SV)(n m sz:Nat)(elem:TypeId)(l l':SC):End->Prop
 |.exact=>next ((⟨s.T,s.H++[.tail (n+m) sz elem]⟩:AS).put dst (.sl (n+m) (l++l') (.opn s.H.length)))
 |.opn k=>(match s.H[k]?with
   |some (.tail n' eQ gW)=>n'=n/\eQ=sz/\gW=elem
   |_=>False)/\(∀a∈l',a.leaf=true)/\next ((⟨s.T,s.H.set k (.tail (n+m) sz elem)⟩:AS).put dst (.sl (n+m) (l++l') (.opn k)))
 |.shut=>m=0/\next (s.put dst (.sl n l .shut))
def aix{E E':Env}{n:Nat}{l:SC}{en:End}{base:TA}{cap:Nat}(h:ay E (.sl n l en) (.slice base n cap))(hl:E.Le E'){e':End}(he:qP E' e' base n cap):ay E' (.sl n l e') (.slice base n cap):=by
 cases h with
 |sl b o cap f hc _ h1 h2=>exact .sl b o cap f hc he (λi hi=>hl.I _ _ _ (h1 i hi)) (λi x hx=>(h2 i x hx).mono hl)
 |nil _=>exact .nil he
def step_append{c:Yv}{x y:Up}{t t' elem:TypeId}{sz n m:Nat}{z:T9}{en:End}{l l':SC}{av:AV}(ho:o.op=.call c)(aY:c.callee=.builtin .append)(cU:c.args=#[x,y])(d_:c.argTypes=#[t,t'])(ht:j4 P t t'=some (elem,sz,z))
  (hx:s.ev x=some (.sl n l en)) (hy:s.ev y=some av) (hs:s.src sz av=some (m,l')) (hl:l.length=n* sz) (eS:l'.length=m* sz) (hb:n+m<=2^30) (hn:CC s o.dst next n m sz elem l l' en):Step lv P r o s next bad:=by
 intro E V a N Q hc aI hd bC h1 _;refine⟨bC,?_⟩;have dK:=ay.ev aI hx;have jf:=ay.ev aI hy;generalize kH:a.eval x=vx at dK;generalize sR:a.eval y=vy at jf;unfold execOp;rw[ho];dsimp only;unfold resolve;rw[aY];dsimp only;refine aA (az ?_);unfold invoke builtin;dsimp only;refine aA ?_;have ow:c.args.map a.eval=#[vx,vy]:=by rw[cU];simp[kH,sR]
 rw[ow,d_];obtain⟨base,cap,rfl⟩:∃base cap,vx=.slice base n cap:=by
  cases dK with
  |sl b o cap f dT he q1 q2=>exact⟨_,_,rfl⟩
  |nil he=>exact⟨_,_,rfl⟩
 have dT:n<=cap:=by
  cases dK with
  |sl b o cap f dT he q1 q2=>exact dT
  |nil he=>exact Tv _
 have fin:∀E' V' H' (ni:AV) v',E.Le E'->V'.role=V.role->V'.deaf=V.deaf->Conc E' V' H'->ay E' ni v'->next ((⟨s.T,H'⟩:AS).put o.dst ni)->aT P V' (pure (Yf v')) (ng lv P r o a N Q) (λv V'=>Q (.panic [{v,recovered:=false}]) a V'):=λE' V' H' ni v' hle hr vC bu bm dj=>az (h1 E' V' (a.put o.dst v') ((⟨s.T,H'⟩:AS).put o.dst ni) ⟨hle,ek _ _ _,put_defers _ _ _,hr,vC⟩ (by rw[fG];exact bu) (cu.iy (s:=⟨s.T,H'⟩) (aI.mono hle) hd bm) dj)
 have uv:(l++l').length=(n+m)* sz:=by rw[Tp,hl,eS,Wi]
 cases en with
 |exact=>
  have eN:cap=n:=by
   cases dK with
   |sl b o cap f dT he q1 q2=>exact he
   |nil he=>rfl
  subst eN;have jl:=hn;simp only[CC]at jl;by_cases hm:m=0;subst hm;have uh:l'=[]:=(by simpa using eS);subst uh;refine I9 hc ht jf hs eS (Tv _) ?_;obtain⟨bu,hle⟩:=hc.PF (n:=cap) sz elem base;refine fin _ V _ _ _ hle rfl rfl bu (aix (e':=.opn s.H.length) dK hle ⟨?_,?_,?_⟩) (by simpa using jl);simp[Env.tok,hc.n];simp[Env.tok,hc.n];simp[Env.tok,hc.n]
  ·refine I8 hc ht dK jf hs hl eS hb (by omega) λrr cs cap' hf bm hle a_=> ?_;obtain⟨bu,sJ⟩:=hc.aeL (el:=elem) hf a_ hle;have vU:(cap+m)* sz<=cs.size:=(by rw[a_];exact U2 _ hle);refine aT.ghost (yN (f:=(0,0)) (cs:=cs) (el:=elem) (p:=(·<(cap+m)* sz)) (by simp[View.upd]) (λo _=>hf.2 o)) ?_;refine fin _ _ _ _ _ sJ rfl rfl bu (KF (I:=(V.laid rr cs elem (·<(cap+m)* sz)).ah) (e:=.opn s.H.length) (sz:=sz) (cs:=cs) rfl (bm.mono sJ) uv vU (λo h=>Io (by simpa using h)) hle ⟨?_,?_,?_⟩) jl
   ·simp[Env.tok,hc.n]
   ·simp[Env.tok,hc.n]
   ·simp[Env.tok,hc.n]
 |shut=>
  obtain⟨rfl,jl⟩:=hn;have uh:l'=[]:=by simpa using eS
  subst uh;refine I9 hc ht jf hs eS dT ?_;exact fin E V s.H _ _ (Env.Le.refl E) rfl rfl hc dK jl
 |opn k=>
  obtain⟨vK,ov,jl⟩:=hn;split at vK
  ·rename_i n' eQ gW hk;obtain⟨rfl,rfl,rfl⟩:=vK;have heo:qP E (.opn k) base n' cap:=by
    cases dK with
    |sl b o cap f dT he q1 q2=>exact he
    |nil he=>exact he
   obtain⟨e1,e2,e3⟩:=heo;obtain⟨BN,HR⟩:=hc.obj k _ hk;have ut:s.H.set k (.tail n' eQ gW)=s.H:=by apply Yd;intro i;by_cases hi:i=k;subst hi;rw[Ym (Tn.1 hk).1,hk];rw[Vd (Ne.symm hi)]
   by_cases hm:m=0;subst hm;have uh:l'=[]:=(by simpa using eS);subst uh;refine I9 hc ht jf hs eS dT ?_;refine fin E V s.H _ _ (Env.Le.refl E) rfl rfl hc dK ?_;rw[Vr,ut,Ts]at jl;exact jl
   ·by_cases rq:n'+m<=cap
    ·rcases HR with HR|⟨b,av6,cs,r1,r2,r3,r4,r5⟩;rw[e3]at HR;simp only at HR;omega
     ·rw[e3]at r1;cases r1;have kS:bP E k (.tail n' eQ gW)=some b:=by simp only[bP,e3];rw[if_neg (by omega)];rfl
      refine adU hc ht jf hs eS rq r2 (Yx r3.symm) r5 (hc.jq hk kS) ov λjT lE=> ?_;have BJ:jT.toList.length=m* eQ:=(by have:=lE.1;simp;omega);have vO:(n'+m)* eQ<=cap* eQ:=U2 _ rq;rw[Wi]at vO;have zq:(storeAt cs (n'* eQ) jT.toList).size=cap* eQ:=(by rw[Ae];exact r3);obtain⟨bu,sJ⟩:=hc.alK hk e3 r2 r5 zq rq (by omega);refine aT.ghost (yN (f:=(0,0)) (cs:=storeAt cs (n'* eQ) jT.toList) (el:=gW) (p:=λo=>n'* eQ<=o&&o<(n'+m)* eQ) (by simp[View.upd]) (λo h=>r5 o (by simp at h;exact h.1))) ?_;refine fin _ _ _ _ _ sJ rfl rfl bu ?_ jl;cases dK with
      |nil he=>exact absurd rq (by omega)
      |sl b' o' cap f Hj he q1 q2=>
       have q1':∀i,i<l.length->V.ah b i=some (f i):=λi hi=>(by have:=q1 i hi;rwa[hc.I,WK]at this);refine .sl b 0 cap (λi=>if i<n'* eQ then f i else(storeAt cs (n'* eQ) jT.toList).getD i undef) (by omega) ⟨?_,?_,?_⟩ (λi hi=> ?_) (λi x hx=> ?_)
       ·exact e1
       ·simp[Env.grow]
       ·simp[Env.grow]
       ·rw[uv,Wi]at hi;show (V.laid b (storeAt cs (n'* eQ) jT.toList) gW (λo=>n'* eQ<=o&&o<(n'+m)* eQ)).ah b (0+i)=_;rw[WK];by_cases cN:i<n'* eQ;rw[if_pos cN];exact Ip (λo h=>r5 o (by simp at h;exact h.1)) _ _ _ (q1' i (by omega));rw[if_neg cN,Io (by simp[Wi];omega)];have hlt:i<(storeAt cs (n'* eQ) jT.toList).size:=(by rw[zq];omega);simp only[Th,Tj hlt,T_]
       ·by_cases cN:i<n'* eQ;rw[T6 (by omega)]at hx;rw[if_pos cN];exact(q2 i x hx).mono sJ;(rw[Uc (by omega)]at hx;have sG:i-l.length<l'.length:=(Tn.1 hx).1;rw[if_neg cN,FD _ _ _ _ (by rw[BJ,r3];omega),if_pos (by rw[BJ];omega)];have:=(lE.2 _ _ hx).mono sJ;rw[hl]at this;simpa[Th,Tf]using this)
    ·refine I8 hc ht dK jf hs hl eS hb (by omega) λrr cs cap' hf bm hle a_=> ?_;obtain⟨bu,sJ⟩:=hc.alJ (el:=gW) (n':=n'+m) hk hf a_ hle (by omega);have vU:(n'+m)* eQ<=cs.size:=(by rw[a_];exact U2 _ hle);refine aT.ghost (yN (f:=(0,0)) (cs:=cs) (el:=gW) (p:=(·<(n'+m)* eQ)) (by simp[View.upd]) (λo _=>hf.2 o)) ?_;refine fin _ _ _ _ _ sJ rfl rfl bu (KF (I:=(V.laid rr cs gW (·<(n'+m)* eQ)).ah) (e:=.opn k) (sz:=eQ) (cs:=cs) rfl (bm.mono sJ) uv vU (λo h=>Io (by simpa using h)) hle ⟨?_,?_,?_⟩) jl
     ·exact e1
     ·simp[Env.grow]
     ·simp[Env.grow]
  ·exact vK.elim
def Env.iK (E:Env)(r:Nat)(I:cC)(c:Nat):Env:={E with I:=I,n:=E.n+1,blk:=λk=>if k=E.n then r else E.blk k,room:=λk u=>if k=E.n/\u=0 then(none,c)else E.room k u}
def Env.ET(E:Env)(r c:Nat){I:cC}(hI:∀b o v,E.I b o=some v->I b o=some v):E.Le (E.iK r I c):=
 ⟨hI,Z_ _,λk hk=>by simp[Env.iK,XN hk],λ_ _=>Tv _,λk u hk _=>by simp[Env.iK,XN hk],rfl,rfl⟩
def Env.yp(E:Env)(r c:Nat)(I:cC):(E.iK r I c).blk E.n=r:=by simp[Env.iK]
def Env.J6(E:Env)(r c:Nat)(I:cC):(E.iK r I c).room E.n 0=(none,c):=by simp[Env.iK]
def Conc.iK{E:Env}{V:View}{H:SA}(hc:Conc E V H){r c:Nat}(hf:V.fresh r){cs:SG}{sz:Nat}{l:SC}{el:TypeId}(hd:ky (E.iK r V.ah c) l cs)(hs:cs.size=c* sz):Conc (E.iK r V.ah c) (V.upd r (.cells cs el)) (H++[.own sz l el]):=by
 refine hc.ja (E':=E.iK r V.ah c) H.length (.own sz l el) (E.ET r c (λb o v h=>by rw[<- hc.I];exact h)) rfl (by simp[Env.iK,hc.n]) EU rfl (λ_ _ _=>rfl) (λb z _ hz=>⟨?_,λ_=>rfl⟩) ?_ (λb h=> .inr ?_)
 ·have:b≠r:=λe=>by rw[e,hf.1]at hz;cases hz
  simpa[View.upd,this]using hz
 ·rw[<- hc.n];refine⟨⟨cs,by rw[Env.yp];simp[View.upd],hd,by rw[Env.J6];exact hs⟩,λo=> ?_⟩;rw[Env.yp];exact hf.2 o
 ·rw[<- hc.n]at h;simp only[bP,Env.yp,Ul]at h;subst h;exact hf.1
def KC{E:Env}{H:SA}(hn:E.n=H.length){r c n:Nat}(I:cC)(h:n<=c){cap:Nat}(pz:n<=cap)(hc:cap<=c)(h0:0<n):ay (E.iK r I c) (.bB H.length 0 n 0) (.slice (some ⟨r,0,none⟩) n cap):=by
 have:=ay.bB (E:=E.iK r I c) (id:=H.length) (off:=0) (n:=n) (cap:=0) (cap':=cap) (by show _<E.n+1;rw[hn];omega) ⟨pz,λe=>by omega,λ_=>by rw[<- hn,Env.J6];exact hc⟩;have e:(E.iK r I c).blk H.length=r:=by rw[<- hn];exact E.yp r c I
 rwa[e]at this
def Conc.relabel{E:Env}{V:View}{H:SA}(hc:Conc E V H){id sz:Nat}{l:SC}{el:TypeId}(hk:H[id]?=some (.own sz l el)):Conc (E.iK (E.blk id) V.ah (E.room id 0).2) V (H.set id .gone++[.own sz l el]):=by
 have hle:=E.ET (E.blk id) (E.room id 0).2 (I:=V.ah) (λb o v h=>by rw[<- hc.I];exact h);have awn:=(Tn.1 hk).1;have hlt:∀(j:Nat) y,H[j]?=some y->j<E.n:=λj y h=>by rw[hc.n];exact(Tn.1 h).1
 have qk:∀(j:Nat) y,(H.set id .gone++[aa.own sz l el])[j]?=some y->(j=H.length/\y=.own sz l el)\/(j=id/\y=.gone)\/(j≠id/\H[j]?=some y):=λj y h=>by rcases EU j y h with⟨h1,h2⟩|⟨_,h⟩;exact .inl ⟨by simpa using h1,h2⟩;rcases lS j y h with h|h;exact .inr (.inl h);exact .inr (.inr h)
 have cI:∀(j:Nat) y b,H[j]?=some y->bP (E.iK (E.blk id) V.ah (E.room id 0).2) j y=some b->bP E j y=some b:=λj y b h e=>by rw[<- QY hle (hlt j y h) (hc.obj j y h)];exact e
 have xw:∀b,bP (E.iK (E.blk id) V.ah (E.room id 0).2) H.length (.own sz l el)=some b->b=E.blk id:=λb e=>by simp only[bP,<- hc.n,Env.yp,Ul]at e;exact e.symm
 have ew:∀g,(∀(k:Nat) x,H[k]?=some x->bP E k x≠some g)->∀(k:Nat) x,(H.set id .gone++[aa.own sz l el])[k]?=some x->bP (E.iK (E.blk id) V.ah (E.room id 0).2) k x≠some g:=λg h0 k x hx e=>by rcases qk k x hx with⟨rfl,rfl⟩|⟨_,rfl⟩|⟨_,hx⟩;have:=xw g e;exact h0 id _ hk (by rw[this];rfl);cases e;exact h0 k x hx (cI k x g hx e)
 refine⟨rfl,by simp[Env.iK,hc.n],λj y h=> ?_,λi j y z b h1 h2 e1 e2=> ?_,λg hg=> ?_,λg hg=> ?_,λhm=>hc.top hm,λb y hf=> ?_⟩;rcases qk j y h with⟨rfl,rfl⟩|⟨_,rfl⟩|⟨_,h⟩;obtain⟨⟨cs,q1,q2,q3⟩,q4⟩:=hc.obj id _ hk;rw[<- hc.n];refine⟨⟨cs,by rw[Env.yp];exact q1,q2.mono hle,by rw[Env.J6];exact q3⟩,λo=> ?_⟩;rw[Env.yp];exact q4 o;trivial;exact(hc.obj j y h).mono hle (hlt j y h) rfl (λ_ _ _ h=>h) (λ_ _ _=>rfl);rcases qk i y h1 with⟨rfl,rfl⟩|⟨_,rfl⟩|⟨hi,h1⟩;rcases qk j z h2 with⟨rfl,rfl⟩|⟨_,rfl⟩|⟨hj,h2⟩;rfl;cases e2;have:=xw b e1;exact absurd (hc.inj id j _ z b hk h2 (by rw[this];rfl) (cI j z b h2 e2)).symm hj;cases e1;rcases qk j z h2 with⟨rfl,rfl⟩|⟨_,rfl⟩|⟨hj,h2⟩;have:=xw b e2;exact absurd (hc.inj id i _ y b hk h1 (by rw[this];rfl) (cI i y b h1 e1)).symm hi;cases e2;exact hc.inj i j y z b h1 h2 (cI i y b h1 e1) (cI j z b h2 e2);obtain⟨h0,h1,h2⟩:=hc.group g hg;exact⟨h0,h1,ew g h2⟩;obtain⟨h0,h1,h2⟩:=hc.chan g hg;exact⟨h0,h1,ew g h2⟩;obtain⟨h0,h1,h2⟩:=hc.fr b y hf;exact⟨h0,h1,ew b h2⟩
def Conc.leave{E:Env}{V:View}{H:SA}(hc:Conc E V H)(id:Nat):Conc E V (H.set id .gone):=
 hc.ja id .gone (Env.Le.refl E) hc.I (by simpa using hc.n) lS rfl (λ_ _ _=>rfl) (λ_ _ _ hy=>⟨hy,λ_=>rfl⟩) trivial (λb h=>by cases h)
def aiB{E:Env}{l l':SC}{cs vs:SG}(h:ky E l cs)(k:bR E l' vs)(hl:l.length+l'.length<=cs.size):ky E (l++l') (storeAt cs l.length vs.toList):=by
 have hv:vs.toList.length=l'.length:=by simpa using k.1
 refine⟨by rw[Ae,Tp];exact hl,λi a e=> ?_⟩;rw[FD _ _ _ _ (by rw[hv];exact hl),hv];by_cases h1:i<l.length;rw[if_neg (by omega)];rw[T6 h1]at e;exact h.2 i a e;(rw[Uc (by omega)]at e;have h2:=(Tn.1 e).1;rw[if_pos ⟨by omega,by omega⟩];have:=k.2 _ a e;simpa[Th,Tf]using this)
def Ry{E:Env}{l:SC}{cs:SG}{k:Nat}(h:bR E l (cs.extract 0 k))(hk:l.length=k)(hs:k<=cs.size):ky E l cs:=by
 refine⟨by omega,λi a e=> ?_⟩;have hi:=(Tn.1 e).1;have gI:i<cs.size:=by omega
 have:=h.2 i a e;rw[Th,Array.getElem?_extract_of_lt (by omega)]at this;rw[Th];simpa[Tj gI]using this
def aeo{c:Yv}{x y:Up}{t t' elem:TypeId}{sz n m:Nat}{z:T9}{l l':SC}{av:AV}(ho:o.op=.call c)(aY:c.callee=.builtin .append)(cU:c.args=#[x,y])(d_:c.argTypes=#[t,t'])(ht:j4 P t t'=some (elem,sz,z))
  (hx:s.ev x=some (.sl n l .exact)) (hy:s.ev y=some av) (hs:s.src sz av=some (m,l')) (hl:l.length=n* sz) (eS:l'.length=m* sz) (hb:n+m<=2^30) (hm:0<m) (hn:next ((⟨s.T,s.H++[.own sz (l++l') elem]⟩:AS).put o.dst (.bB s.H.length 0 (n+m) 0))):Step lv P r o s next bad:=by
 intro E V a N Q hc aI hd bC h1 _;refine⟨bC,?_⟩;have dK:=ay.ev aI hx;have jf:=ay.ev aI hy;generalize kH:a.eval x=vx at dK;generalize sR:a.eval y=vy at jf;unfold execOp;rw[ho];dsimp only;unfold resolve;rw[aY];dsimp only;refine aA (az ?_);unfold invoke builtin;dsimp only;refine aA ?_;have ow:c.args.map a.eval=#[vx,vy]:=by rw[cU];simp[kH,sR]
 rw[ow,d_];obtain⟨base,cap,rfl⟩:∃base cap,vx=.slice base n cap:=by
  cases dK with
  |sl b o cap f dT he q1 q2=>exact⟨_,_,rfl⟩
  |nil he=>exact⟨_,_,rfl⟩
 have eN:cap=n:=by
  cases dK with
  |sl b o cap f dT he q1 q2=>exact he
  |nil he=>rfl
 subst eN;refine I8 hc ht dK jf hs hl eS hb (by omega) λrr cs cap' hf bm hle a_=> ?_;have uv:(l++l').length=(cap+m)* sz:=by rw[Tp,hl,eS,Wi]
 have vU:(cap+m)* sz<=cs.size:=by rw[a_];exact U2 _ hle
 have pw:E.Le (E.iK rr V.ah cap'):=E.ET rr cap' (λb o v h=>by rw[<- hc.I];exact h);have bu:=hc.iK (el:=elem) (c:=cap') hf ((Ry bm uv vU).mono pw) a_;have lF:=KC hc.n (r:=rr) V.ah hle (n:=cap+m) (cap:=cap') hle (Tv _) (by omega);exact az (h1 _ _ (a.put o.dst _) _ ⟨pw,ek _ _ _,put_defers _ _ _,rfl,rfl⟩ (by rw[fG];exact bu) (cu.iy (s:=⟨s.T,s.H++[.own sz (l++l') elem]⟩) (aI.mono pw) hd lF) hn)
def aen{c:Yv}{x y:Up}{t t' elem el:TypeId}{sz n m c0 id:Nat}{z:T9}{l l':SC}{av:AV}(ho:o.op=.call c)(aY:c.callee=.builtin .append)(cU:c.args=#[x,y])(d_:c.argTypes=#[t,t'])(ht:j4 P t t'=some (elem,sz,z))
  (hx:s.ev x=some (.bB id 0 n c0)) (vz:c0<n) (b_:s.H[id]?=some (.own sz l el)) (D_:el=elem) (hy:s.ev y=some av) (hs:s.src sz av=some (m,l')) (hl:l.length=n* sz) (eS:l'.length=m* sz) (hb:n+m<=2^30) (ov:∀a∈l',a.leaf=true) (hn:next ((⟨s.T,s.H.set id .gone++[.own sz (l++l') elem]⟩:AS).put o.dst (.bB s.H.length 0 (n+m) 0))):Step lv P r o s next bad:=by
 subst D_;intro E V a N Q hc aI hd bC h1 _;refine⟨bC,?_⟩;have dK:=ay.ev aI hx;have jf:=ay.ev aI hy;generalize kH:a.eval x=vx at dK;generalize sR:a.eval y=vy at jf;unfold execOp;rw[ho];dsimp only;unfold resolve;rw[aY];dsimp only;refine aA (az ?_);unfold invoke builtin;dsimp only;refine aA ?_;have ow:c.args.map a.eval=#[vx,vy]:=by rw[cU];simp[kH,sR]
 rw[ow,d_];have amx:=dK;have uv:(l++l').length=(n+m)* sz:=by rw[Tp,hl,eS,Wi]
 have cx:s.src sz (.bB id 0 n c0)=some (n,l):=by simp only[AS.src];rw[b_];simp only[Wx];rw[<- hl,Ux]
 cases dK with
 |bB hi dT=>
  rename_i cap';obtain⟨q1,_,q3⟩:=dT;have q3:=q3 vz;obtain⟨⟨cs,p1,p2,p3⟩,p4⟩:=hc.obj id _ b_;by_cases rq:n+m<=cap'
  ·have ny:(n+m)* sz<=cap'* sz:=U2 _ rq;have yX:cap'* sz<=cs.size:=(by rw[p3];exact U2 _ q3);refine adU hc ht jf hs eS rq p1 yX (λo _=>p4 o) (hc.jq b_ rfl) ov λjT lE=> ?_;have Mn:ky E (l++l') (storeAt cs (n* sz) jT.toList):=by rw[<- hl];exact aiB p2 lE (by rw[<- Tp,uv];omega)
   have cV:=hc.ad8 b_ Mn (by rw[Ae];exact p3);have qk:(s.H.set id (.own sz (l++l') el))[id]?=some (.own sz (l++l') el):=(by rw[Ym ((Tn.1 b_).1)]);have cg:=cV.relabel qk;rw[Yk]at cg;have pw:E.Le (E.iK (E.blk id) V.ah (E.room id 0).2):=E.ET _ _ (λb o v h=>by rw[<- hc.I];exact h);have lF:ay (E.iK (E.blk id) V.ah (E.room id 0).2) (.bB s.H.length 0 (n+m) 0) (.slice (some ⟨E.blk id,0,none⟩) (n+m) cap'):=KC hc.n V.ah (by omega) rq q3 (by omega);exact az (h1 _ _ (a.put o.dst _) _ ⟨pw,ek _ _ _,put_defers _ _ _,rfl,rfl⟩ (by rw[fG];exact cg) (cu.iy (s:=⟨s.T,s.H.set id .gone++[.own sz (l++l') el]⟩) (aI.mono pw) hd lF) hn)
  ·refine adV hc ht amx cx jf hs hl eS hb (by omega) λrr cE Dj hf bm hle a_=> ?_;have vU:(n+m)* sz<=cE.size:=(by rw[a_];exact U2 _ hle);have pw:E.Le (E.iK rr V.ah Dj):=E.ET rr Dj (λb o v h=>by rw[<- hc.I];exact h);have Hi:=hc.leave id;have bu:=Hi.iK (el:=el) (c:=Dj) hf ((Ry bm uv vU).mono pw) a_;have lF:ay (E.iK rr V.ah Dj) (.bB s.H.length 0 (n+m) 0) (.slice (some ⟨rr,0,none⟩) (n+m) Dj):=KC hc.n V.ah hle hle (Tv _) (by omega);exact az (h1 _ _ (a.put o.dst _) _ ⟨pw,ek _ _ _,put_defers _ _ _,rfl,rfl⟩ (by rw[fG];exact bu) (cu.iy (s:=⟨s.T,s.H.set id .gone++[.own sz (l++l') el]⟩) (aI.mono pw) hd lF) hn)
end
def bt(n:Int)(h: -9223372036854775808<=n/\n<=9223372036854775807):Tg.wrap n=n:=by
 have e:Tg.wrap n=if n % 18446744073709551616>=9223372036854775808 then n % 18446744073709551616-18446744073709551616 else n % 18446744073709551616:=by unfold Ze;simp[ax9,ax8]
 rw[e];split<;>omega
def TL(n:Nat)(h:(n:Int)+1<=9223372036854775807):Tg.wrap ((n:Int)+1)=((n+1:Nat):Int):=by rw[bt _ (by omega)];rfl
def bA (P:Tl){α:Type}(s:Sem α)(x:α):Prop:=∀w es,s.runT P w es=(.ok x w,es)
def bA.ok{P:Tl}{α:Type}{V:View}{s:Sem α}{x:α}{K:α->View->Prop}{Kp:SQ}(h:bA P s x)(hk:K x V):aT P V s K Kp:=
 λw hw fi=>⟨#[],w,V,by simpa[gh]using dl.idle hw,.inl ⟨x,by rw[h w fi];simp,hk⟩⟩
def bA.bind{P:Tl}{α β:Type}{V:View}{s:Sem α}{x:α}{f:α->Sem β}{K:β->View->Prop}{Kp:SQ}(h:bA P s x)(hk:aT P V (f x) K Kp):aT P V (s>>=f) K Kp:=
 aA (h.ok hk)
def AV.wN:AV->Option Int
 |.val (.int _ n)=>some n
 |_=>none
def ay.wN{E:Env}{a:AV}{v:T9}{n:Int}(hd:ay E a v)(h:a.wN=some n):∃k,v=.int k n:=by
 cases hd with
 |val x=>unfold AV.wN at h;split at h<;>simp_all
 |_=>cases h
abbrev TK:=Option Int
def AS.jw (s:AS):Option Up->Option (TK)
 |none=>some none
 |some x=>match s.ev x with
  |some a=>a.wN.map some
  |none=>none
def AG{E:Env}{s:AS}{a:Act}(k:cu E s.T a.tmps){x:Option Up}{i:TK}(h:s.jw x=some i):(i=none/\x.map a.eval=none)\/∃n kd,i=some n/\x.map a.eval=some (.int kd n):=by
 cases x with
 |none=>cases h;exact .inl ⟨rfl,rfl⟩
 |some x=>simp only[AS.jw]at h;split at h;rename_i av Hd;obtain⟨n,hn,rfl⟩:=lz h;obtain⟨kd,hv⟩:=(ay.ev k Hd).wN hn;exact .inr ⟨n,kd,rfl,by simp[hv]⟩;cases h
section
variable {P:Tl}{V:View}{Kp:SQ}
def Cm{kd:UZ}{n:Int}{y:Nat}{code:BoundsCode}{K:Nat->View->Prop}(h0:0<=n)(h1:n<=y)(h:K n.toNat V):aT P V (am' (.int kd n) y code) K Kp:=by unfold am' asIntOf;refine aA (az ?_);dsimp only;rw[if_pos ⟨h0,h1⟩];exact az h
def Pp{E:Env}{s:AS}{a:Act}(k:cu E s.T a.tmps){isS:Bool}{len cap:Nat}{lo hi mx:Option Up}{l h m:TK}(hl:s.jw lo=some l)(hh:s.jw hi=some h)(hm:s.jw mx=some m){K:Nat×Nat×Nat->View->Prop}
  (hlc:len<=cap) (c0:0<=l.getD 0) (c1:l.getD 0<=h.getD len) (c2:h.getD len<=m.getD cap) (c3:m.getD cap<=cap) (c4:m.isSome=true->h.isSome=true) (hK:K ((l.getD 0).toNat,(h.getD len).toNat,(m.getD cap).toNat) V):
  aT P V (ah_ isS len cap (lo.map a.eval) (hi.map a.eval) (mx.map a.eval)) K Kp:=by
 unfold ah_;rcases AG k hm with⟨rfl,em⟩|⟨vm,km,rfl,em⟩;rw[em];refine aA (az ?_);rcases AG k hh with⟨rfl,eh⟩|⟨vh,kh,rfl,eh⟩;rw[eh];refine aA (az ?_);rcases AG k hl with⟨rfl,el⟩|⟨vl,kl,rfl,el⟩;rw[el];exact aA (az (az (by simpa using hK)));rw[el];simp only[T_,WA]at c0 c1 c2;exact aA (Cm c0 c1 (az (by simpa using hK)));rw[eh];simp only[T_,WA]at c0 c1 c2 c3;refine aA (Cm (by omega) c2 ?_);rcases AG k hl with⟨rfl,el⟩|⟨vl,kl,rfl,el⟩;rw[el];exact aA (az (az (by simpa using hK)));rw[el];simp only[T_,WA]at c0 c1 c2;exact aA (Cm c0 (by omega) (az (by simpa using hK)));rw[em];simp only[T_,Option.isSome_some,true_implies]at c2 c3 c4;rcases AG k hh with⟨rfl,eh⟩|⟨vh,kh,rfl,eh⟩;cases c4;rw[eh];simp only[T_]at c1 c2 c0;refine aA (Cm (by omega) c3 ?_);refine aA (Cm (by omega) (by omega) ?_);rcases AG k hl with⟨rfl,el⟩|⟨vl,kl,rfl,el⟩;rw[el];exact aA (az (az (by simpa using hK)));rw[el];simp only[T_]at c0 c1;exact aA (Cm c0 (by omega) (az (by simpa using hK)))
end
abbrev SP:=AV->Prop
def yk (n:Nat)(l:SC)(e:End)(sz:Nat)(lo hi mx:TK)(k:SP):Prop:=
 l.length=n* sz/\0<=lo.getD 0/\lo.getD 0<=hi.getD n/\hi.getD n<=mx.getD n/\mx.getD n<=n/\(mx.isSome=true->hi.isSome=true)/\
 k (.sl ((hi.getD n).toNat-(lo.getD 0).toNat) ((l.drop ((lo.getD 0).toNat* sz)).take (((hi.getD n).toNat-(lo.getD 0).toNat)* sz))
  (if mx.isSome&&mx.getD n==hi.getD n then .exact else if lo.getD 0==0&&hi.getD n==n&&mx.isNone then e else .shut))
def kN (P:Tl)(t:TypeId):Option (TypeId×Nat):=match P.underlying t with
 |some (.slice e)=>(P.info? e).map λi=>(e,i.size)
 |_=>none
def yf (P:Tl)(t:TypeId):Option (Nat×Nat):=match P.underlying t with
 |some (.array n e)=>(P.info? e).map λi=>(n,i.size)
 |_=>none
section
variable {lv:Bool}{P:Tl}{r:SL}{o:Vp}{s:AS}{next:SV}{bad:AV->SV}
def arK{t e:TypeId}{x:Up}{lo hi mx:Option Up}{l h m:TK}{n sz:Nat}{li:SC}{en:End}(ho:o.op=.slice t x lo hi mx)(ht:kN P t=some (e,sz))(hx:s.ev x=some (.sl n li en))(hl:s.jw lo=some l)(hh:s.jw hi=some h)(hm:s.jw mx=some m)
  {k:SP} (hc:yk n li en sz l h m k):∃av,dH lv P r o s av/\k av:=by
 obtain⟨hlen,c0,c1,c2,c3,c4,hk⟩:=hc;refine⟨_,iZ (λE V a hc aI=> ?_),hk⟩;have hd:=ay.ev aI hx;generalize hv:a.eval x=v at hd;unfold kN at ht;split at ht
 ·rename_i e' hu;obtain⟨i,cN,ht⟩:=lz ht;cases ht;unfold execOp;rw[ho];simp only[hv];refine aA ?_;unfold Zv;refine ez hu ?_;dsimp only;unfold axa;refine ez hu ?_;obtain⟨base,cap,rfl⟩:∃base cap,v=.slice base n cap:=by
   cases hd with
   |sl b o cap f dT he q1 q2=>exact⟨_,_,rfl⟩
   |nil he=>exact⟨_,_,rfl⟩
  have dT:n<=cap:=by
   cases hd with
   |sl b o cap f dT he q1 q2=>exact dT
   |nil he=>exact Tv _
  dsimp only;have hmm:m.getD (cap:Int)=if m.isSome then m.getD n else cap:=by cases m<;>simp
  refine aA (Pp aI hl hh hm dT c0 c1 ?_ ?_ c4 ?_)
  ·cases m with
   |none=>simp only[WA]at c2⊢;omega
   |some m=>simpa using c2
  ·cases m with
   |none=>simp
   |some m=>simp only[T_]at c3⊢;omega
  refine jM cN ?_;refine az (az ⟨rfl,_,rfl,?_⟩);generalize hA:(l.getD 0).toNat=A;generalize hB:(h.getD (n:Int)).toNat=B;have hAB:A<=B:=by omega
  have hBn:B<=n:=by omega
  generalize hM:(m.getD (cap:Int)).toNat=M;have hBM:B<=M:=by
   cases m with
   |none=>simp only[WA]at hM;omega
   |some m=>simp only[T_]at hM c2;omega
  cases hd with
  |nil he=>
   have LN:A=0:=(by omega);have hB0:B=0:=(by omega);have hM0:M=0:=by
    cases m with
    |none=>simp only[WA]at hM;omega
    |some m=>simp only[T_]at hM c3;omega
   rw[LN,hB0,hM0];simp only[if_true,aw',Y9,axK];refine .nil ?_;split;rfl;split;exact he;trivial
  |sl b o cap f dT he q1 q2=>
   have DT:(if M=A then some (⟨b,o,none⟩:Wy)else(some (⟨b,o,none⟩:Wy)).map λx=>x.add (A* i.size))=some ⟨b,if M=A then o else o+A* i.size,none⟩:=by split;rfl;simp only[VT,add_plain]
   rw[DT];have hb:(B-A)* i.size+A* i.size<=n* i.size:=(by rw[<- Wi];exact U2 _ (by omega));refine .sl b _ (M-A) (λj=>f (A* i.size+j)) (by omega) ?_ (λj hj=> ?_) (λj y hj=> ?_)
   ·split
    ·rename_i hx;simp only[Ui,beq_iff_eq]at hx;cases m with
     |none=>simp at hx
     |some m=>simp only[T_]at hM hx;show M-A=B-A;omega
    ·split
     ·rename_i hx;simp only[Ui,beq_iff_eq]at hx;obtain⟨⟨x1,x2⟩,x3⟩:=hx;have:A=0:=(by omega);have:B=n:=(by omega);cases m with
      |some m=>cases x3
      |none=>simp only[WA]at hM;have hMc:M=cap:=(by omega);subst hMc;have e1:M-A=M:=(by omega);have e2:B-A=n:=(by omega);have e3:(if M=A then o else o+A* i.size)=o:=(by split<;>simp_all);rw[e1,e2,e3];exact he
     ·trivial
   ·simp only[Vl,Vm]at hj;have hMA:M≠A:=by intro e;have:B-A=0:=(by omega);rw[this]at hj;omega
    rw[if_neg hMA,VY];exact q1 _ (by omega)
   ·rw[Vh]at hj;split at hj;rw[Vo]at hj;exact q2 _ _ hj;cases hj
 ·cases ht
def tG (id off n cap sz:Nat)(lo hi mx:TK)(k:SP):Prop:=
 n<=cap/\0<=lo.getD 0/\lo.getD 0<=hi.getD n/\hi.getD n<=mx.getD cap/\mx.getD cap<=cap/\(mx.isSome=true->hi.isSome=true)/\(lo.getD 0=0\/lo.getD 0<mx.getD cap)/\
 k (.bB id (off+(lo.getD 0).toNat* sz) ((hi.getD n).toNat-(lo.getD 0).toNat) ((mx.getD cap).toNat-(lo.getD 0).toNat))
def arM{t e:TypeId}{x:Up}{lo hi mx:Option Up}{l h m:TK}{id off n cap sz:Nat}(ho:o.op=.slice t x lo hi mx)(ht:kN P t=some (e,sz))(hx:s.ev x=some (.bB id off n cap))(hl:s.jw lo=some l)(hh:s.jw hi=some h)(hm:s.jw mx=some m)
  {k:SP} (hc:tG id off n cap sz l h m k):∃av,dH lv P r o s av/\k av:=by
 obtain⟨hlen,c0,c1,c2,c3,c4,c5,hk⟩:=hc;refine⟨_,iZ (λE V a hc aI=> ?_),hk⟩;have hd:=ay.ev aI hx;generalize hv:a.eval x=v at hd;unfold kN at ht;split at ht
 ·rename_i e' hu;obtain⟨i,cN,ht⟩:=lz ht;cases ht;unfold execOp;rw[ho];simp only[hv];refine aA ?_;unfold Zv;refine ez hu ?_;dsimp only;unfold axa;refine ez hu ?_;cases hd with
  |bB b_ dT=>
   rename_i cap';obtain rfl:cap=cap':=dT.2.1 hlen;dsimp only;refine aA (Pp aI hl hh hm hlen c0 c1 c2 c3 c4 ?_);refine jM cN ?_;refine az (az ⟨rfl,_,rfl,?_⟩);have DT:(if(m.getD (cap:Int)).toNat=(l.getD 0).toNat then some (⟨E.blk id,off,none⟩:Wy)else(some (⟨E.blk id,off,none⟩:Wy)).map λx=>x.add ((l.getD 0).toNat* i.size))=some ⟨E.blk id,off+(l.getD 0).toNat* i.size,none⟩:=by split;have:(l.getD 0).toNat=0:=(by omega);rw[this];simp;simp only[VT,add_plain]
   rw[DT];exact .bB b_ ⟨by dsimp only;omega,λ_=>rfl,λh=>absurd h (by omega)⟩
 ·cases ht
def arL{t:TypeId}{x:Up}{lo hi mx:Option Up}{l h m:TK}{id off n sz:Nat}(ho:o.op=.slice t x lo hi mx)(ht:yf P t=some (n,sz))(hx:s.ev x=some (.op id off))(hl:s.jw lo=some l)(hh:s.jw hi=some h)(hm:s.jw mx=some m)
  {k:SP} (hc:tG id off n n sz l h m k):∃av,dH lv P r o s av/\k av:=by
 obtain⟨hlen,c0,c1,c2,c3,c4,c5,hk⟩:=hc;refine⟨_,iZ (λE V a hc aI=> ?_),hk⟩;have hd:=ay.ev aI hx;generalize hv:a.eval x=v at hd;unfold yf at ht;split at ht
 ·rename_i m' e' hu;obtain⟨i,cN,ht⟩:=lz ht;cases ht;unfold execOp;rw[ho];simp only[hv];refine aA ?_;unfold Zv;refine ez hu ?_;cases hd with
  |op b_=>
   dsimp only;unfold Wh;refine aA (az ?_);refine aA (Pp aI hl hh hm hlen c0 c1 c2 c3 c4 ?_);refine jM cN ?_;refine az (az ⟨rfl,_,rfl,?_⟩);have DT:(if(m.getD (n:Int)).toNat=(l.getD 0).toNat then(⟨E.blk id,off,none⟩:Wy)else(⟨E.blk id,off,none⟩:Wy).add ((l.getD 0).toNat* i.size))=⟨E.blk id,off+(l.getD 0).toNat* i.size,none⟩:=by split;have:(l.getD 0).toNat=0:=(by omega);rw[this];simp;rw[add_plain]
   rw[DT];exact .bB b_ ⟨by dsimp only;omega,λ_=>rfl,λh=>absurd h (by omega)⟩
 ·cases ht
def atG{c:Yv}{x y:Up}{t t' e:TypeId}{id off n cap sz m:Nat}{l l':SC}{el:TypeId}{av:AV}(ho:o.op=.call c)(aY:c.callee=.builtin .copy)(cU:c.args=#[x,y])(d_:c.argTypes=#[t,t'])(ht:kN P t=some (e,sz))(hx:s.ev x=some (.bB id off n cap))
  (hk:s.H[id]?=some (.cells l el)) (hy:s.ev y=some av) (hs:s.src sz av=some (m,l')) (eS:l'.length=m* sz) (hl:off+min m n* sz<=l.length) (ov:∀a∈l',a.leaf=true)
  (hn:next ((⟨s.T,s.H.set id (.cells (iT l off (l'.take (min m n* sz))) el)⟩:AS).put o.dst (.val (.int .i64 (min m n:Nat))))):Step lv P r o s next bad:=by
 intro E V a N Q hc aI hd bC h1 _;refine⟨bC,?_⟩;have dK:=ay.ev aI hx;have jf:=ay.ev aI hy;generalize kH:a.eval x=vx at dK;generalize sR:a.eval y=vy at jf;unfold execOp;rw[ho];dsimp only;unfold resolve;rw[aY];dsimp only;refine aA (az ?_);unfold invoke builtin;dsimp only;refine aA ?_;have ow:c.args.map a.eval=#[vx,vy]:=by rw[cU];simp[kH,sR]
 rw[ow,d_];unfold kN at ht;split at ht
 ·rename_i e' hu;obtain⟨i,cN,ht⟩:=lz ht;cases ht;cases dK with
  |bB b_ _=>
   obtain⟨⟨cs,p1,p2⟩,p3⟩:=hc.obj id _ hk;obtain⟨g1,g2⟩:=hc.jq hk rfl;unfold aym;simp only[Ws,WF,VL];refine ez hu ?_;dsimp only;rw[Jd jf hs];refine aA (az ?_);refine jM cN ?_;refine aA (Fx hc jf hs eS (av_ _ _) λjT lE=> ?_);have h2:(l'.take (min m n* i.size)).length=min m n* i.size:=by have:min m n* i.size<=m* i.size:=U2 _ (av_ _ _);simp;omega
   refine aA (Aa _ 0 V cs g1 g2 p1 (λo _ _=>p3 o) (by have hq:jT.size=min m n* i.size:=(by(rw[lE.1];exact h2));have:=p2.1;simp only[Array.length_toList];omega) (AR lE (λa ha=>ov a (YN ha))) ?_);rw[Vr];refine az (az (h1 E _ (a.put o.dst _) _ ⟨Env.Le.refl E,ek _ _ _,put_defers _ _ _,rfl,rfl⟩ (by rw[fG];exact hc.set hk (GB p2 lE (by rw[h2];exact hl)))
    (cu.iy (s:=⟨s.T,s.H.set id (.cells (iT l off (l'.take (min m n* i.size))) el)⟩) aI hd (.val _)) hn))
 ·cases ht
def CO (P:Tl)(t:TypeId):Option (TypeId×Nat×T9):=match P.underlying t with
 |some (.slice e)=>(P.info? e).bind λi=>i.zero.bind λz=>if z.cells.size=i.size/\i.bytes<=2^16 then some (e,i.size,z)else none
 |_=>none
def aes{t e:TypeId}{x y:Up}{n sz:Nat}{z:T9}{k k':UZ}(ho:o.op=.makeSlice t x y)(ht:CO P t=some (e,sz,z))(hx:s.ev x=some (.val (.int k n)))(hy:s.ev y=some (.val (.int k' n)))(hb:n<=2^30)
  (hn:next ((⟨s.T,s.H++[.cells (gF z (n* sz)) e]⟩:AS).put o.dst (.bB s.H.length 0 n n))):Step lv P r o s next bad:=by
 intro E V a N Q hc aI hd bC h1 _;refine⟨bC,?_⟩;have dK:=ay.ev aI hx;have jf:=ay.ev aI hy;generalize kH:a.eval x=vx at dK;generalize sR:a.eval y=vy at jf;cases dK;cases jf;unfold CO at ht;split at ht
 ·rename_i e' hu;obtain⟨i,q1,ht⟩:=Uj.1 ht;obtain⟨z',q2,ht⟩:=Uj.1 ht;split at ht
  ·rename_i y9;cases ht;unfold execOp;rw[ho];simp only[kH,sR];refine aA ?_;unfold Instr.makeSlice;refine ez hu ?_;dsimp only;refine aA (az ?_);refine aA (az ?_);refine Ab q1 ?_;have hw:Tg.wrap (n:Int)=n:=bt _ (by omega);rw[hw];have hmul:i.bytes* n<=2^16* 2^30:=axp y9.2 hb;have aws:(i.bytes:Int)* n<=2^46:=(by exact_mod_cast hmul);rw[if_neg (by simp;omega)];refine aA (adW ?_);refine jM q1 ?_;rw[WO];have fin:∀(zero:SG),(∀j,j<n* i.size->zero[j % zero.size]! =z.cells[j % z.cells.size]!)->aT P V (do let a<- newRow e ((XS (n* i.size)).map (zero[· % zero.size]!));pure (UP (some a) n n)) (λx V'=>aT P V' (pure (Yf x)) (ng lv P r o a N Q) (λv V'=>Q (.panic [{v,recovered:=false}]) a V')) (λv V'=>Q (.panic [{v,recovered:=false}]) a V'):=by
    intro zero hz;unfold newRow;refine aA (aA (oQ λrr hf=>cj (az (az (az ?_)))));have hle:E.Le (E.add rr V.ah):=E.qE rr (λb o v h=>by rw[<- hc.I];exact h);have ama:(XS (n* i.size)).map (zero[· % zero.size]!)=(XS (n* i.size)).map (λx=>z.cells[x % z.cells.size]!):=by apply Wz;simp only[W1];apply WR;intro j hj;exact hz j (by simpa using hj)
    rw[ama];have bu:Conc (E.add rr V.ah) (V.upd rr (.cells ((XS (n* i.size)).map (λx=>z.cells[x % z.cells.size]!)) e)) (s.H++[.cells (gF z (n* i.size)) e]):=by refine hc.add hf _ ⟨⟨_,?_,KG z _⟩,λo=> ?_⟩ (λb e=> ?_);rw[Env.dP];simp[View.upd];rw[Env.dP];exact hf.2 o;simp only[bP,Env.dP,Ul]at e;exact e.symm
    have bm:ay (E.add rr V.ah) (.bB s.H.length 0 n n) (.slice (some ⟨rr,0,none⟩) n n):=by have:=ay.bB (E:=E.add rr V.ah) (id:=s.H.length) (off:=0) (n:=n) (cap:=n) (cap':=n) (by show _<E.n+1;rw[hc.n];omega) ⟨Tv _,λ_=>rfl,λh=>absurd h (Nat.lt_irrefl _)⟩;have e:(E.add rr V.ah).blk s.H.length=rr:=(by rw[<- hc.n];exact E.dP rr _);rwa[e]at this
    exact h1 _ _ (a.put o.dst _) ((⟨s.T,s.H++[.cells (gF z (n* i.size)) e]⟩:AS).put o.dst (.bB s.H.length 0 n n)) ⟨hle,ek _ _ _,put_defers _ _ _,rfl,rfl⟩ (by rw[fG];exact bu)
     (cu.iy (s:=⟨s.T,s.H++[.cells (gF z (n* i.size)) e]⟩) (aI.mono hle) hd bm) hn
   by_cases h0:n* i.size=0;rw[if_pos h0];refine aA (az ?_);exact fin #[] (λj hj=>by omega);rw[if_neg h0];refine aA (aA ?_);unfold typeInfo;refine aA (pK (cj ?_));rw[q1];refine az ?_;rw[q2];refine az (aA (az ?_));exact fin z.cells (λj _=>rfl)
  ·cases ht
 ·cases ht
def AV.Cb:AV->Option T9
 |.val x=>some x
 |_=>none
def AV.raw:AV->Option T9
 |.val x=>some x
 |.agg l=>(l.mapM AV.Cb).map λvs=> .agg vs.toArray
 |_=>none
def ay.Cb{E:Env}{a:AV}{v x:T9}(h:ay E a v)(hr:a.Cb=some x):v=x:=by cases h<;>cases hr;rfl
def ay.raw{E:Env}{a:AV}{v x:T9}(h:ay E a v)(hr:a.raw=some x):v=x:=by
 cases h with
 |val=>cases hr;rfl
 |agg hs h=>
  obtain⟨vs,h1,rfl⟩:=lz hr;congr 1;rename_i l cs;have key:∀(l:SC)(vs:S6)(cs:S6),l.mapM AV.Cb=some vs->cs.length=l.length->(∀(i:Nat) a,l[i]?=some a->ay E a (cs.getD i undef))->cs=vs:=by
   intro l;induction l with
   |nil=>intro vs cs h1 h2 _;simp at h1;subst h1;simpa using h2
   |cons a l ih=>
    intro vs cs h1 h2 h3;simp only[U6,Vk,UW,Uj,Ul]at h1;obtain⟨b,e1,bs,e2,rfl⟩:=h1;cases cs with
    |nil=>simp at h2
    |cons c cs=>have hc:=(h3 0 a rfl).Cb e1;have:=ih bs cs e2 (by simpa using h2) (λi x hx=>by simpa using h3 (i+1) x (by simpa using hx));subst this;simp only[YE]at hc;rw[hc]
  have:=key l vs cs.toList h1 (by simpa using hs) (λi a e=>by have:=h i a e;rw[Th]at this;simpa[Tf]using this);rw[<- this]
 |_=>cases hr
def yE:T9->T9->Bool
 |.agg _,.agg _=>true
 |.bool _,.bool _=>true
 |_,_=>false
def arl{op:Xl}{xt yt:TypeId}{x y:Up}{a b:AV}{X Y:T9}{e:Bool}(ho:o.op=.binOp op xt x y yt)(aB:op=.eql\/op=.neq)(hx:s.ev x=some a)(hy:s.ev y=some b)(hX:a.raw=some X)(hY:b.raw=some Y)(hk:yE X Y=true)(hg:P.eqGuardType P.depth xt=false)(he:bA P (XW xt X Y) e):
  dH lv P r o s (.val (.bool (if op== .neq then !e else e))):=
 iZ (λE V ac hc aI=>by
  have e1:=(ay.ev aI hx).raw hX;have e2:=(ay.ev aI hy).raw hY;unfold execOp;rw[ho];simp only[e1,e2];refine aA ?_;have guard:∀{K:Unit->View->Prop},K () V->aT P V (eqGuard op xt x y X Y) K (λ_ _=>False):=λhK=>by
   unfold eqGuard;unfold yE at hk;split at hk
   ·rcases aB with rfl|rfl
    all_goals
     simp only[Xn,UH,if_false];refine aA (pK (cj ?_));refine aA (pK (cj ?_));rw[hg];exact az hK
   ·rcases aB with rfl|rfl<;>exact az hK
   ·cases hk
  refine aA (guard ?_);unfold yE at hk;split at hk;(rcases aB with rfl|rfl<;>(unfold binOp;refine he.bind (az (az ⟨rfl,_,rfl,?_⟩));exact .val _));(rcases aB with rfl|rfl<;>(unfold binOp;refine he.bind (az (az ⟨rfl,_,rfl,?_⟩));exact .val _))
  ·cases hk)
def aje{t:TypeId}{v:T9}{b:Bool}{V:View}{K:Bool->View->Prop}{Kp:SQ}(ht:lR P t=some true)(hv:(v=.nilIface/\b=true)\/((∃u x,v=.iface u x)/\b=false))(hk:K b V):aT P V (XW t v .nilIface) K Kp:=by
 obtain⟨el,hu⟩:∃el,P.underlying t=some (.interface el):=by
  unfold lR at ht;cases h:P.underlying t with
  |none=>rw[h]at ht;cases ht
  |some d=>rw[h]at ht;cases d<;>first|exact⟨_,rfl⟩|(simp at ht)
 have e:XW t v .nilIface=WI (9999+1) t v .nilIface:=rfl;rw[e,WI];refine ez hu ?_;rcases hv with⟨rfl,rfl⟩|⟨⟨u,x,rfl⟩,rfl⟩;exact az hk;exact az hk
def adw{op:Xl}{xt yt:TypeId}{x:Up}{a:AV}{b:Bool}(ho:o.op=.binOp op xt x (.const .nilIface) yt)(aB:op=.eql\/op=.neq)(hx:s.ev x=some a)(ha:(a=.val .nilIface/\b=true)\/((∃u y,a=.bY u y)/\b=false))(ht:lR P xt=some true):
  dH lv P r o s (.val (.bool (if op== .neq then !b else b))):=
 iZ (λE V ac hc aI=>by
  have hd:=ay.ev aI hx;generalize kH:ac.eval x=vx at hd;have hv:(vx=.nilIface/\b=true)\/((∃u y,vx=.iface u y)/\b=false):=by rcases ha with⟨rfl,rfl⟩|⟨⟨u,y,rfl⟩,rfl⟩;cases hd;exact .inl ⟨rfl,rfl⟩;cases hd;exact .inr ⟨⟨_,_,rfl⟩,rfl⟩
  have hy:ac.eval (.const .nilIface)=.nilIface:=rfl;unfold execOp;rw[ho];simp only[kH,hy];refine aA ?_;have guard:∀{K:Unit->View->Prop},K () V->aT P V (eqGuard op xt x (.const .nilIface) vx .nilIface) K (λ_ _=>False):=λhK=>by unfold eqGuard;rcases hv with⟨rfl,_⟩|⟨⟨u,y,rfl⟩,_⟩<;>rcases aB with rfl|rfl<;>first|exact az hK|(simp;exact az hK)
  refine aA (guard ?_);rcases hv with⟨rfl,rfl⟩|⟨⟨u,y,rfl⟩,rfl⟩<;>rcases aB with rfl|rfl<;>(unfold binOp;refine aA (aje (b:=_) ht (by first|exact .inl ⟨rfl,rfl⟩|exact .inr ⟨⟨_,_,rfl⟩,rfl⟩) (az (az ⟨rfl,_,rfl,?_⟩)));exact .val _))
def RS{t:TypeId}{d:TypeId×Nat}{b:TA}{n cap:Nat}{V:View}{K:Bool->View->Prop}{Kp:SQ}(ht:kN P t=some d)(hk:K b.isNone V):aT P V (XW t (.slice b n cap) (.slice none 0 0)) K Kp:=by
 obtain⟨el,hu⟩:∃el,P.underlying t=some (.slice el):=by unfold kN at ht;split at ht;rename_i e he;exact⟨e,he⟩;cases ht
 have e:XW t (.slice b n cap) (.slice none 0 0)=WI (9999+1) t (.slice b n cap) (.slice none 0 0):=rfl;rw[e,WI];refine ez hu ?_;cases b with
 |none=>exact az hk
 |some a=>exact az hk
def atO{op:Xl}{t yt:TypeId}{x:Up}{n:Nat}{av:AV}{d:TypeId×Nat}(ho:o.op=.binOp op t x (.const (.slice none 0 0)) yt)(aB:op=.eql\/op=.neq)(hx:s.ev x=some av)(hlen:av.len=some n)(ht:kN P t=some d)
  (hn:∀b:Bool,(0<n->b=false)->next (s.put o.dst (.val (.bool (if op== .neq then !b else b))))):Step lv P r o s next bad:=by
 intro E V a N Q hc aI hd bC h1 _;refine⟨bC,?_⟩;have dK:=ay.ev aI hx;generalize kH:a.eval x=vx at dK;obtain⟨base,cap,rfl,hb⟩:∃base cap,vx=.slice base n cap/\(0<n->base.isNone=false):=by
  cases dK with
  |sl b o cap f dT he q1 q2=>cases hlen;exact⟨_,_,rfl,λ_=>rfl⟩
  |nil he=>cases hlen;exact⟨_,_,rfl,λh=>absurd h (by omega)⟩
  |bB hi=>cases hlen;exact⟨_,_,rfl,λ_=>rfl⟩
  |_=>cases hlen
 unfold execOp;rw[ho];have hy:a.eval (.const (.slice none 0 0))=.slice none 0 0:=rfl;simp only[kH,hy];have fin:aT P V (pure (Yf (.bool (if op== .neq then !base.isNone else base.isNone)))) (ng lv P r o a N Q) (λv V'=>Q (.panic [{v,recovered:=false}]) a V'):=
  az (h1 E V (a.put o.dst _) _ ⟨Env.Le.refl E,ek _ _ _,put_defers _ _ _,rfl,rfl⟩ (by rw[fG];exact hc) (aI.iy hd (.val _)) (hn _ hb))
 rcases aB with rfl|rfl;refine aA (aA (az ?_));unfold binOp;exact aA (RS ht (az fin));refine aA (aA (az ?_));unfold binOp;exact aA (RS ht (az fin))
def arC{c:Yv}{x y:Up}{k j:UZ}{m n:Int}(ho:o.op=.call c)(aY:c.callee=.builtin .max)(cU:c.args=#[x,y])(hx:s.ev x=some (.val (.int k m)))(hy:s.ev y=some (.val (.int j n))):dH lv P r o s (.val (.int k (if n>m then n else m))):=
 s_ (λE V a hc aI=>by
  have h1:=ay.ev aI hx;have h2:=ay.ev aI hy;generalize qA:a.eval x=v1 at h1;generalize uw:a.eval y=v2 at h2;cases h1;cases h2;refine⟨_,?_,.val _⟩;unfold execOp;rw[ho];dsimp only;unfold resolve;rw[aY];have ow:c.args.map a.eval=#[.int k m,.int j n]:=by rw[cU];simp[qA,uw]
  rw[ow];rfl)
def arD{c:Yv}{x y:Up}{k j:UZ}{m n:Int}(ho:o.op=.call c)(aY:c.callee=.builtin .min)(cU:c.args=#[x,y])(hx:s.ev x=some (.val (.int k m)))(hy:s.ev y=some (.val (.int j n))):dH lv P r o s (.val (.int k (if n<m then n else m))):=
 s_ (λE V a hc aI=>by
  have h1:=ay.ev aI hx;have h2:=ay.ev aI hy;generalize qA:a.eval x=v1 at h1;generalize uw:a.eval y=v2 at h2;cases h1;cases h2;refine⟨_,?_,.val _⟩;unfold execOp;rw[ho];dsimp only;unfold resolve;rw[aY];have ow:c.args.map a.eval=#[.int k m,.int j n]:=by rw[cU];simp[qA,uw]
  rw[ow];rfl)
def adv{x:Up}{xt aL t:TypeId}{ok:Bool}{av:AV}{z:T9}(ho:o.op=.typeAssert x xt aL ok)(ht:lR P aL=some false)(hz:eR P aL=some z)(hx:s.ev x=some (.bY t av))(an:ok=true\/t=aL):
  dH lv P r o s (if t=aL then(if ok then .aJ [av,.val (.bool true)]else av)else .aJ [AV.of z,.val (.bool false)]):=
 iZ (λE V a hc aI=>by
  have hd:=ay.ev aI hx;generalize hv:a.eval x=v at hd;cases hd with
  |bY hd=>
   obtain⟨d,hu,jC⟩:=lz ht;unfold execOp;rw[ho];simp only[hv];refine aA ?_;unfold am_;refine ez hu ?_;split;rename_i h;cases jC;rename_i h;cases jC;rename_i h;cases h
   ·rename_i t' v' h;cases h;by_cases e:t=aL
    ·rw[if_pos e,if_pos e];cases ok;exact az (az ⟨rfl,_,rfl,hd⟩)
     ·refine az (az ⟨rfl,_,rfl,.aJ rfl λi b hb=> ?_⟩)
      match i,hb with
      |0,hb=>cases hb;exact hd
      |1,hb=>cases hb;exact .val _
    ·rw[if_neg e,if_neg e];have oB:ok=true:=an.resolve_right e;subst oB;simp only[if_true];refine aA (aA ?_);unfold eR at hz;obtain⟨inf,z1,z2⟩:=Uj.1 hz;unfold typeInfo;refine aA (pK (cj ?_));rw[z1];refine az ?_;rw[z2];refine az (az (az ⟨rfl,_,rfl,.aJ rfl λi b hb=> ?_⟩))
     match i,hb with
     |0,hb=>cases hb;exact tS E z
     |1,hb=>cases hb;exact .val _
   ·exfalso;simp_all)
def are{x:Up}{xt aL:TypeId}{z:T9}(ho:o.op=.typeAssert x xt aL true)(ht:lR P aL=some false)(hz:eR P aL=some z)(hx:s.ev x=some (.val .nilIface)):dH lv P r o s (.aJ [AV.of z,.val (.bool false)]):=
 iZ (λE V a hc aI=>by
  have hd:=ay.ev aI hx;generalize hv:a.eval x=v at hd;cases hd;obtain⟨d,hu,jC⟩:=lz ht;unfold execOp;rw[ho];simp only[hv];refine aA ?_;unfold am_;refine ez hu ?_;unfold eR at hz;obtain⟨inf,z1,z2⟩:=Uj.1 hz;split;rename_i h;cases jC;rename_i h;cases h
  ·simp only[if_true];refine aA (aA ?_);unfold typeInfo;refine aA (pK (cj ?_));rw[z1];refine az ?_;rw[z2];refine az (az (az ⟨rfl,_,rfl,.aJ rfl λi b hb=> ?_⟩))
   match i,hb with
   |0,hb=>cases hb;exact tS E z
   |1,hb=>cases hb;exact .val _
  ·rename_i h;cases h
  ·exfalso;simp_all)
def JX (P:Tl)(t:TypeId)(name:String):Prop:=∀v,bA P (nilAhead (P.types.size+ZN) t v name) (some false)
def arG{x:Up}{name:String}{t:TypeId}{av:AV}(ho:o.op=.nilCheck x)(hx:s.ev x=some (.fn (.method name) [.bY t av] []))(hn:JX P t name):dH lv P r o s (.fn (.method name) [.bY t av] []):=
 iZ (λE V a hc aI=>by
  have hd:=ay.ev aI hx;unfold execOp;rw[ho];dsimp only;generalize hv:a.eval x=v at hd⊢;have cM:=hd;cases hd with
  |fn da eJ h1 h2=>
   rename_i fa ca;have hfa:fa.size=1:=da;have:=h1 0 _ rfl;rw[Th,Tj (by omega)]at this;simp only[T_]at this;have hg:fa[0]?=some fa[0]:=Tj (by omega);generalize hq:fa[0]=q at this hg;cases this with
   |bY jZ=>dsimp only;rw[hg];dsimp only;refine aA (pK (cj ?_));refine(hn _).bind ?_;simp only[bne_self_eq_false,UH,if_false];exact az ⟨rfl,_,rfl,cM⟩)
def pU (P:Tl)(t:TypeId):Option (TypeId×TypeId):=match P.underlying t with
 |some (.map k e)=>some (k,e)
 |_=>none
def xS (es:TD)(ck:Nat)(k x:T9):Option (Nat×T9)->Obj
 |none=> .map (es.push {key:=k,val:=x,born:=ck}) (ck+1)
 |some (i,_)=> .map (es.modify i λe=>{e with key:=k,val:=x}) ck
def atK{t kt et:TypeId}{m k x:Up}{id ck:Nat}{es:TD}{a b:AV}{K X:T9}{fd:Option (Nat×T9)}(ho:o.op=.mapUpdate t m k x\/o.op=.insert t m k x)(ht:pU P t=some (kt,et))(hm:s.ev m=some (.mp id))(hk:s.ev k=some a)(hx:s.ev x=some b)(hK:a.raw=some K)(hX:b.raw=some X)
  (hH:s.H[id]?=some (.obj (.map es ck))) (hc:bA P (Wq false 10000 kt K) ()) (hf:bA P (Xa kt K es.toList) fd) (HS:∀i v,fd=some (i,v)->XH 10000 (((es[i]?).map (·.key)).getD K) K=true)
  (hn:next ((⟨s.T,s.H.set id (.obj (xS es ck K X fd))⟩:AS).put o.dst (.val undef))):Step lv P r o s next bad:=by
 intro E V ac N Q jA aI hd bC h1 _;refine⟨bC,?_⟩;have e1:=(ay.ev aI hk).raw hK;have e2:=(ay.ev aI hx).raw hX;have qj:=ay.ev aI hm;generalize zy:ac.eval m=vm at qj;cases qj;obtain⟨p1,p2,p3,p4⟩:=jA.obj id _ hH;obtain⟨g1,g2⟩:=jA.jq hH rfl;have go:aT P V (do aq_ t (.map (some (E.blk id))) K X;pure Next.skip) (ng lv P r o ac N Q) (λv V'=>Q (.panic [{v,recovered:=false}]) ac V'):=by
  refine aA ?_;unfold pU at ht;split at ht
  ·rename_i k' e' hu;cases ht;unfold aq_;refine ez hu ?_;dsimp only;refine aA (oP p1 p2 p3 g2 (cj ?_));dsimp only;refine hc.bind (hf.bind ?_);have fin:∀y,y=xS es ck K X fd->aT P V (setObj (E.blk id) y) (λ_ V'=>aT P V' (pure Next.skip) (ng lv P r o ac N Q) (λv V'=>Q (.panic [{v,recovered:=false}]) ac V')) (λv V'=>Q (.panic [{v,recovered:=false}]) ac V'):=λy hy=>by
    have kI:y.v5=false:=(by rw[hy];cases fd<;>rfl);have zC:y.isChan=false:=(by rw[hy];cases fd<;>rfl);refine z_ p1 p2 zC g2 (cj (az ?_));exact h1 E _ (ac.put o.dst undef) _ ⟨Env.Le.refl E,ek _ _ _,put_defers _ _ _,rfl,rfl⟩ (by rw[fG];rw[hy];exact jA.setObj hH (by cases fd<;>rfl) (by cases fd<;>rfl))
     (cu.iy (s:=⟨s.T,s.H.set id (.obj (xS es ck K X fd))⟩) aI hd (.val undef)) hn
   cases fd with
   |none=>exact fin _ rfl
   |some iv=>obtain⟨i,v⟩:=iv;dsimp only;unfold Instr.keyThatStays;rw[HS i v rfl];simp only[if_true];exact aA (az (fin _ rfl))
  ·cases ht
 unfold execOp;rcases ho with ho|ho
 all_goals
  rw[ho];simp only[zy,e1,e2];exact go
def Gy (es:TD):Option (Nat×T9)->Array MapEntry
 |some (i,_)=>es.eraseIdxIfInBounds i
 |none=>es
def atH{c:Yv}{t t' kt et:TypeId}{m k:Up}{id ck:Nat}{es:TD}{a:AV}{K:T9}{fd:Option (Nat×T9)}(ho:o.op=.call c)(aY:c.callee=.builtin .delete)(cU:c.args=#[m,k])(d_:c.argTypes=#[t,t'])(ht:pU P t=some (kt,et))(hm:s.ev m=some (.mp id))(hk:s.ev k=some a)(hK:a.raw=some K)
  (hH:s.H[id]?=some (.obj (.map es ck))) (hc:bA P (Wq es.isEmpty 10000 kt K) ()) (hf:bA P (Xa kt K es.toList) fd)
  (hn:next ((⟨s.T,s.H.set id (.obj (.map (Gy es fd) ck))⟩:AS).put o.dst (.val undef))):Step lv P r o s next bad:=by
 intro E V ac N Q jA aI hd bC h1 _;refine⟨bC,?_⟩;have e1:=(ay.ev aI hk).raw hK;have qj:=ay.ev aI hm;generalize zy:ac.eval m=vm at qj;cases qj;obtain⟨p1,p2,p3,p4⟩:=jA.obj id _ hH;obtain⟨g1,g2⟩:=jA.jq hH rfl;unfold execOp;rw[ho];dsimp only;unfold resolve;rw[aY];dsimp only;refine aA (az ?_);unfold invoke builtin;dsimp only;refine aA ?_;have ow:c.args.map ac.eval=#[.map (some (E.blk id)),K]:=by rw[cU];simp[zy,e1]
 rw[ow,d_];unfold pU at ht;split at ht
 ·rename_i k' e' hu;cases ht;unfold ayl;simp only[Ws,WF,VL];refine ez hu ?_;dsimp only;refine aA (oP p1 p2 p3 g2 (cj ?_));dsimp only;refine hc.bind (hf.bind ?_);have fin:∀vk,vk=(Gy es fd)->aT P V (setObj (E.blk id) (.map vk ck)) (λ_ V'=>aT P V' (pure (ZT #[])) (λx V'=>aT P V' (pure (Yf x)) (ng lv P r o ac N Q) (λv V'=>Q (.panic [{v,recovered:=false}]) ac V')) (λv V'=>Q (.panic [{v,recovered:=false}]) ac V')) (λv V'=>Q (.panic [{v,recovered:=false}]) ac V'):=λy hy=>by
   refine z_ p1 p2 rfl g2 (cj (az (az ?_)));exact h1 E _ (ac.put o.dst undef) _ ⟨Env.Le.refl E,ek _ _ _,put_defers _ _ _,rfl,rfl⟩ (by rw[fG];rw[hy];exact jA.setObj hH rfl rfl)
    (cu.iy (s:=⟨s.T,s.H.set id (.obj (.map (Gy es fd) ck))⟩) aI hd (.val undef)) hn
  cases fd with
  |none=>exact aA (fin _ rfl)
  |some iv=>exact aA (fin _ rfl)
 ·cases ht
def atN{t kt et:TypeId}{x:Up}{m ck:Nat}{es:TD}(ho:o.op=.range t x)(ht:pU P t=some (kt,et))(hx:s.ev x=some (.mp m))(hH:s.H[m]?=some (.obj (.map es ck)))
  (hn:next ((⟨s.T,s.H++[.iter m ck #[] ck]⟩:AS).put o.dst (.op s.H.length 0))):Step lv P r o s next bad:=by
 intro E V ac N Q hc aI hd bC h1 _;refine⟨bC,?_⟩;have qj:=ay.ev aI hx;generalize zy:ac.eval x=vm at qj;cases qj with
 |mp hm=>
  obtain⟨p1,p2,p3,p4⟩:=hc.obj m _ hH;obtain⟨g1,g2⟩:=hc.jq hH rfl;unfold execOp;rw[ho];simp only[zy];refine aA ?_;unfold pU at ht;split at ht
  ·rename_i k' e' hu;cases ht;unfold Instr.range;refine ez hu ?_;refine aA (oP p1 p2 p3 g2 (cj ?_));dsimp only;refine aA (az ?_);refine aA (oQ λrr hf=>cj (az (az ?_)));have hle:E.Le (E.add rr V.ah):=E.qE rr (λb o v h=>by rw[<- hc.I];exact h);have bu:Conc (E.add rr V.ah) (V.upd rr (.mapIter (some (E.blk m)) ck #[] ck)) (s.H++[.iter m ck #[] ck]):=by refine hc.add hf _ ⟨?_,?_,λo=> ?_⟩ (λb e=> ?_);exact Nat.lt_succ_of_lt hm;rw[Env.dP,hle.blk m hm];simp[View.upd];rw[Env.dP];exact hf.2 o;simp only[bP,Env.dP,Ul]at e;exact e.symm
   exact h1 _ _ (ac.put o.dst (.pointer (some ⟨rr,0,none⟩))) ((⟨s.T,s.H++[.iter m ck #[] ck]⟩:AS).put o.dst (.op s.H.length 0)) ⟨hle,ek _ _ _,put_defers _ _ _,rfl,rfl⟩ (by rw[fG];exact bu)
    (cu.iy (s:=⟨s.T,s.H++[.iter m ck #[] ck]⟩) (aI.mono hle) hd (KD hc.n rr V.ah)) hn
  ·cases ht
def Conc.setIter{E:Env}{V:View}{H:SA}(hc:Conc E V H){id m a c:Nat}{b:Array Nat}(hk:H[id]?=some (.iter m a b c))(a':Nat)(b':Array Nat)(c':Nat):Conc E (V.upd (E.blk id) (.mapIter (some (E.blk m)) a' b' c')) (H.set id (.iter m a' b' c')):=by obtain⟨p1,p2,p4⟩:=hc.obj id _ hk;refine hc.ja id (.iter m a' b' c') (Env.Le.refl E) hc.I (by simpa using hc.n) lS rfl (λ_ _ _=>rfl) (λb z hb hz=>⟨?_,λ_=>rfl⟩) ⟨p1,by simp[View.upd],p4⟩ (λb h=> .inl ⟨_,hk,h⟩);have:b≠E.blk id:=λe=>hb _ hk (by rw[e];rfl);simpa[View.upd,this]using hz
def atL{it:Up}{id m since ck uN:Nat}{seen:Array Nat}{es:TD}(ho:o.op=.next it false)(hi:s.ev it=some (.op id 0))(hI:s.H[id]?=some (.iter m since seen uN))(hM:s.H[m]?=some (.obj (.map es ck)))
  (an:es.all (λe=>decide (e.born>=uN))=false\/es.isEmpty=true\/seen.isEmpty=true)
  (hn:∀e∈es,e.born∉seen->next ((⟨s.T,s.H.set id (.iter m since (seen.push e.born) ck)⟩:AS).put o.dst (.aJ [.val (.bool true),AV.of e.key,AV.of e.val])))
  (ane:(∀e∈es,e.born<since->e.born∈seen)->next (s.put o.dst (.aJ [.val (.bool false)]))):Step lv P r o s next bad:=by
 intro E V ac N Q hc aI hd bC h1 _;refine⟨bC,?_⟩;have pn:=ay.ev aI hi;generalize rL:ac.eval it=vi at pn;cases pn with
 |op b_=>
  obtain⟨q1,q2,q3⟩:=hc.obj id _ hI;obtain⟨p1,p2,p3,p4⟩:=hc.obj m _ hM;have gi:=hc.jq hI rfl;have gm:=hc.jq hM rfl;unfold execOp;rw[ho];simp only[rL];refine aA ?_;unfold Instr.next;dsimp only;refine aA (oP q2 rfl rfl gi.2 (cj ?_));dsimp only;refine aA (oP p1 p2 p3 gm.2 (cj ?_));dsimp only;rw[if_neg (by
   intro h;simp only[Ui,UV]at h;rcases an with hk|hk|hk;rw[hk]at h;cases h.2;rw[hk]at h;cases h.1.2
   ·rw[hk]at h;cases h.1.1)]
  generalize aaU:(if((es.filter λe=> !seen.contains e.born).filter (λe=>decide (e.born<since))).isEmpty=true then#[none]else#[])++((es.filter λe=> !seen.contains e.born).filter (λe=>decide (e.born<since))++(es.filter λe=> !seen.contains e.born).filter (λe=>decide (e.born>=since))).map some=AJ;have ce:∀x∈AJ,match x with
    |some e=>e∈es/\e.born∉seen
    |none=>∀e∈es,e.born<since->e.born∈seen:=by
   intro x hx;rw[<- aaU]at hx;rcases Vu.1 hx with hx|hx;split at hx;rename_i ud;simp at hx;subst hx;intro e he hlt;apply Uv;intro gA;have:e∈((es.filter λe=> !seen.contains e.born).filter (λe=>decide (e.born<since))):=(by simp[he,hlt,gA]);rw[aj']at ud;rw[ud]at this;simp at this;simp at hx;rw[Array.mem_map]at hx;obtain⟨e,he,rfl⟩:=hx;rcases Vu.1 he with he|he<;>simp at he<;>exact⟨he.1,he.2.2⟩
  have Ep:0<AJ.size:=by
   rw[<- aaU];split;simp;omega
   ·rename_i ud;have:0<((es.filter λe=> !seen.contains e.born).filter (λe=>decide (e.born<since))).size:=by rw[aj']at ud;exact Array.size_pos_iff.2 ud
    simp only[YR,Array.size_map,List.size_toArray,Vz];omega
  have fin:∀j,j<AJ.size->aT P V (match AJ[j]?with
    |some (some e)=>do setObj (E.blk id) (.mapIter (some (E.blk m)) since (seen.push e.born) ck);pure (ZT #[.bool true,e.key,e.val])
    |some none=>pure (ZT #[.bool false])
    | none => stuck "Next: no such candidate") (λx V' => aT P V' (pure (Yf x)) (ng lv P r o ac N Q) (λv V' => Q (.panic [{ v, recovered := false }]) ac V')) (λv V' => Q (.panic [{ v, recovered := false }]) ac V') := by
   intro j hj;rw[Tj hj];have hm:=ce AJ[j] (XZ hj);generalize AJ[j]=x at hm;cases x with
   |none=>
    dsimp only;refine az (az ?_);exact h1 E V (ac.put o.dst _) (s.put o.dst (.aJ [.val (.bool false)])) ⟨Env.Le.refl E,ek _ _ _,put_defers _ _ _,rfl,rfl⟩ (by rw[fG];exact hc)
     (cu.iy aI hd (.aJ rfl λi b hb=>by
      match i,hb with
      |0,hb=>cases hb;exact .val _)) (ane hm)
   |some e=>
    dsimp only;refine aA (z_ q2 rfl rfl gi.2 (cj (az (az ?_))));exact h1 E _ (ac.put o.dst _) _ ⟨Env.Le.refl E,ek _ _ _,put_defers _ _ _,rfl,rfl⟩ (by rw[fG];exact hc.setIter hI since (seen.push e.born) ck)
     (cu.iy (s:=⟨s.T,s.H.set id (.iter m since (seen.push e.born) ck)⟩) aI hd (.aJ rfl λi b hb=>by
      match i,hb with
      |0,hb=>cases hb;exact .val _
      |1,hb=>cases hb;exact tS E _
      |2,hb=>cases hb;exact tS E _)) (hn e hm.1 hm.2)
  refine aA (adY (λhf=>cj (fin 0 Ep)) (λhf t=>cj (fin _ (Nat.mod_lt _ Ep))))
def AV.found (z:T9)(ok:Bool):Option (Nat×T9)->AV
 |some (_,v)=>if ok then .aJ [AV.of v,.val (.bool true)]else AV.of v
 |none=>if ok then .aJ [AV.of z,.val (.bool false)]else AV.of z
def arz{t kt et:TypeId}{m k:Up}{id ck:Nat}{es:TD}{a:AV}{K z:T9}{ok:Bool}{fd:Option (Nat×T9)}(ho:o.op=.lookup t m k ok)(ht:pU P t=some (kt,et))(hz:eR P et=some z)(hm:s.ev m=some (.mp id))(hk:s.ev k=some a)(hK:a.raw=some K)
  (hH:s.H[id]?=some (.obj (.map es ck))) (hc:bA P (Wq es.isEmpty 10000 kt K) ()) (hf:bA P (Xa kt K es.toList) fd):dH lv P r o s (AV.found z ok fd):=
 iZ (λE V ac jA aI=>by
  have e1:=(ay.ev aI hk).raw hK;have qj:=ay.ev aI hm;generalize zy:ac.eval m=vm at qj;cases qj;obtain⟨p1,p2,p3,p4⟩:=jA.obj id _ hH;have g:=jA.jq hH rfl;unfold pU at ht;split at ht
  ·rename_i k' e' hu;cases ht;unfold execOp;rw[ho];simp only[zy,e1];refine aA ?_;unfold Instr.lookup;refine ez hu ?_;dsimp only;refine aA (aA (oP p1 p2 p3 g.2 (az (az ?_))));refine hc.bind (aA (hf.ok ?_));have two:∀(v:T9)(b:Bool)(i:Nat)(x:AV),[AV.of v,.val (.bool b)][i]?=some x->ay E x ((#[v,Yp b]:SG).getD i undef):=λv b i x hx=>by
    match i,hx with
    |0,hx=>cases hx;exact tS E _
    |1,hx=>cases hx;exact .val _
   cases fd with
   |some iv=>
    obtain⟨i,v⟩:=iv;refine az (az ⟨rfl,_,rfl,?_⟩);cases ok with
    |true=>exact .aJ rfl (two v true)
    |false=>exact tS E _
   |none=>
    refine I_ hz (az (az ⟨rfl,_,rfl,?_⟩));cases ok with
    |true=>exact .aJ rfl (two z false)
    |false=>exact tS E _
  ·cases ht)
def ark{it:Up}{id m since ck:Nat}{seen:Array Nat}{es:TD}{b:Nat}{e:MapEntry}(ho:o.op=.entry it)(hi:s.ev it=some (.op id 0))(hI:s.H[id]?=some (.iter m since seen ck))(hM:s.H[m]?=some (.obj (.map es ck)))
  (hb:seen.back?=some b) (he:es.find? (·.born==b)=some e):dH lv P r o s (.aJ [AV.of e.key,AV.of e.val]):=
 iZ (λE V ac hc aI=>by
  have pn:=ay.ev aI hi;generalize rL:ac.eval it=vi at pn;cases pn with
  |op b_=>
   obtain⟨q1,q2,q3⟩:=hc.obj id _ hI;obtain⟨p1,p2,p3,p4⟩:=hc.obj m _ hM;have gi:=hc.jq hI rfl;have gm:=hc.jq hM rfl;unfold execOp;rw[ho];simp only[rL];refine aA ?_;unfold Instr.entry;dsimp only;refine aA (oP q2 rfl rfl gi.2 (cj ?_));dsimp only;rw[hb];dsimp only;refine aA (oP p1 p2 p3 gm.2 (cj ?_));dsimp only;rw[if_neg (by simp)];rw[he];refine az (az ⟨rfl,_,rfl,.aJ rfl λi b hb=> ?_⟩)
   match i,hb with
   |0,hb=>cases hb;exact tS E _
   |1,hb=>cases hb;exact tS E _)
end
def arv{lv:Bool}{P:Tl}{r:SL}{o:Vp}{s:AS}{c:Yv}{x:Up}{t:TypeId}(ho:o.op=.call c)(aY:c.callee=.builtin .len)(rN:c.args[0]?=some x)(zt:c.argTypes[0]?=some t)(ht:j6 P t=some .map)(hx:s.ev x=some (.val (.map none))):dH lv P r o s (.val (.int .i64 0)):=
 iZ (λE V ac hc aI=>by
  have hd:=ay.ev aI hx;generalize hv:ac.eval x=v at hd;cases hd;unfold j6 at ht;split at ht<;>cases ht;rename_i hu;unfold execOp;rw[ho];dsimp only;unfold resolve;rw[aY];dsimp only;refine aA (az ?_);unfold invoke builtin;dsimp only;refine aA ?_;unfold YC;have e1:(c.args.map ac.eval)[0]?=some (.map none):=by simp[rN,hv]
  simp only[zt,e1];refine ez hu ?_;exact az (az ⟨rfl,_,rfl,.val _⟩))
def gR (E:Env)(V:View)(k:SF)(kp:SF):Out->View->Prop
 |.ret v,V'=>∃av E' H',E.Le E'/\V'.role=V.role/\V'.deaf=V.deaf/\ay E' av v/\Conc E' V' H'/\k av H'
 |.panic ch,V'=>∃pv v E' H',ch=[{v,recovered:=false}]/\E.Le E'/\V'.role=V.role/\V'.deaf=V.deaf/\ay E' pv v/\Conc E' V' H'/\kp pv H'
def aS (lv:Bool)(P:Tl)(f:UR)(H:SA)(args:SC)(k:SF)(kp:SF):Prop:=
 ∀(E:Env)(V:View)(vs:SG),Conc E V H->bR E args vs->Body lv P f vs .normal V (gR E V k kp)
def Nx (lv:Bool)(P:Tl)(R:SU):Next->View->Prop
 |.value v,V=>R (.ret v) V
 |.skip,V=>R (.ret undef) V
 |.enter f args,V=>Body lv P f args .normal V R
 |.round l f tmps assign body,V=>nU lv P (Zf l f tmps assign body .normal) V R
 |_,_=>False
def fh (lv:Bool)(P:Tl)(c:AV)(H:SA)(args:SC)(k:SF)(kp:SF):Prop:=
 ∀(E:Env)(V:View)(cv:T9)(vs:SG),Conc E V H->ay E c cv->bR E args vs->
  aT P V (do let d<- VU cv vs;invoke d.target d.args) (λnx V'=>Nx lv P (gR E V k kp) nx V') (λv V'=>gR E V k kp (.panic [{v,recovered:=false}]) V')
def tC (lv:Bool)(P:Tl)(c:AV)(name:String)(H:SA)(args:SC)(k:SF)(kp:SF):Prop:=
 ∀(E:Env)(V:View)(cv:T9)(vs:SG),Conc E V H->ay E c cv->bR E args vs->
  aT P V (invoke (.fn (.method name) #[]) (#[cv]++vs)) (λnx V'=>Nx lv P (gR E V k kp) nx V') (λv V'=>gR E V k kp (.panic [{v,recovered:=false}]) V')
def gR.mono{E:Env}{V:View}{k k' kp xF:SF}(h:∀a H,k a H->k' a H)(hp:∀a H,kp a H->xF a H):∀{o V'},gR E V k kp o V'->gR E V k' xF o V'
 |.ret _,_,⟨av,E',H',a,b,c,d,e,f⟩=>⟨av,E',H',a,b,c,d,e,h _ _ f⟩
 |.panic _,_,⟨pv,v,E',H',a,b,c,d,e,f,g⟩=>⟨pv,v,E',H',a,b,c,d,e,f,hp _ _ g⟩
def Nx.mono{lv:Bool}{P:Tl}{R R':SU}(h:∀o V,R o V->R' o V):∀{nx V},Nx lv P R nx V->Nx lv P R' nx V:=by
 intro nx V hn;cases nx with
 |value v=>exact h _ _ hn
 |skip=>exact h _ _ hn
 |enter f args=>exact Body.mono hn h
 |round l f tmps a b=>exact nU.mono hn h
 |_=>exact hn
def aS.mono{lv:Bool}{P:Tl}{f:UR}{H:SA}{args:SC}{k k' kp xF:SF}(h:aS lv P f H args k kp)(hk:∀a H,k a H->k' a H)(hp:∀a H,kp a H->xF a H):aS lv P f H args k' xF:=λE V vs hc hd=>(h E V vs hc hd).mono λ_ _ x=>x.mono hk hp
def fh.mono{lv:Bool}{P:Tl}{f:AV}{H:SA}{args:SC}{k k' kp xF:SF}(h:fh lv P f H args k kp)(hk:∀a H,k a H->k' a H)(hp:∀a H,kp a H->xF a H):fh lv P f H args k' xF:=λE V cv vs hc hd mG=>(h E V cv vs hc hd mG).mono (λ_ _ x=>Nx.mono (λ_ _ y=>y.mono hk hp) x) (λ_ _ y=>y.mono hk hp)
def rU (P:Tl)(g:UR):Bool:=match P.funcs[g]?with
 | some fn => fn.body.isSome && !(fn.name == "runtime.NumGoroutine")
 |none=>false
def asM{lv:Bool}{P:Tl}{V:View}{g:UR}{vs:SG}{R:SU}{Kp:SQ}(hg:rU P g=true)(h:Body lv P g vs .normal V R):aT P V (callFunc g vs) (λnx V'=>Nx lv P R nx V') Kp:=by
 unfold callFunc;refine aA (pK (cj ?_));unfold rU at hg;split at hg
 ·rename_i fn vE;simp only[Ui,UV]at hg;rw[vE];dsimp only;have nz:fn.body.isNone=false:=by
   have h1:=hg.1;cases hb:fn.body with
   |none=>rw[hb]at h1;cases h1
   |some _=>rfl
  rw[if_neg (by rw[hg.2];simp),if_neg (by rw[nz];simp)];exact az h
 ·cases hg
section
variable {lv:Bool}{P:Tl}{H:SA}{args:SC}{k kp:SF}
def Kq{g:UR}{first c9:SC}(hg:rU P g=true)(hf:aS lv P g H (first++args++c9) k kp):fh lv P (.fn (.func g) first c9) H args k kp:=by
 intro E V cv vs hc hd mG;cases hd with
 |fn da eJ h1 h2=>rename_i fa ca;unfold VU;refine aA (az ?_);unfold invoke;dsimp only;exact asM hg (hf E V _ hc (AP (AP ⟨da,h1⟩ mG) ⟨eJ,h2⟩))
end
def fJ (s:AS):List Up->Option (SC)
 |[]=>some []
 |x::l=>match s.ev x,fJ s l with
  |some a,some aL=>some (a::aL)
  |_,_=>none
def A0{E:Env}{s:AS}{a:Act}(k:cu E s.T a.tmps):∀{l:List Up}{aL:SC},fJ s l=some aL->bR E aL (l.map a.eval).toArray
 |[],_,h=>by cases h;exact⟨rfl,by simp⟩
 |x::l,aL,h=>by
  simp only[fJ]at h;split at h
  ·rename_i av j9 h1 h2;cases h;have ih:=A0 k h2;refine⟨by have:=ih.1;simpa using this,λi b e=> ?_⟩;cases i with
   |zero=>simp at e;subst e;simpa[Th]using ay.ev k h1
   |succ i=>simp only[VL]at e;have:=ih.2 i b e;simpa[Th]using this
  ·cases h
section
variable {lv:Bool}{P:Tl}{r:SL}{o:Vp}{s:AS}{next:SV}{bad:AV->SV}
def ac4{E:Env}{V:View}{a:Act}{N:S4}{Q:SJ}(aI:cu E s.T a.tmps)(hd:∀d,o.dst=some d->d<a.tmps.size)
  (h1:∀E' V' a' s',Kept E E' V V' a a'->Conc E' V' s'.H->cu E' s'.T a'.tmps->next s'->N a' V')
  (h2:∀E' V' s' pv v,Kept E E' V V' a a->Conc E' V' s'.H->cu E' s'.T a.tmps->ay E' pv v->bad pv s'->Q (.panic [{v,recovered:=false}]) a V'):
  (∀nx V',Nx lv P (gR E V (λb H'=>next ((⟨s.T,H'⟩:AS).put o.dst b)) (λpv H'=>bad pv ⟨s.T,H'⟩)) nx V'->ng lv P r o a N Q nx V')/\
  (∀v V',gR E V (λb H'=>next ((⟨s.T,H'⟩:AS).put o.dst b)) (λpv H'=>bad pv ⟨s.T,H'⟩) (.panic [{v,recovered:=false}]) V'->Q (.panic [{v,recovered:=false}]) a V'):=by
 have hv:∀v V',gR E V (λb H'=>next ((⟨s.T,H'⟩:AS).put o.dst b)) (λpv H'=>bad pv ⟨s.T,H'⟩) (.ret v) V'->N (a.put o.dst v) V':=λv V' ⟨av,E',H',hle,cr,fB,bm,bu,hk⟩=>h1 E' V' _ _ ⟨hle,ek _ _ _,put_defers _ _ _,cr,fB⟩ (by rw[fG];exact bu) (cu.iy (s:=⟨s.T,H'⟩) (aI.mono hle) hd bm) hk
 have hp:∀ch V',gR E V (λb H'=>next ((⟨s.T,H'⟩:AS).put o.dst b)) (λpv H'=>bad pv ⟨s.T,H'⟩) (.panic ch) V'->Q (.panic ch) a V':=λch V' ⟨pv,v,E',H',fA,hle,cr,fB,bm,bu,hk⟩=>by subst fA;exact h2 E' V' ⟨s.T,H'⟩ pv v ⟨hle,rfl,rfl,cr,fB⟩ bu (aI.mono hle) bm hk
 refine⟨λnx V' hn=> ?_,λv V' h=>hp _ _ h⟩;cases nx with
 |value v=>exact hv _ _ hn
 |skip=>exact hv _ _ hn
 |enter f args=>
  refine Body.mono (R':=fun
   |.ret v,V'=>N (a.put o.dst v) V'
   |.panic ch,V'=>Q (.panic ch) a V') hn λot aZ h=> ?_
  cases ot with
  |ret v=>exact hv _ _ h
  |panic ch=>exact hp _ _ h
 |round l f tmps aL b=>
  refine nU.mono (R':=fun
   |.ret v,V'=>N (a.put o.dst v) V'
   |.panic ch,V'=>Q (.panic ch) a V') hn λot aZ h=> ?_
  cases ot with
  |ret v=>exact hv _ _ h
  |panic ch=>exact hp _ _ h
 |_=>exact hn.elim
def Pz{c:Yv}{x:Up}{tP:AV}{aL:SC}(ho:o.op=.call c)(aY:c.callee=.value x)(hx:s.ev x=some tP)(has:fJ s c.args.toList=some aL)
  (hf:fh lv P tP s.H aL (λb H'=>next ((⟨s.T,H'⟩:AS).put o.dst b)) (λpv H'=>bad pv ⟨s.T,H'⟩)):Step lv P r o s next bad:=by
 intro E V a N Q hc aI hd bC h1 h2;have sP:=ac4 (lv:=lv) (P:=P) (r:=r) aI hd h1 h2;refine⟨bC,?_⟩;unfold execOp;rw[ho];dsimp only;unfold resolve;rw[aY];dsimp only;have e:c.args.map a.eval=(c.args.toList.map a.eval).toArray:=by apply Wz;simp
 rw[e];exact(hf E V (a.eval x) _ hc (ay.ev aI hx) (A0 aI has)).mono (λnx V' h=>sP.1 nx V' h) (λv V' h=>sP.2 v V' h)
def aer{c:Yv}{x:Up}{name:String}{tP:AV}{aL:SC}(ho:o.op=.call c)(aY:c.callee=.invoke x name)(hx:s.ev x=some tP)(has:fJ s c.args.toList=some aL)
  (hf:tC lv P tP name s.H aL (λb H'=>next ((⟨s.T,H'⟩:AS).put o.dst b)) (λpv H'=>bad pv ⟨s.T,H'⟩)):Step lv P r o s next bad:=by
 intro E V a N Q hc aI hd bC h1 h2;have sP:=ac4 (lv:=lv) (P:=P) (r:=r) aI hd h1 h2;refine⟨bC,?_⟩;unfold execOp;rw[ho];dsimp only;unfold resolve;rw[aY];dsimp only;refine aA (az ?_);have e:c.args.map a.eval=(c.args.toList.map a.eval).toArray:=by apply Wz;simp
 rw[e];exact(hf E V (a.eval x) _ hc (ay.ev aI hx) (A0 aI has)).mono (λnx V' h=>sP.1 nx V' h) (λv V' h=>sP.2 v V' h)
def atM{x:Up}{t:TypeId}{av:AV}(ho:o.op=.panic x)(hx:s.ev x=some (.bY t av))(hb:bad (.bY t av) s):Step lv P r o s next bad:=by
 intro E V a N Q hc aI hd bC _ h2;refine⟨bC,?_⟩;have dK:=ay.ev aI hx;unfold execOp;rw[ho];dsimp only;refine aA ?_;generalize a.eval x=v at dK⊢;have amw:=dK;cases dK with
 |bY hv=>unfold Instr.panic;dsimp only;exact asV (h2 E V s (.bY t av) _ ⟨Env.Le.refl E,rfl,rfl,rfl,rfl⟩ hc aI amw hb)
end
structure CM (k kp:SF):Type where
 n:Nat
def CD (lv:Bool)(P:Tl)(c:AV)(H:SA)(args:SC)(k kp:SF)(_t:CM k kp):Prop:=fh lv P c H args k kp
def P7 (lv:Bool)(P:Tl)(c:AV)(name:String)(H:SA)(args:SC)(k kp:SF)(_t:CM k kp):Prop:=tC lv P c name H args k kp
def n9{lv:Bool}{P:Tl}{c:AV}{H:SA}{args:SC}{k kp:SF}{t:CM k kp}(h:fh lv P c H args k kp):CD lv P c H args k kp t:=h
def EL{lv:Bool}{P:Tl}{c:AV}{name:String}{H:SA}{args:SC}{k kp:SF}{t:CM k kp}(h:tC lv P c name H args k kp):P7 lv P c name H args k kp t:=h
def au {α:Type}(x:Option α)(k:α->Prop):Prop:=match x with
 |some a=>k a
 |none=>False
def AV.asBool (a:AV)(k:Bool->Prop):Prop:=match a with
 |.val (.bool b)=>k b
 |_=>False
def AV.asInt (a:AV)(k:UZ->Int->Prop):Prop:=match a with
 |.val (.int j n)=>k j n
 |_=>False
def AV.yr (a:AV)(k:SC->Prop):Prop:=match a with
 |.aJ l=>k l
 |_=>False
def AV.asAgg (a:AV)(k:SC->Prop):Prop:=match a with
 |.agg l=>k l
 |_=>False
def AV.qV (a:AV)(k:Nat->S7):Prop:=match a with
 |.op i j=>k i j
 |_=>False
def AV.tL (a:AV)(k:S7):Prop:=match a with
 |.mp i=>k i
 |_=>False
abbrev TG:=Nat->SC->End->Prop
def AV.wO (a:AV)(k:TG):Prop:=match a with
 |.sl n l e=>k n l e
 |_=>False
def au.out{α:Type}{x:Option α}{k:α->Prop}(h:au x k):∃a,x=some a/\k a:=by
 cases x with
 |none=>exact h.elim
 |some a=>exact⟨a,rfl,h⟩
def Da{a:AV}{k:Bool->Prop}(h:a.asBool k):∃b,a=.val (.bool b)/\k b:=by unfold AV.asBool at h;split at h;exact⟨_,rfl,h⟩;exact h.elim
def oZ{a:AV}{k:UZ->Int->Prop}(h:a.asInt k):∃j n,a=.val (.int j n)/\k j n:=by unfold AV.asInt at h;split at h;exact⟨_,_,rfl,h⟩;exact h.elim
def ag3{a:AV}{k:SC->Prop}(h:a.yr k):∃l,a=.aJ l/\k l:=by unfold AV.yr at h;split at h;exact⟨_,rfl,h⟩;exact h.elim
def agT{a:AV}{k:SC->Prop}(h:a.asAgg k):∃l,a=.agg l/\k l:=by unfold AV.asAgg at h;split at h;exact⟨_,rfl,h⟩;exact h.elim
def Db{a:AV}{k:Nat->S7}(h:a.qV k):∃i j,a=.op i j/\k i j:=by unfold AV.qV at h;split at h;exact⟨_,_,rfl,h⟩;exact h.elim
def Gh{a:AV}{k:S7}(h:a.tL k):∃i,a=.mp i/\k i:=by unfold AV.tL at h;split at h;exact⟨_,rfl,h⟩;exact h.elim
def Qu{a:AV}{k:TG}(h:a.wO k):∃n l e,a=.sl n l e/\k n l e:=by unfold AV.wO at h;split at h;exact⟨_,_,_,rfl,h⟩;exact h.elim
section
variable (P:Tl)(s:AS)
def dx (op:Xl)(xt:TypeId)(a b:AV)(k:SP):Prop:=match a,b with
 |.val (.int j m),.val (.int j' n)=>if nJ op then au (Cn op j m n) λv=>k (.val v)else j'=j/\au (mD op j m n) λv=>k (.val v)
 |_,_=>(op=.eql\/op=.neq)/\au a.raw λX=>au b.raw λY=>yE X Y=true/\P.eqGuardType P.depth xt=false/\∃e,bA P (XW xt X Y) e/\k (.val (.bool (if op== .neq then !e else e)))
def jb (op:Xl)(xt:TypeId)(y:Up)(a:AV)(k:SP):Prop:=match y,a with
 |.const .nilIface,.val .nilIface=>lR P xt=some true/\(op=.eql\/op=.neq)/\k (.val (.bool (if op== .neq then false else true)))
 |.const .nilIface,.bY _ _=>lR P xt=some true/\(op=.eql\/op=.neq)/\k (.val (.bool (if op== .neq then true else false)))
 |y,a=>au (s.ev y) λb=>dx P op xt a b k
def tw (t:TypeId)(a:AV)(l h m:TK)(k:SP):Prop:=match a with
 |.sl n li e=>au (kN P t) λ(_,sz)=>yk n li e sz l h m k
 |.bB id off n cap=>au (kN P t) λ(_,sz)=>tG id off n cap sz l h m k
 |.op id off=>au (yf P t) λ(n,sz)=>tG id off n n sz l h m k
 |_=>False
def qO (t:TypeId)(a:AV)(k:SP):Prop:=match j6 P t,a with
 |some .slice,.sl n _ _=>k (.val (.int .i64 n))
 |some .slice,.bB _ _ n _=>k (.val (.int .i64 n))
 |some .str,.val (.string b)=>k (.val (.int .i64 b.size))
 |some .map,.mp id=>match s.H[id]?with
  |some (.obj (.map es _))=>k (.val (.int .i64 es.size))
  |_=>False
 |some .map,.val (.map none)=>k (.val (.int .i64 0))
 |_,_=>False
def mZ (a:AV)(k:SP):Prop:=match a with
 |.fn (.method name) [.bY t av] []=>JX P t name/\k (.fn (.method name) [.bY t av] [])
 |a=>a.sure=true/\k a
def CA (aL:TypeId)(ok:Bool)(a:AV)(k:SP):Prop:=lR P aL=some false/\au (eR P aL) λz=>match a with
 |.bY t av=>if t=aL then k (if ok then .aJ [av,.val (.bool true)]else av)else ok=true/\k (.aJ [AV.of z,.val (.bool false)])
 |.val .nilIface=>ok=true/\k (.aJ [AV.of z,.val (.bool false)])
 |_=>False
def lZ (o:Vp)(k:SP):Prop:=match o.op with
 |.move x=>au (s.ev x) k
 |.assign x=>au (s.ev x) k
 |.pick c x y=>au (s.ev c) λb=>au (s.ev x) λa=>au (s.ev y) λa'=>b.asBool λb=>k (if b then a else a')
 |.binOp op xt x y _=>au (s.ev x) λa=>jb P s op xt y a k
 |.unOp .not _ x=>au (s.ev x) λa=>a.asBool λb=>k (.val (.bool !b))
 |.unOp .neg _ x=>au (s.ev x) λa=>a.asInt λj n=>k (.val (.int j (j.wrap (0-n))))
 |.convert src dst x=>au (s.ev x) λa=>match CE P src dst with
   |some (some j)=>a.asInt λ_ n=>k (.val (.int j (j.wrap n)))
   |_=>False
 |.extract x i=>au (s.ev x) λa=>a.yr λl=>au l[i]? k
 |.nilCheck x=>au (s.ev x) λa=>mZ P a k
 |.makeInterface t x=>lR P t=some false/\au (s.ev x) λa=>k (.bY t a)
 |.makeFunc f first c9=>au (first.toList.mapM s.ev) λfa=>au (c9.toList.mapM s.ev) λca=>k (.fn f fa ca)
 |.typeAssert x _ aL ok=>au (s.ev x) λa=>CA P aL ok a k
 |.build t parts=>au (m_ P t) λ(pl,z)=>au (kB s parts.toList) λaL=>au (o6 pl.at (my z) aL) λl=>k (.agg l)
 |.buildSlice t len parts=>au (qS P t) λ(_,sz,z)=>len* sz<=2^24/\au (kB s parts.toList) λaL=>au (o6 (h_.at (.elems sz)) (gF z (len* sz)) aL) λl=>k (.sl len l .exact)
 |.fieldAddr t x f=>au (s.ev x) λa=>au (eD P t f) λn=>au (a.shift n) k
 |.indexAddr t x ix=>au (s.ev x) λa=>au (s.ev ix) λi=>i.asInt λ_ i=>au (nR P t) fun
   |(some n,sz)=>(0<=i/\i<n)/\au (a.shift (i.toNat* sz)) k
   |(none,sz)=>au a.row λ(n,p)=>(0<=i/\i<n)/\au (p.shift (i.toNat* sz)) k
 |.field t x f=>au (s.ev x) λa=>a.asAgg λl=>au (JY P t f) λ(off,n,g)=>au (AV.cut l off n g) k
 |.index t x ix=>au (s.ev x) λa=>au (s.ev ix) λi=>i.asInt λ_ i=>match a with
   |.agg l=>au (JP P t) λ(n,sz,g)=>(0<=i/\i<n)/\au (AV.cut l (i.toNat* sz) sz g) k
   |.val (.string b)=>(match j6 P t with|some .str=>True|_=>False)/\0<=i/\au b[i.toNat]? λc=>k (.val (.int .u8 c.toNat))
   |_=>False
 |.load t x=>au (s.ev x) λp=>au (s.at p) λl=>au (Ty P t) fun
   |(n,true)=>n<=l.length/\k (.agg (l.take n))
   |(_,false)=>au l[0]? k
 |.lookup t m k' ok=>au (pU P t) λ(kt,et)=>au (eR P et) λz=>au (s.ev m) λp=>au (s.ev k') λa=>au a.raw λK=>p.tL λid=>match s.H[id]?with
  |some (.obj (.map es _))=>bA P (Wq es.isEmpty 10000 kt K) ()/\∃fd,bA P (Xa kt K es.toList) fd/\k (AV.found z ok fd)
  |_=>False
 |.slice t x lo hi mx=>au (s.ev x) λa=>au (s.jw lo) λl=>au (s.jw hi) λh=>au (s.jw mx) λm=>tw P t a l h m k
 |.entry it=>au (s.ev it) λp=>p.qV λid off=>off=0/\match s.H[id]?with
   |some (.iter m _ seen ck)=>match s.H[m]?with
    |some (.obj (.map es Rc))=>Rc=ck/\au seen.back? λb=>au (es.find? (·.born==b)) λe=>k (.aJ [AV.of e.key,AV.of e.val])
    |_=>False
   |_=>False
 |.call c=>match c.callee with
  |.builtin .len=>au c.args[0]? λx=>au c.argTypes[0]? λt=>au (s.ev x) λa=>qO P s t a k
  |.builtin .max=>match c.args.toList with
   |[x,y]=>au (s.ev x) λa=>au (s.ev y) λb=>a.asInt λj m=>b.asInt λ_ n=>k (.val (.int j (if n>m then n else m)))
   |_=>False
  |.builtin .min=>match c.args.toList with
   |[x,y]=>au (s.ev x) λa=>au (s.ev y) λb=>a.asInt λj m=>b.asInt λ_ n=>k (.val (.int j (if n<m then n else m)))
   |_=>False
  |_=>False
 |_=>False
end
section
variable {lv:Bool}{P:Tl}{r:SL}{o:Vp}{s:AS}
def nY{c:Yv}{x y:Up}(h:c.args.toList=[x,y]):c.args=#[x,y]:=by apply Wz;simpa using h
def lZ.sound{k:SP}(h:lZ P s o k):∃av,dH lv P r o s av/\k av:=by
 unfold lZ at h;split at h;rename_i x ho;obtain⟨a,h1,h2⟩:=h.out;exact⟨a,ady (.inl ho) h1,h2⟩;rename_i x ho;obtain⟨a,h1,h2⟩:=h.out;exact⟨a,ady (.inr ho) h1,h2⟩;rename_i c x y ho;obtain⟨b,h1,h⟩:=h.out;obtain⟨a,h2,h⟩:=h.out;obtain⟨a',h3,h⟩:=h.out;obtain⟨b,rfl,h⟩:=Da h;exact⟨_,arI ho h1 h2 h3,h⟩;rename_i op xt x y yt ho;obtain⟨a,h1,hY⟩:=h.out;clear h;unfold jb at hY;split at hY;exact⟨_,adw ho hY.2.1 h1 (.inl ⟨rfl,rfl⟩) hY.1,hY.2.2⟩;exact⟨_,adw ho hY.2.1 h1 (.inr ⟨⟨_,_,rfl⟩,rfl⟩) hY.1,hY.2.2⟩;rename_i n1 n2;clear n1 n2;obtain⟨b,h2,h⟩:=hY.out;unfold dx at h;split at h;rename_i j m j' n;split at h;obtain⟨v,h3,h⟩:=h.out;exact⟨_,arJ ho h1 h2 h3,h⟩;obtain⟨rfl,h⟩:=h;obtain⟨v,h3,h⟩:=h.out;exact⟨_,arf ho h1 h2 h3,h⟩;obtain⟨aB,h⟩:=h;obtain⟨X,h3,h⟩:=h.out;obtain⟨Y,h4,h⟩:=h.out;obtain⟨h5,h6,e,h7,h⟩:=h;exact⟨_,arl ho aB h1 h2 h3 h4 h5 h6 h7,h⟩;rename_i t x ho;obtain⟨a,h1,h⟩:=h.out;obtain⟨b,rfl,h⟩:=Da h;exact⟨_,arH ho h1,h⟩;rename_i t x ho;obtain⟨a,h1,h⟩:=h.out;obtain⟨j,n,rfl,h⟩:=oZ h;exact⟨_,arE ho h1,h⟩;rename_i src dst x ho;obtain⟨a,h1,h⟩:=h.out;split at h;rename_i j hj;obtain⟨j',n,rfl,h⟩:=oZ h;exact⟨_,arj ho hj h1,h⟩;exact h.elim;rename_i x i ho;obtain⟨a,h1,h⟩:=h.out;obtain⟨l,rfl,h⟩:=ag3 h;obtain⟨b,h2,h⟩:=h.out;exact⟨_,arm ho h1 h2,h⟩;rename_i x ho;obtain⟨a,h1,h⟩:=h.out;unfold mZ at h;split at h;exact⟨_,arG ho h1 h.1,h.2⟩;exact⟨_,arF ho h1 h.1,h.2⟩;rename_i t x ho;obtain⟨h1,h⟩:=h;obtain⟨a,h2,h⟩:=h.out;exact⟨_,arB ho h1 h2,h⟩
 ·rename_i f first c9 ho
  obtain⟨fa,h1,h⟩:=h.out;obtain⟨ca,h2,h⟩:=h.out;exact⟨_,arA ho h1 h2,h⟩
 ·rename_i x xt aL ok ho;obtain⟨a,h1,hA⟩:=h.out;obtain⟨h2,hB⟩:=hA;obtain⟨z,h3,hC⟩:=hB.out;clear h hB;split at hC;rename_i t av;split at hC;rename_i e;subst e;exact⟨_,adv ho h2 h3 h1 (.inr rfl),by rw[if_pos rfl];exact hC⟩;rename_i e;exact⟨_,adv ho h2 h3 h1 (.inl hC.1),by rw[if_neg e];exact hC.2⟩;obtain⟨e,hC⟩:=hC;subst e;exact⟨_,are ho h2 h3 h1,hC⟩;exact hC.elim
 ·rename_i t parts ho;obtain⟨⟨pl,z⟩,h1,h⟩:=h.out;obtain⟨aL,h2,h⟩:=h.out;obtain⟨l,h3,h⟩:=h.out;exact⟨_,arh ho h1 h2 h3,h⟩
 ·rename_i t len parts ho;obtain⟨⟨e,sz,z⟩,h1,h⟩:=h.out;obtain⟨hs,h⟩:=h;obtain⟨aL,h2,h⟩:=h.out;obtain⟨l,h3,h⟩:=h.out;exact⟨_,ari ho h1 hs h2 h3,h⟩
 ·rename_i t x f ho;obtain⟨a,h1,h⟩:=h.out;obtain⟨n,hn,h⟩:=h.out;obtain⟨b,h2,h⟩:=h.out;exact⟨_,arn ho hn h1 h2,h⟩
 ·rename_i t x ix ho;obtain⟨a,h1,h⟩:=h.out;obtain⟨i,h2,h⟩:=h.out;obtain⟨j,i,rfl,h⟩:=oZ h;obtain⟨⟨on,sz⟩,ht,h⟩:=h.out;cases on with
  |some n=>obtain⟨⟨h3,h4⟩,h⟩:=h;obtain⟨q,h5,h⟩:=h.out;exact⟨_,arq ho ht h1 h2 h3 h4 h5,h⟩
  |none=>obtain⟨⟨n,p⟩,anF,h⟩:=au.out h;obtain⟨⟨h3,h4⟩,h⟩:=h;obtain⟨q,h5,h⟩:=h.out;exact⟨_,arp ho ht h1 anF h2 h3 h4 h5,h⟩
 ·rename_i t x f ho;obtain⟨a,h1,h⟩:=h.out;obtain⟨l,rfl,h⟩:=agT h;obtain⟨⟨off,n,g⟩,h2,h⟩:=h.out;obtain⟨b,h3,h⟩:=h.out;exact⟨_,aro ho h2 h1 h3,h⟩
 ·rename_i t x ix ho;obtain⟨a,h1,h⟩:=h.out;obtain⟨i,h2,h⟩:=h.out;obtain⟨j,i,rfl,h⟩:=oZ h;split at h;obtain⟨⟨n,sz,g⟩,h3,h⟩:=h.out;obtain⟨⟨h4,h5⟩,h⟩:=h;obtain⟨b,h6,h⟩:=h.out;exact⟨_,art ho h3 h1 h2 h4 h5 h6,h⟩;obtain⟨h3,h4,h⟩:=h;obtain⟨c,h5,h⟩:=h.out;split at h3;rename_i hl;exact⟨_,ars ho hl h1 h2 h4 h5,h⟩;exact h3.elim;exact h.elim
 ·rename_i t x ho;obtain⟨p,h1,h⟩:=h.out;obtain⟨l,hl,h⟩:=h.out;obtain⟨⟨n,g⟩,ht,h⟩:=h.out;cases g with
  |true=>exact⟨_,arx ho ht h1 hl h.1,h.2⟩
  |false=>obtain⟨av,h2,h⟩:=au.out h;exact⟨_,ary ho ht h1 hl h2,h⟩
 ·rename_i t m k' ok ho;obtain⟨⟨kt,et⟩,h1,hA⟩:=h.out;obtain⟨z,h2,hB⟩:=hA.out;obtain⟨p,h3,hC⟩:=hB.out;obtain⟨a,h4,hD⟩:=hC.out;obtain⟨K,h5,hE⟩:=hD.out;obtain⟨id,e1,hF⟩:=Gh hE;subst e1;split at hF;rename_i es ck hH;obtain⟨h6,fd,h7,h8⟩:=hF;exact⟨_,arz ho h1 h2 h3 h4 h5 hH h6 h7,h8⟩;exact hF.elim
 ·rename_i t x lo hi mx ho;obtain⟨a,h1,h⟩:=h.out;obtain⟨l,h2,h⟩:=h.out;obtain⟨hh,h3,h⟩:=h.out;obtain⟨m,h4,h⟩:=h.out;unfold tw at h;split at h;obtain⟨⟨e,sz⟩,h5,h⟩:=h.out;exact arK ho h5 h1 h2 h3 h4 h;obtain⟨⟨e,sz⟩,h5,h⟩:=h.out;exact arM ho h5 h1 h2 h3 h4 h;obtain⟨⟨n,sz⟩,h5,h⟩:=h.out;exact arL ho h5 h1 h2 h3 h4 h;exact h.elim
 ·rename_i it ho;obtain⟨p,h1,hA⟩:=h.out;obtain⟨id,off,e1,hB⟩:=Db hA;clear h hA;subst e1;obtain⟨e1,hC⟩:=hB;subst e1;split at hC;rename_i m since seen ck hI;split at hC;rename_i es Rc hM;obtain⟨e1,hD⟩:=hC;subst e1;obtain⟨b,h2,hE⟩:=hD.out;obtain⟨e,h3,hF⟩:=hE.out;exact⟨_,ark ho h1 hI hM h2 h3,hF⟩;exact hC.elim;exact hC.elim
 ·rename_i c ho;split at h;rename_i aY;obtain⟨x,h1,h⟩:=h.out;obtain⟨t,h2,h⟩:=h.out;obtain⟨a,h3,h⟩:=h.out;unfold qO at h;split at h;rename_i hl;exact⟨_,adx ho aY h1 h2 hl h3 rfl,h⟩;rename_i hl;exact⟨_,adx ho aY h1 h2 hl h3 rfl,h⟩;rename_i hl;exact⟨_,arw ho aY h1 h2 hl h3,h⟩;rename_i hl;split at h;rename_i hM;exact⟨_,aru ho aY h1 h2 hl h3 hM,h⟩;exact h.elim;rename_i hl;exact⟨_,arv ho aY h1 h2 hl h3,h⟩;exact h.elim;rename_i aY;split at h;rename_i x y cU;obtain⟨a,h1,hA⟩:=h.out;obtain⟨b,h2,hB⟩:=hA.out;obtain⟨j,m,e1,hC⟩:=oZ hB;obtain⟨j',n,e2,hD⟩:=oZ hC;subst e1 e2;exact⟨_,arC ho aY (nY cU) h1 h2,hD⟩;exact h.elim;rename_i aY;split at h;rename_i x y cU;obtain⟨a,h1,hA⟩:=h.out;obtain⟨b,h2,hB⟩:=hA.out;obtain⟨j,m,e1,hC⟩:=oZ hB;obtain⟨j',n,e2,hD⟩:=oZ hC;subst e1 e2;exact⟨_,arD ho aY (nY cU) h1 h2,hD⟩;exact h.elim;exact h.elim
 ·exact h.elim
end
structure mA (X Y:Prop):Type where
 n:Nat
def rY (b cp:Bool)(X Y:Prop)(_t:mA X Y):Prop:=(b=cp->X)/\(b= !cp->Y)
def yO{b cp:Bool}{X Y:Prop}{t:mA X Y}(h1:b=cp->X)(h2:b= !cp->Y):rY b cp X Y t:=⟨h1,h2⟩
def LI(X Y:Prop)(t:mA X Y):rY true true X Y t=X:=by simp[rY]
def LH(X Y:Prop)(t:mA X Y):rY true false X Y t=Y:=by simp[rY]
def LF(X Y:Prop)(t:mA X Y):rY false true X Y t=Y:=by simp[rY]
def LD(X Y:Prop)(t:mA X Y):rY false false X Y t=X:=by simp[rY]
section
variable (lv:Bool)(P:Tl)
def uQ (H:SA)(k:SF)(id off n c0 m sz:Nat)(elem:TypeId)(l':SC):Prop:=off=0/\c0<n/\l'.length=m* sz/\n+m<=2^30/\(∀a∈l',a.leaf=true)/\match H[id]?with
 |some (.own eQ l el)=>eQ=sz/\el=elem/\l.length=n* sz/\k (.bB H.length 0 (n+m) 0) (H.set id .gone++[.own sz (l++l') elem])
 |_=>False
def AV.qW (a:AV)(kO:Nat->Nat->Nat->S7)(k:TG):Prop:=match a with
 |.bB id off n c=>kO id off n c
 |.sl n l e=>k n l e
 |_=>False
def J_{a:AV}{kO:Nat->Nat->Nat->S7}{k:TG}(h:a.qW kO k):(∃id off n c,a=.bB id off n c/\kO id off n c)\/∃n l e,a=.sl n l e/\k n l e:=by unfold AV.qW at h;split at h;exact .inl ⟨_,_,_,_,rfl,h⟩;exact .inr ⟨_,_,_,rfl,h⟩;exact h.elim
def m8 (s:AS)(o:Vp)(next:SV)(bad:AV->SV):Prop:=match o.op with
 |.box t x=>au (s.ev x) λa=>au a.parts λl=>next ((⟨s.T,s.H++[.cells l t]⟩:AS).put o.dst (.op s.H.length 0))
 |.alloc t=>au (eR P t) λz=>next ((⟨s.T,s.H++[.cells (my z) t]⟩:AS).put o.dst (.op s.H.length 0))
 |.store t x y=>au (s.ev x) λp=>au (s.ev y) λa=>au a.parts λlp=>p.qV λid off=>match s.H[id]?with
  |some (.cells l el)=>(au (Ty P t) λx=>lp.length=x.1)/\off+lp.length<=l.length/\(∀a∈lp,a.leaf=true)/\next ((⟨s.T,s.H.set id (.cells (iT l off lp) el)⟩:AS).put o.dst (.val undef))
  |some (.part p l el)=>p<=off/\(au (Ty P t) λx=>lp.length=x.1)/\off+lp.length<=l.length/\(∀a∈lp,a.leaf=true)/\next ((⟨s.T,s.H.set id (.part p (iT l off lp) el)⟩:AS).put o.dst (.val undef))
  |some (.own p l el)=>(au (Ty P t) λx=>lp.length=x.1)/\off+lp.length<=l.length/\(∀a∈lp,a.leaf=true)/\next ((⟨s.T,s.H.set id (.own p (iT l off lp) el)⟩:AS).put o.dst (.val undef))
  |_=>False
 |.makeMap _ none=>next ((⟨s.T,s.H++[.obj (.map #[] 0)]⟩:AS).put o.dst (.mp s.H.length))
 |.makeSlice t x y=>au (CO P t) λ(e,sz,z)=>au (s.ev x) λa=>au (s.ev y) λb=>a.asInt λ_ n=>b.asInt λ_ n'=>n'=n/\0<=n/\n<=2^30/\next ((⟨s.T,s.H++[.cells (gF z (n.toNat* sz)) e]⟩:AS).put o.dst (.bB s.H.length 0 n.toNat n.toNat))
 |.mapUpdate t m k x=>au (pU P t) λ(kt,_)=>au (s.ev m) λp=>au (s.ev k) λa=>au (s.ev x) λb=>au a.raw λK=>au b.raw λX=>p.tL λid=>match s.H[id]?with
  |some (.obj (.map es ck))=>bA P (Wq false 10000 kt K) ()/\∃fd,bA P (Xa kt K es.toList) fd/\(∀i v,fd=some (i,v)->XH 10000 (((es[i]?).map (·.key)).getD K) K=true)/\next ((⟨s.T,s.H.set id (.obj (xS es ck K X fd))⟩:AS).put o.dst (.val undef))
  |_=>False
 |.range t x=>au (pU P t) λ_=>au (s.ev x) λp=>p.tL λm=>match s.H[m]?with
  |some (.obj (.map _ ck))=>next ((⟨s.T,s.H++[.iter m ck #[] ck]⟩:AS).put o.dst (.op s.H.length 0))
  |_=>False
 |.next it false=>au (s.ev it) λp=>p.qV λid off=>off=0/\match s.H[id]?with
  |some (.iter m since seen uN)=>match s.H[m]?with
   |some (.obj (.map es ck))=>(es.all (λe=>decide (e.born>=uN))=false\/es.isEmpty=true\/seen.isEmpty=true)/\
    (∀e∈es,e.born∉seen->next ((⟨s.T,s.H.set id (.iter m since (seen.push e.born) ck)⟩:AS).put o.dst (.aJ [.val (.bool true),AV.of e.key,AV.of e.val])))/\
    ((∀e∈es,e.born<since->e.born∈seen)->next (s.put o.dst (.aJ [.val (.bool false)])))
   |_=>False
  |_=>False
 |.panic x=>au (s.ev x) λa=>match a with
  |.bY t av=>bad (.bY t av) s
  |_=>False
 |.binOp op t x (.const (.slice none 0 0)) _=>(op=.eql\/op=.neq)/\au (kN P t) λ_=>au (s.ev x) λa=>au a.len λn=>∀b:Bool,(0<n->b=false)->next (s.put o.dst (.val (.bool (if op== .neq then !b else b))))
 |.call c=>match c.callee with
  |.builtin .append=>match c.args.toList,c.argTypes.toList with
   |[x,y],[t,t']=>au (j4 P t t') λ(elem,sz,_)=>au (s.ev x) λa=>au (s.ev y) λb=>a.qW (λid off n c0=>au (s.src sz b) λ(m,l')=>uQ s.H (λb H'=>next ((⟨s.T,H'⟩:AS).put o.dst b)) id off n c0 m sz elem l') λn l e=>au (s.src sz b) λ(m,l')=>l.length=n* sz/\l'.length=m* sz/\n+m<=2^30/\CC s o.dst next n m sz elem l l' e
   |_,_=>False
  |.builtin .copy=>match c.args.toList,c.argTypes.toList with
   |[x,y],[t,_]=>au (kN P t) λ(_,sz)=>au (s.ev x) λa=>au (s.ev y) λb=>match a with
    |.bB id off n _=>match s.H[id]?with
     |some (.cells l el)=>au (s.src sz b) λ(m,l')=>l'.length=m* sz/\off+min m n* sz<=l.length/\(∀a∈l',a.leaf=true)/\next ((⟨s.T,s.H.set id (.cells (iT l off (l'.take (min m n* sz))) el)⟩:AS).put o.dst (.val (.int .i64 (min m n:Nat))))
     |_=>False
    |_=>False
   |_,_=>False
  |.builtin .delete=>match c.args.toList,c.argTypes.toList with
   |[m,k],[t,_]=>au (pU P t) λ(kt,_)=>au (s.ev m) λp=>au (s.ev k) λa=>au a.raw λK=>p.tL λid=>match s.H[id]?with
    |some (.obj (.map es ck))=>bA P (Wq es.isEmpty 10000 kt K) ()/\∃fd,bA P (Xa kt K es.toList) fd/\next ((⟨s.T,s.H.set id (.obj (.map (Gy es fd) ck))⟩:AS).put o.dst (.val undef))
    |_=>False
   |_,_=>False
  |.value x=>au (s.ev x) λf=>au (fJ s c.args.toList) λaL=>CD lv P f s.H aL (λb H'=>next ((⟨s.T,H'⟩:AS).put o.dst b)) (λpv H'=>bad pv ⟨s.T,H'⟩) ⟨0⟩
  |.invoke x name=>au (s.ev x) λf=>au (fJ s c.args.toList) λaL=>P7 lv P f name s.H aL (λb H'=>next ((⟨s.T,H'⟩:AS).put o.dst b)) (λpv H'=>bad pv ⟨s.T,H'⟩) ⟨0⟩
  |_=>lZ P s o λav=>next (s.put o.dst av)
 |.load t (.global g)=>s.H[0]?=some .main/\au (DE.lookup g) λv=>Ty P t=some (1,false)/\next (s.put o.dst (.val v))
 |_=>lZ P s o λav=>next (s.put o.dst av)
def iU (all:SK):List Vp->AS->(SV)->(AV->SV)->Prop
 |[],s,next,_=>next s
 |o::rest,s,next,bad=>match o.guard with
  |none=>m8 lv P s o (λs'=>iU all rest s' next bad) bad
  |some (j,cp)=>au ((all[j]?).bind (·.dst)) λd=>au (look s.T d) λa=>a.asBool λb=>rY b cp (m8 lv P ⟨(d,.val (.bool cp))::s.T,s.H⟩ o (λs'=>iU all rest s' next bad) bad) (iU all rest ((⟨(d,.val (.bool !cp))::s.T,s.H⟩:AS).put o.dst (.val undef)) next bad) ⟨0⟩
end
section
variable {lv:Bool}{P:Tl}{r:SL}{s:AS}
def tp{c:Yv}{x y:TypeId}(h:c.argTypes.toList=[x,y]):c.argTypes=#[x,y]:=by apply Wz;simpa using h
def atI{o:Vp}{next:SV}{bad:AV->SV}{t:TypeId}{g:Nat}{v:T9}(ho:o.op=.load t (.global g))(hm:s.H[0]?=some .main)(hg:DE.lookup g=some v)(ht:Ty P t=some (1,false))(hn:next (s.put o.dst (.val v))):Step lv P r o s next bad:=by
 intro E V a N Q hc aI hd bC h1 _;obtain⟨i,d,q1,q2,q3,q4⟩:=Ty.out ht;refine⟨bC,?_⟩;have cw:a.eval (.global g)=.pointer (some ⟨g,0,none⟩):=rfl;unfold execOp;rw[ho];simp only[cw];refine aA ?_;unfold X_ Wh;refine aA (az ?_);unfold loadVar;refine wn q2 ?_;rw[q4];simp only[UH,if_false];have hI:E.I g 0=some v:=(hc.obj 0 _ hm).2 g v hg;have qk:V.get g 0=some v:=by unfold View.get;rw[<- hc.I,hI]
 exact Cl qk (.inl (hc.NQ hI).1) (cj (az (h1 E V (a.put o.dst v) (s.put o.dst (.val v)) ⟨Env.Le.refl E,ek _ _ _,put_defers _ _ _,rfl,rfl⟩ (by rw[fG];exact hc) (cu.iy aI hd (.val v)) hn)))
def m8.sound{o:Vp}{next:SV}{bad:AV->SV}(h:m8 lv P s o next bad):Step lv P r o s next bad:=by
 have quiet:(lZ P s o λav=>next (s.put o.dst av))->Step lv P r o s next bad:=λh=>by obtain⟨av,h1,h2⟩:=h.sound (lv:=lv) (r:=r);exact h1.step h2
 unfold m8 at h;split at h;rename_i t x ho;obtain⟨a,h1,h⟩:=h.out;obtain⟨l,h2,h⟩:=h.out;exact aep ho h1 h2 h;rename_i t ho;obtain⟨z,h1,h⟩:=h.out;exact aem ho h1 h;rename_i t x y ho;obtain⟨p,h1,hA⟩:=h.out;obtain⟨a,h2,hB⟩:=hA.out;obtain⟨lp,h3,hC⟩:=hB.out;obtain⟨id,off,e1,hD⟩:=Db hC;clear h hA hB hC;subst e1;split at hD;rename_i l el hk;obtain⟨q1,q2,q3,q4⟩:=hD;obtain⟨⟨n,g⟩,q5,q6⟩:=q1.out;exact aeu ho q5 h1 hk h2 h3 q6 q2 q3 q4;rename_i p l el hk;obtain⟨q0,q1,q2,q3,q4⟩:=hD;obtain⟨⟨n,g⟩,q5,q6⟩:=q1.out;exact atP ho q5 h1 hk q0 h2 h3 q6 q2 q3 q4;rename_i p l el hk;obtain⟨q1,q2,q3,q4⟩:=hD;obtain⟨⟨n,g⟩,q5,q6⟩:=q1.out;exact aev ho q5 h1 hk h2 h3 q6 q2 q3 q4;exact hD.elim;rename_i t ho;exact atJ ho h;rename_i t x y ho;obtain⟨⟨e,sz,z⟩,h1,hA⟩:=h.out;obtain⟨a,h2,hB⟩:=hA.out;obtain⟨b,h3,hC⟩:=hB.out;obtain⟨j,n,e1,hD⟩:=oZ hC;obtain⟨j',n',e2,hE⟩:=oZ hD;clear h hA hB hC hD;subst e1 e2;obtain⟨e3,h4,h5,h6⟩:=hE;subst e3;obtain⟨m,rfl⟩:∃m:Nat,n'=m:=⟨n'.toNat,by omega⟩;exact aes ho h1 h2 h3 (by omega) (by simpa using h6);rename_i t m k x ho;obtain⟨⟨kt,et⟩,h1,hA⟩:=h.out;obtain⟨p,h2,hB⟩:=hA.out;obtain⟨a,h3,hC⟩:=hB.out;obtain⟨b,h4,hD⟩:=hC.out;obtain⟨K,h5,hE⟩:=hD.out;obtain⟨X,h6,hF⟩:=hE.out;obtain⟨id,e1,hG⟩:=Gh hF;clear h hA hB hC hD hE hF;subst e1;split at hG;rename_i es ck hH;obtain⟨q1,fd,q2,q3,q4⟩:=hG;exact atK (.inl ho) h1 h2 h3 h4 h5 h6 hH q1 q2 q3 q4;exact hG.elim;rename_i t x ho;obtain⟨⟨kt,et⟩,h1,hA⟩:=h.out;obtain⟨p,h2,hB⟩:=hA.out;obtain⟨m,e1,hC⟩:=Gh hB;clear h hA hB;subst e1;split at hC;rename_i es ck hH;exact atN ho h1 h2 hH hC;exact hC.elim;rename_i it ho;obtain⟨p,h1,hA⟩:=h.out;obtain⟨id,off,e1,hB⟩:=Db hA;clear h hA;subst e1;obtain⟨e1,hC⟩:=hB;subst e1;split at hC;rename_i m since seen uN hI;split at hC;rename_i es ck hM;exact atL ho h1 hI hM hC.1 hC.2.1 hC.2.2;exact hC.elim;exact hC.elim;rename_i x ho;obtain⟨a,h1,hA⟩:=h.out;split at hA;exact atM ho h1 hA;exact hA.elim;rename_i op t x yt ho;obtain⟨aB,hA⟩:=h;obtain⟨d,h1,hB⟩:=hA.out;obtain⟨a,h2,hC⟩:=hB.out;obtain⟨n,e1,hD⟩:=hC.out;exact atO ho aB h2 e1 h1 hD;rename_i c ho;split at h;rename_i aY;split at h;rename_i x y t t' ha ht;obtain⟨⟨elem,sz,z⟩,h1,hA⟩:=h.out;obtain⟨a,h2,hB⟩:=hA.out;obtain⟨b,h3,hC⟩:=hB.out;rcases J_ hC with⟨id,off,n,c0,e1,hD⟩|⟨n,l,e,e1,hD⟩;clear h hA hB hC;subst e1;obtain⟨⟨m,l'⟩,h4,rfl,g2,g3,g4,g5,hE⟩:=hD.out;split at hE;rename_i hk;obtain⟨rfl,rfl,g6,g7⟩:=hE;exact aen ho aY (nY ha) (tp ht) h1 h2 g2 hk rfl h3 h4 g6 g3 g4 g5 g7;exact hE.elim;clear h hA hB hC;subst e1;obtain⟨⟨m,l'⟩,h4,h5,h6,h7,h8⟩:=hD.out;exact step_append ho aY (nY ha) (tp ht) h1 h2 h3 h4 h5 h6 h7 h8;exact h.elim;rename_i aY;split at h;rename_i x y t t' ha ht;obtain⟨⟨elem,sz⟩,h1,hA⟩:=h.out;obtain⟨a,h2,hB⟩:=hA.out;obtain⟨b,h3,hC⟩:=hB.out;clear h hA hB;split at hC;split at hC;rename_i hk;obtain⟨⟨m,l'⟩,h4,h5,h6,h7,h8⟩:=hC.out;exact atG ho aY (nY ha) (tp ht) h1 h2 hk h3 h4 h5 h6 h7 h8;exact hC.elim;exact hC.elim;exact h.elim;rename_i aY;split at h;rename_i m k t t' ha ht;obtain⟨⟨kt,et⟩,h1,hA⟩:=h.out;obtain⟨p,h2,hB⟩:=hA.out;obtain⟨a,h3,hC⟩:=hB.out;obtain⟨K,h4,hD⟩:=hC.out;obtain⟨id,e1,hE⟩:=Gh hD;clear h hA hB hC hD;subst e1;split at hE;rename_i es ck hH;obtain⟨q1,fd,q2,q3⟩:=hE;exact atH ho aY (nY ha) (tp ht) h1 h2 h3 h4 hH q1 q2 q3;exact hE.elim;exact h.elim;rename_i x aY;obtain⟨f,h1,hA⟩:=h.out;obtain⟨aL,h2,hB⟩:=hA.out;exact Pz ho aY h1 h2 hB;rename_i x name aY;obtain⟨f,h1,hA⟩:=h.out;obtain⟨aL,h2,hB⟩:=hA.out;exact aer ho aY h1 h2 hB;exact quiet h;rename_i t g ho;obtain⟨hm,h⟩:=h;obtain⟨v,h1,h2,h3⟩:=h.out;exact atI ho hm h1 h2 h3;exact quiet h
structure At (E:Env)(V:View)(s:AS)(a:Act)(nt:Nat):Prop where
 bx:Conc E V s.H
 tok:cu E s.T a.tmps
 size:a.tmps.size=nt
def Kept.refl(E:Env)(V:View)(a:Act):Kept E E V V a a:=⟨Env.Le.refl E,rfl,rfl,rfl,rfl⟩
def Kept.trans{E E' bZ:Env}{V V' aZ:View}{a a' cD:Act}(h:Kept E E' V V' a a')(k:Kept E' bZ V' aZ a' cD):Kept E bZ V aZ a cD:=
 ⟨h.le.trans k.le,k.size.trans h.size,k.defers.trans h.defers,k.role.trans h.role,k.deaf.trans h.deaf⟩
inductive ap where
 |normal
 |exit (id:Nat)
 |goto (l:Nat)
 |ret
 |panic (pv:AV)
def pS (E:Env):ap->Ex->Prop
 |.normal,.normal=>True
 |.exit i,.exit j=>i=j
 |.goto i,.goto j=>i=j
 |.ret,.ret=>True
 |.panic pv,.panic ch=>∃v,ch=[{v,recovered:=false}]/\ay E pv v
 |_,_=>False
abbrev SI:=ap->AS->Prop
def aW (lv:Bool)(P:Tl)(r:SL)(nt:Nat)(c:U5)(s:AS)(Φ:SI):Prop:=
 ∀(E:Env)(V:View)(a:Act)(Q:SJ),At E V s a nt->(∀ae e E' V' a' s',Kept E E' V V' a a'->At E' V' s' a' nt->pS E' ae e->Φ ae s'->Q e a' V')->WP lv P r c Q a V
def B4{nt:Nat}{all:SK}{Φ:SI}(dC:∀o∈all,∀d,o.dst=some d->d<nt)(oq:∀o∈all,r=none\/mR o.op=false):∀(n k:Nat)(s:AS),k+n=all.size->iU lv P all (all.toList.drop k) s (Φ .normal) (λpv s=>Φ (.panic pv) s)->
  ∀(E:Env)(V:View)(a:Act)(Q:SJ),At E V s a nt->(∀ae e E' V' a' s',Kept E E' V V' a a'->At E' V' s' a' nt->pS E' ae e->Φ ae s'->Q e a' V')->dq lv P r all Q (U8 k n) a V
 |0,k,s,hk,h,E,V,a,Q,ak,hQ=>by
  have:all.toList.drop k=[]:=by simp;omega
  rw[this]at h;exact hQ .normal .normal E V a s (Kept.refl E V a) ak trivial h
 |n+1,k,s,hk,h,E,V,a,Q,ak,hQ=>by
  have hlt:k<all.size:=by omega
  have hd:all.toList.drop k=all[k]::all.toList.drop (k+1):=by rw[UL (by simpa using hlt)];simp
  rw[hd]at h;have e_:all[k]∈all:=XZ hlt;have ho:all[k]?=some all[k]:=Tj hlt;simp only[WL,dq,ho];have go:∀s:AS,At E V s a nt->m8 lv P s all[k] (λs'=>iU lv P all (all.toList.drop (k+1)) s' (Φ .normal) (λpv s=>Φ (.panic pv) s)) (λpv s=>Φ (.panic pv) s)->yi lv P r all[k] a V (dq lv P r all Q (U8 (k+1) n)) Q:=λs ak h=>by refine h.sound (lv:=lv) (r:=r) E V a _ Q ak.bx ak.tok (λd e=>by rw[ak.size];exact dC _ e_ d e) (oq _ e_) (λE' V' a' s' aO bu mN hn=> ?_) (λE' V' s' pv v aO bu mN bm hb=> ?_);exact B4 dC oq n (k+1) s' (by omega) hn E' V' a' Q ⟨bu,mN,aO.size.trans ak.size⟩ (λae e bZ aZ cD dw gJ dt he hΦ=>hQ ae e bZ aZ cD dw (aO.trans gJ) dt he hΦ);exact hQ (.panic pv) (.panic _) E' V' a s' aO ⟨bu,mN,ak.size⟩ ⟨v,rfl,bm⟩ hb
  simp only[iU]at h;split at h;rename_i hg;have hw:Uo all[k] (yielded all a.tmps)=true:=(by unfold Uo;rw[hg]);rw[if_pos hw];exact .inl (go s ak h)
  ·rename_i j cp hg;obtain⟨d,gY,h⟩:=h.out;obtain⟨av,h1,h⟩:=h.out;obtain⟨b,rfl,h2,h3⟩:=Da h;have hv:=(ak.tok d _ h1).2;have hy:yielded all a.tmps j=some b:=by obtain⟨oj,kW,jC⟩:=Uj.1 gY;generalize hx:a.tmps.getD d undef=x at hv;cases hv;have mJ:d<a.tmps.size:=(ak.tok d _ h1).1;rw[Th,Tj mJ]at hx;simp only[T_]at hx;simp[yielded,kW,jC,Tj mJ,hx]
   have sW:∀b',b=b'->At E V ⟨(d,.val (.bool b'))::s.T,s.H⟩ a nt:=λb' de=>by subst de;refine⟨ak.bx,λt x e=> ?_,ak.size⟩;simp only[look]at e;split at e;rename_i e';subst e';cases e;exact ak.tok d _ h1;exact ak.tok t x e
   by_cases hb:b=cp;have hw:Uo all[k] (yielded all a.tmps)=true:=(by unfold Uo;rw[hg];simp[hy,hb]);rw[if_pos hw];exact .inl (go _ (sW cp hb) (h2 hb))
   ·have hw:¬Uo all[k] (yielded all a.tmps)=true:=(by unfold Uo;rw[hg];simp[hy,hb]);rw[if_neg hw];have de:b= !cp:=(by cases b<;>cases cp<;>simp_all);have w7:=h3 de;have ak:=sW _ de;exact B4 dC oq n (k+1) ((⟨(d,.val (.bool !cp))::s.T,s.H⟩:AS).put all[k].dst (.val undef)) (by omega) w7 E V (a.put all[k].dst undef) Q
     ⟨by rw[fG];exact ak.bx,ak.tok.iy (λd e=>by rw[ak.size];exact dC _ e_ d e) (.val undef),by rw[ek];exact ak.size⟩
     (λae e bZ aZ cD dw gJ dt he hΦ=>hQ ae e bZ aZ cD dw ⟨gJ.le,gJ.size.trans (ek _ _ _),gJ.defers.trans (put_defers _ _ _),gJ.role,gJ.deaf⟩ dt he hΦ)
def ki (nt:Nat)(ops:SK):Bool:=ops.all λo=>(o.dst.all (·<nt))&& !mR o.op
def ki.out{nt:Nat}{ops:SK}(hd:ki nt ops=true){o:Vp}(ho:o∈ops):(∀d,o.dst=some d->d<nt)/\mR o.op=false:=by have:=(VG.1 hd) o ho;simp only[Ui,UV]at this;exact⟨λd e=>by have h1:=this.1;rw[e]at h1;simpa using h1,this.2⟩
def QL{nt id:Nat}{ops:SK}{Φ:SI}(hd:ki nt ops=true)(h:iU lv P ops ops.toList s (Φ .normal) (λpv s=>Φ (.panic pv) s)):aW lv P r nt (.region id ops false) s Φ:=by intro E V a Q ak hQ;refine wp_region ?_;rw[Wj];exact B4 (Φ:=Φ) (λo ho d e=>(ki.out hd ho).1 d e) (λo ho=> .inr (ki.out hd ho).2) ops.size 0 s (by omega) (by simpa using h) E V a Q ak hQ
def QO{nt:Nat}{Φ:SI}(h:Φ .normal s):aW lv P r nt .skip s Φ:=λE V a _ ak hQ=>wp_skip (hQ .normal _ E V a s (Kept.refl E V a) ak trivial h)
def QH{nt l:Nat}{Φ:SI}(h:Φ .normal s):aW lv P r nt (.label l) s Φ:=λE V a _ ak hQ=>wp_label (hQ .normal _ E V a s (Kept.refl E V a) ak trivial h)
def QE{nt id:Nat}{Φ:SI}(h:Φ (.exit id) s):aW lv P r nt (.exit id) s Φ:=λE V a _ ak hQ=>wp_exit (hQ (.exit id) _ E V a s (Kept.refl E V a) ak rfl h)
def QM{nt:Nat}{Φ:SI}(h:Φ .ret s):aW lv P r nt .ret s Φ:=λE V a _ ak hQ=>wp_ret (hQ .ret _ E V a s (Kept.refl E V a) ak trivial h)
def ap.then (next:SV)(Φ:SI):ap->AS->Prop
 |.normal,s=>next s
 |e,s=>Φ e s
def pS.mono{E E':Env}(h:E.Le E'){ae:ap}{e:Ex}(k:pS E ae e):pS E' ae e:=by cases ae<;>cases e<;>first|exact k|(obtain⟨v,h1,h2⟩:=k;exact⟨v,h1,h2.mono h⟩)
def ii{nt:Nat}{x y:U5}{Φ:SI}(h:aW lv P r nt x s (ap.then (λs'=>aW lv P r nt y s' Φ) Φ)):aW lv P r nt (.seq x y) s Φ:=by
 intro E V a Q ak hQ;refine wp_seq (h E V a _ ak λae e E' V' a' s' hk aX he hΦ=> ?_);cases ae<;>cases e<;>first
  |exact he.elim
  |exact hΦ E' V' a' Q aX λae e bZ aZ cD dw aO dt kE uy=>hQ ae e bZ aZ cD dw (hk.trans aO) dt kE uy
  |exact hQ _ _ E' V' a' s' hk aX he hΦ
def ahb{nt:Nat}{c:Up}{x y:U5}{b:Bool}{Φ:SI}(hc:s.ev c=some (.val (.bool b)))(h1:b=true->aW lv P r nt x s Φ)(h2:b=false->aW lv P r nt y s Φ):aW lv P r nt (.cond c x y) s Φ:=by
 intro E V a Q ak hQ;have hv:=ay.ev ak.tok hc;generalize hx:a.eval c=v at hv;cases hv;refine wp_cond hx ?_;cases b with
 |true=>exact h1 rfl E V a Q ak hQ
 |false=>exact h2 rfl E V a Q ak hQ
def ap.inBlock (id:Nat)(Φ:SI):ap->AS->Prop
 |.exit pD,s=>if pD=id then Φ .normal s else Φ (.exit pD) s
 |e,s=>Φ e s
def QC{nt id:Nat}{c:U5}{Φ:SI}(h:aW lv P r nt c s (ap.inBlock id Φ)):aW lv P r nt (.block id c) s Φ:=by
 intro E V a Q ak hQ;refine wp_block (h E V a _ ak λae e E' V' a' s' hk aX he hΦ=> ?_);cases ae<;>cases e<;>first
  |exact he.elim
  |(rename_i i j
    have e:i=j:=he;subst e;by_cases b_:i=id;simp only[Ex.inBlock,b_,if_true];simp only[ap.inBlock,b_,if_true]at hΦ;exact hQ .normal _ E' V' a' s' hk aX trivial hΦ
    ·simp only[Ex.inBlock,b_,if_false];simp only[ap.inBlock,b_,if_false]at hΦ;exact hQ (.exit i) _ E' V' a' s' hk aX rfl hΦ)
  |exact hQ _ _ E' V' a' s' hk aX he hΦ
def aW.mono{nt:Nat}{c:U5}{Φ Φ':SI}(h:aW lv P r nt c s Φ)(hm:∀e s,Φ e s->Φ' e s):aW lv P r nt c s Φ':=λE V a Q ak hQ=>h E V a Q ak λae e E' V' a' s' hk aX he hΦ=>hQ ae e E' V' a' s' hk aX he (hm _ _ hΦ)
def Wk (b a:AV):Prop:=∀E v,ay E b v->ay E a v
def Wk.refl(a:AV):Wk a a:=λ_ _ h=>h
def dQ(n:Nat)(l:SC)(e:End):Wk (.sl n l e) (.sl n l .shut):=λ_ _ h=>by
 cases h with
 |sl b o cap f hc he h1 h2=>exact .sl b o cap f hc trivial h1 h2
 |nil he=>exact .nil trivial
structure AS.Sub (s s':AS):Prop where
 tok:∀t a,look s'.T t=some a->∃b,look s.T t=some b/\Wk b a
 H:s.H=s'.H
def At.sub{E:Env}{V:View}{s s':AS}{a:Act}{nt:Nat}(h:At E V s a nt)(hl:s.Sub s'):At E V s' a nt:=
 ⟨by rw[<- hl.H];exact h.bx,λt x e=>by obtain⟨b,h1,h2⟩:=hl.tok t x e;exact⟨(h.tok t b h1).1,h2 _ _ (h.tok t b h1).2⟩,h.size⟩
def nk{lv:Bool}{P:Tl}{r:SL}{nt:Nat}{c:U5}{s s':AS}{Φ:SI}(hl:s.Sub s')(h:aW lv P r nt c s' Φ):aW lv P r nt c s Φ:=λE V a Q ak hQ=>h E V a Q (ak.sub hl) hQ
inductive Lt (n:Nat):AV->Prop
 |val (x:T9):Lt n (.val x)
 |agg {l:List AV} (h:∀a∈l,Lt n a):Lt n (.agg l)
 |aJ {l:List AV} (h:∀a∈l,Lt n a):Lt n (.aJ l)
 |sl {m:Nat} {l:List AV} {e:End} (he:∀k,e=.opn k->k<n) (h:∀a∈l,Lt n a):Lt n (.sl m l e)
 |bB {id off m cap:Nat} (h:id<n):Lt n (.bB id off m cap)
 |rp {l:List AV} (h:∀a∈l,Lt n a):Lt n (.rp l)
 |op {id off:Nat} (h:id<n):Lt n (.op id off)
 |fn {f:Fn} {first c9:List AV} (h1:∀a∈first,Lt n a) (h2:∀a∈c9,Lt n a):Lt n (.fn f first c9)
 |bY {t:TypeId} {x:AV} (h:Lt n x):Lt n (.bY t x)
 |mp {id:Nat} (h:id<n):Lt n (.mp id)
def qF{l:SC}{a:AV}(h:a∈l):∃i:Nat,l[i]?=some a:=VQ.1 h
def ay.lt{E:Env}{a:AV}{v:T9}(d:ay E a v):Lt E.n a:=by
 induction d with
 |val x=>exact .val x
 |agg hs _ ih=>exact .agg λa h=>(qF h).elim λi hi=>ih i a hi
 |aJ hs _ ih=>exact .aJ λa h=>(qF h).elim λi hi=>ih i a hi
 |sl b o cap f hc he h1 _ ih=>exact .sl (λk e=>by subst e;exact he.1) λa h=>(qF h).elim λi hi=>ih i a hi
 |nil he=>exact .sl (λk e=>by subst e;exact he.1) (by simp)
 |bB hi _=>exact .bB hi
 |rp b o f h1 _ ih=>exact .rp λa h=>(qF h).elim λi hi=>ih i a hi
 |op hi=>exact .op hi
 |fn da eJ _ _ nI lQ=>exact .fn (λa h=>(qF h).elim λi hi=>nI i a hi) (λa h=>(qF h).elim λi hi=>lQ i a hi)
 |bY _ ih=>exact .bY ih
 |mp hi=>exact .mp hi
def Lt.mono{n m:Nat}(h:n<=m){a:AV}(d:Lt n a):Lt m a:=by
 induction d with
 |val x=>exact .val x
 |agg _ ih=>exact .agg ih
 |aJ _ ih=>exact .aJ ih
 |sl he _ ih=>exact .sl (λk e=>Ug (he k e) h) ih
 |bB hi=>exact .bB (Ug hi h)
 |rp _ ih=>exact .rp ih
 |op hi=>exact .op (Ug hi h)
 |fn _ _ nI lQ=>exact .fn nI lQ
 |bY _ ih=>exact .bY ih
 |mp hi=>exact .mp (Ug hi h)
def qP.trim{E:Env}{e:End}{a:TA}{m cap n:Nat}(h:qP E e a m cap)(hk:∀k,e=.opn k->k<n):qP {E with n:=n} e a m cap:=by
 cases e with
 |exact=>exact h
 |shut=>trivial
 |opn k=>exact⟨hk k rfl,h.2⟩
def get_mem{l:SC}{i:Nat}{a:AV}(h:l[i]?=some a):a∈l:=VQ.2 ⟨i,h⟩
def ay.trim{E:Env}{a:AV}{v:T9}(d:ay E a v){n:Nat}(h:Lt n a):ay {E with n:=n} a v:=by
 induction d with
 |val x=>exact .val x
 |agg hs _ ih=>cases h with|agg h=>exact .agg hs λi a e=>ih i a e (h a (get_mem e))
 |aJ hs _ ih=>cases h with|aJ h=>exact .aJ hs λi a e=>ih i a e (h a (get_mem e))
 |sl b o cap f hc he h1 _ ih=>cases h with|sl hk h=>exact .sl b o cap f hc (he.trim hk) h1 λi a e=>ih i a e (h a (get_mem e))
 |nil he=>cases h with|sl hk h=>exact .nil (he.trim hk)
 |bB hi dT=>cases h with|bB h=>exact .bB (E:={E with n:=n}) h dT
 |rp b o f h1 _ ih=>cases h with|rp h=>exact .rp b o f h1 λi a e=>ih i a e (h a (get_mem e))
 |op hi=>cases h with|op h=>exact .op (E:={E with n:=n}) h
 |fn da eJ _ _ nI lQ=>cases h with|fn h1 h2=>exact .fn da eJ (λi a e=>nI i a e (h1 a (get_mem e))) λi a e=>lQ i a e (h2 a (get_mem e))
 |bY _ ih=>cases h with|bY h=>exact .bY (ih h)
 |mp hi=>cases h with|mp h=>exact .mp (E:={E with n:=n}) h
def fw (n:Nat):aa->Prop
 |.cells l _|.part _ l _|.own _ l _=>∀a∈l,Lt n a
 |.iter m _ _ _=>m<n
 |.loop _ _ _ _ T _ _ _ _ df=>(∀t a,look T t=some a->Lt n a)/\df<n
 |_=>True
def fw.mono{n m:Nat}(h:n<=m){x:aa}(k:fw n x):fw m x:=by
 cases x with
 |cells l el=>exactλa ha=>(k a ha).mono h
 |part p l el=>exactλa ha=>(k a ha).mono h
 |own p l el=>exactλa ha=>(k a ha).mono h
 |iter=>exact Ug k h
 |loop=>exact⟨λt a e=>(k.1 t a e).mono h,Ug k.2 h⟩
 |_=>trivial
def gG.olt{E:Env}{V:View}{k:Nat}{x:aa}(h:gG E V k x):fw E.n x:=by
 cases x with
 |cells l el=>obtain⟨⟨cs,_,h2⟩,_⟩:=h;exactλa ha=>(qF ha).elim λi hi=>(h2.2 i a hi).lt
 |part p l el=>obtain⟨⟨cs,_,h2,_⟩,_⟩:=h;exactλa ha=>(qF ha).elim λi hi=>(h2.2 i a hi).lt
 |own p l el=>obtain⟨⟨cs,_,h2,_⟩,_⟩:=h;exactλa ha=>(qF ha).elim λi hi=>(h2.2 i a hi).lt
 |iter m a b c=>exact h.1
 |loop=>obtain⟨⟨tmps,_,_,h2⟩,h3,_⟩:=h;exact⟨λt a e=>(h2 t a e).2.lt,h3⟩
 |_=>trivial
def gG.trim{E:Env}{V:View}{k n:Nat}{x:aa}(h:gG E V k x)(hl:fw n x):gG {E with n:=n} V k x:=by
 cases x with
 |cells l el=>obtain⟨⟨cs,h1,h2⟩,h3⟩:=h;exact⟨⟨cs,h1,h2.1,λi a e=>(h2.2 i a e).trim (hl a (get_mem e))⟩,h3⟩
 |part p l el=>obtain⟨⟨cs,h1,h2,h4⟩,h3⟩:=h;exact⟨⟨cs,h1,⟨h2.1,λi a e=>(h2.2 i a e).trim (hl a (get_mem e))⟩,h4⟩,h3⟩
 |own p l el=>obtain⟨⟨cs,h1,h2,h4⟩,h3⟩:=h;exact⟨⟨cs,h1,⟨h2.1,λi a e=>(h2.2 i a e).trim (hl a (get_mem e))⟩,h4⟩,h3⟩
 |iter m a b c=>exact⟨hl,h.2⟩
 |tail m sz el=>exact h
 |obj x=>exact h
 |loop=>obtain⟨⟨tmps,h1,h2,h3⟩,h4,h5⟩:=h;exact⟨⟨tmps,h1,h2,λt a e=>⟨(h3 t a e).1,(h3 t a e).2.trim (hl.1 t a e)⟩⟩,hl.2,h5⟩
 |gone=>trivial
 |main=>exact h
def bJ (H:SA):Prop:=∀x∈H,fw H.length x
def Conc.an{E:Env}{V:View}{H:SA}(h:Conc E V H):bJ H:=λx hx=>by obtain⟨i,hi⟩:=VQ.1 hx;rw[<- h.n];exact(h.obj i x hi).olt
def Gr(E:Env)(n k:Nat)(x:aa):bP {E with n:=n} k x=bP E k x:=by cases x<;>rfl
def Conc.trim{E:Env}{V:View}{H G:SA}(h:Conc E V (H++G))(hl:bJ H):Conc {E with n:=H.length} V H:=by
 have hg:∀(k:Nat) x,H[k]?=some x->(H++G)[k]?=some x:=λk x e=>by rw[T6 (Tn.1 e).1];exact e
 refine⟨h.I,rfl,λk x e=>(h.obj k x (hg k x e)).trim (hl x (Un e)),λi j x y b h1 h2 h3 h4=> ?_,λg iO=> ?_,λg iO=> ?_,h.top,λb y iO=> ?_⟩;rw[Gr]at h3 h4;exact h.inj i j x y b (hg i x h1) (hg j y h2) h3 h4;obtain⟨q0,q1,q2⟩:=h.group g iO;exact⟨q0,q1,λk x e=>by rw[Gr];exact q2 k x (hg k x e)⟩;obtain⟨q0,q1,q2⟩:=h.chan g iO;exact⟨q0,q1,λk x e=>by rw[Gr];exact q2 k x (hg k x e)⟩;obtain⟨q0,q1,q2⟩:=h.fr b y iO;exact⟨q0,q1,λk x e=>by rw[Gr];exact q2 k x (hg k x e)⟩
structure AS.JM (s s':AS):Prop where
 tok:∀t a,look s'.T t=some a->∃b,look s.T t=some b/\Wk b a/\Lt s'.H.length a
 H:∃G,s.H=s'.H++G
 ok:bJ s'.H
def FH{E:Env}{n m:Nat}(h1:m<=n)(h2:n<=E.n){E0:Env}(h:E0.Le E)(h0:E0.n=m):E0.Le {E with n:=n}:=⟨h.I,by show E0.n<=n;omega,h.blk,h.gn,h.room,h.fr,h.main⟩
def At.cut{E:Env}{V:View}{s s':AS}{a:Act}{nt:Nat}(h:At E V s a nt)(hl:s.JM s'):At {E with n:=s'.H.length} V s' a nt:=by obtain⟨G,hG⟩:=hl.H;have hc:=h.bx;rw[hG]at hc;refine⟨hc.trim hl.ok,λt x e=> ?_,h.size⟩;obtain⟨b,h1,h2,h3⟩:=hl.tok t x e;exact⟨(h.tok t b h1).1,(h2 _ _ (h.tok t b h1).2).trim h3⟩
def QI{nt:Nat}{α:Type}{lt:α->α->Prop}(wf:WellFounded lt){c:U5}{Φ:SI}(inv:α->AS)(ok:α->Prop)(m:α)(h0:s.Sub (inv m))(hm:ok m)(hn:∀m,ok m->s.H.length<=(inv m).H.length)
  (h:∀m,ok m->aW lv P r nt c (inv m) (ap.then (λs'=>∃m',lt m' m/\ok m'/\(s'.Sub (inv m')\/s'.JM (inv m'))) Φ)):aW lv P r nt (.loop c) s Φ:=by
 intro E V a Q ak hQ;refine PU wf (I:=λm a' V'=>ok m/\∃E',Kept E E' V V' a a'/\At E' V' (inv m) a' nt) m ⟨hm,E,Kept.refl E V a,ak.sub h0⟩ λm a' V' hI=> ?_;obtain⟨an,E',hk,aX⟩:=hI;refine h m an E' V' a' _ aX λae e bZ aZ cD dw aO dt he hΦ=> ?_;cases ae<;>cases e<;>first
  |exact he.elim
  |(obtain⟨m',h1,h2,h3⟩:=hΦ
    rcases h3 with h3|h3;exact⟨m',h1,h2,bZ,hk.trans aO,dt.sub h3⟩
    ·refine⟨m',h1,h2,_,?_,dt.cut h3⟩;have cO:=hk.trans aO;obtain⟨G,hG⟩:=h3.H;exact⟨FH (hn m' h2) (by rw[dt.bx.n,hG];simp) cO.le ak.bx.n,cO.size,cO.defers,cO.role,cO.deaf⟩)
  |exact hQ _ _ bZ aZ cD dw (hk.trans aO) dt he hΦ
def ahl{nt:Nat}{c:U5}{Φ:SI}(inv:Nat->Nat->SV)
  (start:∃n:Nat,aW lv P r nt c s (λe s'=>match e with
   |.goto l=>∃rest,findLabel c l=some rest/\∃m,m<n/\inv l m s'
   |e=>Φ e s'))
  (back:∀l rest m s',findLabel c l=some rest->inv l m s'->aW lv P r nt rest s' (λe dw=>match e with
   |.goto l'=>∃zZ,findLabel c l'=some zZ/\∃m',m'<m/\inv l' m' dw
   |e=>Φ e dw)):aW lv P r nt (.scope c) s Φ:=by
 intro E V a Q ak hQ;refine afh (λl m a' V'=>∃E' s',Kept E E' V V' a a'/\At E' V' s' a' nt/\inv l m s') ?_ ?_
 ·obtain⟨n,hn⟩:=start;refine⟨n,hn E V a _ ak λae e E' V' a' s' hk aX he hΦ=> ?_⟩;cases ae<;>cases e<;>first
   |exact he.elim
   |(have e:_=_:=he
     subst e;obtain⟨rest,h1,m,h2,h3⟩:=hΦ;exact⟨rest,h1,m,h2,E',s',hk,aX,h3⟩)
   |exact hQ _ _ E' V' a' s' hk aX he hΦ
 ·intro l rest m a' V' hf ⟨E',s',hk,aX,hi⟩;refine back l rest m s' hf hi E' V' a' _ aX λae e bZ aZ cD dw aO dt he hΦ=> ?_;cases ae<;>cases e<;>first
   |exact he.elim
   |(have e:_=_:=he
     subst e;obtain⟨zZ,h1,m',h2,h3⟩:=hΦ;exact⟨zZ,h1,m',h2,bZ,dw,hk.trans aO,dt,h3⟩)
   |exact hQ _ _ bZ aZ cD dw (hk.trans aO) dt he hΦ
end
def ba:Nat->SC->List (Nat×AV)
 |_,[]=>[]
 |i,a::l=>(i,a)::ba (i+1) l
def Oj:∀(l:SC)(i t:Nat)(a:AV),look (ba i l) t=some a->i<=t/\l[t-i]?=some a
 |[],_,_,_,h=>by cases h
 |b::l,i,t,a,h=>by simp only[ba,look]at h;split at h;rename_i e;subst e;cases h;exact⟨Tv _,by simp⟩;obtain⟨h1,h2⟩:=Oj l (i+1) t a h;refine⟨by omega,?_⟩;have:t-i=(t-(i+1))+1:=(by omega);rw[this,VL];exact h2
def wl (P:Tl)(s:AS):af_->Option AV
 |.tmp t=>look s.T t
 |.cell a t=>(look s.T a).bind λp=>(s.at p).bind λl=>(Ty P t).bind λx=>if x.2 then(if x.1<=l.length then some (.agg (l.take x.1))else none)else l[0]?
def iF (P:Tl)(s:AS):List af_->Option (SC)
 |[]=>some []
 |x::l=>match wl P s x,iF P s l with
  |some a,some aL=>some (a::aL)
  |_,_=>none
def jr:SC->AV
 |[a]=>a
 |l=> .aJ l
def ar8{P:Tl}{E:Env}{V:View}{s:AS}{a:Act}{nt:Nat}(ak:At E V s a nt){x:af_}{av:AV}(h:wl P s x=some av):
  ∃v,ay E av v/\∀{K:SQ}{Kp:SQ},K v V->aT P V (match x with|.tmp t=>pure (a.tmps.getD t undef)|.cell b t=>do loadVar t (<- asAddr (a.tmps.getD b undef))) K Kp:=by
 cases x with
 |tmp t=>exact⟨_,(ak.tok t av h).2,λhK=>az hK⟩
 |cell b t=>
  unfold wl at h;obtain⟨p,h1,h⟩:=Uj.1 h;obtain⟨l,h2,h⟩:=Uj.1 h;obtain⟨⟨n,g⟩,h3,h⟩:=Uj.1 h;obtain⟨i,d,t1,t2,rfl,t4⟩:=Ty.out h3;obtain⟨bb,off,f,hv,hg,iO,hd⟩:=ak.bx.at (ak.tok b p h1).2 h2;dsimp only;rw[hv];cases g with
  |true=>simp only[if_true]at h;split at h;rename_i hlen;cases h;refine⟨_,Gz hlen hd,λhK=> ?_⟩;refine aA ?_;unfold asAddr;refine az ?_;unfold loadVar;refine wn t2 ?_;rw[t4];simp only[if_true];refine jM t1 ?_;exact aA (z9 (f:=f) (λh=>iO (by omega)) (λj hj=>hg j (by omega)) (az hK));cases h
  |false=>simp only[UH,if_false]at h;have hlen:0<l.length:=(Tn.1 h).1;have jE:=hg 0 hlen;rw[Vr]at jE;refine⟨_,hd 0 av h,λhK=> ?_⟩;refine aA ?_;unfold asAddr;refine az ?_;unfold loadVar;refine wn t2 ?_;rw[t4];simp only[UH,if_false];exact Cl jE (.inl (iO hlen)) (cj hK)
abbrev SW:=List af_
def I3{P:Tl}{E:Env}{V:View}{s:AS}{a:Act}{nt:Nat}(ak:At E V s a nt):∀(rs:SW)(l:SC),iF P s rs=some l->∃vs:S6,vs.length=l.length/\(∀(i:Nat) x,l[i]?=some x->ay E x (vs.getD i undef))/\
  ∀{K:List T9->View->Prop}{Kp:SQ},K vs V->aT P V (rs.mapM λx=>(match x with|.tmp t=>pure (a.tmps.getD t undef)|.cell b t=>do loadVar t (<- asAddr (a.tmps.getD b undef)):Sem T9)) K Kp
 |[],l,h=>by cases h;refine⟨[],rfl,by simp,λhK=> ?_⟩;rw[VB];exact az hK
 |x::rs,l,h=>by
  simp only[iF]at h;split at h
  ·rename_i av j9 h1 h2;cases h;obtain⟨v,hv,hs⟩:=ar8 ak h1;obtain⟨vs,hl,mm,zq⟩:=I3 ak rs j9 h2;refine⟨v::vs,by simp[hl],λi x hx=> ?_,λhK=> ?_⟩
   ·cases i with
    |zero=>cases hx;simpa using hv
    |succ i=>simpa using mm i x (by simpa using hx)
   ·rw[U6];exact aA (hs (aA (zq (az hK))))
  ·cases h
attribute [seval] Int.natCast_pow Int.natCast_mul Int.natCast_shiftLeft Int.natCast_emod Int.ofNat_sub Int.natCast_shiftRight Int.natCast_add_one Int.natCast_add Int.cast_id Int.natCast_sub Int.natCast_ediv Int.natCast_succ
def cz (n0:Nat)(H:SA)(a:AV)(k:SF):Prop:=
 ∃b,Wk a b/\(k b H\/∃H' G,H=H'++G/\n0<=H'.length/\bJ H'/\Lt H'.length b/\k b H')
def rX (P:Tl)(rs:SW)(n0:Nat)(k kp:SF):ap->AS->Prop
 |.normal,s|.ret,s=>au (iF P s rs) λl=>cz n0 s.H (jr l) k
 |.panic pv,s=>cz n0 s.H pv kp
 |_,_=>False
def b8{n0:Nat}{H:SA}{a:AV}{k:SF}(h:k a H):cz n0 H a k:=⟨a,Wk.refl a,.inl h⟩
def jy{H H' G:SA}{a b:AV}{k:SF}{n0:Nat}(hw:Wk a b)(hH:H=H'++G)(hn:n0<=H'.length)(an:bJ H')(hl:Lt H'.length b)(h:k b H'):cz n0 H a k:=⟨b,hw,.inr ⟨H',G,hH,hn,an,hl,h⟩⟩
def yD{n0:Nat}{E0 E:Env}{V':View}{H:SA}{a:AV}{v:T9}{k:SF}(h:cz n0 H a k)(hc:Conc E V' H)(hd:ay E a v)(hle:E0.Le E)(hn:E0.n=n0):∃b E' H',E0.Le E'/\ay E' b v/\Conc E' V' H'/\k b H':=by obtain⟨b,hw,h|⟨H',G,rfl,h1,h2,h3,h4⟩⟩:=h;exact⟨b,E,H,hle,hw _ _ hd,hc,h⟩;refine⟨b,{E with n:=H'.length},H',FH h1 (by rw[hc.n];simp) hle hn,(hw _ _ hd).trim h3,hc.trim h2,h4⟩
def ak9{lv:Bool}{P:Tl}{f:UR}{fn:aw5}{c:U5}{rs:SW}{nt:Nat}{H:SA}{args:SC}{k kp:SF}(hf:P.funcs[f]?=some fn)(hb:fn.body=some c)(hr:fn.results=rs.toArray)(hn:fn.ntmps=nt)(cU:args.length<=nt)
  (h:bJ H->(∀a∈args,Lt H.length a)->aW lv P none nt c ⟨ba 0 args,H⟩ (rX P rs H.length k kp)):aS lv P f H args k kp:=by
 intro E V vs hc hd;have a_:(vs++US (fn.ntmps-vs.size) undef).size=nt:=by simp[hd.1];omega
 have hlt:∀a∈args,Lt H.length a:=λa ha=>by obtain⟨i,hi⟩:=qF ha;rw[<- hc.n];exact(hd.2 i a hi).lt
 refine Q2 (by simp) hf hb (h hc.an hlt E V _ _ ⟨hc,λq a e=> ?_,a_⟩ λae e E' V' a' s' hk ak he hΦ=> ?_)
 ·obtain⟨_,e⟩:=Oj args 0 q a e;simp only[aw']at e;have hq:q<args.length:=(Tn.1 e).1;have uq:q<vs.size:=by rw[hd.1];exact hq
  refine⟨by rw[a_];omega,?_⟩;have:=hd.2 q a e;rw[Th,XJ uq];rwa[Th]at this
 ·have fin:(au (iF P s' rs) λl=>cz H.length s'.H (jr l) k)->a'.defers=[]/\∃v,aT P V' (results fn a'.tmps) (λx aZ=>x=v/\aZ=V') (λ_ _=>False)/\gR E V k kp (.ret v) V':=by
   intro hΦ;obtain⟨l,h1,h2⟩:=hΦ.out;have fu:∃v,ay E' (jr l) v/\aT P V' (results fn a'.tmps) (λx aZ=>x=v/\aZ=V') (λ_ _=>False):=by
    obtain⟨vs,hl,mm,zk⟩:=I3 ak rs l h1;refine⟨if h:vs.length=1 then vs[0]else .tuple vs.toArray,?_,?_⟩
    ·match l,vs,hl,mm with
     |[x],[v],_,mm=>exact mm 0 x rfl
     |[],[],_,mm=>exact .aJ rfl (by simp)
     |x::y::l,v::w::vs,hl,mm=>exact .aJ (by simpa using hl) (λi z hz=>by simpa[Th,Tf]using mm i z hz)
    ·unfold results;rw[hr,Zc];refine aA ?_;refine aA (zk ?_);refine az (az ⟨?_,rfl⟩);simp
   obtain⟨v,bm,rH⟩:=fu;obtain⟨b,bZ,H',q1,q2,q3,q4⟩:=yD h2 ak.bx bm hk.le hc.n;exact⟨hk.defers,v,rH,b,bZ,H',q1,hk.role,hk.deaf,q2,q3,q4⟩
  cases ae<;>cases e<;>first
   |exact he.elim
   |exact fin hΦ
   |(obtain⟨v,rfl,bm⟩:=he
     obtain⟨b,bZ,H',q1,q2,q3,q4⟩:=yD hΦ ak.bx bm hk.le hc.n;exact⟨hk.defers,b,v,bZ,H',rfl,q1,hk.role,hk.deaf,q2,q3,q4⟩)
   |exact hΦ.elim
def apk(k:Nat)(a:AV)(l:SH):look ((k,a)::l) k=some a:=by simp[look]
def apl(k t:Nat)(a:AV)(l:SH)(h:(k==t)=false):look ((k,a)::l) t=look l t:=by
 have:¬k=t:=by simpa using h
 simp[look,this]
def xN{α:Type}(a:α)(k:α->Prop):au (some a) k=k a:=by rw[au]
def agU(b:Bool)(k:Bool->Prop):AV.asBool (.val (.bool b)) k=k b:=by rw[AV.asBool]
def agW(j:UZ)(n:Int)(k:UZ->Int->Prop):AV.asInt (.val (.int j n)) k=k j n:=by rw[AV.asInt]
def ag4(l:SC)(k:SC->Prop):AV.yr (.aJ l) k=k l:=by rw[AV.yr]
def agS(l:SC)(k:SC->Prop):AV.asAgg (.agg l) k=k l:=by rw[AV.asAgg]
def agY(i j:Nat)(k:Nat->S7):AV.qV (.op i j) k=k i j:=by rw[AV.qV]
def agX(i:Nat)(k:S7):AV.tL (.mp i) k=k i:=by rw[AV.tL]
def ag1(n:Nat)(l:SC)(e:End)(k:TG):AV.wO (.sl n l e) k=k n l e:=by rw[AV.wO]
def af7(P:Tl)(xt:TypeId)(j:UZ)(m n:Int)(k:SP):dx P .add xt (.val (.int j m)) (.val (.int j n)) k=k (.val (.int j (j.wrap (m+n)))):=by simp[dx,nJ,mD,au]
def agm(P:Tl)(xt:TypeId)(j:UZ)(m n:Int)(k:SP):dx P .sub xt (.val (.int j m)) (.val (.int j n)) k=k (.val (.int j (j.wrap (m-n)))):=by simp[dx,nJ,mD,au]
def agh(P:Tl)(xt:TypeId)(j:UZ)(m n:Int)(k:SP):dx P .mul xt (.val (.int j m)) (.val (.int j n)) k=k (.val (.int j (j.wrap (m* n)))):=by simp[dx,nJ,mD,au]
def af9(P:Tl)(xt:TypeId)(j:UZ)(m n:Int)(k:SP):dx P .eql xt (.val (.int j m)) (.val (.int j n)) k=k (.val (.bool (m==n))):=by simp[dx,nJ,mD,au]
def Qi(P:Tl)(xt:TypeId)(j:UZ)(m n:Int)(k:SP):dx P .neq xt (.val (.int j m)) (.val (.int j n)) k=k (.val (.bool (m !=n))):=by simp[dx,nJ,mD,au]
def agf(P:Tl)(xt:TypeId)(j:UZ)(m n:Int)(k:SP):dx P .lss xt (.val (.int j m)) (.val (.int j n)) k=k (.val (.bool (decide (m<n)))):=by simp[dx,nJ,mD,au]
def age(P:Tl)(xt:TypeId)(j:UZ)(m n:Int)(k:SP):dx P .leq xt (.val (.int j m)) (.val (.int j n)) k=k (.val (.bool (decide (m<=n)))):=by simp[dx,nJ,mD,au]
def agb(P:Tl)(xt:TypeId)(j:UZ)(m n:Int)(k:SP):dx P .gtr xt (.val (.int j m)) (.val (.int j n)) k=k (.val (.bool (decide (m>n)))):=by simp[dx,nJ,mD,au]
def aga(P:Tl)(xt:TypeId)(j:UZ)(m n:Int)(k:SP):dx P .geq xt (.val (.int j m)) (.val (.int j n)) k=k (.val (.bool (decide (m>=n)))):=by simp[dx,nJ,mD,au]
def af8(P:Tl)(xt:TypeId)(j:UZ)(m n:Int)(k:SP):dx P .and xt (.val (.int j m)) (.val (.int j n)) k=k (.val (.int j (j.wrap (Va j.bits m&&&Va j.bits n).toNat))):=by simp[dx,nJ,mD,au]
def C4(P:Tl)(xt:TypeId)(j:UZ)(m n:Int)(k:SP):dx P .or xt (.val (.int j m)) (.val (.int j n)) k=k (.val (.int j (j.wrap (Va j.bits m|||Va j.bits n).toNat))):=by simp[dx,nJ,mD,au]
def C6(P:Tl)(xt:TypeId)(j:UZ)(m n:Int)(k:SP):dx P .xor xt (.val (.int j m)) (.val (.int j n)) k=k (.val (.int j (j.wrap (Va j.bits m^^^Va j.bits n).toNat))):=by simp[dx,nJ,mD,au]
def agj(P:Tl)(xt:TypeId)(j:UZ)(m n:Int)(k:SP):dx P .rem xt (.val (.int j m)) (.val (.int j n)) k=au (if n=0 then none else some (.int j (m.tmod n))) λv=>k (.val v):=by simp[dx,nJ,mD]
def agl(P:Tl)(xt:TypeId)(j j':UZ)(m n:Int)(k:SP):dx P .shl xt (.val (.int j m)) (.val (.int j' n)) k=au (if n<0 then none else some (.int j (j.wrap (m* 2^(min n.toNat j.bits))))) λv=>k (.val v):=by simp[dx,nJ,Cn]
def C5(P:Tl)(xt:TypeId)(j j':UZ)(m n:Int)(k:SP):dx P .shr xt (.val (.int j m)) (.val (.int j' n)) k=au (if n<0 then none else some (.int j (m.fdiv (2^(min n.toNat j.bits))))) λv=>k (.val v):=by simp[dx,nJ,Cn]
def ajq(T:SH)(H:SA)(t:Nat):AS.ev ⟨T,H⟩ (.tmp t)=look T t:=by rw[AS.ev]
def ajh(s:AS)(b:Bool):s.ev (.const (.bool b))=some (.val (.bool b)):=by rw[AS.ev,AV.of]<;>(intros;simp_all)
def ajl(s:AS)(k:UZ)(n:Int):s.ev (.const (.int k n))=some (.val (.int k n)):=by rw[AS.ev,AV.of]<;>(intros;simp_all)
def ajj(s:AS)(f:UR):s.ev (.func f)=some (.fn (.func f) [] []):=by rw[AS.ev]
def ajp(s:AS):s.ev (.const (.slice none 0 0))=some (.sl 0 [] .exact):=by rw[AS.ev,AV.of]
def ajm(s:AS):s.ev (.const (.map none))=some (.val (.map none)):=by rw[AS.ev,AV.of]<;>(intros;simp_all)
def ajn(s:AS):s.ev (.const (.pointer none))=some (.val (.pointer none)):=by rw[AS.ev,AV.of]<;>(intros;simp_all)
def aji(s:AS):s.ev (.const .nilFunc)=some (.val .nilFunc):=by rw[AS.ev,AV.of]<;>(intros;simp_all)
def ajk(s:AS):s.ev (.const .nilIface)=some (.val .nilIface):=by rw[AS.ev,AV.of]<;>(intros;simp_all)
def aq9(T:SH)(H:SA)(d:Nat)(a:AV):AS.put ⟨T,H⟩ (some d) a=⟨(d,a)::T,H⟩:=by rw[AS.put]
def aq8(s:AS)(a:AV):AS.put s none a=s:=by rw[AS.put]
def aun(n:SV)(Φ:SI)(s:AS):ap.then n Φ .normal s=n s:=by rw[ap.then]
def aup(n:SV)(Φ:SI)(s:AS):ap.then n Φ .ret s=Φ .ret s:=by rw[ap.then];intro h;cases h
def aul(n:SV)(Φ:SI)(i:Nat)(s:AS):ap.then n Φ (.exit i) s=Φ (.exit i) s:=by rw[ap.then];intro h;cases h
def aum(n:SV)(Φ:SI)(i:Nat)(s:AS):ap.then n Φ (.goto i) s=Φ (.goto i) s:=by rw[ap.then];intro h;cases h
def auo(n:SV)(Φ:SI)(a:AV)(s:AS):ap.then n Φ (.panic a) s=Φ (.panic a) s:=by rw[ap.then];intro h;cases h
def ahT(i:Nat)(Φ:SI)(s:AS):ap.inBlock i Φ .normal s=Φ .normal s:=by rw[ap.inBlock];intro h h';cases h'
def ahV(i:Nat)(Φ:SI)(s:AS):ap.inBlock i Φ .ret s=Φ .ret s:=by rw[ap.inBlock];intro h h';cases h'
def ahQ(i l:Nat)(Φ:SI)(s:AS):ap.inBlock i Φ (.goto l) s=Φ (.goto l) s:=by rw[ap.inBlock];intro h h';cases h'
def ahU(i:Nat)(Φ:SI)(a:AV)(s:AS):ap.inBlock i Φ (.panic a) s=Φ (.panic a) s:=by rw[ap.inBlock];intro h h';cases h'
def ahR(i:Nat)(Φ:SI)(s:AS):ap.inBlock i Φ (.exit i) s=Φ .normal s:=by rw[ap.inBlock,if_pos rfl]
def ahS(i j:Nat)(Φ:SI)(s:AS)(h:(j==i)=false):ap.inBlock i Φ (.exit j) s=Φ (.exit j) s:=by
 have:¬j=i:=by simpa using h
 rw[ap.inBlock,if_neg this]
def alk(P:Tl)(rs:SW)(n:Nat)(k kp:SF)(s:AS):rX P rs n k kp .ret s=au (iF P s rs) λl=>cz n s.H (jr l) k:=by rw[rX]
def ali(P:Tl)(rs:SW)(n:Nat)(k kp:SF)(s:AS):rX P rs n k kp .normal s=au (iF P s rs) λl=>cz n s.H (jr l) k:=by rw[rX]
def alj(P:Tl)(rs:SW)(n:Nat)(k kp:SF)(a:AV)(s:AS):rX P rs n k kp (.panic a) s=cz n s.H a kp:=by rw[rX]
def ar9(P:Tl)(T:SH)(H:SA)(t:Nat):wl P ⟨T,H⟩ (.tmp t)=look T t:=by rw[wl]
def aha(s:AS)(l:SC):s.at (.rp l)=some l:=by rw[AS.at]
def as7(n i off:Nat):AV.shift n (.op i off)=some (.op i (off+n)):=by rw[AV.shift]
def aed(n:Nat)(l:SC)(h:n<=l.length):AV.shift n (.rp l)=some (.rp (l.drop n)):=by rw[AV.shift,if_pos h]
def as8(l:SC):AV.shift 0 (.rp l)=some (.rp l):=by rw[AV.shift,if_pos (YS _),Wx]
def as9(n:Nat)(a:AV)(l:SC):AV.shift (n+1) (.rp (a::l))=AV.shift n (.rp l):=by simp[AV.shift]
def asm(n:Nat)(l:SC)(e:End):AV.row (.sl n l e)=some (n,.rp l):=by rw[AV.row]
def asl(i off n cap:Nat):AV.row (.bB i off n cap)=some (n,.op i off):=by rw[AV.row]
def afR(P:Tl)(s:AS){t:TypeId}(n:Nat)(l:SC)(e:End)(k:SP)(h:j6 P t=some .slice):qO P s t (.sl n l e) k=k (.val (.int .i64 n)):=by unfold qO;rw[h]
def afQ(P:Tl)(s:AS){t:TypeId}(i off n cap:Nat)(k:SP)(h:j6 P t=some .slice):qO P s t (.bB i off n cap) k=k (.val (.int .i64 n)):=by unfold qO;rw[h]
def afO(P:Tl)(T:SH)(H:SA){t:TypeId}(id:Nat)(k:SP){es:TD}{ck:Nat}(h:j6 P t=some .map)(hH:H[id]?=some (.obj (.map es ck))):qO P ⟨T,H⟩ t (.mp id) k=k (.val (.int .i64 es.size)):=by unfold qO;rw[h];simp[hH]
def afP(P:Tl)(s:AS){t:TypeId}(k:SP)(h:j6 P t=some .map):qO P s t (.val (.map none)) k=k (.val (.int .i64 0)):=by unfold qO;rw[h]
def bE{a b:AV}:(∃c,some b=some c/\Wk c a)<->Wk b a:=⟨λ⟨_,h,k⟩=>by cases h;exact k,λh=>⟨_,rfl,h⟩⟩
abbrev iv (n:Int):AV:=.val (.int .i64 n)
abbrev bv (b:Bool):AV:=.val (.bool b)
def QD{lv:Bool}{P:Tl}{r:SL}{s:AS}{nt:Nat}{c:Up}{x y:U5}{Φ:SI}(h:au (s.ev c) λa=>a.asBool λb=>(b=true->aW lv P r nt x s Φ)/\(b=false->aW lv P r nt y s Φ)):aW lv P r nt (.cond c x y) s Φ:=by obtain⟨a,h1,h2⟩:=h.out;obtain⟨b,rfl,h3,h4⟩:=Da h2;exact ahb h1 h3 h4
def RI{α β:Type}{f:α->List β}{m:Nat}(hf:∀x,(f x).length=m):∀{xs:List α}{i:Nat}{x:α},xs[i]?=some x->(xs.flatMap f).drop (i* m)=f x++(xs.drop (i+1)).flatMap f
 |y::xs,0,x,h=>by cases h;simp
 |y::xs,i+1,x,h=>by
  have ih:=RI hf (xs:=xs) (i:=i) (x:=x) (by simpa using h);rw[UT,Wi,Nat.one_mul,axJ (i* m) m,<- axL];have:(f y++xs.flatMap f).drop m=xs.flatMap f:=by rw[<- hf y];simp
  rw[this,ih];simp
 |[],i,x,h=>by simp at h
def uC{α β:Type}{f:α->List β}{m:Nat}(hf:∀x,(f x).length=m)(xs:List α):(xs.flatMap f).length=xs.length* m:=by
 induction xs with
 |nil=>simp
 |cons x xs ih=>rw[UT,Tp,hf,ih,U4,Wi];omega
def Ps{α:Type}{f:α->SC}{m:Nat}(hf:∀x,(f x).length=m){xs:List α}{i:Nat}{x:α}(h:xs[i]?=some x):AV.shift (i* m) (.rp (xs.flatMap f))=some (.rp (f x++(xs.drop (i+1)).flatMap f)):=by have hi:i<xs.length:=(Tn.1 h).1;rw[aed _ _ (by rw[uC hf];exact U2 _ (by omega)),RI hf h]
def aec{α:Type}{f:α->AV}{xs:List α}{i:Nat}{x:α}(h:xs[i]?=some x):AV.shift (i* 1) (.rp (xs.map f))=some (.rp (f x::(xs.drop (i+1)).map f)):=by have hi:i<xs.length:=(Tn.1 h).1;rw[Zo,aed _ _ (by simp;omega)];congr 2;rw[<- ZL,UL hi,VN];congr 2;rw[T4 hi]at h;exact V_ h
def fy{i n:Nat}(h:i<n):(0<=(i:Int)/\(i:Int)<(n:Int))=True:=by simp;exact h
def eF{α:Type}{xs:List α}{i:Nat}{x:α}(h:xs[i]?=some x):i<xs.length:=(Tn.1 h).1
def bF{α:Type}{xs:List α}{i:Nat}(h:i<xs.length):∃x,xs[i]?=some x:=⟨_,T4 h⟩
def wL(H L:SA)(i:Nat):(H++L)[H.length+i]?=L[i]?:=by rw[Uc (by omega)];congr 1;omega
def agF(H L:SA):(H++L)[H.length]?=L[0]?:=by have:=wL H L 0;simpa using this
def wM(H L:SA)(i:Nat)(x:aa):(H++L).set (H.length+i) x=H++L.set i x:=by rw[Vg _ _ (by omega)];congr 2;omega
def agJ(H L:SA)(x:aa):(H++L).set H.length x=H++L.set 0 x:=by have:=wM H L 0 x;simpa using this
def agE(H L M:SA):(H++L)++M=H++(L++M):=Ev ..
def agI(H L:SA):(H++L).length=H.length+L.length:=Tp
def dF(n:Nat)(x:T9):Lt n (.val x)=True:=by simp[Lt.val]
def acB(n i o:Nat):Lt n (.op i o)=(i<n):=propext ⟨λh=>by cases h with|op h=>exact h,.op⟩
def lT(n:Nat)(l:SC):Lt n (.agg l)=∀a∈l,Lt n a:=propext ⟨λh=>by cases h with|agg h=>exact h,.agg⟩
def iw(n:Nat)(l:SC):Lt n (.aJ l)=∀a∈l,Lt n a:=propext ⟨λh=>by cases h with|aJ h=>exact h,.aJ⟩
def wc(n:Nat)(t:TypeId)(a:AV):Lt n (.bY t a)=Lt n a:=propext ⟨λh=>by cases h with|bY h=>exact h,.bY⟩
def sX(n m:Nat)(l:SC):Lt n (.sl m l .shut)=∀a∈l,Lt n a:=propext ⟨λh=>by cases h with|sl _ h=>exact h,λh=> .sl (by simp) h⟩
def Ix(n m:Nat)(l:SC):Lt n (.sl m l .exact)=∀a∈l,Lt n a:=propext ⟨λh=>by cases h with|sl _ h=>exact h,λh=> .sl (by simp) h⟩
def apo(n m k:Nat)(l:SC):Lt n (.sl m l (.opn k))=(k<n/\∀a∈l,Lt n a):=propext ⟨λh=>by cases h with|sl h' h=>exact⟨h' k rfl,h⟩,λh=> .sl (λk' e=>by cases e;exact h.1) h.2⟩
def zM(n:Nat)(l:SC):Lt n (.rp l)=∀a∈l,Lt n a:=propext ⟨λh=>by cases h with|rp h=>exact h,.rp⟩
def aby{H:SA}(h:bJ H){i:Nat}{x:aa}(k:fw H.length x):bJ (H.set i x):=λy hy=>by rw[UK];rcases VD hy with hy|rfl;exact h y hy;exact k
def cY (o:Vp):SE:=o.after.toList.filterMap λe=>if ZB .any e then some e.on else none
inductive l5 (ops:Array Vp):List Nat->List Nat->Prop
 |nil (X:List Nat) (h:∀i,i<ops.size->i∈X):l5 ops X []
 |cons {X:List Nat} {i:Nat} {l:List Nat} (o:Vp) (ho:ops[i]?=some o) (hn:i∉X) (hd:∀j∈cY o,j∈X) (h:l5 ops (i::X) l):l5 ops X (i::l)
def IA{o:Vp}{j:Nat}:j∈cY o<->∃e∈o.after,ZB .any e=true/\e.on=j:=by
 unfold cY;rw[WM];constructor
 ·rintro⟨e,he,h⟩
  split at h;rename_i hb;cases h;exact⟨e,by simpa using he,hb,rfl⟩;cases h
 ·rintro⟨e,he,hb,rfl⟩
  exact⟨e,by simpa using he,by rw[if_pos hb]⟩
def Ri{l:SE}{i:Nat}(hi:i∈l){p q:Nat->Bool}(oC:∀k,q k=true->p k=true)(hp:p i=true)(hq:q i=false):l.countP q<l.countP p:=by
 induction l with
 |nil=>cases hi
 |cons x l ih=>
  have hle:l.countP q<=l.countP p:=List.countP_mono_left λk _ h=>oC k h;rcases Tm.1 hi with rfl|hi
  ·rw[X5 (by simp[hq]),Xf hp];omega
  ·have:=ih hi;by_cases hx:q x=true;rw[Xf hx,Xf (oC x hx)];omega;rw[X5 hx];by_cases jZ:p x=true;rw[Xf jZ];omega;rw[X5 jZ];exact this
structure Qd (ops:Array Vp)(L:Array Bool)(X:SE):Prop where
 size:L.size=ops.size
 mem:∀i,i<ops.size->(L[i]?=some true<->i∈X)
def acs{ops:SK}(iP:∀(i:Nat) o,ops[i]?=some o->∀j∈cY o,j<i):∀(fuel t:Nat)(L:Array Bool)(X:SE),Qd ops L X->(Tt ops.size).countP (λi=> !X.contains i)<=fuel->l5 ops X (VC .any ops fuel t L [])
 |0,t,L,X,hr,hc=>by
  simp only[VC,Y_];refine .nil X λi hi=> ?_;have:(Tt ops.size).countP (λi=> !X.contains i)=0:=by omega
  have:=List.countP_eq_zero.1 this i (by simpa using hi);simpa using this
 |fuel+1,t,L,X,hr,hc=>by
  have vS:∀i,i∈((Tt ops.size).filter λi=> !L.getD i true&&((ops[i]?).map (·.after.all λe=> !Region.binds .any e||L.getD e.on false)).getD false)<->∃o,ops[i]?=some o/\i∉X/\∀j∈cY o,j∈X:=by
   intro i;simp only[Vx,UB,Ui,UV];constructor
   ·rintro⟨hi,h1,h2⟩
    have ho:=Tj hi;refine⟨ops[i],ho,λhx=> ?_,λj hj=> ?_⟩;have:=(hr.mem i hi).2 hx;rw[Th,this]at h1;cases h1
    ·obtain⟨e,he,hb,rfl⟩:=IA.1 hj;rw[ho]at h2;simp only[VT,T_,VG]at h2;have:=h2 e he;rw[hb]at this;simp only[Xn,ar_]at this;have hlt:e.on<ops.size:=Xx (iP i _ ho _ hj) hi;refine(hr.mem _ hlt).1 ?_;rw[Th]at this;cases hx:L[e.on]?with
     |none=>rw[hx]at this;cases this
     |some b=>rw[hx]at this;cases b;cases this;rfl
   ·rintro⟨o,ho,h1,h2⟩
    have hi:i<ops.size:=(Tw.1 ho).1;refine⟨hi,?_,?_⟩
    ·rw[Th,Tj (by rw[hr.size];exact hi)];simp only[T_];cases hb:L[i]'(by rw[hr.size];exact hi)with
     |false=>rfl
     |true=>exact absurd ((hr.mem i hi).1 (by rw[Tj (by rw[hr.size];exact hi),hb])) h1
    ·rw[ho];simp only[VT,T_,VG];intro e he;cases hb:ZB .any e with
     |false=>rfl
     |true=>have hj:=IA.2 ⟨e,he,hb,rfl⟩;have hlt:e.on<ops.size:=Xx (iP i _ ho _ hj) hi;have:=(hr.mem _ hlt).2 (h2 _ hj);simp[Th,this]
  simp only[VC];generalize us:((Tt ops.size).filter λi=> !L.getD i true&&((ops[i]?).map (·.after.all λe=> !Region.binds .any e||L.getD e.on false)).getD false)=rs at vS;cases hi:rs[t % rs.length]?with
  |none=>
   have M6:rs=[]:=by
    cases rs with
    |nil=>rfl
    |cons x xs=>have hlt:t % (x::xs).length<(x::xs).length:=Nat.mod_lt _ (by simp);rw[List.getElem?_eq_none_iff]at hi;omega
   simp only[Y_];refine .nil X λi=> ?_;induction i using Zy with
   |_ i ih=>intro hlt;apply Uv;intro hx;have:i∈rs:=(vS i).2 ⟨ops[i],Tj hlt,hx,λj hj=>ih j (iP i _ (Tj hlt) j hj) (Xx (iP i _ (Tj hlt) j hj) hlt)⟩;rw[M6]at this;cases this
  |some i=>
   simp only[];obtain⟨o,ho,h1,h2⟩:=(vS i).1 (Un hi);have hlt:i<ops.size:=(Tw.1 ho).1;rw[linearise_go_acc,List.reverse_singleton,Z'];refine .cons o ho h1 h2 (acs iP fuel _ _ (i::X) ⟨by simp[hr.size],λk hk=> ?_⟩ ?_);by_cases sI:k=i;subst sI;simp[Ud (by rw[hr.size];exact hlt)];rw[Tx (Ne.symm sI),hr.mem k hk];simp[sI]
   ·have e_:i∈(Tt ops.size):=(by simpa using hlt);have:(Tt ops.size).countP (λk=> !(i::X).contains k)<(Tt ops.size).countP (λk=> !X.contains k):=by exact Ri e_ (λk hk=>by simp only[UV,Vq,decide_eq_false_iff_not]at hk⊢;exactλh=>hk (Ue _ h)) (by simpa using h1) (by simp)
    omega
structure JU (k:AV->Prop):Type where
 n:Nat
structure JS (X:Bool->Prop)(Z:Prop):Type where
 n:Nat
def QG (a:AV)(X:Bool->Prop)(Z:Prop)(_t:JS X Z):Prop:=(∃b,a=.val (.bool b)/\X b)\/(a=.val undef/\Z)
def arN(b:Bool)(X:Bool->Prop)(Z:Prop)(t:JS X Z):QG (.val (.bool b)) X Z t=X b:=by unfold QG;refine propext ⟨λh=> ?_,λh=> .inl ⟨b,rfl,h⟩⟩;rcases h with⟨b',e,h⟩|⟨e,_⟩;cases e;exact h;cases e
def arO(X:Bool->Prop)(Z:Prop)(t:JS X Z):QG (.val undef) X Z t=Z:=by unfold QG;refine propext ⟨λh=> ?_,λh=> .inr ⟨rfl,h⟩⟩;rcases h with⟨b',e,_⟩|⟨_,h⟩;cases e;exact h
def Qc (lv:Bool)(P:Tl)(f:AV)(H:SA)(aL:SC)(k:SP)(_t:JU k):Prop:=∃av,fh lv P f H aL (λb H'=>b=av/\H'=H) (λ_ _=>False)/\k av
def afw (lv:Bool)(P:Tl)(f:AV)(name:String)(H:SA)(aL:SC)(k:SP)(_t:JU k):Prop:=∃av,tC lv P f name H aL (λb H'=>b=av/\H'=H) (λ_ _=>False)/\k av
def dG{lv:Bool}{P:Tl}{f:AV}{H:SA}{aL:SC}{k:SP}{t:JU k}(av:AV)(h:fh lv P f H aL (λb H'=>b=av/\H'=H) (λ_ _=>False))(hk:k av):Qc lv P f H aL k t:=⟨av,h,hk⟩
section
variable (lv:Bool)(P:Tl)
def AQ (s:AS)(o:Vp)(k:SP):Prop:=match o.op with
 |.call c=>match c.callee with
  |.value x=>au (s.ev x) λf=>au (fJ s c.args.toList) λaL=>Qc lv P f s.H aL k ⟨0⟩
  |.invoke x name=>au (s.ev x) λf=>au (fJ s c.args.toList) λaL=>afw lv P f name s.H aL k ⟨0⟩
  |.builtin .append=>match c.args.toList,c.argTypes.toList with
   |[x,y],[t,t']=>au (j4 P t t') λ(_,sz,_)=>au (s.ev x) λa=>au (s.ev y) λb=>a.wO λn l e=>e=.exact/\au (s.src sz b) λ(m,l')=>l.length=n* sz/\l'.length=m* sz/\n+m<=2^30/\k (.sl (n+m) (l++l') .shut)
   |_,_=>False
  |_=>lZ P s o k
 |_=>lZ P s o k
def nS (all:SK):List Vp->AS->(SV)->Prop
 |[],s,K=>K s
 |o::rest,s,K=>match o.guard with
  |none=>AQ lv P s o λav=>nS all rest (s.put o.dst av) K
  |some (j,cp)=>au ((all[j]?).bind (·.dst)) λd=>au (look s.T d) λa=>QG a (λb=>rY b cp (AQ lv P ⟨(d,.val (.bool cp))::s.T,s.H⟩ o λav=>nS all rest ((⟨(d,.val (.bool cp))::s.T,s.H⟩:AS).put o.dst av) K) (nS all rest ((⟨(d,.val (.bool !cp))::s.T,s.H⟩:AS).put o.dst (.val undef)) K) ⟨0⟩) (nS all rest (s.put o.dst (.val undef)) K) ⟨0⟩
end
section
variable {lv:Bool}{P:Tl}{r:SL}{o:Vp}{s:AS}
def adz{a:Act}{E:Env}{V:View}{av:AV}{N:S4}{Q:SJ}(h1:∀E' V' v,E.Le E'->V'.role=V.role->V'.deaf=V.deaf->Conc E' V' s.H->ay E' av v->N (a.put o.dst v) V'):
  (∀nx V',Nx lv P (gR E V (λb H'=>b=av/\H'=s.H) (λ_ _=>False)) nx V'->ng lv P r o a N Q nx V')/\(∀v V',gR E V (λb H'=>b=av/\H'=s.H) (λ_ _=>False) (.panic [{v,recovered:=false}]) V'->Q (.panic [{v,recovered:=false}]) a V'):=by
 have hv:∀v V',gR E V (λb H'=>b=av/\H'=s.H) (λ_ _=>False) (.ret v) V'->N (a.put o.dst v) V':=λv V' ⟨b,E',H',hle,cr,fB,bm,bu,e1,e2⟩=>by subst e1 e2;exact h1 E' V' v hle cr fB bu bm
 have hp:∀ch V',gR E V (λb H'=>b=av/\H'=s.H) (λ_ _=>False) (.panic ch) V'->Q (.panic ch) a V':=λch V' ⟨pv,v,E',H',fA,hle,cr,fB,bm,bu,hk⟩=>hk.elim;refine⟨λnx V' hn=> ?_,λv V' h=>hp _ _ h⟩;cases nx with
 |value v=>exact hv _ _ hn
 |skip=>exact hv _ _ hn
 |enter f args=>
  refine Body.mono (R':=fun
   |.ret v,V'=>N (a.put o.dst v) V'
   |.panic ch,V'=>Q (.panic ch) a V') hn λot aZ h=> ?_
  cases ot with
  |ret v=>exact hv _ _ h
  |panic ch=>exact hp _ _ h
 |round l f tmps aL b=>
  refine nU.mono (R':=fun
   |.ret v,V'=>N (a.put o.dst v) V'
   |.panic ch,V'=>Q (.panic ch) a V') hn λot aZ h=> ?_
  cases ot with
  |ret v=>exact hv _ _ h
  |panic ch=>exact hp _ _ h
 |_=>exact hn.elim
def ard{c:Yv}{x y:Up}{t t' elem:TypeId}{sz n m:Nat}{z:T9}{l l':SC}{av:AV}(ho:o.op=.call c)(aY:c.callee=.builtin .append)(cU:c.args=#[x,y])(d_:c.argTypes=#[t,t'])(ht:j4 P t t'=some (elem,sz,z))
  (hx:s.ev x=some (.sl n l .exact)) (hy:s.ev y=some av) (hs:s.src sz av=some (m,l')) (hl:l.length=n* sz) (eS:l'.length=m* sz) (hb:n+m<=2^30):dH lv P r o s (.sl (n+m) (l++l') .shut):=by
 intro E V a N Q hc aI bC hN;refine⟨bC,?_⟩;have dK:=ay.ev aI hx;have jf:=ay.ev aI hy;generalize kH:a.eval x=vx at dK;generalize sR:a.eval y=vy at jf;unfold execOp;rw[ho];dsimp only;unfold resolve;rw[aY];dsimp only;refine aA (az ?_);unfold invoke builtin;dsimp only;refine aA ?_;have ow:c.args.map a.eval=#[vx,vy]:=by rw[cU];simp[kH,sR]
 rw[ow,d_];obtain⟨base,cap,rfl⟩:∃base cap,vx=.slice base n cap:=by
  cases dK with
  |sl b o cap f dT he q1 q2=>exact⟨_,_,rfl⟩
  |nil he=>exact⟨_,_,rfl⟩
 have eN:cap=n:=by
  cases dK with
  |sl b o cap f dT he q1 q2=>exact he
  |nil he=>rfl
 subst eN;have uv:(l++l').length=(cap+m)* sz:=by rw[Tp,hl,eS,Wi]
 by_cases hm:m=0
 ·subst hm;have uh:l'=[]:=by simpa using eS
  subst uh;refine I9 hc ht jf hs eS (Tv _) ?_;refine az (hN E V _ (Env.Le.refl E) rfl rfl hc ?_);rw[Vr,Ts];exact dQ _ _ _ _ _ dK
 ·refine I8 hc ht dK jf hs hl eS hb (by omega) λrr cs cap' hf bm hle a_=> ?_;obtain⟨bu,sJ⟩:=hc.aeL (el:=elem) hf a_ hle;have vU:(cap+m)* sz<=cs.size:=by rw[a_];exact U2 _ hle
  refine aT.ghost (yN (f:=(0,0)) (cs:=cs) (el:=elem) (p:=(·<(cap+m)* sz)) (by simp[View.upd]) (λo _=>hf.2 o)) ?_;have rB:=FH (n:=s.H.length) (m:=s.H.length) (Tv _) (by simp[Env.tok,hc.n]) sJ hc.n;refine az (hN _ _ _ rB rfl rfl (bu.trim hc.an) (KF (I:=(V.laid rr cs elem (·<(cap+m)* sz)).ah) (e:=.shut) (sz:=sz) (cs:=cs) rfl (bm.mono rB) uv vU (λo h=>Io (by simpa using h)) hle trivial))
def AQ.sound{k:SP}(h:AQ lv P s o k):∃av,dH lv P r o s av/\k av:=by unfold AQ at h;split at h;rename_i c ho;split at h;rename_i x aY;obtain⟨f,h1,hA⟩:=h.out;obtain⟨aL,h2,hB⟩:=hA.out;obtain⟨av,h3,h4⟩:=hB;refine⟨av,λE V a N Q hc aI bC hN=> ?_,h4⟩;have sP:=adz (lv:=lv) (P:=P) (r:=r) (o:=o) (Q:=Q) hN;refine⟨bC,?_⟩;unfold execOp;rw[ho];dsimp only;unfold resolve;rw[aY];dsimp only;have e:c.args.map a.eval=(c.args.toList.map a.eval).toArray:=(by apply Wz;simp);rw[e];exact(h3 E V (a.eval x) _ hc (ay.ev aI h1) (A0 aI h2)).mono (λnx V' h=>sP.1 nx V' h) (λv V' h=>sP.2 v V' h);rename_i x name aY;obtain⟨f,h1,hA⟩:=h.out;obtain⟨aL,h2,hB⟩:=hA.out;obtain⟨av,h3,h4⟩:=hB;refine⟨av,λE V a N Q hc aI bC hN=> ?_,h4⟩;have sP:=adz (lv:=lv) (P:=P) (r:=r) (o:=o) (Q:=Q) hN;refine⟨bC,?_⟩;unfold execOp;rw[ho];dsimp only;unfold resolve;rw[aY];dsimp only;refine aA (az ?_);have e:c.args.map a.eval=(c.args.toList.map a.eval).toArray:=(by apply Wz;simp);rw[e];exact(h3 E V (a.eval x) _ hc (ay.ev aI h1) (A0 aI h2)).mono (λnx V' h=>sP.1 nx V' h) (λv V' h=>sP.2 v V' h);rename_i aY;split at h;rename_i x y t t' ha ht;obtain⟨⟨elem,sz,z⟩,h1,hA⟩:=h.out;obtain⟨a,h2,hB⟩:=hA.out;obtain⟨b,h3,hC⟩:=hB.out;obtain⟨n,l,e,e1,e0,hD⟩:=Qu hC;subst e1 e0;obtain⟨⟨m,l'⟩,h4,h5,h6,h7,h8⟩:=hD.out;exact⟨_,ard ho aY (nY ha) (tp ht) h1 h2 h3 h4 h5 h6 h7,h8⟩;exact h.elim;exact h.sound;exact h.sound
end
section
variable {lv:Bool}{P:Tl}{o:Vp}{T T':SH}{H:SA}{k:SP}
def Do:∀(l:List Up),(∀x∈l,AS.ev ⟨T,H⟩ x=AS.ev ⟨T',H⟩ x)->fJ ⟨T,H⟩ l=fJ ⟨T',H⟩ l
 |[],_=>rfl
 |x::l,h=>by simp only[fJ,h x (UC ..),Do l λy hy=>h y (Ue _ hy)]
def K1:∀(l:List (Nat×Up)),(∀x∈l,AS.ev ⟨T,H⟩ x.2=AS.ev ⟨T',H⟩ x.2)->kB ⟨T,H⟩ l=kB ⟨T',H⟩ l
 |[],_=>rfl
 |x::l,h=>by simp only[kB,h x (UC ..),K1 l λy hy=>h y (Ue _ hy)]
def mapM_congr:∀(l:List Up),(∀x∈l,AS.ev ⟨T,H⟩ x=AS.ev ⟨T',H⟩ x)->l.mapM (AS.ev ⟨T,H⟩)=l.mapM (AS.ev ⟨T',H⟩)
 |[],_=>rfl
 |x::l,h=>by simp only[U6,h x (UC ..),mapM_congr l λy hy=>h y (Ue _ hy)]
def Kl(x:Option Up)(h:∀y,x=some y->AS.ev ⟨T,H⟩ y=AS.ev ⟨T',H⟩ y):AS.jw ⟨T,H⟩ x=AS.jw ⟨T',H⟩ x:=by
 cases x with
 |none=>rfl
 |some y=>simp only[AS.jw,h y rfl]
def afF{op:Xl}{t:TypeId}{y:Up}{a:AV}(h:AS.ev ⟨T,H⟩ y=AS.ev ⟨T',H⟩ y):jb P ⟨T,H⟩ op t y a k=jb P ⟨T',H⟩ op t y a k:=by unfold jb;split<;>first|rfl|rw[h]
def lZ.congr(h:∀x∈o.op.operands,AS.ev ⟨T,H⟩ x=AS.ev ⟨T',H⟩ x)(ha:lZ P ⟨T,H⟩ o k):lZ P ⟨T',H⟩ o k:=by
 unfold lZ at ha⊢;generalize o.op=op at h ha⊢;cases op with
 |call c=>
  have cU:∀x∈c.args,AS.ev ⟨T,H⟩ x=AS.ev ⟨T',H⟩ x:=λx hx=>h x (by simp[Uz,Xy,hx]);dsimp only at ha⊢;split at ha
  ·obtain⟨x,h1,hA⟩:=ha.out;rw[h1,au];obtain⟨t,h2,hB⟩:=hA.out;rw[h2,au];rw[<- cU x (Z8 h1)];obtain⟨a,h3,hC⟩:=hB.out;rw[h3,au];exact hC
  ·split at ha;rename_i x y L_;have:=nY L_;rw[this]at cU;rw[<- cU x (by simp),<- cU y (by simp)];exact ha;exact ha.elim
  ·split at ha;rename_i x y L_;have:=nY L_;rw[this]at cU;rw[<- cU x (by simp),<- cU y (by simp)];exact ha;exact ha.elim
  ·exact ha.elim
 |build t parts=>dsimp only at ha⊢;rw[<- K1 parts.toList λx hx=>h x.2 (by simp only[Uz,UN,Uh];exact⟨x,hx,rfl⟩)];exact ha
 |buildSlice t n parts=>dsimp only at ha⊢;rw[<- K1 parts.toList λx hx=>h x.2 (by simp only[Uz,UN,Uh];exact⟨x,hx,rfl⟩)];exact ha
 |makeFunc f first c9=>dsimp only at ha⊢;rw[<- mapM_congr first.toList λx hx=>h x (by simp[Uz];exact .inl (by simpa using hx)),<- mapM_congr c9.toList λx hx=>h x (by simp[Uz];exact .inr (by simpa using hx))];exact ha
 |slice t x lo hi mx=>dsimp only at ha⊢;rw[<- h x (by simp[Uz]),<- Kl lo λy hy=>h y (by simp[Uz,hy]),<- Kl hi λy hy=>h y (by simp[Uz,hy]),<- Kl mx λy hy=>h y (by simp[Uz,hy])];exact ha
 |pick c a b=>dsimp only at ha⊢;rw[<- h c (by simp[Uz]),<- h a (by simp[Uz]),<- h b (by simp[Uz])];exact ha
 |binOp op t a b u=>dsimp only at ha⊢;rw[<- h a (by simp[Uz])];obtain⟨x,h1,hA⟩:=ha.out;rw[h1,au];rw[<- afF (h b (by simp[Uz]))];exact hA
 |indexAddr t a b=>dsimp only at ha⊢;rw[<- h a (by simp[Uz]),<- h b (by simp[Uz])];exact ha
 |index t a b=>dsimp only at ha⊢;rw[<- h a (by simp[Uz]),<- h b (by simp[Uz])];exact ha
 |move x=>dsimp only at ha⊢;rw[<- h x (by simp[Uz])];exact ha
 |assign x=>dsimp only at ha⊢;rw[<- h x (by simp[Uz])];exact ha
 |unOp op t x=>cases op<;>dsimp only at ha⊢<;>first|exact ha.elim|(rw[<- h x (by simp[Uz])];exact ha)
 |convert a b x=>dsimp only at ha⊢;rw[<- h x (by simp[Uz])];exact ha
 |lookup t m x ok=>dsimp only at ha⊢;rw[<- h m (by simp[Uz]),<- h x (by simp[Uz])];exact ha
 |extract x i=>dsimp only at ha⊢;rw[<- h x (by simp[Uz])];exact ha
 |nilCheck x=>dsimp only at ha⊢;rw[<- h x (by simp[Uz])];exact ha
 |makeInterface t x=>dsimp only at ha⊢;rw[<- h x (by simp[Uz])];exact ha
 |typeAssert x a b c=>dsimp only at ha⊢;rw[<- h x (by simp[Uz])];exact ha
 |fieldAddr t x f=>dsimp only at ha⊢;rw[<- h x (by simp[Uz])];exact ha
 |field t x f=>dsimp only at ha⊢;rw[<- h x (by simp[Uz])];exact ha
 |load t x=>dsimp only at ha⊢;rw[<- h x (by simp[Uz])];exact ha
 |entry x=>dsimp only at ha⊢;rw[<- h x (by simp[Uz])];exact ha
 |_=>exact ha.elim
def atm(sz:Nat)(a:AV):AS.src ⟨T,H⟩ sz a=AS.src ⟨T',H⟩ sz a:=by cases a<;>rfl
def AQ.congr(h:∀x∈o.op.operands,AS.ev ⟨T,H⟩ x=AS.ev ⟨T',H⟩ x)(ha:AQ lv P ⟨T,H⟩ o k):AQ lv P ⟨T',H⟩ o k:=by
 unfold AQ at ha⊢;split at ha
 ·rename_i c ho;have cU:∀x∈c.args.toList,AS.ev ⟨T,H⟩ x=AS.ev ⟨T',H⟩ x:=λx hx=>h x (by rw[ho];simp[Uz,Xy];exact .inr (by simpa using hx));split at ha
  ·rename_i x aY;rw[<- h x (by rw[ho];simp[Uz,Xy,aY]),<- Do _ cU];exact ha
  ·rename_i x name aY;rw[<- h x (by rw[ho];simp[Uz,Xy,aY]),<- Do _ cU];exact ha
  ·split at ha;rename_i x y t t' hx ht;rw[hx]at cU;rw[<- cU x (by simp),<- cU y (by simp)];simp only[atm (T:=T) (T':=T')]at ha;exact ha;exact ha.elim
  ·exact lZ.congr h ha
 ·exact lZ.congr h ha
end
def dc (ops:SK)(j:Nat):Option Nat:=(ops[j]?).bind (·.dst)
inductive Reach (ops:Array Vp):Nat->Nat->Prop
 |KV {i j:Nat} {o:Vp} (ho:ops[i]?=some o) (hj:j∈cY o):Reach ops i j
 |more {i k j:Nat} {o:Vp} (ho:ops[i]?=some o) (hk:k∈cY o) (h:Reach ops k j):Reach ops i j
def vb (acc:List (SE))(o:Vp):List (SE):=acc++[(cY o++(cY o).flatMap λj=>acc.getD j []).eraseDups]
def Ku (ops:SK):List (SE):=ops.toList.foldl vb []
def Re(ops:SK):∀(l:List Vp)(acc:List (SE))(i:Nat),acc.length=i->(∀k o,l[k]?=some o->ops[i+k]?=some o)->(∀a,a<acc.length->∀j∈acc.getD a [],Reach ops a j)->
  ∀a,∀j∈(l.foldl vb acc).getD a [],Reach ops a j
 |[],acc,i,_,_,h,a,j,hj=>by simp only[List.foldl_nil]at hj;by_cases ha:a<acc.length;exact h a ha j hj;rw[Tf,VI (by omega)]at hj;simp at hj
 |o::l,acc,i,hi,ho,h,a,j,hj=>by
  rw[Wd]at hj;refine Re ops l (vb acc o) (i+1) (by simp[vb,hi]) (λk o' hk=>by have:=ho (k+1) o' (by simpa using hk);rwa[show i+(k+1)=i+1+k by omega]at this) (λa ha j hj=> ?_) a j hj;have HH:ops[i]?=some o:=by have:=ho 0 o rfl;simpa using this
  have qk:∀a,a<acc.length->(vb acc o).getD a []=acc.getD a []:=λa ha=>by simp[vb,Tf,T6 ha]
  by_cases fK:a<acc.length;rw[qk a fK]at hj;exact h a fK j hj
  ·have hae:a=acc.length:=(by simp[vb]at ha;omega);subst hae;have e:(vb acc o).getD acc.length []=(cY o++(cY o).flatMap λj=>acc.getD j []).eraseDups:=by simp[vb,Tf]
   rw[e,List.mem_eraseDups,T1]at hj;rw[hi];rcases hj with hj|hj;exact .KV HH hj
   ·obtain⟨k,hk,hj⟩:=T8.1 hj;have Ee:k<acc.length:=by apply Uv;intro hn;rw[Tf,VI (by omega)]at hj;simp at hj
    exact .more HH hk (h k Ee j hj)
def AT (nt p:Nat)(ops:SK):Bool:=
 let cl:=Ku ops;decide (p<=ops.size)&&
 (Tt ops.size).all (λi=>match ops[i]?with
  |some o=>o.dst.all (·<nt)&& !mR o.op&&(cY o).all (·<i)&&
   (if i<p then
    (Tt i).all (λj=>match o.dst,dc ops j with
     |some d,some d'=>d !=d'
     |_,_=>true)&&
    (o.op.operands.toList.all λx=>match x with
     |.tmp t=>(Tt p).all λj=>dc ops j !=some t||(cY o).contains j
     |_=>true)&&
    (match o.guard with
     |some (j,_)=>(cY o).contains j
     |none=>true)
   else(Tt i).all λj=>(cl.getD i []).contains j)
  |none=>true)
structure Aq (nt p:Nat)(ops:Array Vp):Prop where
 le:p<=ops.size
 dst:∀(i:Nat) o d,ops[i]?=some o->o.dst=some d->d<nt
 wW:∀(i:Nat) o,ops[i]?=some o->mR o.op=false
 low:∀(i:Nat) o,ops[i]?=some o->∀j∈cY o,j<i
 dV:∀(i j:Nat) o d,j<i->i<p->ops[i]?=some o->o.dst=some d->dc ops j≠some d
 OK:∀(i:Nat) o t j,i<p->ops[i]?=some o-> .tmp t∈o.op.operands->j<p->dc ops j=some t->j∈cY o
 DF:∀(i:Nat) o j w,i<p->ops[i]?=some o->o.guard=some (j,w)->j∈cY o
 suf:∀(i j:Nat),p<=i->i<ops.size->j<i->Reach ops i j
def AT.out{nt p:Nat}{ops:SK}(h:AT nt p ops=true):Aq nt p ops:=by
 unfold AT at h;simp only[Ui,decide_eq_true_eq]at h;obtain⟨hle,h⟩:=h;have key:∀(i:Nat) o,ops[i]?=some o->(o.dst.all (·<nt)=true/\mR o.op=false/\(∀j∈cY o,j<i))/\
   (if i<p then
    (Tt i).all (λj=>match o.dst,dc ops j with
     |some d,some d'=>d !=d'
     |_,_=>true)&&
    (o.op.operands.toList.all λx=>match x with
     |.tmp t=>(Tt p).all λj=>dc ops j !=some t||(cY o).contains j
     |_=>true)&&
    (match o.guard with
     |some (j,_)=>(cY o).contains j
     |none=>true)
   else(Tt i).all λj=>((Ku ops).getD i []).contains j)=true:=λi o ho=>by
  have hi:i<ops.size:=(Tw.1 ho).1;have:=Uq.1 h i (by simpa using hi);rw[ho]at this;simp only[Ui,Uq,UV,decide_eq_true_eq]at this;exact⟨⟨this.1.1.1,this.1.1.2,this.1.2⟩,by simpa only[Ui,Uq]using this.2⟩
 refine⟨hle,λi o d ho hd=> ?_,λi o ho=>(key i o ho).1.2.1,λi o ho=>(key i o ho).1.2.2,λi j o d hj hp ho hd e=> ?_,λi o t j hp ho ht hj e=> ?_,λi o j w hp ho hg=> ?_,λi j hp hi hj=> ?_⟩;(have:=(key i o ho).1.1;rw[hd]at this;simpa using this);have:=(key i o ho).2;rw[if_pos hp]at this;simp only[Ui,Uq]at this;have:=this.1.1 j (by simpa using hj);rw[hd,e]at this;simp at this;(have:=(key i o ho).2;rw[if_pos hp]at this;simp only[Ui,Uq]at this;have:=this.1.2 (.tmp t) (by simpa using ht);simp only[Uq]at this;have:=this j (by simpa using hj);rw[e]at this;simpa using this);(have:=(key i o ho).2;rw[if_pos hp]at this;simp only[Ui]at this;have:=this.2;rw[hg]at this;simpa using this);(have:=(key i ops[i] (Tj hi)).2;rw[if_neg (by omega)]at this;simp only[Uq]at this;have:=this j (by simpa using hj);refine Re ops ops.toList [] 0 rfl (λk o hk=>by simpa using hk) (by simp) i j ?_;simpa[Ku]using this)
def Sv{α β:Type}{f g:α->Option β}:∀{l:List α},(∀x∈l,f x=g x)->l.filterMap f=l.filterMap g
 |[],_=>rfl
 |x::l,h=>by have ih:=Sv (l:=l) λy hy=>h y (Ue _ hy);simp only[List.filterMap_cons,h x (UC ..),ih]
def lw (ops:SK)(f:Nat->AV)(o:Vp):List (Nat×AV):=(cY o).filterMap λj=>(dc ops j).map λd=>(d,f j)
def wC (lv:Bool)(P:Tl)(r:SL)(ops:SK)(T0:SH)(H:SA)(f:Nat->AV)(i:Nat)(o:Vp):Prop:=
 match o.guard with
 |none=>dH lv P r o ⟨lw ops f o++T0,H⟩ (f i)
 |some (j,cp)=>∃d,dc ops j=some d/\((∃b,look (lw ops f o++T0) d=some (.val (.bool b))/\(b=cp->dH lv P r o ⟨lw ops f o++T0,H⟩ (f i))/\(b= !cp->f i=.val undef))\/(look (lw ops f o++T0) d=some (.val undef)/\f i=.val undef))
def wb(l m:SH)(t:Nat):look (l++m) t=(look l t).or (look m t):=by
 induction l with
 |nil=>rfl
 |cons x l ih=>obtain⟨k,a⟩:=x;simp only[WX,look];split;rfl;exact ih
def pF{l:SH}{t:Nat}{a:AV}(h:look l t=some a):(t,a)∈l:=by
 induction l with
 |nil=>cases h
 |cons x l ih=>obtain⟨k,b⟩:=x;simp only[look]at h;split at h;rename_i e;subst e;cases h;exact UC ..;exact Ue _ (ih h)
def Om{l:SH}{t:Nat}(h:∀p∈l,p.1≠t):look l t=none:=by
 induction l with
 |nil=>rfl
 |cons x l ih=>obtain⟨k,b⟩:=x;simp only[look];rw[if_neg (h _ (UC ..))];exact ih λp hp=>h p (Ue _ hp)
def apj{l:SH}{q:Nat->Bool}{t:Nat}:look (l.filter λp=>q p.1) t=if q t then look l t else none:=by
 induction l with
 |nil=>simp[look]
 |cons x l ih=>obtain⟨k,b⟩:=x;by_cases hk:q k=true;rw[List.filter_cons_of_pos (by simpa using hk)];simp only[look];by_cases e:k=t;subst e;simp[hk];simp[e,ih];rw[List.filter_cons_of_neg (by simpa using hk),ih];simp only[look];by_cases e:k=t;subst e;simp[hk];simp[e]
section
variable {ops:SK}{f:Nat->AV}{p:Nat}
def aph{o:Vp}{j t:Nat}(hj:j∈cY o)(ht:dc ops j=some t)(zk:∀j'∈cY o,dc ops j'=some t->j'=j):look (lw ops f o) t=some (f j):=by
 cases e:look (lw ops f o) t with
 |none=>
  exfalso;have hm:(t,f j)∈lw ops f o:=WM.2 ⟨j,hj,by rw[ht];rfl⟩;have:∀(l:SH),(t,f j)∈l->look l t≠none:=by
   intro l;induction l with
   |nil=>intro h;cases h
   |cons x l ih=>intro h;obtain⟨k,b⟩:=x;simp only[look];split;simp;rename_i aN;rcases Tm.1 h with h|h;cases h;exact absurd rfl aN;exact ih h
  exact this _ hm e
 |some a=>obtain⟨j',iW,e'⟩:=WM.1 (pF e);obtain⟨d,hd,e'⟩:=Uu.1 e';cases e';rw[zk j' iW hd]
def api{o:Vp}{t:Nat}(h:∀j∈cY o,dc ops j≠some t):look (lw ops f o) t=none:=by refine Om λx hx e=> ?_;obtain⟨j,hj,e'⟩:=WM.1 hx;obtain⟨d,hd,e'⟩:=Uu.1 e';cases e';exact h j hj (by rw[hd];exact congrArg some e)
end
section
variable {lv:Bool}{P:Tl}{r:SL}{s:AS}{ops:SK}{nt p:Nat}
def u7 (s:AS)(ops:SK)(p:Nat):List (Nat×AV):=s.T.filter λx=>(Tt p).all λj=>dc ops j !=some x.1
def Iw(t:Nat):look (u7 s ops p) t=if(Tt p).all (λj=>dc ops j !=some t)then look s.T t else none:=apj (q:=λt=>(Tt p).all λj=>dc ops j !=some t)
structure pQ (s:AS)(ops:Array Vp)(fs:SC)(s':AS):Prop where
 H:s'.H=s.H
 new:∀j t,j<fs.length->dc ops j=some t->look s'.T t=fs[j]?
 old:∀t,(∀j,j<fs.length->dc ops j≠some t)->look s'.T t=look s.T t
def pQ.put(an:Aq nt p ops){fs:SC}{s':AS}(h:pQ s ops fs s')(hp:fs.length<p){o:Vp}(ho:ops[fs.length]?=some o)(av:AV):pQ s ops (fs++[av]) (s'.put o.dst av):=by
 have hd:dc ops fs.length=o.dst:=by simp[dc,ho]
 refine⟨by rw[fG];exact h.H,λj t hj ht=> ?_,λt ht=> ?_⟩
 ·simp only[Tp,Uw]at hj;by_cases MR:j=fs.length;subst MR;rw[hd]at ht;rw[ht];simp[AS.put,look]
  ·have iW:j<fs.length:=(by omega);rw[T6 iW,<- h.new j t iW ht];cases uc:o.dst with
   |none=>rfl
   |some d=>have aN:d≠t:=λe=>an.dV fs.length j o d iW hp ho uc (by rw[e];exact ht);simp[AS.put,look,aN]
 ·have hold:=h.old t λj hj=>ht j (by simp;omega);rw[<- hold];cases uc:o.dst with
  |none=>rfl
  |some d=>have aN:d≠t:=λe=>ht fs.length (by simp) (by rw[hd,uc,e]);simp[AS.put,look,aN]
def pQ.sW{fs:SC}{s':AS}(h:pQ s ops fs s'){d:Nat}{a:AV}(hd:look s'.T d=some a):pQ s ops fs ⟨(d,a)::s'.T,s'.H⟩:=by
 have e:∀t,look ((d,a)::s'.T) t=look s'.T t:=λt=>by simp only[look];split;rename_i e;subst e;exact hd.symm;rfl
 exact⟨h.H,λj t hj ht=>by rw[e];exact h.new j t hj ht,λt ht=>by rw[e];exact h.old t ht⟩
def pQ.seen(an:Aq nt p ops){fs gs:SC}{s':AS}(h:pQ s ops fs s')(hp:fs.length<p){o:Vp}(ho:ops[fs.length]?=some o){t:Nat}(ht:∀j,j<p->dc ops j=some t->j∈cY o):
  look (lw ops (λj=>(fs++gs).getD j (.val undef)) o++u7 s ops p) t=look s'.T t:=by
 have iP:=an.low fs.length o ho;have anU:∀j j',j<p->j'<p->dc ops j=some t->dc ops j'=some t->j'=j:=λj j' hj iW e e'=>by
  have get:∀i,i<p->∃o,ops[i]?=some o:=λi hi=>⟨_,Tj (Ug hi an.le)⟩;rcases YT j j' with hlt|hlt|hlt
  ·obtain⟨o',bl⟩:=get j' iW;exact absurd e (an.dV j' j o' t hlt iW bl (by simpa[dc,bl]using e'))
  ·exact hlt.symm
  ·obtain⟨o',bl⟩:=get j hj;exact absurd e' (an.dV j j' o' t hlt hj bl (by simpa[dc,bl]using e))
 rw[wb];by_cases hex:∃j,j<p/\dc ops j=some t;obtain⟨j,hj,xp⟩:=hex;have jW:=ht j hj xp;have fM:=iP j jW;rw[aph jW xp λj' iW e=>anU j j' hj (Xx (iP j' iW) hp) xp e];rw[h.new j t fM xp];simp[Tf,T6 fM,T4 fM];(have ew:∀j,j<p->dc ops j≠some t:=λj hj e=>hex ⟨j,hj,e⟩;rw[api λj hj=>ew j (Xx (iP j hj) hp),Option.none_or,Iw,if_pos (by simp only[Uq];intro j hj;simpa using ew j (by simpa using hj))];exact(h.old t λj hj=>ew j (by omega)).symm)
def I1(an:Aq nt p ops){K:SV}:∀(n:Nat)(fs:SC)(s':AS),fs.length+n=p->pQ s ops fs s'->nS lv P ops ((ops.toList.take p).drop fs.length) s' K->
  ∃gs,(fs++gs).length=p/\(∀i o,fs.length<=i->i<p->ops[i]?=some o->wC lv P r ops (u7 s ops p) s.H (λj=>(fs++gs).getD j (.val undef)) i o)/\∃dw,pQ s ops (fs++gs) dw/\K dw
 |0,fs,s',hn,hr,h=>by
  have:(ops.toList.take p).drop fs.length=[]:=by apply UX;simp;omega
  rw[this]at h;exact⟨[],by simp;omega,λi o h1 h2=>absurd h2 (by omega),s',by simpa using hr,h⟩
 |n+1,fs,s',hn,hr,h=>by
  have hp:fs.length<p:=by omega
  have a_:fs.length<ops.size:=Ug hp an.le;have ho:ops[fs.length]?=some ops[fs.length]:=Tj a_;generalize M_:ops[fs.length]=o at ho;have hd:(ops.toList.take p).drop fs.length=o::(ops.toList.take p).drop (fs.length+1):=by rw[UL (by simp;omega)];simp[M_]
  rw[hd]at h;have anb:∀t,ax6 t∈o.op.operands->∀j,j<p->dc ops j=some t->j∈cY o:=λt ht j hj e=>an.OK fs.length o t j hp ho ht hj e;have cw:∀(s1:AS)(gs:SC),pQ s ops fs s1->∀x∈o.op.operands,AS.ev s1 x=AS.ev ⟨lw ops (λj=>(fs++gs).getD j (.val undef)) o++u7 s ops p,s.H⟩ x:=λs1 gs Et x hx=>by
   cases x with
   |tmp t=>exact(Et.seen an hp ho (anb t hx)).symm
   |_=>rfl
  have go:∀(s1:AS),pQ s ops fs s1->(AQ lv P s1 o λav=>nS lv P ops ((ops.toList.take p).drop (fs.length+1)) (s1.put o.dst av) K)->
    ∃av gs,(fs++av::gs).length=p/\dH lv P r o ⟨lw ops (λj=>(fs++av::gs).getD j (.val undef)) o++u7 s ops p,s.H⟩ av/\(∀i o,fs.length+1<=i->i<p->ops[i]?=some o->wC lv P r ops (u7 s ops p) s.H (λj=>(fs++av::gs).getD j (.val undef)) i o)/\∃dw,pQ s ops (fs++av::gs) dw/\K dw:=λs1 Et h1=>by
   obtain⟨av0,_,_⟩:=h1.sound (r:=r);have da:s1=⟨s1.T,s.H⟩:=(by rw[<- Et.H]);rw[da]at h1;have h2:=AQ.congr (T':=lw ops (λj=>(fs++[]).getD j (.val undef)) o++u7 s ops p) (λx hx=>by rw[<- da];exact cw s1 [] Et x hx) h1;obtain⟨av,hq,h3⟩:=h2.sound (r:=r);obtain⟨gs,g1,g2,dw,g3,g4⟩:=I1 an n (fs++[av]) (s1.put o.dst av) (by simp;omega) (Et.put an hp ho av) (by rw[<- da]at h3;simpa using h3);have e:fs++[av]++gs=fs++av::gs:=(by simp);rw[e]at g1 g2 g3;refine⟨av,gs,g1,?_,λi o hi=>g2 i o (by simpa using hi),dw,g3,g4⟩;have ed:lw ops (λj=>(fs++av::gs).getD j (.val undef)) o=lw ops (λj=>(fs++[]).getD j (.val undef)) o:=by unfold lw;apply Sv;intro j hj;have fM:=an.low fs.length o ho j hj;simp[Tf,T6 fM]
   rw[ed];exact hq
  simp only[nS]at h;split at h;rename_i hg;obtain⟨av,gs,g1,g2,g3,g4⟩:=go s' hr h;refine⟨av::gs,g1,λi o' hi pt bl=> ?_,g4⟩;by_cases dL:i=fs.length;(subst dL;rw[ho]at bl;cases bl;unfold wC;rw[hg];simpa[Tf]using g2);exact g3 i o' (by omega) pt bl
  ·rename_i j cp hg;obtain⟨d,gY,hA⟩:=h.out;obtain⟨a,fN,hB⟩:=hA.out;have jW:=an.DF fs.length o j cp hp ho hg;have fM:=an.low fs.length o ho j jW;have Nq:∀gs,look (lw ops (λj=>(fs++gs).getD j (.val undef)) o++u7 s ops p) d=some a:=λgs=>by
    rw[hr.seen an hp ho λj' iW e=> ?_];exact fN
    ·have get:∀i,i<p->∃o,ops[i]?=some o:=λi hi=>⟨_,Tj (Ug hi an.le)⟩;rcases YT j j' with hlt|hlt|hlt
     ·obtain⟨o',bl⟩:=get j' iW;exact absurd gY (an.dV j' j o' d hlt iW bl (by simpa[dc,bl]using e))
     ·rw[<- hlt];exact jW
     ·obtain⟨o',bl⟩:=get j (by omega);exact absurd e (an.dV j j' o' d hlt (by omega) bl (by simpa[dc,bl]using gY))
   rcases hB with⟨b,e1,hC,hD⟩|⟨e1,hZ⟩
   rotate_left
   ·subst e1;obtain⟨gs,g1,g2,dw,g3,g4⟩:=I1 an n (fs++[.val undef]) _ (by simp;omega) (hr.put an hp ho (.val undef)) (by simpa using hZ);have e:fs++[.val undef]++gs=fs++ .val undef::gs:=(by simp);rw[e]at g1 g2 g3;refine⟨.val undef::gs,g1,λi o' hi pt bl=> ?_,dw,g3,g4⟩;by_cases dL:i=fs.length;subst dL;rw[ho]at bl;cases bl;unfold wC;rw[hg];exact⟨d,gY,.inr ⟨Nq _,by simp[Tf]⟩⟩;exact g2 i o' (by simp;omega) pt bl
   subst e1;by_cases hb:b=cp;subst hb;obtain⟨av,gs,g1,g2,g3,g4⟩:=go _ (hr.sW fN) (hC rfl);refine⟨av::gs,g1,λi o' hi pt bl=> ?_,g4⟩;by_cases dL:i=fs.length;subst dL;rw[ho]at bl;cases bl;unfold wC;rw[hg];refine⟨d,gY,.inl ⟨b,Nq _,λ_=>by simpa[Tf]using g2,λe=>by cases b<;>cases e⟩⟩;exact g3 i o' (by omega) pt bl;have de:b= !cp:=(by cases b<;>cases cp<;>simp_all);subst de;have h3:=hD rfl;obtain⟨gs,g1,g2,dw,g3,g4⟩:=I1 an n (fs++[.val undef]) _ (by simp;omega) ((hr.sW fN).put an hp ho (.val undef)) (by simpa using h3);have e:fs++[.val undef]++gs=fs++ .val undef::gs:=(by simp);rw[e]at g1 g2 g3;refine⟨.val undef::gs,g1,λi o' hi pt bl=> ?_,dw,g3,g4⟩;by_cases dL:i=fs.length;subst dL;rw[ho]at bl;cases bl;unfold wC;rw[hg];exact⟨d,gY,.inl ⟨!cp,Nq _,λe=>absurd e hb,λ_=>by simp[Tf]⟩⟩;exact g2 i o' (by simp;omega) pt bl
structure JN (E:Env)(V:View)(ops:Array Vp)(T0:List (Nat×AV))(H:SA)(f:Nat->AV)(X:SE)(a:Act)(nt:Nat):Prop where
 bx:Conc E V H
 base:cu E T0 a.tmps
 done:∀i∈X,∀d,dc ops i=some d->ay E (f i) (a.tmps.getD d undef)
 size:a.tmps.size=nt
def Cc{X:SE}(hX:∀i∈X,∀o,ops[i]?=some o->∀j∈cY o,j∈X){i j:Nat}(h:Reach ops i j):(∀o,ops[i]?=some o->∀k∈cY o,k∈X)->j∈X:=by
 induction h with
 |KV ho hj=>intro hd;exact hd _ ho _ hj
 |more ho hk _ ih=>intro hd;exact ih (hX _ (hd _ ho _ hk))
def asE(an:Aq nt p ops){X l:SE}(hs:l5 ops X l):∀q,p<=q->q<=ops.size->(∀i,i∈X<->i<q)->(∀i∈X,∀o,ops[i]?=some o->∀j∈cY o,j∈X)->l=U8 q (ops.size-q):=by
 induction hs with
 |nil X h=>
  intro q hp hq hX _;have:ops.size<=q:=by apply Uv;intro hn;have:=(hX q).1 (h q (by omega));omega
  have:ops.size-q=0:=by omega
  rw[this];rfl
 |cons o ho hn hd _ ih=>
  rename_i X i l _;intro q hp hq hX hc;have hi:i<ops.size:=(Tw.1 ho).1;have hiq:q<=i:=by apply Uv;intro h;exact hn ((hX i).2 (by omega))
  have hqi:i=q:=by apply Uv;intro aN;have:=Cc hc (an.suf i q (by omega) hi (by omega)) (λo' bl k hk=>by rw[ho]at bl;cases bl;exact hd k hk);have:=(hX q).1 this;omega
  subst hqi;have e:ops.size-i=(ops.size-(i+1))+1:=by omega
  rw[e,WL];congr 1;refine ih (i+1) (by omega) (by omega) (λk=> ?_) (λk hk o' bl j hj=> ?_);simp only[Tm,hX];omega;rcases Tm.1 hk with rfl|hk;rw[ho]at bl;cases bl;exact Ue _ (hd j hj);exact Ue _ (hc k hk o' bl j hj)
def aiM{T0:SH}{H:SA}{f:Nat->AV}(an:Aq nt p ops)(al2:∀j,j<p->∀d,dc ops j=some d->look T0 d=none)(aB:∀(i:Nat) o,i<p->ops[i]?=some o->wC lv P r ops T0 H f i o){X l:SE}(hs:l5 ops X l):
  (∀i∈X,i<p)->(∀i∈X,∀o,ops[i]?=some o->∀j∈cY o,j∈X)->∀(E:Env)(V:View)(a:Act)(Q:SJ),JN E V ops T0 H f X a nt->
   (∀E' V' a' X',Kept E E' V V' a a'->JN E' V' ops T0 H f X' a' nt->(∀i,i<p->i∈X')->dq lv P r ops Q (U8 p (ops.size-p)) a' V')->dq lv P r ops Q l a V:=by
 have full:∀X:SE,(∀i∈X,i<p)->(∀i,i<p->i∈X)->∀i,i∈X<->i<p:=λX h1 h2 i=>⟨h1 i,h2 i⟩;induction hs with
 |nil X h=>
  intro hX hc E V a Q ak hQ;have jn:p=ops.size:=by apply Uv;intro aN;have:=hX p (h p (by have:=an.le;omega));omega
  have:=hQ E V a X (Kept.refl E V a) ak (λi hi=>h i (by omega));rw[jn,WV]at this;exact this
 |cons o ho hn hd kX ih=>
  rename_i X i l;intro hX hc E V a Q ak hQ;have hi:i<ops.size:=(Tw.1 ho).1;by_cases pt:i<p
  ·simp only[dq,ho];have pj:∀k∈i::X,k<p:=λk hk=>(Tm.1 hk).elim (λe=>by rw[e];exact pt) (hX k);have bu:∀k∈i::X,∀o',ops[k]?=some o'->∀j∈cY o',j∈i::X:=λk hk o' bl j hj=>by rcases Tm.1 hk with rfl|hk;rw[ho]at bl;cases bl;exact Ue _ (hd j hj);exact Ue _ (hc k hk o' bl j hj)
   have tok:cu E (lw ops f o++T0) a.tmps:=by
    intro t av e;rw[wb]at e;cases hl:look (lw ops f o) t with
    |none=>rw[hl]at e;exact ak.base t av e
    |some x=>rw[hl]at e;cases e;obtain⟨j,hj,e⟩:=WM.1 (pF hl);obtain⟨d,cM,e⟩:=Uu.1 e;cases e;obtain⟨oj,kW,jC⟩:=Uj.1 cM;exact⟨by rw[ak.size];exact an.dst j oj _ kW jC,ak.done j (hd j hj) _ cM⟩
   have uc:dc ops i=o.dst:=(by simp[dc,ho]);have put:∀{E' V'}(v:T9),E.Le E'->Conc E' V' H->ay E' (f i) v->JN E' V' ops T0 H f (i::X) (a.put o.dst v) nt:=λ{E' V'} v hle cg hv=>by
    cases dC:o.dst with
    |none=>refine⟨cg,ak.base.mono hle,λk hk d dX=> ?_,ak.size⟩;rcases Tm.1 hk with rfl|hk;rw[uc,dC]at dX;cases dX;exact(ak.done k hk d dX).mono hle
    |some d0=>
     have hlt:d0<a.tmps.size:=(by rw[ak.size];exact an.dst i o d0 ho dC);refine⟨cg,λt av e=> ?_,λk hk d dX=> ?_,by simp[Zg,ak.size]⟩;(have aN:d0≠t:=λe'=>(by rw[<- e',al2 i pt d0 (by rw[uc,dC])]at e;cases e);have:=ak.base.mono hle t av e;exact⟨by simpa[Zg]using this.1,by simpa[Zg,Th,Tx aN]using this.2⟩)
     ·by_cases sI:k=i;(subst sI;rw[uc,dC]at dX;cases dX;simpa[Zg,Th,Ud hlt]using hv)
      ·have aO:k∈X:=(Tm.1 hk).resolve_left sI;have aN:d0≠d:=λe'=>by
        subst e';have hkp:=hX k aO;have get:∀i,i<p->∃o,ops[i]?=some o:=λi hi=>⟨_,Tj (Ug hi an.le)⟩;rcases YT k i with hlt|hlt|hlt
        ·exact an.dV i k o d0 hlt pt ho dC dX
        ·exact sI hlt
        ·obtain⟨o',bl⟩:=get k hkp;exact an.dV k i o' d0 hlt hkp bl (by simpa[dc,bl]using dX) (by rw[uc,dC])
       have:=(ak.done k aO d dX).mono hle;simpa[Zg,Th,Tx aN]using this
   have go:dH lv P r o ⟨lw ops f o++T0,H⟩ (f i)->yi lv P r o a V (dq lv P r ops Q l) Q:=λhq=>hq E V a _ Q ak.bx tok (.inr (an.wW i o ho)) λE' V' v hle cr fB cg hv=>ih pj bu E' V' (a.put o.dst v) Q (put v hle cg hv) λbZ aZ cD nh hk dt fL=>hQ bZ aZ cD nh ⟨hle.trans hk.le,hk.size.trans (ek _ _ _),hk.defers.trans (put_defers _ _ _),hk.role.trans cr,hk.deaf.trans fB⟩ dt fL
   have Br:=aB i o pt ho;unfold wC at Br;split at Br;rename_i Ec;have hw:Uo o (yielded ops a.tmps)=true:=(by unfold Uo;rw[Ec]);rw[if_pos hw];exact .inl (go Br)
   ·rename_i j cp Ec;obtain⟨d,gY,Br⟩:=Br;rcases Br with⟨b,bf,h1,h2⟩|⟨bf,hu⟩
    rotate_left
    ·obtain⟨hlt,hv⟩:=tok d _ bf;have hy:yielded ops a.tmps j≠some cp:=by obtain⟨oj,kW,jC⟩:=Uj.1 gY;generalize hx:a.tmps.getD d undef=x at hv;cases hv;rw[Th,Tj hlt]at hx;simp only[T_]at hx;simp[yielded,kW,jC,Tj hlt,hx,undef]
     have hw:¬Uo o (yielded ops a.tmps)=true:=by unfold Uo;rw[Ec];intro h;exact hy (by simpa using h)
     rw[if_neg hw];exact ih pj bu E V (a.put o.dst undef) Q (put undef (Env.Le.refl E) ak.bx (by rw[hu];exact .val _)) λbZ aZ cD nh hk dt fL=>hQ bZ aZ cD nh ⟨hk.le,hk.size.trans (ek _ _ _),hk.defers.trans (put_defers _ _ _),hk.role,hk.deaf⟩ dt fL
    obtain⟨hlt,hv⟩:=tok d _ bf;have hy:yielded ops a.tmps j=some b:=by obtain⟨oj,kW,jC⟩:=Uj.1 gY;generalize hx:a.tmps.getD d undef=x at hv;cases hv;rw[Th,Tj hlt]at hx;simp only[T_]at hx;simp[yielded,kW,jC,Tj hlt,hx]
    by_cases hb:b=cp;have hw:Uo o (yielded ops a.tmps)=true:=(by unfold Uo;rw[Ec];simp[hy,hb]);rw[if_pos hw];exact .inl (go (h1 hb));(have hw:¬Uo o (yielded ops a.tmps)=true:=(by unfold Uo;rw[Ec];simp[hy,hb]);rw[if_neg hw];have hu:=h2 (by cases b<;>cases cp<;>simp_all);exact ih pj bu E V (a.put o.dst undef) Q (put undef (Env.Le.refl E) ak.bx (by rw[hu];exact .val _)) λbZ aZ cD nh hk dt fL=>hQ bZ aZ cD nh ⟨hk.le,hk.size.trans (ek _ _ _),hk.defers.trans (put_defers _ _ _),hk.role,hk.deaf⟩ dt fL)
  ·have fL:∀k,k<p->k∈X:=λk hk=>Cc hc (an.suf i k (by omega) hi (by omega)) (λo' bl j hj=>by rw[ho]at bl;cases bl;exact hd j hj);have hl:=asE an (.cons o ho hn hd kX) p (Tv _) an.le (full X hX fL) hc;rw[hl];exact hQ E V a X (Kept.refl E V a) ak fL
def ahc{id:Nat}{Φ:SI}(hm:P.follows .mixedOrders=true)(p:Nat)(an:AT nt p ops=true)(h:nS lv P ops (ops.toList.take p) s (λs'=>iU lv P ops (ops.toList.drop p) s' (Φ .normal) (λpv s=>Φ (.panic pv) s))):aW lv P r nt (.region id ops true) s Φ:=by
 intro E V a Q ak hQ;have an:=AT.out an;obtain⟨gs,g1,g2,dw,g3,g4⟩:=I1 (lv:=lv) (r:=r) an p [] s (by simp) ⟨rfl,by simp,by simp⟩ (by simpa using h);simp only[Vv]at g1 g2 g3;refine PT λt=> ?_;rw[show W6 (P.follows .mixedOrders) ops t=VC .any ops ops.size t (US ops.size false) [] by unfold W6;rw[hm];simp[ag2]];have hs:=acs (ops:=ops) (λi o ho j hj=>an.low i o ho j hj) ops.size t (US ops.size false) [] ⟨by simp,λi hi=>by simp[hi]⟩ (UJ aa3 (by simp));refine aiM (T0:=u7 s ops p) (H:=s.H) an (λj hj d hd=> ?_) (λi o hi ho=>g2 i o (by simp) hi ho) hs (by simp) (by simp) E V a Q ⟨ak.bx,λt av e=> ?_,by simp,ak.size⟩ λE' V' a' X' hk aX fL=> ?_
 ·rw[Iw,if_neg];simp only[Uq];intro h;have:=h j (by simpa using hj);rw[hd]at this;simp at this
 ·rw[Iw]at e;split at e;exact ak.tok t av e;cases e
 ·refine B4 (Φ:=Φ) (λo ho d e=> ?_) (λo ho=> .inr ?_) (ops.size-p) p dw (by have:=an.le;omega) g4 E' V' a' Q ⟨by rw[g3.H];exact aX.bx,λt av e=> ?_,aX.size⟩ (λae e bZ aZ cD s3 aO rk he hΦ=>hQ ae e bZ aZ cD s3 (hk.trans aO) rk he hΦ);obtain⟨i,hi⟩:=ZP.1 ho;exact an.dst i o d hi e;obtain⟨i,hi⟩:=ZP.1 ho;exact an.wW i o hi;by_cases hex:∃j,j<p/\dc ops j=some t;(obtain⟨j,hj,xp⟩:=hex;rw[g3.new j t (by omega) xp]at e;obtain⟨oj,kW,jC⟩:=Uj.1 xp;refine⟨by rw[aX.size];exact an.dst j oj t kW jC,?_⟩;have:=aX.done j (fL j hj) t xp;simpa[Tf,e]using this);(have ew:∀j,j<p->dc ops j≠some t:=λj hj e=>hex ⟨j,hj,e⟩;rw[g3.old t λj hj=>ew j (by omega)]at e;refine aX.base t av ?_;rw[Iw,if_pos (by simp only[Uq];intro j hj;simpa using ew j (by simpa using hj))];exact e)
end
def tD (T base Vn:SH):Prop:=T.drop (T.length-base.length)=base/\((T.take (T.length-base.length)).all λp=>(Vn.any λq=>q.1==p.1)|| !(base.any λq=>q.1==p.1))=true
def agA{l:SH}{t:Nat}{a:AV}(h:look l t=some a):(l.any λq=>q.1==t)=true:=VP.2 ⟨_,pF h,by simp⟩
def Ol{l:SH}{t:Nat}(h:(l.any λq=>q.1==t)=true):∃a,look l t=some a:=by
 induction l with
 |nil=>cases h
 |cons x l ih=>obtain⟨k,b⟩:=x;simp only[look];split;exact⟨b,rfl⟩;(rename_i aN;refine ih ?_;simpa[Z3,aN]using h)
def tD.look{T base Vn:SH}(h:tD T base Vn){t:Nat}{a:AV}(hb:look base t=some a)(hv:look Vn t=none):look T t=some a:=by
 obtain⟨h1,h2⟩:=h;have e:T=T.take (T.length-base.length)++base:=by have:=(W2 (T.length-base.length) T).symm;rwa[h1]at this
 rw[e,wb];cases hl:Gg.look (T.take (T.length-base.length)) t with
 |none=>exact hb
 |some x=>exfalso;have:=Uq.1 h2 _ (pF hl);simp only[XP,UV]at this;rcases this with this|this;obtain⟨y,hy⟩:=Ol this;rw[hv]at hy;cases hy;rw[agA hb]at this;cases this
def sd (base Vi Vn:SH)(Hn:SA)(s':AS):Prop:=
 tD s'.T (Vi++base) Vn/\(∀p∈Vn,∃b,look s'.T p.1=some b/\Wk b p.2)/\∃G,s'.H=Hn++G/\(G=[]\/(bJ Hn/\∀p∈Vn,Lt Hn.length p.2))
section
variable {lv:Bool}{P:Tl}{r:SL}{s:AS}
def AD{nt:Nat}{α:Type}{lt:α->α->Prop}(wf:WellFounded lt){c:U5}{Φ:SI}(V:α->SH)(Hf:α->SA)(ok:α->Prop)(m0:α)
  (vL:∀m m',(V m).map (·.1)=(V m').map (·.1)) (ik:∀p∈V m0,∃b,look s.T p.1=some b/\Wk b p.2) (vr:Hf m0=s.H) (hl:∀m,ok m->(Hf m).length=s.H.length) (hm:ok m0)
  (h:bJ s.H->(∀t a,look s.T t=some a->Lt s.H.length a)->∀m,ok m->∀R:SV,(∀s',(∃m',lt m' m/\ok m'/\sd s.T (V m) (V m') (Hf m') s')->R s')->aW lv P r nt c ⟨V m++s.T,Hf m⟩ (ap.then R Φ)):aW lv P r nt (.loop c) s Φ:=by
 have same:∀m m' t,look (V m) t=none->look (V m') t=none:=λm m' t h=>Om λp hp e=>by have h1:p.1∈(V m').map (·.1):=Uh.2 ⟨p,hp,rfl⟩;rw[vL m' m]at h1;obtain⟨q,hq,e'⟩:=Uh.1 h1;have h2:((V m).any λx=>x.1==t)=true:=VP.2 ⟨q,hq,by simp[e',e]⟩;obtain⟨a,ha⟩:=Ol h2;rw[h]at ha;cases ha
 intro E V0 a Q ak hQ;have hlt:∀t a,look s.T t=some a->Lt s.H.length a:=λt x e=>by rw[<- ak.bx.n];exact(ak.tok t x e).2.lt
 have h0:s.Sub ⟨V m0++s.T,Hf m0⟩:=⟨λt x e=>by
  rw[wb]at e;cases hl:look (V m0) t with
  |none=>rw[hl]at e;exact⟨x,e,Wk.refl x⟩
  |some y=>rw[hl]at e;cases e;exact ik (t,x) (pF hl),vr.symm⟩
 refine QI wf (s:=s) (λm=>⟨V m++s.T,Hf m⟩) ok m0 h0 hm (λm an=>by rw[hl m an];exact Tv _) (λm an=> ?_) E V0 a Q ak hQ;refine(h ak.bx.an hlt m an _ λ_ h=>h).mono λe s' hΦ=> ?_;cases e with
 |normal=>
  obtain⟨m',q1,q2,hk,hv,G,hG,ue⟩:=hΦ;have tok:∀t x,look (V m'++s.T) t=some x->∃b,look s'.T t=some b/\Wk b x/\(look (V m') t=some x\/look s.T t=some x):=λt x e=>by
   rw[wb]at e;cases hl:look (V m') t with
   |none=>rw[hl]at e;have hb:look (V m++s.T) t=some x:=(by rw[wb,same m' m t hl];exact e);exact⟨x,hk.look hb hl,Wk.refl x,.inr e⟩
   |some y=>rw[hl]at e;cases e;obtain⟨b,h1,h2⟩:=hv (t,x) (pF hl);exact⟨b,h1,h2,.inl rfl⟩
  refine⟨m',q1,q2,?_⟩;rcases ue with rfl|⟨oB,MV⟩;exact .inl ⟨λt x e=>by obtain⟨b,h1,h2,_⟩:=tok t x e;exact⟨b,h1,h2⟩,by rw[hG,Ts]⟩;refine .inr ⟨λt x e=> ?_,⟨G,hG⟩,oB⟩;obtain⟨b,h1,h2,h3⟩:=tok t x e;refine⟨b,h1,h2,?_⟩;rcases h3 with h3|h3;exact MV (t,x) (pF h3);show Lt (Hf m').length x;rw[hl m' q2];exact hlt t x h3
 |_=>exact hΦ
def gU{nt:Nat}{c:U5}{Φ:SI}(n:Nat)(V:Nat->SH)(Hf:Nat->SA)(ok:S7)
  (vL:∀m m',(V m).map (·.1)=(V m').map (·.1)) (ik:∀p∈V 0,∃b,look s.T p.1=some b/\Wk b p.2) (vr:Hf 0=s.H) (hl:∀m,m<=n->ok m->(Hf m).length=s.H.length) (hm:ok 0)
  (h:bJ s.H->(∀t a,look s.T t=some a->Lt s.H.length a)->∀m,m<=n->ok m->∀R:SV,(∀s',(m<n/\ok (m+1)/\sd s.T (V m) (V (m+1)) (Hf (m+1)) s')->R s')->aW lv P r nt c ⟨V m++s.T,Hf m⟩ (ap.then R Φ)):aW lv P r nt (.loop c) s Φ:=by
 refine AD (measure λi=>n-i).wf V Hf (λi=>i<=n/\ok i) 0 vL ik vr (λm h=>hl m h.1 h.2) ⟨YS _,hm⟩ (λh1 h2 m an R hR=> ?_);exact h h1 h2 m an.1 an.2 R λs' ⟨q1,q2,q3⟩=>hR s' ⟨m+1,(by show n-(m+1)<n-m;omega),⟨q1,q2⟩,q3⟩
end
def oI{T base Vn:SH}(h1:T.drop (T.length-base.length)=base)(h2:((T.take (T.length-base.length)).all λp=>(Vn.any λq=>q.1==p.1)|| !(base.any λq=>q.1==p.1))=true):tD T base Vn:=⟨h1,h2⟩
def cW{H L:SA}{x:T9}{k:SF}(hH:bJ H)(h:k (.val x) H):cz H.length (H++L) (.val x) k:=jy (Wk.refl _) rfl (Tv _) hH (.val x) h
def dS{H L:SA}{a b:AV}{k:SF}(hH:bJ H)(hw:Wk a b)(hl:Lt H.length b)(h:k b H):cz H.length (H++L) a k:=jy hw rfl (Tv _) hH hl h
def aa.cellsOf:aa->Option (SC)
 |.cells l _|.part _ l _|.own _ l _=>some l
 |_=>none
def aia(l:SC)(e:TypeId):aa.cellsOf (.cells l e)=some l:=rfl
def aic(p:Nat)(l:SC)(e:TypeId):aa.cellsOf (.part p l e)=some l:=rfl
def aa.rowOf:aa->Option (SC)
 |.cells l _|.part _ l _|.own _ l _=>some l
 |_=>none
def ash(l:SC)(e:TypeId):aa.rowOf (.cells l e)=some l:=rfl
def aib(p:Nat)(l:SC)(e:TypeId):aa.cellsOf (.own p l e)=some l:=rfl
def asi(p:Nat)(l:SC)(e:TypeId):aa.rowOf (.own p l e)=some l:=rfl
def asj(p:Nat)(l:SC)(e:TypeId):aa.rowOf (.part p l e)=some l:=rfl
def ag9(T:SH)(H:SA)(i off:Nat):AS.at ⟨T,H⟩ (.op i off)=((H[i]?).bind aa.cellsOf).map λl=>l.drop off:=by
 simp only[AS.at];cases H[i]?with
 |none=>rfl
 |some x=>cases x<;>rfl
def aqK(k:UZ)(n:Int):AV.parts (.val (.int k n))=some [.val (.int k n)]:=rfl
def aqG(b:Bool):AV.parts (.val (.bool b))=some [.val (.bool b)]:=rfl
def aqU(b:ByteArray):AV.parts (.val (.string b))=some [.val (.string b)]:=rfl
def aqR(b:TA):AV.parts (.val (.pointer b))=some [.val (.pointer b)]:=rfl
def aqN:AV.parts (.val .nilFunc)=some [.val .nilFunc]:=rfl
def aqO:AV.parts (.val .nilIface)=some [.val .nilIface]:=rfl
def aqL(r:SL):AV.parts (.val (.map r))=some [.val (.map r)]:=rfl
def aqF(l:SC):AV.parts (.agg l)=some l:=rfl
def aqT(n:Nat)(l:SC)(e:End):AV.parts (.sl n l e)=some [.sl n l e]:=rfl
def ao0(n:Nat)(l:SC)(e:End):AV.len (.sl n l e)=some n:=by rw[AV.len]
def aoZ(i o n c:Nat):AV.len (.bB i o n c)=some n:=by rw[AV.len]
attribute [seval] ao0 aoZ
def aqQ(i o n c:Nat):AV.parts (.bB i o n c)=some [.bB i o n c]:=rfl
def aqS(l:SC):AV.parts (.rp l)=some [.rp l]:=rfl
def aqP(i o:Nat):AV.parts (.op i o)=some [.op i o]:=rfl
def aqI(f:Fn)(l m:SC):AV.parts (.fn f l m)=some [.fn f l m]:=rfl
def aqJ(t:TypeId)(a:AV):AV.parts (.bY t a)=some [.bY t a]:=rfl
def aqM(i:Nat):AV.parts (.mp i)=some [.mp i]:=rfl
def aoJ(k:UZ)(n:Int):AV.leaf (.val (.int k n))=true:=rfl
def aoF(b:Bool):AV.leaf (.val (.bool b))=true:=rfl
def aoU(b:ByteArray):AV.leaf (.val (.string b))=true:=rfl
def aoR(b:TA):AV.leaf (.val (.pointer b))=true:=rfl
def aoM:AV.leaf (.val .nilFunc)=true:=rfl
def aoN:AV.leaf (.val .nilIface)=true:=rfl
def aoK(r:SL):AV.leaf (.val (.map r))=true:=rfl
def aoT(n:Nat)(l:SC)(e:End):AV.leaf (.sl n l e)=true:=rfl
def aoQ(i o n c:Nat):AV.leaf (.bB i o n c)=true:=rfl
def aoS(l:SC):AV.leaf (.rp l)=true:=rfl
def aoP(i o:Nat):AV.leaf (.op i o)=true:=rfl
def aoH(f:Fn)(l m:SC):AV.leaf (.fn f l m)=true:=rfl
def aoI(t:TypeId)(a:AV):AV.leaf (.bY t a)=true:=rfl
def aoL(i:Nat):AV.leaf (.mp i)=true:=rfl
def ap9(k:UZ)(n:Int):AV.qG (.int k n)=.val (.int k n):=rfl
def ap6(b:Bool):AV.qG (.bool b)=.val (.bool b):=rfl
def aqc:AV.qG (.slice none 0 0)=.sl 0 [] .exact:=rfl
def ap7:AV.qG .nilFunc=.val .nilFunc:=rfl
def ap8:AV.qG .nilIface=.val .nilIface:=rfl
def aqb(a:TA):AV.qG (.pointer a)=.val (.pointer a):=rfl
def aqa(a:SL):AV.qG (.map a)=.val (.map a):=rfl
def avq(l:S6):my (.agg l.toArray)=l.map AV.qG:=by simp[my,Y8]
def avw(k:UZ)(n:Int):my (.int k n)=[.val (.int k n)]:=rfl
def avr(b:Bool):my (.bool b)=[.val (.bool b)]:=rfl
def avz:my (.slice none 0 0)=[.sl 0 [] .exact]:=rfl
def avu:my .nilFunc=[.val .nilFunc]:=rfl
def avv:my .nilIface=[.val .nilIface]:=rfl
def avy(a:TA):my (.pointer a)=[.val (.pointer a)]:=rfl
def avx(a:SL):my (.map a)=[.val (.map a)]:=rfl
def ajs(s:AS):kB s []=some []:=rfl
def ajr(s:AS)(i:Nat)(x:Up)(l:List (Nat×Up)):kB s ((i,x)::l)=(s.ev x).bind λa=>(kB s l).map λaL=>(i,a)::aL:=by
 simp only[kB];cases s.ev x with
 |none=>rfl
 |some a=>cases kB s l<;>rfl
def akU(p:Nat->S9)(c:SC):o6 p c []=some c:=rfl
def akT(p:Nat->S9)(c:SC)(i:Nat)(a:AV)(r:SH):o6 p c ((i,a)::r)=(p i).bind λx=>(a.parts).bind λlp=>if lp.length≠x.2\/x.1+lp.length>c.length then none else o6 p (iT c x.1 lp) r:=by
 simp only[o6];cases p i with
 |none=>rfl
 |some x=>cases a.parts<;>rfl
def aq3(l:List (Nat×Nat))(i:Nat):h_.at (.fields l) i=l[i]?:=rfl
def aq2(sz i:Nat):h_.at (.elems sz) i=some (i* sz,sz):=rfl
def avo(z:T9):gF z 0=[]:=rfl
def ato(s:AS)(sz m:Nat)(l:SC)(e:End):s.src sz (.sl m l e)=some (m,l.take (m* sz)):=rfl
def atn(T:SH)(H:SA)(sz i off m c:Nat):AS.src ⟨T,H⟩ sz (.bB i off m c)=((H[i]?).bind aa.rowOf).map λl=>(m,(l.drop off).take (m* sz)):=by
 simp only[AS.src];cases H[i]?with
 |none=>rfl
 |some x=>cases x<;>rfl
def ag0(n:Nat)(l:SC)(e:End)(kO:Nat->Nat->Nat->S7)(k:TG):AV.qW (.sl n l e) kO k=k n l e:=by rw[AV.qW]
def agZ(i o n c:Nat)(kO:Nat->Nat->Nat->S7)(k:TG):AV.qW (.bB i o n c) kO k=kO i o n c:=by rw[AV.qW]
def agD:type_of% @uQ.eq_1:=by intros;rw[uQ.eq_1]
def agB(s:AS)(dst:SL)(next:SV)(n m sz:Nat)(elem:TypeId)(l l':SC):CC s dst next n m sz elem l l' .exact=next ((⟨s.T,s.H++[.tail (n+m) sz elem]⟩:AS).put dst (.sl (n+m) (l++l') (.opn s.H.length))):=rfl
def agC(s:AS)(dst:SL)(next:SV)(n m sz:Nat)(elem:TypeId)(l l':SC)(k:Nat):CC s dst next n m sz elem l l' (.opn k)=((match s.H[k]?with
   |some (.tail n' eQ gW)=>n'=n/\eQ=sz/\gW=elem
   |_=>False)/\(∀a∈l',a.leaf=true)/\next ((⟨s.T,s.H.set k (.tail (n+m) sz elem)⟩:AS).put dst (.sl (n+m) (l++l') (.opn k)))):=rfl
def ar7(P:Tl)(T:SH)(H:SA)(b t:Nat):wl P ⟨T,H⟩ (.cell b t)=(look T b).bind λp=>((⟨T,H⟩:AS).at p).bind λl=>(Ty P t).bind λx=>if x.2 then(if x.1<=l.length then some (.agg (l.take x.1))else none)else l[0]?:=rfl
section
variable {lv:Bool}{P:Tl}{s s':AS}
@[congr] theorem awE {α : Type} {x y : Option α} {k : α -> Prop} (h : x = y) : au x k = au y k := by rw[h]
@[congr] theorem avN {a b : AV} {k : Bool -> Prop} (h : a = b) : AV.asBool a k = AV.asBool b k := by rw[h]
@[congr] theorem avO {a b : AV} {k : UZ -> Int -> Prop} (h : a = b) : AV.asInt a k = AV.asInt b k := by rw[h]
@[congr] theorem avT {a b : AV} {k : SC -> Prop} (h : a = b) : AV.yr a k = AV.yr b k := by rw[h]
@[congr] theorem avM {a b : AV} {k : SC -> Prop} (h : a = b) : AV.asAgg a k = AV.asAgg b k := by rw[h]
@[congr] theorem avQ {a b : AV} {k : Nat -> Nat -> Prop} (h : a = b) : AV.qV a k = AV.qV b k := by rw[h]
@[congr] theorem avP {a b : AV} {k : Nat -> Prop} (h : a = b) : AV.tL a k = AV.tL b k := by rw[h]
@[congr] theorem avS {a b : AV} {k : Nat -> SC -> End -> Prop} (h : a = b) : AV.wO a k = AV.wO b k := by rw[h]
@[congr] theorem avR {a b : AV} {kO : Nat -> Nat -> Nat -> Nat -> Prop} {k : Nat -> SC -> End -> Prop} (h : a = b) : AV.qW a kO k = AV.qW b kO k := by rw[h]
@[congr] theorem avK {H H' : SA} {k : AV -> SA -> Prop} {id pD off Fh n n' c0 Q4 m m' sz : Nat} {elem : TypeId} {l l' : SC} (h0 : H = H') (h1 : id = pD) (h2 : off = Fh) (h3 : n = n') (h4 : c0 = Q4) (h5 : m = m') (h6 : l = l') : uQ H k id off n c0 m sz elem l = uQ H' k pD Fh n' Q4 m' sz elem l' := by rw[h0, h1, h2, h3, h4, h5, h6]
@[congr] theorem avC {op : Xl} {t : TypeId} {a a' b b' : AV} {k : AV -> Prop} (h : a = a') (h' : b = b') : dx P op t a b k = dx P op t a' b' k := by rw[h, h']
@[congr] theorem avB {s' : AS} {op : Xl} {t : TypeId} {y : Up} {a a' : AV} {k : AV -> Prop} (hs : s = s') (h : a = a') : jb P s op t y a k = jb P s' op t y a' k := by rw[hs, h]
@[congr] theorem avF {a b : AV} {k : AV -> Prop} (h : a = b) : mZ P a k = mZ P b k := by rw[h]
@[congr] theorem avA {t : TypeId} {ok : Bool} {a b : AV} {k : AV -> Prop} (h : a = b) : CA P t ok a k = CA P t ok b k := by rw[h]
@[congr] theorem avE {t : TypeId} {a b : AV} {k : AV -> Prop} (h : a = b) : qO P s t a k = qO P s t b k := by rw[h]
@[congr] theorem avI {t : TypeId} {a b : AV} {x y z : Option Int} {k : AV -> Prop} (h : a = b) : tw P t a x y z k = tw P t b x y z k := by rw[h]
@[congr] theorem avG {o : Vp} {k : AV -> Prop} (h : s = s') : lZ P s o k = lZ P s' o k := by rw[h]
@[congr] theorem avL {o : Vp} {k : AV -> Prop} (h : s = s') : AQ lv P s o k = AQ lv P s' o k := by rw[h]
@[congr] theorem avJ {o : Vp} {next : AS -> Prop} {bad : AV -> AS -> Prop} (h : s = s') : m8 lv P s o next bad = m8 lv P s' o next bad := by rw[h]
@[congr] theorem avH {all : Array Vp} {l : List Vp} {next : AS -> Prop} {bad : AV -> AS -> Prop} (h : s = s') : iU lv P all l s next bad = iU lv P all l s' next bad := by rw[h]
@[congr] theorem awG {all : Array Vp} {l l' : List Vp} {K : AS -> Prop} (hl : l = l') (h : s = s') : nS lv P all l s K = nS lv P all l' s' K := by rw[hl, h]
@[congr] theorem avW {r : Option Nat} {nt : Nat} {c : U5} {Φ : ap -> AS -> Prop} (h : s = s') : aW lv P r nt c s Φ = aW lv P r nt c s' Φ := by rw[h]
@[congr] theorem awN {K : AS -> Prop} {Φ : ap -> AS -> Prop} {e e' : ap} (he : e = e') (h : s = s') : ap.then K Φ e s = ap.then K Φ e' s' := by rw[he, h]
@[congr] theorem awB {i : Nat} {Φ : ap -> AS -> Prop} {e e' : ap} (he : e = e') (h : s = s') : ap.inBlock i Φ e s = ap.inBlock i Φ e' s' := by rw[he, h]
end
def af0:type_of% @iU.eq_1:=by intros;rw[iU.eq_1]
def afZ:type_of% @iU.eq_2:=by intros;rw[iU.eq_2]
def af6:type_of% @m8.eq_1:=by intros;rw[m8.eq_1]
def afY:type_of% @lZ.eq_1:=by intros;rw[lZ.eq_1]
def arc:type_of% @nS.eq_1:=by intros;rw[nS.eq_1]
def arb:type_of% @nS.eq_2:=by intros;rw[nS.eq_2]
def af1:type_of% @AQ.eq_1:=by intros;rw[AQ.eq_1]
def ar4:type_of% @iF.eq_1:=by intros;rw[iF.eq_1]
def ar3:type_of% @iF.eq_2:=by intros;rw[iF.eq_2]
def ar6:type_of% @jr.eq_1:=by intros;rw[jr.eq_1]
def aju:type_of% @fJ.eq_1:=by intros;rw[fJ.eq_1]
def ajt:type_of% @fJ.eq_2:=by intros;rw[fJ.eq_2]
def afC:type_of% @CA.eq_1:=by intros;rw[CA.eq_1]
def aq7:type_of% @iT.eq_1:=by intros;rw[iT.eq_1]
def ar5:jr []=.aJ []:=by rw[jr];simp
def adF(a b:AV)(l:SC):jr (a::b::l)=.aJ (a::b::l):=by rw[jr];simp
def at1(l:SC):(AV.rp l).sure=true:=by simp[AV.sure]
def atZ(i j:Nat):(AV.op i j).sure=true:=by simp[AV.sure]
def atV(f:UR)(x y:SC):(AV.fn (.func f) x y).sure=true:=by simp[AV.sure]
def atW(t:TypeId)(x:AV):(AV.bY t x).sure=true:=by simp[AV.sure]
def afU(P:Tl)(k:SP)(name:String)(t:TypeId)(av:AV):mZ P (.fn (.method name) [.bY t av] []) k=(JX P t name/\k (.fn (.method name) [.bY t av] [])):=by rw[mZ]
def afW(P:Tl)(k:SP)(l:SC):mZ P (.rp l) k=k (.rp l):=by simp[mZ,AV.sure]
def afV(P:Tl)(k:SP)(i j:Nat):mZ P (.op i j) k=k (.op i j):=by simp[mZ,AV.sure]
def afS(P:Tl)(k:SP)(f:UR)(x y:SC):mZ P (.fn (.func f) x y) k=k (.fn (.func f) x y):=by simp[mZ,AV.sure]
def afX(P:Tl)(k:SP)(f)(x y:SC):mZ P (.fn (.yield f) x y) k=k (.fn (.yield f) x y):=by simp[mZ,AV.sure]
def afT(P:Tl)(k:SP)(t:TypeId)(x:AV):mZ P (.bY t x) k=k (.bY t x):=by simp[mZ,AV.sure]
def afM(P:Tl)(s:AS)(op:Xl)(xt:TypeId)(t:Nat)(a:AV)(k:SP):jb P s op xt (.tmp t) a k=au (s.ev (.tmp t)) λb=>dx P op xt a b k:=by rw[jb]<;>(intros;simp_all)
def afH(P:Tl)(s:AS)(op:Xl)(xt:TypeId)(j:UZ)(m:Int)(a:AV)(k:SP):jb P s op xt (.const (.int j m)) a k=au (s.ev (.const (.int j m))) λb=>dx P op xt a b k:=by rw[jb]<;>(intros;simp_all)
def afE(P:Tl)(s:AS)(op:Xl)(xt:TypeId)(c:Bool)(a:AV)(k:SP):jb P s op xt (.const (.bool c)) a k=au (s.ev (.const (.bool c))) λb=>dx P op xt a b k:=by rw[jb]<;>(intros;simp_all)
def afL(P:Tl)(s:AS)(op:Xl)(xt:TypeId)(c:ByteArray)(a:AV)(k:SP):jb P s op xt (.const (.string c)) a k=au (s.ev (.const (.string c))) λb=>dx P op xt a b k:=by rw[jb]<;>(intros;simp_all)
def afD(P:Tl)(s:AS)(op:Xl)(xt:TypeId)(c:SG)(a:AV)(k:SP):jb P s op xt (.const (.agg c)) a k=au (s.ev (.const (.agg c))) λb=>dx P op xt a b k:=by rw[jb]<;>(intros;simp_all)
def afK(P:Tl)(s:AS)(op:Xl)(xt:TypeId)(c:TA)(a:AV)(k:SP):jb P s op xt (.const (.pointer c)) a k=au (s.ev (.const (.pointer c))) λb=>dx P op xt a b k:=by rw[jb]<;>(intros;simp_all)
def afI(P:Tl)(s:AS)(op:Xl)(xt:TypeId)(c:TA)(m n:Nat)(a:AV)(k:SP):jb P s op xt (.const (.slice c m n)) a k=au (s.ev (.const (.slice c m n))) λb=>dx P op xt a b k:=by rw[jb]<;>(intros;simp_all)
def afJ(P:Tl)(s:AS)(op:Xl)(xt:TypeId)(k:SP):jb P s op xt (.const .nilIface) (.val .nilIface) k=(lR P xt=some true/\(op=.eql\/op=.neq)/\k (.val (.bool (if op== .neq then false else true)))):=by rw[jb]
def afG(P:Tl)(s:AS)(op:Xl)(xt t:TypeId)(x:AV)(k:SP):jb P s op xt (.const .nilIface) (.bY t x) k=(lR P xt=some true/\(op=.eql\/op=.neq)/\k (.val (.bool (if op== .neq then true else false)))):=by rw[jb]
def ajd:((ZH== .neq)=false):=rfl
def apS:((Xh== .neq)=true):=rfl
def alm(z:T9):AV.found z true none=.aJ [AV.of z,.val (.bool false)]:=by rw[AV.found];simp
def aln(z:T9)(x:Nat×T9):AV.found z true (some x)=.aJ [AV.of x.2,.val (.bool true)]:=by rw[AV.found];simp
attribute [seval] alm aln
attribute [seval] afM afH afE afL afD afK afI afJ afG ajd apS
attribute [seval] arN arO LI LH LF LD xN ajq ajh ajl ajj ajp ajm ajn aji ajk apk apl aq9 aq8 aun aup aul aum auo ahT ahV ahQ ahU ahR ahS alk ali alj ar9 agU agW ag4 agS agY agX ag1 ag0 agZ agD af7 agm agh af9 Qi agf age agb aga true_and and_true Option.bind_some List.getElem?_toArray List.getElem?_cons_succ List.getElem?_cons_zero Bool.not_true Bool.not_false true_implies false_implies if_true if_false aha as7 as8 as9 asm asl List.drop_succ_cons List.drop_zero List.take_succ_cons List.take_zero List.cons_append List.nil_append List.length_cons List.length_nil Int.toNat_natCast decide_eq_true_eq decide_eq_false_iff_not Bool.not_eq_true' Bool.not_eq_false' Bool.not_eq_eq_eq_not ag9 aia aic ash asj asi aib Option.map_some wL agF wM agJ agE agI Nat.zero_add List.set_cons_zero List.set_cons_succ aqK aqG aqU aqR aqN aqO aqL aqF aqT aqQ aqS aqP aqI aqJ aqM List.forall_mem_cons List.not_mem_nil false_imp_iff implies_true aoJ aoF aoU aoR aoM aoN aoK aoT aoQ aoS aoP aoH aoI aoL ap9 ap6 aqc ap7 ap8 aqb aqa avq avw avr avz avu avv avy avx List.map_cons List.map_nil ajs ajr akU akT aq3 aq2 avo ato atn agB agC ar7 afR afQ ne_eq not_true_eq_false not_false_eq_true gt_iff_lt Nat.lt_irrefl or_self or_false false_or Nat.le_refl Nat.mul_one Nat.one_mul Nat.zero_mul Nat.mul_zero bne_iff_ne bne_eq_false_iff_eq beq_iff_eq af0 afZ af6 afY arc arb af1 ar4 ar3 ar6 ar5 adF aju ajt afC aq7 adF at1 atZ atV atW afU afW afV afS afX afT
def asf{base Vi Vn T:SH}{H:SA}(hk:tD T (Vi++base) Vn)(hv:∀p∈Vn,∃b,look T p.1=some b/\Wk b p.2):sd base Vi Vn H ⟨T,H⟩:=⟨hk,hv,[],by simp,.inl rfl⟩
def adH{base Vi Vn T:SH}{H G:SA}(hk:tD T (Vi++base) Vn)(hv:∀p∈Vn,∃b,look T p.1=some b/\Wk b p.2)(an:bJ H)(hlt:∀p∈Vn,Lt H.length p.2):sd base Vi Vn H ⟨T,H++G⟩:=⟨hk,hv,G,rfl,.inr ⟨an,hlt⟩⟩
def Cd{base Vi Vn T:SH}{H L G:SA}(hk:tD T (Vi++base) Vn)(hv:∀p∈Vn,∃b,look T p.1=some b/\Wk b p.2)(an:bJ (H++L))(hlt:∀p∈Vn,Lt (H++L).length p.2):sd base Vi Vn (H++L) ⟨T,H++(L++G)⟩:=⟨hk,hv,G,(Ev ..).symm,.inr ⟨an,hlt⟩⟩
def pick (ks:SE)(T:SH):List (Nat×AV):=ks.filterMap λk=>(look T k).map λa=>(k,a)
def QJ{lv:Bool}{P:Tl}{r:SL}{nt:Nat}{c:U5}{T:SH}{H:SA}{Φ:SI}(ks:SE)(h:aW lv P r nt c ⟨pick ks T,H⟩ Φ):aW lv P r nt c ⟨T,H⟩ Φ:=by refine nk (s':=⟨pick ks T,H⟩) ⟨λt a e=> ?_,rfl⟩ h;obtain⟨k,_,e'⟩:=WM.1 (pF e);obtain⟨b,hb,e'⟩:=Uu.1 e';cases e';exact⟨a,hb,Wk.refl a⟩
end Go.Gg
