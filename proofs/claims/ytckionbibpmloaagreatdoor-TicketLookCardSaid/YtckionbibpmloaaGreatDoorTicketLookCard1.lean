/- A part of the proof. -/
import Derived.Test.YtckionbibpmloaaGreatDoorTicketLookCard0
import Derived.Orders
set_option linter.all false
set_option maxRecDepth 4000
set_option maxHeartbeats 4000000
open Array renaming all_eq_true_iff_forall_mem->Vw,eq_empty_of_size_eq_zero->Xm,ext'->Ws,getD_eq_getD_getElem?->Td,getElem?_append_left->XB,getElem?_append_right->Y9,getElem?_eq_getElem->Tf,getElem?_eq_some_iff->Tl,getElem?_map->XA,getElem?_setIfInBounds_ne->Tq,getElem?_setIfInBounds_self_of_lt->T8,getElem_mem->XP,isEmpty_iff->ae',mem_append->Vk,mem_iff_getElem?->ZE,mem_of_getElem?->ZZ,range->XJ,replicate->UI,size_append->YG,toList_map->WR
open BitVec renaming ofInt->U2
open Bool renaming and_eq_true->Uk,false_eq_true->UB,false_or->an_,not_eq_true'->UK,not_false->W1,not_true->X6,or_eq_true->avO
open Classical renaming byContradiction->Uj
open Function renaming comp_def->Zv
open Go renaming Addr->Wp,BinOp->Xc,Call->Ym,Code->UX,Field->ZW,Func->avu,FuncId->UH,IntKind->UN,LoopState->avK,Oper->U8,Operand->Ui,Program->Tg,ResultVar->aa',TypeInfo->XV,Value->T5
open Go.Act renaming put->Y6
open Go.BinOp renaming eql->Zu,neq->W8
open Go.Builtin renaming append_->WE,copy_->awP,delete_->awO,firstCells->Wz,growBy->ai',lenOf->awN,len_->Ys,nextslicecap->X4,zeroCells->Yr
open Go.Call renaming operands->Xo
open Go.Deferred renaming ofValue->VM
open Go.Frame renaming round->Y5
open Go.Instr renaming checkKey->Wb,fill->avL,findKey->WZ,index->avC,indexAt->as_,loadAt->XX,mapUpdate->am_,sameBits->Xy,slice->avB,sliceAt->Zi,sliceBound->ag',sliceBounds->adA,storeAt->Zh,sureAddr->VT,typeAssert->ag_
open Go.IntKind renaming bits->awA,i64->Tc,signed->awz,wrap->Y4
open Go.Made renaming depth->ZB
open Go.Next renaming value->X5
open Go.Op renaming equal->XM,equalIn->WC,intDiv->awq,operands->Ur,shift->awy
open Go.Operand renaming tmp->awx
open Go.Question renaming cut->awc
open Go.Region renaming binds->Zn,linearise->ab',schedule->WT,wanted->Ug
open Go.Region.linearise renaming go->Vu
open Go.Value renaming bool->Yg,cells->avI,slice->Vh,tuple->ZJ
open Go.World renaming cell?->Vs
open Int renaming toNat_natCast->Wc
open List renaming all_eq_true->Uv,any_cons->ZT,any_eq_true->Vp,append_assoc->Ax,append_nil->Tu,cons_append->WK,contains_eq_mem->Vf,countP_cons_of_neg->XS,countP_cons_of_pos->W6,countP_le_length->Z4,drop_drop->avT,drop_eq_getElem_cons->UW,drop_eq_nil_of_le->UR,drop_zero->WY,ext_getElem?->X2,extract_eq_take_drop->Zs,flatMap_cons->UQ,foldl_cons->VS,getD_cons_zero->Yv,getD_eq_getElem?_getD->Se,getElem?_append_left->Tw,getElem?_append_right->Ud,getElem?_cons_succ->Vy,getElem?_cons_zero->Wu,getElem?_drop->Vd,getElem?_eq_getElem->Ts,getElem?_eq_none->Vx,getElem?_eq_some_iff->Tj,getElem?_map->Uo,getElem?_range->au',getElem?_set_ne->U3,getElem?_set_self->Yd,getElem?_take->U5,getElem?_toArray->We,getElem_mem->WX,length_append->Tx,length_cons->UU,length_drop->Va,length_nil->VR,length_set->UF,length_singleton->UV,length_take->U_,mapM_cons->UY,mapM_nil->Vt,mapM_toArray->Y3,map_congr_left->WI,map_cons->VI,map_drop->Zy,map_nil->aj',mem_append->Tp,mem_cons->Th,mem_cons_of_mem->T_,mem_cons_self->Ut,mem_filter->Vq,mem_filterMap->WG,mem_flatMap->T4,mem_iff_getElem?->VF,mem_map->Um,mem_of_getElem?->Uf,mem_of_mem_take->YE,mem_or_eq_of_mem_set->VB,mem_range->UA,mem_toArray->UC,nil_append->Vo,range->Tt,range'->UZ,range'_succ->WF,range_eq_range'->VX,reverse_nil->YZ,set_append_right->VE,set_set->Yb,singleton_append->Z3,take_append_drop->WO,take_length->Uy,take_take->Wi,take_zero->awb
open Nat renaming add_assoc->X7,add_comm->awa,add_mul->VU,add_zero->Vl,le_of_eq->Yo,le_refl->Tm,le_succ->Z2,le_trans->Vb,lt_irrefl->av3,lt_of_lt_of_le->Ub,lt_trans->Xn,lt_trichotomy->YH,min_le_left->ar_,mul_le_mul->at2,mul_le_mul_right->US,mul_one->Zc,ne_of_lt->XE,strongRecOn->Zl,sub_self->WL,sub_zero->avz,zero_add->WN,zero_le->Z1,zero_mul->YX
open Option renaming bind_eq_bind->UL,bind_eq_some_iff->Uc,getD_none->Wt,getD_some->T9,map_eq_some_iff->Uq,map_some->VL,pure_def->U7
open Option.some renaming inj->Wq,injEq->Uh
namespace Go.Gg
open Go.Conc
inductive End where
 |exact
 |shut
 |opn (k:Nat)
 deriving DecidableEq
inductive AV where
 |val (x:T5)
 |agg (l:List AV)
 |aF (l:List AV)
 |sl (n:Nat) (l:List AV) (e:End)
 |bI (id off n cap:Nat)
 |rp (l:List AV)
 |op (id off:Nat)
 |fn (f:Fn) (first cT:List AV)
 |bR (t:TypeId) (x:AV)
 |mp (id:Nat)
abbrev SC:=List AV
structure Env where
 I:cr
 n:Nat
 blk:Nat->Nat
 room:Nat->Nat->Option Wp×Nat
 fE:Nat->Nat
 fr:Nat->Option Obj
 main:Bool
structure Env.Le (E E':Env):Prop where
 I:∀b o v,E.I b o=some v->E'.I b o=some v
 n:E.n<=E'.n
 blk:∀k,k<E.n->E'.blk k=E.blk k
 fE:∀k,k<E.n->E.fE k<=E'.fE k
 room:∀k v,k<E.n->v<=E.fE k->E'.room k v=E.room k v
 fr:E'.fr=E.fr
 main:E'.main=E.main
def Env.Le.refl(E:Env):E.Le E:=⟨λ_ _ _ h=>h,Tm _,λ_ _=>rfl,λ_ _=>Tm _,λ_ _ _ _=>rfl,rfl,rfl⟩
def Env.Le.trans{E E' bS:Env}(h:E.Le E')(k:E'.Le bS):E.Le bS:=
 ⟨λb o v e=>k.I b o v (h.I b o v e),Vb h.n k.n,λi hi=>(k.blk i (Ub hi h.n)).trans (h.blk i hi),λi hi=>Vb (h.fE i hi) (k.fE i (Ub hi h.n)),
  λi v hi hv=>(k.room i v (Ub hi h.n) (Vb hv (h.fE i hi))).trans (h.room i v hi hv),k.fr.trans h.fr,k.main.trans h.main⟩
abbrev TA:=Option Wp
def pK (E:Env)(e:End)(a:TA)(n cap:Nat):Prop:=match e with
 |.exact=>cap=n
 |.shut=>True
 |.opn k=>k<E.n/\n<=E.fE k/\E.room k n=(a,cap)
inductive ap (E:Env):AV->T5->Prop
 |val (x:T5):ap E (.val x) x
 |agg {l:List AV} {cs:Array T5} (hs:cs.size=l.length) (h:∀(i:Nat) a,l[i]?=some a->ap E a (cs.getD i undef)):ap E (.agg l) (.agg cs)
 |aF {l:List AV} {cs:Array T5} (hs:cs.size=l.length) (h:∀(i:Nat) a,l[i]?=some a->ap E a (cs.getD i undef)):ap E (.aF l) (.tuple cs)
 |sl {n:Nat} {l:List AV} {e:End} (b o cap:Nat) (f:Nat->T5) (hc:n<=cap) (he:pK E e (some ⟨b,o,none⟩) n cap)
   (h1:∀i,i<l.length->E.I b (o+i)=some (f i)) (h2:∀(i:Nat) x,l[i]?=some x->ap E x (f i)):ap E (.sl n l e) (.slice (some ⟨b,o,none⟩) n cap)
 |nil {e:End} {a:Option Wp} (he:pK E e a 0 0):ap E (.sl 0 [] e) (.slice a 0 0)
 |bI {id off n cap cap':Nat} (hi:id<E.n) (dK:n<=cap'/\(n<=cap->cap=cap')/\(cap<n->cap'<=(E.room id 0).2)):ap E (.bI id off n cap) (.slice (some ⟨E.blk id,off,none⟩) n cap')
 |rp {l:SC} (b o:Nat) (f:Nat->T5) (h1:∀i,i<l.length->E.I b (o+i)=some (f i)) (h2:∀(i:Nat) x,l[i]?=some x->ap E x (f i)):ap E (.rp l) (.pointer (some ⟨b,o,none⟩))
 |op {id off:Nat} (hi:id<E.n):ap E (.op id off) (.pointer (some ⟨E.blk id,off,none⟩))
 |fn {f:Fn} {first cT:SC} {fa ca:Array T5} (dA:fa.size=first.length) (dH:ca.size=cT.length) (h1:∀(i:Nat) a,first[i]?=some a->ap E a (fa.getD i undef)) (h2:∀(i:Nat) a,cT[i]?=some a->ap E a (ca.getD i undef)):ap E (.fn f first cT) (.func f fa ca)
 |bR {t:TypeId} {x:AV} {v:T5} (h:ap E x v):ap E (.bR t x) (.iface t v)
 |mp {id:Nat} (hi:id<E.n):ap E (.mp id) (.map (some (E.blk id)))
def pK.mono{E E':Env}(h:E.Le E'){e:End}{a:TA}{n cap:Nat}(k:pK E e a n cap):pK E' e a n cap:=by
 cases e with
 |exact=>exact k
 |shut=>trivial
 |opn i=>exact⟨Ub k.1 h.n,Vb k.2.1 (h.fE i k.1),by rw[h.room i n k.1 k.2.1];exact k.2.2⟩
def ap.mono{E E':Env}(h:E.Le E'){a:AV}{v:T5}(d:ap E a v):ap E' a v:=by
 induction d with
 |val x=>exact .val x
 |agg hs _ ih=>exact .agg hs ih
 |aF hs _ ih=>exact .aF hs ih
 |sl b o cap f hc he h1 _ ih=>exact .sl b o cap f hc (he.mono h) (λi hi=>h.I _ _ _ (h1 i hi)) ih
 |nil he=>exact .nil (he.mono h)
 |bI hi dK=>rw[<- h.blk _ hi];exact .bI (Ub hi h.n) ⟨dK.1,dK.2.1,λe=>by rw[h.room _ 0 hi (Z1 _)];exact dK.2.2 e⟩
 |rp b o f h1 _ ih=>exact .rp b o f (λi hi=>h.I _ _ _ (h1 i hi)) ih
 |op hi=>rw[<- h.blk _ hi];exact .op (Ub hi h.n)
 |fn dA dH _ _ mW lw=>exact .fn dA dH mW lw
 |bR _ ih=>exact .bR ih
 |mp hi=>rw[<- h.blk _ hi];exact .mp (Ub hi h.n)
def AV.leaf:AV->Bool
 |.agg _|.aF _=>false
 |.val x=>x.one
 |_=>true
inductive aa where
 |cells (l:List AV) (elem:TypeId)
 |part (p:Nat) (l:List AV) (elem:TypeId)
 |own (sz:Nat) (l:List AV) (elem:TypeId)
 |tail (n sz:Nat) (elem:TypeId)
 |obj (x:Obj)
 |iter (m since:Nat) (seen:Array Nat) (tL:Nat)
 |loop (r:Nat) (st:avK) (pend:Option UX) (fn:UH) (T:List (Nat×AV)) (nt:Nat) (ps:Array Tmp) (bN body:UX) (df:Nat)
 |gone
 |main
abbrev SF:=AV->List aa->Prop
abbrev SA:=List aa
def look:List (Nat×AV)->Nat->Option AV
 |[],_=>none
 |(k,a)::l,t=>if k=t then some a else look l t
abbrev SH:=List (Nat×AV)
def cm (E:Env)(T:SH)(tmps:SG):Prop:=∀t a,look T t=some a->t<tmps.size/\ap E a (tmps.getD t undef)
def cm.mono{E E':Env}(h:E.Le E'){T:SH}{tmps:SG}(k:cm E T tmps):cm E' T tmps:=λt a e=>⟨(k t a e).1,(k t a e).2.mono h⟩
def cm.put{E:Env}{T:SH}{tmps:SG}(k:cm E T tmps){d:Nat}(hd:d<tmps.size){a:AV}{v:T5}(hv:ap E a v):cm E ((d,a)::T) (tmps.setIfInBounds d v):=by
 intro t x e;simp only[look]at e;by_cases h:d=t
 ·subst h;rw[if_pos rfl]at e;cases e;exact⟨by simpa using hd,by simpa[Td,T8 hd]using hv⟩
 ·rw[if_neg h]at e;have:=k t x e;exact⟨by simpa using this.1,by simpa[Td,Tq h]using this.2⟩
def bL (E:Env)(l:SC)(cs:SG):Prop:=cs.size=l.length/\∀(i:Nat) a,l[i]?=some a->ap E a (cs.getD i undef)
def bL.mono{E E':Env}(h:E.Le E'){l:SC}{cs:SG}(d:bL E l cs):bL E' l cs:=⟨d.1,λi a e=>(d.2 i a e).mono h⟩
def jR (E:Env)(l:SC)(cs:SG):Prop:=l.length<=cs.size/\∀(i:Nat) a,l[i]?=some a->ap E a (cs.getD i undef)
def jR.mono{E E':Env}(h:E.Le E'){l:SC}{cs:SG}(d:jR E l cs):jR E' l cs:=⟨d.1,λi a e=>(d.2 i a e).mono h⟩
def bL.p{E:Env}{l:SC}{cs:SG}(d:bL E l cs):jR E l cs:=⟨Yo d.1.symm,d.2⟩
def bJ (E:Env)(k:Nat):aa->Option Nat
 |.tail n _ _=>if(E.room k n).2=n then none else(E.room k n).1.map (·.block)
 |.gone|.main=>none
 |_=>some (E.blk k)
def Co:List (Nat×T5):=[(0,.iface 209 (.agg #[.pointer (some ⟨1,92,none⟩)]))]
def y8 (I:cr):Prop:=∀g v,Co.lookup g=some v->I g 0=some v
def y8.mono{I I':cr}(h:y8 I)(k:∀b o v,I b o=some v->I' b o=some v):y8 I':=λg v e=>k _ _ _ (h g v e)
def fQ (E:Env)(V:View)(k:Nat):aa->Prop
 |.cells l elem=>(∃cs,V.own (E.blk k)=some (.cells cs elem (0,0))/\bL E l cs)/\∀o,V.ab (E.blk k) o=none
 |.part p l elem=>(∃cs,V.own (E.blk k)=some (.cells cs elem (0,0))/\jR E l cs/\∀o,o<p->V.ab (E.blk k) o=cs[o]?)/\∀o,p<=o->V.ab (E.blk k) o=none
 |.own sz l elem=>(∃cs,V.own (E.blk k)=some (.cells cs elem (0,0))/\jR E l cs/\cs.size=(E.room k 0).2* sz)/\∀o,V.ab (E.blk k) o=none
 |.tail n sz elem=>E.fE k=n/\((E.room k n).2=n\/∃b cap cs,E.room k n=(some ⟨b,0,none⟩,cap)/\V.own b=some (.cells cs elem (0,0))/\cs.size=cap* sz/\n<cap/\∀o,n* sz<=o->V.ab b o=none)
 |.obj x=>V.own (E.blk k)=some x/\x.uU=false/\x.isChan=false/\∀o,V.ab (E.blk k) o=none
 |.iter m since seen tL=>m<E.n/\V.own (E.blk k)=some (.mapIter (some (E.blk m)) since seen tL)/\∀o,V.ab (E.blk k) o=none
 |.loop r st pend fn T nt ps bN body df=>(∃tmps,V.own (E.blk k)=some (.loop {state:=st,pending:=pend,fn,tmps,params:=ps,assign:=bN,body,defers:=E.blk df})/\tmps.size=nt/\cm E T tmps)/\df<E.n/\(∀o,V.ab (E.blk k) o=none)/\E.blk k=r
 |.gone=>True
 |.main=>E.main=true/\y8 E.I
structure Conc (E:Env)(V:View)(H:SA):Prop where
 I:E.I=V.ab
 n:E.n=H.length
 obj:∀k x,H[k]?=some x->fQ E V k x
 inj:∀i j x y b,H[i]?=some x->H[j]?=some y->bJ E i x=some b->bJ E j y=some b->i=j
 group:∀g,V.role.group=some g->V.own g≠none/\(∀o,V.ab g o=none)/\∀(k:Nat) x,H[k]?=some x->bJ E k x≠some g
 chan:∀c,V.role.chan=some c->V.own c≠none/\(∀o,V.ab c o=none)/\∀(k:Nat) x,H[k]?=some x->bJ E k x≠some c
 top:E.main=true->V.role=.plain/\V.deaf=0
 fr:∀b y,E.fr b=some y->V.own b=some y/\(∀o,V.ab b o=none)/\∀(k:Nat) x,H[k]?=some x->bJ E k x≠some b
structure AS where
 T:List (Nat×AV)
 H:SA
def AS.Le (s s':AS):Prop:=(∀t a,look s'.T t=some a->look s.T t=some a)/\s'.H=s.H
def AV.of:T5->AV
 |.agg cs=> .agg (cs.toList.map λ|.slice none 0 0=> .sl 0 [] .exact|v=> .val v)
 |.slice none 0 0=> .sl 0 [] .exact
 |v=> .val v
def AV.pD:T5->AV
 |.slice none 0 0=> .sl 0 [] .exact
 |v=> .val v
def Ju(E:Env)(v:T5):ap E (AV.pD v) v:=by
 unfold AV.pD;split
 ·exact .nil rfl
 ·exact .val _
def sH(E:Env)(v:T5):ap E (AV.of v) v:=by
 unfold AV.of;split
 ·rename_i cs;refine .agg (by simp) λi a h=> ?_;rw[Uo]at h;obtain⟨x,hx,rfl⟩:=Uq.1 h;have:cs[i]?=some x:=by simpa using hx
  rw[Td,this];exact Ju E x
 ·exact .nil rfl
 ·exact .val _
def AS.ev (s:AS):Ui->Option AV
 |.tmp t=>look s.T t
 |.const v=>some (AV.of v)
 |.func f=>some (.fn (.func f) [] [])
 |.global _=>none
def ap.ev{E:Env}{s:AS}{a:Act}(k:cm E s.T a.tmps){x:Ui}{av:AV}(h:s.ev x=some av):ap E av (a.eval x):=by
 cases x with
 |tmp t=>exact(k t av h).2
 |const v=>cases h;exact sH E v
 |func f=>cases h;exact .fn rfl rfl (by simp) (by simp)
 |global g=>cases h
def fQ.B4{E:Env}{V:View}{k:Nat}{x:aa}(h:fQ E V k x){b:Nat}(hb:bJ E k x=some b):∃y,V.own b=some y:=by
 cases x with
 |cells l el=>cases hb;obtain⟨⟨cs,h1,_⟩,_⟩:=h;exact⟨_,h1⟩
 |part p l el=>cases hb;obtain⟨⟨cs,h1,_⟩,_⟩:=h;exact⟨_,h1⟩
 |own p l el=>cases hb;obtain⟨⟨cs,h1,_⟩,_⟩:=h;exact⟨_,h1⟩
 |tail n sz el=>
  obtain⟨hv,h|⟨b',cap,cs,h1,h2,h3,h4,h5⟩⟩:=h
  ·simp only[bJ,h,if_true]at hb;cases hb
  ·simp only[bJ,h1]at hb;rw[if_neg (by omega)]at hb;cases hb;exact⟨_,h2⟩
 |obj x=>cases hb;exact⟨_,h.1⟩
 |iter m since seen tL=>cases hb;exact⟨_,h.2.1⟩
 |loop=>cases hb;obtain⟨⟨tmps,h1,_⟩,_⟩:=h;exact⟨_,h1⟩
 |gone=>cases hb
 |main=>cases hb
def PC{E E':Env}(hl:E.Le E'){k:Nat}(hk:k<E.n){x:aa}{V:View}(h:fQ E V k x):bJ E' k x=bJ E k x:=by
 cases x with
 |tail n sz el=>simp only[bJ];rw[hl.room k n hk (Yo h.1.symm)]
 |gone=>rfl
 |main=>rfl
 |_=>simp only[bJ,hl.blk k hk]
def fQ.mono{E E':Env}{V V':View}{k:Nat}{x:aa}(h:fQ E V k x)(hl:E.Le E')(hk:k<E.n)(AC:E'.fE k=E.fE k)
  (ho:∀b y,bJ E k x=some b->V.own b=some y->V'.own b=some y) (hi:∀b,bJ E k x=some b->∀o,V'.ab b o=V.ab b o):fQ E' V' k x:=by
 cases x with
 |cells l el=>
  obtain⟨⟨cs,h1,h2⟩,h3⟩:=h;simp only[fQ,hl.blk k hk];exact⟨⟨cs,ho _ _ rfl h1,h2.mono hl⟩,λo=>(hi _ rfl o).trans (h3 o)⟩
 |part p l el=>
  obtain⟨⟨cs,h1,h2,h4⟩,h3⟩:=h;simp only[fQ,hl.blk k hk];exact⟨⟨cs,ho _ _ rfl h1,h2.mono hl,λo hp=>(hi _ rfl o).trans (h4 o hp)⟩,λo hp=>(hi _ rfl o).trans (h3 o hp)⟩
 |own sz l el=>
  obtain⟨⟨cs,h1,h2,h4⟩,h3⟩:=h;simp only[fQ,hl.blk k hk,hl.room k 0 hk (Z1 _)];exact⟨⟨cs,ho _ _ rfl h1,h2.mono hl,h4⟩,λo=>(hi _ rfl o).trans (h3 o)⟩
 |tail n sz el=>
  obtain⟨hv,h⟩:=h;simp only[fQ,AC,hl.room k n hk (Yo hv.symm)];refine⟨hv,?_⟩;rcases h with h|⟨b',cap,cs,h1,h2,h3,h4,h5⟩
  ·exact .inl h
  ·have hb:bJ E k (.tail n sz el)=some b':=(by simp only[bJ,h1];rw[if_neg (by omega)];rfl);exact .inr ⟨b',cap,cs,h1,ho _ _ hb h2,h3,h4,λo hm=>(hi _ hb o).trans (h5 o hm)⟩
 |obj x=>
  obtain⟨h1,h2,h4,h3⟩:=h;simp only[fQ,hl.blk k hk];exact⟨ho _ _ rfl h1,h2,h4,λo=>(hi _ rfl o).trans (h3 o)⟩
 |iter m since seen tL=>
  obtain⟨h0,h1,h2⟩:=h;simp only[fQ,hl.blk k hk,hl.blk m h0];exact⟨Ub h0 hl.n,ho _ _ rfl h1,λo=>(hi _ rfl o).trans (h2 o)⟩
 |loop r st pend fn T nt ps bN body df=>
  obtain⟨⟨tmps,h1,h2,h3⟩,h4,h5,h6⟩:=h;simp only[fQ,hl.blk k hk,hl.blk df h4];exact⟨⟨tmps,ho _ _ rfl h1,h2,h3.mono hl⟩,Ub h4 hl.n,λo=>(hi _ rfl o).trans (h5 o),h6⟩
 |gone=>trivial
 |main=>exact⟨hl.main.trans h.1,h.2.mono hl.I⟩
def Conc.iY{E E':Env}{V V':View}{H H':SA}(hc:Conc E V H)(k:Nat)(x':aa)(hle:E.Le E')(hI:E'.I=V'.ab)(hn:E'.n=H'.length)
  (hH:∀(j:Nat) y,H'[j]?=some y->(j=k/\y=x')\/(j≠k/\H[j]?=some y)) (hr:V'.role=V.role)
  (AC:∀j,j≠k->j<E.n->E'.fE j=E.fE j)
  (ho:∀b y,(∀x,H[k]?=some x->bJ E k x≠some b)->V.own b=some y->V'.own b=some y/\∀o,V'.ab b o=V.ab b o)
  (hx:fQ E' V' k x') (hb:∀b,bJ E' k x'=some b->(∃x,H[k]?=some x/\bJ E k x=some b)\/V.own b=none) (bt:V'.deaf=V.deaf:=by rfl):Conc E' V' H':=by
 have hlt:∀(j:Nat) y,H[j]?=some y->j<E.n:=λj y h=>by rw[hc.n];exact(Tj.1 h).1
 have cD:∀(j:Nat) y b,H[j]?=some y->bJ E' j y=some b->bJ E j y=some b:=λj y b h e=>by rw[<- PC hle (hlt j y h) (hc.obj j y h)];exact e
 have aat:∀(j:Nat) y b,j≠k->H[j]?=some y->bJ E j y=some b->∀x,H[k]?=some x->bJ E k x≠some b:=λj y b hj h1 h2 x h3 h4=>hj (hc.inj j k y x b h1 h3 h2 h4);have hg:∀(j:Nat) y,H'[j]?=some y->∀g,V.own g≠none->(∀(i:Nat) x,H[i]?=some x->bJ E i x≠some g)->bJ E' j y≠some g:=λj y h g pn fi e=>by
  rcases hH j y h with⟨rfl,rfl⟩|⟨hj,h⟩
  ·rcases hb g e with⟨x,h1,h2⟩|h2
   ·exact fi _ x h1 h2
   ·exact pn h2
  ·exact fi j y h (cD j y g h e)
 have hk:∀g,V.own g≠none->(∀(i:Nat) x,H[i]?=some x->bJ E i x≠some g)->V'.own g≠none/\∀o,V'.ab g o=V.ab g o:=λg pn fi=>by
  cases e:V.own g with
  |none=>exact absurd e pn
  |some y=>
   have:=ho g y (λx hx=>fi k x hx) e;exact⟨by rw[this.1];simp,this.2⟩
 refine⟨hI,hn,λj y h=> ?_,λi j y z b h1 h2 e1 e2=> ?_,λg Sp=> ?_,λc eW=> ?_,λhm=>(by rw[hr,bt];exact hc.top (by rw[<- hle.main];exact hm)),λb y jy=> ?_⟩
 ·rcases hH j y h with⟨rfl,rfl⟩|⟨hj,h⟩
  ·exact hx
  ·have lM:=hc.obj j y h;refine lM.mono hle (hlt j y h) (AC j hj (hlt j y h)) (λb z ky hz=> ?_) (λb ky o=> ?_)
   ·exact(ho b z (aat j y b hj h ky) hz).1
   ·obtain⟨z,hz⟩:=lM.B4 ky;exact(ho b z (aat j y b hj h ky) hz).2 o
 ·have new:∀(j:Nat) y,j≠k->H[j]?=some y->bJ E' j y=some b->bJ E' k x'≠some b:=λj y hj h e e'=>by
   have e:=cD j y b h e;rcases hb b e' with⟨x,pu,hx2⟩|h1
   ·exact hj (hc.inj j k y x b h pu e hx2)
   ·obtain⟨q,hq⟩:=(hc.obj j y h).B4 e;rw[h1]at hq;cases hq
  rcases hH i y h1 with⟨rfl,rfl⟩|⟨hi,h1⟩<;>rcases hH j z h2 with⟨rfl,rfl⟩|⟨hj,h2⟩
  ·rfl
  ·exact absurd e1 (new j z hj h2 e2)
  ·exact absurd e2 (new i y hi h1 e1)
  ·exact hc.inj i j y z b h1 h2 (cD i y b h1 e1) (cD j z b h2 e2)
 ·rw[hr]at Sp;obtain⟨h0,h1,h2⟩:=hc.group g Sp;exact⟨(hk g h0 h2).1,λo=>((hk g h0 h2).2 o).trans (h1 o),λj y h=>hg j y h g h0 h2⟩
 ·rw[hr]at eW;obtain⟨h0,h1,h2⟩:=hc.chan c eW;exact⟨(hk c h0 h2).1,λo=>((hk c h0 h2).2 o).trans (h1 o),λj y h=>hg j y h c h0 h2⟩
 ·rw[hle.fr]at jy;obtain⟨h0,h1,h2⟩:=hc.fr b y jy;have FQ:V.own b≠none:=by rw[h0];simp
  exact⟨(ho b y (λx hx=>h2 k x hx) h0).1,λo=>((hk b FQ h2).2 o).trans (h1 o),λj z h=>hg j z h b FQ h2⟩
def lU{α:Type}{H:List α}{k:Nat}{x':α}:∀(j:Nat) y,(H.set k x')[j]?=some y->(j=k/\y=x')\/(j≠k/\H[j]?=some y):=λj y h=>by
 by_cases hj:j=k
 ·subst hj;rw[List.getElem?_set_self']at h;cases e:H[j]?with
  |none=>rw[e]at h;cases h
  |some z=>rw[e]at h;exact .inl ⟨rfl,by simpa using h.symm⟩
 ·rw[U3 (Ne.symm hj)]at h;exact .inr ⟨hj,h⟩
def DJ{α:Type}{H:List α}{x':α}:∀(j:Nat) y,(H++[x'])[j]?=some y->(j=H.length/\y=x')\/(j≠H.length/\H[j]?=some y):=λj y h=>by
 by_cases hk:j<H.length
 ·rw[Tw hk]at h;exact .inr ⟨by omega,h⟩
 ·rw[Ud (by omega)]at h;have aI:j-H.length=0:=by
   have:=(Tj.1 h).1;simpa using this
  rw[aI]at h;exact .inl ⟨by omega,by simpa using h.symm⟩
def Conc.iV{E:Env}{V:View}{H:SA}(hc:Conc E V H){k:Nat}{x:aa}(hk:H[k]?=some x){b:Nat}(hb:bJ E k x=some b):V.role.group≠some b/\V.role.chan≠some b:=
 ⟨λe=>(hc.group b e).2.2 k x hk hb,λe=>(hc.chan b e).2.2 k x hk hb⟩
def Conc.Ms{E:Env}{V:View}{H:SA}(hc:Conc E V H){b o:Nat}{v:T5}(h:E.I b o=some v):V.role.group≠some b/\V.role.chan≠some b:=
 ⟨λe=>(by have:=(hc.group b e).2.1 o;rw[<- hc.I,h]at this;cases this),λe=>(by have:=(hc.chan b e).2.1 o;rw[<- hc.I,h]at this;cases this)⟩
def AS.put (s:AS)(dst:SL)(av:AV):AS:=match dst with
 |some d=>⟨(d,av)::s.T,s.H⟩
 |none=>s
def cm.gM{E:Env}{s:AS}{a:Act}(k:cm E s.T a.tmps){dst:SL}(hd:∀d,dst=some d->d<a.tmps.size){av:AV}{v:T5}(hv:ap E av v):cm E (s.put dst av).T (a.put dst v).tmps:=by
 cases dst with
 |none=>exact k
 |some d=>exact cm.put k (hd d rfl) hv
def e_(s:AS)(dst:SL)(av:AV):(s.put dst av).H=s.H:=by cases dst<;>rfl
def dY(a:Act)(dst:SL)(v:T5):(a.put dst v).tmps.size=a.tmps.size:=by cases dst<;>simp[Y6]
def put_defers(a:Act)(dst:SL)(v:T5):(a.put dst v).defers=a.defers:=by cases dst<;>rfl
structure Kept (E E':Env)(V V':View)(a a':Act):Prop where
 le:E.Le E'
 size:a'.tmps.size=a.tmps.size
 defers:a'.defers=a.defers
 role:V'.role=V.role
 deaf:V'.deaf=V.deaf
abbrev SV:=AS->Prop
def Step (lv:Bool)(P:Tg)(r:SL)(o:U8)(s:AS)(next:SV)(bad:AV->SV):Prop:=
 ∀(E:Env)(V:View)(a:Act)(N:S0)(Q:SJ),Conc E V s.H->cm E s.T a.tmps->(∀d,o.dst=some d->d<a.tmps.size)->(r=none\/mq o.op=false)->
  (∀E' V' a' s',Kept E E' V V' a a'->Conc E' V' s'.H->cm E' s'.T a'.tmps->next s'->N a' V')->
  (∀E' V' s' pv v,Kept E E' V V' a a->Conc E' V' s'.H->cm E' s'.T a.tmps->ap E' pv v->bad pv s'->Q (.panic [{v,recovered:=false}]) a V')->xa lv P r o a V N Q
def dq (lv:Bool)(P:Tg)(r:SL)(o:U8)(s:AS)(av:AV):Prop:=
 ∀(E:Env)(V:View)(a:Act)(N:S0)(Q:SJ),Conc E V s.H->cm E s.T a.tmps->(r=none\/mq o.op=false)->
  (∀E' V' v,E.Le E'->V'.role=V.role->V'.deaf=V.deaf->Conc E' V' s.H->ap E' av v->N (a.put o.dst v) V')->xa lv P r o a V N Q
section
variable {lv:Bool}{P:Tg}{r:SL}{o:U8}{s:AS}{next:SV}{bad:AV->SV}
def Step.mono{next':SV}{Px:AV->SV}(h:Step lv P r o s next bad)(hn:∀s,next s->next' s)(hb:∀c s,bad c s->Px c s):Step lv P r o s next' Px:=
 λE V a N Q h1 h2 h3 h4 h5 h6=>h E V a N Q h1 h2 h3 h4 (λE' V' a' s' x1 x2 x3 x4=>h5 E' V' a' s' x1 x2 x3 (hn _ x4)) (λE' V' s' pv v x1 x2 x3 x4 x5=>h6 E' V' s' pv v x1 x2 x3 x4 (hb _ _ x5))
def iG{av:AV}(h:∀(E:Env)(V:View)(a:Act),Conc E V s.H->cm E s.T a.tmps->aR P V (execOp a.eval o) (λnx V'=>V'=V/\∃v,nx=.value v/\ap E av v) (λ_ _=>False)):dq lv P r o s av:=by
 intro E V a N Q hc ht bt h1;refine⟨bt,(h E V a hc ht).mono (λnx V' hx=> ?_) (λ_ _ hx=>hx.elim)⟩;obtain⟨rfl,v,rfl,hv⟩:=hx;exact h1 E V' v (Env.Le.refl E) rfl rfl hc hv
def rT{av:AV}(h:∀(E:Env)(V:View)(a:Act),Conc E V s.H->cm E s.T a.tmps->∃v,execOp a.eval o=.pure (.value v)/\ap E av v):dq lv P r o s av:=
 iG (λE V a hc ht=>by
  obtain⟨v,h1,h2⟩:=h E V a hc ht;rw[h1];exact b8 ⟨rfl,v,rfl,h2⟩)
def dq.step{av:AV}(h:dq lv P r o s av)(hn:next (s.put o.dst av)):Step lv P r o s next bad:=by
 intro E V a N Q hc ht hd bt h1 _;refine h E V a N Q hc ht bt λE' V' v hle cg eX bi hv=> ?_;exact h1 E' V' (a.put o.dst v) (s.put o.dst av) ⟨hle,dY _ _ _,put_defers _ _ _,cg,eX⟩ (by rw[e_];exact bi) ((ht.mono hle).gM hd hv) hn
def acz{x:Ui}{av:AV}(ho:o.op=.move x\/o.op=.assign x)(hx:s.ev x=some av):dq lv P r o s (av):=
 rT (λE V a hc ht=>⟨a.eval x,by unfold execOp;rcases ho with ho|ho<;>rw[ho]<;>rfl,ap.ev ht hx⟩)
def aql{c x y:Ui}{b:Bool}{av aw:AV}(ho:o.op=.pick c x y)(hc:s.ev c=some (.val (.bool b)))(hx:s.ev x=some av)(hy:s.ev y=some aw):dq lv P r o s (if b then av else aw):=
 rT (λE V a jc ht=>by
  have h1:=ap.ev ht hc;generalize hv:a.eval c=v at h1;cases h1;refine⟨if b then a.eval x else a.eval y,by unfold execOp;rw[ho];simp only[hv];cases b<;>rfl,?_⟩;cases b
  ·exact ap.ev ht hy
  ·exact ap.ev ht hx)
def mb (op:Xc)(k:UN)(x y:Int):Option T5:=match op with
 |.add=>some (.int k (k.wrap (x+y)))
 |.sub=>some (.int k (k.wrap (x-y)))
 |.mul=>some (.int k (k.wrap (x* y)))
 |.eql=>some (.bool (x==y))
 |.neq=>some (.bool (x !=y))
 |.lss=>some (.bool (x<y))
 |.leq=>some (.bool (x<=y))
 |.gtr=>some (.bool (x>y))
 |.geq=>some (.bool (x>=y))
 |.and=>some (.int k (k.wrap (U2 k.bits x&&&U2 k.bits y).toNat))
 |.or=>some (.int k (k.wrap (U2 k.bits x|||U2 k.bits y).toNat))
 |.xor=>some (.int k (k.wrap (U2 k.bits x^^^U2 k.bits y).toNat))
 |.quo=>if y=0 then none else some (.int k (k.wrap (x.tdiv y)))
 |.rem=>if y=0 then none else some (.int k (x.tmod y))
 |_=>none
def Bb (op:Xc)(k:UN)(x y:Int):Option T5:=if y<0 then none else match op with
 |.shl=>some (.int k (k.wrap (x* 2^(min y.toNat k.bits))))
 |.shr=>some (.int k (x.fdiv (2^(min y.toNat k.bits))))
 |_=>none
def mX:Xc->Bool
 |.shl|.shr=>true
 |_=>false
def agz{op:Xc}{k:UN}{x y:Int}{v:T5}{t:TypeId}(h:mb op k x y=some v):binOp op t (.int k x) (.int k y)=.pure v:=by
 cases op<;>simp only[mb,Uh,reduceCtorEq]at h<;>try(subst h;simp[binOp,Op.intArith,Op.intCmp,Op.intBits];rfl)
 ·split at h
  ·cases h
  ·rename_i hy;simp only[Uh]at h;subst h;simp[binOp,awq,hy];rfl
 ·split at h
  ·cases h
  ·rename_i hy;simp only[Uh]at h;subst h;simp[binOp,awq,hy];rfl
def arB{op:Xc}{k j:UN}{x y:Int}{v:T5}{t:TypeId}(h:Bb op k x y=some v):binOp op t (.int k x) (.int j y)=.pure v:=by
 unfold Bb at h;split at h
 ·cases h
 ·rename_i hy;cases op<;>simp only[Uh,reduceCtorEq]at h
  ·subst h;simp[binOp,awy,hy];rfl
  ·subst h;simp[binOp,awy,hy];rfl
def Qr{op:Xc}{t:TypeId}{x y:Ui}{j k:UN}{a b:Int}:eqGuard op t x y (.int j a) (.int k b)=.pure ():=by
 unfold eqGuard;cases op<;>rfl
def apU{op:Xc}{xt yt:TypeId}{x y:Ui}{k:UN}{m n:Int}{v:T5}(ho:o.op=.binOp op xt x y yt)(hx:s.ev x=some (.val (.int k m)))(hy:s.ev y=some (.val (.int k n)))(hv:mb op k m n=some v):dq lv P r o s (.val v):=
 rT (λE V a jc ht=>by
  have h1:=ap.ev ht hx;have h2:=ap.ev ht hy;generalize pq:a.eval x=v1 at h1;generalize tr:a.eval y=v2 at h2;cases h1;cases h2;refine⟨v,?_,.val v⟩;unfold execOp;rw[ho];simp only[pq,tr,Qr,agz hv];rfl)
def aqm{op:Xc}{xt yt:TypeId}{x y:Ui}{k j:UN}{m n:Int}{v:T5}(ho:o.op=.binOp op xt x y yt)(hx:s.ev x=some (.val (.int k m)))(hy:s.ev y=some (.val (.int j n)))(hv:Bb op k m n=some v):dq lv P r o s (.val v):=
 rT (λE V a jc ht=>by
  have h1:=ap.ev ht hx;have h2:=ap.ev ht hy;generalize pq:a.eval x=v1 at h1;generalize tr:a.eval y=v2 at h2;cases h1;cases h2;refine⟨v,?_,.val v⟩;unfold execOp;rw[ho];simp only[pq,tr,Qr,arB hv];rfl)
def aqk{t:TypeId}{x:Ui}{b:Bool}(ho:o.op=.unOp .not t x)(hx:s.ev x=some (.val (.bool b))):dq lv P r o s (.val (.bool !b)):=
 rT (λE V a jc ht=>by
  have h1:=ap.ev ht hx;generalize pq:a.eval x=v1 at h1;cases h1;exact⟨_,by unfold execOp;rw[ho];simp only[pq];rfl,.val _⟩)
def aqh{t:TypeId}{x:Ui}{k:UN}{n:Int}(ho:o.op=.unOp .neg t x)(hx:s.ev x=some (.val (.int k n))):dq lv P r o s (.val (.int k (k.wrap (0-n)))):=
 rT (λE V a jc ht=>by
  have h1:=ap.ev ht hx;generalize pq:a.eval x=v1 at h1;cases h1;exact⟨_,by unfold execOp;rw[ho];simp only[pq];rfl,.val _⟩)
def ap0{x:Ui}{i:Nat}{l:SC}{av:AV}(ho:o.op=.extract x i)(hx:s.ev x=some (.aF l))(hi:l[i]?=some av):dq lv P r o s (av):=
 rT (λE V a jc ht=>by
  have h1:=ap.ev ht hx;generalize pq:a.eval x=v1 at h1;cases h1 with
  |aF hs h=>
   rename_i cs;have hlt:i<cs.size:=(by rw[hs];exact(Tj.1 hi).1);refine⟨cs[i],?_,?_⟩
   ·unfold execOp;rw[ho];simp only[pq,Instr.extract,Tf hlt];rfl
   ·have:=h i av hi;rwa[Td,Tf hlt]at this)
end
def add_plain(b o n:Nat):(⟨b,o,none⟩:Wp).add n=⟨b,o+n,none⟩:=by
 unfold Addr.add;split
 ·rename_i h;subst h;rfl
 ·rfl
def AS.at (s:AS):AV->Option (SC)
 |.rp l=>some l
 |.op id off=>match s.H[id]?with
  |some (.cells l _)=>some (l.drop off)
  |some (.part _ l _)=>some (l.drop off)
  |some (.own _ l _)=>some (l.drop off)
  |_=>none
 |_=>none
def AV.shift (n:Nat):AV->Option AV
 |.rp l=>if n<=l.length then some (.rp (l.drop n))else none
 |.op id off=>some (.op id (off+n))
 |_=>none
def Conc.at{E:Env}{V:View}{s:AS}(hc:Conc E V s.H){p:AV}{v:T5}(hd:ap E p v){l:SC}(h:s.at p=some l):
  ∃(b o:Nat)(f:Nat->T5),v=.pointer (some ⟨b,o,none⟩)/\(∀i,i<l.length->V.get b (o+i)=some (f i))/\(0<l.length->V.role.group≠some b)/\∀(i:Nat) x,l[i]?=some x->ap E x (f i):=by
 cases hd with
 |rp b o f h1 h2=>
  cases h;exact⟨b,o,f,rfl,λi hi=>by unfold View.get;rw[<- hc.I,h1 i hi],λhp=>(hc.Ms (h1 0 hp)).1,h2⟩
 |op hi=>
  rename_i id off;simp only[AS.at]at h;cases hk:s.H[id]?with
  |none=>rw[hk]at h;cases h
  |some ob=>
   rw[hk]at h;cases ob with
   |cells l' el=>
    cases h;obtain⟨⟨cs,ho,hs,bh⟩,lJ⟩:=hc.obj id _ hk;refine⟨E.blk id,off,λi=>cs.getD (off+i) undef,rfl,λi hi=> ?_,λ_=>(hc.iV hk rfl).1,λi x hx=> ?_⟩
    ·unfold View.get;rw[lJ,ho];simp only[Va]at hi;have hlt:off+i<cs.size:=(by omega);simp only[Td,Tf hlt,T9]
    ·rw[Vd]at hx;exact bh _ _ hx
   |part p l' el=>
    cases h;obtain⟨⟨cs,ho,⟨hs,bh⟩,nL⟩,lJ⟩:=hc.obj id _ hk;refine⟨E.blk id,off,λi=>cs.getD (off+i) undef,rfl,λi hi=> ?_,λ_=>(hc.iV hk rfl).1,λi x hx=> ?_⟩
    ·simp only[Va]at hi;have hlt:off+i<cs.size:=(by omega);unfold View.get;by_cases hp:off+i<p
     ·rw[nL _ hp];simp only[Td,Tf hlt,T9]
     ·rw[lJ _ (by omega),ho];simp only[Td,Tf hlt,T9]
    ·rw[Vd]at hx;exact bh _ _ hx
   |own sz l' el=>
    cases h;obtain⟨⟨cs,ho,⟨hs,bh⟩,_⟩,lJ⟩:=hc.obj id _ hk;refine⟨E.blk id,off,λi=>cs.getD (off+i) undef,rfl,λi hi=> ?_,λ_=>(hc.iV hk rfl).1,λi x hx=> ?_⟩
    ·simp only[Va]at hi;have hlt:off+i<cs.size:=(by omega);unfold View.get;rw[lJ,ho];simp only[Td,Tf hlt,T9]
    ·rw[Vd]at hx;exact bh _ _ hx
   |_=>cases h
 |_=>cases h
def ap.shift{E:Env}{p q:AV}{v:T5}(hd:ap E p v){n:Nat}(h:p.shift n=some q):∃b o,v=.pointer (some ⟨b,o,none⟩)/\ap E q (.pointer (some ⟨b,o+n,none⟩)):=by
 cases hd with
 |rp b o f h1 h2=>
  simp only[AV.shift]at h;split at h
  ·rename_i hn;cases h;refine⟨b,o,rfl,.rp b (o+n) (λi=>f (n+i)) (λi hi=> ?_) (λi x hx=> ?_)⟩
   ·simp only[Va]at hi;rw[X7];exact h1 _ (by omega)
   ·rw[Vd]at hx;exact h2 _ _ hx
  ·cases h
 |op hi=>cases h;exact⟨_,_,rfl,.op hi⟩
 |_=>cases h
section
variable {P:Tg}{V:View}{α:Type}{K:α->View->Prop}{Kp:SP}
def ec{t:TypeId}{d:TypeDesc}{k:TypeDesc->Sem α}(h:P.underlying t=some d)(hk:aR P V (k d) K Kp):aR P V (underlying t>>=k) K Kp:=by
 unfold underlying;refine ay (ay (oN (b8 ?_)));rw[h];exact aq hk
def yM{t:TypeId}{i:XV}{k:XV->Sem α}(h:P.info? t=some i)(hk:aR P V (k i) K Kp):aR P V (typeInfo t>>=k) K Kp:=by
 unfold typeInfo;refine ay (ay (oN (b8 ?_)));rw[h];exact aq hk
def jo{t:TypeId}{i:XV}{k:Nat->Sem α}(h:P.info? t=some i)(hk:aR P V (k i.size) K Kp):aR P V (sizeOf t>>=k) K Kp:=by
 refine ay ?_;unfold sizeOf;exact yM h (aq hk)
def TypeDesc.agg:TypeDesc->Bool
 |.struct _|.array _ _=>true
 |_=>false
def vf{t:TypeId}{d:TypeDesc}{k:Bool->Sem α}(h:P.underlying t=some d)(hk:aR P V (k (TypeDesc.agg d)) K Kp):aR P V (isAgg t>>=k) K Kp:=by
 refine ay ?_;unfold isAgg;refine ec h ?_;cases d<;>exact aq hk
def ars{b o:Nat}{v:T5}{k:T5->Sem α}(hg:V.role.group≠some b)(e:V.get b o=some v)(hk:aR P V (k v) K Kp):aR P V (load ⟨b,o,none⟩>>=k) K Kp:=
 ay (A_ e (.inl hg) (b8 hk))
def acW{b o:Nat}{f:Nat->T5}{K:Array T5->View->Prop}:∀(n i:Nat)(acc:SG),(0<n->V.role.group≠some b)->(∀j,j<n->V.get b (o+(i+j))=some (f (i+j)))->
  K (acc++((Tt n).map λj=>f (i+j)).toArray) V->aR P V (loadCellsFrom ⟨b,o,none⟩ i n acc) K Kp
 |0,i,acc,_,_,h=>aq (by simpa using h)
 |n+1,i,acc,hg,he,h=>by
  have h0:=he 0 (by omega);unfold loadCellsFrom;rw[add_plain];refine ars (hg (by omega)) h0 ?_;refine acW n (i+1) _ (λ_=>hg (by omega)) (λj hj=>by have:=he (j+1) (by omega);rwa[show i+(j+1)=i+1+j by omega]at this) ?_;have e:(acc.push (f (i+0))++((Tt n).map λj=>f (i+1+j)).toArray)=acc++((Tt (n+1)).map λj=>f (i+j)).toArray:=by
   rw[List.range_succ_eq_map];apply Ws;simp[Zv,X7,awa 1]
  rw[e];exact h
def yJ{b o n:Nat}{f:Nat->T5}(hg:0<n->V.role.group≠some b){K:Array T5->View->Prop}(he:∀j,j<n->V.get b (o+j)=some (f j))(h:K ((Tt n).map f).toArray V):aR P V (loadCells ⟨b,o,none⟩ n) K Kp:=
 acW n 0 #[] hg (λj hj=>by simpa using he j hj) (by simpa using h)
end
def kU{α β:Type}{x:Option α}{f:α->β}{y:β}(h:x.map f=some y):∃a,x=some a/\f a=y:=Uq.1 h
def Ty (P:Tg)(t:TypeId):Option (Nat×Bool):=(P.info? t).bind λi=>(P.underlying t).map λd=>(i.size,TypeDesc.agg d)
def Ty.out{P:Tg}{t:TypeId}{n:Nat}{g:Bool}(h:Ty P t=some (n,g)):∃i d,P.info? t=some i/\P.underlying t=some d/\i.size=n/\TypeDesc.agg d=g:=by
 unfold Ty at h;obtain⟨i,h1,h2⟩:=Uc.1 h;obtain⟨d,h3,h4⟩:=kU h2;cases h4;exact⟨i,d,h1,h3,rfl,rfl⟩
def Fq{E:Env}{l:SC}{f:Nat->T5}{n:Nat}(hn:n<=l.length)(h:∀(i:Nat) x,l[i]?=some x->ap E x (f i)):ap E (.agg (l.take n)) (.agg ((Tt n).map f).toArray):=by
 refine .agg (by simp;omega) λi x hx=> ?_;rw[U5]at hx;split at hx
 ·rename_i hi;have:=h i x hx;simpa[Td,hi]using this
 ·cases hx
def AV.row:AV->Option (Nat×AV)
 |.sl n l _=>some (n,.rp l)
 |.bI id off n _=>some (n,.op id off)
 |_=>none
def ap.row{E:Env}{a p:AV}{v:T5}{n:Nat}(hd:ap E a v)(h:a.row=some (n,p))(h0:0<n):∃b o cap,v=.slice (some ⟨b,o,none⟩) n cap/\ap E p (.pointer (some ⟨b,o,none⟩)):=by
 cases hd with
 |sl b o cap f hc he h1 h2=>cases h;exact⟨b,o,cap,rfl,.rp b o f h1 h2⟩
 |nil he=>cases h;exact absurd h0 (by simp)
 |bI hi=>cases h;exact⟨_,_,_,rfl,.op hi⟩
 |_=>cases h
def AV.len:AV->Option Nat
 |.sl n _ _=>some n
 |.bI _ _ n _=>some n
 |_=>none
def ap.len{E:Env}{a:AV}{v:T5}{n:Nat}(hd:ap E a v)(h:a.len=some n):∃ad cap,v=.slice ad n cap:=by
 cases hd with
 |sl b o cap f hc he h1 h2=>cases h;exact⟨_,_,rfl⟩
 |nil he=>cases h;exact⟨_,_,rfl⟩
 |bI hi=>cases h;exact⟨_,_,rfl⟩
 |_=>cases h
def eN (P:Tg)(t:TypeId)(k:Nat):Option Nat:=match P.underlying t with
 |some (.struct fs)=>match fs[k]?with
  |some f=>match P.info? f.type with
   |some i=>if i.size=0 then none else some f.offset
   |none=>none
  |none=>none
 |_=>none
def n3 (P:Tg)(t:TypeId):Option (Option Nat×Nat):=match P.underlying t with
 |some (.array n e)=>(P.info? e).map λi=>(some n,i.size)
 |some (.slice e)=>(P.info? e).map λi=>(none,i.size)
 |_=>none
inductive y9 where
 |slice|map|str|arr (n:Nat)
def kj (P:Tg)(t:TypeId):Option y9:=match P.underlying t with
 |some (.slice _)=>some .slice
 |some (.map _ _)=>some .map
 |some .string=>some .str
 |some (.array n _)=>some (.arr n)
 |_=>none
def IU (P:Tg)(t:TypeId)(k:Nat):Option (Nat×Nat×Bool):=match P.underlying t with
 |some (.struct fs)=>match fs[k]?with
  |some f=>(Ty P f.type).map λx=>(f.offset,x.1,x.2)
  |none=>none
 |_=>none
def IM (P:Tg)(t:TypeId):Option (Nat×Nat×Bool):=match P.underlying t with
 |some (.array n e)=>(Ty P e).map λx=>(n,x.1,x.2)
 |_=>none
section
variable {lv:Bool}{P:Tg}{r:SL}{o:U8}{s:AS}{next:SV}{bad:AV->SV}
def aqa{t:TypeId}{x:Ui}{p:AV}{l:SC}{n:Nat}(ho:o.op=.load t x)(ht:Ty P t=some (n,true))(hx:s.ev x=some p)(hl:s.at p=some l)(hlen:n<=l.length):dq lv P r o s (.agg (l.take n)):=
 iG (λE V a hc aE=>by
  obtain⟨i,d,h1,h2,rfl,h4⟩:=Ty.out ht;obtain⟨b,off,f,hv,hg,ig,hd⟩:=hc.at (ap.ev aE hx) hl;unfold execOp;rw[ho];simp only[hv];refine ay ?_;unfold XX VT;refine ay (aq ?_);unfold loadVar;refine vf h2 ?_;rw[h4];simp only[if_true];refine jo h1 ?_;refine ay (yJ (f:=f) (λh=>ig (by omega)) (λj hj=>hg j (by omega)) ?_);exact aq (aq ⟨rfl,_,rfl,Fq hlen hd⟩))
def aqb{t:TypeId}{x:Ui}{p:AV}{l:SC}{n:Nat}{av:AV}(ho:o.op=.load t x)(ht:Ty P t=some (n,false))(hx:s.ev x=some p)(hl:s.at p=some l)(h0:l[0]?=some av):dq lv P r o s (av):=
 iG (λE V a hc aE=>by
  obtain⟨i,d,h1,h2,rfl,h4⟩:=Ty.out ht;obtain⟨b,off,f,hv,hg,ig,hd⟩:=hc.at (ap.ev aE hx) hl;unfold execOp;rw[ho];simp only[hv];refine ay ?_;unfold XX VT;refine ay (aq ?_);unfold loadVar;refine vf h2 ?_;rw[h4];simp only[UB,if_false];have hlen:0<l.length:=(Tj.1 h0).1;have kA:=hg 0 hlen;rw[Vl]at kA;exact A_ kA (.inl (ig hlen)) (b8 (aq ⟨rfl,_,rfl,hd 0 av h0⟩)))
def AV.sure:AV->Bool
 |.rp _|.op _ _=>true
 |.fn (.func _) _ _=>true
 |.fn (.yield _) _ _=>true
 |.bR _ _=>true
 |_=>false
def aqi{x:Ui}{p:AV}(ho:o.op=.nilCheck x)(hx:s.ev x=some p)(hp:p.sure=true):dq lv P r o s (p):=
 rT (λE V a hc aE=>by
  have hd:=ap.ev aE hx;refine⟨a.eval x,?_,hd⟩;unfold execOp;rw[ho];dsimp only;generalize a.eval x=v at hd⊢;cases hd with
  |rp=>rfl
  |op=>rfl
  |bR=>rfl
  |fn dA dH h1 h2=>
   rename_i f _ _ _ _;cases f with
   |func=>rfl
   |yield=>rfl
   |_=>cases hp
  |_=>cases hp)
def ap1{t:TypeId}{x:Ui}{k n:Nat}{p q:AV}(ho:o.op=.fieldAddr t x k)(ht:eN P t k=some n)(hx:s.ev x=some p)(hp:p.shift n=some q):dq lv P r o s (q):=
 iG (λE V a hc aE=>by
  obtain⟨b,off,hv,hq⟩:=(ap.ev aE hx).shift hp;unfold eN at ht;split at ht
  ·rename_i fs hu;split at ht
   ·rename_i f hf;split at ht
    ·rename_i i hi;split at ht
     ·cases ht
     ·rename_i hz;cases ht;unfold execOp;rw[ho];simp only[hv];refine ay ?_;unfold Instr.fieldAt;refine ec hu ?_;simp only[hf];unfold VT;refine ay (aq ?_);unfold fieldPlace;refine ay (jo hi ?_);rw[if_neg hz];refine aq (aq (aq ⟨rfl,_,rfl,?_⟩));rw[add_plain];exact hq
    ·cases ht
   ·cases ht
  ·cases ht)
def ap3{t:TypeId}{x ix:Ui}{a p q:AV}{k:UN}{i:Int}{n sz:Nat}(ho:o.op=.indexAddr t x ix)(ht:n3 P t=some (none,sz))(hx:s.ev x=some a)(ha:a.row=some (n,p))(hi:s.ev ix=some (.val (.int k i)))(h0:0<=i)(h1:i<n)
  (hp:p.shift (i.toNat* sz)=some q):dq lv P r o s (q):=
 iG (λE V ac hc aE=>by
  obtain⟨b,off,cap,hv,An⟩:=(ap.ev aE hx).row ha (by omega);obtain⟨b',o',hb,hq⟩:=An.shift hp;cases hb;have hd:=ap.ev aE hi;generalize qx:ac.eval ix=vi at hd;cases hd;unfold n3 at ht;split at ht
  ·obtain⟨_,_,h⟩:=kU ht;cases h
  ·rename_i e hu;obtain⟨inf,Ll,h⟩:=kU ht;cases h;unfold execOp;rw[ho];simp only[hv,qx];refine ay ?_;unfold as_ asIntOf;refine ay (aq ?_);dsimp only;refine ec hu ?_;refine ay (aq ?_);dsimp only;refine ec hu ?_;dsimp only;rw[if_pos ⟨h0,h1⟩];refine jo Ll ?_;refine aq (aq ⟨rfl,_,rfl,?_⟩);rw[add_plain];exact hq
  ·cases ht)
def ap4{t:TypeId}{x ix:Ui}{p q:AV}{k:UN}{i:Int}{n sz:Nat}(ho:o.op=.indexAddr t x ix)(ht:n3 P t=some (some n,sz))(hx:s.ev x=some p)(hi:s.ev ix=some (.val (.int k i)))(h0:0<=i)(h1:i<n)
  (hp:p.shift (i.toNat* sz)=some q):dq lv P r o s (q):=
 iG (λE V ac hc aE=>by
  obtain⟨b,off,hv,hq⟩:=(ap.ev aE hx).shift hp;have hd:=ap.ev aE hi;generalize qx:ac.eval ix=vi at hd;cases hd;unfold n3 at ht;split at ht
  ·rename_i m e hu;obtain⟨inf,Ll,h⟩:=kU ht;cases h;unfold execOp;rw[ho];simp only[hv,qx];refine ay ?_;unfold as_ asIntOf;refine ay (aq ?_);dsimp only;refine ec hu ?_;dsimp only;unfold VT;refine ay (ay (aq (aq ?_)));refine ec hu ?_;dsimp only;rw[if_pos ⟨h0,h1⟩];refine jo Ll ?_;refine aq (aq ⟨rfl,_,rfl,?_⟩);rw[add_plain];exact hq
  ·obtain⟨_,_,h⟩:=kU ht;cases h
  ·cases ht)
def acy{c:Ym}{x:Ui}{t:TypeId}{a:AV}{n:Nat}(ho:o.op=.call c)(aV:c.callee=.builtin .len)(qy:c.args[0]?=some x)(yh:c.argTypes[0]?=some t)(ht:kj P t=some .slice)(hx:s.ev x=some a)(ha:a.len=some n):dq lv P r o s (.val (.int .i64 n)):=
 iG (λE V ac hc aE=>by
  obtain⟨ad,cap,hv⟩:=(ap.ev aE hx).len ha;unfold kj at ht;split at ht<;>cases ht;rename_i e hu;unfold execOp;rw[ho];dsimp only;unfold resolve;rw[aV];dsimp only;refine ay (aq ?_);unfold invoke builtin;dsimp only;refine ay ?_;unfold Ys;have e1:(c.args.map ac.eval)[0]?=some (.slice ad n cap):=by simp[qy,hv]
  simp only[yh,e1];refine ec hu ?_;exact aq (aq ⟨rfl,_,rfl,.val _⟩))
def ap9{c:Ym}{x:Ui}{t:TypeId}{b:ByteArray}(ho:o.op=.call c)(aV:c.callee=.builtin .len)(qy:c.args[0]?=some x)(yh:c.argTypes[0]?=some t)(ht:kj P t=some .str)(hx:s.ev x=some (.val (.string b))):dq lv P r o s (.val (.int .i64 b.size)):=
 iG (λE V ac hc aE=>by
  have hd:=ap.ev aE hx;generalize hv:ac.eval x=v at hd;cases hd;unfold kj at ht;split at ht<;>cases ht;rename_i hu;unfold execOp;rw[ho];dsimp only;unfold resolve;rw[aV];dsimp only;refine ay (aq ?_);unfold invoke builtin;dsimp only;refine ay ?_;unfold Ys;have e1:(c.args.map ac.eval)[0]?=some (.string b):=by simp[qy,hv]
  simp only[yh,e1];refine ec hu ?_;exact aq (aq ⟨rfl,_,rfl,.val _⟩))
abbrev TD:=Array MapEntry
def ap7{c:Ym}{x:Ui}{t:TypeId}{id:Nat}{es:TD}{ck:Nat}(ho:o.op=.call c)(aV:c.callee=.builtin .len)(qy:c.args[0]?=some x)(yh:c.argTypes[0]?=some t)(ht:kj P t=some .map)(hx:s.ev x=some (.mp id))(hk:s.H[id]?=some (.obj (.map es ck))):dq lv P r o s (.val (.int .i64 es.size)):=
 iG (λE V ac hc aE=>by
  have hd:=ap.ev aE hx;generalize hv:ac.eval x=v at hd;cases hd;obtain⟨h1,h2,h3,h4⟩:=hc.obj id _ hk;unfold kj at ht;split at ht<;>cases ht;rename_i hu;unfold execOp;rw[ho];dsimp only;unfold resolve;rw[aV];dsimp only;refine ay (aq ?_);unfold invoke builtin;dsimp only;refine ay ?_;unfold Ys;have e1:(c.args.map ac.eval)[0]?=some (.map (some (E.blk id))):=by simp[qy,hv]
  simp only[yh,e1];refine ec hu ?_;refine ay (nX h1 h2 h3 (hc.iV hk rfl).2 (b8 ?_));exact aq (aq ⟨rfl,_,rfl,.val _⟩))
def acZ{t:TypeId}{n off:Nat}{g:Bool}{E:Env}{V:View}{l:SC}{cs:SG}{K:SP}{Kp:SP}(ht:Ty P t=some (n,g))(hd:bL E l cs)(hl:off+n<=l.length)(hn:g=false->0<n)
  (h:∀v,(g=true->ap E (.agg ((l.drop off).take n)) v)->(g=false->∀a,l[off]?=some a->ap E a v)->K v V):aR P V (part t cs off) K Kp:=by
 obtain⟨i,d,h1,h2,rfl,h4⟩:=Ty.out ht;unfold part;refine vf h2 ?_;rw[h4];cases g with
 |true=>
  simp only[if_true];refine jo h1 (aq (h _ (λ_=> .agg (by have:=hd.1;simp;omega) λj a e=> ?_) (by simp)));rw[U5]at e;split at e
  ·rename_i hj;rw[Vd]at e;have:=hd.2 _ _ e;have hlt:off+j<cs.size:=(by rw[hd.1];omega);have alB:j<(cs.extract off (off+i.size)).size:=(by have:=hd.1;simp;omega);rw[Td,Tf alB];rw[Td,Tf hlt]at this;simpa using this
  ·cases e
 |false=>
  simp only[UB,if_false];have hlt:off<cs.size:=by have:=hn rfl;rw[hd.1];omega
  rw[Tf hlt];refine aq (h _ (by simp) λ_ a e=> ?_);have:=hd.2 _ _ e;rwa[Td,Tf hlt]at this
def AV.cut (l:SC)(off n:Nat)(g:Bool):Option AV:=if off+n<=l.length/\(g=false->0<n)then(if g then some (.agg ((l.drop off).take n))else l[off]?)else none
def ap2{t:TypeId}{x:Ui}{k off n:Nat}{g:Bool}{l:SC}{av:AV}(ho:o.op=.field t x k)(ht:IU P t k=some (off,n,g))(hx:s.ev x=some (.agg l))(hv:AV.cut l off n g=some av):dq lv P r o s av:=
 iG (λE V a hc aE=>by
  have hd:=ap.ev aE hx;generalize he:a.eval x=v at hd;cases hd with
  |agg hs h=>
   unfold IU at ht;split at ht
   ·rename_i fs hu;split at ht
    ·rename_i f hf;obtain⟨⟨n',g'⟩,h1,h2⟩:=kU ht;cases h2;unfold AV.cut at hv;split at hv
     ·rename_i xT;unfold execOp;rw[ho];simp only[he];refine ay ?_;unfold Instr.field;refine ec hu ?_;simp only[hf];unfold asAgg;refine ay (aq ?_);refine acZ h1 ⟨hs,h⟩ xT.1 xT.2 λv h3 h4=>aq ⟨rfl,v,rfl,?_⟩;cases g' with
      |true=>simp only[if_true,Uh]at hv;subst hv;exact h3 rfl
      |false=>simp only[UB,if_false]at hv;exact h4 rfl _ hv
     ·cases hv
    ·cases ht
   ·cases ht)
def ap6{t:TypeId}{x ix:Ui}{n sz:Nat}{g:Bool}{l:SC}{av:AV}{k:UN}{i:Int}(ho:o.op=.index t x ix)(ht:IM P t=some (n,sz,g))(hx:s.ev x=some (.agg l))(hi:s.ev ix=some (.val (.int k i)))(h0:0<=i)(h1:i<n)(hv:AV.cut l (i.toNat* sz) sz g=some av):dq lv P r o s av:=
 iG (λE V a hc aE=>by
  have hd:=ap.ev aE hx;generalize he:a.eval x=v at hd;have oA:=ap.ev aE hi;generalize K1:a.eval ix=vi at oA;cases oA;cases hd with
  |agg hs h=>
   unfold IM at ht;split at ht
   ·rename_i m e hu;obtain⟨⟨n',g'⟩,h2,h3⟩:=kU ht;cases h3;unfold AV.cut at hv;split at hv
    ·rename_i xT;obtain⟨inf,d,q1,q2,q3,q4⟩:=Ty.out h2;unfold execOp;rw[ho];simp only[he,K1];refine ay ?_;unfold avC asIntOf;refine ay (aq ?_);dsimp only;refine ec hu ?_;dsimp only;rw[if_pos ⟨h0,h1⟩];refine jo q1 ?_;rw[q3];refine acZ h2 ⟨hs,h⟩ xT.1 xT.2 λv h4 h5=>aq ⟨rfl,v,rfl,?_⟩;cases g' with
     |true=>simp only[if_true,Uh]at hv;subst hv;exact h4 rfl
     |false=>simp only[UB,if_false]at hv;exact h5 rfl _ hv
    ·cases hv
   ·cases ht)
def ap5{t:TypeId}{x ix:Ui}{b:ByteArray}{k:UN}{i:Int}{c:UInt8}(ho:o.op=.index t x ix)(ht:kj P t=some .str)(hx:s.ev x=some (.val (.string b)))(hi:s.ev ix=some (.val (.int k i)))(h0:0<=i)(h1:b[i.toNat]?=some c):dq lv P r o s (.val (.int .u8 c.toNat)):=
 iG (λE V a hc aE=>by
  have hd:=ap.ev aE hx;generalize he:a.eval x=v at hd;have oA:=ap.ev aE hi;generalize K1:a.eval ix=vi at oA;cases oA;cases hd;unfold kj at ht;split at ht<;>cases ht;rename_i hu;unfold execOp;rw[ho];simp only[he,K1];refine ay ?_;unfold avC asIntOf;refine ay (aq ?_);dsimp only;refine ec hu ?_;dsimp only;rw[if_pos h0,h1];exact aq (aq ⟨rfl,_,rfl,.val _⟩))
def P7{E:Env}{s:AS}{a:Act}(k:cm E s.T a.tmps){l:Array Ui}{aG:SC}(h:l.toList.mapM s.ev=some aG):bL E aG (l.map a.eval):=by
 have key:∀(l:List Ui)(aG:SC),l.mapM s.ev=some aG->bL E aG (l.map a.eval).toArray:=by
  intro l;induction l with
  |nil=>intro aG h;simp at h;subst h;exact⟨rfl,by simp⟩
  |cons x l ih=>
   intro aG h;simp only[UY,U7,UL,Uc,Uh]at h;obtain⟨b,h1,bs,h2,rfl⟩:=h;have:=ih bs h2;refine⟨by have:=this.1;simpa using this,λi c e=> ?_⟩;cases i with
   |zero=>simp at e;subst e;simpa[Td]using ap.ev k h1
   |succ i=>
    simp only[Vy]at e;have:=this.2 i c e;simpa[Td]using this
 have:=key l.toList aG h;have e:l.map a.eval=(l.toList.map a.eval).toArray:=by apply Ws;simp
 rw[e];exact this
def aqd{f:Fn}{first cT:Array Ui}{fa ca:SC}(ho:o.op=.makeFunc f first cT)(h1:first.toList.mapM s.ev=some fa)(h2:cT.toList.mapM s.ev=some ca):dq lv P r o s (.fn f fa ca):=
 rT (λE V a hc ht=>by
  have d1:=P7 ht h1;have d2:=P7 ht h2;exact⟨_,by unfold execOp;rw[ho];rfl,.fn d1.1 d2.1 d1.2 d2.2⟩)
def lx (P:Tg)(t:TypeId):Option Bool:=(P.underlying t).map λ|.interface _=>true|_=>false
def aqe{t:TypeId}{x:Ui}{av:AV}(ho:o.op=.makeInterface t x)(ht:lx P t=some false)(hx:s.ev x=some av):dq lv P r o s (.bR t av):=
 iG (λE V a hc aE=>by
  obtain⟨d,hu,hd⟩:=kU ht;unfold execOp;rw[ho];dsimp only;refine ay ?_;unfold Instr.makeInterface;refine ec hu ?_;split
  ·cases hd
  ·exact aq (aq ⟨rfl,_,rfl,.bR (ap.ev aE hx)⟩))
def Bs (P:Tg)(src dst:TypeId):Option (Option UN):=(P.underlying src).bind λ_=>match P.underlying dst with
 |some (.int k)=>some (some k)
 |_=>none
def apX{src dst:TypeId}{x:Ui}{k j:UN}{n:Int}(ho:o.op=.convert src dst x)(ht:Bs P src dst=some (some k))(hx:s.ev x=some (.val (.int j n))):dq lv P r o s (.val (.int k (k.wrap n))):=
 iG (λE V a hc aE=>by
  have hd:=ap.ev aE hx;generalize he:a.eval x=v at hd;cases hd;unfold Bs at ht;obtain⟨d,h1,h2⟩:=Uc.1 ht;split at h2
  ·rename_i k' hu;cases h2;unfold execOp;rw[ho];simp only[he];refine ay ?_;unfold convert;refine ec h1 (ec hu ?_);dsimp only;exact aq (aq ⟨rfl,_,rfl,.val _⟩)
  ·cases h2)
end
def Env.add (E:Env)(r:Nat)(I:cr):Env:={E with I:=I,n:=E.n+1,blk:=λk=>if k=E.n then r else E.blk k}
def Env.pz(E:Env)(r:Nat){I:cr}(hI:∀b o v,E.I b o=some v->I b o=some v):E.Le (E.add r I):=
 ⟨hI,Z2 _,λk hk=>by simp[Env.add,XE hk],λ_ _=>Tm _,λ_ _ _ _=>rfl,rfl,rfl⟩
def View.iu (V:View)(b:Nat)(cs:SG)(p:Nat->Bool):View:={V with ab:=λb' o=>if b'=b/\p o=true then cs[o]?else V.ab b' o}
def zJ{V:View}{b:Nat}{cs:SG}{el:TypeId}{f:Nat×Nat}{p:Nat->Bool}(ho:V.own b=some (.cells cs el f))(hp:∀o,p o=true->V.ab b o=none):d_ V (V.iu b cs p)where
 sat w h:=⟨λb' o v e=>by
   simp only[View.iu]at e;split at e
   ·rename_i hb;obtain⟨rfl,_⟩:=hb;have:=h.own _ _ ho;simpa[Vs,this]using e
   ·exact h.ab _ _ _ e,λb' x e=>h.own b' x e⟩
 own b' e:=e
 ab b' o v e:=by
  have hn:¬(b'=b/\p o=true):=λhb=>by obtain⟨rfl,h2⟩:=hb;rw[hp o h2]at e;cases e
  simp only[View.iu,if_neg hn];exact e
 kH b' o v e:=by
  simp only[View.iu]at e;split at e
  ·rename_i hb;obtain⟨rfl,_⟩:=hb;exact .inr (by rw[ho];simp)
  ·exact .inl e
 deaf:=rfl
 role:=rfl
 chan c x _ h:=h
def View.j_ (V:View)(r:Nat)(cs:SG):View:={V with ab:=λb o=>if b=r then cs[o]?else V.ab b o}
def akp{V:View}{r:Nat}{cs:SG}{el:TypeId}{f:Nat×Nat}(hf:V.fresh r)(hc:V.role.chan≠some r):d_ (V.upd r (.cells cs el f)) (V.j_ r cs)where
 sat w h:=⟨λb o v e=>by
   simp only[View.j_]at e;split at e
   ·rename_i hb;subst hb;have:=h.own b (.cells cs el f) (by simp[View.upd]);simpa[Vs,this]using e
   ·exact h.ab b o v e,λb x e=>by
   have hb:b≠r:=λhb=>(by subst hb;rw[show (V.j_ b cs).own b=V.own b from rfl,hf.1]at e;cases e);have e':V.own b=some x:=e;exact h.own b x (by simpa[View.upd,hb]using e')⟩
 own b e:=by
  simp only[View.upd]at e;split at e
  ·cases e
  ·exact e
 ab b o v e:=by
  have e':V.ab b o=some v:=e;have hb:b≠r:=λhb=>by subst hb;rw[hf.2 o]at e';cases e'
  simpa[View.j_,hb]using e'
 kH b o v e:=by
  simp only[View.j_]at e;split at e
  ·rename_i hb;exact .inr (by simp[View.upd,hb])
  ·exact .inl e
 deaf:=rfl
 role:=rfl
 chan c x Sa h:=by
  have hb:c≠r:=λhb=>by subst hb;exact hc Sa
  have h':V.own c=some x:=by simpa[View.upd,hb]using h
  exact h'
def Conc.ake{E:Env}{V:View}{H:SA}(hc:Conc E V H){r:Nat}(hf:V.own r=none):V.role.chan≠some r/\V.role.group≠some r:=
 ⟨λe=>(hc.chan r e).1 hf,λe=>(hc.group r e).1 hf⟩
def Conc.add{E:Env}{V:View}{H:SA}(hc:Conc E V H){r:Nat}(hf:V.fresh r)(y:Obj){x:aa}(hx:fQ (E.add r V.ab) (V.upd r y) E.n x)(hb:∀b,bJ (E.add r V.ab) E.n x=some b->b=r):Conc (E.add r V.ab) (V.upd r y) (H++[x]):=by
 refine hc.iY (E':=E.add r V.ab) H.length x (E.pz r (λb o v h=>by rw[<- hc.I];exact h)) rfl (by simp[Env.add,hc.n]) DJ rfl (λ_ _ _=>rfl) (λb z _ hz=>⟨?_,λ_=>rfl⟩) (by rw[<- hc.n];exact hx) (λb h=> .inr ?_)
 ·have:b≠r:=λe=>by rw[e,hf.1]at hz;cases hz
  simpa[View.upd,this]using hz
 ·rw[<- hc.n]at h;rw[hb b h];exact hf.1
def Env.dE(E:Env)(r:Nat)(I:cr):(E.add r I).blk E.n=r:=by simp[Env.add]
def Jt{E:Env}{H:SA}(hn:E.n=H.length)(r:Nat)(I:cr):ap (E.add r I) (.op H.length 0) (.pointer (some ⟨r,0,none⟩)):=by
 have:=ap.op (E:=E.add r I) (id:=H.length) (off:=0) (by show _<E.n+1;rw[hn];omega);have e:(E.add r I).blk H.length=r:=by rw[<- hn];exact E.dE r I
 rwa[e]at this
def AV.parts:AV->Option (SC)
 |.agg l=>some l
 |.aF _=>none
 |.val (.agg _)=>none
 |a=>some [a]
def ap.parts{E:Env}{a:AV}{v:T5}{l:SC}(h:ap E a v)(hp:a.parts=some l):bL E l v.cells:=by
 have one:∀a v,ap E a v->v.cells=#[v]->bL E [a] v.cells:=λa v h e=>by
  rw[e];refine⟨rfl,λi x hx=> ?_⟩;have hi:i=0:=by have:=(Tj.1 hx).1;simpa using this
  subst hi;simp at hx;subst hx;simpa using h
 cases h with
 |val=>cases v<;>first|(cases hp;exact one _ _ (.val _) rfl)|cases hp
 |agg hs h=>cases hp;exact⟨hs,h⟩
 |aF hs h=>cases hp
 |sl b o cap f hc he h1 h2=>cases hp;exact one _ _ (.sl b o cap f hc he h1 h2) rfl
 |nil he=>cases hp;exact one _ _ (.nil he) rfl
 |bI hi dK=>cases hp;exact one _ _ (.bI hi dK) rfl
 |rp b o f h1 h2=>cases hp;exact one _ _ (.rp b o f h1 h2) rfl
 |op hi=>cases hp;exact one _ _ (.op hi) rfl
 |fn dA dH h1 h2=>cases hp;exact one _ _ (.fn dA dH h1 h2) rfl
 |bR h=>cases hp;exact one _ _ (.bR h) rfl
 |mp hi=>cases hp;exact one _ _ (.mp hi) rfl
def eJ (P:Tg)(t:TypeId):Option T5:=(P.info? t).bind (·.zero)
def l7 (z:T5):SC:=z.cells.toList.map AV.pD
def Jx(E:Env)(z:T5):bL E (l7 z) z.cells:=by
 refine⟨by simp[l7],λi a h=> ?_⟩;unfold l7 at h;rw[Uo]at h;obtain⟨x,hx,rfl⟩:=Uq.1 h;have:z.cells[i]?=some x:=by simpa using hx
 rw[Td,this];exact Ju E x
section
variable {P:Tg}{V:View}{α:Type}{K:α->View->Prop}{Kp:SP}
def HZ{t:TypeId}{z:T5}{k:T5->Sem α}(h:eJ P t=some z)(hk:aR P V (k z) K Kp):aR P V (zeroValue t>>=k) K Kp:=by
 unfold eJ at h;obtain⟨i,h1,h2⟩:=Uc.1 h;refine ay ?_;unfold zeroValue;refine yM h1 ?_;rw[h2];exact aq hk
end
section
variable {lv:Bool}{P:Tg}{r:SL}{o:U8}{s:AS}{next:SV}{bad:AV->SV}
def adu{t:TypeId}{l:SC}(h:∀(E:Env)(V:View)(a:Act),Conc E V s.H->cm E s.T a.tmps->∃cs,bL E l cs/\aR P V (execOp a.eval o) (λnx V'=>∃rr,V.fresh rr/\V'=V.upd rr (.cells cs t)/\nx=.value (.pointer (some ⟨rr,0,none⟩))) (λ_ _=>False))
  (hn:next ((⟨s.T,s.H++[.cells l t]⟩:AS).put o.dst (.op s.H.length 0))):Step lv P r o s next bad:=by
 intro E V a N Q hc ht hd bt h1 _;obtain⟨cs,kz,qt⟩:=h E V a hc ht;refine⟨bt,qt.mono (λnx V' hx=> ?_) (λ_ _ hx=>hx.elim)⟩;obtain⟨rr,hf,rfl,rfl⟩:=hx;have hle:E.Le (E.add rr V.ab):=E.pz rr (λb o v h=>by rw[<- hc.I];exact h);have bi:Conc (E.add rr V.ab) (V.upd rr (.cells cs t)) (s.H++[.cells l t]):=by
  refine hc.add hf _ ⟨⟨cs,?_,kz.mono hle⟩,λo=> ?_⟩ (λb e=> ?_)
  ·rw[Env.dE];simp[View.upd]
  ·rw[Env.dE];exact hf.2 o
  ·simp only[bJ,Env.dE,Uh]at e;exact e.symm
 exact h1 _ _ (a.put o.dst (.pointer (some ⟨rr,0,none⟩))) ((⟨s.T,s.H++[.cells l t]⟩:AS).put o.dst (.op s.H.length 0)) ⟨hle,dY _ _ _,put_defers _ _ _,rfl,rfl⟩ (by rw[e_];exact bi)
  (cm.gM (s:=⟨s.T,s.H++[.cells l t]⟩) (ht.mono hle) hd (Jt hc.n rr V.ab)) hn
def adq{t:TypeId}{x:Ui}{av:AV}{l:SC}(ho:o.op=.box t x)(hx:s.ev x=some av)(hl:av.parts=some l)(hn:next ((⟨s.T,s.H++[.cells l t]⟩:AS).put o.dst (.op s.H.length 0))):Step lv P r o s next bad:=
 adu (λE V a hc ht=>⟨(a.eval x).cells,(ap.ev ht hx).parts hl,by
  unfold execOp;rw[ho];dsimp only;refine ay ?_;unfold Instr.box newVar newRow;refine ay (ay (ay (nY λrr hf=>b8 (aq (aq (aq (aq ⟨rr,hf,rfl,rfl⟩)))))))⟩) hn
def adn{t:TypeId}{z:T5}(ho:o.op=.alloc t)(hz:eJ P t=some z)(hn:next ((⟨s.T,s.H++[.cells (l7 z) t]⟩:AS).put o.dst (.op s.H.length 0))):Step lv P r o s next bad:=
 adu (λE V a hc ht=>⟨z.cells,Jx E z,by
  unfold execOp;rw[ho];dsimp only;refine ay ?_;unfold Instr.alloc;refine HZ hz ?_;unfold newVar newRow;refine ay (ay (ay (nY λrr hf=>b8 (aq (aq (aq (aq ⟨rr,hf,rfl,rfl⟩)))))))⟩) hn
def asc{t:TypeId}(ho:o.op=.makeMap t none)(hn:next ((⟨s.T,s.H++[.obj (.map #[] 0)]⟩:AS).put o.dst (.mp s.H.length))):Step lv P r o s next bad:=by
 intro E V a N Q hc ht hd bt h1 _;refine⟨bt,?_⟩;unfold execOp;rw[ho];dsimp only;refine ay ?_;unfold Instr.makeMap;refine ay (nY λrr hf=>b8 (aq (aq ?_)));have hle:E.Le (E.add rr V.ab):=E.pz rr (λb o v h=>by rw[<- hc.I];exact h);have bi:Conc (E.add rr V.ab) (V.upd rr (.map #[] 0)) (s.H++[.obj (.map #[] 0)]):=by
  refine hc.add hf _ ⟨?_,rfl,rfl,λo=> ?_⟩ (λb e=> ?_)
  ·rw[Env.dE];simp[View.upd]
  ·rw[Env.dE];exact hf.2 o
  ·simp only[bJ,Env.dE,Uh]at e;exact e.symm
 have bh:ap (E.add rr V.ab) (.mp s.H.length) (.map (some rr)):=by
  have:=ap.mp (E:=E.add rr V.ab) (id:=s.H.length) (by show _<E.n+1;rw[hc.n];omega);have e:(E.add rr V.ab).blk s.H.length=rr:=by rw[<- hc.n];exact E.dE rr _
  rwa[e]at this
 exact h1 _ _ (a.put o.dst (.map (some rr))) ((⟨s.T,s.H++[.obj (.map #[] 0)]⟩:AS).put o.dst (.mp s.H.length)) ⟨hle,dY _ _ _,put_defers _ _ _,rfl,rfl⟩ (by rw[e_];exact bi)
  (cm.gM (s:=⟨s.T,s.H++[.obj (.map #[] 0)]⟩) (ht.mono hle) hd bh) hn
end
def storeAt:Array T5->Nat->List T5->Array T5
 |cs,_,[]=>cs
 |cs,o,v::vs=>storeAt (cs.setIfInBounds o v) (o+1) vs
abbrev S5:=List T5
def yO:∀(vs:S5)(cs:SG)(o:Nat),(storeAt cs o vs).size=cs.size
 |[],_,_=>rfl
 |v::vs,cs,o=>by rw[storeAt,yO];simp
def Ee:∀(vs:S5)(cs:SG)(o k:Nat),o+vs.length<=cs.size->(storeAt cs o vs).getD k undef=if o<=k/\k<o+vs.length then vs.getD (k-o) undef else cs.getD k undef
 |[],cs,o,k,_=>by
  have:¬(o<=k/\k<o+([]:S5).length):=by intro h;simp only[VR]at h;omega
  rw[if_neg this];rfl
 |v::vs,cs,o,k,h=>by
  simp only[UU]at h;rw[storeAt,Ee vs _ (o+1) k (by simp;omega)];by_cases h1:k=o
  ·subst h1;rw[if_neg (by omega),if_pos (by simp)];simp[Td,T8 (show k<cs.size by omega)]
  ·by_cases h2:o+1<=k/\k<o+1+vs.length
   ·rw[if_pos h2,if_pos (by simp only[UU];omega)];have:k-o=(k-(o+1))+1:=(by omega);rw[this];simp[Se]
   ·rw[if_neg h2,if_neg (by simp only[UU];omega)];simp[Td,Tq (Ne.symm h1)]
def atm(V:View)(b:Nat)(x y:Obj):(V.upd b x).upd b y=V.upd b y:=by
 unfold View.upd;congr 1;funext k;dsimp only;split<;>rfl
def atn{V:View}{b:Nat}{x:Obj}(h:V.own b=some x):V.upd b x=V:=by
 unfold View.upd;have:(λk=>if k=b then some x else V.own k)=V.own:=by
  funext k;split
  ·rename_i e;subst e;rw[h]
  ·rfl
 rw[this]
section
variable {P:Tg}{K:Unit->View->Prop}{Kp:SP}{b off:Nat}{el:TypeId}
def yL:∀(vs:S5)(i:Nat)(V:View)(cs:SG),V.role.group≠some b->V.role.chan≠some b->V.own b=some (.cells cs el (0,0))->(∀o,off+i<=o->o<off+i+vs.length->V.ab b o=none)->off+i+vs.length<=cs.size->(∀v∈vs,v.one=true)->
  K () (V.upd b (.cells (storeAt cs (off+i) vs) el (0,0)))->aR P V (storeCells ⟨b,off,none⟩ vs i) K Kp
 |[],i,V,cs,hg,hc,ho,hi,hl,hv,h=>by
  unfold storeCells;rw[show storeAt cs (off+i) []=cs from rfl,atn ho]at h;exact aq h
 |v::vs,i,V,cs,hg,hc,ho,hi,hl,hv,h=>by
  unfold storeCells;rw[add_plain];simp only[UU]at hl hi;refine ay (arx ho (by omega) (hi _ (by omega) (by omega)) (hv v (Ut ..)) (by omega) (.inl hg) hc (b8 ?_));refine yL vs (i+1) (V.upd b (.cells (cs.setIfInBounds (off+i) v) el (0,0))) (cs.setIfInBounds (off+i) v) hg hc (by simp[View.upd]) (λo h1 h2=>hi o (by omega) (by omega)) (by simp;omega) (λx hx=>hv x (T_ _ hx)) ?_;rw[atm];exact h
end
def Conc.set{E:Env}{V:View}{H:SA}(hc:Conc E V H){id:Nat}{l l':SC}{el:TypeId}(hk:H[id]?=some (.cells l el)){cw:SG}(hd:bL E l' cw):Conc E (V.upd (E.blk id) (.cells cw el (0,0))) (H.set id (.cells l' el)):=by
 obtain⟨⟨cs,h1,_⟩,h3⟩:=hc.obj id _ hk;refine hc.iY id (.cells l' el) (Env.Le.refl E) hc.I (by simpa using hc.n) lU rfl (λ_ _ _=>rfl) (λb y hb hy=>⟨?_,λ_=>rfl⟩) ⟨⟨cw,by simp[View.upd],hd⟩,h3⟩ (λb h=> .inl ⟨_,hk,h⟩);have:b≠E.blk id:=λe=>hb _ hk (by rw[e];rfl);simpa[View.upd,this]using hy
def adx:∀(vs:S5)(cs:SG)(off o:Nat),o<off->(storeAt cs off vs)[o]?=cs[o]?
 |[],_,_,_,_=>rfl
 |v::vs,cs,off,o,h=>by
  rw[storeAt,adx vs _ (off+1) o (by omega),Tq (by omega)]
def Conc.Ea{E:Env}{V:View}{H:SA}(hc:Conc E V H){id p:Nat}{l l':SC}{el:TypeId}(hk:H[id]?=some (.part p l el)){cs cw:SG}(h1:V.own (E.blk id)=some (.cells cs el (0,0)))(hd:jR E l' cw)(hs:∀o,o<p->cw[o]?=cs[o]?):Conc E (V.upd (E.blk id) (.cells cw el (0,0))) (H.set id (.part p l' el)):=by
 obtain⟨⟨zr,q1,_,q2⟩,h3⟩:=hc.obj id _ hk;rw[h1]at q1;cases q1;refine hc.iY id (.part p l' el) (Env.Le.refl E) hc.I (by simpa using hc.n) lU rfl (λ_ _ _=>rfl) (λb y hb hy=>⟨?_,λ_=>rfl⟩) ⟨⟨cw,by simp[View.upd],hd,λo ho=>(q2 o ho).trans (hs o ho).symm⟩,h3⟩ (λb h=> .inl ⟨_,hk,h⟩);have:b≠E.blk id:=λe=>hb _ hk (by rw[e];rfl);simpa[View.upd,this]using hy
def Conc.ac7{E:Env}{V:View}{H:SA}(hc:Conc E V H){id sz:Nat}{l l':SC}{el:TypeId}(hk:H[id]?=some (.own sz l el)){cw:SG}(hd:jR E l' cw)(hz:cw.size=(E.room id 0).2* sz):Conc E (V.upd (E.blk id) (.cells cw el (0,0))) (H.set id (.own sz l' el)):=by
 obtain⟨⟨cs,h1,_⟩,h3⟩:=hc.obj id _ hk;refine hc.iY id (.own sz l' el) (Env.Le.refl E) hc.I (by simpa using hc.n) lU rfl (λ_ _ _=>rfl) (λb y hb hy=>⟨?_,λ_=>rfl⟩) ⟨⟨cw,by simp[View.upd],hd,hz⟩,h3⟩ (λb h=> .inl ⟨_,hk,h⟩);have:b≠E.blk id:=λe=>hb _ hk (by rw[e];rfl);simpa[View.upd,this]using hy
def Conc.setObj{E:Env}{V:View}{H:SA}(hc:Conc E V H){id:Nat}{x y:Obj}(hk:H[id]?=some (.obj x))(h1:y.uU=false)(h2:y.isChan=false):Conc E (V.upd (E.blk id) y) (H.set id (.obj y)):=by
 obtain⟨p1,p2,p3,p4⟩:=hc.obj id _ hk;refine hc.iY id (.obj y) (Env.Le.refl E) hc.I (by simpa using hc.n) lU rfl (λ_ _ _=>rfl) (λb z hb hz=>⟨?_,λ_=>rfl⟩) ⟨by simp[View.upd],h1,h2,p4⟩ (λb h=> .inl ⟨_,hk,h⟩);have:b≠E.blk id:=λe=>hb _ hk (by rw[e];rfl);simpa[View.upd,this]using hz
def anv{E:Env}{a:AV}{v:T5}(h:ap E a v)(hl:a.leaf=true):v.one=true:=by
 cases h with
 |val x=>exact hl
 |agg _ _=>cases hl
 |aF _ _=>cases hl
 |_=>rfl
def iw (l:SC)(off:Nat)(lp:SC):SC:=l.take off++lp++l.drop (off+lp.length)
def Ft{E:Env}{l lp:SC}{cs vs:SG}{off:Nat}(h:bL E l cs)(k:bL E lp vs)(hl:off+lp.length<=l.length):bL E (iw l off lp) (storeAt cs off vs.toList):=by
 have hv:vs.toList.length=lp.length:=by simpa using k.1
 refine⟨by rw[yO,h.1];simp[iw];omega,λi a e=> ?_⟩;rw[Ee _ _ _ _ (by rw[h.1,hv];exact hl),hv];unfold iw at e;by_cases h1:i<off
 ·rw[if_neg (by omega)];rw[Ax,Tw (by simp;omega),U5,if_pos h1]at e;exact h.2 i a e
 ·by_cases h2:i<off+lp.length
  ·rw[if_pos ⟨by omega,h2⟩];rw[Tw (by simp;omega),Ud (by simp;omega)]at e;have e':lp[i-off]?=some a:=by
    have:min off l.length=off:=(by omega);simpa[this]using e
   have:=k.2 _ a e';simpa[Td,Se]using this
  ·rw[if_neg (by omega)];rw[Ud (by simp;omega),Vd]at e;have e':l[i]?=some a:=by
    have h3:off+lp.length+(i-(l.take off++lp).length)=i:=(by simp;omega);rw[h3]at e;exact e
   exact h.2 i a e'
def Qc{E:Env}{l lp:SC}{cs vs:SG}{off:Nat}(h:jR E l cs)(k:bL E lp vs)(hl:off+lp.length<=l.length):jR E (iw l off lp) (storeAt cs off vs.toList):=by
 have hv:vs.toList.length=lp.length:=by simpa using k.1
 refine⟨by rw[yO];have:=h.1;simp[iw];omega,λi a e=> ?_⟩;rw[Ee _ _ _ _ (by have:=h.1;rw[hv];omega),hv];unfold iw at e;by_cases h1:i<off
 ·rw[if_neg (by omega)];rw[Ax,Tw (by simp;omega),U5,if_pos h1]at e;exact h.2 i a e
 ·by_cases h2:i<off+lp.length
  ·rw[if_pos ⟨by omega,h2⟩];rw[Tw (by simp;omega),Ud (by simp;omega)]at e;have e':lp[i-off]?=some a:=by
    have:min off l.length=off:=(by omega);simpa[this]using e
   have:=k.2 _ a e';simpa[Td,Se]using this
  ·rw[if_neg (by omega)];rw[Ud (by simp;omega),Vd]at e;have e':l[i]?=some a:=by
    have h3:off+lp.length+(i-(l.take off++lp).length)=i:=(by simp;omega);rw[h3]at e;exact e
   exact h.2 i a e'
def zv{E:Env}{lp:SC}{vs:SG}(h:bL E lp vs)(nH:∀a∈lp,a.leaf=true):∀v∈vs.toList,v.one=true:=by
 intro v hv;obtain⟨j,hj⟩:=VF.1 hv;have ff:j<lp.length:=by have:=(Tj.1 hj).1;have:=h.1;simp at*;omega
 have:=h.2 j lp[j] (Ts ff);have iC:vs[j]?=some v:=by simpa using hj
 rw[Td,iC]at this;exact anv this (nH _ (WX ff))
section
variable {lv:Bool}{P:Tg}{r:SL}{o:U8}{s:AS}{next:SV}{bad:AV->SV}
def adv{t:TypeId}{x y:Ui}{id off n:Nat}{l lp:SC}{el:TypeId}{g:Bool}{av:AV}(ho:o.op=.store t x y)(ht:Ty P t=some (n,g))(hx:s.ev x=some (.op id off))(hk:s.H[id]?=some (.cells l el))(hy:s.ev y=some av)(hp:av.parts=some lp)(kC:lp.length=n)(hl:off+lp.length<=l.length)
  (nH:∀a∈lp,a.leaf=true) (hn:next ((⟨s.T,s.H.set id (.cells (iw l off lp) el)⟩:AS).put o.dst (.val undef))):Step lv P r o s next bad:=by
 intro E V a N Q hc aE hd bt h1 _;obtain⟨i,d,q1,q2,rfl,q4⟩:=Ty.out ht;have dw:=ap.ev aE hx;generalize j8:a.eval x=vx at dw;cases dw with
 |op cq=>
  have bh:=(ap.ev aE hy).parts hp;obtain⟨⟨cs,p1,p2⟩,p3⟩:=hc.obj id _ hk;obtain⟨g1,g2⟩:=hc.iV hk rfl;refine⟨bt,?_⟩;unfold execOp;rw[ho];simp only[j8];refine ay ?_;unfold Zh VT;refine ay (aq ?_);unfold storeVar;refine jo q1 ?_;rw[if_neg (by rw[bh.1,kC];simp)];refine yL _ 0 V cs g1 g2 p1 (λo _ _=>p3 o) (by have:=bh.1;have:=p2.1;simp;omega) (zv bh nH) ?_;rw[Vl];exact aq (h1 E _ (a.put o.dst undef) _ ⟨Env.Le.refl E,dY _ _ _,put_defers _ _ _,rfl,rfl⟩ (by rw[e_];exact hc.set hk (Ft p2 bh hl))
   (cm.gM (s:=⟨s.T,s.H.set id (.cells (iw l off lp) el)⟩) aE hd (.val undef)) hn)
def asj{t:TypeId}{x y:Ui}{id off n p:Nat}{l lp:SC}{el:TypeId}{g:Bool}{av:AV}(ho:o.op=.store t x y)(ht:Ty P t=some (n,g))(hx:s.ev x=some (.op id off))(hk:s.H[id]?=some (.part p l el))(hpo:p<=off)(hy:s.ev y=some av)(hp:av.parts=some lp)(kC:lp.length=n)(hl:off+lp.length<=l.length)
  (nH:∀a∈lp,a.leaf=true) (hn:next ((⟨s.T,s.H.set id (.part p (iw l off lp) el)⟩:AS).put o.dst (.val undef))):Step lv P r o s next bad:=by
 intro E V a N Q hc aE hd bt h1 _;obtain⟨i,d,q1,q2,rfl,q4⟩:=Ty.out ht;have dw:=ap.ev aE hx;generalize j8:a.eval x=vx at dw;cases dw with
 |op cq=>
  have bh:=(ap.ev aE hy).parts hp;obtain⟨⟨cs,p1,p2,p4⟩,p3⟩:=hc.obj id _ hk;obtain⟨g1,g2⟩:=hc.iV hk rfl;refine⟨bt,?_⟩;unfold execOp;rw[ho];simp only[j8];refine ay ?_;unfold Zh VT;refine ay (aq ?_);unfold storeVar;refine jo q1 ?_;rw[if_neg (by rw[bh.1,kC];simp)];refine yL _ 0 V cs g1 g2 p1 (λo _ _=>p3 o (by omega)) (by have:=bh.1;have:=p2.1;simp;omega) (zv bh nH) ?_;rw[Vl];exact aq (h1 E _ (a.put o.dst undef) _ ⟨Env.Le.refl E,dY _ _ _,put_defers _ _ _,rfl,rfl⟩ (by rw[e_];exact hc.Ea hk p1 (Qc p2 bh hl) λo ho=>adx _ _ _ _ (by omega))
   (cm.gM (s:=⟨s.T,s.H.set id (.part p (iw l off lp) el)⟩) aE hd (.val undef)) hn)
def adw{t:TypeId}{x y:Ui}{id off n p:Nat}{l lp:SC}{el:TypeId}{g:Bool}{av:AV}(ho:o.op=.store t x y)(ht:Ty P t=some (n,g))(hx:s.ev x=some (.op id off))(hk:s.H[id]?=some (.own p l el))(hy:s.ev y=some av)(hp:av.parts=some lp)(kC:lp.length=n)(hl:off+lp.length<=l.length)
  (nH:∀a∈lp,a.leaf=true) (hn:next ((⟨s.T,s.H.set id (.own p (iw l off lp) el)⟩:AS).put o.dst (.val undef))):Step lv P r o s next bad:=by
 intro E V a N Q hc aE hd bt h1 _;obtain⟨i,d,q1,q2,rfl,q4⟩:=Ty.out ht;have dw:=ap.ev aE hx;generalize j8:a.eval x=vx at dw;cases dw with
 |op cq=>
  have bh:=(ap.ev aE hy).parts hp;obtain⟨⟨cs,p1,p2,p4⟩,p3⟩:=hc.obj id _ hk;obtain⟨g1,g2⟩:=hc.iV hk rfl;refine⟨bt,?_⟩;unfold execOp;rw[ho];simp only[j8];refine ay ?_;unfold Zh VT;refine ay (aq ?_);unfold storeVar;refine jo q1 ?_;rw[if_neg (by rw[bh.1,kC];simp)];refine yL _ 0 V cs g1 g2 p1 (λo _ _=>p3 o) (by have:=bh.1;have:=p2.1;simp;omega) (zv bh nH) ?_;rw[Vl];exact aq (h1 E _ (a.put o.dst undef) _ ⟨Env.Le.refl E,dY _ _ _,put_defers _ _ _,rfl,rfl⟩ (by rw[e_];exact hc.ac7 hk (Qc p2 bh hl) (by rw[yO];exact p4))
   (cm.gM (s:=⟨s.T,s.H.set id (.own p (iw l off lp) el)⟩) aE hd (.val undef)) hn)
def Conc.j_{E:Env}{V:View}{H:SA}(hc:Conc E V H){r:Nat}(hf:V.fresh r)(cs:SG):E.Le {E with I:=(V.j_ r cs).ab}/\Conc {E with I:=(V.j_ r cs).ab} (V.j_ r cs) H:=by
 have hle:E.Le {E with I:=(V.j_ r cs).ab}:=⟨λb o v h=>by
  rw[hc.I]at h;have hb:b≠r:=λhb=>by subst hb;rw[hf.2 o]at h;cases h
  simpa[View.j_,hb]using h,Tm _,λ_ _=>rfl,λ_ _=>Tm _,λ_ _ _ _=>rfl,rfl,rfl⟩
 have hlt:∀(k:Nat) y,H[k]?=some y->k<E.n:=λk y h=>by rw[hc.n];exact(Tj.1 h).1
 refine⟨hle,rfl,hc.n,λk x h=>(hc.obj k x h).mono hle (hlt k x h) rfl (λb y _ hb=>hb) (λb hb o=> ?_),hc.inj,λg hg=> ?_,λg hg=> ?_,hc.top,λb y hg=> ?_⟩
 ·obtain⟨y,hy⟩:=(hc.obj k x h).B4 hb;have aH:b≠r:=λe=>by subst e;rw[hf.1]at hy;cases hy
  simp[View.j_,aH]
 ·obtain⟨h0,h1,h2⟩:=hc.group g hg;have aH:g≠r:=λe=>by subst e;exact h0 hf.1
  exact⟨h0,λo=>by simp[View.j_,aH,h1 o],h2⟩
 ·obtain⟨h0,h1,h2⟩:=hc.chan g hg;have aH:g≠r:=λe=>by subst e;exact h0 hf.1
  exact⟨h0,λo=>by simp[View.j_,aH,h1 o],h2⟩
 ·obtain⟨h0,h1,h2⟩:=hc.fr b y hg;have aH:b≠r:=λe=>by subst e;rw[hf.1]at h0;cases h0
  exact⟨h0,λo=>by simp[View.j_,aH,h1 o],h2⟩
def ap.apJ{E:Env}{V:View}{H:SA}(hc:Conc E V H){r:Nat}(hf:V.fresh r){cs:SG}{l:SC}(h:bL E l cs){n cap:Nat}(dK:n<=cap){e:End}(he:pK {E with I:=(V.j_ r cs).ab} e (some ⟨r,0,none⟩) n cap):ap {E with I:=(V.j_ r cs).ab} (.sl n l e) (.slice (some ⟨r,0,none⟩) n cap):=by
 refine .sl r 0 cap (λi=>cs.getD i undef) dK he (λi hi=> ?_) λi x hx=>(h.2 i x hx).mono (hc.j_ hf cs).1;have hlt:i<cs.size:=by rw[h.1];exact hi
 simp[View.j_,Td,Tf hlt]
def oi (place:Nat->S8)(cells:SC):List (Nat×AV)->Option (SC)
 |[]=>some cells
 |(i,a)::rest=>match place i,a.parts with
  |some (off,size),some lp=>if lp.length≠size\/off+lp.length>cells.length then none else oi place (iw cells off lp) rest
  |_,_=>none
def Rb:∀(vs:S5)(k off:Nat)(cs:SG),(vs.zipIdx k).foldl (λ(cs:SG) (x:T5×Nat)=>cs.setIfInBounds (off+x.2) x.1) cs=storeAt cs (off+k) vs
 |[],_,_,_=>rfl
 |v::vs,k,off,cs=>by
  rw[List.zipIdx_cons,VS,Rb vs (k+1) off];rfl
def Cf{E:Env}{place:Nat->S8}:∀{parts:SH}{vs:List (Nat×T5)}{l l':SC}{cs:SG},bL E l cs->parts.length=vs.length->(∀(j:Nat) p q,parts[j]?=some p->vs[j]?=some q->p.1=q.1/\ap E p.2 q.2)->
  oi place l parts=some l'->∃cw,avL place cs vs=some cw/\bL E l' cw
 |[],[],l,l',cs,h,_,_,e=>by cases e;exact⟨cs,rfl,h⟩
 |[],_::_,_,_,_,_,h,_,_=>by simp at h
 |_::_,[],_,_,_,_,h,_,_=>by simp at h
 |(i,a)::parts,(i',v)::vs,l,l',cs,h,hl,hp,e=>by
  obtain⟨e1,hd⟩:=hp 0 (i,a) (i',v) rfl rfl;have e1':i=i':=e1;subst e1';simp only[oi]at e;split at e
  ·rename_i off size lp dM LN;split at e
   ·cases e
   ·rename_i hc;have bh:=ap.parts (v:=v) hd LN;have aX:v.cells.size=lp.length:=bh.1;have hle:off+lp.length<=l.length:=(by omega);obtain⟨cw,h1,h2⟩:=Cf (Ft h bh hle) (by simpa using hl) (λj p q x y=>hp (j+1) p q (by simpa using x) (by simpa using y)) e;refine⟨cw,?_,h2⟩;unfold avL;rw[dM];simp only;rw[if_neg (by rw[aX,h.1];simp;omega)];have:=Rb v.cells.toList 0 off cs;rw[Vl]at this;rw[<- h1,<- this];congr 1;rw[<- Array.toList_zipIdx,Array.foldl_toList]
  ·cases e
def jX (s:AS):List (Nat×Ui)->Option (SH)
 |[]=>some []
 |(i,x)::l=>match s.ev x,jX s l with
  |some a,some aG=>some ((i,a)::aG)
  |_,_=>none
def FA{E:Env}{s:AS}{a:Act}(k:cm E s.T a.tmps):∀{l:List (Nat×Ui)}{aG:SH},jX s l=some aG->aG.length=(l.map λ(i,x)=>(i,a.eval x)).length/\∀(j:Nat) p q,aG[j]?=some p->(l.map λ(i,x)=>(i,a.eval x))[j]?=some q->p.1=q.1/\ap E p.2 q.2
 |[],aG,h=>by cases h;exact⟨rfl,by simp⟩
 |(i,x)::l,aG,h=>by
  simp only[jX]at h;split at h
  ·rename_i av jI h1 h2;cases h;obtain⟨mW,lw⟩:=FA k h2;refine⟨by simpa using mW,λj p q e1 e2=> ?_⟩;cases j with
   |zero=>simp at e1 e2;subst e1 e2;exact⟨rfl,ap.ev k h1⟩
   |succ j=>exact lw j p q (by simpa using e1) (by simpa using e2)
  ·cases h
def qQ (P:Tg)(t:TypeId):Option (TypeId×Nat×T5):=match P.underlying t with
 |some (.slice e)=>(P.info? e).bind λi=>i.zero.map λz=>(e,i.size,z)
 |_=>none
def fO (z:T5)(m:Nat):SC:=(Tt m).map λi=>AV.pD (z.cells[i % z.cells.size]!)
inductive gO where
 |fields (l:List (Nat×Nat))
 |elems (sz:Nat)
def gO.at:gO->Nat->Option (Nat×Nat)
 |.fields l,i=>l[i]?
 |.elems sz,i=>some (i* sz,sz)
def m_ (P:Tg)(t:TypeId):Option (gO×T5):=(eJ P t).bind λz=>match P.underlying t with
 |some (.struct fs)=>(fs.toList.mapM λf=>(P.info? f.type).map λi=>(f.offset,i.size)).map λl=>(.fields l,z)
 |some (.array _ e)=>(P.info? e).map λi=>(.elems i.size,z)
 |_=>none
def ac0{P:Tg}{V:View}{Kp:SP}:∀(fs:List ZW)(l:List (Nat×Nat)){K:List (Nat×Nat)->View->Prop},fs.mapM (λf=>(P.info? f.type).map λi=>(f.offset,i.size))=some l->
  K l V->aR P V (fs.mapM λf=>(do pure (f.offset,<- sizeOf f.type):Sem (Nat×Nat))) K Kp
 |[],l,K,h,hk=>by
  simp at h;subst h;rw[Vt];exact aq hk
 |f::fs,l,K,h,hk=>by
  simp only[UY,U7,UL,Uc,Uh]at h;obtain⟨b,h1,bs,h2,rfl⟩:=h;obtain⟨i,hi,rfl⟩:=kU h1;rw[UY];exact ay (jo hi (aq (ay (ac0 fs bs h2 (aq hk)))))
def apV{t:TypeId}{parts:Array (Nat×Ui)}{pl:gO}{z:T5}{aG:SH}{l:SC}(ho:o.op=.build t parts)(ht:m_ P t=some (pl,z))(hp:jX s parts.toList=some aG)
  (hl:oi pl.at (l7 z) aG=some l):dq lv P r o s (.agg l):=
 iG (λE V a hc aE=>by
  unfold m_ at ht;obtain⟨z',hz,ht⟩:=Uc.1 ht;obtain⟨hlen,bh⟩:=FA aE hp;unfold execOp;rw[ho];dsimp only;refine ay ?_;unfold Instr.build;refine HZ hz ?_;split at ht
  ·rename_i fs hu;obtain⟨lp,h1,h2⟩:=kU ht;cases h2;obtain⟨cw,nF,uz⟩:=Cf (Jx E z) hlen bh hl;refine ec hu ?_;dsimp only;have e:fs=fs.toList.toArray:=(by simp);rw[e,Y3];refine ay ?_;refine ay (ac0 fs.toList lp h1 ?_);refine aq ?_;rw[WR];have e2:(λx=>lp.toArray[x]?)=gO.at (.fields lp):=(by funext x;simp[gO.at]);rw[e2,nF];exact aq (aq ⟨rfl,_,rfl,.agg uz.1 uz.2⟩)
  ·rename_i n e hu;obtain⟨i,h1,h2⟩:=kU ht;cases h2;obtain⟨cw,nF,uz⟩:=Cf (Jx E z) hlen bh hl;refine ec hu ?_;dsimp only;refine jo h1 ?_;rw[WR];have e2:(λj=>some (j* i.size,i.size))=gO.at (.elems i.size):=rfl;rw[e2,nF];exact aq (aq ⟨rfl,_,rfl,.agg uz.1 uz.2⟩)
  ·cases ht)
def Jw{E:Env}(z:T5)(m:Nat):bL E (fO z m) ((XJ m).map (λx=>z.cells[x % z.cells.size]!)):=by
 refine⟨by simp[fO],λj x hx=> ?_⟩;unfold fO at hx;rw[Uo]at hx;obtain⟨k,hk,rfl⟩:=Uq.1 hx;have hj:j<m:=by have:=(Tj.1 hk).1;simpa using this
 have hmj:k=j:=by rw[au' hj]at hk;cases hk;rfl
 subst hmj;simp only[Td,XA,Array.getElem?_range,hj,if_true,VL,T9];exact Ju E _
def apW{t e:TypeId}{len sz:Nat}{z:T5}{parts:Array (Nat×Ui)}{aG:SH}{l:SC}(ho:o.op=.buildSlice t len parts)(ht:qQ P t=some (e,sz,z))(aX:len* sz<=2^24)(hp:jX s parts.toList=some aG)
  (hl:oi (gO.at (.elems sz)) (fO z (len* sz)) aG=some l):dq lv P r o s (.sl len l .exact):=by
 intro E V a N Q hc aE bt h1;unfold qQ at ht;split at ht
 ·rename_i e' hu;obtain⟨i,hi,ht⟩:=Uc.1 ht;obtain⟨z',hz,ht⟩:=Uq.1 ht;cases ht;refine⟨bt,?_⟩;unfold execOp;rw[ho];dsimp only;refine ay ?_;unfold Instr.buildSlice;refine ec hu ?_;dsimp only;refine jo hi ?_;rw[if_neg (by omega)];obtain⟨hlen,bh⟩:=FA aE hp;obtain⟨cw,nF,uz⟩:=Cf (Jw (E:=E) z (len* i.size)) hlen bh hl;have fin:∀(rr:Nat),V.fresh rr->aR P (V.upd rr (.cells cw e)) (pure (X5 (.slice (some ⟨rr,0,none⟩) len len))) (mG lv P r o a N Q) (λv V'=>Q (.panic [{v,recovered:=false}]) a V'):=λrr hf=>
   aR.ghost (akp hf (hc.ake hf.1).1) (aq (h1 _ _ _ (hc.j_ hf cw).1 rfl rfl (hc.j_ hf cw).2 (ap.apJ hc hf uz (Tm _) rfl)))
  have e2:(λj=>some (j* i.size,i.size))=gO.at (.elems i.size):=rfl;rw[e2];by_cases h0:len* i.size=0
  ·rw[if_pos h0];refine ay (aq ?_);rw[h0]at nF⊢;rw[show XJ 0=#[]from rfl]at nF⊢;simp only[List.map_toArray,aj',WR]at nF⊢;rw[nF];unfold newRow;exact ay (ay (ay (nY λrr hf=>b8 (aq (aq (aq (fin rr hf)))))))
  ·rw[if_neg h0];refine ay (ay ?_);unfold typeInfo;refine ay (oN (b8 ?_));rw[hi];refine aq ?_;rw[hz];refine aq (ay (aq ?_));rw[WR,nF];unfold newRow;exact ay (ay (ay (nY λrr hf=>b8 (aq (aq (aq (fin rr hf)))))))
 ·cases ht
end
def abQ (P:Tg)(t:TypeId):Bool:=match P.underlying t with
 |some (.int _)=>false
 |some _=>true
 |none=>false
def jE (P:Tg)(t t':TypeId):Option (TypeId×Nat×T5):=match P.underlying t with
 |some (.slice e)=>(P.info? e).bind λi=>i.zero.bind λz=>if z.cells.size=i.size/\i.bytes<=2^16/\i.bytes≠0/\abQ P t'=true then some (e,i.size,z)else none
 |_=>none
def jE.out{P:Tg}{t t' e:TypeId}{sz:Nat}{z:T5}(h:jE P t t'=some (e,sz,z)):∃i d,P.underlying t=some (.slice e)/\P.info? e=some i/\i.zero=some z/\i.size=sz/\z.cells.size=sz/\i.bytes<=2^16/\i.bytes≠0/\P.underlying t'=some d/\(∀k,d≠ .int k):=by
 unfold jE at h;split at h
 ·rename_i e' hu;obtain⟨i,h1,h⟩:=Uc.1 h;obtain⟨z',h2,h⟩:=Uc.1 h;split at h
  ·rename_i hc;obtain⟨c1,c2,c3,c4⟩:=hc;cases h;unfold abQ at c4;split at c4
   ·cases c4
   ·rename_i d hd aH;exact⟨i,d,hu,h1,h2,rfl,c1,c2,c3,aH,λk e=>hd k e⟩
   ·cases c4
  ·cases h
 ·cases h
def AS.src (s:AS)(sz:Nat):AV->Option (Nat×SC)
 |.sl m l _=>some (m,l.take (m* sz))
 |.bI id off m _=>match s.H[id]?with
  |some (.cells l _)|some (.part _ l _)|some (.own _ l _)=>some (m,(l.drop off).take (m* sz))
  |_=>none
 |_=>none
section
variable {P:Tg}{E:Env}{V:View}{s:AS}{K:Array T5->View->Prop}{Kp:SP}
def Fv{l:SC}{f:Nat->T5}{n:Nat}(hn:n<=l.length)(h:∀(i:Nat) x,l[i]?=some x->ap E x (f i)):bL E (l.take n) ((Tt n).map f).toArray:=by
 have:=Fq hn h;cases this with
 |agg h1 h2=>exact⟨h1,h2⟩
def D9(hc:Conc E V s.H){av:AV}{v:T5}(hd:ap E av v){sz m k:Nat}{l:SC}(h:s.src sz av=some (m,l))(hl:l.length=m* sz)(hk:k<=m)(hK:∀cs,bL E (l.take (k* sz)) cs->K cs V):aR P V (Wz sz k v) K Kp:=by
 have hks:k* sz<=m* sz:=US _ hk;cases hd with
 |sl b o cap f dK he h1 h2=>
  cases h;rename_i l _;simp only[U_]at hl;have e:(l.take (m* sz)).take (k* sz)=l.take (k* sz):=by rw[Wi];congr 1;omega
  rw[e]at hK;unfold Wz;exact yJ (f:=f) (λhp=>(hc.Ms (h1 0 (by omega))).1) (λj hj=>by unfold View.get;rw[<- hc.I,h1 j (by omega)]) (hK _ (Fv (by omega) h2))
 |nil he=>
  cases h;have:k=0:=by omega
  subst this;have hK:=hK #[] ⟨by simp,by simp⟩;unfold Wz;split
  ·rw[YX];exact aq hK
  ·exact aq hK
  ·rename_i h;cases h
  ·rename_i a _ _ h1 h2 _;cases a with
   |none=>exact(h2 _ _ rfl).elim
   |some x=>exact(h1 _ _ _ rfl).elim
 |bI hi dK=>
  rename_i id off m' cap cap';simp only[AS.src]at h;cases hq:s.H[id]?with
  |none=>rw[hq]at h;cases h
  |some ob=>
   rw[hq]at h;cases ob with
   |cells l' el=>
    cases h;obtain⟨⟨cs,ho,hs,bh⟩,lJ⟩:=hc.obj id _ hq;simp only[U_,Va]at hl;have e:((l'.drop off).take (m* sz)).take (k* sz)=(l'.drop off).take (k* sz):=(by rw[Wi];congr 1;omega);rw[e]at hK;unfold Wz;refine yJ (f:=λi=>cs.getD (off+i) undef) (λ_=>(hc.iV hq rfl).1) (λj hj=> ?_) (hK _ (Fv (by simp only[Va];omega) λi x hx=> ?_))
    ·unfold View.get;rw[lJ,ho];have hlt:off+j<cs.size:=(by omega);simp only[Td,Tf hlt,T9]
    ·rw[Vd]at hx;exact bh _ _ hx
   |part p l' el=>
    cases h;obtain⟨⟨cs,ho,⟨hs,bh⟩,nL⟩,lJ⟩:=hc.obj id _ hq;simp only[U_,Va]at hl;have e:((l'.drop off).take (m* sz)).take (k* sz)=(l'.drop off).take (k* sz):=(by rw[Wi];congr 1;omega);rw[e]at hK;unfold Wz;refine yJ (f:=λi=>cs.getD (off+i) undef) (λ_=>(hc.iV hq rfl).1) (λj hj=> ?_) (hK _ (Fv (by simp only[Va];omega) λi x hx=> ?_))
    ·have hlt:off+j<cs.size:=(by omega);unfold View.get;by_cases hp:off+j<p
     ·rw[nL _ hp];simp only[Td,Tf hlt,T9]
     ·rw[lJ _ (by omega),ho];simp only[Td,Tf hlt,T9]
    ·rw[Vd]at hx;exact bh _ _ hx
   |own eB l' el=>
    cases h;obtain⟨⟨cs,ho,⟨hs,bh⟩,_⟩,lJ⟩:=hc.obj id _ hq;simp only[U_,Va]at hl;have e:((l'.drop off).take (m* sz)).take (k* sz)=(l'.drop off).take (k* sz):=(by rw[Wi];congr 1;omega);rw[e]at hK;unfold Wz;refine yJ (f:=λi=>cs.getD (off+i) undef) (λ_=>(hc.iV hq rfl).1) (λj hj=> ?_) (hK _ (Fv (by simp only[Va];omega) λi x hx=> ?_))
    ·have hlt:off+j<cs.size:=(by omega);unfold View.get;rw[lJ,ho];simp only[Td,Tf hlt,T9]
    ·rw[Vd]at hx;exact bh _ _ hx
   |_=>cases h
 |_=>cases h
def H7{av:AV}{v:T5}(hd:ap E av v){sz m:Nat}{l:SC}(h:s.src sz av=some (m,l)):awN v=pure m:=by
 cases hd with
 |sl=>cases h;rfl
 |nil=>cases h;rfl
 |bI=>
  simp only[AS.src]at h;split at h
  ·cases h;rfl
  ·cases h;rfl
  ·cases h;rfl
  ·cases h
 |_=>cases h
end
def Rp(u9:Nat):∀(r c:Nat),c<=2* u9+200->ai' u9 r c<=2* u9+200
 |0,c,h=>h
 |r+1,c,h=>by
  unfold ai';split
  ·exact h
  ·exact Rp u9 r _ (by omega)
def aoA(u9 cap:Nat)(h:cap<u9):X4 u9 cap<=2* u9+200:=by
 unfold X4;split
 ·omega
 ·split
  ·omega
  ·exact Rp u9 4 cap (by omega)
def zu{E:Env}{l m:SC}{x y:SG}(h:bL E l x)(k:bL E m y):bL E (l++m) (x++y):=by
 refine⟨by simp[h.1,k.1],λi a e=> ?_⟩;by_cases hi:i<l.length
 ·rw[Tw hi]at e;have:=h.2 i a e;rw[Td,XB (by rw[h.1];exact hi)];rwa[Td]at this
 ·rw[Ud (by omega)]at e;have:=k.2 _ a e;rw[Td,Y9 (by rw[h.1];omega),h.1];rwa[Td]at this
def NV{P:Tg}{V:View}{α:Type}{K:α->View->Prop}{Kp:SP}{b:Bool}{k:Bool->Sem α}(hb:b=false)(h:aR P V (k false) K Kp):aR P V (pure b>>=k) K Kp:=by
 subst hb;exact ay (aq h)
section
variable {P:Tg}{E:Env}{V:View}{s:AS}{K:SP}{Kp:SP}
def acV{n:Nat}{K:Unit->View->Prop}(h:K () V):aR P V (askRoom n) K Kp:=by
 unfold askRoom;split
 ·exact aru (b8 h)
 ·exact aq h
def acU(hc:Conc E V s.H){t t' e:TypeId}{sz n m cap:Nat}{z:T5}{base:TA}{av:AV}{v:T5}{ax:AV}{l l':SC}{ty:TypeId}(ht:jE P t t'=some (e,sz,z))(hd:ap E ax (.slice base n cap))(dz:s.src sz ax=some (n,l))(cF:ap E av v)(hs:s.src sz av=some (m,l'))
  (hl:l.length=n* sz) (eF:l'.length=m* sz) (hb:n+m<=2^30) (Lg:cap<n+m)
  (hK:∀r cs cap',V.fresh r->bL E (l++l') (cs.extract 0 ((n+m)* sz))->n+m<=cap'->cs.size=cap'* sz->K (.slice (some ⟨r,0,none⟩) (n+m) cap') (V.upd r (.cells cs e))):aR P V (WE #[t,t'] ty #[.slice base n cap,v]) K Kp:=by
 obtain⟨i,d,h1,h2,h3,h4,h5,h6,h7,h8,h9⟩:=jE.out ht;unfold WE;simp only[We,Wu,Vy];refine ec h1 ?_;dsimp only;refine jo h2 ?_;rw[h4];refine ec h8 ?_;refine NV (by cases d<;>first|rfl|exact absurd rfl (h9 _)) ?_;simp only[UB,if_false,W1,if_true];rw[H7 cF hs];refine ay (aq ?_);rw[if_neg (by omega)];refine yM h2 ?_;rw[if_neg (by intro hx;exact hx.2.elim (λx=>x.elim) h7)];refine yM h2 ?_;have dK:=aoA (n+m) cap Lg;have hmul:X4 (n+m) cap* i.bytes<=(2* 2^30+200)* 2^16:=at2 (by omega) h6;rw[if_neg (by omega)];refine ay (acX (λhf=>by cases hf) (λ_ t=>b8 ?_));generalize jc:awc (.appendCap (n+m) cap e) t=cap';have F8:n+m<=cap':=by rw[<- jc];exact Nat.le_add_right _ _
 refine yM h2 (ay (acV (ay ?_)));refine D9 hc hd dz hl (Tm _) λzr KX=> ?_;refine ay (D9 hc cF hs eF (Tm _) λjw kZ=> ?_);refine HZ (z:=z) (by unfold eJ;rw[h2];exact h3) ?_;rw[<- hl,Uy]at KX;rw[<- eF,Uy]at kZ;unfold newRow;refine ay (ay (nY λr hf=>b8 (aq (aq ?_))));have amu:zr.size=n* sz:=by rw[KX.1,hl]
 have Ay:jw.size=m* sz:=by rw[kZ.1,eF]
 have aX:(zr++jw).size=(n+m)* sz:=by rw[YG,amu,Ay,VU]
 refine hK r _ cap' hf ?_ F8 ?_
 ·have e1:(zr++jw++Yr z.cells (cap'-(n+m))).extract 0 ((n+m)* sz)=zr++jw:=by
   rw[<- aX];generalize zr++jw=q;apply Ws;simp[Array.toList_extract,Zs]
  rw[e1];exact zu KX kZ
 ·rw[YG,aX];have:(Yr z.cells (cap'-(n+m))).size=(cap'-(n+m))* sz:=by simp[Yr,h5]
  rw[this,<- VU];congr 1;omega
def HX(hc:Conc E V s.H){t t' e:TypeId}{sz n m cap:Nat}{z:T5}{base:TA}{av:AV}{v:T5}{en:End}{l l':SC}{ty:TypeId}(ht:jE P t t'=some (e,sz,z))(hd:ap E (.sl n l en) (.slice base n cap))(cF:ap E av v)(hs:s.src sz av=some (m,l'))
  (hl:l.length=n* sz) (eF:l'.length=m* sz) (hb:n+m<=2^30) (Lg:cap<n+m)
  (hK:∀r cs cap',V.fresh r->bL E (l++l') (cs.extract 0 ((n+m)* sz))->n+m<=cap'->cs.size=cap'* sz->K (.slice (some ⟨r,0,none⟩) (n+m) cap') (V.upd r (.cells cs e))):aR P V (WE #[t,t'] ty #[.slice base n cap,v]) K Kp:=
 acU hc ht hd (by simp only[AS.src];rw[<- hl,Uy]) cF hs hl eF hb Lg hK
def HY(hc:Conc E V s.H){t t' e:TypeId}{sz n cap:Nat}{z:T5}{base:TA}{av:AV}{v:T5}{l':SC}{ty:TypeId}(ht:jE P t t'=some (e,sz,z))(cF:ap E av v)(hs:s.src sz av=some (0,l'))
  (eF:l'.length=0* sz) (hle:n<=cap) (hK:K (.slice base n cap) V):aR P V (WE #[t,t'] ty #[.slice base n cap,v]) K Kp:=by
 obtain⟨i,d,h1,h2,h3,h4,h5,h6,h7,h8,h9⟩:=jE.out ht;unfold WE;simp only[We,Wu,Vy];refine ec h1 ?_;dsimp only;refine jo h2 ?_;rw[h4];refine ec h8 ?_;refine NV (by cases d<;>first|rfl|exact absurd rfl (h9 _)) ?_;simp only[UB,if_false,W1,if_true];rw[H7 cF hs];refine ay (aq ?_);rw[if_pos (by omega)];refine ay (D9 hc cF hs eF (Tm _) λjw kZ=> ?_);have Ay:jw=#[]:=by
  have:=kZ.1;apply Xm;rw[this];simp
 subst Ay;rw[Vl];cases base with
 |none=>exact aq hK
 |some a=>
  dsimp only;unfold storeCells;exact ay (aq (aq hK))
def acT(hc:Conc E V s.H){t t' e:TypeId}{sz n m cap:Nat}{z:T5}{b:Nat}{av:AV}{v:T5}{l':SC}{ty:TypeId}{cs:SG}{el:TypeId}(ht:jE P t t'=some (e,sz,z))(cF:ap E av v)(hs:s.src sz av=some (m,l'))
  (eF:l'.length=m* sz) (hle:n+m<=cap) (ho:V.own b=some (.cells cs el (0,0))) (aX:cap* sz<=cs.size) (hi:∀o,n* sz<=o->V.ab b o=none) (hg:V.role.group≠some b/\V.role.chan≠some b) (nH:∀a∈l',a.leaf=true)
  (hK:∀jw,bL E l' jw->K (.slice (some ⟨b,0,none⟩) (n+m) cap) (V.upd b (.cells (storeAt cs (n* sz) jw.toList) el (0,0)))):aR P V (WE #[t,t'] ty #[.slice (some ⟨b,0,none⟩) n cap,v]) K Kp:=by
 obtain⟨i,d,h1,h2,h3,h4,h5,h6,h7,h8,h9⟩:=jE.out ht;unfold WE;simp only[We,Wu,Vy];refine ec h1 ?_;dsimp only;refine jo h2 ?_;rw[h4];refine ec h8 ?_;refine NV (by cases d<;>first|rfl|exact absurd rfl (h9 _)) ?_;simp only[UB,if_false,W1,if_true];rw[H7 cF hs];refine ay (aq ?_);rw[if_pos (by omega)];refine ay (D9 hc cF hs eF (Tm _) λjw kZ=> ?_);rw[<- eF,Uy]at kZ;rw[add_plain];have uI:(n+m)* sz<=cap* sz:=US _ hle;rw[VU]at uI;refine ay (yL _ 0 V cs hg.1 hg.2 ho (λo h _=>hi o (by omega)) (by have:=kZ.1;simp;omega) (zv kZ nH) ?_);rw[WN,Vl];exact aq (hK jw kZ)
end
def Env.tok (E:Env)(I:cr)(rm:Option Wp×Nat)(v:Nat):Env:={E with I:=I,n:=E.n+1,room:=λk u=>if k=E.n/\u=v then rm else E.room k u,fE:=λk=>if k=E.n then v else E.fE k}
def Env.MW(E:Env){I:cr}(hI:∀b o v,E.I b o=some v->I b o=some v)(rm:Option Wp×Nat)(v:Nat):E.Le (E.tok I rm v):=
 ⟨hI,Z2 _,λk hk=>rfl,λk hk=>by simp[Env.tok,XE hk],λk u hk _=>by simp[Env.tok,XE hk],rfl,rfl⟩
def Env.grow (E:Env)(I:cr)(k:Nat)(rm:Option Wp×Nat)(v:Nat):Env:={E with I:=I,room:=λj u=>if j=k/\u=v then rm else E.room j u,fE:=λj=>if j=k then v else E.fE j}
def Env.abc(E:Env){I:cr}(hI:∀b o v,E.I b o=some v->I b o=some v){k:Nat}(rm:Option Wp×Nat){v:Nat}(hv:E.fE k<v):E.Le (E.grow I k rm v):=
 ⟨hI,Tm _,λ_ _=>rfl,λj _=>by
  simp only[Env.grow];split
  ·rename_i e;subst e;omega
  ·exact Tm _,λj u _ hu=>by
  simp only[Env.grow];split
  ·rename_i e;obtain⟨rfl,rfl⟩:=e;omega
  ·rfl,rfl,rfl⟩
abbrev View.laid (V:View)(b:Nat)(cs:Array T5)(el:TypeId)(p:Nat->Bool):View:=(V.upd b (.cells cs el (0,0))).iu b cs p
def MS{V:View}{b b':Nat}{cs:SG}{el:TypeId}{p:Nat->Bool}(h:b'≠b):(V.laid b cs el p).own b'=V.own b':=by simp[View.laid,View.iu,View.upd,h]
def MR{V:View}{b b':Nat}{cs:SG}{el:TypeId}{p:Nat->Bool}(h:b'≠b)(o:Nat):(V.laid b cs el p).ab b' o=V.ab b' o:=by simp[View.laid,View.iu,View.upd,h]
def G_{V:View}{b:Nat}{cs:SG}{el:TypeId}{p:Nat->Bool}(hp:∀o,p o=true->V.ab b o=none):∀b' o v,V.ab b' o=some v->(V.laid b cs el p).ab b' o=some v:=λb' o v h=>by
 have hn:¬(b'=b/\p o=true):=λhb=>by obtain⟨rfl,h2⟩:=hb;rw[hp o h2]at h;cases h
 simp only[View.laid,View.iu,View.upd,if_neg hn];exact h
def G9{V:View}{b:Nat}{cs:SG}{el:TypeId}{p:Nat->Bool}{o:Nat}(h:p o=true):(V.laid b cs el p).ab b o=cs[o]?:=by simp[View.laid,View.iu,h]
def MT{V:View}{b:Nat}{cs:SG}{el:TypeId}{p:Nat->Bool}:(V.laid b cs el p).own b=some (.cells cs el (0,0)):=by simp[View.laid,View.iu,View.upd]
def Jv{E:Env}{I:cr}{b n cap:Nat}{cs:SG}{l:SC}{e:End}{sz:Nat}(hI:E.I=I)(hd:bL E l (cs.extract 0 (n* sz)))(hl:l.length=n* sz)(hs:n* sz<=cs.size)(hi:∀o,o<n* sz->I b o=cs[o]?)(hc:n<=cap)(he:pK E e (some ⟨b,0,none⟩) n cap):ap E (.sl n l e) (.slice (some ⟨b,0,none⟩) n cap):=by
 refine .sl b 0 cap (λi=>cs.getD i undef) hc he (λi h=> ?_) (λi x hx=> ?_)
 ·rw[hl]at h;have hlt:i<cs.size:=by omega
  rw[hI,WN,hi i h];simp only[Td,Tf hlt,T9]
 ·have cG:i<n* sz:=by rw[<- hl];exact(Tj.1 hx).1
  have:=hd.2 i x hx;have hlt:i<cs.size:=by omega
  rw[Td,Tf hlt];rw[Td]at this;rw[Array.getElem?_extract]at this;have Gl:i<min (n* sz) cs.size:=by omega
  simpa[cG,hlt,Gl]using this
section
variable {E:Env}{V:View}{H:SA}
def Conc.Ob(hc:Conc E V H){n:Nat}(sz:Nat)(el:TypeId)(a:TA):Conc (E.tok V.ab (a,n) n) V (H++[.tail n sz el])/\E.Le (E.tok V.ab (a,n) n):=by
 have hle:=E.MW (I:=V.ab) (λb o v h=>by rw[<- hc.I];exact h) (a,n) n;refine⟨hc.iY H.length (.tail n sz el) hle rfl (by simp[Env.tok,hc.n]) DJ rfl (λj hj _=>by simp[Env.tok,hc.n,hj]) (λb y _ hy=>⟨hy,λ_=>rfl⟩) ?_ (λb h=> ?_),hle⟩
 ·rw[<- hc.n];exact⟨by simp[Env.tok],.inl (by simp[Env.tok])⟩
 ·rw[<- hc.n]at h;simp[bJ,Env.tok]at h
def Conc.adP(hc:Conc E V H){r n cap sz:Nat}{el:TypeId}{cs:SG}(hf:V.fresh r)(hs:cs.size=cap* sz)(hn:n<=cap):
  Conc (E.tok (V.laid r cs el (·<n* sz)).ab (some ⟨r,0,none⟩,cap) n) (V.laid r cs el (·<n* sz)) (H++[.tail n sz el])/\E.Le (E.tok (V.laid r cs el (·<n* sz)).ab (some ⟨r,0,none⟩,cap) n):=by
 have hle:=E.MW (I:=(V.laid r cs el (·<n* sz)).ab) (λb o v h=>G_ (λo _=>hf.2 o) b o v (by rw[<- hc.I];exact h)) (some ⟨r,0,none⟩,cap) n;refine⟨hc.iY H.length (.tail n sz el) hle rfl (by simp[Env.tok,hc.n]) DJ rfl (λj hj _=>by simp[Env.tok,hc.n,hj]) (λb y _ hy=> ?_) ?_ (λb h=> .inr ?_),hle⟩
 ·have hb:b≠r:=λe=>by subst e;rw[hf.1]at hy;cases hy
  exact⟨by rw[MS hb];exact hy,λo=>MR hb o⟩
 ·rw[<- hc.n];refine⟨by simp[Env.tok],?_⟩;by_cases e:cap=n
  ·exact .inl (by simp[Env.tok,e])
  ·refine .inr ⟨r,cap,cs,by simp[Env.tok],MT,hs,by omega,λo ho=> ?_⟩;have:¬(decide (o<n* sz)=true):=(by simpa using ho);simp only[View.laid,View.iu];rw[if_neg (λx=>this x.2)];exact hf.2 o
 ·rw[<- hc.n]at h;simp[bJ,Env.tok]at h;obtain⟨_,rfl⟩:=h;exact hf.1
def Conc.aku(hc:Conc E V H){k r n n' cap sz:Nat}{el fF:TypeId}{cs:SG}(hk:H[k]?=some (.tail n sz fF))(hf:V.fresh r)(hs:cs.size=cap* sz)(hn:n'<=cap)(hlt:n<n'):
  Conc (E.grow (V.laid r cs el (·<n'* sz)).ab k (some ⟨r,0,none⟩,cap) n') (V.laid r cs el (·<n'* sz)) (H.set k (.tail n' sz el))/\E.Le (E.grow (V.laid r cs el (·<n'* sz)).ab k (some ⟨r,0,none⟩,cap) n'):=by
 have AC:E.fE k=n:=(hc.obj k _ hk).1;have hle:=E.abc (I:=(V.laid r cs el (·<n'* sz)).ab) (λb o v h=>G_ (λo _=>hf.2 o) b o v (by rw[<- hc.I];exact h)) (k:=k) (some ⟨r,0,none⟩,cap) (v:=n') (by omega);refine⟨hc.iY k (.tail n' sz el) hle rfl (by simpa[Env.grow]using hc.n) lU rfl (λj hj _=>by simp[Env.grow,hj]) (λb y _ hy=> ?_) ?_ (λb h=> .inr ?_),hle⟩
 ·have hb:b≠r:=λe=>by subst e;rw[hf.1]at hy;cases hy
  exact⟨by rw[MS hb];exact hy,λo=>MR hb o⟩
 ·refine⟨by simp[Env.grow],?_⟩;by_cases e:cap=n'
  ·exact .inl (by simp[Env.grow,e])
  ·refine .inr ⟨r,cap,cs,by simp[Env.grow],MT,hs,by omega,λo ho=> ?_⟩;have:¬(decide (o<n'* sz)=true):=(by simpa using ho);simp only[View.laid,View.iu];rw[if_neg (λx=>this x.2)];exact hf.2 o
 ·simp[bJ,Env.grow]at h;obtain⟨_,rfl⟩:=h;exact hf.1
def Conc.akv(hc:Conc E V H){k b n n' cap sz:Nat}{el fF:TypeId}{cs cw:SG}(hk:H[k]?=some (.tail n sz fF))(hrm:E.room k n=(some ⟨b,0,none⟩,cap))(ho:V.own b=some (.cells cs el (0,0)))(hi:∀o,n* sz<=o->V.ab b o=none)(hs:cw.size=cap* sz)(hn:n'<=cap)(hlt:n<n'):
  Conc (E.grow (V.laid b cw el (λo=>n* sz<=o&&o<n'* sz)).ab k (some ⟨b,0,none⟩,cap) n') (V.laid b cw el (λo=>n* sz<=o&&o<n'* sz)) (H.set k (.tail n' sz el))/\E.Le (E.grow (V.laid b cw el (λo=>n* sz<=o&&o<n'* sz)).ab k (some ⟨b,0,none⟩,cap) n'):=by
 have AC:E.fE k=n:=(hc.obj k _ hk).1;have hp:∀o,(λo=>decide (n* sz<=o)&&decide (o<n'* sz)) o=true->V.ab b o=none:=λo h=>hi o (by simp at h;exact h.1);have hle:=E.abc (I:=(V.laid b cw el (λo=>n* sz<=o&&o<n'* sz)).ab) (λb o v h=>G_ hp b o v (by rw[<- hc.I];exact h)) (k:=k) (some ⟨b,0,none⟩,cap) (v:=n') (by omega);have ky:bJ E k (.tail n sz fF)=some b:=by
  simp only[bJ,hrm];rw[if_neg (by omega)];rfl
 refine⟨hc.iY k (.tail n' sz el) hle rfl (by simpa[Env.grow]using hc.n) lU rfl (λj hj _=>by simp[Env.grow,hj]) (λb' y fi hy=> ?_) ?_ (λb' h=> .inl ⟨_,hk,?_⟩),hle⟩
 ·have hb:b'≠b:=λe=>by subst e;exact fi _ hk ky
  exact⟨by rw[MS hb];exact hy,λo=>MR hb o⟩
 ·refine⟨by simp[Env.grow],?_⟩;by_cases e:cap=n'
  ·exact .inl (by simp[Env.grow,e])
  ·have uJ:n* sz<=n'* sz:=US _ (by omega);refine .inr ⟨b,cap,cw,by simp[Env.grow],MT,hs,by omega,λo bf=> ?_⟩;have:¬((decide (n* sz<=o)&&decide (o<n'* sz))=true):=(by simp;omega);simp only[View.laid,View.iu];rw[if_neg (λx=>this x.2)];exact hi o (by omega)
 ·simp[bJ,Env.grow]at h;obtain⟨_,rfl⟩:=h;exact ky
end
section
variable {lv:Bool}{P:Tg}{r:SL}{o:U8}{s:AS}{next:SV}{bad:AV->SV}
def Bq (s:AS)(dst:SL)(next:SV)(n m sz:Nat)(elem:TypeId)(l l':SC):End->Prop
 |.exact=>next ((⟨s.T,s.H++[.tail (n+m) sz elem]⟩:AS).put dst (.sl (n+m) (l++l') (.opn s.H.length)))
 |.opn k=>(match s.H[k]?with
   |some (.tail n' eB fF)=>n'=n/\eB=sz/\fF=elem
   |_=>False)/\(∀a∈l',a.leaf=true)/\next ((⟨s.T,s.H.set k (.tail (n+m) sz elem)⟩:AS).put dst (.sl (n+m) (l++l') (.opn k)))
 |.shut=>m=0/\next (s.put dst (.sl n l .shut))
def ahs{E E':Env}{n:Nat}{l:SC}{en:End}{base:TA}{cap:Nat}(h:ap E (.sl n l en) (.slice base n cap))(hl:E.Le E'){e':End}(he:pK E' e' base n cap):ap E' (.sl n l e') (.slice base n cap):=by
 cases h with
 |sl b o cap f hc _ h1 h2=>exact .sl b o cap f hc he (λi hi=>hl.I _ _ _ (h1 i hi)) (λi x hx=>(h2 i x hx).mono hl)
 |nil _=>exact .nil he
def step_append{c:Ym}{x y:Ui}{t t' elem:TypeId}{sz n m:Nat}{z:T5}{en:End}{l l':SC}{av:AV}(ho:o.op=.call c)(aV:c.callee=.builtin .append)(cM:c.args=#[x,y])(dU:c.argTypes=#[t,t'])(ht:jE P t t'=some (elem,sz,z))
  (hx:s.ev x=some (.sl n l en)) (hy:s.ev y=some av) (hs:s.src sz av=some (m,l')) (hl:l.length=n* sz) (eF:l'.length=m* sz) (hb:n+m<=2^30) (hn:Bq s o.dst next n m sz elem l l' en):Step lv P r o s next bad:=by
 intro E V a N Q hc aE hd bt h1 _;refine⟨bt,?_⟩;have dw:=ap.ev aE hx;have iO:=ap.ev aE hy;generalize j8:a.eval x=vx at dw;generalize rI:a.eval y=vy at iO;unfold execOp;rw[ho];dsimp only;unfold resolve;rw[aV];dsimp only;refine ay (aq ?_);unfold invoke builtin;dsimp only;refine ay ?_;have nI:c.args.map a.eval=#[vx,vy]:=by rw[cM];simp[j8,rI]
 rw[nI,dU];obtain⟨base,cap,rfl⟩:∃base cap,vx=.slice base n cap:=by
  cases dw with
  |sl b o cap f dK he q1 q2=>exact⟨_,_,rfl⟩
  |nil he=>exact⟨_,_,rfl⟩
 have dK:n<=cap:=by
  cases dw with
  |sl b o cap f dK he q1 q2=>exact dK
  |nil he=>exact Tm _
 have fin:∀E' V' H' (mI:AV) v',E.Le E'->V'.role=V.role->V'.deaf=V.deaf->Conc E' V' H'->ap E' mI v'->next ((⟨s.T,H'⟩:AS).put o.dst mI)->aR P V' (pure (X5 v')) (mG lv P r o a N Q) (λv V'=>Q (.panic [{v,recovered:=false}]) a V'):=λE' V' H' mI v' hle hr uB bi bh c_=>
  aq (h1 E' V' (a.put o.dst v') ((⟨s.T,H'⟩:AS).put o.dst mI) ⟨hle,dY _ _ _,put_defers _ _ _,hr,uB⟩ (by rw[e_];exact bi) (cm.gM (s:=⟨s.T,H'⟩) (aE.mono hle) hd bh) c_)
 have tn:(l++l').length=(n+m)* sz:=by rw[Tx,hl,eF,VU]
 cases en with
 |exact=>
  have ez:cap=n:=by
   cases dw with
   |sl b o cap f dK he q1 q2=>exact he
   |nil he=>rfl
  subst ez;have kC:=hn;simp only[Bq]at kC;by_cases hm:m=0
  ·subst hm;have sY:l'=[]:=(by simpa using eF);subst sY;refine HY hc ht iO hs eF (Tm _) ?_;obtain⟨bi,hle⟩:=hc.Ob (n:=cap) sz elem base;refine fin _ V _ _ _ hle rfl rfl bi (ahs (e':=.opn s.H.length) dw hle ⟨?_,?_,?_⟩) (by simpa using kC)
   ·simp[Env.tok,hc.n]
   ·simp[Env.tok,hc.n]
   ·simp[Env.tok,hc.n]
  ·refine HX hc ht dw iO hs hl eF hb (by omega) λrr cs cap' hf bh hle aX=> ?_;obtain⟨bi,rq⟩:=hc.adP (el:=elem) hf aX hle;have uN:(cap+m)* sz<=cs.size:=(by rw[aX];exact US _ hle);refine aR.ghost (zJ (f:=(0,0)) (cs:=cs) (el:=elem) (p:=(·<(cap+m)* sz)) (by simp[View.upd]) (λo _=>hf.2 o)) ?_;refine fin _ _ _ _ _ rq rfl rfl bi (Jv (I:=(V.laid rr cs elem (·<(cap+m)* sz)).ab) (e:=.opn s.H.length) (sz:=sz) (cs:=cs) rfl (bh.mono rq) tn uN (λo h=>G9 (by simpa using h)) hle ⟨?_,?_,?_⟩) kC
   ·simp[Env.tok,hc.n]
   ·simp[Env.tok,hc.n]
   ·simp[Env.tok,hc.n]
 |shut=>
  obtain⟨rfl,kC⟩:=hn;have sY:l'=[]:=by simpa using eF
  subst sY;refine HY hc ht iO hs eF dK ?_;exact fin E V s.H _ _ (Env.Le.refl E) rfl rfl hc dw kC
 |opn k=>
  obtain⟨Ai,nH,kC⟩:=hn;split at Ai
  ·rename_i n' eB fF hk;obtain⟨rfl,rfl,rfl⟩:=Ai;have heo:pK E (.opn k) base n' cap:=by
    cases dw with
    |sl b o cap f dK he q1 q2=>exact he
    |nil he=>exact he
   obtain⟨e1,e2,e3⟩:=heo;obtain⟨AC,GA⟩:=hc.obj k _ hk;have Av:s.H.set k (.tail n' eB fF)=s.H:=by
    apply X2;intro i;by_cases hi:i=k
    ·subst hi;rw[Yd (Tj.1 hk).1,hk]
    ·rw[U3 (Ne.symm hi)]
   by_cases hm:m=0
   ·subst hm;have sY:l'=[]:=(by simpa using eF);subst sY;refine HY hc ht iO hs eF dK ?_;refine fin E V s.H _ _ (Env.Le.refl E) rfl rfl hc dw ?_;rw[Vl,Av,Tu]at kC;exact kC
   ·by_cases qe:n'+m<=cap
    ·rcases GA with GA|⟨b,auG,cs,r1,r2,r3,r4,r5⟩
     ·rw[e3]at GA;simp only at GA;omega
     ·rw[e3]at r1;cases r1;have ky:bJ E k (.tail n' eB fF)=some b:=by
       simp only[bJ,e3];rw[if_neg (by omega)];rfl
      refine acT hc ht iO hs eF qe r2 (Yo r3.symm) r5 (hc.iV hk ky) nH λjw kZ=> ?_;have Ay:jw.toList.length=m* eB:=(by have:=kZ.1;simp;omega);have uI:(n'+m)* eB<=cap* eB:=US _ qe;rw[VU]at uI;have GC:(storeAt cs (n'* eB) jw.toList).size=cap* eB:=(by rw[yO];exact r3);obtain⟨bi,rq⟩:=hc.akv hk e3 r2 r5 GC qe (by omega);refine aR.ghost (zJ (f:=(0,0)) (cs:=storeAt cs (n'* eB) jw.toList) (el:=fF) (p:=λo=>n'* eB<=o&&o<(n'+m)* eB) (by simp[View.upd]) (λo h=>r5 o (by simp at h;exact h.1))) ?_;refine fin _ _ _ _ _ rq rfl rfl bi ?_ kC;cases dw with
      |nil he=>exact absurd qe (by omega)
      |sl b' o' cap f F8 he q1 q2=>
       have q1':∀i,i<l.length->V.ab b i=some (f i):=λi hi=>(by have:=q1 i hi;rwa[hc.I,WN]at this);refine .sl b 0 cap (λi=>if i<n'* eB then f i else(storeAt cs (n'* eB) jw.toList).getD i undef) (by omega) ⟨?_,?_,?_⟩ (λi hi=> ?_) (λi x hx=> ?_)
       ·exact e1
       ·simp[Env.grow]
       ·simp[Env.grow]
       ·rw[tn,VU]at hi;show (V.laid b (storeAt cs (n'* eB) jw.toList) fF (λo=>n'* eB<=o&&o<(n'+m)* eB)).ab b (0+i)=_;rw[WN];by_cases cG:i<n'* eB
        ·rw[if_pos cG];exact G_ (λo h=>r5 o (by simp at h;exact h.1)) _ _ _ (q1' i (by omega))
        ·rw[if_neg cG,G9 (by simp[VU];omega)];have hlt:i<(storeAt cs (n'* eB) jw.toList).size:=(by rw[GC];omega);simp only[Td,Tf hlt,T9]
       ·by_cases cG:i<n'* eB
        ·rw[Tw (by omega)]at hx;rw[if_pos cG];exact(q2 i x hx).mono rq
        ·rw[Ud (by omega)]at hx;have rk:i-l.length<l'.length:=(Tj.1 hx).1;rw[if_neg cG,Ee _ _ _ _ (by rw[Ay,r3];omega),if_pos (by rw[Ay];omega)];have:=(kZ.2 _ _ hx).mono rq;rw[hl]at this;simpa[Td,Se]using this
    ·refine HX hc ht dw iO hs hl eF hb (by omega) λrr cs cap' hf bh hle aX=> ?_;obtain⟨bi,rq⟩:=hc.aku (el:=fF) (n':=n'+m) hk hf aX hle (by omega);have uN:(n'+m)* eB<=cs.size:=(by rw[aX];exact US _ hle);refine aR.ghost (zJ (f:=(0,0)) (cs:=cs) (el:=fF) (p:=(·<(n'+m)* eB)) (by simp[View.upd]) (λo _=>hf.2 o)) ?_;refine fin _ _ _ _ _ rq rfl rfl bi (Jv (I:=(V.laid rr cs fF (·<(n'+m)* eB)).ab) (e:=.opn k) (sz:=eB) (cs:=cs) rfl (bh.mono rq) tn uN (λo h=>G9 (by simpa using h)) hle ⟨?_,?_,?_⟩) kC
     ·exact e1
     ·simp[Env.grow]
     ·simp[Env.grow]
  ·exact Ai.elim
def Env.g_ (E:Env)(r:Nat)(I:cr)(c:Nat):Env:={E with I:=I,n:=E.n+1,blk:=λk=>if k=E.n then r else E.blk k,room:=λk u=>if k=E.n/\u=0 then(none,c)else E.room k u}
def Env.DF(E:Env)(r c:Nat){I:cr}(hI:∀b o v,E.I b o=some v->I b o=some v):E.Le (E.g_ r I c):=
 ⟨hI,Z2 _,λk hk=>by simp[Env.g_,XE hk],λ_ _=>Tm _,λk u hk _=>by simp[Env.g_,XE hk],rfl,rfl⟩
def Env.xj(E:Env)(r c:Nat)(I:cr):(E.g_ r I c).blk E.n=r:=by simp[Env.g_]
def Env.IZ(E:Env)(r c:Nat)(I:cr):(E.g_ r I c).room E.n 0=(none,c):=by simp[Env.g_]
def Conc.g_{E:Env}{V:View}{H:SA}(hc:Conc E V H){r c:Nat}(hf:V.fresh r){cs:SG}{sz:Nat}{l:SC}{el:TypeId}(hd:jR (E.g_ r V.ab c) l cs)(hs:cs.size=c* sz):Conc (E.g_ r V.ab c) (V.upd r (.cells cs el)) (H++[.own sz l el]):=by
 refine hc.iY (E':=E.g_ r V.ab c) H.length (.own sz l el) (E.DF r c (λb o v h=>by rw[<- hc.I];exact h)) rfl (by simp[Env.g_,hc.n]) DJ rfl (λ_ _ _=>rfl) (λb z _ hz=>⟨?_,λ_=>rfl⟩) ?_ (λb h=> .inr ?_)
 ·have:b≠r:=λe=>by rw[e,hf.1]at hz;cases hz
  simpa[View.upd,this]using hz
 ·rw[<- hc.n];refine⟨⟨cs,by rw[Env.xj];simp[View.upd],hd,by rw[Env.IZ];exact hs⟩,λo=> ?_⟩;rw[Env.xj];exact hf.2 o
 ·rw[<- hc.n]at h;simp only[bJ,Env.xj,Uh]at h;subst h;exact hf.1
def Js{E:Env}{H:SA}(hn:E.n=H.length){r c n:Nat}(I:cr)(h:n<=c){cap:Nat}(oG:n<=cap)(hc:cap<=c)(h0:0<n):ap (E.g_ r I c) (.bI H.length 0 n 0) (.slice (some ⟨r,0,none⟩) n cap):=by
 have:=ap.bI (E:=E.g_ r I c) (id:=H.length) (off:=0) (n:=n) (cap:=0) (cap':=cap) (by show _<E.n+1;rw[hn];omega) ⟨oG,λe=>by omega,λ_=>by rw[<- hn,Env.IZ];exact hc⟩;have e:(E.g_ r I c).blk H.length=r:=by rw[<- hn];exact E.xj r c I
 rwa[e]at this
def Conc.relabel{E:Env}{V:View}{H:SA}(hc:Conc E V H){id sz:Nat}{l:SC}{el:TypeId}(hk:H[id]?=some (.own sz l el)):Conc (E.g_ (E.blk id) V.ab (E.room id 0).2) V (H.set id .gone++[.own sz l el]):=by
 have hle:=E.DF (E.blk id) (E.room id 0).2 (I:=V.ab) (λb o v h=>by rw[<- hc.I];exact h);have auX:=(Tj.1 hk).1;have hlt:∀(j:Nat) y,H[j]?=some y->j<E.n:=λj y h=>by rw[hc.n];exact(Tj.1 h).1
 have o_:∀(j:Nat) y,(H.set id .gone++[aa.own sz l el])[j]?=some y->(j=H.length/\y=.own sz l el)\/(j=id/\y=.gone)\/(j≠id/\H[j]?=some y):=λj y h=>by
  rcases DJ j y h with⟨h1,h2⟩|⟨_,h⟩
  ·exact .inl ⟨by simpa using h1,h2⟩
  ·rcases lU j y h with h|h
   ·exact .inr (.inl h)
   ·exact .inr (.inr h)
 have cD:∀(j:Nat) y b,H[j]?=some y->bJ (E.g_ (E.blk id) V.ab (E.room id 0).2) j y=some b->bJ E j y=some b:=λj y b h e=>by rw[<- PC hle (hlt j y h) (hc.obj j y h)];exact e
 have ww:∀b,bJ (E.g_ (E.blk id) V.ab (E.room id 0).2) H.length (.own sz l el)=some b->b=E.blk id:=λb e=>by
  simp only[bJ,<- hc.n,Env.xj,Uh]at e;exact e.symm
 have fi:∀g,(∀(k:Nat) x,H[k]?=some x->bJ E k x≠some g)->∀(k:Nat) x,(H.set id .gone++[aa.own sz l el])[k]?=some x->bJ (E.g_ (E.blk id) V.ab (E.room id 0).2) k x≠some g:=λg h0 k x hx e=>by
  rcases o_ k x hx with⟨rfl,rfl⟩|⟨_,rfl⟩|⟨_,hx⟩
  ·have:=ww g e;exact h0 id _ hk (by rw[this];rfl)
  ·cases e
  ·exact h0 k x hx (cD k x g hx e)
 refine⟨rfl,by simp[Env.g_,hc.n],λj y h=> ?_,λi j y z b h1 h2 e1 e2=> ?_,λg hg=> ?_,λg hg=> ?_,λhm=>hc.top hm,λb y hf=> ?_⟩
 ·rcases o_ j y h with⟨rfl,rfl⟩|⟨_,rfl⟩|⟨_,h⟩
  ·obtain⟨⟨cs,q1,q2,q3⟩,q4⟩:=hc.obj id _ hk;rw[<- hc.n];refine⟨⟨cs,by rw[Env.xj];exact q1,q2.mono hle,by rw[Env.IZ];exact q3⟩,λo=> ?_⟩;rw[Env.xj];exact q4 o
  ·trivial
  ·exact(hc.obj j y h).mono hle (hlt j y h) rfl (λ_ _ _ h=>h) (λ_ _ _=>rfl)
 ·rcases o_ i y h1 with⟨rfl,rfl⟩|⟨_,rfl⟩|⟨hi,h1⟩
  ·rcases o_ j z h2 with⟨rfl,rfl⟩|⟨_,rfl⟩|⟨hj,h2⟩
   ·rfl
   ·cases e2
   ·have:=ww b e1;exact absurd (hc.inj id j _ z b hk h2 (by rw[this];rfl) (cD j z b h2 e2)).symm hj
  ·cases e1
  ·rcases o_ j z h2 with⟨rfl,rfl⟩|⟨_,rfl⟩|⟨hj,h2⟩
   ·have:=ww b e2;exact absurd (hc.inj id i _ y b hk h1 (by rw[this];rfl) (cD i y b h1 e1)).symm hi
   ·cases e2
   ·exact hc.inj i j y z b h1 h2 (cD i y b h1 e1) (cD j z b h2 e2)
 ·obtain⟨h0,h1,h2⟩:=hc.group g hg;exact⟨h0,h1,fi g h2⟩
 ·obtain⟨h0,h1,h2⟩:=hc.chan g hg;exact⟨h0,h1,fi g h2⟩
 ·obtain⟨h0,h1,h2⟩:=hc.fr b y hf;exact⟨h0,h1,fi b h2⟩
def Conc.leave{E:Env}{V:View}{H:SA}(hc:Conc E V H)(id:Nat):Conc E V (H.set id .gone):=
 hc.iY id .gone (Env.Le.refl E) hc.I (by simpa using hc.n) lU rfl (λ_ _ _=>rfl) (λ_ _ _ hy=>⟨hy,λ_=>rfl⟩) trivial (λb h=>by cases h)
def ahx{E:Env}{l l':SC}{cs vs:SG}(h:jR E l cs)(k:bL E l' vs)(hl:l.length+l'.length<=cs.size):jR E (l++l') (storeAt cs l.length vs.toList):=by
 have hv:vs.toList.length=l'.length:=by simpa using k.1
 refine⟨by rw[yO,Tx];exact hl,λi a e=> ?_⟩;rw[Ee _ _ _ _ (by rw[hv];exact hl),hv];by_cases h1:i<l.length
 ·rw[if_neg (by omega)];rw[Tw h1]at e;exact h.2 i a e
 ·rw[Ud (by omega)]at e;have h2:=(Tj.1 e).1;rw[if_pos ⟨by omega,by omega⟩];have:=k.2 _ a e;simpa[Td,Se]using this
def Qb{E:Env}{l:SC}{cs:SG}{k:Nat}(h:bL E l (cs.extract 0 k))(hk:l.length=k)(hs:k<=cs.size):jR E l cs:=by
 refine⟨by omega,λi a e=> ?_⟩;have hi:=(Tj.1 e).1;have fX:i<cs.size:=by omega
 have:=h.2 i a e;rw[Td,Array.getElem?_extract_of_lt (by omega)]at this;rw[Td];simpa[Tf fX]using this
def adp{c:Ym}{x y:Ui}{t t' elem:TypeId}{sz n m:Nat}{z:T5}{l l':SC}{av:AV}(ho:o.op=.call c)(aV:c.callee=.builtin .append)(cM:c.args=#[x,y])(dU:c.argTypes=#[t,t'])(ht:jE P t t'=some (elem,sz,z))
  (hx:s.ev x=some (.sl n l .exact)) (hy:s.ev y=some av) (hs:s.src sz av=some (m,l')) (hl:l.length=n* sz) (eF:l'.length=m* sz) (hb:n+m<=2^30) (hm:0<m) (hn:next ((⟨s.T,s.H++[.own sz (l++l') elem]⟩:AS).put o.dst (.bI s.H.length 0 (n+m) 0))):Step lv P r o s next bad:=by
 intro E V a N Q hc aE hd bt h1 _;refine⟨bt,?_⟩;have dw:=ap.ev aE hx;have iO:=ap.ev aE hy;generalize j8:a.eval x=vx at dw;generalize rI:a.eval y=vy at iO;unfold execOp;rw[ho];dsimp only;unfold resolve;rw[aV];dsimp only;refine ay (aq ?_);unfold invoke builtin;dsimp only;refine ay ?_;have nI:c.args.map a.eval=#[vx,vy]:=by rw[cM];simp[j8,rI]
 rw[nI,dU];obtain⟨base,cap,rfl⟩:∃base cap,vx=.slice base n cap:=by
  cases dw with
  |sl b o cap f dK he q1 q2=>exact⟨_,_,rfl⟩
  |nil he=>exact⟨_,_,rfl⟩
 have ez:cap=n:=by
  cases dw with
  |sl b o cap f dK he q1 q2=>exact he
  |nil he=>rfl
 subst ez;refine HX hc ht dw iO hs hl eF hb (by omega) λrr cs cap' hf bh hle aX=> ?_;have tn:(l++l').length=(cap+m)* sz:=by rw[Tx,hl,eF,VU]
 have uN:(cap+m)* sz<=cs.size:=by rw[aX];exact US _ hle
 have oD:E.Le (E.g_ rr V.ab cap'):=E.DF rr cap' (λb o v h=>by rw[<- hc.I];exact h);have bi:=hc.g_ (el:=elem) (c:=cap') hf ((Qb bh tn uN).mono oD) aX;have lc:=Js hc.n (r:=rr) V.ab hle (n:=cap+m) (cap:=cap') hle (Tm _) (by omega);exact aq (h1 _ _ (a.put o.dst _) _ ⟨oD,dY _ _ _,put_defers _ _ _,rfl,rfl⟩ (by rw[e_];exact bi) (cm.gM (s:=⟨s.T,s.H++[.own sz (l++l') elem]⟩) (aE.mono oD) hd lc) hn)
def ado{c:Ym}{x y:Ui}{t t' elem el:TypeId}{sz n m c0 id:Nat}{z:T5}{l l':SC}{av:AV}(ho:o.op=.call c)(aV:c.callee=.builtin .append)(cM:c.args=#[x,y])(dU:c.argTypes=#[t,t'])(ht:jE P t t'=some (elem,sz,z))
  (hx:s.ev x=some (.bI id 0 n c0)) (xR:c0<n) (cq:s.H[id]?=some (.own sz l el)) (CS:el=elem) (hy:s.ev y=some av) (hs:s.src sz av=some (m,l')) (hl:l.length=n* sz) (eF:l'.length=m* sz) (hb:n+m<=2^30) (nH:∀a∈l',a.leaf=true) (hn:next ((⟨s.T,s.H.set id .gone++[.own sz (l++l') elem]⟩:AS).put o.dst (.bI s.H.length 0 (n+m) 0))):Step lv P r o s next bad:=by
 subst CS;intro E V a N Q hc aE hd bt h1 _;refine⟨bt,?_⟩;have dw:=ap.ev aE hx;have iO:=ap.ev aE hy;generalize j8:a.eval x=vx at dw;generalize rI:a.eval y=vy at iO;unfold execOp;rw[ho];dsimp only;unfold resolve;rw[aV];dsimp only;refine ay (aq ?_);unfold invoke builtin;dsimp only;refine ay ?_;have nI:c.args.map a.eval=#[vx,vy]:=by rw[cM];simp[j8,rI]
 rw[nI,dU];have alh:=dw;have tn:(l++l').length=(n+m)* sz:=by rw[Tx,hl,eF,VU]
 have dz:s.src sz (.bI id 0 n c0)=some (n,l):=by
  simp only[AS.src];rw[cq];simp only[WY];rw[<- hl,Uy]
 cases dw with
 |bI hi dK=>
  rename_i cap';obtain⟨q1,_,q3⟩:=dK;have q3:=q3 xR;obtain⟨⟨cs,p1,p2,p3⟩,p4⟩:=hc.obj id _ cq;by_cases qe:n+m<=cap'
  ·have mO:(n+m)* sz<=cap'* sz:=US _ qe;have xP:cap'* sz<=cs.size:=(by rw[p3];exact US _ q3);refine acT hc ht iO hs eF qe p1 xP (λo _=>p4 o) (hc.iV cq rfl) nH λjw kZ=> ?_;have KY:jR E (l++l') (storeAt cs (n* sz) jw.toList):=by
    rw[<- hl];exact ahx p2 kZ (by rw[<- Tx,tn];omega)
   have cN:=hc.ac7 cq KY (by rw[yO];exact p3);have o_:(s.H.set id (.own sz (l++l') el))[id]?=some (.own sz (l++l') el):=(by rw[Yd ((Tj.1 cq).1)]);have cx:=cN.relabel o_;rw[Yb]at cx;have oD:E.Le (E.g_ (E.blk id) V.ab (E.room id 0).2):=E.DF _ _ (λb o v h=>by rw[<- hc.I];exact h);have lc:ap (E.g_ (E.blk id) V.ab (E.room id 0).2) (.bI s.H.length 0 (n+m) 0) (.slice (some ⟨E.blk id,0,none⟩) (n+m) cap'):=Js hc.n V.ab (by omega) qe q3 (by omega);exact aq (h1 _ _ (a.put o.dst _) _ ⟨oD,dY _ _ _,put_defers _ _ _,rfl,rfl⟩ (by rw[e_];exact cx) (cm.gM (s:=⟨s.T,s.H.set id .gone++[.own sz (l++l') el]⟩) (aE.mono oD) hd lc) hn)
  ·refine acU hc ht alh dz iO hs hl eF hb (by omega) λrr cw B_ hf bh hle aX=> ?_;have uN:(n+m)* sz<=cw.size:=(by rw[aX];exact US _ hle);have oD:E.Le (E.g_ rr V.ab B_):=E.DF rr B_ (λb o v h=>by rw[<- hc.I];exact h);have F7:=hc.leave id;have bi:=F7.g_ (el:=el) (c:=B_) hf ((Qb bh tn uN).mono oD) aX;have lc:ap (E.g_ rr V.ab B_) (.bI s.H.length 0 (n+m) 0) (.slice (some ⟨rr,0,none⟩) (n+m) B_):=Js hc.n V.ab hle hle (Tm _) (by omega);exact aq (h1 _ _ (a.put o.dst _) _ ⟨oD,dY _ _ _,put_defers _ _ _,rfl,rfl⟩ (by rw[e_];exact bi) (cm.gM (s:=⟨s.T,s.H.set id .gone++[.own sz (l++l') el]⟩) (aE.mono oD) hd lc) hn)
end
def bF(n:Int)(h: -9223372036854775808<=n/\n<=9223372036854775807):Tc.wrap n=n:=by
 have e:Tc.wrap n=if n % 18446744073709551616>=9223372036854775808 then n % 18446744073709551616-18446744073709551616 else n % 18446744073709551616:=by
  unfold Y4;simp[awA,awz]
 rw[e];split<;>omega
def TL(n:Nat)(h:(n:Int)+1<=9223372036854775807):Tc.wrap ((n:Int)+1)=((n+1:Nat):Int):=by rw[bF _ (by omega)];rfl
def bm (P:Tg){α:Type}(s:Sem α)(x:α):Prop:=∀w es,s.runT P w es=(.ok x w,es)
def bm.ok{P:Tg}{α:Type}{V:View}{s:Sem α}{x:α}{K:α->View->Prop}{Kp:SP}(h:bm P s x)(hk:K x V):aR P V s K Kp:=
 λw hw eO=>⟨#[],w,V,by simpa[fC]using da.idle hw,.inl ⟨x,by rw[h w eO];simp,hk⟩⟩
def bm.bind{P:Tg}{α β:Type}{V:View}{s:Sem α}{x:α}{f:α->Sem β}{K:β->View->Prop}{Kp:SP}(h:bm P s x)(hk:aR P V (f x) K Kp):aR P V (s>>=f) K Kp:=
 ay (h.ok hk)
def AV.vI:AV->Option Int
 |.val (.int _ n)=>some n
 |_=>none
def ap.vI{E:Env}{a:AV}{v:T5}{n:Int}(hd:ap E a v)(h:a.vI=some n):∃k,v=.int k n:=by
 cases hd with
 |val x=>unfold AV.vI at h;split at h<;>simp_all
 |_=>cases h
abbrev TK:=Option Int
def AS.i_ (s:AS):Option Ui->Option (TK)
 |none=>some none
 |some x=>match s.ev x with
  |some a=>a.vI.map some
  |none=>none
def zm{E:Env}{s:AS}{a:Act}(k:cm E s.T a.tmps){x:Option Ui}{i:TK}(h:s.i_ x=some i):(i=none/\x.map a.eval=none)\/∃n kd,i=some n/\x.map a.eval=some (.int kd n):=by
 cases x with
 |none=>cases h;exact .inl ⟨rfl,rfl⟩
 |some x=>
  simp only[AS.i_]at h;split at h
  ·rename_i av F3;obtain⟨n,hn,rfl⟩:=kU h;obtain⟨kd,hv⟩:=(ap.ev k F3).vI hn;exact .inr ⟨n,kd,rfl,by simp[hv]⟩
  ·cases h
section
variable {P:Tg}{V:View}{Kp:SP}
def A'{kd:UN}{n:Int}{y:Nat}{code:BoundsCode}{K:Nat->View->Prop}(h0:0<=n)(h1:n<=y)(h:K n.toNat V):aR P V (ag' (.int kd n) y code) K Kp:=by
 unfold ag' asIntOf;refine ay (aq ?_);dsimp only;rw[if_pos ⟨h0,h1⟩];exact aq h
def NW{E:Env}{s:AS}{a:Act}(k:cm E s.T a.tmps){isS:Bool}{len cap:Nat}{lo hi mx:Option Ui}{l h m:TK}(hl:s.i_ lo=some l)(hh:s.i_ hi=some h)(hm:s.i_ mx=some m){K:Nat×Nat×Nat->View->Prop}
  (hlc:len<=cap) (c0:0<=l.getD 0) (c1:l.getD 0<=h.getD len) (c2:h.getD len<=m.getD cap) (c3:m.getD cap<=cap) (c4:m.isSome=true->h.isSome=true) (hK:K ((l.getD 0).toNat,(h.getD len).toNat,(m.getD cap).toNat) V):
  aR P V (adA isS len cap (lo.map a.eval) (hi.map a.eval) (mx.map a.eval)) K Kp:=by
 unfold adA;rcases zm k hm with⟨rfl,em⟩|⟨vm,km,rfl,em⟩
 ·rw[em];refine ay (aq ?_);rcases zm k hh with⟨rfl,eh⟩|⟨vh,kh,rfl,eh⟩
  ·rw[eh];refine ay (aq ?_);rcases zm k hl with⟨rfl,el⟩|⟨vl,kl,rfl,el⟩
   ·rw[el];exact ay (aq (aq (by simpa using hK)))
   ·rw[el];simp only[T9,Wt]at c0 c1 c2;exact ay (A' c0 c1 (aq (by simpa using hK)))
  ·rw[eh];simp only[T9,Wt]at c0 c1 c2 c3;refine ay (A' (by omega) c2 ?_);rcases zm k hl with⟨rfl,el⟩|⟨vl,kl,rfl,el⟩
   ·rw[el];exact ay (aq (aq (by simpa using hK)))
   ·rw[el];simp only[T9,Wt]at c0 c1 c2;exact ay (A' c0 (by omega) (aq (by simpa using hK)))
 ·rw[em];simp only[T9,Option.isSome_some,true_implies]at c2 c3 c4;rcases zm k hh with⟨rfl,eh⟩|⟨vh,kh,rfl,eh⟩
  ·cases c4
  ·rw[eh];simp only[T9]at c1 c2 c0;refine ay (A' (by omega) c3 ?_);refine ay (A' (by omega) (by omega) ?_);rcases zm k hl with⟨rfl,el⟩|⟨vl,kl,rfl,el⟩
   ·rw[el];exact ay (aq (aq (by simpa using hK)))
   ·rw[el];simp only[T9]at c0 c1;exact ay (A' c0 (by omega) (aq (by simpa using hK)))
end
abbrev SQ:=AV->Prop
def xd (n:Nat)(l:SC)(e:End)(sz:Nat)(lo hi mx:TK)(k:SQ):Prop:=
 l.length=n* sz/\0<=lo.getD 0/\lo.getD 0<=hi.getD n/\hi.getD n<=mx.getD n/\mx.getD n<=n/\(mx.isSome=true->hi.isSome=true)/\
 k (.sl ((hi.getD n).toNat-(lo.getD 0).toNat) ((l.drop ((lo.getD 0).toNat* sz)).take (((hi.getD n).toNat-(lo.getD 0).toNat)* sz))
  (if mx.isSome&&mx.getD n==hi.getD n then .exact else if lo.getD 0==0&&hi.getD n==n&&mx.isNone then e else .shut))
def jT (P:Tg)(t:TypeId):Option (TypeId×Nat):=match P.underlying t with
 |some (.slice e)=>(P.info? e).map λi=>(e,i.size)
 |_=>none
def w9 (P:Tg)(t:TypeId):Option (Nat×Nat):=match P.underlying t with
 |some (.array n e)=>(P.info? e).map λi=>(n,i.size)
 |_=>none
section
variable {lv:Bool}{P:Tg}{r:SL}{o:U8}{s:AS}{next:SV}{bad:AV->SV}
def aqn{t e:TypeId}{x:Ui}{lo hi mx:Option Ui}{l h m:TK}{n sz:Nat}{li:SC}{en:End}(ho:o.op=.slice t x lo hi mx)(ht:jT P t=some (e,sz))(hx:s.ev x=some (.sl n li en))(hl:s.i_ lo=some l)(hh:s.i_ hi=some h)(hm:s.i_ mx=some m)
  {k:SQ} (hc:xd n li en sz l h m k):∃av,dq lv P r o s av/\k av:=by
 obtain⟨hlen,c0,c1,c2,c3,c4,hk⟩:=hc;refine⟨_,iG (λE V a hc aE=> ?_),hk⟩;have hd:=ap.ev aE hx;generalize hv:a.eval x=v at hd;unfold jT at ht;split at ht
 ·rename_i e' hu;obtain⟨i,cG,ht⟩:=kU ht;cases ht;unfold execOp;rw[ho];simp only[hv];refine ay ?_;unfold Zi;refine ec hu ?_;dsimp only;unfold avB;refine ec hu ?_;obtain⟨base,cap,rfl⟩:∃base cap,v=.slice base n cap:=by
   cases hd with
   |sl b o cap f dK he q1 q2=>exact⟨_,_,rfl⟩
   |nil he=>exact⟨_,_,rfl⟩
  have dK:n<=cap:=by
   cases hd with
   |sl b o cap f dK he q1 q2=>exact dK
   |nil he=>exact Tm _
  dsimp only;have hmm:m.getD (cap:Int)=if m.isSome then m.getD n else cap:=by cases m<;>simp
  refine ay (NW aE hl hh hm dK c0 c1 ?_ ?_ c4 ?_)
  ·cases m with
   |none=>simp only[Wt]at c2⊢;omega
   |some m=>simpa using c2
  ·cases m with
   |none=>simp
   |some m=>simp only[T9]at c3⊢;omega
  refine jo cG ?_;refine aq (aq ⟨rfl,_,rfl,?_⟩);generalize hA:(l.getD 0).toNat=A;generalize hB:(h.getD (n:Int)).toNat=B;have Rr:A<=B:=by omega
  have hBn:B<=n:=by omega
  generalize hM:(m.getD (cap:Int)).toNat=M;have hBM:B<=M:=by
   cases m with
   |none=>simp only[Wt]at hM;omega
   |some m=>simp only[T9]at hM c2;omega
  cases hd with
  |nil he=>
   have Kt:A=0:=(by omega);have hB0:B=0:=(by omega);have hM0:M=0:=by
    cases m with
    |none=>simp only[Wt]at hM;omega
    |some m=>simp only[T9]at hM c3;omega
   rw[Kt,hB0,hM0];simp only[if_true,avz,YX,awb];refine .nil ?_;split
   ·rfl
   ·split
    ·exact he
    ·trivial
  |sl b o cap f dK he q1 q2=>
   have CB:(if M=A then some (⟨b,o,none⟩:Wp)else(some (⟨b,o,none⟩:Wp)).map λx=>x.add (A* i.size))=some ⟨b,if M=A then o else o+A* i.size,none⟩:=by
    split
    ·rfl
    ·simp only[VL,add_plain]
   rw[CB];have hb:(B-A)* i.size+A* i.size<=n* i.size:=(by rw[<- VU];exact US _ (by omega));refine .sl b _ (M-A) (λj=>f (A* i.size+j)) (by omega) ?_ (λj hj=> ?_) (λj y hj=> ?_)
   ·split
    ·rename_i hx;simp only[Uk,beq_iff_eq]at hx;cases m with
     |none=>simp at hx
     |some m=>
      simp only[T9]at hM hx;show M-A=B-A;omega
    ·split
     ·rename_i hx;simp only[Uk,beq_iff_eq]at hx;obtain⟨⟨x1,x2⟩,x3⟩:=hx;have:A=0:=(by omega);have:B=n:=(by omega);cases m with
      |some m=>cases x3
      |none=>
       simp only[Wt]at hM;have hMc:M=cap:=(by omega);subst hMc;have e1:M-A=M:=(by omega);have e2:B-A=n:=(by omega);have e3:(if M=A then o else o+A* i.size)=o:=(by split<;>simp_all);rw[e1,e2,e3];exact he
     ·trivial
   ·simp only[U_,Va]at hj;have hMA:M≠A:=by
     intro e;have:B-A=0:=(by omega);rw[this]at hj;omega
    rw[if_neg hMA,X7];exact q1 _ (by omega)
   ·rw[U5]at hj;split at hj
    ·rw[Vd]at hj;exact q2 _ _ hj
    ·cases hj
 ·cases ht
def sr (id off n cap sz:Nat)(lo hi mx:TK)(k:SQ):Prop:=
 n<=cap/\0<=lo.getD 0/\lo.getD 0<=hi.getD n/\hi.getD n<=mx.getD cap/\mx.getD cap<=cap/\(mx.isSome=true->hi.isSome=true)/\(lo.getD 0=0\/lo.getD 0<mx.getD cap)/\
 k (.bI id (off+(lo.getD 0).toNat* sz) ((hi.getD n).toNat-(lo.getD 0).toNat) ((mx.getD cap).toNat-(lo.getD 0).toNat))
def aqp{t e:TypeId}{x:Ui}{lo hi mx:Option Ui}{l h m:TK}{id off n cap sz:Nat}(ho:o.op=.slice t x lo hi mx)(ht:jT P t=some (e,sz))(hx:s.ev x=some (.bI id off n cap))(hl:s.i_ lo=some l)(hh:s.i_ hi=some h)(hm:s.i_ mx=some m)
  {k:SQ} (hc:sr id off n cap sz l h m k):∃av,dq lv P r o s av/\k av:=by
 obtain⟨hlen,c0,c1,c2,c3,c4,c5,hk⟩:=hc;refine⟨_,iG (λE V a hc aE=> ?_),hk⟩;have hd:=ap.ev aE hx;generalize hv:a.eval x=v at hd;unfold jT at ht;split at ht
 ·rename_i e' hu;obtain⟨i,cG,ht⟩:=kU ht;cases ht;unfold execOp;rw[ho];simp only[hv];refine ay ?_;unfold Zi;refine ec hu ?_;dsimp only;unfold avB;refine ec hu ?_;cases hd with
  |bI cq dK=>
   rename_i cap';obtain rfl:cap=cap':=dK.2.1 hlen;dsimp only;refine ay (NW aE hl hh hm hlen c0 c1 c2 c3 c4 ?_);refine jo cG ?_;refine aq (aq ⟨rfl,_,rfl,?_⟩);have CB:(if(m.getD (cap:Int)).toNat=(l.getD 0).toNat then some (⟨E.blk id,off,none⟩:Wp)else(some (⟨E.blk id,off,none⟩:Wp)).map λx=>x.add ((l.getD 0).toNat* i.size))=some ⟨E.blk id,off+(l.getD 0).toNat* i.size,none⟩:=by
    split
    ·have:(l.getD 0).toNat=0:=(by omega);rw[this];simp
    ·simp only[VL,add_plain]
   rw[CB];exact .bI cq ⟨by dsimp only;omega,λ_=>rfl,λh=>absurd h (by omega)⟩
 ·cases ht
def aqo{t:TypeId}{x:Ui}{lo hi mx:Option Ui}{l h m:TK}{id off n sz:Nat}(ho:o.op=.slice t x lo hi mx)(ht:w9 P t=some (n,sz))(hx:s.ev x=some (.op id off))(hl:s.i_ lo=some l)(hh:s.i_ hi=some h)(hm:s.i_ mx=some m)
  {k:SQ} (hc:sr id off n n sz l h m k):∃av,dq lv P r o s av/\k av:=by
 obtain⟨hlen,c0,c1,c2,c3,c4,c5,hk⟩:=hc;refine⟨_,iG (λE V a hc aE=> ?_),hk⟩;have hd:=ap.ev aE hx;generalize hv:a.eval x=v at hd;unfold w9 at ht;split at ht
 ·rename_i m' e' hu;obtain⟨i,cG,ht⟩:=kU ht;cases ht;unfold execOp;rw[ho];simp only[hv];refine ay ?_;unfold Zi;refine ec hu ?_;cases hd with
  |op cq=>
   dsimp only;unfold VT;refine ay (aq ?_);refine ay (NW aE hl hh hm hlen c0 c1 c2 c3 c4 ?_);refine jo cG ?_;refine aq (aq ⟨rfl,_,rfl,?_⟩);have CB:(if(m.getD (n:Int)).toNat=(l.getD 0).toNat then(⟨E.blk id,off,none⟩:Wp)else(⟨E.blk id,off,none⟩:Wp).add ((l.getD 0).toNat* i.size))=⟨E.blk id,off+(l.getD 0).toNat* i.size,none⟩:=by
    split
    ·have:(l.getD 0).toNat=0:=(by omega);rw[this];simp
    ·rw[add_plain]
   rw[CB];exact .bI cq ⟨by dsimp only;omega,λ_=>rfl,λh=>absurd h (by omega)⟩
 ·cases ht
def ar9{c:Ym}{x y:Ui}{t t' e:TypeId}{id off n cap sz m:Nat}{l l':SC}{el:TypeId}{av:AV}(ho:o.op=.call c)(aV:c.callee=.builtin .copy)(cM:c.args=#[x,y])(dU:c.argTypes=#[t,t'])(ht:jT P t=some (e,sz))(hx:s.ev x=some (.bI id off n cap))
  (hk:s.H[id]?=some (.cells l el)) (hy:s.ev y=some av) (hs:s.src sz av=some (m,l')) (eF:l'.length=m* sz) (hl:off+min m n* sz<=l.length) (nH:∀a∈l',a.leaf=true)
  (hn:next ((⟨s.T,s.H.set id (.cells (iw l off (l'.take (min m n* sz))) el)⟩:AS).put o.dst (.val (.int .i64 (min m n:Nat))))):Step lv P r o s next bad:=by
 intro E V a N Q hc aE hd bt h1 _;refine⟨bt,?_⟩;have dw:=ap.ev aE hx;have iO:=ap.ev aE hy;generalize j8:a.eval x=vx at dw;generalize rI:a.eval y=vy at iO;unfold execOp;rw[ho];dsimp only;unfold resolve;rw[aV];dsimp only;refine ay (aq ?_);unfold invoke builtin;dsimp only;refine ay ?_;have nI:c.args.map a.eval=#[vx,vy]:=by rw[cM];simp[j8,rI]
 rw[nI,dU];unfold jT at ht;split at ht
 ·rename_i e' hu;obtain⟨i,cG,ht⟩:=kU ht;cases ht;cases dw with
  |bI cq _=>
   obtain⟨⟨cs,p1,p2⟩,p3⟩:=hc.obj id _ hk;obtain⟨g1,g2⟩:=hc.iV hk rfl;unfold awP;simp only[We,Wu,Vy];refine ec hu ?_;dsimp only;rw[H7 iO hs];refine ay (aq ?_);refine jo cG ?_;refine ay (D9 hc iO hs eF (ar_ _ _) λjw kZ=> ?_);have h2:(l'.take (min m n* i.size)).length=min m n* i.size:=by
    have:min m n* i.size<=m* i.size:=US _ (ar_ _ _);simp;omega
   refine ay (yL _ 0 V cs g1 g2 p1 (λo _ _=>p3 o) (by
    have hq:jw.size=min m n* i.size:=(by(rw[kZ.1];exact h2));have:=p2.1;simp only[Array.length_toList];omega) (zv kZ (λa ha=>nH a (YE ha))) ?_)
   rw[Vl];refine aq (aq (h1 E _ (a.put o.dst _) _ ⟨Env.Le.refl E,dY _ _ _,put_defers _ _ _,rfl,rfl⟩ (by rw[e_];exact hc.set hk (Ft p2 kZ (by rw[h2];exact hl)))
    (cm.gM (s:=⟨s.T,s.H.set id (.cells (iw l off (l'.take (min m n* i.size))) el)⟩) aE hd (.val _)) hn))
 ·cases ht
def BB (P:Tg)(t:TypeId):Option (TypeId×Nat×T5):=match P.underlying t with
 |some (.slice e)=>(P.info? e).bind λi=>i.zero.bind λz=>if z.cells.size=i.size/\i.bytes<=2^16 then some (e,i.size,z)else none
 |_=>none
def adt{t e:TypeId}{x y:Ui}{n sz:Nat}{z:T5}{k k':UN}(ho:o.op=.makeSlice t x y)(ht:BB P t=some (e,sz,z))(hx:s.ev x=some (.val (.int k n)))(hy:s.ev y=some (.val (.int k' n)))(hb:n<=2^30)
  (hn:next ((⟨s.T,s.H++[.cells (fO z (n* sz)) e]⟩:AS).put o.dst (.bI s.H.length 0 n n))):Step lv P r o s next bad:=by
 intro E V a N Q hc aE hd bt h1 _;refine⟨bt,?_⟩;have dw:=ap.ev aE hx;have iO:=ap.ev aE hy;generalize j8:a.eval x=vx at dw;generalize rI:a.eval y=vy at iO;cases dw;cases iO;unfold BB at ht;split at ht
 ·rename_i e' hu;obtain⟨i,q1,ht⟩:=Uc.1 ht;obtain⟨z',q2,ht⟩:=Uc.1 ht;split at ht
  ·rename_i xT;cases ht;unfold execOp;rw[ho];simp only[j8,rI];refine ay ?_;unfold Instr.makeSlice;refine ec hu ?_;dsimp only;refine ay (aq ?_);refine ay (aq ?_);refine yM q1 ?_;have hw:Tc.wrap (n:Int)=n:=bF _ (by omega);rw[hw];have hmul:i.bytes* n<=2^16* 2^30:=at2 xT.2 hb;have au1:(i.bytes:Int)* n<=2^46:=(by exact_mod_cast hmul);rw[if_neg (by simp;omega)];refine ay (acV ?_);refine jo q1 ?_;rw[Wc];have fin:∀(zero:SG),(∀j,j<n* i.size->zero[j % zero.size]! =z.cells[j % z.cells.size]!)->aR P V (do let a<- newRow e ((XJ (n* i.size)).map (zero[· % zero.size]!));pure (Vh (some a) n n)) (λx V'=>aR P V' (pure (X5 x)) (mG lv P r o a N Q) (λv V'=>Q (.panic [{v,recovered:=false}]) a V')) (λv V'=>Q (.panic [{v,recovered:=false}]) a V'):=by
    intro zero hz;unfold newRow;refine ay (ay (nY λrr hf=>b8 (aq (aq (aq ?_)))));have hle:E.Le (E.add rr V.ab):=E.pz rr (λb o v h=>by rw[<- hc.I];exact h);have akU:(XJ (n* i.size)).map (zero[· % zero.size]!)=(XJ (n* i.size)).map (λx=>z.cells[x % z.cells.size]!):=by
     apply Ws;simp only[WR];apply WI;intro j hj;exact hz j (by simpa using hj)
    rw[akU];have bi:Conc (E.add rr V.ab) (V.upd rr (.cells ((XJ (n* i.size)).map (λx=>z.cells[x % z.cells.size]!)) e)) (s.H++[.cells (fO z (n* i.size)) e]):=by
     refine hc.add hf _ ⟨⟨_,?_,Jw z _⟩,λo=> ?_⟩ (λb e=> ?_)
     ·rw[Env.dE];simp[View.upd]
     ·rw[Env.dE];exact hf.2 o
     ·simp only[bJ,Env.dE,Uh]at e;exact e.symm
    have bh:ap (E.add rr V.ab) (.bI s.H.length 0 n n) (.slice (some ⟨rr,0,none⟩) n n):=by
     have:=ap.bI (E:=E.add rr V.ab) (id:=s.H.length) (off:=0) (n:=n) (cap:=n) (cap':=n) (by show _<E.n+1;rw[hc.n];omega) ⟨Tm _,λ_=>rfl,λh=>absurd h (av3 _)⟩;have e:(E.add rr V.ab).blk s.H.length=rr:=(by rw[<- hc.n];exact E.dE rr _);rwa[e]at this
    exact h1 _ _ (a.put o.dst _) ((⟨s.T,s.H++[.cells (fO z (n* i.size)) e]⟩:AS).put o.dst (.bI s.H.length 0 n n)) ⟨hle,dY _ _ _,put_defers _ _ _,rfl,rfl⟩ (by rw[e_];exact bi)
     (cm.gM (s:=⟨s.T,s.H++[.cells (fO z (n* i.size)) e]⟩) (aE.mono hle) hd bh) hn
   by_cases h0:n* i.size=0
   ·rw[if_pos h0];refine ay (aq ?_);exact fin #[] (λj hj=>by omega)
   ·rw[if_neg h0];refine ay (ay ?_);unfold typeInfo;refine ay (oN (b8 ?_));rw[q1];refine aq ?_;rw[q2];refine aq (ay (aq ?_));exact fin z.cells (λj _=>rfl)
  ·cases ht
 ·cases ht
def AV.A1:AV->Option T5
 |.val x=>some x
 |_=>none
def AV.raw:AV->Option T5
 |.val x=>some x
 |.agg l=>(l.mapM AV.A1).map λvs=> .agg vs.toArray
 |_=>none
def ap.A1{E:Env}{a:AV}{v x:T5}(h:ap E a v)(hr:a.A1=some x):v=x:=by
 cases h<;>cases hr;rfl
def ap.raw{E:Env}{a:AV}{v x:T5}(h:ap E a v)(hr:a.raw=some x):v=x:=by
 cases h with
 |val=>cases hr;rfl
 |agg hs h=>
  obtain⟨vs,h1,rfl⟩:=kU hr;congr 1;rename_i l cs;have key:∀(l:SC)(vs:S5)(cs:S5),l.mapM AV.A1=some vs->cs.length=l.length->(∀(i:Nat) a,l[i]?=some a->ap E a (cs.getD i undef))->cs=vs:=by
   intro l;induction l with
   |nil=>intro vs cs h1 h2 _;simp at h1;subst h1;simpa using h2
   |cons a l ih=>
    intro vs cs h1 h2 h3;simp only[UY,U7,UL,Uc,Uh]at h1;obtain⟨b,e1,bs,e2,rfl⟩:=h1;cases cs with
    |nil=>simp at h2
    |cons c cs=>
     have hc:=(h3 0 a rfl).A1 e1;have:=ih bs cs e2 (by simpa using h2) (λi x hx=>by simpa using h3 (i+1) x (by simpa using hx));subst this;simp only[Yv]at hc;rw[hc]
  have:=key l vs cs.toList h1 (by simpa using hs) (λi a e=>by have:=h i a e;rw[Td]at this;simpa[Se]using this);rw[<- this]
 |_=>cases hr
def xA:T5->T5->Bool
 |.agg _,.agg _=>true
 |.bool _,.bool _=>true
 |_,_=>false
def apZ{op:Xc}{xt yt:TypeId}{x y:Ui}{a b:AV}{X Y:T5}{e:Bool}(ho:o.op=.binOp op xt x y yt)(az:op=.eql\/op=.neq)(hx:s.ev x=some a)(hy:s.ev y=some b)(hX:a.raw=some X)(hY:b.raw=some Y)(hk:xA X Y=true)(hg:P.eqGuardType P.depth xt=false)(he:bm P (XM xt X Y) e):
  dq lv P r o s (.val (.bool (if op== .neq then !e else e))):=
 iG (λE V ac hc aE=>by
  have e1:=(ap.ev aE hx).raw hX;have e2:=(ap.ev aE hy).raw hY;unfold execOp;rw[ho];simp only[e1,e2];refine ay ?_;have guard:∀{K:Unit->View->Prop},K () V->aR P V (eqGuard op xt x y X Y) K (λ_ _=>False):=λhK=>by
   unfold eqGuard;unfold xA at hk;split at hk
   ·rcases az with rfl|rfl
    all_goals
     simp only[X6,UB,if_false];refine ay (oN (b8 ?_));refine ay (oN (b8 ?_));rw[hg];exact aq hK
   ·rcases az with rfl|rfl<;>exact aq hK
   ·cases hk
  refine ay (guard ?_);unfold xA at hk;split at hk
  ·rcases az with rfl|rfl<;>(unfold binOp;refine he.bind (aq (aq ⟨rfl,_,rfl,?_⟩));exact .val _)
  ·rcases az with rfl|rfl<;>(unfold binOp;refine he.bind (aq (aq ⟨rfl,_,rfl,?_⟩));exact .val _)
  ·cases hk)
def ah9{t:TypeId}{v:T5}{b:Bool}{V:View}{K:Bool->View->Prop}{Kp:SP}(ht:lx P t=some true)(hv:(v=.nilIface/\b=true)\/((∃u x,v=.iface u x)/\b=false))(hk:K b V):aR P V (XM t v .nilIface) K Kp:=by
 obtain⟨el,hu⟩:∃el,P.underlying t=some (.interface el):=by
  unfold lx at ht;cases h:P.underlying t with
  |none=>rw[h]at ht;cases ht
  |some d=>
   rw[h]at ht;cases d<;>first|exact⟨_,rfl⟩|(simp at ht)
 have e:XM t v .nilIface=WC (9999+1) t v .nilIface:=rfl;rw[e,WC];refine ec hu ?_;rcases hv with⟨rfl,rfl⟩|⟨⟨u,x,rfl⟩,rfl⟩
 ·exact aq hk
 ·exact aq hk
def acx{op:Xc}{xt yt:TypeId}{x:Ui}{a:AV}{b:Bool}(ho:o.op=.binOp op xt x (.const .nilIface) yt)(az:op=.eql\/op=.neq)(hx:s.ev x=some a)(ha:(a=.val .nilIface/\b=true)\/((∃u y,a=.bR u y)/\b=false))(ht:lx P xt=some true):
  dq lv P r o s (.val (.bool (if op== .neq then !b else b))):=
 iG (λE V ac hc aE=>by
  have hd:=ap.ev aE hx;generalize j8:ac.eval x=vx at hd;have hv:(vx=.nilIface/\b=true)\/((∃u y,vx=.iface u y)/\b=false):=by
   rcases ha with⟨rfl,rfl⟩|⟨⟨u,y,rfl⟩,rfl⟩
   ·cases hd;exact .inl ⟨rfl,rfl⟩
   ·cases hd;exact .inr ⟨⟨_,_,rfl⟩,rfl⟩
  have hy:ac.eval (.const .nilIface)=.nilIface:=rfl;unfold execOp;rw[ho];simp only[j8,hy];refine ay ?_;have guard:∀{K:Unit->View->Prop},K () V->aR P V (eqGuard op xt x (.const .nilIface) vx .nilIface) K (λ_ _=>False):=λhK=>by
   unfold eqGuard;rcases hv with⟨rfl,_⟩|⟨⟨u,y,rfl⟩,_⟩<;>rcases az with rfl|rfl<;>first|exact aq hK|(simp;exact aq hK)
  refine ay (guard ?_);rcases hv with⟨rfl,rfl⟩|⟨⟨u,y,rfl⟩,rfl⟩<;>rcases az with rfl|rfl<;>(unfold binOp;refine ay (ah9 (b:=_) ht (by first|exact .inl ⟨rfl,rfl⟩|exact .inr ⟨⟨_,_,rfl⟩,rfl⟩) (aq (aq ⟨rfl,_,rfl,?_⟩)));exact .val _))
def Qs{t:TypeId}{d:TypeId×Nat}{b:TA}{n cap:Nat}{V:View}{K:Bool->View->Prop}{Kp:SP}(ht:jT P t=some d)(hk:K b.isNone V):aR P V (XM t (.slice b n cap) (.slice none 0 0)) K Kp:=by
 obtain⟨el,hu⟩:∃el,P.underlying t=some (.slice el):=by
  unfold jT at ht;split at ht
  ·rename_i e he;exact⟨e,he⟩
  ·cases ht
 have e:XM t (.slice b n cap) (.slice none 0 0)=WC (9999+1) t (.slice b n cap) (.slice none 0 0):=rfl;rw[e,WC];refine ec hu ?_;cases b with
 |none=>exact aq hk
 |some a=>exact aq hk
def asi{op:Xc}{t yt:TypeId}{x:Ui}{n:Nat}{av:AV}{d:TypeId×Nat}(ho:o.op=.binOp op t x (.const (.slice none 0 0)) yt)(az:op=.eql\/op=.neq)(hx:s.ev x=some av)(hlen:av.len=some n)(ht:jT P t=some d)
  (hn:∀b:Bool,(0<n->b=false)->next (s.put o.dst (.val (.bool (if op== .neq then !b else b))))):Step lv P r o s next bad:=by
 intro E V a N Q hc aE hd bt h1 _;refine⟨bt,?_⟩;have dw:=ap.ev aE hx;generalize j8:a.eval x=vx at dw;obtain⟨base,cap,rfl,hb⟩:∃base cap,vx=.slice base n cap/\(0<n->base.isNone=false):=by
  cases dw with
  |sl b o cap f dK he q1 q2=>cases hlen;exact⟨_,_,rfl,λ_=>rfl⟩
  |nil he=>cases hlen;exact⟨_,_,rfl,λh=>absurd h (by omega)⟩
  |bI hi=>cases hlen;exact⟨_,_,rfl,λ_=>rfl⟩
  |_=>cases hlen
 unfold execOp;rw[ho];have hy:a.eval (.const (.slice none 0 0))=.slice none 0 0:=rfl;simp only[j8,hy];have fin:aR P V (pure (X5 (.bool (if op== .neq then !base.isNone else base.isNone)))) (mG lv P r o a N Q) (λv V'=>Q (.panic [{v,recovered:=false}]) a V'):=
  aq (h1 E V (a.put o.dst _) _ ⟨Env.Le.refl E,dY _ _ _,put_defers _ _ _,rfl,rfl⟩ (by rw[e_];exact hc) (aE.gM hd (.val _)) (hn _ hb))
 rcases az with rfl|rfl
 ·refine ay (ay (aq ?_));unfold binOp;exact ay (Qs ht (aq fin))
 ·refine ay (ay (aq ?_));unfold binOp;exact ay (Qs ht (aq fin))
def aqf{c:Ym}{x y:Ui}{k j:UN}{m n:Int}(ho:o.op=.call c)(aV:c.callee=.builtin .max)(cM:c.args=#[x,y])(hx:s.ev x=some (.val (.int k m)))(hy:s.ev y=some (.val (.int j n))):dq lv P r o s (.val (.int k (if n>m then n else m))):=
 rT (λE V a hc aE=>by
  have h1:=ap.ev aE hx;have h2:=ap.ev aE hy;generalize pq:a.eval x=v1 at h1;generalize tr:a.eval y=v2 at h2;cases h1;cases h2;refine⟨_,?_,.val _⟩;unfold execOp;rw[ho];dsimp only;unfold resolve;rw[aV];have nI:c.args.map a.eval=#[.int k m,.int j n]:=by rw[cM];simp[pq,tr]
  rw[nI];rfl)
def aqg{c:Ym}{x y:Ui}{k j:UN}{m n:Int}(ho:o.op=.call c)(aV:c.callee=.builtin .min)(cM:c.args=#[x,y])(hx:s.ev x=some (.val (.int k m)))(hy:s.ev y=some (.val (.int j n))):dq lv P r o s (.val (.int k (if n<m then n else m))):=
 rT (λE V a hc aE=>by
  have h1:=ap.ev aE hx;have h2:=ap.ev aE hy;generalize pq:a.eval x=v1 at h1;generalize tr:a.eval y=v2 at h2;cases h1;cases h2;refine⟨_,?_,.val _⟩;unfold execOp;rw[ho];dsimp only;unfold resolve;rw[aV];have nI:c.args.map a.eval=#[.int k m,.int j n]:=by rw[cM];simp[pq,tr]
  rw[nI];rfl)
def acw{x:Ui}{xt aG t:TypeId}{ok:Bool}{av:AV}{z:T5}(ho:o.op=.typeAssert x xt aG ok)(ht:lx P aG=some false)(hz:eJ P aG=some z)(hx:s.ev x=some (.bR t av))(au:ok=true\/t=aG):
  dq lv P r o s (if t=aG then(if ok then .aF [av,.val (.bool true)]else av)else .aF [AV.of z,.val (.bool false)]):=
 iG (λE V a hc aE=>by
  have hd:=ap.ev aE hx;generalize hv:a.eval x=v at hd;cases hd with
  |bR hd=>
   obtain⟨d,hu,jd⟩:=kU ht;unfold execOp;rw[ho];simp only[hv];refine ay ?_;unfold ag_;refine ec hu ?_;split
   ·rename_i h;cases jd
   ·rename_i h;cases jd
   ·rename_i h;cases h
   ·rename_i t' v' h;cases h;by_cases e:t=aG
    ·rw[if_pos e,if_pos e];cases ok
     ·exact aq (aq ⟨rfl,_,rfl,hd⟩)
     ·refine aq (aq ⟨rfl,_,rfl,.aF rfl λi b hb=> ?_⟩)
      match i,hb with
      |0,hb=>cases hb;exact hd
      |1,hb=>cases hb;exact .val _
    ·rw[if_neg e,if_neg e];have po:ok=true:=au.resolve_right e;subst po;simp only[if_true];refine ay (ay ?_);unfold eJ at hz;obtain⟨inf,z1,z2⟩:=Uc.1 hz;unfold typeInfo;refine ay (oN (b8 ?_));rw[z1];refine aq ?_;rw[z2];refine aq (aq (aq ⟨rfl,_,rfl,.aF rfl λi b hb=> ?_⟩))
     match i,hb with
     |0,hb=>cases hb;exact sH E z
     |1,hb=>cases hb;exact .val _
   ·exfalso;simp_all)
def apS{x:Ui}{xt aG:TypeId}{z:T5}(ho:o.op=.typeAssert x xt aG true)(ht:lx P aG=some false)(hz:eJ P aG=some z)(hx:s.ev x=some (.val .nilIface)):dq lv P r o s (.aF [AV.of z,.val (.bool false)]):=
 iG (λE V a hc aE=>by
  have hd:=ap.ev aE hx;generalize hv:a.eval x=v at hd;cases hd;obtain⟨d,hu,jd⟩:=kU ht;unfold execOp;rw[ho];simp only[hv];refine ay ?_;unfold ag_;refine ec hu ?_;unfold eJ at hz;obtain⟨inf,z1,z2⟩:=Uc.1 hz;split
  ·rename_i h;cases jd
  ·rename_i h;cases h
  ·simp only[if_true];refine ay (ay ?_);unfold typeInfo;refine ay (oN (b8 ?_));rw[z1];refine aq ?_;rw[z2];refine aq (aq (aq ⟨rfl,_,rfl,.aF rfl λi b hb=> ?_⟩))
   match i,hb with
   |0,hb=>cases hb;exact sH E z
   |1,hb=>cases hb;exact .val _
  ·rename_i h;cases h
  ·exfalso;simp_all)
def IT (P:Tg)(t:TypeId)(name:String):Prop:=∀v,bm P (nilAhead (P.types.size+ZB) t v name) (some false)
def aqj{x:Ui}{name:String}{t:TypeId}{av:AV}(ho:o.op=.nilCheck x)(hx:s.ev x=some (.fn (.method name) [.bR t av] []))(hn:IT P t name):dq lv P r o s (.fn (.method name) [.bR t av] []):=
 iG (λE V a hc aE=>by
  have hd:=ap.ev aE hx;unfold execOp;rw[ho];dsimp only;generalize hv:a.eval x=v at hd⊢;have cF:=hd;cases hd with
  |fn dA dH h1 h2=>
   rename_i fa ca;have hfa:fa.size=1:=dA;have:=h1 0 _ rfl;rw[Td,Tf (by omega)]at this;simp only[T9]at this;have hg:fa[0]?=some fa[0]:=Tf (by omega);generalize hq:fa[0]=q at this hg;cases this with
   |bR jC=>
    dsimp only;rw[hg];dsimp only;refine ay (oN (b8 ?_));refine(hn _).bind ?_;simp only[bne_self_eq_false,UB,if_false];exact aq ⟨rfl,_,rfl,cF⟩)
def oT (P:Tg)(t:TypeId):Option (TypeId×TypeId):=match P.underlying t with
 |some (.map k e)=>some (k,e)
 |_=>none
def wQ (es:TD)(ck:Nat)(k x:T5):Option (Nat×T5)->Obj
 |none=> .map (es.push {key:=k,val:=x,born:=ck}) (ck+1)
 |some (i,_)=> .map (es.modify i λe=>{e with key:=k,val:=x}) ck
def asd{t kt et:TypeId}{m k x:Ui}{id ck:Nat}{es:TD}{a b:AV}{K X:T5}{fd:Option (Nat×T5)}(ho:o.op=.mapUpdate t m k x\/o.op=.insert t m k x)(ht:oT P t=some (kt,et))(hm:s.ev m=some (.mp id))(hk:s.ev k=some a)(hx:s.ev x=some b)(hK:a.raw=some K)(hX:b.raw=some X)
  (hH:s.H[id]?=some (.obj (.map es ck))) (hc:bm P (Wb false 10000 kt K) ()) (hf:bm P (WZ kt K es.toList) fd) (GB:∀i v,fd=some (i,v)->Xy 10000 (((es[i]?).map (·.key)).getD K) K=true)
  (hn:next ((⟨s.T,s.H.set id (.obj (wQ es ck K X fd))⟩:AS).put o.dst (.val undef))):Step lv P r o s next bad:=by
 intro E V ac N Q jc aE hd bt h1 _;refine⟨bt,?_⟩;have e1:=(ap.ev aE hk).raw hK;have e2:=(ap.ev aE hx).raw hX;have o6:=ap.ev aE hm;generalize yj:ac.eval m=vm at o6;cases o6;obtain⟨p1,p2,p3,p4⟩:=jc.obj id _ hH;obtain⟨g1,g2⟩:=jc.iV hH rfl;have go:aR P V (do am_ t (.map (some (E.blk id))) K X;pure Next.skip) (mG lv P r o ac N Q) (λv V'=>Q (.panic [{v,recovered:=false}]) ac V'):=by
  refine ay ?_;unfold oT at ht;split at ht
  ·rename_i k' e' hu;cases ht;unfold am_;refine ec hu ?_;dsimp only;refine ay (nX p1 p2 p3 g2 (b8 ?_));dsimp only;refine hc.bind (hf.bind ?_);have fin:∀y,y=wQ es ck K X fd->aR P V (setObj (E.blk id) y) (λ_ V'=>aR P V' (pure Next.skip) (mG lv P r o ac N Q) (λv V'=>Q (.panic [{v,recovered:=false}]) ac V')) (λv V'=>Q (.panic [{v,recovered:=false}]) ac V'):=λy hy=>by
    have j9:y.uU=false:=(by rw[hy];cases fd<;>rfl);have GV:y.isChan=false:=(by rw[hy];cases fd<;>rfl);refine yK p1 p2 GV g2 (b8 (aq ?_));exact h1 E _ (ac.put o.dst undef) _ ⟨Env.Le.refl E,dY _ _ _,put_defers _ _ _,rfl,rfl⟩ (by rw[e_];rw[hy];exact jc.setObj hH (by cases fd<;>rfl) (by cases fd<;>rfl))
     (cm.gM (s:=⟨s.T,s.H.set id (.obj (wQ es ck K X fd))⟩) aE hd (.val undef)) hn
   cases fd with
   |none=>exact fin _ rfl
   |some iv=>
    obtain⟨i,v⟩:=iv;dsimp only;unfold Instr.keyThatStays;rw[GB i v rfl];simp only[if_true];exact ay (aq (fin _ rfl))
  ·cases ht
 unfold execOp;rcases ho with ho|ho
 all_goals
  rw[ho];simp only[yj,e1,e2];exact go
def Fp (es:TD):Option (Nat×T5)->Array MapEntry
 |some (i,_)=>es.eraseIdxIfInBounds i
 |none=>es
def asa{c:Ym}{t t' kt et:TypeId}{m k:Ui}{id ck:Nat}{es:TD}{a:AV}{K:T5}{fd:Option (Nat×T5)}(ho:o.op=.call c)(aV:c.callee=.builtin .delete)(cM:c.args=#[m,k])(dU:c.argTypes=#[t,t'])(ht:oT P t=some (kt,et))(hm:s.ev m=some (.mp id))(hk:s.ev k=some a)(hK:a.raw=some K)
  (hH:s.H[id]?=some (.obj (.map es ck))) (hc:bm P (Wb es.isEmpty 10000 kt K) ()) (hf:bm P (WZ kt K es.toList) fd)
  (hn:next ((⟨s.T,s.H.set id (.obj (.map (Fp es fd) ck))⟩:AS).put o.dst (.val undef))):Step lv P r o s next bad:=by
 intro E V ac N Q jc aE hd bt h1 _;refine⟨bt,?_⟩;have e1:=(ap.ev aE hk).raw hK;have o6:=ap.ev aE hm;generalize yj:ac.eval m=vm at o6;cases o6;obtain⟨p1,p2,p3,p4⟩:=jc.obj id _ hH;obtain⟨g1,g2⟩:=jc.iV hH rfl;unfold execOp;rw[ho];dsimp only;unfold resolve;rw[aV];dsimp only;refine ay (aq ?_);unfold invoke builtin;dsimp only;refine ay ?_;have nI:c.args.map ac.eval=#[.map (some (E.blk id)),K]:=by rw[cM];simp[yj,e1]
 rw[nI,dU];unfold oT at ht;split at ht
 ·rename_i k' e' hu;cases ht;unfold awO;simp only[We,Wu,Vy];refine ec hu ?_;dsimp only;refine ay (nX p1 p2 p3 g2 (b8 ?_));dsimp only;refine hc.bind (hf.bind ?_);have fin:∀uk,uk=(Fp es fd)->aR P V (setObj (E.blk id) (.map uk ck)) (λ_ V'=>aR P V' (pure (ZJ #[])) (λx V'=>aR P V' (pure (X5 x)) (mG lv P r o ac N Q) (λv V'=>Q (.panic [{v,recovered:=false}]) ac V')) (λv V'=>Q (.panic [{v,recovered:=false}]) ac V')) (λv V'=>Q (.panic [{v,recovered:=false}]) ac V'):=λy hy=>by
   refine yK p1 p2 rfl g2 (b8 (aq (aq ?_)));exact h1 E _ (ac.put o.dst undef) _ ⟨Env.Le.refl E,dY _ _ _,put_defers _ _ _,rfl,rfl⟩ (by rw[e_];rw[hy];exact jc.setObj hH rfl rfl)
    (cm.gM (s:=⟨s.T,s.H.set id (.obj (.map (Fp es fd) ck))⟩) aE hd (.val undef)) hn
  cases fd with
  |none=>exact ay (fin _ rfl)
  |some iv=>exact ay (fin _ rfl)
 ·cases ht
def ash{t kt et:TypeId}{x:Ui}{m ck:Nat}{es:TD}(ho:o.op=.range t x)(ht:oT P t=some (kt,et))(hx:s.ev x=some (.mp m))(hH:s.H[m]?=some (.obj (.map es ck)))
  (hn:next ((⟨s.T,s.H++[.iter m ck #[] ck]⟩:AS).put o.dst (.op s.H.length 0))):Step lv P r o s next bad:=by
 intro E V ac N Q hc aE hd bt h1 _;refine⟨bt,?_⟩;have o6:=ap.ev aE hx;generalize yj:ac.eval x=vm at o6;cases o6 with
 |mp hm=>
  obtain⟨p1,p2,p3,p4⟩:=hc.obj m _ hH;obtain⟨g1,g2⟩:=hc.iV hH rfl;unfold execOp;rw[ho];simp only[yj];refine ay ?_;unfold oT at ht;split at ht
  ·rename_i k' e' hu;cases ht;unfold Instr.range;refine ec hu ?_;refine ay (nX p1 p2 p3 g2 (b8 ?_));dsimp only;refine ay (aq ?_);refine ay (nY λrr hf=>b8 (aq (aq ?_)));have hle:E.Le (E.add rr V.ab):=E.pz rr (λb o v h=>by rw[<- hc.I];exact h);have bi:Conc (E.add rr V.ab) (V.upd rr (.mapIter (some (E.blk m)) ck #[] ck)) (s.H++[.iter m ck #[] ck]):=by
    refine hc.add hf _ ⟨?_,?_,λo=> ?_⟩ (λb e=> ?_)
    ·exact Nat.lt_succ_of_lt hm
    ·rw[Env.dE,hle.blk m hm];simp[View.upd]
    ·rw[Env.dE];exact hf.2 o
    ·simp only[bJ,Env.dE,Uh]at e;exact e.symm
   exact h1 _ _ (ac.put o.dst (.pointer (some ⟨rr,0,none⟩))) ((⟨s.T,s.H++[.iter m ck #[] ck]⟩:AS).put o.dst (.op s.H.length 0)) ⟨hle,dY _ _ _,put_defers _ _ _,rfl,rfl⟩ (by rw[e_];exact bi)
    (cm.gM (s:=⟨s.T,s.H++[.iter m ck #[] ck]⟩) (aE.mono hle) hd (Jt hc.n rr V.ab)) hn
  ·cases ht
def Conc.setIter{E:Env}{V:View}{H:SA}(hc:Conc E V H){id m a c:Nat}{b:Array Nat}(hk:H[id]?=some (.iter m a b c))(a':Nat)(b':Array Nat)(c':Nat):Conc E (V.upd (E.blk id) (.mapIter (some (E.blk m)) a' b' c')) (H.set id (.iter m a' b' c')):=by
 obtain⟨p1,p2,p4⟩:=hc.obj id _ hk;refine hc.iY id (.iter m a' b' c') (Env.Le.refl E) hc.I (by simpa using hc.n) lU rfl (λ_ _ _=>rfl) (λb z hb hz=>⟨?_,λ_=>rfl⟩) ⟨p1,by simp[View.upd],p4⟩ (λb h=> .inl ⟨_,hk,h⟩);have:b≠E.blk id:=λe=>hb _ hk (by rw[e];rfl);simpa[View.upd,this]using hz
def ase{it:Ui}{id m since ck tL:Nat}{seen:Array Nat}{es:TD}(ho:o.op=.next it false)(hi:s.ev it=some (.op id 0))(hI:s.H[id]?=some (.iter m since seen tL))(hM:s.H[m]?=some (.obj (.map es ck)))
  (au:es.all (λe=>decide (e.born>=tL))=false\/es.isEmpty=true\/seen.isEmpty=true)
  (hn:∀e∈es,e.born∉seen->next ((⟨s.T,s.H.set id (.iter m since (seen.push e.born) ck)⟩:AS).put o.dst (.aF [.val (.bool true),AV.of e.key,AV.of e.val])))
  (alW:(∀e∈es,e.born<since->e.born∈seen)->next (s.put o.dst (.aF [.val (.bool false)]))):Step lv P r o s next bad:=by
 intro E V ac N Q hc aE hd bt h1 _;refine⟨bt,?_⟩;have oA:=ap.ev aE hi;generalize qx:ac.eval it=vi at oA;cases oA with
 |op cq=>
  obtain⟨q1,q2,q3⟩:=hc.obj id _ hI;obtain⟨p1,p2,p3,p4⟩:=hc.obj m _ hM;have gi:=hc.iV hI rfl;have gm:=hc.iV hM rfl;unfold execOp;rw[ho];simp only[qx];refine ay ?_;unfold Instr.next;dsimp only;refine ay (nX q2 rfl rfl gi.2 (b8 ?_));dsimp only;refine ay (nX p1 p2 p3 gm.2 (b8 ?_));dsimp only;rw[if_neg (by
   intro h;simp only[Uk,UK]at h;rcases au with hk|hk|hk
   ·rw[hk]at h;cases h.2
   ·rw[hk]at h;cases h.1.2
   ·rw[hk]at h;cases h.1.1)]
  generalize R5:(if((es.filter λe=> !seen.contains e.born).filter (λe=>decide (e.born<since))).isEmpty=true then#[none]else#[])++((es.filter λe=> !seen.contains e.born).filter (λe=>decide (e.born<since))++(es.filter λe=> !seen.contains e.born).filter (λe=>decide (e.born>=since))).map some=zo;have cK:∀x∈zo,match x with
    |some e=>e∈es/\e.born∉seen
    |none=>∀e∈es,e.born<since->e.born∈seen:=by
   intro x hx;rw[<- R5]at hx;rcases Vk.1 hx with hx|hx
   ·split at hx
    ·rename_i sU;simp at hx;subst hx;intro e he hlt;apply Uj;intro jf;have:e∈((es.filter λe=> !seen.contains e.born).filter (λe=>decide (e.born<since))):=(by simp[he,hlt,jf]);rw[ae']at sU;rw[sU]at this;simp at this
    ·simp at hx
   ·rw[Array.mem_map]at hx;obtain⟨e,he,rfl⟩:=hx;rcases Vk.1 he with he|he<;>simp at he<;>exact⟨he.1,he.2.2⟩
  have Db:0<zo.size:=by
   rw[<- R5];split
   ·simp;omega
   ·rename_i sU;have:0<((es.filter λe=> !seen.contains e.born).filter (λe=>decide (e.born<since))).size:=by
     rw[ae']at sU;exact Array.size_pos_iff.2 sU
    simp only[YG,Array.size_map,List.size_toArray,VR];omega
  have fin:∀j,j<zo.size->aR P V (match zo[j]?with
    |some (some e)=>do setObj (E.blk id) (.mapIter (some (E.blk m)) since (seen.push e.born) ck);pure (ZJ #[.bool true,e.key,e.val])
    |some none=>pure (ZJ #[.bool false])
    | none => stuck "Next: no such candidate") (λx V' => aR P V' (pure (X5 x)) (mG lv P r o ac N Q) (λv V' => Q (.panic [{ v, recovered := false }]) ac V')) (λv V' => Q (.panic [{ v, recovered := false }]) ac V') := by
   intro j hj;rw[Tf hj];have hm:=cK zo[j] (XP hj);generalize zo[j]=x at hm;cases x with
   |none=>
    dsimp only;refine aq (aq ?_);exact h1 E V (ac.put o.dst _) (s.put o.dst (.aF [.val (.bool false)])) ⟨Env.Le.refl E,dY _ _ _,put_defers _ _ _,rfl,rfl⟩ (by rw[e_];exact hc)
     (cm.gM aE hd (.aF rfl λi b hb=>by
      match i,hb with
      |0,hb=>cases hb;exact .val _)) (alW hm)
   |some e=>
    dsimp only;refine ay (yK q2 rfl rfl gi.2 (b8 (aq (aq ?_))));exact h1 E _ (ac.put o.dst _) _ ⟨Env.Le.refl E,dY _ _ _,put_defers _ _ _,rfl,rfl⟩ (by rw[e_];exact hc.setIter hI since (seen.push e.born) ck)
     (cm.gM (s:=⟨s.T,s.H.set id (.iter m since (seen.push e.born) ck)⟩) aE hd (.aF rfl λi b hb=>by
      match i,hb with
      |0,hb=>cases hb;exact .val _
      |1,hb=>cases hb;exact sH E _
      |2,hb=>cases hb;exact sH E _)) (hn e hm.1 hm.2)
  refine ay (acX (λhf=>b8 (fin 0 Db)) (λhf t=>b8 (fin _ (Nat.mod_lt _ Db))))
def AV.found (z:T5)(ok:Bool):Option (Nat×T5)->AV
 |some (_,v)=>if ok then .aF [AV.of v,.val (.bool true)]else AV.of v
 |none=>if ok then .aF [AV.of z,.val (.bool false)]else AV.of z
def aqc{t kt et:TypeId}{m k:Ui}{id ck:Nat}{es:TD}{a:AV}{K z:T5}{ok:Bool}{fd:Option (Nat×T5)}(ho:o.op=.lookup t m k ok)(ht:oT P t=some (kt,et))(hz:eJ P et=some z)(hm:s.ev m=some (.mp id))(hk:s.ev k=some a)(hK:a.raw=some K)
  (hH:s.H[id]?=some (.obj (.map es ck))) (hc:bm P (Wb es.isEmpty 10000 kt K) ()) (hf:bm P (WZ kt K es.toList) fd):dq lv P r o s (AV.found z ok fd):=
 iG (λE V ac jc aE=>by
  have e1:=(ap.ev aE hk).raw hK;have o6:=ap.ev aE hm;generalize yj:ac.eval m=vm at o6;cases o6;obtain⟨p1,p2,p3,p4⟩:=jc.obj id _ hH;have g:=jc.iV hH rfl;unfold oT at ht;split at ht
  ·rename_i k' e' hu;cases ht;unfold execOp;rw[ho];simp only[yj,e1];refine ay ?_;unfold Instr.lookup;refine ec hu ?_;dsimp only;refine ay (ay (nX p1 p2 p3 g.2 (aq (aq ?_))));refine hc.bind (ay (hf.ok ?_));have two:∀(v:T5)(b:Bool)(i:Nat)(x:AV),[AV.of v,.val (.bool b)][i]?=some x->ap E x ((#[v,Yg b]:SG).getD i undef):=λv b i x hx=>by
    match i,hx with
    |0,hx=>cases hx;exact sH E _
    |1,hx=>cases hx;exact .val _
   cases fd with
   |some iv=>
    obtain⟨i,v⟩:=iv;refine aq (aq ⟨rfl,_,rfl,?_⟩);cases ok with
    |true=>exact .aF rfl (two v true)
    |false=>exact sH E _
   |none=>
    refine HZ hz (aq (aq ⟨rfl,_,rfl,?_⟩));cases ok with
    |true=>exact .aF rfl (two z false)
    |false=>exact sH E _
  ·cases ht)
def apY{it:Ui}{id m since ck:Nat}{seen:Array Nat}{es:TD}{b:Nat}{e:MapEntry}(ho:o.op=.entry it)(hi:s.ev it=some (.op id 0))(hI:s.H[id]?=some (.iter m since seen ck))(hM:s.H[m]?=some (.obj (.map es ck)))
  (hb:seen.back?=some b) (he:es.find? (·.born==b)=some e):dq lv P r o s (.aF [AV.of e.key,AV.of e.val]):=
 iG (λE V ac hc aE=>by
  have oA:=ap.ev aE hi;generalize qx:ac.eval it=vi at oA;cases oA with
  |op cq=>
   obtain⟨q1,q2,q3⟩:=hc.obj id _ hI;obtain⟨p1,p2,p3,p4⟩:=hc.obj m _ hM;have gi:=hc.iV hI rfl;have gm:=hc.iV hM rfl;unfold execOp;rw[ho];simp only[qx];refine ay ?_;unfold Instr.entry;dsimp only;refine ay (nX q2 rfl rfl gi.2 (b8 ?_));dsimp only;rw[hb];dsimp only;refine ay (nX p1 p2 p3 gm.2 (b8 ?_));dsimp only;rw[if_neg (by simp)];rw[he];refine aq (aq ⟨rfl,_,rfl,.aF rfl λi b hb=> ?_⟩)
   match i,hb with
   |0,hb=>cases hb;exact sH E _
   |1,hb=>cases hb;exact sH E _)
end
def ap8{lv:Bool}{P:Tg}{r:SL}{o:U8}{s:AS}{c:Ym}{x:Ui}{t:TypeId}(ho:o.op=.call c)(aV:c.callee=.builtin .len)(qy:c.args[0]?=some x)(yh:c.argTypes[0]?=some t)(ht:kj P t=some .map)(hx:s.ev x=some (.val (.map none))):dq lv P r o s (.val (.int .i64 0)):=
 iG (λE V ac hc aE=>by
  have hd:=ap.ev aE hx;generalize hv:ac.eval x=v at hd;cases hd;unfold kj at ht;split at ht<;>cases ht;rename_i hu;unfold execOp;rw[ho];dsimp only;unfold resolve;rw[aV];dsimp only;refine ay (aq ?_);unfold invoke builtin;dsimp only;refine ay ?_;unfold Ys;have e1:(c.args.map ac.eval)[0]?=some (.map none):=by simp[qy,hv]
  simp only[yh,e1];refine ec hu ?_;exact aq (aq ⟨rfl,_,rfl,.val _⟩))
def gh (E:Env)(V:View)(k:SF)(kp:SF):Out->View->Prop
 |.ret v,V'=>∃av E' H',E.Le E'/\V'.role=V.role/\V'.deaf=V.deaf/\ap E' av v/\Conc E' V' H'/\k av H'
 |.panic ch,V'=>∃pv v E' H',ch=[{v,recovered:=false}]/\E.Le E'/\V'.role=V.role/\V'.deaf=V.deaf/\ap E' pv v/\Conc E' V' H'/\kp pv H'
def a_ (lv:Bool)(P:Tg)(f:UH)(H:SA)(args:SC)(k:SF)(kp:SF):Prop:=
 ∀(E:Env)(V:View)(vs:SG),Conc E V H->bL E args vs->Body lv P f vs .normal V (gh E V k kp)
def Nx (lv:Bool)(P:Tg)(R:SU):Next->View->Prop
 |.value v,V=>R (.ret v) V
 |.skip,V=>R (.ret undef) V
 |.enter f args,V=>Body lv P f args .normal V R
 |.round l f tmps assign body,V=>nf lv P (Y5 l f tmps assign body .normal) V R
 |_,_=>False
def eM (lv:Bool)(P:Tg)(c:AV)(H:SA)(args:SC)(k:SF)(kp:SF):Prop:=
 ∀(E:Env)(V:View)(cv:T5)(vs:SG),Conc E V H->ap E c cv->bL E args vs->
  aR P V (do let d<- VM cv vs;invoke d.target d.args) (λnx V'=>Nx lv P (gh E V k kp) nx V') (λv V'=>gh E V k kp (.panic [{v,recovered:=false}]) V')
def sj (lv:Bool)(P:Tg)(c:AV)(name:String)(H:SA)(args:SC)(k:SF)(kp:SF):Prop:=
 ∀(E:Env)(V:View)(cv:T5)(vs:SG),Conc E V H->ap E c cv->bL E args vs->
  aR P V (invoke (.fn (.method name) #[]) (#[cv]++vs)) (λnx V'=>Nx lv P (gh E V k kp) nx V') (λv V'=>gh E V k kp (.panic [{v,recovered:=false}]) V')
def gh.mono{E:Env}{V:View}{k k' kp wE:SF}(h:∀a H,k a H->k' a H)(hp:∀a H,kp a H->wE a H):∀{o V'},gh E V k kp o V'->gh E V k' wE o V'
 |.ret _,_,⟨av,E',H',a,b,c,d,e,f⟩=>⟨av,E',H',a,b,c,d,e,h _ _ f⟩
 |.panic _,_,⟨pv,v,E',H',a,b,c,d,e,f,g⟩=>⟨pv,v,E',H',a,b,c,d,e,f,hp _ _ g⟩
def Nx.mono{lv:Bool}{P:Tg}{R R':SU}(h:∀o V,R o V->R' o V):∀{nx V},Nx lv P R nx V->Nx lv P R' nx V:=by
 intro nx V hn;cases nx with
 |value v=>exact h _ _ hn
 |skip=>exact h _ _ hn
 |enter f args=>exact Body.mono hn h
 |round l f tmps a b=>exact nf.mono hn h
 |_=>exact hn
def a_.mono{lv:Bool}{P:Tg}{f:UH}{H:SA}{args:SC}{k k' kp wE:SF}(h:a_ lv P f H args k kp)(hk:∀a H,k a H->k' a H)(hp:∀a H,kp a H->wE a H):a_ lv P f H args k' wE:=λE V vs hc hd=>
 (h E V vs hc hd).mono λ_ _ x=>x.mono hk hp
def eM.mono{lv:Bool}{P:Tg}{f:AV}{H:SA}{args:SC}{k k' kp wE:SF}(h:eM lv P f H args k kp)(hk:∀a H,k a H->k' a H)(hp:∀a H,kp a H->wE a H):eM lv P f H args k' wE:=λE V cv vs hc hd mf=>
 (h E V cv vs hc hd mf).mono (λ_ _ x=>Nx.mono (λ_ _ y=>y.mono hk hp) x) (λ_ _ y=>y.mono hk hp)
def qH (P:Tg)(g:UH):Bool:=match P.funcs[g]?with
 | some fn => fn.body.isSome && !(fn.name == "runtime.NumGoroutine")
 |none=>false
def arl{lv:Bool}{P:Tg}{V:View}{g:UH}{vs:SG}{R:SU}{Kp:SP}(hg:qH P g=true)(h:Body lv P g vs .normal V R):aR P V (callFunc g vs) (λnx V'=>Nx lv P R nx V') Kp:=by
 unfold callFunc;refine ay (oN (b8 ?_));unfold qH at hg;split at hg
 ·rename_i fn uD;simp only[Uk,UK]at hg;rw[uD];dsimp only;have CI:fn.body.isNone=false:=by
   have h1:=hg.1;cases hb:fn.body with
   |none=>rw[hb]at h1;cases h1
   |some _=>rfl
  rw[if_neg (by rw[hg.2];simp),if_neg (by rw[CI];simp)];exact aq h
 ·cases hg
section
variable {lv:Bool}{P:Tg}{H:SA}{args:SC}{k kp:SF}
def Jg{g:UH}{first cT:SC}(hg:qH P g=true)(hf:a_ lv P g H (first++args++cT) k kp):eM lv P (.fn (.func g) first cT) H args k kp:=by
 intro E V cv vs hc hd mf;cases hd with
 |fn dA dH h1 h2=>
  rename_i fa ca;unfold VM;refine ay (aq ?_);unfold invoke;dsimp only;exact arl hg (hf E V _ hc (zu (zu ⟨dA,h1⟩ mf) ⟨dH,h2⟩))
end
def fe (s:AS):List Ui->Option (SC)
 |[]=>some []
 |x::l=>match s.ev x,fe s l with
  |some a,some aG=>some (a::aG)
  |_,_=>none
def zB{E:Env}{s:AS}{a:Act}(k:cm E s.T a.tmps):∀{l:List Ui}{aG:SC},fe s l=some aG->bL E aG (l.map a.eval).toArray
 |[],_,h=>by cases h;exact⟨rfl,by simp⟩
 |x::l,aG,h=>by
  simp only[fe]at h;split at h
  ·rename_i av jI h1 h2;cases h;have ih:=zB k h2;refine⟨by have:=ih.1;simpa using this,λi b e=> ?_⟩;cases i with
   |zero=>simp at e;subst e;simpa[Td]using ap.ev k h1
   |succ i=>
    simp only[Vy]at e;have:=ih.2 i b e;simpa[Td]using this
  ·cases h
section
variable {lv:Bool}{P:Tg}{r:SL}{o:U8}{s:AS}{next:SV}{bad:AV->SV}
def ab4{E:Env}{V:View}{a:Act}{N:S0}{Q:SJ}(aE:cm E s.T a.tmps)(hd:∀d,o.dst=some d->d<a.tmps.size)
  (h1:∀E' V' a' s',Kept E E' V V' a a'->Conc E' V' s'.H->cm E' s'.T a'.tmps->next s'->N a' V')
  (h2:∀E' V' s' pv v,Kept E E' V V' a a->Conc E' V' s'.H->cm E' s'.T a.tmps->ap E' pv v->bad pv s'->Q (.panic [{v,recovered:=false}]) a V'):
  (∀nx V',Nx lv P (gh E V (λb H'=>next ((⟨s.T,H'⟩:AS).put o.dst b)) (λpv H'=>bad pv ⟨s.T,H'⟩)) nx V'->mG lv P r o a N Q nx V')/\
  (∀v V',gh E V (λb H'=>next ((⟨s.T,H'⟩:AS).put o.dst b)) (λpv H'=>bad pv ⟨s.T,H'⟩) (.panic [{v,recovered:=false}]) V'->Q (.panic [{v,recovered:=false}]) a V'):=by
 have hv:∀v V',gh E V (λb H'=>next ((⟨s.T,H'⟩:AS).put o.dst b)) (λpv H'=>bad pv ⟨s.T,H'⟩) (.ret v) V'->N (a.put o.dst v) V':=λv V' ⟨av,E',H',hle,cg,eX,bh,bi,hk⟩=>
  h1 E' V' _ _ ⟨hle,dY _ _ _,put_defers _ _ _,cg,eX⟩ (by rw[e_];exact bi) (cm.gM (s:=⟨s.T,H'⟩) (aE.mono hle) hd bh) hk
 have hp:∀ch V',gh E V (λb H'=>next ((⟨s.T,H'⟩:AS).put o.dst b)) (λpv H'=>bad pv ⟨s.T,H'⟩) (.panic ch) V'->Q (.panic ch) a V':=λch V' ⟨pv,v,E',H',eW,hle,cg,eX,bh,bi,hk⟩=>by
  subst eW;exact h2 E' V' ⟨s.T,H'⟩ pv v ⟨hle,rfl,rfl,cg,eX⟩ bi (aE.mono hle) bh hk
 refine⟨λnx V' hn=> ?_,λv V' h=>hp _ _ h⟩;cases nx with
 |value v=>exact hv _ _ hn
 |skip=>exact hv _ _ hn
 |enter f args=>
  refine Body.mono (R':=fun
   |.ret v,V'=>N (a.put o.dst v) V'
   |.panic ch,V'=>Q (.panic ch) a V') hn λot aW h=> ?_
  cases ot with
  |ret v=>exact hv _ _ h
  |panic ch=>exact hp _ _ h
 |round l f tmps aG b=>
  refine nf.mono (R':=fun
   |.ret v,V'=>N (a.put o.dst v) V'
   |.panic ch,V'=>Q (.panic ch) a V') hn λot aW h=> ?_
  cases ot with
  |ret v=>exact hv _ _ h
  |panic ch=>exact hp _ _ h
 |_=>exact hn.elim
def N5{c:Ym}{x:Ui}{sE:AV}{aG:SC}(ho:o.op=.call c)(aV:c.callee=.value x)(hx:s.ev x=some sE)(has:fe s c.args.toList=some aG)
  (hf:eM lv P sE s.H aG (λb H'=>next ((⟨s.T,H'⟩:AS).put o.dst b)) (λpv H'=>bad pv ⟨s.T,H'⟩)):Step lv P r o s next bad:=by
 intro E V a N Q hc aE hd bt h1 h2;have rF:=ab4 (lv:=lv) (P:=P) (r:=r) aE hd h1 h2;refine⟨bt,?_⟩;unfold execOp;rw[ho];dsimp only;unfold resolve;rw[aV];dsimp only;have e:c.args.map a.eval=(c.args.toList.map a.eval).toArray:=by apply Ws;simp
 rw[e];exact(hf E V (a.eval x) _ hc (ap.ev aE hx) (zB aE has)).mono (λnx V' h=>rF.1 nx V' h) (λv V' h=>rF.2 v V' h)
def ads{c:Ym}{x:Ui}{name:String}{sE:AV}{aG:SC}(ho:o.op=.call c)(aV:c.callee=.invoke x name)(hx:s.ev x=some sE)(has:fe s c.args.toList=some aG)
  (hf:sj lv P sE name s.H aG (λb H'=>next ((⟨s.T,H'⟩:AS).put o.dst b)) (λpv H'=>bad pv ⟨s.T,H'⟩)):Step lv P r o s next bad:=by
 intro E V a N Q hc aE hd bt h1 h2;have rF:=ab4 (lv:=lv) (P:=P) (r:=r) aE hd h1 h2;refine⟨bt,?_⟩;unfold execOp;rw[ho];dsimp only;unfold resolve;rw[aV];dsimp only;refine ay (aq ?_);have e:c.args.map a.eval=(c.args.toList.map a.eval).toArray:=by apply Ws;simp
 rw[e];exact(hf E V (a.eval x) _ hc (ap.ev aE hx) (zB aE has)).mono (λnx V' h=>rF.1 nx V' h) (λv V' h=>rF.2 v V' h)
def asf{x:Ui}{t:TypeId}{av:AV}(ho:o.op=.panic x)(hx:s.ev x=some (.bR t av))(hb:bad (.bR t av) s):Step lv P r o s next bad:=by
 intro E V a N Q hc aE hd bt _ h2;refine⟨bt,?_⟩;have dw:=ap.ev aE hx;unfold execOp;rw[ho];dsimp only;refine ay ?_;generalize a.eval x=v at dw⊢;have alg:=dw;cases dw with
 |bR hv=>
  unfold Instr.panic;dsimp only;exact arv (h2 E V s (.bR t av) _ ⟨Env.Le.refl E,rfl,rfl,rfl,rfl⟩ hc aE alg hb)
end
structure BA (k kp:SF):Type where
 n:Nat
def Br (lv:Bool)(P:Tg)(c:AV)(H:SA)(args:SC)(k kp:SF)(_t:BA k kp):Prop:=eM lv P c H args k kp
def OL (lv:Bool)(P:Tg)(c:AV)(name:String)(H:SA)(args:SC)(k kp:SF)(_t:BA k kp):Prop:=sj lv P c name H args k kp
def nu{lv:Bool}{P:Tg}{c:AV}{H:SA}{args:SC}{k kp:SF}{t:BA k kp}(h:eM lv P c H args k kp):Br lv P c H args k kp t:=h
def Du{lv:Bool}{P:Tg}{c:AV}{name:String}{H:SA}{args:SC}{k kp:SF}{t:BA k kp}(h:sj lv P c name H args k kp):OL lv P c name H args k kp t:=h
def ao {α:Type}(x:Option α)(k:α->Prop):Prop:=match x with
 |some a=>k a
 |none=>False
def AV.asBool (a:AV)(k:Bool->Prop):Prop:=match a with
 |.val (.bool b)=>k b
 |_=>False
def AV.asInt (a:AV)(k:UN->Int->Prop):Prop:=match a with
 |.val (.int j n)=>k j n
 |_=>False
def AV.xn (a:AV)(k:SC->Prop):Prop:=match a with
 |.aF l=>k l
 |_=>False
def AV.asAgg (a:AV)(k:SC->Prop):Prop:=match a with
 |.agg l=>k l
 |_=>False
def AV.pQ (a:AV)(k:Nat->S7):Prop:=match a with
 |.op i j=>k i j
 |_=>False
def AV.sB (a:AV)(k:S7):Prop:=match a with
 |.mp i=>k i
 |_=>False
abbrev TG:=Nat->SC->End->Prop
def AV.vJ (a:AV)(k:TG):Prop:=match a with
 |.sl n l e=>k n l e
 |_=>False
def ao.out{α:Type}{x:Option α}{k:α->Prop}(h:ao x k):∃a,x=some a/\k a:=by
 cases x with
 |none=>exact h.elim
 |some a=>exact⟨a,rfl,h⟩
def BY{a:AV}{k:Bool->Prop}(h:a.asBool k):∃b,a=.val (.bool b)/\k b:=by
 unfold AV.asBool at h;split at h
 ·exact⟨_,rfl,h⟩
 ·exact h.elim
def od{a:AV}{k:UN->Int->Prop}(h:a.asInt k):∃j n,a=.val (.int j n)/\k j n:=by
 unfold AV.asInt at h;split at h
 ·exact⟨_,_,rfl,h⟩
 ·exact h.elim
def afW{a:AV}{k:SC->Prop}(h:a.xn k):∃l,a=.aF l/\k l:=by
 unfold AV.xn at h;split at h
 ·exact⟨_,rfl,h⟩
 ·exact h.elim
def afN{a:AV}{k:SC->Prop}(h:a.asAgg k):∃l,a=.agg l/\k l:=by
 unfold AV.asAgg at h;split at h
 ·exact⟨_,rfl,h⟩
 ·exact h.elim
def BZ{a:AV}{k:Nat->S7}(h:a.pQ k):∃i j,a=.op i j/\k i j:=by
 unfold AV.pQ at h;split at h
 ·exact⟨_,_,rfl,h⟩
 ·exact h.elim
def EY{a:AV}{k:S7}(h:a.sB k):∃i,a=.mp i/\k i:=by
 unfold AV.sB at h;split at h
 ·exact⟨_,rfl,h⟩
 ·exact h.elim
def Pc{a:AV}{k:TG}(h:a.vJ k):∃n l e,a=.sl n l e/\k n l e:=by
 unfold AV.vJ at h;split at h
 ·exact⟨_,_,_,rfl,h⟩
 ·exact h.elim
section
variable (P:Tg)(s:AS)
def dh (op:Xc)(xt:TypeId)(a b:AV)(k:SQ):Prop:=match a,b with
 |.val (.int j m),.val (.int j' n)=>if mX op then ao (Bb op j m n) λv=>k (.val v)else j'=j/\ao (mb op j m n) λv=>k (.val v)
 |_,_=>(op=.eql\/op=.neq)/\ao a.raw λX=>ao b.raw λY=>xA X Y=true/\P.eqGuardType P.depth xt=false/\∃e,bm P (XM xt X Y) e/\k (.val (.bool (if op== .neq then !e else e)))
def iJ (op:Xc)(xt:TypeId)(y:Ui)(a:AV)(k:SQ):Prop:=match y,a with
 |.const .nilIface,.val .nilIface=>lx P xt=some true/\(op=.eql\/op=.neq)/\k (.val (.bool (if op== .neq then false else true)))
 |.const .nilIface,.bR _ _=>lx P xt=some true/\(op=.eql\/op=.neq)/\k (.val (.bool (if op== .neq then true else false)))
 |y,a=>ao (s.ev y) λb=>dh P op xt a b k
def sg (t:TypeId)(a:AV)(l h m:TK)(k:SQ):Prop:=match a with
 |.sl n li e=>ao (jT P t) λ(_,sz)=>xd n li e sz l h m k
 |.bI id off n cap=>ao (jT P t) λ(_,sz)=>sr id off n cap sz l h m k
 |.op id off=>ao (w9 P t) λ(n,sz)=>sr id off n n sz l h m k
 |_=>False
def sf (t:TypeId)(a:AV)(k:SQ):Prop:=match kj P t,a with
 |some .slice,.sl n _ _=>k (.val (.int .i64 n))
 |some .slice,.bI _ _ n _=>k (.val (.int .i64 n))
 |some .str,.val (.string b)=>k (.val (.int .i64 b.size))
 |some .map,.mp id=>match s.H[id]?with
  |some (.obj (.map es _))=>k (.val (.int .i64 es.size))
  |_=>False
 |some .map,.val (.map none)=>k (.val (.int .i64 0))
 |_,_=>False
def mA (a:AV)(k:SQ):Prop:=match a with
 |.fn (.method name) [.bR t av] []=>IT P t name/\k (.fn (.method name) [.bR t av] [])
 |a=>a.sure=true/\k a
def Bn (aG:TypeId)(ok:Bool)(a:AV)(k:SQ):Prop:=lx P aG=some false/\ao (eJ P aG) λz=>match a with
 |.bR t av=>if t=aG then k (if ok then .aF [av,.val (.bool true)]else av)else ok=true/\k (.aF [AV.of z,.val (.bool false)])
 |.val .nilIface=>ok=true/\k (.aF [AV.of z,.val (.bool false)])
 |_=>False
def lD (o:U8)(k:SQ):Prop:=match o.op with
 |.move x=>ao (s.ev x) k
 |.assign x=>ao (s.ev x) k
 |.pick c x y=>ao (s.ev c) λb=>ao (s.ev x) λa=>ao (s.ev y) λa'=>b.asBool λb=>k (if b then a else a')
 |.binOp op xt x y _=>ao (s.ev x) λa=>iJ P s op xt y a k
 |.unOp .not _ x=>ao (s.ev x) λa=>a.asBool λb=>k (.val (.bool !b))
 |.unOp .neg _ x=>ao (s.ev x) λa=>a.asInt λj n=>k (.val (.int j (j.wrap (0-n))))
 |.convert src dst x=>ao (s.ev x) λa=>match Bs P src dst with
   |some (some j)=>a.asInt λ_ n=>k (.val (.int j (j.wrap n)))
   |_=>False
 |.extract x i=>ao (s.ev x) λa=>a.xn λl=>ao l[i]? k
 |.nilCheck x=>ao (s.ev x) λa=>mA P a k
 |.makeInterface t x=>lx P t=some false/\ao (s.ev x) λa=>k (.bR t a)
 |.makeFunc f first cT=>ao (first.toList.mapM s.ev) λfa=>ao (cT.toList.mapM s.ev) λca=>k (.fn f fa ca)
 |.typeAssert x _ aG ok=>ao (s.ev x) λa=>Bn P aG ok a k
 |.build t parts=>ao (m_ P t) λ(pl,z)=>ao (jX s parts.toList) λaG=>ao (oi pl.at (l7 z) aG) λl=>k (.agg l)
 |.buildSlice t len parts=>ao (qQ P t) λ(_,sz,z)=>len* sz<=2^24/\ao (jX s parts.toList) λaG=>ao (oi (gO.at (.elems sz)) (fO z (len* sz)) aG) λl=>k (.sl len l .exact)
 |.fieldAddr t x f=>ao (s.ev x) λa=>ao (eN P t f) λn=>ao (a.shift n) k
 |.indexAddr t x ix=>ao (s.ev x) λa=>ao (s.ev ix) λi=>i.asInt λ_ i=>ao (n3 P t) fun
   |(some n,sz)=>(0<=i/\i<n)/\ao (a.shift (i.toNat* sz)) k
   |(none,sz)=>ao a.row λ(n,p)=>(0<=i/\i<n)/\ao (p.shift (i.toNat* sz)) k
 |.field t x f=>ao (s.ev x) λa=>a.asAgg λl=>ao (IU P t f) λ(off,n,g)=>ao (AV.cut l off n g) k
 |.index t x ix=>ao (s.ev x) λa=>ao (s.ev ix) λi=>i.asInt λ_ i=>match a with
   |.agg l=>ao (IM P t) λ(n,sz,g)=>(0<=i/\i<n)/\ao (AV.cut l (i.toNat* sz) sz g) k
   |.val (.string b)=>(match kj P t with|some .str=>True|_=>False)/\0<=i/\ao b[i.toNat]? λc=>k (.val (.int .u8 c.toNat))
   |_=>False
 |.load t x=>ao (s.ev x) λp=>ao (s.at p) λl=>ao (Ty P t) fun
   |(n,true)=>n<=l.length/\k (.agg (l.take n))
   |(_,false)=>ao l[0]? k
 |.lookup t m k' ok=>ao (oT P t) λ(kt,et)=>ao (eJ P et) λz=>ao (s.ev m) λp=>ao (s.ev k') λa=>ao a.raw λK=>p.sB λid=>match s.H[id]?with
  |some (.obj (.map es _))=>bm P (Wb es.isEmpty 10000 kt K) ()/\∃fd,bm P (WZ kt K es.toList) fd/\k (AV.found z ok fd)
  |_=>False
 |.slice t x lo hi mx=>ao (s.ev x) λa=>ao (s.i_ lo) λl=>ao (s.i_ hi) λh=>ao (s.i_ mx) λm=>sg P t a l h m k
 |.entry it=>ao (s.ev it) λp=>p.pQ λid off=>off=0/\match s.H[id]?with
   |some (.iter m _ seen ck)=>match s.H[m]?with
    |some (.obj (.map es PR))=>PR=ck/\ao seen.back? λb=>ao (es.find? (·.born==b)) λe=>k (.aF [AV.of e.key,AV.of e.val])
    |_=>False
   |_=>False
 |.call c=>match c.callee with
  |.builtin .len=>ao c.args[0]? λx=>ao c.argTypes[0]? λt=>ao (s.ev x) λa=>sf P s t a k
  |.builtin .max=>match c.args.toList with
   |[x,y]=>ao (s.ev x) λa=>ao (s.ev y) λb=>a.asInt λj m=>b.asInt λ_ n=>k (.val (.int j (if n>m then n else m)))
   |_=>False
  |.builtin .min=>match c.args.toList with
   |[x,y]=>ao (s.ev x) λa=>ao (s.ev y) λb=>a.asInt λj m=>b.asInt λ_ n=>k (.val (.int j (if n<m then n else m)))
   |_=>False
  |_=>False
 |_=>False
end
section
variable {lv:Bool}{P:Tg}{r:SL}{o:U8}{s:AS}
def nk{c:Ym}{x y:Ui}(h:c.args.toList=[x,y]):c.args=#[x,y]:=by
 apply Ws;simpa using h
def lD.sound{k:SQ}(h:lD P s o k):∃av,dq lv P r o s av/\k av:=by
 unfold lD at h;split at h
 ·rename_i x ho;obtain⟨a,h1,h2⟩:=h.out;exact⟨a,acz (.inl ho) h1,h2⟩
 ·rename_i x ho;obtain⟨a,h1,h2⟩:=h.out;exact⟨a,acz (.inr ho) h1,h2⟩
 ·rename_i c x y ho;obtain⟨b,h1,h⟩:=h.out;obtain⟨a,h2,h⟩:=h.out;obtain⟨a',h3,h⟩:=h.out;obtain⟨b,rfl,h⟩:=BY h;exact⟨_,aql ho h1 h2 h3,h⟩
 ·rename_i op xt x y yt ho;obtain⟨a,h1,hY⟩:=h.out;clear h;unfold iJ at hY;split at hY
  ·exact⟨_,acx ho hY.2.1 h1 (.inl ⟨rfl,rfl⟩) hY.1,hY.2.2⟩
  ·exact⟨_,acx ho hY.2.1 h1 (.inr ⟨⟨_,_,rfl⟩,rfl⟩) hY.1,hY.2.2⟩
  rename_i n1 n2;clear n1 n2;obtain⟨b,h2,h⟩:=hY.out;unfold dh at h;split at h
  ·rename_i j m j' n;split at h
   ·obtain⟨v,h3,h⟩:=h.out;exact⟨_,aqm ho h1 h2 h3,h⟩
   ·obtain⟨rfl,h⟩:=h;obtain⟨v,h3,h⟩:=h.out;exact⟨_,apU ho h1 h2 h3,h⟩
  ·obtain⟨az,h⟩:=h;obtain⟨X,h3,h⟩:=h.out;obtain⟨Y,h4,h⟩:=h.out;obtain⟨h5,h6,e,h7,h⟩:=h;exact⟨_,apZ ho az h1 h2 h3 h4 h5 h6 h7,h⟩
 ·rename_i t x ho;obtain⟨a,h1,h⟩:=h.out;obtain⟨b,rfl,h⟩:=BY h;exact⟨_,aqk ho h1,h⟩
 ·rename_i t x ho;obtain⟨a,h1,h⟩:=h.out;obtain⟨j,n,rfl,h⟩:=od h;exact⟨_,aqh ho h1,h⟩
 ·rename_i src dst x ho;obtain⟨a,h1,h⟩:=h.out;split at h
  ·rename_i j hj;obtain⟨j',n,rfl,h⟩:=od h;exact⟨_,apX ho hj h1,h⟩
  ·exact h.elim
 ·rename_i x i ho;obtain⟨a,h1,h⟩:=h.out;obtain⟨l,rfl,h⟩:=afW h;obtain⟨b,h2,h⟩:=h.out;exact⟨_,ap0 ho h1 h2,h⟩
 ·rename_i x ho;obtain⟨a,h1,h⟩:=h.out;unfold mA at h;split at h
  ·exact⟨_,aqj ho h1 h.1,h.2⟩
  ·exact⟨_,aqi ho h1 h.1,h.2⟩
 ·rename_i t x ho;obtain⟨h1,h⟩:=h;obtain⟨a,h2,h⟩:=h.out;exact⟨_,aqe ho h1 h2,h⟩
 ·rename_i f first cT ho
  obtain⟨fa,h1,h⟩:=h.out;obtain⟨ca,h2,h⟩:=h.out;exact⟨_,aqd ho h1 h2,h⟩
 ·rename_i x xt aG ok ho;obtain⟨a,h1,hA⟩:=h.out;obtain⟨h2,hB⟩:=hA;obtain⟨z,h3,hC⟩:=hB.out;clear h hB;split at hC
  ·rename_i t av;split at hC
   ·rename_i e;subst e;exact⟨_,acw ho h2 h3 h1 (.inr rfl),by rw[if_pos rfl];exact hC⟩
   ·rename_i e;exact⟨_,acw ho h2 h3 h1 (.inl hC.1),by rw[if_neg e];exact hC.2⟩
  ·obtain⟨e,hC⟩:=hC;subst e;exact⟨_,apS ho h2 h3 h1,hC⟩
  ·exact hC.elim
 ·rename_i t parts ho;obtain⟨⟨pl,z⟩,h1,h⟩:=h.out;obtain⟨aG,h2,h⟩:=h.out;obtain⟨l,h3,h⟩:=h.out;exact⟨_,apV ho h1 h2 h3,h⟩
 ·rename_i t len parts ho;obtain⟨⟨e,sz,z⟩,h1,h⟩:=h.out;obtain⟨hs,h⟩:=h;obtain⟨aG,h2,h⟩:=h.out;obtain⟨l,h3,h⟩:=h.out;exact⟨_,apW ho h1 hs h2 h3,h⟩
 ·rename_i t x f ho;obtain⟨a,h1,h⟩:=h.out;obtain⟨n,hn,h⟩:=h.out;obtain⟨b,h2,h⟩:=h.out;exact⟨_,ap1 ho hn h1 h2,h⟩
 ·rename_i t x ix ho;obtain⟨a,h1,h⟩:=h.out;obtain⟨i,h2,h⟩:=h.out;obtain⟨j,i,rfl,h⟩:=od h;obtain⟨⟨on,sz⟩,ht,h⟩:=h.out;cases on with
  |some n=>
   obtain⟨⟨h3,h4⟩,h⟩:=h;obtain⟨q,h5,h⟩:=h.out;exact⟨_,ap4 ho ht h1 h2 h3 h4 h5,h⟩
  |none=>
   obtain⟨⟨n,p⟩,aml,h⟩:=ao.out h;obtain⟨⟨h3,h4⟩,h⟩:=h;obtain⟨q,h5,h⟩:=h.out;exact⟨_,ap3 ho ht h1 aml h2 h3 h4 h5,h⟩
 ·rename_i t x f ho;obtain⟨a,h1,h⟩:=h.out;obtain⟨l,rfl,h⟩:=afN h;obtain⟨⟨off,n,g⟩,h2,h⟩:=h.out;obtain⟨b,h3,h⟩:=h.out;exact⟨_,ap2 ho h2 h1 h3,h⟩
 ·rename_i t x ix ho;obtain⟨a,h1,h⟩:=h.out;obtain⟨i,h2,h⟩:=h.out;obtain⟨j,i,rfl,h⟩:=od h;split at h
  ·obtain⟨⟨n,sz,g⟩,h3,h⟩:=h.out;obtain⟨⟨h4,h5⟩,h⟩:=h;obtain⟨b,h6,h⟩:=h.out;exact⟨_,ap6 ho h3 h1 h2 h4 h5 h6,h⟩
  ·obtain⟨h3,h4,h⟩:=h;obtain⟨c,h5,h⟩:=h.out;split at h3
   ·rename_i hl;exact⟨_,ap5 ho hl h1 h2 h4 h5,h⟩
   ·exact h3.elim
  ·exact h.elim
 ·rename_i t x ho;obtain⟨p,h1,h⟩:=h.out;obtain⟨l,hl,h⟩:=h.out;obtain⟨⟨n,g⟩,ht,h⟩:=h.out;cases g with
  |true=>exact⟨_,aqa ho ht h1 hl h.1,h.2⟩
  |false=>
   obtain⟨av,h2,h⟩:=ao.out h;exact⟨_,aqb ho ht h1 hl h2,h⟩
 ·rename_i t m k' ok ho;obtain⟨⟨kt,et⟩,h1,hA⟩:=h.out;obtain⟨z,h2,hB⟩:=hA.out;obtain⟨p,h3,hC⟩:=hB.out;obtain⟨a,h4,hD⟩:=hC.out;obtain⟨K,h5,hE⟩:=hD.out;obtain⟨id,e1,hF⟩:=EY hE;subst e1;split at hF
  ·rename_i es ck hH;obtain⟨h6,fd,h7,h8⟩:=hF;exact⟨_,aqc ho h1 h2 h3 h4 h5 hH h6 h7,h8⟩
  ·exact hF.elim
 ·rename_i t x lo hi mx ho;obtain⟨a,h1,h⟩:=h.out;obtain⟨l,h2,h⟩:=h.out;obtain⟨hh,h3,h⟩:=h.out;obtain⟨m,h4,h⟩:=h.out;unfold sg at h;split at h
  ·obtain⟨⟨e,sz⟩,h5,h⟩:=h.out;exact aqn ho h5 h1 h2 h3 h4 h
  ·obtain⟨⟨e,sz⟩,h5,h⟩:=h.out;exact aqp ho h5 h1 h2 h3 h4 h
  ·obtain⟨⟨n,sz⟩,h5,h⟩:=h.out;exact aqo ho h5 h1 h2 h3 h4 h
  ·exact h.elim
 ·rename_i it ho;obtain⟨p,h1,hA⟩:=h.out;obtain⟨id,off,e1,hB⟩:=BZ hA;clear h hA;subst e1;obtain⟨e1,hC⟩:=hB;subst e1;split at hC
  ·rename_i m since seen ck hI;split at hC
   ·rename_i es PR hM;obtain⟨e1,hD⟩:=hC;subst e1;obtain⟨b,h2,hE⟩:=hD.out;obtain⟨e,h3,hF⟩:=hE.out;exact⟨_,apY ho h1 hI hM h2 h3,hF⟩
   ·exact hC.elim
  ·exact hC.elim
 ·rename_i c ho;split at h
  ·rename_i aV;obtain⟨x,h1,h⟩:=h.out;obtain⟨t,h2,h⟩:=h.out;obtain⟨a,h3,h⟩:=h.out;unfold sf at h;split at h
   ·rename_i hl;exact⟨_,acy ho aV h1 h2 hl h3 rfl,h⟩
   ·rename_i hl;exact⟨_,acy ho aV h1 h2 hl h3 rfl,h⟩
   ·rename_i hl;exact⟨_,ap9 ho aV h1 h2 hl h3,h⟩
   ·rename_i hl;split at h
    ·rename_i hM;exact⟨_,ap7 ho aV h1 h2 hl h3 hM,h⟩
    ·exact h.elim
   ·rename_i hl;exact⟨_,ap8 ho aV h1 h2 hl h3,h⟩
   ·exact h.elim
  ·rename_i aV;split at h
   ·rename_i x y cM;obtain⟨a,h1,hA⟩:=h.out;obtain⟨b,h2,hB⟩:=hA.out;obtain⟨j,m,e1,hC⟩:=od hB;obtain⟨j',n,e2,hD⟩:=od hC;subst e1 e2;exact⟨_,aqf ho aV (nk cM) h1 h2,hD⟩
   ·exact h.elim
  ·rename_i aV;split at h
   ·rename_i x y cM;obtain⟨a,h1,hA⟩:=h.out;obtain⟨b,h2,hB⟩:=hA.out;obtain⟨j,m,e1,hC⟩:=od hB;obtain⟨j',n,e2,hD⟩:=od hC;subst e1 e2;exact⟨_,aqg ho aV (nk cM) h1 h2,hD⟩
   ·exact h.elim
  ·exact h.elim
 ·exact h.elim
end
structure l9 (X Y:Prop):Type where
 n:Nat
def qK (b b9:Bool)(X Y:Prop)(_t:l9 X Y):Prop:=(b=b9->X)/\(b= !b9->Y)
def xH{b b9:Bool}{X Y:Prop}{t:l9 X Y}(h1:b=b9->X)(h2:b= !b9->Y):qK b b9 X Y t:=⟨h1,h2⟩
def ur(X Y:Prop)(t:l9 X Y):qK true true X Y t=X:=by simp[qK]
def uq(X Y:Prop)(t:l9 X Y):qK true false X Y t=Y:=by simp[qK]
def up(X Y:Prop)(t:l9 X Y):qK false true X Y t=Y:=by simp[qK]
def uo(X Y:Prop)(t:l9 X Y):qK false false X Y t=X:=by simp[qK]
section
variable (lv:Bool)(P:Tg)
def tN (H:SA)(k:SF)(id off n c0 m sz:Nat)(elem:TypeId)(l':SC):Prop:=off=0/\c0<n/\l'.length=m* sz/\n+m<=2^30/\(∀a∈l',a.leaf=true)/\match H[id]?with
 |some (.own eB l el)=>eB=sz/\el=elem/\l.length=n* sz/\k (.bI H.length 0 (n+m) 0) (H.set id .gone++[.own sz (l++l') elem])
 |_=>False
def AV.pS (a:AV)(kO:Nat->Nat->Nat->S7)(k:TG):Prop:=match a with
 |.bI id off n c=>kO id off n c
 |.sl n l e=>k n l e
 |_=>False
def I3{a:AV}{kO:Nat->Nat->Nat->S7}{k:TG}(h:a.pS kO k):(∃id off n c,a=.bI id off n c/\kO id off n c)\/∃n l e,a=.sl n l e/\k n l e:=by
 unfold AV.pS at h;split at h
 ·exact .inl ⟨_,_,_,_,rfl,h⟩
 ·exact .inr ⟨_,_,_,rfl,h⟩
 ·exact h.elim
def mB (s:AS)(o:U8)(next:SV)(bad:AV->SV):Prop:=match o.op with
 |.box t x=>ao (s.ev x) λa=>ao a.parts λl=>next ((⟨s.T,s.H++[.cells l t]⟩:AS).put o.dst (.op s.H.length 0))
 |.alloc t=>ao (eJ P t) λz=>next ((⟨s.T,s.H++[.cells (l7 z) t]⟩:AS).put o.dst (.op s.H.length 0))
 |.store t x y=>ao (s.ev x) λp=>ao (s.ev y) λa=>ao a.parts λlp=>p.pQ λid off=>match s.H[id]?with
  |some (.cells l el)=>(ao (Ty P t) λx=>lp.length=x.1)/\off+lp.length<=l.length/\(∀a∈lp,a.leaf=true)/\next ((⟨s.T,s.H.set id (.cells (iw l off lp) el)⟩:AS).put o.dst (.val undef))
  |some (.part p l el)=>p<=off/\(ao (Ty P t) λx=>lp.length=x.1)/\off+lp.length<=l.length/\(∀a∈lp,a.leaf=true)/\next ((⟨s.T,s.H.set id (.part p (iw l off lp) el)⟩:AS).put o.dst (.val undef))
  |some (.own p l el)=>(ao (Ty P t) λx=>lp.length=x.1)/\off+lp.length<=l.length/\(∀a∈lp,a.leaf=true)/\next ((⟨s.T,s.H.set id (.own p (iw l off lp) el)⟩:AS).put o.dst (.val undef))
  |_=>False
 |.makeMap _ none=>next ((⟨s.T,s.H++[.obj (.map #[] 0)]⟩:AS).put o.dst (.mp s.H.length))
 |.makeSlice t x y=>ao (BB P t) λ(e,sz,z)=>ao (s.ev x) λa=>ao (s.ev y) λb=>a.asInt λ_ n=>b.asInt λ_ n'=>n'=n/\0<=n/\n<=2^30/\next ((⟨s.T,s.H++[.cells (fO z (n.toNat* sz)) e]⟩:AS).put o.dst (.bI s.H.length 0 n.toNat n.toNat))
 |.mapUpdate t m k x=>ao (oT P t) λ(kt,_)=>ao (s.ev m) λp=>ao (s.ev k) λa=>ao (s.ev x) λb=>ao a.raw λK=>ao b.raw λX=>p.sB λid=>match s.H[id]?with
  |some (.obj (.map es ck))=>bm P (Wb false 10000 kt K) ()/\∃fd,bm P (WZ kt K es.toList) fd/\(∀i v,fd=some (i,v)->Xy 10000 (((es[i]?).map (·.key)).getD K) K=true)/\next ((⟨s.T,s.H.set id (.obj (wQ es ck K X fd))⟩:AS).put o.dst (.val undef))
  |_=>False
 |.range t x=>ao (oT P t) λ_=>ao (s.ev x) λp=>p.sB λm=>match s.H[m]?with
  |some (.obj (.map _ ck))=>next ((⟨s.T,s.H++[.iter m ck #[] ck]⟩:AS).put o.dst (.op s.H.length 0))
  |_=>False
 |.next it false=>ao (s.ev it) λp=>p.pQ λid off=>off=0/\match s.H[id]?with
  |some (.iter m since seen tL)=>match s.H[m]?with
   |some (.obj (.map es ck))=>(es.all (λe=>decide (e.born>=tL))=false\/es.isEmpty=true\/seen.isEmpty=true)/\
    (∀e∈es,e.born∉seen->next ((⟨s.T,s.H.set id (.iter m since (seen.push e.born) ck)⟩:AS).put o.dst (.aF [.val (.bool true),AV.of e.key,AV.of e.val])))/\
    ((∀e∈es,e.born<since->e.born∈seen)->next (s.put o.dst (.aF [.val (.bool false)])))
   |_=>False
  |_=>False
 |.panic x=>ao (s.ev x) λa=>match a with
  |.bR t av=>bad (.bR t av) s
  |_=>False
 |.binOp op t x (.const (.slice none 0 0)) _=>(op=.eql\/op=.neq)/\ao (jT P t) λ_=>ao (s.ev x) λa=>ao a.len λn=>∀b:Bool,(0<n->b=false)->next (s.put o.dst (.val (.bool (if op== .neq then !b else b))))
 |.call c=>match c.callee with
  |.builtin .append=>match c.args.toList,c.argTypes.toList with
   |[x,y],[t,t']=>ao (jE P t t') λ(elem,sz,_)=>ao (s.ev x) λa=>ao (s.ev y) λb=>a.pS (λid off n c0=>ao (s.src sz b) λ(m,l')=>tN s.H (λb H'=>next ((⟨s.T,H'⟩:AS).put o.dst b)) id off n c0 m sz elem l') λn l e=>ao (s.src sz b) λ(m,l')=>l.length=n* sz/\l'.length=m* sz/\n+m<=2^30/\Bq s o.dst next n m sz elem l l' e
   |_,_=>False
  |.builtin .copy=>match c.args.toList,c.argTypes.toList with
   |[x,y],[t,_]=>ao (jT P t) λ(_,sz)=>ao (s.ev x) λa=>ao (s.ev y) λb=>match a with
    |.bI id off n _=>match s.H[id]?with
     |some (.cells l el)=>ao (s.src sz b) λ(m,l')=>l'.length=m* sz/\off+min m n* sz<=l.length/\(∀a∈l',a.leaf=true)/\next ((⟨s.T,s.H.set id (.cells (iw l off (l'.take (min m n* sz))) el)⟩:AS).put o.dst (.val (.int .i64 (min m n:Nat))))
     |_=>False
    |_=>False
   |_,_=>False
  |.builtin .delete=>match c.args.toList,c.argTypes.toList with
   |[m,k],[t,_]=>ao (oT P t) λ(kt,_)=>ao (s.ev m) λp=>ao (s.ev k) λa=>ao a.raw λK=>p.sB λid=>match s.H[id]?with
    |some (.obj (.map es ck))=>bm P (Wb es.isEmpty 10000 kt K) ()/\∃fd,bm P (WZ kt K es.toList) fd/\next ((⟨s.T,s.H.set id (.obj (.map (Fp es fd) ck))⟩:AS).put o.dst (.val undef))
    |_=>False
   |_,_=>False
  |.value x=>ao (s.ev x) λf=>ao (fe s c.args.toList) λaG=>Br lv P f s.H aG (λb H'=>next ((⟨s.T,H'⟩:AS).put o.dst b)) (λpv H'=>bad pv ⟨s.T,H'⟩) ⟨0⟩
  |.invoke x name=>ao (s.ev x) λf=>ao (fe s c.args.toList) λaG=>OL lv P f name s.H aG (λb H'=>next ((⟨s.T,H'⟩:AS).put o.dst b)) (λpv H'=>bad pv ⟨s.T,H'⟩) ⟨0⟩
  |_=>lD P s o λav=>next (s.put o.dst av)
 |.load t (.global g)=>s.H[0]?=some .main/\ao (Co.lookup g) λv=>Ty P t=some (1,false)/\next (s.put o.dst (.val v))
 |_=>lD P s o λav=>next (s.put o.dst av)
def iy (all:SK):List U8->AS->(SV)->(AV->SV)->Prop
 |[],s,next,_=>next s
 |o::rest,s,next,bad=>match o.guard with
  |none=>mB lv P s o (λs'=>iy all rest s' next bad) bad
  |some (j,b9)=>ao ((all[j]?).bind (·.dst)) λd=>ao (look s.T d) λa=>a.asBool λb=>qK b b9 (mB lv P ⟨(d,.val (.bool b9))::s.T,s.H⟩ o (λs'=>iy all rest s' next bad) bad) (iy all rest ((⟨(d,.val (.bool !b9))::s.T,s.H⟩:AS).put o.dst (.val undef)) next bad) ⟨0⟩
end
section
variable {lv:Bool}{P:Tg}{r:SL}{s:AS}
def r_{c:Ym}{x y:TypeId}(h:c.argTypes.toList=[x,y]):c.argTypes=#[x,y]:=by
 apply Ws;simpa using h
def asb{o:U8}{next:SV}{bad:AV->SV}{t:TypeId}{g:Nat}{v:T5}(ho:o.op=.load t (.global g))(hm:s.H[0]?=some .main)(hg:Co.lookup g=some v)(ht:Ty P t=some (1,false))(hn:next (s.put o.dst (.val v))):Step lv P r o s next bad:=by
 intro E V a N Q hc aE hd bt h1 _;obtain⟨i,d,q1,q2,q3,q4⟩:=Ty.out ht;refine⟨bt,?_⟩;have cp:a.eval (.global g)=.pointer (some ⟨g,0,none⟩):=rfl;unfold execOp;rw[ho];simp only[cp];refine ay ?_;unfold XX VT;refine ay (aq ?_);unfold loadVar;refine vf q2 ?_;rw[q4];simp only[UB,if_false];have hI:E.I g 0=some v:=(hc.obj 0 _ hm).2 g v hg;have o_:V.get g 0=some v:=by unfold View.get;rw[<- hc.I,hI]
 exact A_ o_ (.inl (hc.Ms hI).1) (b8 (aq (h1 E V (a.put o.dst v) (s.put o.dst (.val v)) ⟨Env.Le.refl E,dY _ _ _,put_defers _ _ _,rfl,rfl⟩ (by rw[e_];exact hc) (cm.gM aE hd (.val v)) hn)))
def mB.sound{o:U8}{next:SV}{bad:AV->SV}(h:mB lv P s o next bad):Step lv P r o s next bad:=by
 have quiet:(lD P s o λav=>next (s.put o.dst av))->Step lv P r o s next bad:=λh=>by
  obtain⟨av,h1,h2⟩:=h.sound (lv:=lv) (r:=r);exact h1.step h2
 unfold mB at h;split at h
 ·rename_i t x ho;obtain⟨a,h1,h⟩:=h.out;obtain⟨l,h2,h⟩:=h.out;exact adq ho h1 h2 h
 ·rename_i t ho;obtain⟨z,h1,h⟩:=h.out;exact adn ho h1 h
 ·rename_i t x y ho;obtain⟨p,h1,hA⟩:=h.out;obtain⟨a,h2,hB⟩:=hA.out;obtain⟨lp,h3,hC⟩:=hB.out;obtain⟨id,off,e1,hD⟩:=BZ hC;clear h hA hB hC;subst e1;split at hD
  ·rename_i l el hk;obtain⟨q1,q2,q3,q4⟩:=hD;obtain⟨⟨n,g⟩,q5,q6⟩:=q1.out;exact adv ho q5 h1 hk h2 h3 q6 q2 q3 q4
  ·rename_i p l el hk;obtain⟨q0,q1,q2,q3,q4⟩:=hD;obtain⟨⟨n,g⟩,q5,q6⟩:=q1.out;exact asj ho q5 h1 hk q0 h2 h3 q6 q2 q3 q4
  ·rename_i p l el hk;obtain⟨q1,q2,q3,q4⟩:=hD;obtain⟨⟨n,g⟩,q5,q6⟩:=q1.out;exact adw ho q5 h1 hk h2 h3 q6 q2 q3 q4
  ·exact hD.elim
 ·rename_i t ho;exact asc ho h
 ·rename_i t x y ho;obtain⟨⟨e,sz,z⟩,h1,hA⟩:=h.out;obtain⟨a,h2,hB⟩:=hA.out;obtain⟨b,h3,hC⟩:=hB.out;obtain⟨j,n,e1,hD⟩:=od hC;obtain⟨j',n',e2,hE⟩:=od hD;clear h hA hB hC hD;subst e1 e2;obtain⟨e3,h4,h5,h6⟩:=hE;subst e3;obtain⟨m,rfl⟩:∃m:Nat,n'=m:=⟨n'.toNat,by omega⟩;exact adt ho h1 h2 h3 (by omega) (by simpa using h6)
 ·rename_i t m k x ho;obtain⟨⟨kt,et⟩,h1,hA⟩:=h.out;obtain⟨p,h2,hB⟩:=hA.out;obtain⟨a,h3,hC⟩:=hB.out;obtain⟨b,h4,hD⟩:=hC.out;obtain⟨K,h5,hE⟩:=hD.out;obtain⟨X,h6,hF⟩:=hE.out;obtain⟨id,e1,hG⟩:=EY hF;clear h hA hB hC hD hE hF;subst e1;split at hG
  ·rename_i es ck hH;obtain⟨q1,fd,q2,q3,q4⟩:=hG;exact asd (.inl ho) h1 h2 h3 h4 h5 h6 hH q1 q2 q3 q4
  ·exact hG.elim
 ·rename_i t x ho;obtain⟨⟨kt,et⟩,h1,hA⟩:=h.out;obtain⟨p,h2,hB⟩:=hA.out;obtain⟨m,e1,hC⟩:=EY hB;clear h hA hB;subst e1;split at hC
  ·rename_i es ck hH;exact ash ho h1 h2 hH hC
  ·exact hC.elim
 ·rename_i it ho;obtain⟨p,h1,hA⟩:=h.out;obtain⟨id,off,e1,hB⟩:=BZ hA;clear h hA;subst e1;obtain⟨e1,hC⟩:=hB;subst e1;split at hC
  ·rename_i m since seen tL hI;split at hC
   ·rename_i es ck hM;exact ase ho h1 hI hM hC.1 hC.2.1 hC.2.2
   ·exact hC.elim
  ·exact hC.elim
 ·rename_i x ho;obtain⟨a,h1,hA⟩:=h.out;split at hA
  ·exact asf ho h1 hA
  ·exact hA.elim
 ·rename_i op t x yt ho;obtain⟨az,hA⟩:=h;obtain⟨d,h1,hB⟩:=hA.out;obtain⟨a,h2,hC⟩:=hB.out;obtain⟨n,e1,hD⟩:=hC.out;exact asi ho az h2 e1 h1 hD
 ·rename_i c ho;split at h
  ·rename_i aV;split at h
   ·rename_i x y t t' ha ht;obtain⟨⟨elem,sz,z⟩,h1,hA⟩:=h.out;obtain⟨a,h2,hB⟩:=hA.out;obtain⟨b,h3,hC⟩:=hB.out;rcases I3 hC with⟨id,off,n,c0,e1,hD⟩|⟨n,l,e,e1,hD⟩
    ·clear h hA hB hC;subst e1;obtain⟨⟨m,l'⟩,h4,rfl,g2,g3,g4,g5,hE⟩:=hD.out;split at hE
     ·rename_i hk;obtain⟨rfl,rfl,g6,g7⟩:=hE;exact ado ho aV (nk ha) (r_ ht) h1 h2 g2 hk rfl h3 h4 g6 g3 g4 g5 g7
     ·exact hE.elim
    ·clear h hA hB hC;subst e1;obtain⟨⟨m,l'⟩,h4,h5,h6,h7,h8⟩:=hD.out;exact step_append ho aV (nk ha) (r_ ht) h1 h2 h3 h4 h5 h6 h7 h8
   ·exact h.elim
  ·rename_i aV;split at h
   ·rename_i x y t t' ha ht;obtain⟨⟨elem,sz⟩,h1,hA⟩:=h.out;obtain⟨a,h2,hB⟩:=hA.out;obtain⟨b,h3,hC⟩:=hB.out;clear h hA hB;split at hC
    ·split at hC
     ·rename_i hk;obtain⟨⟨m,l'⟩,h4,h5,h6,h7,h8⟩:=hC.out;exact ar9 ho aV (nk ha) (r_ ht) h1 h2 hk h3 h4 h5 h6 h7 h8
     ·exact hC.elim
    ·exact hC.elim
   ·exact h.elim
  ·rename_i aV;split at h
   ·rename_i m k t t' ha ht;obtain⟨⟨kt,et⟩,h1,hA⟩:=h.out;obtain⟨p,h2,hB⟩:=hA.out;obtain⟨a,h3,hC⟩:=hB.out;obtain⟨K,h4,hD⟩:=hC.out;obtain⟨id,e1,hE⟩:=EY hD;clear h hA hB hC hD;subst e1;split at hE
    ·rename_i es ck hH;obtain⟨q1,fd,q2,q3⟩:=hE;exact asa ho aV (nk ha) (r_ ht) h1 h2 h3 h4 hH q1 q2 q3
    ·exact hE.elim
   ·exact h.elim
  ·rename_i x aV;obtain⟨f,h1,hA⟩:=h.out;obtain⟨aG,h2,hB⟩:=hA.out;exact N5 ho aV h1 h2 hB
  ·rename_i x name aV;obtain⟨f,h1,hA⟩:=h.out;obtain⟨aG,h2,hB⟩:=hA.out;exact ads ho aV h1 h2 hB
  ·exact quiet h
 ·rename_i t g ho;obtain⟨hm,h⟩:=h;obtain⟨v,h1,h2,h3⟩:=h.out;exact asb ho hm h1 h2 h3
 ·exact quiet h
structure At (E:Env)(V:View)(s:AS)(a:Act)(nt:Nat):Prop where
 br:Conc E V s.H
 tok:cm E s.T a.tmps
 size:a.tmps.size=nt
def Kept.refl(E:Env)(V:View)(a:Act):Kept E E V V a a:=⟨Env.Le.refl E,rfl,rfl,rfl,rfl⟩
def Kept.trans{E E' bS:Env}{V V' aW:View}{a a' cu:Act}(h:Kept E E' V V' a a')(k:Kept E' bS V' aW a' cu):Kept E bS V aW a cu:=
 ⟨h.le.trans k.le,k.size.trans h.size,k.defers.trans h.defers,k.role.trans h.role,k.deaf.trans h.deaf⟩
inductive an where
 |normal
 |exit (id:Nat)
 |goto (l:Nat)
 |ret
 |panic (pv:AV)
def pL (E:Env):an->Ex->Prop
 |.normal,.normal=>True
 |.exit i,.exit j=>i=j
 |.goto i,.goto j=>i=j
 |.ret,.ret=>True
 |.panic pv,.panic ch=>∃v,ch=[{v,recovered:=false}]/\ap E pv v
 |_,_=>False
abbrev SI:=an->AS->Prop
def aZ (lv:Bool)(P:Tg)(r:SL)(nt:Nat)(c:UX)(s:AS)(Φ:SI):Prop:=
 ∀(E:Env)(V:View)(a:Act)(Q:SJ),At E V s a nt->(∀ae e E' V' a' s',Kept E E' V V' a a'->At E' V' s' a' nt->pL E' ae e->Φ ae s'->Q e a' V')->WP lv P r c Q a V
def AR{nt:Nat}{all:SK}{Φ:SI}(dl:∀o∈all,∀d,o.dst=some d->d<nt)(nE:∀o∈all,r=none\/mq o.op=false):∀(n k:Nat)(s:AS),k+n=all.size->iy lv P all (all.toList.drop k) s (Φ .normal) (λpv s=>Φ (.panic pv) s)->
  ∀(E:Env)(V:View)(a:Act)(Q:SJ),At E V s a nt->(∀ae e E' V' a' s',Kept E E' V V' a a'->At E' V' s' a' nt->pL E' ae e->Φ ae s'->Q e a' V')->di lv P r all Q (UZ k n) a V
 |0,k,s,hk,h,E,V,a,Q,ak,hQ=>by
  have:all.toList.drop k=[]:=by simp;omega
  rw[this]at h;exact hQ .normal .normal E V a s (Kept.refl E V a) ak trivial h
 |n+1,k,s,hk,h,E,V,a,Q,ak,hQ=>by
  have hlt:k<all.size:=by omega
  have hd:all.toList.drop k=all[k]::all.toList.drop (k+1):=by
   rw[UW (by simpa using hlt)];simp
  rw[hd]at h;have fJ:all[k]∈all:=XP hlt;have ho:all[k]?=some all[k]:=Tf hlt;simp only[WF,di,ho];have go:∀s:AS,At E V s a nt->mB lv P s all[k] (λs'=>iy lv P all (all.toList.drop (k+1)) s' (Φ .normal) (λpv s=>Φ (.panic pv) s)) (λpv s=>Φ (.panic pv) s)->xa lv P r all[k] a V (di lv P r all Q (UZ (k+1) n)) Q:=λs ak h=>by
   refine h.sound (lv:=lv) (r:=r) E V a _ Q ak.br ak.tok (λd e=>by rw[ak.size];exact dl _ fJ d e) (nE _ fJ) (λE' V' a' s' aI bi mm hn=> ?_) (λE' V' s' pv v aI bi mm bh hb=> ?_)
   ·exact AR dl nE n (k+1) s' (by omega) hn E' V' a' Q ⟨bi,mm,aI.size.trans ak.size⟩ (λae e bS aW cu de fY db he hΦ=>hQ ae e bS aW cu de (aI.trans fY) db he hΦ)
   ·exact hQ (.panic pv) (.panic _) E' V' a s' aI ⟨bi,mm,ak.size⟩ ⟨v,rfl,bh⟩ hb
  simp only[iy]at h;split at h
  ·rename_i hg;have hw:Ug all[k] (yielded all a.tmps)=true:=(by unfold Ug;rw[hg]);rw[if_pos hw];exact .inl (go s ak h)
  ·rename_i j b9 hg;obtain⟨d,gr,h⟩:=h.out;obtain⟨av,h1,h⟩:=h.out;obtain⟨b,rfl,h2,h3⟩:=BY h;have hv:=(ak.tok d _ h1).2;have hy:yielded all a.tmps j=some b:=by
    obtain⟨oj,kD,jd⟩:=Uc.1 gr;generalize hx:a.tmps.getD d undef=x at hv;cases hv;have mj:d<a.tmps.size:=(ak.tok d _ h1).1;rw[Td,Tf mj]at hx;simp only[T9]at hx;simp[yielded,kD,jd,Tf mj,hx]
   have rN:∀b',b=b'->At E V ⟨(d,.val (.bool b'))::s.T,s.H⟩ a nt:=λb' dj=>by
    subst dj;refine⟨ak.br,λt x e=> ?_,ak.size⟩;simp only[look]at e;split at e
    ·rename_i e';subst e';cases e;exact ak.tok d _ h1
    ·exact ak.tok t x e
   by_cases hb:b=b9
   ·have hw:Ug all[k] (yielded all a.tmps)=true:=(by unfold Ug;rw[hg];simp[hy,hb]);rw[if_pos hw];exact .inl (go _ (rN b9 hb) (h2 hb))
   ·have hw:¬Ug all[k] (yielded all a.tmps)=true:=(by unfold Ug;rw[hg];simp[hy,hb]);rw[if_neg hw];have dj:b= !b9:=(by cases b<;>cases b9<;>simp_all);have vZ:=h3 dj;have ak:=rN _ dj;exact AR dl nE n (k+1) ((⟨(d,.val (.bool !b9))::s.T,s.H⟩:AS).put all[k].dst (.val undef)) (by omega) vZ E V (a.put all[k].dst undef) Q
     ⟨by rw[e_];exact ak.br,ak.tok.gM (λd e=>by rw[ak.size];exact dl _ fJ d e) (.val undef),by rw[dY];exact ak.size⟩
     (λae e bS aW cu de fY db he hΦ=>hQ ae e bS aW cu de ⟨fY.le,fY.size.trans (dY _ _ _),fY.defers.trans (put_defers _ _ _),fY.role,fY.deaf⟩ db he hΦ)
def jL (nt:Nat)(ops:SK):Bool:=ops.all λo=>(o.dst.all (·<nt))&& !mq o.op
def jL.out{nt:Nat}{ops:SK}(hd:jL nt ops=true){o:U8}(ho:o∈ops):(∀d,o.dst=some d->d<nt)/\mq o.op=false:=by
 have:=(Vw.1 hd) o ho;simp only[Uk,UK]at this;exact⟨λd e=>by have h1:=this.1;rw[e]at h1;simpa using h1,this.2⟩
def Pq{nt id:Nat}{ops:SK}{Φ:SI}(hd:jL nt ops=true)(h:iy lv P ops ops.toList s (Φ .normal) (λpv s=>Φ (.panic pv) s)):aZ lv P r nt (.region id ops false) s Φ:=by
 intro E V a Q ak hQ;refine wp_region ?_;rw[VX];exact AR (Φ:=Φ) (λo ho d e=>(jL.out hd ho).1 d e) (λo ho=> .inr (jL.out hd ho).2) ops.size 0 s (by omega) (by simpa using h) E V a Q ak hQ
def Pt{nt:Nat}{Φ:SI}(h:Φ .normal s):aZ lv P r nt .skip s Φ:=λE V a _ ak hQ=>wp_skip (hQ .normal _ E V a s (Kept.refl E V a) ak trivial h)
def Po{nt l:Nat}{Φ:SI}(h:Φ .normal s):aZ lv P r nt (.label l) s Φ:=λE V a _ ak hQ=>wp_label (hQ .normal _ E V a s (Kept.refl E V a) ak trivial h)
def Pn{nt id:Nat}{Φ:SI}(h:Φ (.exit id) s):aZ lv P r nt (.exit id) s Φ:=λE V a _ ak hQ=>wp_exit (hQ (.exit id) _ E V a s (Kept.refl E V a) ak rfl h)
def Pr{nt:Nat}{Φ:SI}(h:Φ .ret s):aZ lv P r nt .ret s Φ:=λE V a _ ak hQ=>wp_ret (hQ .ret _ E V a s (Kept.refl E V a) ak trivial h)
def an.then (next:SV)(Φ:SI):an->AS->Prop
 |.normal,s=>next s
 |e,s=>Φ e s
def pL.mono{E E':Env}(h:E.Le E'){ae:an}{e:Ex}(k:pL E ae e):pL E' ae e:=by
 cases ae<;>cases e<;>first|exact k|(obtain⟨v,h1,h2⟩:=k;exact⟨v,h1,h2.mono h⟩)
def iA{nt:Nat}{x y:UX}{Φ:SI}(h:aZ lv P r nt x s (an.then (λs'=>aZ lv P r nt y s' Φ) Φ)):aZ lv P r nt (.seq x y) s Φ:=by
 intro E V a Q ak hQ;refine wp_seq (h E V a _ ak λae e E' V' a' s' hk aU he hΦ=> ?_);cases ae<;>cases e<;>first
  |exact he.elim
  |exact hΦ E' V' a' Q aU λae e bS aW cu de aI db j4 tu=>hQ ae e bS aW cu de (hk.trans aI) db j4 tu
  |exact hQ _ _ E' V' a' s' hk aU he hΦ
def af4{nt:Nat}{c:Ui}{x y:UX}{b:Bool}{Φ:SI}(hc:s.ev c=some (.val (.bool b)))(h1:b=true->aZ lv P r nt x s Φ)(h2:b=false->aZ lv P r nt y s Φ):aZ lv P r nt (.cond c x y) s Φ:=by
 intro E V a Q ak hQ;have hv:=ap.ev ak.tok hc;generalize hx:a.eval c=v at hv;cases hv;refine wp_cond hx ?_;cases b with
 |true=>exact h1 rfl E V a Q ak hQ
 |false=>exact h2 rfl E V a Q ak hQ
def an.inBlock (id:Nat)(Φ:SI):an->AS->Prop
 |.exit oI,s=>if oI=id then Φ .normal s else Φ (.exit oI) s
 |e,s=>Φ e s
def Pl{nt id:Nat}{c:UX}{Φ:SI}(h:aZ lv P r nt c s (an.inBlock id Φ)):aZ lv P r nt (.block id c) s Φ:=by
 intro E V a Q ak hQ;refine wp_block (h E V a _ ak λae e E' V' a' s' hk aU he hΦ=> ?_);cases ae<;>cases e<;>first
  |exact he.elim
  |(rename_i i j
    have e:i=j:=he;subst e;by_cases cq:i=id
    ·simp only[Ex.inBlock,cq,if_true];simp only[an.inBlock,cq,if_true]at hΦ;exact hQ .normal _ E' V' a' s' hk aU trivial hΦ
    ·simp only[Ex.inBlock,cq,if_false];simp only[an.inBlock,cq,if_false]at hΦ;exact hQ (.exit i) _ E' V' a' s' hk aU rfl hΦ)
  |exact hQ _ _ E' V' a' s' hk aU he hΦ
def aZ.mono{nt:Nat}{c:UX}{Φ Φ':SI}(h:aZ lv P r nt c s Φ)(hm:∀e s,Φ e s->Φ' e s):aZ lv P r nt c s Φ':=λE V a Q ak hQ=>
 h E V a Q ak λae e E' V' a' s' hk aU he hΦ=>hQ ae e E' V' a' s' hk aU he (hm _ _ hΦ)
def Wk (b a:AV):Prop:=∀E v,ap E b v->ap E a v
def Wk.refl(a:AV):Wk a a:=λ_ _ h=>h
def gF(n:Nat)(l:SC)(e:End):Wk (.sl n l e) (.sl n l .shut):=λ_ _ h=>by
 cases h with
 |sl b o cap f hc he h1 h2=>exact .sl b o cap f hc trivial h1 h2
 |nil he=>exact .nil trivial
structure AS.Sub (s s':AS):Prop where
 tok:∀t a,look s'.T t=some a->∃b,look s.T t=some b/\Wk b a
 H:s.H=s'.H
def At.sub{E:Env}{V:View}{s s':AS}{a:Act}{nt:Nat}(h:At E V s a nt)(hl:s.Sub s'):At E V s' a nt:=
 ⟨by rw[<- hl.H];exact h.br,λt x e=>by obtain⟨b,h1,h2⟩:=hl.tok t x e;exact⟨(h.tok t b h1).1,h2 _ _ (h.tok t b h1).2⟩,h.size⟩
def B1{lv:Bool}{P:Tg}{r:SL}{nt:Nat}{c:UX}{s s':AS}{Φ:SI}(hl:s.Sub s')(h:aZ lv P r nt c s' Φ):aZ lv P r nt c s Φ:=λE V a Q ak hQ=>h E V a Q (ak.sub hl) hQ
inductive Lt (n:Nat):AV->Prop
 |val (x:T5):Lt n (.val x)
 |agg {l:List AV} (h:∀a∈l,Lt n a):Lt n (.agg l)
 |aF {l:List AV} (h:∀a∈l,Lt n a):Lt n (.aF l)
 |sl {m:Nat} {l:List AV} {e:End} (he:∀k,e=.opn k->k<n) (h:∀a∈l,Lt n a):Lt n (.sl m l e)
 |bI {id off m cap:Nat} (h:id<n):Lt n (.bI id off m cap)
 |rp {l:List AV} (h:∀a∈l,Lt n a):Lt n (.rp l)
 |op {id off:Nat} (h:id<n):Lt n (.op id off)
 |fn {f:Fn} {first cT:List AV} (h1:∀a∈first,Lt n a) (h2:∀a∈cT,Lt n a):Lt n (.fn f first cT)
 |bR {t:TypeId} {x:AV} (h:Lt n x):Lt n (.bR t x)
 |mp {id:Nat} (h:id<n):Lt n (.mp id)
def pC{l:SC}{a:AV}(h:a∈l):∃i:Nat,l[i]?=some a:=VF.1 h
def ap.lt{E:Env}{a:AV}{v:T5}(d:ap E a v):Lt E.n a:=by
 induction d with
 |val x=>exact .val x
 |agg hs _ ih=>exact .agg λa h=>(pC h).elim λi hi=>ih i a hi
 |aF hs _ ih=>exact .aF λa h=>(pC h).elim λi hi=>ih i a hi
 |sl b o cap f hc he h1 _ ih=>exact .sl (λk e=>by subst e;exact he.1) λa h=>(pC h).elim λi hi=>ih i a hi
 |nil he=>exact .sl (λk e=>by subst e;exact he.1) (by simp)
 |bI hi _=>exact .bI hi
 |rp b o f h1 _ ih=>exact .rp λa h=>(pC h).elim λi hi=>ih i a hi
 |op hi=>exact .op hi
 |fn dA dH _ _ mW lw=>exact .fn (λa h=>(pC h).elim λi hi=>mW i a hi) (λa h=>(pC h).elim λi hi=>lw i a hi)
 |bR _ ih=>exact .bR ih
 |mp hi=>exact .mp hi
def Lt.mono{n m:Nat}(h:n<=m){a:AV}(d:Lt n a):Lt m a:=by
 induction d with
 |val x=>exact .val x
 |agg _ ih=>exact .agg ih
 |aF _ ih=>exact .aF ih
 |sl he _ ih=>exact .sl (λk e=>Ub (he k e) h) ih
 |bI hi=>exact .bI (Ub hi h)
 |rp _ ih=>exact .rp ih
 |op hi=>exact .op (Ub hi h)
 |fn _ _ mW lw=>exact .fn mW lw
 |bR _ ih=>exact .bR ih
 |mp hi=>exact .mp (Ub hi h)
def pK.trim{E:Env}{e:End}{a:TA}{m cap n:Nat}(h:pK E e a m cap)(hk:∀k,e=.opn k->k<n):pK {E with n:=n} e a m cap:=by
 cases e with
 |exact=>exact h
 |shut=>trivial
 |opn k=>exact⟨hk k rfl,h.2⟩
def get_mem{l:SC}{i:Nat}{a:AV}(h:l[i]?=some a):a∈l:=VF.2 ⟨i,h⟩
def ap.trim{E:Env}{a:AV}{v:T5}(d:ap E a v){n:Nat}(h:Lt n a):ap {E with n:=n} a v:=by
 induction d with
 |val x=>exact .val x
 |agg hs _ ih=>cases h with|agg h=>exact .agg hs λi a e=>ih i a e (h a (get_mem e))
 |aF hs _ ih=>cases h with|aF h=>exact .aF hs λi a e=>ih i a e (h a (get_mem e))
 |sl b o cap f hc he h1 _ ih=>cases h with|sl hk h=>exact .sl b o cap f hc (he.trim hk) h1 λi a e=>ih i a e (h a (get_mem e))
 |nil he=>cases h with|sl hk h=>exact .nil (he.trim hk)
 |bI hi dK=>cases h with|bI h=>exact .bI (E:={E with n:=n}) h dK
 |rp b o f h1 _ ih=>cases h with|rp h=>exact .rp b o f h1 λi a e=>ih i a e (h a (get_mem e))
 |op hi=>cases h with|op h=>exact .op (E:={E with n:=n}) h
 |fn dA dH _ _ mW lw=>cases h with|fn h1 h2=>exact .fn dA dH (λi a e=>mW i a e (h1 a (get_mem e))) λi a e=>lw i a e (h2 a (get_mem e))
 |bR _ ih=>cases h with|bR h=>exact .bR (ih h)
 |mp hi=>cases h with|mp h=>exact .mp (E:={E with n:=n}) h
def eU (n:Nat):aa->Prop
 |.cells l _|.part _ l _|.own _ l _=>∀a∈l,Lt n a
 |.iter m _ _ _=>m<n
 |.loop _ _ _ _ T _ _ _ _ df=>(∀t a,look T t=some a->Lt n a)/\df<n
 |_=>True
def eU.mono{n m:Nat}(h:n<=m){x:aa}(k:eU n x):eU m x:=by
 cases x with
 |cells l el=>exactλa ha=>(k a ha).mono h
 |part p l el=>exactλa ha=>(k a ha).mono h
 |own p l el=>exactλa ha=>(k a ha).mono h
 |iter=>exact Ub k h
 |loop=>exact⟨λt a e=>(k.1 t a e).mono h,Ub k.2 h⟩
 |_=>trivial
def fQ.olt{E:Env}{V:View}{k:Nat}{x:aa}(h:fQ E V k x):eU E.n x:=by
 cases x with
 |cells l el=>obtain⟨⟨cs,_,h2⟩,_⟩:=h;exactλa ha=>(pC ha).elim λi hi=>(h2.2 i a hi).lt
 |part p l el=>obtain⟨⟨cs,_,h2,_⟩,_⟩:=h;exactλa ha=>(pC ha).elim λi hi=>(h2.2 i a hi).lt
 |own p l el=>obtain⟨⟨cs,_,h2,_⟩,_⟩:=h;exactλa ha=>(pC ha).elim λi hi=>(h2.2 i a hi).lt
 |iter m a b c=>exact h.1
 |loop=>obtain⟨⟨tmps,_,_,h2⟩,h3,_⟩:=h;exact⟨λt a e=>(h2 t a e).2.lt,h3⟩
 |_=>trivial
def fQ.trim{E:Env}{V:View}{k n:Nat}{x:aa}(h:fQ E V k x)(hl:eU n x):fQ {E with n:=n} V k x:=by
 cases x with
 |cells l el=>obtain⟨⟨cs,h1,h2⟩,h3⟩:=h;exact⟨⟨cs,h1,h2.1,λi a e=>(h2.2 i a e).trim (hl a (get_mem e))⟩,h3⟩
 |part p l el=>obtain⟨⟨cs,h1,h2,h4⟩,h3⟩:=h;exact⟨⟨cs,h1,⟨h2.1,λi a e=>(h2.2 i a e).trim (hl a (get_mem e))⟩,h4⟩,h3⟩
 |own p l el=>obtain⟨⟨cs,h1,h2,h4⟩,h3⟩:=h;exact⟨⟨cs,h1,⟨h2.1,λi a e=>(h2.2 i a e).trim (hl a (get_mem e))⟩,h4⟩,h3⟩
 |iter m a b c=>exact⟨hl,h.2⟩
 |tail m sz el=>exact h
 |obj x=>exact h
 |loop=>obtain⟨⟨tmps,h1,h2,h3⟩,h4,h5⟩:=h;exact⟨⟨tmps,h1,h2,λt a e=>⟨(h3 t a e).1,(h3 t a e).2.trim (hl.1 t a e)⟩⟩,hl.2,h5⟩
 |gone=>trivial
 |main=>exact h
def bO (H:SA):Prop:=∀x∈H,eU H.length x
def Conc.au{E:Env}{V:View}{H:SA}(h:Conc E V H):bO H:=λx hx=>by
 obtain⟨i,hi⟩:=VF.1 hx;rw[<- h.n];exact(h.obj i x hi).olt
def Fg(E:Env)(n k:Nat)(x:aa):bJ {E with n:=n} k x=bJ E k x:=by cases x<;>rfl
def Conc.trim{E:Env}{V:View}{H G:SA}(h:Conc E V (H++G))(hl:bO H):Conc {E with n:=H.length} V H:=by
 have hg:∀(k:Nat) x,H[k]?=some x->(H++G)[k]?=some x:=λk x e=>by rw[Tw (Tj.1 e).1];exact e
 refine⟨h.I,rfl,λk x e=>(h.obj k x (hg k x e)).trim (hl x (Uf e)),λi j x y b h1 h2 h3 h4=> ?_,λg ig=> ?_,λg ig=> ?_,h.top,λb y ig=> ?_⟩
 ·rw[Fg]at h3 h4;exact h.inj i j x y b (hg i x h1) (hg j y h2) h3 h4
 ·obtain⟨q0,q1,q2⟩:=h.group g ig;exact⟨q0,q1,λk x e=>by rw[Fg];exact q2 k x (hg k x e)⟩
 ·obtain⟨q0,q1,q2⟩:=h.chan g ig;exact⟨q0,q1,λk x e=>by rw[Fg];exact q2 k x (hg k x e)⟩
 ·obtain⟨q0,q1,q2⟩:=h.fr b y ig;exact⟨q0,q1,λk x e=>by rw[Fg];exact q2 k x (hg k x e)⟩
structure AS.IJ (s s':AS):Prop where
 tok:∀t a,look s'.T t=some a->∃b,look s.T t=some b/\Wk b a/\Lt s'.H.length a
 H:∃G,s.H=s'.H++G
 ok:bO s'.H
def Ej{E:Env}{n m:Nat}(h1:m<=n)(h2:n<=E.n){E0:Env}(h:E0.Le E)(h0:E0.n=m):E0.Le {E with n:=n}:=⟨h.I,by show E0.n<=n;omega,h.blk,h.fE,h.room,h.fr,h.main⟩
def At.cut{E:Env}{V:View}{s s':AS}{a:Act}{nt:Nat}(h:At E V s a nt)(hl:s.IJ s'):At {E with n:=s'.H.length} V s' a nt:=by
 obtain⟨G,hG⟩:=hl.H;have hc:=h.br;rw[hG]at hc;refine⟨hc.trim hl.ok,λt x e=> ?_,h.size⟩;obtain⟨b,h1,h2,h3⟩:=hl.tok t x e;exact⟨(h.tok t b h1).1,(h2 _ _ (h.tok t b h1).2).trim h3⟩
def af8{nt:Nat}{α:Type}{lt:α->α->Prop}(wf:WellFounded lt){c:UX}{Φ:SI}(inv:α->AS)(ok:α->Prop)(m:α)(h0:s.Sub (inv m))(hm:ok m)(hn:∀m,ok m->s.H.length<=(inv m).H.length)
  (h:∀m,ok m->aZ lv P r nt c (inv m) (an.then (λs'=>∃m',lt m' m/\ok m'/\(s'.Sub (inv m')\/s'.IJ (inv m'))) Φ)):aZ lv P r nt (.loop c) s Φ:=by
 intro E V a Q ak hQ;refine Oy wf (I:=λm a' V'=>ok m/\∃E',Kept E E' V V' a a'/\At E' V' (inv m) a' nt) m ⟨hm,E,Kept.refl E V a,ak.sub h0⟩ λm a' V' hI=> ?_;obtain⟨au,E',hk,aU⟩:=hI;refine h m au E' V' a' _ aU λae e bS aW cu de aI db he hΦ=> ?_;cases ae<;>cases e<;>first
  |exact he.elim
  |(obtain⟨m',h1,h2,h3⟩:=hΦ
    rcases h3 with h3|h3
    ·exact⟨m',h1,h2,bS,hk.trans aI,db.sub h3⟩
    ·refine⟨m',h1,h2,_,?_,db.cut h3⟩;have cH:=hk.trans aI;obtain⟨G,hG⟩:=h3.H;exact⟨Ej (hn m' h2) (by rw[db.br.n,hG];simp) cH.le ak.br.n,cH.size,cH.defers,cH.role,cH.deaf⟩)
  |exact hQ _ _ bS aW cu de (hk.trans aI) db he hΦ
def agd{nt:Nat}{c:UX}{Φ:SI}(inv:Nat->Nat->SV)
  (start:∃n:Nat,aZ lv P r nt c s (λe s'=>match e with
   |.goto l=>∃rest,findLabel c l=some rest/\∃m,m<n/\inv l m s'
   |e=>Φ e s'))
  (back:∀l rest m s',findLabel c l=some rest->inv l m s'->aZ lv P r nt rest s' (λe de=>match e with
   |.goto l'=>∃yG,findLabel c l'=some yG/\∃m',m'<m/\inv l' m' de
   |e=>Φ e de)):aZ lv P r nt (.scope c) s Φ:=by
 intro E V a Q ak hQ;refine aej (λl m a' V'=>∃E' s',Kept E E' V V' a a'/\At E' V' s' a' nt/\inv l m s') ?_ ?_
 ·obtain⟨n,hn⟩:=start;refine⟨n,hn E V a _ ak λae e E' V' a' s' hk aU he hΦ=> ?_⟩;cases ae<;>cases e<;>first
   |exact he.elim
   |(have e:_=_:=he
     subst e;obtain⟨rest,h1,m,h2,h3⟩:=hΦ;exact⟨rest,h1,m,h2,E',s',hk,aU,h3⟩)
   |exact hQ _ _ E' V' a' s' hk aU he hΦ
 ·intro l rest m a' V' hf ⟨E',s',hk,aU,hi⟩;refine back l rest m s' hf hi E' V' a' _ aU λae e bS aW cu de aI db he hΦ=> ?_;cases ae<;>cases e<;>first
   |exact he.elim
   |(have e:_=_:=he
     subst e;obtain⟨yG,h1,m',h2,h3⟩:=hΦ;exact⟨yG,h1,m',h2,bS,de,hk.trans aI,db,h3⟩)
   |exact hQ _ _ bS aW cu de (hk.trans aI) db he hΦ
end
def bc:Nat->SC->List (Nat×AV)
 |_,[]=>[]
 |i,a::l=>(i,a)::bc (i+1) l
def M3:∀(l:SC)(i t:Nat)(a:AV),look (bc i l) t=some a->i<=t/\l[t-i]?=some a
 |[],_,_,_,h=>by cases h
 |b::l,i,t,a,h=>by
  simp only[bc,look]at h;split at h
  ·rename_i e;subst e;cases h;exact⟨Tm _,by simp⟩
  ·obtain⟨h1,h2⟩:=M3 l (i+1) t a h;refine⟨by omega,?_⟩;have:t-i=(t-(i+1))+1:=(by omega);rw[this,Vy];exact h2
def vb (P:Tg)(s:AS):aa'->Option AV
 |.tmp t=>look s.T t
 |.cell a t=>(look s.T a).bind λp=>(s.at p).bind λl=>(Ty P t).bind λx=>if x.2 then(if x.1<=l.length then some (.agg (l.take x.1))else none)else l[0]?
def gV (P:Tg)(s:AS):List aa'->Option (SC)
 |[]=>some []
 |x::l=>match vb P s x,gV P s l with
  |some a,some aG=>some (a::aG)
  |_,_=>none
def iW:SC->AV
 |[a]=>a
 |l=> .aF l
def aqK{P:Tg}{E:Env}{V:View}{s:AS}{a:Act}{nt:Nat}(ak:At E V s a nt){x:aa'}{av:AV}(h:vb P s x=some av):
  ∃v,ap E av v/\∀{K:SP}{Kp:SP},K v V->aR P V (match x with|.tmp t=>pure (a.tmps.getD t undef)|.cell b t=>do loadVar t (<- asAddr (a.tmps.getD b undef))) K Kp:=by
 cases x with
 |tmp t=>exact⟨_,(ak.tok t av h).2,λhK=>aq hK⟩
 |cell b t=>
  unfold vb at h;obtain⟨p,h1,h⟩:=Uc.1 h;obtain⟨l,h2,h⟩:=Uc.1 h;obtain⟨⟨n,g⟩,h3,h⟩:=Uc.1 h;obtain⟨i,d,t1,t2,rfl,t4⟩:=Ty.out h3;obtain⟨bb,off,f,hv,hg,ig,hd⟩:=ak.br.at (ak.tok b p h1).2 h2;dsimp only;rw[hv];cases g with
  |true=>
   simp only[if_true]at h;split at h
   ·rename_i hlen;cases h;refine⟨_,Fq hlen hd,λhK=> ?_⟩;refine ay ?_;unfold asAddr;refine aq ?_;unfold loadVar;refine vf t2 ?_;rw[t4];simp only[if_true];refine jo t1 ?_;exact ay (yJ (f:=f) (λh=>ig (by omega)) (λj hj=>hg j (by omega)) (aq hK))
   ·cases h
  |false=>
   simp only[UB,if_false]at h;have hlen:0<l.length:=(Tj.1 h).1;have kA:=hg 0 hlen;rw[Vl]at kA;refine⟨_,hd 0 av h,λhK=> ?_⟩;refine ay ?_;unfold asAddr;refine aq ?_;unfold loadVar;refine vf t2 ?_;rw[t4];simp only[UB,if_false];exact A_ kA (.inl (ig hlen)) (b8 hK)
abbrev SW:=List aa'
def HT{P:Tg}{E:Env}{V:View}{s:AS}{a:Act}{nt:Nat}(ak:At E V s a nt):∀(rs:SW)(l:SC),gV P s rs=some l->∃vs:S5,vs.length=l.length/\(∀(i:Nat) x,l[i]?=some x->ap E x (vs.getD i undef))/\
  ∀{K:List T5->View->Prop}{Kp:SP},K vs V->aR P V (rs.mapM λx=>(match x with|.tmp t=>pure (a.tmps.getD t undef)|.cell b t=>do loadVar t (<- asAddr (a.tmps.getD b undef)):Sem T5)) K Kp
 |[],l,h=>by
  cases h;refine⟨[],rfl,by simp,λhK=> ?_⟩;rw[Vt];exact aq hK
 |x::rs,l,h=>by
  simp only[gV]at h;split at h
  ·rename_i av jI h1 h2;cases h;obtain⟨v,hv,hs⟩:=aqK ak h1;obtain⟨vs,hl,lR,GC⟩:=HT ak rs jI h2;refine⟨v::vs,by simp[hl],λi x hx=> ?_,λhK=> ?_⟩
   ·cases i with
    |zero=>cases hx;simpa using hv
    |succ i=>simpa using lR i x (by simpa using hx)
   ·rw[UY];exact ay (hs (ay (GC (aq hK))))
  ·cases h
attribute [seval] Int.natCast_pow Int.natCast_mul Int.natCast_shiftLeft Int.natCast_emod Int.ofNat_sub Int.natCast_shiftRight Int.natCast_add_one Int.natCast_add Int.cast_id Int.natCast_sub Int.natCast_ediv Int.natCast_succ
def bY (n0:Nat)(H:SA)(a:AV)(k:SF):Prop:=
 ∃b,Wk a b/\(k b H\/∃H' G,H=H'++G/\n0<=H'.length/\bO H'/\Lt H'.length b/\k b H')
def tQ (P:Tg)(rs:SW)(n0:Nat)(k kp:SF):an->AS->Prop
 |.normal,s|.ret,s=>ao (gV P s rs) λl=>bY n0 s.H (iW l) k
 |.panic pv,s=>bY n0 s.H pv kp
 |_,_=>False
def bZ{n0:Nat}{H:SA}{a:AV}{k:SF}(h:k a H):bY n0 H a k:=⟨a,Wk.refl a,.inl h⟩
def iK{H H' G:SA}{a b:AV}{k:SF}{n0:Nat}(hw:Wk a b)(hH:H=H'++G)(hn:n0<=H'.length)(au:bO H')(hl:Lt H'.length b)(h:k b H'):bY n0 H a k:=⟨b,hw,.inr ⟨H',G,hH,hn,au,hl,h⟩⟩
def xz{n0:Nat}{E0 E:Env}{V':View}{H:SA}{a:AV}{v:T5}{k:SF}(h:bY n0 H a k)(hc:Conc E V' H)(hd:ap E a v)(hle:E0.Le E)(hn:E0.n=n0):∃b E' H',E0.Le E'/\ap E' b v/\Conc E' V' H'/\k b H':=by
 obtain⟨b,hw,h|⟨H',G,rfl,h1,h2,h3,h4⟩⟩:=h
 ·exact⟨b,E,H,hle,hw _ _ hd,hc,h⟩
 ·refine⟨b,{E with n:=H'.length},H',Ej h1 (by rw[hc.n];simp) hle hn,(hw _ _ hd).trim h3,hc.trim h2,h4⟩
def ajW{lv:Bool}{P:Tg}{f:UH}{fn:avu}{c:UX}{rs:SW}{nt:Nat}{H:SA}{args:SC}{k kp:SF}(hf:P.funcs[f]?=some fn)(hb:fn.body=some c)(hr:fn.results=rs.toArray)(hn:fn.ntmps=nt)(cM:args.length<=nt)
  (h:bO H->(∀a∈args,Lt H.length a)->aZ lv P none nt c ⟨bc 0 args,H⟩ (tQ P rs H.length k kp)):a_ lv P f H args k kp:=by
 intro E V vs hc hd;have aX:(vs++UI (fn.ntmps-vs.size) undef).size=nt:=by simp[hd.1];omega
 have hlt:∀a∈args,Lt H.length a:=λa ha=>by
  obtain⟨i,hi⟩:=pC ha;rw[<- hc.n];exact(hd.2 i a hi).lt
 refine PE (by simp) hf hb (h hc.au hlt E V _ _ ⟨hc,λq a e=> ?_,aX⟩ λae e E' V' a' s' hk ak he hΦ=> ?_)
 ·obtain⟨_,e⟩:=M3 args 0 q a e;simp only[avz]at e;have hq:q<args.length:=(Tj.1 e).1;have te:q<vs.size:=by rw[hd.1];exact hq
  refine⟨by rw[aX];omega,?_⟩;have:=hd.2 q a e;rw[Td,XB te];rwa[Td]at this
 ·have fin:(ao (gV P s' rs) λl=>bY H.length s'.H (iW l) k)->a'.defers=[]/\∃v,aR P V' (results fn a'.tmps) (λx aW=>x=v/\aW=V') (λ_ _=>False)/\gh E V k kp (.ret v) V':=by
   intro hΦ;obtain⟨l,h1,h2⟩:=hΦ.out;have gA:∃v,ap E' (iW l) v/\aR P V' (results fn a'.tmps) (λx aW=>x=v/\aW=V') (λ_ _=>False):=by
    obtain⟨vs,hl,lR,yb⟩:=HT ak rs l h1;refine⟨if h:vs.length=1 then vs[0]else .tuple vs.toArray,?_,?_⟩
    ·match l,vs,hl,lR with
     |[x],[v],_,lR=>exact lR 0 x rfl
     |[],[],_,lR=>exact .aF rfl (by simp)
     |x::y::l,v::w::vs,hl,lR=>exact .aF (by simpa using hl) (λi z hz=>by simpa[Td,Se]using lR i z hz)
    ·unfold results;rw[hr,Y3];refine ay ?_;refine ay (yb ?_);refine aq (aq ⟨?_,rfl⟩);simp
   obtain⟨v,bh,qt⟩:=gA;obtain⟨b,bS,H',q1,q2,q3,q4⟩:=xz h2 ak.br bh hk.le hc.n;exact⟨hk.defers,v,qt,b,bS,H',q1,hk.role,hk.deaf,q2,q3,q4⟩
  cases ae<;>cases e<;>first
   |exact he.elim
   |exact fin hΦ
   |(obtain⟨v,rfl,bh⟩:=he
     obtain⟨b,bS,H',q1,q2,q3,q4⟩:=xz hΦ ak.br bh hk.le hc.n;exact⟨hk.defers,b,v,bS,H',rfl,q1,hk.role,hk.deaf,q2,q3,q4⟩)
   |exact hΦ.elim
def an4(k:Nat)(a:AV)(l:SH):look ((k,a)::l) k=some a:=by simp[look]
def an5(k t:Nat)(a:AV)(l:SH)(h:(k==t)=false):look ((k,a)::l) t=look l t:=by
 have:¬k=t:=by simpa using h
 simp[look,this]
def wL{α:Type}(a:α)(k:α->Prop):ao (some a) k=k a:=by rw[ao]
def afO(b:Bool)(k:Bool->Prop):AV.asBool (.val (.bool b)) k=k b:=by rw[AV.asBool]
def afQ(j:UN)(n:Int)(k:UN->Int->Prop):AV.asInt (.val (.int j n)) k=k j n:=by rw[AV.asInt]
def afX(l:SC)(k:SC->Prop):AV.xn (.aF l) k=k l:=by rw[AV.xn]
def afM(l:SC)(k:SC->Prop):AV.asAgg (.agg l) k=k l:=by rw[AV.asAgg]
def afS(i j:Nat)(k:Nat->S7):AV.pQ (.op i j) k=k i j:=by rw[AV.pQ]
def afR(i:Nat)(k:S7):AV.sB (.mp i) k=k i:=by rw[AV.sB]
def afV(n:Nat)(l:SC)(e:End)(k:TG):AV.vJ (.sl n l e) k=k n l e:=by rw[AV.vJ]
def ae6(P:Tg)(xt:TypeId)(j:UN)(m n:Int)(k:SQ):dh P .add xt (.val (.int j m)) (.val (.int j n)) k=k (.val (.int j (j.wrap (m+n)))):=by simp[dh,mX,mb,ao]
def afk(P:Tg)(xt:TypeId)(j:UN)(m n:Int)(k:SQ):dh P .sub xt (.val (.int j m)) (.val (.int j n)) k=k (.val (.int j (j.wrap (m-n)))):=by simp[dh,mX,mb,ao]
def aff(P:Tg)(xt:TypeId)(j:UN)(m n:Int)(k:SQ):dh P .mul xt (.val (.int j m)) (.val (.int j n)) k=k (.val (.int j (j.wrap (m* n)))):=by simp[dh,mX,mb,ao]
def ae8(P:Tg)(xt:TypeId)(j:UN)(m n:Int)(k:SQ):dh P .eql xt (.val (.int j m)) (.val (.int j n)) k=k (.val (.bool (m==n))):=by simp[dh,mX,mb,ao]
def OY(P:Tg)(xt:TypeId)(j:UN)(m n:Int)(k:SQ):dh P .neq xt (.val (.int j m)) (.val (.int j n)) k=k (.val (.bool (m !=n))):=by simp[dh,mX,mb,ao]
def afe(P:Tg)(xt:TypeId)(j:UN)(m n:Int)(k:SQ):dh P .lss xt (.val (.int j m)) (.val (.int j n)) k=k (.val (.bool (decide (m<n)))):=by simp[dh,mX,mb,ao]
def afd(P:Tg)(xt:TypeId)(j:UN)(m n:Int)(k:SQ):dh P .leq xt (.val (.int j m)) (.val (.int j n)) k=k (.val (.bool (decide (m<=n)))):=by simp[dh,mX,mb,ao]
def afa(P:Tg)(xt:TypeId)(j:UN)(m n:Int)(k:SQ):dh P .gtr xt (.val (.int j m)) (.val (.int j n)) k=k (.val (.bool (decide (m>n)))):=by simp[dh,mX,mb,ao]
def ae9(P:Tg)(xt:TypeId)(j:UN)(m n:Int)(k:SQ):dh P .geq xt (.val (.int j m)) (.val (.int j n)) k=k (.val (.bool (decide (m>=n)))):=by simp[dh,mX,mb,ao]
def ae7(P:Tg)(xt:TypeId)(j:UN)(m n:Int)(k:SQ):dh P .and xt (.val (.int j m)) (.val (.int j n)) k=k (.val (.int j (j.wrap (U2 j.bits m&&&U2 j.bits n).toNat))):=by simp[dh,mX,mb,ao]
def BS(P:Tg)(xt:TypeId)(j:UN)(m n:Int)(k:SQ):dh P .or xt (.val (.int j m)) (.val (.int j n)) k=k (.val (.int j (j.wrap (U2 j.bits m|||U2 j.bits n).toNat))):=by simp[dh,mX,mb,ao]
def BU(P:Tg)(xt:TypeId)(j:UN)(m n:Int)(k:SQ):dh P .xor xt (.val (.int j m)) (.val (.int j n)) k=k (.val (.int j (j.wrap (U2 j.bits m^^^U2 j.bits n).toNat))):=by simp[dh,mX,mb,ao]
def afh(P:Tg)(xt:TypeId)(j:UN)(m n:Int)(k:SQ):dh P .rem xt (.val (.int j m)) (.val (.int j n)) k=ao (if n=0 then none else some (.int j (m.tmod n))) λv=>k (.val v):=by simp[dh,mX,mb]
def afj(P:Tg)(xt:TypeId)(j j':UN)(m n:Int)(k:SQ):dh P .shl xt (.val (.int j m)) (.val (.int j' n)) k=ao (if n<0 then none else some (.int j (j.wrap (m* 2^(min n.toNat j.bits))))) λv=>k (.val v):=by simp[dh,mX,Bb]
def BT(P:Tg)(xt:TypeId)(j j':UN)(m n:Int)(k:SQ):dh P .shr xt (.val (.int j m)) (.val (.int j' n)) k=ao (if n<0 then none else some (.int j (m.fdiv (2^(min n.toNat j.bits))))) λv=>k (.val v):=by simp[dh,mX,Bb]
def ail(T:SH)(H:SA)(t:Nat):AS.ev ⟨T,H⟩ (.tmp t)=look T t:=by rw[AS.ev]
def aic(s:AS)(b:Bool):s.ev (.const (.bool b))=some (.val (.bool b)):=by rw[AS.ev,AV.of]<;>(intros;simp_all)
def aig(s:AS)(k:UN)(n:Int):s.ev (.const (.int k n))=some (.val (.int k n)):=by rw[AS.ev,AV.of]<;>(intros;simp_all)
def aie(s:AS)(f:UH):s.ev (.func f)=some (.fn (.func f) [] []):=by rw[AS.ev]
def aik(s:AS):s.ev (.const (.slice none 0 0))=some (.sl 0 [] .exact):=by rw[AS.ev,AV.of]
def aih(s:AS):s.ev (.const (.map none))=some (.val (.map none)):=by rw[AS.ev,AV.of]<;>(intros;simp_all)
def aii(s:AS):s.ev (.const (.pointer none))=some (.val (.pointer none)):=by rw[AS.ev,AV.of]<;>(intros;simp_all)
def aid(s:AS):s.ev (.const .nilFunc)=some (.val .nilFunc):=by rw[AS.ev,AV.of]<;>(intros;simp_all)
def aif(s:AS):s.ev (.const .nilIface)=some (.val .nilIface):=by rw[AS.ev,AV.of]<;>(intros;simp_all)
def apN(T:SH)(H:SA)(d:Nat)(a:AV):AS.put ⟨T,H⟩ (some d) a=⟨(d,a)::T,H⟩:=by rw[AS.put]
def apM(s:AS)(a:AV):AS.put s none a=s:=by rw[AS.put]
def asP(n:SV)(Φ:SI)(s:AS):an.then n Φ .normal s=n s:=by rw[an.then]
def asR(n:SV)(Φ:SI)(s:AS):an.then n Φ .ret s=Φ .ret s:=by rw[an.then];intro h;cases h
def asN(n:SV)(Φ:SI)(i:Nat)(s:AS):an.then n Φ (.exit i) s=Φ (.exit i) s:=by rw[an.then];intro h;cases h
def asO(n:SV)(Φ:SI)(i:Nat)(s:AS):an.then n Φ (.goto i) s=Φ (.goto i) s:=by rw[an.then];intro h;cases h
def asQ(n:SV)(Φ:SI)(a:AV)(s:AS):an.then n Φ (.panic a) s=Φ (.panic a) s:=by rw[an.then];intro h;cases h
def agM(i:Nat)(Φ:SI)(s:AS):an.inBlock i Φ .normal s=Φ .normal s:=by rw[an.inBlock];intro h h';cases h'
def agO(i:Nat)(Φ:SI)(s:AS):an.inBlock i Φ .ret s=Φ .ret s:=by rw[an.inBlock];intro h h';cases h'
def agJ(i l:Nat)(Φ:SI)(s:AS):an.inBlock i Φ (.goto l) s=Φ (.goto l) s:=by rw[an.inBlock];intro h h';cases h'
def agN(i:Nat)(Φ:SI)(a:AV)(s:AS):an.inBlock i Φ (.panic a) s=Φ (.panic a) s:=by rw[an.inBlock];intro h h';cases h'
def agK(i:Nat)(Φ:SI)(s:AS):an.inBlock i Φ (.exit i) s=Φ .normal s:=by rw[an.inBlock,if_pos rfl]
def agL(i j:Nat)(Φ:SI)(s:AS)(h:(j==i)=false):an.inBlock i Φ (.exit j) s=Φ (.exit j) s:=by
 have:¬j=i:=by simpa using h
 rw[an.inBlock,if_neg this]
def aj7(P:Tg)(rs:SW)(n:Nat)(k kp:SF)(s:AS):tQ P rs n k kp .ret s=ao (gV P s rs) λl=>bY n s.H (iW l) k:=by rw[tQ]
def aj5(P:Tg)(rs:SW)(n:Nat)(k kp:SF)(s:AS):tQ P rs n k kp .normal s=ao (gV P s rs) λl=>bY n s.H (iW l) k:=by rw[tQ]
def aj6(P:Tg)(rs:SW)(n:Nat)(k kp:SF)(a:AV)(s:AS):tQ P rs n k kp (.panic a) s=bY n s.H a kp:=by rw[tQ]
def aqL(P:Tg)(T:SH)(H:SA)(t:Nat):vb P ⟨T,H⟩ (.tmp t)=look T t:=by rw[vb]
def af3(s:AS)(l:SC):s.at (.rp l)=some l:=by rw[AS.at]
def arC(n i off:Nat):AV.shift n (.op i off)=some (.op i (off+n)):=by rw[AV.shift]
def ade(n:Nat)(l:SC)(h:n<=l.length):AV.shift n (.rp l)=some (.rp (l.drop n)):=by rw[AV.shift,if_pos h]
def arD(l:SC):AV.shift 0 (.rp l)=some (.rp l):=by rw[AV.shift,if_pos (Z1 _),WY]
def arE(n:Nat)(a:AV)(l:SC):AV.shift (n+1) (.rp (a::l))=AV.shift n (.rp l):=by simp[AV.shift]
def aqW(n:Nat)(l:SC)(e:End):AV.row (.sl n l e)=some (n,.rp l):=by rw[AV.row]
def aqV(i off n cap:Nat):AV.row (.bI i off n cap)=some (n,.op i off):=by rw[AV.row]
def aeQ(P:Tg)(s:AS){t:TypeId}(n:Nat)(l:SC)(e:End)(k:SQ)(h:kj P t=some .slice):sf P s t (.sl n l e) k=k (.val (.int .i64 n)):=by unfold sf;rw[h]
def aeP(P:Tg)(s:AS){t:TypeId}(i off n cap:Nat)(k:SQ)(h:kj P t=some .slice):sf P s t (.bI i off n cap) k=k (.val (.int .i64 n)):=by unfold sf;rw[h]
def aeO(P:Tg)(T:SH)(H:SA){t:TypeId}(id:Nat)(k:SQ){es:TD}{ck:Nat}(h:kj P t=some .map)(hH:H[id]?=some (.obj (.map es ck))):sf P ⟨T,H⟩ t (.mp id) k=k (.val (.int .i64 es.size)):=by
 unfold sf;rw[h];simp[hH]
def bP{a b:AV}:(∃c,some b=some c/\Wk c a)<->Wk b a:=⟨λ⟨_,h,k⟩=>by cases h;exact k,λh=>⟨_,rfl,h⟩⟩
abbrev iv (n:Int):AV:=.val (.int .i64 n)
abbrev bv (b:Bool):AV:=.val (.bool b)
def Pm{lv:Bool}{P:Tg}{r:SL}{s:AS}{nt:Nat}{c:Ui}{x y:UX}{Φ:SI}(h:ao (s.ev c) λa=>a.asBool λb=>(b=true->aZ lv P r nt x s Φ)/\(b=false->aZ lv P r nt y s Φ)):aZ lv P r nt (.cond c x y) s Φ:=by
 obtain⟨a,h1,h2⟩:=h.out;obtain⟨b,rfl,h3,h4⟩:=BY h2;exact af4 h1 h3 h4
def Qj{α β:Type}{f:α->List β}{m:Nat}(hf:∀x,(f x).length=m):∀{xs:List α}{i:Nat}{x:α},xs[i]?=some x->(xs.flatMap f).drop (i* m)=f x++(xs.drop (i+1)).flatMap f
 |y::xs,0,x,h=>by cases h;simp
 |y::xs,i+1,x,h=>by
  have ih:=Qj hf (xs:=xs) (i:=i) (x:=x) (by simpa using h);rw[UQ,VU,Nat.one_mul,awa (i* m) m,<- avT];have:(f y++xs.flatMap f).drop m=xs.flatMap f:=by rw[<- hf y];simp
  rw[this,ih];simp
 |[],i,x,h=>by simp at h
def MX{α β:Type}{f:α->List β}{m:Nat}(hf:∀x,(f x).length=m)(xs:List α):(xs.flatMap f).length=xs.length* m:=by
 induction xs with
 |nil=>simp
 |cons x xs ih=>rw[UQ,Tx,hf,ih,UU,VU];omega
def adb{α:Type}{f:α->SC}{m:Nat}(hf:∀x,(f x).length=m){xs:List α}{i:Nat}{x:α}(h:xs[i]?=some x):AV.shift (i* m) (.rp (xs.flatMap f))=some (.rp (f x++(xs.drop (i+1)).flatMap f)):=by
 have hi:i<xs.length:=(Tj.1 h).1;rw[ade _ _ (by rw[MX hf];exact US _ (by omega)),Qj hf h]
def adc{α:Type}{f:α->AV}{xs:List α}{i:Nat}{x:α}(h:xs[i]?=some x):AV.shift (i* 1) (.rp (xs.map f))=some (.rp (f x::(xs.drop (i+1)).map f)):=by
 have hi:i<xs.length:=(Tj.1 h).1;rw[Zc,ade _ _ (by simp;omega)];congr 2;rw[<- Zy,UW hi,VI];congr 2;rw[Ts hi]at h;exact Wq h
def iB{i n:Nat}(h:i<n):(0<=(i:Int)/\(i:Int)<(n:Int))=True:=by simp;exact h
def ep{α:Type}{xs:List α}{i:Nat}{x:α}(h:xs[i]?=some x):i<xs.length:=(Tj.1 h).1
def bU{α:Type}{xs:List α}{i:Nat}(h:i<xs.length):∃x,xs[i]?=some x:=⟨_,Ts h⟩
def vF(H L:SA)(i:Nat):(H++L)[H.length+i]?=L[i]?:=by rw[Ud (by omega)];congr 1;omega
def afB(H L:SA):(H++L)[H.length]?=L[0]?:=by have:=vF H L 0;simpa using this
def vG(H L:SA)(i:Nat)(x:aa):(H++L).set (H.length+i) x=H++L.set i x:=by
 rw[VE _ _ (by omega)];congr 2;omega
def afF(H L:SA)(x:aa):(H++L).set H.length x=H++L.set 0 x:=by have:=vG H L 0 x;simpa using this
def afA(H L M:SA):(H++L)++M=H++(L++M):=Ax ..
def afE(H L:SA):(H++L).length=H.length+L.length:=Tx
def dN(n:Nat)(x:T5):Lt n (.val x)=True:=by simp[Lt.val]
def abw(n i o:Nat):Lt n (.op i o)=(i<n):=propext ⟨λh=>by cases h with|op h=>exact h,.op⟩
def lV(n:Nat)(l:SC):Lt n (.agg l)=∀a∈l,Lt n a:=propext ⟨λh=>by cases h with|agg h=>exact h,.agg⟩
def im(n:Nat)(l:SC):Lt n (.aF l)=∀a∈l,Lt n a:=propext ⟨λh=>by cases h with|aF h=>exact h,.aF⟩
def u5(n:Nat)(t:TypeId)(a:AV):Lt n (.bR t a)=Lt n a:=propext ⟨λh=>by cases h with|bR h=>exact h,.bR⟩
def u6(n m:Nat)(l:SC):Lt n (.sl m l .shut)=∀a∈l,Lt n a:=propext ⟨λh=>by cases h with|sl _ h=>exact h,λh=> .sl (by simp) h⟩
def Hi(n m:Nat)(l:SC):Lt n (.sl m l .exact)=∀a∈l,Lt n a:=propext ⟨λh=>by cases h with|sl _ h=>exact h,λh=> .sl (by simp) h⟩
def an9(n m k:Nat)(l:SC):Lt n (.sl m l (.opn k))=(k<n/\∀a∈l,Lt n a):=propext ⟨λh=>by cases h with|sl h' h=>exact⟨h' k rfl,h⟩,λh=> .sl (λk' e=>by cases e;exact h.1) h.2⟩
def yw(n:Nat)(l:SC):Lt n (.rp l)=∀a∈l,Lt n a:=propext ⟨λh=>by cases h with|rp h=>exact h,.rp⟩
def aar{H:SA}(h:bO H){i:Nat}{x:aa}(k:eU H.length x):bO (H.set i x):=λy hy=>by
 rw[UF];rcases VB hy with hy|rfl
 ·exact h y hy
 ·exact k
def cQ (o:U8):SE:=o.after.toList.filterMap λe=>if Zn .any e then some e.on else none
inductive l_ (ops:Array U8):List Nat->List Nat->Prop
 |nil (X:List Nat) (h:∀i,i<ops.size->i∈X):l_ ops X []
 |cons {X:List Nat} {i:Nat} {l:List Nat} (o:U8) (ho:ops[i]?=some o) (hn:i∉X) (hd:∀j∈cQ o,j∈X) (h:l_ ops (i::X) l):l_ ops X (i::l)
def Hk{o:U8}{j:Nat}:j∈cQ o<->∃e∈o.after,Zn .any e=true/\e.on=j:=by
 unfold cQ;rw[WG];constructor
 ·rintro⟨e,he,h⟩
  split at h
  ·rename_i hb;cases h;exact⟨e,by simpa using he,hb,rfl⟩
  ·cases h
 ·rintro⟨e,he,hb,rfl⟩
  exact⟨e,by simpa using he,by rw[if_pos hb]⟩
def PW{l:SE}{i:Nat}(hi:i∈l){p q:Nat->Bool}(nK:∀k,q k=true->p k=true)(hp:p i=true)(hq:q i=false):l.countP q<l.countP p:=by
 induction l with
 |nil=>cases hi
 |cons x l ih=>
  have hle:l.countP q<=l.countP p:=List.countP_mono_left λk _ h=>nK k h;rcases Th.1 hi with rfl|hi
  ·rw[XS (by simp[hq]),W6 hp];omega
  ·have:=ih hi;by_cases hx:q x=true
   ·rw[W6 hx,W6 (nK x hx)];omega
   ·rw[XS hx];by_cases jC:p x=true
    ·rw[W6 jC];omega
    ·rw[XS jC];exact this
structure OT (ops:Array U8)(L:Array Bool)(X:SE):Prop where
 size:L.size=ops.size
 mem:∀i,i<ops.size->(L[i]?=some true<->i∈X)
def abm{ops:SK}(ii:∀(i:Nat) o,ops[i]?=some o->∀j∈cQ o,j<i):∀(fuel t:Nat)(L:Array Bool)(X:SE),OT ops L X->(Tt ops.size).countP (λi=> !X.contains i)<=fuel->l_ ops X (Vu .any ops fuel t L [])
 |0,t,L,X,hr,hc=>by
  simp only[Vu,YZ];refine .nil X λi hi=> ?_;have:(Tt ops.size).countP (λi=> !X.contains i)=0:=by omega
  have:=List.countP_eq_zero.1 this i (by simpa using hi);simpa using this
 |fuel+1,t,L,X,hr,hc=>by
  have uM:∀i,i∈((Tt ops.size).filter λi=> !L.getD i true&&((ops[i]?).map (·.after.all λe=> !Region.binds .any e||L.getD e.on false)).getD false)<->∃o,ops[i]?=some o/\i∉X/\∀j∈cQ o,j∈X:=by
   intro i;simp only[Vq,UA,Uk,UK];constructor
   ·rintro⟨hi,h1,h2⟩
    have ho:=Tf hi;refine⟨ops[i],ho,λhx=> ?_,λj hj=> ?_⟩
    ·have:=(hr.mem i hi).2 hx;rw[Td,this]at h1;cases h1
    ·obtain⟨e,he,hb,rfl⟩:=Hk.1 hj;rw[ho]at h2;simp only[VL,T9,Vw]at h2;have:=h2 e he;rw[hb]at this;simp only[X6,an_]at this;have hlt:e.on<ops.size:=Xn (ii i _ ho _ hj) hi;refine(hr.mem _ hlt).1 ?_;rw[Td]at this;cases hx:L[e.on]?with
     |none=>rw[hx]at this;cases this
     |some b=>rw[hx]at this;cases b;cases this;rfl
   ·rintro⟨o,ho,h1,h2⟩
    have hi:i<ops.size:=(Tl.1 ho).1;refine⟨hi,?_,?_⟩
    ·rw[Td,Tf (by rw[hr.size];exact hi)];simp only[T9];cases hb:L[i]'(by rw[hr.size];exact hi)with
     |false=>rfl
     |true=>exact absurd ((hr.mem i hi).1 (by rw[Tf (by rw[hr.size];exact hi),hb])) h1
    ·rw[ho];simp only[VL,T9,Vw];intro e he;cases hb:Zn .any e with
     |false=>rfl
     |true=>
      have hj:=Hk.2 ⟨e,he,hb,rfl⟩;have hlt:e.on<ops.size:=Xn (ii i _ ho _ hj) hi;have:=(hr.mem _ hlt).2 (h2 _ hj);simp[Td,this]
  simp only[Vu];generalize Dg:((Tt ops.size).filter λi=> !L.getD i true&&((ops[i]?).map (·.after.all λe=> !Region.binds .any e||L.getD e.on false)).getD false)=rs at uM;cases hi:rs[t % rs.length]?with
  |none=>
   have LF:rs=[]:=by
    cases rs with
    |nil=>rfl
    |cons x xs=>
     have hlt:t % (x::xs).length<(x::xs).length:=Nat.mod_lt _ (by simp);rw[List.getElem?_eq_none_iff]at hi;omega
   simp only[YZ];refine .nil X λi=> ?_;induction i using Zl with
   |_ i ih=>
    intro hlt;apply Uj;intro hx;have:i∈rs:=(uM i).2 ⟨ops[i],Tf hlt,hx,λj hj=>ih j (ii i _ (Tf hlt) j hj) (Xn (ii i _ (Tf hlt) j hj) hlt)⟩;rw[LF]at this;cases this
  |some i=>
   simp only[];obtain⟨o,ho,h1,h2⟩:=(uM i).1 (Uf hi);have hlt:i<ops.size:=(Tl.1 ho).1;rw[linearise_go_acc,List.reverse_singleton,Z3];refine .cons o ho h1 h2 (abm ii fuel _ _ (i::X) ⟨by simp[hr.size],λk hk=> ?_⟩ ?_)
   ·by_cases rn:k=i
    ·subst rn;simp[T8 (by rw[hr.size];exact hlt)]
    ·rw[Tq (Ne.symm rn),hr.mem k hk];simp[rn]
   ·have fJ:i∈(Tt ops.size):=(by simpa using hlt);have:(Tt ops.size).countP (λk=> !(i::X).contains k)<(Tt ops.size).countP (λk=> !X.contains k):=by
     exact PW fJ (λk hk=>by simp only[UK,Vf,decide_eq_false_iff_not]at hk⊢;exactλh=>hk (T_ _ h)) (by simpa using h1) (by simp)
    omega
structure IR (k:AV->Prop):Type where
 n:Nat
structure IQ (X:Bool->Prop)(Z:Prop):Type where
 n:Nat
def QG (a:AV)(X:Bool->Prop)(Z:Prop)(_t:IQ X Z):Prop:=(∃b,a=.val (.bool b)/\X b)\/(a=.val undef/\Z)
def aqq(b:Bool)(X:Bool->Prop)(Z:Prop)(t:IQ X Z):QG (.val (.bool b)) X Z t=X b:=by
 unfold QG;refine propext ⟨λh=> ?_,λh=> .inl ⟨b,rfl,h⟩⟩;rcases h with⟨b',e,h⟩|⟨e,_⟩
 ·cases e;exact h
 ·cases e
def aqr(X:Bool->Prop)(Z:Prop)(t:IQ X Z):QG (.val undef) X Z t=Z:=by
 unfold QG;refine propext ⟨λh=> ?_,λh=> .inr ⟨rfl,h⟩⟩;rcases h with⟨b',e,_⟩|⟨_,h⟩
 ·cases e
 ·exact h
def OS (lv:Bool)(P:Tg)(f:AV)(H:SA)(aG:SC)(k:SQ)(_t:IR k):Prop:=∃av,eM lv P f H aG (λb H'=>b=av/\H'=H) (λ_ _=>False)/\k av
def aew (lv:Bool)(P:Tg)(f:AV)(name:String)(H:SA)(aG:SC)(k:SQ)(_t:IR k):Prop:=∃av,sj lv P f name H aG (λb H'=>b=av/\H'=H) (λ_ _=>False)/\k av
def gE{lv:Bool}{P:Tg}{f:AV}{H:SA}{aG:SC}{k:SQ}{t:IR k}(av:AV)(h:eM lv P f H aG (λb H'=>b=av/\H'=H) (λ_ _=>False))(hk:k av):OS lv P f H aG k t:=⟨av,h,hk⟩
section
variable (lv:Bool)(P:Tg)
def AQ (s:AS)(o:U8)(k:SQ):Prop:=match o.op with
 |.call c=>match c.callee with
  |.value x=>ao (s.ev x) λf=>ao (fe s c.args.toList) λaG=>OS lv P f s.H aG k ⟨0⟩
  |.invoke x name=>ao (s.ev x) λf=>ao (fe s c.args.toList) λaG=>aew lv P f name s.H aG k ⟨0⟩
  |.builtin .append=>match c.args.toList,c.argTypes.toList with
   |[x,y],[t,t']=>ao (jE P t t') λ(_,sz,_)=>ao (s.ev x) λa=>ao (s.ev y) λb=>a.vJ λn l e=>e=.exact/\ao (s.src sz b) λ(m,l')=>l.length=n* sz/\l'.length=m* sz/\n+m<=2^30/\k (.sl (n+m) (l++l') .shut)
   |_,_=>False
  |_=>lD P s o k
 |_=>lD P s o k
def nc (all:SK):List U8->AS->(SV)->Prop
 |[],s,K=>K s
 |o::rest,s,K=>match o.guard with
  |none=>AQ lv P s o λav=>nc all rest (s.put o.dst av) K
  |some (j,b9)=>ao ((all[j]?).bind (·.dst)) λd=>ao (look s.T d) λa=>QG a (λb=>qK b b9 (AQ lv P ⟨(d,.val (.bool b9))::s.T,s.H⟩ o λav=>nc all rest ((⟨(d,.val (.bool b9))::s.T,s.H⟩:AS).put o.dst av) K) (nc all rest ((⟨(d,.val (.bool !b9))::s.T,s.H⟩:AS).put o.dst (.val undef)) K) ⟨0⟩) (nc all rest (s.put o.dst (.val undef)) K) ⟨0⟩
end
section
variable {lv:Bool}{P:Tg}{r:SL}{o:U8}{s:AS}
def acA{a:Act}{E:Env}{V:View}{av:AV}{N:S0}{Q:SJ}(h1:∀E' V' v,E.Le E'->V'.role=V.role->V'.deaf=V.deaf->Conc E' V' s.H->ap E' av v->N (a.put o.dst v) V'):
  (∀nx V',Nx lv P (gh E V (λb H'=>b=av/\H'=s.H) (λ_ _=>False)) nx V'->mG lv P r o a N Q nx V')/\(∀v V',gh E V (λb H'=>b=av/\H'=s.H) (λ_ _=>False) (.panic [{v,recovered:=false}]) V'->Q (.panic [{v,recovered:=false}]) a V'):=by
 have hv:∀v V',gh E V (λb H'=>b=av/\H'=s.H) (λ_ _=>False) (.ret v) V'->N (a.put o.dst v) V':=λv V' ⟨b,E',H',hle,cg,eX,bh,bi,e1,e2⟩=>by
  subst e1 e2;exact h1 E' V' v hle cg eX bi bh
 have hp:∀ch V',gh E V (λb H'=>b=av/\H'=s.H) (λ_ _=>False) (.panic ch) V'->Q (.panic ch) a V':=λch V' ⟨pv,v,E',H',eW,hle,cg,eX,bh,bi,hk⟩=>hk.elim;refine⟨λnx V' hn=> ?_,λv V' h=>hp _ _ h⟩;cases nx with
 |value v=>exact hv _ _ hn
 |skip=>exact hv _ _ hn
 |enter f args=>
  refine Body.mono (R':=fun
   |.ret v,V'=>N (a.put o.dst v) V'
   |.panic ch,V'=>Q (.panic ch) a V') hn λot aW h=> ?_
  cases ot with
  |ret v=>exact hv _ _ h
  |panic ch=>exact hp _ _ h
 |round l f tmps aG b=>
  refine nf.mono (R':=fun
   |.ret v,V'=>N (a.put o.dst v) V'
   |.panic ch,V'=>Q (.panic ch) a V') hn λot aW h=> ?_
  cases ot with
  |ret v=>exact hv _ _ h
  |panic ch=>exact hp _ _ h
 |_=>exact hn.elim
def apR{c:Ym}{x y:Ui}{t t' elem:TypeId}{sz n m:Nat}{z:T5}{l l':SC}{av:AV}(ho:o.op=.call c)(aV:c.callee=.builtin .append)(cM:c.args=#[x,y])(dU:c.argTypes=#[t,t'])(ht:jE P t t'=some (elem,sz,z))
  (hx:s.ev x=some (.sl n l .exact)) (hy:s.ev y=some av) (hs:s.src sz av=some (m,l')) (hl:l.length=n* sz) (eF:l'.length=m* sz) (hb:n+m<=2^30):dq lv P r o s (.sl (n+m) (l++l') .shut):=by
 intro E V a N Q hc aE bt hN;refine⟨bt,?_⟩;have dw:=ap.ev aE hx;have iO:=ap.ev aE hy;generalize j8:a.eval x=vx at dw;generalize rI:a.eval y=vy at iO;unfold execOp;rw[ho];dsimp only;unfold resolve;rw[aV];dsimp only;refine ay (aq ?_);unfold invoke builtin;dsimp only;refine ay ?_;have nI:c.args.map a.eval=#[vx,vy]:=by rw[cM];simp[j8,rI]
 rw[nI,dU];obtain⟨base,cap,rfl⟩:∃base cap,vx=.slice base n cap:=by
  cases dw with
  |sl b o cap f dK he q1 q2=>exact⟨_,_,rfl⟩
  |nil he=>exact⟨_,_,rfl⟩
 have ez:cap=n:=by
  cases dw with
  |sl b o cap f dK he q1 q2=>exact he
  |nil he=>rfl
 subst ez;have tn:(l++l').length=(cap+m)* sz:=by rw[Tx,hl,eF,VU]
 by_cases hm:m=0
 ·subst hm;have sY:l'=[]:=by simpa using eF
  subst sY;refine HY hc ht iO hs eF (Tm _) ?_;refine aq (hN E V _ (Env.Le.refl E) rfl rfl hc ?_);rw[Vl,Tu];exact gF _ _ _ _ _ dw
 ·refine HX hc ht dw iO hs hl eF hb (by omega) λrr cs cap' hf bh hle aX=> ?_;obtain⟨bi,rq⟩:=hc.adP (el:=elem) hf aX hle;have uN:(cap+m)* sz<=cs.size:=by rw[aX];exact US _ hle
  refine aR.ghost (zJ (f:=(0,0)) (cs:=cs) (el:=elem) (p:=(·<(cap+m)* sz)) (by simp[View.upd]) (λo _=>hf.2 o)) ?_;have qi:=Ej (n:=s.H.length) (m:=s.H.length) (Tm _) (by simp[Env.tok,hc.n]) rq hc.n;refine aq (hN _ _ _ qi rfl rfl (bi.trim hc.au) (Jv (I:=(V.laid rr cs elem (·<(cap+m)* sz)).ab) (e:=.shut) (sz:=sz) (cs:=cs) rfl (bh.mono qi) tn uN (λo h=>G9 (by simpa using h)) hle trivial))
def AQ.sound{k:SQ}(h:AQ lv P s o k):∃av,dq lv P r o s av/\k av:=by
 unfold AQ at h;split at h
 ·rename_i c ho;split at h
  ·rename_i x aV;obtain⟨f,h1,hA⟩:=h.out;obtain⟨aG,h2,hB⟩:=hA.out;obtain⟨av,h3,h4⟩:=hB;refine⟨av,λE V a N Q hc aE bt hN=> ?_,h4⟩;have rF:=acA (lv:=lv) (P:=P) (r:=r) (o:=o) (Q:=Q) hN;refine⟨bt,?_⟩;unfold execOp;rw[ho];dsimp only;unfold resolve;rw[aV];dsimp only;have e:c.args.map a.eval=(c.args.toList.map a.eval).toArray:=(by apply Ws;simp);rw[e];exact(h3 E V (a.eval x) _ hc (ap.ev aE h1) (zB aE h2)).mono (λnx V' h=>rF.1 nx V' h) (λv V' h=>rF.2 v V' h)
  ·rename_i x name aV;obtain⟨f,h1,hA⟩:=h.out;obtain⟨aG,h2,hB⟩:=hA.out;obtain⟨av,h3,h4⟩:=hB;refine⟨av,λE V a N Q hc aE bt hN=> ?_,h4⟩;have rF:=acA (lv:=lv) (P:=P) (r:=r) (o:=o) (Q:=Q) hN;refine⟨bt,?_⟩;unfold execOp;rw[ho];dsimp only;unfold resolve;rw[aV];dsimp only;refine ay (aq ?_);have e:c.args.map a.eval=(c.args.toList.map a.eval).toArray:=(by apply Ws;simp);rw[e];exact(h3 E V (a.eval x) _ hc (ap.ev aE h1) (zB aE h2)).mono (λnx V' h=>rF.1 nx V' h) (λv V' h=>rF.2 v V' h)
  ·rename_i aV;split at h
   ·rename_i x y t t' ha ht;obtain⟨⟨elem,sz,z⟩,h1,hA⟩:=h.out;obtain⟨a,h2,hB⟩:=hA.out;obtain⟨b,h3,hC⟩:=hB.out;obtain⟨n,l,e,e1,e0,hD⟩:=Pc hC;subst e1 e0;obtain⟨⟨m,l'⟩,h4,h5,h6,h7,h8⟩:=hD.out;exact⟨_,apR ho aV (nk ha) (r_ ht) h1 h2 h3 h4 h5 h6 h7,h8⟩
   ·exact h.elim
  ·exact h.sound
 ·exact h.sound
end
section
variable {lv:Bool}{P:Tg}{o:U8}{T T':SH}{H:SA}{k:SQ}
def Ce:∀(l:List Ui),(∀x∈l,AS.ev ⟨T,H⟩ x=AS.ev ⟨T',H⟩ x)->fe ⟨T,H⟩ l=fe ⟨T',H⟩ l
 |[],_=>rfl
 |x::l,h=>by simp only[fe,h x (Ut ..),Ce l λy hy=>h y (T_ _ hy)]
def JQ:∀(l:List (Nat×Ui)),(∀x∈l,AS.ev ⟨T,H⟩ x.2=AS.ev ⟨T',H⟩ x.2)->jX ⟨T,H⟩ l=jX ⟨T',H⟩ l
 |[],_=>rfl
 |x::l,h=>by simp only[jX,h x (Ut ..),JQ l λy hy=>h y (T_ _ hy)]
def mapM_congr:∀(l:List Ui),(∀x∈l,AS.ev ⟨T,H⟩ x=AS.ev ⟨T',H⟩ x)->l.mapM (AS.ev ⟨T,H⟩)=l.mapM (AS.ev ⟨T',H⟩)
 |[],_=>rfl
 |x::l,h=>by simp only[UY,h x (Ut ..),mapM_congr l λy hy=>h y (T_ _ hy)]
def Je(x:Option Ui)(h:∀y,x=some y->AS.ev ⟨T,H⟩ y=AS.ev ⟨T',H⟩ y):AS.i_ ⟨T,H⟩ x=AS.i_ ⟨T',H⟩ x:=by
 cases x with
 |none=>rfl
 |some y=>simp only[AS.i_,h y rfl]
def aeF{op:Xc}{t:TypeId}{y:Ui}{a:AV}(h:AS.ev ⟨T,H⟩ y=AS.ev ⟨T',H⟩ y):iJ P ⟨T,H⟩ op t y a k=iJ P ⟨T',H⟩ op t y a k:=by
 unfold iJ;split<;>first|rfl|rw[h]
def lD.congr(h:∀x∈o.op.operands,AS.ev ⟨T,H⟩ x=AS.ev ⟨T',H⟩ x)(ha:lD P ⟨T,H⟩ o k):lD P ⟨T',H⟩ o k:=by
 unfold lD at ha⊢;generalize o.op=op at h ha⊢;cases op with
 |call c=>
  have cM:∀x∈c.args,AS.ev ⟨T,H⟩ x=AS.ev ⟨T',H⟩ x:=λx hx=>h x (by simp[Ur,Xo,hx]);dsimp only at ha⊢;split at ha
  ·obtain⟨x,h1,hA⟩:=ha.out;rw[h1,ao];obtain⟨t,h2,hB⟩:=hA.out;rw[h2,ao];rw[<- cM x (ZZ h1)];obtain⟨a,h3,hC⟩:=hB.out;rw[h3,ao];exact hC
  ·split at ha
   ·rename_i x y KN;have:=nk KN;rw[this]at cM;rw[<- cM x (by simp),<- cM y (by simp)];exact ha
   ·exact ha.elim
  ·split at ha
   ·rename_i x y KN;have:=nk KN;rw[this]at cM;rw[<- cM x (by simp),<- cM y (by simp)];exact ha
   ·exact ha.elim
  ·exact ha.elim
 |build t parts=>
  dsimp only at ha⊢;rw[<- JQ parts.toList λx hx=>h x.2 (by simp only[Ur,UC,Um];exact⟨x,hx,rfl⟩)];exact ha
 |buildSlice t n parts=>
  dsimp only at ha⊢;rw[<- JQ parts.toList λx hx=>h x.2 (by simp only[Ur,UC,Um];exact⟨x,hx,rfl⟩)];exact ha
 |makeFunc f first cT=>
  dsimp only at ha⊢;rw[<- mapM_congr first.toList λx hx=>h x (by simp[Ur];exact .inl (by simpa using hx)),<- mapM_congr cT.toList λx hx=>h x (by simp[Ur];exact .inr (by simpa using hx))];exact ha
 |slice t x lo hi mx=>
  dsimp only at ha⊢;rw[<- h x (by simp[Ur]),<- Je lo λy hy=>h y (by simp[Ur,hy]),<- Je hi λy hy=>h y (by simp[Ur,hy]),<- Je mx λy hy=>h y (by simp[Ur,hy])];exact ha
 |pick c a b=>dsimp only at ha⊢;rw[<- h c (by simp[Ur]),<- h a (by simp[Ur]),<- h b (by simp[Ur])];exact ha
 |binOp op t a b u=>
  dsimp only at ha⊢;rw[<- h a (by simp[Ur])];obtain⟨x,h1,hA⟩:=ha.out;rw[h1,ao];rw[<- aeF (h b (by simp[Ur]))];exact hA
 |indexAddr t a b=>dsimp only at ha⊢;rw[<- h a (by simp[Ur]),<- h b (by simp[Ur])];exact ha
 |index t a b=>dsimp only at ha⊢;rw[<- h a (by simp[Ur]),<- h b (by simp[Ur])];exact ha
 |move x=>dsimp only at ha⊢;rw[<- h x (by simp[Ur])];exact ha
 |assign x=>dsimp only at ha⊢;rw[<- h x (by simp[Ur])];exact ha
 |unOp op t x=>cases op<;>dsimp only at ha⊢<;>first|exact ha.elim|(rw[<- h x (by simp[Ur])];exact ha)
 |convert a b x=>dsimp only at ha⊢;rw[<- h x (by simp[Ur])];exact ha
 |lookup t m x ok=>dsimp only at ha⊢;rw[<- h m (by simp[Ur]),<- h x (by simp[Ur])];exact ha
 |extract x i=>dsimp only at ha⊢;rw[<- h x (by simp[Ur])];exact ha
 |nilCheck x=>dsimp only at ha⊢;rw[<- h x (by simp[Ur])];exact ha
 |makeInterface t x=>dsimp only at ha⊢;rw[<- h x (by simp[Ur])];exact ha
 |typeAssert x a b c=>dsimp only at ha⊢;rw[<- h x (by simp[Ur])];exact ha
 |fieldAddr t x f=>dsimp only at ha⊢;rw[<- h x (by simp[Ur])];exact ha
 |field t x f=>dsimp only at ha⊢;rw[<- h x (by simp[Ur])];exact ha
 |load t x=>dsimp only at ha⊢;rw[<- h x (by simp[Ur])];exact ha
 |entry x=>dsimp only at ha⊢;rw[<- h x (by simp[Ur])];exact ha
 |_=>exact ha.elim
def arQ(sz:Nat)(a:AV):AS.src ⟨T,H⟩ sz a=AS.src ⟨T',H⟩ sz a:=by cases a<;>rfl
def AQ.congr(h:∀x∈o.op.operands,AS.ev ⟨T,H⟩ x=AS.ev ⟨T',H⟩ x)(ha:AQ lv P ⟨T,H⟩ o k):AQ lv P ⟨T',H⟩ o k:=by
 unfold AQ at ha⊢;split at ha
 ·rename_i c ho;have cM:∀x∈c.args.toList,AS.ev ⟨T,H⟩ x=AS.ev ⟨T',H⟩ x:=λx hx=>h x (by rw[ho];simp[Ur,Xo];exact .inr (by simpa using hx));split at ha
  ·rename_i x aV;rw[<- h x (by rw[ho];simp[Ur,Xo,aV]),<- Ce _ cM];exact ha
  ·rename_i x name aV;rw[<- h x (by rw[ho];simp[Ur,Xo,aV]),<- Ce _ cM];exact ha
  ·split at ha
   ·rename_i x y t t' hx ht;rw[hx]at cM;rw[<- cM x (by simp),<- cM y (by simp)];simp only[arQ (T:=T) (T':=T')]at ha;exact ha
   ·exact ha.elim
  ·exact lD.congr h ha
 ·exact lD.congr h ha
end
def cY (ops:SK)(j:Nat):Option Nat:=(ops[j]?).bind (·.dst)
inductive Reach (ops:Array U8):Nat->Nat->Prop
 |JJ {i j:Nat} {o:U8} (ho:ops[i]?=some o) (hj:j∈cQ o):Reach ops i j
 |more {i k j:Nat} {o:U8} (ho:ops[i]?=some o) (hk:k∈cQ o) (h:Reach ops k j):Reach ops i j
def ue (acc:List (SE))(o:U8):List (SE):=acc++[(cQ o++(cQ o).flatMap λj=>acc.getD j []).eraseDups]
def Jk (ops:SK):List (SE):=ops.toList.foldl ue []
def PS(ops:SK):∀(l:List U8)(acc:List (SE))(i:Nat),acc.length=i->(∀k o,l[k]?=some o->ops[i+k]?=some o)->(∀a,a<acc.length->∀j∈acc.getD a [],Reach ops a j)->
  ∀a,∀j∈(l.foldl ue acc).getD a [],Reach ops a j
 |[],acc,i,_,_,h,a,j,hj=>by
  simp only[List.foldl_nil]at hj;by_cases ha:a<acc.length
  ·exact h a ha j hj
  ·rw[Se,Vx (by omega)]at hj;simp at hj
 |o::l,acc,i,hi,ho,h,a,j,hj=>by
  rw[VS]at hj;refine PS ops l (ue acc o) (i+1) (by simp[ue,hi]) (λk o' hk=>by have:=ho (k+1) o' (by simpa using hk);rwa[show i+(k+1)=i+1+k by omega]at this) (λa ha j hj=> ?_) a j hj;have Gq:ops[i]?=some o:=by have:=ho 0 o rfl;simpa using this
  have o_:∀a,a<acc.length->(ue acc o).getD a []=acc.getD a []:=λa ha=>by
   simp[ue,Se,Tw ha]
  by_cases gq:a<acc.length
  ·rw[o_ a gq]at hj;exact h a gq j hj
  ·have hae:a=acc.length:=(by simp[ue]at ha;omega);subst hae;have e:(ue acc o).getD acc.length []=(cQ o++(cQ o).flatMap λj=>acc.getD j []).eraseDups:=by
    simp[ue,Se]
   rw[e,List.mem_eraseDups,Tp]at hj;rw[hi];rcases hj with hj|hj
   ·exact .JJ Gq hj
   ·obtain⟨k,hk,hj⟩:=T4.1 hj;have C0:k<acc.length:=by
     apply Uj;intro hn;rw[Se,Vx (by omega)]at hj;simp at hj
    exact .more Gq hk (h k C0 j hj)
def zw (nt p:Nat)(ops:SK):Bool:=
 let cl:=Jk ops;decide (p<=ops.size)&&
 (Tt ops.size).all (λi=>match ops[i]?with
  |some o=>o.dst.all (·<nt)&& !mq o.op&&(cQ o).all (·<i)&&
   (if i<p then
    (Tt i).all (λj=>match o.dst,cY ops j with
     |some d,some d'=>d !=d'
     |_,_=>true)&&
    (o.op.operands.toList.all λx=>match x with
     |.tmp t=>(Tt p).all λj=>cY ops j !=some t||(cQ o).contains j
     |_=>true)&&
    (match o.guard with
     |some (j,_)=>(cQ o).contains j
     |none=>true)
   else(Tt i).all λj=>(cl.getD i []).contains j)
  |none=>true)
structure yW (nt p:Nat)(ops:Array U8):Prop where
 le:p<=ops.size
 dst:∀(i:Nat) o d,ops[i]?=some o->o.dst=some d->d<nt
 vS:∀(i:Nat) o,ops[i]?=some o->mq o.op=false
 low:∀(i:Nat) o,ops[i]?=some o->∀j∈cQ o,j<i
 dO:∀(i j:Nat) o d,j<i->i<p->ops[i]?=some o->o.dst=some d->cY ops j≠some d
 Nj:∀(i:Nat) o t j,i<p->ops[i]?=some o-> .tmp t∈o.op.operands->j<p->cY ops j=some t->j∈cQ o
 Cp:∀(i:Nat) o j w,i<p->ops[i]?=some o->o.guard=some (j,w)->j∈cQ o
 suf:∀(i j:Nat),p<=i->i<ops.size->j<i->Reach ops i j
def zw.out{nt p:Nat}{ops:SK}(h:zw nt p ops=true):yW nt p ops:=by
 unfold zw at h;simp only[Uk,decide_eq_true_eq]at h;obtain⟨hle,h⟩:=h;have key:∀(i:Nat) o,ops[i]?=some o->(o.dst.all (·<nt)=true/\mq o.op=false/\(∀j∈cQ o,j<i))/\
   (if i<p then
    (Tt i).all (λj=>match o.dst,cY ops j with
     |some d,some d'=>d !=d'
     |_,_=>true)&&
    (o.op.operands.toList.all λx=>match x with
     |.tmp t=>(Tt p).all λj=>cY ops j !=some t||(cQ o).contains j
     |_=>true)&&
    (match o.guard with
     |some (j,_)=>(cQ o).contains j
     |none=>true)
   else(Tt i).all λj=>((Jk ops).getD i []).contains j)=true:=λi o ho=>by
  have hi:i<ops.size:=(Tl.1 ho).1;have:=Uv.1 h i (by simpa using hi);rw[ho]at this;simp only[Uk,Uv,UK,decide_eq_true_eq]at this;exact⟨⟨this.1.1.1,this.1.1.2,this.1.2⟩,by simpa only[Uk,Uv]using this.2⟩
 refine⟨hle,λi o d ho hd=> ?_,λi o ho=>(key i o ho).1.2.1,λi o ho=>(key i o ho).1.2.2,λi j o d hj hp ho hd e=> ?_,λi o t j hp ho ht hj e=> ?_,λi o j w hp ho hg=> ?_,λi j hp hi hj=> ?_⟩
 ·have:=(key i o ho).1.1;rw[hd]at this;simpa using this
 ·have:=(key i o ho).2;rw[if_pos hp]at this;simp only[Uk,Uv]at this;have:=this.1.1 j (by simpa using hj);rw[hd,e]at this;simp at this
 ·have:=(key i o ho).2;rw[if_pos hp]at this;simp only[Uk,Uv]at this;have:=this.1.2 (.tmp t) (by simpa using ht);simp only[Uv]at this;have:=this j (by simpa using hj);rw[e]at this;simpa using this
 ·have:=(key i o ho).2;rw[if_pos hp]at this;simp only[Uk]at this;have:=this.2;rw[hg]at this;simpa using this
 ·have:=(key i ops[i] (Tf hi)).2;rw[if_neg (by omega)]at this;simp only[Uv]at this;have:=this j (by simpa using hj);refine PS ops ops.toList [] 0 rfl (λk o hk=>by simpa using hk) (by simp) i j ?_;simpa[Jk]using this
def QP{α β:Type}{f g:α->Option β}:∀{l:List α},(∀x∈l,f x=g x)->l.filterMap f=l.filterMap g
 |[],_=>rfl
 |x::l,h=>by
  have ih:=QP (l:=l) λy hy=>h y (T_ _ hy);simp only[List.filterMap_cons,h x (Ut ..),ih]
def kR (ops:SK)(f:Nat->AV)(o:U8):List (Nat×AV):=(cQ o).filterMap λj=>(cY ops j).map λd=>(d,f j)
def vw (lv:Bool)(P:Tg)(r:SL)(ops:SK)(T0:SH)(H:SA)(f:Nat->AV)(i:Nat)(o:U8):Prop:=
 match o.guard with
 |none=>dq lv P r o ⟨kR ops f o++T0,H⟩ (f i)
 |some (j,b9)=>∃d,cY ops j=some d/\((∃b,look (kR ops f o++T0) d=some (.val (.bool b))/\(b=b9->dq lv P r o ⟨kR ops f o++T0,H⟩ (f i))/\(b= !b9->f i=.val undef))\/(look (kR ops f o++T0) d=some (.val undef)/\f i=.val undef))
def AH(l m:SH)(t:Nat):look (l++m) t=(look l t).or (look m t):=by
 induction l with
 |nil=>rfl
 |cons x l ih=>
  obtain⟨k,a⟩:=x;simp only[WK,look];split
  ·rfl
  ·exact ih
def rO{l:SH}{t:Nat}{a:AV}(h:look l t=some a):(t,a)∈l:=by
 induction l with
 |nil=>cases h
 |cons x l ih=>
  obtain⟨k,b⟩:=x;simp only[look]at h;split at h
  ·rename_i e;subst e;cases h;exact Ut ..
  ·exact T_ _ (ih h)
def abu{l:SH}{t:Nat}(h:∀p∈l,p.1≠t):look l t=none:=by
 induction l with
 |nil=>rfl
 |cons x l ih=>
  obtain⟨k,b⟩:=x;simp only[look];rw[if_neg (h _ (Ut ..))];exact ih λp hp=>h p (T_ _ hp)
def an3{l:SH}{q:Nat->Bool}{t:Nat}:look (l.filter λp=>q p.1) t=if q t then look l t else none:=by
 induction l with
 |nil=>simp[look]
 |cons x l ih=>
  obtain⟨k,b⟩:=x;by_cases hk:q k=true
  ·rw[List.filter_cons_of_pos (by simpa using hk)];simp only[look];by_cases e:k=t
   ·subst e;simp[hk]
   ·simp[e,ih]
  ·rw[List.filter_cons_of_neg (by simpa using hk),ih];simp only[look];by_cases e:k=t
   ·subst e;simp[hk]
   ·simp[e]
section
variable {ops:SK}{f:Nat->AV}{p:Nat}
def an1{o:U8}{j t:Nat}(hj:j∈cQ o)(ht:cY ops j=some t)(yb:∀j'∈cQ o,cY ops j'=some t->j'=j):look (kR ops f o) t=some (f j):=by
 cases e:look (kR ops f o) t with
 |none=>
  exfalso;have hm:(t,f j)∈kR ops f o:=WG.2 ⟨j,hj,by rw[ht];rfl⟩;have:∀(l:SH),(t,f j)∈l->look l t≠none:=by
   intro l;induction l with
   |nil=>intro h;cases h
   |cons x l ih=>
    intro h;obtain⟨k,b⟩:=x;simp only[look];split
    ·simp
    ·rename_i aH;rcases Th.1 h with h|h
     ·cases h;exact absurd rfl aH
     ·exact ih h
  exact this _ hm e
 |some a=>
  obtain⟨j',iC,e'⟩:=WG.1 (rO e);obtain⟨d,hd,e'⟩:=Uq.1 e';cases e';rw[yb j' iC hd]
def an2{o:U8}{t:Nat}(h:∀j∈cQ o,cY ops j≠some t):look (kR ops f o) t=none:=by
 refine abu λx hx e=> ?_;obtain⟨j,hj,e'⟩:=WG.1 hx;obtain⟨d,hd,e'⟩:=Uq.1 e';cases e';exact h j hj (by rw[hd];exact congrArg some e)
end
section
variable {lv:Bool}{P:Tg}{r:SL}{s:AS}{ops:SK}{nt p:Nat}
def ua (s:AS)(ops:SK)(p:Nat):List (Nat×AV):=s.T.filter λx=>(Tt p).all λj=>cY ops j !=some x.1
def Hh(t:Nat):look (ua s ops p) t=if(Tt p).all (λj=>cY ops j !=some t)then look s.T t else none:=an3 (q:=λt=>(Tt p).all λj=>cY ops j !=some t)
structure oS (s:AS)(ops:Array U8)(fs:SC)(s':AS):Prop where
 H:s'.H=s.H
 new:∀j t,j<fs.length->cY ops j=some t->look s'.T t=fs[j]?
 old:∀t,(∀j,j<fs.length->cY ops j≠some t)->look s'.T t=look s.T t
def oS.put(au:yW nt p ops){fs:SC}{s':AS}(h:oS s ops fs s')(hp:fs.length<p){o:U8}(ho:ops[fs.length]?=some o)(av:AV):oS s ops (fs++[av]) (s'.put o.dst av):=by
 have hd:cY ops fs.length=o.dst:=by simp[cY,ho]
 refine⟨by rw[e_];exact h.H,λj t hj ht=> ?_,λt ht=> ?_⟩
 ·simp only[Tx,UV]at hj;by_cases Lq:j=fs.length
  ·subst Lq;rw[hd]at ht;rw[ht];simp[AS.put,look]
  ·have iC:j<fs.length:=(by omega);rw[Tw iC,<- h.new j t iC ht];cases sS:o.dst with
   |none=>rfl
   |some d=>
    have aH:d≠t:=λe=>au.dO fs.length j o d iC hp ho sS (by rw[e];exact ht);simp[AS.put,look,aH]
 ·have hold:=h.old t λj hj=>ht j (by simp;omega);rw[<- hold];cases sS:o.dst with
  |none=>rfl
  |some d=>
   have aH:d≠t:=λe=>ht fs.length (by simp) (by rw[hd,sS,e]);simp[AS.put,look,aH]
def oS.rN{fs:SC}{s':AS}(h:oS s ops fs s'){d:Nat}{a:AV}(hd:look s'.T d=some a):oS s ops fs ⟨(d,a)::s'.T,s'.H⟩:=by
 have e:∀t,look ((d,a)::s'.T) t=look s'.T t:=λt=>by
  simp only[look];split
  ·rename_i e;subst e;exact hd.symm
  ·rfl
 exact⟨h.H,λj t hj ht=>by rw[e];exact h.new j t hj ht,λt ht=>by rw[e];exact h.old t ht⟩
def oS.seen(au:yW nt p ops){fs gs:SC}{s':AS}(h:oS s ops fs s')(hp:fs.length<p){o:U8}(ho:ops[fs.length]?=some o){t:Nat}(ht:∀j,j<p->cY ops j=some t->j∈cQ o):
  look (kR ops (λj=>(fs++gs).getD j (.val undef)) o++ua s ops p) t=look s'.T t:=by
 have ii:=au.low fs.length o ho;have amA:∀j j',j<p->j'<p->cY ops j=some t->cY ops j'=some t->j'=j:=λj j' hj iC e e'=>by
  have get:∀i,i<p->∃o,ops[i]?=some o:=λi hi=>⟨_,Tf (Ub hi au.le)⟩;rcases YH j j' with hlt|hlt|hlt
  ·obtain⟨o',bf⟩:=get j' iC;exact absurd e (au.dO j' j o' t hlt iC bf (by simpa[cY,bf]using e'))
  ·exact hlt.symm
  ·obtain⟨o',bf⟩:=get j hj;exact absurd e' (au.dO j j' o' t hlt hj bf (by simpa[cY,bf]using e))
 rw[AH];by_cases hex:∃j,j<p/\cY ops j=some t
 ·obtain⟨j,hj,wn⟩:=hex;have iS:=ht j hj wn;have ff:=ii j iS;rw[an1 iS wn λj' iC e=>amA j j' hj (Xn (ii j' iC) hp) wn e];rw[h.new j t ff wn];simp[Se,Tw ff,Ts ff]
 ·have fi:∀j,j<p->cY ops j≠some t:=λj hj e=>hex ⟨j,hj,e⟩;rw[an2 λj hj=>fi j (Xn (ii j hj) hp),Option.none_or,Hh,if_pos (by simp only[Uv];intro j hj;simpa using fi j (by simpa using hj))];exact(h.old t λj hj=>fi j (by omega)).symm
def HQ(au:yW nt p ops){K:SV}:∀(n:Nat)(fs:SC)(s':AS),fs.length+n=p->oS s ops fs s'->nc lv P ops ((ops.toList.take p).drop fs.length) s' K->
  ∃gs,(fs++gs).length=p/\(∀i o,fs.length<=i->i<p->ops[i]?=some o->vw lv P r ops (ua s ops p) s.H (λj=>(fs++gs).getD j (.val undef)) i o)/\∃de,oS s ops (fs++gs) de/\K de
 |0,fs,s',hn,hr,h=>by
  have:(ops.toList.take p).drop fs.length=[]:=by
   apply UR;simp;omega
  rw[this]at h;exact⟨[],by simp;omega,λi o h1 h2=>absurd h2 (by omega),s',by simpa using hr,h⟩
 |n+1,fs,s',hn,hr,h=>by
  have hp:fs.length<p:=by omega
  have aX:fs.length<ops.size:=Ub hp au.le;have ho:ops[fs.length]?=some ops[fs.length]:=Tf aX;generalize LI:ops[fs.length]=o at ho;have hd:(ops.toList.take p).drop fs.length=o::(ops.toList.take p).drop (fs.length+1):=by
   rw[UW (by simp;omega)];simp[LI]
  rw[hd]at h;have alU:∀t,awx t∈o.op.operands->∀j,j<p->cY ops j=some t->j∈cQ o:=λt ht j hj e=>au.Nj fs.length o t j hp ho ht hj e;have cp:∀(s1:AS)(gs:SC),oS s ops fs s1->∀x∈o.op.operands,AS.ev s1 x=AS.ev ⟨kR ops (λj=>(fs++gs).getD j (.val undef)) o++ua s ops p,s.H⟩ x:=λs1 gs De x hx=>by
   cases x with
   |tmp t=>exact(De.seen au hp ho (alU t hx)).symm
   |_=>rfl
  have go:∀(s1:AS),oS s ops fs s1->(AQ lv P s1 o λav=>nc lv P ops ((ops.toList.take p).drop (fs.length+1)) (s1.put o.dst av) K)->
    ∃av gs,(fs++av::gs).length=p/\dq lv P r o ⟨kR ops (λj=>(fs++av::gs).getD j (.val undef)) o++ua s ops p,s.H⟩ av/\(∀i o,fs.length+1<=i->i<p->ops[i]?=some o->vw lv P r ops (ua s ops p) s.H (λj=>(fs++av::gs).getD j (.val undef)) i o)/\∃de,oS s ops (fs++av::gs) de/\K de:=λs1 De h1=>by
   obtain⟨av0,_,_⟩:=h1.sound (r:=r);have dA:s1=⟨s1.T,s.H⟩:=(by rw[<- De.H]);rw[dA]at h1;have h2:=AQ.congr (T':=kR ops (λj=>(fs++[]).getD j (.val undef)) o++ua s ops p) (λx hx=>by rw[<- dA];exact cp s1 [] De x hx) h1;obtain⟨av,hq,h3⟩:=h2.sound (r:=r);obtain⟨gs,g1,g2,de,g3,g4⟩:=HQ au n (fs++[av]) (s1.put o.dst av) (by simp;omega) (De.put au hp ho av) (by rw[<- dA]at h3;simpa using h3);have e:fs++[av]++gs=fs++av::gs:=(by simp);rw[e]at g1 g2 g3;refine⟨av,gs,g1,?_,λi o hi=>g2 i o (by simpa using hi),de,g3,g4⟩;have ed:kR ops (λj=>(fs++av::gs).getD j (.val undef)) o=kR ops (λj=>(fs++[]).getD j (.val undef)) o:=by
    unfold kR;apply QP;intro j hj;have ff:=au.low fs.length o ho j hj;simp[Se,Tw ff]
   rw[ed];exact hq
  simp only[nc]at h;split at h
  ·rename_i hg;obtain⟨av,gs,g1,g2,g3,g4⟩:=go s' hr h;refine⟨av::gs,g1,λi o' hi oB bf=> ?_,g4⟩;by_cases dx:i=fs.length
   ·subst dx;rw[ho]at bf;cases bf;unfold vw;rw[hg];simpa[Se]using g2
   ·exact g3 i o' (by omega) oB bf
  ·rename_i j b9 hg;obtain⟨d,gr,hA⟩:=h.out;obtain⟨a,fh,hB⟩:=hA.out;have iS:=au.Cp fs.length o j b9 hp ho hg;have ff:=au.low fs.length o ho j iS;have L3:∀gs,look (kR ops (λj=>(fs++gs).getD j (.val undef)) o++ua s ops p) d=some a:=λgs=>by
    rw[hr.seen au hp ho λj' iC e=> ?_]
    ·exact fh
    ·have get:∀i,i<p->∃o,ops[i]?=some o:=λi hi=>⟨_,Tf (Ub hi au.le)⟩;rcases YH j j' with hlt|hlt|hlt
     ·obtain⟨o',bf⟩:=get j' iC;exact absurd gr (au.dO j' j o' d hlt iC bf (by simpa[cY,bf]using e))
     ·rw[<- hlt];exact iS
     ·obtain⟨o',bf⟩:=get j (by omega);exact absurd e (au.dO j j' o' d hlt (by omega) bf (by simpa[cY,bf]using gr))
   rcases hB with⟨b,e1,hC,hD⟩|⟨e1,hZ⟩
   rotate_left
   ·subst e1;obtain⟨gs,g1,g2,de,g3,g4⟩:=HQ au n (fs++[.val undef]) _ (by simp;omega) (hr.put au hp ho (.val undef)) (by simpa using hZ);have e:fs++[.val undef]++gs=fs++ .val undef::gs:=(by simp);rw[e]at g1 g2 g3;refine⟨.val undef::gs,g1,λi o' hi oB bf=> ?_,de,g3,g4⟩;by_cases dx:i=fs.length
    ·subst dx;rw[ho]at bf;cases bf;unfold vw;rw[hg];exact⟨d,gr,.inr ⟨L3 _,by simp[Se]⟩⟩
    ·exact g2 i o' (by simp;omega) oB bf
   subst e1;by_cases hb:b=b9
   ·subst hb;obtain⟨av,gs,g1,g2,g3,g4⟩:=go _ (hr.rN fh) (hC rfl);refine⟨av::gs,g1,λi o' hi oB bf=> ?_,g4⟩;by_cases dx:i=fs.length
    ·subst dx;rw[ho]at bf;cases bf;unfold vw;rw[hg];refine⟨d,gr,.inl ⟨b,L3 _,λ_=>by simpa[Se]using g2,λe=>by cases b<;>cases e⟩⟩
    ·exact g3 i o' (by omega) oB bf
   ·have dj:b= !b9:=(by cases b<;>cases b9<;>simp_all);subst dj;have h3:=hD rfl;obtain⟨gs,g1,g2,de,g3,g4⟩:=HQ au n (fs++[.val undef]) _ (by simp;omega) ((hr.rN fh).put au hp ho (.val undef)) (by simpa using h3);have e:fs++[.val undef]++gs=fs++ .val undef::gs:=(by simp);rw[e]at g1 g2 g3;refine⟨.val undef::gs,g1,λi o' hi oB bf=> ?_,de,g3,g4⟩;by_cases dx:i=fs.length
    ·subst dx;rw[ho]at bf;cases bf;unfold vw;rw[hg];exact⟨d,gr,.inl ⟨!b9,L3 _,λe=>absurd e hb,λ_=>by simp[Se]⟩⟩
    ·exact g2 i o' (by simp;omega) oB bf
structure IK (E:Env)(V:View)(ops:Array U8)(T0:List (Nat×AV))(H:SA)(f:Nat->AV)(X:SE)(a:Act)(nt:Nat):Prop where
 br:Conc E V H
 base:cm E T0 a.tmps
 done:∀i∈X,∀d,cY ops i=some d->ap E (f i) (a.tmps.getD d undef)
 size:a.tmps.size=nt
def A2{X:SE}(hX:∀i∈X,∀o,ops[i]?=some o->∀j∈cQ o,j∈X){i j:Nat}(h:Reach ops i j):(∀o,ops[i]?=some o->∀k∈cQ o,k∈X)->j∈X:=by
 induction h with
 |JJ ho hj=>intro hd;exact hd _ ho _ hj
 |more ho hk _ ih=>intro hd;exact ih (hX _ (hd _ ho _ hk))
def are(au:yW nt p ops){X l:SE}(hs:l_ ops X l):∀q,p<=q->q<=ops.size->(∀i,i∈X<->i<q)->(∀i∈X,∀o,ops[i]?=some o->∀j∈cQ o,j∈X)->l=UZ q (ops.size-q):=by
 induction hs with
 |nil X h=>
  intro q hp hq hX _;have:ops.size<=q:=by
   apply Uj;intro hn;have:=(hX q).1 (h q (by omega));omega
  have:ops.size-q=0:=by omega
  rw[this];rfl
 |cons o ho hn hd _ ih=>
  rename_i X i l _;intro q hp hq hX hc;have hi:i<ops.size:=(Tl.1 ho).1;have hiq:q<=i:=by
   apply Uj;intro h;exact hn ((hX i).2 (by omega))
  have hqi:i=q:=by
   apply Uj;intro aH;have:=A2 hc (au.suf i q (by omega) hi (by omega)) (λo' bf k hk=>by rw[ho]at bf;cases bf;exact hd k hk);have:=(hX q).1 this;omega
  subst hqi;have e:ops.size-i=(ops.size-(i+1))+1:=by omega
  rw[e,WF];congr 1;refine ih (i+1) (by omega) (by omega) (λk=> ?_) (λk hk o' bf j hj=> ?_)
  ·simp only[Th,hX];omega
  ·rcases Th.1 hk with rfl|hk
   ·rw[ho]at bf;cases bf;exact T_ _ (hd j hj)
   ·exact T_ _ (hc k hk o' bf j hj)
def ahI{T0:SH}{H:SA}{f:Nat->AV}(au:yW nt p ops)(akM:∀j,j<p->∀d,cY ops j=some d->look T0 d=none)(az:∀(i:Nat) o,i<p->ops[i]?=some o->vw lv P r ops T0 H f i o){X l:SE}(hs:l_ ops X l):
  (∀i∈X,i<p)->(∀i∈X,∀o,ops[i]?=some o->∀j∈cQ o,j∈X)->∀(E:Env)(V:View)(a:Act)(Q:SJ),IK E V ops T0 H f X a nt->
   (∀E' V' a' X',Kept E E' V V' a a'->IK E' V' ops T0 H f X' a' nt->(∀i,i<p->i∈X')->di lv P r ops Q (UZ p (ops.size-p)) a' V')->di lv P r ops Q l a V:=by
 have full:∀X:SE,(∀i∈X,i<p)->(∀i,i<p->i∈X)->∀i,i∈X<->i<p:=λX h1 h2 i=>⟨h1 i,h2 i⟩;induction hs with
 |nil X h=>
  intro hX hc E V a Q ak hQ;have gU:p=ops.size:=by
   apply Uj;intro aH;have:=hX p (h p (by have:=au.le;omega));omega
  have:=hQ E V a X (Kept.refl E V a) ak (λi hi=>h i (by omega));rw[gU,WL]at this;exact this
 |cons o ho hn hd kE ih=>
  rename_i X i l;intro hX hc E V a Q ak hQ;have hi:i<ops.size:=(Tl.1 ho).1;by_cases oB:i<p
  ·simp only[di,ho];have oy:∀k∈i::X,k<p:=λk hk=>(Th.1 hk).elim (λe=>by rw[e];exact oB) (hX k);have bi:∀k∈i::X,∀o',ops[k]?=some o'->∀j∈cQ o',j∈i::X:=λk hk o' bf j hj=>by
    rcases Th.1 hk with rfl|hk
    ·rw[ho]at bf;cases bf;exact T_ _ (hd j hj)
    ·exact T_ _ (hc k hk o' bf j hj)
   have tok:cm E (kR ops f o++T0) a.tmps:=by
    intro t av e;rw[AH]at e;cases hl:look (kR ops f o) t with
    |none=>rw[hl]at e;exact ak.base t av e
    |some x=>
     rw[hl]at e;cases e;obtain⟨j,hj,e⟩:=WG.1 (rO hl);obtain⟨d,cF,e⟩:=Uq.1 e;cases e;obtain⟨oj,kD,jd⟩:=Uc.1 cF;exact⟨by rw[ak.size];exact au.dst j oj _ kD jd,ak.done j (hd j hj) _ cF⟩
   have sS:cY ops i=o.dst:=(by simp[cY,ho]);have put:∀{E' V'}(v:T5),E.Le E'->Conc E' V' H->ap E' (f i) v->IK E' V' ops T0 H f (i::X) (a.put o.dst v) nt:=λ{E' V'} v hle cx hv=>by
    cases dl:o.dst with
    |none=>
     refine⟨cx,ak.base.mono hle,λk hk d dP=> ?_,ak.size⟩;rcases Th.1 hk with rfl|hk
     ·rw[sS,dl]at dP;cases dP
     ·exact(ak.done k hk d dP).mono hle
    |some d0=>
     have hlt:d0<a.tmps.size:=(by rw[ak.size];exact au.dst i o d0 ho dl);refine⟨cx,λt av e=> ?_,λk hk d dP=> ?_,by simp[Y6,ak.size]⟩
     ·have aH:d0≠t:=λe'=>(by rw[<- e',akM i oB d0 (by rw[sS,dl])]at e;cases e);have:=ak.base.mono hle t av e;exact⟨by simpa[Y6]using this.1,by simpa[Y6,Td,Tq aH]using this.2⟩
     ·by_cases rn:k=i
      ·subst rn;rw[sS,dl]at dP;cases dP;simpa[Y6,Td,T8 hlt]using hv
      ·have aI:k∈X:=(Th.1 hk).resolve_left rn;have aH:d0≠d:=λe'=>by
        subst e';have hkp:=hX k aI;have get:∀i,i<p->∃o,ops[i]?=some o:=λi hi=>⟨_,Tf (Ub hi au.le)⟩;rcases YH k i with hlt|hlt|hlt
        ·exact au.dO i k o d0 hlt oB ho dl dP
        ·exact rn hlt
        ·obtain⟨o',bf⟩:=get k hkp;exact au.dO k i o' d0 hlt hkp bf (by simpa[cY,bf]using dP) (by rw[sS,dl])
       have:=(ak.done k aI d dP).mono hle;simpa[Y6,Td,Tq aH]using this
   have go:dq lv P r o ⟨kR ops f o++T0,H⟩ (f i)->xa lv P r o a V (di lv P r ops Q l) Q:=λhq=>
    hq E V a _ Q ak.br tok (.inr (au.vS i o ho)) λE' V' v hle cg eX cx hv=>
     ih oy bi E' V' (a.put o.dst v) Q (put v hle cx hv) λbS aW cu mH hk db fI=>
      hQ bS aW cu mH ⟨hle.trans hk.le,hk.size.trans (dY _ _ _),hk.defers.trans (put_defers _ _ _),hk.role.trans cg,hk.deaf.trans eX⟩ db fI
   have Ac:=az i o oB ho;unfold vw at Ac;split at Ac
   ·rename_i CW;have hw:Ug o (yielded ops a.tmps)=true:=(by unfold Ug;rw[CW]);rw[if_pos hw];exact .inl (go Ac)
   ·rename_i j b9 CW;obtain⟨d,gr,Ac⟩:=Ac;rcases Ac with⟨b,bB,h1,h2⟩|⟨bB,hu⟩
    rotate_left
    ·obtain⟨hlt,hv⟩:=tok d _ bB;have hy:yielded ops a.tmps j≠some b9:=by
      obtain⟨oj,kD,jd⟩:=Uc.1 gr;generalize hx:a.tmps.getD d undef=x at hv;cases hv;rw[Td,Tf hlt]at hx;simp only[T9]at hx;simp[yielded,kD,jd,Tf hlt,hx,undef]
     have hw:¬Ug o (yielded ops a.tmps)=true:=by
      unfold Ug;rw[CW];intro h;exact hy (by simpa using h)
     rw[if_neg hw];exact ih oy bi E V (a.put o.dst undef) Q (put undef (Env.Le.refl E) ak.br (by rw[hu];exact .val _)) λbS aW cu mH hk db fI=>
      hQ bS aW cu mH ⟨hk.le,hk.size.trans (dY _ _ _),hk.defers.trans (put_defers _ _ _),hk.role,hk.deaf⟩ db fI
    obtain⟨hlt,hv⟩:=tok d _ bB;have hy:yielded ops a.tmps j=some b:=by
     obtain⟨oj,kD,jd⟩:=Uc.1 gr;generalize hx:a.tmps.getD d undef=x at hv;cases hv;rw[Td,Tf hlt]at hx;simp only[T9]at hx;simp[yielded,kD,jd,Tf hlt,hx]
    by_cases hb:b=b9
    ·have hw:Ug o (yielded ops a.tmps)=true:=(by unfold Ug;rw[CW];simp[hy,hb]);rw[if_pos hw];exact .inl (go (h1 hb))
    ·have hw:¬Ug o (yielded ops a.tmps)=true:=(by unfold Ug;rw[CW];simp[hy,hb]);rw[if_neg hw];have hu:=h2 (by cases b<;>cases b9<;>simp_all);exact ih oy bi E V (a.put o.dst undef) Q (put undef (Env.Le.refl E) ak.br (by rw[hu];exact .val _)) λbS aW cu mH hk db fI=>
      hQ bS aW cu mH ⟨hk.le,hk.size.trans (dY _ _ _),hk.defers.trans (put_defers _ _ _),hk.role,hk.deaf⟩ db fI
  ·have fI:∀k,k<p->k∈X:=λk hk=>A2 hc (au.suf i k (by omega) hi (by omega)) (λo' bf j hj=>by rw[ho]at bf;cases bf;exact hd j hj);have hl:=are au (.cons o ho hn hd kE) p (Tm _) au.le (full X hX fI) hc;rw[hl];exact hQ E V a X (Kept.refl E V a) ak fI
def af5{id:Nat}{Φ:SI}(hm:P.follows .mixedOrders=true)(p:Nat)(au:zw nt p ops=true)(h:nc lv P ops (ops.toList.take p) s (λs'=>iy lv P ops (ops.toList.drop p) s' (Φ .normal) (λpv s=>Φ (.panic pv) s))):aZ lv P r nt (.region id ops true) s Φ:=by
 intro E V a Q ak hQ;have au:=zw.out au;obtain⟨gs,g1,g2,de,g3,g4⟩:=HQ (lv:=lv) (r:=r) au p [] s (by simp) ⟨rfl,by simp,by simp⟩ (by simpa using h);simp only[Vo]at g1 g2 g3;refine Ox λt=> ?_;rw[show WT (P.follows .mixedOrders) ops t=Vu .any ops ops.size t (UI ops.size false) [] by unfold WT;rw[hm];simp[ab']];have hs:=abm (ops:=ops) (λi o ho j hj=>au.low i o ho j hj) ops.size t (UI ops.size false) [] ⟨by simp,λi hi=>by simp[hi]⟩ (Vb Z4 (by simp));refine ahI (T0:=ua s ops p) (H:=s.H) au (λj hj d hd=> ?_) (λi o hi ho=>g2 i o (by simp) hi ho) hs (by simp) (by simp) E V a Q ⟨ak.br,λt av e=> ?_,by simp,ak.size⟩ λE' V' a' X' hk aU fI=> ?_
 ·rw[Hh,if_neg];simp only[Uv];intro h;have:=h j (by simpa using hj);rw[hd]at this;simp at this
 ·rw[Hh]at e;split at e
  ·exact ak.tok t av e
  ·cases e
 ·refine AR (Φ:=Φ) (λo ho d e=> ?_) (λo ho=> .inr ?_) (ops.size-p) p de (by have:=au.le;omega) g4 E' V' a' Q ⟨by rw[g3.H];exact aU.br,λt av e=> ?_,aU.size⟩ (λae e bS aW cu s3 aI qa he hΦ=>hQ ae e bS aW cu s3 (hk.trans aI) qa he hΦ)
  ·obtain⟨i,hi⟩:=ZE.1 ho;exact au.dst i o d hi e
  ·obtain⟨i,hi⟩:=ZE.1 ho;exact au.vS i o hi
  ·by_cases hex:∃j,j<p/\cY ops j=some t
   ·obtain⟨j,hj,wn⟩:=hex;rw[g3.new j t (by omega) wn]at e;obtain⟨oj,kD,jd⟩:=Uc.1 wn;refine⟨by rw[aU.size];exact au.dst j oj t kD jd,?_⟩;have:=aU.done j (fI j hj) t wn;simpa[Se,e]using this
   ·have fi:∀j,j<p->cY ops j≠some t:=λj hj e=>hex ⟨j,hj,e⟩;rw[g3.old t λj hj=>fi j (by omega)]at e;refine aU.base t av ?_;rw[Hh,if_pos (by simp only[Uv];intro j hj;simpa using fi j (by simpa using hj))];exact e
end
def sk (T base Vn:SH):Prop:=T.drop (T.length-base.length)=base/\((T.take (T.length-base.length)).all λp=>(Vn.any λq=>q.1==p.1)|| !(base.any λq=>q.1==p.1))=true
def afw{l:SH}{t:Nat}{a:AV}(h:look l t=some a):(l.any λq=>q.1==t)=true:=Vp.2 ⟨_,rO h,by simp⟩
def abt{l:SH}{t:Nat}(h:(l.any λq=>q.1==t)=true):∃a,look l t=some a:=by
 induction l with
 |nil=>cases h
 |cons x l ih=>
  obtain⟨k,b⟩:=x;simp only[look];split
  ·exact⟨b,rfl⟩
  ·rename_i aH;refine ih ?_;simpa[ZT,aH]using h
def sk.look{T base Vn:SH}(h:sk T base Vn){t:Nat}{a:AV}(hb:look base t=some a)(hv:look Vn t=none):look T t=some a:=by
 obtain⟨h1,h2⟩:=h;have e:T=T.take (T.length-base.length)++base:=by
  have:=(WO (T.length-base.length) T).symm;rwa[h1]at this
 rw[e,AH];cases hl:Gg.look (T.take (T.length-base.length)) t with
 |none=>exact hb
 |some x=>
  exfalso;have:=Uv.1 h2 _ (rO hl);simp only[avO,UK]at this;rcases this with this|this
  ·obtain⟨y,hy⟩:=abt this;rw[hv]at hy;cases hy
  ·rw[afw hb]at this;cases this
def tX (base Vi Vn:SH)(Hn:SA)(s':AS):Prop:=
 sk s'.T (Vi++base) Vn/\(∀p∈Vn,∃b,look s'.T p.1=some b/\Wk b p.2)/\∃G,s'.H=Hn++G/\(G=[]\/(bO Hn/\∀p∈Vn,Lt Hn.length p.2))
section
variable {lv:Bool}{P:Tg}{r:SL}{s:AS}
def zi{nt:Nat}{α:Type}{lt:α->α->Prop}(wf:WellFounded lt){c:UX}{Φ:SI}(V:α->SH)(Hf:α->SA)(ok:α->Prop)(m0:α)
  (CZ:∀m m',(V m).map (·.1)=(V m').map (·.1)) (iM:∀p∈V m0,∃b,look s.T p.1=some b/\Wk b p.2) (Cv:Hf m0=s.H) (hl:∀m,ok m->(Hf m).length=s.H.length) (hm:ok m0)
  (h:bO s.H->(∀t a,look s.T t=some a->Lt s.H.length a)->∀m,ok m->∀R:SV,(∀s',(∃m',lt m' m/\ok m'/\tX s.T (V m) (V m') (Hf m') s')->R s')->aZ lv P r nt c ⟨V m++s.T,Hf m⟩ (an.then R Φ)):aZ lv P r nt (.loop c) s Φ:=by
 have same:∀m m' t,look (V m) t=none->look (V m') t=none:=λm m' t h=>abu λp hp e=>by
  have h1:p.1∈(V m').map (·.1):=Um.2 ⟨p,hp,rfl⟩;rw[CZ m' m]at h1;obtain⟨q,hq,e'⟩:=Um.1 h1;have h2:((V m).any λx=>x.1==t)=true:=Vp.2 ⟨q,hq,by simp[e',e]⟩;obtain⟨a,ha⟩:=abt h2;rw[h]at ha;cases ha
 intro E V0 a Q ak hQ;have hlt:∀t a,look s.T t=some a->Lt s.H.length a:=λt x e=>by rw[<- ak.br.n];exact(ak.tok t x e).2.lt
 have h0:s.Sub ⟨V m0++s.T,Hf m0⟩:=⟨λt x e=>by
  rw[AH]at e;cases hl:look (V m0) t with
  |none=>rw[hl]at e;exact⟨x,e,Wk.refl x⟩
  |some y=>rw[hl]at e;cases e;exact iM (t,x) (rO hl),Cv.symm⟩
 refine af8 wf (s:=s) (λm=>⟨V m++s.T,Hf m⟩) ok m0 h0 hm (λm au=>by rw[hl m au];exact Tm _) (λm au=> ?_) E V0 a Q ak hQ;refine(h ak.br.au hlt m au _ λ_ h=>h).mono λe s' hΦ=> ?_;cases e with
 |normal=>
  obtain⟨m',q1,q2,hk,hv,G,hG,wi⟩:=hΦ;have tok:∀t x,look (V m'++s.T) t=some x->∃b,look s'.T t=some b/\Wk b x/\(look (V m') t=some x\/look s.T t=some x):=λt x e=>by
   rw[AH]at e;cases hl:look (V m') t with
   |none=>
    rw[hl]at e;have hb:look (V m++s.T) t=some x:=(by rw[AH,same m' m t hl];exact e);exact⟨x,hk.look hb hl,Wk.refl x,.inr e⟩
   |some y=>
    rw[hl]at e;cases e;obtain⟨b,h1,h2⟩:=hv (t,x) (rO hl);exact⟨b,h1,h2,.inl rfl⟩
  refine⟨m',q1,q2,?_⟩;rcases wi with rfl|⟨po,alC⟩
  ·exact .inl ⟨λt x e=>by obtain⟨b,h1,h2,_⟩:=tok t x e;exact⟨b,h1,h2⟩,by rw[hG,Tu]⟩
  ·refine .inr ⟨λt x e=> ?_,⟨G,hG⟩,po⟩;obtain⟨b,h1,h2,h3⟩:=tok t x e;refine⟨b,h1,h2,?_⟩;rcases h3 with h3|h3
   ·exact alC (t,x) (rO h3)
   ·show Lt (Hf m').length x;rw[hl m' q2];exact hlt t x h3
 |_=>exact hΦ
def fS{nt:Nat}{c:UX}{Φ:SI}(n:Nat)(V:Nat->SH)(Hf:Nat->SA)(ok:S7)
  (CZ:∀m m',(V m).map (·.1)=(V m').map (·.1)) (iM:∀p∈V 0,∃b,look s.T p.1=some b/\Wk b p.2) (Cv:Hf 0=s.H) (hl:∀m,m<=n->ok m->(Hf m).length=s.H.length) (hm:ok 0)
  (h:bO s.H->(∀t a,look s.T t=some a->Lt s.H.length a)->∀m,m<=n->ok m->∀R:SV,(∀s',(m<n/\ok (m+1)/\tX s.T (V m) (V (m+1)) (Hf (m+1)) s')->R s')->aZ lv P r nt c ⟨V m++s.T,Hf m⟩ (an.then R Φ)):aZ lv P r nt (.loop c) s Φ:=by
 refine zi (measure λi=>n-i).wf V Hf (λi=>i<=n/\ok i) 0 CZ iM Cv (λm h=>hl m h.1 h.2) ⟨Z1 _,hm⟩ (λh1 h2 m au R hR=> ?_);exact h h1 h2 m au.1 au.2 R λs' ⟨q1,q2,q3⟩=>hR s' ⟨m+1,(by show n-(m+1)<n-m;omega),⟨q1,q2⟩,q3⟩
end
def qA{T base Vn:SH}(h1:T.drop (T.length-base.length)=base)(h2:((T.take (T.length-base.length)).all λp=>(Vn.any λq=>q.1==p.1)|| !(base.any λq=>q.1==p.1))=true):sk T base Vn:=⟨h1,h2⟩
def gQ{H L:SA}{x:T5}{k:SF}(hH:bO H)(h:k (.val x) H):bY H.length (H++L) (.val x) k:=iK (Wk.refl _) rfl (Tm _) hH (.val x) h
def eV{H L:SA}{a b:AV}{k:SF}(hH:bO H)(hw:Wk a b)(hl:Lt H.length b)(h:k b H):bY H.length (H++L) a k:=iK hw rfl (Tm _) hH hl h
def aa.cellsOf:aa->Option (SC)
 |.cells l _|.part _ l _|.own _ l _=>some l
 |_=>none
def ag6(l:SC)(e:TypeId):aa.cellsOf (.cells l e)=some l:=rfl
def ag8(p:Nat)(l:SC)(e:TypeId):aa.cellsOf (.part p l e)=some l:=rfl
def aa.rowOf:aa->Option (SC)
 |.cells l _|.part _ l _|.own _ l _=>some l
 |_=>none
def aqS(l:SC)(e:TypeId):aa.rowOf (.cells l e)=some l:=rfl
def ag7(p:Nat)(l:SC)(e:TypeId):aa.cellsOf (.own p l e)=some l:=rfl
def aqT(p:Nat)(l:SC)(e:TypeId):aa.rowOf (.own p l e)=some l:=rfl
def aqU(p:Nat)(l:SC)(e:TypeId):aa.rowOf (.part p l e)=some l:=rfl
def af2(T:SH)(H:SA)(i off:Nat):AS.at ⟨T,H⟩ (.op i off)=((H[i]?).bind aa.cellsOf).map λl=>l.drop off:=by
 simp only[AS.at];cases H[i]?with
 |none=>rfl
 |some x=>cases x<;>rfl
def apn(k:UN)(n:Int):AV.parts (.val (.int k n))=some [.val (.int k n)]:=rfl
def apj(b:Bool):AV.parts (.val (.bool b))=some [.val (.bool b)]:=rfl
def apy(b:ByteArray):AV.parts (.val (.string b))=some [.val (.string b)]:=rfl
def apv(b:TA):AV.parts (.val (.pointer b))=some [.val (.pointer b)]:=rfl
def apr:AV.parts (.val .nilFunc)=some [.val .nilFunc]:=rfl
def aps:AV.parts (.val .nilIface)=some [.val .nilIface]:=rfl
def apo(r:SL):AV.parts (.val (.map r))=some [.val (.map r)]:=rfl
def api(l:SC):AV.parts (.agg l)=some l:=rfl
def apx(n:Nat)(l:SC)(e:End):AV.parts (.sl n l e)=some [.sl n l e]:=rfl
def anH(n:Nat)(l:SC)(e:End):AV.len (.sl n l e)=some n:=by rw[AV.len]
def anG(i o n c:Nat):AV.len (.bI i o n c)=some n:=by rw[AV.len]
attribute [seval] anH anG
def apu(i o n c:Nat):AV.parts (.bI i o n c)=some [.bI i o n c]:=rfl
def apw(l:SC):AV.parts (.rp l)=some [.rp l]:=rfl
def apt(i o:Nat):AV.parts (.op i o)=some [.op i o]:=rfl
def apl(f:Fn)(l m:SC):AV.parts (.fn f l m)=some [.fn f l m]:=rfl
def apm(t:TypeId)(a:AV):AV.parts (.bR t a)=some [.bR t a]:=rfl
def apq(i:Nat):AV.parts (.mp i)=some [.mp i]:=rfl
def anq(k:UN)(n:Int):AV.leaf (.val (.int k n))=true:=rfl
def anm(b:Bool):AV.leaf (.val (.bool b))=true:=rfl
def anC(b:ByteArray):AV.leaf (.val (.string b))=true:=rfl
def anz(b:TA):AV.leaf (.val (.pointer b))=true:=rfl
def ant:AV.leaf (.val .nilFunc)=true:=rfl
def anu:AV.leaf (.val .nilIface)=true:=rfl
def anr(r:SL):AV.leaf (.val (.map r))=true:=rfl
def anB(n:Nat)(l:SC)(e:End):AV.leaf (.sl n l e)=true:=rfl
def anx(i o n c:Nat):AV.leaf (.bI i o n c)=true:=rfl
def anA(l:SC):AV.leaf (.rp l)=true:=rfl
def anw(i o:Nat):AV.leaf (.op i o)=true:=rfl
def ano(f:Fn)(l m:SC):AV.leaf (.fn f l m)=true:=rfl
def anp(t:TypeId)(a:AV):AV.leaf (.bR t a)=true:=rfl
def ans(i:Nat):AV.leaf (.mp i)=true:=rfl
def aoQ(k:UN)(n:Int):AV.pD (.int k n)=.val (.int k n):=rfl
def aoN(b:Bool):AV.pD (.bool b)=.val (.bool b):=rfl
def aoT:AV.pD (.slice none 0 0)=.sl 0 [] .exact:=rfl
def aoO:AV.pD .nilFunc=.val .nilFunc:=rfl
def aoP:AV.pD .nilIface=.val .nilIface:=rfl
def aoS(a:TA):AV.pD (.pointer a)=.val (.pointer a):=rfl
def aoR(a:SL):AV.pD (.map a)=.val (.map a):=rfl
def atW(l:S5):l7 (.agg l.toArray)=l.map AV.pD:=by simp[l7,avI]
def at1(k:UN)(n:Int):l7 (.int k n)=[.val (.int k n)]:=rfl
def atX(b:Bool):l7 (.bool b)=[.val (.bool b)]:=rfl
def at5:l7 (.slice none 0 0)=[.sl 0 [] .exact]:=rfl
def atZ:l7 .nilFunc=[.val .nilFunc]:=rfl
def at0:l7 .nilIface=[.val .nilIface]:=rfl
def at4(a:TA):l7 (.pointer a)=[.val (.pointer a)]:=rfl
def at3(a:SL):l7 (.map a)=[.val (.map a)]:=rfl
def ain(s:AS):jX s []=some []:=rfl
def aim(s:AS)(i:Nat)(x:Ui)(l:List (Nat×Ui)):jX s ((i,x)::l)=(s.ev x).bind λa=>(jX s l).map λaG=>(i,a)::aG:=by
 simp only[jX];cases s.ev x with
 |none=>rfl
 |some a=>cases jX s l<;>rfl
def ajH(p:Nat->S8)(c:SC):oi p c []=some c:=rfl
def ajG(p:Nat->S8)(c:SC)(i:Nat)(a:AV)(r:SH):oi p c ((i,a)::r)=(p i).bind λx=>(a.parts).bind λlp=>if lp.length≠x.2\/x.1+lp.length>c.length then none else oi p (iw c x.1 lp) r:=by
 simp only[oi];cases p i with
 |none=>rfl
 |some x=>cases a.parts<;>rfl
def apG(l:List (Nat×Nat))(i:Nat):gO.at (.fields l) i=l[i]?:=rfl
def apF(sz i:Nat):gO.at (.elems sz) i=some (i* sz,sz):=rfl
def atU(z:T5):fO z 0=[]:=rfl
def arS(s:AS)(sz m:Nat)(l:SC)(e:End):s.src sz (.sl m l e)=some (m,l.take (m* sz)):=rfl
def arR(T:SH)(H:SA)(sz i off m c:Nat):AS.src ⟨T,H⟩ sz (.bI i off m c)=((H[i]?).bind aa.rowOf).map λl=>(m,(l.drop off).take (m* sz)):=by
 simp only[AS.src];cases H[i]?with
 |none=>rfl
 |some x=>cases x<;>rfl
def afU(n:Nat)(l:SC)(e:End)(kO:Nat->Nat->Nat->S7)(k:TG):AV.pS (.sl n l e) kO k=k n l e:=by rw[AV.pS]
def afT(i o n c:Nat)(kO:Nat->Nat->Nat->S7)(k:TG):AV.pS (.bI i o n c) kO k=kO i o n c:=by rw[AV.pS]
def afz:type_of% @tN.eq_1:=by intros;rw[tN.eq_1]
def afx(s:AS)(dst:SL)(next:SV)(n m sz:Nat)(elem:TypeId)(l l':SC):Bq s dst next n m sz elem l l' .exact=next ((⟨s.T,s.H++[.tail (n+m) sz elem]⟩:AS).put dst (.sl (n+m) (l++l') (.opn s.H.length))):=rfl
def afy(s:AS)(dst:SL)(next:SV)(n m sz:Nat)(elem:TypeId)(l l':SC)(k:Nat):Bq s dst next n m sz elem l l' (.opn k)=((match s.H[k]?with
   |some (.tail n' eB fF)=>n'=n/\eB=sz/\fF=elem
   |_=>False)/\(∀a∈l',a.leaf=true)/\next ((⟨s.T,s.H.set k (.tail (n+m) sz elem)⟩:AS).put dst (.sl (n+m) (l++l') (.opn k)))):=rfl
def aqJ(P:Tg)(T:SH)(H:SA)(b t:Nat):vb P ⟨T,H⟩ (.cell b t)=(look T b).bind λp=>((⟨T,H⟩:AS).at p).bind λl=>(Ty P t).bind λx=>if x.2 then(if x.1<=l.length then some (.agg (l.take x.1))else none)else l[0]?:=rfl
section
variable {lv:Bool}{P:Tg}{s s':AS}
@[congr] theorem avc {α : Type} {x y : Option α} {k : α -> Prop} (h : x = y) : ao x k = ao y k := by rw[h]
@[congr] theorem auo {a b : AV} {k : Bool -> Prop} (h : a = b) : AV.asBool a k = AV.asBool b k := by rw[h]
@[congr] theorem aup {a b : AV} {k : UN -> Int -> Prop} (h : a = b) : AV.asInt a k = AV.asInt b k := by rw[h]
@[congr] theorem auu {a b : AV} {k : SC -> Prop} (h : a = b) : AV.xn a k = AV.xn b k := by rw[h]
@[congr] theorem aun {a b : AV} {k : SC -> Prop} (h : a = b) : AV.asAgg a k = AV.asAgg b k := by rw[h]
@[congr] theorem aur {a b : AV} {k : Nat -> Nat -> Prop} (h : a = b) : AV.pQ a k = AV.pQ b k := by rw[h]
@[congr] theorem auq {a b : AV} {k : Nat -> Prop} (h : a = b) : AV.sB a k = AV.sB b k := by rw[h]
@[congr] theorem aut {a b : AV} {k : Nat -> SC -> End -> Prop} (h : a = b) : AV.vJ a k = AV.vJ b k := by rw[h]
@[congr] theorem aus {a b : AV} {kO : Nat -> Nat -> Nat -> Nat -> Prop} {k : Nat -> SC -> End -> Prop} (h : a = b) : AV.pS a kO k = AV.pS b kO k := by rw[h]
@[congr] theorem aul {H H' : SA} {k : AV -> SA -> Prop} {id oI off DZ n n' c0 PH m m' sz : Nat} {elem : TypeId} {l l' : SC} (h0 : H = H') (h1 : id = oI) (h2 : off = DZ) (h3 : n = n') (h4 : c0 = PH) (h5 : m = m') (h6 : l = l') : tN H k id off n c0 m sz elem l = tN H' k oI DZ n' PH m' sz elem l' := by rw[h0, h1, h2, h3, h4, h5, h6]
@[congr] theorem aud {op : Xc} {t : TypeId} {a a' b b' : AV} {k : AV -> Prop} (h : a = a') (h' : b = b') : dh P op t a b k = dh P op t a' b' k := by rw[h, h']
@[congr] theorem auc {s' : AS} {op : Xc} {t : TypeId} {y : Ui} {a a' : AV} {k : AV -> Prop} (hs : s = s') (h : a = a') : iJ P s op t y a k = iJ P s' op t y a' k := by rw[hs, h]
@[congr] theorem aug {a b : AV} {k : AV -> Prop} (h : a = b) : mA P a k = mA P b k := by rw[h]
@[congr] theorem aub {t : TypeId} {ok : Bool} {a b : AV} {k : AV -> Prop} (h : a = b) : Bn P t ok a k = Bn P t ok b k := by rw[h]
@[congr] theorem auf {t : TypeId} {a b : AV} {k : AV -> Prop} (h : a = b) : sf P s t a k = sf P s t b k := by rw[h]
@[congr] theorem auj {t : TypeId} {a b : AV} {x y z : Option Int} {k : AV -> Prop} (h : a = b) : sg P t a x y z k = sg P t b x y z k := by rw[h]
@[congr] theorem auh {o : U8} {k : AV -> Prop} (h : s = s') : lD P s o k = lD P s' o k := by rw[h]
@[congr] theorem aum {o : U8} {k : AV -> Prop} (h : s = s') : AQ lv P s o k = AQ lv P s' o k := by rw[h]
@[congr] theorem auk {o : U8} {next : AS -> Prop} {bad : AV -> AS -> Prop} (h : s = s') : mB lv P s o next bad = mB lv P s' o next bad := by rw[h]
@[congr] theorem aui {all : Array U8} {l : List U8} {next : AS -> Prop} {bad : AV -> AS -> Prop} (h : s = s') : iy lv P all l s next bad = iy lv P all l s' next bad := by rw[h]
@[congr] theorem ave {all : Array U8} {l l' : List U8} {K : AS -> Prop} (hl : l = l') (h : s = s') : nc lv P all l s K = nc lv P all l' s' K := by rw[hl, h]
@[congr] theorem aux {r : Option Nat} {nt : Nat} {c : UX} {Φ : an -> AS -> Prop} (h : s = s') : aZ lv P r nt c s Φ = aZ lv P r nt c s' Φ := by rw[h]
@[congr] theorem avl {K : AS -> Prop} {Φ : an -> AS -> Prop} {e e' : an} (he : e = e') (h : s = s') : an.then K Φ e s = an.then K Φ e' s' := by rw[he, h]
@[congr] theorem au9 {i : Nat} {Φ : an -> AS -> Prop} {e e' : an} (he : e = e') (h : s = s') : an.inBlock i Φ e s = an.inBlock i Φ e' s' := by rw[he, h]
end
def aeZ:type_of% @iy.eq_1:=by intros;rw[iy.eq_1]
def aeY:type_of% @iy.eq_2:=by intros;rw[iy.eq_2]
def ae5:type_of% @mB.eq_1:=by intros;rw[mB.eq_1]
def aeX:type_of% @lD.eq_1:=by intros;rw[lD.eq_1]
def apQ:type_of% @nc.eq_1:=by intros;rw[nc.eq_1]
def apP:type_of% @nc.eq_2:=by intros;rw[nc.eq_2]
def ae0:type_of% @AQ.eq_1:=by intros;rw[AQ.eq_1]
def aqG:type_of% @gV.eq_1:=by intros;rw[gV.eq_1]
def aqF:type_of% @gV.eq_2:=by intros;rw[gV.eq_2]
def aqI:type_of% @iW.eq_1:=by intros;rw[iW.eq_1]
def aip:type_of% @fe.eq_1:=by intros;rw[fe.eq_1]
def aio:type_of% @fe.eq_2:=by intros;rw[fe.eq_2]
def aeC:type_of% @Bn.eq_1:=by intros;rw[Bn.eq_1]
def apL:type_of% @iw.eq_1:=by intros;rw[iw.eq_1]
def aqH:iW []=.aF []:=by rw[iW];simp
def acD(a b:AV)(l:SC):iW (a::b::l)=.aF (a::b::l):=by rw[iW];simp
def asu(l:SC):(AV.rp l).sure=true:=by simp[AV.sure]
def ass(i j:Nat):(AV.op i j).sure=true:=by simp[AV.sure]
def aso(f:UH)(x y:SC):(AV.fn (.func f) x y).sure=true:=by simp[AV.sure]
def asp(t:TypeId)(x:AV):(AV.bR t x).sure=true:=by simp[AV.sure]
def aeT(P:Tg)(k:SQ)(name:String)(t:TypeId)(av:AV):mA P (.fn (.method name) [.bR t av] []) k=(IT P t name/\k (.fn (.method name) [.bR t av] [])):=by rw[mA]
def aeV(P:Tg)(k:SQ)(l:SC):mA P (.rp l) k=k (.rp l):=by simp[mA,AV.sure]
def aeU(P:Tg)(k:SQ)(i j:Nat):mA P (.op i j) k=k (.op i j):=by simp[mA,AV.sure]
def aeR(P:Tg)(k:SQ)(f:UH)(x y:SC):mA P (.fn (.func f) x y) k=k (.fn (.func f) x y):=by simp[mA,AV.sure]
def aeW(P:Tg)(k:SQ)(f)(x y:SC):mA P (.fn (.yield f) x y) k=k (.fn (.yield f) x y):=by simp[mA,AV.sure]
def aeS(P:Tg)(k:SQ)(t:TypeId)(x:AV):mA P (.bR t x) k=k (.bR t x):=by simp[mA,AV.sure]
def aeM(P:Tg)(s:AS)(op:Xc)(xt:TypeId)(t:Nat)(a:AV)(k:SQ):iJ P s op xt (.tmp t) a k=ao (s.ev (.tmp t)) λb=>dh P op xt a b k:=by rw[iJ]<;>(intros;simp_all)
def aeH(P:Tg)(s:AS)(op:Xc)(xt:TypeId)(j:UN)(m:Int)(a:AV)(k:SQ):iJ P s op xt (.const (.int j m)) a k=ao (s.ev (.const (.int j m))) λb=>dh P op xt a b k:=by rw[iJ]<;>(intros;simp_all)
def aeE(P:Tg)(s:AS)(op:Xc)(xt:TypeId)(c:Bool)(a:AV)(k:SQ):iJ P s op xt (.const (.bool c)) a k=ao (s.ev (.const (.bool c))) λb=>dh P op xt a b k:=by rw[iJ]<;>(intros;simp_all)
def aeL(P:Tg)(s:AS)(op:Xc)(xt:TypeId)(c:ByteArray)(a:AV)(k:SQ):iJ P s op xt (.const (.string c)) a k=ao (s.ev (.const (.string c))) λb=>dh P op xt a b k:=by rw[iJ]<;>(intros;simp_all)
def aeD(P:Tg)(s:AS)(op:Xc)(xt:TypeId)(c:SG)(a:AV)(k:SQ):iJ P s op xt (.const (.agg c)) a k=ao (s.ev (.const (.agg c))) λb=>dh P op xt a b k:=by rw[iJ]<;>(intros;simp_all)
def aeK(P:Tg)(s:AS)(op:Xc)(xt:TypeId)(c:TA)(a:AV)(k:SQ):iJ P s op xt (.const (.pointer c)) a k=ao (s.ev (.const (.pointer c))) λb=>dh P op xt a b k:=by rw[iJ]<;>(intros;simp_all)
def aeI(P:Tg)(s:AS)(op:Xc)(xt:TypeId)(c:TA)(m n:Nat)(a:AV)(k:SQ):iJ P s op xt (.const (.slice c m n)) a k=ao (s.ev (.const (.slice c m n))) λb=>dh P op xt a b k:=by rw[iJ]<;>(intros;simp_all)
def aeJ(P:Tg)(s:AS)(op:Xc)(xt:TypeId)(k:SQ):iJ P s op xt (.const .nilIface) (.val .nilIface) k=(lx P xt=some true/\(op=.eql\/op=.neq)/\k (.val (.bool (if op== .neq then false else true)))):=by rw[iJ]
def aeG(P:Tg)(s:AS)(op:Xc)(xt t:TypeId)(x:AV)(k:SQ):iJ P s op xt (.const .nilIface) (.bR t x) k=(lx P xt=some true/\(op=.eql\/op=.neq)/\k (.val (.bool (if op== .neq then true else false)))):=by rw[iJ]
def ah8:((Zu== .neq)=false):=rfl
def aoz:((W8== .neq)=true):=rfl
def aj8(z:T5):AV.found z true none=.aF [AV.of z,.val (.bool false)]:=by rw[AV.found];simp
def aj9(z:T5)(x:Nat×T5):AV.found z true (some x)=.aF [AV.of x.2,.val (.bool true)]:=by rw[AV.found];simp
attribute [seval] aj8 aj9
attribute [seval] aeM aeH aeE aeL aeD aeK aeI aeJ aeG ah8 aoz
attribute [seval] aqq aqr ur uq up uo wL ail aic aig aie aik aih aii aid aif an4 an5 apN apM asP asR asN asO asQ agM agO agJ agN agK agL aj7 aj5 aj6 aqL afO afQ afX afM afS afR afV afU afT afz ae6 afk aff ae8 OY afe afd afa ae9 true_and and_true Option.bind_some List.getElem?_toArray List.getElem?_cons_succ List.getElem?_cons_zero Bool.not_true Bool.not_false true_implies false_implies if_true if_false af3 arC arD arE aqW aqV List.drop_succ_cons List.drop_zero List.take_succ_cons List.take_zero List.cons_append List.nil_append List.length_cons List.length_nil Int.toNat_natCast decide_eq_true_eq decide_eq_false_iff_not Bool.not_eq_true' Bool.not_eq_false' Bool.not_eq_eq_eq_not af2 ag6 ag8 aqS aqU aqT ag7 Option.map_some vF afB vG afF afA afE Nat.zero_add List.set_cons_zero List.set_cons_succ apn apj apy apv apr aps apo api apx apu apw apt apl apm apq List.forall_mem_cons List.not_mem_nil false_imp_iff implies_true anq anm anC anz ant anu anr anB anx anA anw ano anp ans aoQ aoN aoT aoO aoP aoS aoR atW at1 atX at5 atZ at0 at4 at3 List.map_cons List.map_nil ain aim ajH ajG apG apF atU arS arR afx afy aqJ aeQ aeP ne_eq not_true_eq_false not_false_eq_true gt_iff_lt Nat.lt_irrefl or_self or_false false_or Nat.le_refl Nat.mul_one Nat.one_mul Nat.zero_mul Nat.mul_zero bne_iff_ne bne_eq_false_iff_eq beq_iff_eq aeZ aeY ae5 aeX apQ apP ae0 aqG aqF aqI aqH acD aip aio aeC apL acD asu ass aso asp aeT aeV aeU aeR aeW aeS
def aqR{base Vi Vn T:SH}{H:SA}(hk:sk T (Vi++base) Vn)(hv:∀p∈Vn,∃b,look T p.1=some b/\Wk b p.2):tX base Vi Vn H ⟨T,H⟩:=⟨hk,hv,[],by simp,.inl rfl⟩
def acF{base Vi Vn T:SH}{H G:SA}(hk:sk T (Vi++base) Vn)(hv:∀p∈Vn,∃b,look T p.1=some b/\Wk b p.2)(au:bO H)(hlt:∀p∈Vn,Lt H.length p.2):tX base Vi Vn H ⟨T,H++G⟩:=⟨hk,hv,G,rfl,.inr ⟨au,hlt⟩⟩
def A3{base Vi Vn T:SH}{H L G:SA}(hk:sk T (Vi++base) Vn)(hv:∀p∈Vn,∃b,look T p.1=some b/\Wk b p.2)(au:bO (H++L))(hlt:∀p∈Vn,Lt (H++L).length p.2):tX base Vi Vn (H++L) ⟨T,H++(L++G)⟩:=⟨hk,hv,G,(Ax ..).symm,.inr ⟨au,hlt⟩⟩
def pick (ks:SE)(T:SH):List (Nat×AV):=ks.filterMap λk=>(look T k).map λa=>(k,a)
def Pp{lv:Bool}{P:Tg}{r:SL}{nt:Nat}{c:UX}{T:SH}{H:SA}{Φ:SI}(ks:SE)(h:aZ lv P r nt c ⟨pick ks T,H⟩ Φ):aZ lv P r nt c ⟨T,H⟩ Φ:=by
 refine B1 (s':=⟨pick ks T,H⟩) ⟨λt a e=> ?_,rfl⟩ h;obtain⟨k,_,e'⟩:=WG.1 (rO e);obtain⟨b,hb,e'⟩:=Uq.1 e';cases e';exact⟨a,hb,Wk.refl a⟩
end Go.Gg
