/- A part of the proof. -/
import Derived.Test.YtckionbibpmloaaGreatDoorTicketCountsCard1
import Derived.Test.YtckionbibpmloaaGreatDoorProg
import Derived.KernelRfl
set_option linter.all false
set_option maxRecDepth 4000
set_option maxHeartbeats 4000000
open Array renaming all_eq_true_iff_forall_mem->VG,empty_append->XK,eq_empty_of_size_eq_zero->Xw,ext'->Wz,getD_eq_getD_getElem?->Th,getElem?_append_left->XJ,getElem?_eq_getElem->Tj,getElem?_eq_none->ZK,getElem?_eq_some_iff->Tw,getElem?_modify->Wr,getElem?_setIfInBounds_ne->Tx,getElem?_setIfInBounds_self_of_lt->Ud,getElem_mem->XZ,mem_of_getElem?->Z8,range->XS,replicate->US,toList_map->W1
open BitVec renaming ofInt->Va,toNat_or->apH
open Bool renaming and_eq_true->Ui,eq_iff_iff->Ve,false_and->Ww,false_eq_true->UH,false_or->ar_,not_eq_true'->UV,not_true->Xn,or_eq_true->XP,true_and->VO
open Classical renaming byContradiction->Uv
open ForInStep renaming yield->Z7
open Go renaming BinOp->Xl,Call->Yv,CallKind->Yr,Code->U5,Deferred->Yn,Field->aw7,Frame->VM,FrameMode->Wp,Func->aw5,FuncId->UR,IntKind->UZ,Loop->ax2,LoopState->axj,Oper->Vp,Operand->Up,Program->Tl,ResultVar->af_,TypeInfo->X8,Value->T9,World->Us
open Go.BinOp renaming eql->ZH,neq->Xh
open Go.Call renaming operands->Xy
open Go.CallKind renaming deferred->ZY,early->Wn,normal->ab'
open Go.Deferred renaming ofValue->VU
open Go.Frame renaming catches->aw6,round->Zf
open Go.FrameMode renaming returning->ZC
open Go.GStep renaming after->U3
open Go.Instr renaming beginRound->YX,checkKey->Wq,endLoop->awV,endRound->Yh,enterLoop->Ya,findAsking->YV,findKey->Xa,getLoop->XR,sameBits->XH,takeDeferred->ab_
open Go.IntKind renaming bits->ax9,i64->Tg,signed->ax8,u16->Ua,u32->axH,u64->UF,wrap->Ze
open Go.LoopState renaming busy->ax1
open Go.Made renaming depth->ZN
open Go.Next renaming value->Yf
open Go.Op renaming equal->XW,equalIn->WI,operands->Uz
open Go.Proofs.Tryz renaming f108->axD,f120->axX,f132->axC,f98->Y3,prog->BI
open Go.Region renaming binds->ZB,linearise->ag2,schedule->W6,wanted->Uo
open Go.Region.linearise renaming go->VC
open Go.Result.ok renaming inj->axW
open Go.Sem renaming runT->WQ,runT_eq->UE
open Go.Value renaming agg->Uy,bool->Yp,chan->Y7,iface->Y2,int->S_,map->ap',nilFunc->Z4,slice->UP
open Go.stepG renaming exec->U_
open Int renaming ofNat->aya,toNat_natCast->WO
open List renaming all_cons->aw1,all_eq_true->Uq,append_assoc->Ev,append_nil->Ts,append_of_mem->ae_,cons_append->WX,contains_eq_mem->Vq,countP_le_length->aa3,drop_drop->axL,drop_eq_getElem_cons->UL,drop_eq_nil_of_le->UX,drop_zero->Wx,ext_getElem?->Yd,extract_eq_take_drop->ZF,filter_congr->WB,flatMap_append->VX,flatMap_cons->UT,foldl_cons->Wd,forIn_cons->Yc,getD_eq_getElem?_getD->Tf,getElem?_append_left->T6,getElem?_append_right->Uc,getElem?_cons_succ->VL,getElem?_drop->Vo,getElem?_eq_getElem->T4,getElem?_eq_none->VI,getElem?_eq_some_iff->Tn,getElem?_map->Ur,getElem?_set->VZ,getElem?_set_ne->Vd,getElem?_set_self->Ym,getElem?_take->Vh,getLastD_cons->ap_,getLastD_eq_getLast?->Wc,head?->axq,length_drop->Vm,length_map->Um,length_set->UK,length_take->Vl,map->We,mapM_cons->U6,mapM_nil->VB,mapM_toArray->Zc,map_append->UA,map_congr_left->WR,map_cons->VN,map_drop->ZL,map_flatMap->WN,map_map->Zb,map_nil->Zk,map_take->Xg,mem_append->T1,mem_append_left->Uk,mem_append_right->T7,mem_cons->Tm,mem_cons_of_mem->Ue,mem_cons_self->UC,mem_filter->Vx,mem_flatMap->T8,mem_map->Uh,mem_of_getElem?->Un,mem_range->UB,mem_range'->Za,mem_reverse->YZ,mem_singleton->Ub,nodup_append->Wo,nodup_cons->WU,nodup_nil->XU,not_mem_nil->T5,range->Tt,range'->U8,range'_append_1->Yl,range'_succ->WL,range_eq_range'->Wj,range_succ->Wb,replicate->UQ,replicate_succ->XE,reverse_cons->al_,reverse_nil->Y_,set_append_left->VE,set_append_right->Vg,set_cons_zero->U1,singleton_append->Z',take->U9,take_add->axe,take_append_drop->W2,take_append_of_le_length->UD,take_of_length_le->Tu,take_set->axd,take_succ->Ys,take_succ_cons->Xd,take_take->VF,take_zero->axK
open Nat renaming add_sub_cancel->X7,add_zero->Vr,le_of_eq->Yx,le_refl->Tv,le_trans->UJ,lt_of_le_of_lt->ak_,lt_of_lt_of_le->Ug,lt_trans->Xx,min_eq_left->Wa,mul_one->Zo,or_lt_two_pow->XT,pow_le_pow_right->XL,pow_lt_pow_right->Yo,reduceAdd->Tq,sub_self->WV,sub_zero->aw',testBit_or->YD,testBit_two_pow->Xc,zero_add->WK,zero_le->YS
open Option renaming bind_eq_bind->UW,bind_eq_some_iff->Uj,getD_some->T_,map_eq_some_iff->Uu,map_some->VT,pure_def->Vk,some->To
open Option.some renaming injEq->Ul
open Std.Legacy.Range renaming forIn_eq_forIn_range'->XG,size->YI
namespace Go.Gg
open Go.Conc
def Og{ops:SK}(mJ:∀(i:Nat) o,ops[i]?=some o->∀j∈cY o,j<ops.size)(abJ:∀X:SE,(∃i,i<ops.size/\i∉X)->∃i o,ops[i]?=some o/\i∉X/\∀j∈cY o,j∈X):∀(fuel t:Nat)(L:Array Bool)(X:SE),Qd ops L X->(Tt ops.size).countP (λi=> !X.contains i)<=fuel->l5 ops X (VC .any ops fuel t L [])
 |0,t,L,X,hr,hc=>by
  simp only[VC,Y_];refine .nil X λi hi=> ?_;have:(Tt ops.size).countP (λi=> !X.contains i)=0:=by omega
  have:=List.countP_eq_zero.1 this i (by simpa using hi);simpa using this
 |fuel+1,t,L,X,hr,hc=>by
  have vS:∀i,i∈((Tt ops.size).filter λi=> !L.getD i true&&((ops[i]?).map (·.after.all λe=> !Region.binds .any e||L.getD e.on false)).getD false)<->∃o,ops[i]?=some o/\i∉X/\∀j∈cY o,j∈X:=by
   intro i;simp only[Vx,UB,Ui,UV];constructor
   ·rintro⟨hi,h1,h2⟩
    have ho:=Tj hi;refine⟨ops[i],ho,λhx=> ?_,λj hj=> ?_⟩;have:=(hr.mem i hi).2 hx;rw[Th,this]at h1;cases h1
    ·obtain⟨e,he,hb,rfl⟩:=IA.1 hj;rw[ho]at h2;simp only[VT,T_,VG]at h2;have:=h2 e he;rw[hb]at this;simp only[Xn,ar_]at this;have hlt:e.on<ops.size:=mJ i _ ho _ hj;refine(hr.mem _ hlt).1 ?_;rw[Th]at this;cases hx:L[e.on]?with
     |none=>rw[hx]at this;cases this
     |some b=>rw[hx]at this;cases b;cases this;rfl
   ·rintro⟨o,ho,h1,h2⟩
    have hi:i<ops.size:=(Tw.1 ho).1;refine⟨hi,?_,?_⟩
    ·rw[Th,Tj (by rw[hr.size];exact hi)];simp only[T_];cases hb:L[i]'(by rw[hr.size];exact hi)with
     |false=>rfl
     |true=>exact absurd ((hr.mem i hi).1 (by rw[Tj (by rw[hr.size];exact hi),hb])) h1
    ·rw[ho];simp only[VT,T_,VG];intro e he;cases hb:ZB .any e with
     |false=>rfl
     |true=>have hj:=IA.2 ⟨e,he,hb,rfl⟩;have hlt:e.on<ops.size:=mJ i _ ho _ hj;have:=(hr.mem _ hlt).2 (h2 _ hj);simp[Th,this]
  simp only[VC];generalize us:((Tt ops.size).filter λi=> !L.getD i true&&((ops[i]?).map (·.after.all λe=> !Region.binds .any e||L.getD e.on false)).getD false)=rs at vS;cases hi:rs[t % rs.length]?with
  |none=>
   have M6:rs=[]:=by
    cases rs with
    |nil=>rfl
    |cons x xs=>have hlt:t % (x::xs).length<(x::xs).length:=Nat.mod_lt _ (by simp);rw[List.getElem?_eq_none_iff]at hi;omega
   simp only[Y_];refine .nil X λi hlt=> ?_;apply Uv;intro hx;obtain⟨i',o,h1,h2,h3⟩:=abJ X ⟨i,hlt,hx⟩;have:i'∈rs:=(vS i').2 ⟨o,h1,h2,h3⟩;rw[M6]at this;cases this
  |some i=>
   simp only[];obtain⟨o,ho,h1,h2⟩:=(vS i).1 (Un hi);have hlt:i<ops.size:=(Tw.1 ho).1;rw[linearise_go_acc,List.reverse_singleton,Z'];refine .cons o ho h1 h2 (Og mJ abJ fuel _ _ (i::X) ⟨by simp[hr.size],λk hk=> ?_⟩ ?_);by_cases sI:k=i;subst sI;simp[Ud (by rw[hr.size];exact hlt)];rw[Tx (Ne.symm sI),hr.mem k hk];simp[sI]
   ·have e_:i∈(Tt ops.size):=(by simpa using hlt);have:(Tt ops.size).countP (λk=> !(i::X).contains k)<(Tt ops.size).countP (λk=> !X.contains k):=by exact Ri e_ (λk hk=>by simp only[UV,Vq,decide_eq_false_iff_not]at hk⊢;exactλh=>hk (Ue _ h)) (by simpa using h1) (by simp)
    omega
def Lj{X:SE}:∀{l:SE},(∃i∈l,i∉X)->∃A i B,l=A++i::B/\i∉X/\∀a∈A,a∈X
 |[],⟨_,h,_⟩=>by cases h
 |x::l,⟨i,h,hn⟩=>by by_cases hx:x∈X;(have hi:i∈l:=(Tm.1 h).resolve_left λe=>hn (e▸hx);obtain⟨A,j,B,h1,h2,h3⟩:=Lj ⟨i,hi,hn⟩;exact⟨x::A,j,B,by rw[h1];rfl,h2,λa ha=>(Tm.1 ha).elim (λe=>e▸hx) (h3 a)⟩);exact⟨[],x,l,rfl,hx,by simp⟩
structure CL (k:SF):Type where
 n:Nat
def FZ (lv:Bool)(P:Tl)(f:AV)(H:SA)(aL:SC)(k:SF)(_t:CL k):Prop:=∃av H',fh lv P f H aL (λb uU=>b=av/\uU=H') (λ_ _=>False)/\k av H'
def JO (lv:Bool)(P:Tl)(f:AV)(name:String)(H:SA)(aL:SC)(k:SF)(_t:CL k):Prop:=∃av H',tC lv P f name H aL (λb uU=>b=av/\uU=H') (λ_ _=>False)/\k av H'
def sk{lv:Bool}{P:Tl}{f:AV}{H:SA}{aL:SC}{k:SF}{t:CL k}(av:AV)(H':SA)(h:fh lv P f H aL (λb uU=>b=av/\uU=H') (λ_ _=>False))(hk:k av H'):FZ lv P f H aL k t:=⟨av,H',h,hk⟩
def kz (x:Option aa)(X Y:Prop)(_t:mA X Y):Prop:=match x with
 |some (.own _ _ _)=>X
 |_=>Y
def rW (G H:SA)(k:SF)(n m sz:Nat)(elem:TypeId)(l l':SC):End->Prop
 |.exact=>kz G[H.length]? (0<m/\k (.bB H.length 0 (n+m) 0) (H++[.own sz (l++l') elem])) (k (.sl (n+m) (l++l') (.opn H.length)) (H++[.tail (n+m) sz elem])) ⟨0⟩
 |.opn i=>(match H[i]?with
   |some (.tail n' eQ gW)=>n'=n/\eQ=sz/\gW=elem
   |_=>False)/\(∀a∈l',a.leaf=true)/\k (.sl (n+m) (l++l') (.opn i)) (H.set i (.tail (n+m) sz elem))
 |.shut=>m=0/\k (.sl n l .shut) H
section
variable (lv:Bool)(P:Tl)
def kx (G:SA)(s:AS)(o:Vp)(k:SF):Prop:=match o.op with
 |.box t x=>au (s.ev x) λa=>au a.parts λl=>k (.op s.H.length 0) (s.H++[.cells l t])
 |.alloc t=>au (eR P t) λz=>k (.op s.H.length 0) (s.H++[.cells (my z) t])
 |.store t x y=>au (s.ev x) λp=>au (s.ev y) λa=>au a.parts λlp=>p.qV λid off=>match s.H[id]?with
  |some (.cells l el)=>(au (Ty P t) λx=>lp.length=x.1)/\off+lp.length<=l.length/\(∀a∈lp,a.leaf=true)/\k (.val undef) (s.H.set id (.cells (iT l off lp) el))
  |some (.own p l el)=>(au (Ty P t) λx=>lp.length=x.1)/\off+lp.length<=l.length/\(∀a∈lp,a.leaf=true)/\k (.val undef) (s.H.set id (.own p (iT l off lp) el))
  |_=>False
 |.call c=>match c.callee with
  |.builtin .append=>match c.args.toList,c.argTypes.toList with
   |[x,y],[t,t']=>au (j4 P t t') λ(elem,sz,_)=>au (s.ev x) λa=>au (s.ev y) λb=>a.qW (λid off n c0=>au (s.src sz b) λ(m,l')=>uQ s.H k id off n c0 m sz elem l') λn l e=>au (s.src sz b) λ(m,l')=>l.length=n* sz/\l'.length=m* sz/\n+m<=2^30/\rW G s.H k n m sz elem l l' e
   |_,_=>False
  |.value x=>au (s.ev x) λf=>au (fJ s c.args.toList) λaL=>FZ lv P f s.H aL k ⟨0⟩
  |.invoke x name=>au (s.ev x) λf=>au (fJ s c.args.toList) λaL=>JO lv P f name s.H aL k ⟨0⟩
  |_=>False
 |.makeSlice t x y=>au (CO P t) λ(e,sz,z)=>au (s.ev x) λa=>au (s.ev y) λb=>a.asInt λ_ n=>b.asInt λ_ n'=>n'=n/\0<=n/\n<=2^30/\k (.bB s.H.length 0 n.toNat n.toNat) (s.H++[.cells (gF z (n.toNat* sz)) e])
 |.buildSlice t len parts=>au (qS P t) λ(e,sz,z)=>len* sz<=2^24/\au (kB s parts.toList) λj9=>au (o6 (h_.at (.elems sz)) (gF z (len* sz)) j9) λl=>k (.bB s.H.length 0 len len) (s.H++[.cells l e])
 |_=>False
end
section
variable {lv:Bool}{P:Tl}{r:SL}{o:Vp}{s:AS}{k:SF}
def Step.drop{G:SA}{av ni:AV}{bad:AV->SV}(h:Step lv P r o s (λs'=>s'=(⟨s.T,s.H++G⟩:AS).put o.dst av) bad)(hw:Wk av ni)(hl:∀(E:Env)(V:View)(a:Act),Conc E V s.H->cu E s.T a.tmps->Lt s.H.length ni):Step lv P r o s (λs'=>s'=(⟨s.T,s.H⟩:AS).put o.dst ni) bad:=λE V a N Q hc ht hd hf n1 n2=>by
 refine h E V a N Q hc ht hd hf (λE' V' a' s' q1 q2 q3 q4=> ?_) n2;subst q4;rw[fG]at q2;have fW:((⟨s.T,s.H++G⟩:AS).put o.dst av).JM ((⟨s.T,s.H⟩:AS).put o.dst ni):=by
  refine⟨λt x e=> ?_,⟨G,by rw[fG,fG]⟩,by rw[fG];exact hc.an⟩;rw[fG];have hold:look s.T t=some x->Lt s.H.length x:=λe=>by rw[<- hc.n];exact(ht t x e).2.lt
  cases dC:o.dst with
  |none=>rw[dC]at e;simp only[AS.put]at e⊢;exact⟨x,e,Wk.refl x,hold e⟩
  |some d=>rw[dC]at e;simp only[AS.put,look]at e⊢;by_cases hdt:d=t;rw[if_pos hdt]at e⊢;cases e;exact⟨av,rfl,hw,hl E V a hc ht⟩;rw[if_neg hdt]at e⊢;exact⟨x,e,Wk.refl x,hold e⟩
 have ak:At E' V' ((⟨s.T,s.H++G⟩:AS).put o.dst av) a' a'.tmps.size:=⟨by rw[fG];exact q2,q3,rfl⟩;have aX:=ak.cut fW;rw[fG]at aX;refine n1 _ V' a' _ ⟨FH (Tv _) (by rw[q2.n];simp) q1.le hc.n,q1.size,q1.defers,q1.role,q1.deaf⟩ aX.bx aX.tok rfl
end
section
variable {lv:Bool}{P:Tl}{r:SL}{o:Vp}{s:AS}{G:SA}{k:SF}
def eB{α:Type}{x:Option α}{a:α}{k:α->Prop}(h:x=some a)(hk:k a):au x k:=by rw[h,au];exact hk
def aau{x:Option aa}{X Y:Prop}{t:mA X Y}(h:kz x X Y t):((∃a b c,x=some (.own a b c))/\X)\/((∀a b c,x≠some (.own a b c))/\Y):=by unfold kz at h;split at h;exact .inl ⟨⟨_,_,_,rfl⟩,h⟩;rename_i hx;exact .inr ⟨λa b c e=>hx a b c e,h⟩
def alx{x:Option aa}{X Y:Prop}{t:mA X Y}{a:Nat}{b:SC}{c:TypeId}(h:x=some (.own a b c))(hX:X):kz x X Y t:=by subst h;exact hX
def alA{x:Option aa}{X Y:Prop}{t:mA X Y}(h:∀a b c,x≠some (.own a b c))(hY:Y):kz x X Y t:=by unfold kz;split;exact absurd rfl (h _ _ _);exact hY
def rW.ex{H:SA}{n m sz:Nat}{elem:TypeId}{l l':SC}{e:End}(h:rW G H k n m sz elem l l' e):∃av H',rW G H (λa h=>a=av/\h=H') n m sz elem l l' e/\k av H':=by
 cases e with
 |exact=>rcases aau (t:=⟨0⟩) h with⟨⟨a,b,c,e⟩,h0,h1⟩|⟨e,h1⟩;exact⟨_,_,alx (t:=⟨0⟩) e ⟨h0,rfl,rfl⟩,h1⟩;exact⟨_,_,alA (t:=⟨0⟩) e ⟨rfl,rfl⟩,h1⟩
 |shut=>exact⟨_,_,⟨h.1,rfl,rfl⟩,h.2⟩
 |opn i=>exact⟨_,_,⟨h.1,h.2.1,rfl,rfl⟩,h.2.2⟩
def uQ.ex{H:SA}{id off n c0 m sz:Nat}{elem:TypeId}{l':SC}(h:uQ H k id off n c0 m sz elem l'):∃av H',uQ H (λa h=>a=av/\h=H') id off n c0 m sz elem l'/\k av H':=by obtain⟨h1,h2,h3,h4,h5,h6⟩:=h;split at h6;rename_i hk;obtain⟨g1,g2,g3,g4⟩:=h6;refine⟨_,_,⟨h1,h2,h3,h4,h5,?_⟩,g4⟩;rw[hk];exact⟨g1,g2,g3,rfl,rfl⟩;exact h6.elim
end
section
variable {lv:Bool}{P:Tl}{r:SL}{o:Vp}{s:AS}{next:SV}{bad:AV->SV}
def aeq{t e:TypeId}{len sz:Nat}{z:T9}{parts:Array (Nat×Up)}{j9:SH}{l:SC}(ho:o.op=.buildSlice t len parts)(ht:qS P t=some (e,sz,z))(a_:len* sz<=2^24)(hp:kB s parts.toList=some j9)
  (hl:o6 (h_.at (.elems sz)) (gF z (len* sz)) j9=some l) (hn:next ((⟨s.T,s.H++[.cells l e]⟩:AS).put o.dst (.bB s.H.length 0 len len))):Step lv P r o s next bad:=by
 intro E V a N Q hc aI hd bC h1 _;unfold qS at ht;split at ht
 ·rename_i e' hu;obtain⟨i,hi,ht⟩:=Uj.1 ht;obtain⟨z',hz,ht⟩:=Uu.1 ht;cases ht;refine⟨bC,?_⟩;unfold execOp;rw[ho];dsimp only;refine aA ?_;unfold Instr.buildSlice;refine ez hu ?_;dsimp only;refine jM hi ?_;rw[if_neg (by omega)];obtain⟨hlen,bm⟩:=GI aI hp;obtain⟨cE,ou,vA⟩:=Dq (KG (E:=E) z (len* i.size)) hlen bm hl;have fin:∀(rr:Nat),V.fresh rr->aT P (V.upd rr (.cells cE e)) (pure (Yf (.slice (some ⟨rr,0,none⟩) len len))) (ng lv P r o a N Q) (λv V'=>Q (.panic [{v,recovered:=false}]) a V'):=λrr hf=>by
   have pw:E.Le (E.add rr V.ah):=E.qE rr (λb o v h=>by rw[<- hc.I];exact h);have bu:Conc (E.add rr V.ah) (V.upd rr (.cells cE e)) (s.H++[.cells l e]):=by refine hc.add hf _ ⟨⟨_,?_,vA.mono pw⟩,λo=> ?_⟩ (λb e=> ?_);rw[Env.dP];simp[View.upd];rw[Env.dP];exact hf.2 o;simp only[bP,Env.dP,Ul]at e;exact e.symm
   have lF:ay (E.add rr V.ah) (.bB s.H.length 0 len len) (.slice (some ⟨rr,0,none⟩) len len):=by have:=ay.bB (E:=E.add rr V.ah) (id:=s.H.length) (off:=0) (n:=len) (cap:=len) (cap':=len) (by show _<E.n+1;rw[hc.n];omega) ⟨by omega,λ_=>rfl,λh=>absurd h (by omega)⟩;have e:(E.add rr V.ah).blk s.H.length=rr:=(by rw[<- hc.n];exact E.dP rr _);rwa[e]at this
   exact az (h1 _ _ (a.put o.dst _) _ ⟨pw,ek _ _ _,put_defers _ _ _,rfl,rfl⟩ (by rw[fG];exact bu) (cu.iy (s:=⟨s.T,s.H++[.cells l e]⟩) (aI.mono pw) hd lF) hn)
  have e2:(λj=>some (j* i.size,i.size))=h_.at (.elems i.size):=rfl;rw[e2];by_cases h0:len* i.size=0;rw[if_pos h0];refine aA (az ?_);rw[h0]at ou⊢;rw[show XS 0=#[]from rfl]at ou⊢;simp only[List.map_toArray,Zk,W1]at ou⊢;rw[ou];unfold newRow;exact aA (aA (aA (oQ λrr hf=>cj (az (az (az (fin rr hf)))))));rw[if_neg h0];refine aA (aA ?_);unfold typeInfo;refine aA (pK (cj ?_));rw[hi];refine az ?_;rw[hz];refine az (aA (az ?_));rw[W1,ou];unfold newRow;exact aA (aA (aA (oQ λrr hf=>cj (az (az (az (fin rr hf)))))))
 ·cases ht
end
section
variable {lv:Bool}{P:Tl}{r:SL}{o:Vp}{s:AS}{G:SA}{k:SF}
def kx.ex(h:kx lv P G s o k):∃av H',kx lv P G s o (λa h=>a=av/\h=H')/\k av H':=by
 unfold kx at h⊢;generalize o.op=op at h⊢;cases op with
 |box t x=>obtain⟨a,h1,h⟩:=h.out;obtain⟨l,h2,h⟩:=h.out;exact⟨_,_,eB h1 (eB h2 ⟨rfl,rfl⟩),h⟩
 |alloc t=>obtain⟨z,h1,h⟩:=h.out;exact⟨_,_,eB h1 ⟨rfl,rfl⟩,h⟩
 |store t x y=>obtain⟨p,h1,hA⟩:=h.out;obtain⟨a,h2,hB⟩:=hA.out;obtain⟨lp,h3,hC⟩:=hB.out;obtain⟨id,off,e1,hD⟩:=Db hC;subst e1;clear h hA hB hC;split at hD;rename_i l el hk;refine⟨_,_,eB h1 (eB h2 (eB h3 ?_)),hD.2.2.2⟩;unfold AV.qV;dsimp only;rw[hk];exact⟨hD.1,hD.2.1,hD.2.2.1,rfl,rfl⟩;rename_i p l el hk;refine⟨_,_,eB h1 (eB h2 (eB h3 ?_)),hD.2.2.2⟩;unfold AV.qV;dsimp only;rw[hk];exact⟨hD.1,hD.2.1,hD.2.2.1,rfl,rfl⟩;exact hD.elim
 |call c=>
  dsimp only at h⊢;generalize c.callee=cl at h⊢;generalize c.args.toList=xs at h⊢;generalize c.argTypes.toList=ts at h⊢;cases cl with
  |builtin b=>
   cases b with
   |append=>dsimp only at h⊢;split at h;obtain⟨⟨elem,sz,z⟩,h1,hA⟩:=h.out;obtain⟨a,h2,hB⟩:=hA.out;obtain⟨b,h3,hC⟩:=hB.out;rcases J_ hC with⟨id,off,n,c0,e1,hD⟩|⟨n,l,e,e1,hD⟩;obtain⟨⟨m,l'⟩,h4,h5⟩:=hD.out;subst e1;obtain⟨av,H',g1,g2⟩:=h5.ex;refine⟨av,H',eB h1 (eB h2 (eB h3 ?_)),g2⟩;simp only[AV.qW];exact eB h4 g1;obtain⟨⟨m,l'⟩,h4,h5,h6,h7,h8⟩:=hD.out;subst e1;obtain⟨av,H',g1,g2⟩:=h8.ex;refine⟨av,H',eB h1 (eB h2 (eB h3 ?_)),g2⟩;simp only[AV.qW];exact eB h4 ⟨h5,h6,h7,g1⟩;exact h.elim
   |_=>exact h.elim
  |value x=>obtain⟨f,h1,hA⟩:=h.out;obtain⟨aL,h2,hB⟩:=hA.out;obtain⟨av,H',g1,g2⟩:=hB;exact⟨av,H',eB h1 (eB h2 ⟨av,H',g1,rfl,rfl⟩),g2⟩
  |invoke x name=>obtain⟨f,h1,hA⟩:=h.out;obtain⟨aL,h2,hB⟩:=hA.out;obtain⟨av,H',g1,g2⟩:=hB;exact⟨av,H',eB h1 (eB h2 ⟨av,H',g1,rfl,rfl⟩),g2⟩
 |makeSlice t x y=>obtain⟨⟨e,sz,z⟩,h1,hA⟩:=h.out;obtain⟨a,h2,hB⟩:=hA.out;obtain⟨b,h3,hC⟩:=hB.out;obtain⟨j,n,e1,hD⟩:=oZ hC;obtain⟨j',n',e2,hE⟩:=oZ hD;clear h hA hB hC hD;subst e1 e2;exact⟨_,_,eB h1 (eB h2 (eB h3 ⟨hE.1,hE.2.1,hE.2.2.1,rfl,rfl⟩)),hE.2.2.2⟩
 |buildSlice t len parts=>obtain⟨⟨e,sz,z⟩,h1,h2,hA⟩:=h.out;obtain⟨j9,h3,hB⟩:=hA.out;obtain⟨l,h4,hC⟩:=hB.out;exact⟨_,_,eB h1 ⟨h2,eB h3 (eB h4 ⟨rfl,rfl⟩)⟩,hC⟩
 |_=>exact h.elim
def kx.step{av:AV}{H':SA}{bad:AV->SV}(h:kx lv P G s o (λa h=>a=av/\h=H')):Step lv P r o s (λs'=>s'=(⟨s.T,H'⟩:AS).put o.dst av) bad:=by
 unfold kx at h;split at h;rename_i t x ho;obtain⟨a,h1,h⟩:=h.out;obtain⟨l,h2,h⟩:=h.out;obtain⟨e1,e2⟩:=h;exact aep ho h1 h2 (by rw[e1,e2]);rename_i t ho;obtain⟨z,h1,h⟩:=h.out;obtain⟨e1,e2⟩:=h;exact aem ho h1 (by rw[e1,e2]);rename_i t x y ho;obtain⟨p,h1,hA⟩:=h.out;obtain⟨a,h2,hB⟩:=hA.out;obtain⟨lp,h3,hC⟩:=hB.out;obtain⟨id,off,e1,hD⟩:=Db hC;clear h hA hB hC;subst e1;split at hD;rename_i l el hk;obtain⟨q1,q2,q3,q4,Pb⟩:=hD;obtain⟨⟨n,g⟩,q5,q6⟩:=q1.out;exact aeu ho q5 h1 hk h2 h3 q6 q2 q3 (by rw[q4,Pb]);rename_i p l el hk;obtain⟨q1,q2,q3,q4,Pb⟩:=hD;obtain⟨⟨n,g⟩,q5,q6⟩:=q1.out;exact aev ho q5 h1 hk h2 h3 q6 q2 q3 (by rw[q4,Pb]);exact hD.elim
 ·rename_i c ho;split at h
  ·rename_i aY;split at h
   ·rename_i x y t t' ha ht;obtain⟨⟨elem,sz,z⟩,h1,hA⟩:=h.out;obtain⟨a,h2,hB⟩:=hA.out;obtain⟨b,h3,hC⟩:=hB.out;rcases J_ hC with⟨id,off,n,c0,e1,hD⟩|⟨n,l,e,e1,hD⟩;clear h hA hB hC;subst e1;obtain⟨⟨m,l'⟩,h4,rfl,g2,g3,g4,g5,hE⟩:=hD.out;split at hE;rename_i hk;obtain⟨rfl,rfl,g6,g7,g8⟩:=hE;exact aen ho aY (nY ha) (tp ht) h1 h2 g2 hk rfl h3 h4 g6 g3 g4 g5 (by rw[g7,g8]);exact hE.elim
    ·clear h hA hB hC;subst e1;obtain⟨⟨m,l'⟩,h4,h5,h6,h7,h8⟩:=hD.out;cases e with
     |exact=>rcases aau (t:=⟨0⟩) h8 with⟨_,h0,e1,e2⟩|⟨_,e1,e2⟩;exact aeo ho aY (nY ha) (tp ht) h1 h2 h3 h4 h5 h6 h7 h0 (by rw[e1,e2]);exact step_append ho aY (nY ha) (tp ht) h1 h2 h3 h4 h5 h6 h7 (by show (_:AS)=_;rw[<- e1,<- e2])
     |shut=>obtain⟨e0,e1,e2⟩:=h8;exact step_append ho aY (nY ha) (tp ht) h1 h2 h3 h4 h5 h6 h7 ⟨e0,by rw[<- e1,<- e2]⟩
     |opn i=>obtain⟨e0,e0',e1,e2⟩:=h8;exact step_append ho aY (nY ha) (tp ht) h1 h2 h3 h4 h5 h6 h7 ⟨e0,e0',by rw[<- e1,<- e2]⟩
   ·exact h.elim
  ·rename_i x aY;obtain⟨f,h1,hA⟩:=h.out;obtain⟨aL,h2,hB⟩:=hA.out;obtain⟨a0,H0,g1,g2,g3⟩:=hB;subst g2 g3;exact Pz ho aY h1 h2 (g1.mono (λa H h=>by rw[h.1,h.2]) λ_ _ h=>h.elim)
  ·rename_i x name aY;obtain⟨f,h1,hA⟩:=h.out;obtain⟨aL,h2,hB⟩:=hA.out;obtain⟨a0,H0,g1,g2,g3⟩:=hB;subst g2 g3;exact aer ho aY h1 h2 (λE V cv vs hc hd mG=>(g1 E V cv vs hc hd mG).mono (λ_ _ x=>Nx.mono (λ_ _ y=>y.mono (λa H h=>by rw[h.1,h.2]) λ_ _ h=>h.elim) x) λ_ _ y=>y.mono (λa H h=>by rw[h.1,h.2]) λ_ _ h=>h.elim)
  ·exact h.elim
 ·rename_i t x y ho;obtain⟨⟨e,sz,z⟩,h1,hA⟩:=h.out;obtain⟨a,h2,hB⟩:=hA.out;obtain⟨b,h3,hC⟩:=hB.out;obtain⟨j,n,e1,hD⟩:=oZ hC;obtain⟨j',n',e2,hE⟩:=oZ hD;clear h hA hB hC hD;subst e1 e2;obtain⟨e3,h4,h5,h6,h7⟩:=hE;subst e3;obtain⟨m,rfl⟩:∃m:Nat,n'=m:=⟨n'.toNat,by omega⟩;exact aes ho h1 h2 h3 (by omega) (by rw[WO]at h6 h7;rw[h6,h7])
 ·rename_i t len parts ho;obtain⟨⟨e,sz,z⟩,h1,h2,hA⟩:=h.out;obtain⟨j9,h3,hB⟩:=hA.out;obtain⟨l,h4,h5,h6⟩:=hB.out;exact aeq ho h1 h2 h3 h4 (by rw[h5,h6])
 ·exact h.elim
def kx.congr{T T':SH}{H:SA}(h:∀x∈o.op.operands,AS.ev ⟨T,H⟩ x=AS.ev ⟨T',H⟩ x)(ha:kx lv P G ⟨T,H⟩ o k):kx lv P G ⟨T',H⟩ o k:=by
 unfold kx at ha⊢;generalize o.op=op at h ha⊢;cases op with
 |box t x=>dsimp only at ha⊢;rw[<- h x (by simp[Uz])];exact ha
 |alloc t=>exact ha
 |store t x y=>dsimp only at ha⊢;rw[<- h x (by simp[Uz]),<- h y (by simp[Uz])];exact ha
 |call c=>
  have cU:∀x∈c.args.toList,AS.ev ⟨T,H⟩ x=AS.ev ⟨T',H⟩ x:=λx hx=>h x (by simp[Uz,Xy];exact .inr (by simpa using hx));dsimp only at ha⊢;split at ha
  ·split at ha;rename_i x y t t' hx ht;rw[hx]at cU;rw[<- cU x (by simp),<- cU y (by simp)];exact ha;exact ha.elim
  ·rename_i x aY;rw[<- h x (by simp[Uz,Xy,aY]),<- Do _ cU];exact ha
  ·rename_i x name aY;rw[<- h x (by simp[Uz,Xy,aY]),<- Do _ cU];exact ha
  ·exact ha.elim
 |makeSlice t x y=>dsimp only at ha⊢;rw[<- h x (by simp[Uz]),<- h y (by simp[Uz])];exact ha
 |buildSlice t len parts=>
  have e:kB ⟨T',H⟩ parts.toList=kB ⟨T,H⟩ parts.toList:=by
   have hp:∀p∈parts.toList,AS.ev ⟨T,H⟩ p.2=AS.ev ⟨T',H⟩ p.2:=λp hp=>h p.2 (by simp[Uz];exact⟨p.1,by simpa using hp⟩);clear ha;generalize parts.toList=l at hp;induction l with
   |nil=>rfl
   |cons p l ih=>simp only[kB,hp p UC,ih λq hq=>hp q (Ue _ hq)]
  dsimp only at ha⊢;rw[e];exact ha
 |_=>exact ha.elim
end
def oe (acc:List (Nat×SE))(j:Nat):SE:=((acc.find? (·.1==j)).map (·.2)).getD []
def gq (ops:SK):SE->List (Nat×SE)->List (Nat×SE)
 |[],acc=>acc
 |i::l,acc=>match ops[i]?with
  |some o=>gq ops l ((i,(cY o++(cY o).flatMap (oe acc)).eraseDups)::acc)
  |none=>gq ops l acc
def uO:SE->List (SE)
 |[]=>[[]]
 |x::l=>uO l++(uO l).map (x::·)
def xK (cl:List (Nat×SE))(es:SE)(i:Nat)(D:SE):Bool:=
 !D.contains i&&es.all λe=>(!(oe cl i).contains e||D.contains e)&&(!D.contains e||(!(oe cl e).contains i&&es.all λe'=> !(oe cl e).contains e'||D.contains e'))
def uA (es:SE)(i:Nat)(D:SE):SE:=es.filter λe=>e==i||D.contains e
structure pX where
 i:Nat
 eff:Bool
 aft:SE
 OL:List (SE×SE)
 deriving DecidableEq
def entry (cl:List (Nat×SE))(es X:SE)(i:Nat):pX:=
 let cur:=es.filter λe=>X.contains e
 ⟨i,es.contains i,uA es i cur,((uO es).filter λD=>xK cl es i D&&D !=cur).map λD=>(D,uA es i D)⟩
def oO (cl:List (Nat×SE))(es:SE):SE->SE->List pX
 |_,[]=>[]
 |X,i::B=>entry cl es X i::oO cl es (i::X) B
def IZ (ops:SK)(es ord:SE):List pX:=oO (gq ops ord []) es [] ord
def kL (ops:SK):SE->SE->Bool
 |_,[]=>true
 |X,i::B=> !X.contains i&&(match ops[i]?with
  |some o=>(cY o).all X.contains
  |none=>false)&&kL ops (i::X) B
def od (nt:Nat)(ops:SK)(es ord:SE):Bool:=
 let cl:=gq ops ord [];decide (ord.length=ops.size)&&kL ops [] ord&&ord.all λi=>match ops[i]?with
  |some o=>o.dst.all (·<nt)&& !mR o.op&&o.guard.isNone&&
   (ord.all λj=>i==j||match o.dst,dc ops j with
    |some d,some d'=>d !=d'
    |_,_=>true)&&
   (o.op.operands.toList.all λx=>match x with
    |.tmp t=>ord.all λj=>dc ops j !=some t||(cY o).contains j||(oe cl j).contains i
    |_=>true)
  |none=>false
def aax{acc:List (Nat×SE)}{j k:Nat}(h:k∈oe acc j):∃l,(j,l)∈acc/\k∈l:=by
 unfold oe at h;cases e:acc.find? (·.1==j)with
 |none=>rw[e]at h;simp at h
 |some x=>rw[e]at h;obtain⟨j',l⟩:=x;have h1:=List.mem_of_find?_eq_some e;have h2:=List.find?_some e;simp only[beq_iff_eq]at h2;subst h2;exact⟨l,h1,by simpa using h⟩
def Kv{ops:SK}:∀(ord:SE)(acc:List (Nat×SE)),(∀i l,(i,l)∈acc->∀j∈l,Reach ops i j)->∀i l,(i,l)∈gq ops ord acc->∀j∈l,Reach ops i j
 |[],acc,h=>h
 |x::ord,acc,h=>by
  unfold gq;split
  ·rename_i o ho;refine Kv ord _ λi l hm j hj=> ?_;rcases Tm.1 hm with e|hm
   ·cases e;rw[List.mem_eraseDups,T1]at hj;rcases hj with hj|hj;exact .KV ho hj;obtain⟨k,hk,hj⟩:=T8.1 hj;obtain⟨l',h1,h2⟩:=aax hj;exact .more ho hk (h _ _ h1 _ h2)
   ·exact h i l hm j hj
  ·exact Kv ord acc h
def AK{ops:SK}{ord:SE}{i j:Nat}(h:j∈oe (gq ops ord []) i):Reach ops i j:=by obtain⟨l,h1,h2⟩:=aax h;exact Kv ord [] (by simp) i l h1 j h2
def GM(p:Nat->Bool):∀l:SE,l.filter p∈uO l
 |[]=>by simp[uO]
 |x::l=>by unfold uO;rw[T1];by_cases h:p x=true;rw[List.filter_cons_of_pos h];exact .inr (Uh.2 ⟨_,GM p l,rfl⟩);rw[List.filter_cons_of_neg h];exact .inl (GM p l)
structure Ap (nt:Nat)(ops:Array Vp)(ord:SE):Prop where
 full:∀i,i<ops.size->i∈ord
 lt:∀i∈ord,i<ops.size
 top:kL ops [] ord=true
 dst:∀(i:Nat) o d,ops[i]?=some o->o.dst=some d->d<nt
 wW:∀(i:Nat) o,ops[i]?=some o->mR o.op=false
 DF:∀(i:Nat) o,ops[i]?=some o->o.guard=none
 Ct:∀(i j d:Nat),dc ops i=some d->dc ops j=some d->i=j
 OK:∀(i:Nat) o t j,ops[i]?=some o-> .tmp t∈o.op.operands->dc ops j=some t->j∈cY o\/Reach ops j i
def Cq{ops:SK}:∀{ord X:SE},kL ops X ord=true->ord.Nodup/\(∀i∈ord,i∉X)/\∀i∈ord,i<ops.size
 |[],_,_=>⟨XU,by simp,by simp⟩
 |i::B,X,h=>by simp only[kL,Ui,UV,Vq,decide_eq_false_iff_not]at h;obtain⟨⟨h1,h2⟩,h3⟩:=h;obtain⟨q1,q2,q3⟩:=Cq h3;refine⟨WU.2 ⟨λhm=>q2 i hm (UC ..),q1⟩,λj hj=> ?_,λj hj=> ?_⟩;rcases Tm.1 hj with rfl|hj;exact h1;(exactλhx=>q2 j hj (Ue _ hx));rcases Tm.1 hj with rfl|hj;apply Uv;intro hn;rw[ZK (by omega)]at h2;cases h2;exact q3 j hj
def od.out{nt:Nat}{ops:SK}{es ord:SE}(h:od nt ops es ord=true):Ap nt ops ord:=by
 unfold od at h;simp only[Ui,decide_eq_true_eq]at h;obtain⟨⟨hlen,nG⟩,h⟩:=h;obtain⟨fY,_,hlt⟩:=Cq nG;have xk:∀i,i<ops.size->i∈ord:=λi hi=>by
  apply Uv;intro hn;have mj:(i::ord)⊆Tt ops.size:=λj hj=>by rcases Tm.1 hj with rfl|hj;(simpa using hi);(simpa using hlt j hj)
  have:=(WU.2 ⟨hn,fY⟩).length_le_of_subset mj;simp at this;omega
 have key:∀(i:Nat) o,ops[i]?=some o->o.dst.all (·<nt)=true/\mR o.op=false/\o.guard.isNone=true/\(∀j∈ord,(i==j||match o.dst,dc ops j with
    |some d,some d'=>d !=d'
    |_,_=>true)=true)/\(∀x∈o.op.operands.toList,(match x with
    |.tmp t=>ord.all λj=>dc ops j !=some t||(cY o).contains j||(oe (gq ops ord []) j).contains i
    |_=>true)=true):=λi o ho=>by
  have hi:i<ops.size:=(Tw.1 ho).1;have:=Uq.1 h i (xk i hi);rw[ho]at this;simp only[Ui,Uq,UV]at this;exact⟨this.1.1.1.1,this.1.1.1.2,this.1.1.2,this.1.2,this.2⟩
 have aa2:∀j d,dc ops j=some d->j<ops.size:=λj d e=>by apply Uv;intro hn;rw[dc,ZK (by omega)]at e;cases e
 refine⟨xk,hlt,nG,λi o d ho hd=> ?_,λi o ho=>(key i o ho).2.1,λi o ho=>by simpa using(key i o ho).2.2.1,λi j d hi hj=> ?_,λi o t j ho ht hj=> ?_⟩;(have:=(key i o ho).1;rw[hd]at this;simpa using this);apply Uv;intro aN;obtain⟨o,ho,uc⟩:=Uj.1 hi;have:=(key i o ho).2.2.2.1 j (xk j (aa2 j d hj));rw[uc,hj]at this;simp[aN]at this;have:=(key i o ho).2.2.2.2 (.tmp t) (by simpa using ht);simp only[Uq]at this;have:=this j (xk j (aa2 j t hj));rw[hj]at this;simp only[bne_self_eq_false,ar_,XP,Vq,decide_eq_true_eq]at this;exact this.imp id AK
section
variable (lv:Bool)(P:Tl)(Hf:SE->SA)
def BQ (T:SH)(o:Vp)(av:AV):List (SE×SE)->Prop
 |[]=>True
 |(D,_)::l=>(AQ lv P ⟨T,Hf D⟩ o λa=>a=av)/\BQ T o av l
def BE (T:SH)(o:Vp)(av:AV):List (SE×SE)->Prop
 |[]=>True
 |(D,D')::l=>(kx lv P (Hf D') ⟨T,Hf D⟩ o λa H'=>a=av/\H'=Hf D')/\BE T o av l
structure CK (K:AS->Prop):Type where
 n:Nat
def fI (ops:SK):List pX->AS->(K:SV)->CK K->Prop
 |[],s,K,_=>K s
 |⟨i,false,_,l⟩::rest,s,K,t=>au (ops[i]?) λo=>AQ lv P s o λav=>BQ lv P Hf s.T o av l/\fI ops rest (s.put o.dst av) K t
 |⟨i,true,D,l⟩::rest,s,K,t=>au (ops[i]?) λo=>kx lv P (Hf D) s o λav H'=>H'=Hf D/\BE lv P Hf s.T o av l/\fI ops rest ((⟨s.T,H'⟩:AS).put o.dst av) K t
end
def TX (ops:SK)(T0:SH)(f:Nat->AV):SE->List (Nat×AV)
 |[]=>T0
 |i::X=>match dc ops i with
  |some d=>(d,f i)::TX ops T0 f X
  |none=>TX ops T0 f X
section
variable {ops:SK}{T0:SH}{f g:Nat->AV}
def CV:∀{X:SE},(∀j∈X,f j=g j)->TX ops T0 f X=TX ops T0 g X
 |[],_=>rfl
 |i::X,h=>by simp only[TX,CV (X:=X) λj hj=>h j (Ue _ hj),h i (UC ..)]
def CX(abV:∀(i j d:Nat),dc ops i=some d->dc ops j=some d->i=j):∀{X:SE}{j t:Nat},j∈X->dc ops j=some t->look (TX ops T0 f X) t=some (f j)
 |i::X,j,t,hj,ht=>by by_cases kF:i=j;subst kF;simp[TX,ht,look];have iW:j∈X:=(Tm.1 hj).resolve_left (Ne.symm kF);have ih:=CX abV (X:=X) iW ht;unfold TX;split;(rename_i d hd;have:d≠t:=λe=>kF (abV i j d hd (by rw[e];exact ht));simp only[look,if_neg this];exact ih);exact ih
def yl:∀{X:SE}{t:Nat},(∀j∈X,dc ops j≠some t)->look (TX ops T0 f X) t=look T0 t
 |[],_,_=>rfl
 |i::X,t,h=>by
  have ih:=yl (X:=X) (t:=t) λj hj=>h j (Ue _ hj);unfold TX;split
  ·rename_i d hd;have:d≠t:=λe=>h i (UC ..) (by rw[hd,e]);simp only[look,if_neg this];exact ih
  ·exact ih
def ym{H:SA}{X:SE}{i:Nat}{o:Vp}{av:AV}(ho:ops[i]?=some o)(hf:f i=av):(⟨TX ops T0 f X,H⟩:AS).put o.dst av=⟨TX ops T0 f (i::X),H⟩:=by
 have hd:dc ops i=o.dst:=by simp[dc,ho]
 have e:TX ops T0 f (i::X)=match dc ops i with
  |some d=>(d,f i)::TX ops T0 f X
  |none=>TX ops T0 f X:=rfl
 rw[e,hd];cases o.dst with
 |none=>rfl
 |some d=>simp[AS.put,hf]
def lj (ops:SK)(X:SE):Prop:=∀i∈X,∀o,ops[i]?=some o->∀j∈cY o,j∈X
def lj.reach{X:SE}(hX:lj ops X){i j:Nat}(hi:i∈X)(h:Reach ops i j):j∈X:=Cc hX h λo ho k hk=>hX i hi o ho k hk
def lj.cons{X:SE}(hX:lj ops X){i:Nat}{o:Vp}(ho:ops[i]?=some o)(hd:∀j∈cY o,j∈X):lj ops (i::X):=λk hk o' bl j hj=>by rcases Tm.1 hk with rfl|hk;rw[ho]at bl;cases bl;exact Ue _ (hd j hj);exact Ue _ (hX k hk o' bl j hj)
def afB{nt:Nat}{ord:SE}(an:Ap nt ops ord){X X':SE}{i:Nat}{o:Vp}(ho:ops[i]?=some o)(hX:lj ops X)(pj:lj ops X')(hi:i∉X)(cN:i∉X')(hd:∀j∈cY o,j∈X)(cM:∀j∈cY o,j∈X'){t:Nat}(ht: .tmp t∈o.op.operands):
  look (TX ops T0 f X) t=look (TX ops T0 f X') t:=by
 by_cases hex:∃j,dc ops j=some t;obtain⟨j,hj⟩:=hex;rcases an.OK i o t j ho ht hj with h|h;rw[CX an.Ct (hd j h) hj,CX an.Ct (cM j h) hj];rw[yl λj' iW e=>hi (hX.reach (an.Ct j j' t hj e▸iW) h),yl λj' iW e=>cN (pj.reach (an.Ct j j' t hj e▸iW) h)];rw[yl λj _ e=>hex ⟨j,e⟩,yl λj _ e=>hex ⟨j,e⟩]
end
section
variable {lv:Bool}{P:Tl}{r:SL}{ops:SK}{Hf:SE->SA}{T0:SH}{es ord:SE}{nt:Nat}
def done (es X:SE):SE:=es.filter λe=>X.contains e
def GF{X:SE}{i:Nat}:uA es i (done es X)=done es (i::X):=by unfold uA done;apply WB;intro e he;by_cases h:e=i;subst h;simp;simp[Vx,he,h]
def KL{X:SE}{i:Nat}(hi:i∉es):done es (i::X)=done es X:=by unfold done;apply WB;intro e he;have:e≠i:=λh=>hi (h▸he);simp[this]
def KM{X:SE}(hX:lj ops X){i:Nat}{o:Vp}(ho:ops[i]?=some o)(hi:i∉X)(hd:∀j∈cY o,j∈X):xK (gq ops ord []) es i (done es X)=true:=by
 have ce:∀e,e∈es->(e∈done es X<->e∈X):=λe he=>by simp[done,Vx,he]
 have hX2:=hX.cons ho hd;unfold xK;simp only[Ui,UV,Vq,decide_eq_false_iff_not,Uq,XP,decide_eq_true_eq];refine⟨λh=>hi (by simpa[done]using(Vx.1 h).2),λe he=>⟨?_,?_⟩⟩;by_cases h:e∈oe (gq ops ord []) i;(right;rw[ce e he];exact Cc hX (AK h) λo' bl k hk=>by rw[ho]at bl;cases bl;exact hd k hk);exact .inl h;by_cases h:e∈X;right;refine⟨λhm=>hi (hX.reach h (AK hm)),λe' kE=> ?_⟩;by_cases hm:e'∈oe (gq ops ord []) e;right;rw[ce e' kE];exact hX.reach h (AK hm);exact .inl hm;left;rw[ce e he];exact h
def OB (lv:Bool)(P:Tl)(r:SL)(ops:SK)(Hf:SE->SA)(T0:SH)(es:SE)(f:Nat->AV)(i:Nat)(o:Vp)(X:SE):Prop:=
 if i∈es then kx lv P (Hf (done es (i::X))) ⟨TX ops T0 f X,Hf (done es X)⟩ o (λa H'=>a=f i/\H'=Hf (done es (i::X)))
 else∃T,(∀t a,look T t=some a->look (TX ops T0 f X) t=some a)/\dH lv P r o ⟨T,Hf (done es X)⟩ (f i)
def BQ.mem{T:SH}{o:Vp}{av:AV}:∀{l:List (SE×SE)},BQ lv P Hf T o av l->∀p∈l,AQ lv P ⟨T,Hf p.1⟩ o λa=>a=av
 |(D,D')::l,h,p,hp=>by rcases Tm.1 hp with rfl|hp;exact h.1;exact BQ.mem h.2 p hp
def BE.mem{T:SH}{o:Vp}{av:AV}:∀{l:List (SE×SE)},BE lv P Hf T o av l->∀p∈l,kx lv P (Hf p.2) ⟨T,Hf p.1⟩ o λa H'=>a=av/\H'=Hf p.2
 |(D,D')::l,h,p,hp=>by rcases Tm.1 hp with rfl|hp;exact h.1;exact BE.mem h.2 p hp
def canon (T:SH):List Up->List (Nat×AV)
 |[]=>[]
 |.tmp t::l=>match look T t with
  |some a=>(t,a)::canon T l
  |none=>canon T l
 |_::l=>canon T l
def Kt{T:SH}:∀{l:List Up}{t:Nat}{a:AV},look (canon T l) t=some a->look T t=some a
 |[],_,_,h=>by cases h
 |x::l,t,a,h=>by
  have ih:=@Kt T l t a;cases x with
  |tmp t'=>simp only[canon]at h;split at h;rename_i b hb;simp only[look]at h;split at h;rename_i e;subst e;cases h;exact hb;exact ih h;exact ih h
  |_=>exact ih h
def Rb{T:SH}:∀{l:List Up}{t:Nat},.tmp t∈l->look (canon T l) t=look T t
 |x::l,t,h=>by
  by_cases hx:x=.tmp t
  ·subst hx;simp only[canon];split;rename_i b hb;simp[look,hb]
   ·rename_i hb;rw[hb];cases e:look (canon T l) t with
    |none=>rfl
    |some a=>have:=Kt e;rw[hb]at this;cases this
  ·have hm: .tmp t∈l:=(Tm.1 h).resolve_left (Ne.symm hx);have ih:=Rb (T:=T) hm;cases x with
   |tmp t'=>
    have aN:t'≠t:=λe=>hx (by rw[e]);simp only[canon];split
    ·simp only[look,if_neg aN];exact ih
    ·exact ih
   |_=>exact ih
def Ra{T:SH}:∀{l:List Up}{t:Nat}{a:AV},look (canon T l) t=some a-> .tmp t∈l
 |[],_,_,h=>by cases h
 |x::l,t,a,h=>by
  have ih:=@Ra T l t a;cases x with
  |tmp t'=>simp only[canon]at h;split at h;simp only[look]at h;split at h;rename_i e;subst e;exact UC ..;exact Ue _ (ih h);exact Ue _ (ih h)
  |_=>exact Ue _ (ih h)
def Q_{T:SH}{H:SA}{l:List Up}{x:Up}(h:x∈l):AS.ev ⟨T,H⟩ x=AS.ev ⟨canon T l,H⟩ x:=by
 cases x with
 |tmp t=>exact(Rb h).symm
 |_=>rfl
def AH(an:Ap nt ops ord){K:SV}{tk:CK K}:∀(B X:SE)(acc:Nat->AV),kL ops X B=true->lj ops X->fI lv P Hf ops (oO (gq ops ord []) es X B) ⟨TX ops T0 acc X,Hf (done es X)⟩ K tk->
  ∃f,(∀j∈X,f j=acc j)/\(∀i∈B,∀o,ops[i]?=some o->∀X',lj ops X'->i∉X'->(∀j∈cY o,j∈X')->OB lv P r ops Hf T0 es f i o X')/\K ⟨TX ops T0 f (B.reverse++X),Hf (done es (B.reverse++X))⟩
 |[],X,acc,_,_,h=>⟨acc,λ_ _=>rfl,by simp,by simpa[oO,fI]using h⟩
 |i::B,X,acc,nG,hX,h=>by
  have awA:=nG;simp only[kL,Ui,UV,Vq,decide_eq_false_iff_not]at nG;obtain⟨⟨hi,h2⟩,h3⟩:=nG;cases ho:ops[i]?with
  |none=>rw[ho]at h2;cases h2
  |some o=>
  rw[ho]at h2;have hd:∀j∈cY o,j∈X:=λj hj=>by have:=Uq.1 h2 j hj;simpa using this
  have pj:=hX.cons ho hd;have awl:xK (gq ops ord []) es i (done es X)=true:=KM hX ho hi hd;have OL:∀D,D∈uO es->xK (gq ops ord []) es i D=true->D≠done es X->(D,uA es i D)∈((uO es).filter λD=>xK (gq ops ord []) es i D&&D !=done es X).map λD=>(D,uA es i D):=λD h1 h2 h3=>Uh.2 ⟨D,Vx.2 ⟨h1,by simp[h2,h3]⟩,rfl⟩;have Qk:∀av:AV,TX ops T0 acc X=TX ops T0 (λj=>if j=i then av else acc j) X:=λav=>CV λj hj=>by have:j≠i:=λe=>hi (e▸hj);simp[this]
  have seen:∀(f:Nat->AV) X',(∀j∈X,f j=acc j)->lj ops X'->i∉X'->(∀j∈cY o,j∈X')->∀(H:SA),∀x∈o.op.operands,AS.ev ⟨TX ops T0 acc X,H⟩ x=AS.ev ⟨TX ops T0 f X',H⟩ x:=λf X' hf hc hn cM H x hx=>by
   cases x with
   |tmp t=>show look _ t=look _ t;rw[<- CV (f:=f) (g:=acc) hf];exact afB an ho hX hc hi hn hd cM hx
   |_=>rfl
  unfold oO at h;by_cases dL:i∈es
  ·have Mt:entry (gq ops ord []) es X i=⟨i,true,uA es i (done es X),((uO es).filter λD=>xK (gq ops ord []) es i D&&D !=done es X).map λD=>(D,uA es i D)⟩:=by unfold entry done;simp[dL]
   rw[Mt,fI,ho,au]at h;obtain⟨av,H',g1,e1,g2,g3⟩:=h.ex;subst e1;rw[GF]at g1 g3;rw[Qk av,ym ho (by simp)]at g3;obtain⟨f,q1,q2,q3⟩:=AH an B (i::X) _ h3 pj g3;have Mw:f i=av:=(by have:=q1 i (UC ..);simpa using this);have Ea:∀j∈X,f j=acc j:=λj hj=>by have:=q1 j (Ue _ hj);have aN:j≠i:=λe=>hi (e▸hj);simpa[aN]using this
   refine⟨f,Ea,λk hk o' bl X' hc hn cM=> ?_,by simpa using q3⟩;rcases Tm.1 hk with rfl|hk;rw[ho]at bl;cases bl;unfold OB;rw[if_pos dL,Mw];refine kx.congr (T:=TX ops T0 acc X) (seen f X' Ea hc hn cM _) ?_;by_cases hD:done es X'=done es X;rw[<- GF,hD,GF];exact g1;have:=g2.mem _ (OL _ (GM _ es) (KM hc ho hn cM) hD);rw[<- GF];exact this;exact q2 k hk o' bl X' hc hn cM
  ·have Mt:entry (gq ops ord []) es X i=⟨i,false,uA es i (done es X),((uO es).filter λD=>xK (gq ops ord []) es i D&&D !=done es X).map λD=>(D,uA es i D)⟩:=by unfold entry done;simp[dL]
   rw[Mt,fI,ho,au]at h;have h':=AQ.congr (T':=canon (TX ops T0 acc X) o.op.operands.toList) (λx hx=>Q_ (by simpa using hx)) h;obtain⟨av,g1,g2,g3⟩:=h'.sound (r:=r);rw[Qk av,ym ho (by simp),<- KL (X:=X) dL]at g3;obtain⟨f,q1,q2,q3⟩:=AH an B (i::X) _ h3 pj g3;have Mw:f i=av:=(by have:=q1 i (UC ..);simpa using this);have Ea:∀j∈X,f j=acc j:=λj hj=>by have:=q1 j (Ue _ hj);have aN:j≠i:=λe=>hi (e▸hj);simpa[aN]using this
   refine⟨f,Ea,λk hk o' bl X' hc hn cM=> ?_,by simpa using q3⟩;rcases Tm.1 hk with rfl|hk;rw[ho]at bl;cases bl;unfold OB;rw[if_neg dL,Mw];refine⟨canon (TX ops T0 acc X) o.op.operands.toList,λt a e=> ?_,?_⟩;have h1:=seen f X' Ea hc hn cM [] (.tmp t) (by simpa using Ra e);have h2:look (TX ops T0 acc X) t=look (TX ops T0 f X') t:=h1;rw[<- h2];exact Kt e;by_cases hD:done es X'=done es X;rw[hD];exact g1;have h1:=g2.mem _ (OL _ (GM _ es) (KM hc ho hn cM) hD);have h2:=AQ.congr (T':=canon (TX ops T0 acc X) o.op.operands.toList) (λx hx=>Q_ (by simpa using hx)) h1;obtain⟨ni,h3,rfl⟩:=h2.sound (r:=r);exact h3;exact q2 k hk o' bl X' hc hn cM
def CW{f:Nat->AV}(an:Ap nt ops ord){X X':SE}(h:∀i,i∈X<->i∈X')(t:Nat):look (TX ops T0 f X) t=look (TX ops T0 f X') t:=by by_cases hex:∃j∈X,dc ops j=some t;obtain⟨j,hj,hd⟩:=hex;rw[CX an.Ct hj hd,CX an.Ct ((h j).1 hj) hd];rw[yl λj hj e=>hex ⟨j,hj,e⟩,yl λj hj e=>hex ⟨j,(h j).2 hj,e⟩]
def Dn{X X':SE}(h:∀i,i∈X<->i∈X'):done es X=done es X':=by unfold done;apply WB;intro e _;have:=h e;by_cases h1:e∈X;have h2:=this.1 h1;simp[h1,h2];(have h2:e∉X':=λx=>h1 (this.2 x);simp[h1,h2])
def RD{f:Nat->AV}(an:Ap nt ops ord)(aB:∀i∈ord,∀o,ops[i]?=some o->∀X',lj ops X'->i∉X'->(∀j∈cY o,j∈X')->OB lv P r ops Hf T0 es f i o X'){X l:SE}(hs:l5 ops X l):
  (∀i∈X,i<ops.size)->lj ops X->∀(E:Env)(V:View)(a:Act)(Q:SJ),At E V ⟨TX ops T0 f X,Hf (done es X)⟩ a nt->
   (∀E' V' a' X',Kept E E' V V' a a'->At E' V' ⟨TX ops T0 f X',Hf (done es X')⟩ a' nt->(∀i,i∈X'<->i<ops.size)->Q .normal a' V')->dq lv P r ops Q l a V:=by
 induction hs with
 |nil X h=>intro hX hc E V a Q ak hQ;exact hQ E V a X (Kept.refl E V a) ak λi=>⟨hX i,h i⟩
 |cons o ho hn hd kX ih=>
  rename_i X i l;intro hX hc E V a Q ak hQ;have hi:i<ops.size:=(Tw.1 ho).1;simp only[dq,ho];have pj:∀k∈i::X,k<ops.size:=λk hk=>(Tm.1 hk).elim (λe=>by rw[e];exact hi) (hX k);have bu:=hc.cons ho hd;have hw:Uo o (yielded ops a.tmps)=true:=by unfold Uo;rw[an.DF i o ho]
  rw[if_pos hw];refine .inl ?_;have dC:∀d,o.dst=some d->d<a.tmps.size:=λd e=>by rw[ak.size];exact an.dst i o d ho e
  have mf:=aB i (an.full i hi) o ho X hc hn hd;unfold OB at mf;by_cases dL:i∈es;(rw[if_pos dL]at mf;have aU:=mf.step (r:=r) (bad:=λ_ _=>False);refine aU E V a _ Q ak.bx ak.tok dC (.inr (an.wW i o ho)) (λE' V' a' s' hk cg ht e=> ?_) λ_ _ _ _ _ _ _ _ _ h=>h.elim;subst e;rw[ym ho rfl]at ht cg;exact ih pj bu E' V' a' Q ⟨cg,ht,hk.size.trans ak.size⟩ λbZ aZ cD nh aO dt fL=>hQ bZ aZ cD nh (hk.trans aO) dt fL);(rw[if_neg dL]at mf;obtain⟨T,hT,hq⟩:=mf;refine hq E V a _ Q ak.bx (λt av e=>ak.tok t av (hT t av e)) (.inr (an.wW i o ho)) λE' V' v hle cr fB cg hv=> ?_;have ht:cu E' ((⟨TX ops T0 f X,Hf (done es X)⟩:AS).put o.dst (f i)).T (a.put o.dst v).tmps:=cu.iy (s:=⟨TX ops T0 f X,Hf (done es X)⟩) (ak.tok.mono hle) dC hv;rw[ym ho rfl]at ht;refine ih pj bu E' V' (a.put o.dst v) Q ⟨by rw[KL dL];exact cg,ht,(ek _ _ _).trans ak.size⟩ λbZ aZ cD nh hk dt fL=>hQ bZ aZ cD nh ⟨hle.trans hk.le,hk.size.trans (ek _ _ _),hk.defers.trans (put_defers _ _ _),hk.role.trans cr,hk.deaf.trans fB⟩ dt fL)
def ahd{s:AS}{id:Nat}{Φ:SI}(es ord:SE)(pl:List pX)(Hf:SE->SA)(hm:P.follows .mixedOrders=true)(an:od nt ops es ord=true)(cJ:IZ ops es ord=pl)(h0:s.H=Hf [])
  (h:fI lv P Hf ops pl s (Φ .normal) ⟨0⟩):aW lv P r nt (.region id ops true) s Φ:=by
 intro E V a Q ak hQ;have an:=od.out an;obtain⟨fY,_,hlt⟩:=Cq an.top;have cx:s=⟨TX ops s.T (λ_=> .val undef) [],Hf (done es [])⟩:=by
  have:done es []=[]:=by simp[done]
  rw[this,<- h0];rfl
 subst cJ;have h':fI lv P Hf ops (oO (gq ops ord []) es [] ord) ⟨TX ops s.T (λ_=> .val undef) [],Hf (done es [])⟩ (Φ .normal) ⟨0⟩:=by rw[<- cx];exact h
 obtain⟨f,_,q2,q3⟩:=AH (r:=r) an ord [] _ an.top (λi hi=>by cases hi) h';have xk:∀i,i∈ord<->i<ops.size:=λi=>⟨hlt i,an.full i⟩;refine PT λt=> ?_;rw[show W6 (P.follows .mixedOrders) ops t=VC .any ops ops.size t (US ops.size false) [] by unfold W6;rw[hm];simp[ag2]];have binds:∀(A B:SE)(X:SE),kL ops X (A++B)=true->True:=λ_ _ _ _=>trivial;have ready:∀(ord X:SE),kL ops X ord=true->∀A i B,ord=A++i::B->∃o,ops[i]?=some o/\∀j∈cY o,j∈A\/j∈X:=by
  intro ord;induction ord with
  |nil=>intro X _ A i B e;cases A<;>cases e
  |cons x l ih=>
   intro X nG A i B e;simp only[kL,Ui,UV,Vq,decide_eq_false_iff_not]at nG;obtain⟨⟨h1,h2⟩,h3⟩:=nG;cases A with
   |nil=>
    have e1:x=i:=(by have:=congrArg axq e;simpa using this);rw[e1]at h2;cases ho:ops[i]?with
    |none=>rw[ho]at h2;cases h2
    |some o=>rw[ho]at h2;exact⟨o,rfl,λj hj=> .inr (by have:=Uq.1 h2 j hj;simpa using this)⟩
   |cons y A=>cases e;obtain⟨o,ho,hb⟩:=ih (x::X) h3 A i B rfl;refine⟨o,ho,λj hj=> ?_⟩;rcases hb j hj with h|h;exact .inl (Ue _ h);rcases Tm.1 h with rfl|h;exact .inl (UC ..);exact .inr h
 have hs:=Og (ops:=ops) (λi o ho j hj=>by
   obtain⟨A,B,e⟩:=ae_ (an.full i (Tw.1 ho).1);obtain⟨o',bl,hb⟩:=ready ord [] an.top A i B e;rw[ho]at bl;cases bl;rcases hb j hj with h|h;exact hlt j (by rw[e];exact Uk _ h)
   ·cases h)
  (λX ⟨i,hi,hn⟩=>by
   obtain⟨A,i',B,e,h1,h2⟩:=Lj (X:=X) ⟨i,an.full i hi,hn⟩;obtain⟨o',bl,hb⟩:=ready ord [] an.top A i' B e;refine⟨i',o',bl,h1,λj hj=> ?_⟩;rcases hb j hj with h|h;exact h2 j h
   ·cases h)
  ops.size t (US ops.size false) [] ⟨by simp,λi hi=>by simp[hi]⟩ (UJ aa3 (by simp))
 have rj:At E V ⟨TX ops s.T f [],Hf (done es [])⟩ a nt:=by have e:(⟨TX ops s.T f [],Hf (done es [])⟩:AS)=s:=cx.symm;rw[e];exact ak
 refine RD (Hf:=Hf) (es:=es) an q2 hs (by simp) (λi hi=>by cases hi) E V a Q rj λE' V' a' X' hk aX fL=> ?_;have e_:∀i,i∈X'<->i∈ord.reverse++[]:=λi=>by simp[fL,xk]
 refine hQ .normal .normal E' V' a' _ hk ⟨?_,λt x e=> ?_,aX.size⟩ trivial q3;rw[<- Dn e_];exact aX.bx;rw[<- CW an e_]at e;exact aX.tok t x e
end
def isDone (j:Nat)(D:SE):Bool:=D.contains j
def an3(j:Nat):isDone j []=false:=by simp[isDone]
def an2(i j:Nat)(D:SE):isDone j (i::D)=((j==i)||isDone j D):=by by_cases h:j=i<;>simp[isDone,h]
def ah4(lv:Bool)(P:Tl)(Hf:SE->SA)(T:SH)(o:Vp)(av:AV):BQ lv P Hf T o av []=True:=by rw[BQ]
def ah3(lv:Bool)(P:Tl)(Hf:SE->SA)(T:SH)(o:Vp)(av:AV)(D D':SE)(l:List (SE×SE)):BQ lv P Hf T o av ((D,D')::l)=((AQ lv P ⟨T,Hf D⟩ o λa=>a=av)/\BQ lv P Hf T o av l):=by rw[BQ]
def ahC(lv:Bool)(P:Tl)(Hf:SE->SA)(T:SH)(o:Vp)(av:AV):BE lv P Hf T o av []=True:=by rw[BE]
def ahB(lv:Bool)(P:Tl)(Hf:SE->SA)(T:SH)(o:Vp)(av:AV)(D D':SE)(l:List (SE×SE)):BE lv P Hf T o av ((D,D')::l)=((kx lv P (Hf D') ⟨T,Hf D⟩ o λa H'=>a=av/\H'=Hf D')/\BE lv P Hf T o av l):=by rw[BE]
def ahy:type_of% @fI.eq_1:=by intros;rw[fI.eq_1]
def ahz:type_of% @fI.eq_2:=by intros;rw[fI.eq_2]
def ahx:type_of% @fI.eq_3:=by intros;rw[fI.eq_3]
def afN:type_of% @kx.eq_1:=by intros;rw[kx.eq_1]
def ai1(G H:SA)(k:SF)(n m sz:Nat)(elem:TypeId)(l l':SC):rW G H k n m sz elem l l' .exact=kz G[H.length]? (0<m/\k (.bB H.length 0 (n+m) 0) (H++[.own sz (l++l') elem])) (k (.sl (n+m) (l++l') (.opn H.length)) (H++[.tail (n+m) sz elem])) ⟨0⟩:=by rw[rW]
def alv(X Y:Prop)(t:mA X Y):kz none X Y t=Y:=by rw[kz];simp
def alw(a:Nat)(b:SC)(c:TypeId)(X Y:Prop)(t:mA X Y):kz (some (.own a b c)) X Y t=X:=by rw[kz]
def alu(b:SC)(c:TypeId)(X Y:Prop)(t:mA X Y):kz (some (.cells b c)) X Y t=Y:=by rw[kz];simp
def alz(a b:Nat)(c:TypeId)(X Y:Prop)(t:mA X Y):kz (some (.tail a b c)) X Y t=Y:=by rw[kz];simp
def alt(b:Obj)(X Y:Prop)(t:mA X Y):kz (some (.obj b)) X Y t=Y:=by rw[kz];simp
def aly(a:Nat)(b:SC)(c:TypeId)(X Y:Prop)(t:mA X Y):kz (some (.part a b c)) X Y t=Y:=by rw[kz];simp
@[congr] theorem awf {x x' : Option aa} {X Y : Prop} {t : mA X Y} (h : x = x') : kz x X Y t = kz x' X Y t := by rw[h]
def ai2(G H:SA)(k:SF)(n m sz:Nat)(elem:TypeId)(l l':SC)(i:Nat):rW G H k n m sz elem l l' (.opn i)=((match H[i]?with
   |some (.tail n' eQ gW)=>n'=n/\eQ=sz/\gW=elem
   |_=>False)/\(∀a∈l',a.leaf=true)/\k (.sl (n+m) (l++l') (.opn i)) (H.set i (.tail (n+m) sz elem))):=by first|(rw[rW];done)|(rw[rW];rfl)
section
variable {lv:Bool}{P:Tl}{s s':AS}
@[congr] theorem avD {G G' : SA} {o : Vp} {k : AV -> SA -> Prop} (hG : G = G') (h : s = s') : kx lv P G s o k = kx lv P G' s' o k := by rw[hG, h]
@[congr] theorem av2 {Hf : SE -> SA} {ops : Array Vp} {l l' : List pX} {K : AS -> Prop} {t : CK K} (hl : l = l') (h : s = s') : fI lv P Hf ops l s K t = fI lv P Hf ops l' s' K t := by rw[hl, h]
@[congr] theorem av5 {Hf : SE -> SA} {T T' : List (Nat × AV)} {o : Vp} {av ni : AV} {l l' : List (SE × SE)} (h1 : T = T') (h2 : av = ni) (h3 : l = l') : BQ lv P Hf T o av l = BQ lv P Hf T' o ni l' := by rw[h1, h2, h3]
@[congr] theorem av3 {Hf : SE -> SA} {T T' : List (Nat × AV)} {o : Vp} {av ni : AV} {l l' : List (SE × SE)} (h1 : T = T') (h2 : av = ni) (h3 : l = l') : BE lv P Hf T o av l = BE lv P Hf T' o ni l' := by rw[h1, h2, h3]
@[congr] theorem awa {f f' : AV} {H H' : SA} {aL u6 : SC} {k : AV -> SA -> Prop} {t : CL k} (h1 : f = f') (h2 : H = H') (h3 : aL = u6) : FZ lv P f H aL k t = FZ lv P f' H' u6 k t := by rw[h1, h2, h3]
@[congr] theorem awb {f f' : AV} {name : String} {H H' : SA} {aL u6 : SC} {k : AV -> SA -> Prop} {t : CL k} (h1 : f = f') (h2 : H = H') (h3 : aL = u6) : JO lv P f name H aL k t = JO lv P f' name H' u6 k t := by rw[h1, h2, h3]
@[congr] theorem av9 {G G' H H' : SA} {k : AV -> SA -> Prop} {n n' m m' sz : Nat} {elem : TypeId} {l l' x x' : SC} {e e' : End} (hG : G = G') (h0 : H = H') (h1 : n = n') (h2 : m = m') (h3 : l = l') (h4 : x = x') (h5 : e = e') : rW G H k n m sz elem l x e = rW G' H' k n' m' sz elem l' x' e' := by rw[hG, h0, h1, h2, h3, h4, h5]
end
attribute [seval] an3 an2 ah4 ah3 ahC ahB ahy ahz ahx afN ai1 ai2 alv alw alu alz alt aly Bool.true_or Bool.false_or Bool.or_true Bool.or_false cond_true cond_false
def behind (j:Nat)(o:Vp):Vp:={o with after:=o.after.push {on:=j,ground:=.data}}
def oY (ops:SK)(i j:Nat):Array Vp:=ops.modify i (behind j)
def agq(ops:SK)(i j:Nat):(oY ops i j).size=ops.size:=by simp[oY]
def sg(ops:SK)(i j k:Nat):(oY ops i j)[k]?=if i=k then(ops[k]?).map (behind j)else ops[k]?:=by unfold oY;rw[Wr]
def ahF(j:Nat)(o:Vp):cY (behind j o)=cY o++[j]:=by unfold cY behind;simp only[Array.toList_push,List.filterMap_append];rfl
def adO{ops:SK}{i j:Nat}{X l:SE}(h:l5 ops X l):j∈X->l5 (oY ops i j) X l:=by
 induction h with
 |nil X h=>exactλ_=> .nil X λk hk=>h k (by rwa[agq]at hk)
 |cons o ho hn hd kX ih=>
  rename_i X k l;intro hj;by_cases e:i=k
  ·exact .cons (behind j o) (by rw[sg,if_pos e,ho];rfl) hn (λq hq=>by
    rw[ahF]at hq;rcases T1.1 hq with hq|hq;exact hd q hq
    ·rw[Ub.1 hq];exact hj) (ih (Ue _ hj))
  ·exact .cons o (by rw[sg,if_neg e];exact ho) hn hd (ih (Ue _ hj))
def asF{ops:SK}{i j:Nat}(kF:i≠j)(hi:i<ops.size){X l:SE}(h:l5 ops X l):i∉X->j∉X->l5 (oY ops i j) X l\/l5 (oY ops j i) X l:=by
 induction h with
 |nil X h=>exactλh1 _=>absurd (h i hi) h1
 |cons o ho hn hd kX ih=>rename_i X k l;intro h1 h2;by_cases e:k=i;subst e;exact .inr (.cons o (by rw[sg,if_neg (Ne.symm kF)];exact ho) hn hd (adO kX UC));by_cases e2:k=j;subst e2;exact .inl (.cons o (by rw[sg,if_neg kF];exact ho) hn hd (adO kX UC));rcases ih (λhm=>(Tm.1 hm).elim (λx=>e x.symm) h1) (λhm=>(Tm.1 hm).elim (λx=>e2 x.symm) h2)with q|q;exact .inl (.cons o (by rw[sg,if_neg (Ne.symm e)];exact ho) hn hd q);exact .inr (.cons o (by rw[sg,if_neg (Ne.symm e2)];exact ho) hn hd q)
section
variable {lv:Bool}{P:Tl}{r:SL}{ops:SK}{nt:Nat}
def agr(i j:Nat)(tmps:SG):yielded (oY ops i j) tmps=yielded ops tmps:=by funext k;unfold yielded;rw[sg];by_cases e:i=k;rw[if_pos e];cases ops[k]?<;>rfl;rw[if_neg e]
def Qn(i j:Nat)(Q:SJ):∀l:SE,dq lv P r (oY ops i j) Q l=dq lv P r ops Q l
 |[]=>rfl
 |k::l=>by
  funext a V;have ih:=Qn i j Q l;simp only[dq];rw[sg,agr,ih];by_cases e:i=k
  ·rw[if_pos e];cases ho:ops[k]?with
   |none=>rfl
   |some o=>rfl
  ·rw[if_neg e]
def J5(i j:Nat)(Hf:SE->SA)(K:SV)(t:CK K):∀(pl:List pX)(s:AS),fI lv P Hf (oY ops i j) pl s K t=fI lv P Hf ops pl s K t
 |[],_=>rfl
 |⟨k,false,_,l⟩::rest,s=>by
  have ih:=J5 i j Hf K t rest;simp only[fI,sg];have e:∀o,au (some o) (λo=>AQ lv P s o λav=>BQ lv P Hf s.T o av l/\fI lv P Hf (oY ops i j) rest (s.put o.dst av) K t)=au (some o) (λo=>AQ lv P s o λav=>BQ lv P Hf s.T o av l/\fI lv P Hf ops rest (s.put o.dst av) K t):=λo=>by simp only[au,ih]
  have bq:∀(o:Vp) av,BQ lv P Hf s.T (behind j o) av l=BQ lv P Hf s.T o av l:=λo av=>by
   induction l with
   |nil=>rfl
   |cons p l lQ=>exact congrArg (λx=>_/\x) (lQ λo=>by simp only[au,ih])
  split
  ·cases ops[k]?with
   |none=>rfl
   |some o=>simp only[VT,au,ih,bq];rfl
  ·cases ops[k]?with
   |none=>rfl
   |some o=>exact e o
 |⟨k,true,D,l⟩::rest,s=>by
  have ih:=J5 i j Hf K t rest;simp only[fI,sg];have be:∀(o:Vp) av,BE lv P Hf s.T (behind j o) av l=BE lv P Hf s.T o av l:=λo av=>by
   induction l with
   |nil=>rfl
   |cons p l lQ=>exact congrArg (λx=>_/\x) lQ
  split
  ·cases ops[k]?with
   |none=>rfl
   |some o=>simp only[VT,au,ih,be];rfl
  ·cases ops[k]?with
   |none=>rfl
   |some o=>simp only[au,ih]
def aiL{s:AS}{id:Nat}{Φ:SI}{es ord l:SE}{Hf:SE->SA}(an:od nt ops es ord=true)(h0:s.H=Hf [])(h:fI lv P Hf ops (IZ ops es ord) s (Φ .normal) ⟨0⟩)(hs:l5 ops [] l){E:Env}{V:View}{a:Act}{Q:SJ}(ak:At E V s a nt)
  (hQ:∀ae e E' V' a' s',Kept E E' V V' a a'->At E' V' s' a' nt->pS E' ae e->Φ ae s'->Q e a' V'):dq lv P r ops Q l a V:=by
 have an:=od.out an;obtain⟨fY,_,hlt⟩:=Cq an.top;have cx:s=⟨TX ops s.T (λ_=> .val undef) [],Hf (done es [])⟩:=by
  have:done es []=[]:=by simp[done]
  rw[this,<- h0];rfl
 have h':fI lv P Hf ops (oO (gq ops ord []) es [] ord) ⟨TX ops s.T (λ_=> .val undef) [],Hf (done es [])⟩ (Φ .normal) ⟨0⟩:=by rw[<- cx];exact h
 obtain⟨f,_,q2,q3⟩:=AH (r:=r) an ord [] _ an.top (λi hi=>by cases hi) h';have xk:∀i,i∈ord<->i<ops.size:=λi=>⟨hlt i,an.full i⟩;have rj:At E V ⟨TX ops s.T f [],Hf (done es [])⟩ a nt:=by have e:(⟨TX ops s.T f [],Hf (done es [])⟩:AS)=s:=cx.symm;rw[e];exact ak
 refine RD (Hf:=Hf) (es:=es) an q2 hs (by simp) (λi hi=>by cases hi) E V a Q rj λE' V' a' X' hk aX fL=> ?_;have e_:∀i,i∈X'<->i∈ord.reverse++[]:=λi=>by simp[fL,xk]
 refine hQ .normal .normal E' V' a' _ hk ⟨?_,λt x e=> ?_,aX.size⟩ trivial q3;rw[<- Dn e_];exact aX.bx;rw[<- CW an e_]at e;exact aX.tok t x e
def aiN{es ord:SE}(an:od nt ops es ord=true)(t:Nat):l5 ops [] (VC .any ops ops.size t (US ops.size false) []):=by
 have an:=od.out an;obtain⟨fY,_,hlt⟩:=Cq an.top;have ready:∀(ord X:SE),kL ops X ord=true->∀A i B,ord=A++i::B->∃o,ops[i]?=some o/\∀j∈cY o,j∈A\/j∈X:=by
  intro ord;induction ord with
  |nil=>intro X _ A i B e;cases A<;>cases e
  |cons x l ih=>
   intro X nG A i B e;simp only[kL,Ui,UV,Vq,decide_eq_false_iff_not]at nG;obtain⟨⟨h1,h2⟩,h3⟩:=nG;cases A with
   |nil=>
    have e1:x=i:=(by have:=congrArg axq e;simpa using this);rw[e1]at h2;cases ho:ops[i]?with
    |none=>rw[ho]at h2;cases h2
    |some o=>rw[ho]at h2;exact⟨o,rfl,λj hj=> .inr (by have:=Uq.1 h2 j hj;simpa using this)⟩
   |cons y A=>cases e;obtain⟨o,ho,hb⟩:=ih (x::X) h3 A i B rfl;refine⟨o,ho,λj hj=> ?_⟩;rcases hb j hj with h|h;exact .inl (Ue _ h);rcases Tm.1 h with rfl|h;exact .inl (UC ..);exact .inr h
 exact Og (ops:=ops) (λi o ho j hj=>by
   obtain⟨A,B,e⟩:=ae_ (an.full i (Tw.1 ho).1);obtain⟨o',bl,hb⟩:=ready ord [] an.top A i B e;rw[ho]at bl;cases bl;rcases hb j hj with h|h;exact hlt j (by rw[e];exact Uk _ h)
   ·cases h)
  (λX ⟨i,hi,hn⟩=>by
   obtain⟨A,i',B,e,h1,h2⟩:=Lj (X:=X) ⟨i,an.full i hi,hn⟩;obtain⟨o',bl,hb⟩:=ready ord [] an.top A i' B e;refine⟨i',o',bl,h1,λj hj=> ?_⟩;rcases hb j hj with h|h;exact h2 j h
   ·cases h)
  ops.size t (US ops.size false) [] ⟨by simp,λi hi=>by simp[hi]⟩ (UJ aa3 (by simp))
end
inductive pP (ops:Array Vp):Array Vp->Prop
 |base:pP ops ops
 |add {o:Array Vp} (h:pP ops o) (i j:Nat):pP ops (oY o i j)
section
variable {lv:Bool}{P:Tl}{r:SL}{ops o:SK}{nt:Nat}{s:AS}{Φ:SI}
def pP.wp(h:pP ops o)(Q:SJ)(l:SE):dq lv P r o Q l=dq lv P r ops Q l:=by
 induction h with
 |base=>rfl
 |add _ i j ih=>rw[Qn,ih]
def pP.Ko(h:pP ops o)(Hf:SE->SA)(K:SV)(t:CK K)(pl:List pX)(s:AS):fI lv P Hf o pl s K t=fI lv P Hf ops pl s K t:=by
 induction h with
 |base=>rfl
 |add _ i j ih=>rw[J5,ih]
def DG (lv:Bool)(P:Tl)(r:SL)(nt:Nat)(ops o:SK)(s:AS)(Φ:SI):Prop:=
 ∀l E V a Q,l5 o [] l->At E V s a nt->(∀ae e E' V' a' s',Kept E E' V V' a a'->At E' V' s' a' nt->pS E' ae e->Φ ae s'->Q e a' V')->dq lv P r ops Q l a V
def qa(i j:Nat)(kF:(i !=j&&decide (i<o.size))=true)(h1:DG lv P r nt ops (oY o i j) s Φ)(h2:DG lv P r nt ops (oY o j i) s Φ):DG lv P r nt ops o s Φ:=λl E V a Q hs ak hQ=>by rw[Ui,bne_iff_ne,decide_eq_true_eq]at kF;rcases asF kF.1 kF.2 hs (by simp) (by simp)with hs|hs;exact h1 l E V a Q hs ak hQ;exact h2 l E V a Q hs ak hQ
def av8(ha:pP ops o)(es ord:SE)(pl:List pX)(Hf:SE->SA)(an:od nt o es ord=true)(cJ:IZ o es ord=pl)(h0:s.H=Hf [])(h:fI lv P Hf ops pl s (Φ .normal) ⟨0⟩):DG lv P r nt ops o s Φ:=λl E V a Q hs ak hQ=>by subst cJ;rw[<- ha.wp];exact aiL (id:=0) an h0 (by rw[ha.Ko];exact h) hs ak hQ
def Gk{id:Nat}(es ord:SE)(hm:P.follows .mixedOrders=true)(an:od nt ops es ord=true)(h:DG lv P r nt ops ops s Φ):aW lv P r nt (.region id ops true) s Φ:=by intro E V a Q ak hQ;refine PT λt=> ?_;rw[show W6 (P.follows .mixedOrders) ops t=VC .any ops ops.size t (US ops.size false) [] by unfold W6;rw[hm];simp[ag2]];exact h _ E V a Q (aiN an t) ak hQ
end
def IB (lv:Bool)(P:Tl)(o:Vp)(s:AS)(next:SV):Prop:=match o.op with
 |.call c=>match c.callee with
  |.value x=>au (s.ev x) λtP=>au (fJ s c.args.toList) λaL=>CD lv P tP s.H aL (λb H'=>next ((⟨s.T,H'⟩:AS).put o.dst b)) (λ_ _=>False) ⟨0⟩
  |_=>False
 |_=>False
def Ov (ops:SK)(A B:SE)(m:Nat):Bool:=
 let cl:=gq ops (A++m::B) []
 A.all (λi=>(oe cl m).contains i)&&B.all λi=>(oe cl i).contains m
def pP.get{ops o:SK}(h:pP ops o){m:Nat}{om:Vp}(hm:ops[m]?=some om):∃qH,o[m]?=some qH/\qH.op=om.op/\qH.dst=om.dst:=by
 induction h with
 |base=>exact⟨om,hm,rfl,rfl⟩
 |add _ i j ih=>obtain⟨q,h1,h2,h3⟩:=ih;rw[sg];split;exact⟨behind j q,by rw[h1];rfl,h2,h3⟩;exact⟨q,h1,h2,h3⟩
section
variable {lv:Bool}{P:Tl}{r:SL}{ops o:SK}{Hf:SE->SA}{T0:SH}{es ord:SE}{nt:Nat}{s:AS}{Φ:SI}
def RE{f:Nat->AV}(an:Ap nt ops ord)(G:SE)(aB:∀i∈G,∀o,ops[i]?=some o->∀X',lj ops X'->i∉X'->(∀j∈cY o,j∈X')->OB lv P r ops Hf T0 es f i o X'){X l:SE}(hs:l5 ops X l):
  (∀i∈X,i<ops.size)->lj ops X->∀(E:Env)(V:View)(a:Act)(Q:SJ),At E V ⟨TX ops T0 f X,Hf (done es X)⟩ a nt->
   (∀E' V' a' X' l',Kept E E' V V' a a'->At E' V' ⟨TX ops T0 f X',Hf (done es X')⟩ a' nt->(∀i∈X',i<ops.size)->lj ops X'->(∀i∈X',i∈X\/i∈G)->(∀i∈X,i∈X')->l5 ops X' l'->(∀i zH,l'=i::zH->i∉G)->dq lv P r ops Q l' a' V')->dq lv P r ops Q l a V:=by
 induction hs with
 |nil X h=>intro hX hc E V a Q ak hQ;exact hQ E V a X [] (Kept.refl E V a) ak hX hc (λi hi=> .inl hi) (λi hi=>hi) (.nil X h) (λi zH e=>by cases e)
 |cons o ho hn hd kX ih=>
  rename_i X i l;intro hX hc E V a Q ak hQ;by_cases hG:i∈G
  ·have hi:i<ops.size:=(Tw.1 ho).1;simp only[dq,ho];have pj:∀k∈i::X,k<ops.size:=λk hk=>(Tm.1 hk).elim (λe=>by rw[e];exact hi) (hX k);have bu:=hc.cons ho hd;have hw:Uo o (yielded ops a.tmps)=true:=(by unfold Uo;rw[an.DF i o ho]);rw[if_pos hw];refine .inl ?_;have dC:∀d,o.dst=some d->d<a.tmps.size:=λd e=>(by rw[ak.size];exact an.dst i o d ho e);have mf:=aB i hG o ho X hc hn hd;have mj:∀{nh:SE},(∀j∈nh,j∈i::X\/j∈G)->∀j∈nh,j∈X\/j∈G:=λh j hj=>by rcases h j hj with h|h;rcases Tm.1 h with rfl|h;exact .inr hG;exact .inl h;exact .inr h
   unfold OB at mf;by_cases dL:i∈es;(rw[if_pos dL]at mf;have aU:=mf.step (r:=r) (bad:=λ_ _=>False);refine aU E V a _ Q ak.bx ak.tok dC (.inr (an.wW i o ho)) (λE' V' a' s' hk cg ht e=> ?_) λ_ _ _ _ _ _ _ _ _ h=>h.elim;subst e;rw[ym ho rfl]at ht cg;exact ih pj bu E' V' a' Q ⟨cg,ht,hk.size.trans ak.size⟩ λbZ aZ cD nh zH aO dt w1 w2 w3 w4=>hQ bZ aZ cD nh zH (hk.trans aO) dt w1 w2 (mj w3) (λj hj=>w4 j (Ue _ hj)));(rw[if_neg dL]at mf;obtain⟨T,hT,hq⟩:=mf;refine hq E V a _ Q ak.bx (λt av e=>ak.tok t av (hT t av e)) (.inr (an.wW i o ho)) λE' V' v hle cr fB cg hv=> ?_;have ht:cu E' ((⟨TX ops T0 f X,Hf (done es X)⟩:AS).put o.dst (f i)).T (a.put o.dst v).tmps:=cu.iy (s:=⟨TX ops T0 f X,Hf (done es X)⟩) (ak.tok.mono hle) dC hv;rw[ym ho rfl]at ht;refine ih pj bu E' V' (a.put o.dst v) Q ⟨by rw[KL dL];exact cg,ht,(ek _ _ _).trans ak.size⟩ λbZ aZ cD nh zH hk dt w1 w2 w3 w4=>hQ bZ aZ cD nh zH ⟨hle.trans hk.le,hk.size.trans (ek _ _ _),hk.defers.trans (put_defers _ _ _),hk.role.trans cr,hk.deaf.trans fB⟩ dt w1 w2 (mj w3) (λj hj=>w4 j (Ue _ hj)))
  ·exact hQ E V a X (i::l) (Kept.refl E V a) ak hX hc (λi hi=> .inl hi) (λi hi=>hi) (.cons o ho hn hd kX) (λj zH e=>by cases e;exact hG)
def aeP{ops:SK}:∀{A L X:SE},kL ops X (A++L)=true->kL ops X A=true/\kL ops (A.reverse++X) L=true
 |[],L,X,h=>⟨rfl,h⟩
 |i::A,L,X,h=>by rw[WX,kL,Ui]at h;obtain⟨h1,h2⟩:=aeP h.2;refine⟨by rw[kL,Ui];exact⟨h.1,h1⟩,?_⟩;rw[al_,Ev];exact h2
def aeQ{ops:SK}:∀{A X:SE},kL ops X A=true->lj ops X->lj ops (A.reverse++X)
 |[],X,h,hX=>hX
 |i::A,X,h,hX=>by
  have nG:=h;simp only[kL,Ui,UV,Vq,decide_eq_false_iff_not]at nG;obtain⟨⟨hi,h2⟩,h3⟩:=nG;cases ho:ops[i]?with
  |none=>rw[ho]at h2;cases h2
  |some o=>rw[ho]at h2;have hd:∀j∈cY o,j∈X:=λj hj=>(by have:=Uq.1 h2 j hj;simpa using this);have:=aeQ h3 (hX.cons ho hd);rw[al_,Ev];exact this
def Aw (lv:Bool)(P:Tl)(ops:SK)(m:Nat)(xR:List pX)(Φ:SI)(s1:AS):Prop:=au (ops[m]?) λom=>IB lv P om s1 λs2=>∃oS:SE->SA,s2.H=oS []/\fI lv P oS ops xR s2 (Φ .normal) ⟨0⟩
def aiC(ha:pP ops o)(m:Nat)(A B nq lB:SE)(B_ xR:List pX)(mz:SE->SA)(an:od nt o [] (A++m::B)=true)(Bp:Ov o A B m=true)(Nf:oO (gq o (A++m::B) []) nq [] A=B_)(Ng:oO (gq o (A++m::B) []) lB (m::A.reverse) B=xR)(Mv:lB.all B.contains=true)(h0:s.H=mz [])
  (h:fI lv P mz ops B_ s (Aw lv P ops m xR Φ) ⟨0⟩):DG lv P r nt ops o s Φ:=λl E V a Q hs ak hQ=>by
 subst Nf Ng;rw[<- ha.wp];rw[<- ha.Ko]at h;have an:=od.out an;obtain⟨fY,_,hlt⟩:=Cq an.top;obtain⟨tA,tB⟩:=aeP an.top;rw[Ts]at tB;have tB':kL o (m::A.reverse) B=true:=by rw[kL,Ui]at tB;exact tB.2
 unfold Ov at Bp;dsimp only at Bp;rw[Ui,Uq,Uq]at Bp;obtain⟨cA,cB⟩:=Bp;have xu:m∉A:=λhm=>(Wo.1 fY).2.2 m hm m (by simp) rfl;have HA:m∉B:=(WU.1 (Wo.1 fY).2.1).1;have hAB:∀i∈B,i∉A:=λi hi hA=>(Wo.1 fY).2.2 i hA i (by simp[hi]) rfl;have cx:s=⟨TX o s.T (λ_=> .val undef) [],mz (done nq [])⟩:=by
  have:done nq []=[]:=by simp[done]
  rw[this,<- h0];rfl
 have h':fI lv P mz o (oO (gq o (A++m::B) []) nq [] A) ⟨TX o s.T (λ_=> .val undef) [],mz (done nq [])⟩ (Aw lv P ops m (oO (gq o (A++m::B) []) lB (m::A.reverse) B) Φ) ⟨0⟩:=by rw[<- cx];exact h
 obtain⟨f,_,q2,q3⟩:=AH (r:=r) an A [] _ tA (λi hi=>by cases hi) h';have rj:At E V ⟨TX o s.T f [],mz (done nq [])⟩ a nt:=by have e:(⟨TX o s.T f [],mz (done nq [])⟩:AS)=s:=cx.symm;rw[e];exact ak
 refine RE (Hf:=mz) (es:=nq) an A q2 hs (by simp) (λi hi=>by cases hi) E V a Q rj λE1 V1 a1 X1 l1 iY xb hX1 cV Ns _ da HT=> ?_;have hmX:m∉X1:=λhm=>by rcases Ns m hm with h|h;cases h;exact xu h
 cases da with
 |nil _ fL=>exact absurd (fL m (hlt m (by simp))) hmX
 |@cons _ i l2 qH ho hn hd kX=>
  have hi:i<o.size:=(Tw.1 ho).1;have hiA:i∉A:=HT i l2 rfl;have mb:i=m:=by rcases T1.1 (an.full i hi)with h|h;exact absurd h hiA;rcases Tm.1 h with h|h;exact h;have:=cB i h;have hr:m∈oe (gq o (A++m::B) []) i:=(by simpa using this);exact absurd (Cc cV (AK hr) λo' bl k hk=>by rw[ho]at bl;cases bl;exact hd k hk) hmX
  subst mb;have hAX:∀j∈A,j∈X1:=λj hj=>by have:=cA j hj;have hr:j∈oe (gq o (A++i::B) []) i:=(by simpa using this);exact Cc cV (AK hr) λo' bl k hk=>by rw[ho]at bl;cases bl;exact hd k hk
  have MZ:∀j,j∈X1<->j∈A.reverse++[]:=λj=>by rw[Ts,YZ];exact⟨λh=>(Ns j h).elim (λh=>by cases h) id,hAX j⟩
  have Ma:At E1 V1 ⟨TX o s.T f (A.reverse++[]),mz (done nq (A.reverse++[]))⟩ a1 nt:=by refine⟨?_,λt x e=> ?_,xb.size⟩;rw[<- Dn MZ];exact xb.bx;rw[<- CW an MZ]at e;exact xb.tok t x e
  simp only[dq,ho];have hw:Uo qH (yielded o a1.tmps)=true:=by unfold Uo;rw[an.DF i qH ho]
  rw[if_pos hw];refine .inl ?_;have dC:∀d,qH.dst=some d->d<a1.tmps.size:=λd e=>by rw[xb.size];exact an.dst i qH d ho e
  unfold Aw at q3;obtain⟨om,hom,q3⟩:=q3.out;obtain⟨om2,g1,g2,g3⟩:=ha.get hom;rw[ho]at g1;cases g1;unfold IB at q3;obtain⟨c,x,amj,al8,q4⟩:∃c x,om.op=.call c/\c.callee=.value x/\au ((⟨TX o s.T f (A.reverse++[]),mz (done nq (A.reverse++[]))⟩:AS).ev x) λtP=>au (fJ ⟨TX o s.T f (A.reverse++[]),mz (done nq (A.reverse++[]))⟩ c.args.toList) λaL=>CD lv P tP (mz (done nq (A.reverse++[]))) aL (λb H'=>∃oS:SE->SA,((⟨TX o s.T f (A.reverse++[]),H'⟩:AS).put om.dst b).H=oS []/\fI lv P oS ops (oO (gq o (A++i::B) []) lB (i::A.reverse) B) ((⟨TX o s.T f (A.reverse++[]),H'⟩:AS).put om.dst b) (Φ .normal) ⟨0⟩) (λ_ _=>False) ⟨0⟩:=by split at q3;rename_i c hc;split at q3;rename_i x hx;exact⟨c,x,hc,hx,q3⟩;exact q3.elim;exact q3.elim
  obtain⟨tP,e1,q5⟩:=q4.out;obtain⟨aL,e2,q6⟩:=q5.out;have lN:=Pz (lv:=lv) (P:=P) (r:=r) (o:=qH) (s:=⟨TX o s.T f (A.reverse++[]),mz (done nq (A.reverse++[]))⟩) (next:=λs2=>∃av H' oS,s2=(⟨TX o s.T f (A.reverse++[]),H'⟩:AS).put qH.dst av/\H'=oS []/\fI lv P oS ops (oO (gq o (A++i::B) []) lB (i::A.reverse) B) s2 (Φ .normal) ⟨0⟩) (bad:=λ_ _=>False) (g2.trans amj) al8 e1 e2 (fh.mono q6 (λav H'=>by
    rintro⟨oS,w1,w2⟩
    rw[<- g3]at w1 w2;refine⟨av,H',oS,rfl,?_,w2⟩;rw[<- w1];cases qH.dst<;>rfl) (λ_ _ h=>h))
  refine lN E1 V1 a1 _ Q Ma.bx Ma.tok dC (.inr (an.wW i qH ho)) (λE2 V2 a2 s2 cO cg zu e=> ?_) λ_ _ _ _ _ _ _ _ _ h=>h.elim;obtain⟨av,H',oS,rfl,hH',hb⟩:=e;obtain⟨f',hf'⟩:∃f':Nat->AV,f'=λj=>if j=i then av else f j:=⟨_,rfl⟩;have hff:∀j∈A.reverse++[],f j=f' j:=λj hj=>by have:j≠i:=λe=>xu (by subst e;simpa using hj);rw[hf'];simp[this]
  have hp:(⟨TX o s.T f (A.reverse++[]),H'⟩:AS).put qH.dst av=⟨TX o s.T f' (i::A.reverse),oS (done lB (i::A.reverse))⟩:=by
   have lF:done lB (i::A.reverse)=[]:=by unfold done;rw[List.filter_eq_nil_iff];intro j hj;have:=Uq.1 Mv j hj;have Hy:j∈B:=(by simpa using this);have h1:j≠i:=λe=>HA (e▸Hy);have h2:=hAB j Hy;simp[h1,h2]
   rw[CV hff,ym ho (by rw[hf'];simp),lF,hH',Ts]
  rw[hp]at hb cg zu;rw[<- ha.Ko]at hb;have ame:lj o (i::A.reverse):=by have h1:=aeQ tA (X:=[]) (λi hi=>by cases hi);rw[Ts]at h1;exact h1.cons ho λj hj=>by have:=Ns j (hd j hj);simpa using this
  obtain⟨f2,p1,p2,p3⟩:=AH (r:=r) an B (i::A.reverse) f' tB' ame hb;have abo:∀j,j∈i::X1<->j∈i::A.reverse:=λj=>by have:=MZ j;rw[Ts]at this;rw[Tm,Tm,this]
  have vw:At E2 V2 ⟨TX o s.T f2 (i::X1),oS (done lB (i::X1))⟩ a2 nt:=by refine⟨?_,λt x e=> ?_,cO.size.trans Ma.size⟩;rw[Dn abo];exact cg;rw[CW an abo,CV p1]at e;exact zu t x e
  refine RE (Hf:=oS) (es:=lB) an B p2 kX (λk hk=>(Tm.1 hk).elim (λe=>by rw[e];exact hi) (hX1 k)) (cV.cons ho hd) E2 V2 a2 Q vw λE3 V3 a3 X3 l3 xq rk hX3 dJ awx abu jH anM=> ?_;cases jH with
  |cons o3 xx M3 jB aww=>rename_i j l4;exfalso;have hj:j<o.size:=(Tw.1 xx).1;have Hy:=anM j l4 rfl;rcases T1.1 (an.full j hj)with h|h;exact M3 (abu j (Ue _ (hAX j h)));rcases Tm.1 h with rfl|h;exact M3 (abu j (UC ..));exact Hy h
  |nil _ fL=>
   have abp:∀j,j∈X3<->j∈B.reverse++i::A.reverse:=λj=>by rw[T1,Tm,YZ,YZ];constructor;intro h;have:=T1.1 (an.full j (hX3 j h));rw[Tm]at this;rcases this with h|h|h;exact .inr (.inr h);exact .inr (.inl h);exact .inl h;intro h;refine fL j (hlt j ?_);rw[T1,Tm];rcases h with h|h|h;exact .inr (.inr h);exact .inr (.inl h);exact .inl h
   refine hQ .normal .normal E3 V3 a3 _ ((iY.trans cO).trans xq) ⟨?_,λt x e=> ?_,rk.size⟩ trivial p3;rw[<- Dn abp];exact rk.bx;rw[<- CW an abp]at e;exact rk.tok t x e
def p_(m:Nat)(A B nq lB:SE){B_ xR:List pX}(mz:SE->SA)(h:fI lv P mz ops B_ s (Aw lv P ops m xR Φ) ⟨0⟩)(ha:pP ops o:=by repeat first|exact .base|apply pP.add)(an:od nt o [] (A++m::B)=true:=by kernel_rfl)(Bp:Ov o A B m=true:=by kernel_rfl)(Nf:oO (gq o (A++m::B) []) nq [] A=B_:=by conv=>lhs;cbv)(Ng:oO (gq o (A++m::B) []) lB (m::A.reverse) B=xR:=by conv=>lhs;cbv)(Mv:lB.all B.contains=true:=by kernel_rfl)(h0:s.H=mz []:=by rfl):DG lv P r nt ops o s Φ:=aiC ha m A B nq lB B_ xR mz an Bp Nf Ng Mv h0 h
end
def apC:type_of% @IB.eq_1:=by intros;rw[IB.eq_1]
def apD:type_of% @Aw.eq_1:=by intros;rw[Aw.eq_1]
attribute [seval] apC apD
open Go.Extern
section
variable {lv:Bool}{P:Tl}{H:SA}{args:SC}{k kp:SF}{g:UR}{m:Array T9->Sem T9}
def adZ{V:View}{vs:SG}{K:Next->View->Prop}{Kp:SQ}(he:Ext P g m)(h:aT P V (m vs) (λv V'=>K (.value v) V') Kp):aT P V (callFunc g vs) K Kp:=by obtain⟨fn,f1,f2,f3,f4,f5⟩:=he.fn;unfold callFunc;refine aA (pK (cj ?_));rw[f1];dsimp only;rw[if_neg (by rw[f2];simp),if_pos f3];refine aA (asR (cj ?_));rw[f4,f5];dsimp only;exact aA (h.mono (λv V' h=>az h) λ_ _ h=>h)
def Dh(he:Ext P g m)(h:∀E V vs,Conc E V H->bR E args vs->aT P V (m vs) (λv V'=>gR E V k kp (.ret v) V') (λv V'=>gR E V k kp (.panic [{v,recovered:=false}]) V')):fh lv P (.fn (.func g) [] []) H args k kp:=by
 intro E V cv vs hc hd mG;cases hd with
 |fn da eJ h1 h2=>rename_i fa ca;obtain rfl:fa=#[]:=Xw da;obtain rfl:ca=#[]:=Xw eJ;unfold VU;refine aA (az ?_);unfold invoke;dsimp only;refine adZ he ?_;rw[XK,Array.append_empty];exact h E V vs hc mG
def Q6(he:Ext P g m)(av:AV)(hs:∀E vs,bR E args vs->∃v,bA P (m vs) v/\ay E av v)(hk:k av H):fh lv P (.fn (.func g) [] []) H args k kp:=
 Dh he λE V vs hc hd=>by obtain⟨v,h1,h2⟩:=hs E vs hd;exact h1.ok ⟨av,E,H,.refl E,rfl,rfl,h2,hc,hk⟩
def Rr{E:Env}{p v:T9}(h:ay E (.agg [.val p]) v):v=.agg #[p]:=by
 cases h with
 |agg hs h=>
  rename_i cs;have h0:=h 0 (.val p) rfl;generalize hx:cs.getD 0 undef=x at h0;cases h0;congr 1;refine Array.ext (by simpa using hs) λi h1 h2=> ?_;have:i=0:=by simp at h2;omega
  subst this;rw[Th,Tj h1]at hx;simpa using hx
def Ih{t:TypeId}{p rv:T9}{name:String}(av:AV)(hm:bA P (method (P.types.size+ZN) t (.agg #[p]) name) (g,rv))(he:Ext P g m)(hs:∀E vs,bR E args vs->∃v,bA P (m (#[rv]++vs)) v/\ay E av v)(hk:k av H):tC lv P (.bY t (.agg [.val p])) name H args k kp:=by
 intro E V cv vs hc hd mG;cases hd with
 |bY hd=>
  rename_i v;obtain rfl:=Rr hd;unfold invoke;have e:(#[Y2 t (.agg #[p])]++vs)[0]?=some (.iface t (.agg #[p])):=by rw[XJ (by simp)];rfl
  simp only[e];have e2:(#[Y2 t (.agg #[p])]++vs).extract 1 (#[Y2 t (.agg #[p])]++vs).size=vs:=by apply Wz;simp[Array.toList_extract,ZF]
  rw[e2];unfold callMethod;dsimp only;refine aA (pK (cj ?_));refine hm.bind ?_;dsimp only;refine adZ he ?_;obtain⟨v,h1,h2⟩:=hs E vs mG;exact h1.ok ⟨av,E,H,.refl E,rfl,rfl,h2,hc,hk⟩
end
section
variable {lv:Bool}{P:Tl}{H:SA}{k kp:SF}{g:UR}
def yA{E:Env}{a:AV}{vs:SG}(h:bR E [a] vs):∃v,vs=#[v]/\ay E a v:=by
 obtain⟨hs,h⟩:=h;have h0:=h 0 a rfl;refine⟨vs.getD 0 undef,?_,h0⟩;refine Array.ext (by simpa using hs) λi h1 h2=> ?_;have:i=0:=by simp at h2;omega
 subst this;simp[Th,Tj h1]
def aiA{E:Env}{a b:AV}{vs:SG}(h:bR E [a,b] vs):∃v w,vs=#[v,w]/\ay E a v/\ay E b w:=by
 obtain⟨hs,h⟩:=h;refine⟨vs.getD 0 undef,vs.getD 1 undef,?_,h 0 a rfl,h 1 b rfl⟩;refine Array.ext (by simpa using hs) λi h1 h2=> ?_;have:i=0\/i=1:=by simp at h2;omega
 rcases this with rfl|rfl<;>simp[Th,Tj h1]
def Dm{E:Env}{p f:T9}{c off:Nat}{v:T9}(h:ay E (.agg [.val p,.op c off,.val f]) v):c<E.n/\v=.agg #[p,.pointer (some ⟨E.blk c,off,none⟩),f]:=by
 cases h with
 |agg hs h=>
  rename_i cs;have h0:=h 0 (.val p) rfl;have h1:=h 1 (.op c off) rfl;have h2:=h 2 (.val f) rfl;generalize hx:cs.getD 0 undef=x at h0;generalize hy:cs.getD 1 undef=y at h1;generalize hz:cs.getD 2 undef=z at h2;cases h0;cases h2;cases h1 with
  |op hi=>
   refine⟨hi,?_⟩;congr 1;refine Array.ext (by simpa using hs) λi h1 h2=> ?_;have:i=0\/i=1\/i=2:=(by simp at h2;omega);rw[Th]at hx hy hz;rcases this with rfl|rfl|rfl
   ·rw[Tj h1]at hx;simpa using hx
   ·rw[Tj h1]at hy;simpa using hy
   ·rw[Tj h1]at hz;simpa using hz
def ajF{t:TypeId}{a:AV}{l:SC}{h:T9}{kd:Nat}(he:Ext P g λargs=>ReflectliteValue.unpack (args.getD 0 (.tuple #[])))(hh:bA P (Rtype.handle t) h)(dX:bA P (Rtype.kind t) kd)(hl:a.parts=some l)
  (hk:k (.agg [.val h,.op H.length 0,.val (.int .u64 (aya (kd+ReflectliteValue.flagIndir+0)))]) (H++[.cells l t])):fh lv P (.fn (.func g) [] []) H [.bY t a] k kp:=
 Dh he λE V vs hc hd=>by
  obtain⟨v,rfl,hv⟩:=yA hd;cases hv with
  |bY hv=>
   rename_i v;have e:(#[Y2 t v]:SG).getD 0 (.tuple #[])=.iface t v:=rfl;rw[e];unfold ReflectliteValue.unpack;refine aA ?_;unfold newVar newRow;refine aA (oQ λrr hf=>cj (az ?_));unfold ReflectliteValue.mk;refine hh.bind (dX.bind (az ?_));have kT:=hv.parts hl;have hle:E.Le (E.add rr V.ah):=E.qE rr (λb o v h=>by rw[<- hc.I];exact h);have bu:Conc (E.add rr V.ah) (V.upd rr (.cells v.cells t)) (H++[.cells l t]):=by refine hc.add hf _ ⟨⟨v.cells,?_,kT.mono hle⟩,λo=> ?_⟩ (λb e=> ?_);rw[Env.dP];simp[View.upd];rw[Env.dP];exact hf.2 o;simp only[bP,Env.dP,Ul]at e;exact e.symm
   refine⟨_,_,_,hle,rfl,rfl,?_,bu,hk⟩;refine .agg rfl λi b hb=> ?_
   match i,hb with
   |0,hb=>cases hb;exact .val _
   |1,hb=>cases hb;exact KD hc.n rr V.ah
   |2,hb=>cases hb;exact .val _
def ajD{t:TypeId}{c b off:Nat}{h:T9}{f:Int}{z:Sem T9}(he:Ext P g (ReflectliteValue.method z ReflectliteValue.isNil))(hp:∀a,bA P (ReflectliteValue.parts (.agg #[h,.pointer (some a),.int .u64 f])) (some (t,a,f.toNat)))(hf:f.toNat % 32=22)
  (ht:Ty P t=some (1,false)) (hc:H[c]?=some (.cells [.op b off] t)) (hk:k (.val (.bool false)) H):fh lv P (.fn (.func g) [] []) H [.agg [.val h,.op c 0,.val (.int .u64 f)]] k kp:=
 Dh he λE V vs eN hd=>by
  obtain⟨v,rfl,hv⟩:=yA hd;obtain⟨hi,rfl⟩:=Dm hv;unfold ReflectliteValue.method;refine(hp _).bind ?_;dsimp only;rw[hf];unfold ReflectliteValue.isNil;rw[if_neg (by decide)];refine aA ?_;obtain⟨i,d,h1,h2,h3,h4⟩:=Ty.out ht;obtain⟨b',o',fv,e1,hg,iO,lF⟩:=eN.at (s:=⟨[],H⟩) (.op (off:=0) hi) (l:=[.op b off]) (by simp only[AS.at,hc,Wx]);cases e1;unfold loadVar;refine wn h2 ?_;rw[h4];simp only[UH,if_false];have jE:=hg 0 (by simp);rw[Vr]at jE;refine Cl jE (.inl (iO (by simp))) (cj ?_);have aE:=lF 0 (.op b off) rfl;generalize fv 0=w at aE;cases aE with
  |op hj=>exact az ⟨_,E,H,.refl E,rfl,rfl,.val _,eN,hk⟩
def ajC{t t':TypeId}{c b off:Nat}{h h':T9}{f:Int}{kd:Nat}{z:Sem T9}(he:Ext P g (ReflectliteValue.method z ReflectliteValue.elem))(hp:∀a,bA P (ReflectliteValue.parts (.agg #[h,.pointer (some a),.int .u64 f])) (some (t,a,f.toNat)))(hf:f.toNat % 32=22)
  (ht:Ty P t=some (1,false)) (D_:bA P (Rtype.elem? t) (some t')) (hh:bA P (Rtype.handle t') h') (dX:bA P (Rtype.kind t') kd) (hc:H[c]?=some (.cells [.op b off] t))
  (hk:k (.agg [.val h',.op b off,.val (.int .u64 (aya (kd+ReflectliteValue.flagIndir+ReflectliteValue.flagAddr)))]) H):fh lv P (.fn (.func g) [] []) H [.agg [.val h,.op c 0,.val (.int .u64 f)]] k kp:=
 Dh he λE V vs eN hd=>by
  obtain⟨v,rfl,hv⟩:=yA hd;obtain⟨hi,rfl⟩:=Dm hv;unfold ReflectliteValue.method;refine(hp _).bind ?_;dsimp only;rw[hf];unfold ReflectliteValue.elem;rw[if_neg (by decide)];refine aA ?_;obtain⟨i,d,h1,h2,h3,h4⟩:=Ty.out ht;obtain⟨b',o',fv,e1,hg,iO,lF⟩:=eN.at (s:=⟨[],H⟩) (.op (off:=0) hi) (l:=[.op b off]) (by simp only[AS.at,hc,Wx]);cases e1;unfold loadVar;refine wn h2 ?_;rw[h4];simp only[UH,if_false];have jE:=hg 0 (by simp);rw[Vr]at jE;refine Cl jE (.inl (iO (by simp))) (cj ?_);have aE:=lF 0 (.op b off) rfl;generalize fv 0=w at aE;cases aE with
  |op hj=>
   refine D_.bind ?_;unfold ReflectliteValue.mk;refine hh.bind (dX.bind (az ⟨_,E,H,.refl E,rfl,rfl,?_,eN,hk⟩));refine .agg rfl λi b hb=> ?_
   match i,hb with
   |0,hb=>cases hb;exact .val _
   |1,hb=>cases hb;exact .op hj
   |2,hb=>cases hb;exact .val _
def ajE{t:TypeId}{b c n:Nat}{l l':SC}{h:T9}{f1 f2:Int}{el gW:TypeId}(he:Ext P g ReflectliteValue.set)(hp:∀a f,f=f1\/f=f2->bA P (ReflectliteValue.parts (.agg #[h,.pointer (some a),.int .u64 f])) (some (t,a,f.toNat)))(hf:(f1.toNat/ReflectliteValue.flagAddr % 2==0)=false)
  (ht:Ty P t=some (n,true)) (Ml:bA P (Rtype.directlyAssignable t t) true) (hb:H[b]?=some (.cells l' el)) (hc:H[c]?=some (.cells l gW)) (hl:l.length=n) (eS:l'.length=n) (kG:∀a∈l,a.leaf=true)
  (hk:k (.aJ []) (H.set b (.cells (iT l' 0 l) el))):fh lv P (.fn (.func g) [] []) H [.agg [.val h,.op b 0,.val (.int .u64 f1)],.agg [.val h,.op c 0,.val (.int .u64 f2)]] k kp:=
 Dh he λE V vs eN hd=>by
  obtain⟨v,w,rfl,hv,hw⟩:=aiA hd;obtain⟨hi,rfl⟩:=Dm hv;obtain⟨hj,rfl⟩:=Dm hw;unfold ReflectliteValue.set;refine(hp _ _ (.inl rfl)).bind ((hp _ _ (.inr rfl)).bind ?_);dsimp only;rw[if_neg (by rw[hf];simp)];refine aA ?_;obtain⟨i,d,h1,h2,h3,h4⟩:=Ty.out ht;obtain⟨b',o',fv,e1,hg,iO,lF⟩:=eN.at (s:=⟨[],H⟩) (.op (off:=0) hj) (l:=l) (by simp only[AS.at,hc,Wx]);cases e1;unfold loadVar;refine wn h2 ?_;rw[h4];simp only[if_true];refine jM h1 ?_;rw[h3];refine aA (z9 (f:=fv) (λh=>iO (by omega)) (λj hj=>hg j (by omega)) (az ?_));refine Ml.bind ?_;rw[if_pos rfl];refine aA ?_;obtain⟨⟨cs,p1,p2⟩,p3⟩:=eN.obj b _ hb;obtain⟨g1,g2⟩:=eN.jq hb rfl;have bm:bR E l ((Tt n).map fv).toArray:=by
   have:=Gz (E:=E) (l:=l) (f:=fv) (n:=n) (by omega) lF;rw[Tu (by omega)]at this;cases this with
   |agg a b=>exact⟨a,b⟩
  unfold storeVar;refine jM h1 ?_;have aY:(Uy ((Tt n).map fv).toArray).cells=((Tt n).map fv).toArray:=rfl;rw[aY,h3];rw[if_neg (by simp)];refine Aa _ 0 V cs g1 g2 p1 (λo _ _=>p3 o) (by have:=p2.1;simp;omega) (AR bm kG) ?_;rw[Vr];exact az ⟨_,E,_,.refl E,rfl,rfl,.aJ rfl (by simp),eN.set hb (GB p2 bm (by omega)),hk⟩
end
open Go.Proofs
def F.JV:j6 BI 74=(To Go.Gg.yh.map):=by kernel_rfl
def F.Qg:eR BI 4=(To (Yp Bool.false)):=by kernel_rfl
def F.Qh:eR BI 85=(To (Uy #[(Yp Bool.false),(ap' Option.none),(S_ Ua (0)),(S_ Ua (0)),(S_ Ua (0)),(S_ Ua (0)),(S_ Ua (0)),(S_ Ua (0)),(S_ Ua (0)),(S_ Ua (0)),(S_ Ua (0)),(S_ Ua (0)),(S_ Ua (0)),(S_ Ua (0)),(S_ Ua (0)),(S_ Ua (0)),(S_ Ua (0)),(S_ Tg (0)),(S_ Tg (0)),(S_ Tg (0)),(S_ Tg (0)),(S_ Tg (0)),(S_ Tg (0)),(S_ Tg (0)),(S_ Tg (0)),(S_ Tg (0)),(S_ Tg (0)),(S_ Tg (0))])):=by kernel_rfl
def F.ab2:lR BI 104=(To Bool.false):=by kernel_rfl
def F.an4:lR BI 139=(To Bool.false):=by kernel_rfl
def F.Ij:lR BI 144=(To Bool.false):=by kernel_rfl
def F.ab3:lR BI 147=(To Bool.false):=by kernel_rfl
def F.NX:lR BI 163=(To Bool.false):=by kernel_rfl
def F.uB:lR BI 92=(To Bool.true):=by kernel_rfl
def F.f27:BI.funcs[27]?=some Tryz.f27:=by kernel_rfl
def F.f87:BI.funcs[87]?=some Tryz.f87:=by kernel_rfl
def F.f98:BI.funcs[98]?=some Y3:=by kernel_rfl
def F.f110:BI.funcs[110]?=some Tryz.f110:=by kernel_rfl
def F.f117:BI.funcs[117]?=some Tryz.f117:=by kernel_rfl
def F.f120:BI.funcs[120]?=some axX:=by kernel_rfl
def F.mixed:BI.follows .mixedOrders=true:=by kernel_rfl
inductive dR (lv:Bool)(P:Tl)(r:Option Nat)(nt:Nat):U5->(ap->AS->Prop)->U5->(ap->AS->Prop)->Prop
 |base {c:U5} {Φ:ap->AS->Prop}:dR lv P r nt c Φ c Φ
 |seq {x y h:U5} {Φ Ψ:ap->AS->Prop} (i:dR lv P r nt x (ap.then (λs=>aW lv P r nt y s Φ) Φ) h Ψ):dR lv P r nt (.seq x y) Φ h Ψ
 |block {id:Nat} {x h:U5} {Φ Ψ:ap->AS->Prop} (i:dR lv P r nt x (ap.inBlock id Φ) h Ψ):dR lv P r nt (.block id x) Φ h Ψ
section
variable {lv:Bool}{P:Tl}{r:SL}{s:AS}{nt id:Nat}{ops:SK}{c h:U5}{Φ Ψ:SI}
def br{f:UR}{H:SA}{args:SC}{k kp:SF}{rs:SW}(fn:aw5)
  (h:bJ H->(∀a∈args,Lt H.length a)->aW lv P none nt c ⟨ba 0 args,H⟩ (rX P rs H.length k kp)) (hf:P.funcs[f]?=some fn:=by kernel_rfl) (hb:fn.body=some c:=by rfl) (hr:fn.results=rs.toArray:=by rfl) (hn:fn.ntmps=nt:=by rfl) (cU:args.length<=nt:=by simp):aS lv P f H args k kp:=ak9 hf hb hr hn cU h
def dR.go(i:dR lv P r nt c Φ h Ψ):∀{s:AS},aW lv P r nt h s Ψ->aW lv P r nt c s Φ:=by
 induction i with
 |base=>exactλh=>h
 |seq _ ih=>exactλk=>ii (ih k)
 |block _ ih=>exactλk=>QC (ih k)
def ab(h:iU lv P ops ops.toList s (Ψ .normal) (λpv s=>Ψ (.panic pv) s))(i:dR lv P r nt c Φ (.region id ops false) Ψ:=by repeat first|exact .base|apply dR.seq|apply dR.block)(hd:ki nt ops=true:=by kernel_rfl):aW lv P r nt c s Φ:=i.go (QL hd h)
def avV{o:Up}{x y:U5}(h:au (s.ev o) λa=>a.asBool λb=>(b=true->aW lv P r nt x s Ψ)/\(b=false->aW lv P r nt y s Ψ))(i:dR lv P r nt c Φ (.cond o x y) Ψ:=by repeat first|exact .base|apply dR.seq|apply dR.block):aW lv P r nt c s Φ:=i.go (QD h)
def ahm(h:Ψ .normal s)(i:dR lv P r nt c Φ .skip Ψ:=by repeat first|exact .base|apply dR.seq|apply dR.block):aW lv P r nt c s Φ:=i.go (QO h)
def jR(h:Ψ .ret s)(i:dR lv P r nt c Φ .ret Ψ:=by repeat first|exact .base|apply dR.seq|apply dR.block):aW lv P r nt c s Φ:=i.go (QM h)
def avX(h:Ψ (.exit id) s)(i:dR lv P r nt c Φ (.exit id) Ψ:=by repeat first|exact .base|apply dR.seq|apply dR.block):aW lv P r nt c s Φ:=i.go (QE h)
def bO{x:U5}(h:aW lv P r nt x s (ap.inBlock id Ψ))(i:dR lv P r nt c Φ (.block id x) Ψ:=by repeat first|exact .base|apply dR.seq|apply dR.block):aW lv P r nt c s Φ:=i.go (QC h)
def ai{p:Prop}(h:p)(i:dR lv P r nt c Φ (.region id ops false) Ψ:=by repeat first|exact .base|apply dR.seq|apply dR.block)(e:iU lv P ops ops.toList s (Ψ .normal) (λpv s=>Ψ (.panic pv) s)=p:=by conv=>lhs;simp only[seval])(hd:ki nt ops=true:=by kernel_rfl):aW lv P r nt c s Φ:=i.go (QL hd (e.mpr h))
def ao{p:Prop}{o:Up}{x y:U5}(h:p)(i:dR lv P r nt c Φ (.cond o x y) Ψ:=by repeat first|exact .base|apply dR.seq|apply dR.block)(e:(au (s.ev o) λa=>a.asBool λb=>(b=true->aW lv P r nt x s Ψ)/\(b=false->aW lv P r nt y s Ψ))=p:=by conv=>lhs;simp only[seval]):aW lv P r nt c s Φ:=i.go (QD (e.mpr h))
def aF{p:Prop}(h:p)(i:dR lv P r nt c Φ .skip Ψ:=by repeat first|exact .base|apply dR.seq|apply dR.block)(e:Ψ .normal s=p:=by conv=>lhs;simp only[seval]):aW lv P r nt c s Φ:=i.go (QO (e.mpr h))
def aH{p:Prop}(h:p)(i:dR lv P r nt c Φ .ret Ψ:=by repeat first|exact .base|apply dR.seq|apply dR.block)(e:Ψ .ret s=p:=by conv=>lhs;simp only[seval]):aW lv P r nt c s Φ:=i.go (QM (e.mpr h))
def bT{p:Prop}(h:p)(i:dR lv P r nt c Φ (.exit id) Ψ:=by repeat first|exact .base|apply dR.seq|apply dR.block)(e:Ψ (.exit id) s=p:=by conv=>lhs;simp only[seval]):aW lv P r nt c s Φ:=i.go (QE (e.mpr h))
def cS{Φ Ψ:SI}{c:U5}(p:Nat)(h:nS lv P ops (ops.toList.take p) s (λs'=>iU lv P ops (ops.toList.drop p) s' (Ψ .normal) (λpv s=>Ψ (.panic pv) s)))(i:dR lv P r nt c Φ (.region id ops true) Ψ:=by repeat first|exact .base|apply dR.seq|apply dR.block)(hm:P.follows .mixedOrders=true:=by kernel_rfl)(an:AT nt p ops=true:=by kernel_rfl):aW lv P r nt c s Φ:=i.go (ahc hm p an h)
def mC{Φ Ψ:SI}{c:U5}(es ord:SE){pl:List pX}(Hf:SE->SA)(h:fI lv P Hf ops pl s (Ψ .normal) ⟨0⟩)(i:dR lv P r nt c Φ (.region id ops true) Ψ:=by repeat first|exact .base|apply dR.seq|apply dR.block)(hm:P.follows .mixedOrders=true:=by kernel_rfl)(an:od nt ops es ord=true:=by kernel_rfl)(cJ:IZ ops es ord=pl:=by conv=>lhs;cbv)(h0:s.H=Hf []:=by first|rfl|simp only[seval]):aW lv P r nt c s Φ:=i.go (ahd es ord pl Hf hm an cJ h0 h)
def nj(n:Nat)(V:Nat->SH)(Hf:Nat->SA)(ok:S7)(hm:ok 0)
  (h:bJ s.H->(∀t a,look s.T t=some a->Lt s.H.length a)->∀m,m<=n->ok m->∀R:SV,(∀s',(m<n/\ok (m+1)/\sd s.T (V m) (V (m+1)) (Hf (m+1)) s')->R s')->aW lv P r nt c ⟨V m++s.T,Hf m⟩ (ap.then R Φ)) (vL:∀m m',(V m).map (·.1)=(V m').map (·.1):=by exactλ_ _=>rfl) (ik:∀p∈V 0,∃b,look s.T p.1=some b/\Wk b p.2:=by(simp only[seval];simp[bE,Wk.refl])) (vr:Hf 0=s.H:=by rfl) (hl:∀m,m<=n->ok m->(Hf m).length=s.H.length:=by exactλ_ _ _=>rfl):aW lv P r nt (.loop c) s Φ:=gU n V Hf ok vL ik vr hl hm h
def cK{base Vi Vn T:SH}{H:SA}(hk:tD T (Vi++base) Vn:=by exact oI rfl rfl)(hv:∀p∈Vn,∃b,look T p.1=some b/\Wk b p.2:=by(simp only[seval];simp[bE,Wk.refl])):sd base Vi Vn H ⟨T,H⟩:=asf hk hv
def Ft{base Vi Vn T:SH}{H H':SA}(an:bJ H)(hg:∃G,H++G=H':=by first|exact⟨_,rfl⟩|exact⟨_,Ev ..⟩)(hk:tD T (Vi++base) Vn:=by exact oI rfl rfl)(hv:∀p∈Vn,∃b,look T p.1=some b/\Wk b p.2:=by(simp only[seval];simp[bE,Wk.refl]))(hlt:∀p∈Vn,Lt H.length p.2:=by simp[dF]):sd base Vi Vn H ⟨T,H'⟩:=by obtain⟨G,rfl⟩:=hg;exact adH hk hv an hlt
def bX{H:SA}{args:SC}{k kp:SF}{g:UR}{first c9:SC}(hf:aS lv P g H (first++args++c9) k kp)(hg:rU P g=true:=by kernel_rfl):fh lv P (.fn (.func g) first c9) H args k kp:=Kq hg hf
end
def aK{lv:Bool}{P:Tl}{H:SA}{args:SC}{k kp:SF}{g:UR}{first c9:SC}{t:CM k kp}(hf:aS lv P g H (first++args++c9) k kp)(hg:rU P g=true:=by kernel_rfl):CD lv P (.fn (.func g) first c9) H args k kp t:=n9 (Kq hg hf)
def F.q0:j4 BI 22 22=(To (29,(3,(Uy #[(S_ Tg (0)),(S_ Tg (0)),(S_ Tg (0))]))))/\j4 BI 23 23=(To (68,(4,(Uy #[(S_ Tg (0)),(S_ Tg (0)),(S_ Tg (0)),(S_ Tg (0))]))))/\j4 BI 30 30=(To (3,(1,(S_ Tg (0)))))/\j4 BI 88 88=(To (30,(1,(UP Option.none 0 0))))/\m_ BI 104=(To ((Go.Gg.h_.fields [(0,1),(1,1)]),(Uy #[(S_ Tg (0)),(S_ Tg (0))])))/\m_ BI 109=(To ((Go.Gg.h_.fields [(0,1),(1,1),(2,1)]),(Uy #[(UP Option.none 0 0),(UP Option.none 0 0),(UP Option.none 0 0)])))/\m_ BI 113=(To ((Go.Gg.h_.fields [(0,1),(1,1),(2,1)]),(Uy #[(S_ Tg (0)),(S_ Tg (0)),(S_ Tg (0))])))/\m_ BI 144=(To ((Go.Gg.h_.fields [(0,1),(1,1)]),(Uy #[(S_ Tg (0)),(S_ Tg (0))])))/\m_ BI 163=(To ((Go.Gg.h_.fields []),(Uy #[])))/\m_ BI 25=(To ((Go.Gg.h_.fields [(0,1),(1,1),(2,1),(3,1),(4,1),(5,1)]),(Uy #[(S_ Tg (0)),(S_ Tg (0)),(S_ Tg (0)),(UP Option.none 0 0),(UP Option.none 0 0),(UP Option.none 0 0)])))/\m_ BI 27=(To ((Go.Gg.h_.fields [(0,1),(1,1)]),(Uy #[(S_ Tg (0)),(S_ Tg (0))])))/\m_ BI 29=(To ((Go.Gg.h_.fields [(0,1),(1,2)]),(Uy #[(S_ Tg (0)),(S_ Tg (0)),(S_ Tg (0))])))/\m_ BI 68=(To ((Go.Gg.h_.fields [(0,2),(2,2)]),(Uy #[(S_ Tg (0)),(S_ Tg (0)),(S_ Tg (0)),(S_ Tg (0))])))/\m_ BI 71=(To ((Go.Gg.h_.fields [(0,1),(1,1),(2,1)]),(Uy #[(UP Option.none 0 0),(S_ Tg (0)),(S_ UF (0))])))/\m_ BI 73=(To ((Go.Gg.h_.fields [(0,6)]),(Uy #[(S_ Tg (0)),(S_ Tg (0)),(S_ Tg (0)),(UP Option.none 0 0),(UP Option.none 0 0),(UP Option.none 0 0)])))/\m_ BI 83=(To ((Go.Gg.h_.fields [(0,4),(4,4),(8,3)]),(Uy #[(S_ Tg (0)),(S_ Tg (0)),(S_ Tg (0)),(S_ Tg (0)),(S_ Tg (0)),(S_ Tg (0)),(S_ Tg (0)),(S_ Tg (0)),(S_ Tg (0)),(S_ Tg (0)),(S_ Tg (0))]))):=by and_intros<;>kernel_rfl
def F.q1:m_ BI 85=(To ((Go.Gg.h_.fields [(0,1),(1,1),(2,4),(6,4),(10,4),(14,3),(17,11)]),(Uy #[(Yp Bool.false),(ap' Option.none),(S_ Ua (0)),(S_ Ua (0)),(S_ Ua (0)),(S_ Ua (0)),(S_ Ua (0)),(S_ Ua (0)),(S_ Ua (0)),(S_ Ua (0)),(S_ Ua (0)),(S_ Ua (0)),(S_ Ua (0)),(S_ Ua (0)),(S_ Ua (0)),(S_ Ua (0)),(S_ Ua (0)),(S_ Tg (0)),(S_ Tg (0)),(S_ Tg (0)),(S_ Tg (0)),(S_ Tg (0)),(S_ Tg (0)),(S_ Tg (0)),(S_ Tg (0)),(S_ Tg (0)),(S_ Tg (0)),(S_ Tg (0))])))/\CE BI 3 69=(To (To UF))/\CE BI 69 3=(To (To Tg))/\eD BI 104 0=(To 0)/\eD BI 104 1=(To 1)/\eD BI 109 0=(To 0)/\eD BI 109 1=(To 1)/\eD BI 109 2=(To 2)/\eD BI 113 0=(To 0)/\eD BI 113 1=(To 1)/\eD BI 113 2=(To 2)/\eD BI 134 0=(To 0)/\eD BI 134 1=(To 1)/\eD BI 134 2=(To 2)/\eD BI 25 0=(To 0)/\eD BI 25 1=(To 1):=by and_intros<;>kernel_rfl
def F.q2:eD BI 25 2=(To 2)/\eD BI 25 3=(To 3)/\eD BI 25 4=(To 4)/\eD BI 25 5=(To 5)/\eD BI 27 0=(To 0)/\eD BI 27 1=(To 1)/\eD BI 29 0=(To 0)/\eD BI 29 1=(To 1)/\eD BI 68 0=(To 0)/\eD BI 68 1=(To 2)/\eD BI 71 0=(To 0)/\eD BI 71 1=(To 1)/\eD BI 71 2=(To 2)/\eD BI 73 0=(To 0)/\eD BI 83 0=(To 0)/\eD BI 83 1=(To 4):=by and_intros<;>kernel_rfl
def F.q3:eD BI 83 2=(To 8)/\eD BI 85 0=(To 0)/\eD BI 85 1=(To 1)/\eD BI 85 2=(To 2)/\eD BI 85 3=(To 6)/\eD BI 85 4=(To 10)/\eD BI 85 5=(To 14)/\eD BI 85 6=(To 17)/\nR BI 22=(To (Option.none,3))/\nR BI 23=(To (Option.none,4))/\nR BI 30=(To (Option.none,1))/\nR BI 33=(To (Option.none,6))/\nR BI 77=(To ((To 4),1))/\nR BI 78=(To ((To 3),1))/\nR BI 79=(To ((To 4),1))/\nR BI 80=(To ((To 4),1)):=by and_intros<;>kernel_rfl
def F.q4:nR BI 81=(To ((To 3),1))/\nR BI 88=(To (Option.none,1))/\yf BI 79=(To (4,1))/\yf BI 80=(To (4,1))/\yf BI 81=(To (3,1))/\kN BI 23=(To (68,4))/\kN BI 30=(To (3,1))/\kN BI 79=Option.none/\kN BI 80=Option.none/\kN BI 81=Option.none/\j6 BI 22=(To Go.Gg.yh.slice)/\j6 BI 23=(To Go.Gg.yh.slice)/\j6 BI 30=(To Go.Gg.yh.slice)/\j6 BI 33=(To Go.Gg.yh.slice)/\j6 BI 88=(To Go.Gg.yh.slice)/\CO BI 30=(To (3,(1,(S_ Tg (0))))):=by and_intros<;>kernel_rfl
def F.q5:pU BI 74=(To (80,4))/\qS BI 22=(To (29,(3,(Uy #[(S_ Tg (0)),(S_ Tg (0)),(S_ Tg (0))]))))/\qS BI 23=(To (68,(4,(Uy #[(S_ Tg (0)),(S_ Tg (0)),(S_ Tg (0)),(S_ Tg (0))]))))/\qS BI 30=(To (3,(1,(S_ Tg (0)))))/\qS BI 33=(To (25,(6,(Uy #[(S_ Tg (0)),(S_ Tg (0)),(S_ Tg (0)),(UP Option.none 0 0),(UP Option.none 0 0),(UP Option.none 0 0)]))))/\qS BI 88=(To (30,(1,(UP Option.none 0 0))))/\Ty BI 104=(To (2,Bool.true))/\Ty BI 109=(To (3,Bool.true))/\Ty BI 113=(To (3,Bool.true))/\Ty BI 124=(To (1,Bool.false))/\Ty BI 153=(To (1,Bool.false))/\Ty BI 155=(To (1,Bool.false))/\Ty BI 163=(To (0,Bool.true))/\Ty BI 166=(To (1,Bool.false))/\Ty BI 191=(To (1,Bool.false))/\Ty BI 22=(To (1,Bool.false)):=by and_intros<;>kernel_rfl
def F.q6:Ty BI 23=(To (1,Bool.false))/\Ty BI 25=(To (6,Bool.true))/\Ty BI 27=(To (2,Bool.true))/\Ty BI 29=(To (3,Bool.true))/\Ty BI 3=(To (1,Bool.false))/\Ty BI 30=(To (1,Bool.false))/\Ty BI 4=(To (1,Bool.false))/\Ty BI 68=(To (4,Bool.true))/\Ty BI 69=(To (1,Bool.false))/\Ty BI 73=(To (6,Bool.true))/\Ty BI 74=(To (1,Bool.false))/\Ty BI 76=(To (1,Bool.false))/\Ty BI 78=(To (3,Bool.true))/\Ty BI 80=(To (4,Bool.true))/\Ty BI 83=(To (11,Bool.true))/\Ty BI 85=(To (28,Bool.true)):=by and_intros<;>kernel_rfl
def F.q7:eR BI 104=(To (Uy #[(S_ Tg (0)),(S_ Tg (0))]))/\eR BI 109=(To (Uy #[(UP Option.none 0 0),(UP Option.none 0 0),(UP Option.none 0 0)]))/\eR BI 124=(To Z4)/\eR BI 134=(To (Uy #[(S_ Tg (0)),(S_ Tg (0)),(Yp Bool.false)]))/\eR BI 139=(To (Uy #[(S_ Tg (0)),(S_ Tg (0))]))/\eR BI 144=(To (Uy #[(S_ Tg (0)),(S_ Tg (0))]))/\eR BI 163=(To (Uy #[]))/\eR BI 166=(To (Y7 Option.none))/\eR BI 174=(To (Uy #[(S_ UF (0)),(S_ axH (0))]))/\eR BI 191=(To Z4)/\eR BI 25=(To (Uy #[(S_ Tg (0)),(S_ Tg (0)),(S_ Tg (0)),(UP Option.none 0 0),(UP Option.none 0 0),(UP Option.none 0 0)]))/\eR BI 27=(To (Uy #[(S_ Tg (0)),(S_ Tg (0))]))/\eR BI 29=(To (Uy #[(S_ Tg (0)),(S_ Tg (0)),(S_ Tg (0))]))/\eR BI 3=(To (S_ Tg (0)))/\eR BI 68=(To (Uy #[(S_ Tg (0)),(S_ Tg (0)),(S_ Tg (0)),(S_ Tg (0))]))/\eR BI 73=(To (Uy #[(S_ Tg (0)),(S_ Tg (0)),(S_ Tg (0)),(UP Option.none 0 0),(UP Option.none 0 0),(UP Option.none 0 0)])):=by and_intros<;>kernel_rfl
def F.q8:eR BI 76=(To (S_ Ua (0)))/\eR BI 77=(To (Uy #[(S_ Ua (0)),(S_ Ua (0)),(S_ Ua (0)),(S_ Ua (0))]))/\eR BI 78=(To (Uy #[(S_ Ua (0)),(S_ Ua (0)),(S_ Ua (0))]))/\eR BI 80=(To (Uy #[(S_ Tg (0)),(S_ Tg (0)),(S_ Tg (0)),(S_ Tg (0))]))/\eR BI 83=(To (Uy #[(S_ Tg (0)),(S_ Tg (0)),(S_ Tg (0)),(S_ Tg (0)),(S_ Tg (0)),(S_ Tg (0)),(S_ Tg (0)),(S_ Tg (0)),(S_ Tg (0)),(S_ Tg (0)),(S_ Tg (0))])):=by and_intros<;>kernel_rfl
attribute [seval] F.q0 F.q1 F.q2 F.q3 F.q4 F.q5 F.q6 F.q7 F.q8 F.JV F.Qh
def ap.stay (Φ:SI):ap->AS->Prop
 |.goto _,_=>False
 |e,s=>Φ e s
def atC(Φ:SI)(s:AS):ap.stay Φ .normal s=Φ .normal s:=by rw[ap.stay];simp
def atE(Φ:SI)(s:AS):ap.stay Φ .ret s=Φ .ret s:=by rw[ap.stay];simp
def atB(Φ:SI)(i:Nat)(s:AS):ap.stay Φ (.exit i) s=Φ (.exit i) s:=by rw[ap.stay];simp
def atD(Φ:SI)(a:AV)(s:AS):ap.stay Φ (.panic a) s=Φ (.panic a) s:=by rw[ap.stay];simp
def QN{lv:Bool}{P:Tl}{r:SL}{s:AS}{nt:Nat}{c:U5}{Φ:SI}(h:aW lv P r nt c s (ap.stay Φ)):aW lv P r nt (.scope c) s Φ:=by refine ahl (λ_ _ _=>False) ⟨0,h.mono λe s hs=> ?_⟩ λ_ _ _ _ _ hf=>hf.elim;cases e<;>first|exact hs|exact hs.elim
@[congr] theorem awK {s s' : AS} {Φ : ap -> AS -> Prop} {e e' : ap} (he : e = e') (h : s = s') : ap.stay Φ e s = ap.stay Φ e' s' := by rw[he, h]
attribute [seval] atC atE atB atD
def an0{α:Type}(n:Nat)(x:α):(if(n:Int)<0 then none else some x)=some x:=by rw[if_neg (by omega)]
def ah1:(ZH==Xh)=false:=by decide
def ah2:(Xh==Xh)=true:=by decide
def aue{α β:Type}(f:α->β)(xs:List α):(xs.map f).take xs.length=xs.map f:=Tu (by simp)
def aqo(o:Xl):(o=o\/o=.neq)=True:=by simp
def aqp:(Xh=.eql\/Xh=.neq)=True:=by simp
def an6{α:Type}(a b:α):(if false=true then a else b)=b:=by simp
def an7{α:Type}(a b:α):(if true=true then a else b)=a:=by simp
def ahX(s:AS):s.jw none=some none:=by rw[AS.jw]
def ahY(s:AS)(x:Up):s.jw (some x)=(s.ev x).bind λa=>a.wN.map some:=by rw[AS.jw];cases s.ev x<;>rfl
def agV(j:UZ)(n:Int):AV.wN (.val (.int j n))=some n:=by rw[AV.wN]
def af3(P:Tl)(t:TypeId)(id off:Nat)(l h m:TK)(k:SP):tw P t (.op id off) l h m k=au (yf P t) λp=>tG id off p.1 p.1 p.2 l h m k:=by rw[tw]
def af4(P:Tl)(t:TypeId)(id off n c:Nat)(l h m:TK)(k:SP):tw P t (.bB id off n c) l h m k=au (kN P t) λp=>tG id off n c p.2 l h m k:=by rw[tw]
def af5(P:Tl)(t:TypeId)(n:Nat)(li:SC)(e:End)(l h m:TK)(k:SP):tw P t (.sl n li e) l h m k=au (kN P t) λp=>yk n li e p.2 l h m k:=by rw[tw]
def aqv:type_of% @tG.eq_1:=by intros;rw[tG.eq_1]
def atb:type_of% @yk.eq_1:=by intros;rw[yk.eq_1]
@[congr] theorem awF {id pD off Fh n n' cap cap' sz eQ : Nat} {lo EV hi cN mx E_ : Option Int} {k : AV -> Prop} (h1 : id = pD) (h2 : off = Fh) (h3 : n = n') (h4 : cap = cap') (h5 : sz = eQ) (h6 : lo = EV) (h7 : hi = cN) (h8 : mx = E_) : tG id off n cap sz lo hi mx k = tG pD Fh n' cap' eQ EV cN E_ k := by rw[h1, h2, h3, h4, h5, h6, h7, h8]
@[congr] theorem awI {n n' sz eQ : Nat} {l l' : SC} {e e' : End} {lo EV hi cN mx E_ : Option Int} {k : AV -> Prop} (h3 : n = n') (h1 : l = l') (h2 : e = e') (h5 : sz = eQ) (h6 : lo = EV) (h7 : hi = cN) (h8 : mx = E_) : yk n l e sz lo hi mx k = yk n' l' e' eQ EV cN E_ k := by rw[h1, h2, h3, h5, h6, h7, h8]
def apM:((1:Nat):Int)=1:=rfl
def apN:((2:Nat):Int)=2:=rfl
def apO:((3:Nat):Int)=3:=rfl
def apP:((4:Nat):Int)=4:=rfl
def apQ:((5:Nat):Int)=5:=rfl
def apR:((6:Nat):Int)=6:=rfl
def auC(p:Prop):(True\/p)=True:=by simp
def aqt(p:Prop):(p\/True)=True:=by simp
attribute [seval] apM apN apO apP apQ apR auC aqt Int.le_refl List.length_map
def agG(H L:SA):(H++L)[H.length+1+1]?=L[2]?:=wL H L 2
def agH(H L:SA):(H++L)[H.length+1+1+1]?=L[3]?:=wL H L 3
def agK(H L:SA)(x:aa):(H++L).set (H.length+1+1) x=H++L.set 2 x:=wM H L 2 x
def agL(H L:SA)(x:aa):(H++L).set (H.length+1+1+1) x=H++L.set 3 x:=wM H L 3 x
attribute [seval] agG agH agK agL
attribute [seval] ahX ahY agV af3 af4 af5 aqv atb Option.getD_none Option.getD_some Int.toNat_zero Nat.sub_zero Option.bind_some Option.map_some Nat.zero_le Option.isSome_none Option.isSome_some Bool.false_eq_true false_implies
attribute [seval] an0 ah1 ah2 aue aqo aqp an6 an7
section
variable {P:Tl}{α β:Type}
def i_(a:α):bA P (pure a) a:=λw es=>by simp only[pure,WQ]
def lW{x:Sem α}{f:α->Sem β}{a:α}{b:β}(h:bA P x a)(k:bA P (f a) b):bA P (x>>=f) b:=λw es=>by show (x.bind f).runT P w es=_;rw[Sem.runT_bind',h w es];exact k w es
def at0{k:Tl->Sem α}{a:α}(h:bA P (k P) a):bA P (.program k) a:=λw es=>by simp only[WQ];exact h w es
def PB{k:Tl->Sem α}{a:α}(h:bA P (k P) a):bA P (program>>=k) a:=lW (a:=P) (at0 (i_ P)) h
def Ag{t:TypeId}{d:TypeDesc}{k:TypeDesc->Sem α}{a:α}(h:P.underlying t=some d)(hk:bA P (k d) a):bA P (underlying t>>=k) a:=by unfold underlying;refine lW (a:=d) (PB ?_) hk;rw[h];exact i_ d
def AB:TypeDesc->Bool
 |.struct _|.array _ _=>true
 |_=>false
def aeE{t:TypeId}{d:TypeDesc}{k:Bool->Sem α}{a:α}(h:P.underlying t=some d)(hk:bA P (k (AB d)) a):bA P (isAgg t>>=k) a:=by unfold isAgg;refine lW (Ag (a:=AB d) h ?_) hk;cases d<;>exact i_ _
def PC{t:TypeId}{i:X8}{k:Nat->Sem α}{a:α}(h:P.info? t=some i)(hk:bA P (k i.size) a):bA P (sizeOf t>>=k) a:=by unfold sizeOf typeInfo;refine lW (lW (a:=i) (PB ?_) (i_ _)) hk;rw[h];exact i_ i
def FE{t:TypeId}{d:TypeDesc}{xs:SG}{off:Nat}{v:T9}{k:T9->Sem α}{a:α}(h:P.underlying t=some d)(hd:AB d=false)(hv:xs[off]?=some v)(hk:bA P (k v) a):bA P (part t xs off>>=k) a:=by unfold part;refine lW (a:=v) (aeE h ?_) hk;rw[hd,hv];exact i_ v
def aeF{t:TypeId}{d:TypeDesc}{i:X8}{xs:SG}{off:Nat}{k:T9->Sem α}{a:α}(h:P.underlying t=some d)(hd:AB d=true)(hi:P.info? t=some i)(hk:bA P (k (.agg (xs.extract off (off+i.size)))) a):bA P (part t xs off>>=k) a:=by unfold part;refine lW (aeE h ?_) hk;rw[hd];exact PC hi (i_ _)
def aeD{t:TypeId}{k0 k:UZ}{d:Nat}{x y:Int}(h:P.underlying t=some (.int k0)):bA P (WI (d+1) t (.int k x) (.int k y)) (x==y):=by rw[WI];refine Ag h ?_;dsimp only;rw[if_pos rfl];exact i_ _
def aex{ι:Type}{body:ι->Option Bool×Unit->Sem (ForInStep (Option Bool×Unit))}{p:ι->Bool}:∀(l:List ι),(∀i∈l,bA P (body i (none,())) (if p i then .yield (none,())else .done (some false,())))->bA P (forIn l (none,()) body) (if l.all p then(none,())else(some false,()))
 |[],_=>by simpa using i_ (none,())
 |i::l,h=>by rw[Yc];refine lW (h i (UC ..)) ?_;by_cases hp:p i=true;(simp only[hp,if_true,aw1,VO];exact aex l λj hj=>h j (Ue _ hj));have Bz:p i=false:=(by simpa using hp);simp only[Bz,UH,if_false,aw1,Ww];exact i_ _
def agy{α:Type}[BEq α][LawfulBEq α]{xs ys:List α}{n:Nat}(hx:xs.length=n)(hy:ys.length=n):((U8 0 n).all λi=>xs[i]?==ys[i]?)=(xs==ys):=by rw[Ve,Uq,beq_iff_eq];constructor;intro h;apply Yd;intro i;by_cases hi:i<n;(have:=h i (by simp[Za];omega);simpa using this);rw[VI (by omega),VI (by omega)];rintro rfl i _;simp
def atX{t e:TypeId}{k0 k:UZ}{n d:Nat}{i:X8}{xs ys:SD}(ht:P.underlying t=some (.array n e))(he:P.underlying e=some (.int k0))(hi:P.info? e=some i)(hs:i.size=1)(hx:xs.length=n)(hy:ys.length=n):
  bA P (WI (d+2) t (.agg (xs.map (S_ k)).toArray) (.agg (ys.map (S_ k)).toArray)) (xs==ys):=by
 rw[WI];refine Ag ht ?_;dsimp only;refine PC hi ?_;rw[hs];simp only[XG,YI];refine lW (a:=if(xs==ys)then(none,())else(some false,())) ?_ (by cases xs==ys<;>exact i_ _);have hn:(n-0+1-1)/1=n:=by simp
 rw[hn,<- agy hx hy];refine aex _ λj hj=> ?_;have qq:j<n:=by simp[Za]at hj;omega
 have gx:xs[j]?=some (xs[j]'(by omega)):=T4 _;have gy:ys[j]?=some (ys[j]'(by omega)):=T4 _;rw[Zo];refine FE he rfl (v:=.int k (xs[j]'(by omega))) (by simp[gx]) ?_;refine FE he rfl (v:=.int k (ys[j]'(by omega))) (by simp[gy]) ?_;refine lW (aeD he) ?_;rw[gx,gy];by_cases h:xs[j]'(by omega)=ys[j]'(by omega);rw[h];simp;exact i_ _
 ·have h1:(xs[j]'(by omega)==ys[j]'(by omega))=false:=by simpa using h
  have h2:(some (xs[j]'(by omega))==some (ys[j]'(by omega)))=false:=by simpa using h
  rw[h1,h2];exact i_ _
def bA.uniq{x:Sem α}{a b:α}(h:bA P x a)(k:bA P x b):a=b:=by have e:=(h default #[]).symm.trans (k default #[]);have e1:=congrArg Prod.fst e;exact(axW e1).1
def aeA{t e:TypeId}{k0:UZ}{n:Nat}{i:X8}{xs ys:SD}(ht:P.underlying t=some (.array n e))(he:P.underlying e=some (.int k0))(hi:P.info? e=some i)(hs:i.size=1)(hx:xs.length=n)(hy:ys.length=n):
  bA P (XW t (.agg (xs.map (S_ .i64)).toArray) (.agg (ys.map (S_ .i64)).toArray)) (xs==ys):=atX (d:=9998) ht he hi hs hx hy
def wj(xs:SD):AV.raw (.agg (xs.map iv))=some (.agg (xs.map (S_ .i64)).toArray):=by
 have:∀l:SD,(l.map iv).mapM AV.Cb=some (l.map (S_ .i64)):=by
  intro l;induction l with
  |nil=>rfl
  |cons x l ih=>simp only[VN,U6,ih];rfl
 simp only[AV.raw,this];rfl
def aq6{xs:SD}{i:Nat}{y:Int}(h:i<xs.length):iT (xs.map iv) i [iv y]=(xs.set i y).map iv:=by unfold iT;rw[List.map_set,List.set_eq_take_append_cons_drop,if_pos (by simpa using h)];simp
def xU{xs:SD}{i:Nat}{y:Int}(h:i<xs.length):(xs.map iv).take i++[iv y]++(xs.map iv).drop (i+1)=(xs.set i y).map iv:=aq6 h
def lx{xs:SD}{i:Nat}{x:Int}(h:xs[i]?=some x):(xs.map iv).drop i=iv x::(xs.drop (i+1)).map iv:=by have h1:=eF h;rw[<- ZL,UL h1,VN];rw[T4 h1]at h;cases h;rfl
end
def acm(xs:SD):(∀a∈xs.map iv,a.leaf=true)=True:=by
 simp only[Uh,eq_iff_iff,iff_true]
 rintro a ⟨x,_,rfl⟩;rfl
attribute [seval] List.append_nil acm
def Ao (lv:Bool)(P:Tl)(g:UR)(args:SG)(md:Wp)(V:View)(R:Wp->View->Prop):Prop:=
 ∀(main:Bool)(J:SM),Closed lv P main J->∀(fr:VM)(cs:SX),fr.mode=md->(∀oK V',R oK V'->J V' (G {fr with mode:=oK} cs))->J V (G (Frame.enter P g args .deferred) (fr::cs))
def si:Wp->Wp
 |.panicking ({recovered:=true, .. }::OJ)=>match OJ.dropWhile (!·.goexit)with
  |[]=> .returning
  |rest=> .panicking rest
 |m=>m
def acn{lv:Bool}{P:Tl}{main:Bool}{J:SM}(C:Closed lv P main J){fr c:VM}{cs:SX}{f:UR}{v:T9}{V:View}(h:Leaves P fr f .deferred (.ret v) V)(hJ:J V (G {c with mode:=si c.mode} cs)):J V (G fr (c::cs)):=by
 obtain⟨rfl,hd,hk,fn,hf,hm,hr⟩:=h;refine C.step _ _ rfl λw hw=> ?_;obtain⟨es,w',V',h1,h2,h3⟩:=hr.runs hw;rcases h3 with⟨x,h3,rfl,rfl⟩|⟨_,_,h⟩
 ·refine⟨G {c with mode:=si c.mode} cs,w',seen P fr.fn es,V',?_,h1.seen P fr.fn,hJ⟩;simp only[G,stepG,unwind,doReturn,hm,hd,hk,hf,UE,h3,h2,U3];cases HC:c.mode with
  |run=>simp[si,<- HC]
  |returning=>simp[si,<- HC]
  |panicking ch=>
   cases ch with
   |nil=>simp[si,<- HC]
   |cons p OJ=>
    obtain⟨v,rec,ge⟩:=p;cases rec with
    |false=>simp[si,<- HC]
    |true=>
     simp only[si];cases hdw:OJ.dropWhile (!·.goexit)with
     |nil=>simp
     |cons x y=>simp
 ·exact h.elim
def R0{ρ:Up->T9}{o:Vp}{cl:Yv}(aB:o.op=.call cl)(aY:cl.callee=.builtin .recover)(P:Tl)(w:Us)(es:SO):(execOp ρ o).runT P w es=(.ok .recover w,es):=by unfold execOp;rw[aB];dsimp only;unfold resolve;rw[aY];rfl
def asw{P:Tl}{main:Bool}{b c:VM}{a:Act}{k:SZ}{cs:SX}{w:Us}{ops:SK}{i:Nat}{rest:SE}{o:Vp}{cl:Yv}{v:T9}(ho:ops[i]?=some o)(hg:o.guard=none)(aB:o.op=.call cl)(aY:cl.callee=.builtin .recover)(hb:b.kind=.deferred)(hr:b.roundOf=none)
  (hm:c.mode=.panicking [{v,recovered:=false}]):stepG P main (G (on b a (.inRegion ops (i::rest)::k)) (c::cs)) w=.go (G (on b (a.put o.dst v) (.inRegion ops rest::k)) ({c with mode:=.panicking [{v,recovered:=true}]}::cs)) w #[]:=by
 have eA:(on b a (.inRegion ops (i::rest)::k)).finish v=on b (a.put o.dst v) (.inRegion ops rest::k):=by rw[B3,ho];rfl
 rw[s_op ho (by unfold Uo;rw[hg]) (.inl hr),<- eA];have kq:((on b a (.inRegion ops (i::rest)::k)).kind==Wn)=false:=by simp[on,hb]
 simp only[stepG.apply,if_true,R0 aB aY,kq,U3,UH,if_false];have h1:(on b a (.inRegion ops (i::rest)::k)).roundOf=none:=hr;have h2:(on b a (.inRegion ops (i::rest)::k)).kind=.deferred:=hb;rw[h1];simp only[tryRecover,h2,hm];simp[seen,G]
def asx{P:Tl}{main:Bool}{b c:VM}{a:Act}{k:SZ}{cs:SX}{w:Us}{ops:SK}{i:Nat}{rest:SE}{o:Vp}{cl:Yv}(ho:ops[i]?=some o)(hg:o.guard=none)(aB:o.op=.call cl)(aY:cl.callee=.builtin .recover)(hb:b.kind=.deferred)(hr:b.roundOf=none)
  (hm:c.mode=.returning):stepG P main (G (on b a (.inRegion ops (i::rest)::k)) (c::cs)) w=.go (G (on b (a.put o.dst .nilIface) (.inRegion ops rest::k)) (c::cs)) w #[]:=by
 have eA:(on b a (.inRegion ops (i::rest)::k)).finish .nilIface=on b (a.put o.dst .nilIface) (.inRegion ops rest::k):=by rw[B3,ho];rfl
 rw[s_op ho (by unfold Uo;rw[hg]) (.inl hr),<- eA];have kq:((on b a (.inRegion ops (i::rest)::k)).kind==Wn)=false:=by simp[on,hb]
 simp only[stepG.apply,if_true,R0 aB aY,kq,U3,UH,if_false];have h1:(on b a (.inRegion ops (i::rest)::k)).roundOf=none:=hr;have h2:(on b a (.inRegion ops (i::rest)::k)).kind=.deferred:=hb;rw[h1];simp only[tryRecover,h2,hm];simp[seen,G]
def F0 (P:Tl)(fn:aw5)(K:View->Prop):Ex->Act->View->Prop
 |.normal,a,V|.ret,a,V=>a.defers=[]/\∃v,aT P V (results fn a.tmps) (λx V'=>x=v/\V'=V) (λ_ _=>False)/\K V
 |_,_,_=>False
def aiu{lv:Bool}{P:Tl}{g:UR}{fn:aw5}{id:Nat}{ops:SK}{c2:U5}{o:Vp}{cl:Yv}{args:SG}{md:Wp}{v0:T9}{V:View}{R:Wp->View->Prop}
  (hf:P.funcs[g]?=some fn) (hb:fn.body=some (.seq (.region id ops false) c2)) (ho:ops[0]?=some o) (hg:o.guard=none) (aB:o.op=.call cl) (aY:cl.callee=.builtin .recover)
  (rD:md=.panicking [{v:=v0,recovered:=false}]\/(md=.returning/\v0=.nilIface))
  (h:dq lv P none ops (Ex.then (WP lv P none c2 (F0 P fn (R .returning))) (F0 P fn (R .returning))) (U8 1 (ops.size-1)) (({tmps:=args++US (fn.ntmps-args.size) undef,defers:=[]}:Act).put o.dst v0) V):Ao lv P g args md V R:=by
 intro main J C fr cs mH hR;let b:VM:={(default:VM)with fn:=g,kind:=.deferred,roundOf:=none};have vD:Frame.enter P g args .deferred=on b {tmps:=args++US (fn.ntmps-args.size) undef,defers:=[]} [.code (.seq (.region id ops false) c2)]:=by simp[Frame.enter,on,hf,hb,b]
 rw[vD];have a_:0<ops.size:=(Tw.1 ho).1;have Nl:Tt ops.size=0::U8 1 (ops.size-1):=by rw[Wj];obtain⟨n,hn⟩:∃n,ops.size=n+1:=⟨ops.size-1,by omega⟩;rw[hn,WL];rfl
 refine C.idle rfl (λ_=>adN) (C.idle rfl (λ_=>adM) ?_);rw[Nl];have fin:∀(c:VM),si c.mode=.returning->{c with mode:=si c.mode}={fr with mode:=.returning}->∀e a' V',F0 P fn (R .returning) e a' V'->wG J b [] (c::cs) e a' V':=by
  intro c hc nA e a' V' q;cases e with
  |normal=>obtain⟨hd,v,hs,hr⟩:=q;refine C.idle rfl (λw=>Fv rfl) (acn (f:=g) (v:=v) C ⟨rfl,hd,rfl,fn,hf,rfl,hs⟩ ?_);rw[nA];exact hR _ _ hr
  |ret=>obtain⟨hd,v,hs,hr⟩:=q;intro k;refine C.idle rfl (λw=>Fw rfl) (acn (f:=g) (v:=v) C ⟨rfl,hd,rfl,fn,hf,rfl,hs⟩ ?_);rw[nA];exact hR _ _ hr
  |_=>exact q.elim
 have run:∀(c:VM),si c.mode=.returning->{c with mode:=si c.mode}={fr with mode:=.returning}->J V (G (on b (({tmps:=args++US (fn.ntmps-args.size) undef,defers:=[]}:Act).put o.dst v0) (.inRegion ops (U8 1 (ops.size-1))::[.code c2])) (c::cs)):=by
  intro c hc nA;refine wp_ops _ _ V h main J C b [.code c2] (c::cs) (by show ZY≠Wn;decide) rfl λe a' V' q=> ?_;cases e with
  |normal=>exact q main J C b [] (c::cs) (by show ZY≠Wn;decide) rfl λe cD aZ q'=>fin c hc nA e cD aZ q'
  |ret=>exact fin c hc nA .ret a' V' q
  |panic ch=>exact q.elim
  |exit i=>exact q.elim
  |goto i=>exact q.elim
 rcases rD with rD|⟨rD,hv⟩;refine C.idle rfl (λw=>asw ho hg aB aY rfl rfl (by rw[mH,rD])) ?_;exact run {fr with mode:=.panicking [{v:=v0,recovered:=true}]} rfl rfl
 ·refine C.idle rfl (λw=>asx ho hg aB aY rfl rfl (by rw[mH,rD])) ?_;subst hv;have jD:fr.mode=.returning:=by rw[mH,rD]
  exact run fr (by rw[jD];rfl) (by rw[jD];rfl)
section
variable {lv:Bool}{P:Tl}
def Pn{g:UR}{args:SG}{V:View}{K:Next->View->Prop}{Kp:SQ}(hg:rU P g=true)(h:K (.enter g args) V):aT P V (callFunc g args) K Kp:=by
 unfold callFunc;refine aA (pK (cj ?_));unfold rU at hg;split at hg
 ·rename_i fn vE;simp only[Ui,UV]at hg;rw[vE];dsimp only;have nz:fn.body.isNone=false:=by
   have h1:=hg.1;cases hb:fn.body with
   |none=>rw[hb]at h1;cases h1
   |some _=>rfl
  rw[if_neg (by rw[hg.2];simp),if_neg (by rw[nz];simp)];exact az h
 ·cases hg
def Dc{E:Env}{V:View}{H:SA}{args:SC}{vs:SG}{nt:Nat}(hc:Conc E V H)(hd:bR E args vs)(cU:args.length<=nt):At E V ⟨ba 0 args,H⟩ {tmps:=vs++US (nt-vs.size) undef,defers:=[]} nt:=by
 have a_:(vs++US (nt-vs.size) undef).size=nt:=by simp[hd.1];omega
 refine⟨hc,λq a e=> ?_,a_⟩;obtain⟨_,e⟩:=Oj args 0 q a e;simp only[aw']at e;have hq:q<args.length:=(Tn.1 e).1;have uq:q<vs.size:=by rw[hd.1];exact hq
 refine⟨by rw[a_];omega,?_⟩;have:=hd.2 q a e;rw[Th,XJ uq];rwa[Th]at this
def An (E:Env)(c:AV×SC)(d:Yn):Prop:=∃f first c9 fa ca vs,c.1=.fn (.func f) first c9/\d=⟨.fn (.func f) ca,fa++vs⟩/\bR E first fa/\bR E c9 ca/\bR E c.2 vs
def An.mono{E E':Env}(h:E.Le E'){c:AV×SC}{d:Yn}(k:An E c d):An E' c d:=by obtain⟨f,first,c9,fa,ca,vs,h1,h2,h3,h4,h5⟩:=k;exact⟨f,first,c9,fa,ca,vs,h1,h2,h3.mono h,h4.mono h,h5.mono h⟩
def Qa (E:Env):Option AV->Wp->Prop
 |none,md=>md=.returning
 |some pv,md=>∃v,md=.panicking [{v,recovered:=false}]/\ay E pv v
def rV (lv:Bool)(P:Tl)(c:AV×SC)(H:SA)(m:Option AV)(kr kp:SA->Prop):Prop:=
 ∀(E:Env)(V:View)(d:Yn)(md:Wp),Conc E V H->An E c d->Qa E m md->aT P V (invoke d.target d.args) (λnx V'=>∃g args,nx=.enter g args/\Ao lv P g args md V' λoK aZ=>∃E' H',E.Le E'/\aZ.role=V.role/\aZ.deaf=V.deaf/\Conc E' aZ H'/\((oK=.returning/\kr H')\/(oK=md/\m.isSome=true/\kp H'))) (λ_ _=>False)
def CG (n0:Nat)(kr:SA->Prop):ap->AS->Prop
 |.normal,s|.ret,s=>kr s.H\/∃H' G,s.H=H'++G/\n0<=H'.length/\bJ H'/\kr H'
 |_,_=>False
def CG.out{n0:Nat}{E0 E:Env}{V':View}{H:SA}{kr:SA->Prop}(h:kr H\/∃H' G,H=H'++G/\n0<=H'.length/\bJ H'/\kr H')(hc:Conc E V' H)(hle:E0.Le E)(hn:E0.n=n0):∃E' H',E0.Le E'/\Conc E' V' H'/\kr H':=by rcases h with h|⟨H',G,rfl,h1,h2,h3⟩;exact⟨E,H,hle,hc,h⟩;exact⟨{E with n:=H'.length},H',FH h1 (by rw[hc.n];simp) hle hn,hc.trim h2,h3⟩
def results_none{fn:aw5}{tmps:SG}{V:View}(hr:fn.results=#[]):aT P V (results fn tmps) (λx V'=>x=.tuple #[]/\V'=V) (λ_ _=>False):=by unfold results;rw[show fn.results=([]:SW).toArray from hr,Zc];refine aA ?_;refine aA ?_;rw[VB];refine az (az (az ⟨?_,rfl⟩));simp
def ait{g:UR}{fn:aw5}{id nt:Nat}{ops:SK}{c2:U5}{o:Vp}{cl:Yv}{first c9 aL:SC}{H:SA}{m:Option AV}{kr kp:SA->Prop}
  (hg:rU P g=true) (hf:P.funcs[g]?=some fn) (hb:fn.body=some (.seq (.region id ops false) c2)) (hr:fn.results=#[]) (hn:fn.ntmps=nt) (ho:ops[0]?=some o) (uf:o.guard=none) (aB:o.op=.call cl) (aY:cl.callee=.builtin .recover) (dC:ki nt ops=true) (cU:(first++aL++c9).length<=nt)
  (h:iU lv P ops (ops.toList.drop 1) ((⟨ba 0 (first++aL++c9),H⟩:AS).put o.dst (m.getD (.val .nilIface))) (λs'=>aW lv P none nt c2 s' (CG H.length kr)) (λ_ _=>False)):rV lv P (.fn (.func g) first c9,aL) H m kr kp:=by
 intro E V d md hc hd rD;obtain⟨f,awc,av7,fa,ca,vs,h1,rfl,h3,h4,h5⟩:=hd;cases h1;unfold invoke;dsimp only;refine Pn hg ⟨g,_,rfl,?_⟩;obtain⟨v0,hv,amV⟩:∃v0,ay E (m.getD (.val .nilIface)) v0/\(md=.panicking [{v:=v0,recovered:=false}]\/(md=.returning/\v0=.nilIface)):=by
  cases m with
  |none=>exact⟨.nilIface,.val _,.inr ⟨rD,rfl⟩⟩
  |some pv=>obtain⟨v,e,hv⟩:=rD;exact⟨v,hv,.inl e⟩
 refine aiu hf hb ho uf aB aY amV ?_;have ak:=Dc (nt:=nt) hc (AP (AP h3 h5) h4) cU;rw[hn];have a_:0<ops.size:=(Tw.1 ho).1;have e_:o∈ops:=Z8 ho;have aX:At E V ((⟨ba 0 (first++aL++c9),H⟩:AS).put o.dst (m.getD (.val .nilIface))) (({tmps:=fa++vs++ca++US (nt-(fa++vs++ca).size) undef,defers:=[]}:Act).put o.dst v0) nt:=
  ⟨by rw[fG];exact ak.bx,ak.tok.iy (λd e=>by rw[ak.size];exact(ki.out dC e_).1 d e) hv,(ek _ _ _).trans ak.size⟩
 refine B4 (r:=none) (Φ:=λe s'=>match e with
  |.normal=>aW lv P none nt c2 s' (CG H.length kr)
  |_=>False) (λo ho d e=>(ki.out dC ho).1 d e) (λ_ _=> .inl rfl) (ops.size-1) 1 _ (by omega) h E V _ _ aX λae e E' V' a' s' hk al1 he hΦ=> ?_
 cases ae<;>cases e<;>first
  |exact he.elim
  |exact hΦ.elim
  |skip
 refine hΦ E' V' a' _ al1 λae e bZ aZ cD dw aO dt kE uy=> ?_;have fin:(kr dw.H\/∃H' G,dw.H=H'++G/\H.length<=H'.length/\bJ H'/\kr H')->F0 P fn (λaZ=>∃E' H',E.Le E'/\aZ.role=V.role/\aZ.deaf=V.deaf/\Conc E' aZ H'/\((ZC=.returning/\kr H')\/(ZC=md/\m.isSome=true/\kp H'))) .ret cD aZ:=λuy=>by
  obtain⟨E3,H',q1,q2,q3⟩:=CG.out (E0:=E) uy dt.bx (hk.le.trans aO.le) hc.n;have bC:cD.defers=[]:=by rw[aO.defers,hk.defers];exact put_defers _ _ _
  exact⟨bC,_,results_none hr,E3,H',q1,aO.role.trans hk.role,aO.deaf.trans hk.deaf,q2,.inl ⟨rfl,q3⟩⟩
 cases ae<;>cases e<;>first
  |exact kE.elim
  |exact uy.elim
  |exact fin uy
def Rn{g:UR}{fn:aw5}{id nt:Nat}{ops:SK}{c2:U5}{o:Vp}{l:List Vp}{d0:SL}{cl:Yv}{first c9 aL:SC}{H:SA}{m:Option AV}{kr kp:SA->Prop}
  (hg:rU P g=true) (hf:P.funcs[g]?=some fn) (hb:fn.body=some (.seq (.region id ops false) c2)) (hr:fn.results=#[]) (hn:fn.ntmps=nt) (hl:ops.toList=o::l) (uf:o.guard=none) (aE:o.dst=d0) (aB:o.op=.call cl) (aY:cl.callee=.builtin .recover) (dC:ki nt ops=true) (cU:(first++aL++c9).length<=nt)
  (h:iU lv P ops l ((⟨ba 0 (first++aL++c9),H⟩:AS).put d0 (m.getD (.val .nilIface))) (λs'=>aW lv P none nt c2 s' (CG H.length kr)) (λ_ _=>False)):rV lv P (.fn (.func g) first c9,aL) H m kr kp:=by
 subst aE;refine ait hg hf hb hr hn (o:=o) (cl:=cl) ?_ uf aB aY dC cU (by rw[hl];simpa using h);have:ops.toList[0]?=some o:=by rw[hl];rfl
 simpa using this
end
section
variable {lv:Bool}{P:Tl}{r:SL}{s:AS}
def IM{nt:Nat}{all:SK}{Φ:SI}(dC:∀o∈all,∀d,o.dst=some d->d<nt)(oq:r=none):∀(n k:Nat)(s:AS),k+n<=all.size->iU lv P all ((all.toList.drop k).take n) s (Φ .normal) (λpv s=>Φ (.panic pv) s)->
  ∀(E:Env)(V:View)(a:Act)(Q:SJ),At E V s a nt->(∀ae e E' V' a' s',Kept E E' V V' a a'->At E' V' s' a' nt->pS E' ae e->Φ ae s'->Q e a' V')->dq lv P r all Q (U8 k n) a V
 |0,k,s,hk,h,E,V,a,Q,ak,hQ=>by rw[axK]at h;exact hQ .normal .normal E V a s (Kept.refl E V a) ak trivial h
 |n+1,k,s,hk,h,E,V,a,Q,ak,hQ=>by
  have hlt:k<all.size:=by omega
  have hd:all.toList.drop k=all[k]::all.toList.drop (k+1):=by rw[UL (by simpa using hlt)];simp
  rw[hd,Xd]at h;have e_:all[k]∈all:=XZ hlt;have ho:all[k]?=some all[k]:=Tj hlt;simp only[WL,dq,ho];have go:∀s:AS,At E V s a nt->m8 lv P s all[k] (λs'=>iU lv P all ((all.toList.drop (k+1)).take n) s' (Φ .normal) (λpv s=>Φ (.panic pv) s)) (λpv s=>Φ (.panic pv) s)->yi lv P r all[k] a V (dq lv P r all Q (U8 (k+1) n)) Q:=λs ak h=>by refine h.sound (lv:=lv) (r:=r) E V a _ Q ak.bx ak.tok (λd e=>by rw[ak.size];exact dC _ e_ d e) (.inl oq) (λE' V' a' s' aO bu mN hn=> ?_) (λE' V' s' pv v aO bu mN bm hb=> ?_);exact IM dC oq n (k+1) s' (by omega) hn E' V' a' Q ⟨bu,mN,aO.size.trans ak.size⟩ (λae e bZ aZ cD dw gJ dt he hΦ=>hQ ae e bZ aZ cD dw (aO.trans gJ) dt he hΦ);exact hQ (.panic pv) (.panic _) E' V' a s' aO ⟨bu,mN,ak.size⟩ ⟨v,rfl,bm⟩ hb
  simp only[iU]at h;split at h;rename_i hg;have hw:Uo all[k] (yielded all a.tmps)=true:=(by unfold Uo;rw[hg]);rw[if_pos hw];exact .inl (go s ak h)
  ·rename_i j cp hg;obtain⟨d,gY,h⟩:=h.out;obtain⟨av,h1,h⟩:=h.out;obtain⟨b,rfl,h2,h3⟩:=Da h;have hv:=(ak.tok d _ h1).2;have hy:yielded all a.tmps j=some b:=by obtain⟨oj,kW,jC⟩:=Uj.1 gY;generalize hx:a.tmps.getD d undef=x at hv;cases hv;have mJ:d<a.tmps.size:=(ak.tok d _ h1).1;rw[Th,Tj mJ]at hx;simp only[T_]at hx;simp[yielded,kW,jC,Tj mJ,hx]
   have sW:∀b',b=b'->At E V ⟨(d,.val (.bool b'))::s.T,s.H⟩ a nt:=λb' de=>by subst de;refine⟨ak.bx,λt x e=> ?_,ak.size⟩;simp only[look]at e;split at e;rename_i e';subst e';cases e;exact ak.tok d _ h1;exact ak.tok t x e
   by_cases hb:b=cp;have hw:Uo all[k] (yielded all a.tmps)=true:=(by unfold Uo;rw[hg];simp[hy,hb]);rw[if_pos hw];exact .inl (go _ (sW cp hb) (h2 hb))
   ·have hw:¬Uo all[k] (yielded all a.tmps)=true:=(by unfold Uo;rw[hg];simp[hy,hb]);rw[if_neg hw];have de:b= !cp:=(by cases b<;>cases cp<;>simp_all);have w7:=h3 de;have ak:=sW _ de;exact IM dC oq n (k+1) ((⟨(d,.val (.bool !cp))::s.T,s.H⟩:AS).put all[k].dst (.val undef)) (by omega) w7 E V (a.put all[k].dst undef) Q
     ⟨by rw[fG];exact ak.bx,ak.tok.iy (λd e=>by rw[ak.size];exact dC _ e_ d e) (.val undef),by rw[ek];exact ak.size⟩
     (λae e bZ aZ cD dw gJ dt he hΦ=>hQ ae e bZ aZ cD dw ⟨gJ.le,gJ.size.trans (ek _ _ _),gJ.defers.trans (put_defers _ _ _),gJ.role,gJ.deaf⟩ dt he hΦ)
def ng.mono{o:Vp}{a:Act}{N N':S4}{Q Q':SJ}(hN:∀a V,N a V->N' a V)(hQ:∀ch a V,Q (.panic ch) a V->Q' (.panic ch) a V){nx:Next}{V:View}(h:ng lv P r o a N Q nx V):ng lv P r o a N' Q' nx V:=by
 cases nx with
 |value v=>exact hN _ _ h
 |skip=>exact hN _ _ h
 | «defer» d => exact ⟨h.1, hN _ _ h.2⟩
 |enter f args=>
  refine Body.mono (R:=fun
   |.ret v,V'=>N (a.put o.dst v) V'
   |.panic ch,V'=>Q (.panic ch) a V') (R':=fun
   |.ret v,V'=>N' (a.put o.dst v) V'
   |.panic ch,V'=>Q' (.panic ch) a V') h λot V' h=> ?_
  cases ot;exact hN _ _ h;exact hQ _ _ _ h
 |round l f tmps aL b=>
  refine nU.mono (R:=fun
   |.ret v,V'=>N (a.put o.dst v) V'
   |.panic ch,V'=>Q (.panic ch) a V') (R':=fun
   |.ret v,V'=>N' (a.put o.dst v) V'
   |.panic ch,V'=>Q' (.panic ch) a V') h λot V' h=> ?_
  cases ot;exact hN _ _ h;exact hQ _ _ _ h
 |_=>exact h.elim
def Cx{ops:SK}{Q:SJ}{l2:SE}:∀(l1:SE)(a:Act)(V:View),dq lv P r ops (Ex.then (dq lv P r ops Q l2) Q) l1 a V->dq lv P r ops Q (l1++l2) a V
 |[],a,V,h=>h
 |i::l1,a,V,h=>by
  simp only[WX,dq]at h⊢;cases ho:ops[i]?with
  |none=>rw[ho]at h;exact Cx l1 a V h
  |some o=>
   rw[ho]at h;dsimp only at h⊢;split at h
   ·rename_i hw;rw[if_pos hw];rcases h with h|h
    rotate_left
    ·exact .inr (h.mono λa V h=>Cx l1 a V h)
    obtain⟨h1,h2⟩:=h;exact .inl ⟨h1,h2.mono (λnx V' h=>ng.mono (λa V h=>Cx l1 a V h) (λ_ _ _ h=>h) h) λ_ _ h=>h⟩
   ·rename_i hw;rw[if_neg hw];exact Cx l1 _ V h
def yc (E:Env):List (AV×SC)->List Yn->Prop
 |[],[]=>True
 |c::ds,d::l=>An E c d/\yc E ds l
 |_,_=>False
abbrev S5:=List Yn
def yc.mono{E E':Env}(h:E.Le E'):∀{ds:List (AV×SC)}{l:S5},yc E ds l->yc E' ds l
 |[],[],_=>trivial
 |_::_,_::_,k=>⟨k.1.mono h,yc.mono h k.2⟩
 |[],_::_,k=>k.elim
 |_::_,[],k=>k.elim
structure rZ (E E':Env)(V V':View)(a a':Act):Prop where
 le:E.Le E'
 size:a'.tmps.size=a.tmps.size
 role:V'.role=V.role
 deaf:V'.deaf=V.deaf
def rZ.trans{E E' bZ:Env}{V V' aZ:View}{a a' cD:Act}(h:rZ E E' V V' a a')(k:rZ E' bZ V' aZ a' cD):rZ E bZ V aZ a cD:=⟨h.le.trans k.le,k.size.trans h.size,k.role.trans h.role,k.deaf.trans h.deaf⟩
def Kept.d{E E':Env}{V V':View}{a a':Act}(h:Kept E E' V V' a a'):rZ E E' V V' a a':=⟨h.le,h.size,h.role,h.deaf⟩
abbrev S8:=ap->AS->List (AV×SC)->Prop
def CB (lv:Bool)(P:Tl)(nt:Nat)(c:U5)(s:AS)(ds:List (AV×SC))(Φ:S8):Prop:=
 ∀(E:Env)(V:View)(a:Act)(Q:SJ),At E V s a nt->yc E ds a.defers->(∀ae e E' V' a' s' ly,rZ E E' V V' a a'->At E' V' s' a' nt->yc E' ly a'.defers->pS E' ae e->Φ ae s' ly->Q e a' V')->WP lv P none c Q a V
def ap.xY (next:AS->List (AV×SC)->Prop)(Φ:S8):ap->AS->List (AV×SC)->Prop
 |.normal,s,ds=>next s ds
 |e,s,ds=>Φ e s ds
def ahq{nt id n:Nat}{ops:SK}{o:Vp}{c:Yv}{x:Up}{ds:List (AV×SC)}{Φ:S8}(hn:ops.size=n+1)(ho:ops[n]?=some o)(hg:o.guard=none)(aB:o.op=.defer c)(aY:c.callee=.value x)
  (dC:(ops.all λo=>o.dst.all (·<nt))=true)
  (h:iU lv P ops (ops.toList.take n) s (λs'=>au (s'.ev x) λf=>au (fJ s' c.args.toList) λaL=>(∃g first c9,f=.fn (.func g) first c9)/\Φ .normal (s'.put o.dst (.val undef)) ((f,aL)::ds)) (λpv s'=>Φ (.panic pv) s' ds)):CB lv P nt (.region id ops false) s ds Φ:=by
 intro E V a Q ak hd hQ;refine wp_region ?_;have hr:Tt ops.size=U8 0 n++[n]:=by have:=Yl (s:=0) (m:=n) (n:=1);rw[Wj,hn,<- this];simp
 rw[hr];have aa4:∀o∈ops,∀d,o.dst=some d->d<nt:=λo ho d e=>by have:=(VG.1 dC) o ho;rw[e]at this;simpa using this
 refine Cx _ _ _ (IM (r:=none) (Φ:=λe s'=>match e with
  |.normal=>au (s'.ev x) λf=>au (fJ s' c.args.toList) λaL=>(∃g first c9,f=.fn (.func g) first c9)/\Φ .normal (s'.put o.dst (.val undef)) ((f,aL)::ds)
  |e=>Φ e s' ds) aa4 rfl n 0 s (by omega) (by simpa using h) E V a _ ak λae e E' V' a' s' hk aX he hΦ=> ?_)
 cases ae<;>cases e<;>first
  |exact he.elim
  |exact hQ _ _ E' V' a' s' ds hk.d aX (by rw[hk.defers];exact hd.mono hk.le) he hΦ
  |skip
 obtain⟨f,h1,hA⟩:=au.out hΦ;obtain⟨aL,h2,⟨g,first,c9,rfl⟩,hB⟩:=hA.out;simp only[Ex.then,dq,ho];rw[if_pos (by unfold Uo;rw[hg])];refine .inl ⟨.inl rfl,?_⟩;unfold execOp;rw[aB];dsimp only;unfold resolve;rw[aY];dsimp only;have bC:=ay.ev aX.tok h1;generalize cw:a'.eval x=cv at bC;cases bC with
 |fn da eJ q1 q2=>
  rename_i fa ca;unfold VU;refine aA (az (az ?_));refine⟨rfl,?_⟩;have e_:o∈ops:=Z8 ho;have e:c.args.map a'.eval=(c.args.toList.map a'.eval).toArray:=by apply Wz;simp
  refine hQ .normal .normal E' V' _ (s'.put o.dst (.val undef)) ((.fn (.func g) first c9,aL)::ds) ⟨hk.le,(ek _ _ _).trans hk.size,hk.role,hk.deaf⟩ ⟨by rw[fG];exact aX.bx,aX.tok.iy (a:={a' with defers:=⟨.fn (.func g) ca,fa++c.args.map a'.eval⟩::a'.defers}) (λd e=>by rw[aX.size];exact aa4 o e_ d e) (.val _),(ek _ _ _).trans aX.size⟩ ?_ trivial hB;rw[put_defers];refine⟨⟨g,first,c9,fa,ca,_,rfl,rfl,⟨da,q1⟩,⟨eJ,q2⟩,?_⟩,by rw[hk.defers];exact hd.mono hk.le⟩;rw[e];exact A0 aX.tok h2
def QQ{nt id n:Nat}{ops:SK}{o:Vp}{c:Yv}{x:Up}{ds:List (AV×SC)}{Φ:S8}(hn:ops.size=n+1)(ho:ops[n]?=some o)(hg:o.guard=none)(aE:o.dst=none)(aB:o.op=.defer c)(aY:c.callee=.value x)
  (dC:(ops.all λo=>o.dst.all (·<nt))=true)
  (h:iU lv P ops (ops.toList.take n) s (λs'=>au (s'.ev x) λf=>au (fJ s' c.args.toList) λaL=>(∃g first c9,f=.fn (.func g) first c9)/\Φ .normal s' ((f,aL)::ds)) (λpv s'=>Φ (.panic pv) s' ds)):CB lv P nt (.region id ops false) s ds Φ:=by
 refine ahq hn ho hg aB aY dC ?_;rw[aE];exact h
end
section
variable {lv:Bool}{P:Tl}
def adG{rs:SW}{fn:aw5}{n nt:Nat}{k kp:SF}{E E':Env}{V V':View}{s':AS}{a':Act}(hr:fn.results=rs.toArray)(ak:At E' V' s' a' nt)(hle:E.Le E')(hn:E.n=n)(cr:V'.role=V.role)(fB:V'.deaf=V.deaf)(hΦ:au (iF P s' rs) λl=>cz n s'.H (jr l) k):
  ∃v,aT P V' (results fn a'.tmps) (λx aZ=>x=v/\aZ=V') (λ_ _=>False)/\gR E V k kp (.ret v) V':=by
 obtain⟨l,h1,h2⟩:=hΦ.out;have fu:∃v,ay E' (jr l) v/\aT P V' (results fn a'.tmps) (λx aZ=>x=v/\aZ=V') (λ_ _=>False):=by
  obtain⟨vs,hl,mm,zk⟩:=I3 ak rs l h1;refine⟨if h:vs.length=1 then vs[0]else .tuple vs.toArray,?_,?_⟩
  ·match l,vs,hl,mm with
   |[x],[v],_,mm=>exact mm 0 x rfl
   |[],[],_,mm=>exact .aJ rfl (by simp)
   |x::y::l,v::w::vs,hl,mm=>exact .aJ (by simpa using hl) (λi z hz=>by simpa[Th,Tf]using mm i z hz)
  ·unfold results;rw[hr,Zc];refine aA ?_;refine aA (zk ?_);refine az (az ⟨?_,rfl⟩);simp
 obtain⟨v,bm,rH⟩:=fu;obtain⟨b,bZ,H',q1,q2,q3,q4⟩:=yD h2 ak.bx bm hle hn;exact⟨v,rH,b,bZ,H',q1,cr,fB,q2,q3,q4⟩
def As (lv:Bool)(P:Tl)(rs:SW)(n:Nat)(k kp:SF):ap->AS->List (AV×SC)->Prop
 |.normal,s,[]|.ret,s,[]=>au (iF P s rs) λl=>cz n s.H (jr l) k
 |.panic pv,s,[]=>cz n s.H pv kp
 |.normal,s,[c]|.ret,s,[c]=>rV lv P c s.H none (λH'=>au (iF P ⟨s.T,H'⟩ rs) λl=>cz n H' (jr l) k) (λ_=>False)
 |.panic pv,s,[c]=>rV lv P c s.H (some pv) (λH'=>au (iF P ⟨s.T,H'⟩ rs) λl=>cz n H' (jr l) k) (λH'=>cz n H' pv kp)
 |_,_,_=>False
def Ao.mono{g:UR}{args:SG}{md:Wp}{V:View}{R R':Wp->View->Prop}(h:Ao lv P g args md V R)(hr:∀m V,R m V->R' m V):Ao lv P g args md V R':=λmain J C fr cs hm hR=>h main J C fr cs hm λoK V' r=>hR oK V' (hr _ _ r)
@[congr] theorem avY {nt : Nat} {c : U5} {s s' : AS} {ds ly : List (AV × SC)} {Φ : ap -> AS -> List (AV × SC) -> Prop} (h : s = s') (hd : ds = ly) : CB lv P nt c s ds Φ = CB lv P nt c s' ly Φ := by rw[h, hd]
def auf(K:AS->List (AV×SC)->Prop)(Φ:S8)(s:AS)(ds:List (AV×SC)):ap.xY K Φ .normal s ds=K s ds:=by rw[ap.xY]
def auh(K:AS->List (AV×SC)->Prop)(Φ:S8)(s:AS)(ds:List (AV×SC)):ap.xY K Φ .ret s ds=Φ .ret s ds:=by rw[ap.xY];simp
def aug(K:AS->List (AV×SC)->Prop)(Φ:S8)(a:AV)(s:AS)(ds:List (AV×SC)):ap.xY K Φ (.panic a) s ds=Φ (.panic a) s ds:=by rw[ap.xY];simp
@[congr] theorem awL {K : AS -> List (AV × SC) -> Prop} {Φ : ap -> AS -> List (AV × SC) -> Prop} {e e' : ap} {s s' : AS} {ds ly : List (AV × SC)} (he : e = e') (h : s = s') (hd : ds = ly) : ap.xY K Φ e s ds = ap.xY K Φ e' s' ly := by rw[he, h, hd]
@[congr] theorem awd {rs : List af_} {n : Nat} {k kp : AV -> SA -> Prop} {e e' : ap} {s s' : AS} {ds ly : List (AV × SC)} (he : e = e') (h : s = s') (hd : ds = ly) : As lv P rs n k kp e s ds = As lv P rs n k kp e' s' ly := by rw[he, h, hd]
def alc(rs:SW)(n:Nat)(k kp:SF)(s:AS):As lv P rs n k kp .ret s []=au (iF P s rs) λl=>cz n s.H (jr l) k:=by rw[As]
def alb(rs:SW)(n:Nat)(k kp:SF)(s:AS)(pv:AV):As lv P rs n k kp (.panic pv) s []=cz n s.H pv kp:=by rw[As]
attribute [seval] auf auh aug alc alb
end
section
variable {P:Tl}
def aez{ι:Type}{body:ι->PUnit->Sem (ForInStep PUnit)}:∀(l:List ι),(∀i∈l,bA P (body i ⟨⟩) (.yield ⟨⟩))->bA P (forIn l ⟨⟩ body) ⟨⟩
 |[],_=>by simpa using i_ PUnit.unit
 |i::l,h=>by rw[Yc];exact lW (h i (UC ..)) (aez l λj hj=>h j (Ue _ hj))
def atY{t:TypeId}{k0 k:UZ}{d:Nat}{b:Bool}{x:Int}(h:P.underlying t=some (.int k0)):bA P (Wq b (d+1) t (.int k x)) ():=by rw[Wq];exact Ag h (i_ _)
def aey{t e:TypeId}{k0 k:UZ}{n d:Nat}{i:X8}{b:Bool}{xs:SD}(ht:P.underlying t=some (.array n e))(he:P.underlying e=some (.int k0))(hi:P.info? e=some i)(hs:i.size=1)(hx:xs.length=n):
  bA P (Wq b (d+2) t (.agg (xs.map (S_ k)).toArray)) ():=by
 rw[Wq];refine Ag ht ?_;dsimp only;simp only[XG,YI];refine lW (a:=⟨⟩) ?_ (i_ _);refine aez _ λj hj=> ?_;have hn:(n-0+1-1)/1=n:=by simp
 have qq:j<n:=by rw[hn]at hj;simp[Za]at hj;omega
 have gx:xs[j]?=some (xs[j]'(by omega)):=T4 _;refine PC hi ?_;rw[hs,Zo];refine FE he rfl (v:=.int k (xs[j]'(by omega))) (by simp[gx]) ?_;exact lW (atY he) (i_ _)
def eP (x:SD×Nat):MapEntry:={key:=.agg (x.1.map (S_ .i64)).toArray,val:=.bool true,born:=x.2}
def qZ (x:SD):List (SD×Nat)->Nat->Option (Nat×T9)
 |[],_=>none
 |y::ts,i=>if x==y.1 then some (i,.bool true)else qZ x ts (i+1)
abbrev TF:=List (SD×Nat)
def aeB{t e:TypeId}{k0:UZ}{n:Nat}{i:X8}{x:SD}(ht:P.underlying t=some (.array n e))(he:P.underlying e=some (.int k0))(hi:P.info? e=some i)(hs:i.size=1)(hx:x.length=n):∀(ts:TF)(j:Nat),(∀y∈ts,y.1.length=n)->
  bA P (YV t (.agg (x.map (S_ .i64)).toArray) (ts.map eP) j) (qZ x ts j)
 |[],j,_=>by rw[Zk,YV,qZ];exact i_ _
 |y::ts,j,h=>by rw[VN,YV,qZ];refine lW (aeA ht he hi hs hx (h y (UC ..))) ?_;by_cases xC:(x==y.1)=true;rw[if_pos xC,if_pos xC];exact i_ _;(rw[if_neg xC,if_neg xC];exact aeB ht he hi hs hx ts (j+1) λz hz=>h z (Ue _ hz))
def aeC{t e:TypeId}{k0:UZ}{n:Nat}{i:X8}{x:SD}(ht:P.underlying t=some (.array n e))(he:P.underlying e=some (.int k0))(hi:P.info? e=some i)(hs:i.size=1)(hx:x.length=n){ts:TF}(h:∀y∈ts,y.1.length=n):
  bA P (Xa t (.agg (x.map (S_ .i64)).toArray) (ts.map eP)) (qZ x ts 0):=by
 unfold Xa;refine Ag ht ?_;cases ts with
 |nil=>exact i_ _
 |cons y ts=>have e1:Instr.findNow (.array n e) (.agg (x.map (S_ .i64)).toArray) ((y::ts).map eP) 0=none:=rfl;rw[e1];exact aeB ht he hi hs hx (y::ts) 0 h
def Sx{x:SD}:∀{ts:TF}{j i:Nat}{v:T9},qZ x ts j=some (i,v)->∃b,j<=i/\ts[i-j]?=some (x,b)/\v=.bool true
 |y::ts,j,i,v,h=>by rw[qZ]at h;split at h;rename_i xC;cases h;obtain⟨y1,b⟩:=y;have:x=y1:=(by simpa using xC);subst this;exact⟨b,Tv _,by simp,rfl⟩;obtain⟨b,h1,h2,h3⟩:=Sx h;refine⟨b,by omega,?_,h3⟩;have:i-j=(i-(j+1))+1:=(by omega);rw[this,VL];exact h2
def Sw{x:SD}:∀{ts:TF}{j:Nat},qZ x ts j=none->∀y∈ts,y.1≠x
 |y::ts,j,h,z,hz=>by rw[qZ]at h;split at h;cases h;rename_i xC;rcases Tm.1 hz with rfl|hz;intro e;exact xC (by simp[e]);exact Sw h z hz
end
def asC(xs:SD):XH 10000 (.agg (xs.map (S_ .i64)).toArray) (.agg (xs.map (S_ .i64)).toArray)=true:=by
 show XH (9999+1) _ _=true;rw[XH];simp only[beq_self_eq_true,VO,Uq]
 rintro⟨a,b⟩ h
 have:a=b/\a∈xs.map (S_ .i64):=by
  have key:∀l:S6,(a,b)∈l.zip l->a=b/\a∈l:=by
   intro l;induction l with
   |nil=>intro h;cases h
   |cons x l ih=>intro h;rw[List.zip_cons_cons]at h;rcases Tm.1 h with h|h;cases h;exact⟨rfl,UC ..⟩;exact⟨(ih h).1,Ue _ (ih h).2⟩
  exact key _ h
 obtain⟨rfl,hm⟩:=this;obtain⟨x,_,rfl⟩:=Uh.1 hm;simp[XH]
def adu(ts:TF)(ck:Nat)(x:SD):xS (ts.map eP).toArray ck (.agg (x.map (S_ .i64)).toArray) (.bool true) none=.map ((ts++[(x,ck)]).map eP).toArray (ck+1):=by simp[xS,eP]
def ara{ts:TF}{ck i b:Nat}{x:SD}{v:T9}(h:ts[i]?=some (x,b)):xS (ts.map eP).toArray ck (.agg (x.map (S_ .i64)).toArray) (.bool true) (some (i,v))=.map (ts.map eP).toArray ck:=by simp only[xS];congr 1;apply Array.ext_getElem?;intro j;rw[Wr];by_cases hj:i=j;subst hj;rw[if_pos rfl];simp[h,eP];rw[if_neg hj]
def aqd(xs:SD):AV.of (.agg (xs.map (S_ .i64)).toArray)=.agg (xs.map iv):=by simp only[AV.of,Zb];congr 1
def Q3(ts:TF)(ck:Nat)(h:∀y∈ts,y.2<ck):((ts.map eP).toArray.all (λe=>decide (e.born>=ck))=false\/(ts.map eP).toArray.isEmpty=true):=by
 cases ts with
 |nil=>right;rfl
 |cons y ts=>left;have:=h y (UC ..);simp[eP];omega
def Fc{α β:Type}(f:α->β):∀{l:List α},(l.map f).Nodup->l.Nodup
 |[],_=>XU
 |x::l,h=>by rw[VN,WU]at h;exact WU.2 ⟨λhm=>h.1 (Uh.2 ⟨x,hm,rfl⟩),Fc f h.2⟩
def adQ{ts vs:TF}(hv:(vs.map (·.2)).Nodup)(ht:(ts.map (·.2)).Nodup)(mj:∀y∈vs,y∈ts)(fL:∀y∈ts,y.2∈vs.map (·.2)):vs.Perm ts:=by
 have zw:vs.Nodup:=Fc _ hv;have mN:ts.Nodup:=Fc _ ht;refine(List.perm_ext_iff_of_nodup zw mN).2 λy=>⟨mj y,λhy=> ?_⟩;obtain⟨z,hz,e⟩:=Uh.1 (fL y hy);have NJ:=mj z hz;have:∀(l:TF),(l.map (·.2)).Nodup->z∈l->y∈l->z=y:=by
  intro l;induction l with
  |nil=>intro _ h;cases h
  |cons x l ih=>intro hn h1 h2;rw[VN,WU]at hn;rcases Tm.1 h1 with e1|LJ;rcases Tm.1 h2 with e2|A';rw[e1,e2];exact absurd (show x.2∈l.map (·.2)from Uh.2 ⟨y,A',by rw[<- e1];exact e.symm⟩) hn.1;rcases Tm.1 h2 with e2|A';exact absurd (show x.2∈l.map (·.2)from Uh.2 ⟨z,LJ,by rw[<- e2];exact e⟩) hn.1;exact ih hn.2 LJ A'
 rw[<- this ts ht NJ hy];exact hz
def Sz{y:SD×Nat}:∀{ts:TF},(ts.map (·.2)).Nodup->y∈ts->(ts.map eP).toArray.find? (λe=>e.born==y.2)=some (eP y):=by
 intro ts hn hy;rw[List.find?_toArray];induction ts with
 |nil=>cases hy
 |cons z ts ih=>rw[VN,WU]at hn;rw[VN];by_cases h:z.2=y.2;rw[List.find?_cons_of_pos (by simp[eP,h])];rcases Tm.1 hy with e|qC;rw[e];exact absurd (show z.2∈ts.map (·.2)from Uh.2 ⟨y,qC,h.symm⟩) hn.1;rw[List.find?_cons_of_neg (by simp[eP,h])];rcases Tm.1 hy with e|qC;exact absurd (by rw[e]) h;exact ih hn.2 qC
def ac5(y:SD×Nat):AV.of (eP y).key=.agg (y.1.map iv):=aqd y.1
section
variable {lv:Bool}{P:Tl}
def asK{l:Nat}{r:ax2}{V:View}(ho:V.own l=some (.loop r))(hs:r.state=.ready)(hc:V.role.chan≠some l):aT P V (do YX l;pure Next.skip) (λnx V'=>nx=.skip/\V'=V.upd l (.loop {r with state:=.busy})) (λ_ _=>False):=by unfold YX XR;refine aA (aA (aA ?_));unfold getObj;refine oP ho rfl rfl hc (cj ?_);dsimp only;refine az ?_;refine aA ?_;unfold setObj;refine z_ ho rfl rfl hc (cj ?_);rw[hs];exact az (az ⟨rfl,rfl⟩)
def asO{l:Nat}{r:ax2}{V:View}(qD:Option U5)(ho:V.own l=some (.loop r))(hc:V.role.chan≠some l):aT P V (Yh l qD) (λv V'=>v=.bool qD.isNone/\V'=V.upd l (.loop {r with state:=if qD.isNone then .ready else .done,pending:=qD})) (λ_ _=>False):=by unfold Yh XR;refine aA (aA ?_);unfold getObj;refine oP ho rfl rfl hc (cj ?_);dsimp only;refine az ?_;refine aA ?_;unfold setObj;refine z_ ho rfl rfl hc (cj ?_);exact az ⟨rfl,rfl⟩
def asN{l:Nat}{r:ax2}{V:View}(ho:V.own l=some (.loop r))(hs:r.state≠ .busy)(hc:V.role.chan≠some l):aT P V (awV l) (λv V'=>v=r.pending/\V'=V.upd l (.loop {r with state:=.exhausted})) (λ_ _=>False):=by
 unfold awV XR;refine aA (aA ?_);unfold getObj;refine oP ho rfl rfl hc (cj ?_);dsimp only;refine az ?_;have:(r.state==ax1)=false:=by simpa using hs
 rw[if_neg (by rw[this];simp)];refine aA ?_;unfold setObj;refine z_ ho rfl rfl hc (cj ?_);exact az ⟨rfl,rfl⟩
abbrev TE:=Array Tmp
def asP{fn:UR}{tmps:SG}{ps:TE}{bS body:U5}{V:View}:aT P V (Ya fn tmps ps bS body none) (λx V1=>∃d l,V.fresh d/\(V.upd d (.deferred (some []))).fresh l/\x=(l,[{target:=.collected d,args:=#[]}])/\
  V1=(V.upd d (.deferred (some []))).upd l (.loop {state:=.ready,pending:=none,fn,tmps,params:=ps,assign:=bS,body,defers:=d})) (λ_ _=>False):=by
 unfold Ya;dsimp only;refine aA ?_;unfold newObj;refine oQ λd hd=>cj ?_;refine aA (az ?_);dsimp only;refine aA (oQ λl hl=>cj (az ?_));exact⟨d,l,hd,hl,rfl,rfl⟩
def Pq{d:Nat}{V:View}(ho:V.own d=some (.deferred (some [])))(hc:V.role.chan≠some d):aT P V (ab_ d) (λv V'=>v=[]/\V'=V.upd d (.deferred none)) (λ_ _=>False):=by unfold ab_;refine aA ?_;unfold getObj;refine oP ho rfl rfl hc (cj ?_);dsimp only;refine aA ?_;unfold setObj;refine z_ ho rfl rfl hc (cj ?_);exact az ⟨rfl,rfl⟩
def afz (l:Nat)(R:SU):Ex->Act->View->Prop
 |.normal,_,V=>∃r,V.own l=some (.loop r)/\V.role.chan≠some l/\R (.ret (.bool true)) (V.upd l (.loop {r with state:=.ready,pending:=none}))
 |.ret,_,V=>∃r,V.own l=some (.loop r)/\V.role.chan≠some l/\R (.ret (.bool false)) (V.upd l (.loop {r with state:=.done,pending:=some .ret}))
 |.exit i,_,V=>∃r,V.own l=some (.loop r)/\V.role.chan≠some l/\R (.ret (.bool false)) (V.upd l (.loop {r with state:=.done,pending:=some (.exit i)}))
 |.goto i,_,V=>∃r,V.own l=some (.loop r)/\V.role.chan≠some l/\R (.ret (.bool false)) (V.upd l (.loop {r with state:=.done,pending:=some (.goto i)}))
 |.panic ch,a,V=>a.defers=[]/\R (.panic ch) V
def afx (lv:Bool)(P:Tl)(l:Nat)(body:U5)(R:SU):Ex->Act->View->Prop
 |.normal,a,V=>∃r,V.own l=some (.loop r)/\V.role.chan≠some l/\r.state=.ready/\WP lv P (some l) body (afz l R) a (V.upd l (.loop {r with state:=.busy}))
 |_,_,_=>False
def asn{l f:Nat}{tmps:SG}{bS body:U5}{V:View}{R:SU}(h:WP lv P (some l) bS (afx lv P l body R) {tmps,defers:=[]} V):nU lv P (Zf l f tmps bS body .normal) V R:=by
 intro main J C c cs h1 h2;let b:VM:={(default:VM)with fn:=f,kind:=.normal,roundOf:=some l};have anE:Zf l f tmps bS body .normal=on b {tmps,defers:=[]} [.code bS,.beginRound,.code body]:=rfl;rw[anE];have leave:∀(a:Act)(V':View)(r:ax2)(qD:Option U5)(todo:SZ),V'.own l=some (.loop r)->V'.role.chan≠some l->R (.ret (.bool qD.isNone)) (V'.upd l (.loop {r with state:=if qD.isNone then .ready else .done,pending:=qD}))->
   (∀w,stepG P main (G (on b a todo) (c::cs)) w=U3 (seen P b.fn ((Yh l qD).runT P w #[]).2) (match((Yh l qD).runT P w #[]).1 with
    |.ok v w=>doReturn P main (on b a todo) (c::cs) none v w
    | .halt _ w => .ended (.stuck "range over a function: no such loop" ((on b a todo).pos P)) w)) -> J V' (G (on b a todo) (c :: cs)) := by
  intro a V' r qD todo ho fA hR aU;refine C.step _ _ rfl λw fZ=> ?_;obtain⟨es,w',aZ,k1,k2,k3⟩:=(asO (P:=P) qD ho fA).runs fZ;rcases k3 with⟨v,k3,rfl,rfl⟩|⟨_,_,hx⟩
  ·refine⟨G (c.finish (.bool qD.isNone)) cs,w',seen P b.fn es,_,?_,k1.seen P b.fn,h1 _ _ hR⟩;rw[aU w];simp[UE,k3,k2,doReturn,U3,on,b,G]
  ·exact hx.elim
 refine h main J C b [.beginRound,.code body] (c::cs) (by show ab'≠Wn;decide) rfl λe a' V' q=> ?_;cases e with
 |normal=>
  obtain⟨r,ho,fA,hs,hw⟩:=q;refine C.step _ _ rfl λw fZ=> ?_;obtain⟨es,w',aZ,k1,k2,k3⟩:=(asK (P:=P) ho hs fA).runs fZ;rcases k3 with⟨nx,k3,rfl,rfl⟩|⟨_,_,hx⟩
  ·refine⟨G (on b a' [.code body]) (c::cs),w',seen P b.fn es,_,?_,k1.seen P b.fn,?_⟩
   ·have:stepG P main (G (on b a' [.beginRound,.code body]) (c::cs)) w=stepG.apply P true (on b a' [.beginRound,.code body]) (c::cs) none (do YX l;pure Next.skip) w:=by simp[G,stepG,U_,on,b]
    rw[this];have kq:((on b a' [.beginRound,.code body]).kind==Wn)=false:=(by simp[on,b]);simp only[stepG.apply,UE,if_true,k3,k2,kq,U3];rfl
   ·refine hw main J C b [] (c::cs) (by show ab'≠Wn;decide) rfl λe cD aZ q=> ?_;cases e with
    |normal=>obtain⟨r',bl,oo,hR⟩:=q;refine leave cD aZ r' none [] bl oo hR λw=> ?_;simp[G,stepG,U_,on,b];rfl
    |ret=>obtain⟨r',bl,oo,hR⟩:=q;intro k;refine leave cD aZ r' (some .ret) _ bl oo hR λw=> ?_;simp[G,stepG,U_,on,b];rfl
    |exit i=>obtain⟨r',bl,oo,hR⟩:=q;refine .inr ⟨rfl,λk2 cO=> ?_⟩;refine leave cD aZ r' (some (.exit i)) _ bl oo hR λw=> ?_;simp[G,stepG,U_,on,b,cO];rfl
    |goto i=>obtain⟨r',bl,oo,hR⟩:=q;refine .inr ⟨rfl,λk2 cO=> ?_⟩;refine leave cD aZ r' (some (.goto i)) _ bl oo hR λw=> ?_;simp[G,stepG,U_,on,b,cO];rfl
    |panic ch=>
     obtain⟨hd,hR⟩:=q;intro todo anS;refine C.idle rfl (λw=> ?_) (h2 _ _ hR);have al9:aw6 P {on b cD todo with mode:=.panicking ch}=false:=by
      unfold aw6
      match todo,anS with
      |.call .. ::_,h=>cases h
      |[],_=>split<;>simp_all[on]
      |x::k,_=>cases x<;>(split<;>simp_all[on,acN])
     have bC:({on b cD todo with mode:=.panicking ch}:VM).defers=[]:=hd;simp only[G,stepG,unwind,bC,al9];simp
  ·exact hx.elim
 |_=>exact q.elim
def mark (a:Act)(d:Nat):Act:={a with defers:={target:=.collected d,args:=#[]}::a.defers}
def yj (l:Nat)(Q:SJ)(a:Act):Out->View->Prop
 |.ret _,V=>∃r,V.own l=some (.loop r)/\V.role.chan≠some l/\r.state≠ .busy/\(match r.pending with
  |none=>Q .normal a (V.upd l (.loop {r with state:=.exhausted}))
  |some .ret=>Q .ret a (V.upd l (.loop {r with state:=.exhausted}))
  |some (.exit i)=>Q (.exit i) a (V.upd l (.loop {r with state:=.exhausted}))
  |some (.goto i)=>Q (.goto i) a (V.upd l (.loop {r with state:=.exhausted}))
  |_=>False)
 |.panic ch,V=>Q (.panic ch) a V
abbrev F8 (l d:Nat)(Q:Ex->Act->View->Prop)(a:Act):Out->View->Prop:=yj l Q (mark a d)
def adA{rr:SL}{f:Up}{ps:TE}{bS body:U5}{Q:SJ}{a a1:Act}{V1:View}{l:Nat}{main:Bool}{J:SM}(C:Closed lv P main J){b:VM}{k:SZ}{cs:SX}(hb:b.kind≠ .early)(hr:b.roundOf=rr)(hL:∀e a' V',Q e a' V'->wG J b k cs e a' V'){w w1:Us}{es:SO}{V:View}
  (h:aT P V1 (do let dd<- VU (a.eval f) #[.func (.yield l) #[] #[]];invoke dd.target dd.args) (λnx V'=>Nx lv P (yj l Q a1) nx V') (λv V'=>yj l Q a1 (.panic [{v,recovered:=false}]) V'))
  (s1:dl V w V1 w1 (gh es)) (aU:stepG P main (G (on b a (.code (.rangeFunc f ps bS body)::k)) cs) w=U3 (seen P b.fn es) (stepG.apply P true (on b a1 (.inRangeFunc l::k)) cs none (do let dd<- VU (a.eval f) #[.func (.yield l) #[] #[]];invoke dd.target dd.args) w1)):
  ∃g' w' es V',stepG P main (G (on b a (.code (.rangeFunc f ps bS body)::k)) cs) w=.go g' w' es/\dl V w V' w' es/\J V' g':=by
 have fin:∀(v:T9)(V':View),yj l Q a1 (.ret v) V'->J V' (G (on b a1 (.endRangeFunc l::k)) cs):=by
  intro v V' ⟨r,ho,fA,hs,hq⟩;refine C.step _ _ rfl λw fZ=> ?_;obtain⟨es,w',aZ,k1,k2,k3⟩:=(asN (P:=P) ho hs fA).runs fZ;rcases k3 with⟨x,k3,rfl,rfl⟩|⟨_,_,hx⟩
  ·refine⟨G (on b a1 ((r.pending.map Item.code).toList++k)) cs,w',seen P b.fn es,_,?_,k1.seen P b.fn,?_⟩;simp[G,stepG,U_,on,UE,k3,k2,U3]
   ·generalize r.pending=pe at hq⊢
    match pe,hq with
    |none,hq=>exact hL _ _ _ hq
    |some .ret,hq=>exact hL _ _ _ hq _
    |some (.exit i),hq=>exact ab9 C (hL _ _ _ hq)
    |some (.goto i),hq=>exact aoe C (hL _ _ _ hq)
  ·exact hx.elim
 obtain⟨lB,w2,V2,t1,t2,t3⟩:=h.runs s1.sat;have kq:((on b a1 (.inRangeFunc l::k)).kind==Wn)=false:=by simpa[on]using hb
 rw[aU];rcases t3 with⟨nx,t3,hU⟩|⟨v,t3,hU⟩
 ·cases nx with
  |value v=>exact⟨_,w2,seen P b.fn es++seen P b.fn lB,V2,by simp only[stepG.apply,UE,if_true,t3,t2,kq,U3];rfl,(s1.seen P _).trans (t1.seen P _),fin v _ hU⟩
  |skip=>exact⟨_,w2,seen P b.fn es++seen P b.fn lB,V2,by simp only[stepG.apply,UE,if_true,t3,t2,kq,U3];rfl,(s1.seen P _).trans (t1.seen P _),fin undef _ hU⟩
  |enter g args=>refine⟨G (Frame.enter P g args .normal) (on b a1 (.inRangeFunc l::k)::cs),w2,seen P b.fn es++seen P b.fn lB,V2,by simp only[stepG.apply,UE,if_true,t3,t2,kq,U3];rfl,(s1.seen P _).trans (t1.seen P _),?_⟩;refine Body.runs hU main J C _ cs (λv aZ hR=> ?_) (λch aZ hR=> ?_);exact fin v _ hR;exact hL _ _ _ hR _ rfl
  |round l2 f2 auu as2 b2=>refine⟨G (Zf l2 f2 auu as2 b2 .normal) (on b a1 (.inRangeFunc l::k)::cs),w2,seen P b.fn es++seen P b.fn lB,V2,by simp only[stepG.apply,UE,if_true,t3,t2,kq,U3];rfl,(s1.seen P _).trans (t1.seen P _),?_⟩;refine hU main J C _ cs (λv aZ hR=> ?_) (λch aZ hR=> ?_);exact fin v _ hR;exact hL _ _ _ hR _ rfl
  |_=>exact hU.elim
 ·exact⟨_,w2,seen P b.fn es++seen P b.fn lB,V2,by simp only[stepG.apply,UE,if_true,t3,t2,kq,U3];rfl,(s1.seen P _).trans (t1.seen P _),hL _ _ _ hU _ rfl⟩
def aff{f:Up}{ps:TE}{bS body:U5}{Q:SJ}{a:Act}{V:View}
  (h:∀(fn d l:Nat),V.fresh d->(V.upd d (.deferred (some []))).fresh l->aT P ((V.upd d (.deferred (some []))).upd l (.loop {state:=.ready,pending:=none,fn,tmps:=a.tmps,params:=ps,assign:=bS,body,defers:=d}))
   (do let dd<- VU (a.eval f) #[.func (.yield l) #[] #[]];invoke dd.target dd.args) (λnx V'=>Nx lv P (F8 l d Q a) nx V') (λv V'=>F8 l d Q a (.panic [{v,recovered:=false}]) V')):WP lv P none (.rangeFunc f ps bS body) Q a V:=by
 intro main J C b k cs hb hr hL;refine C.step _ _ rfl λw fZ=> ?_;obtain⟨es,w1,V1,s1,s2,s3⟩:=(asP (P:=P) (fn:=b.fn) (tmps:=a.tmps) (ps:=ps) (bS:=bS) (body:=body)).runs fZ;rcases s3 with⟨x,s3,d,l,hd,hl,rfl,rfl⟩|⟨_,_,hx⟩
 ·refine adA C hb hr hL (h b.fn d l hd hl) s1 ?_;have cw:∀(todo:SZ)(x:Up),(on b (mark a d) todo).eval x=a.eval x:=λtodo x=>by rw[IL];cases x<;>rfl
  have e:=cw (.inRangeFunc l::k) f;have e2:=cw (.inRangeFunc l::k) (.const (.func (.yield l) #[] #[]));simp only[on,mark]at e e2;simp[G,stepG,U_,on,UE,s3,s2,hr,mark,resolve];rw[hr]at e;rw[e];rfl
 ·exact hx.elim
def asQ{fn:UR}{tmps:SG}{ps:TE}{bS body:U5}{V:View}{l0:Nat}{r0:ax2}(ho:V.own l0=some (.loop r0))(hc:V.role.chan≠some l0):aT P V (Ya fn tmps ps bS body (some l0)) (λx V1=>∃l,V.fresh l/\x=(l,[])/\
  V1=V.upd l (.loop {state:=.ready,pending:=none,fn,tmps,params:=ps,assign:=bS,body,defers:=r0.defers})) (λ_ _=>False):=by
 unfold Ya XR;dsimp only;refine aA (aA ?_);unfold getObj;refine oP ho rfl rfl hc (cj ?_);dsimp only;refine az (aA (az ?_));dsimp only;refine aA ?_;unfold newObj;refine oQ λl hl=>cj (az ?_);exact⟨l,hl,rfl,rfl⟩
def au6{f:Up}{ps:TE}{bS body:U5}{Q:SJ}{a:Act}{V:View}{l0:Nat}{r0:ax2}(ho:V.own l0=some (.loop r0))(hc:V.role.chan≠some l0)
  (h:∀(fn l:Nat),V.fresh l->aT P (V.upd l (.loop {state:=.ready,pending:=none,fn,tmps:=a.tmps,params:=ps,assign:=bS,body,defers:=r0.defers}))
   (do let dd<- VU (a.eval f) #[.func (.yield l) #[] #[]];invoke dd.target dd.args) (λnx V'=>Nx lv P (yj l Q a) nx V') (λv V'=>yj l Q a (.panic [{v,recovered:=false}]) V')):WP lv P (some l0) (.rangeFunc f ps bS body) Q a V:=by
 intro main J C b k cs hb hr hL;refine C.step _ _ rfl λw fZ=> ?_;obtain⟨es,w1,V1,s1,s2,s3⟩:=(asQ (P:=P) (fn:=b.fn) (tmps:=a.tmps) (ps:=ps) (bS:=bS) (body:=body) ho hc).runs fZ;rcases s3 with⟨x,s3,l,hl,rfl,rfl⟩|⟨_,_,hx⟩
 ·refine adA C hb hr hL (h b.fn l hl) s1 ?_;have e:=IL b a (.inRangeFunc l::k) f;simp only[on]at e;simp[G,stepG,U_,on,UE,s3,s2,hr,resolve];rw[hr]at e;rw[e];rfl
 ·exact hx.elim
def Conc.Ac{E:Env}{V:View}{H:SA}(hc:Conc E V H){id r fn nt df:Nat}{st:axj}{pe:Option U5}{T:SH}{ps:TE}{bS body:U5}(hk:H[id]?=some (.loop r st pe fn T nt ps bS body df)):
  E.blk id=r/\V.role.chan≠some r/\∃tmps,V.own r=some (.loop {state:=st,pending:=pe,fn,tmps,params:=ps,assign:=bS,body,defers:=E.blk df})/\tmps.size=nt/\cu E T tmps/\
   ∀st' xQ,Conc E (V.upd r (.loop {state:=st',pending:=xQ,fn,tmps,params:=ps,assign:=bS,body,defers:=E.blk df})) (H.set id (.loop r st' xQ fn T nt ps bS body df)):=by
 obtain⟨⟨tmps,p1,p2,p3⟩,p4,p5,p6⟩:=hc.obj id _ hk;have fA:=(hc.jq hk (b:=E.blk id) rfl).2;subst p6;refine⟨rfl,fA,tmps,p1,p2,p3,λst' xQ=> ?_⟩;refine hc.ja id (.loop (E.blk id) st' xQ fn T nt ps bS body df) (Env.Le.refl E) hc.I (by simpa using hc.n) lS rfl (λ_ _ _=>rfl) (λb z hb hz=>⟨?_,λ_=>rfl⟩) ⟨⟨tmps,by simp[View.upd],p2,p3⟩,p4,p5,rfl⟩ (λb h=> .inl ⟨_,hk,h⟩);have:b≠E.blk id:=λe=>hb _ hk (by rw[e];rfl);simpa[View.upd,this]using hz
def Conc.Fy{E:Env}{V:View}{H:SA}(hc:Conc E V H){id:Nat}(x:aa)(hk:H[id]?=some x)(y:Obj){b:Nat}(hb:bP E id x=some b):Conc E (V.upd b y) (H.set id .gone):=by refine hc.ja id .gone (Env.Le.refl E) hc.I (by simpa using hc.n) lS rfl (λ_ _ _=>rfl) (λb' z de hz=>⟨?_,λ_=>rfl⟩) trivial (λb h=>by cases h);have:b'≠b:=λe=>de _ hk (by rw[e];exact hb);simpa[View.upd,this]using hz
def tu:SE->SC->List (Nat×AV)->List (Nat×AV)
 |t::ts,a::aL,T=>tu ts aL ((t,a)::T)
 |_,_,T=>T
def afm{E:Env}{nt:Nat}:∀(ts:SE)(aL:SC)(vs:S6)(T:SH)(tmps:SG),vs.length=aL.length->(∀(i:Nat) a,aL[i]?=some a->ay E a (vs.getD i undef))->(∀t∈ts,t<nt)->tmps.size=nt->cu E T tmps->
  cu E (tu ts aL T) ((ts.zip vs).foldl (λtmps (x:Nat×T9)=>tmps.setIfInBounds x.1 x.2) tmps)/\((ts.zip vs).foldl (λtmps (x:Nat×T9)=>tmps.setIfInBounds x.1 x.2) tmps).size=nt
 |[],aL,vs,T,tmps,_,_,_,hs,hT=>by cases aL<;>cases vs<;>exact⟨hT,hs⟩
 |t::ts,[],[],T,tmps,_,_,_,hs,hT=>⟨hT,hs⟩
 |t::ts,[],_::_,T,tmps,h,_,_,hs,hT=>by cases h
 |t::ts,_::_,[],T,tmps,h,_,_,hs,hT=>by cases h
 |t::ts,a::aL,v::vs,T,tmps,hl,hd,ht,hs,hT=>by
  have h0:ay E a v:=by simpa using hd 0 a rfl
  have h1:t<tmps.size:=by rw[hs];exact ht t (by simp)
  exact afm ts aL vs ((t,a)::T) (tmps.setIfInBounds t v) (by simpa using hl) (λi x hx=>by simpa using hd (i+1) x (by simpa using hx)) (λx hx=>ht x (by simp[hx])) (by simpa using hs) (hT.put h1 h0)
def pY (id n:Nat)(k:SF)(st':axj)(xQ:Option U5)(b:Bool)(s:AS):Prop:=∃r st pe fn T nt ps bS body df,s.H[id]?=some (.loop r st pe fn T nt ps bS body df)/\cz n (s.H.set id (.loop r st' xQ fn T nt ps bS body df)) (.val (.bool b)) k
def afy (id n:Nat)(k kp:SF):ap->AS->Prop
 |.normal,s=>pY id n k .ready none true s
 |.ret,s=>pY id n k .done (some .ret) false s
 |.exit i,s=>pY id n k .done (some (.exit i)) false s
 |.goto i,s=>pY id n k .done (some (.goto i)) false s
 |.panic pv,s=>cz n s.H pv kp
def uZ (lv:Bool)(P:Tl)(l nt id n:Nat)(body:U5)(k kp:SF):ap->AS->Prop
 |.normal,s=>∃pe fn T jI ps bS fQ df,s.H[id]?=some (.loop l .ready pe fn T jI ps bS fQ df)/\aW lv P (some l) nt body ⟨s.T,s.H.set id (.loop l .busy pe fn T jI ps bS fQ df)⟩ (afy id n k kp)
 |_,_=>False
def wT{l id fn nt df:Nat}{pe:Option U5}{T:SH}{ps:TE}{bS body:U5}{H:SA}{args:SC}{k kp:SF}(b_:H[id]?=some (.loop l .ready pe fn T nt ps bS body df))(hlen:args.length=ps.size)(qw:ps.all (·<nt)=true)
  (h:bJ H->(∀a∈args,Lt H.length a)->aW lv P (some l) nt bS ⟨tu ps.toList args T,H⟩ (uZ lv P l nt id H.length body k kp)):fh lv P (.fn (.yield l) [] []) H args k kp:=by
 intro E V cv vs hc hd mG;cases hd with
 |fn da eJ h1 h2=>
  rename_i fa ca;have e1:fa=#[]:=by apply Wz;simpa using da
  subst e1;have hlt:∀a∈args,Lt H.length a:=λa ha=>by obtain⟨i,hi⟩:=qF ha;rw[<- hc.n];exact(mG.2 i a hi).lt
  obtain⟨hb,fA,tmps,ho,a_,hT,_⟩:=hc.Ac b_;unfold VU;refine aA (az ?_);unfold invoke;dsimp only;unfold Instr.yield XR;refine aA (aA ?_);unfold getObj;refine oP ho rfl rfl fA (cj ?_);dsimp only;refine az ?_;have mm:(#[]++vs).size=ps.size:=by simp[mG.1,hlen]
  rw[if_neg (by simp[mG.1,hlen])];refine az ?_;show nU lv P _ V (gR E V k kp);have hz:=afm (nt:=nt) ps.toList args vs.toList T tmps (by simpa using mG.1) (λi a e=>by have:=mG.2 i a e;simpa[Th,Tf]using this) (λt ht=>by have:=(VG.1 qw) t (by simpa using ht);simpa using this) a_ hT;have ai3:(ps.zip (#[]++vs)).foldl (λtmps (x:Nat×T9)=>tmps.setIfInBounds x.1 x.2) tmps=(ps.toList.zip vs.toList).foldl (λtmps (x:Nat×T9)=>tmps.setIfInBounds x.1 x.2) tmps:=by rw[<- Array.foldl_toList,Array.toList_zip];simp
  have ai4:Array.foldl (λtmps x=>match x with|(t,a)=>tmps.setIfInBounds t a) tmps (ps.zip (#[]++vs))=(ps.toList.zip vs.toList).foldl (λtmps (x:Nat×T9)=>tmps.setIfInBounds x.1 x.2) tmps:=ai3;rw[ai4];refine asn ?_;refine h hc.an hlt E V _ _ ⟨hc,hz.1,hz.2⟩ λae e E' V' a' s' hk aX he hΦ=> ?_;cases ae<;>cases e<;>first
   |exact he.elim
   |exact hΦ.elim
   |skip
  obtain⟨xQ,gr,T',jI,hO,gT,fQ,gV,amE,hw⟩:=hΦ;obtain⟨de,oo,rT,bl,Nu,t_,ut⟩:=aX.bx.Ac amE;refine⟨_,bl,oo,rfl,?_⟩;refine hw E' _ a' _ ⟨ut .busy xQ,aX.tok,aX.size⟩ λae e bZ aZ cD dw cO dt D9 Ia=> ?_;have fin:∀(st':axj)(IW:Option U5)(b:Bool),(∃r st pe fn T nt ps bS body df,dw.H[id]?=some (.loop r st pe fn T nt ps bS body df)/\cz H.length (dw.H.set id (.loop r st' IW fn T nt ps bS body df)) (.val (.bool b)) k)->
    ∃r,aZ.own l=some (.loop r)/\aZ.role.chan≠some l/\gR E V k kp (.ret (.bool b)) (aZ.upd l (.loop {r with state:=st',pending:=IW})):=by
   intro st' IW b ⟨r,st,pe3,fn3,T3,nt3,Pa,avU,av4,df3,amF,ue⟩;obtain⟨He,amd,awP,xx,awy,hT3,anJ⟩:=dt.bx.Ac amF;have hlt:id<E.n:=(by rw[hc.n];exact(Tn.1 b_).1);have hle:E.Le bZ:=hk.le.trans cO.le;have hr:r=l:=(by rw[<- He,<- hb];exact hle.blk id hlt);subst hr;obtain⟨x,E4,H4,q1,q2,q3,q4⟩:=yD ue (anJ st' IW) (.val _) hle hc.n;exact⟨_,xx,amd,x,E4,H4,q1,cO.role.trans hk.role,cO.deaf.trans hk.deaf,q2,q3,q4⟩
  cases ae<;>cases e<;>first
   |exact D9.elim
   |exact fin .ready none true Ia
   |exact fin .done (some .ret) false Ia
   |(have e:_=_:=D9
     subst e;exact fin .done _ false Ia)
   |skip
  obtain⟨v,amc,bm⟩:=D9;subst amc;obtain⟨x,E4,H4,q1,q2,q3,q4⟩:=yD Ia dt.bx bm (hk.le.trans cO.le) hc.n;refine⟨by rw[cO.defers,hk.defers],x,v,E4,H4,rfl,q1,cO.role.trans hk.role,cO.deaf.trans hk.deaf,q2,q3,q4⟩
def Marks (E:Env)(ms:SE)(l:S5):Prop:=l=ms.map (λi=>({target:=.collected (E.blk i),args:=#[]}:Yn))/\∀i∈ms,i<E.n
def Marks.mono{E E':Env}(h:E.Le E'){ms:SE}{l:S5}(k:Marks E ms l):Marks E' ms l:=
 ⟨by rw[k.1];exact WR λi hi=>by rw[h.blk i (k.2 i hi)],λi hi=>Ug (k.2 i hi) h.n⟩
abbrev SN:=ap->AS->SE->Prop
def m9 (lv:Bool)(P:Tl)(nt:Nat)(c:U5)(s:AS)(ms:SE)(Φ:SN):Prop:=
 ∀(E:Env)(V:View)(a:Act)(Q:SJ),At E V s a nt->Marks E ms a.defers->(∀ae e E' V' a' s' cP,rZ E E' V V' a a'->At E' V' s' a' nt->Marks E' cP a'.defers->pS E' ae e->Φ ae s' cP->Q e a' V')->WP lv P none c Q a V
variable {s:AS}{ms:SE}{nt:Nat}
def Kf{c:U5}{Φ:SN}(h:aW lv P none nt c s λe s'=>Φ e s' ms):m9 lv P nt c s ms Φ:=λE V a Q ak hd hQ=>h E V a Q ak λae e E' V' a' s' hk aX he hΦ=>hQ ae e E' V' a' s' ms hk.d aX (by rw[hk.defers];exact hd.mono hk.le) he hΦ
def ap.tj (next:AS->SE->Prop)(Φ:SN):ap->AS->SE->Prop
 |.normal,s,ms=>next s ms
 |e,s,ms=>Φ e s ms
def Kg{x y:U5}{Φ:SN}(h:m9 lv P nt x s ms (ap.tj (λs' cP=>m9 lv P nt y s' cP Φ) Φ)):m9 lv P nt (.seq x y) s ms Φ:=by
 intro E V a Q ak hd hQ;refine wp_seq (h E V a _ ak hd λae e E' V' a' s' cP hk aX cM he hΦ=> ?_);cases ae<;>cases e<;>first
  |exact he.elim
  |exact hΦ E' V' a' Q aX cM λae e bZ aZ cD dw EZ aO dt Bq kE uy=>hQ ae e bZ aZ cD dw EZ (hk.trans aO) dt Bq kE uy
  |exact hQ _ _ E' V' a' s' cP hk aX cM he hΦ
def n4{x y:U5}{Φ:SN}(h:aW lv P none nt x s (ap.then (λs'=>m9 lv P nt y s' ms Φ) λe s'=>Φ e s' ms)):m9 lv P nt (.seq x y) s ms Φ:=by refine Kg (Kf (h.mono λe s' hs=> ?_));cases e<;>exact hs
def tI (Φ:SN)(s:AS)(ms:SE):Option U5->Prop
 |none=>Φ .normal s ms
 |some .ret=>Φ .ret s ms
 |some (.exit i)=>Φ (.exit i) s ms
 |some (.goto i)=>Φ (.goto i) s ms
 |_=>False
def ahs{f:Up}{ps:TE}{bS body:U5}{fv:AV}{Φ:SN}(hf:s.ev f=some fv)
  (h:∀l fn:Nat,fh lv P fv (s.H++[.obj (.deferred (some [])),.loop l .ready none fn s.T nt ps bS body s.H.length]) [.fn (.yield l) [] []]
   (λ_ H'=>∃st pe gr T' jI hO gT fQ gV,H'[s.H.length+1]?=some (.loop l st pe gr T' jI hO gT fQ gV)/\st≠ .busy/\tI Φ ⟨s.T,H'.set (s.H.length+1) .gone⟩ (s.H.length::ms) pe)
   (λpv H'=>Φ (.panic pv) ⟨s.T,H'⟩ (s.H.length::ms))):m9 lv P nt (.rangeFunc f ps bS body) s ms Φ:=by
 intro E V a Q ak hm hQ;refine aff λfn d l hd hl=> ?_;have hc:=ak.bx;have cV:Conc (E.add d V.ah) (V.upd d (.deferred (some []))) (s.H++[.obj (.deferred (some []))]):=by refine hc.add hd _ ⟨?_,rfl,rfl,λo=> ?_⟩ (λb e=> ?_);rw[Env.dP];simp[View.upd];rw[Env.dP];exact hd.2 o;simp only[bP,Env.dP,Ul]at e;exact e.symm
 have Eg:E.Le (E.add d V.ah):=E.qE d (λb o v h=>by rw[<- hc.I];exact h);have DY:(E.add d V.ah).blk s.H.length=d:=by rw[<- hc.n];exact E.dP d _
 let E1:=E.add d V.ah;let V1:=V.upd d (.deferred (some []));have qu:E1.n=s.H.length+1:=by rw[cV.n];simp
 have rB:E1.Le (E1.add l V1.ah):=E1.qE l (λb o v h=>by rw[<- cV.I];exact h);have cg:Conc (E1.add l V1.ah) (V1.upd l (.loop {state:=.ready,pending:=none,fn,tmps:=a.tmps,params:=ps,assign:=bS,body,defers:=d})) ((s.H++[.obj (.deferred (some []))])++[.loop l .ready none fn s.T nt ps bS body s.H.length]):=by refine cV.add hl _ ⟨⟨a.tmps,?_,ak.size,(ak.tok.mono Eg).mono rB⟩,?_,λo=> ?_,?_⟩ (λb e=> ?_);have e:(E1.add l V1.ah).blk s.H.length=d:=(by rw[rB.blk s.H.length (by rw[qu];omega)];exact DY);rw[e,Env.dP];simp[View.upd];show s.H.length<E1.n+1;omega;rw[Env.dP];exact hl.2 o;exact Env.dP _ _ _;simp only[bP,Env.dP,Ul]at e;exact e.symm
 have hle:E.Le (E1.add l V1.ah):=Eg.trans rB;have cI:(E1.add l V1.ah).blk (s.H.length+1)=l:=by rw[<- qu];exact E1.dP l _
 have Md:(E1.add l V1.ah).blk s.H.length=d:=by rw[rB.blk s.H.length (by rw[qu];omega)];exact DY
 rw[Ev]at cg;have sK:∀E',(E1.add l V1.ah).Le E'->Marks E' (s.H.length::ms) (mark a d).defers:=λE' hE=>by refine Marks.mono hE ⟨?_,λi hi=> ?_⟩;have:=(hm.mono hle).1;simp only[mark,VN,Md];rw[<- this];rcases Tm.1 hi with rfl|hi;show _<E1.n+1;omega;exact Ug (hm.2 i hi) hle.n
 have bC:=ay.ev ak.tok hf;have D2:=h l fn (E1.add l V1.ah) (V1.upd l (.loop {state:=.ready,pending:=none,fn,tmps:=a.tmps,params:=ps,assign:=bS,body,defers:=d})) (a.eval f) #[.func (.yield l) #[] #[]] cg (bC.mono hle) ⟨rfl,λi x hx=>by
  match i,hx with
  |0,hx=>cases hx;exact .fn rfl rfl (by simp) (by simp)⟩
 have key:∀o V',gR (E1.add l V1.ah) (V1.upd l (.loop {state:=.ready,pending:=none,fn,tmps:=a.tmps,params:=ps,assign:=bS,body,defers:=d}))
   (λ_ H'=>∃st pe gr T' jI hO gT fQ gV,H'[s.H.length+1]?=some (.loop l st pe gr T' jI hO gT fQ gV)/\st≠ .busy/\tI Φ ⟨s.T,H'.set (s.H.length+1) .gone⟩ (s.H.length::ms) pe)
   (λpv H'=>Φ (.panic pv) ⟨s.T,H'⟩ (s.H.length::ms)) o V'->F8 l d Q a o V':=by
  intro o V' hr;cases o with
  |ret v=>
   obtain⟨av,E',H',hE,cr,fB,_,bu,st,pe,gr,T',jI,hO,gT,fQ,gV,b_,aU,hp⟩:=hr;obtain⟨de,oo,rT,bl,Nu,t_,ut⟩:=bu.Ac b_;refine⟨_,bl,oo,aU,?_⟩;have hg:Conc E' (V'.upd l (.loop {state:=.exhausted,pending:=pe,fn:=gr,tmps:=rT,params:=hO,assign:=gT,body:=fQ,defers:=E'.blk gV})) (H'.set (s.H.length+1) .gone):=bu.Fy _ b_ _ (by simp only[bP,de]);have aX:At E' (V'.upd l (.loop {state:=.exhausted,pending:=pe,fn:=gr,tmps:=rT,params:=hO,assign:=gT,body:=fQ,defers:=E'.blk gV})) ⟨s.T,H'.set (s.H.length+1) .gone⟩ (mark a d) nt:=⟨hg,ak.tok.mono (hle.trans hE),ak.size⟩;have dX:rZ E E' V (V'.upd l (.loop {state:=.exhausted,pending:=pe,fn:=gr,tmps:=rT,params:=hO,assign:=gT,body:=fQ,defers:=E'.blk gV})) a (mark a d):=⟨hle.trans hE,rfl,cr,fB⟩;dsimp only
   match pe,hp,aX,dX with
   |none,hp,aX,dX=>exact hQ .normal .normal E' _ _ _ _ dX aX (sK E' hE) trivial hp
   |some .ret,hp,aX,dX=>exact hQ .ret .ret E' _ _ _ _ dX aX (sK E' hE) trivial hp
   |some (.exit i),hp,aX,dX=>exact hQ (.exit i) (.exit i) E' _ _ _ _ dX aX (sK E' hE) rfl hp
   |some (.goto i),hp,aX,dX=>exact hQ (.goto i) (.goto i) E' _ _ _ _ dX aX (sK E' hE) rfl hp
  |panic ch=>obtain⟨pv,v,E',H',rfl,hE,cr,fB,bm,bu,hp⟩:=hr;exact hQ (.panic pv) (.panic _) E' V' (mark a d) ⟨s.T,H'⟩ _ ⟨hle.trans hE,rfl,cr,fB⟩ ⟨bu,ak.tok.mono (hle.trans hE),ak.size⟩ (sK E' hE) ⟨v,rfl,bm⟩ hp
 exact D2.mono (λnx V' hn=>Nx.mono key hn) (λv V' hr=>key _ _ hr)
def uY (Φ:SI)(s:AS):Option U5->Prop
 |none=>Φ .normal s
 |some .ret=>Φ .ret s
 |some (.exit i)=>Φ (.exit i) s
 |some (.goto i)=>Φ (.goto i) s
 |_=>False
def ahh{f:Up}{ps:TE}{bS body:U5}{fv:AV}{Φ:SI}{l0 Ic Lw OC df:Nat}{Px:axj}{OR:Option U5}{T0:SH}{O_:TE}{J' Km:U5}(hf:s.ev f=some fv)(h0:s.H[Ic]?=some (.loop l0 Px OR Lw T0 OC O_ J' Km df))
  (h:∀l fn:Nat,fh lv P fv (s.H++[.loop l .ready none fn s.T nt ps bS body df]) [.fn (.yield l) [] []]
   (λ_ H'=>∃st pe gr T' jI hO gT fQ gV,H'[s.H.length]?=some (.loop l st pe gr T' jI hO gT fQ gV)/\st≠ .busy/\uY Φ ⟨s.T,H'.set s.H.length .gone⟩ pe)
   (λpv H'=>Φ (.panic pv) ⟨s.T,H'⟩)):aW lv P (some l0) nt (.rangeFunc f ps bS body) s Φ:=by
 intro E V a Q ak hQ;have hc:=ak.bx;obtain⟨rl,amb,awO,HG,abO,hT0,_⟩:=hc.Ac h0;obtain⟨_,bC,_⟩:=hc.obj Ic _ h0;refine au6 HG amb λfn l hl=> ?_;have hle:E.Le (E.add l V.ah):=E.qE l (λb o v h=>by rw[<- hc.I];exact h);have cI:(E.add l V.ah).blk s.H.length=l:=by rw[<- hc.n];exact E.dP l _
 have cg:Conc (E.add l V.ah) (V.upd l (.loop {state:=.ready,pending:=none,fn,tmps:=a.tmps,params:=ps,assign:=bS,body,defers:=E.blk df})) (s.H++[.loop l .ready none fn s.T nt ps bS body df]):=by refine hc.add hl _ ⟨⟨a.tmps,?_,ak.size,ak.tok.mono hle⟩,?_,λo=> ?_,?_⟩ (λb e=> ?_);rw[Env.dP,hle.blk df bC];simp[View.upd];show df<E.n+1;omega;rw[Env.dP];exact hl.2 o;exact Env.dP _ _ _;simp only[bP,Env.dP,Ul]at e;exact e.symm
 have amu:=ay.ev ak.tok hf;have D2:=h l fn (E.add l V.ah) (V.upd l (.loop {state:=.ready,pending:=none,fn,tmps:=a.tmps,params:=ps,assign:=bS,body,defers:=E.blk df})) (a.eval f) #[.func (.yield l) #[] #[]] cg (amu.mono hle) ⟨rfl,λi x hx=>by
  match i,hx with
  |0,hx=>cases hx;exact .fn rfl rfl (by simp) (by simp)⟩
 have key:∀o V',gR (E.add l V.ah) (V.upd l (.loop {state:=.ready,pending:=none,fn,tmps:=a.tmps,params:=ps,assign:=bS,body,defers:=E.blk df}))
   (λ_ H'=>∃st pe gr T' jI hO gT fQ gV,H'[s.H.length]?=some (.loop l st pe gr T' jI hO gT fQ gV)/\st≠ .busy/\uY Φ ⟨s.T,H'.set s.H.length .gone⟩ pe)
   (λpv H'=>Φ (.panic pv) ⟨s.T,H'⟩) o V'->yj l Q a o V':=by
  intro o V' hr;cases o with
  |ret v=>
   obtain⟨av,E',H',hE,cr,fB,_,bu,st,pe,gr,T',jI,hO,gT,fQ,gV,b_,aU,hp⟩:=hr;obtain⟨de,oo,rT,bl,Nu,t_,ut⟩:=bu.Ac b_;refine⟨_,bl,oo,aU,?_⟩;have hg:Conc E' (V'.upd l (.loop {state:=.exhausted,pending:=pe,fn:=gr,tmps:=rT,params:=hO,assign:=gT,body:=fQ,defers:=E'.blk gV})) (H'.set s.H.length .gone):=bu.Fy _ b_ _ (by simp only[bP,de]);have aX:At E' (V'.upd l (.loop {state:=.exhausted,pending:=pe,fn:=gr,tmps:=rT,params:=hO,assign:=gT,body:=fQ,defers:=E'.blk gV})) ⟨s.T,H'.set s.H.length .gone⟩ a nt:=⟨hg,ak.tok.mono (hle.trans hE),ak.size⟩;have dX:Kept E E' V (V'.upd l (.loop {state:=.exhausted,pending:=pe,fn:=gr,tmps:=rT,params:=hO,assign:=gT,body:=fQ,defers:=E'.blk gV})) a a:=⟨hle.trans hE,rfl,rfl,cr,fB⟩;dsimp only
   match pe,hp,aX,dX with
   |none,hp,aX,dX=>exact hQ .normal .normal E' _ _ _ dX aX trivial hp
   |some .ret,hp,aX,dX=>exact hQ .ret .ret E' _ _ _ dX aX trivial hp
   |some (.exit i),hp,aX,dX=>exact hQ (.exit i) (.exit i) E' _ _ _ dX aX rfl hp
   |some (.goto i),hp,aX,dX=>exact hQ (.goto i) (.goto i) E' _ _ _ dX aX rfl hp
  |panic ch=>obtain⟨pv,v,E',H',rfl,hE,cr,fB,bm,bu,hp⟩:=hr;exact hQ (.panic pv) (.panic _) E' V' a ⟨s.T,H'⟩ ⟨hle.trans hE,rfl,rfl,cr,fB⟩ ⟨bu,ak.tok.mono (hle.trans hE),ak.size⟩ ⟨v,rfl,bm⟩ hp
 exact D2.mono (λnx V' hn=>Nx.mono key hn) (λv V' hr=>key _ _ hr)
def yo (P:Tl)(fn:aw5)(R:SU):List Yn->Wp->Array T9->View->Prop
 |[],.returning,tmps,V=>∃v,aT P V (results fn tmps) (λx V'=>x=v/\V'=V) (λ_ _=>False)/\R (.ret v) V
 |[],.panicking ch,_,V=>R (.panic ch) V
 |d::ds,md,tmps,V=>(md matches .run)=false/\∃b,d={target:=.collected b,args:=#[]}/\V.own b=some (.deferred (some []))/\V.role.chan≠some b/\yo P fn R ds md tmps (V.upd b (.deferred none))
 |[],.run,_,_=>False
def Jr{f:UR}{fn:aw5}{kd:Yr}{R:SU}(hf:P.funcs[f]?=some fn){main:Bool}{J:SM}(C:Closed lv P main J){cs:SX}(hR:∀o V' Dt,R o V'->Leaves P Dt f kd o V'->J V' (G Dt cs)):∀(ds:S5)(md:Wp)(V:View)(fr:VM),fr.fn=f->fr.kind=kd->fr.mode=md->fr.defers=ds->yo P fn R ds md fr.tmps V->J V (G fr cs)
 |[],.returning,V,fr,h1,h2,h3,h4,h=>by obtain⟨v,hs,hr⟩:=h;exact hR _ _ _ hr ⟨h1,h4,h2,fn,hf,h3,hs⟩
 |[],.panicking ch,V,fr,h1,h2,h3,h4,h=>hR _ _ _ h ⟨h1,h4,h2,fn,hf,h3⟩
 |[],.run,_,_,_,_,_,_,h=>h.elim
 |d::ds,md,V,fr,h1,h2,h3,h4,h=>by
  obtain⟨hm,b,rfl,ho,fA,hu⟩:=h;refine C.step _ _ rfl λw hw=> ?_;obtain⟨es,w',V',k1,k2,k3⟩:=(Pq (P:=P) ho fA).runs hw;rcases k3 with⟨x,k3,rfl,rfl⟩|⟨_,_,hx⟩
  ·refine⟨G {fr with defers:=ds} cs,w',seen P fr.fn es,_,?_,k1.seen P fr.fn,?_⟩
   ·have e:∀main,stepG P main (G fr cs) w=unwind P main fr cs none w:=λmain=>by
     cases md with
     |run=>cases hm
     |returning=>simp[G,stepG,h3]
     |panicking ch=>simp[G,stepG,h3]
    rw[e];simp only[unwind,h4];simp[UE,k3,k2,U3,G]
   ·exact Jr hf C hR ds md _ {fr with defers:=ds} h1 h2 h3 rfl hu
  ·exact hx.elim
def afu (P:Tl)(fn:aw5)(R:SU):Ex->Act->View->Prop
 |.normal,a,V|.ret,a,V=>yo P fn R a.defers .returning a.tmps V
 |.panic ch,a,V=>yo P fn R a.defers (.panicking ch) a.tmps V
 |_,_,_=>False
def ahZ{f:UR}{fn:aw5}{c:U5}{args:SG}{kd:Yr}{V:View}{R:SU}(hk:kd≠ .early)(hf:P.funcs[f]?=some fn)(hb:fn.body=some c)
  (h:WP lv P none c (afu P fn R) {tmps:=args++US (fn.ntmps-args.size) undef,defers:=[]} V):Body lv P f args kd V R:=by
 intro main J C cs hR;let b:VM:={(default:VM)with fn:=f,kind:=kd,roundOf:=none};have vD:Frame.enter P f args kd=on b {tmps:=args++US (fn.ntmps-args.size) undef,defers:=[]} [.code c]:=by simp[Frame.enter,on,hf,hb,b]
 rw[vD];refine h main J C b [] cs hk rfl λe a' V' q=> ?_;cases e with
 |normal=>exact C.idle rfl (λw=>Fv rfl) (Jr hf C hR _ _ _ _ rfl rfl rfl rfl q)
 |ret=>intro k;exact C.idle rfl (λw=>Fw rfl) (Jr hf C hR _ _ _ _ rfl rfl rfl rfl q)
 |panic ch=>intro todo _;exact Jr hf C hR _ _ _ _ rfl rfl rfl rfl q
 |exit id=>exact q.elim
 |goto l=>exact q.elim
def jd:SE->SA->Option (SA)
 |[],H=>some H
 |i::ms,H=>match H[i]?with
  |some (.obj (.deferred (some [])))=>jd ms (H.set i .gone)
  |_=>none
def tz (P:Tl)(rs:SW)(n:Nat)(k kp:SF):ap->AS->SE->Prop
 |.normal,s,ms|.ret,s,ms=>au (jd ms s.H) λH'=>au (iF P ⟨s.T,H'⟩ rs) λl=>cz n H' (jr l) k
 |.panic pv,s,ms=>au (jd ms s.H) λH'=>cz n H' pv kp
 |_,_,_=>False
def PL{fn:aw5}{R:SU}{tmps:SG}{md:Wp}(hm:(md matches .run)=false):∀(ms:SE)(H H':SA)(E:Env)(V:View)(l:S5),jd ms H=some H'->Conc E V H->Marks E ms l->(∀V',V'.role=V.role->V'.deaf=V.deaf->Conc E V' H'->yo P fn R [] md tmps V')->yo P fn R l md tmps V
 |[],H,H',E,V,l,hg,hc,ox,hk=>by cases hg;have:l=[]:=ox.1;subst this;exact hk V rfl rfl hc
 |i::ms,H,H',E,V,l,hg,hc,ox,hk=>by simp only[jd]at hg;split at hg;rename_i hi;obtain⟨e,hlt⟩:=ox;simp only[VN]at e;subst e;obtain⟨p1,p2,p3,p4⟩:=hc.obj i _ hi;exact⟨hm,_,rfl,p1,(hc.jq hi rfl).2,PL hm ms _ H' E _ _ hg (hc.Fy _ hi _ rfl) ⟨rfl,λj hj=>hlt j (by simp[hj])⟩ λV' h1 h2 h3=>hk V' h1 h2 h3⟩;cases hg
def aag{f:UR}{fn:aw5}{c:U5}{rs:SW}{nt:Nat}{H:SA}{args:SC}{k kp:SF}(hf:P.funcs[f]?=some fn)(hb:fn.body=some c)(hr:fn.results=rs.toArray)(hn:fn.ntmps=nt)(cU:args.length<=nt)
  (h:bJ H->(∀a∈args,Lt H.length a)->m9 lv P nt c ⟨ba 0 args,H⟩ [] (tz P rs H.length k kp)):aS lv P f H args k kp:=by
 intro E V vs hc hd;have hlt:∀a∈args,Lt H.length a:=λa ha=>by obtain⟨i,hi⟩:=qF ha;rw[<- hc.n];exact(hd.2 i a hi).lt
 have ak:=Dc (nt:=nt) hc hd cU;refine ahZ (by simp) hf hb ?_;rw[hn];refine h hc.an hlt E V _ _ ak ⟨rfl,by simp⟩ λae e E' V' a' s' cP hk aX gK he hΦ=> ?_;have fin:tz P rs H.length k kp .ret s' cP->yo P fn (gR E V k kp) a'.defers .returning a'.tmps V':=λhΦ=>by obtain⟨H',hg,hΦ⟩:=au.out hΦ;exact PL rfl cP _ H' E' V' _ hg aX.bx gK λaZ h1 h2 h3=>adG (s':=⟨s'.T,H'⟩) (a':=a') hr ⟨h3,aX.tok,aX.size⟩ hk.le hc.n (h1.trans hk.role) (h2.trans hk.deaf) hΦ
 cases ae<;>cases e<;>first
  |exact he.elim
  |exact fin hΦ
  |exact hΦ.elim
  |skip
 rename_i pv ch;obtain⟨v,fA,bm⟩:∃v,ch=[{v,recovered:=false}]/\ay E' pv v:=he;subst fA;obtain⟨H',hg,hΦ⟩:=au.out hΦ;refine PL rfl cP _ H' E' V' _ hg aX.bx gK λaZ h1 h2 h3=> ?_;obtain⟨b,bZ,uU,r1,r2,r3,r4⟩:=yD hΦ h3 bm hk.le hc.n;exact⟨b,v,bZ,uU,rfl,r1,h1.trans hk.role,h2.trans hk.deaf,r2,r3,r4⟩
end
def Env.frame (E:Env)(f:Nat->Option Obj):Env:={E with fr:=f}
def ay.frame{E:Env}{a:AV}{v:T9}(h:ay E a v)(f:Nat->Option Obj):ay (E.frame f) a v:=by
 induction h with
 |val x=>exact .val x
 |agg hs _ ih=>exact .agg hs ih
 |aJ hs _ ih=>exact .aJ hs ih
 |sl b o cap g hc he h1 _ ih=>exact .sl b o cap g hc (by cases kE:‹End›<;>(subst kE;exact he)) h1 ih
 |nil he=>exact .nil (by cases kE:‹End›<;>(subst kE;exact he))
 |bB hi dT=>exact .bB (E:=E.frame f) hi dT
 |rp b o g h1 _ ih=>exact .rp b o g h1 ih
 |op hi=>exact .op (E:=E.frame f) hi
 |fn da eJ _ _ nI lQ=>exact .fn da eJ nI lQ
 |bY _ ih=>exact .bY ih
 |mp hi=>exact .mp (E:=E.frame f) hi
def bR.frame{E:Env}{l:SC}{cs:SG}(h:bR E l cs)(f:Nat->Option Obj):bR (E.frame f) l cs:=⟨h.1,λi a e=>(h.2 i a e).frame f⟩
def ky.frame{E:Env}{l:SC}{cs:SG}(h:ky E l cs)(f:Nat->Option Obj):ky (E.frame f) l cs:=⟨h.1,λi a e=>(h.2 i a e).frame f⟩
def cu.frame{E:Env}{T:SH}{tmps:SG}(h:cu E T tmps)(f:Nat->Option Obj):cu (E.frame f) T tmps:=λt a e=>⟨(h t a e).1,(h t a e).2.frame f⟩
def wP(E:Env)(f:Nat->Option Obj)(k:Nat)(x:aa):bP (E.frame f) k x=bP E k x:=by cases x<;>rfl
def gG.frame{E:Env}{V:View}{k:Nat}{x:aa}(h:gG E V k x)(f:Nat->Option Obj):gG (E.frame f) V k x:=by
 cases x with
 |cells l el=>obtain⟨⟨cs,h1,h2⟩,h3⟩:=h;exact⟨⟨cs,h1,h2.frame f⟩,h3⟩
 |part p l el=>obtain⟨⟨cs,h1,h2,h4⟩,h3⟩:=h;exact⟨⟨cs,h1,h2.frame f,h4⟩,h3⟩
 |own sz l el=>obtain⟨⟨cs,h1,h2,h4⟩,h3⟩:=h;exact⟨⟨cs,h1,h2.frame f,h4⟩,h3⟩
 |tail n sz el=>exact h
 |obj x=>exact h
 |iter=>exact h
 |loop=>obtain⟨⟨tmps,h1,h2,h3⟩,h4,h5⟩:=h;exact⟨⟨tmps,h1,h2,h3.frame f⟩,h4,h5⟩
 |gone=>trivial
 |main=>exact h
def Conc.zY{E:Env}{V V':View}{H:SA}(h:Conc E V H)(f:Nat->Option Obj)(hI:V'.ah=V.ah)
  (ho:∀b x k y,H[k]?=some y->bP E k y=some b->V.own b=some x->V'.own b=some x)
  (hg:∀g,V'.role.group=some g->V'.own g≠none/\(∀o,V'.ah g o=none)/\∀(k:Nat) x,H[k]?=some x->bP E k x≠some g)
  (hc:∀g,V'.role.chan=some g->V'.own g≠none/\(∀o,V'.ah g o=none)/\∀(k:Nat) x,H[k]?=some x->bP E k x≠some g)
  (ht:E.main=true->V'.role=.plain/\V'.deaf=0) (hf:∀b y,f b=some y->V'.own b=some y/\(∀o,V'.ah b o=none)/\∀(k:Nat) x,H[k]?=some x->bP E k x≠some b):Conc (E.frame f) V' H:=by
 have hlt:∀(k:Nat) y,H[k]?=some y->k<E.n:=λk y e=>by rw[h.n];exact(Tn.1 e).1
 refine⟨by rw[hI];exact h.I,h.n,λk x e=>gG.frame ((h.obj k x e).mono (Env.Le.refl E) (hlt k x e) rfl (λb y hb hy=>ho b y k x e hb hy) (λb _ o=>by rw[hI])) f,λi j x y b h1 h2 h3 h4=> ?_,λg e=> ?_,λg e=> ?_,ht,λb y e=> ?_⟩;rw[wP]at h3 h4;exact h.inj i j x y b h1 h2 h3 h4;obtain⟨a,b,c⟩:=hg g e;exact⟨a,b,λk x e=>by rw[wP];exact c k x e⟩;obtain⟨a,b,c⟩:=hc g e;exact⟨a,b,λk x e=>by rw[wP];exact c k x e⟩;obtain⟨a,b',c⟩:=hf b y e;exact⟨a,b',λk x e=>by rw[wP];exact c k x e⟩
def Conc.Fe{E:Env}{V:View}{H:SA}(h:Conc E V H){b:Nat}{x:Obj}(hb:E.fr b=some x){k:Nat}{y:aa}(hk:H[k]?=some y){b':Nat}(de:bP E k y=some b'):b'≠b:=λe=>by subst e;exact(h.fr _ x hb).2.2 k y hk de
def Conc.alr{E:Env}{V:View}{H:SA}(h:Conc E V H){b:Nat}{x:Obj}(hb:E.fr b=some x)(y:Obj):Conc (E.frame λb'=>if b'=b then some y else E.fr b') (V.upd b y) H:=by obtain⟨p1,p2,p3⟩:=h.fr b x hb;refine h.zY _ rfl (λb' z k w hk kS hz=> ?_) (λg hg=> ?_) (λg hg=> ?_) h.top (λb' z hz=> ?_);(have:b'≠b:=h.Fe hb hk kS;simpa[View.upd,this]using hz);obtain⟨q1,q2,q3⟩:=h.group g hg;refine⟨?_,q2,q3⟩;simp only[View.upd];split;simp;exact q1;obtain⟨q1,q2,q3⟩:=h.chan g hg;refine⟨?_,q2,q3⟩;simp only[View.upd];split;simp;exact q1;by_cases e:b'=b;subst e;rw[if_pos rfl]at hz;cases hz;exact⟨by simp[View.upd],p2,p3⟩;rw[if_neg e]at hz;obtain⟨q1,q2,q3⟩:=h.fr b' z hz;exact⟨by simpa[View.upd,e]using q1,q2,q3⟩
def Conc.alp{E:Env}{V:View}{H:SA}(h:Conc E V H){b:Nat}(hb:V.fresh b)(y:Obj):Conc (E.frame λb'=>if b'=b then some y else E.fr b') (V.upd b y) H:=by
 have aN:∀(k:Nat) x,H[k]?=some x->bP E k x≠some b:=λk x hk e=>by obtain⟨z,hz⟩:=(h.obj k x hk).De e;rw[hb.1]at hz;cases hz
 refine h.zY _ rfl (λb' z k w hk kS hz=> ?_) (λg hg=> ?_) (λg hg=> ?_) h.top (λb' z hz=> ?_)
 ·have:b'≠b:=λe=>by subst e;exact aN k w hk kS
  simpa[View.upd,this]using hz
 ·obtain⟨q1,q2,q3⟩:=h.group g hg;refine⟨?_,q2,q3⟩;simp only[View.upd];split;simp;exact q1
 ·obtain⟨q1,q2,q3⟩:=h.chan g hg;refine⟨?_,q2,q3⟩;simp only[View.upd];split;simp;exact q1
 ·by_cases e:b'=b;subst e;rw[if_pos rfl]at hz;cases hz;exact⟨by simp[View.upd],hb.2,aN⟩;rw[if_neg e]at hz;obtain⟨q1,q2,q3⟩:=h.fr b' z hz;exact⟨by simpa[View.upd,e]using q1,q2,q3⟩
def Conc.alq{E:Env}{V:View}{H:SA}(h:Conc E V H){id:Nat}{l:SC}{el:TypeId}(hk:H[id]?=some (.cells l el)):∃cs,bR E l cs/\V.own (E.blk id)=some (.cells cs el (0,0))/\(∀o,V.ah (E.blk id) o=none)/\
  Conc (E.frame λb'=>if b'=E.blk id then some (.cells cs el (0,0))else E.fr b') V (H.set id .gone):=by
 obtain⟨⟨cs,h1,h2⟩,h3⟩:=h.obj id _ hk;refine⟨cs,h2,h1,h3,?_⟩;have hg:Conc E V (H.set id .gone):=by refine h.ja id .gone (Env.Le.refl E) h.I (by simpa using h.n) lS rfl (λ_ _ _=>rfl) (λb y _ hy=>⟨hy,λ_=>rfl⟩) trivial (λb e=>by cases e)
 have aN:∀(k:Nat) x,(H.set id .gone)[k]?=some x->bP E k x≠some (E.blk id):=λk x hx e=>by rcases lS k x hx with⟨rfl,rfl⟩|⟨aN,hx⟩;cases e;exact aN (h.inj k id x _ _ hx hk e rfl)
 refine hg.zY _ rfl (λ_ _ _ _ _ _ hz=>hz) hg.group hg.chan h.top (λb' z hz=> ?_);by_cases e:b'=E.blk id;subst e;rw[if_pos rfl]at hz;cases hz;exact⟨h1,h3,aN⟩;rw[if_neg e]at hz;exact hg.fr b' z hz
def Conc.I0{E:Env}{V:View}{H:SA}(h:Conc E V H){id:Nat}{l:SC}{el:TypeId}(hk:H[id]?=some (.cells l el))(p:Nat)(hp:p<=l.length):∃V',eg V V'/\V'.own=V.own/\V'.role=V.role/\V'.deaf=V.deaf/\E.Le {E with I:=V'.ah}/\Conc {E with I:=V'.ah} V' (H.set id (.part p l el))/\
  ay {E with I:=V'.ah} (.rp (l.take p)) (.pointer (some ⟨E.blk id,0,none⟩)):=by
 obtain⟨⟨cs,h1,h2⟩,h3⟩:=h.obj id _ hk;let V':=V.fe (E.blk id) cs λo=>decide (o<p);have lI:∀b o,b≠E.blk id->V'.ah b o=V.ah b o:=λb o hb=>by simp[V',View.fe,hb]
 have ce:∀o,o<p->V'.ah (E.blk id) o=cs[o]?:=λo ho=>by simp[V',View.fe,ho]
 have anc:∀o,p<=o->V'.ah (E.blk id) o=none:=λo ho=>by simp[V',View.fe,Nat.not_lt.2 ho,h3]
 have hle:E.Le {E with I:=V'.ah}:=⟨λb o v e=>by
  rw[h.I]at e;have hb:b≠E.blk id:=λhb=>by subst hb;rw[h3]at e;cases e
  show V'.ah b o=some v;rw[lI b o hb];exact e,Tv _,λ_ _=>rfl,λ_ _=>Tv _,λ_ _ _ _=>rfl,rfl,rfl⟩
 refine⟨V',yN h1 (λo _=>h3 o),rfl,rfl,rfl,hle,?_,?_⟩;refine h.ja (E':={E with I:=V'.ah}) id (.part p l el) hle rfl (by simpa using h.n) lS rfl (λ_ _ _=>rfl) (λb y hb hy=>⟨hy,λo=>lI b o λe=>hb _ hk (by rw[e];rfl)⟩) ⟨⟨cs,h1,(h2.mono hle).p,ce⟩,anc⟩ (λb e=> .inl ⟨_,hk,e⟩)
 ·refine .rp (E.blk id) 0 (λi=>cs.getD i undef) (λi hi=> ?_) λi x hx=> ?_
  ·have cN:i<p:=(by simp at hi;omega);rw[WK];show V'.ah (E.blk id) i=_;rw[ce i cN];have:i<cs.size:=(by have:=h2.1;omega);simp[Th,Tj this]
  ·rw[Vh]at hx;split at hx;exact(h2.2 i x hx).mono hle;cases hx
def Conc.aoV{E:Env}{V V':View}{H:SA}(h:Conc E V H)(ho:V'.own=V.own)(lI:∀b o v,V.ah b o=some v->V'.ah b o=some v)(eO:∀b o,V.own b≠none->V.ah b o=none->V'.ah b o=none)
  (hg:V'.role.group=none) (hc:V'.role.chan=none) (ht:E.main=true->V'.role=.plain/\V'.deaf=0):E.Le {E with I:=V'.ah}/\Conc {E with I:=V'.ah} V' H:=by
 have hle:E.Le {E with I:=V'.ah}:=⟨λb o v e=>by rw[h.I]at e;exact lI b o v e,Tv _,λ_ _=>rfl,λ_ _=>Tv _,λ_ _ _ _=>rfl,rfl,rfl⟩;have hlt:∀(k:Nat) y,H[k]?=some y->k<E.n:=λk y e=>by rw[h.n];exact(Tn.1 e).1
 have key:∀b o,V.own b≠none->V'.ah b o=V.ah b o:=λb o hb=>by
  cases e:V.ah b o with
  |none=>exact eO b o hb e
  |some v=>exact lI b o v e
 refine⟨hle,rfl,h.n,λk x e=>(h.obj k x e).mono hle (hlt k x e) rfl (λb y _ hy=>by rw[ho];exact hy) (λb hb o=> ?_),h.inj,λg e=>(by rw[hg]at e;cases e),λg e=>(by rw[hc]at e;cases e),ht,λb y e=> ?_⟩;obtain⟨y,hy⟩:=(h.obj k x e).De hb;exact key b o (by rw[hy];simp);obtain⟨q1,q2,q3⟩:=h.fr b y e;exact⟨by rw[ho];exact q1,λo=>by rw[key b o (by rw[q1];simp)];exact q2 o,q3⟩
section
variable {lv:Bool}{P:Tl}{nt id:Nat}{ops:SK}{s:AS}{E:Env}{V:View}{a:Act}{Q:SJ}{K:SV}
def Jx(n m:Nat)(hn:ops.size=n+m)(dC:ki nt ops=true)(ak:At E V s a nt)(h:iU lv P ops (ops.toList.take n) s K (λ_ _=>False))
  (hk:∀E' V' a' s',Kept E E' V V' a a'->At E' V' s' a' nt->K s'->dq lv P none ops Q (U8 n m) a' V'):WP lv P none (.region id ops false) Q a V:=by
 refine wp_region ?_;have hr:Tt ops.size=U8 0 n++U8 n m:=by have:=Yl (s:=0) (m:=n) (n:=m);rw[Wj,hn,<- this];simp
 rw[hr];refine Cx _ _ _ (IM (r:=none) (Φ:=λe s'=>match e with
  |.normal=>K s'
  |_=>False) (λo ho d e=>(ki.out dC ho).1 d e) rfl n 0 s (by omega) (by simpa using h) E V a _ ak λae e E' V' a' s' aO aX he hΦ=> ?_)
 cases ae<;>cases e<;>first
  |exact he.elim
  |exact hΦ.elim
  |exact hk E' V' a' s' aO aX hΦ
def PV{n:Nat}{o:Vp}(ho:ops[n]?=some o)(hg:o.guard=none)(h:wJ lv P o a V λa' V'=>Q .normal a' V'):dq lv P none ops Q (U8 n 1) a V:=by simp only[List.range'_one,dq,ho];rw[if_pos (by unfold Uo;rw[hg])];exact .inr h
end
section
variable {lv main:Bool}{P:Tl}{J:SM}
def ae5(C:Closed lv P main J){V:View}{fr:VM}{cs:SX}{g:UR}{ca aL:SG}{ds:S5}(hd:fr.defers=⟨.fn (.func g) ca,aL⟩::ds)(hm:(fr.mode matches .run)=false)(hg:rU P g=true)
  (h:J V (G (Frame.enter P g (aL++ca) .deferred) ({fr with defers:=ds}::cs))):J V (G fr cs):=by
 refine C.step _ _ rfl λw hw=> ?_;have hs:aT P V (invoke (.fn (.func g) ca) aL) (λnx V'=>nx=.enter g (aL++ca)/\V'=V) (λ_ _=>False):=by unfold invoke;exact Pn hg ⟨rfl,rfl⟩
 obtain⟨es,w',V',k1,k2,k3⟩:=hs.runs hw;rcases k3 with⟨nx,k3,rfl,rfl⟩|⟨_,_,h⟩
 ·refine⟨G (Frame.enter P g (aL++ca) .deferred) ({fr with defers:=ds}::cs),w',seen P fr.fn es,V',?_,k1.seen P fr.fn,h⟩;have e:stepG P main (G fr cs) w=unwind P main fr cs none w:=by
   obtain⟨fn,tmps,todo,defers,mode,kind,ro⟩:=fr;cases mode with
   |run=>cases hm
   |returning=>simp[G,stepG]
   |panicking ch=>simp[G,stepG]
  rw[e];simp only[unwind,hd];simp[callDeferred,UE,k3,k2,U3,G]
 ·exact h.elim
def aja(C:Closed lv P main J){f:UR}{fn:aw5}{c:U5}{args:SG}{kd:Yr}{V:View}{cs:SX}{Q:S4}(hk:kd≠ .early)(hf:P.funcs[f]?=some fn)(hb:fn.body=some c)
  (h:WP lv P none c (λe a V=>(match e with|.normal|.ret=>True|_=>False)/\Q a V) {tmps:=args++US (fn.ntmps-args.size) undef,defers:=[]} V)
  (hQ:∀a V todo,Q a V->J V (G {fn:=f,tmps:=a.tmps,todo,defers:=a.defers,mode:=.returning,kind:=kd,roundOf:=none} cs)):J V (G (Frame.enter P f args kd) cs):=by
 let b:VM:={(default:VM)with fn:=f,kind:=kd,roundOf:=none};have vD:Frame.enter P f args kd=on b {tmps:=args++US (fn.ntmps-args.size) undef,defers:=[]} [.code c]:=by simp[Frame.enter,on,hf,hb,b]
 rw[vD];refine h main J C b [] cs hk rfl λe a' V' q=> ?_;cases e with
 |normal=>exact C.idle rfl (λw=>Fv rfl) (hQ a' V' [] q.2)
 |ret=>intro k;exact C.idle rfl (λw=>Fw rfl) (hQ a' V' (.code .ret::k) q.2)
 |panic ch=>exact q.1.elim
 |exit id=>exact q.1.elim
 |goto l=>exact q.1.elim
end
def Env.fO (E:Env)(m:Bool):Env:={E with main:=m}
def ay.fO{E:Env}{a:AV}{v:T9}(h:ay E a v)(m:Bool):ay (E.fO m) a v:=by
 induction h with
 |val x=>exact .val x
 |agg hs _ ih=>exact .agg hs ih
 |aJ hs _ ih=>exact .aJ hs ih
 |sl b o cap g hc he h1 _ ih=>exact .sl b o cap g hc (by cases kE:‹End›<;>(subst kE;exact he)) h1 ih
 |nil he=>exact .nil (by cases kE:‹End›<;>(subst kE;exact he))
 |bB hi dT=>exact .bB (E:=E.fO m) hi dT
 |rp b o g h1 _ ih=>exact .rp b o g h1 ih
 |op hi=>exact .op (E:=E.fO m) hi
 |fn da eJ _ _ nI lQ=>exact .fn da eJ nI lQ
 |bY _ ih=>exact .bY ih
 |mp hi=>exact .mp (E:=E.fO m) hi
def bR.fO{E:Env}{l:SC}{cs:SG}(h:bR E l cs)(m:Bool):bR (E.fO m) l cs:=⟨h.1,λi a e=>(h.2 i a e).fO m⟩
def ky.fO{E:Env}{l:SC}{cs:SG}(h:ky E l cs)(m:Bool):ky (E.fO m) l cs:=⟨h.1,λi a e=>(h.2 i a e).fO m⟩
def cu.fO{E:Env}{T:SH}{tmps:SG}(h:cu E T tmps)(m:Bool):cu (E.fO m) T tmps:=λt a e=>⟨(h t a e).1,(h t a e).2.fO m⟩
def wQ(E:Env)(m:Bool)(k:Nat)(x:aa):bP (E.fO m) k x=bP E k x:=by cases x<;>rfl
def gG.fO{E:Env}{V:View}{k:Nat}{x:aa}(h:gG E V k x)(m:Bool)(hm:x=.main->m=true):gG (E.fO m) V k x:=by
 cases x with
 |cells l el=>obtain⟨⟨cs,h1,h2⟩,h3⟩:=h;exact⟨⟨cs,h1,h2.fO m⟩,h3⟩
 |part p l el=>obtain⟨⟨cs,h1,h2,h4⟩,h3⟩:=h;exact⟨⟨cs,h1,h2.fO m,h4⟩,h3⟩
 |own sz l el=>obtain⟨⟨cs,h1,h2,h4⟩,h3⟩:=h;exact⟨⟨cs,h1,h2.fO m,h4⟩,h3⟩
 |tail n sz el=>exact h
 |obj x=>exact h
 |iter=>exact h
 |loop=>obtain⟨⟨tmps,h1,h2,h3⟩,h4,h5⟩:=h;exact⟨⟨tmps,h1,h2,h3.fO m⟩,h4,h5⟩
 |gone=>trivial
 |main=>exact⟨hm rfl,h.2⟩
def strip:aa->aa
 |.main=> .gone
 |x=>x
def u9(E:Env)(k:Nat)(x:aa):bP E k (strip x)=bP E k x:=by cases x<;>rfl
def Conc.aiv{E:Env}{V:View}{H:SA}(h:Conc E V H):Conc (E.fO false) V (H.map strip):=by
 have get:∀(k:Nat) y,(H.map strip)[k]?=some y->∃x,H[k]?=some x/\strip x=y:=λk y e=>by rw[Ur]at e;obtain⟨x,e1,e2⟩:=Uu.1 e;exact⟨x,e1,e2⟩
 refine⟨h.I,by rw[Um];exact h.n,λk y e=> ?_,λi j x y b h1 h2 h3 h4=> ?_,λg hg=> ?_,λg hg=> ?_,(λe=>by cases e),λb y e=> ?_⟩
 ·obtain⟨x,hx,rfl⟩:=get k y e;have mf:=h.obj k x hx;cases x<;>first
   |exact gG.fO mf false (λe=>by cases e)
   |exact True.intro
 ·obtain⟨x',hx,rfl⟩:=get i x h1;obtain⟨y',hy,rfl⟩:=get j y h2;rw[wQ,u9]at h3 h4;exact h.inj i j x' y' b hx hy h3 h4
 ·obtain⟨a,b,c⟩:=h.group g hg;exact⟨a,b,λk y e=>by obtain⟨x,hx,rfl⟩:=get k y e;rw[wQ,u9];exact c k x hx⟩
 ·obtain⟨a,b,c⟩:=h.chan g hg;exact⟨a,b,λk y e=>by obtain⟨x,hx,rfl⟩:=get k y e;rw[wQ,u9];exact c k x hx⟩
 ·obtain⟨a,b',c⟩:=h.fr b y e;exact⟨a,b',λk y e=>by obtain⟨x,hx,rfl⟩:=get k y e;rw[wQ,u9];exact c k x hx⟩
def Conc.ar2{E:Env}{V:View}{H:SA}(h:Conc E V (H.map strip))(m:Bool)(f:Nat->Option Obj)(hm:∀(k:Nat),H[k]?=some aa.main->m=true/\Av E.I)(ht:m=true->V.role=.plain/\V.deaf=0)(hf:∀b y,f b=some y->E.fr b=some y):Conc ((E.fO m).frame f) V H:=by
 have get:∀(k:Nat) x,H[k]?=some x->(H.map strip)[k]?=some (strip x):=λk x e=>by rw[Ur,e];rfl
 refine⟨h.I,h.n.trans (by rw[Um]),λk x e=>gG.frame ?_ f,λi j x y b h1 h2 h3 h4=> ?_,λg hg=> ?_,λg hg=> ?_,ht,λb y e=> ?_⟩
 ·have mf:=h.obj k _ (get k x e);cases x<;>first
   |exact gG.fO mf m (λe=>by cases e)
   |exact hm k e
 ·rw[wP,wQ]at h3 h4;exact h.inj i j _ _ b (get i x h1) (get j y h2) (by rw[u9];exact h3) (by rw[u9];exact h4)
 ·obtain⟨a,b,c⟩:=h.group g hg;exact⟨a,b,λk x e=>by rw[wP,wQ,<- u9];exact c k _ (get k x e)⟩
 ·obtain⟨a,b,c⟩:=h.chan g hg;exact⟨a,b,λk x e=>by rw[wP,wQ,<- u9];exact c k _ (get k x e)⟩
 ·obtain⟨a,b',c⟩:=h.fr b y (hf b y e);exact⟨a,b',λk x e=>by rw[wP,wQ,<- u9];exact c k _ (get k x e)⟩
section
variable {lv:Bool}{P:Tl}{nt id:Nat}{ops:SK}{s:AS}{E:Env}{V:View}{a:Act}{Q:SJ}{N:S4}{o:Vp}
def afg(ho:ops[0]?=some o)(hg:o.guard=none)(h:CQ lv P none o a V (dq lv P none ops Q (U8 1 (ops.size-1))) Q):WP lv P none (.region id ops false) Q a V:=by
 refine wp_region ?_;have a_:0<ops.size:=(Tw.1 ho).1;have Nl:Tt ops.size=0::U8 1 (ops.size-1):=by rw[Wj];obtain⟨n,hn⟩:∃n,ops.size=n+1:=⟨ops.size-1,by omega⟩;rw[hn,WL];rfl
 rw[Nl];simp only[dq,ho];rw[if_pos (by unfold Uo;rw[hg])];exact h
def au8{k n:Nat}(ho:ops[k]?=some o)(hg:o.guard=none)(h:CQ lv P none o a V (dq lv P none ops Q (U8 (k+1) n)) Q):dq lv P none ops Q (U8 k (n+1)) a V:=by rw[WL];simp only[dq,ho];rw[if_pos (by unfold Uo;rw[hg])];exact h
def au9{k:Nat}(h:Q .normal a V):dq lv P none ops Q (U8 k 0) a V:=h
def PW{k n:Nat}(s3:AS)(hk:k+n=ops.size)(dC:ki nt ops=true)(ak:At E V s a nt)(h:iU lv P ops (ops.toList.drop k) s (λs'=>s'.Sub s3) (λ_ _=>False))(hQ:∀E' V' a',Kept E E' V V' a a'->At E' V' s3 a' nt->Q .normal a' V'):dq lv P none ops Q (U8 k n) a V:=by
 refine B4 (r:=none) (Φ:=λe s'=>match e with
  |.normal=>s'.Sub s3
  |_=>False) (λo ho d e=>(ki.out dC ho).1 d e) (λ_ _=> .inl rfl) n k s hk h E V a Q ak λae e E' V' a' s' aO aX he hΦ=> ?_
 cases ae<;>cases e<;>first
  |exact he.elim
  |exact hΦ.elim
  |exact hQ E' V' a' aO (aX.sub hΦ)
def aqq{c:Yv}{f:UR}(aB:o.op=.call c)(aY:c.callee=.value (.func f))(hf:rU P f=true)(h:Body lv P f (c.args.map a.eval) .normal V (fun
  |.ret v,V'=>N (a.put o.dst v) V'
  |.panic _,_=>False)):CQ lv P none o a V N Q:=by
 refine .inl ⟨.inl rfl,?_⟩;unfold execOp;rw[aB];dsimp only;unfold resolve;rw[aY];dsimp only;have e:a.eval (.func f)=.func (.func f) #[] #[]:=rfl;rw[e];unfold VU;refine aA (az ?_);unfold invoke;dsimp only;refine Pn hf ?_;have e2:#[]++c.args.map a.eval++#[]=c.args.map a.eval:=by simp
 rw[e2];exact h.mono λo V' hx=>by
  cases o with
  |ret v=>exact hx
  |panic ch=>exact hx.elim
def aqr{t el:TypeId}{d:ChanDir}{i:X8}(aB:o.op=.makeChan t (.const (.int .i64 0)))(h1:P.underlying t=some (.chan d el))(h2:P.info? el=some i)(h:∀c,V.fresh c->N (a.put o.dst (.chan (some c))) (V.upd c (.chan 0 #[] false 0 0 false))):CQ lv P none o a V N Q:=by refine .inl ⟨.inl rfl,?_⟩;unfold execOp;rw[aB];dsimp only;have e:a.eval (.const (.int .i64 0))=.int .i64 0:=rfl;rw[e];unfold Instr.makeChan;refine aA (aA ?_);unfold asInt;refine az ?_;refine ez h1 ?_;dsimp only;refine Ab h2 ?_;rw[if_neg (by simp[IntKind.max,ax9,ax8])];refine aA ?_;unfold newObj;exact oQ λc hf=>cj (az (az (h c hf)))
end
def au7{lv:Bool}{P:Tl}{r:SL}{code:U5}{Q:SJ}{a:Act}{V:View}{c Wg:Nat}(ui:lv=true)(hr:V.role=.plain)(aN:c≠Wg)(hc:V.own c=some (.chan 0 #[] false 0 0 false))(hW:V.own Wg≠none)(pi:∀o,V.ah Wg o=none)
  (h:WP lv P r code Q a {V with role:=.fork c Wg []}):WP lv P r code Q a V:=λmain J C b k cs hb cr hL=>
 (C.more ui).start _ _ c Wg hr aN hc hW pi (h main J C b k cs hb cr hL)
structure Env.Lo (E E':Env):Prop where
 I:∀b o v,E.I b o=some v->E'.I b o=some v
 n:E.n<=E'.n
 blk:∀k,k<E.n->E'.blk k=E.blk k
 gn:∀k,k<E.n->E.gn k<=E'.gn k
 room:∀k v,k<E.n->v<=E.gn k->E'.room k v=E.room k v
def Env.Le.lo{E E':Env}(h:E.Le E'):E.Lo E':=⟨h.I,h.n,h.blk,h.gn,h.room⟩
def Env.Lo.refl(E:Env):E.Lo E:=(Env.Le.refl E).lo
def Env.Lo.trans{E E' bZ:Env}(h:E.Lo E')(k:E'.Lo bZ):E.Lo bZ:=
 ⟨λb o v e=>k.I b o v (h.I b o v e),UJ h.n k.n,λi hi=>(k.blk i (Ug hi h.n)).trans (h.blk i hi),λi hi=>UJ (h.gn i hi) (k.gn i (Ug hi h.n)),
  λi v hi hv=>(k.room i v (Ug hi h.n) (UJ hv (h.gn i hi))).trans (h.room i v hi hv)⟩
def Env.Lo.le{E E':Env}(h:E.Lo E'):E.Le ((E'.fO E.main).frame E.fr):=⟨h.I,h.n,h.blk,h.gn,h.room,rfl,rfl⟩
def ay.lo{E E':Env}(h:E.Lo E'){a:AV}{v:T9}(d:ay E a v):ay E' a v:=by have:=((d.mono h.le).fO E'.main).frame E'.fr;exact this
def Env.Iv(E:Env)(f:Nat->Option Obj):E.Lo (E.frame f):=⟨λ_ _ _ h=>h,Tv _,λ_ _=>rfl,λ_ _=>Tv _,λ_ _ _ _=>rfl⟩
def Env.apd(E:Env)(m:Bool):E.Lo (E.fO m):=⟨λ_ _ _ h=>h,Tv _,λ_ _=>rfl,λ_ _=>Tv _,λ_ _ _ _=>rfl⟩
def Env.Lo.cut{E E':Env}(h:E.Lo E'){n:Nat}(hn:E.n<=n):E.Lo {E' with n:=n}:=⟨h.I,hn,h.blk,h.gn,h.room⟩
def Env.bare (E:Env):Env:=((({E with n:=0}:Env).fO false).frame λ_=>none)
def ay.bare{E:Env}{a:AV}{v:T9}(h:ay E a v)(hl:Lt 0 a):ay E.bare a v:=((h.trim hl).fO false).frame _
def aij{E:Env}{I:cC}{ro:nT}(hI:E.I=I)(hg:ro.group=none)(hc:ro.chan=none):Conc E.bare {ah:=I,own:=λ_=>none,deaf:=0,role:=ro} []:=
 ⟨hI,rfl,λk x e=>(by cases e),λi j x y b h1=>(by cases h1),λg e=>(by rw[hg]at e;cases e),λg e=>(by rw[hc]at e;cases e),λe=>(by cases e),λb y e=>(by cases e)⟩
def At.auW{E:Env}{V:View}{s:AS}{a:Act}{nt t id off:Nat}(h:At E V s a nt)(hl:look s.T t=some (.op id off)):a.eval (.tmp t)=.pointer (some ⟨E.blk id,off,none⟩):=by have hd:=(h.tok t _ hl).2;show a.tmps.getD t undef=_;generalize a.tmps.getD t undef=v at hd;cases hd;rfl
section
variable {lv:Bool}{P:Tl}{s:AS}{ms:SE}{nt:Nat}
def ap.qY (id:Nat)(Φ:SN):ap->AS->SE->Prop
 |.exit i,s,ms=>if i=id then Φ .normal s ms else Φ (.exit i) s ms
 |e,s,ms=>Φ e s ms
def ahr{id:Nat}{c:U5}{Φ:SN}(h:m9 lv P nt c s ms (ap.qY id Φ)):m9 lv P nt (.block id c) s ms Φ:=by
 intro E V a Q ak hd hQ;refine wp_block (h E V a _ ak hd λae e E' V' a' s' cP hk aX cM he hΦ=> ?_);cases ae<;>cases e<;>first
  |exact he.elim
  |skip
 ·exact hQ .normal .normal E' V' a' s' cP hk aX cM trivial hΦ
 ·rename_i i j;have e:i=j:=he;subst e;by_cases b_:i=id;simp only[Ex.inBlock,b_,if_true];simp only[ap.qY,b_,if_true]at hΦ;exact hQ .normal _ E' V' a' s' cP hk aX cM trivial hΦ;simp only[Ex.inBlock,b_,if_false];simp only[ap.qY,b_,if_false]at hΦ;exact hQ (.exit i) _ E' V' a' s' cP hk aX cM rfl hΦ
 ·exact hQ _ _ E' V' a' s' cP hk aX cM he hΦ
 ·exact hQ _ _ E' V' a' s' cP hk aX cM he hΦ
 ·exact hQ _ _ E' V' a' s' cP hk aX cM he hΦ
def ap.wx (Φ:SN):ap->AS->SE->Prop
 |.goto _,_,_=>False
 |e,s,ms=>Φ e s ms
def ahu{c:U5}{Φ:SN}(h:m9 lv P nt c s ms (ap.wx Φ)):m9 lv P nt (.scope c) s ms Φ:=by
 intro E V a Q ak hd hQ;refine afh (λ_ _ _ _=>False) ⟨0,h E V a _ ak hd λae e E' V' a' s' cP hk aX cM he hΦ=> ?_⟩ λ_ _ _ _ _ _ hf=>hf.elim;cases ae<;>cases e<;>first
  |exact he.elim
  |exact hΦ.elim
  |exact hQ _ _ E' V' a' s' cP hk aX cM he hΦ
def ahN(id:Nat)(Φ:SN)(s:AS)(ms:SE):ap.qY id Φ .normal s ms=Φ .normal s ms:=by rw[ap.qY];simp
def aty(Φ:SN)(s:AS)(ms:SE):ap.wx Φ .normal s ms=Φ .normal s ms:=by rw[ap.wx];simp
def atA(Φ:SN)(s:AS)(ms:SE):ap.wx Φ .ret s ms=Φ .ret s ms:=by rw[ap.wx];simp
def aui(K:AS->SE->Prop)(Φ:SN)(s:AS)(ms:SE):ap.tj K Φ .normal s ms=K s ms:=by rw[ap.tj]
def auk(K:AS->SE->Prop)(Φ:SN)(s:AS)(ms:SE):ap.tj K Φ .ret s ms=Φ .ret s ms:=by rw[ap.tj];simp
@[congr] theorem avZ {c : U5} {s s' : AS} {ms cP : SE} {Φ : ap -> AS -> SE -> Prop} (h : s = s') (hd : ms = cP) : m9 lv P nt c s ms Φ = m9 lv P nt c s' cP Φ := by rw[h, hd]
@[congr] theorem awM {K : AS -> SE -> Prop} {Φ : ap -> AS -> SE -> Prop} {e e' : ap} {s s' : AS} {ms cP : SE} (he : e = e') (h : s = s') (hd : ms = cP) : ap.tj K Φ e s ms = ap.tj K Φ e' s' cP := by rw[he, h, hd]
@[congr] theorem awJ {Φ : ap -> AS -> SE -> Prop} {e e' : ap} {s s' : AS} {ms cP : SE} (he : e = e') (h : s = s') (hd : ms = cP) : ap.wx Φ e s ms = ap.wx Φ e' s' cP := by rw[he, h, hd]
@[congr] theorem awe {rs : List af_} {n : Nat} {k kp : AV -> SA -> Prop} {e e' : ap} {s s' : AS} {ms cP : SE} (he : e = e') (h : s = s') (hd : ms = cP) : tz P rs n k kp e s ms = tz P rs n k kp e' s' cP := by rw[he, h, hd]
def alf(rs:SW)(n:Nat)(k kp:SF)(s:AS)(ms:SE):tz P rs n k kp .ret s ms=au (jd ms s.H) λH'=>au (iF P ⟨s.T,H'⟩ rs) λl=>cz n H' (jr l) k:=by rw[tz]
def A_(H:SA):jd [] H=some H:=by rw[jd]
def A9{i:Nat}{ms:SE}{H:SA}(h:H[i]?=some (.obj (.deferred (some [])))):jd (i::ms) H=jd ms (H.set i .gone):=by rw[jd];rw[h]
attribute [seval] ahN aty atA aui auk alf A_
end
section
variable {lv:Bool}{P:Tl}{r:SL}{s:AS}
def Ru{E:Env}{I:cC}(hI:∀b o v,E.I b o=some v->I b o=some v){n:Nat}{l:SC}{v:T9}(h:ay E (.sl n l .exact) v):∃a,ay (E.tok I (a,n) n) (.sl n l (.opn E.n)) v:=by
 cases h with
 |sl b o cap f dT he q1 q2=>have Hj:cap=n:=he;subst Hj;refine⟨some ⟨b,o,none⟩,?_⟩;have hle:=E.Oe (I:=I) hI (some ⟨b,o,none⟩,cap) cap;exact .sl b o cap f dT ⟨by simp[Env.tok],by simp[Env.tok],by simp[Env.tok]⟩ (λi hi=>hle.I _ _ _ (q1 i hi)) (λi x hx=>(q2 i x hx).mono hle)
 |nil he=>exact⟨_,.nil ⟨by simp[Env.tok],by simp[Env.tok],by simp[Env.tok];rfl⟩⟩
def tM{nt t n sz:Nat}{c:U5}{l:SC}{el:TypeId}{Φ:SI}(ht:look s.T t=some (.sl n l .exact))(h:aW lv P r nt c ⟨(t,.sl n l (.opn s.H.length))::s.T,s.H++[.tail n sz el]⟩ Φ):aW lv P r nt c s Φ:=λE V a Q ak hQ=>by
 obtain⟨hlt,hd⟩:=ak.tok t _ ht;obtain⟨ad,cM⟩:=Ru (I:=V.ah) (λb o v h=>by rw[<- ak.bx.I];exact h) hd;obtain⟨hc,hle⟩:=ak.bx.PF (n:=n) sz el ad;refine h _ V a Q ⟨hc,λt' x hx=> ?_,ak.size⟩ λae e E' V' a' s' hk=>hQ ae e E' V' a' s' ((⟨hle,rfl,rfl,rfl,rfl⟩:Kept E _ V V a a).trans hk);simp only[look]at hx;split at hx
 ·rename_i e;subst e;cases hx;rw[<- ak.bx.n];exact⟨hlt,cM⟩
 ·exact⟨(ak.tok t' x hx).1,(ak.tok t' x hx).2.mono hle⟩
def Rw{E:Env}{l:SC}{cs:SG}{j:Nat}{a b:AV}(h:bR E l cs)(hj:l[j]?=some a)(hb:∀v,ay E a v->ay E b v):bR E (l.set j b) cs:=by refine⟨by rw[UK];exact h.1,λi x hx=> ?_⟩;by_cases e:i=j;subst e;rw[Ym (Tn.1 hj).1]at hx;cases hx;exact hb _ (h.2 i a hj);rw[Vd (Ne.symm e)]at hx;exact h.2 i x hx
def ahn{nt id j n sz:Nat}{c:U5}{l l':SC}{el gW:TypeId}{Φ:SI}(b_:s.H[id]?=some (.cells l el))(hj:l[j]?=some (.sl n l' .exact))(h:aW lv P r nt c ⟨s.T,s.H.set id (.cells (l.set j (.sl n l' (.opn s.H.length))) el)++[aa.tail n sz gW]⟩ Φ):aW lv P r nt c s Φ:=λE V a Q ak hQ=>by
 have hc:=ak.bx;obtain⟨⟨cs,eO,hd⟩,lI⟩:=hc.obj id _ b_;obtain⟨ad,cM⟩:=Ru (I:=V.ah) (λb o v h=>by rw[<- hc.I];exact h) (hd.2 j _ hj);obtain⟨bu,hle⟩:=hc.PF (n:=n) sz gW ad;have hlt:=(Tn.1 b_).1;have hn:(E.tok V.ah (ad,n) n).n=s.H.length+1:=by simp[Env.tok,hc.n]
 have e:s.H.set id (.cells (l.set j (.sl n l' (.opn s.H.length))) el)++[aa.tail n sz gW]=(s.H++[aa.tail n sz gW]).set id (.cells (l.set j (.sl n l' (.opn s.H.length))) el):=(VE _ _ hlt).symm;rw[e]at h;have xg:bR (E.tok V.ah (ad,n) n) (l.set j (.sl n l' (.opn s.H.length))) cs:=by have h0:=hd.mono hle;refine⟨by rw[UK];exact h0.1,λi x hx=> ?_⟩;by_cases ei:i=j;subst ei;rw[Ym (Tn.1 hj).1]at hx;cases hx;rw[<- hc.n];exact cM;rw[Vd (Ne.symm ei)]at hx;exact h0.2 i x hx
 have hb:(E.tok V.ah (ad,n) n).blk id=E.blk id:=hle.blk id (by rw[hc.n];exact hlt);have cg:Conc (E.tok V.ah (ad,n) n) V ((s.H++[aa.tail n sz gW]).set id (.cells (l.set j (.sl n l' (.opn s.H.length))) el)):=by
  have dg:(s.H++[aa.tail n sz gW])[id]?=some (.cells l el):=by rw[T6 hlt];exact b_
  refine bu.ja id _ (Env.Le.refl _) bu.I (by rw[bu.n,UK]) lS rfl (λ_ _ _=>rfl) (λb y _ hy=>⟨hy,λ_=>rfl⟩) ⟨⟨cs,by rw[hb];exact eO,xg⟩,λo=>by rw[hb];exact lI o⟩ (λb de=> .inl ⟨_,dg,de⟩)
 refine h _ V a Q ⟨cg,ak.tok.mono hle,ak.size⟩ λae e E' V' a' s' hk=>hQ ae e E' V' a' s' ((⟨hle,rfl,rfl,rfl,rfl⟩:Kept E _ V V a a).trans hk)
def ahp{nt id j:Nat}{c:U5}{l:SC}{x y:AV}{el:TypeId}{Φ:SI}(b_:s.H[id]?=some (.cells l el))(hj:l[j]?=some x)(hw:Wk x y)(h:aW lv P r nt c ⟨s.T,s.H.set id (.cells (l.set j y) el)⟩ Φ):aW lv P r nt c s Φ:=λE V a Q ak hQ=>by
 have hc:=ak.bx;obtain⟨⟨cs,eO,hd⟩,lI⟩:=hc.obj id _ b_;have cg:Conc E V (s.H.set id (.cells (l.set j y) el)):=
  hc.ja id _ (Env.Le.refl _) hc.I (by rw[hc.n,UK]) lS rfl (λ_ _ _=>rfl) (λb y _ hy=>⟨hy,λ_=>rfl⟩) ⟨⟨cs,eO,Rw hd hj (hw E)⟩,lI⟩ (λb de=> .inl ⟨_,b_,de⟩)
 exact h E V a Q ⟨cg,ak.tok,ak.size⟩ hQ
end
structure yg (X Y Z:Prop):Type where
 n:Nat
def UG (a:AV)(cp:Bool)(X Y Z:Prop)(_t:yg X Y Z):Prop:=(∃b,a=.val (.bool b)/\(b=cp->X)/\(b= !cp->Y))\/(a=.val undef/\Z)
def Jq{b cp:Bool}{X Y Z:Prop}{t:yg X Y Z}:UG (.val (.bool b)) cp X Y Z t=((b=cp->X)/\(b= !cp->Y)):=by unfold UG;refine propext ⟨λh=> ?_,λh=> .inl ⟨b,rfl,h⟩⟩;rcases h with⟨b',e,h⟩|⟨e,_⟩;cases e;exact h;cases e
def auQ(X Y Z:Prop)(t:yg X Y Z):UG (.val (.bool true)) true X Y Z t=X:=by rw[Jq];simp
def auP(X Y Z:Prop)(t:yg X Y Z):UG (.val (.bool true)) false X Y Z t=Y:=by rw[Jq];simp
def auO(X Y Z:Prop)(t:yg X Y Z):UG (.val (.bool false)) true X Y Z t=Y:=by rw[Jq];simp
def auN(X Y Z:Prop)(t:yg X Y Z):UG (.val (.bool false)) false X Y Z t=X:=by rw[Jq];simp
def auR(cp:Bool)(X Y Z:Prop)(t:yg X Y Z):UG (.val undef) cp X Y Z t=Z:=by unfold UG;refine propext ⟨λh=> ?_,λh=> .inr ⟨rfl,h⟩⟩;rcases h with⟨b',e,_⟩|⟨_,h⟩;cases e;exact h
section
variable (lv:Bool)(P:Tl)
def oX (all:SK):List Vp->AS->(SV)->(AV->SV)->Prop
 |[],s,next,_=>next s
 |o::rest,s,next,bad=>match o.guard with
  |none=>m8 lv P s o (λs'=>oX all rest s' next bad) bad
  |some (j,cp)=>au ((all[j]?).bind (·.dst)) λd=>au (look s.T d) λa=>UG a cp (m8 lv P ⟨(d,.val (.bool cp))::s.T,s.H⟩ o (λs'=>oX all rest s' next bad) bad) (oX all rest ((⟨(d,.val (.bool !cp))::s.T,s.H⟩:AS).put o.dst (.val undef)) next bad) (oX all rest (s.put o.dst (.val undef)) next bad) ⟨0⟩
end
def auM:type_of% @oX.eq_1:=by intros;rw[oX.eq_1]
def auL:type_of% @oX.eq_2:=by intros;rw[oX.eq_2]
@[congr] theorem awQ {lv : Bool} {P : Tl} {s s' : AS} {all : Array Vp} {l : List Vp} {next : AS -> Prop} {bad : AV -> AS -> Prop} (h : s = s') : oX lv P all l s next bad = oX lv P all l s' next bad := by rw[h]
attribute [seval] auM auL auQ auP auO auN auR
section
variable {lv:Bool}{P:Tl}{r:SL}{s:AS}
def Js{nt:Nat}{all:SK}{Φ:SI}(dC:∀o∈all,∀d,o.dst=some d->d<nt)(oq:∀o∈all,r=none\/mR o.op=false):∀(n k:Nat)(s:AS),k+n=all.size->oX lv P all (all.toList.drop k) s (Φ .normal) (λpv s=>Φ (.panic pv) s)->
  ∀(E:Env)(V:View)(a:Act)(Q:SJ),At E V s a nt->(∀ae e E' V' a' s',Kept E E' V V' a a'->At E' V' s' a' nt->pS E' ae e->Φ ae s'->Q e a' V')->dq lv P r all Q (U8 k n) a V
 |0,k,s,hk,h,E,V,a,Q,ak,hQ=>by
  have:all.toList.drop k=[]:=by simp;omega
  rw[this]at h;exact hQ .normal .normal E V a s (Kept.refl E V a) ak trivial h
 |n+1,k,s,hk,h,E,V,a,Q,ak,hQ=>by
  have hlt:k<all.size:=by omega
  have hd:all.toList.drop k=all[k]::all.toList.drop (k+1):=by rw[UL (by simpa using hlt)];simp
  rw[hd]at h;have e_:all[k]∈all:=XZ hlt;have ho:all[k]?=some all[k]:=Tj hlt;simp only[WL,dq,ho];have go:∀s:AS,At E V s a nt->m8 lv P s all[k] (λs'=>oX lv P all (all.toList.drop (k+1)) s' (Φ .normal) (λpv s=>Φ (.panic pv) s)) (λpv s=>Φ (.panic pv) s)->yi lv P r all[k] a V (dq lv P r all Q (U8 (k+1) n)) Q:=λs ak h=>by refine h.sound (lv:=lv) (r:=r) E V a _ Q ak.bx ak.tok (λd e=>by rw[ak.size];exact dC _ e_ d e) (oq _ e_) (λE' V' a' s' aO bu mN hn=> ?_) (λE' V' s' pv v aO bu mN bm hb=> ?_);exact Js dC oq n (k+1) s' (by omega) hn E' V' a' Q ⟨bu,mN,aO.size.trans ak.size⟩ (λae e bZ aZ cD dw gJ dt he hΦ=>hQ ae e bZ aZ cD dw (aO.trans gJ) dt he hΦ);exact hQ (.panic pv) (.panic _) E' V' a s' aO ⟨bu,mN,ak.size⟩ ⟨v,rfl,bm⟩ hb
  simp only[oX]at h;split at h;rename_i hg;have hw:Uo all[k] (yielded all a.tmps)=true:=(by unfold Uo;rw[hg]);rw[if_pos hw];exact .inl (go s ak h)
  ·rename_i j cp hg;obtain⟨d,gY,h⟩:=h.out;obtain⟨av,h1,h⟩:=h.out;rcases h with⟨b,rfl,h2,h3⟩|⟨rfl,h3⟩
   case inr=>
    have hv:=(ak.tok d _ h1).2;have hy:yielded all a.tmps j≠some cp:=by obtain⟨oj,kW,jC⟩:=Uj.1 gY;generalize hx:a.tmps.getD d undef=x at hv;cases hv;have mJ:d<a.tmps.size:=(ak.tok d _ h1).1;rw[Th,Tj mJ]at hx;simp only[T_]at hx;simp[yielded,kW,jC,Tj mJ,hx,undef]
    have hw:¬Uo all[k] (yielded all a.tmps)=true:=by unfold Uo;rw[hg];intro h;exact hy (by simpa using h)
    rw[if_neg hw];exact Js dC oq n (k+1) (s.put all[k].dst (.val undef)) (by omega) h3 E V (a.put all[k].dst undef) Q
     ⟨by rw[fG];exact ak.bx,ak.tok.iy (λd e=>by rw[ak.size];exact dC _ e_ d e) (.val undef),by rw[ek];exact ak.size⟩
     (λae e bZ aZ cD dw gJ dt he hΦ=>hQ ae e bZ aZ cD dw ⟨gJ.le,gJ.size.trans (ek _ _ _),gJ.defers.trans (put_defers _ _ _),gJ.role,gJ.deaf⟩ dt he hΦ)
   have hv:=(ak.tok d _ h1).2;have hy:yielded all a.tmps j=some b:=by obtain⟨oj,kW,jC⟩:=Uj.1 gY;generalize hx:a.tmps.getD d undef=x at hv;cases hv;have mJ:d<a.tmps.size:=(ak.tok d _ h1).1;rw[Th,Tj mJ]at hx;simp only[T_]at hx;simp[yielded,kW,jC,Tj mJ,hx]
   have sW:∀b',b=b'->At E V ⟨(d,.val (.bool b'))::s.T,s.H⟩ a nt:=λb' de=>by subst de;refine⟨ak.bx,λt x e=> ?_,ak.size⟩;simp only[look]at e;split at e;rename_i e';subst e';cases e;exact ak.tok d _ h1;exact ak.tok t x e
   by_cases hb:b=cp;have hw:Uo all[k] (yielded all a.tmps)=true:=(by unfold Uo;rw[hg];simp[hy,hb]);rw[if_pos hw];exact .inl (go _ (sW cp hb) (h2 hb))
   ·have hw:¬Uo all[k] (yielded all a.tmps)=true:=(by unfold Uo;rw[hg];simp[hy,hb]);rw[if_neg hw];have de:b= !cp:=(by cases b<;>cases cp<;>simp_all);have w7:=h3 de;have ak:=sW _ de;exact Js dC oq n (k+1) ((⟨(d,.val (.bool !cp))::s.T,s.H⟩:AS).put all[k].dst (.val undef)) (by omega) w7 E V (a.put all[k].dst undef) Q
     ⟨by rw[fG];exact ak.bx,ak.tok.iy (λd e=>by rw[ak.size];exact dC _ e_ d e) (.val undef),by rw[ek];exact ak.size⟩
     (λae e bZ aZ cD dw gJ dt he hΦ=>hQ ae e bZ aZ cD dw ⟨gJ.le,gJ.size.trans (ek _ _ _),gJ.defers.trans (put_defers _ _ _),gJ.role,gJ.deaf⟩ dt he hΦ)
def ahk{nt id:Nat}{ops:SK}{Φ:SI}(hd:ki nt ops=true)(h:oX lv P ops ops.toList s (Φ .normal) (λpv s=>Φ (.panic pv) s)):aW lv P r nt (.region id ops false) s Φ:=by intro E V a Q ak hQ;refine wp_region ?_;rw[Wj];exact Js (Φ:=Φ) (λo ho d e=>(ki.out hd ho).1 d e) (λo ho=> .inr (ki.out hd ho).2) ops.size 0 s (by omega) (by simpa using h) E V a Q ak hQ
end
section
variable (lv:Bool)(P:Tl)
def tJ (all:SK):List Vp->AS->(SV)->Prop
 |[],s,K=>K s
 |o::rest,s,K=>match o.guard with
  |none=>AQ lv P s o λav=>tJ all rest (s.put o.dst av) K
  |some (j,cp)=>au ((all[j]?).bind (·.dst)) λd=>au (look s.T d) λa=>UG a cp (AQ lv P ⟨(d,.val (.bool cp))::s.T,s.H⟩ o λav=>tJ all rest ((⟨(d,.val (.bool cp))::s.T,s.H⟩:AS).put o.dst av) K) (tJ all rest ((⟨(d,.val (.bool !cp))::s.T,s.H⟩:AS).put o.dst (.val undef)) K) (tJ all rest (s.put o.dst (.val undef)) K) ⟨0⟩
end
def arR:type_of% @tJ.eq_1:=by intros;rw[tJ.eq_1]
def arQ:type_of% @tJ.eq_2:=by intros;rw[tJ.eq_2]
@[congr] theorem awH {lv : Bool} {P : Tl} {s s' : AS} {all : Array Vp} {l l' : List Vp} {K : AS -> Prop} (hl : l = l') (h : s = s') : tJ lv P all l s K = tJ lv P all l' s' K := by rw[hl, h]
attribute [seval] arR arQ
section
variable {lv:Bool}{P:Tl}{r:SL}{s:AS}{ops:SK}{nt p:Nat}
end
section
variable {P:Tl}
def F1 (P:Tl)(d:Nat)(t:TypeId):Prop:=(∃u,P.underlying t=some u/\AB u=false)/\∀x y:Int,bA P (WI d t (.int .i64 x) (.int .i64 y)) (x==y)
def F2 (P:Tl)(d:Nat)(t:TypeId)(n:Nat):Prop:=(∃u,P.underlying t=some u/\AB u=true)/\(∃i,P.info? t=some i/\i.size=n)/\∀xs ys:SD,xs.length=n->ys.length=n->bA P (WI d t (.agg (xs.map (S_ .i64)).toArray) (.agg (ys.map (S_ .i64)).toArray)) (xs==ys)
inductive tx (P:Tl)(d:Nat):Nat->List aw7->Nat->Prop
 |nil (o:Nat):tx P d o [] o
 | one {o n : Nat} {f : aw7} {fs : List aw7} (hn : f.name ≠ "_") (ho : f.offset = o) (h : F1 P d f.type) (t : tx P d (o + 1) fs n) : tx P d o (f :: fs) n
 | sub {o m n : Nat} {f : aw7} {fs : List aw7} (hn : f.name ≠ "_") (ho : f.offset = o) (h : F2 P d f.type m) (t : tx P d (o + m) fs n) : tx P d o (f :: fs) n
def tx.le{d o n:Nat}{fs:List aw7}(h:tx P d o fs n):o<=n:=by
 induction h with
 |nil=>exact Tv _
 |one _ _ _ _ ih=>omega
 |sub _ _ _ _ ih=>omega
def R3(xs:SD)(o m:Nat):(xs.map (S_ .i64)).toArray.extract o (o+m)=(((xs.drop o).take m).map (S_ .i64)).toArray:=by simp[ZF,Xg,ZL]
def atU {d n N : Nat} {xs ys : SD} {body : aw7 -> Option Bool × Unit -> Sem (ForInStep (Option Bool × Unit))} (hx : xs.length = N) (hy : ys.length = N) (hb : ∀ f s, body f s = (if f.name ≠ "_" then (do
   let a<- part f.type (xs.map (S_ .i64)).toArray f.offset;let b<- part f.type (ys.map (S_ .i64)).toArray f.offset;let r<- WI d f.type a b
   if(!r)=true then pure (.done (some false,()))else pure (.yield (none,())))else pure (.yield (none,())))):
  ∀{o:Nat}{fs:List aw7},tx P d o fs n->n<=N->bA P (forIn fs (none,()) body) (if(xs.drop o).take (n-o)==(ys.drop o).take (n-o)then(none,())else(some false,())):=by
 intro o fs h hn;induction h with
 |nil o=>simpa using i_ (none,())
 |@one o n f fs M4 ho h t ih=>
  have hle:=t.le;have hox:o<xs.length:=by omega
  have hoy:o<ys.length:=by omega
  obtain⟨⟨u,hu,EC⟩,he⟩:=h;rw[Yc,hb,if_pos M4,ho];refine lW (a:=if xs[o]==ys[o]then .yield (none,())else .done (some false,())) ?_ ?_;refine FE hu EC (v:=.int .i64 xs[o]) (by simp[hox]) ?_;refine FE hu EC (v:=.int .i64 ys[o]) (by simp[hoy]) ?_;refine lW (he _ _) ?_;cases hq:xs[o]==ys[o]<;>exact i_ _
  ·have e:((xs.drop o).take (n-o)==(ys.drop o).take (n-o))=((xs[o]==ys[o])&&((xs.drop (o+1)).take (n-(o+1))==(ys.drop (o+1)).take (n-(o+1)))):=by rw[UL hox,UL hoy,show n-o=(n-(o+1))+1 by omega,Xd,Xd];rfl
   rw[e];cases hq:xs[o]==ys[o]with
   |true=>simp only[if_true,VO];exact ih hn
   |false=>simp only[UH,if_false,Ww];exact i_ _
 |@sub o m n f fs M4 ho h t ih=>
  have hle:=t.le;obtain⟨⟨u,hu,EC⟩,⟨i,hi,du⟩,he⟩:=h;rw[Yc,hb,if_pos M4,ho];refine lW (a:=if(xs.drop o).take m==(ys.drop o).take m then .yield (none,())else .done (some false,())) ?_ ?_;refine aeF hu EC hi ?_;refine aeF hu EC hi ?_;rw[du,R3,R3];refine lW (he _ _ (by rw[Vl,Vm];omega) (by rw[Vl,Vm];omega)) ?_;cases hq:(xs.drop o).take m==(ys.drop o).take m<;>exact i_ _
  ·have e:((xs.drop o).take (n-o)==(ys.drop o).take (n-o))=(((xs.drop o).take m==(ys.drop o).take m)&&((xs.drop (o+m)).take (n-(o+m))==(ys.drop (o+m)).take (n-(o+m)))):=by
    have hs:∀zs:SD,(zs.drop o).take (n-o)=(zs.drop o).take m++(zs.drop (o+m)).take (n-(o+m)):=λzs=>by rw[show n-o=m+(n-(o+m)) by omega,axe,axL]
    rw[hs,hs,Ve,Ui,beq_iff_eq,beq_iff_eq,beq_iff_eq];exact⟨λh=>List.append_inj h (by simp[Vl,Vm];omega),λh=>by rw[h.1,h.2]⟩
   rw[e];cases hq:(xs.drop o).take m==(ys.drop o).take m with
   |true=>simp only[if_true,VO];exact ih hn
   |false=>simp only[UH,if_false,Ww];exact i_ _
def ajc{t:TypeId}{fs:Array aw7}{d n:Nat}{i:X8}(ht:P.underlying t=some (.struct fs))(hs:P.stoodInHeld t=false)(hi:P.info? t=some i)(du:i.size=n)(hf:tx P d 0 fs.toList n):F2 P (d+1) t n:=by
 refine ⟨⟨_, ht, rfl⟩, ⟨i, hi, du⟩, λxs ys hx hy => ?_⟩;rw[WI];refine Ag ht ?_;dsimp only;refine PB ?_;rw[hs];simp only [UH, if_false];rw[<- Array.forIn_toList];refine lW (a := if (xs == ys) then (none, ()) else (some false, ())) ?_ (by cases xs == ys <;> exact i_ _);have := atU (body := λf (_ : Option Bool × Unit) => if f.name ≠ "_" then (do
   let a<- part f.type (xs.map (S_ .i64)).toArray f.offset;let b<- part f.type (ys.map (S_ .i64)).toArray f.offset;let r<- WI d f.type a b
   if(!r)=true then pure (ForInStep.done (some false,()))else pure (Z7 (none,())))else pure (Z7 (none,()))) hx hy (λf s=>rfl) hf (Tv _)
 simp only[Wx,aw']at this;rw[Tu (by omega),Tu (by omega)]at this;exact this
def ajb{t:TypeId}{k0:UZ}{d:Nat}(ht:P.underlying t=some (.int k0)):F1 P (d+1) t:=⟨⟨_,ht,rfl⟩,λ_ _=>aeD ht⟩
def Dr (g:TypeId->Option (SL)):List aw7->Nat->Option Nat
 |[],o=>some o
 | f :: fs, o => if f.name ≠ "_" /\ f.offset = o then (match g f.type with
  |some none=>Dr g fs (o+1)
  |some (some m)=>Dr g fs (o+m)
  |none=>none)else none
def w5 (P:Tl):Nat->TypeId->Option (SL)
 |0,_=>none
 |d+1,t=>match P.underlying t with
  |some (.int _)=>some none
  |some (.struct fs)=>if P.stoodInHeld t then none else(match Dr (w5 P d) fs.toList 0,P.info? t with
   |some n,some i=>if i.size=n then some (some n)else none
   |_,_=>none)
  |_=>none
def Lm{d n:Nat}{g:TypeId->Option (SL)}(h1:∀t,g t=some none->F1 P d t)(h2:∀t m,g t=some (some m)->F2 P d t m):∀(fs:List aw7)(o:Nat),Dr g fs o=some n->tx P d o fs n
 |[],o,h=>by cases h;exact .nil _
 |f::fs,o,h=>by rw[Dr]at h;split at h;rename_i hc;split at h;rename_i hg;exact .one hc.1 hc.2 (h1 _ hg) (Lm h1 h2 fs _ h);rename_i m hg;exact .sub hc.1 hc.2 (h2 _ _ hg) (Lm h1 h2 fs _ h);cases h;cases h
def Ll:∀(d:Nat)(t:TypeId),(w5 P d t=some none->F1 P d t)/\∀n,w5 P d t=some (some n)->F2 P d t n
 |0,t=>⟨λh=>by simp[w5]at h,λn h=>by simp[w5]at h⟩
 |d+1,t=>by
  have ih:=λt=>Ll d t;rw[w5];split
  ·rename_i k0 hu;exact⟨λ_=>ajb hu,λn h=>by cases h⟩
  ·rename_i fs hu;split;exact⟨λh=>(by cases h),λn h=>by cases h⟩;rename_i hs;split;rename_i n i hf hi;split;rename_i du;refine⟨λh=>(by cases h),λm h=> ?_⟩;cases h;exact ajc hu (by simpa using hs) hi du (Lm (λt=>(ih t).1) (λt=>(ih t).2) _ _ hf);exact⟨λh=>(by cases h),λn h=>by cases h⟩;exact⟨λh=>(by cases h),λn h=>by cases h⟩
  ·exact⟨λh=>(by cases h),λn h=>by cases h⟩
def agi{t:TypeId}{n:Nat}{xs ys:SD}(h:w5 P 10000 t=some (some n))(hg:P.eqGuardType P.depth t=false)(hx:xs.length=n)(hy:ys.length=n)(k:SP):dx P .eql t (.agg (xs.map iv)) (.agg (ys.map iv)) k=k (bv (xs==ys)):=by
 have xA:bA P (XW t (.agg (xs.map (S_ .i64)).toArray) (.agg (ys.map (S_ .i64)).toArray)) (xs==ys):=((Ll 10000 t).2 n h).2.2 xs ys hx hy;have e:dx P .eql t (.agg (xs.map iv)) (.agg (ys.map iv)) k=((ZH=.eql\/ZH=.neq)/\au (AV.raw (.agg (xs.map iv))) λX=>au (AV.raw (.agg (ys.map iv))) λY=>yE X Y=true/\P.eqGuardType P.depth t=false/\∃e,bA P (XW t X Y) e/\k (.val (.bool (if ZH== .neq then !e else e)))):=rfl;rw[e,wj,wj,xN,xN];apply propext;constructor
 ·rintro⟨_,_,_,b,h1,h2⟩
  rw[xA.uniq h1];exact h2
 ·intro h;exact⟨.inl rfl,rfl,hg,_,xA,h⟩
def Qj{t:TypeId}{n:Nat}{xs ys:SD}(h:w5 P 10000 t=some (some n))(hg:P.eqGuardType P.depth t=false)(hx:xs.length=n)(hy:ys.length=n)(k:SP):dx P .neq t (.agg (xs.map iv)) (.agg (ys.map iv)) k=k (bv (!(xs==ys))):=by
 have xA:bA P (XW t (.agg (xs.map (S_ .i64)).toArray) (.agg (ys.map (S_ .i64)).toArray)) (xs==ys):=((Ll 10000 t).2 n h).2.2 xs ys hx hy;have e:dx P .neq t (.agg (xs.map iv)) (.agg (ys.map iv)) k=((Xh=.eql\/Xh=.neq)/\au (AV.raw (.agg (xs.map iv))) λX=>au (AV.raw (.agg (ys.map iv))) λY=>yE X Y=true/\P.eqGuardType P.depth t=false/\∃e,bA P (XW t X Y) e/\k (.val (.bool (if Xh== .neq then !e else e)))):=rfl;rw[e,wj,wj,xN,xN];apply propext;constructor
 ·rintro⟨_,_,_,b,h1,h2⟩
  rw[xA.uniq h1];exact h2
 ·intro h;exact⟨.inr rfl,rfl,hg,_,xA,h⟩
end
section
variable {lv:Bool}{P:Tl}{s:AS}{ms:SE}{bs:S5}{nt:Nat}
def uW (E:Env)(ms:SE)(bs l:S5):Prop:=l=ms.map (λi=>({target:=.collected (E.blk i),args:=#[]}:Yn))++bs/\∀i∈ms,i<E.n
def uW.mono{E E':Env}(h:E.Le E'){ms:SE}{bs l:S5}(k:uW E ms bs l):uW E' ms bs l:=
 ⟨by rw[k.1];congr 1;exact WR λi hi=>by rw[h.blk i (k.2 i hi)],λi hi=>Ug (k.2 i hi) h.n⟩
def kM (lv:Bool)(P:Tl)(nt:Nat)(bs:S5)(c:U5)(s:AS)(ms:SE)(Φ:SN):Prop:=
 ∀(E:Env)(V:View)(a:Act)(Q:SJ),At E V s a nt->uW E ms bs a.defers->(∀ae e E' V' a' s' cP,rZ E E' V V' a a'->At E' V' s' a' nt->uW E' cP bs a'.defers->pS E' ae e->Φ ae s' cP->Q e a' V')->WP lv P none c Q a V
def Gm{c:U5}{Φ:SN}(h:aW lv P none nt c s λe s'=>Φ e s' ms):kM lv P nt bs c s ms Φ:=λE V a Q ak hd hQ=>h E V a Q ak λae e E' V' a' s' hk aX he hΦ=>hQ ae e E' V' a' s' ms hk.d aX (by rw[hk.defers];exact hd.mono hk.le) he hΦ
def kM.mono{c:U5}{Φ Φ':SN}(h:kM lv P nt bs c s ms Φ)(hq:∀e s ms,Φ e s ms->Φ' e s ms):kM lv P nt bs c s ms Φ':=λE V a Q ak hd hQ=>h E V a Q ak hd λae e E' V' a' s' cP hk aX cM he hΦ=>hQ ae e E' V' a' s' cP hk aX cM he (hq _ _ _ hΦ)
def Gn{x y:U5}{Φ:SN}(h:kM lv P nt bs x s ms (ap.tj (λs' cP=>kM lv P nt bs y s' cP Φ) Φ)):kM lv P nt bs (.seq x y) s ms Φ:=by
 intro E V a Q ak hd hQ;refine wp_seq (h E V a _ ak hd λae e E' V' a' s' cP hk aX cM he hΦ=> ?_);cases ae<;>cases e<;>first
  |exact he.elim
  |exact hΦ E' V' a' Q aX cM λae e bZ aZ cD dw EZ aO dt Bq kE uy=>hQ ae e bZ aZ cD dw EZ (hk.trans aO) dt Bq kE uy
  |exact hQ _ _ E' V' a' s' cP hk aX cM he hΦ
def tN{x y:U5}{Φ:SN}(h:aW lv P none nt x s (ap.then (λs'=>kM lv P nt bs y s' ms Φ) λe s'=>Φ e s' ms)):kM lv P nt bs (.seq x y) s ms Φ:=by refine Gn (Gm (h.mono λe s' hs=> ?_));cases e<;>exact hs
def yu{id:Nat}{c:U5}{Φ:SN}(h:kM lv P nt bs c s ms (ap.qY id Φ)):kM lv P nt bs (.block id c) s ms Φ:=by
 intro E V a Q ak hd hQ;refine wp_block (h E V a _ ak hd λae e E' V' a' s' cP hk aX cM he hΦ=> ?_);cases ae<;>cases e<;>first
  |exact he.elim
  |skip
 ·exact hQ .normal .normal E' V' a' s' cP hk aX cM trivial hΦ
 ·rename_i i j;have e:i=j:=he;subst e;by_cases b_:i=id;simp only[Ex.inBlock,b_,if_true];simp only[ap.qY,b_,if_true]at hΦ;exact hQ .normal _ E' V' a' s' cP hk aX cM trivial hΦ;simp only[Ex.inBlock,b_,if_false];simp only[ap.qY,b_,if_false]at hΦ;exact hQ (.exit i) _ E' V' a' s' cP hk aX cM rfl hΦ
 ·exact hQ _ _ E' V' a' s' cP hk aX cM he hΦ
 ·exact hQ _ _ E' V' a' s' cP hk aX cM he hΦ
 ·exact hQ _ _ E' V' a' s' cP hk aX cM he hΦ
def QR{α:Type}{lt:α->α->Prop}(wf:WellFounded lt){c:U5}{Φ:SN}(inv:α->AS)(mk:α->SE)(ok:α->Prop)(m:α)(h0:s.Sub (inv m))(vO:ms=mk m)(hm:ok m)
  (h:∀m,ok m->kM lv P nt bs c (inv m) (mk m) (ap.tj (λs' cP=>∃m',lt m' m/\ok m'/\s'.Sub (inv m')/\cP=mk m') Φ)):kM lv P nt bs (.loop c) s ms Φ:=by
 subst vO;intro E V a Q ak hd hQ;refine PU wf (I:=λm a' V'=>ok m/\∃E',rZ E E' V V' a a'/\At E' V' (inv m) a' nt/\uW E' (mk m) bs a'.defers) m ⟨hm,E,(Kept.refl E V a).d,ak.sub h0,hd⟩ λm a' V' hI=> ?_;obtain⟨an,E',hk,aX,cM⟩:=hI;refine h m an E' V' a' _ aX cM λae e bZ aZ cD dw EZ aO dt Bq he hΦ=> ?_;cases ae<;>cases e<;>first
  |exact he.elim
  |(obtain⟨m',h1,h2,h3,rfl⟩:=hΦ
    exact⟨m',h1,h2,bZ,hk.trans aO,dt.sub h3,Bq⟩)
  |exact hQ _ _ bZ aZ cD dw EZ (hk.trans aO) dt Bq he hΦ
def ahw{f:Up}{ps:TE}{bS body:U5}{fv:AV}{Φ:SN}(hf:s.ev f=some fv)
  (h:∀l fn:Nat,fh lv P fv (s.H++[.obj (.deferred (some [])),.loop l .ready none fn s.T nt ps bS body s.H.length]) [.fn (.yield l) [] []]
   (λ_ H'=>∃st pe gr T' jI hO gT fQ gV,H'[s.H.length+1]?=some (.loop l st pe gr T' jI hO gT fQ gV)/\st≠ .busy/\tI Φ ⟨s.T,H'.set (s.H.length+1) .gone⟩ (s.H.length::ms) pe)
   (λpv H'=>Φ (.panic pv) ⟨s.T,H'⟩ (s.H.length::ms))):kM lv P nt bs (.rangeFunc f ps bS body) s ms Φ:=by
 intro E V a Q ak hm hQ;refine aff λfn d l hd hl=> ?_;have hc:=ak.bx;have cV:Conc (E.add d V.ah) (V.upd d (.deferred (some []))) (s.H++[.obj (.deferred (some []))]):=by refine hc.add hd _ ⟨?_,rfl,rfl,λo=> ?_⟩ (λb e=> ?_);rw[Env.dP];simp[View.upd];rw[Env.dP];exact hd.2 o;simp only[bP,Env.dP,Ul]at e;exact e.symm
 have Eg:E.Le (E.add d V.ah):=E.qE d (λb o v h=>by rw[<- hc.I];exact h);have DY:(E.add d V.ah).blk s.H.length=d:=by rw[<- hc.n];exact E.dP d _
 let E1:=E.add d V.ah;let V1:=V.upd d (.deferred (some []));have qu:E1.n=s.H.length+1:=by rw[cV.n];simp
 have rB:E1.Le (E1.add l V1.ah):=E1.qE l (λb o v h=>by rw[<- cV.I];exact h);have cg:Conc (E1.add l V1.ah) (V1.upd l (.loop {state:=.ready,pending:=none,fn,tmps:=a.tmps,params:=ps,assign:=bS,body,defers:=d})) ((s.H++[.obj (.deferred (some []))])++[.loop l .ready none fn s.T nt ps bS body s.H.length]):=by refine cV.add hl _ ⟨⟨a.tmps,?_,ak.size,(ak.tok.mono Eg).mono rB⟩,?_,λo=> ?_,?_⟩ (λb e=> ?_);have e:(E1.add l V1.ah).blk s.H.length=d:=(by rw[rB.blk s.H.length (by rw[qu];omega)];exact DY);rw[e,Env.dP];simp[View.upd];show s.H.length<E1.n+1;omega;rw[Env.dP];exact hl.2 o;exact Env.dP _ _ _;simp only[bP,Env.dP,Ul]at e;exact e.symm
 have hle:E.Le (E1.add l V1.ah):=Eg.trans rB;have Md:(E1.add l V1.ah).blk s.H.length=d:=by rw[rB.blk s.H.length (by rw[qu];omega)];exact DY
 rw[Ev]at cg;have sK:∀E',(E1.add l V1.ah).Le E'->uW E' (s.H.length::ms) bs (mark a d).defers:=λE' hE=>by refine uW.mono hE ⟨?_,λi hi=> ?_⟩;have:=(hm.mono hle).1;simp only[mark,VN,Md,WX];rw[<- this];rcases Tm.1 hi with rfl|hi;show _<E1.n+1;omega;exact Ug (hm.2 i hi) hle.n
 have bC:=ay.ev ak.tok hf;have D2:=h l fn (E1.add l V1.ah) (V1.upd l (.loop {state:=.ready,pending:=none,fn,tmps:=a.tmps,params:=ps,assign:=bS,body,defers:=d})) (a.eval f) #[.func (.yield l) #[] #[]] cg (bC.mono hle) ⟨rfl,λi x hx=>by
  match i,hx with
  |0,hx=>cases hx;exact .fn rfl rfl (by simp) (by simp)⟩
 have key:∀o V',gR (E1.add l V1.ah) (V1.upd l (.loop {state:=.ready,pending:=none,fn,tmps:=a.tmps,params:=ps,assign:=bS,body,defers:=d}))
   (λ_ H'=>∃st pe gr T' jI hO gT fQ gV,H'[s.H.length+1]?=some (.loop l st pe gr T' jI hO gT fQ gV)/\st≠ .busy/\tI Φ ⟨s.T,H'.set (s.H.length+1) .gone⟩ (s.H.length::ms) pe)
   (λpv H'=>Φ (.panic pv) ⟨s.T,H'⟩ (s.H.length::ms)) o V'->F8 l d Q a o V':=by
  intro o V' hr;cases o with
  |ret v=>
   obtain⟨av,E',H',hE,cr,fB,_,bu,st,pe,gr,T',jI,hO,gT,fQ,gV,b_,aU,hp⟩:=hr;obtain⟨de,oo,rT,bl,Nu,t_,ut⟩:=bu.Ac b_;refine⟨_,bl,oo,aU,?_⟩;have hg:Conc E' (V'.upd l (.loop {state:=.exhausted,pending:=pe,fn:=gr,tmps:=rT,params:=hO,assign:=gT,body:=fQ,defers:=E'.blk gV})) (H'.set (s.H.length+1) .gone):=bu.Fy _ b_ _ (by simp only[bP,de]);have aX:At E' (V'.upd l (.loop {state:=.exhausted,pending:=pe,fn:=gr,tmps:=rT,params:=hO,assign:=gT,body:=fQ,defers:=E'.blk gV})) ⟨s.T,H'.set (s.H.length+1) .gone⟩ (mark a d) nt:=⟨hg,ak.tok.mono (hle.trans hE),ak.size⟩;have dX:rZ E E' V (V'.upd l (.loop {state:=.exhausted,pending:=pe,fn:=gr,tmps:=rT,params:=hO,assign:=gT,body:=fQ,defers:=E'.blk gV})) a (mark a d):=⟨hle.trans hE,rfl,cr,fB⟩;dsimp only
   match pe,hp,aX,dX with
   |none,hp,aX,dX=>exact hQ .normal .normal E' _ _ _ _ dX aX (sK E' hE) trivial hp
   |some .ret,hp,aX,dX=>exact hQ .ret .ret E' _ _ _ _ dX aX (sK E' hE) trivial hp
   |some (.exit i),hp,aX,dX=>exact hQ (.exit i) (.exit i) E' _ _ _ _ dX aX (sK E' hE) rfl hp
   |some (.goto i),hp,aX,dX=>exact hQ (.goto i) (.goto i) E' _ _ _ _ dX aX (sK E' hE) rfl hp
  |panic ch=>obtain⟨pv,v,E',H',rfl,hE,cr,fB,bm,bu,hp⟩:=hr;exact hQ (.panic pv) (.panic _) E' V' (mark a d) ⟨s.T,H'⟩ _ ⟨hle.trans hE,rfl,cr,fB⟩ ⟨bu,ak.tok.mono (hle.trans hE),ak.size⟩ (sK E' hE) ⟨v,rfl,bm⟩ hp
 exact D2.mono (λnx V' hn=>Nx.mono key hn) (λv V' hr=>key _ _ hr)
@[congr] theorem av1 {c : U5} {s s' : AS} {ms cP : SE} {Φ : ap -> AS -> SE -> Prop} (h : s = s') (hd : ms = cP) : kM lv P nt bs c s ms Φ = kM lv P nt bs c s' cP Φ := by rw[h, hd]
def u5 (lv:Bool)(P:Tl)(fn:aw5)(R:SU):List Yn->Wp->Array T9->View->Prop
 |[],.returning,tmps,V=>∃v,aT P V (results fn tmps) (λx V'=>x=v/\V'=V) (λ_ _=>False)/\R (.ret v) V
 |[],.panicking ch,_,V=>R (.panic ch) V
 |d::ds,md,tmps,V=>(md matches .run)=false/\((∃b,d={target:=.collected b,args:=#[]}/\V.own b=some (.deferred (some []))/\V.role.chan≠some b/\u5 lv P fn R ds md tmps (V.upd b (.deferred none)))\/
   ((∃f c9,d.target=.fn f c9)/\aT P V (invoke d.target d.args) (λnx V'=>∃g args,nx=.enter g args/\Ao lv P g args md V' λoK aZ=>u5 lv P fn R ds oK tmps aZ) (λ_ _=>False)))
 |[],.run,_,_=>False
def FM{f:UR}{fn:aw5}{kd:Yr}{R:SU}(hf:P.funcs[f]?=some fn){main:Bool}{J:SM}(C:Closed lv P main J){cs:SX}(hR:∀o V' Dt,R o V'->Leaves P Dt f kd o V'->J V' (G Dt cs)):∀(ds:S5)(md:Wp)(V:View)(fr:VM),fr.fn=f->fr.kind=kd->fr.mode=md->fr.defers=ds->u5 lv P fn R ds md fr.tmps V->J V (G fr cs)
 |[],.returning,V,fr,h1,h2,h3,h4,h=>by obtain⟨v,hs,hr⟩:=h;exact hR _ _ _ hr ⟨h1,h4,h2,fn,hf,h3,hs⟩
 |[],.panicking ch,V,fr,h1,h2,h3,h4,h=>hR _ _ _ h ⟨h1,h4,h2,fn,hf,h3⟩
 |[],.run,_,_,_,_,_,_,h=>h.elim
 |d::ds,md,V,fr,h1,h2,h3,h4,h=>by
  obtain⟨hm,⟨b,rfl,ho,fA,hu⟩|⟨⟨tf,c9,ht⟩,hs⟩⟩:=h
  ·refine C.step _ _ rfl λw hw=> ?_;obtain⟨es,w',V',k1,k2,k3⟩:=(Pq (P:=P) ho fA).runs hw;rcases k3 with⟨x,k3,rfl,rfl⟩|⟨_,_,hx⟩
   ·refine⟨G {fr with defers:=ds} cs,w',seen P fr.fn es,_,?_,k1.seen P fr.fn,?_⟩
    ·have e:∀main,stepG P main (G fr cs) w=unwind P main fr cs none w:=λmain=>by
      cases md with
      |run=>cases hm
      |returning=>simp[G,stepG,h3]
      |panicking ch=>simp[G,stepG,h3]
     rw[e];simp only[unwind,h4];simp[UE,k3,k2,U3,G]
    ·exact FM hf C hR ds md _ {fr with defers:=ds} h1 h2 h3 rfl hu
   ·exact hx.elim
  ·refine C.step _ _ rfl λw hw=> ?_;obtain⟨es,w',V',k1,k2,k3⟩:=hs.runs hw;rcases k3 with⟨nx,k3,g,args,rfl,hd⟩|⟨_,_,h⟩
   ·refine⟨G (Frame.enter P g args .deferred) ({fr with defers:=ds}::cs),w',seen P fr.fn es,V',?_,k1.seen P fr.fn,?_⟩
    ·have e:∀main,stepG P main (G fr cs) w=unwind P main fr cs none w:=λmain=>by
      cases md with
      |run=>cases hm
      |returning=>simp[G,stepG,h3]
      |panicking ch=>simp[G,stepG,h3]
     rw[e];obtain⟨tgt,ar⟩:=d;simp only at ht k3 k2;subst ht;simp only[unwind,h4];simp[callDeferred,UE,k3,k2,U3,G]
    ·refine hd main J C {fr with defers:=ds} cs h3 λoK aZ hU=> ?_;exact FM hf C hR ds oK aZ {fr with defers:=ds,mode:=oK} h1 h2 rfl rfl hU
   ·exact h.elim
def afv (lv:Bool)(P:Tl)(fn:aw5)(R:SU):Ex->Act->View->Prop
 |.normal,a,V|.ret,a,V=>u5 lv P fn R a.defers .returning a.tmps V
 |.panic ch,a,V=>u5 lv P fn R a.defers (.panicking ch) a.tmps V
 |_,_,_=>False
def ah0{f:UR}{fn:aw5}{c:U5}{args:SG}{kd:Yr}{V:View}{R:SU}(hk:kd≠ .early)(hf:P.funcs[f]?=some fn)(hb:fn.body=some c)
  (h:WP lv P none c (afv lv P fn R) {tmps:=args++US (fn.ntmps-args.size) undef,defers:=[]} V):Body lv P f args kd V R:=by
 intro main J C cs hR;let b:VM:={(default:VM)with fn:=f,kind:=kd,roundOf:=none};have vD:Frame.enter P f args kd=on b {tmps:=args++US (fn.ntmps-args.size) undef,defers:=[]} [.code c]:=by simp[Frame.enter,on,hf,hb,b]
 rw[vD];refine h main J C b [] cs hk rfl λe a' V' q=> ?_;cases e with
 |normal=>exact C.idle rfl (λw=>Fv rfl) (FM hf C hR _ _ _ _ rfl rfl rfl rfl q)
 |ret=>intro k;exact C.idle rfl (λw=>Fw rfl) (FM hf C hR _ _ _ _ rfl rfl rfl rfl q)
 |panic ch=>intro todo _;exact FM hf C hR _ _ _ _ rfl rfl rfl rfl q
 |exit id=>exact q.elim
 |goto l=>exact q.elim
def ae4{fn:aw5}{R:SU}{tmps:SG}{md:Wp}(hm:(md matches .run)=false):∀(ms:SE)(H H':SA)(E:Env)(V:View)(l:S5),jd ms H=some H'->Conc E V H->uW E ms bs l->(∀V',V'.role=V.role->V'.deaf=V.deaf->Conc E V' H'->u5 lv P fn R bs md tmps V')->u5 lv P fn R l md tmps V
 |[],H,H',E,V,l,hg,hc,ox,hk=>by rw[jd]at hg;cases hg;have:l=bs:=ox.1;subst this;exact hk V rfl rfl hc
 |i::ms,H,H',E,V,l,hg,hc,ox,hk=>by simp only[jd]at hg;split at hg;rename_i hi;obtain⟨e,hlt⟩:=ox;simp only[VN,WX]at e;subst e;obtain⟨p1,p2,p3,p4⟩:=hc.obj i _ hi;exact⟨hm,.inl ⟨_,rfl,p1,(hc.jq hi rfl).2,ae4 hm ms _ H' E _ _ hg (hc.Fy _ hi _ rfl) ⟨rfl,λj hj=>hlt j (by simp[hj])⟩ λV' h1 h2 h3=>hk V' h1 h2 h3⟩⟩;cases hg
def Au (lv:Bool)(P:Tl)(rs:SW)(n:Nat)(c:AV×SC)(k kp:SF):ap->AS->SE->Prop
 |.normal,s,ms|.ret,s,ms=>au (jd ms s.H) λH'=>rV lv P c H' none (λH'=>au (iF P ⟨s.T,H'⟩ rs) λl=>cz n H' (jr l) k) (λ_=>False)
 |.panic pv,s,ms=>au (jd ms s.H) λH'=>rV lv P c H' (some pv) (λH'=>au (iF P ⟨s.T,H'⟩ rs) λl=>cz n H' (jr l) k) (λH'=>cz n H' pv kp)
 |_,_,_=>False
end
end Go.Gg
namespace Go.Gg.Tk
structure eX where
 min:Int
 max:Int
 deriving DecidableEq
structure aD where
 number:eX
 hour:eX
 deriving DecidableEq
structure Seen where
 hour:Int
 next:eX
 deriving DecidableEq
structure aj where
 first:Int
 hours:Int
 am:Int
 seen:List Seen
 pieces:List aD
 aq:List aD
 deriving DecidableEq
def ec (b:eX)(n:Int):Bool:=decide (b.min<=n)&&decide (n<=b.max)
def eW:Nat->SD->Int->Int
 |i,a::b::l,n=>if a<=n/\n<b then i else eW (i+1) (b::l) n
 |_,_,_=> -1
def ff (h:SD)(n:Int):Int:=eW 0 h n
def fits (h:SD)(y:aD)(n:Int):Bool:=decide (0<=ff h n)&&ec y.number n&&ec y.hour (ff h n)
def qK (x:aj)(hour:Nat)(n:Int):Bool:=x.seen.all λs=> !decide (s.hour=hour)||ec s.next n
def eG (x:aj):Nat->SD->List (SD)
 |0,pre=>if qK x (pre.length-1) (pre.getLastD 0)then[pre]else[]
 |d+1,pre=>if qK x (pre.length-1) (pre.getLastD 0)then(Tt (x.am.toNat+1)).flatMap λn:Nat=>eG x d (pre++[pre.getLastD 0+(n:Int)])else[]
def aQ (x:aj):List (SD):=eG x x.hours.toNat [x.first]
def xo (x:aj)(t:Nat):List (SD):=if qK x 0 x.first then eG x (x.hours.toNat-1) [x.first,x.first+t]else[]
def xJ (h:SD):SD:=(Tt (h.getLastD 0-h.headD 0).toNat).map λi:Nat=>h.headD 0+i
def kJ (h:SD):List aD->SD->List (SD)
 |[],t=>[t]
 |y::ys,t=>((xJ h).filter λn=>fits h y n&& !t.contains n).flatMap λn=>kJ h ys (t++[n])
def ld (h:SD)(ns:SD):List aD->SE->List (SE)
 |[],t=>[t]
 |s::ss,t=>((Tt ns.length).filter λp=>fits h s (ns.getD p 0)&& !t.contains p).flatMap λp=>ld h ns ss (t++[p])
structure Tr where
 bG:SD
 aC:SD
 bL:SE
 deriving DecidableEq
def FK (x:aj)(h ns:SD):List Tr:=(ld h ns x.aq []).map λos=>⟨h,ns,os⟩
def nO (x:aj)(h:SD):List Tr:=(kJ h x.pieces []).flatMap (FK x h)
def cR (x:aj):List Tr:=(aQ x).flatMap (nO x)
def wy (x:aj)(h:SD):List Tr:=(kJ h x.pieces []).flatMap λns=>(FK x h ns).take 1
def tn (x:aj)(deep:Int)(h:SD):List Tr:=if deep=0 then(wy x h).take 1 else if deep=1 then wy x h else nO x h
def Jw (x:aj)(deep:Int)(t:Nat):List Tr:=(xo x t).flatMap (tn x deep)
def aeT{i:Nat}:∀{h:SD}{n:Int},eW i h n<i+h.length:=by
 intro h;induction h generalizing i with
 |nil=>intro n;simp[eW];omega
 |cons a h ih=>
  intro n;cases h with
  |nil=>simp[eW];omega
  |cons b l=>simp only[eW];split;simp;omega;have:=ih (i:=i+1) (n:=n);simp at this⊢;omega
def PH{i k:Nat}{z:Int}:∀{h:SD}{n:Int},h.getLastD z=z->h≠[]->eW i (h++UQ k z) n=eW i h n:=by
 intro h;induction h generalizing i with
 |nil=>intro n _ h;exact absurd rfl h
 |cons a h ih=>
  intro n hz _;cases h with
  |nil=>
   simp only[ap_,List.getLastD_nil]at hz;subst hz;have:∀(k i:Nat),eW i ([a]++UQ k a) n= -1:=by
    intro k;induction k with
    |zero=>intro i;simp[eW]
    |succ k ihk=>intro i;rw[XE,Z'];simp only[eW];rw[if_neg (by omega)];exact ihk (i+1)
   rw[this];simp[eW]
  |cons b l=>have:=ih (i:=i+1) (n:=n) (by simpa using hz) (by simp);simp only[WX,eW]at this⊢;rw[this]
end Go.Gg.Tk
namespace Go.Gg.Tk
inductive dN (S:Type)where
 |go (s:S)
 |stop (s:S)
 |bad (s:S)
def bI {S α:Type}(f:S->α->dN S):List α->S->dN S
 |[],s=> .go s
 |a::l,s=>match f s a with
  |.go s'=>bI f l s'
  |r=>r
def rQ{S α:Type}(f:S->α->dN S):∀(l m:List α)(s:S),bI f (l++m) s=match bI f l s with
  |.go s'=>bI f m s'
  |r=>r
 |[],m,s=>rfl
 |a::l,m,s=>by
  simp only[WX,bI];cases f s a with
  |go s'=>exact rQ f l m s'
  |stop s'=>rfl
  |bad s'=>rfl
def Pl{S α:Type}(f:S->α->dN S)(a:α)(s:S):bI f [a] s=f s a:=by simp only[bI];cases f s a<;>rfl
def Fu{S α:Type}{f:S->α->dN S}{g:S->α->S}(h:∀s a,f s a=.go (g s a)):∀(l:List α)(s:S),bI f l s=.go (l.foldl g s)
 |[],s=>rfl
 |a::l,s=>by simp only[bI,h,Wd];exact Fu h l _
def Cf{S α:Type}{f:S->α->dN S}{I:S->Prop}{A:α->Prop}(h:∀s a s',I s->A a->f s a=.go s'->I s'):∀(l:List α)(s s':S),(∀a∈l,A a)->I s->bI f l s=.go s'->I s'
 |[],s,s',_,hs,e=>by cases e;exact hs
 |a::l,s,s',ha,hs,e=>by
  simp only[bI]at e;cases hf:f s a with
  |go s1=>rw[hf]at e;exact Cf h l s1 s' (λb hb=>ha b (by simp[hb])) (h s a s1 hs (ha a (by simp)) hf) e
  |stop s1=>rw[hf]at e;cases e
  |bad s1=>rw[hf]at e;cases e
def cT (h:SD):SD:=h++UQ (4-h.length) (h.getLastD 0)
def nE (x:aj)(bw:Nat):Nat->SD->List (SD)
 |0,pre=>if qK x (pre.length-1) (pre.getLastD 0)then[cT pre]else[]
 |d+1,pre=>if qK x (pre.length-1) (pre.getLastD 0)then(Tt (x.am.toNat+1)).flatMap λn:Nat=>if pre.length=1/\n≠bw then[]else nE x bw d (pre++[pre.getLastD 0+(n:Int)])else[]
def kV (x:aj)(bw:Nat):List (SD):=nE x bw x.hours.toNat [x.first]
def l7 (h:SD)(y:aD)(n:Nat):Bool:=decide (h.getD 0 0+n<h.getD 3 0)&&ec y.number (h.getD 0 0+n)&&ec y.hour (ff h (h.getD 0 0+n))
def jS (p:Nat->Bool):Nat->Nat
 |0=>0
 |n+1=>if p n then jS p n|||2^n else jS p n
def Dd{p:Nat->Bool}:∀{n i:Nat},(jS p n).testBit i=(decide (i<n)&&p i)
 |0,i=>by simp[jS]
 |n+1,i=>by have ih:=Dd (p:=p) (n:=n) (i:=i);simp only[jS];by_cases hp:p n=true;rw[if_pos hp,YD,ih,Xc];by_cases hi:n=i;subst hi;simp[hp];have:(i<n+1)<->i<n:=(by omega);simp[hi,this];rw[if_neg hp,ih];by_cases hi:i=n;subst hi;simp at hp;simp[hp];have:(i<n+1)<->i<n:=(by omega);simp[this]
def Gq{p:Nat->Bool}:∀{n:Nat},jS p n<2^n
 |0=>by simp[jS]
 |n+1=>by have ih:=Gq (p:=p) (n:=n);have h1:2^n<2^(n+1):=Yo (by omega) (by omega);simp only[jS];split;exact XT (Xx ih h1) h1;exact Xx ih h1
def cq (h:SD)(y:aD):Nat:=jS (l7 h y) 9
def lc:SE->Nat->SE->List (SE)
 |[],_,t=>[t]
 |q::qs,used,t=>(Tt 9).flatMap λn=>if used.testBit n|| !q.testBit n then[]else lc qs (used|||2^n) (t++[n])
def mV (k:Nat)(ns:SE):SE->Nat->SE->List (SE)
 |[],_,o=>[o]
 |q::qs,given,o=>(Tt k).flatMap λp=>if given.testBit p|| !q.testBit (ns.getD p 0)then[]else mV k ns qs (given|||2^p) (o++[p])
def lU (k:Nat)(l:SE):SD:=l.map (λn:Nat=>(n:Int))++UQ (k-l.length) (-1)
def ee (h:SD)(ns:SE):SD:=h++lU 4 ns++[-1, -1, -1]
def dM (h:SD)(ns os:SE):SD:=h++lU 4 ns++lU 3 os
def gM (x:aj)(h:SD):List (SE):=lc (x.pieces.map (cq h)) 0 []
def iS (x:aj)(h:SD)(ns:SE):List (SE):=mV x.pieces.length ns (x.aq.map (cq h)) 0 []
def jN (x:aj)(deep:Int)(h:SD):List (SD):=
 let all:=(gM x h).map λns=>(iS x h ns).map λos=>dM h ns os
 if deep=0 then all.flatten.take 1 else if deep=1 then(all.map (·.take 1)).flatten else all.flatten
end Go.Gg.Tk
namespace Go.Gg.Tk
structure Kn where
 has:Bool
 aQ:List (SD)
 aC:SE
 hours:SE
 less:SE
 bc:SE
 first:SD
def Kn.zero:Kn:=⟨false,[],[0,0,0,0],[0,0,0,0],[0,0,0,0],[0,0,0],UQ 11 0⟩
def pZ (l:SE)(p n:Nat):SE:=l.set p (l.getD p 0|||2^n)
abbrev SS:=List (SD)
def j3 (hs:SS)(h:SD):List (SD):=if h∈hs then hs else hs++[h]
def mY (t:SD)(p:Nat):Nat:=(t.getD (4+p) 0).toNat
def FF (t:SD)(p:Nat):Nat:=(ff (t.take 4) (t.getD (4+p) 0+t.getD 0 0)).toNat
def tg (t:SD)(s:Nat):Nat:=(t.getD (8+s) 0).toNat
def j_ (F:Kn)(t:SD):Kn:=if F.has then F else{F with has:=true,first:=t}
def nL (t:SD):Nat->SE->SE
 |0,l=>l
 |s+1,l=>pZ (nL t s l) s (tg t s)
def s7 (t:SD):Nat->SE->SE
 |0,l=>l
 |p+1,l=>pZ (s7 t p l) p (mY t p)
def xy (t:SD):Nat->SE->SE
 |0,l=>l
 |p+1,l=>pZ (xy t p l) p (FF t p)
def xH (t:SD)(p:Nat):Nat->SE->SE
 |0,l=>l
 |q+1,l=>if t.getD (4+p) 0<t.getD (4+q) 0 then pZ (xH t p q l) p q else xH t p q l
def zJ (t:SD)(k:Nat):Nat->SE->SE
 |0,l=>l
 |p+1,l=>xH t p k (zJ t k p l)
def eV (x:aj)(deep:Int)(F:Kn)(t:SD):Kn:=
 let F:=j_ F t
 if deep=2 then{F with bc:=nL t x.aq.length F.bc}
 else if deep=0 then{F with aQ:=j3 F.aQ (t.take 4)}
 else{F with aC:=s7 t x.pieces.length F.aC,hours:=xy t x.pieces.length F.hours,less:=zJ t x.pieces.length x.pieces.length F.less}
def iz (x:aj)(deep:Int)(bw:Nat):Kn:=((kV x bw).flatMap (jN x deep)).foldl (eV x deep) Kn.zero
def mq (l m:SE):SE:=(List.zipWith (·|||·) l m)
end Go.Gg.Tk
namespace Go.Gg
open Go.Conc Go.Gg.Tk
def Jy{n:Nat}(h:n<65536):Ua.wrap (n:Int)=n:=by have h1:Ua.bits=16:=rfl;have h2:Ua.signed=false:=rfl;unfold Ze;rw[h1,h2];simp;omega
def Dg{n:Nat}(h:n<65536):(Va Ua.bits (n:Int)).toNat=n:=by have h1:Ua.bits=16:=rfl;rw[h1,BitVec.ofInt_natCast,BitVec.toNat_ofNat];omega
def alY{m n:Nat}(hm:m<65536):(Ua.wrap (Va Ua.bits ((m:Int).fdiv (2^(min n Ua.bits)))&&&Va Ua.bits 1).toNat==1)=m.testBit n:=by
 have h1:Ua.bits=16:=rfl;have e:(m:Int).fdiv (2^(min n Ua.bits))=((m/2^(min n 16):Nat):Int):=by rw[h1,Int.fdiv_eq_ediv_of_nonneg _ (by exact_mod_cast YS _)];norm_cast
 have hlt:m/2^(min n 16)<65536:=ak_ (Nat.div_le_self _ _) hm;rw[e,BitVec.toNat_and,Dg hlt,show (Va Ua.bits 1).toNat=1 from rfl,Jy (ak_ Nat.and_le_left hlt)];have hb:m/2^(min n 16)&&&1=(m/2^(min n 16)) % 2:=Nat.and_one_is_mod _;rw[hb];have ht:m.testBit n=decide (m/2^n % 2=1):=Nat.testBit_eq_decide_div_mod_eq;by_cases hn:n<=16;rw[Wa hn,ht];by_cases h:m/2^n % 2=1;simp[h];have:m/2^n % 2=0:=(by omega);simp[this]
 ·rw[Nat.min_eq_right (by omega)];have h0:m/2^16=0:=Nat.div_eq_of_lt (by omega);have h2:m.testBit n=false:=Nat.testBit_lt_two_pow (Ug hm (by calc 65536=2^16:=rfl
   _<=2^n:=XL (by omega) (by omega)))
  rw[h0,h2];rfl
def auX{m n:Nat}(hm:m<65536)(hn:n<16):Ua.wrap (Va Ua.bits (m:Int)|||Va Ua.bits (Ua.wrap (1* 2^(min n Ua.bits)))).toNat=((m|||2^n:Nat):Int):=by
 have h1:Ua.bits=16:=rfl;have hp:2^n<65536:=by calc 2^n<2^16:=Yo (by omega) hn
  _=65536:=rfl
 have e:Ua.wrap (1* 2^(min n Ua.bits))=((2^n:Nat):Int):=by rw[h1,Wa (by omega),Int.one_mul,<- Jy hp];norm_cast
 rw[e,apH,Dg hm,Dg hp];exact Jy (XT (n:=16) hm hp)
def IS{m n:Nat}(hm:m<65536)(hn:n<65536):Ua.wrap (Va Ua.bits (m:Int)|||Va Ua.bits (n:Int)).toNat=((m|||n:Nat):Int):=by rw[apH,Dg hm,Dg hn];exact Jy (XT (n:=16) hm hn)
def qI{m n:Nat}(hm:m<65536)(hn:n<65536):m|||n<65536:=XT (n:=16) hm hn
def x7{n:Nat}(hn:n<16):2^n<65536:=by calc 2^n<2^16:=Yo (by omega) hn
  _=65536:=rfl
abbrev wv (m:Nat):AV:=.val (.int .u16 m)
def db {S:Type}(Gf:S->SA)(pv:AV)(k kp:SF)(M:SA):dN S->Prop
 |.go s=>k (.val (.bool true)) (Gf s++M)
 |.stop s=>k (.val (.bool false)) (Gf s++M)
 |.bad s=>kp pv (Gf s++M)
def gQ {S:Type}(Gf:S->SA)(pv:AV)(k kp:SF)(M:SA):dN S->Prop
 |.go s=>k (.aJ []) (Gf s++M)
 |.stop s=>k (.aJ []) (Gf s++M)
 |.bad s=>kp pv (Gf s++M)
structure j8 (lv:Bool)(P:Tl)(yv:AV){S:Type}(f:S->SD->dN S)(Gf:S->SA)(N:Nat)(I:S->Prop)(A:SD->Prop)(pv:AV):Prop where
 call:∀(σ:S)(a:SD)(M:SA)(k kp:SF),I σ->A a->db Gf pv k kp M (f σ a)->fh lv P yv (Gf σ++M) [.agg (a.map λn=> .val (.int .i64 n))] k kp
 inv:∀σ a σ',I σ->A a->f σ a=.go σ'->I σ'
 len:∀σ,(Gf σ).length=N
 ok:∀m σ σ',(∀z∈Gf σ,fw m z)->∀z∈Gf σ',fw m z
 sure:yv.sure=true
 parts:yv.parts=some [yv]
 leaf:yv.leaf=true
def j8.get{lv:Bool}{P:Tl}{yv:AV}{S:Type}{f:S->SD->dN S}{Gf:S->SA}{N:Nat}{I:S->Prop}{A:SD->Prop}{pv:AV}(h:j8 lv P yv f Gf N I A pv)(σ:S)(L:SA)(i:Nat):(Gf σ++L)[N+i]?=L[i]?:=by rw[<- h.len σ,Uc (by omega)];congr 1;omega
def j8.set{lv:Bool}{P:Tl}{yv:AV}{S:Type}{f:S->SD->dN S}{Gf:S->SA}{N:Nat}{I:S->Prop}{A:SD->Prop}{pv:AV}(h:j8 lv P yv f Gf N I A pv)(σ:S)(L:SA)(i:Nat)(x:aa):(Gf σ++L).set (N+i) x=Gf σ++L.set i x:=by rw[<- h.len σ,Vg _ _ (by omega)];congr 2;omega
def j8.an{lv:Bool}{P:Tl}{yv:AV}{S:Type}{f:S->SD->dN S}{Gf:S->SA}{N:Nat}{I:S->Prop}{A:SD->Prop}{pv:AV}(h:j8 lv P yv f Gf N I A pv){σ:S}{M:SA}(hH:bJ (Gf σ++M))(σ':S):bJ (Gf σ'++M):=λz hz=>by
 have hl:(Gf σ'++M).length=(Gf σ++M).length:=by simp[h.len]
 rw[hl];rcases T1.1 hz with h'|h';exact h.ok _ σ σ' (λw hw=>hH w (Uk _ hw)) z h';exact hH z (T7 _ h')
def tE (l:Nat)(S:Nat->AS)(ok:S7)(m:Nat)(Φ:SI):ap->AS->Prop
 |.goto l',s=>l'=l/\∃m',m'<m/\ok m'/\s.Sub (S m')
 |e,s=>Φ e s
section
variable {lv:Bool}{P:Tl}{r:SL}{s:AS}
end
def ao9(l:Nat)(S:Nat->AS)(ok:S7)(m:Nat)(Φ:SI)(s:AS):tE l S ok m Φ .normal s=Φ .normal s:=by rw[tE];simp
def apb(l:Nat)(S:Nat->AS)(ok:S7)(m:Nat)(Φ:SI)(s:AS):tE l S ok m Φ .ret s=Φ .ret s:=by rw[tE];simp
def ao8(l:Nat)(S:Nat->AS)(ok:S7)(m:Nat)(Φ:SI)(i:Nat)(s:AS):tE l S ok m Φ (.exit i) s=Φ (.exit i) s:=by rw[tE];simp
def apa(l:Nat)(S:Nat->AS)(ok:S7)(m:Nat)(Φ:SI)(a:AV)(s:AS):tE l S ok m Φ (.panic a) s=Φ (.panic a) s:=by rw[tE];simp
@[congr] theorem awD {l m : Nat} {S : Nat -> AS} {ok : Nat -> Prop} {s s' : AS} {Φ : ap -> AS -> Prop} {e e' : ap} (he : e = e') (h : s = s') : tE l S ok m Φ e s = tE l S ok m Φ e' s' := by rw[he, h]
attribute [seval] ao9 apb ao8 apa
open Go.Proofs
namespace Tk
def eX.l (b:eX):SC:=[iv b.min,iv b.max]
def eX.av (b:eX):AV:=.agg b.l
def aD.l (y:aD):SC:=[iv y.number.min,iv y.number.max,iv y.hour.min,iv y.hour.max]
def aD.av (y:aD):AV:=.agg y.l
def Seen.l (s:Seen):SC:=[iv s.hour,iv s.next.min,iv s.next.max]
def Seen.av (s:Seen):AV:=.agg s.l
def aV (xs:SD):AV:=.sl xs.length (xs.map iv) .shut
def ln (ls:SS):AV:=.sl ls.length (ls.map aV) .shut
abbrev SY:=List aD
def aG (xs:SY):AV:=.sl xs.length (xs.flatMap aD.l) .shut
def bM (xs:List Seen):AV:=.sl xs.length (xs.flatMap Seen.l) .shut
def aj.l (x:aj):SC:=[iv x.first,iv x.hours,iv x.am,bM x.seen,aG x.pieces,aG x.aq]
def aj.av (x:aj):AV:=.agg x.l
def aD.len(b:aD):b.l.length=4:=rfl
def Seen.len(b:Seen):b.l.length=3:=rfl
end Tk
section
variable {i:Nat}
def dn{xs:SD}{x:Int}(h:xs[i]?=some x):AV.shift i (.rp (xs.map iv))=some (.rp (iv x::(xs.drop (i+1)).map iv)):=by have:=aec (f:=iv) h;rwa[Zo]at this
def Jb{xs:SS}{x:SD}(h:xs[i]?=some x):AV.shift i (.rp (xs.map aV))=some (.rp (aV x::(xs.drop (i+1)).map aV)):=by have:=aec (f:=aV) h;rwa[Zo]at this
def oR{xs:SY}{x:aD}(h:xs[i]?=some x):AV.shift (i* 4) (.rp (xs.flatMap aD.l))=some (.rp (iv x.number.min::iv x.number.max::iv x.hour.min::iv x.hour.max::(xs.drop (i+1)).flatMap aD.l)):=Ps aD.len h
def Ad{xs:List Seen}{x:Seen}(h:xs[i]?=some x):AV.shift (i* 3) (.rp (xs.flatMap Seen.l))=some (.rp (iv x.hour::iv x.next.min::iv x.next.max::(xs.drop (i+1)).flatMap Seen.l)):=Ps Seen.len h
end
def BV(n:Nat)(xs:SD):Lt n (aV xs)=True:=by simp[aV,sX,dF]
def BX(n:Nat)(xs:SS):Lt n (ln xs)=True:=by
 simp only[ln,sX,Uh,eq_iff_iff,iff_true]
 rintro a ⟨b,_,rfl⟩
 rw[BV];trivial
def Iy(n:Nat)(xs:SY):Lt n (aG xs)=True:=by
 simp only[aG,sX,T8,eq_iff_iff,iff_true]
 rintro a ⟨b,_,h⟩
 simp only[aD.l,Tm,T5,or_false]at h;rcases h with rfl|rfl|rfl|rfl<;>exact .val _
def acC(n:Nat)(xs:List Seen):Lt n (bM xs)=True:=by
 simp only[bM,sX,T8,eq_iff_iff,iff_true]
 rintro a ⟨b,_,h⟩
 simp only[Seen.l,Tm,T5,or_false]at h;rcases h with rfl|rfl|rfl<;>exact .val _
def On(n:Nat)(x:aj):∀a∈x.l,Lt n a:=by intro a ha;simp only[aj.l,Tm,T5,or_false]at ha;rcases ha with rfl|rfl|rfl|rfl|rfl|rfl;exact .val _;exact .val _;exact .val _;rw[acC];trivial;rw[Iy];trivial;rw[Iy];trivial
def BW(n:Nat)(x:aj):Lt n x.av=True:=by simp only[aj.av,lT,eq_iff_iff,iff_true];exact On n x
open Go.Conc Go.Proofs Go.Gg.Tk
namespace Tk
structure nc (h:SD):Prop where
 len:h.length=4
 lo:∀a∈h,0<=a
 hi:∀a∈h,a<=1000
 span:h.getD 3 0<=h.getD 0 0+9
def nc.out{h:SD}(k:nc h):∃a b c d,h=[a,b,c,d]/\(0<=a/\a<=1000)/\(0<=b/\b<=1000)/\(0<=c/\c<=1000)/\(0<=d/\d<=1000)/\d<=a+9:=by
 match h,k with
 |[a,b,c,d],k=>exact⟨a,b,c,d,rfl,⟨k.lo a (by simp),k.hi a (by simp)⟩,⟨k.lo b (by simp),k.hi b (by simp)⟩,⟨k.lo c (by simp),k.hi c (by simp)⟩,⟨k.lo d (by simp),k.hi d (by simp)⟩,by simpa using k.span⟩
def ak5{h:SD}{y:aD}{n:Nat}(hn:(h.getD 3 0-h.getD 0 0).toNat<=n):l7 h y n=false:=by unfold l7;rw[show decide (h.getD 0 0+(n:Int)<h.getD 3 0)=false from decide_eq_false (by omega)];rfl
def ak6{h:SD}{y:aD}(hs:h.getD 3 0<=h.getD 0 0+9):cq h y=jS (l7 h y) (h.getD 3 0-h.getD 0 0).toNat:=by
 apply Nat.eq_of_testBit_eq;intro i;unfold cq;rw[Dd,Dd];by_cases hi:i<(h.getD 3 0-h.getD 0 0).toNat
 ·have h9:i<9:=by omega
  rw[decide_eq_true hi,decide_eq_true h9]
 ·rw[ak5 (by omega)];simp
def aaa(h:SD)(y:aD):cq h y<512:=Gq (n:=9)
end Tk
def wY{α:Type}{xs:List α}{i:Nat}{x:α}(h:xs[i]?=some x):xs.drop i=x::xs.drop (i+1):=by obtain⟨h1,h2⟩:=Tn.1 h;rw[UL h1,h2]
section
variable {lv:Bool}{H:SA}{k kp:SF}
def K4{b:eX}{n:Int}(hk:k (bv (ec b n)) H):aS lv BI 107 H [b.av,iv n] k kp:=by
 refine br (rs:=[.tmp 4]) (nt:=15) Tryz.f107 λhH hA=> ?_;simp only[ba,Tq,eX.av,eX.l];refine ai ?_;refine ai ?_;refine yO (λh=> ?_) (λh=> ?_)
 ·(try simp only[seval]);refine aH ?_;exact cW hH (by simpa[ec,h]using hk)
 ·(try simp only[seval]);refine aH ?_;exact cW hH (by simpa[ec,h]using hk)
def R6{h:SD}{n:Int}(h4:h.length=4)(hk:k (iv (ff h n)) H):aS lv BI 109 H [.agg (h.map iv),iv n] k kp:=by
 refine br (rs:=[.tmp 4]) (nt:=24) Tryz.f109 λhH hA=> ?_;simp only[ba,Tq];have rz:(h.map iv).length=4:=by simp[h4]
 refine ai ?_;refine ai ?_;refine bO ?_;refine nj 3 (λi:Nat=>[(6,iv i)]) (λ_=>_) (λi=>ff h n=eW i (h.drop i) n) rfl (λbN cm i ce hi R hR=> ?_);refine ai ?_;refine ao ?_;refine⟨λhc=> ?_,λhc=> ?_⟩
 ·
  have ru:i<3:=by omega
  obtain⟨a,ha⟩:=bF (xs:=h) (i:=i) (by omega);obtain⟨b,hb⟩:=bF (xs:=h) (i:=i+1) (by omega);have e4:(0<=(i:Int)/\(i:Int)<4)=True:=by simp;omega
  have RO:(0<=(i:Int)+1/\(i:Int)+1<4)=True:=by simp;omega
  have hw:Tg.wrap ((i:Int)+1)=(i:Int)+1:=bt _ (by omega);have qu:((i:Int)+1).toNat=i+1:=by omega
  have lN:eW i (h.drop i) n=if a<=n/\n<b then(i:Int)else eW (i+1) (h.drop (i+1)) n:=by rw[wY ha,wY hb];simp only[eW]
  refine aF ?_;refine ai ?_;refine ab ?_;simp only[seval,e4,RO,hw,qu,lx ha,lx hb];refine yO (λh2=> ?_) (λh2=> ?_);(try simp only[seval,e4,RO,hw,qu,lx ha,lx hb]);refine ao ?_;refine⟨λh3=> ?_,λh3=> ?_⟩;refine ai ?_;refine aH ?_;rw[hi,lN,if_pos ⟨of_decide_eq_true h2,h3⟩]at hk;exact cW hH hk;refine aF ?_;refine ab ?_;simp only[seval,hw];refine hR _ ⟨by omega,?_,cK⟩;rw[hi,lN,if_neg (λq=>h3 q.2)];(try simp only[seval]);refine ao ?_;refine aF ?_;refine ab ?_;simp only[seval,hw];refine hR _ ⟨by omega,?_,cK⟩;rw[hi,lN,if_neg (λq=>by simp at h2;omega)]
 ·
  have:i=3:=by omega
  subst this;refine bT ?_;refine ai ?_;refine aH ?_;have hm:eW 3 (h.drop 3) n= -1:=by
   match h,h4 with
   |[a,b,c,d],_=>rfl
  rw[hi,hm]at hk;exact cW hH hk
def yI{m n:Nat}(hm:m<65536)(hk:k (bv (m.testBit n)) H):aS lv BI 79 H [wv m,iv n] k kp:=by refine br (rs:=[.tmp 4]) (nt:=10) Tryz.f79 λhH hA=> ?_;simp only[ba,Tq];refine ai ?_;refine ab ?_;simp only[seval,C5,af8];refine aH ?_;refine b8 ?_;rw[alY hm];exact hk
def vn{m n:Nat}(hm:m<65536)(hn:n<16)(hk:k (wv (m|||2^n)) H):aS lv BI 80 H [wv m,iv n] k kp:=by refine br (rs:=[.tmp 4]) (nt:=9) Tryz.f80 λhH hA=> ?_;simp only[ba,Tq];refine ai ?_;refine ab ?_;simp only[seval,agl,C4];refine aH ?_;refine b8 ?_;rw[auX hm hn];exact hk
def GJ{h:SD}{y:aD}(hh:nc h)(hk:k (wv (cq h y)) H):aS lv BI 77 H [.agg (h.map iv),y.av] k kp:=by
 refine br (rs:=[.tmp 4]) (nt:=34) Tryz.f77 λhH hA=> ?_;simp only[ba,Tq,aD.av,aD.l];obtain⟨a,b,c,d,rfl,ha,hb,hc,hd,hs⟩:=hh.out;have qi:cq [a,b,c,d] y=jS (l7 [a,b,c,d] y) (d-a).toNat:=ak6 hs;have hz:wv (jS (l7 [a,b,c,d] y) 0)=wv 0:=rfl;refine ai ?_;refine ai ?_;refine ai ?_;refine bO ?_;refine gU (d-a).toNat (λi:Nat=>[(6,iv (a+i)),(5,wv (jS (l7 [a,b,c,d] y) i))]) (λ_=>_) (λi=>True) (λ_ _=>rfl) (by rw[hz];simp only[seval];simp[bE,Wk.refl];exact Wk.refl _) rfl (λ_ _ _=>rfl) trivial (λbN cm i ce hi R hR=> ?_);refine ai ?_;refine ao ?_;have cI:jS (l7 [a,b,c,d] y) i<65536:=Ug Gq (UJ (XL (by omega) (show i<=16 by omega)) (by decide));refine⟨λhc=> ?_,λhc=> ?_⟩
 ·
  have hlt:i<(d-a).toNat:=by omega
  have hw:Tg.wrap (a+(i:Int)+1)=a+((i+1:Nat):Int):=by rw[bt _ (by omega)];push_cast;omega
  have f_:Tg.wrap (a+(i:Int)-a)=(i:Int):=by rw[bt _ (by omega)];omega
  have Hg:l7 [a,b,c,d] y i=(ec y.number (a+i)&&ec y.hour (ff [a,b,c,d] (a+i))):=by unfold l7;rw[show decide ([a,b,c,d].getD 0 0+(i:Int)<[a,b,c,d].getD 3 0)=true from decide_eq_true (show a+(i:Int)<d by omega),VO];rfl
  refine aF ?_;refine bO ?_;refine cS 12 ?_;simp only[seval];refine dG (bv (ec y.number (a+i))) (bX (K4 (b:=y.number) ⟨rfl,rfl⟩)) ?_;(try simp only[seval]);refine yO (λh2=> ?_) (λh2=> ?_);(try simp only[seval]);refine dG (iv (ff [a,b,c,d] (a+i))) (bX (R6 (h:=[a,b,c,d]) rfl ⟨rfl,rfl⟩)) ?_;(try simp only[seval]);refine dG (bv (ec y.hour (ff [a,b,c,d] (a+i)))) (bX (K4 (b:=y.hour) ⟨rfl,rfl⟩)) ?_;(try simp only[seval]);refine ao ?_;rw[h2,VO]at Hg;refine⟨λh3=> ?_,λh3=> ?_⟩;refine ab ?_;simp only[seval,f_];refine aK (vn cI (show i<16 by omega) ?_);(try simp only[seval]);refine ab ?_;simp only[seval,hw];refine hR _ ⟨by omega,trivial,?_⟩;rw[show jS (l7 [a,b,c,d] y) (i+1)=jS (l7 [a,b,c,d] y) i|||2^i from by rw[jS,Hg,h3];rfl];exact cK;refine aF ?_;refine ab ?_;simp only[seval,hw];refine hR _ ⟨by omega,trivial,?_⟩;rw[show jS (l7 [a,b,c,d] y) (i+1)=jS (l7 [a,b,c,d] y) i from by rw[jS,Hg,h3];rfl];exact cK;(try simp only[seval]);refine ao ?_;refine aF ?_;refine ab ?_;simp only[seval,hw];refine hR _ ⟨by omega,trivial,?_⟩;rw[show jS (l7 [a,b,c,d] y) (i+1)=jS (l7 [a,b,c,d] y) i from by rw[jS,Hg,show ec y.number (a+i)=false by simpa using h2];rfl];exact cK
 ·have:i=(d-a).toNat:=by omega
  subst this;refine bT ?_;refine ai ?_;refine aH ?_;rw[qi]at hk;exact cW hH hk
end
open Go.Conc Go.Proofs Go.Gg.Tk
namespace Tk
structure uS (b:eX)(hi:Int):Prop where
 min:0<=b.min
 le:b.min<=b.max
 max:b.max<=hi
structure JQ (x:aj)(y:aD):Prop where
 number:uS y.number 99
 hour:uS y.hour (x.hours-1)
structure aj.Ok (x:aj):Prop where
 first:0<=x.first/\x.first<=90
 hours:1<=x.hours/\x.hours<=3
 am:1<=x.am/\x.am<=3
 qL:x.seen.length<=3
 ey:x.pieces.length<=4
 di:x.aq.length<=3
 seen:∀s∈x.seen,(0<=s.hour/\s.hour<=x.hours)/\uS s.next 99
 piece:∀y∈x.pieces,JQ x y
 stub:∀y∈x.aq,JQ x y
def nM (hour:Nat)(n:Int)(s:Seen):Bool:= !decide (s.hour=hour)||ec s.next n
def I7(x:aj)(hour:Nat)(n:Int):qK x hour n=x.seen.all (nM hour n):=rfl
end Tk
def dW{H L:SA}{i:Nat}{x:aa}(h:H[i]?=some x):(H++L)[i]?=some x:=by rw[T6 (Tn.1 h).1];exact h
def aP(Hs L:SA)(i:Nat):(Hs++L)[Hs.length+i]?=L[i]?:=by rw[Uc (by omega)];congr 1;omega
def cG(Hs L:SA)(i:Nat)(y:aa):(Hs++L).set (Hs.length+i) y=Hs++L.set i y:=by rw[Vg _ _ (by omega)];congr 2;omega
section
variable {lv:Bool}{H:SA}{k kp:SF}
def TM{x:aj}:x.l=[iv x.first,iv x.hours,iv x.am,bM x.seen,aG x.pieces,aG x.aq]:=rfl
def R5{x:aj}{h:SD}{hour ir ih:Nat}{n:Int}(hx:x.Ok)(h4:h.length=4)(hn:h[hour]?=some n)(hr:H[ir]?=some (.cells x.l 73))(hi:H[ih]?=some (.cells (h.map iv) 80))(hk:k (bv (qK x hour n)) H):aS lv BI 106 H [iv hour,.op ir 0,.op ih 0] k kp:=by
 refine br (rs:=[.tmp 4]) (nt:=29) Tryz.f106 λhH hA=> ?_;simp only[ba,Tq];have qn:hour<4:=by have:=eF hn;omega
 have b4:(0<=(hour:Int)/\(hour:Int)<4)=True:=by simp;omega
 have hlen:=hx.qL;have zm:∀L:SA,(H++L)[ir]?=some (.cells x.l 73):=λL=>dW hr;have cN:∀L:SA,(H++L)[ih]?=some (.cells (h.map iv) 80):=λL=>dW hi;refine ai ?_;refine ab ?_;simp only[seval,hr,TM,bM];refine bO ?_;refine nj x.seen.length (λi:Nat=>[(11,iv i)]) (λ_=>H) (λi=>x.seen.all (nM hour n)=(x.seen.drop i).all (nM hour n)) rfl (λbN cm i ce hI R hR=> ?_);refine ai ?_;refine ao ?_;refine⟨λhc=> ?_,λhc=> ?_⟩
 ·
  have bh:i<x.seen.length:=by omega
  obtain⟨s,hs⟩:=bF bh;have lN:x.seen.all (nM hour n)=(nM hour n s&&(x.seen.drop (i+1)).all (nM hour n)):=by rw[hI,wY hs];rfl
  have hw:=TL i (by omega);refine aF ?_;refine ab ?_;simp only[seval,Ad hs,fy bh];refine cS 13 ?_;simp only[seval,cN,b4,lx hn];refine yO (λh2=> ?_) (λh2=> ?_)
  ·(try simp only[seval,cN,b4,lx hn]);refine dG (bv (ec s.next n)) (bX (K4 (b:=s.next) ⟨rfl,rfl⟩)) ?_;(try simp only[seval]);refine ao ?_;have hp:nM hour n s=ec s.next n:=(by unfold nM;rw[decide_eq_true (show s.hour=(hour:Int) by simpa using h2)];rfl);rw[hp]at lN;refine⟨λh3=> ?_,λh3=> ?_⟩;refine ai ?_;refine aH ?_;rw[I7,lN,h3]at hk;exact cW hH hk;refine aF ?_;refine ab ?_;simp only[seval,hw];refine hR _ ⟨bh,?_,(Ft bN)⟩;rw[lN,h3];rfl
  ·(try simp only[seval]);refine ao ?_;refine aF ?_;have hp:nM hour n s=true:=(by unfold nM;rw[decide_eq_false (show ¬s.hour=(hour:Int) by simpa using h2)];rfl);rw[hp]at lN;refine ab ?_;simp only[seval,hw];refine hR _ ⟨bh,?_,(Ft bN)⟩;rw[lN];rfl
 ·
  have:i=x.seen.length:=by omega
  subst this;refine bT ?_;refine ai ?_;refine aH ?_;rw[I7,hI,List.drop_length]at hk;exact b8 hk
end
open Go.Conc Go.Proofs Go.Gg.Tk
def Lu{α:Type}(g:Nat->List α)(i:Nat):(Tt (i+1)).flatMap g=(Tt i).flatMap g++g i:=by rw[Wb,VX];simp
def Ls{α:Type}(g:Nat->List α){i n:Nat}(h:i<n):(Tt n).flatMap g=(Tt i).flatMap g++(g i++(U8 (i+1) (n-(i+1))).flatMap g):=by
 have:Tt n=Tt i++(i::U8 (i+1) (n-(i+1))):=by rw[Wj,Wj,<- WL];have:=Yl (s:=0) (m:=i) (n:=n-(i+1)+1);rw[WK]at this;rw[this];congr 1;omega
 rw[this,VX,UT]
def PE{α:Type}{l:List α}{i:Nat}{v:α}(h:i<l.length):(l.set i v).take (i+1)=l.take i++[v]:=by rw[Ys,axd,VZ,if_pos rfl,if_pos h,List.set_eq_of_length_le (by simp;omega)];rfl
namespace Tk
def jz (h:SD)(hour j:Nat)(n:Int):SD:=h.take hour++UQ j n++h.drop (hour+j)
def GL{h:SD}{hour j:Nat}{n:Int}(hj:hour+j<=h.length):(jz h hour j n).length=h.length:=by simp[jz];omega
def akX(h:SD)(hour:Nat)(n:Int):jz h hour 0 n=h:=by simp[jz]
def Lf{h:SD}{hour j:Nat}{n:Int}(hj:hour+j<h.length):(jz h hour j n).set (hour+j) n=jz h hour (j+1) n:=by
 unfold jz;have hl:(h.take hour++UQ j n).length=hour+j:=by simp;omega
 rw[Vg _ _ (by omega),hl,WV,List.replicate_succ'];rw[UL hj,U1,Ev,Ev,Ev];rfl
def akW{h:SD}{hour j:Nat}{n:Int}(hn:h[hour]?=some n)(hj:hour+j<=h.length):(jz h hour j n)[hour]?=some n:=by
 have hl:=eF hn;unfold jz;rw[Ev,Uc (by simp;omega)];have:hour-(h.take hour).length=0:=by simp;omega
 rw[this];cases j with
 |zero=>simpa using hn
 |succ j=>simp[XE]
def akV{h pre:SD}{hour:Nat}{n:Int}(h4:h.length=4)(hn:h[hour]?=some n)(hp:pre=h.take (hour+1)):jz h hour (4-hour) n=cT pre:=by
 have hl:=eF hn;have e:pre=h.take hour++[n]:=by rw[hp,Ys,hn];rfl
 unfold jz cT;rw[UX (by omega),Ts,e];have h1:(h.take hour++[n]).length=hour+1:=by simp;omega
 rw[h1,show (h.take hour++[n]).getLastD 0=n by simp[Wc],Ev];congr 1;rw[show 4-hour=(4-(hour+1))+1 by omega,XE];rfl
def adq{h pre:SD}{hour:Nat}{n:Int}(hn:h[hour]?=some n)(hp:pre=h.take (hour+1)):pre.length=hour+1/\pre.getLastD 0=n:=by
 have hl:=eF hn;have e:pre=h.take hour++[n]:=by rw[hp,Ys,hn];rfl
 subst e;exact⟨by simp;omega,by simp[Wc]⟩
end Tk
open Go.Conc Go.Proofs Go.Gg.Tk
section
variable {lv:Bool}
def ry (yv:AV)(N ir it:Nat)(h:SD):SA:=[.cells [yv] 153,.cells (h.map iv) 80,.cells [.fn (.func 106) [] [.op ir 0,.op (N+1) 0]] 124,.cells [.fn (.func 108) [] [.op (N+2) 0,.op ir 0,.op (N+1) 0,.op N 0,.op it 0,.op (N+3) 0]] 124]
def ajK{x:aj}{bw N ir it:Nat}{yv pv:AV}{S:Type}{f:S->SD->dN S}{Gf:S->SA}{I:S->Prop}{A:SD->Prop}(hx:x.Ok)(hY:j8 lv BI yv f Gf N I A pv)(hr:∀σ L,(Gf σ++L)[ir]?=some (.cells x.l 73))(ht:∀σ L,(Gf σ++L)[it]?=some (.cells [iv bw] 3))(gL:bw<=3):
  ∀(d hour:Nat)(h pre:SD)(n0:Int)(σ:S)(M:SA)(k kp:SF),d+hour=x.hours.toNat->h.length=4->h[hour]?=some n0->(0<=n0/\n0<=90+3* hour)->pre=h.take (hour+1)->I σ->(∀a∈nE x bw d pre,A a)->
   (∀h',h'.length=4->h'.take (hour+1)=pre->db Gf pv k kp (ry yv N ir it h'++M) (bI f (nE x bw d pre) σ))->
   aS lv BI 108 (Gf σ++(ry yv N ir it h++M)) [iv hour,.op (N+2) 0,.op ir 0,.op (N+1) 0,.op N 0,.op it 0,.op (N+3) 0] k kp:=by
 intro d;induction d with
 |zero=>
  intro hour h pre n0 σ M k kp lF h4 pz hb hp hI hA hk;refine br (rs:=[.tmp 8]) (nt:=61) axD λhH vp=> ?_;simp only[ba,Tq];obtain⟨cJ,rA⟩:=adq pz hp;have qn:hour<4:=by have:=eF pz;omega
  have sF:=hx.hours;have g0:∀(σ:S)(L:SA),(Gf σ++L)[N]?=L[0]?:=λσ L=>hY.get σ L 0;have g1:∀(σ:S)(L:SA),(Gf σ++L)[N+1]?=L[1]?:=λσ L=>hY.get σ L 1;have g2:∀(σ:S)(L:SA),(Gf σ++L)[N+2]?=L[2]?:=λσ L=>hY.get σ L 2;have s1:∀(σ:S)(L:SA) x,(Gf σ++L).set (N+1) x=Gf σ++L.set 1 x:=λσ L x=>hY.set σ L 1 x;rw[nE,cJ,rA,X7]at hA hk;refine ai ?_;refine ab ?_;simp only[seval,g2,ry];refine aK (R5 (x:=x) (h:=h) (n:=n0) hx h4 pz (hr _ _) (by rw[g1];rfl) ?_);(try simp only[seval]);refine ao ?_;refine⟨λhs=> ?_,λhs=> ?_⟩
  ·refine ai ?_;refine aH ?_;have:=hk h h4 hp.symm;rw[hs]at this;simp only[UH,if_false,bI,db]at this;exact b8 this
  ·rw[if_pos hs]at hA hk;rw[Pl]at hk;have hhe:(hour:Int)=x.hours:=(by omega);refine aF ?_;refine ab ?_;simp only[seval,hr,TM];refine ao ?_;refine⟨λhc=> ?_,λhc=>by exfalso;simp at hc;omega⟩;refine ai ?_;refine bO ?_;refine gU (4-hour) (λj:Nat=>[(9,iv ((hour+j:Nat):Int))]) (λj=>Gf σ++(ry yv N ir it (jz h hour j n0)++M)) (λj=>True) (λ_ _=>rfl) (by simp only[seval];simp[bE,Wk.refl]) (by rw[akX];rfl) (λm _ _=>by simp[ry]) trivial (λbN cm j qq hj R hR=> ?_);refine ai ?_;refine ao ?_;refine⟨λhc=> ?_,λhc=> ?_⟩;have fM:j<4-hour:=(by omega);have bb:(0<=(hour:Int)/\(hour:Int)<4)=True:=(by simp;omega);have bj:(0<=(hour:Int)+(j:Int)/\(hour:Int)+(j:Int)<4)=True:=(by simp;omega);have zi:((hour:Int)+(j:Int)).toNat=hour+j:=(by omega);have iV:(jz h hour j n0).length=4:=(by rw[GL (by omega),h4]);have mH:(We iv (jz h hour j n0)).length=4:=(by rw[Um,iV]);have hw:Tg.wrap ((hour:Int)+(j:Int)+1)=(hour:Int)+((j+1:Nat):Int):=(by rw[bt _ (by omega)];push_cast;omega);refine aF ?_;refine ab ?_;simp only[seval,g1,s1,ry,bb,bj,zi,mH,lx (akW pz (show hour+j<=h.length by omega))];refine⟨by omega,?_⟩;rw[xU (by omega),Lf (by omega)];refine ab ?_;simp only[seval,hw];exact hR _ ⟨fM,trivial,cK⟩
   ·have:j=4-hour:=(by omega);subst this;have HL:=akV h4 pz hp;rw[HL];have HK:(cT pre).length=4:=(by rw[<- HL,GL (by omega),h4]);have uo:((cT pre).map iv).length=4:=(by rw[Um,HK]);have oD:(cT pre).take (hour+1)=pre:=(by unfold cT;rw[UD (by omega),Tu (by omega)]);refine bT ?_;refine ab ?_;simp only[seval,g0,g1,ry,uo];rw[Tu (i:=4) (l:=(cT pre).map iv) (by rw[uo];exact Tv _)];refine n9 (hY.call σ (cT pre) (ry yv N ir it (cT pre)++M) _ _ hI (hA _ (by simp)) ?_);have aO:=hk (cT pre) HK oD;cases hf:f σ (cT pre)with
    |go σ'=>rw[hf]at aO;simp only[db]at aO⊢;(try simp only[seval]);refine aH ?_;exact b8 aO
    |stop σ'=>rw[hf]at aO;simp only[db]at aO⊢;(try simp only[seval]);refine aH ?_;exact b8 aO
    |bad σ'=>rw[hf]at aO;simp only[db]at aO⊢;exact b8 aO
 |succ d ih=>
  intro hour h pre n0 σ M k kp lF h4 pz hb hp hI hA hk;refine br (rs:=[.tmp 8]) (nt:=61) axD λhH vp=> ?_;simp only[ba,Tq];obtain⟨cJ,rA⟩:=adq pz hp;have sF:=hx.hours;have Nh:=hx.am;have hh3:hour<3:=by omega
  have TM:x.l=[iv x.first,iv x.hours,iv x.am,bM x.seen,aG x.pieces,aG x.aq]:=rfl;have g1:∀(σ:S)(L:SA),(Gf σ++L)[N+1]?=L[1]?:=λσ L=>hY.get σ L 1;have g2:∀(σ:S)(L:SA),(Gf σ++L)[N+2]?=L[2]?:=λσ L=>hY.get σ L 2;have g3:∀(σ:S)(L:SA),(Gf σ++L)[N+3]?=L[3]?:=λσ L=>hY.get σ L 3;have s1:∀(σ:S)(L:SA) x,(Gf σ++L).set (N+1) x=Gf σ++L.set 1 x:=λσ L x=>hY.set σ L 1 x;rw[nE,cJ,rA,X7]at hA hk;refine ai ?_;refine ab ?_;simp only[seval,g2,ry];refine aK (R5 (x:=x) (h:=h) (n:=n0) hx h4 pz (hr _ _) (by rw[g1];rfl) ?_);(try simp only[seval]);refine ao ?_;refine⟨λhs=> ?_,λhs=> ?_⟩
  ·refine ai ?_;refine aH ?_;have:=hk h h4 hp.symm;rw[hs]at this;simp only[UH,if_false,bI,db]at this;exact b8 this
  ·rw[if_pos hs]at hA hk;have hhe:¬(hour:Int)=x.hours:=(by omega);refine aF ?_;refine ab ?_;simp only[seval,hr,TM];refine ao ?_;refine⟨λhc=>by exfalso;exact hhe hc,λhc=> ?_⟩;refine aF ?_;refine ab ?_;simp only[seval,hr,TM,bt (x.am+1) (by omega)];generalize hg:(λn:Nat=>if hour+1=1/\n≠bw then[]else nE x bw d (pre++[n0+(n:Int)]))=g at hA hk;refine bO ?_;refine AD (measure λm:Nat×S×SD=>(x.am.toNat+1)-m.1).wf (λm=>[(37,iv (m.1:Nat))]) (λm=>Gf m.2.1++(ry yv N ir it m.2.2++M)) (λm=>m.1<=x.am.toNat+1/\bI f ((Tt m.1).flatMap g) σ=.go m.2.1/\m.2.2.length=4/\m.2.2.take (hour+1)=pre) (0,σ,h) (λ_ _=>rfl) (by intro p hp;simp at hp;subst hp;exact⟨_,rfl,Wk.refl _⟩) rfl (λ_ _=>by simp[ry,hY.len]) ⟨by omega,rfl,h4,hp.symm⟩ (λbN cm m an R hR=> ?_);obtain⟨i,τ,hq⟩:=m;obtain⟨hi,bQ,BB,BD⟩:=an;replace hi:i<=x.am.toNat+1:=hi;replace bQ:bI f ((Tt i).flatMap g) σ=.go τ:=bQ;replace BB:hq.length=4:=BB;replace BD:hq.take (hour+1)=pre:=BD;have BC:hq[hour]?=some n0:=by have h1:(hq.take (hour+1))[hour]?=some n0:=(by rw[BD,hp,Vh,if_pos (by omega)];exact pz);rwa[Vh,if_pos (by omega)]at h1
   refine ai ?_;refine ao ?_;refine⟨λhc=> ?_,λhc=> ?_⟩
   ·have bh:i<x.am.toNat+1:=(by omega);have bz:=TL i (by omega);have sO:=Ls g bh;have uu:=Lu g i;have DL:I τ:=Cf (A:=A) hY.inv _ σ τ (λa ha=>hA a (by rw[sO];exact Uk _ ha)) hI bQ;refine aF ?_;refine ai ?_;have hqm:(We iv hq).length=4:=(by rw[Um,BB]);have bb:(0<=(hour:Int)/\(hour:Int)<4)=True:=(by simp;omega);have bb1:(0<=(hour:Int)+1/\(hour:Int)+1<4)=True:=(by simp;omega);have qu:((hour:Int)+1).toNat=hour+1:=(by omega);have hwh:Tg.wrap ((hour:Int)+1)=(hour:Int)+1:=bt _ (by omega);have zB:Tg.wrap (n0+(i:Int))=n0+(i:Int):=bt _ (by omega);refine ab ?_;simp only[seval,ht];refine yO (λh2=> ?ga) (λh2=> ?gb)
    case' ga=>
     (try simp only[seval,ht]);refine ao ?_;refine⟨λh3=> ?gc,λh3=> ?gd⟩
     case gc=>have aR:g i=[]:=(by rw[<- hg];exact if_pos ⟨by simp at h2;omega,by omega⟩);refine bT ?_;refine ab ?_;simp only[seval,bz];exact hR _ ⟨(i+1,τ,hq),(by show x.am.toNat+1-(i+1)<x.am.toNat+1-i;omega),⟨by omega,by rw[uu,aR,Ts];exact bQ,BB,BD⟩,cK⟩
    case' gb=>(try simp only[seval]);refine ao ?_
    all_goals
     have aR:g i=nE x bw d (pre++[n0+(i:Int)]):=by
      rw[<- hg];refine if_neg ?_
      rintro⟨q1,q2⟩
      first|(simp at h3;omega)|(simp at h2;omega)
     refine aF ?_;refine ab ?_;simp only[seval,g1,s1,ry,bb,bb1,qu,hwh,zB,hqm,lx BC];refine⟨by omega,?_⟩;rw[xU (show hour+1<hq.length by omega)];refine ab ?_;simp only[seval,g3,hwh];have ank:(hq.set (hour+1) (n0+(i:Int))).length=4:=(by rw[UK,BB]);have hqt:pre++[n0+(i:Int)]=(hq.set (hour+1) (n0+(i:Int))).take (hour+1+1):=(by rw[PE (by omega),BD]);refine aK (ih (hour+1) (hq.set (hour+1) (n0+(i:Int))) (pre++[n0+(i:Int)]) (n0+(i:Int)) τ M _ _ (by omega) ank (by rw[VZ,if_pos rfl,if_pos (by omega)]) (by omega) hqt DL (λa ha=>hA a (by rw[sO,aR];exact T7 _ (Uk _ ha))) (λh' sr anj=> ?_));have Nj:h'.take (hour+1)=pre:=by have e:h'.take (hour+1)=(h'.take (hour+1+1)).take (hour+1):=(by rw[VF];congr 1;omega);rw[e,anj,UD (Yx cJ.symm),Tu (Yx cJ)]
     have BM:bI f ((Tt (x.am.toNat+1)).flatMap g) σ=match bI f (g i) τ with
       |.go s'=>bI f ((U8 (i+1) (x.am.toNat+1-(i+1))).flatMap g) s'
       |r=>r:=by
      rw[sO,rQ,bQ];exact rQ f (g i) _ τ
     rw[<- aR];cases hf:bI f (g i) τ with
     |go τ'=>simp only[db];(try simp only[seval]);refine ao ?_;refine aF ?_;refine ab ?_;simp only[seval,bz];exact hR _ ⟨(i+1,τ',h'),(by show x.am.toNat+1-(i+1)<x.am.toNat+1-i;omega),⟨by omega,by rw[uu,rQ,bQ];exact hf,sr,Nj⟩,cK⟩
     |stop τ'=>simp only[db];(try simp only[seval]);refine ao ?_;refine ai ?_;refine aH ?_;have aO:=hk h' sr Nj;rw[BM,hf]at aO;exact b8 aO
     |bad τ'=>simp only[db];have aO:=hk h' sr Nj;rw[BM,hf]at aO;exact b8 aO
   ·have dL:i=x.am.toNat+1:=(by omega);subst dL;have aO:=hk hq BB BD;rw[bQ]at aO;refine bT ?_;refine ai ?_;refine aH ?_;exact b8 aO
def wm{P:Tl}{yv pv:AV}{S:Type}{f:S->SD->dN S}{Gf:S->SA}{N:Nat}{I:S->Prop}{A:SD->Prop}{k:SF}(hY:j8 lv P yv f Gf N I A pv){σ σ':S}{L:SA}{a:AV}(hH:bJ (Gf σ))(ha:∀n,Lt n a)(hk:k a (Gf σ')):cz (Gf σ).length (Gf σ'++L) a k:=by refine jy (H':=Gf σ') (Wk.refl _) rfl (by rw[hY.len,hY.len];exact Tv _) ?_ (ha _) hk;have:=hY.an (σ:=σ) (M:=[]) (by simpa using hH) σ';simpa using this
def La{H:SA}{k kp:SF}{x:aj}{n:Int}(hk:k (.fn (.func 105) [] [.op H.length 0,.op (H.length+1) 0]) (H++[.cells x.l 73,.cells [iv n] 3])):aS lv BI 76 H [x.av,iv n] k kp:=by refine br (rs:=[.tmp 4]) (nt:=6) Tryz.f76 λhH hA=> ?_;simp only[ba,Tq,aj.av];refine ai ?_;refine ab ?_;simp only[seval,U6,VB,Vk,UW];refine aH ?_;exact b8 hk
def K3{x:aj}{bw N ir it:Nat}{yv pv:AV}{S:Type}{f:S->SD->dN S}{Gf:S->SA}{I:S->Prop}{A:SD->Prop}{σ:S}{k kp:SF}(hx:x.Ok)(hY:j8 lv BI yv f Gf N I A pv)(hr:∀σ L,(Gf σ++L)[ir]?=some (.cells x.l 73))(ht:∀σ L,(Gf σ++L)[it]?=some (.cells [iv bw] 3))(gL:bw<=3)
  (mK:∀n,Lt n pv) (hI:I σ) (hA:∀a∈kV x bw,A a) (hk:gQ Gf pv k kp [] (bI f (kV x bw) σ)):aS lv BI 105 (Gf σ) [yv,.op ir 0,.op it 0] k kp:=by
 refine br (rs:=[]) (nt:=15) Tryz.f105 λhH vp=> ?_;simp only[ba,Tq];have hN:=hY.len σ;refine ab ?_;simp only[seval,hY.parts];refine ai ?_;refine ab ?_;simp only[seval,U6,VB,Vk,UW];refine ai ?_;refine ab ?_;simp only[seval,U6,VB,Vk,UW];refine ab ?_;simp only[seval,hr,TM];refine ai ?_;have h0:=hx.first;have hh:=hx.hours;have Ni:[x.first]=U9 (0+1) [x.first,0,0,0]:=rfl;refine aK (?_);rw[hN];refine ajK (x:=x) (bw:=bw) hx hY hr ht gL x.hours.toNat 0 [x.first,0,0,0] [x.first] x.first σ [] _ _ rfl rfl rfl (by omega) Ni hI hA (λh' sr Bz=> ?_);change db Gf pv _ _ _ (bI f (kV x bw) σ);have sY:∀n,Lt n (.aJ []):=λn=>by simp[iw]
 cases hf:bI f (kV x bw) σ with
 |go s=>rw[hf]at hk;simp only[db,gQ]at hk⊢;rw[Ts]at hk;(try simp only[seval]);rw[<- hN];exact wm hY hH sY hk
 |stop s=>rw[hf]at hk;simp only[db,gQ]at hk⊢;rw[Ts]at hk;(try simp only[seval]);rw[<- hN];exact wm hY hH sY hk
 |bad s=>rw[hf]at hk;simp only[db,gQ]at hk⊢;rw[Ts]at hk;rw[<- hN];exact wm hY hH mK hk
end
def RJ{α:Type}{l:List α}{i j:Nat}{v:α}(h:i<j):(l.set i v).drop j=l.drop j:=by apply Yd;intro k;rw[Vo,Vo,Vd (by omega)]
def AU{α:Type}{g:α->AV}{xs:List α}{i:Nat}{x:α}(h:xs[i]?=some x):(xs.map g).drop i=g x::(xs.drop (i+1)).map g:=by rw[<- ZL,wY h,VN]
namespace Tk
def aeG (k:Nat):SD:=UQ (4-k) (-1)++[-1, -1, -1]
structure pV (h:SD)(k p:Nat)(t:SE)(tc:SD):Prop where
 len:tc.length=11
 pre:tc.take (4+p)=h++t.map λn:Nat=>(n:Int)
 tl:tc.drop (4+k)=aeG k
def pV.all{h:SD}{k:Nat}{t:SE}{tc:SD}(ht:t.length=k)(n:pV h k k t tc):tc=ee h t:=by have:=W2 (4+k) tc;rw[n.pre,n.tl]at this;rw[<- this];unfold ee lU aeG;rw[ht];simp[Ev]
def pV.back{h:SD}{k p:Nat}{t:SE}{n:Nat}{tc:SD}(h4:h.length=4)(ht:t.length=p)(q:pV h k (p+1) (t++[n]) tc):pV h k p t tc:=by
 refine⟨q.len,?_,q.tl⟩;have e:tc.take (4+p)=(tc.take (4+(p+1))).take (4+p):=by rw[VF];congr 1;omega
 rw[e,q.pre,UA,<- Ev,UD (by simp[h4,ht]),Tu (by simp[h4,ht])]
def pV.next{h:SD}{k p:Nat}{t:SE}{n:Nat}{tc:SD}(hp:p<k)(hk:k<=4)(q:pV h k p t tc):pV h k (p+1) (t++[n]) (tc.set (4+p) (n:Int)):=by refine⟨by rw[UK];exact q.len,?_,?_⟩;rw[show 4+(p+1)=(4+p)+1 by omega,PE (by rw[q.len];omega),q.pre];simp;rw[RJ (by omega)];exact q.tl
def ap1{h:SD}{q:Nat}{qs:SE}{u:Nat}{t:SE}:(lc (q::qs) u t).map (ee h)=(Tt 9).flatMap λn=>if u.testBit n|| !q.testBit n then[]else(lc qs (u|||2^n) (t++[n])).map (ee h):=by rw[lc,WN];congr 1;funext n;split<;>rfl
end Tk
section
variable {lv:Bool}
def uE (yv:AV)(N ir:Nat)(ps:SE)(tc:SD):SA:=[.cells [yv] 155,.cells (tc.map iv) 83,.cells (ps.map λn=>wv n) 77,.cells [.fn (.func 132) [] [.op ir 0,.op N 0,.op (N+1) 0,.op (N+2) 0,.op (N+3) 0]] 191]
def ajX{x:aj}{h ps N ir:_}{yv pv:AV}{S:Type}{f:S->SD->dN S}{Gf:S->SA}{I:S->Prop}{A:SD->Prop}(hx:x.Ok)(h4:h.length=4)(hY:j8 lv BI yv f Gf N I A pv)(hr:∀σ L,(Gf σ++L)[ir]?=some (.cells x.l 73))(qw:ps=x.pieces.map (cq h)++UQ (4-x.pieces.length) 0):
  ∀(d p u:Nat)(t:SE)(tc:SD)(σ:S)(M:SA)(k kp:SF),d+p=x.pieces.length->u<65536->t.length=p->pV h x.pieces.length p t tc->I σ->(∀a∈(lc ((x.pieces.map (cq h)).drop p) u t).map (ee h),A a)->
   (∀eC,pV h x.pieces.length p t eC->db Gf pv k kp (uE yv N ir ps eC++M) (bI f ((lc ((x.pieces.map (cq h)).drop p) u t).map (ee h)) σ))->
   aS lv BI 132 (Gf σ++(uE yv N ir ps tc++M)) [iv p,wv u,.op ir 0,.op N 0,.op (N+1) 0,.op (N+2) 0,.op (N+3) 0] k kp:=by
 intro d;induction d with
 |zero=>
  intro p u t tc σ M k kp Mn hu ht hT hI hA hk;refine br (rs:=[.tmp 9]) (nt:=47) axC λhH vp=> ?_;simp only[ba,Tq];have g0:∀(σ:S)(L:SA),(Gf σ++L)[N]?=L[0]?:=λσ L=>hY.get σ L 0;have g1:∀(σ:S)(L:SA),(Gf σ++L)[N+1]?=L[1]?:=λσ L=>hY.get σ L 1;have cJ:p=x.pieces.length:=by omega
  have po:(x.pieces.map (cq h)).drop p=[]:=UX (by simp;omega);rw[po,lc]at hA hk;rw[List.map_singleton]at hA hk;rw[Pl]at hk;have zv:tc=ee h t:=by subst cJ;exact hT.all ht
  have jV:(tc.map iv).length=11:=by rw[Um,hT.len]
  refine ai ?_;(repeat apply ii);refine QN ?_;refine ab ?_;simp only[seval,hr,TM,aG];refine ao ?_;refine⟨λhc=> ?_,λhc=>by exfalso;simp at hc;omega⟩;refine ab ?_;simp only[seval,g0,g1,uE,jV];rw[Tu (i:=11) (l:=tc.map iv) (by rw[jV];exact Tv _)];rw[<- zv]at hA hk;have aO:=hk tc hT;refine n9 (hY.call σ tc (uE yv N ir ps tc++M) _ _ hI (hA _ (by simp)) ?_);cases hf:f σ tc with
  |go σ'=>rw[hf]at aO;simp only[db]at aO⊢;(try simp only[seval]);refine aH ?_;exact b8 aO
  |stop σ'=>rw[hf]at aO;simp only[db]at aO⊢;(try simp only[seval]);refine aH ?_;exact b8 aO
  |bad σ'=>rw[hf]at aO;simp only[db]at aO⊢;exact b8 aO
 |succ d ih=>
  intro p u t tc σ M k kp Mn hu ht hT hI hA hk;refine br (rs:=[.tmp 9]) (nt:=47) axC λhH vp=> ?_;simp only[ba,Tq];have TM:x.l=[iv x.first,iv x.hours,iv x.am,bM x.seen,aG x.pieces,aG x.aq]:=rfl;have g1:∀(σ:S)(L:SA),(Gf σ++L)[N+1]?=L[1]?:=λσ L=>hY.get σ L 1;have g2:∀(σ:S)(L:SA),(Gf σ++L)[N+2]?=L[2]?:=λσ L=>hY.get σ L 2;have g3:∀(σ:S)(L:SA),(Gf σ++L)[N+3]?=L[3]?:=λσ L=>hY.get σ L 3;have s1:∀(σ:S)(L:SA) x,(Gf σ++L).set (N+1) x=Gf σ++L.set 1 x:=λσ L x=>hY.set σ L 1 x;have pA:=hx.ey;have HK:p<4:=by omega
  obtain⟨y,hy⟩:=bF (xs:=x.pieces) (i:=p) (by omega);have vX:(x.pieces.map (cq h))[p]?=some (cq h y):=by rw[Ur,hy];rfl
  have oC:ps[p]?=some (cq h y):=by rw[qw,T6 (by simp;omega)];exact vX
  have mL:cq h y<65536:=Xx (aaa h y) (by decide);have aN:¬(p:Int)=(x.pieces.length:Int):=by omega
  rw[wY vX,ap1]at hA hk;generalize hg:(λn=>if u.testBit n|| !(cq h y).testBit n then[]else(lc ((x.pieces.map (cq h)).drop (p+1)) (u|||2^n) (t++[n])).map (ee h))=g at hA hk;refine ai ?_;(repeat apply ii);refine QN ?_;refine ab ?_;simp only[seval,hr,TM,aG];refine ao ?_;refine⟨λhc=>by exfalso;exact aN (by simpa using hc),λhc=> ?_⟩;refine aF ?_;(repeat apply ii);refine QH ?_;simp only[seval];refine ai ?_;refine bO ?_;refine AD (measure λm:Nat×S×SD=>9-m.1).wf (λm=>[(20,iv (m.1:Nat))]) (λm=>Gf m.2.1++(uE yv N ir ps m.2.2++M)) (λm=>m.1<=9/\bI f ((Tt m.1).flatMap g) σ=.go m.2.1/\pV h x.pieces.length p t m.2.2) (0,σ,tc) (λ_ _=>rfl) (by intro p hp;simp at hp;subst hp;exact⟨_,rfl,Wk.refl _⟩) rfl (λ_ _=>by simp[uE,hY.len]) ⟨by omega,rfl,hT⟩ (λbN cm m an R hR=> ?_);obtain⟨i,τ,tq⟩:=m;obtain⟨hi,bQ,l9⟩:=an;replace hi:i<=9:=hi;replace bQ:bI f ((Tt i).flatMap g) σ=.go τ:=bQ;replace l9:pV h x.pieces.length p t tq:=l9;refine ai ?_;refine ao ?_;refine⟨λhc=> ?_,λhc=> ?_⟩
  ·have bh:i<9:=(by omega);have bz:=TL i (by omega);have sO:=Ls g bh;have uu:=Lu g i;have DL:I τ:=Cf (A:=A) hY.inv _ σ τ (λa ha=>hA a (by rw[sO];exact Uk _ ha)) hI bQ;have b4:(0<=(p:Int)/\(p:Int)<4)=True:=(by simp;omega);have FB:(u.testBit i|| !(cq h y).testBit i)=true->g i=[]:=λe=>(by rw[<- hg];exact if_pos e);have LC:(u.testBit i|| !(cq h y).testBit i)=false->g i=(lc ((x.pieces.map (cq h)).drop (p+1)) (u|||2^i) (t++[i])).map (ee h):=λe=>(by rw[<- hg];exact if_neg (by rw[e];simp));refine aF ?_;refine ai ?_;refine ab ?_;simp only[seval,g2,uE,b4,AU oC];refine aK (yI hu ?_);(try simp only[seval,g2,uE,b4,AU oC]);refine yO (λh2=> ?_) (λh2=> ?_)
   ·(try simp only[seval,g2,uE,b4,AU oC]);refine aK (yI mL ?_);(try simp only[seval]);refine ao ?_;refine⟨λh3=> ?_,λh3=> ?_⟩;have aR:=FB (by rw[h2];simpa using h3);refine bT ?_;refine ab ?_;simp only[seval,bz];exact hR _ ⟨(i+1,τ,tq),(by show 9-(i+1)<9-i;omega),⟨by omega,by rw[uu,aR,Ts];exact bQ,l9⟩,cK⟩
    ·have aR:=LC (by rw[h2];simpa using h3);have jV:(tq.map iv).length=11:=(by rw[Um,l9.len]);have Kj:4+p<tq.length:=(by rw[l9.len];omega);have H6:=TL p (by omega);refine aF ?_;refine ab ?_;simp only[seval,g1,s1,uE,b4];refine⟨by omega,?_⟩;rw[xU Kj];refine cS 6 ?_;simp only[seval,g3,H6];refine dG (wv (u|||2^i)) (bX (vn hu (show i<16 by omega) ⟨rfl,rfl⟩)) ?_;rw[H6];have ml:u|||2^i<65536:=qI hu (x7 (by omega));refine aK (ih (p+1) (u|||2^i) (t++[i]) (tq.set (4+p) (i:Int)) τ M _ _ (by omega) ml (by simp[ht]) (l9.next (by omega) pA) DL (λa ha=>hA a (by rw[sO,aR];exact T7 _ (Uk _ ha))) (λeC t_=> ?_));have DO:=t_.back h4 ht;have BM:bI f ((Tt 9).flatMap g) σ=match bI f (g i) τ with
       |.go s'=>bI f ((U8 (i+1) (9-(i+1))).flatMap g) s'
       |r=>r:=by
      rw[sO,rQ,bQ];exact rQ f (g i) _ τ
     rw[<- aR];have aO:=hk eC DO;rw[BM]at aO;cases hf:bI f (g i) τ with
     |go τ'=>simp only[db];(try simp only[seval]);refine ao ?_;refine aF ?_;refine ab ?_;simp only[seval,bz];exact hR _ ⟨(i+1,τ',eC),(by show 9-(i+1)<9-i;omega),⟨by omega,by rw[uu,rQ,bQ];exact hf,DO⟩,cK⟩
     |stop τ'=>rw[hf]at aO;simp only[db]at aO⊢;(try simp only[seval]);refine ao ?_;refine ai ?_;refine aH ?_;exact b8 aO
     |bad τ'=>rw[hf]at aO;simp only[db]at aO⊢;exact b8 aO
   ·(try simp only[seval]);refine ao ?_;have aR:=FB (by rw[show u.testBit i=true by simpa using h2];rfl);refine bT ?_;refine ab ?_;simp only[seval,bz];exact hR _ ⟨(i+1,τ,tq),(by show 9-(i+1)<9-i;omega),⟨by omega,by rw[uu,aR,Ts];exact bQ,l9⟩,cK⟩
  ·have dL:i=9:=(by omega);subst dL;have aO:=hk tq l9;rw[bQ]at aO;refine bT ?_;refine ai ?_;refine aH ?_;exact b8 aO
end
end Go.Gg
