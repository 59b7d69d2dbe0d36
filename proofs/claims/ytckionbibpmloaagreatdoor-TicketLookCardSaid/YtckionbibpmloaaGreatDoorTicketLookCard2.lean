/- A part of the proof. -/
import Derived.Test.YtckionbibpmloaaGreatDoorTicketLookCard1
import Derived.Test.YtckionbibpmloaaGreatDoorProg
import Derived.KernelRfl
set_option linter.all false
set_option maxRecDepth 4000
set_option maxHeartbeats 4000000
open Array renaming all_eq_true_iff_forall_mem->Vw,empty_append->XC,eq_empty_of_size_eq_zero->Xm,ext'->Ws,getD_eq_getD_getElem?->Td,getElem?_append_left->XB,getElem?_eq_getElem->Tf,getElem?_eq_none->Zx,getElem?_eq_some_iff->Tl,getElem?_modify->Wd,getElem?_setIfInBounds_ne->Tq,getElem?_setIfInBounds_self_of_lt->T8,getElem_mem->XP,mem_of_getElem?->ZZ,range->XJ,replicate->UI,toList_map->WR
open BitVec renaming ofInt->U2,toNat_or->aj_
open Bool renaming and_eq_true->Uk,eq_iff_iff->U9,false_and->Yy,false_eq_true->UB,false_or->an_,not_eq_true'->UK,not_true->X6,or_eq_true->avO,true_and->VO
open Classical renaming byContradiction->Uj
open ForInStep renaming yield->ZY
open Go renaming BinOp->Xc,Call->Ym,CallKind->Yi,Code->UX,Deferred->Ye,Field->ZW,Frame->VA,FrameMode->Wa,Func->avu,FuncId->UH,IntKind->UN,Loop->awt,LoopState->avK,Oper->U8,Operand->Ui,Program->Tg,ResultVar->aa',TypeInfo->XV,Value->T5,World->Ul
open Go.BinOp renaming eql->Zu,neq->W8
open Go.Call renaming operands->Xo
open Go.CallKind renaming deferred->ZO,early->VZ,normal->Z8
open Go.Deferred renaming ofValue->VM
open Go.Frame renaming catches->avv,round->Y5
open Go.FrameMode renaming returning->Zp
open Go.GStep renaming after->UT
open Go.Instr renaming beginRound->YK,checkKey->Wb,endLoop->as',endRound->X9,enterLoop->XY,findAsking->YJ,findKey->WZ,getLoop->XI,sameBits->Xy,takeDeferred->Z7
open Go.IntKind renaming bits->awA,i64->Tc,signed->awz,u16->T6,u32->av_,u64->Ux,wrap->Y4
open Go.LoopState renaming busy->aws
open Go.Made renaming depth->ZB
open Go.Next renaming value->X5
open Go.Op renaming equal->XM,equalIn->WC,operands->Ur
open Go.Proofs.Tryz renaming f108->av6,f120->awo,f132->av5,f98->YP,prog->ij
open Go.Region renaming binds->Zn,linearise->ab',schedule->WT,wanted->Ug
open Go.Region.linearise renaming go->Vu
open Go.Result.ok renaming inj->awn
open Go.Sem renaming runT->WH,runT_eq->Uw
open Go.Value renaming agg->Us,bool->Yg,chan->YV,iface->YO,int->S_,map->al',nilFunc->ZU,slice->Vh
open Go.stepG renaming exec->U1
open Int renaming ofNat->awD,toNat_natCast->Wc
open List renaming all_cons->avq,all_eq_true->Uv,append_assoc->Ax,append_nil->Tu,append_of_mem->Z',cons_append->WK,contains_eq_mem->Vf,countP_le_length->Z4,drop_drop->avT,drop_eq_getElem_cons->UW,drop_eq_nil_of_le->UR,drop_zero->WY,ext_getElem?->X2,extract_eq_take_drop->Zs,filter_congr->Wo,flatMap_append->VN,flatMap_cons->UQ,foldl_cons->VS,forIn_cons->X0,getD_eq_getElem?_getD->Se,getElem?_append_left->Tw,getElem?_append_right->Ud,getElem?_cons_succ->Vy,getElem?_drop->Vd,getElem?_eq_getElem->Ts,getElem?_eq_none->Vx,getElem?_eq_some_iff->Tj,getElem?_map->Uo,getElem?_set->VP,getElem?_set_ne->U3,getElem?_set_self->Yd,getElem?_take->U5,getLastD_cons->ak',getLastD_eq_getLast?->Wn,head?->avR,length_drop->Va,length_map->Un,length_set->UF,length_take->U_,map->Wh,mapM_cons->UY,mapM_nil->Vt,mapM_toArray->Y3,map_append->UJ,map_congr_left->WI,map_cons->VI,map_drop->Zy,map_flatMap->WW,map_map->Y2,map_nil->aj',map_take->W7,mem_append->Tp,mem_append_left->Ue,mem_append_right->T1,mem_cons->Th,mem_cons_of_mem->T_,mem_cons_self->Ut,mem_filter->Vq,mem_flatMap->T4,mem_map->Um,mem_of_getElem?->Uf,mem_range->UA,mem_range'->Y1,mem_reverse->YL,mem_singleton->T7,nodup_append->V_,nodup_cons->WM,nodup_nil->XL,not_mem_nil->Tv,range->Tt,range'->UZ,range'_append_1->Yc,range'_succ->WF,range_eq_range'->VX,range_succ->Wr,replicate->UE,replicate_succ->Xu,reverse_cons->ag2,reverse_nil->YZ,set_append_left->VW,set_append_right->VE,set_cons_zero->UP,singleton_append->Z3,take->VC,take_append_drop->WO,take_append_of_le_length->Uu,take_of_length_le->Tn,take_set->avE,take_succ->Yj,take_succ_cons->W4,take_take->Wi,take_zero->awb
open Nat renaming add_sub_cancel->Xa,add_zero->Vl,le_of_eq->Yo,le_refl->Tm,le_trans->Vb,lt_of_le_of_lt->af_,lt_of_lt_of_le->Ub,lt_trans->Xn,min_eq_left->Xx,mul_one->Zc,or_lt_two_pow->XK,pow_le_pow_right->Yu,pow_lt_pow_right->Yf,reduceAdd->To,sub_self->WL,sub_zero->avz,testBit_or->Yt,testBit_two_pow->W3,zero_add->WN,zero_le->Z1
open Option renaming bind_eq_bind->UL,bind_eq_some_iff->Uc,getD_some->T9,map_eq_some_iff->Uq,map_some->VL,pure_def->U7,some->Ti
open Option.some renaming injEq->Uh
open Std.Legacy.Range renaming forIn_eq_forIn_range'->Xw,size->Yz
namespace Go.Gg
open Go.Conc
def MY{ops:SK}(mj:∀(i:Nat) o,ops[i]?=some o->∀j∈cQ o,j<ops.size)(aaD:∀X:SE,(∃i,i<ops.size/\i∉X)->∃i o,ops[i]?=some o/\i∉X/\∀j∈cQ o,j∈X):∀(fuel t:Nat)(L:Array Bool)(X:SE),OT ops L X->(Tt ops.size).countP (λi=> !X.contains i)<=fuel->l_ ops X (Vu .any ops fuel t L [])
 |0,t,L,X,hr,hc=>by
  simp only[Vu,YZ];refine .nil X λi hi=> ?_;have:(Tt ops.size).countP (λi=> !X.contains i)=0:=by omega
  have:=List.countP_eq_zero.1 this i (by simpa using hi);simpa using this
 |fuel+1,t,L,X,hr,hc=>by
  have uM:∀i,i∈((Tt ops.size).filter λi=> !L.getD i true&&((ops[i]?).map (·.after.all λe=> !Region.binds .any e||L.getD e.on false)).getD false)<->∃o,ops[i]?=some o/\i∉X/\∀j∈cQ o,j∈X:=by
   intro i;simp only[Vq,UA,Uk,UK];constructor
   ·rintro⟨hi,h1,h2⟩
    have ho:=Tf hi;refine⟨ops[i],ho,λhx=> ?_,λj hj=> ?_⟩
    ·have:=(hr.mem i hi).2 hx;rw[Td,this]at h1;cases h1
    ·obtain⟨e,he,hb,rfl⟩:=Hk.1 hj;rw[ho]at h2;simp only[VL,T9,Vw]at h2;have:=h2 e he;rw[hb]at this;simp only[X6,an_]at this;have hlt:e.on<ops.size:=mj i _ ho _ hj;refine(hr.mem _ hlt).1 ?_;rw[Td]at this;cases hx:L[e.on]?with
     |none=>rw[hx]at this;cases this
     |some b=>rw[hx]at this;cases b;cases this;rfl
   ·rintro⟨o,ho,h1,h2⟩
    have hi:i<ops.size:=(Tl.1 ho).1;refine⟨hi,?_,?_⟩
    ·rw[Td,Tf (by rw[hr.size];exact hi)];simp only[T9];cases hb:L[i]'(by rw[hr.size];exact hi)with
     |false=>rfl
     |true=>exact absurd ((hr.mem i hi).1 (by rw[Tf (by rw[hr.size];exact hi),hb])) h1
    ·rw[ho];simp only[VL,T9,Vw];intro e he;cases hb:Zn .any e with
     |false=>rfl
     |true=>
      have hj:=Hk.2 ⟨e,he,hb,rfl⟩;have hlt:e.on<ops.size:=mj i _ ho _ hj;have:=(hr.mem _ hlt).2 (h2 _ hj);simp[Td,this]
  simp only[Vu];generalize Dg:((Tt ops.size).filter λi=> !L.getD i true&&((ops[i]?).map (·.after.all λe=> !Region.binds .any e||L.getD e.on false)).getD false)=rs at uM;cases hi:rs[t % rs.length]?with
  |none=>
   have LF:rs=[]:=by
    cases rs with
    |nil=>rfl
    |cons x xs=>
     have hlt:t % (x::xs).length<(x::xs).length:=Nat.mod_lt _ (by simp);rw[List.getElem?_eq_none_iff]at hi;omega
   simp only[YZ];refine .nil X λi hlt=> ?_;apply Uj;intro hx;obtain⟨i',o,h1,h2,h3⟩:=aaD X ⟨i,hlt,hx⟩;have:i'∈rs:=(uM i').2 ⟨o,h1,h2,h3⟩;rw[LF]at this;cases this
  |some i=>
   simp only[];obtain⟨o,ho,h1,h2⟩:=(uM i).1 (Uf hi);have hlt:i<ops.size:=(Tl.1 ho).1;rw[linearise_go_acc,List.reverse_singleton,Z3];refine .cons o ho h1 h2 (MY mj aaD fuel _ _ (i::X) ⟨by simp[hr.size],λk hk=> ?_⟩ ?_)
   ·by_cases rn:k=i
    ·subst rn;simp[T8 (by rw[hr.size];exact hlt)]
    ·rw[Tq (Ne.symm rn),hr.mem k hk];simp[rn]
   ·have fJ:i∈(Tt ops.size):=(by simpa using hlt);have:(Tt ops.size).countP (λk=> !(i::X).contains k)<(Tt ops.size).countP (λk=> !X.contains k):=by
     exact PW fJ (λk hk=>by simp only[UK,Vf,decide_eq_false_iff_not]at hk⊢;exactλh=>hk (T_ _ h)) (by simpa using h1) (by simp)
    omega
def J_{X:SE}:∀{l:SE},(∃i∈l,i∉X)->∃A i B,l=A++i::B/\i∉X/\∀a∈A,a∈X
 |[],⟨_,h,_⟩=>by cases h
 |x::l,⟨i,h,hn⟩=>by
  by_cases hx:x∈X
  ·have hi:i∈l:=(Th.1 h).resolve_left λe=>hn (e▸hx);obtain⟨A,j,B,h1,h2,h3⟩:=J_ ⟨i,hi,hn⟩;exact⟨x::A,j,B,by rw[h1];rfl,h2,λa ha=>(Th.1 ha).elim (λe=>e▸hx) (h3 a)⟩
  ·exact⟨[],x,l,rfl,hx,by simp⟩
structure Bz (k:SF):Type where
 n:Nat
def EG (lv:Bool)(P:Tg)(f:AV)(H:SA)(aG:SC)(k:SF)(_t:Bz k):Prop:=∃av H',eM lv P f H aG (λb tR=>b=av/\tR=H') (λ_ _=>False)/\k av H'
def IL (lv:Bool)(P:Tg)(f:AV)(name:String)(H:SA)(aG:SC)(k:SF)(_t:Bz k):Prop:=∃av H',sj lv P f name H aG (λb tR=>b=av/\tR=H') (λ_ _=>False)/\k av H'
def og{lv:Bool}{P:Tg}{f:AV}{H:SA}{aG:SC}{k:SF}{t:Bz k}(av:AV)(H':SA)(h:eM lv P f H aG (λb tR=>b=av/\tR=H') (λ_ _=>False))(hk:k av H'):EG lv P f H aG k t:=⟨av,H',h,hk⟩
def jS (x:Option aa)(X Y:Prop)(_t:l9 X Y):Prop:=match x with
 |some (.own _ _ _)=>X
 |_=>Y
def qJ (G H:SA)(k:SF)(n m sz:Nat)(elem:TypeId)(l l':SC):End->Prop
 |.exact=>jS G[H.length]? (0<m/\k (.bI H.length 0 (n+m) 0) (H++[.own sz (l++l') elem])) (k (.sl (n+m) (l++l') (.opn H.length)) (H++[.tail (n+m) sz elem])) ⟨0⟩
 |.opn i=>(match H[i]?with
   |some (.tail n' eB fF)=>n'=n/\eB=sz/\fF=elem
   |_=>False)/\(∀a∈l',a.leaf=true)/\k (.sl (n+m) (l++l') (.opn i)) (H.set i (.tail (n+m) sz elem))
 |.shut=>m=0/\k (.sl n l .shut) H
section
variable (lv:Bool)(P:Tg)
def jQ (G:SA)(s:AS)(o:U8)(k:SF):Prop:=match o.op with
 |.box t x=>ao (s.ev x) λa=>ao a.parts λl=>k (.op s.H.length 0) (s.H++[.cells l t])
 |.alloc t=>ao (eJ P t) λz=>k (.op s.H.length 0) (s.H++[.cells (l7 z) t])
 |.store t x y=>ao (s.ev x) λp=>ao (s.ev y) λa=>ao a.parts λlp=>p.pQ λid off=>match s.H[id]?with
  |some (.cells l el)=>(ao (Ty P t) λx=>lp.length=x.1)/\off+lp.length<=l.length/\(∀a∈lp,a.leaf=true)/\k (.val undef) (s.H.set id (.cells (iw l off lp) el))
  |some (.own p l el)=>(ao (Ty P t) λx=>lp.length=x.1)/\off+lp.length<=l.length/\(∀a∈lp,a.leaf=true)/\k (.val undef) (s.H.set id (.own p (iw l off lp) el))
  |_=>False
 |.call c=>match c.callee with
  |.builtin .append=>match c.args.toList,c.argTypes.toList with
   |[x,y],[t,t']=>ao (jE P t t') λ(elem,sz,_)=>ao (s.ev x) λa=>ao (s.ev y) λb=>a.pS (λid off n c0=>ao (s.src sz b) λ(m,l')=>tN s.H k id off n c0 m sz elem l') λn l e=>ao (s.src sz b) λ(m,l')=>l.length=n* sz/\l'.length=m* sz/\n+m<=2^30/\qJ G s.H k n m sz elem l l' e
   |_,_=>False
  |.value x=>ao (s.ev x) λf=>ao (fe s c.args.toList) λaG=>EG lv P f s.H aG k ⟨0⟩
  |.invoke x name=>ao (s.ev x) λf=>ao (fe s c.args.toList) λaG=>IL lv P f name s.H aG k ⟨0⟩
  |_=>False
 |.makeSlice t x y=>ao (BB P t) λ(e,sz,z)=>ao (s.ev x) λa=>ao (s.ev y) λb=>a.asInt λ_ n=>b.asInt λ_ n'=>n'=n/\0<=n/\n<=2^30/\k (.bI s.H.length 0 n.toNat n.toNat) (s.H++[.cells (fO z (n.toNat* sz)) e])
 |.buildSlice t len parts=>ao (qQ P t) λ(e,sz,z)=>len* sz<=2^24/\ao (jX s parts.toList) λjI=>ao (oi (gO.at (.elems sz)) (fO z (len* sz)) jI) λl=>k (.bI s.H.length 0 len len) (s.H++[.cells l e])
 |_=>False
end
section
variable {lv:Bool}{P:Tg}{r:SL}{o:U8}{s:AS}{k:SF}
def Step.drop{G:SA}{av mI:AV}{bad:AV->SV}(h:Step lv P r o s (λs'=>s'=(⟨s.T,s.H++G⟩:AS).put o.dst av) bad)(hw:Wk av mI)(hl:∀(E:Env)(V:View)(a:Act),Conc E V s.H->cm E s.T a.tmps->Lt s.H.length mI):Step lv P r o s (λs'=>s'=(⟨s.T,s.H⟩:AS).put o.dst mI) bad:=λE V a N Q hc ht hd hf n1 n2=>by
 refine h E V a N Q hc ht hd hf (λE' V' a' s' q1 q2 q3 q4=> ?_) n2;subst q4;rw[e_]at q2;have eQ:((⟨s.T,s.H++G⟩:AS).put o.dst av).IJ ((⟨s.T,s.H⟩:AS).put o.dst mI):=by
  refine⟨λt x e=> ?_,⟨G,by rw[e_,e_]⟩,by rw[e_];exact hc.au⟩;rw[e_];have hold:look s.T t=some x->Lt s.H.length x:=λe=>by rw[<- hc.n];exact(ht t x e).2.lt
  cases dl:o.dst with
  |none=>
   rw[dl]at e;simp only[AS.put]at e⊢;exact⟨x,e,Wk.refl x,hold e⟩
  |some d=>
   rw[dl]at e;simp only[AS.put,look]at e⊢;by_cases Sg:d=t
   ·rw[if_pos Sg]at e⊢;cases e;exact⟨av,rfl,hw,hl E V a hc ht⟩
   ·rw[if_neg Sg]at e⊢;exact⟨x,e,Wk.refl x,hold e⟩
 have ak:At E' V' ((⟨s.T,s.H++G⟩:AS).put o.dst av) a' a'.tmps.size:=⟨by rw[e_];exact q2,q3,rfl⟩;have aU:=ak.cut eQ;rw[e_]at aU;refine n1 _ V' a' _ ⟨Ej (Tm _) (by rw[q2.n];simp) q1.le hc.n,q1.size,q1.defers,q1.role,q1.deaf⟩ aU.br aU.tok rfl
end
section
variable {lv:Bool}{P:Tg}{r:SL}{o:U8}{s:AS}{G:SA}{k:SF}
def eg{α:Type}{x:Option α}{a:α}{k:α->Prop}(h:x=some a)(hk:k a):ao x k:=by rw[h,ao];exact hk
def Ri{x:Option aa}{X Y:Prop}{t:l9 X Y}(h:jS x X Y t):((∃a b c,x=some (.own a b c))/\X)\/((∀a b c,x≠some (.own a b c))/\Y):=by
 unfold jS at h;split at h
 ·exact .inl ⟨⟨_,_,_,rfl⟩,h⟩
 ·rename_i hx;exact .inr ⟨λa b c e=>hx a b c e,h⟩
def akj{x:Option aa}{X Y:Prop}{t:l9 X Y}{a:Nat}{b:SC}{c:TypeId}(h:x=some (.own a b c))(hX:X):jS x X Y t:=by subst h;exact hX
def akm{x:Option aa}{X Y:Prop}{t:l9 X Y}(h:∀a b c,x≠some (.own a b c))(hY:Y):jS x X Y t:=by
 unfold jS;split
 ·exact absurd rfl (h _ _ _)
 ·exact hY
def qJ.ex{H:SA}{n m sz:Nat}{elem:TypeId}{l l':SC}{e:End}(h:qJ G H k n m sz elem l l' e):∃av H',qJ G H (λa h=>a=av/\h=H') n m sz elem l l' e/\k av H':=by
 cases e with
 |exact=>
  rcases Ri (t:=⟨0⟩) h with⟨⟨a,b,c,e⟩,h0,h1⟩|⟨e,h1⟩
  ·exact⟨_,_,akj (t:=⟨0⟩) e ⟨h0,rfl,rfl⟩,h1⟩
  ·exact⟨_,_,akm (t:=⟨0⟩) e ⟨rfl,rfl⟩,h1⟩
 |shut=>exact⟨_,_,⟨h.1,rfl,rfl⟩,h.2⟩
 |opn i=>exact⟨_,_,⟨h.1,h.2.1,rfl,rfl⟩,h.2.2⟩
def tN.ex{H:SA}{id off n c0 m sz:Nat}{elem:TypeId}{l':SC}(h:tN H k id off n c0 m sz elem l'):∃av H',tN H (λa h=>a=av/\h=H') id off n c0 m sz elem l'/\k av H':=by
 obtain⟨h1,h2,h3,h4,h5,h6⟩:=h;split at h6
 ·rename_i hk;obtain⟨g1,g2,g3,g4⟩:=h6;refine⟨_,_,⟨h1,h2,h3,h4,h5,?_⟩,g4⟩;rw[hk];exact⟨g1,g2,g3,rfl,rfl⟩
 ·exact h6.elim
end
section
variable {lv:Bool}{P:Tg}{r:SL}{o:U8}{s:AS}{next:SV}{bad:AV->SV}
def adr{t e:TypeId}{len sz:Nat}{z:T5}{parts:Array (Nat×Ui)}{jI:SH}{l:SC}(ho:o.op=.buildSlice t len parts)(ht:qQ P t=some (e,sz,z))(aX:len* sz<=2^24)(hp:jX s parts.toList=some jI)
  (hl:oi (gO.at (.elems sz)) (fO z (len* sz)) jI=some l) (hn:next ((⟨s.T,s.H++[.cells l e]⟩:AS).put o.dst (.bI s.H.length 0 len len))):Step lv P r o s next bad:=by
 intro E V a N Q hc aE hd bt h1 _;unfold qQ at ht;split at ht
 ·rename_i e' hu;obtain⟨i,hi,ht⟩:=Uc.1 ht;obtain⟨z',hz,ht⟩:=Uq.1 ht;cases ht;refine⟨bt,?_⟩;unfold execOp;rw[ho];dsimp only;refine ay ?_;unfold Instr.buildSlice;refine ec hu ?_;dsimp only;refine jo hi ?_;rw[if_neg (by omega)];obtain⟨hlen,bh⟩:=FA aE hp;obtain⟨cw,nF,uz⟩:=Cf (Jw (E:=E) z (len* i.size)) hlen bh hl;have fin:∀(rr:Nat),V.fresh rr->aR P (V.upd rr (.cells cw e)) (pure (X5 (.slice (some ⟨rr,0,none⟩) len len))) (mG lv P r o a N Q) (λv V'=>Q (.panic [{v,recovered:=false}]) a V'):=λrr hf=>by
   have oD:E.Le (E.add rr V.ab):=E.pz rr (λb o v h=>by rw[<- hc.I];exact h);have bi:Conc (E.add rr V.ab) (V.upd rr (.cells cw e)) (s.H++[.cells l e]):=by
    refine hc.add hf _ ⟨⟨_,?_,uz.mono oD⟩,λo=> ?_⟩ (λb e=> ?_)
    ·rw[Env.dE];simp[View.upd]
    ·rw[Env.dE];exact hf.2 o
    ·simp only[bJ,Env.dE,Uh]at e;exact e.symm
   have lc:ap (E.add rr V.ab) (.bI s.H.length 0 len len) (.slice (some ⟨rr,0,none⟩) len len):=by
    have:=ap.bI (E:=E.add rr V.ab) (id:=s.H.length) (off:=0) (n:=len) (cap:=len) (cap':=len) (by show _<E.n+1;rw[hc.n];omega) ⟨by omega,λ_=>rfl,λh=>absurd h (by omega)⟩;have e:(E.add rr V.ab).blk s.H.length=rr:=(by rw[<- hc.n];exact E.dE rr _);rwa[e]at this
   exact aq (h1 _ _ (a.put o.dst _) _ ⟨oD,dY _ _ _,put_defers _ _ _,rfl,rfl⟩ (by rw[e_];exact bi) (cm.gM (s:=⟨s.T,s.H++[.cells l e]⟩) (aE.mono oD) hd lc) hn)
  have e2:(λj=>some (j* i.size,i.size))=gO.at (.elems i.size):=rfl;rw[e2];by_cases h0:len* i.size=0
  ·rw[if_pos h0];refine ay (aq ?_);rw[h0]at nF⊢;rw[show XJ 0=#[]from rfl]at nF⊢;simp only[List.map_toArray,aj',WR]at nF⊢;rw[nF];unfold newRow;exact ay (ay (ay (nY λrr hf=>b8 (aq (aq (aq (fin rr hf)))))))
  ·rw[if_neg h0];refine ay (ay ?_);unfold typeInfo;refine ay (oN (b8 ?_));rw[hi];refine aq ?_;rw[hz];refine aq (ay (aq ?_));rw[WR,nF];unfold newRow;exact ay (ay (ay (nY λrr hf=>b8 (aq (aq (aq (fin rr hf)))))))
 ·cases ht
end
section
variable {lv:Bool}{P:Tg}{r:SL}{o:U8}{s:AS}{G:SA}{k:SF}
def jQ.ex(h:jQ lv P G s o k):∃av H',jQ lv P G s o (λa h=>a=av/\h=H')/\k av H':=by
 unfold jQ at h⊢;generalize o.op=op at h⊢;cases op with
 |box t x=>
  obtain⟨a,h1,h⟩:=h.out;obtain⟨l,h2,h⟩:=h.out;exact⟨_,_,eg h1 (eg h2 ⟨rfl,rfl⟩),h⟩
 |alloc t=>
  obtain⟨z,h1,h⟩:=h.out;exact⟨_,_,eg h1 ⟨rfl,rfl⟩,h⟩
 |store t x y=>
  obtain⟨p,h1,hA⟩:=h.out;obtain⟨a,h2,hB⟩:=hA.out;obtain⟨lp,h3,hC⟩:=hB.out;obtain⟨id,off,e1,hD⟩:=BZ hC;subst e1;clear h hA hB hC;split at hD
  ·rename_i l el hk;refine⟨_,_,eg h1 (eg h2 (eg h3 ?_)),hD.2.2.2⟩;unfold AV.pQ;dsimp only;rw[hk];exact⟨hD.1,hD.2.1,hD.2.2.1,rfl,rfl⟩
  ·rename_i p l el hk;refine⟨_,_,eg h1 (eg h2 (eg h3 ?_)),hD.2.2.2⟩;unfold AV.pQ;dsimp only;rw[hk];exact⟨hD.1,hD.2.1,hD.2.2.1,rfl,rfl⟩
  ·exact hD.elim
 |call c=>
  dsimp only at h⊢;generalize c.callee=cl at h⊢;generalize c.args.toList=xs at h⊢;generalize c.argTypes.toList=ts at h⊢;cases cl with
  |builtin b=>
   cases b with
   |append=>
    dsimp only at h⊢;split at h
    ·obtain⟨⟨elem,sz,z⟩,h1,hA⟩:=h.out;obtain⟨a,h2,hB⟩:=hA.out;obtain⟨b,h3,hC⟩:=hB.out;rcases I3 hC with⟨id,off,n,c0,e1,hD⟩|⟨n,l,e,e1,hD⟩
     ·obtain⟨⟨m,l'⟩,h4,h5⟩:=hD.out;subst e1;obtain⟨av,H',g1,g2⟩:=h5.ex;refine⟨av,H',eg h1 (eg h2 (eg h3 ?_)),g2⟩;simp only[AV.pS];exact eg h4 g1
     ·obtain⟨⟨m,l'⟩,h4,h5,h6,h7,h8⟩:=hD.out;subst e1;obtain⟨av,H',g1,g2⟩:=h8.ex;refine⟨av,H',eg h1 (eg h2 (eg h3 ?_)),g2⟩;simp only[AV.pS];exact eg h4 ⟨h5,h6,h7,g1⟩
    ·exact h.elim
   |_=>exact h.elim
  |value x=>
   obtain⟨f,h1,hA⟩:=h.out;obtain⟨aG,h2,hB⟩:=hA.out;obtain⟨av,H',g1,g2⟩:=hB;exact⟨av,H',eg h1 (eg h2 ⟨av,H',g1,rfl,rfl⟩),g2⟩
  |invoke x name=>
   obtain⟨f,h1,hA⟩:=h.out;obtain⟨aG,h2,hB⟩:=hA.out;obtain⟨av,H',g1,g2⟩:=hB;exact⟨av,H',eg h1 (eg h2 ⟨av,H',g1,rfl,rfl⟩),g2⟩
 |makeSlice t x y=>
  obtain⟨⟨e,sz,z⟩,h1,hA⟩:=h.out;obtain⟨a,h2,hB⟩:=hA.out;obtain⟨b,h3,hC⟩:=hB.out;obtain⟨j,n,e1,hD⟩:=od hC;obtain⟨j',n',e2,hE⟩:=od hD;clear h hA hB hC hD;subst e1 e2;exact⟨_,_,eg h1 (eg h2 (eg h3 ⟨hE.1,hE.2.1,hE.2.2.1,rfl,rfl⟩)),hE.2.2.2⟩
 |buildSlice t len parts=>
  obtain⟨⟨e,sz,z⟩,h1,h2,hA⟩:=h.out;obtain⟨jI,h3,hB⟩:=hA.out;obtain⟨l,h4,hC⟩:=hB.out;exact⟨_,_,eg h1 ⟨h2,eg h3 (eg h4 ⟨rfl,rfl⟩)⟩,hC⟩
 |_=>exact h.elim
def jQ.step{av:AV}{H':SA}{bad:AV->SV}(h:jQ lv P G s o (λa h=>a=av/\h=H')):Step lv P r o s (λs'=>s'=(⟨s.T,H'⟩:AS).put o.dst av) bad:=by
 unfold jQ at h;split at h
 ·rename_i t x ho;obtain⟨a,h1,h⟩:=h.out;obtain⟨l,h2,h⟩:=h.out;obtain⟨e1,e2⟩:=h;exact adq ho h1 h2 (by rw[e1,e2])
 ·rename_i t ho;obtain⟨z,h1,h⟩:=h.out;obtain⟨e1,e2⟩:=h;exact adn ho h1 (by rw[e1,e2])
 ·rename_i t x y ho;obtain⟨p,h1,hA⟩:=h.out;obtain⟨a,h2,hB⟩:=hA.out;obtain⟨lp,h3,hC⟩:=hB.out;obtain⟨id,off,e1,hD⟩:=BZ hC;clear h hA hB hC;subst e1;split at hD
  ·rename_i l el hk;obtain⟨q1,q2,q3,q4,NL⟩:=hD;obtain⟨⟨n,g⟩,q5,q6⟩:=q1.out;exact adv ho q5 h1 hk h2 h3 q6 q2 q3 (by rw[q4,NL])
  ·rename_i p l el hk;obtain⟨q1,q2,q3,q4,NL⟩:=hD;obtain⟨⟨n,g⟩,q5,q6⟩:=q1.out;exact adw ho q5 h1 hk h2 h3 q6 q2 q3 (by rw[q4,NL])
  ·exact hD.elim
 ·rename_i c ho;split at h
  ·rename_i aV;split at h
   ·rename_i x y t t' ha ht;obtain⟨⟨elem,sz,z⟩,h1,hA⟩:=h.out;obtain⟨a,h2,hB⟩:=hA.out;obtain⟨b,h3,hC⟩:=hB.out;rcases I3 hC with⟨id,off,n,c0,e1,hD⟩|⟨n,l,e,e1,hD⟩
    ·clear h hA hB hC;subst e1;obtain⟨⟨m,l'⟩,h4,rfl,g2,g3,g4,g5,hE⟩:=hD.out;split at hE
     ·rename_i hk;obtain⟨rfl,rfl,g6,g7,g8⟩:=hE;exact ado ho aV (nk ha) (r_ ht) h1 h2 g2 hk rfl h3 h4 g6 g3 g4 g5 (by rw[g7,g8])
     ·exact hE.elim
    ·clear h hA hB hC;subst e1;obtain⟨⟨m,l'⟩,h4,h5,h6,h7,h8⟩:=hD.out;cases e with
     |exact=>
      rcases Ri (t:=⟨0⟩) h8 with⟨_,h0,e1,e2⟩|⟨_,e1,e2⟩
      ·exact adp ho aV (nk ha) (r_ ht) h1 h2 h3 h4 h5 h6 h7 h0 (by rw[e1,e2])
      ·exact step_append ho aV (nk ha) (r_ ht) h1 h2 h3 h4 h5 h6 h7 (by show (_:AS)=_;rw[<- e1,<- e2])
     |shut=>
      obtain⟨e0,e1,e2⟩:=h8;exact step_append ho aV (nk ha) (r_ ht) h1 h2 h3 h4 h5 h6 h7 ⟨e0,by rw[<- e1,<- e2]⟩
     |opn i=>
      obtain⟨e0,e0',e1,e2⟩:=h8;exact step_append ho aV (nk ha) (r_ ht) h1 h2 h3 h4 h5 h6 h7 ⟨e0,e0',by rw[<- e1,<- e2]⟩
   ·exact h.elim
  ·rename_i x aV;obtain⟨f,h1,hA⟩:=h.out;obtain⟨aG,h2,hB⟩:=hA.out;obtain⟨a0,H0,g1,g2,g3⟩:=hB;subst g2 g3;exact N5 ho aV h1 h2 (g1.mono (λa H h=>by rw[h.1,h.2]) λ_ _ h=>h.elim)
  ·rename_i x name aV;obtain⟨f,h1,hA⟩:=h.out;obtain⟨aG,h2,hB⟩:=hA.out;obtain⟨a0,H0,g1,g2,g3⟩:=hB;subst g2 g3;exact ads ho aV h1 h2 (λE V cv vs hc hd mf=>(g1 E V cv vs hc hd mf).mono (λ_ _ x=>Nx.mono (λ_ _ y=>y.mono (λa H h=>by rw[h.1,h.2]) λ_ _ h=>h.elim) x) λ_ _ y=>y.mono (λa H h=>by rw[h.1,h.2]) λ_ _ h=>h.elim)
  ·exact h.elim
 ·rename_i t x y ho;obtain⟨⟨e,sz,z⟩,h1,hA⟩:=h.out;obtain⟨a,h2,hB⟩:=hA.out;obtain⟨b,h3,hC⟩:=hB.out;obtain⟨j,n,e1,hD⟩:=od hC;obtain⟨j',n',e2,hE⟩:=od hD;clear h hA hB hC hD;subst e1 e2;obtain⟨e3,h4,h5,h6,h7⟩:=hE;subst e3;obtain⟨m,rfl⟩:∃m:Nat,n'=m:=⟨n'.toNat,by omega⟩;exact adt ho h1 h2 h3 (by omega) (by rw[Wc]at h6 h7;rw[h6,h7])
 ·rename_i t len parts ho;obtain⟨⟨e,sz,z⟩,h1,h2,hA⟩:=h.out;obtain⟨jI,h3,hB⟩:=hA.out;obtain⟨l,h4,h5,h6⟩:=hB.out;exact adr ho h1 h2 h3 h4 (by rw[h5,h6])
 ·exact h.elim
def jQ.congr{T T':SH}{H:SA}(h:∀x∈o.op.operands,AS.ev ⟨T,H⟩ x=AS.ev ⟨T',H⟩ x)(ha:jQ lv P G ⟨T,H⟩ o k):jQ lv P G ⟨T',H⟩ o k:=by
 unfold jQ at ha⊢;generalize o.op=op at h ha⊢;cases op with
 |box t x=>dsimp only at ha⊢;rw[<- h x (by simp[Ur])];exact ha
 |alloc t=>exact ha
 |store t x y=>dsimp only at ha⊢;rw[<- h x (by simp[Ur]),<- h y (by simp[Ur])];exact ha
 |call c=>
  have cM:∀x∈c.args.toList,AS.ev ⟨T,H⟩ x=AS.ev ⟨T',H⟩ x:=λx hx=>h x (by simp[Ur,Xo];exact .inr (by simpa using hx));dsimp only at ha⊢;split at ha
  ·split at ha
   ·rename_i x y t t' hx ht;rw[hx]at cM;rw[<- cM x (by simp),<- cM y (by simp)];exact ha
   ·exact ha.elim
  ·rename_i x aV;rw[<- h x (by simp[Ur,Xo,aV]),<- Ce _ cM];exact ha
  ·rename_i x name aV;rw[<- h x (by simp[Ur,Xo,aV]),<- Ce _ cM];exact ha
  ·exact ha.elim
 |makeSlice t x y=>dsimp only at ha⊢;rw[<- h x (by simp[Ur]),<- h y (by simp[Ur])];exact ha
 |buildSlice t len parts=>
  have e:jX ⟨T',H⟩ parts.toList=jX ⟨T,H⟩ parts.toList:=by
   have hp:∀p∈parts.toList,AS.ev ⟨T,H⟩ p.2=AS.ev ⟨T',H⟩ p.2:=λp hp=>h p.2 (by simp[Ur];exact⟨p.1,by simpa using hp⟩);clear ha;generalize parts.toList=l at hp;induction l with
   |nil=>rfl
   |cons p l ih=>simp only[jX,hp p Ut,ih λq hq=>hp q (T_ _ hq)]
  dsimp only at ha⊢;rw[e];exact ha
 |_=>exact ha.elim
end
def nz (acc:List (Nat×SE))(j:Nat):SE:=((acc.find? (·.1==j)).map (·.2)).getD []
def fU (ops:SK):SE->List (Nat×SE)->List (Nat×SE)
 |[],acc=>acc
 |i::l,acc=>match ops[i]?with
  |some o=>fU ops l ((i,(cQ o++(cQ o).flatMap (nz acc)).eraseDups)::acc)
  |none=>fU ops l acc
def tM:SE->List (SE)
 |[]=>[[]]
 |x::l=>tM l++(tM l).map (x::·)
def wJ (cl:List (Nat×SE))(es:SE)(i:Nat)(D:SE):Bool:=
 !D.contains i&&es.all λe=>(!(nz cl i).contains e||D.contains e)&&(!D.contains e||(!(nz cl e).contains i&&es.all λe'=> !(nz cl e).contains e'||D.contains e'))
def tx (es:SE)(i:Nat)(D:SE):SE:=es.filter λe=>e==i||D.contains e
structure pO where
 i:Nat
 eff:Bool
 aft:SE
 Nl:List (SE×SE)
 deriving DecidableEq
def entry (cl:List (Nat×SE))(es X:SE)(i:Nat):pO:=
 let cur:=es.filter λe=>X.contains e
 ⟨i,es.contains i,tx es i cur,((tM es).filter λD=>wJ cl es i D&&D !=cur).map λD=>(D,tx es i D)⟩
def oL (cl:List (Nat×SE))(es:SE):SE->SE->List pO
 |_,[]=>[]
 |X,i::B=>entry cl es X i::oL cl es (i::X) B
def aco (ops:SK)(es ord:SE):List pO:=oL (fU ops ord []) es [] ord
def kg (ops:SK):SE->SE->Bool
 |_,[]=>true
 |X,i::B=> !X.contains i&&(match ops[i]?with
  |some o=>(cQ o).all X.contains
  |none=>false)&&kg ops (i::X) B
def pZ (nt:Nat)(ops:SK)(es ord:SE):Bool:=
 let cl:=fU ops ord [];decide (ord.length=ops.size)&&kg ops [] ord&&ord.all λi=>match ops[i]?with
  |some o=>o.dst.all (·<nt)&& !mq o.op&&o.guard.isNone&&
   (ord.all λj=>i==j||match o.dst,cY ops j with
    |some d,some d'=>d !=d'
    |_,_=>true)&&
   (o.op.operands.toList.all λx=>match x with
    |.tmp t=>ord.all λj=>cY ops j !=some t||(cQ o).contains j||(nz cl j).contains i
    |_=>true)
  |none=>false
def Rk{acc:List (Nat×SE)}{j k:Nat}(h:k∈nz acc j):∃l,(j,l)∈acc/\k∈l:=by
 unfold nz at h;cases e:acc.find? (·.1==j)with
 |none=>rw[e]at h;simp at h
 |some x=>
  rw[e]at h;obtain⟨j',l⟩:=x;have h1:=List.mem_of_find?_eq_some e;have h2:=List.find?_some e;simp only[beq_iff_eq]at h2;subst h2;exact⟨l,h1,by simpa using h⟩
def Jl{ops:SK}:∀(ord:SE)(acc:List (Nat×SE)),(∀i l,(i,l)∈acc->∀j∈l,Reach ops i j)->∀i l,(i,l)∈fU ops ord acc->∀j∈l,Reach ops i j
 |[],acc,h=>h
 |x::ord,acc,h=>by
  unfold fU;split
  ·rename_i o ho;refine Jl ord _ λi l hm j hj=> ?_;rcases Th.1 hm with e|hm
   ·cases e;rw[List.mem_eraseDups,Tp]at hj;rcases hj with hj|hj
    ·exact .JJ ho hj
    ·obtain⟨k,hk,hj⟩:=T4.1 hj;obtain⟨l',h1,h2⟩:=Rk hj;exact .more ho hk (h _ _ h1 _ h2)
   ·exact h i l hm j hj
  ·exact Jl ord acc h
def zp{ops:SK}{ord:SE}{i j:Nat}(h:j∈nz (fU ops ord []) i):Reach ops i j:=by
 obtain⟨l,h1,h2⟩:=Rk h;exact Jl ord [] (by simp) i l h1 j h2
def FH(p:Nat->Bool):∀l:SE,l.filter p∈tM l
 |[]=>by simp[tM]
 |x::l=>by
  unfold tM;rw[Tp];by_cases h:p x=true
  ·rw[List.filter_cons_of_pos h];exact .inr (Um.2 ⟨_,FH p l,rfl⟩)
  ·rw[List.filter_cons_of_neg h];exact .inl (FH p l)
structure yV (nt:Nat)(ops:Array U8)(ord:SE):Prop where
 full:∀i,i<ops.size->i∈ord
 lt:∀i∈ord,i<ops.size
 top:kg ops [] ord=true
 dst:∀(i:Nat) o d,ops[i]?=some o->o.dst=some d->d<nt
 vS:∀(i:Nat) o,ops[i]?=some o->mq o.op=false
 Cp:∀(i:Nat) o,ops[i]?=some o->o.guard=none
 Bi:∀(i j d:Nat),cY ops i=some d->cY ops j=some d->i=j
 Nj:∀(i:Nat) o t j,ops[i]?=some o-> .tmp t∈o.op.operands->cY ops j=some t->j∈cQ o\/Reach ops j i
def Eh{ops:SK}:∀{ord X:SE},kg ops X ord=true->ord.Nodup/\(∀i∈ord,i∉X)/\∀i∈ord,i<ops.size
 |[],_,_=>⟨XL,by simp,by simp⟩
 |i::B,X,h=>by
  simp only[kg,Uk,UK,Vf,decide_eq_false_iff_not]at h;obtain⟨⟨h1,h2⟩,h3⟩:=h;obtain⟨q1,q2,q3⟩:=Eh h3;refine⟨WM.2 ⟨λhm=>q2 i hm (Ut ..),q1⟩,λj hj=> ?_,λj hj=> ?_⟩
  ·rcases Th.1 hj with rfl|hj
   ·exact h1
   ·exactλhx=>q2 j hj (T_ _ hx)
  ·rcases Th.1 hj with rfl|hj
   ·apply Uj;intro hn;rw[Zx (by omega)]at h2;cases h2
   ·exact q3 j hj
def pZ.out{nt:Nat}{ops:SK}{es ord:SE}(h:pZ nt ops es ord=true):yV nt ops ord:=by
 unfold pZ at h;simp only[Uk,decide_eq_true_eq]at h;obtain⟨⟨hlen,nP⟩,h⟩:=h;obtain⟨fK,_,hlt⟩:=Eh nP;have Ad:∀i,i<ops.size->i∈ord:=λi hi=>by
  apply Uj;intro hn;have lP:(i::ord)⊆Tt ops.size:=λj hj=>by
   rcases Th.1 hj with rfl|hj
   ·simpa using hi
   ·simpa using hlt j hj
  have:=(WM.2 ⟨hn,fK⟩).length_le_of_subset lP;simp at this;omega
 have key:∀(i:Nat) o,ops[i]?=some o->o.dst.all (·<nt)=true/\mq o.op=false/\o.guard.isNone=true/\(∀j∈ord,(i==j||match o.dst,cY ops j with
    |some d,some d'=>d !=d'
    |_,_=>true)=true)/\(∀x∈o.op.operands.toList,(match x with
    |.tmp t=>ord.all λj=>cY ops j !=some t||(cQ o).contains j||(nz (fU ops ord []) j).contains i
    |_=>true)=true):=λi o ho=>by
  have hi:i<ops.size:=(Tl.1 ho).1;have:=Uv.1 h i (Ad i hi);rw[ho]at this;simp only[Uk,Uv,UK]at this;exact⟨this.1.1.1.1,this.1.1.1.2,this.1.1.2,this.1.2,this.2⟩
 have Sd:∀j d,cY ops j=some d->j<ops.size:=λj d e=>by
  apply Uj;intro hn;rw[cY,Zx (by omega)]at e;cases e
 refine⟨Ad,hlt,nP,λi o d ho hd=> ?_,λi o ho=>(key i o ho).2.1,λi o ho=>by simpa using(key i o ho).2.2.1,λi j d hi hj=> ?_,λi o t j ho ht hj=> ?_⟩
 ·have:=(key i o ho).1;rw[hd]at this;simpa using this
 ·apply Uj;intro aH;obtain⟨o,ho,sS⟩:=Uc.1 hi;have:=(key i o ho).2.2.2.1 j (Ad j (Sd j d hj));rw[sS,hj]at this;simp[aH]at this
 ·have:=(key i o ho).2.2.2.2 (.tmp t) (by simpa using ht);simp only[Uv]at this;have:=this j (Ad j (Sd j t hj));rw[hj]at this;simp only[bne_self_eq_false,an_,avO,Vf,decide_eq_true_eq]at this;exact this.imp id zp
section
variable (lv:Bool)(P:Tg)(Hf:SE->SA)
def BQ (T:SH)(o:U8)(av:AV):List (SE×SE)->Prop
 |[]=>True
 |(D,_)::l=>(AQ lv P ⟨T,Hf D⟩ o λa=>a=av)/\BQ T o av l
def BE (T:SH)(o:U8)(av:AV):List (SE×SE)->Prop
 |[]=>True
 |(D,D')::l=>(jQ lv P (Hf D') ⟨T,Hf D⟩ o λa H'=>a=av/\H'=Hf D')/\BE T o av l
structure By (K:AS->Prop):Type where
 n:Nat
def fP (ops:SK):List pO->AS->(K:SV)->By K->Prop
 |[],s,K,_=>K s
 |⟨i,false,_,l⟩::rest,s,K,t=>ao (ops[i]?) λo=>AQ lv P s o λav=>BQ lv P Hf s.T o av l/\fP ops rest (s.put o.dst av) K t
 |⟨i,true,D,l⟩::rest,s,K,t=>ao (ops[i]?) λo=>jQ lv P (Hf D) s o λav H'=>H'=Hf D/\BE lv P Hf s.T o av l/\fP ops rest ((⟨s.T,H'⟩:AS).put o.dst av) K t
end
def TX (ops:SK)(T0:SH)(f:Nat->AV):SE->List (Nat×AV)
 |[]=>T0
 |i::X=>match cY ops i with
  |some d=>(d,f i)::TX ops T0 f X
  |none=>TX ops T0 f X
section
variable {ops:SK}{T0:SH}{f g:Nat->AV}
def BI:∀{X:SE},(∀j∈X,f j=g j)->TX ops T0 f X=TX ops T0 g X
 |[],_=>rfl
 |i::X,h=>by
  simp only[TX,BI (X:=X) λj hj=>h j (T_ _ hj),h i (Ut ..)]
def BJ(aaP:∀(i j d:Nat),cY ops i=some d->cY ops j=some d->i=j):∀{X:SE}{j t:Nat},j∈X->cY ops j=some t->look (TX ops T0 f X) t=some (f j)
 |i::X,j,t,hj,ht=>by
  by_cases j5:i=j
  ·subst j5;simp[TX,ht,look]
  ·have iC:j∈X:=(Th.1 hj).resolve_left (Ne.symm j5);have ih:=BJ aaP (X:=X) iC ht;unfold TX;split
   ·rename_i d hd;have:d≠t:=λe=>j5 (aaP i j d hd (by rw[e];exact ht));simp only[look,if_neg this];exact ih
   ·exact ih
def xe:∀{X:SE}{t:Nat},(∀j∈X,cY ops j≠some t)->look (TX ops T0 f X) t=look T0 t
 |[],_,_=>rfl
 |i::X,t,h=>by
  have ih:=xe (X:=X) (t:=t) λj hj=>h j (T_ _ hj);unfold TX;split
  ·rename_i d hd;have:d≠t:=λe=>h i (Ut ..) (by rw[hd,e]);simp only[look,if_neg this];exact ih
  ·exact ih
def xf{H:SA}{X:SE}{i:Nat}{o:U8}{av:AV}(ho:ops[i]?=some o)(hf:f i=av):(⟨TX ops T0 f X,H⟩:AS).put o.dst av=⟨TX ops T0 f (i::X),H⟩:=by
 have hd:cY ops i=o.dst:=by simp[cY,ho]
 have e:TX ops T0 f (i::X)=match cY ops i with
  |some d=>(d,f i)::TX ops T0 f X
  |none=>TX ops T0 f X:=rfl
 rw[e,hd];cases o.dst with
 |none=>rfl
 |some d=>simp[AS.put,hf]
def kN (ops:SK)(X:SE):Prop:=∀i∈X,∀o,ops[i]?=some o->∀j∈cQ o,j∈X
def kN.reach{X:SE}(hX:kN ops X){i j:Nat}(hi:i∈X)(h:Reach ops i j):j∈X:=A2 hX h λo ho k hk=>hX i hi o ho k hk
def kN.cons{X:SE}(hX:kN ops X){i:Nat}{o:U8}(ho:ops[i]?=some o)(hd:∀j∈cQ o,j∈X):kN ops (i::X):=λk hk o' bf j hj=>by
 rcases Th.1 hk with rfl|hk
 ·rw[ho]at bf;cases bf;exact T_ _ (hd j hj)
 ·exact T_ _ (hX k hk o' bf j hj)
def aeB{nt:Nat}{ord:SE}(au:yV nt ops ord){X X':SE}{i:Nat}{o:U8}(ho:ops[i]?=some o)(hX:kN ops X)(oy:kN ops X')(hi:i∉X)(cG:i∉X')(hd:∀j∈cQ o,j∈X)(cF:∀j∈cQ o,j∈X'){t:Nat}(ht: .tmp t∈o.op.operands):
  look (TX ops T0 f X) t=look (TX ops T0 f X') t:=by
 by_cases hex:∃j,cY ops j=some t
 ·obtain⟨j,hj⟩:=hex;rcases au.Nj i o t j ho ht hj with h|h
  ·rw[BJ au.Bi (hd j h) hj,BJ au.Bi (cF j h) hj]
  ·rw[xe λj' iC e=>hi (hX.reach (au.Bi j j' t hj e▸iC) h),xe λj' iC e=>cG (oy.reach (au.Bi j j' t hj e▸iC) h)]
 ·rw[xe λj _ e=>hex ⟨j,e⟩,xe λj _ e=>hex ⟨j,e⟩]
end
section
variable {lv:Bool}{P:Tg}{r:SL}{ops:SK}{Hf:SE->SA}{T0:SH}{es ord:SE}{nt:Nat}
def done (es X:SE):SE:=es.filter λe=>X.contains e
def Fw{X:SE}{i:Nat}:tx es i (done es X)=done es (i::X):=by
 unfold tx done;apply Wo;intro e he;by_cases h:e=i
 ·subst h;simp
 ·simp[Vq,he,h]
def Jz{X:SE}{i:Nat}(hi:i∉es):done es (i::X)=done es X:=by
 unfold done;apply Wo;intro e he;have:e≠i:=λh=>hi (h▸he);simp[this]
def JA{X:SE}(hX:kN ops X){i:Nat}{o:U8}(ho:ops[i]?=some o)(hi:i∉X)(hd:∀j∈cQ o,j∈X):wJ (fU ops ord []) es i (done es X)=true:=by
 have cK:∀e,e∈es->(e∈done es X<->e∈X):=λe he=>by simp[done,Vq,he]
 have hX2:=hX.cons ho hd;unfold wJ;simp only[Uk,UK,Vf,decide_eq_false_iff_not,Uv,avO,decide_eq_true_eq];refine⟨λh=>hi (by simpa[done]using(Vq.1 h).2),λe he=>⟨?_,?_⟩⟩
 ·by_cases h:e∈nz (fU ops ord []) i
  ·right;rw[cK e he];exact A2 hX (zp h) λo' bf k hk=>by rw[ho]at bf;cases bf;exact hd k hk
  ·exact .inl h
 ·by_cases h:e∈X
  ·right;refine⟨λhm=>hi (hX.reach h (zp hm)),λe' j4=> ?_⟩;by_cases hm:e'∈nz (fU ops ord []) e
   ·right;rw[cK e' j4];exact hX.reach h (zp hm)
   ·exact .inl hm
  ·left;rw[cK e he];exact h
def OB (lv:Bool)(P:Tg)(r:SL)(ops:SK)(Hf:SE->SA)(T0:SH)(es:SE)(f:Nat->AV)(i:Nat)(o:U8)(X:SE):Prop:=
 if i∈es then jQ lv P (Hf (done es (i::X))) ⟨TX ops T0 f X,Hf (done es X)⟩ o (λa H'=>a=f i/\H'=Hf (done es (i::X)))
 else∃T,(∀t a,look T t=some a->look (TX ops T0 f X) t=some a)/\dq lv P r o ⟨T,Hf (done es X)⟩ (f i)
def BQ.mem{T:SH}{o:U8}{av:AV}:∀{l:List (SE×SE)},BQ lv P Hf T o av l->∀p∈l,AQ lv P ⟨T,Hf p.1⟩ o λa=>a=av
 |(D,D')::l,h,p,hp=>by
  rcases Th.1 hp with rfl|hp
  ·exact h.1
  ·exact BQ.mem h.2 p hp
def BE.mem{T:SH}{o:U8}{av:AV}:∀{l:List (SE×SE)},BE lv P Hf T o av l->∀p∈l,jQ lv P (Hf p.2) ⟨T,Hf p.1⟩ o λa H'=>a=av/\H'=Hf p.2
 |(D,D')::l,h,p,hp=>by
  rcases Th.1 hp with rfl|hp
  ·exact h.1
  ·exact BE.mem h.2 p hp
def canon (T:SH):List Ui->List (Nat×AV)
 |[]=>[]
 |.tmp t::l=>match look T t with
  |some a=>(t,a)::canon T l
  |none=>canon T l
 |_::l=>canon T l
def Jj{T:SH}:∀{l:List Ui}{t:Nat}{a:AV},look (canon T l) t=some a->look T t=some a
 |[],_,_,h=>by cases h
 |x::l,t,a,h=>by
  have ih:=@Jj T l t a;cases x with
  |tmp t'=>
   simp only[canon]at h;split at h
   ·rename_i b hb;simp only[look]at h;split at h
    ·rename_i e;subst e;cases h;exact hb
    ·exact ih h
   ·exact ih h
  |_=>exact ih h
def PQ{T:SH}:∀{l:List Ui}{t:Nat},.tmp t∈l->look (canon T l) t=look T t
 |x::l,t,h=>by
  by_cases hx:x=.tmp t
  ·subst hx;simp only[canon];split
   ·rename_i b hb;simp[look,hb]
   ·rename_i hb;rw[hb];cases e:look (canon T l) t with
    |none=>rfl
    |some a=>have:=Jj e;rw[hb]at this;cases this
  ·have hm: .tmp t∈l:=(Th.1 h).resolve_left (Ne.symm hx);have ih:=PQ (T:=T) hm;cases x with
   |tmp t'=>
    have aH:t'≠t:=λe=>hx (by rw[e]);simp only[canon];split
    ·simp only[look,if_neg aH];exact ih
    ·exact ih
   |_=>exact ih
def PP{T:SH}:∀{l:List Ui}{t:Nat}{a:AV},look (canon T l) t=some a-> .tmp t∈l
 |[],_,_,h=>by cases h
 |x::l,t,a,h=>by
  have ih:=@PP T l t a;cases x with
  |tmp t'=>
   simp only[canon]at h;split at h
   ·simp only[look]at h;split at h
    ·rename_i e;subst e;exact Ut ..
    ·exact T_ _ (ih h)
   ·exact T_ _ (ih h)
  |_=>exact T_ _ (ih h)
def PO{T:SH}{H:SA}{l:List Ui}{x:Ui}(h:x∈l):AS.ev ⟨T,H⟩ x=AS.ev ⟨canon T l,H⟩ x:=by
 cases x with
 |tmp t=>exact(PQ h).symm
 |_=>rfl
def B6(au:yV nt ops ord){K:SV}{tk:By K}:∀(B X:SE)(acc:Nat->AV),kg ops X B=true->kN ops X->fP lv P Hf ops (oL (fU ops ord []) es X B) ⟨TX ops T0 acc X,Hf (done es X)⟩ K tk->
  ∃f,(∀j∈X,f j=acc j)/\(∀i∈B,∀o,ops[i]?=some o->∀X',kN ops X'->i∉X'->(∀j∈cQ o,j∈X')->OB lv P r ops Hf T0 es f i o X')/\K ⟨TX ops T0 f (B.reverse++X),Hf (done es (B.reverse++X))⟩
 |[],X,acc,_,_,h=>⟨acc,λ_ _=>rfl,by simp,by simpa[oL,fP]using h⟩
 |i::B,X,acc,nP,hX,h=>by
  have au8:=nP;simp only[kg,Uk,UK,Vf,decide_eq_false_iff_not]at nP;obtain⟨⟨hi,h2⟩,h3⟩:=nP;cases ho:ops[i]?with
  |none=>rw[ho]at h2;cases h2
  |some o=>
  rw[ho]at h2;have hd:∀j∈cQ o,j∈X:=λj hj=>by have:=Uv.1 h2 j hj;simpa using this
  have oy:=hX.cons ho hd;have auV:wJ (fU ops ord []) es i (done es X)=true:=JA hX ho hi hd;have Nl:∀D,D∈tM es->wJ (fU ops ord []) es i D=true->D≠done es X->(D,tx es i D)∈((tM es).filter λD=>wJ (fU ops ord []) es i D&&D !=done es X).map λD=>(D,tx es i D):=λD h1 h2 h3=>Um.2 ⟨D,Vq.2 ⟨h1,by simp[h2,h3]⟩,rfl⟩;have O0:∀av:AV,TX ops T0 acc X=TX ops T0 (λj=>if j=i then av else acc j) X:=λav=>BI λj hj=>by
   have:j≠i:=λe=>hi (e▸hj);simp[this]
  have seen:∀(f:Nat->AV) X',(∀j∈X,f j=acc j)->kN ops X'->i∉X'->(∀j∈cQ o,j∈X')->∀(H:SA),∀x∈o.op.operands,AS.ev ⟨TX ops T0 acc X,H⟩ x=AS.ev ⟨TX ops T0 f X',H⟩ x:=λf X' hf hc hn cF H x hx=>by
   cases x with
   |tmp t=>
    show look _ t=look _ t;rw[<- BI (f:=f) (g:=acc) hf];exact aeB au ho hX hc hi hn hd cF hx
   |_=>rfl
  unfold oL at h;by_cases dx:i∈es
  ·have K2:entry (fU ops ord []) es X i=⟨i,true,tx es i (done es X),((tM es).filter λD=>wJ (fU ops ord []) es i D&&D !=done es X).map λD=>(D,tx es i D)⟩:=by
    unfold entry done;simp[dx]
   rw[K2,fP,ho,ao]at h;obtain⟨av,H',g1,e1,g2,g3⟩:=h.ex;subst e1;rw[Fw]at g1 g3;rw[O0 av,xf ho (by simp)]at g3;obtain⟨f,q1,q2,q3⟩:=B6 au B (i::X) _ h3 oy g3;have K5:f i=av:=(by have:=q1 i (Ut ..);simpa using this);have CU:∀j∈X,f j=acc j:=λj hj=>by
    have:=q1 j (T_ _ hj);have aH:j≠i:=λe=>hi (e▸hj);simpa[aH]using this
   refine⟨f,CU,λk hk o' bf X' hc hn cF=> ?_,by simpa using q3⟩;rcases Th.1 hk with rfl|hk
   ·rw[ho]at bf;cases bf;unfold OB;rw[if_pos dx,K5];refine jQ.congr (T:=TX ops T0 acc X) (seen f X' CU hc hn cF _) ?_;by_cases hD:done es X'=done es X
    ·rw[<- Fw,hD,Fw];exact g1
    ·have:=g2.mem _ (Nl _ (FH _ es) (JA hc ho hn cF) hD);rw[<- Fw];exact this
   ·exact q2 k hk o' bf X' hc hn cF
  ·have K2:entry (fU ops ord []) es X i=⟨i,false,tx es i (done es X),((tM es).filter λD=>wJ (fU ops ord []) es i D&&D !=done es X).map λD=>(D,tx es i D)⟩:=by
    unfold entry done;simp[dx]
   rw[K2,fP,ho,ao]at h;have h':=AQ.congr (T':=canon (TX ops T0 acc X) o.op.operands.toList) (λx hx=>PO (by simpa using hx)) h;obtain⟨av,g1,g2,g3⟩:=h'.sound (r:=r);rw[O0 av,xf ho (by simp),<- Jz (X:=X) dx]at g3;obtain⟨f,q1,q2,q3⟩:=B6 au B (i::X) _ h3 oy g3;have K5:f i=av:=(by have:=q1 i (Ut ..);simpa using this);have CU:∀j∈X,f j=acc j:=λj hj=>by
    have:=q1 j (T_ _ hj);have aH:j≠i:=λe=>hi (e▸hj);simpa[aH]using this
   refine⟨f,CU,λk hk o' bf X' hc hn cF=> ?_,by simpa using q3⟩;rcases Th.1 hk with rfl|hk
   ·rw[ho]at bf;cases bf;unfold OB;rw[if_neg dx,K5];refine⟨canon (TX ops T0 acc X) o.op.operands.toList,λt a e=> ?_,?_⟩
    ·have h1:=seen f X' CU hc hn cF [] (.tmp t) (by simpa using PP e);have h2:look (TX ops T0 acc X) t=look (TX ops T0 f X') t:=h1;rw[<- h2];exact Jj e
    ·by_cases hD:done es X'=done es X
     ·rw[hD];exact g1
     ·have h1:=g2.mem _ (Nl _ (FH _ es) (JA hc ho hn cF) hD);have h2:=AQ.congr (T':=canon (TX ops T0 acc X) o.op.operands.toList) (λx hx=>PO (by simpa using hx)) h1;obtain⟨mI,h3,rfl⟩:=h2.sound (r:=r);exact h3
   ·exact q2 k hk o' bf X' hc hn cF
def EP{f:Nat->AV}(au:yV nt ops ord){X X':SE}(h:∀i,i∈X<->i∈X')(t:Nat):look (TX ops T0 f X) t=look (TX ops T0 f X') t:=by
 by_cases hex:∃j∈X,cY ops j=some t
 ·obtain⟨j,hj,hd⟩:=hex;rw[BJ au.Bi hj hd,BJ au.Bi ((h j).1 hj) hd]
 ·rw[xe λj hj e=>hex ⟨j,hj,e⟩,xe λj hj e=>hex ⟨j,(h j).2 hj,e⟩]
def Fx{X X':SE}(h:∀i,i∈X<->i∈X'):done es X=done es X':=by
 unfold done;apply Wo;intro e _;have:=h e;by_cases h1:e∈X
 ·have h2:=this.1 h1;simp[h1,h2]
 ·have h2:e∉X':=λx=>h1 (this.2 x);simp[h1,h2]
def ahH{f:Nat->AV}(au:yV nt ops ord)(az:∀i∈ord,∀o,ops[i]?=some o->∀X',kN ops X'->i∉X'->(∀j∈cQ o,j∈X')->OB lv P r ops Hf T0 es f i o X'){X l:SE}(hs:l_ ops X l):
  (∀i∈X,i<ops.size)->kN ops X->∀(E:Env)(V:View)(a:Act)(Q:SJ),At E V ⟨TX ops T0 f X,Hf (done es X)⟩ a nt->
   (∀E' V' a' X',Kept E E' V V' a a'->At E' V' ⟨TX ops T0 f X',Hf (done es X')⟩ a' nt->(∀i,i∈X'<->i<ops.size)->Q .normal a' V')->di lv P r ops Q l a V:=by
 induction hs with
 |nil X h=>
  intro hX hc E V a Q ak hQ;exact hQ E V a X (Kept.refl E V a) ak λi=>⟨hX i,h i⟩
 |cons o ho hn hd kE ih=>
  rename_i X i l;intro hX hc E V a Q ak hQ;have hi:i<ops.size:=(Tl.1 ho).1;simp only[di,ho];have oy:∀k∈i::X,k<ops.size:=λk hk=>(Th.1 hk).elim (λe=>by rw[e];exact hi) (hX k);have bi:=hc.cons ho hd;have hw:Ug o (yielded ops a.tmps)=true:=by unfold Ug;rw[au.Cp i o ho]
  rw[if_pos hw];refine .inl ?_;have dl:∀d,o.dst=some d->d<a.tmps.size:=λd e=>by rw[ak.size];exact au.dst i o d ho e
  have lM:=az i (au.full i hi) o ho X hc hn hd;unfold OB at lM;by_cases dx:i∈es
  ·rw[if_pos dx]at lM;have aT:=lM.step (r:=r) (bad:=λ_ _=>False);refine aT E V a _ Q ak.br ak.tok dl (.inr (au.vS i o ho)) (λE' V' a' s' hk cx ht e=> ?_) λ_ _ _ _ _ _ _ _ _ h=>h.elim;subst e;rw[xf ho rfl]at ht cx;exact ih oy bi E' V' a' Q ⟨cx,ht,hk.size.trans ak.size⟩ λbS aW cu mH aI db fI=>hQ bS aW cu mH (hk.trans aI) db fI
  ·rw[if_neg dx]at lM;obtain⟨T,hT,hq⟩:=lM;refine hq E V a _ Q ak.br (λt av e=>ak.tok t av (hT t av e)) (.inr (au.vS i o ho)) λE' V' v hle cg eX cx hv=> ?_;have ht:cm E' ((⟨TX ops T0 f X,Hf (done es X)⟩:AS).put o.dst (f i)).T (a.put o.dst v).tmps:=cm.gM (s:=⟨TX ops T0 f X,Hf (done es X)⟩) (ak.tok.mono hle) dl hv;rw[xf ho rfl]at ht;refine ih oy bi E' V' (a.put o.dst v) Q ⟨by rw[Jz dx];exact cx,ht,(dY _ _ _).trans ak.size⟩ λbS aW cu mH hk db fI=>
    hQ bS aW cu mH ⟨hle.trans hk.le,hk.size.trans (dY _ _ _),hk.defers.trans (put_defers _ _ _),hk.role.trans cg,hk.deaf.trans eX⟩ db fI
def af6{s:AS}{id:Nat}{Φ:SI}(es ord:SE)(pl:List pO)(Hf:SE->SA)(hm:P.follows .mixedOrders=true)(au:pZ nt ops es ord=true)(dM:aco ops es ord=pl)(h0:s.H=Hf [])
  (h:fP lv P Hf ops pl s (Φ .normal) ⟨0⟩):aZ lv P r nt (.region id ops true) s Φ:=by
 intro E V a Q ak hQ;have au:=pZ.out au;obtain⟨fK,_,hlt⟩:=Eh au.top;have dz:s=⟨TX ops s.T (λ_=> .val undef) [],Hf (done es [])⟩:=by
  have:done es []=[]:=by simp[done]
  rw[this,<- h0];rfl
 subst dM;have h':fP lv P Hf ops (oL (fU ops ord []) es [] ord) ⟨TX ops s.T (λ_=> .val undef) [],Hf (done es [])⟩ (Φ .normal) ⟨0⟩:=by rw[<- dz];exact h
 obtain⟨f,_,q2,q3⟩:=B6 (r:=r) au ord [] _ au.top (λi hi=>by cases hi) h';have Ad:∀i,i∈ord<->i<ops.size:=λi=>⟨hlt i,au.full i⟩;refine Ox λt=> ?_;rw[show WT (P.follows .mixedOrders) ops t=Vu .any ops ops.size t (UI ops.size false) [] by unfold WT;rw[hm];simp[ab']];have binds:∀(A B:SE)(X:SE),kg ops X (A++B)=true->True:=λ_ _ _ _=>trivial;have ready:∀(ord X:SE),kg ops X ord=true->∀A i B,ord=A++i::B->∃o,ops[i]?=some o/\∀j∈cQ o,j∈A\/j∈X:=by
  intro ord;induction ord with
  |nil=>intro X _ A i B e;cases A<;>cases e
  |cons x l ih=>
   intro X nP A i B e;simp only[kg,Uk,UK,Vf,decide_eq_false_iff_not]at nP;obtain⟨⟨h1,h2⟩,h3⟩:=nP;cases A with
   |nil=>
    have e1:x=i:=(by have:=congrArg avR e;simpa using this);rw[e1]at h2;cases ho:ops[i]?with
    |none=>rw[ho]at h2;cases h2
    |some o=>
     rw[ho]at h2;exact⟨o,rfl,λj hj=> .inr (by have:=Uv.1 h2 j hj;simpa using this)⟩
   |cons y A=>
    cases e;obtain⟨o,ho,hb⟩:=ih (x::X) h3 A i B rfl;refine⟨o,ho,λj hj=> ?_⟩;rcases hb j hj with h|h
    ·exact .inl (T_ _ h)
    ·rcases Th.1 h with rfl|h
     ·exact .inl (Ut ..)
     ·exact .inr h
 have hs:=MY (ops:=ops) (λi o ho j hj=>by
   obtain⟨A,B,e⟩:=Z' (au.full i (Tl.1 ho).1);obtain⟨o',bf,hb⟩:=ready ord [] au.top A i B e;rw[ho]at bf;cases bf;rcases hb j hj with h|h
   ·exact hlt j (by rw[e];exact Ue _ h)
   ·cases h)
  (λX ⟨i,hi,hn⟩=>by
   obtain⟨A,i',B,e,h1,h2⟩:=J_ (X:=X) ⟨i,au.full i hi,hn⟩;obtain⟨o',bf,hb⟩:=ready ord [] au.top A i' B e;refine⟨i',o',bf,h1,λj hj=> ?_⟩;rcases hb j hj with h|h
   ·exact h2 j h
   ·cases h)
  ops.size t (UI ops.size false) [] ⟨by simp,λi hi=>by simp[hi]⟩ (Vb Z4 (by simp))
 have sO:At E V ⟨TX ops s.T f [],Hf (done es [])⟩ a nt:=by
  have e:(⟨TX ops s.T f [],Hf (done es [])⟩:AS)=s:=dz.symm;rw[e];exact ak
 refine ahH (Hf:=Hf) (es:=es) au q2 hs (by simp) (λi hi=>by cases hi) E V a Q sO λE' V' a' X' hk aU fI=> ?_;have fJ:∀i,i∈X'<->i∈ord.reverse++[]:=λi=>by simp[fI,Ad]
 refine hQ .normal .normal E' V' a' _ hk ⟨?_,λt x e=> ?_,aU.size⟩ trivial q3
 ·rw[<- Fx fJ];exact aU.br
 ·rw[<- EP au fJ]at e;exact aU.tok t x e
end
def isDone (j:Nat)(D:SE):Bool:=D.contains j
def amI(j:Nat):isDone j []=false:=by simp[isDone]
def amH(i j:Nat)(D:SE):isDone j (i::D)=((j==i)||isDone j D):=by
 by_cases h:j=i<;>simp[isDone,h]
def agX(lv:Bool)(P:Tg)(Hf:SE->SA)(T:SH)(o:U8)(av:AV):BQ lv P Hf T o av []=True:=by rw[BQ]
def agW(lv:Bool)(P:Tg)(Hf:SE->SA)(T:SH)(o:U8)(av:AV)(D D':SE)(l:List (SE×SE)):BQ lv P Hf T o av ((D,D')::l)=((AQ lv P ⟨T,Hf D⟩ o λa=>a=av)/\BQ lv P Hf T o av l):=by rw[BQ]
def agv(lv:Bool)(P:Tg)(Hf:SE->SA)(T:SH)(o:U8)(av:AV):BE lv P Hf T o av []=True:=by rw[BE]
def agu(lv:Bool)(P:Tg)(Hf:SE->SA)(T:SH)(o:U8)(av:AV)(D D':SE)(l:List (SE×SE)):BE lv P Hf T o av ((D,D')::l)=((jQ lv P (Hf D') ⟨T,Hf D⟩ o λa H'=>a=av/\H'=Hf D')/\BE lv P Hf T o av l):=by rw[BE]
def agr:type_of% @fP.eq_1:=by intros;rw[fP.eq_1]
def ags:type_of% @fP.eq_2:=by intros;rw[fP.eq_2]
def agq:type_of% @fP.eq_3:=by intros;rw[fP.eq_3]
def aeN:type_of% @jQ.eq_1:=by intros;rw[jQ.eq_1]
def ahX(G H:SA)(k:SF)(n m sz:Nat)(elem:TypeId)(l l':SC):qJ G H k n m sz elem l l' .exact=jS G[H.length]? (0<m/\k (.bI H.length 0 (n+m) 0) (H++[.own sz (l++l') elem])) (k (.sl (n+m) (l++l') (.opn H.length)) (H++[.tail (n+m) sz elem])) ⟨0⟩:=by rw[qJ]
def akh(X Y:Prop)(t:l9 X Y):jS none X Y t=Y:=by rw[jS];simp
def aki(a:Nat)(b:SC)(c:TypeId)(X Y:Prop)(t:l9 X Y):jS (some (.own a b c)) X Y t=X:=by rw[jS]
def akg(b:SC)(c:TypeId)(X Y:Prop)(t:l9 X Y):jS (some (.cells b c)) X Y t=Y:=by rw[jS];simp
def akl(a b:Nat)(c:TypeId)(X Y:Prop)(t:l9 X Y):jS (some (.tail a b c)) X Y t=Y:=by rw[jS];simp
def akf(b:Obj)(X Y:Prop)(t:l9 X Y):jS (some (.obj b)) X Y t=Y:=by rw[jS];simp
def akk(a:Nat)(b:SC)(c:TypeId)(X Y:Prop)(t:l9 X Y):jS (some (.part a b c)) X Y t=Y:=by rw[jS];simp
@[congr] theorem auO {x x' : Option aa} {X Y : Prop} {t : l9 X Y} (h : x = x') : jS x X Y t = jS x' X Y t := by rw[h]
def ahY(G H:SA)(k:SF)(n m sz:Nat)(elem:TypeId)(l l':SC)(i:Nat):qJ G H k n m sz elem l l' (.opn i)=((match H[i]?with
   |some (.tail n' eB fF)=>n'=n/\eB=sz/\fF=elem
   |_=>False)/\(∀a∈l',a.leaf=true)/\k (.sl (n+m) (l++l') (.opn i)) (H.set i (.tail (n+m) sz elem))):=by first|(rw[qJ];done)|(rw[qJ];rfl)
section
variable {lv:Bool}{P:Tg}{s s':AS}
@[congr] theorem aue {G G' : SA} {o : U8} {k : AV -> SA -> Prop} (hG : G = G') (h : s = s') : jQ lv P G s o k = jQ lv P G' s' o k := by rw[hG, h]
@[congr] theorem auC {Hf : SE -> SA} {ops : Array U8} {l l' : List pO} {K : AS -> Prop} {t : By K} (hl : l = l') (h : s = s') : fP lv P Hf ops l s K t = fP lv P Hf ops l' s' K t := by rw[hl, h]
@[congr] theorem auF {Hf : SE -> SA} {T T' : List (Nat × AV)} {o : U8} {av mI : AV} {l l' : List (SE × SE)} (h1 : T = T') (h2 : av = mI) (h3 : l = l') : BQ lv P Hf T o av l = BQ lv P Hf T' o mI l' := by rw[h1, h2, h3]
@[congr] theorem auD {Hf : SE -> SA} {T T' : List (Nat × AV)} {o : U8} {av mI : AV} {l l' : List (SE × SE)} (h1 : T = T') (h2 : av = mI) (h3 : l = l') : BE lv P Hf T o av l = BE lv P Hf T' o mI l' := by rw[h1, h2, h3]
@[congr] theorem auJ {f f' : AV} {H H' : SA} {aG tZ : SC} {k : AV -> SA -> Prop} {t : Bz k} (h1 : f = f') (h2 : H = H') (h3 : aG = tZ) : EG lv P f H aG k t = EG lv P f' H' tZ k t := by rw[h1, h2, h3]
@[congr] theorem auK {f f' : AV} {name : String} {H H' : SA} {aG tZ : SC} {k : AV -> SA -> Prop} {t : Bz k} (h1 : f = f') (h2 : H = H') (h3 : aG = tZ) : IL lv P f name H aG k t = IL lv P f' name H' tZ k t := by rw[h1, h2, h3]
@[congr] theorem auI {G G' H H' : SA} {k : AV -> SA -> Prop} {n n' m m' sz : Nat} {elem : TypeId} {l l' x x' : SC} {e e' : End} (hG : G = G') (h0 : H = H') (h1 : n = n') (h2 : m = m') (h3 : l = l') (h4 : x = x') (h5 : e = e') : qJ G H k n m sz elem l x e = qJ G' H' k n' m' sz elem l' x' e' := by rw[hG, h0, h1, h2, h3, h4, h5]
end
attribute [seval] amI amH agX agW agv agu agr ags agq aeN ahX ahY akh aki akg akl akf akk Bool.true_or Bool.false_or Bool.or_true Bool.or_false cond_true cond_false
def behind (j:Nat)(o:U8):U8:={o with after:=o.after.push {on:=j,ground:=.data}}
def oc (ops:SK)(i j:Nat):Array U8:=ops.modify i (behind j)
def afn(ops:SK)(i j:Nat):(oc ops i j).size=ops.size:=by simp[oc]
def qR(ops:SK)(i j k:Nat):(oc ops i j)[k]?=if i=k then(ops[k]?).map (behind j)else ops[k]?:=by
 unfold oc;rw[Wd]
def agy(j:Nat)(o:U8):cQ (behind j o)=cQ o++[j]:=by
 unfold cQ behind;simp only[Array.toList_push,List.filterMap_append];rfl
def acN{ops:SK}{i j:Nat}{X l:SE}(h:l_ ops X l):j∈X->l_ (oc ops i j) X l:=by
 induction h with
 |nil X h=>exactλ_=> .nil X λk hk=>h k (by rwa[afn]at hk)
 |cons o ho hn hd kE ih=>
  rename_i X k l;intro hj;by_cases e:i=k
  ·exact .cons (behind j o) (by rw[qR,if_pos e,ho];rfl) hn (λq hq=>by
    rw[agy]at hq;rcases Tp.1 hq with hq|hq
    ·exact hd q hq
    ·rw[T7.1 hq];exact hj) (ih (T_ _ hj))
  ·exact .cons o (by rw[qR,if_neg e];exact ho) hn hd (ih (T_ _ hj))
def arf{ops:SK}{i j:Nat}(j5:i≠j)(hi:i<ops.size){X l:SE}(h:l_ ops X l):i∉X->j∉X->l_ (oc ops i j) X l\/l_ (oc ops j i) X l:=by
 induction h with
 |nil X h=>exactλh1 _=>absurd (h i hi) h1
 |cons o ho hn hd kE ih=>
  rename_i X k l;intro h1 h2;by_cases e:k=i
  ·subst e;exact .inr (.cons o (by rw[qR,if_neg (Ne.symm j5)];exact ho) hn hd (acN kE Ut))
  ·by_cases e2:k=j
   ·subst e2;exact .inl (.cons o (by rw[qR,if_neg j5];exact ho) hn hd (acN kE Ut))
   ·rcases ih (λhm=>(Th.1 hm).elim (λx=>e x.symm) h1) (λhm=>(Th.1 hm).elim (λx=>e2 x.symm) h2)with q|q
    ·exact .inl (.cons o (by rw[qR,if_neg (Ne.symm e)];exact ho) hn hd q)
    ·exact .inr (.cons o (by rw[qR,if_neg (Ne.symm e2)];exact ho) hn hd q)
section
variable {lv:Bool}{P:Tg}{r:SL}{ops:SK}{nt:Nat}
def afo(i j:Nat)(tmps:SG):yielded (oc ops i j) tmps=yielded ops tmps:=by
 funext k;unfold yielded;rw[qR];by_cases e:i=k
 ·rw[if_pos e];cases ops[k]?<;>rfl
 ·rw[if_neg e]
def O5(i j:Nat)(Q:SJ):∀l:SE,di lv P r (oc ops i j) Q l=di lv P r ops Q l
 |[]=>rfl
 |k::l=>by
  funext a V;have ih:=O5 i j Q l;simp only[di];rw[qR,afo,ih];by_cases e:i=k
  ·rw[if_pos e];cases ho:ops[k]?with
   |none=>rfl
   |some o=>rfl
  ·rw[if_neg e]
def IY(i j:Nat)(Hf:SE->SA)(K:SV)(t:By K):∀(pl:List pO)(s:AS),fP lv P Hf (oc ops i j) pl s K t=fP lv P Hf ops pl s K t
 |[],_=>rfl
 |⟨k,false,_,l⟩::rest,s=>by
  have ih:=IY i j Hf K t rest;simp only[fP,qR];have e:∀o,ao (some o) (λo=>AQ lv P s o λav=>BQ lv P Hf s.T o av l/\fP lv P Hf (oc ops i j) rest (s.put o.dst av) K t)=ao (some o) (λo=>AQ lv P s o λav=>BQ lv P Hf s.T o av l/\fP lv P Hf ops rest (s.put o.dst av) K t):=λo=>by
   simp only[ao,ih]
  have bq:∀(o:U8) av,BQ lv P Hf s.T (behind j o) av l=BQ lv P Hf s.T o av l:=λo av=>by
   induction l with
   |nil=>rfl
   |cons p l lw=>exact congrArg (λx=>_/\x) (lw λo=>by simp only[ao,ih])
  split
  ·cases ops[k]?with
   |none=>rfl
   |some o=>
    simp only[VL,ao,ih,bq];rfl
  ·cases ops[k]?with
   |none=>rfl
   |some o=>exact e o
 |⟨k,true,D,l⟩::rest,s=>by
  have ih:=IY i j Hf K t rest;simp only[fP,qR];have be:∀(o:U8) av,BE lv P Hf s.T (behind j o) av l=BE lv P Hf s.T o av l:=λo av=>by
   induction l with
   |nil=>rfl
   |cons p l lw=>exact congrArg (λx=>_/\x) lw
  split
  ·cases ops[k]?with
   |none=>rfl
   |some o=>
    simp only[VL,ao,ih,be];rfl
  ·cases ops[k]?with
   |none=>rfl
   |some o=>simp only[ao,ih]
def ahJ{es ord:SE}(au:pZ nt ops es ord=true)(t:Nat):l_ ops [] (Vu .any ops ops.size t (UI ops.size false) []):=by
 have au:=pZ.out au;obtain⟨fK,_,hlt⟩:=Eh au.top;have ready:∀(ord X:SE),kg ops X ord=true->∀A i B,ord=A++i::B->∃o,ops[i]?=some o/\∀j∈cQ o,j∈A\/j∈X:=by
  intro ord;induction ord with
  |nil=>intro X _ A i B e;cases A<;>cases e
  |cons x l ih=>
   intro X nP A i B e;simp only[kg,Uk,UK,Vf,decide_eq_false_iff_not]at nP;obtain⟨⟨h1,h2⟩,h3⟩:=nP;cases A with
   |nil=>
    have e1:x=i:=(by have:=congrArg avR e;simpa using this);rw[e1]at h2;cases ho:ops[i]?with
    |none=>rw[ho]at h2;cases h2
    |some o=>
     rw[ho]at h2;exact⟨o,rfl,λj hj=> .inr (by have:=Uv.1 h2 j hj;simpa using this)⟩
   |cons y A=>
    cases e;obtain⟨o,ho,hb⟩:=ih (x::X) h3 A i B rfl;refine⟨o,ho,λj hj=> ?_⟩;rcases hb j hj with h|h
    ·exact .inl (T_ _ h)
    ·rcases Th.1 h with rfl|h
     ·exact .inl (Ut ..)
     ·exact .inr h
 exact MY (ops:=ops) (λi o ho j hj=>by
   obtain⟨A,B,e⟩:=Z' (au.full i (Tl.1 ho).1);obtain⟨o',bf,hb⟩:=ready ord [] au.top A i B e;rw[ho]at bf;cases bf;rcases hb j hj with h|h
   ·exact hlt j (by rw[e];exact Ue _ h)
   ·cases h)
  (λX ⟨i,hi,hn⟩=>by
   obtain⟨A,i',B,e,h1,h2⟩:=J_ (X:=X) ⟨i,au.full i hi,hn⟩;obtain⟨o',bf,hb⟩:=ready ord [] au.top A i' B e;refine⟨i',o',bf,h1,λj hj=> ?_⟩;rcases hb j hj with h|h
   ·exact h2 j h
   ·cases h)
  ops.size t (UI ops.size false) [] ⟨by simp,λi hi=>by simp[hi]⟩ (Vb Z4 (by simp))
end
inductive pJ (ops:Array U8):Array U8->Prop
 |base:pJ ops ops
 |add {o:Array U8} (h:pJ ops o) (i j:Nat):pJ ops (oc o i j)
section
variable {lv:Bool}{P:Tg}{r:SL}{ops o:SK}{nt:Nat}{s:AS}{Φ:SI}
def pJ.wp(h:pJ ops o)(Q:SJ)(l:SE):di lv P r o Q l=di lv P r ops Q l:=by
 induction h with
 |base=>rfl
 |add _ i j ih=>rw[O5,ih]
def pJ.PF(h:pJ ops o)(Hf:SE->SA)(K:SV)(t:By K)(pl:List pO)(s:AS):fP lv P Hf o pl s K t=fP lv P Hf ops pl s K t:=by
 induction h with
 |base=>rfl
 |add _ i j ih=>rw[IY,ih]
def DG (lv:Bool)(P:Tg)(r:SL)(nt:Nat)(ops o:SK)(s:AS)(Φ:SI):Prop:=
 ∀l E V a Q,l_ o [] l->At E V s a nt->(∀ae e E' V' a' s',Kept E E' V V' a a'->At E' V' s' a' nt->pL E' ae e->Φ ae s'->Q e a' V')->di lv P r ops Q l a V
def qV(i j:Nat)(j5:(i !=j&&decide (i<o.size))=true)(h1:DG lv P r nt ops (oc o i j) s Φ)(h2:DG lv P r nt ops (oc o j i) s Φ):DG lv P r nt ops o s Φ:=λl E V a Q hs ak hQ=>by
 rw[Uk,bne_iff_ne,decide_eq_true_eq]at j5;rcases arf j5.1 j5.2 hs (by simp) (by simp)with hs|hs
 ·exact h1 l E V a Q hs ak hQ
 ·exact h2 l E V a Q hs ak hQ
def af7{id:Nat}(es ord:SE)(hm:P.follows .mixedOrders=true)(au:pZ nt ops es ord=true)(h:DG lv P r nt ops ops s Φ):aZ lv P r nt (.region id ops true) s Φ:=by
 intro E V a Q ak hQ;refine Ox λt=> ?_;rw[show WT (P.follows .mixedOrders) ops t=Vu .any ops ops.size t (UI ops.size false) [] by unfold WT;rw[hm];simp[ab']];exact h _ E V a Q (ahJ au t) ak hQ
end
def Hm (lv:Bool)(P:Tg)(o:U8)(s:AS)(next:SV):Prop:=match o.op with
 |.call c=>match c.callee with
  |.value x=>ao (s.ev x) λsE=>ao (fe s c.args.toList) λaG=>Br lv P sE s.H aG (λb H'=>next ((⟨s.T,H'⟩:AS).put o.dst b)) (λ_ _=>False) ⟨0⟩
  |_=>False
 |_=>False
def M8 (ops:SK)(A B:SE)(m:Nat):Bool:=
 let cl:=fU ops (A++m::B) []
 A.all (λi=>(nz cl m).contains i)&&B.all λi=>(nz cl i).contains m
def pJ.get{ops o:SK}(h:pJ ops o){m:Nat}{om:U8}(hm:ops[m]?=some om):∃pE,o[m]?=some pE/\pE.op=om.op/\pE.dst=om.dst:=by
 induction h with
 |base=>exact⟨om,hm,rfl,rfl⟩
 |add _ i j ih=>
  obtain⟨q,h1,h2,h3⟩:=ih;rw[qR];split
  ·exact⟨behind j q,by rw[h1];rfl,h2,h3⟩
  ·exact⟨q,h1,h2,h3⟩
section
variable {lv:Bool}{P:Tg}{r:SL}{ops o:SK}{Hf:SE->SA}{T0:SH}{es ord:SE}{nt:Nat}{s:AS}{Φ:SI}
def Qf{f:Nat->AV}(au:yV nt ops ord)(G:SE)(az:∀i∈G,∀o,ops[i]?=some o->∀X',kN ops X'->i∉X'->(∀j∈cQ o,j∈X')->OB lv P r ops Hf T0 es f i o X'){X l:SE}(hs:l_ ops X l):
  (∀i∈X,i<ops.size)->kN ops X->∀(E:Env)(V:View)(a:Act)(Q:SJ),At E V ⟨TX ops T0 f X,Hf (done es X)⟩ a nt->
   (∀E' V' a' X' l',Kept E E' V V' a a'->At E' V' ⟨TX ops T0 f X',Hf (done es X')⟩ a' nt->(∀i∈X',i<ops.size)->kN ops X'->(∀i∈X',i∈X\/i∈G)->(∀i∈X,i∈X')->l_ ops X' l'->(∀i yr,l'=i::yr->i∉G)->di lv P r ops Q l' a' V')->di lv P r ops Q l a V:=by
 induction hs with
 |nil X h=>
  intro hX hc E V a Q ak hQ;exact hQ E V a X [] (Kept.refl E V a) ak hX hc (λi hi=> .inl hi) (λi hi=>hi) (.nil X h) (λi yr e=>by cases e)
 |cons o ho hn hd kE ih=>
  rename_i X i l;intro hX hc E V a Q ak hQ;by_cases hG:i∈G
  ·have hi:i<ops.size:=(Tl.1 ho).1;simp only[di,ho];have oy:∀k∈i::X,k<ops.size:=λk hk=>(Th.1 hk).elim (λe=>by rw[e];exact hi) (hX k);have bi:=hc.cons ho hd;have hw:Ug o (yielded ops a.tmps)=true:=(by unfold Ug;rw[au.Cp i o ho]);rw[if_pos hw];refine .inl ?_;have dl:∀d,o.dst=some d->d<a.tmps.size:=λd e=>(by rw[ak.size];exact au.dst i o d ho e);have lM:=az i hG o ho X hc hn hd;have lP:∀{mH:SE},(∀j∈mH,j∈i::X\/j∈G)->∀j∈mH,j∈X\/j∈G:=λh j hj=>by
    rcases h j hj with h|h
    ·rcases Th.1 h with rfl|h
     ·exact .inr hG
     ·exact .inl h
    ·exact .inr h
   unfold OB at lM;by_cases dx:i∈es
   ·rw[if_pos dx]at lM;have aT:=lM.step (r:=r) (bad:=λ_ _=>False);refine aT E V a _ Q ak.br ak.tok dl (.inr (au.vS i o ho)) (λE' V' a' s' hk cx ht e=> ?_) λ_ _ _ _ _ _ _ _ _ h=>h.elim;subst e;rw[xf ho rfl]at ht cx;exact ih oy bi E' V' a' Q ⟨cx,ht,hk.size.trans ak.size⟩ λbS aW cu mH yr aI db w1 w2 w3 w4=>hQ bS aW cu mH yr (hk.trans aI) db w1 w2 (lP w3) (λj hj=>w4 j (T_ _ hj))
   ·rw[if_neg dx]at lM;obtain⟨T,hT,hq⟩:=lM;refine hq E V a _ Q ak.br (λt av e=>ak.tok t av (hT t av e)) (.inr (au.vS i o ho)) λE' V' v hle cg eX cx hv=> ?_;have ht:cm E' ((⟨TX ops T0 f X,Hf (done es X)⟩:AS).put o.dst (f i)).T (a.put o.dst v).tmps:=cm.gM (s:=⟨TX ops T0 f X,Hf (done es X)⟩) (ak.tok.mono hle) dl hv;rw[xf ho rfl]at ht;refine ih oy bi E' V' (a.put o.dst v) Q ⟨by rw[Jz dx];exact cx,ht,(dY _ _ _).trans ak.size⟩ λbS aW cu mH yr hk db w1 w2 w3 w4=>
     hQ bS aW cu mH yr ⟨hle.trans hk.le,hk.size.trans (dY _ _ _),hk.defers.trans (put_defers _ _ _),hk.role.trans cg,hk.deaf.trans eX⟩ db w1 w2 (lP w3) (λj hj=>w4 j (T_ _ hj))
  ·exact hQ E V a X (i::l) (Kept.refl E V a) ak hX hc (λi hi=> .inl hi) (λi hi=>hi) (.cons o ho hn hd kE) (λj yr e=>by cases e;exact hG)
def adT{ops:SK}:∀{A L X:SE},kg ops X (A++L)=true->kg ops X A=true/\kg ops (A.reverse++X) L=true
 |[],L,X,h=>⟨rfl,h⟩
 |i::A,L,X,h=>by
  rw[WK,kg,Uk]at h;obtain⟨h1,h2⟩:=adT h.2;refine⟨by rw[kg,Uk];exact⟨h.1,h1⟩,?_⟩;rw[ag2,Ax];exact h2
def adU{ops:SK}:∀{A X:SE},kg ops X A=true->kN ops X->kN ops (A.reverse++X)
 |[],X,h,hX=>hX
 |i::A,X,h,hX=>by
  have nP:=h;simp only[kg,Uk,UK,Vf,decide_eq_false_iff_not]at nP;obtain⟨⟨hi,h2⟩,h3⟩:=nP;cases ho:ops[i]?with
  |none=>rw[ho]at h2;cases h2
  |some o=>
   rw[ho]at h2;have hd:∀j∈cQ o,j∈X:=λj hj=>(by have:=Uv.1 h2 j hj;simpa using this);have:=adU h3 (hX.cons ho hd);rw[ag2,Ax];exact this
def y_ (lv:Bool)(P:Tg)(ops:SK)(m:Nat)(wP:List pO)(Φ:SI)(s1:AS):Prop:=ao (ops[m]?) λom=>Hm lv P om s1 λs2=>∃nZ:SE->SA,s2.H=nZ []/\fP lv P nZ ops wP s2 (Φ .normal) ⟨0⟩
def ahy(ha:pJ ops o)(m:Nat)(A B mK kW:SE)(AZ wP:List pO)(l8:SE->SA)(au:pZ nt o [] (A++m::B)=true)(z_:M8 o A B m=true)(LP:oL (fU o (A++m::B) []) mK [] A=AZ)(LQ:oL (fU o (A++m::B) []) kW (m::A.reverse) B=wP)(K4:kW.all B.contains=true)(h0:s.H=l8 [])
  (h:fP lv P l8 ops AZ s (y_ lv P ops m wP Φ) ⟨0⟩):DG lv P r nt ops o s Φ:=λl E V a Q hs ak hQ=>by
 subst LP LQ;rw[<- ha.wp];rw[<- ha.PF]at h;have au:=pZ.out au;obtain⟨fK,_,hlt⟩:=Eh au.top;obtain⟨tA,tB⟩:=adT au.top;rw[Tu]at tB;have tB':kg o (m::A.reverse) B=true:=by
  rw[kg,Uk]at tB;exact tB.2
 unfold M8 at z_;dsimp only at z_;rw[Uk,Uv,Uv]at z_;obtain⟨cA,cB⟩:=z_;have s7:m∉A:=λhm=>(V_.1 fK).2.2 m hm m (by simp) rfl;have hmB:m∉B:=(WM.1 (V_.1 fK).2.1).1;have Rr:∀i∈B,i∉A:=λi hi hA=>(V_.1 fK).2.2 i hA i (by simp[hi]) rfl;have dz:s=⟨TX o s.T (λ_=> .val undef) [],l8 (done mK [])⟩:=by
  have:done mK []=[]:=by simp[done]
  rw[this,<- h0];rfl
 have h':fP lv P l8 o (oL (fU o (A++m::B) []) mK [] A) ⟨TX o s.T (λ_=> .val undef) [],l8 (done mK [])⟩ (y_ lv P ops m (oL (fU o (A++m::B) []) kW (m::A.reverse) B) Φ) ⟨0⟩:=by rw[<- dz];exact h
 obtain⟨f,_,q2,q3⟩:=B6 (r:=r) au A [] _ tA (λi hi=>by cases hi) h';have sO:At E V ⟨TX o s.T f [],l8 (done mK [])⟩ a nt:=by
  have e:(⟨TX o s.T f [],l8 (done mK [])⟩:AS)=s:=dz.symm;rw[e];exact ak
 refine Qf (Hf:=l8) (es:=mK) au A q2 hs (by simp) (λi hi=>by cases hi) E V a Q sO λE1 V1 a1 X1 l1 iD v8 hX1 cN L4 _ dA GD=> ?_;have hmX:m∉X1:=λhm=>by
  rcases L4 m hm with h|h
  ·cases h
  ·exact s7 h
 cases dA with
 |nil _ fI=>exact absurd (fI m (hlt m (by simp))) hmX
 |@cons _ i l2 pE ho hn hd kE=>
  have hi:i<o.size:=(Tl.1 ho).1;have hiA:i∉A:=GD i l2 rfl;have lJ:i=m:=by
   rcases Tp.1 (au.full i hi)with h|h
   ·exact absurd h hiA
   ·rcases Th.1 h with h|h
    ·exact h
    ·have:=cB i h;have hr:m∈nz (fU o (A++m::B) []) i:=(by simpa using this);exact absurd (A2 cN (zp hr) λo' bf k hk=>by rw[ho]at bf;cases bf;exact hd k hk) hmX
  subst lJ;have Rs:∀j∈A,j∈X1:=λj hj=>by
   have:=cA j hj;have hr:j∈nz (fU o (A++i::B) []) i:=(by simpa using this);exact A2 cN (zp hr) λo' bf k hk=>by rw[ho]at bf;cases bf;exact hd k hk
  have Lz:∀j,j∈X1<->j∈A.reverse++[]:=λj=>by
   rw[Tu,YL];exact⟨λh=>(L4 j h).elim (λh=>by cases h) id,Rs j⟩
  have KO:At E1 V1 ⟨TX o s.T f (A.reverse++[]),l8 (done mK (A.reverse++[]))⟩ a1 nt:=by
   refine⟨?_,λt x e=> ?_,v8.size⟩
   ·rw[<- Fx Lz];exact v8.br
   ·rw[<- EP au Lz]at e;exact v8.tok t x e
  simp only[di,ho];have hw:Ug pE (yielded o a1.tmps)=true:=by unfold Ug;rw[au.Cp i pE ho]
  rw[if_pos hw];refine .inl ?_;have dl:∀d,pE.dst=some d->d<a1.tmps.size:=λd e=>by rw[v8.size];exact au.dst i pE d ho e
  unfold y_ at q3;obtain⟨om,hom,q3⟩:=q3.out;obtain⟨om2,g1,g2,g3⟩:=ha.get hom;rw[ho]at g1;cases g1;unfold Hm at q3;obtain⟨c,x,ak3,akS,q4⟩:∃c x,om.op=.call c/\c.callee=.value x/\ao ((⟨TX o s.T f (A.reverse++[]),l8 (done mK (A.reverse++[]))⟩:AS).ev x) λsE=>ao (fe ⟨TX o s.T f (A.reverse++[]),l8 (done mK (A.reverse++[]))⟩ c.args.toList) λaG=>Br lv P sE (l8 (done mK (A.reverse++[]))) aG (λb H'=>∃nZ:SE->SA,((⟨TX o s.T f (A.reverse++[]),H'⟩:AS).put om.dst b).H=nZ []/\fP lv P nZ ops (oL (fU o (A++i::B) []) kW (i::A.reverse) B) ((⟨TX o s.T f (A.reverse++[]),H'⟩:AS).put om.dst b) (Φ .normal) ⟨0⟩) (λ_ _=>False) ⟨0⟩:=by
   split at q3
   ·rename_i c hc;split at q3
    ·rename_i x hx;exact⟨c,x,hc,hx,q3⟩
    ·exact q3.elim
   ·exact q3.elim
  obtain⟨sE,e1,q5⟩:=q4.out;obtain⟨aG,e2,q6⟩:=q5.out;have ln:=N5 (lv:=lv) (P:=P) (r:=r) (o:=pE) (s:=⟨TX o s.T f (A.reverse++[]),l8 (done mK (A.reverse++[]))⟩) (next:=λs2=>∃av H' nZ,s2=(⟨TX o s.T f (A.reverse++[]),H'⟩:AS).put pE.dst av/\H'=nZ []/\fP lv P nZ ops (oL (fU o (A++i::B) []) kW (i::A.reverse) B) s2 (Φ .normal) ⟨0⟩) (bad:=λ_ _=>False) (g2.trans ak3) akS e1 e2 (eM.mono q6 (λav H'=>by
    rintro⟨nZ,w1,w2⟩
    rw[<- g3]at w1 w2;refine⟨av,H',nZ,rfl,?_,w2⟩;rw[<- w1];cases pE.dst<;>rfl) (λ_ _ h=>h))
  refine ln E1 V1 a1 _ Q KO.br KO.tok dl (.inr (au.vS i pE ho)) (λE2 V2 a2 s2 cH cx GG e=> ?_) λ_ _ _ _ _ _ _ _ _ h=>h.elim;obtain⟨av,H',nZ,rfl,hH',hb⟩:=e;obtain⟨f',Sk⟩:∃f':Nat->AV,f'=λj=>if j=i then av else f j:=⟨_,rfl⟩;have hff:∀j∈A.reverse++[],f j=f' j:=λj hj=>by
   have:j≠i:=λe=>s7 (by subst e;simpa using hj);rw[Sk];simp[this]
  have hp:(⟨TX o s.T f (A.reverse++[]),H'⟩:AS).put pE.dst av=⟨TX o s.T f' (i::A.reverse),nZ (done kW (i::A.reverse))⟩:=by
   have lc:done kW (i::A.reverse)=[]:=by
    unfold done;rw[List.filter_eq_nil_iff];intro j hj;have:=Uv.1 K4 j hj;have Gk:j∈B:=(by simpa using this);have h1:j≠i:=λe=>hmB (e▸Gk);have h2:=Rr j Gk;simp[h1,h2]
   rw[BI hff,xf ho (by rw[Sk];simp),lc,hH',Tu]
  rw[hp]at hb cx GG;rw[<- ha.PF]at hb;have akY:kN o (i::A.reverse):=by
   have h1:=adU tA (X:=[]) (λi hi=>by cases hi);rw[Tu]at h1;exact h1.cons ho λj hj=>by
    have:=L4 j (hd j hj);simpa using this
  obtain⟨f2,p1,p2,p3⟩:=B6 (r:=r) au B (i::A.reverse) f' tB' akY hb;have aah:∀j,j∈i::X1<->j∈i::A.reverse:=λj=>by
   have:=Lz j;rw[Tu]at this;rw[Th,Th,this]
  have ux:At E2 V2 ⟨TX o s.T f2 (i::X1),nZ (done kW (i::X1))⟩ a2 nt:=by
   refine⟨?_,λt x e=> ?_,cH.size.trans KO.size⟩
   ·rw[Fx aah];exact cx
   ·rw[EP au aah,BI p1]at e;exact GG t x e
  refine Qf (Hf:=nZ) (es:=kW) au B p2 kE (λk hk=>(Th.1 hk).elim (λe=>by rw[e];exact hi) (hX1 k)) (cN.cons ho hd) E2 V2 a2 Q ux λE3 V3 a3 X3 l3 wq qa hX3 du au5 aan jj ams=> ?_;cases jj with
  |cons o3 wx LB k_ au4=>
   rename_i j l4;exfalso;have hj:j<o.size:=(Tl.1 wx).1;have Gk:=ams j l4 rfl;rcases Tp.1 (au.full j hj)with h|h
   ·exact LB (aan j (T_ _ (Rs j h)))
   ·rcases Th.1 h with rfl|h
    ·exact LB (aan j (Ut ..))
    ·exact Gk h
  |nil _ fI=>
   have aai:∀j,j∈X3<->j∈B.reverse++i::A.reverse:=λj=>by
    rw[Tp,Th,YL,YL];constructor
    ·intro h;have:=Tp.1 (au.full j (hX3 j h));rw[Th]at this;rcases this with h|h|h
     ·exact .inr (.inr h)
     ·exact .inr (.inl h)
     ·exact .inl h
    ·intro h;refine fI j (hlt j ?_);rw[Tp,Th];rcases h with h|h|h
     ·exact .inr (.inr h)
     ·exact .inr (.inl h)
     ·exact .inl h
   refine hQ .normal .normal E3 V3 a3 _ ((iD.trans cH).trans wq) ⟨?_,λt x e=> ?_,qa.size⟩ trivial p3
   ·rw[<- Fx aai];exact qa.br
   ·rw[<- EP au aai]at e;exact qa.tok t x e
def pY(m:Nat)(A B mK kW:SE){AZ wP:List pO}(l8:SE->SA)(h:fP lv P l8 ops AZ s (y_ lv P ops m wP Φ) ⟨0⟩)(ha:pJ ops o:=by repeat first|exact .base|apply pJ.add)(au:pZ nt o [] (A++m::B)=true:=by kernel_rfl)(z_:M8 o A B m=true:=by kernel_rfl)(LP:oL (fU o (A++m::B) []) mK [] A=AZ:=by conv=>lhs;cbv)(LQ:oL (fU o (A++m::B) []) kW (m::A.reverse) B=wP:=by conv=>lhs;cbv)(K4:kW.all B.contains=true:=by kernel_rfl)(h0:s.H=l8 []:=by rfl):DG lv P r nt ops o s Φ:=ahy ha m A B mK kW AZ wP l8 au z_ LP LQ K4 h0 h
end
def aok:type_of% @Hm.eq_1:=by intros;rw[Hm.eq_1]
def aol:type_of% @y_.eq_1:=by intros;rw[y_.eq_1]
attribute [seval] aok aol
open Go.Extern
section
variable {lv:Bool}{P:Tg}{H:SA}{args:SC}{k kp:SF}{g:UH}{m:Array T5->Sem T5}
def acY{V:View}{vs:SG}{K:Next->View->Prop}{Kp:SP}(he:Ext P g m)(h:aR P V (m vs) (λv V'=>K (.value v) V') Kp):aR P V (callFunc g vs) K Kp:=by
 obtain⟨fn,f1,f2,f3,f4,f5⟩:=he.fn;unfold callFunc;refine ay (oN (b8 ?_));rw[f1];dsimp only;rw[if_neg (by rw[f2];simp),if_pos f3];refine ay (arq (b8 ?_));rw[f4,f5];dsimp only;exact ay (h.mono (λv V' h=>aq h) λ_ _ h=>h)
def B8(he:Ext P g m)(h:∀E V vs,Conc E V H->bL E args vs->aR P V (m vs) (λv V'=>gh E V k kp (.ret v) V') (λv V'=>gh E V k kp (.panic [{v,recovered:=false}]) V')):eM lv P (.fn (.func g) [] []) H args k kp:=by
 intro E V cv vs hc hd mf;cases hd with
 |fn dA dH h1 h2=>
  rename_i fa ca;obtain rfl:fa=#[]:=Xm dA;obtain rfl:ca=#[]:=Xm dH;unfold VM;refine ay (aq ?_);unfold invoke;dsimp only;refine acY he ?_;rw[XC,Array.append_empty];exact h E V vs hc mf
def PJ(he:Ext P g m)(av:AV)(hs:∀E vs,bL E args vs->∃v,bm P (m vs) v/\ap E av v)(hk:k av H):eM lv P (.fn (.func g) [] []) H args k kp:=
 B8 he λE V vs hc hd=>by
  obtain⟨v,h1,h2⟩:=hs E vs hd;exact h1.ok ⟨av,E,H,.refl E,rfl,rfl,h2,hc,hk⟩
def P6{E:Env}{p v:T5}(h:ap E (.agg [.val p]) v):v=.agg #[p]:=by
 cases h with
 |agg hs h=>
  rename_i cs;have h0:=h 0 (.val p) rfl;generalize hx:cs.getD 0 undef=x at h0;cases h0;congr 1;refine Array.ext (by simpa using hs) λi h1 h2=> ?_;have:i=0:=by simp at h2;omega
  subst this;rw[Td,Tf h1]at hx;simpa using hx
def G5{t:TypeId}{p rv:T5}{name:String}(av:AV)(hm:bm P (method (P.types.size+ZB) t (.agg #[p]) name) (g,rv))(he:Ext P g m)(hs:∀E vs,bL E args vs->∃v,bm P (m (#[rv]++vs)) v/\ap E av v)(hk:k av H):sj lv P (.bR t (.agg [.val p])) name H args k kp:=by
 intro E V cv vs hc hd mf;cases hd with
 |bR hd=>
  rename_i v;obtain rfl:=P6 hd;unfold invoke;have e:(#[YO t (.agg #[p])]++vs)[0]?=some (.iface t (.agg #[p])):=by rw[XB (by simp)];rfl
  simp only[e];have e2:(#[YO t (.agg #[p])]++vs).extract 1 (#[YO t (.agg #[p])]++vs).size=vs:=by
   apply Ws;simp[Array.toList_extract,Zs]
  rw[e2];unfold callMethod;dsimp only;refine ay (oN (b8 ?_));refine hm.bind ?_;dsimp only;refine acY he ?_;obtain⟨v,h1,h2⟩:=hs E vs mf;exact h1.ok ⟨av,E,H,.refl E,rfl,rfl,h2,hc,hk⟩
end
section
variable {lv:Bool}{P:Tg}{H:SA}{k kp:SF}{g:UH}
def xw{E:Env}{a:AV}{vs:SG}(h:bL E [a] vs):∃v,vs=#[v]/\ap E a v:=by
 obtain⟨hs,h⟩:=h;have h0:=h 0 a rfl;refine⟨vs.getD 0 undef,?_,h0⟩;refine Array.ext (by simpa using hs) λi h1 h2=> ?_;have:i=0:=by simp at h2;omega
 subst this;simp[Td,Tf h1]
def ahw{E:Env}{a b:AV}{vs:SG}(h:bL E [a,b] vs):∃v w,vs=#[v,w]/\ap E a v/\ap E b w:=by
 obtain⟨hs,h⟩:=h;refine⟨vs.getD 0 undef,vs.getD 1 undef,?_,h 0 a rfl,h 1 b rfl⟩;refine Array.ext (by simpa using hs) λi h1 h2=> ?_;have:i=0\/i=1:=by simp at h2;omega
 rcases this with rfl|rfl<;>simp[Td,Tf h1]
def Cd{E:Env}{p f:T5}{c off:Nat}{v:T5}(h:ap E (.agg [.val p,.op c off,.val f]) v):c<E.n/\v=.agg #[p,.pointer (some ⟨E.blk c,off,none⟩),f]:=by
 cases h with
 |agg hs h=>
  rename_i cs;have h0:=h 0 (.val p) rfl;have h1:=h 1 (.op c off) rfl;have h2:=h 2 (.val f) rfl;generalize hx:cs.getD 0 undef=x at h0;generalize hy:cs.getD 1 undef=y at h1;generalize hz:cs.getD 2 undef=z at h2;cases h0;cases h2;cases h1 with
  |op hi=>
   refine⟨hi,?_⟩;congr 1;refine Array.ext (by simpa using hs) λi h1 h2=> ?_;have:i=0\/i=1\/i=2:=(by simp at h2;omega);rw[Td]at hx hy hz;rcases this with rfl|rfl|rfl
   ·rw[Tf h1]at hx;simpa using hx
   ·rw[Tf h1]at hy;simpa using hy
   ·rw[Tf h1]at hz;simpa using hz
def aiA{t:TypeId}{a:AV}{l:SC}{h:T5}{kd:Nat}(he:Ext P g λargs=>ReflectliteValue.unpack (args.getD 0 (.tuple #[])))(hh:bm P (Rtype.handle t) h)(dP:bm P (Rtype.kind t) kd)(hl:a.parts=some l)
  (hk:k (.agg [.val h,.op H.length 0,.val (.int .u64 (awD (kd+ReflectliteValue.flagIndir+0)))]) (H++[.cells l t])):eM lv P (.fn (.func g) [] []) H [.bR t a] k kp:=
 B8 he λE V vs hc hd=>by
  obtain⟨v,rfl,hv⟩:=xw hd;cases hv with
  |bR hv=>
   rename_i v;have e:(#[YO t v]:SG).getD 0 (.tuple #[])=.iface t v:=rfl;rw[e];unfold ReflectliteValue.unpack;refine ay ?_;unfold newVar newRow;refine ay (nY λrr hf=>b8 (aq ?_));unfold ReflectliteValue.mk;refine hh.bind (dP.bind (aq ?_));have kz:=hv.parts hl;have hle:E.Le (E.add rr V.ab):=E.pz rr (λb o v h=>by rw[<- hc.I];exact h);have bi:Conc (E.add rr V.ab) (V.upd rr (.cells v.cells t)) (H++[.cells l t]):=by
    refine hc.add hf _ ⟨⟨v.cells,?_,kz.mono hle⟩,λo=> ?_⟩ (λb e=> ?_)
    ·rw[Env.dE];simp[View.upd]
    ·rw[Env.dE];exact hf.2 o
    ·simp only[bJ,Env.dE,Uh]at e;exact e.symm
   refine⟨_,_,_,hle,rfl,rfl,?_,bi,hk⟩;refine .agg rfl λi b hb=> ?_
   match i,hb with
   |0,hb=>cases hb;exact .val _
   |1,hb=>cases hb;exact Jt hc.n rr V.ab
   |2,hb=>cases hb;exact .val _
def aiy{t:TypeId}{c b off:Nat}{h:T5}{f:Int}{z:Sem T5}(he:Ext P g (ReflectliteValue.method z ReflectliteValue.isNil))(hp:∀a,bm P (ReflectliteValue.parts (.agg #[h,.pointer (some a),.int .u64 f])) (some (t,a,f.toNat)))(hf:f.toNat % 32=22)
  (ht:Ty P t=some (1,false)) (hc:H[c]?=some (.cells [.op b off] t)) (hk:k (.val (.bool false)) H):eM lv P (.fn (.func g) [] []) H [.agg [.val h,.op c 0,.val (.int .u64 f)]] k kp:=
 B8 he λE V vs ez hd=>by
  obtain⟨v,rfl,hv⟩:=xw hd;obtain⟨hi,rfl⟩:=Cd hv;unfold ReflectliteValue.method;refine(hp _).bind ?_;dsimp only;rw[hf];unfold ReflectliteValue.isNil;rw[if_neg (by decide)];refine ay ?_;obtain⟨i,d,h1,h2,h3,h4⟩:=Ty.out ht;obtain⟨b',o',fv,e1,hg,ig,lc⟩:=ez.at (s:=⟨[],H⟩) (.op (off:=0) hi) (l:=[.op b off]) (by simp only[AS.at,hc,WY]);cases e1;unfold loadVar;refine vf h2 ?_;rw[h4];simp only[UB,if_false];have kA:=hg 0 (by simp);rw[Vl]at kA;refine A_ kA (.inl (ig (by simp))) (b8 ?_);have aO:=lc 0 (.op b off) rfl;generalize fv 0=w at aO;cases aO with
  |op hj=>exact aq ⟨_,E,H,.refl E,rfl,rfl,.val _,ez,hk⟩
def aix{t t':TypeId}{c b off:Nat}{h h':T5}{f:Int}{kd:Nat}{z:Sem T5}(he:Ext P g (ReflectliteValue.method z ReflectliteValue.elem))(hp:∀a,bm P (ReflectliteValue.parts (.agg #[h,.pointer (some a),.int .u64 f])) (some (t,a,f.toNat)))(hf:f.toNat % 32=22)
  (ht:Ty P t=some (1,false)) (CS:bm P (Rtype.elem? t) (some t')) (hh:bm P (Rtype.handle t') h') (dP:bm P (Rtype.kind t') kd) (hc:H[c]?=some (.cells [.op b off] t))
  (hk:k (.agg [.val h',.op b off,.val (.int .u64 (awD (kd+ReflectliteValue.flagIndir+ReflectliteValue.flagAddr)))]) H):eM lv P (.fn (.func g) [] []) H [.agg [.val h,.op c 0,.val (.int .u64 f)]] k kp:=
 B8 he λE V vs ez hd=>by
  obtain⟨v,rfl,hv⟩:=xw hd;obtain⟨hi,rfl⟩:=Cd hv;unfold ReflectliteValue.method;refine(hp _).bind ?_;dsimp only;rw[hf];unfold ReflectliteValue.elem;rw[if_neg (by decide)];refine ay ?_;obtain⟨i,d,h1,h2,h3,h4⟩:=Ty.out ht;obtain⟨b',o',fv,e1,hg,ig,lc⟩:=ez.at (s:=⟨[],H⟩) (.op (off:=0) hi) (l:=[.op b off]) (by simp only[AS.at,hc,WY]);cases e1;unfold loadVar;refine vf h2 ?_;rw[h4];simp only[UB,if_false];have kA:=hg 0 (by simp);rw[Vl]at kA;refine A_ kA (.inl (ig (by simp))) (b8 ?_);have aO:=lc 0 (.op b off) rfl;generalize fv 0=w at aO;cases aO with
  |op hj=>
   refine CS.bind ?_;unfold ReflectliteValue.mk;refine hh.bind (dP.bind (aq ⟨_,E,H,.refl E,rfl,rfl,?_,ez,hk⟩));refine .agg rfl λi b hb=> ?_
   match i,hb with
   |0,hb=>cases hb;exact .val _
   |1,hb=>cases hb;exact .op hj
   |2,hb=>cases hb;exact .val _
def aiz{t:TypeId}{b c n:Nat}{l l':SC}{h:T5}{f1 f2:Int}{el fF:TypeId}(he:Ext P g ReflectliteValue.set)(hp:∀a f,f=f1\/f=f2->bm P (ReflectliteValue.parts (.agg #[h,.pointer (some a),.int .u64 f])) (some (t,a,f.toNat)))(hf:(f1.toNat/ReflectliteValue.flagAddr % 2==0)=false)
  (ht:Ty P t=some (n,true)) (hda:bm P (Rtype.directlyAssignable t t) true) (hb:H[b]?=some (.cells l' el)) (hc:H[c]?=some (.cells l fF)) (hl:l.length=n) (eF:l'.length=n) (j7:∀a∈l,a.leaf=true)
  (hk:k (.aF []) (H.set b (.cells (iw l' 0 l) el))):eM lv P (.fn (.func g) [] []) H [.agg [.val h,.op b 0,.val (.int .u64 f1)],.agg [.val h,.op c 0,.val (.int .u64 f2)]] k kp:=
 B8 he λE V vs ez hd=>by
  obtain⟨v,w,rfl,hv,hw⟩:=ahw hd;obtain⟨hi,rfl⟩:=Cd hv;obtain⟨hj,rfl⟩:=Cd hw;unfold ReflectliteValue.set;refine(hp _ _ (.inl rfl)).bind ((hp _ _ (.inr rfl)).bind ?_);dsimp only;rw[if_neg (by rw[hf];simp)];refine ay ?_;obtain⟨i,d,h1,h2,h3,h4⟩:=Ty.out ht;obtain⟨b',o',fv,e1,hg,ig,lc⟩:=ez.at (s:=⟨[],H⟩) (.op (off:=0) hj) (l:=l) (by simp only[AS.at,hc,WY]);cases e1;unfold loadVar;refine vf h2 ?_;rw[h4];simp only[if_true];refine jo h1 ?_;rw[h3];refine ay (yJ (f:=fv) (λh=>ig (by omega)) (λj hj=>hg j (by omega)) (aq ?_));refine hda.bind ?_;rw[if_pos rfl];refine ay ?_;obtain⟨⟨cs,p1,p2⟩,p3⟩:=ez.obj b _ hb;obtain⟨g1,g2⟩:=ez.iV hb rfl;have bh:bL E l ((Tt n).map fv).toArray:=by
   have:=Fq (E:=E) (l:=l) (f:=fv) (n:=n) (by omega) lc;rw[Tn (by omega)]at this;cases this with
   |agg a b=>exact⟨a,b⟩
  unfold storeVar;refine jo h1 ?_;have aV:(Us ((Tt n).map fv).toArray).cells=((Tt n).map fv).toArray:=rfl;rw[aV,h3];rw[if_neg (by simp)];refine yL _ 0 V cs g1 g2 p1 (λo _ _=>p3 o) (by have:=p2.1;simp;omega) (zv bh j7) ?_;rw[Vl];exact aq ⟨_,E,_,.refl E,rfl,rfl,.aF rfl (by simp),ez.set hb (Ft p2 bh (by omega)),hk⟩
end
open Go.Proofs
def F.OP:kj ij 74=(Ti Go.Gg.y9.map):=by kernel_rfl
def F.OW:eJ ij 4=(Ti (Yg Bool.false)):=by kernel_rfl
def F.OX:eJ ij 85=(Ti (Us #[(Yg Bool.false),(al' Option.none),(S_ T6 (0)),(S_ T6 (0)),(S_ T6 (0)),(S_ T6 (0)),(S_ T6 (0)),(S_ T6 (0)),(S_ T6 (0)),(S_ T6 (0)),(S_ T6 (0)),(S_ T6 (0)),(S_ T6 (0)),(S_ T6 (0)),(S_ T6 (0)),(S_ T6 (0)),(S_ T6 (0)),(S_ Tc (0)),(S_ Tc (0)),(S_ Tc (0)),(S_ Tc (0)),(S_ Tc (0)),(S_ Tc (0)),(S_ Tc (0)),(S_ Tc (0)),(S_ Tc (0)),(S_ Tc (0)),(S_ Tc (0))])):=by kernel_rfl
def F.aaW:lx ij 104=(Ti Bool.false):=by kernel_rfl
def F.MA:lx ij 139=(Ti Bool.false):=by kernel_rfl
def F.G7:lx ij 144=(Ti Bool.false):=by kernel_rfl
def F.aaX:lx ij 147=(Ti Bool.false):=by kernel_rfl
def F.MB:lx ij 163=(Ti Bool.false):=by kernel_rfl
def F.qz:lx ij 92=(Ti Bool.true):=by kernel_rfl
def F.f27:ij.funcs[27]?=some Tryz.f27:=by kernel_rfl
def F.f87:ij.funcs[87]?=some Tryz.f87:=by kernel_rfl
def F.f98:ij.funcs[98]?=some YP:=by kernel_rfl
def F.f110:ij.funcs[110]?=some Tryz.f110:=by kernel_rfl
def F.f117:ij.funcs[117]?=some Tryz.f117:=by kernel_rfl
def F.f120:ij.funcs[120]?=some awo:=by kernel_rfl
def F.mixed:ij.follows .mixedOrders=true:=by kernel_rfl
inductive dI (lv:Bool)(P:Tg)(r:Option Nat)(nt:Nat):UX->(an->AS->Prop)->UX->(an->AS->Prop)->Prop
 |base {c:UX} {Φ:an->AS->Prop}:dI lv P r nt c Φ c Φ
 |seq {x y h:UX} {Φ Ψ:an->AS->Prop} (i:dI lv P r nt x (an.then (λs=>aZ lv P r nt y s Φ) Φ) h Ψ):dI lv P r nt (.seq x y) Φ h Ψ
 |block {id:Nat} {x h:UX} {Φ Ψ:an->AS->Prop} (i:dI lv P r nt x (an.inBlock id Φ) h Ψ):dI lv P r nt (.block id x) Φ h Ψ
section
variable {lv:Bool}{P:Tg}{r:SL}{s:AS}{nt id:Nat}{ops:SK}{c h:UX}{Φ Ψ:SI}
def bw{f:UH}{H:SA}{args:SC}{k kp:SF}{rs:SW}(fn:avu)
  (h:bO H->(∀a∈args,Lt H.length a)->aZ lv P none nt c ⟨bc 0 args,H⟩ (tQ P rs H.length k kp)) (hf:P.funcs[f]?=some fn:=by kernel_rfl) (hb:fn.body=some c:=by rfl) (hr:fn.results=rs.toArray:=by rfl) (hn:fn.ntmps=nt:=by rfl) (cM:args.length<=nt:=by simp):a_ lv P f H args k kp:=ajW hf hb hr hn cM h
def dI.go(i:dI lv P r nt c Φ h Ψ):∀{s:AS},aZ lv P r nt h s Ψ->aZ lv P r nt c s Φ:=by
 induction i with
 |base=>exactλh=>h
 |seq _ ih=>exactλk=>iA (ih k)
 |block _ ih=>exactλk=>Pl (ih k)
def ah(h:iy lv P ops ops.toList s (Ψ .normal) (λpv s=>Ψ (.panic pv) s))(i:dI lv P r nt c Φ (.region id ops false) Ψ:=by repeat first|exact .base|apply dI.seq|apply dI.block)(hd:jL nt ops=true:=by kernel_rfl):aZ lv P r nt c s Φ:=i.go (Pq hd h)
def auw{o:Ui}{x y:UX}(h:ao (s.ev o) λa=>a.asBool λb=>(b=true->aZ lv P r nt x s Ψ)/\(b=false->aZ lv P r nt y s Ψ))(i:dI lv P r nt c Φ (.cond o x y) Ψ:=by repeat first|exact .base|apply dI.seq|apply dI.block):aZ lv P r nt c s Φ:=i.go (Pm h)
def age(h:Ψ .normal s)(i:dI lv P r nt c Φ .skip Ψ:=by repeat first|exact .base|apply dI.seq|apply dI.block):aZ lv P r nt c s Φ:=i.go (Pt h)
def kq(h:Ψ .ret s)(i:dI lv P r nt c Φ .ret Ψ:=by repeat first|exact .base|apply dI.seq|apply dI.block):aZ lv P r nt c s Φ:=i.go (Pr h)
def auy(h:Ψ (.exit id) s)(i:dI lv P r nt c Φ (.exit id) Ψ:=by repeat first|exact .base|apply dI.seq|apply dI.block):aZ lv P r nt c s Φ:=i.go (Pn h)
def b_{x:UX}(h:aZ lv P r nt x s (an.inBlock id Ψ))(i:dI lv P r nt c Φ (.block id x) Ψ:=by repeat first|exact .base|apply dI.seq|apply dI.block):aZ lv P r nt c s Φ:=i.go (Pl h)
def ai{p:Prop}(h:p)(i:dI lv P r nt c Φ (.region id ops false) Ψ:=by repeat first|exact .base|apply dI.seq|apply dI.block)(e:iy lv P ops ops.toList s (Ψ .normal) (λpv s=>Ψ (.panic pv) s)=p:=by conv=>lhs;simp only[seval])(hd:jL nt ops=true:=by kernel_rfl):aZ lv P r nt c s Φ:=i.go (Pq hd (e.mpr h))
def aA{p:Prop}{o:Ui}{x y:UX}(h:p)(i:dI lv P r nt c Φ (.cond o x y) Ψ:=by repeat first|exact .base|apply dI.seq|apply dI.block)(e:(ao (s.ev o) λa=>a.asBool λb=>(b=true->aZ lv P r nt x s Ψ)/\(b=false->aZ lv P r nt y s Ψ))=p:=by conv=>lhs;simp only[seval]):aZ lv P r nt c s Φ:=i.go (Pm (e.mpr h))
def aL{p:Prop}(h:p)(i:dI lv P r nt c Φ .skip Ψ:=by repeat first|exact .base|apply dI.seq|apply dI.block)(e:Ψ .normal s=p:=by conv=>lhs;simp only[seval]):aZ lv P r nt c s Φ:=i.go (Pt (e.mpr h))
def aP{p:Prop}(h:p)(i:dI lv P r nt c Φ .ret Ψ:=by repeat first|exact .base|apply dI.seq|apply dI.block)(e:Ψ .ret s=p:=by conv=>lhs;simp only[seval]):aZ lv P r nt c s Φ:=i.go (Pr (e.mpr h))
def bT{p:Prop}(h:p)(i:dI lv P r nt c Φ (.exit id) Ψ:=by repeat first|exact .base|apply dI.seq|apply dI.block)(e:Ψ (.exit id) s=p:=by conv=>lhs;simp only[seval]):aZ lv P r nt c s Φ:=i.go (Pn (e.mpr h))
def eo{Φ Ψ:SI}{c:UX}(p:Nat)(h:nc lv P ops (ops.toList.take p) s (λs'=>iy lv P ops (ops.toList.drop p) s' (Ψ .normal) (λpv s=>Ψ (.panic pv) s)))(i:dI lv P r nt c Φ (.region id ops true) Ψ:=by repeat first|exact .base|apply dI.seq|apply dI.block)(hm:P.follows .mixedOrders=true:=by kernel_rfl)(au:zw nt p ops=true:=by kernel_rfl):aZ lv P r nt c s Φ:=i.go (af5 hm p au h)
def oY{Φ Ψ:SI}{c:UX}(es ord:SE){pl:List pO}(Hf:SE->SA)(h:fP lv P Hf ops pl s (Ψ .normal) ⟨0⟩)(i:dI lv P r nt c Φ (.region id ops true) Ψ:=by repeat first|exact .base|apply dI.seq|apply dI.block)(hm:P.follows .mixedOrders=true:=by kernel_rfl)(au:pZ nt ops es ord=true:=by kernel_rfl)(dM:aco ops es ord=pl:=by conv=>lhs;cbv)(h0:s.H=Hf []:=by first|rfl|simp only[seval]):aZ lv P r nt c s Φ:=i.go (af6 es ord pl Hf hm au dM h0 h)
def t_(n:Nat)(V:Nat->SH)(Hf:Nat->SA)(ok:S7)(hm:ok 0)
  (h:bO s.H->(∀t a,look s.T t=some a->Lt s.H.length a)->∀m,m<=n->ok m->∀R:SV,(∀s',(m<n/\ok (m+1)/\tX s.T (V m) (V (m+1)) (Hf (m+1)) s')->R s')->aZ lv P r nt c ⟨V m++s.T,Hf m⟩ (an.then R Φ)) (CZ:∀m m',(V m).map (·.1)=(V m').map (·.1):=by exactλ_ _=>rfl) (iM:∀p∈V 0,∃b,look s.T p.1=some b/\Wk b p.2:=by(simp only[seval];simp[bP,Wk.refl])) (Cv:Hf 0=s.H:=by rfl) (hl:∀m,m<=n->ok m->(Hf m).length=s.H.length:=by exactλ_ _ _=>rfl):aZ lv P r nt (.loop c) s Φ:=fS n V Hf ok CZ iM Cv hl hm h
def dp{base Vi Vn T:SH}{H:SA}(hk:sk T (Vi++base) Vn:=by exact qA rfl rfl)(hv:∀p∈Vn,∃b,look T p.1=some b/\Wk b p.2:=by(simp only[seval];simp[bP,Wk.refl])):tX base Vi Vn H ⟨T,H⟩:=aqR hk hv
def acG{base Vi Vn T:SH}{H H':SA}(au:bO H)(hg:∃G,H++G=H':=by first|exact⟨_,rfl⟩|exact⟨_,Ax ..⟩)(hk:sk T (Vi++base) Vn:=by exact qA rfl rfl)(hv:∀p∈Vn,∃b,look T p.1=some b/\Wk b p.2:=by(simp only[seval];simp[bP,Wk.refl]))(hlt:∀p∈Vn,Lt H.length p.2:=by simp[dN]):tX base Vi Vn H ⟨T,H'⟩:=by
 obtain⟨G,rfl⟩:=hg;exact acF hk hv au hlt
def cO{H:SA}{args:SC}{k kp:SF}{g:UH}{first cT:SC}(hf:a_ lv P g H (first++args++cT) k kp)(hg:qH P g=true:=by kernel_rfl):eM lv P (.fn (.func g) first cT) H args k kp:=Jg hg hf
end
def aK{lv:Bool}{P:Tg}{H:SA}{args:SC}{k kp:SF}{g:UH}{first cT:SC}{t:BA k kp}(hf:a_ lv P g H (first++args++cT) k kp)(hg:qH P g=true:=by kernel_rfl):Br lv P (.fn (.func g) first cT) H args k kp t:=nu (Jg hg hf)
def F.q0:jE ij 22 22=(Ti (29,(3,(Us #[(S_ Tc (0)),(S_ Tc (0)),(S_ Tc (0))]))))/\jE ij 23 23=(Ti (68,(4,(Us #[(S_ Tc (0)),(S_ Tc (0)),(S_ Tc (0)),(S_ Tc (0))]))))/\jE ij 30 30=(Ti (3,(1,(S_ Tc (0)))))/\jE ij 88 88=(Ti (30,(1,(Vh Option.none 0 0))))/\m_ ij 104=(Ti ((Go.Gg.gO.fields [(0,1),(1,1)]),(Us #[(S_ Tc (0)),(S_ Tc (0))])))/\m_ ij 139=(Ti ((Go.Gg.gO.fields [(0,1),(1,1)]),(Us #[(S_ Tc (0)),(S_ Tc (0))])))/\m_ ij 144=(Ti ((Go.Gg.gO.fields [(0,1),(1,1)]),(Us #[(S_ Tc (0)),(S_ Tc (0))])))/\m_ ij 163=(Ti ((Go.Gg.gO.fields []),(Us #[])))/\m_ ij 25=(Ti ((Go.Gg.gO.fields [(0,1),(1,1),(2,1),(3,1),(4,1),(5,1)]),(Us #[(S_ Tc (0)),(S_ Tc (0)),(S_ Tc (0)),(Vh Option.none 0 0),(Vh Option.none 0 0),(Vh Option.none 0 0)])))/\m_ ij 27=(Ti ((Go.Gg.gO.fields [(0,1),(1,1)]),(Us #[(S_ Tc (0)),(S_ Tc (0))])))/\m_ ij 29=(Ti ((Go.Gg.gO.fields [(0,1),(1,2)]),(Us #[(S_ Tc (0)),(S_ Tc (0)),(S_ Tc (0))])))/\m_ ij 68=(Ti ((Go.Gg.gO.fields [(0,2),(2,2)]),(Us #[(S_ Tc (0)),(S_ Tc (0)),(S_ Tc (0)),(S_ Tc (0))])))/\m_ ij 71=(Ti ((Go.Gg.gO.fields [(0,1),(1,1),(2,1)]),(Us #[(Vh Option.none 0 0),(S_ Tc (0)),(S_ Ux (0))])))/\m_ ij 73=(Ti ((Go.Gg.gO.fields [(0,6)]),(Us #[(S_ Tc (0)),(S_ Tc (0)),(S_ Tc (0)),(Vh Option.none 0 0),(Vh Option.none 0 0),(Vh Option.none 0 0)])))/\m_ ij 83=(Ti ((Go.Gg.gO.fields [(0,4),(4,4),(8,3)]),(Us #[(S_ Tc (0)),(S_ Tc (0)),(S_ Tc (0)),(S_ Tc (0)),(S_ Tc (0)),(S_ Tc (0)),(S_ Tc (0)),(S_ Tc (0)),(S_ Tc (0)),(S_ Tc (0)),(S_ Tc (0))])))/\m_ ij 85=(Ti ((Go.Gg.gO.fields [(0,1),(1,1),(2,4),(6,4),(10,4),(14,3),(17,11)]),(Us #[(Yg Bool.false),(al' Option.none),(S_ T6 (0)),(S_ T6 (0)),(S_ T6 (0)),(S_ T6 (0)),(S_ T6 (0)),(S_ T6 (0)),(S_ T6 (0)),(S_ T6 (0)),(S_ T6 (0)),(S_ T6 (0)),(S_ T6 (0)),(S_ T6 (0)),(S_ T6 (0)),(S_ T6 (0)),(S_ T6 (0)),(S_ Tc (0)),(S_ Tc (0)),(S_ Tc (0)),(S_ Tc (0)),(S_ Tc (0)),(S_ Tc (0)),(S_ Tc (0)),(S_ Tc (0)),(S_ Tc (0)),(S_ Tc (0)),(S_ Tc (0))]))):=by and_intros<;>kernel_rfl
def F.q1:Bs ij 3 69=(Ti (Ti Ux))/\Bs ij 69 3=(Ti (Ti Tc))/\eN ij 104 0=(Ti 0)/\eN ij 104 1=(Ti 1)/\eN ij 134 0=(Ti 0)/\eN ij 134 1=(Ti 1)/\eN ij 134 2=(Ti 2)/\eN ij 139 0=(Ti 0)/\eN ij 139 1=(Ti 1)/\eN ij 25 0=(Ti 0)/\eN ij 25 1=(Ti 1)/\eN ij 25 2=(Ti 2)/\eN ij 25 3=(Ti 3)/\eN ij 25 4=(Ti 4)/\eN ij 25 5=(Ti 5)/\eN ij 27 0=(Ti 0):=by and_intros<;>kernel_rfl
def F.q2:eN ij 27 1=(Ti 1)/\eN ij 29 0=(Ti 0)/\eN ij 29 1=(Ti 1)/\eN ij 68 0=(Ti 0)/\eN ij 68 1=(Ti 2)/\eN ij 71 0=(Ti 0)/\eN ij 71 1=(Ti 1)/\eN ij 71 2=(Ti 2)/\eN ij 73 0=(Ti 0)/\eN ij 83 0=(Ti 0)/\eN ij 83 1=(Ti 4)/\eN ij 83 2=(Ti 8)/\eN ij 85 0=(Ti 0)/\eN ij 85 1=(Ti 1)/\eN ij 85 2=(Ti 2)/\eN ij 85 3=(Ti 6):=by and_intros<;>kernel_rfl
def F.q3:eN ij 85 4=(Ti 10)/\eN ij 85 5=(Ti 14)/\eN ij 85 6=(Ti 17)/\n3 ij 22=(Ti (Option.none,3))/\n3 ij 23=(Ti (Option.none,4))/\n3 ij 30=(Ti (Option.none,1))/\n3 ij 77=(Ti ((Ti 4),1))/\n3 ij 78=(Ti ((Ti 3),1))/\n3 ij 79=(Ti ((Ti 4),1))/\n3 ij 80=(Ti ((Ti 4),1))/\n3 ij 81=(Ti ((Ti 3),1))/\n3 ij 88=(Ti (Option.none,1))/\w9 ij 79=(Ti (4,1))/\w9 ij 80=(Ti (4,1))/\w9 ij 81=(Ti (3,1))/\jT ij 22=(Ti (29,3)):=by and_intros<;>kernel_rfl
def F.q4:jT ij 23=(Ti (68,4))/\jT ij 30=(Ti (3,1))/\jT ij 79=Option.none/\jT ij 80=Option.none/\jT ij 81=Option.none/\kj ij 22=(Ti Go.Gg.y9.slice)/\kj ij 23=(Ti Go.Gg.y9.slice)/\kj ij 30=(Ti Go.Gg.y9.slice)/\kj ij 88=(Ti Go.Gg.y9.slice)/\BB ij 30=(Ti (3,(1,(S_ Tc (0)))))/\oT ij 74=(Ti (80,4))/\qQ ij 22=(Ti (29,(3,(Us #[(S_ Tc (0)),(S_ Tc (0)),(S_ Tc (0))]))))/\qQ ij 23=(Ti (68,(4,(Us #[(S_ Tc (0)),(S_ Tc (0)),(S_ Tc (0)),(S_ Tc (0))]))))/\qQ ij 30=(Ti (3,(1,(S_ Tc (0)))))/\qQ ij 88=(Ti (30,(1,(Vh Option.none 0 0))))/\Ty ij 104=(Ti (2,Bool.true)):=by and_intros<;>kernel_rfl
def F.q5:Ty ij 124=(Ti (1,Bool.false))/\Ty ij 139=(Ti (2,Bool.true))/\Ty ij 153=(Ti (1,Bool.false))/\Ty ij 155=(Ti (1,Bool.false))/\Ty ij 163=(Ti (0,Bool.true))/\Ty ij 166=(Ti (1,Bool.false))/\Ty ij 191=(Ti (1,Bool.false))/\Ty ij 22=(Ti (1,Bool.false))/\Ty ij 23=(Ti (1,Bool.false))/\Ty ij 25=(Ti (6,Bool.true))/\Ty ij 27=(Ti (2,Bool.true))/\Ty ij 29=(Ti (3,Bool.true))/\Ty ij 3=(Ti (1,Bool.false))/\Ty ij 30=(Ti (1,Bool.false))/\Ty ij 4=(Ti (1,Bool.false))/\Ty ij 68=(Ti (4,Bool.true)):=by and_intros<;>kernel_rfl
def F.q6:Ty ij 69=(Ti (1,Bool.false))/\Ty ij 73=(Ti (6,Bool.true))/\Ty ij 74=(Ti (1,Bool.false))/\Ty ij 76=(Ti (1,Bool.false))/\Ty ij 78=(Ti (3,Bool.true))/\Ty ij 80=(Ti (4,Bool.true))/\Ty ij 83=(Ti (11,Bool.true))/\Ty ij 85=(Ti (28,Bool.true))/\eJ ij 104=(Ti (Us #[(S_ Tc (0)),(S_ Tc (0))]))/\eJ ij 124=(Ti ZU)/\eJ ij 134=(Ti (Us #[(S_ Tc (0)),(S_ Tc (0)),(Yg Bool.false)]))/\eJ ij 139=(Ti (Us #[(S_ Tc (0)),(S_ Tc (0))]))/\eJ ij 144=(Ti (Us #[(S_ Tc (0)),(S_ Tc (0))]))/\eJ ij 163=(Ti (Us #[]))/\eJ ij 166=(Ti (YV Option.none))/\eJ ij 174=(Ti (Us #[(S_ Ux (0)),(S_ av_ (0))])):=by and_intros<;>kernel_rfl
def F.q7:eJ ij 191=(Ti ZU)/\eJ ij 25=(Ti (Us #[(S_ Tc (0)),(S_ Tc (0)),(S_ Tc (0)),(Vh Option.none 0 0),(Vh Option.none 0 0),(Vh Option.none 0 0)]))/\eJ ij 27=(Ti (Us #[(S_ Tc (0)),(S_ Tc (0))]))/\eJ ij 29=(Ti (Us #[(S_ Tc (0)),(S_ Tc (0)),(S_ Tc (0))]))/\eJ ij 3=(Ti (S_ Tc (0)))/\eJ ij 68=(Ti (Us #[(S_ Tc (0)),(S_ Tc (0)),(S_ Tc (0)),(S_ Tc (0))]))/\eJ ij 73=(Ti (Us #[(S_ Tc (0)),(S_ Tc (0)),(S_ Tc (0)),(Vh Option.none 0 0),(Vh Option.none 0 0),(Vh Option.none 0 0)]))/\eJ ij 76=(Ti (S_ T6 (0)))/\eJ ij 77=(Ti (Us #[(S_ T6 (0)),(S_ T6 (0)),(S_ T6 (0)),(S_ T6 (0))]))/\eJ ij 78=(Ti (Us #[(S_ T6 (0)),(S_ T6 (0)),(S_ T6 (0))]))/\eJ ij 80=(Ti (Us #[(S_ Tc (0)),(S_ Tc (0)),(S_ Tc (0)),(S_ Tc (0))]))/\eJ ij 83=(Ti (Us #[(S_ Tc (0)),(S_ Tc (0)),(S_ Tc (0)),(S_ Tc (0)),(S_ Tc (0)),(S_ Tc (0)),(S_ Tc (0)),(S_ Tc (0)),(S_ Tc (0)),(S_ Tc (0)),(S_ Tc (0))])):=by and_intros<;>kernel_rfl
attribute [seval] F.q0 F.q1 F.q2 F.q3 F.q4 F.q5 F.q6 F.q7 F.OP F.OX
def an.stay (Φ:SI):an->AS->Prop
 |.goto _,_=>False
 |e,s=>Φ e s
def ar5(Φ:SI)(s:AS):an.stay Φ .normal s=Φ .normal s:=by rw[an.stay];simp
def ar7(Φ:SI)(s:AS):an.stay Φ .ret s=Φ .ret s:=by rw[an.stay];simp
def ar4(Φ:SI)(i:Nat)(s:AS):an.stay Φ (.exit i) s=Φ (.exit i) s:=by rw[an.stay];simp
def ar6(Φ:SI)(a:AV)(s:AS):an.stay Φ (.panic a) s=Φ (.panic a) s:=by rw[an.stay];simp
def Ps{lv:Bool}{P:Tg}{r:SL}{s:AS}{nt:Nat}{c:UX}{Φ:SI}(h:aZ lv P r nt c s (an.stay Φ)):aZ lv P r nt (.scope c) s Φ:=by
 refine agd (λ_ _ _=>False) ⟨0,h.mono λe s hs=> ?_⟩ λ_ _ _ _ _ hf=>hf.elim;cases e<;>first|exact hs|exact hs.elim
@[congr] theorem avi {s s' : AS} {Φ : an -> AS -> Prop} {e e' : an} (he : e = e') (h : s = s') : an.stay Φ e s = an.stay Φ e' s' := by rw[he, h]
attribute [seval] ar5 ar7 ar4 ar6
def amF{α:Type}(n:Nat)(x:α):(if(n:Int)<0 then none else some x)=some x:=by rw[if_neg (by omega)]
def agU:(Zu==W8)=false:=by decide
def agV:(W8==W8)=true:=by decide
def asF{α β:Type}(f:α->β)(xs:List α):(xs.map f).take xs.length=xs.map f:=Tn (by simp)
def ao1(o:Xc):(o=o\/o=.neq)=True:=by simp
def ao2:(W8=.eql\/W8=.neq)=True:=by simp
def amK{α:Type}(a b:α):(if false=true then a else b)=b:=by simp
def amL{α:Type}(a b:α):(if true=true then a else b)=a:=by simp
def agQ(s:AS):s.i_ none=some none:=by rw[AS.i_]
def agR(s:AS)(x:Ui):s.i_ (some x)=(s.ev x).bind λa=>a.vI.map some:=by
 rw[AS.i_];cases s.ev x<;>rfl
def afP(j:UN)(n:Int):AV.vI (.val (.int j n))=some n:=by rw[AV.vI]
def ae2(P:Tg)(t:TypeId)(id off:Nat)(l h m:TK)(k:SQ):sg P t (.op id off) l h m k=ao (w9 P t) λp=>sr id off p.1 p.1 p.2 l h m k:=by rw[sg]
def ae3(P:Tg)(t:TypeId)(id off n c:Nat)(l h m:TK)(k:SQ):sg P t (.bI id off n c) l h m k=ao (jT P t) λp=>sr id off n c p.2 l h m k:=by rw[sg]
def ae4(P:Tg)(t:TypeId)(n:Nat)(li:SC)(e:End)(l h m:TK)(k:SQ):sg P t (.sl n li e) l h m k=ao (jT P t) λp=>xd n li e p.2 l h m k:=by rw[sg]
def ao8:type_of% @sr.eq_1:=by intros;rw[sr.eq_1]
def arG:type_of% @xd.eq_1:=by intros;rw[xd.eq_1]
@[congr] theorem avd {id oI off DZ n n' cap cap' sz eB : Nat} {lo DK hi cG mx DR : Option Int} {k : AV -> Prop} (h1 : id = oI) (h2 : off = DZ) (h3 : n = n') (h4 : cap = cap') (h5 : sz = eB) (h6 : lo = DK) (h7 : hi = cG) (h8 : mx = DR) : sr id off n cap sz lo hi mx k = sr oI DZ n' cap' eB DK cG DR k := by rw[h1, h2, h3, h4, h5, h6, h7, h8]
@[congr] theorem avg {n n' sz eB : Nat} {l l' : SC} {e e' : End} {lo DK hi cG mx DR : Option Int} {k : AV -> Prop} (h3 : n = n') (h1 : l = l') (h2 : e = e') (h5 : sz = eB) (h6 : lo = DK) (h7 : hi = cG) (h8 : mx = DR) : xd n l e sz lo hi mx k = xd n' l' e' eB DK cG DR k := by rw[h1, h2, h3, h5, h6, h7, h8]
def aot:((1:Nat):Int)=1:=rfl
def aou:((2:Nat):Int)=2:=rfl
def aov:((3:Nat):Int)=3:=rfl
def aow:((4:Nat):Int)=4:=rfl
def aox:((5:Nat):Int)=5:=rfl
def aoy:((6:Nat):Int)=6:=rfl
def as3(p:Prop):(True\/p)=True:=by simp
def ao6(p:Prop):(p\/True)=True:=by simp
attribute [seval] aot aou aov aow aox aoy as3 ao6 Int.le_refl List.length_map
def afC(H L:SA):(H++L)[H.length+1+1]?=L[2]?:=vF H L 2
def afD(H L:SA):(H++L)[H.length+1+1+1]?=L[3]?:=vF H L 3
def afG(H L:SA)(x:aa):(H++L).set (H.length+1+1) x=H++L.set 2 x:=vG H L 2 x
def afH(H L:SA)(x:aa):(H++L).set (H.length+1+1+1) x=H++L.set 3 x:=vG H L 3 x
attribute [seval] afC afD afG afH
attribute [seval] agQ agR afP ae2 ae3 ae4 ao8 arG Option.getD_none Option.getD_some Int.toNat_zero Nat.sub_zero Option.bind_some Option.map_some Nat.zero_le Option.isSome_none Option.isSome_some Bool.false_eq_true false_implies
attribute [seval] amF agU agV asF ao1 ao2 amK amL
section
variable {P:Tg}{α β:Type}
def iH(a:α):bm P (pure a) a:=λw es=>by simp only[pure,WH]
def lB{x:Sem α}{f:α->Sem β}{a:α}{b:β}(h:bm P x a)(k:bm P (f a) b):bm P (x>>=f) b:=λw es=>by
 show (x.bind f).runT P w es=_;rw[Sem.runT_bind',h w es];exact k w es
def ast{k:Tg->Sem α}{a:α}(h:bm P (k P) a):bm P (.program k) a:=λw es=>by simp only[WH];exact h w es
def N7{k:Tg->Sem α}{a:α}(h:bm P (k P) a):bm P (program>>=k) a:=lB (a:=P) (ast (iH P)) h
def yP{t:TypeId}{d:TypeDesc}{k:TypeDesc->Sem α}{a:α}(h:P.underlying t=some d)(hk:bm P (k d) a):bm P (underlying t>>=k) a:=by
 unfold underlying;refine lB (a:=d) (N7 ?_) hk;rw[h];exact iH d
def zg:TypeDesc->Bool
 |.struct _|.array _ _=>true
 |_=>false
def adH{t:TypeId}{d:TypeDesc}{k:Bool->Sem α}{a:α}(h:P.underlying t=some d)(hk:bm P (k (zg d)) a):bm P (isAgg t>>=k) a:=by
 unfold isAgg;refine lB (yP (a:=zg d) h ?_) hk;cases d<;>exact iH _
def N8{t:TypeId}{i:XV}{k:Nat->Sem α}{a:α}(h:P.info? t=some i)(hk:bm P (k i.size) a):bm P (sizeOf t>>=k) a:=by
 unfold sizeOf typeInfo;refine lB (lB (a:=i) (N7 ?_) (iH _)) hk;rw[h];exact iH i
def Ef{t:TypeId}{d:TypeDesc}{xs:SG}{off:Nat}{v:T5}{k:T5->Sem α}{a:α}(h:P.underlying t=some d)(hd:zg d=false)(hv:xs[off]?=some v)(hk:bm P (k v) a):bm P (part t xs off>>=k) a:=by
 unfold part;refine lB (a:=v) (adH h ?_) hk;rw[hd,hv];exact iH v
def adI{t:TypeId}{d:TypeDesc}{i:XV}{xs:SG}{off:Nat}{k:T5->Sem α}{a:α}(h:P.underlying t=some d)(hd:zg d=true)(hi:P.info? t=some i)(hk:bm P (k (.agg (xs.extract off (off+i.size)))) a):bm P (part t xs off>>=k) a:=by
 unfold part;refine lB (adH h ?_) hk;rw[hd];exact N8 hi (iH _)
def adG{t:TypeId}{k0 k:UN}{d:Nat}{x y:Int}(h:P.underlying t=some (.int k0)):bm P (WC (d+1) t (.int k x) (.int k y)) (x==y):=by
 rw[WC];refine yP h ?_;dsimp only;rw[if_pos rfl];exact iH _
def ady{ι:Type}{body:ι->Option Bool×Unit->Sem (ForInStep (Option Bool×Unit))}{p:ι->Bool}:∀(l:List ι),(∀i∈l,bm P (body i (none,())) (if p i then .yield (none,())else .done (some false,())))->bm P (forIn l (none,()) body) (if l.all p then(none,())else(some false,()))
 |[],_=>by simpa using iH (none,())
 |i::l,h=>by
  rw[X0];refine lB (h i (Ut ..)) ?_;by_cases hp:p i=true
  ·simp only[hp,if_true,avq,VO];exact ady l λj hj=>h j (T_ _ hj)
  ·have Am:p i=false:=(by simpa using hp);simp only[Am,UB,if_false,avq,Yy];exact iH _
def afu{α:Type}[BEq α][LawfulBEq α]{xs ys:List α}{n:Nat}(hx:xs.length=n)(hy:ys.length=n):((UZ 0 n).all λi=>xs[i]?==ys[i]?)=(xs==ys):=by
 rw[U9,Uv,beq_iff_eq];constructor
 ·intro h;apply X2;intro i;by_cases hi:i<n
  ·have:=h i (by simp[Y1];omega);simpa using this
  ·rw[Vx (by omega),Vx (by omega)]
 ·rintro rfl i _;simp
def asq{t e:TypeId}{k0 k:UN}{n d:Nat}{i:XV}{xs ys:SD}(ht:P.underlying t=some (.array n e))(he:P.underlying e=some (.int k0))(hi:P.info? e=some i)(hs:i.size=1)(hx:xs.length=n)(hy:ys.length=n):
  bm P (WC (d+2) t (.agg (xs.map (S_ k)).toArray) (.agg (ys.map (S_ k)).toArray)) (xs==ys):=by
 rw[WC];refine yP ht ?_;dsimp only;refine N8 hi ?_;rw[hs];simp only[Xw,Yz];refine lB (a:=if(xs==ys)then(none,())else(some false,())) ?_ (by cases xs==ys<;>exact iH _);have hn:(n-0+1-1)/1=n:=by simp
 rw[hn,<- afu hx hy];refine ady _ λj hj=> ?_;have pf:j<n:=by simp[Y1]at hj;omega
 have gx:xs[j]?=some (xs[j]'(by omega)):=Ts _;have gy:ys[j]?=some (ys[j]'(by omega)):=Ts _;rw[Zc];refine Ef he rfl (v:=.int k (xs[j]'(by omega))) (by simp[gx]) ?_;refine Ef he rfl (v:=.int k (ys[j]'(by omega))) (by simp[gy]) ?_;refine lB (adG he) ?_;rw[gx,gy];by_cases h:xs[j]'(by omega)=ys[j]'(by omega)
 ·rw[h];simp;exact iH _
 ·have h1:(xs[j]'(by omega)==ys[j]'(by omega))=false:=by simpa using h
  have h2:(some (xs[j]'(by omega))==some (ys[j]'(by omega)))=false:=by simpa using h
  rw[h1,h2];exact iH _
def bm.uniq{x:Sem α}{a b:α}(h:bm P x a)(k:bm P x b):a=b:=by
 have e:=(h default #[]).symm.trans (k default #[]);have e1:=congrArg Prod.fst e;exact(awn e1).1
def adC{t e:TypeId}{k0:UN}{n:Nat}{i:XV}{xs ys:SD}(ht:P.underlying t=some (.array n e))(he:P.underlying e=some (.int k0))(hi:P.info? e=some i)(hs:i.size=1)(hx:xs.length=n)(hy:ys.length=n):
  bm P (XM t (.agg (xs.map (S_ .i64)).toArray) (.agg (ys.map (S_ .i64)).toArray)) (xs==ys):=asq (d:=9998) ht he hi hs hx hy
def va(xs:SD):AV.raw (.agg (xs.map iv))=some (.agg (xs.map (S_ .i64)).toArray):=by
 have:∀l:SD,(l.map iv).mapM AV.A1=some (l.map (S_ .i64)):=by
  intro l;induction l with
  |nil=>rfl
  |cons x l ih=>simp only[VI,UY,ih];rfl
 simp only[AV.raw,this];rfl
def apK{xs:SD}{i:Nat}{y:Int}(h:i<xs.length):iw (xs.map iv) i [iv y]=(xs.set i y).map iv:=by
 unfold iw;rw[List.map_set,List.set_eq_take_append_cons_drop,if_pos (by simpa using h)];simp
def wR{xs:SD}{i:Nat}{y:Int}(h:i<xs.length):(xs.map iv).take i++[iv y]++(xs.map iv).drop (i+1)=(xs.set i y).map iv:=apK h
def kS{xs:SD}{i:Nat}{x:Int}(h:xs[i]?=some x):(xs.map iv).drop i=iv x::(xs.drop (i+1)).map iv:=by
 have h1:=ep h;rw[<- Zy,UW h1,VI];rw[Ts h1]at h;cases h;rfl
end
def abd(xs:SD):(∀a∈xs.map iv,a.leaf=true)=True:=by
 simp only[Um,eq_iff_iff,iff_true]
 rintro a ⟨x,_,rfl⟩;rfl
attribute [seval] List.append_nil abd
def yU (lv:Bool)(P:Tg)(g:UH)(args:SG)(md:Wa)(V:View)(R:Wa->View->Prop):Prop:=
 ∀(main:Bool)(J:SM),Closed lv P main J->∀(fr:VA)(cs:SX),fr.mode=md->(∀nT V',R nT V'->J V' (G {fr with mode:=nT} cs))->J V (G (Frame.enter P g args .deferred) (fr::cs))
def qT:Wa->Wa
 |.panicking ({recovered:=true, .. }::Ni)=>match Ni.dropWhile (!·.goexit)with
  |[]=> .returning
  |rest=> .panicking rest
 |m=>m
def abe{lv:Bool}{P:Tg}{main:Bool}{J:SM}(C:Closed lv P main J){fr c:VA}{cs:SX}{f:UH}{v:T5}{V:View}(h:Leaves P fr f .deferred (.ret v) V)(hJ:J V (G {c with mode:=qT c.mode} cs)):J V (G fr (c::cs)):=by
 obtain⟨rfl,hd,hk,fn,hf,hm,hr⟩:=h;refine C.step _ _ rfl λw hw=> ?_;obtain⟨es,w',V',h1,h2,h3⟩:=hr.runs hw;rcases h3 with⟨x,h3,rfl,rfl⟩|⟨_,_,h⟩
 ·refine⟨G {c with mode:=qT c.mode} cs,w',seen P fr.fn es,V',?_,h1.seen P fr.fn,hJ⟩;simp only[G,stepG,unwind,doReturn,hm,hd,hk,hf,Uw,h3,h2,UT];cases Gm:c.mode with
  |run=>simp[qT,<- Gm]
  |returning=>simp[qT,<- Gm]
  |panicking ch=>
   cases ch with
   |nil=>simp[qT,<- Gm]
   |cons p Ni=>
    obtain⟨v,rec,ge⟩:=p;cases rec with
    |false=>simp[qT,<- Gm]
    |true=>
     simp only[qT];cases hdw:Ni.dropWhile (!·.goexit)with
     |nil=>simp
     |cons x y=>simp
 ·exact h.elim
def Qy{ρ:Ui->T5}{o:U8}{cl:Ym}(az:o.op=.call cl)(aV:cl.callee=.builtin .recover)(P:Tg)(w:Ul)(es:SO):(execOp ρ o).runT P w es=(.ok .recover w,es):=by
 unfold execOp;rw[az];dsimp only;unfold resolve;rw[aV];rfl
def aq6{P:Tg}{main:Bool}{b c:VA}{a:Act}{k:SY}{cs:SX}{w:Ul}{ops:SK}{i:Nat}{rest:SE}{o:U8}{cl:Ym}{v:T5}(ho:ops[i]?=some o)(hg:o.guard=none)(az:o.op=.call cl)(aV:cl.callee=.builtin .recover)(hb:b.kind=.deferred)(hr:b.roundOf=none)
  (hm:c.mode=.panicking [{v,recovered:=false}]):stepG P main (G (on b a (.inRegion ops (i::rest)::k)) (c::cs)) w=.go (G (on b (a.put o.dst v) (.inRegion ops rest::k)) ({c with mode:=.panicking [{v,recovered:=true}]}::cs)) w #[]:=by
 have ee:(on b a (.inRegion ops (i::rest)::k)).finish v=on b (a.put o.dst v) (.inRegion ops rest::k):=by
  rw[AP,ho];rfl
 rw[s_op ho (by unfold Ug;rw[hg]) (.inl hr),<- ee];have jO:((on b a (.inRegion ops (i::rest)::k)).kind==VZ)=false:=by simp[on,hb]
 simp only[stepG.apply,if_true,Qy az aV,jO,UT,UB,if_false];have h1:(on b a (.inRegion ops (i::rest)::k)).roundOf=none:=hr;have h2:(on b a (.inRegion ops (i::rest)::k)).kind=.deferred:=hb;rw[h1];simp only[tryRecover,h2,hm];simp[seen,G]
def aq7{P:Tg}{main:Bool}{b c:VA}{a:Act}{k:SY}{cs:SX}{w:Ul}{ops:SK}{i:Nat}{rest:SE}{o:U8}{cl:Ym}(ho:ops[i]?=some o)(hg:o.guard=none)(az:o.op=.call cl)(aV:cl.callee=.builtin .recover)(hb:b.kind=.deferred)(hr:b.roundOf=none)
  (hm:c.mode=.returning):stepG P main (G (on b a (.inRegion ops (i::rest)::k)) (c::cs)) w=.go (G (on b (a.put o.dst .nilIface) (.inRegion ops rest::k)) (c::cs)) w #[]:=by
 have ee:(on b a (.inRegion ops (i::rest)::k)).finish .nilIface=on b (a.put o.dst .nilIface) (.inRegion ops rest::k):=by
  rw[AP,ho];rfl
 rw[s_op ho (by unfold Ug;rw[hg]) (.inl hr),<- ee];have jO:((on b a (.inRegion ops (i::rest)::k)).kind==VZ)=false:=by simp[on,hb]
 simp only[stepG.apply,if_true,Qy az aV,jO,UT,UB,if_false];have h1:(on b a (.inRegion ops (i::rest)::k)).roundOf=none:=hr;have h2:(on b a (.inRegion ops (i::rest)::k)).kind=.deferred:=hb;rw[h1];simp only[tryRecover,h2,hm];simp[seen,G]
def EH (P:Tg)(fn:avu)(K:View->Prop):Ex->Act->View->Prop
 |.normal,a,V|.ret,a,V=>a.defers=[]/\∃v,aR P V (results fn a.tmps) (λx V'=>x=v/\V'=V) (λ_ _=>False)/\K V
 |_,_,_=>False
def ahp{lv:Bool}{P:Tg}{g:UH}{fn:avu}{id:Nat}{ops:SK}{c2:UX}{o:U8}{cl:Ym}{args:SG}{md:Wa}{v0:T5}{V:View}{R:Wa->View->Prop}
  (hf:P.funcs[g]?=some fn) (hb:fn.body=some (.seq (.region id ops false) c2)) (ho:ops[0]?=some o) (hg:o.guard=none) (az:o.op=.call cl) (aV:cl.callee=.builtin .recover)
  (qk:md=.panicking [{v:=v0,recovered:=false}]\/(md=.returning/\v0=.nilIface))
  (h:di lv P none ops (Ex.then (WP lv P none c2 (EH P fn (R .returning))) (EH P fn (R .returning))) (UZ 1 (ops.size-1)) (({tmps:=args++UI (fn.ntmps-args.size) undef,defers:=[]}:Act).put o.dst v0) V):yU lv P g args md V R:=by
 intro main J C fr cs mh hR;let b:VA:={(default:VA)with fn:=g,kind:=.deferred,roundOf:=none};have uC:Frame.enter P g args .deferred=on b {tmps:=args++UI (fn.ntmps-args.size) undef,defers:=[]} [.code (.seq (.region id ops false) c2)]:=by
  simp[Frame.enter,on,hf,hb,b]
 rw[uC];have aX:0<ops.size:=(Tl.1 ho).1;have LW:Tt ops.size=0::UZ 1 (ops.size-1):=by
  rw[VX];obtain⟨n,hn⟩:∃n,ops.size=n+1:=⟨ops.size-1,by omega⟩;rw[hn,WF];rfl
 refine C.idle rfl (λ_=>acM) (C.idle rfl (λ_=>acL) ?_);rw[LW];have fin:∀(c:VA),qT c.mode=.returning->{c with mode:=qT c.mode}={fr with mode:=.returning}->∀e a' V',EH P fn (R .returning) e a' V'->vB J b [] (c::cs) e a' V':=by
  intro c hc wb e a' V' q;cases e with
  |normal=>
   obtain⟨hd,v,hs,hr⟩:=q;refine C.idle rfl (λw=>D7 rfl) (abe (f:=g) (v:=v) C ⟨rfl,hd,rfl,fn,hf,rfl,hs⟩ ?_);rw[wb];exact hR _ _ hr
  |ret=>
   obtain⟨hd,v,hs,hr⟩:=q;intro k;refine C.idle rfl (λw=>D8 rfl) (abe (f:=g) (v:=v) C ⟨rfl,hd,rfl,fn,hf,rfl,hs⟩ ?_);rw[wb];exact hR _ _ hr
  |_=>exact q.elim
 have run:∀(c:VA),qT c.mode=.returning->{c with mode:=qT c.mode}={fr with mode:=.returning}->J V (G (on b (({tmps:=args++UI (fn.ntmps-args.size) undef,defers:=[]}:Act).put o.dst v0) (.inRegion ops (UZ 1 (ops.size-1))::[.code c2])) (c::cs)):=by
  intro c hc wb;refine wp_ops _ _ V h main J C b [.code c2] (c::cs) (by show ZO≠VZ;decide) rfl λe a' V' q=> ?_;cases e with
  |normal=>exact q main J C b [] (c::cs) (by show ZO≠VZ;decide) rfl λe cu aW q'=>fin c hc wb e cu aW q'
  |ret=>exact fin c hc wb .ret a' V' q
  |panic ch=>exact q.elim
  |exit i=>exact q.elim
  |goto i=>exact q.elim
 rcases qk with qk|⟨qk,hv⟩
 ·refine C.idle rfl (λw=>aq6 ho hg az aV rfl rfl (by rw[mh,qk])) ?_;exact run {fr with mode:=.panicking [{v:=v0,recovered:=true}]} rfl rfl
 ·refine C.idle rfl (λw=>aq7 ho hg az aV rfl rfl (by rw[mh,qk])) ?_;subst hv;have jy:fr.mode=.returning:=by rw[mh,qk]
  exact run fr (by rw[jy];rfl) (by rw[jy];rfl)
section
variable {lv:Bool}{P:Tg}
def NU{g:UH}{args:SG}{V:View}{K:Next->View->Prop}{Kp:SP}(hg:qH P g=true)(h:K (.enter g args) V):aR P V (callFunc g args) K Kp:=by
 unfold callFunc;refine ay (oN (b8 ?_));unfold qH at hg;split at hg
 ·rename_i fn uD;simp only[Uk,UK]at hg;rw[uD];dsimp only;have CI:fn.body.isNone=false:=by
   have h1:=hg.1;cases hb:fn.body with
   |none=>rw[hb]at h1;cases h1
   |some _=>rfl
  rw[if_neg (by rw[hg.2];simp),if_neg (by rw[CI];simp)];exact aq h
 ·cases hg
def B0{E:Env}{V:View}{H:SA}{args:SC}{vs:SG}{nt:Nat}(hc:Conc E V H)(hd:bL E args vs)(cM:args.length<=nt):At E V ⟨bc 0 args,H⟩ {tmps:=vs++UI (nt-vs.size) undef,defers:=[]} nt:=by
 have aX:(vs++UI (nt-vs.size) undef).size=nt:=by simp[hd.1];omega
 refine⟨hc,λq a e=> ?_,aX⟩;obtain⟨_,e⟩:=M3 args 0 q a e;simp only[avz]at e;have hq:q<args.length:=(Tj.1 e).1;have te:q<vs.size:=by rw[hd.1];exact hq
 refine⟨by rw[aX];omega,?_⟩;have:=hd.2 q a e;rw[Td,XB te];rwa[Td]at this
def yT (E:Env)(c:AV×SC)(d:Ye):Prop:=∃f first cT fa ca vs,c.1=.fn (.func f) first cT/\d=⟨.fn (.func f) ca,fa++vs⟩/\bL E first fa/\bL E cT ca/\bL E c.2 vs
def yT.mono{E E':Env}(h:E.Le E'){c:AV×SC}{d:Ye}(k:yT E c d):yT E' c d:=by
 obtain⟨f,first,cT,fa,ca,vs,h1,h2,h3,h4,h5⟩:=k;exact⟨f,first,cT,fa,ca,vs,h1,h2,h3.mono h,h4.mono h,h5.mono h⟩
def OQ (E:Env):Option AV->Wa->Prop
 |none,md=>md=.returning
 |some pv,md=>∃v,md=.panicking [{v,recovered:=false}]/\ap E pv v
def qI (lv:Bool)(P:Tg)(c:AV×SC)(H:SA)(m:Option AV)(kr kp:SA->Prop):Prop:=
 ∀(E:Env)(V:View)(d:Ye)(md:Wa),Conc E V H->yT E c d->OQ E m md->aR P V (invoke d.target d.args) (λnx V'=>∃g args,nx=.enter g args/\yU lv P g args md V' λnT aW=>∃E' H',E.Le E'/\aW.role=V.role/\aW.deaf=V.deaf/\Conc E' aW H'/\((nT=.returning/\kr H')\/(nT=md/\m.isSome=true/\kp H'))) (λ_ _=>False)
def Bu (n0:Nat)(kr:SA->Prop):an->AS->Prop
 |.normal,s|.ret,s=>kr s.H\/∃H' G,s.H=H'++G/\n0<=H'.length/\bO H'/\kr H'
 |_,_=>False
def Bu.out{n0:Nat}{E0 E:Env}{V':View}{H:SA}{kr:SA->Prop}(h:kr H\/∃H' G,H=H'++G/\n0<=H'.length/\bO H'/\kr H')(hc:Conc E V' H)(hle:E0.Le E)(hn:E0.n=n0):∃E' H',E0.Le E'/\Conc E' V' H'/\kr H':=by
 rcases h with h|⟨H',G,rfl,h1,h2,h3⟩
 ·exact⟨E,H,hle,hc,h⟩
 ·exact⟨{E with n:=H'.length},H',Ej h1 (by rw[hc.n];simp) hle hn,hc.trim h2,h3⟩
def results_none{fn:avu}{tmps:SG}{V:View}(hr:fn.results=#[]):aR P V (results fn tmps) (λx V'=>x=.tuple #[]/\V'=V) (λ_ _=>False):=by
 unfold results;rw[show fn.results=([]:SW).toArray from hr,Y3];refine ay ?_;refine ay ?_;rw[Vt];refine aq (aq (aq ⟨?_,rfl⟩));simp
def aho{g:UH}{fn:avu}{id nt:Nat}{ops:SK}{c2:UX}{o:U8}{cl:Ym}{first cT aG:SC}{H:SA}{m:Option AV}{kr kp:SA->Prop}
  (hg:qH P g=true) (hf:P.funcs[g]?=some fn) (hb:fn.body=some (.seq (.region id ops false) c2)) (hr:fn.results=#[]) (hn:fn.ntmps=nt) (ho:ops[0]?=some o) (sV:o.guard=none) (az:o.op=.call cl) (aV:cl.callee=.builtin .recover) (dl:jL nt ops=true) (cM:(first++aG++cT).length<=nt)
  (h:iy lv P ops (ops.toList.drop 1) ((⟨bc 0 (first++aG++cT),H⟩:AS).put o.dst (m.getD (.val .nilIface))) (λs'=>aZ lv P none nt c2 s' (Bu H.length kr)) (λ_ _=>False)):qI lv P (.fn (.func g) first cT,aG) H m kr kp:=by
 intro E V d md hc hd qk;obtain⟨f,auL,auH,fa,ca,vs,h1,rfl,h3,h4,h5⟩:=hd;cases h1;unfold invoke;dsimp only;refine NU hg ⟨g,_,rfl,?_⟩;obtain⟨v0,hv,alE⟩:∃v0,ap E (m.getD (.val .nilIface)) v0/\(md=.panicking [{v:=v0,recovered:=false}]\/(md=.returning/\v0=.nilIface)):=by
  cases m with
  |none=>exact⟨.nilIface,.val _,.inr ⟨qk,rfl⟩⟩
  |some pv=>obtain⟨v,e,hv⟩:=qk;exact⟨v,hv,.inl e⟩
 refine ahp hf hb ho sV az aV alE ?_;have ak:=B0 (nt:=nt) hc (zu (zu h3 h5) h4) cM;rw[hn];have aX:0<ops.size:=(Tl.1 ho).1;have fJ:o∈ops:=ZZ ho;have aU:At E V ((⟨bc 0 (first++aG++cT),H⟩:AS).put o.dst (m.getD (.val .nilIface))) (({tmps:=fa++vs++ca++UI (nt-(fa++vs++ca).size) undef,defers:=[]}:Act).put o.dst v0) nt:=
  ⟨by rw[e_];exact ak.br,ak.tok.gM (λd e=>by rw[ak.size];exact(jL.out dl fJ).1 d e) hv,(dY _ _ _).trans ak.size⟩
 refine AR (r:=none) (Φ:=λe s'=>match e with
  |.normal=>aZ lv P none nt c2 s' (Bu H.length kr)
  |_=>False) (λo ho d e=>(jL.out dl ho).1 d e) (λ_ _=> .inl rfl) (ops.size-1) 1 _ (by omega) h E V _ _ aU λae e E' V' a' s' hk akL he hΦ=> ?_
 cases ae<;>cases e<;>first
  |exact he.elim
  |exact hΦ.elim
  |skip
 refine hΦ E' V' a' _ akL λae e bS aW cu de aI db j4 tu=> ?_;have fin:(kr de.H\/∃H' G,de.H=H'++G/\H.length<=H'.length/\bO H'/\kr H')->EH P fn (λaW=>∃E' H',E.Le E'/\aW.role=V.role/\aW.deaf=V.deaf/\Conc E' aW H'/\((Zp=.returning/\kr H')\/(Zp=md/\m.isSome=true/\kp H'))) .ret cu aW:=λtu=>by
  obtain⟨E3,H',q1,q2,q3⟩:=Bu.out (E0:=E) tu db.br (hk.le.trans aI.le) hc.n;have bt:cu.defers=[]:=by rw[aI.defers,hk.defers];exact put_defers _ _ _
  exact⟨bt,_,results_none hr,E3,H',q1,aI.role.trans hk.role,aI.deaf.trans hk.deaf,q2,.inl ⟨rfl,q3⟩⟩
 cases ae<;>cases e<;>first
  |exact j4.elim
  |exact tu.elim
  |exact fin tu
def P2{g:UH}{fn:avu}{id nt:Nat}{ops:SK}{c2:UX}{o:U8}{l:List U8}{d0:SL}{cl:Ym}{first cT aG:SC}{H:SA}{m:Option AV}{kr kp:SA->Prop}
  (hg:qH P g=true) (hf:P.funcs[g]?=some fn) (hb:fn.body=some (.seq (.region id ops false) c2)) (hr:fn.results=#[]) (hn:fn.ntmps=nt) (hl:ops.toList=o::l) (sV:o.guard=none) (aO:o.dst=d0) (az:o.op=.call cl) (aV:cl.callee=.builtin .recover) (dl:jL nt ops=true) (cM:(first++aG++cT).length<=nt)
  (h:iy lv P ops l ((⟨bc 0 (first++aG++cT),H⟩:AS).put d0 (m.getD (.val .nilIface))) (λs'=>aZ lv P none nt c2 s' (Bu H.length kr)) (λ_ _=>False)):qI lv P (.fn (.func g) first cT,aG) H m kr kp:=by
 subst aO;refine aho hg hf hb hr hn (o:=o) (cl:=cl) ?_ sV az aV dl cM (by rw[hl];simpa using h);have:ops.toList[0]?=some o:=by rw[hl];rfl
 simpa using this
end
section
variable {lv:Bool}{P:Tg}{r:SL}{s:AS}
def HB{nt:Nat}{all:SK}{Φ:SI}(dl:∀o∈all,∀d,o.dst=some d->d<nt)(nE:r=none):∀(n k:Nat)(s:AS),k+n<=all.size->iy lv P all ((all.toList.drop k).take n) s (Φ .normal) (λpv s=>Φ (.panic pv) s)->
  ∀(E:Env)(V:View)(a:Act)(Q:SJ),At E V s a nt->(∀ae e E' V' a' s',Kept E E' V V' a a'->At E' V' s' a' nt->pL E' ae e->Φ ae s'->Q e a' V')->di lv P r all Q (UZ k n) a V
 |0,k,s,hk,h,E,V,a,Q,ak,hQ=>by
  rw[awb]at h;exact hQ .normal .normal E V a s (Kept.refl E V a) ak trivial h
 |n+1,k,s,hk,h,E,V,a,Q,ak,hQ=>by
  have hlt:k<all.size:=by omega
  have hd:all.toList.drop k=all[k]::all.toList.drop (k+1):=by
   rw[UW (by simpa using hlt)];simp
  rw[hd,W4]at h;have fJ:all[k]∈all:=XP hlt;have ho:all[k]?=some all[k]:=Tf hlt;simp only[WF,di,ho];have go:∀s:AS,At E V s a nt->mB lv P s all[k] (λs'=>iy lv P all ((all.toList.drop (k+1)).take n) s' (Φ .normal) (λpv s=>Φ (.panic pv) s)) (λpv s=>Φ (.panic pv) s)->xa lv P r all[k] a V (di lv P r all Q (UZ (k+1) n)) Q:=λs ak h=>by
   refine h.sound (lv:=lv) (r:=r) E V a _ Q ak.br ak.tok (λd e=>by rw[ak.size];exact dl _ fJ d e) (.inl nE) (λE' V' a' s' aI bi mm hn=> ?_) (λE' V' s' pv v aI bi mm bh hb=> ?_)
   ·exact HB dl nE n (k+1) s' (by omega) hn E' V' a' Q ⟨bi,mm,aI.size.trans ak.size⟩ (λae e bS aW cu de fY db he hΦ=>hQ ae e bS aW cu de (aI.trans fY) db he hΦ)
   ·exact hQ (.panic pv) (.panic _) E' V' a s' aI ⟨bi,mm,ak.size⟩ ⟨v,rfl,bh⟩ hb
  simp only[iy]at h;split at h
  ·rename_i hg;have hw:Ug all[k] (yielded all a.tmps)=true:=(by unfold Ug;rw[hg]);rw[if_pos hw];exact .inl (go s ak h)
  ·rename_i j b9 hg;obtain⟨d,gr,h⟩:=h.out;obtain⟨av,h1,h⟩:=h.out;obtain⟨b,rfl,h2,h3⟩:=BY h;have hv:=(ak.tok d _ h1).2;have hy:yielded all a.tmps j=some b:=by
    obtain⟨oj,kD,jd⟩:=Uc.1 gr;generalize hx:a.tmps.getD d undef=x at hv;cases hv;have mj:d<a.tmps.size:=(ak.tok d _ h1).1;rw[Td,Tf mj]at hx;simp only[T9]at hx;simp[yielded,kD,jd,Tf mj,hx]
   have rN:∀b',b=b'->At E V ⟨(d,.val (.bool b'))::s.T,s.H⟩ a nt:=λb' dj=>by
    subst dj;refine⟨ak.br,λt x e=> ?_,ak.size⟩;simp only[look]at e;split at e
    ·rename_i e';subst e';cases e;exact ak.tok d _ h1
    ·exact ak.tok t x e
   by_cases hb:b=b9
   ·have hw:Ug all[k] (yielded all a.tmps)=true:=(by unfold Ug;rw[hg];simp[hy,hb]);rw[if_pos hw];exact .inl (go _ (rN b9 hb) (h2 hb))
   ·have hw:¬Ug all[k] (yielded all a.tmps)=true:=(by unfold Ug;rw[hg];simp[hy,hb]);rw[if_neg hw];have dj:b= !b9:=(by cases b<;>cases b9<;>simp_all);have vZ:=h3 dj;have ak:=rN _ dj;exact HB dl nE n (k+1) ((⟨(d,.val (.bool !b9))::s.T,s.H⟩:AS).put all[k].dst (.val undef)) (by omega) vZ E V (a.put all[k].dst undef) Q
     ⟨by rw[e_];exact ak.br,ak.tok.gM (λd e=>by rw[ak.size];exact dl _ fJ d e) (.val undef),by rw[dY];exact ak.size⟩
     (λae e bS aW cu de fY db he hΦ=>hQ ae e bS aW cu de ⟨fY.le,fY.size.trans (dY _ _ _),fY.defers.trans (put_defers _ _ _),fY.role,fY.deaf⟩ db he hΦ)
def mG.mono{o:U8}{a:Act}{N N':S0}{Q Q':SJ}(hN:∀a V,N a V->N' a V)(hQ:∀ch a V,Q (.panic ch) a V->Q' (.panic ch) a V){nx:Next}{V:View}(h:mG lv P r o a N Q nx V):mG lv P r o a N' Q' nx V:=by
 cases nx with
 |value v=>exact hN _ _ h
 |skip=>exact hN _ _ h
 | «defer» d => exact ⟨h.1, hN _ _ h.2⟩
 |enter f args=>
  refine Body.mono (R:=fun
   |.ret v,V'=>N (a.put o.dst v) V'
   |.panic ch,V'=>Q (.panic ch) a V') (R':=fun
   |.ret v,V'=>N' (a.put o.dst v) V'
   |.panic ch,V'=>Q' (.panic ch) a V') h λot V' h=> ?_
  cases ot
  ·exact hN _ _ h
  ·exact hQ _ _ _ h
 |round l f tmps aG b=>
  refine nf.mono (R:=fun
   |.ret v,V'=>N (a.put o.dst v) V'
   |.panic ch,V'=>Q (.panic ch) a V') (R':=fun
   |.ret v,V'=>N' (a.put o.dst v) V'
   |.panic ch,V'=>Q' (.panic ch) a V') h λot V' h=> ?_
  cases ot
  ·exact hN _ _ h
  ·exact hQ _ _ _ h
 |_=>exact h.elim
def Bm{ops:SK}{Q:SJ}{l2:SE}:∀(l1:SE)(a:Act)(V:View),di lv P r ops (Ex.then (di lv P r ops Q l2) Q) l1 a V->di lv P r ops Q (l1++l2) a V
 |[],a,V,h=>h
 |i::l1,a,V,h=>by
  simp only[WK,di]at h⊢;cases ho:ops[i]?with
  |none=>rw[ho]at h;exact Bm l1 a V h
  |some o=>
   rw[ho]at h;dsimp only at h⊢;split at h
   ·rename_i hw;rw[if_pos hw];rcases h with h|h
    rotate_left
    ·exact .inr (h.mono λa V h=>Bm l1 a V h)
    obtain⟨h1,h2⟩:=h;exact .inl ⟨h1,h2.mono (λnx V' h=>mG.mono (λa V h=>Bm l1 a V h) (λ_ _ _ h=>h) h) λ_ _ h=>h⟩
   ·rename_i hw;rw[if_neg hw];exact Bm l1 _ V h
def w6 (E:Env):List (AV×SC)->List Ye->Prop
 |[],[]=>True
 |c::ds,d::l=>yT E c d/\w6 E ds l
 |_,_=>False
abbrev S4:=List Ye
def w6.mono{E E':Env}(h:E.Le E'):∀{ds:List (AV×SC)}{l:S4},w6 E ds l->w6 E' ds l
 |[],[],_=>trivial
 |_::_,_::_,k=>⟨k.1.mono h,w6.mono h k.2⟩
 |[],_::_,k=>k.elim
 |_::_,[],k=>k.elim
structure qL (E E':Env)(V V':View)(a a':Act):Prop where
 le:E.Le E'
 size:a'.tmps.size=a.tmps.size
 role:V'.role=V.role
 deaf:V'.deaf=V.deaf
def qL.trans{E E' bS:Env}{V V' aW:View}{a a' cu:Act}(h:qL E E' V V' a a')(k:qL E' bS V' aW a' cu):qL E bS V aW a cu:=⟨h.le.trans k.le,k.size.trans h.size,k.role.trans h.role,k.deaf.trans h.deaf⟩
def Kept.d{E E':Env}{V V':View}{a a':Act}(h:Kept E E' V V' a a'):qL E E' V V' a a':=⟨h.le,h.size,h.role,h.deaf⟩
abbrev S6:=an->AS->List (AV×SC)->Prop
def Bp (lv:Bool)(P:Tg)(nt:Nat)(c:UX)(s:AS)(ds:List (AV×SC))(Φ:S6):Prop:=
 ∀(E:Env)(V:View)(a:Act)(Q:SJ),At E V s a nt->w6 E ds a.defers->(∀ae e E' V' a' s' kT,qL E E' V V' a a'->At E' V' s' a' nt->w6 E' kT a'.defers->pL E' ae e->Φ ae s' kT->Q e a' V')->WP lv P none c Q a V
def an.wU (next:AS->List (AV×SC)->Prop)(Φ:S6):an->AS->List (AV×SC)->Prop
 |.normal,s,ds=>next s ds
 |e,s,ds=>Φ e s ds
def agj{nt id n:Nat}{ops:SK}{o:U8}{c:Ym}{x:Ui}{ds:List (AV×SC)}{Φ:S6}(hn:ops.size=n+1)(ho:ops[n]?=some o)(hg:o.guard=none)(az:o.op=.defer c)(aV:c.callee=.value x)
  (dl:(ops.all λo=>o.dst.all (·<nt))=true)
  (h:iy lv P ops (ops.toList.take n) s (λs'=>ao (s'.ev x) λf=>ao (fe s' c.args.toList) λaG=>(∃g first cT,f=.fn (.func g) first cT)/\Φ .normal (s'.put o.dst (.val undef)) ((f,aG)::ds)) (λpv s'=>Φ (.panic pv) s' ds)):Bp lv P nt (.region id ops false) s ds Φ:=by
 intro E V a Q ak hd hQ;refine wp_region ?_;have hr:Tt ops.size=UZ 0 n++[n]:=by
  have:=Yc (s:=0) (m:=n) (n:=1);rw[VX,hn,<- this];simp
 rw[hr];have Sf:∀o∈ops,∀d,o.dst=some d->d<nt:=λo ho d e=>by
  have:=(Vw.1 dl) o ho;rw[e]at this;simpa using this
 refine Bm _ _ _ (HB (r:=none) (Φ:=λe s'=>match e with
  |.normal=>ao (s'.ev x) λf=>ao (fe s' c.args.toList) λaG=>(∃g first cT,f=.fn (.func g) first cT)/\Φ .normal (s'.put o.dst (.val undef)) ((f,aG)::ds)
  |e=>Φ e s' ds) Sf rfl n 0 s (by omega) (by simpa using h) E V a _ ak λae e E' V' a' s' hk aU he hΦ=> ?_)
 cases ae<;>cases e<;>first
  |exact he.elim
  |exact hQ _ _ E' V' a' s' ds hk.d aU (by rw[hk.defers];exact hd.mono hk.le) he hΦ
  |skip
 obtain⟨f,h1,hA⟩:=ao.out hΦ;obtain⟨aG,h2,⟨g,first,cT,rfl⟩,hB⟩:=hA.out;simp only[Ex.then,di,ho];rw[if_pos (by unfold Ug;rw[hg])];refine .inl ⟨.inl rfl,?_⟩;unfold execOp;rw[az];dsimp only;unfold resolve;rw[aV];dsimp only;have bt:=ap.ev aU.tok h1;generalize cp:a'.eval x=cv at bt;cases bt with
 |fn dA dH q1 q2=>
  rename_i fa ca;unfold VM;refine ay (aq (aq ?_));refine⟨rfl,?_⟩;have fJ:o∈ops:=ZZ ho;have e:c.args.map a'.eval=(c.args.toList.map a'.eval).toArray:=by apply Ws;simp
  refine hQ .normal .normal E' V' _ (s'.put o.dst (.val undef)) ((.fn (.func g) first cT,aG)::ds) ⟨hk.le,(dY _ _ _).trans hk.size,hk.role,hk.deaf⟩ ⟨by rw[e_];exact aU.br,aU.tok.gM (a:={a' with defers:=⟨.fn (.func g) ca,fa++c.args.map a'.eval⟩::a'.defers}) (λd e=>by rw[aU.size];exact Sf o fJ d e) (.val _),(dY _ _ _).trans aU.size⟩ ?_ trivial hB;rw[put_defers];refine⟨⟨g,first,cT,fa,ca,_,rfl,rfl,⟨dA,q1⟩,⟨dH,q2⟩,?_⟩,by rw[hk.defers];exact hd.mono hk.le⟩;rw[e];exact zB aU.tok h2
def Pv{nt id n:Nat}{ops:SK}{o:U8}{c:Ym}{x:Ui}{ds:List (AV×SC)}{Φ:S6}(hn:ops.size=n+1)(ho:ops[n]?=some o)(hg:o.guard=none)(aO:o.dst=none)(az:o.op=.defer c)(aV:c.callee=.value x)
  (dl:(ops.all λo=>o.dst.all (·<nt))=true)
  (h:iy lv P ops (ops.toList.take n) s (λs'=>ao (s'.ev x) λf=>ao (fe s' c.args.toList) λaG=>(∃g first cT,f=.fn (.func g) first cT)/\Φ .normal s' ((f,aG)::ds)) (λpv s'=>Φ (.panic pv) s' ds)):Bp lv P nt (.region id ops false) s ds Φ:=by
 refine agj hn ho hg az aV dl ?_;rw[aO];exact h
end
section
variable {lv:Bool}{P:Tg}
def acE{rs:SW}{fn:avu}{n nt:Nat}{k kp:SF}{E E':Env}{V V':View}{s':AS}{a':Act}(hr:fn.results=rs.toArray)(ak:At E' V' s' a' nt)(hle:E.Le E')(hn:E.n=n)(cg:V'.role=V.role)(eX:V'.deaf=V.deaf)(hΦ:ao (gV P s' rs) λl=>bY n s'.H (iW l) k):
  ∃v,aR P V' (results fn a'.tmps) (λx aW=>x=v/\aW=V') (λ_ _=>False)/\gh E V k kp (.ret v) V':=by
 obtain⟨l,h1,h2⟩:=hΦ.out;have gA:∃v,ap E' (iW l) v/\aR P V' (results fn a'.tmps) (λx aW=>x=v/\aW=V') (λ_ _=>False):=by
  obtain⟨vs,hl,lR,yb⟩:=HT ak rs l h1;refine⟨if h:vs.length=1 then vs[0]else .tuple vs.toArray,?_,?_⟩
  ·match l,vs,hl,lR with
   |[x],[v],_,lR=>exact lR 0 x rfl
   |[],[],_,lR=>exact .aF rfl (by simp)
   |x::y::l,v::w::vs,hl,lR=>exact .aF (by simpa using hl) (λi z hz=>by simpa[Td,Se]using lR i z hz)
  ·unfold results;rw[hr,Y3];refine ay ?_;refine ay (yb ?_);refine aq (aq ⟨?_,rfl⟩);simp
 obtain⟨v,bh,qt⟩:=gA;obtain⟨b,bS,H',q1,q2,q3,q4⟩:=xz h2 ak.br bh hle hn;exact⟨v,qt,b,bS,H',q1,cg,eX,q2,q3,q4⟩
def yY (lv:Bool)(P:Tg)(rs:SW)(n:Nat)(k kp:SF):an->AS->List (AV×SC)->Prop
 |.normal,s,[]|.ret,s,[]=>ao (gV P s rs) λl=>bY n s.H (iW l) k
 |.panic pv,s,[]=>bY n s.H pv kp
 |.normal,s,[c]|.ret,s,[c]=>qI lv P c s.H none (λH'=>ao (gV P ⟨s.T,H'⟩ rs) λl=>bY n H' (iW l) k) (λ_=>False)
 |.panic pv,s,[c]=>qI lv P c s.H (some pv) (λH'=>ao (gV P ⟨s.T,H'⟩ rs) λl=>bY n H' (iW l) k) (λH'=>bY n H' pv kp)
 |_,_,_=>False
def yU.mono{g:UH}{args:SG}{md:Wa}{V:View}{R R':Wa->View->Prop}(h:yU lv P g args md V R)(hr:∀m V,R m V->R' m V):yU lv P g args md V R':=λmain J C fr cs hm hR=>h main J C fr cs hm λnT V' r=>hR nT V' (hr _ _ r)
@[congr] theorem auz {nt : Nat} {c : UX} {s s' : AS} {ds kT : List (AV × SC)} {Φ : an -> AS -> List (AV × SC) -> Prop} (h : s = s') (hd : ds = kT) : Bp lv P nt c s ds Φ = Bp lv P nt c s' kT Φ := by rw[h, hd]
def asG(K:AS->List (AV×SC)->Prop)(Φ:S6)(s:AS)(ds:List (AV×SC)):an.wU K Φ .normal s ds=K s ds:=by rw[an.wU]
def asJ(K:AS->List (AV×SC)->Prop)(Φ:S6)(s:AS)(ds:List (AV×SC)):an.wU K Φ .ret s ds=Φ .ret s ds:=by rw[an.wU];simp
def asH(K:AS->List (AV×SC)->Prop)(Φ:S6)(a:AV)(s:AS)(ds:List (AV×SC)):an.wU K Φ (.panic a) s ds=Φ (.panic a) s ds:=by rw[an.wU];simp
@[congr] theorem avj {K : AS -> List (AV × SC) -> Prop} {Φ : an -> AS -> List (AV × SC) -> Prop} {e e' : an} {s s' : AS} {ds kT : List (AV × SC)} (he : e = e') (h : s = s') (hd : ds = kT) : an.wU K Φ e s ds = an.wU K Φ e' s' kT := by rw[he, h, hd]
@[congr] theorem auM {rs : List aa'} {n : Nat} {k kp : AV -> SA -> Prop} {e e' : an} {s s' : AS} {ds kT : List (AV × SC)} (he : e = e') (h : s = s') (hd : ds = kT) : yY lv P rs n k kp e s ds = yY lv P rs n k kp e' s' kT := by rw[he, h, hd]
def ajZ(rs:SW)(n:Nat)(k kp:SF)(s:AS):yY lv P rs n k kp .ret s []=ao (gV P s rs) λl=>bY n s.H (iW l) k:=by rw[yY]
def ajY(rs:SW)(n:Nat)(k kp:SF)(s:AS)(pv:AV):yY lv P rs n k kp (.panic pv) s []=bY n s.H pv kp:=by rw[yY]
attribute [seval] asG asJ asH ajZ ajY
end
section
variable {P:Tg}
def adB{ι:Type}{body:ι->PUnit->Sem (ForInStep PUnit)}:∀(l:List ι),(∀i∈l,bm P (body i ⟨⟩) (.yield ⟨⟩))->bm P (forIn l ⟨⟩ body) ⟨⟩
 |[],_=>by simpa using iH PUnit.unit
 |i::l,h=>by
  rw[X0];exact lB (h i (Ut ..)) (adB l λj hj=>h j (T_ _ hj))
def asr{t:TypeId}{k0 k:UN}{d:Nat}{b:Bool}{x:Int}(h:P.underlying t=some (.int k0)):bm P (Wb b (d+1) t (.int k x)) ():=by
 rw[Wb];exact yP h (iH _)
def adz{t e:TypeId}{k0 k:UN}{n d:Nat}{i:XV}{b:Bool}{xs:SD}(ht:P.underlying t=some (.array n e))(he:P.underlying e=some (.int k0))(hi:P.info? e=some i)(hs:i.size=1)(hx:xs.length=n):
  bm P (Wb b (d+2) t (.agg (xs.map (S_ k)).toArray)) ():=by
 rw[Wb];refine yP ht ?_;dsimp only;simp only[Xw,Yz];refine lB (a:=⟨⟩) ?_ (iH _);refine adB _ λj hj=> ?_;have hn:(n-0+1-1)/1=n:=by simp
 have pf:j<n:=by rw[hn]at hj;simp[Y1]at hj;omega
 have gx:xs[j]?=some (xs[j]'(by omega)):=Ts _;refine N8 hi ?_;rw[hs,Zc];refine Ef he rfl (v:=.int k (xs[j]'(by omega))) (by simp[gx]) ?_;exact lB (asr he) (iH _)
def eA (x:SD×Nat):MapEntry:={key:=.agg (x.1.map (S_ .i64)).toArray,val:=.bool true,born:=x.2}
def p7 (x:SD):List (SD×Nat)->Nat->Option (Nat×T5)
 |[],_=>none
 |y::ts,i=>if x==y.1 then some (i,.bool true)else p7 x ts (i+1)
abbrev TF:=List (SD×Nat)
def adD{t e:TypeId}{k0:UN}{n:Nat}{i:XV}{x:SD}(ht:P.underlying t=some (.array n e))(he:P.underlying e=some (.int k0))(hi:P.info? e=some i)(hs:i.size=1)(hx:x.length=n):∀(ts:TF)(j:Nat),(∀y∈ts,y.1.length=n)->
  bm P (YJ t (.agg (x.map (S_ .i64)).toArray) (ts.map eA) j) (p7 x ts j)
 |[],j,_=>by rw[aj',YJ,p7];exact iH _
 |y::ts,j,h=>by
  rw[VI,YJ,p7];refine lB (adC ht he hi hs hx (h y (Ut ..))) ?_;by_cases wC:(x==y.1)=true
  ·rw[if_pos wC,if_pos wC];exact iH _
  ·rw[if_neg wC,if_neg wC];exact adD ht he hi hs hx ts (j+1) λz hz=>h z (T_ _ hz)
def adF{t e:TypeId}{k0:UN}{n:Nat}{i:XV}{x:SD}(ht:P.underlying t=some (.array n e))(he:P.underlying e=some (.int k0))(hi:P.info? e=some i)(hs:i.size=1)(hx:x.length=n){ts:TF}(h:∀y∈ts,y.1.length=n):
  bm P (WZ t (.agg (x.map (S_ .i64)).toArray) (ts.map eA)) (p7 x ts 0):=by
 unfold WZ;refine yP ht ?_;cases ts with
 |nil=>exact iH _
 |cons y ts=>
  have e1:Instr.findNow (.array n e) (.agg (x.map (S_ .i64)).toArray) ((y::ts).map eA) 0=none:=rfl;rw[e1];exact adD ht he hi hs hx (y::ts) 0 h
def QR{x:SD}:∀{ts:TF}{j i:Nat}{v:T5},p7 x ts j=some (i,v)->∃b,j<=i/\ts[i-j]?=some (x,b)/\v=.bool true
 |y::ts,j,i,v,h=>by
  rw[p7]at h;split at h
  ·rename_i wC;cases h;obtain⟨y1,b⟩:=y;have:x=y1:=(by simpa using wC);subst this;exact⟨b,Tm _,by simp,rfl⟩
  ·obtain⟨b,h1,h2,h3⟩:=QR h;refine⟨b,by omega,?_,h3⟩;have:i-j=(i-(j+1))+1:=(by omega);rw[this,Vy];exact h2
def QQ{x:SD}:∀{ts:TF}{j:Nat},p7 x ts j=none->∀y∈ts,y.1≠x
 |y::ts,j,h,z,hz=>by
  rw[p7]at h;split at h
  ·cases h
  ·rename_i wC;rcases Th.1 hz with rfl|hz
   ·intro e;exact wC (by simp[e])
   ·exact QQ h z hz
end
def arc(xs:SD):Xy 10000 (.agg (xs.map (S_ .i64)).toArray) (.agg (xs.map (S_ .i64)).toArray)=true:=by
 show Xy (9999+1) _ _=true;rw[Xy];simp only[beq_self_eq_true,VO,Uv]
 rintro⟨a,b⟩ h
 have:a=b/\a∈xs.map (S_ .i64):=by
  have key:∀l:S5,(a,b)∈l.zip l->a=b/\a∈l:=by
   intro l;induction l with
   |nil=>intro h;cases h
   |cons x l ih=>
    intro h;rw[List.zip_cons_cons]at h;rcases Th.1 h with h|h
    ·cases h;exact⟨rfl,Ut ..⟩
    ·exact⟨(ih h).1,T_ _ (ih h).2⟩
  exact key _ h
 obtain⟨rfl,hm⟩:=this;obtain⟨x,_,rfl⟩:=Um.1 hm;simp[Xy]
def acv(ts:TF)(ck:Nat)(x:SD):wQ (ts.map eA).toArray ck (.agg (x.map (S_ .i64)).toArray) (.bool true) none=.map ((ts++[(x,ck)]).map eA).toArray (ck+1):=by
 simp[wQ,eA]
def apO{ts:TF}{ck i b:Nat}{x:SD}{v:T5}(h:ts[i]?=some (x,b)):wQ (ts.map eA).toArray ck (.agg (x.map (S_ .i64)).toArray) (.bool true) (some (i,v))=.map (ts.map eA).toArray ck:=by
 simp only[wQ];congr 1;apply Array.ext_getElem?;intro j;rw[Wd];by_cases hj:i=j
 ·subst hj;rw[if_pos rfl];simp[h,eA]
 ·rw[if_neg hj]
def aoU(xs:SD):AV.of (.agg (xs.map (S_ .i64)).toArray)=.agg (xs.map iv):=by
 simp only[AV.of,Y2];congr 1
def PG(ts:TF)(ck:Nat)(h:∀y∈ts,y.2<ck):((ts.map eA).toArray.all (λe=>decide (e.born>=ck))=false\/(ts.map eA).toArray.isEmpty=true):=by
 cases ts with
 |nil=>right;rfl
 |cons y ts=>
  left;have:=h y (Ut ..);simp[eA];omega
def DU{α β:Type}(f:α->β):∀{l:List α},(l.map f).Nodup->l.Nodup
 |[],_=>XL
 |x::l,h=>by
  rw[VI,WM]at h;exact WM.2 ⟨λhm=>h.1 (Um.2 ⟨x,hm,rfl⟩),DU f h.2⟩
def acP{ts vs:TF}(hv:(vs.map (·.2)).Nodup)(ht:(ts.map (·.2)).Nodup)(lP:∀y∈vs,y∈ts)(fI:∀y∈ts,y.2∈vs.map (·.2)):vs.Perm ts:=by
 have uO:vs.Nodup:=DU _ hv;have mm:ts.Nodup:=DU _ ht;refine(List.perm_ext_iff_of_nodup uO mm).2 λy=>⟨lP y,λhy=> ?_⟩;obtain⟨z,hz,e⟩:=Um.1 (fI y hy);have Mm:=lP z hz;have:∀(l:TF),(l.map (·.2)).Nodup->z∈l->y∈l->z=y:=by
  intro l;induction l with
  |nil=>intro _ h;cases h
  |cons x l ih=>
   intro hn h1 h2;rw[VI,WM]at hn;rcases Th.1 h1 with e1|Kq
   ·rcases Th.1 h2 with e2|zN
    ·rw[e1,e2]
    ·exact absurd (show x.2∈l.map (·.2)from Um.2 ⟨y,zN,by rw[<- e1];exact e.symm⟩) hn.1
   ·rcases Th.1 h2 with e2|zN
    ·exact absurd (show x.2∈l.map (·.2)from Um.2 ⟨z,Kq,by rw[<- e2];exact e⟩) hn.1
    ·exact ih hn.2 Kq zN
 rw[<- this ts ht Mm hy];exact hz
def QT{y:SD×Nat}:∀{ts:TF},(ts.map (·.2)).Nodup->y∈ts->(ts.map eA).toArray.find? (λe=>e.born==y.2)=some (eA y):=by
 intro ts hn hy;rw[List.find?_toArray];induction ts with
 |nil=>cases hy
 |cons z ts ih=>
  rw[VI,WM]at hn;rw[VI];by_cases h:z.2=y.2
  ·rw[List.find?_cons_of_pos (by simp[eA,h])];rcases Th.1 hy with e|pw
   ·rw[e]
   ·exact absurd (show z.2∈ts.map (·.2)from Um.2 ⟨y,pw,h.symm⟩) hn.1
  ·rw[List.find?_cons_of_neg (by simp[eA,h])];rcases Th.1 hy with e|pw
   ·exact absurd (by rw[e]) h
   ·exact ih hn.2 pw
def ab5(y:SD×Nat):AV.of (eA y).key=.agg (y.1.map iv):=aoU y.1
section
variable {lv:Bool}{P:Tg}
def arj{l:Nat}{r:awt}{V:View}(ho:V.own l=some (.loop r))(hs:r.state=.ready)(hc:V.role.chan≠some l):aR P V (do YK l;pure Next.skip) (λnx V'=>nx=.skip/\V'=V.upd l (.loop {r with state:=.busy})) (λ_ _=>False):=by
 unfold YK XI;refine ay (ay (ay ?_));unfold getObj;refine nX ho rfl rfl hc (b8 ?_);dsimp only;refine aq ?_;refine ay ?_;unfold setObj;refine yK ho rfl rfl hc (b8 ?_);rw[hs];exact aq (aq ⟨rfl,rfl⟩)
def arn{l:Nat}{r:awt}{V:View}(py:Option UX)(ho:V.own l=some (.loop r))(hc:V.role.chan≠some l):aR P V (X9 l py) (λv V'=>v=.bool py.isNone/\V'=V.upd l (.loop {r with state:=if py.isNone then .ready else .done,pending:=py})) (λ_ _=>False):=by
 unfold X9 XI;refine ay (ay ?_);unfold getObj;refine nX ho rfl rfl hc (b8 ?_);dsimp only;refine aq ?_;refine ay ?_;unfold setObj;refine yK ho rfl rfl hc (b8 ?_);exact aq ⟨rfl,rfl⟩
def arm{l:Nat}{r:awt}{V:View}(ho:V.own l=some (.loop r))(hs:r.state≠ .busy)(hc:V.role.chan≠some l):aR P V (as' l) (λv V'=>v=r.pending/\V'=V.upd l (.loop {r with state:=.exhausted})) (λ_ _=>False):=by
 unfold as' XI;refine ay (ay ?_);unfold getObj;refine nX ho rfl rfl hc (b8 ?_);dsimp only;refine aq ?_;have:(r.state==aws)=false:=by simpa using hs
 rw[if_neg (by rw[this];simp)];refine ay ?_;unfold setObj;refine yK ho rfl rfl hc (b8 ?_);exact aq ⟨rfl,rfl⟩
abbrev TE:=Array Tmp
def aro{fn:UH}{tmps:SG}{ps:TE}{bN body:UX}{V:View}:aR P V (XY fn tmps ps bN body none) (λx V1=>∃d l,V.fresh d/\(V.upd d (.deferred (some []))).fresh l/\x=(l,[{target:=.collected d,args:=#[]}])/\
  V1=(V.upd d (.deferred (some []))).upd l (.loop {state:=.ready,pending:=none,fn,tmps,params:=ps,assign:=bN,body,defers:=d})) (λ_ _=>False):=by
 unfold XY;dsimp only;refine ay ?_;unfold newObj;refine nY λd hd=>b8 ?_;refine ay (aq ?_);dsimp only;refine ay (nY λl hl=>b8 (aq ?_));exact⟨d,l,hd,hl,rfl,rfl⟩
def NX{d:Nat}{V:View}(ho:V.own d=some (.deferred (some [])))(hc:V.role.chan≠some d):aR P V (Z7 d) (λv V'=>v=[]/\V'=V.upd d (.deferred none)) (λ_ _=>False):=by
 unfold Z7;refine ay ?_;unfold getObj;refine nX ho rfl rfl hc (b8 ?_);dsimp only;refine ay ?_;unfold setObj;refine yK ho rfl rfl hc (b8 ?_);exact aq ⟨rfl,rfl⟩
def aez (l:Nat)(R:SU):Ex->Act->View->Prop
 |.normal,_,V=>∃r,V.own l=some (.loop r)/\V.role.chan≠some l/\R (.ret (.bool true)) (V.upd l (.loop {r with state:=.ready,pending:=none}))
 |.ret,_,V=>∃r,V.own l=some (.loop r)/\V.role.chan≠some l/\R (.ret (.bool false)) (V.upd l (.loop {r with state:=.done,pending:=some .ret}))
 |.exit i,_,V=>∃r,V.own l=some (.loop r)/\V.role.chan≠some l/\R (.ret (.bool false)) (V.upd l (.loop {r with state:=.done,pending:=some (.exit i)}))
 |.goto i,_,V=>∃r,V.own l=some (.loop r)/\V.role.chan≠some l/\R (.ret (.bool false)) (V.upd l (.loop {r with state:=.done,pending:=some (.goto i)}))
 |.panic ch,a,V=>a.defers=[]/\R (.panic ch) V
def aex (lv:Bool)(P:Tg)(l:Nat)(body:UX)(R:SU):Ex->Act->View->Prop
 |.normal,a,V=>∃r,V.own l=some (.loop r)/\V.role.chan≠some l/\r.state=.ready/\WP lv P (some l) body (aez l R) a (V.upd l (.loop {r with state:=.busy}))
 |_,_,_=>False
def aqX{l f:Nat}{tmps:SG}{bN body:UX}{V:View}{R:SU}(h:WP lv P (some l) bN (aex lv P l body R) {tmps,defers:=[]} V):nf lv P (Y5 l f tmps bN body .normal) V R:=by
 intro main J C c cs h1 h2;let b:VA:={(default:VA)with fn:=f,kind:=.normal,roundOf:=some l};have amk:Y5 l f tmps bN body .normal=on b {tmps,defers:=[]} [.code bN,.beginRound,.code body]:=rfl;rw[amk];have leave:∀(a:Act)(V':View)(r:awt)(py:Option UX)(todo:SY),V'.own l=some (.loop r)->V'.role.chan≠some l->R (.ret (.bool py.isNone)) (V'.upd l (.loop {r with state:=if py.isNone then .ready else .done,pending:=py}))->
   (∀w,stepG P main (G (on b a todo) (c::cs)) w=UT (seen P b.fn ((X9 l py).runT P w #[]).2) (match((X9 l py).runT P w #[]).1 with
    |.ok v w=>doReturn P main (on b a todo) (c::cs) none v w
    | .halt _ w => .ended (.stuck "range over a function: no such loop" ((on b a todo).pos P)) w)) -> J V' (G (on b a todo) (c :: cs)) := by
  intro a V' r py todo ho eW hR aT;refine C.step _ _ rfl λw fA=> ?_;obtain⟨es,w',aW,k1,k2,k3⟩:=(arn (P:=P) py ho eW).runs fA;rcases k3 with⟨v,k3,rfl,rfl⟩|⟨_,_,hx⟩
  ·refine⟨G (c.finish (.bool py.isNone)) cs,w',seen P b.fn es,_,?_,k1.seen P b.fn,h1 _ _ hR⟩;rw[aT w];simp[Uw,k3,k2,doReturn,UT,on,b,G]
  ·exact hx.elim
 refine h main J C b [.beginRound,.code body] (c::cs) (by show Z8≠VZ;decide) rfl λe a' V' q=> ?_;cases e with
 |normal=>
  obtain⟨r,ho,eW,hs,hw⟩:=q;refine C.step _ _ rfl λw fA=> ?_;obtain⟨es,w',aW,k1,k2,k3⟩:=(arj (P:=P) ho hs eW).runs fA;rcases k3 with⟨nx,k3,rfl,rfl⟩|⟨_,_,hx⟩
  ·refine⟨G (on b a' [.code body]) (c::cs),w',seen P b.fn es,_,?_,k1.seen P b.fn,?_⟩
   ·have:stepG P main (G (on b a' [.beginRound,.code body]) (c::cs)) w=stepG.apply P true (on b a' [.beginRound,.code body]) (c::cs) none (do YK l;pure Next.skip) w:=by
     simp[G,stepG,U1,on,b]
    rw[this];have jO:((on b a' [.beginRound,.code body]).kind==VZ)=false:=(by simp[on,b]);simp only[stepG.apply,Uw,if_true,k3,k2,jO,UT];rfl
   ·refine hw main J C b [] (c::cs) (by show Z8≠VZ;decide) rfl λe cu aW q=> ?_;cases e with
    |normal=>
     obtain⟨r',bf,nD,hR⟩:=q;refine leave cu aW r' none [] bf nD hR λw=> ?_;simp[G,stepG,U1,on,b];rfl
    |ret=>
     obtain⟨r',bf,nD,hR⟩:=q;intro k;refine leave cu aW r' (some .ret) _ bf nD hR λw=> ?_;simp[G,stepG,U1,on,b];rfl
    |exit i=>
     obtain⟨r',bf,nD,hR⟩:=q;refine .inr ⟨rfl,λk2 cH=> ?_⟩;refine leave cu aW r' (some (.exit i)) _ bf nD hR λw=> ?_;simp[G,stepG,U1,on,b,cH];rfl
    |goto i=>
     obtain⟨r',bf,nD,hR⟩:=q;refine .inr ⟨rfl,λk2 cH=> ?_⟩;refine leave cu aW r' (some (.goto i)) _ bf nD hR λw=> ?_;simp[G,stepG,U1,on,b,cH];rfl
    |panic ch=>
     obtain⟨hd,hR⟩:=q;intro todo amy;refine C.idle rfl (λw=> ?_) (h2 _ _ hR);have akT:avv P {on b cu todo with mode:=.panicking ch}=false:=by
      unfold avv
      match todo,amy with
      |.call .. ::_,h=>cases h
      |[],_=>split<;>simp_all[on]
      |x::k,_=>cases x<;>(split<;>simp_all[on,abM])
     have bt:({on b cu todo with mode:=.panicking ch}:VA).defers=[]:=hd;simp only[G,stepG,unwind,bt,akT];simp
  ·exact hx.elim
 |_=>exact q.elim
def mark (a:Act)(d:Nat):Act:={a with defers:={target:=.collected d,args:=#[]}::a.defers}
def xb (l:Nat)(Q:SJ)(a:Act):Out->View->Prop
 |.ret _,V=>∃r,V.own l=some (.loop r)/\V.role.chan≠some l/\r.state≠ .busy/\(match r.pending with
  |none=>Q .normal a (V.upd l (.loop {r with state:=.exhausted}))
  |some .ret=>Q .ret a (V.upd l (.loop {r with state:=.exhausted}))
  |some (.exit i)=>Q (.exit i) a (V.upd l (.loop {r with state:=.exhausted}))
  |some (.goto i)=>Q (.goto i) a (V.upd l (.loop {r with state:=.exhausted}))
  |_=>False)
 |.panic ch,V=>Q (.panic ch) a V
abbrev EO (l d:Nat)(Q:Ex->Act->View->Prop)(a:Act):Out->View->Prop:=xb l Q (mark a d)
def acB{rr:SL}{f:Ui}{ps:TE}{bN body:UX}{Q:SJ}{a a1:Act}{V1:View}{l:Nat}{main:Bool}{J:SM}(C:Closed lv P main J){b:VA}{k:SY}{cs:SX}(hb:b.kind≠ .early)(hr:b.roundOf=rr)(hL:∀e a' V',Q e a' V'->vB J b k cs e a' V'){w w1:Ul}{es:SO}{V:View}
  (h:aR P V1 (do let dd<- VM (a.eval f) #[.func (.yield l) #[] #[]];invoke dd.target dd.args) (λnx V'=>Nx lv P (xb l Q a1) nx V') (λv V'=>xb l Q a1 (.panic [{v,recovered:=false}]) V'))
  (s1:da V w V1 w1 (fC es)) (aT:stepG P main (G (on b a (.code (.rangeFunc f ps bN body)::k)) cs) w=UT (seen P b.fn es) (stepG.apply P true (on b a1 (.inRangeFunc l::k)) cs none (do let dd<- VM (a.eval f) #[.func (.yield l) #[] #[]];invoke dd.target dd.args) w1)):
  ∃g' w' es V',stepG P main (G (on b a (.code (.rangeFunc f ps bN body)::k)) cs) w=.go g' w' es/\da V w V' w' es/\J V' g':=by
 have fin:∀(v:T5)(V':View),xb l Q a1 (.ret v) V'->J V' (G (on b a1 (.endRangeFunc l::k)) cs):=by
  intro v V' ⟨r,ho,eW,hs,hq⟩;refine C.step _ _ rfl λw fA=> ?_;obtain⟨es,w',aW,k1,k2,k3⟩:=(arm (P:=P) ho hs eW).runs fA;rcases k3 with⟨x,k3,rfl,rfl⟩|⟨_,_,hx⟩
  ·refine⟨G (on b a1 ((r.pending.map Item.code).toList++k)) cs,w',seen P b.fn es,_,?_,k1.seen P b.fn,?_⟩
   ·simp[G,stepG,U1,on,Uw,k3,k2,UT]
   ·generalize r.pending=pe at hq⊢
    match pe,hq with
    |none,hq=>exact hL _ _ _ hq
    |some .ret,hq=>exact hL _ _ _ hq _
    |some (.exit i),hq=>exact aa3 C (hL _ _ _ hq)
    |some (.goto i),hq=>exact amS C (hL _ _ _ hq)
  ·exact hx.elim
 obtain⟨kW,w2,V2,t1,t2,t3⟩:=h.runs s1.sat;have jO:((on b a1 (.inRangeFunc l::k)).kind==VZ)=false:=by simpa[on]using hb
 rw[aT];rcases t3 with⟨nx,t3,hU⟩|⟨v,t3,hU⟩
 ·cases nx with
  |value v=>exact⟨_,w2,seen P b.fn es++seen P b.fn kW,V2,by simp only[stepG.apply,Uw,if_true,t3,t2,jO,UT];rfl,(s1.seen P _).trans (t1.seen P _),fin v _ hU⟩
  |skip=>exact⟨_,w2,seen P b.fn es++seen P b.fn kW,V2,by simp only[stepG.apply,Uw,if_true,t3,t2,jO,UT];rfl,(s1.seen P _).trans (t1.seen P _),fin undef _ hU⟩
  |enter g args=>
   refine⟨G (Frame.enter P g args .normal) (on b a1 (.inRangeFunc l::k)::cs),w2,seen P b.fn es++seen P b.fn kW,V2,by simp only[stepG.apply,Uw,if_true,t3,t2,jO,UT];rfl,(s1.seen P _).trans (t1.seen P _),?_⟩;refine Body.runs hU main J C _ cs (λv aW hR=> ?_) (λch aW hR=> ?_)
   ·exact fin v _ hR
   ·exact hL _ _ _ hR _ rfl
  |round l2 f2 asU as2 b2=>
   refine⟨G (Y5 l2 f2 asU as2 b2 .normal) (on b a1 (.inRangeFunc l::k)::cs),w2,seen P b.fn es++seen P b.fn kW,V2,by simp only[stepG.apply,Uw,if_true,t3,t2,jO,UT];rfl,(s1.seen P _).trans (t1.seen P _),?_⟩;refine hU main J C _ cs (λv aW hR=> ?_) (λch aW hR=> ?_)
   ·exact fin v _ hR
   ·exact hL _ _ _ hR _ rfl
  |_=>exact hU.elim
 ·exact⟨_,w2,seen P b.fn es++seen P b.fn kW,V2,by simp only[stepG.apply,Uw,if_true,t3,t2,jO,UT];rfl,(s1.seen P _).trans (t1.seen P _),hL _ _ _ hU _ rfl⟩
def aeh{f:Ui}{ps:TE}{bN body:UX}{Q:SJ}{a:Act}{V:View}
  (h:∀(fn d l:Nat),V.fresh d->(V.upd d (.deferred (some []))).fresh l->aR P ((V.upd d (.deferred (some []))).upd l (.loop {state:=.ready,pending:=none,fn,tmps:=a.tmps,params:=ps,assign:=bN,body,defers:=d}))
   (do let dd<- VM (a.eval f) #[.func (.yield l) #[] #[]];invoke dd.target dd.args) (λnx V'=>Nx lv P (EO l d Q a) nx V') (λv V'=>EO l d Q a (.panic [{v,recovered:=false}]) V')):WP lv P none (.rangeFunc f ps bN body) Q a V:=by
 intro main J C b k cs hb hr hL;refine C.step _ _ rfl λw fA=> ?_;obtain⟨es,w1,V1,s1,s2,s3⟩:=(aro (P:=P) (fn:=b.fn) (tmps:=a.tmps) (ps:=ps) (bN:=bN) (body:=body)).runs fA;rcases s3 with⟨x,s3,d,l,hd,hl,rfl,rfl⟩|⟨_,_,hx⟩
 ·refine acB C hb hr hL (h b.fn d l hd hl) s1 ?_;have cp:∀(todo:SY)(x:Ui),(on b (mark a d) todo).eval x=a.eval x:=λtodo x=>by rw[HA];cases x<;>rfl
  have e:=cp (.inRangeFunc l::k) f;have e2:=cp (.inRangeFunc l::k) (.const (.func (.yield l) #[] #[]));simp only[on,mark]at e e2;simp[G,stepG,U1,on,Uw,s3,s2,hr,mark,resolve];rw[hr]at e;rw[e];rfl
 ·exact hx.elim
def arp{fn:UH}{tmps:SG}{ps:TE}{bN body:UX}{V:View}{l0:Nat}{r0:awt}(ho:V.own l0=some (.loop r0))(hc:V.role.chan≠some l0):aR P V (XY fn tmps ps bN body (some l0)) (λx V1=>∃l,V.fresh l/\x=(l,[])/\
  V1=V.upd l (.loop {state:=.ready,pending:=none,fn,tmps,params:=ps,assign:=bN,body,defers:=r0.defers})) (λ_ _=>False):=by
 unfold XY XI;dsimp only;refine ay (ay ?_);unfold getObj;refine nX ho rfl rfl hc (b8 ?_);dsimp only;refine aq (ay (aq ?_));dsimp only;refine ay ?_;unfold newObj;refine nY λl hl=>b8 (aq ?_);exact⟨l,hl,rfl,rfl⟩
def atD{f:Ui}{ps:TE}{bN body:UX}{Q:SJ}{a:Act}{V:View}{l0:Nat}{r0:awt}(ho:V.own l0=some (.loop r0))(hc:V.role.chan≠some l0)
  (h:∀(fn l:Nat),V.fresh l->aR P (V.upd l (.loop {state:=.ready,pending:=none,fn,tmps:=a.tmps,params:=ps,assign:=bN,body,defers:=r0.defers}))
   (do let dd<- VM (a.eval f) #[.func (.yield l) #[] #[]];invoke dd.target dd.args) (λnx V'=>Nx lv P (xb l Q a) nx V') (λv V'=>xb l Q a (.panic [{v,recovered:=false}]) V')):WP lv P (some l0) (.rangeFunc f ps bN body) Q a V:=by
 intro main J C b k cs hb hr hL;refine C.step _ _ rfl λw fA=> ?_;obtain⟨es,w1,V1,s1,s2,s3⟩:=(arp (P:=P) (fn:=b.fn) (tmps:=a.tmps) (ps:=ps) (bN:=bN) (body:=body) ho hc).runs fA;rcases s3 with⟨x,s3,l,hl,rfl,rfl⟩|⟨_,_,hx⟩
 ·refine acB C hb hr hL (h b.fn l hl) s1 ?_;have e:=HA b a (.inRangeFunc l::k) f;simp only[on]at e;simp[G,stepG,U1,on,Uw,s3,s2,hr,resolve];rw[hr]at e;rw[e];rfl
 ·exact hx.elim
def Conc.yN{E:Env}{V:View}{H:SA}(hc:Conc E V H){id r fn nt df:Nat}{st:avK}{pe:Option UX}{T:SH}{ps:TE}{bN body:UX}(hk:H[id]?=some (.loop r st pe fn T nt ps bN body df)):
  E.blk id=r/\V.role.chan≠some r/\∃tmps,V.own r=some (.loop {state:=st,pending:=pe,fn,tmps,params:=ps,assign:=bN,body,defers:=E.blk df})/\tmps.size=nt/\cm E T tmps/\
   ∀st' wO,Conc E (V.upd r (.loop {state:=st',pending:=wO,fn,tmps,params:=ps,assign:=bN,body,defers:=E.blk df})) (H.set id (.loop r st' wO fn T nt ps bN body df)):=by
 obtain⟨⟨tmps,p1,p2,p3⟩,p4,p5,p6⟩:=hc.obj id _ hk;have eW:=(hc.iV hk (b:=E.blk id) rfl).2;subst p6;refine⟨rfl,eW,tmps,p1,p2,p3,λst' wO=> ?_⟩;refine hc.iY id (.loop (E.blk id) st' wO fn T nt ps bN body df) (Env.Le.refl E) hc.I (by simpa using hc.n) lU rfl (λ_ _ _=>rfl) (λb z hb hz=>⟨?_,λ_=>rfl⟩) ⟨⟨tmps,by simp[View.upd],p2,p3⟩,p4,p5,rfl⟩ (λb h=> .inl ⟨_,hk,h⟩);have:b≠E.blk id:=λe=>hb _ hk (by rw[e];rfl);simpa[View.upd,this]using hz
def Conc.D_{E:Env}{V:View}{H:SA}(hc:Conc E V H){id:Nat}(x:aa)(hk:H[id]?=some x)(y:Obj){b:Nat}(hb:bJ E id x=some b):Conc E (V.upd b y) (H.set id .gone):=by
 refine hc.iY id .gone (Env.Le.refl E) hc.I (by simpa using hc.n) lU rfl (λ_ _ _=>rfl) (λb' z dj hz=>⟨?_,λ_=>rfl⟩) trivial (λb h=>by cases h);have:b'≠b:=λe=>dj _ hk (by rw[e];exact hb);simpa[View.upd,this]using hz
def se:SE->SC->List (Nat×AV)->List (Nat×AV)
 |t::ts,a::aG,T=>se ts aG ((t,a)::T)
 |_,_,T=>T
def aep{E:Env}{nt:Nat}:∀(ts:SE)(aG:SC)(vs:S5)(T:SH)(tmps:SG),vs.length=aG.length->(∀(i:Nat) a,aG[i]?=some a->ap E a (vs.getD i undef))->(∀t∈ts,t<nt)->tmps.size=nt->cm E T tmps->
  cm E (se ts aG T) ((ts.zip vs).foldl (λtmps (x:Nat×T5)=>tmps.setIfInBounds x.1 x.2) tmps)/\((ts.zip vs).foldl (λtmps (x:Nat×T5)=>tmps.setIfInBounds x.1 x.2) tmps).size=nt
 |[],aG,vs,T,tmps,_,_,_,hs,hT=>by cases aG<;>cases vs<;>exact⟨hT,hs⟩
 |t::ts,[],[],T,tmps,_,_,_,hs,hT=>⟨hT,hs⟩
 |t::ts,[],_::_,T,tmps,h,_,_,hs,hT=>by cases h
 |t::ts,_::_,[],T,tmps,h,_,_,hs,hT=>by cases h
 |t::ts,a::aG,v::vs,T,tmps,hl,hd,ht,hs,hT=>by
  have h0:ap E a v:=by simpa using hd 0 a rfl
  have h1:t<tmps.size:=by rw[hs];exact ht t (by simp)
  exact aep ts aG vs ((t,a)::T) (tmps.setIfInBounds t v) (by simpa using hl) (λi x hx=>by simpa using hd (i+1) x (by simpa using hx)) (λx hx=>ht x (by simp[hx])) (by simpa using hs) (hT.put h1 h0)
def oV (id n:Nat)(k:SF)(st':avK)(wO:Option UX)(b:Bool)(s:AS):Prop:=∃r st pe fn T nt ps bN body df,s.H[id]?=some (.loop r st pe fn T nt ps bN body df)/\bY n (s.H.set id (.loop r st' wO fn T nt ps bN body df)) (.val (.bool b)) k
def aey (id n:Nat)(k kp:SF):an->AS->Prop
 |.normal,s=>oV id n k .ready none true s
 |.ret,s=>oV id n k .done (some .ret) false s
 |.exit i,s=>oV id n k .done (some (.exit i)) false s
 |.goto i,s=>oV id n k .done (some (.goto i)) false s
 |.panic pv,s=>bY n s.H pv kp
def tW (lv:Bool)(P:Tg)(l nt id n:Nat)(body:UX)(k kp:SF):an->AS->Prop
 |.normal,s=>∃pe fn T jl ps bN fu df,s.H[id]?=some (.loop l .ready pe fn T jl ps bN fu df)/\aZ lv P (some l) nt body ⟨s.T,s.H.set id (.loop l .busy pe fn T jl ps bN fu df)⟩ (aey id n k kp)
 |_,_=>False
def vR{l id fn nt df:Nat}{pe:Option UX}{T:SH}{ps:TE}{bN body:UX}{H:SA}{args:SC}{k kp:SF}(cq:H[id]?=some (.loop l .ready pe fn T nt ps bN body df))(hlen:args.length=ps.size)(qp:ps.all (·<nt)=true)
  (h:bO H->(∀a∈args,Lt H.length a)->aZ lv P (some l) nt bN ⟨se ps.toList args T,H⟩ (tW lv P l nt id H.length body k kp)):eM lv P (.fn (.yield l) [] []) H args k kp:=by
 intro E V cv vs hc hd mf;cases hd with
 |fn dA dH h1 h2=>
  rename_i fa ca;have e1:fa=#[]:=by apply Ws;simpa using dA
  subst e1;have hlt:∀a∈args,Lt H.length a:=λa ha=>by
   obtain⟨i,hi⟩:=pC ha;rw[<- hc.n];exact(mf.2 i a hi).lt
  obtain⟨hb,eW,tmps,ho,aX,hT,_⟩:=hc.yN cq;unfold VM;refine ay (aq ?_);unfold invoke;dsimp only;unfold Instr.yield XI;refine ay (ay ?_);unfold getObj;refine nX ho rfl rfl eW (b8 ?_);dsimp only;refine aq ?_;have lR:(#[]++vs).size=ps.size:=by simp[mf.1,hlen]
  rw[if_neg (by simp[mf.1,hlen])];refine aq ?_;show nf lv P _ V (gh E V k kp);have hz:=aep (nt:=nt) ps.toList args vs.toList T tmps (by simpa using mf.1) (λi a e=>by
   have:=mf.2 i a e;simpa[Td,Se]using this) (λt ht=>by
    have:=(Vw.1 qp) t (by simpa using ht);simpa using this) aX hT
  have ahZ:(ps.zip (#[]++vs)).foldl (λtmps (x:Nat×T5)=>tmps.setIfInBounds x.1 x.2) tmps=(ps.toList.zip vs.toList).foldl (λtmps (x:Nat×T5)=>tmps.setIfInBounds x.1 x.2) tmps:=by
   rw[<- Array.foldl_toList,Array.toList_zip];simp
  have ah0:Array.foldl (λtmps x=>match x with|(t,a)=>tmps.setIfInBounds t a) tmps (ps.zip (#[]++vs))=(ps.toList.zip vs.toList).foldl (λtmps (x:Nat×T5)=>tmps.setIfInBounds x.1 x.2) tmps:=ahZ;rw[ah0];refine aqX ?_;refine h hc.au hlt E V _ _ ⟨hc,hz.1,hz.2⟩ λae e E' V' a' s' hk aU he hΦ=> ?_;cases ae<;>cases e<;>first
   |exact he.elim
   |exact hΦ.elim
   |skip
  obtain⟨wO,fG,T',jl,gD,gk,fu,gn,alq,hw⟩:=hΦ;obtain⟨dj,nD,qG,bf,L8,sN,Av⟩:=aU.br.yN alq;refine⟨_,bf,nD,rfl,?_⟩;refine hw E' _ a' _ ⟨Av .busy wO,aU.tok,aU.size⟩ λae e bS aW cu de cH db CR GY=> ?_;have fin:∀(st':avK)(HM:Option UX)(b:Bool),(∃r st pe fn T nt ps bN body df,de.H[id]?=some (.loop r st pe fn T nt ps bN body df)/\bY H.length (de.H.set id (.loop r st' HM fn T nt ps bN body df)) (.val (.bool b)) k)->
    ∃r,aW.own l=some (.loop r)/\aW.role.chan≠some l/\gh E V k kp (.ret (.bool b)) (aW.upd l (.loop {r with state:=st',pending:=HM})):=by
   intro st' HM b ⟨r,st,pe3,fn3,T3,nt3,NK,auv,auE,df3,alr,wi⟩;obtain⟨F4,akX,avn,wx,au6,hT3,amp⟩:=db.br.yN alr;have hlt:id<E.n:=(by rw[hc.n];exact(Tj.1 cq).1);have hle:E.Le bS:=hk.le.trans cH.le;have hr:r=l:=(by rw[<- F4,<- hb];exact hle.blk id hlt);subst hr;obtain⟨x,E4,H4,q1,q2,q3,q4⟩:=xz wi (amp st' HM) (.val _) hle hc.n;exact⟨_,wx,akX,x,E4,H4,q1,cH.role.trans hk.role,cH.deaf.trans hk.deaf,q2,q3,q4⟩
  cases ae<;>cases e<;>first
   |exact CR.elim
   |exact fin .ready none true GY
   |exact fin .done (some .ret) false GY
   |(have e:_=_:=CR
     subst e;exact fin .done _ false GY)
   |skip
  obtain⟨v,akW,bh⟩:=CR;subst akW;obtain⟨x,E4,H4,q1,q2,q3,q4⟩:=xz GY db.br bh (hk.le.trans cH.le) hc.n;refine⟨by rw[cH.defers,hk.defers],x,v,E4,H4,rfl,q1,cH.role.trans hk.role,cH.deaf.trans hk.deaf,q2,q3,q4⟩
def Marks (E:Env)(ms:SE)(l:S4):Prop:=l=ms.map (λi=>({target:=.collected (E.blk i),args:=#[]}:Ye))/\∀i∈ms,i<E.n
def Marks.mono{E E':Env}(h:E.Le E'){ms:SE}{l:S4}(k:Marks E ms l):Marks E' ms l:=
 ⟨by rw[k.1];exact WI λi hi=>by rw[h.blk i (k.2 i hi)],λi hi=>Ub (k.2 i hi) h.n⟩
abbrev SN:=an->AS->SE->Prop
def mC (lv:Bool)(P:Tg)(nt:Nat)(c:UX)(s:AS)(ms:SE)(Φ:SN):Prop:=
 ∀(E:Env)(V:View)(a:Act)(Q:SJ),At E V s a nt->Marks E ms a.defers->(∀ae e E' V' a' s' cI,qL E E' V V' a a'->At E' V' s' a' nt->Marks E' cI a'.defers->pL E' ae e->Φ ae s' cI->Q e a' V')->WP lv P none c Q a V
variable {s:AS}{ms:SE}{nt:Nat}
def I8{c:UX}{Φ:SN}(h:aZ lv P none nt c s λe s'=>Φ e s' ms):mC lv P nt c s ms Φ:=λE V a Q ak hd hQ=>
 h E V a Q ak λae e E' V' a' s' hk aU he hΦ=>hQ ae e E' V' a' s' ms hk.d aU (by rw[hk.defers];exact hd.mono hk.le) he hΦ
def an.rZ (next:AS->SE->Prop)(Φ:SN):an->AS->SE->Prop
 |.normal,s,ms=>next s ms
 |e,s,ms=>Φ e s ms
def I9{x y:UX}{Φ:SN}(h:mC lv P nt x s ms (an.rZ (λs' cI=>mC lv P nt y s' cI Φ) Φ)):mC lv P nt (.seq x y) s ms Φ:=by
 intro E V a Q ak hd hQ;refine wp_seq (h E V a _ ak hd λae e E' V' a' s' cI hk aU cF he hΦ=> ?_);cases ae<;>cases e<;>first
  |exact he.elim
  |exact hΦ E' V' a' Q aU cF λae e bS aW cu de DO aI db Aa j4 tu=>hQ ae e bS aW cu de DO (hk.trans aI) db Aa j4 tu
  |exact hQ _ _ E' V' a' s' cI hk aU cF he hΦ
def nm{x y:UX}{Φ:SN}(h:aZ lv P none nt x s (an.then (λs'=>mC lv P nt y s' ms Φ) λe s'=>Φ e s' ms)):mC lv P nt (.seq x y) s ms Φ:=by
 refine I9 (I8 (h.mono λe s' hs=> ?_));cases e<;>exact hs
def su (Φ:SN)(s:AS)(ms:SE):Option UX->Prop
 |none=>Φ .normal s ms
 |some .ret=>Φ .ret s ms
 |some (.exit i)=>Φ (.exit i) s ms
 |some (.goto i)=>Φ (.goto i) s ms
 |_=>False
def agl{f:Ui}{ps:TE}{bN body:UX}{fv:AV}{Φ:SN}(hf:s.ev f=some fv)
  (h:∀l fn:Nat,eM lv P fv (s.H++[.obj (.deferred (some [])),.loop l .ready none fn s.T nt ps bN body s.H.length]) [.fn (.yield l) [] []]
   (λ_ H'=>∃st pe fG T' jl gD gk fu gn,H'[s.H.length+1]?=some (.loop l st pe fG T' jl gD gk fu gn)/\st≠ .busy/\su Φ ⟨s.T,H'.set (s.H.length+1) .gone⟩ (s.H.length::ms) pe)
   (λpv H'=>Φ (.panic pv) ⟨s.T,H'⟩ (s.H.length::ms))):mC lv P nt (.rangeFunc f ps bN body) s ms Φ:=by
 intro E V a Q ak hm hQ;refine aeh λfn d l hd hl=> ?_;have hc:=ak.br;have cN:Conc (E.add d V.ab) (V.upd d (.deferred (some []))) (s.H++[.obj (.deferred (some []))]):=by
  refine hc.add hd _ ⟨?_,rfl,rfl,λo=> ?_⟩ (λb e=> ?_)
  ·rw[Env.dE];simp[View.upd]
  ·rw[Env.dE];exact hd.2 o
  ·simp only[bJ,Env.dE,Uh]at e;exact e.symm
 have C2:E.Le (E.add d V.ab):=E.pz d (λb o v h=>by rw[<- hc.I];exact h);have CH:(E.add d V.ab).blk s.H.length=d:=by rw[<- hc.n];exact E.dE d _
 let E1:=E.add d V.ab;let V1:=V.upd d (.deferred (some []));have pk:E1.n=s.H.length+1:=by rw[cN.n];simp
 have qi:E1.Le (E1.add l V1.ab):=E1.pz l (λb o v h=>by rw[<- cN.I];exact h);have cx:Conc (E1.add l V1.ab) (V1.upd l (.loop {state:=.ready,pending:=none,fn,tmps:=a.tmps,params:=ps,assign:=bN,body,defers:=d})) ((s.H++[.obj (.deferred (some []))])++[.loop l .ready none fn s.T nt ps bN body s.H.length]):=by
  refine cN.add hl _ ⟨⟨a.tmps,?_,ak.size,(ak.tok.mono C2).mono qi⟩,?_,λo=> ?_,?_⟩ (λb e=> ?_)
  ·have e:(E1.add l V1.ab).blk s.H.length=d:=(by rw[qi.blk s.H.length (by rw[pk];omega)];exact CH);rw[e,Env.dE];simp[View.upd]
  ·show s.H.length<E1.n+1;omega
  ·rw[Env.dE];exact hl.2 o
  ·exact Env.dE _ _ _
  ·simp only[bJ,Env.dE,Uh]at e;exact e.symm
 have hle:E.Le (E1.add l V1.ab):=C2.trans qi;have cD:(E1.add l V1.ab).blk (s.H.length+1)=l:=by rw[<- pk];exact E1.dE l _
 have KR:(E1.add l V1.ab).blk s.H.length=d:=by rw[qi.blk s.H.length (by rw[pk];omega)];exact CH
 rw[Ax]at cx;have ru:∀E',(E1.add l V1.ab).Le E'->Marks E' (s.H.length::ms) (mark a d).defers:=λE' hE=>by
  refine Marks.mono hE ⟨?_,λi hi=> ?_⟩
  ·have:=(hm.mono hle).1;simp only[mark,VI,KR];rw[<- this]
  ·rcases Th.1 hi with rfl|hi
   ·show _<E1.n+1;omega
   ·exact Ub (hm.2 i hi) hle.n
 have bt:=ap.ev ak.tok hf;have CK:=h l fn (E1.add l V1.ab) (V1.upd l (.loop {state:=.ready,pending:=none,fn,tmps:=a.tmps,params:=ps,assign:=bN,body,defers:=d})) (a.eval f) #[.func (.yield l) #[] #[]] cx (bt.mono hle) ⟨rfl,λi x hx=>by
  match i,hx with
  |0,hx=>cases hx;exact .fn rfl rfl (by simp) (by simp)⟩
 have key:∀o V',gh (E1.add l V1.ab) (V1.upd l (.loop {state:=.ready,pending:=none,fn,tmps:=a.tmps,params:=ps,assign:=bN,body,defers:=d}))
   (λ_ H'=>∃st pe fG T' jl gD gk fu gn,H'[s.H.length+1]?=some (.loop l st pe fG T' jl gD gk fu gn)/\st≠ .busy/\su Φ ⟨s.T,H'.set (s.H.length+1) .gone⟩ (s.H.length::ms) pe)
   (λpv H'=>Φ (.panic pv) ⟨s.T,H'⟩ (s.H.length::ms)) o V'->EO l d Q a o V':=by
  intro o V' hr;cases o with
  |ret v=>
   obtain⟨av,E',H',hE,cg,eX,_,bi,st,pe,fG,T',jl,gD,gk,fu,gn,cq,aT,hp⟩:=hr;obtain⟨dj,nD,qG,bf,L8,sN,Av⟩:=bi.yN cq;refine⟨_,bf,nD,aT,?_⟩;have hg:Conc E' (V'.upd l (.loop {state:=.exhausted,pending:=pe,fn:=fG,tmps:=qG,params:=gD,assign:=gk,body:=fu,defers:=E'.blk gn})) (H'.set (s.H.length+1) .gone):=bi.D_ _ cq _ (by simp only[bJ,dj]);have aU:At E' (V'.upd l (.loop {state:=.exhausted,pending:=pe,fn:=fG,tmps:=qG,params:=gD,assign:=gk,body:=fu,defers:=E'.blk gn})) ⟨s.T,H'.set (s.H.length+1) .gone⟩ (mark a d) nt:=⟨hg,ak.tok.mono (hle.trans hE),ak.size⟩;have dP:qL E E' V (V'.upd l (.loop {state:=.exhausted,pending:=pe,fn:=fG,tmps:=qG,params:=gD,assign:=gk,body:=fu,defers:=E'.blk gn})) a (mark a d):=⟨hle.trans hE,rfl,cg,eX⟩;dsimp only
   match pe,hp,aU,dP with
   |none,hp,aU,dP=>exact hQ .normal .normal E' _ _ _ _ dP aU (ru E' hE) trivial hp
   |some .ret,hp,aU,dP=>exact hQ .ret .ret E' _ _ _ _ dP aU (ru E' hE) trivial hp
   |some (.exit i),hp,aU,dP=>exact hQ (.exit i) (.exit i) E' _ _ _ _ dP aU (ru E' hE) rfl hp
   |some (.goto i),hp,aU,dP=>exact hQ (.goto i) (.goto i) E' _ _ _ _ dP aU (ru E' hE) rfl hp
  |panic ch=>
   obtain⟨pv,v,E',H',rfl,hE,cg,eX,bh,bi,hp⟩:=hr;exact hQ (.panic pv) (.panic _) E' V' (mark a d) ⟨s.T,H'⟩ _ ⟨hle.trans hE,rfl,cg,eX⟩ ⟨bi,ak.tok.mono (hle.trans hE),ak.size⟩ (ru E' hE) ⟨v,rfl,bh⟩ hp
 exact CK.mono (λnx V' hn=>Nx.mono key hn) (λv V' hr=>key _ _ hr)
def tV (Φ:SI)(s:AS):Option UX->Prop
 |none=>Φ .normal s
 |some .ret=>Φ .ret s
 |some (.exit i)=>Φ (.exit i) s
 |some (.goto i)=>Φ (.goto i) s
 |_=>False
def af9{f:Ui}{ps:TE}{bN body:UX}{fv:AV}{Φ:SI}{l0 G0 Ki Nc df:Nat}{N3:avK}{Np:Option UX}{T0:SH}{NJ:TE}{I4 Jf:UX}(hf:s.ev f=some fv)(h0:s.H[G0]?=some (.loop l0 N3 Np Ki T0 Nc NJ I4 Jf df))
  (h:∀l fn:Nat,eM lv P fv (s.H++[.loop l .ready none fn s.T nt ps bN body df]) [.fn (.yield l) [] []]
   (λ_ H'=>∃st pe fG T' jl gD gk fu gn,H'[s.H.length]?=some (.loop l st pe fG T' jl gD gk fu gn)/\st≠ .busy/\tV Φ ⟨s.T,H'.set s.H.length .gone⟩ pe)
   (λpv H'=>Φ (.panic pv) ⟨s.T,H'⟩)):aZ lv P (some l0) nt (.rangeFunc f ps bN body) s Φ:=by
 intro E V a Q ak hQ;have hc:=ak.br;obtain⟨sP,akV,avm,ho0,aaI,hT0,_⟩:=hc.yN h0;obtain⟨_,bt,_⟩:=hc.obj G0 _ h0;refine atD ho0 akV λfn l hl=> ?_;have hle:E.Le (E.add l V.ab):=E.pz l (λb o v h=>by rw[<- hc.I];exact h);have cD:(E.add l V.ab).blk s.H.length=l:=by rw[<- hc.n];exact E.dE l _
 have cx:Conc (E.add l V.ab) (V.upd l (.loop {state:=.ready,pending:=none,fn,tmps:=a.tmps,params:=ps,assign:=bN,body,defers:=E.blk df})) (s.H++[.loop l .ready none fn s.T nt ps bN body df]):=by
  refine hc.add hl _ ⟨⟨a.tmps,?_,ak.size,ak.tok.mono hle⟩,?_,λo=> ?_,?_⟩ (λb e=> ?_)
  ·rw[Env.dE,hle.blk df bt];simp[View.upd]
  ·show df<E.n+1;omega
  ·rw[Env.dE];exact hl.2 o
  ·exact Env.dE _ _ _
  ·simp only[bJ,Env.dE,Uh]at e;exact e.symm
 have ale:=ap.ev ak.tok hf;have CK:=h l fn (E.add l V.ab) (V.upd l (.loop {state:=.ready,pending:=none,fn,tmps:=a.tmps,params:=ps,assign:=bN,body,defers:=E.blk df})) (a.eval f) #[.func (.yield l) #[] #[]] cx (ale.mono hle) ⟨rfl,λi x hx=>by
  match i,hx with
  |0,hx=>cases hx;exact .fn rfl rfl (by simp) (by simp)⟩
 have key:∀o V',gh (E.add l V.ab) (V.upd l (.loop {state:=.ready,pending:=none,fn,tmps:=a.tmps,params:=ps,assign:=bN,body,defers:=E.blk df}))
   (λ_ H'=>∃st pe fG T' jl gD gk fu gn,H'[s.H.length]?=some (.loop l st pe fG T' jl gD gk fu gn)/\st≠ .busy/\tV Φ ⟨s.T,H'.set s.H.length .gone⟩ pe)
   (λpv H'=>Φ (.panic pv) ⟨s.T,H'⟩) o V'->xb l Q a o V':=by
  intro o V' hr;cases o with
  |ret v=>
   obtain⟨av,E',H',hE,cg,eX,_,bi,st,pe,fG,T',jl,gD,gk,fu,gn,cq,aT,hp⟩:=hr;obtain⟨dj,nD,qG,bf,L8,sN,Av⟩:=bi.yN cq;refine⟨_,bf,nD,aT,?_⟩;have hg:Conc E' (V'.upd l (.loop {state:=.exhausted,pending:=pe,fn:=fG,tmps:=qG,params:=gD,assign:=gk,body:=fu,defers:=E'.blk gn})) (H'.set s.H.length .gone):=bi.D_ _ cq _ (by simp only[bJ,dj]);have aU:At E' (V'.upd l (.loop {state:=.exhausted,pending:=pe,fn:=fG,tmps:=qG,params:=gD,assign:=gk,body:=fu,defers:=E'.blk gn})) ⟨s.T,H'.set s.H.length .gone⟩ a nt:=⟨hg,ak.tok.mono (hle.trans hE),ak.size⟩;have dP:Kept E E' V (V'.upd l (.loop {state:=.exhausted,pending:=pe,fn:=fG,tmps:=qG,params:=gD,assign:=gk,body:=fu,defers:=E'.blk gn})) a a:=⟨hle.trans hE,rfl,rfl,cg,eX⟩;dsimp only
   match pe,hp,aU,dP with
   |none,hp,aU,dP=>exact hQ .normal .normal E' _ _ _ dP aU trivial hp
   |some .ret,hp,aU,dP=>exact hQ .ret .ret E' _ _ _ dP aU trivial hp
   |some (.exit i),hp,aU,dP=>exact hQ (.exit i) (.exit i) E' _ _ _ dP aU rfl hp
   |some (.goto i),hp,aU,dP=>exact hQ (.goto i) (.goto i) E' _ _ _ dP aU rfl hp
  |panic ch=>
   obtain⟨pv,v,E',H',rfl,hE,cg,eX,bh,bi,hp⟩:=hr;exact hQ (.panic pv) (.panic _) E' V' a ⟨s.T,H'⟩ ⟨hle.trans hE,rfl,rfl,cg,eX⟩ ⟨bi,ak.tok.mono (hle.trans hE),ak.size⟩ ⟨v,rfl,bh⟩ hp
 exact CK.mono (λnx V' hn=>Nx.mono key hn) (λv V' hr=>key _ _ hr)
def xh (P:Tg)(fn:avu)(R:SU):List Ye->Wa->Array T5->View->Prop
 |[],.returning,tmps,V=>∃v,aR P V (results fn tmps) (λx V'=>x=v/\V'=V) (λ_ _=>False)/\R (.ret v) V
 |[],.panicking ch,_,V=>R (.panic ch) V
 |d::ds,md,tmps,V=>(md matches .run)=false/\∃b,d={target:=.collected b,args:=#[]}/\V.own b=some (.deferred (some []))/\V.role.chan≠some b/\xh P fn R ds md tmps (V.upd b (.deferred none))
 |[],.run,_,_=>False
def Ik{f:UH}{fn:avu}{kd:Yi}{R:SU}(hf:P.funcs[f]?=some fn){main:Bool}{J:SM}(C:Closed lv P main J){cs:SX}(hR:∀o V' Ci,R o V'->Leaves P Ci f kd o V'->J V' (G Ci cs)):∀(ds:S4)(md:Wa)(V:View)(fr:VA),fr.fn=f->fr.kind=kd->fr.mode=md->fr.defers=ds->xh P fn R ds md fr.tmps V->J V (G fr cs)
 |[],.returning,V,fr,h1,h2,h3,h4,h=>by
  obtain⟨v,hs,hr⟩:=h;exact hR _ _ _ hr ⟨h1,h4,h2,fn,hf,h3,hs⟩
 |[],.panicking ch,V,fr,h1,h2,h3,h4,h=>hR _ _ _ h ⟨h1,h4,h2,fn,hf,h3⟩
 |[],.run,_,_,_,_,_,_,h=>h.elim
 |d::ds,md,V,fr,h1,h2,h3,h4,h=>by
  obtain⟨hm,b,rfl,ho,eW,hu⟩:=h;refine C.step _ _ rfl λw hw=> ?_;obtain⟨es,w',V',k1,k2,k3⟩:=(NX (P:=P) ho eW).runs hw;rcases k3 with⟨x,k3,rfl,rfl⟩|⟨_,_,hx⟩
  ·refine⟨G {fr with defers:=ds} cs,w',seen P fr.fn es,_,?_,k1.seen P fr.fn,?_⟩
   ·have e:∀main,stepG P main (G fr cs) w=unwind P main fr cs none w:=λmain=>by
     cases md with
     |run=>cases hm
     |returning=>simp[G,stepG,h3]
     |panicking ch=>simp[G,stepG,h3]
    rw[e];simp only[unwind,h4];simp[Uw,k3,k2,UT,G]
   ·exact Ik hf C hR ds md _ {fr with defers:=ds} h1 h2 h3 rfl hu
  ·exact hx.elim
def aeu (P:Tg)(fn:avu)(R:SU):Ex->Act->View->Prop
 |.normal,a,V|.ret,a,V=>xh P fn R a.defers .returning a.tmps V
 |.panic ch,a,V=>xh P fn R a.defers (.panicking ch) a.tmps V
 |_,_,_=>False
def agS{f:UH}{fn:avu}{c:UX}{args:SG}{kd:Yi}{V:View}{R:SU}(hk:kd≠ .early)(hf:P.funcs[f]?=some fn)(hb:fn.body=some c)
  (h:WP lv P none c (aeu P fn R) {tmps:=args++UI (fn.ntmps-args.size) undef,defers:=[]} V):Body lv P f args kd V R:=by
 intro main J C cs hR;let b:VA:={(default:VA)with fn:=f,kind:=kd,roundOf:=none};have uC:Frame.enter P f args kd=on b {tmps:=args++UI (fn.ntmps-args.size) undef,defers:=[]} [.code c]:=by
  simp[Frame.enter,on,hf,hb,b]
 rw[uC];refine h main J C b [] cs hk rfl λe a' V' q=> ?_;cases e with
 |normal=>exact C.idle rfl (λw=>D7 rfl) (Ik hf C hR _ _ _ _ rfl rfl rfl rfl q)
 |ret=>intro k;exact C.idle rfl (λw=>D8 rfl) (Ik hf C hR _ _ _ _ rfl rfl rfl rfl q)
 |panic ch=>intro todo _;exact Ik hf C hR _ _ _ _ rfl rfl rfl rfl q
 |exit id=>exact q.elim
 |goto l=>exact q.elim
def iL:SE->SA->Option (SA)
 |[],H=>some H
 |i::ms,H=>match H[i]?with
  |some (.obj (.deferred (some [])))=>iL ms (H.set i .gone)
  |_=>none
def si (P:Tg)(rs:SW)(n:Nat)(k kp:SF):an->AS->SE->Prop
 |.normal,s,ms|.ret,s,ms=>ao (iL ms s.H) λH'=>ao (gV P ⟨s.T,H'⟩ rs) λl=>bY n H' (iW l) k
 |.panic pv,s,ms=>ao (iL ms s.H) λH'=>bY n H' pv kp
 |_,_,_=>False
def Oh{fn:avu}{R:SU}{tmps:SG}{md:Wa}(hm:(md matches .run)=false):∀(ms:SE)(H H':SA)(E:Env)(V:View)(l:S4),iL ms H=some H'->Conc E V H->Marks E ms l->(∀V',V'.role=V.role->V'.deaf=V.deaf->Conc E V' H'->xh P fn R [] md tmps V')->xh P fn R l md tmps V
 |[],H,H',E,V,l,hg,hc,pj,hk=>by
  cases hg;have:l=[]:=pj.1;subst this;exact hk V rfl rfl hc
 |i::ms,H,H',E,V,l,hg,hc,pj,hk=>by
  simp only[iL]at hg;split at hg
  ·rename_i hi;obtain⟨e,hlt⟩:=pj;simp only[VI]at e;subst e;obtain⟨p1,p2,p3,p4⟩:=hc.obj i _ hi;exact⟨hm,_,rfl,p1,(hc.iV hi rfl).2,Oh hm ms _ H' E _ _ hg (hc.D_ _ hi _ rfl) ⟨rfl,λj hj=>hlt j (by simp[hj])⟩ λV' h1 h2 h3=>hk V' h1 h2 h3⟩
  ·cases hg
def Q4{f:UH}{fn:avu}{c:UX}{rs:SW}{nt:Nat}{H:SA}{args:SC}{k kp:SF}(hf:P.funcs[f]?=some fn)(hb:fn.body=some c)(hr:fn.results=rs.toArray)(hn:fn.ntmps=nt)(cM:args.length<=nt)
  (h:bO H->(∀a∈args,Lt H.length a)->mC lv P nt c ⟨bc 0 args,H⟩ [] (si P rs H.length k kp)):a_ lv P f H args k kp:=by
 intro E V vs hc hd;have hlt:∀a∈args,Lt H.length a:=λa ha=>by
  obtain⟨i,hi⟩:=pC ha;rw[<- hc.n];exact(hd.2 i a hi).lt
 have ak:=B0 (nt:=nt) hc hd cM;refine agS (by simp) hf hb ?_;rw[hn];refine h hc.au hlt E V _ _ ak ⟨rfl,by simp⟩ λae e E' V' a' s' cI hk aU fZ he hΦ=> ?_;have fin:si P rs H.length k kp .ret s' cI->xh P fn (gh E V k kp) a'.defers .returning a'.tmps V':=λhΦ=>by
  obtain⟨H',hg,hΦ⟩:=ao.out hΦ;exact Oh rfl cI _ H' E' V' _ hg aU.br fZ λaW h1 h2 h3=>acE (s':=⟨s'.T,H'⟩) (a':=a') hr ⟨h3,aU.tok,aU.size⟩ hk.le hc.n (h1.trans hk.role) (h2.trans hk.deaf) hΦ
 cases ae<;>cases e<;>first
  |exact he.elim
  |exact fin hΦ
  |exact hΦ.elim
  |skip
 rename_i pv ch;obtain⟨v,eW,bh⟩:∃v,ch=[{v,recovered:=false}]/\ap E' pv v:=he;subst eW;obtain⟨H',hg,hΦ⟩:=ao.out hΦ;refine Oh rfl cI _ H' E' V' _ hg aU.br fZ λaW h1 h2 h3=> ?_;obtain⟨b,bS,tR,r1,r2,r3,r4⟩:=xz hΦ h3 bh hk.le hc.n;exact⟨b,v,bS,tR,rfl,r1,h1.trans hk.role,h2.trans hk.deaf,r2,r3,r4⟩
end
def Env.frame (E:Env)(f:Nat->Option Obj):Env:={E with fr:=f}
def ap.frame{E:Env}{a:AV}{v:T5}(h:ap E a v)(f:Nat->Option Obj):ap (E.frame f) a v:=by
 induction h with
 |val x=>exact .val x
 |agg hs _ ih=>exact .agg hs ih
 |aF hs _ ih=>exact .aF hs ih
 |sl b o cap g hc he h1 _ ih=>exact .sl b o cap g hc (by cases j4:‹End›<;>(subst j4;exact he)) h1 ih
 |nil he=>exact .nil (by cases j4:‹End›<;>(subst j4;exact he))
 |bI hi dK=>exact .bI (E:=E.frame f) hi dK
 |rp b o g h1 _ ih=>exact .rp b o g h1 ih
 |op hi=>exact .op (E:=E.frame f) hi
 |fn dA dH _ _ mW lw=>exact .fn dA dH mW lw
 |bR _ ih=>exact .bR ih
 |mp hi=>exact .mp (E:=E.frame f) hi
def bL.frame{E:Env}{l:SC}{cs:SG}(h:bL E l cs)(f:Nat->Option Obj):bL (E.frame f) l cs:=⟨h.1,λi a e=>(h.2 i a e).frame f⟩
def jR.frame{E:Env}{l:SC}{cs:SG}(h:jR E l cs)(f:Nat->Option Obj):jR (E.frame f) l cs:=⟨h.1,λi a e=>(h.2 i a e).frame f⟩
def cm.frame{E:Env}{T:SH}{tmps:SG}(h:cm E T tmps)(f:Nat->Option Obj):cm (E.frame f) T tmps:=λt a e=>⟨(h t a e).1,(h t a e).2.frame f⟩
def vL(E:Env)(f:Nat->Option Obj)(k:Nat)(x:aa):bJ (E.frame f) k x=bJ E k x:=by cases x<;>rfl
def fQ.frame{E:Env}{V:View}{k:Nat}{x:aa}(h:fQ E V k x)(f:Nat->Option Obj):fQ (E.frame f) V k x:=by
 cases x with
 |cells l el=>obtain⟨⟨cs,h1,h2⟩,h3⟩:=h;exact⟨⟨cs,h1,h2.frame f⟩,h3⟩
 |part p l el=>obtain⟨⟨cs,h1,h2,h4⟩,h3⟩:=h;exact⟨⟨cs,h1,h2.frame f,h4⟩,h3⟩
 |own sz l el=>obtain⟨⟨cs,h1,h2,h4⟩,h3⟩:=h;exact⟨⟨cs,h1,h2.frame f,h4⟩,h3⟩
 |tail n sz el=>exact h
 |obj x=>exact h
 |iter=>exact h
 |loop=>obtain⟨⟨tmps,h1,h2,h3⟩,h4,h5⟩:=h;exact⟨⟨tmps,h1,h2,h3.frame f⟩,h4,h5⟩
 |gone=>trivial
 |main=>exact h
def Conc.yF{E:Env}{V V':View}{H:SA}(h:Conc E V H)(f:Nat->Option Obj)(hI:V'.ab=V.ab)
  (ho:∀b x k y,H[k]?=some y->bJ E k y=some b->V.own b=some x->V'.own b=some x)
  (hg:∀g,V'.role.group=some g->V'.own g≠none/\(∀o,V'.ab g o=none)/\∀(k:Nat) x,H[k]?=some x->bJ E k x≠some g)
  (hc:∀g,V'.role.chan=some g->V'.own g≠none/\(∀o,V'.ab g o=none)/\∀(k:Nat) x,H[k]?=some x->bJ E k x≠some g)
  (ht:E.main=true->V'.role=.plain/\V'.deaf=0) (hf:∀b y,f b=some y->V'.own b=some y/\(∀o,V'.ab b o=none)/\∀(k:Nat) x,H[k]?=some x->bJ E k x≠some b):Conc (E.frame f) V' H:=by
 have hlt:∀(k:Nat) y,H[k]?=some y->k<E.n:=λk y e=>by rw[h.n];exact(Tj.1 e).1
 refine⟨by rw[hI];exact h.I,h.n,λk x e=>fQ.frame ((h.obj k x e).mono (Env.Le.refl E) (hlt k x e) rfl (λb y hb hy=>ho b y k x e hb hy) (λb _ o=>by rw[hI])) f,λi j x y b h1 h2 h3 h4=> ?_,λg e=> ?_,λg e=> ?_,ht,λb y e=> ?_⟩
 ·rw[vL]at h3 h4;exact h.inj i j x y b h1 h2 h3 h4
 ·obtain⟨a,b,c⟩:=hg g e;exact⟨a,b,λk x e=>by rw[vL];exact c k x e⟩
 ·obtain⟨a,b,c⟩:=hc g e;exact⟨a,b,λk x e=>by rw[vL];exact c k x e⟩
 ·obtain⟨a,b',c⟩:=hf b y e;exact⟨a,b',λk x e=>by rw[vL];exact c k x e⟩
def Conc.DV{E:Env}{V:View}{H:SA}(h:Conc E V H){b:Nat}{x:Obj}(hb:E.fr b=some x){k:Nat}{y:aa}(hk:H[k]?=some y){b':Nat}(dj:bJ E k y=some b'):b'≠b:=λe=>by subst e;exact(h.fr _ x hb).2.2 k y hk dj
def Conc.akd{E:Env}{V:View}{H:SA}(h:Conc E V H){b:Nat}{x:Obj}(hb:E.fr b=some x)(y:Obj):Conc (E.frame λb'=>if b'=b then some y else E.fr b') (V.upd b y) H:=by
 obtain⟨p1,p2,p3⟩:=h.fr b x hb;refine h.yF _ rfl (λb' z k w hk ky hz=> ?_) (λg hg=> ?_) (λg hg=> ?_) h.top (λb' z hz=> ?_)
 ·have:b'≠b:=h.DV hb hk ky;simpa[View.upd,this]using hz
 ·obtain⟨q1,q2,q3⟩:=h.group g hg;refine⟨?_,q2,q3⟩;simp only[View.upd];split
  ·simp
  ·exact q1
 ·obtain⟨q1,q2,q3⟩:=h.chan g hg;refine⟨?_,q2,q3⟩;simp only[View.upd];split
  ·simp
  ·exact q1
 ·by_cases e:b'=b
  ·subst e;rw[if_pos rfl]at hz;cases hz;exact⟨by simp[View.upd],p2,p3⟩
  ·rw[if_neg e]at hz;obtain⟨q1,q2,q3⟩:=h.fr b' z hz;exact⟨by simpa[View.upd,e]using q1,q2,q3⟩
def Conc.akb{E:Env}{V:View}{H:SA}(h:Conc E V H){b:Nat}(hb:V.fresh b)(y:Obj):Conc (E.frame λb'=>if b'=b then some y else E.fr b') (V.upd b y) H:=by
 have aH:∀(k:Nat) x,H[k]?=some x->bJ E k x≠some b:=λk x hk e=>by
  obtain⟨z,hz⟩:=(h.obj k x hk).B4 e;rw[hb.1]at hz;cases hz
 refine h.yF _ rfl (λb' z k w hk ky hz=> ?_) (λg hg=> ?_) (λg hg=> ?_) h.top (λb' z hz=> ?_)
 ·have:b'≠b:=λe=>by subst e;exact aH k w hk ky
  simpa[View.upd,this]using hz
 ·obtain⟨q1,q2,q3⟩:=h.group g hg;refine⟨?_,q2,q3⟩;simp only[View.upd];split
  ·simp
  ·exact q1
 ·obtain⟨q1,q2,q3⟩:=h.chan g hg;refine⟨?_,q2,q3⟩;simp only[View.upd];split
  ·simp
  ·exact q1
 ·by_cases e:b'=b
  ·subst e;rw[if_pos rfl]at hz;cases hz;exact⟨by simp[View.upd],hb.2,aH⟩
  ·rw[if_neg e]at hz;obtain⟨q1,q2,q3⟩:=h.fr b' z hz;exact⟨by simpa[View.upd,e]using q1,q2,q3⟩
def Conc.akc{E:Env}{V:View}{H:SA}(h:Conc E V H){id:Nat}{l:SC}{el:TypeId}(hk:H[id]?=some (.cells l el)):∃cs,bL E l cs/\V.own (E.blk id)=some (.cells cs el (0,0))/\(∀o,V.ab (E.blk id) o=none)/\
  Conc (E.frame λb'=>if b'=E.blk id then some (.cells cs el (0,0))else E.fr b') V (H.set id .gone):=by
 obtain⟨⟨cs,h1,h2⟩,h3⟩:=h.obj id _ hk;refine⟨cs,h2,h1,h3,?_⟩;have hg:Conc E V (H.set id .gone):=by
  refine h.iY id .gone (Env.Le.refl E) h.I (by simpa using h.n) lU rfl (λ_ _ _=>rfl) (λb y _ hy=>⟨hy,λ_=>rfl⟩) trivial (λb e=>by cases e)
 have aH:∀(k:Nat) x,(H.set id .gone)[k]?=some x->bJ E k x≠some (E.blk id):=λk x hx e=>by
  rcases lU k x hx with⟨rfl,rfl⟩|⟨aH,hx⟩
  ·cases e
  ·exact aH (h.inj k id x _ _ hx hk e rfl)
 refine hg.yF _ rfl (λ_ _ _ _ _ _ hz=>hz) hg.group hg.chan h.top (λb' z hz=> ?_);by_cases e:b'=E.blk id
 ·subst e;rw[if_pos rfl]at hz;cases hz;exact⟨h1,h3,aH⟩
 ·rw[if_neg e]at hz;exact hg.fr b' z hz
def Conc.HP{E:Env}{V:View}{H:SA}(h:Conc E V H){id:Nat}{l:SC}{el:TypeId}(hk:H[id]?=some (.cells l el))(p:Nat)(hp:p<=l.length):∃V',d_ V V'/\V'.own=V.own/\V'.role=V.role/\V'.deaf=V.deaf/\E.Le {E with I:=V'.ab}/\Conc {E with I:=V'.ab} V' (H.set id (.part p l el))/\
  ap {E with I:=V'.ab} (.rp (l.take p)) (.pointer (some ⟨E.blk id,0,none⟩)):=by
 obtain⟨⟨cs,h1,h2⟩,h3⟩:=h.obj id _ hk;let V':=V.iu (E.blk id) cs λo=>decide (o<p);have nG:∀b o,b≠E.blk id->V'.ab b o=V.ab b o:=λb o hb=>by simp[V',View.iu,hb]
 have cK:∀o,o<p->V'.ab (E.blk id) o=cs[o]?:=λo ho=>by simp[V',View.iu,ho]
 have alV:∀o,p<=o->V'.ab (E.blk id) o=none:=λo ho=>by simp[V',View.iu,Nat.not_lt.2 ho,h3]
 have hle:E.Le {E with I:=V'.ab}:=⟨λb o v e=>by
  rw[h.I]at e;have hb:b≠E.blk id:=λhb=>by subst hb;rw[h3]at e;cases e
  show V'.ab b o=some v;rw[nG b o hb];exact e,Tm _,λ_ _=>rfl,λ_ _=>Tm _,λ_ _ _ _=>rfl,rfl,rfl⟩
 refine⟨V',zJ h1 (λo _=>h3 o),rfl,rfl,rfl,hle,?_,?_⟩
 ·refine h.iY (E':={E with I:=V'.ab}) id (.part p l el) hle rfl (by simpa using h.n) lU rfl (λ_ _ _=>rfl) (λb y hb hy=>⟨hy,λo=>nG b o λe=>hb _ hk (by rw[e];rfl)⟩) ⟨⟨cs,h1,(h2.mono hle).p,cK⟩,alV⟩ (λb e=> .inl ⟨_,hk,e⟩)
 ·refine .rp (E.blk id) 0 (λi=>cs.getD i undef) (λi hi=> ?_) λi x hx=> ?_
  ·have cG:i<p:=(by simp at hi;omega);rw[WN];show V'.ab (E.blk id) i=_;rw[cK i cG];have:i<cs.size:=(by have:=h2.1;omega);simp[Td,Tf this]
  ·rw[U5]at hx;split at hx
   ·exact(h2.2 i x hx).mono hle
   ·cases hx
def Conc.anD{E:Env}{V V':View}{H:SA}(h:Conc E V H)(ho:V'.own=V.own)(nG:∀b o v,V.ab b o=some v->V'.ab b o=some v)(jg:∀b o,V.own b≠none->V.ab b o=none->V'.ab b o=none)
  (hg:V'.role.group=none) (hc:V'.role.chan=none) (ht:E.main=true->V'.role=.plain/\V'.deaf=0):E.Le {E with I:=V'.ab}/\Conc {E with I:=V'.ab} V' H:=by
 have hle:E.Le {E with I:=V'.ab}:=⟨λb o v e=>by rw[h.I]at e;exact nG b o v e,Tm _,λ_ _=>rfl,λ_ _=>Tm _,λ_ _ _ _=>rfl,rfl,rfl⟩;have hlt:∀(k:Nat) y,H[k]?=some y->k<E.n:=λk y e=>by rw[h.n];exact(Tj.1 e).1
 have key:∀b o,V.own b≠none->V'.ab b o=V.ab b o:=λb o hb=>by
  cases e:V.ab b o with
  |none=>exact jg b o hb e
  |some v=>exact nG b o v e
 refine⟨hle,rfl,h.n,λk x e=>(h.obj k x e).mono hle (hlt k x e) rfl (λb y _ hy=>by rw[ho];exact hy) (λb hb o=> ?_),h.inj,λg e=>(by rw[hg]at e;cases e),λg e=>(by rw[hc]at e;cases e),ht,λb y e=> ?_⟩
 ·obtain⟨y,hy⟩:=(h.obj k x e).B4 hb;exact key b o (by rw[hy];simp)
 ·obtain⟨q1,q2,q3⟩:=h.fr b y e;exact⟨by rw[ho];exact q1,λo=>by rw[key b o (by rw[q1];simp)];exact q2 o,q3⟩
section
variable {lv:Bool}{P:Tg}{nt id:Nat}{ops:SK}{s:AS}{E:Env}{V:View}{a:Act}{Q:SJ}{K:SV}
def Iq(n m:Nat)(hn:ops.size=n+m)(dl:jL nt ops=true)(ak:At E V s a nt)(h:iy lv P ops (ops.toList.take n) s K (λ_ _=>False))
  (hk:∀E' V' a' s',Kept E E' V V' a a'->At E' V' s' a' nt->K s'->di lv P none ops Q (UZ n m) a' V'):WP lv P none (.region id ops false) Q a V:=by
 refine wp_region ?_;have hr:Tt ops.size=UZ 0 n++UZ n m:=by
  have:=Yc (s:=0) (m:=n) (n:=m);rw[VX,hn,<- this];simp
 rw[hr];refine Bm _ _ _ (HB (r:=none) (Φ:=λe s'=>match e with
  |.normal=>K s'
  |_=>False) (λo ho d e=>(jL.out dl ho).1 d e) rfl n 0 s (by omega) (by simpa using h) E V a _ ak λae e E' V' a' s' aI aU he hΦ=> ?_)
 cases ae<;>cases e<;>first
  |exact he.elim
  |exact hΦ.elim
  |exact hk E' V' a' s' aI aU hΦ
def Oz{n:Nat}{o:U8}(ho:ops[n]?=some o)(hg:o.guard=none)(h:vD lv P o a V λa' V'=>Q .normal a' V'):di lv P none ops Q (UZ n 1) a V:=by
 simp only[List.range'_one,di,ho];rw[if_pos (by unfold Ug;rw[hg])];exact .inr h
end
section
variable {lv main:Bool}{P:Tg}{J:SM}
def ad8(C:Closed lv P main J){V:View}{fr:VA}{cs:SX}{g:UH}{ca aG:SG}{ds:S4}(hd:fr.defers=⟨.fn (.func g) ca,aG⟩::ds)(hm:(fr.mode matches .run)=false)(hg:qH P g=true)
  (h:J V (G (Frame.enter P g (aG++ca) .deferred) ({fr with defers:=ds}::cs))):J V (G fr cs):=by
 refine C.step _ _ rfl λw hw=> ?_;have hs:aR P V (invoke (.fn (.func g) ca) aG) (λnx V'=>nx=.enter g (aG++ca)/\V'=V) (λ_ _=>False):=by
  unfold invoke;exact NU hg ⟨rfl,rfl⟩
 obtain⟨es,w',V',k1,k2,k3⟩:=hs.runs hw;rcases k3 with⟨nx,k3,rfl,rfl⟩|⟨_,_,h⟩
 ·refine⟨G (Frame.enter P g (aG++ca) .deferred) ({fr with defers:=ds}::cs),w',seen P fr.fn es,V',?_,k1.seen P fr.fn,h⟩;have e:stepG P main (G fr cs) w=unwind P main fr cs none w:=by
   obtain⟨fn,tmps,todo,defers,mode,kind,ro⟩:=fr;cases mode with
   |run=>cases hm
   |returning=>simp[G,stepG]
   |panicking ch=>simp[G,stepG]
  rw[e];simp only[unwind,hd];simp[callDeferred,Uw,k3,k2,UT,G]
 ·exact h.elim
def ah5(C:Closed lv P main J){f:UH}{fn:avu}{c:UX}{args:SG}{kd:Yi}{V:View}{cs:SX}{Q:S0}(hk:kd≠ .early)(hf:P.funcs[f]?=some fn)(hb:fn.body=some c)
  (h:WP lv P none c (λe a V=>(match e with|.normal|.ret=>True|_=>False)/\Q a V) {tmps:=args++UI (fn.ntmps-args.size) undef,defers:=[]} V)
  (hQ:∀a V todo,Q a V->J V (G {fn:=f,tmps:=a.tmps,todo,defers:=a.defers,mode:=.returning,kind:=kd,roundOf:=none} cs)):J V (G (Frame.enter P f args kd) cs):=by
 let b:VA:={(default:VA)with fn:=f,kind:=kd,roundOf:=none};have uC:Frame.enter P f args kd=on b {tmps:=args++UI (fn.ntmps-args.size) undef,defers:=[]} [.code c]:=by
  simp[Frame.enter,on,hf,hb,b]
 rw[uC];refine h main J C b [] cs hk rfl λe a' V' q=> ?_;cases e with
 |normal=>exact C.idle rfl (λw=>D7 rfl) (hQ a' V' [] q.2)
 |ret=>intro k;exact C.idle rfl (λw=>D8 rfl) (hQ a' V' (.code .ret::k) q.2)
 |panic ch=>exact q.1.elim
 |exit id=>exact q.1.elim
 |goto l=>exact q.1.elim
end
def Env.fq (E:Env)(m:Bool):Env:={E with main:=m}
def ap.fq{E:Env}{a:AV}{v:T5}(h:ap E a v)(m:Bool):ap (E.fq m) a v:=by
 induction h with
 |val x=>exact .val x
 |agg hs _ ih=>exact .agg hs ih
 |aF hs _ ih=>exact .aF hs ih
 |sl b o cap g hc he h1 _ ih=>exact .sl b o cap g hc (by cases j4:‹End›<;>(subst j4;exact he)) h1 ih
 |nil he=>exact .nil (by cases j4:‹End›<;>(subst j4;exact he))
 |bI hi dK=>exact .bI (E:=E.fq m) hi dK
 |rp b o g h1 _ ih=>exact .rp b o g h1 ih
 |op hi=>exact .op (E:=E.fq m) hi
 |fn dA dH _ _ mW lw=>exact .fn dA dH mW lw
 |bR _ ih=>exact .bR ih
 |mp hi=>exact .mp (E:=E.fq m) hi
def bL.fq{E:Env}{l:SC}{cs:SG}(h:bL E l cs)(m:Bool):bL (E.fq m) l cs:=⟨h.1,λi a e=>(h.2 i a e).fq m⟩
def jR.fq{E:Env}{l:SC}{cs:SG}(h:jR E l cs)(m:Bool):jR (E.fq m) l cs:=⟨h.1,λi a e=>(h.2 i a e).fq m⟩
def cm.fq{E:Env}{T:SH}{tmps:SG}(h:cm E T tmps)(m:Bool):cm (E.fq m) T tmps:=λt a e=>⟨(h t a e).1,(h t a e).2.fq m⟩
def vN(E:Env)(m:Bool)(k:Nat)(x:aa):bJ (E.fq m) k x=bJ E k x:=by cases x<;>rfl
def fQ.fq{E:Env}{V:View}{k:Nat}{x:aa}(h:fQ E V k x)(m:Bool)(hm:x=.main->m=true):fQ (E.fq m) V k x:=by
 cases x with
 |cells l el=>obtain⟨⟨cs,h1,h2⟩,h3⟩:=h;exact⟨⟨cs,h1,h2.fq m⟩,h3⟩
 |part p l el=>obtain⟨⟨cs,h1,h2,h4⟩,h3⟩:=h;exact⟨⟨cs,h1,h2.fq m,h4⟩,h3⟩
 |own sz l el=>obtain⟨⟨cs,h1,h2,h4⟩,h3⟩:=h;exact⟨⟨cs,h1,h2.fq m,h4⟩,h3⟩
 |tail n sz el=>exact h
 |obj x=>exact h
 |iter=>exact h
 |loop=>obtain⟨⟨tmps,h1,h2,h3⟩,h4,h5⟩:=h;exact⟨⟨tmps,h1,h2,h3.fq m⟩,h4,h5⟩
 |gone=>trivial
 |main=>exact⟨hm rfl,h.2⟩
def strip:aa->aa
 |.main=> .gone
 |x=>x
def ub(E:Env)(k:Nat)(x:aa):bJ E k (strip x)=bJ E k x:=by cases x<;>rfl
def Conc.ahq{E:Env}{V:View}{H:SA}(h:Conc E V H):Conc (E.fq false) V (H.map strip):=by
 have get:∀(k:Nat) y,(H.map strip)[k]?=some y->∃x,H[k]?=some x/\strip x=y:=λk y e=>by
  rw[Uo]at e;obtain⟨x,e1,e2⟩:=Uq.1 e;exact⟨x,e1,e2⟩
 refine⟨h.I,by rw[Un];exact h.n,λk y e=> ?_,λi j x y b h1 h2 h3 h4=> ?_,λg hg=> ?_,λg hg=> ?_,(λe=>by cases e),λb y e=> ?_⟩
 ·obtain⟨x,hx,rfl⟩:=get k y e;have lM:=h.obj k x hx;cases x<;>first
   |exact fQ.fq lM false (λe=>by cases e)
   |exact True.intro
 ·obtain⟨x',hx,rfl⟩:=get i x h1;obtain⟨y',hy,rfl⟩:=get j y h2;rw[vN,ub]at h3 h4;exact h.inj i j x' y' b hx hy h3 h4
 ·obtain⟨a,b,c⟩:=h.group g hg;exact⟨a,b,λk y e=>by obtain⟨x,hx,rfl⟩:=get k y e;rw[vN,ub];exact c k x hx⟩
 ·obtain⟨a,b,c⟩:=h.chan g hg;exact⟨a,b,λk y e=>by obtain⟨x,hx,rfl⟩:=get k y e;rw[vN,ub];exact c k x hx⟩
 ·obtain⟨a,b',c⟩:=h.fr b y e;exact⟨a,b',λk y e=>by obtain⟨x,hx,rfl⟩:=get k y e;rw[vN,ub];exact c k x hx⟩
def Conc.aqE{E:Env}{V:View}{H:SA}(h:Conc E V (H.map strip))(m:Bool)(f:Nat->Option Obj)(hm:∀(k:Nat),H[k]?=some aa.main->m=true/\y8 E.I)(ht:m=true->V.role=.plain/\V.deaf=0)(hf:∀b y,f b=some y->E.fr b=some y):Conc ((E.fq m).frame f) V H:=by
 have get:∀(k:Nat) x,H[k]?=some x->(H.map strip)[k]?=some (strip x):=λk x e=>by rw[Uo,e];rfl
 refine⟨h.I,h.n.trans (by rw[Un]),λk x e=>fQ.frame ?_ f,λi j x y b h1 h2 h3 h4=> ?_,λg hg=> ?_,λg hg=> ?_,ht,λb y e=> ?_⟩
 ·have lM:=h.obj k _ (get k x e);cases x<;>first
   |exact fQ.fq lM m (λe=>by cases e)
   |exact hm k e
 ·rw[vL,vN]at h3 h4;exact h.inj i j _ _ b (get i x h1) (get j y h2) (by rw[ub];exact h3) (by rw[ub];exact h4)
 ·obtain⟨a,b,c⟩:=h.group g hg;exact⟨a,b,λk x e=>by rw[vL,vN,<- ub];exact c k _ (get k x e)⟩
 ·obtain⟨a,b,c⟩:=h.chan g hg;exact⟨a,b,λk x e=>by rw[vL,vN,<- ub];exact c k _ (get k x e)⟩
 ·obtain⟨a,b',c⟩:=h.fr b y (hf b y e);exact⟨a,b',λk x e=>by rw[vL,vN,<- ub];exact c k _ (get k x e)⟩
section
variable {lv:Bool}{P:Tg}{nt id:Nat}{ops:SK}{s:AS}{E:Env}{V:View}{a:Act}{Q:SJ}{N:S0}{o:U8}
def aei(ho:ops[0]?=some o)(hg:o.guard=none)(h:BD lv P none o a V (di lv P none ops Q (UZ 1 (ops.size-1))) Q):WP lv P none (.region id ops false) Q a V:=by
 refine wp_region ?_;have aX:0<ops.size:=(Tl.1 ho).1;have LW:Tt ops.size=0::UZ 1 (ops.size-1):=by
  rw[VX];obtain⟨n,hn⟩:∃n,ops.size=n+1:=⟨ops.size-1,by omega⟩;rw[hn,WF];rfl
 rw[LW];simp only[di,ho];rw[if_pos (by unfold Ug;rw[hg])];exact h
def atF{k n:Nat}(ho:ops[k]?=some o)(hg:o.guard=none)(h:BD lv P none o a V (di lv P none ops Q (UZ (k+1) n)) Q):di lv P none ops Q (UZ k (n+1)) a V:=by
 rw[WF];simp only[di,ho];rw[if_pos (by unfold Ug;rw[hg])];exact h
def atG{k:Nat}(h:Q .normal a V):di lv P none ops Q (UZ k 0) a V:=h
def OA{k n:Nat}(s3:AS)(hk:k+n=ops.size)(dl:jL nt ops=true)(ak:At E V s a nt)(h:iy lv P ops (ops.toList.drop k) s (λs'=>s'.Sub s3) (λ_ _=>False))(hQ:∀E' V' a',Kept E E' V V' a a'->At E' V' s3 a' nt->Q .normal a' V'):di lv P none ops Q (UZ k n) a V:=by
 refine AR (r:=none) (Φ:=λe s'=>match e with
  |.normal=>s'.Sub s3
  |_=>False) (λo ho d e=>(jL.out dl ho).1 d e) (λ_ _=> .inl rfl) n k s hk h E V a Q ak λae e E' V' a' s' aI aU he hΦ=> ?_
 cases ae<;>cases e<;>first
  |exact he.elim
  |exact hΦ.elim
  |exact hQ E' V' a' aI (aU.sub hΦ)
def ao3{c:Ym}{f:UH}(az:o.op=.call c)(aV:c.callee=.value (.func f))(hf:qH P f=true)(h:Body lv P f (c.args.map a.eval) .normal V (fun
  |.ret v,V'=>N (a.put o.dst v) V'
  |.panic _,_=>False)):BD lv P none o a V N Q:=by
 refine .inl ⟨.inl rfl,?_⟩;unfold execOp;rw[az];dsimp only;unfold resolve;rw[aV];dsimp only;have e:a.eval (.func f)=.func (.func f) #[] #[]:=rfl;rw[e];unfold VM;refine ay (aq ?_);unfold invoke;dsimp only;refine NU hf ?_;have e2:#[]++c.args.map a.eval++#[]=c.args.map a.eval:=by simp
 rw[e2];exact h.mono λo V' hx=>by
  cases o with
  |ret v=>exact hx
  |panic ch=>exact hx.elim
def ao4{t el:TypeId}{d:ChanDir}{i:XV}(az:o.op=.makeChan t (.const (.int .i64 0)))(h1:P.underlying t=some (.chan d el))(h2:P.info? el=some i)(h:∀c,V.fresh c->N (a.put o.dst (.chan (some c))) (V.upd c (.chan 0 #[] false 0 0 false))):BD lv P none o a V N Q:=by
 refine .inl ⟨.inl rfl,?_⟩;unfold execOp;rw[az];dsimp only;have e:a.eval (.const (.int .i64 0))=.int .i64 0:=rfl;rw[e];unfold Instr.makeChan;refine ay (ay ?_);unfold asInt;refine aq ?_;refine ec h1 ?_;dsimp only;refine yM h2 ?_;rw[if_neg (by simp[IntKind.max,awA,awz])];refine ay ?_;unfold newObj;exact nY λc hf=>b8 (aq (aq (h c hf)))
end
def atE{lv:Bool}{P:Tg}{r:SL}{code:UX}{Q:SJ}{a:Act}{V:View}{c Wg:Nat}(sZ:lv=true)(hr:V.role=.plain)(aH:c≠Wg)(hc:V.own c=some (.chan 0 #[] false 0 0 false))(hW:V.own Wg≠none)(ox:∀o,V.ab Wg o=none)
  (h:WP lv P r code Q a {V with role:=.fork c Wg []}):WP lv P r code Q a V:=λmain J C b k cs hb cg hL=>
 (C.more sZ).start _ _ c Wg hr aH hc hW ox (h main J C b k cs hb cg hL)
structure Env.Lo (E E':Env):Prop where
 I:∀b o v,E.I b o=some v->E'.I b o=some v
 n:E.n<=E'.n
 blk:∀k,k<E.n->E'.blk k=E.blk k
 fE:∀k,k<E.n->E.fE k<=E'.fE k
 room:∀k v,k<E.n->v<=E.fE k->E'.room k v=E.room k v
def Env.Le.lo{E E':Env}(h:E.Le E'):E.Lo E':=⟨h.I,h.n,h.blk,h.fE,h.room⟩
def Env.Lo.refl(E:Env):E.Lo E:=(Env.Le.refl E).lo
def Env.Lo.trans{E E' bS:Env}(h:E.Lo E')(k:E'.Lo bS):E.Lo bS:=
 ⟨λb o v e=>k.I b o v (h.I b o v e),Vb h.n k.n,λi hi=>(k.blk i (Ub hi h.n)).trans (h.blk i hi),λi hi=>Vb (h.fE i hi) (k.fE i (Ub hi h.n)),
  λi v hi hv=>(k.room i v (Ub hi h.n) (Vb hv (h.fE i hi))).trans (h.room i v hi hv)⟩
def Env.Lo.le{E E':Env}(h:E.Lo E'):E.Le ((E'.fq E.main).frame E.fr):=⟨h.I,h.n,h.blk,h.fE,h.room,rfl,rfl⟩
def ap.lo{E E':Env}(h:E.Lo E'){a:AV}{v:T5}(d:ap E a v):ap E' a v:=by
 have:=((d.mono h.le).fq E'.main).frame E'.fr;exact this
def Env.Hg(E:Env)(f:Nat->Option Obj):E.Lo (E.frame f):=⟨λ_ _ _ h=>h,Tm _,λ_ _=>rfl,λ_ _=>Tm _,λ_ _ _ _=>rfl⟩
def Env.anX(E:Env)(m:Bool):E.Lo (E.fq m):=⟨λ_ _ _ h=>h,Tm _,λ_ _=>rfl,λ_ _=>Tm _,λ_ _ _ _=>rfl⟩
def Env.Lo.cut{E E':Env}(h:E.Lo E'){n:Nat}(hn:E.n<=n):E.Lo {E' with n:=n}:=⟨h.I,hn,h.blk,h.fE,h.room⟩
def Env.bare (E:Env):Env:=((({E with n:=0}:Env).fq false).frame λ_=>none)
def ap.bare{E:Env}{a:AV}{v:T5}(h:ap E a v)(hl:Lt 0 a):ap E.bare a v:=((h.trim hl).fq false).frame _
def ahf{E:Env}{I:cr}{ro:nd}(hI:E.I=I)(hg:ro.group=none)(hc:ro.chan=none):Conc E.bare {ab:=I,own:=λ_=>none,deaf:=0,role:=ro} []:=
 ⟨hI,rfl,λk x e=>(by cases e),λi j x y b h1=>(by cases h1),λg e=>(by rw[hg]at e;cases e),λg e=>(by rw[hc]at e;cases e),λe=>(by cases e),λb y e=>(by cases e)⟩
def At.ato{E:Env}{V:View}{s:AS}{a:Act}{nt t id off:Nat}(h:At E V s a nt)(hl:look s.T t=some (.op id off)):a.eval (.tmp t)=.pointer (some ⟨E.blk id,off,none⟩):=by
 have hd:=(h.tok t _ hl).2;show a.tmps.getD t undef=_;generalize a.tmps.getD t undef=v at hd;cases hd;rfl
section
variable {lv:Bool}{P:Tg}{s:AS}{ms:SE}{nt:Nat}
def an.pV (id:Nat)(Φ:SN):an->AS->SE->Prop
 |.exit i,s,ms=>if i=id then Φ .normal s ms else Φ (.exit i) s ms
 |e,s,ms=>Φ e s ms
def agk{id:Nat}{c:UX}{Φ:SN}(h:mC lv P nt c s ms (an.pV id Φ)):mC lv P nt (.block id c) s ms Φ:=by
 intro E V a Q ak hd hQ;refine wp_block (h E V a _ ak hd λae e E' V' a' s' cI hk aU cF he hΦ=> ?_);cases ae<;>cases e<;>first
  |exact he.elim
  |skip
 ·exact hQ .normal .normal E' V' a' s' cI hk aU cF trivial hΦ
 ·rename_i i j;have e:i=j:=he;subst e;by_cases cq:i=id
  ·simp only[Ex.inBlock,cq,if_true];simp only[an.pV,cq,if_true]at hΦ;exact hQ .normal _ E' V' a' s' cI hk aU cF trivial hΦ
  ·simp only[Ex.inBlock,cq,if_false];simp only[an.pV,cq,if_false]at hΦ;exact hQ (.exit i) _ E' V' a' s' cI hk aU cF rfl hΦ
 ·exact hQ _ _ E' V' a' s' cI hk aU cF he hΦ
 ·exact hQ _ _ E' V' a' s' cI hk aU cF he hΦ
 ·exact hQ _ _ E' V' a' s' cI hk aU cF he hΦ
def an.vo (Φ:SN):an->AS->SE->Prop
 |.goto _,_,_=>False
 |e,s,ms=>Φ e s ms
def agn{c:UX}{Φ:SN}(h:mC lv P nt c s ms (an.vo Φ)):mC lv P nt (.scope c) s ms Φ:=by
 intro E V a Q ak hd hQ;refine aej (λ_ _ _ _=>False) ⟨0,h E V a _ ak hd λae e E' V' a' s' cI hk aU cF he hΦ=> ?_⟩ λ_ _ _ _ _ _ hf=>hf.elim;cases ae<;>cases e<;>first
  |exact he.elim
  |exact hΦ.elim
  |exact hQ _ _ E' V' a' s' cI hk aU cF he hΦ
def agG(id:Nat)(Φ:SN)(s:AS)(ms:SE):an.pV id Φ .normal s ms=Φ .normal s ms:=by rw[an.pV];simp
def ar1(Φ:SN)(s:AS)(ms:SE):an.vo Φ .normal s ms=Φ .normal s ms:=by rw[an.vo];simp
def ar3(Φ:SN)(s:AS)(ms:SE):an.vo Φ .ret s ms=Φ .ret s ms:=by rw[an.vo];simp
def asK(K:AS->SE->Prop)(Φ:SN)(s:AS)(ms:SE):an.rZ K Φ .normal s ms=K s ms:=by rw[an.rZ]
def asM(K:AS->SE->Prop)(Φ:SN)(s:AS)(ms:SE):an.rZ K Φ .ret s ms=Φ .ret s ms:=by rw[an.rZ];simp
@[congr] theorem auA {c : UX} {s s' : AS} {ms cI : SE} {Φ : an -> AS -> SE -> Prop} (h : s = s') (hd : ms = cI) : mC lv P nt c s ms Φ = mC lv P nt c s' cI Φ := by rw[h, hd]
@[congr] theorem avk {K : AS -> SE -> Prop} {Φ : an -> AS -> SE -> Prop} {e e' : an} {s s' : AS} {ms cI : SE} (he : e = e') (h : s = s') (hd : ms = cI) : an.rZ K Φ e s ms = an.rZ K Φ e' s' cI := by rw[he, h, hd]
@[congr] theorem avh {Φ : an -> AS -> SE -> Prop} {e e' : an} {s s' : AS} {ms cI : SE} (he : e = e') (h : s = s') (hd : ms = cI) : an.vo Φ e s ms = an.vo Φ e' s' cI := by rw[he, h, hd]
@[congr] theorem auN {rs : List aa'} {n : Nat} {k kp : AV -> SA -> Prop} {e e' : an} {s s' : AS} {ms cI : SE} (he : e = e') (h : s = s') (hd : ms = cI) : si P rs n k kp e s ms = si P rs n k kp e' s' cI := by rw[he, h, hd]
def aj2(rs:SW)(n:Nat)(k kp:SF)(s:AS)(ms:SE):si P rs n k kp .ret s ms=ao (iL ms s.H) λH'=>ao (gV P ⟨s.T,H'⟩ rs) λl=>bY n H' (iW l) k:=by rw[si]
def zM(H:SA):iL [] H=some H:=by rw[iL]
def zL{i:Nat}{ms:SE}{H:SA}(h:H[i]?=some (.obj (.deferred (some [])))):iL (i::ms) H=iL ms (H.set i .gone):=by rw[iL];rw[h]
attribute [seval] agG ar1 ar3 asK asM aj2 zM
end
section
variable {lv:Bool}{P:Tg}{r:SL}{s:AS}
def P9{E:Env}{I:cr}(hI:∀b o v,E.I b o=some v->I b o=some v){n:Nat}{l:SC}{v:T5}(h:ap E (.sl n l .exact) v):∃a,ap (E.tok I (a,n) n) (.sl n l (.opn E.n)) v:=by
 cases h with
 |sl b o cap f dK he q1 q2=>
  have F8:cap=n:=he;subst F8;refine⟨some ⟨b,o,none⟩,?_⟩;have hle:=E.MW (I:=I) hI (some ⟨b,o,none⟩,cap) cap;exact .sl b o cap f dK ⟨by simp[Env.tok],by simp[Env.tok],by simp[Env.tok]⟩ (λi hi=>hle.I _ _ _ (q1 i hi)) (λi x hx=>(q2 i x hx).mono hle)
 |nil he=>exact⟨_,.nil ⟨by simp[Env.tok],by simp[Env.tok],by simp[Env.tok];rfl⟩⟩
def vK{nt t n sz:Nat}{c:UX}{l:SC}{el:TypeId}{Φ:SI}(ht:look s.T t=some (.sl n l .exact))(h:aZ lv P r nt c ⟨(t,.sl n l (.opn s.H.length))::s.T,s.H++[.tail n sz el]⟩ Φ):aZ lv P r nt c s Φ:=λE V a Q ak hQ=>by
 obtain⟨hlt,hd⟩:=ak.tok t _ ht;obtain⟨ad,cF⟩:=P9 (I:=V.ab) (λb o v h=>by rw[<- ak.br.I];exact h) hd;obtain⟨hc,hle⟩:=ak.br.Ob (n:=n) sz el ad;refine h _ V a Q ⟨hc,λt' x hx=> ?_,ak.size⟩ λae e E' V' a' s' hk=>hQ ae e E' V' a' s' ((⟨hle,rfl,rfl,rfl,rfl⟩:Kept E _ V V a a).trans hk);simp only[look]at hx;split at hx
 ·rename_i e;subst e;cases hx;rw[<- ak.br.n];exact⟨hlt,cF⟩
 ·exact⟨(ak.tok t' x hx).1,(ak.tok t' x hx).2.mono hle⟩
def P_{E:Env}{l:SC}{cs:SG}{j:Nat}{a b:AV}(h:bL E l cs)(hj:l[j]?=some a)(hb:∀v,ap E a v->ap E b v):bL E (l.set j b) cs:=by
 refine⟨by rw[UF];exact h.1,λi x hx=> ?_⟩;by_cases e:i=j
 ·subst e;rw[Yd (Tj.1 hj).1]at hx;cases hx;exact hb _ (h.2 i a hj)
 ·rw[U3 (Ne.symm e)]at hx;exact h.2 i x hx
def I7{nt id j n sz:Nat}{c:UX}{l l':SC}{el fF:TypeId}{Φ:SI}(cq:s.H[id]?=some (.cells l el))(hj:l[j]?=some (.sl n l' .exact))(h:aZ lv P r nt c ⟨s.T,s.H.set id (.cells (l.set j (.sl n l' (.opn s.H.length))) el)++[aa.tail n sz fF]⟩ Φ):aZ lv P r nt c s Φ:=λE V a Q ak hQ=>by
 have hc:=ak.br;obtain⟨⟨cs,jg,hd⟩,nG⟩:=hc.obj id _ cq;obtain⟨ad,cF⟩:=P9 (I:=V.ab) (λb o v h=>by rw[<- hc.I];exact h) (hd.2 j _ hj);obtain⟨bi,hle⟩:=hc.Ob (n:=n) sz fF ad;have hlt:=(Tj.1 cq).1;have hn:(E.tok V.ab (ad,n) n).n=s.H.length+1:=by simp[Env.tok,hc.n]
 have e:s.H.set id (.cells (l.set j (.sl n l' (.opn s.H.length))) el)++[aa.tail n sz fF]=(s.H++[aa.tail n sz fF]).set id (.cells (l.set j (.sl n l' (.opn s.H.length))) el):=(VW _ _ hlt).symm;rw[e]at h;have wc:bL (E.tok V.ab (ad,n) n) (l.set j (.sl n l' (.opn s.H.length))) cs:=by
  have h0:=hd.mono hle;refine⟨by rw[UF];exact h0.1,λi x hx=> ?_⟩;by_cases ei:i=j
  ·subst ei;rw[Yd (Tj.1 hj).1]at hx;cases hx;rw[<- hc.n];exact cF
  ·rw[U3 (Ne.symm ei)]at hx;exact h0.2 i x hx
 have hb:(E.tok V.ab (ad,n) n).blk id=E.blk id:=hle.blk id (by rw[hc.n];exact hlt);have cx:Conc (E.tok V.ab (ad,n) n) V ((s.H++[aa.tail n sz fF]).set id (.cells (l.set j (.sl n l' (.opn s.H.length))) el)):=by
  have cZ:(s.H++[aa.tail n sz fF])[id]?=some (.cells l el):=by rw[Tw hlt];exact cq
  refine bi.iY id _ (Env.Le.refl _) bi.I (by rw[bi.n,UF]) lU rfl (λ_ _ _=>rfl) (λb y _ hy=>⟨hy,λ_=>rfl⟩) ⟨⟨cs,by rw[hb];exact jg,wc⟩,λo=>by rw[hb];exact nG o⟩ (λb dj=> .inl ⟨_,cZ,dj⟩)
 refine h _ V a Q ⟨cx,ak.tok.mono hle,ak.size⟩ λae e E' V' a' s' hk=>hQ ae e E' V' a' s' ((⟨hle,rfl,rfl,rfl,rfl⟩:Kept E _ V V a a).trans hk)
def agi{nt id j:Nat}{c:UX}{l:SC}{x y:AV}{el:TypeId}{Φ:SI}(cq:s.H[id]?=some (.cells l el))(hj:l[j]?=some x)(hw:Wk x y)(h:aZ lv P r nt c ⟨s.T,s.H.set id (.cells (l.set j y) el)⟩ Φ):aZ lv P r nt c s Φ:=λE V a Q ak hQ=>by
 have hc:=ak.br;obtain⟨⟨cs,jg,hd⟩,nG⟩:=hc.obj id _ cq;have cx:Conc E V (s.H.set id (.cells (l.set j y) el)):=
  hc.iY id _ (Env.Le.refl _) hc.I (by rw[hc.n,UF]) lU rfl (λ_ _ _=>rfl) (λb y _ hy=>⟨hy,λ_=>rfl⟩) ⟨⟨cs,jg,P_ hd hj (hw E)⟩,nG⟩ (λb dj=> .inl ⟨_,cq,dj⟩)
 exact h E V a Q ⟨cx,ak.tok,ak.size⟩ hQ
end
structure w_ (X Y Z:Prop):Type where
 n:Nat
def UG (a:AV)(b9:Bool)(X Y Z:Prop)(_t:w_ X Y Z):Prop:=(∃b,a=.val (.bool b)/\(b=b9->X)/\(b= !b9->Y))\/(a=.val undef/\Z)
def Ij{b b9:Bool}{X Y Z:Prop}{t:w_ X Y Z}:UG (.val (.bool b)) b9 X Y Z t=((b=b9->X)/\(b= !b9->Y)):=by
 unfold UG;refine propext ⟨λh=> ?_,λh=> .inl ⟨b,rfl,h⟩⟩;rcases h with⟨b',e,h⟩|⟨e,_⟩
 ·cases e;exact h
 ·cases e
def ati(X Y Z:Prop)(t:w_ X Y Z):UG (.val (.bool true)) true X Y Z t=X:=by rw[Ij];simp
def ath(X Y Z:Prop)(t:w_ X Y Z):UG (.val (.bool true)) false X Y Z t=Y:=by rw[Ij];simp
def atg(X Y Z:Prop)(t:w_ X Y Z):UG (.val (.bool false)) true X Y Z t=Y:=by rw[Ij];simp
def atf(X Y Z:Prop)(t:w_ X Y Z):UG (.val (.bool false)) false X Y Z t=X:=by rw[Ij];simp
def atj(b9:Bool)(X Y Z:Prop)(t:w_ X Y Z):UG (.val undef) b9 X Y Z t=Z:=by
 unfold UG;refine propext ⟨λh=> ?_,λh=> .inr ⟨rfl,h⟩⟩;rcases h with⟨b',e,_⟩|⟨_,h⟩
 ·cases e
 ·exact h
section
variable (lv:Bool)(P:Tg)
def n_ (all:SK):List U8->AS->(SV)->(AV->SV)->Prop
 |[],s,next,_=>next s
 |o::rest,s,next,bad=>match o.guard with
  |none=>mB lv P s o (λs'=>n_ all rest s' next bad) bad
  |some (j,b9)=>ao ((all[j]?).bind (·.dst)) λd=>ao (look s.T d) λa=>UG a b9 (mB lv P ⟨(d,.val (.bool b9))::s.T,s.H⟩ o (λs'=>n_ all rest s' next bad) bad) (n_ all rest ((⟨(d,.val (.bool !b9))::s.T,s.H⟩:AS).put o.dst (.val undef)) next bad) (n_ all rest (s.put o.dst (.val undef)) next bad) ⟨0⟩
end
def ate:type_of% @n_.eq_1:=by intros;rw[n_.eq_1]
def atd:type_of% @n_.eq_2:=by intros;rw[n_.eq_2]
@[congr] theorem avo {lv : Bool} {P : Tg} {s s' : AS} {all : Array U8} {l : List U8} {next : AS -> Prop} {bad : AV -> AS -> Prop} (h : s = s') : n_ lv P all l s next bad = n_ lv P all l s' next bad := by rw[h]
attribute [seval] ate atd ati ath atg atf atj
section
variable {lv:Bool}{P:Tg}{r:SL}{s:AS}
def Il{nt:Nat}{all:SK}{Φ:SI}(dl:∀o∈all,∀d,o.dst=some d->d<nt)(nE:∀o∈all,r=none\/mq o.op=false):∀(n k:Nat)(s:AS),k+n=all.size->n_ lv P all (all.toList.drop k) s (Φ .normal) (λpv s=>Φ (.panic pv) s)->
  ∀(E:Env)(V:View)(a:Act)(Q:SJ),At E V s a nt->(∀ae e E' V' a' s',Kept E E' V V' a a'->At E' V' s' a' nt->pL E' ae e->Φ ae s'->Q e a' V')->di lv P r all Q (UZ k n) a V
 |0,k,s,hk,h,E,V,a,Q,ak,hQ=>by
  have:all.toList.drop k=[]:=by simp;omega
  rw[this]at h;exact hQ .normal .normal E V a s (Kept.refl E V a) ak trivial h
 |n+1,k,s,hk,h,E,V,a,Q,ak,hQ=>by
  have hlt:k<all.size:=by omega
  have hd:all.toList.drop k=all[k]::all.toList.drop (k+1):=by
   rw[UW (by simpa using hlt)];simp
  rw[hd]at h;have fJ:all[k]∈all:=XP hlt;have ho:all[k]?=some all[k]:=Tf hlt;simp only[WF,di,ho];have go:∀s:AS,At E V s a nt->mB lv P s all[k] (λs'=>n_ lv P all (all.toList.drop (k+1)) s' (Φ .normal) (λpv s=>Φ (.panic pv) s)) (λpv s=>Φ (.panic pv) s)->xa lv P r all[k] a V (di lv P r all Q (UZ (k+1) n)) Q:=λs ak h=>by
   refine h.sound (lv:=lv) (r:=r) E V a _ Q ak.br ak.tok (λd e=>by rw[ak.size];exact dl _ fJ d e) (nE _ fJ) (λE' V' a' s' aI bi mm hn=> ?_) (λE' V' s' pv v aI bi mm bh hb=> ?_)
   ·exact Il dl nE n (k+1) s' (by omega) hn E' V' a' Q ⟨bi,mm,aI.size.trans ak.size⟩ (λae e bS aW cu de fY db he hΦ=>hQ ae e bS aW cu de (aI.trans fY) db he hΦ)
   ·exact hQ (.panic pv) (.panic _) E' V' a s' aI ⟨bi,mm,ak.size⟩ ⟨v,rfl,bh⟩ hb
  simp only[n_]at h;split at h
  ·rename_i hg;have hw:Ug all[k] (yielded all a.tmps)=true:=(by unfold Ug;rw[hg]);rw[if_pos hw];exact .inl (go s ak h)
  ·rename_i j b9 hg;obtain⟨d,gr,h⟩:=h.out;obtain⟨av,h1,h⟩:=h.out;rcases h with⟨b,rfl,h2,h3⟩|⟨rfl,h3⟩
   case inr=>
    have hv:=(ak.tok d _ h1).2;have hy:yielded all a.tmps j≠some b9:=by
     obtain⟨oj,kD,jd⟩:=Uc.1 gr;generalize hx:a.tmps.getD d undef=x at hv;cases hv;have mj:d<a.tmps.size:=(ak.tok d _ h1).1;rw[Td,Tf mj]at hx;simp only[T9]at hx;simp[yielded,kD,jd,Tf mj,hx,undef]
    have hw:¬Ug all[k] (yielded all a.tmps)=true:=by
     unfold Ug;rw[hg];intro h;exact hy (by simpa using h)
    rw[if_neg hw];exact Il dl nE n (k+1) (s.put all[k].dst (.val undef)) (by omega) h3 E V (a.put all[k].dst undef) Q
     ⟨by rw[e_];exact ak.br,ak.tok.gM (λd e=>by rw[ak.size];exact dl _ fJ d e) (.val undef),by rw[dY];exact ak.size⟩
     (λae e bS aW cu de fY db he hΦ=>hQ ae e bS aW cu de ⟨fY.le,fY.size.trans (dY _ _ _),fY.defers.trans (put_defers _ _ _),fY.role,fY.deaf⟩ db he hΦ)
   have hv:=(ak.tok d _ h1).2;have hy:yielded all a.tmps j=some b:=by
    obtain⟨oj,kD,jd⟩:=Uc.1 gr;generalize hx:a.tmps.getD d undef=x at hv;cases hv;have mj:d<a.tmps.size:=(ak.tok d _ h1).1;rw[Td,Tf mj]at hx;simp only[T9]at hx;simp[yielded,kD,jd,Tf mj,hx]
   have rN:∀b',b=b'->At E V ⟨(d,.val (.bool b'))::s.T,s.H⟩ a nt:=λb' dj=>by
    subst dj;refine⟨ak.br,λt x e=> ?_,ak.size⟩;simp only[look]at e;split at e
    ·rename_i e';subst e';cases e;exact ak.tok d _ h1
    ·exact ak.tok t x e
   by_cases hb:b=b9
   ·have hw:Ug all[k] (yielded all a.tmps)=true:=(by unfold Ug;rw[hg];simp[hy,hb]);rw[if_pos hw];exact .inl (go _ (rN b9 hb) (h2 hb))
   ·have hw:¬Ug all[k] (yielded all a.tmps)=true:=(by unfold Ug;rw[hg];simp[hy,hb]);rw[if_neg hw];have dj:b= !b9:=(by cases b<;>cases b9<;>simp_all);have vZ:=h3 dj;have ak:=rN _ dj;exact Il dl nE n (k+1) ((⟨(d,.val (.bool !b9))::s.T,s.H⟩:AS).put all[k].dst (.val undef)) (by omega) vZ E V (a.put all[k].dst undef) Q
     ⟨by rw[e_];exact ak.br,ak.tok.gM (λd e=>by rw[ak.size];exact dl _ fJ d e) (.val undef),by rw[dY];exact ak.size⟩
     (λae e bS aW cu de fY db he hΦ=>hQ ae e bS aW cu de ⟨fY.le,fY.size.trans (dY _ _ _),fY.defers.trans (put_defers _ _ _),fY.role,fY.deaf⟩ db he hΦ)
def agc{nt id:Nat}{ops:SK}{Φ:SI}(hd:jL nt ops=true)(h:n_ lv P ops ops.toList s (Φ .normal) (λpv s=>Φ (.panic pv) s)):aZ lv P r nt (.region id ops false) s Φ:=by
 intro E V a Q ak hQ;refine wp_region ?_;rw[VX];exact Il (Φ:=Φ) (λo ho d e=>(jL.out hd ho).1 d e) (λo ho=> .inr (jL.out hd ho).2) ops.size 0 s (by omega) (by simpa using h) E V a Q ak hQ
end
section
variable (lv:Bool)(P:Tg)
def sv (all:SK):List U8->AS->(SV)->Prop
 |[],s,K=>K s
 |o::rest,s,K=>match o.guard with
  |none=>AQ lv P s o λav=>sv all rest (s.put o.dst av) K
  |some (j,b9)=>ao ((all[j]?).bind (·.dst)) λd=>ao (look s.T d) λa=>UG a b9 (AQ lv P ⟨(d,.val (.bool b9))::s.T,s.H⟩ o λav=>sv all rest ((⟨(d,.val (.bool b9))::s.T,s.H⟩:AS).put o.dst av) K) (sv all rest ((⟨(d,.val (.bool !b9))::s.T,s.H⟩:AS).put o.dst (.val undef)) K) (sv all rest (s.put o.dst (.val undef)) K) ⟨0⟩
end
def aqu:type_of% @sv.eq_1:=by intros;rw[sv.eq_1]
def aqt:type_of% @sv.eq_2:=by intros;rw[sv.eq_2]
@[congr] theorem avf {lv : Bool} {P : Tg} {s s' : AS} {all : Array U8} {l l' : List U8} {K : AS -> Prop} (hl : l = l') (h : s = s') : sv lv P all l s K = sv lv P all l' s' K := by rw[hl, h]
attribute [seval] aqu aqt
section
variable {lv:Bool}{P:Tg}{r:SL}{s:AS}{ops:SK}{nt p:Nat}
end
section
variable {P:Tg}
def EI (P:Tg)(d:Nat)(t:TypeId):Prop:=(∃u,P.underlying t=some u/\zg u=false)/\∀x y:Int,bm P (WC d t (.int .i64 x) (.int .i64 y)) (x==y)
def EJ (P:Tg)(d:Nat)(t:TypeId)(n:Nat):Prop:=(∃u,P.underlying t=some u/\zg u=true)/\(∃i,P.info? t=some i/\i.size=n)/\∀xs ys:SD,xs.length=n->ys.length=n->bm P (WC d t (.agg (xs.map (S_ .i64)).toArray) (.agg (ys.map (S_ .i64)).toArray)) (xs==ys)
inductive sh (P:Tg)(d:Nat):Nat->List ZW->Nat->Prop
 |nil (o:Nat):sh P d o [] o
 | one {o n : Nat} {f : ZW} {fs : List ZW} (hn : f.name ≠ "_") (ho : f.offset = o) (h : EI P d f.type) (t : sh P d (o + 1) fs n) : sh P d o (f :: fs) n
 | sub {o m n : Nat} {f : ZW} {fs : List ZW} (hn : f.name ≠ "_") (ho : f.offset = o) (h : EJ P d f.type m) (t : sh P d (o + m) fs n) : sh P d o (f :: fs) n
def sh.le{d o n:Nat}{fs:List ZW}(h:sh P d o fs n):o<=n:=by
 induction h with
 |nil=>exact Tm _
 |one _ _ _ _ ih=>omega
 |sub _ _ _ _ ih=>omega
def Qz(xs:SD)(o m:Nat):(xs.map (S_ .i64)).toArray.extract o (o+m)=(((xs.drop o).take m).map (S_ .i64)).toArray:=by
 simp[Zs,W7,Zy]
def asn {d n N : Nat} {xs ys : SD} {body : ZW -> Option Bool × Unit -> Sem (ForInStep (Option Bool × Unit))} (hx : xs.length = N) (hy : ys.length = N) (hb : ∀ f s, body f s = (if f.name ≠ "_" then (do
   let a<- part f.type (xs.map (S_ .i64)).toArray f.offset;let b<- part f.type (ys.map (S_ .i64)).toArray f.offset;let r<- WC d f.type a b
   if(!r)=true then pure (.done (some false,()))else pure (.yield (none,())))else pure (.yield (none,())))):
  ∀{o:Nat}{fs:List ZW},sh P d o fs n->n<=N->bm P (forIn fs (none,()) body) (if(xs.drop o).take (n-o)==(ys.drop o).take (n-o)then(none,())else(some false,())):=by
 intro o fs h hn;induction h with
 |nil o=>simpa using iH (none,())
 |@one o n f fs LC ho h t ih=>
  have hle:=t.le;have hox:o<xs.length:=by omega
  have hoy:o<ys.length:=by omega
  obtain⟨⟨u,hu,Dl⟩,he⟩:=h;rw[X0,hb,if_pos LC,ho];refine lB (a:=if xs[o]==ys[o]then .yield (none,())else .done (some false,())) ?_ ?_
  ·refine Ef hu Dl (v:=.int .i64 xs[o]) (by simp[hox]) ?_;refine Ef hu Dl (v:=.int .i64 ys[o]) (by simp[hoy]) ?_;refine lB (he _ _) ?_;cases hq:xs[o]==ys[o]<;>exact iH _
  ·have e:((xs.drop o).take (n-o)==(ys.drop o).take (n-o))=((xs[o]==ys[o])&&((xs.drop (o+1)).take (n-(o+1))==(ys.drop (o+1)).take (n-(o+1)))):=by
    rw[UW hox,UW hoy,show n-o=(n-(o+1))+1 by omega,W4,W4];rfl
   rw[e];cases hq:xs[o]==ys[o]with
   |true=>simp only[if_true,VO];exact ih hn
   |false=>simp only[UB,if_false,Yy];exact iH _
 |@sub o m n f fs LC ho h t ih=>
  have hle:=t.le;obtain⟨⟨u,hu,Dl⟩,⟨i,hi,dc⟩,he⟩:=h;rw[X0,hb,if_pos LC,ho];refine lB (a:=if(xs.drop o).take m==(ys.drop o).take m then .yield (none,())else .done (some false,())) ?_ ?_
  ·refine adI hu Dl hi ?_;refine adI hu Dl hi ?_;rw[dc,Qz,Qz];refine lB (he _ _ (by rw[U_,Va];omega) (by rw[U_,Va];omega)) ?_;cases hq:(xs.drop o).take m==(ys.drop o).take m<;>exact iH _
  ·have e:((xs.drop o).take (n-o)==(ys.drop o).take (n-o))=(((xs.drop o).take m==(ys.drop o).take m)&&((xs.drop (o+m)).take (n-(o+m))==(ys.drop (o+m)).take (n-(o+m)))):=by
    have hs:∀zs:SD,(zs.drop o).take (n-o)=(zs.drop o).take m++(zs.drop (o+m)).take (n-(o+m)):=λzs=>by
     rw[show n-o=m+(n-(o+m)) by omega,List.take_add,avT]
    rw[hs,hs,U9,Uk,beq_iff_eq,beq_iff_eq,beq_iff_eq];exact⟨λh=>List.append_inj h (by simp[U_,Va];omega),λh=>by rw[h.1,h.2]⟩
   rw[e];cases hq:(xs.drop o).take m==(ys.drop o).take m with
   |true=>simp only[if_true,VO];exact ih hn
   |false=>simp only[UB,if_false,Yy];exact iH _
def ah7{t:TypeId}{fs:Array ZW}{d n:Nat}{i:XV}(ht:P.underlying t=some (.struct fs))(hs:P.stoodInHeld t=false)(hi:P.info? t=some i)(dc:i.size=n)(hf:sh P d 0 fs.toList n):EJ P (d+1) t n:=by
 refine ⟨⟨_, ht, rfl⟩, ⟨i, hi, dc⟩, λxs ys hx hy => ?_⟩;rw[WC];refine yP ht ?_;dsimp only;refine N7 ?_;rw[hs];simp only [UB, if_false];rw[<- Array.forIn_toList];refine lB (a := if (xs == ys) then (none, ()) else (some false, ())) ?_ (by cases xs == ys <;> exact iH _);have := asn (body := λf (_ : Option Bool × Unit) => if f.name ≠ "_" then (do
   let a<- part f.type (xs.map (S_ .i64)).toArray f.offset;let b<- part f.type (ys.map (S_ .i64)).toArray f.offset;let r<- WC d f.type a b
   if(!r)=true then pure (ForInStep.done (some false,()))else pure (ZY (none,())))else pure (ZY (none,()))) hx hy (λf s=>rfl) hf (Tm _)
 simp only[WY,avz]at this;rw[Tn (by omega),Tn (by omega)]at this;exact this
def ah6{t:TypeId}{k0:UN}{d:Nat}(ht:P.underlying t=some (.int k0)):EI P (d+1) t:=⟨⟨_,ht,rfl⟩,λ_ _=>adG ht⟩
def Cg (g:TypeId->Option (SL)):List ZW->Nat->Option Nat
 |[],o=>some o
 | f :: fs, o => if f.name ≠ "_" /\ f.offset = o then (match g f.type with
  |some none=>Cg g fs (o+1)
  |some (some m)=>Cg g fs (o+m)
  |none=>none)else none
def vX (P:Tg):Nat->TypeId->Option (SL)
 |0,_=>none
 |d+1,t=>match P.underlying t with
  |some (.int _)=>some none
  |some (.struct fs)=>if P.stoodInHeld t then none else(match Cg (vX P d) fs.toList 0,P.info? t with
   |some n,some i=>if i.size=n then some (some n)else none
   |_,_=>none)
  |_=>none
def Kc{d n:Nat}{g:TypeId->Option (SL)}(h1:∀t,g t=some none->EI P d t)(h2:∀t m,g t=some (some m)->EJ P d t m):∀(fs:List ZW)(o:Nat),Cg g fs o=some n->sh P d o fs n
 |[],o,h=>by cases h;exact .nil _
 |f::fs,o,h=>by
  rw[Cg]at h;split at h
  ·rename_i hc;split at h
   ·rename_i hg;exact .one hc.1 hc.2 (h1 _ hg) (Kc h1 h2 fs _ h)
   ·rename_i m hg;exact .sub hc.1 hc.2 (h2 _ _ hg) (Kc h1 h2 fs _ h)
   ·cases h
  ·cases h
def J':∀(d:Nat)(t:TypeId),(vX P d t=some none->EI P d t)/\∀n,vX P d t=some (some n)->EJ P d t n
 |0,t=>⟨λh=>by simp[vX]at h,λn h=>by simp[vX]at h⟩
 |d+1,t=>by
  have ih:=λt=>J' d t;rw[vX];split
  ·rename_i k0 hu;exact⟨λ_=>ah6 hu,λn h=>by cases h⟩
  ·rename_i fs hu;split
   ·exact⟨λh=>(by cases h),λn h=>by cases h⟩
   ·rename_i hs;split
    ·rename_i n i hf hi;split
     ·rename_i dc;refine⟨λh=>(by cases h),λm h=> ?_⟩;cases h;exact ah7 hu (by simpa using hs) hi dc (Kc (λt=>(ih t).1) (λt=>(ih t).2) _ _ hf)
     ·exact⟨λh=>(by cases h),λn h=>by cases h⟩
    ·exact⟨λh=>(by cases h),λn h=>by cases h⟩
  ·exact⟨λh=>(by cases h),λn h=>by cases h⟩
def afg{t:TypeId}{n:Nat}{xs ys:SD}(h:vX P 10000 t=some (some n))(hg:P.eqGuardType P.depth t=false)(hx:xs.length=n)(hy:ys.length=n)(k:SQ):dh P .eql t (.agg (xs.map iv)) (.agg (ys.map iv)) k=k (bv (xs==ys)):=by
 have tp:bm P (XM t (.agg (xs.map (S_ .i64)).toArray) (.agg (ys.map (S_ .i64)).toArray)) (xs==ys):=((J' 10000 t).2 n h).2.2 xs ys hx hy;have e:dh P .eql t (.agg (xs.map iv)) (.agg (ys.map iv)) k=((Zu=.eql\/Zu=.neq)/\ao (AV.raw (.agg (xs.map iv))) λX=>ao (AV.raw (.agg (ys.map iv))) λY=>xA X Y=true/\P.eqGuardType P.depth t=false/\∃e,bm P (XM t X Y) e/\k (.val (.bool (if Zu== .neq then !e else e)))):=rfl;rw[e,va,va,wL,wL];apply propext;constructor
 ·rintro⟨_,_,_,b,h1,h2⟩
  rw[tp.uniq h1];exact h2
 ·intro h;exact⟨.inl rfl,rfl,hg,_,tp,h⟩
def OZ{t:TypeId}{n:Nat}{xs ys:SD}(h:vX P 10000 t=some (some n))(hg:P.eqGuardType P.depth t=false)(hx:xs.length=n)(hy:ys.length=n)(k:SQ):dh P .neq t (.agg (xs.map iv)) (.agg (ys.map iv)) k=k (bv (!(xs==ys))):=by
 have tp:bm P (XM t (.agg (xs.map (S_ .i64)).toArray) (.agg (ys.map (S_ .i64)).toArray)) (xs==ys):=((J' 10000 t).2 n h).2.2 xs ys hx hy;have e:dh P .neq t (.agg (xs.map iv)) (.agg (ys.map iv)) k=((W8=.eql\/W8=.neq)/\ao (AV.raw (.agg (xs.map iv))) λX=>ao (AV.raw (.agg (ys.map iv))) λY=>xA X Y=true/\P.eqGuardType P.depth t=false/\∃e,bm P (XM t X Y) e/\k (.val (.bool (if W8== .neq then !e else e)))):=rfl;rw[e,va,va,wL,wL];apply propext;constructor
 ·rintro⟨_,_,_,b,h1,h2⟩
  rw[tp.uniq h1];exact h2
 ·intro h;exact⟨.inr rfl,rfl,hg,_,tp,h⟩
end
section
variable {lv:Bool}{P:Tg}{s:AS}{ms:SE}{bs:S4}{nt:Nat}
def tT (E:Env)(ms:SE)(bs l:S4):Prop:=l=ms.map (λi=>({target:=.collected (E.blk i),args:=#[]}:Ye))++bs/\∀i∈ms,i<E.n
def tT.mono{E E':Env}(h:E.Le E'){ms:SE}{bs l:S4}(k:tT E ms bs l):tT E' ms bs l:=
 ⟨by rw[k.1];congr 1;exact WI λi hi=>by rw[h.blk i (k.2 i hi)],λi hi=>Ub (k.2 i hi) h.n⟩
def ki (lv:Bool)(P:Tg)(nt:Nat)(bs:S4)(c:UX)(s:AS)(ms:SE)(Φ:SN):Prop:=
 ∀(E:Env)(V:View)(a:Act)(Q:SJ),At E V s a nt->tT E ms bs a.defers->(∀ae e E' V' a' s' cI,qL E E' V V' a a'->At E' V' s' a' nt->tT E' cI bs a'.defers->pL E' ae e->Φ ae s' cI->Q e a' V')->WP lv P none c Q a V
def Fb{c:UX}{Φ:SN}(h:aZ lv P none nt c s λe s'=>Φ e s' ms):ki lv P nt bs c s ms Φ:=λE V a Q ak hd hQ=>
 h E V a Q ak λae e E' V' a' s' hk aU he hΦ=>hQ ae e E' V' a' s' ms hk.d aU (by rw[hk.defers];exact hd.mono hk.le) he hΦ
def ki.mono{c:UX}{Φ Φ':SN}(h:ki lv P nt bs c s ms Φ)(hq:∀e s ms,Φ e s ms->Φ' e s ms):ki lv P nt bs c s ms Φ':=λE V a Q ak hd hQ=>
 h E V a Q ak hd λae e E' V' a' s' cI hk aU cF he hΦ=>hQ ae e E' V' a' s' cI hk aU cF he (hq _ _ _ hΦ)
def Fc{x y:UX}{Φ:SN}(h:ki lv P nt bs x s ms (an.rZ (λs' cI=>ki lv P nt bs y s' cI Φ) Φ)):ki lv P nt bs (.seq x y) s ms Φ:=by
 intro E V a Q ak hd hQ;refine wp_seq (h E V a _ ak hd λae e E' V' a' s' cI hk aU cF he hΦ=> ?_);cases ae<;>cases e<;>first
  |exact he.elim
  |exact hΦ E' V' a' Q aU cF λae e bS aW cu de DO aI db Aa j4 tu=>hQ ae e bS aW cu de DO (hk.trans aI) db Aa j4 tu
  |exact hQ _ _ E' V' a' s' cI hk aU cF he hΦ
def sC{x y:UX}{Φ:SN}(h:aZ lv P none nt x s (an.then (λs'=>ki lv P nt bs y s' ms Φ) λe s'=>Φ e s' ms)):ki lv P nt bs (.seq x y) s ms Φ:=by
 refine Fc (Fb (h.mono λe s' hs=> ?_));cases e<;>exact hs
def xo{id:Nat}{c:UX}{Φ:SN}(h:ki lv P nt bs c s ms (an.pV id Φ)):ki lv P nt bs (.block id c) s ms Φ:=by
 intro E V a Q ak hd hQ;refine wp_block (h E V a _ ak hd λae e E' V' a' s' cI hk aU cF he hΦ=> ?_);cases ae<;>cases e<;>first
  |exact he.elim
  |skip
 ·exact hQ .normal .normal E' V' a' s' cI hk aU cF trivial hΦ
 ·rename_i i j;have e:i=j:=he;subst e;by_cases cq:i=id
  ·simp only[Ex.inBlock,cq,if_true];simp only[an.pV,cq,if_true]at hΦ;exact hQ .normal _ E' V' a' s' cI hk aU cF trivial hΦ
  ·simp only[Ex.inBlock,cq,if_false];simp only[an.pV,cq,if_false]at hΦ;exact hQ (.exit i) _ E' V' a' s' cI hk aU cF rfl hΦ
 ·exact hQ _ _ E' V' a' s' cI hk aU cF he hΦ
 ·exact hQ _ _ E' V' a' s' cI hk aU cF he hΦ
 ·exact hQ _ _ E' V' a' s' cI hk aU cF he hΦ
def Pw{α:Type}{lt:α->α->Prop}(wf:WellFounded lt){c:UX}{Φ:SN}(inv:α->AS)(mk:α->SE)(ok:α->Prop)(m:α)(h0:s.Sub (inv m))(uI:ms=mk m)(hm:ok m)
  (h:∀m,ok m->ki lv P nt bs c (inv m) (mk m) (an.rZ (λs' cI=>∃m',lt m' m/\ok m'/\s'.Sub (inv m')/\cI=mk m') Φ)):ki lv P nt bs (.loop c) s ms Φ:=by
 subst uI;intro E V a Q ak hd hQ;refine Oy wf (I:=λm a' V'=>ok m/\∃E',qL E E' V V' a a'/\At E' V' (inv m) a' nt/\tT E' (mk m) bs a'.defers) m ⟨hm,E,(Kept.refl E V a).d,ak.sub h0,hd⟩ λm a' V' hI=> ?_;obtain⟨au,E',hk,aU,cF⟩:=hI;refine h m au E' V' a' _ aU cF λae e bS aW cu de DO aI db Aa he hΦ=> ?_;cases ae<;>cases e<;>first
  |exact he.elim
  |(obtain⟨m',h1,h2,h3,rfl⟩:=hΦ
    exact⟨m',h1,h2,bS,hk.trans aI,db.sub h3,Aa⟩)
  |exact hQ _ _ bS aW cu de DO (hk.trans aI) db Aa he hΦ
def agp{f:Ui}{ps:TE}{bN body:UX}{fv:AV}{Φ:SN}(hf:s.ev f=some fv)
  (h:∀l fn:Nat,eM lv P fv (s.H++[.obj (.deferred (some [])),.loop l .ready none fn s.T nt ps bN body s.H.length]) [.fn (.yield l) [] []]
   (λ_ H'=>∃st pe fG T' jl gD gk fu gn,H'[s.H.length+1]?=some (.loop l st pe fG T' jl gD gk fu gn)/\st≠ .busy/\su Φ ⟨s.T,H'.set (s.H.length+1) .gone⟩ (s.H.length::ms) pe)
   (λpv H'=>Φ (.panic pv) ⟨s.T,H'⟩ (s.H.length::ms))):ki lv P nt bs (.rangeFunc f ps bN body) s ms Φ:=by
 intro E V a Q ak hm hQ;refine aeh λfn d l hd hl=> ?_;have hc:=ak.br;have cN:Conc (E.add d V.ab) (V.upd d (.deferred (some []))) (s.H++[.obj (.deferred (some []))]):=by
  refine hc.add hd _ ⟨?_,rfl,rfl,λo=> ?_⟩ (λb e=> ?_)
  ·rw[Env.dE];simp[View.upd]
  ·rw[Env.dE];exact hd.2 o
  ·simp only[bJ,Env.dE,Uh]at e;exact e.symm
 have C2:E.Le (E.add d V.ab):=E.pz d (λb o v h=>by rw[<- hc.I];exact h);have CH:(E.add d V.ab).blk s.H.length=d:=by rw[<- hc.n];exact E.dE d _
 let E1:=E.add d V.ab;let V1:=V.upd d (.deferred (some []));have pk:E1.n=s.H.length+1:=by rw[cN.n];simp
 have qi:E1.Le (E1.add l V1.ab):=E1.pz l (λb o v h=>by rw[<- cN.I];exact h);have cx:Conc (E1.add l V1.ab) (V1.upd l (.loop {state:=.ready,pending:=none,fn,tmps:=a.tmps,params:=ps,assign:=bN,body,defers:=d})) ((s.H++[.obj (.deferred (some []))])++[.loop l .ready none fn s.T nt ps bN body s.H.length]):=by
  refine cN.add hl _ ⟨⟨a.tmps,?_,ak.size,(ak.tok.mono C2).mono qi⟩,?_,λo=> ?_,?_⟩ (λb e=> ?_)
  ·have e:(E1.add l V1.ab).blk s.H.length=d:=(by rw[qi.blk s.H.length (by rw[pk];omega)];exact CH);rw[e,Env.dE];simp[View.upd]
  ·show s.H.length<E1.n+1;omega
  ·rw[Env.dE];exact hl.2 o
  ·exact Env.dE _ _ _
  ·simp only[bJ,Env.dE,Uh]at e;exact e.symm
 have hle:E.Le (E1.add l V1.ab):=C2.trans qi;have KR:(E1.add l V1.ab).blk s.H.length=d:=by rw[qi.blk s.H.length (by rw[pk];omega)];exact CH
 rw[Ax]at cx;have ru:∀E',(E1.add l V1.ab).Le E'->tT E' (s.H.length::ms) bs (mark a d).defers:=λE' hE=>by
  refine tT.mono hE ⟨?_,λi hi=> ?_⟩
  ·have:=(hm.mono hle).1;simp only[mark,VI,KR,WK];rw[<- this]
  ·rcases Th.1 hi with rfl|hi
   ·show _<E1.n+1;omega
   ·exact Ub (hm.2 i hi) hle.n
 have bt:=ap.ev ak.tok hf;have CK:=h l fn (E1.add l V1.ab) (V1.upd l (.loop {state:=.ready,pending:=none,fn,tmps:=a.tmps,params:=ps,assign:=bN,body,defers:=d})) (a.eval f) #[.func (.yield l) #[] #[]] cx (bt.mono hle) ⟨rfl,λi x hx=>by
  match i,hx with
  |0,hx=>cases hx;exact .fn rfl rfl (by simp) (by simp)⟩
 have key:∀o V',gh (E1.add l V1.ab) (V1.upd l (.loop {state:=.ready,pending:=none,fn,tmps:=a.tmps,params:=ps,assign:=bN,body,defers:=d}))
   (λ_ H'=>∃st pe fG T' jl gD gk fu gn,H'[s.H.length+1]?=some (.loop l st pe fG T' jl gD gk fu gn)/\st≠ .busy/\su Φ ⟨s.T,H'.set (s.H.length+1) .gone⟩ (s.H.length::ms) pe)
   (λpv H'=>Φ (.panic pv) ⟨s.T,H'⟩ (s.H.length::ms)) o V'->EO l d Q a o V':=by
  intro o V' hr;cases o with
  |ret v=>
   obtain⟨av,E',H',hE,cg,eX,_,bi,st,pe,fG,T',jl,gD,gk,fu,gn,cq,aT,hp⟩:=hr;obtain⟨dj,nD,qG,bf,L8,sN,Av⟩:=bi.yN cq;refine⟨_,bf,nD,aT,?_⟩;have hg:Conc E' (V'.upd l (.loop {state:=.exhausted,pending:=pe,fn:=fG,tmps:=qG,params:=gD,assign:=gk,body:=fu,defers:=E'.blk gn})) (H'.set (s.H.length+1) .gone):=bi.D_ _ cq _ (by simp only[bJ,dj]);have aU:At E' (V'.upd l (.loop {state:=.exhausted,pending:=pe,fn:=fG,tmps:=qG,params:=gD,assign:=gk,body:=fu,defers:=E'.blk gn})) ⟨s.T,H'.set (s.H.length+1) .gone⟩ (mark a d) nt:=⟨hg,ak.tok.mono (hle.trans hE),ak.size⟩;have dP:qL E E' V (V'.upd l (.loop {state:=.exhausted,pending:=pe,fn:=fG,tmps:=qG,params:=gD,assign:=gk,body:=fu,defers:=E'.blk gn})) a (mark a d):=⟨hle.trans hE,rfl,cg,eX⟩;dsimp only
   match pe,hp,aU,dP with
   |none,hp,aU,dP=>exact hQ .normal .normal E' _ _ _ _ dP aU (ru E' hE) trivial hp
   |some .ret,hp,aU,dP=>exact hQ .ret .ret E' _ _ _ _ dP aU (ru E' hE) trivial hp
   |some (.exit i),hp,aU,dP=>exact hQ (.exit i) (.exit i) E' _ _ _ _ dP aU (ru E' hE) rfl hp
   |some (.goto i),hp,aU,dP=>exact hQ (.goto i) (.goto i) E' _ _ _ _ dP aU (ru E' hE) rfl hp
  |panic ch=>
   obtain⟨pv,v,E',H',rfl,hE,cg,eX,bh,bi,hp⟩:=hr;exact hQ (.panic pv) (.panic _) E' V' (mark a d) ⟨s.T,H'⟩ _ ⟨hle.trans hE,rfl,cg,eX⟩ ⟨bi,ak.tok.mono (hle.trans hE),ak.size⟩ (ru E' hE) ⟨v,rfl,bh⟩ hp
 exact CK.mono (λnx V' hn=>Nx.mono key hn) (λv V' hr=>key _ _ hr)
@[congr] theorem auB {c : UX} {s s' : AS} {ms cI : SE} {Φ : an -> AS -> SE -> Prop} (h : s = s') (hd : ms = cI) : ki lv P nt bs c s ms Φ = ki lv P nt bs c s' cI Φ := by rw[h, hd]
def tY (lv:Bool)(P:Tg)(fn:avu)(R:SU):List Ye->Wa->Array T5->View->Prop
 |[],.returning,tmps,V=>∃v,aR P V (results fn tmps) (λx V'=>x=v/\V'=V) (λ_ _=>False)/\R (.ret v) V
 |[],.panicking ch,_,V=>R (.panic ch) V
 |d::ds,md,tmps,V=>(md matches .run)=false/\((∃b,d={target:=.collected b,args:=#[]}/\V.own b=some (.deferred (some []))/\V.role.chan≠some b/\tY lv P fn R ds md tmps (V.upd b (.deferred none)))\/
   ((∃f cT,d.target=.fn f cT)/\aR P V (invoke d.target d.args) (λnx V'=>∃g args,nx=.enter g args/\yU lv P g args md V' λnT aW=>tY lv P fn R ds nT tmps aW) (λ_ _=>False)))
 |[],.run,_,_=>False
def En{f:UH}{fn:avu}{kd:Yi}{R:SU}(hf:P.funcs[f]?=some fn){main:Bool}{J:SM}(C:Closed lv P main J){cs:SX}(hR:∀o V' Ci,R o V'->Leaves P Ci f kd o V'->J V' (G Ci cs)):∀(ds:S4)(md:Wa)(V:View)(fr:VA),fr.fn=f->fr.kind=kd->fr.mode=md->fr.defers=ds->tY lv P fn R ds md fr.tmps V->J V (G fr cs)
 |[],.returning,V,fr,h1,h2,h3,h4,h=>by
  obtain⟨v,hs,hr⟩:=h;exact hR _ _ _ hr ⟨h1,h4,h2,fn,hf,h3,hs⟩
 |[],.panicking ch,V,fr,h1,h2,h3,h4,h=>hR _ _ _ h ⟨h1,h4,h2,fn,hf,h3⟩
 |[],.run,_,_,_,_,_,_,h=>h.elim
 |d::ds,md,V,fr,h1,h2,h3,h4,h=>by
  obtain⟨hm,⟨b,rfl,ho,eW,hu⟩|⟨⟨tf,cT,ht⟩,hs⟩⟩:=h
  ·refine C.step _ _ rfl λw hw=> ?_;obtain⟨es,w',V',k1,k2,k3⟩:=(NX (P:=P) ho eW).runs hw;rcases k3 with⟨x,k3,rfl,rfl⟩|⟨_,_,hx⟩
   ·refine⟨G {fr with defers:=ds} cs,w',seen P fr.fn es,_,?_,k1.seen P fr.fn,?_⟩
    ·have e:∀main,stepG P main (G fr cs) w=unwind P main fr cs none w:=λmain=>by
      cases md with
      |run=>cases hm
      |returning=>simp[G,stepG,h3]
      |panicking ch=>simp[G,stepG,h3]
     rw[e];simp only[unwind,h4];simp[Uw,k3,k2,UT,G]
    ·exact En hf C hR ds md _ {fr with defers:=ds} h1 h2 h3 rfl hu
   ·exact hx.elim
  ·refine C.step _ _ rfl λw hw=> ?_;obtain⟨es,w',V',k1,k2,k3⟩:=hs.runs hw;rcases k3 with⟨nx,k3,g,args,rfl,hd⟩|⟨_,_,h⟩
   ·refine⟨G (Frame.enter P g args .deferred) ({fr with defers:=ds}::cs),w',seen P fr.fn es,V',?_,k1.seen P fr.fn,?_⟩
    ·have e:∀main,stepG P main (G fr cs) w=unwind P main fr cs none w:=λmain=>by
      cases md with
      |run=>cases hm
      |returning=>simp[G,stepG,h3]
      |panicking ch=>simp[G,stepG,h3]
     rw[e];obtain⟨tgt,ar⟩:=d;simp only at ht k3 k2;subst ht;simp only[unwind,h4];simp[callDeferred,Uw,k3,k2,UT,G]
    ·refine hd main J C {fr with defers:=ds} cs h3 λnT aW hU=> ?_;exact En hf C hR ds nT aW {fr with defers:=ds,mode:=nT} h1 h2 rfl rfl hU
   ·exact h.elim
def aev (lv:Bool)(P:Tg)(fn:avu)(R:SU):Ex->Act->View->Prop
 |.normal,a,V|.ret,a,V=>tY lv P fn R a.defers .returning a.tmps V
 |.panic ch,a,V=>tY lv P fn R a.defers (.panicking ch) a.tmps V
 |_,_,_=>False
def agT{f:UH}{fn:avu}{c:UX}{args:SG}{kd:Yi}{V:View}{R:SU}(hk:kd≠ .early)(hf:P.funcs[f]?=some fn)(hb:fn.body=some c)
  (h:WP lv P none c (aev lv P fn R) {tmps:=args++UI (fn.ntmps-args.size) undef,defers:=[]} V):Body lv P f args kd V R:=by
 intro main J C cs hR;let b:VA:={(default:VA)with fn:=f,kind:=kd,roundOf:=none};have uC:Frame.enter P f args kd=on b {tmps:=args++UI (fn.ntmps-args.size) undef,defers:=[]} [.code c]:=by
  simp[Frame.enter,on,hf,hb,b]
 rw[uC];refine h main J C b [] cs hk rfl λe a' V' q=> ?_;cases e with
 |normal=>exact C.idle rfl (λw=>D7 rfl) (En hf C hR _ _ _ _ rfl rfl rfl rfl q)
 |ret=>intro k;exact C.idle rfl (λw=>D8 rfl) (En hf C hR _ _ _ _ rfl rfl rfl rfl q)
 |panic ch=>intro todo _;exact En hf C hR _ _ _ _ rfl rfl rfl rfl q
 |exit id=>exact q.elim
 |goto l=>exact q.elim
def ad7{fn:avu}{R:SU}{tmps:SG}{md:Wa}(hm:(md matches .run)=false):∀(ms:SE)(H H':SA)(E:Env)(V:View)(l:S4),iL ms H=some H'->Conc E V H->tT E ms bs l->(∀V',V'.role=V.role->V'.deaf=V.deaf->Conc E V' H'->tY lv P fn R bs md tmps V')->tY lv P fn R l md tmps V
 |[],H,H',E,V,l,hg,hc,pj,hk=>by
  rw[iL]at hg;cases hg;have:l=bs:=pj.1;subst this;exact hk V rfl rfl hc
 |i::ms,H,H',E,V,l,hg,hc,pj,hk=>by
  simp only[iL]at hg;split at hg
  ·rename_i hi;obtain⟨e,hlt⟩:=pj;simp only[VI,WK]at e;subst e;obtain⟨p1,p2,p3,p4⟩:=hc.obj i _ hi;exact⟨hm,.inl ⟨_,rfl,p1,(hc.iV hi rfl).2,ad7 hm ms _ H' E _ _ hg (hc.D_ _ hi _ rfl) ⟨rfl,λj hj=>hlt j (by simp[hj])⟩ λV' h1 h2 h3=>hk V' h1 h2 h3⟩⟩
  ·cases hg
def yZ (lv:Bool)(P:Tg)(rs:SW)(n:Nat)(c:AV×SC)(k kp:SF):an->AS->SE->Prop
 |.normal,s,ms|.ret,s,ms=>ao (iL ms s.H) λH'=>qI lv P c H' none (λH'=>ao (gV P ⟨s.T,H'⟩ rs) λl=>bY n H' (iW l) k) (λ_=>False)
 |.panic pv,s,ms=>ao (iL ms s.H) λH'=>qI lv P c H' (some pv) (λH'=>ao (gV P ⟨s.T,H'⟩ rs) λl=>bY n H' (iW l) k) (λH'=>bY n H' pv kp)
 |_,_,_=>False
end
end Go.Gg
namespace Go.Gg.Tk
structure iz where
 min:Int
 max:Int
 deriving DecidableEq
structure aD where
 number:iz
 hour:iz
 deriving DecidableEq
structure Seen where
 hour:Int
 next:iz
 deriving DecidableEq
structure aj where
 first:Int
 hours:Int
 am:Int
 seen:List Seen
 pieces:List aD
 aC:List aD
 deriving DecidableEq
def kI (b:iz)(n:Int):Bool:=decide (b.min<=n)&&decide (n<=b.max)
def fD:Nat->SD->Int->Int
 |i,a::b::l,n=>if a<=n/\n<b then i else fD (i+1) (b::l) n
 |_,_,_=> -1
def jp (h:SD)(n:Int):Int:=fD 0 h n
def fits (h:SD)(y:aD)(n:Int):Bool:=decide (0<=jp h n)&&kI y.number n&&kI y.hour (jp h n)
def rU (x:aj)(hour:Nat)(n:Int):Bool:=x.seen.all λs=> !decide (s.hour=hour)||kI s.next n
def kB (x:aj):Nat->SD->List (SD)
 |0,pre=>if rU x (pre.length-1) (pre.getLastD 0)then[pre]else[]
 |d+1,pre=>if rU x (pre.length-1) (pre.getLastD 0)then(Tt (x.am.toNat+1)).flatMap λn:Nat=>kB x d (pre++[pre.getLastD 0+(n:Int)])else[]
def aM (x:aj):List (SD):=kB x x.hours.toNat [x.first]
def wm (x:aj)(t:Nat):List (SD):=if rU x 0 x.first then kB x (x.hours.toNat-1) [x.first,x.first+t]else[]
def Hv (h:SD):SD:=(Tt (h.getLastD 0-h.headD 0).toNat).map λi:Nat=>h.headD 0+i
def mY (h:SD):List aD->SD->List (SD)
 |[],t=>[t]
 |y::ys,t=>((Hv h).filter λn=>fits h y n&& !t.contains n).flatMap λn=>mY h ys (t++[n])
def pG (h:SD)(ns:SD):List aD->SE->List (SE)
 |[],t=>[t]
 |s::ss,t=>((Tt ns.length).filter λp=>fits h s (ns.getD p 0)&& !t.contains p).flatMap λp=>pG h ns ss (t++[p])
structure Tr where
 bE:SD
 aB:SD
 cj:SE
 deriving DecidableEq
def El (x:aj)(h ns:SD):List Tr:=(pG h ns x.aC []).map λos=>⟨h,ns,os⟩
def oR (x:aj)(h:SD):List Tr:=(mY h x.pieces []).flatMap (El x h)
def bx (x:aj):List Tr:=(aM x).flatMap (oR x)
def vq (x:aj)(h:SD):List Tr:=(mY h x.pieces []).flatMap λns=>(El x h ns).take 1
def r6 (x:aj)(deep:Int)(h:SD):List Tr:=if deep=0 then(vq x h).take 1 else if deep=1 then vq x h else oR x h
def Ip (x:aj)(deep:Int)(t:Nat):List Tr:=(wm x t).flatMap (r6 x deep)
def adW{i:Nat}:∀{h:SD}{n:Int},fD i h n<i+h.length:=by
 intro h;induction h generalizing i with
 |nil=>intro n;simp[fD];omega
 |cons a h ih=>
  intro n;cases h with
  |nil=>simp[fD];omega
  |cons b l=>
   simp only[fD];split
   ·simp;omega
   ·have:=ih (i:=i+1) (n:=n);simp at this⊢;omega
def Od{i k:Nat}{z:Int}:∀{h:SD}{n:Int},h.getLastD z=z->h≠[]->fD i (h++UE k z) n=fD i h n:=by
 intro h;induction h generalizing i with
 |nil=>intro n _ h;exact absurd rfl h
 |cons a h ih=>
  intro n hz _;cases h with
  |nil=>
   simp only[ak',List.getLastD_nil]at hz;subst hz;have:∀(k i:Nat),fD i ([a]++UE k a) n= -1:=by
    intro k;induction k with
    |zero=>intro i;simp[fD]
    |succ k ihk=>
     intro i;rw[Xu,Z3];simp only[fD];rw[if_neg (by omega)];exact ihk (i+1)
   rw[this];simp[fD]
  |cons b l=>
   have:=ih (i:=i+1) (n:=n) (by simpa using hz) (by simp);simp only[WK,fD]at this⊢;rw[this]
end Go.Gg.Tk
namespace Go.Gg.Tk
inductive dD (S:Type)where
 |go (s:S)
 |stop (s:S)
 |bad (s:S)
def bC {S α:Type}(f:S->α->dD S):List α->S->dD S
 |[],s=> .go s
 |a::l,s=>match f s a with
  |.go s'=>bC f l s'
  |r=>r
def qD{S α:Type}(f:S->α->dD S):∀(l m:List α)(s:S),bC f (l++m) s=match bC f l s with
  |.go s'=>bC f m s'
  |r=>r
 |[],m,s=>rfl
 |a::l,m,s=>by
  simp only[WK,bC];cases f s a with
  |go s'=>exact qD f l m s'
  |stop s'=>rfl
  |bad s'=>rfl
def NS{S α:Type}(f:S->α->dD S)(a:α)(s:S):bC f [a] s=f s a:=by
 simp only[bC];cases f s a<;>rfl
def D6{S α:Type}{f:S->α->dD S}{g:S->α->S}(h:∀s a,f s a=.go (g s a)):∀(l:List α)(s:S),bC f l s=.go (l.foldl g s)
 |[],s=>rfl
 |a::l,s=>by simp only[bC,h,VS];exact D6 h l _
def A4{S α:Type}{f:S->α->dD S}{I:S->Prop}{A:α->Prop}(h:∀s a s',I s->A a->f s a=.go s'->I s'):∀(l:List α)(s s':S),(∀a∈l,A a)->I s->bC f l s=.go s'->I s'
 |[],s,s',_,hs,e=>by cases e;exact hs
 |a::l,s,s',ha,hs,e=>by
  simp only[bC]at e;cases hf:f s a with
  |go s1=>rw[hf]at e;exact A4 h l s1 s' (λb hb=>ha b (by simp[hb])) (h s a s1 hs (ha a (by simp)) hf) e
  |stop s1=>rw[hf]at e;cases e
  |bad s1=>rw[hf]at e;cases e
def cL (h:SD):SD:=h++UE (4-h.length) (h.getLastD 0)
def mS (x:aj)(bk:Nat):Nat->SD->List (SD)
 |0,pre=>if rU x (pre.length-1) (pre.getLastD 0)then[cL pre]else[]
 |d+1,pre=>if rU x (pre.length-1) (pre.getLastD 0)then(Tt (x.am.toNat+1)).flatMap λn:Nat=>if pre.length=1/\n≠bk then[]else mS x bk d (pre++[pre.getLastD 0+(n:Int)])else[]
def j6 (x:aj)(bk:Nat):List (SD):=mS x bk x.hours.toNat [x.first]
def lF (h:SD)(y:aD)(n:Nat):Bool:=decide (h.getD 0 0+n<h.getD 3 0)&&kI y.number (h.getD 0 0+n)&&kI y.hour (jp h (h.getD 0 0+n))
def jv (p:Nat->Bool):Nat->Nat
 |0=>0
 |n+1=>if p n then jv p n|||2^n else jv p n
def B3{p:Nat->Bool}:∀{n i:Nat},(jv p n).testBit i=(decide (i<n)&&p i)
 |0,i=>by simp[jv]
 |n+1,i=>by
  have ih:=B3 (p:=p) (n:=n) (i:=i);simp only[jv];by_cases hp:p n=true
  ·rw[if_pos hp,Yt,ih,W3];by_cases hi:n=i
   ·subst hi;simp[hp]
   ·have:(i<n+1)<->i<n:=(by omega);simp[hi,this]
  ·rw[if_neg hp,ih];by_cases hi:i=n
   ·subst hi;simp at hp;simp[hp]
   ·have:(i<n+1)<->i<n:=(by omega);simp[this]
def Ff{p:Nat->Bool}:∀{n:Nat},jv p n<2^n
 |0=>by simp[jv]
 |n+1=>by
  have ih:=Ff (p:=p) (n:=n);have h1:2^n<2^(n+1):=Yf (by omega) (by omega);simp only[jv];split
  ·exact XK (Xn ih h1) h1
  ·exact Xn ih h1
def ce (h:SD)(y:aD):Nat:=jv (lF h y) 9
def kK:SE->Nat->SE->List (SE)
 |[],_,t=>[t]
 |q::qs,used,t=>(Tt 9).flatMap λn=>if used.testBit n|| !q.testBit n then[]else kK qs (used|||2^n) (t++[n])
def mw (k:Nat)(ns:SE):SE->Nat->SE->List (SE)
 |[],_,o=>[o]
 |q::qs,given,o=>(Tt k).flatMap λp=>if given.testBit p|| !q.testBit (ns.getD p 0)then[]else mw k ns qs (given|||2^p) (o++[p])
def lz (k:Nat)(l:SE):SD:=l.map (λn:Nat=>(n:Int))++UE (k-l.length) (-1)
def dV (h:SD)(ns:SE):SD:=h++lz 4 ns++[-1, -1, -1]
def dC (h:SD)(ns os:SE):SD:=h++lz 4 ns++lz 3 os
def f_ (x:aj)(h:SD):List (SE):=kK (x.pieces.map (ce h)) 0 []
def iq (x:aj)(h:SD)(ns:SE):List (SE):=mw x.pieces.length ns (x.aC.map (ce h)) 0 []
def iI (x:aj)(deep:Int)(h:SD):List (SD):=
 let all:=(f_ x h).map λns=>(iq x h ns).map λos=>dC h ns os
 if deep=0 then all.flatten.take 1 else if deep=1 then(all.map (·.take 1)).flatten else all.flatten
end Go.Gg.Tk
namespace Go.Gg.Tk
structure Kn where
 has:Bool
 aM:List (SD)
 aB:SE
 hours:SE
 less:SE
 aY:SE
 first:SD
def Kn.zero:Kn:=⟨false,[],[0,0,0,0],[0,0,0,0],[0,0,0,0],[0,0,0],UE 11 0⟩
def oW (l:SE)(p n:Nat):SE:=l.set p (l.getD p 0|||2^n)
abbrev SS:=List (SD)
def jD (hs:SS)(h:SD):List (SD):=if h∈hs then hs else hs++[h]
def mz (t:SD)(p:Nat):Nat:=(t.getD (4+p) 0).toNat
def Eg (t:SD)(p:Nat):Nat:=(jp (t.take 4) (t.getD (4+p) 0+t.getD 0 0)).toNat
def rX (t:SD)(s:Nat):Nat:=(t.getD (8+s) 0).toNat
def jJ (F:Kn)(t:SD):Kn:=if F.has then F else{F with has:=true,first:=t}
def mZ (t:SD):Nat->SE->SE
 |0,l=>l
 |s+1,l=>oW (mZ t s l) s (rX t s)
def rQ (t:SD):Nat->SE->SE
 |0,l=>l
 |p+1,l=>oW (rQ t p l) p (mz t p)
def wy (t:SD):Nat->SE->SE
 |0,l=>l
 |p+1,l=>oW (wy t p l) p (Eg t p)
def pB (t:SD)(p:Nat):Nat->SE->SE
 |0,l=>l
 |q+1,l=>if t.getD (4+p) 0<t.getD (4+q) 0 then oW (pB t p q l) p q else pB t p q l
def pA (t:SD)(k:Nat):Nat->SE->SE
 |0,l=>l
 |p+1,l=>pB t p k (pA t k p l)
def ew (x:aj)(deep:Int)(F:Kn)(t:SD):Kn:=
 let F:=jJ F t
 if deep=2 then{F with aY:=mZ t x.aC.length F.aY}
 else if deep=0 then{F with aM:=jD F.aM (t.take 4)}
 else{F with aB:=rQ t x.pieces.length F.aB,hours:=wy t x.pieces.length F.hours,less:=pA t x.pieces.length x.pieces.length F.less}
def gN (x:aj)(deep:Int)(bk:Nat):Kn:=((j6 x bk).flatMap (iI x deep)).foldl (ew x deep) Kn.zero
def ly (l m:SE):SE:=(List.zipWith (·|||·) l m)
end Go.Gg.Tk
namespace Go.Gg
open Go.Conc Go.Gg.Tk
def Ir{n:Nat}(h:n<65536):T6.wrap (n:Int)=n:=by
 have h1:T6.bits=16:=rfl;have h2:T6.signed=false:=rfl;unfold Y4;rw[h1,h2];simp;omega
def B7{n:Nat}(h:n<65536):(U2 T6.bits (n:Int)).toNat=n:=by
 have h1:T6.bits=16:=rfl;rw[h1,BitVec.ofInt_natCast,BitVec.toNat_ofNat];omega
def akI{m n:Nat}(hm:m<65536):(T6.wrap (U2 T6.bits ((m:Int).fdiv (2^(min n T6.bits)))&&&U2 T6.bits 1).toNat==1)=m.testBit n:=by
 have h1:T6.bits=16:=rfl;have e:(m:Int).fdiv (2^(min n T6.bits))=((m/2^(min n 16):Nat):Int):=by
  rw[h1,Int.fdiv_eq_ediv_of_nonneg _ (by exact_mod_cast Z1 _)];norm_cast
 have hlt:m/2^(min n 16)<65536:=af_ (Nat.div_le_self _ _) hm;rw[e,BitVec.toNat_and,B7 hlt,show (U2 T6.bits 1).toNat=1 from rfl,Ir (af_ Nat.and_le_left hlt)];have hb:m/2^(min n 16)&&&1=(m/2^(min n 16)) % 2:=Nat.and_one_is_mod _;rw[hb];have ht:m.testBit n=decide (m/2^n % 2=1):=Nat.testBit_eq_decide_div_mod_eq;by_cases hn:n<=16
 ·rw[Xx hn,ht];by_cases h:m/2^n % 2=1
  ·simp[h]
  ·have:m/2^n % 2=0:=(by omega);simp[this]
 ·rw[Nat.min_eq_right (by omega)];have h0:m/2^16=0:=Nat.div_eq_of_lt (by omega);have h2:m.testBit n=false:=Nat.testBit_lt_two_pow (Ub hm (by calc 65536=2^16:=rfl
   _<=2^n:=Yu (by omega) (by omega)))
  rw[h0,h2];rfl
def att{m n:Nat}(hm:m<65536)(hn:n<16):T6.wrap (U2 T6.bits (m:Int)|||U2 T6.bits (T6.wrap (1* 2^(min n T6.bits)))).toNat=((m|||2^n:Nat):Int):=by
 have h1:T6.bits=16:=rfl;have hp:2^n<65536:=by calc 2^n<2^16:=Yf (by omega) hn
  _=65536:=rfl
 have e:T6.wrap (1* 2^(min n T6.bits))=((2^n:Nat):Int):=by
  rw[h1,Xx (by omega),Int.one_mul,<- Ir hp];norm_cast
 rw[e,aj_,B7 hm,B7 hp];exact Ir (XK (n:=16) hm hp)
def HG{m n:Nat}(hm:m<65536)(hn:n<65536):T6.wrap (U2 T6.bits (m:Int)|||U2 T6.bits (n:Int)).toNat=((m|||n:Nat):Int):=by
 rw[aj_,B7 hm,B7 hn];exact Ir (XK (n:=16) hm hn)
def pF{m n:Nat}(hm:m<65536)(hn:n<65536):m|||n<65536:=XK (n:=16) hm hn
def wW{n:Nat}(hn:n<16):2^n<65536:=by calc 2^n<2^16:=Yf (by omega) hn
  _=65536:=rfl
abbrev wv (m:Nat):AV:=.val (.int .u16 m)
def cX {S:Type}(Gf:S->SA)(pv:AV)(k kp:SF)(M:SA):dD S->Prop
 |.go s=>k (.val (.bool true)) (Gf s++M)
 |.stop s=>k (.val (.bool false)) (Gf s++M)
 |.bad s=>kp pv (Gf s++M)
def gg {S:Type}(Gf:S->SA)(pv:AV)(k kp:SF)(M:SA):dD S->Prop
 |.go s=>k (.aF []) (Gf s++M)
 |.stop s=>k (.aF []) (Gf s++M)
 |.bad s=>kp pv (Gf s++M)
structure jH (lv:Bool)(P:Tg)(yv:AV){S:Type}(f:S->SD->dD S)(Gf:S->SA)(N:Nat)(I:S->Prop)(A:SD->Prop)(pv:AV):Prop where
 call:∀(σ:S)(a:SD)(M:SA)(k kp:SF),I σ->A a->cX Gf pv k kp M (f σ a)->eM lv P yv (Gf σ++M) [.agg (a.map λn=> .val (.int .i64 n))] k kp
 inv:∀σ a σ',I σ->A a->f σ a=.go σ'->I σ'
 len:∀σ,(Gf σ).length=N
 ok:∀m σ σ',(∀z∈Gf σ,eU m z)->∀z∈Gf σ',eU m z
 sure:yv.sure=true
 parts:yv.parts=some [yv]
 leaf:yv.leaf=true
def jH.get{lv:Bool}{P:Tg}{yv:AV}{S:Type}{f:S->SD->dD S}{Gf:S->SA}{N:Nat}{I:S->Prop}{A:SD->Prop}{pv:AV}(h:jH lv P yv f Gf N I A pv)(σ:S)(L:SA)(i:Nat):(Gf σ++L)[N+i]?=L[i]?:=by
 rw[<- h.len σ,Ud (by omega)];congr 1;omega
def jH.set{lv:Bool}{P:Tg}{yv:AV}{S:Type}{f:S->SD->dD S}{Gf:S->SA}{N:Nat}{I:S->Prop}{A:SD->Prop}{pv:AV}(h:jH lv P yv f Gf N I A pv)(σ:S)(L:SA)(i:Nat)(x:aa):(Gf σ++L).set (N+i) x=Gf σ++L.set i x:=by
 rw[<- h.len σ,VE _ _ (by omega)];congr 2;omega
def jH.au{lv:Bool}{P:Tg}{yv:AV}{S:Type}{f:S->SD->dD S}{Gf:S->SA}{N:Nat}{I:S->Prop}{A:SD->Prop}{pv:AV}(h:jH lv P yv f Gf N I A pv){σ:S}{M:SA}(hH:bO (Gf σ++M))(σ':S):bO (Gf σ'++M):=λz hz=>by
 have hl:(Gf σ'++M).length=(Gf σ++M).length:=by simp[h.len]
 rw[hl];rcases Tp.1 hz with h'|h'
 ·exact h.ok _ σ σ' (λw hw=>hH w (Ue _ hw)) z h'
 ·exact hH z (T1 _ h')
def so (l:Nat)(S:Nat->AS)(ok:S7)(m:Nat)(Φ:SI):an->AS->Prop
 |.goto l',s=>l'=l/\∃m',m'<m/\ok m'/\s.Sub (S m')
 |e,s=>Φ e s
section
variable {lv:Bool}{P:Tg}{r:SL}{s:AS}
end
def anT(l:Nat)(S:Nat->AS)(ok:S7)(m:Nat)(Φ:SI)(s:AS):so l S ok m Φ .normal s=Φ .normal s:=by rw[so];simp
def anV(l:Nat)(S:Nat->AS)(ok:S7)(m:Nat)(Φ:SI)(s:AS):so l S ok m Φ .ret s=Φ .ret s:=by rw[so];simp
def anS(l:Nat)(S:Nat->AS)(ok:S7)(m:Nat)(Φ:SI)(i:Nat)(s:AS):so l S ok m Φ (.exit i) s=Φ (.exit i) s:=by rw[so];simp
def anU(l:Nat)(S:Nat->AS)(ok:S7)(m:Nat)(Φ:SI)(a:AV)(s:AS):so l S ok m Φ (.panic a) s=Φ (.panic a) s:=by rw[so];simp
@[congr] theorem avb {l m : Nat} {S : Nat -> AS} {ok : Nat -> Prop} {s s' : AS} {Φ : an -> AS -> Prop} {e e' : an} (he : e = e') (h : s = s') : so l S ok m Φ e s = so l S ok m Φ e' s' := by rw[he, h]
attribute [seval] anT anV anS anU
open Go.Proofs
namespace Tk
def iz.l (b:iz):SC:=[iv b.min,iv b.max]
def iz.av (b:iz):AV:=.agg b.l
def aD.l (y:aD):SC:=[iv y.number.min,iv y.number.max,iv y.hour.min,iv y.hour.max]
def aD.av (y:aD):AV:=.agg y.l
def Seen.l (s:Seen):SC:=[iv s.hour,iv s.next.min,iv s.next.max]
def Seen.av (s:Seen):AV:=.agg s.l
def bp (xs:SD):AV:=.sl xs.length (xs.map iv) .shut
def ze (ls:SS):AV:=.sl ls.length (ls.map bp) .shut
abbrev S9:=List aD
def aQ (xs:S9):AV:=.sl xs.length (xs.flatMap aD.l) .shut
def cz (xs:List Seen):AV:=.sl xs.length (xs.flatMap Seen.l) .shut
def aj.l (x:aj):SC:=[iv x.first,iv x.hours,iv x.am,cz x.seen,aQ x.pieces,aQ x.aC]
def aj.av (x:aj):AV:=.agg x.l
def aD.len(b:aD):b.l.length=4:=rfl
def Seen.len(b:Seen):b.l.length=3:=rfl
end Tk
section
variable {i:Nat}
def gW{xs:SD}{x:Int}(h:xs[i]?=some x):AV.shift i (.rp (xs.map iv))=some (.rp (iv x::(xs.drop (i+1)).map iv)):=by have:=adc (f:=iv) h;rwa[Zc]at this
def ada{xs:SS}{x:SD}(h:xs[i]?=some x):AV.shift i (.rp (xs.map bp))=some (.rp (bp x::(xs.drop (i+1)).map bp)):=by have:=adc (f:=bp) h;rwa[Zc]at this
def Ba{xs:S9}{x:aD}(h:xs[i]?=some x):AV.shift (i* 4) (.rp (xs.flatMap aD.l))=some (.rp (iv x.number.min::iv x.number.max::iv x.hour.min::iv x.hour.max::(xs.drop (i+1)).flatMap aD.l)):=adb aD.len h
def H5{xs:List Seen}{x:Seen}(h:xs[i]?=some x):AV.shift (i* 3) (.rp (xs.flatMap Seen.l))=some (.rp (iv x.hour::iv x.next.min::iv x.next.max::(xs.drop (i+1)).flatMap Seen.l)):=adb Seen.len h
end
def AI(n:Nat)(xs:SD):Lt n (bp xs)=True:=by simp[bp,u6,dN]
def abA(n:Nat)(xs:SS):Lt n (ze xs)=True:=by
 simp only[ze,u6,Um,eq_iff_iff,iff_true]
 rintro a ⟨b,_,rfl⟩
 rw[AI];trivial
def DM(n:Nat)(xs:S9):Lt n (aQ xs)=True:=by
 simp only[aQ,u6,T4,eq_iff_iff,iff_true]
 rintro a ⟨b,_,h⟩
 simp only[aD.l,Th,Tv,or_false]at h;rcases h with rfl|rfl|rfl|rfl<;>exact .val _
def abB(n:Nat)(xs:List Seen):Lt n (cz xs)=True:=by
 simp only[cz,u6,T4,eq_iff_iff,iff_true]
 rintro a ⟨b,_,h⟩
 simp only[Seen.l,Th,Tv,or_false]at h;rcases h with rfl|rfl|rfl<;>exact .val _
def abz(n:Nat)(x:aj):∀a∈x.l,Lt n a:=by
 intro a ha;simp only[aj.l,Th,Tv,or_false]at ha;rcases ha with rfl|rfl|rfl|rfl|rfl|rfl
 ·exact .val _
 ·exact .val _
 ·exact .val _
 ·rw[abB];trivial
 ·rw[DM];trivial
 ·rw[DM];trivial
def AJ(n:Nat)(x:aj):Lt n x.av=True:=by simp only[aj.av,lV,eq_iff_iff,iff_true];exact abz n x
open Go.Conc Go.Proofs Go.Gg.Tk
namespace Tk
structure mD (h:SD):Prop where
 len:h.length=4
 lo:∀a∈h,0<=a
 hi:∀a∈h,a<=1000
 span:h.getD 3 0<=h.getD 0 0+9
def mD.out{h:SD}(k:mD h):∃a b c d,h=[a,b,c,d]/\(0<=a/\a<=1000)/\(0<=b/\b<=1000)/\(0<=c/\c<=1000)/\(0<=d/\d<=1000)/\d<=a+9:=by
 match h,k with
 |[a,b,c,d],k=>exact⟨a,b,c,d,rfl,⟨k.lo a (by simp),k.hi a (by simp)⟩,⟨k.lo b (by simp),k.hi b (by simp)⟩,⟨k.lo c (by simp),k.hi c (by simp)⟩,⟨k.lo d (by simp),k.hi d (by simp)⟩,by simpa using k.span⟩
def ajS{h:SD}{y:aD}{n:Nat}(hn:(h.getD 3 0-h.getD 0 0).toNat<=n):lF h y n=false:=by
 unfold lF;rw[show decide (h.getD 0 0+(n:Int)<h.getD 3 0)=false from decide_eq_false (by omega)];rfl
def ajT{h:SD}{y:aD}(hs:h.getD 3 0<=h.getD 0 0+9):ce h y=jv (lF h y) (h.getD 3 0-h.getD 0 0).toNat:=by
 apply Nat.eq_of_testBit_eq;intro i;unfold ce;rw[B3,B3];by_cases hi:i<(h.getD 3 0-h.getD 0 0).toNat
 ·have h9:i<9:=by omega
  rw[decide_eq_true hi,decide_eq_true h9]
 ·rw[ajS (by omega)];simp
def QV(h:SD)(y:aD):ce h y<512:=Ff (n:=9)
end Tk
def vU{α:Type}{xs:List α}{i:Nat}{x:α}(h:xs[i]?=some x):xs.drop i=x::xs.drop (i+1):=by
 obtain⟨h1,h2⟩:=Tj.1 h;rw[UW h1,h2]
section
variable {lv:Bool}{H:SA}{k kp:SF}
def JS{b:iz}{n:Int}(hk:k (bv (kI b n)) H):a_ lv ij 107 H [b.av,iv n] k kp:=by
 refine bw (rs:=[.tmp 4]) (nt:=15) Tryz.f107 λhH hA=> ?_;simp only[bc,To,iz.av,iz.l];refine ai ?_;refine ai ?_;refine xH (λh=> ?_) (λh=> ?_)
 ·(try simp only[seval]);refine aP ?_;exact gQ hH (by simpa[kI,h]using hk)
 ·(try simp only[seval]);refine aP ?_;exact gQ hH (by simpa[kI,h]using hk)
def QB{h:SD}{n:Int}(h4:h.length=4)(hk:k (iv (jp h n)) H):a_ lv ij 109 H [.agg (h.map iv),iv n] k kp:=by
 refine bw (rs:=[.tmp 4]) (nt:=24) Tryz.f109 λhH hA=> ?_;simp only[bc,To];have qh:(h.map iv).length=4:=by simp[h4]
 refine ai ?_;refine ai ?_;refine b_ ?_;refine t_ 3 (λi:Nat=>[(6,iv i)]) (λ_=>_) (λi=>jp h n=fD i (h.drop i) n) rfl (λbX cU i cK hi R hR=> ?_);refine ai ?_;refine aA ?_;refine⟨λhc=> ?_,λhc=> ?_⟩
 ·
  have qf:i<3:=by omega
  obtain⟨a,ha⟩:=bU (xs:=h) (i:=i) (by omega);obtain⟨b,hb⟩:=bU (xs:=h) (i:=i+1) (by omega);have e4:(0<=(i:Int)/\(i:Int)<4)=True:=by simp;omega
  have Qp:(0<=(i:Int)+1/\(i:Int)+1<4)=True:=by simp;omega
  have hw:Tc.wrap ((i:Int)+1)=(i:Int)+1:=bF _ (by omega);have pk:((i:Int)+1).toNat=i+1:=by omega
  have ln:fD i (h.drop i) n=if a<=n/\n<b then(i:Int)else fD (i+1) (h.drop (i+1)) n:=by
   rw[vU ha,vU hb];simp only[fD]
  refine aL ?_;refine ai ?_;refine ah ?_;simp only[seval,e4,Qp,hw,pk,kS ha,kS hb];refine xH (λh2=> ?_) (λh2=> ?_)
  ·(try simp only[seval,e4,Qp,hw,pk,kS ha,kS hb]);refine aA ?_;refine⟨λh3=> ?_,λh3=> ?_⟩
   ·refine ai ?_;refine aP ?_;rw[hi,ln,if_pos ⟨of_decide_eq_true h2,h3⟩]at hk;exact gQ hH hk
   ·refine aL ?_;refine ah ?_;simp only[seval,hw];refine hR _ ⟨by omega,?_,dp⟩;rw[hi,ln,if_neg (λq=>h3 q.2)]
  ·(try simp only[seval]);refine aA ?_;refine aL ?_;refine ah ?_;simp only[seval,hw];refine hR _ ⟨by omega,?_,dp⟩;rw[hi,ln,if_neg (λq=>by simp at h2;omega)]
 ·
  have:i=3:=by omega
  subst this;refine bT ?_;refine ai ?_;refine aP ?_;have hm:fD 3 (h.drop 3) n= -1:=by
   match h,h4 with
   |[a,b,c,d],_=>rfl
  rw[hi,hm]at hk;exact gQ hH hk
def ul{m n:Nat}(hm:m<65536)(hk:k (bv (m.testBit n)) H):a_ lv ij 79 H [wv m,iv n] k kp:=by
 refine bw (rs:=[.tmp 4]) (nt:=10) Tryz.f79 λhH hA=> ?_;simp only[bc,To];refine ai ?_;refine ah ?_;simp only[seval,BT,ae7];refine aP ?_;refine bZ ?_;rw[akI hm];exact hk
def um{m n:Nat}(hm:m<65536)(hn:n<16)(hk:k (wv (m|||2^n)) H):a_ lv ij 80 H [wv m,iv n] k kp:=by
 refine bw (rs:=[.tmp 4]) (nt:=9) Tryz.f80 λhH hA=> ?_;simp only[bc,To];refine ai ?_;refine ah ?_;simp only[seval,afj,BS];refine aP ?_;refine bZ ?_;rw[att hm hn];exact hk
def FF{h:SD}{y:aD}(hh:mD h)(hk:k (wv (ce h y)) H):a_ lv ij 77 H [.agg (h.map iv),y.av] k kp:=by
 refine bw (rs:=[.tmp 4]) (nt:=34) Tryz.f77 λhH hA=> ?_;simp only[bc,To,aD.av,aD.l];obtain⟨a,b,c,d,rfl,ha,hb,hc,hd,hs⟩:=hh.out;have o5:ce [a,b,c,d] y=jv (lF [a,b,c,d] y) (d-a).toNat:=ajT hs;have hz:wv (jv (lF [a,b,c,d] y) 0)=wv 0:=rfl;refine ai ?_;refine ai ?_;refine ai ?_;refine b_ ?_;refine fS (d-a).toNat (λi:Nat=>[(6,iv (a+i)),(5,wv (jv (lF [a,b,c,d] y) i))]) (λ_=>_) (λi=>True) (λ_ _=>rfl) (by rw[hz];simp only[seval];simp[bP,Wk.refl];exact Wk.refl _) rfl (λ_ _ _=>rfl) trivial (λbX cU i cK hi R hR=> ?_);refine ai ?_;refine aA ?_;have cD:jv (lF [a,b,c,d] y) i<65536:=Ub Ff (Vb (Yu (by omega) (show i<=16 by omega)) (by decide));refine⟨λhc=> ?_,λhc=> ?_⟩
 ·
  have hlt:i<(d-a).toNat:=by omega
  have hw:Tc.wrap (a+(i:Int)+1)=a+((i+1:Nat):Int):=by rw[bF _ (by omega)];push_cast;omega
  have fj:Tc.wrap (a+(i:Int)-a)=(i:Int):=by rw[bF _ (by omega)];omega
  have F5:lF [a,b,c,d] y i=(kI y.number (a+i)&&kI y.hour (jp [a,b,c,d] (a+i))):=by
   unfold lF;rw[show decide ([a,b,c,d].getD 0 0+(i:Int)<[a,b,c,d].getD 3 0)=true from decide_eq_true (show a+(i:Int)<d by omega),VO];rfl
  refine aL ?_;refine b_ ?_;refine eo 12 ?_;simp only[seval];refine gE (bv (kI y.number (a+i))) (cO (JS (b:=y.number) ⟨rfl,rfl⟩)) ?_;(try simp only[seval]);refine xH (λh2=> ?_) (λh2=> ?_)
  ·(try simp only[seval]);refine gE (iv (jp [a,b,c,d] (a+i))) (cO (QB (h:=[a,b,c,d]) rfl ⟨rfl,rfl⟩)) ?_;(try simp only[seval]);refine gE (bv (kI y.hour (jp [a,b,c,d] (a+i)))) (cO (JS (b:=y.hour) ⟨rfl,rfl⟩)) ?_;(try simp only[seval]);refine aA ?_;rw[h2,VO]at F5;refine⟨λh3=> ?_,λh3=> ?_⟩
   ·refine ah ?_;simp only[seval,fj];refine aK (um cD (show i<16 by omega) ?_);(try simp only[seval]);refine ah ?_;simp only[seval,hw];refine hR _ ⟨by omega,trivial,?_⟩;rw[show jv (lF [a,b,c,d] y) (i+1)=jv (lF [a,b,c,d] y) i|||2^i from by rw[jv,F5,h3];rfl];exact dp
   ·refine aL ?_;refine ah ?_;simp only[seval,hw];refine hR _ ⟨by omega,trivial,?_⟩;rw[show jv (lF [a,b,c,d] y) (i+1)=jv (lF [a,b,c,d] y) i from by rw[jv,F5,h3];rfl];exact dp
  ·(try simp only[seval]);refine aA ?_;refine aL ?_;refine ah ?_;simp only[seval,hw];refine hR _ ⟨by omega,trivial,?_⟩;rw[show jv (lF [a,b,c,d] y) (i+1)=jv (lF [a,b,c,d] y) i from by rw[jv,F5,show kI y.number (a+i)=false by simpa using h2];rfl];exact dp
 ·have:i=(d-a).toNat:=by omega
  subst this;refine bT ?_;refine ai ?_;refine aP ?_;rw[o5]at hk;exact gQ hH hk
end
open Go.Conc Go.Proofs Go.Gg.Tk
namespace Tk
structure vv (b:iz)(hi:Int):Prop where
 min:0<=b.min
 le:b.min<=b.max
 max:b.max<=hi
structure IN (x:aj)(y:aD):Prop where
 number:vv y.number 99
 hour:vv y.hour (x.hours-1)
structure aj.Ok (x:aj):Prop where
 first:0<=x.first/\x.first<=90
 hours:1<=x.hours/\x.hours<=3
 am:1<=x.am/\x.am<=3
 ve:x.seen.length<=3
 cW:x.pieces.length<=4
 eG:x.aC.length<=3
 seen:∀s∈x.seen,(0<=s.hour/\s.hour<=x.hours)/\vv s.next 99
 piece:∀y∈x.pieces,IN x y
 stub:∀y∈x.aC,IN x y
def tI (hour:Nat)(n:Int)(s:Seen):Bool:= !decide (s.hour=hour)||kI s.next n
def acO(x:aj)(hour:Nat)(n:Int):rU x hour n=x.seen.all (tI hour n):=rfl
end Tk
def dF{H L:SA}{i:Nat}{x:aa}(h:H[i]?=some x):(H++L)[i]?=some x:=by rw[Tw (Tj.1 h).1];exact h
def aS(Hs L:SA)(i:Nat):(Hs++L)[Hs.length+i]?=L[i]?:=by rw[Ud (by omega)];congr 1;omega
def dg(Hs L:SA)(i:Nat)(y:aa):(Hs++L).set (Hs.length+i) y=Hs++L.set i y:=by rw[VE _ _ (by omega)];congr 2;omega
section
variable {lv:Bool}{H:SA}{k kp:SF}
def TM{x:aj}:x.l=[iv x.first,iv x.hours,iv x.am,cz x.seen,aQ x.pieces,aQ x.aC]:=rfl
def QA{x:aj}{h:SD}{hour ir ih:Nat}{n:Int}(hx:x.Ok)(h4:h.length=4)(hn:h[hour]?=some n)(hr:H[ir]?=some (.cells x.l 73))(hi:H[ih]?=some (.cells (h.map iv) 80))(hk:k (bv (rU x hour n)) H):a_ lv ij 106 H [iv hour,.op ir 0,.op ih 0] k kp:=by
 refine bw (rs:=[.tmp 4]) (nt:=29) Tryz.f106 λhH hA=> ?_;simp only[bc,To];have pc:hour<4:=by have:=ep hn;omega
 have b4:(0<=(hour:Int)/\(hour:Int)<4)=True:=by simp;omega
 have hlen:=hx.ve;have yf:∀L:SA,(H++L)[ir]?=some (.cells x.l 73):=λL=>dF hr;have cG:∀L:SA,(H++L)[ih]?=some (.cells (h.map iv) 80):=λL=>dF hi;refine ai ?_;refine ah ?_;simp only[seval,hr,TM,cz];refine b_ ?_;refine t_ x.seen.length (λi:Nat=>[(11,iv i)]) (λ_=>H) (λi=>x.seen.all (tI hour n)=(x.seen.drop i).all (tI hour n)) rfl (λbX cU i cK hI R hR=> ?_);refine ai ?_;refine aA ?_;refine⟨λhc=> ?_,λhc=> ?_⟩
 ·
  have bG:i<x.seen.length:=by omega
  obtain⟨s,hs⟩:=bU bG;have ln:x.seen.all (tI hour n)=(tI hour n s&&(x.seen.drop (i+1)).all (tI hour n)):=by rw[hI,vU hs];rfl
  have hw:=TL i (by omega)
  refine aL ?_;refine ah ?_;simp only[seval,H5 hs,iB bG];refine eo 13 ?_;simp only[seval,cG,b4,kS hn];refine xH (λh2=> ?_) (λh2=> ?_)
  ·(try simp only[seval,cG,b4,kS hn]);refine gE (bv (kI s.next n)) (cO (JS (b:=s.next) ⟨rfl,rfl⟩)) ?_;(try simp only[seval]);refine aA ?_;have hp:tI hour n s=kI s.next n:=(by unfold tI;rw[decide_eq_true (show s.hour=(hour:Int) by simpa using h2)];rfl);rw[hp]at ln;refine⟨λh3=> ?_,λh3=> ?_⟩
   ·refine ai ?_;refine aP ?_;rw[acO,ln,h3]at hk;exact gQ hH hk
   ·refine aL ?_;refine ah ?_;simp only[seval,hw];refine hR _ ⟨bG,?_,(acG bX)⟩;rw[ln,h3];rfl
  ·(try simp only[seval]);refine aA ?_;refine aL ?_;have hp:tI hour n s=true:=(by unfold tI;rw[decide_eq_false (show ¬s.hour=(hour:Int) by simpa using h2)];rfl);rw[hp]at ln;refine ah ?_;simp only[seval,hw];refine hR _ ⟨bG,?_,(acG bX)⟩;rw[ln];rfl
 ·
  have:i=x.seen.length:=by omega
  subst this;refine bT ?_;refine ai ?_;refine aP ?_;rw[acO,hI,List.drop_length]at hk;exact bZ hk
end
open Go.Conc Go.Proofs Go.Gg.Tk
def Kh{α:Type}(g:Nat->List α)(i:Nat):(Tt (i+1)).flatMap g=(Tt i).flatMap g++g i:=by
 rw[Wr,VN];simp
def Kg{α:Type}(g:Nat->List α){i n:Nat}(h:i<n):(Tt n).flatMap g=(Tt i).flatMap g++(g i++(UZ (i+1) (n-(i+1))).flatMap g):=by
 have:Tt n=Tt i++(i::UZ (i+1) (n-(i+1))):=by
  rw[VX,VX,<- WF];have:=Yc (s:=0) (m:=i) (n:=n-(i+1)+1);rw[WN]at this;rw[this];congr 1;omega
 rw[this,VN,UQ]
def N_{α:Type}{l:List α}{i:Nat}{v:α}(h:i<l.length):(l.set i v).take (i+1)=l.take i++[v]:=by
 rw[Yj,avE,VP,if_pos rfl,if_pos h,List.set_eq_of_length_le (by simp;omega)];rfl
namespace Tk
def jb (h:SD)(hour j:Nat)(n:Int):SD:=h.take hour++UE j n++h.drop (hour+j)
def FG{h:SD}{hour j:Nat}{n:Int}(hj:hour+j<=h.length):(jb h hour j n).length=h.length:=by simp[jb];omega
def ajK(h:SD)(hour:Nat)(n:Int):jb h hour 0 n=h:=by simp[jb]
def J7{h:SD}{hour j:Nat}{n:Int}(hj:hour+j<h.length):(jb h hour j n).set (hour+j) n=jb h hour (j+1) n:=by
 unfold jb;have hl:(h.take hour++UE j n).length=hour+j:=by simp;omega
 rw[VE _ _ (by omega),hl,WL,List.replicate_succ'];rw[UW hj,UP,Ax,Ax,Ax];rfl
def ajJ{h:SD}{hour j:Nat}{n:Int}(hn:h[hour]?=some n)(hj:hour+j<=h.length):(jb h hour j n)[hour]?=some n:=by
 have hl:=ep hn;unfold jb;rw[Ax,Ud (by simp;omega)];have:hour-(h.take hour).length=0:=by simp;omega
 rw[this];cases j with
 |zero=>simpa using hn
 |succ j=>simp[Xu]
def ajI{h pre:SD}{hour:Nat}{n:Int}(h4:h.length=4)(hn:h[hour]?=some n)(hp:pre=h.take (hour+1)):jb h hour (4-hour) n=cL pre:=by
 have hl:=ep hn;have e:pre=h.take hour++[n]:=by rw[hp,Yj,hn];rfl
 unfold jb cL;rw[UR (by omega),Tu,e];have h1:(h.take hour++[n]).length=hour+1:=by simp;omega
 rw[h1,show (h.take hour++[n]).getLastD 0=n by simp[Wn],Ax];congr 1;rw[show 4-hour=(4-(hour+1))+1 by omega,Xu];rfl
def acp{h pre:SD}{hour:Nat}{n:Int}(hn:h[hour]?=some n)(hp:pre=h.take (hour+1)):pre.length=hour+1/\pre.getLastD 0=n:=by
 have hl:=ep hn;have e:pre=h.take hour++[n]:=by rw[hp,Yj,hn];rfl
 subst e;exact⟨by simp;omega,by simp[Wn]⟩
end Tk
open Go.Conc Go.Proofs Go.Gg.Tk
section
variable {lv:Bool}
def qg (yv:AV)(N ir it:Nat)(h:SD):SA:=[.cells [yv] 153,.cells (h.map iv) 80,.cells [.fn (.func 106) [] [.op ir 0,.op (N+1) 0]] 124,.cells [.fn (.func 108) [] [.op (N+2) 0,.op ir 0,.op (N+1) 0,.op N 0,.op it 0,.op (N+3) 0]] 124]
def aiF{x:aj}{bk N ir it:Nat}{yv pv:AV}{S:Type}{f:S->SD->dD S}{Gf:S->SA}{I:S->Prop}{A:SD->Prop}(hx:x.Ok)(hY:jH lv ij yv f Gf N I A pv)(hr:∀σ L,(Gf σ++L)[ir]?=some (.cells x.l 73))(ht:∀σ L,(Gf σ++L)[it]?=some (.cells [iv bk] 3))(lQ:bk<=3):
  ∀(d hour:Nat)(h pre:SD)(n0:Int)(σ:S)(M:SA)(k kp:SF),d+hour=x.hours.toNat->h.length=4->h[hour]?=some n0->(0<=n0/\n0<=90+3* hour)->pre=h.take (hour+1)->I σ->(∀a∈mS x bk d pre,A a)->
   (∀h',h'.length=4->h'.take (hour+1)=pre->cX Gf pv k kp (qg yv N ir it h'++M) (bC f (mS x bk d pre) σ))->
   a_ lv ij 108 (Gf σ++(qg yv N ir it h++M)) [iv hour,.op (N+2) 0,.op ir 0,.op (N+1) 0,.op N 0,.op it 0,.op (N+3) 0] k kp:=by
 intro d;induction d with
 |zero=>
  intro hour h pre n0 σ M k kp lc h4 oG hb hp hI hA hk;refine bw (rs:=[.tmp 8]) (nt:=61) av6 λhH us=> ?_;simp only[bc,To];obtain⟨dM,uG⟩:=acp oG hp;have pc:hour<4:=by have:=ep oG;omega
  have xY:=hx.hours;have g0:∀(σ:S)(L:SA),(Gf σ++L)[N]?=L[0]?:=λσ L=>hY.get σ L 0;have g1:∀(σ:S)(L:SA),(Gf σ++L)[N+1]?=L[1]?:=λσ L=>hY.get σ L 1;have g2:∀(σ:S)(L:SA),(Gf σ++L)[N+2]?=L[2]?:=λσ L=>hY.get σ L 2;have s1:∀(σ:S)(L:SA) x,(Gf σ++L).set (N+1) x=Gf σ++L.set 1 x:=λσ L x=>hY.set σ L 1 x;rw[mS,dM,uG,Xa]at hA hk;refine ai ?_;refine ah ?_;simp only[seval,g2,qg];refine aK (QA (x:=x) (h:=h) (n:=n0) hx h4 oG (hr _ _) (by rw[g1];rfl) ?_);(try simp only[seval]);refine aA ?_;refine⟨λhs=> ?_,λhs=> ?_⟩
  ·refine ai ?_;refine aP ?_;have:=hk h h4 hp.symm;rw[hs]at this;simp only[UB,if_false,bC,cX]at this;exact bZ this
  ·rw[if_pos hs]at hA hk;rw[NS]at hk;have Sr:(hour:Int)=x.hours:=(by omega);refine aL ?_;refine ah ?_;simp only[seval,hr,TM];refine aA ?_;refine⟨λhc=> ?_,λhc=>by exfalso;simp at hc;omega⟩;refine ai ?_;refine b_ ?_;refine fS (4-hour) (λj:Nat=>[(9,iv ((hour+j:Nat):Int))]) (λj=>Gf σ++(qg yv N ir it (jb h hour j n0)++M)) (λj=>True) (λ_ _=>rfl) (by simp only[seval];simp[bP,Wk.refl]) (by rw[ajK];rfl) (λm _ _=>by simp[qg]) trivial (λbX cU j pf hj R hR=> ?_);refine ai ?_;refine aA ?_;refine⟨λhc=> ?_,λhc=> ?_⟩
   ·have ff:j<4-hour:=(by omega);have bb:(0<=(hour:Int)/\(hour:Int)<4)=True:=(by simp;omega);have bj:(0<=(hour:Int)+(j:Int)/\(hour:Int)+(j:Int)<4)=True:=(by simp;omega);have C8:((hour:Int)+(j:Int)).toNat=hour+j:=(by omega);have ie:(jb h hour j n0).length=4:=(by rw[FG (by omega),h4]);have mh:(Wh iv (jb h hour j n0)).length=4:=(by rw[Un,ie]);have hw:Tc.wrap ((hour:Int)+(j:Int)+1)=(hour:Int)+((j+1:Nat):Int):=(by rw[bF _ (by omega)];push_cast;omega);refine aL ?_;refine ah ?_;simp only[seval,g1,s1,qg,bb,bj,C8,mh,kS (ajJ oG (show hour+j<=h.length by omega))];refine⟨by omega,?_⟩;rw[wR (by omega),J7 (by omega)];refine ah ?_;simp only[seval,hw];exact hR _ ⟨ff,trivial,dp⟩
   ·have:j=4-hour:=(by omega);subst this;have Gt:=ajI h4 oG hp;rw[Gt];have Gs:(cL pre).length=4:=(by rw[<- Gt,FG (by omega),h4]);have s_:((cL pre).map iv).length=4:=(by rw[Un,Gs]);have nL:(cL pre).take (hour+1)=pre:=(by unfold cL;rw[Uu (by omega),Tn (by omega)]);refine bT ?_;refine ah ?_;simp only[seval,g0,g1,qg,s_];rw[Tn (i:=4) (l:=(cL pre).map iv) (by rw[s_];exact Tm _)];refine nu (hY.call σ (cL pre) (qg yv N ir it (cL pre)++M) _ _ hI (hA _ (by simp)) ?_);have aI:=hk (cL pre) Gs nL;cases hf:f σ (cL pre)with
    |go σ'=>
     rw[hf]at aI;simp only[cX]at aI⊢;(try simp only[seval]);refine aP ?_;exact bZ aI
    |stop σ'=>
     rw[hf]at aI;simp only[cX]at aI⊢;(try simp only[seval]);refine aP ?_;exact bZ aI
    |bad σ'=>
     rw[hf]at aI;simp only[cX]at aI⊢;exact bZ aI
 |succ d ih=>
  intro hour h pre n0 σ M k kp lc h4 oG hb hp hI hA hk;refine bw (rs:=[.tmp 8]) (nt:=61) av6 λhH us=> ?_;simp only[bc,To];obtain⟨dM,uG⟩:=acp oG hp;have xY:=hx.hours;have hpr:=hx.am;have Sq:hour<3:=by omega
  have TM:x.l=[iv x.first,iv x.hours,iv x.am,cz x.seen,aQ x.pieces,aQ x.aC]:=rfl;have g1:∀(σ:S)(L:SA),(Gf σ++L)[N+1]?=L[1]?:=λσ L=>hY.get σ L 1;have g2:∀(σ:S)(L:SA),(Gf σ++L)[N+2]?=L[2]?:=λσ L=>hY.get σ L 2;have g3:∀(σ:S)(L:SA),(Gf σ++L)[N+3]?=L[3]?:=λσ L=>hY.get σ L 3;have s1:∀(σ:S)(L:SA) x,(Gf σ++L).set (N+1) x=Gf σ++L.set 1 x:=λσ L x=>hY.set σ L 1 x;rw[mS,dM,uG,Xa]at hA hk;refine ai ?_;refine ah ?_;simp only[seval,g2,qg];refine aK (QA (x:=x) (h:=h) (n:=n0) hx h4 oG (hr _ _) (by rw[g1];rfl) ?_);(try simp only[seval]);refine aA ?_;refine⟨λhs=> ?_,λhs=> ?_⟩
  ·refine ai ?_;refine aP ?_;have:=hk h h4 hp.symm;rw[hs]at this;simp only[UB,if_false,bC,cX]at this;exact bZ this
  ·rw[if_pos hs]at hA hk;have Sr:¬(hour:Int)=x.hours:=(by omega);refine aL ?_;refine ah ?_;simp only[seval,hr,TM];refine aA ?_;refine⟨λhc=>by exfalso;exact Sr hc,λhc=> ?_⟩;refine aL ?_;refine ah ?_;simp only[seval,hr,TM,bF (x.am+1) (by omega)];generalize hg:(λn:Nat=>if hour+1=1/\n≠bk then[]else mS x bk d (pre++[n0+(n:Int)]))=g at hA hk;refine b_ ?_;refine zi (measure λm:Nat×S×SD=>(x.am.toNat+1)-m.1).wf (λm=>[(37,iv (m.1:Nat))]) (λm=>Gf m.2.1++(qg yv N ir it m.2.2++M)) (λm=>m.1<=x.am.toNat+1/\bC f ((Tt m.1).flatMap g) σ=.go m.2.1/\m.2.2.length=4/\m.2.2.take (hour+1)=pre) (0,σ,h) (λ_ _=>rfl) (by intro p hp;simp at hp;subst hp;exact⟨_,rfl,Wk.refl _⟩) rfl (λ_ _=>by simp[qg,hY.len]) ⟨by omega,rfl,h4,hp.symm⟩ (λbX cU m au R hR=> ?_);obtain⟨i,τ,hq⟩:=m;obtain⟨hi,bK,Ao,Ap⟩:=au;replace hi:i<=x.am.toNat+1:=hi;replace bK:bC f ((Tt i).flatMap g) σ=.go τ:=bK;replace Ao:hq.length=4:=Ao;replace Ap:hq.take (hour+1)=pre:=Ap;have Gz:hq[hour]?=some n0:=by
    have h1:(hq.take (hour+1))[hour]?=some n0:=(by rw[Ap,hp,U5,if_pos (by omega)];exact oG);rwa[U5,if_pos (by omega)]at h1
   refine ai ?_;refine aA ?_;refine⟨λhc=> ?_,λhc=> ?_⟩
   ·have bG:i<x.am.toNat+1:=(by omega);have bH:=TL i (by omega);have rE:=Kg g bG;have tj:=Kh g i;have Cw:I τ:=A4 (A:=A) hY.inv _ σ τ (λa ha=>hA a (by rw[rE];exact Ue _ ha)) hI bK;refine aL ?_;refine ai ?_;have hqm:(Wh iv hq).length=4:=(by rw[Un,Ao]);have bb:(0<=(hour:Int)/\(hour:Int)<4)=True:=(by simp;omega);have bb1:(0<=(hour:Int)+1/\(hour:Int)+1<4)=True:=(by simp;omega);have pk:((hour:Int)+1).toNat=hour+1:=(by omega);have hwh:Tc.wrap ((hour:Int)+1)=(hour:Int)+1:=bF _ (by omega);have Mh:Tc.wrap (n0+(i:Int))=n0+(i:Int):=bF _ (by omega);refine ah ?_;simp only[seval,ht];refine xH (λh2=> ?ga) (λh2=> ?gb)
    case' ga=>
     (try simp only[seval,ht]);refine aA ?_;refine⟨λh3=> ?gc,λh3=> ?gd⟩
     case gc=>
      have aN:g i=[]:=(by rw[<- hg];exact if_pos ⟨by simp at h2;omega,by omega⟩);refine bT ?_;refine ah ?_;simp only[seval,bH];exact hR _ ⟨(i+1,τ,hq),(by show x.am.toNat+1-(i+1)<x.am.toNat+1-i;omega),⟨by omega,by rw[tj,aN,Tu];exact bK,Ao,Ap⟩,dp⟩
    case' gb=>
     (try simp only[seval]);refine aA ?_
    all_goals
     have aN:g i=mS x bk d (pre++[n0+(i:Int)]):=by
      rw[<- hg];refine if_neg ?_
      rintro⟨q1,q2⟩
      first|(simp at h3;omega)|(simp at h2;omega)
     refine aL ?_;refine ah ?_;simp only[seval,g1,s1,qg,bb,bb1,pk,hwh,Mh,hqm,kS Gz];refine⟨by omega,?_⟩;rw[wR (show hour+1<hq.length by omega)];refine ah ?_;simp only[seval,g3,hwh];have al1:(hq.set (hour+1) (n0+(i:Int))).length=4:=(by rw[UF,Ao]);have hqt:pre++[n0+(i:Int)]=(hq.set (hour+1) (n0+(i:Int))).take (hour+1+1):=(by rw[N_ (by omega),Ap]);refine aK (ih (hour+1) (hq.set (hour+1) (n0+(i:Int))) (pre++[n0+(i:Int)]) (n0+(i:Int)) τ M _ _ (by omega) al1 (by rw[VP,if_pos rfl,if_pos (by omega)]) (by omega) hqt Cw (λa ha=>hA a (by rw[rE,aN];exact T1 _ (Ue _ ha))) (λh' qZ al0=> ?_));have LS:h'.take (hour+1)=pre:=by
      have e:h'.take (hour+1)=(h'.take (hour+1+1)).take (hour+1):=(by rw[Wi];congr 1;omega);rw[e,al0,Uu (Yo dM.symm),Tn (Yo dM)]
     have AB:bC f ((Tt (x.am.toNat+1)).flatMap g) σ=match bC f (g i) τ with
       |.go s'=>bC f ((UZ (i+1) (x.am.toNat+1-(i+1))).flatMap g) s'
       |r=>r:=by
      rw[rE,qD,bK];exact qD f (g i) _ τ
     rw[<- aN];cases hf:bC f (g i) τ with
     |go τ'=>
      simp only[cX];(try simp only[seval]);refine aA ?_;refine aL ?_;refine ah ?_;simp only[seval,bH];exact hR _ ⟨(i+1,τ',h'),(by show x.am.toNat+1-(i+1)<x.am.toNat+1-i;omega),⟨by omega,by rw[tj,qD,bK];exact hf,qZ,LS⟩,dp⟩
     |stop τ'=>
      simp only[cX];(try simp only[seval]);refine aA ?_;refine ai ?_;refine aP ?_;have aI:=hk h' qZ LS;rw[AB,hf]at aI;exact bZ aI
     |bad τ'=>
      simp only[cX];have aI:=hk h' qZ LS;rw[AB,hf]at aI;exact bZ aI
   ·have dx:i=x.am.toNat+1:=(by omega);subst dx;have aI:=hk hq Ao Ap;rw[bK]at aI;refine bT ?_;refine ai ?_;refine aP ?_;exact bZ aI
def vc{P:Tg}{yv pv:AV}{S:Type}{f:S->SD->dD S}{Gf:S->SA}{N:Nat}{I:S->Prop}{A:SD->Prop}{k:SF}(hY:jH lv P yv f Gf N I A pv){σ σ':S}{L:SA}{a:AV}(hH:bO (Gf σ))(ha:∀n,Lt n a)(hk:k a (Gf σ')):bY (Gf σ).length (Gf σ'++L) a k:=by
 refine iK (H':=Gf σ') (Wk.refl _) rfl (by rw[hY.len,hY.len];exact Tm _) ?_ (ha _) hk;have:=hY.au (σ:=σ) (M:=[]) (by simpa using hH) σ';simpa using this
def JZ{H:SA}{k kp:SF}{x:aj}{n:Int}(hk:k (.fn (.func 105) [] [.op H.length 0,.op (H.length+1) 0]) (H++[.cells x.l 73,.cells [iv n] 3])):a_ lv ij 76 H [x.av,iv n] k kp:=by
 refine bw (rs:=[.tmp 4]) (nt:=6) Tryz.f76 λhH hA=> ?_;simp only[bc,To,aj.av];refine ai ?_;refine ah ?_;simp only[seval,UY,Vt,U7,UL];refine aP ?_;exact bZ hk
def JR{x:aj}{bk N ir it:Nat}{yv pv:AV}{S:Type}{f:S->SD->dD S}{Gf:S->SA}{I:S->Prop}{A:SD->Prop}{σ:S}{k kp:SF}(hx:x.Ok)(hY:jH lv ij yv f Gf N I A pv)(hr:∀σ L,(Gf σ++L)[ir]?=some (.cells x.l 73))(ht:∀σ L,(Gf σ++L)[it]?=some (.cells [iv bk] 3))(lQ:bk<=3)
  (nM:∀n,Lt n pv) (hI:I σ) (hA:∀a∈j6 x bk,A a) (hk:gg Gf pv k kp [] (bC f (j6 x bk) σ)):a_ lv ij 105 (Gf σ) [yv,.op ir 0,.op it 0] k kp:=by
 refine bw (rs:=[]) (nt:=15) Tryz.f105 λhH us=> ?_;simp only[bc,To];have hN:=hY.len σ;refine ah ?_;simp only[seval,hY.parts];refine ai ?_;refine ah ?_;simp only[seval,UY,Vt,U7,UL];refine ai ?_;refine ah ?_;simp only[seval,UY,Vt,U7,UL];refine ah ?_;simp only[seval,hr,TM];refine ai ?_;have h0:=hx.first;have hh:=hx.hours;have LR:[x.first]=VC (0+1) [x.first,0,0,0]:=rfl;refine aK (?_);rw[hN];refine aiF (x:=x) (bk:=bk) hx hY hr ht lQ x.hours.toNat 0 [x.first,0,0,0] [x.first] x.first σ [] _ _ rfl rfl rfl (by omega) LR hI hA (λh' qZ Am=> ?_);change cX Gf pv _ _ _ (bC f (j6 x bk) σ);have rP:∀n,Lt n (.aF []):=λn=>by simp[im]
 cases hf:bC f (j6 x bk) σ with
 |go s=>
  rw[hf]at hk;simp only[cX,gg]at hk⊢;rw[Tu]at hk;(try simp only[seval]);rw[<- hN];exact vc hY hH rP hk
 |stop s=>
  rw[hf]at hk;simp only[cX,gg]at hk⊢;rw[Tu]at hk;(try simp only[seval]);rw[<- hN];exact vc hY hH rP hk
 |bad s=>
  rw[hf]at hk;simp only[cX,gg]at hk⊢;rw[Tu]at hk;rw[<- hN];exact vc hY hH nM hk
end
def Qk{α:Type}{l:List α}{i j:Nat}{v:α}(h:i<j):(l.set i v).drop j=l.drop j:=by
 apply X2;intro k;rw[Vd,Vd,U3 (by omega)]
def zx{α:Type}{g:α->AV}{xs:List α}{i:Nat}{x:α}(h:xs[i]?=some x):(xs.map g).drop i=g x::(xs.drop (i+1)).map g:=by
 rw[<- Zy,vU h,VI]
namespace Tk
def adJ (k:Nat):SD:=UE (4-k) (-1)++[-1, -1, -1]
structure oU (h:SD)(k p:Nat)(t:SE)(tc:SD):Prop where
 len:tc.length=11
 pre:tc.take (4+p)=h++t.map λn:Nat=>(n:Int)
 tl:tc.drop (4+k)=adJ k
def oU.all{h:SD}{k:Nat}{t:SE}{tc:SD}(ht:t.length=k)(n:oU h k k t tc):tc=dV h t:=by
 have:=WO (4+k) tc;rw[n.pre,n.tl]at this;rw[<- this];unfold dV lz adJ;rw[ht];simp[Ax]
def oU.back{h:SD}{k p:Nat}{t:SE}{n:Nat}{tc:SD}(h4:h.length=4)(ht:t.length=p)(q:oU h k (p+1) (t++[n]) tc):oU h k p t tc:=by
 refine⟨q.len,?_,q.tl⟩;have e:tc.take (4+p)=(tc.take (4+(p+1))).take (4+p):=by rw[Wi];congr 1;omega
 rw[e,q.pre,UJ,<- Ax,Uu (by simp[h4,ht]),Tn (by simp[h4,ht])]
def oU.next{h:SD}{k p:Nat}{t:SE}{n:Nat}{tc:SD}(hp:p<k)(hk:k<=4)(q:oU h k p t tc):oU h k (p+1) (t++[n]) (tc.set (4+p) (n:Int)):=by
 refine⟨by rw[UF];exact q.len,?_,?_⟩
 ·rw[show 4+(p+1)=(4+p)+1 by omega,N_ (by rw[q.len];omega),q.pre];simp
 ·rw[Qk (by omega)];exact q.tl
def aoH{h:SD}{q:Nat}{qs:SE}{u:Nat}{t:SE}:(kK (q::qs) u t).map (dV h)=(Tt 9).flatMap λn=>if u.testBit n|| !q.testBit n then[]else(kK qs (u|||2^n) (t++[n])).map (dV h):=by
 rw[kK,WW];congr 1;funext n;split<;>rfl
end Tk
section
variable {lv:Bool}
def tD (yv:AV)(N ir:Nat)(ps:SE)(tc:SD):SA:=[.cells [yv] 155,.cells (tc.map iv) 83,.cells (ps.map λn=>wv n) 77,.cells [.fn (.func 132) [] [.op ir 0,.op N 0,.op (N+1) 0,.op (N+2) 0,.op (N+3) 0]] 191]
def aiR{x:aj}{h ps N ir:_}{yv pv:AV}{S:Type}{f:S->SD->dD S}{Gf:S->SA}{I:S->Prop}{A:SD->Prop}(hx:x.Ok)(h4:h.length=4)(hY:jH lv ij yv f Gf N I A pv)(hr:∀σ L,(Gf σ++L)[ir]?=some (.cells x.l 73))(qp:ps=x.pieces.map (ce h)++UE (4-x.pieces.length) 0):
  ∀(d p u:Nat)(t:SE)(tc:SD)(σ:S)(M:SA)(k kp:SF),d+p=x.pieces.length->u<65536->t.length=p->oU h x.pieces.length p t tc->I σ->(∀a∈(kK ((x.pieces.map (ce h)).drop p) u t).map (dV h),A a)->
   (∀ej,oU h x.pieces.length p t ej->cX Gf pv k kp (tD yv N ir ps ej++M) (bC f ((kK ((x.pieces.map (ce h)).drop p) u t).map (dV h)) σ))->
   a_ lv ij 132 (Gf σ++(tD yv N ir ps tc++M)) [iv p,wv u,.op ir 0,.op N 0,.op (N+1) 0,.op (N+2) 0,.op (N+3) 0] k kp:=by
 intro d;induction d with
 |zero=>
  intro p u t tc σ M k kp KY hu ht hT hI hA hk;refine bw (rs:=[.tmp 9]) (nt:=47) av5 λhH us=> ?_;simp only[bc,To];have g0:∀(σ:S)(L:SA),(Gf σ++L)[N]?=L[0]?:=λσ L=>hY.get σ L 0;have g1:∀(σ:S)(L:SA),(Gf σ++L)[N+1]?=L[1]?:=λσ L=>hY.get σ L 1;have dM:p=x.pieces.length:=by omega
  have sT:(x.pieces.map (ce h)).drop p=[]:=UR (by simp;omega);rw[sT,kK]at hA hk;rw[List.map_singleton]at hA hk;rw[NS]at hk;have yi:tc=dV h t:=by subst dM;exact hT.all ht
  have jY:(tc.map iv).length=11:=by rw[Un,hT.len]
  refine ai ?_;(repeat apply iA);refine Ps ?_;refine ah ?_;simp only[seval,hr,TM,aQ];refine aA ?_;refine⟨λhc=> ?_,λhc=>by exfalso;simp at hc;omega⟩;refine ah ?_;simp only[seval,g0,g1,tD,jY];rw[Tn (i:=11) (l:=tc.map iv) (by rw[jY];exact Tm _)];rw[<- yi]at hA hk;have aI:=hk tc hT;refine nu (hY.call σ tc (tD yv N ir ps tc++M) _ _ hI (hA _ (by simp)) ?_);cases hf:f σ tc with
  |go σ'=>
   rw[hf]at aI;simp only[cX]at aI⊢;(try simp only[seval]);refine aP ?_;exact bZ aI
  |stop σ'=>
   rw[hf]at aI;simp only[cX]at aI⊢;(try simp only[seval]);refine aP ?_;exact bZ aI
  |bad σ'=>
   rw[hf]at aI;simp only[cX]at aI⊢;exact bZ aI
 |succ d ih=>
  intro p u t tc σ M k kp KY hu ht hT hI hA hk;refine bw (rs:=[.tmp 9]) (nt:=47) av5 λhH us=> ?_;simp only[bc,To];have TM:x.l=[iv x.first,iv x.hours,iv x.am,cz x.seen,aQ x.pieces,aQ x.aC]:=rfl;have g1:∀(σ:S)(L:SA),(Gf σ++L)[N+1]?=L[1]?:=λσ L=>hY.get σ L 1;have g2:∀(σ:S)(L:SA),(Gf σ++L)[N+2]?=L[2]?:=λσ L=>hY.get σ L 2;have g3:∀(σ:S)(L:SA),(Gf σ++L)[N+3]?=L[3]?:=λσ L=>hY.get σ L 3;have s1:∀(σ:S)(L:SA) x,(Gf σ++L).set (N+1) x=Gf σ++L.set 1 x:=λσ L x=>hY.set σ L 1 x;have mT:=hx.cW;have Gs:p<4:=by omega
  obtain⟨y,hy⟩:=bU (xs:=x.pieces) (i:=p) (by omega);have uQ:(x.pieces.map (ce h))[p]?=some (ce h y):=by rw[Uo,hy];rfl
  have nK:ps[p]?=some (ce h y):=by rw[qp,Tw (by simp;omega)];exact uQ
  have ml:ce h y<65536:=Xn (QV h y) (by decide);have aH:¬(p:Int)=(x.pieces.length:Int):=by omega
  rw[vU uQ,aoH]at hA hk;generalize hg:(λn=>if u.testBit n|| !(ce h y).testBit n then[]else(kK ((x.pieces.map (ce h)).drop (p+1)) (u|||2^n) (t++[n])).map (dV h))=g at hA hk;refine ai ?_;(repeat apply iA);refine Ps ?_;refine ah ?_;simp only[seval,hr,TM,aQ];refine aA ?_;refine⟨λhc=>by exfalso;exact aH (by simpa using hc),λhc=> ?_⟩;refine aL ?_;(repeat apply iA);refine Po ?_;simp only[seval];refine ai ?_;refine b_ ?_;refine zi (measure λm:Nat×S×SD=>9-m.1).wf (λm=>[(20,iv (m.1:Nat))]) (λm=>Gf m.2.1++(tD yv N ir ps m.2.2++M)) (λm=>m.1<=9/\bC f ((Tt m.1).flatMap g) σ=.go m.2.1/\oU h x.pieces.length p t m.2.2) (0,σ,tc) (λ_ _=>rfl) (by intro p hp;simp at hp;subst hp;exact⟨_,rfl,Wk.refl _⟩) rfl (λ_ _=>by simp[tD,hY.len]) ⟨by omega,rfl,hT⟩ (λbX cU m au R hR=> ?_);obtain⟨i,τ,tq⟩:=m;obtain⟨hi,bK,lH⟩:=au;replace hi:i<=9:=hi;replace bK:bC f ((Tt i).flatMap g) σ=.go τ:=bK;replace lH:oU h x.pieces.length p t tq:=lH;refine ai ?_;refine aA ?_;refine⟨λhc=> ?_,λhc=> ?_⟩
  ·have bG:i<9:=(by omega);have bH:=TL i (by omega);have rE:=Kg g bG;have tj:=Kh g i;have Cw:I τ:=A4 (A:=A) hY.inv _ σ τ (λa ha=>hA a (by rw[rE];exact Ue _ ha)) hI bK;have b4:(0<=(p:Int)/\(p:Int)<4)=True:=(by simp;omega);have Ec:(u.testBit i|| !(ce h y).testBit i)=true->g i=[]:=λe=>(by rw[<- hg];exact if_pos e);have Ko:(u.testBit i|| !(ce h y).testBit i)=false->g i=(kK ((x.pieces.map (ce h)).drop (p+1)) (u|||2^i) (t++[i])).map (dV h):=λe=>(by rw[<- hg];exact if_neg (by rw[e];simp));refine aL ?_;refine ai ?_;refine ah ?_;simp only[seval,g2,tD,b4,zx nK];refine aK (ul hu ?_);(try simp only[seval,g2,tD,b4,zx nK]);refine xH (λh2=> ?_) (λh2=> ?_)
   ·(try simp only[seval,g2,tD,b4,zx nK]);refine aK (ul ml ?_);(try simp only[seval]);refine aA ?_;refine⟨λh3=> ?_,λh3=> ?_⟩
    ·have aN:=Ec (by rw[h2];simpa using h3);refine bT ?_;refine ah ?_;simp only[seval,bH];exact hR _ ⟨(i+1,τ,tq),(by show 9-(i+1)<9-i;omega),⟨by omega,by rw[tj,aN,Tu];exact bK,lH⟩,dp⟩
    ·have aN:=Ko (by rw[h2];simpa using h3);have jY:(tq.map iv).length=11:=(by rw[Un,lH.len]);have Jb:4+p<tq.length:=(by rw[lH.len];omega);have GQ:=TL p (by omega);refine aL ?_;refine ah ?_;simp only[seval,g1,s1,tD,b4];refine⟨by omega,?_⟩;rw[wR Jb];refine eo 6 ?_;simp only[seval,g3,GQ];refine gE (wv (u|||2^i)) (cO (um hu (show i<16 by omega) ⟨rfl,rfl⟩)) ?_;rw[GQ];have kF:u|||2^i<65536:=pF hu (wW (by omega));refine aK (ih (p+1) (u|||2^i) (t++[i]) (tq.set (4+p) (i:Int)) τ M _ _ (by omega) kF (by simp[ht]) (lH.next (by omega) mT) Cw (λa ha=>hA a (by rw[rE,aN];exact T1 _ (Ue _ ha))) (λej sN=> ?_));have Cz:=sN.back h4 ht;have AB:bC f ((Tt 9).flatMap g) σ=match bC f (g i) τ with
       |.go s'=>bC f ((UZ (i+1) (9-(i+1))).flatMap g) s'
       |r=>r:=by
      rw[rE,qD,bK];exact qD f (g i) _ τ
     rw[<- aN];have aI:=hk ej Cz;rw[AB]at aI;cases hf:bC f (g i) τ with
     |go τ'=>
      simp only[cX];(try simp only[seval]);refine aA ?_;refine aL ?_;refine ah ?_;simp only[seval,bH];exact hR _ ⟨(i+1,τ',ej),(by show 9-(i+1)<9-i;omega),⟨by omega,by rw[tj,qD,bK];exact hf,Cz⟩,dp⟩
     |stop τ'=>
      rw[hf]at aI;simp only[cX]at aI⊢;(try simp only[seval]);refine aA ?_;refine ai ?_;refine aP ?_;exact bZ aI
     |bad τ'=>
      rw[hf]at aI;simp only[cX]at aI⊢;exact bZ aI
   ·(try simp only[seval]);refine aA ?_;have aN:=Ec (by rw[show u.testBit i=true by simpa using h2];rfl);refine bT ?_;refine ah ?_;simp only[seval,bH];exact hR _ ⟨(i+1,τ,tq),(by show 9-(i+1)<9-i;omega),⟨by omega,by rw[tj,aN,Tu];exact bK,lH⟩,dp⟩
  ·have dx:i=9:=(by omega);subst dx;have aI:=hk tq lH;rw[bK]at aI;refine bT ?_;refine ai ?_;refine aP ?_;exact bZ aI
end
end Go.Gg
