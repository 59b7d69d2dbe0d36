/- A part of the proof. -/
import Derived.Test.YtkanpclgnhdbiaaGreatDoorTicketTrueCard0
import Derived.Test.YtkanpclgnhdbiaaGreatDoorProg
import Derived.KernelRfl
set_option linter.all false
set_option maxRecDepth 4000
set_option maxHeartbeats 4000000
open Array renaming all_eq_true_iff_forall_mem->UH,ext'->VD,getD_eq_getD_getElem?->SI,getElem?_append_left->X9,getElem?_eq_getElem->SK,getElem?_eq_none->Yz,getElem?_eq_some_iff->SU,getElem?_modify->Wl,getElem?_setIfInBounds_ne->SV,getElem?_setIfInBounds_self_of_lt->S_,getElem_mem->XS,mem_iff_getElem?->YF,mem_of_getElem?->W4,range->WL,replicate->TK,toList_map->VL
open BitVec renaming ofInt->Ug,toNat_or->Zt
open Bool renaming and_eq_true->Tc,eq_iff_iff->UY,false_and->YE,false_eq_true->TN,false_or->ZB,not_eq_true'->TV,not_true->an_,or_eq_true->X8,true_and->Vb
open Classical renaming byContradiction->Tl
open ForInStep renaming yield->Y3
open Go renaming Addr->U3,BinOp->V_,Call->Xn,CallKind->Xe,Code->T7,Deferred->UX,Event->Uo,Field->Y1,Frame->T_,FrameMode->U7,Func->YC,FuncId->TO,Goroutine->SH,IntKind->TU,Item->WU,Loop->asI,LoopState->ab_,MapEntry->Wn,Oper->Tx,Operand->Tm,Program->SJ,ResultVar->UL,TypeInfo->Wm,Value->SP,World->Tq
open Go.Act renaming put->XZ
open Go.BinOp renaming eql->XH,neq->Wx
open Go.Call renaming operands->VO
open Go.CallKind renaming deferred->YQ,early->U4,normal->Y'
open Go.Deferred renaming ofValue->U2
open Go.Frame renaming catches->ZZ,round->W_
open Go.FrameMode renaming returning->Yr
open Go.GStep renaming after->T1
open Go.Instr renaming beginRound->XG,checkKey->U_,endLoop->ZS,endRound->W6,enterLoop->WY,findAsking->XF,findKey->VN,getLoop->WK,sameBits->WE,takeDeferred->Y9
open Go.IntKind renaming bits->atO,i64->SF,signed->atN,u16->S7,u32->al',u64->TB,wrap->Xc
open Go.LoopState renaming busy->asg
open Go.Next renaming value->W5
open Go.Op renaming equal->Xm,equalIn->Vx,operands->Tv
open Go.Operand renaming tmp->atL
open Go.Proofs.Tryz renaming f77->XK,f97->atI,prog->SC
open Go.Region renaming binds->Yq,linearise->Ze,schedule->VM,wanted->Tj
open Go.Region.linearise renaming go->UE
open Go.Result.ok renaming inj->aq_
open Go.Sem renaming runT->VF,runT_eq->TC
open Go.Value renaming agg->TE,bool->Xb,cells->aa_,chan->XN,int->SG,map->Zx,nilFunc->YW,slice->Up
open Go.stepG renaming exec->Ue
open Int renaming toNat_natCast->VA
open List renaming all_cons->ZV,all_eq_true->TA,any_cons->YV,any_eq_true->Uv,append_assoc->SD,append_nil->S0,cons_append->Vf,contains_eq_mem->Un,countP_le_length->Y7,drop_drop->af_,drop_eq_getElem_cons->TW,drop_eq_nil_of_le->TS,drop_length->X5,drop_zero->Xx,ext_getElem?->Yo,filter_congr->Vj,filter_cons_of_neg->YK,filter_cons_of_pos->YJ,find?_cons_of_pos->YT,foldl_cons->UR,forIn_cons->W2,getD_eq_getElem?_getD->SE,getElem?_append_left->SX,getElem?_append_right->Th,getElem?_cons_succ->UI,getElem?_eq_getElem->SQ,getElem?_eq_none->Ut,getElem?_eq_some_iff->SM,getElem?_map->To,getElem?_set_ne->T6,getElem?_set_self->W9,getElem?_take->Uc,getLastD_cons->Zv,length_append->SO,length_drop->Ul,length_map->Tp,length_set->TQ,length_singleton->TY,length_take->Ub,mapM_cons->T8,mapM_nil->UA,mapM_toArray->XX,map_congr_left->VB,map_cons->UP,map_drop->aj_,map_map->XW,map_take->VW,mem_append->SS,mem_append_left->Ti,mem_append_right->S6,mem_cons->SL,mem_cons_of_mem->Tb,mem_cons_self->TD,mem_eraseDups->Zb,mem_filter->Ud,mem_filterMap->VU,mem_flatMap->S5,mem_map->Td,mem_of_getElem?->Tf,mem_range->Tu,mem_range'->XV,mem_toArray->TJ,nil_append->UF,nodup_cons->VS,nodup_nil->WO,not_mem_nil->S4,range->SZ,range'->T5,range'_append_1->Za,range'_succ->VP,range_eq_range'->Vo,replicate->TM,replicate_succ->Ww,reverse_nil->XT,set_append_left->WB,set_append_right->UN,singleton_append->Y6,take_append_drop->Vg,take_of_length_le->SY,take_succ_cons->U8,take_zero->an'
open Nat renaming add_mul->Va,add_zero->UK,le_refl->SR,le_trans->UB,lt_of_le_of_lt->Zk,lt_of_lt_of_le->Te,lt_trans->Wp,lt_trichotomy->XC,min_eq_left->Wz,mod_lt->as',mul_le_mul_right->Uf,mul_one->Ya,or_lt_two_pow->WN,pow_le_pow_right->Wu,pow_lt_pow_right->Xa,reduceAdd->SW,sub_self->Vd,sub_zero->Z3,testBit_or->WM,testBit_two_pow->Vy,zero_add->Wt,zero_le->X_
open Option renaming bind_eq_some_iff->Tg,getD_some->S8,map_eq_some_iff->Ts,map_some->UM,some->SN
open Option.some renaming injEq->Tn
open Std.Legacy.Range renaming forIn_eq_forIn_range'->Wy,size->Xq
namespace Go.Gg
open Go.Conc
structure HR (k:AV->Prop):Type where
 n:Nat
structure HQ (X:Bool->Prop)(Z:Prop):Type where
 n:Nat
def QG (a:AV)(X:Bool->Prop)(Z:Prop)(_t:HQ X Z):Prop:=(∃b,a=.val (.bool b)/\X b)\/(a=.val undef/\Z)
theorem ao5(b:Bool)(X:Bool->Prop)(Z:Prop)(t:HQ X Z):QG (.val (.bool b)) X Z t=X b:=by
 unfold QG;refine propext ⟨λh=> ?_,λh=> .inl ⟨b,rfl,h⟩⟩;rcases h with⟨b',e,h⟩|⟨e,_⟩
 ·cases e;exact h
 ·cases e
theorem ao6(X:Bool->Prop)(Z:Prop)(t:HQ X Z):QG (.val undef) X Z t=Z:=by
 unfold QG;refine propext ⟨λh=> ?_,λh=> .inr ⟨rfl,h⟩⟩;rcases h with⟨b',e,_⟩|⟨_,h⟩
 ·cases e
 ·exact h
def NX (lv:Bool)(P:SJ)(f:AV)(H:List aa)(aG:List AV)(k:AV->Prop)(_t:HR k):Prop:=∃av,iQ lv P f H aG (λb H'=>b=av/\H'=H) (λ_ _=>False)/\k av
def adL (lv:Bool)(P:SJ)(f:AV)(name:String)(H:List aa)(aG:List AV)(k:AV->Prop)(_t:HR k):Prop:=∃av,D2 lv P f name H aG (λb H'=>b=av/\H'=H) (λ_ _=>False)/\k av
theorem ii{lv:Bool}{P:SJ}{f:AV}{H:List aa}{aG:List AV}{k:AV->Prop}{t:HR k}(av:AV)(h:iQ lv P f H aG (λb H'=>b=av/\H'=H) (λ_ _=>False))(hk:k av):NX lv P f H aG k t:=⟨av,h,hk⟩
section
variable (lv:Bool)(P:SJ)
def AQ (s:AS)(o:Tx)(k:AV->Prop):Prop:=match o.op with
 |.call c=>match c.callee with
  |.value x=>ao (s.ev x) λf=>ao (fg s c.args.toList) λaG=>NX lv P f s.H aG k ⟨0⟩
  |.invoke x name=>ao (s.ev x) λf=>ao (fg s c.args.toList) λaG=>adL lv P f name s.H aG k ⟨0⟩
  |.builtin .append=>match c.args.toList,c.argTypes.toList with
   |[x,y],[t,t']=>ao (jK P t t') λ(_,sz,_)=>ao (s.ev x) λa=>ao (s.ev y) λb=>a.vo λn l e=>e=.exact/\ao (s.src sz b) λ(m,l')=>l.length=n* sz/\l'.length=m* sz/\n+m<=2^30/\k (.sl (n+m) (l++l') .shut)
   |_,_=>False
  |_=>lB P s o k
 |_=>lB P s o k
def mZ (all:Array Tx):List Tx->AS->(AS->Prop)->Prop
 |[],s,K=>K s
 |o::rest,s,K=>match o.guard with
  |none=>AQ lv P s o λav=>mZ all rest (s.put o.dst av) K
  |some (j,b9)=>ao ((all[j]?).bind (·.dst)) λd=>ao (look s.T d) λa=>QG a (λb=>qB b b9 (AQ lv P ⟨(d,.val (.bool b9))::s.T,s.H⟩ o λav=>mZ all rest ((⟨(d,.val (.bool b9))::s.T,s.H⟩:AS).put o.dst av) K) (mZ all rest ((⟨(d,.val (.bool !b9))::s.T,s.H⟩:AS).put o.dst (.val undef)) K) ⟨0⟩) (mZ all rest (s.put o.dst (.val undef)) K) ⟨0⟩
end
section
variable {lv:Bool}{P:SJ}{r:Option Nat}{o:Tx}{s:AS}
theorem abP{a:Act}{E:Env}{V:View}{av:AV}{N:Act->View->Prop}{Q:Ex->Act->View->Prop}(h1:∀E' V' v,E.Le E'->V'.role=V.role->V'.deaf=V.deaf->Conc E' V' s.H->ap E' av v->N (a.put o.dst v) V'):
  (∀nx V',Nx lv P (gK E V (λb H'=>b=av/\H'=s.H) (λ_ _=>False)) nx V'->mE lv P r o a N Q nx V')/\(∀v V',gK E V (λb H'=>b=av/\H'=s.H) (λ_ _=>False) (.panic [{v,recovered:=false}]) V'->Q (.panic [{v,recovered:=false}]) a V'):=by
 have hv:∀v V',gK E V (λb H'=>b=av/\H'=s.H) (λ_ _=>False) (.ret v) V'->N (a.put o.dst v) V':=λv V' ⟨b,E',H',hle,ce,eZ,bk,bi,e1,e2⟩=>by
  subst e1 e2;exact h1 E' V' v hle ce eZ bi bk
 have hp:∀ch V',gK E V (λb H'=>b=av/\H'=s.H) (λ_ _=>False) (.panic ch) V'->Q (.panic ch) a V':=λch V' ⟨pv,v,E',H',eX,hle,ce,eZ,bk,bi,hk⟩=>hk.elim;refine⟨λnx V' hn=> ?_,λv V' h=>hp _ _ h⟩;cases nx with
 |value v=>exact hv _ _ hn
 |skip=>exact hv _ _ hn
 |enter f args=>
  refine Body.mono (R':=fun
   |.ret v,V'=>N (a.put o.dst v) V'
   |.panic ch,V'=>Q (.panic ch) a V') hn λot aS h=> ?_
  cases ot with
  |ret v=>exact hv _ _ h
  |panic ch=>exact hp _ _ h
 |round l f tmps aG b=>
  refine m9.mono (R':=fun
   |.ret v,V'=>N (a.put o.dst v) V'
   |.panic ch,V'=>Q (.panic ch) a V') hn λot aS h=> ?_
  cases ot with
  |ret v=>exact hv _ _ h
  |panic ch=>exact hp _ _ h
 |_=>exact hn.elim
theorem aoy{c:Xn}{x y:Tm}{t t' elem:TypeId}{sz n m:Nat}{z:SP}{l l':List AV}{av:AV}(ho:o.op=.call c)(aY:c.callee=.builtin .append)(cK:c.args=#[x,y]) (dR:c.argTypes=#[t,t']) (ht:jK P t t'=some (elem,sz,z))
  (hx:s.ev x=some (.sl n l .exact)) (hy:s.ev y=some av) (hs:s.src sz av=some (m,l')) (hl:l.length=n* sz) (eN:l'.length=m* sz) (hb:n+m<=2^30):dz lv P r o s (.sl (n+m) (l++l') .shut):=by
 intro E V a N Q hc aF bx hN;refine⟨bx,?_⟩;have du:=ap.ev aF hx;have iF:=ap.ev aF hy;generalize ki:a.eval x=vx at du;generalize rD:a.eval y=vy at iF;unfold execOp;rw[ho];dsimp only;unfold resolve;rw[aY];dsimp only;refine aA (aq ?_);unfold invoke builtin;dsimp only;refine aA ?_;have nC:c.args.map a.eval=#[vx,vy]:=by rw[cK];simp[ki,rD]
 rw[nC,dR];obtain⟨base,cap,rfl⟩:∃base cap,vx=.slice base n cap:=by
  cases du with
  |sl b o cap f dP he q1 q2=>exact⟨_,_,rfl⟩
  |nil he=>exact⟨_,_,rfl⟩
 have gM:cap=n:=by
  cases du with
  |sl b o cap f dP he q1 q2=>exact he
  |nil he=>rfl
 subst gM;have s_:(l++l').length=(cap+m)* sz:=by rw[SO,hl,eN,Va]
 by_cases hm:m=0
 ·subst hm;have sU:l'=[]:=by simpa using eN
  subst sU;refine G4 hc ht iF hs eN (SR _) ?_;refine aq (hN E V _ (Env.Le.refl E) rfl rfl hc ?_);rw[UK,S0];exact iP _ _ _ _ _ du
 ·refine G3 hc ht du iF hs hl eN hb (by omega) λrr cs cap' hf bk hle aV=> ?_;obtain⟨bi,rj⟩:=hc.ac4 (el:=elem) hf aV hle;have uy:(cap+m)* sz<=cs.size:=by rw[aV];exact Uf _ hle
  refine aP.ghost (yZ (f:=(0,0)) (cs:=cs) (el:=elem) (p:=(·<(cap+m)* sz)) (by simp[View.upd]) (λo _=>hf.2 o)) ?_;have pZ:=Dt (n:=s.H.length) (m:=s.H.length) (SR _) (by simp[Env.tok,hc.n]) rj hc.n;refine aq (hN _ _ _ pZ rfl rfl (bi.trim hc.az) (IE (I:=(V.laid rr cs elem (·<(cap+m)* sz)).ab) (e:=.shut) (sz:=sz) (cs:=cs) rfl (bk.mono pZ) s_ uy (λo h=>Gc (by simpa using h)) hle trivial))
theorem AQ.sound{k:AV->Prop}(h:AQ lv P s o k):∃av,dz lv P r o s av/\k av:=by
 unfold AQ at h;split at h
 ·rename_i c ho;split at h
  ·rename_i x aY;obtain⟨f,h1,hA⟩:=h.out;obtain⟨aG,h2,hB⟩:=hA.out;obtain⟨av,h3,h4⟩:=hB;refine⟨av,λE V a N Q hc aF bx hN=> ?_,h4⟩;have rB:=abP (lv:=lv) (P:=P) (r:=r) (o:=o) (Q:=Q) hN;refine⟨bx,?_⟩;unfold execOp;rw[ho];dsimp only;unfold resolve;rw[aY];dsimp only;have e:c.args.map a.eval=(c.args.toList.map a.eval).toArray:=(by apply VD;simp);rw[e];exact(h3 E V (a.eval x) _ hc (ap.ev aF h1) (yW aF h2)).mono (λnx V' h=>rB.1 nx V' h) (λv V' h=>rB.2 v V' h)
  ·rename_i x name aY;obtain⟨f,h1,hA⟩:=h.out;obtain⟨aG,h2,hB⟩:=hA.out;obtain⟨av,h3,h4⟩:=hB;refine⟨av,λE V a N Q hc aF bx hN=> ?_,h4⟩;have rB:=abP (lv:=lv) (P:=P) (r:=r) (o:=o) (Q:=Q) hN;refine⟨bx,?_⟩;unfold execOp;rw[ho];dsimp only;unfold resolve;rw[aY];dsimp only;refine aA (aq ?_);have e:c.args.map a.eval=(c.args.toList.map a.eval).toArray:=(by apply VD;simp);rw[e];exact(h3 E V (a.eval x) _ hc (ap.ev aF h1) (yW aF h2)).mono (λnx V' h=>rB.1 nx V' h) (λv V' h=>rB.2 v V' h)
  ·rename_i aY;split at h
   ·rename_i x y t t' ha ht;obtain⟨⟨elem,sz,z⟩,h1,hA⟩:=h.out;obtain⟨a,h2,hB⟩:=hA.out;obtain⟨b,h3,hC⟩:=hB.out;obtain⟨n,l,e,e1,e0,hD⟩:=Od hC;subst e1 e0;obtain⟨⟨m,l'⟩,h4,h5,h6,h7,h8⟩:=hD.out;exact⟨_,aoy ho aY (nc ha) (rW ht) h1 h2 h3 h4 h5 h6 h7,h8⟩
   ·exact h.elim
  ·exact h.sound
 ·exact h.sound
end
section
variable {lv:Bool}{P:SJ}{o:Tx}{T T':List (Nat×AV)}{H:List aa}{k:AV->Prop}
theorem BA:∀(l:List Tm),(∀x∈l,AS.ev ⟨T,H⟩ x=AS.ev ⟨T',H⟩ x)->fg ⟨T,H⟩ l=fg ⟨T',H⟩ l
 |[],_=>rfl
 |x::l,h=>by simp only[fg,h x (TD ..),BA l λy hy=>h y (Tb _ hy)]
theorem IZ:∀(l:List (Nat×Tm)),(∀x∈l,AS.ev ⟨T,H⟩ x.2=AS.ev ⟨T',H⟩ x.2)->j4 ⟨T,H⟩ l=j4 ⟨T',H⟩ l
 |[],_=>rfl
 |x::l,h=>by simp only[j4,h x (TD ..),IZ l λy hy=>h y (Tb _ hy)]
theorem mapM_congr:∀(l:List Tm),(∀x∈l,AS.ev ⟨T,H⟩ x=AS.ev ⟨T',H⟩ x)->l.mapM (AS.ev ⟨T,H⟩)=l.mapM (AS.ev ⟨T',H⟩)
 |[],_=>rfl
 |x::l,h=>by simp only[T8,h x (TD ..),mapM_congr l λy hy=>h y (Tb _ hy)]
theorem Il(x:Option Tm)(h:∀y,x=some y->AS.ev ⟨T,H⟩ y=AS.ev ⟨T',H⟩ y):AS.iS ⟨T,H⟩ x=AS.iS ⟨T',H⟩ x:=by
 cases x with
 |none=>rfl
 |some y=>simp only[AS.iS,h y rfl]
theorem adU{op:V_}{t:TypeId}{y:Tm}{a:AV}(h:AS.ev ⟨T,H⟩ y=AS.ev ⟨T',H⟩ y):iB P ⟨T,H⟩ op t y a k=iB P ⟨T',H⟩ op t y a k:=by
 unfold iB;split<;>first|rfl|rw[h]
theorem lB.congr(h:∀x∈o.op.operands,AS.ev ⟨T,H⟩ x=AS.ev ⟨T',H⟩ x)(ha:lB P ⟨T,H⟩ o k):lB P ⟨T',H⟩ o k:=by
 unfold lB at ha⊢;generalize o.op=op at h ha⊢;cases op with
 |call c=>
  have cK:∀x∈c.args,AS.ev ⟨T,H⟩ x=AS.ev ⟨T',H⟩ x:=λx hx=>h x (by simp[Tv,VO,hx]);dsimp only at ha⊢;split at ha
  ·obtain⟨x,h1,hA⟩:=ha.out;rw[h1,ao];obtain⟨t,h2,hB⟩:=hA.out;rw[h2,ao];rw[<- cK x (W4 h1)];obtain⟨a,h3,hC⟩:=hB.out;rw[h3,ao];exact hC
  ·split at ha
   ·rename_i x y JN;have:=nc JN;rw[this]at cK;rw[<- cK x (by simp),<- cK y (by simp)];exact ha
   ·exact ha.elim
  ·split at ha
   ·rename_i x y JN;have:=nc JN;rw[this]at cK;rw[<- cK x (by simp),<- cK y (by simp)];exact ha
   ·exact ha.elim
  ·exact ha.elim
 |build t parts=>
  dsimp only at ha⊢;rw[<- IZ parts.toList λx hx=>h x.2 (by simp only[Tv,TJ,Td];exact⟨x,hx,rfl⟩)];exact ha
 |buildSlice t n parts=>
  dsimp only at ha⊢;rw[<- IZ parts.toList λx hx=>h x.2 (by simp only[Tv,TJ,Td];exact⟨x,hx,rfl⟩)];exact ha
 |makeFunc f first cR=>
  dsimp only at ha⊢;rw[<- mapM_congr first.toList λx hx=>h x (by simp[Tv];exact .inl (by simpa using hx)),<- mapM_congr cR.toList λx hx=>h x (by simp[Tv];exact .inr (by simpa using hx))];exact ha
 |slice t x lo hi mx=>
  dsimp only at ha⊢;rw[<- h x (by simp[Tv]),<- Il lo λy hy=>h y (by simp[Tv,hy]),<- Il hi λy hy=>h y (by simp[Tv,hy]),<- Il mx λy hy=>h y (by simp[Tv,hy])];exact ha
 |pick c a b=>dsimp only at ha⊢;rw[<- h c (by simp[Tv]),<- h a (by simp[Tv]),<- h b (by simp[Tv])];exact ha
 |binOp op t a b u=>
  dsimp only at ha⊢;rw[<- h a (by simp[Tv])];obtain⟨x,h1,hA⟩:=ha.out;rw[h1,ao];rw[<- adU (h b (by simp[Tv]))];exact hA
 |indexAddr t a b=>dsimp only at ha⊢;rw[<- h a (by simp[Tv]),<- h b (by simp[Tv])];exact ha
 |index t a b=>dsimp only at ha⊢;rw[<- h a (by simp[Tv]),<- h b (by simp[Tv])];exact ha
 |move x=>dsimp only at ha⊢;rw[<- h x (by simp[Tv])];exact ha
 |assign x=>dsimp only at ha⊢;rw[<- h x (by simp[Tv])];exact ha
 |unOp op t x=>cases op<;>dsimp only at ha⊢<;>first|exact ha.elim|(rw[<- h x (by simp[Tv])];exact ha)
 |convert a b x=>dsimp only at ha⊢;rw[<- h x (by simp[Tv])];exact ha
 |lookup t m x ok=>dsimp only at ha⊢;rw[<- h m (by simp[Tv]),<- h x (by simp[Tv])];exact ha
 |extract x i=>dsimp only at ha⊢;rw[<- h x (by simp[Tv])];exact ha
 |nilCheck x=>dsimp only at ha⊢;rw[<- h x (by simp[Tv])];exact ha
 |makeInterface t x=>dsimp only at ha⊢;rw[<- h x (by simp[Tv])];exact ha
 |typeAssert x a b c=>dsimp only at ha⊢;rw[<- h x (by simp[Tv])];exact ha
 |fieldAddr t x f=>dsimp only at ha⊢;rw[<- h x (by simp[Tv])];exact ha
 |field t x f=>dsimp only at ha⊢;rw[<- h x (by simp[Tv])];exact ha
 |load t x=>dsimp only at ha⊢;rw[<- h x (by simp[Tv])];exact ha
 |entry x=>dsimp only at ha⊢;rw[<- h x (by simp[Tv])];exact ha
 |_=>exact ha.elim
theorem aqq(sz:Nat)(a:AV):AS.src ⟨T,H⟩ sz a=AS.src ⟨T',H⟩ sz a:=by cases a<;>rfl
theorem AQ.congr(h:∀x∈o.op.operands,AS.ev ⟨T,H⟩ x=AS.ev ⟨T',H⟩ x)(ha:AQ lv P ⟨T,H⟩ o k):AQ lv P ⟨T',H⟩ o k:=by
 unfold AQ at ha⊢;split at ha
 ·rename_i c ho;have cK:∀x∈c.args.toList,AS.ev ⟨T,H⟩ x=AS.ev ⟨T',H⟩ x:=λx hx=>h x (by rw[ho];simp[Tv,VO];exact .inr (by simpa using hx));split at ha
  ·rename_i x aY;rw[<- h x (by rw[ho];simp[Tv,VO,aY]),<- BA _ cK];exact ha
  ·rename_i x name aY;rw[<- h x (by rw[ho];simp[Tv,VO,aY]),<- BA _ cK];exact ha
  ·split at ha
   ·rename_i x y t t' hx ht;rw[hx]at cK;rw[<- cK x (by simp),<- cK y (by simp)];simp only[aqq (T:=T) (T':=T')]at ha;exact ha
   ·exact ha.elim
  ·exact lB.congr h ha
 ·exact lB.congr h ha
end
def cX (ops:Array Tx)(j:Nat):Option Nat:=(ops[j]?).bind (·.dst)
inductive Reach (ops:Array Tx):Nat->Nat->Prop
 |IT {i j:Nat} {o:Tx} (ho:ops[i]?=some o) (hj:j∈cP o):Reach ops i j
 |more {i k j:Nat} {o:Tx} (ho:ops[i]?=some o) (hk:k∈cP o) (h:Reach ops k j):Reach ops i j
def tX (acc:List (List Nat))(o:Tx):List (List Nat):=acc++[(cP o++(cP o).flatMap λj=>acc.getD j []).eraseDups]
def Iu (ops:Array Tx):List (List Nat):=ops.toList.foldl tX []
theorem OY(ops:Array Tx):∀(l:List Tx)(acc:List (List Nat))(i:Nat),acc.length=i->(∀k o,l[k]?=some o->ops[i+k]?=some o)->(∀a,a<acc.length->∀j∈acc.getD a [],Reach ops a j)->
  ∀a,∀j∈(l.foldl tX acc).getD a [],Reach ops a j
 |[],acc,i,_,_,h,a,j,hj=>by
  simp only[List.foldl_nil]at hj;by_cases ha:a<acc.length
  ·exact h a ha j hj
  ·rw[SE,Ut (by omega)]at hj;simp at hj
 |o::l,acc,i,hi,ho,h,a,j,hj=>by
  rw[UR]at hj;refine OY ops l (tX acc o) (i+1) (by simp[tX,hi]) (λk o' hk=>by have:=ho (k+1) o' (by simpa using hk);rwa [show i+(k+1)=i+1+k by omega]at this) (λa ha j hj=> ?_) a j hj;have FC:ops[i]?=some o:=by have:=ho 0 o rfl;simpa using this
  have rf:∀a,a<acc.length->(tX acc o).getD a []=acc.getD a []:=λa ha=>by
   simp[tX,SE,SX ha]
  by_cases f_:a<acc.length
  ·rw[rf a f_]at hj;exact h a f_ j hj
  ·have hae:a=acc.length:=(by simp[tX]at ha;omega);subst hae;have e:(tX acc o).getD acc.length []=(cP o++(cP o).flatMap λj=>acc.getD j []).eraseDups:=by
    simp[tX,SE]
   rw[e,Zb,SS]at hj;rw[hi];rcases hj with hj|hj
   ·exact .IT FC hj
   ·obtain⟨k,hk,hj⟩:=S5.1 hj;have Ci:k<acc.length:=by
     apply Tl;intro hn;rw[SE,Ut (by omega)]at hj;simp at hj
    exact .more FC hk (h k Ci j hj)
def yR (nt p:Nat)(ops:Array Tx):Bool:=
 let cl:=Iu ops;decide (p<=ops.size)&&
 (SZ ops.size).all (λi=>match ops[i]?with
  |some o=>o.dst.all (·<nt)&& !ml o.op&&(cP o).all (·<i)&&
   (if i<p then
    (SZ i).all (λj=>match o.dst,cX ops j with
     |some d,some d'=>d !=d'
     |_,_=>true)&&
    (o.op.operands.toList.all λx=>match x with
     |.tmp t=>(SZ p).all λj=>cX ops j !=some t||(cP o).contains j
     |_=>true)&&
    (match o.guard with
     |some (j,_)=>(cP o).contains j
     |none=>true)
   else(SZ i).all λj=>(cl.getD i []).contains j)
  |none=>true)
structure yx (nt p:Nat)(ops:Array Tx):Prop where
 le:p<=ops.size
 dst:∀(i:Nat) o d,ops[i]?=some o->o.dst=some d->d<nt
 vA:∀(i:Nat) o,ops[i]?=some o->ml o.op=false
 low:∀(i:Nat) o,ops[i]?=some o->∀j∈cP o,j<i
 dJ:∀(i j:Nat) o d,j<i->i<p->ops[i]?=some o->o.dst=some d->cX ops j≠some d
 Mo:∀(i:Nat) o t j,i<p->ops[i]?=some o-> .tmp t∈o.op.operands->j<p->cX ops j=some t->j∈cP o
 BL:∀(i:Nat) o j w,i<p->ops[i]?=some o->o.guard=some (j,w)->j∈cP o
 suf:∀(i j:Nat),p<=i->i<ops.size->j<i->Reach ops i j
theorem yR.out{nt p:Nat}{ops:Array Tx}(h:yR nt p ops=true):yx nt p ops:=by
 unfold yR at h;simp only[Tc,decide_eq_true_eq]at h;obtain⟨hle,h⟩:=h;have key:∀(i:Nat) o,ops[i]?=some o->(o.dst.all (·<nt)=true/\ml o.op=false/\(∀j∈cP o,j<i))/\
   (if i<p then
    (SZ i).all (λj=>match o.dst,cX ops j with
     |some d,some d'=>d !=d'
     |_,_=>true)&&
    (o.op.operands.toList.all λx=>match x with
     |.tmp t=>(SZ p).all λj=>cX ops j !=some t||(cP o).contains j
     |_=>true)&&
    (match o.guard with
     |some (j,_)=>(cP o).contains j
     |none=>true)
   else(SZ i).all λj=>((Iu ops).getD i []).contains j)=true:=λi o ho=>by
  have hi:i<ops.size:=(SU.1 ho).1;have:=TA.1 h i (by simpa using hi);rw[ho]at this;simp only[Tc,TA,TV,decide_eq_true_eq]at this;exact⟨⟨this.1.1.1,this.1.1.2,this.1.2⟩,by simpa only[Tc,TA]using this.2⟩
 refine⟨hle,λi o d ho hd=> ?_,λi o ho=>(key i o ho).1.2.1,λi o ho=>(key i o ho).1.2.2,λi j o d hj hp ho hd e=> ?_,λi o t j hp ho ht hj e=> ?_,λi o j w hp ho hg=> ?_,λi j hp hi hj=> ?_⟩
 ·have:=(key i o ho).1.1;rw[hd]at this;simpa using this
 ·have:=(key i o ho).2;rw[if_pos hp]at this;simp only[Tc,TA]at this;have:=this.1.1 j (by simpa using hj);rw[hd,e]at this;simp at this
 ·have:=(key i o ho).2;rw[if_pos hp]at this;simp only[Tc,TA]at this;have:=this.1.2 (.tmp t) (by simpa using ht);simp only[TA]at this;have:=this j (by simpa using hj);rw[e]at this;simpa using this
 ·have:=(key i o ho).2;rw[if_pos hp]at this;simp only[Tc]at this;have:=this.2;rw[hg]at this;simpa using this
 ·have:=(key i ops[i] (SK hi)).2;rw[if_neg (by omega)]at this;simp only[TA]at this;have:=this j (by simpa using hj);refine OY ops ops.toList [] 0 rfl (λk o hk=>by simpa using hk) (by simp) i j ?_;simpa[Iu]using this
theorem P3{α β:Type}{f g:α->Option β}:∀{l:List α},(∀x∈l,f x=g x)->l.filterMap f=l.filterMap g
 |[],_=>rfl
 |x::l,h=>by
  have ih:=P3 (l:=l) λy hy=>h y (Tb _ hy);simp only[List.filterMap_cons,h x (TD ..),ih]
def kW (ops:Array Tx)(f:Nat->AV)(o:Tx):List (Nat×AV):=(cP o).filterMap λj=>(cX ops j).map λd=>(d,f j)
def va (lv:Bool)(P:SJ)(r:Option Nat)(ops:Array Tx)(T0:List (Nat×AV))(H:List aa)(f:Nat->AV)(i:Nat)(o:Tx):Prop:=
 match o.guard with
 |none=>dz lv P r o ⟨kW ops f o++T0,H⟩ (f i)
 |some (j,b9)=>∃d,cX ops j=some d/\((∃b,look (kW ops f o++T0) d=some (.val (.bool b))/\(b=b9->dz lv P r o ⟨kW ops f o++T0,H⟩ (f i))/\(b= !b9->f i=.val undef))\/(look (kW ops f o++T0) d=some (.val undef)/\f i=.val undef))
theorem z8(l m:List (Nat×AV))(t:Nat):look (l++m) t=(look l t).or (look m t):=by
 induction l with
 |nil=>rfl
 |cons x l ih=>
  obtain⟨k,a⟩:=x;simp only[Vf,look];split
  ·rfl
  ·exact ih
theorem rJ{l:List (Nat×AV)}{t:Nat}{a:AV}(h:look l t=some a):(t,a)∈l:=by
 induction l with
 |nil=>cases h
 |cons x l ih=>
  obtain⟨k,b⟩:=x;simp only[look]at h;split at h
  ·rename_i e;subst e;cases h;exact TD ..
  ·exact Tb _ (ih h)
theorem aaL{l:List (Nat×AV)}{t:Nat}(h:∀p∈l,p.1≠t):look l t=none:=by
 induction l with
 |nil=>rfl
 |cons x l ih=>
  obtain⟨k,b⟩:=x;simp only[look];rw[if_neg (h _ (TD ..))];exact ih λp hp=>h p (Tb _ hp)
theorem amP{l:List (Nat×AV)}{q:Nat->Bool}{t:Nat}:look (l.filter λp=>q p.1) t=if q t then look l t else none:=by
 induction l with
 |nil=>simp[look]
 |cons x l ih=>
  obtain⟨k,b⟩:=x;by_cases hk:q k=true
  ·rw[YJ (by simpa using hk)];simp only[look];by_cases e:k=t
   ·subst e;simp[hk]
   ·simp[e,ih]
  ·rw[YK (by simpa using hk),ih];simp only[look];by_cases e:k=t
   ·subst e;simp[hk]
   ·simp[e]
section
variable {ops:Array Tx}{f:Nat->AV}{p:Nat}
theorem amN{o:Tx}{j t:Nat}(hj:j∈cP o)(ht:cX ops j=some t)(xJ:∀j'∈cP o,cX ops j'=some t->j'=j):look (kW ops f o) t=some (f j):=by
 cases e:look (kW ops f o) t with
 |none=>
  exfalso;have hm:(t,f j)∈kW ops f o:=VU.2 ⟨j,hj,by rw[ht];rfl⟩;have:∀(l:List (Nat×AV)),(t,f j)∈l->look l t≠none:=by
   intro l;induction l with
   |nil=>intro h;cases h
   |cons x l ih=>
    intro h;obtain⟨k,b⟩:=x;simp only[look];split
    ·simp
    ·rename_i aE;rcases SL.1 h with h|h
     ·cases h;exact absurd rfl aE
     ·exact ih h
  exact this _ hm e
 |some a=>
  obtain⟨j',im,e'⟩:=VU.1 (rJ e);obtain⟨d,hd,e'⟩:=Ts.1 e';cases e';rw[xJ j' im hd]
theorem amO{o:Tx}{t:Nat}(h:∀j∈cP o,cX ops j≠some t):look (kW ops f o) t=none:=by
 refine aaL λx hx e=> ?_;obtain⟨j,hj,e'⟩:=VU.1 hx;obtain⟨d,hd,e'⟩:=Ts.1 e';cases e';exact h j hj (by rw[hd];exact congrArg some e)
end
section
variable {lv:Bool}{P:SJ}{r:Option Nat}{s:AS}{ops:Array Tx}{nt p:Nat}
def tU (s:AS)(ops:Array Tx)(p:Nat):List (Nat×AV):=s.T.filter λx=>(SZ p).all λj=>cX ops j !=some x.1
theorem Gl(t:Nat):look (tU s ops p) t=if(SZ p).all (λj=>cX ops j !=some t)then look s.T t else none:=amP (q:=λt=>(SZ p).all λj=>cX ops j !=some t)
structure oG (s:AS)(ops:Array Tx)(fs:List AV)(s':AS):Prop where
 H:s'.H=s.H
 new:∀j t,j<fs.length->cX ops j=some t->look s'.T t=fs[j]?
 old:∀t,(∀j,j<fs.length->cX ops j≠some t)->look s'.T t=look s.T t
theorem oG.put(az:yx nt p ops){fs:List AV}{s':AS}(h:oG s ops fs s')(hp:fs.length<p){o:Tx}(ho:ops[fs.length]?=some o)(av:AV):oG s ops (fs++[av]) (s'.put o.dst av):=by
 have hd:cX ops fs.length=o.dst:=by simp[cX,ho]
 refine⟨by rw[fl];exact h.H,λj t hj ht=> ?_,λt ht=> ?_⟩
 ·simp only[SO,TY]at hj;by_cases Kr:j=fs.length
  ·subst Kr;rw[hd]at ht;rw[ht];simp[AS.put,look]
  ·have im:j<fs.length:=(by omega);rw[SX im,<- h.new j t im ht];cases sO:o.dst with
   |none=>rfl
   |some d=>
    have aE:d≠t:=λe=>az.dJ fs.length j o d im hp ho sO (by rw[e];exact ht);simp[AS.put,look,aE]
 ·have hold:=h.old t λj hj=>ht j (by simp;omega);rw[<- hold];cases sO:o.dst with
  |none=>rfl
  |some d=>
   have aE:d≠t:=λe=>ht fs.length (by simp) (by rw[hd,sO,e]);simp[AS.put,look,aE]
theorem oG.rI{fs:List AV}{s':AS}(h:oG s ops fs s'){d:Nat}{a:AV}(hd:look s'.T d=some a):oG s ops fs ⟨(d,a)::s'.T,s'.H⟩:=by
 have e:∀t,look ((d,a)::s'.T) t=look s'.T t:=λt=>by
  simp only[look];split
  ·rename_i e;subst e;exact hd.symm
  ·rfl
 exact⟨h.H,λj t hj ht=>by rw[e];exact h.new j t hj ht,λt ht=>by rw[e];exact h.old t ht⟩
theorem oG.seen(az:yx nt p ops){fs gs:List AV}{s':AS}(h:oG s ops fs s')(hp:fs.length<p){o:Tx}(ho:ops[fs.length]?=some o){t:Nat}(ht:∀j,j<p->cX ops j=some t->j∈cP o):
  look (kW ops (λj=>(fs++gs).getD j (.val undef)) o++tU s ops p) t=look s'.T t:=by
 have gZ:=az.low fs.length o ho;have alt:∀j j',j<p->j'<p->cX ops j=some t->cX ops j'=some t->j'=j:=λj j' hj im e e'=>by
  have get:∀i,i<p->∃o,ops[i]?=some o:=λi hi=>⟨_,SK (Te hi az.le)⟩;rcases XC j j' with hlt|hlt|hlt
  ·obtain⟨o',bc⟩:=get j' im;exact absurd e (az.dJ j' j o' t hlt im bc (by simpa[cX,bc]using e'))
  ·exact hlt.symm
  ·obtain⟨o',bc⟩:=get j hj;exact absurd e' (az.dJ j j' o' t hlt hj bc (by simpa[cX,bc]using e))
 rw[z8];by_cases hex:∃j,j<p/\cX ops j=some t
 ·obtain⟨j,hj,vY⟩:=hex;have jB:=ht j hj vY;have fi:=gZ j jB;rw[amN jB vY λj' im e=>alt j j' hj (Wp (gZ j' im) hp) vY e];rw[h.new j t fi vY];simp[SE,SX fi,SQ fi]
 ·have fO:∀j,j<p->cX ops j≠some t:=λj hj e=>hex ⟨j,hj,e⟩;rw[amO λj hj=>fO j (Wp (gZ j hj) hp),Option.none_or,Gl,if_pos (by simp only[TA];intro j hj;simpa using fO j (by simpa using hj))];exact(h.old t λj hj=>fO j (by omega)).symm
theorem GV(az:yx nt p ops){K:AS->Prop}:∀(n:Nat)(fs:List AV)(s':AS),fs.length+n=p->oG s ops fs s'->mZ lv P ops ((ops.toList.take p).drop fs.length) s' K->
  ∃gs,(fs++gs).length=p/\(∀i o,fs.length<=i->i<p->ops[i]?=some o->va lv P r ops (tU s ops p) s.H (λj=>(fs++gs).getD j (.val undef)) i o)/\∃di,oG s ops (fs++gs) di/\K di
 |0,fs,s',hn,hr,h=>by
  have:(ops.toList.take p).drop fs.length=[]:=by
   apply TS;simp;omega
  rw[this]at h;exact⟨[],by simp;omega,λi o h1 h2=>absurd h2 (by omega),s',by simpa using hr,h⟩
 |n+1,fs,s',hn,hr,h=>by
  have hp:fs.length<p:=by omega
  have aV:fs.length<ops.size:=Te hp az.le;have ho:ops[fs.length]?=some ops[fs.length]:=SK aV;generalize KL:ops[fs.length]=o at ho;have hd:(ops.toList.take p).drop fs.length=o::(ops.toList.take p).drop (fs.length+1):=by
   rw[TW (by simp;omega)];simp[KL]
  rw[hd]at h;have akJ:∀t,atL t∈o.op.operands->∀j,j<p->cX ops j=some t->j∈cP o:=λt ht j hj e=>az.Mo fs.length o t j hp ho ht hj e;have cu:∀(s1:AS)(gs:List AV),oG s ops fs s1->∀x∈o.op.operands,AS.ev s1 x=AS.ev ⟨kW ops (λj=>(fs++gs).getD j (.val undef)) o++tU s ops p,s.H⟩ x:=λs1 gs Cx x hx=>by
   cases x with
   |tmp t=>exact(Cx.seen az hp ho (akJ t hx)).symm
   |_=>rfl
  have go:∀(s1:AS),oG s ops fs s1->(AQ lv P s1 o λav=>mZ lv P ops ((ops.toList.take p).drop (fs.length+1)) (s1.put o.dst av) K)->
    ∃av gs,(fs++av::gs).length=p/\dz lv P r o ⟨kW ops (λj=>(fs++av::gs).getD j (.val undef)) o++tU s ops p,s.H⟩ av/\(∀i o,fs.length+1<=i->i<p->ops[i]?=some o->va lv P r ops (tU s ops p) s.H (λj=>(fs++av::gs).getD j (.val undef)) i o)/\∃di,oG s ops (fs++av::gs) di/\K di:=λs1 Cx h1=>by
   obtain⟨av0,_,_⟩:=h1.sound (r:=r);have dL:s1=⟨s1.T,s.H⟩:=(by rw[<- Cx.H]);rw[dL]at h1;have h2:=AQ.congr (T':=kW ops (λj=>(fs++[]).getD j (.val undef)) o++tU s ops p) (λx hx=>by rw[<- dL];exact cu s1 [] Cx x hx) h1;obtain⟨av,hq,h3⟩:=h2.sound (r:=r);obtain⟨gs,g1,g2,di,g3,g4⟩:=GV az n (fs++[av]) (s1.put o.dst av) (by simp;omega) (Cx.put az hp ho av) (by rw[<- dL]at h3;simpa using h3);have e:fs++[av]++gs=fs++av::gs:=(by simp);rw[e]at g1 g2 g3;refine⟨av,gs,g1,?_,λi o hi=>g2 i o (by simpa using hi),di,g3,g4⟩;have ed:kW ops (λj=>(fs++av::gs).getD j (.val undef)) o=kW ops (λj=>(fs++[]).getD j (.val undef)) o:=by
    unfold kW;apply P3;intro j hj;have fi:=az.low fs.length o ho j hj;simp[SE,SX fi]
   rw[ed];exact hq
  simp only[mZ]at h;split at h
  ·rename_i hg;obtain⟨av,gs,g1,g2,g3,g4⟩:=go s' hr h;refine⟨av::gs,g1,λi o' hi ou bc=> ?_,g4⟩;by_cases dw:i=fs.length
   ·subst dw;rw[ho]at bc;cases bc;unfold va;rw[hg];simpa[SE]using g2
   ·exact g3 i o' (by omega) ou bc
  ·rename_i j b9 hg;obtain⟨d,gf,hA⟩:=h.out;obtain⟨a,fj,hB⟩:=hA.out;have jB:=az.BL fs.length o j b9 hp ho hg;have fi:=az.low fs.length o ho j jB;have K1:∀gs,look (kW ops (λj=>(fs++gs).getD j (.val undef)) o++tU s ops p) d=some a:=λgs=>by
    rw[hr.seen az hp ho λj' im e=> ?_]
    ·exact fj
    ·have get:∀i,i<p->∃o,ops[i]?=some o:=λi hi=>⟨_,SK (Te hi az.le)⟩;rcases XC j j' with hlt|hlt|hlt
     ·obtain⟨o',bc⟩:=get j' im;exact absurd gf (az.dJ j' j o' d hlt im bc (by simpa[cX,bc]using e))
     ·rw[<- hlt];exact jB
     ·obtain⟨o',bc⟩:=get j (by omega);exact absurd e (az.dJ j j' o' d hlt (by omega) bc (by simpa[cX,bc]using gf))
   rcases hB with⟨b,e1,hC,hD⟩|⟨e1,hZ⟩
   rotate_left
   ·subst e1;obtain⟨gs,g1,g2,di,g3,g4⟩:=GV az n (fs++[.val undef]) _ (by simp;omega) (hr.put az hp ho (.val undef)) (by simpa using hZ);have e:fs++[.val undef]++gs=fs++ .val undef::gs:=(by simp);rw[e]at g1 g2 g3;refine⟨.val undef::gs,g1,λi o' hi ou bc=> ?_,di,g3,g4⟩;by_cases dw:i=fs.length
    ·subst dw;rw[ho]at bc;cases bc;unfold va;rw[hg];exact⟨d,gf,.inr ⟨K1 _,by simp[SE]⟩⟩
    ·exact g2 i o' (by simp;omega) ou bc
   subst e1;by_cases hb:b=b9
   ·subst hb;obtain⟨av,gs,g1,g2,g3,g4⟩:=go _ (hr.rI fj) (hC rfl);refine⟨av::gs,g1,λi o' hi ou bc=> ?_,g4⟩;by_cases dw:i=fs.length
    ·subst dw;rw[ho]at bc;cases bc;unfold va;rw[hg];refine⟨d,gf,.inl ⟨b,K1 _,λ_=>by simpa[SE]using g2,λe=>by cases b<;>cases e⟩⟩
    ·exact g3 i o' (by omega) ou bc
   ·have dB:b= !b9:=(by cases b<;>cases b9<;>simp_all);subst dB;have h3:=hD rfl;obtain⟨gs,g1,g2,di,g3,g4⟩:=GV az n (fs++[.val undef]) _ (by simp;omega) ((hr.rI fj).put az hp ho (.val undef)) (by simpa using h3);have e:fs++[.val undef]++gs=fs++ .val undef::gs:=(by simp);rw[e]at g1 g2 g3;refine⟨.val undef::gs,g1,λi o' hi ou bc=> ?_,di,g3,g4⟩;by_cases dw:i=fs.length
    ·subst dw;rw[ho]at bc;cases bc;unfold va;rw[hg];exact⟨d,gf,.inl ⟨!b9,K1 _,λe=>absurd e hb,λ_=>by simp[SE]⟩⟩
    ·exact g2 i o' (by simp;omega) ou bc
structure HL (E:Env)(V:View)(ops:Array Tx)(T0:List (Nat×AV))(H:List aa)(f:Nat->AV)(X:List Nat)(a:Act)(nt:Nat):Prop where
 bu:Conc E V H
 base:cj E T0 a.tmps
 done:∀i∈X,∀d,cX ops i=some d->ap E (f i) (a.tmps.getD d undef)
 size:a.tmps.size=nt
theorem An{X:List Nat}(hX:∀i∈X,∀o,ops[i]?=some o->∀j∈cP o,j∈X){i j:Nat}(h:Reach ops i j):((∀o,ops[i]?=some o->∀k∈cP o,k∈X))->j∈X:=by
 induction h with
 |IT ho hj=>intro hd;exact hd _ ho _ hj
 |more ho hk _ ih=>intro hd;exact ih (hX _ (hd _ ho _ hk))
theorem apR(az:yx nt p ops){X l:List Nat}(hs:lZ ops X l):∀q,p<=q->q<=ops.size->(∀i,i∈X<->i<q)->(∀i∈X,∀o,ops[i]?=some o->∀j∈cP o,j∈X)->l=T5 q (ops.size-q):=by
 induction hs with
 |nil X h=>
  intro q hp hq hX _;have:ops.size<=q:=by
   apply Tl;intro hn;have:=(hX q).1 (h q (by omega));omega
  have:ops.size-q=0:=by omega
  rw[this];rfl
 |cons o ho hn hd _ ih=>
  rename_i X i l _;intro q hp hq hX hc;have hi:i<ops.size:=(SU.1 ho).1;have hiq:q<=i:=by
   apply Tl;intro h;exact hn ((hX i).2 (by omega))
  have hqi:i=q:=by
   apply Tl;intro aE;have:=An hc (az.suf i q (by omega) hi (by omega)) (λo' bc k hk=>by rw[ho]at bc;cases bc;exact hd k hk);have:=(hX q).1 this;omega
  subst hqi;have e:ops.size-i=(ops.size-(i+1))+1:=by omega
  rw[e,VP];congr 1;refine ih (i+1) (by omega) (by omega) (λk=> ?_) (λk hk o' bc j hj=> ?_)
  ·simp only[SL,hX];omega
  ·rcases SL.1 hk with rfl|hk
   ·rw[ho]at bc;cases bc;exact Tb _ (hd j hj)
   ·exact Tb _ (hc k hk o' bc j hj)
theorem agN{T0:List (Nat×AV)}{H:List aa}{f:Nat->AV}(az:yx nt p ops)(ajA:∀j,j<p->∀d,cX ops j=some d->look T0 d=none)(au:∀(i:Nat) o,i<p->ops[i]?=some o->va lv P r ops T0 H f i o){X l:List Nat}(hs:lZ ops X l):
  (∀i∈X,i<p)->(∀i∈X,∀o,ops[i]?=some o->∀j∈cP o,j∈X)->∀(E:Env)(V:View)(a:Act)(Q:Ex->Act->View->Prop),HL E V ops T0 H f X a nt->
   (∀E' V' a' X',Kept E E' V V' a a'->HL E' V' ops T0 H f X' a' nt->(∀i,i<p->i∈X')->dj lv P r ops Q (T5 p (ops.size-p)) a' V')->dj lv P r ops Q l a V:=by
 have full:∀X:List Nat,(∀i∈X,i<p)->(∀i,i<p->i∈X)->∀i,i∈X<->i<p:=λX h1 h2 i=>⟨h1 i,h2 i⟩;induction hs with
 |nil X h=>
  intro hX hc E V a Q ah hQ;have eG:p=ops.size:=by
   apply Tl;intro aE;have:=hX p (h p (by have:=az.le;omega));omega
  have:=hQ E V a X (Kept.refl E V a) ah (λi hi=>h i (by omega));rw[eG,Vd]at this;exact this
 |cons o ho hn hd lL ih=>
  rename_i X i l;intro hX hc E V a Q ah hQ;have hi:i<ops.size:=(SU.1 ho).1;by_cases ou:i<p
  ·simp only[dj,ho];have oe:∀k∈i::X,k<p:=λk hk=>(SL.1 hk).elim (λe=>by rw[e];exact ou) (hX k);have bi:∀k∈i::X,∀o',ops[k]?=some o'->∀j∈cP o',j∈i::X:=λk hk o' bc j hj=>by
    rcases SL.1 hk with rfl|hk
    ·rw[ho]at bc;cases bc;exact Tb _ (hd j hj)
    ·exact Tb _ (hc k hk o' bc j hj)
   have tok:cj E (kW ops f o++T0) a.tmps:=by
    intro t av e;rw[z8]at e;cases hl:look (kW ops f o) t with
    |none=>rw[hl]at e;exact ah.base t av e
    |some x=>
     rw[hl]at e;cases e;obtain⟨j,hj,e⟩:=VU.1 (rJ hl);obtain⟨d,cC,e⟩:=Ts.1 e;cases e;obtain⟨oj,kE,iW⟩:=Tg.1 cC;exact⟨by rw[ah.size];exact az.dst j oj _ kE iW,ah.done j (hd j hj) _ cC⟩
   have sO:cX ops i=o.dst:=(by simp[cX,ho]);have put:∀{E' V'}(v:SP),E.Le E'->Conc E' V' H->ap E' (f i) v->HL E' V' ops T0 H f (i::X) (a.put o.dst v) nt:=λ{E' V'} v hle cT hv=>by
    cases dn:o.dst with
    |none=>
     refine⟨cT,ah.base.mono hle,λk hk d ez=> ?_,ah.size⟩;rcases SL.1 hk with rfl|hk
     ·rw[sO,dn]at ez;cases ez
     ·exact(ah.done k hk d ez).mono hle
    |some d0=>
     have hlt:d0<a.tmps.size:=(by rw[ah.size];exact az.dst i o d0 ho dn);refine⟨cT,λt av e=> ?_,λk hk d ez=> ?_,by simp[XZ,ah.size]⟩
     ·have aE:d0≠t:=λe'=>(by rw[<- e',ajA i ou d0 (by rw[sO,dn])]at e;cases e);have:=ah.base.mono hle t av e;exact⟨by simpa[XZ]using this.1,by simpa[XZ,SI,SV aE]using this.2⟩
     ·by_cases ri:k=i
      ·subst ri;rw[sO,dn]at ez;cases ez;simpa[XZ,SI,S_ hlt]using hv
      ·have aI:k∈X:=(SL.1 hk).resolve_left ri;have aE:d0≠d:=λe'=>by
        subst e';have RD:=hX k aI;have get:∀i,i<p->∃o,ops[i]?=some o:=λi hi=>⟨_,SK (Te hi az.le)⟩;rcases XC k i with hlt|hlt|hlt
        ·exact az.dJ i k o d0 hlt ou ho dn ez
        ·exact ri hlt
        ·obtain⟨o',bc⟩:=get k RD;exact az.dJ k i o' d0 hlt RD bc (by simpa[cX,bc]using ez) (by rw[sO,dn])
       have:=(ah.done k aI d ez).mono hle;simpa[XZ,SI,SV aE]using this
   have go:dz lv P r o ⟨kW ops f o++T0,H⟩ (f i)->wN lv P r o a V (dj lv P r ops Q l) Q:=λhq=>
    hq E V a _ Q ah.bu tok (.inr (az.vA i o ho)) λE' V' v hle ce eZ cT hv=>
     ih oe bi E' V' (a.put o.dst v) Q (put v hle cT hv) λbQ aS cm mF hk de fD=>
      hQ bQ aS cm mF ⟨hle.trans hk.le,hk.size.trans (d_ _ _ _),hk.defers.trans (put_defers _ _ _),hk.role.trans ce,hk.deaf.trans eZ⟩ de fD
   have zq:=au i o ou ho;unfold va at zq;split at zq
   ·rename_i Ce;have hw:Tj o (yielded ops a.tmps)=true:=(by unfold Tj;rw[Ce]);rw[if_pos hw];exact .inl (go zq)
   ·rename_i j b9 Ce;obtain⟨d,gf,zq⟩:=zq;rcases zq with⟨b,bS,h1,h2⟩|⟨bS,hu⟩
    rotate_left
    ·obtain⟨hlt,hv⟩:=tok d _ bS;have hy:yielded ops a.tmps j≠some b9:=by
      obtain⟨oj,kE,iW⟩:=Tg.1 gf;generalize hx:a.tmps.getD d undef=x at hv;cases hv;rw[SI,SK hlt]at hx;simp only[S8]at hx;simp[yielded,kE,iW,SK hlt,hx,undef]
     have hw:¬Tj o (yielded ops a.tmps)=true:=by
      unfold Tj;rw[Ce];intro h;exact hy (by simpa using h)
     rw[if_neg hw];exact ih oe bi E V (a.put o.dst undef) Q (put undef (Env.Le.refl E) ah.bu (by rw[hu];exact .val _)) λbQ aS cm mF hk de fD=>
      hQ bQ aS cm mF ⟨hk.le,hk.size.trans (d_ _ _ _),hk.defers.trans (put_defers _ _ _),hk.role,hk.deaf⟩ de fD
    obtain⟨hlt,hv⟩:=tok d _ bS;have hy:yielded ops a.tmps j=some b:=by
     obtain⟨oj,kE,iW⟩:=Tg.1 gf;generalize hx:a.tmps.getD d undef=x at hv;cases hv;rw[SI,SK hlt]at hx;simp only[S8]at hx;simp[yielded,kE,iW,SK hlt,hx]
    by_cases hb:b=b9
    ·have hw:Tj o (yielded ops a.tmps)=true:=(by unfold Tj;rw[Ce];simp[hy,hb]);rw[if_pos hw];exact .inl (go (h1 hb))
    ·have hw:¬Tj o (yielded ops a.tmps)=true:=(by unfold Tj;rw[Ce];simp[hy,hb]);rw[if_neg hw];have hu:=h2 (by cases b<;>cases b9<;>simp_all);exact ih oe bi E V (a.put o.dst undef) Q (put undef (Env.Le.refl E) ah.bu (by rw[hu];exact .val _)) λbQ aS cm mF hk de fD=>
      hQ bQ aS cm mF ⟨hk.le,hk.size.trans (d_ _ _ _),hk.defers.trans (put_defers _ _ _),hk.role,hk.deaf⟩ de fD
  ·have fD:∀k,k<p->k∈X:=λk hk=>An hc (az.suf i k (by omega) hi (by omega)) (λo' bc j hj=>by rw[ho]at bc;cases bc;exact hd j hj);have hl:=apR az (.cons o ho hn hd lL) p (SR _) az.le (full X hX fD) hc;rw[hl];exact hQ E V a X (Kept.refl E V a) ah fD
theorem afh{id:Nat}{Φ:an->AS->Prop}(hm:P.follows .mixedOrders=true)(p:Nat)(az:yR nt p ops=true)(h:mZ lv P ops (ops.toList.take p) s (λs'=>ij lv P ops (ops.toList.drop p) s' (Φ .normal) (λpv s=>Φ (.panic pv) s))):aW lv P r nt (.region id ops true) s Φ:=by
 intro E V a Q ah hQ;have az:=yR.out az;obtain⟨gs,g1,g2,di,g3,g4⟩:=GV (lv:=lv) (r:=r) az p [] s (by simp) ⟨rfl,by simp,by simp⟩ (by simpa using h);simp only[UF]at g1 g2 g3;refine NF λt=> ?_;rw[show VM (P.follows .mixedOrders) ops t=UE .any ops ops.size t (TK ops.size false) [] by unfold VM;rw[hm];simp[Ze]];have hs:=aaG (ops:=ops) (λi o ho j hj=>az.low i o ho j hj) ops.size t (TK ops.size false) [] ⟨by simp,λi hi=>by simp[hi]⟩ (UB Y7 (by simp));refine agN (T0:=tU s ops p) (H:=s.H) az (λj hj d hd=> ?_) (λi o hi ho=>g2 i o (by simp) hi ho) hs (by simp) (by simp) E V a Q ⟨ah.bu,λt av e=> ?_,by simp,ah.size⟩ λE' V' a' X' hk aR fD=> ?_
 ·rw[Gl,if_neg];simp only[TA];intro h;have:=h j (by simpa using hj);rw[hd]at this;simp at this
 ·rw[Gl]at e;split at e
  ·exact ah.tok t av e
  ·cases e
 ·refine Af (Φ:=Φ) (λo ho d e=> ?_) (λo ho=> .inr ?_) (ops.size-p) p di (by have:=az.le;omega) g4 E' V' a' Q ⟨by rw[g3.H];exact aR.bu,λt av e=> ?_,aR.size⟩ (λae e bQ aS cm s3 aI pO he hΦ=>hQ ae e bQ aS cm s3 (hk.trans aI) pO he hΦ)
  ·obtain⟨i,hi⟩:=YF.1 ho;exact az.dst i o d hi e
  ·obtain⟨i,hi⟩:=YF.1 ho;exact az.vA i o hi
  ·by_cases hex:∃j,j<p/\cX ops j=some t
   ·obtain⟨j,hj,vY⟩:=hex;rw[g3.new j t (by omega) vY]at e;obtain⟨oj,kE,iW⟩:=Tg.1 vY;refine⟨by rw[aR.size];exact az.dst j oj t kE iW,?_⟩;have:=aR.done j (fD j hj) t vY;simpa[SE,e]using this
   ·have fO:∀j,j<p->cX ops j≠some t:=λj hj e=>hex ⟨j,hj,e⟩;rw[g3.old t λj hj=>fO j (by omega)]at e;refine aR.base t av ?_;rw[Gl,if_pos (by simp only[TA];intro j hj;simpa using fO j (by simpa using hj))];exact e
end
def sg (T base Vn:List (Nat×AV)):Prop:=T.drop (T.length-base.length)=base/\((T.take (T.length-base.length)).all λp=>(Vn.any λq=>q.1==p.1)|| !(base.any λq=>q.1==p.1))=true
theorem aeJ{l:List (Nat×AV)}{t:Nat}{a:AV}(h:look l t=some a):(l.any λq=>q.1==t)=true:=Uv.2 ⟨_,rJ h,by simp⟩
theorem aaK{l:List (Nat×AV)}{t:Nat}(h:(l.any λq=>q.1==t)=true):∃a,look l t=some a:=by
 induction l with
 |nil=>cases h
 |cons x l ih=>
  obtain⟨k,b⟩:=x;simp only[look];split
  ·exact⟨b,rfl⟩
  ·rename_i aE;refine ih ?_;simpa[YV,aE]using h
theorem sg.look{T base Vn:List (Nat×AV)}(h:sg T base Vn){t:Nat}{a:AV}(hb:look base t=some a)(hv:look Vn t=none):look T t=some a:=by
 obtain⟨h1,h2⟩:=h;have e:T=T.take (T.length-base.length)++base:=by
  have:=(Vg (T.length-base.length) T).symm;rwa [h1]at this
 rw[e,z8];cases hl:Gg.look (T.take (T.length-base.length)) t with
 |none=>exact hb
 |some x=>
  exfalso;have:=TA.1 h2 _ (rJ hl);simp only[X8,TV]at this;rcases this with this|this
  ·obtain⟨y,hy⟩:=aaK this;rw[hv]at hy;cases hy
  ·rw[aeJ hb]at this;cases this
def tR (base Vi Vn:List (Nat×AV))(Hn:List aa)(s':AS):Prop:=
 sg s'.T (Vi++base) Vn/\(∀p∈Vn,∃b,look s'.T p.1=some b/\Wk b p.2)/\∃G,s'.H=Hn++G/\(G=[]\/(bP Hn/\∀p∈Vn,Lt Hn.length p.2))
section
variable {lv:Bool}{P:SJ}{r:Option Nat}{s:AS}
theorem yH{nt:Nat}{α:Type}{lt:α->α->Prop}(wf:WellFounded lt){c:T7}{Φ:an->AS->Prop}(V:α->List (Nat×AV))(Hf:α->List aa)(ok:α->Prop)(m0:α)
  (Ch:∀m m',(V m).map (·.1)=(V m').map (·.1)) (iD:∀p∈V m0,∃b,look s.T p.1=some b/\Wk b p.2) (BT:Hf m0=s.H) (hl:∀m,ok m->(Hf m).length=s.H.length) (hm:ok m0)
  (h:bP s.H->(∀t a,look s.T t=some a->Lt s.H.length a)->∀m,ok m->∀R:AS->Prop,(∀s',(∃m',lt m' m/\ok m'/\tR s.T (V m) (V m') (Hf m') s')->R s')->aW lv P r nt c ⟨V m++s.T,Hf m⟩ (an.then R Φ)):aW lv P r nt (.loop c) s Φ:=by
 have same:∀m m' t,look (V m) t=none->look (V m') t=none:=λm m' t h=>aaL λp hp e=>by
  have h1:p.1∈(V m').map (·.1):=Td.2 ⟨p,hp,rfl⟩;rw[Ch m' m]at h1;obtain⟨q,hq,e'⟩:=Td.1 h1;have h2:((V m).any λx=>x.1==t)=true:=Uv.2 ⟨q,hq,by simp[e',e]⟩;obtain⟨a,ha⟩:=aaK h2;rw[h]at ha;cases ha
 intro E V0 a Q ah hQ;have hlt:∀t a,look s.T t=some a->Lt s.H.length a:=λt x e=>by rw[<- ah.bu.n];exact(ah.tok t x e).2.lt
 have h0:s.Sub ⟨V m0++s.T,Hf m0⟩:=⟨λt x e=>by
  rw[z8]at e;cases hl:look (V m0) t with
  |none=>rw[hl]at e;exact⟨x,e,Wk.refl x⟩
  |some y=>rw[hl]at e;cases e;exact iD (t,x) (rJ hl),BT.symm⟩
 refine afj wf (s:=s) (λm=>⟨V m++s.T,Hf m⟩) ok m0 h0 hm (λm az=>by rw[hl m az];exact SR _) (λm az=> ?_) E V0 a Q ah hQ;refine(h ah.bu.az hlt m az _ λ_ h=>h).mono λe s' hΦ=> ?_;cases e with
 |normal=>
  obtain⟨m',q1,q2,hk,hv,G,hG,vU⟩:=hΦ;have tok:∀t x,look (V m'++s.T) t=some x->∃b,look s'.T t=some b/\Wk b x/\(look (V m') t=some x\/look s.T t=some x):=λt x e=>by
   rw[z8]at e;cases hl:look (V m') t with
   |none=>
    rw[hl]at e;have hb:look (V m++s.T) t=some x:=(by rw[z8,same m' m t hl];exact e);exact⟨x,hk.look hb hl,Wk.refl x,.inr e⟩
   |some y=>
    rw[hl]at e;cases e;obtain⟨b,h1,h2⟩:=hv (t,x) (rJ hl);exact⟨b,h1,h2,.inl rfl⟩
  refine⟨m',q1,q2,?_⟩;rcases vU with rfl|⟨o1,akq⟩
  ·exact .inl ⟨λt x e=>by obtain⟨b,h1,h2,_⟩:=tok t x e;exact⟨b,h1,h2⟩,by rw[hG,S0]⟩
  ·refine .inr ⟨λt x e=> ?_,⟨G,hG⟩,o1⟩;obtain⟨b,h1,h2,h3⟩:=tok t x e;refine⟨b,h1,h2,?_⟩;rcases h3 with h3|h3
   ·exact akq (t,x) (rJ h3)
   ·show Lt (Hf m').length x;rw[hl m' q2];exact hlt t x h3
 |_=>exact hΦ
theorem gL{nt:Nat}{c:T7}{Φ:an->AS->Prop}(n:Nat)(V:Nat->List (Nat×AV))(Hf:Nat->List aa)(ok:Nat->Prop)
  (Ch:∀m m',(V m).map (·.1)=(V m').map (·.1)) (iD:∀p∈V 0,∃b,look s.T p.1=some b/\Wk b p.2) (BT:Hf 0=s.H) (hl:∀m,m<=n->ok m->(Hf m).length=s.H.length) (hm:ok 0)
  (h:bP s.H->(∀t a,look s.T t=some a->Lt s.H.length a)->∀m,m<=n->ok m->∀R:AS->Prop,(∀s',(m<n/\ok (m+1)/\tR s.T (V m) (V (m+1)) (Hf (m+1)) s')->R s')->aW lv P r nt c ⟨V m++s.T,Hf m⟩ (an.then R Φ)):aW lv P r nt (.loop c) s Φ:=by
 refine yH (measure λi=>n-i).wf V Hf (λi=>i<=n/\ok i) 0 Ch iD BT (λm h=>hl m h.1 h.2) ⟨X_ _,hm⟩ (λh1 h2 m az R hR=> ?_);exact h h1 h2 m az.1 az.2 R λs' ⟨q1,q2,q3⟩=>hR s' ⟨m+1,(by show n-(m+1)<n-m;omega),⟨q1,q2⟩,q3⟩
end
theorem pf{T base Vn:List (Nat×AV)}(h1:T.drop (T.length-base.length)=base)(h2:((T.take (T.length-base.length)).all λp=>(Vn.any λq=>q.1==p.1)|| !(base.any λq=>q.1==p.1))=true):sg T base Vn:=⟨h1,h2⟩
theorem lE{H L:List aa}{x:SP}{k:AV->List aa->Prop}(hH:bP H)(h:k (.val x) H):cw H.length (H++L) (.val x) k:=jR (Wk.refl _) rfl (SR _) hH (.val x) h
theorem jr{H L:List aa}{a b:AV}{k:AV->List aa->Prop}(hH:bP H)(hw:Wk a b)(hl:Lt H.length b)(h:k b H):cw H.length (H++L) a k:=jR hw rfl (SR _) hH hl h
def aa.cellsOf:aa->Option (List AV)
 |.cells l _|.part _ l _|.own _ l _=>some l
 |_=>none
theorem agf(l:List AV)(e:TypeId):aa.cellsOf (.cells l e)=some l:=rfl
theorem agi(p:Nat)(l:List AV)(e:TypeId):aa.cellsOf (.part p l e)=some l:=rfl
def aa.rowOf:aa->Option (List AV)
 |.cells l _|.part _ l _|.own _ l _=>some l
 |_=>none
theorem apu(l:List AV)(e:TypeId):aa.rowOf (.cells l e)=some l:=rfl
theorem agh(p:Nat)(l:List AV)(e:TypeId):aa.cellsOf (.own p l e)=some l:=rfl
theorem apv(p:Nat)(l:List AV)(e:TypeId):aa.rowOf (.own p l e)=some l:=rfl
theorem apw(p:Nat)(l:List AV)(e:TypeId):aa.rowOf (.part p l e)=some l:=rfl
theorem afe(T:List (Nat×AV))(H:List aa)(i off:Nat):AS.at ⟨T,H⟩ (.op i off)=((H[i]?).bind aa.cellsOf).map λl=>l.drop off:=by
 simp only[AS.at];cases H[i]?with
 |none=>rfl
 |some x=>cases x<;>rfl
theorem an7(k:TU)(n:Int):AV.parts (.val (.int k n))=some [.val (.int k n)]:=rfl
theorem an3(b:Bool):AV.parts (.val (.bool b))=some [.val (.bool b)]:=rfl
theorem aoh(b:ByteArray):AV.parts (.val (.string b))=some [.val (.string b)]:=rfl
theorem aoe(b:Option U3):AV.parts (.val (.pointer b))=some [.val (.pointer b)]:=rfl
theorem aoa:AV.parts (.val .nilFunc)=some [.val .nilFunc]:=rfl
theorem aob:AV.parts (.val .nilIface)=some [.val .nilIface]:=rfl
theorem an8(r:Option Nat):AV.parts (.val (.map r))=some [.val (.map r)]:=rfl
theorem an2(l:List AV):AV.parts (.agg l)=some l:=rfl
theorem aog(n:Nat)(l:List AV)(e:End):AV.parts (.sl n l e)=some [.sl n l e]:=rfl
theorem amt(n:Nat)(l:List AV)(e:End):AV.len (.sl n l e)=some n:=by rw[AV.len]
theorem ams(i o n c:Nat):AV.len (.bJ i o n c)=some n:=by rw[AV.len]
attribute [seval] amt ams
theorem aod(i o n c:Nat):AV.parts (.bJ i o n c)=some [.bJ i o n c]:=rfl
theorem aof(l:List AV):AV.parts (.rp l)=some [.rp l]:=rfl
theorem aoc(i o:Nat):AV.parts (.op i o)=some [.op i o]:=rfl
theorem an5(f:Fn)(l m:List AV):AV.parts (.fn f l m)=some [.fn f l m]:=rfl
theorem an6(t:TypeId)(a:AV):AV.parts (.cZ t a)=some [.cZ t a]:=rfl
theorem an9(i:Nat):AV.parts (.mp i)=some [.mp i]:=rfl
theorem amd(k:TU)(n:Int):AV.leaf (.val (.int k n))=true:=rfl
theorem al9(b:Bool):AV.leaf (.val (.bool b))=true:=rfl
theorem amo(b:ByteArray):AV.leaf (.val (.string b))=true:=rfl
theorem aml(b:Option U3):AV.leaf (.val (.pointer b))=true:=rfl
theorem amg:AV.leaf (.val .nilFunc)=true:=rfl
theorem amh:AV.leaf (.val .nilIface)=true:=rfl
theorem ame(r:Option Nat):AV.leaf (.val (.map r))=true:=rfl
theorem amn(n:Nat)(l:List AV)(e:End):AV.leaf (.sl n l e)=true:=rfl
theorem amk(i o n c:Nat):AV.leaf (.bJ i o n c)=true:=rfl
theorem amm(l:List AV):AV.leaf (.rp l)=true:=rfl
theorem amj(i o:Nat):AV.leaf (.op i o)=true:=rfl
theorem amb(f:Fn)(l m:List AV):AV.leaf (.fn f l m)=true:=rfl
theorem amc(t:TypeId)(a:AV):AV.leaf (.cZ t a)=true:=rfl
theorem amf(i:Nat):AV.leaf (.mp i)=true:=rfl
theorem anB(k:TU)(n:Int):AV.pj (.int k n)=.val (.int k n):=rfl
theorem anx(b:Bool):AV.pj (.bool b)=.val (.bool b):=rfl
theorem anE:AV.pj (.slice none 0 0)=.sl 0 [] .exact:=rfl
theorem anz:AV.pj .nilFunc=.val .nilFunc:=rfl
theorem anA:AV.pj .nilIface=.val .nilIface:=rfl
theorem anD(a:Option U3):AV.pj (.pointer a)=.val (.pointer a):=rfl
theorem anC(a:Option Nat):AV.pj (.map a)=.val (.map a):=rfl
theorem asc(l:List SP):lX (.agg l.toArray)=l.map AV.pj:=by simp[lX,aa_]
theorem asi(k:TU)(n:Int):lX (.int k n)=[.val (.int k n)]:=rfl
theorem asd(b:Bool):lX (.bool b)=[.val (.bool b)]:=rfl
theorem asm:lX (.slice none 0 0)=[.sl 0 [] .exact]:=rfl
theorem asf:lX .nilFunc=[.val .nilFunc]:=rfl
theorem ash:lX .nilIface=[.val .nilIface]:=rfl
theorem asl(a:Option U3):lX (.pointer a)=[.val (.pointer a)]:=rfl
theorem asj(a:Option Nat):lX (.map a)=[.val (.map a)]:=rfl
theorem ahm(s:AS):j4 s []=some []:=rfl
theorem ahl(s:AS)(i:Nat)(x:Tm)(l:List (Nat×Tm)):j4 s ((i,x)::l)=(s.ev x).bind λa=>(j4 s l).map λaG=>(i,a)::aG:=by
 simp only[j4];cases s.ev x with
 |none=>rfl
 |some a=>cases j4 s l<;>rfl
theorem aiu(p:Nat->Option (Nat×Nat))(c:List AV):n5 p c []=some c:=rfl
theorem ait(p:Nat->Option (Nat×Nat))(c:List AV)(i:Nat)(a:AV)(r:List (Nat×AV)):n5 p c ((i,a)::r)=(p i).bind λx=>(a.parts).bind λlp=>if lp.length≠x.2\/x.1+lp.length>c.length then none else n5 p (iy c x.1 lp) r:=by
 simp only[n5];cases p i with
 |none=>rfl
 |some x=>cases a.parts<;>rfl
theorem aoo(l:List (Nat×Nat))(i:Nat):ik.at (.fields l) i=l[i]?:=rfl
theorem aon(sz i:Nat):ik.at (.elems sz) i=some (i* sz,sz):=rfl
theorem asa(z:SP):gI z 0=[]:=rfl
theorem aqs(s:AS)(sz m:Nat)(l:List AV)(e:End):s.src sz (.sl m l e)=some (m,l.take (m* sz)):=rfl
theorem aqr(T:List (Nat×AV))(H:List aa)(sz i off m c:Nat):AS.src ⟨T,H⟩ sz (.bJ i off m c)=((H[i]?).bind aa.rowOf).map λl=>(m,(l.drop off).take (m* sz)):=by
 simp only[AS.src];cases H[i]?with
 |none=>rfl
 |some x=>cases x<;>rfl
theorem ae6(n:Nat)(l:List AV)(e:End)(kO:Nat->Nat->Nat->Nat->Prop)(k:Nat->List AV->End->Prop):AV.pD (.sl n l e) kO k=k n l e:=by rw[AV.pD]
theorem ae5(i o n c:Nat)(kO:Nat->Nat->Nat->Nat->Prop)(k:Nat->List AV->End->Prop):AV.pD (.bJ i o n c) kO k=kO i o n c:=by rw[AV.pD]
theorem aeP:type_of% @tI.eq_1:=by intros;rw[tI.eq_1]
theorem aeN(s:AS)(dst:Option Nat)(next:AS->Prop)(n m sz:Nat)(elem:TypeId)(l l':List AV):AG s dst next n m sz elem l l' .exact=next ((⟨s.T,s.H++[.tail (n+m) sz elem]⟩:AS).put dst (.sl (n+m) (l++l') (.opn s.H.length))):=rfl
theorem aeO(s:AS)(dst:Option Nat)(next:AS->Prop)(n m sz:Nat)(elem:TypeId)(l l':List AV)(k:Nat):AG s dst next n m sz elem l l' (.opn k)=((match s.H[k]?with
   |some (.tail n' eD fY)=>n'=n/\eD=sz/\fY=elem
   |_=>False)/\(∀a∈l',a.leaf=true)/\next ((⟨s.T,s.H.set k (.tail (n+m) sz elem)⟩:AS).put dst (.sl (n+m) (l++l') (.opn k)))):=rfl
theorem apk(P:SJ)(T:List (Nat×AV))(H:List aa)(b t:Nat):uT P ⟨T,H⟩ (.cell b t)=(look T b).bind λp=>((⟨T,H⟩:AS).at p).bind λl=>(Ty P t).bind λx=>if x.2 then(if x.1<=l.length then some (.agg (l.take x.1))else none)else l[0]?:=rfl
section
variable {lv:Bool}{P:SJ}{s s':AS}
@[congr] theorem atv {α : Type} {x y : Option α} {k : α -> Prop} (h : x = y) : ao x k = ao y k := by rw [h]
@[congr] theorem asA {a b : AV} {k : Bool -> Prop} (h : a = b) : AV.asBool a k = AV.asBool b k := by rw [h]
@[congr] theorem asB {a b : AV} {k : TU -> Int -> Prop} (h : a = b) : AV.asInt a k = AV.asInt b k := by rw [h]
@[congr] theorem asG {a b : AV} {k : List AV -> Prop} (h : a = b) : AV.wW a k = AV.wW b k := by rw [h]
@[congr] theorem asz {a b : AV} {k : List AV -> Prop} (h : a = b) : AV.asAgg a k = AV.asAgg b k := by rw [h]
@[congr] theorem asD {a b : AV} {k : Nat -> Nat -> Prop} (h : a = b) : AV.pC a k = AV.pC b k := by rw [h]
@[congr] theorem asC {a b : AV} {k : Nat -> Prop} (h : a = b) : AV.su a k = AV.su b k := by rw [h]
@[congr] theorem asF {a b : AV} {k : Nat -> List AV -> End -> Prop} (h : a = b) : AV.vo a k = AV.vo b k := by rw [h]
@[congr] theorem asE {a b : AV} {kO : Nat -> Nat -> Nat -> Nat -> Prop} {k : Nat -> List AV -> End -> Prop} (h : a = b) : AV.pD a kO k = AV.pD b kO k := by rw [h]
@[congr] theorem asx {H H' : List aa} {k : AV -> List aa -> Prop} {id oz off C9 n n' c0 OP m m' sz : Nat} {elem : TypeId} {l l' : List AV} (h0 : H = H') (h1 : id = oz) (h2 : off = C9) (h3 : n = n') (h4 : c0 = OP) (h5 : m = m') (h6 : l = l') : tI H k id off n c0 m sz elem l = tI H' k oz C9 n' OP m' sz elem l' := by rw [h0, h1, h2, h3, h4, h5, h6]
@[congr] theorem asp {op : V_} {t : TypeId} {a a' b b' : AV} {k : AV -> Prop} (h : a = a') (h' : b = b') : dF P op t a b k = dF P op t a' b' k := by rw [h, h']
@[congr] theorem aso {s' : AS} {op : V_} {t : TypeId} {y : Tm} {a a' : AV} {k : AV -> Prop} (hs : s = s') (h : a = a') : iB P s op t y a k = iB P s' op t y a' k := by rw [hs, h]
@[congr] theorem ass {a b : AV} {k : AV -> Prop} (h : a = b) : my P a k = my P b k := by rw [h]
@[congr] theorem asn {t : TypeId} {ok : Bool} {a b : AV} {k : AV -> Prop} (h : a = b) : AE P t ok a k = AE P t ok b k := by rw [h]
@[congr] theorem asr {t : TypeId} {a b : AV} {k : AV -> Prop} (h : a = b) : rZ P s t a k = rZ P s t b k := by rw [h]
@[congr] theorem asv {t : TypeId} {a b : AV} {x y z : Option Int} {k : AV -> Prop} (h : a = b) : r6 P t a x y z k = r6 P t b x y z k := by rw [h]
@[congr] theorem ast {o : Tx} {k : AV -> Prop} (h : s = s') : lB P s o k = lB P s' o k := by rw [h]
@[congr] theorem asy {o : Tx} {k : AV -> Prop} (h : s = s') : AQ lv P s o k = AQ lv P s' o k := by rw [h]
@[congr] theorem asw {o : Tx} {next : AS -> Prop} {bad : AV -> AS -> Prop} (h : s = s') : mz lv P s o next bad = mz lv P s' o next bad := by rw [h]
@[congr] theorem asu {all : Array Tx} {l : List Tx} {next : AS -> Prop} {bad : AV -> AS -> Prop} (h : s = s') : ij lv P all l s next bad = ij lv P all l s' next bad := by rw [h]
@[congr] theorem atx {all : Array Tx} {l l' : List Tx} {K : AS -> Prop} (hl : l = l') (h : s = s') : mZ lv P all l s K = mZ lv P all l' s' K := by rw [hl, h]
@[congr] theorem asK {r : Option Nat} {nt : Nat} {c : T7} {Φ : an -> AS -> Prop} (h : s = s') : aW lv P r nt c s Φ = aW lv P r nt c s' Φ := by rw [h]
@[congr] theorem atE {K : AS -> Prop} {Φ : an -> AS -> Prop} {e e' : an} (he : e = e') (h : s = s') : an.then K Φ e s = an.then K Φ e' s' := by rw [he, h]
@[congr] theorem atr {i : Nat} {Φ : an -> AS -> Prop} {e e' : an} (he : e = e') (h : s = s') : an.inBlock i Φ e s = an.inBlock i Φ e' s' := by rw [he, h]
end
theorem aee:type_of% @ij.eq_1:=by intros;rw[ij.eq_1]
theorem aed:type_of% @ij.eq_2:=by intros;rw[ij.eq_2]
theorem aek:type_of% @mz.eq_1:=by intros;rw[mz.eq_1]
theorem aec:type_of% @lB.eq_1:=by intros;rw[lB.eq_1]
theorem aox:type_of% @mZ.eq_1:=by intros;rw[mZ.eq_1]
theorem aow:type_of% @mZ.eq_2:=by intros;rw[mZ.eq_2]
theorem aef:type_of% @AQ.eq_1:=by intros;rw[AQ.eq_1]
theorem aph:type_of% @gR.eq_1:=by intros;rw[gR.eq_1]
theorem apg:type_of% @gR.eq_2:=by intros;rw[gR.eq_2]
theorem apj:type_of% @iM.eq_1:=by intros;rw[iM.eq_1]
theorem aho:type_of% @fg.eq_1:=by intros;rw[fg.eq_1]
theorem ahn:type_of% @fg.eq_2:=by intros;rw[fg.eq_2]
theorem adR:type_of% @AE.eq_1:=by intros;rw[AE.eq_1]
theorem aos:type_of% @iy.eq_1:=by intros;rw[iy.eq_1]
theorem api:iM []=.aJ []:=by rw[iM];simp
theorem abR(a b:AV)(l:List AV):iM (a::b::l)=.aJ (a::b::l):=by rw[iM];simp
theorem aq0(l:List AV):(AV.rp l).sure=true:=by simp[AV.sure]
theorem aqY(i j:Nat):(AV.op i j).sure=true:=by simp[AV.sure]
theorem aqU(f:TO)(x y:List AV):(AV.fn (.func f) x y).sure=true:=by simp[AV.sure]
theorem aqV(t:TypeId)(x:AV):(AV.cZ t x).sure=true:=by simp[AV.sure]
theorem ad8(P:SJ)(k:AV->Prop)(name:String)(t:TypeId)(av:AV):my P (.fn (.method name) [.cZ t av] []) k=(HT P t name/\k (.fn (.method name) [.cZ t av] [])):=by rw[my]
theorem aea(P:SJ)(k:AV->Prop)(l:List AV):my P (.rp l) k=k (.rp l):=by simp[my,AV.sure]
theorem ad9(P:SJ)(k:AV->Prop)(i j:Nat):my P (.op i j) k=k (.op i j):=by simp[my,AV.sure]
theorem ad6(P:SJ)(k:AV->Prop)(f:TO)(x y:List AV):my P (.fn (.func f) x y) k=k (.fn (.func f) x y):=by simp[my,AV.sure]
theorem aeb(P:SJ)(k:AV->Prop)(f)(x y:List AV):my P (.fn (.yield f) x y) k=k (.fn (.yield f) x y):=by simp[my,AV.sure]
theorem ad7(P:SJ)(k:AV->Prop)(t:TypeId)(x:AV):my P (.cZ t x) k=k (.cZ t x):=by simp[my,AV.sure]
theorem ad1(P:SJ)(s:AS)(op:V_)(xt:TypeId)(t:Nat)(a:AV)(k:AV->Prop):iB P s op xt (.tmp t) a k=ao (s.ev (.tmp t)) λb=>dF P op xt a b k:=by rw[iB]<;>(intros;simp_all)
theorem adW(P:SJ)(s:AS)(op:V_)(xt:TypeId)(j:TU)(m:Int)(a:AV)(k:AV->Prop):iB P s op xt (.const (.int j m)) a k=ao (s.ev (.const (.int j m))) λb=>dF P op xt a b k:=by rw[iB]<;>(intros;simp_all)
theorem adT(P:SJ)(s:AS)(op:V_)(xt:TypeId)(c:Bool)(a:AV)(k:AV->Prop):iB P s op xt (.const (.bool c)) a k=ao (s.ev (.const (.bool c))) λb=>dF P op xt a b k:=by rw[iB]<;>(intros;simp_all)
theorem ad0(P:SJ)(s:AS)(op:V_)(xt:TypeId)(c:ByteArray)(a:AV)(k:AV->Prop):iB P s op xt (.const (.string c)) a k=ao (s.ev (.const (.string c))) λb=>dF P op xt a b k:=by rw[iB]<;>(intros;simp_all)
theorem adS(P:SJ)(s:AS)(op:V_)(xt:TypeId)(c:Array SP)(a:AV)(k:AV->Prop):iB P s op xt (.const (.agg c)) a k=ao (s.ev (.const (.agg c))) λb=>dF P op xt a b k:=by rw[iB]<;>(intros;simp_all)
theorem adZ(P:SJ)(s:AS)(op:V_)(xt:TypeId)(c:Option U3)(a:AV)(k:AV->Prop):iB P s op xt (.const (.pointer c)) a k=ao (s.ev (.const (.pointer c))) λb=>dF P op xt a b k:=by rw[iB]<;>(intros;simp_all)
theorem adX(P:SJ)(s:AS)(op:V_)(xt:TypeId)(c:Option U3)(m n:Nat)(a:AV)(k:AV->Prop):iB P s op xt (.const (.slice c m n)) a k=ao (s.ev (.const (.slice c m n))) λb=>dF P op xt a b k:=by rw[iB]<;>(intros;simp_all)
theorem adY(P:SJ)(s:AS)(op:V_)(xt:TypeId)(k:AV->Prop):iB P s op xt (.const .nilIface) (.val .nilIface) k=(mm P xt=some true/\(op=.eql\/op=.neq)/\k (.val (.bool (if op== .neq then false else true)))):=by rw[iB]
theorem adV(P:SJ)(s:AS)(op:V_)(xt t:TypeId)(x:AV)(k:AV->Prop):iB P s op xt (.const .nilIface) (.cZ t x) k=(mm P xt=some true/\(op=.eql\/op=.neq)/\k (.val (.bool (if op== .neq then true else false)))):=by rw[iB]
theorem ag9:((XH== .neq)=false):=rfl
theorem anm:((Wx== .neq)=true):=rfl
theorem aiX(z:SP):AV.found z true none=.aJ [AV.of z,.val (.bool false)]:=by rw[AV.found];simp
theorem aiY(z:SP)(x:Nat×SP):AV.found z true (some x)=.aJ [AV.of x.2,.val (.bool true)]:=by rw[AV.found];simp
attribute [seval] aiX aiY
attribute [seval] ad1 adW adT ad0 adS adZ adX adY adV ag9 anm
attribute [seval] ao5 ao6 ajm ajl ajk ajj Ae ahk ahb ahf ahd ahj ahg ahh ahc ahe amQ amR aou aot arl arn arj ark arm afX afZ afU afY afV afW aiU aiS aiT apm ae0 ae2 ae9 aeY ae4 ae3 ae7 ae6 ae5 aeP ael aex aet aen N3 aes aer aep aeo true_and and_true Option.bind_some List.getElem?_toArray List.getElem?_cons_succ List.getElem?_cons_zero Bool.not_true Bool.not_false true_implies false_implies if_true if_false aff aqc aqd aqe apy apx List.drop_succ_cons List.drop_zero List.take_succ_cons List.take_zero List.cons_append List.nil_append List.length_cons List.length_nil Int.toNat_natCast decide_eq_true_eq decide_eq_false_iff_not Bool.not_eq_true' Bool.not_eq_false' Bool.not_eq_eq_eq_not afe agf agi apu apw apv agh Option.map_some vg aeR vk aeV aeQ aeU Nat.zero_add List.set_cons_zero List.set_cons_succ an7 an3 aoh aoe aoa aob an8 an2 aog aod aof aoc an5 an6 an9 List.forall_mem_cons List.not_mem_nil false_imp_iff implies_true amd al9 amo aml amg amh ame amn amk amm amj amb amc amf anB anx anE anz anA anD anC asc asi asd asm asf ash asl asj List.map_cons List.map_nil ahm ahl aiu ait aoo aon asa aqs aqr aeN aeO apk ad5 ad4 ne_eq not_true_eq_false not_false_eq_true gt_iff_lt Nat.lt_irrefl or_self or_false false_or Nat.le_refl Nat.mul_one Nat.one_mul Nat.zero_mul Nat.mul_zero bne_iff_ne bne_eq_false_iff_eq beq_iff_eq aee aed aek aec aox aow aef aph apg apj api abR aho ahn adR aos abR aq0 aqY aqU aqV ad8 aea ad9 ad6 aeb ad7
theorem apt{base Vi Vn T:List (Nat×AV)}{H:List aa}(hk:sg T (Vi++base) Vn)(hv:∀p∈Vn,∃b,look T p.1=some b/\Wk b p.2):tR base Vi Vn H ⟨T,H⟩:=⟨hk,hv,[],by simp,.inl rfl⟩
theorem abT{base Vi Vn T:List (Nat×AV)}{H G:List aa}(hk:sg T (Vi++base) Vn)(hv:∀p∈Vn,∃b,look T p.1=some b/\Wk b p.2)(az:bP H)(hlt:∀p∈Vn,Lt H.length p.2):tR base Vi Vn H ⟨T,H++G⟩:=⟨hk,hv,G,rfl,.inr ⟨az,hlt⟩⟩
theorem Ao{base Vi Vn T:List (Nat×AV)}{H L G:List aa}(hk:sg T (Vi++base) Vn)(hv:∀p∈Vn,∃b,look T p.1=some b/\Wk b p.2)(az:bP (H++L))(hlt:∀p∈Vn,Lt (H++L).length p.2):tR base Vi Vn (H++L) ⟨T,H++(L++G)⟩:=⟨hk,hv,G,(SD ..).symm,.inr ⟨az,hlt⟩⟩
def pick (ks:List Nat)(T:List (Nat×AV)):List (Nat×AV):=ks.filterMap λk=>(look T k).map λa=>(k,a)
theorem Ot{lv:Bool}{P:SJ}{r:Option Nat}{nt:Nat}{c:T7}{T:List (Nat×AV)}{H:List aa}{Φ:an->AS->Prop}(ks:List Nat)(h:aW lv P r nt c ⟨pick ks T,H⟩ Φ):aW lv P r nt c ⟨T,H⟩ Φ:=by
 refine kV (s':=⟨pick ks T,H⟩) ⟨λt a e=> ?_,rfl⟩ h;obtain⟨k,_,e'⟩:=VU.1 (rJ e);obtain⟨b,hb,e'⟩:=Ts.1 e';cases e';exact⟨a,hb,Wk.refl a⟩
theorem L3{ops:Array Tx}(mf:∀(i:Nat) o,ops[i]?=some o->∀j∈cP o,j<ops.size)(Sn:∀X:List Nat,(∃i,i<ops.size/\i∉X)->∃i o,ops[i]?=some o/\i∉X/\∀j∈cP o,j∈X):∀(fuel t:Nat)(L:Array Bool)(X:List Nat),NY ops L X->(SZ ops.size).countP (λi=> !X.contains i)<=fuel->lZ ops X (UE .any ops fuel t L [])
 |0,t,L,X,hr,hc=>by
  simp only[UE,XT];refine .nil X λi hi=> ?_;have:(SZ ops.size).countP (λi=> !X.contains i)=0:=by omega
  have:=List.countP_eq_zero.1 this i (by simpa using hi);simpa using this
 |fuel+1,t,L,X,hr,hc=>by
  have uw:∀i,i∈((SZ ops.size).filter λi=> !L.getD i true&&((ops[i]?).map (·.after.all λe=> !Region.binds .any e||L.getD e.on false)).getD false)<->∃o,ops[i]?=some o/\i∉X/\∀j∈cP o,j∈X:=by
   intro i;simp only[Ud,Tu,Tc,TV];constructor
   ·rintro⟨hi,h1,h2⟩
    have ho:=SK hi;refine⟨ops[i],ho,λhx=> ?_,λj hj=> ?_⟩
    ·have:=(hr.mem i hi).2 hx;rw[SI,this]at h1;cases h1
    ·obtain⟨e,he,hb,rfl⟩:=Gq.1 hj;rw[ho]at h2;simp only[UM,S8,UH]at h2;have:=h2 e he;rw[hb]at this;simp only[an_,ZB]at this;have hlt:e.on<ops.size:=mf i _ ho _ hj;refine(hr.mem _ hlt).1 ?_;rw[SI]at this;cases hx:L[e.on]?with
     |none=>rw[hx]at this;cases this
     |some b=>rw[hx]at this;cases b;cases this;rfl
   ·rintro⟨o,ho,h1,h2⟩
    have hi:i<ops.size:=(SU.1 ho).1;refine⟨hi,?_,?_⟩
    ·rw[SI,SK (by rw[hr.size];exact hi)];simp only[S8];cases hb:L[i]'(by rw[hr.size];exact hi)with
     |false=>rfl
     |true=>exact absurd ((hr.mem i hi).1 (by rw[SK (by rw[hr.size];exact hi),hb])) h1
    ·rw[ho];simp only[UM,S8,UH];intro e he;cases hb:Yq .any e with
     |false=>rfl
     |true=>
      have hj:=Gq.2 ⟨e,he,hb,rfl⟩;have hlt:e.on<ops.size:=mf i _ ho _ hj;have:=(hr.mem _ hlt).2 (h2 _ hj);simp[SI,this]
  simp only[UE];generalize Cz:((SZ ops.size).filter λi=> !L.getD i true&&((ops[i]?).map (·.after.all λe=> !Region.binds .any e||L.getD e.on false)).getD false)=rs at uw;cases hi:rs[t % rs.length]?with
  |none=>
   have KF:rs=[]:=by
    cases rs with
    |nil=>rfl
    |cons x xs=>
     have hlt:t % (x::xs).length<(x::xs).length:=as' _ (by simp);rw[List.getElem?_eq_none_iff]at hi;omega
   simp only[XT];refine .nil X λi hlt=> ?_;apply Tl;intro hx;obtain⟨i',o,h1,h2,h3⟩:=Sn X ⟨i,hlt,hx⟩;have:i'∈rs:=(uw i').2 ⟨o,h1,h2,h3⟩;rw[KF]at this;cases this
  |some i=>
   simp only[];obtain⟨o,ho,h1,h2⟩:=(uw i).1 (Tf hi);have hlt:i<ops.size:=(SU.1 ho).1;rw[linearise_go_acc,List.reverse_singleton,Y6];refine .cons o ho h1 h2 (L3 mf Sn fuel _ _ (i::X) ⟨by simp[hr.size],λk hk=> ?_⟩ ?_)
   ·by_cases ri:k=i
    ·subst ri;simp[S_ (by rw[hr.size];exact hlt)]
    ·rw[SV (Ne.symm ri),hr.mem k hk];simp[ri]
   ·have eB:i∈(SZ ops.size):=(by simpa using hlt);have:(SZ ops.size).countP (λk=> !(i::X).contains k)<(SZ ops.size).countP (λk=> !X.contains k):=by
     exact O3 eB (λk hk=>by simp only[TV,Un,decide_eq_false_iff_not]at hk⊢;exactλh=>hk (Tb _ h)) (by simpa using h1) (by simp)
    omega
theorem Jd{X:List Nat}:∀{l:List Nat},(∃i∈l,i∉X)->∃A i B,l=A++i::B/\i∉X/\∀a∈A,a∈X
 |[],⟨_,h,_⟩=>by cases h
 |x::l,⟨i,h,hn⟩=>by
  by_cases hx:x∈X
  ·have hi:i∈l:=(SL.1 h).resolve_left λe=>hn (e▸hx);obtain⟨A,j,B,h1,h2,h3⟩:=Jd ⟨i,hi,hn⟩;exact⟨x::A,j,B,by rw[h1];rfl,h2,λa ha=>(SL.1 ha).elim (λe=>e▸hx) (h3 a)⟩
  ·exact⟨[],x,l,rfl,hx,by simp⟩
structure AT (k:AV->List aa->Prop):Type where
 n:Nat
def DV (lv:Bool)(P:SJ)(f:AV)(H:List aa)(aG:List AV)(k:AV->List aa->Prop)(_t:AT k):Prop:=∃av H',iQ lv P f H aG (λb tL=>b=av/\tL=H') (λ_ _=>False)/\k av H'
def HM (lv:Bool)(P:SJ)(f:AV)(name:String)(H:List aa)(aG:List AV)(k:AV->List aa->Prop)(_t:AT k):Prop:=∃av H',D2 lv P f name H aG (λb tL=>b=av/\tL=H') (λ_ _=>False)/\k av H'
theorem kZ{lv:Bool}{P:SJ}{f:AV}{H:List aa}{aG:List AV}{k:AV->List aa->Prop}{t:AT k}(av:AV)(H':List aa)(h:iQ lv P f H aG (λb tL=>b=av/\tL=H') (λ_ _=>False))(hk:k av H'):DV lv P f H aG k t:=⟨av,H',h,hk⟩
def jY (x:Option aa)(X Y:Prop)(_t:lY X Y):Prop:=match x with
 |some (.own _ _ _)=>X
 |_=>Y
def qA (G H:List aa)(k:AV->List aa->Prop)(n m sz:Nat)(elem:TypeId)(l l':List AV):End->Prop
 |.exact=>jY G[H.length]? (0<m/\k (.bJ H.length 0 (n+m) 0) (H++[.own sz (l++l') elem])) (k (.sl (n+m) (l++l') (.opn H.length)) (H++[.tail (n+m) sz elem])) ⟨0⟩
 |.opn i=>(match H[i]?with
   |some (.tail n' eD fY)=>n'=n/\eD=sz/\fY=elem
   |_=>False)/\(∀a∈l',a.leaf=true)/\k (.sl (n+m) (l++l') (.opn i)) (H.set i (.tail (n+m) sz elem))
 |.shut=>m=0/\k (.sl n l .shut) H
section
variable (lv:Bool)(P:SJ)
def jW (G:List aa)(s:AS)(o:Tx)(k:AV->List aa->Prop):Prop:=match o.op with
 |.box t x=>ao (s.ev x) λa=>ao a.parts λl=>k (.op s.H.length 0) (s.H++[.cells l t])
 |.alloc t=>ao (eO P t) λz=>k (.op s.H.length 0) (s.H++[.cells (lX z) t])
 |.store t x y=>ao (s.ev x) λp=>ao (s.ev y) λa=>ao a.parts λlp=>p.pC λid off=>match s.H[id]?with
  |some (.cells l el)=>(ao (Ty P t) λx=>lp.length=x.1)/\off+lp.length<=l.length/\(∀a∈lp,a.leaf=true)/\k (.val undef) (s.H.set id (.cells (iy l off lp) el))
  |some (.own p l el)=>(ao (Ty P t) λx=>lp.length=x.1)/\off+lp.length<=l.length/\(∀a∈lp,a.leaf=true)/\k (.val undef) (s.H.set id (.own p (iy l off lp) el))
  |_=>False
 |.call c=>match c.callee with
  |.builtin .append=>match c.args.toList,c.argTypes.toList with
   |[x,y],[t,t']=>ao (jK P t t') λ(elem,sz,_)=>ao (s.ev x) λa=>ao (s.ev y) λb=>a.pD (λid off n c0=>ao (s.src sz b) λ(m,l')=>tI s.H k id off n c0 m sz elem l') λn l e=>ao (s.src sz b) λ(m,l')=>l.length=n* sz/\l'.length=m* sz/\n+m<=2^30/\qA G s.H k n m sz elem l l' e
   |_,_=>False
  |.value x=>ao (s.ev x) λf=>ao (fg s c.args.toList) λaG=>DV lv P f s.H aG k ⟨0⟩
  |.invoke x name=>ao (s.ev x) λf=>ao (fg s c.args.toList) λaG=>HM lv P f name s.H aG k ⟨0⟩
  |_=>False
 |.makeSlice t x y=>ao (AU P t) λ(e,sz,z)=>ao (s.ev x) λa=>ao (s.ev y) λb=>a.asInt λ_ n=>b.asInt λ_ n'=>n'=n/\0<=n/\n<=2^30/\k (.bJ s.H.length 0 n.toNat n.toNat) (s.H++[.cells (gI z (n.toNat* sz)) e])
 |.buildSlice t len parts=>ao (qH P t) λ(e,sz,z)=>len* sz<=2^24/\ao (j4 s parts.toList) λl7=>ao (n5 (ik.at (.elems sz)) (gI z (len* sz)) l7) λl=>k (.bJ s.H.length 0 len len) (s.H++[.cells l e])
 |_=>False
end
section
variable {lv:Bool}{P:SJ}{r:Option Nat}{o:Tx}{s:AS}{k:AV->List aa->Prop}
theorem Step.drop{G:List aa}{av mI:AV}{bad:AV->AS->Prop}(h:Step lv P r o s (λs'=>s'=(⟨s.T,s.H++G⟩:AS).put o.dst av) bad)(hw:Wk av mI)(hl:∀(E:Env)(V:View)(a:Act),Conc E V s.H->cj E s.T a.tmps->Lt s.H.length mI):Step lv P r o s (λs'=>s'=(⟨s.T,s.H⟩:AS).put o.dst mI) bad:=λE V a N Q hc ht hd hf n1 n2=>by
 refine h E V a N Q hc ht hd hf (λE' V' a' s' q1 q2 q3 q4=> ?_) n2;subst q4;rw[fl]at q2;have eY:((⟨s.T,s.H++G⟩:AS).put o.dst av).HK ((⟨s.T,s.H⟩:AS).put o.dst mI):=by
  refine⟨λt x e=> ?_,⟨G,by rw[fl,fl]⟩,by rw[fl];exact hc.az⟩;rw[fl];have hold:look s.T t=some x->Lt s.H.length x:=λe=>by rw[<- hc.n];exact(ht t x e).2.lt
  cases dn:o.dst with
  |none=>
   rw[dn]at e;simp only[AS.put]at e⊢;exact⟨x,e,Wk.refl x,hold e⟩
  |some d=>
   rw[dn]at e;simp only[AS.put,look]at e⊢;by_cases Ri:d=t
   ·rw[if_pos Ri]at e⊢;cases e;exact⟨av,rfl,hw,hl E V a hc ht⟩
   ·rw[if_neg Ri]at e⊢;exact⟨x,e,Wk.refl x,hold e⟩
 have ah:At E' V' ((⟨s.T,s.H++G⟩:AS).put o.dst av) a' a'.tmps.size:=⟨by rw[fl];exact q2,q3,rfl⟩;have aR:=ah.cut eY;rw[fl]at aR;refine n1 _ V' a' _ ⟨Dt (SR _) (by rw[q2.n];simp) q1.le hc.n,q1.size,q1.defers,q1.role,q1.deaf⟩ aR.bu aR.tok rfl
end
section
variable {lv:Bool}{P:SJ}{r:Option Nat}{o:Tx}{s:AS}{G:List aa}{k:AV->List aa->Prop}
theorem eg{α:Type}{x:Option α}{a:α}{k:α->Prop}(h:x=some a)(hk:k a):ao x k:=by rw[h,ao];exact hk
theorem Qt{x:Option aa}{X Y:Prop}{t:lY X Y}(h:jY x X Y t):((∃a b c,x=some (.own a b c))/\X)\/((∀a b c,x≠some (.own a b c))/\Y):=by
 unfold jY at h;split at h
 ·exact .inl ⟨⟨_,_,_,rfl⟩,h⟩
 ·rename_i hx;exact .inr ⟨λa b c e=>hx a b c e,h⟩
theorem ai8{x:Option aa}{X Y:Prop}{t:lY X Y}{a:Nat}{b:List AV}{c:TypeId}(h:x=some (.own a b c))(hX:X):jY x X Y t:=by subst h;exact hX
theorem ajb{x:Option aa}{X Y:Prop}{t:lY X Y}(h:∀a b c,x≠some (.own a b c))(hY:Y):jY x X Y t:=by
 unfold jY;split
 ·exact absurd rfl (h _ _ _)
 ·exact hY
theorem qA.ex{H:List aa}{n m sz:Nat}{elem:TypeId}{l l':List AV}{e:End}(h:qA G H k n m sz elem l l' e):∃av H',qA G H (λa h=>a=av/\h=H') n m sz elem l l' e/\k av H':=by
 cases e with
 |exact=>
  rcases Qt (t:=⟨0⟩) h with⟨⟨a,b,c,e⟩,h0,h1⟩|⟨e,h1⟩
  ·exact⟨_,_,ai8 (t:=⟨0⟩) e ⟨h0,rfl,rfl⟩,h1⟩
  ·exact⟨_,_,ajb (t:=⟨0⟩) e ⟨rfl,rfl⟩,h1⟩
 |shut=>exact⟨_,_,⟨h.1,rfl,rfl⟩,h.2⟩
 |opn i=>exact⟨_,_,⟨h.1,h.2.1,rfl,rfl⟩,h.2.2⟩
theorem tI.ex{H:List aa}{id off n c0 m sz:Nat}{elem:TypeId}{l':List AV}(h:tI H k id off n c0 m sz elem l'):∃av H',tI H (λa h=>a=av/\h=H') id off n c0 m sz elem l'/\k av H':=by
 obtain⟨h1,h2,h3,h4,h5,h6⟩:=h;split at h6
 ·rename_i hk;obtain⟨g1,g2,g3,g4⟩:=h6;refine⟨_,_,⟨h1,h2,h3,h4,h5,?_⟩,g4⟩;rw[hk];exact⟨g1,g2,g3,rfl,rfl⟩
 ·exact h6.elim
end
section
variable {lv:Bool}{P:SJ}{r:Option Nat}{o:Tx}{s:AS}{next:AS->Prop}{bad:AV->AS->Prop}
theorem acJ{t e:TypeId}{len sz:Nat}{z:SP}{parts:Array (Nat×Tm)}{l7:List (Nat×AV)}{l:List AV}(ho:o.op=.buildSlice t len parts)(ht:qH P t=some (e,sz,z))(aV:len* sz<=2^24)(hp:j4 s parts.toList=some l7)
  (hl:n5 (ik.at (.elems sz)) (gI z (len* sz)) l7=some l) (hn:next ((⟨s.T,s.H++[.cells l e]⟩:AS).put o.dst (.bJ s.H.length 0 len len))):Step lv P r o s next bad:=by
 intro E V a N Q hc aF hd bx h1 _;unfold qH at ht;split at ht
 ·rename_i e' hu;obtain⟨i,hi,ht⟩:=Tg.1 ht;obtain⟨z',hz,ht⟩:=Ts.1 ht;cases ht;refine⟨bx,?_⟩;unfold execOp;rw[ho];dsimp only;refine aA ?_;unfold Instr.buildSlice;refine ej hu ?_;dsimp only;refine jV hi ?_;rw[if_neg (by omega)];obtain⟨hlen,bk⟩:=EA aF hp;obtain⟨eP,nz,uj⟩:=BB (IH (E:=E) z (len* i.size)) hlen bk hl;have fin:∀(rr:Nat),V.fresh rr->aP P (V.upd rr (.cells eP e)) (pure (W5 (.slice (some ⟨rr,0,none⟩) len len))) (mE lv P r o a N Q) (λv V'=>Q (.panic [{v,recovered:=false}]) a V'):=λrr hf=>by
   have ow:E.Le (E.add rr V.ab):=E.qj rr (λb o v h=>by rw[<- hc.I];exact h);have bi:Conc (E.add rr V.ab) (V.upd rr (.cells eP e)) (s.H++[.cells l e]):=by
    refine hc.add hf _ ⟨⟨_,?_,uj.mono ow⟩,λo=> ?_⟩ (λb e=> ?_)
    ·rw[Env.dI];simp[View.upd]
    ·rw[Env.dI];exact hf.2 o
    ·simp only[bM,Env.dI,Tn]at e;exact e.symm
   have oT:ap (E.add rr V.ab) (.bJ s.H.length 0 len len) (.slice (some ⟨rr,0,none⟩) len len):=by
    have:=ap.bJ (E:=E.add rr V.ab) (id:=s.H.length) (off:=0) (n:=len) (cap:=len) (cap':=len) (by show _<E.n+1;rw[hc.n];omega) ⟨by omega,λ_=>rfl,λh=>absurd h (by omega)⟩;have e:(E.add rr V.ab).blk s.H.length=rr:=(by rw[<- hc.n];exact E.dI rr _);rwa [e]at this
   exact aq (h1 _ _ (a.put o.dst _) _ ⟨ow,d_ _ _ _,put_defers _ _ _,rfl,rfl⟩ (by rw[fl];exact bi) (cj.gQ (s:=⟨s.T,s.H++[.cells l e]⟩) (aF.mono ow) hd oT) hn)
  have e2:(λj=>some (j* i.size,i.size))=ik.at (.elems i.size):=rfl;rw[e2];by_cases h0:len* i.size=0
  ·rw[if_pos h0];refine aA (aq ?_);rw[h0]at nz⊢;rw[show WL 0=#[]from rfl]at nz⊢;simp only[List.map_toArray,List.map_nil,VL]at nz⊢;rw[nz];unfold newRow;exact aA (aA (aA (oB λrr hf=>cG (aq (aq (aq (fin rr hf)))))))
  ·rw[if_neg h0];refine aA (aA ?_);unfold typeInfo;refine aA (qq (cG ?_));rw[hi];refine aq ?_;rw[hz];refine aq (aA (aq ?_));rw[VL,nz];unfold newRow;exact aA (aA (aA (oB λrr hf=>cG (aq (aq (aq (fin rr hf)))))))
 ·cases ht
end
section
variable {lv:Bool}{P:SJ}{r:Option Nat}{o:Tx}{s:AS}{G:List aa}{k:AV->List aa->Prop}
theorem jW.ex(h:jW lv P G s o k):∃av H',jW lv P G s o (λa h=>a=av/\h=H')/\k av H':=by
 unfold jW at h⊢;generalize o.op=op at h⊢;cases op with
 |box t x=>
  obtain⟨a,h1,h⟩:=h.out;obtain⟨l,h2,h⟩:=h.out;exact⟨_,_,eg h1 (eg h2 ⟨rfl,rfl⟩),h⟩
 |alloc t=>
  obtain⟨z,h1,h⟩:=h.out;exact⟨_,_,eg h1 ⟨rfl,rfl⟩,h⟩
 |store t x y=>
  obtain⟨p,h1,hA⟩:=h.out;obtain⟨a,h2,hB⟩:=hA.out;obtain⟨lp,h3,hC⟩:=hB.out;obtain⟨id,off,e1,hD⟩:=Bh hC;subst e1;clear h hA hB hC;split at hD
  ·rename_i l el hk;refine⟨_,_,eg h1 (eg h2 (eg h3 ?_)),hD.2.2.2⟩;unfold AV.pC;dsimp only;rw[hk];exact⟨hD.1,hD.2.1,hD.2.2.1,rfl,rfl⟩
  ·rename_i p l el hk;refine⟨_,_,eg h1 (eg h2 (eg h3 ?_)),hD.2.2.2⟩;unfold AV.pC;dsimp only;rw[hk];exact⟨hD.1,hD.2.1,hD.2.2.1,rfl,rfl⟩
  ·exact hD.elim
 |call c=>
  dsimp only at h⊢;generalize c.callee=cl at h⊢;generalize c.args.toList=xs at h⊢;generalize c.argTypes.toList=ts at h⊢;cases cl with
  |builtin b=>
   cases b with
   |append=>
    dsimp only at h⊢;split at h
    ·obtain⟨⟨elem,sz,z⟩,h1,hA⟩:=h.out;obtain⟨a,h2,hB⟩:=hA.out;obtain⟨b,h3,hC⟩:=hB.out;rcases H8 hC with⟨id,off,n,c0,e1,hD⟩|⟨n,l,e,e1,hD⟩
     ·obtain⟨⟨m,l'⟩,h4,h5⟩:=hD.out;subst e1;obtain⟨av,H',g1,g2⟩:=h5.ex;refine⟨av,H',eg h1 (eg h2 (eg h3 ?_)),g2⟩;simp only[AV.pD];exact eg h4 g1
     ·obtain⟨⟨m,l'⟩,h4,h5,h6,h7,h8⟩:=hD.out;subst e1;obtain⟨av,H',g1,g2⟩:=h8.ex;refine⟨av,H',eg h1 (eg h2 (eg h3 ?_)),g2⟩;simp only[AV.pD];exact eg h4 ⟨h5,h6,h7,g1⟩
    ·exact h.elim
   |_=>exact h.elim
  |value x=>
   obtain⟨f,h1,hA⟩:=h.out;obtain⟨aG,h2,hB⟩:=hA.out;obtain⟨av,H',g1,g2⟩:=hB;exact⟨av,H',eg h1 (eg h2 ⟨av,H',g1,rfl,rfl⟩),g2⟩
  |invoke x name=>
   obtain⟨f,h1,hA⟩:=h.out;obtain⟨aG,h2,hB⟩:=hA.out;obtain⟨av,H',g1,g2⟩:=hB;exact⟨av,H',eg h1 (eg h2 ⟨av,H',g1,rfl,rfl⟩),g2⟩
 |makeSlice t x y=>
  obtain⟨⟨e,sz,z⟩,h1,hA⟩:=h.out;obtain⟨a,h2,hB⟩:=hA.out;obtain⟨b,h3,hC⟩:=hB.out;obtain⟨j,n,e1,hD⟩:=nZ hC;obtain⟨j',n',e2,hE⟩:=nZ hD;clear h hA hB hC hD;subst e1 e2;exact⟨_,_,eg h1 (eg h2 (eg h3 ⟨hE.1,hE.2.1,hE.2.2.1,rfl,rfl⟩)),hE.2.2.2⟩
 |buildSlice t len parts=>
  obtain⟨⟨e,sz,z⟩,h1,h2,hA⟩:=h.out;obtain⟨l7,h3,hB⟩:=hA.out;obtain⟨l,h4,hC⟩:=hB.out;exact⟨_,_,eg h1 ⟨h2,eg h3 (eg h4 ⟨rfl,rfl⟩)⟩,hC⟩
 |_=>exact h.elim
theorem jW.step{av:AV}{H':List aa}{bad:AV->AS->Prop}(h:jW lv P G s o (λa h=>a=av/\h=H')):Step lv P r o s (λs'=>s'=(⟨s.T,H'⟩:AS).put o.dst av) bad:=by
 unfold jW at h;split at h
 ·rename_i t x ho;obtain⟨a,h1,h⟩:=h.out;obtain⟨l,h2,h⟩:=h.out;obtain⟨e1,e2⟩:=h;exact acI ho h1 h2 (by rw[e1,e2])
 ·rename_i t ho;obtain⟨z,h1,h⟩:=h.out;obtain⟨e1,e2⟩:=h;exact acF ho h1 (by rw[e1,e2])
 ·rename_i t x y ho;obtain⟨p,h1,hA⟩:=h.out;obtain⟨a,h2,hB⟩:=hA.out;obtain⟨lp,h3,hC⟩:=hB.out;obtain⟨id,off,e1,hD⟩:=Bh hC;clear h hA hB hC;subst e1;split at hD
  ·rename_i l el hk;obtain⟨q1,q2,q3,q4,MT⟩:=hD;obtain⟨⟨n,g⟩,q5,q6⟩:=q1.out;exact acN ho q5 h1 hk h2 h3 q6 q2 q3 (by rw[q4,MT])
  ·rename_i p l el hk;obtain⟨q1,q2,q3,q4,MT⟩:=hD;obtain⟨⟨n,g⟩,q5,q6⟩:=q1.out;exact acO ho q5 h1 hk h2 h3 q6 q2 q3 (by rw[q4,MT])
  ·exact hD.elim
 ·rename_i c ho;split at h
  ·rename_i aY;split at h
   ·rename_i x y t t' ha ht;obtain⟨⟨elem,sz,z⟩,h1,hA⟩:=h.out;obtain⟨a,h2,hB⟩:=hA.out;obtain⟨b,h3,hC⟩:=hB.out;rcases H8 hC with⟨id,off,n,c0,e1,hD⟩|⟨n,l,e,e1,hD⟩
    ·clear h hA hB hC;subst e1;obtain⟨⟨m,l'⟩,h4,rfl,g2,g3,g4,g5,hE⟩:=hD.out;split at hE
     ·rename_i hk;obtain⟨rfl,rfl,g6,g7,g8⟩:=hE;exact acG ho aY (nc ha) (rW ht) h1 h2 g2 hk rfl h3 h4 g6 g3 g4 g5 (by rw[g7,g8])
     ·exact hE.elim
    ·clear h hA hB hC;subst e1;obtain⟨⟨m,l'⟩,h4,h5,h6,h7,h8⟩:=hD.out;cases e with
     |exact=>
      rcases Qt (t:=⟨0⟩) h8 with⟨_,h0,e1,e2⟩|⟨_,e1,e2⟩
      ·exact acH ho aY (nc ha) (rW ht) h1 h2 h3 h4 h5 h6 h7 h0 (by rw[e1,e2])
      ·exact step_append ho aY (nc ha) (rW ht) h1 h2 h3 h4 h5 h6 h7 (by show (_:AS)=_;rw[<- e1,<- e2])
     |shut=>
      obtain⟨e0,e1,e2⟩:=h8;exact step_append ho aY (nc ha) (rW ht) h1 h2 h3 h4 h5 h6 h7 ⟨e0,by rw[<- e1,<- e2]⟩
     |opn i=>
      obtain⟨e0,e0',e1,e2⟩:=h8;exact step_append ho aY (nc ha) (rW ht) h1 h2 h3 h4 h5 h6 h7 ⟨e0,e0',by rw[<- e1,<- e2]⟩
   ·exact h.elim
  ·rename_i x aY;obtain⟨f,h1,hA⟩:=h.out;obtain⟨aG,h2,hB⟩:=hA.out;obtain⟨a0,H0,g1,g2,g3⟩:=hB;subst g2 g3;exact Nd ho aY h1 h2 (g1.mono (λa H h=>by rw[h.1,h.2]) λ_ _ h=>h.elim)
  ·rename_i x name aY;obtain⟨f,h1,hA⟩:=h.out;obtain⟨aG,h2,hB⟩:=hA.out;obtain⟨a0,H0,g1,g2,g3⟩:=hB;subst g2 g3;exact acK ho aY h1 h2 (λE V cv vs hc hd oU=>(g1 E V cv vs hc hd oU).mono (λ_ _ x=>Nx.mono (λ_ _ y=>y.mono (λa H h=>by rw[h.1,h.2]) λ_ _ h=>h.elim) x) λ_ _ y=>y.mono (λa H h=>by rw[h.1,h.2]) λ_ _ h=>h.elim)
  ·exact h.elim
 ·rename_i t x y ho;obtain⟨⟨e,sz,z⟩,h1,hA⟩:=h.out;obtain⟨a,h2,hB⟩:=hA.out;obtain⟨b,h3,hC⟩:=hB.out;obtain⟨j,n,e1,hD⟩:=nZ hC;obtain⟨j',n',e2,hE⟩:=nZ hD;clear h hA hB hC hD;subst e1 e2;obtain⟨e3,h4,h5,h6,h7⟩:=hE;subst e3;obtain⟨m,rfl⟩:∃m:Nat,n'=m:=⟨n'.toNat,by omega⟩;exact acL ho h1 h2 h3 (by omega) (by rw[VA]at h6 h7;rw[h6,h7])
 ·rename_i t len parts ho;obtain⟨⟨e,sz,z⟩,h1,h2,hA⟩:=h.out;obtain⟨l7,h3,hB⟩:=hA.out;obtain⟨l,h4,h5,h6⟩:=hB.out;exact acJ ho h1 h2 h3 h4 (by rw[h5,h6])
 ·exact h.elim
theorem jW.congr{T T':List (Nat×AV)}{H:List aa}(h:∀x∈o.op.operands,AS.ev ⟨T,H⟩ x=AS.ev ⟨T',H⟩ x)(ha:jW lv P G ⟨T,H⟩ o k):jW lv P G ⟨T',H⟩ o k:=by
 unfold jW at ha⊢;generalize o.op=op at h ha⊢;cases op with
 |box t x=>dsimp only at ha⊢;rw[<- h x (by simp[Tv])];exact ha
 |alloc t=>exact ha
 |store t x y=>dsimp only at ha⊢;rw[<- h x (by simp[Tv]),<- h y (by simp[Tv])];exact ha
 |call c=>
  have cK:∀x∈c.args.toList,AS.ev ⟨T,H⟩ x=AS.ev ⟨T',H⟩ x:=λx hx=>h x (by simp[Tv,VO];exact .inr (by simpa using hx));dsimp only at ha⊢;split at ha
  ·split at ha
   ·rename_i x y t t' hx ht;rw[hx]at cK;rw[<- cK x (by simp),<- cK y (by simp)];exact ha
   ·exact ha.elim
  ·rename_i x aY;rw[<- h x (by simp[Tv,VO,aY]),<- BA _ cK];exact ha
  ·rename_i x name aY;rw[<- h x (by simp[Tv,VO,aY]),<- BA _ cK];exact ha
  ·exact ha.elim
 |makeSlice t x y=>dsimp only at ha⊢;rw[<- h x (by simp[Tv]),<- h y (by simp[Tv])];exact ha
 |buildSlice t len parts=>
  have e:j4 ⟨T',H⟩ parts.toList=j4 ⟨T,H⟩ parts.toList:=by
   have hp:∀p∈parts.toList,AS.ev ⟨T,H⟩ p.2=AS.ev ⟨T',H⟩ p.2:=λp hp=>h p.2 (by simp[Tv];exact⟨p.1,by simpa using hp⟩);clear ha;generalize parts.toList=l at hp;induction l with
   |nil=>rfl
   |cons p l ih=>simp only[j4,hp p TD,ih λq hq=>hp q (Tb _ hq)]
  dsimp only at ha⊢;rw[e];exact ha
 |_=>exact ha.elim
end
def nk (acc:List (Nat×List Nat))(j:Nat):List Nat:=((acc.find? (·.1==j)).map (·.2)).getD []
def gC (ops:Array Tx):List Nat->List (Nat×List Nat)->List (Nat×List Nat)
 |[],acc=>acc
 |i::l,acc=>match ops[i]?with
  |some o=>gC ops l ((i,(cP o++(cP o).flatMap (nk acc)).eraseDups)::acc)
  |none=>gC ops l acc
def tF:List Nat->List (List Nat)
 |[]=>[[]]
 |x::l=>tF l++(tF l).map (x::·)
def wm (cl:List (Nat×List Nat))(es:List Nat)(i:Nat)(D:List Nat):Bool:=
 !D.contains i&&es.all λe=>(!(nk cl i).contains e||D.contains e)&&(!D.contains e||(!(nk cl e).contains i&&es.all λe'=> !(nk cl e).contains e'||D.contains e'))
def tj (es:List Nat)(i:Nat)(D:List Nat):List Nat:=es.filter λe=>e==i||D.contains e
structure qE where
 i:Nat
 eff:Bool
 aft:List Nat
 Mq:List (List Nat×List Nat)
 deriving DecidableEq
def entry (cl:List (Nat×List Nat))(es X:List Nat)(i:Nat):qE:=
 let cur:=es.filter λe=>X.contains e
 ⟨i,es.contains i,tj es i cur,((tF es).filter λD=>wm cl es i D&&D !=cur).map λD=>(D,tj es i D)⟩
def qn (cl:List (Nat×List Nat))(es:List Nat):List Nat->List Nat->List qE
 |_,[]=>[]
 |X,i::B=>entry cl es X i::qn cl es (i::X) B
def abF (ops:Array Tx)(es ord:List Nat):List qE:=qn (gC ops ord []) es [] ord
def ko (ops:Array Tx):List Nat->List Nat->Bool
 |_,[]=>true
 |X,i::B=> !X.contains i&&(match ops[i]?with
  |some o=>(cP o).all X.contains
  |none=>false)&&ko ops (i::X) B
def qQ (nt:Nat)(ops:Array Tx)(es ord:List Nat):Bool:=
 let cl:=gC ops ord [];decide (ord.length=ops.size)&&ko ops [] ord&&ord.all λi=>match ops[i]?with
  |some o=>o.dst.all (·<nt)&& !ml o.op&&o.guard.isNone&&
   (ord.all λj=>i==j||match o.dst,cX ops j with
    |some d,some d'=>d !=d'
    |_,_=>true)&&
   (o.op.operands.toList.all λx=>match x with
    |.tmp t=>ord.all λj=>cX ops j !=some t||(cP o).contains j||(nk cl j).contains i
    |_=>true)
  |none=>false
theorem Qw{acc:List (Nat×List Nat)}{j k:Nat}(h:k∈nk acc j):∃l,(j,l)∈acc/\k∈l:=by
 unfold nk at h;cases e:acc.find? (·.1==j)with
 |none=>rw[e]at h;simp at h
 |some x=>
  rw[e]at h;obtain⟨j',l⟩:=x;have h1:=List.mem_of_find?_eq_some e;have h2:=List.find?_some e;simp only[beq_iff_eq]at h2;subst h2;exact⟨l,h1,by simpa using h⟩
theorem Iv{ops:Array Tx}:∀(ord:List Nat)(acc:List (Nat×List Nat)),(∀i l,(i,l)∈acc->∀j∈l,Reach ops i j)->∀i l,(i,l)∈gC ops ord acc->∀j∈l,Reach ops i j
 |[],acc,h=>h
 |x::ord,acc,h=>by
  unfold gC;split
  ·rename_i o ho;refine Iv ord _ λi l hm j hj=> ?_;rcases SL.1 hm with e|hm
   ·cases e;rw[Zb,SS]at hj;rcases hj with hj|hj
    ·exact .IT ho hj
    ·obtain⟨k,hk,hj⟩:=S5.1 hj;obtain⟨l',h1,h2⟩:=Qw hj;exact .more ho hk (h _ _ h1 _ h2)
   ·exact h i l hm j hj
  ·exact Iv ord acc h
theorem yN{ops:Array Tx}{ord:List Nat}{i j:Nat}(h:j∈nk (gC ops ord []) i):Reach ops i j:=by
 obtain⟨l,h1,h2⟩:=Qw h;exact Iv ord [] (by simp) i l h1 j h2
theorem EE(p:Nat->Bool):∀l:List Nat,l.filter p∈tF l
 |[]=>by simp[tF]
 |x::l=>by
  unfold tF;rw[SS];by_cases h:p x=true
  ·rw[YJ h];exact .inr (Td.2 ⟨_,EE p l,rfl⟩)
  ·rw[YK h];exact .inl (EE p l)
structure yw (nt:Nat)(ops:Array Tx)(ord:List Nat):Prop where
 full:∀i,i<ops.size->i∈ord
 lt:∀i∈ord,i<ops.size
 top:ko ops [] ord=true
 dst:∀(i:Nat) o d,ops[i]?=some o->o.dst=some d->d<nt
 vA:∀(i:Nat) o,ops[i]?=some o->ml o.op=false
 BL:∀(i:Nat) o,ops[i]?=some o->o.guard=none
 AB:∀(i j d:Nat),cX ops i=some d->cX ops j=some d->i=j
 Mo:∀(i:Nat) o t j,ops[i]?=some o-> .tmp t∈o.op.operands->cX ops j=some t->j∈cP o\/Reach ops j i
theorem Dr{ops:Array Tx}:∀{ord X:List Nat},ko ops X ord=true->ord.Nodup/\(∀i∈ord,i∉X)/\∀i∈ord,i<ops.size
 |[],_,_=>⟨WO,by simp,by simp⟩
 |i::B,X,h=>by
  simp only[ko,Tc,TV,Un,decide_eq_false_iff_not]at h;obtain⟨⟨h1,h2⟩,h3⟩:=h;obtain⟨q1,q2,q3⟩:=Dr h3;refine⟨VS.2 ⟨λhm=>q2 i hm (TD ..),q1⟩,λj hj=> ?_,λj hj=> ?_⟩
  ·rcases SL.1 hj with rfl|hj
   ·exact h1
   ·exactλhx=>q2 j hj (Tb _ hx)
  ·rcases SL.1 hj with rfl|hj
   ·apply Tl;intro hn;rw[Yz (by omega)]at h2;cases h2
   ·exact q3 j hj
theorem qQ.out{nt:Nat}{ops:Array Tx}{es ord:List Nat}(h:qQ nt ops es ord=true):yw nt ops ord:=by
 unfold qQ at h;simp only[Tc,decide_eq_true_eq]at h;obtain⟨⟨hlen,nI⟩,h⟩:=h;obtain⟨v6,_,hlt⟩:=Dr nI;have zt:∀i,i<ops.size->i∈ord:=λi hi=>by
  apply Tl;intro hn;have lO:(i::ord)⊆SZ ops.size:=λj hj=>by
   rcases SL.1 hj with rfl|hj
   ·simpa using hi
   ·simpa using hlt j hj
  have:=(VS.2 ⟨hn,v6⟩).length_le_of_subset lO;simp at this;omega
 have key:∀(i:Nat) o,ops[i]?=some o->o.dst.all (·<nt)=true/\ml o.op=false/\o.guard.isNone=true/\(∀j∈ord,(i==j||match o.dst,cX ops j with
    |some d,some d'=>d !=d'
    |_,_=>true)=true)/\(∀x∈o.op.operands.toList,(match x with
    |.tmp t=>ord.all λj=>cX ops j !=some t||(cP o).contains j||(nk (gC ops ord []) j).contains i
    |_=>true)=true):=λi o ho=>by
  have hi:i<ops.size:=(SU.1 ho).1;have:=TA.1 h i (zt i hi);rw[ho]at this;simp only[Tc,TA,TV]at this;exact⟨this.1.1.1.1,this.1.1.1.2,this.1.1.2,this.1.2,this.2⟩
 have Rf:∀j d,cX ops j=some d->j<ops.size:=λj d e=>by
  apply Tl;intro hn;rw[cX,Yz (by omega)]at e;cases e
 refine⟨zt,hlt,nI,λi o d ho hd=> ?_,λi o ho=>(key i o ho).2.1,λi o ho=>by simpa using(key i o ho).2.2.1,λi j d hi hj=> ?_,λi o t j ho ht hj=> ?_⟩
 ·have:=(key i o ho).1;rw[hd]at this;simpa using this
 ·apply Tl;intro aE;obtain⟨o,ho,sO⟩:=Tg.1 hi;have:=(key i o ho).2.2.2.1 j (zt j (Rf j d hj));rw[sO,hj]at this;simp[aE]at this
 ·have:=(key i o ho).2.2.2.2 (.tmp t) (by simpa using ht);simp only[TA]at this;have:=this j (zt j (Rf j t hj));rw[hj]at this;simp only[bne_self_eq_false,ZB,X8,Un,decide_eq_true_eq]at this;exact this.imp id yN
section
variable (lv:Bool)(P:SJ)(Hf:List Nat->List aa)
def BQ (T:List (Nat×AV))(o:Tx)(av:AV):List (List Nat×List Nat)->Prop
 |[]=>True
 |(D,_)::l=>(AQ lv P ⟨T,Hf D⟩ o λa=>a=av)/\BQ T o av l
def BE (T:List (Nat×AV))(o:Tx)(av:AV):List (List Nat×List Nat)->Prop
 |[]=>True
 |(D,D')::l=>(jW lv P (Hf D') ⟨T,Hf D⟩ o λa H'=>a=av/\H'=Hf D')/\BE T o av l
structure AR (K:AS->Prop):Type where
 n:Nat
def fU (ops:Array Tx):List qE->AS->(K:AS->Prop)->AR K->Prop
 |[],s,K,_=>K s
 |⟨i,false,_,l⟩::rest,s,K,t=>ao (ops[i]?) λo=>AQ lv P s o λav=>BQ lv P Hf s.T o av l/\fU ops rest (s.put o.dst av) K t
 |⟨i,true,D,l⟩::rest,s,K,t=>ao (ops[i]?) λo=>jW lv P (Hf D) s o λav H'=>H'=Hf D/\BE lv P Hf s.T o av l/\fU ops rest ((⟨s.T,H'⟩:AS).put o.dst av) K t
end
def TX (ops:Array Tx)(T0:List (Nat×AV))(f:Nat->AV):List Nat->List (Nat×AV)
 |[]=>T0
 |i::X=>match cX ops i with
  |some d=>(d,f i)::TX ops T0 f X
  |none=>TX ops T0 f X
section
variable {ops:Array Tx}{T0:List (Nat×AV)}{f g:Nat->AV}
theorem A2:∀{X:List Nat},(∀j∈X,f j=g j)->TX ops T0 f X=TX ops T0 g X
 |[],_=>rfl
 |i::X,h=>by
  simp only[TX,A2 (X:=X) λj hj=>h j (Tb _ hj),h i (TD ..)]
theorem A3(aab:∀(i j d:Nat),cX ops i=some d->cX ops j=some d->i=j):∀{X:List Nat}{j t:Nat},j∈X->cX ops j=some t->look (TX ops T0 f X) t=some (f j)
 |i::X,j,t,hj,ht=>by
  by_cases kg:i=j
  ·subst kg;simp[TX,ht,look]
  ·have im:j∈X:=(SL.1 hj).resolve_left (Ne.symm kg);have ih:=A3 aab (X:=X) im ht;unfold TX;split
   ·rename_i d hd;have:d≠t:=λe=>kg (aab i j d hd (by rw[e];exact ht));simp only[look,if_neg this];exact ih
   ·exact ih
theorem wQ:∀{X:List Nat}{t:Nat},(∀j∈X,cX ops j≠some t)->look (TX ops T0 f X) t=look T0 t
 |[],_,_=>rfl
 |i::X,t,h=>by
  have ih:=wQ (X:=X) (t:=t) λj hj=>h j (Tb _ hj);unfold TX;split
  ·rename_i d hd;have:d≠t:=λe=>h i (TD ..) (by rw[hd,e]);simp only[look,if_neg this];exact ih
  ·exact ih
theorem wR{H:List aa}{X:List Nat}{i:Nat}{o:Tx}{av:AV}(ho:ops[i]?=some o)(hf:f i=av):(⟨TX ops T0 f X,H⟩:AS).put o.dst av=⟨TX ops T0 f (i::X),H⟩:=by
 have hd:cX ops i=o.dst:=by simp[cX,ho]
 have e:TX ops T0 f (i::X)=match cX ops i with
  |some d=>(d,f i)::TX ops T0 f X
  |none=>TX ops T0 f X:=rfl
 rw[e,hd];cases o.dst with
 |none=>rfl
 |some d=>simp[AS.put,hf]
def kS (ops:Array Tx)(X:List Nat):Prop:=∀i∈X,∀o,ops[i]?=some o->∀j∈cP o,j∈X
theorem kS.reach{X:List Nat}(hX:kS ops X){i j:Nat}(hi:i∈X)(h:Reach ops i j):j∈X:=An hX h λo ho k hk=>hX i hi o ho k hk
theorem kS.cons{X:List Nat}(hX:kS ops X){i:Nat}{o:Tx}(ho:ops[i]?=some o)(hd:∀j∈cP o,j∈X):kS ops (i::X):=λk hk o' bc j hj=>by
 rcases SL.1 hk with rfl|hk
 ·rw[ho]at bc;cases bc;exact Tb _ (hd j hj)
 ·exact Tb _ (hX k hk o' bc j hj)
theorem adQ{nt:Nat}{ord:List Nat}(az:yw nt ops ord){X X':List Nat}{i:Nat}{o:Tx}(ho:ops[i]?=some o)(hX:kS ops X)(oe:kS ops X')(hi:i∉X)(cD:i∉X')(hd:∀j∈cP o,j∈X)(cC:∀j∈cP o,j∈X'){t:Nat}(ht: .tmp t∈o.op.operands):
  look (TX ops T0 f X) t=look (TX ops T0 f X') t:=by
 by_cases hex:∃j,cX ops j=some t
 ·obtain⟨j,hj⟩:=hex;rcases az.Mo i o t j ho ht hj with h|h
  ·rw[A3 az.AB (hd j h) hj,A3 az.AB (cC j h) hj]
  ·rw[wQ λj' im e=>hi (hX.reach (az.AB j j' t hj e▸im) h),wQ λj' im e=>cD (oe.reach (az.AB j j' t hj e▸im) h)]
 ·rw[wQ λj _ e=>hex ⟨j,e⟩,wQ λj _ e=>hex ⟨j,e⟩]
end
section
variable {lv:Bool}{P:SJ}{r:Option Nat}{ops:Array Tx}{Hf:List Nat->List aa}{T0:List (Nat×AV)}{es ord:List Nat}{nt:Nat}
def done (es X:List Nat):List Nat:=es.filter λe=>X.contains e
theorem Ew{X:List Nat}{i:Nat}:tj es i (done es X)=done es (i::X):=by
 unfold tj done;apply Vj;intro e he;by_cases h:e=i
 ·subst h;simp
 ·simp[Ud,he,h]
theorem IK{X:List Nat}{i:Nat}(hi:i∉es):done es (i::X)=done es X:=by
 unfold done;apply Vj;intro e he;have:e≠i:=λh=>hi (h▸he);simp[this]
theorem IL{X:List Nat}(hX:kS ops X){i:Nat}{o:Tx}(ho:ops[i]?=some o)(hi:i∉X)(hd:∀j∈cP o,j∈X):wm (gC ops ord []) es i (done es X)=true:=by
 have cM:∀e,e∈es->(e∈done es X<->e∈X):=λe he=>by simp[done,Ud,he]
 have hX2:=hX.cons ho hd;unfold wm;simp only[Tc,TV,Un,decide_eq_false_iff_not,TA,X8,decide_eq_true_eq];refine⟨λh=>hi (by simpa[done]using(Ud.1 h).2),λe he=>⟨?_,?_⟩⟩
 ·by_cases h:e∈nk (gC ops ord []) i
  ·right;rw[cM e he];exact An hX (yN h) λo' bc k hk=>by rw[ho]at bc;cases bc;exact hd k hk
  ·exact .inl h
 ·by_cases h:e∈X
  ·right;refine⟨λhm=>hi (hX.reach h (yN hm)),λe' j9=> ?_⟩;by_cases hm:e'∈nk (gC ops ord []) e
   ·right;rw[cM e' j9];exact hX.reach h (yN hm)
   ·exact .inl hm
  ·left;rw[cM e he];exact h
def OB (lv:Bool)(P:SJ)(r:Option Nat)(ops:Array Tx)(Hf:List Nat->List aa)(T0:List (Nat×AV))(es:List Nat)(f:Nat->AV)(i:Nat)(o:Tx)(X:List Nat):Prop:=
 if i∈es then jW lv P (Hf (done es (i::X))) ⟨TX ops T0 f X,Hf (done es X)⟩ o (λa H'=>a=f i/\H'=Hf (done es (i::X)))
 else∃T,(∀t a,look T t=some a->look (TX ops T0 f X) t=some a)/\dz lv P r o ⟨T,Hf (done es X)⟩ (f i)
theorem BQ.mem{T:List (Nat×AV)}{o:Tx}{av:AV}:∀{l:List (List Nat×List Nat)},BQ lv P Hf T o av l->∀p∈l,AQ lv P ⟨T,Hf p.1⟩ o λa=>a=av
 |(D,D')::l,h,p,hp=>by
  rcases SL.1 hp with rfl|hp
  ·exact h.1
  ·exact BQ.mem h.2 p hp
theorem BE.mem{T:List (Nat×AV)}{o:Tx}{av:AV}:∀{l:List (List Nat×List Nat)},BE lv P Hf T o av l->∀p∈l,jW lv P (Hf p.2) ⟨T,Hf p.1⟩ o λa H'=>a=av/\H'=Hf p.2
 |(D,D')::l,h,p,hp=>by
  rcases SL.1 hp with rfl|hp
  ·exact h.1
  ·exact BE.mem h.2 p hp
def canon (T:List (Nat×AV)):List Tm->List (Nat×AV)
 |[]=>[]
 |.tmp t::l=>match look T t with
  |some a=>(t,a)::canon T l
  |none=>canon T l
 |_::l=>canon T l
theorem It{T:List (Nat×AV)}:∀{l:List Tm}{t:Nat}{a:AV},look (canon T l) t=some a->look T t=some a
 |[],_,_,h=>by cases h
 |x::l,t,a,h=>by
  have ih:=@It T l t a;cases x with
  |tmp t'=>
   simp only[canon]at h;split at h
   ·rename_i b hb;simp only[look]at h;split at h
    ·rename_i e;subst e;cases h;exact hb
    ·exact ih h
   ·exact ih h
  |_=>exact ih h
theorem OW{T:List (Nat×AV)}:∀{l:List Tm}{t:Nat},.tmp t∈l->look (canon T l) t=look T t
 |x::l,t,h=>by
  by_cases hx:x=.tmp t
  ·subst hx;simp only[canon];split
   ·rename_i b hb;simp[look,hb]
   ·rename_i hb;rw[hb];cases e:look (canon T l) t with
    |none=>rfl
    |some a=>have:=It e;rw[hb]at this;cases this
  ·have hm: .tmp t∈l:=(SL.1 h).resolve_left (Ne.symm hx);have ih:=OW (T:=T) hm;cases x with
   |tmp t'=>
    have aE:t'≠t:=λe=>hx (by rw[e]);simp only[canon];split
    ·simp only[look,if_neg aE];exact ih
    ·exact ih
   |_=>exact ih
theorem OV{T:List (Nat×AV)}:∀{l:List Tm}{t:Nat}{a:AV},look (canon T l) t=some a-> .tmp t∈l
 |[],_,_,h=>by cases h
 |x::l,t,a,h=>by
  have ih:=@OV T l t a;cases x with
  |tmp t'=>
   simp only[canon]at h;split at h
   ·simp only[look]at h;split at h
    ·rename_i e;subst e;exact TD ..
    ·exact Tb _ (ih h)
   ·exact Tb _ (ih h)
  |_=>exact Tb _ (ih h)
theorem OU{T:List (Nat×AV)}{H:List aa}{l:List Tm}{x:Tm}(h:x∈l):AS.ev ⟨T,H⟩ x=AS.ev ⟨canon T l,H⟩ x:=by
 cases x with
 |tmp t=>exact(OW h).symm
 |_=>rfl
theorem Bq(az:yw nt ops ord){K:AS->Prop}{tk:AR K}:∀(B X:List Nat)(acc:Nat->AV),ko ops X B=true->kS ops X->fU lv P Hf ops (qn (gC ops ord []) es X B) ⟨TX ops T0 acc X,Hf (done es X)⟩ K tk->
  ∃f,(∀j∈X,f j=acc j)/\(∀i∈B,∀o,ops[i]?=some o->∀X',kS ops X'->i∉X'->(∀j∈cP o,j∈X')->OB lv P r ops Hf T0 es f i o X')/\K ⟨TX ops T0 f (B.reverse++X),Hf (done es (B.reverse++X))⟩
 |[],X,acc,_,_,h=>⟨acc,λ_ _=>rfl,by simp,by simpa[qn,fU]using h⟩
 |i::B,X,acc,nI,hX,h=>by
  have atp:=nI;simp only[ko,Tc,TV,Un,decide_eq_false_iff_not]at nI;obtain⟨⟨hi,h2⟩,h3⟩:=nI;cases ho:ops[i]?with
  |none=>rw[ho]at h2;cases h2
  |some o=>
  rw[ho]at h2;have hd:∀j∈cP o,j∈X:=λj hj=>by have:=TA.1 h2 j hj;simpa using this
  have oe:=hX.cons ho hd;have ata:wm (gC ops ord []) es i (done es X)=true:=IL hX ho hi hd;have Mq:∀D,D∈tF es->wm (gC ops ord []) es i D=true->D≠done es X->(D,tj es i D)∈((tF es).filter λD=>wm (gC ops ord []) es i D&&D !=done es X).map λD=>(D,tj es i D):=λD h1 h2 h3=>Td.2 ⟨D,Ud.2 ⟨h1,by simp[h2,h3]⟩,rfl⟩;have N4:∀av:AV,TX ops T0 acc X=TX ops T0 (λj=>if j=i then av else acc j) X:=λav=>A2 λj hj=>by
   have:j≠i:=λe=>hi (e▸hj);simp[this]
  have seen:∀(f:Nat->AV) X',(∀j∈X,f j=acc j)->kS ops X'->i∉X'->(∀j∈cP o,j∈X')->∀(H:List aa),∀x∈o.op.operands,AS.ev ⟨TX ops T0 acc X,H⟩ x=AS.ev ⟨TX ops T0 f X',H⟩ x:=λf X' hf hc hn cC H x hx=>by
   cases x with
   |tmp t=>
    show look _ t=look _ t;rw[<- A2 (f:=f) (g:=acc) hf];exact adQ az ho hX hc hi hn hd cC hx
   |_=>rfl
  unfold qn at h;by_cases dw:i∈es
  ·have J9:entry (gC ops ord []) es X i=⟨i,true,tj es i (done es X),((tF es).filter λD=>wm (gC ops ord []) es i D&&D !=done es X).map λD=>(D,tj es i D)⟩:=by
    unfold entry done;simp[dw]
   rw[J9,fU,ho,ao]at h;obtain⟨av,H',g1,e1,g2,g3⟩:=h.ex;subst e1;rw[Ew]at g1 g3;rw[N4 av,wR ho (by simp)]at g3;obtain⟨f,q1,q2,q3⟩:=Bq az B (i::X) _ h3 oe g3;have zr:f i=av:=(by have:=q1 i (TD ..);simpa using this);have Cc:∀j∈X,f j=acc j:=λj hj=>by
    have:=q1 j (Tb _ hj);have aE:j≠i:=λe=>hi (e▸hj);simpa[aE]using this
   refine⟨f,Cc,λk hk o' bc X' hc hn cC=> ?_,by simpa using q3⟩;rcases SL.1 hk with rfl|hk
   ·rw[ho]at bc;cases bc;unfold OB;rw[if_pos dw,zr];refine jW.congr (T:=TX ops T0 acc X) (seen f X' Cc hc hn cC _) ?_;by_cases hD:done es X'=done es X
    ·rw[<- Ew,hD,Ew];exact g1
    ·have:=g2.mem _ (Mq _ (EE _ es) (IL hc ho hn cC) hD);rw[<- Ew];exact this
   ·exact q2 k hk o' bc X' hc hn cC
  ·have J9:entry (gC ops ord []) es X i=⟨i,false,tj es i (done es X),((tF es).filter λD=>wm (gC ops ord []) es i D&&D !=done es X).map λD=>(D,tj es i D)⟩:=by
    unfold entry done;simp[dw]
   rw[J9,fU,ho,ao]at h;have h':=AQ.congr (T':=canon (TX ops T0 acc X) o.op.operands.toList) (λx hx=>OU (by simpa using hx)) h;obtain⟨av,g1,g2,g3⟩:=h'.sound (r:=r);rw[N4 av,wR ho (by simp),<- IK (X:=X) dw]at g3;obtain⟨f,q1,q2,q3⟩:=Bq az B (i::X) _ h3 oe g3;have zr:f i=av:=(by have:=q1 i (TD ..);simpa using this);have Cc:∀j∈X,f j=acc j:=λj hj=>by
    have:=q1 j (Tb _ hj);have aE:j≠i:=λe=>hi (e▸hj);simpa[aE]using this
   refine⟨f,Cc,λk hk o' bc X' hc hn cC=> ?_,by simpa using q3⟩;rcases SL.1 hk with rfl|hk
   ·rw[ho]at bc;cases bc;unfold OB;rw[if_neg dw,zr];refine⟨canon (TX ops T0 acc X) o.op.operands.toList,λt a e=> ?_,?_⟩
    ·have h1:=seen f X' Cc hc hn cC [] (.tmp t) (by simpa using OV e);have h2:look (TX ops T0 acc X) t=look (TX ops T0 f X') t:=h1;rw[<- h2];exact It e
    ·by_cases hD:done es X'=done es X
     ·rw[hD];exact g1
     ·have h1:=g2.mem _ (Mq _ (EE _ es) (IL hc ho hn cC) hD);have h2:=AQ.congr (T':=canon (TX ops T0 acc X) o.op.operands.toList) (λx hx=>OU (by simpa using hx)) h1;obtain⟨mI,h3,rfl⟩:=h2.sound (r:=r);exact h3
   ·exact q2 k hk o' bc X' hc hn cC
theorem D7{f:Nat->AV}(az:yw nt ops ord){X X':List Nat}(h:∀i,i∈X<->i∈X')(t:Nat):look (TX ops T0 f X) t=look (TX ops T0 f X') t:=by
 by_cases hex:∃j∈X,cX ops j=some t
 ·obtain⟨j,hj,hd⟩:=hex;rw[A3 az.AB hj hd,A3 az.AB ((h j).1 hj) hd]
 ·rw[wQ λj hj e=>hex ⟨j,hj,e⟩,wQ λj hj e=>hex ⟨j,(h j).2 hj,e⟩]
theorem Ey{X X':List Nat}(h:∀i,i∈X<->i∈X'):done es X=done es X':=by
 unfold done;apply Vj;intro e _;have:=h e;by_cases h1:e∈X
 ·have h2:=this.1 h1;simp[h1,h2]
 ·have h2:e∉X':=λx=>h1 (this.2 x);simp[h1,h2]
theorem agM{f:Nat->AV}(az:yw nt ops ord)(au:∀i∈ord,∀o,ops[i]?=some o->∀X',kS ops X'->i∉X'->(∀j∈cP o,j∈X')->OB lv P r ops Hf T0 es f i o X'){X l:List Nat}(hs:lZ ops X l):
  (∀i∈X,i<ops.size)->kS ops X->∀(E:Env)(V:View)(a:Act)(Q:Ex->Act->View->Prop),At E V ⟨TX ops T0 f X,Hf (done es X)⟩ a nt->
   (∀E' V' a' X',Kept E E' V V' a a'->At E' V' ⟨TX ops T0 f X',Hf (done es X')⟩ a' nt->(∀i,i∈X'<->i<ops.size)->Q .normal a' V')->dj lv P r ops Q l a V:=by
 induction hs with
 |nil X h=>
  intro hX hc E V a Q ah hQ;exact hQ E V a X (Kept.refl E V a) ah λi=>⟨hX i,h i⟩
 |cons o ho hn hd lL ih=>
  rename_i X i l;intro hX hc E V a Q ah hQ;have hi:i<ops.size:=(SU.1 ho).1;simp only[dj,ho];have oe:∀k∈i::X,k<ops.size:=λk hk=>(SL.1 hk).elim (λe=>by rw[e];exact hi) (hX k);have bi:=hc.cons ho hd;have hw:Tj o (yielded ops a.tmps)=true:=by unfold Tj;rw[az.BL i o ho]
  rw[if_pos hw];refine .inl ?_;have dn:∀d,o.dst=some d->d<a.tmps.size:=λd e=>by rw[ah.size];exact az.dst i o d ho e
  have lK:=au i (az.full i hi) o ho X hc hn hd;unfold OB at lK;by_cases dw:i∈es
  ·rw[if_pos dw]at lK;have aQ:=lK.step (r:=r) (bad:=λ_ _=>False);refine aQ E V a _ Q ah.bu ah.tok dn (.inr (az.vA i o ho)) (λE' V' a' s' hk cT ht e=> ?_) λ_ _ _ _ _ _ _ _ _ h=>h.elim;subst e;rw[wR ho rfl]at ht cT;exact ih oe bi E' V' a' Q ⟨cT,ht,hk.size.trans ah.size⟩ λbQ aS cm mF aI de fD=>hQ bQ aS cm mF (hk.trans aI) de fD
  ·rw[if_neg dw]at lK;obtain⟨T,hT,hq⟩:=lK;refine hq E V a _ Q ah.bu (λt av e=>ah.tok t av (hT t av e)) (.inr (az.vA i o ho)) λE' V' v hle ce eZ cT hv=> ?_;have ht:cj E' ((⟨TX ops T0 f X,Hf (done es X)⟩:AS).put o.dst (f i)).T (a.put o.dst v).tmps:=cj.gQ (s:=⟨TX ops T0 f X,Hf (done es X)⟩) (ah.tok.mono hle) dn hv;rw[wR ho rfl]at ht;refine ih oe bi E' V' (a.put o.dst v) Q ⟨by rw[IK dw];exact cT,ht,(d_ _ _ _).trans ah.size⟩ λbQ aS cm mF hk de fD=>
    hQ bQ aS cm mF ⟨hle.trans hk.le,hk.size.trans (d_ _ _ _),hk.defers.trans (put_defers _ _ _),hk.role.trans ce,hk.deaf.trans eZ⟩ de fD
theorem afi{s:AS}{id:Nat}{Φ:an->AS->Prop}(es ord:List Nat)(pl:List qE)(Hf:List Nat->List aa)(hm:P.follows .mixedOrders=true)(az:qQ nt ops es ord=true)(cO:abF ops es ord=pl)(h0:s.H=Hf [])
  (h:fU lv P Hf ops pl s (Φ .normal) ⟨0⟩):aW lv P r nt (.region id ops true) s Φ:=by
 intro E V a Q ah hQ;have az:=qQ.out az;obtain⟨v6,_,hlt⟩:=Dr az.top;have dK:s=⟨TX ops s.T (λ_=> .val undef) [],Hf (done es [])⟩:=by
  have:done es []=[]:=by simp[done]
  rw[this,<- h0];rfl
 subst cO;have h':fU lv P Hf ops (qn (gC ops ord []) es [] ord) ⟨TX ops s.T (λ_=> .val undef) [],Hf (done es [])⟩ (Φ .normal) ⟨0⟩:=by rw[<- dK];exact h
 obtain⟨f,_,q2,q3⟩:=Bq (r:=r) az ord [] _ az.top (λi hi=>by cases hi) h';have zt:∀i,i∈ord<->i<ops.size:=λi=>⟨hlt i,az.full i⟩;refine NF λt=> ?_;rw[show VM (P.follows .mixedOrders) ops t=UE .any ops ops.size t (TK ops.size false) [] by unfold VM;rw[hm];simp[Ze]];have binds:∀(A B:List Nat)(X:List Nat),ko ops X (A++B)=true->True:=λ_ _ _ _=>trivial;have ready:∀(ord X:List Nat),ko ops X ord=true->∀A i B,ord=A++i::B->∃o,ops[i]?=some o/\∀j∈cP o,j∈A\/j∈X:=by
  intro ord;induction ord with
  |nil=>intro X _ A i B e;cases A<;>cases e
  |cons x l ih=>
   intro X nI A i B e;simp only[ko,Tc,TV,Un,decide_eq_false_iff_not]at nI;obtain⟨⟨h1,h2⟩,h3⟩:=nI;cases A with
   |nil=>
    have e1:x=i:=(by have:=congrArg List.head? e;simpa using this);rw[e1]at h2;cases ho:ops[i]?with
    |none=>rw[ho]at h2;cases h2
    |some o=>
     rw[ho]at h2;exact⟨o,rfl,λj hj=> .inr (by have:=TA.1 h2 j hj;simpa using this)⟩
   |cons y A=>
    cases e;obtain⟨o,ho,hb⟩:=ih (x::X) h3 A i B rfl;refine⟨o,ho,λj hj=> ?_⟩;rcases hb j hj with h|h
    ·exact .inl (Tb _ h)
    ·rcases SL.1 h with rfl|h
     ·exact .inl (TD ..)
     ·exact .inr h
 have hs:=L3 (ops:=ops) (λi o ho j hj=>by
   obtain⟨A,B,e⟩:=List.append_of_mem (az.full i (SU.1 ho).1);obtain⟨o',bc,hb⟩:=ready ord [] az.top A i B e;rw[ho]at bc;cases bc;rcases hb j hj with h|h
   ·exact hlt j (by rw[e];exact Ti _ h)
   ·cases h)
  (λX ⟨i,hi,hn⟩=>by
   obtain⟨A,i',B,e,h1,h2⟩:=Jd (X:=X) ⟨i,az.full i hi,hn⟩;obtain⟨o',bc,hb⟩:=ready ord [] az.top A i' B e;refine⟨i',o',bc,h1,λj hj=> ?_⟩;rcases hb j hj with h|h
   ·exact h2 j h
   ·cases h)
  ops.size t (TK ops.size false) [] ⟨by simp,λi hi=>by simp[hi]⟩ (UB Y7 (by simp))
 have sL:At E V ⟨TX ops s.T f [],Hf (done es [])⟩ a nt:=by
  have e:(⟨TX ops s.T f [],Hf (done es [])⟩:AS)=s:=dK.symm;rw[e];exact ah
 refine agM (Hf:=Hf) (es:=es) az q2 hs (by simp) (λi hi=>by cases hi) E V a Q sL λE' V' a' X' hk aR fD=> ?_;have eB:∀i,i∈X'<->i∈ord.reverse++[]:=λi=>by simp[fD,zt]
 refine hQ .normal .normal E' V' a' _ hk ⟨?_,λt x e=> ?_,aR.size⟩ trivial q3
 ·rw[<- Ey eB];exact aR.bu
 ·rw[<- D7 az eB]at e;exact aR.tok t x e
end
open Go.Proofs
theorem F.NU:lC SC 77=(SN Go.Gg.yB.map):=by kernel_rfl
theorem F.N1:eO SC 4=(SN (Xb Bool.false)):=by kernel_rfl
theorem F.N2:eO SC 88=(SN (TE #[(Xb Bool.false),(Zx Option.none),(SG S7 (0)),(SG S7 (0)),(SG S7 (0)),(SG S7 (0)),(SG S7 (0)),(SG S7 (0)),(SG S7 (0)),(SG S7 (0)),(SG S7 (0)),(SG S7 (0)),(SG S7 (0)),(SG S7 (0)),(SG S7 (0)),(SG S7 (0)),(SG S7 (0)),(SG SF (0)),(SG SF (0)),(SG SF (0)),(SG SF (0)),(SG SF (0)),(SG SF (0)),(SG SF (0)),(SG SF (0)),(SG SF (0)),(SG SF (0)),(SG SF (0))])):=by kernel_rfl
theorem F.alB:mm SC 116=(SN Bool.false):=by kernel_rfl
theorem F.CQ:mm SC 126=(SN Bool.true):=by kernel_rfl
theorem F.LB:mm SC 136=(SN Bool.false):=by kernel_rfl
theorem F.alC:mm SC 156=(SN Bool.false):=by kernel_rfl
theorem F.aal:mm SC 97=(SN Bool.false):=by kernel_rfl
theorem F.f31:SC.funcs[31]?=some Tryz.f31:=by kernel_rfl
theorem F.f71:SC.funcs[71]?=some Tryz.f71:=by kernel_rfl
theorem F.f77:SC.funcs[77]?=some XK:=by kernel_rfl
theorem F.f91:SC.funcs[91]?=some Tryz.f91:=by kernel_rfl
theorem F.f95:SC.funcs[95]?=some Tryz.f95:=by kernel_rfl
theorem F.f97:SC.funcs[97]?=some atI:=by kernel_rfl
theorem F.mixed:SC.follows .mixedOrders=true:=by kernel_rfl
inductive dG (lv:Bool)(P:SJ)(r:Option Nat)(nt:Nat):T7->(an->AS->Prop)->T7->(an->AS->Prop)->Prop
 |base {c:T7} {Φ:an->AS->Prop}:dG lv P r nt c Φ c Φ
 |seq {x y h:T7} {Φ Ψ:an->AS->Prop} (i:dG lv P r nt x (an.then (λs=>aW lv P r nt y s Φ) Φ) h Ψ):dG lv P r nt (.seq x y) Φ h Ψ
 |block {id:Nat} {x h:T7} {Φ Ψ:an->AS->Prop} (i:dG lv P r nt x (an.inBlock id Φ) h Ψ):dG lv P r nt (.block id x) Φ h Ψ
section
variable {lv:Bool}{P:SJ}{r:Option Nat}{s:AS}{nt id:Nat}{ops:Array Tx}{c h:T7}{Φ Ψ:an->AS->Prop}
theorem bH{f:TO}{H:List aa}{args:List AV}{k kp:AV->List aa->Prop}{rs:List UL}(fn:YC)
  (h:bP H->(∀a∈args,Lt H.length a)->aW lv P none nt c ⟨br 0 args,H⟩ (se P rs H.length k kp)) (hf:P.funcs[f]?=some fn:=by kernel_rfl) (hb:fn.body=some c:=by rfl) (hr:fn.results=rs.toArray:=by rfl) (hn:fn.ntmps=nt:=by rfl) (cK:args.length<=nt:=by simp):bf lv P f H args k kp:=aiJ hf hb hr hn cK h
theorem dG.go(i:dG lv P r nt c Φ h Ψ):∀{s:AS},aW lv P r nt h s Ψ->aW lv P r nt c s Φ:=by
 induction i with
 |base=>exactλh=>h
 |seq _ ih=>exactλk=>gW (ih k)
 |block _ ih=>exactλk=>Ol (ih k)
theorem ak(h:ij lv P ops ops.toList s (Ψ .normal) (λpv s=>Ψ (.panic pv) s))(i:dG lv P r nt c Φ (.region id ops false) Ψ:=by repeat first|exact .base|apply dG.seq|apply dG.block)(hd:jQ nt ops=true:=by kernel_rfl):aW lv P r nt c s Φ:=i.go (Ou hd h)
theorem asJ{o:Tm}{x y:T7}(h:ao (s.ev o) λa=>a.asBool λb=>(b=true->aW lv P r nt x s Ψ)/\(b=false->aW lv P r nt y s Ψ))(i:dG lv P r nt c Φ (.cond o x y) Ψ:=by repeat first|exact .base|apply dG.seq|apply dG.block):aW lv P r nt c s Φ:=i.go (Om h)
theorem afp(h:Ψ .normal s)(i:dG lv P r nt c Φ .skip Ψ:=by repeat first|exact .base|apply dG.seq|apply dG.block):aW lv P r nt c s Φ:=i.go (Oy h)
theorem oN(h:Ψ .ret s)(i:dG lv P r nt c Φ .ret Ψ:=by repeat first|exact .base|apply dG.seq|apply dG.block):aW lv P r nt c s Φ:=i.go (Ov h)
theorem asL(h:Ψ (.exit id) s)(i:dG lv P r nt c Φ (.exit id) Ψ:=by repeat first|exact .base|apply dG.seq|apply dG.block):aW lv P r nt c s Φ:=i.go (Oo h)
theorem cy{x:T7}(h:aW lv P r nt x s (an.inBlock id Ψ))(i:dG lv P r nt c Φ (.block id x) Ψ:=by repeat first|exact .base|apply dG.seq|apply dG.block):aW lv P r nt c s Φ:=i.go (Ol h)
theorem aj{p:Prop}(h:p)(i:dG lv P r nt c Φ (.region id ops false) Ψ:=by repeat first|exact .base|apply dG.seq|apply dG.block)(e:ij lv P ops ops.toList s (Ψ .normal) (λpv s=>Ψ (.panic pv) s)=p:=by conv=>lhs;simp only[seval])(hd:jQ nt ops=true:=by kernel_rfl):aW lv P r nt c s Φ:=i.go (Ou hd (e.mpr h))
theorem aD{p:Prop}{o:Tm}{x y:T7}(h:p)(i:dG lv P r nt c Φ (.cond o x y) Ψ:=by repeat first|exact .base|apply dG.seq|apply dG.block)(e:(ao (s.ev o) λa=>a.asBool λb=>(b=true->aW lv P r nt x s Ψ)/\(b=false->aW lv P r nt y s Ψ))=p:=by conv=>lhs;simp only[seval]):aW lv P r nt c s Φ:=i.go (Om (e.mpr h))
theorem aN{p:Prop}(h:p)(i:dG lv P r nt c Φ .skip Ψ:=by repeat first|exact .base|apply dG.seq|apply dG.block)(e:Ψ .normal s=p:=by conv=>lhs;simp only[seval]):aW lv P r nt c s Φ:=i.go (Oy (e.mpr h))
theorem aZ{p:Prop}(h:p)(i:dG lv P r nt c Φ .ret Ψ:=by repeat first|exact .base|apply dG.seq|apply dG.block)(e:Ψ .ret s=p:=by conv=>lhs;simp only[seval]):aW lv P r nt c s Φ:=i.go (Ov (e.mpr h))
theorem bZ{p:Prop}(h:p)(i:dG lv P r nt c Φ (.exit id) Ψ:=by repeat first|exact .base|apply dG.seq|apply dG.block)(e:Ψ (.exit id) s=p:=by conv=>lhs;simp only[seval]):aW lv P r nt c s Φ:=i.go (Oo (e.mpr h))
theorem dT{Φ Ψ:an->AS->Prop}{c:T7}(p:Nat)(h:mZ lv P ops (ops.toList.take p) s (λs'=>ij lv P ops (ops.toList.drop p) s' (Ψ .normal) (λpv s=>Ψ (.panic pv) s)))(i:dG lv P r nt c Φ (.region id ops true) Ψ:=by repeat first|exact .base|apply dG.seq|apply dG.block)(hm:P.follows .mixedOrders=true:=by kernel_rfl)(az:yR nt p ops=true:=by kernel_rfl):aW lv P r nt c s Φ:=i.go (afh hm p az h)
theorem qK{Φ Ψ:an->AS->Prop}{c:T7}(es ord:List Nat)(pl:List qE)(Hf:List Nat->List aa)(h:fU lv P Hf ops pl s (Ψ .normal) ⟨0⟩)(i:dG lv P r nt c Φ (.region id ops true) Ψ:=by repeat first|exact .base|apply dG.seq|apply dG.block)(hm:P.follows .mixedOrders=true:=by kernel_rfl)(az:qQ nt ops es ord=true:=by kernel_rfl)(cO:abF ops es ord=pl:=by kernel_rfl)(h0:s.H=Hf []:=by first|rfl|simp only[seval]):aW lv P r nt c s Φ:=i.go (afi es ord pl Hf hm az cO h0 h)
theorem pE(n:Nat)(V:Nat->List (Nat×AV))(Hf:Nat->List aa)(ok:Nat->Prop)(hm:ok 0)
  (h:bP s.H->(∀t a,look s.T t=some a->Lt s.H.length a)->∀m,m<=n->ok m->∀R:AS->Prop,(∀s',(m<n/\ok (m+1)/\tR s.T (V m) (V (m+1)) (Hf (m+1)) s')->R s')->aW lv P r nt c ⟨V m++s.T,Hf m⟩ (an.then R Φ)) (Ch:∀m m',(V m).map (·.1)=(V m').map (·.1):=by exactλ_ _=>rfl) (iD:∀p∈V 0,∃b,look s.T p.1=some b/\Wk b p.2:=by(simp only[seval];simp[bz,Wk.refl])) (BT:Hf 0=s.H:=by rfl) (hl:∀m,m<=n->ok m->(Hf m).length=s.H.length:=by exactλ_ _ _=>rfl):aW lv P r nt (.loop c) s Φ:=gL n V Hf ok Ch iD BT hl hm h
theorem dq{base Vi Vn T:List (Nat×AV)}{H:List aa}(hk:sg T (Vi++base) Vn:=by exact pf rfl rfl)(hv:∀p∈Vn,∃b,look T p.1=some b/\Wk b p.2:=by(simp only[seval];simp[bz,Wk.refl])):tR base Vi Vn H ⟨T,H⟩:=apt hk hv
theorem abU{base Vi Vn T:List (Nat×AV)}{H H':List aa}(az:bP H)(hg:∃G,H++G=H':=by first|exact⟨_,rfl⟩|exact⟨_,SD ..⟩)(hk:sg T (Vi++base) Vn:=by exact pf rfl rfl)(hv:∀p∈Vn,∃b,look T p.1=some b/\Wk b p.2:=by(simp only[seval];simp[bz,Wk.refl]))(hlt:∀p∈Vn,Lt H.length p.2:=by simp[eI]):tR base Vi Vn H ⟨T,H'⟩:=by
 obtain⟨G,rfl⟩:=hg;exact abT hk hv az hlt
theorem cI{H:List aa}{args:List AV}{k kp:AV->List aa->Prop}{g:TO}{first cR:List AV}(hf:bf lv P g H (first++args++cR) k kp)(hg:qy P g=true:=by kernel_rfl):iQ lv P (.fn (.func g) first cR) H args k kp:=Iq hg hf
end
theorem aK{lv:Bool}{P:SJ}{H:List aa}{args:List AV}{k kp:AV->List aa->Prop}{g:TO}{first cR:List AV}{t:D3 k kp}(hf:bf lv P g H (first++args++cR) k kp)(hg:qy P g=true:=by kernel_rfl):AH lv P (.fn (.func g) first cR) H args k kp t:=wZ (Iq hg hf)
theorem F.q0:jK SC 22 22=(SN (3,(1,(SG SF (0)))))/\jK SC 23 23=(SN (61,(3,(TE #[(SG SF (0)),(SG SF (0)),(SG SF (0))]))))/\jK SC 24 24=(SN (48,(4,(TE #[(SG SF (0)),(SG SF (0)),(SG SF (0)),(SG SF (0))]))))/\jK SC 57 57=(SN (22,(1,(Up Option.none 0 0))))/\oF SC 136=(SN ((Go.Gg.ik.fields []),(TE #[])))/\oF SC 26=(SN ((Go.Gg.ik.fields [(0,1),(1,1),(2,1),(3,1),(4,1),(5,1)]),(TE #[(SG SF (0)),(SG SF (0)),(SG SF (0)),(Up Option.none 0 0),(Up Option.none 0 0),(Up Option.none 0 0)])))/\oF SC 46=(SN ((Go.Gg.ik.fields [(0,1),(1,1)]),(TE #[(SG SF (0)),(SG SF (0))])))/\oF SC 48=(SN ((Go.Gg.ik.fields [(0,2),(2,2)]),(TE #[(SG SF (0)),(SG SF (0)),(SG SF (0)),(SG SF (0))])))/\oF SC 61=(SN ((Go.Gg.ik.fields [(0,1),(1,2)]),(TE #[(SG SF (0)),(SG SF (0)),(SG SF (0))])))/\oF SC 73=(SN ((Go.Gg.ik.fields [(0,1),(1,1),(2,1)]),(TE #[(Up Option.none 0 0),(SG SF (0)),(SG TB (0))])))/\oF SC 76=(SN ((Go.Gg.ik.fields [(0,6)]),(TE #[(SG SF (0)),(SG SF (0)),(SG SF (0)),(Up Option.none 0 0),(Up Option.none 0 0),(Up Option.none 0 0)])))/\oF SC 86=(SN ((Go.Gg.ik.fields [(0,4),(4,4),(8,3)]),(TE #[(SG SF (0)),(SG SF (0)),(SG SF (0)),(SG SF (0)),(SG SF (0)),(SG SF (0)),(SG SF (0)),(SG SF (0)),(SG SF (0)),(SG SF (0)),(SG SF (0))])))/\oF SC 88=(SN ((Go.Gg.ik.fields [(0,1),(1,1),(2,4),(6,4),(10,4),(14,3),(17,11)]),(TE #[(Xb Bool.false),(Zx Option.none),(SG S7 (0)),(SG S7 (0)),(SG S7 (0)),(SG S7 (0)),(SG S7 (0)),(SG S7 (0)),(SG S7 (0)),(SG S7 (0)),(SG S7 (0)),(SG S7 (0)),(SG S7 (0)),(SG S7 (0)),(SG S7 (0)),(SG S7 (0)),(SG S7 (0)),(SG SF (0)),(SG SF (0)),(SG SF (0)),(SG SF (0)),(SG SF (0)),(SG SF (0)),(SG SF (0)),(SG SF (0)),(SG SF (0)),(SG SF (0)),(SG SF (0))])))/\oF SC 97=(SN ((Go.Gg.ik.fields [(0,1),(1,1)]),(TE #[(SG SF (0)),(SG SF (0))])))/\AI SC 3 71=(SN (SN TB))/\AI SC 71 3=(SN (SN SF)):=by and_intros<;>kernel_rfl
theorem F.q1:ff SC 112 0=(SN 0)/\ff SC 112 1=(SN 1)/\ff SC 112 2=(SN 2)/\ff SC 26 0=(SN 0)/\ff SC 26 1=(SN 1)/\ff SC 26 2=(SN 2)/\ff SC 26 3=(SN 3)/\ff SC 26 4=(SN 4)/\ff SC 26 5=(SN 5)/\ff SC 46 0=(SN 0)/\ff SC 46 1=(SN 1)/\ff SC 48 0=(SN 0)/\ff SC 48 1=(SN 2)/\ff SC 61 0=(SN 0)/\ff SC 61 1=(SN 1)/\ff SC 73 0=(SN 0):=by and_intros<;>kernel_rfl
theorem F.q2:ff SC 73 1=(SN 1)/\ff SC 73 2=(SN 2)/\ff SC 76 0=(SN 0)/\ff SC 86 0=(SN 0)/\ff SC 86 1=(SN 4)/\ff SC 86 2=(SN 8)/\ff SC 88 0=(SN 0)/\ff SC 88 1=(SN 1)/\ff SC 88 2=(SN 2)/\ff SC 88 3=(SN 6)/\ff SC 88 4=(SN 10)/\ff SC 88 5=(SN 14)/\ff SC 88 6=(SN 17)/\ff SC 97 0=(SN 0)/\ff SC 97 1=(SN 1)/\nT SC 22=(SN (Option.none,1)):=by and_intros<;>kernel_rfl
theorem F.q3:nT SC 23=(SN (Option.none,3))/\nT SC 24=(SN (Option.none,4))/\nT SC 57=(SN (Option.none,1))/\nT SC 80=(SN ((SN 4),1))/\nT SC 81=(SN ((SN 3),1))/\nT SC 82=(SN ((SN 4),1))/\nT SC 83=(SN ((SN 4),1))/\nT SC 84=(SN ((SN 3),1))/\wL SC 82=(SN (4,1))/\wL SC 83=(SN (4,1))/\wL SC 84=(SN (3,1))/\kv SC 22=(SN (3,1))/\kv SC 24=(SN (48,4))/\kv SC 82=Option.none/\kv SC 83=Option.none/\kv SC 84=Option.none:=by and_intros<;>kernel_rfl
theorem F.q4:lC SC 22=(SN Go.Gg.yB.slice)/\lC SC 23=(SN Go.Gg.yB.slice)/\lC SC 24=(SN Go.Gg.yB.slice)/\lC SC 57=(SN Go.Gg.yB.slice)/\AU SC 22=(SN (3,(1,(SG SF (0)))))/\oI SC 77=(SN (83,4))/\qH SC 22=(SN (3,(1,(SG SF (0)))))/\qH SC 23=(SN (61,(3,(TE #[(SG SF (0)),(SG SF (0)),(SG SF (0))]))))/\qH SC 24=(SN (48,(4,(TE #[(SG SF (0)),(SG SF (0)),(SG SF (0)),(SG SF (0))]))))/\qH SC 57=(SN (22,(1,(Up Option.none 0 0))))/\Ty SC 130=(SN (1,Bool.false))/\Ty SC 132=(SN (1,Bool.false))/\Ty SC 136=(SN (0,Bool.true))/\Ty SC 139=(SN (1,Bool.false))/\Ty SC 157=(SN (1,Bool.false))/\Ty SC 22=(SN (1,Bool.false)):=by and_intros<;>kernel_rfl
theorem F.q5:Ty SC 23=(SN (1,Bool.false))/\Ty SC 24=(SN (1,Bool.false))/\Ty SC 26=(SN (6,Bool.true))/\Ty SC 3=(SN (1,Bool.false))/\Ty SC 4=(SN (1,Bool.false))/\Ty SC 46=(SN (2,Bool.true))/\Ty SC 48=(SN (4,Bool.true))/\Ty SC 61=(SN (3,Bool.true))/\Ty SC 68=(SN (1,Bool.false))/\Ty SC 71=(SN (1,Bool.false))/\Ty SC 76=(SN (6,Bool.true))/\Ty SC 77=(SN (1,Bool.false))/\Ty SC 79=(SN (1,Bool.false))/\Ty SC 81=(SN (3,Bool.true))/\Ty SC 83=(SN (4,Bool.true))/\Ty SC 86=(SN (11,Bool.true)):=by and_intros<;>kernel_rfl
theorem F.q6:Ty SC 88=(SN (28,Bool.true))/\Ty SC 97=(SN (2,Bool.true))/\eO SC 112=(SN (TE #[(SG SF (0)),(SG SF (0)),(Xb Bool.false)]))/\eO SC 116=(SN (TE #[(SG SF (0)),(SG SF (0))]))/\eO SC 136=(SN (TE #[]))/\eO SC 139=(SN (XN Option.none))/\eO SC 147=(SN (TE #[(SG TB (0)),(SG al' (0))]))/\eO SC 153=(SN (TE #[(SG SF (0)),(SG SF (0))]))/\eO SC 157=(SN YW)/\eO SC 26=(SN (TE #[(SG SF (0)),(SG SF (0)),(SG SF (0)),(Up Option.none 0 0),(Up Option.none 0 0),(Up Option.none 0 0)]))/\eO SC 3=(SN (SG SF (0)))/\eO SC 46=(SN (TE #[(SG SF (0)),(SG SF (0))]))/\eO SC 48=(SN (TE #[(SG SF (0)),(SG SF (0)),(SG SF (0)),(SG SF (0))]))/\eO SC 61=(SN (TE #[(SG SF (0)),(SG SF (0)),(SG SF (0))]))/\eO SC 68=(SN YW)/\eO SC 76=(SN (TE #[(SG SF (0)),(SG SF (0)),(SG SF (0)),(Up Option.none 0 0),(Up Option.none 0 0),(Up Option.none 0 0)])):=by and_intros<;>kernel_rfl
theorem F.q7:eO SC 79=(SN (SG S7 (0)))/\eO SC 80=(SN (TE #[(SG S7 (0)),(SG S7 (0)),(SG S7 (0)),(SG S7 (0))]))/\eO SC 81=(SN (TE #[(SG S7 (0)),(SG S7 (0)),(SG S7 (0))]))/\eO SC 83=(SN (TE #[(SG SF (0)),(SG SF (0)),(SG SF (0)),(SG SF (0))]))/\eO SC 86=(SN (TE #[(SG SF (0)),(SG SF (0)),(SG SF (0)),(SG SF (0)),(SG SF (0)),(SG SF (0)),(SG SF (0)),(SG SF (0)),(SG SF (0)),(SG SF (0)),(SG SF (0))]))/\eO SC 97=(SN (TE #[(SG SF (0)),(SG SF (0))])):=by and_intros<;>kernel_rfl
attribute [seval] F.q0 F.q1 F.q2 F.q3 F.q4 F.q5 F.q6 F.q7 F.NU F.N2
def isDone (j:Nat)(D:List Nat):Bool:=D.contains j
theorem alA(j:Nat):isDone j []=false:=by simp[isDone]
theorem alz(i j:Nat)(D:List Nat):isDone j (i::D)=((j==i)||isDone j D):=by
 by_cases h:j=i<;>simp[isDone,h]
theorem af8(lv:Bool)(P:SJ)(Hf:List Nat->List aa)(T:List (Nat×AV))(o:Tx)(av:AV):BQ lv P Hf T o av []=True:=by rw[BQ]
theorem af7(lv:Bool)(P:SJ)(Hf:List Nat->List aa)(T:List (Nat×AV))(o:Tx)(av:AV)(D D':List Nat)(l:List (List Nat×List Nat)):BQ lv P Hf T o av ((D,D')::l)=((AQ lv P ⟨T,Hf D⟩ o λa=>a=av)/\BQ lv P Hf T o av l):=by rw[BQ]
theorem afG(lv:Bool)(P:SJ)(Hf:List Nat->List aa)(T:List (Nat×AV))(o:Tx)(av:AV):BE lv P Hf T o av []=True:=by rw[BE]
theorem afF(lv:Bool)(P:SJ)(Hf:List Nat->List aa)(T:List (Nat×AV))(o:Tx)(av:AV)(D D':List Nat)(l:List (List Nat×List Nat)):BE lv P Hf T o av ((D,D')::l)=((jW lv P (Hf D') ⟨T,Hf D⟩ o λa H'=>a=av/\H'=Hf D')/\BE lv P Hf T o av l):=by rw[BE]
theorem afC:type_of% @fU.eq_1:=by intros;rw[fU.eq_1]
theorem afD:type_of% @fU.eq_2:=by intros;rw[fU.eq_2]
theorem afB:type_of% @fU.eq_3:=by intros;rw[fU.eq_3]
theorem ad2:type_of% @jW.eq_1:=by intros;rw[jW.eq_1]
theorem agX(G H:List aa)(k:AV->List aa->Prop)(n m sz:Nat)(elem:TypeId)(l l':List AV):qA G H k n m sz elem l l' .exact=jY G[H.length]? (0<m/\k (.bJ H.length 0 (n+m) 0) (H++[.own sz (l++l') elem])) (k (.sl (n+m) (l++l') (.opn H.length)) (H++[.tail (n+m) sz elem])) ⟨0⟩:=by rw[qA]
theorem ai6(X Y:Prop)(t:lY X Y):jY none X Y t=Y:=by rw[jY];simp
theorem ai7(a:Nat)(b:List AV)(c:TypeId)(X Y:Prop)(t:lY X Y):jY (some (.own a b c)) X Y t=X:=by rw[jY]
theorem ai5(b:List AV)(c:TypeId)(X Y:Prop)(t:lY X Y):jY (some (.cells b c)) X Y t=Y:=by rw[jY];simp
theorem aja(a b:Nat)(c:TypeId)(X Y:Prop)(t:lY X Y):jY (some (.tail a b c)) X Y t=Y:=by rw[jY];simp
theorem ai4(b:Obj)(X Y:Prop)(t:lY X Y):jY (some (.obj b)) X Y t=Y:=by rw[jY];simp
theorem ai9(a:Nat)(b:List AV)(c:TypeId)(X Y:Prop)(t:lY X Y):jY (some (.part a b c)) X Y t=Y:=by rw[jY];simp
@[congr] theorem as1 {x x' : Option aa} {X Y : Prop} {t : lY X Y} (h : x = x') : jY x X Y t = jY x' X Y t := by rw [h]
theorem agY(G H:List aa)(k:AV->List aa->Prop)(n m sz:Nat)(elem:TypeId)(l l':List AV)(i:Nat):qA G H k n m sz elem l l' (.opn i)=((match H[i]?with
   |some (.tail n' eD fY)=>n'=n/\eD=sz/\fY=elem
   |_=>False)/\(∀a∈l',a.leaf=true)/\k (.sl (n+m) (l++l') (.opn i)) (H.set i (.tail (n+m) sz elem))):=by first|(rw[qA];done)|(rw[qA];rfl)
section
variable {lv:Bool}{P:SJ}{s s':AS}
@[congr] theorem asq {G G' : List aa} {o : Tx} {k : AV -> List aa -> Prop} (hG : G = G') (h : s = s') : jW lv P G s o k = jW lv P G' s' o k := by rw [hG, h]
@[congr] theorem asP {Hf : List Nat -> List aa} {ops : Array Tx} {l l' : List qE} {K : AS -> Prop} {t : AR K} (hl : l = l') (h : s = s') : fU lv P Hf ops l s K t = fU lv P Hf ops l' s' K t := by rw [hl, h]
@[congr] theorem asS {Hf : List Nat -> List aa} {T T' : List (Nat × AV)} {o : Tx} {av mI : AV} {l l' : List (List Nat × List Nat)} (h1 : T = T') (h2 : av = mI) (h3 : l = l') : BQ lv P Hf T o av l = BQ lv P Hf T' o mI l' := by rw [h1, h2, h3]
@[congr] theorem asQ {Hf : List Nat -> List aa} {T T' : List (Nat × AV)} {o : Tx} {av mI : AV} {l l' : List (List Nat × List Nat)} (h1 : T = T') (h2 : av = mI) (h3 : l = l') : BE lv P Hf T o av l = BE lv P Hf T' o mI l' := by rw [h1, h2, h3]
@[congr] theorem asW {f f' : AV} {H H' : List aa} {aG tT : List AV} {k : AV -> List aa -> Prop} {t : AT k} (h1 : f = f') (h2 : H = H') (h3 : aG = tT) : DV lv P f H aG k t = DV lv P f' H' tT k t := by rw [h1, h2, h3]
@[congr] theorem asX {f f' : AV} {name : String} {H H' : List aa} {aG tT : List AV} {k : AV -> List aa -> Prop} {t : AT k} (h1 : f = f') (h2 : H = H') (h3 : aG = tT) : HM lv P f name H aG k t = HM lv P f' name H' tT k t := by rw [h1, h2, h3]
@[congr] theorem asV {G G' H H' : List aa} {k : AV -> List aa -> Prop} {n n' m m' sz : Nat} {elem : TypeId} {l l' x x' : List AV} {e e' : End} (hG : G = G') (h0 : H = H') (h1 : n = n') (h2 : m = m') (h3 : l = l') (h4 : x = x') (h5 : e = e') : qA G H k n m sz elem l x e = qA G' H' k n' m' sz elem l' x' e' := by rw [hG, h0, h1, h2, h3, h4, h5]
end
attribute [seval] alA alz af8 af7 afG afF afC afD afB ad2 agX agY ai6 ai7 ai5 aja ai4 ai9 Bool.true_or Bool.false_or Bool.or_true Bool.or_false cond_true cond_false
def an.stay (Φ:an->AS->Prop):an->AS->Prop
 |.goto _,_=>False
 |e,s=>Φ e s
theorem aqF(Φ:an->AS->Prop)(s:AS):an.stay Φ .normal s=Φ .normal s:=by rw[an.stay];simp
theorem aqH(Φ:an->AS->Prop)(s:AS):an.stay Φ .ret s=Φ .ret s:=by rw[an.stay];simp
theorem aqE(Φ:an->AS->Prop)(i:Nat)(s:AS):an.stay Φ (.exit i) s=Φ (.exit i) s:=by rw[an.stay];simp
theorem aqG(Φ:an->AS->Prop)(a:AV)(s:AS):an.stay Φ (.panic a) s=Φ (.panic a) s:=by rw[an.stay];simp
theorem Ox{lv:Bool}{P:SJ}{r:Option Nat}{s:AS}{nt:Nat}{c:T7}{Φ:an->AS->Prop}(h:aW lv P r nt c s (an.stay Φ)):aW lv P r nt (.scope c) s Φ:=by
 refine afo (λ_ _ _=>False) ⟨0,h.mono λe s hs=> ?_⟩ λ_ _ _ _ _ hf=>hf.elim;cases e<;>first|exact hs|exact hs.elim
@[congr] theorem atB {s s' : AS} {Φ : an -> AS -> Prop} {e e' : an} (he : e = e') (h : s = s') : an.stay Φ e s = an.stay Φ e' s' := by rw [he, h]
attribute [seval] aqF aqH aqE aqG
theorem alx{α:Type}(n:Nat)(x:α):(if(n:Int)<0 then none else some x)=some x:=by rw[if_neg (by omega)]
theorem af5:(XH==Wx)=false:=by decide
theorem af6:(Wx==Wx)=true:=by decide
theorem arb{α β:Type}(f:α->β)(xs:List α):(xs.map f).take xs.length=xs.map f:=SY (by simp)
theorem anL(o:V_):(o=o\/o=.neq)=True:=by simp
theorem anM:(Wx=.eql\/Wx=.neq)=True:=by simp
theorem alE{α:Type}(a b:α):(if false=true then a else b)=b:=by simp
theorem alF{α:Type}(a b:α):(if true=true then a else b)=a:=by simp
theorem af1(s:AS):s.iS none=some none:=by rw[AS.iS]
theorem af2(s:AS)(x:Tm):s.iS (some x)=(s.ev x).bind λa=>a.vn.map some:=by
 rw[AS.iS];cases s.ev x<;>rfl
theorem ae1(j:TU)(n:Int):AV.vn (.val (.int j n))=some n:=by rw[AV.vn]
theorem aeh(P:SJ)(t:TypeId)(id off:Nat)(l h m:Option Int)(k:AV->Prop):r6 P t (.op id off) l h m k=ao (wL P t) λp=>si id off p.1 p.1 p.2 l h m k:=by rw[r6]
theorem aei(P:SJ)(t:TypeId)(id off n c:Nat)(l h m:Option Int)(k:AV->Prop):r6 P t (.bJ id off n c) l h m k=ao (kv P t) λp=>si id off n c p.2 l h m k:=by rw[r6]
theorem aej(P:SJ)(t:TypeId)(n:Nat)(li:List AV)(e:End)(l h m:Option Int)(k:AV->Prop):r6 P t (.sl n li e) l h m k=ao (kv P t) λp=>wP n li e p.2 l h m k:=by rw[r6]
theorem anS:type_of% @si.eq_1:=by intros;rw[si.eq_1]
theorem aqg:type_of% @wP.eq_1:=by intros;rw[wP.eq_1]
@[congr] theorem atw {id oz off C9 n n' cap cap' sz eD : Nat} {lo C0 hi cD mx C4 : Option Int} {k : AV -> Prop} (h1 : id = oz) (h2 : off = C9) (h3 : n = n') (h4 : cap = cap') (h5 : sz = eD) (h6 : lo = C0) (h7 : hi = cD) (h8 : mx = C4) : si id off n cap sz lo hi mx k = si oz C9 n' cap' eD C0 cD C4 k := by rw [h1, h2, h3, h4, h5, h6, h7, h8]
@[congr] theorem atz {n n' sz eD : Nat} {l l' : List AV} {e e' : End} {lo C0 hi cD mx C4 : Option Int} {k : AV -> Prop} (h3 : n = n') (h1 : l = l') (h2 : e = e') (h5 : sz = eD) (h6 : lo = C0) (h7 : hi = cD) (h8 : mx = C4) : wP n l e sz lo hi mx k = wP n' l' e' eD C0 cD C4 k := by rw [h1, h2, h3, h5, h6, h7, h8]
theorem anf:((1:Nat):Int)=1:=rfl
theorem ang:((2:Nat):Int)=2:=rfl
theorem anh:((3:Nat):Int)=3:=rfl
theorem ani:((4:Nat):Int)=4:=rfl
theorem anj:((5:Nat):Int)=5:=rfl
theorem ank:((6:Nat):Int)=6:=rfl
theorem arA(p:Prop):(True\/p)=True:=by simp
theorem anQ(p:Prop):(p\/True)=True:=by simp
attribute [seval] anf ang anh ani anj ank arA anQ Int.le_refl List.length_map
theorem aeS(H L:List aa):(H++L)[H.length+1+1]?=L[2]?:=vg H L 2
theorem aeT(H L:List aa):(H++L)[H.length+1+1+1]?=L[3]?:=vg H L 3
theorem aeW(H L:List aa)(x:aa):(H++L).set (H.length+1+1) x=H++L.set 2 x:=vk H L 2 x
theorem aeX(H L:List aa)(x:aa):(H++L).set (H.length+1+1+1) x=H++L.set 3 x:=vk H L 3 x
attribute [seval] aeS aeT aeW aeX
attribute [seval] af1 af2 ae1 aeh aei aej anS aqg Option.getD_none Option.getD_some Int.toNat_zero Nat.sub_zero Option.bind_some Option.map_some Nat.zero_le Option.isSome_none Option.isSome_some Bool.false_eq_true false_implies
attribute [seval] alx af5 af6 arb anL anM alE alF
section
variable {P:SJ}{α β:Type}
theorem iz(a:α):cJ P (pure a) a:=λw es=>by simp only[pure,VF]
theorem lA{x:Sem α}{f:α->Sem β}{a:α}{b:β}(h:cJ P x a)(k:cJ P (f a) b):cJ P (x>>=f) b:=λw es=>by
 show (x.bind f).runT P w es=_;rw[Sem.runT_bind',h w es];exact k w es
theorem aqZ{k:SJ->Sem α}{a:α}(h:cJ P (k P) a):cJ P (.program k) a:=λw es=>by simp only[VF];exact h w es
theorem Ng{k:SJ->Sem α}{a:α}(h:cJ P (k P) a):cJ P (program>>=k) a:=lA (a:=P) (aqZ (iz P)) h
theorem yn{t:TypeId}{d:TypeDesc}{k:TypeDesc->Sem α}{a:α}(h:P.underlying t=some d)(hk:cJ P (k d) a):cJ P (underlying t>>=k) a:=by
 unfold underlying;refine lA (a:=d) (Ng ?_) hk;rw[h];exact iz d
def yG:TypeDesc->Bool
 |.struct _|.array _ _=>true
 |_=>false
theorem acY{t:TypeId}{d:TypeDesc}{k:Bool->Sem α}{a:α}(h:P.underlying t=some d)(hk:cJ P (k (yG d)) a):cJ P (isAgg t>>=k) a:=by
 unfold isAgg;refine lA (yn (a:=yG d) h ?_) hk;cases d<;>exact iz _
theorem Nh{t:TypeId}{i:Wm}{k:Nat->Sem α}{a:α}(h:P.info? t=some i)(hk:cJ P (k i.size) a):cJ P (sizeOf t>>=k) a:=by
 unfold sizeOf typeInfo;refine lA (lA (a:=i) (Ng ?_) (iz _)) hk;rw[h];exact iz i
theorem Dp{t:TypeId}{d:TypeDesc}{xs:Array SP}{off:Nat}{v:SP}{k:SP->Sem α}{a:α}(h:P.underlying t=some d)(hd:yG d=false)(hv:xs[off]?=some v)(hk:cJ P (k v) a):cJ P (part t xs off>>=k) a:=by
 unfold part;refine lA (a:=v) (acY h ?_) hk;rw[hd,hv];exact iz v
theorem acZ{t:TypeId}{d:TypeDesc}{i:Wm}{xs:Array SP}{off:Nat}{k:SP->Sem α}{a:α}(h:P.underlying t=some d)(hd:yG d=true)(hi:P.info? t=some i)(hk:cJ P (k (.agg (xs.extract off (off+i.size)))) a):cJ P (part t xs off>>=k) a:=by
 unfold part;refine lA (acY h ?_) hk;rw[hd];exact Nh hi (iz _)
theorem acX{t:TypeId}{k0 k:TU}{d:Nat}{x y:Int}(h:P.underlying t=some (.int k0)):cJ P (Vx (d+1) t (.int k x) (.int k y)) (x==y):=by
 rw[Vx];refine yn h ?_;dsimp only;rw[if_pos rfl];exact iz _
theorem acR{ι:Type}{body:ι->Option Bool×Unit->Sem (ForInStep (Option Bool×Unit))}{p:ι->Bool}:∀(l:List ι),(∀i∈l,cJ P (body i (none,())) (if p i then .yield (none,())else .done (some false,())))->cJ P (forIn l (none,()) body) (if l.all p then(none,())else(some false,()))
 |[],_=>by simpa using iz (none,())
 |i::l,h=>by
  rw[W2];refine lA (h i (TD ..)) ?_;by_cases hp:p i=true
  ·simp only[hp,if_true,ZV,Vb];exact acR l λj hj=>h j (Tb _ hj)
  ·have zG:p i=false:=(by simpa using hp);simp only[zG,TN,if_false,ZV,YE];exact iz _
theorem aeH{α:Type}[BEq α][LawfulBEq α]{xs ys:List α}{n:Nat}(hx:xs.length=n)(hy:ys.length=n):((T5 0 n).all λi=>xs[i]?==ys[i]?)=(xs==ys):=by
 rw[UY,TA,beq_iff_eq];constructor
 ·intro h;apply Yo;intro i;by_cases hi:i<n
  ·have:=h i (by simp[XV];omega);simpa using this
  ·rw[Ut (by omega),Ut (by omega)]
 ·rintro rfl i _;simp
theorem aqW{t e:TypeId}{k0 k:TU}{n d:Nat}{i:Wm}{xs ys:List Int}(ht:P.underlying t=some (.array n e))(he:P.underlying e=some (.int k0))(hi:P.info? e=some i)(hs:i.size=1)(hx:xs.length=n)(hy:ys.length=n):
  cJ P (Vx (d+2) t (.agg (xs.map (SG k)).toArray) (.agg (ys.map (SG k)).toArray)) (xs==ys):=by
 rw[Vx];refine yn ht ?_;dsimp only;refine Nh hi ?_;rw[hs];simp only[Wy,Xq];refine lA (a:=if(xs==ys)then(none,())else(some false,())) ?_ (by cases xs==ys<;>exact iz _);have hn:(n-0+1-1)/1=n:=by simp
 rw[hn,<- aeH hx hy];refine acR _ λj hj=> ?_;have oW:j<n:=by simp[XV]at hj;omega
 have gx:xs[j]?=some (xs[j]'(by omega)):=SQ _;have gy:ys[j]?=some (ys[j]'(by omega)):=SQ _;rw[Ya];refine Dp he rfl (v:=.int k (xs[j]'(by omega))) (by simp[gx]) ?_;refine Dp he rfl (v:=.int k (ys[j]'(by omega))) (by simp[gy]) ?_;refine lA (acX he) ?_;rw[gx,gy];by_cases h:xs[j]'(by omega)=ys[j]'(by omega)
 ·rw[h];simp;exact iz _
 ·have h1:(xs[j]'(by omega)==ys[j]'(by omega))=false:=by simpa using h
  have h2:(some (xs[j]'(by omega))==some (ys[j]'(by omega)))=false:=by simpa using h
  rw[h1,h2];exact iz _
theorem cJ.uniq{x:Sem α}{a b:α}(h:cJ P x a)(k:cJ P x b):a=b:=by
 have e:=(h default #[]).symm.trans (k default #[]);have e1:=congrArg Prod.fst e;exact(aq_ e1).1
theorem acU{t e:TypeId}{k0:TU}{n:Nat}{i:Wm}{xs ys:List Int}(ht:P.underlying t=some (.array n e))(he:P.underlying e=some (.int k0))(hi:P.info? e=some i)(hs:i.size=1)(hx:xs.length=n)(hy:ys.length=n):
  cJ P (Xm t (.agg (xs.map (SG .i64)).toArray) (.agg (ys.map (SG .i64)).toArray)) (xs==ys):=aqW (d:=9998) ht he hi hs hx hy
theorem ye(xs:List Int):AV.raw (.agg (xs.map iv))=some (.agg (xs.map (SG .i64)).toArray):=by
 have:∀l:List Int,(l.map iv).mapM AV.Am=some (l.map (SG .i64)):=by
  intro l;induction l with
  |nil=>rfl
  |cons x l ih=>simp only[UP,T8,ih];rfl
 simp only[AV.raw,this];rfl
theorem aor{xs:List Int}{i:Nat}{y:Int}(h:i<xs.length):iy (xs.map iv) i [iv y]=(xs.set i y).map iv:=by
 unfold iy;rw[List.map_set,List.set_eq_take_append_cons_drop,if_pos (by simpa using h)];simp
theorem wz{xs:List Int}{i:Nat}{y:Int}(h:i<xs.length):(xs.map iv).take i++[iv y]++(xs.map iv).drop (i+1)=(xs.set i y).map iv:=aor h
theorem kX{xs:List Int}{i:Nat}{x:Int}(h:xs[i]?=some x):(xs.map iv).drop i=iv x::(xs.drop (i+1)).map iv:=by
 have h1:=eR h;rw[<- aj_,TW h1,UP];rw[SQ h1]at h;cases h;rfl
end
theorem aaB(xs:List Int):(∀a∈xs.map iv,a.leaf=true)=True:=by
 simp only[Td,eq_iff_iff,iff_true]
 rintro a ⟨x,_,rfl⟩;rfl
attribute [seval] List.append_nil aaB
def yu (lv:Bool)(P:SJ)(g:TO)(args:Array SP)(md:U7)(V:View)(R:U7->View->Prop):Prop:=
 ∀(main:Bool)(J:View->SH->Prop),Closed lv P main J->∀(fr:T_)(cs:List T_),fr.mode=md->(∀nM V',R nM V'->J V' (G {fr with mode:=nM} cs))->J V (G (Frame.enter P g args .deferred) (fr::cs))
def qL:U7->U7
 |.panicking ({recovered:=true, .. }::Mn)=>match Mn.dropWhile (!·.goexit)with
  |[]=> .returning
  |rest=> .panicking rest
 |m=>m
theorem aaC{lv:Bool}{P:SJ}{main:Bool}{J:View->SH->Prop}(C:Closed lv P main J){fr c:T_}{cs:List T_}{f:TO}{v:SP}{V:View}(h:Leaves P fr f .deferred (.ret v) V)(hJ:J V (G {c with mode:=qL c.mode} cs)):J V (G fr (c::cs)):=by
 obtain⟨rfl,hd,hk,fn,hf,hm,hr⟩:=h;refine C.step _ _ rfl λw hw=> ?_;obtain⟨es,w',V',h1,h2,h3⟩:=hr.runs hw;rcases h3 with⟨x,h3,rfl,rfl⟩|⟨_,_,h⟩
 ·refine⟨G {c with mode:=qL c.mode} cs,w',seen P fr.fn es,V',?_,h1.seen P fr.fn,hJ⟩;simp only[G,stepG,unwind,doReturn,hm,hd,hk,hf,TC,h3,h2,T1];cases zE:c.mode with
  |run=>simp[qL,<- zE]
  |returning=>simp[qL,<- zE]
  |panicking ch=>
   cases ch with
   |nil=>simp[qL,<- zE]
   |cons p Mn=>
    obtain⟨v,rec,ge⟩:=p;cases rec with
    |false=>simp[qL,<- zE]
    |true=>
     simp only[qL];cases hdw:Mn.dropWhile (!·.goexit)with
     |nil=>simp
     |cons x y=>simp
 ·exact h.elim
theorem PI{ρ:Tm->SP}{o:Tx}{cl:Xn}(au:o.op=.call cl)(aY:cl.callee=.builtin .recover)(P:SJ)(w:Tq)(es:Array Uo):(execOp ρ o).runT P w es=(.ok .recover w,es):=by
 unfold execOp;rw[au];dsimp only;unfold resolve;rw[aY];rfl
theorem apJ{P:SJ}{main:Bool}{b c:T_}{a:Act}{k:List WU}{cs:List T_}{w:Tq}{ops:Array Tx}{i:Nat}{rest:List Nat}{o:Tx}{cl:Xn}{v:SP}(ho:ops[i]?=some o)(hg:o.guard=none)(au:o.op=.call cl)(aY:cl.callee=.builtin .recover)(hb:b.kind=.deferred)(hr:b.roundOf=none)
  (hm:c.mode=.panicking [{v,recovered:=false}]):stepG P main (G (on b a (.inRegion ops (i::rest)::k)) (c::cs)) w=.go (G (on b (a.put o.dst v) (.inRegion ops rest::k)) ({c with mode:=.panicking [{v,recovered:=true}]}::cs)) w #[]:=by
 have ee:(on b a (.inRegion ops (i::rest)::k)).finish v=on b (a.put o.dst v) (.inRegion ops rest::k):=by
  rw[Ad,ho];rfl
 rw[s_op ho (by unfold Tj;rw[hg]) (.inl hr),<- ee];have jT:((on b a (.inRegion ops (i::rest)::k)).kind==U4)=false:=by simp[on,hb]
 simp only[stepG.apply,if_true,PI au aY,jT,T1,TN,if_false];have h1:(on b a (.inRegion ops (i::rest)::k)).roundOf=none:=hr;have h2:(on b a (.inRegion ops (i::rest)::k)).kind=.deferred:=hb;rw[h1];simp only[tryRecover,h2,hm];simp[seen,G]
theorem apK{P:SJ}{main:Bool}{b c:T_}{a:Act}{k:List WU}{cs:List T_}{w:Tq}{ops:Array Tx}{i:Nat}{rest:List Nat}{o:Tx}{cl:Xn}(ho:ops[i]?=some o)(hg:o.guard=none)(au:o.op=.call cl)(aY:cl.callee=.builtin .recover)(hb:b.kind=.deferred)(hr:b.roundOf=none)
  (hm:c.mode=.returning):stepG P main (G (on b a (.inRegion ops (i::rest)::k)) (c::cs)) w=.go (G (on b (a.put o.dst .nilIface) (.inRegion ops rest::k)) (c::cs)) w #[]:=by
 have ee:(on b a (.inRegion ops (i::rest)::k)).finish .nilIface=on b (a.put o.dst .nilIface) (.inRegion ops rest::k):=by
  rw[Ad,ho];rfl
 rw[s_op ho (by unfold Tj;rw[hg]) (.inl hr),<- ee];have jT:((on b a (.inRegion ops (i::rest)::k)).kind==U4)=false:=by simp[on,hb]
 simp only[stepG.apply,if_true,PI au aY,jT,T1,TN,if_false];have h1:(on b a (.inRegion ops (i::rest)::k)).roundOf=none:=hr;have h2:(on b a (.inRegion ops (i::rest)::k)).kind=.deferred:=hb;rw[h1];simp only[tryRecover,h2,hm];simp[seen,G]
def DW (P:SJ)(fn:YC)(K:View->Prop):Ex->Act->View->Prop
 |.normal,a,V|.ret,a,V=>a.defers=[]/\∃v,aP P V (results fn a.tmps) (λx V'=>x=v/\V'=V) (λ_ _=>False)/\K V
 |_,_,_=>False
theorem agy{lv:Bool}{P:SJ}{g:TO}{fn:YC}{id:Nat}{ops:Array Tx}{c2:T7}{o:Tx}{cl:Xn}{args:Array SP}{md:U7}{v0:SP}{V:View}{R:U7->View->Prop}
  (hf:P.funcs[g]?=some fn) (hb:fn.body=some (.seq (.region id ops false) c2)) (ho:ops[0]?=some o) (hg:o.guard=none) (au:o.op=.call cl) (aY:cl.callee=.builtin .recover)
  (p8:md=.panicking [{v:=v0,recovered:=false}]\/(md=.returning/\v0=.nilIface))
  (h:dj lv P none ops (Ex.then (WP lv P none c2 (DW P fn (R .returning))) (DW P fn (R .returning))) (T5 1 (ops.size-1)) (({tmps:=args++TK (fn.ntmps-args.size) undef,defers:=[]}:Act).put o.dst v0) V):yu lv P g args md V R:=by
 intro main J C fr cs mc hR;let b:T_:={(default:T_)with fn:=g,kind:=.deferred,roundOf:=none};have um:Frame.enter P g args .deferred=on b {tmps:=args++TK (fn.ntmps-args.size) undef,defers:=[]} [.code (.seq (.region id ops false) c2)]:=by
  simp[Frame.enter,on,hf,hb,b]
 rw[um];have aV:0<ops.size:=(SU.1 ho).1;have KV:SZ ops.size=0::T5 1 (ops.size-1):=by
  rw[Vo];obtain⟨n,hn⟩:∃n,ops.size=n+1:=⟨ops.size-1,by omega⟩;rw[hn,VP];rfl
 refine C.idle rfl (λ_=>ab0) (C.idle rfl (λ_=>abZ) ?_);rw[KV];have fin:∀(c:T_),qL c.mode=.returning->{c with mode:=qL c.mode}={fr with mode:=.returning}->∀e a' V',DW P fn (R .returning) e a' V'->vd J b [] (c::cs) e a' V':=by
  intro c hc vQ e a' V' q;cases e with
  |normal=>
   obtain⟨hd,v,hs,hr⟩:=q;refine C.idle rfl (λw=>Df rfl) (aaC (f:=g) (v:=v) C ⟨rfl,hd,rfl,fn,hf,rfl,hs⟩ ?_);rw[vQ];exact hR _ _ hr
  |ret=>
   obtain⟨hd,v,hs,hr⟩:=q;intro k;refine C.idle rfl (λw=>Dg rfl) (aaC (f:=g) (v:=v) C ⟨rfl,hd,rfl,fn,hf,rfl,hs⟩ ?_);rw[vQ];exact hR _ _ hr
  |_=>exact q.elim
 have run:∀(c:T_),qL c.mode=.returning->{c with mode:=qL c.mode}={fr with mode:=.returning}->J V (G (on b (({tmps:=args++TK (fn.ntmps-args.size) undef,defers:=[]}:Act).put o.dst v0) (.inRegion ops (T5 1 (ops.size-1))::[.code c2])) (c::cs)):=by
  intro c hc vQ;refine wp_ops _ _ V h main J C b [.code c2] (c::cs) (by show YQ≠U4;decide) rfl λe a' V' q=> ?_;cases e with
  |normal=>exact q main J C b [] (c::cs) (by show YQ≠U4;decide) rfl λe cm aS q'=>fin c hc vQ e cm aS q'
  |ret=>exact fin c hc vQ .ret a' V' q
  |panic ch=>exact q.elim
  |exit i=>exact q.elim
  |goto i=>exact q.elim
 rcases p8 with p8|⟨p8,hv⟩
 ·refine C.idle rfl (λw=>apJ ho hg au aY rfl rfl (by rw[mc,p8])) ?_;exact run {fr with mode:=.panicking [{v:=v0,recovered:=true}]} rfl rfl
 ·refine C.idle rfl (λw=>apK ho hg au aY rfl rfl (by rw[mc,p8])) ?_;subst hv;have iX:fr.mode=.returning:=by rw[mc,p8]
  exact run fr (by rw[iX];rfl) (by rw[iX];rfl)
section
variable {lv:Bool}{P:SJ}
theorem M1{g:TO}{args:Array SP}{V:View}{K:Next->View->Prop}{Kp:SP->View->Prop}(hg:qy P g=true)(h:K (.enter g args) V):aP P V (callFunc g args) K Kp:=by
 unfold callFunc;refine aA (qq (cG ?_));unfold qy at hg;split at hg
 ·rename_i fn sQ;simp only[Tc,TV]at hg;rw[sQ];dsimp only;have q_:fn.body.isNone=false:=by
   have h1:=hg.1;cases hb:fn.body with
   |none=>rw[hb]at h1;cases h1
   |some _=>rfl
  rw[if_neg (by rw[hg.2];simp),if_neg (by rw[q_];simp)];exact aq h
 ·cases hg
theorem Bi{E:Env}{V:View}{H:List aa}{args:List AV}{vs:Array SP}{nt:Nat}(hc:Conc E V H)(hd:cH E args vs)(cK:args.length<=nt):At E V ⟨br 0 args,H⟩ {tmps:=vs++TK (nt-vs.size) undef,defers:=[]} nt:=by
 have aV:(vs++TK (nt-vs.size) undef).size=nt:=by simp[hd.1];omega
 refine⟨hc,λq a e=> ?_,aV⟩;obtain⟨_,e⟩:=L9 args 0 q a e;simp only[Z3]at e;have hq:q<args.length:=(SM.1 e).1;have s8:q<vs.size:=by rw[hd.1];exact hq
 refine⟨by rw[aV];omega,?_⟩;have:=hd.2 q a e;rw[SI,X9 s8];rwa [SI]at this
def yr (E:Env)(c:AV×List AV)(d:UX):Prop:=∃f first cR fa ca vs,c.1=.fn (.func f) first cR/\d=⟨.fn (.func f) ca,fa++vs⟩/\cH E first fa/\cH E cR ca/\cH E c.2 vs
theorem yr.mono{E E':Env}(h:E.Le E'){c:AV×List AV}{d:UX}(k:yr E c d):yr E' c d:=by
 obtain⟨f,first,cR,fa,ca,vs,h1,h2,h3,h4,h5⟩:=k;exact⟨f,first,cR,fa,ca,vs,h1,h2,h3.mono h,h4.mono h,h5.mono h⟩
def NV (E:Env):Option AV->U7->Prop
 |none,md=>md=.returning
 |some pv,md=>∃v,md=.panicking [{v,recovered:=false}]/\ap E pv v
def qz (lv:Bool)(P:SJ)(c:AV×List AV)(H:List aa)(m:Option AV)(kr kp:List aa->Prop):Prop:=
 ∀(E:Env)(V:View)(d:UX)(md:U7),Conc E V H->yr E c d->NV E m md->aP P V (invoke d.target d.args) (λnx V'=>∃g args,nx=.enter g args/\yu lv P g args md V' λnM aS=>∃E' H',E.Le E'/\aS.role=V.role/\aS.deaf=V.deaf/\Conc E' aS H'/\((nM=.returning/\kr H')\/(nM=md/\m.isSome=true/\kp H'))) (λ_ _=>False)
def AK (n0:Nat)(kr:List aa->Prop):an->AS->Prop
 |.normal,s|.ret,s=>kr s.H\/∃H' G,s.H=H'++G/\n0<=H'.length/\bP H'/\kr H'
 |_,_=>False
theorem AK.out{n0:Nat}{E0 E:Env}{V':View}{H:List aa}{kr:List aa->Prop}(h:kr H\/∃H' G,H=H'++G/\n0<=H'.length/\bP H'/\kr H')(hc:Conc E V' H)(hle:E0.Le E)(hn:E0.n=n0):∃E' H',E0.Le E'/\Conc E' V' H'/\kr H':=by
 rcases h with h|⟨H',G,rfl,h1,h2,h3⟩
 ·exact⟨E,H,hle,hc,h⟩
 ·exact⟨{E with n:=H'.length},H',Dt h1 (by rw[hc.n];simp) hle hn,hc.trim h2,h3⟩
theorem results_none{fn:YC}{tmps:Array SP}{V:View}(hr:fn.results=#[]):aP P V (results fn tmps) (λx V'=>x=.tuple #[]/\V'=V) (λ_ _=>False):=by
 unfold results;rw[show fn.results=([]:List UL).toArray from hr,XX];refine aA ?_;refine aA ?_;rw[UA];refine aq (aq (aq ⟨?_,rfl⟩));simp
theorem agx{g:TO}{fn:YC}{id nt:Nat}{ops:Array Tx}{c2:T7}{o:Tx}{cl:Xn}{first cR aG:List AV}{H:List aa}{m:Option AV}{kr kp:List aa->Prop}
  (hg:qy P g=true) (hf:P.funcs[g]?=some fn) (hb:fn.body=some (.seq (.region id ops false) c2)) (hr:fn.results=#[]) (hn:fn.ntmps=nt) (ho:ops[0]?=some o) (sR:o.guard=none) (au:o.op=.call cl) (aY:cl.callee=.builtin .recover) (dn:jQ nt ops=true) (cK:(first++aG++cR).length<=nt)
  (h:ij lv P ops (ops.toList.drop 1) ((⟨br 0 (first++aG++cR),H⟩:AS).put o.dst (m.getD (.val .nilIface))) (λs'=>aW lv P none nt c2 s' (AK H.length kr)) (λ_ _=>False)):qz lv P (.fn (.func g) first cR,aG) H m kr kp:=by
 intro E V d md hc hd p8;obtain⟨f,asY,asU,fa,ca,vs,h1,rfl,h3,h4,h5⟩:=hd;cases h1;unfold invoke;dsimp only;refine M1 hg ⟨g,_,rfl,?_⟩;obtain⟨v0,hv,aks⟩:∃v0,ap E (m.getD (.val .nilIface)) v0/\(md=.panicking [{v:=v0,recovered:=false}]\/(md=.returning/\v0=.nilIface)):=by
  cases m with
  |none=>exact⟨.nilIface,.val _,.inr ⟨p8,rfl⟩⟩
  |some pv=>obtain⟨v,e,hv⟩:=p8;exact⟨v,hv,.inl e⟩
 refine agy hf hb ho sR au aY aks ?_;have ah:=Bi (nt:=nt) hc (Bw (Bw h3 h5) h4) cK;rw[hn];have aV:0<ops.size:=(SU.1 ho).1;have eB:o∈ops:=W4 ho;have aR:At E V ((⟨br 0 (first++aG++cR),H⟩:AS).put o.dst (m.getD (.val .nilIface))) (({tmps:=fa++vs++ca++TK (nt-(fa++vs++ca).size) undef,defers:=[]}:Act).put o.dst v0) nt:=
  ⟨by rw[fl];exact ah.bu,ah.tok.gQ (λd e=>by rw[ah.size];exact(jQ.out dn eB).1 d e) hv,(d_ _ _ _).trans ah.size⟩
 refine Af (r:=none) (Φ:=λe s'=>match e with
  |.normal=>aW lv P none nt c2 s' (AK H.length kr)
  |_=>False) (λo ho d e=>(jQ.out dn ho).1 d e) (λ_ _=> .inl rfl) (ops.size-1) 1 _ (by omega) h E V _ _ aR λae e E' V' a' s' hk ajz he hΦ=> ?_
 cases ae<;>cases e<;>first
  |exact he.elim
  |exact hΦ.elim
  |skip
 refine hΦ E' V' a' _ ajz λae e bQ aS cm di aI de j9 tg=> ?_;have fin:(kr di.H\/∃H' G,di.H=H'++G/\H.length<=H'.length/\bP H'/\kr H')->DW P fn (λaS=>∃E' H',E.Le E'/\aS.role=V.role/\aS.deaf=V.deaf/\Conc E' aS H'/\((Yr=.returning/\kr H')\/(Yr=md/\m.isSome=true/\kp H'))) .ret cm aS:=λtg=>by
  obtain⟨E3,H',q1,q2,q3⟩:=AK.out (E0:=E) tg de.bu (hk.le.trans aI.le) hc.n;have bx:cm.defers=[]:=by rw[aI.defers,hk.defers];exact put_defers _ _ _
  exact⟨bx,_,results_none hr,E3,H',q1,aI.role.trans hk.role,aI.deaf.trans hk.deaf,q2,.inl ⟨rfl,q3⟩⟩
 cases ae<;>cases e<;>first
  |exact j9.elim
  |exact tg.elim
  |exact fin tg
theorem O8{g:TO}{fn:YC}{id nt:Nat}{ops:Array Tx}{c2:T7}{o:Tx}{l:List Tx}{d0:Option Nat}{cl:Xn}{first cR aG:List AV}{H:List aa}{m:Option AV}{kr kp:List aa->Prop}
  (hg:qy P g=true) (hf:P.funcs[g]?=some fn) (hb:fn.body=some (.seq (.region id ops false) c2)) (hr:fn.results=#[]) (hn:fn.ntmps=nt) (hl:ops.toList=o::l) (sR:o.guard=none) (aT:o.dst=d0) (au:o.op=.call cl) (aY:cl.callee=.builtin .recover) (dn:jQ nt ops=true) (cK:(first++aG++cR).length<=nt)
  (h:ij lv P ops l ((⟨br 0 (first++aG++cR),H⟩:AS).put d0 (m.getD (.val .nilIface))) (λs'=>aW lv P none nt c2 s' (AK H.length kr)) (λ_ _=>False)):qz lv P (.fn (.func g) first cR,aG) H m kr kp:=by
 subst aT;refine agx hg hf hb hr hn (o:=o) (cl:=cl) ?_ sR au aY dn cK (by rw[hl];simpa using h);have:ops.toList[0]?=some o:=by rw[hl];rfl
 simpa using this
end
section
variable {lv:Bool}{P:SJ}{r:Option Nat}{s:AS}
theorem GD{nt:Nat}{all:Array Tx}{Φ:an->AS->Prop}(dn:∀o∈all,∀d,o.dst=some d->d<nt)(ny:r=none):∀(n k:Nat)(s:AS),k+n<=all.size->ij lv P all ((all.toList.drop k).take n) s (Φ .normal) (λpv s=>Φ (.panic pv) s)->
  ∀(E:Env)(V:View)(a:Act)(Q:Ex->Act->View->Prop),At E V s a nt->(∀ae e E' V' a' s',Kept E E' V V' a a'->At E' V' s' a' nt->pw E' ae e->Φ ae s'->Q e a' V')->dj lv P r all Q (T5 k n) a V
 |0,k,s,hk,h,E,V,a,Q,ah,hQ=>by
  rw[an']at h;exact hQ .normal .normal E V a s (Kept.refl E V a) ah trivial h
 |n+1,k,s,hk,h,E,V,a,Q,ah,hQ=>by
  have hlt:k<all.size:=by omega
  have hd:all.toList.drop k=all[k]::all.toList.drop (k+1):=by
   rw[TW (by simpa using hlt)];simp
  rw[hd,U8]at h;have eB:all[k]∈all:=XS hlt;have ho:all[k]?=some all[k]:=SK hlt;simp only[VP,dj,ho];have go:∀s:AS,At E V s a nt->mz lv P s all[k] (λs'=>ij lv P all ((all.toList.drop (k+1)).take n) s' (Φ .normal) (λpv s=>Φ (.panic pv) s)) (λpv s=>Φ (.panic pv) s)->wN lv P r all[k] a V (dj lv P r all Q (T5 (k+1) n)) Q:=λs ah h=>by
   refine h.sound (lv:=lv) (r:=r) E V a _ Q ah.bu ah.tok (λd e=>by rw[ah.size];exact dn _ eB d e) (.inl ny) (λE' V' a' s' aI bi mi hn=> ?_) (λE' V' s' pv v aI bi mi bk hb=> ?_)
   ·exact GD dn ny n (k+1) s' (by omega) hn E' V' a' Q ⟨bi,mi,aI.size.trans ah.size⟩ (λae e bQ aS cm di fM de he hΦ=>hQ ae e bQ aS cm di (aI.trans fM) de he hΦ)
   ·exact hQ (.panic pv) (.panic _) E' V' a s' aI ⟨bi,mi,ah.size⟩ ⟨v,rfl,bk⟩ hb
  simp only[ij]at h;split at h
  ·rename_i hg;have hw:Tj all[k] (yielded all a.tmps)=true:=(by unfold Tj;rw[hg]);rw[if_pos hw];exact .inl (go s ah h)
  ·rename_i j b9 hg;obtain⟨d,gf,h⟩:=h.out;obtain⟨av,h1,h⟩:=h.out;obtain⟨b,rfl,h2,h3⟩:=Bg h;have hv:=(ah.tok d _ h1).2;have hy:yielded all a.tmps j=some b:=by
    obtain⟨oj,kE,iW⟩:=Tg.1 gf;generalize hx:a.tmps.getD d undef=x at hv;cases hv;have mf:d<a.tmps.size:=(ah.tok d _ h1).1;rw[SI,SK mf]at hx;simp only[S8]at hx;simp[yielded,kE,iW,SK mf,hx]
   have rI:∀b',b=b'->At E V ⟨(d,.val (.bool b'))::s.T,s.H⟩ a nt:=λb' dB=>by
    subst dB;refine⟨ah.bu,λt x e=> ?_,ah.size⟩;simp only[look]at e;split at e
    ·rename_i e';subst e';cases e;exact ah.tok d _ h1
    ·exact ah.tok t x e
   by_cases hb:b=b9
   ·have hw:Tj all[k] (yielded all a.tmps)=true:=(by unfold Tj;rw[hg];simp[hy,hb]);rw[if_pos hw];exact .inl (go _ (rI b9 hb) (h2 hb))
   ·have hw:¬Tj all[k] (yielded all a.tmps)=true:=(by unfold Tj;rw[hg];simp[hy,hb]);rw[if_neg hw];have dB:b= !b9:=(by cases b<;>cases b9<;>simp_all);have vF:=h3 dB;have ah:=rI _ dB;exact GD dn ny n (k+1) ((⟨(d,.val (.bool !b9))::s.T,s.H⟩:AS).put all[k].dst (.val undef)) (by omega) vF E V (a.put all[k].dst undef) Q
     ⟨by rw[fl];exact ah.bu,ah.tok.gQ (λd e=>by rw[ah.size];exact dn _ eB d e) (.val undef),by rw[d_];exact ah.size⟩
     (λae e bQ aS cm di fM de he hΦ=>hQ ae e bQ aS cm di ⟨fM.le,fM.size.trans (d_ _ _ _),fM.defers.trans (put_defers _ _ _),fM.role,fM.deaf⟩ de he hΦ)
theorem mE.mono{o:Tx}{a:Act}{N N':Act->View->Prop}{Q Q':Ex->Act->View->Prop}(hN:∀a V,N a V->N' a V)(hQ:∀ch a V,Q (.panic ch) a V->Q' (.panic ch) a V){nx:Next}{V:View}(h:mE lv P r o a N Q nx V):mE lv P r o a N' Q' nx V:=by
 cases nx with
 |value v=>exact hN _ _ h
 |skip=>exact hN _ _ h
 | «defer» d => exact ⟨h.1, hN _ _ h.2⟩
 |enter f args=>
  refine Body.mono (R:=fun
   |.ret v,V'=>N (a.put o.dst v) V'
   |.panic ch,V'=>Q (.panic ch) a V') (R':=fun
   |.ret v,V'=>N' (a.put o.dst v) V'
   |.panic ch,V'=>Q' (.panic ch) a V') h λot V' h=> ?_
  cases ot
  ·exact hN _ _ h
  ·exact hQ _ _ _ h
 |round l f tmps aG b=>
  refine m9.mono (R:=fun
   |.ret v,V'=>N (a.put o.dst v) V'
   |.panic ch,V'=>Q (.panic ch) a V') (R':=fun
   |.ret v,V'=>N' (a.put o.dst v) V'
   |.panic ch,V'=>Q' (.panic ch) a V') h λot V' h=> ?_
  cases ot
  ·exact hN _ _ h
  ·exact hQ _ _ _ h
 |_=>exact h.elim
theorem AD{ops:Array Tx}{Q:Ex->Act->View->Prop}{l2:List Nat}:∀(l1:List Nat)(a:Act)(V:View),dj lv P r ops (Ex.then (dj lv P r ops Q l2) Q) l1 a V->dj lv P r ops Q (l1++l2) a V
 |[],a,V,h=>h
 |i::l1,a,V,h=>by
  simp only[Vf,dj]at h⊢;cases ho:ops[i]?with
  |none=>rw[ho]at h;exact AD l1 a V h
  |some o=>
   rw[ho]at h;dsimp only at h⊢;split at h
   ·rename_i hw;rw[if_pos hw];rcases h with h|h
    rotate_left
    ·exact .inr (h.mono λa V h=>AD l1 a V h)
    obtain⟨h1,h2⟩:=h;exact .inl ⟨h1,h2.mono (λnx V' h=>mE.mono (λa V h=>AD l1 a V h) (λ_ _ _ h=>h) h) λ_ _ h=>h⟩
   ·rename_i hw;rw[if_neg hw];exact AD l1 _ V h
def wJ (E:Env):List (AV×List AV)->List UX->Prop
 |[],[]=>True
 |c::ds,d::l=>yr E c d/\wJ E ds l
 |_,_=>False
theorem wJ.mono{E E':Env}(h:E.Le E'):∀{ds:List (AV×List AV)}{l:List UX},wJ E ds l->wJ E' ds l
 |[],[],_=>trivial
 |_::_,_::_,k=>⟨k.1.mono h,wJ.mono h k.2⟩
 |[],_::_,k=>k.elim
 |_::_,[],k=>k.elim
structure qC (E E':Env)(V V':View)(a a':Act):Prop where
 le:E.Le E'
 size:a'.tmps.size=a.tmps.size
 role:V'.role=V.role
 deaf:V'.deaf=V.deaf
theorem qC.trans{E E' bQ:Env}{V V' aS:View}{a a' cm:Act}(h:qC E E' V V' a a')(k:qC E' bQ V' aS a' cm):qC E bQ V aS a cm:=⟨h.le.trans k.le,k.size.trans h.size,k.role.trans h.role,k.deaf.trans h.deaf⟩
theorem Kept.d{E E':Env}{V V':View}{a a':Act}(h:Kept E E' V V' a a'):qC E E' V V' a a':=⟨h.le,h.size,h.role,h.deaf⟩
def AF (lv:Bool)(P:SJ)(nt:Nat)(c:T7)(s:AS)(ds:List (AV×List AV))(Φ:an->AS->List (AV×List AV)->Prop):Prop:=
 ∀(E:Env)(V:View)(a:Act)(Q:Ex->Act->View->Prop),At E V s a nt->wJ E ds a.defers->(∀ae e E' V' a' s' ni,qC E E' V V' a a'->At E' V' s' a' nt->wJ E' ni a'.defers->pw E' ae e->Φ ae s' ni->Q e a' V')->WP lv P none c Q a V
def an.wC (next:AS->List (AV×List AV)->Prop)(Φ:an->AS->List (AV×List AV)->Prop):an->AS->List (AV×List AV)->Prop
 |.normal,s,ds=>next s ds
 |e,s,ds=>Φ e s ds
theorem afu{nt id n:Nat}{ops:Array Tx}{o:Tx}{c:Xn}{x:Tm}{ds:List (AV×List AV)}{Φ:an->AS->List (AV×List AV)->Prop}(hn:ops.size=n+1)(ho:ops[n]?=some o)(hg:o.guard=none)(au:o.op=.defer c)(aY:c.callee=.value x)
  (dn:(ops.all λo=>o.dst.all (·<nt))=true)
  (h:ij lv P ops (ops.toList.take n) s (λs'=>ao (s'.ev x) λf=>ao (fg s' c.args.toList) λaG=>(∃g first cR,f=.fn (.func g) first cR)/\Φ .normal (s'.put o.dst (.val undef)) ((f,aG)::ds)) (λpv s'=>Φ (.panic pv) s' ds)):AF lv P nt (.region id ops false) s ds Φ:=by
 intro E V a Q ah hd hQ;refine wp_region ?_;have hr:SZ ops.size=T5 0 n++[n]:=by
  have:=Za (s:=0) (m:=n) (n:=1);rw[Vo,hn,<- this];simp
 rw[hr];have Rh:∀o∈ops,∀d,o.dst=some d->d<nt:=λo ho d e=>by
  have:=(UH.1 dn) o ho;rw[e]at this;simpa using this
 refine AD _ _ _ (GD (r:=none) (Φ:=λe s'=>match e with
  |.normal=>ao (s'.ev x) λf=>ao (fg s' c.args.toList) λaG=>(∃g first cR,f=.fn (.func g) first cR)/\Φ .normal (s'.put o.dst (.val undef)) ((f,aG)::ds)
  |e=>Φ e s' ds) Rh rfl n 0 s (by omega) (by simpa using h) E V a _ ah λae e E' V' a' s' hk aR he hΦ=> ?_)
 cases ae<;>cases e<;>first
  |exact he.elim
  |exact hQ _ _ E' V' a' s' ds hk.d aR (by rw[hk.defers];exact hd.mono hk.le) he hΦ
  |skip
 obtain⟨f,h1,hA⟩:=ao.out hΦ;obtain⟨aG,h2,⟨g,first,cR,rfl⟩,hB⟩:=hA.out;simp only[Ex.then,dj,ho];rw[if_pos (by unfold Tj;rw[hg])];refine .inl ⟨.inl rfl,?_⟩;unfold execOp;rw[au];dsimp only;unfold resolve;rw[aY];dsimp only;have bx:=ap.ev aR.tok h1;generalize cu:a'.eval x=cv at bx;cases bx with
 |fn dL fP q1 q2=>
  rename_i fa ca;unfold U2;refine aA (aq (aq ?_));refine⟨rfl,?_⟩;have eB:o∈ops:=W4 ho;have e:c.args.map a'.eval=(c.args.toList.map a'.eval).toArray:=by apply VD;simp
  refine hQ .normal .normal E' V' _ (s'.put o.dst (.val undef)) ((.fn (.func g) first cR,aG)::ds) ⟨hk.le,(d_ _ _ _).trans hk.size,hk.role,hk.deaf⟩ ⟨by rw[fl];exact aR.bu,aR.tok.gQ (a:={a' with defers:=⟨.fn (.func g) ca,fa++c.args.map a'.eval⟩::a'.defers}) (λd e=>by rw[aR.size];exact Rh o eB d e) (.val _),(d_ _ _ _).trans aR.size⟩ ?_ trivial hB;rw[put_defers];refine⟨⟨g,first,cR,fa,ca,_,rfl,rfl,⟨dL,q1⟩,⟨fP,q2⟩,?_⟩,by rw[hk.defers];exact hd.mono hk.le⟩;rw[e];exact yW aR.tok h2
theorem OA{nt id n:Nat}{ops:Array Tx}{o:Tx}{c:Xn}{x:Tm}{ds:List (AV×List AV)}{Φ:an->AS->List (AV×List AV)->Prop}(hn:ops.size=n+1)(ho:ops[n]?=some o)(hg:o.guard=none)(aT:o.dst=none)(au:o.op=.defer c)(aY:c.callee=.value x)
  (dn:(ops.all λo=>o.dst.all (·<nt))=true)
  (h:ij lv P ops (ops.toList.take n) s (λs'=>ao (s'.ev x) λf=>ao (fg s' c.args.toList) λaG=>(∃g first cR,f=.fn (.func g) first cR)/\Φ .normal s' ((f,aG)::ds)) (λpv s'=>Φ (.panic pv) s' ds)):AF lv P nt (.region id ops false) s ds Φ:=by
 refine afu hn ho hg au aY dn ?_;rw[aT];exact h
end
section
variable {lv:Bool}{P:SJ}
theorem abS{rs:List UL}{fn:YC}{n nt:Nat}{k kp:AV->List aa->Prop}{E E':Env}{V V':View}{s':AS}{a':Act}(hr:fn.results=rs.toArray)(ah:At E' V' s' a' nt)(hle:E.Le E')(hn:E.n=n)(ce:V'.role=V.role)(eZ:V'.deaf=V.deaf)(hΦ:ao (gR P s' rs) λl=>cw n s'.H (iM l) k):
  ∃v,aP P V' (results fn a'.tmps) (λx aS=>x=v/\aS=V') (λ_ _=>False)/\gK E V k kp (.ret v) V':=by
 obtain⟨l,h1,h2⟩:=hΦ.out;have gn:∃v,ap E' (iM l) v/\aP P V' (results fn a'.tmps) (λx aS=>x=v/\aS=V') (λ_ _=>False):=by
  obtain⟨vs,hl,lQ,xJ⟩:=GX ah rs l h1;refine⟨if h:vs.length=1 then vs[0]else .tuple vs.toArray,?_,?_⟩
  ·match l,vs,hl,lQ with
   |[x],[v],_,lQ=>exact lQ 0 x rfl
   |[],[],_,lQ=>exact .aJ rfl (by simp)
   |x::y::l,v::w::vs,hl,lQ=>exact .aJ (by simpa using hl) (λi z hz=>by simpa[SI,SE]using lQ i z hz)
  ·unfold results;rw[hr,XX];refine aA ?_;refine aA (xJ ?_);refine aq (aq ⟨?_,rfl⟩);simp
 obtain⟨v,bk,qb⟩:=gn;obtain⟨b,bQ,H',q1,q2,q3,q4⟩:=w_ h2 ah.bu bk hle hn;exact⟨v,qb,b,bQ,H',q1,ce,eZ,q2,q3,q4⟩
def yz (lv:Bool)(P:SJ)(rs:List UL)(n:Nat)(k kp:AV->List aa->Prop):an->AS->List (AV×List AV)->Prop
 |.normal,s,[]|.ret,s,[]=>ao (gR P s rs) λl=>cw n s.H (iM l) k
 |.panic pv,s,[]=>cw n s.H pv kp
 |.normal,s,[c]|.ret,s,[c]=>qz lv P c s.H none (λH'=>ao (gR P ⟨s.T,H'⟩ rs) λl=>cw n H' (iM l) k) (λ_=>False)
 |.panic pv,s,[c]=>qz lv P c s.H (some pv) (λH'=>ao (gR P ⟨s.T,H'⟩ rs) λl=>cw n H' (iM l) k) (λH'=>cw n H' pv kp)
 |_,_,_=>False
theorem yu.mono{g:TO}{args:Array SP}{md:U7}{V:View}{R R':U7->View->Prop}(h:yu lv P g args md V R)(hr:∀m V,R m V->R' m V):yu lv P g args md V R':=λmain J C fr cs hm hR=>h main J C fr cs hm λnM V' r=>hR nM V' (hr _ _ r)
@[congr] theorem asM {nt : Nat} {c : T7} {s s' : AS} {ds ni : List (AV × List AV)} {Φ : an -> AS -> List (AV × List AV) -> Prop} (h : s = s') (hd : ds = ni) : AF lv P nt c s ds Φ = AF lv P nt c s' ni Φ := by rw [h, hd]
theorem arc(K:AS->List (AV×List AV)->Prop)(Φ:an->AS->List (AV×List AV)->Prop)(s:AS)(ds:List (AV×List AV)):an.wC K Φ .normal s ds=K s ds:=by rw[an.wC]
theorem are(K:AS->List (AV×List AV)->Prop)(Φ:an->AS->List (AV×List AV)->Prop)(s:AS)(ds:List (AV×List AV)):an.wC K Φ .ret s ds=Φ .ret s ds:=by rw[an.wC];simp
theorem ard(K:AS->List (AV×List AV)->Prop)(Φ:an->AS->List (AV×List AV)->Prop)(a:AV)(s:AS)(ds:List (AV×List AV)):an.wC K Φ (.panic a) s ds=Φ (.panic a) s ds:=by rw[an.wC];simp
@[congr] theorem atC {K : AS -> List (AV × List AV) -> Prop} {Φ : an -> AS -> List (AV × List AV) -> Prop} {e e' : an} {s s' : AS} {ds ni : List (AV × List AV)} (he : e = e') (h : s = s') (hd : ds = ni) : an.wC K Φ e s ds = an.wC K Φ e' s' ni := by rw [he, h, hd]
@[congr] theorem asZ {rs : List UL} {n : Nat} {k kp : AV -> List aa -> Prop} {e e' : an} {s s' : AS} {ds ni : List (AV × List AV)} (he : e = e') (h : s = s') (hd : ds = ni) : yz lv P rs n k kp e s ds = yz lv P rs n k kp e' s' ni := by rw [he, h, hd]
theorem aiM(rs:List UL)(n:Nat)(k kp:AV->List aa->Prop)(s:AS):yz lv P rs n k kp .ret s []=ao (gR P s rs) λl=>cw n s.H (iM l) k:=by rw[yz]
theorem aiL(rs:List UL)(n:Nat)(k kp:AV->List aa->Prop)(s:AS)(pv:AV):yz lv P rs n k kp (.panic pv) s []=cw n s.H pv kp:=by rw[yz]
attribute [seval] arc are ard aiM aiL
end
section
variable {P:SJ}
theorem acT{ι:Type}{body:ι->PUnit->Sem (ForInStep PUnit)}:∀(l:List ι),(∀i∈l,cJ P (body i ⟨⟩) (.yield ⟨⟩))->cJ P (forIn l ⟨⟩ body) ⟨⟩
 |[],_=>by simpa using iz PUnit.unit
 |i::l,h=>by
  rw[W2];exact lA (h i (TD ..)) (acT l λj hj=>h j (Tb _ hj))
theorem aqX{t:TypeId}{k0 k:TU}{d:Nat}{b:Bool}{x:Int}(h:P.underlying t=some (.int k0)):cJ P (U_ b (d+1) t (.int k x)) ():=by
 rw[U_];exact yn h (iz _)
theorem acS{t e:TypeId}{k0 k:TU}{n d:Nat}{i:Wm}{b:Bool}{xs:List Int}(ht:P.underlying t=some (.array n e))(he:P.underlying e=some (.int k0))(hi:P.info? e=some i)(hs:i.size=1)(hx:xs.length=n):
  cJ P (U_ b (d+2) t (.agg (xs.map (SG k)).toArray)) ():=by
 rw[U_];refine yn ht ?_;dsimp only;simp only[Wy,Xq];refine lA (a:=⟨⟩) ?_ (iz _);refine acT _ λj hj=> ?_;have hn:(n-0+1-1)/1=n:=by simp
 have oW:j<n:=by rw[hn]at hj;simp[XV]at hj;omega
 have gx:xs[j]?=some (xs[j]'(by omega)):=SQ _;refine Nh hi ?_;rw[hs,Ya];refine Dp he rfl (v:=.int k (xs[j]'(by omega))) (by simp[gx]) ?_;exact lA (aqX he) (iz _)
def eC (x:List Int×Nat):Wn:={key:=.agg (x.1.map (SG .i64)).toArray,val:=.bool true,born:=x.2}
def pK (x:List Int):List (List Int×Nat)->Nat->Option (Nat×SP)
 |[],_=>none
 |y::ts,i=>if x==y.1 then some (i,.bool true)else pK x ts (i+1)
theorem acV{t e:TypeId}{k0:TU}{n:Nat}{i:Wm}{x:List Int}(ht:P.underlying t=some (.array n e))(he:P.underlying e=some (.int k0))(hi:P.info? e=some i)(hs:i.size=1)(hx:x.length=n):∀(ts:List (List Int×Nat))(j:Nat),(∀y∈ts,y.1.length=n)->
  cJ P (XF t (.agg (x.map (SG .i64)).toArray) (ts.map eC) j) (pK x ts j)
 |[],j,_=>by rw[List.map_nil,XF,pK];exact iz _
 |y::ts,j,h=>by
  rw[UP,XF,pK];refine lA (acU ht he hi hs hx (h y (TD ..))) ?_;by_cases wa:(x==y.1)=true
  ·rw[if_pos wa,if_pos wa];exact iz _
  ·rw[if_neg wa,if_neg wa];exact acV ht he hi hs hx ts (j+1) λz hz=>h z (Tb _ hz)
theorem acW{t e:TypeId}{k0:TU}{n:Nat}{i:Wm}{x:List Int}(ht:P.underlying t=some (.array n e))(he:P.underlying e=some (.int k0))(hi:P.info? e=some i)(hs:i.size=1)(hx:x.length=n){ts:List (List Int×Nat)}(h:∀y∈ts,y.1.length=n):
  cJ P (VN t (.agg (x.map (SG .i64)).toArray) (ts.map eC)) (pK x ts 0):=by
 unfold VN;refine yn ht ?_;cases ts with
 |nil=>exact iz _
 |cons y ts=>
  have e1:Instr.findNow (.array n e) (.agg (x.map (SG .i64)).toArray) ((y::ts).map eC) 0=none:=rfl;rw[e1];exact acV ht he hi hs hx (y::ts) 0 h
theorem P5{x:List Int}:∀{ts:List (List Int×Nat)}{j i:Nat}{v:SP},pK x ts j=some (i,v)->∃b,j<=i/\ts[i-j]?=some (x,b)/\v=.bool true
 |y::ts,j,i,v,h=>by
  rw[pK]at h;split at h
  ·rename_i wa;cases h;obtain⟨y1,b⟩:=y;have:x=y1:=(by simpa using wa);subst this;exact⟨b,SR _,by simp,rfl⟩
  ·obtain⟨b,h1,h2,h3⟩:=P5 h;refine⟨b,by omega,?_,h3⟩;have:i-j=(i-(j+1))+1:=(by omega);rw[this,UI];exact h2
theorem P4{x:List Int}:∀{ts:List (List Int×Nat)}{j:Nat},pK x ts j=none->∀y∈ts,y.1≠x
 |y::ts,j,h,z,hz=>by
  rw[pK]at h;split at h
  ·cases h
  ·rename_i wa;rcases SL.1 hz with rfl|hz
   ·intro e;exact wa (by simp[e])
   ·exact P4 h z hz
end
theorem apP(xs:List Int):WE 10000 (.agg (xs.map (SG .i64)).toArray) (.agg (xs.map (SG .i64)).toArray)=true:=by
 show WE (9999+1) _ _=true;rw[WE];simp only[beq_self_eq_true,Vb,TA]
 rintro⟨a,b⟩ h
 have:a=b/\a∈xs.map (SG .i64):=by
  have key:∀l:List SP,(a,b)∈l.zip l->a=b/\a∈l:=by
   intro l;induction l with
   |nil=>intro h;cases h
   |cons x l ih=>
    intro h;rw[List.zip_cons_cons]at h;rcases SL.1 h with h|h
    ·cases h;exact⟨rfl,TD ..⟩
    ·exact⟨(ih h).1,Tb _ (ih h).2⟩
  exact key _ h
 obtain⟨rfl,hm⟩:=this;obtain⟨x,_,rfl⟩:=Td.1 hm;simp[WE]
theorem abK(ts:List (List Int×Nat))(ck:Nat)(x:List Int):wy (ts.map eC).toArray ck (.agg (x.map (SG .i64)).toArray) (.bool true) none=.map ((ts++[(x,ck)]).map eC).toArray (ck+1):=by
 simp[wy,eC]
theorem aov{ts:List (List Int×Nat)}{ck i b:Nat}{x:List Int}{v:SP}(h:ts[i]?=some (x,b)):wy (ts.map eC).toArray ck (.agg (x.map (SG .i64)).toArray) (.bool true) (some (i,v))=.map (ts.map eC).toArray ck:=by
 simp only[wy];congr 1;apply Array.ext_getElem?;intro j;rw[Wl];by_cases hj:i=j
 ·subst hj;rw[if_pos rfl];simp[h,eC]
 ·rw[if_neg hj]
theorem anF(xs:List Int):AV.of (.agg (xs.map (SG .i64)).toArray)=.agg (xs.map iv):=by
 simp only[AV.of,XW];congr 1
theorem OO(ts:List (List Int×Nat))(ck:Nat)(h:∀y∈ts,y.2<ck):((ts.map eC).toArray.all (λe=>decide (e.born>=ck))=false\/(ts.map eC).toArray.isEmpty=true):=by
 cases ts with
 |nil=>right;rfl
 |cons y ts=>
  left;have:=h y (TD ..);simp[eC];omega
theorem C5{α β:Type}(f:α->β):∀{l:List α},(l.map f).Nodup->l.Nodup
 |[],_=>WO
 |x::l,h=>by
  rw[UP,VS]at h;exact VS.2 ⟨λhm=>h.1 (Td.2 ⟨x,hm,rfl⟩),C5 f h.2⟩
theorem ab3{ts vs:List (List Int×Nat)}(hv:(vs.map (·.2)).Nodup)(ht:(ts.map (·.2)).Nodup)(lO:∀y∈vs,y∈ts)(fD:∀y∈ts,y.2∈vs.map (·.2)):vs.Perm ts:=by
 have xR:vs.Nodup:=C5 _ hv;have mi:ts.Nodup:=C5 _ ht;refine(List.perm_ext_iff_of_nodup xR mi).2 λy=>⟨lO y,λhy=> ?_⟩;obtain⟨z,hz,e⟩:=Td.1 (fD y hy);have Lm:=lO z hz;have:∀(l:List (List Int×Nat)),(l.map (·.2)).Nodup->z∈l->y∈l->z=y:=by
  intro l;induction l with
  |nil=>intro _ h;cases h
  |cons x l ih=>
   intro hn h1 h2;rw[UP,VS]at hn;rcases SL.1 h1 with e1|Js
   ·rcases SL.1 h2 with e2|za
    ·rw[e1,e2]
    ·exact absurd (show x.2∈l.map (·.2)from Td.2 ⟨y,za,by rw[<- e1];exact e.symm⟩) hn.1
   ·rcases SL.1 h2 with e2|za
    ·exact absurd (show x.2∈l.map (·.2)from Td.2 ⟨z,Js,by rw[<- e2];exact e⟩) hn.1
    ·exact ih hn.2 Js za
 rw[<- this ts ht Lm hy];exact hz
theorem P7{y:List Int×Nat}:∀{ts:List (List Int×Nat)},(ts.map (·.2)).Nodup->y∈ts->(ts.map eC).toArray.find? (λe=>e.born==y.2)=some (eC y):=by
 intro ts hn hy;rw[List.find?_toArray];induction ts with
 |nil=>cases hy
 |cons z ts ih=>
  rw[UP,VS]at hn;rw[UP];by_cases h:z.2=y.2
  ·rw[YT (by simp[eC,h])];rcases SL.1 hy with e|o_
   ·rw[e]
   ·exact absurd (show z.2∈ts.map (·.2)from Td.2 ⟨y,o_,h.symm⟩) hn.1
  ·rw[List.find?_cons_of_neg (by simp[eC,h])];rcases SL.1 hy with e|o_
   ·exact absurd (by rw[e]) h
   ·exact ih hn.2 o_
theorem abn(y:List Int×Nat):AV.of (eC y).key=.agg (y.1.map iv):=anF y.1
section
variable {lv:Bool}{P:SJ}
theorem apV{l:Nat}{r:asI}{V:View}(ho:V.own l=some (.loop r))(hs:r.state=.ready)(hc:V.role.chan≠some l):aP P V (do XG l;pure Next.skip) (λnx V'=>nx=.skip/\V'=V.upd l (.loop {r with state:=.busy})) (λ_ _=>False):=by
 unfold XG WK;refine aA (aA (aA ?_));unfold getObj;refine nR ho rfl rfl hc (cG ?_);dsimp only;refine aq ?_;refine aA ?_;unfold setObj;refine yj ho rfl rfl hc (cG ?_);rw[hs];exact aq (aq ⟨rfl,rfl⟩)
theorem apZ{l:Nat}{r:asI}{V:View}(pc:Option T7)(ho:V.own l=some (.loop r))(hc:V.role.chan≠some l):aP P V (W6 l pc) (λv V'=>v=.bool pc.isNone/\V'=V.upd l (.loop {r with state:=if pc.isNone then .ready else .done,pending:=pc})) (λ_ _=>False):=by
 unfold W6 WK;refine aA (aA ?_);unfold getObj;refine nR ho rfl rfl hc (cG ?_);dsimp only;refine aq ?_;refine aA ?_;unfold setObj;refine yj ho rfl rfl hc (cG ?_);exact aq ⟨rfl,rfl⟩
theorem apY{l:Nat}{r:asI}{V:View}(ho:V.own l=some (.loop r))(hs:r.state≠ .busy)(hc:V.role.chan≠some l):aP P V (ZS l) (λv V'=>v=r.pending/\V'=V.upd l (.loop {r with state:=.exhausted})) (λ_ _=>False):=by
 unfold ZS WK;refine aA (aA ?_);unfold getObj;refine nR ho rfl rfl hc (cG ?_);dsimp only;refine aq ?_;have:(r.state==asg)=false:=by simpa using hs
 rw[if_neg (by rw[this];simp)];refine aA ?_;unfold setObj;refine yj ho rfl rfl hc (cG ?_);exact aq ⟨rfl,rfl⟩
theorem ap0{fn:TO}{tmps:Array SP}{ps:Array Tmp}{bL body:T7}{V:View}:aP P V (WY fn tmps ps bL body none) (λx V1=>∃d l,V.fresh d/\(V.upd d (.deferred (some []))).fresh l/\x=(l,[{target:=.collected d,args:=#[]}])/\
  V1=(V.upd d (.deferred (some []))).upd l (.loop {state:=.ready,pending:=none,fn,tmps,params:=ps,assign:=bL,body,defers:=d})) (λ_ _=>False):=by
 unfold WY;dsimp only;refine aA ?_;unfold newObj;refine oB λd hd=>cG ?_;refine aA (aq ?_);dsimp only;refine aA (oB λl hl=>cG (aq ?_));exact⟨d,l,hd,hl,rfl,rfl⟩
theorem M6{d:Nat}{V:View}(ho:V.own d=some (.deferred (some [])))(hc:V.role.chan≠some d):aP P V (Y9 d) (λv V'=>v=[]/\V'=V.upd d (.deferred none)) (λ_ _=>False):=by
 unfold Y9;refine aA ?_;unfold getObj;refine nR ho rfl rfl hc (cG ?_);dsimp only;refine aA ?_;unfold setObj;refine yj ho rfl rfl hc (cG ?_);exact aq ⟨rfl,rfl⟩
def adO (l:Nat)(R:Out->View->Prop):Ex->Act->View->Prop
 |.normal,_,V=>∃r,V.own l=some (.loop r)/\V.role.chan≠some l/\R (.ret (.bool true)) (V.upd l (.loop {r with state:=.ready,pending:=none}))
 |.ret,_,V=>∃r,V.own l=some (.loop r)/\V.role.chan≠some l/\R (.ret (.bool false)) (V.upd l (.loop {r with state:=.done,pending:=some .ret}))
 |.exit i,_,V=>∃r,V.own l=some (.loop r)/\V.role.chan≠some l/\R (.ret (.bool false)) (V.upd l (.loop {r with state:=.done,pending:=some (.exit i)}))
 |.goto i,_,V=>∃r,V.own l=some (.loop r)/\V.role.chan≠some l/\R (.ret (.bool false)) (V.upd l (.loop {r with state:=.done,pending:=some (.goto i)}))
 |.panic ch,a,V=>a.defers=[]/\R (.panic ch) V
def adM (lv:Bool)(P:SJ)(l:Nat)(body:T7)(R:Out->View->Prop):Ex->Act->View->Prop
 |.normal,a,V=>∃r,V.own l=some (.loop r)/\V.role.chan≠some l/\r.state=.ready/\WP lv P (some l) body (adO l R) a (V.upd l (.loop {r with state:=.busy}))
 |_,_,_=>False
theorem apz{l f:Nat}{tmps:Array SP}{bL body:T7}{V:View}{R:Out->View->Prop}(h:WP lv P (some l) bL (adM lv P l body R) {tmps,defers:=[]} V):m9 lv P (W_ l f tmps bL body .normal) V R:=by
 intro main J C c cs h1 h2;let b:T_:={(default:T_)with fn:=f,kind:=.normal,roundOf:=some l};have ald:W_ l f tmps bL body .normal=on b {tmps,defers:=[]} [.code bL,.beginRound,.code body]:=rfl;rw[ald];have leave:∀(a:Act)(V':View)(r:asI)(pc:Option T7)(todo:List WU),V'.own l=some (.loop r)->V'.role.chan≠some l->R (.ret (.bool pc.isNone)) (V'.upd l (.loop {r with state:=if pc.isNone then .ready else .done,pending:=pc}))->
   (∀w,stepG P main (G (on b a todo) (c::cs)) w=T1 (seen P b.fn ((W6 l pc).runT P w #[]).2) (match((W6 l pc).runT P w #[]).1 with
    |.ok v w=>doReturn P main (on b a todo) (c::cs) none v w
    | .halt _ w => .ended (.stuck "range over a function: no such loop" ((on b a todo).pos P)) w)) -> J V' (G (on b a todo) (c :: cs)) := by
  intro a V' r pc todo ho eX hR aQ;refine C.step _ _ rfl λw fz=> ?_;obtain⟨es,w',aS,k1,k2,k3⟩:=(apZ (P:=P) pc ho eX).runs fz;rcases k3 with⟨v,k3,rfl,rfl⟩|⟨_,_,hx⟩
  ·refine⟨G (c.finish (.bool pc.isNone)) cs,w',seen P b.fn es,_,?_,k1.seen P b.fn,h1 _ _ hR⟩;rw[aQ w];simp[TC,k3,k2,doReturn,T1,on,b,G]
  ·exact hx.elim
 refine h main J C b [.beginRound,.code body] (c::cs) (by show Y'≠U4;decide) rfl λe a' V' q=> ?_;cases e with
 |normal=>
  obtain⟨r,ho,eX,hs,hw⟩:=q;refine C.step _ _ rfl λw fz=> ?_;obtain⟨es,w',aS,k1,k2,k3⟩:=(apV (P:=P) ho hs eX).runs fz;rcases k3 with⟨nx,k3,rfl,rfl⟩|⟨_,_,hx⟩
  ·refine⟨G (on b a' [.code body]) (c::cs),w',seen P b.fn es,_,?_,k1.seen P b.fn,?_⟩
   ·have:stepG P main (G (on b a' [.beginRound,.code body]) (c::cs)) w=stepG.apply P true (on b a' [.beginRound,.code body]) (c::cs) none (do XG l;pure Next.skip) w:=by
     simp[G,stepG,Ue,on,b]
    rw[this];have jT:((on b a' [.beginRound,.code body]).kind==U4)=false:=(by simp[on,b]);simp only[stepG.apply,TC,if_true,k3,k2,jT,T1];rfl
   ·refine hw main J C b [] (c::cs) (by show Y'≠U4;decide) rfl λe cm aS q=> ?_;cases e with
    |normal=>
     obtain⟨r',bc,nw,hR⟩:=q;refine leave cm aS r' none [] bc nw hR λw=> ?_;simp[G,stepG,Ue,on,b];rfl
    |ret=>
     obtain⟨r',bc,nw,hR⟩:=q;intro k;refine leave cm aS r' (some .ret) _ bc nw hR λw=> ?_;simp[G,stepG,Ue,on,b];rfl
    |exit i=>
     obtain⟨r',bc,nw,hR⟩:=q;refine .inr ⟨rfl,λk2 b_=> ?_⟩;refine leave cm aS r' (some (.exit i)) _ bc nw hR λw=> ?_;simp[G,stepG,Ue,on,b,b_];rfl
    |goto i=>
     obtain⟨r',bc,nw,hR⟩:=q;refine .inr ⟨rfl,λk2 b_=> ?_⟩;refine leave cm aS r' (some (.goto i)) _ bc nw hR λw=> ?_;simp[G,stepG,Ue,on,b,b_];rfl
    |panic ch=>
     obtain⟨hd,hR⟩:=q;intro todo alr;refine C.idle rfl (λw=> ?_) (h2 _ _ hR);have ajH:ZZ P {on b cm todo with mode:=.panicking ch}=false:=by
      unfold ZZ
      match todo,alr with
      |.call .. ::_,h=>cases h
      |[],_=>split<;>simp_all[on]
      |x::k,_=>cases x<;>(split<;>simp_all[on,aa4])
     have bx:({on b cm todo with mode:=.panicking ch}:T_).defers=[]:=hd;simp only[G,stepG,unwind,bx,ajH];simp
  ·exact hx.elim
 |_=>exact q.elim
def mark (a:Act)(d:Nat):Act:={a with defers:={target:=.collected d,args:=#[]}::a.defers}
def wO (l:Nat)(Q:Ex->Act->View->Prop)(a:Act):Out->View->Prop
 |.ret _,V=>∃r,V.own l=some (.loop r)/\V.role.chan≠some l/\r.state≠ .busy/\(match r.pending with
  |none=>Q .normal a (V.upd l (.loop {r with state:=.exhausted}))
  |some .ret=>Q .ret a (V.upd l (.loop {r with state:=.exhausted}))
  |some (.exit i)=>Q (.exit i) a (V.upd l (.loop {r with state:=.exhausted}))
  |some (.goto i)=>Q (.goto i) a (V.upd l (.loop {r with state:=.exhausted}))
  |_=>False)
 |.panic ch,V=>Q (.panic ch) a V
abbrev D6 (l d:Nat)(Q:Ex->Act->View->Prop)(a:Act):Out->View->Prop:=wO l Q (mark a d)
theorem abQ{rr:Option Nat}{f:Tm}{ps:Array Tmp}{bL body:T7}{Q:Ex->Act->View->Prop}{a a1:Act}{V1:View}{l:Nat}{main:Bool}{J:View->SH->Prop}(C:Closed lv P main J){b:T_}{k:List WU}{cs:List T_}(hb:b.kind≠ .early)(hr:b.roundOf=rr)(hL:∀e a' V',Q e a' V'->vd J b k cs e a' V'){w w1:Tq}{es:Array Uo}{V:View}
  (h:aP P V1 (do let dd<- U2 (a.eval f) #[.func (.yield l) #[] #[]];invoke dd.target dd.args) (λnx V'=>Nx lv P (wO l Q a1) nx V') (λv V'=>wO l Q a1 (.panic [{v,recovered:=false}]) V'))
  (s1:dc V w V1 w1 (fE es)) (aQ:stepG P main (G (on b a (.code (.rangeFunc f ps bL body)::k)) cs) w=T1 (seen P b.fn es) (stepG.apply P true (on b a1 (.inRangeFunc l::k)) cs none (do let dd<- U2 (a.eval f) #[.func (.yield l) #[] #[]];invoke dd.target dd.args) w1)):
  ∃g' w' es V',stepG P main (G (on b a (.code (.rangeFunc f ps bL body)::k)) cs) w=.go g' w' es/\dc V w V' w' es/\J V' g':=by
 have fin:∀(v:SP)(V':View),wO l Q a1 (.ret v) V'->J V' (G (on b a1 (.endRangeFunc l::k)) cs):=by
  intro v V' ⟨r,ho,eX,hs,hq⟩;refine C.step _ _ rfl λw fz=> ?_;obtain⟨es,w',aS,k1,k2,k3⟩:=(apY (P:=P) ho hs eX).runs fz;rcases k3 with⟨x,k3,rfl,rfl⟩|⟨_,_,hx⟩
  ·refine⟨G (on b a1 ((r.pending.map Item.code).toList++k)) cs,w',seen P b.fn es,_,?_,k1.seen P b.fn,?_⟩
   ·simp[G,stepG,Ue,on,TC,k3,k2,T1]
   ·generalize r.pending=pe at hq⊢
    match pe,hq with
    |none,hq=>exact hL _ _ _ hq
    |some .ret,hq=>exact hL _ _ _ hq _
    |some (.exit i),hq=>exact aar C (hL _ _ _ hq)
    |some (.goto i),hq=>exact alM C (hL _ _ _ hq)
  ·exact hx.elim
 obtain⟨nj,w2,V2,t1,t2,t3⟩:=h.runs s1.sat;have jT:((on b a1 (.inRangeFunc l::k)).kind==U4)=false:=by simpa[on]using hb
 rw[aQ];rcases t3 with⟨nx,t3,hU⟩|⟨v,t3,hU⟩
 ·cases nx with
  |value v=>exact⟨_,w2,seen P b.fn es++seen P b.fn nj,V2,by simp only[stepG.apply,TC,if_true,t3,t2,jT,T1];rfl,(s1.seen P _).trans (t1.seen P _),fin v _ hU⟩
  |skip=>exact⟨_,w2,seen P b.fn es++seen P b.fn nj,V2,by simp only[stepG.apply,TC,if_true,t3,t2,jT,T1];rfl,(s1.seen P _).trans (t1.seen P _),fin undef _ hU⟩
  |enter g args=>
   refine⟨G (Frame.enter P g args .normal) (on b a1 (.inRangeFunc l::k)::cs),w2,seen P b.fn es++seen P b.fn nj,V2,by simp only[stepG.apply,TC,if_true,t3,t2,jT,T1];rfl,(s1.seen P _).trans (t1.seen P _),?_⟩;refine Body.runs hU main J C _ cs (λv aS hR=> ?_) (λch aS hR=> ?_)
   ·exact fin v _ hR
   ·exact hL _ _ _ hR _ rfl
  |round l2 f2 art as2 b2=>
   refine⟨G (W_ l2 f2 art as2 b2 .normal) (on b a1 (.inRangeFunc l::k)::cs),w2,seen P b.fn es++seen P b.fn nj,V2,by simp only[stepG.apply,TC,if_true,t3,t2,jT,T1];rfl,(s1.seen P _).trans (t1.seen P _),?_⟩;refine hU main J C _ cs (λv aS hR=> ?_) (λch aS hR=> ?_)
   ·exact fin v _ hR
   ·exact hL _ _ _ hR _ rfl
  |_=>exact hU.elim
 ·exact⟨_,w2,seen P b.fn es++seen P b.fn nj,V2,by simp only[stepG.apply,TC,if_true,t3,t2,jT,T1];rfl,(s1.seen P _).trans (t1.seen P _),hL _ _ _ hU _ rfl⟩
theorem adw{f:Tm}{ps:Array Tmp}{bL body:T7}{Q:Ex->Act->View->Prop}{a:Act}{V:View}
  (h:∀(fn d l:Nat),V.fresh d->(V.upd d (.deferred (some []))).fresh l->aP P ((V.upd d (.deferred (some []))).upd l (.loop {state:=.ready,pending:=none,fn,tmps:=a.tmps,params:=ps,assign:=bL,body,defers:=d}))
   (do let dd<- U2 (a.eval f) #[.func (.yield l) #[] #[]];invoke dd.target dd.args) (λnx V'=>Nx lv P (D6 l d Q a) nx V') (λv V'=>D6 l d Q a (.panic [{v,recovered:=false}]) V')):WP lv P none (.rangeFunc f ps bL body) Q a V:=by
 intro main J C b k cs hb hr hL;refine C.step _ _ rfl λw fz=> ?_;obtain⟨es,w1,V1,s1,s2,s3⟩:=(ap0 (P:=P) (fn:=b.fn) (tmps:=a.tmps) (ps:=ps) (bL:=bL) (body:=body)).runs fz;rcases s3 with⟨x,s3,d,l,hd,hl,rfl,rfl⟩|⟨_,_,hx⟩
 ·refine abQ C hb hr hL (h b.fn d l hd hl) s1 ?_;have cu:∀(todo:List WU)(x:Tm),(on b (mark a d) todo).eval x=a.eval x:=λtodo x=>by rw[GC];cases x<;>rfl
  have e:=cu (.inRangeFunc l::k) f;have e2:=cu (.inRangeFunc l::k) (.const (.func (.yield l) #[] #[]));simp only[on,mark]at e e2;simp[G,stepG,Ue,on,TC,s3,s2,hr,mark,resolve];rw[hr]at e;rw[e];rfl
 ·exact hx.elim
theorem ap1{fn:TO}{tmps:Array SP}{ps:Array Tmp}{bL body:T7}{V:View}{l0:Nat}{r0:asI}(ho:V.own l0=some (.loop r0))(hc:V.role.chan≠some l0):aP P V (WY fn tmps ps bL body (some l0)) (λx V1=>∃l,V.fresh l/\x=(l,[])/\
  V1=V.upd l (.loop {state:=.ready,pending:=none,fn,tmps,params:=ps,assign:=bL,body,defers:=r0.defers})) (λ_ _=>False):=by
 unfold WY WK;dsimp only;refine aA (aA ?_);unfold getObj;refine nR ho rfl rfl hc (cG ?_);dsimp only;refine aq (aA (aq ?_));dsimp only;refine aA ?_;unfold newObj;refine oB λl hl=>cG (aq ?_);exact⟨l,hl,rfl,rfl⟩
theorem ar2{f:Tm}{ps:Array Tmp}{bL body:T7}{Q:Ex->Act->View->Prop}{a:Act}{V:View}{l0:Nat}{r0:asI}(ho:V.own l0=some (.loop r0))(hc:V.role.chan≠some l0)
  (h:∀(fn l:Nat),V.fresh l->aP P (V.upd l (.loop {state:=.ready,pending:=none,fn,tmps:=a.tmps,params:=ps,assign:=bL,body,defers:=r0.defers}))
   (do let dd<- U2 (a.eval f) #[.func (.yield l) #[] #[]];invoke dd.target dd.args) (λnx V'=>Nx lv P (wO l Q a) nx V') (λv V'=>wO l Q a (.panic [{v,recovered:=false}]) V')):WP lv P (some l0) (.rangeFunc f ps bL body) Q a V:=by
 intro main J C b k cs hb hr hL;refine C.step _ _ rfl λw fz=> ?_;obtain⟨es,w1,V1,s1,s2,s3⟩:=(ap1 (P:=P) (fn:=b.fn) (tmps:=a.tmps) (ps:=ps) (bL:=bL) (body:=body) ho hc).runs fz;rcases s3 with⟨x,s3,l,hl,rfl,rfl⟩|⟨_,_,hx⟩
 ·refine abQ C hb hr hL (h b.fn l hl) s1 ?_;have e:=GC b a (.inRangeFunc l::k) f;simp only[on]at e;simp[G,stepG,Ue,on,TC,s3,s2,hr,resolve];rw[hr]at e;rw[e];rfl
 ·exact hx.elim
theorem Conc.yl{E:Env}{V:View}{H:List aa}(hc:Conc E V H){id r fn nt df:Nat}{st:ab_}{pe:Option T7}{T:List (Nat×AV)}{ps:Array Tmp}{bL body:T7}(hk:H[id]?=some (.loop r st pe fn T nt ps bL body df)):
  E.blk id=r/\V.role.chan≠some r/\∃tmps,V.own r=some (.loop {state:=st,pending:=pe,fn,tmps,params:=ps,assign:=bL,body,defers:=E.blk df})/\tmps.size=nt/\cj E T tmps/\
   ∀st' wx,Conc E (V.upd r (.loop {state:=st',pending:=wx,fn,tmps,params:=ps,assign:=bL,body,defers:=E.blk df})) (H.set id (.loop r st' wx fn T nt ps bL body df)):=by
 obtain⟨⟨tmps,p1,p2,p3⟩,p4,p5,p6⟩:=hc.obj id _ hk;have eX:=(hc.jf hk (b:=E.blk id) rfl).2;subst p6;refine⟨rfl,eX,tmps,p1,p2,p3,λst' wx=> ?_⟩;refine hc.iO id (.loop (E.blk id) st' wx fn T nt ps bL body df) (Env.Le.refl E) hc.I (by simpa using hc.n) lS rfl (λ_ _ _=>rfl) (λb z hb hz=>⟨?_,λ_=>rfl⟩) ⟨⟨tmps,by simp[View.upd],p2,p3⟩,p4,p5,rfl⟩ (λb h=> .inl ⟨_,hk,h⟩);have:b≠E.blk id:=λe=>hb _ hk (by rw[e];rfl);simpa[View.upd,this]using hz
theorem Conc.Dj{E:Env}{V:View}{H:List aa}(hc:Conc E V H){id:Nat}(x:aa)(hk:H[id]?=some x)(y:Obj){b:Nat}(hb:bM E id x=some b):Conc E (V.upd b y) (H.set id .gone):=by
 refine hc.iO id .gone (Env.Le.refl E) hc.I (by simpa using hc.n) lS rfl (λ_ _ _=>rfl) (λb' z dB hz=>⟨?_,λ_=>rfl⟩) trivial (λb h=>by cases h);have:b'≠b:=λe=>dB _ hk (by rw[e];exact hb);simpa[View.upd,this]using hz
def rY:List Nat->List AV->List (Nat×AV)->List (Nat×AV)
 |t::ts,a::aG,T=>rY ts aG ((t,a)::T)
 |_,_,T=>T
theorem adC{E:Env}{nt:Nat}:∀(ts:List Nat)(aG:List AV)(vs:List SP)(T:List (Nat×AV))(tmps:Array SP),vs.length=aG.length->(∀(i:Nat) a,aG[i]?=some a->ap E a (vs.getD i undef))->(∀t∈ts,t<nt)->tmps.size=nt->cj E T tmps->
  cj E (rY ts aG T) ((ts.zip vs).foldl (λtmps (x:Nat×SP)=>tmps.setIfInBounds x.1 x.2) tmps)/\((ts.zip vs).foldl (λtmps (x:Nat×SP)=>tmps.setIfInBounds x.1 x.2) tmps).size=nt
 |[],aG,vs,T,tmps,_,_,_,hs,hT=>by cases aG<;>cases vs<;>exact⟨hT,hs⟩
 |t::ts,[],[],T,tmps,_,_,_,hs,hT=>⟨hT,hs⟩
 |t::ts,[],_::_,T,tmps,h,_,_,hs,hT=>by cases h
 |t::ts,_::_,[],T,tmps,h,_,_,hs,hT=>by cases h
 |t::ts,a::aG,v::vs,T,tmps,hl,hd,ht,hs,hT=>by
  have h0:ap E a v:=by simpa using hd 0 a rfl
  have h1:t<tmps.size:=by rw[hs];exact ht t (by simp)
  exact adC ts aG vs ((t,a)::T) (tmps.setIfInBounds t v) (by simpa using hl) (λi x hx=>by simpa using hd (i+1) x (by simpa using hx)) (λx hx=>ht x (by simp[hx])) (by simpa using hs) (hT.put h1 h0)
def oK (id n:Nat)(k:AV->List aa->Prop)(st':ab_)(wx:Option T7)(b:Bool)(s:AS):Prop:=∃r st pe fn T nt ps bL body df,s.H[id]?=some (.loop r st pe fn T nt ps bL body df)/\cw n (s.H.set id (.loop r st' wx fn T nt ps bL body df)) (.val (.bool b)) k
def adN (id n:Nat)(k kp:AV->List aa->Prop):an->AS->Prop
 |.normal,s=>oK id n k .ready none true s
 |.ret,s=>oK id n k .done (some .ret) false s
 |.exit i,s=>oK id n k .done (some (.exit i)) false s
 |.goto i,s=>oK id n k .done (some (.goto i)) false s
 |.panic pv,s=>cw n s.H pv kp
def tQ (lv:Bool)(P:SJ)(l nt id n:Nat)(body:T7)(k kp:AV->List aa->Prop):an->AS->Prop
 |.normal,s=>∃pe fn T jg ps bL fu df,s.H[id]?=some (.loop l .ready pe fn T jg ps bL fu df)/\aW lv P (some l) nt body ⟨s.T,s.H.set id (.loop l .busy pe fn T jg ps bL fu df)⟩ (adN id n k kp)
 |_,_=>False
theorem vz{l id fn nt df:Nat}{pe:Option T7}{T:List (Nat×AV)}{ps:Array Tmp}{bL body:T7}{H:List aa}{args:List AV}{k kp:AV->List aa->Prop}(cg:H[id]?=some (.loop l .ready pe fn T nt ps bL body df))(hlen:args.length=ps.size)(ru:ps.all (·<nt)=true)
  (h:bP H->(∀a∈args,Lt H.length a)->aW lv P (some l) nt bL ⟨rY ps.toList args T,H⟩ (tQ lv P l nt id H.length body k kp)):iQ lv P (.fn (.yield l) [] []) H args k kp:=by
 intro E V cv vs hc hd oU;cases hd with
 |fn dL fP h1 h2=>
  rename_i fa ca;have e1:fa=#[]:=by apply VD;simpa using dL
  subst e1;have hlt:∀a∈args,Lt H.length a:=λa ha=>by
   obtain⟨i,hi⟩:=pi ha;rw[<- hc.n];exact(oU.2 i a hi).lt
  obtain⟨hb,eX,tmps,ho,aV,hT,_⟩:=hc.yl cg;unfold U2;refine aA (aq ?_);unfold invoke;dsimp only;unfold Instr.yield WK;refine aA (aA ?_);unfold getObj;refine nR ho rfl rfl eX (cG ?_);dsimp only;refine aq ?_;have lQ:(#[]++vs).size=ps.size:=by simp[oU.1,hlen]
  rw[if_neg (by simp[oU.1,hlen])];refine aq ?_;show m9 lv P _ V (gK E V k kp);have hz:=adC (nt:=nt) ps.toList args vs.toList T tmps (by simpa using oU.1) (λi a e=>by
   have:=oU.2 i a e;simpa[SI,SE]using this) (λt ht=>by
    have:=(UH.1 ru) t (by simpa using ht);simpa using this) aV hT
  have agZ:(ps.zip (#[]++vs)).foldl (λtmps (x:Nat×SP)=>tmps.setIfInBounds x.1 x.2) tmps=(ps.toList.zip vs.toList).foldl (λtmps (x:Nat×SP)=>tmps.setIfInBounds x.1 x.2) tmps:=by
   rw[<- Array.foldl_toList,Array.toList_zip];simp
  have ag0:Array.foldl (λtmps x=>match x with|(t,a)=>tmps.setIfInBounds t a) tmps (ps.zip (#[]++vs))=(ps.toList.zip vs.toList).foldl (λtmps (x:Nat×SP)=>tmps.setIfInBounds x.1 x.2) tmps:=agZ;rw[ag0];refine apz ?_;refine h hc.az hlt E V _ _ ⟨hc,hz.1,hz.2⟩ λae e E' V' a' s' hk aR he hΦ=> ?_;cases ae<;>cases e<;>first
   |exact he.elim
   |exact hΦ.elim
   |skip
  obtain⟨wx,fB,T',jg,gr,fW,fu,fX,akd,hw⟩:=hΦ;obtain⟨dB,nw,qw,bc,K4,sK,zM⟩:=aR.bu.yl akd;refine⟨_,bc,nw,rfl,?_⟩;refine hw E' _ a' _ ⟨zM .busy wx,aR.tok,aR.size⟩ λae e bQ aS cm di b_ de Cb F4=> ?_;have fin:∀(st':ab_)(GO:Option T7)(b:Bool),(∃r st pe fn T nt ps bL body df,di.H[id]?=some (.loop r st pe fn T nt ps bL body df)/\cw H.length (di.H.set id (.loop r st' GO fn T nt ps bL body df)) (.val (.bool b)) k)->
    ∃r,aS.own l=some (.loop r)/\aS.role.chan≠some l/\gK E V k kp (.ret (.bool b)) (aS.upd l (.loop {r with state:=st',pending:=GO})):=by
   intro st' GO b ⟨r,st,pe3,fn3,T3,nt3,MS,asH,asR,df3,ake,vU⟩;obtain⟨EZ,ajL,atG,KH,atn,hT3,alh⟩:=de.bu.yl ake;have hlt:id<E.n:=(by rw[hc.n];exact(SM.1 cg).1);have hle:E.Le bQ:=hk.le.trans b_.le;have hr:r=l:=(by rw[<- EZ,<- hb];exact hle.blk id hlt);subst hr;obtain⟨x,E4,H4,q1,q2,q3,q4⟩:=w_ vU (alh st' GO) (.val _) hle hc.n;exact⟨_,KH,ajL,x,E4,H4,q1,b_.role.trans hk.role,b_.deaf.trans hk.deaf,q2,q3,q4⟩
  cases ae<;>cases e<;>first
   |exact Cb.elim
   |exact fin .ready none true F4
   |exact fin .done (some .ret) false F4
   |(have e:_=_:=Cb
     subst e;exact fin .done _ false F4)
   |skip
  obtain⟨v,ajK,bk⟩:=Cb;subst ajK;obtain⟨x,E4,H4,q1,q2,q3,q4⟩:=w_ F4 de.bu bk (hk.le.trans b_.le) hc.n;refine⟨by rw[b_.defers,hk.defers],x,v,E4,H4,rfl,q1,b_.role.trans hk.role,b_.deaf.trans hk.deaf,q2,q3,q4⟩
def Marks (E:Env)(ms:List Nat)(l:List UX):Prop:=l=ms.map (λi=>({target:=.collected (E.blk i),args:=#[]}:UX))/\∀i∈ms,i<E.n
theorem Marks.mono{E E':Env}(h:E.Le E'){ms:List Nat}{l:List UX}(k:Marks E ms l):Marks E' ms l:=
 ⟨by rw[k.1];exact VB λi hi=>by rw[h.blk i (k.2 i hi)],λi hi=>Te (k.2 i hi) h.n⟩
def mA (lv:Bool)(P:SJ)(nt:Nat)(c:T7)(s:AS)(ms:List Nat)(Φ:an->AS->List Nat->Prop):Prop:=
 ∀(E:Env)(V:View)(a:Act)(Q:Ex->Act->View->Prop),At E V s a nt->Marks E ms a.defers->(∀ae e E' V' a' s' cE,qC E E' V V' a a'->At E' V' s' a' nt->Marks E' cE a'.defers->pw E' ae e->Φ ae s' cE->Q e a' V')->WP lv P none c Q a V
variable {s:AS}{ms:List Nat}{nt:Nat}
theorem If{c:T7}{Φ:an->AS->List Nat->Prop}(h:aW lv P none nt c s λe s'=>Φ e s' ms):mA lv P nt c s ms Φ:=λE V a Q ah hd hQ=>
 h E V a Q ah λae e E' V' a' s' hk aR he hΦ=>hQ ae e E' V' a' s' ms hk.d aR (by rw[hk.defers];exact hd.mono hk.le) he hΦ
def an.rU (next:AS->List Nat->Prop)(Φ:an->AS->List Nat->Prop):an->AS->List Nat->Prop
 |.normal,s,ms=>next s ms
 |e,s,ms=>Φ e s ms
theorem Ig{x y:T7}{Φ:an->AS->List Nat->Prop}(h:mA lv P nt x s ms (an.rU (λs' cE=>mA lv P nt y s' cE Φ) Φ)):mA lv P nt (.seq x y) s ms Φ:=by
 intro E V a Q ah hd hQ;refine wp_seq (h E V a _ ah hd λae e E' V' a' s' cE hk aR cC he hΦ=> ?_);cases ae<;>cases e<;>first
  |exact he.elim
  |exact hΦ E' V' a' Q aR cC λae e bQ aS cm di C3 aI de zo j9 tg=>hQ ae e bQ aS cm di C3 (hk.trans aI) de zo j9 tg
  |exact hQ _ _ E' V' a' s' cE hk aR cC he hΦ
theorem nd{x y:T7}{Φ:an->AS->List Nat->Prop}(h:aW lv P none nt x s (an.then (λs'=>mA lv P nt y s' ms Φ) λe s'=>Φ e s' ms)):mA lv P nt (.seq x y) s ms Φ:=by
 refine Ig (If (h.mono λe s' hs=> ?_));cases e<;>exact hs
def sj (Φ:an->AS->List Nat->Prop)(s:AS)(ms:List Nat):Option T7->Prop
 |none=>Φ .normal s ms
 |some .ret=>Φ .ret s ms
 |some (.exit i)=>Φ (.exit i) s ms
 |some (.goto i)=>Φ (.goto i) s ms
 |_=>False
theorem afw{f:Tm}{ps:Array Tmp}{bL body:T7}{fv:AV}{Φ:an->AS->List Nat->Prop}(hf:s.ev f=some fv)
  (h:∀l fn:Nat,iQ lv P fv (s.H++[.obj (.deferred (some [])),.loop l .ready none fn s.T nt ps bL body s.H.length]) [.fn (.yield l) [] []]
   (λ_ H'=>∃st pe fB T' jg gr fW fu fX,H'[s.H.length+1]?=some (.loop l st pe fB T' jg gr fW fu fX)/\st≠ .busy/\sj Φ ⟨s.T,H'.set (s.H.length+1) .gone⟩ (s.H.length::ms) pe)
   (λpv H'=>Φ (.panic pv) ⟨s.T,H'⟩ (s.H.length::ms))):mA lv P nt (.rangeFunc f ps bL body) s ms Φ:=by
 intro E V a Q ah hm hQ;refine adw λfn d l hd hl=> ?_;have hc:=ah.bu;have dl:Conc (E.add d V.ab) (V.upd d (.deferred (some []))) (s.H++[.obj (.deferred (some []))]):=by
  refine hc.add hd _ ⟨?_,rfl,rfl,λo=> ?_⟩ (λb e=> ?_)
  ·rw[Env.dI];simp[View.upd]
  ·rw[Env.dI];exact hd.2 o
  ·simp only[bM,Env.dI,Tn]at e;exact e.symm
 have Cj:E.Le (E.add d V.ab):=E.qj d (λb o v h=>by rw[<- hc.I];exact h);have B5:(E.add d V.ab).blk s.H.length=d:=by rw[<- hc.n];exact E.dI d _
 let E1:=E.add d V.ab;let V1:=V.upd d (.deferred (some []));have oZ:E1.n=s.H.length+1:=by rw[dl.n];simp
 have pZ:E1.Le (E1.add l V1.ab):=E1.qj l (λb o v h=>by rw[<- dl.I];exact h);have cT:Conc (E1.add l V1.ab) (V1.upd l (.loop {state:=.ready,pending:=none,fn,tmps:=a.tmps,params:=ps,assign:=bL,body,defers:=d})) ((s.H++[.obj (.deferred (some []))])++[.loop l .ready none fn s.T nt ps bL body s.H.length]):=by
  refine dl.add hl _ ⟨⟨a.tmps,?_,ah.size,(ah.tok.mono Cj).mono pZ⟩,?_,λo=> ?_,?_⟩ (λb e=> ?_)
  ·have e:(E1.add l V1.ab).blk s.H.length=d:=(by rw[pZ.blk s.H.length (by rw[oZ];omega)];exact B5);rw[e,Env.dI];simp[View.upd]
  ·show s.H.length<E1.n+1;omega
  ·rw[Env.dI];exact hl.2 o
  ·exact Env.dI _ _ _
  ·simp only[bM,Env.dI,Tn]at e;exact e.symm
 have hle:E.Le (E1.add l V1.ab):=Cj.trans pZ;have cL:(E1.add l V1.ab).blk (s.H.length+1)=l:=by rw[<- oZ];exact E1.dI l _
 have JQ:(E1.add l V1.ab).blk s.H.length=d:=by rw[pZ.blk s.H.length (by rw[oZ];omega)];exact B5
 rw[SD]at cT;have rk:∀E',(E1.add l V1.ab).Le E'->Marks E' (s.H.length::ms) (mark a d).defers:=λE' hE=>by
  refine Marks.mono hE ⟨?_,λi hi=> ?_⟩
  ·have:=(hm.mono hle).1;simp only[mark,UP,JQ];rw[<- this]
  ·rcases SL.1 hi with rfl|hi
   ·show _<E1.n+1;omega
   ·exact Te (hm.2 i hi) hle.n
 have bx:=ap.ev ah.tok hf;have B7:=h l fn (E1.add l V1.ab) (V1.upd l (.loop {state:=.ready,pending:=none,fn,tmps:=a.tmps,params:=ps,assign:=bL,body,defers:=d})) (a.eval f) #[.func (.yield l) #[] #[]] cT (bx.mono hle) ⟨rfl,λi x hx=>by
  match i,hx with
  |0,hx=>cases hx;exact .fn rfl rfl (by simp) (by simp)⟩
 have key:∀o V',gK (E1.add l V1.ab) (V1.upd l (.loop {state:=.ready,pending:=none,fn,tmps:=a.tmps,params:=ps,assign:=bL,body,defers:=d}))
   (λ_ H'=>∃st pe fB T' jg gr fW fu fX,H'[s.H.length+1]?=some (.loop l st pe fB T' jg gr fW fu fX)/\st≠ .busy/\sj Φ ⟨s.T,H'.set (s.H.length+1) .gone⟩ (s.H.length::ms) pe)
   (λpv H'=>Φ (.panic pv) ⟨s.T,H'⟩ (s.H.length::ms)) o V'->D6 l d Q a o V':=by
  intro o V' hr;cases o with
  |ret v=>
   obtain⟨av,E',H',hE,ce,eZ,_,bi,st,pe,fB,T',jg,gr,fW,fu,fX,cg,aQ,hp⟩:=hr;obtain⟨dB,nw,qw,bc,K4,sK,zM⟩:=bi.yl cg;refine⟨_,bc,nw,aQ,?_⟩;have hg:Conc E' (V'.upd l (.loop {state:=.exhausted,pending:=pe,fn:=fB,tmps:=qw,params:=gr,assign:=fW,body:=fu,defers:=E'.blk fX})) (H'.set (s.H.length+1) .gone):=bi.Dj _ cg _ (by simp only[bM,dB]);have aR:At E' (V'.upd l (.loop {state:=.exhausted,pending:=pe,fn:=fB,tmps:=qw,params:=gr,assign:=fW,body:=fu,defers:=E'.blk fX})) ⟨s.T,H'.set (s.H.length+1) .gone⟩ (mark a d) nt:=⟨hg,ah.tok.mono (hle.trans hE),ah.size⟩;have ez:qC E E' V (V'.upd l (.loop {state:=.exhausted,pending:=pe,fn:=fB,tmps:=qw,params:=gr,assign:=fW,body:=fu,defers:=E'.blk fX})) a (mark a d):=⟨hle.trans hE,rfl,ce,eZ⟩;dsimp only
   match pe,hp,aR,ez with
   |none,hp,aR,ez=>exact hQ .normal .normal E' _ _ _ _ ez aR (rk E' hE) trivial hp
   |some .ret,hp,aR,ez=>exact hQ .ret .ret E' _ _ _ _ ez aR (rk E' hE) trivial hp
   |some (.exit i),hp,aR,ez=>exact hQ (.exit i) (.exit i) E' _ _ _ _ ez aR (rk E' hE) rfl hp
   |some (.goto i),hp,aR,ez=>exact hQ (.goto i) (.goto i) E' _ _ _ _ ez aR (rk E' hE) rfl hp
  |panic ch=>
   obtain⟨pv,v,E',H',rfl,hE,ce,eZ,bk,bi,hp⟩:=hr;exact hQ (.panic pv) (.panic _) E' V' (mark a d) ⟨s.T,H'⟩ _ ⟨hle.trans hE,rfl,ce,eZ⟩ ⟨bi,ah.tok.mono (hle.trans hE),ah.size⟩ (rk E' hE) ⟨v,rfl,bk⟩ hp
 exact B7.mono (λnx V' hn=>Nx.mono key hn) (λv V' hr=>key _ _ hr)
def tP (Φ:an->AS->Prop)(s:AS):Option T7->Prop
 |none=>Φ .normal s
 |some .ret=>Φ .ret s
 |some (.exit i)=>Φ (.exit i) s
 |some (.goto i)=>Φ (.goto i) s
 |_=>False
theorem afk{f:Tm}{ps:Array Tmp}{bL body:T7}{fv:AV}{Φ:an->AS->Prop}{l0 F6 Jk Mi df:Nat}{Nb:ab_}{Mw:Option T7}{T0:List (Nat×AV)}{MR:Array Tmp}{H9 Io:T7}(hf:s.ev f=some fv)(h0:s.H[F6]?=some (.loop l0 Nb Mw Jk T0 Mi MR H9 Io df))
  (h:∀l fn:Nat,iQ lv P fv (s.H++[.loop l .ready none fn s.T nt ps bL body df]) [.fn (.yield l) [] []]
   (λ_ H'=>∃st pe fB T' jg gr fW fu fX,H'[s.H.length]?=some (.loop l st pe fB T' jg gr fW fu fX)/\st≠ .busy/\tP Φ ⟨s.T,H'.set s.H.length .gone⟩ pe)
   (λpv H'=>Φ (.panic pv) ⟨s.T,H'⟩)):aW lv P (some l0) nt (.rangeFunc f ps bL body) s Φ:=by
 intro E V a Q ah hQ;have hc:=ah.bu;obtain⟨sM,ajJ,atF,ho0,K5,hT0,_⟩:=hc.yl h0;obtain⟨_,bx,_⟩:=hc.obj F6 _ h0;refine ar2 ho0 ajJ λfn l hl=> ?_;have hle:E.Le (E.add l V.ab):=E.qj l (λb o v h=>by rw[<- hc.I];exact h);have cL:(E.add l V.ab).blk s.H.length=l:=by rw[<- hc.n];exact E.dI l _
 have cT:Conc (E.add l V.ab) (V.upd l (.loop {state:=.ready,pending:=none,fn,tmps:=a.tmps,params:=ps,assign:=bL,body,defers:=E.blk df})) (s.H++[.loop l .ready none fn s.T nt ps bL body df]):=by
  refine hc.add hl _ ⟨⟨a.tmps,?_,ah.size,ah.tok.mono hle⟩,?_,λo=> ?_,?_⟩ (λb e=> ?_)
  ·rw[Env.dI,hle.blk df bx];simp[View.upd]
  ·show df<E.n+1;omega
  ·rw[Env.dI];exact hl.2 o
  ·exact Env.dI _ _ _
  ·simp only[bM,Env.dI,Tn]at e;exact e.symm
 have aj2:=ap.ev ah.tok hf;have B7:=h l fn (E.add l V.ab) (V.upd l (.loop {state:=.ready,pending:=none,fn,tmps:=a.tmps,params:=ps,assign:=bL,body,defers:=E.blk df})) (a.eval f) #[.func (.yield l) #[] #[]] cT (aj2.mono hle) ⟨rfl,λi x hx=>by
  match i,hx with
  |0,hx=>cases hx;exact .fn rfl rfl (by simp) (by simp)⟩
 have key:∀o V',gK (E.add l V.ab) (V.upd l (.loop {state:=.ready,pending:=none,fn,tmps:=a.tmps,params:=ps,assign:=bL,body,defers:=E.blk df}))
   (λ_ H'=>∃st pe fB T' jg gr fW fu fX,H'[s.H.length]?=some (.loop l st pe fB T' jg gr fW fu fX)/\st≠ .busy/\tP Φ ⟨s.T,H'.set s.H.length .gone⟩ pe)
   (λpv H'=>Φ (.panic pv) ⟨s.T,H'⟩) o V'->wO l Q a o V':=by
  intro o V' hr;cases o with
  |ret v=>
   obtain⟨av,E',H',hE,ce,eZ,_,bi,st,pe,fB,T',jg,gr,fW,fu,fX,cg,aQ,hp⟩:=hr;obtain⟨dB,nw,qw,bc,K4,sK,zM⟩:=bi.yl cg;refine⟨_,bc,nw,aQ,?_⟩;have hg:Conc E' (V'.upd l (.loop {state:=.exhausted,pending:=pe,fn:=fB,tmps:=qw,params:=gr,assign:=fW,body:=fu,defers:=E'.blk fX})) (H'.set s.H.length .gone):=bi.Dj _ cg _ (by simp only[bM,dB]);have aR:At E' (V'.upd l (.loop {state:=.exhausted,pending:=pe,fn:=fB,tmps:=qw,params:=gr,assign:=fW,body:=fu,defers:=E'.blk fX})) ⟨s.T,H'.set s.H.length .gone⟩ a nt:=⟨hg,ah.tok.mono (hle.trans hE),ah.size⟩;have ez:Kept E E' V (V'.upd l (.loop {state:=.exhausted,pending:=pe,fn:=fB,tmps:=qw,params:=gr,assign:=fW,body:=fu,defers:=E'.blk fX})) a a:=⟨hle.trans hE,rfl,rfl,ce,eZ⟩;dsimp only
   match pe,hp,aR,ez with
   |none,hp,aR,ez=>exact hQ .normal .normal E' _ _ _ ez aR trivial hp
   |some .ret,hp,aR,ez=>exact hQ .ret .ret E' _ _ _ ez aR trivial hp
   |some (.exit i),hp,aR,ez=>exact hQ (.exit i) (.exit i) E' _ _ _ ez aR rfl hp
   |some (.goto i),hp,aR,ez=>exact hQ (.goto i) (.goto i) E' _ _ _ ez aR rfl hp
  |panic ch=>
   obtain⟨pv,v,E',H',rfl,hE,ce,eZ,bk,bi,hp⟩:=hr;exact hQ (.panic pv) (.panic _) E' V' a ⟨s.T,H'⟩ ⟨hle.trans hE,rfl,rfl,ce,eZ⟩ ⟨bi,ah.tok.mono (hle.trans hE),ah.size⟩ ⟨v,rfl,bk⟩ hp
 exact B7.mono (λnx V' hn=>Nx.mono key hn) (λv V' hr=>key _ _ hr)
def wT (P:SJ)(fn:YC)(R:Out->View->Prop):List UX->U7->Array SP->View->Prop
 |[],.returning,tmps,V=>∃v,aP P V (results fn tmps) (λx V'=>x=v/\V'=V) (λ_ _=>False)/\R (.ret v) V
 |[],.panicking ch,_,V=>R (.panic ch) V
 |d::ds,md,tmps,V=>(md matches .run)=false/\∃b,d={target:=.collected b,args:=#[]}/\V.own b=some (.deferred (some []))/\V.role.chan≠some b/\wT P fn R ds md tmps (V.upd b (.deferred none))
 |[],.run,_,_=>False
theorem Hl{f:TO}{fn:YC}{kd:Xe}{R:Out->View->Prop}(hf:P.funcs[f]?=some fn){main:Bool}{J:View->SH->Prop}(C:Closed lv P main J){cs:List T_}(hR:∀o V' BF,R o V'->Leaves P BF f kd o V'->J V' (G BF cs)):∀(ds:List UX)(md:U7)(V:View)(fr:T_),fr.fn=f->fr.kind=kd->fr.mode=md->fr.defers=ds->wT P fn R ds md fr.tmps V->J V (G fr cs)
 |[],.returning,V,fr,h1,h2,h3,h4,h=>by
  obtain⟨v,hs,hr⟩:=h;exact hR _ _ _ hr ⟨h1,h4,h2,fn,hf,h3,hs⟩
 |[],.panicking ch,V,fr,h1,h2,h3,h4,h=>hR _ _ _ h ⟨h1,h4,h2,fn,hf,h3⟩
 |[],.run,_,_,_,_,_,_,h=>h.elim
 |d::ds,md,V,fr,h1,h2,h3,h4,h=>by
  obtain⟨hm,b,rfl,ho,eX,hu⟩:=h;refine C.step _ _ rfl λw hw=> ?_;obtain⟨es,w',V',k1,k2,k3⟩:=(M6 (P:=P) ho eX).runs hw;rcases k3 with⟨x,k3,rfl,rfl⟩|⟨_,_,hx⟩
  ·refine⟨G {fr with defers:=ds} cs,w',seen P fr.fn es,_,?_,k1.seen P fr.fn,?_⟩
   ·have e:∀main,stepG P main (G fr cs) w=unwind P main fr cs none w:=λmain=>by
     cases md with
     |run=>cases hm
     |returning=>simp[G,stepG,h3]
     |panicking ch=>simp[G,stepG,h3]
    rw[e];simp only[unwind,h4];simp[TC,k3,k2,T1,G]
   ·exact Hl hf C hR ds md _ {fr with defers:=ds} h1 h2 h3 rfl hu
  ·exact hx.elim
def adH (P:SJ)(fn:YC)(R:Out->View->Prop):Ex->Act->View->Prop
 |.normal,a,V|.ret,a,V=>wT P fn R a.defers .returning a.tmps V
 |.panic ch,a,V=>wT P fn R a.defers (.panicking ch) a.tmps V
 |_,_,_=>False
theorem af3{f:TO}{fn:YC}{c:T7}{args:Array SP}{kd:Xe}{V:View}{R:Out->View->Prop}(hk:kd≠ .early)(hf:P.funcs[f]?=some fn)(hb:fn.body=some c)
  (h:WP lv P none c (adH P fn R) {tmps:=args++TK (fn.ntmps-args.size) undef,defers:=[]} V):Body lv P f args kd V R:=by
 intro main J C cs hR;let b:T_:={(default:T_)with fn:=f,kind:=kd,roundOf:=none};have um:Frame.enter P f args kd=on b {tmps:=args++TK (fn.ntmps-args.size) undef,defers:=[]} [.code c]:=by
  simp[Frame.enter,on,hf,hb,b]
 rw[um];refine h main J C b [] cs hk rfl λe a' V' q=> ?_;cases e with
 |normal=>exact C.idle rfl (λw=>Df rfl) (Hl hf C hR _ _ _ _ rfl rfl rfl rfl q)
 |ret=>intro k;exact C.idle rfl (λw=>Dg rfl) (Hl hf C hR _ _ _ _ rfl rfl rfl rfl q)
 |panic ch=>intro todo _;exact Hl hf C hR _ _ _ _ rfl rfl rfl rfl q
 |exit id=>exact q.elim
 |goto l=>exact q.elim
def iC:List Nat->List aa->Option (List aa)
 |[],H=>some H
 |i::ms,H=>match H[i]?with
  |some (.obj (.deferred (some [])))=>iC ms (H.set i .gone)
  |_=>none
def sf (P:SJ)(rs:List UL)(n:Nat)(k kp:AV->List aa->Prop):an->AS->List Nat->Prop
 |.normal,s,ms|.ret,s,ms=>ao (iC ms s.H) λH'=>ao (gR P ⟨s.T,H'⟩ rs) λl=>cw n H' (iM l) k
 |.panic pv,s,ms=>ao (iC ms s.H) λH'=>cw n H' pv kp
 |_,_,_=>False
theorem Nt{fn:YC}{R:Out->View->Prop}{tmps:Array SP}{md:U7}(hm:(md matches .run)=false):∀(ms:List Nat)(H H':List aa)(E:Env)(V:View)(l:List UX),iC ms H=some H'->Conc E V H->Marks E ms l->(∀V',V'.role=V.role->V'.deaf=V.deaf->Conc E V' H'->wT P fn R [] md tmps V')->wT P fn R l md tmps V
 |[],H,H',E,V,l,hg,hc,rl,hk=>by
  cases hg;have:l=[]:=rl.1;subst this;exact hk V rfl rfl hc
 |i::ms,H,H',E,V,l,hg,hc,rl,hk=>by
  simp only[iC]at hg;split at hg
  ·rename_i hi;obtain⟨e,hlt⟩:=rl;simp only[UP]at e;subst e;obtain⟨p1,p2,p3,p4⟩:=hc.obj i _ hi;exact⟨hm,_,rfl,p1,(hc.jf hi rfl).2,Nt hm ms _ H' E _ _ hg (hc.Dj _ hi _ rfl) ⟨rfl,λj hj=>hlt j (by simp[hj])⟩ λV' h1 h2 h3=>hk V' h1 h2 h3⟩
  ·cases hg
theorem Qf{f:TO}{fn:YC}{c:T7}{rs:List UL}{nt:Nat}{H:List aa}{args:List AV}{k kp:AV->List aa->Prop}(hf:P.funcs[f]?=some fn)(hb:fn.body=some c)(hr:fn.results=rs.toArray)(hn:fn.ntmps=nt)(cK:args.length<=nt)
  (h:bP H->(∀a∈args,Lt H.length a)->mA lv P nt c ⟨br 0 args,H⟩ [] (sf P rs H.length k kp)):bf lv P f H args k kp:=by
 intro E V vs hc hd;have hlt:∀a∈args,Lt H.length a:=λa ha=>by
  obtain⟨i,hi⟩:=pi ha;rw[<- hc.n];exact(hd.2 i a hi).lt
 have ah:=Bi (nt:=nt) hc hd cK;refine af3 (by simp) hf hb ?_;rw[hn];refine h hc.az hlt E V _ _ ah ⟨rfl,by simp⟩ λae e E' V' a' s' cE hk aR fN he hΦ=> ?_;have fin:sf P rs H.length k kp .ret s' cE->wT P fn (gK E V k kp) a'.defers .returning a'.tmps V':=λhΦ=>by
  obtain⟨H',hg,hΦ⟩:=ao.out hΦ;exact Nt rfl cE _ H' E' V' _ hg aR.bu fN λaS h1 h2 h3=>abS (s':=⟨s'.T,H'⟩) (a':=a') hr ⟨h3,aR.tok,aR.size⟩ hk.le hc.n (h1.trans hk.role) (h2.trans hk.deaf) hΦ
 cases ae<;>cases e<;>first
  |exact he.elim
  |exact fin hΦ
  |exact hΦ.elim
  |skip
 rename_i pv ch;obtain⟨v,eX,bk⟩:∃v,ch=[{v,recovered:=false}]/\ap E' pv v:=he;subst eX;obtain⟨H',hg,hΦ⟩:=ao.out hΦ;refine Nt rfl cE _ H' E' V' _ hg aR.bu fN λaS h1 h2 h3=> ?_;obtain⟨b,bQ,tL,r1,r2,r3,r4⟩:=w_ hΦ h3 bk hk.le hc.n;exact⟨b,v,bQ,tL,rfl,r1,h1.trans hk.role,h2.trans hk.deaf,r2,r3,r4⟩
end
def Env.frame (E:Env)(f:Nat->Option Obj):Env:={E with fr:=f}
theorem ap.frame{E:Env}{a:AV}{v:SP}(h:ap E a v)(f:Nat->Option Obj):ap (E.frame f) a v:=by
 induction h with
 |val x=>exact .val x
 |agg hs _ ih=>exact .agg hs ih
 |aJ hs _ ih=>exact .aJ hs ih
 |sl b o cap g hc he h1 _ ih=>exact .sl b o cap g hc (by cases j9:‹End›<;>(subst j9;exact he)) h1 ih
 |nil he=>exact .nil (by cases j9:‹End›<;>(subst j9;exact he))
 |bJ hi dP=>exact .bJ (E:=E.frame f) hi dP
 |rp b o g h1 _ ih=>exact .rp b o g h1 ih
 |op hi=>exact .op (E:=E.frame f) hi
 |fn dL fP _ _ mQ lx=>exact .fn dL fP mQ lx
 |cZ _ ih=>exact .cZ ih
 |mp hi=>exact .mp (E:=E.frame f) hi
theorem cH.frame{E:Env}{l:List AV}{cs:Array SP}(h:cH E l cs)(f:Nat->Option Obj):cH (E.frame f) l cs:=⟨h.1,λi a e=>(h.2 i a e).frame f⟩
theorem jX.frame{E:Env}{l:List AV}{cs:Array SP}(h:jX E l cs)(f:Nat->Option Obj):jX (E.frame f) l cs:=⟨h.1,λi a e=>(h.2 i a e).frame f⟩
theorem cj.frame{E:Env}{T:List (Nat×AV)}{tmps:Array SP}(h:cj E T tmps)(f:Nat->Option Obj):cj (E.frame f) T tmps:=λt a e=>⟨(h t a e).1,(h t a e).2.frame f⟩
theorem vr(E:Env)(f:Nat->Option Obj)(k:Nat)(x:aa):bM (E.frame f) k x=bM E k x:=by cases x<;>rfl
theorem fH.frame{E:Env}{V:View}{k:Nat}{x:aa}(h:fH E V k x)(f:Nat->Option Obj):fH (E.frame f) V k x:=by
 cases x with
 |cells l el=>obtain⟨⟨cs,h1,h2⟩,h3⟩:=h;exact⟨⟨cs,h1,h2.frame f⟩,h3⟩
 |part p l el=>obtain⟨⟨cs,h1,h2,h4⟩,h3⟩:=h;exact⟨⟨cs,h1,h2.frame f,h4⟩,h3⟩
 |own sz l el=>obtain⟨⟨cs,h1,h2,h4⟩,h3⟩:=h;exact⟨⟨cs,h1,h2.frame f,h4⟩,h3⟩
 |tail n sz el=>exact h
 |obj x=>exact h
 |iter=>exact h
 |loop=>obtain⟨⟨tmps,h1,h2,h3⟩,h4,h5⟩:=h;exact⟨⟨tmps,h1,h2,h3.frame f⟩,h4,h5⟩
 |gone=>trivial
 |main=>exact h
theorem Conc.yf{E:Env}{V V':View}{H:List aa}(h:Conc E V H)(f:Nat->Option Obj)(hI:V'.ab=V.ab)
  (ho:∀b x k y,H[k]?=some y->bM E k y=some b->V.own b=some x->V'.own b=some x)
  (hg:∀g,V'.role.group=some g->V'.own g≠none/\(∀o,V'.ab g o=none)/\∀(k:Nat) x,H[k]?=some x->bM E k x≠some g)
  (hc:∀g,V'.role.chan=some g->V'.own g≠none/\(∀o,V'.ab g o=none)/\∀(k:Nat) x,H[k]?=some x->bM E k x≠some g)
  (ht:E.main=true->V'.role=.plain/\V'.deaf=0) (hf:∀b y,f b=some y->V'.own b=some y/\(∀o,V'.ab b o=none)/\∀(k:Nat) x,H[k]?=some x->bM E k x≠some b):Conc (E.frame f) V' H:=by
 have hlt:∀(k:Nat) y,H[k]?=some y->k<E.n:=λk y e=>by rw[h.n];exact(SM.1 e).1
 refine⟨by rw[hI];exact h.I,h.n,λk x e=>fH.frame ((h.obj k x e).mono (Env.Le.refl E) (hlt k x e) rfl (λb y hb hy=>ho b y k x e hb hy) (λb _ o=>by rw[hI])) f,λi j x y b h1 h2 h3 h4=> ?_,λg e=> ?_,λg e=> ?_,ht,λb y e=> ?_⟩
 ·rw[vr]at h3 h4;exact h.inj i j x y b h1 h2 h3 h4
 ·obtain⟨a,b,c⟩:=hg g e;exact⟨a,b,λk x e=>by rw[vr];exact c k x e⟩
 ·obtain⟨a,b,c⟩:=hc g e;exact⟨a,b,λk x e=>by rw[vr];exact c k x e⟩
 ·obtain⟨a,b',c⟩:=hf b y e;exact⟨a,b',λk x e=>by rw[vr];exact c k x e⟩
theorem Conc.C6{E:Env}{V:View}{H:List aa}(h:Conc E V H){b:Nat}{x:Obj}(hb:E.fr b=some x){k:Nat}{y:aa}(hk:H[k]?=some y){b':Nat}(dB:bM E k y=some b'):b'≠b:=λe=>by subst e;exact(h.fr _ x hb).2.2 k y hk dB
theorem Conc.ai2{E:Env}{V:View}{H:List aa}(h:Conc E V H){b:Nat}{x:Obj}(hb:E.fr b=some x)(y:Obj):Conc (E.frame λb'=>if b'=b then some y else E.fr b') (V.upd b y) H:=by
 obtain⟨p1,p2,p3⟩:=h.fr b x hb;refine h.yf _ rfl (λb' z k w hk kB hz=> ?_) (λg hg=> ?_) (λg hg=> ?_) h.top (λb' z hz=> ?_)
 ·have:b'≠b:=h.C6 hb hk kB;simpa[View.upd,this]using hz
 ·obtain⟨q1,q2,q3⟩:=h.group g hg;refine⟨?_,q2,q3⟩;simp only[View.upd];split
  ·simp
  ·exact q1
 ·obtain⟨q1,q2,q3⟩:=h.chan g hg;refine⟨?_,q2,q3⟩;simp only[View.upd];split
  ·simp
  ·exact q1
 ·by_cases e:b'=b
  ·subst e;rw[if_pos rfl]at hz;cases hz;exact⟨by simp[View.upd],p2,p3⟩
  ·rw[if_neg e]at hz;obtain⟨q1,q2,q3⟩:=h.fr b' z hz;exact⟨by simpa[View.upd,e]using q1,q2,q3⟩
theorem Conc.ai0{E:Env}{V:View}{H:List aa}(h:Conc E V H){b:Nat}(hb:V.fresh b)(y:Obj):Conc (E.frame λb'=>if b'=b then some y else E.fr b') (V.upd b y) H:=by
 have aE:∀(k:Nat) x,H[k]?=some x->bM E k x≠some b:=λk x hk e=>by
  obtain⟨z,hz⟩:=(h.obj k x hk).Bn e;rw[hb.1]at hz;cases hz
 refine h.yf _ rfl (λb' z k w hk kB hz=> ?_) (λg hg=> ?_) (λg hg=> ?_) h.top (λb' z hz=> ?_)
 ·have:b'≠b:=λe=>by subst e;exact aE k w hk kB
  simpa[View.upd,this]using hz
 ·obtain⟨q1,q2,q3⟩:=h.group g hg;refine⟨?_,q2,q3⟩;simp only[View.upd];split
  ·simp
  ·exact q1
 ·obtain⟨q1,q2,q3⟩:=h.chan g hg;refine⟨?_,q2,q3⟩;simp only[View.upd];split
  ·simp
  ·exact q1
 ·by_cases e:b'=b
  ·subst e;rw[if_pos rfl]at hz;cases hz;exact⟨by simp[View.upd],hb.2,aE⟩
  ·rw[if_neg e]at hz;obtain⟨q1,q2,q3⟩:=h.fr b' z hz;exact⟨by simpa[View.upd,e]using q1,q2,q3⟩
theorem Conc.ai1{E:Env}{V:View}{H:List aa}(h:Conc E V H){id:Nat}{l:List AV}{el:TypeId}(hk:H[id]?=some (.cells l el)):∃cs,cH E l cs/\V.own (E.blk id)=some (.cells cs el (0,0))/\(∀o,V.ab (E.blk id) o=none)/\
  Conc (E.frame λb'=>if b'=E.blk id then some (.cells cs el (0,0))else E.fr b') V (H.set id .gone):=by
 obtain⟨⟨cs,h1,h2⟩,h3⟩:=h.obj id _ hk;refine⟨cs,h2,h1,h3,?_⟩;have hg:Conc E V (H.set id .gone):=by
  refine h.iO id .gone (Env.Le.refl E) h.I (by simpa using h.n) lS rfl (λ_ _ _=>rfl) (λb y _ hy=>⟨hy,λ_=>rfl⟩) trivial (λb e=>by cases e)
 have aE:∀(k:Nat) x,(H.set id .gone)[k]?=some x->bM E k x≠some (E.blk id):=λk x hx e=>by
  rcases lS k x hx with⟨rfl,rfl⟩|⟨aE,hx⟩
  ·cases e
  ·exact aE (h.inj k id x _ _ hx hk e rfl)
 refine hg.yf _ rfl (λ_ _ _ _ _ _ hz=>hz) hg.group hg.chan h.top (λb' z hz=> ?_);by_cases e:b'=E.blk id
 ·subst e;rw[if_pos rfl]at hz;cases hz;exact⟨h1,h3,aE⟩
 ·rw[if_neg e]at hz;exact hg.fr b' z hz
theorem Conc.GU{E:Env}{V:View}{H:List aa}(h:Conc E V H){id:Nat}{l:List AV}{el:TypeId}(hk:H[id]?=some (.cells l el))(p:Nat)(hp:p<=l.length):∃V',dW V V'/\V'.own=V.own/\V'.role=V.role/\V'.deaf=V.deaf/\E.Le {E with I:=V'.ab}/\Conc {E with I:=V'.ab} V' (H.set id (.part p l el))/\
  ap {E with I:=V'.ab} (.rp (l.take p)) (.pointer (some ⟨E.blk id,0,none⟩)):=by
 obtain⟨⟨cs,h1,h2⟩,h3⟩:=h.obj id _ hk;let V':=V.ig (E.blk id) cs λo=>decide (o<p);have nA:∀b o,b≠E.blk id->V'.ab b o=V.ab b o:=λb o hb=>by simp[V',View.ig,hb]
 have cM:∀o,o<p->V'.ab (E.blk id) o=cs[o]?:=λo ho=>by simp[V',View.ig,ho]
 have akN:∀o,p<=o->V'.ab (E.blk id) o=none:=λo ho=>by simp[V',View.ig,Nat.not_lt.2 ho,h3]
 have hle:E.Le {E with I:=V'.ab}:=⟨λb o v e=>by
  rw[h.I]at e;have hb:b≠E.blk id:=λhb=>by subst hb;rw[h3]at e;cases e
  show V'.ab b o=some v;rw[nA b o hb];exact e,SR _,λ_ _=>rfl,λ_ _=>SR _,λ_ _ _ _=>rfl,rfl,rfl⟩
 refine⟨V',yZ h1 (λo _=>h3 o),rfl,rfl,rfl,hle,?_,?_⟩
 ·refine h.iO (E':={E with I:=V'.ab}) id (.part p l el) hle rfl (by simpa using h.n) lS rfl (λ_ _ _=>rfl) (λb y hb hy=>⟨hy,λo=>nA b o λe=>hb _ hk (by rw[e];rfl)⟩) ⟨⟨cs,h1,(h2.mono hle).p,cM⟩,akN⟩ (λb e=> .inl ⟨_,hk,e⟩)
 ·refine .rp (E.blk id) 0 (λi=>cs.getD i undef) (λi hi=> ?_) λi x hx=> ?_
  ·have cD:i<p:=(by simp at hi;omega);rw[Wt];show V'.ab (E.blk id) i=_;rw[cM i cD];have:i<cs.size:=(by have:=h2.1;omega);simp[SI,SK this]
  ·rw[Uc]at hx;split at hx
   ·exact(h2.2 i x hx).mono hle
   ·cases hx
theorem Conc.amp{E:Env}{V V':View}{H:List aa}(h:Conc E V H)(ho:V'.own=V.own)(nA:∀b o v,V.ab b o=some v->V'.ab b o=some v)(ja:∀b o,V.own b≠none->V.ab b o=none->V'.ab b o=none)
  (hg:V'.role.group=none) (hc:V'.role.chan=none) (ht:E.main=true->V'.role=.plain/\V'.deaf=0):E.Le {E with I:=V'.ab}/\Conc {E with I:=V'.ab} V' H:=by
 have hle:E.Le {E with I:=V'.ab}:=⟨λb o v e=>by rw[h.I]at e;exact nA b o v e,SR _,λ_ _=>rfl,λ_ _=>SR _,λ_ _ _ _=>rfl,rfl,rfl⟩;have hlt:∀(k:Nat) y,H[k]?=some y->k<E.n:=λk y e=>by rw[h.n];exact(SM.1 e).1
 have key:∀b o,V.own b≠none->V'.ab b o=V.ab b o:=λb o hb=>by
  cases e:V.ab b o with
  |none=>exact ja b o hb e
  |some v=>exact nA b o v e
 refine⟨hle,rfl,h.n,λk x e=>(h.obj k x e).mono hle (hlt k x e) rfl (λb y _ hy=>by rw[ho];exact hy) (λb hb o=> ?_),h.inj,λg e=>(by rw[hg]at e;cases e),λg e=>(by rw[hc]at e;cases e),ht,λb y e=> ?_⟩
 ·obtain⟨y,hy⟩:=(h.obj k x e).Bn hb;exact key b o (by rw[hy];simp)
 ·obtain⟨q1,q2,q3⟩:=h.fr b y e;exact⟨by rw[ho];exact q1,λo=>by rw[key b o (by rw[q1];simp)];exact q2 o,q3⟩
section
variable {lv:Bool}{P:SJ}{nt id:Nat}{ops:Array Tx}{s:AS}{E:Env}{V:View}{a:Act}{Q:Ex->Act->View->Prop}{K:AS->Prop}
theorem Hq(n m:Nat)(hn:ops.size=n+m)(dn:jQ nt ops=true)(ah:At E V s a nt)(h:ij lv P ops (ops.toList.take n) s K (λ_ _=>False))
  (hk:∀E' V' a' s',Kept E E' V V' a a'->At E' V' s' a' nt->K s'->dj lv P none ops Q (T5 n m) a' V'):WP lv P none (.region id ops false) Q a V:=by
 refine wp_region ?_;have hr:SZ ops.size=T5 0 n++T5 n m:=by
  have:=Za (s:=0) (m:=n) (n:=m);rw[Vo,hn,<- this];simp
 rw[hr];refine AD _ _ _ (GD (r:=none) (Φ:=λe s'=>match e with
  |.normal=>K s'
  |_=>False) (λo ho d e=>(jQ.out dn ho).1 d e) rfl n 0 s (by omega) (by simpa using h) E V a _ ah λae e E' V' a' s' aI aR he hΦ=> ?_)
 cases ae<;>cases e<;>first
  |exact he.elim
  |exact hΦ.elim
  |exact hk E' V' a' s' aI aR hΦ
theorem NH{n:Nat}{o:Tx}(ho:ops[n]?=some o)(hg:o.guard=none)(h:vf lv P o a V λa' V'=>Q .normal a' V'):dj lv P none ops Q (T5 n 1) a V:=by
 simp only[List.range'_one,dj,ho];rw[if_pos (by unfold Tj;rw[hg])];exact .inr h
end
section
variable {lv main:Bool}{P:SJ}{J:View->SH->Prop}
theorem adp(C:Closed lv P main J){V:View}{fr:T_}{cs:List T_}{g:TO}{ca aG:Array SP}{ds:List UX}(hd:fr.defers=⟨.fn (.func g) ca,aG⟩::ds)(hm:(fr.mode matches .run)=false)(hg:qy P g=true)
  (h:J V (G (Frame.enter P g (aG++ca) .deferred) ({fr with defers:=ds}::cs))):J V (G fr cs):=by
 refine C.step _ _ rfl λw hw=> ?_;have hs:aP P V (invoke (.fn (.func g) ca) aG) (λnx V'=>nx=.enter g (aG++ca)/\V'=V) (λ_ _=>False):=by
  unfold invoke;exact M1 hg ⟨rfl,rfl⟩
 obtain⟨es,w',V',k1,k2,k3⟩:=hs.runs hw;rcases k3 with⟨nx,k3,rfl,rfl⟩|⟨_,_,h⟩
 ·refine⟨G (Frame.enter P g (aG++ca) .deferred) ({fr with defers:=ds}::cs),w',seen P fr.fn es,V',?_,k1.seen P fr.fn,h⟩;have e:stepG P main (G fr cs) w=unwind P main fr cs none w:=by
   obtain⟨fn,tmps,todo,defers,mode,kind,ro⟩:=fr;cases mode with
   |run=>cases hm
   |returning=>simp[G,stepG]
   |panicking ch=>simp[G,stepG]
  rw[e];simp only[unwind,hd];simp[callDeferred,TC,k3,k2,T1,G]
 ·exact h.elim
theorem ag6(C:Closed lv P main J){f:TO}{fn:YC}{c:T7}{args:Array SP}{kd:Xe}{V:View}{cs:List T_}{Q:Act->View->Prop}(hk:kd≠ .early)(hf:P.funcs[f]?=some fn)(hb:fn.body=some c)
  (h:WP lv P none c (λe a V=>(match e with|.normal|.ret=>True|_=>False)/\Q a V) {tmps:=args++TK (fn.ntmps-args.size) undef,defers:=[]} V)
  (hQ:∀a V todo,Q a V->J V (G {fn:=f,tmps:=a.tmps,todo,defers:=a.defers,mode:=.returning,kind:=kd,roundOf:=none} cs)):J V (G (Frame.enter P f args kd) cs):=by
 let b:T_:={(default:T_)with fn:=f,kind:=kd,roundOf:=none};have um:Frame.enter P f args kd=on b {tmps:=args++TK (fn.ntmps-args.size) undef,defers:=[]} [.code c]:=by
  simp[Frame.enter,on,hf,hb,b]
 rw[um];refine h main J C b [] cs hk rfl λe a' V' q=> ?_;cases e with
 |normal=>exact C.idle rfl (λw=>Df rfl) (hQ a' V' [] q.2)
 |ret=>intro k;exact C.idle rfl (λw=>Dg rfl) (hQ a' V' (.code .ret::k) q.2)
 |panic ch=>exact q.1.elim
 |exit id=>exact q.1.elim
 |goto l=>exact q.1.elim
end
def Env.fq (E:Env)(m:Bool):Env:={E with main:=m}
theorem ap.fq{E:Env}{a:AV}{v:SP}(h:ap E a v)(m:Bool):ap (E.fq m) a v:=by
 induction h with
 |val x=>exact .val x
 |agg hs _ ih=>exact .agg hs ih
 |aJ hs _ ih=>exact .aJ hs ih
 |sl b o cap g hc he h1 _ ih=>exact .sl b o cap g hc (by cases j9:‹End›<;>(subst j9;exact he)) h1 ih
 |nil he=>exact .nil (by cases j9:‹End›<;>(subst j9;exact he))
 |bJ hi dP=>exact .bJ (E:=E.fq m) hi dP
 |rp b o g h1 _ ih=>exact .rp b o g h1 ih
 |op hi=>exact .op (E:=E.fq m) hi
 |fn dL fP _ _ mQ lx=>exact .fn dL fP mQ lx
 |cZ _ ih=>exact .cZ ih
 |mp hi=>exact .mp (E:=E.fq m) hi
theorem cH.fq{E:Env}{l:List AV}{cs:Array SP}(h:cH E l cs)(m:Bool):cH (E.fq m) l cs:=⟨h.1,λi a e=>(h.2 i a e).fq m⟩
theorem jX.fq{E:Env}{l:List AV}{cs:Array SP}(h:jX E l cs)(m:Bool):jX (E.fq m) l cs:=⟨h.1,λi a e=>(h.2 i a e).fq m⟩
theorem cj.fq{E:Env}{T:List (Nat×AV)}{tmps:Array SP}(h:cj E T tmps)(m:Bool):cj (E.fq m) T tmps:=λt a e=>⟨(h t a e).1,(h t a e).2.fq m⟩
theorem vt(E:Env)(m:Bool)(k:Nat)(x:aa):bM (E.fq m) k x=bM E k x:=by cases x<;>rfl
theorem fH.fq{E:Env}{V:View}{k:Nat}{x:aa}(h:fH E V k x)(m:Bool)(hm:x=.main->m=true):fH (E.fq m) V k x:=by
 cases x with
 |cells l el=>obtain⟨⟨cs,h1,h2⟩,h3⟩:=h;exact⟨⟨cs,h1,h2.fq m⟩,h3⟩
 |part p l el=>obtain⟨⟨cs,h1,h2,h4⟩,h3⟩:=h;exact⟨⟨cs,h1,h2.fq m,h4⟩,h3⟩
 |own sz l el=>obtain⟨⟨cs,h1,h2,h4⟩,h3⟩:=h;exact⟨⟨cs,h1,h2.fq m,h4⟩,h3⟩
 |tail n sz el=>exact h
 |obj x=>exact h
 |iter=>exact h
 |loop=>obtain⟨⟨tmps,h1,h2,h3⟩,h4,h5⟩:=h;exact⟨⟨tmps,h1,h2,h3.fq m⟩,h4,h5⟩
 |gone=>trivial
 |main=>exact hm rfl
def strip:aa->aa
 |.main=> .gone
 |x=>x
theorem tV(E:Env)(k:Nat)(x:aa):bM E k (strip x)=bM E k x:=by cases x<;>rfl
theorem Conc.agz{E:Env}{V:View}{H:List aa}(h:Conc E V H):Conc (E.fq false) V (H.map strip):=by
 have get:∀(k:Nat) y,(H.map strip)[k]?=some y->∃x,H[k]?=some x/\strip x=y:=λk y e=>by
  rw[To]at e;obtain⟨x,e1,e2⟩:=Ts.1 e;exact⟨x,e1,e2⟩
 refine⟨h.I,by rw[Tp];exact h.n,λk y e=> ?_,λi j x y b h1 h2 h3 h4=> ?_,λg hg=> ?_,λg hg=> ?_,(λe=>by cases e),λb y e=> ?_⟩
 ·obtain⟨x,hx,rfl⟩:=get k y e;have lK:=h.obj k x hx;cases x<;>first
   |exact fH.fq lK false (λe=>by cases e)
   |exact True.intro
 ·obtain⟨x',hx,rfl⟩:=get i x h1;obtain⟨y',hy,rfl⟩:=get j y h2;rw[vt,tV]at h3 h4;exact h.inj i j x' y' b hx hy h3 h4
 ·obtain⟨a,b,c⟩:=h.group g hg;exact⟨a,b,λk y e=>by obtain⟨x,hx,rfl⟩:=get k y e;rw[vt,tV];exact c k x hx⟩
 ·obtain⟨a,b,c⟩:=h.chan g hg;exact⟨a,b,λk y e=>by obtain⟨x,hx,rfl⟩:=get k y e;rw[vt,tV];exact c k x hx⟩
 ·obtain⟨a,b',c⟩:=h.fr b y e;exact⟨a,b',λk y e=>by obtain⟨x,hx,rfl⟩:=get k y e;rw[vt,tV];exact c k x hx⟩
theorem Conc.apf{E:Env}{V:View}{H:List aa}(h:Conc E V (H.map strip))(m:Bool)(f:Nat->Option Obj)(hm:∀(k:Nat),H[k]?=some aa.main->m=true)(ht:m=true->V.role=.plain/\V.deaf=0)(hf:∀b y,f b=some y->E.fr b=some y):Conc ((E.fq m).frame f) V H:=by
 have get:∀(k:Nat) x,H[k]?=some x->(H.map strip)[k]?=some (strip x):=λk x e=>by rw[To,e];rfl
 refine⟨h.I,h.n.trans (by rw[Tp]),λk x e=>fH.frame ?_ f,λi j x y b h1 h2 h3 h4=> ?_,λg hg=> ?_,λg hg=> ?_,ht,λb y e=> ?_⟩
 ·have lK:=h.obj k _ (get k x e);cases x<;>first
   |exact fH.fq lK m (λe=>by cases e)
   |exact hm k e
 ·rw[vr,vt]at h3 h4;exact h.inj i j _ _ b (get i x h1) (get j y h2) (by rw[tV];exact h3) (by rw[tV];exact h4)
 ·obtain⟨a,b,c⟩:=h.group g hg;exact⟨a,b,λk x e=>by rw[vr,vt,<- tV];exact c k _ (get k x e)⟩
 ·obtain⟨a,b,c⟩:=h.chan g hg;exact⟨a,b,λk x e=>by rw[vr,vt,<- tV];exact c k _ (get k x e)⟩
 ·obtain⟨a,b',c⟩:=h.fr b y (hf b y e);exact⟨a,b',λk x e=>by rw[vr,vt,<- tV];exact c k _ (get k x e)⟩
section
variable {lv:Bool}{P:SJ}{nt id:Nat}{ops:Array Tx}{s:AS}{E:Env}{V:View}{a:Act}{Q:Ex->Act->View->Prop}{N:Act->View->Prop}{o:Tx}
theorem adx(ho:ops[0]?=some o)(hg:o.guard=none)(h:AY lv P none o a V (dj lv P none ops Q (T5 1 (ops.size-1))) Q):WP lv P none (.region id ops false) Q a V:=by
 refine wp_region ?_;have aV:0<ops.size:=(SU.1 ho).1;have KV:SZ ops.size=0::T5 1 (ops.size-1):=by
  rw[Vo];obtain⟨n,hn⟩:∃n,ops.size=n+1:=⟨ops.size-1,by omega⟩;rw[hn,VP];rfl
 rw[KV];simp only[dj,ho];rw[if_pos (by unfold Tj;rw[hg])];exact h
theorem ar4{k n:Nat}(ho:ops[k]?=some o)(hg:o.guard=none)(h:AY lv P none o a V (dj lv P none ops Q (T5 (k+1) n)) Q):dj lv P none ops Q (T5 k (n+1)) a V:=by
 rw[VP];simp only[dj,ho];rw[if_pos (by unfold Tj;rw[hg])];exact h
theorem ar5{k:Nat}(h:Q .normal a V):dj lv P none ops Q (T5 k 0) a V:=h
theorem NI{k n:Nat}(s3:AS)(hk:k+n=ops.size)(dn:jQ nt ops=true)(ah:At E V s a nt)(h:ij lv P ops (ops.toList.drop k) s (λs'=>s'.Sub s3) (λ_ _=>False))(hQ:∀E' V' a',Kept E E' V V' a a'->At E' V' s3 a' nt->Q .normal a' V'):dj lv P none ops Q (T5 k n) a V:=by
 refine Af (r:=none) (Φ:=λe s'=>match e with
  |.normal=>s'.Sub s3
  |_=>False) (λo ho d e=>(jQ.out dn ho).1 d e) (λ_ _=> .inl rfl) n k s hk h E V a Q ah λae e E' V' a' s' aI aR he hΦ=> ?_
 cases ae<;>cases e<;>first
  |exact he.elim
  |exact hΦ.elim
  |exact hQ E' V' a' aI (aR.sub hΦ)
theorem anN{c:Xn}{f:TO}(au:o.op=.call c)(aY:c.callee=.value (.func f))(hf:qy P f=true)(h:Body lv P f (c.args.map a.eval) .normal V (fun
  |.ret v,V'=>N (a.put o.dst v) V'
  |.panic _,_=>False)):AY lv P none o a V N Q:=by
 refine .inl ⟨.inl rfl,?_⟩;unfold execOp;rw[au];dsimp only;unfold resolve;rw[aY];dsimp only;have e:a.eval (.func f)=.func (.func f) #[] #[]:=rfl;rw[e];unfold U2;refine aA (aq ?_);unfold invoke;dsimp only;refine M1 hf ?_;have e2:#[]++c.args.map a.eval++#[]=c.args.map a.eval:=by simp
 rw[e2];exact h.mono λo V' hx=>by
  cases o with
  |ret v=>exact hx
  |panic ch=>exact hx.elim
theorem anO{t el:TypeId}{d:ChanDir}{i:Wm}(au:o.op=.makeChan t (.const (.int .i64 0)))(h1:P.underlying t=some (.chan d el))(h2:P.info? el=some i)(h:∀c,V.fresh c->N (a.put o.dst (.chan (some c))) (V.upd c (.chan 0 #[] false 0 0 false))):AY lv P none o a V N Q:=by
 refine .inl ⟨.inl rfl,?_⟩;unfold execOp;rw[au];dsimp only;have e:a.eval (.const (.int .i64 0))=.int .i64 0:=rfl;rw[e];unfold Instr.makeChan;refine aA (aA ?_);unfold asInt;refine aq ?_;refine ej h1 ?_;dsimp only;refine yk h2 ?_;rw[if_neg (by simp[IntKind.max,atO,atN])];refine aA ?_;unfold newObj;exact oB λc hf=>cG (aq (aq (h c hf)))
end
theorem ar3{lv:Bool}{P:SJ}{r:Option Nat}{code:T7}{Q:Ex->Act->View->Prop}{a:Act}{V:View}{c Wg:Nat}(sV:lv=true)(hr:V.role=.plain)(aE:c≠Wg)(hc:V.own c=some (.chan 0 #[] false 0 0 false)) (hW:V.own Wg≠none) (od:∀o,V.ab Wg o=none)
  (h:WP lv P r code Q a {V with role:=.fork c Wg []}):WP lv P r code Q a V:=λmain J C b k cs hb ce hL=>
 (C.more sV).start _ _ c Wg hr aE hc hW od (h main J C b k cs hb ce hL)
structure Env.Lo (E E':Env):Prop where
 I:∀b o v,E.I b o=some v->E'.I b o=some v
 n:E.n<=E'.n
 blk:∀k,k<E.n->E'.blk k=E.blk k
 fA:∀k,k<E.n->E.fA k<=E'.fA k
 room:∀k v,k<E.n->v<=E.fA k->E'.room k v=E.room k v
theorem Env.Le.lo{E E':Env}(h:E.Le E'):E.Lo E':=⟨h.I,h.n,h.blk,h.fA,h.room⟩
theorem Env.Lo.refl(E:Env):E.Lo E:=(Env.Le.refl E).lo
theorem Env.Lo.trans{E E' bQ:Env}(h:E.Lo E')(k:E'.Lo bQ):E.Lo bQ:=
 ⟨λb o v e=>k.I b o v (h.I b o v e),UB h.n k.n,λi hi=>(k.blk i (Te hi h.n)).trans (h.blk i hi),λi hi=>UB (h.fA i hi) (k.fA i (Te hi h.n)),
  λi v hi hv=>(k.room i v (Te hi h.n) (UB hv (h.fA i hi))).trans (h.room i v hi hv)⟩
theorem Env.Lo.le{E E':Env}(h:E.Lo E'):E.Le ((E'.fq E.main).frame E.fr):=⟨h.I,h.n,h.blk,h.fA,h.room,rfl,rfl⟩
theorem ap.lo{E E':Env}(h:E.Lo E'){a:AV}{v:SP}(d:ap E a v):ap E' a v:=by
 have:=((d.mono h.le).fq E'.main).frame E'.fr;exact this
theorem Env.Gk(E:Env)(f:Nat->Option Obj):E.Lo (E.frame f):=⟨λ_ _ _ h=>h,SR _,λ_ _=>rfl,λ_ _=>SR _,λ_ _ _ _=>rfl⟩
theorem Env.amJ(E:Env)(m:Bool):E.Lo (E.fq m):=⟨λ_ _ _ h=>h,SR _,λ_ _=>rfl,λ_ _=>SR _,λ_ _ _ _=>rfl⟩
theorem Env.Lo.cut{E E':Env}(h:E.Lo E'){n:Nat}(hn:E.n<=n):E.Lo {E' with n:=n}:=⟨h.I,hn,h.blk,h.fA,h.room⟩
def Env.bare (E:Env):Env:=((({E with n:=0}:Env).fq false).frame λ_=>none)
theorem ap.bare{E:Env}{a:AV}{v:SP}(h:ap E a v)(hl:Lt 0 a):ap E.bare a v:=((h.trim hl).fq false).frame _
theorem agp{E:Env}{I:cx}{ro:m8}(hI:E.I=I)(hg:ro.group=none)(hc:ro.chan=none):Conc E.bare {ab:=I,own:=λ_=>none,deaf:=0,role:=ro} []:=
 ⟨hI,rfl,λk x e=>(by cases e),λi j x y b h1=>(by cases h1),λg e=>(by rw[hg]at e;cases e),λg e=>(by rw[hc]at e;cases e),λe=>(by cases e),λb y e=>(by cases e)⟩
theorem At.arP{E:Env}{V:View}{s:AS}{a:Act}{nt t id off:Nat}(h:At E V s a nt)(hl:look s.T t=some (.op id off)):a.eval (.tmp t)=.pointer (some ⟨E.blk id,off,none⟩):=by
 have hd:=(h.tok t _ hl).2;show a.tmps.getD t undef=_;generalize a.tmps.getD t undef=v at hd;cases hd;rfl
section
variable {lv:Bool}{P:SJ}{s:AS}{ms:List Nat}{nt:Nat}
def an.pG (id:Nat)(Φ:an->AS->List Nat->Prop):an->AS->List Nat->Prop
 |.exit i,s,ms=>if i=id then Φ .normal s ms else Φ (.exit i) s ms
 |e,s,ms=>Φ e s ms
theorem afv{id:Nat}{c:T7}{Φ:an->AS->List Nat->Prop}(h:mA lv P nt c s ms (an.pG id Φ)):mA lv P nt (.block id c) s ms Φ:=by
 intro E V a Q ah hd hQ;refine wp_block (h E V a _ ah hd λae e E' V' a' s' cE hk aR cC he hΦ=> ?_);cases ae<;>cases e<;>first
  |exact he.elim
  |skip
 ·exact hQ .normal .normal E' V' a' s' cE hk aR cC trivial hΦ
 ·rename_i i j;have e:i=j:=he;subst e;by_cases cg:i=id
  ·simp only[Ex.inBlock,cg,if_true];simp only[an.pG,cg,if_true]at hΦ;exact hQ .normal _ E' V' a' s' cE hk aR cC trivial hΦ
  ·simp only[Ex.inBlock,cg,if_false];simp only[an.pG,cg,if_false]at hΦ;exact hQ (.exit i) _ E' V' a' s' cE hk aR cC rfl hΦ
 ·exact hQ _ _ E' V' a' s' cE hk aR cC he hΦ
 ·exact hQ _ _ E' V' a' s' cE hk aR cC he hΦ
 ·exact hQ _ _ E' V' a' s' cE hk aR cC he hΦ
def an.uY (Φ:an->AS->List Nat->Prop):an->AS->List Nat->Prop
 |.goto _,_,_=>False
 |e,s,ms=>Φ e s ms
theorem afy{c:T7}{Φ:an->AS->List Nat->Prop}(h:mA lv P nt c s ms (an.uY Φ)):mA lv P nt (.scope c) s ms Φ:=by
 intro E V a Q ah hd hQ;refine ady (λ_ _ _ _=>False) ⟨0,h E V a _ ah hd λae e E' V' a' s' cE hk aR cC he hΦ=> ?_⟩ λ_ _ _ _ _ _ hf=>hf.elim;cases ae<;>cases e<;>first
  |exact he.elim
  |exact hΦ.elim
  |exact hQ _ _ E' V' a' s' cE hk aR cC he hΦ
theorem afR(id:Nat)(Φ:an->AS->List Nat->Prop)(s:AS)(ms:List Nat):an.pG id Φ .normal s ms=Φ .normal s ms:=by rw[an.pG];simp
theorem aqB(Φ:an->AS->List Nat->Prop)(s:AS)(ms:List Nat):an.uY Φ .normal s ms=Φ .normal s ms:=by rw[an.uY];simp
theorem aqD(Φ:an->AS->List Nat->Prop)(s:AS)(ms:List Nat):an.uY Φ .ret s ms=Φ .ret s ms:=by rw[an.uY];simp
theorem arf(K:AS->List Nat->Prop)(Φ:an->AS->List Nat->Prop)(s:AS)(ms:List Nat):an.rU K Φ .normal s ms=K s ms:=by rw[an.rU]
theorem ari(K:AS->List Nat->Prop)(Φ:an->AS->List Nat->Prop)(s:AS)(ms:List Nat):an.rU K Φ .ret s ms=Φ .ret s ms:=by rw[an.rU];simp
@[congr] theorem asN {c : T7} {s s' : AS} {ms cE : List Nat} {Φ : an -> AS -> List Nat -> Prop} (h : s = s') (hd : ms = cE) : mA lv P nt c s ms Φ = mA lv P nt c s' cE Φ := by rw [h, hd]
@[congr] theorem atD {K : AS -> List Nat -> Prop} {Φ : an -> AS -> List Nat -> Prop} {e e' : an} {s s' : AS} {ms cE : List Nat} (he : e = e') (h : s = s') (hd : ms = cE) : an.rU K Φ e s ms = an.rU K Φ e' s' cE := by rw [he, h, hd]
@[congr] theorem atA {Φ : an -> AS -> List Nat -> Prop} {e e' : an} {s s' : AS} {ms cE : List Nat} (he : e = e') (h : s = s') (hd : ms = cE) : an.uY Φ e s ms = an.uY Φ e' s' cE := by rw [he, h, hd]
@[congr] theorem as0 {rs : List UL} {n : Nat} {k kp : AV -> List aa -> Prop} {e e' : an} {s s' : AS} {ms cE : List Nat} (he : e = e') (h : s = s') (hd : ms = cE) : sf P rs n k kp e s ms = sf P rs n k kp e' s' cE := by rw [he, h, hd]
theorem aiP(rs:List UL)(n:Nat)(k kp:AV->List aa->Prop)(s:AS)(ms:List Nat):sf P rs n k kp .ret s ms=ao (iC ms s.H) λH'=>ao (gR P ⟨s.T,H'⟩ rs) λl=>cw n H' (iM l) k:=by rw[sf]
theorem y_(H:List aa):iC [] H=some H:=by rw[iC]
theorem y9{i:Nat}{ms:List Nat}{H:List aa}(h:H[i]?=some (.obj (.deferred (some [])))):iC (i::ms) H=iC ms (H.set i .gone):=by rw[iC];rw[h]
attribute [seval] afR aqB aqD arf ari aiP y_
end
section
variable {lv:Bool}{P:SJ}{r:Option Nat}{s:AS}
theorem Pe{E:Env}{I:cx}(hI:∀b o v,E.I b o=some v->I b o=some v){n:Nat}{l:List AV}{v:SP}(h:ap E (.sl n l .exact) v):∃a,ap (E.tok I (a,n) n) (.sl n l (.opn E.n)) v:=by
 cases h with
 |sl b o cap f dP he q1 q2=>
  have Fc:cap=n:=he;subst Fc;refine⟨some ⟨b,o,none⟩,?_⟩;have hle:=E.LY (I:=I) hI (some ⟨b,o,none⟩,cap) cap;exact .sl b o cap f dP ⟨by simp[Env.tok],by simp[Env.tok],by simp[Env.tok]⟩ (λi hi=>hle.I _ _ _ (q1 i hi)) (λi x hx=>(q2 i x hx).mono hle)
 |nil he=>exact⟨_,.nil ⟨by simp[Env.tok],by simp[Env.tok],by simp[Env.tok];rfl⟩⟩
theorem vq{nt t n sz:Nat}{c:T7}{l:List AV}{el:TypeId}{Φ:an->AS->Prop}(ht:look s.T t=some (.sl n l .exact))(h:aW lv P r nt c ⟨(t,.sl n l (.opn s.H.length))::s.T,s.H++[.tail n sz el]⟩ Φ):aW lv P r nt c s Φ:=λE V a Q ah hQ=>by
 obtain⟨hlt,hd⟩:=ah.tok t _ ht;obtain⟨ad,cC⟩:=Pe (I:=V.ab) (λb o v h=>by rw[<- ah.bu.I];exact h) hd;obtain⟨hc,hle⟩:=ah.bu.Nk (n:=n) sz el ad;refine h _ V a Q ⟨hc,λt' x hx=> ?_,ah.size⟩ λae e E' V' a' s' hk=>hQ ae e E' V' a' s' ((⟨hle,rfl,rfl,rfl,rfl⟩:Kept E _ V V a a).trans hk);simp only[look]at hx;split at hx
 ·rename_i e;subst e;cases hx;rw[<- ah.bu.n];exact⟨hlt,cC⟩
 ·exact⟨(ah.tok t' x hx).1,(ah.tok t' x hx).2.mono hle⟩
theorem Pf{E:Env}{l:List AV}{cs:Array SP}{j:Nat}{a b:AV}(h:cH E l cs)(hj:l[j]?=some a)(hb:∀v,ap E a v->ap E b v):cH E (l.set j b) cs:=by
 refine⟨by rw[TQ];exact h.1,λi x hx=> ?_⟩;by_cases e:i=j
 ·subst e;rw[W9 (SM.1 hj).1]at hx;cases hx;exact hb _ (h.2 i a hj)
 ·rw[T6 (Ne.symm e)]at hx;exact h.2 i x hx
theorem Ie{nt id j n sz:Nat}{c:T7}{l l':List AV}{el fY:TypeId}{Φ:an->AS->Prop}(cg:s.H[id]?=some (.cells l el))(hj:l[j]?=some (.sl n l' .exact))(h:aW lv P r nt c ⟨s.T,s.H.set id (.cells (l.set j (.sl n l' (.opn s.H.length))) el)++[aa.tail n sz fY]⟩ Φ):aW lv P r nt c s Φ:=λE V a Q ah hQ=>by
 have hc:=ah.bu;obtain⟨⟨cs,ja,hd⟩,nA⟩:=hc.obj id _ cg;obtain⟨ad,cC⟩:=Pe (I:=V.ab) (λb o v h=>by rw[<- hc.I];exact h) (hd.2 j _ hj);obtain⟨bi,hle⟩:=hc.Nk (n:=n) sz fY ad;have hlt:=(SM.1 cg).1;have hn:(E.tok V.ab (ad,n) n).n=s.H.length+1:=by simp[Env.tok,hc.n]
 have e:s.H.set id (.cells (l.set j (.sl n l' (.opn s.H.length))) el)++[aa.tail n sz fY]=(s.H++[aa.tail n sz fY]).set id (.cells (l.set j (.sl n l' (.opn s.H.length))) el):=(WB _ _ hlt).symm;rw[e]at h;have Fh:cH (E.tok V.ab (ad,n) n) (l.set j (.sl n l' (.opn s.H.length))) cs:=by
  have h0:=hd.mono hle;refine⟨by rw[TQ];exact h0.1,λi x hx=> ?_⟩;by_cases ei:i=j
  ·subst ei;rw[W9 (SM.1 hj).1]at hx;cases hx;rw[<- hc.n];exact cC
  ·rw[T6 (Ne.symm ei)]at hx;exact h0.2 i x hx
 have hb:(E.tok V.ab (ad,n) n).blk id=E.blk id:=hle.blk id (by rw[hc.n];exact hlt);have cT:Conc (E.tok V.ab (ad,n) n) V ((s.H++[aa.tail n sz fY]).set id (.cells (l.set j (.sl n l' (.opn s.H.length))) el)):=by
  have cY:(s.H++[aa.tail n sz fY])[id]?=some (.cells l el):=by rw[SX hlt];exact cg
  refine bi.iO id _ (Env.Le.refl _) bi.I (by rw[bi.n,TQ]) lS rfl (λ_ _ _=>rfl) (λb y _ hy=>⟨hy,λ_=>rfl⟩) ⟨⟨cs,by rw[hb];exact ja,Fh⟩,λo=>by rw[hb];exact nA o⟩ (λb dB=> .inl ⟨_,cY,dB⟩)
 refine h _ V a Q ⟨cT,ah.tok.mono hle,ah.size⟩ λae e E' V' a' s' hk=>hQ ae e E' V' a' s' ((⟨hle,rfl,rfl,rfl,rfl⟩:Kept E _ V V a a).trans hk)
theorem afs{nt id j:Nat}{c:T7}{l:List AV}{x y:AV}{el:TypeId}{Φ:an->AS->Prop}(cg:s.H[id]?=some (.cells l el))(hj:l[j]?=some x)(hw:Wk x y)(h:aW lv P r nt c ⟨s.T,s.H.set id (.cells (l.set j y) el)⟩ Φ):aW lv P r nt c s Φ:=λE V a Q ah hQ=>by
 have hc:=ah.bu;obtain⟨⟨cs,ja,hd⟩,nA⟩:=hc.obj id _ cg;have cT:Conc E V (s.H.set id (.cells (l.set j y) el)):=
  hc.iO id _ (Env.Le.refl _) hc.I (by rw[hc.n,TQ]) lS rfl (λ_ _ _=>rfl) (λb y _ hy=>⟨hy,λ_=>rfl⟩) ⟨⟨cs,ja,Pf hd hj (hw E)⟩,nA⟩ (λb dB=> .inl ⟨_,cg,dB⟩)
 exact h E V a Q ⟨cT,ah.tok,ah.size⟩ hQ
end
structure wM (X Y Z:Prop):Type where
 n:Nat
def UG (a:AV)(b9:Bool)(X Y Z:Prop)(_t:wM X Y Z):Prop:=(∃b,a=.val (.bool b)/\(b=b9->X)/\(b= !b9->Y))\/(a=.val undef/\Z)
theorem Hk{b b9:Bool}{X Y Z:Prop}{t:wM X Y Z}:UG (.val (.bool b)) b9 X Y Z t=((b=b9->X)/\(b= !b9->Y)):=by
 unfold UG;refine propext ⟨λh=> ?_,λh=> .inl ⟨b,rfl,h⟩⟩;rcases h with⟨b',e,h⟩|⟨e,_⟩
 ·cases e;exact h
 ·cases e
theorem arJ(X Y Z:Prop)(t:wM X Y Z):UG (.val (.bool true)) true X Y Z t=X:=by rw[Hk];simp
theorem arI(X Y Z:Prop)(t:wM X Y Z):UG (.val (.bool true)) false X Y Z t=Y:=by rw[Hk];simp
theorem arH(X Y Z:Prop)(t:wM X Y Z):UG (.val (.bool false)) true X Y Z t=Y:=by rw[Hk];simp
theorem arG(X Y Z:Prop)(t:wM X Y Z):UG (.val (.bool false)) false X Y Z t=X:=by rw[Hk];simp
theorem arK(b9:Bool)(X Y Z:Prop)(t:wM X Y Z):UG (.val undef) b9 X Y Z t=Z:=by
 unfold UG;refine propext ⟨λh=> ?_,λh=> .inr ⟨rfl,h⟩⟩;rcases h with⟨b',e,_⟩|⟨_,h⟩
 ·cases e
 ·exact h
section
variable (lv:Bool)(P:SJ)
def nX (all:Array Tx):List Tx->AS->(AS->Prop)->(AV->AS->Prop)->Prop
 |[],s,next,_=>next s
 |o::rest,s,next,bad=>match o.guard with
  |none=>mz lv P s o (λs'=>nX all rest s' next bad) bad
  |some (j,b9)=>ao ((all[j]?).bind (·.dst)) λd=>ao (look s.T d) λa=>UG a b9 (mz lv P ⟨(d,.val (.bool b9))::s.T,s.H⟩ o (λs'=>nX all rest s' next bad) bad) (nX all rest ((⟨(d,.val (.bool !b9))::s.T,s.H⟩:AS).put o.dst (.val undef)) next bad) (nX all rest (s.put o.dst (.val undef)) next bad) ⟨0⟩
end
theorem arF:type_of% @nX.eq_1:=by intros;rw[nX.eq_1]
theorem arE:type_of% @nX.eq_2:=by intros;rw[nX.eq_2]
@[congr] theorem atH {lv : Bool} {P : SJ} {s s' : AS} {all : Array Tx} {l : List Tx} {next : AS -> Prop} {bad : AV -> AS -> Prop} (h : s = s') : nX lv P all l s next bad = nX lv P all l s' next bad := by rw [h]
attribute [seval] arF arE arJ arI arH arG arK
section
variable {lv:Bool}{P:SJ}{r:Option Nat}{s:AS}
theorem Hm{nt:Nat}{all:Array Tx}{Φ:an->AS->Prop}(dn:∀o∈all,∀d,o.dst=some d->d<nt)(ny:∀o∈all,r=none\/ml o.op=false):∀(n k:Nat)(s:AS),k+n=all.size->nX lv P all (all.toList.drop k) s (Φ .normal) (λpv s=>Φ (.panic pv) s)->
  ∀(E:Env)(V:View)(a:Act)(Q:Ex->Act->View->Prop),At E V s a nt->(∀ae e E' V' a' s',Kept E E' V V' a a'->At E' V' s' a' nt->pw E' ae e->Φ ae s'->Q e a' V')->dj lv P r all Q (T5 k n) a V
 |0,k,s,hk,h,E,V,a,Q,ah,hQ=>by
  have:all.toList.drop k=[]:=by simp;omega
  rw[this]at h;exact hQ .normal .normal E V a s (Kept.refl E V a) ah trivial h
 |n+1,k,s,hk,h,E,V,a,Q,ah,hQ=>by
  have hlt:k<all.size:=by omega
  have hd:all.toList.drop k=all[k]::all.toList.drop (k+1):=by
   rw[TW (by simpa using hlt)];simp
  rw[hd]at h;have eB:all[k]∈all:=XS hlt;have ho:all[k]?=some all[k]:=SK hlt;simp only[VP,dj,ho];have go:∀s:AS,At E V s a nt->mz lv P s all[k] (λs'=>nX lv P all (all.toList.drop (k+1)) s' (Φ .normal) (λpv s=>Φ (.panic pv) s)) (λpv s=>Φ (.panic pv) s)->wN lv P r all[k] a V (dj lv P r all Q (T5 (k+1) n)) Q:=λs ah h=>by
   refine h.sound (lv:=lv) (r:=r) E V a _ Q ah.bu ah.tok (λd e=>by rw[ah.size];exact dn _ eB d e) (ny _ eB) (λE' V' a' s' aI bi mi hn=> ?_) (λE' V' s' pv v aI bi mi bk hb=> ?_)
   ·exact Hm dn ny n (k+1) s' (by omega) hn E' V' a' Q ⟨bi,mi,aI.size.trans ah.size⟩ (λae e bQ aS cm di fM de he hΦ=>hQ ae e bQ aS cm di (aI.trans fM) de he hΦ)
   ·exact hQ (.panic pv) (.panic _) E' V' a s' aI ⟨bi,mi,ah.size⟩ ⟨v,rfl,bk⟩ hb
  simp only[nX]at h;split at h
  ·rename_i hg;have hw:Tj all[k] (yielded all a.tmps)=true:=(by unfold Tj;rw[hg]);rw[if_pos hw];exact .inl (go s ah h)
  ·rename_i j b9 hg;obtain⟨d,gf,h⟩:=h.out;obtain⟨av,h1,h⟩:=h.out;rcases h with⟨b,rfl,h2,h3⟩|⟨rfl,h3⟩
   case inr=>
    have hv:=(ah.tok d _ h1).2;have hy:yielded all a.tmps j≠some b9:=by
     obtain⟨oj,kE,iW⟩:=Tg.1 gf;generalize hx:a.tmps.getD d undef=x at hv;cases hv;have mf:d<a.tmps.size:=(ah.tok d _ h1).1;rw[SI,SK mf]at hx;simp only[S8]at hx;simp[yielded,kE,iW,SK mf,hx,undef]
    have hw:¬Tj all[k] (yielded all a.tmps)=true:=by
     unfold Tj;rw[hg];intro h;exact hy (by simpa using h)
    rw[if_neg hw];exact Hm dn ny n (k+1) (s.put all[k].dst (.val undef)) (by omega) h3 E V (a.put all[k].dst undef) Q
     ⟨by rw[fl];exact ah.bu,ah.tok.gQ (λd e=>by rw[ah.size];exact dn _ eB d e) (.val undef),by rw[d_];exact ah.size⟩
     (λae e bQ aS cm di fM de he hΦ=>hQ ae e bQ aS cm di ⟨fM.le,fM.size.trans (d_ _ _ _),fM.defers.trans (put_defers _ _ _),fM.role,fM.deaf⟩ de he hΦ)
   have hv:=(ah.tok d _ h1).2;have hy:yielded all a.tmps j=some b:=by
    obtain⟨oj,kE,iW⟩:=Tg.1 gf;generalize hx:a.tmps.getD d undef=x at hv;cases hv;have mf:d<a.tmps.size:=(ah.tok d _ h1).1;rw[SI,SK mf]at hx;simp only[S8]at hx;simp[yielded,kE,iW,SK mf,hx]
   have rI:∀b',b=b'->At E V ⟨(d,.val (.bool b'))::s.T,s.H⟩ a nt:=λb' dB=>by
    subst dB;refine⟨ah.bu,λt x e=> ?_,ah.size⟩;simp only[look]at e;split at e
    ·rename_i e';subst e';cases e;exact ah.tok d _ h1
    ·exact ah.tok t x e
   by_cases hb:b=b9
   ·have hw:Tj all[k] (yielded all a.tmps)=true:=(by unfold Tj;rw[hg];simp[hy,hb]);rw[if_pos hw];exact .inl (go _ (rI b9 hb) (h2 hb))
   ·have hw:¬Tj all[k] (yielded all a.tmps)=true:=(by unfold Tj;rw[hg];simp[hy,hb]);rw[if_neg hw];have dB:b= !b9:=(by cases b<;>cases b9<;>simp_all);have vF:=h3 dB;have ah:=rI _ dB;exact Hm dn ny n (k+1) ((⟨(d,.val (.bool !b9))::s.T,s.H⟩:AS).put all[k].dst (.val undef)) (by omega) vF E V (a.put all[k].dst undef) Q
     ⟨by rw[fl];exact ah.bu,ah.tok.gQ (λd e=>by rw[ah.size];exact dn _ eB d e) (.val undef),by rw[d_];exact ah.size⟩
     (λae e bQ aS cm di fM de he hΦ=>hQ ae e bQ aS cm di ⟨fM.le,fM.size.trans (d_ _ _ _),fM.defers.trans (put_defers _ _ _),fM.role,fM.deaf⟩ de he hΦ)
theorem afn{nt id:Nat}{ops:Array Tx}{Φ:an->AS->Prop}(hd:jQ nt ops=true)(h:nX lv P ops ops.toList s (Φ .normal) (λpv s=>Φ (.panic pv) s)):aW lv P r nt (.region id ops false) s Φ:=by
 intro E V a Q ah hQ;refine wp_region ?_;rw[Vo];exact Hm (Φ:=Φ) (λo ho d e=>(jQ.out hd ho).1 d e) (λo ho=> .inr (jQ.out hd ho).2) ops.size 0 s (by omega) (by simpa using h) E V a Q ah hQ
end
section
variable (lv:Bool)(P:SJ)
def sk (all:Array Tx):List Tx->AS->(AS->Prop)->Prop
 |[],s,K=>K s
 |o::rest,s,K=>match o.guard with
  |none=>AQ lv P s o λav=>sk all rest (s.put o.dst av) K
  |some (j,b9)=>ao ((all[j]?).bind (·.dst)) λd=>ao (look s.T d) λa=>UG a b9 (AQ lv P ⟨(d,.val (.bool b9))::s.T,s.H⟩ o λav=>sk all rest ((⟨(d,.val (.bool b9))::s.T,s.H⟩:AS).put o.dst av) K) (sk all rest ((⟨(d,.val (.bool !b9))::s.T,s.H⟩:AS).put o.dst (.val undef)) K) (sk all rest (s.put o.dst (.val undef)) K) ⟨0⟩
end
theorem ao9:type_of% @sk.eq_1:=by intros;rw[sk.eq_1]
theorem ao8:type_of% @sk.eq_2:=by intros;rw[sk.eq_2]
@[congr] theorem aty {lv : Bool} {P : SJ} {s s' : AS} {all : Array Tx} {l l' : List Tx} {K : AS -> Prop} (hl : l = l') (h : s = s') : sk lv P all l s K = sk lv P all l' s' K := by rw [hl, h]
attribute [seval] ao9 ao8
section
variable {lv:Bool}{P:SJ}{r:Option Nat}{s:AS}{ops:Array Tx}{nt p:Nat}
end
section
variable {P:SJ}
def DX (P:SJ)(d:Nat)(t:TypeId):Prop:=(∃u,P.underlying t=some u/\yG u=false)/\∀x y:Int,cJ P (Vx d t (.int .i64 x) (.int .i64 y)) (x==y)
def DY (P:SJ)(d:Nat)(t:TypeId)(n:Nat):Prop:=(∃u,P.underlying t=some u/\yG u=true)/\(∃i,P.info? t=some i/\i.size=n)/\∀xs ys:List Int,xs.length=n->ys.length=n->cJ P (Vx d t (.agg (xs.map (SG .i64)).toArray) (.agg (ys.map (SG .i64)).toArray)) (xs==ys)
inductive sd (P:SJ)(d:Nat):Nat->List Y1->Nat->Prop
 |nil (o:Nat):sd P d o [] o
 | one {o n : Nat} {f : Y1} {fs : List Y1} (hn : f.name ≠ "_") (ho : f.offset = o) (h : DX P d f.type) (t : sd P d (o + 1) fs n) : sd P d o (f :: fs) n
 | sub {o m n : Nat} {f : Y1} {fs : List Y1} (hn : f.name ≠ "_") (ho : f.offset = o) (h : DY P d f.type m) (t : sd P d (o + m) fs n) : sd P d o (f :: fs) n
theorem sd.le{d o n:Nat}{fs:List Y1}(h:sd P d o fs n):o<=n:=by
 induction h with
 |nil=>exact SR _
 |one _ _ _ _ ih=>omega
 |sub _ _ _ _ ih=>omega
theorem PJ(xs:List Int)(o m:Nat):(xs.map (SG .i64)).toArray.extract o (o+m)=(((xs.drop o).take m).map (SG .i64)).toArray:=by
 simp[List.extract_eq_take_drop,VW,aj_]
theorem aqT {d n N : Nat} {xs ys : List Int} {body : Y1 -> Option Bool × Unit -> Sem (ForInStep (Option Bool × Unit))} (hx : xs.length = N) (hy : ys.length = N) (hb : ∀ f s, body f s = (if f.name ≠ "_" then (do
   let a<- part f.type (xs.map (SG .i64)).toArray f.offset;let b<- part f.type (ys.map (SG .i64)).toArray f.offset;let r<- Vx d f.type a b
   if(!r)=true then pure (.done (some false,()))else pure (.yield (none,())))else pure (.yield (none,())))):
  ∀{o:Nat}{fs:List Y1},sd P d o fs n->n<=N->cJ P (forIn fs (none,()) body) (if(xs.drop o).take (n-o)==(ys.drop o).take (n-o)then(none,())else(some false,())):=by
 intro o fs h hn;induction h with
 |nil o=>simpa using iz (none,())
 |@one o n f fs KD ho h t ih=>
  have hle:=t.le;have Se:o<xs.length:=by omega
  have Sf:o<ys.length:=by omega
  obtain⟨⟨u,hu,CH⟩,he⟩:=h;rw[W2,hb,if_pos KD,ho];refine lA (a:=if xs[o]==ys[o]then .yield (none,())else .done (some false,())) ?_ ?_
  ·refine Dp hu CH (v:=.int .i64 xs[o]) (by simp[Se]) ?_;refine Dp hu CH (v:=.int .i64 ys[o]) (by simp[Sf]) ?_;refine lA (he _ _) ?_;cases hq:xs[o]==ys[o]<;>exact iz _
  ·have e:((xs.drop o).take (n-o)==(ys.drop o).take (n-o))=((xs[o]==ys[o])&&((xs.drop (o+1)).take (n-(o+1))==(ys.drop (o+1)).take (n-(o+1)))):=by
    rw[TW Se,TW Sf,show n-o=(n-(o+1))+1 by omega,U8,U8];rfl
   rw[e];cases hq:xs[o]==ys[o]with
   |true=>simp only[if_true,Vb];exact ih hn
   |false=>simp only[TN,if_false,YE];exact iz _
 |@sub o m n f fs KD ho h t ih=>
  have hle:=t.le;obtain⟨⟨u,hu,CH⟩,⟨i,hi,dh⟩,he⟩:=h;rw[W2,hb,if_pos KD,ho];refine lA (a:=if(xs.drop o).take m==(ys.drop o).take m then .yield (none,())else .done (some false,())) ?_ ?_
  ·refine acZ hu CH hi ?_;refine acZ hu CH hi ?_;rw[dh,PJ,PJ];refine lA (he _ _ (by rw[Ub,Ul];omega) (by rw[Ub,Ul];omega)) ?_;cases hq:(xs.drop o).take m==(ys.drop o).take m<;>exact iz _
  ·have e:((xs.drop o).take (n-o)==(ys.drop o).take (n-o))=(((xs.drop o).take m==(ys.drop o).take m)&&((xs.drop (o+m)).take (n-(o+m))==(ys.drop (o+m)).take (n-(o+m)))):=by
    have hs:∀zs:List Int,(zs.drop o).take (n-o)=(zs.drop o).take m++(zs.drop (o+m)).take (n-(o+m)):=λzs=>by
     rw[show n-o=m+(n-(o+m)) by omega,List.take_add,af_]
    rw[hs,hs,UY,Tc,beq_iff_eq,beq_iff_eq,beq_iff_eq];exact⟨λh=>List.append_inj h (by simp[Ub,Ul];omega),λh=>by rw[h.1,h.2]⟩
   rw[e];cases hq:(xs.drop o).take m==(ys.drop o).take m with
   |true=>simp only[if_true,Vb];exact ih hn
   |false=>simp only[TN,if_false,YE];exact iz _
theorem ag8{t:TypeId}{fs:Array Y1}{d n:Nat}{i:Wm}(ht:P.underlying t=some (.struct fs))(hs:P.stoodInHeld t=false)(hi:P.info? t=some i)(dh:i.size=n)(hf:sd P d 0 fs.toList n):DY P (d+1) t n:=by
 refine ⟨⟨_, ht, rfl⟩, ⟨i, hi, dh⟩, λxs ys hx hy => ?_⟩;rw [Vx];refine yn ht ?_;dsimp only;refine Ng ?_;rw [hs];simp only [TN, if_false];rw [<- Array.forIn_toList];refine lA (a := if (xs == ys) then (none, ()) else (some false, ())) ?_ (by cases xs == ys <;> exact iz _);have := aqT (body := λf (_ : Option Bool × Unit) => if f.name ≠ "_" then (do
   let a<- part f.type (xs.map (SG .i64)).toArray f.offset;let b<- part f.type (ys.map (SG .i64)).toArray f.offset;let r<- Vx d f.type a b
   if(!r)=true then pure (ForInStep.done (some false,()))else pure (Y3 (none,())))else pure (Y3 (none,()))) hx hy (λf s=>rfl) hf (SR _)
 simp only[Xx,Z3]at this;rw[SY (by omega),SY (by omega)]at this;exact this
theorem ag7{t:TypeId}{k0:TU}{d:Nat}(ht:P.underlying t=some (.int k0)):DX P (d+1) t:=⟨⟨_,ht,rfl⟩,λ_ _=>acX ht⟩
def BC (g:TypeId->Option (Option Nat)):List Y1->Nat->Option Nat
 |[],o=>some o
 | f :: fs, o => if f.name ≠ "_" /\ f.offset = o then (match g f.type with
  |some none=>BC g fs (o+1)
  |some (some m)=>BC g fs (o+m)
  |none=>none)else none
def xd (P:SJ):Nat->TypeId->Option (Option Nat)
 |0,_=>none
 |d+1,t=>match P.underlying t with
  |some (.int _)=>some none
  |some (.struct fs)=>if P.stoodInHeld t then none else(match BC (xd P d) fs.toList 0,P.info? t with
   |some n,some i=>if i.size=n then some (some n)else none
   |_,_=>none)
  |_=>none
theorem Je{d n:Nat}{g:TypeId->Option (Option Nat)}(h1:∀t,g t=some none->DX P d t)(h2:∀t m,g t=some (some m)->DY P d t m):∀(fs:List Y1)(o:Nat),BC g fs o=some n->sd P d o fs n
 |[],o,h=>by cases h;exact .nil _
 |f::fs,o,h=>by
  rw[BC]at h;split at h
  ·rename_i hc;split at h
   ·rename_i hg;exact .one hc.1 hc.2 (h1 _ hg) (Je h1 h2 fs _ h)
   ·rename_i m hg;exact .sub hc.1 hc.2 (h2 _ _ hg) (Je h1 h2 fs _ h)
   ·cases h
  ·cases h
theorem P_:∀(d:Nat)(t:TypeId),(xd P d t=some none->DX P d t)/\∀n,xd P d t=some (some n)->DY P d t n
 |0,t=>⟨λh=>by simp[xd]at h,λn h=>by simp[xd]at h⟩
 |d+1,t=>by
  have ih:=λt=>P_ d t;rw[xd];split
  ·rename_i k0 hu;exact⟨λ_=>ag7 hu,λn h=>by cases h⟩
  ·rename_i fs hu;split
   ·exact⟨λh=>(by cases h),λn h=>by cases h⟩
   ·rename_i hs;split
    ·rename_i n i hf hi;split
     ·rename_i dh;refine⟨λh=>(by cases h),λm h=> ?_⟩;cases h;exact ag8 hu (by simpa using hs) hi dh (Je (λt=>(ih t).1) (λt=>(ih t).2) _ _ hf)
     ·exact⟨λh=>(by cases h),λn h=>by cases h⟩
    ·exact⟨λh=>(by cases h),λn h=>by cases h⟩
  ·exact⟨λh=>(by cases h),λn h=>by cases h⟩
theorem aeu{t:TypeId}{n:Nat}{xs ys:List Int}(h:xd P 10000 t=some (some n))(hg:P.eqGuardType P.depth t=false)(hx:xs.length=n)(hy:ys.length=n)(k:AV->Prop):dF P .eql t (.agg (xs.map iv)) (.agg (ys.map iv)) k=k (bv (xs==ys)):=by
 have CC:cJ P (Xm t (.agg (xs.map (SG .i64)).toArray) (.agg (ys.map (SG .i64)).toArray)) (xs==ys):=((P_ 10000 t).2 n h).2.2 xs ys hx hy;have e:dF P .eql t (.agg (xs.map iv)) (.agg (ys.map iv)) k=((XH=.eql\/XH=.neq)/\ao (AV.raw (.agg (xs.map iv))) λX=>ao (AV.raw (.agg (ys.map iv))) λY=>yT X Y=true/\P.eqGuardType P.depth t=false/\∃e,cJ P (Xm t X Y) e/\k (.val (.bool (if XH== .neq then !e else e)))):=rfl;rw[e,ye,ye,Ae,Ae];apply propext;constructor
 ·rintro⟨_,_,_,b,h1,h2⟩
  rw[CC.uniq h1];exact h2
 ·intro h;exact⟨.inl rfl,rfl,hg,_,CC,h⟩
end
section
variable {lv:Bool}{P:SJ}{s:AS}{ms:List Nat}{bs:List UX}{nt:Nat}
def tM (E:Env)(ms:List Nat)(bs l:List UX):Prop:=l=ms.map (λi=>({target:=.collected (E.blk i),args:=#[]}:UX))++bs/\∀i∈ms,i<E.n
theorem tM.mono{E E':Env}(h:E.Le E'){ms:List Nat}{bs l:List UX}(k:tM E ms bs l):tM E' ms bs l:=
 ⟨by rw[k.1];congr 1;exact VB λi hi=>by rw[h.blk i (k.2 i hi)],λi hi=>Te (k.2 i hi) h.n⟩
def ku (lv:Bool)(P:SJ)(nt:Nat)(bs:List UX)(c:T7)(s:AS)(ms:List Nat)(Φ:an->AS->List Nat->Prop):Prop:=
 ∀(E:Env)(V:View)(a:Act)(Q:Ex->Act->View->Prop),At E V s a nt->tM E ms bs a.defers->(∀ae e E' V' a' s' cE,qC E E' V V' a a'->At E' V' s' a' nt->tM E' cE bs a'.defers->pw E' ae e->Φ ae s' cE->Q e a' V')->WP lv P none c Q a V
theorem Ej{c:T7}{Φ:an->AS->List Nat->Prop}(h:aW lv P none nt c s λe s'=>Φ e s' ms):ku lv P nt bs c s ms Φ:=λE V a Q ah hd hQ=>
 h E V a Q ah λae e E' V' a' s' hk aR he hΦ=>hQ ae e E' V' a' s' ms hk.d aR (by rw[hk.defers];exact hd.mono hk.le) he hΦ
theorem ku.mono{c:T7}{Φ Φ':an->AS->List Nat->Prop}(h:ku lv P nt bs c s ms Φ)(hq:∀e s ms,Φ e s ms->Φ' e s ms):ku lv P nt bs c s ms Φ':=λE V a Q ah hd hQ=>
 h E V a Q ah hd λae e E' V' a' s' cE hk aR cC he hΦ=>hQ ae e E' V' a' s' cE hk aR cC he (hq _ _ _ hΦ)
theorem Ek{x y:T7}{Φ:an->AS->List Nat->Prop}(h:ku lv P nt bs x s ms (an.rU (λs' cE=>ku lv P nt bs y s' cE Φ) Φ)):ku lv P nt bs (.seq x y) s ms Φ:=by
 intro E V a Q ah hd hQ;refine wp_seq (h E V a _ ah hd λae e E' V' a' s' cE hk aR cC he hΦ=> ?_);cases ae<;>cases e<;>first
  |exact he.elim
  |exact hΦ E' V' a' Q aR cC λae e bQ aS cm di C3 aI de zo j9 tg=>hQ ae e bQ aS cm di C3 (hk.trans aI) de zo j9 tg
  |exact hQ _ _ E' V' a' s' cE hk aR cC he hΦ
theorem sv{x y:T7}{Φ:an->AS->List Nat->Prop}(h:aW lv P none nt x s (an.then (λs'=>ku lv P nt bs y s' ms Φ) λe s'=>Φ e s' ms)):ku lv P nt bs (.seq x y) s ms Φ:=by
 refine Ek (Ej (h.mono λe s' hs=> ?_));cases e<;>exact hs
theorem wX{id:Nat}{c:T7}{Φ:an->AS->List Nat->Prop}(h:ku lv P nt bs c s ms (an.pG id Φ)):ku lv P nt bs (.block id c) s ms Φ:=by
 intro E V a Q ah hd hQ;refine wp_block (h E V a _ ah hd λae e E' V' a' s' cE hk aR cC he hΦ=> ?_);cases ae<;>cases e<;>first
  |exact he.elim
  |skip
 ·exact hQ .normal .normal E' V' a' s' cE hk aR cC trivial hΦ
 ·rename_i i j;have e:i=j:=he;subst e;by_cases cg:i=id
  ·simp only[Ex.inBlock,cg,if_true];simp only[an.pG,cg,if_true]at hΦ;exact hQ .normal _ E' V' a' s' cE hk aR cC trivial hΦ
  ·simp only[Ex.inBlock,cg,if_false];simp only[an.pG,cg,if_false]at hΦ;exact hQ (.exit i) _ E' V' a' s' cE hk aR cC rfl hΦ
 ·exact hQ _ _ E' V' a' s' cE hk aR cC he hΦ
 ·exact hQ _ _ E' V' a' s' cE hk aR cC he hΦ
 ·exact hQ _ _ E' V' a' s' cE hk aR cC he hΦ
theorem OC{α:Type}{lt:α->α->Prop}(wf:WellFounded lt){c:T7}{Φ:an->AS->List Nat->Prop}(inv:α->AS)(mk:α->List Nat)(ok:α->Prop)(m:α)(h0:s.Sub (inv m))(ur:ms=mk m)(hm:ok m)
  (h:∀m,ok m->ku lv P nt bs c (inv m) (mk m) (an.rU (λs' cE=>∃m',lt m' m/\ok m'/\s'.Sub (inv m')/\cE=mk m') Φ)):ku lv P nt bs (.loop c) s ms Φ:=by
 subst ur;intro E V a Q ah hd hQ;refine NG wf (I:=λm a' V'=>ok m/\∃E',qC E E' V V' a a'/\At E' V' (inv m) a' nt/\tM E' (mk m) bs a'.defers) m ⟨hm,E,(Kept.refl E V a).d,ah.sub h0,hd⟩ λm a' V' hI=> ?_;obtain⟨az,E',hk,aR,cC⟩:=hI;refine h m az E' V' a' _ aR cC λae e bQ aS cm di C3 aI de zo he hΦ=> ?_;cases ae<;>cases e<;>first
  |exact he.elim
  |(obtain⟨m',h1,h2,h3,rfl⟩:=hΦ
    exact⟨m',h1,h2,bQ,hk.trans aI,de.sub h3,zo⟩)
  |exact hQ _ _ bQ aS cm di C3 (hk.trans aI) de zo he hΦ
theorem afA{f:Tm}{ps:Array Tmp}{bL body:T7}{fv:AV}{Φ:an->AS->List Nat->Prop}(hf:s.ev f=some fv)
  (h:∀l fn:Nat,iQ lv P fv (s.H++[.obj (.deferred (some [])),.loop l .ready none fn s.T nt ps bL body s.H.length]) [.fn (.yield l) [] []]
   (λ_ H'=>∃st pe fB T' jg gr fW fu fX,H'[s.H.length+1]?=some (.loop l st pe fB T' jg gr fW fu fX)/\st≠ .busy/\sj Φ ⟨s.T,H'.set (s.H.length+1) .gone⟩ (s.H.length::ms) pe)
   (λpv H'=>Φ (.panic pv) ⟨s.T,H'⟩ (s.H.length::ms))):ku lv P nt bs (.rangeFunc f ps bL body) s ms Φ:=by
 intro E V a Q ah hm hQ;refine adw λfn d l hd hl=> ?_;have hc:=ah.bu;have dl:Conc (E.add d V.ab) (V.upd d (.deferred (some []))) (s.H++[.obj (.deferred (some []))]):=by
  refine hc.add hd _ ⟨?_,rfl,rfl,λo=> ?_⟩ (λb e=> ?_)
  ·rw[Env.dI];simp[View.upd]
  ·rw[Env.dI];exact hd.2 o
  ·simp only[bM,Env.dI,Tn]at e;exact e.symm
 have Cj:E.Le (E.add d V.ab):=E.qj d (λb o v h=>by rw[<- hc.I];exact h);have B5:(E.add d V.ab).blk s.H.length=d:=by rw[<- hc.n];exact E.dI d _
 let E1:=E.add d V.ab;let V1:=V.upd d (.deferred (some []));have oZ:E1.n=s.H.length+1:=by rw[dl.n];simp
 have pZ:E1.Le (E1.add l V1.ab):=E1.qj l (λb o v h=>by rw[<- dl.I];exact h);have cT:Conc (E1.add l V1.ab) (V1.upd l (.loop {state:=.ready,pending:=none,fn,tmps:=a.tmps,params:=ps,assign:=bL,body,defers:=d})) ((s.H++[.obj (.deferred (some []))])++[.loop l .ready none fn s.T nt ps bL body s.H.length]):=by
  refine dl.add hl _ ⟨⟨a.tmps,?_,ah.size,(ah.tok.mono Cj).mono pZ⟩,?_,λo=> ?_,?_⟩ (λb e=> ?_)
  ·have e:(E1.add l V1.ab).blk s.H.length=d:=(by rw[pZ.blk s.H.length (by rw[oZ];omega)];exact B5);rw[e,Env.dI];simp[View.upd]
  ·show s.H.length<E1.n+1;omega
  ·rw[Env.dI];exact hl.2 o
  ·exact Env.dI _ _ _
  ·simp only[bM,Env.dI,Tn]at e;exact e.symm
 have hle:E.Le (E1.add l V1.ab):=Cj.trans pZ;have JQ:(E1.add l V1.ab).blk s.H.length=d:=by rw[pZ.blk s.H.length (by rw[oZ];omega)];exact B5
 rw[SD]at cT;have rk:∀E',(E1.add l V1.ab).Le E'->tM E' (s.H.length::ms) bs (mark a d).defers:=λE' hE=>by
  refine tM.mono hE ⟨?_,λi hi=> ?_⟩
  ·have:=(hm.mono hle).1;simp only[mark,UP,JQ,Vf];rw[<- this]
  ·rcases SL.1 hi with rfl|hi
   ·show _<E1.n+1;omega
   ·exact Te (hm.2 i hi) hle.n
 have bx:=ap.ev ah.tok hf;have B7:=h l fn (E1.add l V1.ab) (V1.upd l (.loop {state:=.ready,pending:=none,fn,tmps:=a.tmps,params:=ps,assign:=bL,body,defers:=d})) (a.eval f) #[.func (.yield l) #[] #[]] cT (bx.mono hle) ⟨rfl,λi x hx=>by
  match i,hx with
  |0,hx=>cases hx;exact .fn rfl rfl (by simp) (by simp)⟩
 have key:∀o V',gK (E1.add l V1.ab) (V1.upd l (.loop {state:=.ready,pending:=none,fn,tmps:=a.tmps,params:=ps,assign:=bL,body,defers:=d}))
   (λ_ H'=>∃st pe fB T' jg gr fW fu fX,H'[s.H.length+1]?=some (.loop l st pe fB T' jg gr fW fu fX)/\st≠ .busy/\sj Φ ⟨s.T,H'.set (s.H.length+1) .gone⟩ (s.H.length::ms) pe)
   (λpv H'=>Φ (.panic pv) ⟨s.T,H'⟩ (s.H.length::ms)) o V'->D6 l d Q a o V':=by
  intro o V' hr;cases o with
  |ret v=>
   obtain⟨av,E',H',hE,ce,eZ,_,bi,st,pe,fB,T',jg,gr,fW,fu,fX,cg,aQ,hp⟩:=hr;obtain⟨dB,nw,qw,bc,K4,sK,zM⟩:=bi.yl cg;refine⟨_,bc,nw,aQ,?_⟩;have hg:Conc E' (V'.upd l (.loop {state:=.exhausted,pending:=pe,fn:=fB,tmps:=qw,params:=gr,assign:=fW,body:=fu,defers:=E'.blk fX})) (H'.set (s.H.length+1) .gone):=bi.Dj _ cg _ (by simp only[bM,dB]);have aR:At E' (V'.upd l (.loop {state:=.exhausted,pending:=pe,fn:=fB,tmps:=qw,params:=gr,assign:=fW,body:=fu,defers:=E'.blk fX})) ⟨s.T,H'.set (s.H.length+1) .gone⟩ (mark a d) nt:=⟨hg,ah.tok.mono (hle.trans hE),ah.size⟩;have ez:qC E E' V (V'.upd l (.loop {state:=.exhausted,pending:=pe,fn:=fB,tmps:=qw,params:=gr,assign:=fW,body:=fu,defers:=E'.blk fX})) a (mark a d):=⟨hle.trans hE,rfl,ce,eZ⟩;dsimp only
   match pe,hp,aR,ez with
   |none,hp,aR,ez=>exact hQ .normal .normal E' _ _ _ _ ez aR (rk E' hE) trivial hp
   |some .ret,hp,aR,ez=>exact hQ .ret .ret E' _ _ _ _ ez aR (rk E' hE) trivial hp
   |some (.exit i),hp,aR,ez=>exact hQ (.exit i) (.exit i) E' _ _ _ _ ez aR (rk E' hE) rfl hp
   |some (.goto i),hp,aR,ez=>exact hQ (.goto i) (.goto i) E' _ _ _ _ ez aR (rk E' hE) rfl hp
  |panic ch=>
   obtain⟨pv,v,E',H',rfl,hE,ce,eZ,bk,bi,hp⟩:=hr;exact hQ (.panic pv) (.panic _) E' V' (mark a d) ⟨s.T,H'⟩ _ ⟨hle.trans hE,rfl,ce,eZ⟩ ⟨bi,ah.tok.mono (hle.trans hE),ah.size⟩ (rk E' hE) ⟨v,rfl,bk⟩ hp
 exact B7.mono (λnx V' hn=>Nx.mono key hn) (λv V' hr=>key _ _ hr)
@[congr] theorem asO {c : T7} {s s' : AS} {ms cE : List Nat} {Φ : an -> AS -> List Nat -> Prop} (h : s = s') (hd : ms = cE) : ku lv P nt bs c s ms Φ = ku lv P nt bs c s' cE Φ := by rw [h, hd]
def tS (lv:Bool)(P:SJ)(fn:YC)(R:Out->View->Prop):List UX->U7->Array SP->View->Prop
 |[],.returning,tmps,V=>∃v,aP P V (results fn tmps) (λx V'=>x=v/\V'=V) (λ_ _=>False)/\R (.ret v) V
 |[],.panicking ch,_,V=>R (.panic ch) V
 |d::ds,md,tmps,V=>(md matches .run)=false/\((∃b,d={target:=.collected b,args:=#[]}/\V.own b=some (.deferred (some []))/\V.role.chan≠some b/\tS lv P fn R ds md tmps (V.upd b (.deferred none)))\/
   ((∃f cR,d.target=.fn f cR)/\aP P V (invoke d.target d.args) (λnx V'=>∃g args,nx=.enter g args/\yu lv P g args md V' λnM aS=>tS lv P fn R ds nM tmps aS) (λ_ _=>False)))
 |[],.run,_,_=>False
theorem Dx{f:TO}{fn:YC}{kd:Xe}{R:Out->View->Prop}(hf:P.funcs[f]?=some fn){main:Bool}{J:View->SH->Prop}(C:Closed lv P main J){cs:List T_}(hR:∀o V' BF,R o V'->Leaves P BF f kd o V'->J V' (G BF cs)):∀(ds:List UX)(md:U7)(V:View)(fr:T_),fr.fn=f->fr.kind=kd->fr.mode=md->fr.defers=ds->tS lv P fn R ds md fr.tmps V->J V (G fr cs)
 |[],.returning,V,fr,h1,h2,h3,h4,h=>by
  obtain⟨v,hs,hr⟩:=h;exact hR _ _ _ hr ⟨h1,h4,h2,fn,hf,h3,hs⟩
 |[],.panicking ch,V,fr,h1,h2,h3,h4,h=>hR _ _ _ h ⟨h1,h4,h2,fn,hf,h3⟩
 |[],.run,_,_,_,_,_,_,h=>h.elim
 |d::ds,md,V,fr,h1,h2,h3,h4,h=>by
  obtain⟨hm,⟨b,rfl,ho,eX,hu⟩|⟨⟨tf,cR,ht⟩,hs⟩⟩:=h
  ·refine C.step _ _ rfl λw hw=> ?_;obtain⟨es,w',V',k1,k2,k3⟩:=(M6 (P:=P) ho eX).runs hw;rcases k3 with⟨x,k3,rfl,rfl⟩|⟨_,_,hx⟩
   ·refine⟨G {fr with defers:=ds} cs,w',seen P fr.fn es,_,?_,k1.seen P fr.fn,?_⟩
    ·have e:∀main,stepG P main (G fr cs) w=unwind P main fr cs none w:=λmain=>by
      cases md with
      |run=>cases hm
      |returning=>simp[G,stepG,h3]
      |panicking ch=>simp[G,stepG,h3]
     rw[e];simp only[unwind,h4];simp[TC,k3,k2,T1,G]
    ·exact Dx hf C hR ds md _ {fr with defers:=ds} h1 h2 h3 rfl hu
   ·exact hx.elim
  ·refine C.step _ _ rfl λw hw=> ?_;obtain⟨es,w',V',k1,k2,k3⟩:=hs.runs hw;rcases k3 with⟨nx,k3,g,args,rfl,hd⟩|⟨_,_,h⟩
   ·refine⟨G (Frame.enter P g args .deferred) ({fr with defers:=ds}::cs),w',seen P fr.fn es,V',?_,k1.seen P fr.fn,?_⟩
    ·have e:∀main,stepG P main (G fr cs) w=unwind P main fr cs none w:=λmain=>by
      cases md with
      |run=>cases hm
      |returning=>simp[G,stepG,h3]
      |panicking ch=>simp[G,stepG,h3]
     rw[e];obtain⟨tgt,ar⟩:=d;simp only at ht k3 k2;subst ht;simp only[unwind,h4];simp[callDeferred,TC,k3,k2,T1,G]
    ·refine hd main J C {fr with defers:=ds} cs h3 λnM aS hU=> ?_;exact Dx hf C hR ds nM aS {fr with defers:=ds,mode:=nM} h1 h2 rfl rfl hU
   ·exact h.elim
def adI (lv:Bool)(P:SJ)(fn:YC)(R:Out->View->Prop):Ex->Act->View->Prop
 |.normal,a,V|.ret,a,V=>tS lv P fn R a.defers .returning a.tmps V
 |.panic ch,a,V=>tS lv P fn R a.defers (.panicking ch) a.tmps V
 |_,_,_=>False
theorem af4{f:TO}{fn:YC}{c:T7}{args:Array SP}{kd:Xe}{V:View}{R:Out->View->Prop}(hk:kd≠ .early)(hf:P.funcs[f]?=some fn)(hb:fn.body=some c)
  (h:WP lv P none c (adI lv P fn R) {tmps:=args++TK (fn.ntmps-args.size) undef,defers:=[]} V):Body lv P f args kd V R:=by
 intro main J C cs hR;let b:T_:={(default:T_)with fn:=f,kind:=kd,roundOf:=none};have um:Frame.enter P f args kd=on b {tmps:=args++TK (fn.ntmps-args.size) undef,defers:=[]} [.code c]:=by
  simp[Frame.enter,on,hf,hb,b]
 rw[um];refine h main J C b [] cs hk rfl λe a' V' q=> ?_;cases e with
 |normal=>exact C.idle rfl (λw=>Df rfl) (Dx hf C hR _ _ _ _ rfl rfl rfl rfl q)
 |ret=>intro k;exact C.idle rfl (λw=>Dg rfl) (Dx hf C hR _ _ _ _ rfl rfl rfl rfl q)
 |panic ch=>intro todo _;exact Dx hf C hR _ _ _ _ rfl rfl rfl rfl q
 |exit id=>exact q.elim
 |goto l=>exact q.elim
theorem ado{fn:YC}{R:Out->View->Prop}{tmps:Array SP}{md:U7}(hm:(md matches .run)=false):∀(ms:List Nat)(H H':List aa)(E:Env)(V:View)(l:List UX),iC ms H=some H'->Conc E V H->tM E ms bs l->(∀V',V'.role=V.role->V'.deaf=V.deaf->Conc E V' H'->tS lv P fn R bs md tmps V')->tS lv P fn R l md tmps V
 |[],H,H',E,V,l,hg,hc,rl,hk=>by
  rw[iC]at hg;cases hg;have:l=bs:=rl.1;subst this;exact hk V rfl rfl hc
 |i::ms,H,H',E,V,l,hg,hc,rl,hk=>by
  simp only[iC]at hg;split at hg
  ·rename_i hi;obtain⟨e,hlt⟩:=rl;simp only[UP,Vf]at e;subst e;obtain⟨p1,p2,p3,p4⟩:=hc.obj i _ hi;exact⟨hm,.inl ⟨_,rfl,p1,(hc.jf hi rfl).2,ado hm ms _ H' E _ _ hg (hc.Dj _ hi _ rfl) ⟨rfl,λj hj=>hlt j (by simp[hj])⟩ λV' h1 h2 h3=>hk V' h1 h2 h3⟩⟩
  ·cases hg
def yA (lv:Bool)(P:SJ)(rs:List UL)(n:Nat)(c:AV×List AV)(k kp:AV->List aa->Prop):an->AS->List Nat->Prop
 |.normal,s,ms|.ret,s,ms=>ao (iC ms s.H) λH'=>qz lv P c H' none (λH'=>ao (gR P ⟨s.T,H'⟩ rs) λl=>cw n H' (iM l) k) (λ_=>False)
 |.panic pv,s,ms=>ao (iC ms s.H) λH'=>qz lv P c H' (some pv) (λH'=>ao (gR P ⟨s.T,H'⟩ rs) λl=>cw n H' (iM l) k) (λH'=>cw n H' pv kp)
 |_,_,_=>False
end
end Go.Gg
namespace Go.Gg.Tk
structure jk where
 min:Int
 max:Int
 deriving DecidableEq
structure aC where
 number:jk
 hour:jk
 deriving DecidableEq
structure Seen where
 hour:Int
 next:jk
 deriving DecidableEq
structure ai where
 first:Int
 hours:Int
 am:Int
 seen:List Seen
 pieces:List aC
 aB:List aC
 deriving DecidableEq
def kJ (b:jk)(n:Int):Bool:=decide (b.min<=n)&&decide (n<=b.max)
def ft:Nat->List Int->Int->Int
 |i,a::b::l,n=>if a<=n/\n<b then i else ft (i+1) (b::l) n
 |_,_,_=> -1
def gw (h:List Int)(n:Int):Int:=ft 0 h n
def fits (h:List Int)(y:aC)(n:Int):Bool:=decide (0<=gw h n)&&kJ y.number n&&kJ y.hour (gw h n)
def rP (x:ai)(hour:Nat)(n:Int):Bool:=x.seen.all λs=> !decide (s.hour=hour)||kJ s.next n
def jz (x:ai):Nat->List Int->List (List Int)
 |0,pre=>if rP x (pre.length-1) (pre.getLastD 0)then[pre]else[]
 |d+1,pre=>if rP x (pre.length-1) (pre.getLastD 0)then(SZ (x.am.toNat+1)).flatMap λn:Nat=>jz x d (pre++[pre.getLastD 0+(n:Int)])else[]
def aL (x:ai):List (List Int):=jz x x.hours.toNat [x.first]
def vX (x:ai)(t:Nat):List (List Int):=if rP x 0 x.first then jz x (x.hours.toNat-1) [x.first,x.first+t]else[]
def C7 (h:List Int):List Int:=(SZ (h.getLastD 0-h.headD 0).toNat).map λi:Nat=>h.headD 0+i
def mT (h:List Int):List aC->List Int->List (List Int)
 |[],t=>[t]
 |y::ys,t=>((C7 h).filter λn=>fits h y n&& !t.contains n).flatMap λn=>mT h ys (t++[n])
def po (h:List Int)(ns:List Int):List aC->List Nat->List (List Nat)
 |[],t=>[t]
 |s::ss,t=>((SZ ns.length).filter λp=>fits h s (ns.getD p 0)&& !t.contains p).flatMap λp=>po h ns ss (t++[p])
structure Tr where
 aO:List Int
 ay:List Int
 bC:List Nat
 deriving DecidableEq
def Dv (x:ai)(h ns:List Int):List Tr:=(po h ns x.aB []).map λos=>⟨h,ns,os⟩
def kq (x:ai)(h:List Int):List Tr:=(mT h x.pieces []).flatMap (Dv x h)
def bA (x:ai):List Tr:=(aL x).flatMap (kq x)
def uZ (x:ai)(h:List Int):List Tr:=(mT h x.pieces []).flatMap λns=>(Dv x h ns).take 1
def rV (x:ai)(deep:Int)(h:List Int):List Tr:=if deep=0 then(uZ x h).take 1 else if deep=1 then uZ x h else kq x h
def Hp (x:ai)(deep:Int)(t:Nat):List Tr:=(vX x t).flatMap (rV x deep)
theorem adb{i:Nat}:∀{h:List Int}{n:Int},ft i h n<i+h.length:=by
 intro h;induction h generalizing i with
 |nil=>intro n;simp[ft];omega
 |cons a h ih=>
  intro n;cases h with
  |nil=>simp[ft];omega
  |cons b l=>
   simp only[ft];split
   ·simp;omega
   ·have:=ih (i:=i+1) (n:=n);simp at this⊢;omega
theorem Nm{i k:Nat}{z:Int}:∀{h:List Int}{n:Int},h.getLastD z=z->h≠[]->ft i (h++TM k z) n=ft i h n:=by
 intro h;induction h generalizing i with
 |nil=>intro n _ h;exact absurd rfl h
 |cons a h ih=>
  intro n hz _;cases h with
  |nil=>
   simp only[Zv,List.getLastD_nil]at hz;subst hz;have:∀(k i:Nat),ft i ([a]++TM k a) n= -1:=by
    intro k;induction k with
    |zero=>intro i;simp[ft]
    |succ k ihk=>
     intro i;rw[Ww,Y6];simp only[ft];rw[if_neg (by omega)];exact ihk (i+1)
   rw[this];simp[ft]
  |cons b l=>
   have:=ih (i:=i+1) (n:=n) (by simpa using hz) (by simp);simp only[Vf,ft]at this⊢;rw[this]
end Go.Gg.Tk
namespace Go.Gg.Tk
inductive dA (S:Type)where
 |go (s:S)
 |stop (s:S)
 |bad (s:S)
def bE {S α:Type}(f:S->α->dA S):List α->S->dA S
 |[],s=> .go s
 |a::l,s=>match f s a with
  |.go s'=>bE f l s'
  |r=>r
theorem qp{S α:Type}(f:S->α->dA S):∀(l m:List α)(s:S),bE f (l++m) s=match bE f l s with
  |.go s'=>bE f m s'
  |r=>r
 |[],m,s=>rfl
 |a::l,m,s=>by
  simp only[Vf,bE];cases f s a with
  |go s'=>exact qp f l m s'
  |stop s'=>rfl
  |bad s'=>rfl
theorem MZ{S α:Type}(f:S->α->dA S)(a:α)(s:S):bE f [a] s=f s a:=by
 simp only[bE];cases f s a<;>rfl
theorem De{S α:Type}{f:S->α->dA S}{g:S->α->S}(h:∀s a,f s a=.go (g s a)):∀(l:List α)(s:S),bE f l s=.go (l.foldl g s)
 |[],s=>rfl
 |a::l,s=>by simp only[bE,h,UR];exact De h l _
theorem Ap{S α:Type}{f:S->α->dA S}{I:S->Prop}{A:α->Prop}(h:∀s a s',I s->A a->f s a=.go s'->I s'):∀(l:List α)(s s':S),(∀a∈l,A a)->I s->bE f l s=.go s'->I s'
 |[],s,s',_,hs,e=>by cases e;exact hs
 |a::l,s,s',ha,hs,e=>by
  simp only[bE]at e;cases hf:f s a with
  |go s1=>rw[hf]at e;exact Ap h l s1 s' (λb hb=>ha b (by simp[hb])) (h s a s1 hs (ha a (by simp)) hf) e
  |stop s1=>rw[hf]at e;cases e
  |bad s1=>rw[hf]at e;cases e
def cq (h:List Int):List Int:=h++TM (4-h.length) (h.getLastD 0)
def mN (x:ai)(bh:Nat):Nat->List Int->List (List Int)
 |0,pre=>if rP x (pre.length-1) (pre.getLastD 0)then[cq pre]else[]
 |d+1,pre=>if rP x (pre.length-1) (pre.getLastD 0)then(SZ (x.am.toNat+1)).flatMap λn:Nat=>if pre.length=1/\n≠bh then[]else mN x bh d (pre++[pre.getLastD 0+(n:Int)])else[]
def jA (x:ai)(bh:Nat):List (List Int):=mN x bh x.hours.toNat [x.first]
def lF (h:List Int)(y:aC)(n:Nat):Bool:=decide (h.getD 0 0+n<h.getD 3 0)&&kJ y.number (h.getD 0 0+n)&&kJ y.hour (gw h (h.getD 0 0+n))
def jo (p:Nat->Bool):Nat->Nat
 |0=>0
 |n+1=>if p n then jo p n|||2^n else jo p n
theorem Bm{p:Nat->Bool}:∀{n i:Nat},(jo p n).testBit i=(decide (i<n)&&p i)
 |0,i=>by simp[jo]
 |n+1,i=>by
  have ih:=Bm (p:=p) (n:=n) (i:=i);simp only[jo];by_cases hp:p n=true
  ·rw[if_pos hp,WM,ih,Vy];by_cases hi:n=i
   ·subst hi;simp[hp]
   ·have:(i<n+1)<->i<n:=(by omega);simp[hi,this]
  ·rw[if_neg hp,ih];by_cases hi:i=n
   ·subst hi;simp at hp;simp[hp]
   ·have:(i<n+1)<->i<n:=(by omega);simp[this]
theorem Bl{p:Nat->Bool}:∀{n:Nat},jo p n<2^n
 |0=>by simp[jo]
 |n+1=>by
  have ih:=Bl (p:=p) (n:=n);have h1:2^n<2^(n+1):=Xa (by omega) (by omega);simp only[jo];split
  ·exact WN (Wp ih h1) h1
  ·exact Wp ih h1
def bR (h:List Int)(y:aC):Nat:=jo (lF h y) 9
def kL:List Nat->Nat->List Nat->List (List Nat)
 |[],_,t=>[t]
 |q::qs,used,t=>(SZ 9).flatMap λn=>if used.testBit n|| !q.testBit n then[]else kL qs (used|||2^n) (t++[n])
def mv (k:Nat)(ns:List Nat):List Nat->Nat->List Nat->List (List Nat)
 |[],_,o=>[o]
 |q::qs,given,o=>(SZ k).flatMap λp=>if given.testBit p|| !q.testBit (ns.getD p 0)then[]else mv k ns qs (given|||2^p) (o++[p])
def kM (k:Nat)(l:List Nat):List Int:=l.map (λn:Nat=>(n:Int))++TM (k-l.length) (-1)
def dS (h:List Int)(ns:List Nat):List Int:=h++kM 4 ns++[-1, -1, -1]
def db (h:List Int)(ns os:List Nat):List Int:=h++kM 4 ns++kM 3 os
def fS (x:ai)(h:List Int):List (List Nat):=kL (x.pieces.map (bR h)) 0 []
def ie (x:ai)(h:List Int)(ns:List Nat):List (List Nat):=mv x.pieces.length ns (x.aB.map (bR h)) 0 []
def gG (x:ai)(deep:Int)(h:List Int):List (List Int):=
 let all:=(fS x h).map λns=>(ie x h ns).map λos=>db h ns os
 if deep=0 then all.flatten.take 1 else if deep=1 then(all.map (·.take 1)).flatten else all.flatten
end Go.Gg.Tk
namespace Go.Gg.Tk
structure Kn where
 has:Bool
 aL:List (List Int)
 ay:List Nat
 hours:List Nat
 less:List Nat
 aU:List Nat
 first:List Int
def Kn.zero:Kn:=⟨false,[],[0,0,0,0],[0,0,0,0],[0,0,0,0],[0,0,0],TM 11 0⟩
def oL (l:List Nat)(p n:Nat):List Nat:=l.set p (l.getD p 0|||2^n)
def jF (hs:List (List Int))(h:List Int):List (List Int):=if h∈hs then hs else hs++[h]
def iA (t:List Int)(p:Nat):Nat:=(t.getD (4+p) 0).toNat
def tG (t:List Int)(p:Nat):Nat:=(gw (t.take 4) (t.getD (4+p) 0+t.getD 0 0)).toNat
def rS (t:List Int)(s:Nat):Nat:=(t.getD (8+s) 0).toNat
def jO (F:Kn)(t:List Int):Kn:=if F.has then F else{F with has:=true,first:=t}
def mU (t:List Int):Nat->List Nat->List Nat
 |0,l=>l
 |s+1,l=>oL (mU t s l) s (rS t s)
def rL (t:List Int):Nat->List Nat->List Nat
 |0,l=>l
 |p+1,l=>oL (rL t p l) p (iA t p)
def rq (t:List Int):Nat->List Nat->List Nat
 |0,l=>l
 |p+1,l=>oL (rq t p l) p (tG t p)
def wj (t:List Int)(p:Nat):Nat->List Nat->List Nat
 |0,l=>l
 |q+1,l=>if t.getD (4+p) 0<t.getD (4+q) 0 then oL (wj t p q l) p q else wj t p q l
def x6 (t:List Int)(k:Nat):Nat->List Nat->List Nat
 |0,l=>l
 |p+1,l=>wj t p k (x6 t k p l)
def ep (x:ai)(deep:Int)(F:Kn)(t:List Int):Kn:=
 let F:=jO F t
 if deep=2 then{F with aU:=mU t x.aB.length F.aU}
 else if deep=0 then{F with aL:=jF F.aL (t.take 4)}
 else{F with ay:=rL t x.pieces.length F.ay,hours:=rq t x.pieces.length F.hours,less:=x6 t x.pieces.length x.pieces.length F.less}
def gH (x:ai)(deep:Int)(bh:Nat):Kn:=((jA x bh).flatMap (gG x deep)).foldl (ep x deep) Kn.zero
def ly (l m:List Nat):List Nat:=(List.zipWith (·|||·) l m)
end Go.Gg.Tk
namespace Go.Gg
open Go.Conc Go.Gg.Tk
theorem Hr{n:Nat}(h:n<65536):S7.wrap (n:Int)=n:=by
 have h1:S7.bits=16:=rfl;have h2:S7.signed=false:=rfl;unfold Xc;rw[h1,h2];simp;omega
theorem Br{n:Nat}(h:n<65536):(Ug S7.bits (n:Int)).toNat=n:=by
 have h1:S7.bits=16:=rfl;rw[h1,BitVec.ofInt_natCast,BitVec.toNat_ofNat];omega
theorem ajw{m n:Nat}(hm:m<65536):(S7.wrap (Ug S7.bits ((m:Int).fdiv (2^(min n S7.bits)))&&&Ug S7.bits 1).toNat==1)=m.testBit n:=by
 have h1:S7.bits=16:=rfl;have e:(m:Int).fdiv (2^(min n S7.bits))=((m/2^(min n 16):Nat):Int):=by
  rw[h1,Int.fdiv_eq_ediv_of_nonneg _ (by exact_mod_cast X_ _)];norm_cast
 have hlt:m/2^(min n 16)<65536:=Zk (Nat.div_le_self _ _) hm;rw[e,BitVec.toNat_and,Br hlt,show (Ug S7.bits 1).toNat=1 from rfl,Hr (Zk Nat.and_le_left hlt)];have hb:m/2^(min n 16)&&&1=(m/2^(min n 16)) % 2:=Nat.and_one_is_mod _;rw[hb];have ht:m.testBit n=decide (m/2^n % 2=1):=Nat.testBit_eq_decide_div_mod_eq;by_cases hn:n<=16
 ·rw[Wz hn,ht];by_cases h:m/2^n % 2=1
  ·simp[h]
  ·have:m/2^n % 2=0:=(by omega);simp[this]
 ·rw[Nat.min_eq_right (by omega)];have h0:m/2^16=0:=Nat.div_eq_of_lt (by omega);have h2:m.testBit n=false:=Nat.testBit_lt_two_pow (Te hm (by calc 65536=2^16:=rfl
   _<=2^n:=Wu (by omega) (by omega)))
  rw[h0,h2];rfl
theorem arQ{m n:Nat}(hm:m<65536)(hn:n<16):S7.wrap (Ug S7.bits (m:Int)|||Ug S7.bits (S7.wrap (1* 2^(min n S7.bits)))).toNat=((m|||2^n:Nat):Int):=by
 have h1:S7.bits=16:=rfl;have hp:2^n<65536:=by calc 2^n<2^16:=Xa (by omega) hn
  _=65536:=rfl
 have e:S7.wrap (1* 2^(min n S7.bits))=((2^n:Nat):Int):=by
  rw[h1,Wz (by omega),Int.one_mul,<- Hr hp];norm_cast
 rw[e,Zt,Br hm,Br hp];exact Hr (WN (n:=16) hm hp)
theorem GJ{m n:Nat}(hm:m<65536)(hn:n<65536):S7.wrap (Ug S7.bits (m:Int)|||Ug S7.bits (n:Int)).toNat=((m|||n:Nat):Int):=by
 rw[Zt,Br hm,Br hn];exact Hr (WN (n:=16) hm hn)
theorem pn{m n:Nat}(hm:m<65536)(hn:n<65536):m|||n<65536:=WN (n:=16) hm hn
theorem wE{n:Nat}(hn:n<16):2^n<65536:=by calc 2^n<2^16:=Xa (by omega) hn
  _=65536:=rfl
abbrev wv (m:Nat):AV:=.val (.int .u16 m)
def cW {S:Type}(Gf:S->List aa)(pv:AV)(k kp:AV->List aa->Prop)(M:List aa):dA S->Prop
 |.go s=>k (.val (.bool true)) (Gf s++M)
 |.stop s=>k (.val (.bool false)) (Gf s++M)
 |.bad s=>kp pv (Gf s++M)
def fV {S:Type}(Gf:S->List aa)(pv:AV)(k kp:AV->List aa->Prop)(M:List aa):dA S->Prop
 |.go s=>k (.aJ []) (Gf s++M)
 |.stop s=>k (.aJ []) (Gf s++M)
 |.bad s=>kp pv (Gf s++M)
structure jN (lv:Bool)(P:SJ)(yv:AV){S:Type}(f:S->List Int->dA S)(Gf:S->List aa)(N:Nat)(I:S->Prop)(A:List Int->Prop)(pv:AV):Prop where
 call:∀(σ:S)(a:List Int)(M:List aa)(k kp:AV->List aa->Prop),I σ->A a->cW Gf pv k kp M (f σ a)->iQ lv P yv (Gf σ++M) [.agg (a.map λn=> .val (.int .i64 n))] k kp
 inv:∀σ a σ',I σ->A a->f σ a=.go σ'->I σ'
 len:∀σ,(Gf σ).length=N
 ok:∀m σ σ',(∀z∈Gf σ,eV m z)->∀z∈Gf σ',eV m z
 sure:yv.sure=true
 parts:yv.parts=some [yv]
 leaf:yv.leaf=true
theorem jN.get{lv:Bool}{P:SJ}{yv:AV}{S:Type}{f:S->List Int->dA S}{Gf:S->List aa}{N:Nat}{I:S->Prop}{A:List Int->Prop}{pv:AV}(h:jN lv P yv f Gf N I A pv)(σ:S)(L:List aa)(i:Nat):(Gf σ++L)[N+i]?=L[i]?:=by
 rw[<- h.len σ,Th (by omega)];congr 1;omega
theorem jN.set{lv:Bool}{P:SJ}{yv:AV}{S:Type}{f:S->List Int->dA S}{Gf:S->List aa}{N:Nat}{I:S->Prop}{A:List Int->Prop}{pv:AV}(h:jN lv P yv f Gf N I A pv)(σ:S)(L:List aa)(i:Nat)(x:aa):(Gf σ++L).set (N+i) x=Gf σ++L.set i x:=by
 rw[<- h.len σ,UN _ _ (by omega)];congr 2;omega
theorem jN.az{lv:Bool}{P:SJ}{yv:AV}{S:Type}{f:S->List Int->dA S}{Gf:S->List aa}{N:Nat}{I:S->Prop}{A:List Int->Prop}{pv:AV}(h:jN lv P yv f Gf N I A pv){σ:S}{M:List aa}(hH:bP (Gf σ++M))(σ':S):bP (Gf σ'++M):=λz hz=>by
 have hl:(Gf σ'++M).length=(Gf σ++M).length:=by simp[h.len]
 rw[hl];rcases SS.1 hz with h'|h'
 ·exact h.ok _ σ σ' (λw hw=>hH w (Ti _ hw)) z h'
 ·exact hH z (S6 _ h')
def sh (l:Nat)(S:Nat->AS)(ok:Nat->Prop)(m:Nat)(Φ:an->AS->Prop):an->AS->Prop
 |.goto l',s=>l'=l/\∃m',m'<m/\ok m'/\s.Sub (S m')
 |e,s=>Φ e s
section
variable {lv:Bool}{P:SJ}{r:Option Nat}{s:AS}
end
theorem amF(l:Nat)(S:Nat->AS)(ok:Nat->Prop)(m:Nat)(Φ:an->AS->Prop)(s:AS):sh l S ok m Φ .normal s=Φ .normal s:=by rw[sh];simp
theorem amH(l:Nat)(S:Nat->AS)(ok:Nat->Prop)(m:Nat)(Φ:an->AS->Prop)(s:AS):sh l S ok m Φ .ret s=Φ .ret s:=by rw[sh];simp
theorem amE(l:Nat)(S:Nat->AS)(ok:Nat->Prop)(m:Nat)(Φ:an->AS->Prop)(i:Nat)(s:AS):sh l S ok m Φ (.exit i) s=Φ (.exit i) s:=by rw[sh];simp
theorem amG(l:Nat)(S:Nat->AS)(ok:Nat->Prop)(m:Nat)(Φ:an->AS->Prop)(a:AV)(s:AS):sh l S ok m Φ (.panic a) s=Φ (.panic a) s:=by rw[sh];simp
@[congr] theorem atu {l m : Nat} {S : Nat -> AS} {ok : Nat -> Prop} {s s' : AS} {Φ : an -> AS -> Prop} {e e' : an} (he : e = e') (h : s = s') : sh l S ok m Φ e s = sh l S ok m Φ e' s' := by rw [he, h]
attribute [seval] amF amH amE amG
open Go.Proofs
namespace Tk
def jk.l (b:jk):List AV:=[iv b.min,iv b.max]
def jk.av (b:jk):AV:=.agg b.l
def aC.l (y:aC):List AV:=[iv y.number.min,iv y.number.max,iv y.hour.min,iv y.hour.max]
def aC.av (y:aC):AV:=.agg y.l
def Seen.l (s:Seen):List AV:=[iv s.hour,iv s.next.min,iv s.next.max]
def Seen.av (s:Seen):AV:=.agg s.l
def ba (xs:List Int):AV:=.sl xs.length (xs.map iv) .shut
def yF (ls:List (List Int)):AV:=.sl ls.length (ls.map ba) .shut
def bp (xs:List aC):AV:=.sl xs.length (xs.flatMap aC.l) .shut
def dY (xs:List Seen):AV:=.sl xs.length (xs.flatMap Seen.l) .shut
def ai.l (x:ai):List AV:=[iv x.first,iv x.hours,iv x.am,dY x.seen,bp x.pieces,bp x.aB]
def ai.av (x:ai):AV:=.agg x.l
theorem aC.len(b:aC):b.l.length=4:=rfl
theorem Seen.len(b:Seen):b.l.length=3:=rfl
end Tk
section
variable {i:Nat}
theorem eJ{xs:List Int}{x:Int}(h:xs[i]?=some x):AV.shift i (.rp (xs.map iv))=some (.rp (iv x::(xs.drop (i+1)).map iv)):=by have:=acs (f:=iv) h;rwa [Ya]at this
theorem aco{xs:List (List Int)}{x:List Int}(h:xs[i]?=some x):AV.shift i (.rp (xs.map ba))=some (.rp (ba x::(xs.drop (i+1)).map ba)):=by have:=acs (f:=ba) h;rwa [Ya]at this
theorem G7{xs:List aC}{x:aC}(h:xs[i]?=some x):AV.shift (i* 4) (.rp (xs.flatMap aC.l))=some (.rp (iv x.number.min::iv x.number.max::iv x.hour.min::iv x.hour.max::(xs.drop (i+1)).flatMap aC.l)):=acr aC.len h
theorem acp{xs:List Seen}{x:Seen}(h:xs[i]?=some x):AV.shift (i* 3) (.rp (xs.flatMap Seen.l))=some (.rp (iv x.hour::iv x.next.min::iv x.next.max::(xs.drop (i+1)).flatMap Seen.l)):=acr Seen.len h
end
theorem x7(n:Nat)(xs:List Int):Lt n (ba xs)=True:=by simp[ba,tp,eI]
theorem aaQ(n:Nat)(xs:List (List Int)):Lt n (yF xs)=True:=by
 simp only[yF,tp,Td,eq_iff_iff,iff_true]
 rintro a ⟨b,_,rfl⟩
 rw[x7];trivial
theorem Gm(n:Nat)(xs:List aC):Lt n (bp xs)=True:=by
 simp only[bp,tp,S5,eq_iff_iff,iff_true]
 rintro a ⟨b,_,h⟩
 simp only[aC.l,SL,S4,or_false]at h;rcases h with rfl|rfl|rfl|rfl<;>exact .val _
theorem aaR(n:Nat)(xs:List Seen):Lt n (dY xs)=True:=by
 simp only[dY,tp,S5,eq_iff_iff,iff_true]
 rintro a ⟨b,_,h⟩
 simp only[Seen.l,SL,S4,or_false]at h;rcases h with rfl|rfl|rfl<;>exact .val _
theorem Ma(n:Nat)(x:ai):∀a∈x.l,Lt n a:=by
 intro a ha;simp only[ai.l,SL,S4,or_false]at ha;rcases ha with rfl|rfl|rfl|rfl|rfl|rfl
 ·exact .val _
 ·exact .val _
 ·exact .val _
 ·rw[aaR];trivial
 ·rw[Gm];trivial
 ·rw[Gm];trivial
theorem Gn(n:Nat)(x:ai):Lt n x.av=True:=by simp only[ai.av,tn,eq_iff_iff,iff_true];exact Ma n x
open Go.Conc Go.Proofs Go.Gg.Tk
namespace Tk
structure mB (h:List Int):Prop where
 len:h.length=4
 lo:∀a∈h,0<=a
 hi:∀a∈h,a<=1000
 span:h.getD 3 0<=h.getD 0 0+9
theorem mB.out{h:List Int}(k:mB h):∃a b c d,h=[a,b,c,d]/\(0<=a/\a<=1000)/\(0<=b/\b<=1000)/\(0<=c/\c<=1000)/\(0<=d/\d<=1000)/\d<=a+9:=by
 match h,k with
 |[a,b,c,d],k=>exact⟨a,b,c,d,rfl,⟨k.lo a (by simp),k.hi a (by simp)⟩,⟨k.lo b (by simp),k.hi b (by simp)⟩,⟨k.lo c (by simp),k.hi c (by simp)⟩,⟨k.lo d (by simp),k.hi d (by simp)⟩,by simpa using k.span⟩
theorem aiG{h:List Int}{y:aC}{n:Nat}(hn:(h.getD 3 0-h.getD 0 0).toNat<=n):lF h y n=false:=by
 unfold lF;rw[show decide (h.getD 0 0+(n:Int)<h.getD 3 0)=false from decide_eq_false (by omega)];rfl
theorem aiH{h:List Int}{y:aC}(hs:h.getD 3 0<=h.getD 0 0+9):bR h y=jo (lF h y) (h.getD 3 0-h.getD 0 0).toNat:=by
 apply Nat.eq_of_testBit_eq;intro i;unfold bR;rw[Bm,Bm];by_cases hi:i<(h.getD 3 0-h.getD 0 0).toNat
 ·have h9:i<9:=by omega
  rw[decide_eq_true hi,decide_eq_true h9]
 ·rw[aiG (by omega)];simp
theorem P8(h:List Int)(y:aC):bR h y<512:=Bl (n:=9)
end Tk
theorem vC{α:Type}{xs:List α}{i:Nat}{x:α}(h:xs[i]?=some x):xs.drop i=x::xs.drop (i+1):=by
 obtain⟨h1,h2⟩:=SM.1 h;rw[TW h1,h2]
section
variable {lv:Bool}{H:List aa}{k kp:AV->List aa->Prop}
theorem I9{b:jk}{n:Int}(hk:k (bv (kJ b n)) H):bf lv SC 88 H [b.av,iv n] k kp:=by
 refine bH (rs:=[.tmp 4]) (nt:=15) Tryz.f88 λhH hA=> ?_;simp only[br,SW,jk.av,jk.l];refine aj ?_;refine aj ?_;refine xg (λh=> ?_) (λh=> ?_)
 ·(try simp only[seval]);refine aZ ?_;exact lE hH (by simpa[kJ,h]using hk)
 ·(try simp only[seval]);refine aZ ?_;exact lE hH (by simpa[kJ,h]using hk)
theorem P0{h:List Int}{n:Int}(h4:h.length=4)(hk:k (iv (gw h n)) H):bf lv SC 90 H [.agg (h.map iv),iv n] k kp:=by
 refine bH (rs:=[.tmp 4]) (nt:=24) Tryz.f90 λhH hA=> ?_;simp only[br,SW];have pY:(h.map iv).length=4:=by simp[h4]
 refine aj ?_;refine aj ?_;refine cy ?_;refine pE 3 (λi:Nat=>[(6,iv i)]) (λ_=>_) (λi=>gw h n=ft i (h.drop i) n) rfl (λbU cS i cM hi R hR=> ?_);refine aj ?_;refine aD ?_;refine⟨λhc=> ?_,λhc=> ?_⟩
 ·
  have pU:i<3:=by omega
  obtain⟨a,ha⟩:=bX (xs:=h) (i:=i) (by omega);obtain⟨b,hb⟩:=bX (xs:=h) (i:=i+1) (by omega);have e4:(0<=(i:Int)/\(i:Int)<4)=True:=by simp;omega
  have Py:(0<=(i:Int)+1/\(i:Int)+1<4)=True:=by simp;omega
  have hw:SF.wrap ((i:Int)+1)=(i:Int)+1:=bG _ (by omega);have oZ:((i:Int)+1).toNat=i+1:=by omega
  have lr:ft i (h.drop i) n=if a<=n/\n<b then(i:Int)else ft (i+1) (h.drop (i+1)) n:=by
   rw[vC ha,vC hb];simp only[ft]
  refine aN ?_;refine aj ?_;refine ak ?_;simp only[seval,e4,Py,hw,oZ,kX ha,kX hb];refine xg (λh2=> ?_) (λh2=> ?_)
  ·(try simp only[seval,e4,Py,hw,oZ,kX ha,kX hb]);refine aD ?_;refine⟨λh3=> ?_,λh3=> ?_⟩
   ·refine aj ?_;refine aZ ?_;rw[hi,lr,if_pos ⟨of_decide_eq_true h2,h3⟩]at hk;exact lE hH hk
   ·refine aN ?_;refine ak ?_;simp only[seval,hw];refine hR _ ⟨by omega,?_,dq⟩;rw[hi,lr,if_neg (λq=>h3 q.2)]
  ·(try simp only[seval]);refine aD ?_;refine aN ?_;refine ak ?_;simp only[seval,hw];refine hR _ ⟨by omega,?_,dq⟩;rw[hi,lr,if_neg (λq=>by simp at h2;omega)]
 ·
  have:i=3:=by omega
  subst this;refine bZ ?_;refine aj ?_;refine aZ ?_;have hm:ft 3 (h.drop 3) n= -1:=by
   match h,h4 with
   |[a,b,c,d],_=>rfl
  rw[hi,hm]at hk;exact lE hH hk
theorem xc{m n:Nat}(hm:m<65536)(hk:k (bv (m.testBit n)) H):bf lv SC 67 H [wv m,iv n] k kp:=by
 refine bH (rs:=[.tmp 4]) (nt:=10) Tryz.f67 λhH hA=> ?_;simp only[br,SW];refine aj ?_;refine ak ?_;simp only[seval,Ba,aem];refine aZ ?_;refine bW ?_;rw[ajw hm];exact hk
theorem ub{m n:Nat}(hm:m<65536)(hn:n<16)(hk:k (wv (m|||2^n)) H):bf lv SC 68 H [wv m,iv n] k kp:=by
 refine bH (rs:=[.tmp 4]) (nt:=9) Tryz.f68 λhH hA=> ?_;simp only[br,SW];refine aj ?_;refine ak ?_;simp only[seval,aew,A'];refine aZ ?_;refine bW ?_;rw[arQ hm hn];exact hk
theorem EC{h:List Int}{y:aC}(hh:mB h)(hk:k (wv (bR h y)) H):bf lv SC 65 H [.agg (h.map iv),y.av] k kp:=by
 refine bH (rs:=[.tmp 4]) (nt:=34) Tryz.f65 λhH hA=> ?_;simp only[br,SW,aC.av,aC.l];obtain⟨a,b,c,d,rfl,ha,hb,hc,hd,hs⟩:=hh.out;have oQ:bR [a,b,c,d] y=jo (lF [a,b,c,d] y) (d-a).toNat:=aiH hs;have hz:wv (jo (lF [a,b,c,d] y) 0)=wv 0:=rfl;refine aj ?_;refine aj ?_;refine aj ?_;refine cy ?_;refine gL (d-a).toNat (λi:Nat=>[(6,iv (a+i)),(5,wv (jo (lF [a,b,c,d] y) i))]) (λ_=>_) (λi=>True) (λ_ _=>rfl) (by rw[hz];simp only[seval];simp[bz,Wk.refl];exact Wk.refl _) rfl (λ_ _ _=>rfl) trivial (λbU cS i cM hi R hR=> ?_);refine aj ?_;refine aD ?_;have cL:jo (lF [a,b,c,d] y) i<65536:=Te Bl (UB (Wu (by omega) (show i<=16 by omega)) (by decide));refine⟨λhc=> ?_,λhc=> ?_⟩
 ·
  have hlt:i<(d-a).toNat:=by omega
  have hw:SF.wrap (a+(i:Int)+1)=a+((i+1:Nat):Int):=by rw[bG _ (by omega)];push_cast;omega
  have g_:SF.wrap (a+(i:Int)-a)=(i:Int):=by rw[bG _ (by omega)];omega
  have E_:lF [a,b,c,d] y i=(kJ y.number (a+i)&&kJ y.hour (gw [a,b,c,d] (a+i))):=by
   unfold lF;rw[show decide ([a,b,c,d].getD 0 0+(i:Int)<[a,b,c,d].getD 3 0)=true from decide_eq_true (show a+(i:Int)<d by omega),Vb];rfl
  refine aN ?_;refine cy ?_;refine dT 12 ?_;simp only[seval];refine ii (bv (kJ y.number (a+i))) (cI (I9 (b:=y.number) ⟨rfl,rfl⟩)) ?_;(try simp only[seval]);refine xg (λh2=> ?_) (λh2=> ?_)
  ·(try simp only[seval]);refine ii (iv (gw [a,b,c,d] (a+i))) (cI (P0 (h:=[a,b,c,d]) rfl ⟨rfl,rfl⟩)) ?_;(try simp only[seval]);refine ii (bv (kJ y.hour (gw [a,b,c,d] (a+i)))) (cI (I9 (b:=y.hour) ⟨rfl,rfl⟩)) ?_;(try simp only[seval]);refine aD ?_;rw[h2,Vb]at E_;refine⟨λh3=> ?_,λh3=> ?_⟩
   ·refine ak ?_;simp only[seval,g_];refine aK ((ub cL (show i<16 by omega) ?_));(try simp only[seval]);refine ak ?_;simp only[seval,hw];refine hR _ ⟨by omega,trivial,?_⟩;rw[show jo (lF [a,b,c,d] y) (i+1)=jo (lF [a,b,c,d] y) i|||2^i from by rw[jo,E_,h3];rfl];exact dq
   ·refine aN ?_;refine ak ?_;simp only[seval,hw];refine hR _ ⟨by omega,trivial,?_⟩;rw[show jo (lF [a,b,c,d] y) (i+1)=jo (lF [a,b,c,d] y) i from by rw[jo,E_,h3];rfl];exact dq
  ·(try simp only[seval]);refine aD ?_;refine aN ?_;refine ak ?_;simp only[seval,hw];refine hR _ ⟨by omega,trivial,?_⟩;rw[show jo (lF [a,b,c,d] y) (i+1)=jo (lF [a,b,c,d] y) i from by rw[jo,E_,show kJ y.number (a+i)=false by simpa using h2];rfl];exact dq
 ·have:i=(d-a).toNat:=by omega
  subst this;refine bZ ?_;refine aj ?_;refine aZ ?_;rw[oQ]at hk;exact lE hH hk
end
open Go.Conc Go.Proofs Go.Gg.Tk
namespace Tk
structure u_ (b:jk)(hi:Int):Prop where
 min:0<=b.min
 le:b.min<=b.max
 max:b.max<=hi
structure HO (x:ai)(y:aC):Prop where
 number:u_ y.number 99
 hour:u_ y.hour (x.hours-1)
structure ai.Ok (x:ai):Prop where
 first:0<=x.first/\x.first<=90
 hours:1<=x.hours/\x.hours<=3
 am:1<=x.am/\x.am<=3
 yi:x.seen.length<=3
 c9:x.pieces.length<=4
 eK:x.aB.length<=3
 seen:∀s∈x.seen,(0<=s.hour/\s.hour<=x.hours)/\u_ s.next 99
 piece:∀y∈x.pieces,HO x y
 stub:∀y∈x.aB,HO x y
def tz (hour:Nat)(n:Int)(s:Seen):Bool:= !decide (s.hour=hour)||kJ s.next n
theorem ab2(x:ai)(hour:Nat)(n:Int):rP x hour n=x.seen.all (tz hour n):=rfl
end Tk
theorem fI{H L:List aa}{i:Nat}{x:aa}(h:H[i]?=some x):(H++L)[i]?=some x:=by rw[SX (SM.1 h).1];exact h
theorem aX(Hs L:List aa)(i:Nat):(Hs++L)[Hs.length+i]?=L[i]?:=by rw[Th (by omega)];congr 1;omega
theorem ec(Hs L:List aa)(i:Nat)(y:aa):(Hs++L).set (Hs.length+i) y=Hs++L.set i y:=by rw[UN _ _ (by omega)];congr 2;omega
section
variable {lv:Bool}{H:List aa}{k kp:AV->List aa->Prop}
theorem PZ{x:ai}{h:List Int}{hour ir ih:Nat}{n:Int}(hx:x.Ok)(h4:h.length=4)(hn:h[hour]?=some n)(hr:H[ir]?=some (.cells x.l 76))(hi:H[ih]?=some (.cells (h.map iv) 83))(hk:k (bv (rP x hour n)) H):bf lv SC 87 H [iv hour,.op ir 0,.op ih 0] k kp:=by
 refine bH (rs:=[.tmp 4]) (nt:=29) Tryz.f87 λhH hA=> ?_;simp only[br,SW];have oV:hour<4:=by have:=eR hn;omega
 have b4:(0<=(hour:Int)/\(hour:Int)<4)=True:=by simp;omega
 have hlen:=hx.yi;have xM:∀L:List aa,(H++L)[ir]?=some (.cells x.l 76):=λL=>fI hr;have cD:∀L:List aa,(H++L)[ih]?=some (.cells (h.map iv) 83):=λL=>fI hi;have bS:x.l=[iv x.first,iv x.hours,iv x.am,dY x.seen,bp x.pieces,bp x.aB]:=rfl;refine aj ?_;refine ak ?_;simp only[seval,hr,bS,dY];refine cy ?_;refine pE x.seen.length (λi:Nat=>[(11,iv i)]) (λ_=>H) (λi=>x.seen.all (tz hour n)=(x.seen.drop i).all (tz hour n)) rfl (λbU cS i cM hI R hR=> ?_);refine aj ?_;refine aD ?_;refine⟨λhc=> ?_,λhc=> ?_⟩
 ·
  have bB:i<x.seen.length:=by omega
  obtain⟨s,hs⟩:=bX bB;have lr:x.seen.all (tz hour n)=(tz hour n s&&(x.seen.drop (i+1)).all (tz hour n)):=by rw[hI,vC hs];rfl
  have hw:SF.wrap ((i:Int)+1)=((i+1:Nat):Int):=by rw[bG _ (by omega)];rfl
  refine aN ?_;refine ak ?_;simp only[seval,acp hs,jp bB];refine dT 13 ?_;simp only[seval,cD,b4,kX hn];refine xg (λh2=> ?_) (λh2=> ?_)
  ·(try simp only[seval,cD,b4,kX hn]);refine ii (bv (kJ s.next n)) (cI (I9 (b:=s.next) ⟨rfl,rfl⟩)) ?_;(try simp only[seval]);refine aD ?_;have hp:tz hour n s=kJ s.next n:=(by unfold tz;rw[decide_eq_true (show s.hour=(hour:Int) by simpa using h2)];rfl);rw[hp]at lr;refine⟨λh3=> ?_,λh3=> ?_⟩
   ·refine aj ?_;refine aZ ?_;rw[ab2,lr,h3]at hk;exact lE hH hk
   ·refine aN ?_;refine ak ?_;simp only[seval,hw];refine hR _ ⟨bB,?_,(abU bU)⟩;rw[lr,h3];rfl
  ·(try simp only[seval]);refine aD ?_;refine aN ?_;have hp:tz hour n s=true:=(by unfold tz;rw[decide_eq_false (show ¬s.hour=(hour:Int) by simpa using h2)];rfl);rw[hp]at lr;refine ak ?_;simp only[seval,hw];refine hR _ ⟨bB,?_,(abU bU)⟩;rw[lr];rfl
 ·
  have:i=x.seen.length:=by omega
  subst this;refine bZ ?_;refine aj ?_;refine aZ ?_;rw[ab2,hI,X5]at hk;exact bW hk
end
end Go.Gg
