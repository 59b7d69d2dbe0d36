/- A part of the proof. -/
import Derived.Test.YtkanpclgnhdbiaaGreatDoorTicketWiderCard0
import Derived.Test.YtkanpclgnhdbiaaGreatDoorProg
import Derived.KernelRfl
set_option linter.all false
set_option maxRecDepth 4000
set_option maxHeartbeats 4000000
open Array renaming all_eq_true_iff_forall_mem->UJ,ext'->VB,getD_eq_getD_getElem?->SH,getElem?_append_left->Ya,getElem?_eq_getElem->SJ,getElem?_eq_none->YA,getElem?_eq_some_iff->SR,getElem?_modify->Wd,getElem?_setIfInBounds_ne->SU,getElem?_setIfInBounds_self_of_lt->S_,getElem_mem->XU,mem_iff_getElem?->YE,mem_of_getElem?->W1,range->WG,replicate->TK,toList_map->VI
open BitVec renaming ofInt->Ui,toNat_or->Zn
open Bool renaming and_eq_true->Tg,eq_iff_iff->Vm,false_and->Xf,false_eq_true->TM,false_or->XT,not_eq_true'->TZ,not_true->ai',or_eq_true->X5,true_and->U_
open Classical renaming byContradiction->Tt
open ForInStep renaming yield->YX
open Go renaming Addr->U5,BinOp->VX,Call->Xp,CallKind->Xc,Code->T6,Deferred->UX,Event->Ur,Field->YU,Frame->Uc,FrameMode->U9,Func->ZQ,FuncId->TS,Goroutine->SG,IntKind->TY,Item->WS,Loop->aq_,LoopState->Z6,MapEntry->Wh,Oper->Tu,Operand->Ti,Program->SI,ResultVar->UO,TypeInfo->We,Value->SO,World->To
open Go.Act renaming put->X4
open Go.BinOp renaming eql->XH,neq->Wt
open Go.Call renaming operands->VN
open Go.CallKind renaming deferred->YM,early->U6,normal->Y6
open Go.Deferred renaming ofValue->U4
open Go.Frame renaming catches->ZR,round->W8
open Go.FrameMode renaming returning->Yr
open Go.GStep renaming after->T5
open Go.Instr renaming beginRound->XG,checkKey->Vb,endLoop->ZJ,endRound->W4,enterLoop->WV,findAsking->XF,findKey->VM,getLoop->WF,sameBits->Wy,takeDeferred->Y4
open Go.IntKind renaming bits->atL,i64->SD,signed->ats,u16->S5,u32->ah_,u64->Tx,wrap->Xa
open Go.LoopState renaming busy->ap'
open Go.Next renaming value->W3
open Go.Op renaming equal->Xo,equalIn->Vw,operands->Ts
open Go.Operand renaming tmp->as_
open Go.Proofs.Tryz renaming f77->XL,f97->asg,prog->SA
open Go.Region renaming binds->Yq,linearise->Y_,schedule->VJ,wanted->Th
open Go.Region.linearise renaming go->UH
open Go.Result.ok renaming inj->ao'
open Go.Sem renaming runT->VE,runT_eq->TA
open Go.Value renaming agg->TD,bool->W_,cells->Z4,chan->XO,int->SF,map->Zq,nilFunc->YS,slice->Us
open Go.stepG renaming exec->Ug
open Int renaming toNat_natCast->VO
open List renaming all_cons->ZM,all_eq_true->Tv,any_cons->YR,any_eq_true->UI,append_assoc->SC,append_nil->SN,cons_append->U1,contains_eq_mem->Uq,countP_le_length->Y2,drop_drop->aj',drop_eq_getElem_cons->TQ,drop_eq_nil_of_le->TW,drop_zero->Xy,ext_getElem?->Yo,filter_congr->Vj,filter_cons_of_neg->Yv,filter_cons_of_pos->Yu,foldl_cons->UY,forIn_cons->WY,getD_eq_getElem?_getD->SE,getElem?_append_left->SX,getElem?_append_right->S9,getElem?_cons_succ->UN,getElem?_eq_getElem->SY,getElem?_eq_none->Uv,getElem?_eq_some_iff->SL,getElem?_map->Tm,getElem?_set_ne->T8,getElem?_set_self->W7,getElem?_take->Uf,getLastD_cons->Zp,length_append->S4,length_drop->Ul,length_map->Tn,length_set->TC,length_singleton->T9,length_take->T4,mapM_cons->Ua,mapM_nil->UC,mapM_toArray->XZ,map_congr_left->Vz,map_cons->UW,map_drop->af_,map_map->XY,map_take->VU,mem_append->SS,mem_append_left->Tf,mem_append_right->S0,mem_cons->SK,mem_cons_of_mem->Tb,mem_cons_self->TB,mem_eraseDups->Y8,mem_filter->Uw,mem_filterMap->VT,mem_flatMap->S6,mem_map->Tl,mem_of_getElem?->Tc,mem_range->TP,mem_range'->XX,mem_toArray->TJ,nil_append->Uy,nodup_cons->VD,nodup_nil->WI,not_mem_nil->SZ,range->SV,range'->Ud,range'_append_1->Y7,range'_succ->VR,range_eq_range'->Vp,replicate->TF,replicate_succ->Ws,reverse_nil->XV,set_append_left->US,set_append_right->T_,set_eq_take_append_cons_drop->XM,singleton_append->Y1,take_append_drop->Vg,take_of_length_le->SP,take_succ_cons->VQ,take_zero->aj_
open Nat renaming add_mul->Vd,add_zero->UD,le_refl->SQ,le_trans->UL,lt_of_le_of_lt->Zf,lt_of_lt_of_le->Td,lt_trans->Wl,lt_trichotomy->XD,min_eq_left->Wv,mod_lt->ar_,mul_le_mul_right->Uh,mul_one->Yb,or_lt_two_pow->WH,pow_le_pow_right->Xm,pow_lt_pow_right->W9,reduceAdd->SW,sub_self->Ve,sub_zero->ZV,testBit_or->Xl,testBit_two_pow->VP,zero_add->Wp,zero_le->W2
open Option renaming bind_eq_some_iff->Te,getD_some->S7,map_eq_some_iff->Tp,map_some->UP,some->SM
open Option.some renaming injEq->Tj
open Std.Legacy.Range renaming forIn_eq_forIn_range'->Wu,size->Xs
namespace Go.Gg
open Go.Conc
structure Ie (k:AV->Prop):Type where
 n:Nat
structure Ic (X:Bool->Prop)(Z:Prop):Type where
 n:Nat
def QG (a:AV)(X:Bool->Prop)(Z:Prop)(_t:Ic X Z):Prop:=(∃b,a=.val (.bool b)/\X b)\/(a=.val undef/\Z)
theorem aoY(b:Bool)(X:Bool->Prop)(Z:Prop)(t:Ic X Z):QG (.val (.bool b)) X Z t=X b:=by
 unfold QG;refine propext ⟨λh=> ?_,λh=> .inl ⟨b,rfl,h⟩⟩;rcases h with⟨b',e,h⟩|⟨e,_⟩
 ·cases e;exact h
 ·cases e
theorem aoZ(X:Bool->Prop)(Z:Prop)(t:Ic X Z):QG (.val undef) X Z t=Z:=by
 unfold QG;refine propext ⟨λh=> ?_,λh=> .inr ⟨rfl,h⟩⟩;rcases h with⟨b',e,_⟩|⟨_,h⟩
 ·cases e
 ·exact h
def Oc (lv:Bool)(P:SI)(f:AV)(H:List aa)(aE:List AV)(k:AV->Prop)(_t:Ie k):Prop:=∃av,iT lv P f H aE (λb H'=>b=av/\H'=H) (λ_ _=>False)/\k av
def adL (lv:Bool)(P:SI)(f:AV)(name:String)(H:List aa)(aE:List AV)(k:AV->Prop)(_t:Ie k):Prop:=∃av,Ef lv P f name H aE (λb H'=>b=av/\H'=H) (λ_ _=>False)/\k av
theorem ik{lv:Bool}{P:SI}{f:AV}{H:List aa}{aE:List AV}{k:AV->Prop}{t:Ie k}(av:AV)(h:iT lv P f H aE (λb H'=>b=av/\H'=H) (λ_ _=>False))(hk:k av):Oc lv P f H aE k t:=⟨av,h,hk⟩
section
variable (lv:Bool)(P:SI)
def AQ (s:AS)(o:Tu)(k:AV->Prop):Prop:=match o.op with
 |.call c=>match c.callee with
  |.value x=>ap (s.ev x) λf=>ap (eW s c.args.toList) λaE=>Oc lv P f s.H aE k ⟨0⟩
  |.invoke x name=>ap (s.ev x) λf=>ap (eW s c.args.toList) λaE=>adL lv P f name s.H aE k ⟨0⟩
  |.builtin .append=>match c.args.toList,c.argTypes.toList with
   |[x,y],[t,t']=>ap (jz P t t') λ(_,sz,_)=>ap (s.ev x) λa=>ap (s.ev y) λb=>a.vr λn l e=>e=.exact/\ap (s.src sz b) λ(m,l')=>l.length=n* sz/\l'.length=m* sz/\n+m<=2^30/\k (.sl (n+m) (l++l') .shut)
   |_,_=>False
  |_=>lc P s o k
 |_=>lc P s o k
def mM (all:Array Tu):List Tu->AS->(AS->Prop)->Prop
 |[],s,K=>K s
 |o::rest,s,K=>match o.guard with
  |none=>AQ lv P s o λav=>mM all rest (s.put o.dst av) K
  |some (j,bT)=>ap ((all[j]?).bind (·.dst)) λd=>ap (look s.T d) λa=>QG a (λb=>qH b bT (AQ lv P ⟨(d,.val (.bool bT))::s.T,s.H⟩ o λav=>mM all rest ((⟨(d,.val (.bool bT))::s.T,s.H⟩:AS).put o.dst av) K) (mM all rest ((⟨(d,.val (.bool !bT))::s.T,s.H⟩:AS).put o.dst (.val undef)) K) ⟨0⟩) (mM all rest (s.put o.dst (.val undef)) K) ⟨0⟩
end
section
variable {lv:Bool}{P:SI}{r:Option Nat}{o:Tu}{s:AS}
theorem abR{a:Act}{E:Env}{V:View}{av:AV}{N:Act->View->Prop}{Q:Ex->Act->View->Prop}(h1:∀E' V' v,E.Le E'->V'.role=V.role->V'.deaf=V.deaf->Conc E' V' s.H->aq E' av v->N (a.put o.dst v) V'):
  (∀nx V',Nx lv P (gJ E V (λb H'=>b=av/\H'=s.H) (λ_ _=>False)) nx V'->mr lv P r o a N Q nx V')/\(∀v V',gJ E V (λb H'=>b=av/\H'=s.H) (λ_ _=>False) (.panic [{v,recovered:=false}]) V'->Q (.panic [{v,recovered:=false}]) a V'):=by
 have hv:∀v V',gJ E V (λb H'=>b=av/\H'=s.H) (λ_ _=>False) (.ret v) V'->N (a.put o.dst v) V':=λv V' ⟨b,E',H',hle,bW,eQ,bp,aY,e1,e2⟩=>by
  subst e1 e2;exact h1 E' V' v hle bW eQ aY bp
 have hp:∀ch V',gJ E V (λb H'=>b=av/\H'=s.H) (λ_ _=>False) (.panic ch) V'->Q (.panic ch) a V':=λch V' ⟨pv,v,E',H',eP,hle,bW,eQ,bp,aY,hk⟩=>hk.elim;refine⟨λnx V' hn=> ?_,λv V' h=>hp _ _ h⟩;cases nx with
 |value v=>exact hv _ _ hn
 |skip=>exact hv _ _ hn
 |enter f args=>
  refine Body.mono (R':=fun
   |.ret v,V'=>N (a.put o.dst v) V'
   |.panic ch,V'=>Q (.panic ch) a V') hn λot aS h=> ?_
  cases ot with
  |ret v=>exact hv _ _ h
  |panic ch=>exact hp _ _ h
 |round l f tmps aE b=>
  refine mO.mono (R':=fun
   |.ret v,V'=>N (a.put o.dst v) V'
   |.panic ch,V'=>Q (.panic ch) a V') hn λot aS h=> ?_
  cases ot with
  |ret v=>exact hv _ _ h
  |panic ch=>exact hp _ _ h
 |_=>exact hn.elim
theorem aor{c:Xp}{x y:Ti}{t t' elem:TypeId}{sz n m:Nat}{z:SO}{l l':List AV}{av:AV}(ho:o.op=.call c)(aX:c.callee=.builtin .append)(cJ:c.args=#[x,y]) (cM:c.argTypes=#[t,t']) (ht:jz P t t'=some (elem,sz,z))
  (hx:s.ev x=some (.sl n l .exact)) (hy:s.ev y=some av) (hs:s.src sz av=some (m,l')) (hl:l.length=n* sz) (eB:l'.length=m* sz) (hb:n+m<=2^30):dz lv P r o s (.sl (n+m) (l++l') .shut):=by
 intro E V a N Q hc aG bx hN;refine⟨bx,?_⟩;have dt:=aq.ev aG hx;have iI:=aq.ev aG hy;generalize j3:a.eval x=vx at dt;generalize rF:a.eval y=vy at iI;unfold execOp;rw[ho];dsimp only;unfold resolve;rw[aX];dsimp only;refine aA (au ?_);unfold invoke builtin;dsimp only;refine aA ?_;have nq:c.args.map a.eval=#[vx,vy]:=by rw[cJ];simp[j3,rF]
 rw[nq,cM];obtain⟨base,cap,rfl⟩:∃base cap,vx=.slice base n cap:=by
  cases dt with
  |sl b o cap f dP he q1 q2=>exact⟨_,_,rfl⟩
  |nil he=>exact⟨_,_,rfl⟩
 have gL:cap=n:=by
  cases dt with
  |sl b o cap f dP he q1 q2=>exact he
  |nil he=>rfl
 subst gL;have s_:(l++l').length=(cap+m)* sz:=by rw[S4,hl,eB,Vd]
 by_cases hm:m=0
 ·subst hm;have sT:l'=[]:=by simpa using eB
  subst sT;refine Hp hc ht iI hs eB (SQ _) ?_;refine au (hN E V _ (Env.Le.refl E) rfl rfl hc ?_);rw[UD,SN];exact gV _ _ _ _ _ dt
 ·refine Ho hc ht dt iI hs hl eB hb (by omega) λrr cs cap' hf bp hle aW=> ?_;obtain⟨aY,rl⟩:=hc.ac5 (el:=elem) hf aW hle;have uE:(cap+m)* sz<=cs.size:=by rw[aW];exact Uh _ hle
  refine aP.ghost (xo (f:=(0,0)) (cs:=cs) (el:=elem) (p:=(·<(cap+m)* sz)) (by simp[View.upd]) (λo _=>hf.2 o)) ?_;have p_:=DR (n:=s.H.length) (m:=s.H.length) (SQ _) (by simp[Env.tok,hc.n]) rl hc.n;refine au (hN _ _ _ p_ rfl rfl (aY.trim hc.ay) (IV (I:=(V.laid rr cs elem (·<(cap+m)* sz)).ah) (e:=.shut) (sz:=sz) (cs:=cs) rfl (bp.mono p_) s_ uE (λo h=>Gz (by simpa using h)) hle trivial))
theorem AQ.sound{k:AV->Prop}(h:AQ lv P s o k):∃av,dz lv P r o s av/\k av:=by
 unfold AQ at h;split at h
 ·rename_i c ho;split at h
  ·rename_i x aX;obtain⟨f,h1,hA⟩:=h.out;obtain⟨aE,h2,hB⟩:=hA.out;obtain⟨av,h3,h4⟩:=hB;refine⟨av,λE V a N Q hc aG bx hN=> ?_,h4⟩;have rD:=abR (lv:=lv) (P:=P) (r:=r) (o:=o) (Q:=Q) hN;refine⟨bx,?_⟩;unfold execOp;rw[ho];dsimp only;unfold resolve;rw[aX];dsimp only;have e:c.args.map a.eval=(c.args.toList.map a.eval).toArray:=(by apply VB;simp);rw[e];exact(h3 E V (a.eval x) _ hc (aq.ev aG h1) (zo aG h2)).mono (λnx V' h=>rD.1 nx V' h) (λv V' h=>rD.2 v V' h)
  ·rename_i x name aX;obtain⟨f,h1,hA⟩:=h.out;obtain⟨aE,h2,hB⟩:=hA.out;obtain⟨av,h3,h4⟩:=hB;refine⟨av,λE V a N Q hc aG bx hN=> ?_,h4⟩;have rD:=abR (lv:=lv) (P:=P) (r:=r) (o:=o) (Q:=Q) hN;refine⟨bx,?_⟩;unfold execOp;rw[ho];dsimp only;unfold resolve;rw[aX];dsimp only;refine aA (au ?_);have e:c.args.map a.eval=(c.args.toList.map a.eval).toArray:=(by apply VB;simp);rw[e];exact(h3 E V (a.eval x) _ hc (aq.ev aG h1) (zo aG h2)).mono (λnx V' h=>rD.1 nx V' h) (λv V' h=>rD.2 v V' h)
  ·rename_i aX;split at h
   ·rename_i x y t t' ha ht;obtain⟨⟨elem,sz,z⟩,h1,hA⟩:=h.out;obtain⟨a,h2,hB⟩:=hA.out;obtain⟨b,h3,hC⟩:=hB.out;obtain⟨n,l,e,e1,e0,hD⟩:=Ou hC;subst e1 e0;obtain⟨⟨m,l'⟩,h4,h5,h6,h7,h8⟩:=hD.out;exact⟨_,aor ho aX (mS ha) (rY ht) h1 h2 h3 h4 h5 h6 h7,h8⟩
   ·exact h.elim
  ·exact h.sound
 ·exact h.sound
end
section
variable {lv:Bool}{P:SI}{o:Tu}{T T':List (Nat×AV)}{H:List aa}{k:AV->Prop}
theorem BS:∀(l:List Ti),(∀x∈l,AS.ev ⟨T,H⟩ x=AS.ev ⟨T',H⟩ x)->eW ⟨T,H⟩ l=eW ⟨T',H⟩ l
 |[],_=>rfl
 |x::l,h=>by simp only[eW,h x (TB ..),BS l λy hy=>h y (Tb _ hy)]
theorem Jd:∀(l:List (Nat×Ti)),(∀x∈l,AS.ev ⟨T,H⟩ x.2=AS.ev ⟨T',H⟩ x.2)->jR ⟨T,H⟩ l=jR ⟨T',H⟩ l
 |[],_=>rfl
 |x::l,h=>by simp only[jR,h x (TB ..),Jd l λy hy=>h y (Tb _ hy)]
theorem mapM_congr:∀(l:List Ti),(∀x∈l,AS.ev ⟨T,H⟩ x=AS.ev ⟨T',H⟩ x)->l.mapM (AS.ev ⟨T,H⟩)=l.mapM (AS.ev ⟨T',H⟩)
 |[],_=>rfl
 |x::l,h=>by simp only[Ua,h x (TB ..),mapM_congr l λy hy=>h y (Tb _ hy)]
theorem IE(x:Option Ti)(h:∀y,x=some y->AS.ev ⟨T,H⟩ y=AS.ev ⟨T',H⟩ y):AS.iV ⟨T,H⟩ x=AS.iV ⟨T',H⟩ x:=by
 cases x with
 |none=>rfl
 |some y=>simp only[AS.iV,h y rfl]
theorem adU{op:VX}{t:TypeId}{y:Ti}{a:AV}(h:AS.ev ⟨T,H⟩ y=AS.ev ⟨T',H⟩ y):iE P ⟨T,H⟩ op t y a k=iE P ⟨T',H⟩ op t y a k:=by
 unfold iE;split<;>first|rfl|rw[h]
theorem lc.congr(h:∀x∈o.op.operands,AS.ev ⟨T,H⟩ x=AS.ev ⟨T',H⟩ x)(ha:lc P ⟨T,H⟩ o k):lc P ⟨T',H⟩ o k:=by
 unfold lc at ha⊢;generalize o.op=op at h ha⊢;cases op with
 |call c=>
  have cJ:∀x∈c.args,AS.ev ⟨T,H⟩ x=AS.ev ⟨T',H⟩ x:=λx hx=>h x (by simp[Ts,VN,hx]);dsimp only at ha⊢;split at ha
  ·obtain⟨x,h1,hA⟩:=ha.out;rw[h1,ap];obtain⟨t,h2,hB⟩:=hA.out;rw[h2,ap];rw[<- cJ x (W1 h1)];obtain⟨a,h3,hC⟩:=hB.out;rw[h3,ap];exact hC
  ·split at ha
   ·rename_i x y J9;have:=mS J9;rw[this]at cJ;rw[<- cJ x (by simp),<- cJ y (by simp)];exact ha
   ·exact ha.elim
  ·split at ha
   ·rename_i x y J9;have:=mS J9;rw[this]at cJ;rw[<- cJ x (by simp),<- cJ y (by simp)];exact ha
   ·exact ha.elim
  ·exact ha.elim
 |build t parts=>
  dsimp only at ha⊢;rw[<- Jd parts.toList λx hx=>h x.2 (by simp only[Ts,TJ,Tl];exact⟨x,hx,rfl⟩)];exact ha
 |buildSlice t n parts=>
  dsimp only at ha⊢;rw[<- Jd parts.toList λx hx=>h x.2 (by simp only[Ts,TJ,Tl];exact⟨x,hx,rfl⟩)];exact ha
 |makeFunc f first cQ=>
  dsimp only at ha⊢;rw[<- mapM_congr first.toList λx hx=>h x (by simp[Ts];exact .inl (by simpa using hx)),<- mapM_congr cQ.toList λx hx=>h x (by simp[Ts];exact .inr (by simpa using hx))];exact ha
 |slice t x lo hi mx=>
  dsimp only at ha⊢;rw[<- h x (by simp[Ts]),<- IE lo λy hy=>h y (by simp[Ts,hy]),<- IE hi λy hy=>h y (by simp[Ts,hy]),<- IE mx λy hy=>h y (by simp[Ts,hy])];exact ha
 |pick c a b=>dsimp only at ha⊢;rw[<- h c (by simp[Ts]),<- h a (by simp[Ts]),<- h b (by simp[Ts])];exact ha
 |binOp op t a b u=>
  dsimp only at ha⊢;rw[<- h a (by simp[Ts])];obtain⟨x,h1,hA⟩:=ha.out;rw[h1,ap];rw[<- adU (h b (by simp[Ts]))];exact hA
 |indexAddr t a b=>dsimp only at ha⊢;rw[<- h a (by simp[Ts]),<- h b (by simp[Ts])];exact ha
 |index t a b=>dsimp only at ha⊢;rw[<- h a (by simp[Ts]),<- h b (by simp[Ts])];exact ha
 |move x=>dsimp only at ha⊢;rw[<- h x (by simp[Ts])];exact ha
 |assign x=>dsimp only at ha⊢;rw[<- h x (by simp[Ts])];exact ha
 |unOp op t x=>cases op<;>dsimp only at ha⊢<;>first|exact ha.elim|(rw[<- h x (by simp[Ts])];exact ha)
 |convert a b x=>dsimp only at ha⊢;rw[<- h x (by simp[Ts])];exact ha
 |lookup t m x ok=>dsimp only at ha⊢;rw[<- h m (by simp[Ts]),<- h x (by simp[Ts])];exact ha
 |extract x i=>dsimp only at ha⊢;rw[<- h x (by simp[Ts])];exact ha
 |nilCheck x=>dsimp only at ha⊢;rw[<- h x (by simp[Ts])];exact ha
 |makeInterface t x=>dsimp only at ha⊢;rw[<- h x (by simp[Ts])];exact ha
 |typeAssert x a b c=>dsimp only at ha⊢;rw[<- h x (by simp[Ts])];exact ha
 |fieldAddr t x f=>dsimp only at ha⊢;rw[<- h x (by simp[Ts])];exact ha
 |field t x f=>dsimp only at ha⊢;rw[<- h x (by simp[Ts])];exact ha
 |load t x=>dsimp only at ha⊢;rw[<- h x (by simp[Ts])];exact ha
 |entry x=>dsimp only at ha⊢;rw[<- h x (by simp[Ts])];exact ha
 |_=>exact ha.elim
theorem aqm(sz:Nat)(a:AV):AS.src ⟨T,H⟩ sz a=AS.src ⟨T',H⟩ sz a:=by cases a<;>rfl
theorem AQ.congr(h:∀x∈o.op.operands,AS.ev ⟨T,H⟩ x=AS.ev ⟨T',H⟩ x)(ha:AQ lv P ⟨T,H⟩ o k):AQ lv P ⟨T',H⟩ o k:=by
 unfold AQ at ha⊢;split at ha
 ·rename_i c ho;have cJ:∀x∈c.args.toList,AS.ev ⟨T,H⟩ x=AS.ev ⟨T',H⟩ x:=λx hx=>h x (by rw[ho];simp[Ts,VN];exact .inr (by simpa using hx));split at ha
  ·rename_i x aX;rw[<- h x (by rw[ho];simp[Ts,VN,aX]),<- BS _ cJ];exact ha
  ·rename_i x name aX;rw[<- h x (by rw[ho];simp[Ts,VN,aX]),<- BS _ cJ];exact ha
  ·split at ha
   ·rename_i x y t t' hx ht;rw[hx]at cJ;rw[<- cJ x (by simp),<- cJ y (by simp)];simp only[aqm (T:=T) (T':=T')]at ha;exact ha
   ·exact ha.elim
  ·exact lc.congr h ha
 ·exact lc.congr h ha
end
def cW (ops:Array Tu)(j:Nat):Option Nat:=(ops[j]?).bind (·.dst)
inductive Reach (ops:Array Tu):Nat->Nat->Prop
 |I8 {i j:Nat} {o:Tu} (ho:ops[i]?=some o) (hj:j∈cN o):Reach ops i j
 |more {i k j:Nat} {o:Tu} (ho:ops[i]?=some o) (hk:k∈cN o) (h:Reach ops k j):Reach ops i j
def tZ (acc:List (List Nat))(o:Tu):List (List Nat):=acc++[(cN o++(cN o).flatMap λj=>acc.getD j []).eraseDups]
def IK (ops:Array Tu):List (List Nat):=ops.toList.foldl tZ []
theorem Pd(ops:Array Tu):∀(l:List Tu)(acc:List (List Nat))(i:Nat),acc.length=i->(∀k o,l[k]?=some o->ops[i+k]?=some o)->(∀a,a<acc.length->∀j∈acc.getD a [],Reach ops a j)->
  ∀a,∀j∈(l.foldl tZ acc).getD a [],Reach ops a j
 |[],acc,i,_,_,h,a,j,hj=>by
  simp only[List.foldl_nil]at hj;by_cases ha:a<acc.length
  ·exact h a ha j hj
  ·rw[SE,Uv (by omega)]at hj;simp at hj
 |o::l,acc,i,hi,ho,h,a,j,hj=>by
  rw[UY]at hj;refine Pd ops l (tZ acc o) (i+1) (by simp[tZ,hi]) (λk o' hk=>by have:=ho (k+1) o' (by simpa using hk);rwa [show i+(k+1)=i+1+k by omega]at this) (λa ha j hj=> ?_) a j hj;have FU:ops[i]?=some o:=by have:=ho 0 o rfl;simpa using this
  have ri:∀a,a<acc.length->(tZ acc o).getD a []=acc.getD a []:=λa ha=>by
   simp[tZ,SE,SX ha]
  by_cases fX:a<acc.length
  ·rw[ri a fX]at hj;exact h a fX j hj
  ·have hae:a=acc.length:=(by simp[tZ]at ha;omega);subst hae;have e:(tZ acc o).getD acc.length []=(cN o++(cN o).flatMap λj=>acc.getD j []).eraseDups:=by
    simp[tZ,SE]
   rw[e,Y8,SS]at hj;rw[hi];rcases hj with hj|hj
   ·exact .I8 FU hj
   ·obtain⟨k,hk,hj⟩:=S6.1 hj;have Cv:k<acc.length:=by
     apply Tt;intro hn;rw[SE,Uv (by omega)]at hj;simp at hj
    exact .more FU hk (h k Cv j hj)
def zi (nt p:Nat)(ops:Array Tu):Bool:=
 let cl:=IK ops;decide (p<=ops.size)&&
 (SV ops.size).all (λi=>match ops[i]?with
  |some o=>o.dst.all (·<nt)&& !l8 o.op&&(cN o).all (·<i)&&
   (if i<p then
    (SV i).all (λj=>match o.dst,cW ops j with
     |some d,some d'=>d !=d'
     |_,_=>true)&&
    (o.op.operands.toList.all λx=>match x with
     |.tmp t=>(SV p).all λj=>cW ops j !=some t||(cN o).contains j
     |_=>true)&&
    (match o.guard with
     |some (j,_)=>(cN o).contains j
     |none=>true)
   else(SV i).all λj=>(cl.getD i []).contains j)
  |none=>true)
structure yN (nt p:Nat)(ops:Array Tu):Prop where
 le:p<=ops.size
 dst:∀(i:Nat) o d,ops[i]?=some o->o.dst=some d->d<nt
 vC:∀(i:Nat) o,ops[i]?=some o->l8 o.op=false
 low:∀(i:Nat) o,ops[i]?=some o->∀j∈cN o,j<i
 dL:∀(i j:Nat) o d,j<i->i<p->ops[i]?=some o->o.dst=some d->cW ops j≠some d
 MI:∀(i:Nat) o t j,i<p->ops[i]?=some o-> .tmp t∈o.op.operands->j<p->cW ops j=some t->j∈cN o
 B5:∀(i:Nat) o j w,i<p->ops[i]?=some o->o.guard=some (j,w)->j∈cN o
 suf:∀(i j:Nat),p<=i->i<ops.size->j<i->Reach ops i j
theorem zi.out{nt p:Nat}{ops:Array Tu}(h:zi nt p ops=true):yN nt p ops:=by
 unfold zi at h;simp only[Tg,decide_eq_true_eq]at h;obtain⟨hle,h⟩:=h;have key:∀(i:Nat) o,ops[i]?=some o->(o.dst.all (·<nt)=true/\l8 o.op=false/\(∀j∈cN o,j<i))/\
   (if i<p then
    (SV i).all (λj=>match o.dst,cW ops j with
     |some d,some d'=>d !=d'
     |_,_=>true)&&
    (o.op.operands.toList.all λx=>match x with
     |.tmp t=>(SV p).all λj=>cW ops j !=some t||(cN o).contains j
     |_=>true)&&
    (match o.guard with
     |some (j,_)=>(cN o).contains j
     |none=>true)
   else(SV i).all λj=>((IK ops).getD i []).contains j)=true:=λi o ho=>by
  have hi:i<ops.size:=(SR.1 ho).1;have:=Tv.1 h i (by simpa using hi);rw[ho]at this;simp only[Tg,Tv,TZ,decide_eq_true_eq]at this;exact⟨⟨this.1.1.1,this.1.1.2,this.1.2⟩,by simpa only[Tg,Tv]using this.2⟩
 refine⟨hle,λi o d ho hd=> ?_,λi o ho=>(key i o ho).1.2.1,λi o ho=>(key i o ho).1.2.2,λi j o d hj hp ho hd e=> ?_,λi o t j hp ho ht hj e=> ?_,λi o j w hp ho hg=> ?_,λi j hp hi hj=> ?_⟩
 ·have:=(key i o ho).1.1;rw[hd]at this;simpa using this
 ·have:=(key i o ho).2;rw[if_pos hp]at this;simp only[Tg,Tv]at this;have:=this.1.1 j (by simpa using hj);rw[hd,e]at this;simp at this
 ·have:=(key i o ho).2;rw[if_pos hp]at this;simp only[Tg,Tv]at this;have:=this.1.2 (.tmp t) (by simpa using ht);simp only[Tv]at this;have:=this j (by simpa using hj);rw[e]at this;simpa using this
 ·have:=(key i o ho).2;rw[if_pos hp]at this;simp only[Tg]at this;have:=this.2;rw[hg]at this;simpa using this
 ·have:=(key i ops[i] (SJ hi)).2;rw[if_neg (by omega)]at this;simp only[Tv]at this;have:=this j (by simpa using hj);refine Pd ops ops.toList [] 0 rfl (λk o hk=>by simpa using hk) (by simp) i j ?_;simpa[IK]using this
theorem P7{α β:Type}{f g:α->Option β}:∀{l:List α},(∀x∈l,f x=g x)->l.filterMap f=l.filterMap g
 |[],_=>rfl
 |x::l,h=>by
  have ih:=P7 (l:=l) λy hy=>h y (Tb _ hy);simp only[List.filterMap_cons,h x (TB ..),ih]
def kF (ops:Array Tu)(f:Nat->AV)(o:Tu):List (Nat×AV):=(cN o).filterMap λj=>(cW ops j).map λd=>(d,f j)
def vc (lv:Bool)(P:SI)(r:Option Nat)(ops:Array Tu)(T0:List (Nat×AV))(H:List aa)(f:Nat->AV)(i:Nat)(o:Tu):Prop:=
 match o.guard with
 |none=>dz lv P r o ⟨kF ops f o++T0,H⟩ (f i)
 |some (j,bT)=>∃d,cW ops j=some d/\((∃b,look (kF ops f o++T0) d=some (.val (.bool b))/\(b=bT->dz lv P r o ⟨kF ops f o++T0,H⟩ (f i))/\(b= !bT->f i=.val undef))\/(look (kF ops f o++T0) d=some (.val undef)/\f i=.val undef))
theorem uS(l m:List (Nat×AV))(t:Nat):look (l++m) t=(look l t).or (look m t):=by
 induction l with
 |nil=>rfl
 |cons x l ih=>
  obtain⟨k,a⟩:=x;simp only[U1,look];split
  ·rfl
  ·exact ih
theorem ow{l:List (Nat×AV)}{t:Nat}{a:AV}(h:look l t=some a):(t,a)∈l:=by
 induction l with
 |nil=>cases h
 |cons x l ih=>
  obtain⟨k,b⟩:=x;simp only[look]at h;split at h
  ·rename_i e;subst e;cases h;exact TB ..
  ·exact Tb _ (ih h)
theorem Mr{l:List (Nat×AV)}{t:Nat}(h:∀p∈l,p.1≠t):look l t=none:=by
 induction l with
 |nil=>rfl
 |cons x l ih=>
  obtain⟨k,b⟩:=x;simp only[look];rw[if_neg (h _ (TB ..))];exact ih λp hp=>h p (Tb _ hp)
theorem amI{l:List (Nat×AV)}{q:Nat->Bool}{t:Nat}:look (l.filter λp=>q p.1) t=if q t then look l t else none:=by
 induction l with
 |nil=>simp[look]
 |cons x l ih=>
  obtain⟨k,b⟩:=x;by_cases hk:q k=true
  ·rw[Yu (by simpa using hk)];simp only[look];by_cases e:k=t
   ·subst e;simp[hk]
   ·simp[e,ih]
  ·rw[Yv (by simpa using hk),ih];simp only[look];by_cases e:k=t
   ·subst e;simp[hk]
   ·simp[e]
section
variable {ops:Array Tu}{f:Nat->AV}{p:Nat}
theorem amG{o:Tu}{j t:Nat}(hj:j∈cN o)(ht:cW ops j=some t)(xR:∀j'∈cN o,cW ops j'=some t->j'=j):look (kF ops f o) t=some (f j):=by
 cases e:look (kF ops f o) t with
 |none=>
  exfalso;have hm:(t,f j)∈kF ops f o:=VT.2 ⟨j,hj,by rw[ht];rfl⟩;have:∀(l:List (Nat×AV)),(t,f j)∈l->look l t≠none:=by
   intro l;induction l with
   |nil=>intro h;cases h
   |cons x l ih=>
    intro h;obtain⟨k,b⟩:=x;simp only[look];split
    ·simp
    ·rename_i aI;rcases SK.1 h with h|h
     ·cases h;exact absurd rfl aI
     ·exact ih h
  exact this _ hm e
 |some a=>
  obtain⟨j',iw,e'⟩:=VT.1 (ow e);obtain⟨d,hd,e'⟩:=Tp.1 e';cases e';rw[xR j' iw hd]
theorem amH{o:Tu}{t:Nat}(h:∀j∈cN o,cW ops j≠some t):look (kF ops f o) t=none:=by
 refine Mr λx hx e=> ?_;obtain⟨j,hj,e'⟩:=VT.1 hx;obtain⟨d,hd,e'⟩:=Tp.1 e';cases e';exact h j hj (by rw[hd];exact congrArg some e)
end
section
variable {lv:Bool}{P:SI}{r:Option Nat}{s:AS}{ops:Array Tu}{nt p:Nat}
def tV (s:AS)(ops:Array Tu)(p:Nat):List (Nat×AV):=s.T.filter λx=>(SV p).all λj=>cW ops j !=some x.1
theorem GH(t:Nat):look (tV s ops p) t=if(SV p).all (λj=>cW ops j !=some t)then look s.T t else none:=amI (q:=λt=>(SV p).all λj=>cW ops j !=some t)
structure oG (s:AS)(ops:Array Tu)(fs:List AV)(s':AS):Prop where
 H:s'.H=s.H
 new:∀j t,j<fs.length->cW ops j=some t->look s'.T t=fs[j]?
 old:∀t,(∀j,j<fs.length->cW ops j≠some t)->look s'.T t=look s.T t
theorem oG.put(ay:yN nt p ops){fs:List AV}{s':AS}(h:oG s ops fs s')(hp:fs.length<p){o:Tu}(ho:ops[fs.length]?=some o)(av:AV):oG s ops (fs++[av]) (s'.put o.dst av):=by
 have hd:cW ops fs.length=o.dst:=by simp[cW,ho]
 refine⟨by rw[eZ];exact h.H,λj t hj ht=> ?_,λt ht=> ?_⟩
 ·simp only[S4,T9]at hj;by_cases KO:j=fs.length
  ·subst KO;rw[hd]at ht;rw[ht];simp[AS.put,look]
  ·have iw:j<fs.length:=(by omega);rw[SX iw,<- h.new j t iw ht];cases sO:o.dst with
   |none=>rfl
   |some d=>
    have aI:d≠t:=λe=>ay.dL fs.length j o d iw hp ho sO (by rw[e];exact ht);simp[AS.put,look,aI]
 ·have hold:=h.old t λj hj=>ht j (by simp;omega);rw[<- hold];cases sO:o.dst with
  |none=>rfl
  |some d=>
   have aI:d≠t:=λe=>ht fs.length (by simp) (by rw[hd,sO,e]);simp[AS.put,look,aI]
theorem oG.rL{fs:List AV}{s':AS}(h:oG s ops fs s'){d:Nat}{a:AV}(hd:look s'.T d=some a):oG s ops fs ⟨(d,a)::s'.T,s'.H⟩:=by
 have e:∀t,look ((d,a)::s'.T) t=look s'.T t:=λt=>by
  simp only[look];split
  ·rename_i e;subst e;exact hd.symm
  ·rfl
 exact⟨h.H,λj t hj ht=>by rw[e];exact h.new j t hj ht,λt ht=>by rw[e];exact h.old t ht⟩
theorem oG.seen(ay:yN nt p ops){fs gs:List AV}{s':AS}(h:oG s ops fs s')(hp:fs.length<p){o:Tu}(ho:ops[fs.length]?=some o){t:Nat}(ht:∀j,j<p->cW ops j=some t->j∈cN o):
  look (kF ops (λj=>(fs++gs).getD j (.val undef)) o++tV s ops p) t=look s'.T t:=by
 have h_:=ay.low fs.length o ho;have aln:∀j j',j<p->j'<p->cW ops j=some t->cW ops j'=some t->j'=j:=λj j' hj iw e e'=>by
  have get:∀i,i<p->∃o,ops[i]?=some o:=λi hi=>⟨_,SJ (Td hi ay.le)⟩;rcases XD j j' with hlt|hlt|hlt
  ·obtain⟨o',bf⟩:=get j' iw;exact absurd e (ay.dL j' j o' t hlt iw bf (by simpa[cW,bf]using e'))
  ·exact hlt.symm
  ·obtain⟨o',bf⟩:=get j hj;exact absurd e' (ay.dL j j' o' t hlt hj bf (by simpa[cW,bf]using e))
 rw[uS];by_cases hex:∃j,j<p/\cW ops j=some t
 ·obtain⟨j,hj,vZ⟩:=hex;have jq:=ht j hj vZ;have eX:=h_ j jq;rw[amG jq vZ λj' iw e=>aln j j' hj (Wl (h_ j' iw) hp) vZ e];rw[h.new j t eX vZ];simp[SE,SX eX,SY eX]
 ·have fi:∀j,j<p->cW ops j≠some t:=λj hj e=>hex ⟨j,hj,e⟩;rw[amH λj hj=>fi j (Wl (h_ j hj) hp),Option.none_or,GH,if_pos (by simp only[Tv];intro j hj;simpa using fi j (by simpa using hj))];exact(h.old t λj hj=>fi j (by omega)).symm
theorem Hg(ay:yN nt p ops){K:AS->Prop}:∀(n:Nat)(fs:List AV)(s':AS),fs.length+n=p->oG s ops fs s'->mM lv P ops ((ops.toList.take p).drop fs.length) s' K->
  ∃gs,(fs++gs).length=p/\(∀i o,fs.length<=i->i<p->ops[i]?=some o->vc lv P r ops (tV s ops p) s.H (λj=>(fs++gs).getD j (.val undef)) i o)/\∃dh,oG s ops (fs++gs) dh/\K dh
 |0,fs,s',hn,hr,h=>by
  have:(ops.toList.take p).drop fs.length=[]:=by
   apply TW;simp;omega
  rw[this]at h;exact⟨[],by simp;omega,λi o h1 h2=>absurd h2 (by omega),s',by simpa using hr,h⟩
 |n+1,fs,s',hn,hr,h=>by
  have hp:fs.length<p:=by omega
  have aW:fs.length<ops.size:=Td hp ay.le;have ho:ops[fs.length]?=some ops[fs.length]:=SJ aW;generalize K6:ops[fs.length]=o at ho;have hd:(ops.toList.take p).drop fs.length=o::(ops.toList.take p).drop (fs.length+1):=by
   rw[TQ (by simp;omega)];simp[K6]
  rw[hd]at h;have akF:∀t,as_ t∈o.op.operands->∀j,j<p->cW ops j=some t->j∈cN o:=λt ht j hj e=>ay.MI fs.length o t j hp ho ht hj e;have cg:∀(s1:AS)(gs:List AV),oG s ops fs s1->∀x∈o.op.operands,AS.ev s1 x=AS.ev ⟨kF ops (λj=>(fs++gs).getD j (.val undef)) o++tV s ops p,s.H⟩ x:=λs1 gs CH x hx=>by
   cases x with
   |tmp t=>exact(CH.seen ay hp ho (akF t hx)).symm
   |_=>rfl
  have go:∀(s1:AS),oG s ops fs s1->(AQ lv P s1 o λav=>mM lv P ops ((ops.toList.take p).drop (fs.length+1)) (s1.put o.dst av) K)->
    ∃av gs,(fs++av::gs).length=p/\dz lv P r o ⟨kF ops (λj=>(fs++av::gs).getD j (.val undef)) o++tV s ops p,s.H⟩ av/\(∀i o,fs.length+1<=i->i<p->ops[i]?=some o->vc lv P r ops (tV s ops p) s.H (λj=>(fs++av::gs).getD j (.val undef)) i o)/\∃dh,oG s ops (fs++av::gs) dh/\K dh:=λs1 CH h1=>by
   obtain⟨av0,_,_⟩:=h1.sound (r:=r);have dE:s1=⟨s1.T,s.H⟩:=(by rw[<- CH.H]);rw[dE]at h1;have h2:=AQ.congr (T':=kF ops (λj=>(fs++[]).getD j (.val undef)) o++tV s ops p) (λx hx=>by rw[<- dE];exact cg s1 [] CH x hx) h1;obtain⟨av,hq,h3⟩:=h2.sound (r:=r);obtain⟨gs,g1,g2,dh,g3,g4⟩:=Hg ay n (fs++[av]) (s1.put o.dst av) (by simp;omega) (CH.put ay hp ho av) (by rw[<- dE]at h3;simpa using h3);have e:fs++[av]++gs=fs++av::gs:=(by simp);rw[e]at g1 g2 g3;refine⟨av,gs,g1,?_,λi o hi=>g2 i o (by simpa using hi),dh,g3,g4⟩;have ed:kF ops (λj=>(fs++av::gs).getD j (.val undef)) o=kF ops (λj=>(fs++[]).getD j (.val undef)) o:=by
    unfold kF;apply P7;intro j hj;have eX:=ay.low fs.length o ho j hj;simp[SE,SX eX]
   rw[ed];exact hq
  simp only[mM]at h;split at h
  ·rename_i hg;obtain⟨av,gs,g1,g2,g3,g4⟩:=go s' hr h;refine⟨av::gs,g1,λi o' hi oi bf=> ?_,g4⟩;by_cases du:i=fs.length
   ·subst du;rw[ho]at bf;cases bf;unfold vc;rw[hg];simpa[SE]using g2
   ·exact g3 i o' (by omega) oi bf
  ·rename_i j bT hg;obtain⟨d,fY,hA⟩:=h.out;obtain⟨a,eY,hB⟩:=hA.out;have jq:=ay.B5 fs.length o j bT hp ho hg;have eX:=ay.low fs.length o ho j jq;have Lm:∀gs,look (kF ops (λj=>(fs++gs).getD j (.val undef)) o++tV s ops p) d=some a:=λgs=>by
    rw[hr.seen ay hp ho λj' iw e=> ?_]
    ·exact eY
    ·have get:∀i,i<p->∃o,ops[i]?=some o:=λi hi=>⟨_,SJ (Td hi ay.le)⟩;rcases XD j j' with hlt|hlt|hlt
     ·obtain⟨o',bf⟩:=get j' iw;exact absurd fY (ay.dL j' j o' d hlt iw bf (by simpa[cW,bf]using e))
     ·rw[<- hlt];exact jq
     ·obtain⟨o',bf⟩:=get j (by omega);exact absurd e (ay.dL j j' o' d hlt (by omega) bf (by simpa[cW,bf]using fY))
   rcases hB with⟨b,e1,hC,hD⟩|⟨e1,hZ⟩
   rotate_left
   ·subst e1;obtain⟨gs,g1,g2,dh,g3,g4⟩:=Hg ay n (fs++[.val undef]) _ (by simp;omega) (hr.put ay hp ho (.val undef)) (by simpa using hZ);have e:fs++[.val undef]++gs=fs++ .val undef::gs:=(by simp);rw[e]at g1 g2 g3;refine⟨.val undef::gs,g1,λi o' hi oi bf=> ?_,dh,g3,g4⟩;by_cases du:i=fs.length
    ·subst du;rw[ho]at bf;cases bf;unfold vc;rw[hg];exact⟨d,fY,.inr ⟨Lm _,by simp[SE]⟩⟩
    ·exact g2 i o' (by simp;omega) oi bf
   subst e1;by_cases hb:b=bT
   ·subst hb;obtain⟨av,gs,g1,g2,g3,g4⟩:=go _ (hr.rL eY) (hC rfl);refine⟨av::gs,g1,λi o' hi oi bf=> ?_,g4⟩;by_cases du:i=fs.length
    ·subst du;rw[ho]at bf;cases bf;unfold vc;rw[hg];refine⟨d,fY,.inl ⟨b,Lm _,λ_=>by simpa[SE]using g2,λe=>by cases b<;>cases e⟩⟩
    ·exact g3 i o' (by omega) oi bf
   ·have dD:b= !bT:=(by cases b<;>cases bT<;>simp_all);subst dD;have h3:=hD rfl;obtain⟨gs,g1,g2,dh,g3,g4⟩:=Hg ay n (fs++[.val undef]) _ (by simp;omega) ((hr.rL eY).put ay hp ho (.val undef)) (by simpa using h3);have e:fs++[.val undef]++gs=fs++ .val undef::gs:=(by simp);rw[e]at g1 g2 g3;refine⟨.val undef::gs,g1,λi o' hi oi bf=> ?_,dh,g3,g4⟩;by_cases du:i=fs.length
    ·subst du;rw[ho]at bf;cases bf;unfold vc;rw[hg];exact⟨d,fY,.inl ⟨!bT,Lm _,λe=>absurd e hb,λ_=>by simp[SE]⟩⟩
    ·exact g2 i o' (by simp;omega) oi bf
structure H9 (E:Env)(V:View)(ops:Array Tu)(T0:List (Nat×AV))(H:List aa)(f:Nat->AV)(X:List Nat)(a:Act)(nt:Nat):Prop where
 bt:Conc E V H
 base:bZ E T0 a.tmps
 done:∀i∈X,∀d,cW ops i=some d->aq E (f i) (a.tmps.getD d undef)
 size:a.tmps.size=nt
theorem AD{X:List Nat}(hX:∀i∈X,∀o,ops[i]?=some o->∀j∈cN o,j∈X){i j:Nat}(h:Reach ops i j):((∀o,ops[i]?=some o->∀k∈cN o,k∈X))->j∈X:=by
 induction h with
 |I8 ho hj=>intro hd;exact hd _ ho _ hj
 |more ho hk _ ih=>intro hd;exact ih (hX _ (hd _ ho _ hk))
theorem apK(ay:yN nt p ops){X l:List Nat}(hs:lQ ops X l):∀q,p<=q->q<=ops.size->(∀i,i∈X<->i<q)->(∀i∈X,∀o,ops[i]?=some o->∀j∈cN o,j∈X)->l=Ud q (ops.size-q):=by
 induction hs with
 |nil X h=>
  intro q hp hq hX _;have:ops.size<=q:=by
   apply Tt;intro hn;have:=(hX q).1 (h q (by omega));omega
  have:ops.size-q=0:=by omega
  rw[this];rfl
 |cons o ho hn hd _ ih=>
  rename_i X i l _;intro q hp hq hX hc;have hi:i<ops.size:=(SR.1 ho).1;have hiq:q<=i:=by
   apply Tt;intro h;exact hn ((hX i).2 (by omega))
  have hqi:i=q:=by
   apply Tt;intro aI;have:=AD hc (ay.suf i q (by omega) hi (by omega)) (λo' bf k hk=>by rw[ho]at bf;cases bf;exact hd k hk);have:=(hX q).1 this;omega
  subst hqi;have e:ops.size-i=(ops.size-(i+1))+1:=by omega
  rw[e,VR];congr 1;refine ih (i+1) (by omega) (by omega) (λk=> ?_) (λk hk o' bf j hj=> ?_)
  ·simp only[SK,hX];omega
  ·rcases SK.1 hk with rfl|hk
   ·rw[ho]at bf;cases bf;exact Tb _ (hd j hj)
   ·exact Tb _ (hc k hk o' bf j hj)
theorem agJ{T0:List (Nat×AV)}{H:List aa}{f:Nat->AV}(ay:yN nt p ops)(ajy:∀j,j<p->∀d,cW ops j=some d->look T0 d=none)(az:∀(i:Nat) o,i<p->ops[i]?=some o->vc lv P r ops T0 H f i o){X l:List Nat}(hs:lQ ops X l):
  (∀i∈X,i<p)->(∀i∈X,∀o,ops[i]?=some o->∀j∈cN o,j∈X)->∀(E:Env)(V:View)(a:Act)(Q:Ex->Act->View->Prop),H9 E V ops T0 H f X a nt->
   (∀E' V' a' X',Kept E E' V V' a a'->H9 E' V' ops T0 H f X' a' nt->(∀i,i<p->i∈X')->dj lv P r ops Q (Ud p (ops.size-p)) a' V')->dj lv P r ops Q l a V:=by
 have full:∀X:List Nat,(∀i∈X,i<p)->(∀i,i<p->i∈X)->∀i,i∈X<->i<p:=λX h1 h2 i=>⟨h1 i,h2 i⟩;induction hs with
 |nil X h=>
  intro hX hc E V a Q ai hQ;have ie:p=ops.size:=by
   apply Tt;intro aI;have:=hX p (h p (by have:=ay.le;omega));omega
  have:=hQ E V a X (Kept.refl E V a) ai (λi hi=>h i (by omega));rw[ie,Ve]at this;exact this
 |cons o ho hn hd lA ih=>
  rename_i X i l;intro hX hc E V a Q ai hQ;have hi:i<ops.size:=(SR.1 ho).1;by_cases oi:i<p
  ·simp only[dj,ho];have oc:∀k∈i::X,k<p:=λk hk=>(SK.1 hk).elim (λe=>by rw[e];exact oi) (hX k);have aY:∀k∈i::X,∀o',ops[k]?=some o'->∀j∈cN o',j∈i::X:=λk hk o' bf j hj=>by
    rcases SK.1 hk with rfl|hk
    ·rw[ho]at bf;cases bf;exact Tb _ (hd j hj)
    ·exact Tb _ (hc k hk o' bf j hj)
   have tok:bZ E (kF ops f o++T0) a.tmps:=by
    intro t av e;rw[uS]at e;cases hl:look (kF ops f o) t with
    |none=>rw[hl]at e;exact ai.base t av e
    |some x=>
     rw[hl]at e;cases e;obtain⟨j,hj,e⟩:=VT.1 (ow hl);obtain⟨d,cu,e⟩:=Tp.1 e;cases e;obtain⟨oj,ku,iZ⟩:=Te.1 cu;exact⟨by rw[ai.size];exact ay.dst j oj _ ku iZ,ai.done j (hd j hj) _ cu⟩
   have sO:cW ops i=o.dst:=(by simp[cW,ho]);have put:∀{E' V'}(v:SO),E.Le E'->Conc E' V' H->aq E' (f i) v->H9 E' V' ops T0 H f (i::X) (a.put o.dst v) nt:=λ{E' V'} v hle cL hv=>by
    cases dn:o.dst with
    |none=>
     refine⟨cL,ai.base.mono hle,λk hk d eg=> ?_,ai.size⟩;rcases SK.1 hk with rfl|hk
     ·rw[sO,dn]at eg;cases eg
     ·exact(ai.done k hk d eg).mono hle
    |some d0=>
     have hlt:d0<a.tmps.size:=(by rw[ai.size];exact ay.dst i o d0 ho dn);refine⟨cL,λt av e=> ?_,λk hk d eg=> ?_,by simp[X4,ai.size]⟩
     ·have aI:d0≠t:=λe'=>(by rw[<- e',ajy i oi d0 (by rw[sO,dn])]at e;cases e);have:=ai.base.mono hle t av e;exact⟨by simpa[X4]using this.1,by simpa[X4,SH,SU aI]using this.2⟩
     ·by_cases rk:k=i
      ·subst rk;rw[sO,dn]at eg;cases eg;simpa[X4,SH,S_ hlt]using hv
      ·have aJ:k∈X:=(SK.1 hk).resolve_left rk;have aI:d0≠d:=λe'=>by
        subst e';have RI:=hX k aJ;have get:∀i,i<p->∃o,ops[i]?=some o:=λi hi=>⟨_,SJ (Td hi ay.le)⟩;rcases XD k i with hlt|hlt|hlt
        ·exact ay.dL i k o d0 hlt oi ho dn eg
        ·exact rk hlt
        ·obtain⟨o',bf⟩:=get k RI;exact ay.dL k i o' d0 hlt RI bf (by simpa[cW,bf]using eg) (by rw[sO,dn])
       have:=(ai.done k aJ d eg).mono hle;simpa[X4,SH,SU aI]using this
   have go:dz lv P r o ⟨kF ops f o++T0,H⟩ (f i)->wS lv P r o a V (dj lv P r ops Q l) Q:=λhq=>
    hq E V a _ Q ai.bt tok (.inr (ay.vC i o ho)) λE' V' v hle bW eQ cL hv=>
     ih oc aY E' V' (a.put o.dst v) Q (put v hle cL hv) λbO aS b8 mu hk de fx=>
      hQ bO aS b8 mu ⟨hle.trans hk.le,hk.size.trans (dU _ _ _),hk.defers.trans (put_defers _ _ _),hk.role.trans bW,hk.deaf.trans eQ⟩ de fx
   have zO:=az i o oi ho;unfold vc at zO;split at zO
   ·rename_i Cs;have hw:Th o (yielded ops a.tmps)=true:=(by unfold Th;rw[Cs]);rw[if_pos hw];exact .inl (go zO)
   ·rename_i j bT Cs;obtain⟨d,fY,zO⟩:=zO;rcases zO with⟨b,bM,h1,h2⟩|⟨bM,hu⟩
    rotate_left
    ·obtain⟨hlt,hv⟩:=tok d _ bM;have hy:yielded ops a.tmps j≠some bT:=by
      obtain⟨oj,ku,iZ⟩:=Te.1 fY;generalize hx:a.tmps.getD d undef=x at hv;cases hv;rw[SH,SJ hlt]at hx;simp only[S7]at hx;simp[yielded,ku,iZ,SJ hlt,hx,undef]
     have hw:¬Th o (yielded ops a.tmps)=true:=by
      unfold Th;rw[Cs];intro h;exact hy (by simpa using h)
     rw[if_neg hw];exact ih oc aY E V (a.put o.dst undef) Q (put undef (Env.Le.refl E) ai.bt (by rw[hu];exact .val _)) λbO aS b8 mu hk de fx=>
      hQ bO aS b8 mu ⟨hk.le,hk.size.trans (dU _ _ _),hk.defers.trans (put_defers _ _ _),hk.role,hk.deaf⟩ de fx
    obtain⟨hlt,hv⟩:=tok d _ bM;have hy:yielded ops a.tmps j=some b:=by
     obtain⟨oj,ku,iZ⟩:=Te.1 fY;generalize hx:a.tmps.getD d undef=x at hv;cases hv;rw[SH,SJ hlt]at hx;simp only[S7]at hx;simp[yielded,ku,iZ,SJ hlt,hx]
    by_cases hb:b=bT
    ·have hw:Th o (yielded ops a.tmps)=true:=(by unfold Th;rw[Cs];simp[hy,hb]);rw[if_pos hw];exact .inl (go (h1 hb))
    ·have hw:¬Th o (yielded ops a.tmps)=true:=(by unfold Th;rw[Cs];simp[hy,hb]);rw[if_neg hw];have hu:=h2 (by cases b<;>cases bT<;>simp_all);exact ih oc aY E V (a.put o.dst undef) Q (put undef (Env.Le.refl E) ai.bt (by rw[hu];exact .val _)) λbO aS b8 mu hk de fx=>
      hQ bO aS b8 mu ⟨hk.le,hk.size.trans (dU _ _ _),hk.defers.trans (put_defers _ _ _),hk.role,hk.deaf⟩ de fx
  ·have fx:∀k,k<p->k∈X:=λk hk=>AD hc (ay.suf i k (by omega) hi (by omega)) (λo' bf j hj=>by rw[ho]at bf;cases bf;exact hd j hj);have hl:=apK ay (.cons o ho hn hd lA) p (SQ _) ay.le (full X hX fx) hc;rw[hl];exact hQ E V a X (Kept.refl E V a) ai fx
theorem aff{id:Nat}{Φ:ao->AS->Prop}(hm:P.follows .mixedOrders=true)(p:Nat)(ay:zi nt p ops=true)(h:mM lv P ops (ops.toList.take p) s (λs'=>im lv P ops (ops.toList.drop p) s' (Φ .normal) (λpv s=>Φ (.panic pv) s))):aQ lv P r nt (.region id ops true) s Φ:=by
 intro E V a Q ai hQ;have ay:=zi.out ay;obtain⟨gs,g1,g2,dh,g3,g4⟩:=Hg (lv:=lv) (r:=r) ay p [] s (by simp) ⟨rfl,by simp,by simp⟩ (by simpa using h);simp only[Uy]at g1 g2 g3;refine NU λt=> ?_;rw[show VJ (P.follows .mixedOrders) ops t=UH .any ops ops.size t (TK ops.size false) [] by unfold VJ;rw[hm];simp[Y_]];have hs:=aaI (ops:=ops) (λi o ho j hj=>ay.low i o ho j hj) ops.size t (TK ops.size false) [] ⟨by simp,λi hi=>by simp[hi]⟩ (UL Y2 (by simp));refine agJ (T0:=tV s ops p) (H:=s.H) ay (λj hj d hd=> ?_) (λi o hi ho=>g2 i o (by simp) hi ho) hs (by simp) (by simp) E V a Q ⟨ai.bt,λt av e=> ?_,by simp,ai.size⟩ λE' V' a' X' hk aU fx=> ?_
 ·rw[GH,if_neg];simp only[Tv];intro h;have:=h j (by simpa using hj);rw[hd]at this;simp at this
 ·rw[GH]at e;split at e
  ·exact ai.tok t av e
  ·cases e
 ·refine Aw (Φ:=Φ) (λo ho d e=> ?_) (λo ho=> .inr ?_) (ops.size-p) p dh (by have:=ay.le;omega) g4 E' V' a' Q ⟨by rw[g3.H];exact aU.bt,λt av e=> ?_,aU.size⟩ (λae e bO aS b8 s3 aJ pU he hΦ=>hQ ae e bO aS b8 s3 (hk.trans aJ) pU he hΦ)
  ·obtain⟨i,hi⟩:=YE.1 ho;exact ay.dst i o d hi e
  ·obtain⟨i,hi⟩:=YE.1 ho;exact ay.vC i o hi
  ·by_cases hex:∃j,j<p/\cW ops j=some t
   ·obtain⟨j,hj,vZ⟩:=hex;rw[g3.new j t (by omega) vZ]at e;obtain⟨oj,ku,iZ⟩:=Te.1 vZ;refine⟨by rw[aU.size];exact ay.dst j oj t ku iZ,?_⟩;have:=aU.done j (fx j hj) t vZ;simpa[SE,e]using this
   ·have fi:∀j,j<p->cW ops j≠some t:=λj hj e=>hex ⟨j,hj,e⟩;rw[g3.old t λj hj=>fi j (by omega)]at e;refine aU.base t av ?_;rw[GH,if_pos (by simp only[Tv];intro j hj;simpa using fi j (by simpa using hj))];exact e
end
def sg (T base Vn:List (Nat×AV)):Prop:=T.drop (T.length-base.length)=base/\((T.take (T.length-base.length)).all λp=>(Vn.any λq=>q.1==p.1)|| !(base.any λq=>q.1==p.1))=true
theorem aeL{l:List (Nat×AV)}{t:Nat}{a:AV}(h:look l t=some a):(l.any λq=>q.1==t)=true:=UI.2 ⟨_,ow h,by simp⟩
theorem Mq{l:List (Nat×AV)}{t:Nat}(h:(l.any λq=>q.1==t)=true):∃a,look l t=some a:=by
 induction l with
 |nil=>cases h
 |cons x l ih=>
  obtain⟨k,b⟩:=x;simp only[look];split
  ·exact⟨b,rfl⟩
  ·rename_i aI;refine ih ?_;simpa[YR,aI]using h
theorem sg.look{T base Vn:List (Nat×AV)}(h:sg T base Vn){t:Nat}{a:AV}(hb:look base t=some a)(hv:look Vn t=none):look T t=some a:=by
 obtain⟨h1,h2⟩:=h;have e:T=T.take (T.length-base.length)++base:=by
  have:=(Vg (T.length-base.length) T).symm;rwa [h1]at this
 rw[e,uS];cases hl:Gg.look (T.take (T.length-base.length)) t with
 |none=>exact hb
 |some x=>
  exfalso;have:=Tv.1 h2 _ (ow hl);simp only[X5,TZ]at this;rcases this with this|this
  ·obtain⟨y,hy⟩:=Mq this;rw[hv]at hy;cases hy
  ·rw[aeL hb]at this;cases this
def qM (base Vi Vn:List (Nat×AV))(Hn:List aa)(s':AS):Prop:=
 sg s'.T (Vi++base) Vn/\(∀p∈Vn,∃b,look s'.T p.1=some b/\Wk b p.2)/\∃G,s'.H=Hn++G/\(G=[]\/(bH Hn/\∀p∈Vn,Lt Hn.length p.2))
section
variable {lv:Bool}{P:SI}{r:Option Nat}{s:AS}
theorem y8{nt:Nat}{α:Type}{lt:α->α->Prop}(wf:WellFounded lt){c:T6}{Φ:ao->AS->Prop}(V:α->List (Nat×AV))(Hf:α->List aa)(ok:α->Prop)(m0:α)
  (uw:∀m m',(V m).map (·.1)=(V m').map (·.1)) (gA:∀p∈V m0,∃b,look s.T p.1=some b/\Wk b p.2) (uh:Hf m0=s.H) (hl:∀m,ok m->(Hf m).length=s.H.length) (hm:ok m0)
  (h:bH s.H->(∀t a,look s.T t=some a->Lt s.H.length a)->∀m,ok m->∀R:AS->Prop,(∀s',(∃m',lt m' m/\ok m'/\qM s.T (V m) (V m') (Hf m') s')->R s')->aQ lv P r nt c ⟨V m++s.T,Hf m⟩ (ao.then R Φ)):aQ lv P r nt (.loop c) s Φ:=by
 have same:∀m m' t,look (V m) t=none->look (V m') t=none:=λm m' t h=>Mr λp hp e=>by
  have h1:p.1∈(V m').map (·.1):=Tl.2 ⟨p,hp,rfl⟩;rw[uw m' m]at h1;obtain⟨q,hq,e'⟩:=Tl.1 h1;have h2:((V m).any λx=>x.1==t)=true:=UI.2 ⟨q,hq,by simp[e',e]⟩;obtain⟨a,ha⟩:=Mq h2;rw[h]at ha;cases ha
 intro E V0 a Q ai hQ;have hlt:∀t a,look s.T t=some a->Lt s.H.length a:=λt x e=>by rw[<- ai.bt.n];exact(ai.tok t x e).2.lt
 have h0:s.Sub ⟨V m0++s.T,Hf m0⟩:=⟨λt x e=>by
  rw[uS]at e;cases hl:look (V m0) t with
  |none=>rw[hl]at e;exact⟨x,e,Wk.refl x⟩
  |some y=>rw[hl]at e;cases e;exact gA (t,x) (ow hl),uh.symm⟩
 refine OI wf (s:=s) (λm=>⟨V m++s.T,Hf m⟩) ok m0 h0 hm (λm ay=>by rw[hl m ay];exact SQ _) (λm ay=> ?_) E V0 a Q ai hQ;refine(h ai.bt.ay hlt m ay _ λ_ h=>h).mono λe s' hΦ=> ?_;cases e with
 |normal=>
  obtain⟨m',q1,q2,hk,hv,G,hG,sQ⟩:=hΦ;have tok:∀t x,look (V m'++s.T) t=some x->∃b,look s'.T t=some b/\Wk b x/\(look (V m') t=some x\/look s.T t=some x):=λt x e=>by
   rw[uS]at e;cases hl:look (V m') t with
   |none=>
    rw[hl]at e;have hb:look (V m++s.T) t=some x:=(by rw[uS,same m' m t hl];exact e);exact⟨x,hk.look hb hl,Wk.refl x,.inr e⟩
   |some y=>
    rw[hl]at e;cases e;obtain⟨b,h1,h2⟩:=hv (t,x) (ow hl);exact⟨b,h1,h2,.inl rfl⟩
  refine⟨m',q1,q2,?_⟩;rcases sQ with rfl|⟨nv,KS⟩
  ·exact .inl ⟨λt x e=>by obtain⟨b,h1,h2,_⟩:=tok t x e;exact⟨b,h1,h2⟩,by rw[hG,SN]⟩
  ·refine .inr ⟨λt x e=> ?_,⟨G,hG⟩,nv⟩;obtain⟨b,h1,h2,h3⟩:=tok t x e;refine⟨b,h1,h2,?_⟩;rcases h3 with h3|h3
   ·exact KS (t,x) (ow h3)
   ·show Lt (Hf m').length x;rw[hl m' q2];exact hlt t x h3
 |_=>exact hΦ
theorem iu{nt:Nat}{c:T6}{Φ:ao->AS->Prop}(n:Nat)(V:Nat->List (Nat×AV))(Hf:Nat->List aa)(ok:Nat->Prop)
  (uw:∀m m',(V m).map (·.1)=(V m').map (·.1)) (gA:∀p∈V 0,∃b,look s.T p.1=some b/\Wk b p.2) (uh:Hf 0=s.H) (hl:∀m,m<=n->ok m->(Hf m).length=s.H.length) (hm:ok 0)
  (h:bH s.H->(∀t a,look s.T t=some a->Lt s.H.length a)->∀m,m<=n->ok m->∀R:AS->Prop,(∀s',(m<n/\ok (m+1)/\qM s.T (V m) (V (m+1)) (Hf (m+1)) s')->R s')->aQ lv P r nt c ⟨V m++s.T,Hf m⟩ (ao.then R Φ)):aQ lv P r nt (.loop c) s Φ:=by
 refine y8 (measure λi=>n-i).wf V Hf (λi=>i<=n/\ok i) 0 uw gA uh (λm h=>hl m h.1 h.2) ⟨W2 _,hm⟩ (λh1 h2 m ay R hR=> ?_);exact h h1 h2 m ay.1 ay.2 R λs' ⟨q1,q2,q3⟩=>hR s' ⟨m+1,(by show n-(m+1)<n-m;omega),⟨q1,q2⟩,q3⟩
end
theorem po{T base Vn:List (Nat×AV)}(h1:T.drop (T.length-base.length)=base)(h2:((T.take (T.length-base.length)).all λp=>(Vn.any λq=>q.1==p.1)|| !(base.any λq=>q.1==p.1))=true):sg T base Vn:=⟨h1,h2⟩
theorem lh{H L:List aa}{x:SO}{k:AV->List aa->Prop}(hH:bH H)(h:k (.val x) H):cC H.length (H++L) (.val x) k:=jH (Wk.refl _) rfl (SQ _) hH (.val x) h
theorem jm{H L:List aa}{a b:AV}{k:AV->List aa->Prop}(hH:bH H)(hw:Wk a b)(hl:Lt H.length b)(h:k b H):cC H.length (H++L) a k:=jH hw rfl (SQ _) hH hl h
def aa.cellsOf:aa->Option (List AV)
 |.cells l _|.part _ l _|.own _ l _=>some l
 |_=>none
theorem agb(l:List AV)(e:TypeId):aa.cellsOf (.cells l e)=some l:=rfl
theorem agd(p:Nat)(l:List AV)(e:TypeId):aa.cellsOf (.part p l e)=some l:=rfl
def aa.rowOf:aa->Option (List AV)
 |.cells l _|.part _ l _|.own _ l _=>some l
 |_=>none
theorem apm(l:List AV)(e:TypeId):aa.rowOf (.cells l e)=some l:=rfl
theorem agc(p:Nat)(l:List AV)(e:TypeId):aa.cellsOf (.own p l e)=some l:=rfl
theorem apn(p:Nat)(l:List AV)(e:TypeId):aa.rowOf (.own p l e)=some l:=rfl
theorem apo(p:Nat)(l:List AV)(e:TypeId):aa.rowOf (.part p l e)=some l:=rfl
theorem afc(T:List (Nat×AV))(H:List aa)(i off:Nat):AS.at ⟨T,H⟩ (.op i off)=((H[i]?).bind aa.cellsOf).map λl=>l.drop off:=by
 simp only[AS.at];cases H[i]?with
 |none=>rfl
 |some x=>cases x<;>rfl
theorem anY(k:TY)(n:Int):AV.parts (.val (.int k n))=some [.val (.int k n)]:=rfl
theorem anU(b:Bool):AV.parts (.val (.bool b))=some [.val (.bool b)]:=rfl
theorem an8(b:ByteArray):AV.parts (.val (.string b))=some [.val (.string b)]:=rfl
theorem an5(b:Option U5):AV.parts (.val (.pointer b))=some [.val (.pointer b)]:=rfl
theorem an1:AV.parts (.val .nilFunc)=some [.val .nilFunc]:=rfl
theorem an2:AV.parts (.val .nilIface)=some [.val .nilIface]:=rfl
theorem anZ(r:Option Nat):AV.parts (.val (.map r))=some [.val (.map r)]:=rfl
theorem anT(l:List AV):AV.parts (.agg l)=some l:=rfl
theorem an7(n:Nat)(l:List AV)(e:End):AV.parts (.sl n l e)=some [.sl n l e]:=rfl
theorem amo(n:Nat)(l:List AV)(e:End):AV.len (.sl n l e)=some n:=by rw[AV.len]
theorem amn(i o n c:Nat):AV.len (.bh i o n c)=some n:=by rw[AV.len]
attribute [seval] amo amn
theorem an4(i o n c:Nat):AV.parts (.bh i o n c)=some [.bh i o n c]:=rfl
theorem an6(l:List AV):AV.parts (.rp l)=some [.rp l]:=rfl
theorem an3(i o:Nat):AV.parts (.op i o)=some [.op i o]:=rfl
theorem anW(f:Fn)(l m:List AV):AV.parts (.fn f l m)=some [.fn f l m]:=rfl
theorem anX(t:TypeId)(a:AV):AV.parts (.cY t a)=some [.cY t a]:=rfl
theorem an0(i:Nat):AV.parts (.mp i)=some [.mp i]:=rfl
theorem al8(k:TY)(n:Int):AV.leaf (.val (.int k n))=true:=rfl
theorem al4(b:Bool):AV.leaf (.val (.bool b))=true:=rfl
theorem amj(b:ByteArray):AV.leaf (.val (.string b))=true:=rfl
theorem amg(b:Option U5):AV.leaf (.val (.pointer b))=true:=rfl
theorem amb:AV.leaf (.val .nilFunc)=true:=rfl
theorem amc:AV.leaf (.val .nilIface)=true:=rfl
theorem al9(r:Option Nat):AV.leaf (.val (.map r))=true:=rfl
theorem ami(n:Nat)(l:List AV)(e:End):AV.leaf (.sl n l e)=true:=rfl
theorem amf(i o n c:Nat):AV.leaf (.bh i o n c)=true:=rfl
theorem amh(l:List AV):AV.leaf (.rp l)=true:=rfl
theorem ame(i o:Nat):AV.leaf (.op i o)=true:=rfl
theorem al6(f:Fn)(l m:List AV):AV.leaf (.fn f l m)=true:=rfl
theorem al7(t:TypeId)(a:AV):AV.leaf (.cY t a)=true:=rfl
theorem ama(i:Nat):AV.leaf (.mp i)=true:=rfl
theorem ans(k:TY)(n:Int):AV.pt (.int k n)=.val (.int k n):=rfl
theorem anp(b:Bool):AV.pt (.bool b)=.val (.bool b):=rfl
theorem anv:AV.pt (.slice none 0 0)=.sl 0 [] .exact:=rfl
theorem anq:AV.pt .nilFunc=.val .nilFunc:=rfl
theorem anr:AV.pt .nilIface=.val .nilIface:=rfl
theorem anu(a:Option U5):AV.pt (.pointer a)=.val (.pointer a):=rfl
theorem ant(a:Option Nat):AV.pt (.map a)=.val (.map a):=rfl
theorem ash(l:List SO):lO (.agg l.toArray)=l.map AV.pt:=by simp[lO,Z4]
theorem asn(k:TY)(n:Int):lO (.int k n)=[.val (.int k n)]:=rfl
theorem asi(b:Bool):lO (.bool b)=[.val (.bool b)]:=rfl
theorem asq:lO (.slice none 0 0)=[.sl 0 [] .exact]:=rfl
theorem asl:lO .nilFunc=[.val .nilFunc]:=rfl
theorem asm:lO .nilIface=[.val .nilIface]:=rfl
theorem asp(a:Option U5):lO (.pointer a)=[.val (.pointer a)]:=rfl
theorem aso(a:Option Nat):lO (.map a)=[.val (.map a)]:=rfl
theorem ahi(s:AS):jR s []=some []:=rfl
theorem ahh(s:AS)(i:Nat)(x:Ti)(l:List (Nat×Ti)):jR s ((i,x)::l)=(s.ev x).bind λa=>(jR s l).map λaE=>(i,a)::aE:=by
 simp only[jR];cases s.ev x with
 |none=>rfl
 |some a=>cases jR s l<;>rfl
theorem aiv(p:Nat->Option (Nat×Nat))(c:List AV):nY p c []=some c:=rfl
theorem aiu(p:Nat->Option (Nat×Nat))(c:List AV)(i:Nat)(a:AV)(r:List (Nat×AV)):nY p c ((i,a)::r)=(p i).bind λx=>(a.parts).bind λlp=>if lp.length≠x.2\/x.1+lp.length>c.length then none else nY p (iB c x.1 lp) r:=by
 simp only[nY];cases p i with
 |none=>rfl
 |some x=>cases a.parts<;>rfl
theorem aoh(l:List (Nat×Nat))(i:Nat):iq.at (.fields l) i=l[i]?:=rfl
theorem aog(sz i:Nat):iq.at (.elems sz) i=some (i* sz,sz):=rfl
theorem ase(z:SO):gH z 0=[]:=rfl
theorem aqo(s:AS)(sz m:Nat)(l:List AV)(e:End):s.src sz (.sl m l e)=some (m,l.take (m* sz)):=rfl
theorem aqn(T:List (Nat×AV))(H:List aa)(sz i off m c:Nat):AS.src ⟨T,H⟩ sz (.bh i off m c)=((H[i]?).bind aa.rowOf).map λl=>(m,(l.drop off).take (m* sz)):=by
 simp only[AS.src];cases H[i]?with
 |none=>rfl
 |some x=>cases x<;>rfl
theorem ae5(n:Nat)(l:List AV)(e:End)(kO:Nat->Nat->Nat->Nat->Prop)(k:Nat->List AV->End->Prop):AV.pI (.sl n l e) kO k=k n l e:=by rw[AV.pI]
theorem ae4(i o n c:Nat)(kO:Nat->Nat->Nat->Nat->Prop)(k:Nat->List AV->End->Prop):AV.pI (.bh i o n c) kO k=kO i o n c:=by rw[AV.pI]
theorem aeO:type_of% @tJ.eq_1:=by intros;rw[tJ.eq_1]
theorem aeM(s:AS)(dst:Option Nat)(next:AS->Prop)(n m sz:Nat)(elem:TypeId)(l l':List AV):A4 s dst next n m sz elem l l' .exact=next ((⟨s.T,s.H++[.tail (n+m) sz elem]⟩:AS).put dst (.sl (n+m) (l++l') (.opn s.H.length))):=rfl
theorem aeN(s:AS)(dst:Option Nat)(next:AS->Prop)(n m sz:Nat)(elem:TypeId)(l l':List AV)(k:Nat):A4 s dst next n m sz elem l l' (.opn k)=((match s.H[k]?with
   |some (.tail n' ep gK)=>n'=n/\ep=sz/\gK=elem
   |_=>False)/\(∀a∈l',a.leaf=true)/\next ((⟨s.T,s.H.set k (.tail (n+m) sz elem)⟩:AS).put dst (.sl (n+m) (l++l') (.opn k)))):=rfl
theorem apd(P:SI)(T:List (Nat×AV))(H:List aa)(b t:Nat):uX P ⟨T,H⟩ (.cell b t)=(look T b).bind λp=>((⟨T,H⟩:AS).at p).bind λl=>(Ty P t).bind λx=>if x.2 then(if x.1<=l.length then some (.agg (l.take x.1))else none)else l[0]?:=rfl
section
variable {lv:Bool}{P:SI}{s s':AS}
@[congr] theorem atx {α : Type} {x y : Option α} {k : α -> Prop} (h : x = y) : ap x k = ap y k := by rw [h]
@[congr] theorem asE {a b : AV} {k : Bool -> Prop} (h : a = b) : AV.asBool a k = AV.asBool b k := by rw [h]
@[congr] theorem asF {a b : AV} {k : TY -> Int -> Prop} (h : a = b) : AV.asInt a k = AV.asInt b k := by rw [h]
@[congr] theorem asL {a b : AV} {k : List AV -> Prop} (h : a = b) : AV.w6 a k = AV.w6 b k := by rw [h]
@[congr] theorem asD {a b : AV} {k : List AV -> Prop} (h : a = b) : AV.asAgg a k = AV.asAgg b k := by rw [h]
@[congr] theorem asH {a b : AV} {k : Nat -> Nat -> Prop} (h : a = b) : AV.pH a k = AV.pH b k := by rw [h]
@[congr] theorem asG {a b : AV} {k : Nat -> Prop} (h : a = b) : AV.sr a k = AV.sr b k := by rw [h]
@[congr] theorem asK {a b : AV} {k : Nat -> List AV -> End -> Prop} (h : a = b) : AV.vr a k = AV.vr b k := by rw [h]
@[congr] theorem asJ {a b : AV} {kO : Nat -> Nat -> Nat -> Nat -> Prop} {k : Nat -> List AV -> End -> Prop} (h : a = b) : AV.pI a kO k = AV.pI b kO k := by rw [h]
@[congr] theorem asB {H H' : List aa} {k : AV -> List aa -> Prop} {id ov off Dm n n' c0 O5 m m' sz : Nat} {elem : TypeId} {l l' : List AV} (h0 : H = H') (h1 : id = ov) (h2 : off = Dm) (h3 : n = n') (h4 : c0 = O5) (h5 : m = m') (h6 : l = l') : tJ H k id off n c0 m sz elem l = tJ H' k ov Dm n' O5 m' sz elem l' := by rw [h0, h1, h2, h3, h4, h5, h6]
@[congr] theorem ast {op : VX} {t : TypeId} {a a' b b' : AV} {k : AV -> Prop} (h : a = a') (h' : b = b') : dH P op t a b k = dH P op t a' b' k := by rw [h, h']
@[congr] theorem ass {s' : AS} {op : VX} {t : TypeId} {y : Ti} {a a' : AV} {k : AV -> Prop} (hs : s = s') (h : a = a') : iE P s op t y a k = iE P s' op t y a' k := by rw [hs, h]
@[congr] theorem asw {a b : AV} {k : AV -> Prop} (h : a = b) : mi P a k = mi P b k := by rw [h]
@[congr] theorem asr {t : TypeId} {ok : Bool} {a b : AV} {k : AV -> Prop} (h : a = b) : A2 P t ok a k = A2 P t ok b k := by rw [h]
@[congr] theorem asv {t : TypeId} {a b : AV} {k : AV -> Prop} (h : a = b) : r_ P s t a k = r_ P s t b k := by rw [h]
@[congr] theorem asz {t : TypeId} {a b : AV} {x y z : Option Int} {k : AV -> Prop} (h : a = b) : sd P t a x y z k = sd P t b x y z k := by rw [h]
@[congr] theorem asx {o : Tu} {k : AV -> Prop} (h : s = s') : lc P s o k = lc P s' o k := by rw [h]
@[congr] theorem asC {o : Tu} {k : AV -> Prop} (h : s = s') : AQ lv P s o k = AQ lv P s' o k := by rw [h]
@[congr] theorem asA {o : Tu} {next : AS -> Prop} {bad : AV -> AS -> Prop} (h : s = s') : mj lv P s o next bad = mj lv P s' o next bad := by rw [h]
@[congr] theorem asy {all : Array Tu} {l : List Tu} {next : AS -> Prop} {bad : AV -> AS -> Prop} (h : s = s') : im lv P all l s next bad = im lv P all l s' next bad := by rw [h]
@[congr] theorem atz {all : Array Tu} {l l' : List Tu} {K : AS -> Prop} (hl : l = l') (h : s = s') : mM lv P all l s K = mM lv P all l' s' K := by rw [hl, h]
@[congr] theorem asO {r : Option Nat} {nt : Nat} {c : T6} {Φ : ao -> AS -> Prop} (h : s = s') : aQ lv P r nt c s Φ = aQ lv P r nt c s' Φ := by rw [h]
@[congr] theorem atG {K : AS -> Prop} {Φ : ao -> AS -> Prop} {e e' : ao} (he : e = e') (h : s = s') : ao.then K Φ e s = ao.then K Φ e' s' := by rw [he, h]
@[congr] theorem atu {i : Nat} {Φ : ao -> AS -> Prop} {e e' : ao} (he : e = e') (h : s = s') : ao.inBlock i Φ e s = ao.inBlock i Φ e' s' := by rw [he, h]
end
theorem aee:type_of% @im.eq_1:=by intros;rw[im.eq_1]
theorem aed:type_of% @im.eq_2:=by intros;rw[im.eq_2]
theorem aek:type_of% @mj.eq_1:=by intros;rw[mj.eq_1]
theorem aec:type_of% @lc.eq_1:=by intros;rw[lc.eq_1]
theorem aoq:type_of% @mM.eq_1:=by intros;rw[mM.eq_1]
theorem aop:type_of% @mM.eq_2:=by intros;rw[mM.eq_2]
theorem aef:type_of% @AQ.eq_1:=by intros;rw[AQ.eq_1]
theorem apa:type_of% @gT.eq_1:=by intros;rw[gT.eq_1]
theorem ao9:type_of% @gT.eq_2:=by intros;rw[gT.eq_2]
theorem apc:type_of% @iR.eq_1:=by intros;rw[iR.eq_1]
theorem ahk:type_of% @eW.eq_1:=by intros;rw[eW.eq_1]
theorem ahj:type_of% @eW.eq_2:=by intros;rw[eW.eq_2]
theorem adR:type_of% @A2.eq_1:=by intros;rw[A2.eq_1]
theorem aol:type_of% @iB.eq_1:=by intros;rw[iB.eq_1]
theorem apb:iR []=.aN []:=by rw[iR];simp
theorem abU(a b:AV)(l:List AV):iR (a::b::l)=.aN (a::b::l):=by rw[iR];simp
theorem aqY(l:List AV):(AV.rp l).sure=true:=by simp[AV.sure]
theorem aqW(i j:Nat):(AV.op i j).sure=true:=by simp[AV.sure]
theorem aqS(f:TS)(x y:List AV):(AV.fn (.func f) x y).sure=true:=by simp[AV.sure]
theorem aqT(t:TypeId)(x:AV):(AV.cY t x).sure=true:=by simp[AV.sure]
theorem ad8(P:SI)(k:AV->Prop)(name:String)(t:TypeId)(av:AV):mi P (.fn (.method name) [.cY t av] []) k=(Ig P t name/\k (.fn (.method name) [.cY t av] [])):=by rw[mi]
theorem aea(P:SI)(k:AV->Prop)(l:List AV):mi P (.rp l) k=k (.rp l):=by simp[mi,AV.sure]
theorem ad9(P:SI)(k:AV->Prop)(i j:Nat):mi P (.op i j) k=k (.op i j):=by simp[mi,AV.sure]
theorem ad6(P:SI)(k:AV->Prop)(f:TS)(x y:List AV):mi P (.fn (.func f) x y) k=k (.fn (.func f) x y):=by simp[mi,AV.sure]
theorem aeb(P:SI)(k:AV->Prop)(f)(x y:List AV):mi P (.fn (.yield f) x y) k=k (.fn (.yield f) x y):=by simp[mi,AV.sure]
theorem ad7(P:SI)(k:AV->Prop)(t:TypeId)(x:AV):mi P (.cY t x) k=k (.cY t x):=by simp[mi,AV.sure]
theorem ad1(P:SI)(s:AS)(op:VX)(xt:TypeId)(t:Nat)(a:AV)(k:AV->Prop):iE P s op xt (.tmp t) a k=ap (s.ev (.tmp t)) λb=>dH P op xt a b k:=by rw[iE]<;>(intros;simp_all)
theorem adW(P:SI)(s:AS)(op:VX)(xt:TypeId)(j:TY)(m:Int)(a:AV)(k:AV->Prop):iE P s op xt (.const (.int j m)) a k=ap (s.ev (.const (.int j m))) λb=>dH P op xt a b k:=by rw[iE]<;>(intros;simp_all)
theorem adT(P:SI)(s:AS)(op:VX)(xt:TypeId)(c:Bool)(a:AV)(k:AV->Prop):iE P s op xt (.const (.bool c)) a k=ap (s.ev (.const (.bool c))) λb=>dH P op xt a b k:=by rw[iE]<;>(intros;simp_all)
theorem ad0(P:SI)(s:AS)(op:VX)(xt:TypeId)(c:ByteArray)(a:AV)(k:AV->Prop):iE P s op xt (.const (.string c)) a k=ap (s.ev (.const (.string c))) λb=>dH P op xt a b k:=by rw[iE]<;>(intros;simp_all)
theorem adS(P:SI)(s:AS)(op:VX)(xt:TypeId)(c:Array SO)(a:AV)(k:AV->Prop):iE P s op xt (.const (.agg c)) a k=ap (s.ev (.const (.agg c))) λb=>dH P op xt a b k:=by rw[iE]<;>(intros;simp_all)
theorem adZ(P:SI)(s:AS)(op:VX)(xt:TypeId)(c:Option U5)(a:AV)(k:AV->Prop):iE P s op xt (.const (.pointer c)) a k=ap (s.ev (.const (.pointer c))) λb=>dH P op xt a b k:=by rw[iE]<;>(intros;simp_all)
theorem adX(P:SI)(s:AS)(op:VX)(xt:TypeId)(c:Option U5)(m n:Nat)(a:AV)(k:AV->Prop):iE P s op xt (.const (.slice c m n)) a k=ap (s.ev (.const (.slice c m n))) λb=>dH P op xt a b k:=by rw[iE]<;>(intros;simp_all)
theorem adY(P:SI)(s:AS)(op:VX)(xt:TypeId)(k:AV->Prop):iE P s op xt (.const .nilIface) (.val .nilIface) k=(l9 P xt=some true/\(op=.eql\/op=.neq)/\k (.val (.bool (if op== .neq then false else true)))):=by rw[iE]
theorem adV(P:SI)(s:AS)(op:VX)(xt t:TypeId)(x:AV)(k:AV->Prop):iE P s op xt (.const .nilIface) (.cY t x) k=(l9 P xt=some true/\(op=.eql\/op=.neq)/\k (.val (.bool (if op== .neq then true else false)))):=by rw[iE]
theorem ag5:((XH== .neq)=false):=rfl
theorem ane:((Wt== .neq)=true):=rfl
theorem aiV(z:SO):AV.found z true none=.aN [AV.of z,.val (.bool false)]:=by rw[AV.found];simp
theorem aiW(z:SO)(x:Nat×SO):AV.found z true (some x)=.aN [AV.of x.2,.val (.bool true)]:=by rw[AV.found];simp
attribute [seval] aiV aiW
attribute [seval] ad1 adW adT ad0 adS adZ adX adY adV ag5 ane
attribute [seval] aoY aoZ ajl ajk ajj aji Av ahg ag7 ahb ag9 ahf ahc ahd ag8 aha amJ amK aon aom ari ark arf arh arj afV afX afS afW afT afU aiU aiS aiT apf aeZ ae1 ae8 aeX ae3 ae2 ae6 ae5 ae4 aeO ael aex aet aen Oi aes aer aep aeo true_and and_true Option.bind_some List.getElem?_toArray List.getElem?_cons_succ List.getElem?_cons_zero Bool.not_true Bool.not_false true_implies false_implies if_true if_false afd ap8 ap9 aqa apr apq List.drop_succ_cons List.drop_zero List.take_succ_cons List.take_zero List.cons_append List.nil_append List.length_cons List.length_nil Int.toNat_natCast decide_eq_true_eq decide_eq_false_iff_not Bool.not_eq_true' Bool.not_eq_false' Bool.not_eq_eq_eq_not afc agb agd apm apo apn agc Option.map_some vo aeQ vp aeU aeP aeT Nat.zero_add List.set_cons_zero List.set_cons_succ anY anU an8 an5 an1 an2 anZ anT an7 an4 an6 an3 anW anX an0 List.forall_mem_cons List.not_mem_nil false_imp_iff implies_true al8 al4 amj amg amb amc al9 ami amf amh ame al6 al7 ama ans anp anv anq anr anu ant ash asn asi asq asl asm asp aso List.map_cons List.map_nil ahi ahh aiv aiu aoh aog ase aqo aqn aeM aeN apd ad5 ad4 ne_eq not_true_eq_false not_false_eq_true gt_iff_lt Nat.lt_irrefl or_self or_false false_or Nat.le_refl Nat.mul_one Nat.one_mul Nat.zero_mul Nat.mul_zero bne_iff_ne bne_eq_false_iff_eq beq_iff_eq aee aed aek aec aoq aop aef apa ao9 apc apb abU ahk ahj adR aol abU aqY aqW aqS aqT ad8 aea ad9 ad6 aeb ad7
theorem apl{base Vi Vn T:List (Nat×AV)}{H:List aa}(hk:sg T (Vi++base) Vn)(hv:∀p∈Vn,∃b,look T p.1=some b/\Wk b p.2):qM base Vi Vn H ⟨T,H⟩:=⟨hk,hv,[],by simp,.inl rfl⟩
theorem abW{base Vi Vn T:List (Nat×AV)}{H G:List aa}(hk:sg T (Vi++base) Vn)(hv:∀p∈Vn,∃b,look T p.1=some b/\Wk b p.2)(ay:bH H)(hlt:∀p∈Vn,Lt H.length p.2):qM base Vi Vn H ⟨T,H++G⟩:=⟨hk,hv,G,rfl,.inr ⟨ay,hlt⟩⟩
theorem AE{base Vi Vn T:List (Nat×AV)}{H L G:List aa}(hk:sg T (Vi++base) Vn)(hv:∀p∈Vn,∃b,look T p.1=some b/\Wk b p.2)(ay:bH (H++L))(hlt:∀p∈Vn,Lt (H++L).length p.2):qM base Vi Vn (H++L) ⟨T,H++(L++G)⟩:=⟨hk,hv,G,(SC ..).symm,.inr ⟨ay,hlt⟩⟩
def pick (ks:List Nat)(T:List (Nat×AV)):List (Nat×AV):=ks.filterMap λk=>(look T k).map λa=>(k,a)
theorem OK{lv:Bool}{P:SI}{r:Option Nat}{nt:Nat}{c:T6}{T:List (Nat×AV)}{H:List aa}{Φ:ao->AS->Prop}(ks:List Nat)(h:aQ lv P r nt c ⟨pick ks T,H⟩ Φ):aQ lv P r nt c ⟨T,H⟩ Φ:=by
 refine pJ (s':=⟨pick ks T,H⟩) ⟨λt a e=> ?_,rfl⟩ h;obtain⟨k,_,e'⟩:=VT.1 (ow e);obtain⟨b,hb,e'⟩:=Tp.1 e';cases e';exact⟨a,hb,Wk.refl a⟩
theorem Mm{ops:Array Tu}(lY:∀(i:Nat) o,ops[i]?=some o->∀j∈cN o,j<ops.size)(Sp:∀X:List Nat,(∃i,i<ops.size/\i∉X)->∃i o,ops[i]?=some o/\i∉X/\∀j∈cN o,j∈X):∀(fuel t:Nat)(L:Array Bool)(X:List Nat),Od ops L X->(SV ops.size).countP (λi=> !X.contains i)<=fuel->lQ ops X (UH .any ops fuel t L [])
 |0,t,L,X,hr,hc=>by
  simp only[UH,XV];refine .nil X λi hi=> ?_;have:(SV ops.size).countP (λi=> !X.contains i)=0:=by omega
  have:=List.countP_eq_zero.1 this i (by simpa using hi);simpa using this
 |fuel+1,t,L,X,hr,hc=>by
  have uC:∀i,i∈((SV ops.size).filter λi=> !L.getD i true&&((ops[i]?).map (·.after.all λe=> !Region.binds .any e||L.getD e.on false)).getD false)<->∃o,ops[i]?=some o/\i∉X/\∀j∈cN o,j∈X:=by
   intro i;simp only[Uw,TP,Tg,TZ];constructor
   ·rintro⟨hi,h1,h2⟩
    have ho:=SJ hi;refine⟨ops[i],ho,λhx=> ?_,λj hj=> ?_⟩
    ·have:=(hr.mem i hi).2 hx;rw[SH,this]at h1;cases h1
    ·obtain⟨e,he,hb,rfl⟩:=GL.1 hj;rw[ho]at h2;simp only[UP,S7,UJ]at h2;have:=h2 e he;rw[hb]at this;simp only[ai',XT]at this;have hlt:e.on<ops.size:=lY i _ ho _ hj;refine(hr.mem _ hlt).1 ?_;rw[SH]at this;cases hx:L[e.on]?with
     |none=>rw[hx]at this;cases this
     |some b=>rw[hx]at this;cases b;cases this;rfl
   ·rintro⟨o,ho,h1,h2⟩
    have hi:i<ops.size:=(SR.1 ho).1;refine⟨hi,?_,?_⟩
    ·rw[SH,SJ (by rw[hr.size];exact hi)];simp only[S7];cases hb:L[i]'(by rw[hr.size];exact hi)with
     |false=>rfl
     |true=>exact absurd ((hr.mem i hi).1 (by rw[SJ (by rw[hr.size];exact hi),hb])) h1
    ·rw[ho];simp only[UP,S7,UJ];intro e he;cases hb:Yq .any e with
     |false=>rfl
     |true=>
      have hj:=GL.2 ⟨e,he,hb,rfl⟩;have hlt:e.on<ops.size:=lY i _ ho _ hj;have:=(hr.mem _ hlt).2 (h2 _ hj);simp[SH,this]
  simp only[UH];generalize CJ:((SV ops.size).filter λi=> !L.getD i true&&((ops[i]?).map (·.after.all λe=> !Region.binds .any e||L.getD e.on false)).getD false)=rs at uC;cases hi:rs[t % rs.length]?with
  |none=>
   have K2:rs=[]:=by
    cases rs with
    |nil=>rfl
    |cons x xs=>
     have hlt:t % (x::xs).length<(x::xs).length:=ar_ _ (by simp);rw[List.getElem?_eq_none_iff]at hi;omega
   simp only[XV];refine .nil X λi hlt=> ?_;apply Tt;intro hx;obtain⟨i',o,h1,h2,h3⟩:=Sp X ⟨i,hlt,hx⟩;have:i'∈rs:=(uC i').2 ⟨o,h1,h2,h3⟩;rw[K2]at this;cases this
  |some i=>
   simp only[];obtain⟨o,ho,h1,h2⟩:=(uC i).1 (Tc hi);have hlt:i<ops.size:=(SR.1 ho).1;rw[linearise_go_acc,List.reverse_singleton,Y1];refine .cons o ho h1 h2 (Mm lY Sp fuel _ _ (i::X) ⟨by simp[hr.size],λk hk=> ?_⟩ ?_)
   ·by_cases rk:k=i
    ·subst rk;simp[S_ (by rw[hr.size];exact hlt)]
    ·rw[SU (Ne.symm rk),hr.mem k hk];simp[rk]
   ·have fz:i∈(SV ops.size):=(by simpa using hlt);have:(SV ops.size).countP (λk=> !(i::X).contains k)<(SV ops.size).countP (λk=> !X.contains k):=by
     exact Pj fz (λk hk=>by simp only[TZ,Uq,decide_eq_false_iff_not]at hk⊢;exactλh=>hk (Tb _ h)) (by simpa using h1) (by simp)
    omega
theorem Jv{X:List Nat}:∀{l:List Nat},(∃i∈l,i∉X)->∃A i B,l=A++i::B/\i∉X/\∀a∈A,a∈X
 |[],⟨_,h,_⟩=>by cases h
 |x::l,⟨i,h,hn⟩=>by
  by_cases hx:x∈X
  ·have hi:i∈l:=(SK.1 h).resolve_left λe=>hn (e▸hx);obtain⟨A,j,B,h1,h2,h3⟩:=Jv ⟨i,hi,hn⟩;exact⟨x::A,j,B,by rw[h1];rfl,h2,λa ha=>(SK.1 ha).elim (λe=>e▸hx) (h3 a)⟩
  ·exact⟨[],x,l,rfl,hx,by simp⟩
structure Bb (k:AV->List aa->Prop):Type where
 n:Nat
def D_ (lv:Bool)(P:SI)(f:AV)(H:List aa)(aE:List AV)(k:AV->List aa->Prop)(_t:Bb k):Prop:=∃av H',iT lv P f H aE (λb tN=>b=av/\tN=H') (λ_ _=>False)/\k av H'
def H_ (lv:Bool)(P:SI)(f:AV)(name:String)(H:List aa)(aE:List AV)(k:AV->List aa->Prop)(_t:Bb k):Prop:=∃av H',Ef lv P f name H aE (λb tN=>b=av/\tN=H') (λ_ _=>False)/\k av H'
theorem nX{lv:Bool}{P:SI}{f:AV}{H:List aa}{aE:List AV}{k:AV->List aa->Prop}{t:Bb k}(av:AV)(H':List aa)(h:iT lv P f H aE (λb tN=>b=av/\tN=H') (λ_ _=>False))(hk:k av H'):D_ lv P f H aE k t:=⟨av,H',h,hk⟩
def jP (x:Option aa)(X Y:Prop)(_t:lP X Y):Prop:=match x with
 |some (.own _ _ _)=>X
 |_=>Y
def qG (G H:List aa)(k:AV->List aa->Prop)(n m sz:Nat)(elem:TypeId)(l l':List AV):End->Prop
 |.exact=>jP G[H.length]? (0<m/\k (.bh H.length 0 (n+m) 0) (H++[.own sz (l++l') elem])) (k (.sl (n+m) (l++l') (.opn H.length)) (H++[.tail (n+m) sz elem])) ⟨0⟩
 |.opn i=>(match H[i]?with
   |some (.tail n' ep gK)=>n'=n/\ep=sz/\gK=elem
   |_=>False)/\(∀a∈l',a.leaf=true)/\k (.sl (n+m) (l++l') (.opn i)) (H.set i (.tail (n+m) sz elem))
 |.shut=>m=0/\k (.sl n l .shut) H
section
variable (lv:Bool)(P:SI)
def jN (G:List aa)(s:AS)(o:Tu)(k:AV->List aa->Prop):Prop:=match o.op with
 |.box t x=>ap (s.ev x) λa=>ap a.parts λl=>k (.op s.H.length 0) (s.H++[.cells l t])
 |.alloc t=>ap (eE P t) λz=>k (.op s.H.length 0) (s.H++[.cells (lO z) t])
 |.store t x y=>ap (s.ev x) λp=>ap (s.ev y) λa=>ap a.parts λlp=>p.pH λid off=>match s.H[id]?with
  |some (.cells l el)=>(ap (Ty P t) λx=>lp.length=x.1)/\off+lp.length<=l.length/\(∀a∈lp,a.leaf=true)/\k (.val undef) (s.H.set id (.cells (iB l off lp) el))
  |some (.own p l el)=>(ap (Ty P t) λx=>lp.length=x.1)/\off+lp.length<=l.length/\(∀a∈lp,a.leaf=true)/\k (.val undef) (s.H.set id (.own p (iB l off lp) el))
  |_=>False
 |.call c=>match c.callee with
  |.builtin .append=>match c.args.toList,c.argTypes.toList with
   |[x,y],[t,t']=>ap (jz P t t') λ(elem,sz,_)=>ap (s.ev x) λa=>ap (s.ev y) λb=>a.pI (λid off n c0=>ap (s.src sz b) λ(m,l')=>tJ s.H k id off n c0 m sz elem l') λn l e=>ap (s.src sz b) λ(m,l')=>l.length=n* sz/\l'.length=m* sz/\n+m<=2^30/\qG G s.H k n m sz elem l l' e
   |_,_=>False
  |.value x=>ap (s.ev x) λf=>ap (eW s c.args.toList) λaE=>D_ lv P f s.H aE k ⟨0⟩
  |.invoke x name=>ap (s.ev x) λf=>ap (eW s c.args.toList) λaE=>H_ lv P f name s.H aE k ⟨0⟩
  |_=>False
 |.makeSlice t x y=>ap (Bd P t) λ(e,sz,z)=>ap (s.ev x) λa=>ap (s.ev y) λb=>a.asInt λ_ n=>b.asInt λ_ n'=>n'=n/\0<=n/\n<=2^30/\k (.bh s.H.length 0 n.toNat n.toNat) (s.H++[.cells (gH z (n.toNat* sz)) e])
 |.buildSlice t len parts=>ap (qP P t) λ(e,sz,z)=>len* sz<=2^24/\ap (jR s parts.toList) λlS=>ap (nY (iq.at (.elems sz)) (gH z (len* sz)) lS) λl=>k (.bh s.H.length 0 len len) (s.H++[.cells l e])
 |_=>False
end
section
variable {lv:Bool}{P:SI}{r:Option Nat}{o:Tu}{s:AS}{k:AV->List aa->Prop}
theorem Step.drop{G:List aa}{av mv:AV}{bad:AV->AS->Prop}(h:Step lv P r o s (λs'=>s'=(⟨s.T,s.H++G⟩:AS).put o.dst av) bad)(hw:Wk av mv)(hl:∀(E:Env)(V:View)(a:Act),Conc E V s.H->bZ E s.T a.tmps->Lt s.H.length mv):Step lv P r o s (λs'=>s'=(⟨s.T,s.H⟩:AS).put o.dst mv) bad:=λE V a N Q hc ht hd hf n1 n2=>by
 refine h E V a N Q hc ht hd hf (λE' V' a' s' q1 q2 q3 q4=> ?_) n2;subst q4;rw[eZ]at q2;have fy:((⟨s.T,s.H++G⟩:AS).put o.dst av).H8 ((⟨s.T,s.H⟩:AS).put o.dst mv):=by
  refine⟨λt x e=> ?_,⟨G,by rw[eZ,eZ]⟩,by rw[eZ];exact hc.ay⟩;rw[eZ];have hold:look s.T t=some x->Lt s.H.length x:=λe=>by rw[<- hc.n];exact(ht t x e).2.lt
  cases dn:o.dst with
  |none=>
   rw[dn]at e;simp only[AS.put]at e⊢;exact⟨x,e,Wk.refl x,hold e⟩
  |some d=>
   rw[dn]at e;simp only[AS.put,look]at e⊢;by_cases Rm:d=t
   ·rw[if_pos Rm]at e⊢;cases e;exact⟨av,rfl,hw,hl E V a hc ht⟩
   ·rw[if_neg Rm]at e⊢;exact⟨x,e,Wk.refl x,hold e⟩
 have ai:At E' V' ((⟨s.T,s.H++G⟩:AS).put o.dst av) a' a'.tmps.size:=⟨by rw[eZ];exact q2,q3,rfl⟩;have aU:=ai.cut fy;rw[eZ]at aU;refine n1 _ V' a' _ ⟨DR (SQ _) (by rw[q2.n];simp) q1.le hc.n,q1.size,q1.defers,q1.role,q1.deaf⟩ aU.bt aU.tok rfl
end
section
variable {lv:Bool}{P:SI}{r:Option Nat}{o:Tu}{s:AS}{G:List aa}{k:AV->List aa->Prop}
theorem dX{α:Type}{x:Option α}{a:α}{k:α->Prop}(h:x=some a)(hk:k a):ap x k:=by rw[h,ap];exact hk
theorem Qu{x:Option aa}{X Y:Prop}{t:lP X Y}(h:jP x X Y t):((∃a b c,x=some (.own a b c))/\X)\/((∀a b c,x≠some (.own a b c))/\Y):=by
 unfold jP at h;split at h
 ·exact .inl ⟨⟨_,_,_,rfl⟩,h⟩
 ·rename_i hx;exact .inr ⟨λa b c e=>hx a b c e,h⟩
theorem ai6{x:Option aa}{X Y:Prop}{t:lP X Y}{a:Nat}{b:List AV}{c:TypeId}(h:x=some (.own a b c))(hX:X):jP x X Y t:=by subst h;exact hX
theorem ai9{x:Option aa}{X Y:Prop}{t:lP X Y}(h:∀a b c,x≠some (.own a b c))(hY:Y):jP x X Y t:=by
 unfold jP;split
 ·exact absurd rfl (h _ _ _)
 ·exact hY
theorem qG.ex{H:List aa}{n m sz:Nat}{elem:TypeId}{l l':List AV}{e:End}(h:qG G H k n m sz elem l l' e):∃av H',qG G H (λa h=>a=av/\h=H') n m sz elem l l' e/\k av H':=by
 cases e with
 |exact=>
  rcases Qu (t:=⟨0⟩) h with⟨⟨a,b,c,e⟩,h0,h1⟩|⟨e,h1⟩
  ·exact⟨_,_,ai6 (t:=⟨0⟩) e ⟨h0,rfl,rfl⟩,h1⟩
  ·exact⟨_,_,ai9 (t:=⟨0⟩) e ⟨rfl,rfl⟩,h1⟩
 |shut=>exact⟨_,_,⟨h.1,rfl,rfl⟩,h.2⟩
 |opn i=>exact⟨_,_,⟨h.1,h.2.1,rfl,rfl⟩,h.2.2⟩
theorem tJ.ex{H:List aa}{id off n c0 m sz:Nat}{elem:TypeId}{l':List AV}(h:tJ H k id off n c0 m sz elem l'):∃av H',tJ H (λa h=>a=av/\h=H') id off n c0 m sz elem l'/\k av H':=by
 obtain⟨h1,h2,h3,h4,h5,h6⟩:=h;split at h6
 ·rename_i hk;obtain⟨g1,g2,g3,g4⟩:=h6;refine⟨_,_,⟨h1,h2,h3,h4,h5,?_⟩,g4⟩;rw[hk];exact⟨g1,g2,g3,rfl,rfl⟩
 ·exact h6.elim
end
section
variable {lv:Bool}{P:SI}{r:Option Nat}{o:Tu}{s:AS}{next:AS->Prop}{bad:AV->AS->Prop}
theorem acL{t e:TypeId}{len sz:Nat}{z:SO}{parts:Array (Nat×Ti)}{lS:List (Nat×AV)}{l:List AV}(ho:o.op=.buildSlice t len parts)(ht:qP P t=some (e,sz,z))(aW:len* sz<=2^24)(hp:jR s parts.toList=some lS)
  (hl:nY (iq.at (.elems sz)) (gH z (len* sz)) lS=some l) (hn:next ((⟨s.T,s.H++[.cells l e]⟩:AS).put o.dst (.bh s.H.length 0 len len))):Step lv P r o s next bad:=by
 intro E V a N Q hc aG hd bx h1 _;unfold qP at ht;split at ht
 ·rename_i e' hu;obtain⟨i,hi,ht⟩:=Te.1 ht;obtain⟨z',hz,ht⟩:=Tp.1 ht;cases ht;refine⟨bx,?_⟩;unfold execOp;rw[ho];dsimp only;refine aA ?_;unfold Instr.buildSlice;refine dZ hu ?_;dsimp only;refine jL hi ?_;rw[if_neg (by omega)];obtain⟨hlen,bp⟩:=EN aG hp;obtain⟨eF,nj,um⟩:=BT (IY (E:=E) z (len* i.size)) hlen bp hl;have fin:∀(rr:Nat),V.fresh rr->aP P (V.upd rr (.cells eF e)) (pure (W3 (.slice (some ⟨rr,0,none⟩) len len))) (mr lv P r o a N Q) (λv V'=>Q (.panic [{v,recovered:=false}]) a V'):=λrr hf=>by
   have oq:E.Le (E.add rr V.ah):=E.qq rr (λb o v h=>by rw[<- hc.I];exact h);have aY:Conc (E.add rr V.ah) (V.upd rr (.cells eF e)) (s.H++[.cells l e]):=by
    refine hc.add hf _ ⟨⟨_,?_,um.mono oq⟩,λo=> ?_⟩ (λb e=> ?_)
    ·rw[Env.dK];simp[View.upd]
    ·rw[Env.dK];exact hf.2 o
    ·simp only[bL,Env.dK,Tj]at e;exact e.symm
   have oV:aq (E.add rr V.ah) (.bh s.H.length 0 len len) (.slice (some ⟨rr,0,none⟩) len len):=by
    have:=aq.bh (E:=E.add rr V.ah) (id:=s.H.length) (off:=0) (n:=len) (cap:=len) (cap':=len) (by show _<E.n+1;rw[hc.n];omega) ⟨by omega,λ_=>rfl,λh=>absurd h (by omega)⟩;have e:(E.add rr V.ah).blk s.H.length=rr:=(by rw[<- hc.n];exact E.dK rr _);rwa [e]at this
   exact au (h1 _ _ (a.put o.dst _) _ ⟨oq,dU _ _ _,put_defers _ _ _,rfl,rfl⟩ (by rw[eZ];exact aY) (bZ.gR (s:=⟨s.T,s.H++[.cells l e]⟩) (aG.mono oq) hd oV) hn)
  have e2:(λj=>some (j* i.size,i.size))=iq.at (.elems i.size):=rfl;rw[e2];by_cases h0:len* i.size=0
  ·rw[if_pos h0];refine aA (au ?_);rw[h0]at nj⊢;rw[show WG 0=#[]from rfl]at nj⊢;simp only[List.map_toArray,List.map_nil,VI]at nj⊢;rw[nj];unfold newRow;exact aA (aA (aA (oA λrr hf=>cE (au (au (au (fin rr hf)))))))
  ·rw[if_neg h0];refine aA (aA ?_);unfold typeInfo;refine aA (qx (cE ?_));rw[hi];refine au ?_;rw[hz];refine au (aA (au ?_));rw[VI,nj];unfold newRow;exact aA (aA (aA (oA λrr hf=>cE (au (au (au (fin rr hf)))))))
 ·cases ht
end
section
variable {lv:Bool}{P:SI}{r:Option Nat}{o:Tu}{s:AS}{G:List aa}{k:AV->List aa->Prop}
theorem jN.ex(h:jN lv P G s o k):∃av H',jN lv P G s o (λa h=>a=av/\h=H')/\k av H':=by
 unfold jN at h⊢;generalize o.op=op at h⊢;cases op with
 |box t x=>
  obtain⟨a,h1,h⟩:=h.out;obtain⟨l,h2,h⟩:=h.out;exact⟨_,_,dX h1 (dX h2 ⟨rfl,rfl⟩),h⟩
 |alloc t=>
  obtain⟨z,h1,h⟩:=h.out;exact⟨_,_,dX h1 ⟨rfl,rfl⟩,h⟩
 |store t x y=>
  obtain⟨p,h1,hA⟩:=h.out;obtain⟨a,h2,hB⟩:=hA.out;obtain⟨lp,h3,hC⟩:=hB.out;obtain⟨id,off,e1,hD⟩:=BC hC;subst e1;clear h hA hB hC;split at hD
  ·rename_i l el hk;refine⟨_,_,dX h1 (dX h2 (dX h3 ?_)),hD.2.2.2⟩;unfold AV.pH;dsimp only;rw[hk];exact⟨hD.1,hD.2.1,hD.2.2.1,rfl,rfl⟩
  ·rename_i p l el hk;refine⟨_,_,dX h1 (dX h2 (dX h3 ?_)),hD.2.2.2⟩;unfold AV.pH;dsimp only;rw[hk];exact⟨hD.1,hD.2.1,hD.2.2.1,rfl,rfl⟩
  ·exact hD.elim
 |call c=>
  dsimp only at h⊢;generalize c.callee=cl at h⊢;generalize c.args.toList=xs at h⊢;generalize c.argTypes.toList=ts at h⊢;cases cl with
  |builtin b=>
   cases b with
   |append=>
    dsimp only at h⊢;split at h
    ·obtain⟨⟨elem,sz,z⟩,h1,hA⟩:=h.out;obtain⟨a,h2,hB⟩:=hA.out;obtain⟨b,h3,hC⟩:=hB.out;rcases Is hC with⟨id,off,n,c0,e1,hD⟩|⟨n,l,e,e1,hD⟩
     ·obtain⟨⟨m,l'⟩,h4,h5⟩:=hD.out;subst e1;obtain⟨av,H',g1,g2⟩:=h5.ex;refine⟨av,H',dX h1 (dX h2 (dX h3 ?_)),g2⟩;simp only[AV.pI];exact dX h4 g1
     ·obtain⟨⟨m,l'⟩,h4,h5,h6,h7,h8⟩:=hD.out;subst e1;obtain⟨av,H',g1,g2⟩:=h8.ex;refine⟨av,H',dX h1 (dX h2 (dX h3 ?_)),g2⟩;simp only[AV.pI];exact dX h4 ⟨h5,h6,h7,g1⟩
    ·exact h.elim
   |_=>exact h.elim
  |value x=>
   obtain⟨f,h1,hA⟩:=h.out;obtain⟨aE,h2,hB⟩:=hA.out;obtain⟨av,H',g1,g2⟩:=hB;exact⟨av,H',dX h1 (dX h2 ⟨av,H',g1,rfl,rfl⟩),g2⟩
  |invoke x name=>
   obtain⟨f,h1,hA⟩:=h.out;obtain⟨aE,h2,hB⟩:=hA.out;obtain⟨av,H',g1,g2⟩:=hB;exact⟨av,H',dX h1 (dX h2 ⟨av,H',g1,rfl,rfl⟩),g2⟩
 |makeSlice t x y=>
  obtain⟨⟨e,sz,z⟩,h1,hA⟩:=h.out;obtain⟨a,h2,hB⟩:=hA.out;obtain⟨b,h3,hC⟩:=hB.out;obtain⟨j,n,e1,hD⟩:=nT hC;obtain⟨j',n',e2,hE⟩:=nT hD;clear h hA hB hC hD;subst e1 e2;exact⟨_,_,dX h1 (dX h2 (dX h3 ⟨hE.1,hE.2.1,hE.2.2.1,rfl,rfl⟩)),hE.2.2.2⟩
 |buildSlice t len parts=>
  obtain⟨⟨e,sz,z⟩,h1,h2,hA⟩:=h.out;obtain⟨lS,h3,hB⟩:=hA.out;obtain⟨l,h4,hC⟩:=hB.out;exact⟨_,_,dX h1 ⟨h2,dX h3 (dX h4 ⟨rfl,rfl⟩)⟩,hC⟩
 |_=>exact h.elim
theorem jN.step{av:AV}{H':List aa}{bad:AV->AS->Prop}(h:jN lv P G s o (λa h=>a=av/\h=H')):Step lv P r o s (λs'=>s'=(⟨s.T,H'⟩:AS).put o.dst av) bad:=by
 unfold jN at h;split at h
 ·rename_i t x ho;obtain⟨a,h1,h⟩:=h.out;obtain⟨l,h2,h⟩:=h.out;obtain⟨e1,e2⟩:=h;exact acK ho h1 h2 (by rw[e1,e2])
 ·rename_i t ho;obtain⟨z,h1,h⟩:=h.out;obtain⟨e1,e2⟩:=h;exact acH ho h1 (by rw[e1,e2])
 ·rename_i t x y ho;obtain⟨p,h1,hA⟩:=h.out;obtain⟨a,h2,hB⟩:=hA.out;obtain⟨lp,h3,hC⟩:=hB.out;obtain⟨id,off,e1,hD⟩:=BC hC;clear h hA hB hC;subst e1;split at hD
  ·rename_i l el hk;obtain⟨q1,q2,q3,q4,Na⟩:=hD;obtain⟨⟨n,g⟩,q5,q6⟩:=q1.out;exact acP ho q5 h1 hk h2 h3 q6 q2 q3 (by rw[q4,Na])
  ·rename_i p l el hk;obtain⟨q1,q2,q3,q4,Na⟩:=hD;obtain⟨⟨n,g⟩,q5,q6⟩:=q1.out;exact acQ ho q5 h1 hk h2 h3 q6 q2 q3 (by rw[q4,Na])
  ·exact hD.elim
 ·rename_i c ho;split at h
  ·rename_i aX;split at h
   ·rename_i x y t t' ha ht;obtain⟨⟨elem,sz,z⟩,h1,hA⟩:=h.out;obtain⟨a,h2,hB⟩:=hA.out;obtain⟨b,h3,hC⟩:=hB.out;rcases Is hC with⟨id,off,n,c0,e1,hD⟩|⟨n,l,e,e1,hD⟩
    ·clear h hA hB hC;subst e1;obtain⟨⟨m,l'⟩,h4,rfl,g2,g3,g4,g5,hE⟩:=hD.out;split at hE
     ·rename_i hk;obtain⟨rfl,rfl,g6,g7,g8⟩:=hE;exact acI ho aX (mS ha) (rY ht) h1 h2 g2 hk rfl h3 h4 g6 g3 g4 g5 (by rw[g7,g8])
     ·exact hE.elim
    ·clear h hA hB hC;subst e1;obtain⟨⟨m,l'⟩,h4,h5,h6,h7,h8⟩:=hD.out;cases e with
     |exact=>
      rcases Qu (t:=⟨0⟩) h8 with⟨_,h0,e1,e2⟩|⟨_,e1,e2⟩
      ·exact acJ ho aX (mS ha) (rY ht) h1 h2 h3 h4 h5 h6 h7 h0 (by rw[e1,e2])
      ·exact step_append ho aX (mS ha) (rY ht) h1 h2 h3 h4 h5 h6 h7 (by show (_:AS)=_;rw[<- e1,<- e2])
     |shut=>
      obtain⟨e0,e1,e2⟩:=h8;exact step_append ho aX (mS ha) (rY ht) h1 h2 h3 h4 h5 h6 h7 ⟨e0,by rw[<- e1,<- e2]⟩
     |opn i=>
      obtain⟨e0,e0',e1,e2⟩:=h8;exact step_append ho aX (mS ha) (rY ht) h1 h2 h3 h4 h5 h6 h7 ⟨e0,e0',by rw[<- e1,<- e2]⟩
   ·exact h.elim
  ·rename_i x aX;obtain⟨f,h1,hA⟩:=h.out;obtain⟨aE,h2,hB⟩:=hA.out;obtain⟨a0,H0,g1,g2,g3⟩:=hB;subst g2 g3;exact Nw ho aX h1 h2 (g1.mono (λa H h=>by rw[h.1,h.2]) λ_ _ h=>h.elim)
  ·rename_i x name aX;obtain⟨f,h1,hA⟩:=h.out;obtain⟨aE,h2,hB⟩:=hA.out;obtain⟨a0,H0,g1,g2,g3⟩:=hB;subst g2 g3;exact acM ho aX h1 h2 (λE V cv vs hc hd oW=>(g1 E V cv vs hc hd oW).mono (λ_ _ x=>Nx.mono (λ_ _ y=>y.mono (λa H h=>by rw[h.1,h.2]) λ_ _ h=>h.elim) x) λ_ _ y=>y.mono (λa H h=>by rw[h.1,h.2]) λ_ _ h=>h.elim)
  ·exact h.elim
 ·rename_i t x y ho;obtain⟨⟨e,sz,z⟩,h1,hA⟩:=h.out;obtain⟨a,h2,hB⟩:=hA.out;obtain⟨b,h3,hC⟩:=hB.out;obtain⟨j,n,e1,hD⟩:=nT hC;obtain⟨j',n',e2,hE⟩:=nT hD;clear h hA hB hC hD;subst e1 e2;obtain⟨e3,h4,h5,h6,h7⟩:=hE;subst e3;obtain⟨m,rfl⟩:∃m:Nat,n'=m:=⟨n'.toNat,by omega⟩;exact acN ho h1 h2 h3 (by omega) (by rw[VO]at h6 h7;rw[h6,h7])
 ·rename_i t len parts ho;obtain⟨⟨e,sz,z⟩,h1,h2,hA⟩:=h.out;obtain⟨lS,h3,hB⟩:=hA.out;obtain⟨l,h4,h5,h6⟩:=hB.out;exact acL ho h1 h2 h3 h4 (by rw[h5,h6])
 ·exact h.elim
theorem jN.congr{T T':List (Nat×AV)}{H:List aa}(h:∀x∈o.op.operands,AS.ev ⟨T,H⟩ x=AS.ev ⟨T',H⟩ x)(ha:jN lv P G ⟨T,H⟩ o k):jN lv P G ⟨T',H⟩ o k:=by
 unfold jN at ha⊢;generalize o.op=op at h ha⊢;cases op with
 |box t x=>dsimp only at ha⊢;rw[<- h x (by simp[Ts])];exact ha
 |alloc t=>exact ha
 |store t x y=>dsimp only at ha⊢;rw[<- h x (by simp[Ts]),<- h y (by simp[Ts])];exact ha
 |call c=>
  have cJ:∀x∈c.args.toList,AS.ev ⟨T,H⟩ x=AS.ev ⟨T',H⟩ x:=λx hx=>h x (by simp[Ts,VN];exact .inr (by simpa using hx));dsimp only at ha⊢;split at ha
  ·split at ha
   ·rename_i x y t t' hx ht;rw[hx]at cJ;rw[<- cJ x (by simp),<- cJ y (by simp)];exact ha
   ·exact ha.elim
  ·rename_i x aX;rw[<- h x (by simp[Ts,VN,aX]),<- BS _ cJ];exact ha
  ·rename_i x name aX;rw[<- h x (by simp[Ts,VN,aX]),<- BS _ cJ];exact ha
  ·exact ha.elim
 |makeSlice t x y=>dsimp only at ha⊢;rw[<- h x (by simp[Ts]),<- h y (by simp[Ts])];exact ha
 |buildSlice t len parts=>
  have e:jR ⟨T',H⟩ parts.toList=jR ⟨T,H⟩ parts.toList:=by
   have hp:∀p∈parts.toList,AS.ev ⟨T,H⟩ p.2=AS.ev ⟨T',H⟩ p.2:=λp hp=>h p.2 (by simp[Ts];exact⟨p.1,by simpa using hp⟩);clear ha;generalize parts.toList=l at hp;induction l with
   |nil=>rfl
   |cons p l ih=>simp only[jR,hp p TB,ih λq hq=>hp q (Tb _ hq)]
  dsimp only at ha⊢;rw[e];exact ha
 |_=>exact ha.elim
end
def m_ (acc:List (Nat×List Nat))(j:Nat):List Nat:=((acc.find? (·.1==j)).map (·.2)).getD []
def gw (ops:Array Tu):List Nat->List (Nat×List Nat)->List (Nat×List Nat)
 |[],acc=>acc
 |i::l,acc=>match ops[i]?with
  |some o=>gw ops l ((i,(cN o++(cN o).flatMap (m_ acc)).eraseDups)::acc)
  |none=>gw ops l acc
def tI:List Nat->List (List Nat)
 |[]=>[[]]
 |x::l=>tI l++(tI l).map (x::·)
def ws (cl:List (Nat×List Nat))(es:List Nat)(i:Nat)(D:List Nat):Bool:=
 !D.contains i&&es.all λe=>(!(m_ cl i).contains e||D.contains e)&&(!D.contains e||(!(m_ cl e).contains i&&es.all λe'=> !(m_ cl e).contains e'||D.contains e'))
def tj (es:List Nat)(i:Nat)(D:List Nat):List Nat:=es.filter λe=>e==i||D.contains e
structure qK where
 i:Nat
 eff:Bool
 aft:List Nat
 MK:List (List Nat×List Nat)
 deriving DecidableEq
def entry (cl:List (Nat×List Nat))(es X:List Nat)(i:Nat):qK:=
 let cur:=es.filter λe=>X.contains e
 ⟨i,es.contains i,tj es i cur,((tI es).filter λD=>ws cl es i D&&D !=cur).map λD=>(D,tj es i D)⟩
def qv (cl:List (Nat×List Nat))(es:List Nat):List Nat->List Nat->List qK
 |_,[]=>[]
 |X,i::B=>entry cl es X i::qv cl es (i::X) B
def abH (ops:Array Tu)(es ord:List Nat):List qK:=qv (gw ops ord []) es [] ord
def j6 (ops:Array Tu):List Nat->List Nat->Bool
 |_,[]=>true
 |X,i::B=> !X.contains i&&(match ops[i]?with
  |some o=>(cN o).all X.contains
  |none=>false)&&j6 ops (i::X) B
def qV (nt:Nat)(ops:Array Tu)(es ord:List Nat):Bool:=
 let cl:=gw ops ord [];decide (ord.length=ops.size)&&j6 ops [] ord&&ord.all λi=>match ops[i]?with
  |some o=>o.dst.all (·<nt)&& !l8 o.op&&o.guard.isNone&&
   (ord.all λj=>i==j||match o.dst,cW ops j with
    |some d,some d'=>d !=d'
    |_,_=>true)&&
   (o.op.operands.toList.all λx=>match x with
    |.tmp t=>ord.all λj=>cW ops j !=some t||(cN o).contains j||(m_ cl j).contains i
    |_=>true)
  |none=>false
theorem Qx{acc:List (Nat×List Nat)}{j k:Nat}(h:k∈m_ acc j):∃l,(j,l)∈acc/\k∈l:=by
 unfold m_ at h;cases e:acc.find? (·.1==j)with
 |none=>rw[e]at h;simp at h
 |some x=>
  rw[e]at h;obtain⟨j',l⟩:=x;have h1:=List.mem_of_find?_eq_some e;have h2:=List.find?_some e;simp only[beq_iff_eq]at h2;subst h2;exact⟨l,h1,by simpa using h⟩
theorem IL{ops:Array Tu}:∀(ord:List Nat)(acc:List (Nat×List Nat)),(∀i l,(i,l)∈acc->∀j∈l,Reach ops i j)->∀i l,(i,l)∈gw ops ord acc->∀j∈l,Reach ops i j
 |[],acc,h=>h
 |x::ord,acc,h=>by
  unfold gw;split
  ·rename_i o ho;refine IL ord _ λi l hm j hj=> ?_;rcases SK.1 hm with e|hm
   ·cases e;rw[Y8,SS]at hj;rcases hj with hj|hj
    ·exact .I8 ho hj
    ·obtain⟨k,hk,hj⟩:=S6.1 hj;obtain⟨l',h1,h2⟩:=Qx hj;exact .more ho hk (h _ _ h1 _ h2)
   ·exact h i l hm j hj
  ·exact IL ord acc h
theorem ze{ops:Array Tu}{ord:List Nat}{i j:Nat}(h:j∈m_ (gw ops ord []) i):Reach ops i j:=by
 obtain⟨l,h1,h2⟩:=Qx h;exact IL ord [] (by simp) i l h1 j h2
theorem ET(p:Nat->Bool):∀l:List Nat,l.filter p∈tI l
 |[]=>by simp[tI]
 |x::l=>by
  unfold tI;rw[SS];by_cases h:p x=true
  ·rw[Yu h];exact .inr (Tl.2 ⟨_,ET p l,rfl⟩)
  ·rw[Yv h];exact .inl (ET p l)
structure yM (nt:Nat)(ops:Array Tu)(ord:List Nat):Prop where
 full:∀i,i<ops.size->i∈ord
 lt:∀i∈ord,i<ops.size
 top:j6 ops [] ord=true
 dst:∀(i:Nat) o d,ops[i]?=some o->o.dst=some d->d<nt
 vC:∀(i:Nat) o,ops[i]?=some o->l8 o.op=false
 B5:∀(i:Nat) o,ops[i]?=some o->o.guard=none
 AX:∀(i j d:Nat),cW ops i=some d->cW ops j=some d->i=j
 MI:∀(i:Nat) o t j,ops[i]?=some o-> .tmp t∈o.op.operands->cW ops j=some t->j∈cN o\/Reach ops j i
theorem DN{ops:Array Tu}:∀{ord X:List Nat},j6 ops X ord=true->ord.Nodup/\(∀i∈ord,i∉X)/\∀i∈ord,i<ops.size
 |[],_,_=>⟨WI,by simp,by simp⟩
 |i::B,X,h=>by
  simp only[j6,Tg,TZ,Uq,decide_eq_false_iff_not]at h;obtain⟨⟨h1,h2⟩,h3⟩:=h;obtain⟨q1,q2,q3⟩:=DN h3;refine⟨VD.2 ⟨λhm=>q2 i hm (TB ..),q1⟩,λj hj=> ?_,λj hj=> ?_⟩
  ·rcases SK.1 hj with rfl|hj
   ·exact h1
   ·exactλhx=>q2 j hj (Tb _ hx)
  ·rcases SK.1 hj with rfl|hj
   ·apply Tt;intro hn;rw[YA (by omega)]at h2;cases h2
   ·exact q3 j hj
theorem qV.out{nt:Nat}{ops:Array Tu}{es ord:List Nat}(h:qV nt ops es ord=true):yM nt ops ord:=by
 unfold qV at h;simp only[Tg,decide_eq_true_eq]at h;obtain⟨⟨hlen,nA⟩,h⟩:=h;obtain⟨v6,_,hlt⟩:=DN nA;have zP:∀i,i<ops.size->i∈ord:=λi hi=>by
  apply Tt;intro hn;have lD:(i::ord)⊆SV ops.size:=λj hj=>by
   rcases SK.1 hj with rfl|hj
   ·simpa using hi
   ·simpa using hlt j hj
  have:=(VD.2 ⟨hn,v6⟩).length_le_of_subset lD;simp at this;omega
 have key:∀(i:Nat) o,ops[i]?=some o->o.dst.all (·<nt)=true/\l8 o.op=false/\o.guard.isNone=true/\(∀j∈ord,(i==j||match o.dst,cW ops j with
    |some d,some d'=>d !=d'
    |_,_=>true)=true)/\(∀x∈o.op.operands.toList,(match x with
    |.tmp t=>ord.all λj=>cW ops j !=some t||(cN o).contains j||(m_ (gw ops ord []) j).contains i
    |_=>true)=true):=λi o ho=>by
  have hi:i<ops.size:=(SR.1 ho).1;have:=Tv.1 h i (zP i hi);rw[ho]at this;simp only[Tg,Tv,TZ]at this;exact⟨this.1.1.1.1,this.1.1.1.2,this.1.1.2,this.1.2,this.2⟩
 have Rj:∀j d,cW ops j=some d->j<ops.size:=λj d e=>by
  apply Tt;intro hn;rw[cW,YA (by omega)]at e;cases e
 refine⟨zP,hlt,nA,λi o d ho hd=> ?_,λi o ho=>(key i o ho).2.1,λi o ho=>by simpa using(key i o ho).2.2.1,λi j d hi hj=> ?_,λi o t j ho ht hj=> ?_⟩
 ·have:=(key i o ho).1;rw[hd]at this;simpa using this
 ·apply Tt;intro aI;obtain⟨o,ho,sO⟩:=Te.1 hi;have:=(key i o ho).2.2.2.1 j (zP j (Rj j d hj));rw[sO,hj]at this;simp[aI]at this
 ·have:=(key i o ho).2.2.2.2 (.tmp t) (by simpa using ht);simp only[Tv]at this;have:=this j (zP j (Rj j t hj));rw[hj]at this;simp only[bne_self_eq_false,XT,X5,Uq,decide_eq_true_eq]at this;exact this.imp id ze
section
variable (lv:Bool)(P:SI)(Hf:List Nat->List aa)
def BQ (T:List (Nat×AV))(o:Tu)(av:AV):List (List Nat×List Nat)->Prop
 |[]=>True
 |(D,_)::l=>(AQ lv P ⟨T,Hf D⟩ o λa=>a=av)/\BQ T o av l
def BE (T:List (Nat×AV))(o:Tu)(av:AV):List (List Nat×List Nat)->Prop
 |[]=>True
 |(D,D')::l=>(jN lv P (Hf D') ⟨T,Hf D⟩ o λa H'=>a=av/\H'=Hf D')/\BE T o av l
structure Ba (K:AS->Prop):Type where
 n:Nat
def fQ (ops:Array Tu):List qK->AS->(K:AS->Prop)->Ba K->Prop
 |[],s,K,_=>K s
 |⟨i,false,_,l⟩::rest,s,K,t=>ap (ops[i]?) λo=>AQ lv P s o λav=>BQ lv P Hf s.T o av l/\fQ ops rest (s.put o.dst av) K t
 |⟨i,true,D,l⟩::rest,s,K,t=>ap (ops[i]?) λo=>jN lv P (Hf D) s o λav H'=>H'=Hf D/\BE lv P Hf s.T o av l/\fQ ops rest ((⟨s.T,H'⟩:AS).put o.dst av) K t
end
def TX (ops:Array Tu)(T0:List (Nat×AV))(f:Nat->AV):List Nat->List (Nat×AV)
 |[]=>T0
 |i::X=>match cW ops i with
  |some d=>(d,f i)::TX ops T0 f X
  |none=>TX ops T0 f X
section
variable {ops:Array Tu}{T0:List (Nat×AV)}{f g:Nat->AV}
theorem Bm:∀{X:List Nat},(∀j∈X,f j=g j)->TX ops T0 f X=TX ops T0 g X
 |[],_=>rfl
 |i::X,h=>by
  simp only[TX,Bm (X:=X) λj hj=>h j (Tb _ hj),h i (TB ..)]
theorem Bn(aae:∀(i j d:Nat),cW ops i=some d->cW ops j=some d->i=j):∀{X:List Nat}{j t:Nat},j∈X->cW ops j=some t->look (TX ops T0 f X) t=some (f j)
 |i::X,j,t,hj,ht=>by
  by_cases jY:i=j
  ·subst jY;simp[TX,ht,look]
  ·have iw:j∈X:=(SK.1 hj).resolve_left (Ne.symm jY);have ih:=Bn aae (X:=X) iw ht;unfold TX;split
   ·rename_i d hd;have:d≠t:=λe=>jY (aae i j d hd (by rw[e];exact ht));simp only[look,if_neg this];exact ih
   ·exact ih
theorem wV:∀{X:List Nat}{t:Nat},(∀j∈X,cW ops j≠some t)->look (TX ops T0 f X) t=look T0 t
 |[],_,_=>rfl
 |i::X,t,h=>by
  have ih:=wV (X:=X) (t:=t) λj hj=>h j (Tb _ hj);unfold TX;split
  ·rename_i d hd;have:d≠t:=λe=>h i (TB ..) (by rw[hd,e]);simp only[look,if_neg this];exact ih
  ·exact ih
theorem wW{H:List aa}{X:List Nat}{i:Nat}{o:Tu}{av:AV}(ho:ops[i]?=some o)(hf:f i=av):(⟨TX ops T0 f X,H⟩:AS).put o.dst av=⟨TX ops T0 f (i::X),H⟩:=by
 have hd:cW ops i=o.dst:=by simp[cW,ho]
 have e:TX ops T0 f (i::X)=match cW ops i with
  |some d=>(d,f i)::TX ops T0 f X
  |none=>TX ops T0 f X:=rfl
 rw[e,hd];cases o.dst with
 |none=>rfl
 |some d=>simp[AS.put,hf]
def kC (ops:Array Tu)(X:List Nat):Prop:=∀i∈X,∀o,ops[i]?=some o->∀j∈cN o,j∈X
theorem kC.reach{X:List Nat}(hX:kC ops X){i j:Nat}(hi:i∈X)(h:Reach ops i j):j∈X:=AD hX h λo ho k hk=>hX i hi o ho k hk
theorem kC.cons{X:List Nat}(hX:kC ops X){i:Nat}{o:Tu}(ho:ops[i]?=some o)(hd:∀j∈cN o,j∈X):kC ops (i::X):=λk hk o' bf j hj=>by
 rcases SK.1 hk with rfl|hk
 ·rw[ho]at bf;cases bf;exact Tb _ (hd j hj)
 ·exact Tb _ (hX k hk o' bf j hj)
theorem adQ{nt:Nat}{ord:List Nat}(ay:yM nt ops ord){X X':List Nat}{i:Nat}{o:Tu}(ho:ops[i]?=some o)(hX:kC ops X)(oc:kC ops X')(hi:i∉X)(cw:i∉X')(hd:∀j∈cN o,j∈X)(cu:∀j∈cN o,j∈X'){t:Nat}(ht: .tmp t∈o.op.operands):
  look (TX ops T0 f X) t=look (TX ops T0 f X') t:=by
 by_cases hex:∃j,cW ops j=some t
 ·obtain⟨j,hj⟩:=hex;rcases ay.MI i o t j ho ht hj with h|h
  ·rw[Bn ay.AX (hd j h) hj,Bn ay.AX (cu j h) hj]
  ·rw[wV λj' iw e=>hi (hX.reach (ay.AX j j' t hj e▸iw) h),wV λj' iw e=>cw (oc.reach (ay.AX j j' t hj e▸iw) h)]
 ·rw[wV λj _ e=>hex ⟨j,e⟩,wV λj _ e=>hex ⟨j,e⟩]
end
section
variable {lv:Bool}{P:SI}{r:Option Nat}{ops:Array Tu}{Hf:List Nat->List aa}{T0:List (Nat×AV)}{es ord:List Nat}{nt:Nat}
def done (es X:List Nat):List Nat:=es.filter λe=>X.contains e
theorem EK{X:List Nat}{i:Nat}:tj es i (done es X)=done es (i::X):=by
 unfold tj done;apply Vj;intro e he;by_cases h:e=i
 ·subst h;simp
 ·simp[Uw,he,h]
theorem I1{X:List Nat}{i:Nat}(hi:i∉es):done es (i::X)=done es X:=by
 unfold done;apply Vj;intro e he;have:e≠i:=λh=>hi (h▸he);simp[this]
theorem I2{X:List Nat}(hX:kC ops X){i:Nat}{o:Tu}(ho:ops[i]?=some o)(hi:i∉X)(hd:∀j∈cN o,j∈X):ws (gw ops ord []) es i (done es X)=true:=by
 have cR:∀e,e∈es->(e∈done es X<->e∈X):=λe he=>by simp[done,Uw,he]
 have hX2:=hX.cons ho hd;unfold ws;simp only[Tg,TZ,Uq,decide_eq_false_iff_not,Tv,X5,decide_eq_true_eq];refine⟨λh=>hi (by simpa[done]using(Uw.1 h).2),λe he=>⟨?_,?_⟩⟩
 ·by_cases h:e∈m_ (gw ops ord []) i
  ·right;rw[cR e he];exact AD hX (ze h) λo' bf k hk=>by rw[ho]at bf;cases bf;exact hd k hk
  ·exact .inl h
 ·by_cases h:e∈X
  ·right;refine⟨λhm=>hi (hX.reach h (ze hm)),λe' jW=> ?_⟩;by_cases hm:e'∈m_ (gw ops ord []) e
   ·right;rw[cR e' jW];exact hX.reach h (ze hm)
   ·exact .inl hm
  ·left;rw[cR e he];exact h
def OB (lv:Bool)(P:SI)(r:Option Nat)(ops:Array Tu)(Hf:List Nat->List aa)(T0:List (Nat×AV))(es:List Nat)(f:Nat->AV)(i:Nat)(o:Tu)(X:List Nat):Prop:=
 if i∈es then jN lv P (Hf (done es (i::X))) ⟨TX ops T0 f X,Hf (done es X)⟩ o (λa H'=>a=f i/\H'=Hf (done es (i::X)))
 else∃T,(∀t a,look T t=some a->look (TX ops T0 f X) t=some a)/\dz lv P r o ⟨T,Hf (done es X)⟩ (f i)
theorem BQ.mem{T:List (Nat×AV)}{o:Tu}{av:AV}:∀{l:List (List Nat×List Nat)},BQ lv P Hf T o av l->∀p∈l,AQ lv P ⟨T,Hf p.1⟩ o λa=>a=av
 |(D,D')::l,h,p,hp=>by
  rcases SK.1 hp with rfl|hp
  ·exact h.1
  ·exact BQ.mem h.2 p hp
theorem BE.mem{T:List (Nat×AV)}{o:Tu}{av:AV}:∀{l:List (List Nat×List Nat)},BE lv P Hf T o av l->∀p∈l,jN lv P (Hf p.2) ⟨T,Hf p.1⟩ o λa H'=>a=av/\H'=Hf p.2
 |(D,D')::l,h,p,hp=>by
  rcases SK.1 hp with rfl|hp
  ·exact h.1
  ·exact BE.mem h.2 p hp
def canon (T:List (Nat×AV)):List Ti->List (Nat×AV)
 |[]=>[]
 |.tmp t::l=>match look T t with
  |some a=>(t,a)::canon T l
  |none=>canon T l
 |_::l=>canon T l
theorem IJ{T:List (Nat×AV)}:∀{l:List Ti}{t:Nat}{a:AV},look (canon T l) t=some a->look T t=some a
 |[],_,_,h=>by cases h
 |x::l,t,a,h=>by
  have ih:=@IJ T l t a;cases x with
  |tmp t'=>
   simp only[canon]at h;split at h
   ·rename_i b hb;simp only[look]at h;split at h
    ·rename_i e;subst e;cases h;exact hb
    ·exact ih h
   ·exact ih h
  |_=>exact ih h
theorem Pb{T:List (Nat×AV)}:∀{l:List Ti}{t:Nat},.tmp t∈l->look (canon T l) t=look T t
 |x::l,t,h=>by
  by_cases hx:x=.tmp t
  ·subst hx;simp only[canon];split
   ·rename_i b hb;simp[look,hb]
   ·rename_i hb;rw[hb];cases e:look (canon T l) t with
    |none=>rfl
    |some a=>have:=IJ e;rw[hb]at this;cases this
  ·have hm: .tmp t∈l:=(SK.1 h).resolve_left (Ne.symm hx);have ih:=Pb (T:=T) hm;cases x with
   |tmp t'=>
    have aI:t'≠t:=λe=>hx (by rw[e]);simp only[canon];split
    ·simp only[look,if_neg aI];exact ih
    ·exact ih
   |_=>exact ih
theorem Pa{T:List (Nat×AV)}:∀{l:List Ti}{t:Nat}{a:AV},look (canon T l) t=some a-> .tmp t∈l
 |[],_,_,h=>by cases h
 |x::l,t,a,h=>by
  have ih:=@Pa T l t a;cases x with
  |tmp t'=>
   simp only[canon]at h;split at h
   ·simp only[look]at h;split at h
    ·rename_i e;subst e;exact TB ..
    ·exact Tb _ (ih h)
   ·exact Tb _ (ih h)
  |_=>exact Tb _ (ih h)
theorem O_{T:List (Nat×AV)}{H:List aa}{l:List Ti}{x:Ti}(h:x∈l):AS.ev ⟨T,H⟩ x=AS.ev ⟨canon T l,H⟩ x:=by
 cases x with
 |tmp t=>exact(Pb h).symm
 |_=>rfl
theorem BI(ay:yM nt ops ord){K:AS->Prop}{tk:Ba K}:∀(B X:List Nat)(acc:Nat->AV),j6 ops X B=true->kC ops X->fQ lv P Hf ops (qv (gw ops ord []) es X B) ⟨TX ops T0 acc X,Hf (done es X)⟩ K tk->
  ∃f,(∀j∈X,f j=acc j)/\(∀i∈B,∀o,ops[i]?=some o->∀X',kC ops X'->i∉X'->(∀j∈cN o,j∈X')->OB lv P r ops Hf T0 es f i o X')/\K ⟨TX ops T0 f (B.reverse++X),Hf (done es (B.reverse++X))⟩
 |[],X,acc,_,_,h=>⟨acc,λ_ _=>rfl,by simp,by simpa[qv,fQ]using h⟩
 |i::B,X,acc,nA,hX,h=>by
  have att:=nA;simp only[j6,Tg,TZ,Uq,decide_eq_false_iff_not]at nA;obtain⟨⟨hi,h2⟩,h3⟩:=nA;cases ho:ops[i]?with
  |none=>rw[ho]at h2;cases h2
  |some o=>
  rw[ho]at h2;have hd:∀j∈cN o,j∈X:=λj hj=>by have:=Tv.1 h2 j hj;simpa using this
  have oc:=hX.cons ho hd;have ate:ws (gw ops ord []) es i (done es X)=true:=I2 hX ho hi hd;have MK:∀D,D∈tI es->ws (gw ops ord []) es i D=true->D≠done es X->(D,tj es i D)∈((tI es).filter λD=>ws (gw ops ord []) es i D&&D !=done es X).map λD=>(D,tj es i D):=λD h1 h2 h3=>Tl.2 ⟨D,Uw.2 ⟨h1,by simp[h2,h3]⟩,rfl⟩;have Oj:∀av:AV,TX ops T0 acc X=TX ops T0 (λj=>if j=i then av else acc j) X:=λav=>Bm λj hj=>by
   have:j≠i:=λe=>hi (e▸hj);simp[this]
  have seen:∀(f:Nat->AV) X',(∀j∈X,f j=acc j)->kC ops X'->i∉X'->(∀j∈cN o,j∈X')->∀(H:List aa),∀x∈o.op.operands,AS.ev ⟨TX ops T0 acc X,H⟩ x=AS.ev ⟨TX ops T0 f X',H⟩ x:=λf X' hf hc hn cu H x hx=>by
   cases x with
   |tmp t=>
    show look _ t=look _ t;rw[<- Bm (f:=f) (g:=acc) hf];exact adQ ay ho hX hc hi hn hd cu hx
   |_=>rfl
  unfold qv at h;by_cases du:i∈es
  ·have Ks:entry (gw ops ord []) es X i=⟨i,true,tj es i (done es X),((tI es).filter λD=>ws (gw ops ord []) es i D&&D !=done es X).map λD=>(D,tj es i D)⟩:=by
    unfold entry done;simp[du]
   rw[Ks,fQ,ho,ap]at h;obtain⟨av,H',g1,e1,g2,g3⟩:=h.ex;subst e1;rw[EK]at g1 g3;rw[Oj av,wW ho (by simp)]at g3;obtain⟨f,q1,q2,q3⟩:=BI ay B (i::X) _ h3 oc g3;have Ku:f i=av:=(by have:=q1 i (TB ..);simpa using this);have Cq:∀j∈X,f j=acc j:=λj hj=>by
    have:=q1 j (Tb _ hj);have aI:j≠i:=λe=>hi (e▸hj);simpa[aI]using this
   refine⟨f,Cq,λk hk o' bf X' hc hn cu=> ?_,by simpa using q3⟩;rcases SK.1 hk with rfl|hk
   ·rw[ho]at bf;cases bf;unfold OB;rw[if_pos du,Ku];refine jN.congr (T:=TX ops T0 acc X) (seen f X' Cq hc hn cu _) ?_;by_cases hD:done es X'=done es X
    ·rw[<- EK,hD,EK];exact g1
    ·have:=g2.mem _ (MK _ (ET _ es) (I2 hc ho hn cu) hD);rw[<- EK];exact this
   ·exact q2 k hk o' bf X' hc hn cu
  ·have Ks:entry (gw ops ord []) es X i=⟨i,false,tj es i (done es X),((tI es).filter λD=>ws (gw ops ord []) es i D&&D !=done es X).map λD=>(D,tj es i D)⟩:=by
    unfold entry done;simp[du]
   rw[Ks,fQ,ho,ap]at h;have h':=AQ.congr (T':=canon (TX ops T0 acc X) o.op.operands.toList) (λx hx=>O_ (by simpa using hx)) h;obtain⟨av,g1,g2,g3⟩:=h'.sound (r:=r);rw[Oj av,wW ho (by simp),<- I1 (X:=X) du]at g3;obtain⟨f,q1,q2,q3⟩:=BI ay B (i::X) _ h3 oc g3;have Ku:f i=av:=(by have:=q1 i (TB ..);simpa using this);have Cq:∀j∈X,f j=acc j:=λj hj=>by
    have:=q1 j (Tb _ hj);have aI:j≠i:=λe=>hi (e▸hj);simpa[aI]using this
   refine⟨f,Cq,λk hk o' bf X' hc hn cu=> ?_,by simpa using q3⟩;rcases SK.1 hk with rfl|hk
   ·rw[ho]at bf;cases bf;unfold OB;rw[if_neg du,Ku];refine⟨canon (TX ops T0 acc X) o.op.operands.toList,λt a e=> ?_,?_⟩
    ·have h1:=seen f X' Cq hc hn cu [] (.tmp t) (by simpa using Pa e);have h2:look (TX ops T0 acc X) t=look (TX ops T0 f X') t:=h1;rw[<- h2];exact IJ e
    ·by_cases hD:done es X'=done es X
     ·rw[hD];exact g1
     ·have h1:=g2.mem _ (MK _ (ET _ es) (I2 hc ho hn cu) hD);have h2:=AQ.congr (T':=canon (TX ops T0 acc X) o.op.operands.toList) (λx hx=>O_ (by simpa using hx)) h1;obtain⟨mv,h3,rfl⟩:=h2.sound (r:=r);exact h3
   ·exact q2 k hk o' bf X' hc hn cu
theorem Ek{f:Nat->AV}(ay:yM nt ops ord){X X':List Nat}(h:∀i,i∈X<->i∈X')(t:Nat):look (TX ops T0 f X) t=look (TX ops T0 f X') t:=by
 by_cases hex:∃j∈X,cW ops j=some t
 ·obtain⟨j,hj,hd⟩:=hex;rw[Bn ay.AX hj hd,Bn ay.AX ((h j).1 hj) hd]
 ·rw[wV λj hj e=>hex ⟨j,hj,e⟩,wV λj hj e=>hex ⟨j,(h j).2 hj,e⟩]
theorem EL{X X':List Nat}(h:∀i,i∈X<->i∈X'):done es X=done es X':=by
 unfold done;apply Vj;intro e _;have:=h e;by_cases h1:e∈X
 ·have h2:=this.1 h1;simp[h1,h2]
 ·have h2:e∉X':=λx=>h1 (this.2 x);simp[h1,h2]
theorem agI{f:Nat->AV}(ay:yM nt ops ord)(az:∀i∈ord,∀o,ops[i]?=some o->∀X',kC ops X'->i∉X'->(∀j∈cN o,j∈X')->OB lv P r ops Hf T0 es f i o X'){X l:List Nat}(hs:lQ ops X l):
  (∀i∈X,i<ops.size)->kC ops X->∀(E:Env)(V:View)(a:Act)(Q:Ex->Act->View->Prop),At E V ⟨TX ops T0 f X,Hf (done es X)⟩ a nt->
   (∀E' V' a' X',Kept E E' V V' a a'->At E' V' ⟨TX ops T0 f X',Hf (done es X')⟩ a' nt->(∀i,i∈X'<->i<ops.size)->Q .normal a' V')->dj lv P r ops Q l a V:=by
 induction hs with
 |nil X h=>
  intro hX hc E V a Q ai hQ;exact hQ E V a X (Kept.refl E V a) ai λi=>⟨hX i,h i⟩
 |cons o ho hn hd lA ih=>
  rename_i X i l;intro hX hc E V a Q ai hQ;have hi:i<ops.size:=(SR.1 ho).1;simp only[dj,ho];have oc:∀k∈i::X,k<ops.size:=λk hk=>(SK.1 hk).elim (λe=>by rw[e];exact hi) (hX k);have aY:=hc.cons ho hd;have hw:Th o (yielded ops a.tmps)=true:=by unfold Th;rw[ay.B5 i o ho]
  rw[if_pos hw];refine .inl ?_;have dn:∀d,o.dst=some d->d<a.tmps.size:=λd e=>by rw[ai.size];exact ay.dst i o d ho e
  have ly:=az i (ay.full i hi) o ho X hc hn hd;unfold OB at ly;by_cases du:i∈es
  ·rw[if_pos du]at ly;have aR:=ly.step (r:=r) (bad:=λ_ _=>False);refine aR E V a _ Q ai.bt ai.tok dn (.inr (ay.vC i o ho)) (λE' V' a' s' hk cL ht e=> ?_) λ_ _ _ _ _ _ _ _ _ h=>h.elim;subst e;rw[wW ho rfl]at ht cL;exact ih oc aY E' V' a' Q ⟨cL,ht,hk.size.trans ai.size⟩ λbO aS b8 mu aJ de fx=>hQ bO aS b8 mu (hk.trans aJ) de fx
  ·rw[if_neg du]at ly;obtain⟨T,hT,hq⟩:=ly;refine hq E V a _ Q ai.bt (λt av e=>ai.tok t av (hT t av e)) (.inr (ay.vC i o ho)) λE' V' v hle bW eQ cL hv=> ?_;have ht:bZ E' ((⟨TX ops T0 f X,Hf (done es X)⟩:AS).put o.dst (f i)).T (a.put o.dst v).tmps:=bZ.gR (s:=⟨TX ops T0 f X,Hf (done es X)⟩) (ai.tok.mono hle) dn hv;rw[wW ho rfl]at ht;refine ih oc aY E' V' (a.put o.dst v) Q ⟨by rw[I1 du];exact cL,ht,(dU _ _ _).trans ai.size⟩ λbO aS b8 mu hk de fx=>
    hQ bO aS b8 mu ⟨hle.trans hk.le,hk.size.trans (dU _ _ _),hk.defers.trans (put_defers _ _ _),hk.role.trans bW,hk.deaf.trans eQ⟩ de fx
theorem afg{s:AS}{id:Nat}{Φ:ao->AS->Prop}(es ord:List Nat)(pl:List qK)(Hf:List Nat->List aa)(hm:P.follows .mixedOrders=true)(ay:qV nt ops es ord=true)(da:abH ops es ord=pl)(h0:s.H=Hf [])
  (h:fQ lv P Hf ops pl s (Φ .normal) ⟨0⟩):aQ lv P r nt (.region id ops true) s Φ:=by
 intro E V a Q ai hQ;have ay:=qV.out ay;obtain⟨v6,_,hlt⟩:=DN ay.top;have cx:s=⟨TX ops s.T (λ_=> .val undef) [],Hf (done es [])⟩:=by
  have:done es []=[]:=by simp[done]
  rw[this,<- h0];rfl
 subst da;have h':fQ lv P Hf ops (qv (gw ops ord []) es [] ord) ⟨TX ops s.T (λ_=> .val undef) [],Hf (done es [])⟩ (Φ .normal) ⟨0⟩:=by rw[<- cx];exact h
 obtain⟨f,_,q2,q3⟩:=BI (r:=r) ay ord [] _ ay.top (λi hi=>by cases hi) h';have zP:∀i,i∈ord<->i<ops.size:=λi=>⟨hlt i,ay.full i⟩;refine NU λt=> ?_;rw[show VJ (P.follows .mixedOrders) ops t=UH .any ops ops.size t (TK ops.size false) [] by unfold VJ;rw[hm];simp[Y_]];have binds:∀(A B:List Nat)(X:List Nat),j6 ops X (A++B)=true->True:=λ_ _ _ _=>trivial;have ready:∀(ord X:List Nat),j6 ops X ord=true->∀A i B,ord=A++i::B->∃o,ops[i]?=some o/\∀j∈cN o,j∈A\/j∈X:=by
  intro ord;induction ord with
  |nil=>intro X _ A i B e;cases A<;>cases e
  |cons x l ih=>
   intro X nA A i B e;simp only[j6,Tg,TZ,Uq,decide_eq_false_iff_not]at nA;obtain⟨⟨h1,h2⟩,h3⟩:=nA;cases A with
   |nil=>
    have e1:x=i:=(by have:=congrArg List.head? e;simpa using this);rw[e1]at h2;cases ho:ops[i]?with
    |none=>rw[ho]at h2;cases h2
    |some o=>
     rw[ho]at h2;exact⟨o,rfl,λj hj=> .inr (by have:=Tv.1 h2 j hj;simpa using this)⟩
   |cons y A=>
    cases e;obtain⟨o,ho,hb⟩:=ih (x::X) h3 A i B rfl;refine⟨o,ho,λj hj=> ?_⟩;rcases hb j hj with h|h
    ·exact .inl (Tb _ h)
    ·rcases SK.1 h with rfl|h
     ·exact .inl (TB ..)
     ·exact .inr h
 have hs:=Mm (ops:=ops) (λi o ho j hj=>by
   obtain⟨A,B,e⟩:=List.append_of_mem (ay.full i (SR.1 ho).1);obtain⟨o',bf,hb⟩:=ready ord [] ay.top A i B e;rw[ho]at bf;cases bf;rcases hb j hj with h|h
   ·exact hlt j (by rw[e];exact Tf _ h)
   ·cases h)
  (λX ⟨i,hi,hn⟩=>by
   obtain⟨A,i',B,e,h1,h2⟩:=Jv (X:=X) ⟨i,ay.full i hi,hn⟩;obtain⟨o',bf,hb⟩:=ready ord [] ay.top A i' B e;refine⟨i',o',bf,h1,λj hj=> ?_⟩;rcases hb j hj with h|h
   ·exact h2 j h
   ·cases h)
  ops.size t (TK ops.size false) [] ⟨by simp,λi hi=>by simp[hi]⟩ (UL Y2 (by simp))
 have sL:At E V ⟨TX ops s.T f [],Hf (done es [])⟩ a nt:=by
  have e:(⟨TX ops s.T f [],Hf (done es [])⟩:AS)=s:=cx.symm;rw[e];exact ai
 refine agI (Hf:=Hf) (es:=es) ay q2 hs (by simp) (λi hi=>by cases hi) E V a Q sL λE' V' a' X' hk aU fx=> ?_;have fz:∀i,i∈X'<->i∈ord.reverse++[]:=λi=>by simp[fx,zP]
 refine hQ .normal .normal E' V' a' _ hk ⟨?_,λt x e=> ?_,aU.size⟩ trivial q3
 ·rw[<- EL fz];exact aU.bt
 ·rw[<- Ek ay fz]at e;exact aU.tok t x e
end
open Go.Proofs
theorem F.N_:ld SA 77=(SM Go.Gg.yS.map):=by kernel_rfl
theorem F.Og:eE SA 4=(SM (W_ Bool.false)):=by kernel_rfl
theorem F.Oh:eE SA 88=(SM (TD #[(W_ Bool.false),(Zq Option.none),(SF S5 (0)),(SF S5 (0)),(SF S5 (0)),(SF S5 (0)),(SF S5 (0)),(SF S5 (0)),(SF S5 (0)),(SF S5 (0)),(SF S5 (0)),(SF S5 (0)),(SF S5 (0)),(SF S5 (0)),(SF S5 (0)),(SF S5 (0)),(SF S5 (0)),(SF SD (0)),(SF SD (0)),(SF SD (0)),(SF SD (0)),(SF SD (0)),(SF SD (0)),(SF SD (0)),(SF SD (0)),(SF SD (0)),(SF SD (0)),(SF SD (0))])):=by kernel_rfl
theorem F.alw:l9 SA 116=(SM Bool.false):=by kernel_rfl
theorem F.C0:l9 SA 126=(SM Bool.true):=by kernel_rfl
theorem F.L1:l9 SA 136=(SM Bool.false):=by kernel_rfl
theorem F.alx:l9 SA 156=(SM Bool.false):=by kernel_rfl
theorem F.aan:l9 SA 97=(SM Bool.false):=by kernel_rfl
theorem F.f31:SA.funcs[31]?=some Tryz.f31:=by kernel_rfl
theorem F.f71:SA.funcs[71]?=some Tryz.f71:=by kernel_rfl
theorem F.f77:SA.funcs[77]?=some XL:=by kernel_rfl
theorem F.f91:SA.funcs[91]?=some Tryz.f91:=by kernel_rfl
theorem F.f95:SA.funcs[95]?=some Tryz.f95:=by kernel_rfl
theorem F.f97:SA.funcs[97]?=some asg:=by kernel_rfl
theorem F.mixed:SA.follows .mixedOrders=true:=by kernel_rfl
inductive dI (lv:Bool)(P:SI)(r:Option Nat)(nt:Nat):T6->(ao->AS->Prop)->T6->(ao->AS->Prop)->Prop
 |base {c:T6} {Φ:ao->AS->Prop}:dI lv P r nt c Φ c Φ
 |seq {x y h:T6} {Φ Ψ:ao->AS->Prop} (i:dI lv P r nt x (ao.then (λs=>aQ lv P r nt y s Φ) Φ) h Ψ):dI lv P r nt (.seq x y) Φ h Ψ
 |block {id:Nat} {x h:T6} {Φ Ψ:ao->AS->Prop} (i:dI lv P r nt x (ao.inBlock id Φ) h Ψ):dI lv P r nt (.block id x) Φ h Ψ
section
variable {lv:Bool}{P:SI}{r:Option Nat}{s:AS}{nt id:Nat}{ops:Array Tu}{c h:T6}{Φ Ψ:ao->AS->Prop}
theorem bG{f:TS}{H:List aa}{args:List AV}{k kp:AV->List aa->Prop}{rs:List UO}(fn:ZQ)
  (h:bH H->(∀a∈args,Lt H.length a)->aQ lv P none nt c ⟨br 0 args,H⟩ (tM P rs H.length k kp)) (hf:P.funcs[f]?=some fn:=by kernel_rfl) (hb:fn.body=some c:=by rfl) (hr:fn.results=rs.toArray:=by rfl) (hn:fn.ntmps=nt:=by rfl) (cJ:args.length<=nt:=by simp):bm lv P f H args k kp:=aiJ hf hb hr hn cJ h
theorem dI.go(i:dI lv P r nt c Φ h Ψ):∀{s:AS},aQ lv P r nt h s Ψ->aQ lv P r nt c s Φ:=by
 induction i with
 |base=>exactλh=>h
 |seq _ ih=>exactλk=>iF (ih k)
 |block _ ih=>exactλk=>OD (ih k)
theorem aj(h:im lv P ops ops.toList s (Ψ .normal) (λpv s=>Ψ (.panic pv) s))(i:dI lv P r nt c Φ (.region id ops false) Ψ:=by repeat first|exact .base|apply dI.seq|apply dI.block)(hd:jG nt ops=true:=by kernel_rfl):aQ lv P r nt c s Φ:=i.go (ON hd h)
theorem asN{o:Ti}{x y:T6}(h:ap (s.ev o) λa=>a.asBool λb=>(b=true->aQ lv P r nt x s Ψ)/\(b=false->aQ lv P r nt y s Ψ))(i:dI lv P r nt c Φ (.cond o x y) Ψ:=by repeat first|exact .base|apply dI.seq|apply dI.block):aQ lv P r nt c s Φ:=i.go (OE h)
theorem afn(h:Ψ .normal s)(i:dI lv P r nt c Φ .skip Ψ:=by repeat first|exact .base|apply dI.seq|apply dI.block):aQ lv P r nt c s Φ:=i.go (OR h)
theorem mU(h:Ψ .ret s)(i:dI lv P r nt c Φ .ret Ψ:=by repeat first|exact .base|apply dI.seq|apply dI.block):aQ lv P r nt c s Φ:=i.go (OP h)
theorem asP(h:Ψ (.exit id) s)(i:dI lv P r nt c Φ (.exit id) Ψ:=by repeat first|exact .base|apply dI.seq|apply dI.block):aQ lv P r nt c s Φ:=i.go (OF h)
theorem cP{x:T6}(h:aQ lv P r nt x s (ao.inBlock id Ψ))(i:dI lv P r nt c Φ (.block id x) Ψ:=by repeat first|exact .base|apply dI.seq|apply dI.block):aQ lv P r nt c s Φ:=i.go (OD h)
theorem am{p:Prop}(h:p)(i:dI lv P r nt c Φ (.region id ops false) Ψ:=by repeat first|exact .base|apply dI.seq|apply dI.block)(e:im lv P ops ops.toList s (Ψ .normal) (λpv s=>Ψ (.panic pv) s)=p:=by conv=>lhs;simp only[seval])(hd:jG nt ops=true:=by kernel_rfl):aQ lv P r nt c s Φ:=i.go (ON hd (e.mpr h))
theorem aF{p:Prop}{o:Ti}{x y:T6}(h:p)(i:dI lv P r nt c Φ (.cond o x y) Ψ:=by repeat first|exact .base|apply dI.seq|apply dI.block)(e:(ap (s.ev o) λa=>a.asBool λb=>(b=true->aQ lv P r nt x s Ψ)/\(b=false->aQ lv P r nt y s Ψ))=p:=by conv=>lhs;simp only[seval]):aQ lv P r nt c s Φ:=i.go (OE (e.mpr h))
theorem aO{p:Prop}(h:p)(i:dI lv P r nt c Φ .skip Ψ:=by repeat first|exact .base|apply dI.seq|apply dI.block)(e:Ψ .normal s=p:=by conv=>lhs;simp only[seval]):aQ lv P r nt c s Φ:=i.go (OR (e.mpr h))
theorem bi{p:Prop}(h:p)(i:dI lv P r nt c Φ .ret Ψ:=by repeat first|exact .base|apply dI.seq|apply dI.block)(e:Ψ .ret s=p:=by conv=>lhs;simp only[seval]):aQ lv P r nt c s Φ:=i.go (OP (e.mpr h))
theorem cp{p:Prop}(h:p)(i:dI lv P r nt c Φ (.exit id) Ψ:=by repeat first|exact .base|apply dI.seq|apply dI.block)(e:Ψ (.exit id) s=p:=by conv=>lhs;simp only[seval]):aQ lv P r nt c s Φ:=i.go (OF (e.mpr h))
theorem eM{Φ Ψ:ao->AS->Prop}{c:T6}(p:Nat)(h:mM lv P ops (ops.toList.take p) s (λs'=>im lv P ops (ops.toList.drop p) s' (Ψ .normal) (λpv s=>Ψ (.panic pv) s)))(i:dI lv P r nt c Φ (.region id ops true) Ψ:=by repeat first|exact .base|apply dI.seq|apply dI.block)(hm:P.follows .mixedOrders=true:=by kernel_rfl)(ay:zi nt p ops=true:=by kernel_rfl):aQ lv P r nt c s Φ:=i.go (aff hm p ay h)
theorem nU{Φ Ψ:ao->AS->Prop}{c:T6}(es ord:List Nat){pl:List qK}(Hf:List Nat->List aa)(h:fQ lv P Hf ops pl s (Ψ .normal) ⟨0⟩)(i:dI lv P r nt c Φ (.region id ops true) Ψ:=by repeat first|exact .base|apply dI.seq|apply dI.block)(hm:P.follows .mixedOrders=true:=by kernel_rfl)(ay:qV nt ops es ord=true:=by kernel_rfl)(da:abH ops es ord=pl:=by conv=>lhs;cbv)(h0:s.H=Hf []:=by first|rfl|simp only[seval]):aQ lv P r nt c s Φ:=i.go (afg es ord pl Hf hm ay da h0 h)
theorem w7(n:Nat)(V:Nat->List (Nat×AV))(Hf:Nat->List aa)(ok:Nat->Prop)(hm:ok 0)
  (h:bH s.H->(∀t a,look s.T t=some a->Lt s.H.length a)->∀m,m<=n->ok m->∀R:AS->Prop,(∀s',(m<n/\ok (m+1)/\qM s.T (V m) (V (m+1)) (Hf (m+1)) s')->R s')->aQ lv P r nt c ⟨V m++s.T,Hf m⟩ (ao.then R Φ)) (uw:∀m m',(V m).map (·.1)=(V m').map (·.1):=by exactλ_ _=>rfl) (gA:∀p∈V 0,∃b,look s.T p.1=some b/\Wk b p.2:=by(simp only[seval];simp[bC,Wk.refl])) (uh:Hf 0=s.H:=by rfl) (hl:∀m,m<=n->ok m->(Hf m).length=s.H.length:=by exactλ_ _ _=>rfl):aQ lv P r nt (.loop c) s Φ:=iu n V Hf ok uw gA uh hl hm h
theorem dF{base Vi Vn T:List (Nat×AV)}{H:List aa}(hk:sg T (Vi++base) Vn:=by exact po rfl rfl)(hv:∀p∈Vn,∃b,look T p.1=some b/\Wk b p.2:=by(simp only[seval];simp[bC,Wk.refl])):qM base Vi Vn H ⟨T,H⟩:=apl hk hv
theorem abX{base Vi Vn T:List (Nat×AV)}{H H':List aa}(ay:bH H)(hg:∃G,H++G=H':=by first|exact⟨_,rfl⟩|exact⟨_,SC ..⟩)(hk:sg T (Vi++base) Vn:=by exact po rfl rfl)(hv:∀p∈Vn,∃b,look T p.1=some b/\Wk b p.2:=by(simp only[seval];simp[bC,Wk.refl]))(hlt:∀p∈Vn,Lt H.length p.2:=by simp[eC]):qM base Vi Vn H ⟨T,H'⟩:=by
 obtain⟨G,rfl⟩:=hg;exact abW hk hv ay hlt
theorem c9{H:List aa}{args:List AV}{k kp:AV->List aa->Prop}{g:TS}{first cQ:List AV}(hf:bm lv P g H (first++args++cQ) k kp)(hg:qE P g=true:=by kernel_rfl):iT lv P (.fn (.func g) first cQ) H args k kp:=IG hg hf
end
theorem aL{lv:Bool}{P:SI}{H:List aa}{args:List AV}{k kp:AV->List aa->Prop}{g:TS}{first cQ:List AV}{t:Eg k kp}(hf:bm lv P g H (first++args++cQ) k kp)(hg:qE P g=true:=by kernel_rfl):A5 lv P (.fn (.func g) first cQ) H args k kp t:=w_ (IG hg hf)
theorem F.q0:jz SA 22 22=(SM (3,(1,(SF SD (0)))))/\jz SA 23 23=(SM (61,(3,(TD #[(SF SD (0)),(SF SD (0)),(SF SD (0))]))))/\jz SA 24 24=(SM (48,(4,(TD #[(SF SD (0)),(SF SD (0)),(SF SD (0)),(SF SD (0))]))))/\jz SA 57 57=(SM (22,(1,(Us Option.none 0 0))))/\oF SA 136=(SM ((Go.Gg.iq.fields []),(TD #[])))/\oF SA 26=(SM ((Go.Gg.iq.fields [(0,1),(1,1),(2,1),(3,1),(4,1),(5,1)]),(TD #[(SF SD (0)),(SF SD (0)),(SF SD (0)),(Us Option.none 0 0),(Us Option.none 0 0),(Us Option.none 0 0)])))/\oF SA 46=(SM ((Go.Gg.iq.fields [(0,1),(1,1)]),(TD #[(SF SD (0)),(SF SD (0))])))/\oF SA 48=(SM ((Go.Gg.iq.fields [(0,2),(2,2)]),(TD #[(SF SD (0)),(SF SD (0)),(SF SD (0)),(SF SD (0))])))/\oF SA 61=(SM ((Go.Gg.iq.fields [(0,1),(1,2)]),(TD #[(SF SD (0)),(SF SD (0)),(SF SD (0))])))/\oF SA 73=(SM ((Go.Gg.iq.fields [(0,1),(1,1),(2,1)]),(TD #[(Us Option.none 0 0),(SF SD (0)),(SF Tx (0))])))/\oF SA 76=(SM ((Go.Gg.iq.fields [(0,6)]),(TD #[(SF SD (0)),(SF SD (0)),(SF SD (0)),(Us Option.none 0 0),(Us Option.none 0 0),(Us Option.none 0 0)])))/\oF SA 86=(SM ((Go.Gg.iq.fields [(0,4),(4,4),(8,3)]),(TD #[(SF SD (0)),(SF SD (0)),(SF SD (0)),(SF SD (0)),(SF SD (0)),(SF SD (0)),(SF SD (0)),(SF SD (0)),(SF SD (0)),(SF SD (0)),(SF SD (0))])))/\oF SA 88=(SM ((Go.Gg.iq.fields [(0,1),(1,1),(2,4),(6,4),(10,4),(14,3),(17,11)]),(TD #[(W_ Bool.false),(Zq Option.none),(SF S5 (0)),(SF S5 (0)),(SF S5 (0)),(SF S5 (0)),(SF S5 (0)),(SF S5 (0)),(SF S5 (0)),(SF S5 (0)),(SF S5 (0)),(SF S5 (0)),(SF S5 (0)),(SF S5 (0)),(SF S5 (0)),(SF S5 (0)),(SF S5 (0)),(SF SD (0)),(SF SD (0)),(SF SD (0)),(SF SD (0)),(SF SD (0)),(SF SD (0)),(SF SD (0)),(SF SD (0)),(SF SD (0)),(SF SD (0)),(SF SD (0))])))/\oF SA 97=(SM ((Go.Gg.iq.fields [(0,1),(1,1)]),(TD #[(SF SD (0)),(SF SD (0))])))/\A6 SA 3 71=(SM (SM Tx))/\A6 SA 71 3=(SM (SM SD)):=by and_intros<;>kernel_rfl
theorem F.q1:eU SA 112 0=(SM 0)/\eU SA 112 1=(SM 1)/\eU SA 112 2=(SM 2)/\eU SA 26 0=(SM 0)/\eU SA 26 1=(SM 1)/\eU SA 26 2=(SM 2)/\eU SA 26 3=(SM 3)/\eU SA 26 4=(SM 4)/\eU SA 26 5=(SM 5)/\eU SA 46 0=(SM 0)/\eU SA 46 1=(SM 1)/\eU SA 48 0=(SM 0)/\eU SA 48 1=(SM 2)/\eU SA 61 0=(SM 0)/\eU SA 61 1=(SM 1)/\eU SA 73 0=(SM 0):=by and_intros<;>kernel_rfl
theorem F.q2:eU SA 73 1=(SM 1)/\eU SA 73 2=(SM 2)/\eU SA 76 0=(SM 0)/\eU SA 86 0=(SM 0)/\eU SA 86 1=(SM 4)/\eU SA 86 2=(SM 8)/\eU SA 88 0=(SM 0)/\eU SA 88 1=(SM 1)/\eU SA 88 2=(SM 2)/\eU SA 88 3=(SM 6)/\eU SA 88 4=(SM 10)/\eU SA 88 5=(SM 14)/\eU SA 88 6=(SM 17)/\eU SA 97 0=(SM 0)/\eU SA 97 1=(SM 1)/\nN SA 22=(SM (Option.none,1)):=by and_intros<;>kernel_rfl
theorem F.q3:nN SA 23=(SM (Option.none,3))/\nN SA 24=(SM (Option.none,4))/\nN SA 57=(SM (Option.none,1))/\nN SA 80=(SM ((SM 4),1))/\nN SA 81=(SM ((SM 3),1))/\nN SA 82=(SM ((SM 4),1))/\nN SA 83=(SM ((SM 4),1))/\nN SA 84=(SM ((SM 3),1))/\wQ SA 82=(SM (4,1))/\wQ SA 83=(SM (4,1))/\wQ SA 84=(SM (3,1))/\j8 SA 22=(SM (3,1))/\j8 SA 24=(SM (48,4))/\j8 SA 82=Option.none/\j8 SA 83=Option.none/\j8 SA 84=Option.none:=by and_intros<;>kernel_rfl
theorem F.q4:ld SA 22=(SM Go.Gg.yS.slice)/\ld SA 23=(SM Go.Gg.yS.slice)/\ld SA 24=(SM Go.Gg.yS.slice)/\ld SA 57=(SM Go.Gg.yS.slice)/\Bd SA 22=(SM (3,(1,(SF SD (0)))))/\oI SA 77=(SM (83,4))/\qP SA 22=(SM (3,(1,(SF SD (0)))))/\qP SA 23=(SM (61,(3,(TD #[(SF SD (0)),(SF SD (0)),(SF SD (0))]))))/\qP SA 24=(SM (48,(4,(TD #[(SF SD (0)),(SF SD (0)),(SF SD (0)),(SF SD (0))]))))/\qP SA 57=(SM (22,(1,(Us Option.none 0 0))))/\Ty SA 130=(SM (1,Bool.false))/\Ty SA 132=(SM (1,Bool.false))/\Ty SA 136=(SM (0,Bool.true))/\Ty SA 139=(SM (1,Bool.false))/\Ty SA 157=(SM (1,Bool.false))/\Ty SA 22=(SM (1,Bool.false)):=by and_intros<;>kernel_rfl
theorem F.q5:Ty SA 23=(SM (1,Bool.false))/\Ty SA 24=(SM (1,Bool.false))/\Ty SA 26=(SM (6,Bool.true))/\Ty SA 3=(SM (1,Bool.false))/\Ty SA 4=(SM (1,Bool.false))/\Ty SA 46=(SM (2,Bool.true))/\Ty SA 48=(SM (4,Bool.true))/\Ty SA 61=(SM (3,Bool.true))/\Ty SA 68=(SM (1,Bool.false))/\Ty SA 71=(SM (1,Bool.false))/\Ty SA 76=(SM (6,Bool.true))/\Ty SA 77=(SM (1,Bool.false))/\Ty SA 79=(SM (1,Bool.false))/\Ty SA 81=(SM (3,Bool.true))/\Ty SA 83=(SM (4,Bool.true))/\Ty SA 86=(SM (11,Bool.true)):=by and_intros<;>kernel_rfl
theorem F.q6:Ty SA 88=(SM (28,Bool.true))/\Ty SA 97=(SM (2,Bool.true))/\eE SA 112=(SM (TD #[(SF SD (0)),(SF SD (0)),(W_ Bool.false)]))/\eE SA 116=(SM (TD #[(SF SD (0)),(SF SD (0))]))/\eE SA 136=(SM (TD #[]))/\eE SA 139=(SM (XO Option.none))/\eE SA 147=(SM (TD #[(SF Tx (0)),(SF ah_ (0))]))/\eE SA 153=(SM (TD #[(SF SD (0)),(SF SD (0))]))/\eE SA 157=(SM YS)/\eE SA 26=(SM (TD #[(SF SD (0)),(SF SD (0)),(SF SD (0)),(Us Option.none 0 0),(Us Option.none 0 0),(Us Option.none 0 0)]))/\eE SA 3=(SM (SF SD (0)))/\eE SA 46=(SM (TD #[(SF SD (0)),(SF SD (0))]))/\eE SA 48=(SM (TD #[(SF SD (0)),(SF SD (0)),(SF SD (0)),(SF SD (0))]))/\eE SA 61=(SM (TD #[(SF SD (0)),(SF SD (0)),(SF SD (0))]))/\eE SA 68=(SM YS)/\eE SA 76=(SM (TD #[(SF SD (0)),(SF SD (0)),(SF SD (0)),(Us Option.none 0 0),(Us Option.none 0 0),(Us Option.none 0 0)])):=by and_intros<;>kernel_rfl
theorem F.q7:eE SA 79=(SM (SF S5 (0)))/\eE SA 80=(SM (TD #[(SF S5 (0)),(SF S5 (0)),(SF S5 (0)),(SF S5 (0))]))/\eE SA 81=(SM (TD #[(SF S5 (0)),(SF S5 (0)),(SF S5 (0))]))/\eE SA 83=(SM (TD #[(SF SD (0)),(SF SD (0)),(SF SD (0)),(SF SD (0))]))/\eE SA 86=(SM (TD #[(SF SD (0)),(SF SD (0)),(SF SD (0)),(SF SD (0)),(SF SD (0)),(SF SD (0)),(SF SD (0)),(SF SD (0)),(SF SD (0)),(SF SD (0)),(SF SD (0))]))/\eE SA 97=(SM (TD #[(SF SD (0)),(SF SD (0))])):=by and_intros<;>kernel_rfl
attribute [seval] F.q0 F.q1 F.q2 F.q3 F.q4 F.q5 F.q6 F.q7 F.N_ F.Oh
def isDone (j:Nat)(D:List Nat):Bool:=D.contains j
theorem alv(j:Nat):isDone j []=false:=by simp[isDone]
theorem alu(i j:Nat)(D:List Nat):isDone j (i::D)=((j==i)||isDone j D):=by
 by_cases h:j=i<;>simp[isDone,h]
theorem af6(lv:Bool)(P:SI)(Hf:List Nat->List aa)(T:List (Nat×AV))(o:Tu)(av:AV):BQ lv P Hf T o av []=True:=by rw[BQ]
theorem af5(lv:Bool)(P:SI)(Hf:List Nat->List aa)(T:List (Nat×AV))(o:Tu)(av:AV)(D D':List Nat)(l:List (List Nat×List Nat)):BQ lv P Hf T o av ((D,D')::l)=((AQ lv P ⟨T,Hf D⟩ o λa=>a=av)/\BQ lv P Hf T o av l):=by rw[BQ]
theorem afE(lv:Bool)(P:SI)(Hf:List Nat->List aa)(T:List (Nat×AV))(o:Tu)(av:AV):BE lv P Hf T o av []=True:=by rw[BE]
theorem afD(lv:Bool)(P:SI)(Hf:List Nat->List aa)(T:List (Nat×AV))(o:Tu)(av:AV)(D D':List Nat)(l:List (List Nat×List Nat)):BE lv P Hf T o av ((D,D')::l)=((jN lv P (Hf D') ⟨T,Hf D⟩ o λa H'=>a=av/\H'=Hf D')/\BE lv P Hf T o av l):=by rw[BE]
theorem afA:type_of% @fQ.eq_1:=by intros;rw[fQ.eq_1]
theorem afB:type_of% @fQ.eq_2:=by intros;rw[fQ.eq_2]
theorem afz:type_of% @fQ.eq_3:=by intros;rw[fQ.eq_3]
theorem ad2:type_of% @jN.eq_1:=by intros;rw[jN.eq_1]
theorem agT(G H:List aa)(k:AV->List aa->Prop)(n m sz:Nat)(elem:TypeId)(l l':List AV):qG G H k n m sz elem l l' .exact=jP G[H.length]? (0<m/\k (.bh H.length 0 (n+m) 0) (H++[.own sz (l++l') elem])) (k (.sl (n+m) (l++l') (.opn H.length)) (H++[.tail (n+m) sz elem])) ⟨0⟩:=by rw[qG]
theorem ai4(X Y:Prop)(t:lP X Y):jP none X Y t=Y:=by rw[jP];simp
theorem ai5(a:Nat)(b:List AV)(c:TypeId)(X Y:Prop)(t:lP X Y):jP (some (.own a b c)) X Y t=X:=by rw[jP]
theorem ai3(b:List AV)(c:TypeId)(X Y:Prop)(t:lP X Y):jP (some (.cells b c)) X Y t=Y:=by rw[jP];simp
theorem ai8(a b:Nat)(c:TypeId)(X Y:Prop)(t:lP X Y):jP (some (.tail a b c)) X Y t=Y:=by rw[jP];simp
theorem ai2(b:Obj)(X Y:Prop)(t:lP X Y):jP (some (.obj b)) X Y t=Y:=by rw[jP];simp
theorem ai7(a:Nat)(b:List AV)(c:TypeId)(X Y:Prop)(t:lP X Y):jP (some (.part a b c)) X Y t=Y:=by rw[jP];simp
@[congr] theorem as7 {x x' : Option aa} {X Y : Prop} {t : lP X Y} (h : x = x') : jP x X Y t = jP x' X Y t := by rw [h]
theorem agU(G H:List aa)(k:AV->List aa->Prop)(n m sz:Nat)(elem:TypeId)(l l':List AV)(i:Nat):qG G H k n m sz elem l l' (.opn i)=((match H[i]?with
   |some (.tail n' ep gK)=>n'=n/\ep=sz/\gK=elem
   |_=>False)/\(∀a∈l',a.leaf=true)/\k (.sl (n+m) (l++l') (.opn i)) (H.set i (.tail (n+m) sz elem))):=by first|(rw[qG];done)|(rw[qG];rfl)
section
variable {lv:Bool}{P:SI}{s s':AS}
@[congr] theorem asu {G G' : List aa} {o : Tu} {k : AV -> List aa -> Prop} (hG : G = G') (h : s = s') : jN lv P G s o k = jN lv P G' s' o k := by rw [hG, h]
@[congr] theorem asT {Hf : List Nat -> List aa} {ops : Array Tu} {l l' : List qK} {K : AS -> Prop} {t : Ba K} (hl : l = l') (h : s = s') : fQ lv P Hf ops l s K t = fQ lv P Hf ops l' s' K t := by rw [hl, h]
@[congr] theorem asW {Hf : List Nat -> List aa} {T T' : List (Nat × AV)} {o : Tu} {av mv : AV} {l l' : List (List Nat × List Nat)} (h1 : T = T') (h2 : av = mv) (h3 : l = l') : BQ lv P Hf T o av l = BQ lv P Hf T' o mv l' := by rw [h1, h2, h3]
@[congr] theorem asU {Hf : List Nat -> List aa} {T T' : List (Nat × AV)} {o : Tu} {av mv : AV} {l l' : List (List Nat × List Nat)} (h1 : T = T') (h2 : av = mv) (h3 : l = l') : BE lv P Hf T o av l = BE lv P Hf T' o mv l' := by rw [h1, h2, h3]
@[congr] theorem as0 {f f' : AV} {H H' : List aa} {aE tU : List AV} {k : AV -> List aa -> Prop} {t : Bb k} (h1 : f = f') (h2 : H = H') (h3 : aE = tU) : D_ lv P f H aE k t = D_ lv P f' H' tU k t := by rw [h1, h2, h3]
@[congr] theorem as1 {f f' : AV} {name : String} {H H' : List aa} {aE tU : List AV} {k : AV -> List aa -> Prop} {t : Bb k} (h1 : f = f') (h2 : H = H') (h3 : aE = tU) : H_ lv P f name H aE k t = H_ lv P f' name H' tU k t := by rw [h1, h2, h3]
@[congr] theorem asZ {G G' H H' : List aa} {k : AV -> List aa -> Prop} {n n' m m' sz : Nat} {elem : TypeId} {l l' x x' : List AV} {e e' : End} (hG : G = G') (h0 : H = H') (h1 : n = n') (h2 : m = m') (h3 : l = l') (h4 : x = x') (h5 : e = e') : qG G H k n m sz elem l x e = qG G' H' k n' m' sz elem l' x' e' := by rw [hG, h0, h1, h2, h3, h4, h5]
end
attribute [seval] alv alu af6 af5 afE afD afA afB afz ad2 agT agU ai4 ai5 ai3 ai8 ai2 ai7 Bool.true_or Bool.false_or Bool.or_true Bool.or_false cond_true cond_false
def ao.stay (Φ:ao->AS->Prop):ao->AS->Prop
 |.goto _,_=>False
 |e,s=>Φ e s
theorem aqB(Φ:ao->AS->Prop)(s:AS):ao.stay Φ .normal s=Φ .normal s:=by rw[ao.stay];simp
theorem aqD(Φ:ao->AS->Prop)(s:AS):ao.stay Φ .ret s=Φ .ret s:=by rw[ao.stay];simp
theorem aqA(Φ:ao->AS->Prop)(i:Nat)(s:AS):ao.stay Φ (.exit i) s=Φ (.exit i) s:=by rw[ao.stay];simp
theorem aqC(Φ:ao->AS->Prop)(a:AV)(s:AS):ao.stay Φ (.panic a) s=Φ (.panic a) s:=by rw[ao.stay];simp
theorem OQ{lv:Bool}{P:SI}{r:Option Nat}{s:AS}{nt:Nat}{c:T6}{Φ:ao->AS->Prop}(h:aQ lv P r nt c s (ao.stay Φ)):aQ lv P r nt (.scope c) s Φ:=by
 refine afm (λ_ _ _=>False) ⟨0,h.mono λe s hs=> ?_⟩ λ_ _ _ _ _ hf=>hf.elim;cases e<;>first|exact hs|exact hs.elim
@[congr] theorem atD {s s' : AS} {Φ : ao -> AS -> Prop} {e e' : ao} (he : e = e') (h : s = s') : ao.stay Φ e s = ao.stay Φ e' s' := by rw [he, h]
attribute [seval] aqB aqD aqA aqC
theorem als{α:Type}(n:Nat)(x:α):(if(n:Int)<0 then none else some x)=some x:=by rw[if_neg (by omega)]
theorem af3:(XH==Wt)=false:=by decide
theorem af4:(Wt==Wt)=true:=by decide
theorem aq8{α β:Type}(f:α->β)(xs:List α):(xs.map f).take xs.length=xs.map f:=SP (by simp)
theorem anD(o:VX):(o=o\/o=.neq)=True:=by simp
theorem anE:(Wt=.eql\/Wt=.neq)=True:=by simp
theorem alz{α:Type}(a b:α):(if false=true then a else b)=b:=by simp
theorem alA{α:Type}(a b:α):(if true=true then a else b)=a:=by simp
theorem afZ(s:AS):s.iV none=some none:=by rw[AS.iV]
theorem af0(s:AS)(x:Ti):s.iV (some x)=(s.ev x).bind λa=>a.vq.map some:=by
 rw[AS.iV];cases s.ev x<;>rfl
theorem ae0(j:TY)(n:Int):AV.vq (.val (.int j n))=some n:=by rw[AV.vq]
theorem aeh(P:SI)(t:TypeId)(id off:Nat)(l h m:Option Int)(k:AV->Prop):sd P t (.op id off) l h m k=ap (wQ P t) λp=>si id off p.1 p.1 p.2 l h m k:=by rw[sd]
theorem aei(P:SI)(t:TypeId)(id off n c:Nat)(l h m:Option Int)(k:AV->Prop):sd P t (.bh id off n c) l h m k=ap (j8 P t) λp=>si id off n c p.2 l h m k:=by rw[sd]
theorem aej(P:SI)(t:TypeId)(n:Nat)(li:List AV)(e:End)(l h m:Option Int)(k:AV->Prop):sd P t (.sl n li e) l h m k=ap (j8 P t) λp=>wU n li e p.2 l h m k:=by rw[sd]
theorem anK:type_of% @si.eq_1:=by intros;rw[si.eq_1]
theorem aqc:type_of% @wU.eq_1:=by intros;rw[wU.eq_1]
@[congr] theorem aty {id ov off Dm n n' cap cap' sz ep : Nat} {lo C9 hi cw mx De : Option Int} {k : AV -> Prop} (h1 : id = ov) (h2 : off = Dm) (h3 : n = n') (h4 : cap = cap') (h5 : sz = ep) (h6 : lo = C9) (h7 : hi = cw) (h8 : mx = De) : si id off n cap sz lo hi mx k = si ov Dm n' cap' ep C9 cw De k := by rw [h1, h2, h3, h4, h5, h6, h7, h8]
@[congr] theorem atB {n n' sz ep : Nat} {l l' : List AV} {e e' : End} {lo C9 hi cw mx De : Option Int} {k : AV -> Prop} (h3 : n = n') (h1 : l = l') (h2 : e = e') (h5 : sz = ep) (h6 : lo = C9) (h7 : hi = cw) (h8 : mx = De) : wU n l e sz lo hi mx k = wU n' l' e' ep C9 cw De k := by rw [h1, h2, h3, h5, h6, h7, h8]
theorem am7:((1:Nat):Int)=1:=rfl
theorem am8:((2:Nat):Int)=2:=rfl
theorem am9:((3:Nat):Int)=3:=rfl
theorem ana:((4:Nat):Int)=4:=rfl
theorem anb:((5:Nat):Int)=5:=rfl
theorem anc:((6:Nat):Int)=6:=rfl
theorem ary(p:Prop):(True\/p)=True:=by simp
theorem anI(p:Prop):(p\/True)=True:=by simp
attribute [seval] am7 am8 am9 ana anb anc ary anI Int.le_refl List.length_map
theorem aeR(H L:List aa):(H++L)[H.length+1+1]?=L[2]?:=vo H L 2
theorem aeS(H L:List aa):(H++L)[H.length+1+1+1]?=L[3]?:=vo H L 3
theorem aeV(H L:List aa)(x:aa):(H++L).set (H.length+1+1) x=H++L.set 2 x:=vp H L 2 x
theorem aeW(H L:List aa)(x:aa):(H++L).set (H.length+1+1+1) x=H++L.set 3 x:=vp H L 3 x
attribute [seval] aeR aeS aeV aeW
attribute [seval] afZ af0 ae0 aeh aei aej anK aqc Option.getD_none Option.getD_some Int.toNat_zero Nat.sub_zero Option.bind_some Option.map_some Nat.zero_le Option.isSome_none Option.isSome_some Bool.false_eq_true false_implies
attribute [seval] als af3 af4 aq8 anD anE alz alA
section
variable {P:SI}{α β:Type}
theorem iC(a:α):cI P (pure a) a:=λw es=>by simp only[pure,VE]
theorem k_{x:Sem α}{f:α->Sem β}{a:α}{b:β}(h:cI P x a)(k:cI P (f a) b):cI P (x>>=f) b:=λw es=>by
 show (x.bind f).runT P w es=_;rw[Sem.runT_bind',h w es];exact k w es
theorem aqX{k:SI->Sem α}{a:α}(h:cI P (k P) a):cI P (.program k) a:=λw es=>by simp only[VE];exact h w es
theorem Nz{k:SI->Sem α}{a:α}(h:cI P (k P) a):cI P (program>>=k) a:=k_ (a:=P) (aqX (iC P)) h
theorem yD{t:TypeId}{d:TypeDesc}{k:TypeDesc->Sem α}{a:α}(h:P.underlying t=some d)(hk:cI P (k d) a):cI P (underlying t>>=k) a:=by
 unfold underlying;refine k_ (a:=d) (Nz ?_) hk;rw[h];exact iC d
def yY:TypeDesc->Bool
 |.struct _|.array _ _=>true
 |_=>false
theorem acZ{t:TypeId}{d:TypeDesc}{k:Bool->Sem α}{a:α}(h:P.underlying t=some d)(hk:cI P (k (yY d)) a):cI P (isAgg t>>=k) a:=by
 unfold isAgg;refine k_ (yD (a:=yY d) h ?_) hk;cases d<;>exact iC _
theorem NA{t:TypeId}{i:We}{k:Nat->Sem α}{a:α}(h:P.info? t=some i)(hk:cI P (k i.size) a):cI P (sizeOf t>>=k) a:=by
 unfold sizeOf typeInfo;refine k_ (k_ (a:=i) (Nz ?_) (iC _)) hk;rw[h];exact iC i
theorem DL{t:TypeId}{d:TypeDesc}{xs:Array SO}{off:Nat}{v:SO}{k:SO->Sem α}{a:α}(h:P.underlying t=some d)(hd:yY d=false)(hv:xs[off]?=some v)(hk:cI P (k v) a):cI P (part t xs off>>=k) a:=by
 unfold part;refine k_ (a:=v) (acZ h ?_) hk;rw[hd,hv];exact iC v
theorem ac0{t:TypeId}{d:TypeDesc}{i:We}{xs:Array SO}{off:Nat}{k:SO->Sem α}{a:α}(h:P.underlying t=some d)(hd:yY d=true)(hi:P.info? t=some i)(hk:cI P (k (.agg (xs.extract off (off+i.size)))) a):cI P (part t xs off>>=k) a:=by
 unfold part;refine k_ (acZ h ?_) hk;rw[hd];exact NA hi (iC _)
theorem acY{t:TypeId}{k0 k:TY}{d:Nat}{x y:Int}(h:P.underlying t=some (.int k0)):cI P (Vw (d+1) t (.int k x) (.int k y)) (x==y):=by
 rw[Vw];refine yD h ?_;dsimp only;rw[if_pos rfl];exact iC _
theorem acS{ι:Type}{body:ι->Option Bool×Unit->Sem (ForInStep (Option Bool×Unit))}{p:ι->Bool}:∀(l:List ι),(∀i∈l,cI P (body i (none,())) (if p i then .yield (none,())else .done (some false,())))->cI P (forIn l (none,()) body) (if l.all p then(none,())else(some false,()))
 |[],_=>by simpa using iC (none,())
 |i::l,h=>by
  rw[WY];refine k_ (h i (TB ..)) ?_;by_cases hp:p i=true
  ·simp only[hp,if_true,ZM,U_];exact acS l λj hj=>h j (Tb _ hj)
  ·have zZ:p i=false:=(by simpa using hp);simp only[zZ,TM,if_false,ZM,Xf];exact iC _
theorem aeJ{α:Type}[BEq α][LawfulBEq α]{xs ys:List α}{n:Nat}(hx:xs.length=n)(hy:ys.length=n):((Ud 0 n).all λi=>xs[i]?==ys[i]?)=(xs==ys):=by
 rw[Vm,Tv,beq_iff_eq];constructor
 ·intro h;apply Yo;intro i;by_cases hi:i<n
  ·have:=h i (by simp[XX];omega);simpa using this
  ·rw[Uv (by omega),Uv (by omega)]
 ·rintro rfl i _;simp
theorem aqU{t e:TypeId}{k0 k:TY}{n d:Nat}{i:We}{xs ys:List Int}(ht:P.underlying t=some (.array n e))(he:P.underlying e=some (.int k0))(hi:P.info? e=some i)(hs:i.size=1)(hx:xs.length=n)(hy:ys.length=n):
  cI P (Vw (d+2) t (.agg (xs.map (SF k)).toArray) (.agg (ys.map (SF k)).toArray)) (xs==ys):=by
 rw[Vw];refine yD ht ?_;dsimp only;refine NA hi ?_;rw[hs];simp only[Wu,Xs];refine k_ (a:=if(xs==ys)then(none,())else(some false,())) ?_ (by cases xs==ys<;>exact iC _);have hn:(n-0+1-1)/1=n:=by simp
 rw[hn,<- aeJ hx hy];refine acS _ λj hj=> ?_;have oZ:j<n:=by simp[XX]at hj;omega
 have gx:xs[j]?=some (xs[j]'(by omega)):=SY _;have gy:ys[j]?=some (ys[j]'(by omega)):=SY _;rw[Yb];refine DL he rfl (v:=.int k (xs[j]'(by omega))) (by simp[gx]) ?_;refine DL he rfl (v:=.int k (ys[j]'(by omega))) (by simp[gy]) ?_;refine k_ (acY he) ?_;rw[gx,gy];by_cases h:xs[j]'(by omega)=ys[j]'(by omega)
 ·rw[h];simp;exact iC _
 ·have h1:(xs[j]'(by omega)==ys[j]'(by omega))=false:=by simpa using h
  have h2:(some (xs[j]'(by omega))==some (ys[j]'(by omega)))=false:=by simpa using h
  rw[h1,h2];exact iC _
theorem cI.uniq{x:Sem α}{a b:α}(h:cI P x a)(k:cI P x b):a=b:=by
 have e:=(h default #[]).symm.trans (k default #[]);have e1:=congrArg Prod.fst e;exact(ao' e1).1
theorem acV{t e:TypeId}{k0:TY}{n:Nat}{i:We}{xs ys:List Int}(ht:P.underlying t=some (.array n e))(he:P.underlying e=some (.int k0))(hi:P.info? e=some i)(hs:i.size=1)(hx:xs.length=n)(hy:ys.length=n):
  cI P (Xo t (.agg (xs.map (SF .i64)).toArray) (.agg (ys.map (SF .i64)).toArray)) (xs==ys):=aqU (d:=9998) ht he hi hs hx hy
theorem yr(xs:List Int):AV.raw (.agg (xs.map iv))=some (.agg (xs.map (SF .i64)).toArray):=by
 have:∀l:List Int,(l.map iv).mapM AV.AC=some (l.map (SF .i64)):=by
  intro l;induction l with
  |nil=>rfl
  |cons x l ih=>simp only[UW,Ua,ih];rfl
 simp only[AV.raw,this];rfl
theorem aok{xs:List Int}{i:Nat}{y:Int}(h:i<xs.length):iB (xs.map iv) i [iv y]=(xs.set i y).map iv:=by
 unfold iB;rw[List.map_set,XM,if_pos (by simpa using h)];simp
theorem wB{xs:List Int}{i:Nat}{y:Int}(h:i<xs.length):(xs.map iv).take i++[iv y]++(xs.map iv).drop (i+1)=(xs.set i y).map iv:=aok h
theorem kG{xs:List Int}{i:Nat}{x:Int}(h:xs[i]?=some x):(xs.map iv).drop i=iv x::(xs.drop (i+1)).map iv:=by
 have h1:=eI h;rw[<- af_,TQ h1,UW];rw[SY h1]at h;cases h;rfl
end
theorem aaD(xs:List Int):(∀a∈xs.map iv,a.leaf=true)=True:=by
 simp only[Tl,eq_iff_iff,iff_true]
 rintro a ⟨x,_,rfl⟩;rfl
attribute [seval] List.append_nil aaD
def yL (lv:Bool)(P:SI)(g:TS)(args:Array SO)(md:U9)(V:View)(R:U9->View->Prop):Prop:=
 ∀(main:Bool)(J:View->SG->Prop),Closed lv P main J->∀(fr:Uc)(cs:List Uc),fr.mode=md->(∀nG V',R nG V'->J V' (G {fr with mode:=nG} cs))->J V (G (Frame.enter P g args .deferred) (fr::cs))
def qS:U9->U9
 |.panicking ({recovered:=true, .. }::MH)=>match MH.dropWhile (!·.goexit)with
  |[]=> .returning
  |rest=> .panicking rest
 |m=>m
theorem aaE{lv:Bool}{P:SI}{main:Bool}{J:View->SG->Prop}(C:Closed lv P main J){fr c:Uc}{cs:List Uc}{f:TS}{v:SO}{V:View}(h:Leaves P fr f .deferred (.ret v) V)(hJ:J V (G {c with mode:=qS c.mode} cs)):J V (G fr (c::cs)):=by
 obtain⟨rfl,hd,hk,fn,hf,hm,hr⟩:=h;refine C.step _ _ rfl λw hw=> ?_;obtain⟨es,w',V',h1,h2,h3⟩:=hr.runs hw;rcases h3 with⟨x,h3,rfl,rfl⟩|⟨_,_,h⟩
 ·refine⟨G {c with mode:=qS c.mode} cs,w',seen P fr.fn es,V',?_,h1.seen P fr.fn,hJ⟩;simp only[G,stepG,unwind,doReturn,hm,hd,hk,hf,TA,h3,h2,T5];cases FR:c.mode with
  |run=>simp[qS,<- FR]
  |returning=>simp[qS,<- FR]
  |panicking ch=>
   cases ch with
   |nil=>simp[qS,<- FR]
   |cons p MH=>
    obtain⟨v,rec,ge⟩:=p;cases rec with
    |false=>simp[qS,<- FR]
    |true=>
     simp only[qS];cases hdw:MH.dropWhile (!·.goexit)with
     |nil=>simp
     |cons x y=>simp
 ·exact h.elim
theorem PV{ρ:Ti->SO}{o:Tu}{cl:Xp}(az:o.op=.call cl)(aX:cl.callee=.builtin .recover)(P:SI)(w:To)(es:Array Ur):(execOp ρ o).runT P w es=(.ok .recover w,es):=by
 unfold execOp;rw[az];dsimp only;unfold resolve;rw[aX];rfl
theorem apB{P:SI}{main:Bool}{b c:Uc}{a:Act}{k:List WS}{cs:List Uc}{w:To}{ops:Array Tu}{i:Nat}{rest:List Nat}{o:Tu}{cl:Xp}{v:SO}(ho:ops[i]?=some o)(hg:o.guard=none)(az:o.op=.call cl)(aX:cl.callee=.builtin .recover)(hb:b.kind=.deferred)(hr:b.roundOf=none)
  (hm:c.mode=.panicking [{v,recovered:=false}]):stepG P main (G (on b a (.inRegion ops (i::rest)::k)) (c::cs)) w=.go (G (on b (a.put o.dst v) (.inRegion ops rest::k)) ({c with mode:=.panicking [{v,recovered:=true}]}::cs)) w #[]:=by
 have dV:(on b a (.inRegion ops (i::rest)::k)).finish v=on b (a.put o.dst v) (.inRegion ops rest::k):=by
  rw[Au,ho];rfl
 rw[s_op ho (by unfold Th;rw[hg]) (.inl hr),<- dV];have jI:((on b a (.inRegion ops (i::rest)::k)).kind==U6)=false:=by simp[on,hb]
 simp only[stepG.apply,if_true,PV az aX,jI,T5,TM,if_false];have h1:(on b a (.inRegion ops (i::rest)::k)).roundOf=none:=hr;have h2:(on b a (.inRegion ops (i::rest)::k)).kind=.deferred:=hb;rw[h1];simp only[tryRecover,h2,hm];simp[seen,G]
theorem apC{P:SI}{main:Bool}{b c:Uc}{a:Act}{k:List WS}{cs:List Uc}{w:To}{ops:Array Tu}{i:Nat}{rest:List Nat}{o:Tu}{cl:Xp}(ho:ops[i]?=some o)(hg:o.guard=none)(az:o.op=.call cl)(aX:cl.callee=.builtin .recover)(hb:b.kind=.deferred)(hr:b.roundOf=none)
  (hm:c.mode=.returning):stepG P main (G (on b a (.inRegion ops (i::rest)::k)) (c::cs)) w=.go (G (on b (a.put o.dst .nilIface) (.inRegion ops rest::k)) (c::cs)) w #[]:=by
 have dV:(on b a (.inRegion ops (i::rest)::k)).finish .nilIface=on b (a.put o.dst .nilIface) (.inRegion ops rest::k):=by
  rw[Au,ho];rfl
 rw[s_op ho (by unfold Th;rw[hg]) (.inl hr),<- dV];have jI:((on b a (.inRegion ops (i::rest)::k)).kind==U6)=false:=by simp[on,hb]
 simp only[stepG.apply,if_true,PV az aX,jI,T5,TM,if_false];have h1:(on b a (.inRegion ops (i::rest)::k)).roundOf=none:=hr;have h2:(on b a (.inRegion ops (i::rest)::k)).kind=.deferred:=hb;rw[h1];simp only[tryRecover,h2,hm];simp[seen,G]
def Ea (P:SI)(fn:ZQ)(K:View->Prop):Ex->Act->View->Prop
 |.normal,a,V|.ret,a,V=>a.defers=[]/\∃v,aP P V (results fn a.tmps) (λx V'=>x=v/\V'=V) (λ_ _=>False)/\K V
 |_,_,_=>False
theorem agt{lv:Bool}{P:SI}{g:TS}{fn:ZQ}{id:Nat}{ops:Array Tu}{c2:T6}{o:Tu}{cl:Xp}{args:Array SO}{md:U9}{v0:SO}{V:View}{R:U9->View->Prop}
  (hf:P.funcs[g]?=some fn) (hb:fn.body=some (.seq (.region id ops false) c2)) (ho:ops[0]?=some o) (hg:o.guard=none) (az:o.op=.call cl) (aX:cl.callee=.builtin .recover)
  (qb:md=.panicking [{v:=v0,recovered:=false}]\/(md=.returning/\v0=.nilIface))
  (h:dj lv P none ops (Ex.then (WP lv P none c2 (Ea P fn (R .returning))) (Ea P fn (R .returning))) (Ud 1 (ops.size-1)) (({tmps:=args++TK (fn.ntmps-args.size) undef,defers:=[]}:Act).put o.dst v0) V):yL lv P g args md V R:=by
 intro main J C fr cs lX hR;let b:Uc:={(default:Uc)with fn:=g,kind:=.deferred,roundOf:=none};have up:Frame.enter P g args .deferred=on b {tmps:=args++TK (fn.ntmps-args.size) undef,defers:=[]} [.code (.seq (.region id ops false) c2)]:=by
  simp[Frame.enter,on,hf,hb,b]
 rw[up];have aW:0<ops.size:=(SR.1 ho).1;have Lg:SV ops.size=0::Ud 1 (ops.size-1):=by
  rw[Vp];obtain⟨n,hn⟩:∃n,ops.size=n+1:=⟨ops.size-1,by omega⟩;rw[hn,VR];rfl
 refine C.idle rfl (λ_=>ab3) (C.idle rfl (λ_=>ab2) ?_);rw[Lg];have fin:∀(c:Uc),qS c.mode=.returning->{c with mode:=qS c.mode}={fr with mode:=.returning}->∀e a' V',Ea P fn (R .returning) e a' V'->vf J b [] (c::cs) e a' V':=by
  intro c hc vS e a' V' q;cases e with
  |normal=>
   obtain⟨hd,v,hs,hr⟩:=q;refine C.idle rfl (λw=>Dw rfl) (aaE (f:=g) (v:=v) C ⟨rfl,hd,rfl,fn,hf,rfl,hs⟩ ?_);rw[vS];exact hR _ _ hr
  |ret=>
   obtain⟨hd,v,hs,hr⟩:=q;intro k;refine C.idle rfl (λw=>Dx rfl) (aaE (f:=g) (v:=v) C ⟨rfl,hd,rfl,fn,hf,rfl,hs⟩ ?_);rw[vS];exact hR _ _ hr
  |_=>exact q.elim
 have run:∀(c:Uc),qS c.mode=.returning->{c with mode:=qS c.mode}={fr with mode:=.returning}->J V (G (on b (({tmps:=args++TK (fn.ntmps-args.size) undef,defers:=[]}:Act).put o.dst v0) (.inRegion ops (Ud 1 (ops.size-1))::[.code c2])) (c::cs)):=by
  intro c hc vS;refine wp_ops _ _ V h main J C b [.code c2] (c::cs) (by show YM≠U6;decide) rfl λe a' V' q=> ?_;cases e with
  |normal=>exact q main J C b [] (c::cs) (by show YM≠U6;decide) rfl λe b8 aS q'=>fin c hc vS e b8 aS q'
  |ret=>exact fin c hc vS .ret a' V' q
  |panic ch=>exact q.elim
  |exit i=>exact q.elim
  |goto i=>exact q.elim
 rcases qb with qb|⟨qb,hv⟩
 ·refine C.idle rfl (λw=>apB ho hg az aX rfl rfl (by rw[lX,qb])) ?_;exact run {fr with mode:=.panicking [{v:=v0,recovered:=true}]} rfl rfl
 ·refine C.idle rfl (λw=>apC ho hg az aX rfl rfl (by rw[lX,qb])) ?_;subst hv;have jo:fr.mode=.returning:=by rw[lX,qb]
  exact run fr (by rw[jo];rfl) (by rw[jo];rfl)
section
variable {lv:Bool}{P:SI}
theorem Nj{g:TS}{args:Array SO}{V:View}{K:Next->View->Prop}{Kp:SO->View->Prop}(hg:qE P g=true)(h:K (.enter g args) V):aP P V (callFunc g args) K Kp:=by
 unfold callFunc;refine aA (qx (cE ?_));unfold qE at hg;split at hg
 ·rename_i fn xH;simp only[Tg,TZ]at hg;rw[xH];dsimp only;have pV:fn.body.isNone=false:=by
   have h1:=hg.1;cases hb:fn.body with
   |none=>rw[hb]at h1;cases h1
   |some _=>rfl
  rw[if_neg (by rw[hg.2];simp),if_neg (by rw[pV];simp)];exact au h
 ·cases hg
theorem BD{E:Env}{V:View}{H:List aa}{args:List AV}{vs:Array SO}{nt:Nat}(hc:Conc E V H)(hd:cF E args vs)(cJ:args.length<=nt):At E V ⟨br 0 args,H⟩ {tmps:=vs++TK (nt-vs.size) undef,defers:=[]} nt:=by
 have aW:(vs++TK (nt-vs.size) undef).size=nt:=by simp[hd.1];omega
 refine⟨hc,λq a e=> ?_,aW⟩;obtain⟨_,e⟩:=Mp args 0 q a e;simp only[ZV]at e;have hq:q<args.length:=(SL.1 e).1;have s7:q<vs.size:=by rw[hd.1];exact hq
 refine⟨by rw[aW];omega,?_⟩;have:=hd.2 q a e;rw[SH,Ya s7];rwa [SH]at this
def yK (E:Env)(c:AV×List AV)(d:UX):Prop:=∃f first cQ fa ca vs,c.1=.fn (.func f) first cQ/\d=⟨.fn (.func f) ca,fa++vs⟩/\cF E first fa/\cF E cQ ca/\cF E c.2 vs
theorem yK.mono{E E':Env}(h:E.Le E'){c:AV×List AV}{d:UX}(k:yK E c d):yK E' c d:=by
 obtain⟨f,first,cQ,fa,ca,vs,h1,h2,h3,h4,h5⟩:=k;exact⟨f,first,cQ,fa,ca,vs,h1,h2,h3.mono h,h4.mono h,h5.mono h⟩
def Oa (E:Env):Option AV->U9->Prop
 |none,md=>md=.returning
 |some pv,md=>∃v,md=.panicking [{v,recovered:=false}]/\aq E pv v
def qF (lv:Bool)(P:SI)(c:AV×List AV)(H:List aa)(m:Option AV)(kr kp:List aa->Prop):Prop:=
 ∀(E:Env)(V:View)(d:UX)(md:U9),Conc E V H->yK E c d->Oa E m md->aP P V (invoke d.target d.args) (λnx V'=>∃g args,nx=.enter g args/\yL lv P g args md V' λnG aS=>∃E' H',E.Le E'/\aS.role=V.role/\aS.deaf=V.deaf/\Conc E' aS H'/\((nG=.returning/\kr H')\/(nG=md/\m.isSome=true/\kp H'))) (λ_ _=>False)
def A8 (n0:Nat)(kr:List aa->Prop):ao->AS->Prop
 |.normal,s|.ret,s=>kr s.H\/∃H' G,s.H=H'++G/\n0<=H'.length/\bH H'/\kr H'
 |_,_=>False
theorem A8.out{n0:Nat}{E0 E:Env}{V':View}{H:List aa}{kr:List aa->Prop}(h:kr H\/∃H' G,H=H'++G/\n0<=H'.length/\bH H'/\kr H')(hc:Conc E V' H)(hle:E0.Le E)(hn:E0.n=n0):∃E' H',E0.Le E'/\Conc E' V' H'/\kr H':=by
 rcases h with h|⟨H',G,rfl,h1,h2,h3⟩
 ·exact⟨E,H,hle,hc,h⟩
 ·exact⟨{E with n:=H'.length},H',DR h1 (by rw[hc.n];simp) hle hn,hc.trim h2,h3⟩
theorem results_none{fn:ZQ}{tmps:Array SO}{V:View}(hr:fn.results=#[]):aP P V (results fn tmps) (λx V'=>x=.tuple #[]/\V'=V) (λ_ _=>False):=by
 unfold results;rw[show fn.results=([]:List UO).toArray from hr,XZ];refine aA ?_;refine aA ?_;rw[UC];refine au (au (au ⟨?_,rfl⟩));simp
theorem ags{g:TS}{fn:ZQ}{id nt:Nat}{ops:Array Tu}{c2:T6}{o:Tu}{cl:Xp}{first cQ aE:List AV}{H:List aa}{m:Option AV}{kr kp:List aa->Prop}
  (hg:qE P g=true) (hf:P.funcs[g]?=some fn) (hb:fn.body=some (.seq (.region id ops false) c2)) (hr:fn.results=#[]) (hn:fn.ntmps=nt) (ho:ops[0]?=some o) (sR:o.guard=none) (az:o.op=.call cl) (aX:cl.callee=.builtin .recover) (dn:jG nt ops=true) (cJ:(first++aE++cQ).length<=nt)
  (h:im lv P ops (ops.toList.drop 1) ((⟨br 0 (first++aE++cQ),H⟩:AS).put o.dst (m.getD (.val .nilIface))) (λs'=>aQ lv P none nt c2 s' (A8 H.length kr)) (λ_ _=>False)):qF lv P (.fn (.func g) first cQ,aE) H m kr kp:=by
 intro E V d md hc hd qb;obtain⟨f,as3,asY,fa,ca,vs,h1,rfl,h3,h4,h5⟩:=hd;cases h1;unfold invoke;dsimp only;refine Nj hg ⟨g,_,rfl,?_⟩;obtain⟨v0,hv,akp⟩:∃v0,aq E (m.getD (.val .nilIface)) v0/\(md=.panicking [{v:=v0,recovered:=false}]\/(md=.returning/\v0=.nilIface)):=by
  cases m with
  |none=>exact⟨.nilIface,.val _,.inr ⟨qb,rfl⟩⟩
  |some pv=>obtain⟨v,e,hv⟩:=qb;exact⟨v,hv,.inl e⟩
 refine agt hf hb ho sR az aX akp ?_;have ai:=BD (nt:=nt) hc (BO (BO h3 h5) h4) cJ;rw[hn];have aW:0<ops.size:=(SR.1 ho).1;have fz:o∈ops:=W1 ho;have aU:At E V ((⟨br 0 (first++aE++cQ),H⟩:AS).put o.dst (m.getD (.val .nilIface))) (({tmps:=fa++vs++ca++TK (nt-(fa++vs++ca).size) undef,defers:=[]}:Act).put o.dst v0) nt:=
  ⟨by rw[eZ];exact ai.bt,ai.tok.gR (λd e=>by rw[ai.size];exact(jG.out dn fz).1 d e) hv,(dU _ _ _).trans ai.size⟩
 refine Aw (r:=none) (Φ:=λe s'=>match e with
  |.normal=>aQ lv P none nt c2 s' (A8 H.length kr)
  |_=>False) (λo ho d e=>(jG.out dn ho).1 d e) (λ_ _=> .inl rfl) (ops.size-1) 1 _ (by omega) h E V _ _ aU λae e E' V' a' s' hk ajx he hΦ=> ?_
 cases ae<;>cases e<;>first
  |exact he.elim
  |exact hΦ.elim
  |skip
 refine hΦ E' V' a' _ ajx λae e bO aS b8 dh aJ de jW tg=> ?_;have fin:(kr dh.H\/∃H' G,dh.H=H'++G/\H.length<=H'.length/\bH H'/\kr H')->Ea P fn (λaS=>∃E' H',E.Le E'/\aS.role=V.role/\aS.deaf=V.deaf/\Conc E' aS H'/\((Yr=.returning/\kr H')\/(Yr=md/\m.isSome=true/\kp H'))) .ret b8 aS:=λtg=>by
  obtain⟨E3,H',q1,q2,q3⟩:=A8.out (E0:=E) tg de.bt (hk.le.trans aJ.le) hc.n;have bx:b8.defers=[]:=by rw[aJ.defers,hk.defers];exact put_defers _ _ _
  exact⟨bx,_,results_none hr,E3,H',q1,aJ.role.trans hk.role,aJ.deaf.trans hk.deaf,q2,.inl ⟨rfl,q3⟩⟩
 cases ae<;>cases e<;>first
  |exact jW.elim
  |exact tg.elim
  |exact fin tg
theorem Po{g:TS}{fn:ZQ}{id nt:Nat}{ops:Array Tu}{c2:T6}{o:Tu}{l:List Tu}{d0:Option Nat}{cl:Xp}{first cQ aE:List AV}{H:List aa}{m:Option AV}{kr kp:List aa->Prop}
  (hg:qE P g=true) (hf:P.funcs[g]?=some fn) (hb:fn.body=some (.seq (.region id ops false) c2)) (hr:fn.results=#[]) (hn:fn.ntmps=nt) (hl:ops.toList=o::l) (sR:o.guard=none) (a_:o.dst=d0) (az:o.op=.call cl) (aX:cl.callee=.builtin .recover) (dn:jG nt ops=true) (cJ:(first++aE++cQ).length<=nt)
  (h:im lv P ops l ((⟨br 0 (first++aE++cQ),H⟩:AS).put d0 (m.getD (.val .nilIface))) (λs'=>aQ lv P none nt c2 s' (A8 H.length kr)) (λ_ _=>False)):qF lv P (.fn (.func g) first cQ,aE) H m kr kp:=by
 subst a_;refine ags hg hf hb hr hn (o:=o) (cl:=cl) ?_ sR az aX dn cJ (by rw[hl];simpa using h);have:ops.toList[0]?=some o:=by rw[hl];rfl
 simpa using this
end
section
variable {lv:Bool}{P:SI}{r:Option Nat}{s:AS}
theorem GZ{nt:Nat}{all:Array Tu}{Φ:ao->AS->Prop}(dn:∀o∈all,∀d,o.dst=some d->d<nt)(ng:r=none):∀(n k:Nat)(s:AS),k+n<=all.size->im lv P all ((all.toList.drop k).take n) s (Φ .normal) (λpv s=>Φ (.panic pv) s)->
  ∀(E:Env)(V:View)(a:Act)(Q:Ex->Act->View->Prop),At E V s a nt->(∀ae e E' V' a' s',Kept E E' V V' a a'->At E' V' s' a' nt->pD E' ae e->Φ ae s'->Q e a' V')->dj lv P r all Q (Ud k n) a V
 |0,k,s,hk,h,E,V,a,Q,ai,hQ=>by
  rw[aj_]at h;exact hQ .normal .normal E V a s (Kept.refl E V a) ai trivial h
 |n+1,k,s,hk,h,E,V,a,Q,ai,hQ=>by
  have hlt:k<all.size:=by omega
  have hd:all.toList.drop k=all[k]::all.toList.drop (k+1):=by
   rw[TQ (by simpa using hlt)];simp
  rw[hd,VQ]at h;have fz:all[k]∈all:=XU hlt;have ho:all[k]?=some all[k]:=SJ hlt;simp only[VR,dj,ho];have go:∀s:AS,At E V s a nt->mj lv P s all[k] (λs'=>im lv P all ((all.toList.drop (k+1)).take n) s' (Φ .normal) (λpv s=>Φ (.panic pv) s)) (λpv s=>Φ (.panic pv) s)->wS lv P r all[k] a V (dj lv P r all Q (Ud (k+1) n)) Q:=λs ai h=>by
   refine h.sound (lv:=lv) (r:=r) E V a _ Q ai.bt ai.tok (λd e=>by rw[ai.size];exact dn _ fz d e) (.inl ng) (λE' V' a' s' aJ aY l6 hn=> ?_) (λE' V' s' pv v aJ aY l6 bp hb=> ?_)
   ·exact GZ dn ng n (k+1) s' (by omega) hn E' V' a' Q ⟨aY,l6,aJ.size.trans ai.size⟩ (λae e bO aS b8 dh fL de he hΦ=>hQ ae e bO aS b8 dh (aJ.trans fL) de he hΦ)
   ·exact hQ (.panic pv) (.panic _) E' V' a s' aJ ⟨aY,l6,ai.size⟩ ⟨v,rfl,bp⟩ hb
  simp only[im]at h;split at h
  ·rename_i hg;have hw:Th all[k] (yielded all a.tmps)=true:=(by unfold Th;rw[hg]);rw[if_pos hw];exact .inl (go s ai h)
  ·rename_i j bT hg;obtain⟨d,fY,h⟩:=h.out;obtain⟨av,h1,h⟩:=h.out;obtain⟨b,rfl,h2,h3⟩:=BB h;have hv:=(ai.tok d _ h1).2;have hy:yielded all a.tmps j=some b:=by
    obtain⟨oj,ku,iZ⟩:=Te.1 fY;generalize hx:a.tmps.getD d undef=x at hv;cases hv;have lY:d<a.tmps.size:=(ai.tok d _ h1).1;rw[SH,SJ lY]at hx;simp only[S7]at hx;simp[yielded,ku,iZ,SJ lY,hx]
   have rL:∀b',b=b'->At E V ⟨(d,.val (.bool b'))::s.T,s.H⟩ a nt:=λb' dD=>by
    subst dD;refine⟨ai.bt,λt x e=> ?_,ai.size⟩;simp only[look]at e;split at e
    ·rename_i e';subst e';cases e;exact ai.tok d _ h1
    ·exact ai.tok t x e
   by_cases hb:b=bT
   ·have hw:Th all[k] (yielded all a.tmps)=true:=(by unfold Th;rw[hg];simp[hy,hb]);rw[if_pos hw];exact .inl (go _ (rL bT hb) (h2 hb))
   ·have hw:¬Th all[k] (yielded all a.tmps)=true:=(by unfold Th;rw[hg];simp[hy,hb]);rw[if_neg hw];have dD:b= !bT:=(by cases b<;>cases bT<;>simp_all);have vH:=h3 dD;have ai:=rL _ dD;exact GZ dn ng n (k+1) ((⟨(d,.val (.bool !bT))::s.T,s.H⟩:AS).put all[k].dst (.val undef)) (by omega) vH E V (a.put all[k].dst undef) Q
     ⟨by rw[eZ];exact ai.bt,ai.tok.gR (λd e=>by rw[ai.size];exact dn _ fz d e) (.val undef),by rw[dU];exact ai.size⟩
     (λae e bO aS b8 dh fL de he hΦ=>hQ ae e bO aS b8 dh ⟨fL.le,fL.size.trans (dU _ _ _),fL.defers.trans (put_defers _ _ _),fL.role,fL.deaf⟩ de he hΦ)
theorem mr.mono{o:Tu}{a:Act}{N N':Act->View->Prop}{Q Q':Ex->Act->View->Prop}(hN:∀a V,N a V->N' a V)(hQ:∀ch a V,Q (.panic ch) a V->Q' (.panic ch) a V){nx:Next}{V:View}(h:mr lv P r o a N Q nx V):mr lv P r o a N' Q' nx V:=by
 cases nx with
 |value v=>exact hN _ _ h
 |skip=>exact hN _ _ h
 | «defer» d => exact ⟨h.1, hN _ _ h.2⟩
 |enter f args=>
  refine Body.mono (R:=fun
   |.ret v,V'=>N (a.put o.dst v) V'
   |.panic ch,V'=>Q (.panic ch) a V') (R':=fun
   |.ret v,V'=>N' (a.put o.dst v) V'
   |.panic ch,V'=>Q' (.panic ch) a V') h λot V' h=> ?_
  cases ot
  ·exact hN _ _ h
  ·exact hQ _ _ _ h
 |round l f tmps aE b=>
  refine mO.mono (R:=fun
   |.ret v,V'=>N (a.put o.dst v) V'
   |.panic ch,V'=>Q (.panic ch) a V') (R':=fun
   |.ret v,V'=>N' (a.put o.dst v) V'
   |.panic ch,V'=>Q' (.panic ch) a V') h λot V' h=> ?_
  cases ot
  ·exact hN _ _ h
  ·exact hQ _ _ _ h
 |_=>exact h.elim
theorem AZ{ops:Array Tu}{Q:Ex->Act->View->Prop}{l2:List Nat}:∀(l1:List Nat)(a:Act)(V:View),dj lv P r ops (Ex.then (dj lv P r ops Q l2) Q) l1 a V->dj lv P r ops Q (l1++l2) a V
 |[],a,V,h=>h
 |i::l1,a,V,h=>by
  simp only[U1,dj]at h⊢;cases ho:ops[i]?with
  |none=>rw[ho]at h;exact AZ l1 a V h
  |some o=>
   rw[ho]at h;dsimp only at h⊢;split at h
   ·rename_i hw;rw[if_pos hw];rcases h with h|h
    rotate_left
    ·exact .inr (h.mono λa V h=>AZ l1 a V h)
    obtain⟨h1,h2⟩:=h;exact .inl ⟨h1,h2.mono (λnx V' h=>mr.mono (λa V h=>AZ l1 a V h) (λ_ _ _ h=>h) h) λ_ _ h=>h⟩
   ·rename_i hw;rw[if_neg hw];exact AZ l1 _ V h
def wN (E:Env):List (AV×List AV)->List UX->Prop
 |[],[]=>True
 |c::ds,d::l=>yK E c d/\wN E ds l
 |_,_=>False
theorem wN.mono{E E':Env}(h:E.Le E'):∀{ds:List (AV×List AV)}{l:List UX},wN E ds l->wN E' ds l
 |[],[],_=>trivial
 |_::_,_::_,k=>⟨k.1.mono h,wN.mono h k.2⟩
 |[],_::_,k=>k.elim
 |_::_,[],k=>k.elim
structure qI (E E':Env)(V V':View)(a a':Act):Prop where
 le:E.Le E'
 size:a'.tmps.size=a.tmps.size
 role:V'.role=V.role
 deaf:V'.deaf=V.deaf
theorem qI.trans{E E' bO:Env}{V V' aS:View}{a a' b8:Act}(h:qI E E' V V' a a')(k:qI E' bO V' aS a' b8):qI E bO V aS a b8:=⟨h.le.trans k.le,k.size.trans h.size,k.role.trans h.role,k.deaf.trans h.deaf⟩
theorem Kept.d{E E':Env}{V V':View}{a a':Act}(h:Kept E E' V V' a a'):qI E E' V V' a a':=⟨h.le,h.size,h.role,h.deaf⟩
def A3 (lv:Bool)(P:SI)(nt:Nat)(c:T6)(s:AS)(ds:List (AV×List AV))(Φ:ao->AS->List (AV×List AV)->Prop):Prop:=
 ∀(E:Env)(V:View)(a:Act)(Q:Ex->Act->View->Prop),At E V s a nt->wN E ds a.defers->(∀ae e E' V' a' s' m8,qI E E' V V' a a'->At E' V' s' a' nt->wN E' m8 a'.defers->pD E' ae e->Φ ae s' m8->Q e a' V')->WP lv P none c Q a V
def ao.wE (next:AS->List (AV×List AV)->Prop)(Φ:ao->AS->List (AV×List AV)->Prop):ao->AS->List (AV×List AV)->Prop
 |.normal,s,ds=>next s ds
 |e,s,ds=>Φ e s ds
theorem afr{nt id n:Nat}{ops:Array Tu}{o:Tu}{c:Xp}{x:Ti}{ds:List (AV×List AV)}{Φ:ao->AS->List (AV×List AV)->Prop}(hn:ops.size=n+1)(ho:ops[n]?=some o)(hg:o.guard=none)(az:o.op=.defer c)(aX:c.callee=.value x)
  (dn:(ops.all λo=>o.dst.all (·<nt))=true)
  (h:im lv P ops (ops.toList.take n) s (λs'=>ap (s'.ev x) λf=>ap (eW s' c.args.toList) λaE=>(∃g first cQ,f=.fn (.func g) first cQ)/\Φ .normal (s'.put o.dst (.val undef)) ((f,aE)::ds)) (λpv s'=>Φ (.panic pv) s' ds)):A3 lv P nt (.region id ops false) s ds Φ:=by
 intro E V a Q ai hd hQ;refine wp_region ?_;have hr:SV ops.size=Ud 0 n++[n]:=by
  have:=Y7 (s:=0) (m:=n) (n:=1);rw[Vp,hn,<- this];simp
 rw[hr];have Rl:∀o∈ops,∀d,o.dst=some d->d<nt:=λo ho d e=>by
  have:=(UJ.1 dn) o ho;rw[e]at this;simpa using this
 refine AZ _ _ _ (GZ (r:=none) (Φ:=λe s'=>match e with
  |.normal=>ap (s'.ev x) λf=>ap (eW s' c.args.toList) λaE=>(∃g first cQ,f=.fn (.func g) first cQ)/\Φ .normal (s'.put o.dst (.val undef)) ((f,aE)::ds)
  |e=>Φ e s' ds) Rl rfl n 0 s (by omega) (by simpa using h) E V a _ ai λae e E' V' a' s' hk aU he hΦ=> ?_)
 cases ae<;>cases e<;>first
  |exact he.elim
  |exact hQ _ _ E' V' a' s' ds hk.d aU (by rw[hk.defers];exact hd.mono hk.le) he hΦ
  |skip
 obtain⟨f,h1,hA⟩:=ap.out hΦ;obtain⟨aE,h2,⟨g,first,cQ,rfl⟩,hB⟩:=hA.out;simp only[Ex.then,dj,ho];rw[if_pos (by unfold Th;rw[hg])];refine .inl ⟨.inl rfl,?_⟩;unfold execOp;rw[az];dsimp only;unfold resolve;rw[aX];dsimp only;have bx:=aq.ev aU.tok h1;generalize cg:a'.eval x=cv at bx;cases bx with
 |fn dE fN q1 q2=>
  rename_i fa ca;unfold U4;refine aA (au (au ?_));refine⟨rfl,?_⟩;have fz:o∈ops:=W1 ho;have e:c.args.map a'.eval=(c.args.toList.map a'.eval).toArray:=by apply VB;simp
  refine hQ .normal .normal E' V' _ (s'.put o.dst (.val undef)) ((.fn (.func g) first cQ,aE)::ds) ⟨hk.le,(dU _ _ _).trans hk.size,hk.role,hk.deaf⟩ ⟨by rw[eZ];exact aU.bt,aU.tok.gR (a:={a' with defers:=⟨.fn (.func g) ca,fa++c.args.map a'.eval⟩::a'.defers}) (λd e=>by rw[aU.size];exact Rl o fz d e) (.val _),(dU _ _ _).trans aU.size⟩ ?_ trivial hB;rw[put_defers];refine⟨⟨g,first,cQ,fa,ca,_,rfl,rfl,⟨dE,q1⟩,⟨fN,q2⟩,?_⟩,by rw[hk.defers];exact hd.mono hk.le⟩;rw[e];exact zo aU.tok h2
theorem OT{nt id n:Nat}{ops:Array Tu}{o:Tu}{c:Xp}{x:Ti}{ds:List (AV×List AV)}{Φ:ao->AS->List (AV×List AV)->Prop}(hn:ops.size=n+1)(ho:ops[n]?=some o)(hg:o.guard=none)(a_:o.dst=none)(az:o.op=.defer c)(aX:c.callee=.value x)
  (dn:(ops.all λo=>o.dst.all (·<nt))=true)
  (h:im lv P ops (ops.toList.take n) s (λs'=>ap (s'.ev x) λf=>ap (eW s' c.args.toList) λaE=>(∃g first cQ,f=.fn (.func g) first cQ)/\Φ .normal s' ((f,aE)::ds)) (λpv s'=>Φ (.panic pv) s' ds)):A3 lv P nt (.region id ops false) s ds Φ:=by
 refine afr hn ho hg az aX dn ?_;rw[a_];exact h
end
section
variable {lv:Bool}{P:SI}
theorem abV{rs:List UO}{fn:ZQ}{n nt:Nat}{k kp:AV->List aa->Prop}{E E':Env}{V V':View}{s':AS}{a':Act}(hr:fn.results=rs.toArray)(ai:At E' V' s' a' nt)(hle:E.Le E')(hn:E.n=n)(bW:V'.role=V.role)(eQ:V'.deaf=V.deaf)(hΦ:ap (gT P s' rs) λl=>cC n s'.H (iR l) k):
  ∃v,aP P V' (results fn a'.tmps) (λx aS=>x=v/\aS=V') (λ_ _=>False)/\gJ E V k kp (.ret v) V':=by
 obtain⟨l,h1,h2⟩:=hΦ.out;have gg:∃v,aq E' (iR l) v/\aP P V' (results fn a'.tmps) (λx aS=>x=v/\aS=V') (λ_ _=>False):=by
  obtain⟨vs,hl,lH,xR⟩:=Hi ai rs l h1;refine⟨if h:vs.length=1 then vs[0]else .tuple vs.toArray,?_,?_⟩
  ·match l,vs,hl,lH with
   |[x],[v],_,lH=>exact lH 0 x rfl
   |[],[],_,lH=>exact .aN rfl (by simp)
   |x::y::l,v::w::vs,hl,lH=>exact .aN (by simpa using hl) (λi z hz=>by simpa[SH,SE]using lH i z hz)
  ·unfold results;rw[hr,XZ];refine aA ?_;refine aA (xR ?_);refine au (au ⟨?_,rfl⟩);simp
 obtain⟨v,bp,qh⟩:=gg;obtain⟨b,bO,H',q1,q2,q3,q4⟩:=xe h2 ai.bt bp hle hn;exact⟨v,qh,b,bO,H',q1,bW,eQ,q2,q3,q4⟩
def yP (lv:Bool)(P:SI)(rs:List UO)(n:Nat)(k kp:AV->List aa->Prop):ao->AS->List (AV×List AV)->Prop
 |.normal,s,[]|.ret,s,[]=>ap (gT P s rs) λl=>cC n s.H (iR l) k
 |.panic pv,s,[]=>cC n s.H pv kp
 |.normal,s,[c]|.ret,s,[c]=>qF lv P c s.H none (λH'=>ap (gT P ⟨s.T,H'⟩ rs) λl=>cC n H' (iR l) k) (λ_=>False)
 |.panic pv,s,[c]=>qF lv P c s.H (some pv) (λH'=>ap (gT P ⟨s.T,H'⟩ rs) λl=>cC n H' (iR l) k) (λH'=>cC n H' pv kp)
 |_,_,_=>False
theorem yL.mono{g:TS}{args:Array SO}{md:U9}{V:View}{R R':U9->View->Prop}(h:yL lv P g args md V R)(hr:∀m V,R m V->R' m V):yL lv P g args md V R':=λmain J C fr cs hm hR=>h main J C fr cs hm λnG V' r=>hR nG V' (hr _ _ r)
@[congr] theorem asQ {nt : Nat} {c : T6} {s s' : AS} {ds m8 : List (AV × List AV)} {Φ : ao -> AS -> List (AV × List AV) -> Prop} (h : s = s') (hd : ds = m8) : A3 lv P nt c s ds Φ = A3 lv P nt c s' m8 Φ := by rw [h, hd]
theorem aq9(K:AS->List (AV×List AV)->Prop)(Φ:ao->AS->List (AV×List AV)->Prop)(s:AS)(ds:List (AV×List AV)):ao.wE K Φ .normal s ds=K s ds:=by rw[ao.wE]
theorem arb(K:AS->List (AV×List AV)->Prop)(Φ:ao->AS->List (AV×List AV)->Prop)(s:AS)(ds:List (AV×List AV)):ao.wE K Φ .ret s ds=Φ .ret s ds:=by rw[ao.wE];simp
theorem ara(K:AS->List (AV×List AV)->Prop)(Φ:ao->AS->List (AV×List AV)->Prop)(a:AV)(s:AS)(ds:List (AV×List AV)):ao.wE K Φ (.panic a) s ds=Φ (.panic a) s ds:=by rw[ao.wE];simp
@[congr] theorem atE {K : AS -> List (AV × List AV) -> Prop} {Φ : ao -> AS -> List (AV × List AV) -> Prop} {e e' : ao} {s s' : AS} {ds m8 : List (AV × List AV)} (he : e = e') (h : s = s') (hd : ds = m8) : ao.wE K Φ e s ds = ao.wE K Φ e' s' m8 := by rw [he, h, hd]
@[congr] theorem as4 {rs : List UO} {n : Nat} {k kp : AV -> List aa -> Prop} {e e' : ao} {s s' : AS} {ds m8 : List (AV × List AV)} (he : e = e') (h : s = s') (hd : ds = m8) : yP lv P rs n k kp e s ds = yP lv P rs n k kp e' s' m8 := by rw [he, h, hd]
theorem aiM(rs:List UO)(n:Nat)(k kp:AV->List aa->Prop)(s:AS):yP lv P rs n k kp .ret s []=ap (gT P s rs) λl=>cC n s.H (iR l) k:=by rw[yP]
theorem aiL(rs:List UO)(n:Nat)(k kp:AV->List aa->Prop)(s:AS)(pv:AV):yP lv P rs n k kp (.panic pv) s []=cC n s.H pv kp:=by rw[yP]
attribute [seval] aq9 arb ara aiM aiL
end
section
variable {P:SI}
theorem acU{ι:Type}{body:ι->PUnit->Sem (ForInStep PUnit)}:∀(l:List ι),(∀i∈l,cI P (body i ⟨⟩) (.yield ⟨⟩))->cI P (forIn l ⟨⟩ body) ⟨⟩
 |[],_=>by simpa using iC PUnit.unit
 |i::l,h=>by
  rw[WY];exact k_ (h i (TB ..)) (acU l λj hj=>h j (Tb _ hj))
theorem aqV{t:TypeId}{k0 k:TY}{d:Nat}{b:Bool}{x:Int}(h:P.underlying t=some (.int k0)):cI P (Vb b (d+1) t (.int k x)) ():=by
 rw[Vb];exact yD h (iC _)
theorem acT{t e:TypeId}{k0 k:TY}{n d:Nat}{i:We}{b:Bool}{xs:List Int}(ht:P.underlying t=some (.array n e))(he:P.underlying e=some (.int k0))(hi:P.info? e=some i)(hs:i.size=1)(hx:xs.length=n):
  cI P (Vb b (d+2) t (.agg (xs.map (SF k)).toArray)) ():=by
 rw[Vb];refine yD ht ?_;dsimp only;simp only[Wu,Xs];refine k_ (a:=⟨⟩) ?_ (iC _);refine acU _ λj hj=> ?_;have hn:(n-0+1-1)/1=n:=by simp
 have oZ:j<n:=by rw[hn]at hj;simp[XX]at hj;omega
 have gx:xs[j]?=some (xs[j]'(by omega)):=SY _;refine NA hi ?_;rw[hs,Yb];refine DL he rfl (v:=.int k (xs[j]'(by omega))) (by simp[gx]) ?_;exact k_ (aqV he) (iC _)
def ek (x:List Int×Nat):Wh:={key:=.agg (x.1.map (SF .i64)).toArray,val:=.bool true,born:=x.2}
def pN (x:List Int):List (List Int×Nat)->Nat->Option (Nat×SO)
 |[],_=>none
 |y::ts,i=>if x==y.1 then some (i,.bool true)else pN x ts (i+1)
theorem acW{t e:TypeId}{k0:TY}{n:Nat}{i:We}{x:List Int}(ht:P.underlying t=some (.array n e))(he:P.underlying e=some (.int k0))(hi:P.info? e=some i)(hs:i.size=1)(hx:x.length=n):∀(ts:List (List Int×Nat))(j:Nat),(∀y∈ts,y.1.length=n)->
  cI P (XF t (.agg (x.map (SF .i64)).toArray) (ts.map ek) j) (pN x ts j)
 |[],j,_=>by rw[List.map_nil,XF,pN];exact iC _
 |y::ts,j,h=>by
  rw[UW,XF,pN];refine k_ (acV ht he hi hs hx (h y (TB ..))) ?_;by_cases wb:(x==y.1)=true
  ·rw[if_pos wb,if_pos wb];exact iC _
  ·rw[if_neg wb,if_neg wb];exact acW ht he hi hs hx ts (j+1) λz hz=>h z (Tb _ hz)
theorem acX{t e:TypeId}{k0:TY}{n:Nat}{i:We}{x:List Int}(ht:P.underlying t=some (.array n e))(he:P.underlying e=some (.int k0))(hi:P.info? e=some i)(hs:i.size=1)(hx:x.length=n){ts:List (List Int×Nat)}(h:∀y∈ts,y.1.length=n):
  cI P (VM t (.agg (x.map (SF .i64)).toArray) (ts.map ek)) (pN x ts 0):=by
 unfold VM;refine yD ht ?_;cases ts with
 |nil=>exact iC _
 |cons y ts=>
  have e1:Instr.findNow (.array n e) (.agg (x.map (SF .i64)).toArray) ((y::ts).map ek) 0=none:=rfl;rw[e1];exact acW ht he hi hs hx (y::ts) 0 h
theorem P9{x:List Int}:∀{ts:List (List Int×Nat)}{j i:Nat}{v:SO},pN x ts j=some (i,v)->∃b,j<=i/\ts[i-j]?=some (x,b)/\v=.bool true
 |y::ts,j,i,v,h=>by
  rw[pN]at h;split at h
  ·rename_i wb;cases h;obtain⟨y1,b⟩:=y;have:x=y1:=(by simpa using wb);subst this;exact⟨b,SQ _,by simp,rfl⟩
  ·obtain⟨b,h1,h2,h3⟩:=P9 h;refine⟨b,by omega,?_,h3⟩;have:i-j=(i-(j+1))+1:=(by omega);rw[this,UN];exact h2
theorem P8{x:List Int}:∀{ts:List (List Int×Nat)}{j:Nat},pN x ts j=none->∀y∈ts,y.1≠x
 |y::ts,j,h,z,hz=>by
  rw[pN]at h;split at h
  ·cases h
  ·rename_i wb;rcases SK.1 hz with rfl|hz
   ·intro e;exact wb (by simp[e])
   ·exact P8 h z hz
end
theorem apI(xs:List Int):Wy 10000 (.agg (xs.map (SF .i64)).toArray) (.agg (xs.map (SF .i64)).toArray)=true:=by
 show Wy (9999+1) _ _=true;rw[Wy];simp only[beq_self_eq_true,U_,Tv]
 rintro⟨a,b⟩ h
 have:a=b/\a∈xs.map (SF .i64):=by
  have key:∀l:List SO,(a,b)∈l.zip l->a=b/\a∈l:=by
   intro l;induction l with
   |nil=>intro h;cases h
   |cons x l ih=>
    intro h;rw[List.zip_cons_cons]at h;rcases SK.1 h with h|h
    ·cases h;exact⟨rfl,TB ..⟩
    ·exact⟨(ih h).1,Tb _ (ih h).2⟩
  exact key _ h
 obtain⟨rfl,hm⟩:=this;obtain⟨x,_,rfl⟩:=Tl.1 hm;simp[Wy]
theorem abM(ts:List (List Int×Nat))(ck:Nat)(x:List Int):wA (ts.map ek).toArray ck (.agg (x.map (SF .i64)).toArray) (.bool true) none=.map ((ts++[(x,ck)]).map ek).toArray (ck+1):=by
 simp[wA,ek]
theorem aoo{ts:List (List Int×Nat)}{ck i b:Nat}{x:List Int}{v:SO}(h:ts[i]?=some (x,b)):wA (ts.map ek).toArray ck (.agg (x.map (SF .i64)).toArray) (.bool true) (some (i,v))=.map (ts.map ek).toArray ck:=by
 simp only[wA];congr 1;apply Array.ext_getElem?;intro j;rw[Wd];by_cases hj:i=j
 ·subst hj;rw[if_pos rfl];simp[h,ek]
 ·rw[if_neg hj]
theorem anw(xs:List Int):AV.of (.agg (xs.map (SF .i64)).toArray)=.agg (xs.map iv):=by
 simp only[AV.of,XY];congr 1
theorem O4(ts:List (List Int×Nat))(ck:Nat)(h:∀y∈ts,y.2<ck):((ts.map ek).toArray.all (λe=>decide (e.born>=ck))=false\/(ts.map ek).toArray.isEmpty=true):=by
 cases ts with
 |nil=>right;rfl
 |cons y ts=>
  left;have:=h y (TB ..);simp[ek];omega
theorem Dh{α β:Type}(f:α->β):∀{l:List α},(l.map f).Nodup->l.Nodup
 |[],_=>WI
 |x::l,h=>by
  rw[UW,VD]at h;exact VD.2 ⟨λhm=>h.1 (Tl.2 ⟨x,hm,rfl⟩),Dh f h.2⟩
theorem ab6{ts vs:List (List Int×Nat)}(hv:(vs.map (·.2)).Nodup)(ht:(ts.map (·.2)).Nodup)(lD:∀y∈vs,y∈ts)(fx:∀y∈ts,y.2∈vs.map (·.2)):vs.Perm ts:=by
 have x6:vs.Nodup:=Dh _ hv;have l6:ts.Nodup:=Dh _ ht;refine(List.perm_ext_iff_of_nodup x6 l6).2 λy=>⟨lD y,λhy=> ?_⟩;obtain⟨z,hz,e⟩:=Tl.1 (fx y hy);have LJ:=lD z hz;have:∀(l:List (List Int×Nat)),(l.map (·.2)).Nodup->z∈l->y∈l->z=y:=by
  intro l;induction l with
  |nil=>intro _ h;cases h
  |cons x l ih=>
   intro hn h1 h2;rw[UW,VD]at hn;rcases SK.1 h1 with e1|JJ
   ·rcases SK.1 h2 with e2|zA
    ·rw[e1,e2]
    ·exact absurd (show x.2∈l.map (·.2)from Tl.2 ⟨y,zA,by rw[<- e1];exact e.symm⟩) hn.1
   ·rcases SK.1 h2 with e2|zA
    ·exact absurd (show x.2∈l.map (·.2)from Tl.2 ⟨z,JJ,by rw[<- e2];exact e⟩) hn.1
    ·exact ih hn.2 JJ zA
 rw[<- this ts ht LJ hy];exact hz
theorem Qa{y:List Int×Nat}:∀{ts:List (List Int×Nat)},(ts.map (·.2)).Nodup->y∈ts->(ts.map ek).toArray.find? (λe=>e.born==y.2)=some (ek y):=by
 intro ts hn hy;rw[List.find?_toArray];induction ts with
 |nil=>cases hy
 |cons z ts ih=>
  rw[UW,VD]at hn;rw[UW];by_cases h:z.2=y.2
  ·rw[List.find?_cons_of_pos (by simp[ek,h])];rcases SK.1 hy with e|pk
   ·rw[e]
   ·exact absurd (show z.2∈ts.map (·.2)from Tl.2 ⟨y,pk,h.symm⟩) hn.1
  ·rw[List.find?_cons_of_neg (by simp[ek,h])];rcases SK.1 hy with e|pk
   ·exact absurd (by rw[e]) h
   ·exact ih hn.2 pk
theorem abn(y:List Int×Nat):AV.of (ek y).key=.agg (y.1.map iv):=anw y.1
section
variable {lv:Bool}{P:SI}
theorem apN{l:Nat}{r:aq_}{V:View}(ho:V.own l=some (.loop r))(hs:r.state=.ready)(hc:V.role.chan≠some l):aP P V (do XG l;pure Next.skip) (λnx V'=>nx=.skip/\V'=V.upd l (.loop {r with state:=.busy})) (λ_ _=>False):=by
 unfold XG WF;refine aA (aA (aA ?_));unfold getObj;refine nK ho rfl rfl hc (cE ?_);dsimp only;refine au ?_;refine aA ?_;unfold setObj;refine yy ho rfl rfl hc (cE ?_);rw[hs];exact au (au ⟨rfl,rfl⟩)
theorem apR{l:Nat}{r:aq_}{V:View}(pn:Option T6)(ho:V.own l=some (.loop r))(hc:V.role.chan≠some l):aP P V (W4 l pn) (λv V'=>v=.bool pn.isNone/\V'=V.upd l (.loop {r with state:=if pn.isNone then .ready else .done,pending:=pn})) (λ_ _=>False):=by
 unfold W4 WF;refine aA (aA ?_);unfold getObj;refine nK ho rfl rfl hc (cE ?_);dsimp only;refine au ?_;refine aA ?_;unfold setObj;refine yy ho rfl rfl hc (cE ?_);exact au ⟨rfl,rfl⟩
theorem apQ{l:Nat}{r:aq_}{V:View}(ho:V.own l=some (.loop r))(hs:r.state≠ .busy)(hc:V.role.chan≠some l):aP P V (ZJ l) (λv V'=>v=r.pending/\V'=V.upd l (.loop {r with state:=.exhausted})) (λ_ _=>False):=by
 unfold ZJ WF;refine aA (aA ?_);unfold getObj;refine nK ho rfl rfl hc (cE ?_);dsimp only;refine au ?_;have:(r.state==ap')=false:=by simpa using hs
 rw[if_neg (by rw[this];simp)];refine aA ?_;unfold setObj;refine yy ho rfl rfl hc (cE ?_);exact au ⟨rfl,rfl⟩
theorem apS{fn:TS}{tmps:Array SO}{ps:Array Tmp}{bK body:T6}{V:View}:aP P V (WV fn tmps ps bK body none) (λx V1=>∃d l,V.fresh d/\(V.upd d (.deferred (some []))).fresh l/\x=(l,[{target:=.collected d,args:=#[]}])/\
  V1=(V.upd d (.deferred (some []))).upd l (.loop {state:=.ready,pending:=none,fn,tmps,params:=ps,assign:=bK,body,defers:=d})) (λ_ _=>False):=by
 unfold WV;dsimp only;refine aA ?_;unfold newObj;refine oA λd hd=>cE ?_;refine aA (au ?_);dsimp only;refine aA (oA λl hl=>cE (au ?_));exact⟨d,l,hd,hl,rfl,rfl⟩
theorem Nn{d:Nat}{V:View}(ho:V.own d=some (.deferred (some [])))(hc:V.role.chan≠some d):aP P V (Y4 d) (λv V'=>v=[]/\V'=V.upd d (.deferred none)) (λ_ _=>False):=by
 unfold Y4;refine aA ?_;unfold getObj;refine nK ho rfl rfl hc (cE ?_);dsimp only;refine aA ?_;unfold setObj;refine yy ho rfl rfl hc (cE ?_);exact au ⟨rfl,rfl⟩
def adO (l:Nat)(R:Out->View->Prop):Ex->Act->View->Prop
 |.normal,_,V=>∃r,V.own l=some (.loop r)/\V.role.chan≠some l/\R (.ret (.bool true)) (V.upd l (.loop {r with state:=.ready,pending:=none}))
 |.ret,_,V=>∃r,V.own l=some (.loop r)/\V.role.chan≠some l/\R (.ret (.bool false)) (V.upd l (.loop {r with state:=.done,pending:=some .ret}))
 |.exit i,_,V=>∃r,V.own l=some (.loop r)/\V.role.chan≠some l/\R (.ret (.bool false)) (V.upd l (.loop {r with state:=.done,pending:=some (.exit i)}))
 |.goto i,_,V=>∃r,V.own l=some (.loop r)/\V.role.chan≠some l/\R (.ret (.bool false)) (V.upd l (.loop {r with state:=.done,pending:=some (.goto i)}))
 |.panic ch,a,V=>a.defers=[]/\R (.panic ch) V
def adM (lv:Bool)(P:SI)(l:Nat)(body:T6)(R:Out->View->Prop):Ex->Act->View->Prop
 |.normal,a,V=>∃r,V.own l=some (.loop r)/\V.role.chan≠some l/\r.state=.ready/\WP lv P (some l) body (adO l R) a (V.upd l (.loop {r with state:=.busy}))
 |_,_,_=>False
theorem aps{l f:Nat}{tmps:Array SO}{bK body:T6}{V:View}{R:Out->View->Prop}(h:WP lv P (some l) bK (adM lv P l body R) {tmps,defers:=[]} V):mO lv P (W8 l f tmps bK body .normal) V R:=by
 intro main J C c cs h1 h2;let b:Uc:={(default:Uc)with fn:=f,kind:=.normal,roundOf:=some l};have ak7:W8 l f tmps bK body .normal=on b {tmps,defers:=[]} [.code bK,.beginRound,.code body]:=rfl;rw[ak7];have leave:∀(a:Act)(V':View)(r:aq_)(pn:Option T6)(todo:List WS),V'.own l=some (.loop r)->V'.role.chan≠some l->R (.ret (.bool pn.isNone)) (V'.upd l (.loop {r with state:=if pn.isNone then .ready else .done,pending:=pn}))->
   (∀w,stepG P main (G (on b a todo) (c::cs)) w=T5 (seen P b.fn ((W4 l pn).runT P w #[]).2) (match((W4 l pn).runT P w #[]).1 with
    |.ok v w=>doReturn P main (on b a todo) (c::cs) none v w
    | .halt _ w => .ended (.stuck "range over a function: no such loop" ((on b a todo).pos P)) w)) -> J V' (G (on b a todo) (c :: cs)) := by
  intro a V' r pn todo ho eP hR aR;refine C.step _ _ rfl λw fj=> ?_;obtain⟨es,w',aS,k1,k2,k3⟩:=(apR (P:=P) pn ho eP).runs fj;rcases k3 with⟨v,k3,rfl,rfl⟩|⟨_,_,hx⟩
  ·refine⟨G (c.finish (.bool pn.isNone)) cs,w',seen P b.fn es,_,?_,k1.seen P b.fn,h1 _ _ hR⟩;rw[aR w];simp[TA,k3,k2,doReturn,T5,on,b,G]
  ·exact hx.elim
 refine h main J C b [.beginRound,.code body] (c::cs) (by show Y6≠U6;decide) rfl λe a' V' q=> ?_;cases e with
 |normal=>
  obtain⟨r,ho,eP,hs,hw⟩:=q;refine C.step _ _ rfl λw fj=> ?_;obtain⟨es,w',aS,k1,k2,k3⟩:=(apN (P:=P) ho hs eP).runs fj;rcases k3 with⟨nx,k3,rfl,rfl⟩|⟨_,_,hx⟩
  ·refine⟨G (on b a' [.code body]) (c::cs),w',seen P b.fn es,_,?_,k1.seen P b.fn,?_⟩
   ·have:stepG P main (G (on b a' [.beginRound,.code body]) (c::cs)) w=stepG.apply P true (on b a' [.beginRound,.code body]) (c::cs) none (do XG l;pure Next.skip) w:=by
     simp[G,stepG,Ug,on,b]
    rw[this];have jI:((on b a' [.beginRound,.code body]).kind==U6)=false:=(by simp[on,b]);simp only[stepG.apply,TA,if_true,k3,k2,jI,T5];rfl
   ·refine hw main J C b [] (c::cs) (by show Y6≠U6;decide) rfl λe b8 aS q=> ?_;cases e with
    |normal=>
     obtain⟨r',bf,nf,hR⟩:=q;refine leave b8 aS r' none [] bf nf hR λw=> ?_;simp[G,stepG,Ug,on,b];rfl
    |ret=>
     obtain⟨r',bf,nf,hR⟩:=q;intro k;refine leave b8 aS r' (some .ret) _ bf nf hR λw=> ?_;simp[G,stepG,Ug,on,b];rfl
    |exit i=>
     obtain⟨r',bf,nf,hR⟩:=q;refine .inr ⟨rfl,λk2 cD=> ?_⟩;refine leave b8 aS r' (some (.exit i)) _ bf nf hR λw=> ?_;simp[G,stepG,Ug,on,b,cD];rfl
    |goto i=>
     obtain⟨r',bf,nf,hR⟩:=q;refine .inr ⟨rfl,λk2 cD=> ?_⟩;refine leave b8 aS r' (some (.goto i)) _ bf nf hR λw=> ?_;simp[G,stepG,Ug,on,b,cD];rfl
    |panic ch=>
     obtain⟨hd,hR⟩:=q;intro todo alk;refine C.idle rfl (λw=> ?_) (h2 _ _ hR);have ajF:ZR P {on b b8 todo with mode:=.panicking ch}=false:=by
      unfold ZR
      match todo,alk with
      |.call .. ::_,h=>cases h
      |[],_=>split<;>simp_all[on]
      |x::k,_=>cases x<;>(split<;>simp_all[on,aa4])
     have bx:({on b b8 todo with mode:=.panicking ch}:Uc).defers=[]:=hd;simp only[G,stepG,unwind,bx,ajF];simp
  ·exact hx.elim
 |_=>exact q.elim
def mark (a:Act)(d:Nat):Act:={a with defers:={target:=.collected d,args:=#[]}::a.defers}
def wT (l:Nat)(Q:Ex->Act->View->Prop)(a:Act):Out->View->Prop
 |.ret _,V=>∃r,V.own l=some (.loop r)/\V.role.chan≠some l/\r.state≠ .busy/\(match r.pending with
  |none=>Q .normal a (V.upd l (.loop {r with state:=.exhausted}))
  |some .ret=>Q .ret a (V.upd l (.loop {r with state:=.exhausted}))
  |some (.exit i)=>Q (.exit i) a (V.upd l (.loop {r with state:=.exhausted}))
  |some (.goto i)=>Q (.goto i) a (V.upd l (.loop {r with state:=.exhausted}))
  |_=>False)
 |.panic ch,V=>Q (.panic ch) a V
abbrev Ej (l d:Nat)(Q:Ex->Act->View->Prop)(a:Act):Out->View->Prop:=wT l Q (mark a d)
theorem abS{rr:Option Nat}{f:Ti}{ps:Array Tmp}{bK body:T6}{Q:Ex->Act->View->Prop}{a a1:Act}{V1:View}{l:Nat}{main:Bool}{J:View->SG->Prop}(C:Closed lv P main J){b:Uc}{k:List WS}{cs:List Uc}(hb:b.kind≠ .early)(hr:b.roundOf=rr)(hL:∀e a' V',Q e a' V'->vf J b k cs e a' V'){w w1:To}{es:Array Ur}{V:View}
  (h:aP P V1 (do let dd<- U4 (a.eval f) #[.func (.yield l) #[] #[]];invoke dd.target dd.args) (λnx V'=>Nx lv P (wT l Q a1) nx V') (λv V'=>wT l Q a1 (.panic [{v,recovered:=false}]) V'))
  (s1:dc V w V1 w1 (fB es)) (aR:stepG P main (G (on b a (.code (.rangeFunc f ps bK body)::k)) cs) w=T5 (seen P b.fn es) (stepG.apply P true (on b a1 (.inRangeFunc l::k)) cs none (do let dd<- U4 (a.eval f) #[.func (.yield l) #[] #[]];invoke dd.target dd.args) w1)):
  ∃g' w' es V',stepG P main (G (on b a (.code (.rangeFunc f ps bK body)::k)) cs) w=.go g' w' es/\dc V w V' w' es/\J V' g':=by
 have fin:∀(v:SO)(V':View),wT l Q a1 (.ret v) V'->J V' (G (on b a1 (.endRangeFunc l::k)) cs):=by
  intro v V' ⟨r,ho,eP,hs,hq⟩;refine C.step _ _ rfl λw fj=> ?_;obtain⟨es,w',aS,k1,k2,k3⟩:=(apQ (P:=P) ho hs eP).runs fj;rcases k3 with⟨x,k3,rfl,rfl⟩|⟨_,_,hx⟩
  ·refine⟨G (on b a1 ((r.pending.map Item.code).toList++k)) cs,w',seen P b.fn es,_,?_,k1.seen P b.fn,?_⟩
   ·simp[G,stepG,Ug,on,TA,k3,k2,T5]
   ·generalize r.pending=pe at hq⊢
    match pe,hq with
    |none,hq=>exact hL _ _ _ hq
    |some .ret,hq=>exact hL _ _ _ hq _
    |some (.exit i),hq=>exact aat C (hL _ _ _ hq)
    |some (.goto i),hq=>exact alH C (hL _ _ _ hq)
  ·exact hx.elim
 obtain⟨m9,w2,V2,t1,t2,t3⟩:=h.runs s1.sat;have jI:((on b a1 (.inRangeFunc l::k)).kind==U6)=false:=by simpa[on]using hb
 rw[aR];rcases t3 with⟨nx,t3,hU⟩|⟨v,t3,hU⟩
 ·cases nx with
  |value v=>exact⟨_,w2,seen P b.fn es++seen P b.fn m9,V2,by simp only[stepG.apply,TA,if_true,t3,t2,jI,T5];rfl,(s1.seen P _).trans (t1.seen P _),fin v _ hU⟩
  |skip=>exact⟨_,w2,seen P b.fn es++seen P b.fn m9,V2,by simp only[stepG.apply,TA,if_true,t3,t2,jI,T5];rfl,(s1.seen P _).trans (t1.seen P _),fin undef _ hU⟩
  |enter g args=>
   refine⟨G (Frame.enter P g args .normal) (on b a1 (.inRangeFunc l::k)::cs),w2,seen P b.fn es++seen P b.fn m9,V2,by simp only[stepG.apply,TA,if_true,t3,t2,jI,T5];rfl,(s1.seen P _).trans (t1.seen P _),?_⟩;refine Body.runs hU main J C _ cs (λv aS hR=> ?_) (λch aS hR=> ?_)
   ·exact fin v _ hR
   ·exact hL _ _ _ hR _ rfl
  |round l2 f2 arp as2 b2=>
   refine⟨G (W8 l2 f2 arp as2 b2 .normal) (on b a1 (.inRangeFunc l::k)::cs),w2,seen P b.fn es++seen P b.fn m9,V2,by simp only[stepG.apply,TA,if_true,t3,t2,jI,T5];rfl,(s1.seen P _).trans (t1.seen P _),?_⟩;refine hU main J C _ cs (λv aS hR=> ?_) (λch aS hR=> ?_)
   ·exact fin v _ hR
   ·exact hL _ _ _ hR _ rfl
  |_=>exact hU.elim
 ·exact⟨_,w2,seen P b.fn es++seen P b.fn m9,V2,by simp only[stepG.apply,TA,if_true,t3,t2,jI,T5];rfl,(s1.seen P _).trans (t1.seen P _),hL _ _ _ hU _ rfl⟩
theorem adx{f:Ti}{ps:Array Tmp}{bK body:T6}{Q:Ex->Act->View->Prop}{a:Act}{V:View}
  (h:∀(fn d l:Nat),V.fresh d->(V.upd d (.deferred (some []))).fresh l->aP P ((V.upd d (.deferred (some []))).upd l (.loop {state:=.ready,pending:=none,fn,tmps:=a.tmps,params:=ps,assign:=bK,body,defers:=d}))
   (do let dd<- U4 (a.eval f) #[.func (.yield l) #[] #[]];invoke dd.target dd.args) (λnx V'=>Nx lv P (Ej l d Q a) nx V') (λv V'=>Ej l d Q a (.panic [{v,recovered:=false}]) V')):WP lv P none (.rangeFunc f ps bK body) Q a V:=by
 intro main J C b k cs hb hr hL;refine C.step _ _ rfl λw fj=> ?_;obtain⟨es,w1,V1,s1,s2,s3⟩:=(apS (P:=P) (fn:=b.fn) (tmps:=a.tmps) (ps:=ps) (bK:=bK) (body:=body)).runs fj;rcases s3 with⟨x,s3,d,l,hd,hl,rfl,rfl⟩|⟨_,_,hx⟩
 ·refine abS C hb hr hL (h b.fn d l hd hl) s1 ?_;have cg:∀(todo:List WS)(x:Ti),(on b (mark a d) todo).eval x=a.eval x:=λtodo x=>by rw[GY];cases x<;>rfl
  have e:=cg (.inRangeFunc l::k) f;have e2:=cg (.inRangeFunc l::k) (.const (.func (.yield l) #[] #[]));simp only[on,mark]at e e2;simp[G,stepG,Ug,on,TA,s3,s2,hr,mark,resolve];rw[hr]at e;rw[e];rfl
 ·exact hx.elim
theorem apU{fn:TS}{tmps:Array SO}{ps:Array Tmp}{bK body:T6}{V:View}{l0:Nat}{r0:aq_}(ho:V.own l0=some (.loop r0))(hc:V.role.chan≠some l0):aP P V (WV fn tmps ps bK body (some l0)) (λx V1=>∃l,V.fresh l/\x=(l,[])/\
  V1=V.upd l (.loop {state:=.ready,pending:=none,fn,tmps,params:=ps,assign:=bK,body,defers:=r0.defers})) (λ_ _=>False):=by
 unfold WV WF;dsimp only;refine aA (aA ?_);unfold getObj;refine nK ho rfl rfl hc (cE ?_);dsimp only;refine au (aA (au ?_));dsimp only;refine aA ?_;unfold newObj;refine oA λl hl=>cE (au ?_);exact⟨l,hl,rfl,rfl⟩
theorem ar4{f:Ti}{ps:Array Tmp}{bK body:T6}{Q:Ex->Act->View->Prop}{a:Act}{V:View}{l0:Nat}{r0:aq_}(ho:V.own l0=some (.loop r0))(hc:V.role.chan≠some l0)
  (h:∀(fn l:Nat),V.fresh l->aP P (V.upd l (.loop {state:=.ready,pending:=none,fn,tmps:=a.tmps,params:=ps,assign:=bK,body,defers:=r0.defers}))
   (do let dd<- U4 (a.eval f) #[.func (.yield l) #[] #[]];invoke dd.target dd.args) (λnx V'=>Nx lv P (wT l Q a) nx V') (λv V'=>wT l Q a (.panic [{v,recovered:=false}]) V')):WP lv P (some l0) (.rangeFunc f ps bK body) Q a V:=by
 intro main J C b k cs hb hr hL;refine C.step _ _ rfl λw fj=> ?_;obtain⟨es,w1,V1,s1,s2,s3⟩:=(apU (P:=P) (fn:=b.fn) (tmps:=a.tmps) (ps:=ps) (bK:=bK) (body:=body) ho hc).runs fj;rcases s3 with⟨x,s3,l,hl,rfl,rfl⟩|⟨_,_,hx⟩
 ·refine abS C hb hr hL (h b.fn l hl) s1 ?_;have e:=GY b a (.inRangeFunc l::k) f;simp only[on]at e;simp[G,stepG,Ug,on,TA,s3,s2,hr,resolve];rw[hr]at e;rw[e];rfl
 ·exact hx.elim
theorem Conc.yA{E:Env}{V:View}{H:List aa}(hc:Conc E V H){id r fn nt df:Nat}{st:Z6}{pe:Option T6}{T:List (Nat×AV)}{ps:Array Tmp}{bK body:T6}(hk:H[id]?=some (.loop r st pe fn T nt ps bK body df)):
  E.blk id=r/\V.role.chan≠some r/\∃tmps,V.own r=some (.loop {state:=st,pending:=pe,fn,tmps,params:=ps,assign:=bK,body,defers:=E.blk df})/\tmps.size=nt/\bZ E T tmps/\
   ∀st' wz,Conc E (V.upd r (.loop {state:=st',pending:=wz,fn,tmps,params:=ps,assign:=bK,body,defers:=E.blk df})) (H.set id (.loop r st' wz fn T nt ps bK body df)):=by
 obtain⟨⟨tmps,p1,p2,p3⟩,p4,p5,p6⟩:=hc.obj id _ hk;have eP:=(hc.ja hk (b:=E.blk id) rfl).2;subst p6;refine⟨rfl,eP,tmps,p1,p2,p3,λst' wz=> ?_⟩;refine hc.iD id (.loop (E.blk id) st' wz fn T nt ps bK body df) (Env.Le.refl E) hc.I (by simpa using hc.n) kX rfl (λ_ _ _=>rfl) (λb z hb hz=>⟨?_,λ_=>rfl⟩) ⟨⟨tmps,by simp[View.upd],p2,p3⟩,p4,p5,rfl⟩ (λb h=> .inl ⟨_,hk,h⟩);have:b≠E.blk id:=λe=>hb _ hk (by rw[e];rfl);simpa[View.upd,this]using hz
theorem Conc.DC{E:Env}{V:View}{H:List aa}(hc:Conc E V H){id:Nat}(x:aa)(hk:H[id]?=some x)(y:Obj){b:Nat}(hb:bL E id x=some b):Conc E (V.upd b y) (H.set id .gone):=by
 refine hc.iD id .gone (Env.Le.refl E) hc.I (by simpa using hc.n) kX rfl (λ_ _ _=>rfl) (λb' z dD hz=>⟨?_,λ_=>rfl⟩) trivial (λb h=>by cases h);have:b'≠b:=λe=>dD _ hk (by rw[e];exact hb);simpa[View.upd,this]using hz
def r6:List Nat->List AV->List (Nat×AV)->List (Nat×AV)
 |t::ts,a::aE,T=>r6 ts aE ((t,a)::T)
 |_,_,T=>T
theorem adC{E:Env}{nt:Nat}:∀(ts:List Nat)(aE:List AV)(vs:List SO)(T:List (Nat×AV))(tmps:Array SO),vs.length=aE.length->(∀(i:Nat) a,aE[i]?=some a->aq E a (vs.getD i undef))->(∀t∈ts,t<nt)->tmps.size=nt->bZ E T tmps->
  bZ E (r6 ts aE T) ((ts.zip vs).foldl (λtmps (x:Nat×SO)=>tmps.setIfInBounds x.1 x.2) tmps)/\((ts.zip vs).foldl (λtmps (x:Nat×SO)=>tmps.setIfInBounds x.1 x.2) tmps).size=nt
 |[],aE,vs,T,tmps,_,_,_,hs,hT=>by cases aE<;>cases vs<;>exact⟨hT,hs⟩
 |t::ts,[],[],T,tmps,_,_,_,hs,hT=>⟨hT,hs⟩
 |t::ts,[],_::_,T,tmps,h,_,_,hs,hT=>by cases h
 |t::ts,_::_,[],T,tmps,h,_,_,hs,hT=>by cases h
 |t::ts,a::aE,v::vs,T,tmps,hl,hd,ht,hs,hT=>by
  have h0:aq E a v:=by simpa using hd 0 a rfl
  have h1:t<tmps.size:=by rw[hs];exact ht t (by simp)
  exact adC ts aE vs ((t,a)::T) (tmps.setIfInBounds t v) (by simpa using hl) (λi x hx=>by simpa using hd (i+1) x (by simpa using hx)) (λx hx=>ht x (by simp[hx])) (by simpa using hs) (hT.put h1 h0)
def oK (id n:Nat)(k:AV->List aa->Prop)(st':Z6)(wz:Option T6)(b:Bool)(s:AS):Prop:=∃r st pe fn T nt ps bK body df,s.H[id]?=some (.loop r st pe fn T nt ps bK body df)/\cC n (s.H.set id (.loop r st' wz fn T nt ps bK body df)) (.val (.bool b)) k
def adN (id n:Nat)(k kp:AV->List aa->Prop):ao->AS->Prop
 |.normal,s=>oK id n k .ready none true s
 |.ret,s=>oK id n k .done (some .ret) false s
 |.exit i,s=>oK id n k .done (some (.exit i)) false s
 |.goto i,s=>oK id n k .done (some (.goto i)) false s
 |.panic pv,s=>cC n s.H pv kp
def tS (lv:Bool)(P:SI)(l nt id n:Nat)(body:T6)(k kp:AV->List aa->Prop):ao->AS->Prop
 |.normal,s=>∃pe fn T jb ps bK fb df,s.H[id]?=some (.loop l .ready pe fn T jb ps bK fb df)/\aQ lv P (some l) nt body ⟨s.T,s.H.set id (.loop l .busy pe fn T jb ps bK fb df)⟩ (adN id n k kp)
 |_,_=>False
theorem vA{l id fn nt df:Nat}{pe:Option T6}{T:List (Nat×AV)}{ps:Array Tmp}{bK body:T6}{H:List aa}{args:List AV}{k kp:AV->List aa->Prop}(bR:H[id]?=some (.loop l .ready pe fn T nt ps bK body df))(hlen:args.length=ps.size)(o6:ps.all (·<nt)=true)
  (h:bH H->(∀a∈args,Lt H.length a)->aQ lv P (some l) nt bK ⟨r6 ps.toList args T,H⟩ (tS lv P l nt id H.length body k kp)):iT lv P (.fn (.yield l) [] []) H args k kp:=by
 intro E V cv vs hc hd oW;cases hd with
 |fn dE fN h1 h2=>
  rename_i fa ca;have e1:fa=#[]:=by apply VB;simpa using dE
  subst e1;have hlt:∀a∈args,Lt H.length a:=λa ha=>by
   obtain⟨i,hi⟩:=pq ha;rw[<- hc.n];exact(oW.2 i a hi).lt
  obtain⟨hb,eP,tmps,ho,aW,hT,_⟩:=hc.yA bR;unfold U4;refine aA (au ?_);unfold invoke;dsimp only;unfold Instr.yield WF;refine aA (aA ?_);unfold getObj;refine nK ho rfl rfl eP (cE ?_);dsimp only;refine au ?_;have lH:(#[]++vs).size=ps.size:=by simp[oW.1,hlen]
  rw[if_neg (by simp[oW.1,hlen])];refine au ?_;show mO lv P _ V (gJ E V k kp);have hz:=adC (nt:=nt) ps.toList args vs.toList T tmps (by simpa using oW.1) (λi a e=>by
   have:=oW.2 i a e;simpa[SH,SE]using this) (λt ht=>by
    have:=(UJ.1 o6) t (by simpa using ht);simpa using this) aW hT
  have agV:(ps.zip (#[]++vs)).foldl (λtmps (x:Nat×SO)=>tmps.setIfInBounds x.1 x.2) tmps=(ps.toList.zip vs.toList).foldl (λtmps (x:Nat×SO)=>tmps.setIfInBounds x.1 x.2) tmps:=by
   rw[<- Array.foldl_toList,Array.toList_zip];simp
  have agW:Array.foldl (λtmps x=>match x with|(t,a)=>tmps.setIfInBounds t a) tmps (ps.zip (#[]++vs))=(ps.toList.zip vs.toList).foldl (λtmps (x:Nat×SO)=>tmps.setIfInBounds x.1 x.2) tmps:=agV;rw[agW];refine aps ?_;refine h hc.ay hlt E V _ _ ⟨hc,hz.1,hz.2⟩ λae e E' V' a' s' hk aU he hΦ=> ?_;cases ae<;>cases e<;>first
   |exact he.elim
   |exact hΦ.elim
   |skip
  obtain⟨wz,fu,T',jb,gn,fU,fb,fV,akc,hw⟩:=hΦ;obtain⟨dD,nf,qA,bf,Lr,sJ,s8⟩:=aU.bt.yA akc;refine⟨_,bf,nf,rfl,?_⟩;refine hw E' _ a' _ ⟨s8 .busy wz,aU.tok,aU.size⟩ λae e bO aS b8 dh cD de ni Gq=> ?_;have fin:∀(st':Z6)(G_:Option T6)(b:Bool),(∃r st pe fn T nt ps bK body df,dh.H[id]?=some (.loop r st pe fn T nt ps bK body df)/\cC H.length (dh.H.set id (.loop r st' G_ fn T nt ps bK body df)) (.val (.bool b)) k)->
    ∃r,aS.own l=some (.loop r)/\aS.role.chan≠some l/\gJ E V k kp (.ret (.bool b)) (aS.upd l (.loop {r with state:=st',pending:=G_})):=by
   intro st' G_ b ⟨r,st,pe3,fn3,T3,nt3,M_,asM,asV,df3,akd,sQ⟩;obtain⟨Fv,ajJ,atI,K4,atq,hT3,alb⟩:=de.bt.yA akd;have hlt:id<E.n:=(by rw[hc.n];exact(SL.1 bR).1);have hle:E.Le bO:=hk.le.trans cD.le;have hr:r=l:=(by rw[<- Fv,<- hb];exact hle.blk id hlt);subst hr;obtain⟨x,E4,H4,q1,q2,q3,q4⟩:=xe sQ (alb st' G_) (.val _) hle hc.n;exact⟨_,K4,ajJ,x,E4,H4,q1,cD.role.trans hk.role,cD.deaf.trans hk.deaf,q2,q3,q4⟩
  cases ae<;>cases e<;>first
   |exact ni.elim
   |exact fin .ready none true Gq
   |exact fin .done (some .ret) false Gq
   |(have e:_=_:=ni
     subst e;exact fin .done _ false Gq)
   |skip
  obtain⟨v,ajI,bp⟩:=ni;subst ajI;obtain⟨x,E4,H4,q1,q2,q3,q4⟩:=xe Gq de.bt bp (hk.le.trans cD.le) hc.n;refine⟨by rw[cD.defers,hk.defers],x,v,E4,H4,rfl,q1,cD.role.trans hk.role,cD.deaf.trans hk.deaf,q2,q3,q4⟩
def Marks (E:Env)(ms:List Nat)(l:List UX):Prop:=l=ms.map (λi=>({target:=.collected (E.blk i),args:=#[]}:UX))/\∀i∈ms,i<E.n
theorem Marks.mono{E E':Env}(h:E.Le E'){ms:List Nat}{l:List UX}(k:Marks E ms l):Marks E' ms l:=
 ⟨by rw[k.1];exact Vz λi hi=>by rw[h.blk i (k.2 i hi)],λi hi=>Td (k.2 i hi) h.n⟩
def ml (lv:Bool)(P:SI)(nt:Nat)(c:T6)(s:AS)(ms:List Nat)(Φ:ao->AS->List Nat->Prop):Prop:=
 ∀(E:Env)(V:View)(a:Act)(Q:Ex->Act->View->Prop),At E V s a nt->Marks E ms a.defers->(∀ae e E' V' a' s' cy,qI E E' V V' a a'->At E' V' s' a' nt->Marks E' cy a'.defers->pD E' ae e->Φ ae s' cy->Q e a' V')->WP lv P none c Q a V
variable {s:AS}{ms:List Nat}{nt:Nat}
theorem Iy{c:T6}{Φ:ao->AS->List Nat->Prop}(h:aQ lv P none nt c s λe s'=>Φ e s' ms):ml lv P nt c s ms Φ:=λE V a Q ai hd hQ=>
 h E V a Q ai λae e E' V' a' s' hk aU he hΦ=>hQ ae e E' V' a' s' ms hk.d aU (by rw[hk.defers];exact hd.mono hk.le) he hΦ
def ao.rW (next:AS->List Nat->Prop)(Φ:ao->AS->List Nat->Prop):ao->AS->List Nat->Prop
 |.normal,s,ms=>next s ms
 |e,s,ms=>Φ e s ms
theorem Iz{x y:T6}{Φ:ao->AS->List Nat->Prop}(h:ml lv P nt x s ms (ao.rW (λs' cy=>ml lv P nt y s' cy Φ) Φ)):ml lv P nt (.seq x y) s ms Φ:=by
 intro E V a Q ai hd hQ;refine wp_seq (h E V a _ ai hd λae e E' V' a' s' cy hk aU cu he hΦ=> ?_);cases ae<;>cases e<;>first
  |exact he.elim
  |exact hΦ E' V' a' Q aU cu λae e bO aS b8 dh Dd aJ de zM jW tg=>hQ ae e bO aS b8 dh Dd (hk.trans aJ) de zM jW tg
  |exact hQ _ _ E' V' a' s' cy hk aU cu he hΦ
theorem mV{x y:T6}{Φ:ao->AS->List Nat->Prop}(h:aQ lv P none nt x s (ao.then (λs'=>ml lv P nt y s' ms Φ) λe s'=>Φ e s' ms)):ml lv P nt (.seq x y) s ms Φ:=by
 refine Iz (Iy (h.mono λe s' hs=> ?_));cases e<;>exact hs
def sj (Φ:ao->AS->List Nat->Prop)(s:AS)(ms:List Nat):Option T6->Prop
 |none=>Φ .normal s ms
 |some .ret=>Φ .ret s ms
 |some (.exit i)=>Φ (.exit i) s ms
 |some (.goto i)=>Φ (.goto i) s ms
 |_=>False
theorem afu{f:Ti}{ps:Array Tmp}{bK body:T6}{fv:AV}{Φ:ao->AS->List Nat->Prop}(hf:s.ev f=some fv)
  (h:∀l fn:Nat,iT lv P fv (s.H++[.obj (.deferred (some [])),.loop l .ready none fn s.T nt ps bK body s.H.length]) [.fn (.yield l) [] []]
   (λ_ H'=>∃st pe fu T' jb gn fU fb fV,H'[s.H.length+1]?=some (.loop l st pe fu T' jb gn fU fb fV)/\st≠ .busy/\sj Φ ⟨s.T,H'.set (s.H.length+1) .gone⟩ (s.H.length::ms) pe)
   (λpv H'=>Φ (.panic pv) ⟨s.T,H'⟩ (s.H.length::ms))):ml lv P nt (.rangeFunc f ps bK body) s ms Φ:=by
 intro E V a Q ai hm hQ;refine adx λfn d l hd hl=> ?_;have hc:=ai.bt;have dl:Conc (E.add d V.ah) (V.upd d (.deferred (some []))) (s.H++[.obj (.deferred (some []))]):=by
  refine hc.add hd _ ⟨?_,rfl,rfl,λo=> ?_⟩ (λb e=> ?_)
  ·rw[Env.dK];simp[View.upd]
  ·rw[Env.dK];exact hd.2 o
  ·simp only[bL,Env.dK,Tj]at e;exact e.symm
 have Cw:E.Le (E.add d V.ah):=E.qq d (λb o v h=>by rw[<- hc.I];exact h);have Ci:(E.add d V.ah).blk s.H.length=d:=by rw[<- hc.n];exact E.dK d _
 let E1:=E.add d V.ah;let V1:=V.upd d (.deferred (some []));have o4:E1.n=s.H.length+1:=by rw[dl.n];simp
 have p_:E1.Le (E1.add l V1.ah):=E1.qq l (λb o v h=>by rw[<- dl.I];exact h);have cL:Conc (E1.add l V1.ah) (V1.upd l (.loop {state:=.ready,pending:=none,fn,tmps:=a.tmps,params:=ps,assign:=bK,body,defers:=d})) ((s.H++[.obj (.deferred (some []))])++[.loop l .ready none fn s.T nt ps bK body s.H.length]):=by
  refine dl.add hl _ ⟨⟨a.tmps,?_,ai.size,(ai.tok.mono Cw).mono p_⟩,?_,λo=> ?_,?_⟩ (λb e=> ?_)
  ·have e:(E1.add l V1.ah).blk s.H.length=d:=(by rw[p_.blk s.H.length (by rw[o4];omega)];exact Ci);rw[e,Env.dK];simp[View.upd]
  ·show s.H.length<E1.n+1;omega
  ·rw[Env.dK];exact hl.2 o
  ·exact Env.dK _ _ _
  ·simp only[bL,Env.dK,Tj]at e;exact e.symm
 have hle:E.Le (E1.add l V1.ah):=Cw.trans p_;have cK:(E1.add l V1.ah).blk (s.H.length+1)=l:=by rw[<- o4];exact E1.dK l _
 have Kc:(E1.add l V1.ah).blk s.H.length=d:=by rw[p_.blk s.H.length (by rw[o4];omega)];exact Ci
 rw[SC]at cL;have rn:∀E',(E1.add l V1.ah).Le E'->Marks E' (s.H.length::ms) (mark a d).defers:=λE' hE=>by
  refine Marks.mono hE ⟨?_,λi hi=> ?_⟩
  ·have:=(hm.mono hle).1;simp only[mark,UW,Kc];rw[<- this]
  ·rcases SK.1 hi with rfl|hi
   ·show _<E1.n+1;omega
   ·exact Td (hm.2 i hi) hle.n
 have bx:=aq.ev ai.tok hf;have Cl:=h l fn (E1.add l V1.ah) (V1.upd l (.loop {state:=.ready,pending:=none,fn,tmps:=a.tmps,params:=ps,assign:=bK,body,defers:=d})) (a.eval f) #[.func (.yield l) #[] #[]] cL (bx.mono hle) ⟨rfl,λi x hx=>by
  match i,hx with
  |0,hx=>cases hx;exact .fn rfl rfl (by simp) (by simp)⟩
 have key:∀o V',gJ (E1.add l V1.ah) (V1.upd l (.loop {state:=.ready,pending:=none,fn,tmps:=a.tmps,params:=ps,assign:=bK,body,defers:=d}))
   (λ_ H'=>∃st pe fu T' jb gn fU fb fV,H'[s.H.length+1]?=some (.loop l st pe fu T' jb gn fU fb fV)/\st≠ .busy/\sj Φ ⟨s.T,H'.set (s.H.length+1) .gone⟩ (s.H.length::ms) pe)
   (λpv H'=>Φ (.panic pv) ⟨s.T,H'⟩ (s.H.length::ms)) o V'->Ej l d Q a o V':=by
  intro o V' hr;cases o with
  |ret v=>
   obtain⟨av,E',H',hE,bW,eQ,_,aY,st,pe,fu,T',jb,gn,fU,fb,fV,bR,aR,hp⟩:=hr;obtain⟨dD,nf,qA,bf,Lr,sJ,s8⟩:=aY.yA bR;refine⟨_,bf,nf,aR,?_⟩;have hg:Conc E' (V'.upd l (.loop {state:=.exhausted,pending:=pe,fn:=fu,tmps:=qA,params:=gn,assign:=fU,body:=fb,defers:=E'.blk fV})) (H'.set (s.H.length+1) .gone):=aY.DC _ bR _ (by simp only[bL,dD]);have aU:At E' (V'.upd l (.loop {state:=.exhausted,pending:=pe,fn:=fu,tmps:=qA,params:=gn,assign:=fU,body:=fb,defers:=E'.blk fV})) ⟨s.T,H'.set (s.H.length+1) .gone⟩ (mark a d) nt:=⟨hg,ai.tok.mono (hle.trans hE),ai.size⟩;have eg:qI E E' V (V'.upd l (.loop {state:=.exhausted,pending:=pe,fn:=fu,tmps:=qA,params:=gn,assign:=fU,body:=fb,defers:=E'.blk fV})) a (mark a d):=⟨hle.trans hE,rfl,bW,eQ⟩;dsimp only
   match pe,hp,aU,eg with
   |none,hp,aU,eg=>exact hQ .normal .normal E' _ _ _ _ eg aU (rn E' hE) trivial hp
   |some .ret,hp,aU,eg=>exact hQ .ret .ret E' _ _ _ _ eg aU (rn E' hE) trivial hp
   |some (.exit i),hp,aU,eg=>exact hQ (.exit i) (.exit i) E' _ _ _ _ eg aU (rn E' hE) rfl hp
   |some (.goto i),hp,aU,eg=>exact hQ (.goto i) (.goto i) E' _ _ _ _ eg aU (rn E' hE) rfl hp
  |panic ch=>
   obtain⟨pv,v,E',H',rfl,hE,bW,eQ,bp,aY,hp⟩:=hr;exact hQ (.panic pv) (.panic _) E' V' (mark a d) ⟨s.T,H'⟩ _ ⟨hle.trans hE,rfl,bW,eQ⟩ ⟨aY,ai.tok.mono (hle.trans hE),ai.size⟩ (rn E' hE) ⟨v,rfl,bp⟩ hp
 exact Cl.mono (λnx V' hn=>Nx.mono key hn) (λv V' hr=>key _ _ hr)
def tR (Φ:ao->AS->Prop)(s:AS):Option T6->Prop
 |none=>Φ .normal s
 |some .ret=>Φ .ret s
 |some (.exit i)=>Φ (.exit i) s
 |some (.goto i)=>Φ (.goto i) s
 |_=>False
theorem afj{f:Ti}{ps:Array Tmp}{bK body:T6}{fv:AV}{Φ:ao->AS->Prop}{l0 Gs JD MC df:Nat}{Nu:Z6}{MP:Option T6}{T0:List (Nat×AV)}{M9:Array Tmp}{It IF:T6}(hf:s.ev f=some fv)(h0:s.H[Gs]?=some (.loop l0 Nu MP JD T0 MC M9 It IF df))
  (h:∀l fn:Nat,iT lv P fv (s.H++[.loop l .ready none fn s.T nt ps bK body df]) [.fn (.yield l) [] []]
   (λ_ H'=>∃st pe fu T' jb gn fU fb fV,H'[s.H.length]?=some (.loop l st pe fu T' jb gn fU fb fV)/\st≠ .busy/\tR Φ ⟨s.T,H'.set s.H.length .gone⟩ pe)
   (λpv H'=>Φ (.panic pv) ⟨s.T,H'⟩)):aQ lv P (some l0) nt (.rangeFunc f ps bK body) s Φ:=by
 intro E V a Q ai hQ;have hc:=ai.bt;obtain⟨sM,ajH,atH,ho0,Ls,hT0,_⟩:=hc.yA h0;obtain⟨_,bx,_⟩:=hc.obj Gs _ h0;refine ar4 ho0 ajH λfn l hl=> ?_;have hle:E.Le (E.add l V.ah):=E.qq l (λb o v h=>by rw[<- hc.I];exact h);have cK:(E.add l V.ah).blk s.H.length=l:=by rw[<- hc.n];exact E.dK l _
 have cL:Conc (E.add l V.ah) (V.upd l (.loop {state:=.ready,pending:=none,fn,tmps:=a.tmps,params:=ps,assign:=bK,body,defers:=E.blk df})) (s.H++[.loop l .ready none fn s.T nt ps bK body df]):=by
  refine hc.add hl _ ⟨⟨a.tmps,?_,ai.size,ai.tok.mono hle⟩,?_,λo=> ?_,?_⟩ (λb e=> ?_)
  ·rw[Env.dK,hle.blk df bx];simp[View.upd]
  ·show df<E.n+1;omega
  ·rw[Env.dK];exact hl.2 o
  ·exact Env.dK _ _ _
  ·simp only[bL,Env.dK,Tj]at e;exact e.symm
 have aj0:=aq.ev ai.tok hf;have Cl:=h l fn (E.add l V.ah) (V.upd l (.loop {state:=.ready,pending:=none,fn,tmps:=a.tmps,params:=ps,assign:=bK,body,defers:=E.blk df})) (a.eval f) #[.func (.yield l) #[] #[]] cL (aj0.mono hle) ⟨rfl,λi x hx=>by
  match i,hx with
  |0,hx=>cases hx;exact .fn rfl rfl (by simp) (by simp)⟩
 have key:∀o V',gJ (E.add l V.ah) (V.upd l (.loop {state:=.ready,pending:=none,fn,tmps:=a.tmps,params:=ps,assign:=bK,body,defers:=E.blk df}))
   (λ_ H'=>∃st pe fu T' jb gn fU fb fV,H'[s.H.length]?=some (.loop l st pe fu T' jb gn fU fb fV)/\st≠ .busy/\tR Φ ⟨s.T,H'.set s.H.length .gone⟩ pe)
   (λpv H'=>Φ (.panic pv) ⟨s.T,H'⟩) o V'->wT l Q a o V':=by
  intro o V' hr;cases o with
  |ret v=>
   obtain⟨av,E',H',hE,bW,eQ,_,aY,st,pe,fu,T',jb,gn,fU,fb,fV,bR,aR,hp⟩:=hr;obtain⟨dD,nf,qA,bf,Lr,sJ,s8⟩:=aY.yA bR;refine⟨_,bf,nf,aR,?_⟩;have hg:Conc E' (V'.upd l (.loop {state:=.exhausted,pending:=pe,fn:=fu,tmps:=qA,params:=gn,assign:=fU,body:=fb,defers:=E'.blk fV})) (H'.set s.H.length .gone):=aY.DC _ bR _ (by simp only[bL,dD]);have aU:At E' (V'.upd l (.loop {state:=.exhausted,pending:=pe,fn:=fu,tmps:=qA,params:=gn,assign:=fU,body:=fb,defers:=E'.blk fV})) ⟨s.T,H'.set s.H.length .gone⟩ a nt:=⟨hg,ai.tok.mono (hle.trans hE),ai.size⟩;have eg:Kept E E' V (V'.upd l (.loop {state:=.exhausted,pending:=pe,fn:=fu,tmps:=qA,params:=gn,assign:=fU,body:=fb,defers:=E'.blk fV})) a a:=⟨hle.trans hE,rfl,rfl,bW,eQ⟩;dsimp only
   match pe,hp,aU,eg with
   |none,hp,aU,eg=>exact hQ .normal .normal E' _ _ _ eg aU trivial hp
   |some .ret,hp,aU,eg=>exact hQ .ret .ret E' _ _ _ eg aU trivial hp
   |some (.exit i),hp,aU,eg=>exact hQ (.exit i) (.exit i) E' _ _ _ eg aU rfl hp
   |some (.goto i),hp,aU,eg=>exact hQ (.goto i) (.goto i) E' _ _ _ eg aU rfl hp
  |panic ch=>
   obtain⟨pv,v,E',H',rfl,hE,bW,eQ,bp,aY,hp⟩:=hr;exact hQ (.panic pv) (.panic _) E' V' a ⟨s.T,H'⟩ ⟨hle.trans hE,rfl,rfl,bW,eQ⟩ ⟨aY,ai.tok.mono (hle.trans hE),ai.size⟩ ⟨v,rfl,bp⟩ hp
 exact Cl.mono (λnx V' hn=>Nx.mono key hn) (λv V' hr=>key _ _ hr)
def wY (P:SI)(fn:ZQ)(R:Out->View->Prop):List UX->U9->Array SO->View->Prop
 |[],.returning,tmps,V=>∃v,aP P V (results fn tmps) (λx V'=>x=v/\V'=V) (λ_ _=>False)/\R (.ret v) V
 |[],.panicking ch,_,V=>R (.panic ch) V
 |d::ds,md,tmps,V=>(md matches .run)=false/\∃b,d={target:=.collected b,args:=#[]}/\V.own b=some (.deferred (some []))/\V.role.chan≠some b/\wY P fn R ds md tmps (V.upd b (.deferred none))
 |[],.run,_,_=>False
theorem HI{f:TS}{fn:ZQ}{kd:Xc}{R:Out->View->Prop}(hf:P.funcs[f]?=some fn){main:Bool}{J:View->SG->Prop}(C:Closed lv P main J){cs:List Uc}(hR:∀o V' BW,R o V'->Leaves P BW f kd o V'->J V' (G BW cs)):∀(ds:List UX)(md:U9)(V:View)(fr:Uc),fr.fn=f->fr.kind=kd->fr.mode=md->fr.defers=ds->wY P fn R ds md fr.tmps V->J V (G fr cs)
 |[],.returning,V,fr,h1,h2,h3,h4,h=>by
  obtain⟨v,hs,hr⟩:=h;exact hR _ _ _ hr ⟨h1,h4,h2,fn,hf,h3,hs⟩
 |[],.panicking ch,V,fr,h1,h2,h3,h4,h=>hR _ _ _ h ⟨h1,h4,h2,fn,hf,h3⟩
 |[],.run,_,_,_,_,_,_,h=>h.elim
 |d::ds,md,V,fr,h1,h2,h3,h4,h=>by
  obtain⟨hm,b,rfl,ho,eP,hu⟩:=h;refine C.step _ _ rfl λw hw=> ?_;obtain⟨es,w',V',k1,k2,k3⟩:=(Nn (P:=P) ho eP).runs hw;rcases k3 with⟨x,k3,rfl,rfl⟩|⟨_,_,hx⟩
  ·refine⟨G {fr with defers:=ds} cs,w',seen P fr.fn es,_,?_,k1.seen P fr.fn,?_⟩
   ·have e:∀main,stepG P main (G fr cs) w=unwind P main fr cs none w:=λmain=>by
     cases md with
     |run=>cases hm
     |returning=>simp[G,stepG,h3]
     |panicking ch=>simp[G,stepG,h3]
    rw[e];simp only[unwind,h4];simp[TA,k3,k2,T5,G]
   ·exact HI hf C hR ds md _ {fr with defers:=ds} h1 h2 h3 rfl hu
  ·exact hx.elim
def adH (P:SI)(fn:ZQ)(R:Out->View->Prop):Ex->Act->View->Prop
 |.normal,a,V|.ret,a,V=>wY P fn R a.defers .returning a.tmps V
 |.panic ch,a,V=>wY P fn R a.defers (.panicking ch) a.tmps V
 |_,_,_=>False
theorem af1{f:TS}{fn:ZQ}{c:T6}{args:Array SO}{kd:Xc}{V:View}{R:Out->View->Prop}(hk:kd≠ .early)(hf:P.funcs[f]?=some fn)(hb:fn.body=some c)
  (h:WP lv P none c (adH P fn R) {tmps:=args++TK (fn.ntmps-args.size) undef,defers:=[]} V):Body lv P f args kd V R:=by
 intro main J C cs hR;let b:Uc:={(default:Uc)with fn:=f,kind:=kd,roundOf:=none};have up:Frame.enter P f args kd=on b {tmps:=args++TK (fn.ntmps-args.size) undef,defers:=[]} [.code c]:=by
  simp[Frame.enter,on,hf,hb,b]
 rw[up];refine h main J C b [] cs hk rfl λe a' V' q=> ?_;cases e with
 |normal=>exact C.idle rfl (λw=>Dw rfl) (HI hf C hR _ _ _ _ rfl rfl rfl rfl q)
 |ret=>intro k;exact C.idle rfl (λw=>Dx rfl) (HI hf C hR _ _ _ _ rfl rfl rfl rfl q)
 |panic ch=>intro todo _;exact HI hf C hR _ _ _ _ rfl rfl rfl rfl q
 |exit id=>exact q.elim
 |goto l=>exact q.elim
def iG:List Nat->List aa->Option (List aa)
 |[],H=>some H
 |i::ms,H=>match H[i]?with
  |some (.obj (.deferred (some [])))=>iG ms (H.set i .gone)
  |_=>none
def sf (P:SI)(rs:List UO)(n:Nat)(k kp:AV->List aa->Prop):ao->AS->List Nat->Prop
 |.normal,s,ms|.ret,s,ms=>ap (iG ms s.H) λH'=>ap (gT P ⟨s.T,H'⟩ rs) λl=>cC n H' (iR l) k
 |.panic pv,s,ms=>ap (iG ms s.H) λH'=>cC n H' pv kp
 |_,_,_=>False
theorem NM{fn:ZQ}{R:Out->View->Prop}{tmps:Array SO}{md:U9}(hm:(md matches .run)=false):∀(ms:List Nat)(H H':List aa)(E:Env)(V:View)(l:List UX),iG ms H=some H'->Conc E V H->Marks E ms l->(∀V',V'.role=V.role->V'.deaf=V.deaf->Conc E V' H'->wY P fn R [] md tmps V')->wY P fn R l md tmps V
 |[],H,H',E,V,l,hg,hc,rq,hk=>by
  cases hg;have:l=[]:=rq.1;subst this;exact hk V rfl rfl hc
 |i::ms,H,H',E,V,l,hg,hc,rq,hk=>by
  simp only[iG]at hg;split at hg
  ·rename_i hi;obtain⟨e,hlt⟩:=rq;simp only[UW]at e;subst e;obtain⟨p1,p2,p3,p4⟩:=hc.obj i _ hi;exact⟨hm,_,rfl,p1,(hc.ja hi rfl).2,NM hm ms _ H' E _ _ hg (hc.DC _ hi _ rfl) ⟨rfl,λj hj=>hlt j (by simp[hj])⟩ λV' h1 h2 h3=>hk V' h1 h2 h3⟩
  ·cases hg
theorem Qg{f:TS}{fn:ZQ}{c:T6}{rs:List UO}{nt:Nat}{H:List aa}{args:List AV}{k kp:AV->List aa->Prop}(hf:P.funcs[f]?=some fn)(hb:fn.body=some c)(hr:fn.results=rs.toArray)(hn:fn.ntmps=nt)(cJ:args.length<=nt)
  (h:bH H->(∀a∈args,Lt H.length a)->ml lv P nt c ⟨br 0 args,H⟩ [] (sf P rs H.length k kp)):bm lv P f H args k kp:=by
 intro E V vs hc hd;have hlt:∀a∈args,Lt H.length a:=λa ha=>by
  obtain⟨i,hi⟩:=pq ha;rw[<- hc.n];exact(hd.2 i a hi).lt
 have ai:=BD (nt:=nt) hc hd cJ;refine af1 (by simp) hf hb ?_;rw[hn];refine h hc.ay hlt E V _ _ ai ⟨rfl,by simp⟩ λae e E' V' a' s' cy hk aU fM he hΦ=> ?_;have fin:sf P rs H.length k kp .ret s' cy->wY P fn (gJ E V k kp) a'.defers .returning a'.tmps V':=λhΦ=>by
  obtain⟨H',hg,hΦ⟩:=ap.out hΦ;exact NM rfl cy _ H' E' V' _ hg aU.bt fM λaS h1 h2 h3=>abV (s':=⟨s'.T,H'⟩) (a':=a') hr ⟨h3,aU.tok,aU.size⟩ hk.le hc.n (h1.trans hk.role) (h2.trans hk.deaf) hΦ
 cases ae<;>cases e<;>first
  |exact he.elim
  |exact fin hΦ
  |exact hΦ.elim
  |skip
 rename_i pv ch;obtain⟨v,eP,bp⟩:∃v,ch=[{v,recovered:=false}]/\aq E' pv v:=he;subst eP;obtain⟨H',hg,hΦ⟩:=ap.out hΦ;refine NM rfl cy _ H' E' V' _ hg aU.bt fM λaS h1 h2 h3=> ?_;obtain⟨b,bO,tN,r1,r2,r3,r4⟩:=xe hΦ h3 bp hk.le hc.n;exact⟨b,v,bO,tN,rfl,r1,h1.trans hk.role,h2.trans hk.deaf,r2,r3,r4⟩
end
def Env.frame (E:Env)(f:Nat->Option Obj):Env:={E with fr:=f}
theorem aq.frame{E:Env}{a:AV}{v:SO}(h:aq E a v)(f:Nat->Option Obj):aq (E.frame f) a v:=by
 induction h with
 |val x=>exact .val x
 |agg hs _ ih=>exact .agg hs ih
 |aN hs _ ih=>exact .aN hs ih
 |sl b o cap g hc he h1 _ ih=>exact .sl b o cap g hc (by cases jW:‹End›<;>(subst jW;exact he)) h1 ih
 |nil he=>exact .nil (by cases jW:‹End›<;>(subst jW;exact he))
 |bh hi dP=>exact .bh (E:=E.frame f) hi dP
 |rp b o g h1 _ ih=>exact .rp b o g h1 ih
 |op hi=>exact .op (E:=E.frame f) hi
 |fn dE fN _ _ mE kW=>exact .fn dE fN mE kW
 |cY _ ih=>exact .cY ih
 |mp hi=>exact .mp (E:=E.frame f) hi
theorem cF.frame{E:Env}{l:List AV}{cs:Array SO}(h:cF E l cs)(f:Nat->Option Obj):cF (E.frame f) l cs:=⟨h.1,λi a e=>(h.2 i a e).frame f⟩
theorem jO.frame{E:Env}{l:List AV}{cs:Array SO}(h:jO E l cs)(f:Nat->Option Obj):jO (E.frame f) l cs:=⟨h.1,λi a e=>(h.2 i a e).frame f⟩
theorem bZ.frame{E:Env}{T:List (Nat×AV)}{tmps:Array SO}(h:bZ E T tmps)(f:Nat->Option Obj):bZ (E.frame f) T tmps:=λt a e=>⟨(h t a e).1,(h t a e).2.frame f⟩
theorem vu(E:Env)(f:Nat->Option Obj)(k:Nat)(x:aa):bL (E.frame f) k x=bL E k x:=by cases x<;>rfl
theorem fG.frame{E:Env}{V:View}{k:Nat}{x:aa}(h:fG E V k x)(f:Nat->Option Obj):fG (E.frame f) V k x:=by
 cases x with
 |cells l el=>obtain⟨⟨cs,h1,h2⟩,h3⟩:=h;exact⟨⟨cs,h1,h2.frame f⟩,h3⟩
 |part p l el=>obtain⟨⟨cs,h1,h2,h4⟩,h3⟩:=h;exact⟨⟨cs,h1,h2.frame f,h4⟩,h3⟩
 |own sz l el=>obtain⟨⟨cs,h1,h2,h4⟩,h3⟩:=h;exact⟨⟨cs,h1,h2.frame f,h4⟩,h3⟩
 |tail n sz el=>exact h
 |obj x=>exact h
 |iter=>exact h
 |loop=>obtain⟨⟨tmps,h1,h2,h3⟩,h4,h5⟩:=h;exact⟨⟨tmps,h1,h2,h3.frame f⟩,h4,h5⟩
 |gone=>trivial
 |main=>exact h
theorem Conc.yu{E:Env}{V V':View}{H:List aa}(h:Conc E V H)(f:Nat->Option Obj)(hI:V'.ah=V.ah)
  (ho:∀b x k y,H[k]?=some y->bL E k y=some b->V.own b=some x->V'.own b=some x)
  (hg:∀g,V'.role.group=some g->V'.own g≠none/\(∀o,V'.ah g o=none)/\∀(k:Nat) x,H[k]?=some x->bL E k x≠some g)
  (hc:∀g,V'.role.chan=some g->V'.own g≠none/\(∀o,V'.ah g o=none)/\∀(k:Nat) x,H[k]?=some x->bL E k x≠some g)
  (ht:E.main=true->V'.role=.plain/\V'.deaf=0) (hf:∀b y,f b=some y->V'.own b=some y/\(∀o,V'.ah b o=none)/\∀(k:Nat) x,H[k]?=some x->bL E k x≠some b):Conc (E.frame f) V' H:=by
 have hlt:∀(k:Nat) y,H[k]?=some y->k<E.n:=λk y e=>by rw[h.n];exact(SL.1 e).1
 refine⟨by rw[hI];exact h.I,h.n,λk x e=>fG.frame ((h.obj k x e).mono (Env.Le.refl E) (hlt k x e) rfl (λb y hb hy=>ho b y k x e hb hy) (λb _ o=>by rw[hI])) f,λi j x y b h1 h2 h3 h4=> ?_,λg e=> ?_,λg e=> ?_,ht,λb y e=> ?_⟩
 ·rw[vu]at h3 h4;exact h.inj i j x y b h1 h2 h3 h4
 ·obtain⟨a,b,c⟩:=hg g e;exact⟨a,b,λk x e=>by rw[vu];exact c k x e⟩
 ·obtain⟨a,b,c⟩:=hc g e;exact⟨a,b,λk x e=>by rw[vu];exact c k x e⟩
 ·obtain⟨a,b',c⟩:=hf b y e;exact⟨a,b',λk x e=>by rw[vu];exact c k x e⟩
theorem Conc.Di{E:Env}{V:View}{H:List aa}(h:Conc E V H){b:Nat}{x:Obj}(hb:E.fr b=some x){k:Nat}{y:aa}(hk:H[k]?=some y){b':Nat}(dD:bL E k y=some b'):b'≠b:=λe=>by subst e;exact(h.fr _ x hb).2.2 k y hk dD
theorem Conc.ai0{E:Env}{V:View}{H:List aa}(h:Conc E V H){b:Nat}{x:Obj}(hb:E.fr b=some x)(y:Obj):Conc (E.frame λb'=>if b'=b then some y else E.fr b') (V.upd b y) H:=by
 obtain⟨p1,p2,p3⟩:=h.fr b x hb;refine h.yu _ rfl (λb' z k w hk ki hz=> ?_) (λg hg=> ?_) (λg hg=> ?_) h.top (λb' z hz=> ?_)
 ·have:b'≠b:=h.Di hb hk ki;simpa[View.upd,this]using hz
 ·obtain⟨q1,q2,q3⟩:=h.group g hg;refine⟨?_,q2,q3⟩;simp only[View.upd];split
  ·simp
  ·exact q1
 ·obtain⟨q1,q2,q3⟩:=h.chan g hg;refine⟨?_,q2,q3⟩;simp only[View.upd];split
  ·simp
  ·exact q1
 ·by_cases e:b'=b
  ·subst e;rw[if_pos rfl]at hz;cases hz;exact⟨by simp[View.upd],p2,p3⟩
  ·rw[if_neg e]at hz;obtain⟨q1,q2,q3⟩:=h.fr b' z hz;exact⟨by simpa[View.upd,e]using q1,q2,q3⟩
theorem Conc.aiY{E:Env}{V:View}{H:List aa}(h:Conc E V H){b:Nat}(hb:V.fresh b)(y:Obj):Conc (E.frame λb'=>if b'=b then some y else E.fr b') (V.upd b y) H:=by
 have aI:∀(k:Nat) x,H[k]?=some x->bL E k x≠some b:=λk x hk e=>by
  obtain⟨z,hz⟩:=(h.obj k x hk).BG e;rw[hb.1]at hz;cases hz
 refine h.yu _ rfl (λb' z k w hk ki hz=> ?_) (λg hg=> ?_) (λg hg=> ?_) h.top (λb' z hz=> ?_)
 ·have:b'≠b:=λe=>by subst e;exact aI k w hk ki
  simpa[View.upd,this]using hz
 ·obtain⟨q1,q2,q3⟩:=h.group g hg;refine⟨?_,q2,q3⟩;simp only[View.upd];split
  ·simp
  ·exact q1
 ·obtain⟨q1,q2,q3⟩:=h.chan g hg;refine⟨?_,q2,q3⟩;simp only[View.upd];split
  ·simp
  ·exact q1
 ·by_cases e:b'=b
  ·subst e;rw[if_pos rfl]at hz;cases hz;exact⟨by simp[View.upd],hb.2,aI⟩
  ·rw[if_neg e]at hz;obtain⟨q1,q2,q3⟩:=h.fr b' z hz;exact⟨by simpa[View.upd,e]using q1,q2,q3⟩
theorem Conc.aiZ{E:Env}{V:View}{H:List aa}(h:Conc E V H){id:Nat}{l:List AV}{el:TypeId}(hk:H[id]?=some (.cells l el)):∃cs,cF E l cs/\V.own (E.blk id)=some (.cells cs el (0,0))/\(∀o,V.ah (E.blk id) o=none)/\
  Conc (E.frame λb'=>if b'=E.blk id then some (.cells cs el (0,0))else E.fr b') V (H.set id .gone):=by
 obtain⟨⟨cs,h1,h2⟩,h3⟩:=h.obj id _ hk;refine⟨cs,h2,h1,h3,?_⟩;have hg:Conc E V (H.set id .gone):=by
  refine h.iD id .gone (Env.Le.refl E) h.I (by simpa using h.n) kX rfl (λ_ _ _=>rfl) (λb y _ hy=>⟨hy,λ_=>rfl⟩) trivial (λb e=>by cases e)
 have aI:∀(k:Nat) x,(H.set id .gone)[k]?=some x->bL E k x≠some (E.blk id):=λk x hx e=>by
  rcases kX k x hx with⟨rfl,rfl⟩|⟨aI,hx⟩
  ·cases e
  ·exact aI (h.inj k id x _ _ hx hk e rfl)
 refine hg.yu _ rfl (λ_ _ _ _ _ _ hz=>hz) hg.group hg.chan h.top (λb' z hz=> ?_);by_cases e:b'=E.blk id
 ·subst e;rw[if_pos rfl]at hz;cases hz;exact⟨h1,h3,aI⟩
 ·rw[if_neg e]at hz;exact hg.fr b' z hz
theorem Conc.He{E:Env}{V:View}{H:List aa}(h:Conc E V H){id:Nat}{l:List AV}{el:TypeId}(hk:H[id]?=some (.cells l el))(p:Nat)(hp:p<=l.length):∃V',dR V V'/\V'.own=V.own/\V'.role=V.role/\V'.deaf=V.deaf/\E.Le {E with I:=V'.ah}/\Conc {E with I:=V'.ah} V' (H.set id (.part p l el))/\
  aq {E with I:=V'.ah} (.rp (l.take p)) (.pointer (some ⟨E.blk id,0,none⟩)):=by
 obtain⟨⟨cs,h1,h2⟩,h3⟩:=h.obj id _ hk;let V':=V.eD (E.blk id) cs λo=>decide (o<p);have kN:∀b o,b≠E.blk id->V'.ah b o=V.ah b o:=λb o hb=>by simp[V',View.eD,hb]
 have cR:∀o,o<p->V'.ah (E.blk id) o=cs[o]?:=λo ho=>by simp[V',View.eD,ho]
 have akG:∀o,p<=o->V'.ah (E.blk id) o=none:=λo ho=>by simp[V',View.eD,Nat.not_lt.2 ho,h3]
 have hle:E.Le {E with I:=V'.ah}:=⟨λb o v e=>by
  rw[h.I]at e;have hb:b≠E.blk id:=λhb=>by subst hb;rw[h3]at e;cases e
  show V'.ah b o=some v;rw[kN b o hb];exact e,SQ _,λ_ _=>rfl,λ_ _=>SQ _,λ_ _ _ _=>rfl,rfl,rfl⟩
 refine⟨V',xo h1 (λo _=>h3 o),rfl,rfl,rfl,hle,?_,?_⟩
 ·refine h.iD (E':={E with I:=V'.ah}) id (.part p l el) hle rfl (by simpa using h.n) kX rfl (λ_ _ _=>rfl) (λb y hb hy=>⟨hy,λo=>kN b o λe=>hb _ hk (by rw[e];rfl)⟩) ⟨⟨cs,h1,(h2.mono hle).p,cR⟩,akG⟩ (λb e=> .inl ⟨_,hk,e⟩)
 ·refine .rp (E.blk id) 0 (λi=>cs.getD i undef) (λi hi=> ?_) λi x hx=> ?_
  ·have cw:i<p:=(by simp at hi;omega);rw[Wp];show V'.ah (E.blk id) i=_;rw[cR i cw];have:i<cs.size:=(by have:=h2.1;omega);simp[SH,SJ this]
  ·rw[Uf]at hx;split at hx
   ·exact(h2.2 i x hx).mono hle
   ·cases hx
theorem Conc.amk{E:Env}{V V':View}{H:List aa}(h:Conc E V H)(ho:V'.own=V.own)(kN:∀b o v,V.ah b o=some v->V'.ah b o=some v)(ej:∀b o,V.own b≠none->V.ah b o=none->V'.ah b o=none)
  (hg:V'.role.group=none) (hc:V'.role.chan=none) (ht:E.main=true->V'.role=.plain/\V'.deaf=0):E.Le {E with I:=V'.ah}/\Conc {E with I:=V'.ah} V' H:=by
 have hle:E.Le {E with I:=V'.ah}:=⟨λb o v e=>by rw[h.I]at e;exact kN b o v e,SQ _,λ_ _=>rfl,λ_ _=>SQ _,λ_ _ _ _=>rfl,rfl,rfl⟩;have hlt:∀(k:Nat) y,H[k]?=some y->k<E.n:=λk y e=>by rw[h.n];exact(SL.1 e).1
 have key:∀b o,V.own b≠none->V'.ah b o=V.ah b o:=λb o hb=>by
  cases e:V.ah b o with
  |none=>exact ej b o hb e
  |some v=>exact kN b o v e
 refine⟨hle,rfl,h.n,λk x e=>(h.obj k x e).mono hle (hlt k x e) rfl (λb y _ hy=>by rw[ho];exact hy) (λb hb o=> ?_),h.inj,λg e=>(by rw[hg]at e;cases e),λg e=>(by rw[hc]at e;cases e),ht,λb y e=> ?_⟩
 ·obtain⟨y,hy⟩:=(h.obj k x e).BG hb;exact key b o (by rw[hy];simp)
 ·obtain⟨q1,q2,q3⟩:=h.fr b y e;exact⟨by rw[ho];exact q1,λo=>by rw[key b o (by rw[q1];simp)];exact q2 o,q3⟩
section
variable {lv:Bool}{P:SI}{nt id:Nat}{ops:Array Tu}{s:AS}{E:Env}{V:View}{a:Act}{Q:Ex->Act->View->Prop}{K:AS->Prop}
theorem HP(n m:Nat)(hn:ops.size=n+m)(dn:jG nt ops=true)(ai:At E V s a nt)(h:im lv P ops (ops.toList.take n) s K (λ_ _=>False))
  (hk:∀E' V' a' s',Kept E E' V V' a a'->At E' V' s' a' nt->K s'->dj lv P none ops Q (Ud n m) a' V'):WP lv P none (.region id ops false) Q a V:=by
 refine wp_region ?_;have hr:SV ops.size=Ud 0 n++Ud n m:=by
  have:=Y7 (s:=0) (m:=n) (n:=m);rw[Vp,hn,<- this];simp
 rw[hr];refine AZ _ _ _ (GZ (r:=none) (Φ:=λe s'=>match e with
  |.normal=>K s'
  |_=>False) (λo ho d e=>(jG.out dn ho).1 d e) rfl n 0 s (by omega) (by simpa using h) E V a _ ai λae e E' V' a' s' aJ aU he hΦ=> ?_)
 cases ae<;>cases e<;>first
  |exact he.elim
  |exact hΦ.elim
  |exact hk E' V' a' s' aJ aU hΦ
theorem NW{n:Nat}{o:Tu}(ho:ops[n]?=some o)(hg:o.guard=none)(h:vk lv P o a V λa' V'=>Q .normal a' V'):dj lv P none ops Q (Ud n 1) a V:=by
 simp only[List.range'_one,dj,ho];rw[if_pos (by unfold Th;rw[hg])];exact .inr h
end
section
variable {lv main:Bool}{P:SI}{J:View->SG->Prop}
theorem ado(C:Closed lv P main J){V:View}{fr:Uc}{cs:List Uc}{g:TS}{ca aE:Array SO}{ds:List UX}(hd:fr.defers=⟨.fn (.func g) ca,aE⟩::ds)(hm:(fr.mode matches .run)=false)(hg:qE P g=true)
  (h:J V (G (Frame.enter P g (aE++ca) .deferred) ({fr with defers:=ds}::cs))):J V (G fr cs):=by
 refine C.step _ _ rfl λw hw=> ?_;have hs:aP P V (invoke (.fn (.func g) ca) aE) (λnx V'=>nx=.enter g (aE++ca)/\V'=V) (λ_ _=>False):=by
  unfold invoke;exact Nj hg ⟨rfl,rfl⟩
 obtain⟨es,w',V',k1,k2,k3⟩:=hs.runs hw;rcases k3 with⟨nx,k3,rfl,rfl⟩|⟨_,_,h⟩
 ·refine⟨G (Frame.enter P g (aE++ca) .deferred) ({fr with defers:=ds}::cs),w',seen P fr.fn es,V',?_,k1.seen P fr.fn,h⟩;have e:stepG P main (G fr cs) w=unwind P main fr cs none w:=by
   obtain⟨fn,tmps,todo,defers,mode,kind,ro⟩:=fr;cases mode with
   |run=>cases hm
   |returning=>simp[G,stepG]
   |panicking ch=>simp[G,stepG]
  rw[e];simp only[unwind,hd];simp[callDeferred,TA,k3,k2,T5,G]
 ·exact h.elim
theorem ag1(C:Closed lv P main J){f:TS}{fn:ZQ}{c:T6}{args:Array SO}{kd:Xc}{V:View}{cs:List Uc}{Q:Act->View->Prop}(hk:kd≠ .early)(hf:P.funcs[f]?=some fn)(hb:fn.body=some c)
  (h:WP lv P none c (λe a V=>(match e with|.normal|.ret=>True|_=>False)/\Q a V) {tmps:=args++TK (fn.ntmps-args.size) undef,defers:=[]} V)
  (hQ:∀a V todo,Q a V->J V (G {fn:=f,tmps:=a.tmps,todo,defers:=a.defers,mode:=.returning,kind:=kd,roundOf:=none} cs)):J V (G (Frame.enter P f args kd) cs):=by
 let b:Uc:={(default:Uc)with fn:=f,kind:=kd,roundOf:=none};have up:Frame.enter P f args kd=on b {tmps:=args++TK (fn.ntmps-args.size) undef,defers:=[]} [.code c]:=by
  simp[Frame.enter,on,hf,hb,b]
 rw[up];refine h main J C b [] cs hk rfl λe a' V' q=> ?_;cases e with
 |normal=>exact C.idle rfl (λw=>Dw rfl) (hQ a' V' [] q.2)
 |ret=>intro k;exact C.idle rfl (λw=>Dx rfl) (hQ a' V' (.code .ret::k) q.2)
 |panic ch=>exact q.1.elim
 |exit id=>exact q.1.elim
 |goto l=>exact q.1.elim
end
def Env.e9 (E:Env)(m:Bool):Env:={E with main:=m}
theorem aq.e9{E:Env}{a:AV}{v:SO}(h:aq E a v)(m:Bool):aq (E.e9 m) a v:=by
 induction h with
 |val x=>exact .val x
 |agg hs _ ih=>exact .agg hs ih
 |aN hs _ ih=>exact .aN hs ih
 |sl b o cap g hc he h1 _ ih=>exact .sl b o cap g hc (by cases jW:‹End›<;>(subst jW;exact he)) h1 ih
 |nil he=>exact .nil (by cases jW:‹End›<;>(subst jW;exact he))
 |bh hi dP=>exact .bh (E:=E.e9 m) hi dP
 |rp b o g h1 _ ih=>exact .rp b o g h1 ih
 |op hi=>exact .op (E:=E.e9 m) hi
 |fn dE fN _ _ mE kW=>exact .fn dE fN mE kW
 |cY _ ih=>exact .cY ih
 |mp hi=>exact .mp (E:=E.e9 m) hi
theorem cF.e9{E:Env}{l:List AV}{cs:Array SO}(h:cF E l cs)(m:Bool):cF (E.e9 m) l cs:=⟨h.1,λi a e=>(h.2 i a e).e9 m⟩
theorem jO.e9{E:Env}{l:List AV}{cs:Array SO}(h:jO E l cs)(m:Bool):jO (E.e9 m) l cs:=⟨h.1,λi a e=>(h.2 i a e).e9 m⟩
theorem bZ.e9{E:Env}{T:List (Nat×AV)}{tmps:Array SO}(h:bZ E T tmps)(m:Bool):bZ (E.e9 m) T tmps:=λt a e=>⟨(h t a e).1,(h t a e).2.e9 m⟩
theorem vv(E:Env)(m:Bool)(k:Nat)(x:aa):bL (E.e9 m) k x=bL E k x:=by cases x<;>rfl
theorem fG.e9{E:Env}{V:View}{k:Nat}{x:aa}(h:fG E V k x)(m:Bool)(hm:x=.main->m=true):fG (E.e9 m) V k x:=by
 cases x with
 |cells l el=>obtain⟨⟨cs,h1,h2⟩,h3⟩:=h;exact⟨⟨cs,h1,h2.e9 m⟩,h3⟩
 |part p l el=>obtain⟨⟨cs,h1,h2,h4⟩,h3⟩:=h;exact⟨⟨cs,h1,h2.e9 m,h4⟩,h3⟩
 |own sz l el=>obtain⟨⟨cs,h1,h2,h4⟩,h3⟩:=h;exact⟨⟨cs,h1,h2.e9 m,h4⟩,h3⟩
 |tail n sz el=>exact h
 |obj x=>exact h
 |iter=>exact h
 |loop=>obtain⟨⟨tmps,h1,h2,h3⟩,h4,h5⟩:=h;exact⟨⟨tmps,h1,h2,h3.e9 m⟩,h4,h5⟩
 |gone=>trivial
 |main=>exact hm rfl
def strip:aa->aa
 |.main=> .gone
 |x=>x
theorem tW(E:Env)(k:Nat)(x:aa):bL E k (strip x)=bL E k x:=by cases x<;>rfl
theorem Conc.agu{E:Env}{V:View}{H:List aa}(h:Conc E V H):Conc (E.e9 false) V (H.map strip):=by
 have get:∀(k:Nat) y,(H.map strip)[k]?=some y->∃x,H[k]?=some x/\strip x=y:=λk y e=>by
  rw[Tm]at e;obtain⟨x,e1,e2⟩:=Tp.1 e;exact⟨x,e1,e2⟩
 refine⟨h.I,by rw[Tn];exact h.n,λk y e=> ?_,λi j x y b h1 h2 h3 h4=> ?_,λg hg=> ?_,λg hg=> ?_,(λe=>by cases e),λb y e=> ?_⟩
 ·obtain⟨x,hx,rfl⟩:=get k y e;have ly:=h.obj k x hx;cases x<;>first
   |exact fG.e9 ly false (λe=>by cases e)
   |exact True.intro
 ·obtain⟨x',hx,rfl⟩:=get i x h1;obtain⟨y',hy,rfl⟩:=get j y h2;rw[vv,tW]at h3 h4;exact h.inj i j x' y' b hx hy h3 h4
 ·obtain⟨a,b,c⟩:=h.group g hg;exact⟨a,b,λk y e=>by obtain⟨x,hx,rfl⟩:=get k y e;rw[vv,tW];exact c k x hx⟩
 ·obtain⟨a,b,c⟩:=h.chan g hg;exact⟨a,b,λk y e=>by obtain⟨x,hx,rfl⟩:=get k y e;rw[vv,tW];exact c k x hx⟩
 ·obtain⟨a,b',c⟩:=h.fr b y e;exact⟨a,b',λk y e=>by obtain⟨x,hx,rfl⟩:=get k y e;rw[vv,tW];exact c k x hx⟩
theorem Conc.ao8{E:Env}{V:View}{H:List aa}(h:Conc E V (H.map strip))(m:Bool)(f:Nat->Option Obj)(hm:∀(k:Nat),H[k]?=some aa.main->m=true)(ht:m=true->V.role=.plain/\V.deaf=0)(hf:∀b y,f b=some y->E.fr b=some y):Conc ((E.e9 m).frame f) V H:=by
 have get:∀(k:Nat) x,H[k]?=some x->(H.map strip)[k]?=some (strip x):=λk x e=>by rw[Tm,e];rfl
 refine⟨h.I,h.n.trans (by rw[Tn]),λk x e=>fG.frame ?_ f,λi j x y b h1 h2 h3 h4=> ?_,λg hg=> ?_,λg hg=> ?_,ht,λb y e=> ?_⟩
 ·have ly:=h.obj k _ (get k x e);cases x<;>first
   |exact fG.e9 ly m (λe=>by cases e)
   |exact hm k e
 ·rw[vu,vv]at h3 h4;exact h.inj i j _ _ b (get i x h1) (get j y h2) (by rw[tW];exact h3) (by rw[tW];exact h4)
 ·obtain⟨a,b,c⟩:=h.group g hg;exact⟨a,b,λk x e=>by rw[vu,vv,<- tW];exact c k _ (get k x e)⟩
 ·obtain⟨a,b,c⟩:=h.chan g hg;exact⟨a,b,λk x e=>by rw[vu,vv,<- tW];exact c k _ (get k x e)⟩
 ·obtain⟨a,b',c⟩:=h.fr b y (hf b y e);exact⟨a,b',λk x e=>by rw[vu,vv,<- tW];exact c k _ (get k x e)⟩
section
variable {lv:Bool}{P:SI}{nt id:Nat}{ops:Array Tu}{s:AS}{E:Env}{V:View}{a:Act}{Q:Ex->Act->View->Prop}{N:Act->View->Prop}{o:Tu}
theorem ady(ho:ops[0]?=some o)(hg:o.guard=none)(h:Bh lv P none o a V (dj lv P none ops Q (Ud 1 (ops.size-1))) Q):WP lv P none (.region id ops false) Q a V:=by
 refine wp_region ?_;have aW:0<ops.size:=(SR.1 ho).1;have Lg:SV ops.size=0::Ud 1 (ops.size-1):=by
  rw[Vp];obtain⟨n,hn⟩:∃n,ops.size=n+1:=⟨ops.size-1,by omega⟩;rw[hn,VR];rfl
 rw[Lg];simp only[dj,ho];rw[if_pos (by unfold Th;rw[hg])];exact h
theorem ar6{k n:Nat}(ho:ops[k]?=some o)(hg:o.guard=none)(h:Bh lv P none o a V (dj lv P none ops Q (Ud (k+1) n)) Q):dj lv P none ops Q (Ud k (n+1)) a V:=by
 rw[VR];simp only[dj,ho];rw[if_pos (by unfold Th;rw[hg])];exact h
theorem ar7{k:Nat}(h:Q .normal a V):dj lv P none ops Q (Ud k 0) a V:=h
theorem NX{k n:Nat}(s3:AS)(hk:k+n=ops.size)(dn:jG nt ops=true)(ai:At E V s a nt)(h:im lv P ops (ops.toList.drop k) s (λs'=>s'.Sub s3) (λ_ _=>False))(hQ:∀E' V' a',Kept E E' V V' a a'->At E' V' s3 a' nt->Q .normal a' V'):dj lv P none ops Q (Ud k n) a V:=by
 refine Aw (r:=none) (Φ:=λe s'=>match e with
  |.normal=>s'.Sub s3
  |_=>False) (λo ho d e=>(jG.out dn ho).1 d e) (λ_ _=> .inl rfl) n k s hk h E V a Q ai λae e E' V' a' s' aJ aU he hΦ=> ?_
 cases ae<;>cases e<;>first
  |exact he.elim
  |exact hΦ.elim
  |exact hQ E' V' a' aJ (aU.sub hΦ)
theorem anF{c:Xp}{f:TS}(az:o.op=.call c)(aX:c.callee=.value (.func f))(hf:qE P f=true)(h:Body lv P f (c.args.map a.eval) .normal V (fun
  |.ret v,V'=>N (a.put o.dst v) V'
  |.panic _,_=>False)):Bh lv P none o a V N Q:=by
 refine .inl ⟨.inl rfl,?_⟩;unfold execOp;rw[az];dsimp only;unfold resolve;rw[aX];dsimp only;have e:a.eval (.func f)=.func (.func f) #[] #[]:=rfl;rw[e];unfold U4;refine aA (au ?_);unfold invoke;dsimp only;refine Nj hf ?_;have e2:#[]++c.args.map a.eval++#[]=c.args.map a.eval:=by simp
 rw[e2];exact h.mono λo V' hx=>by
  cases o with
  |ret v=>exact hx
  |panic ch=>exact hx.elim
theorem anG{t el:TypeId}{d:ChanDir}{i:We}(az:o.op=.makeChan t (.const (.int .i64 0)))(h1:P.underlying t=some (.chan d el))(h2:P.info? el=some i)(h:∀c,V.fresh c->N (a.put o.dst (.chan (some c))) (V.upd c (.chan 0 #[] false 0 0 false))):Bh lv P none o a V N Q:=by
 refine .inl ⟨.inl rfl,?_⟩;unfold execOp;rw[az];dsimp only;have e:a.eval (.const (.int .i64 0))=.int .i64 0:=rfl;rw[e];unfold Instr.makeChan;refine aA (aA ?_);unfold asInt;refine au ?_;refine dZ h1 ?_;dsimp only;refine yz h2 ?_;rw[if_neg (by simp[IntKind.max,atL,ats])];refine aA ?_;unfold newObj;exact oA λc hf=>cE (au (au (h c hf)))
end
theorem ar5{lv:Bool}{P:SI}{r:Option Nat}{code:T6}{Q:Ex->Act->View->Prop}{a:Act}{V:View}{c Wg:Nat}(sU:lv=true)(hr:V.role=.plain)(aI:c≠Wg)(hc:V.own c=some (.chan 0 #[] false 0 0 false)) (hW:V.own Wg≠none) (n_:∀o,V.ah Wg o=none)
  (h:WP lv P r code Q a {V with role:=.fork c Wg []}):WP lv P r code Q a V:=λmain J C b k cs hb bW hL=>
 (C.more sU).start _ _ c Wg hr aI hc hW n_ (h main J C b k cs hb bW hL)
structure Env.Lo (E E':Env):Prop where
 I:∀b o v,E.I b o=some v->E'.I b o=some v
 n:E.n<=E'.n
 blk:∀k,k<E.n->E'.blk k=E.blk k
 ft:∀k,k<E.n->E.ft k<=E'.ft k
 room:∀k v,k<E.n->v<=E.ft k->E'.room k v=E.room k v
theorem Env.Le.lo{E E':Env}(h:E.Le E'):E.Lo E':=⟨h.I,h.n,h.blk,h.ft,h.room⟩
theorem Env.Lo.refl(E:Env):E.Lo E:=(Env.Le.refl E).lo
theorem Env.Lo.trans{E E' bO:Env}(h:E.Lo E')(k:E'.Lo bO):E.Lo bO:=
 ⟨λb o v e=>k.I b o v (h.I b o v e),UL h.n k.n,λi hi=>(k.blk i (Td hi h.n)).trans (h.blk i hi),λi hi=>UL (h.ft i hi) (k.ft i (Td hi h.n)),
  λi v hi hv=>(k.room i v (Td hi h.n) (UL hv (h.ft i hi))).trans (h.room i v hi hv)⟩
theorem Env.Lo.le{E E':Env}(h:E.Lo E'):E.Le ((E'.e9 E.main).frame E.fr):=⟨h.I,h.n,h.blk,h.ft,h.room,rfl,rfl⟩
theorem aq.lo{E E':Env}(h:E.Lo E'){a:AV}{v:SO}(d:aq E a v):aq E' a v:=by
 have:=((d.mono h.le).e9 E'.main).frame E'.fr;exact this
theorem Env.GG(E:Env)(f:Nat->Option Obj):E.Lo (E.frame f):=⟨λ_ _ _ h=>h,SQ _,λ_ _=>rfl,λ_ _=>SQ _,λ_ _ _ _=>rfl⟩
theorem Env.amC(E:Env)(m:Bool):E.Lo (E.e9 m):=⟨λ_ _ _ h=>h,SQ _,λ_ _=>rfl,λ_ _=>SQ _,λ_ _ _ _=>rfl⟩
theorem Env.Lo.cut{E E':Env}(h:E.Lo E'){n:Nat}(hn:E.n<=n):E.Lo {E' with n:=n}:=⟨h.I,hn,h.blk,h.ft,h.room⟩
def Env.bare (E:Env):Env:=((({E with n:=0}:Env).e9 false).frame λ_=>none)
theorem aq.bare{E:Env}{a:AV}{v:SO}(h:aq E a v)(hl:Lt 0 a):aq E.bare a v:=((h.trim hl).e9 false).frame _
theorem agk{E:Env}{I:cm}{ro:mN}(hI:E.I=I)(hg:ro.group=none)(hc:ro.chan=none):Conc E.bare {ah:=I,own:=λ_=>none,deaf:=0,role:=ro} []:=
 ⟨hI,rfl,λk x e=>(by cases e),λi j x y b h1=>(by cases h1),λg e=>(by rw[hg]at e;cases e),λg e=>(by rw[hc]at e;cases e),λe=>(by cases e),λb y e=>(by cases e)⟩
theorem At.arR{E:Env}{V:View}{s:AS}{a:Act}{nt t id off:Nat}(h:At E V s a nt)(hl:look s.T t=some (.op id off)):a.eval (.tmp t)=.pointer (some ⟨E.blk id,off,none⟩):=by
 have hd:=(h.tok t _ hl).2;show a.tmps.getD t undef=_;generalize a.tmps.getD t undef=v at hd;cases hd;rfl
section
variable {lv:Bool}{P:SI}{s:AS}{ms:List Nat}{nt:Nat}
def ao.pL (id:Nat)(Φ:ao->AS->List Nat->Prop):ao->AS->List Nat->Prop
 |.exit i,s,ms=>if i=id then Φ .normal s ms else Φ (.exit i) s ms
 |e,s,ms=>Φ e s ms
theorem afs{id:Nat}{c:T6}{Φ:ao->AS->List Nat->Prop}(h:ml lv P nt c s ms (ao.pL id Φ)):ml lv P nt (.block id c) s ms Φ:=by
 intro E V a Q ai hd hQ;refine wp_block (h E V a _ ai hd λae e E' V' a' s' cy hk aU cu he hΦ=> ?_);cases ae<;>cases e<;>first
  |exact he.elim
  |skip
 ·exact hQ .normal .normal E' V' a' s' cy hk aU cu trivial hΦ
 ·rename_i i j;have e:i=j:=he;subst e;by_cases bR:i=id
  ·simp only[Ex.inBlock,bR,if_true];simp only[ao.pL,bR,if_true]at hΦ;exact hQ .normal _ E' V' a' s' cy hk aU cu trivial hΦ
  ·simp only[Ex.inBlock,bR,if_false];simp only[ao.pL,bR,if_false]at hΦ;exact hQ (.exit i) _ E' V' a' s' cy hk aU cu rfl hΦ
 ·exact hQ _ _ E' V' a' s' cy hk aU cu he hΦ
 ·exact hQ _ _ E' V' a' s' cy hk aU cu he hΦ
 ·exact hQ _ _ E' V' a' s' cy hk aU cu he hΦ
def ao.u7 (Φ:ao->AS->List Nat->Prop):ao->AS->List Nat->Prop
 |.goto _,_,_=>False
 |e,s,ms=>Φ e s ms
theorem afw{c:T6}{Φ:ao->AS->List Nat->Prop}(h:ml lv P nt c s ms (ao.u7 Φ)):ml lv P nt (.scope c) s ms Φ:=by
 intro E V a Q ai hd hQ;refine adz (λ_ _ _ _=>False) ⟨0,h E V a _ ai hd λae e E' V' a' s' cy hk aU cu he hΦ=> ?_⟩ λ_ _ _ _ _ _ hf=>hf.elim;cases ae<;>cases e<;>first
  |exact he.elim
  |exact hΦ.elim
  |exact hQ _ _ E' V' a' s' cy hk aU cu he hΦ
theorem afP(id:Nat)(Φ:ao->AS->List Nat->Prop)(s:AS)(ms:List Nat):ao.pL id Φ .normal s ms=Φ .normal s ms:=by rw[ao.pL];simp
theorem aqx(Φ:ao->AS->List Nat->Prop)(s:AS)(ms:List Nat):ao.u7 Φ .normal s ms=Φ .normal s ms:=by rw[ao.u7];simp
theorem aqz(Φ:ao->AS->List Nat->Prop)(s:AS)(ms:List Nat):ao.u7 Φ .ret s ms=Φ .ret s ms:=by rw[ao.u7];simp
theorem arc(K:AS->List Nat->Prop)(Φ:ao->AS->List Nat->Prop)(s:AS)(ms:List Nat):ao.rW K Φ .normal s ms=K s ms:=by rw[ao.rW]
theorem are(K:AS->List Nat->Prop)(Φ:ao->AS->List Nat->Prop)(s:AS)(ms:List Nat):ao.rW K Φ .ret s ms=Φ .ret s ms:=by rw[ao.rW];simp
@[congr] theorem asR {c : T6} {s s' : AS} {ms cy : List Nat} {Φ : ao -> AS -> List Nat -> Prop} (h : s = s') (hd : ms = cy) : ml lv P nt c s ms Φ = ml lv P nt c s' cy Φ := by rw [h, hd]
@[congr] theorem atF {K : AS -> List Nat -> Prop} {Φ : ao -> AS -> List Nat -> Prop} {e e' : ao} {s s' : AS} {ms cy : List Nat} (he : e = e') (h : s = s') (hd : ms = cy) : ao.rW K Φ e s ms = ao.rW K Φ e' s' cy := by rw [he, h, hd]
@[congr] theorem atC {Φ : ao -> AS -> List Nat -> Prop} {e e' : ao} {s s' : AS} {ms cy : List Nat} (he : e = e') (h : s = s') (hd : ms = cy) : ao.u7 Φ e s ms = ao.u7 Φ e' s' cy := by rw [he, h, hd]
@[congr] theorem as5 {rs : List UO} {n : Nat} {k kp : AV -> List aa -> Prop} {e e' : ao} {s s' : AS} {ms cy : List Nat} (he : e = e') (h : s = s') (hd : ms = cy) : sf P rs n k kp e s ms = sf P rs n k kp e' s' cy := by rw [he, h, hd]
theorem aiP(rs:List UO)(n:Nat)(k kp:AV->List aa->Prop)(s:AS)(ms:List Nat):sf P rs n k kp .ret s ms=ap (iG ms s.H) λH'=>ap (gT P ⟨s.T,H'⟩ rs) λl=>cC n H' (iR l) k:=by rw[sf]
theorem zy(H:List aa):iG [] H=some H:=by rw[iG]
theorem zx{i:Nat}{ms:List Nat}{H:List aa}(h:H[i]?=some (.obj (.deferred (some [])))):iG (i::ms) H=iG ms (H.set i .gone):=by rw[iG];rw[h]
attribute [seval] afP aqx aqz arc are aiP zy
end
section
variable {lv:Bool}{P:SI}{r:Option Nat}{s:AS}
theorem Pv{E:Env}{I:cm}(hI:∀b o v,E.I b o=some v->I b o=some v){n:Nat}{l:List AV}{v:SO}(h:aq E (.sl n l .exact) v):∃a,aq (E.tok I (a,n) n) (.sl n l (.opn E.n)) v:=by
 cases h with
 |sl b o cap f dP he q1 q2=>
  have Fy:cap=n:=he;subst Fy;refine⟨some ⟨b,o,none⟩,?_⟩;have hle:=E.Mk (I:=I) hI (some ⟨b,o,none⟩,cap) cap;exact .sl b o cap f dP ⟨by simp[Env.tok],by simp[Env.tok],by simp[Env.tok]⟩ (λi hi=>hle.I _ _ _ (q1 i hi)) (λi x hx=>(q2 i x hx).mono hle)
 |nil he=>exact⟨_,.nil ⟨by simp[Env.tok],by simp[Env.tok],by simp[Env.tok];rfl⟩⟩
theorem vt{nt t n sz:Nat}{c:T6}{l:List AV}{el:TypeId}{Φ:ao->AS->Prop}(ht:look s.T t=some (.sl n l .exact))(h:aQ lv P r nt c ⟨(t,.sl n l (.opn s.H.length))::s.T,s.H++[.tail n sz el]⟩ Φ):aQ lv P r nt c s Φ:=λE V a Q ai hQ=>by
 obtain⟨hlt,hd⟩:=ai.tok t _ ht;obtain⟨ad,cu⟩:=Pv (I:=V.ah) (λb o v h=>by rw[<- ai.bt.I];exact h) hd;obtain⟨hc,hle⟩:=ai.bt.NG (n:=n) sz el ad;refine h _ V a Q ⟨hc,λt' x hx=> ?_,ai.size⟩ λae e E' V' a' s' hk=>hQ ae e E' V' a' s' ((⟨hle,rfl,rfl,rfl,rfl⟩:Kept E _ V V a a).trans hk);simp only[look]at hx;split at hx
 ·rename_i e;subst e;cases hx;rw[<- ai.bt.n];exact⟨hlt,cu⟩
 ·exact⟨(ai.tok t' x hx).1,(ai.tok t' x hx).2.mono hle⟩
theorem Pw{E:Env}{l:List AV}{cs:Array SO}{j:Nat}{a b:AV}(h:cF E l cs)(hj:l[j]?=some a)(hb:∀v,aq E a v->aq E b v):cF E (l.set j b) cs:=by
 refine⟨by rw[TC];exact h.1,λi x hx=> ?_⟩;by_cases e:i=j
 ·subst e;rw[W7 (SL.1 hj).1]at hx;cases hx;exact hb _ (h.2 i a hj)
 ·rw[T8 (Ne.symm e)]at hx;exact h.2 i x hx
theorem afo{nt id j n sz:Nat}{c:T6}{l l':List AV}{el gK:TypeId}{Φ:ao->AS->Prop}(bR:s.H[id]?=some (.cells l el))(hj:l[j]?=some (.sl n l' .exact))(h:aQ lv P r nt c ⟨s.T,s.H.set id (.cells (l.set j (.sl n l' (.opn s.H.length))) el)++[aa.tail n sz gK]⟩ Φ):aQ lv P r nt c s Φ:=λE V a Q ai hQ=>by
 have hc:=ai.bt;obtain⟨⟨cs,ej,hd⟩,kN⟩:=hc.obj id _ bR;obtain⟨ad,cu⟩:=Pv (I:=V.ah) (λb o v h=>by rw[<- hc.I];exact h) (hd.2 j _ hj);obtain⟨aY,hle⟩:=hc.NG (n:=n) sz gK ad;have hlt:=(SL.1 bR).1;have hn:(E.tok V.ah (ad,n) n).n=s.H.length+1:=by simp[Env.tok,hc.n]
 have e:s.H.set id (.cells (l.set j (.sl n l' (.opn s.H.length))) el)++[aa.tail n sz gK]=(s.H++[aa.tail n sz gK]).set id (.cells (l.set j (.sl n l' (.opn s.H.length))) el):=(US _ _ hlt).symm;rw[e]at h;have FD:cF (E.tok V.ah (ad,n) n) (l.set j (.sl n l' (.opn s.H.length))) cs:=by
  have h0:=hd.mono hle;refine⟨by rw[TC];exact h0.1,λi x hx=> ?_⟩;by_cases ei:i=j
  ·subst ei;rw[W7 (SL.1 hj).1]at hx;cases hx;rw[<- hc.n];exact cu
  ·rw[T8 (Ne.symm ei)]at hx;exact h0.2 i x hx
 have hb:(E.tok V.ah (ad,n) n).blk id=E.blk id:=hle.blk id (by rw[hc.n];exact hlt);have cL:Conc (E.tok V.ah (ad,n) n) V ((s.H++[aa.tail n sz gK]).set id (.cells (l.set j (.sl n l' (.opn s.H.length))) el)):=by
  have cX:(s.H++[aa.tail n sz gK])[id]?=some (.cells l el):=by rw[SX hlt];exact bR
  refine aY.iD id _ (Env.Le.refl _) aY.I (by rw[aY.n,TC]) kX rfl (λ_ _ _=>rfl) (λb y _ hy=>⟨hy,λ_=>rfl⟩) ⟨⟨cs,by rw[hb];exact ej,FD⟩,λo=>by rw[hb];exact kN o⟩ (λb dD=> .inl ⟨_,cX,dD⟩)
 refine h _ V a Q ⟨cL,ai.tok.mono hle,ai.size⟩ λae e E' V' a' s' hk=>hQ ae e E' V' a' s' ((⟨hle,rfl,rfl,rfl,rfl⟩:Kept E _ V V a a).trans hk)
theorem afq{nt id j:Nat}{c:T6}{l:List AV}{x y:AV}{el:TypeId}{Φ:ao->AS->Prop}(bR:s.H[id]?=some (.cells l el))(hj:l[j]?=some x)(hw:Wk x y)(h:aQ lv P r nt c ⟨s.T,s.H.set id (.cells (l.set j y) el)⟩ Φ):aQ lv P r nt c s Φ:=λE V a Q ai hQ=>by
 have hc:=ai.bt;obtain⟨⟨cs,ej,hd⟩,kN⟩:=hc.obj id _ bR;have cL:Conc E V (s.H.set id (.cells (l.set j y) el)):=
  hc.iD id _ (Env.Le.refl _) hc.I (by rw[hc.n,TC]) kX rfl (λ_ _ _=>rfl) (λb y _ hy=>⟨hy,λ_=>rfl⟩) ⟨⟨cs,ej,Pw hd hj (hw E)⟩,kN⟩ (λb dD=> .inl ⟨_,bR,dD⟩)
 exact h E V a Q ⟨cL,ai.tok,ai.size⟩ hQ
end
structure wR (X Y Z:Prop):Type where
 n:Nat
def UG (a:AV)(bT:Bool)(X Y Z:Prop)(_t:wR X Y Z):Prop:=(∃b,a=.val (.bool b)/\(b=bT->X)/\(b= !bT->Y))\/(a=.val undef/\Z)
theorem HH{b bT:Bool}{X Y Z:Prop}{t:wR X Y Z}:UG (.val (.bool b)) bT X Y Z t=((b=bT->X)/\(b= !bT->Y)):=by
 unfold UG;refine propext ⟨λh=> ?_,λh=> .inl ⟨b,rfl,h⟩⟩;rcases h with⟨b',e,h⟩|⟨e,_⟩
 ·cases e;exact h
 ·cases e
theorem arL(X Y Z:Prop)(t:wR X Y Z):UG (.val (.bool true)) true X Y Z t=X:=by rw[HH];simp
theorem arK(X Y Z:Prop)(t:wR X Y Z):UG (.val (.bool true)) false X Y Z t=Y:=by rw[HH];simp
theorem arJ(X Y Z:Prop)(t:wR X Y Z):UG (.val (.bool false)) true X Y Z t=Y:=by rw[HH];simp
theorem arI(X Y Z:Prop)(t:wR X Y Z):UG (.val (.bool false)) false X Y Z t=X:=by rw[HH];simp
theorem arM(bT:Bool)(X Y Z:Prop)(t:wR X Y Z):UG (.val undef) bT X Y Z t=Z:=by
 unfold UG;refine propext ⟨λh=> ?_,λh=> .inr ⟨rfl,h⟩⟩;rcases h with⟨b',e,_⟩|⟨_,h⟩
 ·cases e
 ·exact h
section
variable (lv:Bool)(P:SI)
def nR (all:Array Tu):List Tu->AS->(AS->Prop)->(AV->AS->Prop)->Prop
 |[],s,next,_=>next s
 |o::rest,s,next,bad=>match o.guard with
  |none=>mj lv P s o (λs'=>nR all rest s' next bad) bad
  |some (j,bT)=>ap ((all[j]?).bind (·.dst)) λd=>ap (look s.T d) λa=>UG a bT (mj lv P ⟨(d,.val (.bool bT))::s.T,s.H⟩ o (λs'=>nR all rest s' next bad) bad) (nR all rest ((⟨(d,.val (.bool !bT))::s.T,s.H⟩:AS).put o.dst (.val undef)) next bad) (nR all rest (s.put o.dst (.val undef)) next bad) ⟨0⟩
end
theorem arH:type_of% @nR.eq_1:=by intros;rw[nR.eq_1]
theorem arG:type_of% @nR.eq_2:=by intros;rw[nR.eq_2]
@[congr] theorem atJ {lv : Bool} {P : SI} {s s' : AS} {all : Array Tu} {l : List Tu} {next : AS -> Prop} {bad : AV -> AS -> Prop} (h : s = s') : nR lv P all l s next bad = nR lv P all l s' next bad := by rw [h]
attribute [seval] arH arG arL arK arJ arI arM
section
variable {lv:Bool}{P:SI}{r:Option Nat}{s:AS}
theorem HJ{nt:Nat}{all:Array Tu}{Φ:ao->AS->Prop}(dn:∀o∈all,∀d,o.dst=some d->d<nt)(ng:∀o∈all,r=none\/l8 o.op=false):∀(n k:Nat)(s:AS),k+n=all.size->nR lv P all (all.toList.drop k) s (Φ .normal) (λpv s=>Φ (.panic pv) s)->
  ∀(E:Env)(V:View)(a:Act)(Q:Ex->Act->View->Prop),At E V s a nt->(∀ae e E' V' a' s',Kept E E' V V' a a'->At E' V' s' a' nt->pD E' ae e->Φ ae s'->Q e a' V')->dj lv P r all Q (Ud k n) a V
 |0,k,s,hk,h,E,V,a,Q,ai,hQ=>by
  have:all.toList.drop k=[]:=by simp;omega
  rw[this]at h;exact hQ .normal .normal E V a s (Kept.refl E V a) ai trivial h
 |n+1,k,s,hk,h,E,V,a,Q,ai,hQ=>by
  have hlt:k<all.size:=by omega
  have hd:all.toList.drop k=all[k]::all.toList.drop (k+1):=by
   rw[TQ (by simpa using hlt)];simp
  rw[hd]at h;have fz:all[k]∈all:=XU hlt;have ho:all[k]?=some all[k]:=SJ hlt;simp only[VR,dj,ho];have go:∀s:AS,At E V s a nt->mj lv P s all[k] (λs'=>nR lv P all (all.toList.drop (k+1)) s' (Φ .normal) (λpv s=>Φ (.panic pv) s)) (λpv s=>Φ (.panic pv) s)->wS lv P r all[k] a V (dj lv P r all Q (Ud (k+1) n)) Q:=λs ai h=>by
   refine h.sound (lv:=lv) (r:=r) E V a _ Q ai.bt ai.tok (λd e=>by rw[ai.size];exact dn _ fz d e) (ng _ fz) (λE' V' a' s' aJ aY l6 hn=> ?_) (λE' V' s' pv v aJ aY l6 bp hb=> ?_)
   ·exact HJ dn ng n (k+1) s' (by omega) hn E' V' a' Q ⟨aY,l6,aJ.size.trans ai.size⟩ (λae e bO aS b8 dh fL de he hΦ=>hQ ae e bO aS b8 dh (aJ.trans fL) de he hΦ)
   ·exact hQ (.panic pv) (.panic _) E' V' a s' aJ ⟨aY,l6,ai.size⟩ ⟨v,rfl,bp⟩ hb
  simp only[nR]at h;split at h
  ·rename_i hg;have hw:Th all[k] (yielded all a.tmps)=true:=(by unfold Th;rw[hg]);rw[if_pos hw];exact .inl (go s ai h)
  ·rename_i j bT hg;obtain⟨d,fY,h⟩:=h.out;obtain⟨av,h1,h⟩:=h.out;rcases h with⟨b,rfl,h2,h3⟩|⟨rfl,h3⟩
   case inr=>
    have hv:=(ai.tok d _ h1).2;have hy:yielded all a.tmps j≠some bT:=by
     obtain⟨oj,ku,iZ⟩:=Te.1 fY;generalize hx:a.tmps.getD d undef=x at hv;cases hv;have lY:d<a.tmps.size:=(ai.tok d _ h1).1;rw[SH,SJ lY]at hx;simp only[S7]at hx;simp[yielded,ku,iZ,SJ lY,hx,undef]
    have hw:¬Th all[k] (yielded all a.tmps)=true:=by
     unfold Th;rw[hg];intro h;exact hy (by simpa using h)
    rw[if_neg hw];exact HJ dn ng n (k+1) (s.put all[k].dst (.val undef)) (by omega) h3 E V (a.put all[k].dst undef) Q
     ⟨by rw[eZ];exact ai.bt,ai.tok.gR (λd e=>by rw[ai.size];exact dn _ fz d e) (.val undef),by rw[dU];exact ai.size⟩
     (λae e bO aS b8 dh fL de he hΦ=>hQ ae e bO aS b8 dh ⟨fL.le,fL.size.trans (dU _ _ _),fL.defers.trans (put_defers _ _ _),fL.role,fL.deaf⟩ de he hΦ)
   have hv:=(ai.tok d _ h1).2;have hy:yielded all a.tmps j=some b:=by
    obtain⟨oj,ku,iZ⟩:=Te.1 fY;generalize hx:a.tmps.getD d undef=x at hv;cases hv;have lY:d<a.tmps.size:=(ai.tok d _ h1).1;rw[SH,SJ lY]at hx;simp only[S7]at hx;simp[yielded,ku,iZ,SJ lY,hx]
   have rL:∀b',b=b'->At E V ⟨(d,.val (.bool b'))::s.T,s.H⟩ a nt:=λb' dD=>by
    subst dD;refine⟨ai.bt,λt x e=> ?_,ai.size⟩;simp only[look]at e;split at e
    ·rename_i e';subst e';cases e;exact ai.tok d _ h1
    ·exact ai.tok t x e
   by_cases hb:b=bT
   ·have hw:Th all[k] (yielded all a.tmps)=true:=(by unfold Th;rw[hg];simp[hy,hb]);rw[if_pos hw];exact .inl (go _ (rL bT hb) (h2 hb))
   ·have hw:¬Th all[k] (yielded all a.tmps)=true:=(by unfold Th;rw[hg];simp[hy,hb]);rw[if_neg hw];have dD:b= !bT:=(by cases b<;>cases bT<;>simp_all);have vH:=h3 dD;have ai:=rL _ dD;exact HJ dn ng n (k+1) ((⟨(d,.val (.bool !bT))::s.T,s.H⟩:AS).put all[k].dst (.val undef)) (by omega) vH E V (a.put all[k].dst undef) Q
     ⟨by rw[eZ];exact ai.bt,ai.tok.gR (λd e=>by rw[ai.size];exact dn _ fz d e) (.val undef),by rw[dU];exact ai.size⟩
     (λae e bO aS b8 dh fL de he hΦ=>hQ ae e bO aS b8 dh ⟨fL.le,fL.size.trans (dU _ _ _),fL.defers.trans (put_defers _ _ _),fL.role,fL.deaf⟩ de he hΦ)
theorem afl{nt id:Nat}{ops:Array Tu}{Φ:ao->AS->Prop}(hd:jG nt ops=true)(h:nR lv P ops ops.toList s (Φ .normal) (λpv s=>Φ (.panic pv) s)):aQ lv P r nt (.region id ops false) s Φ:=by
 intro E V a Q ai hQ;refine wp_region ?_;rw[Vp];exact HJ (Φ:=Φ) (λo ho d e=>(jG.out hd ho).1 d e) (λo ho=> .inr (jG.out hd ho).2) ops.size 0 s (by omega) (by simpa using h) E V a Q ai hQ
end
section
variable (lv:Bool)(P:SI)
def sk (all:Array Tu):List Tu->AS->(AS->Prop)->Prop
 |[],s,K=>K s
 |o::rest,s,K=>match o.guard with
  |none=>AQ lv P s o λav=>sk all rest (s.put o.dst av) K
  |some (j,bT)=>ap ((all[j]?).bind (·.dst)) λd=>ap (look s.T d) λa=>UG a bT (AQ lv P ⟨(d,.val (.bool bT))::s.T,s.H⟩ o λav=>sk all rest ((⟨(d,.val (.bool bT))::s.T,s.H⟩:AS).put o.dst av) K) (sk all rest ((⟨(d,.val (.bool !bT))::s.T,s.H⟩:AS).put o.dst (.val undef)) K) (sk all rest (s.put o.dst (.val undef)) K) ⟨0⟩
end
theorem ao2:type_of% @sk.eq_1:=by intros;rw[sk.eq_1]
theorem ao1:type_of% @sk.eq_2:=by intros;rw[sk.eq_2]
@[congr] theorem atA {lv : Bool} {P : SI} {s s' : AS} {all : Array Tu} {l l' : List Tu} {K : AS -> Prop} (hl : l = l') (h : s = s') : sk lv P all l s K = sk lv P all l' s' K := by rw [hl, h]
attribute [seval] ao2 ao1
section
variable {lv:Bool}{P:SI}{r:Option Nat}{s:AS}{ops:Array Tu}{nt p:Nat}
end
section
variable {P:SI}
def Eb (P:SI)(d:Nat)(t:TypeId):Prop:=(∃u,P.underlying t=some u/\yY u=false)/\∀x y:Int,cI P (Vw d t (.int .i64 x) (.int .i64 y)) (x==y)
def Ec (P:SI)(d:Nat)(t:TypeId)(n:Nat):Prop:=(∃u,P.underlying t=some u/\yY u=true)/\(∃i,P.info? t=some i/\i.size=n)/\∀xs ys:List Int,xs.length=n->ys.length=n->cI P (Vw d t (.agg (xs.map (SF .i64)).toArray) (.agg (ys.map (SF .i64)).toArray)) (xs==ys)
inductive se (P:SI)(d:Nat):Nat->List YU->Nat->Prop
 |nil (o:Nat):se P d o [] o
 | one {o n : Nat} {f : YU} {fs : List YU} (hn : f.name ≠ "_") (ho : f.offset = o) (h : Eb P d f.type) (t : se P d (o + 1) fs n) : se P d o (f :: fs) n
 | sub {o m n : Nat} {f : YU} {fs : List YU} (hn : f.name ≠ "_") (ho : f.offset = o) (h : Ec P d f.type m) (t : se P d (o + m) fs n) : se P d o (f :: fs) n
theorem se.le{d o n:Nat}{fs:List YU}(h:se P d o fs n):o<=n:=by
 induction h with
 |nil=>exact SQ _
 |one _ _ _ _ ih=>omega
 |sub _ _ _ _ ih=>omega
theorem PW(xs:List Int)(o m:Nat):(xs.map (SF .i64)).toArray.extract o (o+m)=(((xs.drop o).take m).map (SF .i64)).toArray:=by
 simp[List.extract_eq_take_drop,VU,af_]
theorem aqR {d n N : Nat} {xs ys : List Int} {body : YU -> Option Bool × Unit -> Sem (ForInStep (Option Bool × Unit))} (hx : xs.length = N) (hy : ys.length = N) (hb : ∀ f s, body f s = (if f.name ≠ "_" then (do
   let a<- part f.type (xs.map (SF .i64)).toArray f.offset;let b<- part f.type (ys.map (SF .i64)).toArray f.offset;let r<- Vw d f.type a b
   if(!r)=true then pure (.done (some false,()))else pure (.yield (none,())))else pure (.yield (none,())))):
  ∀{o:Nat}{fs:List YU},se P d o fs n->n<=N->cI P (forIn fs (none,()) body) (if(xs.drop o).take (n-o)==(ys.drop o).take (n-o)then(none,())else(some false,())):=by
 intro o fs h hn;induction h with
 |nil o=>simpa using iC (none,())
 |@one o n f fs K0 ho h t ih=>
  have hle:=t.le;have Sf:o<xs.length:=by omega
  have Sg:o<ys.length:=by omega
  obtain⟨⟨u,hu,CS⟩,he⟩:=h;rw[WY,hb,if_pos K0,ho];refine k_ (a:=if xs[o]==ys[o]then .yield (none,())else .done (some false,())) ?_ ?_
  ·refine DL hu CS (v:=.int .i64 xs[o]) (by simp[Sf]) ?_;refine DL hu CS (v:=.int .i64 ys[o]) (by simp[Sg]) ?_;refine k_ (he _ _) ?_;cases hq:xs[o]==ys[o]<;>exact iC _
  ·have e:((xs.drop o).take (n-o)==(ys.drop o).take (n-o))=((xs[o]==ys[o])&&((xs.drop (o+1)).take (n-(o+1))==(ys.drop (o+1)).take (n-(o+1)))):=by
    rw[TQ Sf,TQ Sg,show n-o=(n-(o+1))+1 by omega,VQ,VQ];rfl
   rw[e];cases hq:xs[o]==ys[o]with
   |true=>simp only[if_true,U_];exact ih hn
   |false=>simp only[TM,if_false,Xf];exact iC _
 |@sub o m n f fs K0 ho h t ih=>
  have hle:=t.le;obtain⟨⟨u,hu,CS⟩,⟨i,hi,dg⟩,he⟩:=h;rw[WY,hb,if_pos K0,ho];refine k_ (a:=if(xs.drop o).take m==(ys.drop o).take m then .yield (none,())else .done (some false,())) ?_ ?_
  ·refine ac0 hu CS hi ?_;refine ac0 hu CS hi ?_;rw[dg,PW,PW];refine k_ (he _ _ (by rw[T4,Ul];omega) (by rw[T4,Ul];omega)) ?_;cases hq:(xs.drop o).take m==(ys.drop o).take m<;>exact iC _
  ·have e:((xs.drop o).take (n-o)==(ys.drop o).take (n-o))=(((xs.drop o).take m==(ys.drop o).take m)&&((xs.drop (o+m)).take (n-(o+m))==(ys.drop (o+m)).take (n-(o+m)))):=by
    have hs:∀zs:List Int,(zs.drop o).take (n-o)=(zs.drop o).take m++(zs.drop (o+m)).take (n-(o+m)):=λzs=>by
     rw[show n-o=m+(n-(o+m)) by omega,List.take_add,aj']
    rw[hs,hs,Vm,Tg,beq_iff_eq,beq_iff_eq,beq_iff_eq];exact⟨λh=>List.append_inj h (by simp[T4,Ul];omega),λh=>by rw[h.1,h.2]⟩
   rw[e];cases hq:(xs.drop o).take m==(ys.drop o).take m with
   |true=>simp only[if_true,U_];exact ih hn
   |false=>simp only[TM,if_false,Xf];exact iC _
theorem ag4{t:TypeId}{fs:Array YU}{d n:Nat}{i:We}(ht:P.underlying t=some (.struct fs))(hs:P.stoodInHeld t=false)(hi:P.info? t=some i)(dg:i.size=n)(hf:se P d 0 fs.toList n):Ec P (d+1) t n:=by
 refine ⟨⟨_, ht, rfl⟩, ⟨i, hi, dg⟩, λxs ys hx hy => ?_⟩;rw [Vw];refine yD ht ?_;dsimp only;refine Nz ?_;rw [hs];simp only [TM, if_false];rw [<- Array.forIn_toList];refine k_ (a := if (xs == ys) then (none, ()) else (some false, ())) ?_ (by cases xs == ys <;> exact iC _);have := aqR (body := λf (_ : Option Bool × Unit) => if f.name ≠ "_" then (do
   let a<- part f.type (xs.map (SF .i64)).toArray f.offset;let b<- part f.type (ys.map (SF .i64)).toArray f.offset;let r<- Vw d f.type a b
   if(!r)=true then pure (ForInStep.done (some false,()))else pure (YX (none,())))else pure (YX (none,()))) hx hy (λf s=>rfl) hf (SQ _)
 simp only[Xy,ZV]at this;rw[SP (by omega),SP (by omega)]at this;exact this
theorem ag3{t:TypeId}{k0:TY}{d:Nat}(ht:P.underlying t=some (.int k0)):Eb P (d+1) t:=⟨⟨_,ht,rfl⟩,λ_ _=>acY ht⟩
def BU (g:TypeId->Option (Option Nat)):List YU->Nat->Option Nat
 |[],o=>some o
 | f :: fs, o => if f.name ≠ "_" /\ f.offset = o then (match g f.type with
  |some none=>BU g fs (o+1)
  |some (some m)=>BU g fs (o+m)
  |none=>none)else none
def xi (P:SI):Nat->TypeId->Option (Option Nat)
 |0,_=>none
 |d+1,t=>match P.underlying t with
  |some (.int _)=>some none
  |some (.struct fs)=>if P.stoodInHeld t then none else(match BU (xi P d) fs.toList 0,P.info? t with
   |some n,some i=>if i.size=n then some (some n)else none
   |_,_=>none)
  |_=>none
theorem Jw{d n:Nat}{g:TypeId->Option (Option Nat)}(h1:∀t,g t=some none->Eb P d t)(h2:∀t m,g t=some (some m)->Ec P d t m):∀(fs:List YU)(o:Nat),BU g fs o=some n->se P d o fs n
 |[],o,h=>by cases h;exact .nil _
 |f::fs,o,h=>by
  rw[BU]at h;split at h
  ·rename_i hc;split at h
   ·rename_i hg;exact .one hc.1 hc.2 (h1 _ hg) (Jw h1 h2 fs _ h)
   ·rename_i m hg;exact .sub hc.1 hc.2 (h2 _ _ hg) (Jw h1 h2 fs _ h)
   ·cases h
  ·cases h
theorem Qc:∀(d:Nat)(t:TypeId),(xi P d t=some none->Eb P d t)/\∀n,xi P d t=some (some n)->Ec P d t n
 |0,t=>⟨λh=>by simp[xi]at h,λn h=>by simp[xi]at h⟩
 |d+1,t=>by
  have ih:=λt=>Qc d t;rw[xi];split
  ·rename_i k0 hu;exact⟨λ_=>ag3 hu,λn h=>by cases h⟩
  ·rename_i fs hu;split
   ·exact⟨λh=>(by cases h),λn h=>by cases h⟩
   ·rename_i hs;split
    ·rename_i n i hf hi;split
     ·rename_i dg;refine⟨λh=>(by cases h),λm h=> ?_⟩;cases h;exact ag4 hu (by simpa using hs) hi dg (Jw (λt=>(ih t).1) (λt=>(ih t).2) _ _ hf)
     ·exact⟨λh=>(by cases h),λn h=>by cases h⟩
    ·exact⟨λh=>(by cases h),λn h=>by cases h⟩
  ·exact⟨λh=>(by cases h),λn h=>by cases h⟩
theorem aeu{t:TypeId}{n:Nat}{xs ys:List Int}(h:xi P 10000 t=some (some n))(hg:P.eqGuardType P.depth t=false)(hx:xs.length=n)(hy:ys.length=n)(k:AV->Prop):dH P .eql t (.agg (xs.map iv)) (.agg (ys.map iv)) k=k (bv (xs==ys)):=by
 have CN:cI P (Xo t (.agg (xs.map (SF .i64)).toArray) (.agg (ys.map (SF .i64)).toArray)) (xs==ys):=((Qc 10000 t).2 n h).2.2 xs ys hx hy;have e:dH P .eql t (.agg (xs.map iv)) (.agg (ys.map iv)) k=((XH=.eql\/XH=.neq)/\ap (AV.raw (.agg (xs.map iv))) λX=>ap (AV.raw (.agg (ys.map iv))) λY=>zl X Y=true/\P.eqGuardType P.depth t=false/\∃e,cI P (Xo t X Y) e/\k (.val (.bool (if XH== .neq then !e else e)))):=rfl;rw[e,yr,yr,Av,Av];apply propext;constructor
 ·rintro⟨_,_,_,b,h1,h2⟩
  rw[CN.uniq h1];exact h2
 ·intro h;exact⟨.inl rfl,rfl,hg,_,CN,h⟩
end
section
variable {lv:Bool}{P:SI}{s:AS}{ms:List Nat}{bs:List UX}{nt:Nat}
def tO (E:Env)(ms:List Nat)(bs l:List UX):Prop:=l=ms.map (λi=>({target:=.collected (E.blk i),args:=#[]}:UX))++bs/\∀i∈ms,i<E.n
theorem tO.mono{E E':Env}(h:E.Le E'){ms:List Nat}{bs l:List UX}(k:tO E ms bs l):tO E' ms bs l:=
 ⟨by rw[k.1];congr 1;exact Vz λi hi=>by rw[h.blk i (k.2 i hi)],λi hi=>Td (k.2 i hi) h.n⟩
def j7 (lv:Bool)(P:SI)(nt:Nat)(bs:List UX)(c:T6)(s:AS)(ms:List Nat)(Φ:ao->AS->List Nat->Prop):Prop:=
 ∀(E:Env)(V:View)(a:Act)(Q:Ex->Act->View->Prop),At E V s a nt->tO E ms bs a.defers->(∀ae e E' V' a' s' cy,qI E E' V V' a a'->At E' V' s' a' nt->tO E' cy bs a'.defers->pD E' ae e->Φ ae s' cy->Q e a' V')->WP lv P none c Q a V
theorem Ey{c:T6}{Φ:ao->AS->List Nat->Prop}(h:aQ lv P none nt c s λe s'=>Φ e s' ms):j7 lv P nt bs c s ms Φ:=λE V a Q ai hd hQ=>
 h E V a Q ai λae e E' V' a' s' hk aU he hΦ=>hQ ae e E' V' a' s' ms hk.d aU (by rw[hk.defers];exact hd.mono hk.le) he hΦ
theorem j7.mono{c:T6}{Φ Φ':ao->AS->List Nat->Prop}(h:j7 lv P nt bs c s ms Φ)(hq:∀e s ms,Φ e s ms->Φ' e s ms):j7 lv P nt bs c s ms Φ':=λE V a Q ai hd hQ=>
 h E V a Q ai hd λae e E' V' a' s' cy hk aU cu he hΦ=>hQ ae e E' V' a' s' cy hk aU cu he (hq _ _ _ hΦ)
theorem Ez{x y:T6}{Φ:ao->AS->List Nat->Prop}(h:j7 lv P nt bs x s ms (ao.rW (λs' cy=>j7 lv P nt bs y s' cy Φ) Φ)):j7 lv P nt bs (.seq x y) s ms Φ:=by
 intro E V a Q ai hd hQ;refine wp_seq (h E V a _ ai hd λae e E' V' a' s' cy hk aU cu he hΦ=> ?_);cases ae<;>cases e<;>first
  |exact he.elim
  |exact hΦ E' V' a' Q aU cu λae e bO aS b8 dh Dd aJ de zM jW tg=>hQ ae e bO aS b8 dh Dd (hk.trans aJ) de zM jW tg
  |exact hQ _ _ E' V' a' s' cy hk aU cu he hΦ
theorem su{x y:T6}{Φ:ao->AS->List Nat->Prop}(h:aQ lv P none nt x s (ao.then (λs'=>j7 lv P nt bs y s' ms Φ) λe s'=>Φ e s' ms)):j7 lv P nt bs (.seq x y) s ms Φ:=by
 refine Ez (Ey (h.mono λe s' hs=> ?_));cases e<;>exact hs
theorem w8{id:Nat}{c:T6}{Φ:ao->AS->List Nat->Prop}(h:j7 lv P nt bs c s ms (ao.pL id Φ)):j7 lv P nt bs (.block id c) s ms Φ:=by
 intro E V a Q ai hd hQ;refine wp_block (h E V a _ ai hd λae e E' V' a' s' cy hk aU cu he hΦ=> ?_);cases ae<;>cases e<;>first
  |exact he.elim
  |skip
 ·exact hQ .normal .normal E' V' a' s' cy hk aU cu trivial hΦ
 ·rename_i i j;have e:i=j:=he;subst e;by_cases bR:i=id
  ·simp only[Ex.inBlock,bR,if_true];simp only[ao.pL,bR,if_true]at hΦ;exact hQ .normal _ E' V' a' s' cy hk aU cu trivial hΦ
  ·simp only[Ex.inBlock,bR,if_false];simp only[ao.pL,bR,if_false]at hΦ;exact hQ (.exit i) _ E' V' a' s' cy hk aU cu rfl hΦ
 ·exact hQ _ _ E' V' a' s' cy hk aU cu he hΦ
 ·exact hQ _ _ E' V' a' s' cy hk aU cu he hΦ
 ·exact hQ _ _ E' V' a' s' cy hk aU cu he hΦ
theorem OU{α:Type}{lt:α->α->Prop}(wf:WellFounded lt){c:T6}{Φ:ao->AS->List Nat->Prop}(inv:α->AS)(mk:α->List Nat)(ok:α->Prop)(m:α)(h0:s.Sub (inv m))(uz:ms=mk m)(hm:ok m)
  (h:∀m,ok m->j7 lv P nt bs c (inv m) (mk m) (ao.rW (λs' cy=>∃m',lt m' m/\ok m'/\s'.Sub (inv m')/\cy=mk m') Φ)):j7 lv P nt bs (.loop c) s ms Φ:=by
 subst uz;intro E V a Q ai hd hQ;refine NV wf (I:=λm a' V'=>ok m/\∃E',qI E E' V V' a a'/\At E' V' (inv m) a' nt/\tO E' (mk m) bs a'.defers) m ⟨hm,E,(Kept.refl E V a).d,ai.sub h0,hd⟩ λm a' V' hI=> ?_;obtain⟨ay,E',hk,aU,cu⟩:=hI;refine h m ay E' V' a' _ aU cu λae e bO aS b8 dh Dd aJ de zM he hΦ=> ?_;cases ae<;>cases e<;>first
  |exact he.elim
  |(obtain⟨m',h1,h2,h3,rfl⟩:=hΦ
    exact⟨m',h1,h2,bO,hk.trans aJ,de.sub h3,zM⟩)
  |exact hQ _ _ bO aS b8 dh Dd (hk.trans aJ) de zM he hΦ
theorem afy{f:Ti}{ps:Array Tmp}{bK body:T6}{fv:AV}{Φ:ao->AS->List Nat->Prop}(hf:s.ev f=some fv)
  (h:∀l fn:Nat,iT lv P fv (s.H++[.obj (.deferred (some [])),.loop l .ready none fn s.T nt ps bK body s.H.length]) [.fn (.yield l) [] []]
   (λ_ H'=>∃st pe fu T' jb gn fU fb fV,H'[s.H.length+1]?=some (.loop l st pe fu T' jb gn fU fb fV)/\st≠ .busy/\sj Φ ⟨s.T,H'.set (s.H.length+1) .gone⟩ (s.H.length::ms) pe)
   (λpv H'=>Φ (.panic pv) ⟨s.T,H'⟩ (s.H.length::ms))):j7 lv P nt bs (.rangeFunc f ps bK body) s ms Φ:=by
 intro E V a Q ai hm hQ;refine adx λfn d l hd hl=> ?_;have hc:=ai.bt;have dl:Conc (E.add d V.ah) (V.upd d (.deferred (some []))) (s.H++[.obj (.deferred (some []))]):=by
  refine hc.add hd _ ⟨?_,rfl,rfl,λo=> ?_⟩ (λb e=> ?_)
  ·rw[Env.dK];simp[View.upd]
  ·rw[Env.dK];exact hd.2 o
  ·simp only[bL,Env.dK,Tj]at e;exact e.symm
 have Cw:E.Le (E.add d V.ah):=E.qq d (λb o v h=>by rw[<- hc.I];exact h);have Ci:(E.add d V.ah).blk s.H.length=d:=by rw[<- hc.n];exact E.dK d _
 let E1:=E.add d V.ah;let V1:=V.upd d (.deferred (some []));have o4:E1.n=s.H.length+1:=by rw[dl.n];simp
 have p_:E1.Le (E1.add l V1.ah):=E1.qq l (λb o v h=>by rw[<- dl.I];exact h);have cL:Conc (E1.add l V1.ah) (V1.upd l (.loop {state:=.ready,pending:=none,fn,tmps:=a.tmps,params:=ps,assign:=bK,body,defers:=d})) ((s.H++[.obj (.deferred (some []))])++[.loop l .ready none fn s.T nt ps bK body s.H.length]):=by
  refine dl.add hl _ ⟨⟨a.tmps,?_,ai.size,(ai.tok.mono Cw).mono p_⟩,?_,λo=> ?_,?_⟩ (λb e=> ?_)
  ·have e:(E1.add l V1.ah).blk s.H.length=d:=(by rw[p_.blk s.H.length (by rw[o4];omega)];exact Ci);rw[e,Env.dK];simp[View.upd]
  ·show s.H.length<E1.n+1;omega
  ·rw[Env.dK];exact hl.2 o
  ·exact Env.dK _ _ _
  ·simp only[bL,Env.dK,Tj]at e;exact e.symm
 have hle:E.Le (E1.add l V1.ah):=Cw.trans p_;have Kc:(E1.add l V1.ah).blk s.H.length=d:=by rw[p_.blk s.H.length (by rw[o4];omega)];exact Ci
 rw[SC]at cL;have rn:∀E',(E1.add l V1.ah).Le E'->tO E' (s.H.length::ms) bs (mark a d).defers:=λE' hE=>by
  refine tO.mono hE ⟨?_,λi hi=> ?_⟩
  ·have:=(hm.mono hle).1;simp only[mark,UW,Kc,U1];rw[<- this]
  ·rcases SK.1 hi with rfl|hi
   ·show _<E1.n+1;omega
   ·exact Td (hm.2 i hi) hle.n
 have bx:=aq.ev ai.tok hf;have Cl:=h l fn (E1.add l V1.ah) (V1.upd l (.loop {state:=.ready,pending:=none,fn,tmps:=a.tmps,params:=ps,assign:=bK,body,defers:=d})) (a.eval f) #[.func (.yield l) #[] #[]] cL (bx.mono hle) ⟨rfl,λi x hx=>by
  match i,hx with
  |0,hx=>cases hx;exact .fn rfl rfl (by simp) (by simp)⟩
 have key:∀o V',gJ (E1.add l V1.ah) (V1.upd l (.loop {state:=.ready,pending:=none,fn,tmps:=a.tmps,params:=ps,assign:=bK,body,defers:=d}))
   (λ_ H'=>∃st pe fu T' jb gn fU fb fV,H'[s.H.length+1]?=some (.loop l st pe fu T' jb gn fU fb fV)/\st≠ .busy/\sj Φ ⟨s.T,H'.set (s.H.length+1) .gone⟩ (s.H.length::ms) pe)
   (λpv H'=>Φ (.panic pv) ⟨s.T,H'⟩ (s.H.length::ms)) o V'->Ej l d Q a o V':=by
  intro o V' hr;cases o with
  |ret v=>
   obtain⟨av,E',H',hE,bW,eQ,_,aY,st,pe,fu,T',jb,gn,fU,fb,fV,bR,aR,hp⟩:=hr;obtain⟨dD,nf,qA,bf,Lr,sJ,s8⟩:=aY.yA bR;refine⟨_,bf,nf,aR,?_⟩;have hg:Conc E' (V'.upd l (.loop {state:=.exhausted,pending:=pe,fn:=fu,tmps:=qA,params:=gn,assign:=fU,body:=fb,defers:=E'.blk fV})) (H'.set (s.H.length+1) .gone):=aY.DC _ bR _ (by simp only[bL,dD]);have aU:At E' (V'.upd l (.loop {state:=.exhausted,pending:=pe,fn:=fu,tmps:=qA,params:=gn,assign:=fU,body:=fb,defers:=E'.blk fV})) ⟨s.T,H'.set (s.H.length+1) .gone⟩ (mark a d) nt:=⟨hg,ai.tok.mono (hle.trans hE),ai.size⟩;have eg:qI E E' V (V'.upd l (.loop {state:=.exhausted,pending:=pe,fn:=fu,tmps:=qA,params:=gn,assign:=fU,body:=fb,defers:=E'.blk fV})) a (mark a d):=⟨hle.trans hE,rfl,bW,eQ⟩;dsimp only
   match pe,hp,aU,eg with
   |none,hp,aU,eg=>exact hQ .normal .normal E' _ _ _ _ eg aU (rn E' hE) trivial hp
   |some .ret,hp,aU,eg=>exact hQ .ret .ret E' _ _ _ _ eg aU (rn E' hE) trivial hp
   |some (.exit i),hp,aU,eg=>exact hQ (.exit i) (.exit i) E' _ _ _ _ eg aU (rn E' hE) rfl hp
   |some (.goto i),hp,aU,eg=>exact hQ (.goto i) (.goto i) E' _ _ _ _ eg aU (rn E' hE) rfl hp
  |panic ch=>
   obtain⟨pv,v,E',H',rfl,hE,bW,eQ,bp,aY,hp⟩:=hr;exact hQ (.panic pv) (.panic _) E' V' (mark a d) ⟨s.T,H'⟩ _ ⟨hle.trans hE,rfl,bW,eQ⟩ ⟨aY,ai.tok.mono (hle.trans hE),ai.size⟩ (rn E' hE) ⟨v,rfl,bp⟩ hp
 exact Cl.mono (λnx V' hn=>Nx.mono key hn) (λv V' hr=>key _ _ hr)
@[congr] theorem asS {c : T6} {s s' : AS} {ms cy : List Nat} {Φ : ao -> AS -> List Nat -> Prop} (h : s = s') (hd : ms = cy) : j7 lv P nt bs c s ms Φ = j7 lv P nt bs c s' cy Φ := by rw [h, hd]
def tT (lv:Bool)(P:SI)(fn:ZQ)(R:Out->View->Prop):List UX->U9->Array SO->View->Prop
 |[],.returning,tmps,V=>∃v,aP P V (results fn tmps) (λx V'=>x=v/\V'=V) (λ_ _=>False)/\R (.ret v) V
 |[],.panicking ch,_,V=>R (.panic ch) V
 |d::ds,md,tmps,V=>(md matches .run)=false/\((∃b,d={target:=.collected b,args:=#[]}/\V.own b=some (.deferred (some []))/\V.role.chan≠some b/\tT lv P fn R ds md tmps (V.upd b (.deferred none)))\/
   ((∃f cQ,d.target=.fn f cQ)/\aP P V (invoke d.target d.args) (λnx V'=>∃g args,nx=.enter g args/\yL lv P g args md V' λnG aS=>tT lv P fn R ds nG tmps aS) (λ_ _=>False)))
 |[],.run,_,_=>False
theorem DX{f:TS}{fn:ZQ}{kd:Xc}{R:Out->View->Prop}(hf:P.funcs[f]?=some fn){main:Bool}{J:View->SG->Prop}(C:Closed lv P main J){cs:List Uc}(hR:∀o V' BW,R o V'->Leaves P BW f kd o V'->J V' (G BW cs)):∀(ds:List UX)(md:U9)(V:View)(fr:Uc),fr.fn=f->fr.kind=kd->fr.mode=md->fr.defers=ds->tT lv P fn R ds md fr.tmps V->J V (G fr cs)
 |[],.returning,V,fr,h1,h2,h3,h4,h=>by
  obtain⟨v,hs,hr⟩:=h;exact hR _ _ _ hr ⟨h1,h4,h2,fn,hf,h3,hs⟩
 |[],.panicking ch,V,fr,h1,h2,h3,h4,h=>hR _ _ _ h ⟨h1,h4,h2,fn,hf,h3⟩
 |[],.run,_,_,_,_,_,_,h=>h.elim
 |d::ds,md,V,fr,h1,h2,h3,h4,h=>by
  obtain⟨hm,⟨b,rfl,ho,eP,hu⟩|⟨⟨tf,cQ,ht⟩,hs⟩⟩:=h
  ·refine C.step _ _ rfl λw hw=> ?_;obtain⟨es,w',V',k1,k2,k3⟩:=(Nn (P:=P) ho eP).runs hw;rcases k3 with⟨x,k3,rfl,rfl⟩|⟨_,_,hx⟩
   ·refine⟨G {fr with defers:=ds} cs,w',seen P fr.fn es,_,?_,k1.seen P fr.fn,?_⟩
    ·have e:∀main,stepG P main (G fr cs) w=unwind P main fr cs none w:=λmain=>by
      cases md with
      |run=>cases hm
      |returning=>simp[G,stepG,h3]
      |panicking ch=>simp[G,stepG,h3]
     rw[e];simp only[unwind,h4];simp[TA,k3,k2,T5,G]
    ·exact DX hf C hR ds md _ {fr with defers:=ds} h1 h2 h3 rfl hu
   ·exact hx.elim
  ·refine C.step _ _ rfl λw hw=> ?_;obtain⟨es,w',V',k1,k2,k3⟩:=hs.runs hw;rcases k3 with⟨nx,k3,g,args,rfl,hd⟩|⟨_,_,h⟩
   ·refine⟨G (Frame.enter P g args .deferred) ({fr with defers:=ds}::cs),w',seen P fr.fn es,V',?_,k1.seen P fr.fn,?_⟩
    ·have e:∀main,stepG P main (G fr cs) w=unwind P main fr cs none w:=λmain=>by
      cases md with
      |run=>cases hm
      |returning=>simp[G,stepG,h3]
      |panicking ch=>simp[G,stepG,h3]
     rw[e];obtain⟨tgt,ar⟩:=d;simp only at ht k3 k2;subst ht;simp only[unwind,h4];simp[callDeferred,TA,k3,k2,T5,G]
    ·refine hd main J C {fr with defers:=ds} cs h3 λnG aS hU=> ?_;exact DX hf C hR ds nG aS {fr with defers:=ds,mode:=nG} h1 h2 rfl rfl hU
   ·exact h.elim
def adI (lv:Bool)(P:SI)(fn:ZQ)(R:Out->View->Prop):Ex->Act->View->Prop
 |.normal,a,V|.ret,a,V=>tT lv P fn R a.defers .returning a.tmps V
 |.panic ch,a,V=>tT lv P fn R a.defers (.panicking ch) a.tmps V
 |_,_,_=>False
theorem af2{f:TS}{fn:ZQ}{c:T6}{args:Array SO}{kd:Xc}{V:View}{R:Out->View->Prop}(hk:kd≠ .early)(hf:P.funcs[f]?=some fn)(hb:fn.body=some c)
  (h:WP lv P none c (adI lv P fn R) {tmps:=args++TK (fn.ntmps-args.size) undef,defers:=[]} V):Body lv P f args kd V R:=by
 intro main J C cs hR;let b:Uc:={(default:Uc)with fn:=f,kind:=kd,roundOf:=none};have up:Frame.enter P f args kd=on b {tmps:=args++TK (fn.ntmps-args.size) undef,defers:=[]} [.code c]:=by
  simp[Frame.enter,on,hf,hb,b]
 rw[up];refine h main J C b [] cs hk rfl λe a' V' q=> ?_;cases e with
 |normal=>exact C.idle rfl (λw=>Dw rfl) (DX hf C hR _ _ _ _ rfl rfl rfl rfl q)
 |ret=>intro k;exact C.idle rfl (λw=>Dx rfl) (DX hf C hR _ _ _ _ rfl rfl rfl rfl q)
 |panic ch=>intro todo _;exact DX hf C hR _ _ _ _ rfl rfl rfl rfl q
 |exit id=>exact q.elim
 |goto l=>exact q.elim
theorem adn{fn:ZQ}{R:Out->View->Prop}{tmps:Array SO}{md:U9}(hm:(md matches .run)=false):∀(ms:List Nat)(H H':List aa)(E:Env)(V:View)(l:List UX),iG ms H=some H'->Conc E V H->tO E ms bs l->(∀V',V'.role=V.role->V'.deaf=V.deaf->Conc E V' H'->tT lv P fn R bs md tmps V')->tT lv P fn R l md tmps V
 |[],H,H',E,V,l,hg,hc,rq,hk=>by
  rw[iG]at hg;cases hg;have:l=bs:=rq.1;subst this;exact hk V rfl rfl hc
 |i::ms,H,H',E,V,l,hg,hc,rq,hk=>by
  simp only[iG]at hg;split at hg
  ·rename_i hi;obtain⟨e,hlt⟩:=rq;simp only[UW,U1]at e;subst e;obtain⟨p1,p2,p3,p4⟩:=hc.obj i _ hi;exact⟨hm,.inl ⟨_,rfl,p1,(hc.ja hi rfl).2,adn hm ms _ H' E _ _ hg (hc.DC _ hi _ rfl) ⟨rfl,λj hj=>hlt j (by simp[hj])⟩ λV' h1 h2 h3=>hk V' h1 h2 h3⟩⟩
  ·cases hg
def yQ (lv:Bool)(P:SI)(rs:List UO)(n:Nat)(c:AV×List AV)(k kp:AV->List aa->Prop):ao->AS->List Nat->Prop
 |.normal,s,ms|.ret,s,ms=>ap (iG ms s.H) λH'=>qF lv P c H' none (λH'=>ap (gT P ⟨s.T,H'⟩ rs) λl=>cC n H' (iR l) k) (λ_=>False)
 |.panic pv,s,ms=>ap (iG ms s.H) λH'=>qF lv P c H' (some pv) (λH'=>ap (gT P ⟨s.T,H'⟩ rs) λl=>cC n H' (iR l) k) (λH'=>cC n H' pv kp)
 |_,_,_=>False
end
end Go.Gg
namespace Go.Gg.Tk
structure io where
 min:Int
 max:Int
 deriving DecidableEq
structure aD where
 number:io
 hour:io
 deriving DecidableEq
structure Seen where
 hour:Int
 next:io
 deriving DecidableEq
structure ak where
 first:Int
 hours:Int
 an:Int
 seen:List Seen
 pieces:List aD
 aC:List aD
 deriving DecidableEq
def j4 (b:io)(n:Int):Bool:=decide (b.min<=n)&&decide (n<=b.max)
def fq:Nat->List Int->Int->Int
 |i,a::b::l,n=>if a<=n/\n<b then i else fq (i+1) (b::l) n
 |_,_,_=> -1
def je (h:List Int)(n:Int):Int:=fq 0 h n
def fits (h:List Int)(y:aD)(n:Int):Bool:=decide (0<=je h n)&&j4 y.number n&&j4 y.hour (je h n)
def rR (x:ak)(hour:Nat)(n:Int):Bool:=x.seen.all λs=> !decide (s.hour=hour)||j4 s.next n
def ko (x:ak):Nat->List Int->List (List Int)
 |0,pre=>if rR x (pre.length-1) (pre.getLastD 0)then[pre]else[]
 |d+1,pre=>if rR x (pre.length-1) (pre.getLastD 0)then(SV (x.an.toNat+1)).flatMap λn:Nat=>ko x d (pre++[pre.getLastD 0+(n:Int)])else[]
def aK (x:ak):List (List Int):=ko x x.hours.toNat [x.first]
def vY (x:ak)(t:Nat):List (List Int):=if rR x 0 x.first then ko x (x.hours.toNat-1) [x.first,x.first+t]else[]
def GR (h:List Int):List Int:=(SV (h.getLastD 0-h.headD 0).toNat).map λi:Nat=>h.headD 0+i
def mH (h:List Int):List aD->List Int->List (List Int)
 |[],t=>[t]
 |y::ys,t=>((GR h).filter λn=>fits h y n&& !t.contains n).flatMap λn=>mH h ys (t++[n])
def py (h:List Int)(ns:List Int):List aD->List Nat->List (List Nat)
 |[],t=>[t]
 |s::ss,t=>((SV ns.length).filter λp=>fits h s (ns.getD p 0)&& !t.contains p).flatMap λp=>py h ns ss (t++[p])
structure Tr where
 bz:List Int
 aB:List Int
 bS:List Nat
 deriving DecidableEq
def DV (x:ak)(h ns:List Int):List Tr:=(py h ns x.aC []).map λos=>⟨h,ns,os⟩
def oE (x:ak)(h:List Int):List Tr:=(mH h x.pieces []).flatMap (DV x h)
def b_ (x:ak):List Tr:=(aK x).flatMap (oE x)
def u_ (x:ak)(h:List Int):List Tr:=(mH h x.pieces []).flatMap λns=>(DV x h ns).take 1
def rX (x:ak)(deep:Int)(h:List Int):List Tr:=if deep=0 then(u_ x h).take 1 else if deep=1 then u_ x h else oE x h
def HO (x:ak)(deep:Int)(t:Nat):List Tr:=(vY x t).flatMap (rX x deep)
theorem adc{i:Nat}:∀{h:List Int}{n:Int},fq i h n<i+h.length:=by
 intro h;induction h generalizing i with
 |nil=>intro n;simp[fq];omega
 |cons a h ih=>
  intro n;cases h with
  |nil=>simp[fq];omega
  |cons b l=>
   simp only[fq];split
   ·simp;omega
   ·have:=ih (i:=i+1) (n:=n);simp at this⊢;omega
theorem NI{i k:Nat}{z:Int}:∀{h:List Int}{n:Int},h.getLastD z=z->h≠[]->fq i (h++TF k z) n=fq i h n:=by
 intro h;induction h generalizing i with
 |nil=>intro n _ h;exact absurd rfl h
 |cons a h ih=>
  intro n hz _;cases h with
  |nil=>
   simp only[Zp,List.getLastD_nil]at hz;subst hz;have:∀(k i:Nat),fq i ([a]++TF k a) n= -1:=by
    intro k;induction k with
    |zero=>intro i;simp[fq]
    |succ k ihk=>
     intro i;rw[Ws,Y1];simp only[fq];rw[if_neg (by omega)];exact ihk (i+1)
   rw[this];simp[fq]
  |cons b l=>
   have:=ih (i:=i+1) (n:=n) (by simpa using hz) (by simp);simp only[U1,fq]at this⊢;rw[this]
end Go.Gg.Tk
namespace Go.Gg.Tk
inductive dA (S:Type)where
 |go (s:S)
 |stop (s:S)
 |bad (s:S)
def bD {S α:Type}(f:S->α->dA S):List α->S->dA S
 |[],s=> .go s
 |a::l,s=>match f s a with
  |.go s'=>bD f l s'
  |r=>r
theorem qw{S α:Type}(f:S->α->dA S):∀(l m:List α)(s:S),bD f (l++m) s=match bD f l s with
  |.go s'=>bD f m s'
  |r=>r
 |[],m,s=>rfl
 |a::l,m,s=>by
  simp only[U1,bD];cases f s a with
  |go s'=>exact qw f l m s'
  |stop s'=>rfl
  |bad s'=>rfl
theorem Nh{S α:Type}(f:S->α->dA S)(a:α)(s:S):bD f [a] s=f s a:=by
 simp only[bD];cases f s a<;>rfl
theorem Dv{S α:Type}{f:S->α->dA S}{g:S->α->S}(h:∀s a,f s a=.go (g s a)):∀(l:List α)(s:S),bD f l s=.go (l.foldl g s)
 |[],s=>rfl
 |a::l,s=>by simp only[bD,h,UY];exact Dv h l _
theorem AF{S α:Type}{f:S->α->dA S}{I:S->Prop}{A:α->Prop}(h:∀s a s',I s->A a->f s a=.go s'->I s'):∀(l:List α)(s s':S),(∀a∈l,A a)->I s->bD f l s=.go s'->I s'
 |[],s,s',_,hs,e=>by cases e;exact hs
 |a::l,s,s',ha,hs,e=>by
  simp only[bD]at e;cases hf:f s a with
  |go s1=>rw[hf]at e;exact AF h l s1 s' (λb hb=>ha b (by simp[hb])) (h s a s1 hs (ha a (by simp)) hf) e
  |stop s1=>rw[hf]at e;cases e
  |bad s1=>rw[hf]at e;cases e
def cH (h:List Int):List Int:=h++TF (4-h.length) (h.getLastD 0)
def mC (x:ak)(bk:Nat):Nat->List Int->List (List Int)
 |0,pre=>if rR x (pre.length-1) (pre.getLastD 0)then[cH pre]else[]
 |d+1,pre=>if rR x (pre.length-1) (pre.getLastD 0)then(SV (x.an.toNat+1)).flatMap λn:Nat=>if pre.length=1/\n≠bk then[]else mC x bk d (pre++[pre.getLastD 0+(n:Int)])else[]
def kq (x:ak)(bk:Nat):List (List Int):=mC x bk x.hours.toNat [x.first]
def lj (h:List Int)(y:aD)(n:Nat):Bool:=decide (h.getD 0 0+n<h.getD 3 0)&&j4 y.number (h.getD 0 0+n)&&j4 y.hour (je h (h.getD 0 0+n))
def jk (p:Nat->Bool):Nat->Nat
 |0=>0
 |n+1=>if p n then jk p n|||2^n else jk p n
theorem BF{p:Nat->Bool}:∀{n i:Nat},(jk p n).testBit i=(decide (i<n)&&p i)
 |0,i=>by simp[jk]
 |n+1,i=>by
  have ih:=BF (p:=p) (n:=n) (i:=i);simp only[jk];by_cases hp:p n=true
  ·rw[if_pos hp,Xl,ih,VP];by_cases hi:n=i
   ·subst hi;simp[hp]
   ·have:(i<n+1)<->i<n:=(by omega);simp[hi,this]
  ·rw[if_neg hp,ih];by_cases hi:i=n
   ·subst hi;simp at hp;simp[hp]
   ·have:(i<n+1)<->i<n:=(by omega);simp[this]
theorem EA{p:Nat->Bool}:∀{n:Nat},jk p n<2^n
 |0=>by simp[jk]
 |n+1=>by
  have ih:=EA (p:=p) (n:=n);have h1:2^n<2^(n+1):=W9 (by omega) (by omega);simp only[jk];split
  ·exact WH (Wl ih h1) h1
  ·exact Wl ih h1
def bU (h:List Int)(y:aD):Nat:=jk (lj h y) 9
def kz:List Nat->Nat->List Nat->List (List Nat)
 |[],_,t=>[t]
 |q::qs,used,t=>(SV 9).flatMap λn=>if used.testBit n|| !q.testBit n then[]else kz qs (used|||2^n) (t++[n])
def me (k:Nat)(ns:List Nat):List Nat->Nat->List Nat->List (List Nat)
 |[],_,o=>[o]
 |q::qs,given,o=>(SV k).flatMap λp=>if given.testBit p|| !q.testBit (ns.getD p 0)then[]else me k ns qs (given|||2^p) (o++[p])
def kY (k:Nat)(l:List Nat):List Int:=l.map (λn:Nat=>(n:Int))++TF (k-l.length) (-1)
def dQ (h:List Int)(ns:List Nat):List Int:=h++kY 4 ns++[-1, -1, -1]
def dx (h:List Int)(ns os:List Nat):List Int:=h++kY 4 ns++kY 3 os
def fP (x:ak)(h:List Int):List (List Nat):=kz (x.pieces.map (bU h)) 0 []
def ij (x:ak)(h:List Int)(ns:List Nat):List (List Nat):=me x.pieces.length ns (x.aC.map (bU h)) 0 []
def jf (x:ak)(deep:Int)(h:List Int):List (List Int):=
 let all:=(fP x h).map λns=>(ij x h ns).map λos=>dx h ns os
 if deep=0 then all.flatten.take 1 else if deep=1 then(all.map (·.take 1)).flatten else all.flatten
end Go.Gg.Tk
namespace Go.Gg.Tk
structure Kn where
 has:Bool
 aK:List (List Int)
 aB:List Nat
 hours:List Nat
 less:List Nat
 aV:List Nat
 first:List Int
def Kn.zero:Kn:=⟨false,[],[0,0,0,0],[0,0,0,0],[0,0,0,0],[0,0,0],TF 11 0⟩
def oL (l:List Nat)(p n:Nat):List Nat:=l.set p (l.getD p 0|||2^n)
def jy (hs:List (List Int))(h:List Int):List (List Int):=if h∈hs then hs else hs++[h]
def mh (t:List Int)(p:Nat):Nat:=(t.getD (4+p) 0).toNat
def DM (t:List Int)(p:Nat):Nat:=(je (t.take 4) (t.getD (4+p) 0+t.getD 0 0)).toNat
def rU (t:List Int)(s:Nat):Nat:=(t.getD (8+s) 0).toNat
def jD (F:Kn)(t:List Int):Kn:=if F.has then F else{F with has:=true,first:=t}
def mI (t:List Int):Nat->List Nat->List Nat
 |0,l=>l
 |s+1,l=>oL (mI t s l) s (rU t s)
def rN (t:List Int):Nat->List Nat->List Nat
 |0,l=>l
 |p+1,l=>oL (rN t p l) p (mh t p)
def v8 (t:List Int):Nat->List Nat->List Nat
 |0,l=>l
 |p+1,l=>oL (v8 t p l) p (DM t p)
def wm (t:List Int)(p:Nat):Nat->List Nat->List Nat
 |0,l=>l
 |q+1,l=>if t.getD (4+p) 0<t.getD (4+q) 0 then oL (wm t p q l) p q else wm t p q l
def yg (t:List Int)(k:Nat):Nat->List Nat->List Nat
 |0,l=>l
 |p+1,l=>wm t p k (yg t k p l)
def ey (x:ak)(deep:Int)(F:Kn)(t:List Int):Kn:=
 let F:=jD F t
 if deep=2 then{F with aV:=mI t x.aC.length F.aV}
 else if deep=0 then{F with aK:=jy F.aK (t.take 4)}
 else{F with aB:=rN t x.pieces.length F.aB,hours:=v8 t x.pieces.length F.hours,less:=yg t x.pieces.length x.pieces.length F.less}
def gG (x:ak)(deep:Int)(bk:Nat):Kn:=((kq x bk).flatMap (jf x deep)).foldl (ey x deep) Kn.zero
def lJ (l m:List Nat):List Nat:=(List.zipWith (·|||·) l m)
end Go.Gg.Tk
namespace Go.Gg
open Go.Conc Go.Gg.Tk
theorem HQ{n:Nat}(h:n<65536):S5.wrap (n:Int)=n:=by
 have h1:S5.bits=16:=rfl;have h2:S5.signed=false:=rfl;unfold Xa;rw[h1,h2];simp;omega
theorem BJ{n:Nat}(h:n<65536):(Ui S5.bits (n:Int)).toNat=n:=by
 have h1:S5.bits=16:=rfl;rw[h1,BitVec.ofInt_natCast,BitVec.toNat_ofNat];omega
theorem aju{m n:Nat}(hm:m<65536):(S5.wrap (Ui S5.bits ((m:Int).fdiv (2^(min n S5.bits)))&&&Ui S5.bits 1).toNat==1)=m.testBit n:=by
 have h1:S5.bits=16:=rfl;have e:(m:Int).fdiv (2^(min n S5.bits))=((m/2^(min n 16):Nat):Int):=by
  rw[h1,Int.fdiv_eq_ediv_of_nonneg _ (by exact_mod_cast W2 _)];norm_cast
 have hlt:m/2^(min n 16)<65536:=Zf (Nat.div_le_self _ _) hm;rw[e,BitVec.toNat_and,BJ hlt,show (Ui S5.bits 1).toNat=1 from rfl,HQ (Zf Nat.and_le_left hlt)];have hb:m/2^(min n 16)&&&1=(m/2^(min n 16)) % 2:=Nat.and_one_is_mod _;rw[hb];have ht:m.testBit n=decide (m/2^n % 2=1):=Nat.testBit_eq_decide_div_mod_eq;by_cases hn:n<=16
 ·rw[Wv hn,ht];by_cases h:m/2^n % 2=1
  ·simp[h]
  ·have:m/2^n % 2=0:=(by omega);simp[this]
 ·rw[Nat.min_eq_right (by omega)];have h0:m/2^16=0:=Nat.div_eq_of_lt (by omega);have h2:m.testBit n=false:=Nat.testBit_lt_two_pow (Td hm (by calc 65536=2^16:=rfl
   _<=2^n:=Xm (by omega) (by omega)))
  rw[h0,h2];rfl
theorem arX{m n:Nat}(hm:m<65536)(hn:n<16):S5.wrap (Ui S5.bits (m:Int)|||Ui S5.bits (S5.wrap (1* 2^(min n S5.bits)))).toNat=((m|||2^n:Nat):Int):=by
 have h1:S5.bits=16:=rfl;have hp:2^n<65536:=by calc 2^n<2^16:=W9 (by omega) hn
  _=65536:=rfl
 have e:S5.wrap (1* 2^(min n S5.bits))=((2^n:Nat):Int):=by
  rw[h1,Wv (by omega),Int.one_mul,<- HQ hp];norm_cast
 rw[e,Zn,BJ hm,BJ hp];exact HQ (WH (n:=16) hm hp)
theorem G6{m n:Nat}(hm:m<65536)(hn:n<65536):S5.wrap (Ui S5.bits (m:Int)|||Ui S5.bits (n:Int)).toNat=((m|||n:Nat):Int):=by
 rw[Zn,BJ hm,BJ hn];exact HQ (WH (n:=16) hm hn)
theorem pw{m n:Nat}(hm:m<65536)(hn:n<65536):m|||n<65536:=WH (n:=16) hm hn
theorem wG{n:Nat}(hn:n<16):2^n<65536:=by calc 2^n<2^16:=W9 (by omega) hn
  _=65536:=rfl
abbrev wv (m:Nat):AV:=.val (.int .u16 m)
def cV {S:Type}(Gf:S->List aa)(pv:AV)(k kp:AV->List aa->Prop)(M:List aa):dA S->Prop
 |.go s=>k (.val (.bool true)) (Gf s++M)
 |.stop s=>k (.val (.bool false)) (Gf s++M)
 |.bad s=>kp pv (Gf s++M)
def fS {S:Type}(Gf:S->List aa)(pv:AV)(k kp:AV->List aa->Prop)(M:List aa):dA S->Prop
 |.go s=>k (.aN []) (Gf s++M)
 |.stop s=>k (.aN []) (Gf s++M)
 |.bad s=>kp pv (Gf s++M)
structure jC (lv:Bool)(P:SI)(yv:AV){S:Type}(f:S->List Int->dA S)(Gf:S->List aa)(N:Nat)(I:S->Prop)(A:List Int->Prop)(pv:AV):Prop where
 call:∀(σ:S)(a:List Int)(M:List aa)(k kp:AV->List aa->Prop),I σ->A a->cV Gf pv k kp M (f σ a)->iT lv P yv (Gf σ++M) [.agg (a.map λn=> .val (.int .i64 n))] k kp
 inv:∀σ a σ',I σ->A a->f σ a=.go σ'->I σ'
 len:∀σ,(Gf σ).length=N
 ok:∀m σ σ',(∀z∈Gf σ,eK m z)->∀z∈Gf σ',eK m z
 sure:yv.sure=true
 parts:yv.parts=some [yv]
 leaf:yv.leaf=true
theorem jC.get{lv:Bool}{P:SI}{yv:AV}{S:Type}{f:S->List Int->dA S}{Gf:S->List aa}{N:Nat}{I:S->Prop}{A:List Int->Prop}{pv:AV}(h:jC lv P yv f Gf N I A pv)(σ:S)(L:List aa)(i:Nat):(Gf σ++L)[N+i]?=L[i]?:=by
 rw[<- h.len σ,S9 (by omega)];congr 1;omega
theorem jC.set{lv:Bool}{P:SI}{yv:AV}{S:Type}{f:S->List Int->dA S}{Gf:S->List aa}{N:Nat}{I:S->Prop}{A:List Int->Prop}{pv:AV}(h:jC lv P yv f Gf N I A pv)(σ:S)(L:List aa)(i:Nat)(x:aa):(Gf σ++L).set (N+i) x=Gf σ++L.set i x:=by
 rw[<- h.len σ,T_ _ _ (by omega)];congr 2;omega
theorem jC.ay{lv:Bool}{P:SI}{yv:AV}{S:Type}{f:S->List Int->dA S}{Gf:S->List aa}{N:Nat}{I:S->Prop}{A:List Int->Prop}{pv:AV}(h:jC lv P yv f Gf N I A pv){σ:S}{M:List aa}(hH:bH (Gf σ++M))(σ':S):bH (Gf σ'++M):=λz hz=>by
 have hl:(Gf σ'++M).length=(Gf σ++M).length:=by simp[h.len]
 rw[hl];rcases SS.1 hz with h'|h'
 ·exact h.ok _ σ σ' (λw hw=>hH w (Tf _ hw)) z h'
 ·exact hH z (S0 _ h')
def sh (l:Nat)(S:Nat->AS)(ok:Nat->Prop)(m:Nat)(Φ:ao->AS->Prop):ao->AS->Prop
 |.goto l',s=>l'=l/\∃m',m'<m/\ok m'/\s.Sub (S m')
 |e,s=>Φ e s
section
variable {lv:Bool}{P:SI}{r:Option Nat}{s:AS}
end
theorem amy(l:Nat)(S:Nat->AS)(ok:Nat->Prop)(m:Nat)(Φ:ao->AS->Prop)(s:AS):sh l S ok m Φ .normal s=Φ .normal s:=by rw[sh];simp
theorem amA(l:Nat)(S:Nat->AS)(ok:Nat->Prop)(m:Nat)(Φ:ao->AS->Prop)(s:AS):sh l S ok m Φ .ret s=Φ .ret s:=by rw[sh];simp
theorem amx(l:Nat)(S:Nat->AS)(ok:Nat->Prop)(m:Nat)(Φ:ao->AS->Prop)(i:Nat)(s:AS):sh l S ok m Φ (.exit i) s=Φ (.exit i) s:=by rw[sh];simp
theorem amz(l:Nat)(S:Nat->AS)(ok:Nat->Prop)(m:Nat)(Φ:ao->AS->Prop)(a:AV)(s:AS):sh l S ok m Φ (.panic a) s=Φ (.panic a) s:=by rw[sh];simp
@[congr] theorem atw {l m : Nat} {S : Nat -> AS} {ok : Nat -> Prop} {s s' : AS} {Φ : ao -> AS -> Prop} {e e' : ao} (he : e = e') (h : s = s') : sh l S ok m Φ e s = sh l S ok m Φ e' s' := by rw [he, h]
attribute [seval] amy amA amx amz
open Go.Proofs
namespace Tk
def io.l (b:io):List AV:=[iv b.min,iv b.max]
def io.av (b:io):AV:=.agg b.l
def aD.l (y:aD):List AV:=[iv y.number.min,iv y.number.max,iv y.hour.min,iv y.hour.max]
def aD.av (y:aD):AV:=.agg y.l
def Seen.l (s:Seen):List AV:=[iv s.hour,iv s.next.min,iv s.next.max]
def Seen.av (s:Seen):AV:=.agg s.l
def bu (xs:List Int):AV:=.sl xs.length (xs.map iv) .shut
def yX (ls:List (List Int)):AV:=.sl ls.length (ls.map bu) .shut
def aT (xs:List aD):AV:=.sl xs.length (xs.flatMap aD.l) .shut
def dC (xs:List Seen):AV:=.sl xs.length (xs.flatMap Seen.l) .shut
def ak.l (x:ak):List AV:=[iv x.first,iv x.hours,iv x.an,dC x.seen,aT x.pieces,aT x.aC]
def ak.av (x:ak):AV:=.agg x.l
theorem aD.len(b:aD):b.l.length=4:=rfl
theorem Seen.len(b:Seen):b.l.length=3:=rfl
end Tk
section
variable {i:Nat}
theorem e_{xs:List Int}{x:Int}(h:xs[i]?=some x):AV.shift i (.rp (xs.map iv))=some (.rp (iv x::(xs.drop (i+1)).map iv)):=by have:=acx (f:=iv) h;rwa [Yb]at this
theorem acu{xs:List (List Int)}{x:List Int}(h:xs[i]?=some x):AV.shift i (.rp (xs.map bu))=some (.rp (bu x::(xs.drop (i+1)).map bu)):=by have:=acx (f:=bu) h;rwa [Yb]at this
theorem DE{xs:List aD}{x:aD}(h:xs[i]?=some x):AV.shift (i* 4) (.rp (xs.flatMap aD.l))=some (.rp (iv x.number.min::iv x.number.max::iv x.hour.min::iv x.hour.max::(xs.drop (i+1)).flatMap aD.l)):=acw aD.len h
theorem acv{xs:List Seen}{x:Seen}(h:xs[i]?=some x):AV.shift (i* 3) (.rp (xs.flatMap Seen.l))=some (.rp (iv x.hour::iv x.next.min::iv x.next.max::(xs.drop (i+1)).flatMap Seen.l)):=acw Seen.len h
end
theorem yh(n:Nat)(xs:List Int):Lt n (bu xs)=True:=by simp[bu,uT,eC]
theorem aaR(n:Nat)(xs:List (List Int)):Lt n (yX xs)=True:=by
 simp only[yX,uT,Tl,eq_iff_iff,iff_true]
 rintro a ⟨b,_,rfl⟩
 rw[yh];trivial
theorem GI(n:Nat)(xs:List aD):Lt n (aT xs)=True:=by
 simp only[aT,uT,S6,eq_iff_iff,iff_true]
 rintro a ⟨b,_,h⟩
 simp only[aD.l,SK,SZ,or_false]at h;rcases h with rfl|rfl|rfl|rfl<;>exact .val _
theorem aaS(n:Nat)(xs:List Seen):Lt n (dC xs)=True:=by
 simp only[dC,uT,S6,eq_iff_iff,iff_true]
 rintro a ⟨b,_,h⟩
 simp only[Seen.l,SK,SZ,or_false]at h;rcases h with rfl|rfl|rfl<;>exact .val _
theorem GK(n:Nat)(x:ak):∀a∈x.l,Lt n a:=by
 intro a ha;simp only[ak.l,SK,SZ,or_false]at ha;rcases ha with rfl|rfl|rfl|rfl|rfl|rfl
 ·exact .val _
 ·exact .val _
 ·exact .val _
 ·rw[aaS];trivial
 ·rw[GI];trivial
 ·rw[GI];trivial
theorem Da(n:Nat)(x:ak):Lt n x.av=True:=by simp only[ak.av,tn,eq_iff_iff,iff_true];exact GK n x
open Go.Conc Go.Proofs Go.Gg.Tk
namespace Tk
structure mm (h:List Int):Prop where
 len:h.length=4
 lo:∀a∈h,0<=a
 hi:∀a∈h,a<=1000
 span:h.getD 3 0<=h.getD 0 0+9
theorem mm.out{h:List Int}(k:mm h):∃a b c d,h=[a,b,c,d]/\(0<=a/\a<=1000)/\(0<=b/\b<=1000)/\(0<=c/\c<=1000)/\(0<=d/\d<=1000)/\d<=a+9:=by
 match h,k with
 |[a,b,c,d],k=>exact⟨a,b,c,d,rfl,⟨k.lo a (by simp),k.hi a (by simp)⟩,⟨k.lo b (by simp),k.hi b (by simp)⟩,⟨k.lo c (by simp),k.hi c (by simp)⟩,⟨k.lo d (by simp),k.hi d (by simp)⟩,by simpa using k.span⟩
theorem aiG{h:List Int}{y:aD}{n:Nat}(hn:(h.getD 3 0-h.getD 0 0).toNat<=n):lj h y n=false:=by
 unfold lj;rw[show decide (h.getD 0 0+(n:Int)<h.getD 3 0)=false from decide_eq_false (by omega)];rfl
theorem aiH{h:List Int}{y:aD}(hs:h.getD 3 0<=h.getD 0 0+9):bU h y=jk (lj h y) (h.getD 3 0-h.getD 0 0).toNat:=by
 apply Nat.eq_of_testBit_eq;intro i;unfold bU;rw[BF,BF];by_cases hi:i<(h.getD 3 0-h.getD 0 0).toNat
 ·have h9:i<9:=by omega
  rw[decide_eq_true hi,decide_eq_true h9]
 ·rw[aiG (by omega)];simp
theorem Qb(h:List Int)(y:aD):bU h y<512:=EA (n:=9)
end Tk
theorem vE{α:Type}{xs:List α}{i:Nat}{x:α}(h:xs[i]?=some x):xs.drop i=x::xs.drop (i+1):=by
 obtain⟨h1,h2⟩:=SL.1 h;rw[TQ h1,h2]
section
variable {lv:Bool}{H:List aa}{k kp:AV->List aa->Prop}
theorem Jq{b:io}{n:Int}(hk:k (bv (j4 b n)) H):bm lv SA 88 H [b.av,iv n] k kp:=by
 refine bG (rs:=[.tmp 4]) (nt:=15) Tryz.f88 λhH hA=> ?_;simp only[br,SW,io.av,io.l];refine am ?_;refine am ?_;refine xp (λh=> ?_) (λh=> ?_)
 ·(try simp only[seval]);refine bi ?_;exact lh hH (by simpa[j4,h]using hk)
 ·(try simp only[seval]);refine bi ?_;exact lh hH (by simpa[j4,h]using hk)
theorem P6{h:List Int}{n:Int}(h4:h.length=4)(hk:k (iv (je h n)) H):bm lv SA 90 H [.agg (h.map iv),iv n] k kp:=by
 refine bG (rs:=[.tmp 4]) (nt:=24) Tryz.f90 λhH hA=> ?_;simp only[br,SW];have p9:(h.map iv).length=4:=by simp[h4]
 refine am ?_;refine am ?_;refine cP ?_;refine w7 3 (λi:Nat=>[(6,iv i)]) (λ_=>_) (λi=>je h n=fq i (h.drop i) n) rfl (λcq dG i cR hi R hR=> ?_);refine am ?_;refine aF ?_;refine⟨λhc=> ?_,λhc=> ?_⟩
 ·
  have pZ:i<3:=by omega
  obtain⟨a,ha⟩:=cj (xs:=h) (i:=i) (by omega);obtain⟨b,hb⟩:=cj (xs:=h) (i:=i+1) (by omega);have e4:(0<=(i:Int)/\(i:Int)<4)=True:=by simp;omega
  have PM:(0<=(i:Int)+1/\(i:Int)+1<4)=True:=by simp;omega
  have hw:SD.wrap ((i:Int)+1)=(i:Int)+1:=bB _ (by omega);have o4:((i:Int)+1).toNat=i+1:=by omega
  have kT:fq i (h.drop i) n=if a<=n/\n<b then(i:Int)else fq (i+1) (h.drop (i+1)) n:=by
   rw[vE ha,vE hb];simp only[fq]
  refine aO ?_;refine am ?_;refine aj ?_;simp only[seval,e4,PM,hw,o4,kG ha,kG hb];refine xp (λh2=> ?_) (λh2=> ?_)
  ·(try simp only[seval,e4,PM,hw,o4,kG ha,kG hb]);refine aF ?_;refine⟨λh3=> ?_,λh3=> ?_⟩
   ·refine am ?_;refine bi ?_;rw[hi,kT,if_pos ⟨of_decide_eq_true h2,h3⟩]at hk;exact lh hH hk
   ·refine aO ?_;refine aj ?_;simp only[seval,hw];refine hR _ ⟨by omega,?_,dF⟩;rw[hi,kT,if_neg (λq=>h3 q.2)]
  ·(try simp only[seval]);refine aF ?_;refine aO ?_;refine aj ?_;simp only[seval,hw];refine hR _ ⟨by omega,?_,dF⟩;rw[hi,kT,if_neg (λq=>by simp at h2;omega)]
 ·
  have:i=3:=by omega
  subst this;refine cp ?_;refine am ?_;refine bi ?_;have hm:fq 3 (h.drop 3) n= -1:=by
   match h,h4 with
   |[a,b,c,d],_=>rfl
  rw[hi,hm]at hk;exact lh hH hk
theorem xh{m n:Nat}(hm:m<65536)(hk:k (bv (m.testBit n)) H):bm lv SA 67 H [wv m,iv n] k kp:=by
 refine bG (rs:=[.tmp 4]) (nt:=10) Tryz.f67 λhH hA=> ?_;simp only[br,SW];refine am ?_;refine aj ?_;simp only[seval,Bv,aem];refine bi ?_;refine bX ?_;rw[aju hm];exact hk
theorem ue{m n:Nat}(hm:m<65536)(hn:n<16)(hk:k (wv (m|||2^n)) H):bm lv SA 68 H [wv m,iv n] k kp:=by
 refine bG (rs:=[.tmp 4]) (nt:=9) Tryz.f68 λhH hA=> ?_;simp only[br,SW];refine am ?_;refine aj ?_;simp only[seval,aew,Bu];refine bi ?_;refine bX ?_;rw[arX hm hn];exact hk
theorem ER{h:List Int}{y:aD}(hh:mm h)(hk:k (wv (bU h y)) H):bm lv SA 65 H [.agg (h.map iv),y.av] k kp:=by
 refine bG (rs:=[.tmp 4]) (nt:=34) Tryz.f65 λhH hA=> ?_;simp only[br,SW,aD.av,aD.l];obtain⟨a,b,c,d,rfl,ha,hb,hc,hd,hs⟩:=hh.out;have oS:bU [a,b,c,d] y=jk (lj [a,b,c,d] y) (d-a).toNat:=aiH hs;have hz:wv (jk (lj [a,b,c,d] y) 0)=wv 0:=rfl;refine am ?_;refine am ?_;refine am ?_;refine cP ?_;refine iu (d-a).toNat (λi:Nat=>[(6,iv (a+i)),(5,wv (jk (lj [a,b,c,d] y) i))]) (λ_=>_) (λi=>True) (λ_ _=>rfl) (by rw[hz];simp only[seval];simp[bC,Wk.refl];exact Wk.refl _) rfl (λ_ _ _=>rfl) trivial (λcq dG i cR hi R hR=> ?_);refine am ?_;refine aF ?_;have cK:jk (lj [a,b,c,d] y) i<65536:=Td EA (UL (Xm (by omega) (show i<=16 by omega)) (by decide));refine⟨λhc=> ?_,λhc=> ?_⟩
 ·
  have hlt:i<(d-a).toNat:=by omega
  have hw:SD.wrap (a+(i:Int)+1)=a+((i+1:Nat):Int):=by rw[bB _ (by omega)];push_cast;omega
  have gF:SD.wrap (a+(i:Int)-a)=(i:Int):=by rw[bB _ (by omega)];omega
  have Fw:lj [a,b,c,d] y i=(j4 y.number (a+i)&&j4 y.hour (je [a,b,c,d] (a+i))):=by
   unfold lj;rw[show decide ([a,b,c,d].getD 0 0+(i:Int)<[a,b,c,d].getD 3 0)=true from decide_eq_true (show a+(i:Int)<d by omega),U_];rfl
  refine aO ?_;refine cP ?_;refine eM 12 ?_;simp only[seval];refine ik (bv (j4 y.number (a+i))) (c9 (Jq (b:=y.number) ⟨rfl,rfl⟩)) ?_;(try simp only[seval]);refine xp (λh2=> ?_) (λh2=> ?_)
  ·(try simp only[seval]);refine ik (iv (je [a,b,c,d] (a+i))) (c9 (P6 (h:=[a,b,c,d]) rfl ⟨rfl,rfl⟩)) ?_;(try simp only[seval]);refine ik (bv (j4 y.hour (je [a,b,c,d] (a+i)))) (c9 (Jq (b:=y.hour) ⟨rfl,rfl⟩)) ?_;(try simp only[seval]);refine aF ?_;rw[h2,U_]at Fw;refine⟨λh3=> ?_,λh3=> ?_⟩
   ·refine aj ?_;simp only[seval,gF];refine aL ((ue cK (show i<16 by omega) ?_));(try simp only[seval]);refine aj ?_;simp only[seval,hw];refine hR _ ⟨by omega,trivial,?_⟩;rw[show jk (lj [a,b,c,d] y) (i+1)=jk (lj [a,b,c,d] y) i|||2^i from by rw[jk,Fw,h3];rfl];exact dF
   ·refine aO ?_;refine aj ?_;simp only[seval,hw];refine hR _ ⟨by omega,trivial,?_⟩;rw[show jk (lj [a,b,c,d] y) (i+1)=jk (lj [a,b,c,d] y) i from by rw[jk,Fw,h3];rfl];exact dF
  ·(try simp only[seval]);refine aF ?_;refine aO ?_;refine aj ?_;simp only[seval,hw];refine hR _ ⟨by omega,trivial,?_⟩;rw[show jk (lj [a,b,c,d] y) (i+1)=jk (lj [a,b,c,d] y) i from by rw[jk,Fw,show j4 y.number (a+i)=false by simpa using h2];rfl];exact dF
 ·have:i=(d-a).toNat:=by omega
  subst this;refine cp ?_;refine am ?_;refine bi ?_;rw[oS]at hk;exact lh hH hk
end
open Go.Conc Go.Proofs Go.Gg.Tk
namespace Tk
structure qD (b:io)(hi:Int):Prop where
 min:0<=b.min
 le:b.min<=b.max
 max:b.max<=hi
structure yR (x:ak)(y:aD):Prop where
 number:qD y.number 99
 hour:qD y.hour (x.hours-1)
structure ak.Ok (x:ak):Prop where
 first:0<=x.first/\x.first<=90
 hours:1<=x.hours/\x.hours<=3
 an:1<=x.an/\x.an<=3
 tE:x.seen.length<=3
 dY:x.pieces.length<=4
 di:x.aC.length<=3
 seen:∀s∈x.seen,(0<=s.hour/\s.hour<=x.hours)/\qD s.next 99
 piece:∀y∈x.pieces,yR x y
 stub:∀y∈x.aC,yR x y
def tD (hour:Nat)(n:Int)(s:Seen):Bool:= !decide (s.hour=hour)||j4 s.next n
theorem ab5(x:ak)(hour:Nat)(n:Int):rR x hour n=x.seen.all (tD hour n):=rfl
end Tk
theorem fH{H L:List aa}{i:Nat}{x:aa}(h:H[i]?=some x):(H++L)[i]?=some x:=by rw[SX (SL.1 h).1];exact h
theorem ba(Hs L:List aa)(i:Nat):(Hs++L)[Hs.length+i]?=L[i]?:=by rw[S9 (by omega)];congr 1;omega
theorem dJ(Hs L:List aa)(i:Nat)(y:aa):(Hs++L).set (Hs.length+i) y=Hs++L.set i y:=by rw[T_ _ _ (by omega)];congr 2;omega
section
variable {lv:Bool}{H:List aa}{k kp:AV->List aa->Prop}
theorem P5{x:ak}{h:List Int}{hour ir ih:Nat}{n:Int}(hx:x.Ok)(h4:h.length=4)(hn:h[hour]?=some n)(hr:H[ir]?=some (.cells x.l 76))(hi:H[ih]?=some (.cells (h.map iv) 83))(hk:k (bv (rR x hour n)) H):bm lv SA 87 H [iv hour,.op ir 0,.op ih 0] k kp:=by
 refine bG (rs:=[.tmp 4]) (nt:=29) Tryz.f87 λhH hA=> ?_;simp only[br,SW];have oX:hour<4:=by have:=eI hn;omega
 have b4:(0<=(hour:Int)/\(hour:Int)<4)=True:=by simp;omega
 have hlen:=hx.tE;have xT:∀L:List aa,(H++L)[ir]?=some (.cells x.l 76):=λL=>fH hr;have cw:∀L:List aa,(H++L)[ih]?=some (.cells (h.map iv) 83):=λL=>fH hi;have bM:x.l=[iv x.first,iv x.hours,iv x.an,dC x.seen,aT x.pieces,aT x.aC]:=rfl;refine am ?_;refine aj ?_;simp only[seval,hr,bM,dC];refine cP ?_;refine w7 x.seen.length (λi:Nat=>[(11,iv i)]) (λ_=>H) (λi=>x.seen.all (tD hour n)=(x.seen.drop i).all (tD hour n)) rfl (λcq dG i cR hI R hR=> ?_);refine am ?_;refine aF ?_;refine⟨λhc=> ?_,λhc=> ?_⟩
 ·
  have bF:i<x.seen.length:=by omega
  obtain⟨s,hs⟩:=cj bF;have kT:x.seen.all (tD hour n)=(tD hour n s&&(x.seen.drop (i+1)).all (tD hour n)):=by rw[hI,vE hs];rfl
  have hw:SD.wrap ((i:Int)+1)=((i+1:Nat):Int):=by rw[bB _ (by omega)];rfl
  refine aO ?_;refine aj ?_;simp only[seval,acv hs,jE bF];refine eM 13 ?_;simp only[seval,cw,b4,kG hn];refine xp (λh2=> ?_) (λh2=> ?_)
  ·(try simp only[seval,cw,b4,kG hn]);refine ik (bv (j4 s.next n)) (c9 (Jq (b:=s.next) ⟨rfl,rfl⟩)) ?_;(try simp only[seval]);refine aF ?_;have hp:tD hour n s=j4 s.next n:=(by unfold tD;rw[decide_eq_true (show s.hour=(hour:Int) by simpa using h2)];rfl);rw[hp]at kT;refine⟨λh3=> ?_,λh3=> ?_⟩
   ·refine am ?_;refine bi ?_;rw[ab5,kT,h3]at hk;exact lh hH hk
   ·refine aO ?_;refine aj ?_;simp only[seval,hw];refine hR _ ⟨bF,?_,(abX cq)⟩;rw[kT,h3];rfl
  ·(try simp only[seval]);refine aF ?_;refine aO ?_;have hp:tD hour n s=true:=(by unfold tD;rw[decide_eq_false (show ¬s.hour=(hour:Int) by simpa using h2)];rfl);rw[hp]at kT;refine aj ?_;simp only[seval,hw];refine hR _ ⟨bF,?_,(abX cq)⟩;rw[kT];rfl
 ·
  have:i=x.seen.length:=by omega
  subst this;refine cp ?_;refine am ?_;refine bi ?_;rw[ab5,hI,List.drop_length]at hk;exact bX hk
end
end Go.Gg
